/- Part of the proof; the last text says what is proved. -/
import Derived.Test.YtlcojhddnpmgmaaGreatW23
set_option linter.unusedSimpArgs false
set_option linter.unusedVariables false
set_option maxRecDepth 100000
set_option maxHeartbeats 1600000
namespace Go.Proofs.YtlcojhddnpmgmaaGreat
open Go.RowKit
theorem dboot_ (o:Nat→Nat) (K n:Nat) (L:Plc) (S:St) (r:Req) (rv dv:Value) (w:World) (h:StateAt w o K L S n) (ok:StOk S) (hf:Fresh w o) (hb1:0≤S.boots∧S.boots≤1000000) (hb2:0≤S.swaps∧S.swaps≤1000000) (hb3:0≤S.clock∧S.clock≤1000000):
  Calls Tryz.prog 50 #[.pointer (some ⟨L.s,0,none⟩),.agg (r.cells rv dv)] w (Deed w o K L n (bootD S r)):=by
 obtain ⟨f0,k0,k1,H0,G0⟩:=begun h ok hf r rv dv;have F0:=lH f0;have hlt:=lt_of_block k1;have h00:o (w.heap.size+1)=0:=hf _ (Nat.le_succ _);have d0:(deedW w r rv dv).cell? ⟨w.heap.size,0,none⟩=some (.int .i64 r.c):=by rw [cell_at k0];rfl
 have c0:(deedW w r rv dv).cell? ⟨L.s,0,none⟩=some (.int .i64 S.boots):=H0.cell 0;have z0:(deedW w r rv dv).frozen? ⟨L.s,0,none⟩=false:=frozen_at H0.cs 0;obtain ⟨s0,t0⟩:=H0.set (S':={S with boots:=S.boots+1}) ok G0 0 (.int .i64 (S.boots+1)) (by simp [stC]) rfl rfl rfl rfl rfl;have ok0:StOk ({S with boots:=S.boots+1}):=⟨ok.tree,ok.file⟩
 have c1:((deedW w r rv dv).setCell ⟨L.s,0,none⟩ (.int .i64 (S.boots+1))).cell? ⟨L.s,2,none⟩=some (.int .i64 S.clock):=t0.cell 2;have z1:((deedW w r rv dv).setCell ⟨L.s,0,none⟩ (.int .i64 (S.boots+1))).frozen? ⟨L.s,2,none⟩=false:=frozen_at t0.cs 2;obtain ⟨s1,t1⟩:=t0.set (S':={S with boots:=S.boots+1,clock:=S.clock+1}) ok0 s0.fresh 2 (.int .i64 (S.clock+1)) (by simp [stC]) rfl rfl rfl rfl rfl;have ok1:StOk ({S with boots:=S.boots+1,clock:=S.clock+1}):=⟨ok.tree,ok.file⟩
 have c2:(((deedW w r rv dv).setCell ⟨L.s,0,none⟩ (.int .i64 (S.boots+1))).setCell ⟨L.s,2,none⟩ (.int .i64 (S.clock+1))).cell? ⟨L.s,7,none⟩=some (.int .i64 (S.next 4)):=t1.cell 7;have z2:(((deedW w r rv dv).setCell ⟨L.s,0,none⟩ (.int .i64 (S.boots+1))).setCell ⟨L.s,2,none⟩ (.int .i64 (S.clock+1))).frozen? ⟨L.s,7,none⟩=false:=frozen_at t1.cs 7;obtain ⟨s2,t2⟩:=t1.set (S':=bootS S) ok1 s1.fresh 7 (.int .i64 (0)) (stC_next L {S with boots:=S.boots+1,clock:=S.clock+1} 4 (by omega) 0) rfl rfl rfl rfl rfl;have ok2:StOk (bootS S):=⟨ok.tree,ok.file⟩
 have SS:Step (fun c=>c=K+8) (deedW w r rv dv) o ((((deedW w r rv dv).setCell ⟨L.s,0,none⟩ (.int .i64 (S.boots+1))).setCell ⟨L.s,2,none⟩ (.int .i64 (S.clock+1))).setCell ⟨L.s,7,none⟩ (.int .i64 (0))) o:=((s0.trans s1 (fun _ e=>e)).trans s2 (fun _ e=>e))
 have KC:=lH (SS.block k1 (by rw [h00];omega));have HR:Hid (r.c≠4→∀e w',e=.panicked (refC 17)→Fr No w w'→Deed w o K L n (bootD S r) e w'):=lH (fun hne e w' he f=>by
  unfold bootD;rw [if_neg hne];exact Deed.no h ok hf (by decide) he f)
 have HQ:Hid (r.c=4→∀e w3,e=.returned (plainV 0 0 0 0 0 false)→Fr (fun j=>j=w.heap.size+1) ((((deedW w r rv dv).setCell ⟨L.s,0,none⟩ (.int .i64 (S.boots+1))).setCell ⟨L.s,2,none⟩ (.int .i64 (S.clock+1))).setCell ⟨L.s,7,none⟩ (.int .i64 (0))) w3→Deed w o K L n (bootD S r) e w3):=lH (fun h4 e w3 he g=>by
  unfold bootD;rw [if_pos h4];exact Deed.yes hf f0 SS (fun c e=>by unfold stateC;omega) (Nat.le_succ _) hlt g ok2 t2 he (RepAt.plain _ _ _ _ _ _ _))
 generalize Deed w o K L n (bootD S r)=Q at*;have w1:IntKind.i64.wrap (S.boots+1)=S.boots+1:=by rw [IntKind.wrap_i64];omega
 have w2:IntKind.i64.wrap (S.swaps+1)=S.swaps+1:=by rw [IntKind.wrap_i64];omega
 have w3:IntKind.i64.wrap (S.clock+1)=S.clock+1:=by rw [IntKind.wrap_i64];omega
 have hbd:∀w':World,(Instr.build 29 #[]).run Tryz.prog w'=.ok (.agg #[.int .i64 0,.int .i64 0,.int .i64 0,.int .i64 0,.int .i64 0,.bool false,.slice none 0 0,.slice none 0 0]) w':=fun w'=>by kernel_rfl
 have HOC:=lH (show (#[.int .i64 0,.int .i64 0,.int .i64 0,.int .i64 0,.int .i64 0,.bool false,.slice none 0 0,.slice none 0 0]:Array Value).all (·.oneCell')=true from by simp [Value.oneCell']);clear s0 t0 ok0 s1 t1 ok1 s2 t2 ok2 SS H0 G0 k0 k1 f0 h ok hf hb1 hb2 hb3 h00 hlt;unfold deedW Req.cells noRep RepS.cells at*;go_enter Tryz.func50,Tryz.ntmps50;go_wp2_with fail;generalize (w.alloc (.cells #[.int .i64 r.c,.int .i64 r.l,.int .i64 r.q,.int .i64 r.kind,.string (ba r.path),.string (ba r.to),.bool r.dir,.bool r.wr,.bool r.cl,.int .i64 r.h,.int .i64 r.nx,.int .i64 r.sw,rv,dv] 36)).alloc (.cells #[.int .i64 0,.int .i64 0,.int .i64 0,.int .i64 0,.int .i64 0,.bool false,.slice none 0 0,.slice none 0 0] 29)=w0 at*;cases hx:(r.c==4) with
 | false=>
  have hne:r.c≠4:=by simpa using hx
  try rw [hx]
  go_wp2_with fail;refine (must_no _ _).mono ?_;rintro e w4 ⟨rfl,rfl⟩;go_wp2_with fail;exact ⟨rfl,HR.out hne _ _ rfl F0.out⟩
 | true=>
  have h4:r.c=4:=by simpa using hx
  try rw [hx]
  go_wp2_with fail;refine (must_yes _ _).mono ?_;rintro e w4 ⟨rfl,rfl⟩;go_wp2_with (refine wpList_store_row rfl 29 (.tmp 4) (.tmp 28) rfl (w.heap.size+1) #[.int .i64 0,.int .i64 0,.int .i64 0,.int .i64 0,.int .i64 0,.bool false,.slice none 0 0,.slice none 0 0] rfl rfl 29 _ KC.out Tryz.size29 rfl HOC.out ?_);have KF:=setRow_at (cs':= #[.int .i64 0,.int .i64 0,.int .i64 0,.int .i64 0,.int .i64 0,.bool false,.slice none 0 0,.slice none 0 0]) KC.out;exact bodyPost_ret (v:=plainV 0 0 0 0 0 false) (results_cell_row rfl _ _ (w.heap.size+1) 29 _ (0,0) _ rfl KF Tryz.underlying29 rfl Tryz.size29) rfl
   (HQ.out h4 _ _ rfl (Fr.setRow (S:=fun j=>j=w.heap.size+1) (Fr.refl _) (.inl rfl) _))
theorem dswap_ (o:Nat→Nat) (K n:Nat) (L:Plc) (S:St) (r:Req) (rv dv:Value) (w:World) (h:StateAt w o K L S n) (ok:StOk S) (hf:Fresh w o) (hb1:0≤S.boots∧S.boots≤1000000) (hb2:0≤S.swaps∧S.swaps≤1000000) (hb3:0≤S.clock∧S.clock≤1000000):
  Calls Tryz.prog 51 #[.pointer (some ⟨L.s,0,none⟩),.agg (r.cells rv dv)] w (Deed w o K L n (swapD S r)):=by
 obtain ⟨f0,k0,k1,H0,G0⟩:=begun h ok hf r rv dv;have F0:=lH f0;have hlt:=lt_of_block k1;have h00:o (w.heap.size+1)=0:=hf _ (Nat.le_succ _);have d0:(deedW w r rv dv).cell? ⟨w.heap.size,0,none⟩=some (.int .i64 r.c):=by rw [cell_at k0];rfl
 have c0:(deedW w r rv dv).cell? ⟨L.s,1,none⟩=some (.int .i64 S.swaps):=H0.cell 1;have z0:(deedW w r rv dv).frozen? ⟨L.s,1,none⟩=false:=frozen_at H0.cs 1;obtain ⟨s0,t0⟩:=H0.set (S':={S with swaps:=S.swaps+1}) ok G0 1 (.int .i64 (S.swaps+1)) (by simp [stC]) rfl rfl rfl rfl rfl;have ok0:StOk ({S with swaps:=S.swaps+1}):=⟨ok.tree,ok.file⟩
 have c1:((deedW w r rv dv).setCell ⟨L.s,1,none⟩ (.int .i64 (S.swaps+1))).cell? ⟨L.s,2,none⟩=some (.int .i64 S.clock):=t0.cell 2;have z1:((deedW w r rv dv).setCell ⟨L.s,1,none⟩ (.int .i64 (S.swaps+1))).frozen? ⟨L.s,2,none⟩=false:=frozen_at t0.cs 2;obtain ⟨s1,t1⟩:=t0.set (S':=swapS S) ok0 s0.fresh 2 (.int .i64 (S.clock+1)) (by simp [stC,swapS]) rfl rfl rfl rfl rfl;have ok1:StOk (swapS S):=⟨ok.tree,ok.file⟩
 have SS:Step (fun c=>c=K+8) (deedW w r rv dv) o (((deedW w r rv dv).setCell ⟨L.s,1,none⟩ (.int .i64 (S.swaps+1))).setCell ⟨L.s,2,none⟩ (.int .i64 (S.clock+1))) o:=(s0.trans s1 (fun _ e=>e))
 have KC:=lH (SS.block k1 (by rw [h00];omega));have HR:Hid (r.c≠4→∀e w',e=.panicked (refC 17)→Fr No w w'→Deed w o K L n (swapD S r) e w'):=lH (fun hne e w' he f=>by
  unfold swapD;rw [if_neg hne];exact Deed.no h ok hf (by decide) he f)
 have HQ:Hid (r.c=4→∀e w3,e=.returned (plainV 0 0 0 0 0 false)→Fr (fun j=>j=w.heap.size+1) (((deedW w r rv dv).setCell ⟨L.s,1,none⟩ (.int .i64 (S.swaps+1))).setCell ⟨L.s,2,none⟩ (.int .i64 (S.clock+1))) w3→Deed w o K L n (swapD S r) e w3):=lH (fun h4 e w3 he g=>by
  unfold swapD;rw [if_pos h4];exact Deed.yes hf f0 SS (fun c e=>by unfold stateC;omega) (Nat.le_succ _) hlt g ok1 t1 he (RepAt.plain _ _ _ _ _ _ _))
 generalize Deed w o K L n (swapD S r)=Q at*;have w1:IntKind.i64.wrap (S.boots+1)=S.boots+1:=by rw [IntKind.wrap_i64];omega
 have w2:IntKind.i64.wrap (S.swaps+1)=S.swaps+1:=by rw [IntKind.wrap_i64];omega
 have w3:IntKind.i64.wrap (S.clock+1)=S.clock+1:=by rw [IntKind.wrap_i64];omega
 have hbd:∀w':World,(Instr.build 29 #[]).run Tryz.prog w'=.ok (.agg #[.int .i64 0,.int .i64 0,.int .i64 0,.int .i64 0,.int .i64 0,.bool false,.slice none 0 0,.slice none 0 0]) w':=fun w'=>by kernel_rfl
 have HOC:=lH (show (#[.int .i64 0,.int .i64 0,.int .i64 0,.int .i64 0,.int .i64 0,.bool false,.slice none 0 0,.slice none 0 0]:Array Value).all (·.oneCell')=true from by simp [Value.oneCell']);clear s0 t0 ok0 s1 t1 ok1 SS H0 G0 k0 k1 f0 h ok hf hb1 hb2 hb3 h00 hlt;unfold deedW Req.cells noRep RepS.cells at*;go_enter Tryz.func51,Tryz.ntmps51;go_wp2_with fail;generalize (w.alloc (.cells #[.int .i64 r.c,.int .i64 r.l,.int .i64 r.q,.int .i64 r.kind,.string (ba r.path),.string (ba r.to),.bool r.dir,.bool r.wr,.bool r.cl,.int .i64 r.h,.int .i64 r.nx,.int .i64 r.sw,rv,dv] 36)).alloc (.cells #[.int .i64 0,.int .i64 0,.int .i64 0,.int .i64 0,.int .i64 0,.bool false,.slice none 0 0,.slice none 0 0] 29)=w0 at*;cases hx:(r.c==4) with
 | false=>
  have hne:r.c≠4:=by simpa using hx
  try rw [hx]
  go_wp2_with fail;refine (must_no _ _).mono ?_;rintro e w4 ⟨rfl,rfl⟩;go_wp2_with fail;exact ⟨rfl,HR.out hne _ _ rfl F0.out⟩
 | true=>
  have h4:r.c=4:=by simpa using hx
  try rw [hx]
  go_wp2_with fail;refine (must_yes _ _).mono ?_;rintro e w4 ⟨rfl,rfl⟩;go_wp2_with (refine wpList_store_row rfl 29 (.tmp 4) (.tmp 24) rfl (w.heap.size+1) #[.int .i64 0,.int .i64 0,.int .i64 0,.int .i64 0,.int .i64 0,.bool false,.slice none 0 0,.slice none 0 0] rfl rfl 29 _ KC.out Tryz.size29 rfl HOC.out ?_);have KF:=setRow_at (cs':= #[.int .i64 0,.int .i64 0,.int .i64 0,.int .i64 0,.int .i64 0,.bool false,.slice none 0 0,.slice none 0 0]) KC.out;exact bodyPost_ret (v:=plainV 0 0 0 0 0 false) (results_cell_row rfl _ _ (w.heap.size+1) 29 _ (0,0) _ rfl KF Tryz.underlying29 rfl Tryz.size29) rfl
   (HQ.out h4 _ _ rfl (Fr.setRow (S:=fun j=>j=w.heap.size+1) (Fr.refl _) (.inl rfl) _))
end Go.Proofs.YtlcojhddnpmgmaaGreat
