/- Part of the proof; the last text says what is proved. -/
import Derived.Test.YtlcojhddnpmgmaaGreatT16
import Derived.Test.YtlcojhddnpmgmaaGreatT30
import Derived.Test.YtlcojhddnpmgmaaGreatT31
import Derived.Test.YtlcojhddnpmgmaaGreatT32
import Derived.Test.YtlcojhddnpmgmaaGreatT33
import Derived.Test.YtlcojhddnpmgmaaGreatT34
set_option linter.unusedSimpArgs false
set_option linter.unusedVariables false
set_option maxRecDepth 100000
set_option maxHeartbeats 3200000
namespace Go.Proofs.YtlcojhddnpmgmaaGreat
open Go.RowKit
theorem Deed.more {w w':World} {o:Nat→Nat} {K n n':Nat} {L:Plc} {x:Int×RepS×St} {e:Ending} (h:Deed w o K L n x e w') (hn:n≤n'):Deed w o K L n' x e w':=by
 obtain ⟨⟨o',s,t⟩,he⟩:=h;exact ⟨⟨o',s,t.more hn⟩,he⟩
def deedF (r:Req) (st:List Sz) (dl:List Dl) (k:Int) (S:St):Int×RepS×St:=
 if k=1 then makeD S r else if k=2 then removeD S r else if k=3 then moveD S r else if k=4 then lookD S r else if k=5 then listD S r else if k=6 then openD S r else if k=7 then commitD S r st dl else mapD S r
structure Small (r:Req) (st:List Sz) (dl:List Dl):Prop where
 path:r.path.length≤300
 dest:r.to.length≤300
 few:st.length≤60
 some_:dl.length≤100
 good:∀x∈st,stpGood x.1
theorem fine_all {S:St} {q:Nat} (h:StInv S q) (r:Req) (st:List Sz) (dl:List Dl) (k:Int) (hc:0≤r.c∧r.c<4):Fine (q+1) (deedF r st dl k S):=by
 have h':=h.more (Nat.le_succ q);unfold deedF;split
 ·exact fine_make h' r
 ·split
  ·exact fine_remove h' r
  ·split
   ·exact fine_move h' r
   ·split
    ·exact fine_look h' r
    ·split
     ·exact fine_list h' r
     ·split
      ·exact fine_open h r hc
      ·split
       ·exact fine_commit h' r st dl
       ·exact fine_map h' r
theorem win_all (S:St) (r:Req) (st:List Sz) (dl:List Dl) (k:Int):(deedF r st dl k S).2.2.W=S.W:=by
 unfold deedF;split
 ·unfold makeD makeS;split<;>rfl
 ·split
  ·unfold removeD removeS;split
   ·rfl
   ·split
    ·rfl
    ·split
     ·rfl
     ·dsimp only;split<;>rfl
  ·split
   ·unfold moveD;split<;>rfl
   ·split
    ·unfold lookD;split<;>rfl
    ·split
     ·unfold listD;split<;>rfl
     ·split
      ·unfold openD;split
       ·rfl
       ·split
        ·rfl
        ·split<;>rfl
      ·split
       ·unfold commitD;split
        ·rfl
        ·split
         ·rfl
         ·split
          ·rfl
          ·split
           ·rfl
           ·rfl
       ·unfold mapD;split<;>rfl
theorem deed_all (o:Nat→Nat) (K n q:Nat) (L:Plc) (S:St) (r:Req) (rv dv:Value) (st:List Sz) (dl:List Dl) (k:Int) (w:World) (hk:1≤k∧k≤8) (h:StateAt w o K L S n) (inv:StInv S q) (hf:Fresh w o) (hr:RowsAt szC 4 w o rv st) (hd:RowsAt dlC 14 w o dv dl) (sm:Small r st dl) (hc:0≤r.c∧r.c<4) (hq:q≤100000) (hn:n≤500000):
  Calls Tryz.prog (81+k.toNat) #[.pointer (some ⟨L.s,0,none⟩),.agg (r.cells rv dv)] w (Deed w o K L (n+100) (deedF r st dl k S)):=by
 have p1:=sm.path;have p2:=sm.dest;have p3:=sm.few;have p4:=sm.some_;have fit:=inv.fits (by omega);have hk':k=1∨k=2∨k=3∨k=4∨k=5∨k=6∨k=7∨k=8:=by omega
 rcases hk' with rfl|rfl|rfl|rfl|rfl|rfl|rfl|rfl
 ·exact (dmake_ o K n L S r rv dv w h inv.ok hf (by omega) (by omega)).mono (fun e w' x=>x.more (by omega))
 ·exact (dremove_ o K n L S r rv dv w h inv.ok inv.pts hf (by omega) (by omega)).mono (fun e w' x=>x.more (by omega))
 ·exact (dmove_ o K n L S r rv dv w h inv.ok hf (by omega) (by omega)).mono (fun e w' x=>x.more (by omega))
 ·exact (dlook_ o K n L S r rv dv w h inv.ok hf (by omega)).mono (fun e w' x=>x.more (by omega))
 ·exact (dlist_ o K n L S r rv dv w h inv.ok hf (by omega)).mono (fun e w' x=>x.more (by omega))
 ·exact (dopen_ o K n L S r rv dv w h inv.ok fit hf (by omega) hc).mono (fun e w' x=>x.more (by omega))
 ·exact (dcommit_ o K n L S r rv dv st dl w h inv.ok fit inv.pts hf hr hd sm.good hc (by omega) (by omega) (by omega)).mono (fun e w' x=>x.more (by omega))
 ·exact (dmap_ o K n L S r rv dv w h inv.ok fit hf).mono (fun e w' x=>x.more (by omega))
theorem tried_all (o:Nat→Nat) (K n q:Nat) (L:Plc) (S:St) (r:Req) (rv dv:Value) (st:List Sz) (dl:List Dl) (k:Int) (w:World) (hk:1≤k∧k≤8) (h:StateAt w o K L S n) (inv:StInv S q) (hf:Fresh w o) (hr:RowsAt szC 4 w o rv st) (hd:RowsAt dlC 14 w o dv dl) (sm:Small r st dl) (hc:0≤r.c∧r.c<4) (hq:q≤100000) (hn:n≤500000):
  Calls Tryz.prog 49 #[.pointer (some ⟨L.s,0,none⟩),deedV k,.agg (r.cells rv dv)] w (Tried w o K L (n+100) (triedOf (deedF r st dl k S))):=by
 obtain ⟨f0,_,_,H0,G0⟩:=begun h inv.ok hf r rv dv;have hD:=deed_all o K n q L S r rv dv st dl k _ hk H0 inv G0 (hr.no hf f0) (hd.no hf f0) sm hc hq hn;have ok':=(fine_all inv r st dl k hc).inv.ok;have hv:deedV k=.func (Fn.func (81+k.toNat)) #[] #[]:=if_pos hk;rw [hv];generalize deedF r st dl k S=x at*;have hk':k=1∨k=2∨k=3∨k=4∨k=5∨k=6∨k=7∨k=8:=by omega
 rcases hk' with rfl|rfl|rfl|rfl|rfl|rfl|rfl|rfl
 ·exact gtried_ 82 (by simp) o K _ L x r rv dv w hf ok' hD
 ·exact gtried_ 83 (by simp) o K _ L x r rv dv w hf ok' hD
 ·exact gtried_ 84 (by simp) o K _ L x r rv dv w hf ok' hD
 ·exact gtried_ 85 (by simp) o K _ L x r rv dv w hf ok' hD
 ·exact gtried_ 86 (by simp) o K _ L x r rv dv w hf ok' hD
 ·exact gtried_ 87 (by simp) o K _ L x r rv dv w hf ok' hD
 ·exact gtried_ 88 (by simp) o K _ L x r rv dv w hf ok' hD
 ·exact gtried_ 89 (by simp) o K _ L x r rv dv w hf ok' hD
def tell (x:RepS×St):RepS×St:=(withSw x.1 x.2.swaps,x.2)
def Did (S:St) (r:Req) (st:List Sz) (dl:List Dl) (x:RepS×St):Prop:=
 if r.kind=10 then x=tell (triedOf (bootD S r)) else if r.kind=11 then x=tell (triedOf (swapD S r)) else if r.kind=9 then x=tell (triedOf (movedD S r st dl))
 else if ¬(1≤r.kind∧r.kind≤8) then x=tell (plainRep 1 0 0 0 0 false,S)
 else if (askOf S.W r.c r.l r.q).1=1 then x.2=S∧(askOf S.W r.c r.l r.q).2=some x.1.bytes∧x.1.ok
 else if (askOf S.W r.c r.l r.q).1=2 then x=tell (plainRep 17 0 0 0 0 false,S)
 else x=tell (askedS (triedOf (deedF r st dl r.kind (askB S r.c.toNat (askOf S.W r.c r.l r.q).1))) r.c.toNat r)
theorem ask_cases (W:Nat→Option WRow) (c l s:Int):(askOf W c l s=(2,none))∨(0≤c∧c<4)∧(askOf W c l s=(3,none)∨askOf W c l s=(2,none)∨askOf W c l s=(0,none)∨∃y,W c.toNat=some y∧askOf W c l s=(1,some y.2.2)):=by
 unfold askOf;split
 ·rename_i h
  refine .inr ⟨⟨h.1,h.2.1⟩,?_⟩;cases hW:W c.toNat with
  | none=>exact .inl rfl
  | some y=>
   obtain ⟨life,seq,bs⟩:=y;dsimp only;unfold kindOf;split
   ·exact .inr (.inl (by simp))
   ·split
    ·exact .inl (by simp)
    ·split
     ·exact .inr (.inr (.inr ⟨(life,seq,bs),rfl,by simp⟩))
     ·exact .inr (.inr (.inl (by simp)))
 ·exact .inl rfl
theorem StInv.askB {S:St} {q:Nat} (h:StInv S q) (c:Nat) (kind:Int):StInv (askB S c kind) (q+1):=by
 have h':=h.more (Nat.le_succ q);have hcl:=h.clock;unfold Go.Proofs.YtlcojhddnpmgmaaGreat.askB;split
 ·refine ⟨⟨h.ok.tree,h.ok.file⟩,h.pts,h.dir,fun x hx=>h.tok x (List.mem_filter.1 hx).1,fun x hx=>h.small x (List.mem_filter.1 hx).1,Nat.le_trans (List.length_filter_le _ _) h'.few,h'.boots,h'.swaps,?_,h.win⟩;dsimp only;omega
 ·refine ⟨⟨h.ok.tree,h.ok.file⟩,h.pts,h.dir,h.tok,h.small,h'.few,h'.boots,h'.swaps,?_,h.win⟩;dsimp only;omega
theorem tried_rep {x:Int×RepS×St} {q:Nat} (h:Fine q x) {s:Int} (hs:0≤s∧s<16777216):(withSw (triedOf x).1 s).ok∧0≤(withSw (triedOf x).1 s).e∧(withSw (triedOf x).1 s).e≤18:=by
 unfold triedOf;split
 ·rename_i h0
  obtain ⟨h1,h2⟩:=h.rep h0;exact ⟨h2 s hs,by unfold withSw;dsimp only;omega,by unfold withSw;dsimp only;omega⟩
 ·have hc:=h.code;exact ⟨plain_ok (e:=x.1) (i:=0) (z:=0) (h:=0) (by omega) (by omega) (by omega) (by omega) hs,by unfold withSw plainRep;dsimp only;omega,by unfold withSw plainRep;dsimp only;omega⟩
theorem asked_inv {x:Int×RepS×St} {q:Nat} (h:Fine q x) (hq:q≤1000000) (c:Nat) (r:Req):StInv (askedS (triedOf x) c r).2 q:=by
 have hi:=h.inv;rw [← triedOf_st] at hi;have hs:=hi.swaps;obtain ⟨h1,h2,h3⟩:=tried_rep h (s:=(triedOf x).2.swaps) (by omega);unfold askedS;refine ⟨⟨hi.ok.tree,hi.ok.file⟩,hi.pts,hi.dir,hi.tok,hi.small,hi.few,hi.boots,hi.swaps,hi.clock,fun i y hy=> ?_⟩;dsimp only at hy;unfold upd at hy;split at hy
 ·cases hy;exact ⟨_,h1,h2,h3,rfl⟩
 ·exact hi.win i y hy
theorem StInv.winlen {S:St} {q:Nat} (h:StInv S q):∀i life seq bs,S.W i=some (life,seq,bs)→bs.length≤1000000:=fun i life seq bs hb=>by
 obtain ⟨rep,h1,_,_,h4⟩:=h.win i _ hb;have:=h1.len;dsimp only at h4;rw [h4];omega
theorem gasked_old (o:Nat→Nat) (K n:Nat) (L:Plc) (S:St) (r:Req) (rv dv fv:Value) (w:World) (h:StateAt w o K L S n) (ok:StOk S) (hf:Fresh w o):
  Calls Tryz.prog 55 #[.pointer (some ⟨L.s,0,none⟩),fv,.agg (r.cells rv dv),.int .i64 2] w (ToldC (fun _=>False) w o K L n (plainRep 17 0 0 0 0 false,S)):=by
 obtain ⟨f0,k0,k1,H0,G0⟩:=begun h ok hf r rv dv;have hlt:=lt_of_block k1;have HQ:Hid (∀w3,Fr (fun j=>j=w.heap.size+1) (deedW w r rv dv) w3→ToldC (fun _=>False) w o K L n (plainRep 17 0 0 0 0 false,S) (.returned (plainV 17 0 0 0 0 false)) w3):=lH (fun w3 g=>by
  obtain ⟨a,b⟩:=last_ hf f0 (Step.refl (C:=fun _=>False) G0) (Nat.le_succ _) hlt g;exact ⟨⟨o,a,H0.step ok b (fun c h e=>by unfold stateC at h;omega)⟩,.slice none 0 0,.slice none 0 0,rfl,rfl,rfl,rp_nil _⟩)
 generalize ToldC (fun _=>False) w o K L n (plainRep 17 0 0 0 0 false,S)=Q at*;have K1:=lH k1;have hbd:∀w':World,(Instr.build 29 #[(0,.int .i64 17)]).run Tryz.prog w'=.ok (.agg #[.int .i64 17,.int .i64 0,.int .i64 0,.int .i64 0,.int .i64 0,.bool false,.slice none 0 0,.slice none 0 0]) w':=fun w'=>by kernel_rfl
 have HOC:=lH (show (#[.int .i64 17,.int .i64 0,.int .i64 0,.int .i64 0,.int .i64 0,.bool false,.slice none 0 0,.slice none 0 0]:Array Value).all (·.oneCell')=true from by simp [Value.oneCell']);clear f0 k0 k1 H0 G0 h ok hf hlt;unfold deedW Req.cells noRep RepS.cells at*;go_enter Tryz.func55,Tryz.ntmps55;go_upto_region 1 with fail
 generalize (w.alloc (.cells #[.int .i64 r.c,.int .i64 r.l,.int .i64 r.q,.int .i64 r.kind,.string (ba r.path),.string (ba r.to),.bool r.dir,.bool r.wr,.bool r.cl,.int .i64 r.h,.int .i64 r.nx,.int .i64 r.sw,rv,dv] 36)).alloc (.cells #[.int .i64 0,.int .i64 0,.int .i64 0,.int .i64 0,.int .i64 0,.bool false,.slice none 0 0,.slice none 0 0] 29)=w0 at*;go_wp2_with (refine wpList_store_row rfl 29 (.tmp 8) (.tmp 14) rfl (w.heap.size+1) #[.int .i64 17,.int .i64 0,.int .i64 0,.int .i64 0,.int .i64 0,.bool false,.slice none 0 0,.slice none 0 0] rfl rfl 29 _ K1.out Tryz.size29 rfl HOC.out ?_);have KF:=setRow_at (cs':= #[.int .i64 17,.int .i64 0,.int .i64 0,.int .i64 0,.int .i64 0,.bool false,.slice none 0 0,.slice none 0 0]) K1.out;exact bodyPost_ret (v:=plainV 17 0 0 0 0 false) (results_cell_row rfl _ _ (w.heap.size+1) 29 _ (0,0) _ rfl KF Tryz.underlying29 rfl Tryz.size29) rfl
  (HQ.out _ (Fr.setRow (S:=fun j=>j=w.heap.size+1) (Fr.refl _) (.inl rfl) _))
theorem Told.after {w w1 w':World} {o o1:Nat→Nat} {K n:Nat} {L:Plc} {x:RepS×St} {e:Ending} (s:Step (stateC K) w o w1 o1) (h:Told w1 o1 K L n x e w'):Told w o K L n x e w':=by
 obtain ⟨⟨o2,s2,t2⟩,h2⟩:=h;exact ⟨⟨o2,s.trans s2 (fun _ e=>e),t2⟩,h2⟩
theorem Told.more {w w':World} {o:Nat→Nat} {K n n':Nat} {L:Plc} {x:RepS×St} {e:Ending} (h:Told w o K L n x e w') (hn:n≤n'):Told w o K L n' x e w':=by
 obtain ⟨⟨o2,s2,t2⟩,h2⟩:=h;exact ⟨⟨o2,s2,t2.more hn⟩,h2⟩
def ApplyPost2 (w:World) (o:Nat→Nat) (K n q:Nat) (L:Plc) (S:St) (r:Req) (st:List Sz) (dl:List Dl) (e:Ending) (w':World):Prop:=
 ∃x,Did S r st dl x∧StInv x.2 (q+2)∧Told w o K L (n+100) x e w'
theorem gapply_ (o:Nat→Nat) (K n q:Nat) (L:Plc) (S:St) (r:Req) (rv dv:Value) (st:List Sz) (dl:List Dl) (w:World) (h:StateAt w o K L S n) (inv:StInv S q) (hf:Fresh w o) (hr:RowsAt szC 4 w o rv st) (hd:RowsAt dlC 14 w o dv dl) (sm:Small r st dl) (hq:q≤90000) (hn:n≤400000):
  Calls Tryz.prog 15 #[.pointer (some ⟨L.s,0,none⟩),.agg (r.cells rv dv)] w (ApplyPost2 w o K n q L S r st dl):=by
 have ok:=inv.ok;have p3:=sm.few;have p4:=sm.some_;have nos:¬stateC K 0:=by unfold stateC;omega
 have hcl:=inv.clock;have hbo:=inv.boots;have hsw:=inv.swaps;by_cases h10:r.kind=10
 ·have hF:=fine_boot inv r;refine (gap50_ o K n n L S r rv dv w (triedOf (bootD S r)) h ok hf h10 (by rw [triedOf_st];exact hF.inv.ok) (fun w1 f=> ?_)).mono (fun e w' t=>⟨tell (triedOf (bootD S r)),by unfold Did;rw [if_pos h10],?_,t.more (by omega)⟩)
  ·have hf1:Fresh w1 o:=(Step.no (C:=fun _=>False) hf f).fresh;obtain ⟨f0,_,_,H0,G0⟩:=begun (h.no ok hf f) ok hf1 r rv dv;exact gtried_ 50 (by simp) o K n L _ r rv dv w1 hf1 hF.inv.ok (dboot_ o K n L S r rv dv _ H0 ok G0 (by omega) (by omega) (by omega))
  ·show StInv (triedOf (bootD S r)).2 (q+2);rw [triedOf_st];exact hF.inv.more (by omega)
 by_cases h11:r.kind=11
 ·have hF:=fine_swap inv r;refine (gap51_ o K n n L S r rv dv w (triedOf (swapD S r)) h ok hf h11 (by rw [triedOf_st];exact hF.inv.ok) (fun w1 f=> ?_)).mono (fun e w' t=>⟨tell (triedOf (swapD S r)),by unfold Did;rw [if_neg h10,if_pos h11],?_,t.more (by omega)⟩)
  ·have hf1:Fresh w1 o:=(Step.no (C:=fun _=>False) hf f).fresh;obtain ⟨f0,_,_,H0,G0⟩:=begun (h.no ok hf f) ok hf1 r rv dv;exact gtried_ 51 (by simp) o K n L _ r rv dv w1 hf1 hF.inv.ok (dswap_ o K n L S r rv dv _ H0 ok G0 (by omega) (by omega) (by omega))
  ·show StInv (triedOf (swapD S r)).2 (q+2);rw [triedOf_st];exact hF.inv.more (by omega)
 by_cases h9:r.kind=9
 ·have hF:=fine_moved inv r st dl;refine (gap52_ o K n (n+st.length) L S r rv dv w (triedOf (movedD S r st dl)) h ok hf h9 (by rw [triedOf_st];exact hF.inv.ok) (fun w1 f=> ?_)).mono (fun e w' t=>⟨tell (triedOf (movedD S r st dl)),by unfold Did;rw [if_neg h10,if_neg h11,if_pos h9],?_,t.more (by omega)⟩)
  ·have hf1:Fresh w1 o:=(Step.no (C:=fun _=>False) hf f).fresh;obtain ⟨f0,_,_,H0,G0⟩:=begun (h.no ok hf f) ok hf1 r rv dv;exact gtried_ 52 (by simp) o K _ L _ r rv dv w1 hf1 hF.inv.ok (dmoved_ o K n L S r rv dv st dl _ H0 ok inv.pts G0 ((hr.no hf f).no hf1 f0) ((hd.no hf f).no hf1 f0) sm.good (by omega) (by omega) (by omega) (by omega))
  ·show StInv (triedOf (movedD S r st dl)).2 (q+2);rw [triedOf_st];exact hF.inv.more (by omega)
 by_cases hk:1≤r.kind∧r.kind≤8
 ·rcases ask_cases S.W r.c r.l r.q with ha|⟨hc,ha⟩
  ·refine (gap_ask o K n n L S r rv dv w (plainRep 17 0 0 0 0 false,S) 2 (fun _=>False) (fun _ e=>e.elim) h ok hf hk inv.winlen ha (by decide) ok (fun w1 f=> ?_)).mono (fun e w' t=>⟨_,?_,inv.more (by omega),Told.more (t.lift (fun _ e=>e.elim)) (by omega)⟩)
   ·exact gasked_old o K n L S r rv dv _ w1 (h.no ok hf f) ok (Step.no (C:=fun _=>False) hf f).fresh
   ·unfold Did;rw [if_neg h10,if_neg h11,if_neg h9,if_neg (fun hq=>hq hk),ha,if_neg (by decide),if_pos rfl];rfl
  ·have hres:∀kd,(kd=0∨kd=3)→askOf S.W r.c r.l r.q=(kd,none)→Calls Tryz.prog 15 #[.pointer (some ⟨L.s,0,none⟩),.agg (r.cells rv dv)] w (ApplyPost2 w o K n q L S r st dl):=fun kd hkd ha=>by
    have hne1:kd≠1:=(by omega)
    have hne2:kd≠2:=(by omega)
    have inv1:=inv.askB r.c.toNat kd;have hF:=fine_all inv1 r st dl r.kind hc;have hW:=win_all (Go.Proofs.YtlcojhddnpmgmaaGreat.askB S r.c.toNat kd) r st dl r.kind;have hWB:(Go.Proofs.YtlcojhddnpmgmaaGreat.askB S r.c.toNat kd).W=S.W:=(by unfold Go.Proofs.YtlcojhddnpmgmaaGreat.askB;split<;>rfl)
    have hsx:=hF.inv.swaps;have hinv:=asked_inv hF (by omega) r.c.toNat r;refine (gap_ask o K n (n+100) L S r rv dv w (askedS (triedOf (deedF r st dl r.kind (Go.Proofs.YtlcojhddnpmgmaaGreat.askB S r.c.toNat kd))) r.c.toNat r) kd (stateC K) (fun _ e=>e) h ok hf hk inv.winlen ha (by simpa using hne1) hinv.ok (fun w1 f=> ?_)).mono (fun e w' t=>⟨_,?_,hinv.more (by omega),t⟩)
    ·have hf1:Fresh w1 o:=(Step.no (C:=fun _=>False) hf f).fresh;refine gasked_ o K n (n+100) L S r rv dv (deedV r.kind) kd w1 _ (h.no ok hf f) ok hf1 hc hkd (by omega) (by rw [ha]) inv.winlen ?_ ?_ ?_ (fun w2 o2 s t=> ?_)
     ·rw [triedOf_st,hW,hWB]
     ·rw [triedOf_st];exact hF.inv.ok
     ·exact (tried_rep hF (by rw [triedOf_st];omega)).1
     ·exact tried_all o2 K n (q+1) L _ r rv dv st dl r.kind w2 hk t inv1 s.fresh ((hr.no hf f).step s nos) ((hd.no hf f).step s nos) sm hc (by omega) (by omega)
    ·unfold Did;rw [if_neg h10,if_neg h11,if_neg h9,if_neg (fun hq=>hq hk),ha,if_neg hne1,if_neg hne2];rfl
   rcases ha with ha|ha|ha|⟨y,hy,ha⟩
   ·exact hres 3 (.inr rfl) ha
   ·refine (gap_ask o K n n L S r rv dv w (plainRep 17 0 0 0 0 false,S) 2 (fun _=>False) (fun _ e=>e.elim) h ok hf hk inv.winlen ha (by decide) ok (fun w1 f=> ?_)).mono (fun e w' t=>⟨_,?_,inv.more (by omega),Told.more (t.lift (fun _ e=>e.elim)) (by omega)⟩)
    ·exact gasked_old o K n L S r rv dv _ w1 (h.no ok hf f) ok (Step.no (C:=fun _=>False) hf f).fresh
    ·unfold Did;rw [if_neg h10,if_neg h11,if_neg h9,if_neg (fun hq=>hq hk),ha,if_neg (by decide),if_pos rfl];rfl
   ·exact hres 0 (.inl rfl) ha
   ·obtain ⟨rep,g1,g2,g3,g4⟩:=inv.win _ y hy;rw [g4] at ha;refine (gap_again o K n n L S r rv dv w rep h ok hf hk inv.winlen ha g1 g3 rfl).mono (fun e w' t=>⟨(rep,S),?_,inv.more (by omega),Told.more (t.lift (fun _ e=>e.elim)) (by omega)⟩);unfold Did;rw [if_neg h10,if_neg h11,if_neg h9,if_neg (fun hq=>hq hk),ha,if_pos rfl];exact ⟨rfl,rfl,g1⟩
 ·refine (gap_none o K n n L S r rv dv w h ok hf hk (by simpa using h9) (by simpa using h10) (by simpa using h11) rfl).mono (fun e w' t=>⟨tell (plainRep 1 0 0 0 0 false,S),?_,inv.more (by omega),Told.more (t.lift (fun _ e=>e.elim)) (by omega)⟩);unfold Did;rw [if_neg h10,if_neg h11,if_neg h9,if_pos hk]
def Quiet (S:St) (r:Req):Prop:=(¬(1≤r.kind∧r.kind≤8)∧r.kind≠9∧r.kind≠10∧r.kind≠11)∨(1≤r.kind∧r.kind≤8)∧((askOf S.W r.c r.l r.q).1=1∨(askOf S.W r.c r.l r.q).1=2)
def QuietPost (w:World) (o:Nat→Nat) (K n:Nat) (L:Plc) (S:St) (r:Req) (st:List Sz) (dl:List Dl) (e:Ending) (w':World):Prop:=
 ∃x,Did S r st dl x∧x.2=S∧ToldC (fun _=>False) w o K L n x e w'
theorem gquiet_ (o:Nat→Nat) (K n q:Nat) (L:Plc) (S:St) (r:Req) (rv dv:Value) (st:List Sz) (dl:List Dl) (w:World) (h:StateAt w o K L S n) (inv:StInv S q) (hf:Fresh w o) (hqt:Quiet S r):
  Calls Tryz.prog 15 #[.pointer (some ⟨L.s,0,none⟩),.agg (r.cells rv dv)] w (QuietPost w o K n L S r st dl):=by
 have ok:=inv.ok;rcases hqt with ⟨hk,h9,h10,h11⟩|⟨hk,hq⟩
 ·refine (gap_none o K n n L S r rv dv w h ok hf hk (by simpa using h9) (by simpa using h10) (by simpa using h11) rfl).mono (fun e w' t=>⟨tell (plainRep 1 0 0 0 0 false,S),?_,rfl,t⟩);unfold Did;rw [if_neg h10,if_neg h11,if_neg h9,if_pos hk]
 ·have h9:r.kind≠9:=by omega
  have h10:r.kind≠10:=by omega
  have h11:r.kind≠11:=by omega
  have hold:askOf S.W r.c r.l r.q=(2,none)→Calls Tryz.prog 15 #[.pointer (some ⟨L.s,0,none⟩),.agg (r.cells rv dv)] w (QuietPost w o K n L S r st dl):=fun ha=>by
   refine (gap_ask o K n n L S r rv dv w (plainRep 17 0 0 0 0 false,S) 2 (fun _=>False) (fun _ e=>e.elim) h ok hf hk inv.winlen ha (by decide) ok (fun w1 f=> ?_)).mono (fun e w' t=>⟨_,?_,rfl,t⟩)
   ·exact gasked_old o K n L S r rv dv _ w1 (h.no ok hf f) ok (Step.no (C:=fun _=>False) hf f).fresh
   ·unfold Did;rw [if_neg h10,if_neg h11,if_neg h9,if_neg (fun hq=>hq hk),ha,if_neg (by decide),if_pos rfl];rfl
  rcases ask_cases S.W r.c r.l r.q with ha|⟨hc,ha|ha|ha|⟨y,hy,ha⟩⟩
  ·exact hold ha
  ·rw [ha] at hq;rcases hq with hq|hq<;>exact absurd hq (by decide)
  ·exact hold ha
  ·rw [ha] at hq;rcases hq with hq|hq<;>exact absurd hq (by decide)
  ·obtain ⟨rep,g1,g2,g3,g4⟩:=inv.win _ y hy;rw [g4] at ha;refine (gap_again o K n n L S r rv dv w rep h ok hf hk inv.winlen ha g1 g3 rfl).mono (fun e w' t=>⟨(rep,S),?_,rfl,t⟩);unfold Did;rw [if_neg h10,if_neg h11,if_neg h9,if_neg (fun hq=>hq hk),ha,if_pos rfl];exact ⟨rfl,rfl,g1⟩
def rootT:Tree:=fun k=>if k=1 then some ⟨0, [],true⟩ else none
def S0:St:=⟨0,0,0,fun _=>0,fun _=>none,rootT, [],fun _=>none,fun _=>none⟩
theorem rootT_some {k:Nat} {x:Node} (h:rootT k=some x):k=1∧x=⟨0, [],true⟩:=by
 unfold rootT at h;split at h
 ·rename_i e
  cases h;exact ⟨e,rfl⟩
 ·cases h
theorem rootT_ok:TreeOk rootT where
 root:=rfl
 zero:=rfl
 top:=fun k hk=>by unfold rootT;rw [if_neg (by omega)]
 up:=fun k x h hk=>absurd (rootT_some h).1 hk
 name:=fun k x h hk=>absurd (rootT_some h).1 hk
 one:=fun j k x y hj hk _ _=>by rw [(rootT_some hj).1,(rootT_some hk).1]
theorem rootT_things:things rootT=1:=by decide
theorem rootT_kidN:kidN rootT 1=0:=by decide
theorem rootT_kid (s:List UInt8):kid rootT 1 s=none:=by
 cases h:kid rootT 1 s with
 | none=>rfl
 | some k=>
  obtain ⟨x,h1,h2,_⟩:=kid_some h;rw [(rootT_some h1).2] at h2;cases h2
theorem S0_inv:StInv S0 0 where
 ok:=⟨rootT_ok,fun i m h=>by cases h⟩
 pts:=fun i m h=>by cases h
 dir:=fun k x h hd=>by
  have:=(rootT_some h).2;rw [this] at hd;cases hd
 tok:=fun x hx=>by cases hx
 small:=fun x hx=>by cases hx
 few:=Nat.le_refl _
 boots:=⟨Int.le_refl _,Int.le_refl _⟩
 swaps:=⟨Int.le_refl _,Int.le_refl _⟩
 clock:=⟨Int.le_refl _,Int.le_refl _⟩
 win:=fun i y h=>by cases h
def TreePost (w:World) (e:Ending) (w':World):Prop:=
 ∃tr th root rin:Nat,e=.returned (.pointer (some ⟨tr,0,none⟩))∧Fr No w w'∧w.heap.size≤th∧th<rin∧rin<root∧root<tr∧
  w'.heap[tr]? =some (.cells #[.map (some th)] 132 (0,0))∧MapAt encI w' th 1 (fun z=>if z=1 then some root else none)∧
  w'.heap[root]? =some (.cells #[.int .i64 0,.string ⟨#[]⟩,.bool true,.map (some rin)] 141 (0,0))∧MapAt encS w' rin 0 (fun _=>none)
theorem gtree_new (w:World):Calls Tryz.prog 45 #[] w (TreePost w):=by
 have hmm:= @run_makeMap Tryz.prog;go_enter Tryz.func45,Tryz.ntmps45;go_wp2_with fail;refine (directory_ _ _ _).mono ?_;rintro e w1 ⟨rfl,rfl⟩;have m0:=MapAt.made encI w;have F1:Fr No (w.alloc (.map #[] 0)) (((w.alloc (.map #[] 0)).alloc (.map #[] 0)).alloc (.cells #[.int .i64 0,.string ⟨#[]⟩,.bool true,.map (some (w.heap.size+1))] 141)):=((Fr.refl _).alloc _).alloc _;have m1:=MapAt.made encS (w.alloc (.map #[] 0));rw [show (w.alloc (.map #[] 0)).heap.size=w.heap.size+1 by simp] at m1;have F2:Fr No ((w.alloc (.map #[] 0)).alloc (.map #[] 0)) (((w.alloc (.map #[] 0)).alloc (.map #[] 0)).alloc (.cells #[.int .i64 0,.string ⟨#[]⟩,.bool true,.map (some (w.heap.size+1))] 141)):=(Fr.refl _).alloc _;have k2:(((w.alloc (.map #[] 0)).alloc (.map #[] 0)).alloc (.cells #[.int .i64 0,.string ⟨#[]⟩,.bool true,.map (some (w.heap.size+1))] 141)).heap[w.heap.size+1+1]? =some (.cells #[.int .i64 0,.string ⟨#[]⟩,.bool true,.map (some (w.heap.size+1))] 141 (0,0)):=by
  simpa using new_at ((w.alloc (.map #[] 0)).alloc (.map #[] 0)) (.cells #[.int .i64 0,.string ⟨#[]⟩,.bool true,.map (some (w.heap.size+1))] 141)
 have F:Fr No w (((w.alloc (.map #[] 0)).alloc (.map #[] 0)).alloc (.cells #[.int .i64 0,.string ⟨#[]⟩,.bool true,.map (some (w.heap.size+1))] 141)):=(((Fr.refl w).alloc _).alloc _).alloc _;have hsz:(((w.alloc (.map #[] 0)).alloc (.map #[] 0)).alloc (.cells #[.int .i64 0,.string ⟨#[]⟩,.bool true,.map (some (w.heap.size+1))] 141)).heap.size=w.heap.size+1+1+1:=by simp
 obtain ⟨w9,hu,m9,f9⟩:=(m0.fr F1 id).put (1:Int) (w.heap.size+1+1) (show I64 _ by unfold I64;omega) trivial (by omega) (t:=130) (e:=142) Tryz.underlying130;have hu':(Instr.mapUpdate 130 (.map (some w.heap.size)) (.int .i64 1) (.pointer (some ⟨w.heap.size+1+1,0,none⟩))).run Tryz.prog (((w.alloc (.map #[] 0)).alloc (.map #[] 0)).alloc (.cells #[.int .i64 0,.string ⟨#[]⟩,.bool true,.map (some (w.heap.size+1))] 141))=.ok () w9:=hu;have K2:=lH (f9.block_of k2 (by omega));have M9:=lH m9;have M1:=lH ((m1.fr F2 id).fr f9 (by omega));have F9:Fr No w w9:=F.trans f9 (fun j hj e=>by omega);have hs9:=f9.size;rw [hsz] at hs9;clear k2 m0 m1 hu m9;go_wp2_with fail
 go_ret
 have kt:=new_at w9 (.cells #[.map (some w.heap.size)] 132);have fz:Fr No w9 (w9.alloc (.cells #[.map (some w.heap.size)] 132)):=(Fr.refl w9).alloc _;exact ⟨w9.heap.size,w.heap.size,w.heap.size+1+1,w.heap.size+1,rfl,F9.trans fz (fun _ _ e=>e),Nat.le_refl _,by omega,by omega,by omega,kt,M9.out.fr fz id,fz.block_of K2.out id,M1.out.fr fz id⟩
def NewPost (w:World) (e:Ending) (w':World):Prop:=
 ∃(L:Plc) (o:Nat→Nat),e=.returned (.pointer (some ⟨L.s,0,none⟩))∧Step (fun _=>False) w (fun _=>0) w' o∧StateAt w' o 0 L S0 0
def ownNew (L:Plc) (th root rin:Nat):Nat→Nat:=fun k=>if k=L.win then 1 else if k=th then 4 else if k=rin then 2001 else if k=root then 1001 else if k=L.tr then 3 else if k=L.tk then 5 else if k=L.fl then 6 else if k=L.us then 7 else if k=L.s then 8 else 0
theorem gstate_new (w:World):Calls Tryz.prog 14 #[] w (NewPost w):=by
 have hmm:= @run_makeMap Tryz.prog;go_enter Tryz.func14,Tryz.ntmps14;go_wp2_with fail;refine (once_new _).mono ?_;rintro e w1 ⟨rfl,rfl⟩;go_wp2_with fail;refine (gtree_new _).mono ?_;rintro e w2 ⟨tr,th,root,rin,rfl,f2,hth,hr1,hr2,hr3,ktr,mth,kroot,mrin⟩;have KTR:=lH ktr;have KTH:=lH mth;have KRO:=lH kroot;have KRI:=lH mrin;have KW:=lH (f2.block_of (new_at w (.cells #[.pointer none,.pointer none,.pointer none,.pointer none,.bool true] 152)) id);have F2:Fr No w w2:=((Fr.refl w).alloc _).trans f2 (fun _ _ e=>e);have htr:=lt_of_block ktr;simp only [heap_size_alloc] at hth;clear ktr mth kroot mrin f2;go_wp2_with fail;refine (tokens_new _).mono ?_;rintro e w3 ⟨rfl,rfl⟩;have KT:=lH (new_at w2 (.cells #[.bool true,.slice none 0 0] 155));have MF:=lH (MapAt.made encI (w2.alloc (.cells #[.bool true,.slice none 0 0] 155)));have MU:=lH (MapAt.made encU ((w2.alloc (.cells #[.bool true,.slice none 0 0] 155)).alloc (.map #[] 0)));rw [show (w2.alloc (.cells #[.bool true,.slice none 0 0] 155)).heap.size=w2.heap.size+1 by simp] at MF;rw [show ((w2.alloc (.cells #[.bool true,.slice none 0 0] 155)).alloc (.map #[] 0)).heap.size=w2.heap.size+1+1 by simp] at MU;have e2:(((w2.alloc (.cells #[.bool true,.slice none 0 0] 155)).alloc (.map #[] 0)).alloc (.map #[] 0)).heap.size=w2.heap.size+1+1+1:=by simp
 have GU:Fr No (((w2.alloc (.cells #[.bool true,.slice none 0 0] 155)).alloc (.map #[] 0)).alloc (.map #[] 0)) ((((w2.alloc (.cells #[.bool true,.slice none 0 0] 155)).alloc (.map #[] 0)).alloc (.map #[] 0)).alloc (.cells #[.int .i64 0,.int .i64 0,.int .i64 0,.int .i64 0,.int .i64 0,.int .i64 0,.int .i64 0,.int .i64 0,.pointer (some ⟨w.heap.size,0,none⟩),.pointer (some ⟨tr,0,none⟩),.pointer (some ⟨w2.heap.size,0,none⟩),.map (some (w2.heap.size+1)),.map (some (w2.heap.size+1+1))] 104)):=(Fr.refl _).alloc _;have GF:Fr No ((w2.alloc (.cells #[.bool true,.slice none 0 0] 155)).alloc (.map #[] 0)) ((((w2.alloc (.cells #[.bool true,.slice none 0 0] 155)).alloc (.map #[] 0)).alloc (.map #[] 0)).alloc (.cells #[.int .i64 0,.int .i64 0,.int .i64 0,.int .i64 0,.int .i64 0,.int .i64 0,.int .i64 0,.int .i64 0,.pointer (some ⟨w.heap.size,0,none⟩),.pointer (some ⟨tr,0,none⟩),.pointer (some ⟨w2.heap.size,0,none⟩),.map (some (w2.heap.size+1)),.map (some (w2.heap.size+1+1))] 104)):=((Fr.refl _).alloc _).alloc _;have G1:Fr No (w2.alloc (.cells #[.bool true,.slice none 0 0] 155)) ((((w2.alloc (.cells #[.bool true,.slice none 0 0] 155)).alloc (.map #[] 0)).alloc (.map #[] 0)).alloc (.cells #[.int .i64 0,.int .i64 0,.int .i64 0,.int .i64 0,.int .i64 0,.int .i64 0,.int .i64 0,.int .i64 0,.pointer (some ⟨w.heap.size,0,none⟩),.pointer (some ⟨tr,0,none⟩),.pointer (some ⟨w2.heap.size,0,none⟩),.map (some (w2.heap.size+1)),.map (some (w2.heap.size+1+1))] 104)):=(((Fr.refl _).alloc _).alloc _).alloc _;have G0:Fr No w2 ((((w2.alloc (.cells #[.bool true,.slice none 0 0] 155)).alloc (.map #[] 0)).alloc (.map #[] 0)).alloc (.cells #[.int .i64 0,.int .i64 0,.int .i64 0,.int .i64 0,.int .i64 0,.int .i64 0,.int .i64 0,.int .i64 0,.pointer (some ⟨w.heap.size,0,none⟩),.pointer (some ⟨tr,0,none⟩),.pointer (some ⟨w2.heap.size,0,none⟩),.map (some (w2.heap.size+1)),.map (some (w2.heap.size+1+1))] 104)):=((((Fr.refl _).alloc _).alloc _).alloc _).alloc _
 have k1:=new_at (((w2.alloc (.cells #[.bool true,.slice none 0 0] 155)).alloc (.map #[] 0)).alloc (.map #[] 0)) (.cells #[.int .i64 0,.int .i64 0,.int .i64 0,.int .i64 0,.int .i64 0,.int .i64 0,.int .i64 0,.int .i64 0,.pointer (some ⟨w.heap.size,0,none⟩),.pointer (some ⟨tr,0,none⟩),.pointer (some ⟨w2.heap.size,0,none⟩),.map (some (w2.heap.size+1)),.map (some (w2.heap.size+1+1))] 104);rw [e2] at k1;have hszf:((((w2.alloc (.cells #[.bool true,.slice none 0 0] 155)).alloc (.map #[] 0)).alloc (.map #[] 0)).alloc (.cells #[.int .i64 0,.int .i64 0,.int .i64 0,.int .i64 0,.int .i64 0,.int .i64 0,.int .i64 0,.int .i64 0,.pointer (some ⟨w.heap.size,0,none⟩),.pointer (some ⟨tr,0,none⟩),.pointer (some ⟨w2.heap.size,0,none⟩),.map (some (w2.heap.size+1)),.map (some (w2.heap.size+1+1))] 104)).heap.size=w2.heap.size+1+1+1+1:=by simp
 go_wp2_with fail
 go_ret
 generalize hW:(((w2.alloc (.cells #[.bool true,.slice none 0 0] 155)).alloc (.map #[] 0)).alloc (.map #[] 0)).alloc (.cells #[.int .i64 0,.int .i64 0,.int .i64 0,.int .i64 0,.int .i64 0,.int .i64 0,.int .i64 0,.int .i64 0,.pointer (some ⟨w.heap.size,0,none⟩),.pointer (some ⟨tr,0,none⟩),.pointer (some ⟨w2.heap.size,0,none⟩),.map (some (w2.heap.size+1)),.map (some (w2.heap.size+1+1))] 104)=wF at*;have s2:=F2.size;refine ⟨⟨w2.heap.size+1+1+1,w.heap.size,tr,w2.heap.size,w2.heap.size+1,w2.heap.size+1+1⟩,ownNew ⟨w2.heap.size+1+1+1,w.heap.size,tr,w2.heap.size,w2.heap.size+1,w2.heap.size+1+1⟩ th root rin,rfl,⟨(F2.trans G0 (fun _ _ e=>e)).mono (fun _ _ e=>e.elim),fun k hk=> ?_,fun k hk=> ?_⟩,?_⟩
 ·unfold ownNew;dsimp only;repeat (first|rw [if_neg (by omega)])
 ·unfold ownNew;dsimp only;rw [hszf] at hk;repeat (first|rw [if_neg (by omega)])
 ·refine ⟨?_,k1,⟨?_,fun _=> .pointer none,G0.block_of KW.out id,fun _ _=>rfl⟩,⟨th,fun _=>root,?_,G0.block_of KTR.out id,?_,?_,?_⟩,⟨?_,.slice none 0 0,G1.block_of KT.out id,.inl ⟨rfl,rfl⟩⟩,⟨?_,fun _=>0,0,Nat.le_refl _,?_,fun i m h=>by cases h⟩,⟨?_,0,Nat.le_refl _,?_⟩⟩
  ·unfold ownNew;dsimp only;repeat (first|rw [if_pos rfl]|rw [if_neg (by omega)])
  ·unfold ownNew;dsimp only;repeat (first|rw [if_pos rfl]|rw [if_neg (by omega)])
  ·unfold ownNew;dsimp only;repeat (first|rw [if_pos rfl]|rw [if_neg (by omega)])
  ·unfold ownNew;dsimp only;repeat (first|rw [if_pos rfl]|rw [if_neg (by omega)])
  ·show MapAt encI wF th (things rootT) (thm rootT fun _=>root);rw [rootT_things];have e:thm rootT (fun _=>root)=fun z=>if z=1 then some root else none:=by
    funext z;unfold thm rootT;by_cases hz:z=1
    ·subst hz;rfl
    ·rw [if_neg hz];split
     ·rw [if_neg (by omega)];rfl
     ·rfl
   rw [e];exact KTH.out.fr G0 id
  ·intro k x hk;obtain ⟨rfl,rfl⟩:=rootT_some hk;refine ⟨?_,rin,?_,G0.block_of KRO.out id,?_⟩
   ·unfold ownNew;dsimp only;repeat (first|rw [if_pos rfl]|rw [if_neg (by omega)])
   ·unfold ownNew;dsimp only;repeat (first|rw [if_pos rfl]|rw [if_neg (by omega)])
   ·show MapAt encS wF rin (kidN rootT 1) (kidm rootT 1);rw [rootT_kidN];have e:kidm rootT 1=fun _=>none:=by
     funext s;unfold kidm;rw [rootT_kid];rfl
    rw [e];exact KRI.out.fr G0 id
  ·unfold ownNew;dsimp only;repeat (first|rw [if_pos rfl]|rw [if_neg (by omega)])
  ·unfold ownNew;dsimp only;repeat (first|rw [if_pos rfl]|rw [if_neg (by omega)])
  ·have e:filem S0.F (fun _=>0)=fun _=>none:=by
    funext z;unfold filem S0;split<;>rfl
   rw [e];exact MF.out.fr GF id
  ·unfold ownNew;dsimp only;repeat (first|rw [if_pos rfl]|rw [if_neg (by omega)])
  ·have e:usem S0.U=fun _=>none:=by funext z;rfl
   rw [e];exact MU.out.fr GU id
def rq (n:Int):Req:=⟨0,0,n,1, [47,102], [],false,false,false,0,0,0⟩
theorem rq_cells (n:Int):(rq n).cells (.slice none 0 0) (.slice none 0 0)=req n 1 ⟨#[47,102]⟩:=rfl
def X1:RepS×St:=askedS (triedOf (deedF (rq 1) [] [] 1 (askB S0 0 3))) 0 (rq 1)
def S1:St:=X1.2
theorem X1_rep:X1.1=⟨0,2,0,0,0,false, [], []⟩:=by rfl
theorem X1_ok:X1.1.ok:=by rw [X1_rep];exact plain_ok (by omega) (by omega) (by omega) (by omega) (by omega)
theorem S1_inv:StInv S1 2:=(asked_inv (fine_all (S0_inv.askB 0 3) (rq 1) [] [] 1 ⟨by decide,by decide⟩) (by omega) 0 (rq 1)).more (by omega)
theorem S1_row:S1.W 0=some (0,1,X1.1.bytes):=by rfl
theorem did1 {x:RepS×St} (h:Did S0 (rq 1) [] [] x):x=X1:=by
 unfold Did at h;rw [if_neg (show ¬(rq 1).kind=10 by decide),if_neg (show ¬(rq 1).kind=11 by decide),if_neg (show ¬(rq 1).kind=9 by decide),if_neg (show ¬¬(1≤(rq 1).kind∧(rq 1).kind≤8) by decide)] at h;rw [show askOf S0.W (rq 1).c (rq 1).l (rq 1).q=(3,none) by rfl,if_neg (by decide),if_neg (by decide)] at h;exact h
theorem bytes_ino {r:RepS} (hr:r.ok) (h:r.bytes=X1.1.bytes):r.ino=2:=by
 obtain ⟨f1,e1⟩:=hr.raw;obtain ⟨_,e2⟩:=X1_ok.raw;rw [e1,e2] at h;unfold RepS.rawB at h;have hl:(numB 1 r.e.toNat).length=(numB 1 X1.1.e.toNat).length:=by rw [numB_length,numB_length]
 have h2:=(List.append_inj h hl).2;have hl2:(numB 2 r.ino.toNat).length=(numB 2 X1.1.ino.toNat).length:=by rw [numB_length,numB_length]
 have h3:=(List.append_inj h2 hl2).1;rw [X1_rep,numB2,numB2] at h3;simp only [List.cons.injEq,and_true] at h3;have a:=congrArg UInt8.toNat h3.1;have b:=congrArg UInt8.toNat h3.2;have hi:=f1.ino;simp at a b;omega
theorem did2 {x:RepS×St} (h:Did S1 (rq 1) [] [] x):x.2=S1∧x.1.ino=2:=by
 unfold Did at h;rw [if_neg (show ¬(rq 1).kind=10 by decide),if_neg (show ¬(rq 1).kind=11 by decide),if_neg (show ¬(rq 1).kind=9 by decide),if_neg (show ¬¬(1≤(rq 1).kind∧(rq 1).kind≤8) by decide)] at h;have ha:askOf S1.W (rq 1).c (rq 1).l (rq 1).q=(1,some X1.1.bytes):=by
  unfold askOf;rw [if_pos (by decide),show S1.W (rq 1).c.toNat=some (0,1,X1.1.bytes) from S1_row];rfl
 rw [ha,if_pos rfl] at h;exact ⟨h.1,bytes_ino h.2.2 (by have:=h.2.1;simpa using this.symm)⟩
theorem did3 {x:RepS×St} (h:Did S1 (rq 2) [] [] x):x.1.e=7:=by
 unfold Did at h;rw [if_neg (show ¬(rq 2).kind=10 by decide),if_neg (show ¬(rq 2).kind=11 by decide),if_neg (show ¬(rq 2).kind=9 by decide),if_neg (show ¬¬(1≤(rq 2).kind∧(rq 2).kind≤8) by decide)] at h;have ha:askOf S1.W (rq 2).c (rq 2).l (rq 2).q=(0,none):=by
  unfold askOf;rw [if_pos (by decide),show S1.W (rq 2).c.toNat=some (0,1,X1.1.bytes) from S1_row];rfl
 rw [ha,if_neg (by decide),if_neg (by decide)] at h;rw [h];rfl
theorem rq_small (n:Int):Small (rq n) [] []:=⟨(show ([47,102]:List UInt8).length≤300 by decide),(show ([]:List UInt8).length≤300 by decide),by decide,by decide,fun _ h=>by cases h⟩
theorem nil_rows {α:Type} (c:α→List Value) (n:Nat) (w:World) (o:Nat→Nat):RowsAt c n w o (.slice none 0 0) []:=⟨none,0,rfl,fun h=>absurd rfl h⟩
def Made3 (w:World) (o:Nat→Nat) (L:Plc) (S:St) (n:Nat) (m:Int) (e:Ending) (w':World):Prop:=
 ∃(x:RepS×St) (o':Nat→Nat) (ev mv:Value),e=.returned (.agg (x.1.cells ev mv))∧ev.oneCell'=true∧mv.oneCell'=true∧Did S (rq m) [] [] x∧Step (stateC 0) w o w' o'∧StateAt w' o' 0 L x.2 (n+100)
theorem made2 (o:Nat→Nat) (n q:Nat) (m:Int) (L:Plc) (S:St) (w:World) (h:StateAt w o 0 L S n) (inv:StInv S q) (hf:Fresh w o) (hq:q≤90000) (hn:n≤400000):
  Calls Tryz.prog 15 #[.pointer (some ⟨L.s,0,none⟩),.agg (req m 1 ⟨#[47,102]⟩)] w (Made3 w o L S n m):=by
 rw [← rq_cells];exact (gapply_ o 0 n q L S (rq m) _ _ [] [] w h inv hf (nil_rows _ _ _ _) (nil_rows _ _ _ _) (rq_small m) hq hn).mono (fun e w' p=>by
  obtain ⟨x,h1,_,⟨o',s,t⟩,ev,mv,he,a,b,_⟩:=p;exact ⟨x,o',ev,mv,he,a,b,h1,s,t⟩)
theorem wpAny_inv {P:Program} {md:Region.Mode} {ops:Array Oper} {Q:Exit→Act→World→Prop} (Inv:Nat→Array Bool→Act→World→Prop)
  (hs:∀n listed a w,Inv n listed a w→∀i∈Region.ready md ops listed,∃m,n=m+1∧wpOp P ops Q i (Inv m (listed.setIfInBounds i true)) a w)
  (hd:∀n listed a w,Inv n listed a w→Region.ready md ops listed= []→Q .normal a w):
  ∀n listed a w,Inv n listed a w→wpAny P md ops Q n listed a w:=by
 intro n;induction n with
 | zero=>
  intro listed a w h;have hr:Region.ready md ops listed= []:=by
   rcases hc:Region.ready md ops listed with _|⟨i,l⟩
   ·rfl
   ·obtain ⟨m,hm,_⟩:=hs 0 listed a w h i (by rw [hc];simp);omega
  exact ⟨hr,hd 0 listed a w h hr⟩
 | succ n ih=>
  intro listed a w h;refine ⟨fun hr=>hd _ listed a w h hr,fun i hi=> ?_⟩;obtain ⟨m,hm,h1⟩:=hs (n+1) listed a w h i hi;obtain rfl:n=m:=by omega
  exact wpOp_mono (fun a w hk=>ih _ a w hk) h1
structure Aw (L:Plc) (w1:World) (o1:Nat→Nat) (b0 b1 b2 b3 b4 b5 b6 b7 b8 b9 b10 b11:Bool) (v3 v4 v12 v13 v14 v15 v16 v17 v18 v19:Value) (o:Nat→Nat) (w:World):Prop where
 fr:Fr (fun k=>stateC 0 (o1 k)) w1 w
 old:∀k,k<w1.heap.size→o k=o1 k
 fs:Fresh w o
 rb:Zero w o w1.heap.size (.cells (req 1 1 ⟨#[47,102]⟩) 41 (0,0))
 m0:b0=true→v12=.pointer (some ⟨L.s,0,none⟩)
 m1:b1=true→v13=.agg (req 1 1 ⟨#[47,102]⟩)
 m2:b2=true→v14=.agg (req 1 1 ⟨#[47,102]⟩)
 m3:b3=true→∃ev mv,v15=.agg (X1.1.cells ev mv)∧ev.oneCell'=true∧mv.oneCell'=true
 m4:b4=true→v16=.pointer (some ⟨L.s,0,none⟩)
 m5:b5=true→v17=.agg (req 1 1 ⟨#[47,102]⟩)
 m6:b6=true→v18=.agg (req 1 1 ⟨#[47,102]⟩)
 m7:b7=true→∃(r:RepS) (ev mv:Value),v19=.agg (r.cells ev mv)∧r.ino=2∧ev.oneCell'=true∧mv.oneCell'=true
 s0:b3=false→StateAt w o 0 L S0 0
 s1:b3=true→∃n,n≤100+b7.toNat*100∧StateAt w o 0 L S1 n
 g8:b8=true→∃g cs,v3=.pointer (some ⟨g,0,none⟩)∧w1.heap.size<g∧Zero w o g (.cells cs 29 (0,0))∧cs.size=8∧(b10=true→v15=.agg cs)
 g9:b9=true→∃g cs,v4=.pointer (some ⟨g,0,none⟩)∧w1.heap.size<g∧Zero w o g (.cells cs 29 (0,0))∧cs.size=8∧(b11=true→v19=.agg cs)
 ne:b8=true→b9=true→v3≠v4
 o10:b10=true→b8=true
 o11:b11=true→b9=true
 o6:b6=true→b3=true
 o3:b10=true→b3=true
 o7:b11=true→b7=true
 o73:b7=true→b3=true
section
variable {L:Plc} {w1 w w':World} {o1 o o':Nat→Nat} {b0 b1 b2 b3 b4 b5 b6 b7 b8 b9 b10 b11:Bool} {v3 v4 v12 v13 v14 v15 v16 v17 v18 v19:Value}
theorem Aw.step (h:Aw L w1 o1 b0 b1 b2 b3 b4 b5 b6 b7 b8 b9 b10 b11 v3 v4 v12 v13 v14 v15 v16 v17 v18 v19 o w) (s:Step (fun c=>c=0) w o w' o') (hz:∀b x,Zero w o b x→(b=w1.heap.size∨(∃cs,x=.cells cs 29 (0,0)))→Zero w' o' b x) (hfr:Fr (fun k=>w1.heap.size≤k) w w'):Aw L w1 o1 b0 b1 b2 b3 b4 b5 b6 b7 b8 b9 b10 b11 v3 v4 v12 v13 v14 v15 v16 v17 v18 v19 o' w':=
 {h with
  fr:=h.fr.trans hfr (fun j hj e=>by omega)
  old:=fun k hk=>(s.old k (Nat.lt_of_lt_of_le hk h.fr.size)).trans (h.old k hk)
  fs:=s.fresh
  rb:=hz _ _ h.rb (.inl rfl)
  s0:=fun e=>(h.s0 e).step S0_inv.ok s (fun c h e=>by unfold stateC at h;omega)
  s1:=fun e=>by
   obtain ⟨n,hn,t⟩:=h.s1 e;exact ⟨n,hn,t.step S1_inv.ok s (fun c h e=>by unfold stateC at h;omega)⟩
  g8:=fun e=>by
   obtain ⟨g,cs,e1,e2,e3,e4⟩:=h.g8 e;exact ⟨g,cs,e1,e2,hz _ _ e3 (.inr ⟨cs,rfl⟩),e4⟩
  g9:=fun e=>by
   obtain ⟨g,cs,e1,e2,e3,e4⟩:=h.g9 e;exact ⟨g,cs,e1,e2,hz _ _ e3 (.inr ⟨cs,rfl⟩),e4⟩}
theorem Aw.no (h:Aw L w1 o1 b0 b1 b2 b3 b4 b5 b6 b7 b8 b9 b10 b11 v3 v4 v12 v13 v14 v15 v16 v17 v18 v19 o w) (f:Fr No w w'):Aw L w1 o1 b0 b1 b2 b3 b4 b5 b6 b7 b8 b9 b10 b11 v3 v4 v12 v13 v14 v15 v16 v17 v18 v19 o w':=
 h.step ((Step.no (C:=fun _=>False) h.fs f).mono (fun _ e=>e.elim)) (fun _ _ z _=>z.no f) f.of_no
end
def AwI (L:Plc) (w1:World) (o1:Nat→Nat) (n:Nat) (listed:Array Bool) (a:Act) (w:World):Prop:=
 ∃b0 b1 b2 b3 b4 b5 b6 b7 b8 b9 b10 b11:Bool,∃v3 v4 v12 v13 v14 v15 v16 v17 v18 v19:Value,∃o:Nat→Nat,n=(!b0).toNat+(!b1).toNat+(!b2).toNat+(!b3).toNat+(!b4).toNat+(!b5).toNat+(!b6).toNat+(!b7).toNat+(!b8).toNat+(!b9).toNat+(!b10).toNat+(!b11).toNat∧listed= #[b0,b1,b2,b3,b4,b5,b6,b7,b8,b9,b10,b11]∧
  a=⟨#[.bool false,.pointer (some ⟨L.s,0,none⟩),.pointer (some ⟨w1.heap.size,0,none⟩),v3,v4,undef,.pointer (some ⟨L.s,0,none⟩),.pointer (some ⟨L.s,0,none⟩),.bool false,.agg (req 0 1 ⟨#[47,102]⟩),.pointer (some ⟨w1.heap.size,0,none⟩),.pointer (some ⟨w1.heap.size,2,none⟩),v12,v13,v14,v15,v16,v17,v18,v19,undef,undef,undef,undef,undef,undef,undef,undef,undef,undef,undef,undef,undef,undef,undef,undef,undef,undef,undef], []⟩∧
  Aw L w1 o1 b0 b1 b2 b3 b4 b5 b6 b7 b8 b9 b10 b11 v3 v4 v12 v13 v14 v15 v16 v17 v18 v19 o w
theorem gawake_ (w0:World):Calls Tryz.prog 13 #[] w0 fun e w'=>e=.returned (.bool true)∧Fr No w0 w':=by
 go_enter Tryz.func13,Tryz.ntmps13;go_wp2_with fail;refine (gstate_new _).mono ?_;rintro e w1 ⟨L,o1,rfl,sn,tn⟩;have SN:=lH sn;have TN:=lH tn;clear sn tn;go_wp2_with fail
 rename_i K hKK
 refine wp_region_any (by kernel_rfl) ?_;refine wpAny_inv (AwI L w1 o1) ?step ?done _ _ _ _ ?start
 case start=>
  have f:Fr No w1 (w1.alloc (.cells (req 1 1 ⟨#[47,102]⟩) 41)).drew:=((Fr.refl w1).alloc _).drew;have s:=(Step.no (C:=fun _=>False) SN.out.fresh f)
  exact ⟨false,false,false,false,false,false,false,false,false,false,false,false,undef,undef,undef,undef,undef,undef,undef,undef,undef,undef,o1,rfl,rfl,rfl,{fr:=f.of_no,old:=fun _ _=>rfl,fs:=s.fresh,rb:=⟨new_at w1 (.cells (req 1 1 ⟨#[47,102]⟩) 41),SN.out.fresh _ (Nat.le_refl _)⟩,m0:=(fun e=>nomatch e),m1:=(fun e=>nomatch e),m2:=(fun e=>nomatch e),m3:=(fun e=>nomatch e),m4:=(fun e=>nomatch e),m5:=(fun e=>nomatch e),m6:=(fun e=>nomatch e),m7:=(fun e=>nomatch e),s0:=fun _=>TN.out.no S0_inv.ok SN.out.fresh f,s1:=(fun e=>nomatch e),g8:=(fun e=>nomatch e),g9:=(fun e=>nomatch e),ne:=(fun e=>nomatch e),o10:=(fun e=>nomatch e),o11:=(fun e=>nomatch e),o6:=(fun e=>nomatch e),o3:=(fun e=>nomatch e),o7:=(fun e=>nomatch e),o73:=(fun e=>nomatch e)}⟩
 case done=>
  rintro n listed a w ⟨b0,b1,b2,b3,b4,b5,b6,b7,b8,b9,b10,b11,v3,v4,v12,v13,v14,v15,v16,v17,v18,v19,o,hn,rfl,rfl,h⟩ hr;clear hn;have hno:=List.eq_nil_iff_forall_not_mem.1 hr;obtain rfl:b0=true:=by
   rcases Bool.eq_false_or_eq_true b0 with e|e
   ·exact e
   ·exfalso;subst e;refine absurd ?_ (hno 0);refine mem_ready.2 ⟨rfl,_,rfl,?_⟩;intro e he hb;exact absurd he (by simp)
  obtain rfl:b1=true:=by
   rcases Bool.eq_false_or_eq_true b1 with e|e
   ·exact e
   ·exfalso;subst e;refine absurd ?_ (hno 1);refine mem_ready.2 ⟨rfl,_,rfl,?_⟩;intro e he hb;exact absurd he (by simp)
  obtain rfl:b2=true:=by
   rcases Bool.eq_false_or_eq_true b2 with e|e
   ·exact e
   ·exfalso;subst e;refine absurd ?_ (hno 2);refine mem_ready.2 ⟨rfl,_,rfl,?_⟩;intro e he hb;simp at he;subst he;all_goals first|rfl|exact absurd hb (by decide)
  obtain rfl:b3=true:=by
   rcases Bool.eq_false_or_eq_true b3 with e|e
   ·exact e
   ·exfalso;subst e;refine absurd ?_ (hno 3);refine mem_ready.2 ⟨rfl,_,rfl,?_⟩;intro e he hb;simp at he;rcases he with rfl|rfl|rfl;all_goals first|rfl|exact absurd hb (by decide)
  obtain rfl:b4=true:=by
   rcases Bool.eq_false_or_eq_true b4 with e|e
   ·exact e
   ·exfalso;subst e;refine absurd ?_ (hno 4);refine mem_ready.2 ⟨rfl,_,rfl,?_⟩;intro e he hb;exact absurd he (by simp)
  obtain rfl:b5=true:=by
   rcases Bool.eq_false_or_eq_true b5 with e|e
   ·exact e
   ·exfalso;subst e;refine absurd ?_ (hno 5);refine mem_ready.2 ⟨rfl,_,rfl,?_⟩;intro e he hb;exact absurd he (by simp)
  obtain rfl:b6=true:=by
   rcases Bool.eq_false_or_eq_true b6 with e|e
   ·exact e
   ·exfalso;subst e;refine absurd ?_ (hno 6);refine mem_ready.2 ⟨rfl,_,rfl,?_⟩;intro e he hb;simp at he;rcases he with rfl|rfl;all_goals first|rfl|exact absurd hb (by decide)
  obtain rfl:b7=true:=by
   rcases Bool.eq_false_or_eq_true b7 with e|e
   ·exact e
   ·exfalso;subst e;refine absurd ?_ (hno 7);refine mem_ready.2 ⟨rfl,_,rfl,?_⟩;intro e he hb;simp at he;rcases he with rfl|rfl|rfl;all_goals first|rfl|exact absurd hb (by decide)
  obtain rfl:b8=true:=by
   rcases Bool.eq_false_or_eq_true b8 with e|e
   ·exact e
   ·exfalso;subst e;refine absurd ?_ (hno 8);refine mem_ready.2 ⟨rfl,_,rfl,?_⟩;intro e he hb;exact absurd he (by simp)
  obtain rfl:b9=true:=by
   rcases Bool.eq_false_or_eq_true b9 with e|e
   ·exact e
   ·exfalso;subst e;refine absurd ?_ (hno 9);refine mem_ready.2 ⟨rfl,_,rfl,?_⟩;intro e he hb;exact absurd he (by simp)
  obtain rfl:b10=true:=by
   rcases Bool.eq_false_or_eq_true b10 with e|e
   ·exact e
   ·exfalso;subst e;refine absurd ?_ (hno 10);refine mem_ready.2 ⟨rfl,_,rfl,?_⟩;intro e he hb;simp at he;rcases he with rfl|rfl|rfl|rfl|rfl|rfl|rfl|rfl|rfl|rfl|rfl|rfl|rfl;all_goals first|rfl|exact absurd hb (by decide)
  obtain rfl:b11=true:=by
   rcases Bool.eq_false_or_eq_true b11 with e|e
   ·exact e
   ·exfalso;subst e;refine absurd ?_ (hno 11);refine mem_ready.2 ⟨rfl,_,rfl,?_⟩;intro e he hb;simp at he;rcases he with rfl|rfl|rfl|rfl|rfl|rfl|rfl|rfl|rfl|rfl|rfl|rfl|rfl|rfl;all_goals first|rfl|exact absurd hb (by decide)
  obtain ⟨n1,hn1,t1⟩:=h.s1 rfl;obtain ⟨ev,mv,e15,ho1,ho2⟩:=h.m3 rfl;obtain ⟨rr,ev',mv',e19,hino,ho3,ho4⟩:=h.m7 rfl;obtain ⟨g,cs,rfl,hg1,hg2,_,hg3⟩:=h.g8 rfl;obtain ⟨g',cs',rfl,hg1',hg2',_,hg3'⟩:=h.g9 rfl;have e1:=(hg3 rfl).symm.trans e15;have e2:=(hg3' rfl).symm.trans e19;cases e1;cases e2;clear hr hno hg3 hg3' e15 e19;show K _ _;refine hKK _ _ ?_;clear hKK;have fs:Fr (fun k=>k=w1.heap.size) w (w.setCell ⟨w1.heap.size,2,none⟩ (.int .i64 2)):=Fr.setCell (S:=fun k=>k=w1.heap.size) (p:=⟨w1.heap.size,2,none⟩) (Fr.refl _) (.inl rfl) _;have ss:Step (fun c=>c=0) w o (w.setCell ⟨w1.heap.size,2,none⟩ (.int .i64 2)) o:=⟨fs.mono (fun k _ e=>by rw [e];exact h.rb.2),fun _ _=>rfl,fun k hk=>h.fs k (Nat.le_trans fs.size hk)⟩
  have TS:=lH (t1.step S1_inv.ok ss (fun c h e=>by unfold stateC at h;omega));have c2:w.cell? ⟨w1.heap.size,2,none⟩=some (.int .i64 1):=by rw [cell_at h.rb.1];rfl
  have z2:=frozen_at h.rb.1 2;have RS:Hid ((w.setCell ⟨w1.heap.size,2,none⟩ (.int .i64 2)).heap[w1.heap.size]? =some (.cells (req 2 1 ⟨#[47,102]⟩) 41 (0,0))):=lH (by simpa [req] using setCell_at h.rb.1 2 (.int .i64 2));have F2:=lH (h.fr.trans fs (fun j hj e=>by omega));have ZA:Hid (Zero (w.setCell ⟨w1.heap.size,2,none⟩ (.int .i64 2)) o g (.cells (X1.1.cells ev mv) 29 (0,0))):=lH ⟨fs.block_of hg2.1 (by omega),hg2.2⟩;have ZB:Hid (Zero (w.setCell ⟨w1.heap.size,2,none⟩ (.int .i64 2)) o g' (.cells (rr.cells ev' mv') 29 (0,0))):=lH ⟨fs.block_of hg2'.1 (by omega),hg2'.2⟩;have FSS:=lH ss.fresh;have OLD:=lH h.old;have HSZ:=lH (show w1.heap.size≤(w.setCell ⟨w1.heap.size,2,none⟩ (.int .i64 2)).heap.size from F2.out.size);clear h hg2 hg2' t1 ss fs;go_wp2_with (refine wpList_load_row rfl 41 (.tmp 2) rfl w1.heap.size rfl 41 _ (0,0) _ RS.out Tryz.underlying41 rfl Tryz.size41 ?_);refine (request_ 2 1 _ _).mono ?_;rintro e w3 ⟨rfl,f3⟩;have T3:=TS.out.no S1_inv.ok FSS.out f3;have FS3:Fresh w3 o:=(Step.no (C:=fun _=>False) FSS.out f3).fresh;have HT:=lH (made2 o n1 2 2 L S1 w3 T3 S1_inv FS3 (by omega) (by simp [Bool.toNat] at hn1;omega));have ZA3:=lH (ZA.out.no f3);have ZB3:=lH (ZB.out.no f3);have F3:=lH (F2.out.trans f3 (fun _ _ e=>e.elim));have OLD3:Hid (∀k,k<w1.heap.size→o k=o1 k):=OLD;clear c2 z2 f3 T3 FS3 TS FSS RS HSZ;generalize w.setCell ⟨w1.heap.size,2,none⟩ (.int .i64 2)=ws at*;unfold Made3 at HT;unfold RepS.cells at HT ZA3 ZB3;go_wp2_with fail;with_reducible refine HT.out.mono ?_
  rintro e w4 ⟨x,o4,ev4,mv4,rfl,q1,q2,hd,s4,t4⟩;have he7:=lH (did3 hd);obtain ⟨x1,x2⟩:=x;dsimp only at he7;have f5:Fr No w4 ((w4.alloc (.cells (rep 0 0) 29)).setRow w4.heap.size (x1.cells ev4 mv4)):=Fr.setRow ((Fr.refl w4).alloc _) (.inr (Nat.le_refl _)) _;have k5:=setRow_at (cs':=x1.cells ev4 mv4) (new_at w4 (.cells (rep 0 0) 29));have HOC:=lH (RepS.cells_one (r:=x1) q1 q2);have ca:((w4.alloc (.cells (rep 0 0) 29)).setRow w4.heap.size (x1.cells ev4 mv4)).cell? ⟨g,1,none⟩=some (.int .i64 2):=by
   rw [cell_at (f5.block_of ((ZA3.out.step s4 (by unfold stateC;omega)).1) id)];show some (Value.int .i64 X1.1.ino)=_;rw [X1_rep]
  have cb:((w4.alloc (.cells (rep 0 0) 29)).setRow w4.heap.size (x1.cells ev4 mv4)).cell? ⟨g',1,none⟩=some (.int .i64 2):=by
   rw [cell_at (f5.block_of ((ZB3.out.step s4 (by unfold stateC;omega)).1) id)];show some (Value.int .i64 rr.ino)=_;rw [hino]
  have cc:((w4.alloc (.cells (rep 0 0) 29)).setRow w4.heap.size (x1.cells ev4 mv4)).cell? ⟨w4.heap.size,0,none⟩=some (.int .i64 7):=by
   rw [cell_at k5];show some (Value.int .i64 x1.e)=_;rw [he7.out]
  have FZ:Hid (Fr No w0 ((w4.alloc (.cells (rep 0 0) 29)).setRow w4.heap.size (x1.cells ev4 mv4))):=lH (by
   have fa:Fr (fun k=>stateC 0 (o1 k)) w1 w4:=F3.out.trans s4.fr (fun j hj e=>by rw [OLD3.out j hj] at e;exact e);have fb:=fa.trans f5 (fun _ _ e=>e.elim);have hz:∀k,k<w0.heap.size→o1 k=0:=fun k hk=>SN.out.old k hk;exact (SN.out.fr.mono (fun _ _ e=>e):Fr No w0 w1).trans fb (fun k hk e=>by rw [hz k hk] at e;unfold stateC at e;omega))
  have KN:=lH (new_at w4 (.cells (rep 0 0) 29));clear s4 t4 f5 k5 HT hd;unfold rep RepS.cells at*;go_wp2_with (refine wpList_store_row rfl 29 (.tmp 5) (.tmp 25) rfl w4.heap.size #[.int .i64 x1.e,.int .i64 x1.ino,.int .i64 x1.size,.int .i64 x1.handle,.int .i64 x1.swaps,.bool x1.dir,ev4,mv4] rfl rfl 29 _ KN.out Tryz.size29 rfl HOC.out ?_)
  go_ret
  exact ⟨rfl,FZ.out⟩
 case step=>
  clear hKK;rintro n listed a w ⟨b0,b1,b2,b3,b4,b5,b6,b7,b8,b9,b10,b11,v3,v4,v12,v13,v14,v15,v16,v17,v18,v19,o,hn,rfl,rfl,h⟩ i hi;have hr:=mem_ready.1 hi;clear hi;obtain ⟨h0,o,ho,hd⟩:=hr
  match i,h0,ho,hd with

  | 0,h0,ho,hd=>
   obtain rfl:b0=false:=h0;obtain rfl:=Option.some.inj ho;refine ⟨n - 1,by subst hn;simp [Bool.toNat]<;>omega,?_⟩;clear h0 ho hd;refine wpOp_step rfl (fun K hK=> ?_);rw [if_pos (show Region.wanted _ _=true from rfl)];go_simp;exact hK _ _ ⟨true,b1,b2,b3,b4,b5,b6,b7,b8,b9,b10,b11,v3,v4,.pointer (some ⟨L.s,0,none⟩),v13,v14,v15,v16,v17,v18,v19,o,by subst hn;simp [Bool.toNat]<;>omega,rfl,rfl,{h with m0:=fun _=>rfl}⟩
  | 1,h0,ho,hd=>
   obtain rfl:b1=false:=h0;obtain rfl:=Option.some.inj ho;refine ⟨n - 1,by subst hn;simp [Bool.toNat]<;>omega,?_⟩;clear h0 ho hd;refine wpOp_step rfl (fun K hK=> ?_);rw [if_pos (show Region.wanted _ _=true from rfl)];refine wp_load_row 41 (.tmp 2) rfl w1.heap.size rfl 41 _ (0,0) _ h.rb.1 Tryz.underlying41 rfl Tryz.size41 ?_;exact hK _ _ ⟨b0,true,b2,b3,b4,b5,b6,b7,b8,b9,b10,b11,v3,v4,v12,.agg (req 1 1 ⟨#[47,102]⟩),v14,v15,v16,v17,v18,v19,o,by subst hn;simp [Bool.toNat]<;>omega,rfl,rfl,{h with m1:=fun _=>rfl}⟩
  | 2,h0,ho,hd=>
   obtain rfl:b2=false:=h0;obtain rfl:=Option.some.inj ho;have d1:b1=true:=hd ⟨1,Ground.data⟩ (by simp) rfl;refine ⟨n - 1,by subst hn;simp [Bool.toNat]<;>omega,?_⟩;clear h0 ho hd;refine wpOp_step rfl (fun K hK=> ?_);rw [if_pos (show Region.wanted _ _=true from rfl)];obtain rfl:=h.m1 d1;go_simp;refine (request_ 1 1 _ w).mono ?_;rintro e w' ⟨rfl,f⟩;have h':=h.no f;exact hK _ _ ⟨_,_,true,_,_,_,_,_,_,_,_,_,_,_,_,_,.agg (req 1 1 ⟨#[47,102]⟩),_,_,_,_,_,o,by subst hn;simp [Bool.toNat]<;>omega,rfl,rfl,{h' with m2:=fun _=>rfl}⟩
  | 3,h0,ho,hd=>
   obtain rfl:b3=false:=h0;obtain rfl:=Option.some.inj ho;have d0:b0=true:=hd ⟨0,Ground.data⟩ (by simp) rfl;have d2:b2=true:=hd ⟨2,Ground.data⟩ (by simp) rfl;refine ⟨n - 1,by subst hn;simp [Bool.toNat]<;>omega,?_⟩;clear h0 ho hd;refine wpOp_step rfl (fun K hK=> ?_);rw [if_pos (show Region.wanted _ _=true from rfl)];obtain rfl:=h.m0 d0;obtain rfl:=h.m2 d2;go_simp;refine (made2 o 0 0 1 L S0 w (h.s0 rfl) S0_inv h.fs (by omega) (by omega)).mono ?_;rintro e w' ⟨x,o',ev,mv,rfl,q1,q2,hd,s,t⟩;obtain rfl:=did1 hd;have hz:∀b x,Zero w o b x→Zero w' o' b x:=fun b x z=>z.step s (by unfold stateC;omega);exact hK _ _ ⟨_,_,_,true,_,_,_,_,_,_,_,_,_,_,_,_,_,.agg (X1.1.cells ev mv),_,_,_,_,o',by subst hn;simp [Bool.toNat]<;>omega,rfl,rfl,{h with fr:=h.fr.trans s.fr (fun j hj e=>by rw [h.old j hj] at e;exact e),old:=fun k hk=>(s.old k (Nat.lt_of_lt_of_le hk h.fr.size)).trans (h.old k hk),fs:=s.fresh,rb:=hz _ _ h.rb,m3:=fun _=>⟨ev,mv,rfl,q1,q2⟩,o3:=fun _=>rfl,s0:=fun e=>(by cases e),s1:=fun _=>⟨100,by omega,t⟩,g8:=fun e=>by (obtain ⟨g,cs,e1,e2,e3,e5,e6⟩:=h.g8 e;exact ⟨g,cs,e1,e2,hz _ _ e3,e5,fun e=>nomatch h.o3 e⟩),g9:=fun e=>by (obtain ⟨g,cs,e1,e2,e3,e5,e6⟩:=h.g9 e;exact ⟨g,cs,e1,e2,hz _ _ e3,e5,e6⟩),o6:=fun _=>rfl,o73:=fun _=>rfl}⟩
  | 4,h0,ho,hd=>
   obtain rfl:b4=false:=h0;obtain rfl:=Option.some.inj ho;refine ⟨n - 1,by subst hn;simp [Bool.toNat]<;>omega,?_⟩;clear h0 ho hd;refine wpOp_step rfl (fun K hK=> ?_);rw [if_pos (show Region.wanted _ _=true from rfl)];go_simp;exact hK _ _ ⟨b0,b1,b2,b3,true,b5,b6,b7,b8,b9,b10,b11,v3,v4,v12,v13,v14,v15,.pointer (some ⟨L.s,0,none⟩),v17,v18,v19,o,by subst hn;simp [Bool.toNat]<;>omega,rfl,rfl,{h with m4:=fun _=>rfl}⟩
  | 5,h0,ho,hd=>
   obtain rfl:b5=false:=h0;obtain rfl:=Option.some.inj ho;refine ⟨n - 1,by subst hn;simp [Bool.toNat]<;>omega,?_⟩;clear h0 ho hd;refine wpOp_step rfl (fun K hK=> ?_);rw [if_pos (show Region.wanted _ _=true from rfl)];refine wp_load_row 41 (.tmp 2) rfl w1.heap.size rfl 41 _ (0,0) _ h.rb.1 Tryz.underlying41 rfl Tryz.size41 ?_;exact hK _ _ ⟨b0,b1,b2,b3,b4,true,b6,b7,b8,b9,b10,b11,v3,v4,v12,v13,v14,v15,v16,.agg (req 1 1 ⟨#[47,102]⟩),v18,v19,o,by subst hn;simp [Bool.toNat]<;>omega,rfl,rfl,{h with m5:=fun _=>rfl}⟩
  | 6,h0,ho,hd=>
   obtain rfl:b6=false:=h0;obtain rfl:=Option.some.inj ho;have d5:b5=true:=hd ⟨5,Ground.data⟩ (by simp) rfl;have d3:b3=true:=hd ⟨3,Ground.chain⟩ (by simp) rfl;refine ⟨n - 1,by subst hn;simp [Bool.toNat]<;>omega,?_⟩;clear h0 ho hd;refine wpOp_step rfl (fun K hK=> ?_);rw [if_pos (show Region.wanted _ _=true from rfl)];obtain rfl:=h.m5 d5;go_simp;refine (request_ 1 1 _ w).mono ?_;rintro e w' ⟨rfl,f⟩;have h':=h.no f;exact hK _ _ ⟨_,_,_,_,_,_,true,_,_,_,_,_,_,_,_,_,_,_,_,_,.agg (req 1 1 ⟨#[47,102]⟩),_,o,by subst hn;simp [Bool.toNat]<;>omega,rfl,rfl,{h' with m6:=fun _=>rfl,o6:=fun _=>d3}⟩
  | 7,h0,ho,hd=>
   obtain rfl:b7=false:=h0;obtain rfl:=Option.some.inj ho;have d4:b4=true:=hd ⟨4,Ground.data⟩ (by simp) rfl;have d6:b6=true:=hd ⟨6,Ground.data⟩ (by simp) rfl;refine ⟨n - 1,by subst hn;simp [Bool.toNat]<;>omega,?_⟩;clear h0 ho hd;refine wpOp_step rfl (fun K hK=> ?_);rw [if_pos (show Region.wanted _ _=true from rfl)];obtain rfl:b3=true:=h.o6 d6;obtain rfl:=h.m4 d4;obtain rfl:=h.m6 d6;obtain ⟨n1,hn1,t1⟩:=h.s1 rfl;go_simp;refine (made2 o n1 2 1 L S1 w t1 S1_inv h.fs (by omega) (by simp [Bool.toNat] at hn1;omega)).mono ?_;rintro e w' ⟨x,o',ev,mv,rfl,q1,q2,hd,s,t⟩;obtain ⟨hS,hino⟩:=did2 hd;rw [hS] at t;have hz:∀b x,Zero w o b x→Zero w' o' b x:=fun b x z=>z.step s (by unfold stateC;omega);exact hK _ _ ⟨_,_,_,_,_,_,_,true,_,_,_,_,_,_,_,_,_,_,_,_,_,.agg (x.1.cells ev mv),o',by subst hn;simp [Bool.toNat]<;>omega,rfl,rfl,{h with fr:=h.fr.trans s.fr (fun j hj e=>by rw [h.old j hj] at e;exact e),old:=fun k hk=>(s.old k (Nat.lt_of_lt_of_le hk h.fr.size)).trans (h.old k hk),fs:=s.fresh,rb:=hz _ _ h.rb,s0:=fun e=>(by cases e),s1:=fun _=>⟨n1+100,by simp [Bool.toNat] at hn1 ⊢;omega,t⟩,o7:=fun _=>rfl,m7:=fun _=>⟨x.1,ev,mv,rfl,hino,q1,q2⟩,g8:=fun e=>by (obtain ⟨g,cs,e1,e2,e3,e5,e6⟩:=h.g8 e;exact ⟨g,cs,e1,e2,hz _ _ e3,e5,e6⟩),g9:=fun e=>by (obtain ⟨g,cs,e1,e2,e3,e5,e6⟩:=h.g9 e;exact ⟨g,cs,e1,e2,hz _ _ e3,e5,fun e=>nomatch h.o7 e⟩),o73:=fun _=>rfl}⟩
  | 8,h0,ho,hd=>
   obtain rfl:b8=false:=h0;obtain rfl:=Option.some.inj ho;refine ⟨n - 1,by subst hn;simp [Bool.toNat]<;>omega,?_⟩;clear h0 ho hd;refine wpOp_step rfl (fun K hK=> ?_);rw [if_pos (show Region.wanted _ _=true from rfl)];go_simp;have f:Fr No w (w.alloc (.cells (rep 0 0) 29)):=(Fr.refl w).alloc _;have h':=h.no f;exact hK _ _ ⟨_,_,_,_,_,_,_,_,true,_,_,_,.pointer (some ⟨w.heap.size,0,none⟩),_,_,_,_,_,_,_,_,_,o,by subst hn;simp [Bool.toNat]<;>omega,rfl,rfl,{h' with g8:=fun _=>⟨w.heap.size,rep 0 0,rfl,lt_of_block h.rb.1,⟨new_at w _,h.fs _ (Nat.le_refl _)⟩,rfl,fun e=>nomatch h.o10 e⟩,ne:=fun _ e=>by (obtain ⟨g,cs,e1,e2,e3,_⟩:=h.g9 e;have:=lt_of_block e3.1;intro e';rw [e1] at e';simp at e'<;>omega),o10:=fun _=>rfl}⟩
  | 9,h0,ho,hd=>
   obtain rfl:b9=false:=h0;obtain rfl:=Option.some.inj ho;refine ⟨n - 1,by subst hn;simp [Bool.toNat]<;>omega,?_⟩;clear h0 ho hd;refine wpOp_step rfl (fun K hK=> ?_);rw [if_pos (show Region.wanted _ _=true from rfl)];go_simp;have f:Fr No w (w.alloc (.cells (rep 0 0) 29)):=(Fr.refl w).alloc _;have h':=h.no f;exact hK _ _ ⟨_,_,_,_,_,_,_,_,_,true,_,_,_,.pointer (some ⟨w.heap.size,0,none⟩),_,_,_,_,_,_,_,_,o,by subst hn;simp [Bool.toNat]<;>omega,rfl,rfl,{h' with g9:=fun _=>⟨w.heap.size,rep 0 0,rfl,lt_of_block h.rb.1,⟨new_at w _,h.fs _ (Nat.le_refl _)⟩,rfl,fun e=>nomatch h.o11 e⟩,ne:=fun e _=>by (obtain ⟨g,cs,e1,e2,e3,_⟩:=h.g8 e;have:=lt_of_block e3.1;intro e';rw [e1] at e';simp at e'<;>omega),o11:=fun _=>rfl}⟩
  | 10,h0,ho,hd=>
   obtain rfl:b10=false:=h0;obtain rfl:=Option.some.inj ho;have d8:b8=true:=hd ⟨8,Ground.data⟩ (by simp) rfl;have d3:b3=true:=hd ⟨3,Ground.data⟩ (by simp) rfl;have d9:b9=true:=hd ⟨9,Ground.phase⟩ (by simp) rfl;have d7:b7=true:=hd ⟨7,Ground.chain⟩ (by simp) rfl;refine ⟨n - 1,by subst hn;simp [Bool.toNat]<;>omega,?_⟩;clear h0 ho hd;refine wpOp_step rfl (fun K hK=> ?_);rw [if_pos (show Region.wanted _ _=true from rfl)];obtain rfl:=d3;obtain ⟨ev,mv,rfl,ho1,ho2⟩:=h.m3 rfl;obtain ⟨g,cs,rfl,hlt,hg,hz8,_⟩:=h.g8 d8;have f:Fr (fun k=>k=g) w (w.setRow g (X1.1.cells ev mv)):=Fr.setRow (S:=fun k=>k=g) (Fr.refl w) (.inl rfl) _;have s:Step (fun c=>c=0) w o (w.setRow g (X1.1.cells ev mv)) o:=⟨f.mono (fun k _ e=>by rw [e];exact hg.2),fun _ _=>rfl,fun k hk=>h.fs k (Nat.le_trans f.size hk)⟩
   have hzo:∀b x,b≠g→Zero w o b x→Zero (w.setRow g (X1.1.cells ev mv)) o b x:=fun b x hb z=>⟨f.block_of z.1 hb,z.2⟩;have q1:=h.fr.trans f (fun j hj e=>by omega);have q2:=hzo _ _ (by omega) h.rb;obtain ⟨n1,hn1,t1⟩:=h.s1 rfl;have t2:=t1.step S1_inv.ok s (fun c h e=>by unfold stateC at h;omega);refine wp_store_row 29 (.tmp 3) (.tmp 15) rfl g (X1.1.cells ev mv) rfl rfl 29 cs hg.1 Tryz.size29 (by simp [RepS.cells,hz8]) (RepS.cells_one ho1 ho2) ?_;exact hK _ _ ⟨_,_,_,_,_,_,_,_,_,_,true,_,_,_,_,_,_,_,_,_,_,_,o,by subst hn;simp [Bool.toNat]<;>omega,rfl,rfl,{h with fr:=q1,fs:=s.fresh,rb:=q2,s0:=fun e=>(by cases e),s1:=fun _=>⟨n1,hn1,t2⟩,g8:=fun _=>⟨g,X1.1.cells ev mv,rfl,hlt,⟨setRow_at hg.1,hg.2⟩,rfl,fun _=>rfl⟩,g9:=fun e=>by (obtain ⟨g',cs',rfl,e2,e3,e4⟩:=h.g9 e;have:=h.ne d8 e;exact ⟨g',cs',rfl,e2,hzo _ _ (by intro e';rw [e'] at this;exact this rfl) e3,e4⟩),o10:=fun _=>d8,o3:=fun _=>rfl}⟩
  | 11,h0,ho,hd=>
   obtain rfl:b11=false:=h0;obtain rfl:=Option.some.inj ho;have d9:b9=true:=hd ⟨9,Ground.data⟩ (by simp) rfl;have d7:b7=true:=hd ⟨7,Ground.data⟩ (by simp) rfl;have d10:b10=true:=hd ⟨10,Ground.chain⟩ (by simp) rfl;have d3:b3=true:=hd ⟨3,Ground.phase⟩ (by simp) rfl;refine ⟨n - 1,by subst hn;simp [Bool.toNat]<;>omega,?_⟩;clear h0 ho hd;refine wpOp_step rfl (fun K hK=> ?_);rw [if_pos (show Region.wanted _ _=true from rfl)];obtain rfl:=d3;obtain ⟨rr,ev,mv,rfl,hino,ho1,ho2⟩:=h.m7 d7;obtain ⟨g,cs,rfl,hlt,hg,hz8,_⟩:=h.g9 d9;have f:Fr (fun k=>k=g) w (w.setRow g (rr.cells ev mv)):=Fr.setRow (S:=fun k=>k=g) (Fr.refl w) (.inl rfl) _;have s:Step (fun c=>c=0) w o (w.setRow g (rr.cells ev mv)) o:=⟨f.mono (fun k _ e=>by rw [e];exact hg.2),fun _ _=>rfl,fun k hk=>h.fs k (Nat.le_trans f.size hk)⟩
   have hzo:∀b x,b≠g→Zero w o b x→Zero (w.setRow g (rr.cells ev mv)) o b x:=fun b x hb z=>⟨f.block_of z.1 hb,z.2⟩;have q1:=h.fr.trans f (fun j hj e=>by omega);have q2:=hzo _ _ (by omega) h.rb;obtain ⟨n1,hn1,t1⟩:=h.s1 rfl;have t2:=t1.step S1_inv.ok s (fun c h e=>by unfold stateC at h;omega);refine wp_store_row 29 (.tmp 4) (.tmp 19) rfl g (rr.cells ev mv) rfl rfl 29 cs hg.1 Tryz.size29 (by simp [RepS.cells,hz8]) (RepS.cells_one ho1 ho2) ?_;exact hK _ _ ⟨_,_,_,_,_,_,_,_,_,_,_,true,_,_,_,_,_,_,_,_,_,_,o,by subst hn;simp [Bool.toNat]<;>omega,rfl,rfl,{h with fr:=q1,fs:=s.fresh,rb:=q2,s0:=fun e=>(by cases e),s1:=fun _=>⟨n1,hn1,t2⟩,g9:=fun _=>⟨g,rr.cells ev mv,rfl,hlt,⟨setRow_at hg.1,hg.2⟩,rfl,fun _=>rfl⟩,g8:=fun e=>by (obtain ⟨g',cs',rfl,e2,e3,e4⟩:=h.g8 e;have:=h.ne e d9;exact ⟨g',cs',rfl,e2,hzo _ _ (by intro e';rw [e'] at this;exact this rfl) e3,e4⟩),o11:=fun _=>d9,o7:=fun _=>d7}⟩
  | k+12,h0,ho,hd=>exact absurd ho (by simp)
def GoodRqs (L:List Rq):Prop:=∀y∈L,∀s∈y.2.1,stpGood s.1
theorem fresh0 (w:World):Fresh w (fun _=>0):=fun _ _=>rfl
def Lies (w:World) (o:Nat→Nat) (L:Plc) (j:Nat) (p:St→Prop) (w':World):Prop:=
 ∃o' S,Step (stateC 0) w o w' o'∧StateAt w' o' 0 L S (100*j)∧StInv S (2*j)∧p S
theorem Lies.fr {w w' w0:World} {o:Nat→Nat} {L:Plc} {j:Nat} {p:St→Prop} (h:Lies w o L j p w') (f:Fr No w0 w) (h0:∀k,k<w0.heap.size→o k=0):Fr No w0 w':=by
 obtain ⟨_,_,s,_⟩:=h;exact f.trans s.fr (fun k hk e=>by
  rw [h0 k hk] at e;unfold stateC at e;omega)
def PgZ (Z:Nat→Prop) (w:World) (p base:Nat) (s:PenS):Prop:=
 ∃v,w.heap[p]? =some (.cells #[v,.int .i64 s.2] 122 (0,0))∧w.ownsRow base 5 1 v s.1.length (u8s s.1)∧base≤w.heap.size∧s.1.length≤65536∧(∀k,v.ownBlock=some k→¬Z k)∧∀k,Z k→k<w.heap.size
def PfZ (Z:Nat→Prop) (w:World) (p base:Nat) (k:Nat):Prop:=k=p∨(base≤k∧¬Z k∧∃cur fz,w.heap[k]? =some (.cells cur 5 fz))
theorem PgZ.no {Z:Nat→Prop} {w w':World} {p base:Nat} {s:PenS} (h:PgZ Z w p base s) (f:Fr No w w'):PgZ Z w' p base s:=by
 obtain ⟨v,hk,ho,hb,hl,hz,hy⟩:=h;refine ⟨v,f.block_of hk id,⟨ho.1,?_⟩,Nat.le_trans hb f.size,hl,hz,fun k e=>Nat.lt_of_lt_of_le (hy k e) f.size⟩;rcases ho.2 with h2|⟨g,cap,cur,rfl,hb,hh,r⟩
 ·exact .inl h2
 ·exact .inr ⟨g,cap,cur,rfl,hb,f.block_of hh id,r⟩
theorem PgZ.pg {Z:Nat→Prop} {w:World} {p base:Nat} {s:PenS} (h:PgZ Z w p base s):Pg w p base s:=by
 obtain ⟨v,h1,h2,h3,h4,_⟩:=h;exact ⟨v,h1,h2,h3,h4⟩
theorem PfZ.pf {Z:Nat→Prop} {w:World} {p base k:Nat} (h:PfZ Z w p base k):Pf w p base k:=by
 rcases h with e|⟨h1,_,h2⟩
 ·exact .inl e
 ·exact .inr ⟨h1,h2⟩
theorem Pg.z {Z:Nat→Prop} {w w':World} {p base:Nat} {s:PenS} (h:Pg w p base s) (f:Fr No w w') (hZ:∀k,Z k→w.heap.size≤k∧k<w'.heap.size):PgZ Z w' p base s:=by
 obtain ⟨v,hk,ho,hb,hl⟩:=h;refine ⟨v,f.block_of hk id,⟨ho.1,?_⟩,Nat.le_trans hb f.size,hl,fun k e hz=> ?_,fun k e=>(hZ k e).2⟩
 ·rcases ho.2 with h2|⟨g,cap,cur,rfl,hb,hh,r⟩
  ·exact .inl h2
  ·exact .inr ⟨g,cap,cur,rfl,hb,f.block_of hh id,r⟩
 ·rcases ho.2 with ⟨rfl,_⟩|⟨g,cap,cur,rfl,hb,hh,r⟩
  ·simp [Value.ownBlock] at e
  ·simp [Value.ownBlock] at e;subst e;have:=(hZ g hz).1;have:=lt_of_block hh;omega
theorem pfz_back {Z:Nat→Prop} {w w':World} {p base:Nat} (f:Fr No w w'):∀j,j<w.heap.size→PfZ Z w' p base j→PfZ Z w p base j:=by
 rintro j hj (e|⟨hb,hz,cur,fz,e⟩)
 ·exact .inl e
 ·exact .inr ⟨hb,hz,cur,fz,by rw [← f.block j hj id];exact e⟩
theorem pfz_trans {Z:Nat→Prop} {w w1 w2:World} {p base:Nat} (f:Fr (PfZ Z w p base) w w1) (g:Fr (PfZ Z w1 p base) w1 w2):Fr (PfZ Z w p base) w w2:=
 f.trans g (fun j hj e=>Classical.byContradiction fun hn=>hn (by
  rcases e with e|⟨hb,hz,cur,fz,e⟩
  ·exact .inl e
  ·exact .inr ⟨hb,hz,cur,fz,by rw [← f.block j hj hn];exact e⟩))
variable {Z:Nat→Prop}
theorem put_failZ (p base:Nat) (s:PenS) (e:Int) (he:(e !=0)=true) (w:World) (h:PgZ Z w p base s):
  Calls Tryz.prog 130 #[.pointer (some ⟨p,0,none⟩),.int .i64 e,.slice none 0 0] w fun x w'=>x=.returned (.tuple #[])∧PgZ Z w' p base (penFail s e)∧Fr (PfZ Z w p base) w w':=by
 obtain ⟨bs,bad⟩:=s;obtain ⟨v,hk,hown,hb,hl,hz,hy⟩:=h;have cb:w.cell? ⟨p,1,none⟩=some (.int .i64 bad):=by rw [cell_at hk];rfl
 have z1:=frozen_at hk 1;by_cases h0:bad=0
 ·subst h0;have HK:=lH hk;have HO:=lH hown;clear hk hown;go_enter Tryz.func130,Tryz.ntmps130;go_wp2_with fail
  go_end0
  have FS:Fr (fun k=>k=p) w (w.setCell ⟨p,1,none⟩ (.int .i64 e)):=Fr.setCell (S:=fun k=>k=p) (p:=⟨p,1,none⟩) (Fr.refl w) (.inl rfl) _;refine ⟨rfl,⟨v,?_,⟨HO.out.1,?_⟩,Nat.le_trans hb FS.size,hl,hz,fun k e=>Nat.lt_of_lt_of_le (hy k e) FS.size⟩,FS.mono (fun _ _ e=> .inl e)⟩
  ·simpa [penFail] using setCell_at HK.out 1 (.int .i64 e)
  ·rcases HO.out.2 with h|⟨g',cp,cur,h1,h2,h3,h4⟩
   ·exact .inl h
   ·exact .inr ⟨g',cp,cur,h1,h2,setCell_off h3 (fun e=>by have:=HK.out;rw [e,this] at h3;simp at h3) 1 _,h4⟩
 ·have t0:(bad !=0)=true:=by simpa using h0
  have HP:Hid (PgZ Z w p base (bs,bad)):=lH ⟨v,hk,hown,hb,hl,hz,hy⟩;have hf:penFail (bs,bad) e=(bs,bad):=by simp [penFail,h0]
  rw [hf];clear hk hown hf;go_enter Tryz.func130,Tryz.ntmps130;go_wp2_with fail
  go_end0
  exact ⟨rfl,HP.out,Fr.refl _⟩
theorem put_fitsZ (p base:Nat) (bs ys:List UInt8) (b off c:Nat) (w:World) (h:PgZ Z w p base (bs,0)) (hy:SlIs w (.slice (some ⟨b,off,none⟩) ys.length c) ys b off c) (h0:ys≠ []) (hl:bs.length+ys.length≤65536):
  Calls Tryz.prog 130 #[.pointer (some ⟨p,0,none⟩),.int .i64 0,.slice (some ⟨b,off,none⟩) ys.length c] w fun e w'=>e=.returned (.tuple #[])∧PgZ Z w' p base (bs++ys,0)∧Fr (PfZ Z w p base) w w':=by
 obtain ⟨v,hk,hown,hb,_,hz,hzl⟩:=h;dsimp only at hk hown;obtain ⟨_,hyc,hyb,hyx⟩:=hy;obtain ⟨i0,hi0,hz0,hz1,hz2⟩:=info_parts Tryz.info5;have HI:=lH hi0;have HZ0:=lH hz0;have HZ1:=lH hz1;have HZ2:=lH hz2;clear hi0 hz0 hz1 hz2;have tag:∀k,v.ownBlock=some k→base≤k∧∃cur,w.heap[k]? =some (.cells cur 5 (0,0)):=by
  intro k hk;rcases hown.2 with ⟨rfl,_⟩|⟨g,cp,cur,rfl,hb,hh,_⟩
  ·simp [Value.ownBlock] at hk
  ·simp [Value.ownBlock] at hk;subst hk;exact ⟨hb,cur,hh⟩
 obtain ⟨a,c1,rfl⟩:∃a c1,v=.slice a bs.length c1:=by
  rcases hown.2 with ⟨rfl,hn⟩|⟨g,cp,cur,rfl,_⟩
  ·exact ⟨none,0,by rw [hn]⟩
  ·exact ⟨_,_,rfl⟩
 have c0:w.cell? ⟨p,0,none⟩=some (.slice a bs.length c1):=by rw [cell_at hk];rfl
 have cb:w.cell? ⟨p,1,none⟩=some (.int .i64 0):=by rw [cell_at hk];rfl
 have z0:=frozen_at hk 0;have q1:¬(65536:Int) - (bs.length:Int)<(ys.length:Int):=by omega
 have hym:0<ys.length:=by cases ys with|nil=>exact absurd rfl h0|cons x r=>simp
 have HY:=lH hyx;have TAG:=lH tag;have HK:=lH hk;have HB:=lH hb;have HZN:=lH hz;have HZL:=lH hzl;have HLL:=lH hl;generalize hml:ys.length=m at*;have HM:=lH hml;generalize hnl:bs.length=n at*;have HN:=lH hnl;clear h0 hyx tag hk hb hml hnl hz hzl hl;go_enter Tryz.func130,Tryz.ntmps130;go_wp2_with (at_builtin;refine wpList_append_lies _ rfl _ _ 27 rfl base 5 i0 (.int .u8 0) 1 1 Tryz.underlying27 HI.out HZ0.out HZ1.out HZ2.out rfl (by decide) (.slice a n c1) n (u8s bs) rfl hown ⟨b,off,none⟩ m c (u8s ys) rfl ?d0 ?d1 ?d2 hym (by unfold maxLen;omega) (by omega) HB.out w.heap.size rfl ?_)
 case d0=>rw [u8s,List.length_map,HM.out]
 case d1=>
  intro j u hj;simp only [u8s,List.getElem?_map,Option.map_eq_some_iff] at hj;obtain ⟨x,hx,rfl⟩:=hj;exact HY.out j x hx
 case d2=>
  intro u hu;obtain ⟨x,_,rfl⟩:=List.mem_map.1 hu;rfl
 intro g cap w2 hown2 hgrow hat hgl;have bn:(Value.slice a n c1).ownBlock≠some p:=fun e=>by
  obtain ⟨_,cur,hh⟩:=TAG.out p e;rw [HK.out] at hh;simp at hh
 have F2:Fr (fun k=>(Value.slice a n c1).ownBlock=some k) w w2:=(Fr.refl (S:=fun k=>(Value.slice a n c1).ownBlock=some k) w).grown hgrow (fun k hk=> .inl hk);have k2:w2.heap[p]? =some (.cells #[.slice a n c1,.int .i64 0] 122 (0,0)):=F2.block_of HK.out bn;have c2:w2.cell? ⟨p,0,none⟩=some (.slice a n c1):=by rw [cell_at k2];rfl
 have z2:=frozen_at k2 0;have K2:=lH k2;have HO:=lH hown2;have HF:=lH F2;have HAT:=lH hat;clear hgrow hat hgl k2 hown2 F2 hown bn;go_wp2_with fail
 go_end0
 refine ⟨rfl,⟨.slice (some ⟨g,0,none⟩) (n+m) cap,?_,?_,?_,?_,?_,?_⟩,?_⟩
 ·have:=setCell_at K2.out 0 (.slice (some ⟨g,0,none⟩) (n+m) cap);simpa using this
 ·rw [List.length_append,HN.out,HM.out];have e:u8s (bs++ys)=u8s bs++u8s ys:=by simp [u8s]
  rw [e];refine ⟨HO.out.1,?_⟩;rcases HO.out.2 with h|⟨g',cp,cur,h1,h2,h3,h4⟩
  ·exact .inl h
  ·exact .inr ⟨g',cp,cur,h1,h2,setCell_off h3 (fun e=>by have:=K2.out;rw [e,this] at h3;simp at h3) 0 _,h4⟩
 ·exact Nat.le_trans HB.out (by simpa [World.setCell] using HF.out.size)
 ·rw [List.length_append,HN.out,HM.out];exact HLL.out
 ·intro k e hk;simp [Value.ownBlock] at e;subst e;rcases HAT.out with h|h
  ·exact HZN.out _ h hk
  ·have:=HZL.out _ hk;omega
 ·intro k hk;exact Nat.lt_of_lt_of_le (HZL.out k hk) (by simpa [World.setCell] using HF.out.size)
 ·refine Fr.setCell (HF.out.mono (fun k _ hk=> ?_)) (.inl (.inl rfl)) _;exact .inr ⟨(TAG.out k hk).1,HZN.out k hk,by obtain ⟨_,cur,h⟩:=TAG.out k hk;exact ⟨cur,_,h⟩⟩
theorem put_bytesZ (p base:Nat) (s:PenS) (ys:List UInt8) (b off c:Nat) (w:World) (h:PgZ Z w p base s) (hy:SlIs w (.slice (some ⟨b,off,none⟩) ys.length c) ys b off c) (h0:ys≠ []) (hm:ys.length≤1000000):
  Calls Tryz.prog 130 #[.pointer (some ⟨p,0,none⟩),.int .i64 0,.slice (some ⟨b,off,none⟩) ys.length c] w fun x w'=>x=.returned (.tuple #[])∧PgZ Z w' p base (penPut s ys)∧Fr (PfZ Z w p base) w w':=by
 obtain ⟨bs,bad⟩:=s;by_cases hb:bad=0
 ·subst hb;by_cases hf:bs.length+ys.length≤65536
  ·refine (put_fitsZ p base bs ys b off c w h hy h0 hf).mono ?_;rintro x w' ⟨rfl,h1,h2⟩;have e:penPut (bs,0) ys=(bs++ys,0):=(by simp [penPut];omega)
   rw [e];exact ⟨rfl,h1,h2⟩
  ·have e:penPut (bs,0) ys=(bs,3):=by simp [penPut];omega
   rw [e];obtain ⟨v,hk,hown,hb,hl,hz,hzl⟩:=h;obtain ⟨a,c1,rfl⟩:∃a c1,v=.slice a bs.length c1:=by
    rcases hown.2 with ⟨rfl,hn⟩|⟨g,cp,cur,rfl,_⟩
    ·exact ⟨none,0,by rw [hn]⟩
    ·exact ⟨_,_,rfl⟩
   have c0:w.cell? ⟨p,0,none⟩=some (.slice a bs.length c1):=(by rw [cell_at hk];rfl)
   have cb:w.cell? ⟨p,1,none⟩=some (.int .i64 0):=(by rw [cell_at hk];rfl)
   have z1:=frozen_at hk 1;have q1:(65536:Int) - (bs.length:Int)<(ys.length:Int):=(by omega)
   have HK:=lH hk;have HO:=lH hown;have HZN:=lH hz;have HZL:=lH hzl;clear hk hown hy hz hzl;generalize hml:ys.length=m at*;generalize hnl:bs.length=n at*;have HN:=lH hnl;clear hml hnl;go_enter Tryz.func130,Tryz.ntmps130;go_wp2_with fail
   go_end0
   have FS:Fr (fun k=>k=p) w (w.setCell ⟨p,1,none⟩ (.int .i64 3)):=Fr.setCell (S:=fun k=>k=p) (p:=⟨p,1,none⟩) (Fr.refl w) (.inl rfl) _;refine ⟨rfl,⟨_,by simpa using setCell_at HK.out 1 (.int .i64 3),⟨by simp [u8s],?_⟩,Nat.le_trans hb FS.size,by rw [HN.out];exact hl,HZN.out,fun k e=>Nat.lt_of_lt_of_le (HZL.out k e) FS.size⟩,FS.mono (fun _ _ e=> .inl e)⟩;rw [HN.out];rcases HO.out.2 with h|⟨g',cp,cur,h1,h2,h3,h4⟩
   ·exact .inl h
   ·exact .inr ⟨g',cp,cur,h1,h2,setCell_off h3 (fun e=>by have:=HK.out;rw [e,this] at h3;simp at h3) 1 _,h4⟩
 ·have t0:(bad !=0)=true:=by simpa using hb
  have e:penPut (bs,bad) ys=(bs,bad):=by simp [penPut,hb]
  rw [e];have HP:=lH h;obtain ⟨v,hk,hown,hb,hl,hz,hzl⟩:=h;have cb:w.cell? ⟨p,1,none⟩=some (.int .i64 bad):=by rw [cell_at hk];rfl
  clear hk hown hy e;go_enter Tryz.func130,Tryz.ntmps130;go_wp2_with fail
  go_end0
  exact ⟨rfl,HP.out,Fr.refl _⟩
theorem num_okZ (p base wd:Nat) (s:PenS) (x:Nat) (h1:1≤wd) (h2:wd≤7) (hx:x<2 ^ (8*wd)) (w:World) (h:PgZ Z w p base s):
  Calls Tryz.prog 76 #[.pointer (some ⟨p,0,none⟩),.int .i64 x,.int .i64 wd] w fun e w'=>e=.returned (.tuple #[])∧PgZ Z w' p base (penPut s (numB wd x))∧Fr (PfZ Z w p base) w w':=by
 have t1:(1:Int)≤(wd:Int):=by omega
 have t2:(wd:Int)≤7:=by omega
 have t3:¬(x:Int)<0:=by omega
 have t4:((x:Int) / 2 ^ (8*wd) !=0)=false:=by
  have:(x:Int) / 2 ^ (8*wd)=0:=by
   have e:((x:Int) / 2 ^ (8*wd))=((x / 2 ^ (8*wd):Nat):Int):=(by simp)
   rw [e,Nat.div_eq_of_lt hx];rfl
  simp [this]
 have HP:=lH h;have HX:=lH hx;obtain ⟨i0,hi,hz0,hz1,hz2⟩:=info_parts Tryz.info5;have HI:=lH hi;have HZ0:=lH hz0;have HZ1:=lH hz1;have HZ2:=lH hz2;clear hi hz0 hz1 hz2 h hx;have hown0:w.ownsRow w.heap.size 5 1 (.slice none 0 0) 0 []:=⟨rfl,.inl ⟨rfl,rfl⟩⟩
 go_enter Tryz.func76,Tryz.ntmps76;go_wp2_with (go_at_call 129;go_in);go_loopw [6,7] (fun b i wr=>∃m:Nat,i=.int .i64 ((m:Int) - 1)∧m≤wd∧wr.ownsRow w.heap.size 5 1 b (wd - m) (u8s ((numB wd x).take (wd - m)))∧Fr No w wr) (fun _ i _=>(intOf i+1).toNat)
 case atStart=>
  refine ⟨wd,rfl,Nat.le_refl _,?_,Fr.refl _⟩;rw [Nat.sub_self];exact hown0
 case round=>
  obtain ⟨m,rfl,hm,hown,f2⟩:=hrel;clear hown0;rcases m with _|m
  ·rw [Nat.sub_zero,List.take_of_length_le (by rw [numB_length];exact Nat.le_refl _)] at hown;obtain ⟨g,cap,rfl,sl⟩:∃g cap,u6=.slice (some ⟨g,0,none⟩) wd cap∧SlIs wr (.slice (some ⟨g,0,none⟩) (numB wd x).length cap) (numB wd x) g 0 cap:=by
    rcases hown.2 with ⟨_,hn⟩|⟨g,cap,cur,rfl,_⟩
    ·exact absurd hn (by omega)
    ·exact ⟨g,cap,rfl,own1_is hown (numB_length wd x).symm⟩
   have SL:=lH sl;have HB:=lH (put_bytesZ p base s (numB wd x) g 0 cap wr (HP.out.no f2) SL.out (by intro e;have:=numB_length wd x;rw [e] at this;simp at this;omega) (by rw [numB_length];omega));rw [numB_length] at HB;clear sl hown;go_wp2_with fail;refine HB.out.mono ?_;rintro e w9 ⟨rfl,h9,f9⟩;have H9:=lH h9;clear h9;go_wp2_with fail
   go_end0
   exact ⟨rfl,H9.out,f2.of_no.trans f9 (pfz_back f2)⟩
  ·rw [show (((m+1:Nat)):Int) - 1=(m:Int) by omega];have q0:(0:Int)≤(m:Int):=(by omega)
   have q1:IntKind.i64.wrap (8*(m:Int))=8*(m:Int):=IntWalk.i64_in _ (by omega);have q2:(0:Int)≤8*(m:Int):=(by omega)
   have q3:8*(m:Int)<64:=(by omega)
   have q4:(8*(m:Int)).toNat=8*m:=(by omega)
   go_wp2_with (at_builtin;refine wpList_append_lies _ rfl _ _ 27 rfl w.heap.size 5 i0 (.int .u8 0) 1 1 Tryz.underlying27 HI.out HZ0.out HZ1.out HZ2.out rfl (by decide) u6 (wd - (m+1)) (u8s ((numB wd x).take (wd - (m+1)))) rfl (hown.alloc _) ⟨wr.heap.size,0,none⟩ 1 1 [.int .u8 ((x:Int) / 2 ^ (8*m) % 256)] rfl rfl ?d1 ?d2 (by decide) (by unfold maxLen;omega) (by omega) ?d5 (wr.heap.size+1) ?d6 ?_)
   case d1=>exact World.news_of_block (cs:= #[.int .u8 ((x:Int) / 2 ^ (8*m) % 256)]) (t:=5) (fr:=(0,0)) (heap_alloc_new wr _)
   case d2=>simp [Value.oneCell']
   case d5=>have:=f2.size;simp;omega
   case d6=>simp
   intro g cap w1 hown1 hgrow1 hat1 hgl1;have F1:Fr No w w1:=f2.alloc _|>.grown hgrow1 (fun z hz=> .inr (own1_base hown z hz))
   have HO1:Hid (w1.ownsRow w.heap.size 5 1 (.slice (some ⟨g,0,none⟩) (wd - (m+1)+1) cap) (wd - m) (u8s ((numB wd x).take (wd - m)))):=lH (by
    rw [numB_step wd x m hm,show wd - m=wd - (m+1)+1 by omega];have e:u8s ((numB wd x).take (wd - (m+1))++ [UInt8.ofNat (x / 2 ^ (8*m) % 256)])=u8s ((numB wd x).take (wd - (m+1)))++ [.int .u8 ((x:Int) / 2 ^ (8*m) % 256)]:=by
     simp [u8s]
    rw [e];exact hown1)
   clear hown1 hgrow1 hat1 hgl1 hown f2;go_wp2_with fail;go_roundw
   case rel=>
    exact ⟨m,rfl,by omega,HO1.out,F1⟩
   case measure=>simp [intOf]
theorem num_lowZ (p base wd:Nat) (s:PenS) (x:Int) (h1:1≤wd) (h2:wd≤7) (hx:x<0) (w:World) (h:PgZ Z w p base s):
  Calls Tryz.prog 76 #[.pointer (some ⟨p,0,none⟩),.int .i64 x,.int .i64 wd] w fun e w'=>e=.returned (.tuple #[])∧PgZ Z w' p base (penFail s 1)∧Fr (PfZ Z w p base) w w':=by
 have t1:(1:Int)≤(wd:Int):=by omega
 have t2:(wd:Int)≤7:=by omega
 have HB:=lH (put_failZ p base s 1 rfl w h);go_enter Tryz.func76,Tryz.ntmps76;go_wp2_with (go_at_call 129;go_in);refine HB.out.mono ?_;rintro e w9 ⟨rfl,h9,f9⟩;have H9:=lH h9;clear h9;go_wp2_with fail;exact bodyPost_ret (v:=.tuple #[]) (by simp [results,Tryz.results76,go_sem]) rfl ⟨rfl,H9.out,f9⟩
theorem num_highZ (p base wd:Nat) (s:PenS) (x:Nat) (h1:1≤wd) (h2:wd≤7) (hx:2 ^ (8*wd)≤x) (w:World) (h:PgZ Z w p base s):
  Calls Tryz.prog 76 #[.pointer (some ⟨p,0,none⟩),.int .i64 x,.int .i64 wd] w fun e w'=>e=.returned (.tuple #[])∧PgZ Z w' p base (penFail s 1)∧Fr (PfZ Z w p base) w w':=by
 have t1:(1:Int)≤(wd:Int):=by omega
 have t2:(wd:Int)≤7:=by omega
 have t3:¬(x:Int)<0:=by omega
 have t4:((x:Int) / 2 ^ (8*wd) !=0)=true:=by
  have e:((x:Int) / 2 ^ (8*wd))=((x / 2 ^ (8*wd):Nat):Int):=by simp
  rw [e];have:0<x / 2 ^ (8*wd):=Nat.div_pos hx (Nat.two_pow_pos _);simp;omega
 have HB:=lH (put_failZ p base s 1 rfl w h);clear hx;go_enter Tryz.func76,Tryz.ntmps76;go_wp2_with (go_at_call 129;go_in);refine HB.out.mono ?_;rintro e w9 ⟨rfl,h9,f9⟩;have H9:=lH h9;clear h9;go_wp2_with fail;exact bodyPost_ret (v:=.tuple #[]) (by simp [results,Tryz.results76,go_sem]) rfl ⟨rfl,H9.out,f9⟩
theorem num_Z (p base wd:Nat) (s:PenS) (x:Int) (h1:1≤wd) (h2:wd≤7) (w:World) (h:PgZ Z w p base s):
  Calls Tryz.prog 76 #[.pointer (some ⟨p,0,none⟩),.int .i64 x,.int .i64 wd] w fun e w'=>e=.returned (.tuple #[])∧PgZ Z w' p base (penNum s x wd)∧Fr (PfZ Z w p base) w w':=by
 by_cases hx:x<0
 ·rw [show penNum s x wd=penFail s 1 by unfold penNum;rw [if_neg (by omega)]];exact num_lowZ p base wd s x h1 h2 hx w h
 ·obtain ⟨n,rfl⟩:∃n:Nat,x=n:=⟨x.toNat,by omega⟩
  by_cases hl:n<2 ^ (8*wd)
  ·have e:penNum s n wd=penPut s (numB wd n):=by
    unfold penNum;rw [if_pos ⟨by omega,by exact_mod_cast hl⟩];simp
   rw [e];exact num_okZ p base wd s n h1 h2 hl w h
  ·have e:penNum s n wd=penFail s 1:=by
    unfold penNum;rw [if_neg (fun h=>hl (by exact_mod_cast h.2))]
   rw [e];exact num_highZ p base wd s n h1 h2 (by omega) w h
theorem raw_noneZ (p base:Nat) (s:PenS) (v:Value) (hv:v=.slice none 0 0∨∃b off c,v=.slice (some ⟨b,off,none⟩) 0 c) (w:World) (h:PgZ Z w p base s):
  Calls Tryz.prog 77 #[.pointer (some ⟨p,0,none⟩),v] w fun e w'=>e=.returned (.tuple #[])∧PgZ Z w' p base (penPut s [0,0])∧Fr (PfZ Z w p base) w w':=by
 have HP:=lH h;clear h;have F0:Fr No w (w.alloc (.cells #[.int .u8 0,.int .u8 0] 5)):=(Fr.refl w).alloc _;have HB:=lH (put_bytesZ p base s [0,0] w.heap.size 0 2 (w.alloc (.cells #[.int .u8 0,.int .u8 0] 5)) (HP.out.no F0) (is_new w [0,0]) (by simp) (by simp));rcases hv with rfl|⟨b,off,c,rfl⟩;all_goals
  go_enter Tryz.func77,Tryz.ntmps77;go_wp2_with fail;refine HB.out.mono ?_;rintro e w9 ⟨rfl,h9,f9⟩;have H9:=lH h9;clear h9;go_wp2_with fail
  go_end0
  exact ⟨rfl,H9.out,F0.of_no.trans f9 (pfz_back F0)⟩
theorem raw_someZ (p base:Nat) (s:PenS) (ys:List UInt8) (b off c:Nat) (w:World) (hy:SlIs w (.slice (some ⟨b,off,none⟩) ys.length c) ys b off c) (h0:ys≠ []) (hm:ys.length≤65535) (h:PgZ Z w p base s):
  Calls Tryz.prog 77 #[.pointer (some ⟨p,0,none⟩),.slice (some ⟨b,off,none⟩) ys.length c] w fun e w'=>e=.returned (.tuple #[])∧PgZ Z w' p base (penPut s (numB 2 ys.length++ys))∧Fr (PfZ Z w p base) w w':=by
 have HP:=lH h;obtain ⟨_,hyc,hyb,hyx⟩:=hy;obtain ⟨i0,hi0,hz0,hz1,hz2⟩:=info_parts Tryz.info5;have HI:=lH hi0;have HZ0:=lH hz0;have HZ1:=lH hz1;have HZ2:=lH hz2;have HY:=lH hyx;have H0:=lH h0;have hml0:0<ys.length:=by cases ys with|nil=>exact absurd rfl h0|cons x r=>simp
 clear hi0 hz0 hz1 hz2 h hyx h0;have q0:¬(65535:Int)<(ys.length:Int):=by omega
 generalize hml:ys.length=m at*;have HM:=lH hml;clear hml;have hown:(w.alloc (.cells #[.int .u8 ((m:Int) / 256),.int .u8 ((m:Int) % 256)] 5)).ownsRow w.heap.size 5 1 (.slice (some ⟨w.heap.size,0,none⟩) 2 2) 2 [.int .u8 ((m:Int) / 256),.int .u8 ((m:Int) % 256)]:=
  ⟨rfl,.inr ⟨w.heap.size,2,_,rfl,Nat.le_refl _,new_at w _,Nat.le_refl _,by decide,rfl,rfl⟩⟩
 have f0:Fr No w (w.alloc (.cells #[.int .u8 ((m:Int) / 256),.int .u8 ((m:Int) % 256)] 5)):=(Fr.refl w).alloc _;have F0:=lH f0;go_enter Tryz.func77,Tryz.ntmps77;go_wp2_with (at_builtin;refine wpList_append_lies _ rfl _ _ 27 rfl w.heap.size 5 i0 (.int .u8 0) 1 1 Tryz.underlying27 HI.out HZ0.out HZ1.out HZ2.out rfl (by decide) (.slice (some ⟨w.heap.size,0,none⟩) 2 2) 2 [.int .u8 ((m:Int) / 256),.int .u8 ((m:Int) % 256)] rfl hown ⟨b,off,none⟩ m c (u8s ys) rfl ?d0 ?d1 ?d2 hml0 (by unfold maxLen;omega) (by omega) ?d5 (w.heap.size+1) ?d6 ?_)
 case d0=>rw [u8s,List.length_map,HM.out]
 case d1=>
  intro j u hj;simp only [u8s,List.getElem?_map,Option.map_eq_some_iff] at hj;obtain ⟨x,hx,rfl⟩:=hj;exact HY.out j x hx
 case d2=>
  intro u hu;obtain ⟨x,_,rfl⟩:=List.mem_map.1 hu;rfl
 intro g cap w2 hown2 hgrow hat hgl;have F2:Fr No w w2:=f0.grown hgrow (fun z hz=>by simp [Value.ownBlock] at hz;exact .inr (by omega));have hnb:numB 2 m= [UInt8.ofNat (m / 256 % 256),UInt8.ofNat (m % 256)]:=numB2 m;have hl2:(numB 2 m++ys).length=2+m:=by rw [List.length_append,numB_length,HM.out]
 have SL:Hid (SlIs w2 (.slice (some ⟨g,0,none⟩) (numB 2 m++ys).length cap) (numB 2 m++ys) g 0 cap):=lH (by
  refine own1_is (base:=w.heap.size) (n:=(numB 2 m++ys).length) ?_ rfl;have e:u8s (numB 2 m++ys)= [.int .u8 ((m:Int) / 256),.int .u8 ((m:Int) % 256)]++u8s ys:=by
   rw [hnb];simp [u8s];omega
  rw [hl2,e];exact hown2)
 have HB:=lH (put_bytesZ p base s (numB 2 m++ys) g 0 cap w2 (HP.out.no F2) SL.out (by rw [hnb];simp) (by rw [hl2];omega));rw [hl2] at HB;clear hown hown2 hgrow hat hgl f0 hnb hl2 SL;go_wp2_with fail;refine HB.out.mono ?_;rintro e w9 ⟨rfl,h9,f9⟩;have H9:=lH h9;clear h9;go_wp2_with fail
 go_end0
 exact ⟨rfl,H9.out,F2.of_no.trans f9 (pfz_back F2)⟩
theorem raw_longZ (p base:Nat) (s:PenS) (n:Nat) (b off c:Nat) (w:World) (hm:65535<n) (h:PgZ Z w p base s):
  Calls Tryz.prog 77 #[.pointer (some ⟨p,0,none⟩),.slice (some ⟨b,off,none⟩) n c] w fun e w'=>e=.returned (.tuple #[])∧PgZ Z w' p base (penFail s 3)∧Fr (PfZ Z w p base) w w':=by
 have q0:(65535:Int)<(n:Int):=by omega
 have HB:=lH (put_failZ p base s 3 rfl w h);clear h;go_enter Tryz.func77,Tryz.ntmps77;go_wp2_with fail;refine HB.out.mono ?_;rintro e w9 ⟨rfl,h9,f9⟩;have H9:=lH h9;clear h9;go_wp2_with fail;exact bodyPost_ret (v:=.tuple #[]) (by simp [results,Tryz.results77,go_sem]) rfl ⟨rfl,H9.out,f9⟩
theorem raw_Z (p base:Nat) (s:PenS) (v:Value) (ys:List UInt8) (w:World) (hy:Bs w v ys) (h:PgZ Z w p base s):
  Calls Tryz.prog 77 #[.pointer (some ⟨p,0,none⟩),v] w fun e w'=>e=.returned (.tuple #[])∧PgZ Z w' p base (penRaw s ys)∧Fr (PfZ Z w p base) w w':=by
 rcases hy with ⟨rfl,rfl⟩|⟨b,off,c,rfl,sl⟩
 ·exact raw_noneZ p base s _ (.inl rfl) w h
 ·by_cases h0:ys= []
  ·subst h0;exact raw_noneZ p base s _ (.inr ⟨b,off,c,rfl⟩) w h
  ·by_cases hl:65535<ys.length
   ·rw [show penRaw s ys=penFail s 3 by simp [penRaw,hl]];exact raw_longZ p base s _ b off c w hl h
   ·rw [show penRaw s ys=penPut s (numB 2 ys.length++ys) by simp [penRaw,hl]];exact raw_someZ p base s ys b off c w ⟨rfl,sl⟩ h0 (by omega) h
def RowNew {α:Type} (c:α→List Value) (n:Nat) (t:TypeId) (w:World) (base:Nat) (v:Value) (L:List α):Prop:=(v=.slice none 0 0∧L= [])∨∃b cap,v=.slice (some ⟨b,0,none⟩) L.length cap∧cap≤maxLen∧base≤b∧RowB c n t w b cap L
theorem own_newR {α:Type} {c:α→List Value} {n:Nat} {t:TypeId} (hc:∀x,(c x).length=n) {w:World} {base:Nat} {v:Value} {L:List α} (h:w.ownsRow base t n v L.length (L.flatMap c)):RowNew c n t w base v L:=by
 obtain ⟨_,⟨rfl,h0⟩|⟨g,cap,cur,rfl,hg,hb,hn,hm,hs,ht⟩⟩:=h
 ·exact .inl ⟨rfl,List.length_eq_zero_iff.1 h0⟩
 ·refine .inr ⟨g,cap,rfl,hm,hg,RowB.of_block hc hb (Nat.le_of_eq hs.symm) hn (fun k u hk=> ?_)⟩;rw [← ht,List.getElem?_take] at hk;split at hk
  ·simpa using hk
  ·cases hk
theorem RowNew.fr {α:Type} {c:α→List Value} {n:Nat} {t:TypeId} {S:Nat→Prop} {w w':World} {base:Nat} {v:Value} {L:List α} (h:RowNew c n t w base v L) (f:Fr S w w') (hS:∀j,base≤j→¬S j):RowNew c n t w' base v L:=by
 rcases h with h|⟨b,cap,e,hm,hb,hr⟩
 ·exact .inl h
 ·exact .inr ⟨b,cap,e,hm,hb,hr.fr f (hS b hb)⟩
theorem RowNew.shape {α:Type} {c:α→List Value} {n:Nat} {t:TypeId} {w:World} {base:Nat} {v:Value} {L:List α} (h:RowNew c n t w base v L):∃b cap,v=.slice b L.length cap:=by
 rcases h with ⟨rfl,rfl⟩|⟨b,cap,e,_⟩
 ·exact ⟨none,0,rfl⟩
 ·exact ⟨_,_,e⟩
theorem MapLen.few {m:FMap} (h:MapLen m):m.l.length≤1000:=by
 obtain ⟨h1,h2⟩:=h;unfold blocksN at h2;omega
end Go.Proofs.YtlcojhddnpmgmaaGreat
