/- Part of the proof; the last text says what is proved. -/
import Derived.Test.YtlcojhddnpmgmaaGreatW30
import Derived.Test.YtlcojhddnpmgmaaGreatW31
import Derived.Test.YtlcojhddnpmgmaaGreatW32
import Derived.Test.YtlcojhddnpmgmaaGreatW33
import Derived.Test.YtlcojhddnpmgmaaGreatW34
set_option linter.unusedSimpArgs false
set_option linter.unusedVariables false
set_option maxRecDepth 100000
set_option maxHeartbeats 3200000
namespace Go.Proofs.YtlcojhddnpmgmaaGreat
open Go.RowKit
theorem Deed.more {w w':World} {o:Nat→Nat} {K n n':Nat} {L:Plc} {x:Int×RepS×St} {e:Ending} (h:Deed w o K L n x e w') (hn:n≤n'):Deed w o K L n' x e w':=by
 obtain ⟨⟨o',s,t⟩,he⟩:=h;exact ⟨⟨o',s,t.more hn⟩,he⟩
def deedF (r:Req) (st:List Sz) (dl:List Dl) (k:Int) (S:St):Int×RepS×St:=
 if k=1 then makeD S r else if k=2 then removeD S r else if k=3 then moveD S r else if k=4 then lookD S r else if k=5 then listD S r else if k=6 then openD S r else if k=7 then commitD S r st dl else mapD S r
structure Small (r:Req) (st:List Sz) (dl:List Dl):Prop where
 path:r.path.length≤300
 dest:r.to.length≤300
 few:st.length≤60
 some_:dl.length≤100
 good:∀x∈st,stpGood x.1
theorem fine_all {S:St} {q:Nat} (h:StInv S q) (r:Req) (st:List Sz) (dl:List Dl) (k:Int) (hc:0≤r.c∧r.c<4):Fine (q+1) (deedF r st dl k S):=by
 have h':=h.more (Nat.le_succ q);unfold deedF;split
 ·exact fine_make h' r
 ·split
  ·exact fine_remove h' r
  ·split
   ·exact fine_move h' r
   ·split
    ·exact fine_look h' r
    ·split
     ·exact fine_list h' r
     ·split
      ·exact fine_open h r hc
      ·split
       ·exact fine_commit h' r st dl
       ·exact fine_map h' r
theorem win_all (S:St) (r:Req) (st:List Sz) (dl:List Dl) (k:Int):(deedF r st dl k S).2.2.W=S.W:=by
 unfold deedF;split
 ·unfold makeD makeS;split<;>rfl
 ·split
  ·unfold removeD removeS;split
   ·rfl
   ·split
    ·rfl
    ·split
     ·rfl
     ·dsimp only;split<;>rfl
  ·split
   ·unfold moveD;split<;>rfl
   ·split
    ·unfold lookD;split<;>rfl
    ·split
     ·unfold listD;split<;>rfl
     ·split
      ·unfold openD;split
       ·rfl
       ·split
        ·rfl
        ·split<;>rfl
      ·split
       ·unfold commitD;split
        ·rfl
        ·split
         ·rfl
         ·split
          ·rfl
          ·split
           ·rfl
           ·rfl
       ·unfold mapD;split<;>rfl
theorem deed_all (o:Nat→Nat) (K n q:Nat) (L:Plc) (S:St) (r:Req) (rv dv:Value) (st:List Sz) (dl:List Dl) (k:Int) (w:World) (hk:1≤k∧k≤8) (h:StateAt w o K L S n) (inv:StInv S q) (hf:Fresh w o) (hr:RowsAt szC 4 w o rv st) (hd:RowsAt dlC 14 w o dv dl) (sm:Small r st dl) (hc:0≤r.c∧r.c<4) (hq:q≤100000) (hn:n≤500000):
  Calls Tryz.prog (81+k.toNat) #[.pointer (some ⟨L.s,0,none⟩),.agg (r.cells rv dv)] w (Deed w o K L (n+100) (deedF r st dl k S)):=by
 have p1:=sm.path;have p2:=sm.dest;have p3:=sm.few;have p4:=sm.some_;have fit:=inv.fits (by omega);have hk':k=1∨k=2∨k=3∨k=4∨k=5∨k=6∨k=7∨k=8:=by omega
 rcases hk' with rfl|rfl|rfl|rfl|rfl|rfl|rfl|rfl
 ·exact (dmake_ o K n L S r rv dv w h inv.ok hf (by omega) (by omega)).mono (fun e w' x=>x.more (by omega))
 ·exact (dremove_ o K n L S r rv dv w h inv.ok inv.pts hf (by omega) (by omega)).mono (fun e w' x=>x.more (by omega))
 ·exact (dmove_ o K n L S r rv dv w h inv.ok hf (by omega) (by omega)).mono (fun e w' x=>x.more (by omega))
 ·exact (dlook_ o K n L S r rv dv w h inv.ok hf (by omega)).mono (fun e w' x=>x.more (by omega))
 ·exact (dlist_ o K n L S r rv dv w h inv.ok hf (by omega)).mono (fun e w' x=>x.more (by omega))
 ·exact (dopen_ o K n L S r rv dv w h inv.ok fit hf (by omega) hc).mono (fun e w' x=>x.more (by omega))
 ·exact (dcommit_ o K n L S r rv dv st dl w h inv.ok fit inv.pts hf hr hd sm.good hc (by omega) (by omega) (by omega)).mono (fun e w' x=>x.more (by omega))
 ·exact (dmap_ o K n L S r rv dv w h inv.ok fit hf).mono (fun e w' x=>x.more (by omega))
theorem tried_all (o:Nat→Nat) (K n q:Nat) (L:Plc) (S:St) (r:Req) (rv dv:Value) (st:List Sz) (dl:List Dl) (k:Int) (w:World) (hk:1≤k∧k≤8) (h:StateAt w o K L S n) (inv:StInv S q) (hf:Fresh w o) (hr:RowsAt szC 4 w o rv st) (hd:RowsAt dlC 14 w o dv dl) (sm:Small r st dl) (hc:0≤r.c∧r.c<4) (hq:q≤100000) (hn:n≤500000):
  Calls Tryz.prog 49 #[.pointer (some ⟨L.s,0,none⟩),deedV k,.agg (r.cells rv dv)] w (Tried w o K L (n+100) (triedOf (deedF r st dl k S))):=by
 obtain ⟨f0,_,_,H0,G0⟩:=begun h inv.ok hf r rv dv;have hD:=deed_all o K n q L S r rv dv st dl k _ hk H0 inv G0 (hr.no hf f0) (hd.no hf f0) sm hc hq hn;have ok':=(fine_all inv r st dl k hc).inv.ok;have hv:deedV k=.func (Fn.func (81+k.toNat)) #[] #[]:=if_pos hk;rw [hv];generalize deedF r st dl k S=x at*;have hk':k=1∨k=2∨k=3∨k=4∨k=5∨k=6∨k=7∨k=8:=by omega
 rcases hk' with rfl|rfl|rfl|rfl|rfl|rfl|rfl|rfl
 ·exact gtried_ 82 (by simp) o K _ L x r rv dv w hf ok' hD
 ·exact gtried_ 83 (by simp) o K _ L x r rv dv w hf ok' hD
 ·exact gtried_ 84 (by simp) o K _ L x r rv dv w hf ok' hD
 ·exact gtried_ 85 (by simp) o K _ L x r rv dv w hf ok' hD
 ·exact gtried_ 86 (by simp) o K _ L x r rv dv w hf ok' hD
 ·exact gtried_ 87 (by simp) o K _ L x r rv dv w hf ok' hD
 ·exact gtried_ 88 (by simp) o K _ L x r rv dv w hf ok' hD
 ·exact gtried_ 89 (by simp) o K _ L x r rv dv w hf ok' hD
def tell (x:RepS×St):RepS×St:=(withSw x.1 x.2.swaps,x.2)
def Did (S:St) (r:Req) (st:List Sz) (dl:List Dl) (x:RepS×St):Prop:=
 if r.kind=10 then x=tell (triedOf (bootD S r)) else if r.kind=11 then x=tell (triedOf (swapD S r)) else if r.kind=9 then x=tell (triedOf (movedD S r st dl))
 else if ¬(1≤r.kind∧r.kind≤8) then x=tell (plainRep 1 0 0 0 0 false,S)
 else if (askOf S.W r.c r.l r.q).1=1 then x.2=S∧(askOf S.W r.c r.l r.q).2=some x.1.bytes∧x.1.ok
 else if (askOf S.W r.c r.l r.q).1=2 then x=tell (plainRep 17 0 0 0 0 false,S)
 else x=tell (askedS (triedOf (deedF r st dl r.kind (askB S r.c.toNat (askOf S.W r.c r.l r.q).1))) r.c.toNat r)
theorem ask_cases (W:Nat→Option WRow) (c l s:Int):(askOf W c l s=(2,none))∨(0≤c∧c<4)∧(askOf W c l s=(3,none)∨askOf W c l s=(2,none)∨askOf W c l s=(0,none)∨∃y,W c.toNat=some y∧askOf W c l s=(1,some y.2.2)):=by
 unfold askOf;split
 ·rename_i h
  refine .inr ⟨⟨h.1,h.2.1⟩,?_⟩;cases hW:W c.toNat with
  | none=>exact .inl rfl
  | some y=>
   obtain ⟨life,seq,bs⟩:=y;dsimp only;unfold kindOf;split
   ·exact .inr (.inl (by simp))
   ·split
    ·exact .inl (by simp)
    ·split
     ·exact .inr (.inr (.inr ⟨(life,seq,bs),rfl,by simp⟩))
     ·exact .inr (.inr (.inl (by simp)))
 ·exact .inl rfl
theorem StInv.askB {S:St} {q:Nat} (h:StInv S q) (c:Nat) (kind:Int):StInv (askB S c kind) (q+1):=by
 have h':=h.more (Nat.le_succ q);have hcl:=h.clock;unfold Go.Proofs.YtlcojhddnpmgmaaGreat.askB;split
 ·refine ⟨⟨h.ok.tree,h.ok.file⟩,h.pts,h.dir,fun x hx=>h.tok x (List.mem_filter.1 hx).1,fun x hx=>h.small x (List.mem_filter.1 hx).1,Nat.le_trans (List.length_filter_le _ _) h'.few,h'.boots,h'.swaps,?_,h.win⟩;dsimp only;omega
 ·refine ⟨⟨h.ok.tree,h.ok.file⟩,h.pts,h.dir,h.tok,h.small,h'.few,h'.boots,h'.swaps,?_,h.win⟩;dsimp only;omega
theorem tried_rep {x:Int×RepS×St} {q:Nat} (h:Fine q x) {s:Int} (hs:0≤s∧s<16777216):(withSw (triedOf x).1 s).ok∧0≤(withSw (triedOf x).1 s).e∧(withSw (triedOf x).1 s).e≤18:=by
 unfold triedOf;split
 ·rename_i h0
  obtain ⟨h1,h2⟩:=h.rep h0;exact ⟨h2 s hs,by unfold withSw;dsimp only;omega,by unfold withSw;dsimp only;omega⟩
 ·have hc:=h.code;exact ⟨plain_ok (e:=x.1) (i:=0) (z:=0) (h:=0) (by omega) (by omega) (by omega) (by omega) hs,by unfold withSw plainRep;dsimp only;omega,by unfold withSw plainRep;dsimp only;omega⟩
theorem asked_inv {x:Int×RepS×St} {q:Nat} (h:Fine q x) (hq:q≤1000000) (c:Nat) (r:Req):StInv (askedS (triedOf x) c r).2 q:=by
 have hi:=h.inv;rw [← triedOf_st] at hi;have hs:=hi.swaps;obtain ⟨h1,h2,h3⟩:=tried_rep h (s:=(triedOf x).2.swaps) (by omega);unfold askedS;refine ⟨⟨hi.ok.tree,hi.ok.file⟩,hi.pts,hi.dir,hi.tok,hi.small,hi.few,hi.boots,hi.swaps,hi.clock,fun i y hy=> ?_⟩;dsimp only at hy;unfold upd at hy;split at hy
 ·cases hy;exact ⟨_,h1,h2,h3,rfl⟩
 ·exact hi.win i y hy
theorem StInv.winlen {S:St} {q:Nat} (h:StInv S q):∀i life seq bs,S.W i=some (life,seq,bs)→bs.length≤1000000:=fun i life seq bs hb=>by
 obtain ⟨rep,h1,_,_,h4⟩:=h.win i _ hb;have:=h1.len;dsimp only at h4;rw [h4];omega
theorem gasked_old (o:Nat→Nat) (K n:Nat) (L:Plc) (S:St) (r:Req) (rv dv fv:Value) (w:World) (h:StateAt w o K L S n) (ok:StOk S) (hf:Fresh w o):
  Calls Tryz.prog 55 #[.pointer (some ⟨L.s,0,none⟩),fv,.agg (r.cells rv dv),.int .i64 2] w (ToldC (fun _=>False) w o K L n (plainRep 17 0 0 0 0 false,S)):=by
 obtain ⟨f0,k0,k1,H0,G0⟩:=begun h ok hf r rv dv;have hlt:=lt_of_block k1;have HQ:Hid (∀w3,Fr (fun j=>j=w.heap.size+1) (deedW w r rv dv) w3→ToldC (fun _=>False) w o K L n (plainRep 17 0 0 0 0 false,S) (.returned (plainV 17 0 0 0 0 false)) w3):=lH (fun w3 g=>by
  obtain ⟨a,b⟩:=last_ hf f0 (Step.refl (C:=fun _=>False) G0) (Nat.le_succ _) hlt g;exact ⟨⟨o,a,H0.step ok b (fun c h e=>by unfold stateC at h;omega)⟩,.slice none 0 0,.slice none 0 0,rfl,rfl,rfl,rp_nil _,Low.nil _,Low.nil _⟩)
 generalize ToldC (fun _=>False) w o K L n (plainRep 17 0 0 0 0 false,S)=Q at*;have K1:=lH k1;have hbd:∀w':World,(Instr.build 29 #[(0,.int .i64 17)]).run Tryz.prog w'=.ok (.agg #[.int .i64 17,.int .i64 0,.int .i64 0,.int .i64 0,.int .i64 0,.bool false,.slice none 0 0,.slice none 0 0]) w':=fun w'=>by kernel_rfl
 have HOC:=lH (show (#[.int .i64 17,.int .i64 0,.int .i64 0,.int .i64 0,.int .i64 0,.bool false,.slice none 0 0,.slice none 0 0]:Array Value).all (·.oneCell')=true from by simp [Value.oneCell']);clear f0 k0 k1 H0 G0 h ok hf hlt;unfold deedW Req.cells noRep RepS.cells at*;go_enter Tryz.func55,Tryz.ntmps55;go_upto_region 1 with fail
 generalize (w.alloc (.cells #[.int .i64 r.c,.int .i64 r.l,.int .i64 r.q,.int .i64 r.kind,.string (ba r.path),.string (ba r.to),.bool r.dir,.bool r.wr,.bool r.cl,.int .i64 r.h,.int .i64 r.nx,.int .i64 r.sw,rv,dv] 36)).alloc (.cells #[.int .i64 0,.int .i64 0,.int .i64 0,.int .i64 0,.int .i64 0,.bool false,.slice none 0 0,.slice none 0 0] 29)=w0 at*;go_wp2_with (refine wpList_store_row rfl 29 (.tmp 8) (.tmp 14) rfl (w.heap.size+1) #[.int .i64 17,.int .i64 0,.int .i64 0,.int .i64 0,.int .i64 0,.bool false,.slice none 0 0,.slice none 0 0] rfl rfl 29 _ K1.out Tryz.size29 rfl HOC.out ?_);have KF:=setRow_at (cs':= #[.int .i64 17,.int .i64 0,.int .i64 0,.int .i64 0,.int .i64 0,.bool false,.slice none 0 0,.slice none 0 0]) K1.out;exact bodyPost_ret (v:=plainV 17 0 0 0 0 false) (results_cell_row rfl _ _ (w.heap.size+1) 29 _ (0,0) _ rfl KF Tryz.underlying29 rfl Tryz.size29) rfl
  (HQ.out _ (Fr.setRow (S:=fun j=>j=w.heap.size+1) (Fr.refl _) (.inl rfl) _))
theorem Told.after {w w1 w':World} {o o1:Nat→Nat} {K n:Nat} {L:Plc} {x:RepS×St} {e:Ending} (s:Step (stateC K) w o w1 o1) (h:Told w1 o1 K L n x e w'):Told w o K L n x e w':=by
 obtain ⟨⟨o2,s2,t2⟩,ev,mv,h2,h3,h4,h5,l1,l2⟩:=h;exact ⟨⟨o2,s.trans s2 (fun _ e=>e),t2⟩,ev,mv,h2,h3,h4,h5,l1.le s.fr.size,l2.le s.fr.size⟩
theorem Told.more {w w':World} {o:Nat→Nat} {K n n':Nat} {L:Plc} {x:RepS×St} {e:Ending} (h:Told w o K L n x e w') (hn:n≤n'):Told w o K L n' x e w':=by
 obtain ⟨⟨o2,s2,t2⟩,h2⟩:=h;exact ⟨⟨o2,s2,t2.more hn⟩,h2⟩
def ApplyPost2 (w:World) (o:Nat→Nat) (K n q:Nat) (L:Plc) (S:St) (r:Req) (st:List Sz) (dl:List Dl) (e:Ending) (w':World):Prop:=
 ∃x,Did S r st dl x∧StInv x.2 (q+2)∧Told w o K L (n+100) x e w'
theorem gapply_ (o:Nat→Nat) (K n q:Nat) (L:Plc) (S:St) (r:Req) (rv dv:Value) (st:List Sz) (dl:List Dl) (w:World) (h:StateAt w o K L S n) (inv:StInv S q) (hf:Fresh w o) (hr:RowsAt szC 4 w o rv st) (hd:RowsAt dlC 14 w o dv dl) (sm:Small r st dl) (hq:q≤90000) (hn:n≤400000):
  Calls Tryz.prog 15 #[.pointer (some ⟨L.s,0,none⟩),.agg (r.cells rv dv)] w (ApplyPost2 w o K n q L S r st dl):=by
 have ok:=inv.ok;have p3:=sm.few;have p4:=sm.some_;have nos:¬stateC K 0:=by unfold stateC;omega
 have hcl:=inv.clock;have hbo:=inv.boots;have hsw:=inv.swaps;by_cases h10:r.kind=10
 ·have hF:=fine_boot inv r;refine (gap50_ o K n n L S r rv dv w (triedOf (bootD S r)) h ok hf h10 (by rw [triedOf_st];exact hF.inv.ok) (fun w1 f=> ?_)).mono (fun e w' t=>⟨tell (triedOf (bootD S r)),by unfold Did;rw [if_pos h10],?_,t.more (by omega)⟩)
  ·have hf1:Fresh w1 o:=(Step.no (C:=fun _=>False) hf f).fresh;obtain ⟨f0,_,_,H0,G0⟩:=begun (h.no ok hf f) ok hf1 r rv dv;exact gtried_ 50 (by simp) o K n L _ r rv dv w1 hf1 hF.inv.ok (dboot_ o K n L S r rv dv _ H0 ok G0 (by omega) (by omega) (by omega))
  ·show StInv (triedOf (bootD S r)).2 (q+2);rw [triedOf_st];exact hF.inv.more (by omega)
 by_cases h11:r.kind=11
 ·have hF:=fine_swap inv r;refine (gap51_ o K n n L S r rv dv w (triedOf (swapD S r)) h ok hf h11 (by rw [triedOf_st];exact hF.inv.ok) (fun w1 f=> ?_)).mono (fun e w' t=>⟨tell (triedOf (swapD S r)),by unfold Did;rw [if_neg h10,if_pos h11],?_,t.more (by omega)⟩)
  ·have hf1:Fresh w1 o:=(Step.no (C:=fun _=>False) hf f).fresh;obtain ⟨f0,_,_,H0,G0⟩:=begun (h.no ok hf f) ok hf1 r rv dv;exact gtried_ 51 (by simp) o K n L _ r rv dv w1 hf1 hF.inv.ok (dswap_ o K n L S r rv dv _ H0 ok G0 (by omega) (by omega) (by omega))
  ·show StInv (triedOf (swapD S r)).2 (q+2);rw [triedOf_st];exact hF.inv.more (by omega)
 by_cases h9:r.kind=9
 ·have hF:=fine_moved inv r st dl;refine (gap52_ o K n (n+st.length) L S r rv dv w (triedOf (movedD S r st dl)) h ok hf h9 (by rw [triedOf_st];exact hF.inv.ok) (fun w1 f=> ?_)).mono (fun e w' t=>⟨tell (triedOf (movedD S r st dl)),by unfold Did;rw [if_neg h10,if_neg h11,if_pos h9],?_,t.more (by omega)⟩)
  ·have hf1:Fresh w1 o:=(Step.no (C:=fun _=>False) hf f).fresh;obtain ⟨f0,_,_,H0,G0⟩:=begun (h.no ok hf f) ok hf1 r rv dv;exact gtried_ 52 (by simp) o K _ L _ r rv dv w1 hf1 hF.inv.ok (dmoved_ o K n L S r rv dv st dl _ H0 ok inv.pts G0 ((hr.no hf f).no hf1 f0) ((hd.no hf f).no hf1 f0) sm.good (by omega) (by omega) (by omega) (by omega))
  ·show StInv (triedOf (movedD S r st dl)).2 (q+2);rw [triedOf_st];exact hF.inv.more (by omega)
 by_cases hk:1≤r.kind∧r.kind≤8
 ·rcases ask_cases S.W r.c r.l r.q with ha|⟨hc,ha⟩
  ·refine (gap_ask o K n n L S r rv dv w (plainRep 17 0 0 0 0 false,S) 2 (fun _=>False) (fun _ e=>e.elim) h ok hf hk inv.winlen ha (by decide) ok (fun w1 f=> ?_)).mono (fun e w' t=>⟨_,?_,inv.more (by omega),Told.more (t.lift (fun _ e=>e.elim)) (by omega)⟩)
   ·exact gasked_old o K n L S r rv dv _ w1 (h.no ok hf f) ok (Step.no (C:=fun _=>False) hf f).fresh
   ·unfold Did;rw [if_neg h10,if_neg h11,if_neg h9,if_neg (fun hq=>hq hk),ha,if_neg (by decide),if_pos rfl];rfl
  ·have hres:∀kd,(kd=0∨kd=3)→askOf S.W r.c r.l r.q=(kd,none)→Calls Tryz.prog 15 #[.pointer (some ⟨L.s,0,none⟩),.agg (r.cells rv dv)] w (ApplyPost2 w o K n q L S r st dl):=fun kd hkd ha=>by
    have hne1:kd≠1:=(by omega)
    have hne2:kd≠2:=(by omega)
    have inv1:=inv.askB r.c.toNat kd;have hF:=fine_all inv1 r st dl r.kind hc;have hW:=win_all (Go.Proofs.YtlcojhddnpmgmaaGreat.askB S r.c.toNat kd) r st dl r.kind;have hWB:(Go.Proofs.YtlcojhddnpmgmaaGreat.askB S r.c.toNat kd).W=S.W:=(by unfold Go.Proofs.YtlcojhddnpmgmaaGreat.askB;split<;>rfl)
    have hsx:=hF.inv.swaps;have hinv:=asked_inv hF (by omega) r.c.toNat r;refine (gap_ask o K n (n+100) L S r rv dv w (askedS (triedOf (deedF r st dl r.kind (Go.Proofs.YtlcojhddnpmgmaaGreat.askB S r.c.toNat kd))) r.c.toNat r) kd (stateC K) (fun _ e=>e) h ok hf hk inv.winlen ha (by simpa using hne1) hinv.ok (fun w1 f=> ?_)).mono (fun e w' t=>⟨_,?_,hinv.more (by omega),t⟩)
    ·have hf1:Fresh w1 o:=(Step.no (C:=fun _=>False) hf f).fresh;refine gasked_ o K n (n+100) L S r rv dv (deedV r.kind) kd w1 _ (h.no ok hf f) ok hf1 hc hkd (by omega) (by rw [ha]) inv.winlen ?_ ?_ ?_ (fun w2 o2 s t=> ?_)
     ·rw [triedOf_st,hW,hWB]
     ·rw [triedOf_st];exact hF.inv.ok
     ·exact (tried_rep hF (by rw [triedOf_st];omega)).1
     ·exact tried_all o2 K n (q+1) L _ r rv dv st dl r.kind w2 hk t inv1 s.fresh ((hr.no hf f).step s nos) ((hd.no hf f).step s nos) sm hc (by omega) (by omega)
    ·unfold Did;rw [if_neg h10,if_neg h11,if_neg h9,if_neg (fun hq=>hq hk),ha,if_neg hne1,if_neg hne2];rfl
   rcases ha with ha|ha|ha|⟨y,hy,ha⟩
   ·exact hres 3 (.inr rfl) ha
   ·refine (gap_ask o K n n L S r rv dv w (plainRep 17 0 0 0 0 false,S) 2 (fun _=>False) (fun _ e=>e.elim) h ok hf hk inv.winlen ha (by decide) ok (fun w1 f=> ?_)).mono (fun e w' t=>⟨_,?_,inv.more (by omega),Told.more (t.lift (fun _ e=>e.elim)) (by omega)⟩)
    ·exact gasked_old o K n L S r rv dv _ w1 (h.no ok hf f) ok (Step.no (C:=fun _=>False) hf f).fresh
    ·unfold Did;rw [if_neg h10,if_neg h11,if_neg h9,if_neg (fun hq=>hq hk),ha,if_neg (by decide),if_pos rfl];rfl
   ·exact hres 0 (.inl rfl) ha
   ·obtain ⟨rep,g1,g2,g3,g4⟩:=inv.win _ y hy;rw [g4] at ha;refine (gap_again o K n n L S r rv dv w rep h ok hf hk inv.winlen ha g1 g3 rfl).mono (fun e w' t=>⟨(rep,S),?_,inv.more (by omega),Told.more (t.lift (fun _ e=>e.elim)) (by omega)⟩);unfold Did;rw [if_neg h10,if_neg h11,if_neg h9,if_neg (fun hq=>hq hk),ha,if_pos rfl];exact ⟨rfl,rfl,g1⟩
 ·refine (gap_none o K n n L S r rv dv w h ok hf hk (by simpa using h9) (by simpa using h10) (by simpa using h11) rfl).mono (fun e w' t=>⟨tell (plainRep 1 0 0 0 0 false,S),?_,inv.more (by omega),Told.more (t.lift (fun _ e=>e.elim)) (by omega)⟩);unfold Did;rw [if_neg h10,if_neg h11,if_neg h9,if_pos hk]
inductive Deeds (r:Req) (st:List Sz) (dl:List Dl) (B:St):St→Prop
 | same:Deeds r st dl B B
 | make:r.kind=1→(makeOf B.T r.path).1=0→Deeds r st dl B (makeS B r)
 | remove:r.kind=2→(lookOf B.T r.path).1=0→mayRemove B r→(removeOf B.T r.path r.dir).1=0→Deeds r st dl B (removeS B r)
 | move:r.kind=3→moveE B.T r.path r.to=0→Deeds r st dl B {B with T:=movedT B.T r.path r.to}
 | opens:r.kind=6→(lookOf B.T r.path).1=0→(lookOf B.T r.path).2.2=false→(openOf B.K r.c (lookOf B.T r.path).2.1 r.wr).1=0→Deeds r st dl B {B with K:=(openOf B.K r.c (lookOf B.T r.path).2.1 r.wr).2.2}
 | commit (x:Tok):r.kind=7→ofT B.K r.c r.h=some x→¬(x.wr=false∧¬(dl= []∧st= []))→(stripesE B r.sw r.nx st r.c r.l).1=0→(∀d∈dl,dlOk (stripesE B r.sw r.nx st r.c r.l).2 x.i d)→
   Deeds r st dl B {commitS B st dl r.c.toNat r.nx x.i.toNat with K:=closedK r.cl B.K x}
theorem deeds_all (B:St) (r:Req) (st:List Sz) (dl:List Dl) (hk:1≤r.kind∧r.kind≤8):Deeds r st dl B (deedF r st dl r.kind B).2.2∧((deedF r st dl r.kind B).1≠0→(deedF r st dl r.kind B).2.2=B):=by
 unfold deedF;split
 ·rename_i h
  unfold makeD;split
  ·rename_i h1
   exact ⟨.make h h1,fun e=>absurd rfl e⟩
  ·exact ⟨.same,fun _=>rfl⟩
 ·split
  ·rename_i h
   unfold removeD;split
   ·exact ⟨.same,fun _=>rfl⟩
   ·rename_i h1
    split
    ·exact ⟨.same,fun _=>rfl⟩
    ·rename_i h2
     split
     ·exact ⟨.same,fun _=>rfl⟩
     ·rename_i h3
      exact ⟨.remove h (Classical.byContradiction h1) (Classical.byContradiction h2) (Classical.byContradiction h3),fun e=>absurd rfl e⟩
  ·split
   ·rename_i h
    unfold moveD;split
    ·rename_i h1
     exact ⟨.move h h1,fun e=>absurd rfl e⟩
    ·exact ⟨.same,fun _=>rfl⟩
   ·split
    ·unfold lookD;split<;>exact ⟨.same,fun _=>rfl⟩
    ·split
     ·unfold listD;split<;>exact ⟨.same,fun _=>rfl⟩
     ·split
      ·rename_i h
       unfold openD;split
       ·exact ⟨.same,fun _=>rfl⟩
       ·rename_i h1
        split
        ·exact ⟨.same,fun _=>rfl⟩
        ·rename_i h2
         split
         ·exact ⟨.same,fun _=>rfl⟩
         ·rename_i h3
          exact ⟨.opens h (Classical.byContradiction h1) (by simpa using h2) (Classical.byContradiction h3),fun e=>absurd rfl e⟩
      ·split
       ·rename_i h
        unfold commitD;split
        ·exact ⟨.same,fun _=>rfl⟩
        ·rename_i x hx
         split
         ·exact ⟨.same,fun _=>rfl⟩
         ·rename_i h1
          split
          ·exact ⟨.same,fun _=>rfl⟩
          ·rename_i h2
           split
           ·exact ⟨.same,fun _=>rfl⟩
           ·rename_i h3
            exact ⟨.commit x h hx h1 (Classical.byContradiction h2) (Classical.byContradiction h3),fun e=>absurd rfl e⟩
       ·unfold mapD;split<;>exact ⟨.same,fun _=>rfl⟩
inductive Turns (S:St) (r:Req) (st:List Sz) (dl:List Dl):St→Prop
 | same:Turns S r st dl S
 | boot:Turns S r st dl (bootS S)
 | swap:Turns S r st dl (swapS S)
 | moved:r.c=4∧r.l=S.boots→(stripesE S r.sw r.nx st 4 S.boots).1=0→(∀d∈dl,mvOk (stripesE S r.sw r.nx st 4 S.boots).2 d)→Turns S r st dl (movedS S st dl r.nx)
 | asked (kd:Int) (bs:List UInt8) (D:St):mayP r.c r.l r.q→kd=0∨kd=3→askOf S.W r.c r.l r.q=(kd,none)→Deeds r st dl (askB S r.c.toNat kd) D→Turns S r st dl {D with W:=upd S.W r.c.toNat (some (r.l,r.q,bs))}
theorem askB_W (S:St) (c:Nat) (kind:Int):(askB S c kind).W=S.W:=by unfold askB;split<;>rfl
theorem turns_all {S:St} {r:Req} {st:List Sz} {dl:List Dl} {x:RepS×St} (hd:Did S r st dl x):Turns S r st dl x.2:=by
 unfold Did at hd;split at hd
 ·rw [hd];show Turns S r st dl (triedOf (bootD S r)).2;rw [triedOf_st];unfold bootD;split
  ·exact .boot
  ·exact .same
 ·split at hd
  ·rw [hd];show Turns S r st dl (triedOf (swapD S r)).2;rw [triedOf_st];unfold swapD;split
   ·exact .swap
   ·exact .same
  ·split at hd
   ·rw [hd];show Turns S r st dl (triedOf (movedD S r st dl)).2;rw [triedOf_st];unfold movedD;split
    ·exact .same
    ·rename_i h1
     split
     ·exact .same
     ·rename_i h2
      split
      ·exact .same
      ·rename_i h3
       exact .moved (Classical.byContradiction h1) (Classical.byContradiction h2) (Classical.byContradiction h3)
   ·split at hd
    ·rw [hd];exact .same
    ·rename_i hk
     split at hd
     ·rw [hd.1];exact .same
     ·split at hd
      ·rw [hd];exact .same
      ·rename_i hk1 hk2
       rcases ask_cases S.W r.c r.l r.q with ha|⟨hc,ha⟩
       ·rw [ha] at hk2;exact absurd rfl hk2
       ·have hm:mayP r.c r.l r.q:=by
         by_cases hm:mayP r.c r.l r.q
         ·exact hm
         ·have:askOf S.W r.c r.l r.q=(2,none):=if_neg hm;rw [this] at hk2;exact absurd rfl hk2
        have he:∃kd:Int,(kd=0∨kd=3)∧askOf S.W r.c r.l r.q=(kd,none):=by
         rcases ha with ha|ha|ha|⟨y,_,ha⟩
         ·exact ⟨3,.inr rfl,ha⟩
         ·rw [ha] at hk2;exact absurd rfl hk2
         ·exact ⟨0,.inl rfl,ha⟩
         ·rw [ha] at hk1;exact absurd rfl hk1
        obtain ⟨kd,hkd,ha⟩:=he;rw [ha] at hd;rw [hd];have h1:=(deeds_all (askB S r.c.toNat kd) r st dl (Classical.byContradiction hk)).1;have h2:=Turns.asked (bs:=(withSw (triedOf (deedF r st dl r.kind (askB S r.c.toNat kd))).1 (triedOf (deedF r st dl r.kind (askB S r.c.toNat kd))).2.swaps).bytes) kd _ hm hkd ha h1;have h3:(tell (askedS (triedOf (deedF r st dl r.kind (askB S r.c.toNat kd))) r.c.toNat r)).2={(deedF r st dl r.kind (askB S r.c.toNat kd)).2.2 with W:=upd S.W r.c.toNat (some (r.l,r.q,(withSw (triedOf (deedF r st dl r.kind (askB S r.c.toNat kd))).1 (triedOf (deedF r st dl r.kind (askB S r.c.toNat kd))).2.swaps).bytes))}:=by
         unfold tell askedS;dsimp only;rw [triedOf_st,win_all,askB_W]
        rw [h3];exact h2
def InvWin (S:St):Prop:=∀i y,S.W i=some y→i<4∧0≤y.1∧y.1≤1048576∧1≤y.2.1∧y.2.1≤1073741824
theorem InvWin.turn {S S':St} {r:Req} {st:List Sz} {dl:List Dl} (h:InvWin S) (t:Turns S r st dl S'):InvWin S':=by
 cases t with
 | same=>exact h
 | boot=>exact h
 | swap=>exact h
 | moved=>exact h
 | asked kd bs D hm hk ha hd=>
  intro i y hy;dsimp only at hy;unfold upd at hy;split at hy
  ·rename_i e
   cases hy;obtain ⟨h1,h2,h3⟩:=hm;exact ⟨by omega,h3⟩
  ·exact h i y hy
theorem counted_sub {F:Nat→Option FMap} {U:Stp→Option Us} {y:Stp} (h:(countedU F U y).isSome=true):(U y).isSome=true:=by
 unfold countedU at h;cases hU:U y with
 | none=>rw [hU] at h;simp at h
 | some _=>rfl
theorem addU_some (c:Int):∀(st:List Sz) (U:Stp→Option Us) (y:Stp),(addU c st U y).isSome=true→(U y).isSome=true∨∃s∈st,s.1=y
 | [],U,y,h=> .inl h
 | s::r,U,y,h=>by
  have h':(addU c r (fun z=>if z=s.1 then some (s.2,0,c) else U z) y).isSome=true:=h;rcases addU_some c r _ y h' with h1|⟨t,ht,e⟩
  ·by_cases e:y=s.1
   ·exact .inr ⟨s,by simp,e.symm⟩
   ·rw [if_neg e] at h1;exact .inl h1
  ·exact .inr ⟨t,by simp [ht],e⟩
theorem sizes_all (S:St) (nx c l:Int):∀(st:List Sz) (m m':Stp→Option Int),sizesOf S nx c l st m=some m'→∀s∈st,s.1.1=c∧s.1.2.1=l∧S.next c.toNat≤s.1.2.2∧s.1.2.2<nx
 | [],_,_,_,s,hs=>by simp at hs
 | x::r,m,m',h,s,hs=>by
  unfold sizesOf at h;split at h
  ·rename_i hx
   rcases List.mem_cons.1 hs with rfl|hs
   ·obtain ⟨_,_,h3,h4,h5,h6,_,_⟩:=hx;exact ⟨by simpa using h3,by simpa using h4,h5,h6⟩
   ·exact sizes_all S nx c l r _ m' h s hs
  ·cases h
theorem stripes_all {S:St} {sw nx:Int} {st:List Sz} {c l:Int} (h:(stripesE S sw nx st c l).1=0):(∀s∈st,s.1.1=c∧s.1.2.1=l∧S.next c.toNat≤s.1.2.2∧s.1.2.2<nx)∧S.next c.toNat≤nx:=by
 unfold stripesE at h;split at h
 ·cases h
 ·split at h
  ·cases h
  ·rename_i h2
   split at h
   ·cases h
   ·rename_i m hm
    exact ⟨sizes_all S nx c l st _ m hm,(Classical.byContradiction h2).1⟩
def HeldIn (F:Nat→Option FMap) (U:Stp→Option Us):Prop:=∀i m,F i=some m→∀p∈ptrs m,∃u,U (stpOf p)=some u∧p.a+p.z≤u.1
structure InvLive (S:St):Prop where
 tree:∀i m,S.F i=some m→∃x,S.T i=some x∧x.dir=false
 held:HeldIn S.F S.U
 live:∀x u,S.U x=some u→u.2.1=liveF S.F x∧u.2.1≠0
theorem ptrs_mem {m:FMap} {p:Pt}:p∈ptrs m↔p∈m.l∧p≠noPt:=by
 unfold ptrs;rw [List.mem_filter];simp
theorem ptr_pos {m:FMap} (h:∀p∈m.l,mayPt p) {p:Pt} (hp:p∈ptrs m):1≤p.z:=by
 obtain ⟨h1,h2⟩:=ptrs_mem.1 hp;rcases h p h1 with h3|h3
 ·exact absurd h3 h2
 ·omega
theorem liveP_nonneg {L:List Pt} (h:∀p∈L,0≤p.z) (x:Stp):0≤liveP L x:=by
 induction L with
 | nil=>exact Int.le_refl _
 | cons a r ih=>
  have h1:=ih (fun p hp=>h p (List.mem_cons_of_mem _ hp));have h2:=h a List.mem_cons_self;unfold liveP at h1 ⊢;rw [List.map_cons,List.sum_cons];split<;>omega
theorem liveP_pos {L:List Pt} (h:∀p∈L,1≤p.z) {p:Pt} (hp:p∈L):0<liveP L (stpOf p):=by
 induction L with
 | nil=>cases hp
 | cons a r ih=>
  have h1:=liveP_nonneg (L:=r) (fun q hq=>by have:=h q (List.mem_cons_of_mem _ hq);omega) (stpOf p);have h2:=h a List.mem_cons_self;rcases List.mem_cons.1 hp with rfl|hp
  ·unfold liveP at h1 ⊢;rw [List.map_cons,List.sum_cons,if_pos rfl];omega
  ·have h3:=ih (fun q hq=>h q (List.mem_cons_of_mem _ hq)) hp;unfold liveP at h3 ⊢;rw [List.map_cons,List.sum_cons];split<;>omega
theorem sum_ge {l:List Nat} {f:Nat→Int} (h:∀i∈l,0≤f i):0≤(l.map f).sum∧∀i∈l,f i≤(l.map f).sum:=by
 induction l with
 | nil=>exact ⟨Int.le_refl _,fun i hi=>by cases hi⟩
 | cons a r ih=>
  obtain ⟨h1,h2⟩:=ih (fun i hi=>h i (List.mem_cons_of_mem _ hi));have h3:=h a List.mem_cons_self;rw [List.map_cons,List.sum_cons];refine ⟨by omega,fun i hi=> ?_⟩;rcases List.mem_cons.1 hi with rfl|hi
  ·omega
  ·have:=h2 i hi;omega
theorem live_pos {F:Nat→Option FMap} (hp:PtsOk F) (hf:∀i m,F i=some m→1≤i∧i≤128∧MapLen m) {i:Nat} {m:FMap} (hi:F i=some m) {p:Pt} (hm:p∈ptrs m):0<liveF F (stpOf p):=by
 have h1:=liveP_pos (fun q hq=>ptr_pos (hp i m hi) hq) hm;have h2:=(sum_ge (l:=List.range 129) (f:=fun i=>match F i with
  | some m=>if (fun _:Int=>false) (i:Int)=true then 0 else liveP (ptrs m) (stpOf p)
  | none=>0) (fun j _=>by
   dsimp only;cases hj:F j with
   | none=>exact Int.le_refl _
   | some y=>
    dsimp only;rw [if_neg (by simp)];exact liveP_nonneg (fun q hq=>by have:=ptr_pos (hp j y hj) hq;omega) _)).2 i (List.mem_range.2 (by have:=hf i m hi;omega))
 dsimp only at h2;rw [hi] at h2;dsimp only at h2;rw [if_neg (by simp)] at h2;unfold liveF liveD;exact Int.lt_of_lt_of_le h1 h2
theorem live_same {F G:Nat→Option FMap} (h:∀i,(match F i with|some m=>ptrs m|none=> [])=(match G i with|some m=>ptrs m|none=> [])) (x:Stp):liveF F x=liveF G x:=by
 unfold liveF liveD;refine congrArg List.sum (List.map_congr_left (fun i _=> ?_));have hi:=h i;cases hF:F i with
 | none=>
  rw [hF] at hi;cases hG:G i with
  | none=>rfl
  | some y=>rw [hG] at hi;dsimp only at hi ⊢;rw [← hi];rfl
 | some z=>
  rw [hF] at hi;cases hG:G i with
  | none=>rw [hG] at hi;dsimp only at hi ⊢;rw [hi];rfl
  | some y=>rw [hG] at hi;dsimp only at hi ⊢;rw [hi]
theorem counted_live {F:Nat→Option FMap} {U:Stp→Option Us} (hp:PtsOk F) (hf:∀i m,F i=some m→1≤i∧i≤128∧MapLen m) (h:HeldIn F U):HeldIn F (countedU F U)∧∀x u,countedU F U x=some u→u.2.1=liveF F x∧u.2.1≠0:=by
 constructor
 ·intro i m hi p hm;obtain ⟨u,hu,hl⟩:=h i m hi p hm;have:=live_pos hp hf hi hm;unfold countedU;rw [hu];dsimp only;rw [if_neg (by omega)];exact ⟨_,rfl,hl⟩
 ·intro x u hu;unfold countedU at hu;split at hu
  ·cases hu
  ·split at hu
   ·cases hu
   ·rename_i h0
    cases hu;exact ⟨rfl,h0⟩
theorem addU_old (c:Int):∀(st:List Sz) (U:Stp→Option Us) (y:Stp),(∀s∈st,s.1≠y)→addU c st U y=U y
 | [],_,_,_=>rfl
 | s::r,U,y,h=>by
  have h1:=addU_old c r (fun z=>if z=s.1 then some (s.2,0,c) else U z) y (fun t ht=>h t (List.mem_cons_of_mem _ ht));refine h1.trans ?_;rw [if_neg (fun e=>h s List.mem_cons_self e.symm)]
theorem sizes_rel (S:St) (nx c l ck:Int):∀(st:List Sz) (m m':Stp→Option Int) (U:Stp→Option Us),(∀y z,m y=some z→∃b,U y=some (z,b))→sizesOf S nx c l st m=some m'→∀y z,m' y=some z→∃b,addU ck st U y=some (z,b)
 | [],m,m',U,h,e,y,z,hy=>by cases e;exact h y z hy
 | x::r,m,m',U,h,e,y,z,hy=>by
  unfold sizesOf at e;split at e
  ·refine sizes_rel S nx c l ck r _ m' (fun z=>if z=x.1 then some (x.2,0,ck) else U z) (fun y z hz=> ?_) e y z hy;split at hz
   ·cases hz;rw [if_pos (by assumption)];exact ⟨_,rfl⟩
   ·rw [if_neg (by assumption)];exact h y z hz
  ·cases e
theorem sizes_old (S:St) (nx c l:Int):∀(st:List Sz) (m m':Stp→Option Int),sizesOf S nx c l st m=some m'→∀s∈st,(S.U s.1).isSome=false
 | [],_,_,_,s,hs=>by cases hs
 | x::r,m,m',h,s,hs=>by
  unfold sizesOf at h;split at h
  ·rename_i hx
   rcases List.mem_cons.1 hs with rfl|hs
   ·exact hx.2.1
   ·exact sizes_old S nx c l r _ m' h s hs
  ·cases h
theorem stripes_rel {S:St} {sw nx:Int} {st:List Sz} {c l:Int} (h:(stripesE S sw nx st c l).1=0) (ck:Int):(∀s∈st,(S.U s.1).isSome=false)∧∀y z,(stripesE S sw nx st c l).2 y=some z→∃b,addU ck st S.U y=some (z,b):=by
 unfold stripesE at h ⊢;split at h
 ·cases h
 ·rename_i h1
  split at h
  ·cases h
  ·rename_i h2
   rw [if_neg h1,if_neg h2];split at h
   ·cases h
   ·rename_i m hm
    exact ⟨sizes_old S nx c l st _ m hm,sizes_rel S nx c l ck st noStp m S.U (fun y z hz=>by cases hz) hm⟩
theorem resizeL_mem {L:List Pt} {n:Nat} {p:Pt} (h:p∈resizeL L n):p∈L∨p=noPt:=by
 unfold resizeL at h;split at h
 ·exact .inl (List.mem_of_mem_take h)
 ·rcases List.mem_append.1 h with h|h
  ·exact .inl h
  ·exact .inr (List.mem_replicate.1 h).2
theorem applied_ptrs {m:FMap} {d:Dl} {p:Pt} (h:p∈ptrs (appliedM m d)):p∈ptrs m∨p=d.t:=by
 unfold appliedM at h;split at h
 ·obtain ⟨h1,h2⟩:=ptrs_mem.1 h;unfold doneM at h1;split at h1
  ·rcases List.mem_or_eq_of_mem_set h1 with h3|h3
   ·rcases resizeL_mem h3 with h4|h4
    ·exact .inl (ptrs_mem.2 ⟨h4,h2⟩)
    ·exact absurd h4 h2
   ·exact .inr h3
  ·split at h1
   ·rcases resizeL_mem h1 with h4|h4
    ·exact .inl (ptrs_mem.2 ⟨h4,h2⟩)
    ·exact absurd h4 h2
   ·rcases List.mem_or_eq_of_mem_set h1 with h3|h3
    ·exact .inl (ptrs_mem.2 ⟨h3,h2⟩)
    ·exact .inr h3
 ·exact .inl h
theorem folded_ptrs:∀(dl:List Dl) (m:FMap) (p:Pt),p∈ptrs (dl.foldl appliedM m)→p∈ptrs m∨∃d∈dl,p=d.t
 | [],_,_,h=> .inl h
 | d::r,m,p,h=>by
  rcases folded_ptrs r (appliedM m d) p h with h1|⟨e,he,h1⟩
  ·rcases applied_ptrs h1 with h2|h2
   ·exact .inl h2
   ·exact .inr ⟨d,List.mem_cons_self,h2⟩
  ·exact .inr ⟨e,List.mem_cons_of_mem _ he,h1⟩
theorem appliedF_ptrs:∀(dl:List Dl) (F:Nat→Option FMap) (i:Nat) (m:FMap),(dl.foldl appliedF F) i=some m→∃m0,F i=some m0∧∀p∈ptrs m,p∈ptrs m0∨∃d∈dl,p=d.t
 | [],_,_,m,h=>⟨m,h,fun _ hp=> .inl hp⟩
 | d::r,F,i,m,h=>by
  obtain ⟨m1,h1,h2⟩:=appliedF_ptrs r (appliedF F d) i m h;have key:∃m0,F i=some m0∧∀p∈ptrs m1,p∈ptrs m0∨p=d.t:=by
   unfold appliedF at h1;cases hy:F d.i.toNat with
   | some y=>
    rw [hy] at h1;dsimp only at h1;rcases updF_some h1 with ⟨e,e2⟩|h1
    ·rw [e];exact ⟨y,hy,fun p hp=>by rw [e2] at hp;exact applied_ptrs hp⟩
    ·exact ⟨m1,h1,fun _ hp=> .inl hp⟩
   | none=>
    rw [hy] at h1;exact ⟨m1,h1,fun _ hp=> .inl hp⟩
  obtain ⟨m0,h3,h4⟩:=key;refine ⟨m0,h3,fun p hp=> ?_⟩;rcases h2 p hp with h5|⟨e,he,h5⟩
  ·rcases h4 p h5 with h6|h6
   ·exact .inl h6
   ·exact .inr ⟨d,List.mem_cons_self,h6⟩
  ·exact .inr ⟨e,List.mem_cons_of_mem _ he,h5⟩
theorem held_add {S:St} {sw nx:Int} {st:List Sz} {c l:Int} (hs:(stripesE S sw nx st c l).1=0) (h:HeldIn S.F S.U) (ck:Int) {F':Nat→Option FMap}
  (hF:∀i m,F' i=some m→∀p∈ptrs m,(∃j m0,S.F j=some m0∧p∈ptrs m0)∨insideOf (stripesE S sw nx st c l).2 p=true):HeldIn F' (addU ck st S.U):=by
 obtain ⟨h1,h2⟩:=stripes_rel hs ck;intro i m hi p hp;rcases hF i m hi p hp with ⟨j,m0,hj,hm⟩|hin
 ·obtain ⟨u,hu,hl⟩:=h j m0 hj p hm;refine ⟨u,?_,hl⟩;rw [addU_old ck st S.U _ (fun s hs e=> ?_)]
  ·exact hu
  ·have:=h1 s hs;rw [e,hu] at this;cases this
 ·unfold insideOf at hin;split at hin
  ·cases hin
  ·rename_i e he
   obtain ⟨b,hb⟩:=h2 _ _ he;have hin:=of_decide_eq_true hin;obtain ⟨i1,i2,i3,i4⟩:=hin;exact ⟨_,hb,by dsimp only;omega⟩
theorem live_deed {B D:St} {q:Nat} {r:Req} {st:List Sz} {dl:List Dl} (inv:StInv B q) (ip:PtsOk D.F) (ik:∀i m,D.F i=some m→1≤i∧i≤128∧MapLen m) (h:InvLive B) (d:Deeds r st dl B D):InvLive D:=by
 cases d with
 | same=>exact h
 | move hk h0=>
  refine ⟨fun i m hi=> ?_,h.held,h.live⟩;obtain ⟨x,hx,hd⟩:=h.tree i m hi;dsimp only;unfold movedT;rw [if_pos h0];unfold moved;by_cases e:i=(lookOf B.T r.path).2.1
  ·subst e;refine ⟨_,upd_same _ _ _,?_⟩;have hl:(lookOf B.T r.path).1=0:=by
    unfold moveE at h0;split at h0
    ·rename_i a
     exact absurd h0 a
    ·rename_i a
     exact Classical.byContradiction a
   obtain ⟨y,hy,hyd⟩:=look_ok inv.ok.tree hl;rw [hx] at hy;cases hy;dsimp only;rw [← hyd];exact hd
  ·rw [upd_other _ _ e];exact ⟨x,hx,hd⟩
 | opens=>exact ⟨h.tree,h.held,h.live⟩
 | make hk h0=>
  have ha:=make_adds inv.ok.tree h0;have hf:=make_free h0;have hnone:B.F (free B.T)=none:=by
   cases hF:B.F (free B.T) with
   | none=>rfl
   | some m=>
    obtain ⟨x,hx,_⟩:=h.tree _ m hF;rw [ha.new] at hx;cases hx
  have hT:(makeS B r).T=upd B.T (free B.T) (some ⟨(placeOf B.T r.path).2.1,(placeOf B.T r.path).2.2,r.dir⟩):=by
   unfold makeS madeT grown;dsimp only;rw [if_pos h0]
  have hU:(makeS B r).U=B.U:=rfl;have hFF:(makeS B r).F=if r.dir=true then B.F else updF B.F (free B.T) (some noFile):=by
   unfold makeS;dsimp only;rw [hf]
  refine ⟨fun i m hi=> ?_,fun i m hi p hp=> ?_,fun x u hu=> ?_⟩
  ·rw [hT];rw [hFF] at hi;by_cases e:i=free B.T
   ·subst e;refine ⟨_,upd_same _ _ _,?_⟩;dsimp only;cases hd:r.dir with
    | false=>rfl
    | true=>
     rw [hd,if_pos rfl,hnone] at hi;cases hi
   ·rw [upd_other _ _ e];split at hi
    ·exact h.tree i m hi
    ·rw [updF_other _ _ e] at hi;exact h.tree i m hi
  ·rw [hU];rw [hFF] at hi;split at hi
   ·exact h.held i m hi p hp
   ·rcases updF_some hi with ⟨_,rfl⟩|hi
    ·cases hp
    ·exact h.held i m hi p hp
  ·rw [hU] at hu;have hl:liveF (makeS B r).F x=liveF B.F x:=live_same (fun i=>by
    rw [hFF];cases r.dir with
    | true=>rfl
    | false=>
     rw [if_neg (by simp)];by_cases e:i=free B.T
     ·subst e;rw [updF_same,hnone];rfl
     ·rw [updF_other _ _ e]) x
   rw [hl];exact h.live x u hu
 | remove hk h0 h1 h2=>
  have hi:(removeOf B.T r.path r.dir).2=(lookOf B.T r.path).2.1∧(r.dir=true→(lookOf B.T r.path).2.2=true):=by
   unfold removeOf at h2 ⊢;rw [if_neg (by simp [h0])] at h2 ⊢;split at h2
   ·cases h2
   ·rename_i a1
    rw [if_neg a1];split at h2
    ·cases h2
    ·rename_i a2
     rw [if_neg a2];split at h2
     ·cases h2
     ·rename_i a3
      rw [if_neg a3];split at h2
      ·cases h2
      ·rename_i a4
       rw [if_neg a4];refine ⟨rfl,fun hd=> ?_⟩;cases hl:(lookOf B.T r.path).2.2 with
       | true=>rfl
       | false=>exact absurd ⟨hd,hl⟩ a2
  obtain ⟨hi,_⟩:=hi;obtain ⟨y,hy,hyd⟩:=look_ok inv.ok.tree h0;cases hl:(lookOf B.T r.path).2.2 with
  | true=>
   have e:removeS B r={B with T:=shrunk B.T (lookOf B.T r.path).2.1}:=by
    unfold removeS removedT;rw [if_pos hl,if_pos h2,hi]
   rw [e];refine ⟨fun i m hm=> ?_,h.held,h.live⟩;obtain ⟨x,hx,hd⟩:=h.tree i m hm;dsimp only;unfold shrunk;rw [upd_other _ _ (fun e=> ?_)]
   ·exact ⟨x,hx,hd⟩
   ·rw [e,hy] at hx;cases hx;rw [hyd,hl] at hd;cases hd
  | false=>
   have e:removeS B r={B with T:=shrunk B.T (lookOf B.T r.path).2.1,F:=updF B.F (lookOf B.T r.path).2.1 none,U:=countedU (updF B.F (lookOf B.T r.path).2.1 none) B.U}:=by
    unfold removeS removedT;rw [if_neg (by simp [hl]),if_pos h2,hi]
   rw [e] at ip ik ⊢;dsimp only at ip ik;obtain ⟨c1,c2⟩:=counted_live (U:=B.U) ip ik (fun i m hm=>h.held i m (updF_sub hm));refine ⟨fun i m hm=> ?_,c1,c2⟩;dsimp only at hm ⊢;obtain ⟨x,hx,hd⟩:=h.tree i m (updF_sub hm);unfold shrunk;rw [upd_other _ _ (fun e=> ?_)]
   ·exact ⟨x,hx,hd⟩
   ·rw [e,updF_same] at hm;cases hm
 | commit x hk hx h1 h2 h3=>
  obtain ⟨i,m,h4,h5,h6⟩:=inv.tok x (List.mem_of_find?_eq_some hx);have hxi:x.i.toNat=i:=by omega
  have hF:(commitS B st dl r.c.toNat r.nx x.i.toNat).F=updF B.F i (some (dl.foldl appliedM m)):=by
   unfold commitS;dsimp only;rw [hxi,h6,Option.getD_some]
  have hU:(commitS B st dl r.c.toNat r.nx x.i.toNat).U=countedU (updF B.F i (some (dl.foldl appliedM m))) (addU B.clock st B.U):=by
   unfold commitS;dsimp only;rw [hxi,h6,Option.getD_some];rfl
  have hT:(commitS B st dl r.c.toNat r.nx x.i.toNat).T=B.T:=rfl;dsimp only at ip ik;rw [hF] at ip ik;have hh:=held_add h2 h.held B.clock (F':=updF B.F i (some (dl.foldl appliedM m))) (fun j y hj p hp=>by
   rcases updF_some hj with ⟨_,rfl⟩|hj
   ·rcases folded_ptrs dl m p hp with h7|⟨d,hd,rfl⟩
    ·exact .inl ⟨i,m,h6,h7⟩
    ·rcases (h3 d hd).2.2.2 with h8|h8
     ·exact absurd h8 (ptrs_mem.1 hp).2
     ·exact .inr h8
   ·exact .inl ⟨j,y,hj,hp⟩)
  obtain ⟨c1,c2⟩:=counted_live ip ik hh;refine ⟨fun j y hj=> ?_,?_,?_⟩
  ·dsimp only at hj ⊢;rw [hF] at hj;rw [hT];rcases updF_some hj with ⟨rfl,_⟩|hj
   ·exact h.tree j m h6
   ·exact h.tree j y hj
  ·dsimp only;rw [hF,hU];exact c1
  ·dsimp only;rw [hF,hU];exact c2
theorem askB_live {S:St} (h:InvLive S) (c:Nat) (kd:Int):InvLive (askB S c kd):=by
 unfold askB;split<;>exact ⟨h.tree,h.held,h.live⟩
theorem live_did {S:St} {q:Nat} {r:Req} {st:List Sz} {dl:List Dl} {x:RepS×St} (inv:StInv S q) (inv':StInv x.2 (q+2)) (h:InvLive S) (hd:Did S r st dl x):InvLive x.2:=by
 have t:=turns_all hd;generalize x.2=S' at*;cases t with
 | same=>exact h
 | boot=>exact ⟨h.tree,h.held,h.live⟩
 | swap=>exact ⟨h.tree,h.held,h.live⟩
 | moved hc h2 h3=>
  have ip:=inv'.pts;have ik:=inv'.ok.file;have hF:(movedS S st dl r.nx).F=dl.foldl appliedF S.F:=rfl;have hU:(movedS S st dl r.nx).U=countedU (dl.foldl appliedF S.F) (addU (S.clock+1) st S.U):=rfl;rw [hF] at ip ik;have hh:=held_add h2 h.held (S.clock+1) (F':=dl.foldl appliedF S.F) (fun j y hj p hp=>by
   obtain ⟨m0,h4,h5⟩:=appliedF_ptrs dl S.F j y hj;rcases h5 p hp with h6|⟨d,hd,rfl⟩
   ·exact .inl ⟨j,m0,h4,h6⟩
   ·exact .inr (h3 d hd).2.2)
  obtain ⟨c1,c2⟩:=counted_live ip ik hh;refine ⟨fun j y hj=> ?_,?_,?_⟩
  ·rw [hF] at hj;obtain ⟨m0,h4,_⟩:=appliedF_ptrs dl S.F j y hj;exact h.tree j m0 h4
  ·rw [hF,hU];exact c1
  ·rw [hF,hU];exact c2
 | asked kd bs D hm hk ha hdd=>
  have h1:=live_deed (D:=D) (inv.askB r.c.toNat kd) inv'.pts inv'.ok.file (askB_live h _ _) hdd;exact ⟨h1.tree,h1.held,h1.live⟩
def behindS (S:St) (x:Stp):Prop:=0≤x.1∧x.1≤4∧(x.2.1<lifeS S x.1∨x.2.1=lifeS S x.1∧x.2.2<S.next x.1.toNat)
def InvBeh (S:St):Prop:=∀x,(S.U x).isSome=true→behindS S x
theorem ask_life {W:Nat→Option WRow} {c l q kd:Int} (hm:mayP c l q) (hk:kd=0∨kd=3) (h:askOf W c l q=(kd,none)):kd=0∧l=lifeOf W c∨kd=3∧lifeOf W c<l:=by
 have hm':=hm;unfold mayP at hm';unfold askOf at h;rw [if_pos (show 0≤c∧c<4∧0≤l∧l≤1048576∧1≤q∧q≤1073741824 from hm)] at h;unfold lifeOf;rw [if_pos ⟨hm'.1,hm'.2.1⟩];cases hW:W c.toNat with
 | none=>
  rw [hW] at h;dsimp only at h ⊢;have:=(Prod.mk.inj h).1;exact .inr ⟨this.symm,by omega⟩
 | some y=>
  obtain ⟨life,seq,bs⟩:=y;rw [hW] at h;dsimp only at h ⊢;have h1:=(Prod.mk.inj h).1;unfold kindOf at h1;split at h1
  ·omega
  ·rename_i n1
   split at h1
   ·rename_i n2
    exact .inr ⟨h1.symm,n2⟩
   ·rename_i n2
    split at h1
    ·omega
    ·exact .inl ⟨h1.symm,by omega⟩
structure Gives (c:Nat) (l:Int) (B D:St):Prop where
 U:∀y,(D.U y).isSome=true→(B.U y).isSome=true∨(y.1=(c:Int)∧y.2.1=l∧y.2.2<D.next c)
 other:∀i,i≠c→D.next i=B.next i
 more:B.next c≤D.next c
 boots:D.boots=B.boots
theorem gives_same (c:Nat) (l:Int) {B D:St} (hU:∀y,(D.U y).isSome=true→(B.U y).isSome=true) (hn:D.next=B.next) (hb:D.boots=B.boots):Gives c l B D:=
 ⟨fun y h=> .inl (hU y h),fun i _=>by rw [hn],by rw [hn];exact Int.le_refl _,hb⟩
theorem gives_all {r:Req} {st:List Sz} {dl:List Dl} {B D:St} (hc:0≤r.c∧r.c<4) (d:Deeds r st dl B D):Gives r.c.toNat r.l B D:=by
 have hcc:((r.c.toNat:Nat):Int)=r.c:=Int.toNat_of_nonneg hc.1;cases d with
 | same=>exact gives_same _ _ (fun _ h=>h) rfl rfl
 | make=>exact gives_same _ _ (fun _ h=>h) rfl rfl
 | remove=>
  unfold removeS;split
  ·exact gives_same _ _ (fun _ h=>h) rfl rfl
  ·exact gives_same _ _ (fun _ h=>counted_sub h) rfl rfl
 | move=>exact gives_same _ _ (fun _ h=>h) rfl rfl
 | opens=>exact gives_same _ _ (fun _ h=>h) rfl rfl
 | commit x _ _ _ h _=>
  obtain ⟨h1,h2⟩:=stripes_all h;refine ⟨fun y hy=> ?_,fun i hi=> ?_,?_,rfl⟩
  ·rcases addU_some _ st _ y (counted_sub hy) with h3|⟨s,hs,e⟩
   ·exact .inl h3
   ·obtain ⟨g1,g2,g3,g4⟩:=h1 s hs;rw [e] at g1 g2 g4;exact .inr ⟨by rw [hcc];exact g1,g2,by simp [commitS,addS,updN,g4]⟩
  ·simp [commitS,addS,updN,hi]
  ·simp [commitS,addS,updN,h2]
theorem behind_turn {S S':St} {r:Req} {st:List Sz} {dl:List Dl} (t:Turns S r st dl S'):(∀x,behindS S x→behindS S' x)∧(InvBeh S→InvBeh S'):=by
 cases t with
 | same=>exact ⟨fun _ h=>h,fun h=>h⟩
 | swap=>exact ⟨fun _ h=>h,fun h=>h⟩
 | boot=>
  have key:∀x,behindS S x→behindS (bootS S) x:=fun x hx=>by
   obtain ⟨h1,h2,h4⟩:=hx;refine ⟨h1,h2,?_⟩;by_cases h5:x.1=4
   ·have e1:lifeS (bootS S) x.1=S.boots+1:=by unfold lifeS;rw [if_pos h5];rfl
    have e2:lifeS S x.1=S.boots:=(by unfold lifeS;rw [if_pos h5])
    rw [e2] at h4;rw [e1];omega
   ·have e1:lifeS (bootS S) x.1=lifeS S x.1:=by unfold lifeS;rw [if_neg h5,if_neg h5];rfl
    have e2:(bootS S).next x.1.toNat=S.next x.1.toNat:=by
     unfold bootS updN;dsimp only;rw [if_neg (by omega)]
    rw [e1,e2];exact h4
  exact ⟨key,fun h x hx=>key x (h x hx)⟩
 | moved hcl h2 h3=>
  obtain ⟨g1,g2⟩:=stripes_all h2;have hn:∀i,S.next i≤(movedS S st dl r.nx).next i:=fun i=>by
   unfold movedS addS updN;dsimp only;split
   ·rename_i e
    rw [e];exact g2
   ·exact Int.le_refl _
  have hlf:∀c,lifeS (movedS S st dl r.nx) c=lifeS S c:=fun _=>rfl;have key:∀x,behindS S x→behindS (movedS S st dl r.nx) x:=fun x hx=>by
   obtain ⟨a1,a2,a4⟩:=hx;have:=hn x.1.toNat;refine ⟨a1,a2,?_⟩;rw [hlf];omega
  refine ⟨key,fun h x hx=> ?_⟩;rcases addU_some _ st _ x (counted_sub hx) with h5|⟨s,hs,e⟩
  ·exact key x (h x h5)
  ·obtain ⟨a1,a2,_,a4⟩:=g1 s hs;rw [e] at a1 a2 a4;have e2:lifeS S x.1=S.boots:=(by unfold lifeS;rw [if_pos a1])
   refine ⟨by omega,by omega,.inr ⟨by rw [hlf,e2];exact a2,?_⟩⟩;rw [a1];unfold movedS addS updN;dsimp only;rw [if_pos (by decide)];exact a4
 | asked kd bs D hm hk ha hd=>
  have hc:0≤r.c∧r.c<4:=⟨hm.1,hm.2.1⟩
  have hcc:((r.c.toNat:Nat):Int)=r.c:=Int.toNat_of_nonneg hc.1;have hf:=gives_all hc hd;have hl:=ask_life hm hk ha;have hBU:(askB S r.c.toNat kd).U=S.U:=by unfold askB;split<;>rfl
  have hBb:(askB S r.c.toNat kd).boots=S.boots:=by unfold askB;split<;>rfl
  have hBo:∀i,i≠r.c.toNat→(askB S r.c.toNat kd).next i=S.next i:=fun i hi=>by
   unfold askB;split
   ·simp [updN,hi]
   ·rfl
  have hBs:kd=0→(askB S r.c.toNat kd).next=S.next:=fun e=>by
   unfold askB;rw [if_neg (by omega)]
  generalize askB S r.c.toNat kd=B at*;have hlo:∀x:Stp,x.1≠r.c→lifeS {D with W:=upd S.W r.c.toNat (some (r.l,r.q,bs))} x.1=lifeS S x.1:=fun x hx=>by
   unfold lifeS;split
   ·exact hf.boots.trans hBb
   ·unfold lifeOf;dsimp only;split
    ·rw [upd_other _ _ (by omega)]
    ·rfl
  have hlc:lifeS {D with W:=upd S.W r.c.toNat (some (r.l,r.q,bs))} r.c=r.l:=by
   unfold lifeS lifeOf;dsimp only;rw [if_neg (by omega),if_pos hc,upd_same]
  have hlS:lifeS S r.c=lifeOf S.W r.c:=by unfold lifeS;rw [if_neg (by omega)]
  have key:∀x,behindS S x→behindS {D with W:=upd S.W r.c.toNat (some (r.l,r.q,bs))} x:=fun x hx=>by
   obtain ⟨a1,a2,a4⟩:=hx;by_cases hx:x.1=r.c
   ·have hm':=hf.more;refine ⟨a1,a2,?_⟩;rw [hx,hlS] at a4;rw [hx,hlc];show x.2.1<r.l∨x.2.1=r.l∧x.2.2<D.next r.c.toNat;rcases hl with ⟨e1,e2⟩|⟨e1,e2⟩
    ·rw [hBs e1] at hm';omega
    ·omega
   ·refine ⟨a1,a2,?_⟩;rw [hlo x hx];show _∨_∧x.2.2<D.next x.1.toNat;rw [hf.other _ (by omega),hBo _ (by omega)];exact a4
  refine ⟨key,fun h x hx=> ?_⟩;rcases hf.U x hx with h5|⟨h5,h6,h7⟩
  ·rw [hBU] at h5;exact key x (h x h5)
  ·have e:x.1=r.c:=by rw [h5,hcc]
   refine ⟨by omega,by omega,.inr ⟨by rw [e,hlc];exact h6,?_⟩⟩;rw [e];exact h7
theorem behind_waste {S:St} {x:Stp} (h:behindS S x) (hU:(S.U x).isSome=false):wasteS S x:=⟨h.1,h.2.1,hU,h.2.2⟩
def RowNew {α:Type} (c:α→List Value) (n:Nat) (t:TypeId) (w:World) (base:Nat) (v:Value) (L:List α):Prop:=(v=.slice none 0 0∧L= [])∨∃b cap,v=.slice (some ⟨b,0,none⟩) L.length cap∧cap≤maxLen∧base≤b∧RowB c n t w b cap L
theorem own_newR {α:Type} {c:α→List Value} {n:Nat} {t:TypeId} (hc:∀x,(c x).length=n) {w:World} {base:Nat} {v:Value} {L:List α} (h:w.ownsRow base t n v L.length (L.flatMap c)):RowNew c n t w base v L:=by
 obtain ⟨_,⟨rfl,h0⟩|⟨g,cap,cur,rfl,hg,hb,hn,hm,hs,ht⟩⟩:=h
 ·exact .inl ⟨rfl,List.length_eq_zero_iff.1 h0⟩
 ·refine .inr ⟨g,cap,rfl,hm,hg,RowB.of_block hc hb (Nat.le_of_eq hs.symm) hn (fun k u hk=> ?_)⟩;rw [← ht,List.getElem?_take] at hk;split at hk
  ·simpa using hk
  ·cases hk
theorem RowNew.fr {α:Type} {c:α→List Value} {n:Nat} {t:TypeId} {S:Nat→Prop} {w w':World} {base:Nat} {v:Value} {L:List α} (h:RowNew c n t w base v L) (f:Fr S w w') (hS:∀j,base≤j→¬S j):RowNew c n t w' base v L:=by
 rcases h with h|⟨b,cap,e,hm,hb,hr⟩
 ·exact .inl h
 ·exact .inr ⟨b,cap,e,hm,hb,hr.fr f (hS b hb)⟩
theorem RowNew.shape {α:Type} {c:α→List Value} {n:Nat} {t:TypeId} {w:World} {base:Nat} {v:Value} {L:List α} (h:RowNew c n t w base v L):∃b cap,v=.slice b L.length cap:=by
 rcases h with ⟨rfl,rfl⟩|⟨b,cap,e,_⟩
 ·exact ⟨none,0,rfl⟩
 ·exact ⟨_,_,e⟩
def RowPost {α:Type} (c:α→List Value) (n:Nat) (t:TypeId) (w:World) (L:List α) (e:Ending) (w':World):Prop:=∃v,e=.returned v∧RowNew c n t w' w.heap.size v L∧Fr No w w'
theorem cloneTok_ (v:Value) (L:List Tok) (w:World) (h:TokV w v L) (hl:L.length≤1000000):Calls Tryz.prog 114 #[v] w (RowPost tokC 4 53 w L):=by
 rcases h with ⟨rfl,rfl⟩|⟨b,cap,rfl,hm,hr⟩
 ·refine (AnyE.slices_Clone_nil Tryz.cloneR 0 0 w).mono ?_;rintro e w' ⟨rfl,rfl⟩;exact ⟨_,rfl,.inl ⟨rfl,rfl⟩,Fr.refl _⟩
 ·obtain ⟨i0,hi,hz0,hz1,hz2⟩:=info_parts Tryz.info53;refine (AnyE.slices_Clone Tryz.cloneR i0 _ 4 32 hi hz0 hz1 hz2 rfl (by decide) Tryz.sizeOf53 b 0 L.length cap (L.flatMap tokC) w (flat_len tokC_len L) (by unfold maxLen;omega) (by omega) (fun j u hj=> ?_) (tokC_one L)).mono ?_
  ·rw [Nat.zero_add];exact hr.cells tokC_len j u hj
  ·rintro e w' ⟨v',rfl,ho,_,hb⟩;exact ⟨v',rfl,own_newR tokC_len ho,fr_of_below hb⟩
theorem gtokrows_ (k:Nat) (v:Value) (L:List Tok) (w:World) (hk:w.heap[k]? =some (.cells #[.bool true,v] 155 (0,0))) (hv:TokV w v L) (hl:L.length≤1000000):Calls Tryz.prog 57 #[.pointer (some ⟨k,0,none⟩)] w (RowPost tokC 4 53 w L):=by
 have H1:=lH (rows_ k v w hk);have H2:=lH (cloneTok_ v L w hv hl);have hsh:∃b l c,v=.slice b l c:=by
  rcases hv with ⟨e,_⟩|⟨b,cap,e,_⟩
  ·exact ⟨_,_,_,e⟩
  ·exact ⟨_,_,_,e⟩
 obtain ⟨b,l,c,rfl⟩:=hsh;clear hk hv;go_enter Tryz.func57,Tryz.ntmps57;go_wp2_with fail;refine H1.out.mono ?_;rintro e w1 ⟨rfl,rfl⟩;go_wp2_with fail;refine H2.out.mono ?_;rintro e w2 ⟨v',rfl,h1,h2⟩;go_wp2_with fail
 go_ret
 exact ⟨v',rfl,h1,h2⟩
theorem gtokens_ (o:Nat→Nat) (K n:Nat) (L:Plc) (S:St) (w:World) (h:StateAt w o K L S n) (hl:S.K.length≤1000000):Calls Tryz.prog 22 #[.pointer (some ⟨L.s,0,none⟩)] w (RowPost tokC 4 53 w S.K):=by
 have HMD:=lH (gmade_ o K n L S w h);have c10:w.cell? ⟨L.s,10,none⟩=some (.pointer (some ⟨L.tk,0,none⟩)):=h.cell 10;obtain ⟨v,hk,hv⟩:=h.tok.tokV;have H2:=lH (gtokrows_ L.tk v S.K w hk hv hl);clear h hk hv;go_enter Tryz.func22,Tryz.ntmps22;go_wp2_with fail;refine HMD.out.mono ?_;rintro e w1 ⟨rfl,rfl⟩;go_wp2_with fail;refine H2.out.mono ?_;rintro e w2 ⟨v',rfl,h1,h2⟩;go_wp2_with fail
 go_ret
 exact ⟨v',rfl,h1,h2⟩
def FilePost (w:World) (m:FMap) (e:Ending) (w':World):Prop:=∃p,e=.returned (.pointer (some ⟨p,0,none⟩))∧FileR w' p m∧Fr No w w'
theorem fclone_ (p:Nat) (m:FMap) (w:World) (h:FileR w p m) (hl:m.l.length≤1000000):Calls Tryz.prog 61 #[.pointer (some ⟨p,0,none⟩)] w (FilePost w m):=by
 obtain ⟨v,hk,hv⟩:=h;have c0:w.cell? ⟨p,0,none⟩=some (.bool true):=by rw [cell_at hk];rfl
 have c1:w.cell? ⟨p,1,none⟩=some (.int .i64 m.size):=by rw [cell_at hk];rfl
 have c2:w.cell? ⟨p,2,none⟩=some v:=by rw [cell_at hk];rfl
 have HC:=lH (clonePt_ v m.l w.drew (hv.fr (Fr.refl w).drew) hl);obtain ⟨base,cap,rfl⟩:=hv.slice;have hbd:∀(w':World) (b:Option Addr) (c l:Nat),(Instr.build 135 #[(0,.bool true),(1,.int .i64 m.size),(2,.slice b l c)]).run Tryz.prog w'=.ok (.agg #[.bool true,.int .i64 m.size,.slice b l c]) w':=fun w' b c l=>by kernel_rfl
 have F0:=lH ((Fr.refl (S:=No) w).drew);clear hk hv;go_enter Tryz.func61,Tryz.ntmps61;go_wp2_with fail;go_region_held3 (fun w'=>w'.cell? ⟨p,0,none⟩=some (.bool true)∧w'.cell? ⟨p,1,none⟩=some (.int .i64 m.size)∧w'.cell? ⟨p,2,none⟩=some (.slice base m.l.length cap)) (first|go_keep|(go_split_ands;refine ⟨?_,?_,?_⟩<;>exact f1.cell_of (by assumption) id))
  ((go_at_call 117;refine HC.out.mono ?_;rintro e w1 ⟨v',rfl,o1,f1⟩;obtain ⟨b1,l1,e1⟩:=(own_newR ptC_len o1).shape;subst e1))
 have hb:=hbd w1 b1 l1 m.l.length;go_wp2_with fail
 go_ret
 exact ⟨_,rfl,⟨_,new_at _ _,((own_pt o1).val).fr ((Fr.refl _).alloc _)⟩,(F0.out.trans f1 (fun _ _ e=>e)).alloc _⟩
def MapPost (w:World) (x:Option FMap) (e:Ending) (w':World):Prop:=match x with
 | none=>e=.returned (.pointer none)∧w'=w
 | some m=>FilePost w m e w'
theorem MapLen.few {m:FMap} (h:MapLen m):m.l.length≤1000:=by
 obtain ⟨h1,h2⟩:=h;unfold blocksN at h2;omega
theorem gmap_ (o:Nat→Nat) (K n:Nat) (L:Plc) (S:St) (i:Nat) (w:World) (h:StateAt w o K L S n) (ok:StOk S) (hi:i≤1000000):Calls Tryz.prog 26 #[.pointer (some ⟨L.s,0,none⟩),.int .i64 i] w (MapPost w (S.F i)):=by
 have HMD:=lH (gmade_ o K n L S w h);have c11:w.cell? ⟨L.s,11,none⟩=some (.map (some L.fl)):=h.cell 11;obtain ⟨fp,lk,lf⟩:=h.files.look i hi;have hl1:=lk w (Fr.refl _);clear h lk;cases hF:S.F i with
 | none=>
  have hv:fileV S.F fp i=.pointer none:=by unfold fileV;rw [hF]
  rw [hv] at hl1;clear hv lf hF;go_enter Tryz.func26,Tryz.ntmps26;go_wp2_with fail;refine HMD.out.mono ?_;rintro e w1 ⟨rfl,rfl⟩;go_wp2_with fail
  go_ret
  exact ⟨rfl,rfl⟩
 | some m=>
  have hv:fileV S.F fp i=.pointer (some ⟨fp i,0,none⟩):=by unfold fileV;rw [hF]
  rw [hv] at hl1;have HC:=lH (fclone_ (fp i) m w (lf m hF).reads (Nat.le_trans (ok.file i m hF).2.2.few (by omega)));clear hv lf hF;go_enter Tryz.func26,Tryz.ntmps26;go_wp2_with fail;refine HMD.out.mono ?_;rintro e w1 ⟨rfl,rfl⟩;go_wp2_with fail;refine HC.out.mono ?_;rintro e w2 ⟨p,rfl,h1,h2⟩;go_wp2_with fail
  go_ret
  exact ⟨p,rfl,h1,h2⟩
theorem SlIs.fr {S:Nat→Prop} {w w':World} {v:Value} {bs:List UInt8} {b off c:Nat} (h:SlIs w v bs b off c) (f:Fr S w w') (hb:¬S b):SlIs w' v bs b off c:=
 ⟨h.1,h.2.1,Nat.lt_of_lt_of_le h.2.2.1 f.size,fun j x hj=>f.cell_of (h.2.2.2 j x hj) hb⟩
theorem ownR_base {t n:Nat} {w:World} {base:Nat} {v:Value} {m:Nat} {xs:List Value} (h:w.ownsRow base t n v m xs) (j:Nat) (hj:v.ownBlock=some j):base≤j:=by
 obtain ⟨_,⟨rfl,_⟩|⟨g,cap,cur,rfl,hg,_⟩⟩:=h
 ·cases hj
 ·cases hj;exact hg
theorem ownR_fr {t n:Nat} {S:Nat→Prop} {w w':World} {base:Nat} {v:Value} {m:Nat} {xs:List Value} (h:w.ownsRow base t n v m xs) (f:Fr S w w') (hS:∀j,v.ownBlock=some j→¬S j):w'.ownsRow base t n v m xs:=by
 obtain ⟨h1,h2|⟨g,cap,cur,rfl,hg,hb,h3⟩⟩:=h
 ·exact ⟨h1,.inl h2⟩
 ·exact ⟨h1,.inr ⟨g,cap,cur,rfl,hg,f.block_of hb (hS g rfl),h3⟩⟩
theorem lifeS_some {S:St} {c:Nat} {y:WRow} (hc:c<4) (h:S.W c=some y):lifeS S (c:Int)=y.1:=by
 unfold lifeS lifeOf;rw [if_neg (by omega),if_pos (by omega),Int.toNat_natCast,h]
theorem ask_next {S:St} (iw:InvWin S) {c:Nat} {y:WRow} (h:S.W c=some y) (hq:y.2.1+1≤1073741824):askOf S.W (c:Int) y.1 (y.2.1+1)=(0,none):=by
 obtain ⟨h1,h2,h3,h4,h5⟩:=iw c y h;unfold askOf;rw [if_pos (by omega),Int.toNat_natCast,h];obtain ⟨a,b,d⟩:=y;dsimp only at*;have e:kindOf a (b+1) a b=0:=by
  unfold kindOf;rw [if_neg (by omega),if_neg (by omega),if_neg (by omega)]
 rw [e];rfl
section
variable {K V:Type} [DecidableEq K] {E:Enc K V} {t e:TypeId}
theorem MapAt.has_one {w:World} {b c:Nat} {m:K→Option V} (h:MapAt E w b c m) (ht:Tryz.prog.underlying t=some (.map E.k e)):(c=0∧∀x,m x=none)∨(0<c∧∃x y,m x=some y):=by
 obtain ⟨w',_,hr,_⟩:=h.range ht;rcases hr.next 0 with ⟨h0,hno,_⟩|⟨x,y,_,cnt',hm,_,_,_,hlt,_⟩
 ·refine .inl ⟨h0,fun x=> ?_⟩;cases hm:m x with
  | none=>rfl
  | some y=>
   have:=hno x (h.good hm).1;rw [hm] at this;cases this
 ·exact .inr ⟨by omega,x,y,hm⟩
theorem MapAt.count_eq (ht:Tryz.prog.underlying t=some (.map E.k e)):∀(c c':Nat) {w w':World} {b b':Nat} {m m':K→Option V},MapAt E w b c m→MapAt E w' b' c' m'→(∀x,(m x).isSome=(m' x).isSome)→c=c':=by
 intro c;induction c with
 | zero=>
  intro c' w w' b b' m m' h h' hm;rcases h.has_one ht with ⟨_,h1⟩|⟨h1,_⟩
  ·rcases h'.has_one ht with ⟨h2,_⟩|⟨_,x,y,h2⟩
   ·exact h2.symm
   ·have:=hm x;rw [h1 x,h2] at this;cases this
  ·cases h1
 | succ c ih=>
  intro c' w w' b b' m m' h h' hmm;rcases h.has_one ht with ⟨h1,_⟩|⟨_,x,y,hm⟩
  ·cases h1
  ·have hx':(m' x).isSome=true:=by rw [← hmm x,hm];rfl
   obtain ⟨y',hm'⟩:=Option.isSome_iff_exists.1 hx';rcases h'.has_one ht with ⟨_,h2⟩|⟨hp,_⟩
   ·rw [h2 x] at hm';cases hm'
   ·obtain ⟨_,_,d1,_⟩:=h.del x (h.good hm).1 ht 0;obtain ⟨_,_,d2,_⟩:=h'.del x (h'.good hm').1 ht 0;rw [hm] at d1;rw [hm'] at d2;have:=ih _ d1 d2 (fun z=>by
     by_cases hz:z=x
     ·simp [hz]
     ·simp [hz,hmm z])
    simp only [Option.isSome_some,if_true] at this;omega
def gone (left:K→Bool) (m:K→Option V):K→Option V:=fun z=>if left z=true then none else m z
omit [DecidableEq K] in
theorem gone_start (m:K→Option V):gone (fun x=>(m x).isSome) m=fun _=>none:=by
 funext z;unfold gone;by_cases h:(m z).isSome=true
 ·rw [if_pos h]
 ·rw [if_neg h];cases hm:m z with
  | none=>rfl
  | some y=>rw [hm] at h;exact absurd rfl h
theorem gone_next {left:K→Bool} {m:K→Option V} {x:K} {y:V} (hm:m x=some y) (m':K→Option V) (hx:m' x=some y) (ho:∀z,z≠x→m' z=m z):(fun z=>if z=x then some y else gone left m z)=gone (fun z=>left z&&decide (z≠x)) m':=by
 funext z;unfold gone;by_cases h:z=x
 ·subst h;simp [hx]
 ·simp [h,ho z h]
omit [DecidableEq K] in
theorem gone_end {left:K→Bool} {m:K→Option V} (hg:∀z y,m z=some y→E.good z) (h:∀z,E.good z→left z=false):gone left m=m:=by
 funext z;unfold gone;cases hm:m z with
 | none=>simp
 | some y=>rw [if_neg (by rw [h z (hg z y hm)];simp)]
end
theorem Step.own_turn {w w1 w2:World} {o o1:Nat→Nat} {b:Nat} (s:Step (fun _=>False) w o w1 o1) (hb:w.heap.size≤b) (f:Fr (· =b) w1 w2):Step (fun _=>False) w o w2 o1:=
 ⟨s.fr.trans f (fun j hj e=>by omega),s.old,fun k hk=>s.fresh k (Nat.le_trans f.size hk)⟩
theorem Step.painted {w w1:World} {o o1:Nat→Nat} {b c:Nat} (s:Step (fun _=>False) w o w1 o1) (hb:w.heap.size≤b) (hlt:b<w1.heap.size):Step (fun _=>False) w o w1 (paint o1 b c):=
 ⟨s.fr,fun k hk=>by rw [paint_other o1 _ (by omega)];exact s.old k hk,fun k hk=>by rw [paint_other o1 _ (by omega)];exact s.fresh k hk⟩
theorem Step.frNo {w w1 w2:World} {o o1:Nat→Nat} (s:Step (fun _=>False) w o w1 o1) (f:Fr No w1 w2):Step (fun _=>False) w o w2 o1:=
 ⟨s.fr.trans f (fun _ _ e=>e.elim),s.old,fun k hk=>s.fresh k (Nat.le_trans f.size hk)⟩
theorem RowNew.at {α:Type} {c:α→List Value} {n:Nat} {t:TypeId} {w:World} {base:Nat} {a:Option Addr} {len cap:Nat} {L:List α} (h:RowNew c n t w base (.slice a len cap) L) (h0:0<L.length):∃b,a=some ⟨b,0,none⟩∧cap≤maxLen∧base≤b∧RowB c n t w b cap L:=by
 rcases h with ⟨_,rfl⟩|⟨b,cap',e,hm,hb,hr⟩
 ·exact absurd h0 (by simp)
 ·cases e;exact ⟨b,rfl,hm,hb,hr⟩
theorem TokV.no {w w':World} {v:Value} {L:List Tok} (h:TokV w v L) (f:Fr No w w'):TokV w' v L:=by
 rcases h with h|⟨b,cap,e,hm,hr⟩
 ·exact .inl h
 ·exact .inr ⟨b,cap,e,hm,hr.fr f id⟩
end Go.Proofs.YtlcojhddnpmgmaaGreat
namespace Go.Proofs.YtlcojhddnpmgmaaGreat
open Go.RowKit Go.Sort Go.Shelf
theorem sorted_eq {α:Type} {r:α→α→Prop} (irr:∀x,¬r x x) (asy:∀x y,r x y→¬r y x):∀ {l1 l2:List α},l1.Pairwise r→l2.Pairwise r→(∀x,x∈l1↔x∈l2)→l1=l2
 | [],l2,_,_,h=>by
  cases l2 with
  | nil=>rfl
  | cons b t=>exact absurd ((h b).2 (by simp)) (by simp)
 | a::t, [],_,_,h=>absurd ((h a).1 (by simp)) (by simp)
 | a::t,b::s,h1,h2,h=>by
  rw [List.pairwise_cons] at h1 h2;have e:a=b:=by
   rcases List.mem_cons.1 ((h a).1 (by simp)) with e|ha
   ·exact e
   ·rcases List.mem_cons.1 ((h b).2 (by simp)) with e|hb
    ·exact e.symm
    ·exact absurd (h1.1 b hb) (asy _ _ (h2.1 a ha))
  subst e;rw [sorted_eq irr asy h1.2 h2.2 (fun x=>⟨fun hx=> ?_,fun hx=> ?_⟩)]
  ·rcases List.mem_cons.1 ((h x).1 (List.mem_cons_of_mem _ hx)) with e|h3
   ·subst e;exact absurd (h1.1 _ hx) (irr _)
   ·exact h3
  ·rcases List.mem_cons.1 ((h x).2 (List.mem_cons_of_mem _ hx)) with e|h3
   ·subst e;exact absurd (h2.1 _ hx) (irr _)
   ·exact h3
def numsOf (p:Nat→Bool):List Nat:=(List.range 129).filter p
theorem numsOf_mem {p:Nat→Bool} (hp:∀k,p k=true→k<129) (k:Nat):k∈numsOf p↔p k=true:=by
 unfold numsOf;rw [List.mem_filter,List.mem_range];exact ⟨fun h=>h.2,fun h=>⟨hp k h,h⟩⟩
theorem range_sorted:∀n,(List.range n).Pairwise (· < ·)
 | 0=>List.Pairwise.nil
 | n+1=>by
  rw [List.range_succ,List.pairwise_append];exact ⟨range_sorted n,by simp,fun a ha b hb=>by rw [List.mem_range] at ha;rw [List.mem_singleton] at hb;omega⟩
theorem nums_sort {ss:List Int} {p:Nat→Bool} (hp:∀k,p k=true→k<129) (hn:ss.Nodup) (h:∀x,x∈ss↔∃k:Nat,x=k∧p k=true):ss.mergeSort (fun x y=>decide (x≤y))=(numsOf p).map (fun k:Nat=>(k:Int)):=by
 refine sorted_eq (r:=fun a b:Int=>a<b) (fun x=>by omega) (fun x y=>by omega) ?_ ?_ (fun x=> ?_)
 ·have h1:=List.pairwise_mergeSort (le:=fun x y:Int=>decide (x≤y)) (fun a b c h1 h2=>by simp only [decide_eq_true_eq] at*;omega) (fun a b=>by simp only [Bool.or_eq_true,decide_eq_true_eq];omega) ss;have h2:=(List.mergeSort_perm ss (fun x y=>decide (x≤y))).nodup_iff.2 hn;refine List.Pairwise.imp₂ (fun a b h3 h4=> ?_) h1 h2;simp only [decide_eq_true_eq] at h3;omega
 ·rw [List.pairwise_map];unfold numsOf;exact (List.Pairwise.filter _ (range_sorted 129)).imp (fun h=>by omega)
 ·rw [(List.mergeSort_perm ss _).mem_iff,h x,List.mem_map];exact ⟨fun ⟨k,e,hk⟩=>⟨k,(numsOf_mem hp k).2 hk,e.symm⟩,fun ⟨k,hk,e⟩=>⟨k,e.symm,(numsOf_mem hp k).1 hk⟩⟩
def numC (i:Int):List Value:= [.int .i64 i]
theorem numC_len (i:Int):(numC i).length=1:=rfl
theorem fr_sorted {α:Type} [Inhabited α] (enc:α→Value) {w:World} {g n:Nat} {os:Array Obj} (F:Array α):Fr (· =g) w (Go.Sort.grow (Go.Sort.putRow enc (Go.Sort.ahead w n) g 0 F) os):=by
 refine ⟨rfl,rfl,rfl,by simp,fun k hk hne=> ?_⟩;rw [Go.Sort.heap_grow_old _ _ (by simpa using hk)];have:g≠k:=fun e=>hne e.symm;simp [Go.Sort.putRow,Go.Sort.mapBlock,Go.Sort.ahead,Array.getElem?_modify,this]
theorem heap_sorted {α:Type} [Inhabited α] (enc:α→Value) {w:World} {g n:Nat} {os:Array Obj} {cur:Array Value} {e:TypeId} {fr:Nat×Nat} (F:Array α) (hb:w.heap[g]? =some (.cells cur e fr)):
  (Go.Sort.grow (Go.Sort.putRow enc (Go.Sort.ahead w n) g 0 F) os).heap[g]? =some (.cells (Go.Sort.putCells enc 0 F cur) e fr):=by
 have hg:g<w.heap.size:=(Array.getElem?_eq_some_iff.1 hb).1;rw [Go.Sort.heap_grow_old _ _ (by simpa using hg)];simp [Go.Sort.putRow,Go.Sort.mapBlock,Go.Sort.ahead,Array.getElem?_modify,hb,Go.Sort.onCells]
theorem sortI_ (ss:List Int) (base:Nat) (v:Value) (w:World) (h:w.ownsRow base 3 1 v ss.length (ss.flatMap numC)) (hs:ss.length<10000000):
  Calls Tryz.prog 69 #[v] w fun e w'=>e=.returned (.tuple #[])∧Fr (fun k=>base≤k) w w'∧RowNew numC 1 3 w' base v (ss.mergeSort fun x y=>decide (x≤y)):=by
 rcases h.2 with ⟨rfl,h0⟩|⟨g,cap,cur,rfl,hb,hh,h1,h2,h3,h4⟩
 ·have hs0:=List.eq_nil_of_length_eq_zero h0;subst hs0;refine (Tryz.slices_Sort_int_none none 0 w).mono ?_;rintro e w' ⟨rfl,rfl⟩;exact ⟨rfl,Fr.refl _,.inl ⟨rfl,by simp⟩⟩
 ·have hcell:∀j (hj:j<ss.length),cur[j]? =some (.int .i64 ss[j]):=fun j hj=>by
   have h5:=congrArg (fun l=>l[j]?) h4;simp only [Nat.mul_one] at h5;rw [List.getElem?_take_of_lt hj,Array.getElem?_toList] at h5;rw [h5];have h6:=flat_get numC_len ss j _ (List.getElem?_eq_getElem hj) 0 (.int .i64 ss[j]) rfl;simpa using h6
  have hH:Holds (Value.int .i64) w g 0 ss.toArray:=fun j hj=>by
   have hj':j<ss.length:=(by simpa using hj)
   refine ⟨?_,by simp [World.frozen?,hh]⟩;rw [Nat.zero_add,cell_at hh,hcell j hj'];simp [hj']
  refine (Tryz.slices_Sort_int g 0 cap ss w hH (lt_of_block hh) (by omega)).mono ?_;rintro e w' ⟨rfl,n,os,rfl⟩;have hl:(ss.mergeSort fun x y=>decide (x≤y)).length=ss.length:=List.length_mergeSort _;generalize (ss.mergeSort fun x y=>decide (x≤y))=zs at*;have hfin:Holds (Value.int .i64) (grow (putRow (Value.int .i64) (Sort.ahead w n) g 0 zs.toArray) os) g 0 zs.toArray:=
   holds_grow _ _ _ _ _ _ (by simpa [putRow,mapBlock,Go.Sort.ahead] using lt_of_block hh) (holds_putRow _ _ _ _ _ _ (holds_ahead _ _ n _ _ _ hH) (by simp [hl]))
  refine ⟨rfl,(fr_sorted _ _).mono (fun k _ e=>by rw [e];exact hb),.inr ⟨g,cap,by rw [hl],h2,hb,⟨⟨_,heap_sorted _ _ hh,?_⟩,by rw [hl];exact h1,fun j x hj i u hu=> ?_⟩⟩⟩
  ·simp only [Go.Sort.putCells,Array.size_mapIdx];omega
  ·have hjl:j<zs.length:=(List.getElem?_eq_some_iff.1 hj).1;obtain rfl:i=0:=(by have:=(List.getElem?_eq_some_iff.1 hu).1;rw [numC_len] at this;omega)
   have hc:=(hfin j (by simpa using hjl)).1;rw [Nat.zero_add] at hc;rw [Nat.mul_one,Nat.add_zero];refine hc.trans ?_;have e1:zs.toArray[j]! =x:=by
    rw [List.getElem?_eq_getElem hjl] at hj;cases hj;exact (getElem!_pos zs.toArray j (by simpa using hjl)).trans rfl
   rw [e1];cases hu;rfl
def NumsPost (w:World) (l:List Nat) (e:Ending) (w':World):Prop:=∃v,e=.returned v∧RowNew numC 1 3 w' w.heap.size v (l.map fun k:Nat=>(k:Int))∧Fr No w w'
theorem Tryz.info3:(Tryz.prog.info? 3).map (fun i=>(i.zero,i.size,i.bytes))=some (some (.int .i64 0),1,8):=by kernel_rfl
theorem gtinos_ (o:Nat→Nat) (K t:Nat) (T:Tree) (w:World) (h:TreeAt w o K t T) (ok:TreeOk T):Calls Tryz.prog 32 #[.pointer (some ⟨t,0,none⟩)] w (NumsPost w (numsOf fun k=>(T k).isSome)):=by
 have HMD:=lH (gtmade_ w o K t T h);obtain ⟨mb,tp,_,kt,_,hum,_⟩:=h;have c0:w.cell? ⟨t,0,none⟩=some (.map (some mb)):=by rw [cell_at kt];rfl
 have hcu:things T≤129:=by
  unfold things;exact Nat.le_trans List.countP_le_length (by simp)
 have HP:Hid (∀x:Int,(thm T tp x).isSome=true↔∃k:Nat,x=k∧(T k).isSome=true):=lH (fun x=>by
  unfold thm;constructor
  ·intro h;split at h
   ·exact ⟨x.toNat,by omega,by simpa using h⟩
   ·cases h
  ·rintro ⟨k,rfl,hk⟩;rw [if_pos (by omega),Int.toNat_natCast];simpa using hk)
 have HL:Hid (∀k,(T k).isSome=true→k<129):=lH (fun k hk=>by
  obtain ⟨x,hx⟩:=Option.isSome_iff_exists.1 hk;have:=ok.lt hx;omega)
 generalize hcc:things T=cu at*;clear hcc kt;have HQ:Hid (∀(v:Value) (w':World) (ss:List Int),RowNew numC 1 3 w' w.heap.size v (ss.mergeSort fun x y=>decide (x≤y))→ss.Nodup→(∀x,x∈ss↔(thm T tp x).isSome=true)→Fr No w w'→NumsPost w (numsOf (fun k=>(T k).isSome)) (.returned v) w'):=lH (fun v w' ss h1 h2 h3 f=>⟨v,rfl,by
  rw [← nums_sort HL.out h2 (fun x=>(h3 x).trans (HP.out x))];exact h1,f⟩)
 generalize NumsPost w (numsOf (fun k=>(T k).isSome))=Q at*;obtain ⟨w2,hr,R2,f2,hs2⟩:=hum.range (t:=130) (e:=142) Tryz.underlying130;have hult:mb<w.heap.size:=hum.lt;have HUM:=lH hum;generalize thm T tp=U at*;have RR2:=lH R2;have F2:=lH f2;obtain ⟨i0,hi,hz0,hz1,hz2⟩:=info_parts Tryz.info3;have HI:=lH hi;have HZ0:=lH hz0;have HZ1:=lH hz1;have HZ2:=lH hz2;have HS2:=lH hs2;clear hi hz0 hz1 hz2 ok hum R2 f2 hs2;go_enter Tryz.func32,Tryz.ntmps32;go_wp2_with fail;refine HMD.out.mono ?_;rintro e w1 ⟨rfl,hw⟩;have hw':=hw.symm;subst hw';go_wp2_with fail;go_loopw [3] (fun v wr=>∃(ss:List Int) (left:Int→Bool) (cnt:Nat),Hid (RangeAt encI wr mb w.heap.size cu U left cnt)∧Hid (∀s:Int,I64 s→(left s=true↔(U s).isSome=true∧s ∉ ss))∧Hid (wr.ownsRow (w.heap.size+1) 3 1 v ss.length (ss.flatMap numC))∧Hid ss.Nodup∧Hid (∀s∈ss,(U s).isSome=true)∧Hid (Fr No w wr)∧cnt+ss.length≤cu∧w.heap.size+1≤wr.heap.size) (fun _ wr=>wr.rangeLeft mb w.heap.size)
 case atStart=>
  refine ⟨[],_,_,RR2,lH (fun s _=> ?_),lH ⟨rfl,.inl ⟨rfl,rfl⟩⟩,lH List.nodup_nil,lH (by simp),F2,by simp,by have:=HS2.out;omega⟩;simp
 case round=>
  obtain ⟨ss,left,cnt,HRA,HLF,HOWN,HND,HIN,HFR,hcnt,hsz⟩:=hrel;obtain ⟨a,cc,rfl⟩:=HOWN.out.shape;rcases HRA.out.next 0 with ⟨_,hno,hnx⟩|⟨x,y,w4,cnt',hms,hls,hnx,hra',hlt',f4,hs4,hen⟩
  ·have hall:∀s,s∈ss↔(U s).isSome=true:=fun s=>⟨HIN.out s,fun h=>by
    obtain ⟨u0,hu0⟩:=Option.isSome_iff_exists.1 h;have hg:I64 s:=(HUM.out.good hu0).1;apply Classical.byContradiction;intro hn;have:=(HLF.out s hg).2 ⟨h,hn⟩;rw [hno s hg] at this;cases this⟩
   have HALL:=lH hall;clear hall hno;go_wp2_with fail;refine (sortI_ ss (w.heap.size+1) _ wr HOWN.out (by omega)).mono ?_;rintro e w6 ⟨rfl,f6,hes⟩;have hfin:Fr No w w6:=((HFR.out.of_no (S:=fun k=>w.heap.size+1≤k)).trans f6 (fun j _ h=>h)).no (fun j hj h=>by omega);have hrow:RowNew numC 1 3 w6 w.heap.size (.slice a ss.length cc) (ss.mergeSort fun x y=>decide (x≤y)):=by
    rcases hes with h|⟨b,c,e,h1,h2,h3⟩
    ·exact .inl h
    ·exact .inr ⟨b,c,e,h1,by omega,h3⟩
   have H1:=lH hfin;have H2:=lH hrow;clear f6 hes hfin hrow;go_wp2_with fail;exact HQ.out _ _ _ H2.out HND.out HALL.out H1.out
  ·have hgx:I64 x:=(HRA.out.map.good hms).1;obtain ⟨_,hnin⟩:=(HLF.out x hgx).1 hls;have hux:(U x).isSome=true:=(by rw [hms];rfl)
   have F4:Hid (Fr No w w4):=lH (HFR.out.trans f4 (fun j hj e=>by omega));have O4:Hid (w4.ownsRow (w.heap.size+1) 3 1 (.slice a ss.length cc) ss.length (ss.flatMap numC)):=lH (ownR_fr HOWN.out f4 (fun j hj e=>by have:=ownR_base HOWN.out j hj;omega));have R4:=lH hra';have hnx':(Instr.next (.pointer (some ⟨w.heap.size,0,none⟩)) false 0).run Tryz.prog wr=.ok (.tuple #[.bool true,.int .i64 x,.pointer (some ⟨y,0,none⟩)]) w4:=hnx;have hen':(Instr.entry (.pointer (some ⟨w.heap.size,0,none⟩))).run Tryz.prog w4=.ok (.tuple #[.int .i64 x,.pointer (some ⟨y,0,none⟩)]) w4:=hen;have HLE:Hid (wr.rangeLeft mb w.heap.size=cnt):=lH HRA.out.left_eq;have HLT:=lH hlt';have HN:Hid (∀s:Int,I64 s→((left s&&decide (s≠x))=true↔(U s).isSome=true∧s ∉ ss++ [x])):=lH (fun s hs=>by
    rw [Bool.and_eq_true,decide_eq_true_eq,HLF.out s hs,List.mem_append,List.mem_singleton];constructor
    ·rintro ⟨⟨h1,h2⟩,h3⟩;exact ⟨h1,fun h=>h.elim h2 h3⟩
    ·rintro ⟨h1,h2⟩;exact ⟨⟨h1,fun h=>h2 (.inl h)⟩,fun h=>h2 (.inr h)⟩)
   have HND2:Hid (ss++ [x]).Nodup:=lH (by
    rw [List.nodup_append];exact ⟨HND.out,by simp,fun a ha b hb e=>by
     rw [List.mem_singleton] at hb;subst hb;subst e;exact hnin ha⟩)
   have HIN2:Hid (∀s∈ss++ [x],(U s).isSome=true):=lH (fun s hs=>by
    rcases List.mem_append.1 hs with h|h
    ·exact HIN.out s h
    ·rw [List.mem_singleton] at h;rw [h];exact hux)
   have hs4':w4.heap.size=wr.heap.size:=hs4;have SZ:=lH hs4';clear hnx hen hra' f4 hs4 hms hls hlt' hnin hux hs4' hgx;go_wp2_with (at_builtin;(refine wpList_append_lies _ (by rfl) _ _ 70 (by rfl) (w.heap.size+1) 3 i0 _ 1 8 Tryz.underlying70 HI.out HZ0.out HZ1.out HZ2.out rfl (by decide) (.slice a ss.length cc) ss.length (ss.flatMap numC) (by rfl) (O4.out.alloc _) ⟨w4.heap.size,0,none⟩ 1 1 [.int .i64 x] (by rfl) (by rfl) ?d1 (by simp [Value.oneCell']) (by decide) (by unfold maxLen;omega) (by omega) ?d5 (w4.heap.size+1) ?d6 ?_))
   case d1=>exact World.news_of_block (cs:= #[.int .i64 x]) (t:=3) (fr:=(0,0)) (heap_alloc_new w4 _)
   case d5=>rw [heap_size_alloc];have:=SZ.out;omega
   case d6=>simp
   intro gg cap wD hownD hgrow hat hgl;have HNL:Hid (Fr No w wD):=lH ((F4.out.alloc _).grown hgrow (fun j hj=> .inr (by have:=ownR_base O4.out j hj;omega)));have HG4:Fr (fun k=>w.heap.size+1≤k) w4 wD:=((Fr.refl (S:=fun k=>w.heap.size+1≤k) w4).alloc _).grown hgrow (fun j hj=> .inl (ownR_base O4.out j hj));have RD:=lH (R4.out.fr HG4 (by omega) (by omega));have HOD:=lH hownD;have hsD:w.heap.size+1≤wD.heap.size:=Nat.le_trans (by have:=SZ.out;omega) HG4.size;clear hownD hgrow hat hgl HG4;go_wp2_with fail;go_roundw
   case rel=>
    refine ⟨ss++ [x],_,cnt',RD,HN,lH ?_,HND2,HIN2,HNL,by rw [List.length_append,List.length_singleton];have:=HLT.out;omega,hsD⟩;have h9:=HOD.out;rw [List.flatMap_append,List.length_append];simp only [List.flatMap_cons,List.flatMap_nil,List.append_nil,List.length_singleton];exact h9
   case measure=>
    rw [RD.out.left_eq,HLE.out];exact HLT.out
end Go.Proofs.YtlcojhddnpmgmaaGreat
namespace Go.Proofs.YtlcojhddnpmgmaaGreat
open Go.RowKit
theorem ThingAt.cells {w:World} {o:Nat→Nat} {K k p n:Nat} {x:Node} {m:ByteArray→Option Int} (h:ThingAt w o K k p x n m):∃v,w.heap[p]? =some (.cells #[.int .i64 x.up,.string (ba x.name),.bool x.dir,v] 141 (0,0)):=by
 obtain ⟨up,name,dir⟩:=x;have:=h.2;cases dir with
 | false=>exact ⟨_,this⟩
 | true=>
  obtain ⟨ib,_,e,_⟩:=this;exact ⟨_,e⟩
theorem numC_at {w:World} {b cap:Nat} {L:List Nat} (h:RowB numC 1 3 w b cap (L.map fun k:Nat=>(k:Int))) {j:Nat} (hj:j<L.length):w.cell? ⟨b,j,none⟩=some (.int .i64 ((L[j]:Nat):Int)):=by
 have:=h.row j ((L[j]:Nat):Int) (by rw [List.getElem?_map,List.getElem?_eq_getElem hj];rfl) 0 _ rfl;simpa using this
end Go.Proofs.YtlcojhddnpmgmaaGreat
