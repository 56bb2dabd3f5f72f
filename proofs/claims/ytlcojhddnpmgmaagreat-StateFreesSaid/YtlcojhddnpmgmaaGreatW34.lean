/- Part of the proof; the last text says what is proved. -/
import Derived.Test.YtlcojhddnpmgmaaGreatW26
import Derived.Test.YtlcojhddnpmgmaaGreatW28
set_option linter.unusedSimpArgs false
set_option linter.unusedVariables false
set_option maxRecDepth 100000
set_option maxHeartbeats 3200000
namespace Go.Proofs.YtlcojhddnpmgmaaGreat
open Go.RowKit
theorem Tryz.size41:(Tryz.prog.info? 41).map (·.size)=some 14:=by kernel_rfl
def smallR (r:Req) (ns nd:Nat):Prop:=r.path.length≤300∧r.to.length≤300∧ns≤60∧nd≤100
instance (r:Req) (ns nd:Nat):Decidable (smallR r ns nd):=by unfold smallR;exact inferInstance
def BoolPost (w:World) (p:Prop) [Decidable p] (e:Ending) (w':World):Prop:=e=.returned (.bool (decide p))∧Fr No w w'
theorem BoolPost.mk {w:World} {p:Prop} [Decidable p] (b:Bool) (e:Ending) (w':World) (hb:b=true↔p) (he:e=.returned (.bool b)) (f:Fr No w w'):BoolPost w p e w':=by
 have:decide p=b:=by
  cases b with
  | true=>exact decide_eq_true (hb.1 rfl)
  | false=>exact decide_eq_false (fun h=>by have:=hb.2 h;cases this)
 unfold BoolPost;rw [this];exact ⟨he,f⟩
theorem gsmall_ (r:Req) (bs bd:Option Addr) (ns nd cs cd:Nat) (w:World):Calls Tryz.prog 29 #[.agg (r.cells (.slice bs ns cs) (.slice bd nd cd))] w (BoolPost w (smallR r ns nd)):=by
 have HR2:Hid (∀(b:Bool) e w',(b=true↔smallR r ns nd)→e=.returned (.bool b)→Fr No w w'→BoolPost w (smallR r ns nd) e w'):=lH BoolPost.mk;generalize BoolPost w (smallR r ns nd)=Q at*;have hs1:=ba_size r.path;have hs2:=ba_size r.to;have HS:Hid (smallR r ns nd↔(((ba r.path).size:Int)≤300∧((ba r.to).size:Int)≤300∧(ns:Int)≤60∧(nd:Int)≤100)):=lH (by unfold smallR;rw [hs1,hs2];constructor<;>(rintro ⟨h1,h2,h3,h4⟩;refine ⟨?_,?_,?_,?_⟩<;>omega));have F0:=lH ((Fr.refl (S:=No) w).alloc (.cells #[.int .i64 r.c,.int .i64 r.l,.int .i64 r.q,.int .i64 r.kind,.string (ba r.path),.string (ba r.to),.bool r.dir,.bool r.wr,.bool r.cl,.int .i64 r.h,.int .i64 r.nx,.int .i64 r.sw,.slice bs ns cs,.slice bd nd cd] 41));generalize smallR r ns nd=P at*;clear hs1 hs2;unfold Req.cells;by_cases h1:((ba r.path).size:Int)≤300
 ·by_cases h2:((ba r.to).size:Int)≤300
  ·by_cases h3:(ns:Int)≤60
   ·by_cases h4:(nd:Int)≤100
    ·have HB:Hid (true=true↔P):=lH (by rw [HS.out];simp [h1,h2,h3,h4]);go_enter Tryz.func29,Tryz.ntmps29
     go_wp2
     exact HR2.out true _ _ (by simpa using HB.out) rfl F0.out
    ·have HB:Hid (false=true↔P):=lH (by rw [HS.out];simp [h4]);go_enter Tryz.func29,Tryz.ntmps29
     go_wp2
     exact HR2.out false _ _ (by simpa using HB.out) rfl F0.out
   ·have HB:Hid (false=true↔P):=lH (by rw [HS.out];simp [h3]);go_enter Tryz.func29,Tryz.ntmps29
    go_wp2
    exact HR2.out false _ _ (by simpa using HB.out) rfl F0.out
  ·have HB:Hid (false=true↔P):=lH (by rw [HS.out];simp [h2]);go_enter Tryz.func29,Tryz.ntmps29
   go_wp2
   exact HR2.out false _ _ (by simpa using HB.out) rfl F0.out
 ·have HB:Hid (false=true↔P):=lH (by rw [HS.out];simp [h1]);go_enter Tryz.func29,Tryz.ntmps29
  go_wp2
  exact HR2.out false _ _ (by simpa using HB.out) rfl F0.out
abbrev Rq:=Req×List Sz×List Dl
def RqIn (w:World) (o:Nat→Nat) (b off:Nat) (y:Rq):Prop:=∃rv dv,w.rangeAt b off (y.1.cells rv dv).toList∧RowsAt szC 4 w o rv y.2.1∧RowsAt dlC 14 w o dv y.2.2
def RqsAt (w:World) (o:Nat→Nat) (v:Value) (L:List Rq):Prop:=
 ∃base cap,v=.slice base L.length cap∧(L≠ []→∃b off,base=some ⟨b,off,none⟩∧o b=0∧b<w.heap.size∧∀(j:Nat) y,L[j]? =some y→RqIn w o b (off+j*14) y)
theorem RqsAt.step {C:Nat→Prop} {w w':World} {o o':Nat→Nat} {v:Value} {L:List Rq} (h:RqsAt w o v L) (s:Step C w o w' o') (h0:¬C 0):RqsAt w' o' v L:=by
 obtain ⟨base,cap,e,h1⟩:=h;refine ⟨base,cap,e,fun hL=> ?_⟩;obtain ⟨b,off,e1,e2,e3,e4⟩:=h1 hL;refine ⟨b,off,e1,(s.old b e3).trans e2,Nat.lt_of_lt_of_le e3 s.fr.size,fun j y hj=> ?_⟩;obtain ⟨rv,dv,a1,a2,a3⟩:=e4 j y hj;exact ⟨rv,dv,fun i u hu=>s.fr.cell_of (a1 i u hu) (by rw [e2];exact h0),a2.step s h0,a3.step s h0⟩
theorem RqsAt.no {w w':World} {o:Nat→Nat} {v:Value} {L:List Rq} (h:RqsAt w o v L) (hf:Fresh w o) (f:Fr No w w'):RqsAt w' o v L:=h.step (Step.no (C:=fun _=>False) hf f) id
theorem RqsAt.at {w:World} {o:Nat→Nat} {base:Option Addr} {cap:Nat} {L:List Rq} (h:RqsAt w o (.slice base L.length cap) L) (hL:L≠ []):∃b off,base=some ⟨b,off,none⟩∧o b=0∧b<w.heap.size∧∀(j:Nat) y,L[j]? =some y→RqIn w o b (off+j*14) y:=by
 obtain ⟨base',cap',e,h1⟩:=h;cases e;exact h1 hL
theorem RqsAt.slice {w:World} {o:Nat→Nat} {v:Value} {L:List Rq} (h:RqsAt w o v L):∃base cap,v=.slice base L.length cap:=by
 obtain ⟨base,cap,e,_⟩:=h;exact ⟨base,cap,e⟩
def smallY (y:Rq):Prop:=smallR y.1 y.2.1.length y.2.2.length
instance (y:Rq):Decidable (smallY y):=by unfold smallY;exact inferInstance
theorem gasks_ (o:Nat→Nat) (v:Value) (L:List Rq) (most:Nat) (w:World) (hf:Fresh w o) (h:RqsAt w o v L) (hm:most≤1000):
  Calls Tryz.prog 19 #[v,.int .i64 most] w (BoolPost w (L.length≤most∧∀y∈L,smallY y)):=by
 obtain ⟨base,cap,rfl⟩:=h.slice;have HR2:Hid (∀(b:Bool) e w',(b=true↔(L.length≤most∧∀y∈L,smallY y))→e=.returned (.bool b)→Fr No w w'→BoolPost w (L.length≤most∧∀y∈L,smallY y) e w'):=lH BoolPost.mk;generalize BoolPost w (L.length≤most∧∀y∈L,smallY y)=Q at*;have HH:=lH h;have HF0:=lH hf;clear h hf;by_cases hlm:(most:Int)<(L.length:Int)
 ·have HB:Hid (false=true↔(L.length≤most∧∀y∈L,smallY y)):=lH (by constructor;(intro h;cases h);(intro h;have:=h.1;omega));go_enter Tryz.func19,Tryz.ntmps19;go_wp2_with fail;exact HR2.out false _ _ (by simpa using HB.out) rfl (Fr.refl _)
 ·go_enter Tryz.func19,Tryz.ntmps19;go_wp2_with fail;go_loopw [5] (fun a wr=>∃j:Nat,a=.int .i64 j∧j≤L.length∧Hid (∀y∈L.take j,smallY y)∧Hid (Fr No w wr)) (fun a _=>L.length - (intOf a).toNat)
  case atStart=>exact ⟨0,rfl,Nat.zero_le _,lH (by simp),lH (Fr.refl _)⟩
  case round=>
   obtain ⟨j,rfl,hj,HJ,HF⟩:=hrel;by_cases hlt:j<L.length
   ·have hne:L≠ []:=by
     intro e;subst e;simp at hlt
    obtain ⟨b,off,rfl,ho,hbl,hrows⟩:=(HH.out.no HF0.out HF.out).at hne;obtain ⟨rv,dv,hr1,hr2,hr3⟩:=hrows j L[j] (List.getElem?_eq_getElem hlt);have HJX:Hid (smallY L[j]→∀z∈L.take (j+1),smallY z):=lH (fun hd z hz=>by
     rw [List.take_add_one,List.getElem?_eq_getElem hlt,Option.toList_some] at hz;rcases List.mem_append.1 hz with hz|hz
     ·exact HJ.out z hz
     ·rw [List.mem_singleton.1 hz];exact hd)
    have HNX:Hid (¬smallY L[j]→(false=true↔(L.length≤most∧∀y∈L,smallY y))):=lH (fun hn=>by
     constructor
     ·intro h;cases h
     ·intro h;exact absurd (h.2 _ (List.getElem_mem hlt)) hn)
    have q1:(j:Int)<(L.length:Int):=(by omega)
    have q3:(0:Int)≤(j:Int):=(by omega)
    have hbig:L.length≤1000:=(by omega)
    generalize L[j]=y at*;obtain ⟨r,st,dl⟩:=y;obtain ⟨bs,cs,rfl⟩:=hr2.slice;obtain ⟨bd,cd,rfl⟩:=hr3.slice;dsimp only at hr1 hr2 hr3;have HRR:=lH hr1;have HSM:=lH (gsmall_ r bs bd st.length dl.length cs cd wr);unfold Req.cells at HRR HSM;unfold BoolPost at HSM;clear hrows ho hbl hr1 hr2 hr3;cases hs:decide (smallR r st.length dl.length) with
    | true=>
     rw [hs] at HSM;have HT:=lH (of_decide_eq_true hs);clear hs;go_wp2_with (refine wpList_load_mid (by rfl) 41 _ (by rfl) b (off+j*14) (by rfl) [.int .i64 r.c,.int .i64 r.l,.int .i64 r.q,.int .i64 r.kind,.string (ba r.path),.string (ba r.to),.bool r.dir,.bool r.wr,.bool r.cl,.int .i64 r.h,.int .i64 r.nx,.int .i64 r.sw,.slice bs st.length cs,.slice bd dl.length cd] _ HRR.out Tryz.underlying41 rfl Tryz.size41 ?_);refine HSM.out.mono ?_;rintro e w3 ⟨rfl,f3⟩;have F3:=lH (HF.out.trans f3 (fun _ _ e=>e));clear f3;go_wp2_with fail;go_roundw
     case rel=>exact ⟨j+1,by go_num,hlt,lH (HJX.out (show smallY _ from HT.out)),F3⟩
     case measure=>simp [intOf];omega
    | false=>
     rw [hs] at HSM;have HT:=lH (HNX.out (show ¬smallY _ from of_decide_eq_false hs));clear hs;go_wp2_with (refine wpList_load_mid (by rfl) 41 _ (by rfl) b (off+j*14) (by rfl) [.int .i64 r.c,.int .i64 r.l,.int .i64 r.q,.int .i64 r.kind,.string (ba r.path),.string (ba r.to),.bool r.dir,.bool r.wr,.bool r.cl,.int .i64 r.h,.int .i64 r.nx,.int .i64 r.sw,.slice bs st.length cs,.slice bd dl.length cd] _ HRR.out Tryz.underlying41 rfl Tryz.size41 ?_);refine HSM.out.mono ?_;rintro e w3 ⟨rfl,f3⟩;have F3:=lH (HF.out.trans f3 (fun _ _ e=>e));clear f3;go_wp2_with fail;exact HR2.out false _ _ (by simpa using HT.out) rfl F3.out
   ·have hjl:j=L.length:=by omega
    have q1:¬(j:Int)<(L.length:Int):=(by omega)
    have HB:Hid (true=true↔(L.length≤most∧∀y∈L,smallY y)):=lH (by
     have hJ:=HJ.out;rw [hjl,List.take_length] at hJ;constructor
     ·intro _;exact ⟨by omega,hJ⟩
     ·intro _;rfl)
    clear hjl;go_wp2_with fail;exact HR2.out true _ _ (by simpa using HB.out) rfl HF.out
def lifeS (S:St) (c:Int):Int:=if c=4 then S.boots else lifeOf S.W c
theorem glifeS_ (o:Nat→Nat) (K n:Nat) (L:Plc) (S:St) (c:Int) (w:World) (h:StateAt w o K L S n):
  Calls Tryz.prog 18 #[.pointer (some ⟨L.s,0,none⟩),.int .i64 c] w fun e w'=>e=.returned (.int .i64 (lifeS S c))∧w'=w:=by
 have HMD:=lH (gmade_ o K n L S w h);have HW:=lH (glife_ o (K+1) L.win S.W c w h.win);have c0:w.cell? ⟨L.s,0,none⟩=some (.int .i64 S.boots):=h.cell 0;have c8:w.cell? ⟨L.s,8,none⟩=some (.pointer (some ⟨L.win,0,none⟩)):=h.cell 8;clear h;cases hc:(c==4) with
 | true=>
  have hc4:c=4:=by simpa using hc
  have e:lifeS S c=S.boots:=if_pos hc4;rw [e];clear e hc4;go_enter Tryz.func18,Tryz.ntmps18;go_wp2_with fail;refine HMD.out.mono ?_;rintro e w1 ⟨rfl,rfl⟩;go_wp2_with fail
  go_ret
  exact ⟨rfl,rfl⟩
 | false=>
  have hc4:c≠4:=by simpa using hc
  have e:lifeS S c=lifeOf S.W c:=if_neg hc4;rw [e];clear e hc4;go_enter Tryz.func18,Tryz.ntmps18;go_wp2_with fail;refine HMD.out.mono ?_;rintro e w1 ⟨rfl,rfl⟩;go_wp2_with fail;refine HW.out.mono ?_;rintro e w1 ⟨rfl,rfl⟩;go_wp2_with fail
  go_ret
  exact ⟨rfl,rfl⟩
def wasteS (S:St) (x:Stp):Prop:=0≤x.1∧x.1≤4∧(S.U x).isSome=false∧(x.2.1<lifeS S x.1∨x.2.1=lifeS S x.1∧x.2.2<S.next x.1.toNat)
instance (S:St) (x:Stp):Decidable (wasteS S x):=by unfold wasteS;exact inferInstance
theorem gwaste_ (o:Nat→Nat) (K n:Nat) (L:Plc) (S:St) (x:Stp) (w:World) (h:StateAt w o K L S n) (ok:StOk S) (hf:Fresh w o) (hx:stpGood x):
  Calls Tryz.prog 20 #[.pointer (some ⟨L.s,0,none⟩),stpV x] w (BoolPost w (wasteS S x)):=by
 have mixed:Tryz.prog.follows .mixedOrders=true:=by kernel_rfl
 have f0:Fr No w (w.alloc (.cells #[.int .i64 x.1,.int .i64 x.2.1,.int .i64 x.2.2] 46)):=(Fr.refl w).alloc _;have k0:=new_at w (.cells #[.int .i64 x.1,.int .i64 x.2.1,.int .i64 x.2.2] 46);have F0:=lH f0;have K0:=lH k0;have h0:=h.no ok hf f0;have G0:=(Step.no (C:=fun _=>False) hf f0).fresh;have HMD:=lH (gmade_ o K n L S _ h0);have HLD:=lH (holds_ o K n L S x _ h0 ok G0 hx);have HLF:Hid (∀w',Fr No (w.alloc (.cells #[.int .i64 x.1,.int .i64 x.2.1,.int .i64 x.2.2] 46)) w'→Calls Tryz.prog 18 #[.pointer (some ⟨L.s,0,none⟩),.int .i64 x.1] w' fun e w''=>e=.returned (.int .i64 (lifeS S x.1))∧w''=w'):=lH (fun w' f=>glifeS_ o K n L S x.1 w' (h0.no ok G0 f));have HNX:Hid (∀k:Nat,k<5→(w.alloc (.cells #[.int .i64 x.1,.int .i64 x.2.1,.int .i64 x.2.2] 46)).cell? ⟨L.s,3+k,none⟩=some (.int .i64 (S.next k))):=lH (fun k hk=>next_cell h0 k hk);have HR2:Hid (∀(b:Bool) e w',(b=true↔wasteS S x)→e=.returned (.bool b)→Fr No w w'→BoolPost w (wasteS S x) e w'):=lH BoolPost.mk;generalize BoolPost w (wasteS S x)=Q at*;have HW:Hid (wasteS S x↔(0≤x.1∧x.1≤4∧(S.U x).isSome=false∧(x.2.1<lifeS S x.1∨x.2.1=lifeS S x.1∧x.2.2<S.next x.1.toNat))):=lH Iff.rfl;generalize wasteS S x=P at*;unfold stpV at*;clear h h0 G0 f0 hf hx k0 ok;have p0:(w.alloc (.cells #[.int .i64 x.1,.int .i64 x.2.1,.int .i64 x.2.2] 46)).cell? ⟨w.heap.size,0,none⟩=some (.int .i64 x.1):=by rw [cell_at K0.out];rfl
 have p1:(w.alloc (.cells #[.int .i64 x.1,.int .i64 x.2.1,.int .i64 x.2.2] 46)).cell? ⟨w.heap.size,1,none⟩=some (.int .i64 x.2.1):=by rw [cell_at K0.out];rfl
 have p2:(w.alloc (.cells #[.int .i64 x.1,.int .i64 x.2.1,.int .i64 x.2.2] 46)).cell? ⟨w.heap.size,2,none⟩=some (.int .i64 x.2.2):=by rw [cell_at K0.out];rfl
 by_cases a1:x.1<0
 ·have HB:Hid (false=true↔P):=lH (by rw [HW.out];constructor;(intro h;cases h);(intro h;omega));go_enter Tryz.func20,Tryz.ntmps20;go_wp2_with fail;refine HMD.out.mono ?_;rintro e w1 ⟨rfl,rfl⟩;go_wp2_with fail;exact HR2.out false _ _ (by simpa using HB.out) rfl F0.out
 by_cases a2:4<x.1
 ·have HB:Hid (false=true↔P):=lH (by rw [HW.out];constructor;(intro h;cases h);(intro h;omega));go_enter Tryz.func20,Tryz.ntmps20;go_wp2_with fail;refine HMD.out.mono ?_;rintro e w1 ⟨rfl,rfl⟩;go_wp2_with fail;exact HR2.out false _ _ (by simpa using HB.out) rfl F0.out
 obtain ⟨cn,hcn⟩:∃cn:Nat,x.1=(cn:Int):=⟨x.1.toNat,by omega⟩
 have hcn5:cn<5:=by omega
 have CN:=lH (HNX.out cn hcn5);have HCN:=lH hcn;clear hcn;cases hh:(S.U x).isSome with
 | true=>
  rw [hh] at HLD;have HB:Hid (false=true↔P):=lH (by rw [HW.out];constructor;(intro h;cases h);(intro h;have:=h.2.2.1;rw [hh] at this;cases this));clear hh;go_enter Tryz.func20,Tryz.ntmps20;go_wp2_with fail;refine HMD.out.mono ?_;rintro e w1 ⟨rfl,rfl⟩;go_wp2_with fail;refine HLD.out.mono ?_;rintro e w2 ⟨rfl,f2⟩;have F2:=lH (F0.out.trans f2 (fun _ _ e=>e));clear f2;go_wp2_with fail;exact HR2.out false _ _ (by simpa using HB.out) rfl F2.out
 | false=>
  rw [hh] at HLD;have HBT:Hid (P↔(x.2.1<lifeS S x.1∨x.2.1=lifeS S x.1∧x.2.2<S.next cn)):=lH (by
   have hcn:=HCN.out;rw [HW.out,hh,hcn,Int.toNat_natCast];constructor
   ·intro h;exact h.2.2.2
   ·intro h;exact ⟨by omega,by omega,rfl,h⟩)
  clear hh HW HNX;go_enter Tryz.func20,Tryz.ntmps20;go_wp2_with fail;refine HMD.out.mono ?_;rintro e w1 ⟨rfl,rfl⟩;go_wp2_with fail;refine HLD.out.mono ?_;rintro e w2 ⟨rfl,f2⟩;have HLC:=lH (HLF.out w2 f2);have F2:=lH (F0.out.trans f2 (fun _ _ e=>e));have k2:=f2.block_of K0.out id;have r0:w2.cell? ⟨w.heap.size,0,none⟩=some (.int .i64 x.1):=by rw [cell_at k2];rfl
  have P0:Hid (w2.drew.cell? ⟨w.heap.size,0,none⟩=some (.int .i64 cn)):=lH (by rw [← HCN.out];exact (Fr.refl (S:=No) w2).drew.cell_of r0 id);have P1:Hid (w2.drew.cell? ⟨w.heap.size,1,none⟩=some (.int .i64 x.2.1)):=lH ((Fr.refl (S:=No) w2).drew.cell_of (by rw [cell_at k2];rfl) id);have P2:Hid (w2.drew.cell? ⟨w.heap.size,2,none⟩=some (.int .i64 x.2.2)):=lH ((Fr.refl (S:=No) w2).drew.cell_of (by rw [cell_at k2];rfl) id);have PN:Hid (w2.drew.cell? ⟨L.s,3+cn,none⟩=some (.int .i64 (S.next cn))):=lH ((Fr.refl (S:=No) w2).drew.cell_of (f2.cell_of CN.out id) id);have FD:=lH (F2.out.trans (Fr.refl (S:=No) w2).drew (fun _ _ e=>e));clear k2 f2 p0 p1 p2;go_wp2_with fail;refine HLC.out.mono ?_;rintro e w3 ⟨rfl,rfl⟩;obtain ⟨w2,rfl⟩:∃w2:World,w2=w3:=⟨_,rfl⟩
  have hq1:(0:Int)≤(cn:Int):=by omega
  have hq2:(cn:Int)<5:=by omega
  have hq3:¬(cn:Int)<0:=by omega
  have hq4:¬(5:Int)≤(cn:Int):=by omega
  clear r0 a1 a2 HLF HLC HLD HMD CN;generalize lifeS S x.1=lf at*;go_wp2_with fail;by_cases b1:x.2.1<lf
  ·have HB:Hid (true=true↔P):=lH (by rw [HBT.out];simp [b1]);refine wp_region_text mixed (fun W=>W=w2.drew) [22] (by kernel_rfl) (by kernel_rfl) (by kernel_rfl) (by kernel_rfl) (fun _ _ d _ _ h=>by cases d<;>exact h) rfl ?_;repeat (first
    | refine seqX_skip (by rfl) ?_
    | (refine seqX_val (v:= ?_) (by rfl) (by rfl) ?_ ?_
       rotate_left 1
       (intro W;go_simp;(try with_reducible rfl))
       simp only [Act.put,lsA,lsZ,lsS])
    | (refine seqX_no (by rfl) (by rfl) ?_
       simp only [Act.put,lsA,lsZ,lsS])
    | (refine seqX_valS (v:= ?_) (by rfl) (by kernel_rfl) (by rfl) ?_ ?_
       rotate_left 1
       (intro W hS;have e0:W.cell? ⟨w.heap.size,0,none⟩=some (.int .i64 cn):=(by rw [hS];exact P0.out);have e1:W.cell? ⟨w.heap.size,1,none⟩=some (.int .i64 x.2.1):=(by rw [hS];exact P1.out);have e2:W.cell? ⟨w.heap.size,2,none⟩=some (.int .i64 x.2.2):=(by rw [hS];exact P2.out);have e3:W.cell? ⟨L.s,3+cn,none⟩=some (.int .i64 (S.next cn)):=(by rw [hS];exact PN.out);clear hS;go_simp;(try with_reducible rfl))
       simp only [Act.put,lsA,lsZ,lsS]))
   intro W hS;obtain rfl:W=w2.drew:=hS;simp only [List.reverse_cons,List.reverse_nil,List.nil_append,List.cons_append];go_wp2_with fail;exact HR2.out true _ _ (by simpa using HB.out) rfl FD.out
  ·cases b2:(x.2.1==lf) with
   | false=>
    have HB:Hid (false=true↔P):=lH (by
     have b2':¬x.2.1=lf:=(by simpa using b2)
     rw [HBT.out];simp [b1,b2'])
    refine wp_region_text mixed (fun W=>W=w2.drew) [22] (by kernel_rfl) (by kernel_rfl) (by kernel_rfl) (by kernel_rfl) (fun _ _ d _ _ h=>by cases d<;>exact h) rfl ?_;repeat (first
     | refine seqX_skip (by rfl) ?_
     | (refine seqX_val (v:= ?_) (by rfl) (by rfl) ?_ ?_
        rotate_left 1
        (intro W;go_simp;(try with_reducible rfl))
        simp only [Act.put,lsA,lsZ,lsS])
     | (refine seqX_no (by rfl) (by rfl) ?_
        simp only [Act.put,lsA,lsZ,lsS])
     | (refine seqX_valS (v:= ?_) (by rfl) (by kernel_rfl) (by rfl) ?_ ?_
        rotate_left 1
        (intro W hS;have e0:W.cell? ⟨w.heap.size,0,none⟩=some (.int .i64 cn):=(by rw [hS];exact P0.out);have e1:W.cell? ⟨w.heap.size,1,none⟩=some (.int .i64 x.2.1):=(by rw [hS];exact P1.out);have e2:W.cell? ⟨w.heap.size,2,none⟩=some (.int .i64 x.2.2):=(by rw [hS];exact P2.out);have e3:W.cell? ⟨L.s,3+cn,none⟩=some (.int .i64 (S.next cn)):=(by rw [hS];exact PN.out);clear hS;go_simp;(try with_reducible rfl))
        simp only [Act.put,lsA,lsZ,lsS]))
    intro W hS;obtain rfl:W=w2.drew:=hS;simp only [List.reverse_cons,List.reverse_nil,List.nil_append,List.cons_append];go_wp2_with fail;exact HR2.out false _ _ (by simpa using HB.out) rfl FD.out
   | true=>
    have b2':x.2.1=lf:=(by simpa using b2)
    by_cases b3:x.2.2<S.next cn
    ·have HB:Hid (true=true↔P):=lH (by rw [HBT.out];simp [b2',b3]);clear b2';refine wp_region_text mixed (fun W=>W=w2.drew) [22] (by kernel_rfl) (by kernel_rfl) (by kernel_rfl) (by kernel_rfl) (fun _ _ d _ _ h=>by cases d<;>exact h) rfl ?_;repeat (first
      | refine seqX_skip (by rfl) ?_
      | (refine seqX_val (v:= ?_) (by rfl) (by rfl) ?_ ?_
         rotate_left 1
         (intro W;go_simp;(try with_reducible rfl))
         simp only [Act.put,lsA,lsZ,lsS])
      | (refine seqX_no (by rfl) (by rfl) ?_
         simp only [Act.put,lsA,lsZ,lsS])
      | (refine seqX_valS (v:= ?_) (by rfl) (by kernel_rfl) (by rfl) ?_ ?_
         rotate_left 1
         (intro W hS;have e0:W.cell? ⟨w.heap.size,0,none⟩=some (.int .i64 cn):=(by rw [hS];exact P0.out);have e1:W.cell? ⟨w.heap.size,1,none⟩=some (.int .i64 x.2.1):=(by rw [hS];exact P1.out);have e2:W.cell? ⟨w.heap.size,2,none⟩=some (.int .i64 x.2.2):=(by rw [hS];exact P2.out);have e3:W.cell? ⟨L.s,3+cn,none⟩=some (.int .i64 (S.next cn)):=(by rw [hS];exact PN.out);clear hS;go_simp;(try with_reducible rfl))
         simp only [Act.put,lsA,lsZ,lsS]))
     intro W hS;obtain rfl:W=w2.drew:=hS;simp only [List.reverse_cons,List.reverse_nil,List.nil_append,List.cons_append];go_wp2_with fail;exact HR2.out true _ _ (by simpa using HB.out) rfl FD.out
    ·have HB:Hid (false=true↔P):=lH (by rw [HBT.out];simp [b2',b3]);clear b2';refine wp_region_text mixed (fun W=>W=w2.drew) [22] (by kernel_rfl) (by kernel_rfl) (by kernel_rfl) (by kernel_rfl) (fun _ _ d _ _ h=>by cases d<;>exact h) rfl ?_;repeat (first
      | refine seqX_skip (by rfl) ?_
      | (refine seqX_val (v:= ?_) (by rfl) (by rfl) ?_ ?_
         rotate_left 1
         (intro W;go_simp;(try with_reducible rfl))
         simp only [Act.put,lsA,lsZ,lsS])
      | (refine seqX_no (by rfl) (by rfl) ?_
         simp only [Act.put,lsA,lsZ,lsS])
      | (refine seqX_valS (v:= ?_) (by rfl) (by kernel_rfl) (by rfl) ?_ ?_
         rotate_left 1
         (intro W hS;have e0:W.cell? ⟨w.heap.size,0,none⟩=some (.int .i64 cn):=(by rw [hS];exact P0.out);have e1:W.cell? ⟨w.heap.size,1,none⟩=some (.int .i64 x.2.1):=(by rw [hS];exact P1.out);have e2:W.cell? ⟨w.heap.size,2,none⟩=some (.int .i64 x.2.2):=(by rw [hS];exact P2.out);have e3:W.cell? ⟨L.s,3+cn,none⟩=some (.int .i64 (S.next cn)):=(by rw [hS];exact PN.out);clear hS;go_simp;(try with_reducible rfl))
         simp only [Act.put,lsA,lsZ,lsS]))
     intro W hS;obtain rfl:W=w2.drew:=hS;simp only [List.reverse_cons,List.reverse_nil,List.nil_append,List.cons_append];go_wp2_with fail;exact HR2.out false _ _ (by simpa using HB.out) rfl FD.out
end Go.Proofs.YtlcojhddnpmgmaaGreat
