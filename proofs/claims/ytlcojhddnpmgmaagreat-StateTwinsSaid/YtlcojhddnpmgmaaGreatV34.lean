/- Part of a proof. -/
import Derived.Test.YtlcojhddnpmgmaaGreatV26
import Derived.Test.YtlcojhddnpmgmaaGreatV28
set_option linter.unusedSimpArgs false
set_option linter.unusedVariables false
set_option maxRecDepth 100000
set_option maxHeartbeats 3200000
namespace Go.Proofs.YtlcojhddnpmgmaaGreat
open Go.RowKit Go.Proofs.Tryz
theorem Tryz.rP:(prog.info? 41).map (·.size)=some 14:=by kernel_rfl
def oO (r:aJ) (ns nd:Nat):Prop:=r.path.length≤300∧r.to.length≤300∧ns≤60∧nd≤100
instance (r:aJ) (ns nd:Nat):Decidable (oO r ns nd):=by unfold oO;exact inferInstance
def kY (w:World) (p:Prop) [Decidable p] (e:Ending) (w':World):Prop:=e=.returned (.bool (decide p))∧Fr No w w'
theorem kY.mk {w:World} {p:Prop} [Decidable p] (b:Bool) (e:Ending) (w':World) (hb:b=true↔p) (he:e=.returned (.bool b)) (f:Fr No w w'):kY w p e w':=by
 have:decide p=b:=by
  cases b with
  | true=>exact decide_eq_true (hb.1 rfl)
  | false=>exact decide_eq_false (fun h=>by have:=hb.2 h;cases this)
 unfold kY;rw [this];exact ⟨he,f⟩
theorem Zz (r:aJ) (bs bd:Option Addr) (ns nd cs cd:Nat) (w:World):Calls prog 29 #[.agg (r.cells (.slice bs ns cs) (.slice bd nd cd))] w (kY w (oO r ns nd)):=by
 have HR2:Hid (∀(b:Bool) e w',(b=true↔oO r ns nd)→e=.returned (.bool b)→Fr No w w'→kY w (oO r ns nd) e w'):=lH kY.mk;generalize kY w (oO r ns nd)=Q at*;have hs1:=lL r.path;have hs2:=lL r.to;have HS:Hid (oO r ns nd↔(((ba r.path).size:Int)≤300∧((ba r.to).size:Int)≤300∧(ns:Int)≤60∧(nd:Int)≤100)):=lH (by unfold oO;rw [hs1,hs2];constructor<;>(rintro ⟨h1,h2,h3,h4⟩;refine ⟨?_,?_,?_,?_⟩<;>omega));have F0:=lH ((Fr.refl (S:=No) w).alloc (.cells #[.int .i64 r.c,.int .i64 r.l,.int .i64 r.q,.int .i64 r.kind,.string (ba r.path),.string (ba r.to),.bool r.dir,.bool r.wr,.bool r.cl,.int .i64 r.h,.int .i64 r.nx,.int .i64 r.sw,.slice bs ns cs,.slice bd nd cd] 41));generalize oO r ns nd=P at*;clear hs1 hs2;unfold aJ.cells;by_cases h1:((ba r.path).size:Int)≤300
 ·by_cases h2:((ba r.to).size:Int)≤300
  ·by_cases h3:(ns:Int)≤60
   ·by_cases h4:(nd:Int)≤100
    ·have HB:Hid (true=true↔P):=lH (by rw [HS.o];simp [h1,h2,h3,h4]);go_enter func29,ntmps29
     go_wp2
     exact HR2.o true _ _ (by simpa using HB.o) rfl F0.o
    ·have HB:Hid (false=true↔P):=lH (by rw [HS.o];simp [h4]);go_enter func29,ntmps29
     go_wp2
     exact HR2.o false _ _ (by simpa using HB.o) rfl F0.o
   ·have HB:Hid (false=true↔P):=lH (by rw [HS.o];simp [h3]);go_enter func29,ntmps29
    go_wp2
    exact HR2.o false _ _ (by simpa using HB.o) rfl F0.o
  ·have HB:Hid (false=true↔P):=lH (by rw [HS.o];simp [h2]);go_enter func29,ntmps29
   go_wp2
   exact HR2.o false _ _ (by simpa using HB.o) rfl F0.o
 ·have HB:Hid (false=true↔P):=lH (by rw [HS.o];simp [h1]);go_enter func29,ntmps29
  go_wp2
  exact HR2.o false _ _ (by simpa using HB.o) rfl F0.o
abbrev Rq:=aJ×List Sz×List Dl
def Ug (w:World) (o:Nat→Nat) (b off:Nat) (y:Rq):Prop:=∃rv dv,w.rangeAt b off (y.1.cells rv dv).toList∧eP gJ 4 w o rv y.2.1∧eP dK 14 w o dv y.2.2
def nZ (w:World) (o:Nat→Nat) (v:Value) (L:List Rq):Prop:=
 ∃base cap,v=.slice base L.length cap∧(L≠ []→∃b off,base=some ⟨b,off,none⟩∧o b=0∧b<w.heap.size∧∀(j:Nat) y,L[j]? =some y→Ug w o b (off+j*14) y)
theorem nZ.step {C:Nat→Prop} {w w':World} {o o':Nat→Nat} {v:Value} {L:List Rq} (h:nZ w o v L) (s:Step C w o w' o') (h0:¬C 0):nZ w' o' v L:=by
 obtain ⟨base,cap,e,h1⟩:=h;refine ⟨base,cap,e,fun hL=> ?_⟩;obtain ⟨b,off,e1,e2,e3,e4⟩:=h1 hL;refine ⟨b,off,e1,(s.old b e3).trans e2,Nat.lt_of_lt_of_le e3 s.fr.size,fun j y hj=> ?_⟩;obtain ⟨rv,dv,a1,a2,a3⟩:=e4 j y hj;exact ⟨rv,dv,fun i u hu=>s.fr.cell_of (a1 i u hu) (by rw [e2];exact h0),a2.step s h0,a3.step s h0⟩
theorem nZ.no {w w':World} {o:Nat→Nat} {v:Value} {L:List Rq} (h:nZ w o v L) (hf:aP w o) (f:Fr No w w'):nZ w' o v L:=h.step (Step.no (C:=fun _=>False) hf f) id
theorem nZ.at {w:World} {o:Nat→Nat} {base:Option Addr} {cap:Nat} {L:List Rq} (h:nZ w o (.slice base L.length cap) L) (hL:L≠ []):∃b off,base=some ⟨b,off,none⟩∧o b=0∧b<w.heap.size∧∀(j:Nat) y,L[j]? =some y→Ug w o b (off+j*14) y:=by
 obtain ⟨base',cap',e,h1⟩:=h;cases e;exact h1 hL
theorem nZ.slice {w:World} {o:Nat→Nat} {v:Value} {L:List Rq} (h:nZ w o v L):∃base cap,v=.slice base L.length cap:=by
 obtain ⟨base,cap,e,_⟩:=h;exact ⟨base,cap,e⟩
def kJ (y:Rq):Prop:=oO y.1 y.2.1.length y.2.2.length
instance (y:Rq):Decidable (kJ y):=by unfold kJ;exact inferInstance
theorem Ru (o:Nat→Nat) (v:Value) (L:List Rq) (most:Nat) (w:World) (hf:aP w o) (h:nZ w o v L) (hm:most≤1000):
  Calls prog 19 #[v,.int .i64 most] w (kY w (L.length≤most∧∀y∈L,kJ y)):=by
 obtain ⟨base,cap,rfl⟩:=h.slice;have HR2:Hid (∀(b:Bool) e w',(b=true↔(L.length≤most∧∀y∈L,kJ y))→e=.returned (.bool b)→Fr No w w'→kY w (L.length≤most∧∀y∈L,kJ y) e w'):=lH kY.mk;generalize kY w (L.length≤most∧∀y∈L,kJ y)=Q at*;have HH:=lH h;have HF0:=lH hf;clear h hf;by_cases hlm:(most:Int)<(L.length:Int)
 ·have HB:Hid (false=true↔(L.length≤most∧∀y∈L,kJ y)):=lH (by constructor;(intro h;cases h);(intro h;have:=h.1;omega));go_enter func19,ntmps19;go_wp2_with fail;exact HR2.o false _ _ (by simpa using HB.o) rfl (Fr.refl _)
 ·go_enter func19,ntmps19;go_wp2_with fail;go_loopw [5] (fun a wr=>∃j:Nat,a=.int .i64 j∧j≤L.length∧Hid (∀y∈L.take j,kJ y)∧Hid (Fr No w wr)) (fun a _=>L.length - (intOf a).toNat)
  case atStart=>exact ⟨0,rfl,Nat.zero_le _,lH (by simp),lH (Fr.refl _)⟩
  case round=>
   obtain ⟨j,rfl,hj,HJ,HF⟩:=hrel;by_cases hlt:j<L.length
   ·have hne:L≠ []:=by
     intro e;subst e;simp at hlt
    obtain ⟨b,off,rfl,ho,hbl,hrows⟩:=(HH.o.no HF0.o HF.o).at hne;obtain ⟨rv,dv,hr1,hr2,hr3⟩:=hrows j L[j] (List.getElem?_eq_getElem hlt);have HJX:Hid (kJ L[j]→∀z∈L.take (j+1),kJ z):=lH (fun hd z hz=>by
     rw [List.take_add_one,List.getElem?_eq_getElem hlt,Option.toList_some] at hz;rcases List.mem_append.1 hz with hz|hz
     ·exact HJ.o z hz
     ·rw [List.mem_singleton.1 hz];exact hd)
    have HNX:Hid (¬kJ L[j]→(false=true↔(L.length≤most∧∀y∈L,kJ y))):=lH (fun hn=>by
     constructor
     ·intro h;cases h
     ·intro h;exact absurd (h.2 _ (List.getElem_mem hlt)) hn)
    have q1:(j:Int)<(L.length:Int):=(by omega)
    have q3:(0:Int)≤(j:Int):=(by omega)
    have hbig:L.length≤1000:=(by omega)
    generalize L[j]=y at*;obtain ⟨r,st,dl⟩:=y;obtain ⟨bs,cs,rfl⟩:=hr2.slice;obtain ⟨bd,cd,rfl⟩:=hr3.slice;dsimp only at hr1 hr2 hr3;have HRR:=lH hr1;have HSM:=lH (Zz r bs bd st.length dl.length cs cd wr);unfold aJ.cells at HRR HSM;unfold kY at HSM;clear hrows ho hbl hr1 hr2 hr3;cases hs:decide (oO r st.length dl.length) with
    | true=>
     rw [hs] at HSM;have HT:=lH (of_decide_eq_true hs);clear hs;go_wp2_with (refine wpList_load_mid (by rfl) 41 _ (by rfl) b (off+j*14) (by rfl) [.int .i64 r.c,.int .i64 r.l,.int .i64 r.q,.int .i64 r.kind,.string (ba r.path),.string (ba r.to),.bool r.dir,.bool r.wr,.bool r.cl,.int .i64 r.h,.int .i64 r.nx,.int .i64 r.sw,.slice bs st.length cs,.slice bd dl.length cd] _ HRR.o underlying41 rfl Tryz.rP ?_);refine HSM.o.mono ?_;rintro e w3 ⟨rfl,f3⟩;have F3:=lH (HF.o.trans f3 kp);clear f3;go_wp2_with fail;go_roundw
     case rel=>exact ⟨j+1,by go_num,hlt,lH (HJX.o (show kJ _ from HT.o)),F3⟩
     case measure=>simp [intOf];omega
    | false=>
     rw [hs] at HSM;have HT:=lH (HNX.o (show ¬kJ _ from of_decide_eq_false hs));clear hs;go_wp2_with (refine wpList_load_mid (by rfl) 41 _ (by rfl) b (off+j*14) (by rfl) [.int .i64 r.c,.int .i64 r.l,.int .i64 r.q,.int .i64 r.kind,.string (ba r.path),.string (ba r.to),.bool r.dir,.bool r.wr,.bool r.cl,.int .i64 r.h,.int .i64 r.nx,.int .i64 r.sw,.slice bs st.length cs,.slice bd dl.length cd] _ HRR.o underlying41 rfl Tryz.rP ?_);refine HSM.o.mono ?_;rintro e w3 ⟨rfl,f3⟩;have F3:=lH (HF.o.trans f3 kp);clear f3;go_wp2_with fail;exact HR2.o false _ _ (by simpa using HT.o) rfl F3.o
   ·have hjl:j=L.length:=by omega
    have q1:¬(j:Int)<(L.length:Int):=(by omega)
    have HB:Hid (true=true↔(L.length≤most∧∀y∈L,kJ y)):=lH (by
     have hJ:=HJ.o;rw [hjl,List.take_length] at hJ;constructor
     ·intro _;exact ⟨by omega,hJ⟩
     ·intro _;rfl)
    clear hjl;go_wp2_with fail;exact HR2.o true _ _ (by simpa using HB.o) rfl HF.o
