/- Part of a proof. -/
import Derived.Test.YtlcojhddnpmgmaaGreatV24
import Derived.Test.YtlcojhddnpmgmaaGreatV40
import Derived.ChangeArms
import Derived.Deep.Slices
import Derived.OpenShut
import Derived.ProofKit
set_option linter.unusedSimpArgs false
set_option linter.unusedVariables false
set_option maxRecDepth 100000
namespace Go.Proofs.YtlcojhddnpmgmaaGreat
open Go.RowKit
theorem aK.dH {w:World} {o o':Nat→Nat} {K K' n:Nat} {L:aT} {S:St} (h:aK w o K L S n) (ok:aU S) (hc:∀k d,0<d→d<5000→o k=K+d→o' k=K'+d):aK w o' K' L S n:=by
 obtain ⟨h1,h2,h3,h4,h5,h6,h7⟩:=h;refine ⟨hc _ 8 (by omega) (by omega) h1,h2,?_,?_,?_,?_,?_⟩
 ·obtain ⟨a,p,b,hr0⟩:=h3;refine ⟨hc _ 1 (by omega) (by omega) a,p,b,fun i hi=> ?_⟩;have hr:=hr0 i hi;cases hW:S.W i with
  | none=>
   rw [hW] at hr;exact hr
  | some y=>
   rw [hW] at hr;obtain ⟨life,seq,bs⟩:=y;obtain ⟨r,v,b,cc,e,q1,q2,q3,q4⟩:=hr;exact ⟨r,v,b,cc,e,hc r 2 (by omega) (by omega) q1,q2,q3,hc b 2 (by omega) (by omega) q4⟩
 ·obtain ⟨mb,tp,a1,a2,a3,a4,a5⟩:=h4;refine ⟨mb,tp,hc _ 3 (by omega) (by omega) a1,a2,hc _ 4 (by omega) (by omega) a3,a4,fun k x hk=> ?_⟩;have hk2:=ok.tree.lt hk;obtain ⟨b1,b2⟩:=a5 k x hk;refine ⟨by rw [hc _ (1000+k) (by omega) (by omega) (by omega)];omega,?_⟩;obtain ⟨up,name,dir⟩:=x;cases dir with
  | false=>exact b2
  | true=>
   obtain ⟨ib,c1,c2,c3⟩:=b2;exact ⟨ib,by rw [hc _ (2000+k) (by omega) (by omega) (by omega)];omega,c2,c3⟩
 ·obtain ⟨a1,v,a2,a3⟩:=h5;refine ⟨hc _ 5 (by omega) (by omega) a1,v,a2,?_⟩;rcases a3 with a3|⟨b,cap,e,hm,hb,hr⟩
  ·exact .inl a3
  ·exact .inr ⟨b,cap,e,hm,hc _ 9 (by omega) (by omega) hb,hr⟩
 ·obtain ⟨a1,fp,c,a2,a3,a4⟩:=h6;refine ⟨hc _ 6 (by omega) (by omega) a1,fp,c,a2,a3,fun i m hi=> ?_⟩;have hi2:=ok.file i m hi;obtain ⟨b1,v,b2,b3⟩:=a4 i m hi;refine ⟨by rw [hc _ (3000+i) (by omega) (by omega) (by omega)];omega,v,b2,?_⟩;rcases b3 with b3|⟨b,cap,e,hm,hb,hr⟩
  ·exact .inl b3
  ·exact .inr ⟨b,cap,e,hm,by rw [hc _ (4000+i) (by omega) (by omega) (by omega)];omega,hr⟩
 ·obtain ⟨a1,c,a2,a3⟩:=h7;exact ⟨hc _ 7 (by omega) (by omega) a1,c,a2,a3⟩
def Yr (K:Nat) (w:World) (o:Nat→Nat) (e:Ending) (w':World):Prop:=∃(L:aT) (o':Nat→Nat),e=.returned (.pointer (some ⟨L.s,0,none⟩))∧Step (fun _=>False) w o w' o'∧aK w' o' K L S0 0
theorem Um (K:Nat) (o:Nat→Nat) (w:World) (hf:aP w o):Calls Tryz.prog 14 #[] w (Yr K w o):=
 (Ql w).mono (fun e w' p=>by
   obtain ⟨L,o1,he,s,t⟩:=p;refine ⟨L,fun k=>if o1 k=0 then o k else K+o1 k,he,⟨s.fr,fun k hk=> ?_,fun k hk=> ?_⟩,t.dH uS.ok (fun k d h1 _ h3=> ?_)⟩
   ·rw [if_pos (s.old k hk)]
   ·rw [if_pos (s.fresh k hk)];exact hf k (Nat.le_trans s.fr.size hk)
   ·rw [Nat.zero_add] at h3;rw [if_neg (by omega),h3])
def Dj (K:Nat) (w:World) (o:Nat→Nat) (L:aT) (S:St) (n q:Nat) (r:aJ) (st:List Sz) (dl:List Dl) (e:Ending) (w':World):Prop:=
 ∃(x:aF×St) (o':Nat→Nat) (ev mv:Value),e=.returned (.agg (x.1.cells ev mv))∧(∃a l c,ev=.slice a l c)∧(∃a l c,mv=.slice a l c)∧Rp w' ev mv x.1.es x.1.map∧gQ S r st dl x∧bY x.2 q∧Step (aH K) w o w' o'∧aK w' o' K L x.2 n∧(∀k,w.heap.size≤k→o' k=0∨aH K (o' k))∧Low w.heap.size ev∧Low w.heap.size mv
theorem Df (o:Nat→Nat) (K n q:Nat) (L:aT) (S:St) (r:aJ) (rv dv:Value) (st:List Sz) (dl:List Dl) (w:World) (h:aK w o K L S n) (inv:bY S q) (hf:aP w o) (hr:eP gJ 4 w o rv st) (hd:eP dK 14 w o dv dl) (hs:oO r st.length dl.length) (hg:∀s∈st,iF s.1) (hq:q≤90000) (hn:n≤400000):
  Calls Tryz.prog 15 #[.pointer (some ⟨L.s,0,none⟩),.agg (r.cells rv dv)] w (Dj K w o L S (n+100) (q+2) r st dl):=
 (Jo o K n q L S r rv dv st dl w h inv hf hr hd ⟨hs.1,hs.2.1,hs.2.2.1,hs.2.2.2,hg⟩ hq hn).mono (fun e w' p=>by
   obtain ⟨x,h1,h2,⟨o',s,t⟩,ev,mv,he,_,_,hrp,l1,l2⟩:=p;refine ⟨x,fun k=>if k<w.heap.size∨(K<o' k∧o' k<K+5000) then o' k else 0,ev,mv,he,hrp.shape.1,hrp.shape.2,hrp,h1,h2,⟨s.fr,fun k hk=> ?_,fun k hk=> ?_⟩,t.dH h2.ok (fun k d _ _ e=> ?_),fun k hk=> ?_,l1,l2⟩
   ·rw [if_pos (.inl hk)];exact s.old k hk
   ·split
    ·exact s.fresh k hk
    ·rfl
   ·rw [if_pos (.inr (by omega))];exact e
   ·dsimp only;split
    ·rename_i hc
     rcases hc with hc|hc
     ·omega
     ·exact .inr hc
    ·exact .inl rfl)
theorem Rp.far {S:Nat→Prop} {w w':World} {ev mv:Value} {es:List eF} {mp:List UInt8} (h:Rp w ev mv es mp) (f:Fr S w w') (he:∀a l c,ev=.slice (some a) l c→¬S a.block) (hm:∀a l c,mv=.slice (some a) l c→¬S a.block):Rp w' ev mv es mp:=by
 obtain ⟨h1,h2⟩:=h;refine ⟨?_,?_⟩
 ·rcases h1 with h1|⟨b,off,c,e,a1,a2,a3,⟨cs',fz',a4⟩,a5⟩
  ·exact .inl h1
  ·have hne:¬S b:=he _ _ _ e;exact .inr ⟨b,off,c,e,a1,Nat.lt_of_lt_of_le a3 f.size,Nat.lt_of_lt_of_le a3 f.size,⟨cs',fz',f.aC a4 hne⟩,fun j x hj i u hi=>f.cell_of (a5 j x hj i u hi) hne⟩
 ·rcases h2 with h2|⟨b,off,c,⟨e,a1,a2,a3⟩,a4⟩
  ·exact .inl h2
  ·have hne:¬S b:=hm _ _ _ e;exact .inr ⟨b,off,c,⟨e,a1,Nat.lt_of_lt_of_le a2 f.size,fun j x hj=>f.cell_of (a3 j x hj) hne⟩,Nat.lt_of_lt_of_le a2 f.size⟩
def yM (F:Nat→Option aG) (U:Stp→Option Us):Prop:=∀i m,F i=some m→∀p∈ptrs m,∃u,U (iK p)=some u∧p.a+p.z≤u.1
structure pX (S:St):Prop where
 tree:∀i m,S.F i=some m→∃x,S.T i=some x∧x.dir=false
 held:yM S.F S.U
 live:∀x u,S.U x=some u→u.2.1=jT S.F x∧u.2.1≠0
theorem vO {m:aG} {p:Pt}:p∈ptrs m↔p∈m.l∧p≠bH:=by
 unfold ptrs;rw [List.mem_filter];simp
theorem P9 {m:aG} (h:∀p∈m.l,dI p) {p:Pt} (hp:p∈ptrs m):1≤p.z:=by
 obtain ⟨h1,h2⟩:=vO.1 hp;rcases h p h1 with h3|h3
 ·exact absurd h3 h2
 ·omega
theorem Su {L:List Pt} (h:∀p∈L,0≤p.z) (x:Stp):0≤fZ L x:=by
 induction L with
 | nil=>exact Int.le_refl _
 | cons a r ih=>
  have h1:=ih (fun p hp=>h p (List.mem_cons_of_mem _ hp));have h2:=h a List.mem_cons_self;unfold fZ at h1 ⊢;rw [List.map_cons,List.sum_cons];split<;>omega
theorem U6 {L:List Pt} (h:∀p∈L,1≤p.z) {p:Pt} (hp:p∈L):0<fZ L (iK p):=by
 induction L with
 | nil=>cases hp
 | cons a r ih=>
  have h1:=Su (L:=r) (fun q hq=>by have:=h q (List.mem_cons_of_mem _ hq);omega) (iK p);have h2:=h a List.mem_cons_self;rcases List.mem_cons.1 hp with rfl|hp
  ·unfold fZ at h1 ⊢;rw [List.map_cons,List.sum_cons,if_pos rfl];omega
  ·have h3:=ih (fun q hq=>h q (List.mem_cons_of_mem _ hq)) hp;unfold fZ at h3 ⊢;rw [List.map_cons,List.sum_cons];split<;>omega
theorem aDJ {l:List Nat} {f:Nat→Int} (h:∀i∈l,0≤f i):0≤(l.map f).sum∧∀i∈l,f i≤(l.map f).sum:=by
 induction l with
 | nil=>exact ⟨Int.le_refl _,fun i hi=>by cases hi⟩
 | cons a r ih=>
  obtain ⟨h1,h2⟩:=ih (fun i hi=>h i (List.mem_cons_of_mem _ hi));have h3:=h a List.mem_cons_self;rw [List.map_cons,List.sum_cons];refine ⟨by omega,fun i hi=> ?_⟩;rcases List.mem_cons.1 hi with rfl|hi
  ·omega
  ·have:=h2 i hi;omega
theorem Ya {F:Nat→Option aG} (hp:jP F) (hf:∀i m,F i=some m→1≤i∧i≤128∧fU m) {i:Nat} {m:aG} (hi:F i=some m) {p:Pt} (hm:p∈ptrs m):0<jT F (iK p):=by
 have h1:=U6 (fun q hq=>P9 (hp i m hi) hq) hm;have h2:=(aDJ (l:=List.range 129) (f:=fun i=>match F i with
  | some m=>if (fun _:Int=>false) (i:Int)=true then 0 else fZ (ptrs m) (iK p)
  | none=>0) (fun j _=>by
   dsimp only;cases hj:F j with
   | none=>exact Int.le_refl _
   | some y=>
    dsimp only;rw [if_neg (by simp)];exact Su (fun q hq=>by have:=P9 (hp j y hj) hq;omega) _)).2 i (List.mem_range.2 (by have:=hf i m hi;omega))
 dsimp only at h2;rw [hi] at h2;dsimp only at h2;rw [if_neg (by simp)] at h2;unfold jT jC;exact Int.lt_of_lt_of_le h1 h2
theorem aB5 {F G:Nat→Option aG} (h:∀i,(match F i with|some m=>ptrs m|none=> [])=(match G i with|some m=>ptrs m|none=> [])) (x:Stp):jT F x=jT G x:=by
 unfold jT jC;refine congrArg List.sum (List.map_congr_left (fun i _=> ?_));have hi:=h i;cases hF:F i with
 | none=>
  rw [hF] at hi;cases hG:G i with
  | none=>rfl
  | some y=>rw [hG] at hi;dsimp only at hi ⊢;rw [← hi];rfl
 | some z=>
  rw [hF] at hi;cases hG:G i with
  | none=>rw [hG] at hi;dsimp only at hi ⊢;rw [hi];rfl
  | some y=>rw [hG] at hi;dsimp only at hi ⊢;rw [hi]
theorem Gq {F:Nat→Option aG} {U:Stp→Option Us} (hp:jP F) (hf:∀i m,F i=some m→1≤i∧i≤128∧fU m) (h:yM F U):yM F (iD F U)∧∀x u,iD F U x=some u→u.2.1=jT F x∧u.2.1≠0:=by
 constructor
 ·intro i m hi p hm;obtain ⟨u,hu,hl⟩:=h i m hi p hm;have:=Ya hp hf hi hm;unfold iD;rw [hu];dsimp only;rw [if_neg (by omega)];exact ⟨_,rfl,hl⟩
 ·intro x u hu;unfold iD at hu;split at hu
  ·cases hu
  ·split at hu
   ·cases hu
   ·rename_i h0
    cases hu;exact ⟨rfl,h0⟩
theorem Qk (c:Int):∀(st:List Sz) (U:Stp→Option Us) (y:Stp),(∀s∈st,s.1≠y)→jA c st U y=U y
 | [],_,_,_=>rfl
 | s::r,U,y,h=>by
  have h1:=Qk c r (fun z=>if z=s.1 then some (s.2,0,c) else U z) y (fun t ht=>h t (List.mem_cons_of_mem _ ht));refine h1.trans ?_;rw [if_neg (fun e=>h s List.mem_cons_self e.symm)]
theorem Ud (S:St) (nx c l ck:Int):∀(st:List Sz) (m m':Stp→Option Int) (U:Stp→Option Us),(∀y z,m y=some z→∃b,U y=some (z,b))→kR S nx c l st m=some m'→∀y z,m' y=some z→∃b,jA ck st U y=some (z,b)
 | [],m,m',U,h,e,y,z,hy=>by cases e;exact h y z hy
 | x::r,m,m',U,h,e,y,z,hy=>by
  unfold kR at e;split at e
  ·refine Ud S nx c l ck r _ m' (fun z=>if z=x.1 then some (x.2,0,ck) else U z) (fun y z hz=> ?_) e y z hy;split at hz
   ·cases hz;rw [if_pos (by assumption)];exact ⟨_,rfl⟩
   ·rw [if_neg (by assumption)];exact h y z hz
  ·cases e
theorem Ko (S:St) (nx c l:Int):∀(st:List Sz) (m m':Stp→Option Int),kR S nx c l st m=some m'→∀s∈st,(S.U s.1).isSome=false
 | [],_,_,_,s,hs=>by cases hs
 | x::r,m,m',h,s,hs=>by
  unfold kR at h;split at h
  ·rename_i hx
   rcases List.mem_cons.1 hs with rfl|hs
   ·exact hx.2.1
   ·exact Ko S nx c l r _ m' h s hs
  ·cases h
theorem aCM {S:St} {sw nx:Int} {st:List Sz} {c l:Int} (h:(eX S sw nx st c l).1=0) (ck:Int):(∀s∈st,(S.U s.1).isSome=false)∧∀y z,(eX S sw nx st c l).2 y=some z→∃b,jA ck st S.U y=some (z,b):=by
 unfold eX at h ⊢;split at h
 ·cases h
 ·rename_i h1
  split at h
  ·cases h
  ·rename_i h2
   rw [if_neg h1,if_neg h2];split at h
   ·cases h
   ·rename_i m hm
    exact ⟨Ko S nx c l st _ m hm,Ud S nx c l ck st kZ m S.U (fun y z hz=>by cases hz) hm⟩
theorem Jq {L:List Pt} {n:Nat} {p:Pt} (h:p∈kT L n):p∈L∨p=bH:=by
 unfold kT at h;split at h
 ·exact .inl (List.mem_of_mem_take h)
 ·rcases List.mem_append.1 h with h|h
  ·exact .inl h
  ·exact .inr (List.mem_replicate.1 h).2
theorem Ny {m:aG} {d:Dl} {p:Pt} (h:p∈ptrs (dR m d)):p∈ptrs m∨p=d.t:=by
 unfold dR at h;split at h
 ·obtain ⟨h1,h2⟩:=vO.1 h;unfold iC at h1;split at h1
  ·rcases List.mem_or_eq_of_mem_set h1 with h3|h3
   ·rcases Jq h3 with h4|h4
    ·exact .inl (vO.2 ⟨h4,h2⟩)
    ·exact absurd h4 h2
   ·exact .inr h3
  ·split at h1
   ·rcases Jq h1 with h4|h4
    ·exact .inl (vO.2 ⟨h4,h2⟩)
    ·exact absurd h4 h2
   ·rcases List.mem_or_eq_of_mem_set h1 with h3|h3
    ·exact .inl (vO.2 ⟨h3,h2⟩)
    ·exact .inr h3
 ·exact .inl h
theorem Oo:∀(dl:List Dl) (m:aG) (p:Pt),p∈ptrs (dl.foldl dR m)→p∈ptrs m∨∃d∈dl,p=d.t
 | [],_,_,h=> .inl h
 | d::r,m,p,h=>by
  rcases Oo r (dR m d) p h with h1|⟨e,he,h1⟩
  ·rcases Ny h1 with h2|h2
   ·exact .inl h2
   ·exact .inr ⟨d,List.mem_cons_self,h2⟩
  ·exact .inr ⟨e,List.mem_cons_of_mem _ he,h1⟩
theorem Es:∀(dl:List Dl) (F:Nat→Option aG) (i:Nat) (m:aG),(dl.foldl gI F) i=some m→∃m0,F i=some m0∧∀p∈ptrs m,p∈ptrs m0∨∃d∈dl,p=d.t
 | [],_,_,m,h=>⟨m,h,fun _ hp=> .inl hp⟩
 | d::r,F,i,m,h=>by
  obtain ⟨m1,h1,h2⟩:=Es r (gI F d) i m h;have key:∃m0,F i=some m0∧∀p∈ptrs m1,p∈ptrs m0∨p=d.t:=by
   unfold gI at h1;cases hy:F d.i.toNat with
   | some y=>
    rw [hy] at h1;dsimp only at h1;rcases wO h1 with ⟨e,e2⟩|h1
    ·rw [e];exact ⟨y,hy,fun p hp=>by rw [e2] at hp;exact Ny hp⟩
    ·exact ⟨m1,h1,fun _ hp=> .inl hp⟩
   | none=>
    rw [hy] at h1;exact ⟨m1,h1,fun _ hp=> .inl hp⟩
  obtain ⟨m0,h3,h4⟩:=key;refine ⟨m0,h3,fun p hp=> ?_⟩;rcases h2 p hp with h5|⟨e,he,h5⟩
  ·rcases h4 p h5 with h6|h6
   ·exact .inl h6
   ·exact .inr ⟨d,List.mem_cons_self,h6⟩
  ·exact .inr ⟨e,List.mem_cons_of_mem _ he,h5⟩
theorem Un {S:St} {sw nx:Int} {st:List Sz} {c l:Int} (hs:(eX S sw nx st c l).1=0) (h:yM S.F S.U) (ck:Int) {F':Nat→Option aG}
  (hF:∀i m,F' i=some m→∀p∈ptrs m,(∃j m0,S.F j=some m0∧p∈ptrs m0)∨sQ (eX S sw nx st c l).2 p=true):yM F' (jA ck st S.U):=by
 obtain ⟨h1,h2⟩:=aCM hs ck;intro i m hi p hp;rcases hF i m hi p hp with ⟨j,m0,hj,hm⟩|hin
 ·obtain ⟨u,hu,hl⟩:=h j m0 hj p hm;refine ⟨u,?_,hl⟩;rw [Qk ck st S.U _ (fun s hs e=> ?_)]
  ·exact hu
  ·have:=h1 s hs;rw [e,hu] at this;cases this
 ·unfold sQ at hin;split at hin
  ·cases hin
  ·rename_i e he
   obtain ⟨b,hb⟩:=h2 _ _ he;have hin:=of_decide_eq_true hin;obtain ⟨i1,i2,i3,i4⟩:=hin;exact ⟨_,hb,by dsimp only;omega⟩
theorem aBq {B D:St} {q:Nat} {r:aJ} {st:List Sz} {dl:List Dl} (inv:bY B q) (ip:jP D.F) (ik:∀i m,D.F i=some m→1≤i∧i≤128∧fU m) (h:pX B) (d:Deeds r st dl B D):pX D:=by
 cases d with
 | same=>exact h
 | move hk h0=>
  refine ⟨fun i m hi=> ?_,h.held,h.live⟩;obtain ⟨x,hx,hd⟩:=h.tree i m hi;dsimp only;unfold lQ;rw [if_pos h0];unfold moved;by_cases e:i=(lookOf B.T r.path).2.1
  ·subst e;refine ⟨_,upd_same _ _ _,?_⟩;have hl:(lookOf B.T r.path).1=0:=by
    unfold iL at h0;split at h0
    ·rename_i a
     exact absurd h0 a
    ·rename_i a
     exact Classical.byContradiction a
   obtain ⟨y,hy,hyd⟩:=look_ok inv.ok.tree hl;rw [hx] at hy;cases hy;dsimp only;rw [← hyd];exact hd
  ·rw [bF _ _ e];exact ⟨x,hx,hd⟩
 | opens=>exact ⟨h.tree,h.held,h.live⟩
 | make hk h0=>
  have ha:=yF inv.ok.tree h0;have hf:=L6 h0;have hnone:B.F (free B.T)=none:=by
   cases hF:B.F (free B.T) with
   | none=>rfl
   | some m=>
    obtain ⟨x,hx,_⟩:=h.tree _ m hF;rw [ha.new] at hx;cases hx
  have hT:(kL B r).T=upd B.T (free B.T) (some ⟨(placeOf B.T r.path).2.1,(placeOf B.T r.path).2.2,r.dir⟩):=by
   unfold kL kK grown;dsimp only;rw [if_pos h0]
  have hU:(kL B r).U=B.U:=rfl;have hFF:(kL B r).F=if r.dir=true then B.F else bC B.F (free B.T) (some gZ):=by
   unfold kL;dsimp only;rw [hf]
  refine ⟨fun i m hi=> ?_,fun i m hi p hp=> ?_,fun x u hu=> ?_⟩
  ·rw [hT];rw [hFF] at hi;by_cases e:i=free B.T
   ·subst e;refine ⟨_,upd_same _ _ _,?_⟩;dsimp only;cases hd:r.dir with
    | false=>rfl
    | true=>
     rw [hd,if_pos rfl,hnone] at hi;cases hi
   ·rw [bF _ _ e];split at hi
    ·exact h.tree i m hi
    ·rw [tJ _ _ e] at hi;exact h.tree i m hi
  ·rw [hU];rw [hFF] at hi;split at hi
   ·exact h.held i m hi p hp
   ·rcases wO hi with ⟨_,rfl⟩|hi
    ·cases hp
    ·exact h.held i m hi p hp
  ·rw [hU] at hu;have hl:jT (kL B r).F x=jT B.F x:=aB5 (fun i=>by
    rw [hFF];cases r.dir with
    | true=>rfl
    | false=>
     rw [if_neg (by simp)];by_cases e:i=free B.T
     ·subst e;rw [vW,hnone];rfl
     ·rw [tJ _ _ e]) x
   rw [hl];exact h.live x u hu
 | remove hk h0 h1 h2=>
  have hi:(dO B.T r.path r.dir).2=(lookOf B.T r.path).2.1∧(r.dir=true→(lookOf B.T r.path).2.2=true):=by
   unfold dO at h2 ⊢;rw [if_neg (by simp [h0])] at h2 ⊢;split at h2
   ·cases h2
   ·rename_i a1
    rw [if_neg a1];split at h2
    ·cases h2
    ·rename_i a2
     rw [if_neg a2];split at h2
     ·cases h2
     ·rename_i a3
      rw [if_neg a3];split at h2
      ·cases h2
      ·rename_i a4
       rw [if_neg a4];refine ⟨rfl,fun hd=> ?_⟩;cases hl:(lookOf B.T r.path).2.2 with
       | true=>rfl
       | false=>exact absurd ⟨hd,hl⟩ a2
  obtain ⟨hi,_⟩:=hi;obtain ⟨y,hy,hyd⟩:=look_ok inv.ok.tree h0;cases hl:(lookOf B.T r.path).2.2 with
  | true=>
   have e:kM B r={B with T:=bW B.T (lookOf B.T r.path).2.1}:=by
    unfold kM jJ;rw [if_pos hl,if_pos h2,hi]
   rw [e];refine ⟨fun i m hm=> ?_,h.held,h.live⟩;obtain ⟨x,hx,hd⟩:=h.tree i m hm;dsimp only;unfold bW;rw [bF _ _ (fun e=> ?_)]
   ·exact ⟨x,hx,hd⟩
   ·rw [e,hy] at hx;cases hx;rw [hyd,hl] at hd;cases hd
  | false=>
   have e:kM B r={B with T:=bW B.T (lookOf B.T r.path).2.1,F:=bC B.F (lookOf B.T r.path).2.1 none,U:=iD (bC B.F (lookOf B.T r.path).2.1 none) B.U}:=by
    unfold kM jJ;rw [if_neg (by simp [hl]),if_pos h2,hi]
   rw [e] at ip ik ⊢;dsimp only at ip ik;obtain ⟨c1,c2⟩:=Gq (U:=B.U) ip ik (fun i m hm=>h.held i m (yS hm));refine ⟨fun i m hm=> ?_,c1,c2⟩;dsimp only at hm ⊢;obtain ⟨x,hx,hd⟩:=h.tree i m (yS hm);unfold bW;rw [bF _ _ (fun e=> ?_)]
   ·exact ⟨x,hx,hd⟩
   ·rw [e,vW] at hm;cases hm
 | commit x hk hx h1 h2 h3=>
  obtain ⟨i,m,h4,h5,h6⟩:=inv.tok x (List.mem_of_find?_eq_some hx);have hxi:x.i.toNat=i:=by omega
  have hF:(nJ B st dl r.c.toNat r.nx x.i.toNat).F=bC B.F i (some (dl.foldl dR m)):=by
   unfold nJ;dsimp only;rw [hxi,h6,Option.getD_some]
  have hU:(nJ B st dl r.c.toNat r.nx x.i.toNat).U=iD (bC B.F i (some (dl.foldl dR m))) (jA B.clock st B.U):=by
   unfold nJ;dsimp only;rw [hxi,h6,Option.getD_some];rfl
  have hT:(nJ B st dl r.c.toNat r.nx x.i.toNat).T=B.T:=rfl;dsimp only at ip ik;rw [hF] at ip ik;have hh:=Un h2 h.held B.clock (F':=bC B.F i (some (dl.foldl dR m))) (fun j y hj p hp=>by
   rcases wO hj with ⟨_,rfl⟩|hj
   ·rcases Oo dl m p hp with h7|⟨d,hd,rfl⟩
    ·exact .inl ⟨i,m,h6,h7⟩
    ·rcases (h3 d hd).2.2.2 with h8|h8
     ·exact absurd h8 (vO.1 hp).2
     ·exact .inr h8
   ·exact .inl ⟨j,y,hj,hp⟩)
  obtain ⟨c1,c2⟩:=Gq ip ik hh;refine ⟨fun j y hj=> ?_,?_,?_⟩
  ·dsimp only at hj ⊢;rw [hF] at hj;rw [hT];rcases wO hj with ⟨rfl,_⟩|hj
   ·exact h.tree j m h6
   ·exact h.tree j y hj
  ·dsimp only;rw [hF,hU];exact c1
  ·dsimp only;rw [hF,hU];exact c2
theorem aBj {S:St} (h:pX S) (c:Nat) (kd:Int):pX (eG S c kd):=by
 unfold eG;split<;>exact ⟨h.tree,h.held,h.live⟩
theorem U8 {S:St} {q:Nat} {r:aJ} {st:List Sz} {dl:List Dl} {x:aF×St} (inv:bY S q) (inv':bY x.2 (q+2)) (h:pX S) (hd:gQ S r st dl x):pX x.2:=by
 have t:=vZ hd;generalize x.2=S' at*;cases t with
 | same=>exact h
 | boot=>exact ⟨h.tree,h.held,h.live⟩
 | swap=>exact ⟨h.tree,h.held,h.live⟩
 | moved hc h2 h3=>
  have ip:=inv'.pts;have ik:=inv'.ok.file;have hF:(rH S st dl r.nx).F=dl.foldl gI S.F:=rfl;have hU:(rH S st dl r.nx).U=iD (dl.foldl gI S.F) (jA (S.clock+1) st S.U):=rfl;rw [hF] at ip ik;have hh:=Un h2 h.held (S.clock+1) (F':=dl.foldl gI S.F) (fun j y hj p hp=>by
   obtain ⟨m0,h4,h5⟩:=Es dl S.F j y hj;rcases h5 p hp with h6|⟨d,hd,rfl⟩
   ·exact .inl ⟨j,m0,h4,h6⟩
   ·exact .inr (h3 d hd).2.2)
  obtain ⟨c1,c2⟩:=Gq ip ik hh;refine ⟨fun j y hj=> ?_,?_,?_⟩
  ·rw [hF] at hj;obtain ⟨m0,h4,_⟩:=Es dl S.F j y hj;exact h.tree j m0 h4
  ·rw [hF,hU];exact c1
  ·rw [hF,hU];exact c2
 | asked kd bs D hm hk ha hdd=>
  have h1:=aBq (D:=D) (inv.eG r.c.toNat kd) inv'.pts inv'.ok.file (aBj h _ _) hdd;exact ⟨h1.tree,h1.held,h1.live⟩
def vI (F:Nat→Option aG) (k:Nat):List Pt:=match F k with
 | some m=>ptrs m
 | none=> []
theorem aAR {F:Nat→Option aG} (h:Short F) (hl:∀i m,F i=some m→fU m) (i:Nat):(vI F i).length≤64∧∀p∈vI F i,0≤p.z∧p.z≤64:=by
 unfold vI;cases hF:F i with
 | none=>exact ⟨Nat.zero_le _,fun p hp=>by cases hp⟩
 | some m=>exact ⟨Gs (hl i m hF),Ob h hF⟩
theorem Jl:∀(l1 l2:List Stp),l1.Nodup→(∀x∈l1,x∈l2)→l1.length≤l2.length
 | [],_,_,_=>Nat.zero_le _
 | a::r,l2,hn,h=>by
  obtain ⟨h1,h2⟩:=List.nodup_cons.1 hn;have h3:=h a List.mem_cons_self;have h4:=Jl r (l2.erase a) h2 (fun x hx=>(List.mem_erase_of_ne (fun e=>h1 (by rw [← e];exact hx))).2 (h x (List.mem_cons_of_mem _ hx)));rw [List.length_erase_of_mem h3] at h4;have:=List.length_pos_of_mem h3;rw [List.length_cons];omega
theorem Q7:∀l:List Nat,(l.map fun _=>(0:Int)).sum=0
 | []=>rfl
 | _::r=>by rw [List.map_cons,List.sum_cons,Q7 r];rfl
theorem Rz {F:Nat→Option aG} {x:Stp} (h:jT F x≠0):∃i,i<129∧∃m,F i=some m∧∃p∈ptrs m,iK p=x:=by
 refine Classical.byContradiction (fun hno=>h ?_);have key:∀i,i∈List.range 129→(match F i with
  | some m=>if (fun _:Int=>false) (i:Int)=true then 0 else fZ (ptrs m) x
  | none=>0)=(0:Int):=fun i hi=>by
  cases hF:F i with
  | none=>rfl
  | some m=>
   dsimp only;rw [if_neg (by simp)];have hz:∀L:List Pt,(∀p∈L,iK p≠x)→fZ L x=0:=fun L=>by
    induction L with
    | nil=>exact fun _=>rfl
    | cons a r ih=>
     intro hL;have h1:=ih (fun p hp=>hL p (List.mem_cons_of_mem _ hp));unfold fZ at h1 ⊢;rw [List.map_cons,List.sum_cons,if_neg (hL a List.mem_cons_self),h1];rfl
   exact hz _ (fun p hp e=>hno ⟨i,List.mem_range.1 hi,m,hF,p,hp,e⟩)
 have e:=congrArg List.sum (List.map_congr_left (g:=fun _=>(0:Int)) key);unfold jT jC;exact e.trans (Q7 _)
theorem X9:pX S0:=⟨fun i m h=>(by cases h),fun i m h=>(by cases h),fun x u h=>(by cases h)⟩
def Writes (k:Nat) (f:aN→aN):Prop:=∀s:aN,s.2=0→s.1.length+k≤65536→(f s).2=0∧(f s).1.length≤s.1.length+k
theorem Writes.comp {j k:Nat} {f g:aN→aN} (h:Writes j f) (h':Writes k g):Writes (j+k) (fun s=>g (f s)):=fun s h0 hl=>by
 obtain ⟨a,b⟩:=h s h0 (by omega);obtain ⟨c,d⟩:=h' (f s) a (by omega);refine ⟨c,?_⟩;show (g (f s)).1.length≤_;omega
theorem Writes.le {j k:Nat} {f:aN→aN} (h:Writes j f) (hk:j≤k):Writes k f:=fun s h0 hl=>by
 obtain ⟨a,b⟩:=h s h0 (by omega);exact ⟨a,by omega⟩
theorem A7 (ys:List UInt8) {k:Nat} (hk:ys.length≤k):Writes k (fun s=>dE s ys):=fun s h0 hl=>by
 dsimp only;unfold dE;rw [if_neg (by simp [h0]),if_neg (by omega)];exact ⟨rfl,by rw [List.length_append];omega⟩
theorem gY (x:Int) (wd:Nat) (h:0≤x∧x<2 ^ (8*wd)):Writes wd (fun s=>aI s x wd):=fun s h0 hl=>by
 dsimp only;unfold aI;rw [if_pos h];exact A7 (k:=wd) _ (by rw [bT];exact Nat.le_refl _) s h0 hl
theorem Oc (ys:List UInt8) (k:Nat) (hy:ys.length+2≤k) (hk:k≤65536):Writes k (fun s=>fK s ys):=fun s h0 hl=>by
 dsimp only;unfold fK;rw [if_neg (by omega)];exact A7 (k:=k) _ (by rw [List.length_append,bT];omega) s h0 hl
theorem Gm {α:Type} (f:aN→α→aN) (wt:α→Nat):∀L:List α,(∀x∈L,Writes (wt x) (fun s=>f s x))→Writes (L.map wt).sum (fun s=>L.foldl f s)
 | [],_=>fun s h0 _=>⟨h0,by simp⟩
 | x::r,h=>by
  have h1:=h x (List.mem_cons_self ..);have h2:=Gm f wt r (fun y hy=>h y (List.mem_cons_of_mem _ hy));have h3:=h1.comp h2;rw [List.map_cons,List.sum_cons];exact h3
theorem Rn {α:Type} (k:Nat):∀L:List α,(L.map fun _=>k).sum=k*L.length
 | []=>by simp
 | x::r=>by rw [List.map_cons,List.sum_cons,Rn k r,List.length_cons,Nat.mul_succ];omega
theorem xK {α:Type} (f:aN→α→aN) (k:Nat) (L:List α) (h:∀x∈L,Writes k (fun s=>f s x)):Writes (k*L.length) (fun s=>L.foldl f s):=by
 rw [← Rn k L];exact Gm f (fun _=>k) L h
theorem aA5 (y:Int×Int×Int×List UInt8) (h1:0≤y.1∧y.1<256) (h2:0≤y.2.1∧y.2.1<16777216) (h3:0≤y.2.2.1∧y.2.2.1<4294967296) (h4:y.2.2.2.length≤3300):Writes 3310 (fun s=>oJ s y):=
 (((gY y.1 1 h1).comp (gY y.2.1 3 h2)).comp (gY y.2.2.1 4 h3)).comp (Oc y.2.2.2 3302 (by omega) (by omega))
theorem Y7 (x:Pt) (h:dI x):Writes 11 (fun s=>mY s x):=by
 have hh:(0≤x.c∧x.c<256)∧(0≤x.l∧x.l<16777216)∧(0≤x.n∧x.n<4294967296)∧(0≤x.a∧x.a<65536)∧(0≤x.z∧x.z<256):=by
  rcases h with rfl|h
  ·exact ⟨by decide,by decide,by decide,by decide,by decide⟩
  ·omega
 obtain ⟨a,b,c,d,e⟩:=hh;exact ((((gY x.c 1 a).comp (gY x.l 3 b)).comp (gY x.n 4 c)).comp (gY x.a 2 d)).comp (gY x.z 1 e)
theorem aBQ (m:aG) (hs:m.size≤4096) (h:∀p∈m.l,dI p):Writes (2+11*m.l.length) (fun s=>mM s m):=by
 have e16:(2:Int) ^ (8*2)=65536:=by decide
 have h1:(0:Int)≤(m.size:Int)∧(m.size:Int)<2 ^ (8*2):=⟨by omega,by rw [e16];omega⟩
 have h2:=gY (m.size:Int) 2 h1;have h3:=xK mY 11 m.l (fun x hx=>Y7 x (h x hx));have h4:=h2.comp h3;intro s h0 hl;exact h4 s h0 hl
theorem aAx (T:Tree) (ht:dD T) (k:Nat):Writes 19 (fun s=>nI T s k):=by
 intro s h0 hl;dsimp only;unfold nI;split
 ·exact ⟨h0,by omega⟩
 ·rename_i hk1
  cases hk:T k with
  | none=>exact ⟨h0,Nat.le_add_right _ _⟩
  | some x=>
   have hlt:=ht.lt hk;have hn:=ht.name k x hk hk1;have hn12:x.name.length≤12:=by
    unfold dZ at hn;simp only [Bool.and_eq_true,decide_eq_true_eq] at hn;exact hn.1.1.1.1.2
   have hup:x.up≤128:=by
    obtain ⟨y,hy,_⟩:=ht.up k x hk hk1;exact (ht.lt hy).2
   have hb:(ba x.name).data.toList.length≤12:=(by rw [jW];exact hn12)
   exact ((((gY k 2 (by omega)).comp (gY x.up 2 (by omega))).comp (Oc _ 14 (by omega) (by omega))).comp (A7 (k:=1) [if x.dir then 1 else 0] (by simp))) s h0 hl
theorem Xq (x:Tok) (hs:small x) (hi:0≤x.i∧x.i<65536):Writes 5 (fun s=>qI s x):=
 (((gY x.c 1 (by unfold small at hs;omega)).comp (gY x.h 1 (by unfold small at hs;omega))).comp (gY x.i 2 hi)).comp (A7 (k:=1) [if x.wr then 1 else 0] (by simp))
theorem Xm (U:Stp→Option Us) (x:Stp) (u:Us) (hu:U x=some u) (h1:0≤x.1∧x.1<256) (h2:0≤x.2.1∧x.2.1<16777216) (h3:0≤x.2.2∧x.2.2<4294967296) (h4:0≤u.1∧u.1<65536) (h5:0≤u.2.2∧u.2.2<281474976710656):Writes 16 (fun s=>pF U s x):=by
 have e:(U x).getD (0,0,0)=u:=by rw [hu];rfl
 unfold pF;rw [e];exact ((((gY x.1 1 h1).comp (gY x.2.1 3 h2)).comp (gY x.2.2 4 h3)).comp (gY u.1 2 h4)).comp (gY u.2.2 6 h5)
def Wrote (k:Nat) (s:aN):Prop:=s.2=0∧s.1.length≤k
theorem Wrote.then {k j:Nat} {f:aN→aN} {s:aN} (h:Wrote k s) (g:Writes j f) (hk:k+j≤65536):Wrote (k+j) (f s):=by
 obtain ⟨a,b⟩:=h;obtain ⟨c,d⟩:=g s a (by omega);exact ⟨c,by omega⟩
theorem Wrote.le {k j:Nat} {s:aN} (h:Wrote k s) (hk:k≤j):Wrote j s:=⟨h.1,Nat.le_trans h.2 hk⟩
def rW (k:Nat) (f:aN→aN):Prop:=∀s:aN,(f s).1.length≤s.1.length+k
theorem rW.comp {j k:Nat} {f g:aN→aN} (h:rW j f) (h':rW k g):rW (j+k) (fun s=>g (f s)):=fun s=>by
 have a:=h s;have b:=h' (f s);show (g (f s)).1.length≤_;omega
theorem Cm (ys:List UInt8) {k:Nat} (hk:ys.length≤k):rW k (fun s=>dE s ys):=fun s=>by
 dsimp only;unfold dE;split
 ·omega
 ·split
  ·dsimp only;omega
  ·dsimp only;rw [List.length_append];omega
theorem uY (x:Int) (wd:Nat):rW wd (fun s=>aI s x wd):=fun s=>by
 dsimp only;unfold aI;split
 ·exact Cm (k:=wd) _ (by rw [bT];exact Nat.le_refl _) s
 ·unfold iG;split<;>first|(dsimp only;omega)|omega
theorem Qp (ys:List UInt8) (k:Nat) (hy:ys.length+2≤k):rW k (fun s=>fK s ys):=fun s=>by
 dsimp only;unfold fK;split
 ·unfold iG;split<;>first|(dsimp only;omega)|omega
 ·exact Cm (k:=k) _ (by rw [List.length_append,bT];omega) s
theorem Nv {α:Type} (f:aN→α→aN) (k:Nat):∀L:List α,(∀x∈L,rW k (fun s=>f s x))→rW (k*L.length) (fun s=>L.foldl f s)
 | [],_=>fun s=>by simp
 | x::r,h=>by
  have h1:=h x (List.mem_cons_self ..);have h2:=Nv f k r (fun y hy=>h y (List.mem_cons_of_mem _ hy));have h3:=h1.comp h2;rw [List.length_cons,Nat.mul_succ,Nat.add_comm];exact h3
def pO (r:aF):Prop:=r.es.length≤129∧(∀x∈r.es,x.1.data.toList.length≤12)∧r.map.length≤1000
theorem pO.len {r:aF} (h:pO r):r.bytes.length≤3300:=by
 obtain ⟨h1,h2,h3⟩:=h;have a:=((((((uY r.e 1).comp (uY r.ino 2)).comp (uY r.size 2)).comp (uY r.handle 1)).comp (uY r.swaps 3)).comp (Cm (k:=1) [if r.dir then 1 else 0] (by simp))).comp (uY r.es.length 2);have b:=Nv mX 17 r.es (fun x hx=>((Qp x.1.data.toList 14 (by have:=h2 x hx;omega)).comp (uY x.2.1 2)).comp (Cm (k:=1) [if x.2.2 then 1 else 0] (by simp)));have c:=Qp r.map 1002 (by omega);have d:(qC ([],0) r).1.length≤_:=((a.comp b).comp c) ([],0)
 have e:([]:List UInt8).length=0:=rfl;unfold aF.bytes;dsimp only at d;rw [e] at d;omega
theorem xQ {r:aF} (h:pO r) (s:Int):pO (dW r s):=h
theorem oD {r:aF} (h1:r.es= []) (h2:r.map= []):pO r:=⟨by rw [h1];decide,fun x hx=>by (rw [h1] at hx;cases hx),by rw [h2];decide⟩
theorem L9 {S:St} {q:Nat} (h:bY S q) (r:aJ) (st:List Sz) (dl:List Dl) (k:Int):pO (iY r st dl k S).2.1:=by
 have hno:pO bD:=oD rfl rfl;have hmap:∀(i:Nat) (z:Int),pO (oL i ((S.F i).getD gZ) z):=fun i z=>by
  cases hi:S.F i with
  | none=>exact ⟨Nat.zero_le _,(fun x hx=>by cases hx),(Bd (m:=gZ) Q3 (fun x hx=>by cases hx)).2⟩
  | some m=>exact ⟨Nat.zero_le _,(fun x hx=>by cases hx),(Bd (h.ok.file i m hi).2.2 (h.pts i m hi)).2⟩
 unfold iY;split
 ·unfold pI;split
  ·exact oD rfl rfl
  ·exact hno
 ·split
  ·unfold mJ
   repeat' split
   all_goals first|exact hno|exact oD rfl rfl
  ·split
   ·unfold pM;split
    ·exact oD rfl rfl
    ·exact hno
   ·split
    ·unfold pG;split
     ·exact oD rfl rfl
     ·exact hno
    ·split
     ·unfold oP;split
      ·refine ⟨?_,?_,Nat.zero_le _⟩
       ·dsimp only;unfold listOf;split
        ·simp
        ·split
         ·simp
         ·exact (Hr h.ok.tree _).1
       ·dsimp only;unfold listOf;split
        ·simp
        ·split
         ·simp
         ·exact fun x hx=>((Hr h.ok.tree _).2 x hx).2
      ·exact hno
     ·split
      ·unfold mG
       repeat' split
       all_goals first|exact hno|exact hmap _ _
      ·split
       ·unfold nS
        repeat' split
        all_goals first|exact hno|exact oD rfl rfl
       ·unfold mapD;split
        ·exact hno
        ·exact hmap _ _
def xB (W:Nat→Option gW):Prop:=∀i y,W i=some y→y.2.2.length≤3300
theorem Xr {S:St} {q:Nat} {r:aJ} {st:List Sz} {dl:List Dl} {x:aF×St} (inv:bY S q) (hw:xB S.W) (hd:gQ S r st dl x):xB x.2.W:=by
 have tt:=vZ hd;unfold gQ at hd;split at hd
 ·rw [hd];show xB (dG (lU S r)).2.W;rw [lI];unfold lU;split<;>exact hw
 ·split at hd
  ·rw [hd];show xB (dG (lX S r)).2.W;rw [lI];unfold lX;split<;>exact hw
  ·split at hd
   ·rw [hd];show xB (dG (lF S r st dl)).2.W;rw [lI];unfold lF
    repeat' split
    all_goals exact hw
   ·split at hd
    ·rw [hd];exact hw
    ·split at hd
     ·rw [hd.1];exact hw
     ·split at hd
      ·rw [hd];exact hw
      ·rw [hd];have hB:bY (eG S r.c.toNat (dX S.W r.c r.l r.q).1) (q+1):=(inv.eG r.c.toNat (dX S.W r.c r.l r.q).1)
       have hS:=L9 hB r st dl r.kind;generalize hX:iY r st dl r.kind (eG S r.c.toNat (dX S.W r.c r.l r.q).1)=X at hS ⊢;have hbs:pO (dG X).1:=by
        unfold dG;split
        ·exact hS
        ·exact oD rfl rfl
       have hWW:(dG X).2.W=S.W:=by
        rw [lI,← hX];have hwd:∀B:St,(iY r st dl r.kind B).2.2.W=B.W:=fun B=>aBM (Ue B r st dl (by
         rename_i a _ _
         exact Classical.byContradiction a)).1
        rw [hwd];unfold eG;split<;>rfl
       intro i y hy;have hy':upd (dG X).2.W r.c.toNat (some (r.l,r.q,(dW (dG X).1 (dG X).2.swaps).bytes)) i=some y:=hy;unfold upd at hy';split at hy'
       ·cases hy';exact (xQ hbs _).len
       ·rw [hWW] at hy';exact hw i y hy'
def hasB (F:Nat→Option aG) (k:Nat):Bool:=match F k with
 | some m=> !m.l.isEmpty
 | none=>false
def nF (F:Nat→Option aG):Nat:=(List.range 129).countP fun k=>(F k).isSome
def nN (F:Nat→Option aG):Nat:=(List.range 129).countP (hasB F)
theorem Zl {F:Nat→Option aG} {k:Nat} (h:hasB F k=true):(F k).isSome=true:=by
 unfold hasB at h;cases hk:F k with
 | none=>rw [hk] at h;cases h
 | some m=>rfl
theorem count_le (l:List Nat) {p p':Nat→Bool} (h:∀k,p' k=true→p k=true):l.countP p'≤l.countP p:=List.countP_mono_left (fun x _=>h x)
theorem aAh (F:Nat→Option aG):nN F≤nF F:=count_le _ (fun _=>Zl)
theorem count_one:∀(l:List Nat) (p p':Nat→Bool) (i:Nat),l.Nodup→(∀k,k≠i→p' k=true→p k=true)→l.countP p'≤l.countP p+1
 | [],_,_,_,_,_=>by simp
 | a::l,p,p',i,hn,h=>by
  obtain ⟨h1,h2⟩:=List.nodup_cons.1 hn;rw [List.countP_cons,List.countP_cons];by_cases e:a=i
  ·have:l.countP p'≤l.countP p:=List.countP_mono_left (fun x hx=>h x (fun e'=>h1 (by rw [e,← e'];exact hx)));split<;>split<;>omega
  ·have ih:=count_one l p p' i h2 h;have ha:=h a e;by_cases hp':p' a=true
   ·rw [if_pos hp',if_pos (ha hp')];omega
   ·rw [if_neg hp'];omega
theorem Yc (F:Nat→Option aG) (i:Nat) (x:Option aG):nF (bC F i x)≤nF F+1:=
 count_one _ _ _ i List.nodup_range (fun k hk h=>by rwa [tJ _ _ hk] at h)
theorem Yu (F:Nat→Option aG) (i:Nat) (x:Option aG):nN (bC F i x)≤nN F+1:=
 count_one _ _ _ i List.nodup_range (fun k hk h=>by unfold hasB at h ⊢;rwa [tJ _ _ hk] at h)
theorem Si (F:Nat→Option aG) (i:Nat) (x:Option aG):bC F i x i=x:=if_pos rfl
theorem Fa {F:Nat→Option aG} {i:Nat} {x:Option aG} (h:x.isSome=true→(F i).isSome=true):nF (bC F i x)≤nF F:=count_le _ (fun k hk=>by
 by_cases e:k=i
 ·subst e;rw [Si] at hk;exact h hk
 ·rwa [tJ _ _ e] at hk)
theorem Ej {F:Nat→Option aG} {i:Nat} {x:Option aG} (h:∀m,x=some m→m.l≠ []→hasB F i=true):nN (bC F i x)≤nN F:=count_le _ (fun k hk=>by
 by_cases e:k=i
 ·subst e;unfold hasB at hk;rw [Si] at hk;cases x with
  | none=>cases hk
  | some m=>
   refine h m rfl (fun e=> ?_);dsimp only at hk;rw [e] at hk;cases hk
 ·unfold hasB at hk ⊢;rwa [tJ _ _ e] at hk)
theorem Yh {m:aG} {d:Dl} (h:d.k=3):(dR m d).l.length=m.l.length:=by
 unfold dR iC;split
 ·rw [if_neg (by omega),if_neg (by omega)];dsimp only;rw [List.length_set]
 ·rfl
theorem aBR {F:Nat→Option aG} {d:Dl} (h:d.k=3):nF (gI F d)≤nF F∧nN (gI F d)≤nN F:=by
 unfold gI;cases hF:F d.i.toNat with
 | none=>exact ⟨Nat.le_refl _,Nat.le_refl _⟩
 | some m=>
  refine ⟨Fa (fun _=>by rw [hF];rfl),Ej (fun m' e hne=> ?_)⟩;cases e;unfold hasB;rw [hF];dsimp only;have:=Yh (m:=m) h;cases hm:m.l with
  | nil=>
   rw [hm] at this;exact absurd (List.length_eq_zero_iff.1 this) hne
  | cons a r=>rfl
theorem Ti:∀(dl:List Dl) (F:Nat→Option aG),(∀d∈dl,d.k=3)→nF (dl.foldl gI F)≤nF F∧nN (dl.foldl gI F)≤nN F
 | [],_,_=>⟨Nat.le_refl _,Nat.le_refl _⟩
 | d::r,F,h=>by
  have h1:=aBR (F:=F) (h d (List.mem_cons_self ..));have h2:=Ti r (gI F d) (fun y hy=>h y (List.mem_cons_of_mem _ hy));exact ⟨Nat.le_trans h2.1 h1.1,Nat.le_trans h2.2 h1.2⟩
def rY (clock:Int) (u:Us):Prop:=0≤u.1∧u.1≤6000∧0≤u.2.2∧u.2.2≤clock
theorem rY.le {a b:Int} {u:Us} (h:rY a u) (hb:a≤b):rY b u:=⟨h.1,h.2.1,h.2.2.1,by have:=h.2.2.2;omega⟩
theorem Dz (ck:Int) (hc:0≤ck):∀(st:List Sz) (U:Stp→Option Us),(∀x u,U x=some u→rY ck u)→(∀s∈st,1≤s.2∧s.2≤6000)→∀x u,jA ck st U x=some u→rY ck u
 | [],U,h,_,x,u,hx=>h x u hx
 | s::r,U,h,hs,x,u,hx=>by
  have h':jA ck r (fun z=>if z=s.1 then some (s.2,0,ck) else U z) x=some u:=hx;refine Dz ck hc r _ (fun y v hy=> ?_) (fun t ht=>hs t (List.mem_cons_of_mem _ ht)) x u h';split at hy
  ·cases hy;have:=hs s (List.mem_cons_self ..);exact ⟨by dsimp only;omega,by dsimp only;omega,hc,Int.le_refl _⟩
  ·exact h y v hy
theorem I4 {F:Nat→Option aG} {U:Stp→Option Us} {ck:Int} (h:∀x u,U x=some u→rY ck u):∀x u,iD F U x=some u→rY ck u:=fun x u hx=>by
 unfold iD at hx;cases hU:U x with
 | none=>rw [hU] at hx;cases hx
 | some v=>
  rw [hU] at hx;dsimp only at hx;split at hx
  ·cases hx
  ·cases hx;exact h x v hU
theorem Q4 (S:St) (nx c l:Int):∀(st:List Sz) (m m':Stp→Option Int),kR S nx c l st m=some m'→∀s∈st,1≤s.2∧s.2≤6000
 | [],_,_,_,s,hs=>by simp at hs
 | x::r,m,m',h,s,hs=>by
  unfold kR at h;split at h
  ·rename_i hx
   rcases List.mem_cons.1 hs with rfl|hs
   ·obtain ⟨_,_,_,_,_,_,h7,h8⟩:=hx;exact ⟨h7,h8⟩
   ·exact Q4 S nx c l r _ m' h s hs
  ·cases h
theorem Qc {S:St} {sw nx:Int} {st:List Sz} {c l:Int} (h:(eX S sw nx st c l).1=0):(∀s∈st,1≤s.2∧s.2≤6000)∧S.next c.toNat≤nx∧nx≤1073741825:=by
 unfold eX at h;split at h
 ·cases h
 ·split at h
  ·cases h
  ·rename_i h2
   split at h
   ·cases h
   ·rename_i m hm
    have h3:=Classical.byContradiction h2;exact ⟨Q4 S nx c l st _ m hm,h3.1,h3.2⟩
structure Fit (S:St) (c:Nat):Prop where
 next:∀k,0≤S.next k∧S.next k≤1073741825
 win:xB S.W
 use:∀x u,S.U x=some u→rY S.clock u
 few:nF S.F+nN S.F≤c
theorem Du {f:Nat→Int} (h:∀k,0≤f k∧f k≤1073741825) (i:Nat) (v:Int) (hv:0≤v∧v≤1073741825) (k:Nat):0≤nY f i v k∧nY f i v k≤1073741825:=by
 unfold nY;split
 ·exact hv
 ·exact h k
theorem Xf:Fit S0 0:=⟨fun _=>⟨Int.le_refl _,by show (0:Int)≤_;decide⟩,fun i y h=>(by cases h),fun x u h=>(by cases h),by decide⟩
structure yA (S:St) (c:Nat):Prop where
 next:∀k,0≤S.next k∧S.next k≤1073741825
 use:∀x u,S.U x=some u→rY S.clock u
 few:nF S.F+nN S.F≤c
theorem Xv {B D:St} {q c:Nat} {r:aJ} {st:List Sz} {dl:List Dl} (inv:bY B q) (h:yA B c) (d:Deeds r st dl B D):yA D (c+1):=by
 obtain ⟨h1,h2,h3⟩:=h;have hck:=inv.clock.1;cases d with
 | same=>exact ⟨h1,h2,by omega⟩
 | make hk h0=>
  refine ⟨h1,h2,?_⟩;unfold kL;dsimp only;split
  ·omega
  ·have a:=Yc B.F (dP B.T r.path).2 (some gZ);have b:nN (bC B.F (dP B.T r.path).2 (some gZ))≤nN B.F:=Ej (fun m e hne=>by cases e;exact absurd rfl hne);omega
 | remove hk h0 hm h00=>
  unfold kM;split
  ·exact ⟨h1,h2,by dsimp only;omega⟩
  ·refine ⟨h1,I4 h2,?_⟩;dsimp only;have a:nF (bC B.F (dO B.T r.path r.dir).2 none)≤nF B.F:=Fa (fun e=>by cases e);have b:nN (bC B.F (dO B.T r.path r.dir).2 none)≤nN B.F:=Ej (fun m e=>by cases e);omega
 | move=>exact ⟨h1,h2,by dsimp only;omega⟩
 | opens=>exact ⟨h1,h2,by dsimp only;omega⟩
 | commit x hk hx hw hs hd=>
  obtain ⟨hsz,hn1,hn2⟩:=Qc hs;obtain ⟨i,m,e1,e2,e3⟩:=inv.tok x (List.mem_of_find?_eq_some hx);unfold nJ eY;refine ⟨fun k=> ?_,I4 (Dz _ hck _ _ h2 hsz),?_⟩
  ·exact Du h1 _ _ ⟨by have:=(h1 r.c.toNat).1;omega,hn2⟩ k
  ·dsimp only;rw [e1,Int.toNat_natCast];have a:nF (bC B.F i (some (dl.foldl dR ((B.F i).getD gZ))))≤nF B.F:=Fa (fun _=>by rw [e3];rfl);have b:=Yu B.F i (some (dl.foldl dR ((B.F i).getD gZ)));omega
theorem aDK {S S':St} {q c:Nat} {r:aJ} {st:List Sz} {dl:List Dl} (inv:bY S q) (h:yA S c) (t:Turns S r st dl S'):yA S' (c+1):=by
 obtain ⟨h1,h2,h3⟩:=h;have hck:=inv.clock.1;cases t with
 | same=>exact ⟨h1,h2,by omega⟩
 | boot=>exact ⟨fun k=>Du h1 4 0 ⟨by decide,by decide⟩ k,fun x u hx=>(h2 x u hx).le (by unfold rF;dsimp only;omega),by unfold rF;dsimp only;omega⟩
 | swap=>exact ⟨h1,fun x u hx=>(h2 x u hx).le (by unfold pY;dsimp only;omega),by unfold pY;dsimp only;omega⟩
 | moved hc hs hm=>
  obtain ⟨hsz,hn1,hn2⟩:=Qc hs;unfold rH eY;have hf:=Ti dl S.F (fun d hd=>(hm d hd).2.1);refine ⟨fun k=> ?_,I4 (Dz (S.clock+1) (by omega) _ _ (fun x u hx=>(h2 x u hx).le (by omega)) hsz),?_⟩
  ·exact Du h1 _ _ ⟨by have:=(h1 (4:Int).toNat).1;omega,hn2⟩ k
  ·dsimp only;omega
 | asked kd bs D hm hk ha hd=>
  have hB:yA (eG S r.c.toNat kd) c:=by
   unfold eG;split
   ·exact ⟨fun k=>Du h1 _ 0 ⟨by decide,by decide⟩ k,fun x u hx=>(h2 x u hx).le (by dsimp only;omega),h3⟩
   ·exact ⟨h1,fun x u hx=>(h2 x u hx).le (by dsimp only;omega),h3⟩
  obtain ⟨a,b,d⟩:=Xv (inv.eG r.c.toNat kd) hB hd;exact ⟨a,b,d⟩
theorem aB6 {S:St} {q c:Nat} {r:aJ} {st:List Sz} {dl:List Dl} {x:aF×St} (inv:bY S q) (h:Fit S c) (hd:gQ S r st dl x):Fit x.2 (c+1):=by
 obtain ⟨a,b,d⟩:=aDK inv ⟨h.next,h.use,h.few⟩ (vZ hd);exact ⟨a,Xr inv h.win hd,b,d⟩
theorem Dy (f:Nat→Nat) (g:Nat→Bool) (a b:Nat):∀L:List Nat,(∀i∈L,f i≤a+if g i=true then b else 0)→(L.map f).sum≤a*L.length+b*L.countP g
 | [],_=>by simp
 | x::r,h=>by
  have h1:=h x (List.mem_cons_self ..);have h2:=Dy f g a b r (fun i hi=>h i (List.mem_cons_of_mem _ hi));rw [List.map_cons,List.sum_cons,List.length_cons,List.countP_cons,Nat.mul_succ];split at h1
  ·rename_i e
   rw [if_pos e,Nat.mul_succ];omega
  ·rename_i e
   rw [if_neg e,Nat.add_zero];omega
theorem aBY {S:St} (hp:jP S.F) (hl:∀i m,S.F i=some m→fU m) (h:pX S) {ss:List Stp} (hn:ss.Nodup) (hm:∀x∈ss,(S.U x).isSome=true):ss.length≤64*nN S.F:=by
 have h1:=Jl ss ((List.range 129).flatMap fun i=>(vI S.F i).map iK) hn (fun x hx=>by
  obtain ⟨u,hu⟩:=Option.isSome_iff_exists.1 (hm x hx);obtain ⟨h1,h2⟩:=h.live x u hu;rw [h1] at h2;obtain ⟨i,hi,m,hF,p,hpm,rfl⟩:=Rz h2;refine List.mem_flatMap.2 ⟨i,List.mem_range.2 hi,List.mem_map.2 ⟨p,?_,rfl⟩⟩;unfold vI;rw [hF];exact hpm)
 rw [List.length_flatMap] at h1;have h2:=Dy (fun i=>((vI S.F i).map iK).length) (hasB S.F) 0 64 (List.range 129) (fun i _=>by
  rw [List.length_map];have a:=(aAR hp.short hl i).1;split
  ·omega
  ·rename_i e
   unfold hasB at e;unfold vI;cases hF:S.F i with
   | none=>exact Nat.zero_le _
   | some m=>
    rw [hF] at e;have hml:m.l= []:=by
     cases hm:m.l with
     | nil=>rfl
     | cons a r=>
      dsimp only at e;rw [hm] at e;exact absurd rfl e
    unfold ptrs;dsimp only;rw [hml];exact Nat.le_refl _)
 unfold nN;omega
theorem aAb {S:St} (h:pX S) (hp:jP S.F) {x:Stp} (hx:(S.U x).isSome=true):(0≤x.1∧x.1<256)∧(0≤x.2.1∧x.2.1<16777216)∧(0≤x.2.2∧x.2.2<4294967296):=by
 obtain ⟨u,hu⟩:=Option.isSome_iff_exists.1 hx;obtain ⟨h1,h2⟩:=h.live x u hu;rw [h1] at h2;obtain ⟨i,hi,m,hF,p,hpm,rfl⟩:=Rz h2;obtain ⟨h3,h4⟩:=vO.1 hpm;rcases hp i m hF p h3 with e|e
 ·exact absurd e h4
 ·unfold iK;dsimp only;omega
theorem Vu {T:Tree} (ht:dD T):1≤things T∧things T≤129:=by
 unfold things;refine ⟨?_,Nat.le_trans List.countP_le_length (by rw [List.length_range];omega)⟩;refine List.countP_pos_iff.2 ⟨1,List.mem_range.2 (by omega),?_⟩;rw [ht.root];rfl
theorem aCa {S:St} {q c:Nat} (inv:bY S q) (iw:vH S) (il:pX S) (ft:Fit S c) (hq:q≤200) (hc:c≤50) {ss:List Stp} (hs:vJ S.U ss):(nK S ss).2=0:=by
 obtain ⟨hnd,hmem,_⟩:=hs;have hnn:=aAh S.F;have hfew:=ft.few;have hlen:=aBY inv.pts (fun i m h=>(inv.ok.file i m h).2.2) il hnd (fun x hx=>(hmem x).1 hx);have w0:Wrote 0 (([],0):aN):=⟨rfl,Nat.le_refl _⟩
 have p3:(2:Int) ^ (8*3)=16777216:=by decide
 have p6:(2:Int) ^ (8*6)=281474976710656:=by decide
 have p4:(2:Int) ^ (8*4)=4294967296:=by decide
 have p2:(2:Int) ^ (8*2)=65536:=by decide
 have p1:(2:Int) ^ (8*1)=256:=by decide
 have hb:=inv.boots;have hsw:=inv.swaps;have hck:=inv.clock;have w1:=w0.then (gY S.boots 3 ⟨hb.1,by omega⟩) (by omega)
 have w2:=w1.then (gY S.swaps 3 ⟨hsw.1,by omega⟩) (by omega)
 have w3:=w2.then (gY S.clock 6 ⟨hck.1,by omega⟩) (by omega)
 have w4:Wrote 32 (rM S 5):=w3.then (xK (fun s k=>aI s (S.next k) 4) 4 (List.range 5) (fun k _=>gY (S.next k) 4 ⟨(ft.next k).1,by have:=(ft.next k).2;omega⟩)) (by rw [List.length_range];omega)
 have hwl:(gX S.W 4).length≤4:=Nat.le_trans (List.length_filterMap_le _ _) (by rw [List.length_range];omega);have w5:=w4.then (gY (gX S.W 4).length 1 ⟨by omega,by omega⟩) (by omega)
 have w6:Wrote 13273 (qJ S):=(w5.then (xK oJ 3310 (gX S.W 4) (fun y hy=>by
  unfold gX at hy;obtain ⟨i,hi,he⟩:=List.mem_filterMap.1 hy;cases hW:S.W i with
  | none=>rw [hW] at he;cases he
  | some z=>
   rw [hW] at he;cases he;obtain ⟨a1,a2,a3,a4,a5⟩:=iw i z hW;have:=ft.win i z hW;exact aA5 _ ⟨by dsimp only;omega,by dsimp only;omega⟩ ⟨by dsimp only;omega,by dsimp only;omega⟩ ⟨by dsimp only;omega,by dsimp only;omega⟩ this)) (by omega)).le (by omega)
 have htt:=Vu inv.ok.tree;have w7:=w6.then (gY ((things S.T:Int) - 1) 2 ⟨by omega,by omega⟩) (by omega)
 have hil:(qQ S.T).length≤129:=by
  unfold qQ numsOf;exact Nat.le_trans (List.length_filter_le _ _) (by rw [List.length_range];omega)
 have w8:Wrote 15726 (pR (qJ S) S.T):=(w7.then (xK (nI S.T) 19 (qQ S.T) (fun k _=>aAx S.T inv.ok.tree k)) (by omega)).le (by omega);have hkl:=inv.few;have w9:=w8.then (gY (S.K.length:Int) 1 ⟨by omega,by omega⟩) (by omega)
 have w10:Wrote 16727 (qA (pR (qJ S) S.T) S.K):=(w9.then (xK qI 5 S.K (fun x hx=>by
  obtain ⟨i,m,e1,e2,_⟩:=inv.tok x hx;exact Xq x (inv.small x hx) (by omega))) (by omega)).le (by omega)
 have hfl:(iV S).length=nF S.F:=by
  unfold iV numsOf nF;rw [List.countP_eq_length_filter]
 have w11:=w10.then (gY ((iV S).length:Int) 2 ⟨by omega,by omega⟩) (by omega)
 have hsum:=Dy (fun i=>2+(2+11*((S.F i).getD gZ).l.length)) (hasB S.F) 4 704 (iV S) (fun i _=>by
  unfold hasB;cases hF:S.F i with
  | none=>simp [gZ]
  | some m=>
   have h64:=(inv.ok.file i m hF).2.2;have:m.l.length≤64:=by
    obtain ⟨a,b⟩:=h64;rw [b];unfold dY;omega
   dsimp only [Option.getD_some];split
   ·omega
   ·rename_i e
    cases hm:m.l with
    | nil=>simp
    | cons a r=>rw [hm] at e;exact absurd rfl e)
 have hcn:(iV S).countP (hasB S.F)≤nN S.F:=by
  unfold iV numsOf nN;exact List.Sublist.countP_le (List.filter_sublist ..)
 have w12:=w11.then (Gm (qW S.F) (fun i=>2+(2+11*((S.F i).getD gZ).l.length)) (iV S) (fun i hi=>by
  have hi2:i<129:=by
   unfold iV numsOf at hi;exact List.mem_range.1 (List.mem_filter.1 hi).1
  have hmm:((S.F i).getD gZ).size≤4096∧∀p∈((S.F i).getD gZ).l,dI p:=by
   cases hF:S.F i with
   | none=>exact ⟨Nat.zero_le _,fun p hp=>by cases hp⟩
   | some m=>exact ⟨(inv.ok.file i m hF).2.2.1,inv.pts i m hF⟩
  have g1:=gY (i:Int) 2 ⟨by omega,by omega⟩;have g2:=aBQ ((S.F i).getD gZ) hmm.1 hmm.2;have g3:=g1.comp g2;exact fun s h0 hl=>g3 s h0 hl)) (by omega)
 have w13:Wrote 34529 (xP S):=by
  have g:=w12.le (j:=34529) (by omega);unfold xP;exact g
 have w14:=w13.then (gY (ss.length:Int) 2 ⟨by omega,by omega⟩) (by omega)
 have w15:=w14.then (xK (pF S.U) 16 ss (fun x hx=>by
  have hx2:=(hmem x).1 hx;obtain ⟨u,hu⟩:=Option.isSome_iff_exists.1 hx2;obtain ⟨r1,r2,r3⟩:=aAb il inv.pts hx2;obtain ⟨u1,u2,u3,u4⟩:=ft.use x u hu;exact Xm S.U x u hu r1 r2 r3 ⟨u1,by omega⟩ ⟨u3,by omega⟩)) (by omega)
 unfold nK;exact w15.1
theorem Ns {S:St} {r:aJ} {st:List Sz} {dl:List Dl} {x y:aF×St} (h:gQ S r st dl x) (g:gQ S r st dl y):x=y:=by
 unfold gQ at h g;by_cases a:r.kind=10
 ·rw [if_pos a] at h g;rw [h,g]
 ·rw [if_neg a] at h g;by_cases b:r.kind=11
  ·rw [if_pos b] at h g;rw [h,g]
  ·rw [if_neg b] at h g;by_cases c:r.kind=9
   ·rw [if_pos c] at h g;rw [h,g]
   ·rw [if_neg c] at h g;by_cases d:¬(1≤r.kind∧r.kind≤8)
    ·rw [if_pos d] at h g;rw [h,g]
    ·rw [if_neg d] at h g;by_cases e:(dX S.W r.c r.l r.q).1=1
     ·rw [if_pos e] at h g;obtain ⟨h1,h2,h3⟩:=h;obtain ⟨g1,g2,g3⟩:=g;have hb:x.1.bytes=y.1.bytes:=Option.some.inj (h2.symm.trans g2);exact Prod.ext (aF.inj h3 g3 hb) (h1.trans g1.symm)
     ·rw [if_neg e] at h g;by_cases f:(dX S.W r.c r.l r.q).1=2
      ·rw [if_pos f] at h g;rw [h,g]
      ·rw [if_neg f] at h g;rw [h,g]
def both (c:Nat):Prop:=aH 0 c∨aH 5000 c
structure Good (S:St) (i:Nat):Prop where
 inv:bY S (2*i)
 win:vH S
 live:pX S
 fit:Fit S i
def Em (w:World) (o:Nat→Nat) (Ls Lt:aT) (i:Nat) (w':World):Prop:=
 ∃o' S,Step both w o w' o'∧aK w' o' 0 Ls S (100*i)∧aK w' o' 5000 Lt S (100*i)∧Good S i
theorem Good.did {S:St} {i:Nat} {r:aJ} {st:List Sz} {dl:List Dl} {x:aF×St} (h:Good S i) (hd:gQ S r st dl x) (hi:bY x.2 (2*i+2)):Good x.2 (i+1):=
 ⟨by rw [show 2*(i+1)=2*i+2 by omega];exact hi,h.win.turn (vZ hd),U8 h.inv (by rw [Nat.mul_comm] at*;exact hi) h.live hd,aB6 h.inv h.fit hd⟩
theorem aBE:Good S0 0:=⟨uS,fun i y h=>(by cases h),X9,Xf⟩
inductive Run (L:List Rq) (S:St):Nat→St→Prop
 | zero:Run L S 0 S
 | succ {j:Nat} {T:St} {y:Rq} {x:aF×St}:Run L S j T→L[j]? =some y→gQ T y.1 y.2.1 y.2.2 x→Run L S (j+1) x.2
theorem Vs {L:List Rq} {S:St}:∀ {j:Nat} {T T':St},Run L S j T→Run L S j T'→T=T':=by
 intro j T T' h;induction h generalizing T' with
 | zero=>
  intro g;cases g;rfl
 | succ h1 h2 h3 ih=>
  intro g;cases g with
  | succ g1 g2 g3=>
   obtain rfl:=ih g1;rw [h2] at g2;cases g2;rw [Ns h3 g3]
def xI (K:Nat) (w:World) (o:Nat→Nat) (L:aT) (LL:List Rq) (S:St) (i j:Nat) (w':World):Prop:=
 ∃o' T,Step (aH K) w o w' o'∧aK w' o' K L T (100*(i+j))∧Run LL S j T∧bY T (2*(i+j))∧vH T
theorem Zk {S:St} {q:Nat} {r:aJ} {st:List Sz} {dl:List Dl} {x:aF×St} (inv:bY S q) (hd:gQ S r st dl x):x.1.map.length≤1000000∧x.1.es.length≤4000:=by
 have sh:∀z:aF,pO z→z.map.length≤1000000∧z.es.length≤4000:=fun z h=>⟨Nat.le_trans h.2.2 (by decide),Nat.le_trans h.1 (by decide)⟩;have tr:∀X:Int×aF×St,pO X.2.1→pO (dG X).1:=fun X h=>by
  unfold dG;split
  ·exact h
  ·exact oD rfl rfl
 unfold gQ at hd;split at hd
 ·rw [hd];refine sh _ (xQ (tr _ ?_) _);unfold lU;split<;>exact oD rfl rfl
 ·split at hd
  ·rw [hd];refine sh _ (xQ (tr _ ?_) _);unfold lX;split<;>exact oD rfl rfl
  ·split at hd
   ·rw [hd];refine sh _ (xQ (tr _ ?_) _);unfold lF
    repeat' split
    all_goals exact oD rfl rfl
   ·split at hd
    ·rw [hd];exact sh _ (oD rfl rfl)
    ·split at hd
     ·exact Wi hd.2.2
     ·split at hd
      ·rw [hd];exact sh _ (oD rfl rfl)
      ·rw [hd];exact sh _ (xQ (xQ (tr _ (L9 (inv.eG r.c.toNat (dX S.W r.c r.l r.q).1) r st dl r.kind)) _) _)
def Far (K:Nat) (o:Nat→Nat) (w:World) (v:Value):Prop:=∃a l c,v=.slice a l c∧∀p,a=some p→p.block<w.heap.size∧¬aH K (o p.block)
theorem Far.step {K:Nat} {C:Nat→Prop} {o o':Nat→Nat} {w w':World} {v:Value} (h:Far K o w v) (s:Step C w o w' o'):Far K o' w' v:=by
 obtain ⟨a,l,c,e,hp⟩:=h;refine ⟨a,l,c,e,fun p e2=> ?_⟩;obtain ⟨h1,h2⟩:=hp p e2;exact ⟨Nat.lt_of_lt_of_le h1 s.fr.size,by rw [s.old _ h1];exact h2⟩
def pU (K K':Nat) (L:aT) (S:St) (i:Nat) (r:aJ) (st:List Sz) (dl:List Dl) (v:Value) (o:Nat→Nat) (w:World):Prop:=
 ∃(x:aF×St) (ev mv:Value),v=.agg (x.1.cells ev mv)∧Far K' o w ev∧Far K' o w mv∧Rp w ev mv x.1.es x.1.map∧gQ S r st dl x∧bY x.2 (2*i+2)∧aK w o K L x.2 (100*i+100)
theorem Far.not {K:Nat} {o:Nat→Nat} {w:World} {v:Value} (h:Far K o w v):∀a l c,v=.slice (some a) l c→¬aH K (o a.block):=fun a l c e=>by
 obtain ⟨a',l',c',e2,hp⟩:=h;rw [e] at e2;cases e2;exact (hp a rfl).2
theorem pU.other {K K':Nat} {L:aT} {S:St} {i:Nat} {r:aJ} {st:List Sz} {dl:List Dl} {v:Value} {o o':Nat→Nat} {w w':World} (h:pU K K' L S i r st dl v o w) (s:Step (aH K') w o w' o') (hk:∀c,aH K c→¬aH K' c):pU K K' L S i r st dl v o' w':=by
 obtain ⟨x,ev,mv,e,f1,f2,rp,d,inv,t⟩:=h;exact ⟨x,ev,mv,e,f1.step s,f2.step s,rp.far s.fr f1.not f2.not,d,inv,t.step inv.ok s hk⟩
theorem pU.store {K K':Nat} {L:aT} {S:St} {i:Nat} {r:aJ} {st:List Sz} {dl:List Dl} {v:Value} {o:Nat→Nat} {w w':World} {g:Nat} (h:pU K K' L S i r st dl v o w) (s:Step (fun c=>c=0) w o w' o) (f:Fr (fun k=>k=g) w w') (hg:mV w g):pU K K' L S i r st dl v o w':=by
 obtain ⟨x,ev,mv,e,f1,f2,rp,d,inv,t⟩:=h;exact ⟨x,ev,mv,e,f1.step s,f2.step s,rp.fr f (fun k hk _=>by rw [hk];exact hg),d,inv,t.step inv.ok s (fun c h e=>by unfold aH at h;omega)⟩
theorem pU.no {K K':Nat} {L:aT} {S:St} {i:Nat} {r:aJ} {st:List Sz} {dl:List Dl} {v:Value} {o:Nat→Nat} {w w':World} (h:pU K K' L S i r st dl v o w) (hf:aP w o) (f:Fr No w w'):pU K K' L S i r st dl v o w':=by
 obtain ⟨x,ev,mv,e,f1,f2,rp,d,inv,t⟩:=h;have s:Step (fun _=>False) w o w' o:=Step.no hf f;exact ⟨x,ev,mv,e,f1.step s,f2.step s,rp.no f,d,inv,t.no inv.ok hf f⟩
theorem Qj {K K':Nat} {L:aT} {S:St} {i:Nat} {r:aJ} {st:List Sz} {dl:List Dl} {w w':World} {o:Nat→Nat} {e:Ending} (h:Dj K w o L S (100*i+100) (2*i+2) r st dl e w') (hk:∀c,aH K c→¬aH K' c):∃v o',e=.returned v∧Step (aH K) w o w' o'∧pU K K' L S i r st dl v o' w'∧∃x ev mv,v=.agg (aF.cells x ev mv):=by
 obtain ⟨x,o',ev,mv,he,she,shm,hrp,hd,inv,s,t,hnew,l1,l2⟩:=h;have far:∀z:Value,(∃a l c,z=.slice a l c)→Low w.heap.size z→(∀a l c,z=.slice (some a) l c→a.block<w'.heap.size)→Far K' o' w' z:=fun z hz hl hb=>by
  obtain ⟨a,l,c,rfl⟩:=hz;refine ⟨a,l,c,rfl,fun p e=> ?_⟩;subst e;refine ⟨hb p l c rfl,fun hh=> ?_⟩;rcases hnew p.block (hl p l c rfl) with h0|h0
  ·rw [h0] at hh;unfold aH at hh;omega
  ·exact hk _ h0 hh
 refine ⟨_,o',he,s,⟨x,ev,mv,rfl,far ev she l1 (fun a l c e=> ?_),far mv shm l2 (fun a l c e=> ?_),hrp,hd,inv,t⟩,_,_,_,rfl⟩
 ·rcases hrp.1 with ⟨e2,_⟩|⟨b,off,c2,e2,_,a2,_⟩
  ·rw [e] at e2;cases e2
  ·rw [e] at e2;cases e2;exact a2
 ·rcases hrp.2 with ⟨e2,_⟩|⟨b,off,c2,⟨e2,_,a2,_⟩,_⟩
  ·rw [e] at e2;cases e2
  ·rw [e] at e2;cases e2;exact a2
def Slot (w1:World) (o:Nat→Nat) (w:World) (p:Value) (done:Bool) (v:Value):Prop:=∃(g:Nat) (x:aF) (ev mv:Value),p=.pointer (some ⟨g,0,none⟩)∧w1.heap.size≤g∧Zero w o g (.cells (x.cells ev mv) 29 (0,0))∧(∀z:Int,ev≠ .int .u8 z)∧(∀z:Int,mv≠ .int .u8 z)∧(done=true→v=.agg (x.cells ev mv))
structure Tw (Ls Lt:aT) (w1:World) (o1:Nat→Nat) (S:St) (i:Nat) (r:aJ) (dv:Value) (st:List Sz) (dl:List Dl) (vl lp lr:Value) (b0 b1 b2 b3 b4 b5 b6 b7 b8 b9 b10 b11 b12 b13 b14 b15 b16 b17:Bool) (v8 v9 v41 v42 v43 v44 v45 v46 v47 v48 v49 v50 v51 v52 v53 v54:Value) (o:Nat→Nat) (w:World):Prop where
 fr:Fr (fun k=>both (o1 k)) w1 w
 old:∀k,k<w1.heap.size→o k=o1 k
 fs:aP w o
 m0:b0=true→v41=.pointer (some ⟨Ls.s,0,none⟩)
 m1:b1=true→v42=vl
 m2:b2=true→v43=.int .i64 i
 m3:b3=true→v44=lp
 m4:b4=true→v45=lr
 m5:b5=true→b6=false→∃rv,v46=.agg (r.cells rv dv)∧eP gJ 4 w o rv st
 m6:b6=true→pU 0 5000 Ls S i r st dl v47 o w
 s0:b6=false→aK w o 0 Ls S (100*i)
 m7:b7=true→v48=.pointer (some ⟨Lt.s,0,none⟩)
 m8:b8=true→v49=vl
 m9:b9=true→v50=.int .i64 i
 m10:b10=true→v51=lp
 m11:b11=true→v52=lr
 m12:b12=true→b13=false→∃rv,v53=.agg (r.cells rv dv)∧eP gJ 4 w o rv st
 m13:b13=true→pU 5000 0 Lt S i r st dl v54 o w
 t0:b13=false→aK w o 5000 Lt S (100*i)
 g14:b14=true→Slot w1 o w v8 b16 v47
 g15:b15=true→Slot w1 o w v9 b17 v54
 ne:b14=true→b15=true→v8≠v9
 o16:b16=true→b14=true∧b6=true
 o17:b17=true→b15=true∧b13=true
 o12:b12=true→b6=true
 o13:b13=true→b12=true
section
variable {Ls Lt:aT} {w1 w w':World} {o1 o o':Nat→Nat} {S:St} {i:Nat} {r:aJ} {dv:Value} {st:List Sz} {dl:List Dl} {vl lp lr:Value} {b0 b1 b2 b3 b4 b5 b6 b7 b8 b9 b10 b11 b12 b13 b14 b15 b16 b17:Bool} {v8 v9 v41 v42 v43 v44 v45 v46 v47 v48 v49 v50 v51 v52 v53 v54:Value}
theorem Slot.step {C:Nat→Prop} {p v:Value} {d:Bool} (h:Slot w1 o w p d v) (s:Step C w o w' o') (hc:¬C 0):Slot w1 o' w' p d v:=by
 obtain ⟨g,x,ev,mv,e,h1,h2,h3⟩:=h;exact ⟨g,x,ev,mv,e,h1,h2.step s hc,h3⟩
theorem Slot.any {p v:Value} (h:Slot w1 o w p false v) (v':Value):Slot w1 o w p false v':=by
 obtain ⟨g,x,ev,mv,e,h1,h2,h3,h4,_⟩:=h;exact ⟨g,x,ev,mv,e,h1,h2,h3,h4,fun e=>nomatch e⟩
theorem Tw.no (ok:aU S) (h:Tw Ls Lt w1 o1 S i r dv st dl vl lp lr b0 b1 b2 b3 b4 b5 b6 b7 b8 b9 b10 b11 b12 b13 b14 b15 b16 b17 v8 v9 v41 v42 v43 v44 v45 v46 v47 v48 v49 v50 v51 v52 v53 v54 o w) (f:Fr No w w'):Tw Ls Lt w1 o1 S i r dv st dl vl lp lr b0 b1 b2 b3 b4 b5 b6 b7 b8 b9 b10 b11 b12 b13 b14 b15 b16 b17 v8 v9 v41 v42 v43 v44 v45 v46 v47 v48 v49 v50 v51 v52 v53 v54 o w':=
 have s:Step (fun _=>False) w o w' o:=Step.no h.fs f
 {h with
  fr:=h.fr.trans f (fun _ _ e=>e.elim)
  fs:=s.fresh
  m5:=fun a b=>(h.m5 a b).imp fun rv e=>⟨e.1,e.2.no h.fs f⟩
  m6:=fun a=>(h.m6 a).no h.fs f
  s0:=fun a=>(h.s0 a).no ok h.fs f
  m12:=fun a b=>(h.m12 a b).imp fun rv e=>⟨e.1,e.2.no h.fs f⟩
  m13:=fun a=>(h.m13 a).no h.fs f
  t0:=fun a=>(h.t0 a).no ok h.fs f
  g14:=fun a=>(h.g14 a).step s id
  g15:=fun a=>(h.g15 a).step s id}
end
def TwI (A:Value→Value→Value→Value→Value→Value→Value→Value→Value→Value→Value→Value→Value→Value→Value→Value→Act) (Ls Lt:aT) (w1:World) (o1:Nat→Nat) (S:St) (i:Nat) (r:aJ) (dv:Value) (st:List Sz) (dl:List Dl) (vl lp lr:Value) (n:Nat) (listed:Array Bool) (a:Act) (w:World):Prop:=
 ∃b0 b1 b2 b3 b4 b5 b6 b7 b8 b9 b10 b11 b12 b13 b14 b15 b16 b17:Bool,∃v8 v9 v41 v42 v43 v44 v45 v46 v47 v48 v49 v50 v51 v52 v53 v54:Value,∃o:Nat→Nat,n=(!b0).toNat+(!b1).toNat+(!b2).toNat+(!b3).toNat+(!b4).toNat+(!b5).toNat+(!b6).toNat+(!b7).toNat+(!b8).toNat+(!b9).toNat+(!b10).toNat+(!b11).toNat+(!b12).toNat+(!b13).toNat+(!b14).toNat+(!b15).toNat+(!b16).toNat+(!b17).toNat∧listed= #[b0,b1,b2,b3,b4,b5,b6,b7,b8,b9,b10,b11,b12,b13,b14,b15,b16,b17]∧a=A v8 v9 v41 v42 v43 v44 v45 v46 v47 v48 v49 v50 v51 v52 v53 v54∧Tw Ls Lt w1 o1 S i r dv st dl vl lp lr b0 b1 b2 b3 b4 b5 b6 b7 b8 b9 b10 b11 b12 b13 b14 b15 b16 b17 v8 v9 v41 v42 v43 v44 v45 v46 v47 v48 v49 v50 v51 v52 v53 v54 o w
end Go.Proofs.YtlcojhddnpmgmaaGreat
namespace Go.Proofs.YtlcojhddnpmgmaaGreat
open Go.ChangeShapes Go.WideShapes Go.RowKit Go.Deep
section
variable {H:Type} {enc:TypeId×Value→H} {W:World}
theorem Tryz.cells4:Tryz.prog.cellsOf 4=1:=by kernel_rfl
theorem Tryz.cells9:Tryz.prog.cellsOf 9=1:=by kernel_rfl
theorem Tryz.cells38:Tryz.prog.cellsOf 38=3:=by kernel_rfl
theorem Tryz.cells59:Tryz.prog.cellsOf 59=5:=by kernel_rfl
theorem Tryz.Pm:Tryz.prog.cellsOf 57=4:=by kernel_rfl
theorem Tryz.Pj:Tryz.prog.cellsOf 61=14:=by kernel_rfl
theorem Tryz.cells39:Tryz.prog.cellsOf 39=1:=by kernel_rfl
theorem Tryz.cells34:Tryz.prog.cellsOf 34=1:=by kernel_rfl
theorem Tryz.cells41:Tryz.prog.cellsOf 41=14:=by kernel_rfl
theorem fields_of {P:Program} {t:TypeId} {fs:Array Field} {fuel:Nat} {cs:List Value} {x:DataW H×List MemPlace} (ht:P.underlying t=some (.struct fs)) (h:DataW.trod enc P W 0 (fun _=>true) true fuel t cs=some x):
  cs.length=P.cellsOf t∧∃n,∀(i:Nat) (f:Field) (t':TypeId) (o k:Nat),fs[i]? =some f→f.type=t'→f.offset=o→P.cellsOf t'=k→∃y,DataW.trod enc P W 0 (fun _=>true) true n t' ((cs.drop o).take k)=some y:=by
 obtain ⟨xs,n,_,_,hc,hl,hf⟩:=DataW.trod_struct ht h;refine ⟨hc,n,fun i f t' o k hi e1 e2 e3=> ?_⟩;subst e1 e2 e3;have hlt:i<xs.length:=by
  rw [hl];exact (Array.getElem?_eq_some_iff.1 hi).1
 exact ⟨xs[i],by rw [hf i f hi,List.getElem?_eq_getElem hlt]⟩
theorem lN {fuel:Nat} {c:Value} {y:DataW H×List MemPlace} (h:DataW.trod enc Tryz.prog W 0 (fun _=>true) true fuel 3 [c]=some y):∃n,c=.int .i64 n∧I64 n:=by
 obtain ⟨n,hc,_,hw⟩:=DataW.trod_int Tryz.underlying3 h;simp only [List.cons.injEq,and_true] at hc;exact ⟨n,hc,bounds_i64 hw⟩
theorem Gh {fuel:Nat} {c:Value} {y:DataW H×List MemPlace} (h:DataW.trod enc Tryz.prog W 0 (fun _=>true) true fuel 4 [c]=some y):∃n,c=.bool n:=by
 obtain ⟨n,hc,_⟩:=DataW.trod_bool Tryz.underlying4 h;simp only [List.cons.injEq,and_true] at hc;exact ⟨n,hc⟩
theorem P8 {fuel:Nat} {c:Value} {y:DataW H×List MemPlace} (h:DataW.trod enc Tryz.prog W 0 (fun _=>true) true fuel 9 [c]=some y):∃l:List UInt8,c=.string (ba l):=by
 obtain ⟨s,hc,_,hw⟩:=DataW.trod_string Tryz.underlying9 h;simp only [List.cons.injEq,and_true] at hc;exact ⟨s.data.toList,by rw [hc,qN]⟩
theorem aBd {w:World} {a:Addr} {v:Value} (h:w.cell? a=some v):a.spot=none:=by
 unfold World.cell? at h;split at h
 ·split at h
  ·cases h
  ·simpa using ‹¬a.spot.isSome=true›
 ·cases h
theorem aAi {w:World} {a:Addr} {v:Value} (h:w.cell? a=some v):a.block<w.heap.size:=by
 unfold World.cell? at h;split at h
 ·rename_i e
  exact (Array.getElem?_eq_some_iff.1 e).1
 ·cases h
theorem I5 {T ET:TypeId} {n:Nat} {α:Type} [Inhabited α] (c:α→List Value) (G:α→Prop) (hT:Tryz.prog.underlying T=some (.slice ET)) (hE:Tryz.prog.cellsOf ET=n) (hn:0<n) (hc:∀x,(c x).length=n)
  (hel:∀ {fuel:Nat} {cs:List Value} {y:DataW H×List MemPlace},DataW.trod enc Tryz.prog W 0 (fun _=>true) true fuel ET cs=some y→∃x,cs=c x∧G x) {fuel:Nat} {v:Value} {y:DataW H×List MemPlace}
  (h:DataW.trod enc Tryz.prog W 0 (fun _=>true) true fuel T [v]=some y):
  ∃(L:List α) (base:Option Addr) (cap:Nat),v=.slice base L.length cap∧(∀x∈L,G x)∧(L≠ []→∃b off,base=some ⟨b,off,none⟩∧b<W.heap.size∧∀(j:Nat) x,L[j]? =some x→W.rangeAt b (off+j*n) (c x)):=by
 rcases open_slice hT h with ⟨hcs,_⟩|⟨a,len,cap,m,k,D,Pl,hcs,_,hl,hm,hmm,_,hi⟩
 ·simp only [List.cons.injEq,and_true] at hcs;exact ⟨[],none,0,hcs,(fun _ h=>by cases h),fun h=>absurd rfl h⟩
 ·simp only [List.cons.injEq,and_true] at hcs;simp only [if_true] at hmm;subst hmm;rw [hE] at hi;obtain ⟨f,hF⟩:=choose_lt (α:=α) (n:=len) (p:=fun i x=>G x∧∀j u,(c x)[j]? =some u→W.cell? ((a.add (i*n)).add j)=some u) (fun i hlt=>by
   obtain ⟨cs',h1,h2⟩:=hi i (by omega);obtain ⟨x,rfl,hg⟩:=hel h2;obtain ⟨_,hlen,hcell⟩:=World.cells?_some h1;refine ⟨x,hg,fun j u hj=> ?_⟩;have hjn:j<n:=by
    rcases Nat.lt_or_ge j n with h|h
    ·exact h
    ·rw [List.getElem?_eq_none (by rw [hc];exact h)] at hj;cases hj
   rw [hcell j hjn,hj])
  refine ⟨(List.range len).map f,some a,m,by simpa using hcs,fun x hx=> ?_,fun hne=> ?_⟩
  ·obtain ⟨i,hi',rfl⟩:=List.mem_map.1 hx;exact (hF i (List.mem_range.1 hi')).1
  ·have h0:0<len:=by
    rcases Nat.eq_zero_or_pos len with h0|h0
    ·subst h0;simp at hne
    ·exact h0
   have hlen0:0<(c (f 0)).length:=(by rw [hc];exact hn)
   have c0:=(hF 0 h0).2 0 _ (List.getElem?_eq_getElem hlen0);have ha:=aBd c0;have ha:a.spot=none:=(by simpa [Addr.add] using ha)
   have hblk:=aAi c0;obtain ⟨b,off,s⟩:=a;simp only at ha;subst ha;refine ⟨b,off,rfl,by simpa [Addr.add] using hblk,fun j x hj=> ?_⟩;have hj2:j<len:=by
    rcases Nat.lt_or_ge j len with h|h
    ·exact h
    ·rw [List.getElem?_eq_none (by simp;omega)] at hj;cases hj
   have hx:x=f j:=by
    rw [List.getElem?_map,List.getElem?_range hj2] at hj;simpa using hj.symm
   subst hx;intro i u hu;have h2:((Addr.mk b off none).add (j*n)).add i=⟨b,off+j*n+i,none⟩:=by
    unfold Addr.add;split<;>split<;>simp_all
   have:=(hF j hj2).2 i u hu;rw [h2] at this;exact this
theorem Rh {fuel:Nat} {cs:List Value} {y:DataW H×List MemPlace} (h:DataW.trod enc Tryz.prog W 0 (fun _=>true) true fuel 46 cs=some y):∃x:Stp,cs= [.int .i64 x.1,.int .i64 x.2.1,.int .i64 x.2.2]∧iF x:=by
 obtain ⟨hl,n,hf⟩:=fields_of Tryz.underlying46 h;rw [Tryz.cells46] at hl
 match cs,hl with
 | [c0,c1,c2],_=>
  obtain ⟨_,g0⟩:=hf 0 _ 3 0 1 rfl rfl rfl Tryz.cells3;obtain ⟨_,g1⟩:=hf 1 _ 3 1 1 rfl rfl rfl Tryz.cells3;obtain ⟨_,g2⟩:=hf 2 _ 3 2 1 rfl rfl rfl Tryz.cells3;obtain ⟨n0,rfl,i0⟩:=lN g0;obtain ⟨n1,rfl,i1⟩:=lN g1;obtain ⟨n2,rfl,i2⟩:=lN g2;exact ⟨(n0,n1,n2),rfl,i0,i1,i2⟩
theorem V3 {fuel:Nat} {cs:List Value} {y:DataW H×List MemPlace} (h:DataW.trod enc Tryz.prog W 0 (fun _=>true) true fuel 57 cs=some y):∃x:Sz,cs=gJ x∧iF x.1:=by
 obtain ⟨hl,n,hf⟩:=fields_of Tryz.underlying57 h;rw [Tryz.Pm] at hl
 match cs,hl with
 | [c0,c1,c2,c3],_=>
  obtain ⟨_,g0⟩:=hf 0 _ 46 0 3 rfl rfl rfl Tryz.cells46;obtain ⟨_,g3⟩:=hf 1 _ 3 3 1 rfl rfl rfl Tryz.cells3;obtain ⟨x,e,hx⟩:=Rh g0;obtain ⟨n3,rfl,_⟩:=lN g3;simp only [List.drop_zero,List.take_succ_cons,List.take_zero,List.cons.injEq,and_true] at e;obtain ⟨rfl,rfl,rfl⟩:=e;exact ⟨(x,n3),rfl,hx⟩
theorem Jt {fuel:Nat} {cs:List Value} {y:DataW H×List MemPlace} (h:DataW.trod enc Tryz.prog W 0 (fun _=>true) true fuel 59 cs=some y):∃x:Pt,cs=dB x:=by
 obtain ⟨hl,n,hf⟩:=fields_of Tryz.underlying59 h;rw [Tryz.cells59] at hl
 match cs,hl with
 | [c0,c1,c2,c3,c4],_=>
  obtain ⟨_,g0⟩:=hf 0 _ 46 0 3 rfl rfl rfl Tryz.cells46;obtain ⟨_,g3⟩:=hf 1 _ 3 3 1 rfl rfl rfl Tryz.cells3;obtain ⟨_,g4⟩:=hf 2 _ 3 4 1 rfl rfl rfl Tryz.cells3;obtain ⟨x,e,hx⟩:=Rh g0;obtain ⟨n3,rfl,_⟩:=lN g3;obtain ⟨n4,rfl,_⟩:=lN g4;simp only [List.drop_zero,List.take_succ_cons,List.take_zero,List.cons.injEq,and_true] at e;obtain ⟨rfl,rfl,rfl⟩:=e;exact ⟨⟨x.1,x.2.1,x.2.2,n3,n4⟩,rfl⟩
theorem Zf {fuel:Nat} {cs:List Value} {y:DataW H×List MemPlace} (h:DataW.trod enc Tryz.prog W 0 (fun _=>true) true fuel 61 cs=some y):∃x:Dl,cs=dK x:=by
 obtain ⟨hl,n,hf⟩:=fields_of Tryz.underlying61 h;rw [Tryz.Pj] at hl
 match cs,hl with
 | [c0,c1,c2,c3,c4,c5,c6,c7,c8,c9,c10,c11,c12,c13],_=>
  obtain ⟨_,g0⟩:=hf 0 _ 3 0 1 rfl rfl rfl Tryz.cells3;obtain ⟨_,g1⟩:=hf 1 _ 3 1 1 rfl rfl rfl Tryz.cells3;obtain ⟨_,g2⟩:=hf 2 _ 3 2 1 rfl rfl rfl Tryz.cells3;obtain ⟨_,g3⟩:=hf 3 _ 3 3 1 rfl rfl rfl Tryz.cells3;obtain ⟨_,g4⟩:=hf 4 _ 59 4 5 rfl rfl rfl Tryz.cells59;obtain ⟨_,g9⟩:=hf 5 _ 59 9 5 rfl rfl rfl Tryz.cells59;obtain ⟨n0,rfl,_⟩:=lN g0;obtain ⟨n1,rfl,_⟩:=lN g1;obtain ⟨n2,rfl,_⟩:=lN g2;obtain ⟨n3,rfl,_⟩:=lN g3;obtain ⟨t,e⟩:=Jt g4;obtain ⟨o,e'⟩:=Jt g9;simp only [dB,List.drop_succ_cons,List.drop_zero,List.take_succ_cons,List.take_zero,List.cons.injEq,and_true] at e e';obtain ⟨rfl,rfl,rfl,rfl,rfl⟩:=e;obtain ⟨rfl,rfl,rfl,rfl,rfl⟩:=e';exact ⟨⟨n0,n1,n2,n3,t,o⟩,rfl⟩
theorem aA7 {fuel:Nat} {v:Value} {y:DataW H×List MemPlace} (h:DataW.trod enc Tryz.prog W 0 (fun _=>true) true fuel 39 [v]=some y):∃st:List Sz,eP gJ 4 W (fun _=>0) v st∧∀s∈st,iF s.1:=by
 obtain ⟨L,base,cap,e,hg,hr⟩:=I5 (enc:=enc) (W:=W) gJ (fun x=>iF x.1) Tryz.underlying39 Tryz.Pm (by decide) Tz V3 h;exact ⟨L,⟨base,cap,e,fun hL=>by
  obtain ⟨b,off,e1,hb,hx⟩:=hr hL;exact ⟨b,off,e1,rfl,hb,hx⟩⟩,hg⟩
theorem Xc {fuel:Nat} {v:Value} {y:DataW H×List MemPlace} (h:DataW.trod enc Tryz.prog W 0 (fun _=>true) true fuel 34 [v]=some y):∃dl:List Dl,eP dK 14 W (fun _=>0) v dl:=by
 obtain ⟨L,base,cap,e,_,hr⟩:=I5 (enc:=enc) (W:=W) dK (fun _=>True) Tryz.underlying34 Tryz.Pj (by decide) (fun _=>rfl) (fun h=>by
  obtain ⟨x,hx⟩:=Zf h;exact ⟨x,hx,trivial⟩) h
 exact ⟨L,⟨base,cap,e,fun hL=>by
  obtain ⟨b,off,e1,hb,hx⟩:=hr hL;exact ⟨b,off,e1,rfl,hb,hx⟩⟩⟩
abbrev tH:=Rq×Value×Value
def tH.cells (y:tH):List Value:=(y.1.1.cells y.2.1 y.2.2).toList
def tH.good (W:World) (y:tH):Prop:=eP gJ 4 W (fun _=>0) y.2.1 y.1.2.1∧eP dK 14 W (fun _=>0) y.2.2 y.1.2.2∧∀s∈y.1.2.1,iF s.1
theorem aBI {fuel:Nat} {cs:List Value} {y:DataW H×List MemPlace} (h:DataW.trod enc Tryz.prog W 0 (fun _=>true) true fuel 41 cs=some y):∃x:tH,cs=x.cells∧x.good W:=by
 obtain ⟨hl,n,hf⟩:=fields_of Tryz.underlying41 h;rw [Tryz.cells41] at hl
 match cs,hl with
 | [c0,c1,c2,c3,c4,c5,c6,c7,c8,c9,c10,c11,c12,c13],_=>
  obtain ⟨_,gs⟩:=hf 0 _ 38 0 3 rfl rfl rfl Tryz.cells38;obtain ⟨_,g3⟩:=hf 1 _ 3 3 1 rfl rfl rfl Tryz.cells3;obtain ⟨_,g4⟩:=hf 2 _ 9 4 1 rfl rfl rfl Tryz.cells9;obtain ⟨_,g5⟩:=hf 3 _ 9 5 1 rfl rfl rfl Tryz.cells9;obtain ⟨_,g6⟩:=hf 4 _ 4 6 1 rfl rfl rfl Tryz.cells4;obtain ⟨_,g7⟩:=hf 5 _ 4 7 1 rfl rfl rfl Tryz.cells4;obtain ⟨_,g8⟩:=hf 6 _ 4 8 1 rfl rfl rfl Tryz.cells4;obtain ⟨_,g9⟩:=hf 7 _ 3 9 1 rfl rfl rfl Tryz.cells3;obtain ⟨_,g10⟩:=hf 8 _ 3 10 1 rfl rfl rfl Tryz.cells3;obtain ⟨_,g11⟩:=hf 9 _ 3 11 1 rfl rfl rfl Tryz.cells3;obtain ⟨_,g12⟩:=hf 10 _ 39 12 1 rfl rfl rfl Tryz.cells39;obtain ⟨_,g13⟩:=hf 11 _ 34 13 1 rfl rfl rfl Tryz.cells34;obtain ⟨_,m,hm⟩:=fields_of Tryz.underlying38 gs;obtain ⟨_,k0⟩:=hm 0 _ 3 0 1 rfl rfl rfl Tryz.cells3;obtain ⟨_,k1⟩:=hm 1 _ 3 1 1 rfl rfl rfl Tryz.cells3;obtain ⟨_,k2⟩:=hm 2 _ 3 2 1 rfl rfl rfl Tryz.cells3;obtain ⟨n0,rfl,_⟩:=lN k0;obtain ⟨n1,rfl,_⟩:=lN k1;obtain ⟨n2,rfl,_⟩:=lN k2;obtain ⟨n3,rfl,_⟩:=lN g3;obtain ⟨n4,rfl⟩:=P8 g4;obtain ⟨n5,rfl⟩:=P8 g5;obtain ⟨n6,rfl⟩:=Gh g6;obtain ⟨n7,rfl⟩:=Gh g7;obtain ⟨n8,rfl⟩:=Gh g8;obtain ⟨n9,rfl,_⟩:=lN g9;obtain ⟨n10,rfl,_⟩:=lN g10;obtain ⟨n11,rfl,_⟩:=lN g11;obtain ⟨st,hst,hgood⟩:=aA7 g12;obtain ⟨dl,hdl⟩:=Xc g13;exact ⟨((⟨n0,n1,n2,n3,n4,n5,n6,n7,n8,n9,n10,n11⟩,st,dl),_,_),rfl,hst,hdl,hgood⟩
theorem Uw {b0:Nat} {v:Value} {d:DataW H} {p:List MemPlace} (hv:Value.okWide Tryz.prog W .any b0 44 v) (h:DataW.Trod enc Tryz.prog W 0 (fun _=>true) true 44 v d p):∃L:List Rq,nZ W (fun _=>0) v L∧∀y∈L,∀s∈y.2.1,iF s.1:=by
 obtain ⟨a',len',cap',rfl⟩:=okWide_slice Tryz.underlying44 hv;obtain ⟨fuel,hf⟩:=h
 haveI:Inhabited tH:=⟨((⟨0,0,0,0, [], [],false,false,false,0,0,0⟩, [], []),.slice none 0 0,.slice none 0 0)⟩
 obtain ⟨L,base,cap,e,hg,hr⟩:=I5 (enc:=enc) (W:=W) tH.cells (tH.good W) Tryz.underlying44 Tryz.cells41 (by decide) (fun _=>rfl) aBI (v:=.slice a' len' cap') hf;refine ⟨L.map (·.1),⟨base,cap,by rw [List.length_map];exact e,fun hL=> ?_⟩,fun y hy s hs=> ?_⟩
 ·have hL':L≠ []:=fun h=>hL (by rw [h];rfl);obtain ⟨b,off,e1,hb,hx⟩:=hr hL';refine ⟨b,off,e1,rfl,hb,fun j y hj=> ?_⟩;rw [List.getElem?_map] at hj;cases hz:L[j]? with
  | none=>rw [hz] at hj;cases hj
  | some z=>
   rw [hz] at hj;cases hj;obtain ⟨g1,g2,_⟩:=hg z (List.mem_of_getElem? hz);exact ⟨z.2.1,z.2.2,hx j z hz,g1,g2⟩
 ·obtain ⟨z,hz,rfl⟩:=List.mem_map.1 hy;exact (hg z hz).2.2 s hs
end
