/- Part of a proof. -/
import Derived.Test.YtedcppikakinoaaGreatU19
import Derived.Test.YtedcppikakinoaaGreatU20
set_option linter.unusedSimpArgs false
set_option linter.unusedVariables false
set_option maxRecDepth 100000
set_option maxHeartbeats 25600000
namespace Go.Proofs.YtedcppikakinoaaGreat
open Go.Proofs.Tryz Go.RowKit
structure fB (S:St) (q:Nat):Prop where
 ok:aH S
 pts:jQ S.F
 dir:∀k x,S.T k=some x->x.dir=false->∃m,S.F k=some m
 tok:∀x∈S.K,∃i m,x.i=((i:Nat):Int)/\i<=128/\S.F i=some m
 small:∀x∈S.K,small x
 few:S.K.length<=q
 boots:0<=S.boots/\S.boots<=q
 swaps:0<=S.swaps/\S.swaps<=q
 clock:0<=S.clock/\S.clock<=q
 win:∀i y,S.W i=some y->∃rep:aX,rep.ok/\0<=rep.e/\rep.e<=18/\y.2.2=rep.bytes
theorem fB.more {S q o} (h:fB S q) (r:q<=o):fB S o:=
 ⟨h.ok,h.pts,h.dir,h.tok,h.small,AV h.few r,⟨h.boots.1,by have:=h.boots.2;omega⟩,⟨h.swaps.1,by have:=h.swaps.2;omega⟩,⟨h.clock.1,by have:=h.clock.2;omega⟩,h.win⟩
theorem fB.fits {S q} (h:fB S q) (r:q<=1000000):Ha S:=
 ⟨h.tok,λi m o=>(Tt (h.ok.file i m o).2.2 (h.pts i m o)).1,h.dir,h.small,AV h.few r⟩
structure Fine (q:Nat) (x:Int×aX×St):Prop where
 code:0<=x.1/\x.1<=18
 rep:x.1=0->x.2.1.e=0/\∀s:Int,0<=s/\s<16777216->aX.ok {x.2.1 with swaps:=s}
 inv:fB x.2.2 q
theorem Fine.no {S q} (h:fB S q) {c} (o:c≠0) (r:0<=c/\c<=18) (u):Fine q (c,u,S):=⟨r,λe=>absurd e o,h⟩
theorem Fine.plain {S q} (h:fB S q) {i z k d} (r:0<=i/\i<65536) (A:0<=z/\z<65536) (o:0<=k/\k<256):Fine q (0,jD 0 i z k 0 d,S):=
 ⟨by dsimp only;omega,λ_=>⟨rfl,λ_ u=>Nj (e:=0) X r A o u⟩,h⟩
theorem Rh (T:Tree):∀(o:List (List UInt8)) (k:Nat),0<=(bP T k o).1/\(bP T k o).1<=18
 | [],k=>by simp [bP]
 | s::r,k=>by
  unfold bP;split
  ·simp
  ·split
   ·split
    ·exact Rh T r _
    ·simp
   ·simp
theorem Uy (T o):0<=(seen T o).1/\(seen T o).1<=18:=by
 unfold seen;split;{simp};{exact Rh T o 1}
theorem Ad (T l):0<=(lookOf T l).1/\(lookOf T l).1<=18:=by
 unfold lookOf;split;{simp};{exact Uy T _}
theorem Un (T l):0<=(placeOf T l).1/\(placeOf T l).1<=18:=by
 unfold placeOf;split;{simp};{simp};{unfold stands;split;{split<;>simp};{exact Uy T _}}
theorem aC3 (T l):0<=(bV T l).1/\(bV T l).1<=18:=by
 unfold bV;split;{simp};{split;{exact Un T l};{split;{simp};{split<;>simp}}}
theorem aEn (T l b):0<=(bM T l b).1/\(bM T l b).1<=18:=by
 unfold bM;split;{exact Ad T l};{split;{simp};{split;{simp};{split;{simp};{split<;>simp}}}}
theorem aCO (T p q):0<=gJ T p q/\gJ T p q<=18:=by
 unfold gJ;split;{exact Ad T p};{split;{simp};{split;{simp};{split;{simp};{split;{simp};{split;{exact Un T q};{split<;>simp}}}}}}
theorem aDK (T l):0<=(listOf T l).1/\(listOf T l).1<=18:=by
 unfold listOf;split;{exact Ad T l};{split<;>simp}
theorem aFx (L c i b):0<=(eY L c i b).1/\(eY L c i b).1<=18:=by
 unfold eY;split;{simp};{split<;>simp}
theorem Xc (S sw nx o c l):0<=(dY S sw nx o c l).1/\(dY S sw nx o c l).1<=18:=by
 unfold dY;split;{simp};{split;{simp};{split<;>simp}}
theorem Lt {T l} (h:(bV T l).1=0):(bV T l).2=free T:=by
 unfold bV at h ⊢;split at h;{cases h};{split at h;{rename_i o;exact absurd h o};{split at h;{cases h};{split at h;{cases h};{rename_i o r u A;rw [AA o,AA r,AA u,AA A]}}}}
theorem En (F) {i j} (x) (h:j≠i):aS F i x j=F j:=by simp [aS,h]
theorem Ba {F i j m y} (h:F j=some y):∃z,aS F i (some m) j=some z:=by
 unfold aS;split;{exact ⟨_,rfl⟩};{exact ⟨_,h⟩}
theorem aAb {S q} (h:fB S q) (H):Fine q (lD S H):=by
 unfold lD;split;{rename_i o;have aa:=Dw h.ok.tree o;have J:=Lt o;have ab:=Gv h.ok.tree o;refine Fine.plain ⟨Jl h.ok o,?_,?_,?_,h.small,h.few,h.boots,h.swaps,h.clock,h.win⟩ X X X;{unfold lS;dsimp only;split;{exact h.pts};{exact h.pts.put _ (by simp [nJ])}};{intro k x r hd;unfold lS gX grown at r;unfold lS;dsimp only at r ⊢;rw [AL o] at r;by_cases e:k=free S.T;{subst e;rw [upd_same] at r;cases r;dsimp only at hd;rw [hd,AA D,J];exact ⟨_,Ai _ _ _⟩};{rw [bY _ _ e] at r;obtain ⟨m,E⟩:=h.dir k x r hd;split;{exact ⟨m,E⟩};{exact Ba E}}};{intro x Q;obtain ⟨i,m,u,A,B⟩:=h.tok x Q;unfold lS;dsimp only;split;{exact ⟨i,m,u,A,B⟩};{obtain ⟨z,V⟩:=Ba (i:=(bV S.T H.path).2) (m:=nJ) B;exact ⟨i,z,u,A,V⟩}}};{rename_i o;exact Fine.no h o (aC3 _ _) _}
theorem aBF {S q} (h:fB S q) (o):Fine q (jA S o):=by
 unfold jA;split;{rename_i Q;exact Fine.no h Q (Ad _ _) _};{rename_i Q;split;{exact Fine.no h G X _};{rename_i A;split;{rename_i r;exact Fine.no h r (aEn _ _ _) _};{rename_i r;have Q:=BI Q;have A:=BI A;have r:=BI r;have af:=(Nq h.ok.tree r).1;(have H:(bM S.T o.path o.dir).2=(lookOf S.T o.path).2.1/\(o.dir=true->(lookOf S.T o.path).2.2=true):=by{unfold bM at r ⊢;rw [AA (by simp [Q])] at r ⊢;split at r;{cases r};{rename_i a1;rw [AA a1];split at r;{cases r};{rename_i a2;rw [AA a2];split at r;{cases r};{rename_i a3;rw [AA a3];split at r;{cases r};{rename_i a4;rw [AA a4];refine ⟨rfl,λhd=> ?_⟩;(cases B:(lookOf S.T o.path).2.2 with|true=>rfl|false=>exact absurd ⟨hd,B⟩ a2)}}}}});obtain ⟨H,hd⟩:=H;(have ae:(lJ S o).T=dI S.T (lookOf S.T o.path).2.1:=by{unfold lJ;split<;>(dsimp only;unfold fJ;rw [AL r,H])});refine Fine.plain ?_ X X X;(have aa:dK (dI S.T (lookOf S.T o.path).2.1):=by{have:=Bj h.ok.tree o.path o.dir;unfold fJ at this;rw [AL r,H] at this;exact this});(cases B:(lookOf S.T o.path).2.2 with|true=>(have e:lJ S o={S with T:=dI S.T (lookOf S.T o.path).2.1}:=by{unfold lJ fJ;rw [AL B,AL r,H]});rw [e];refine ⟨⟨aa,h.ok.file⟩,h.pts,λk x u J=> ?_,h.tok,h.small,h.few,h.boots,h.swaps,h.clock,h.win⟩;dsimp only at u;unfold dI at u;by_cases E:k=(lookOf S.T o.path).2.1;{rw [E,upd_same] at u;cases u};{rw [bY _ _ E] at u;exact h.dir k x u J}|false=>(have ad:(S.K.any λx=>x.i==(lookOf S.T o.path).2.1)=false:=by{rcases A with A|A|A;{rw [B] at A;cases A};{rw [hd A] at B;cases B};{exact A}});(have e:lJ S o={S with T:=dI S.T (lookOf S.T o.path).2.1,F:=aS S.F (lookOf S.T o.path).2.1 none,U:=iC (aS S.F (lookOf S.T o.path).2.1 none) S.U}:=by{unfold lJ fJ;rw [AA (by simp [B]),AL r,H]});rw [e];refine ⟨⟨aa,λi m V=>h.ok.file i m (Bc V)⟩,h.pts.less _,λk x u J=> ?_,λx J=> ?_,h.small,h.few,h.boots,h.swaps,h.clock,h.win⟩;{dsimp only at u;unfold dI at u;by_cases E:k=(lookOf S.T o.path).2.1;{rw [E,upd_same] at u;cases u};{rw [bY _ _ E] at u;obtain ⟨m,V⟩:=h.dir k x u J;exact ⟨m,by dsimp only;rw [En _ _ E];exact V⟩}};{obtain ⟨i,m,a1,a2,a3⟩:=h.tok x J;refine ⟨i,m,a1,a2,?_⟩;dsimp only;rw [En _ _ (λab=> ?_)];{exact a3};{have:=List.any_eq_false.1 ad x J;rw [a1,ab] at this;simp at this}})}}}
theorem Zu {S q} (h:fB S q) (u):Fine q (oL S u):=by
 unfold oL;split;{rename_i r;refine Fine.plain (S:={S with T:=jB S.T u.path u.tq}) ⟨⟨Jp h.ok.tree _ _,h.ok.file⟩,h.pts,λk x o B=> ?_,h.tok,h.small,h.few,h.boots,h.swaps,h.clock,h.win⟩ X X X;dsimp only at o ⊢;unfold jB at o;rw [AL r] at o;unfold moved at o;by_cases A:k=(lookOf S.T u.path).2.1;{rw [A,upd_same] at o;(cases o;dsimp only at B;have E:(lookOf S.T u.path).1=0:=by{unfold gJ at r;split at r;{rename_i a;exact absurd r a};{rename_i a;exact BI a}});obtain ⟨y,H,hd⟩:=look_ok h.ok.tree E;rw [A];exact h.dir _ y H (by rw [hd];exact B)};{rw [bY _ _ A] at o;exact h.dir k x o B}};{rename_i r;exact Fine.no h r (aCO _ _ _) _}
theorem aC6 {F} (h:∀i m,F i=some m->1<=i/\i<=128/\eX m) (i):0<=tV F i/\tV F i<65536:=by
 unfold tV;(cases o:F i with|none=>simp|some m=>have:=(h i m o).2.2.1;dsimp only;omega)
theorem aEp {S q} (h:fB S q) (r):Fine q (rG S r):=by
 unfold rG;split;{rename_i o;have A:=Lp h.ok.tree o;exact ⟨by dsimp only;omega,λ_=>⟨rfl,λs u=>Nj (e:=0) (i:=(lookOf S.T r.path).2.1) (h:=0) X X (aC6 h.ok.file _) X u⟩,h⟩};{rename_i o;exact Fine.no h o (Ad _ _) _}
theorem aCu {S q} (h:fB S q) (u):Fine q (rH S u):=by
 unfold rH;split;{exact ⟨by dsimp only;omega,λ_=>⟨rfl,λs r=>aBQ h.ok.tree _ r⟩,h⟩};{rename_i o;exact Fine.no h o (aDK _ _) _}
theorem aAI {S q} (h:fB S q) (E):Fine q (mapD S E):=by
 unfold mapD;split;{exact Fine.no h G X _};{rename_i x B;obtain ⟨i,m,r,u,o⟩:=h.tok x (DF B);rw [r,FH,o];exact ⟨by dsimp only;omega,λ_=>⟨rfl,λs A=>Ve u (h.ok.file i m o).2.2 (h.pts i m o) X A⟩,h⟩}
theorem Zz {S q} (h:fB S q) (o) (J:0<=o.c/\o.c<4):Fine (q+1) (jF S o):=by
 have A:=h.more (CE q);unfold jF;split;{rename_i B;exact Fine.no A B (Ad _ _) _};{rename_i B;split;{exact Fine.no A G X _};{rename_i ad;split;{rename_i u;exact Fine.no A u (aFx _ _ _ _) _};{rename_i u;have B:=BI B;have u:=BI u;obtain ⟨y,V,hd⟩:=look_ok h.ok.tree B;have Q:=h.ok.tree.lt V;obtain ⟨m,E⟩:=h.dir _ y V (by rw [hd];simpa using ad);rw [E,Option.getD_some];(have ae:fU S.K o.c<4/\(eY S.K o.c (lookOf S.T o.path).2.1 o.wr).2.1=fU S.K o.c/\(∀x∈(eY S.K o.c (lookOf S.T o.path).2.1 o.wr).2.2,x=⟨o.c,fU S.K o.c,(lookOf S.T o.path).2.1,o.wr⟩\/x∈S.K)/\(eY S.K o.c (lookOf S.T o.path).2.1 o.wr).2.2.length=S.K.length+1:=by{unfold eY at u ⊢;split at u;{cases u};{rename_i a1;rw [AA a1];split at u;{cases u};{rename_i a2;rw [AA a2];refine ⟨by omega,rfl,λx r=> ?_,?_⟩;{dsimp only at r;rcases BM.1 r with r|r;{exact .inr (List.takeWhile_subset _ r)};{rcases CB.1 r with r|r;{exact .inl r};{exact .inr (List.dropWhile_subset _ r)}}};{dsimp only;rw [AB,BX];have:=BD List.length (List.takeWhile_append_dropWhile (p:=λx=>decide (0<kG ⟨o.c,fU S.K o.c,(lookOf S.T o.path).2.1,o.wr⟩ x)) (l:=S.K));rw [AB] at this;omega}}}});obtain ⟨ag,aa,H,ab⟩:=ae;refine ⟨by dsimp only;omega,λ_=>⟨rfl,λs af=>Ve Q.2 (h.ok.file _ m E).2.2 (h.pts _ m E) (by rw [aa];omega) af⟩,⟨h.ok.tree,h.ok.file⟩,h.pts,h.dir,λx r=> ?_,λx r=> ?_,?_,A.boots,A.swaps,A.clock,h.win⟩;{rcases H x r with rfl|r;{exact ⟨_,m,rfl,Q.2,E⟩};{exact h.tok x r}};{rcases H x r with rfl|r;{exact ⟨J.1,J.2,by dsimp only;omega,by dsimp only;omega⟩};{exact h.small x r}};{dsimp only;rw [ab];have:=h.few;omega}}}}
theorem aGU {S q} (h:fB S q) (B ah E):Fine q (jG S B ah E):=by
 unfold jG;split;{exact Fine.no h G X _}
 ·rename_i x ae;split;{exact Fine.no h G X _}
  ·split;{rename_i V;exact Fine.no h V (Xc _ _ _ _ _ _) _}
   ·split;{exact Fine.no h G X _}
    ·rename_i A;have A:=BI A;have af:=DF ae;obtain ⟨i,m,aa,ab,r⟩:=h.tok x af;have J:=(h.ok.file i m r)
     obtain ⟨H,Q⟩:=Ws A J.2.2 (h.pts i m r);rw [aa,FH,r,Option.getD_some];have u:∀y∈kT B.cl S.K x,y∈S.K:=λy o=>by
      unfold kT at o;split at o;{exact (FC.1 o).1};{exact o}
     (have ad:(kT B.cl S.K x).length<=S.K.length:=by{unfold kT;split;{exact IK _ _};{exact AU _}});have aj:=H.1;refine Fine.plain ?_ X X X;unfold nM;rw [r,Option.getD_some];refine ⟨⟨h.ok.tree,(h.ok.uU ⟨J.1,ab⟩ H).file⟩,h.pts.put i Q,λk y u hd=> ?_,λy o=> ?_,λy o=>h.small y (u y o),AV ad h.few,h.boots,h.swaps,h.clock,h.win⟩;{obtain ⟨z,ag⟩:=h.dir k y u hd;exact Ba ag};{obtain ⟨j,z,a1,a2,a3⟩:=h.tok y (u y o);obtain ⟨ai,hu⟩:=Ba (i:=i) (m:=E.foldl bT m) a3;exact ⟨j,ai,a1,a2,hu⟩}
theorem aEG {S q} (h:fB S q) (o):Fine (q+1) (kH S o):=by
 unfold kH;split;{have r:=h.boots;have u:=h.swaps;have A:=h.clock;exact Fine.plain (S:=uX S) ⟨⟨h.ok.tree,h.ok.file⟩,h.pts,h.dir,h.tok,h.small,Nat.le_succ_of_le h.few,by unfold uX;dsimp only;omega,by unfold uX;dsimp only;omega,by unfold uX;dsimp only;omega,h.win⟩ X X X};{exact Fine.no (h.more (CE q)) G X _}
theorem aAh {S q} (h:fB S q) (o):Fine (q+1) (kP S o):=by
 unfold kP;split;{have r:=h.boots;have u:=h.swaps;have A:=h.clock;exact Fine.plain (S:=tJ S) ⟨⟨h.ok.tree,h.ok.file⟩,h.pts,h.dir,h.tok,h.small,Nat.le_succ_of_le h.few,by unfold tJ;dsimp only;omega,by unfold tJ;dsimp only;omega,by unfold tJ;dsimp only;omega,h.win⟩ X X X};{exact Fine.no (h.more (CE q)) G X _}
theorem aEh {F d} (hd:dP d) (u:∀i m,F i=some m->1<=i/\i<=128/\eX m) (A:jQ F):
  (∀i m,dO F d i=some m->1<=i/\i<=128/\eX m)/\jQ (dO F d)/\∀i m,F i=some m->∃z,dO F d i=some z:=by
 unfold dO;(cases B:F d.i.toNat with|none=>exact ⟨u,A,λi m o=>⟨m,o⟩⟩|some m0=>{have r:=u _ m0 B;refine ⟨λi m o=> ?_,A.put _ (Uw (A _ m0 B) hd),λi m o=>Ba o⟩;rcases zG o with ⟨rfl,rfl⟩|o;{exact ⟨r.1,r.2.1,Gu r.2.2 hd⟩};{exact u i m o}})
theorem O1:∀(o:List Dl) (F:Nat->Option cZ),(∀d∈o,dP d)->(∀i m,F i=some m->1<=i/\i<=128/\eX m)->jQ F->
  (∀i m,o.foldl dO F i=some m->1<=i/\i<=128/\eX m)/\jQ (o.foldl dO F)/\∀i m,F i=some m->∃z,o.foldl dO F i=some z
 | [],F,_,hF,hp=>⟨hF,hp,λi m u=>⟨m,u⟩⟩
 | d::r,F,hd,hF,hp=>by
  obtain ⟨a1,a2,a3⟩:=aEh (hd d D) hF hp;obtain ⟨A,B,E⟩:=O1 r (dO F d) (λx H=>hd x (by simp [H])) a1 a2;refine ⟨A,B,λi m u=> ?_⟩;obtain ⟨z,J⟩:=a3 i m u;exact E i z J
theorem Pv {S q} (h:fB S q) (A B r):Fine (q+1) (jP S A B r):=by
 have o:=h.more (CE q);unfold jP;split;{exact Fine.no o G X _};{split;{rename_i Q;exact Fine.no o Q (Xc _ _ _ _ _ _) _};{split;{exact Fine.no o G X _};{rename_i u;have u:=BI u;obtain ⟨a1,a2,a3⟩:=O1 r S.F (λd hd=>(u d hd).1) h.ok.file h.pts;have ae:=h.clock;refine Fine.plain (S:=sS S B r A.nx) ⟨⟨h.ok.tree,a1⟩,a2,λk y V hd=> ?_,λy aa=> ?_,h.small,o.few,o.boots,o.swaps,?_,h.win⟩ X X X;{obtain ⟨z,ab⟩:=h.dir k y V hd;exact a3 k z ab};{obtain ⟨j,z,E,H,J⟩:=h.tok y aa;obtain ⟨ad,hu⟩:=a3 j z J;exact ⟨j,ad,E,H,hu⟩};{unfold sS iJ;dsimp only;omega}}}}
theorem apply_nil (d w):Calls prog 116 #[.pointer none,iV d] w λe w'=>(∃v b,e=.returned (.tuple #[v,.bool b]))/\Fr No w w':=by
 have o:=lH ((Fr.refl (S:=No) w).alloc (.cells (dE d).toArray 61));unfold dE at o;unfold iV;generalize r:(λ(e:Ending) (w':World)=>(∃v b,e=.returned (.tuple #[v,.bool b]))/\Fr No w w')=A;have u:Hid (∀e w',(∃v b,e=.returned (.tuple #[v,.bool b]))->Fr No w w'->A e w'):=λe w' B f=>by rw [<-r];exact ⟨B,f⟩
 clear r;go_enter func116,ntmps116;exact aC (u.o _ _ ⟨_,_,rfl⟩ o.o)
def Ho (K c:Nat):Prop:=∃i,i<=128/\fO K i c
theorem lN.nothing {w A K o n F} (h:lN w A K o n F) {i} (B:i<=128) (r:F i=none):
  ∀w',Fr No w w'->(Instr.lookup 128 (.map (some o)) (Z i) false).run prog w'=.ok (.pointer none) w':=λw' f=>by
 obtain ⟨fp,u,_⟩:=h.look i X;have:=u w' f;unfold xW at this;rw [r] at this;exact this
theorem aDc (B K n L S r gf fl u o w) (h:aV w B K L S n) (ok:aH S) (ge:jQ S.F) (ar:aF w B) (eb:aZ fD 4 w B gf u) (hd:aZ dE 14 w B fl o) (dz:∀x∈u,iZ x.1) (it:0<=S.clock/\S.clock<=1000000) (fw:u.length<=1000) (ft:o.length<=1000) (da:n<=900000):
  Calls prog 65 #[Y L.s,.agg (r.cells gf fl)] w (bH w B K L (n+u.length) (jP S r u o)):=by
 have bp:prog.follows .mixedOrders=true:=N
 obtain ⟨bs,cs,rfl⟩:=eb.slice;obtain ⟨an,ao,rfl⟩:=hd.slice;obtain ⟨cu,fz,ed,cl,al⟩:=begun h ok ar r _ _;have av:=lH cu;have du:=lH (eb.no ar cu);have fg:=lH (hd.no ar cu);have fe:Hid (∀w',Fr No (dJ w r (.slice bs u.length cs) (.slice an o.length ao)) w'->Calls prog 112 #[Y L.s,.agg (r.cells (.slice bs u.length cs) (.slice an o.length ao)),Z 4,S.boots] w' (wV w' u.length (dY S r.sw r.nx u 4 S.boots))):=
  lH (λw' f=>Ye B K n L S r _ _ u 4 S.boots w' (cl.no ok al f) ok (noS al f).fresh (du.o.no al f) dz X X)
 have eo:Hid (∀w',Fr No (dJ w r (.slice bs u.length cs) (.slice an o.length ao)) w'->Calls prog 115 #[Y L.s,.agg (r.cells (.slice bs u.length cs) (.slice an o.length ao)),Z 4] (w'.setCell (I L.s 2) (Z (S.clock+1))) (yK (w'.setCell (I L.s 2) (Z (S.clock+1))) B K L (n+u.length) (iJ {S with clock:=S.clock+1} u 4 r.nx))):=
  lH (λw' f=>by
   obtain ⟨gh,ij⟩:=(cl.no ok al f).set (S':={S with clock:=S.clock+1}) ok (noS al f).fresh 2 (Z (S.clock+1)) (by simp [mQ]) rfl rfl rfl rfl rfl;exact Uz B K n L {S with clock:=S.clock+1} r _ _ u 4 _ ij ⟨ok.tree,ok.file⟩ gh.fresh ((du.o.no al f).step gh X) dz X X X)
 have fd:=lH (Ri S r.sw r.nx u 4 S.boots);have bj:Hid (∀c,c≠0->jP S r u o=(c,bU,S)->∀e w',e=.panicked (kF c)->Fr No w w'->bH w B K L (n+u.length) (jP S r u o) e w'):=λc bn dw e w' aq f=>by
  rw [dw];exact bH.no (h.more (Nat.le_add_right _ _)) ok ar bn aq f
 have hb:Hid (∀S',jP S r u o=(0,jD 0 0 0 0 0 false,S')->aH S'->∀e w' df aj ee,e=.returned (lQ 0 0 0 0 0 false)->Fr No w w'->w.heap.size+1<w'.heap.size->Step (bD K) w' B df ee->aV df ee K L S' (n+u.length)->Fr (λj=>j=w.heap.size+1) df aj->bH w B K L (n+u.length) (jP S r u o) e aj):=λS' dw ih e w' df aj ee aq f ig s t g=>by
  rw [dw];exact bH.yes ar f s (λ_ e=>e) X ig g ih t aq (mY.plain _ _ _ _ _ _ _)
 have cb:jP S r u o=if ¬(r.c=4/\r.l=S.boots) then (17,bU,S)
   else if (dY S r.sw r.nx u 4 S.boots).1≠0 then ((dY S r.sw r.nx u 4 S.boots).1,bU,S)
   else if ¬(∀d∈o,oU (dY S r.sw r.nx u 4 S.boots).2 d) then (4,bU,S)
   else (0,jD 0 0 0 0 0 false,sS S u o r.nx):=rfl
 generalize jP S r u o=ak at*;generalize hz:bH w B K L _ ak=ip at*;clear hz;generalize hy:dY S r.sw r.nx u 4 S.boots=H at*;clear hy;(have dk:Hid (¬(r.c=4/\r.l=S.boots)->ak=(17,bU,S)):=λap=>by rw [cb,AL ap]);(have ep:Hid (r.c=4/\r.l=S.boots->H.1≠0->ak=(H.1,bU,S)):=λap ab=>by rw [cb,AA (λbg=>bg ap),AL ab]);(have eq:Hid (r.c=4/\r.l=S.boots->H.1=0->¬(∀d∈o,oU H.2 d)->ak=(4,bU,S)):=λap ab dv=>by rw [cb,AA (λbg=>bg ap),AA (by simp [ab]),AL dv]);(have er:Hid (r.c=4/\r.l=S.boots->H.1=0->(∀d∈o,oU H.2 d)->ak=(0,jD 0 0 0 0 0 false,sS S u o r.nx)):=λap ab dv=>by rw [cb,AA (λbg=>bg ap),AA (by simp [ab]),AA (λbg=>bg dv)]);clear cb;have ew:=lH cl;have bx:=lH al;have co:=lH ok;have gw:=lH fw;have ez:=lH ft;have gy:=lH da;have ha:=lH ge;have fc:Hid (B w.heap.size=0/\B (w.heap.size+1)=0):=lH ⟨ar _ (AU _),ar _ (CE _)⟩;(have iu:IntKind.i64.wrap (S.clock+1)=S.clock+1:=by rw [BG];omega);clear cl al cu h ok ar ge eb hd dz fw ft da du;unfold dJ aG.cells bU aX.cells at*;go_enter func65,ntmps65;go_upto_region 1 with fail
 generalize (w.alloc _).alloc (.cells (cE 0) 29)=w0 at*;have B1:=lH (lt_of_block ed);generalize iq:w.heap.size=ah at*;have ai:Fr No w0 w0.drew:=(Fr.refl _).drew;have ca:Hid (Zero w0 B ah (.cells (cR r (.slice bs u.length cs) (.slice an o.length ao)) 36 (0,0))):=lH ⟨fz,fc.o.1⟩;have hq:Hid (Zero w0 B (ah+1) (.cells (cE 0) 29 (0,0))):=lH ⟨ed,fc.o.2⟩;have bu:Hid (w0.drew.cell? (I L.s 0)=some (Z S.boots)):=ai.cell_of (ew.o.cell 0) id;have ci:Hid (w0.drew.cell? (I ah 0)=some (Z r.c)):=lH (aA (ca.o.no ai).1 _);have D1:Hid (w0.drew.cell? (I ah 1)=some (Z r.l)):=lH (aA (ca.o.no ai).1 _);have gq:=lH ai;clear fz ed ai;cases cw:(r.c==4) with
 | false=>
  have aa:Hid (ak=(17,bU,S)):=dk.o (λh=>by rw [h.1] at cw;simp at cw);have e0:=ci.o;have bb:=D1.o;have bc:=bu.o;refine bJ [14] ?_ bp;clear e0 bb bc;go_wp2_with fail;refine cr (iD _ _) ?_;rintro ch rfl;go_wp2_with fail;exact ⟨rfl,bj 17 G aa _ _ rfl (av.o.trans (Fr.refl (S:=No) w0).drew zq)⟩
 | true=>
  cases cx:(r.l==S.boots) with
  | false=>
   have aa:Hid (ak=(17,bU,S)):=dk.o (λh=>by rw [h.2] at cx;simp at cx);have e0:=ci.o;have bb:=D1.o;have bc:=bu.o;refine bJ [14] ?_ bp;clear e0 bb bc;go_wp2_with fail;refine cr (iD _ _) ?_;rintro ch rfl;go_wp2_with fail;exact ⟨rfl,bj 17 G aa _ _ rfl (av.o.trans (Fr.refl w0).drew zq)⟩
  | true=>
   have dr:Hid (r.c=4/\r.l=S.boots):=lH ⟨by simpa using cw,by simpa using cx⟩;have e0:=ci.o;have bb:=D1.o;have bc:=bu.o;refine bJ [14] ?_ bp;clear e0 bb bc;go_wp2_with fail;refine cr (iU _ _) ?_;rintro ch rfl;go_upto_region 2 with fail
   generalize w0.drew=br at*;have gp:=gq;have ai:Fr No br br.drew:=(Fr.refl _).drew;have cj:=lH (gp.o.trans ai zq);have gm:=lH (ai.cell_of bu id);have hj:Hid (br.drew.rangeAt ah 0 (cR r (.slice bs u.length cs) (.slice an o.length ao))):=DV (ca.o.no cj).1 0 14;have ds:=lH (fe.o br.drew cj);unfold wV at ds;clear fe ai cw cx ci D1 bu;refine qL bp (λW=>W=br.drew) [6,7] N N N N (λ_ _ d _ _ h=>by cases d<;>exact h) rfl ?_;repeat (first
    | refine kR R ?_
    | (refine kM (v:= ?_) R R ?_ ?_
       rotate_left 1;(intro W;go_simp;(try with_reducible rfl))
       simp only [pT,aJ,lsS])
    | (refine nK R R ?_
       simp only [pT,aJ,lsS])
    | (refine kL (v:=.agg (cR r (.slice bs u.length cs) (.slice an o.length ao))) R N R (λW A=>lV 36 (.tmp 3) R ah 0 R (cR r (.slice bs u.length cs) (.slice an o.length ao)) _ (by rw [A];exact hj.o) underlying36 rfl Tryz.zB) ?_
       simp only [pT,aJ,lsS])
    | (refine kL (v:= ?_) R N R ?_ ?_
       rotate_left 1;(intro W A;have e0:W.cell? (I L.s 0)=some (Z S.boots):=(by rw [A];exact gm.o);clear A;go_simp;(try with_reducible rfl))
       simp only [pT,aJ,lsS]))
   intro W A;obtain rfl:W=br.drew:=A;simp only [CX,DL,DC,CQ];go_wp2_with fail;refine ds.o.mono ?_;rintro e wS ⟨cv,aq⟩;by_cases bh:H.1=0
   ·rw [AL bh] at aq;obtain ⟨ga,gb,rfl,fx,ic,ie⟩:=aq;have eu:=lH bh;have fb:=lH fx;have ck:=lH (cj.o.trans cv zq);have hw:=lH (ca.o.no ck);have gg:=aA hw.o.1;clear bh fx ic ie cv ds;go_wp2_with fail;go_loopw [35] (λa wr=>∃j:Nat,a=Z j/\j<=o.length/\Hid (∀d∈o.take j,oU H.2 d)/\Hid (Fr No wS wr)) (λa _=>o.length - (intOf a).toNat);case atStart=>exact ⟨0,rfl,BA _,lH D,lH (Fr.refl _)⟩
    case round=>
     obtain ⟨j,rfl,ib,dl,cm⟩:=hrel;have V:=lH (ck.o.trans cm zq);by_cases Q:j<o.length
     ·have bn:o≠ []:=by{intro e;subst e;simp at Q}
      obtain ⟨b,off,rfl,ea,dx,cf⟩:=(fg.o.no bx V).at bn;have bz:=lH (cf j o[j] (AC Q));have gt:Hid (oU H.2 o[j]->∀z∈o.take (j+1),oU H.2 z):=λhd z bo=>by
       rw [DJ,AC Q,JP] at bo;rcases BM.1 bo with bo|bo;{exact dl.o z bo};{rw [BB.1 bo];exact hd}
      have dm:Hid (¬oU H.2 o[j]->ak=(4,bU,S)):=λda=>eq.o dr eu (λh=>da (h _ (BF Q)));have eg:(j:Int)<(o.length:Int):=X;have ii:(0:Int)<=(j:Int):=X;have ia:=ez.o;generalize o[j]=d at*;unfold dE at bz;have aw:=lH ((Fr.refl (S:=No) wr).alloc (.cells (cV d) 61));have ae:=lH (aT wr (.cells (cV d) 61));clear cf ea dx gg;go_upto_region 6 with (refine wL 61 bz ?_);generalize wr.alloc _=E at*;generalize wr.heap.size=af at*;have ax:=lH (Vm d E);unfold Bh iV at ax;(cases bf:decide (dP d) with|false=>{rw [bf] at ax;have aa:=lH (dm.o (λh=>by rw [EI] at bf;exact bf h.1));clear bf;go_wp2_with (refine wR 61 ae ?_);refine cr ax.o λaj J=> ?_;have ag:=lH (aw.o.trans J zq);have ad:=J.aB ae id;have ef:=aA ad;clear ad J;go_wp2_with fail;refine cr (iD _ _) ?_;rintro ch rfl;go_wp2_with fail;exact ⟨rfl,bj 4 G aa _ _ rfl (av.o.trans (V.o.trans ag zq) zq)⟩}|true=>rw [bf] at ax;have fa:=lH (DK bf);have cp:=lH fa.o.2.2.2.2.2.2.1;clear bf;(cases ab:(d.k==3) with|false=>{have aa:=lH (dm.o (λh=>by rw [h.2.1] at ab;simp at ab));go_wp2_with (refine CS rfl 61 (.tmp 7) rfl af rfl 61 _ (0,0) _ ae underlying61 rfl Tryz.o7 ?_);refine cr ax.o λaj J=> ?_;have ag:=lH (aw.o.trans J zq);have ad:=J.aB ae id;have ef:=aA ad;clear ad J;go_wp2_with fail;refine cr (iD _ _) ?_;rintro ch rfl;go_wp2_with fail;exact ⟨rfl,bj 4 G aa _ _ rfl (av.o.trans (V.o.trans ag zq) zq)⟩}|true=>have gv:Hid (d.k=3):=lH (U ab);(cases bd:uA H.2 d.t with|true=>{have dn:Hid (oU H.2 d):=lH ⟨fa,gv,bd⟩;go_wp2_with (refine CS rfl 61 (.tmp 7) rfl af rfl 61 _ (0,0) _ ae underlying61 rfl Tryz.o7 ?_);refine cr ax.o λaj J=> ?_;have ag:=lH (aw.o.trans J zq);have ad:=J.aB ae id;have ef:=aA ad;have ay:=lH (D8 ga gb H.2 d.t aj (fb.o.fr (cm.o.trans ag zq) id) (qX cp).1 (show I64 _ by have:=(qX cp).2;unfold I64;omega) (λy e ec=>by have:=fd.o y e ec;unfold I64;omega));unfold dG at ay;rw [bd] at ay;have ek:=lH J;clear ad J bd;go_wp2_with fail;refine cr ay.o λim bl=> ?_;have el:=lH (ag.o.trans bl zq);have gn:=lH (ek.o.trans bl zq);clear bl;go_wp2_with fail;refine cr (iU _ _) ?_;rintro ch rfl;go_wp2_with fail;go_roundw;{exact ⟨j+1,by go_num,Q,lH (gt.o dn),lH (cm.o.trans (aw.o.trans gn zq) zq)⟩};simp [intOf];omega}|false=>{have aa:=lH (dm.o (λh=>by rw [h.2.2] at bd;cases bd));go_wp2_with (refine CS rfl 61 (.tmp 7) rfl af rfl 61 _ (0,0) _ ae underlying61 rfl Tryz.o7 ?_);refine cr ax.o λaj J=> ?_;have ag:=lH (aw.o.trans J zq);have ad:=J.aB ae id;have ef:=aA ad;have ay:=lH (D8 ga gb H.2 d.t aj (fb.o.fr (cm.o.trans ag zq) id) (qX cp).1 (show I64 _ by have:=(qX cp).2;unfold I64;omega) (λy e ec=>by have:=fd.o y e ec;unfold I64;omega));unfold dG at ay;rw [bd] at ay;have ek:=lH J;clear ad J bd;go_wp2_with fail;refine cr ay.o λim bl=> ?_;have el:=lH (ag.o.trans bl zq);clear bl;go_wp2_with fail;refine cq (iD _ _) ?_;go_wp2_with fail;exact ⟨rfl,bj 4 G aa _ _ rfl (av.o.trans (V.o.trans el zq) zq)⟩})))
     ·(have ce:j=o.length:=X);have dj:Hid (∀d∈o,oU H.2 d):=lH (by have:=dl.o;rw [ce,AX] at this;exact this);have eg:¬(j:Int)<(o.length:Int):=X;obtain ⟨bt,rfl⟩:∃bt:World,bt=wr:=⟨_,rfl⟩;have gs:=lH (er.o dr eu dj);have di:=lH (eo.o bt V);unfold yK at di;have cy:=ew.o.no co bx V.o;have c2:bt.cell? (I L.s 2)=some (Z S.clock):=cy.cell 2;have io:bt.frozen? (I L.s 2)=false:=aU cy.cs 2;obtain ⟨cg,ik⟩:=cy.set (S':={S with clock:=S.clock+1}) co (noS bx V).fresh 2 (Z (S.clock+1)) (by simp [mQ]) rfl rfl rfl rfl rfl;have hl:Hid (Step (bD K) w0 B (bt.setCell (I L.s 2) (Z (S.clock+1))) B):=((noS bx V).mono (λ_ e=>e.elim)).trans (cg.mono (λc e=>by unfold bD;omega)) (λ_ e=>e);have fj:=lH ((ca.o.no V).step cg X);have hs:=lH ((hq.o.no V).step cg X);have hi:=lH ((fg.o.no bx V).step cg X);clear ce gg dl dk ep eq er eo cy cg ik;go_wp2_with (refine CS rfl 36 (.tmp 3) rfl ah rfl 36 _ (0,0) _ fj.o.1 underlying36 rfl Tryz.zB ?_);refine cr di.o ?_;rintro ei ⟨dd,bq,gj⟩;have hk:Hid (Step (bD K) w0 B ei dd):=hl.o.trans (bq.mono (λc e=>by unfold bD;omega)) (λ_ e=>e);have ho:=lH gj;have hv:=lH (fj.o.step bq X);have hr:=lH (hs.o.step bq X);have hh:=lH (hi.o.step bq X);have fk:=aA hv.o.1;have gu:=lH bq.fresh;clear bq gj di c2 io;go_wp2_with fail;go_loopw [67] (λa wr=>∃(j:Nat) (au:Nat->Nat),a=Z j/\j<=o.length/\Hid (Step (Ho K) ei dd wr au)/\Hid (aV wr au K L {iJ {S with clock:=S.clock+1} u 4 r.nx with F:=(o.take j).foldl dO S.F} (n+u.length))) (λa _=>o.length - (intOf a).toNat);case atStart=>exact ⟨0,dd,rfl,BA _,lH (Step.refl gu),ho⟩
      case round=>
       obtain ⟨j,au,rfl,ib,az,ct⟩:=hrel;have gc:¬Ho K 0:=(by unfold Ho fO;rintro ⟨i,_,h⟩;omega);have fy:∀d∈o.take j,dP d:=λd hd=>(dj.o d (FU hd)).1;have cn:=lH (O1 (o.take j) S.F fy co.o.file ha);have am:Hid (aH {iJ {S with clock:=S.clock+1} u 4 r.nx with F:=(o.take j).foldl dO S.F}):=lH ⟨co.o.tree,cn.o.1⟩;clear fy;by_cases Q:j<o.length
       ·have bn:o≠ []:=by{intro e;subst e;simp at Q}
        obtain ⟨b,off,rfl,ea,dx,cf⟩:=(hh.o.step az gc).at bn;have bz:=lH (cf j o[j] (AC Q));have dn:Hid (oU H.2 o[j]):=dj.o _ (BF Q);have ff:Hid ((o.take (j+1)).foldl dO S.F=dO ((o.take j).foldl dO S.F) o[j]):=lH (by
         rw [DJ,AC Q,JP,JC];rfl)
        have eg:(j:Int)<(o.length:Int):=X;have ii:(0:Int)<=(j:Int):=X;have ia:o.length<=1000:=ez.o;generalize o[j]=d at*;unfold dE at bz;generalize (o.take j).foldl dO S.F=bi at*;have aw:=lH ((Fr.refl (S:=No) wr).alloc (.cells (cV d) 61));have ae:=lH (aT wr (.cells (cV d) 61));clear cf ea dx fk bn;go_upto_region 13 with (refine wL 61 (cs:=(cV d)) bz ?_);generalize wr.alloc (.cells (cV d) 61)=E at*;generalize wr.heap.size=af at*;have bv:Fr No wr E.drew:=aw.o.trans (Fr.refl _).drew zq;have cd:=az.o.fresh;have bk:=ct.o.no am cd bv;have dy:aF E.drew au:=(noS cd bv).fresh;have cc:=dn.o.1;obtain ⟨i,bm⟩:∃i:Nat,d.i=(i:Int):=⟨d.i.toNat,by have:=cc.1;omega⟩;have cz:i<=128:=(by have:=cc.2.1;omega)
        have db:=(Fr.refl (S:=No) E).drew.aB ae id;have fh:Hid (E.drew.rangeAt af 0 (cV d)):=DV db 0 14;have ej:Hid (E.drew.cell? (I L.s 11)=some (.map (some L.fl))):=bk.cell 11;have en:Hid (E.drew.cell? (I af 1)=some (Z d.i)):=lH (aA db _);have he:=lH bk;have ev:=lH bv;have dp:=lH cd;cases be:bi i with
        | none=>
         have dq:Hid ((Instr.lookup 128 (.map (some L.fl)) (Z d.i) false).run prog E.drew=.ok (.pointer none) E.drew):=lH (by rw [bm];exact bk.files.nothing cz be _ (Fr.refl _));have bw:=lH (apply_nil d E.drew);unfold iV at bw;have dt:Hid (dO bi d=bi):=lH (by unfold dO;rw [bm,FH,be]);clear bv cd bk dy db cc bm be cz;refine qL bp (λW=>W=E.drew) [8] N N N N (λ_ _ d _ _ h=>by cases d<;>exact h) rfl ?_;repeat (first
          | refine kR R ?_
          | (refine kM (v:= ?_) R R ?_ ?_
             rotate_left 1;(intro W;go_simp;(try with_reducible rfl))
             simp only [pT,aJ,lsS])
          | (refine nK R R ?_
             simp only [pT,aJ,lsS])
          | (refine kL (v:=.agg (cV d)) R N R (λW A=>lV 61 (.tmp 9) R af 0 R (cV d) _ (by rw [A];exact fh.o) underlying61 rfl Tryz.o7) ?_
             simp only [pT,aJ,lsS])
          | (refine kL (v:= ?_) R N R ?_ ?_
             rotate_left 1;(intro W A;have e0:W.cell? (I L.s 11)=some (.map (some L.fl)):=(by rw [A];exact ej.o);have bb:W.cell? (I af 1)=some (Z d.i):=(by rw [A];exact en.o);have bc:(Instr.lookup 128 (.map (some L.fl)) (Z d.i) false).run prog W=.ok (.pointer none) W:=(by rw [A];exact dq.o);clear A;go_simp;(try with_reducible rfl))
             simp only [pT,aJ,lsS]))
         intro W A;obtain rfl:W=E.drew:=A;simp only [CX,DL,DC,CQ];go_wp2_with fail;refine bw.o.mono ?_;rintro e dg ⟨⟨il,hx,rfl⟩,fo⟩;have em:=lH (ev.o.trans fo zq);clear fo;go_wp2_with fail;go_roundw;{exact ⟨j+1,au,by go_num,Q,lH (az.o.trans ((noS dp em).mono (λ_ e=>e.elim)) (λ_ e=>e)),by rw [ff.o,dt.o];exact lH (ct.o.no am dp em)⟩};simp [intOf];omega
        | some mj=>
         obtain ⟨p,fu,fs,fq⟩:=bk.files.turn am.o.file (i:=i) (m:=mj) be;have dq:Hid ((Instr.lookup 128 (.map (some L.fl)) (Z d.i) false).run prog E.drew=.ok (Y p) E.drew):=lH (by rw [bm];exact fu _ (Fr.refl _));have bw:=lH (Vt au K i p mj d E.drew fs dy X (cn.o.1 i mj be).2.2 cc);unfold vI kN iV at bw;have gr:=lH fq;have dt:Hid (dO bi d=aS bi i (some (bT mj d))):=lH (by unfold dO;rw [bm,FH,be]);have ex:=lH cz;clear bv cd bk dy fu fs fq db cc bm be cz;refine qL bp (λW=>W=E.drew) [8] N N N N (λ_ _ d _ _ h=>by cases d<;>exact h) rfl ?_;repeat (first
          | refine kR R ?_
          | (refine kM (v:= ?_) R R ?_ ?_
             rotate_left 1;(intro W;go_simp;(try with_reducible rfl))
             simp only [pT,aJ,lsS])
          | (refine nK R R ?_
             simp only [pT,aJ,lsS])
          | (refine kL (v:=.agg (cV d)) R N R (λW A=>lV 61 (.tmp 9) R af 0 R (cV d) _ (by rw [A];exact fh.o) underlying61 rfl Tryz.o7) ?_
             simp only [pT,aJ,lsS])
          | (refine kL (v:= ?_) R N R ?_ ?_
             rotate_left 1;(intro W A;have e0:W.cell? (I L.s 11)=some (.map (some L.fl)):=(by rw [A];exact ej.o);have bb:W.cell? (I af 1)=some (Z d.i):=(by rw [A];exact en.o);have bc:(Instr.lookup 128 (.map (some L.fl)) (Z d.i) false).run prog W=.ok (Y p) W:=(by rw [A];exact dq.o);clear A;go_simp;(try with_reducible rfl))
             simp only [pT,aJ,lsS]))
         intro W A;obtain rfl:W=E.drew:=A;simp only [CX,DL,DC,CQ];go_wp2_with fail;refine bw.o.mono ?_;rintro e dg ⟨⟨il,hx,rfl⟩,dc,de,gi⟩;have hc:Hid (Step (Ho K) ei dd dg dc):=az.o.trans (((noS dp ev).mono (λ_ e=>e.elim)).trans (de.mono (λc e=>⟨i,ex,e⟩)) (λ_ e=>e)) (λ_ e=>e);have hf:Hid (aV dg dc K L {iJ {S with clock:=S.clock+1} u 4 r.nx with F:=dO bi d} (n+u.length)):=lH (by
          rw [dt.o];exact he.o.uU ex am de (gr.o dg dc _ de gi))
         clear de gi;go_wp2_with fail;go_roundw;{exact ⟨j+1,dc,by go_num,Q,hc,by rw [ff.o];exact hf⟩};simp [intOf];omega
       ·(have ce:j=o.length:=X);have eg:¬(j:Int)<(o.length:Int):=X;rw [ce,AX] at cn am ct;obtain ⟨dh,rfl⟩:∃dh:World,dh=wr:=⟨_,rfl⟩;have ht:=lH (hr.o.step az gc);have hn:Hid (Step (bD K) w0 B dh au):=hk.o.trans (az.o.mono (λc e=>by obtain ⟨i,ap,ab⟩:=e;unfold fO at ab;unfold bD;omega)) (λ_ e=>e);have et:=lH (Ov au K (n+u.length) L _ dh ct am cn.o.2.1 az.o.fresh (by have:=gy.o;have:=gw.o;omega));unfold Aj at et;clear ce fk;go_wp2_with fail;refine cr et.o ?_;rintro gl ⟨gd,eh,gk⟩;have fi:=lH (ht.o.step eh X);have hm:Hid (Step (bD K) w0 B gl gd):=hn.o.trans (eh.mono (λc e=>by unfold bD;omega)) (λ_ e=>e);have hp:=lH gk;have ir:∀w':World,(Instr.build 29 #[]).run prog w'=.ok (.agg (cE 0)) w':=λw'=>by kernel_rfl
        have gz:=lH (show ((cE 0):Array Value).all (·.oneCell')=true from by simp [Value.oneCell']);clear eh gk;go_wp2_with (refine BR rfl 29 (.tmp 4) (.tmp 83) rfl (ah+1) (cE 0) rfl rfl 29 _ fi.o.1 Tryz.size29 rfl gz ?_);have hg:=aW (cs':=(cE 0)) fi.o.1;exact AZ (v:=lQ 0 0 0 0 0 false) (BH rfl _ _ (ah+1) 29 _ (0,0) _ rfl hg underlying29 rfl Tryz.size29) rfl
         (hb.o _ gs.o ⟨am.o.tree,am.o.file⟩ _ w0 gl _ gd rfl av.o B1.o hm.o hp.o fR)
   {rw [AA bh] at aq;subst aq;have aa:=lH (ep.o dr bh);have ck:=lH (cj.o.trans cv zq);have gx:=lH bh;clear cv bh;go_wp2_with fail;exact ⟨rfl,bj _ gx aa _ _ rfl (av.o.trans ck zq)⟩}
theorem aDP (A K n L S o u r w) (h:aV w A K L S n) (ok:aH S) (B:aF w A) (bb:0<=S.boots/\S.boots<=1000000) (bc:0<=S.swaps/\S.swaps<=1000000) (bd:0<=S.clock/\S.clock<=1000000):
  Calls prog 63 #[Y L.s,.agg (o.cells u r)] w (bH w A K L n (kH S o)):=by
 obtain ⟨ab,an,ag,E,aj⟩:=begun h ok B o u r;have av:=lH ab;have am:=lt_of_block ag;have al:=B _ (CE _);have d0:(dJ w o u r).cell? (I w 0)=some (Z o.c):=by rw [aA an];rfl
 have bf:(dJ w o u r).cell? (I L.s 0)=some (Z S.boots):=E.cell 0;have z0:(dJ w o u r).frozen? (I L.s 0)=false:=aU E.cs 0;obtain ⟨ah,J⟩:=E.set (S':={S with boots:=S.boots+1}) ok aj 0 (Z (S.boots+1)) (by simp [mQ]) rfl rfl rfl rfl rfl;have ao:aH ({S with boots:=S.boots+1}):=⟨ok.tree,ok.file⟩
 have c1:((dJ w o u r).setCell (I L.s 0) (Z (S.boots+1))).cell? (I L.s 2)=some (Z S.clock):=J.cell 2;have bk:((dJ w o u r).setCell (I L.s 0) (Z (S.boots+1))).frozen? (I L.s 2)=false:=aU J.cs 2;obtain ⟨ai,Q⟩:=J.set (S':={S with boots:=S.boots+1,clock:=S.clock+1}) ao ah.fresh 2 (Z (S.clock+1)) (by simp [mQ]) rfl rfl rfl rfl rfl;have ap:aH ({S with boots:=S.boots+1,clock:=S.clock+1}):=⟨ok.tree,ok.file⟩
 have c2:(((dJ w o u r).setCell (I L.s 0) (Z (S.boots+1))).setCell (I L.s 2) (Z (S.clock+1))).cell? (I L.s 7)=some (Z (S.next 4)):=Q.cell 7;have bl:(((dJ w o u r).setCell (I L.s 0) (Z (S.boots+1))).setCell (I L.s 2) (Z (S.clock+1))).frozen? (I L.s 7)=false:=aU Q.cs 7;obtain ⟨ar,au⟩:=Q.set (S':=uX S) ap ai.fresh 7 (Z (0)) (Iq L {S with boots:=S.boots+1,clock:=S.clock+1} 4 X 0) rfl rfl rfl rfl rfl;have aq:aH (uX S):=⟨ok.tree,ok.file⟩
 have aa:Step (λc=>c=K+8) (dJ w o u r) A ((((dJ w o u r).setCell (I L.s 0) (Z (S.boots+1))).setCell (I L.s 2) (Z (S.clock+1))).setCell (I L.s 7) (Z (0))) A:=((ah.trans ai (λ_ e=>e)).trans ar (λ_ e=>e))
 have ak:=lH (aa.block ag (by rw [al];omega));have ay:Hid (o.c≠4->∀e w',e=.panicked (kF 17)->Fr No w w'->bH w A K L n (kH S o) e w'):=λaf e w' ae f=>by
  unfold kH;rw [AA af];exact bH.no h ok B G ae f
 have ax:Hid (o.c=4->∀e V,e=.returned (lQ 0 0 0 0 0 false)->Fr (λj=>j=w.heap.size+1) ((((dJ w o u r).setCell (I L.s 0) (Z (S.boots+1))).setCell (I L.s 2) (Z (S.clock+1))).setCell (I L.s 7) (Z (0))) V->bH w A K L n (kH S o) e V):=λad e V ae g=>by
  unfold kH;rw [AL ad];exact bH.yes B ab aa (λc e=>by unfold bD;omega) (CE _) am g aq au ae (mY.plain _ _ _ _ _ _ _)
 generalize bH w A K L n (kH S o)=be at*;have bh:IntKind.i64.wrap (S.boots+1)=S.boots+1:=by rw [BG];omega
 have bi:IntKind.i64.wrap (S.swaps+1)=S.swaps+1:=by rw [BG];omega
 have V:IntKind.i64.wrap (S.clock+1)=S.clock+1:=by rw [BG];omega
 have bg:∀w':World,(Instr.build 29 #[]).run prog w'=.ok (.agg (cE 0)) w':=λw'=>by kernel_rfl
 have aw:=lH (show ((cE 0):Array Value).all (·.oneCell')=true from by simp [Value.oneCell']);clear ah J ao ai Q ap ar au aq aa E aj an ag ab h ok B bb bc bd al am;unfold dJ aG.cells bU aX.cells at*;go_enter func63,ntmps63;go_wp2_with fail;generalize (w.alloc (.cells (cR o u r) 36)).alloc (.cells (cE 0) 29)=w0 at*;cases H:(o.c==4) with
 | false=>
  have af:o.c≠4:=by simpa using H
  try rw [H]
  go_wp2_with fail;refine cr (iD _ _) ?_;rintro bj rfl;go_wp2_with fail;exact ⟨rfl,ay af _ _ rfl av⟩
 | true=>
  have ad:o.c=4:=by simpa using H
  try rw [H]
  go_wp2_with fail;refine cq (iU _ _) ?_;go_wp2_with (refine BR rfl 29 (.tmp 4) (.tmp 28) rfl (w.heap.size+1) (cE 0) rfl rfl 29 _ ak Tryz.size29 rfl aw ?_);have az:=aW (cs':=(cE 0)) ak.o;exact AZ (v:=lQ 0 0 0 0 0 false) (BH rfl _ _ (w.heap.size+1) 29 _ (0,0) _ rfl az underlying29 rfl Tryz.size29) rfl
   (ax.o ad _ _ rfl fR)
theorem aCC (A K n L S o u r w) (h:aV w A K L S n) (ok:aH S) (B:aF w A) (ax:0<=S.boots/\S.boots<=1000000) (ay:0<=S.swaps/\S.swaps<=1000000) (az:0<=S.clock/\S.clock<=1000000):
  Calls prog 64 #[Y L.s,.agg (o.cells u r)] w (bH w A K L n (kP S o)):=by
 obtain ⟨aa,al,af,E,ah⟩:=begun h ok B o u r;have aq:=lH aa;have ak:=lt_of_block af;have aj:=B _ (CE _);have d0:(dJ w o u r).cell? (I w 0)=some (Z o.c):=by rw [aA al];rfl
 have bc:(dJ w o u r).cell? (I L.s 1)=some (Z S.swaps):=E.cell 1;have z0:(dJ w o u r).frozen? (I L.s 1)=false:=aU E.cs 1;obtain ⟨ag,J⟩:=E.set (S':={S with swaps:=S.swaps+1}) ok ah 1 (Z (S.swaps+1)) (by simp [mQ]) rfl rfl rfl rfl rfl;have am:aH ({S with swaps:=S.swaps+1}):=⟨ok.tree,ok.file⟩
 have c1:((dJ w o u r).setCell (I L.s 1) (Z (S.swaps+1))).cell? (I L.s 2)=some (Z S.clock):=J.cell 2;have bh:((dJ w o u r).setCell (I L.s 1) (Z (S.swaps+1))).frozen? (I L.s 2)=false:=aU J.cs 2;obtain ⟨ao,ap⟩:=J.set (S':=tJ S) am ag.fresh 2 (Z (S.clock+1)) (by simp [mQ,tJ]) rfl rfl rfl rfl rfl;have an:aH (tJ S):=⟨ok.tree,ok.file⟩
 have V:Step (λc=>c=K+8) (dJ w o u r) A (((dJ w o u r).setCell (I L.s 1) (Z (S.swaps+1))).setCell (I L.s 2) (Z (S.clock+1))) A:=(ag.trans ao (λ_ e=>e))
 have ai:=lH (V.block af (by rw [aj];omega));have av:Hid (o.c≠4->∀e w',e=.panicked (kF 17)->Fr No w w'->bH w A K L n (kP S o) e w'):=λae e w' ad f=>by
  unfold kP;rw [AA ae];exact bH.no h ok B G ad f
 have au:Hid (o.c=4->∀e Q,e=.returned (lQ 0 0 0 0 0 false)->Fr (λj=>j=w.heap.size+1) (((dJ w o u r).setCell (I L.s 1) (Z (S.swaps+1))).setCell (I L.s 2) (Z (S.clock+1))) Q->bH w A K L n (kP S o) e Q):=λab e Q ad g=>by
  unfold kP;rw [AL ab];exact bH.yes B aa V (λc e=>by unfold bD;omega) (CE _) ak g an ap ad (mY.plain _ _ _ _ _ _ _)
 generalize bH w A K L n (kP S o)=bb at*;have be:IntKind.i64.wrap (S.boots+1)=S.boots+1:=by rw [BG];omega
 have bf:IntKind.i64.wrap (S.swaps+1)=S.swaps+1:=by rw [BG];omega
 have Q:IntKind.i64.wrap (S.clock+1)=S.clock+1:=by rw [BG];omega
 have bd:∀w':World,(Instr.build 29 #[]).run prog w'=.ok (.agg (cE 0)) w':=λw'=>by kernel_rfl
 have ar:=lH (show ((cE 0):Array Value).all (·.oneCell')=true from by simp [Value.oneCell']);clear ag J am ao ap an V E ah al af aa h ok B ax ay az aj ak;unfold dJ aG.cells bU aX.cells at*;go_enter func64,ntmps64;go_wp2_with fail;generalize (w.alloc (.cells (cR o u r) 36)).alloc (.cells (cE 0) 29)=w0 at*;cases H:(o.c==4) with
 | false=>
  have ae:o.c≠4:=by simpa using H
  try rw [H]
  go_wp2_with fail;refine cr (iD _ _) ?_;rintro bg rfl;go_wp2_with fail;exact ⟨rfl,av ae _ _ rfl aq⟩
 | true=>
  have ab:o.c=4:=by simpa using H
  try rw [H]
  go_wp2_with fail;refine cq (iU _ _) ?_;go_wp2_with (refine BR rfl 29 (.tmp 4) (.tmp 24) rfl (w.heap.size+1) (cE 0) rfl rfl 29 _ ai Tryz.size29 rfl ar ?_);have aw:=aW (cs':=(cE 0)) ai.o;exact AZ (v:=lQ 0 0 0 0 0 false) (BH rfl _ _ (w.heap.size+1) 29 _ (0,0) _ rfl aw underlying29 rfl Tryz.size29) rfl
   (au.o ab _ _ rfl fR)
theorem Tryz.Iy:(prog.info? 41).map (·.size)=some 14:=by kernel_rfl
def rE (r:aG) (ns nd:Nat):Prop:=r.path.length<=300/\r.tq.length<=300/\ns<=60/\nd<=100
instance (r:aG) (ns nd:Nat):Decidable (rE r ns nd):=by unfold rE;exact inferInstance
def qG (w:World) (p:Prop) [Decidable p] (e:Ending) (w':World):Prop:=e=.returned (.bool (decide p))/\Fr No w w'
theorem qG.mk {w} {p:Prop} [Decidable p] (b e w') (o:b=true↔p) (r:e=.returned (.bool b)) (f:Fr No w w'):qG w p e w':=by
 (have:decide p=b:=by{(cases b with|true=>exact BN (o.1 rfl)|false=>exact BC (λh=>by have:=o.2 h;cases this))});unfold qG;rw [this];exact ⟨r,f⟩
theorem aAz (o bs ab u r cs ad w):Calls prog 32 #[.agg (o.cells (.slice bs u cs) (.slice ab r ad))] w (qG w (rE o u r)):=by
 have E:Hid (∀(b:Bool) e w',(b=true↔rE o u r)->e=.returned (.bool b)->Fr No w w'->qG w (rE o u r) e w'):=qG.mk;generalize qG w (rE o u r)=ag at*;have ae:=nN o.path;have af:=nN o.tq;have H:Hid (rE o u r↔(((ba o.path).size:Int)<=300/\((ba o.tq).size:Int)<=300/\(u:Int)<=60/\(r:Int)<=100)):=lH (by unfold rE;rw [ae,af];constructor<;>(rintro ⟨J,Q,V,aa⟩;refine ⟨?_,?_,?_,?_⟩<;>omega));have B:=lH ((Fr.refl (S:=No) w).alloc (.cells (cR o (.slice bs u cs) (.slice ab r ad)) 41));generalize rE o u r=P at*;clear ae af;unfold aG.cells;by_cases J:((ba o.path).size:Int)<=300;{by_cases Q:((ba o.tq).size:Int)<=300;{by_cases V:(u:Int)<=60;{by_cases aa:(r:Int)<=100;{have A:Hid (true=true↔P):=lH (by rw [H.o];simp [J,Q,V,aa]);go_enter func32,ntmps32;go_wp2;exact E.o true _ _ (U A.o) rfl B.o};{have A:Hid (false=true↔P):=lH (by rw [H.o];simp [aa]);go_enter func32,ntmps32;go_wp2;exact E.o false _ _ (U A.o) rfl B.o}};{have A:Hid (false=true↔P):=lH (by rw [H.o];simp [V]);go_enter func32,ntmps32;go_wp2;exact E.o false _ _ (U A.o) rfl B.o}};{have A:Hid (false=true↔P):=lH (by rw [H.o];simp [Q]);go_enter func32,ntmps32;go_wp2;exact E.o false _ _ (U A.o) rfl B.o}};{have A:Hid (false=true↔P):=lH (by rw [H.o];simp [J]);go_enter func32,ntmps32;go_wp2;exact E.o false _ _ (U A.o) rfl B.o}
abbrev Rq:=aG×List Sz×List Dl
def Yl (w:World) (o:Nat->Nat) (b off:Nat) (y:Rq):Prop:=∃rv dv,w.rangeAt b off (y.1.cells rv dv).toList/\aZ fD 4 w o rv y.2.1/\aZ dE 14 w o dv y.2.2
def pM (w:World) (o:Nat->Nat) (v:Value) (L:List Rq):Prop:=
 ∃base cap,v=.slice base L.length cap/\(L≠ []->∃b off,base=some (I b off)/\o b=0/\b<w.heap.size/\∀(j:Nat) y,L[j]? =some y->Yl w o b (off+j*14) y)
theorem pM.step {C w w' A B v L} (h:pM w A v L) (s:Step C w A w' B) (o:¬C 0):pM w' B v L:=by
 obtain ⟨base,cap,e,Q⟩:=h;refine ⟨base,cap,e,λV=> ?_⟩;obtain ⟨b,off,H,r,u,J⟩:=Q V;refine ⟨b,off,H,(s.old b u).trans r,AP u s.fr.size,λj y aa=> ?_⟩;obtain ⟨ab,E,a1,a2,a3⟩:=J j y aa;exact ⟨ab,E,λi ad hu=>s.fr.cell_of (a1 i ad hu) (by rw [r];exact o),a2.step s o,a3.step s o⟩
theorem pM.no {w w' o v L} (h:pM w o v L) (r:aF w o) (f:Fr No w w'):pM w' o v L:=h.step (noS r f) id
theorem pM.at {w o base cap L} (h:pM w o (.slice base L.length cap) L) (u:L≠ []):∃b off,base=some (I b off)/\o b=0/\b<w.heap.size/\∀(j:Nat) y,L[j]? =some y->Yl w o b (off+j*14) y:=by
 obtain ⟨A,cap',e,r⟩:=h;cases e;exact r u
theorem pM.slice {w o v L} (h:pM w o v L):∃base cap,v=.slice base L.length cap:=by
 obtain ⟨base,cap,e,_⟩:=h;exact ⟨base,cap,e⟩
def nH (y:Rq):Prop:=rE y.1 y.2.1.length y.2.2.length
instance (y:Rq):Decidable (nH y):=by unfold nH;exact inferInstance
theorem Ql (am v L) (o:Nat) (w) (aj:aF w am) (h:pM w am v L) (bj:o<=1000):
  Calls prog 22 #[v,o] w (qG w (L.length<=o/\∀y∈L,nH y)):=by
 obtain ⟨base,cap,rfl⟩:=h.slice;have V:Hid (∀(b:Bool) e w',(b=true↔(L.length<=o/\∀y∈L,nH y))->e=.returned (.bool b)->Fr No w w'->qG w (L.length<=o/\∀y∈L,nH y) e w'):=qG.mk;generalize qG w (L.length<=o/\∀y∈L,nH y)=be at*;have aq:=lH h;have ap:=lH aj;clear h aj;by_cases bi:(o:Int)<(L.length:Int);{have Q:Hid (false=true↔(L.length<=o/\∀y∈L,nH y)):=lH (by constructor;(intro h;cases h);(intro h;have:=h.1;omega));go_enter func22,ntmps22;exact aC (V.o false _ _ (U Q.o) rfl (Fr.refl _))}
 ·go_enter func22,ntmps22;go_wp2_with fail;go_loopw [5] (λa wr=>∃j:Nat,a=Z j/\j<=L.length/\Hid (∀y∈L.take j,nH y)/\Hid (Fr No w wr)) (λa _=>L.length - (intOf a).toNat);case atStart=>exact ⟨0,rfl,BA _,lH D,lH (Fr.refl _)⟩
  case round=>
   obtain ⟨j,rfl,bh,ag,H⟩:=hrel;by_cases E:j<L.length
   ·have az:L≠ []:=by{intro e;subst e;simp at E}
    obtain ⟨b,off,rfl,bb,ax,al⟩:=(aq.o.no ap H).at az;obtain ⟨bl,bf,ad,ae,af⟩:=al j L[j] (AC E);have ar:Hid (nH L[j]->∀z∈L.take (j+1),nH z):=λhd z A=>by
     rw [DJ,AC E,JP] at A;rcases BM.1 A with A|A;{exact ag.o z A};{rw [BB.1 A];exact hd}
    have au:Hid (¬nH L[j]->(false=true↔(L.length<=o/\∀y∈L,nH y))):=λay=>by
     constructor;{intro h;cases h};{intro h;exact absurd (h.2 _ (BF E)) ay}
    have bc:(j:Int)<(L.length:Int):=X;have bk:(0:Int)<=(j:Int):=X;have bg:L.length<=1000:=X;generalize L[j]=y at*;obtain ⟨an,ao,ah⟩:=y;obtain ⟨bs,cs,rfl⟩:=ae.slice;obtain ⟨av,aw,rfl⟩:=af.slice;dsimp only at ad ae af;have aa:=lH ad;have r:=lH (aAz an bs av ao.length ah.length cs aw wr);unfold aG.cells at aa r;unfold qG at r;clear al bb ax ad ae af;(cases u:decide (rE an ao.length ah.length) with|true=>{rw [u] at r;have ab:=lH (DK u);clear u;go_wp2_with (refine wL 41 aa ?_);refine cr r.o λbd B=> ?_;have J:=lH (H.o.trans B zq);clear B;go_wp2_with fail;go_roundw;{exact ⟨j+1,by go_num,E,lH (ar.o (show nH _ from ab.o)),J⟩};simp [intOf];omega}|false=>{rw [u] at r;have ab:=lH (au.o (show ¬nH _ from IV u));clear u;go_wp2_with (refine wL 41 aa ?_);refine cr r.o λbd B=> ?_;have J:=lH (H.o.trans B zq);clear B;exact aC (V.o false _ _ (U ab.o) rfl J.o)})
   ·(have ak:j=L.length:=X);have bc:¬(j:Int)<(L.length:Int):=X
    have Q:Hid (true=true↔(L.length<=o/\∀y∈L,nH y)):=lH (by
     have ai:=ag.o;rw [ak,AX] at ai;constructor;{intro _;exact ⟨by omega,ai⟩}
     ·intro _;rfl)
    clear ak;exact aC (V.o true _ _ (U Q.o) rfl H.o)
