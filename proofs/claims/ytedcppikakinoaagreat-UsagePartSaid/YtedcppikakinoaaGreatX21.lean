/- Part of a proof. -/
import Derived.Test.YtedcppikakinoaaGreatX19
import Derived.Test.YtedcppikakinoaaGreatX20
set_option linter.unusedSimpArgs false
set_option linter.unusedVariables false
set_option maxRecDepth 100000
set_option maxHeartbeats 25600000
namespace Go.Proofs.YtedcppikakinoaaGreat
open Go.Proofs.Tryz Go.RowKit
structure eY (S:St) (q:Nat):Prop where
 ok:aG S
 pts:jU S.F
 dir:∀k x,S.T k=some x->x.dir=false->∃m,S.F k=some m
 tok:∀x∈S.K,∃i m,x.i=((i:Nat):Int)/\i<=128/\S.F i=some m
 small:∀x∈S.K,small x
 few:S.K.length<=q
 boots:0<=S.boots/\S.boots<=q
 swaps:0<=S.swaps/\S.swaps<=q
 clock:0<=S.clock/\S.clock<=q
 win:∀i y,S.W i=some y->∃rep:aW,rep.ok/\0<=rep.e/\rep.e<=18/\y.2.2=rep.bytes
theorem eY.more {S q o} (h:eY S q) (r:q<=o):eY S o:=
 ⟨h.ok,h.pts,h.dir,h.tok,h.small,AV h.few r,⟨h.boots.1,by have:=h.boots.2;omega⟩,⟨h.swaps.1,by have:=h.swaps.2;omega⟩,⟨h.clock.1,by have:=h.clock.2;omega⟩,h.win⟩
theorem eY.fits {S q} (h:eY S q) (r:q<=1000000):Ez S:=
 ⟨h.tok,λi m o=>(Ve (h.ok.file i m o).2.2 (h.pts i m o)).1,h.dir,h.small,AV h.few r⟩
structure Fine (q:Nat) (x:Int×aW×St):Prop where
 code:0<=x.1/\x.1<=18
 rep:x.1=0->x.2.1.e=0/\∀s:Int,0<=s/\s<16777216->aW.ok {x.2.1 with swaps:=s}
 inv:eY x.2.2 q
theorem Fine.no {S q} (h:eY S q) {c} (o:c≠0) (r:0<=c/\c<=18) (u):Fine q (c,u,S):=⟨r,λe=>absurd e o,h⟩
theorem Fine.plain {S q} (h:eY S q) {i z k d} (r:0<=i/\i<65536) (A:0<=z/\z<65536) (o:0<=k/\k<256):Fine q (0,iW 0 i z k 0 d,S):=
 ⟨by dsimp only;omega,λ_=>⟨rfl,λ_ u=>L8 (e:=0) X r A o u⟩,h⟩
theorem Qx (T:Tree):∀(o:List (List UInt8)) (k:Nat),0<=(bM T k o).1/\(bM T k o).1<=18
 | [],k=>by simp [bM]
 | s::r,k=>by
  unfold bM;split
  ·simp
  ·split
   ·split
    ·exact Qx T r _
    ·simp
   ·simp
theorem Tt (T o):0<=(seen T o).1/\(seen T o).1<=18:=by
 unfold seen;split;{simp};{exact Qx T o 1}
theorem yQ (T l):0<=(lookOf T l).1/\(lookOf T l).1<=18:=by
 unfold lookOf;split;{simp};{exact Tt T _}
theorem Yb (T l):0<=(placeOf T l).1/\(placeOf T l).1<=18:=by
 unfold placeOf;split;{simp};{simp};{unfold stands;split;{split<;>simp};{exact Tt T _}}
theorem aBf (T l):0<=(bV T l).1/\(bV T l).1<=18:=by
 unfold bV;split;{simp};{split;{exact Yb T l};{split;{simp};{split<;>simp}}}
theorem aFe (T l b):0<=(bK T l b).1/\(bK T l b).1<=18:=by
 unfold bK;split;{exact yQ T l};{split;{simp};{split;{simp};{split;{simp};{split<;>simp}}}}
theorem Zu (T p q):0<=gI T p q/\gI T p q<=18:=by
 unfold gI;split;{exact yQ T p};{split;{simp};{split;{simp};{split;{simp};{split;{simp};{split;{exact Yb T q};{split<;>simp}}}}}}
theorem aA2 (T l):0<=(listOf T l).1/\(listOf T l).1<=18:=by
 unfold listOf;split;{exact yQ T l};{split<;>simp}
theorem aFb (L c i b):0<=(eU L c i b).1/\(eU L c i b).1<=18:=by
 unfold eU;split;{simp};{split<;>simp}
theorem Xo (S sw nx o c l):0<=(dW S sw nx o c l).1/\(dW S sw nx o c l).1<=18:=by
 unfold dW;split;{simp};{split;{simp};{split<;>simp}}
theorem Nj {T l} (h:(bV T l).1=0):(bV T l).2=free T:=by
 unfold bV at h ⊢;split at h;{cases h};{split at h;{rename_i o;exact absurd h o};{split at h;{cases h};{split at h;{cases h};{rename_i o r u A;rw [AA o,AA r,AA u,AA A]}}}}
theorem Fa (F) {i j} (x) (h:j≠i):aT F i x j=F j:=by simp [aT,h]
theorem Am {F i j m y} (h:F j=some y):∃z,aT F i (some m) j=some z:=by
 unfold aT;split;{exact ⟨_,rfl⟩};{exact ⟨_,h⟩}
theorem Zp {S q} (h:eY S q) (H):Fine q (lC S H):=by
 unfold lC;split;{rename_i o;have aa:=Dc h.ok.tree o;have J:=Nj o;have ab:=E5 h.ok.tree o;refine Fine.plain ⟨Ii h.ok o,?_,?_,?_,h.small,h.few,h.boots,h.swaps,h.clock,h.win⟩ X X X;{unfold lI;dsimp only;split;{exact h.pts};{exact h.pts.put _ (by simp [mQ])}};{intro k x r hd;unfold lI gY grown at r;unfold lI;dsimp only at r ⊢;rw [AL o] at r;by_cases e:k=free S.T;{subst e;rw [upd_same] at r;cases r;dsimp only at hd;rw [hd,AA D,J];exact ⟨_,zI _ _ _⟩};{rw [bZ _ _ e] at r;obtain ⟨m,E⟩:=h.dir k x r hd;split;{exact ⟨m,E⟩};{exact Am E}}};{intro x Q;obtain ⟨i,m,u,A,B⟩:=h.tok x Q;unfold lI;dsimp only;split;{exact ⟨i,m,u,A,B⟩};{obtain ⟨z,V⟩:=Am (i:=(bV S.T H.path).2) (m:=mQ) B;exact ⟨i,z,u,A,V⟩}}};{rename_i o;exact Fine.no h o (aBf _ _) _}
theorem aB1 {S q} (h:eY S q) (o):Fine q (iV S o):=by
 unfold iV;split;{rename_i Q;exact Fine.no h Q (yQ _ _) _};{rename_i Q;split;{exact Fine.no h G X _};{rename_i A;split;{rename_i r;exact Fine.no h r (aFe _ _ _) _};{rename_i r;have Q:=BI Q;have A:=BI A;have r:=BI r;have af:=(Ns h.ok.tree r).1;(have H:(bK S.T o.path o.dir).2=(lookOf S.T o.path).2.1/\(o.dir=true->(lookOf S.T o.path).2.2=true):=by{unfold bK at r ⊢;rw [AA (by simp [Q])] at r ⊢;split at r;{cases r};{rename_i a1;rw [AA a1];split at r;{cases r};{rename_i a2;rw [AA a2];split at r;{cases r};{rename_i a3;rw [AA a3];split at r;{cases r};{rename_i a4;rw [AA a4];refine ⟨rfl,λhd=> ?_⟩;(cases B:(lookOf S.T o.path).2.2 with|true=>rfl|false=>exact absurd ⟨hd,B⟩ a2)}}}}});obtain ⟨H,hd⟩:=H;(have ae:(kY S o).T=dH S.T (lookOf S.T o.path).2.1:=by{unfold kY;split<;>(dsimp only;unfold fH;rw [AL r,H])});refine Fine.plain ?_ X X X;(have aa:dJ (dH S.T (lookOf S.T o.path).2.1):=by{have:=Bv h.ok.tree o.path o.dir;unfold fH at this;rw [AL r,H] at this;exact this});(cases B:(lookOf S.T o.path).2.2 with|true=>(have e:kY S o={S with T:=dH S.T (lookOf S.T o.path).2.1}:=by{unfold kY fH;rw [AL B,AL r,H]});rw [e];refine ⟨⟨aa,h.ok.file⟩,h.pts,λk x u J=> ?_,h.tok,h.small,h.few,h.boots,h.swaps,h.clock,h.win⟩;dsimp only at u;unfold dH at u;by_cases E:k=(lookOf S.T o.path).2.1;{rw [E,upd_same] at u;cases u};{rw [bZ _ _ E] at u;exact h.dir k x u J}|false=>(have ad:(S.K.any λx=>x.i==(lookOf S.T o.path).2.1)=false:=by{rcases A with A|A|A;{rw [B] at A;cases A};{rw [hd A] at B;cases B};{exact A}});(have e:kY S o={S with T:=dH S.T (lookOf S.T o.path).2.1,F:=aT S.F (lookOf S.T o.path).2.1 none,U:=gV (aT S.F (lookOf S.T o.path).2.1 none) S.U}:=by{unfold kY fH;rw [AA (by simp [B]),AL r,H]});rw [e];refine ⟨⟨aa,λi m V=>h.ok.file i m (Aw V)⟩,h.pts.less _,λk x u J=> ?_,λx J=> ?_,h.small,h.few,h.boots,h.swaps,h.clock,h.win⟩;{dsimp only at u;unfold dH at u;by_cases E:k=(lookOf S.T o.path).2.1;{rw [E,upd_same] at u;cases u};{rw [bZ _ _ E] at u;obtain ⟨m,V⟩:=h.dir k x u J;exact ⟨m,by dsimp only;rw [Fa _ _ E];exact V⟩}};{obtain ⟨i,m,a1,a2,a3⟩:=h.tok x J;refine ⟨i,m,a1,a2,?_⟩;dsimp only;rw [Fa _ _ (λab=> ?_)];{exact a3};{have:=List.any_eq_false.1 ad x J;rw [a1,ab] at this;simp at this}})}}}
theorem aGJ {S q} (h:eY S q) (u):Fine q (oC S u):=by
 unfold oC;split;{rename_i r;refine Fine.plain (S:={S with T:=jC S.T u.path u.tq}) ⟨⟨Np h.ok.tree _ _,h.ok.file⟩,h.pts,λk x o B=> ?_,h.tok,h.small,h.few,h.boots,h.swaps,h.clock,h.win⟩ X X X;dsimp only at o ⊢;unfold jC at o;rw [AL r] at o;unfold moved at o;by_cases A:k=(lookOf S.T u.path).2.1;{rw [A,upd_same] at o;(cases o;dsimp only at B;have E:(lookOf S.T u.path).1=0:=by{unfold gI at r;split at r;{rename_i a;exact absurd r a};{rename_i a;exact BI a}});obtain ⟨y,H,hd⟩:=look_ok h.ok.tree E;rw [A];exact h.dir _ y H (by rw [hd];exact B)};{rw [bZ _ _ A] at o;exact h.dir k x o B}};{rename_i r;exact Fine.no h r (Zu _ _ _) _}
theorem aGG {F} (h:∀i m,F i=some m->1<=i/\i<=128/\eQ m) (i):0<=sJ F i/\sJ F i<65536:=by
 unfold sJ;(cases o:F i with|none=>simp|some m=>have:=(h i m o).2.2.1;dsimp only;omega)
theorem aCD {S q} (h:eY S q) (r):Fine q (rF S r):=by
 unfold rF;split;{rename_i o;have A:=Oa h.ok.tree o;exact ⟨by dsimp only;omega,λ_=>⟨rfl,λs u=>L8 (e:=0) (i:=(lookOf S.T r.path).2.1) (h:=0) X X (aGG h.ok.file _) X u⟩,h⟩};{rename_i o;exact Fine.no h o (yQ _ _) _}
theorem aAt {S q} (h:eY S q) (u):Fine q (qU S u):=by
 unfold qU;split;{exact ⟨by dsimp only;omega,λ_=>⟨rfl,λs r=>aBE h.ok.tree _ r⟩,h⟩};{rename_i o;exact Fine.no h o (aA2 _ _) _}
theorem aFm {S q} (h:eY S q) (E):Fine q (mapD S E):=by
 unfold mapD;split;{exact Fine.no h G X _};{rename_i x B;obtain ⟨i,m,r,u,o⟩:=h.tok x (CX B);rw [r,GH,o];exact ⟨by dsimp only;omega,λ_=>⟨rfl,λs A=>Ud u (h.ok.file i m o).2.2 (h.pts i m o) X A⟩,h⟩}
theorem aFi {S q} (h:eY S q) (o) (J:0<=o.c/\o.c<4):Fine (q+1) (iY S o):=by
 have A:=h.more (BZ q);unfold iY;split;{rename_i B;exact Fine.no A B (yQ _ _) _};{rename_i B;split;{exact Fine.no A G X _};{rename_i ad;split;{rename_i u;exact Fine.no A u (aFb _ _ _ _) _};{rename_i u;have B:=BI B;have u:=BI u;obtain ⟨y,V,hd⟩:=look_ok h.ok.tree B;have Q:=h.ok.tree.lt V;obtain ⟨m,E⟩:=h.dir _ y V (by rw [hd];simpa using ad);rw [E,Option.getD_some];(have ae:fP S.K o.c<4/\(eU S.K o.c (lookOf S.T o.path).2.1 o.wr).2.1=fP S.K o.c/\(∀x∈(eU S.K o.c (lookOf S.T o.path).2.1 o.wr).2.2,x=⟨o.c,fP S.K o.c,(lookOf S.T o.path).2.1,o.wr⟩\/x∈S.K)/\(eU S.K o.c (lookOf S.T o.path).2.1 o.wr).2.2.length=S.K.length+1:=by{unfold eU at u ⊢;split at u;{cases u};{rename_i a1;rw [AA a1];split at u;{cases u};{rename_i a2;rw [AA a2];refine ⟨by omega,rfl,λx r=> ?_,?_⟩;{dsimp only at r;rcases BN.1 r with r|r;{exact .inr (List.takeWhile_subset _ r)};{rcases CE.1 r with r|r;{exact .inl r};{exact .inr (List.dropWhile_subset _ r)}}};{dsimp only;rw [AB,BU];have:=BC List.length (List.takeWhile_append_dropWhile (p:=λx=>decide (0<kJ ⟨o.c,fP S.K o.c,(lookOf S.T o.path).2.1,o.wr⟩ x)) (l:=S.K));rw [AB] at this;omega}}}});obtain ⟨ag,aa,H,ab⟩:=ae;refine ⟨by dsimp only;omega,λ_=>⟨rfl,λs af=>Ud Q.2 (h.ok.file _ m E).2.2 (h.pts _ m E) (by rw [aa];omega) af⟩,⟨h.ok.tree,h.ok.file⟩,h.pts,h.dir,λx r=> ?_,λx r=> ?_,?_,A.boots,A.swaps,A.clock,h.win⟩;{rcases H x r with rfl|r;{exact ⟨_,m,rfl,Q.2,E⟩};{exact h.tok x r}};{rcases H x r with rfl|r;{exact ⟨J.1,J.2,by dsimp only;omega,by dsimp only;omega⟩};{exact h.small x r}};{dsimp only;rw [ab];have:=h.few;omega}}}}
theorem aEY {S q} (h:eY S q) (B ai E):Fine q (jG S B ai E):=by
 unfold jG;split;{exact Fine.no h G X _}
 ·rename_i x af;split;{exact Fine.no h G X _}
  ·split;{rename_i V;exact Fine.no h V (Xo _ _ _ _ _ _) _}
   ·split;{exact Fine.no h G X _}
    ·rename_i A;have A:=BI A;have ag:=CX af;obtain ⟨i,m,aa,ab,r⟩:=h.tok x ag;have J:=(h.ok.file i m r)
     obtain ⟨H,Q⟩:=Yq A J.2.2 (h.pts i m r);rw [aa,GH,r,Option.getD_some];have u:∀y∈kM B.cl S.K x,y∈S.K:=λy o=>by
      unfold kM at o;split at o;{exact (GY.1 o).1};{exact o}
     (have ad:(kM B.cl S.K x).length<=S.K.length:=by{unfold kM;split;{exact JO _ _};{exact AU _}});have ak:=H.1;refine Fine.plain ?_ X X X;unfold mZ;rw [r,Option.getD_some];refine ⟨⟨h.ok.tree,(h.ok.uK ⟨J.1,ab⟩ H).file⟩,h.pts.put i Q,λk y u hd=> ?_,λy o=> ?_,λy o=>h.small y (u y o),AV ad h.few,h.boots,h.swaps,h.clock,h.win⟩;{obtain ⟨z,ah⟩:=h.dir k y u hd;exact Am ah};{obtain ⟨j,z,a1,a2,a3⟩:=h.tok y (u y o);obtain ⟨aj,ae⟩:=Am (i:=i) (m:=E.foldl bP m) a3;exact ⟨j,aj,a1,a2,ae⟩}
theorem aAE {S q} (h:eY S q) (o):Fine (q+1) (kF S o):=by
 unfold kF;split;{have r:=h.boots;have u:=h.swaps;have A:=h.clock;exact Fine.plain (S:=uU S) ⟨⟨h.ok.tree,h.ok.file⟩,h.pts,h.dir,h.tok,h.small,Nat.le_succ_of_le h.few,by unfold uU;dsimp only;omega,by unfold uU;dsimp only;omega,by unfold uU;dsimp only;omega,h.win⟩ X X X};{exact Fine.no (h.more (BZ q)) G X _}
theorem aEv {S q} (h:eY S q) (o):Fine (q+1) (kC S o):=by
 unfold kC;split;{have r:=h.boots;have u:=h.swaps;have A:=h.clock;exact Fine.plain (S:=sN S) ⟨⟨h.ok.tree,h.ok.file⟩,h.pts,h.dir,h.tok,h.small,Nat.le_succ_of_le h.few,by unfold sN;dsimp only;omega,by unfold sN;dsimp only;omega,by unfold sN;dsimp only;omega,h.win⟩ X X X};{exact Fine.no (h.more (BZ q)) G X _}
theorem aCu {F d} (hd:dP d) (u:∀i m,F i=some m->1<=i/\i<=128/\eQ m) (A:jU F):
  (∀i m,dN F d i=some m->1<=i/\i<=128/\eQ m)/\jU (dN F d)/\∀i m,F i=some m->∃z,dN F d i=some z:=by
 unfold dN;(cases B:F d.i.toNat with|none=>exact ⟨u,A,λi m o=>⟨m,o⟩⟩|some m0=>{have r:=u _ m0 B;refine ⟨λi m o=> ?_,A.put _ (Rx (A _ m0 B) hd),λi m o=>Am o⟩;rcases zF o with ⟨rfl,rfl⟩|o;{exact ⟨r.1,r.2.1,Fz r.2.2 hd⟩};{exact u i m o}})
theorem I8:∀(o:List Dl) (F:Nat->Option cO),(∀d∈o,dP d)->(∀i m,F i=some m->1<=i/\i<=128/\eQ m)->jU F->
  (∀i m,o.foldl dN F i=some m->1<=i/\i<=128/\eQ m)/\jU (o.foldl dN F)/\∀i m,F i=some m->∃z,o.foldl dN F i=some z
 | [],F,_,hF,hp=>⟨hF,hp,λi m u=>⟨m,u⟩⟩
 | d::r,F,hd,hF,hp=>by
  obtain ⟨a1,a2,a3⟩:=aCu (hd d D) hF hp;obtain ⟨A,B,E⟩:=I8 r (dN F d) (λx H=>hd x (by simp [H])) a1 a2;refine ⟨A,B,λi m u=> ?_⟩;obtain ⟨z,J⟩:=a3 i m u;exact E i z J
theorem U8 {S q} (h:eY S q) (A B r):Fine (q+1) (jO S A B r):=by
 have o:=h.more (BZ q);unfold jO;split;{exact Fine.no o G X _};{split;{rename_i Q;exact Fine.no o Q (Xo _ _ _ _ _ _) _};{split;{exact Fine.no o G X _};{rename_i u;have u:=BI u;obtain ⟨a1,a2,a3⟩:=I8 r S.F (λd hd=>(u d hd).1) h.ok.file h.pts;have af:=h.clock;refine Fine.plain (S:=sK S B r A.nx) ⟨⟨h.ok.tree,a1⟩,a2,λk y V hd=> ?_,λy ab=> ?_,h.small,o.few,o.boots,o.swaps,?_,h.win⟩ X X X;{obtain ⟨z,ad⟩:=h.dir k y V hd;exact a3 k z ad};{obtain ⟨j,z,E,H,J⟩:=h.tok y ab;obtain ⟨ae,aa⟩:=a3 j z J;exact ⟨j,ae,E,H,aa⟩};{unfold sK iE;dsimp only;omega}}}}
theorem apply_nil (d w):Calls prog 116 #[.pointer none,iQ d] w λe w'=>(∃v b,e=.returned (.tuple #[v,.bool b]))/\Fr No w w':=by
 have o:=lH ((Fr.refl (S:=No) w).alloc (.cells (dD d).toArray 61));unfold dD at o;unfold iQ;generalize r:(λ(e:Ending) (w':World)=>(∃v b,e=.returned (.tuple #[v,.bool b]))/\Fr No w w')=A;have u:Hid (∀e w',(∃v b,e=.returned (.tuple #[v,.bool b]))->Fr No w w'->A e w'):=λe w' B f=>by rw [<-r];exact ⟨B,f⟩
 clear r;go_enter func116,ntmps116;exact aC (u.o _ _ ⟨_,_,rfl⟩ o.o)
def Ej (K c:Nat):Prop:=∃i,i<=128/\fJ K i c
theorem lK.nothing {w A K o n F} (h:lK w A K o n F) {i} (B:i<=128) (r:F i=none):
  ∀w',Fr No w w'->(Instr.lookup 128 (.map (some o)) (Z i) false).run prog w'=.ok (.pointer none) w':=λw' f=>by
 obtain ⟨fp,u,_⟩:=h.look i X;have:=u w' f;unfold yD at this;rw [r] at this;exact this
theorem aBN (B K n L S r gg fo u o w) (h:aV w B K L S n) (ok:aG S) (gf:jU S.F) (ar:aF w B) (ec:aZ fD 4 w B gg u) (hd:aZ dD 14 w B fo o) (ea:∀x∈u,jM x.1) (iu:0<=S.clock/\S.clock<=1000000) (fx:u.length<=1000) (fu:o.length<=1000) (da:n<=900000):
  Calls prog 65 #[Y L.s,.agg (r.cells gg fo)] w (bH w B K L (n+u.length) (jO S r u o)):=by
 have bq:prog.follows .mixedOrders=true:=N
 obtain ⟨bs,cs,rfl⟩:=ec.slice;obtain ⟨an,ao,rfl⟩:=hd.slice;obtain ⟨cu,ga,ee,cm,al⟩:=begun h ok ar r _ _;have av:=lH cu;have dv:=lH (ec.no ar cu);have fh:=lH (hd.no ar cu);have ff:Hid (∀w',Fr No (dG w r (.slice bs u.length cs) (.slice an o.length ao)) w'->Calls prog 112 #[Y L.s,.agg (r.cells (.slice bs u.length cs) (.slice an o.length ao)),Z 4,S.boots] w' (wY w' u.length (dW S r.sw r.nx u 4 S.boots))):=
  lH (λw' f=>Py B K n L S r _ _ u 4 S.boots w' (cm.no ok al f) ok (Step.no (C:=λ_=>False) al f).fresh (dv.o.no al f) ea X X)
 have ep:Hid (∀w',Fr No (dG w r (.slice bs u.length cs) (.slice an o.length ao)) w'->Calls prog 115 #[Y L.s,.agg (r.cells (.slice bs u.length cs) (.slice an o.length ao)),Z 4] (w'.setCell (I L.s 2) (Z (S.clock+1))) (xB (w'.setCell (I L.s 2) (Z (S.clock+1))) B K L (n+u.length) (iE {S with clock:=S.clock+1} u 4 r.nx))):=
  lH (λw' f=>by
   obtain ⟨gi,ii⟩:=(cm.no ok al f).set (S':={S with clock:=S.clock+1}) ok (Step.no (C:=λ_=>False) al f).fresh 2 (Z (S.clock+1)) (by simp [mD]) rfl rfl rfl rfl rfl;exact Rf B K n L {S with clock:=S.clock+1} r _ _ u 4 _ ii ⟨ok.tree,ok.file⟩ gi.fresh ((dv.o.no al f).step gi X) ea X X X)
 have fe:=lH (Yc S r.sw r.nx u 4 S.boots);have bm:Hid (∀c,c≠0->jO S r u o=(c,bT,S)->∀e w',e=.panicked (kH c)->Fr No w w'->bH w B K L (n+u.length) (jO S r u o) e w'):=λc bo dx e w' aq f=>by
  rw [dx];exact bH.no (h.more (Nat.le_add_right _ _)) ok ar bo aq f
 have hb:Hid (∀S',jO S r u o=(0,iW 0 0 0 0 0 false,S')->aG S'->∀e w' df aj ef,e=.returned (lG 0 0 0 0 0 false)->Fr No w w'->w.heap.size+1<w'.heap.size->Step (bF K) w' B df ef->aV df ef K L S' (n+u.length)->Fr (λj=>j=w.heap.size+1) df aj->bH w B K L (n+u.length) (jO S r u o) e aj):=λS' dx ig e w' df aj ef aq f ie s t g=>by
  rw [dx];exact bH.yes ar f s (λ_ e=>e) X ie g ig t aq (mV.plain _ _ _ _ _ _ _)
 have cc:jO S r u o=if ¬(r.c=4/\r.l=S.boots) then (17,bT,S)
   else if (dW S r.sw r.nx u 4 S.boots).1≠0 then ((dW S r.sw r.nx u 4 S.boots).1,bT,S)
   else if ¬(∀d∈o,oD (dW S r.sw r.nx u 4 S.boots).2 d) then (4,bT,S)
   else (0,iW 0 0 0 0 0 false,sK S u o r.nx):=rfl
 generalize jO S r u o=ak at*;generalize hy:bH w B K L _ ak=iq at*;clear hy;generalize hx:dW S r.sw r.nx u 4 S.boots=H at*;clear hx;(have dl:Hid (¬(r.c=4/\r.l=S.boots)->ak=(17,bT,S)):=λap=>by rw [cc,AL ap]);(have eq:Hid (r.c=4/\r.l=S.boots->H.1≠0->ak=(H.1,bT,S)):=λap ab=>by rw [cc,AA (λbi=>bi ap),AL ab]);(have er:Hid (r.c=4/\r.l=S.boots->H.1=0->¬(∀d∈o,oD H.2 d)->ak=(4,bT,S)):=λap ab dw=>by rw [cc,AA (λbi=>bi ap),AA (by simp [ab]),AL dw]);(have et:Hid (r.c=4/\r.l=S.boots->H.1=0->(∀d∈o,oD H.2 d)->ak=(0,iW 0 0 0 0 0 false,sK S u o r.nx)):=λap ab dw=>by rw [cc,AA (λbi=>bi ap),AA (by simp [ab]),AA (λbi=>bi dw)]);clear cc;have ex:=lH cm;have bz:=lH al;have bl:=lH ok;have gw:=lH fx;have fa:=lH fu;have gy:=lH da;have ha:=lH gf;have fd:Hid (B w.heap.size=0/\B (w.heap.size+1)=0):=lH ⟨ar _ (AU _),ar _ (BZ _)⟩;(have iv:IntKind.i64.wrap (S.clock+1)=S.clock+1:=by rw [BG];omega);clear cm al cu h ok ar gf ec hd ea fx fu da dv;unfold dG aH.cells bT aW.cells at*;go_enter func65,ntmps65;go_upto_region 1 with fail
 generalize (w.alloc _).alloc (.cells (cE 0) 29)=w0 at*;have B1:=lH (lt_of_block ee);generalize ir:w.heap.size=ah at*;have ai:Fr No w0 w0.drew:=(Fr.refl _).drew;have cb:Hid (Zero w0 B ah (.cells (cR r (.slice bs u.length cs) (.slice an o.length ao)) 36 (0,0))):=lH ⟨ga,fd.o.1⟩;have hq:Hid (Zero w0 B (ah+1) (.cells (cE 0) 29 (0,0))):=lH ⟨ee,fd.o.2⟩;have bv:Hid (w0.drew.cell? (I L.s 0)=some (Z S.boots)):=ai.cell_of (ex.o.cell 0) id;have cj:Hid (w0.drew.cell? (I ah 0)=some (Z r.c)):=lH (by rw [aA (cb.o.no ai).1];rfl);have D1:Hid (w0.drew.cell? (I ah 1)=some (Z r.l)):=lH (by rw [aA (cb.o.no ai).1];rfl);have gq:=lH ai;clear ga ee ai;cases cw:(r.c==4) with
 | false=>
  have aa:Hid (ak=(17,bT,S)):=dl.o (λh=>by rw [h.1] at cw;simp at cw);have e0:=cj.o;have bb:=D1.o;have bc:=bv.o;refine bU [14] ?_ bq;clear e0 bb bc;go_wp2_with fail;refine cr (gQ _ _) ?_;rintro ci rfl;go_wp2_with fail;exact ⟨rfl,bm 17 G aa _ _ rfl (av.o.trans (Fr.refl (S:=No) w0).drew zq)⟩
 | true=>
  cases cx:(r.l==S.boots) with
  | false=>
   have aa:Hid (ak=(17,bT,S)):=dl.o (λh=>by rw [h.2] at cx;simp at cx);have e0:=cj.o;have bb:=D1.o;have bc:=bv.o;refine bU [14] ?_ bq;clear e0 bb bc;go_wp2_with fail;refine cr (gQ _ _) ?_;rintro ci rfl;go_wp2_with fail;exact ⟨rfl,bm 17 G aa _ _ rfl (av.o.trans (Fr.refl w0).drew zq)⟩
  | true=>
   have ds:Hid (r.c=4/\r.l=S.boots):=lH ⟨by simpa using cw,by simpa using cx⟩;have e0:=cj.o;have bb:=D1.o;have bc:=bv.o;refine bU [14] ?_ bq;clear e0 bb bc;go_wp2_with fail;refine cr (iR _ _) ?_;rintro ci rfl;go_upto_region 2 with fail
   generalize w0.drew=bt at*;have gp:=gq;have ai:Fr No bt bt.drew:=(Fr.refl _).drew;have ck:=lH (gp.o.trans ai zq);have gn:=lH (ai.cell_of bv id);have hj:Hid (bt.drew.rangeAt ah 0 (cR r (.slice bs u.length cs) (.slice an o.length ao))):=DR (cb.o.no ck).1 0 14;have dt:=lH (ff.o bt.drew ck);unfold wY at dt;clear ff ai cw cx cj D1 bv;refine qC bq (λW=>W=bt.drew) [6,7] N N N N (λ_ _ d _ _ h=>by cases d<;>exact h) rfl ?_;repeat (first
    | refine lJ R ?_
    | (refine kW (v:= ?_) R R ?_ ?_
       rotate_left 1;(intro W;go_simp;(try with_reducible rfl))
       simp only [pT,aI,lsS])
    | (refine nV R R ?_
       simp only [pT,aI,lsS])
    | (refine kE (v:=.agg (cR r (.slice bs u.length cs) (.slice an o.length ao))) R N R (λW A=>l7 36 (.tmp 3) R ah 0 R (cR r (.slice bs u.length cs) (.slice an o.length ao)) _ (by rw [A];exact hj.o) underlying36 rfl Tryz.yN) ?_
       simp only [pT,aI,lsS])
    | (refine kE (v:= ?_) R N R ?_ ?_
       rotate_left 1;(intro W A;have e0:W.cell? (I L.s 0)=some (Z S.boots):=(by rw [A];exact gn.o);clear A;go_simp;(try with_reducible rfl))
       simp only [pT,aI,lsS]))
   intro W A;obtain rfl:W=bt.drew:=A;simp only [DF,DT,DK,CP];go_wp2_with fail;refine dt.o.mono ?_;rintro e wS ⟨cv,aq⟩;by_cases bj:H.1=0
   ·rw [AL bj] at aq;obtain ⟨gb,gc,rfl,fy,ib,ic⟩:=aq;have ev:=lH bj;have fc:=lH fy;have cl:=lH (ck.o.trans cv zq);have hv:=lH (cb.o.no cl);have gh:=aA hv.o.1;clear bj fy ib ic cv dt;go_wp2_with fail;go_loopw [35] (λa wr=>∃j:Nat,a=Z j/\j<=o.length/\Hid (∀d∈o.take j,oD H.2 d)/\Hid (Fr No wS wr)) (λa _=>o.length - (intOf a).toNat);case atStart=>exact ⟨0,rfl,BA _,lH D,lH (Fr.refl _)⟩
    case round=>
     obtain ⟨j,rfl,ia,dm,cn⟩:=hrel;have V:=lH (cl.o.trans cn zq);by_cases Q:j<o.length
     ·have bo:o≠ []:=by{intro e;subst e;simp at Q}
      obtain ⟨b,off,rfl,eb,dy,cg⟩:=(fh.o.no bz V).at bo;have ca:=lH (cg j o[j] (AC Q));have gt:Hid (oD H.2 o[j]->∀z∈o.take (j+1),oD H.2 z):=λhd z bp=>by
       rw [DJ,AC Q,JP] at bp;rcases BN.1 bp with bp|bp;{exact dm.o z bp};{rw [BB.1 bp];exact hd}
      have dn:Hid (¬oD H.2 o[j]->ak=(4,bT,S)):=λda=>er.o ds ev (λh=>da (h _ (BL Q)));have eh:(j:Int)<(o.length:Int):=X;have ih:(0:Int)<=(j:Int):=X;have hz:=fa.o;generalize o[j]=d at*;unfold dD at ca;have aw:=lH ((Fr.refl (S:=No) wr).alloc (.cells (cV d) 61));have ae:=lH (aQ wr (.cells (cV d) 61));clear cg eb dy gh;go_upto_region 6 with (refine wL 61 ca ?_);generalize wr.alloc _=E at*;generalize wr.heap.size=af at*;have ax:=lH (Sv d E);unfold Ci iQ at ax;(cases bh:decide (dP d) with|false=>{rw [bh] at ax;have aa:=lH (dn.o (λh=>by rw [DV] at bh;exact bh h.1));clear bh;go_wp2_with (refine wR 61 ae ?_);refine cr ax.o λaj J=> ?_;have ag:=lH (aw.o.trans J zq);have ad:=J.aB ae id;have eg:=aA ad;clear ad J;go_wp2_with fail;refine cr (gQ _ _) ?_;rintro ci rfl;go_wp2_with fail;exact ⟨rfl,bm 4 G aa _ _ rfl (av.o.trans (V.o.trans ag zq) zq)⟩}|true=>rw [bh] at ax;have fb:=lH (EE bh);have cp:=lH fb.o.2.2.2.2.2.2.1;clear bh;(cases ab:(d.k==3) with|false=>{have aa:=lH (dn.o (λh=>by rw [h.2.1] at ab;simp at ab));go_wp2_with (refine CO rfl 61 (.tmp 7) rfl af rfl 61 _ (0,0) _ ae underlying61 rfl Tryz.oP ?_);refine cr ax.o λaj J=> ?_;have ag:=lH (aw.o.trans J zq);have ad:=J.aB ae id;have eg:=aA ad;clear ad J;go_wp2_with fail;refine cr (gQ _ _) ?_;rintro ci rfl;go_wp2_with fail;exact ⟨rfl,bm 4 G aa _ _ rfl (av.o.trans (V.o.trans ag zq) zq)⟩}|true=>have gv:Hid (d.k=3):=lH (U ab);(cases be:uI H.2 d.t with|true=>{have dp:Hid (oD H.2 d):=lH ⟨fb,gv,be⟩;go_wp2_with (refine CO rfl 61 (.tmp 7) rfl af rfl 61 _ (0,0) _ ae underlying61 rfl Tryz.oP ?_);refine cr ax.o λaj J=> ?_;have ag:=lH (aw.o.trans J zq);have ad:=J.aB ae id;have eg:=aA ad;have ay:=lH (Dp gb gc H.2 d.t aj (fc.o.fr (cn.o.trans ag zq) id) (rY cp).1 (show I64 _ by have:=(rY cp).2;unfold I64;omega) (λy e ed=>by have:=fe.o y e ed;unfold I64;omega));unfold dF at ay;rw [be] at ay;have di:=lH J;clear ad J be;go_wp2_with fail;refine cr ay.o λil bd=> ?_;have el:=lH (ag.o.trans bd zq);have em:=lH (di.o.trans bd zq);clear bd;go_wp2_with fail;refine cr (iR _ _) ?_;rintro ci rfl;go_wp2_with fail;go_roundw;{exact ⟨j+1,by go_num,Q,lH (gt.o dp),lH (cn.o.trans (aw.o.trans em zq) zq)⟩};simp [intOf];omega}|false=>{have aa:=lH (dn.o (λh=>by rw [h.2.2] at be;cases be));go_wp2_with (refine CO rfl 61 (.tmp 7) rfl af rfl 61 _ (0,0) _ ae underlying61 rfl Tryz.oP ?_);refine cr ax.o λaj J=> ?_;have ag:=lH (aw.o.trans J zq);have ad:=J.aB ae id;have eg:=aA ad;have ay:=lH (Dp gb gc H.2 d.t aj (fc.o.fr (cn.o.trans ag zq) id) (rY cp).1 (show I64 _ by have:=(rY cp).2;unfold I64;omega) (λy e ed=>by have:=fe.o y e ed;unfold I64;omega));unfold dF at ay;rw [be] at ay;have di:=lH J;clear ad J be;go_wp2_with fail;refine cr ay.o λil bd=> ?_;have el:=lH (ag.o.trans bd zq);have em:=lH (di.o.trans bd zq);clear bd;go_wp2_with fail;refine cq (gQ _ _) ?_;go_wp2_with fail;exact ⟨rfl,bm 4 G aa _ _ rfl (av.o.trans (V.o.trans el zq) zq)⟩})))
     ·(have cf:j=o.length:=X);have dk:Hid (∀d∈o,oD H.2 d):=lH (by have:=dm.o;rw [cf,AY] at this;exact this);have eh:¬(j:Int)<(o.length:Int):=X;obtain ⟨bu,rfl⟩:∃bu:World,bu=wr:=⟨_,rfl⟩;have gs:=lH (et.o ds ev dk);have dj:=lH (ep.o bu V);unfold xB at dj;have cy:=ex.o.no bl bz V.o;have c2:bu.cell? (I L.s 2)=some (Z S.clock):=cy.cell 2;have im:bu.frozen? (I L.s 2)=false:=aU cy.cs 2;obtain ⟨ch,ij⟩:=cy.set (S':={S with clock:=S.clock+1}) bl (Step.no (C:=λ_=>False) bz V).fresh 2 (Z (S.clock+1)) (by simp [mD]) rfl rfl rfl rfl rfl;have hl:Hid (Step (bF K) w0 B (bu.setCell (I L.s 2) (Z (S.clock+1))) B):=((Step.no (C:=λ_=>False) bz V).mono (λ_ e=>e.elim)).trans (ch.mono (λc e=>by unfold bF;omega)) (λ_ e=>e);have fk:=lH ((cb.o.no V).step ch X);have hs:=lH ((hq.o.no V).step ch X);have hi:=lH ((fh.o.no bz V).step ch X);clear cf gh dm dl eq er et ep cy ch ij;go_wp2_with (refine CO rfl 36 (.tmp 3) rfl ah rfl 36 _ (0,0) _ fk.o.1 underlying36 rfl Tryz.yN ?_);refine cr dj.o ?_;rintro ej ⟨dd,br,gk⟩;have hk:Hid (Step (bF K) w0 B ej dd):=hl.o.trans (br.mono (λc e=>by unfold bF;omega)) (λ_ e=>e);have ho:=lH gk;have hu:=lH (fk.o.step br X);have hr:=lH (hs.o.step br X);have hh:=lH (hi.o.step br X);have ip:Hid (aG (iE {S with clock:=S.clock+1} u 4 r.nx)):=lH ⟨bl.o.tree,bl.o.file⟩;have fl:=aA hu.o.1;have gu:=lH br.fresh;clear br gk dj c2 im;go_wp2_with fail;go_loopw [67] (λa wr=>∃(j:Nat) (au:Nat->Nat),a=Z j/\j<=o.length/\Hid (Step (Ej K) ej dd wr au)/\Hid (aV wr au K L {iE {S with clock:=S.clock+1} u 4 r.nx with F:=(o.take j).foldl dN S.F} (n+u.length))) (λa _=>o.length - (intOf a).toNat);case atStart=>exact ⟨0,dd,rfl,BA _,lH (Step.refl gu),ho⟩
      case round=>
       obtain ⟨j,au,rfl,ia,az,ct⟩:=hrel;have gd:¬Ej K 0:=(by unfold Ej fJ;rintro ⟨i,_,h⟩;omega);have fz:∀d∈o.take j,dP d:=λd hd=>(dk.o d (FT hd)).1;have co:=lH (I8 (o.take j) S.F fz bl.o.file ha);have am:Hid (aG {iE {S with clock:=S.clock+1} u 4 r.nx with F:=(o.take j).foldl dN S.F}):=lH ⟨bl.o.tree,co.o.1⟩;clear fz;by_cases Q:j<o.length
       ·have bo:o≠ []:=by{intro e;subst e;simp at Q}
        obtain ⟨b,off,rfl,eb,dy,cg⟩:=(hh.o.step az gd).at bo;have ca:=lH (cg j o[j] (AC Q));have dp:Hid (oD H.2 o[j]):=dk.o _ (BL Q);have fg:Hid ((o.take (j+1)).foldl dN S.F=dN ((o.take j).foldl dN S.F) o[j]):=lH (by
         rw [DJ,AC Q,JP,IZ];rfl)
        have eh:(j:Int)<(o.length:Int):=X;have ih:(0:Int)<=(j:Int):=X;have hz:o.length<=1000:=fa.o;generalize o[j]=d at*;unfold dD at ca;generalize (o.take j).foldl dN S.F=bk at*;have aw:=lH ((Fr.refl (S:=No) wr).alloc (.cells (cV d) 61));have ae:=lH (aQ wr (.cells (cV d) 61));clear cg eb dy fl bo;go_upto_region 13 with (refine wL 61 (cs:=(cV d)) ca ?_);generalize wr.alloc (.cells (cV d) 61)=E at*;generalize wr.heap.size=af at*;have bw:Fr No wr E.drew:=aw.o.trans (Fr.refl _).drew zq;have ce:=az.o.fresh;have bn:=ct.o.no am ce bw;have dz:aF E.drew au:=(Step.no (C:=λ_=>False) ce bw).fresh;have cd:=dp.o.1;obtain ⟨i,bg⟩:∃i:Nat,d.i=(i:Int):=⟨d.i.toNat,by have:=cd.1;omega⟩;have cz:i<=128:=(by have:=cd.2.1;omega)
        have db:=(Fr.refl (S:=No) E).drew.aB ae id;have fi:Hid (E.drew.rangeAt af 0 (cV d)):=DR db 0 14;have ek:Hid (E.drew.cell? (I L.s 11)=some (.map (some L.fl))):=bn.cell 11;have eo:Hid (E.drew.cell? (I af 1)=some (Z d.i)):=lH (by rw [aA db];rfl);have he:=lH bn;have ew:=lH bw;have dq:=lH ce;have io:=lH bg;cases bf:bk i with
        | none=>
         have dr:Hid ((Instr.lookup 128 (.map (some L.fl)) (Z d.i) false).run prog E.drew=.ok (.pointer none) E.drew):=lH (by rw [bg];exact bn.files.nothing cz bf _ (Fr.refl _));have bx:=lH (apply_nil d E.drew);unfold iQ at bx;have du:Hid (dN bk d=bk):=lH (by unfold dN;rw [bg,GH,bf]);clear bw ce bn dz db cd bg bf cz;refine qC bq (λW=>W=E.drew) [8] N N N N (λ_ _ d _ _ h=>by cases d<;>exact h) rfl ?_;repeat (first
          | refine lJ R ?_
          | (refine kW (v:= ?_) R R ?_ ?_
             rotate_left 1;(intro W;go_simp;(try with_reducible rfl))
             simp only [pT,aI,lsS])
          | (refine nV R R ?_
             simp only [pT,aI,lsS])
          | (refine kE (v:=.agg (cV d)) R N R (λW A=>l7 61 (.tmp 9) R af 0 R (cV d) _ (by rw [A];exact fi.o) underlying61 rfl Tryz.oP) ?_
             simp only [pT,aI,lsS])
          | (refine kE (v:= ?_) R N R ?_ ?_
             rotate_left 1;(intro W A;have e0:W.cell? (I L.s 11)=some (.map (some L.fl)):=(by rw [A];exact ek.o);have bb:W.cell? (I af 1)=some (Z d.i):=(by rw [A];exact eo.o);have bc:(Instr.lookup 128 (.map (some L.fl)) (Z d.i) false).run prog W=.ok (.pointer none) W:=(by rw [A];exact dr.o);clear A;go_simp;(try with_reducible rfl))
             simp only [pT,aI,lsS]))
         intro W A;obtain rfl:W=E.drew:=A;simp only [DF,DT,DK,CP];go_wp2_with fail;refine bx.o.mono ?_;rintro e dg ⟨⟨ik,hw,rfl⟩,fq⟩;have en:=lH (ew.o.trans fq zq);clear fq;go_wp2_with fail;go_roundw;{exact ⟨j+1,au,by go_num,Q,lH (az.o.trans ((Step.no (C:=λ_=>False) dq en).mono (λ_ e=>e.elim)) (λ_ e=>e)),by rw [fg.o,du.o];exact lH (ct.o.no am dq en)⟩};simp [intOf];omega
        | some mj=>
         obtain ⟨p,fw,ft,fs⟩:=bn.files.turn am.o.file (i:=i) (m:=mj) bf;have dr:Hid ((Instr.lookup 128 (.map (some L.fl)) (Z d.i) false).run prog E.drew=.ok (Y p) E.drew):=lH (by rw [bg];exact fw _ (Fr.refl _));have bx:=lH (Qo au K i p mj d E.drew ft dz X (co.o.1 i mj bf).2.2 cd);unfold uQ kL iQ at bx;have gr:=lH fs;have du:Hid (dN bk d=aT bk i (some (bP mj d))):=lH (by unfold dN;rw [bg,GH,bf]);have ez:=lH cz;clear bw ce bn dz fw ft fs db cd bg bf cz;refine qC bq (λW=>W=E.drew) [8] N N N N (λ_ _ d _ _ h=>by cases d<;>exact h) rfl ?_;repeat (first
          | refine lJ R ?_
          | (refine kW (v:= ?_) R R ?_ ?_
             rotate_left 1;(intro W;go_simp;(try with_reducible rfl))
             simp only [pT,aI,lsS])
          | (refine nV R R ?_
             simp only [pT,aI,lsS])
          | (refine kE (v:=.agg (cV d)) R N R (λW A=>l7 61 (.tmp 9) R af 0 R (cV d) _ (by rw [A];exact fi.o) underlying61 rfl Tryz.oP) ?_
             simp only [pT,aI,lsS])
          | (refine kE (v:= ?_) R N R ?_ ?_
             rotate_left 1;(intro W A;have e0:W.cell? (I L.s 11)=some (.map (some L.fl)):=(by rw [A];exact ek.o);have bb:W.cell? (I af 1)=some (Z d.i):=(by rw [A];exact eo.o);have bc:(Instr.lookup 128 (.map (some L.fl)) (Z d.i) false).run prog W=.ok (Y p) W:=(by rw [A];exact dr.o);clear A;go_simp;(try with_reducible rfl))
             simp only [pT,aI,lsS]))
         intro W A;obtain rfl:W=E.drew:=A;simp only [DF,DT,DK,CP];go_wp2_with fail;refine bx.o.mono ?_;rintro e dg ⟨⟨ik,hw,rfl⟩,dc,de,gj⟩;have hc:Hid (Step (Ej K) ej dd dg dc):=az.o.trans (((Step.no (C:=λ_=>False) dq ew).mono (λ_ e=>e.elim)).trans (de.mono (λc e=>⟨i,ez,e⟩)) (λ_ e=>e)) (λ_ e=>e);have hf:Hid (aV dg dc K L {iE {S with clock:=S.clock+1} u 4 r.nx with F:=dN bk d} (n+u.length)):=lH (by
          rw [du.o];exact he.o.uK ez am de (gr.o dg dc _ de gj))
         clear de gj;go_wp2_with fail;go_roundw;{exact ⟨j+1,dc,by go_num,Q,hc,by rw [fg.o];exact hf⟩};simp [intOf];omega
       ·(have cf:j=o.length:=X);have eh:¬(j:Int)<(o.length:Int):=X;rw [cf,AY] at co am ct;obtain ⟨dh,rfl⟩:∃dh:World,dh=wr:=⟨_,rfl⟩;have ht:=lH (hr.o.step az gd);have hn:Hid (Step (bF K) w0 B dh au):=hk.o.trans (az.o.mono (λc e=>by obtain ⟨i,ap,ab⟩:=e;unfold fJ at ab;unfold bF;omega)) (λ_ e=>e);have eu:=lH (Ja au K (n+u.length) L _ dh ct am co.o.2.1 az.o.fresh (by have:=gy.o;have:=gw.o;omega));unfold zB at eu;clear cf fl;go_wp2_with fail;refine cr eu.o ?_;rintro gm ⟨ge,ei,gl⟩;have fj:=lH (ht.o.step ei X);have hm:Hid (Step (bF K) w0 B gm ge):=hn.o.trans (ei.mono (λc e=>by unfold bF;omega)) (λ_ e=>e);have hp:=lH gl;have it:∀w':World,(Instr.build 29 #[]).run prog w'=.ok (.agg (cE 0)) w':=λw'=>by kernel_rfl
        have gz:=lH (show ((cE 0):Array Value).all (·.oneCell')=true from by simp [Value.oneCell']);clear ei gl;go_wp2_with (refine BQ rfl 29 (.tmp 4) (.tmp 83) rfl (ah+1) (cE 0) rfl rfl 29 _ fj.o.1 Tryz.size29 rfl gz ?_);have hg:=aX (cs':=(cE 0)) fj.o.1;exact AZ (v:=lG 0 0 0 0 0 false) (BD rfl _ _ (ah+1) 29 _ (0,0) _ rfl hg underlying29 rfl Tryz.size29) rfl
         (hb.o _ gs.o ⟨am.o.tree,am.o.file⟩ _ w0 gm _ ge rfl av.o B1.o hm.o hp.o fR)
   {rw [AA bj] at aq;subst aq;have aa:=lH (eq.o ds bj);have cl:=lH (ck.o.trans cv zq);have gx:=lH bj;clear cv bj;go_wp2_with fail;exact ⟨rfl,bm _ gx aa _ _ rfl (av.o.trans cl zq)⟩}
theorem aDV (A K n L S o u r w) (h:aV w A K L S n) (ok:aG S) (B:aF w A) (bb:0<=S.boots/\S.boots<=1000000) (bc:0<=S.swaps/\S.swaps<=1000000) (bd:0<=S.clock/\S.clock<=1000000):
  Calls prog 63 #[Y L.s,.agg (o.cells u r)] w (bH w A K L n (kF S o)):=by
 obtain ⟨ab,an,ag,E,aj⟩:=begun h ok B o u r;have av:=lH ab;have am:=lt_of_block ag;have al:=B _ (BZ _);have d0:(dG w o u r).cell? (I w 0)=some (Z o.c):=by rw [aA an];rfl
 have bf:(dG w o u r).cell? (I L.s 0)=some (Z S.boots):=E.cell 0;have z0:(dG w o u r).frozen? (I L.s 0)=false:=aU E.cs 0;obtain ⟨ah,J⟩:=E.set (S':={S with boots:=S.boots+1}) ok aj 0 (Z (S.boots+1)) (by simp [mD]) rfl rfl rfl rfl rfl;have ao:aG ({S with boots:=S.boots+1}):=⟨ok.tree,ok.file⟩
 have c1:((dG w o u r).setCell (I L.s 0) (Z (S.boots+1))).cell? (I L.s 2)=some (Z S.clock):=J.cell 2;have bk:((dG w o u r).setCell (I L.s 0) (Z (S.boots+1))).frozen? (I L.s 2)=false:=aU J.cs 2;obtain ⟨ai,Q⟩:=J.set (S':={S with boots:=S.boots+1,clock:=S.clock+1}) ao ah.fresh 2 (Z (S.clock+1)) (by simp [mD]) rfl rfl rfl rfl rfl;have ap:aG ({S with boots:=S.boots+1,clock:=S.clock+1}):=⟨ok.tree,ok.file⟩
 have c2:(((dG w o u r).setCell (I L.s 0) (Z (S.boots+1))).setCell (I L.s 2) (Z (S.clock+1))).cell? (I L.s 7)=some (Z (S.next 4)):=Q.cell 7;have bl:(((dG w o u r).setCell (I L.s 0) (Z (S.boots+1))).setCell (I L.s 2) (Z (S.clock+1))).frozen? (I L.s 7)=false:=aU Q.cs 7;obtain ⟨ar,au⟩:=Q.set (S':=uU S) ap ai.fresh 7 (Z (0)) (Ih L {S with boots:=S.boots+1,clock:=S.clock+1} 4 X 0) rfl rfl rfl rfl rfl;have aq:aG (uU S):=⟨ok.tree,ok.file⟩
 have aa:Step (λc=>c=K+8) (dG w o u r) A ((((dG w o u r).setCell (I L.s 0) (Z (S.boots+1))).setCell (I L.s 2) (Z (S.clock+1))).setCell (I L.s 7) (Z (0))) A:=((ah.trans ai (λ_ e=>e)).trans ar (λ_ e=>e))
 have ak:=lH (aa.block ag (by rw [al];omega));have ay:Hid (o.c≠4->∀e w',e=.panicked (kH 17)->Fr No w w'->bH w A K L n (kF S o) e w'):=λaf e w' ae f=>by
  unfold kF;rw [AA af];exact bH.no h ok B G ae f
 have ax:Hid (o.c=4->∀e V,e=.returned (lG 0 0 0 0 0 false)->Fr (λj=>j=w.heap.size+1) ((((dG w o u r).setCell (I L.s 0) (Z (S.boots+1))).setCell (I L.s 2) (Z (S.clock+1))).setCell (I L.s 7) (Z (0))) V->bH w A K L n (kF S o) e V):=λad e V ae g=>by
  unfold kF;rw [AL ad];exact bH.yes B ab aa (λc e=>by unfold bF;omega) (BZ _) am g aq au ae (mV.plain _ _ _ _ _ _ _)
 generalize bH w A K L n (kF S o)=be at*;have bh:IntKind.i64.wrap (S.boots+1)=S.boots+1:=by rw [BG];omega
 have bi:IntKind.i64.wrap (S.swaps+1)=S.swaps+1:=by rw [BG];omega
 have V:IntKind.i64.wrap (S.clock+1)=S.clock+1:=by rw [BG];omega
 have bg:∀w':World,(Instr.build 29 #[]).run prog w'=.ok (.agg (cE 0)) w':=λw'=>by kernel_rfl
 have aw:=lH (show ((cE 0):Array Value).all (·.oneCell')=true from by simp [Value.oneCell']);clear ah J ao ai Q ap ar au aq aa E aj an ag ab h ok B bb bc bd al am;unfold dG aH.cells bT aW.cells at*;go_enter func63,ntmps63;go_wp2_with fail;generalize (w.alloc (.cells (cR o u r) 36)).alloc (.cells (cE 0) 29)=w0 at*;cases H:(o.c==4) with
 | false=>
  have af:o.c≠4:=by simpa using H
  try rw [H]
  go_wp2_with fail;refine cr (gQ _ _) ?_;rintro bj rfl;go_wp2_with fail;exact ⟨rfl,ay af _ _ rfl av⟩
 | true=>
  have ad:o.c=4:=by simpa using H
  try rw [H]
  go_wp2_with fail;refine cq (iR _ _) ?_;go_wp2_with (refine BQ rfl 29 (.tmp 4) (.tmp 28) rfl (w.heap.size+1) (cE 0) rfl rfl 29 _ ak Tryz.size29 rfl aw ?_);have az:=aX (cs':=(cE 0)) ak.o;exact AZ (v:=lG 0 0 0 0 0 false) (BD rfl _ _ (w.heap.size+1) 29 _ (0,0) _ rfl az underlying29 rfl Tryz.size29) rfl
   (ax.o ad _ _ rfl fR)
theorem Zi (A K n L S o u r w) (h:aV w A K L S n) (ok:aG S) (B:aF w A) (ax:0<=S.boots/\S.boots<=1000000) (ay:0<=S.swaps/\S.swaps<=1000000) (az:0<=S.clock/\S.clock<=1000000):
  Calls prog 64 #[Y L.s,.agg (o.cells u r)] w (bH w A K L n (kC S o)):=by
 obtain ⟨aa,al,af,E,ah⟩:=begun h ok B o u r;have aq:=lH aa;have ak:=lt_of_block af;have aj:=B _ (BZ _);have d0:(dG w o u r).cell? (I w 0)=some (Z o.c):=by rw [aA al];rfl
 have bc:(dG w o u r).cell? (I L.s 1)=some (Z S.swaps):=E.cell 1;have z0:(dG w o u r).frozen? (I L.s 1)=false:=aU E.cs 1;obtain ⟨ag,J⟩:=E.set (S':={S with swaps:=S.swaps+1}) ok ah 1 (Z (S.swaps+1)) (by simp [mD]) rfl rfl rfl rfl rfl;have am:aG ({S with swaps:=S.swaps+1}):=⟨ok.tree,ok.file⟩
 have c1:((dG w o u r).setCell (I L.s 1) (Z (S.swaps+1))).cell? (I L.s 2)=some (Z S.clock):=J.cell 2;have bh:((dG w o u r).setCell (I L.s 1) (Z (S.swaps+1))).frozen? (I L.s 2)=false:=aU J.cs 2;obtain ⟨ao,ap⟩:=J.set (S':=sN S) am ag.fresh 2 (Z (S.clock+1)) (by simp [mD,sN]) rfl rfl rfl rfl rfl;have an:aG (sN S):=⟨ok.tree,ok.file⟩
 have V:Step (λc=>c=K+8) (dG w o u r) A (((dG w o u r).setCell (I L.s 1) (Z (S.swaps+1))).setCell (I L.s 2) (Z (S.clock+1))) A:=(ag.trans ao (λ_ e=>e))
 have ai:=lH (V.block af (by rw [aj];omega));have av:Hid (o.c≠4->∀e w',e=.panicked (kH 17)->Fr No w w'->bH w A K L n (kC S o) e w'):=λae e w' ad f=>by
  unfold kC;rw [AA ae];exact bH.no h ok B G ad f
 have au:Hid (o.c=4->∀e Q,e=.returned (lG 0 0 0 0 0 false)->Fr (λj=>j=w.heap.size+1) (((dG w o u r).setCell (I L.s 1) (Z (S.swaps+1))).setCell (I L.s 2) (Z (S.clock+1))) Q->bH w A K L n (kC S o) e Q):=λab e Q ad g=>by
  unfold kC;rw [AL ab];exact bH.yes B aa V (λc e=>by unfold bF;omega) (BZ _) ak g an ap ad (mV.plain _ _ _ _ _ _ _)
 generalize bH w A K L n (kC S o)=bb at*;have be:IntKind.i64.wrap (S.boots+1)=S.boots+1:=by rw [BG];omega
 have bf:IntKind.i64.wrap (S.swaps+1)=S.swaps+1:=by rw [BG];omega
 have Q:IntKind.i64.wrap (S.clock+1)=S.clock+1:=by rw [BG];omega
 have bd:∀w':World,(Instr.build 29 #[]).run prog w'=.ok (.agg (cE 0)) w':=λw'=>by kernel_rfl
 have ar:=lH (show ((cE 0):Array Value).all (·.oneCell')=true from by simp [Value.oneCell']);clear ag J am ao ap an V E ah al af aa h ok B ax ay az aj ak;unfold dG aH.cells bT aW.cells at*;go_enter func64,ntmps64;go_wp2_with fail;generalize (w.alloc (.cells (cR o u r) 36)).alloc (.cells (cE 0) 29)=w0 at*;cases H:(o.c==4) with
 | false=>
  have ae:o.c≠4:=by simpa using H
  try rw [H]
  go_wp2_with fail;refine cr (gQ _ _) ?_;rintro bg rfl;go_wp2_with fail;exact ⟨rfl,av ae _ _ rfl aq⟩
 | true=>
  have ab:o.c=4:=by simpa using H
  try rw [H]
  go_wp2_with fail;refine cq (iR _ _) ?_;go_wp2_with (refine BQ rfl 29 (.tmp 4) (.tmp 24) rfl (w.heap.size+1) (cE 0) rfl rfl 29 _ ai Tryz.size29 rfl ar ?_);have aw:=aX (cs':=(cE 0)) ai.o;exact AZ (v:=lG 0 0 0 0 0 false) (BD rfl _ _ (w.heap.size+1) 29 _ (0,0) _ rfl aw underlying29 rfl Tryz.size29) rfl
   (au.o ab _ _ rfl fR)
theorem Tryz.Ld:(prog.info? 41).map (·.size)=some 14:=by kernel_rfl
def qN (r:aH) (ns nd:Nat):Prop:=r.path.length<=300/\r.tq.length<=300/\ns<=60/\nd<=100
instance (r:aH) (ns nd:Nat):Decidable (qN r ns nd):=by unfold qN;exact inferInstance
def pY (w:World) (p:Prop) [Decidable p] (e:Ending) (w':World):Prop:=e=.returned (.bool (decide p))/\Fr No w w'
theorem pY.mk {w} {p:Prop} [Decidable p] (b e w') (o:b=true↔p) (r:e=.returned (.bool b)) (f:Fr No w w'):pY w p e w':=by
 (have:decide p=b:=by{(cases b with|true=>exact BO (o.1 rfl)|false=>exact BF (λh=>by have:=o.2 h;cases this))});unfold pY;rw [this];exact ⟨r,f⟩
theorem aFJ (o bs ab u r cs ad w):Calls prog 32 #[.agg (o.cells (.slice bs u cs) (.slice ab r ad))] w (pY w (qN o u r)):=by
 have E:Hid (∀(b:Bool) e w',(b=true↔qN o u r)->e=.returned (.bool b)->Fr No w w'->pY w (qN o u r) e w'):=pY.mk;generalize pY w (qN o u r)=ag at*;have ae:=nG o.path;have af:=nG o.tq;have H:Hid (qN o u r↔(((ba o.path).size:Int)<=300/\((ba o.tq).size:Int)<=300/\(u:Int)<=60/\(r:Int)<=100)):=lH (by unfold qN;rw [ae,af];constructor<;>(rintro ⟨J,Q,V,aa⟩;refine ⟨?_,?_,?_,?_⟩<;>omega));have B:=lH ((Fr.refl (S:=No) w).alloc (.cells (cR o (.slice bs u cs) (.slice ab r ad)) 41));generalize qN o u r=P at*;clear ae af;unfold aH.cells;by_cases J:((ba o.path).size:Int)<=300;{by_cases Q:((ba o.tq).size:Int)<=300;{by_cases V:(u:Int)<=60;{by_cases aa:(r:Int)<=100;{have A:Hid (true=true↔P):=lH (by rw [H.o];simp [J,Q,V,aa]);go_enter func32,ntmps32;go_wp2;exact E.o true _ _ (U A.o) rfl B.o};{have A:Hid (false=true↔P):=lH (by rw [H.o];simp [aa]);go_enter func32,ntmps32;go_wp2;exact E.o false _ _ (U A.o) rfl B.o}};{have A:Hid (false=true↔P):=lH (by rw [H.o];simp [V]);go_enter func32,ntmps32;go_wp2;exact E.o false _ _ (U A.o) rfl B.o}};{have A:Hid (false=true↔P):=lH (by rw [H.o];simp [Q]);go_enter func32,ntmps32;go_wp2;exact E.o false _ _ (U A.o) rfl B.o}};{have A:Hid (false=true↔P):=lH (by rw [H.o];simp [J]);go_enter func32,ntmps32;go_wp2;exact E.o false _ _ (U A.o) rfl B.o}
abbrev Rq:=aH×List Sz×List Dl
def Xi (w:World) (o:Nat->Nat) (b off:Nat) (y:Rq):Prop:=∃rv dv,w.rangeAt b off (y.1.cells rv dv).toList/\aZ fD 4 w o rv y.2.1/\aZ dD 14 w o dv y.2.2
def oW (w:World) (o:Nat->Nat) (v:Value) (L:List Rq):Prop:=
 ∃base cap,v=.slice base L.length cap/\(L≠ []->∃b off,base=some (I b off)/\o b=0/\b<w.heap.size/\∀(j:Nat) y,L[j]? =some y->Xi w o b (off+j*14) y)
theorem oW.step {C w w' A B v L} (h:oW w A v L) (s:Step C w A w' B) (o:¬C 0):oW w' B v L:=by
 obtain ⟨base,cap,e,Q⟩:=h;refine ⟨base,cap,e,λV=> ?_⟩;obtain ⟨b,off,H,r,u,J⟩:=Q V;refine ⟨b,off,H,(s.old b u).trans r,AP u s.fr.size,λj y aa=> ?_⟩;obtain ⟨ad,E,a1,a2,a3⟩:=J j y aa;exact ⟨ad,E,λi ae ab=>s.fr.cell_of (a1 i ae ab) (by rw [r];exact o),a2.step s o,a3.step s o⟩
theorem oW.no {w w' o v L} (h:oW w o v L) (r:aF w o) (f:Fr No w w'):oW w' o v L:=h.step (Step.no (C:=λ_=>False) r f) id
theorem oW.at {w o base cap L} (h:oW w o (.slice base L.length cap) L) (u:L≠ []):∃b off,base=some (I b off)/\o b=0/\b<w.heap.size/\∀(j:Nat) y,L[j]? =some y->Xi w o b (off+j*14) y:=by
 obtain ⟨A,cap',e,r⟩:=h;cases e;exact r u
theorem oW.slice {w o v L} (h:oW w o v L):∃base cap,v=.slice base L.length cap:=by
 obtain ⟨base,cap,e,_⟩:=h;exact ⟨base,cap,e⟩
def mY (y:Rq):Prop:=qN y.1 y.2.1.length y.2.2.length
instance (y:Rq):Decidable (mY y):=by unfold mY;exact inferInstance
theorem Zx (am v L) (o:Nat) (w) (aj:aF w am) (h:oW w am v L) (bj:o<=1000):
  Calls prog 22 #[v,o] w (pY w (L.length<=o/\∀y∈L,mY y)):=by
 obtain ⟨base,cap,rfl⟩:=h.slice;have V:Hid (∀(b:Bool) e w',(b=true↔(L.length<=o/\∀y∈L,mY y))->e=.returned (.bool b)->Fr No w w'->pY w (L.length<=o/\∀y∈L,mY y) e w'):=pY.mk;generalize pY w (L.length<=o/\∀y∈L,mY y)=be at*;have aq:=lH h;have ap:=lH aj;clear h aj;by_cases bi:(o:Int)<(L.length:Int);{have Q:Hid (false=true↔(L.length<=o/\∀y∈L,mY y)):=lH (by constructor;(intro h;cases h);(intro h;have:=h.1;omega));go_enter func22,ntmps22;exact aC (V.o false _ _ (U Q.o) rfl (Fr.refl _))}
 ·go_enter func22,ntmps22;go_wp2_with fail;go_loopw [5] (λa wr=>∃j:Nat,a=Z j/\j<=L.length/\Hid (∀y∈L.take j,mY y)/\Hid (Fr No w wr)) (λa _=>L.length - (intOf a).toNat);case atStart=>exact ⟨0,rfl,BA _,lH D,lH (Fr.refl _)⟩
  case round=>
   obtain ⟨j,rfl,bh,ag,H⟩:=hrel;by_cases E:j<L.length
   ·have az:L≠ []:=by{intro e;subst e;simp at E}
    obtain ⟨b,off,rfl,bb,ax,al⟩:=(aq.o.no ap H).at az;obtain ⟨bl,bf,ad,ae,af⟩:=al j L[j] (AC E);have ar:Hid (mY L[j]->∀z∈L.take (j+1),mY z):=λhd z A=>by
     rw [DJ,AC E,JP] at A;rcases BN.1 A with A|A;{exact ag.o z A};{rw [BB.1 A];exact hd}
    have au:Hid (¬mY L[j]->(false=true↔(L.length<=o/\∀y∈L,mY y))):=λay=>by
     constructor;{intro h;cases h};{intro h;exact absurd (h.2 _ (BL E)) ay}
    have bc:(j:Int)<(L.length:Int):=X;have bk:(0:Int)<=(j:Int):=X;have bg:L.length<=1000:=X;generalize L[j]=y at*;obtain ⟨an,ao,ah⟩:=y;obtain ⟨bs,cs,rfl⟩:=ae.slice;obtain ⟨av,aw,rfl⟩:=af.slice;dsimp only at ad ae af;have aa:=lH ad;have r:=lH (aFJ an bs av ao.length ah.length cs aw wr);unfold aH.cells at aa r;unfold pY at r;clear al bb ax ad ae af;(cases u:decide (qN an ao.length ah.length) with|true=>{rw [u] at r;have ab:=lH (EE u);clear u;go_wp2_with (refine wL 41 aa ?_);refine cr r.o λbd B=> ?_;have J:=lH (H.o.trans B zq);clear B;go_wp2_with fail;go_roundw;{exact ⟨j+1,by go_num,E,lH (ar.o (show mY _ from ab.o)),J⟩};simp [intOf];omega}|false=>{rw [u] at r;have ab:=lH (au.o (show ¬mY _ from IR u));clear u;go_wp2_with (refine wL 41 aa ?_);refine cr r.o λbd B=> ?_;have J:=lH (H.o.trans B zq);clear B;exact aC (V.o false _ _ (U ab.o) rfl J.o)})
   ·(have ak:j=L.length:=X);have bc:¬(j:Int)<(L.length:Int):=X
    have Q:Hid (true=true↔(L.length<=o/\∀y∈L,mY y)):=lH (by
     have ai:=ag.o;rw [ak,AY] at ai;constructor;{intro _;exact ⟨by omega,ai⟩}
     ·intro _;rfl)
    clear ak;exact aC (V.o true _ _ (U Q.o) rfl H.o)
