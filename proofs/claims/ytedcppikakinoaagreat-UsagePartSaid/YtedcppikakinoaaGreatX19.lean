/- Part of a proof. -/
import Derived.Test.YtedcppikakinoaaGreatX17
import Derived.Test.YtedcppikakinoaaGreatX18
set_option linter.unusedSimpArgs false
set_option linter.unusedVariables false
set_option maxRecDepth 100000
set_option maxHeartbeats 12800000
namespace Go.Proofs.YtedcppikakinoaaGreat
open Go.Proofs.Tryz Go.RowKit
theorem aV.set {w o K n L S S'} (h:aV w o K L S n) (ok:aG S) (H:aF w o) (j v) (u:mD L S'=(mD L S).setIfInBounds j v) (E:S'.W=S.W) (A:S'.T=S.T) (hK:S'.K=S.K) (r:S'.F=S.F) (B:S'.U=S.U):
  Step (λc=>c=K+8) w o (w.setCell (I L.s j) v) o/\aV (w.setCell (I L.s j) v) o K L S' n:=by
 have f:=dZ w L.s j v;have s:Step (λc=>c=K+8) w o (w.setCell (I L.s j) v) o:=⟨f.mono (λk _ e=>by rw [e];exact h.own),λ_ _=>rfl,λk J=>H k (AV f.size J)⟩;refine ⟨s,⟨h.own,by rw [u];exact setCell_at h.cs j v,?_,?_,?_,?_,?_⟩⟩;{rw [E];exact h.win.step s X X};{rw [A];exact h.tree.step ok.tree s (λc e=>by unfold dM at e;omega)};{rw [hK];exact h.tok.step s X X};{rw [r];exact h.files.step ok.file s X (λi Q c e=>by unfold fJ at e;omega)};{rw [B];exact h.uses.step s X}
def mP (f:Nat->Int) (k:Nat) (v:Int):Nat->Int:=λi=>if i=k then v else f i
theorem Ih (L S k) (o:k<5) (v):mD L {S with next:=mP S.next k v}=(mD L S).setIfInBounds (3+k) (Z v):=by
 (match k,o with|0,_=>simp [mD,mP]|1,_=>simp [mD,mP]|2,_=>simp [mD,mP]|3,_=>simp [mD,mP]|4,_=>simp [mD,mP])
def jL (clock:Int) (st:List Sz) (U:Stp->Option Us):Stp->Option Us:=st.foldl (λU x=>λz=>if z=x.1 then some (x.2,0,clock) else U z) U
def iE (S:St) (st:List Sz) (k:Nat) (nx:Int):St:={S with U:=jL S.clock st S.U,next:=mP S.next k nx}
theorem aCW (c o x U):jL c (o++ [x]) U=λz=>if z=x.1 then some (x.2,0,c) else jL c o U z:=by
 simp [jL]
def xB (w:World) (o:Nat->Nat) (K:Nat) (L:jV) (n:Nat) (S':St) (e:Ending) (w':World):Prop:=e=.returned (.tuple #[])/\∃o',Step (λc=>c=K+7\/c=K+8) w o w' o'/\aV w' o' K L S' n
theorem aG.iE {S} (ok:aG S) (o k nx):aG (iE S o k nx):=⟨ok.tree,ok.file⟩
theorem Rf (r K n L S) (u:aH) (ca V o) (k:Nat) (w) (h:aV w r K L S n) (ok:aG S) (ad:aF w r) (aq:aZ fD 4 w r ca o) (bl:∀x∈o,jM x.1) (bo:k<5) (bp:o.length<=1000000) (bq:n<=1000000000):
  Calls prog 115 #[Y L.s,.agg (u.cells ca V),k] w (xB w r K L (n+o.length) (iE S o k u.nx)):=by
 (have bz:prog.follows .mixedOrders=true:=N);obtain ⟨base,cap,rfl⟩:=aq.slice;have aa:Fr No w (w.alloc (.cells (u.cells (.slice base o.length cap) V) 36)):=(Fr.refl w).alloc _;have aj:=aQ w (.cells (u.cells (.slice base o.length cap) V) 36);have cj:=lH aa;have H:=lH (h.no ok ad aa);have de:=lH (aq.no ad aa);have cl:Hid (aF _ r):=lH (Step.no (C:=λ_=>False) ad aa).fresh;have an:=lH ok;have cp:=lH bl;have ay:=lH bp;have cw:=lH bq;(have ee:(0:Int)<=(k:Int):=X);(have ef:(k:Int)<5:=X);(have eg:¬(k:Int)<0:=X);(have eh:¬(5:Int)<=(k:Int):=X);obtain ⟨bw,bd,bj,bv⟩:=H.o.uses;have J:=lH bw;have db:=lH bv;have aw:=lH bj;have bb:=lH H.o.own;have ax:=lH ad;have cy:Hid (∀e w' ak,e=.returned (.tuple #[])->Step (λc=>c=K+7\/c=K+8) w r w' ak->aV w' ak K L (iE S o k u.nx) (n+o.length)->xB w r K L (n+o.length) (iE S o k u.nx) e w'):=λe w' ak dk s t=>⟨dk,ak,s,t⟩;generalize di:xB w r K L _ _=dt at*;clear di h ok ad aq bl aa bp bw bj bv bq;unfold aH.cells at*;(have dn:(w.alloc (.cells (cR u (.slice base o.length cap) V) 36)).cell? (I w 12)=some (.slice base o.length cap):=by rw [aA aj];rfl);have cf:Hid ((w.alloc (.cells (cR u (.slice base o.length cap) V) 36)).cell? (I w 10)=some (Z u.nx)):=lH (by rw [aA aj];rfl);go_enter func115,ntmps115;go_wp2_with fail;generalize (w.alloc _)=w0 at*;have dq:=lH (lt_of_block aj);have cn:=lH (ax.o _ (AU _));generalize dv:w.heap.size=dh at*;clear aj dn;have ds:Hid (∀z,iI (jL S.clock [] S.U) z=iI S.U z):=λ_=>rfl;go_loopw [11] (λa wr=>∃(j c:Nat),a=Z j/\j<=o.length/\Hid (MapAt xY wr L.us c (iI (jL S.clock (o.take j) S.U)))/\c<=bd+j/\Hid (Fr (· =L.us) w0 wr)) (λa _=>o.length - (intOf a).toNat);case atStart=>exact ⟨0,bd,rfl,BA _,db,by omega,lH (Fr.refl _)⟩
 case round=>
  obtain ⟨j,c,rfl,eb,al,dy,E⟩:=hrel;have ag:Hid (Step (λc=>c=K+7) w0 r wr r):=lH ⟨E.o.mono (λi _ e=>by rw [e];exact J.o),λ_ _=>rfl,λi dl=>cl.o i (AV E.o.size dl)⟩;by_cases ae:j<o.length
  ·have dm:o≠ []:=by{intro e;subst e;simp at ae}
   obtain ⟨b,off,rfl,ec,dx,bu⟩:=(de.o.step ag X).at dm;have az:=lH (bu j o[j] (AC ae));have bm:=cp.o o[j] (BL ae);have da:Hid (jL S.clock (o.take (j+1)) S.U=λz=>if z=o[j].1 then some (o[j].2,0,S.clock) else jL S.clock (o.take j) S.U z):=lH (by
    rw [DJ,AC ae,JP,aCW])
   have dp:(j:Int)<(o.length:Int):=X;have ek:(0:Int)<=(j:Int):=X;generalize o[j]=x at*;unfold fD at az;have bh:Fr No wr (wr.alloc (.cells #[x.1.1,x.1.2.1,x.1.2.2,x.2] 141)):=(Fr.refl wr).alloc _;have bx:=aQ wr (.cells #[x.1.1,x.1.2.1,x.1.2.2,x.2] 141);have dr:=lH al.o.lt;have dc:=lH bx;have ck:=lH bh;have ct:=lH bm;clear bu bx bh bm;go_upto_region 4 with (refine wL 141 az ?_);generalize wr.alloc (.cells #[x.1.1,x.1.2.1,x.1.2.2,x.2] 141)=B at*;generalize wr.heap.size=af at*;have ab:Fr No wr B.drew:=ck.o.trans (Fr.refl _).drew zq;have dj:c<4611686018427387904:=(by have:=ay.o;have:=aw.o;have:=cw.o;omega);obtain ⟨av,br,ap,bg⟩:=(al.o.fr ab id).put x.1 (x.1,(x.2,0,S.clock)) ct trivial dj (t:=129) (e:=80) underlying129;have bt:(Instr.mapUpdate 129 (.map (some L.us)) (.agg (cS x.1)) (.agg #[x.1.1,x.1.2.1,x.1.2.2,x.2,Z 0,S.clock])).run prog B.drew=.ok () av:=br;have cx:=lH bt;obtain ⟨Q,ao⟩:∃Q,(if (iI (jL S.clock (o.take j) S.U) x.1).isSome then c else c+1)=Q:=⟨_,rfl⟩;rw [ao] at ap;have dz:Q<=c+1:=(by rw [<-ao];split<;>omega)
   have cv:Hid (MapAt xY av L.us Q (iI (jL S.clock (o.take (j+1)) S.U))):=lH (by
    have e:iI (jL S.clock (o.take (j+1)) S.U)=λz=>if z=x.1 then some (x.1,(x.2,0,S.clock)) else iI (jL S.clock (o.take j) S.U) z:=by{funext z;unfold iI;rw [da.o];by_cases e:z=x.1;{subst e;simp};{simp [e]}}
    rw [e];exact ap)
   have co:Hid (Fr (· =L.us) w0 av):=E.o.trans (ab.aY.trans bg zq) zq;have ar:=(Fr.refl (S:=No) B).drew.aB dc id;have bc:Hid (B.drew.rangeAt af 0 (cS x.1)):=DR ar 0 3;have dd:Hid (B.drew.cell? (I af 3)=some (Z x.2)):=lH (by rw [aA ar];rfl);(have am:Hid (L.s≠L.us):=λe=>by have a:=bb.o;rw [e,J.o] at a;omega);have C2:Hid (B.drew.cell? (I L.s 2)=some (Z S.clock)):=ab.cell_of (E.o.cell_of (H.o.cell 2) am) id;have ce:Hid (B.drew.cell? (I L.s 12)=some (.map (some L.us))):=ab.cell_of (E.o.cell_of (H.o.cell 12) am) id;have bi:∀W:World,(Instr.build 80 #[(0,.agg (cS x.1)),(1,Z x.2),(3,Z S.clock)]).run prog W=.ok (.agg #[x.1.1,x.1.2.1,x.1.2.2,x.2,Z 0,S.clock]) W:=λW=>by kernel_rfl
   have cm:=lH bi;have dw:o.length<=1000000:=ay.o;clear ab br bt ap bg ao ar bi;refine qC bz (λW=>W=B.drew) [15] N N N N (λ_ _ d _ _ h=>by cases d<;>exact h) rfl ?_;repeat (first
    | refine lJ R ?_
    | (refine kW (v:= ?_) R R ?_ ?_
       rotate_left 1;(intro W;have ej:=cm.o W;go_simp;(try with_reducible rfl))
       simp only [pT,aI,lsS])
    | (refine nV R R ?_
       simp only [pT,aI,lsS])
    | (refine kE (v:=.agg (cS x.1)) R N R (λW A=>l7 46 (.tmp 19) R af 0 R (cS x.1) _ (by rw [A];exact bc.o) underlying46 rfl Tryz.qR) ?_
       simp only [pT,aI,lsS])
    | (refine kE (v:=.agg (cS x.1)) R N R (λW A=>l7 46 (.tmp 21) R af 0 R (cS x.1) _ (by rw [A];exact bc.o) underlying46 rfl Tryz.qR) ?_
       simp only [pT,aI,lsS])
    | (refine kE (v:= ?_) R N R ?_ ?_
       rotate_left 1;(intro W A;have e0:W.cell? (I af 3)=some (Z x.2):=(by rw [A];exact dd.o);have du:W.cell? (I L.s 2)=some (Z S.clock):=(by rw [A];exact C2.o);have bf:W.cell? (I L.s 12)=some (.map (some L.us)):=(by rw [A];exact ce.o);clear A;go_simp;(try with_reducible rfl))
       simp only [pT,aI,lsS]))
   intro W A;obtain rfl:W=B.drew:=A;simp only [DF,DT,DK,CP];have ed:=cx.o;go_wp2_with fail;go_roundw;{exact ⟨j+1,Q,by go_num,ae,cv,by omega,co⟩};simp [intOf];omega
  {(have bn:j=o.length:=X);have dp:¬(j:Int)<(o.length:Int):=X;have cu:Hid (MapAt xY wr L.us c (iI (jL S.clock o S.U))):=lH (by have:=al.o;rw [bn,AY] at this;exact this);have cz:Hid (aV wr r K L {S with U:=jL S.clock o S.U} (n+o.length)):=H.o.X9 X an ag ⟨J,c,by have:=aw.o;omega,cu⟩;(have am:Hid (L.s≠L.us):=λe=>by have a:=bb.o;rw [e,J.o] at a;omega);have be:=E.o.cell_of cf (λe=>by have bf:dh=L.us:=e;have a:=cn.o;rw [bf,J.o] at a;omega);have cg:=lH ((Fr.refl (S:=No) wr).drew.cell_of be id);have ah:=ag.o.fresh;have au:aG {S with U:=jL S.clock o S.U}:=⟨an.o.tree,an.o.file⟩;have ai:=cz.o.no au ah (Fr.refl wr).drew;have bk:aF wr.drew r:=(Step.no (C:=λ_=>False) ah (Fr.refl (S:=No) wr).drew).fresh;obtain ⟨cb,cc⟩:=ai.set (S':=iE S o k u.nx) au bk (3+k) (Z u.nx) (Ih L {S with U:=jL S.clock o S.U} k bo u.nx) rfl rfl rfl rfl rfl;have ci:Hid (∃cd,wr.drew.cell? (I L.s (3+k))=some cd):=lH ⟨_,next_cell ai k bo⟩;have ch:Hid (wr.drew.frozen? (I L.s (3+k))=false):=aU ai.cs _;have dg:=lH cc;have df:=lH (((Step.no ax cj).trans (ag.o.mono (λ_ e=>Or.inl e)) (λ_ e=>e)).trans ((Step.no ah (Fr.refl (S:=No) wr).drew).trans (cb.mono (λ_ e=>Or.inr e)) (λ_ e=>e)) (λ_ e=>e));clear bn be ah au ai bk cb cc;go_wp2_with fail;have e0:=cg.o;refine bU [7] ?_ bz;clear e0;obtain ⟨cd,ei⟩:=ci.o;have ea:=ch.o;go_wp2_with fail;exact IG (v:=.tuple #[]) (by simp [results,results115,go_sem]) rfl (cy.o _ _ _ rfl df dg)}
theorem lK.del {w o K u n F} (h:lK w o K u n F) (J:aF w o) (i:Nat) (af:i<=1000000):
  ∃w',(Builtin.delete_ #[128,3] 0 #[.map (some u),i]).run prog w=.ok (.tuple #[]) w'/\Fr (λk=>k=u) w w'/\Step (λc=>c=K+6) w o w' o/\lK w' o K u n (aT F i none):=by
 obtain ⟨E,fp,c,ae,aa,Q⟩:=h;obtain ⟨w',ad,ab,g⟩:=aa.del (i:Int) (show I64 _ by unfold I64;omega) (t:=128) (e:=63) underlying128 0;have s:Step (λc=>c=K+6) w o w' o:=⟨g.mono (λj _ e=>by rw [e];exact E),λ_ _=>rfl,λk V=>J k (AV g.size V)⟩;refine ⟨w',ad,g,s,E,fp,(if (kR F fp i).isSome then c - 1 else c),?_,?_,λj m r=> ?_⟩;{split<;>omega};{(have e:(λz:Int=>if z=(i:Int) then none else kR F fp z)=kR (aT F i none) fp:=by{funext z;unfold kR aT;by_cases A:z=i;{subst A;simp};{by_cases B:0<=z;{(have:z.toNat≠i:=X);simp [A,B,this]};{simp [A,B]}}});rw [<-e];exact ab};{unfold aT at r;by_cases H:j=i;{rw [AL H] at r;cases r};{rw [AA H] at r;exact (Q j m r).step s X X}}
def kY (S:St) (r:aH):St:=
 if (lookOf S.T r.path).2.2=true then {S with T:=fH S.T r.path r.dir}
 else {S with T:=fH S.T r.path r.dir,F:=aT S.F (bK S.T r.path r.dir).2 none,U:=gV (aT S.F (bK S.T r.path r.dir).2 none) S.U}
def mayRemove (S:St) (r:aH):Prop:=(lookOf S.T r.path).2.2=true\/r.dir=true\/(S.K.any λx=>x.i==(lookOf S.T r.path).2.1)=false
instance (S:St) (r:aH):Decidable (mayRemove S r):=by unfold mayRemove;exact inferInstance
def iV (S:St) (r:aH):Int×aW×St:=
 if (lookOf S.T r.path).1≠0 then ((lookOf S.T r.path).1,bT,S)
 else if ¬mayRemove S r then (8,bT,S)
 else if (bK S.T r.path r.dir).1≠0 then ((bK S.T r.path r.dir).1,bT,S)
 else (0,iW 0 (bK S.T r.path r.dir).2 0 0 0 false,kY S r)
theorem Ns {T} (u:dJ T) {l b} (h:(bK T l b).1=0):(bK T l b).2<=128/\(lookOf T l).1=0:=by
 unfold bK at h ⊢;split;{rename_i o;rw [AL o] at h;exact absurd h o};{rename_i o;(have r:(lookOf T l).1=0:=by simpa using o);refine ⟨?_,r⟩;split;{exact BA _};{split;{exact BA _};{split;{exact BA _};{split;{exact BA _};{exact Oa u r}}}}}
theorem Bv {T} (o:dJ T) (l b):dJ (fH T l b):=by
 unfold fH;split
 ·rename_i h;obtain ⟨_,u⟩:=Ns o h;obtain ⟨x,Q,hd⟩:=look_ok o u;unfold bK at h ⊢;rw [AA (by simp [u])] at h ⊢;split at h;{cases h}
  ·rename_i A;rw [AA A];split at h;{cases h}
   ·rename_i E;rw [AA E];split at h;{cases h}
    ·rename_i H;rw [AA H];split at h;{cases h}
     ·rename_i B
      rw [AA B];have r:x.dir=true->bI T (lookOf T l).2.1=0:=λJ=>by
       have:¬0<bI T (lookOf T l).2.1:=λr=>B ⟨by rw [<-hd];exact J,r⟩;omega
      exact rJ.Pv (x:=x) ⟨o,Q,A,r⟩
 {exact o}
theorem zI (F i x):aT F i x i=x:=by simp [aT]
theorem Aw {F i j m} (h:aT F i none j=some m):F j=some m:=by
 unfold aT at h;split at h;{cases h};{exact h}
theorem zF {F i j m y} (h:aT F i (some m) j=some y):j=i/\y=m\/F j=some y:=by
 unfold aT at h;split at h;{rename_i e;cases h;exact .inl ⟨e,rfl⟩};{exact .inr h}
theorem jU.put {F} (h:jU F) (i) {m} (r:∀p∈m.l,dU p):jU (aT F i (some m)):=λj y o=>by
 rcases zF o with ⟨_,rfl⟩|o
 ·exact r
 ·exact h j y o
theorem jU.less {F} (h:jU F) (i):jU (aT F i none):=λj m o=>h j m (Aw o)
theorem aG.less {S} (ok:aG S) (i):aG {S with F:=aT S.F i none}:=⟨ok.tree,λj m o=>ok.file j m (Aw o)⟩
theorem aG.Wh {S} (ok:aG S) (o):aG {S with U:=o}:=⟨ok.tree,ok.file⟩
def kN (m:Stp->Option Int) (i:Int) (d:Dl):Prop:=dP d/\d.i=i/\d.k≠3/\(d.t=aS\/uI m d.t=true)
instance (m:Stp->Option Int) (i:Int) (d:Dl):Decidable (kN m i d):=by unfold kN;exact inferInstance
def oD (m:Stp->Option Int) (d:Dl):Prop:=dP d/\d.k=3/\uI m d.t=true
instance (m:Stp->Option Int) (d:Dl):Decidable (oD m d):=by unfold oD;exact inferInstance
def dN (F:Nat->Option cO) (d:Dl):Nat->Option cO:=match F d.i.toNat with
 | some m=>aT F d.i.toNat (some (bP m d))
 | none=>F
def mZ (S:St) (st:List Sz) (dl:List Dl) (c:Nat) (nx:Int) (i:Nat):St:=
 {iE S st c nx with F:=aT S.F i (some (dl.foldl bP ((S.F i).getD mQ))),U:=gV (aT S.F i (some (dl.foldl bP ((S.F i).getD mQ)))) (iE S st c nx).U}
def kM (b:Bool) (L:List Tok) (x:Tok):List Tok:=if b=true then L.filter λy=> !decide (y=x) else L
def jG (S:St) (r:aH) (st:List Sz) (dl:List Dl):Int×aW×St:=match dE S.K r.c r.h with
 | none=>(13,bT,S)
 | some x=>
  if x.wr=false/\¬(dl= []/\st= []) then (10,bT,S)
  else if (dW S r.sw r.nx st r.c r.l).1≠0 then ((dW S r.sw r.nx st r.c r.l).1,bT,S)
  else if ¬(∀d∈dl,kN (dW S r.sw r.nx st r.c r.l).2 x.i d) then (4,bT,S)
  else (0,iW 0 x.i (dl.foldl bP ((S.F x.i.toNat).getD mQ)).size 0 0 false,{mZ S st dl r.c.toNat r.nx x.i.toNat with K:=kM r.cl S.K x})
def sK (S:St) (st:List Sz) (dl:List Dl) (nx:Int):St:=
 {iE {S with clock:=S.clock+1} st 4 nx with F:=dl.foldl dN S.F,U:=gV (dl.foldl dN S.F) (iE {S with clock:=S.clock+1} st 4 nx).U}
def jO (S:St) (r:aH) (st:List Sz) (dl:List Dl):Int×aW×St:=
 if ¬(r.c=4/\r.l=S.boots) then (17,bT,S)
 else if (dW S r.sw r.nx st 4 S.boots).1≠0 then ((dW S r.sw r.nx st 4 S.boots).1,bT,S)
 else if ¬(∀d∈dl,oD (dW S r.sw r.nx st 4 S.boots).2 d) then (4,bT,S)
 else (0,iW 0 0 0 0 0 false,sK S st dl r.nx)
def uU (S:St):St:={S with boots:=S.boots+1,clock:=S.clock+1,next:=mP S.next 4 0}
def kF (S:St) (r:aH):Int×aW×St:=if r.c=4 then (0,iW 0 0 0 0 0 false,uU S) else (17,bT,S)
def sN (S:St):St:={S with swaps:=S.swaps+1,clock:=S.clock+1}
def kC (S:St) (r:aH):Int×aW×St:=if r.c=4 then (0,iW 0 0 0 0 0 false,sN S) else (17,bT,S)
theorem Fz {m d} (u:eQ m) (hd:dP d):eQ (bP m d):=by
 obtain ⟨o,r⟩:=u;obtain ⟨d1,d2,A,B,d5,d6,E,H,J⟩:=hd;unfold bP jI;split;{rename_i Q;split;{refine ⟨by dsimp only;omega,?_⟩;dsimp only;rw [EZ,Aa]};{split;{exact ⟨by dsimp only;omega,by dsimp only;rw [Aa]⟩};{exact ⟨o,by dsimp only;rw [EZ];exact r⟩}}};{exact ⟨o,r⟩}
theorem Rx {m d} (r:∀p∈m.l,dU p) (hd:dP d):∀p∈(bP m d).l,dU p:=by
 have B:=hd.2.2.2.2.2.2.1;have u:∀n,∀p∈gK m.l n,dU p:=λn p o=>by
  unfold gK at o;split at o;{exact r p (FT o)};{rcases BN.1 o with o|o;{exact r p o};{rw [(List.mem_replicate.1 o).2];exact .inl rfl}}
 have A:∀(l:List Pt) (j:Nat),(∀p∈l,dU p)->∀p∈l.set j d.t,dU p:=λl j h p o=>by
  rcases KY o with o|rfl;{exact h p o};{exact B}
 unfold bP jI;split;{split;{exact A _ _ (u _)};{split;{exact u _};{exact A _ _ r}}};{exact r}
theorem U1 {i:Int} {M:Stp->Option Int}:∀(o:List Dl) (m:cO),(∀d∈o,kN M i d)->eQ m->(∀p∈m.l,dU p)->eQ (o.foldl bP m)/\∀p∈(o.foldl bP m).l,dU p
 | [],_,_,hl,hp=>⟨hl,hp⟩
 | d::r,m,h,hl,hp=>U1 r (bP m d) (λx u=>h x (by simp [u])) (Fz hl (h d D).1) (Rx hp (h d D).1)
theorem Yq {i M} {o:List Dl} (h:∀d∈o,kN M i d) {m} (r:eQ m) (u:∀p∈m.l,dU p):eQ (o.foldl bP m)/\∀p∈(o.foldl bP m).l,dU p:=U1 o m h r u
theorem Tryz.oP:(prog.info? 61).map (·.size)=some 14:=by kernel_rfl
def Zero (w:World) (o:Nat->Nat) (b:Nat) (x:Obj):Prop:=w.heap[b]? =some x/\o b=0
theorem Zero.step {C w w' o r b x} (h:Zero w o b x) (s:Step C w o w' r) (u:¬C 0):Zero w' r b x:=
 ⟨s.fr.aB h.1 (by rw [h.2];exact u),(s.old b (lt_of_block h.1)).trans h.2⟩
theorem Zero.no {w w' o b x} (h:Zero w o b x) (f:Fr No w w'):Zero w' o b x:=⟨f.aB h.1 id,h.2⟩
theorem Xn (S:St) (nx c l:Int):∀(H:List Sz) (m o:Stp->Option Int),dS S nx c l H m=some o->(∀y e,m y=some e->1<=e/\e<=6000)->∀y e,o y=some e->1<=e/\e<=6000
 | [],m,o,h,hm=>by
  unfold dS at h;cases h;exact hm
 | x::r,m,o,h,hm=>by
  unfold dS at h;split at h
  ·rename_i E
   obtain ⟨_,_,_,_,_,_,A,B⟩:=E;refine Xn S nx c l r _ o h (λy e u=> ?_);split at u
   ·cases u;exact ⟨A,B⟩
   ·exact hm y e u
  ·cases h
theorem Yc (S sw nx o c l y e) (h:(dW S sw nx o c l).2 y=some e):1<=e/\e<=6000:=by
 unfold dW at h;split at h;{cases h};{split at h;{cases h};{split at h;{cases h};{rename_i m r;exact Xn S nx c l o _ m r (λ_ _ h=>by cases h) y e h}}}
theorem I9 {α:Type} (x) (a b:α):(if x.c=0 then if x.l=0 then if x.n=0 then if x.a=0 then if x.z=0 then a else b else b else b else b else b)=if x=aS then a else b:=by
 obtain ⟨c,l,n,B,z⟩:=x;dsimp only;by_cases h:(⟨c,l,n,B,z⟩:Pt)=aS;{rw [AL h];cases h;rfl};{rw [AA h];by_cases o:c=0;{by_cases r:l=0;{by_cases u:n=0;{by_cases A:B=0;{by_cases E:z=0;{exact absurd (by rw [o,r,u,A,E];rfl) h};{rw [AL o,AL r,AL u,AL A,AA E]}};{rw [AL o,AL r,AL u,AA A]}};{rw [AL o,AL r,AA u]}};{rw [AL o,AA r]}};{rw [AA o]}}
theorem lK.turn {w Q K E n F} (h:lK w Q K E n F) (ad:∀i m,F i=some m->1<=i/\i<=128/\eQ m) {i m} (r:F i=some m):
  ∃p,(∀w',Fr No w w'->(Instr.lookup 128 (.map (some E)) (Z i) false).run prog w'=.ok (Y p) w')/\jR w Q K i p m/\
   ∀w' B A,Step (fJ K i) w Q w' B->jR w' B K i p A->lK w' B K E n (aT F i (some A)):=by
 obtain ⟨V,fp,c,ag,aa,ab⟩:=h;have ah:=ad i m r;refine ⟨fp i,λw' f=> ?_,ab i m r,λw' B A s t=> ?_⟩;{have:=(aa.fr f id).look (i:Int) (show I64 _ by unfold I64;omega) (t:=128) (e:=63) underlying128 (z:=.pointer none) N false;(have e:kR F fp (i:Int)=some (fp i):=by unfold kR;rw [AL X,GH,r];rfl);rw [e] at this;exact this};{obtain ⟨ae,af⟩:=aa.step s (by rw [V];unfold fJ;omega);refine ⟨af.trans V,fp,c,ag,?_,λj y o=> ?_⟩;{(have e:kR (aT F i (some A)) fp=kR F fp:=by{funext z;unfold kR aT;by_cases u:0<=z;{rw [AL u,AL u];by_cases J:z.toNat=i;{rw [AL J,J,r];rfl};{rw [AA J]}};{rw [AA u,AA u]}});rw [e];exact ae};{unfold aT at o;by_cases H:j=i;{rw [AL H] at o;cases o;rw [H];exact t};{rw [AA H] at o;have ai:=ad j y o;exact (ab j y o).step s (by unfold fJ;omega) (by unfold fJ;omega)}}}
theorem aV.uK {w w':World} {r o:Nat->Nat} {K n i:Nat} {L:jV} {S:St} {F':Nat->Option cO} (h:aV w r K L S n) (u:i<=128) (ok:aG S) (s:Step (fJ K i) w r w' o) (t:lK w' o K L.fl n F'):aV w' o K L {S with F:=F'} n where
 own:=(s.own h.cs).trans h.own
 cs:=s.block h.cs (by rw [h.own];unfold fJ;omega)
 win:=h.win.step s (by unfold fJ;omega) (by unfold fJ;omega)
 tree:=h.tree.step ok.tree s (λc e=>by unfold dM at e;unfold fJ;omega)
 tok:=h.tok.step s (by unfold fJ;omega) (by unfold fJ;omega)
 files:=t
 uses:=h.uses.step s (by unfold fJ;omega)
theorem aFD {F i m} (h:F i=some m):aT F i (some m)=F:=by
 funext j;unfold aT;split;{rename_i e;rw [e,h]};{rfl}
theorem aEG (F i x y):aT (aT F i x) i y=aT F i y:=by
 funext j;unfold aT;split<;>rfl
def nC (C:Nat->Prop) (w:World) (o:Nat->Nat) (K:Nat) (L:jV) (n:Nat) (x:aW×St) (e:Ending) (w':World):Prop:=
 (∃o',Step C w o w' o'/\aV w' o' K L x.2 n)/\∃ev mv,e=.returned (.agg (x.1.cells ev mv))/\ev.oneCell'=true/\mv.oneCell'=true/\Rp w' ev mv x.1.es x.1.map/\Low w.heap.size ev/\Low w.heap.size mv
abbrev Told (w:World) (o:Nat->Nat) (K:Nat) (L:jV) (n:Nat) (x:aW×St) (e:Ending) (w':World):Prop:=nC (bF K) w o K L n x e w'
theorem nC.lift {C D w w' o K n L x e} (h:nC C w o K L n x e w') (u:∀c,C c->D c):nC D w o K L n x e w':=by
 obtain ⟨⟨A,s,t⟩,r⟩:=h;exact ⟨⟨A,s.mono u,t⟩,r⟩
def dL (S:St) (c:Nat) (kind:Int):St:=if kind=3 then {S with K:=S.K.filter (λy=> !(y.c==(c:Int))),next:=mP S.next c 0,clock:=S.clock+1} else {S with clock:=S.clock+1}
def iP (x:aW) (s:Int):aW:={x with swaps:=s}
def tY (x:aW×St) (c:Nat) (r:aH):aW×St:=(iP x.1 x.2.swaps,{x.2 with W:=upd x.2.W c (some (r.l,r.q,(iP x.1 x.2.swaps).bytes))})
theorem nI (x):(fE x).2=x.2.2:=by unfold fE;split<;>rfl
theorem aV.Ha {w w':World} {u o:Nat->Nat} {K n:Nat} {L:jV} {S:St} {r:Nat->Option wV} (h:aV w u K L S n) (ok:aG S) (s:Step (λc=>c=K+1) w u w' o) (t:lW w' o (K+1) L.win r):aV w' o K L {S with W:=r} n where
 own:=(s.own h.cs).trans h.own
 cs:=s.block h.cs (by rw [h.own];omega)
 win:=t
 tree:=h.tree.step ok.tree s (λc e=>by unfold dM at e;omega)
 tok:=h.tok.step s X X
 files:=h.files.step ok.file s X (λi A c e=>by unfold fJ at e;omega)
 uses:=h.uses.step s X
theorem Cb {r o u s ad H sw y0 y1 y2 y3 y4 y5 y6 y7} (ab:r.heap[o]? =some (.cells ad 29 (0,0))) (aa:r.heap[u]? =some (.cells H 29 (0,0))) (J:u≠o) (Q:r.cell? (I s 1)=some sw) (V:s≠o):
  (r.setRow o #[y0,y1,y2,y3,y4,y5,y6,y7]).cell? (I s 1)=some sw/\(r.setRow o #[y0,y1,y2,y3,y4,y5,y6,y7]).cell? (I o 4)=some y4/\(r.setRow o #[y0,y1,y2,y3,y4,y5,y6,y7]).frozen? (I o 4)=false/\
  Hid (((r.setRow o #[y0,y1,y2,y3,y4,y5,y6,y7]).setCell (I o 4) sw).heap[o]? =some (.cells #[y0,y1,y2,y3,sw,y5,y6,y7] 29 (0,0)))/\
  Hid (((r.setRow o #[y0,y1,y2,y3,y4,y5,y6,y7]).setCell (I o 4) sw).heap[u]? =some (.cells H 29 (0,0)))/\
  Hid (Fr (λk=>k=o) r ((r.setRow o #[y0,y1,y2,y3,y4,y5,y6,y7]).setCell (I o 4) sw)):=by
 have A:=aX (cs':= #[y0,y1,y2,y3,y4,y5,y6,y7]) ab;have B:Fr (λk=>k=o) r (r.setRow o #[y0,y1,y2,y3,y4,y5,y6,y7]):=Fr.setRow (S:=λk=>k=o) (Fr.refl r) (.inl rfl) _;have E:Fr (λk=>k=o) r ((r.setRow o #[y0,y1,y2,y3,y4,y5,y6,y7]).setCell (I o 4) sw):=B.setCell (.inl rfl) _;refine ⟨B.cell_of Q V,?_,aU A 4,lH ?_,lH (E.aB aa J),lH E⟩;{rw [aA A];rfl};{simpa using setCell_at A 4 sw}
theorem aBX (J K n bp L S r bi bg fv cg w x) (h:aV w J K L S n) (ok:aG S) (bn:aF w J) (gq:0<=r.c/\r.c<4) (ge:cg=0\/cg=3) (gr:0<=S.clock/\S.clock<=1000000) (ff:(dI S.W r.c r.l r.q).1=cg) (fk:∀i ch co bs,S.W i=some (ch,co,bs)->bs.length<=1000000) (ej:x.2.W=S.W) (cm:aG x.2) (dd:(iP x.1 x.2.swaps).ok) (fb:∀bu en,Step (bF K) w J bu en->aV bu en K L (dL S r.c.toNat cg) n->Calls prog 62 #[.pointer (some (I L.s 0)),fv,.agg (r.cells bi bg)] bu (Tried bu en K L bp x)):
  Calls prog 68 #[.pointer (some (I L.s 0)),fv,.agg (r.cells bi bg),.int .i64 cg] w (Told w J K L bp (tY x r.c.toNat r)):=by
 (have gj:prog.follows .mixedOrders=true:=N);obtain ⟨eg,de,bo,ev,eu⟩:=begun h ok bn r bi bg;have cv:=lH eg;obtain ⟨u,fg⟩:∃u:Nat,r.c=(u:Int):=⟨r.c.toNat,by omega⟩;(have fh:u<4:=X);have gt:=CB u;(have gu:(u:Int)<5:=X);(have gv:¬(u:Int)<0:=X);(have gw:¬(5:Int)<=u:=X);have fi:r.c.toNat=u:=by rw [fg,GH]
 rw [fi] at*;have cz:=lH fb;obtain ⟨o,Q⟩:=x;dsimp only at ej cm dd;have ez:Hid (∀e w' bt eo df A B,e=.returned (.agg ((iP o Q.swaps).cells A B))->A.oneCell'=true->B.oneCell'=true->Rp bt A B o.es o.map->Low w A/\Low w B->uX bt (w.heap.size+1)->Fr No w w'->w.heap.size+1<w'.heap.size->Step (bF K) w' J bt df->aV bt df K L {Q with W:=upd Q.W u (some (r.l,r.q,(iP o Q.swaps).bytes))} bp->Fr (λj=>j=w.heap.size+1) bt eo->Told w J K L bp (tY (o,Q) u r) e eo):=λe w' bt eo df A B gd eh ei gh gf gg f gi s t g=>by
  obtain ⟨a,b⟩:=Bc bn f s (BZ _) gi g;exact ⟨⟨df,a,t.step ⟨cm.tree,cm.file⟩ b (λc h e=>by unfold bF at h;omega)⟩,A,B,gd,eh,ei,gh.fr g (λk e _=>by rw [e];exact gg),gf⟩
 generalize gb:Told w J K L bp _=gp at*;clear gb;have ew:Hid ((iP o Q.swaps).bytes.length<=1000000):=lH (by have:=dd.len;omega);have fa:=lH dd;have bx:=lH ev;have bk:=lH eu;have aq:=lH ok;have bl:=lH cm;have bm:=lH ej;have fc:=lH fk;have cx:=lH ff;have cy:Hid (J w.heap.size=0/\J (w.heap.size+1)=0):=lH ⟨bn _ (AU _),bn _ (BZ _)⟩;have et:Hid (Step (bF K) w J (dG w r bi bg) J):=Step.no bn eg;clear ev eu eg h ok cm bn ff fk ej fb dd;unfold dG aH.cells bT aW.cells at*;clear fi;generalize r.c=ha at*;subst fg;rcases ge with rfl|rfl
 ·go_enter func68,ntmps68;go_upto_region 1 with fail;generalize (w.alloc _).alloc _=w0 at*;have B1:=lH (lt_of_block bo);generalize gc:w.heap.size=E at*;have cc:Hid (Zero w0 J E (.cells #[u,r.l,r.q,r.kind,(ba r.path),(ba r.tq),r.dir,r.wr,r.cl,r.h,r.nx,r.sw,bi,bg] 36 (0,0))):=lH ⟨de,cy.o.1⟩;have eb:Hid (Zero w0 J (E+1) (.cells (cE 0) 29 (0,0))):=lH ⟨bo,cy.o.2⟩;clear de bo;(have bu:IntKind.i64.wrap (S.clock+1)=S.clock+1:=by rw [BG];omega);have ar:=bx;have cw:=bk;have ST:Hid (Step (bF K) w0 J w0 J):=Step.refl bk.o;have dc:=cc;have db:=eb;have dt:=aq;obtain ⟨aj,br⟩:=ar.o.set (S':=dL S u 0) dt cw 2 (Z (S.clock+1)) (by simp [mD,dL]) rfl rfl rfl rfl rfl;have c2:w0.cell? (I L.s 2)=some (Z S.clock):=ar.o.cell 2;have eq:=aU ar.o.cs 2;have az:=lH (ST.o.trans (aj.mono (λc e=>by unfold bF;omega)) (λ_ e=>e));have dy:=lH br;have cd:=lH (dc.o.step aj X);have ee:=lH (db.o.step aj X);have ca:=lH (cz.o _ J (et.o.trans az (λ_ e=>e)) dy);unfold Tried at ca;clear aj br cz;go_wp2_with (refine wR 36 cd.o.1 ?_);refine ca.o.mono ?_;rintro e H ⟨⟨ab,ap,cp⟩,v,rfl,A,B,rfl,an,ao,ci,cj⟩;have dp:Hid (Low E A/\Low E B):=lH (by have eh:=cv.o.size;have ei:=az.o.fr.size;exact ⟨ci.le X,cj.le X⟩);clear ci cj;have ae:=lH (az.o.trans ap (λ_ e=>e));have bc:=lH cp;have ef:=lH (cd.o.step ap (by unfold bF;omega));have be:=lH (ee.o.step ap (by unfold bF;omega));have ad:=lH (And.intro an.one ao.one);have du:Hid (Rp H A B o.es o.map):=lH ⟨an,ao⟩;have bw:=lH an;have bz:=lH ao;clear ap cp c2 eq an ao;unfold aW.cells at*;dsimp only at bw bz ⊢;have am:Fr No H (H.alloc (.cells (cE 0) 29)):=(Fr.refl H).alloc _;have ax:=lH (aQ H (.cells (cE 0) 29));have bd:=bc.o.no bl ae.o.fresh am;have cb:Hid (Zero (H.alloc (.cells (cE 0) 29)) ab H (.cells (cE 0) 29 (0,0))):=lH ⟨ax,ae.o.fresh _ (AU _)⟩;have ed:=lH (be.o.no am);have em:E+1≠H.heap.size:=by have:=lt_of_block be.o.1;omega
  obtain ⟨c1,c4,er,ay,_,di⟩:=Cb (y0:=.int .i64 o.e) (y1:=.int .i64 o.ino) (y2:=.int .i64 o.size) (y3:=.int .i64 o.handle) (y4:=.int .i64 o.swaps) (y5:=.bool o.dir) (y6:=A) (y7:=B) ax ed.o.1 em (show _=some (.int .i64 Q.swaps) from bd.cell 1) (λe=>by have a:=bd.own;rw [e,cb.o.2] at a;omega);have av:Hid (Fr No H (((H.alloc (.cells #[.int .i64 0,.int .i64 0,.int .i64 0,.int .i64 0,.int .i64 0,.bool false,.slice none 0 0,.slice none 0 0] 29)).setRow H.heap.size #[.int .i64 o.e,.int .i64 o.ino,.int .i64 o.size,.int .i64 o.handle,.int .i64 o.swaps,.bool o.dir,A,B]).setCell (I H.heap.size 4) (.int .i64 Q.swaps))):=(am.aY.trans di (λj cf e=>by omega)).no (S:=No) zq;have bv:=lH (lt_of_block ay);have ak:=lH (Rz (iP o Q.swaps) A B fa _ ((bw.o.no av).le (MR bv)) ((bz.o.no av).le (MR bv)));unfold aW.cells at ak;dsimp only [iP] at ak;have dl:=lH (show (#[o.e,o.ino,o.size,o.handle,o.swaps,o.dir,A,B]:Array Value).all (·.oneCell')=true from by
   have a:∀k x,(Value.int k x).oneCell'=true:=λ_ _=>rfl;have b:∀x,(Value.bool x).oneCell'=true:=λ_=>rfl;simp [a,b,ad.o.1,ad.o.2])
  have dk:=lH (show (#[o.e,o.ino,o.size,o.handle,Q.swaps,o.dir,A,B]:Array Value).all (·.oneCell')=true from by
   have a:∀k x,(Value.int k x).oneCell'=true:=λ_ _=>rfl;have b:∀x,(Value.bool x).oneCell'=true:=λ_=>rfl;simp [a,b,ad.o.1,ad.o.2])
  clear am bd;go_wp2_with (first|(refine BQ rfl 29 (.tmp 9) (.tmp 42) rfl H #[o.e,o.ino,o.size,o.handle,o.swaps,o.dir,A,B] rfl rfl 29 _ ax Tryz.size29 rfl dl ?_)|(refine CO rfl 29 (.tmp 9) rfl H rfl 29 _ (0,0) _ ay underlying29 rfl Tryz.size29 ?_));refine ak.o.mono ?_;rintro e V ⟨v,b,c,rfl,sl,el,bh⟩;obtain rfl:=sl.1;have bb:=lH sl;have au:=lH (av.o.trans bh zq);have dm:=lH (bh.aB ay id);generalize H.heap.size=cu at*;have ai:Fr No V V.drew:=(Fr.refl _).drew;have ag:=lH (au.o.trans ai zq);have ah:=lH (bc.o.no bl ae.o.fresh ag);have dj:Hid (aF V.drew ab):=lH (Step.no (C:=λ_=>False) ae.o.fresh ag).fresh;have al:=lH (ef.o.no au);have ec:=lH (be.o.no ag);have ea:Hid (Zero V.drew ab cu (.cells #[o.e,o.ino,o.size,o.handle,Q.swaps,o.dir,A,B] 29 (0,0))):=lH ⟨ai.aB dm id,cb.o.2⟩;have aw:=lH (Xj ab (K+1) L.win Q.W u fh r.l r.q (iP o Q.swaps).bytes b 0 c _ V.drew ah.o.win dj ⟨rfl,bb.o.2.1,AP bb.o.2.2.1 ai.size,λj y cf=>ai.cell_of (bb.o.2.2.2 j y cf) id⟩ ew (λi ch co bs ek=>fc.o i ch co bs (by rw [<-bm.o];exact ek)) (by rw [bm.o,cx.o];decide) (by rw [bm.o,cx.o];decide));unfold Iu at aw;dsimp only [iP] at aw;have dq:Hid (¬(ab E=K+1)):=lH (by rw [al.o.2];omega);have ds:Hid (¬(ab L.s=K+1)):=lH (by rw [ah.o.own];omega);have fz:V.cell? (I L.s 8)=some (Y L.win):=au.o.cell_of (bc.o.cell 8) id;(have gk:V.cell? (I E 0)=some (Z u):=by rw [aA al.o.1];rfl);(have gl:V.cell? (I E 1)=some (Z r.l):=by rw [aA al.o.1];rfl);have gm:V.cell? (I E 2)=some (Z r.q):=by rw [aA al.o.1];rfl
  clear bh sl el ai c1 c4 er ak;go_wp2_with fail;go_region_held3 (λw'=>w'.cell? (I E 0)=some (Z u)/\w'.cell? (I E 1)=some (Z r.l)/\w'.cell? (I E 2)=some (Z r.q)/\w'.cell? (I L.s 8)=some (Y L.win)) (first|go_keep|(go_split_ands;refine ⟨?_,?_,?_,?_⟩<;>exact af.fr.cell_of (by assumption) (by first|exact dq.o|exact ds.o)))
   ((go_at_call 133;refine aw.o.mono ?_;rintro e bj ⟨rfl,⟨ck,af,ct⟩,ce⟩))
  have dx:=lH (ah.o.Ha bl af ct);have dw:Hid (Step (bF K) w0 J bj ck):=(ae.o.trans ((Step.no (C:=λ_=>False) ae.o.fresh ag).mono (λ_ e=>e.elim)) (λ_ e=>e)).trans (af.mono (λc e=>by unfold bF;omega)) (λ_ e=>e);have dz:=lH (ea.o.step af X);have bf:=lH (ec.o.step af X);have dv:Hid (Rp bj A B o.es o.map):=(du.o.no ag).fr ce (λk e _=>by rw [e];exact ah.o.win.nob);have dr:=lH (yA bf.o.1);clear af ct ce;go_wp2_with (first|(refine CO rfl 29 (.tmp 9) rfl cu rfl 29 _ (0,0) _ dz.o.1 underlying29 rfl Tryz.size29 ?_)|(refine BQ rfl 29 (.tmp 8) (.tmp 61) rfl (E+1) #[o.e,o.ino,o.size,o.handle,Q.swaps,o.dir,A,B] rfl rfl 29 _ bf.o.1 Tryz.size29 rfl dk ?_));have dn:=aX (cs':= #[o.e,o.ino,o.size,o.handle,Q.swaps,o.dir,A,B]) bf.o.1;exact AZ (v:=.agg #[o.e,o.ino,o.size,o.handle,Q.swaps,o.dir,A,B]) (BD rfl _ _ (E+1) 29 _ (0,0) _ rfl dn underlying29 rfl Tryz.size29) rfl
   (ez.o _ w0 bj _ ck A B rfl ad.o.1 ad.o.2 dv.o dp.o dr.o cv.o B1.o dw.o dx.o (fR))
 ·go_enter func68,ntmps68;go_upto_region 1 with fail;generalize (w.alloc (.cells #[u,r.l,r.q,r.kind,(ba r.path),(ba r.tq),r.dir,r.wr,r.cl,r.h,r.nx,r.sw,bi,bg] 36)).alloc (.cells (cE 0) 29)=w0 at*;have B1:=lH (lt_of_block bo);generalize gc:w.heap.size=E at*;have cc:Hid (Zero w0 J E (.cells #[u,r.l,r.q,r.kind,(ba r.path),(ba r.tq),r.dir,r.wr,r.cl,r.h,r.nx,r.sw,bi,bg] 36 (0,0))):=lH ⟨de,cy.o.1⟩;have eb:Hid (Zero w0 J (E+1) (.cells (cE 0) 29 (0,0))):=lH ⟨bo,cy.o.2⟩;clear de bo;(have bu:IntKind.i64.wrap (S.clock+1)=S.clock+1:=by rw [BG];omega);have fy:w0.cell? (I L.s 10)=some (Y L.tk):=bx.o.cell 10;(have d0:w0.cell? (I E 0)=some (Z u):=by rw [aA cc.o.1];rfl);have aa:Fr No w0 w0.drew:=(Fr.refl _).drew;have ex:=lH (aBL J K L.tk S.K u w0.drew (bx.o.no aq bk aa).tok (Step.no (C:=λ_=>False) bk aa).fresh);unfold Fb nU at ex;have fu:Hid (¬gZ K (J E)):=lH (by rw [cc.o.2];unfold gZ;omega);have fw:Hid (¬gZ K (J L.s)):=lH (by rw [bx.o.own];unfold gZ;omega);clear aa;go_upto_region 4 with fail
  go_region_held3 (λw'=>w'.cell? (I L.s 10)=some (Y L.tk)/\w'.cell? (I E 0)=some (Z u)) (first|go_keep|(go_split_ands;refine ⟨?_,?_⟩<;>exact bq.fr.cell_of (by assumption) (by first|exact fw.o|exact fu.o)))
   ((go_at_call 131;refine ex.o.mono ?_;rintro e wd ⟨⟨gz,rfl⟩,cl,bq,fl⟩))
  have aa:Fr No w0 w0.drew:=(Fr.refl _).drew;have ah:Hid (aV wd cl K L {S with K:=S.K.filter (λy=> !(y.c==(u:Int)))} n):=(bx.o.no aq bk aa).Az aq bq fl;have da:Hid (Step (bF K) w0 J wd cl):=(((Step.no (C:=λ_=>False) bk aa).mono (λ_ e=>e.elim)).trans (bq.mono (λ_ e=>Gs e)) (λ_ e=>e));have fe:=lH ((cc.o.no aa).step bq (by unfold gZ;omega));have fx:=lH ((eb.o.no aa).step bq (by unfold gZ;omega));have fd:Hid (aG {S with K:=S.K.filter (λy=> !(y.c==(u:Int)))}):=lH ⟨aq.o.tree,aq.o.file⟩;clear bq fl aa fy d0;have aa:Fr No wd wd.drew:=(Fr.refl _).drew;have dh:=ah.o.no fd da.o.fresh aa;have fj:aF wd.drew cl:=(Step.no (C:=λ_=>False) da.o.fresh aa).fresh;obtain ⟨cn,fo⟩:=dh.set (S':={S with K:=S.K.filter (λy=> !(y.c==(u:Int))),next:=mP S.next u 0}) fd fj (3+u) (Z 0) (Ih L {S with K:=S.K.filter (λy=> !(y.c==(u:Int)))} u X 0) rfl rfl rfl rfl rfl;have ft:Hid (∃fq,wd.drew.cell? (I L.s (3+u))=some fq):=lH ⟨_,next_cell dh u X⟩;have fs:Hid (wd.drew.frozen? (I L.s (3+u))=false):=aU dh.cs _;have gn:Hid (wd.drew.cell? (I E 0)=some (Z u)):=lH (by rw [aA (fe.o.no aa).1];rfl);have ar:=lH fo;have cw:=lH cn.fresh;have ST:Hid (Step (bF K) w0 J (wd.drew.setCell (I L.s (3+u)) (Z 0)) cl):=da.o.trans (((Step.no (C:=λ_=>False) da.o.fresh aa).mono (λ_ e=>e.elim)).trans (cn.mono (λc e=>by unfold bF;omega)) (λ_ e=>e)) (λ_ e=>e);have dc:=lH ((fe.o.no aa).step cn X);have db:=lH ((fx.o.no aa).step cn X);have dt:Hid (aG {S with K:=S.K.filter (λy=> !(y.c==(u:Int))),next:=mP S.next u 0}):=lH ⟨aq.o.tree,aq.o.file⟩;clear dh fj cn fo aa;go_wp2_with fail;refine bU [7] ?_ gj;obtain ⟨fq,gx⟩:=ft.o;have gs:=fs.o;obtain ⟨aj,br⟩:=ar.o.set (S':=dL S u 3) dt cw 2 (Z (S.clock+1)) (by simp [mD,dL]) rfl rfl rfl rfl rfl;go_upto_region 6 with fail;have ga:wd.drew.setCell (I L.s (3+u)) (Z 0)=(wd.setCell (I L.s (3+u)) (Z 0)).drew:=rfl;rw [ga] at ar ST cw dc db aj br;generalize gy:(wd.setCell (I L.s (3+u)) (Z 0)).drew=ep at*;obtain ⟨dg,rfl⟩:∃dg:Nat->Nat,dg=cl:=⟨_,rfl⟩;have c2:ep.cell? (I L.s 2)=some (Z S.clock):=ar.o.cell 2;have eq:ep.frozen? (I L.s 2)=false:=aU ar.o.cs 2;have az:Hid (Step (bF K) w0 J (ep.setCell (I L.s 2) (Z (S.clock+1))) dg):=ST.o.trans (aj.mono (λc e=>by unfold bF;omega)) (λ_ e=>e);have dy:=lH br;have cd:=lH (dc.o.step aj X);have ee:=lH (db.o.step aj X);have ca:=lH (cz.o _ dg (et.o.trans az (λ_ e=>e)) dy);unfold Tried at ca;clear aj br cz;go_wp2_with (refine CO rfl 36 (.tmp 6) rfl E rfl 36 _ (0,0) _ cd.o.1 underlying36 rfl Tryz.yN ?_);refine ca.o.mono ?_;rintro e H ⟨⟨ab,ap,cp⟩,v,rfl,A,B,rfl,an,ao,ci,cj⟩;have dp:Hid (Low E A/\Low E B):=lH (by have eh:=cv.o.size;have ei:=az.o.fr.size;exact ⟨ci.le X,cj.le X⟩);clear ci cj;have ae:Hid (Step (bF K) w0 J H ab):=az.o.trans ap (λ_ e=>e);have bc:Hid (aV H ab K L Q bp):=cp;have ef:=lH (cd.o.step ap (by unfold bF;omega));have be:=lH (ee.o.step ap (by unfold bF;omega));have ad:=lH (And.intro an.one ao.one);have du:Hid (Rp H A B o.es o.map):=lH ⟨an,ao⟩;have bw:=lH an;have bz:=lH ao;clear ap cp c2 eq an ao;unfold aW.cells at*;dsimp only at bw bz ⊢;have am:Fr No H (H.alloc (.cells (cE 0) 29)):=(Fr.refl H).alloc _;have ax:=lH (aQ H (.cells (cE 0) 29));have bd:=bc.o.no bl ae.o.fresh am;have cb:Hid (Zero (H.alloc (.cells (cE 0) 29)) ab H (.cells (cE 0) 29 (0,0))):=lH ⟨ax,ae.o.fresh _ (AU _)⟩;have ed:=lH (be.o.no am);have em:E+1≠H.heap.size:=by have:=lt_of_block be.o.1;omega
  obtain ⟨c1,c4,er,ay,_,di⟩:=Cb (y0:=.int .i64 o.e) (y1:=.int .i64 o.ino) (y2:=.int .i64 o.size) (y3:=.int .i64 o.handle) (y4:=.int .i64 o.swaps) (y5:=.bool o.dir) (y6:=A) (y7:=B) ax ed.o.1 em (show _=some (.int .i64 Q.swaps) from bd.cell 1) (λe=>by have a:=bd.own;rw [e,cb.o.2] at a;omega);have av:Hid (Fr No H (((H.alloc (.cells #[.int .i64 0,.int .i64 0,.int .i64 0,.int .i64 0,.int .i64 0,.bool false,.slice none 0 0,.slice none 0 0] 29)).setRow H.heap.size #[.int .i64 o.e,.int .i64 o.ino,.int .i64 o.size,.int .i64 o.handle,.int .i64 o.swaps,.bool o.dir,A,B]).setCell (I H.heap.size 4) (.int .i64 Q.swaps))):=(am.aY.trans di (λj cf e=>by omega)).no (S:=No) zq;have bv:=lH (lt_of_block ay);have ak:=lH (Rz (iP o Q.swaps) A B fa _ ((bw.o.no av).le (MR bv)) ((bz.o.no av).le (MR bv)));unfold aW.cells at ak;dsimp only [iP] at ak;have dl:=lH (show (#[o.e,o.ino,o.size,o.handle,o.swaps,o.dir,A,B]:Array Value).all (·.oneCell')=true from by
   have a:∀k x,(Value.int k x).oneCell'=true:=λ_ _=>rfl;have b:∀x,(Value.bool x).oneCell'=true:=λ_=>rfl;simp [a,b,ad.o.1,ad.o.2])
  have dk:=lH (show (#[o.e,o.ino,o.size,o.handle,Q.swaps,o.dir,A,B]:Array Value).all (·.oneCell')=true from by
   have a:∀k x,(Value.int k x).oneCell'=true:=λ_ _=>rfl;have b:∀x,(Value.bool x).oneCell'=true:=λ_=>rfl;simp [a,b,ad.o.1,ad.o.2])
  clear am bd;go_wp2_with (first|(refine BQ rfl 29 (.tmp 9) (.tmp 42) rfl H #[o.e,o.ino,o.size,o.handle,o.swaps,o.dir,A,B] rfl rfl 29 _ ax Tryz.size29 rfl dl ?_)|(refine CO rfl 29 (.tmp 9) rfl H rfl 29 _ (0,0) _ ay underlying29 rfl Tryz.size29 ?_));refine ak.o.mono ?_;rintro e V ⟨v,b,c,rfl,sl,el,bh⟩;obtain rfl:=sl.1;have bb:=lH sl;have au:=lH (av.o.trans bh zq);have dm:=lH (bh.aB ay id);generalize H.heap.size=cu at*;have ai:Fr No V V.drew:=(Fr.refl _).drew;have ag:=lH (au.o.trans ai zq);have ah:=lH (bc.o.no bl ae.o.fresh ag);have dj:Hid (aF V.drew ab):=lH (Step.no (C:=λ_=>False) ae.o.fresh ag).fresh;have al:=lH (ef.o.no au);have ec:=lH (be.o.no ag);have ea:Hid (Zero V.drew ab cu (.cells #[o.e,o.ino,o.size,o.handle,Q.swaps,o.dir,A,B] 29 (0,0))):=lH ⟨ai.aB dm id,cb.o.2⟩;have aw:=lH (Xj ab (K+1) L.win Q.W u fh r.l r.q (iP o Q.swaps).bytes b 0 c _ V.drew ah.o.win dj ⟨rfl,bb.o.2.1,AP bb.o.2.2.1 ai.size,λj y cf=>ai.cell_of (bb.o.2.2.2 j y cf) id⟩ ew (λi ch co bs ek=>fc.o i ch co bs (by rw [<-bm.o];exact ek)) (by rw [bm.o,cx.o];decide) (by rw [bm.o,cx.o];decide));unfold Iu at aw;dsimp only [iP] at aw;have dq:Hid (¬(ab E=K+1)):=lH (by rw [al.o.2];omega);have ds:Hid (¬(ab L.s=K+1)):=lH (by rw [ah.o.own];omega);have fz:V.cell? (I L.s 8)=some (Y L.win):=au.o.cell_of (bc.o.cell 8) id;(have gk:V.cell? (I E 0)=some (Z u):=by rw [aA al.o.1];rfl);(have gl:V.cell? (I E 1)=some (Z r.l):=by rw [aA al.o.1];rfl);have gm:V.cell? (I E 2)=some (Z r.q):=by rw [aA al.o.1];rfl
  clear bh sl el ai c1 c4 er ak;go_wp2_with fail;go_region_held3 (λw'=>w'.cell? (I E 0)=some (Z u)/\w'.cell? (I E 1)=some (Z r.l)/\w'.cell? (I E 2)=some (Z r.q)/\w'.cell? (I L.s 8)=some (Y L.win)) (first|go_keep|(go_split_ands;refine ⟨?_,?_,?_,?_⟩<;>exact af.fr.cell_of (by assumption) (by first|exact dq.o|exact ds.o)))
   ((go_at_call 133;refine aw.o.mono ?_;rintro e bj ⟨rfl,⟨ck,af,ct⟩,ce⟩))
  have dx:=lH (ah.o.Ha bl af ct);have dw:Hid (Step (bF K) w0 J bj ck):=(ae.o.trans ((Step.no (C:=λ_=>False) ae.o.fresh ag).mono (λ_ e=>e.elim)) (λ_ e=>e)).trans (af.mono (λc e=>by unfold bF;omega)) (λ_ e=>e);have dz:=lH (ea.o.step af X);have bf:=lH (ec.o.step af X);have dv:Hid (Rp bj A B o.es o.map):=(du.o.no ag).fr ce (λk e _=>by rw [e];exact ah.o.win.nob);have dr:=lH (yA bf.o.1);clear af ct ce;go_wp2_with (first|(refine CO rfl 29 (.tmp 9) rfl cu rfl 29 _ (0,0) _ dz.o.1 underlying29 rfl Tryz.size29 ?_)|(refine BQ rfl 29 (.tmp 8) (.tmp 61) rfl (E+1) #[o.e,o.ino,o.size,o.handle,Q.swaps,o.dir,A,B] rfl rfl 29 _ bf.o.1 Tryz.size29 rfl dk ?_));have dn:=aX (cs':= #[o.e,o.ino,o.size,o.handle,Q.swaps,o.dir,A,B]) bf.o.1;exact AZ (v:=.agg #[o.e,o.ino,o.size,o.handle,Q.swaps,o.dir,A,B]) (BD rfl _ _ (E+1) 29 _ (0,0) _ rfl dn underlying29 rfl Tryz.size29) rfl
   (ez.o _ w0 bj _ ck A B rfl ad.o.1 ad.o.2 dv.o dp.o dr.o cv.o B1.o dw.o dx.o (fR))
def rG (k:Int):Value:=if 1<=k/\k<=8 then .func (Fn.func (101+k.toNat)) #[] #[] else .nilFunc
theorem Gn (k:Int) (w):Calls prog 61 #[k] w λe w'=>e=.returned (rG k)/\w'=w:=by
 by_cases h:1<=k/\k<=8;{(have r:k=1\/k=2\/k=3\/k=4\/k=5\/k=6\/k=7\/k=8:=X);have o:rG k=.func (Fn.func (101+k.toNat)) #[] #[]:=AL h;rw [o];clear o h;rcases r with rfl|rfl|rfl|rfl|rfl|rfl|rfl|rfl;(all_goals go_enter func61,ntmps61;go_wp2;go_ret;exact ⟨rfl,rfl⟩)};{have o:rG k=.nilFunc:=AA h;rw [o];(have u:(k==1)=false:=by simp;omega);(have A:(k==2)=false:=by simp;omega);(have B:(k==3)=false:=by simp;omega);(have E:(k==4)=false:=by simp;omega);(have H:(k==5)=false:=by simp;omega);(have J:(k==6)=false:=by simp;omega);(have Q:(k==7)=false:=by simp;omega);(have V:(k==8)=false:=by simp;omega);clear o h;go_enter func61,ntmps61;go_wp2;go_ret;exact ⟨rfl,rfl⟩}
theorem Z4 (w):(Go.binOp .eql 133 .nilFunc .nilFunc).run prog w=.ok (.bool true) w:=by kernel_rfl
theorem Qj (f w):(Go.binOp .eql 133 (.func (Fn.func f) #[] #[]) .nilFunc).run prog w=.ok (.bool false) w:=by kernel_rfl
theorem Ho {C u w w' E H B r} (V:aF w B) (f:Fr No w w') (s:Step C w' B E r) (A:∀g,u g->w.heap.size<=g/\g<w'.heap.size) (q:Fr u E H):
  Step C w B H r/\Step (λc=>c=0) E r H r:=by
 have e:∀g,u g->r g=0:=λg J=>(s.old g (A g J).2).trans (V g (A g J).1);have Q:=(f.aY).trans s.fr (λ_ _ h=>h);refine ⟨⟨Q.trans q (λj aa e=>by have:=(A j e).1;omega),λk o=>s.old k (AP o f.size),λk o=>s.fresh k (AV q.size o)⟩,⟨q.mono (λj _ h=>e j h),λ_ _=>rfl,λk o=>s.fresh k (AV q.size o)⟩⟩
def iT (w:World) (q:Array Value):World:=((w.alloc (.cells q 36)).alloc (.cells (cE 0) 29)).alloc (.cells (cE 0) 29)
theorem F6 (w q):Fr No w (iT w q):=(((Fr.refl w).alloc _).alloc _).alloc _
theorem D5 (w q):(iT w q).heap[w.heap.size]? =some (.cells q 36 (0,0)):=(((Fr.refl (S:=No) _).alloc _).alloc _).aB (aQ w _) id
theorem Gu (w q):(iT w q).heap[w.heap.size+1]? =some (.cells (cE 0) 29 (0,0)):=by
 have h:((w.alloc (.cells q 36)).alloc (.cells (cE 0) 29)).heap[w.heap.size+1]? =some (.cells (cE 0) 29 (0,0)):=by simpa using aQ (w.alloc _) _
 exact ((Fr.refl (S:=No) _).alloc _).aB h id
theorem H5 (w q):(iT w q).heap[w.heap.size+1+1]? =some (.cells (cE 0) 29 (0,0)):=by
 simpa [iT] using aQ ((w.alloc (.cells q 36)).alloc (.cells (cE 0) 29)) (.cells (cE 0) 29)
theorem Ny (fn H K n ad L S) (A:aH) (E B w x) (h:aV w H K L S n) (ok:aG S) (V:aF w H) (bw:(A.kind=10/\fn=63)\/(A.kind=11/\fn=64)\/(A.kind=9/\fn=65)) (ao:aG x.2) (au:∀ap,Fr No w ap->Calls prog 62 #[Y L.s,.func (Fn.func fn) #[] #[],.agg (A.cells E B)] ap (Tried ap H K L ad x)):
  Calls prog 18 #[Y L.s,.agg (A.cells E B)] w (Told w H K L ad (iP x.1 x.2.swaps,x.2)):=by
 have ab:Fr No w (iT w (A.cells E B)):=F6 _ _;have bf:=lH ab;have ar:=h.no ok V ab;have bh:=(Step.no (C:=λ_=>False) V ab).fresh;have az:=D5 w (A.cells E B);have bb:=Gu w (A.cells E B);have an:=H5 w (A.cells E B);have ax:Hid (Zero (iT w (A.cells E B)) H w (.cells (A.cells E B) 36 (0,0))):=lH ⟨az,V _ (AU _)⟩;have bt:Hid (Zero (iT w (A.cells E B)) H (w.heap.size+1) (.cells (cE 0) 29 (0,0))):=lH ⟨bb,V _ (BZ _)⟩;have br:Hid (Zero (iT w (A.cells E B)) H (w.heap.size+1+1) (.cells (cE 0) 29 (0,0))):=lH ⟨an,V _ X⟩;have B2:=lH (lt_of_block an);have fm:Fr No w ((w.alloc (.cells (A.cells E B) 36)).alloc (.cells (cE 0) 29)):=((Fr.refl w).alloc _).alloc _;have bi:=lH (xN H K n L S _ (h.no ok V fm));have aj:=lH (au _ ab);unfold Tried at aj;obtain ⟨o,aa⟩:=x;dsimp only at ao aj ⊢;have bl:Hid (∀(J aq:World) (ae:Nat->Nat) r u,aV J ae K L aa ad->Step (bF K) (iT w (A.cells E B)) H J ae->r.oneCell'=true->u.oneCell'=true->Rp J r u o.es o.map->Low w r/\Low w u->uX J (w.heap.size+1)->uX J (w.heap.size+1+1)->Fr (λj=>j=w.heap.size+1\/j=w.heap.size+1+1) J aq->Told w H K L ad (iP o aa.swaps,aa) (.returned (.agg #[o.e,o.ino,o.size,o.handle,aa.swaps,o.dir,r,u])) aq):=λJ aq ae r u t s ay bu bz bx cg ch g=>by
  have cc:=B2.o;obtain ⟨a,b⟩:=Ho V ab s (λj ce=>by omega) g;exact ⟨⟨ae,a,t.step ao b (λc h e=>by unfold bF at h;omega)⟩,r,u,rfl,ay,bu,bz.fr g (λk e _=>by rcases e with e|e<;>(rw [e];assumption)),bx⟩
 generalize bv:Told w H K L ad _=cb at*;clear bv;have ca:=lH ar;clear ar bh az bb an ab fm h ok V au ao;unfold iT aH.cells at*;try unfold aW.cells at*
 generalize A.kind=cf at*;rcases bw with ⟨rfl,rfl⟩|⟨rfl,rfl⟩|⟨rfl,rfl⟩;all_goals
  go_enter func18,ntmps18;go_wp2_with fail;with_reducible refine bi.o.mono ?_
  rintro e w' ⟨rfl,rfl⟩;go_wp2_with fail;refine (Gn _ _).mono ?_;rintro e w' ⟨rfl,rfl⟩;generalize ((w.alloc _).alloc _).alloc _=w0 at*;generalize cd:w.heap.size=Q at*;have ci:=aA ax.o.1 3;go_wp2_with (refine wR 36 ax.o.1 ?_);with_reducible refine aj.o.mono ?_
  rintro e J ⟨⟨ae,ag,be⟩,v,rfl,r,u,rfl,al,am,bc,bd⟩;have bo:Hid (Low Q r/\Low Q u):=lH (by have ay:=bf.o.size;exact ⟨bc.le X,bd.le X⟩);clear bc bd;have bp:Hid (Rp J r u o.es o.map):=lH ⟨al,am⟩;have ah:=lH al.one;have ai:=lH am.one;have bj:=lH (show (#[o.e,o.ino,o.size,o.handle,aa.swaps,o.dir,r,u]:Array Value).all (·.oneCell')=true from by
   have a:∀k x,(Value.int k x).oneCell'=true:=λ_ _=>rfl;have b:∀x,(Value.bool x).oneCell'=true:=λ_=>rfl;simp [a,b,ah.o,ai.o])
  have bk:=lH (show (#[o.e,o.ino,o.size,o.handle,o.swaps,o.dir,r,u]:Array Value).all (·.oneCell')=true from by
   have a:∀k x,(Value.int k x).oneCell'=true:=λ_ _=>rfl;have b:∀x,(Value.bool x).oneCell'=true:=λ_=>rfl;simp [a,b,ah.o,ai.o])
  have bq:=lH ag;have ak:=lH be;have af:=lH (br.o.step ag (by unfold bF;omega));have aw:=lH (bt.o.step ag (by unfold bF;omega));clear ag be;clear al am;obtain ⟨c1,c4,cj,bn,av,bg⟩:=Cb (sw:=Z aa.swaps) (y0:=Z o.e) (y1:=Z o.ino) (y2:=Z o.size) (y3:=Z o.handle) (y4:=Z o.swaps) (y5:=.bool o.dir) (y6:=r) (y7:=u) af.o.1 aw.o.1 X (ak.o.cell 1) (λe=>by have a:=ak.o.own;rw [e,af.o.2] at a;omega);go_wp2_with (first|(refine BQ rfl 29 (.tmp 5) _ rfl (Q+1+1) #[o.e,o.ino,o.size,o.handle,o.swaps,o.dir,r,u] rfl rfl 29 _ af.o.1 Tryz.size29 rfl bk ?_)|(refine CO rfl 29 (.tmp 5) rfl (Q+1+1) rfl 29 _ (0,0) _ bn underlying29 rfl Tryz.size29 ?_)|(refine BQ rfl 29 (.tmp 4) (.tmp 71) rfl (Q+1) #[o.e,o.ino,o.size,o.handle,aa.swaps,o.dir,r,u] rfl rfl 29 _ av Tryz.size29 rfl bj ?_));have bm:=aX (cs':= #[o.e,o.ino,o.size,o.handle,aa.swaps,o.dir,r,u]) av.o;refine AZ (v:=.agg _) (BD rfl _ _ (Q+1) 29 _ (0,0) _ rfl bm underlying29 rfl Tryz.size29) rfl ?_;exact bl.o _ _ _ r u ak bq ah ai bp bo (yA aw.o.1) (yA af.o.1) ((bg.o.mono (λ_ _ e=>Or.inr e)).trans (Fr.setRow (S:=λj=>j=Q+1\/j=Q+1+1) (Fr.refl _) (.inl (.inl rfl)) _) zq)
theorem aFs (A K n au L S) (o:aH) (u r w) (h:aV w A K L S n) (ok:aG S) (B:aF w A) (ag:¬(1<=o.kind/\o.kind<=8)) (bh:(o.kind==9)=false) (bf:(o.kind==10)=false) (bg:(o.kind==11)=false) (_hn:au=n):
  Calls prog 18 #[Y L.s,.agg (o.cells u r)] w (nC (λ_=>False) w A K L n (iP (iW 1 0 0 0 0 false) S.swaps,S)):=by
 have E:Fr No w (iT w (o.cells u r)):=F6 _ _;have av:=lH E;have J:=h.no ok B E;have ab:=(Step.no (C:=λ_=>False) B E).fresh;have ah:=D5 w (o.cells u r);have ai:=Gu w (o.cells u r);have V:=H5 w (o.cells u r);have ao:Hid (Zero (iT w (o.cells u r)) A w (.cells (o.cells u r) 36 (0,0))):=lH ⟨ah,B _ (AU _)⟩;have ap:Hid (Zero (iT w (o.cells u r)) A (w.heap.size+1) (.cells (cE 0) 29 (0,0))):=lH ⟨ai,B _ (BZ _)⟩;have Q:Hid (Zero (iT w (o.cells u r)) A (w.heap.size+1+1) (.cells (cE 0) 29 (0,0))):=lH ⟨V,B _ X⟩;have B2:=lH (lt_of_block V);have fm:Fr No w ((w.alloc (.cells (o.cells u r) 36)).alloc (.cells (cE 0) 29)):=((Fr.refl w).alloc _).alloc _;have ak:=lH (xN A K n L S _ (h.no ok B fm));have al:Hid (∀(aa:World),Fr (λj=>j=w.heap.size+1\/j=w.heap.size+1+1) (iT w (o.cells u r)) aa->nC (λ_=>False) w A K L n (iP (iW 1 0 0 0 0 false) S.swaps,S) (.returned (.agg #[Z 1,Z 0,Z 0,Z 0,S.swaps,false,nS,nS])) aa):=λaa g=>by
  have az:=B2.o;obtain ⟨a,b⟩:=Ho B E (Step.refl ab) (λj be=>by omega) g;exact ⟨⟨A,a,J.step ok b (λc h e=>by unfold bF at h;omega)⟩,.slice none 0 0,.slice none 0 0,rfl,rfl,rfl,Vh _,Low.nil _,Low.nil _⟩
 generalize aq:nC (λ_=>False) w A K L n _=ay at*;clear aq;have ar:rG o.kind=.nilFunc:=AA ag;have ad:=lH J;have bc:∀w':World,(Instr.build 29 #[(0,Z 1)]).run prog w'=.ok (.agg (cE 1)) w':=λw'=>by kernel_rfl
 have ax:=lH (show ((cE 1):Array Value).all (·.oneCell')=true from by simp [Value.oneCell']);have aw:=lH (show (#[Z 1,Z 0,Z 0,Z 0,S.swaps,false,nS,nS]:Array Value).all (·.oneCell')=true from by simp [Value.oneCell']);have bd:=Z4;clear J ab ah ai V E fm h ok B ag;unfold iT aH.cells at*;try unfold aW.cells at*
 go_enter func18,ntmps18;go_wp2_with fail;with_reducible refine ak.o.mono ?_
 rintro e w' ⟨rfl,rfl⟩;go_wp2_with fail;refine (Gn _ _).mono ?_;rintro e w' ⟨af,rfl⟩;rw [ar] at af;subst af;generalize ((w.alloc _).alloc _).alloc _=w0 at*;generalize bb:w.heap.size=H at*;have bi:w0.cell? (I H 3)=some (Z o.kind):=by rw [aA ao.o.1];rfl
 obtain ⟨c1,c4,bj,an,ae,aj⟩:=Cb (sw:=Z S.swaps) (y0:=Z 1) (y1:=Z 0) (y2:=Z 0) (y3:=Z 0) (y4:=Z 0) (y5:=.bool false) (y6:=.slice none 0 0) (y7:=.slice none 0 0) Q.o.1 ap.o.1 X (ad.o.cell 1) (λe=>by have a:=ad.o.own;rw [e,Q.o.2] at a;omega);go_wp2_with (first|(refine wS 29 Q.o.1 ?_)|(refine wR 29 an ?_)|(refine wS 29 ae ?_));have am:=aX (cs':= #[Z 1,Z 0,Z 0,Z 0,S.swaps,false,nS,nS]) ae.o;refine AZ (v:=.agg _) (BD rfl _ _ (H+1) 29 _ (0,0) _ rfl am underlying29 rfl Tryz.size29) rfl ?_;exact al.o _ ((aj.o.mono (λ_ _ e=>Or.inr e)).trans (Fr.setRow (S:=λj=>j=H+1\/j=H+1+1) (Fr.refl _) (.inl (.inl rfl)) _) zq)
theorem J7 (H K n af L S) (r:aH) (J E w x ar C) (cw:∀c,C c->bF K c) (h:aV w H K L S n) (ok:aG S) (Q:aF w H) (bm:1<=r.kind/\r.kind<=8) (bq:∀i da df bs,S.W i=some (da,df,bs)->bs.length<=1000000) (bj:dI S.W r.c r.l r.q=(ar,none)) (dp:(ar==1)=false) (au:aG x.2) (bc:∀ah,Fr No w ah->Calls prog 68 #[Y L.s,rG r.kind,.agg (r.cells J E),ar] ah (nC C ah H K L af x)):
  Calls prog 18 #[Y L.s,.agg (r.cells J E)] w (nC C w H K L af (iP x.1 x.2.swaps,x.2)):=by
 have ae:Fr No w (iT w (r.cells J E)):=F6 _ _;have aw:=lH ae;have ay:=h.no ok Q ae;have ax:=(Step.no (C:=λ_=>False) Q ae).fresh;have br:=D5 w (r.cells J E);have bt:=Gu w (r.cells J E);have aq:=H5 w (r.cells J E);have ad:Hid (Zero (iT w (r.cells J E)) H w (.cells (r.cells J E) 36 (0,0))):=lH ⟨br,Q _ (AU _)⟩;have cp:Hid (Zero (iT w (r.cells J E)) H (w.heap.size+1) (.cells (cE 0) 29 (0,0))):=lH ⟨bt,Q _ (BZ _)⟩;have cm:Hid (Zero (iT w (r.cells J E)) H (w.heap.size+1+1) (.cells (cE 0) 29 (0,0))):=lH ⟨aq,Q _ X⟩;have B2:=lH (lt_of_block aq);have fm:Fr No w ((w.alloc (.cells (r.cells J E) 36)).alloc (.cells (cE 0) 29)):=((Fr.refl w).alloc _).alloc _;have ca:=lH (xN H K n L S _ (h.no ok Q fm));have aj:=lH bc;rw [show rG r.kind=.func (Fn.func (101+r.kind.toNat)) #[] #[] from AL bm] at aj;unfold nC at aj;obtain ⟨o,aa⟩:=x;dsimp only at au aj ⊢;have ce:Hid (∀(V av:World) (ag:Nat->Nat) A B,aV V ag K L aa af->Step C (iT w (r.cells J E)) H V ag->A.oneCell'=true->B.oneCell'=true->Rp V A B o.es o.map->Low w A/\Low w B->uX V (w.heap.size+1)->uX V (w.heap.size+1+1)->Fr (λj=>j=w.heap.size+1\/j=w.heap.size+1+1) V av->nC C w H K L af (iP o aa.swaps,aa) (.returned (.agg #[o.e,o.ino,o.size,o.handle,aa.swaps,o.dir,A,B])) av):=λV av ag A B t s bh bi cz cy dq dr g=>by
  have dh:=B2.o;obtain ⟨a,b⟩:=Ho Q ae s (λj dk=>by omega) g;exact ⟨⟨ag,a,t.step au b (λc h e=>by unfold bF at h;omega)⟩,A,B,rfl,bh,bi,cz.fr g (λk e _=>by rcases e with e|e<;>(rw [e];assumption)),cy⟩
 generalize cx:nC C w H K L af _=dg at*;clear cx;have be:Hid (¬C 0):=λe=>by have:=cw 0 e;unfold bF at this;omega
 have bb:=lH ay;have az:=lH ax;have cd:=lH ok;have cg:=lH bq;have bz:=lH bj;have dn:(r.kind==9)=false:=by simp;omega
 have dl:(r.kind==10)=false:=by simp;omega
 have dm:(r.kind==11)=false:=by simp;omega
 have bp:rG r.kind=.func (Fn.func (101+r.kind.toNat)) #[] #[]:=AL bm;have dj:=Qj (101+r.kind.toNat);clear ay ax br bt aq ae fm h ok Q bc au bq bj;generalize 101+r.kind.toNat=cv at*;unfold iT aH.cells at*;try unfold aW.cells at*
 go_enter func18,ntmps18;go_wp2_with fail;with_reducible refine ca.o.mono ?_
 rintro e w' ⟨rfl,rfl⟩;go_wp2_with fail;refine (Gn _ _).mono ?_;rintro e w' ⟨bk,rfl⟩;rw [bp] at bk;subst bk;clear bp;generalize 101+r.kind.toNat=cv at*;generalize ((w.alloc _).alloc _).alloc (.cells (cE 0) 29)=w0 at*;generalize di:w.heap.size=u at*;have cu:w0.cell? (I L.s 8)=some (Y L.win):=bb.o.cell 8;have db:w0.cell? (I u 0)=some (Z r.c):=by rw [aA ad.o.1];rfl
 have dc:w0.cell? (I u 1)=some (Z r.l):=by rw [aA ad.o.1];rfl
 have dd:w0.cell? (I u 2)=some (Z r.q):=by rw [aA ad.o.1];rfl
 have de:w0.cell? (I u 3)=some (Z r.kind):=by rw [aA ad.o.1];rfl
 have bg:Fr No w0 w0.drew:=(Fr.refl _).drew;have ai:=lH (Nb H (K+1) L.win S.W r.c r.l r.q w0.drew (bb.o.no cd az bg).win cg);unfold N9 at ai;rw [bz.o] at ai;dsimp only at ai;clear bg;go_wp2_with fail;go_region_held3 (λw'=>w'.cell? (I L.s 8)=some (Y L.win)/\w'.cell? (I u 0)=some (Z r.c)/\w'.cell? (I u 1)=some (Z r.l)/\w'.cell? (I u 2)=some (Z r.q)) (first|go_keep|(go_split_ands;refine ⟨?_,?_,?_,?_⟩<;>exact ap.cell_of (by assumption) id))
  ((go_at_call 66;refine ai.o.mono ?_;rintro e ah ⟨ap,rfl⟩))
 have ab:=lH ((Fr.refl w0).drew.trans ap zq);have co:=lH (ad.o.no ab);have ct:=lH (cp.o.no ab);have cn:=lH (cm.o.no ab);clear ap cu db dc dd de;have cf:=lH (aj.o ah (aw.o.trans ab zq));go_wp2_with (refine wR 36 co.o.1 ?_);with_reducible refine cf.o.mono ?_
 rintro e V ⟨⟨ag,al,bw⟩,A,B,rfl,bl,bn,bo,bu,bv⟩;have cj:Hid (Low u A/\Low u B):=lH (by have bh:=aw.o.size;have bi:=ab.o.size;exact ⟨bu.le X,bv.le X⟩);clear bu bv;have ck:=lH bo;have am:=lH bl;have an:=lH bn;clear bo;have cb:=lH (show (#[o.e,o.ino,o.size,o.handle,aa.swaps,o.dir,A,B]:Array Value).all (·.oneCell')=true from by
  have a:∀k x,(Value.int k x).oneCell'=true:=λ_ _=>rfl;have b:∀x,(Value.bool x).oneCell'=true:=λ_=>rfl;simp [a,b,am.o,an.o])
 have cc:=lH (show (#[o.e,o.ino,o.size,o.handle,o.swaps,o.dir,A,B]:Array Value).all (·.oneCell')=true from by
  have a:∀k x,(Value.int k x).oneCell'=true:=λ_ _=>rfl;have b:∀x,(Value.bool x).oneCell'=true:=λ_=>rfl;simp [a,b,am.o,an.o])
 have cl:=lH ((Step.no az ab).trans al (λ_ e=>e));have ao:=lH bw;have ak:=lH (cn.o.step al be);have bf:=lH (ct.o.step al be);clear al bw bl bn;obtain ⟨c1,c4,ds,ci,bd,bx⟩:=Cb (sw:=Z aa.swaps) (y0:=Z o.e) (y1:=Z o.ino) (y2:=Z o.size) (y3:=Z o.handle) (y4:=Z o.swaps) (y5:=.bool o.dir) (y6:=A) (y7:=B) ak.o.1 bf.o.1 X (ao.o.cell 1) (λe=>by have a:=ao.o.own;rw [e,ak.o.2] at a;omega);go_wp2_with (first|(refine BQ rfl 29 (.tmp 5) (.tmp 40) rfl (u+1+1) #[o.e,o.ino,o.size,o.handle,o.swaps,o.dir,A,B] rfl rfl 29 _ ak.o.1 Tryz.size29 rfl cc ?_)|(refine CO rfl 29 (.tmp 5) rfl (u+1+1) rfl 29 _ (0,0) _ ci underlying29 rfl Tryz.size29 ?_)|(refine BQ rfl 29 (.tmp 4) (.tmp 71) rfl (u+1) #[o.e,o.ino,o.size,o.handle,aa.swaps,o.dir,A,B] rfl rfl 29 _ bd Tryz.size29 rfl cb ?_));have ch:=aX (cs':= #[o.e,o.ino,o.size,o.handle,aa.swaps,o.dir,A,B]) bd.o;refine AZ (v:=.agg _) (BD rfl _ _ (u+1) 29 _ (0,0) _ rfl ch underlying29 rfl Tryz.size29) rfl ?_;exact ce.o _ _ _ A B ao cl am an ck cj (yA bf.o.1) (yA ak.o.1) ((bx.o.mono (λ_ _ e=>Or.inr e)).trans (Fr.setRow (S:=λj=>j=u+1\/j=u+1+1) (Fr.refl _) (.inl (.inl rfl)) _) zq)
theorem aDP (H K n cm L S) (r:aH) (J E w o) (h:aV w H K L S n) (ok:aG S) (V:aF w H) (ch:1<=r.kind/\r.kind<=8) (bj:∀i cl cu bs,S.W i=some (cl,cu,bs)->bs.length<=1000000) (bg:dI S.W r.c r.l r.q=(1,some o.bytes)) (ao:o.ok) (be:o.e<=18) (_hn:cm=n):
  Calls prog 18 #[Y L.s,.agg (r.cells J E)] w (nC (λ_=>False) w H K L n (o,S)):=by
 have ad:Fr No w (iT w (r.cells J E)):=F6 _ _;have bo:=lH ad;have ah:=h.no ok V ad;have af:=(Step.no (C:=λ_=>False) V ad).fresh;have bk:=D5 w (r.cells J E);have bl:=Gu w (r.cells J E);have ap:=H5 w (r.cells J E);have ab:Hid (Zero (iT w (r.cells J E)) H w (.cells (r.cells J E) 36 (0,0))):=lH ⟨bk,V _ (AU _)⟩;have bb:Hid (Zero (iT w (r.cells J E)) H (w.heap.size+1) (.cells (cE 0) 29 (0,0))):=lH ⟨bl,V _ (BZ _)⟩;have cd:Hid (Zero (iT w (r.cells J E)) H (w.heap.size+1+1) (.cells (cE 0) 29 (0,0))):=lH ⟨ap,V _ X⟩;have B2:=lH (lt_of_block ap);have fm:Fr No w ((w.alloc (.cells (r.cells J E) 36)).alloc (.cells (cE 0) 29)):=((Fr.refl w).alloc _).alloc _;have bt:=lH (xN H K n L S _ (h.no ok V fm));have bv:Hid (∀(ae aq:World) u A,u.oneCell'=true->A.oneCell'=true->Rp ae u A o.es o.map->Low w u/\Low w A->uX ae (w.heap.size+1)->Fr No (iT w (r.cells J E)) ae->Fr (λj=>j=w.heap.size+1) ae aq->nC (λ_=>False) w H K L n (o,S) (.returned (.agg #[o.e,o.ino,o.size,o.handle,o.swaps,o.dir,u,A])) aq):=λae aq u A bd bf ck ci cj f g=>by
  have db:=B2.o;obtain ⟨a,b⟩:=Ho V ad (Step.no af f) (λj de=>by omega) g;exact ⟨⟨H,a,(ah.no ok af f).step ok b (λc h e=>by unfold bF at h;omega)⟩,u,A,rfl,bd,bf,ck.fr g (λk e _=>by rw [e];exact cj),ci⟩
 generalize cf:nC (λ_=>False) w H K L n (o,S)=cw at*;clear cf;have av:=lH ah;have br:=lH af;have bu:=lH ok;have bw:=lH bj;have bq:=lH bg;have dh:(r.kind==9)=false:=by simp;omega
 have df:(r.kind==10)=false:=by simp;omega
 have dg:(r.kind==11)=false:=by simp;omega
 have bi:rG r.kind=.func (Fn.func (101+r.kind.toNat)) #[] #[]:=AL ch;have dd:=Qj (101+r.kind.toNat);have ai:=lH (And.intro ao (And.intro be ao.len));clear ah af bk bl ap ad fm h ok V bj bg ao be;unfold iT aH.cells at*;try unfold aW.cells at*
 go_enter func18,ntmps18;go_wp2_with fail;with_reducible refine bt.o.mono ?_
 rintro e w' ⟨rfl,rfl⟩;go_wp2_with fail;refine (Gn _ _).mono ?_;rintro e w' ⟨bh,rfl⟩;rw [bi] at bh;subst bh;clear bi;generalize 101+r.kind.toNat=da at*;generalize ((w.alloc _).alloc _).alloc _=w0 at*;generalize dc:w.heap.size=B at*;have ce:w0.cell? (I L.s 8)=some (Y L.win):=av.o.cell 8;have cn:w0.cell? (I B 0)=some (Z r.c):=by rw [aA ab.o.1];rfl
 have co:w0.cell? (I B 1)=some (Z r.l):=by rw [aA ab.o.1];rfl
 have cp:w0.cell? (I B 2)=some (Z r.q):=by rw [aA ab.o.1];rfl
 have ct:w0.cell? (I B 3)=some (Z r.kind):=by rw [aA ab.o.1];rfl
 have bc:Fr No w0 w0.drew:=(Fr.refl _).drew;have ag:=lH (Nb H (K+1) L.win S.W r.c r.l r.q w0.drew (av.o.no bu br bc).win bw);unfold N9 at ag;rw [bq.o] at ag;dsimp only at ag;clear bc;go_wp2_with fail;go_region_held3 (λw'=>w'.cell? (I L.s 8)=some (Y L.win)/\w'.cell? (I B 0)=some (Z r.c)/\w'.cell? (I B 1)=some (Z r.l)/\w'.cell? (I B 2)=some (Z r.q)) (first|go_keep|(go_split_ands;refine ⟨?_,?_,?_,?_⟩<;>exact ak.cell_of (by assumption) id))
  ((go_at_call 66;refine ag.o.mono ?_;rintro e cv ⟨ak,v,b,c,rfl,sl,cg⟩;obtain rfl:=sl.1))
 have aa:=lH ((Fr.refl w0).drew.trans ak zq);have cy:=lH (ab.o.no aa);have cz:=lH (bb.o.no aa);have cx:=lH (cd.o.no aa);clear ak cg ce cn co cp ct;have cc:=lH sl;have au:=lH (aAS _ o ai.o.1 ai.o.2.1 (by have:=ai.o.2.2;omega) b 0 c cv cc);unfold aW.cells at au;clear sl;go_wp2_with fail;refine au.o.mono ?_;rintro e Q ⟨u,A,rfl,am,an,al,bm,bn⟩;have ca:Hid (Low B u/\Low B A):=lH (by have bd:=bo.o.size;have bf:=aa.o.size;exact ⟨bm.le X,bn.le X⟩);clear bm bn;have aw:=lH am.one;have ax:=lH an.one;have ay:=lH (show (#[o.e,o.ino,o.size,o.handle,o.swaps,o.dir,u,A]:Array Value).all (·.oneCell')=true from by
  have a:∀k x,(Value.int k x).oneCell'=true:=λ_ _=>rfl;have b:∀x,(Value.bool x).oneCell'=true:=λ_=>rfl;simp [a,b,aw.o,ax.o])
 have cb:Hid (Rp Q u A o.es o.map):=lH ⟨am,an⟩;have az:=lH (aQ Q (.cells (cE 0) 29));have bp:Hid (Fr No Q ((Q.alloc (.cells (cE 0) 29)).setRow Q #[o.e,o.ino,o.size,o.handle,o.swaps,o.dir,u,A])):=Fr.setRow ((Fr.refl Q).alloc _) (.inr (AU _)) _;have bx:=lH (aX (cs':= #[o.e,o.ino,o.size,o.handle,o.swaps,o.dir,u,A]) az);have ar:Hid (Fr No w0 ((Q.alloc (.cells (cE 0) 29)).setRow Q #[o.e,o.ino,o.size,o.handle,o.swaps,o.dir,u,A])):=Fr.setRow ((aa.o.trans al zq).alloc _) (.inr (aa.o.trans al zq).size) _;have aj:=lH (bb.o.no ar);clear am an al;go_wp2_with (first|(refine BQ rfl 29 (.tmp 9) (.tmp 33) rfl Q #[o.e,o.ino,o.size,o.handle,o.swaps,o.dir,u,A] rfl rfl 29 _ az Tryz.size29 rfl ay ?_)|(refine CO rfl 29 (.tmp 9) rfl Q rfl 29 _ (0,0) _ bx underlying29 rfl Tryz.size29 ?_)|(refine BQ rfl 29 (.tmp 4) (.tmp 35) rfl (B+1) #[o.e,o.ino,o.size,o.handle,o.swaps,o.dir,u,A] rfl rfl 29 _ aj.o.1 Tryz.size29 rfl ay ?_));have bz:=aX (cs':= #[o.e,o.ino,o.size,o.handle,o.swaps,o.dir,u,A]) aj.o.1;refine AZ (v:=.agg _) (BD rfl _ _ (B+1) 29 _ (0,0) _ rfl bz underlying29 rfl Tryz.size29) rfl ?_;exact bv.o _ _ u A aw ax (cb.o.no bp) ca (yA aj.o.1) ar fR
