/- Part of a proof. -/
import Derived.Test.YtedcppikakinoaaGreatX24
import Derived.Test.YtedcppikakinoaaGreatX25
set_option linter.unusedSimpArgs false
set_option linter.unusedVariables false
set_option maxRecDepth 100000
set_option maxHeartbeats 12800000
namespace Go.Proofs.YtedcppikakinoaaGreat
open Go.Proofs.Tryz Go.RowKit Go.Lib
theorem aCb {m d} (u:eQ m) (hd:dP d):(bP m d).l.length<=1000:=by
 obtain ⟨d1,d2,A,B,d5,d6,_⟩:=hd;unfold bP jI;have:=u.1;have r:=u.2;(have o:∀n,n<=4096->dA n<=1000:=λn h=>by unfold dA;omega);split;{split;{dsimp only;rw [EZ,Aa];exact o _ X};{split;{dsimp only;rw [Aa];exact o _ X};{dsimp only;rw [EZ,r];exact o _ this}}};{rw [r];exact o _ this}
def Jr (w:World) (o:Nat->Nat) (J i p:Nat) (m:cO) (e:Ending) (w':World):Prop:=(∃v b,e=.returned (.tuple #[v,.bool b]))/\MG w o J i p m w'
theorem Y6 (u r i p m d w) (h:jW w u r i p m) (ag:aF w u) (V:eQ m) (hd:dP d) (co:i<1000):
  Calls prog 261 #[Y p,iQ d] w (Jr w u r i p (bP m d)):=by
 (have bo:m.l.length<=1000:=by rw [V.2];have:=V.1;unfold dA;omega);have bl:=aCb V hd;have bd:Hid (∀v b w',MG w u r i p (bP m d) w'->Jr w u r i p (bP m d) (.returned (.tuple #[v,.bool b])) w'):=λv b w' h=>⟨⟨v,b,rfl⟩,h⟩;generalize Jr w u r i p _=dr at*;obtain ⟨w0,ai⟩:∃w0,w0=w.alloc (.cells (dD d).toArray 61):=⟨_,rfl⟩;(have af:Fr No w w0:=by rw [ai];exact (Fr.refl w).alloc _);(have bu:iC w0 w d:=by rw [ai];exact AQ w _);have S0:Hid (Step (fJ r i) w u w0 u):=Step.no ag af;have bc:=lH (h.no ag af);have dq:=lH (ag _ (AU _));have ce:=lH (λW (g:Fr No w0 W)=>Lu p m W (bc.o.no S0.o.fresh g).file X);have cb:=lH (λW (g:Fr No w0 W)=>aCt u r i p m d W (bc.o.no S0.o.fresh g) (Step.no (C:=λ_=>False) S0.o.fresh g).fresh V hd co);have cf:=lH (λW cx (g:jW W cx r i p (bP m d))=>Lu p (bP m d) W g.file X);have eb:(ptrs m).length<=1000:=AV (JO _ _) bo;have ec:(ptrs (bP m d)).length<=1000:=AV (JO _ _) bl;generalize bP m d=bv at*;generalize decide (gX m d)=cm at*;have be:=lH ai.symm;have cl:=lH bu;have dp:=lH af;unfold dD at be;unfold iQ at*;clear h ag V hd ai bu af bo bl;generalize ptrs m=o at*;generalize ptrs bv=bg at*;go_enter func261,ntmps261;go_upto_region 1 with fail
 rw [be.o];go_wp2_with fail;refine (ce.o w0 (Fr.refl _)).mono ?_;rintro e bw ⟨ee,rfl,au,aq⟩;obtain ⟨bh,c1,rfl⟩:=au.shape;have cg:=lH au;have bb:=lH aq;have aw:iC bw w d:=aq.aB cl id;obtain ⟨da,db,dg,dh,di,dj,dk,dl,dm,dn,dc,dd,de,df⟩:=aw.cells;have bt:=lH (pG aw);clear au aq aw da db dg dh di dj dk dl dm dn dc dd de df;go_wp2_with (refine wL 61 bt.o ?_);refine cr (cb.o bw bb) ?_;rintro bx ⟨ax,ay,bj⟩;have ae:=lH ((S0.o.trans (Step.no S0.o.fresh bb) (λ_ e=>e)).trans ay (λ_ e=>e));have ch:Hid (aJ bY 5 bx (.slice bh o.length c1) o):=lH (by
  rcases cg.o with ⟨ap,cn⟩|⟨b,cap,ap,ea,dz,ct⟩;{rw [ap,cn];exact aZ.nil}
  ·rw [ap];have cp:=S0.o.fresh b X;have bq:=ct.fr ay.fr (by rw [cp];exact A7 r i);exact ⟨_,_,rfl,λ_=>⟨b,0,rfl,rfl,bq.lt,λj x bn=>by rw [BP];exact bq.row j x bn⟩⟩)
 have ak:=lH bj;clear ay bj bt;cases cm with
 | false=>
  go_wp2_with fail;(try go_ret2);exact bd.o _ _ _ ⟨ax,ae,ak⟩
 | true=>
  go_wp2_with fail;refine (cf.o bx ax ak).mono ?_;rintro e aa ⟨ef,rfl,av,ar⟩;obtain ⟨dt,c3,rfl⟩:=av.shape;have ci:=lH av.any;have bz:=lH ar;obtain ⟨ds,du,bi,br⟩:=(ch.o.no ar).rd;have cj:Hid (RdR bY 5 aa bh c1 o):=lH (by cases bi;exact br);clear av ar bi br;go_wp2_with fail;go_loopw [9,10] (λv a wr=>∃(j:Nat) (M:List Pt),a=Z j/\j<=o.length/\M.length<=j/\Hid (Own bY 5 59 wr aa v M)/\Hid (Fr No aa wr)) (λ_ a _=>o.length - (intOf a).toNat);case atStart=>exact ⟨0, [],rfl,BA _,by simp,lH Own.nil,lH (Fr.refl _)⟩
  case round=>
   obtain ⟨j,M,rfl,bn,dy,an,H⟩:=hrel;obtain ⟨a,dw,rfl⟩:=an.o.shape;by_cases ah:j<o.length;{obtain ⟨b,off,rfl,bk⟩:=cj.o.at_ j ah;have cy:(j:Int)<(o.length:Int):=X;have ed:(0:Int)<=(j:Int):=X;have ad:Hid (∀W,Fr No wr W->W.rangeAt b (off+j*5) (bY o[j])):=λW g i cz cu=>g.cell_of (H.o.cell_of (bk i cz cu) id) id;generalize o[j]=x at*;have am:=lH (min_ _ x bg wr (ci.o.no H) X);generalize decide (x∈bg)=cv at*;unfold bY at ad;unfold dF at am;clear bk;have bf:=lH (ad.o wr (Fr.refl _));(cases cv with|true=>{go_wp2_with (refine wL 59 bf ?_);refine cr am.o λaz A=> ?_;have Q:=lH (an.o.no A);have ab:=lH (H.o.trans A zq);clear A;go_wp2_with fail;go_roundw;{exact ⟨j+1,M,by go_num,ah,by omega,Q,ab⟩};simp [intOf];omega}|false=>{go_wp2_with (refine wL 59 bf ?_);refine cr am.o λaz A=> ?_;have Q:=lH (an.o.no A);have ab:=lH (H.o.trans A zq);have E:=ad.o az A;have y0:=E 0 _ rfl;have y1:=E 1 _ rfl;have y2:=E 2 _ rfl;have y3:=E 3 _ rfl;have y4:=E 4 _ rfl;rw [BX] at y0;have J:=lH (min_ _ x M az (Q.o.new yH).any X);have ca:=lH A;generalize decide (x∈M)=cw at*;unfold dF at J;clear A E;(cases cw with|true=>{go_wp2_with fail;refine cr J.o λaj B=> ?_;have ao:=lH (Q.o.no B);have al:=lH (ab.o.trans B zq);clear B;go_wp2_with fail;go_roundw;{exact ⟨j+1,M,by go_num,ah,by omega,ao,al⟩};simp [intOf];omega}|false=>{go_wp2_with fail;refine cr J.o λaj B=> ?_;have ao:=lH (Q.o.no B);have al:=lH (ab.o.trans B zq);have ck:=lH (ad.o aj (ca.o.trans B zq));clear B y0 y1 y2 y3 y4;go_wp2_with (first|(refine wL 59 ck ?_)|(at_builtin;(refine gB yH R _ _ R aa _ M x R (ao.o.alloc _) aj R (0,0) (cP x) (AQ aj _) R X aa (al.o.alloc _) R ?_)));intro dx dv eg bp bm;have cd:=lH bp;have cc:=lH bm;clear bp bm;go_wp2_with fail;go_roundw;{exact ⟨j+1,M++ [x],by go_num,ah,by simp only [AB,AO];omega,cd,cc⟩};simp [intOf];omega})})}
   ·(obtain rfl:j=o.length:=by omega);have cy:¬(o.length:Int)<(o.length:Int):=X
    have J:Hid (MG w u r i p bv wr):=lH (by
     have f:=bz.o.trans H zq;exact ⟨ax,ae.o.trans (Step.no ae.o.fresh f) (λ_ e=>e),ak.o.no ae.o.fresh f⟩)
    go_wp2_with fail;(try go_ret2);exact bd.o _ _ _ J.o
def flC (x:Nat):List Value:= [.float .f64 x]
def spC (x:Stp):List Value:=(cS x)
theorem Nl:iU flC 1 112 110:=⟨underlying110,by
 obtain ⟨i,r,u,A,B⟩:=EL (show (prog.info? 112).map (λi=>(i.zero,i.size,i.bytes))=some (some (.float .f64 0),1,8) by kernel_rfl);exact ⟨i,_,r,u,A,rfl,by omega⟩,by decide,λ_=>rfl,λx E o=>by
  simp [flC] at o;subst o;rfl⟩
def Fin (x:Nat):Prop:=Fi x (-200) 300/\x<18446744073709551616
theorem aFE (v L w) (h:aJ flC 1 w v L) (ah:∀x∈L,Fin x) (ax:L.length<=1000000):Calls prog 100 #[v] w (bD (Z (rW L)) w):=by
 (have ay:prog.follows .mixedOrders=true:=N);obtain ⟨base,cap,rfl,am⟩:=h.rd;(have ap:Hid (∀ad w',ad=kT L L.length->Fr No w w'->bD (Z (rW L)) w (.returned (Z ad)) w'):=λad w' e f=>by rw [e];exact ⟨rfl,f⟩);generalize bD _ w=au at*;have ag:=lH am;have ae:=lH ah;clear h am ah;go_enter func100,ntmps100;go_wp2_with fail;go_loopw [3,8] (λb a wr=>∃j:Nat,a=Z j/\j<=L.length/\b=Z (kT L j)/\Hid (Fr No w wr)) (λ_ a _=>L.length - (intOf a).toNat);(case atStart=>exact ⟨0,rfl,BA _,rfl,lH (Fr.refl _)⟩);(case round=>obtain ⟨j,rfl,aw,rfl,B⟩:=hrel;by_cases A:j<L.length;{obtain ⟨b,off,rfl,ak⟩:=ag.o.at_ j A;have ar:=CY.2 A;have bb:=CB j;have y0:=B.o.cell_of (ak 0 _ rfl) id;rw [BX,JS] at y0;have aa:=lH (ae.o _ (BL A));have aj:=Ko L j;have u:Hid (kT L (j+1)=if kT L j<0\/0<uP (L.getD j 0) (L.getD (kT L j).toNat 0) then (j:Int) else kT L j):=lH rfl;have an:Hid (L.getD j 0=L[j]):=lH (by rw [NC,AC A];rfl);rw [an.o] at u;clear ak;have H:=lH (none_ aa.o.1);unfold nX at H;by_cases ai:kT L j<0;{have E:Hid (kT L (j+1)=(j:Int)):=lH (by rw [u.o,AL (.inl ai)]);clear aj u;generalize L[j]=x at*;generalize kT L j=g at*;go_wp2_with fail;refine cr (H.o _) λQ o=> ?_;have r:=o.symm;clear o;subst r;go_wp2_with fail;go_roundw;{exact ⟨j+1,by go_num,A,by rw [E.o],B⟩};simp [intOf];omega};obtain ⟨k,ab⟩:∃k:Nat,kT L j=(k:Int):=⟨(kT L j).toNat,by omega⟩;have J:k<L.length:=X;obtain ⟨av,az,e0,al⟩:=ag.o.at_ k J;(cases e0;have z0:=B.o.cell_of (al 0 _ rfl) id;rw [BX,JS] at z0;have af:=lH (ae.o _ (BL J));have bc:=CY.2 J;have bd:=CB k;have be:¬(k:Int)<0:=X);have ao:Hid (L.getD k 0=L[k]):=lH (by rw [NC,AC J];rfl);rw [ab,GH,ao.o] at u;have V:=lH (aF3 aa.o.1 af.o.1 aa.o.2 af.o.2);unfold nX at V;rw [ab];clear al aj ab ai;generalize L[j]=x at*;generalize L[k]=y at*;by_cases aq:0<uP x y;{have E:Hid (kT L (j+1)=(j:Int)):=lH (by rw [u.o,AL (.inr aq)]);clear u;go_wp2_with fail;refine cr (H.o _) λQ o=> ?_;have r:=o.symm;clear o;subst r;go_wp2_with fail;refine cr (V.o _) λQ o=> ?_;have r:=o.symm;clear o;subst r;go_wp2_with fail;go_roundw;{exact ⟨j+1,by go_num,A,by rw [E.o],B⟩};simp [intOf];omega};have E:Hid (kT L (j+1)=(k:Int)):=lH (by rw [u.o,AA X]);clear u;go_wp2_with fail;refine cr (H.o _) λQ o=> ?_;have r:=o.symm;clear o;subst r;go_wp2_with fail;refine cr (V.o _) λQ o=> ?_;have r:=o.symm;clear o;subst r;go_wp2_with fail;go_roundw;{exact ⟨j+1,by go_num,A,by rw [E.o],B⟩};simp [intOf];omega};{(obtain rfl:j=L.length:=by omega);have ar:=DY (L.length:Int);exact aC (ap.o _ _ rfl B.o)})
theorem aE8 (v L x w) (h:aJ spC 3 w v L) (ar:L.length<=1000000):Calls prog 153 #[v,.agg (cS x)] w (λe w'=>∃o:Int,e=.returned (Z o)/\(x∈L↔0<=o)/\Fr No w w'):=by
 (have au:prog.follows .mixedOrders=true:=N);obtain ⟨base,cap,rfl,ae⟩:=h.rd;have ab:Fr No w (w.alloc (.cells (cS x) 46)):=(Fr.refl w).alloc _;have ak:=lH (aQ w (.cells (cS x) 46));have ai:=lH ae;have af:=lH ab;have ag:=lH (λy=>Df x y);have aa:Hid (∀(o:Int) w',(x∈L↔0<=o)->Fr No w w'->(λe w'=>∃o:Int,e=Ending.returned (Z o)/\(x∈L↔0<=o)/\Fr No w w') (.returned (Z o)) w'):=λo w' e f=>⟨o,rfl,e,f⟩;generalize (λe w'=>∃o:Int,e=Ending.returned (Z o)/\_/\Fr No w w')=ap at*;clear h ae ab;go_enter func153,ntmps153;go_wp2_with fail;generalize am:w.alloc _=w0 at*;clear am;go_loopw [8] (λa wr=>∃j:Nat,a=Z j/\j<=L.length/\Hid (∀y∈L.take j,¬y=x)/\Hid (Fr No w0 wr)) (λa _=>L.length - (intOf a).toNat);case atStart=>exact ⟨0,rfl,BA _,lH D,lH (Fr.refl _)⟩
 case round=>
  obtain ⟨j,rfl,aq,V,Q⟩:=hrel;have A:=lH (af.o.trans Q zq);by_cases E:j<L.length
  ·obtain ⟨b,off,rfl,H⟩:=ai.o.at_ j E;have an:=CY.2 E;have ao:=CB j;have y0:=A.o.cell_of (H 0 _ rfl) id;have y1:=A.o.cell_of (H 1 _ rfl) id;have y2:=A.o.cell_of (H 2 _ rfl) id;have J:=Q.o.aB ak id;have av:wr.cell? (I w 0)=some (Z x.1):=(by rw [aA J];rfl);have aw:wr.cell? (I w 1)=some (Z x.2.1):=(by rw [aA J];rfl);have ax:wr.cell? (I w 2)=some (Z x.2.2):=(by rw [aA J];rfl);have aj:=lH (fK E);have ah:=lH (BL E);have ad:=ag.o L[j];generalize L[j]=y at*;rw [BX] at y0;clear H J;by_cases r:y=x;{rw [BO (r.symm)] at ad;have B:Hid (x∈L):=lH (by rw [<-r];exact ah.o);clear r;go_wp2_with fail;go_region;(all_goals exact aC (aa.o _ _ ⟨λ_=>ao,λ_=>B.o⟩ A.o.drew))}
   ·rw [BF (λe=>r e.symm)] at ad;have B:Hid (∀y∈L.take (j+1),¬y=x):=lH (by
     intro z u;rw [aj.o] at u;rcases BN.1 u with u|u;{exact V.o z u}
     ·rw [BB.1 u];exact r)
    clear r;go_wp2_with fail;go_region;(all_goals go_wp2_with fail;go_roundw;{exact ⟨j+1,by go_num,E,B,lH Q.o.drew⟩};simp [intOf];omega)
  {(obtain rfl:j=L.length:=by omega);have an:=DY (L.length:Int);have B:Hid (¬x∈L):=λal=>V.o x (by rw [AY];exact al) rfl;go_wp2_with fail;exact aa.o _ _ ⟨λh=>absurd h B,λh=>absurd h G⟩ A.o}
theorem aD0 (v L x w) (h:aJ spC 3 w v L) (ab:L.length<=1000000):Calls prog 99 #[v,.agg (cS x)] w (bD (.bool (decide (x∈L))) w):=by
 have A:Fr No w (w.alloc (.cells (cS x) 46)):=(Fr.refl w).alloc _;have aa:=lH (aE8 v L x _ (h.no A) ab);have u:=lH (aQ w (.cells (cS x) 46));have V:=lH A;have H:=lH (Dj (P:=x∈L) (w:=w));generalize bD _ w=ai at*;obtain ⟨base,cap,rfl,_⟩:=h.rd;have ad:(w.alloc (.cells (cS x) 46)).cell? (I w 0)=some (Z x.1):=by rw [aA u.o];rfl
 have ae:(w.alloc (.cells (cS x) 46)).cell? (I w 1)=some (Z x.2.1):=by rw [aA u.o];rfl
 have af:(w.alloc (.cells (cS x) 46)).cell? (I w 2)=some (Z x.2.2):=by rw [aA u.o];rfl
 clear h A;go_enter func99,ntmps99;go_wp2_with fail;refine aa.o.mono ?_;rintro e aj ⟨Q,rfl,o,J⟩;have E:=lH (V.o.trans J zq);have ah:=lH o;clear J ad ae af;by_cases B:0<=Q
 ·have r:=lH (o.2 B);have ag:=lH (BO B);clear o;exact aC (H.o true _ ⟨λ_=>r.o,λ_=>rfl⟩ E.o)
 ·have r:Hid (¬x∈L):=λh=>B (o.1 h);clear o;go_wp2_with fail;rw [show decide (0<=Q)=false from BF X];exact H.o false _ ⟨λh=>(by cases h),λh=>absurd h r⟩ E.o
abbrev Gr:=(Stp×Us)×Nat
def oZ (z:Gr):List Value:= [z.1.1.1,z.1.1.2.1,z.1.1.2.2,z.1.2.1,z.1.2.2.1,z.1.2.2.2,.float .f64 z.2]
theorem Gq:iU oZ 7 115 100:=⟨underlying100,by
 obtain ⟨i,r,u,A,B⟩:=EL (show (prog.info? 115).map (λi=>(i.zero,i.size,i.bytes))=some (some (.agg #[Z 0,Z 0,Z 0,Z 0,Z 0,Z 0,.float .f64 0]),7,56) by kernel_rfl);exact ⟨i,_,r,u,A,rfl,by omega⟩,by decide,λ_=>rfl,λx E o=>by
  simp [oZ] at o;rcases o with rfl|rfl|rfl|rfl|rfl|rfl|rfl<;>rfl⟩
def rowOf (ck:Int) (y:Stp×Us):Gr:=(y,qL y.2.2.1 y.2.1 (ck - y.2.2.2))
structure tV (ck:Int) (UL:List (Stp×Us)):Prop where
 ck:0<=ck/\ck<=1000000
 few:UL.length<=9000
 all:∀y∈UL,1<=y.2.1/\y.2.1<=6000/\1<=y.2.2.1/\y.2.2.1<=1000000/\0<=y.2.2.2/\y.2.2.2<=1000000
theorem tV.Kq {r o} (h:tV r o) {y} (u:y∈o):F9 y.2.2.1 y.2.1 (r - y.2.2.2):=by
 have A:=h.ck;have B:=h.all y u;exact aFU _ _ _ X X X X X
theorem tV.fin {r o} (h:tV r o) {y} (u:y∈o):Fin (rowOf r y).2:=⟨(h.Kq u).fin,div_lt (h.Kq u).g⟩
theorem Vm {α:Type} {lt:α->α->Prop} (A:∀a b,lt a b->¬lt b a):∀(l m:List α),l.Pairwise lt->m.Pairwise lt->(∀x,x∈l↔x∈m)->l=m
 | [], [],_,_,_=>rfl
 | [],b::s,_,_,h=>by have:=(h b).2 BK;cases this
 | a::r, [],_,_,h=>by have:=(h a).1 BK;cases this
 | a::r,b::s,h1,h2,h=>by
  obtain ⟨J,V⟩:=DX.1 h1;obtain ⟨Q,aa⟩:=DX.1 h2;have e:a=b:=by
   rcases CE.1 ((h a).1 BK) with e|e
   ·exact e
   ·rcases CE.1 ((h b).2 BK) with B|B
    ·exact B.symm
    ·exact absurd (J b B) (A _ _ (Q a e))
  subst e;rw [Vm A r s V aa (λx=> ?_)];have H:=h x;rw [CE,CE] at H;constructor
  ·intro o;rcases H.1 (.inr o) with e|E
   ·subst e;exact absurd (J x o) (λu=>A _ _ u u)
   ·exact E
  ·intro o;rcases H.2 (.inr o) with e|E
   ·subst e;exact absurd (Q x o) (λu=>A _ _ u u)
   ·exact E
theorem aET {U:Stp->Option Us} {u} {ss:List Stp} (r:Keyed fO U u) (H:ss.Nodup) (J:∀x,x∈ss↔(U x).isSome=true) (Q:ss.Pairwise (λx y=>oM x y=true)):ss=u.map Prod.fst:=by
 refine Vm (lt:=fO) (λa b h ab=>by unfold fO at*;omega) _ _ ?_ (List.pairwise_map.2 r.1) (λx=> ?_);{refine (H.and Q).imp (λ{a b} ⟨hne,hle⟩=> ?_);rw [Ia,vW] at hle;unfold fO;obtain ⟨a1,a2,a3⟩:=a;obtain ⟨A,B,E⟩:=b;dsimp only at*;rcases JY a1 A with h|h|h;{exact .inl h};{subst h;rcases JY a2 B with h|h|h;{omega};{subst h;rcases JY a3 E with h|h|h;{omega};{subst h;exact absurd rfl hne};{omega}};{omega}};{omega}};{rw [J,IC];constructor;{intro h;obtain ⟨o,aa⟩:=EK.1 h;exact ⟨(x,o),(r.2 x o).2 aa,rfl⟩};{rintro ⟨⟨k,o⟩,V,rfl⟩;rw [(r.2 k o).1 V];rfl}}
theorem useRow {U o w v} (V:Keyed fO U o) (h:aJ (nN U) 6 w v (o.map Prod.fst)):aJ iL 6 w v o:=by
 obtain ⟨base,cap,e,J⟩:=h;rw [EP] at e;refine ⟨base,cap,e,λaa=> ?_⟩;obtain ⟨b,off,A,B,E,H⟩:=J (λh=>aa (List.map_eq_nil_iff.1 h));refine ⟨b,off,A,B,E,λj y u=> ?_⟩;have r:=H j y.1 (by rw [FB,u];rfl);have Q:=(V.2 y.1 y.2).1 (DU u);unfold nN at r;rw [Q] at r;exact r
def He (w:World) (UL:List (Stp×Us)) (e:Ending) (w':World):Prop:=∃v,e=.returned v/\aJ iL 6 w' v UL/\Fr No w w'
theorem Ky (o K n L S r w) (h:aV w o K L S n) (J:aF w o) (Q:n<=1000000) (u:Keyed fO S.U r):
  Calls prog 30 #[Y L.s] w (He w r):=
 (aDE o K n L S w h J Q).mono (λe w' ⟨v,ss,H,V,A,B,E,f⟩=>by
   obtain rfl:=aET u A B E;exact ⟨v,H,useRow u V.any,f⟩)
theorem aDm (r K n L S w) (h:aV w r K L S n):Calls prog 20 #[Y L.s] w (nX (Z S.clock) w):=by
 have u:=lH (xN r K n L S w h);have c2:w.cell? (I L.s 2)=some (Z S.clock):=h.cell 2;have A:=Ce (Z S.clock) w;generalize nX (Z S.clock) w=E at*;clear h;go_enter func20,ntmps20;go_wp2_with fail;refine cr u.o λH o=> ?_;have B:=o.symm;clear o;subst B;exact aC (A.o _ rfl)
theorem Zc (r) (y:Stp×Us) (V:F9 y.2.2.1 y.2.1 (r - y.2.2.2)) (ai:IntKind.i64.wrap (r - y.2.2.2)=r - y.2.2.2) (w):Calls prog 96 #[r,.agg #[y.1.1,y.1.2.1,y.1.2.2,y.2.1,y.2.2.1,y.2.2.2]] w (bD (.agg #[y.1.1,y.1.2.1,y.1.2.2,y.2.1,y.2.2.1,y.2.2.2,.float .f64 (qL y.2.2.1 y.2.1 (r - y.2.2.2))]) w):=by
 (have ag:prog.follows .mixedOrders=true:=N);obtain ⟨o,A⟩:∃o,o=(w.alloc (.cells #[y.1.1,y.1.2.1,y.1.2.2,y.2.1,y.2.2.1,y.2.2.2] 80)).alloc (.cells #[Z 0,Z 0,Z 0,Z 0,Z 0,Z 0,.float .f64 0] 115):=⟨_,rfl⟩;(have Q:Fr No w o:=by rw [A];exact ((Fr.refl w).alloc _).alloc _);(have B:o.heap[w.heap.size]? =some (.cells #[y.1.1,y.1.2.1,y.1.2.2,y.2.1,y.2.2.1,y.2.2.2] 80 (0,0)):=by{rw [A];exact (show Fr No (w.alloc _) _ from (Fr.refl _).alloc _).aB (AQ w _) id});(have aa:o.heap[w.heap.size+1]? =some (.cells #[Z 0,Z 0,Z 0,Z 0,Z 0,Z 0,.float .f64 0] 115 (0,0)):=by{rw [A];have:=AQ (w.alloc (.cells #[y.1.1,y.1.2.1,y.1.2.2,y.2.1,y.2.2.1,y.2.2.2] 80)) (.cells #[Z 0,Z 0,Z 0,Z 0,Z 0,Z 0,.float .f64 0] 115);rwa [fC] at this});have ae:=lH A.symm;have af:=lH B;have ad:=lH (pG af);have J:=lH aa;have H:=lH (aDb _ _ _ V o.drew);unfold nX at H;have ab:Hid (∀w',Fr (λj=>j=w.heap.size+1) o.drew w'->bD (.agg #[y.1.1,y.1.2.1,y.1.2.2,y.2.1,y.2.2.1,y.2.2.2,.float .f64 (qL y.2.2.1 y.2.1 (r - y.2.2.2))]) w (.returned (.agg #[y.1.1,y.1.2.1,y.1.2.2,y.2.1,y.2.2.1,y.2.2.2,.float .f64 (qL y.2.2.1 y.2.1 (r - y.2.2.2))])) w'):=λw' f=>⟨rfl,Q.drew.trans f (λj aj (e:j=_)=>by omega)⟩;generalize bD (.agg #[y.1.1,y.1.2.1,y.1.2.2,y.2.1,y.2.2.1,y.2.2.2,.float .f64 (qL y.2.2.1 y.2.1 (r - y.2.2.2))]) w=ah at*;(have al:o.cell? (I w 4)=some (Z y.2.2.1):=by rw [aA B];rfl);(have ak:o.cell? (I w 3)=some (Z y.2.1):=by rw [aA B];rfl);(have am:o.cell? (I w 5)=some (Z y.2.2.2):=by rw [aA B];rfl);clear A Q B aa V;go_enter func96,ntmps96;go_upto_region 1 with fail
 rw [ae.o];go_wp2_with fail;refine jA [11] N N N N N ?_;intro E;refine yG ag E (λW=>W=o.drew) (λ_ _ d _ _ h=>by cases d<;>exact h) rfl ?_;repeat (first
  | refine lJ R ?_
  | (refine kW (v:= ?_) R R ?_ ?_
     rotate_left 1;(intro W;go_simp;(try with_reducible rfl))
     simp only [pT,aI,lsS])
  | (refine nV R R ?_
     simp only [pT,aI,lsS])
  | (refine rO (v:=.agg #[y.1.1,y.1.2.1,y.1.2.2,y.2.1,y.2.2.1,y.2.2.2]) E R R R ?_ ?_
     (intro W u;subst u;exact l7 80 (.tmp 3) R w 0 rfl [y.1.1,y.1.2.1,y.1.2.2,y.2.1,y.2.2.1,y.2.2.2] _ ad underlying80 rfl Tryz.Gf)
     simp only [pT,aI,lsS])
  | (refine rO (v:= ?_) E R R R ?_ ?_
     rotate_left 1;(intro W u;subst u;go_simp;(try with_reducible rfl))
     simp only [pT,aI,lsS])
  | (refine pW (v:=.float .f64 (qL y.2.2.1 y.2.1 (r - y.2.2.2))) 152 #[y.2.2.1,y.2.1,Z (r - y.2.2.2)] R (uC E.o.all R) R (λW=>by go_simp) (λW u=>by subst u;exact H.o) ?_
     simp only [pT,aI,lsS]))
 intro W u;subst u;simp only [DF,DT,DK,CP];go_wp2_with (refine wS 115 J ?_);exact bE (aX J.o) (ab.o _ (fR))
theorem Xa (H K n L S o w) (h:aV w H K L S n) (an:aF w H) (bi:n<=1000000) (ap:Keyed fO S.U o) (A:tV S.clock o):
  Calls prog 49 #[Y L.s] w (qZ oZ 7 115 w (o.map (rowOf S.clock))):=by
 have Q:=lH (aDm H K n L S w h);have ad:=lH (Ky H K n L S o w h an bi ap);have ab:=lH A;(have bc:Hid (∀v w' M base,M=o.map (rowOf S.clock)->Own oZ 7 115 w' base v M->w.heap.size<=base->Fr No w w'->qZ oZ 7 115 w (o.map (rowOf S.clock)) (.returned v) w'):=λv w' M base e h bg f=>by subst e;exact ⟨v,rfl,(h.new Gq).le bg,f⟩);generalize qZ oZ 7 115 w _=bl at*;unfold nX at Q;unfold He at ad;have bu:=A.few;clear h an ap A;generalize S.clock=r at*;go_enter func49,ntmps49;go_wp2_with fail;refine cr Q.o λbx ak=> ?_;have bf:=ak.symm;clear ak;subst bf;go_wp2_with fail;refine ad.o.mono ?_;rintro e J ⟨v,rfl,ar,al⟩;obtain ⟨base,cap,rfl,au⟩:=ar.rd;have bd:=lH au;have ag:=lH al;clear ar au al Q ad;go_wp2_with fail;go_loopw [4,6,13] (λs _ a wr=>∃(j:Nat) (M:List Gr),a=Z j/\j<=o.length/\Hid (M=(o.take j).map (rowOf r))/\M.length<=j/\Hid (Own oZ 7 115 wr J s M)/\Hid (Fr No J wr)) (λ_ _ a _=>o.length - (intOf a).toNat);case atStart=>exact ⟨0, [],rfl,BA _,lH D,AU _,lH Own.nil,lH (Fr.refl _)⟩
 case round=>
  obtain ⟨j,M,rfl,bv,ai,bt,aa,V⟩:=hrel;obtain ⟨a,bo,rfl⟩:=aa.o.shape;have ax:=lH (ag.o.trans V zq);by_cases u:j<o.length
  ·obtain ⟨b,off,rfl,am⟩:=bd.o.at_ j u;have bj:(j:Int)<(o.length:Int):=X;have bw:(0:Int)<=(j:Int):=X
   have aj:Hid (wr.rangeAt b (off+j*6) (iL o[j])):=λi bk A=>V.o.cell_of (am i bk A) id;have ae:Hid (M++ [rowOf r o[j]]=(o.take (j+1)).map (rowOf r)):=lH (by rw [fK u,GX,<-ai.o];rfl);have B:Hid (∀W,Calls prog 96 #[r,.agg (iL o[j]).toArray] W (bD (.agg (oZ (rowOf r o[j])).toArray) W)):=λW=>Zc r o[j] (ab.o.Kq (BL u)) (by
    have bq:=ab.o.ck;have br:=ab.o.all _ (BL u);rw [BG]<;>omega) W
   generalize o[j]=y at*;unfold iL at aj B;unfold oZ rowOf bD at B;dsimp only at B;clear am;obtain ⟨wd,E⟩:∃wd:World,wd=wr.alloc (.cells #[y.1.1,y.1.2.1,y.1.2.2,y.2.1,y.2.2.1,y.2.2.2] 80):=⟨_,rfl⟩;have be:Hid (wd.heap[wr.heap.size]? =some (.cells #[y.1.1,y.1.2.1,y.1.2.2,y.2.1,y.2.2.1,y.2.2.2] 80 (0,0))):=lH (by rw [E];exact AQ wr _);have ah:Hid (Fr No wr wd):=lH (by rw [E];exact (Fr.refl wr).alloc _);go_upto_region 6 with (refine wL 80 aj ?_);rw [<-E];clear E;generalize bh:wr.heap.size=bm at*;clear bh;go_wp2_with (refine wR 80 be ?_);refine cr (B.o _) λav af=> ?_;have bb:=lH (aa.o.no (ah.o.trans af zq));have aw:=lH ((V.o.trans ah zq).trans af zq);clear af;go_wp2_with (at_builtin;(refine gB Gq R _ _ R J _ M ((y,qL y.2.2.1 y.2.1 (r - y.2.2.2)):Gr) R (bb.o.alloc _) av R (0,0) _ (AQ av _) R X J (aw.o.alloc _) R ?_));intro bp bn bz aq ao;have az:=lH aq;have ay:=lH ao;clear aq ao;go_wp2_with fail;go_roundw;{exact ⟨j+1,M++ [(y,qL y.2.2.1 y.2.1 (r - y.2.2.2))],by go_num,u,ae,by simp;omega,az,ay⟩};simp [intOf];omega
  {(obtain rfl:j=o.length:=by omega);have bj:¬(o.length:Int)<(o.length:Int):=X;have ae:Hid (M=o.map (rowOf r)):=lH (by have:=ai.o;rwa [AY] at this);exact aC (bc.o _ _ M _ ae aa ag.o.size ax.o)}
theorem Lr (S:St) (nx c l:Int):∀(L M:List Sz) (m:Stp->Option Int),dS S nx c l (L++M) m=(dS S nx c l L m).bind (dS S nx c l M)
 | [],M,m=>rfl
 | x::L,M,m=>by
   rw [CP];unfold dS;by_cases h:qB S nx c l m x
   ·rw [AL h,AL h];exact Lr S nx c l L M _
   ·rw [AA h,AA h];rfl
theorem Qg (S:St) (nx c l:Int):∀(L:List Sz) (m o:Stp->Option Int),dS S nx c l L m=some o->∀y,(o y).isSome=true↔(m y).isSome=true\/∃x∈L,x.1=y
 | [],m,o,h,y=>by
   unfold dS at h;cases h;simp
 | x::L,m,o,h,y=>by
   unfold dS at h;by_cases A:qB S nx c l m x
   ·rw [AL A] at h;rw [Qg S nx c l L _ o h y];by_cases e:y=x.1
    ·subst e;simp
    ·simp only [AA e,CE];constructor
     ·rintro (h|⟨z,u,r⟩)
      ·exact .inl h
      ·exact .inr ⟨z,.inr u,r⟩
     ·rintro (h|⟨z,rfl|u,r⟩)
      ·exact .inl h
      ·exact absurd r.symm e
      ·exact .inr ⟨z,u,r⟩
   ·rw [AA A] at h;cases h
def Lt (S:St) (nx c l:Int) (x:Sz):Prop:=x.1.1=c/\x.1.2.1=l/\S.next c.toNat<=x.1.2.2/\x.1.2.2<nx/\1<=x.2/\x.2<=6000/\(S.U x.1).isSome=false
theorem Vo (S nx c l L x):(dS S nx c l (L++ [x]) fM).isSome=true↔(dS S nx c l L fM).isSome=true/\Lt S nx c l x/\∀y∈L,y.1≠x.1:=by
 rw [Lr];(cases h:dS S nx c l L fM with|none=>simp|some m=>have hd:=Qg S nx c l L fM m h x.1;have V:(fM x.1).isSome=false:=rfl;rw [V] at hd;(have A:(m x.1).isSome=false↔∀y∈L,y.1≠x.1:=by{constructor;{intro u y r e;have:=hd.2 (.inr ⟨y,r,e⟩);rw [u] at this;cases this};{intro r;(cases u:(m x.1).isSome with|false=>rfl|true=>{rcases hd.1 u with h|⟨y,aa,e⟩;{cases h};{exact absurd e (r y aa)}})}});show (dS S nx c l [x] m).isSome=true↔true=true/\_;unfold dS;by_cases o:qB S nx c l m x;{rw [AL o];unfold qB at o;obtain ⟨E,H,J,Q,ae,af,ag,ah⟩:=o;refine ⟨λ_=>⟨rfl,⟨by simpa using J,by simpa using Q,by omega,by omega,by omega,by omega,H⟩,A.1 E⟩,λ_=>rfl⟩};{rw [AA o];refine ⟨λh=>(by cases h),λ⟨_,⟨a1,a2,a3,a4,ab,ad,B⟩,r⟩=>absurd ⟨A.2 r,B,by simpa using a1,by simpa using a2,by omega,by omega,by omega,by omega⟩ o⟩})
def lQ (S:St) (nx:Int) (st:List Sz) (c l:Int):Prop:=(S.next c.toNat<=nx/\nx<=1073741825)/\(dS S nx c l st fM).isSome=true
instance (S:St) (nx:Int) (st:List Sz) (c l:Int):Decidable (lQ S nx st c l):=by unfold lQ;infer_instance
theorem aFj (S nx c l) {o j} (B:j<o.length) (h:¬((dS S nx c l (o.take j) fM).isSome=true/\Lt S nx c l o[j]/\∀y∈o.take j,y.1≠(o[j]).1)):¬lQ S nx o c l:=by
 intro E;(have r:(dS S nx c l (o.take (j+1)++o.drop (j+1)) fM).isSome=true:=by rw [List.take_append_drop];exact E.2);rw [Lr] at r;(cases u:dS S nx c l (o.take (j+1)) fM with|none=>rw [u] at r;cases r|some m=>(have A:(dS S nx c l (o.take j++ [o[j]]) fM).isSome=true:=by rw [<-fK B,u];rfl);exact h ((Vo S nx c l _ _).1 A))
theorem Wy (s S) (u:aH) (de bv cf o k) (l:Int) (ao w) (db:aJ fD 4 w de o) (ex:o.length<=1000000) (eu:k<5) (cc:w.cell? (I s (3+k))=some (Z (S.next k))) (cx:w.cell? (I s 12)=some cf) (dd:aJ iL 6 w cf ao) (eg:ao.length<=1000000) (cw:∀y,(∃ek∈ao,ek.1=y)↔(S.U y).isSome=true):
  Calls prog 256 #[Y s,.agg (u.cells de bv),k,l] w (bD (.bool (decide (lQ S u.nx o k l))) w):=by
 (have V:prog.follows .mixedOrders=true:=by kernel_rfl);obtain ⟨base,cap,rfl,dc⟩:=db.rd;have H:=lH (Dj (P:=lQ S u.nx o k l) (w:=w));have dr:=lH (λ(L:List Sz) (x:Sz)=>Vo S u.nx k l L x);have ds:=lH (λ(j:Nat) (da:j<o.length)=>aFj S u.nx k l da);have bp:Hid (lQ S u.nx o k l↔(S.next k<=u.nx/\u.nx<=1073741825)/\(dS S u.nx k l o fM).isSome=true):=Iff.rfl;have dp:Hid (∀x:Sz,Lt S u.nx k l x↔x.1.1=(k:Int)/\x.1.2.1=l/\S.next k<=x.1.2.2/\x.1.2.2<u.nx/\1<=x.2/\x.2<=6000/\(S.U x.1).isSome=false):=λx=>Iff.rfl;have dy:Hid ((dS S u.nx k l (o.take 0) fM).isSome=true):=lH rfl;have dl:Hid (dS S u.nx k l (o.take o.length) fM=dS S u.nx k l o fM):=lH (by rw [AY]);generalize bD _ w=er at*;generalize lQ S u.nx o k l=P at*;obtain ⟨w0,bj⟩:∃w0,w0=w.alloc (.cells (u.cells (.slice base o.length cap) bv) 41):=⟨_,rfl⟩;(have bw:Fr No w w0:=by rw [bj];exact (Fr.refl w).alloc _);(have cd:w0.heap[w.heap.size]? =some (.cells (u.cells (.slice base o.length cap) bv) 41 (0,0)):=by rw [bj];exact AQ w _);have bq:=lH bj.symm;have an:=lH cd;have ah:=lH bw;have cn:=lH dc;have dk:=lH (λ(w':World) (f:Fr No w w') (x:Stp)=>aA4 s cf x ao w' (f.cell_of cx id) (dd.no f) eg);have dw:=lH cw;have dn:=lH cc;have dj:=lH Df;(have bt:w0.cell? (I w 10)=some (Z u.nx):=by rw [aA cd];rfl);have bu:=bw.cell_of cc id;(have ev:(0:Int)<=(k:Int):=X);(have ew:(k:Int)<5:=X);unfold aH.cells at bq;unfold aH.cells;clear db dc bj bw cd cc cx dd cw;generalize S.next k=N at*;generalize ef:u.nx=af at*;go_enter func256,ntmps256;go_upto_region 1 with fail;rw [bq.o];go_wp2_with fail;refine jA [13] (by kernel_rfl) (by kernel_rfl) (by kernel_rfl) (by kernel_rfl) (by kernel_rfl) ?_;intro br;by_cases au:af<N;{have am:=lH (BO au);have r:Hid (false=true↔P):=lH ⟨λh=>(by cases h),λh=>by have:=(bp.o.1 h).1.1;omega⟩;clear au;have D1:=am;refine bU [13] ?_ V;exact aC (H.o false _ r ah.o.drew)};have am:=lH (BF au);by_cases bg:1073741825<af;{have az:=lH (BO bg);have r:Hid (false=true↔P):=lH ⟨λh=>(by cases h),λh=>by have:=(bp.o.1 h).1.2;omega⟩;clear au bg;have D1:=am;have D2:=az;refine bU [13] ?_ V;exact aC (H.o false _ r ah.o.drew)};have az:=lH (BF bg);have dx:Hid (N<=af/\af<=1073741825):=lH X;clear au bg;have D1:=am;have D2:=az;refine bU [13] ?_ V;clear am az br;have ah:=lH ah.o.drew;have an:=lH ((qA w0).aB an id);clear bt bu bq;generalize w0.drew=wd at*;have dg:=lH (ah.o.cell_of dn id);go_wp2_with fail;go_loopw [9] (λa wr=>∃j:Nat,a=Z j/\j<=o.length/\Hid ((dS S af k l (o.take j) fM).isSome=true)/\Hid (Fr No wd wr)) (λa _=>o.length - (intOf a).toNat);case atStart=>exact ⟨0,rfl,BA _,dy,lH (Fr.refl _)⟩
 case round=>
  obtain ⟨j,rfl,da,cl,bb⟩:=hrel;have ae:=lH (ah.o.trans bb zq);have ab:=bb.o.aB an id;(have cu:wr.cell? (I w 12)=some (.slice base o.length cap):=by rw [aA ab];rfl);by_cases bh:j<o.length
  ·obtain ⟨b,off,rfl,Q⟩:=cn.o.at_ j bh;have ei:(j:Int)<(o.length:Int):=X;have fb:(0:Int)<=(j:Int):=X;have y0:=ae.o.cell_of (Q 0 _ rfl) id;have y1:=ae.o.cell_of (Q 1 _ rfl) id;have y2:=ae.o.cell_of (Q 2 _ rfl) id;have y3:=ae.o.cell_of (Q 3 _ rfl) id;have dt:=lH (fK bh);have aa:=lH (ds.o j bh);have co:=lH (dr.o (o.take j) o[j]);have J:=lH (dp.o o[j]);have bd:=lH (dw.o (o[j]).1);rw [<-dt.o] at co;have cp:Hid ((o.take j).length=j):=lH (by rw [BV];omega);have du:Hid (∀(i:Nat) (h:i<j),∃ed:i<o.length,(o.take j)[i]? =some o[i]):=λi h=>⟨by omega,by rw [IQ h,AC X]⟩;generalize o[j]=y at*;obtain ⟨⟨bl,bm,B⟩,aw⟩:=y;dsimp only [Nat.add_zero] at y0 y1 y2 y3;clear Q ab;obtain ⟨E,rfl⟩:∃E:World,E=wr:=⟨wr,rfl⟩;go_wp2_with fail;have bx:Fr No E (E.alloc (.cells #[bl,bm,B,aw] 57)):=(Fr.refl E).alloc _;have ct:=lH (AQ E (.cells #[bl,bm,B,aw] 57));have ad:=lH (ae.o.trans bx zq);have bn:=lH (bb.o.trans bx zq);clear bx cu y0 y1 y2 y3 ae bb;have av:=ct.o;generalize E.alloc _=ag at*;have a0:ag.cell? (I E 0)=some (Z bl):=(by rw [aA av];rfl);have a1:ag.cell? (I E 1)=some (Z bm):=(by rw [aA av];rfl);have a2:ag.cell? (I E 2)=some (Z B):=(by rw [aA av];rfl);have a3:ag.cell? (I E 3)=some (Z aw):=(by rw [aA av];rfl);have ab:=bn.o.aB an id;have bt:ag.cell? (I w 10)=some (Z af):=(by rw [aA ab,<-ef];rfl);have bu:=bn.o.cell_of dg id;have J:=lH J.o;have bd:=lH bd.o;clear ab av;refine jA [46,47] (by kernel_rfl) (by kernel_rfl) (by kernel_rfl) (by kernel_rfl) (by kernel_rfl) ?_;intro br;by_cases be:bl=(k:Int);rotate_left 1;{have r:Hid (false=true↔P):=lH ⟨λh=>(by cases h),λh=>absurd h (aa.o (λA=>be (J.o.1 A.2.1).1))⟩;have df:=lH (JV.2 be);clear be;have D1:=df;refine bU [46,47] ?_ V;exact aC (H.o false _ r ad.o.drew)};subst be;by_cases ai:bm=l;rotate_left 1;{have r:Hid (false=true↔P):=lH ⟨λh=>(by cases h),λh=>absurd h (aa.o (λA=>ai (J.o.1 A.2.1).2.1))⟩;have B1:=lH (JV.2 ai);clear ai;have D1:=B1;refine bU [46,47] ?_ V;exact aC (H.o false _ r ad.o.drew)};replace ai:=ai.symm;subst ai;by_cases aj:B<N;{have B2:=lH (BO aj);have r:Hid (false=true↔P):=lH ⟨λh=>(by cases h),λh=>absurd h (aa.o (λA=>by have:=(J.o.1 A.2.1).2.2.1;omega))⟩;clear aj;have D1:=B2;refine bU [46,47] ?_ V;exact aC (H.o false _ r ad.o.drew)};have B2:=lH (BF aj);have C2:=lH aj;clear aj;by_cases ap:af<=B;{have B3:=lH (BO ap);have r:Hid (false=true↔P):=lH ⟨λh=>(by cases h),λh=>absurd h (aa.o (λA=>by have:=(J.o.1 A.2.1).2.2.2.1;omega))⟩;clear ap;have D1:=B2;have D2:=B3;refine bU [46,47] ?_ V;exact aC (H.o false _ r ad.o.drew)};have B3:=lH (BF ap);have C3:=lH ap;clear ap;by_cases aq:aw<1;{have B4:=lH (BO aq);have r:Hid (false=true↔P):=lH ⟨λh=>(by cases h),λh=>absurd h (aa.o (λA=>by have:=(J.o.1 A.2.1).2.2.2.2.1;omega))⟩;clear aq;have D1:=B2;have D2:=B3;have D3:=B4;refine bU [46,47] ?_ V;exact aC (H.o false _ r ad.o.drew)};have B4:=lH (BF aq);have C4:=lH aq;clear aq;by_cases ar:6000<aw;{have ax:=lH (BO ar);have r:Hid (false=true↔P):=lH ⟨λh=>(by cases h),λh=>absurd h (aa.o (λA=>by have:=(J.o.1 A.2.1).2.2.2.2.2.1;omega))⟩;clear ar;have D1:=B2;have D2:=B3;have D3:=B4;have D4:=ax;refine bU [46,47] ?_ V;exact aC (H.o false _ r ad.o.drew)}
   have ax:=lH (BF ar);have C5:=lH ar;clear ar;have D1:=B2;have D2:=B3;have D3:=B4;have D4:=ax;refine bU [46,47] ?_ V;have ch:=lH ad.o.drew;have di:=lH ((bn.o).drew);have ea:=lH ((qA ag).aB ct id);clear a0 a1 a2 a3 bt bu B2 B3 B4 ax br;generalize ag.drew=en at*;have ca:=lH (dk.o en ch (k,l,B));generalize cy:decide (∃y∈ao,y.1=((k:Int),l,B))=eb at ca;have cj:=lH cy;clear cy;go_wp2_with fail;refine cr ca.o λem bf=> ?_;have cg:=lH (ch.o.trans bf zq);have dh:=lH (di.o.trans bf zq);have dz:=lH (bf.aB ea id);clear bf ca;cases eb with
   | true=>
    have r:Hid (false=true↔P):=lH ⟨λh=>(by cases h),λh=>absurd h (aa.o (λA=>by
     have cv:=(J.o.1 A.2.1).2.2.2.2.2.2;rw [bd.o.1 (EE cj.o)] at cv;cases cv))⟩
    exact aC (H.o false _ r cg.o)
   | false=>
    have dq:=lH (J.o.2 ⟨by trivial,by trivial,by have:=C2.o;omega,by have:=C3.o;omega,by have:=C4.o;omega,by have:=C5.o;omega,by
     cases h:(S.U ((k:Int),l,B)).isSome with
     | false=>rfl
     | true=>exact absurd (bd.o.2 h) (IR cj)⟩)
    go_wp2_with fail;go_loopw [11] (λa eo=>∃i:Nat,a=Z i/\i<=j/\Hid (∀y∈(o.take j).take i,¬y.1=(((k:Int),l,B):Stp))/\Hid (Fr No em eo)) (λa _=>j - (intOf a).toNat);case atStart=>exact ⟨0,rfl,BA _,lH D,lH (Fr.refl _)⟩
    case round=>
     obtain ⟨i,rfl,ed,ck,bc⟩:=hrel;have ay:=lH (cg.o.trans bc zq);have ci:=lH (dh.o.trans bc zq);by_cases cb:i<j
     ·obtain ⟨ee,cz⟩:=du.o i cb;obtain ⟨aj,fa,ec,Q⟩:=cn.o.at_ i ee;(cases ec;have ej:(i:Int)<(j:Int):=X);have fc:(0:Int)<=(i:Int):=X;have fd:(i:Int)<(o.length:Int):=X;have z0:=ay.o.cell_of (Q 0 _ rfl) id;have ep:=ay.o.cell_of (Q 1 _ rfl) id;have eq:=ay.o.cell_of (Q 2 _ rfl) id;have ab:=ci.o.aB an id;have cu:wr.cell? (I w 12)=some (.slice (some (I b off)) o.length cap):=(by rw [aA ab];rfl);have bk:=bc.o.aB dz id;generalize ez:E.heap.size=ce at*;have ff:wr.cell? (I ce 0)=some (Z k):=(by rw [aA bk];rfl);have fg:wr.cell? (I ce 1)=some (Z l):=(by rw [aA bk];rfl);have fh:wr.cell? (I ce 2)=some (Z B):=(by rw [aA bk];rfl)
      have bz:=dj.o (o[i]).1 (k,l,B);have cm:Hid (∀et:i<(o.take j).length,(o.take j).take (i+1)=(o.take j).take i++ [(o.take j)[i]]):=λh=>fK h;have bo:Hid (∀h:i<(o.take j).length,(o.take j)[i]=o[i]):=λh=>by
       have:=AC h;rw [cz] at this;exact (FX this).symm
      have bi:i<(o.take j).length:=(by rw [cp.o];exact cb)
      have dv:Hid ((o.take j).take (i+1)=(o.take j).take i++ [o[i]]):=lH (by rw [cm.o bi,bo.o bi]);have dm:Hid (o[i]∈o.take j):=lH (by rw [<-bo.o bi];exact BL bi);generalize o[i]=v at*;obtain ⟨el,fe⟩:=v;dsimp only [Nat.add_zero] at z0 ep eq bz;clear Q ab bk cm bo cz;cases ak:decide (el=(((k:Int),l,B):Stp)) with
      | true=>
       rw [ak] at bz;have r:Hid (false=true↔P):=lH ⟨λh=>(by cases h),λh=>absurd h (aa.o (λA=>A.2.2 _ dm (EE ak)))⟩;clear ak;go_wp2_with fail;go_region;(all_goals exact aC (H.o false _ r ay.o.drew))
      | false=>
       rw [ak] at bz;have r:Hid (∀y∈(o.take j).take (i+1),¬y.1=(((k:Int),l,B):Stp)):=λz al=>by
        rw [dv.o] at al;rcases BN.1 al with al|al;{exact ck.o z al};{rw [BB.1 al];exact IR ak}
       clear ak;go_wp2_with fail;go_region;(all_goals go_wp2_with fail;go_roundw;{exact ⟨i+1,by go_num,cb,r,lH bc.o.drew⟩};simp [intOf];omega)
     {(obtain rfl:i=j:=by omega);have ej:¬(i:Int)<(i:Int):=X;have r:=lH (co.o.2 ⟨cl,dq,λy eh=>ck.o y (by rw [FH (by rw [cp.o];exact AU _)];exact eh)⟩);go_wp2_with fail;go_roundw;{exact ⟨i+1,by go_num,bh,r,ci⟩};simp [intOf];omega}
  {(obtain rfl:j=o.length:=by omega);have ei:¬(o.length:Int)<(o.length:Int):=X;have r:=lH (bp.o.2 ⟨dx,by rw [<-dl.o];exact cl.o⟩);exact aC (H.o true _ ⟨λ_=>r.o,λ_=>rfl⟩ ae.o)}
