/- Part of a proof. -/
import Derived.Test.YtedcppikakinoaaGreatX14
import Derived.Test.YtedcppikakinoaaGreatX15
set_option linter.unusedSimpArgs false
set_option linter.unusedVariables false
set_option maxRecDepth 100000
set_option maxHeartbeats 6400000
namespace Go.Proofs.YtedcppikakinoaaGreat
open Go.Proofs.Tryz Go.RowKit
def fF (l:List UInt8):List (List UInt8):=(pathOf l).getD []
def gI (T:Tree) (p q:List UInt8):Int:=
 if (lookOf T p).1≠0 then (lookOf T p).1 else if (lookOf T p).2.1=1 then 8 else if (pathOf q).isNone=true then 12
 else if (fF p).isPrefixOf (fF q)=true then 1 else if (fF q).isPrefixOf (fF p)=true then 1
 else if (placeOf T q).1≠0 then (placeOf T q).1 else if (kid T (placeOf T q).2.1 (placeOf T q).2.2).isSome=true then 7 else 0
def jC (T:Tree) (p q:List UInt8):Tree:=if gI T p q=0 then moved T (lookOf T p).2.1 (placeOf T q).2.1 (placeOf T q).2.2 (lookOf T p).2.2 else T
theorem Oe {T l} (h:(lookOf T l).1=0):pathOf l=some (fF l)/\bM T 1 (fF l)=(0,(lookOf T l).2.1):=by
 unfold lookOf fF at*;(cases r:pathOf l with|none=>rw [r] at h;cases h|some ps=>rw [r] at h;refine ⟨rfl,?_⟩;dsimp only at h ⊢;unfold seen at h ⊢;by_cases o:(bM T 1 ps).1=0;{rw [AL o];rw [Option.getD_some];exact Prod.ext o rfl};{rw [AA o] at h;exact absurd h o})
theorem aF5 {T l} (h:(placeOf T l).1=0):∃D,fF l=D++ [(placeOf T l).2.2]/\bM T 1 D=(0,(placeOf T l).2.1):=by
 unfold placeOf fF at*;(cases B:pathOf l with|none=>rw [B] at h;cases h|some r=>{rw [B] at h;rcases r with _|⟨p,r⟩;{cases h};{dsimp only at h ⊢;refine ⟨(p::r).dropLast,?_,?_⟩;{unfold stands at h ⊢;by_cases o:(seen T (p::r).dropLast).1=0;{rw [AL o] at h ⊢;by_cases u:(seen T (p::r).dropLast).2.2=true;{rw [AL u];rw [Option.getD_some];exact (List.dropLast_concat_getLast _).symm};{rw [AA u] at h;cases h}};{rw [AA o] at h;exact absurd h o}};{unfold stands at h ⊢;by_cases o:(seen T (p::r).dropLast).1=0;{rw [AL o] at h ⊢;by_cases u:(seen T (p::r).dropLast).2.2=true;{rw [AL u];dsimp only;unfold seen at o ⊢;by_cases A:(bM T 1 (p::r).dropLast).1=0;{rw [AL A];exact Prod.ext A rfl};{rw [AA A] at o;exact absurd o A}};{rw [AA u] at h;cases h}};{rw [AA o] at h;exact absurd h o}}}})
theorem Q3 {T} (o:dJ T) {p q x} (Q:(lookOf T p).1=0) (H:T (lookOf T p).2.1=some x) (A:(lookOf T p).2.1≠1) (V:¬(fF p).isPrefixOf (fF q)=true) (B:(placeOf T q).1=0) (aa:kid T (placeOf T q).2.1 (placeOf T q).2.2=none):
  Moves T (lookOf T p).2.1 x (placeOf T q).2.1 (placeOf T q).2.2:=by
 obtain ⟨_,r⟩:=Oe Q;obtain ⟨D,ab,J⟩:=aF5 B;obtain ⟨⟨y,af,ag⟩,ae⟩:=yM o B;refine ⟨o,H,A,?_,⟨y,af,ag⟩,?_,ae,aa⟩;{intro e;rcases JM (fF p) with h|⟨ah,s,h⟩;{rw [h] at r;simp only [bM,II,true_and] at r;exact A r.symm};{rw [KT] at h;have u:=r;rw [h] at u;obtain ⟨d,a1,a2,_⟩:=Gz u;obtain ⟨b,E⟩:=(qY o).1 a2;rw [H] at E;cases E;dsimp only at e;subst e;have:=Q9 o _ ah _ _ (AU _) a1 u;have ad:=BC List.length this;simp at ad}};{intro e;rw [e] at J;have:=Q9 o _ D _ _ (AU _) J r;apply V;rw [JG,ab,this];exact ⟨_,rfl⟩}
def y8 (w:World) (o:Nat->Nat) (K t:Nat) (T:Tree) (p q:List UInt8) (e:Ending) (w':World):Prop:=
 e=.returned (Z (gI T p q))/\∃o',Step (dM K) w o w' o'/\eF w' o' K t (jC T p q)
theorem aBA (ae K t T p q w) (bx:p.length<=1000000) (bz:q.length<=1000000) (h:eF w ae K t T) (B:dJ T) (be:aF w ae):
  Calls prog 160 #[Y t,(ba p),(ba q)] w (y8 w ae K t T p q):=by
 have dt:=lH h;have cz:=lH B;have ce:=lH be;have ai:=lH (yJ ae K t T p w bx h B be);have ch:Hid (∀w',Fr No w w'->Calls prog 228 #[Y t,(ba q)] w' λe af=>e=.returned (.tuple #[.int .i64 (placeOf T q).2.1,(ba (placeOf T q).2.2),.int .i64 (placeOf T q).1])/\Fr No w' af):=
  lH (λw' f=>Vd ae K t T q w' bz (h.no B be f) B (λk de=>be k (AV f.size de)))
 have dx:Hid (∀w',Calls prog 145 #[(ba q)] w' (oO w' q)):=λw'=>Ba q w' bz;have u:gI T p q=if (lookOf T p).1≠0 then (lookOf T p).1 else if (lookOf T p).2.1=1 then 8 else if (pathOf q).isNone=true then 12
  else if (fF p).isPrefixOf (fF q)=true then 1 else if (fF q).isPrefixOf (fF p)=true then 1
  else if (placeOf T q).1≠0 then (placeOf T q).1 else if (kid T (placeOf T q).2.1 (placeOf T q).2.2).isSome=true then 7 else 0:=rfl
 have bo:=look_ok (l:=p) B;have bp:=Oe (T:=T) (l:=p);have cg:=lH (λx=>Q3 (T:=T) (p:=p) (q:=q) (x:=x) B);have du:Hid (jC T p q=if gI T p q=0 then moved T (lookOf T p).2.1 (placeOf T q).2.1 (placeOf T q).2.2 (lookOf T p).2.2 else T):=lH rfl;have dv:=lH (yM (l:=q) B);have bu:∀al ah,pathOf p=some al->pathOf q=some ah->(∀w',Calls prog 232 #[(ba q),(ba p)] w' λe af=>e=.returned (.bool (al.isPrefixOf ah))/\Fr No w' af)/\(∀w',Calls prog 232 #[(ba p),(ba q)] w' λe af=>e=.returned (.bool (ah.isPrefixOf al))/\Fr No w' af):=
  λal ah cn bl=>⟨λw'=>Tu q p ah al w' bz bx bl cn,λw'=>Tu p q al ah w' bx bz cn bl⟩
 have aw:Hid (∀ck,ck≠0->gI T p q=ck->∀e w',e=.returned (Z ck)->Fr No w w'->y8 w ae K t T p q e w'):=λck fx u e w' ak f=>⟨by rw [ak,u],ae,Step.no be f,by
  have:jC T p q=T:=by unfold jC;rw [u,AA fx]
  rw [this];exact h.no B be f⟩
 have fg:Hid (∀e w',gI T p q=0->e=.returned (Z 0)->(∃ew,Step (dM K) w ae w' ew/\eF w' ew K t (jC T p q))->y8 w ae K t T p q e w'):=λe w' u ak J=>⟨by rw [ak,u],J⟩;generalize fs:y8 w ae K t T p q=gm at*;generalize lookOf T p=P at*;obtain ⟨cj,k,is⟩:=P;generalize placeOf T q=R at*;obtain ⟨cl,o,Q⟩:=R;clear fs h bx be bz;dsimp only at u bo ai bp cg du ch dv;by_cases ak:cj=0
 ·subst ak;obtain ⟨x,J,ar⟩:=bo rfl;obtain ⟨co,_⟩:=bp rfl;rw [AA (by simp)] at u;by_cases bw:k=1;{subst bw;have E:Hid (gI T p q=8):=lH (by rw [u,AL rfl]);clear u bo J ar B bu bp co;go_enter func160,ntmps160;go_wp2_with fail;refine cr ai.o λbi H=> ?_;exact aC (aw.o 8 G E _ _ rfl H)}
  ·rw [AA bw] at u;have hj:((k:Int)==1)=false:=(by rw [CQ];omega)
   cases aq:pathOf q with
   | none=>
    rw [aq] at u;have E:Hid (gI T p q=12):=lH (by rw [u];rfl);have ax:Hid (∀w',Calls prog 145 #[(ba q)] w' λe af=>Fr No w' af/\e=.returned (.tuple #[nS,Z 12])):=λw'=>(dx.o w').mono (λe af h=>by unfold oO at h;rw [aq] at h;exact h);clear u bo J ar B bu bp co aq;go_enter func160,ntmps160;go_wp2_with fail;refine cr ai.o λbi H=> ?_;go_wp2_with fail;refine (ax.o _).mono ?_;rintro e cd ⟨aa,rfl⟩;exact aC (aw.o 12 G E _ _ rfl (H.trans aa zq))
   | some ah=>
    have bq:fF q=ah:=(by unfold fF;rw [aq];rfl)
    have ax:Hid (∀w',Calls prog 145 #[(ba q)] w' λe af=>Fr No w' af/\∃a n c,e=.returned (.tuple #[.slice a n c,Z 0])):=λw'=>(dx.o w').mono (λe af h=>by
     unfold oO at h;rw [aq] at h;obtain ⟨cn,v,bl,bb⟩:=h;obtain ⟨a,c,rfl⟩:=bb.shape;exact ⟨cn,a,_,c,bl⟩)
    rw [aq] at u;obtain ⟨ed,ee⟩:=bu _ _ co aq;rw [bq] at u cg;have ay:=lH ed;have bk:=lH ee;simp only [Option.isNone_some,DC,FP] at u;generalize fF p=al at*;clear bu ed ee bp co aq bo;cases bd:al.isPrefixOf ah with
    | true=>
     rw [bd] at u ay;have E:Hid (gI T p q=1):=lH (by rw [u];rfl);clear u J ar B bq bd;go_enter func160,ntmps160;go_wp2_with fail;refine cr ai.o λbi H=> ?_;go_wp2_with fail;refine (ax.o _).mono ?_;rintro e cd ⟨aa,a3,av,c3,rfl⟩;go_wp2_with fail;refine cr (ay.o _) λcv aj=> ?_;exact aC (aw.o 1 G E _ _ rfl ((H.trans aa zq).trans aj zq))
    | false=>
     rw [bd] at u ay cg;cases bn:ah.isPrefixOf al with
     | true=>
      rw [bn] at u bk;have E:Hid (gI T p q=1):=lH (by rw [u];rfl);clear u J ar B bq bd bn;go_enter func160,ntmps160;go_wp2_with fail;refine cr ai.o λbi H=> ?_;go_wp2_with fail;refine (ax.o _).mono ?_;rintro e cd ⟨aa,a3,av,c3,rfl⟩;go_wp2_with fail;refine cr (ay.o _) λcv aj=> ?_;go_wp2_with fail;refine cr (bk.o _) λdq az=> ?_;exact aC (aw.o 1 G E _ _ rfl (((H.trans aa zq).trans aj zq).trans az zq))
     | false=>
      rw [bn] at u bk;simp only [DC,FP] at u;by_cases bv:cl=0
      ·subst bv;rw [AA (by simp)] at u;obtain ⟨⟨y,ct,dh⟩,df⟩:=dv.o rfl;have cw:=lH df;have br:=lH ct;have db:=lH dh;have ci:=lH J;have gs:=B.lt ct;have gv:=B.lt J;cases bf:kid T o Q with
       | some j=>
        rw [bf] at u;have E:Hid (gI T p q=7):=lH (by rw [u];rfl);have cf:=lH bf;clear u J ar B bq bd bn df ct dh bf;go_enter func160,ntmps160;go_wp2_with fail;refine cr ai.o λbi H=> ?_;go_wp2_with fail;refine (ax.o _).mono ?_;rintro e cd ⟨aa,a3,av,c3,rfl⟩;go_wp2_with fail;refine cr (ay.o _) λcv aj=> ?_;go_wp2_with fail;refine cr (bk.o _) λdq az=> ?_;go_wp2_with fail;have an:=((H.trans aa zq).trans aj zq).trans az zq;refine cr (ch.o _ an) λA bt=> ?_;have bj:=an.trans bt zq;obtain ⟨V,r,dz⟩:=(dt.o.no cz ce bj).reads cz.o;have R:=dz A (Fr.refl _);have fl:=R.ct;have bx:=R.look o y br.o;obtain ⟨hb,gr,ei⟩:=R.kids o y br db.o;have fw:=ei Q cw.o;rw [cf.o] at fw;clear R dz ei;exact aC (aw.o 7 G E _ _ rfl bj)
       | none=>
        rw [bf] at u;have E:Hid (gI T p q=0):=lH (by rw [u];rfl);have en:=cg.o x rfl J bw (by simp) rfl bf;have cx:=lH en;have fh:Hid (jC T p q=moved T k o Q x.dir):=lH (by rw [du.o,AL E.o,ar]);have cf:=lH bf;obtain ⟨ge,dg,ep⟩:=B.up k x J bw;have da:=lH dg;have dy:=lH ep;have ha:=B.lt dg;have ff:=lH (B.name k x J bw);have gy:things T<=129:=AV JL (by rw [IX];omega);have gw:bI T o<1000:=Nat.lt_of_le_of_lt (JL) (by rw [IX];omega);have ek:=zM B J rfl rfl;have fd:=lH ek;clear u J ar B bq bd bn df ct dh bf en dg ep ek;go_enter func160,ntmps160;go_wp2_with fail;refine cr ai.o λbi H=> ?_;go_wp2_with fail;refine (ax.o _).mono ?_;rintro e cd ⟨aa,a3,av,c3,rfl⟩;go_wp2_with fail;refine cr (ay.o _) λcv aj=> ?_;go_wp2_with fail;refine cr (bk.o _) λdq az=> ?_;go_wp2_with fail;have an:=((H.trans aa zq).trans aj zq).trans az zq;refine cr (ch.o _ an) λA bt=> ?_;have bj:=an.trans bt zq;have fu:aF A ae:=λk de=>ce.o k (AV bj.size de);obtain ⟨V,r,bl,bb,fq,bc,bm⟩:=dt.o.no cz ce bj;(have ab:∃di,A.heap[r k]? =some (.cells #[x.up,(ba x.name),x.dir,.map di] 168 (0,0)):=by{have:=bm k x ci.o;obtain ⟨up,hi,dir⟩:=x;(cases dir with|false=>exact ⟨_,this.2⟩|true=>obtain ⟨_,jb,_,h,_⟩:=this;exact ⟨_,h⟩)});obtain ⟨di,ab⟩:=ab;obtain ⟨ad,fy,au,ca,fz⟩:=eF.dir (bm o y br) db.o;obtain ⟨ag,gf,cc,bh,hk⟩:=eF.dir (bm x.up ge da) dy.o;have gx:=(bm k x ci).1;have fl:A.cell? (I t 0)=some (.map (some V)):=(by rw [aA bb];rfl);have c1:A.cell? (I (r o) 3)=some (.map (some ad)):=(by rw [aA au];rfl);have c2:A.cell? (I (r x.up) 3)=some (.map (some ag)):=(by rw [aA cc];rfl);have c3:A.cell? (I (r k) 0)=some (Z x.up):=(by rw [aA ab];rfl);have c4:A.cell? (I (r k) 1)=some (.string (ba x.name)):=(by rw [aA ab];rfl);have dc:dC T r (o:Int)=some (r o):=(by simp [dC,br.o]);have dd:dC T r (k:Int)=some (r k):=(by simp [dC,ci.o]);have ea:dC T r (x.up:Int)=some (r x.up):=(by simp [dC,da.o]);have dk:=bc.look (o:Int) (by unfold encI I64;dsimp only;omega) (t:=157) (e:=169) underlying157 (z:=.pointer none) N false;rw [dc] at dk;have he:(Instr.lookup 157 (.map (some V)) (Z o) false).run prog A=.ok (Y (r o)) A:=dk;have dl:=bc.look (k:Int) (by unfold encI I64;dsimp only;omega) (t:=157) (e:=169) underlying157 (z:=.pointer none) N false;rw [dd] at dl;have hf:(Instr.lookup 157 (.map (some V)) (Z k) false).run prog A=.ok (Y (r k)) A:=dl;have dm:=(bc.fr (Fr.refl (S:=No) A).drew id).look (x.up:Int) (by unfold encI I64;dsimp only;omega) (t:=157) (e:=169) underlying157 (z:=.pointer none) N false;rw [ea] at dm;have hg:(Instr.lookup 157 (.map (some V)) (Z x.up) false).run prog A.drew=.ok (Y (r x.up)) A.drew:=dm;have dn:=ca.look (ba Q) (show (ba Q).size<=maxLen by rw [nG];have:=(rV Q cw).2.2;unfold maxLen;omega) (t:=166) (e:=3) underlying166 (z:=Z 0) N true;rw [show bQ T o (ba Q)=none by simp [bQ,l9,cf.o]] at dn;have hh:(Instr.lookup 166 (.map (some ad)) (.string (ba Q)) true).run prog A=.ok (.tuple #[Z 0,false]) A:=dn;obtain ⟨am,eg,cb,eb⟩:=(bh.fr (Fr.refl (S:=No) A).drew id).del (ba x.name) (show (ba x.name).size<=maxLen by rw [nG];have:=(rV _ ff).2.2;unfold maxLen;omega) (t:=166) (e:=3) underlying166 0;rw [show bQ T x.up (ba x.name)=some (k:Int) by simp [bQ,l9,fd.o]] at cb;have gt:(Builtin.delete_ #[166,9] 0 #[.map (some ag),(ba x.name)]).run prog A.drew=.ok (.tuple #[]) am:=eg;have ap:Fr (· =ag) A am:=(Fr.refl A).drew.trans eb zq;have bg:=ap.aB ab (bh.ne ab);have gp:am.cell? (I (r k) 0)=some (Z x.up):=(by rw [aA bg];rfl);have gq:am.cell? (I (r k) 1)=some (.string (ba x.name)):=(by rw [aA bg];rfl);have hl:am.frozen? (I (r k) 0)=false:=aU bg 0;have hm:am.frozen? (I (r k) 1)=false:=aU bg 1;have fa:=lH bb;have gi:=lH bc;have fb:=lH bm;have fi:=lH au;have gj:=lH ca;have fk:=lH cc;have gn:=lH bh;have fc:=lH ab;have gk:=lH bg;have gl:=lH cb;have gh:=lH ap;obtain ⟨w8,cp⟩:∃w8,w8=(am.setCell (I (r k) 0) (Z o)).setCell (I (r k) 1) (.string (ba Q)):=⟨_,rfl⟩;have ao:Fr (· =r k) am w8:=cp▸(dZ am (r k) 0 _).trans (dZ _ (r k) 1 _) zq;(have dj:w8.heap[r k]? =some (.cells #[o,(ba Q),x.dir,.map di] 168 (0,0)):=by{rw [cp];exact setCell_at (setCell_at bg 0 _) 1 _});have gu:=cx.o.dne;have gz:=cx.o.une;have ga:r k≠V:=bc.ne ab;have gb:r k≠ad:=ca.ne ab;have av:r k≠ag:=bh.ne ab;have gc:V≠ad:=(by rintro rfl;omega);have eu:V≠ag:=(by rintro rfl;omega);(have ev:r o≠r k:=λe=>by rw [e] at fz;omega);have et:MapAt encI w8 V (things T) (dC T r):=(bc.fr ap eu).fr ao (EM ga);have eq:w8.heap[r o]? =some (.cells #[y.up,(ba y.name),true,.map (some ad)] 168 (0,0)):=ao.aB (ap.aB au (bh.ne au)) ev;have ex:w8.heap[t]? =some (.cells #[.map (some V)] 159 (0,0)):=ao.aB (ap.aB bb (bh.ne bb)) (by rintro rfl;omega);have em:x.up≠o->MapAt encS w8 ag (bI T x.up - 1) (λz=>if z=ba x.name then none else bQ T x.up z):=λ_=>cb.fr ao (EM av);(have el:MapAt encS w8 ad (if x.up=o then bI T o - 1 else bI T o) (λz=>if x.up=o/\z=ba x.name then none else bQ T o z):=by{by_cases e:x.up=o;{rw [AL e];(have fo:ag=ad:=by{rw [e] at cc;rw [cc] at au;simp at au;exact au.2.2});have:=cb.fr ao (EM av);rw [fo,e] at this;simpa [e] using this};{rw [AA e];have:=(ca.fr ap (by rintro rfl;omega)).fr ao (EM gb);simpa [e] using this}});have ej:(if x.up=o then bI T o - 1 else bI T o)<1000:=(by split<;>omega);have dw:=lH (Ji t V (r o) ad (r k) (things T) _ o k Q (dC T r) _ w8 ex et (by unfold I64;omega) (by unfold I64;omega) X ej X dc eq rfl el X dj rfl cw);rw [cp] at dw;have ez:Hid (Fr (λj=>j=ag\/j=r k) A w8):=(ap.mono (λ_ _ e=> .inl e)).trans (ao.mono (λ_ _ e=> .inr e)) zq;have fj:=lH dj;have fe:=lH em;have dr:=lH dd;clear dk dl dm dn bb bc bm au ca cc bh ab bg cb eb ap eg dc dd ea ao dj av gc eu ev et eq ex em el ej;go_wp2_with fail;go_region
        all_goals
         go_wp2_with fail;refine cr dw.o ?_;rintro gg ⟨cm,cu,dp⟩;rw [dr.o] at cu;(have eo:¬((if x.up=o/\ba Q=ba x.name then none else bQ T o (ba Q)):Option Int).isSome=true:=by{have:bQ T o (ba Q)=none:=(by simp [bQ,l9,cf.o]);split;{simp};{rw [this];simp}});(have er:MapAt encS gg ad ((if x.up=o then bI T o - 1 else bI T o)+1) (λz=>if z=ba Q then some (k:Int) else if x.up=o/\z=ba x.name then none else bQ T o z):=by{rw [AA eo] at dp;exact dp});clear eo dp;rw [<-cp] at cm;have ef:1<=bI T o\/x.up≠o:=by{by_cases e:x.up=o;{left;have:=Jb T k X x x.up;rw [Ux ci.o,AL rfl,e] at this;omega};{exact .inr e}}
         have eh:=eF.moves cx fu bl fa fq fb br db fy fi da dy gf fk ((ez.o.mono (T:=λj=>j=V\/j=ag\/j=ad\/j=r k) (λ_ _ e=>e.elim (λe=> .inr (.inl e)) (λe=> .inr (.inr (.inr e))))).trans (cm.mono (T:=λj=>j=V\/j=ag\/j=ad\/j=r k) (λ_ _ e=>e.elim .inl (λe=> .inr (.inr (.inl e))))) zq)
          (by
            have:(λz=>if z=(k:Int) then some (r k) else dC T r z)=dC T r:=by{funext z;by_cases e:z=(k:Int);{rw [AL e,e,dr.o]};{rw [AA e]}}
            rw [this] at cu;simpa using cu)
          (λhc h=>by
            rw [fc.o] at h;simp at h;rw [<-h];exact cm.aB fj X)
          (λe=>(fe.o e).fr cm (by
            rintro (rfl|rfl);{omega}
            ·omega))
          (by
            have e:(if x.up=o then bI T o else bI T o+1)=(if x.up=o then bI T o - 1 else bI T o)+1:=by{split;{rename_i h;rcases ef with ec|ec;{omega};{exact absurd h ec}};{rfl}}
            rw [e];exact er)
         have ds:=lH eh;clear eh cu er ef;go_wp2_with fail;refine fg.o _ _ E rfl ?_;rw [fh.o];exact ⟨_,(Step.no ce bj).trans (ds.o.1.mono (D:=dM K) (λc ft=>by
          rcases ft with rfl|rfl|rfl|rfl;{exact .inr (.inl rfl)};{exact .inr (.inr X)};{exact .inr (.inr X)}
          ·exact .inr (.inr X))) (λ_ e=>e),ds.o.2⟩
      {have E:Hid (gI T p q=cl):=lH (by rw [u,AL bv]);have cy:=lH bv;have gd:(cl==0)=false:=(U bv);clear u J ar B bq bd bn bv;go_enter func160,ntmps160;go_wp2_with fail;refine cr ai.o λbi H=> ?_;go_wp2_with fail;refine (ax.o _).mono ?_;rintro e cd ⟨aa,a3,av,c3,rfl⟩;go_wp2_with fail;refine cr (ay.o _) λcv aj=> ?_;go_wp2_with fail;refine cr (bk.o _) λdq az=> ?_;go_wp2_with fail;have an:=((H.trans aa zq).trans aj zq).trans az zq;refine cr (ch.o _ an) λA bt=> ?_;exact aC (aw.o cl cy E _ _ rfl (an.trans bt zq))}
 {have E:Hid (gI T p q=cj):=lH (by rw [u,AL ak]);have cy:=lH ak;(have gd:(cj==0)=false:=by simpa using ak);clear ak u bo B bu bp;go_enter func160,ntmps160;go_wp2_with fail;refine cr ai.o λbi H=> ?_;exact aC (aw.o cj cy E _ _ rfl H)}
open Go.Sort Go.Shelf
def wM (T:Tree) (d:Nat) (s:ByteArray):List Value:=eX (kD T d s)
theorem aA1 (T d) (ss:List ByteArray):flatK (wM T d) 3 ss.toArray=((ss.map (kD T d)).flatMap eX).toArray:=by
 have J:∀l:List dY,(l.flatMap eX).length=l.length*3:=λl=>by
  (induction l with|nil=>rfl|cons a l ih=>rw [DN,AB,ih,Ai,BU];omega)
 apply ext_get!;{rw [size_flatK];simp [J]};{intro t o;rw [size_flatK] at o;rw [get_flatK _ _ _ _ o];(have r:t / 3<ss.length:=by simp at o;omega);have E:t % 3<3:=Nat.mod_lt _ G;(have H:(ss.map (kD T d))[t / 3]? =some (kD T d ss[t / 3]):=by rw [FB,AC r];rfl);have u:(eX (kD T d ss[t / 3]))[t % 3]? =some ((eX (kD T d ss[t / 3]))[t % 3]'(by rw [Ai];exact E)):=AC _;have A:=Nq _ (t / 3) (t % 3) _ _ H u;rw [show t / 3*3+t % 3=t by omega] at A;(have B:ss.toArray[t / 3]! =ss[t / 3]:=by simp [r]);rw [B];unfold wM;rw [show ((List.flatMap eX (ss.map (kD T d))).toArray)[t]! =((List.flatMap eX (ss.map (kD T d)))[t]?).getD default by simp,A];rw [Option.getD_some,JX,u];rfl}
theorem aCV {w} {base g cap n:Nat} {T d} {ss:List ByteArray} {o} (V:n=ss.length) (A:w.heap[g]? =some (.cells o 86 (0,0))) (r:o.toList.take (n*3)=(ss.map (kD T d)).flatMap eX):HoldsK (wM T d) 3 w g 0 ss.toArray:=by
 intro j B;rw [size_flatK] at B;(have E:j<n*3:=by simp at B;omega);refine ⟨?_,by simp [World.frozen?,A]⟩;rw [aA1];have u:(o.toList.take (n*3))[j]? =((ss.map (kD T d)).flatMap eX)[j]? :=by rw [r]
 rw [IQ E] at u;simp only [World.cell?,A,BP];simp only [Option.isSome_none,DC,FP];rw [<-CS,u];have Q:((ss.map (kD T d)).flatMap eX).length=n*3:=by
  rw [<-r,BV];have:n*3<=o.toList.length:=by
   rcases BJ o.toList.length (n*3) with h|h
   ·exfalso;have H:∀l:List dY,(l.flatMap eX).length=l.length*3:=λl=>by
     (induction l with|nil=>rfl|cons a l ih=>rw [DN,AB,ih,Ai,BU];omega)
    have J:=BC List.length r;rw [BV,H,EP] at J;omega
   {exact h}
  omega
 rw [AC X];simp [Q,E]
theorem Xd {w g n os o e fr} (F) (r:w.heap[g]? =some (.cells o e fr)):
  (Go.Sort.grow (Go.Sort.putRow id (Go.Sort.ahead w n) g 0 F) os).heap[g]? =some (.cells (Go.Sort.putCells id 0 F o) e fr):=by
 have u:=(KU.1 r).1;rw [Go.Sort.heap_grow_old _ _ (U u)];simp [Go.Sort.putRow,Go.Sort.mapBlock,Go.Sort.ahead,KP,r,Go.Sort.onCells]
theorem Dn {w g n os} (F):Fr (· =g) w (Go.Sort.grow (Go.Sort.putRow id (Go.Sort.ahead w n) g 0 F) os):=by
 refine ⟨rfl,rfl,rfl,by simp,λk o r=> ?_⟩;rw [Go.Sort.heap_grow_old _ _ (U o)];have:g≠k:=λe=>r e.symm;simp [Go.Sort.putRow,Go.Sort.mapBlock,Go.Sort.ahead,KP,this]
theorem aAs (T d) (ss:List ByteArray) (base v w) (h:w.ownsRow base 86 3 v ss.length ((ss.map (kD T d)).flatMap eX)) (ap:ss.length<1000):
  Calls prog 86 #[v,.func (.func 87) #[] #[]] w λe w'=>e=.returned (.tuple #[])/\Fr (λk=>base<=k) w w'/\iD w' w' v ((ss.mergeSort lS).map (kD T d)):=by
 rcases h.2 with ⟨rfl,aa⟩|⟨g,cap,ak,rfl,ad,r,am,an,ao,ab⟩;{have ah:=CU aa;subst ah;have o:=AnyF.slices_SortFunc_none (P:=prog) (ρ:=Tryz.Ri) {Tryz.Vz with} none 0 (.func (.func 87) #[] #[]) w;change Calls prog 86 _ _ _ at o;refine o.mono ?_;rintro e w' ⟨rfl,rfl⟩;exact ⟨rfl,Fr.refl _,.inl ⟨rfl,by simp⟩⟩}
 ·have E:=aCV (T:=T) (d:=d) (ss:=ss) (base:=base) (cap:=cap) rfl r ab;have V:=enters_of func87 N rfl;have o:=AnyQ.slices_SortFunc_total Tryz.Vz 3 isAgg86 sizeOf86 (wM T d) (λ_=>rfl) (λx v J=>by simp [wM,eX] at J;rcases J with rfl|rfl|rfl<;>rfl) pK Gt 87 #[] g 0 cap ss.toArray w V
   (λm os al _ x y=>aF2 (kD T d x) (kD T d y) _) E (lt_of_block r) (by simp;omega) Vy
  change Calls prog 86 _ _ _ at o;rw [show ss.toArray.size=ss.length by simp,show ss.toArray.toList=ss by simp] at o;refine o.mono ?_;rintro e w' ⟨rfl,n,os,rfl⟩;have B:(ss.mergeSort lS).length=ss.length:=List.length_mergeSort _;(have af:HoldsK (wM T d) 3 (sortWorldK (wM T d) 3 w g 0 n (ss.mergeSort lS).toArray os) g 0 (ss.mergeSort lS).toArray:=by{unfold sortWorldK;refine holdsK_grow _ _ _ _ _ _ _ ?_ (holdsK_putRowK _ _ _ _ _ _ _ (holdsK_ahead _ _ _ n _ _ _ E) (by simp [B]));unfold putRowK;simpa [Go.Sort.ahead] using lt_of_block r});refine ⟨rfl,(Dn _).mono (λk _ e=>by rw [e];exact ad),.inr ⟨g,0,cap,by rw [EP,B],by rw [EP,B];omega,?_,?_,⟨_,_,Xd _ r⟩,λj x u i aj H=> ?_⟩⟩;{exact AP (lt_of_block r) (Dn (w:=w) (g:=g) (n:=n) (os:=os) _).size};{exact AP (lt_of_block r) (Dn (w:=w) (g:=g) (n:=n) (os:=os) _).size};{(have A:j<(ss.mergeSort lS).length:=by{have:=(AX.1 u).1;simpa using this});have ag:=(AX.1 H).1;have ae:=(af.cell (i:=j) (c:=i) (U A) ag).1;refine ae.trans ?_;rw [FB,AC A] at u;simp only [Option.map_some,FO] at u;have Q:(ss.mergeSort lS).toArray[j]! =(ss.mergeSort lS)[j]:=(getElem!_pos (ss.mergeSort lS).toArray j (U A)).trans rfl;rw [Q];unfold wM;rw [u];have ai:(eX x)[i]? =some aj:=H;rw [JX,ai];rfl}
def listOf (T:Tree) (l:List UInt8):Int×List dY:=if (lookOf T l).1≠0 then ((lookOf T l).1, []) else if (lookOf T l).2.2=false then (10, []) else (0,wI T (lookOf T l).2.1)
def yT (w:World) (x:Int×List dY) (e:Ending) (w':World):Prop:=∃v,e=.returned (.tuple #[v,x.1])/\Fr No w w'/\iD w' w' v x.2/\Low w v
def Hf (v:Value):Nat:=match v with| .slice _ l _=>l|_=>0
theorem aAA (br K t T l w) (cj:l.length<=1000000) (h:eF w br K t T) (V:dJ T) (bi:aF w br):
  Calls prog 41 #[Y t,(ba l)] w (yT w (listOf T l)):=by
 have de:=lH h;have ab:=lH V;have dc:=lH bi;have ap:=lH (yJ br K t T l w cj h V bi);have E:listOf T l=if (lookOf T l).1≠0 then ((lookOf T l).1, []) else if (lookOf T l).2.2=false then (10, []) else (0,wI T (lookOf T l).2.1):=rfl;have ao:=look_ok (l:=l) V;generalize lookOf T l=P at*;obtain ⟨aq,k,is⟩:=P;generalize listOf T l=ad at*;have bv:Hid (∀bc,ad=(bc, [])->∀e w',e=.returned (.tuple #[nS,bc])->Fr No w w'->yT w ad e w'):=λbc B e w' J f=>⟨.slice none 0 0,by rw [J,B],f,by rw [B];exact .inl ⟨rfl,rfl⟩,Low.nil _⟩;have dk:Hid (∀v e w',e=.returned (.tuple #[v,Z 0])->Fr No w w'->iD w' w' v (wI T k)->Low w v->ad=(0,wI T k)->yT w ad e w'):=λv e w' J f au ei B=>⟨v,by rw [J,B],f,by rw [B];exact au,ei⟩;generalize yT w ad=eq at*;clear h cj bi;dsimp only at E ao ap;by_cases J:aq=0
 ·subst J;obtain ⟨x,B,bn⟩:=ao rfl;rw [AA D] at E;cases is with
  | false=>
   have ak:=lH E;clear E ao B bn V;go_enter func41,ntmps41;go_wp2_with fail;refine cr ap.o λo H=> ?_;exact aC (bv.o 10 ak _ _ rfl H)
  | true=>
   rw [AA D] at E;have ak:=lH E;have bw:=lH B;have dm:=lH bn;have fa:=V.lt B;have fc:bI T k<=129:=AV JL (by rw [IX];omega);have bu:=lH (aFv T k);obtain ⟨el,ci,ct,cu,cv⟩:=EL Tryz.O8;have df:=lH ci;have dn:=lH ct;have dp:=lH cu;have dq:=lH cv;clear ci ct cu cv E ao B bn V;go_enter func41,ntmps41;go_wp2_with fail;refine cr ap.o λo H=> ?_;obtain ⟨ax,Q,be,bf,dv,bg,bh⟩:=de.o.no ab dc H;obtain ⟨aw,em,cw,bo,en⟩:=eF.dir (bh k x bw) dm.o;have er:o.cell? (I t 0)=some (.map (some ax)):=(by rw [aA bf];rfl);have c3:o.cell? (I (Q k) 3)=some (.map (some aw)):=(by rw [aA cw];rfl)
   have bp:=bg.look (k:Int) (by unfold encI I64;dsimp only;omega) (t:=157) (e:=169) underlying157 (z:=.pointer none) N false;rw [show dC T Q (k:Int)=some (Q k) by simp [dC,bw.o]] at bp;have fk:(Instr.lookup 157 (.map (some ax)) (Z k) false).run prog o=.ok (Y (Q k)) o:=bp;obtain ⟨fs,fg,bz,cc,fh⟩:=bo.range (t:=166) (e:=3) underlying166;have cz:=lH bg;have da:=lH bh;have cy:=lH bf;have dr:=lH bz;have cx:=lH cc;have ez:=bo.lt;clear bp bg bh bf em cw bo en be dv bz cc;go_wp2_with fail;go_loopw [9] (λv wr=>∃ss:List ByteArray,Hid (∃left ae,jJ encS wr aw o (bI T k) (bQ T k) left ae/\∀s:ByteArray,s.size<=maxLen->(left s=true↔(bQ T k s).isSome=true/\s ∉ ss))/\Hid (wr.ownsRow (o.heap.size+1) 86 3 v ss.length ((ss.map (kD T k)).flatMap eX))/\Hid ss.Nodup/\Hid (∀s∈ss,(bQ T k s).isSome=true)/\Hid (Fr No o wr)/\o.heap.size+1<=wr.heap.size)
    (λv _=>bI T k - Hf v)
   case atStart=>exact ⟨[],lH ⟨_,_,dr,λs _=>by simp⟩,lH ⟨rfl,.inl ⟨rfl,rfl⟩⟩,lH List.nodup_nil,lH D,cx,by omega⟩
   case round=>
    obtain ⟨ss,bb,aj,ai,ah,ay,eg⟩:=hrel;obtain ⟨a,ca,rfl⟩:=aj.o.shape;obtain ⟨left,ae,ag,an⟩:=bb.o;rcases ag.next 0 with ⟨_,cm,bm⟩|⟨s,y,u,et,af,ck,bm,co,_,bd,cp,cf⟩
    ·have ce:∀s,s∈ss↔(bQ T k s).isSome=true:=λs=>⟨ah s,λh=>by
      obtain ⟨y,ej⟩:=EK.1 h;have ch:=(ag.map.good ej).1;apply BI;intro ed;have:=(an s ch).2 ⟨h,ed⟩;rw [cm s ch] at this;cases this⟩
     have db:=lH (aBk ab k ss ai ce);(have fd:ss.length<=bI T k:=by{rw [<-bu.o];exact List.Nodup.length_le_of_subset ai (λs ef=>(G9 ab k s).2 (ah.o s ef))});clear ce cm an ag bb;go_wp2_with fail;have ex:=H;refine cr (aAs T k ss (o.heap.size+1) _ wr aj X) ?_;rintro ft ⟨dt,cg⟩;rw [db.o] at cg;have ec:=(Low.row aj).le (AV H.size (BZ _));have ea:=H.trans (((ay.o.aY (S:=λk=>o.heap.size<=k)).trans dt (λj _ h=>by omega)).no (λj am h=>by omega)) zq;exact aC (dk.o _ _ _ rfl ea cg ec ak.o)
    ·obtain ⟨bk,bl⟩:=(an s (ag.map.good af).1).1 ck;have fi:=(ag.map.good af).1;(obtain ⟨r,bj,rfl⟩:∃r,kid T k s.data.toList=some r/\y=(r:Int):=by{(cases ar:kid T k s.data.toList with|none=>simp [bQ,ar] at af|some r=>simp [bQ,ar] at af;exact ⟨r,rfl,af.symm⟩)});obtain ⟨z,A,_⟩:=rE bj;have fb:=ab.o.lt A;have aa:Fr No o u:=ay.o.trans bd (λj am e=>by omega);have bx:u.ownsRow (o.heap.size+1) 86 3 (.slice a ss.length ca) ss.length ((ss.map (kD T k)).flatMap eX):=wO aj bd (λj e h=>by omega);have d0:u.cell? (I t 0)=some (.map (some ax)):=(by rw [aA (aa.aB cy.o id)];rfl);have eu:u.cell? (I (Q r) 2)=some (.bool (isDir T r)):=by{have cd:=(da.o r z A).2;have dw:isDir T r=z.dir:=(by simp [isDir,A]);rw [dw];obtain ⟨up,fo,dir⟩:=z;(cases dir with|false=>rw [aA (aa.aB cd id)];rfl|true=>obtain ⟨jb,_,al,_⟩:=cd;rw [aA (aa.aB al id)];rfl)}
     have bq:=(cz.o.fr aa id).look (r:Int) (by unfold encI I64;dsimp only;omega) (t:=157) (e:=169) underlying157 (z:=.pointer none) N false;rw [show dC T Q (r:Int)=some (Q r) by simp [dC,A]] at bq;have fl:(Instr.lookup 157 (.map (some ax)) (Z r) false).run prog u=.ok (Y (Q r)) u:=bq;have ff:(Instr.next (Y o) false 0).run prog wr=.ok (.tuple #[true,s,r]) u:=bm;have ew:(Instr.entry (Y o)).run prog u=.ok (.tuple #[s,r]) u:=cf;have dz:Hid (kD T k s=(s,(r:Int),isDir T r)):=lH (by unfold kD;rw [bj];rfl);have fe:ss.length<bI T k:=by
      have al:(s::ss).length<=(uD T k).length:=List.Nodup.length_le_of_subset (MC.2 ⟨bl,ai⟩) (λz A=>by
       rcases CE.1 A with rfl|A;{exact (G9 ab k _).2 bk}
       ·exact (G9 ab k _).2 (ah.o z A))
      rw [bu.o,BU] at al;omega
     have dl:Hid (∃left ae,jJ encS u aw o (bI T k) (bQ T k) left ae/\∀z:ByteArray,z.size<=maxLen->(left z=true↔(bQ T k z).isSome=true/\z ∉ ss++ [s])):=lH ⟨_,_,co,λz ek=>by
      have:=an z ek;simp only [BM,BR,this,BN,BB,not_or,and_assoc]⟩
     have dh:Hid (ss++ [s]).Nodup:=lH (by
      rw [List.nodup_append];exact ⟨ai,by simp,λa dx b au=>by
       rw [BB] at au;subst au;rintro rfl;exact bl dx⟩)
     have dg:Hid (∀z∈ss++ [s],(bQ T k z).isSome=true):=λz A=>by
      rcases BN.1 A with h|h;{exact ah.o z h};{rw [BB] at h;subst h;exact bk}
     have ep:=lH cp;have az:=lH bx;have fj:o.heap.size+1<=u.heap.size:=X;have dd:=lH aa;clear cp eg bq bm cf ag co an ck af bk bl bj A bb aj ai ah ay bx aa bd;generalize isDir T r=cb at*;go_wp2_with (at_builtin;(refine wpList_append_lies _ R _ _ 26 R (o.heap.size+1) 86 el _ 3 32 underlying26 df dn dp dq rfl G (.slice a ss.length ca) ss.length ((ss.map (kD T k)).flatMap eX) R (az.o.alloc _) (I u 0) 1 1 [s,r,cb] R R ?d1 (by simp [Value.oneCell']) G (by unfold maxLen;omega) X ?d5 (u.heap.size+1) ?d6 ?_));(case d1=>exact World.news_of_block (cs:= #[s,r,cb]) (t:=86) (fr:=(0,0)) (AQ u _));(case d5=>rw [fC];omega);(case d6=>simp);intro ev cap bt cn av dy eb;have cl:Fr No o bt:=by{refine (dd.o.alloc _).grown av (λj am=> .inr ?_);have:=Oj az j am;omega}
     have ee:Hid (∃left ae,jJ encS bt aw o (bI T k) (bQ T k) left ae/\∀z:ByteArray,z.size<=maxLen->(left z=true↔(bQ T k z).isSome=true/\z ∉ ss++ [s])):=lH (by
      obtain ⟨eo,ds,ar,be⟩:=dl.o;have du:=((Fr.refl u).alloc _).grown av (λj am=> .inl (Oj az j am));exact ⟨eo,ds,ar.fr du X X,be⟩)
     have eh:o.heap.size+1<=bt.heap.size:=(by have:=av.size;rw [fC] at this;omega);have di:=lH cl;have dj:=lH cn;clear cn av dy eb cl;go_wp2_with fail;go_roundw;{refine ⟨ss++ [s],ee,lH ?_,dh,dg,di,eh⟩;have al:=dj.o;rw [GX,EU,AB];simp only [ET,List.map_nil,DN,GN,EN,dz.o];exact al};simp [Hf];omega
 {have ak:Hid (ad=(aq, [])):=lH (by rw [E,AL J]);(have fq:(aq==0)=false:=by simpa using J);clear J E ao V;go_enter func41,ntmps41;go_wp2_with fail;refine cr ap.o λo H=> ?_;exact aC (bv.o aq ak _ _ rfl H)}
def gJ (p:Pt):Stp:=(p.c,p.l,p.n)
def dX (L:List Pt) (x:Stp):Int:=(L.map λp=>if gJ p=x then p.z else 0).sum
theorem aFA (x):dX [] x=0:=rfl
theorem Uf (L p x):dX (L++ [p]) x=dX L x+if gJ p=x then p.z else 0:=by
 simp [dX]
theorem Ht {L} (h:∀p∈L,0<=p.z/\p.z<=64) (x):0<=dX L x/\dX L x<=64*L.length:=by
 (induction L with|nil=>exact ⟨JF _,JF _⟩|cons p r ih=>obtain ⟨u,A⟩:=ih (λq o=>h q (BH _ o));obtain ⟨B,E⟩:=h p (BK ..);(have e:dX (p::r) x=(if gJ p=x then p.z else 0)+dX r x:=by simp [dX]);rw [e,BU];split<;>omega)
theorem Y5 {l:List Nat} {f} {b:Int} (h:∀i∈l,0<=f i/\f i<=b):0<=(l.map f).sum/\(l.map f).sum<=b*l.length:=by
 (induction l with|nil=>simp|cons i r ih=>obtain ⟨u,A⟩:=ih (λj o=>h j (BH _ o));obtain ⟨B,E⟩:=h i (BK ..);rw [ET,GU,BU];(have:b*((r.length+1:Nat):Int)=b*(r.length:Int)+b:=by{rw [Int.natCast_add,Int.mul_add];simp});omega)
theorem aCp (n j) (f g:Nat->Int) (r:j<n) (h:∀i,i≠j->f i=g i):((List.range n).map f).sum=((List.range n).map g).sum+(f j - g j):=by
 (induction n with|zero=>omega|succ n ih=>rw [NH,GX,List.sum_append,GX,List.sum_append];simp only [ET,List.map_nil,GU,List.sum_nil];by_cases e:j=n;{subst e;have:(List.range j).map f=(List.range j).map g:=JD (λi o=>h i (by have:=CG.1 o;omega));rw [this];omega};{rw [ih X,h n (λe'=>e e'.symm)];omega})
def jT (F:Nat->Option cO) (left:Int->Bool) (x:Stp):Int:=((List.range 129).map λi=>match F i with
 | some m=>if left (i:Int)=true then 0 else dX (ptrs m) x
 | none=>0).sum
def iH (F:Nat->Option cO) (x:Stp):Int:=jT F (λ_=>false) x
def jU (F:Nat->Option cO):Prop:=∀i m,F i=some m->∀p∈m.l,dU p
theorem rY {p} (h:dU p):jM (gJ p)/\0<=p.z/\p.z<=64:=by
 unfold jM gJ I64;rcases h with rfl|h;{decide};{dsimp only;omega}
def Short (F:Nat->Option cO):Prop:=∀i m,F i=some m->∀p∈m.l,0<=p.z/\p.z<=64
theorem jU.short {F} (h:jU F):Short F:=λi m o p r=>(rY (h i m o p r)).2
theorem Wj {F} (h:Short F) {i m} (o:F i=some m):∀p∈ptrs m,0<=p.z/\p.z<=64:=λp r=>h i m o p (GY.1 r).1
theorem Ov {m} (h:eQ m):(ptrs m).length<=64:=AV (JO _ _) (by
 obtain ⟨r,o⟩:=h;rw [o];unfold dA;omega)
theorem Kv {F} (h:Short F) (r:∀i m,F i=some m->eQ m) (left x):0<=jT F left x/\jT F left x<=528384:=by
 have:=Y5 (l:=List.range 129) (b:=4096) (f:=λi=>match F i with
  | some m=>if left (i:Int)=true then 0 else dX (ptrs m) x
  | none=>0) (λi _=>by
   cases o:F i with
   | none=>simp
   | some m=>
    dsimp only;split;{omega}
    ·have u:=Ht (Wj h o) x;have A:=Ov (r i m o);omega)
 rw [IX] at this;unfold jT;omega
theorem aDc {F left} (h:∀i m,F i=some m->left (i:Int)=true) (x):jT F left x=0:=by
 have e:(List.range 129).map (λi=>match F i with
  | some m=>if left (i:Int)=true then 0 else dX (ptrs m) x
  | none=>0)=(List.range 129).map (λ_=>(0:Int)):=JD (λi _=>by
   cases o:F i with
   | none=>rfl
   | some m=>dsimp only;rw [AL (h i m o)])
 unfold jT;rw [e];generalize List.range 129=l;(induction l with|nil=>rfl|cons a r ih=>rw [ET,GU,ih];rfl)
theorem aCo {F:Nat->Option cO} {left i m} (o:F i=some m) (u:i<129) (r:left (i:Int)=true) (x:Stp):
  jT F (λz=>left z&&decide (z≠(i:Int))) x=jT F left x+dX (ptrs m) x:=by
 unfold jT;rw [aCp 129 i _ (λj=>match F j with
  | some m=>if left (j:Int)=true then 0 else dX (ptrs m) x
  | none=>0) u (λj A=>by
   have e:decide ((j:Int)≠(i:Int))=true:=BO X;cases F j with
   | none=>rfl
   | some m'=>simp only [e,Bool.and_true])]
 rw [o];simp [r]
theorem aDH {F left} (h:∀i:Nat,i<129->left (i:Int)=false) (x):jT F left x=iH F x:=by
 unfold iH jT;refine BC List.sum (JD (λi o=> ?_));(cases F i with|none=>rfl|some m=>dsimp only;rw [h i (CG.1 o)])
def gV (F:Nat->Option cO) (U:Stp->Option Us):Stp->Option Us:=λx=>match U x with
 | none=>none
 | some u=>if iH F x=0 then none else some (u.1,iH F x,u.2.2)
def dG (w:World) (r:aH) (rv dv:Value):World:=(w.alloc (.cells (r.cells rv dv) 36)).alloc (.cells (bT.cells (nS) (nS)) 29)
structure aBO (w:World) (o:Nat->Nat) (K:Nat) (L:jV) (S:St) (n:Nat) (r:aH) (rv dv:Value) (w0:World):Prop where
 fr:Fr No w w0
 k0:w0.heap[w.heap.size]? =some (.cells (r.cells rv dv) 36 (0,0))
 k1:w0.heap[w.heap.size+1]? =some (.cells (bT.cells (nS) (nS)) 29 (0,0))
 at_:aV w0 o K L S n
 fresh:aF w0 o
theorem begun {w B K n L S} (h:aV w B K L S n) (ok:aG S) (E:aF w B) (r u o):aBO w B K L S n r u o (dG w r u o):=by
 have A:Fr No w (dG w r u o):=((Fr.refl w).alloc _).alloc _;refine ⟨A,((Fr.refl (S:=No) _).alloc _).aB (aQ w _) id,?_,h.no ok E A,(Step.no (C:=λ_=>False) E A).fresh⟩;have:=aQ (w.alloc (.cells (r.cells u o) 36)) (.cells (bT.cells (nS) (nS)) 29);unfold dG;simpa using this
theorem bH.no {w w' o K n L S x B e} (h:aV w o K L S n) (ok:aG S) (r:aF w o) (A:x≠0) (u:e=.panicked (kH x)) (f:Fr No w w'):bH w o K L n (x,B,S) e w':=
 ⟨⟨o,(Step.no (C:=λ_=>False) r f).mono (λ_ e=>e.elim),h.no ok r f⟩,by rw [AA A];exact u⟩
def iW (e i z h s:Int) (d:Bool):aW:=⟨e,i,z,h,s,d, [], []⟩
def lG (e i z h s:Int) (d:Bool):Value:=.agg #[e,i,z,h,s,d,nS,nS]
theorem mV.plain {n} (w e i z h s d):mV n w (lG e i z h s d) (iW e i z h s d):=⟨_,_,rfl,.inl ⟨rfl,rfl⟩,.inl ⟨rfl,rfl⟩,Low.nil _,Low.nil _⟩
theorem zK {K c} (h:dM K c):bF K c:=by unfold bF;unfold dM at h;omega
theorem Gs {K c} (h:gZ K c):bF K c:=by unfold bF;unfold gZ at h;omega
theorem Np {T} (A:dJ T) (p q):dJ (jC T p q):=by
 unfold jC;split;{rename_i h;unfold gI at h;by_cases o:(lookOf T p).1=0;{rw [AA (by simp [o])] at h;by_cases u:(lookOf T p).2.1=1;{rw [AL u] at h;cases h};{rw [AA u] at h;split at h;{cases h};{split at h;{cases h};{rename_i B;split at h;{cases h};{by_cases r:(placeOf T q).1=0;{rw [AA (by simp [r])] at h;split at h;{cases h};{rename_i E;obtain ⟨x,H,hd⟩:=look_ok A o;rw [<-hd];exact Vp (Q3 A o H u B r (U E))}};{rw [AL r] at h;exact absurd h r}}}}}};{rw [AL o] at h;exact absurd h o}};{exact A}
theorem aG.mM {S} (ok:aG S) {o} (h:dJ o):aG {S with T:=o}:=⟨h,ok.file⟩
theorem Bc {C w w' A B u r g} (H:aF w u) (f:Fr No w w') (s:Step C w' u A r) (J:w.heap.size<=g) (Q:g<w'.heap.size) (q:Fr (λj=>j=g) A B):
  Step C w u B r/\Step (λc=>c=0) A r B r:=by
 have e:=(s.old g Q).trans (H g J);have E:=(f.aY).trans s.fr (λ_ _ h=>h);refine ⟨⟨E.trans q (λj V e=>by omega),λk o=>s.old k (AP o f.size),λk o=>s.fresh k (AV q.size o)⟩,⟨q.mono (λj _ h=>by subst h;exact e),λ_ _=>rfl,λk o=>s.fresh k (AV q.size o)⟩⟩
theorem bH.yes {C w w' u A o r K n g L S' B v e} (J:aF w o) (f:Fr No w w') (s:Step C w' o u r) (E:∀c,C c->bF K c) (Q:w.heap.size<=g) (V:g<w'.heap.size) (q:Fr (λj=>j=g) u A) (ok:aG S') (t:aV u r K L S' n) (H:e=.returned v) (aa:mV w A v B):bH w o K L n (0,B,S') e A:=by
 obtain ⟨a,b⟩:=Bc J f s Q V q;exact ⟨⟨r,a.mono E,t.step ok b (λc h e=>by unfold bF at h;omega)⟩,by rw [AL rfl];exact ⟨v,H,aa⟩⟩
def oC (S:St) (r:aH):Int×aW×St:=
 if gI S.T r.path r.tq=0 then (0,iW 0 0 0 0 0 false,{S with T:=jC S.T r.path r.tq}) else (gI S.T r.path r.tq,bT,S)
theorem aBY (r K n L S o al ag w) (h:aV w r K L S n) (ok:aG S) (B:aF w r) (aq:o.path.length<=1000000) (ar:o.tq.length<=1000000):
  Calls prog 104 #[Y L.s,.agg (o.cells al ag)] w (bH w r K L n (oC S o)):=by
 obtain ⟨ap,aj,ak,ae,aa⟩:=begun h ok B o al ag;have au:=lH ap;have an:Hid (∀w',Fr No (dG w o al ag) w'->Calls prog 160 #[Y L.tr,(ba o.path),(ba o.tq)] w' (y8 w' r K L.tr S.T o.path o.tq)):=
  lH (λw' f=>aBA r K L.tr S.T o.path o.tq w' aq ar ((ae.no ok aa f).tree) ok.tree (Step.no (C:=λ_=>False) aa f).fresh)
 have ax:Hid (gI S.T o.path o.tq≠0->∀e w' A u,e=.panicked (kH (gI S.T o.path o.tq))->Fr No w w'->Step (dM K) w' r A u->eF A u K L.tr (jC S.T o.path o.tq)->bH w r K L n (oC S o) e A):=λQ e w' A u J f s t=>by
  have ab:=(Step.no B f).trans s (λ_ e=>e);have:=h.mM ok ab t;rw [show jC S.T o.path o.tq=S.T from AA Q] at this;unfold oC;rw [AA Q];exact ⟨⟨u,ab.mono (λ_ e=>zK e),this⟩,by rw [AA Q];exact J⟩
 have aw:Hid (gI S.T o.path o.tq=0->∀e w' A V u,e=.returned (lG 0 0 0 0 0 false)->Fr No w w'->w.heap.size+1<w'.heap.size->Step (dM K) w' r A u->eF A u K L.tr (jC S.T o.path o.tq)->Fr (λj=>j=w.heap.size+1) A V->bH w r K L n (oC S o) e V):=λbf e w' A V u J f ab s t g=>by
  unfold oC;rw [AL bf];have bh:=(Step.no B f).trans s (λ_ e=>e);exact bH.yes B f s (λ_ e=>zK e) X ab g (ok.mM (Np ok.tree _ _)) (h.mM ok bh t) J (mV.plain _ _ _ _ _ _ _)
 generalize bg:bH w r K L n _=bk at*;clear bg;have bd:Hid (¬dM K (r L.s)):=lH (by rw [h.own];unfold dM;omega);have bb:Hid (¬dM K (r w)):=lH (by rw [B _ (AU _)];unfold dM;omega);have bc:Hid (¬dM K (r (w.heap.size+1))):=lH (by rw [B _ (BZ _)];unfold dM;omega);have av:=lH ae;have bi:=lH aa;clear ae aa ap h ok B aq ar;unfold y8 at an;generalize gI S.T o.path o.tq=ah at*;generalize jC S.T o.path o.tq=bl at*;unfold dG aH.cells bT aW.cells at*;go_enter func104,ntmps104;go_wp2_with fail;generalize (w.alloc _).alloc _=w0 at*;have B1:=lH (lt_of_block ak);generalize bo:w.heap.size=E at*;have bm:w0.cell? (I L.s 9)=some (Y L.tr):=av.o.cell 9;have bn:w0.cell? (I E 4)=some (.string (ba o.path)):=by rw [aA aj];rfl
 have d5:w0.cell? (I E 5)=some (.string (ba o.tq)):=by rw [aA aj];rfl
 have ay:=lH ak;clear aj ak;go_region_held3 (λw'=>w'.cell? (I L.s 9)=some (Y L.tr)/\w'.cell? (I E 4)=some (.string (ba o.path))/\w'.cell? (I E 5)=some (.string (ba o.tq))) (first|go_keep|(go_split_ands;refine ⟨?_,?_,?_⟩<;>exact H.fr.cell_of (by assumption) (by first|exact bd.o|exact bb.o)))
  ((go_at_call 160;refine (an.o _ (Fr.refl _).drew).mono ?_;rintro e bq ⟨rfl,u,H,ad⟩))
 have be:Hid (E+1<w0.drew.heap.size):=lH (U B1.o);have am:=lH (au.o.trans (Fr.refl w0).drew zq);cases ai:(ah==0) with
 | false=>
  have Q:ah≠0:=by simpa using ai
  have af:=lH (ax.o Q _ _ _ _ rfl am H ad);clear H ad;go_wp2_with fail;refine cr (gQ _ _) ?_;rintro br rfl;go_wp2_with fail;exact ⟨rfl,af⟩
 | true=>
  obtain rfl:ah=0:=by simpa using ai
  have af:=lH (λe V J g=>aw.o rfl e _ _ V _ J am be H ad g);have ao:=lH (H.fr.aB ((Fr.refl (S:=No) w0).drew.aB ay id) bc);clear H ad ai;have bp:∀w':World,(Instr.build 29 #[]).run prog w'=.ok (.agg (cE 0)) w':=λw'=>by kernel_rfl
  have bj:=lH (show ((cE 0):Array Value).all (·.oneCell')=true from by simp [Value.oneCell']);go_wp2_with fail;refine cq (iR _ _) ?_;go_wp2_with (refine wS 29 ao ?_);have az:=aX (cs':=(cE 0)) ao.o;exact AZ (v:=lG 0 0 0 0 0 false) (BD rfl _ _ (E+1) 29 _ (0,0) _ rfl az underlying29 rfl Tryz.size29) rfl
   (af.o _ _ rfl fR)
theorem iD.shape {w B v es} (h:iD w B v es):∃base len cap,v=.slice base len cap:=by
 rcases h with ⟨e,_⟩|⟨b,off,c,e,_⟩;{exact ⟨_,_,_,e⟩};{exact ⟨_,_,_,e⟩}
theorem iD.far {w w' o r g v es cs} (h:iD w o v es) (B:w.heap[g]? =some (.cells cs 29 (0,0))) (f:Fr (λj=>j=g) w w') (aa:o<=r):iD w' r v es:=by
 rcases h with h|⟨b,off,c,e,J,Q,af,⟨cs',H,u⟩,V⟩;{exact .inl h};{(have E:b≠g:=by{intro e;subst e;rw [u] at B;simp at B});have A:=f.aB u E;refine .inr ⟨b,off,c,e,J,AP Q aa,lt_of_block A,⟨cs',H,A⟩,λj x ad=> ?_⟩;exact λi ae ab=>f.cell_of (V j x ad i ae ab) E}
def qU (S:St) (r:aH):Int×aW×St:=
 if (listOf S.T r.path).1=0 then (0,⟨0,0,0,0,0,false,(listOf S.T r.path).2, []⟩,S) else ((listOf S.T r.path).1,bT,S)
theorem aD4 (r K n L S o an ag w) (h:aV w r K L S n) (ok:aG S) (u:aF w r) (av:o.path.length<=1000000):
  Calls prog 106 #[Y L.s,.agg (o.cells an ag)] w (bH w r K L n (qU S o)):=by
 obtain ⟨au,aw,am,ad,ab⟩:=begun h ok u o an ag;have ao:=lH au;have ae:Hid (∀w',Fr No (dG w o an ag) w'->Calls prog 41 #[Y L.tr,(ba o.path)] w' (yT w' (listOf S.T o.path))):=
  lH (λw' f=>aAA r K L.tr S.T o.path w' av ((ad.no ok ab f).tree) ok.tree (Step.no (C:=λ_=>False) ab f).fresh)
 have ar:Hid ((listOf S.T o.path).1≠0->∀e w',e=.panicked (kH (listOf S.T o.path).1)->Fr No w w'->bH w r K L n (qU S o) e w'):=λV e w' A f=>by
  unfold qU;rw [AA V];exact bH.no h ok u V A f
 have aq:Hid ((listOf S.T o.path).1=0->∀v e w' J,e=.returned (.agg #[Z 0,Z 0,Z 0,Z 0,Z 0,false,v,nS])->Fr No w w'->w.heap.size+1<w'.heap.size->iD w' w' v (listOf S.T o.path).2->Low w v->(∃cs,w'.heap[w.heap.size+1]? =some (.cells cs 29 (0,0)))->Fr (λj=>j=w.heap.size+1) w' J->bH w r K L n (qU S o) e J):=λbh v e w' J A f bk es bl ak g=>by
  unfold qU;rw [AL bh];obtain ⟨cs,ak⟩:=ak;exact bH.yes (C:=λ_=>False) u f (Step.refl (Step.no (C:=λ_=>False) u f).fresh) (λ_ e=>e.elim) X bk g ok (h.no ok u f) A ⟨_,_,rfl,es.far ak g g.size,.inl ⟨rfl,rfl⟩,bl,Low.nil _⟩
 generalize bi:bH w r K L n _=bn at*;clear bi;have az:=lH ad;clear ad ab au h ok u av;unfold yT at ae;generalize listOf S.T o.path=bg at*;obtain ⟨ah,es⟩:=bg;dsimp only at ae ar aq;unfold dG aH.cells bT aW.cells at*;go_enter func106,ntmps106;go_wp2_with fail;generalize (w.alloc _).alloc _=w0 at*;have B1:=lH (lt_of_block am);generalize bj:w.heap.size=Q at*;have bo:w0.cell? (I L.s 9)=some (Y L.tr):=az.o.cell 9;have bp:w0.cell? (I Q 4)=some (.string (ba o.path)):=by rw [aA aw];rfl
 have bc:=lH am;clear aw am;go_region_held3 (λw'=>w'.cell? (I L.s 9)=some (Y L.tr)/\w'.cell? (I Q 4)=some (.string (ba o.path))) (first|go_keep|(go_split_ands;refine ⟨?_,?_⟩<;>exact aj.cell_of (by assumption) id))
  ((go_at_call 41;refine (ae.o _ (Fr.refl _).drew).mono ?_;rintro e br ⟨v,rfl,aj,ai,ax⟩;obtain ⟨B,H,E,rfl⟩:=ai.shape))
 have aa:=lH ((Fr.refl w0).drew.trans aj zq);have ap:=lH (ao.o.trans aa zq);have bf:=lH (AP B1 aa.o.size);have ay:=lH ai;have be:=lH (show Low Q (.slice B H E) from ax.le (AV (by rw [<-bj];exact ao.o.size) (Fr.refl (S:=No) w0).drew.size));clear aj ai ax;cases al:(ah==0) with
 | false=>
  have V:ah≠0:=by simpa using al
  go_wp2_with fail;refine cr (gQ _ _) ?_;rintro bt rfl;go_wp2_with fail;exact ⟨rfl,ar V _ _ rfl ap⟩
 | true=>
  obtain rfl:ah=0:=by simpa using al
  have af:=lH (aa.o.aB bc id);have bb:=lH (λe J A g=>aq.o rfl _ e _ J A ap bf ay be ⟨_,af⟩ g);clear al;have bq:∀w':World,(Instr.build 29 #[(6,.slice B H E)]).run prog w'=.ok (.agg #[Z 0,Z 0,Z 0,Z 0,Z 0,false,.slice B H E,nS]) w':=λw'=>by kernel_rfl
  have bm:=lH (show (#[Z 0,Z 0,Z 0,Z 0,Z 0,false,.slice B H E,nS]:Array Value).all (·.oneCell')=true from by simp [Value.oneCell']);go_wp2_with fail;refine cq (iR _ _) ?_;go_wp2_with (refine wS 29 af ?_);have bd:=aX (cs':= #[Z 0,Z 0,Z 0,Z 0,Z 0,false,.slice B H E,nS]) af.o;exact AZ (v:=.agg _) (BD rfl _ _ (Q+1) 29 _ (0,0) _ rfl bd underlying29 rfl Tryz.size29) rfl
   (bb.o _ _ rfl fR)
def mQ:cO:=⟨0, []⟩
def aT (F:Nat->Option cO) (i:Nat) (x:Option cO):Nat->Option cO:=λj=>if j=i then x else F j
def wU (w:World):World:=w.alloc (.cells #[true,Z 0,nS] 162)
theorem lK.make {w o K r n F} (h:lK w o K r n F) (aa:aF w o) (i:Nat) (ak:i<=1000000) (al:n<4611686018427387904):
  ∃w',(Instr.mapUpdate 128 (.map (some r)) (Z i) (Y w)).run prog (wU w)=.ok () w'/\Fr (λk=>k=r) (wU w) w'/\
   Step (λc=>c=K+6) w o w' (fV o w (K+3000+i))/\lK w' (fV o w (K+3000+i)) K r (n+1) (aT F i (some mQ)):=by
 obtain ⟨V,fp,c,aj,ad,ab⟩:=h;have f:Fr No w (wU w):=(Fr.refl w).alloc _;(have am:(wU w).heap.size=w.heap.size+1:=by unfold wU;simp);have ai:(wU w).heap[w.heap.size]? =some (.cells #[true,Z 0,nS] 162 (0,0)):=aQ w _;have J:Step (λ_=>False) w o (wU w) (fV o w (K+3000+i)):=⟨f.mono (λ_ _ e=>e.elim),λk B=>dR _ _ X,λk B=>by rw [dR _ _ X];exact aa k X⟩;obtain ⟨ae,E⟩:=ad.step J id;obtain ⟨w',ah,af,g⟩:=ae.put (i:Int) w (show I64 _ by unfold I64;omega) trivial X (t:=128) (e:=63) underlying128;(have ag:w.heap.size≠r:=by{intro e;rw [<-e,lY] at E;rw [e] at E;omega});have s:Step (λc=>c=K+6) w o w' (fV o w (K+3000+i)):=⟨(f.aY).trans g (λj _ e=>by rw [e];exact V),J.old,λk B=>J.fresh k (AV g.size B)⟩;refine ⟨w',ah,g,s,E.trans V,λj=>if j=i then w.heap.size else fp j,if (kR F fp i).isSome then c else c+1,by split<;>omega,?_,λj m u=> ?_⟩;{(have e:(λz:Int=>if z=(i:Int) then some w.heap.size else kR F fp z)=kR (aT F i (some mQ)) (λj=>if j=i then w.heap.size else fp j):=by{funext z;unfold kR aT;by_cases H:z=i;{subst H;simp};{by_cases Q:0<=z;{(have:z.toNat≠i:=X);simp [H,Q,this]};{simp [H,Q]}}});rw [<-e];exact af};{unfold aT at u;by_cases A:j=i;{rw [AL A] at u;cases u;dsimp only;rw [AL A,A];exact ⟨lY _ _ _,_,g.aB ai ag,.inl ⟨rfl,rfl⟩⟩};{rw [AA A] at u;dsimp only;rw [AA A];exact (ab j m u).step s X X}}
theorem aV.Uz {w w':World} {u r:Nat->Nat} {K n o:Nat} {L:jV} {S:St} {F':Nat->Option cO} (h:aV w u K L S n) (A:n<=o) (ok:aG S) (s:Step (λc=>c=K+6) w u w' r) (t:lK w' r K L.fl o F'):aV w' r K L {S with F:=F'} o where
 own:=(s.own h.cs).trans h.own
 cs:=s.block h.cs (by rw [h.own];omega)
 win:=h.win.step s X X
 tree:=h.tree.step ok.tree s (λc e=>by unfold dM at e;omega)
 tok:=h.tok.step s X X
 files:=t
 uses:=(h.more A).uses.step s X
theorem aCq:eQ mQ:=⟨BA _,by simp [mQ,dA]⟩
theorem aG.uK {S} (ok:aG S) {i} (r:1<=i/\i<=128) {m} (u:eQ m):aG {S with F:=aT S.F i (some m)}:=⟨ok.tree,λj x o=>by
 unfold aT at o;dsimp only at o;split at o
 ·rename_i e
  subst e;cases o;exact ⟨r.1,r.2,u⟩
 ·exact ok.file j x o⟩
theorem jJ.left_eq {K A:Type} {u:Enc K A} {w b r c m left} {o:Nat} (h:jJ u w b r c m left o):w.rangeLeft b r=o:=by
 obtain ⟨D,E,B,_⟩:=h;exact B.left_eq
theorem aV.X9 {w w':World} {A r:Nat->Nat} {K n o:Nat} {L:jV} {S:St} {u:Stp->Option Us} (h:aV w A K L S n) (B:n<=o) (ok:aG S) (s:Step (λc=>c=K+7) w A w' r) (t:wK w' r K L.us o u):aV w' r K L {S with U:=u} o where
 own:=(s.own h.cs).trans h.own
 cs:=s.block h.cs (by rw [h.own];omega)
 win:=h.win.step s X X
 tree:=h.tree.step ok.tree s (λc e=>by unfold dM at e;omega)
 tok:=h.tok.step s X X
 files:=(h.more B).files.step ok.file s X (λi E c e=>by unfold fJ at e;omega)
 uses:=t
def zB (w:World) (o:Nat->Nat) (K:Nat) (L:jV) (S:St) (n:Nat) (e:Ending) (w':World):Prop:=
 e=.returned (.tuple #[])/\∃o',Step (λc=>c=K+7) w o w' o'/\aV w' o' K L {S with U:=gV S.F S.U} n
def oQ (w:World) (lb c:Nat) (g:Stp->Int):Prop:=∃m c',c'<=c/\MapAt vK w lb c' m/\∀x,(m x).getD 0=g x
theorem oQ.fr {S w w' o c g} (h:oQ w o c g) (f:Fr S w w') (B:¬S o):oQ w' o c g:=by
 obtain ⟨m,r,E,u,A⟩:=h;exact ⟨m,r,E,u.fr f B,A⟩
theorem oQ.look {w r c g} (h:oQ w r c g) (x) (B:jM x):(Instr.lookup 192 (.map (some r)) (kS x) false).run prog w=.ok (Z (g x)) w:=by
 obtain ⟨m,E,H,u,A⟩:=h;have:=u.look x B (t:=192) (e:=3) underlying192 (z:=Z 0) N false;rw [<-A x];(cases o:m x with|none=>rw [o] at this;exact this|some y=>rw [o] at this;exact this)
theorem oQ.entry {w r c g} (h:oQ w r c g) (x) (ab:jM x) (ad:c<4611686018427387904):
  ∃A o,(Instr.mapEntry 192 (.map (some r)) (kS x)).run prog w=.ok (.tuple #[Z (g x),goInt A]) o/\(Instr.mapEntry 192 (.map (some r)) (kS x)).run prog o=.ok (.tuple #[Z (g x),goInt A]) o/\Fr (· =r) w o/\oQ o r (c+1) g/\
   ∀y:Int,∃B,(Instr.entryStore 192 (.map (some r)) (goInt A) (Z y)).run prog o=.ok () B/\Fr (· =r) o B/\oQ B r (c+1) (λz=>if z=x then y else g z):=by
 obtain ⟨m,H,ae,Q,E⟩:=h;obtain ⟨A,o,u⟩:=Q.entry x ab X (t:=192) (e:=3) underlying192 (z0:=0) trivial (λaf=>by kernel_rfl);(have J:(if (m x).isSome then H else H+1)<=c+1:=by split<;>omega);rw [E x] at u;refine ⟨A,o,u.run,u.again,u.fr,⟨_,_,J,u.map1,λz=> ?_⟩,λy=> ?_⟩;{by_cases e:z=x;{rw [AL e,e];rfl};{rw [AA e];exact E z}};{obtain ⟨B,aa,V,f,_⟩:=u.store y trivial;refine ⟨B,aa,f,_,_,J,V,λz=> ?_⟩;by_cases e:z=x;{show _=if z=x then y else g z;rw [AL e,AL e];rfl};{show _=if z=x then y else g z;rw [AA e,AA e];exact E z}}
structure vZ (o:Nat->Nat) (K:Nat) (L:jV) (F:Nat->Option cO) (fp:Nat->Nat) (w wr:World) (lb rb c:Nat) (left:Int->Bool) (cnt cf:Nat) (g:Stp->Int):Prop where
 fr:Fr No w wr
 live:oQ wr lb c g
 rng:jJ encI wr L.fl rb cf (kR F fp) left cnt
theorem vZ.step {A K L F fp w wr w' u B c r o left g} (h:vZ A K L F fp w wr u B c left r o g) (f:Fr No wr w'):vZ A K L F fp w w' u B c left r o g:=
 ⟨h.fr.trans f zq,h.live.fr f id,h.rng.fr f id id⟩
theorem qX.fr {S w w' base v L} (h:qX w base v L) (f:Fr S w w') (r:∀j,base<=j->¬S j):qX w' base v L:=by
 rcases h with h|⟨b,cap,e,u,o,A⟩;{exact .inl h};{exact .inr ⟨b,cap,e,u,o,A.fr f (r b o)⟩}
theorem aC3 {ops rest o a w w' r} (u:o.guard=none) (t m s x) (A:o.op=.entryStore t m s x) (B:(Instr.entryStore t (a.eval m) (a.eval s) (a.eval x)).run prog w=.ok () w') (h:wpList prog ops r rest (a.put o.dst undef) w'):wpList prog ops r (o::rest) a w:=
 wpList_plain u λK hK=>by
  unfold Oper.wp execOp;simp only [A,Sem.run_bind,B,Result.andThen_ok,Sem.run_pure,Oper.upon,Sem.run_map];exact hK _ _ h
structure Su (L:jV) (F:Nat->Option cO) (U:Stp->Option Us) (w wr:World) (lb rb c cl cu:Nat) (left:Stp->Bool) (cnt:Nat):Prop where
 fr:Fr (· =L.us) w wr
 live:oQ wr lb cl (iH F)
 le:c<=cu
 rng:∃m,jJ xY wr L.us rb c m left cnt/\∀z,m z=if left z=true then iI U z else iI (gV F U) z
theorem Ja (E K n L S w) (h:aV w E K L S n) (ok:aG S) (de:jU S.F) (ep:aF w E) (ht:n<=1000000):
  Calls prog 117 #[Y L.s] w (zB w E K L S n):=by
 (have dd:prog.follows .mixedOrders=true:=N);have ad:=lH h;have gf:=lH ok;have fw:=lH ep;have gg:=lH de;have gl:=lH de.short;obtain ⟨am,fp,aa,el,bl,eq⟩:=h.files;have ij:=lH bl;have fx:=lH eq;have bf:Hid (∀i m,S.F i=some m->eQ m):=λi m af=>(ok.file i m af).2.2;have ga:Hid (∀i m,S.F i=some m->1<=i/\i<=128):=λi m af=>⟨(ok.file i m af).1,(ok.file i m af).2.1⟩;have bj:Fr No w (w.alloc (.map #[] 0)):=(Fr.refl w).alloc _;obtain ⟨dh,bb,ee,ch,ez⟩:=(bl.fr bj id).range (t:=128) (e:=63) underlying128;have ix:L.fl<w.heap.size:=bl.lt;(have hu:L.fl≠w.heap.size:=X);have di:Fr No w dh:=bj.trans ch zq;have bq:(w.alloc (.map #[] 0)).heap.size=w.heap.size+1:=D
 have fz:Hid (vZ E K L S.F fp w dh w (w.heap.size+1) 0 (λx=>(kR S.F fp x).isSome) aa aa (jT S.F (λx=>(kR S.F fp x).isSome))):=lH ⟨di,by
  refine oQ.fr (w:=w.alloc (.map #[] 0)) ⟨_,0,AU _,MapAt.made vK w,λx=> ?_⟩ ch id;rw [aDc (λi m af=>by unfold kR;rw [AL X,GH,af];rfl)];rfl,by rw [<-bq];exact ee⟩
 have gj:Hid (∀e w' bw,e=.returned (.tuple #[])->Step (λc=>c=K+7) w E w' bw->aV w' bw K L {S with U:=gV S.F S.U} n->zB w E K L S n e w'):=λe w' bw hn s t=>⟨hn,bw,s,t⟩;generalize hj:zB w E K L S n=il at*;clear hj;have hc:(w.alloc (.map #[] 0)).cell? (I L.s 11)=some (.map (some L.fl)):=bj.cell_of (h.cell 11) id;rw [bq] at bb;(have jd:dh.heap.size=w.heap.size+2:=by rw [ez,bq]);have hl:aa<=1000000:=AV el ht;clear h ok de ep am el bl eq bj ee ch ez bq di;(have ev:(Instr.makeMap 192 none).run prog w=.ok (.map (some w)) (w.alloc (.map #[] 0)):=N);go_enter func117,ntmps117;go_wp2_with fail;generalize hq:w.heap.size=r at*;go_loopw [] (λwr=>∃(left:Int->Bool) (ak c:Nat),Hid (vZ E K L S.F fp w wr r (r+1) c left ak aa (jT S.F left))/\c+64*ak<=64*aa) (λwr=>wr.rangeLeft L.fl (r+1));case atStart=>exact ⟨_,_,_,fz,by omega⟩
 case round=>
  obtain ⟨left,ak,c,J,hk⟩:=hrel;rcases J.o.rng.next 0 with ⟨_,az,ah⟩|⟨x,y,ai,al,B,ax,ah,bc,bm,ci,hw,aw⟩
  ·have gd:Hid (oQ wr r c (iH S.F)):=lH (by
    have e:iH S.F=jT S.F left:=by{funext z;exact (aDH (λi af=>az (i:Int) (by show I64 _;unfold I64;omega)) z).symm}
    rw [e];exact J.o.live)
   obtain ⟨aj,bu⟩:∃aj:World,aj=wr:=⟨_,rfl⟩;have am:Fr No w aj:=bu▸J.o.fr;obtain ⟨fc,bi,em,br⟩:=ad.o.uses;obtain ⟨ih,ja,ef,ae,hx⟩:=(br.fr am id).range (t:=129) (e:=80) underlying129;have jf:L.us<w.heap.size:=br.lt;have im:wr.cell? (I L.s 12)=some (.map (some L.us)):=J.o.fr.cell_of (ad.o.cell 12) id;have je:r<=aj.heap.size:=hq▸am.size;have iv:r<aj.heap.size:=(by rw [bu];have:=J.o.rng.lt;omega)
   have hb:Hid (Su L S.F S.U w ih r aj bi c bi (λx=>(iI S.U x).isSome) bi):=lH ⟨(am.trans ae zq).aY,(bu▸gd.o).fr ae id,AU _,_,ef,λz=>by
    cases ab:iI S.U z with
    | some y=>rfl
    | none=>
     have:S.U z=none:=by{unfold iI at ab;(cases h:S.U z with|none=>rfl|some o=>rw [h] at ab;cases ab)}
     simp [iI,gV,this]⟩
   have bh:=lH fc;have gp:=lH br;have dj:=lH em;subst bu;clear fc em br az J hk ef ae hx bb ev am;go_wp2_with fail;generalize jc:aj.heap.size=ao at*;go_loopw [] (λwr=>∃(left:Stp->Bool) (ak cf:Nat),Hid (Su L S.F S.U w wr r ao cf c bi left ak)) (λwr=>wr.rangeLeft L.us ao);case atStart=>exact ⟨_,_,_,hb⟩
   case round=>
    obtain ⟨da,he,c2,Q⟩:=hrel;obtain ⟨fj,an,ay⟩:=Q.o.rng;rcases an.next 0 with ⟨_,az,ah⟩|⟨x,y,A,al,B,ax,ah,bc,bm,cj,hy,aw⟩
    ·have dt:=lH (show Step (λc=>c=K+7) w E wr E from ⟨Q.o.fr.mono (λj _ e=>by rw [e];exact bh.o),λ_ _=>rfl,λk cp=>fw.o k (AV Q.o.fr.size cp)⟩);have fu:Hid (aV wr E K L {S with U:=gV S.F S.U} n):=ad.o.X9 (AU _) gf dt ⟨bh,c2,AV Q.o.le dj,by
      have e:fj=iI (gV S.F S.U):=by{funext z;rw [ay z];by_cases ct:da z=true;{rw [AL ct];(cases ab:iI S.U z with|some y=>have:=az z (gp.o.good ab).1;rw [ct] at this;cases this|none=>(have:S.U z=none:=by{unfold iI at ab;(cases h:S.U z with|none=>rfl|some o=>rw [h] at ab;cases ab)});simp [iI,gV,this])};{rw [AA ct]}}
      rw [<-e];exact an.map⟩
     clear an ay az;go_wp2_with fail;exact IG (v:=.tuple #[]) (by simp [results,results117,go_sem]) rfl (gj.o _ _ _ rfl dt fu)
    ·(obtain ⟨o,hz,rfl⟩:∃o,S.U x=some o/\y=(x,o):=by{rw [ay x,AL ax] at B;unfold iI at B;(cases h:S.U x with|none=>rw [h] at B;cases B|some o=>rw [h] at B;cases B;exact ⟨o,rfl,rfl⟩)});have co:jM x:=(an.map.good B).1;have gk:=lH bc;have cc:=Q.o.live.fr cj (show ¬r=ao by omega);obtain ⟨v,bt⟩:∃v,iH S.F x=v:=⟨_,rfl⟩
     have ik:=lH bt;have dx:Hid (∀W,Fr No A W->(Instr.lookup 192 (.map (some r)) (kS x) false).run prog W=.ok (Z v) W):=λW f=>by
      rw [<-bt];exact (cc.fr f id).look x co
     have ej:Fr No A ((A.alloc (.cells (cS x) 46)).alloc (.cells #[x.1,x.2.1,x.2.2,o.1,o.2.1,o.2.2] 80)):=((Fr.refl _).alloc _).alloc _;have ic:=dx.o _ ej;have gx:Hid (((A.alloc (.cells (cS x) 46)).alloc (.cells #[x.1,x.2.1,x.2.2,o.1,o.2.1,o.2.2] 80)).rangeAt A 0 (cS x)):=DR (((Fr.refl (S:=No) _).alloc _).aB (aQ A _) id) 0 3;have cb:=lH (Q.o.fr.trans cj (λj er e=>by omega));have hv:(Instr.next (Y ao) false 0).run prog wr=.ok (.tuple #[true,.agg (cS x),.agg #[x.1,x.2.1,x.2.2,o.1,o.2.1,o.2.2]]) A:=ah;have ho:(Instr.entry (Y ao)).run prog A=.ok (.tuple #[.agg (cS x),.agg #[x.1,x.2.1,x.2.2,o.1,o.2.1,o.2.2]]) A:=aw;have dm:=lH bm;have dl:Hid (wr.rangeLeft L.us ao=he):=an.left_eq;have dp:=lH ay;have ge:Hid ((fj x).isSome=true):=lH (by rw [B];rfl);have du:Hid (gV S.F S.U x=if v=0 then none else some (o.1,v,o.2.2)):=lH (by unfold gV;rw [hz];dsimp only;rw [bt]);have gv:=lH cc;unfold kS at ic dx;clear ah aw bc an cj hy B ax bm ay bt cc ej;go_wp2_with (refine EW R 46 _ R A 0 R (cS x) _ gx underlying46 rfl Tryz.qR ?_);have ek:Fr No A ((A.alloc (.cells (cS x) 46)).alloc (.cells #[x.1,x.2.1,x.2.2,o.1,v,o.2.2] 80)):=((Fr.refl _).alloc _).alloc _;have fg:((A.alloc (.cells (cS x) 46)).alloc (.cells #[x.1,x.2.1,x.2.2,o.1,v,o.2.2] 80)).heap[A.heap.size]? =some (.cells (cS x) 46 (0,0)):=((Fr.refl (S:=No) _).alloc _).aB (aQ A _) id;(have fi:((A.alloc (.cells (cS x) 46)).alloc (.cells #[x.1,x.2.1,x.2.2,o.1,v,o.2.2] 80)).heap[A.heap.size+1]? =some (.cells #[x.1,x.2.1,x.2.2,o.1,v,o.2.2] 80 (0,0)):=by{have:=aQ (A.alloc (.cells (cS x) 46)) (.cells #[x.1,x.2.1,x.2.2,o.1,v,o.2.2] 80);simpa using this});generalize (A.alloc (.cells (cS x) 46)).alloc (.cells #[x.1,x.2.1,x.2.2,o.1,v,o.2.2] 80)=V at*;have au:Fr No A V.drew:=ek.trans (Fr.refl _).drew zq;have jg:L.us<A.heap.size:=(by have:=cb.o.size;omega)
     obtain ⟨H,ew,eb,ar⟩:=(gk.o.fr au id id).aEc x (x,(o.1,v,o.2.2)) co ge trivial (by have:=Q.o.le;have:=dj.o;omega) (t:=129) (e:=80) underlying129 (zv:=.agg #[Z 0,Z 0,Z 0,Z 0,Z 0,Z 0]) N;have ex:(Instr.mapUpdate 129 (.map (some L.us)) (.agg (cS x)) (.agg #[x.1,x.2.1,x.2.2,o.1,v,o.2.2])).run prog V.drew=.ok () H:=ew;have gi:=lH ex;have bz:Hid (Fr (· =L.us) w H):=cb.o.trans (au.aY.trans ar zq) zq;have eg:V.drew.cell? (I L.s 12)=some (.map (some L.us)):=by
      have hh:=cb.o.cell_of (ad.o.cell 12) (show ¬L.s=L.us from λe=>by
       have a:=ad.o.own;rw [e,bh.o] at a;omega)
      exact au.cell_of hh id
     have dw:Hid (oQ H r c (iH S.F)):=(gv.o.fr au id).fr ar (show ¬r=L.us by omega);have cy:=(Fr.refl (S:=No) V).drew.aB fg id;have cz:=(Fr.refl (S:=No) V).drew.aB fi id;have gy:Hid (V.drew.rangeAt A 0 (cS x)):=DR cy 0 3;have ha:Hid (V.drew.rangeAt (A.heap.size+1) 0 [x.1,x.2.1,x.2.2,o.1,v,o.2.2]):=DR cz 0 6;have ib:=ar.aB cy X;have ip:H.cell? (I (A.heap.size+1) 4)=some (Z v):=(by rw [aA (ar.aB cz X)];rfl)
     have ce:=lH eb;have fl:=lH eg;clear ek fg fi au ew ex ar eb eg cy cz;refine qC dd (λW=>W=V.drew) [6] N N N N (λ_ _ d _ _ h=>by cases d<;>exact h) rfl ?_;repeat (first
      | refine lJ R ?_
      | (refine kW (v:= ?_) R R ?_ ?_
         rotate_left 1;(intro W;go_simp;(try with_reducible rfl))
         simp only [Act.put,lsA,aI,lsS])
      | (refine kE (v:=.agg (cS x)) R N R (λW u=>l7 46 (.tmp 7) R A 0 R (cS x) _ (by rw [u];exact gy.o) underlying46 rfl Tryz.qR) ?_
         simp only [Act.put,lsA,aI,lsS])
      | (refine kE (v:=.agg #[x.1,x.2.1,x.2.2,o.1,v,o.2.2]) R N R (λW u=>l7 80 (.tmp 8) R (A.heap.size+1) 0 R [x.1,x.2.1,x.2.2,o.1,v,o.2.2] _ (by rw [u];exact ha.o) underlying80 rfl Tryz.Gf) ?_
         simp only [Act.put,lsA,aI,lsS])
      | (refine kE (v:= ?_) R N R ?_ ?_
         rotate_left 1;(intro W u;have eh:W.cell? (I L.s 12)=some (.map (some L.us)):=(by rw [u];exact fl.o);clear u;go_simp;(try with_reducible rfl))
         simp only [Act.put,lsA,aI,lsS]))
     intro W u;obtain rfl:W=V.drew:=u;simp only [DF,DT,DK,CP];have iz:=gi.o;cases fd:(v==0) with
     | false=>
      have ia:v≠0:=(by simpa using fd);go_wp2_with fail;refine ⟨⟨λz=>da z&&decide (z≠x),al,c2,lH ⟨bz,dw,Q.o.le,_,ce,λz=> ?_⟩⟩,?_⟩;{by_cases e:z=x;{subst e;simp only [ne_eq,not_true_eq_false,decide_false,Bool.and_false,IK,DC,FP];unfold iI;rw [du.o,AA ia];rfl};{simp only [e,FP,ne_eq,not_false_eq_true,decide_true,Bool.and_true];exact dp.o z}};{rw [ce.o.left_eq,dl.o];exact dm.o}
     | true=>
      obtain rfl:v=0:=(by simpa using fd)
      obtain ⟨dg,hf,en,ec,et,cg⟩:=(ce.o.fr (Fr.refl (S:=No) H).drew id id).aGB x co (t:=129) (e:=80) underlying129 0;have eo:(Builtin.delete_ #[129,46] 0 #[.map (some L.us),.agg (cS x)]).run prog H.drew=.ok (.tuple #[]) dg:=en;have ft:=lH eo;have fh:=(Fr.refl (S:=No) H).drew.aB ib id;have gz:Hid (H.drew.rangeAt A 0 (cS x)):=DR fh 0 3;have fo:Hid (H.drew.cell? (I L.s 12)=some (.map (some L.us))):=(Fr.refl (S:=No) H).drew.cell_of (bz.o.cell_of (ad.o.cell 12) (show ¬L.s=L.us from λe=>by
       have a:=ad.o.own;rw [e,bh.o] at a;omega)) id
      have fq:Hid (Fr (· =L.us) w dg):=bz.o.trans ((Fr.refl (S:=No) H).drew.aY.trans cg zq) zq;have gu:Hid (oQ dg r c (iH S.F)):=(dw.o.fr (Fr.refl (S:=No) H).drew id).fr cg (show ¬r=L.us by omega);have ed:=lH ec;have gc:=lH et;clear en eo ec et cg fh;go_wp2_with fail;refine qC dd (λW=>W=H.drew) [5] N N N N (λ_ _ d _ _ h=>by cases d<;>exact h) rfl ?_;repeat (first
       | refine lJ R ?_
       | (refine kW (v:= ?_) R R ?_ ?_
          rotate_left 1;(intro W;go_simp;(try with_reducible rfl))
          simp only [Act.put,lsA,aI,lsS])
       | (refine kE (v:=.agg (cS x)) R N R (λW u=>l7 46 (.tmp 7) R A 0 R (cS x) _ (by rw [u];exact gz.o) underlying46 rfl Tryz.qR) ?_
          simp only [Act.put,lsA,aI,lsS])
       | (refine kE (v:= ?_) R N R ?_ ?_
          rotate_left 1;(intro W u;have eh:W.cell? (I L.s 12)=some (.map (some L.us)):=(by rw [u];exact fo.o);clear u;go_simp;(try with_reducible rfl))
          simp only [Act.put,lsA,aI,lsS]))
      intro W u;obtain rfl:W=H.drew:=u;simp only [DF,DT,DK,CP];have ir:=ft.o;go_wp2_with fail;refine ⟨⟨λz=>(da z&&decide (z≠x))&&decide (z≠x),hf,_,lH ⟨fq,gu,?_,_,ed,λz=> ?_⟩⟩,?_⟩;{(have hr:∀b:Bool,(if b=true then c2 - 1 else c2)<=c2:=λb=>by cases b<;>simp);exact AV (hr _) Q.o.le};{by_cases e:z=x;{subst e;simp only [ne_eq,not_true_eq_false,decide_false,Bool.and_false,IK,DC,FP];unfold iI;rw [du.o];rfl};{simp only [e,FP,ne_eq,not_false_eq_true,decide_true,Bool.and_true];exact dp.o z}};{rw [ed.o.left_eq,dl.o];have:=dm.o;have:=gc.o;omega}
  ·(obtain ⟨i,m,ag,rfl,rfl⟩:∃(i:Nat) (m:cO),S.F i=some m/\x=(i:Int)/\y=fp i:=by{unfold kR at B;split at B;{(cases cl:S.F x.toNat with|none=>rw [cl] at B;cases B|some m=>rw [cl] at B;cases B;exact ⟨x.toNat,m,cl,by omega,rfl⟩)};{cases B}});have it:=ga.o i m ag;have ca:Fr No w ai:=J.o.fr.trans ci (λj er e=>by omega);have dv:Hid (vZ E K L S.F fp w ai r (r+1) c (λz=>left z&&decide (z≠(i:Int))) al aa (jT S.F left)):=lH ⟨ca,J.o.live.fr ci X,bc⟩;have gh:=lH (aCB (fp i) m ai ((fx.o i m ag).reads.fr ca) (by have:=(bf.o i m ag).2;have:=(bf.o i m ag).1;unfold dA at*;omega));obtain ⟨ck,cm⟩:∃ck,jT S.F (λz=>left z&&decide (z≠(i:Int)))=ck:=⟨_,rfl⟩;have fy:=lH cm;have gb:Hid (∀x,ck x=jT S.F left x+dX (ptrs m) x):=λx=>by rw [<-cm];exact aCo ag X ax x
   have fs:Hid (∀x,0<=jT S.F left x/\jT S.F left x<=528384):=λx=>Kv gl bf left x;have bg:Hid ((ptrs m).length<=64):=Ov (bf.o i m ag);have dr:Hid (∀p∈ptrs m,dU p):=λp cu=>gg.o i m ag p (GY.1 cu).1;have hv:(Instr.next (Y (r+1)) false 0).run prog wr=.ok (.tuple #[true,i,Y (fp i)]) ai:=ah;have ho:(Instr.entry (Y (r+1))).run prog ai=.ok (.tuple #[i,Y (fp i)]) ai:=aw;have hi:Hid (wr.rangeLeft L.fl (r+1)=ak):=J.o.rng.left_eq;clear ah aw bc ci hw B ax ev bb hc ca cm;generalize ptrs m=P at*;generalize jT S.F left=g at*;go_wp2_with fail;refine gh.o.mono ?_;rintro e ig ⟨v,rfl,pn,ei⟩;obtain ⟨base,cap,rfl⟩:=pn.val.slice;have gt:=lH (dv.o.step ei);have cd:=lH pn;have iu:r+1<ai.heap.size:=dv.o.rng.lt;have cd:Hid (qX ig (r+1) (.slice base P.length cap) P):=lH (by
    rcases cd.o with h|⟨b,cf,e,bo,iq,bb⟩;{exact .inl h}
    ·exact .inr ⟨b,cf,e,bo,by omega,bb⟩)
   clear pn ei;go_wp2_with fail;go_loopw [22] (λa wr=>∃j:Nat,a=Z j/\j<=P.length/\Hid (vZ E K L S.F fp w wr r (r+1) (c+j) (λz=>left z&&decide (z≠(i:Int))) al aa (λx=>g x+dX (P.take j) x))/\Hid (qX wr (r+1) (.slice base P.length cap) P)) (λa _=>P.length - (intOf a).toNat);(case atStart=>refine ⟨0,rfl,BA _,lH ?_,cd⟩;(have e:(λx=>g x+dX (P.take 0) x)=g:=by{funext x;simp [dX]});rw [e];exact gt.o)
   case round=>
    obtain ⟨j,rfl,er,ap,dq⟩:=hrel;by_cases bn:j<P.length
    ·obtain ⟨b,rfl,bo,cv⟩:=dq.o.val.row X;have ds:=lH (cv.row j P[j] (AC bn));have iw:=cv.len;have iy:cap<=9223372036854775807:=bo;have ie:(j:Int)<(P.length:Int):=X;have jj:(j:Int)<(cap:Int):=X;have jk:(0:Int)<=(j:Int):=X
     have gn:Hid (∀z,g z+dX (P.take (j+1)) z=g z+dX (P.take j) z+if gJ P[j]=z then P[j].z else 0):=λz=>by
      rw [DJ,AC bn,JP,Uf];omega
     obtain ⟨cn,jh,ji⟩:=rY (dr.o P[j] (BL bn));have ii:=fs.o (gJ P[j]);have dk:=Ht (L:=P.take j) (λp cu=>(rY (dr.o p (FT cu))).2) (gJ P[j]);rw [BV] at dk;have hp:min j P.length=j:=X;rw [hp] at dk;generalize P[j]=x at*;obtain ⟨y,cx⟩:∃y,g (gJ x)+dX (P.take j) (gJ x)=y:=⟨_,rfl⟩;have ae:Fr No wr (wr.alloc (.cells (cP x) 59)):=(Fr.refl wr).alloc _;have fe:=aQ wr (.cells (cP x) 59);have aq:=ap.o.step (ae.trans (Fr.refl _).drew zq);have ea:=dq.o.fr (ae.trans (Fr.refl _).drew zq) zq;(have hm:c+j<4611686018427387904:=by{have:=bg.o;have:=hl;omega});obtain ⟨df,bd,bp,eu,av,dy,fa⟩:=aq.live.entry (gJ x) cn hm;rw [cx] at bp eu;obtain ⟨bx,fb,bk,dz⟩:=fa (y+x.z);have cw:wrap64 (y+x.z)=y+x.z:=by{have:=bg.o;unfold wrap64;omega}
     have db:=aq.live.look (gJ x) cn;have dc:=dy.look (gJ x) cn;rw [cx] at db dc;have gs:Hid (vZ E K L S.F fp w bx r (r+1) (c+(j+1)) (λz=>left z&&decide (z≠(i:Int))) al aa (λz=>g z+dX (P.take (j+1)) z)):=lH ⟨aq.fr.trans (av.trans bk zq) (λk cp e=>by omega),by
      have e:(λz=>g z+dX (P.take (j+1)) z)=(λz=>if z=gJ x then y+x.z else g z+dX (P.take j) z):=by{funext z;rw [gn.o z];by_cases e:z=gJ x;{subst e;rw [AL rfl,AL rfl,cx]};{rw [AA e,AA (λh=>e h.symm)];omega}}
      rw [e];exact dz,aq.rng.fr (av.trans bk zq) hu X⟩
     have gw:Hid (qX bx (r+1) (O b P.length cap) P):=ea.fr (av.trans bk zq) (λk cp e=>by omega);have bv:=(Fr.refl (S:=No) _).drew.aB fe id;have hs:wr.heap.size≠r:=(by have:=ap.o.rng.lt;omega)
     have be:Hid (∀(d:Bool) W,(if d=true then W=bd else W=(wr.alloc (.cells (cP x) 59)).drew)->W.rangeAt wr 0 [x.c,x.l,x.n]/\W.cell? (I wr 4)=some (Z x.z)/\(Instr.lookup 192 (.map (some r)) (kS (gJ x)) false).run prog W=.ok (Z y) W):=λd W u=>by
      (cases d with|true=>obtain rfl:W=bd:=u;have ff:=av.aB bv hs;exact ⟨DR ff 0 3,by rw [aA ff];rfl,dc⟩|false=>obtain rfl:W=_:=u;exact ⟨DR bv 0 3,by rw [aA bv];rfl,db⟩)
     have dn:=lH bp;have gm:=lH fb;have gr:=lH cw;have gq:Hid (IntKind.i64.wrap (y+x.z)=y+x.z):=lH (by rw [BG];have:=bg.o;omega);unfold bY at ds;unfold kS gJ at be dn;clear cv bo ae aq ea fa bp eu av dy fb bk dz db dc bv fe ap cw;go_wp2_with (refine EW R 59 _ R b (j*5) R (cP x) _ ds underlying59 rfl Tryz.qQ ?_);generalize wr.alloc (.cells (cP x) 59)=fk at*;generalize wr.heap.size=hg at*;refine Ue dd (λd W=>if d=true then W=bd else W=fk.drew) 7 [7,8,9] [9] N N N N (λ_ _ d _ _ h=>by cases d<;>exact h) rfl ?_;repeat (first
      | refine V5 R ?_
      | (refine O7 (v:= ?_) R R ?_ ?_
         rotate_left 1;(intro W;have cw:=gr.o;go_simp;(try with_reducible rfl))
         simp only [Act.put,lsA,aI,lsS])
      | (refine H8 (v:=.agg #[x.c,x.l,x.n]) R N R (λd W u=>l7 46 (.tmp 27) R hg 0 R [x.c,x.l,x.n] _ (be.o d W u).1 underlying46 rfl Tryz.qR) ?_
         simp only [Act.put,lsA,aI,lsS])
      | (refine H8 (v:= ?_) R N R ?_ ?_
         rotate_left 1;(intro d W u;have eh:=(be.o d W u).2.1;have io:=(be.o d W u).2.2;go_simp;(try with_reducible rfl))
         simp only [Act.put,lsA,aI,lsS]))
     unfold nT;refine J5 (v:=.tuple #[y,goInt df]) R R R (λW u=>⟨bd,by obtain rfl:W=fk.drew:=u;have bp:=dn.o;go_simp,rfl⟩) ?_;simp only [Act.put,lsA,aI,lsS];refine J5 (v:=goInt df) R R R (λW u=>⟨W,by go_simp,u⟩) ?_;simp only [Act.put,lsA,aI,lsS];refine Tj R R ?_;intro W u;obtain rfl:W=bd:=u;simp only [DZ,FU,GG,ED,EQ,List.getElem_toArray,List.getElem_cons_succ,List.getElem_cons_zero,Act.put,lsA,aI,lsS];refine aC3 rfl 192 (.tmp 26) (.tmp 34) (.tmp 32) rfl (w':=bx) (by show (Instr.entryStore 192 (.map (some r)) (Z df) (Z (IntKind.i64.wrap (y+x.z)))).run prog W=.ok () bx;rw [show IntKind.i64.wrap (y+x.z)=y+x.z from gq.o];exact gm.o) ?_;go_wp2_with fail;refine ⟨⟨j+1,by go_num,bn,gs,gw⟩,?_⟩;simp [intOf];omega
    {(obtain rfl:j=P.length:=by omega);have ie:¬(P.length:Int)<(P.length:Int):=X;go_wp2_with fail;refine ⟨⟨λz=>left z&&decide (z≠(i:Int)),al,c+P.length,lH ?_,?_⟩,?_⟩;{(have e:(λx=>g x+dX (P.take P.length) x)=jT S.F (λz=>left z&&decide (z≠(i:Int))):=by{funext x;rw [fy.o,gb.o x,AY]});have:=ap.o;rw [e] at this;exact this};{have:=bg.o;omega};{rw [ap.o.rng.left_eq,hi.o];exact bm}}
def Tried (w:World) (o:Nat->Nat) (K:Nat) (L:jV) (n:Nat) (x:aW×St) (e:Ending) (w':World):Prop:=
 (∃o',Step (bF K) w o w' o'/\aV w' o' K L x.2 n)/\∃v,e=.returned v/\mV w w' v x.1
def fE (x:Int×aW×St):aW×St:=if x.1=0 then x.2 else (iW x.1 0 0 0 0 false,x.2.2)
theorem mV.other {n w w' r cs V v H} (h:mV n w v H) (E:w.heap[r]? =some (.cells cs 29 V)) (ae:∀(j:Nat) (x:Int),cs[j]? ≠some (.int .u8 x)) (f:Fr (λk=>k=r) w w'):mV n w' v H:=by
 obtain ⟨Q,af,rfl,A,B,ab⟩:=h;refine ⟨Q,af,rfl,?_,?_,ab⟩;{rcases A with A|⟨b,off,c,e,a1,a2,a3,⟨cs',aa,a4⟩,J⟩;{exact .inl A};{(have o:b≠r:=by{intro e;rw [e,E] at a4;simp at a4});exact .inr ⟨b,off,c,e,a1,AP a3 f.size,AP a3 f.size,⟨cs',aa,f.aB a4 o⟩,λj x u i ag ad=>f.cell_of (J j x u i ag ad) o⟩}};{rcases B with B|⟨b,off,c,⟨e,a1,a2,a3⟩,a4⟩;{exact .inl B};{refine .inr ⟨b,off,c,⟨e,a1,AP a2 f.size,λj x u=> ?_⟩,AP a2 f.size⟩;by_cases o:b=r;{have:=a3 j x u;rw [o,aA E] at this;exact absurd this (ae _ _)};{exact f.cell_of (a3 j x u) o}}}
theorem mV.le {n m w v r} (h:mV n w v r) (o:m<=n):mV m w v r:=by
 obtain ⟨u,J,e,A,B,E,H⟩:=h;exact ⟨u,J,e,A,B,E.le o,H.le o⟩
theorem Qr (B:aW) (o r) (u:∀x:Int,o≠ .int .u8 x) (A:∀x:Int,r≠ .int .u8 x) (j:Nat) (x):(B.cells o r)[j]? ≠some (.int .u8 x):=by
 intro h;unfold aW.cells at h;(match j,h with|0,h=>simp at h|1,h=>simp at h|2,h=>simp at h|3,h=>simp at h|4,h=>simp at h|5,h=>simp at h|6,h=>exact u x (U h)|7,h=>exact A x (U h)|(k+8),h=>simp at h)
theorem iD.one {w B v es} (h:iD w B v es):v.oneCell'=true:=by
 rcases h with ⟨rfl,_⟩|⟨_,_,_,rfl,_⟩<;>rfl
theorem iJ.one {w B v es} (h:iJ w B v es):v.oneCell'=true:=by
 rcases h with ⟨rfl,_⟩|⟨_,_,_,⟨rfl,_⟩,_⟩<;>rfl
theorem aW.cells_one {B:aW} {o r} (u:o.oneCell'=true) (A:r.oneCell'=true):(B.cells o r).all (·.oneCell')=true:=by
 have a:∀k x,(Value.int k x).oneCell'=true:=λ_ _=>rfl;have b:∀x,(Value.bool x).oneCell'=true:=λ_=>rfl;simp [aW.cells,u,A,a,b]
theorem rH (fn) (bf:fn=63\/fn=64\/fn=65\/fn=102\/fn=103\/fn=104\/fn=105\/fn=106\/fn=107\/fn=108\/fn=109) (J K n L x Q V A w) (ag:aF w J) (ok:aG x.2.2) (ar:Calls prog fn #[Y L.s,.agg (Q.cells V A)] (dG w Q V A) (bH (dG w Q V A) J K L n x)):
  Calls prog 62 #[Y L.s,.func (Fn.func fn) #[] #[],.agg (Q.cells V A)] w (Tried w J K L n (fE x)):=by
 have bo:∀(fn:Fn) (first cap:Array Value) (w:World),(Instr.makeFunc fn first cap).run prog w=.ok (.func fn first cap) w:=λ_ _ _ _=>rfl;have ad:Fr No w (dG w Q V A):=((Fr.refl w).alloc _).alloc _;have aa:(dG w Q V A).heap[w.heap.size+1]? =some (.cells (bT.cells (nS) (nS)) 29 (0,0)):=by{have:=aQ (w.alloc (.cells (Q.cells V A) 36)) (.cells (bT.cells (nS) (nS)) 29);unfold dG;simpa using this}
 have bc:=lH ar;have bl:=lH ad;have bm:=lH aa;have ai:Hid (∀e u,bH (dG w Q V A) J K L n x e u->u.heap[w.heap.size+1]? =some (.cells (bT.cells (nS) (nS)) 29 (0,0))/\
   ((∃B H,e=.returned (.agg (x.2.1.cells B H))/\(x.2.1.cells B H).all (·.oneCell')=true/\∀o,Fr (λk=>k=w.heap.size+1) u o->Tried w J K L n (fE x) (.returned (.agg (x.2.1.cells B H))) o)\/
    (e=.panicked (kH x.1)/\∀o,Fr (λk=>k=w.heap.size+1) u o->Tried w J K L n (fE x) (.returned (.agg (rep x.1 0))) o))):=lH (by
  rintro e u ⟨⟨az,aq,bb⟩,ab⟩;have au:=lt_of_block aa;have be:=ag _ (BZ _);have ay:=aq.block aa (by rw [be];unfold bF;omega);refine ⟨ay,?_⟩;by_cases af:x.1=0;{rw [AL af] at ab;obtain ⟨v,rfl,aw⟩:=ab;have bh:=aw.le ad.size;obtain ⟨B,H,rfl,ab,bg,_⟩:=aw;refine .inl ⟨B,H,rfl,aW.cells_one ab.one bg.one,λo E=> ?_⟩;obtain ⟨a,b⟩:=Bc ag ad aq (BZ _) au E;refine ⟨⟨az,a,?_⟩,_,rfl,?_⟩;{unfold fE;rw [AL af];exact bb.step ok b (λc h e=>by unfold bF at h;omega)};{unfold fE;rw [AL af];exact bh.other ay (Qr _ _ _ (by simp) (by simp)) E}}
  ·rw [AA af] at ab;refine .inr ⟨ab,λo E=> ?_⟩;obtain ⟨a,b⟩:=Bc ag ad aq (BZ _) au E;unfold fE;rw [AA af];exact ⟨⟨az,a,bb.step ok b (λc h e=>by unfold bF at h;omega)⟩,_,rfl,mV.plain _ _ _ _ _ _ _⟩)
 generalize bH _ J K L n x=D at*;generalize Tried w J K L n _=bn at*;clear aa ad ag ok ar;obtain ⟨bj,r,bk⟩:=x;dsimp only at ai;clear bk;unfold dG aH.cells bT aW.cells at*;rcases bf with rfl|rfl|rfl|rfl|rfl|rfl|rfl|rfl|rfl|rfl|rfl;(all_goals go_enter_defers func62,ntmps62;go_wp2_with fail;(with_reducible refine bc.o.mono ?_);rintro e u ao;obtain ⟨aa,ao⟩:=ai.o e u ao;have ak:=lH aa;clear aa ai;rcases ao with ⟨B,H,rfl,av,ae⟩|⟨rfl,ae⟩;{have bd:=lH av;have aj:=lH ae;clear av ae;go_wp2_with (refine BQ rfl 29 (.tmp 6) (.tmp 11) rfl (w.heap.size+1) #[r.e,r.ino,r.size,r.handle,r.swaps,r.dir,B,H] rfl rfl 29 _ ak Tryz.size29 rfl bd ?_);go_wp2_with fail;refine ND (f:=110) (args:= #[Y (w.heap.size+1)]) (by simp) (by simp [go_sem]) ?_;refine (catch_idle (I (w.heap.size+1) 0) _).mono ?_;rintro e bi o ⟨rfl,rfl,ax⟩;have E:=ax▸(Fr.setRow (S:=λk=>k=w.heap.size+1) (Fr.refl u) (.inl rfl) _).alloc _;(have ap:o.heap[w.heap.size+1]? =some (.cells #[r.e,r.ino,r.size,r.handle,r.swaps,r.dir,B,H] 29 (0,0)):=by{rw [ax];exact ((Fr.refl (S:=No) _).alloc _).aB (aX ak.o) id});obtain ⟨al,c1,c2,c3,c4,c5,am,an⟩:=tJ ap;have ah:=aj.o o E;simp [Leaves,settle,results,results62,go_sem,al,c1,c2,c3,c4,c5,am,an];exact ah};{have aj:=lH ae;clear ae;refine ND (f:=110) (args:= #[Y (w.heap.size+1)]) (by simp) (by simp [go_sem]) ?_;refine (aA5 (w.heap.size+1) bj u _ ak rfl).mono ?_;rintro e bi o ⟨rfl,rfl,E,ap⟩;have ah:=aj.o o E;unfold rep at ah;obtain ⟨al,c1,c2,c3,c4,c5,am,an⟩:=tJ ap;simp [Leaves,settle,results,results62,go_sem,al,c1,c2,c3,c4,c5,am,an];exact ah})
def rZ (s:kU) (x:Pt):kU:=dK (dK (dK (dK (dK s x.c 1) x.l 3) x.n 4) x.a 2) x.z 1
def uB (s:kU) (m:cO):kU:=m.l.foldl rZ (dK s m.size 2)
theorem Pg.is {w p base s} (h:Pg w p base s):∃cs,w.heap[p]? =some (.cells cs 149 (0,0)):=by
 obtain ⟨v,o,_⟩:=h;exact ⟨_,o⟩
theorem yB {w w'} {p base k:Nat} {s cs t r} (h:Pg w p base s) (f:Fr (Pf w p base) w w') (o:w.heap[k]? =some (.cells cs t r)) (B:t≠5) (u:t≠149):w'.heap[k]? =some (.cells cs t r):=
 o5 f o B (λe=>by
  obtain ⟨c2,A⟩:=h.is;rw [e,A] at o;simp only [FO,Obj.cells.injEq] at o;exact u o.2.1.symm)
theorem bC.pf {α:Type} {c n t w w' p base b cap s} {L:List α} (h:bC c n t w b cap L) (g:Pg w p base s) (f:Fr (Pf w p base) w w') (J:t≠5) (A:t≠149):bC c n t w' b cap L:=by
 obtain ⟨⟨u,o,B⟩,E,H⟩:=h;have r:=yB g f o J A;exact ⟨⟨u,r,B⟩,E,λj x Q i aa V=>by
  have:=H j x Q i aa V;rw [aA o] at this;rw [aA r];exact this⟩
theorem oK.pf {w w' p base k s m} (h:oK w k m) (g:Pg w p base s) (f:Fr (Pf w p base) w w'):oK w' k m:=by
 obtain ⟨v,r,o⟩:=h;refine ⟨v,yB g f r G G,?_⟩;rcases o with o|⟨b,cap,e,u,A⟩;{exact .inl o};{exact .inr ⟨b,cap,e,u,A.pf g f G G⟩}
def wP (w:World) (p base:Nat) (s:kU) (e:Ending) (w':World):Prop:=e=.returned (.tuple #[])/\Pg w' p base s/\Fr (Pf w p base) w w'
theorem aAb (p base s x w) (h:Pg w p base s):Calls prog 136 #[Y p,dF x] w (wP w p base (rZ s x)):=by
 have r:Fr No w (w.alloc (.cells (cP x) 59)):=(Fr.refl w).alloc _;have H:=aQ w (.cells (cP x) 59);have aw:Hid (∀e w',e=.returned (.tuple #[])->Pg w' p base (rZ s x)->Fr (Pf w p base) w w'->wP w p base (rZ s x) e w'):=λe w' a b c=>⟨a,b,c⟩;have bd:Hid (rZ s x=dK (dK (dK (dK (dK s x.c 1) x.l 3) x.n 4) x.a 2) x.z 1):=lH rfl;generalize bc:wP w p base _=bi at*;clear bc;have aa:=lH (h.no r);have am:Hid (Fr (Pf w p base) w (w.alloc (.cells (cP x) 59))):=r.aY;have ax:=lH H;generalize bk:w.alloc _=w0 at*;generalize bj:w.heap.size=o at*;have bl:w0.cell? (I o 0)=some (Z x.c):=by rw [aA H];rfl
 clear r H h;unfold dF;go_enter func136,ntmps136;go_wp2_with fail;refine cr (uT p base 1 s x.c G G _ aa) ?_;rintro be ⟨ag,u⟩;have J:=yB aa u ax G G;have an:=lH (lU am u);have ab:=lH ag;have ay:=lH J;have bm:be.cell? (I o 1)=some (Z x.l):=by rw [aA J];rfl
 clear ag u J;go_wp2_with fail;refine cr (uT p base 3 _ x.l G G _ ab) ?_;rintro bf ⟨ah,A⟩;have Q:=yB ab A ay G G;have ao:=lH (lU an A);have ad:=lH ah;have az:=lH Q;have bn:bf.cell? (I o 2)=some (Z x.n):=by rw [aA Q];rfl
 clear ah A Q;go_wp2_with fail;refine cr (uT p base 4 _ x.n G G _ ad) ?_;rintro bg ⟨ai,B⟩;have V:=yB ad B az G G;have ap:=lH (lU ao B);have ae:=lH ai;have bb:=lH V;have bo:bg.cell? (I o 3)=some (Z x.a):=by rw [aA V];rfl
 clear ai B V;go_wp2_with fail;refine cr (uT p base 2 _ x.a G G _ ae) ?_;rintro bh ⟨aj,E⟩;have al:=yB ae E bb G G;have aq:=lH (lU ap E);have au:=lH aj;have bp:bh.cell? (I o 4)=some (Z x.z):=by rw [aA al];rfl
 clear aj E al;go_wp2_with fail;refine cr (uT p base 1 _ x.z G G _ au) ?_;rintro bq ⟨ak,af⟩;have ar:=lH (lU aq af);have av:=lH ak;clear ak af;go_wp2_with fail;exact IG (v:=.tuple #[]) (by simp [results,results136,go_sem]) rfl (aw.o _ _ rfl (by rw [bd.o];exact av.o) ar)
theorem aAN (k p base s m w) (h:Pg w p base s) (ak:oK w k m):Calls prog 72 #[Y k,Y p] w (wP w p base (uB s m)):=by
 have ay:Hid (∀e w',e=.returned (.tuple #[])->Pg w' p base (uB s m)->Fr (Pf w p base) w w'->wP w p base (uB s m) e w'):=λe w' a b c=>⟨a,b,c⟩;have bh:Hid (uB s m=m.l.foldl rZ (dK s m.size 2)):=lH rfl;generalize bg:wP w p base _=bk at*;generalize uB s m=bd at*;clear bg;have ar:=lH ak;obtain ⟨v,r,an⟩:=ak;obtain ⟨ao,u,rfl⟩:=an.slice;(have be:w.cell? (I k 0)=some (.bool true):=by rw [aA r];rfl);(have c1:w.cell? (I k 1)=some (Z m.size):=by rw [aA r];rfl);have ae:=lH (uT p base 2 s m.size G G w h);have ab:=lH h;have ax:=lH r;clear r an h;go_enter func72,ntmps72;go_wp2_with fail;refine cr ae.o ?_;rintro A ⟨ai,o⟩;have V:=yB ab o ax G G;have c2:A.cell? (I k 2)=some (.slice ao m.l.length u):=by rw [aA V];rfl
 have aa:=lH ai;have ap:=lH o;have au:=lH (ar.o.pf ab o);have bb:Hid (pO A (.slice ao m.l.length u) m.l):=lH (by
  obtain ⟨bq,H,bf⟩:=au.o;rw [V] at H;simp only [FO,Obj.cells.injEq,Array.mk.injEq,IJ,and_true,true_and] at H;rw [H];exact bf)
 clear ai o V be c1 ae;go_wp2_with fail;go_loopw [26] (λa wr=>∃j:Nat,a=Z j/\j<=m.l.length/\Hid (Pg wr p base ((m.l.take j).foldl rZ (dK s m.size 2)))/\Hid (Fr (Pf A p base) A wr)) (λa _=>m.l.length - (intOf a).toNat);(case atStart=>exact ⟨0,rfl,BA _,lH (by rw [FW,MV];exact aa.o),lH (Fr.refl _)⟩);(case round=>obtain ⟨j,rfl,bl,ad,B⟩:=hrel;by_cases J:j<m.l.length;{obtain ⟨b,rfl,al,Q⟩:=bb.o.row X;have am:=Q.pf aa B G G;have af:=lH (am.row j m.l[j] (AC J));have bm:=Q.len;have bn:u<=9223372036854775807:=al;have bi:(j:Int)<(m.l.length:Int):=X;have bo:(j:Int)<(u:Int):=X;have bp:(0:Int)<=(j:Int):=X;have az:Hid (m.l.take (j+1)=m.l.take j++ [m.l[j]]):=lH (by rw [DJ,AC J];rfl);generalize m.l[j]=x at*;unfold bY at af;have E:=lH (aAb p base _ x _ (ad.o.no ((Fr.refl wr).alloc (.cells (cP x) 59))));unfold dF wP at E;have ah:Fr No wr (wr.alloc (.cells (cP x) 59)):=(Fr.refl wr).alloc _;have aq:=lH ah;clear Q am al ah;go_wp2_with (refine EW R 59 _ R b (j*5) R (cP x) _ af underlying59 rfl Tryz.qQ ?_);refine cr E.o ?_;rintro bj ⟨aj,ag⟩;have aw:Hid (Pg bj p base ((m.l.take (j+1)).foldl rZ (dK s m.size 2))):=lH (by rw [az.o,IZ];exact aj);have av:=lH (lU (lU B aq.o.aY) ag);clear aj ag E;go_wp2_with fail;go_roundw;{exact ⟨j+1,by go_num,J,aw,av⟩};simp [intOf];omega};{(obtain rfl:j=m.l.length:=by omega);have bi:¬(m.l.length:Int)<(m.l.length:Int):=X;have bc:Hid (Pg wr p base bd):=lH (by rw [bh.o];have:=ad.o;rwa [AY] at this);go_wp2_with fail;exact IG (v:=.tuple #[]) (by simp [results,results72,go_sem]) rfl (ay.o _ _ rfl bc (lU ap B))})
def lM (m:cO):List UInt8:=(uB ([],0) m).1
def Ec (m:cO):Prop:=(uB ([],0) m).2=0/\lM m≠ []
def qV (i:Nat) (m:cO) (h:Int):aW:=⟨0,i,m.size,h,0,false, [],lM m⟩
def Jw (w:World) (i:Nat) (m:cO) (e:Ending) (w':World):Prop:=
 ∃v b c,e=.returned (.agg #[Z 0,i,m.size,Z 0,Z 0,false,nS,v])/\Fr No w w'/\fB w' v (lM m) b 0 c/\w.heap.size<=b
theorem Tc (bk K n L S i m w) (h:aV w bk K L S n) (bh:i<=1000000) (aa:S.F i=some m) (an:Ec m):
  Calls prog 162 #[Y L.s,i] w (Jw w i m):=by
 have fA:Fr No w (w.alloc (.cells (cE 0) 29)):=(Fr.refl w).alloc _;have o:Fr No w ((w.alloc (.cells (cE 0) 29)).alloc (.cells #[nS,Z 0] 149)):=fA.alloc _;have B:=Qs (w.alloc (.cells (cE 0) 29));rw [show (w.alloc _).heap.size=w.heap.size+1 by simp] at B;have ap:((w.alloc (.cells (cE 0) 29)).alloc (.cells #[nS,Z 0] 149)).heap[w.heap.size]? =some (.cells (cE 0) 29 (0,0)):=
  ((Fr.refl (S:=No) _).alloc _).aB (aQ w _) id
 have av:=lH o;obtain ⟨fp,ae,aq⟩:=h.files.look i bh;have bc:=lH ae;have E:=h.cell 11;have au:=lH E;have ad:yD S.F fp i=Y (fp i):=by unfold yD;rw [aa]
 have ao:=ae _ o;rw [ad] at ao;have ax:=lH ad;have aj:=lH (aq m aa).reads;have ai:=lH an;have bd:((w.alloc (.cells (cE 0) 29)).alloc (.cells #[nS,Z 0] 149)).cell? (I L.s 11)=some (.map (some L.fl)):=o.cell_of E id;have ak:=lH (aAN (fp i) (w.heap.size+1) (w.heap.size+1+1) ([],0) m _ B (aj.o.fr o));have bn:∀w':World,(Instr.build 149 #[]).run prog w'=.ok (.agg #[nS,Z 0]) w':=λw'=>by kernel_rfl
 have bf:∀(w':World) (b c l:Nat),(Instr.build 29 #[(1,Z i),(2,Z m.size),(7,.slice (some (I b 0)) l c)]).run prog w'=.ok (.agg #[Z 0,i,m.size,Z 0,Z 0,false,nS,O b l c]) w':=λw' b c l=>by kernel_rfl
 have bm:=lH (show ∀b c l:Nat,(#[Z 0,i,m.size,Z 0,Z 0,false,nS,O b l c]:Array Value).all (·.oneCell')=true from λb c l=>by simp [Value.oneCell']);clear fA o B h aa an ae aq E ad;unfold wP at ak;have az:=lH ap;clear ap;go_enter func162,ntmps162;go_wp2_with fail;refine cr ak.o ?_;rintro bl ⟨pg,H⟩;have ag:=av.o.trans H (λj V e=>by rcases e with e|⟨e,_⟩<;>omega);have al:=lH (H.aB az (by rintro (e|⟨e,_⟩)<;>omega));have aw:=lH (Y7 (w.heap.size+1) (w.heap.size+1+1) (lM m) bl (by
  have e:uB ([],0) m=(lM m,0):=Prod.ext rfl ai.o.1;rw [e] at pg;exact pg) ai.o.2)
 have ah:=lH ag;clear pg H ag ao bd;go_wp2_with fail;refine aw.o.mono ?_;rintro e ar ⟨v,b,c,rfl,ab,Q,J⟩;obtain rfl:=ab.1;have r:=lH (ah.o.trans J zq);have am:=lH (J.aB al id);have u:=lH ab;have be:=lH (AV ah.o.size Q);have bj:Hid (w.heap.size<b):=AP (lt_of_block al) Q;clear ab J Q;have c3:ar.cell? (I L.s 11)=some (.map (some L.fl)):=r.o.cell_of au id;have bi:=bc.o _ r.o;rw [ax.o] at bi;have ay:=lH (E8 (fp i) m ar (aj.o.fr r));go_wp2_with fail;refine cr ay.o ?_;rintro af rfl;have bo:=bf af b c (lM m).length;go_wp2_with (refine wS 29 am ?_);have bb:=aX (cs':= #[Z 0,i,m.size,Z 0,Z 0,false,nS,O b (lM m).length c]) am.o;have A:Fr (λj=>j=w.heap.size) af (af.setRow w #[Z 0,i,m.size,Z 0,Z 0,false,nS,O b (lM m).length c]):=fR;have bg:b≠w.heap.size:=by
  have:=bj.o;omega
 exact AZ (v:=.agg _) (BD rfl _ _ w 29 _ (0,0) _ rfl bb underlying29 rfl Tryz.size29) rfl
  ⟨_,b,c,rfl,r.o.trans A (λj V e=>by omega),⟨u.o.1,u.o.2.1,AP u.o.2.2.1 A.size,λj y V=>A.cell_of (u.o.2.2.2 j y V) bg⟩,be.o⟩
theorem Ep {a o} (h:a.length+o.length<=65536):jD (a,0) o=(a++o,0):=by
 unfold jD;rw [AA D,AA (by dsimp only;omega)]
theorem pX {a x wd} (o:0<=x/\x<2 ^ (8*wd)) (h:a.length+wd<=65536):dK (a,0) x wd=(a++bJ wd x.toNat,0):=by
 unfold dK;rw [AL o,Ep (by rw [fG];exact h)]
theorem Xw {a o} (h:a.length+2+o.length<=65536) (r:o.length<=65535):mG (a,0) o=(a++(bJ 2 o.length++o),0):=by
 unfold mG;rw [AA X,Ep (by rw [AB,fG];omega)]
theorem Rj (x):(lD x).length=x.1.data.toList.length+5:=by
 unfold lD;simp [fG];omega
theorem aE2 {a x} (A:wW x) (h:a.length+(lD x).length<=65536):pV (a,0) x=(a++lD x,0):=by
 obtain ⟨o,r,u⟩:=A;rw [Rj] at h;unfold pV;rw [Xw X o,pX ⟨r,by simpa using u⟩ (by simp only [AB,fG];omega),Ep (by simp only [AB,fG,BU,EO];omega)];simp [lD,vV]
theorem Yf:∀(es:List dY) (a:List UInt8),(∀x∈es,wW x)->a.length+(es.flatMap lD).length<=65536->es.foldl pV (a,0)=(a++es.flatMap lD,0)
 | [],a,_,_=>by simp
 | x::r,a,hx,h=>by
  rw [DN,AB] at h;rw [NJ,aE2 (hx x D) X,Yf r _ (λy o=>hx y (by simp [o])) (by rw [AB];omega),DN,IY]
theorem aW.Lc {o:aW} (h:o.Fits) (Q:o.es.length<=4000) (V:∀x∈o.es,x.1.size<=1000000) (aa:14+(o.es.flatMap lD).length+o.map.length<=65536):o.ok:=by
 obtain ⟨r,u,A,B,E,H,J⟩:=h;refine ⟨?_,Q,V⟩;unfold uA yP;rw [pX (wd:=1) (U r) D,pX (wd:=2) (U u) (by simp [fG]),pX (wd:=2) (U A) (by simp [fG]),pX (wd:=1) (U B) (by simp [fG]),pX (wd:=3) (U E) (by simp [fG]),
  Ep (by simp [fG]),pX (wd:=2) ⟨by omega,by simp;omega⟩ (by simp [fG]),Yf _ _ H (by simp only [AB,fG,BU,EO];omega),Xw (by simp only [AB,fG,BU,EO];omega) J]
theorem aW.ok.len {o:aW} (h:o.ok):o.bytes.length<=65536+65537:=by
 obtain ⟨_,e⟩:=h.raw;have B:=h.1;unfold aW.bytes uA at*;obtain ⟨E,ab,u⟩:=Iy B;rw [u];simp only [AB,fG];obtain ⟨ad,ae,aa⟩:=Oq E;(have:∀ {s:kU} {r:List UInt8},(jD s r).2=0->s.2=0->(jD s r).1.length<=65536:=by{intro s r J V;unfold jD at*;rw [AA (by simp [V])] at*;split at J;{cases J};{rename_i Q;rw [AA Q];simp only [AB];omega}});(have H:(mG (o.es.foldl pV (yP ([],0) o)) o.map).1.length<=65536:=by{(have A:mG (o.es.foldl pV (yP ([],0) o)) o.map=jD (o.es.foldl pV (yP ([],0) o)) (bJ 2 o.map.length++o.map):=by{unfold mG;rw [AA X]});rw [A];exact this (by rw [<-A];exact B) E});rw [u] at H;simp only [AB,fG] at H;omega
theorem aEd {a x} (o:dU x) (h:a.length+11<=65536):∃r,rZ (a,0) x=(a++r,0)/\r.length=11:=by
 have J:(0<=x.c/\x.c<256)/\(0<=x.l/\x.l<16777216)/\(0<=x.n/\x.n<4294967296)/\(0<=x.a/\x.a<65536)/\(0<=x.z/\x.z<256):=by{rcases o with rfl|o;{simp [aS]};{omega}}
 obtain ⟨u,A,B,E,H⟩:=J;unfold rZ;rw [pX (wd:=1) (U u) X,pX (wd:=3) (U A) (by simp only [AB,fG];omega),pX (wd:=4) (U B) (by simp only [AB,fG];omega),
  pX (wd:=2) (U E) (by simp only [AB,fG];omega),pX (wd:=1) (U H) (by simp only [AB,fG];omega)]
 exact ⟨_,by simp only [IY];rfl,by simp [fG]⟩
theorem Sl:∀(l:List Pt) (a:List UInt8),(∀x∈l,dU x)->a.length+11*l.length<=65536->∃o,l.foldl rZ (a,0)=(a++o,0)/\o.length=11*l.length
 | [],a,_,_=>⟨[],by simp,rfl⟩
 | x::r,a,hx,h=>by
  rw [BU] at h;obtain ⟨y1,u,E⟩:=aEd (hx x D) (a:=a) X;obtain ⟨y2,A,H⟩:=Sl r (a++y1) (λy B=>hx y (by simp [B])) (by rw [AB];omega);exact ⟨y1++y2,by rw [NJ,u,A,IY],by rw [AB,BU];omega⟩
theorem Ve {m} (r:eQ m) (u:∀x∈m.l,dU x):Ec m/\(lM m).length<=1000:=by
 obtain ⟨B,o⟩:=r;(have E:m.l.length<=64:=by rw [o];unfold dA;omega);obtain ⟨A,e,n⟩:=Sl m.l (([]:List UInt8)++bJ 2 (m.size:Int).toNat) u (by simp only [AB,fG,EO];omega);(have e0:uB ([],0) m=(([]:List UInt8)++bJ 2 (m.size:Int).toNat++A,0):=by{unfold uB;rw [pX (wd:=2) ⟨by omega,by simp;omega⟩ D,e]});unfold Ec lM;rw [e0];refine ⟨⟨rfl,?_⟩,?_⟩;{intro h;have:=BC List.length h;simp only [AB,fG,EO] at this;omega};{simp only [AB,fG,EO];omega}
theorem L8 {e i z h s d} (o:0<=e/\e<256) (u:0<=i/\i<65536) (B:0<=z/\z<65536) (r:0<=h/\h<256) (A:0<=s/\s<16777216):aW.ok ⟨e,i,z,h,s,d, [], []⟩:=
 aW.Lc ⟨o,u,B,r,A,by simp,by simp⟩ D D D
theorem Ud {i m h s} (E:i<=128) (o:eQ m) (u:∀x∈m.l,dU x) (r:0<=h/\h<256) (A:0<=s/\s<16777216):aW.ok {qV i m h with swaps:=s}:=by
 have B:=(Ve o u).2;have H:=o.1;refine aW.Lc ⟨by simp [qV],by simp only [qV];omega,by simp only [qV];omega,by simpa only [qV] using r,A,by simp [qV],by simp only [qV];omega⟩ (by simp [qV]) (by simp [qV]) ?_;simp only [qV,GN,EO];omega
theorem aBx (T d s):(kid T d s).getD 0<129:=by
 (cases h:kid T d s with|none=>simp|some k=>unfold kid at h;have:=CX h;simpa using this)
theorem Yh {α:Type} (f:α->List UInt8) (m:Nat):∀l:List α,(∀x∈l,(f x).length<=m)->(l.flatMap f).length<=m*l.length
 | [],_=>by simp
 | x::r,h=>by
  have u:=h x D;have A:=Yh f m r (λy o=>h y (by simp [o]));rw [DN,AB,BU,Nat.mul_succ];omega
theorem Z8 {T} (B:dJ T) (d):(wI T d).length<=129/\∀x∈wI T d,wW x/\x.1.data.toList.length<=12:=by
 constructor;{unfold wI;rw [EP,List.length_mergeSort];unfold uD;exact AV (List.length_filterMap_le _ _) D};{intro x E;unfold wI at E;obtain ⟨s,u,rfl⟩:=IC.1 E;have u:=List.mem_mergeSort.1 u;unfold uD at u;obtain ⟨k,_,o⟩:=MJ.1 u;(have H:s.data.toList.length<=12:=by{(cases r:T k with|none=>rw [r] at o;cases o|some y=>rw [r] at o;dsimp only at o;split at o;{(cases o;rw [l9];by_cases A:k=1);{subst A;rw [B.root] at r;cases r;simp};{have:=B.name k y r A;unfold eH at this;simp only [BM,BR] at this;exact this.1.1.1.1.2}};{cases o})});have J:=aBx T d s.data.toList;exact ⟨⟨by unfold kD;dsimp only;omega,by unfold kD;dsimp only;omega,by unfold kD;dsimp only;omega⟩,H⟩}
theorem aBE {T} (B:dJ T) (l) {s} (A:0<=s/\s<16777216):aW.ok ⟨0,0,0,0,s,false,(listOf T l).2, []⟩:=by
 have u:(listOf T l).2.length<=129/\∀x∈(listOf T l).2,wW x/\x.1.data.toList.length<=12:=by{unfold listOf;split;{simp};{split;{simp};{exact Z8 B _}}}
 obtain ⟨E,r⟩:=u;have H:=Yh lD 17 (listOf T l).2 (λx o=>by rw [Rj];have:=(r x o).2;omega);exact aW.Lc ⟨by dsimp only;omega,by dsimp only;omega,by dsimp only;omega,by dsimp only;omega,A,λx o=>(r x o).1,by dsimp only [List.length_nil];omega⟩ (by dsimp only;omega) (λx o=>by
  have:=(r x o).2;have e:x.1.size=x.1.data.toList.length:=by rw [NF];rfl
  rw [e];omega) (by simp only [EO];omega)
theorem iD.fr {S w w' r v es} (h:iD w r v es) (f:Fr S w w') (J:∀k,S k->(∃cs o,w.heap[k]? =some (.cells cs 86 o))->False):iD w' r v es:=by
 rcases h with h|⟨b,off,c,e,B,Q,E,⟨cs,o,u⟩,H⟩;{exact .inl h};{have A:¬S b:=λab=>J b ab ⟨cs,o,u⟩;exact .inr ⟨b,off,c,e,B,Q,AP E f.size,⟨cs,o,f.aB u A⟩,λj x aa i ad V=>f.cell_of (H j x aa i ad V) A⟩}
theorem iJ.fr {S w w' o v r} (h:iJ w o v r) (f:Fr S w w') (E:∀k,S k->o<=k):iJ w' o v r:=by
 rcases h with h|⟨b,off,c,⟨e,u,A,B⟩,H⟩;{exact .inl h};{exact .inr ⟨b,off,c,⟨e,u,AP A f.size,λj x J=>f.cell_of (B j x J) (λQ=>by have:=E _ Q;dsimp only at this;omega)⟩,H⟩}
theorem iJ.shape {w o v r} (h:iJ w o v r):∃a l c,v=.slice a l c:=by
 rcases h with ⟨h,_⟩|⟨b,off,c,⟨e,_⟩,_⟩;{exact ⟨_,_,_,h⟩};{exact ⟨_,_,_,e⟩}
theorem aCw {w w' u g v r} {x:Int} {Q} (h:iJ w u v r) (f:Fr (λk=>k=g) w w') (V:w.heap[g]? =some (.cells #[x] 25 Q)):iJ w' u v r:=by
 rcases h with h|⟨b,off,c,⟨e,A,B,E⟩,H⟩;{exact .inl h};{by_cases aa:r= [];{subst aa;exact .inr ⟨b,off,c,⟨e,A,AP B f.size,λj x o=>by simp at o⟩,H⟩};{refine .inr ⟨b,off,c,⟨e,A,AP B f.size,λj y o=>f.cell_of (E j y o) ?_⟩,H⟩;dsimp only;rintro rfl;have:=E j y o;rw [aA V] at this;rcases J:off+j with _|n;{rw [J] at this;simp at this};{rw [J] at this;simp at this}}}
theorem aEC {w w' o g v A B} (h:iJ w o v A) (f:Fr (λk=>k=g) w w') (Q:w.heap[g]? =some (.cells (cE 0) 29 B)):iJ w' o v A:=by
 rcases h with h|⟨b,off,c,⟨e,E,H,r⟩,J⟩;{exact .inl h};{refine .inr ⟨b,off,c,⟨e,E,AP H f.size,λj y u=>f.cell_of (r j y u) ?_⟩,J⟩;dsimp only;rintro rfl;have:=r j y u;rw [aA Q] at this;rcases V:off+j with _|_|_|_|_|_|_|_|n<;>rw [V] at this<;>simp at this}
def Red (rb:Nat) (r:aW) (w w':World):Prop:=∃ev mv B,B<=w'.heap.size/\iD w' B ev r.es/\iJ w' B mv r.map/\w'.heap[rb]? =some (.cells (r.cells ev mv) 29 (0,0))/\Fr (λk=>k=rb) w w'/\Low w ev/\Low w mv
def rU:Array Value:=(cE 0)
theorem aCC (p q u v o) (ad:o.ok) (ap:o.e<=18) (b off c w) (az:w.heap[p]? =some (.cells #[v] 27 (0,0))) (bb:w.heap[q]? =some (.cells #[.func (Fn.func 123) #[] #[.pointer (some (I u 0))]] 204 (0,0))) (ae:w.heap[u]? =some (.cells rU 29 (0,0))) (h:fB w v o.bytes b off c) (cb:o.bytes.length<=1000000):
  Calls prog 175 #[.pointer (some (I p 0)),.pointer (some (I q 0))] w λx w'=>x=.returned (.tuple #[])/\Red u o w w':=by
 (have c1:w.cell? (I p 0)=some v:=by rw [aA az];rfl);(have c2:w.cell? (I q 0)=some (.func (Fn.func 123) #[] #[Y u]):=by rw [aA bb];rfl);have cj:=lt_of_block ae;have bq:=lH ae;have bp:=lH (aCL v o.bytes b off c w h cb);obtain ⟨av,bc⟩:=ad.raw;have r:=lH av;have bv:=lH bc;have bu:=lH ad;have bm:=lH ap;clear az bb ae h av bc ad ap;go_enter func175,ntmps175;go_wp2_with fail;refine bp.o.mono ?_;rintro x bj ⟨e,B,bw,rfl,al,J,bz,ci,ch,E⟩;have cf:=E.cell_of c2 id;have aa:Er bj e B o.bytes:=⟨0,bw,al,J.2.1,bz,J.2.2.1,J.2.2.2⟩;obtain ⟨V,au⟩:∃n:Nat,o.e=n:=⟨o.e.toNat,by have:=r.o.e;omega⟩;obtain ⟨af,ax⟩:∃n:Nat,o.ino=n:=⟨o.ino.toNat,by have:=r.o.ino;omega⟩;obtain ⟨ah,be⟩:∃n:Nat,o.size=n:=⟨o.size.toNat,by have:=r.o.size;omega⟩;obtain ⟨hd,aw⟩:∃n:Nat,o.handle=n:=⟨o.handle.toNat,by have:=r.o.handle;omega⟩;obtain ⟨sw,bd⟩:∃n:Nat,o.swaps=n:=⟨o.swaps.toNat,by have:=r.o.swaps;omega⟩;(have aq:o.bytes=bJ 1 V++(bJ 2 af++(bJ 2 ah++(bJ 1 hd++(bJ 3 sw++(vV o.dir::(bJ 2 o.es.length++(o.es.flatMap lD++(bJ 2 o.map.length++o.map)))))))):=by{rw [bv.o,aW.Nw,aW.Og,au,ax,be,aw,bd];simp});rw [aq] at aa;have ak:=lH (aFk e B u V af ah hd sw o.dir o.es o.map (by have:=bm.o;omega) (by have:=r.o.ino;omega) (by have:=r.o.size;omega) (by have:=r.o.handle;omega) (by have:=r.o.swaps;omega) bu.o.2.1 r.o.es r.o.map bj ⟨aa,E.aB bq id,by omega,by omega,Fr.refl _⟩);have Q:=lH E;clear c1 al J E aa c2 aq;go_wp2_with fail;refine cr ak.o ?_;rintro cc ⟨ab,ag,bk,bx,ar,ay,H,bf,am,bg,bh⟩;have bt:=lH (And.intro (bg.le Q.o.size) (bh.le Q.o.size));clear bg bh;have bn:=lH ar;have bo:=lH ay;have br:=lH bf;have bl:=lH ((Q.o.aY (S:=λk=>k=u)).trans am (λj cg h=>by rcases h with h|h;omega;exact h));obtain ⟨bi,c2,H,_⟩:=H;have aj:=lH H;clear ar ay bf am H ak;go_wp2_with fail;refine cr (Qp e B bi c2 cc aj) λcd an=> ?_;have ai:=lH an;clear an;go_wp2_with fail;refine cr (Qp e B bi c2 cd (ai.o.aB aj id)) λce ao=> ?_;have A:=lH (ai.o.trans ao zq);clear ao;go_wp2_with fail;refine cq (yK 0 ce) ?_;go_wp2_with fail;(have ca:o.cells ab ag= #[.int .i64 V,.int .i64 af,.int .i64 ah,.int .i64 hd,.int .i64 sw,.bool o.dir,ab,ag]:=by rw [aW.cells,au,ax,be,aw,bd]);exact IG (v:=.tuple #[]) (by simp [results,results175,go_sem]) rfl ⟨rfl,ab,ag,bk,AV bx A.o.size,bn.o.no A,bo.o.no A,by rw [ca];exact A.o.aB br id,bl.o.trans A (λ_ _ e=>e.elim),bt⟩
theorem Z9 (o v r) (am:r.ok) (aj:r.e<=18) (bf:r.bytes.length<=1000000) (b off c w) (h:fB w v r.bytes b off c) (ab:w.heap[o]? =some (.cells rU 29 (0,0))):
  Calls prog 122 #[v,.func (Fn.func 123) #[] #[Y o]] w λx w'=>x=.returned (Z 0)/\Red o r w w':=by
 have bl:∀(fn:Fn) (first cap:Array Value) (w:World),(Instr.makeFunc fn first cap).run prog w=.ok (.func fn first cap) w:=λ_ _ _ _=>rfl;obtain ⟨rfl,sl⟩:=h;generalize al:r.bytes.length=n at*;have E:=lH al;clear al;have av:Fr No w ((w.alloc (.cells #[.slice (some (I b off)) n c] 27)).alloc (.cells #[.func (Fn.func 123) #[] #[Y o]] 204)):=((Fr.refl w).alloc _).alloc _;have aq:((w.alloc (.cells #[.slice (some (I b off)) n c] 27)).alloc (.cells #[.func (Fn.func 123) #[] #[Y o]] 204)).heap[w.heap.size]? =some (.cells #[.slice (some (I b off)) n c] 27 (0,0)):=((Fr.refl (S:=No) _).alloc _).aB (aQ w _) id;(have ar:((w.alloc (.cells #[.slice (some (I b off)) n c] 27)).alloc (.cells #[.func (Fn.func 123) #[] #[Y o]] 204)).heap[w.heap.size+1]? =some (.cells #[.func (Fn.func 123) #[] #[Y o]] 204 (0,0)):=by simpa using aQ (w.alloc _) _);have bm:=lt_of_block ab;have ay:=lH ab;have H:=lH sl;have az:=lH aq;have bb:=lH ar;have bc:=lH am;have ax:=lH aj;clear ab sl aq ar am aj;(have an:((w.alloc (.cells #[.slice (some (I b off)) n c] 27)).alloc (.cells #[.func (Fn.func 123) #[] #[Y o]] 204)).heap.size=w.heap.size+1+1:=D);have ah:=lH an;clear an;go_enter func122,ntmps122;go_wp2_with fail;generalize ((w.alloc _).alloc _)=w0 at*;have J:Fr No w0 (w0.alloc (.cells #[Z 0] 25)):=(Fr.refl w0).alloc _;have u:=av.trans J zq;refine (aCZ w (w.heap.size+1) (λaf=>Red o r (w0.alloc (.cells #[Z 0] 25)) af) w0 ?_).mono ?_;{refine (aCC w (w.heap.size+1) o _ r bc ax b off c _ (J.aB az id) (J.aB bb id) (u.aB ay id) ⟨by rw [E.o],by rw [E.o];exact H.o.1,AP H.o.2.1 u.size,λj y V=>u.cell_of (H.o.2.2 j y V) id⟩ (by rw [E.o];exact bf)).mono ?_;rintro x af ⟨rfl,ao⟩;have e0:=ah.o;have bg:=ao;obtain ⟨ai,au,ag,ak,Q,aa,ad,B,_⟩:=bg;exact ⟨rfl,ao,B.aB (aQ w0 _) X⟩};{rintro x bj ⟨rfl,af,⟨ai,au,ag,ak,Q,aa,ad,B,bh,bi⟩,A⟩;have e0:=ah.o;have ap:=A.aB ad X;have aw:=((u.aY (S:=λk=>k=o)).trans B (λj V e=>e)).trans A (λj V e=>by omega);have ae:=B.aB (aQ w0 _) X;have bd:Hid (Red o r w bj):=lH ⟨ai,au,ag,AV ak A.size,Q.fr A (λk be ⟨cs,bk,h⟩=>by subst be;rw [ae] at h;simp at h),aCw aa A ae,ap,aw,bh.le u.size,bi.le u.size⟩;clear Q aa ad B A ap ae;go_wp2_with fail;go_ret;exact ⟨rfl,bd⟩}
theorem aAS (v) (o:aW) (ao:o.ok) (ak:o.e<=18) (an:o.bytes.length<=1000000) (b off c w) (h:fB w v o.bytes b off c):
  Calls prog 67 #[v] w λx w'=>∃Q ad,x=.returned (.tuple #[.agg (o.cells Q ad),Z 0])/\iD w' w' Q o.es/\iJ w' w' ad o.map/\Fr No w w'/\Low w Q/\Low w ad:=by
 have bi:∀(fn:Fn) (first cap:Array Value) (w:World),(Instr.makeFunc fn first cap).run prog w=.ok (.func fn first cap) w:=λ_ _ _ _=>rfl;obtain ⟨rfl,sl⟩:=h;have r:Fr No w ((w.alloc (.cells rU 29)).alloc (.cells rU 29)):=((Fr.refl w).alloc _).alloc _;have ap:((w.alloc (.cells rU 29)).alloc (.cells rU 29)).heap[w.heap.size]? =some (.cells rU 29 (0,0)):=((Fr.refl (S:=No) _).alloc _).aB (aQ w _) id;have u:((w.alloc (.cells rU 29)).alloc (.cells rU 29)).heap[w.heap.size+1]? =some (.cells rU 29 (0,0)):=by simpa using aQ (w.alloc _) _
 have ai:=lH (Z9 (w.heap.size+1) _ o ao ak an b off c _ ⟨rfl,sl.1,AP sl.2.1 r.size,λj y be=>r.cell_of (sl.2.2 j y be) id⟩ u);have aj:=lH ap;clear ap u sl ao ak an;unfold rU at*;go_enter func67,ntmps67;go_wp2_with fail;with_reducible refine ai.o.mono ?_
 rintro x ae ⟨rfl,Q,ad,bf,al,ag,ah,u,af,aq,ar⟩;obtain ⟨E,J,H,rfl⟩:=ag.shape;obtain ⟨V,ab,aa,rfl⟩:=ah.shape;have bd:=lH (And.intro (aq.le r.size) (ar.le r.size));clear aq ar;have aw:=lH ag;have ay:=lH ah;unfold aW.cells at*;have bb:=lH u;have B:=lH (af.aB aj X);have av:=lH ((r.aY.trans af zq).no (λk am=>by omega));have bg:=lH (show (#[o.e,o.ino,o.size,o.handle,o.swaps,o.dir,.slice E J H,.slice V ab aa]:Array Value).all (·.oneCell')=true from by simp [Value.oneCell']);clear ag ah u af ai r aj;go_wp2_with (first|(refine wR 29 bb ?_)|(refine wS 29 B ?_));all_goals
  have bc:=aX (cs':= #[o.e,o.ino,o.size,o.handle,o.swaps,o.dir,.slice E J H,.slice V ab aa]) B.o;have au:=av.o.setRow (g:=w.heap.size) (.inr (AU _)) #[o.e,o.ino,o.size,o.handle,o.swaps,o.dir,.slice E J H,.slice V ab aa];have A:Fr (λk=>k=w.heap.size) ae (ae.setRow w #[o.e,o.ino,o.size,o.handle,o.swaps,o.dir,.slice E J H,.slice V ab aa]):=Fr.setRow (S:=λk=>k=w.heap.size) (Fr.refl ae) (.inl rfl) _;have ax:=(aw.o.fr A (λk am ⟨cs,bh,h⟩=>by subst am;rw [B.o] at h;simp at h)).le (AV al A.size);have az:=(aEC ay A B).le (AV al A.size);generalize ae.setRow w _=bj at*;exact AZ (aFl _ _ w _ (0,0) (Z 0) rfl rfl bc rfl) rfl ⟨_,_,rfl,ax,az,au,bd⟩
