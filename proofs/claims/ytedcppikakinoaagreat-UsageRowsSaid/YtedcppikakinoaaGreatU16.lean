/- Part of a proof. -/
import Derived.Test.YtedcppikakinoaaGreatU14
import Derived.Test.YtedcppikakinoaaGreatU15
set_option linter.unusedSimpArgs false
set_option linter.unusedVariables false
set_option maxRecDepth 100000
set_option maxHeartbeats 6400000
namespace Go.Proofs.YtedcppikakinoaaGreat
open Go.Proofs.Tryz Go.RowKit
def fK (l:List UInt8):List (List UInt8):=(pathOf l).getD []
def gJ (T:Tree) (p q:List UInt8):Int:=
 if (lookOf T p).1≠0 then (lookOf T p).1 else if (lookOf T p).2.1=1 then 8 else if (pathOf q).isNone=true then 12
 else if (fK p).isPrefixOf (fK q)=true then 1 else if (fK q).isPrefixOf (fK p)=true then 1
 else if (placeOf T q).1≠0 then (placeOf T q).1 else if (kid T (placeOf T q).2.1 (placeOf T q).2.2).isSome=true then 7 else 0
def jB (T:Tree) (p q:List UInt8):Tree:=if gJ T p q=0 then moved T (lookOf T p).2.1 (placeOf T q).2.1 (placeOf T q).2.2 (lookOf T p).2.2 else T
theorem Js {T l} (h:(lookOf T l).1=0):pathOf l=some (fK l)/\bP T 1 (fK l)=(0,(lookOf T l).2.1):=by
 unfold lookOf fK at*;(cases r:pathOf l with|none=>rw [r] at h;cases h|some ps=>rw [r] at h;refine ⟨rfl,?_⟩;dsimp only at h ⊢;unfold seen at h ⊢;by_cases o:(bP T 1 ps).1=0;{rw [AL o];rw [Option.getD_some];exact Prod.ext o rfl};{rw [AA o] at h;exact absurd h o})
theorem aAK {T l} (h:(placeOf T l).1=0):∃D,fK l=D++ [(placeOf T l).2.2]/\bP T 1 D=(0,(placeOf T l).2.1):=by
 unfold placeOf fK at*;(cases B:pathOf l with|none=>rw [B] at h;cases h|some r=>{rw [B] at h;rcases r with _|⟨p,r⟩;{cases h};{dsimp only at h ⊢;refine ⟨(p::r).dropLast,?_,?_⟩;{unfold stands at h ⊢;by_cases o:(seen T (p::r).dropLast).1=0;{rw [AL o] at h ⊢;by_cases u:(seen T (p::r).dropLast).2.2=true;{rw [AL u];rw [Option.getD_some];exact (List.dropLast_concat_getLast _).symm};{rw [AA u] at h;cases h}};{rw [AA o] at h;exact absurd h o}};{unfold stands at h ⊢;by_cases o:(seen T (p::r).dropLast).1=0;{rw [AL o] at h ⊢;by_cases u:(seen T (p::r).dropLast).2.2=true;{rw [AL u];dsimp only;unfold seen at o ⊢;by_cases A:(bP T 1 (p::r).dropLast).1=0;{rw [AL A];exact Prod.ext A rfl};{rw [AA A] at o;exact absurd o A}};{rw [AA u] at h;cases h}};{rw [AA o] at h;exact absurd h o}}}})
theorem Xo {T} (o:dK T) {p q x} (Q:(lookOf T p).1=0) (H:T (lookOf T p).2.1=some x) (A:(lookOf T p).2.1≠1) (V:¬(fK p).isPrefixOf (fK q)=true) (B:(placeOf T q).1=0) (aa:kid T (placeOf T q).2.1 (placeOf T q).2.2=none):
  Moves T (lookOf T p).2.1 x (placeOf T q).2.1 (placeOf T q).2.2:=by
 obtain ⟨_,r⟩:=Js Q;obtain ⟨D,ab,J⟩:=aAK B;obtain ⟨⟨y,af,ag⟩,ae⟩:=yQ o B;refine ⟨o,H,A,?_,⟨y,af,ag⟩,?_,ae,aa⟩;{intro e;rcases JO (fK p) with h|⟨ah,s,h⟩;{rw [h] at r;simp only [bP,GX,true_and] at r;exact A r.symm};{rw [KU] at h;have u:=r;rw [h] at u;obtain ⟨d,a1,a2,_⟩:=G6 u;obtain ⟨b,E⟩:=(qZ o).1 a2;rw [H] at E;cases E;dsimp only at e;subst e;have:=U1 o _ ah _ _ (AU _) a1 u;have ad:=BD List.length this;simp at ad}};{intro e;rw [e] at J;have:=U1 o _ D _ _ (AU _) J r;apply V;rw [JI,ab,this];exact ⟨_,rfl⟩}
def yS (w:World) (o:Nat->Nat) (K t:Nat) (T:Tree) (p q:List UInt8) (e:Ending) (w':World):Prop:=
 e=.returned (Z (gJ T p q))/\∃o',Step (dM K) w o w' o'/\eG w' o' K t (jB T p q)
theorem aCU (ae K t T p q w) (bx:p.length<=1000000) (bz:q.length<=1000000) (h:eG w ae K t T) (B:dK T) (bd:aF w ae):
  Calls prog 160 #[Y t,(ba p),(ba q)] w (yS w ae K t T p q):=by
 have ds:=lH h;have cz:=lH B;have cc:=lH bd;have ai:=lH (xG ae K t T p w bx h B bd);have cf:Hid (∀w',Fr No w w'->Calls prog 228 #[Y t,(ba q)] w' λe af=>e=.returned (.tuple #[.int .i64 (placeOf T q).2.1,(ba (placeOf T q).2.2),.int .i64 (placeOf T q).1])/\Fr No w' af):=
  lH (λw' f=>Yo ae K t T q w' bz (h.no B bd f) B (λk de=>bd k (AV f.size de)))
 have dw:Hid (∀w',Calls prog 145 #[(ba q)] w' (pF w' q)):=λw'=>Dn q w' bz;have u:gJ T p q=if (lookOf T p).1≠0 then (lookOf T p).1 else if (lookOf T p).2.1=1 then 8 else if (pathOf q).isNone=true then 12
  else if (fK p).isPrefixOf (fK q)=true then 1 else if (fK q).isPrefixOf (fK p)=true then 1
  else if (placeOf T q).1≠0 then (placeOf T q).1 else if (kid T (placeOf T q).2.1 (placeOf T q).2.2).isSome=true then 7 else 0:=rfl
 have bm:=look_ok (l:=p) B;have bn:=Js (T:=T) (l:=p);have ce:=lH (λx=>Xo (T:=T) (p:=p) (q:=q) (x:=x) B);have dt:Hid (jB T p q=if gJ T p q=0 then moved T (lookOf T p).2.1 (placeOf T q).2.1 (placeOf T q).2.2 (lookOf T p).2.2 else T):=lH rfl;have du:=lH (yQ (l:=q) B);have bu:∀al ah,pathOf p=some al->pathOf q=some ah->(∀w',Calls prog 232 #[(ba q),(ba p)] w' λe af=>e=.returned (.bool (al.isPrefixOf ah))/\Fr No w' af)/\(∀w',Calls prog 232 #[(ba p),(ba q)] w' λe af=>e=.returned (.bool (ah.isPrefixOf al))/\Fr No w' af):=
  λal ah cl bi=>⟨λw'=>Q9 q p ah al w' bz bx bi cl,λw'=>Q9 p q al ah w' bx bz cl bi⟩
 have av:Hid (∀ci,ci≠0->gJ T p q=ci->∀e w',e=.returned (Z ci)->Fr No w w'->yS w ae K t T p q e w'):=λci fw u e w' ak f=>⟨by rw [ak,u],ae,Step.no bd f,by
  have:jB T p q=T:=by unfold jB;rw [u,AA fw]
  rw [this];exact h.no B bd f⟩
 have ff:Hid (∀e w',gJ T p q=0->e=.returned (Z 0)->(∃ev,Step (dM K) w ae w' ev/\eG w' ev K t (jB T p q))->yS w ae K t T p q e w'):=λe w' u ak J=>⟨by rw [ak,u],J⟩;generalize fq:yS w ae K t T p q=gg at*;generalize lookOf T p=P at*;obtain ⟨ch,k,is⟩:=P;generalize placeOf T q=R at*;obtain ⟨cj,o,Q⟩:=R;clear fq h bx bd bz;dsimp only at u bm ai bn ce dt cf du;by_cases ak:ch=0
 ·subst ak;obtain ⟨x,J,aq⟩:=bm rfl;obtain ⟨cm,_⟩:=bn rfl;rw [AA (by simp)] at u;by_cases bw:k=1;{subst bw;have E:Hid (gJ T p q=8):=lH (by rw [u,AL rfl]);clear u bm J aq B bu bn cm;go_enter func160,ntmps160;go_wp2_with fail;refine cr ai.o λbf H=> ?_;exact aC (av.o 8 G E _ _ rfl H)}
  ·rw [AA bw] at u;have hb:((k:Int)==1)=false:=(by rw [CU];omega)
   cases ap:pathOf q with
   | none=>
    rw [ap] at u;have E:Hid (gJ T p q=12):=lH (by rw [u];rfl);have aw:Hid (∀w',Calls prog 145 #[(ba q)] w' λe af=>Fr No w' af/\e=.returned (.tuple #[nS,Z 12])):=λw'=>(dw.o w').mono (λe af h=>by unfold pF at h;rw [ap] at h;exact h);clear u bm J aq B bu bn cm ap;go_enter func160,ntmps160;go_wp2_with fail;refine cr ai.o λbf H=> ?_;go_wp2_with fail;refine (aw.o _).mono ?_;rintro e cb ⟨aa,rfl⟩;exact aC (av.o 12 G E _ _ rfl (H.trans aa zq))
   | some ah=>
    have bo:fK q=ah:=(by unfold fK;rw [ap];rfl)
    have aw:Hid (∀w',Calls prog 145 #[(ba q)] w' λe af=>Fr No w' af/\∃a n c,e=.returned (.tuple #[.slice a n c,Z 0])):=λw'=>(dw.o w').mono (λe af h=>by
     unfold pF at h;rw [ap] at h;obtain ⟨cl,v,bi,bb⟩:=h;obtain ⟨a,c,rfl⟩:=bb.shape;exact ⟨cl,a,_,c,bi⟩)
    rw [ap] at u;obtain ⟨ec,ed⟩:=bu _ _ cm ap;rw [bo] at u ce;have ax:=lH ec;have bh:=lH ed;simp only [Option.isNone_some,DT,GG] at u;generalize fK p=al at*;clear bu ec ed bn cm ap bm;cases bc:al.isPrefixOf ah with
    | true=>
     rw [bc] at u ax;have E:Hid (gJ T p q=1):=lH (by rw [u];rfl);clear u J aq B bo bc;go_enter func160,ntmps160;go_wp2_with fail;refine cr ai.o λbf H=> ?_;go_wp2_with fail;refine (aw.o _).mono ?_;rintro e cb ⟨aa,a3,au,c3,rfl⟩;go_wp2_with fail;refine cr (ax.o _) λcv aj=> ?_;exact aC (av.o 1 G E _ _ rfl ((H.trans aa zq).trans aj zq))
    | false=>
     rw [bc] at u ax ce;cases bl:ah.isPrefixOf al with
     | true=>
      rw [bl] at u bh;have E:Hid (gJ T p q=1):=lH (by rw [u];rfl);clear u J aq B bo bc bl;go_enter func160,ntmps160;go_wp2_with fail;refine cr ai.o λbf H=> ?_;go_wp2_with fail;refine (aw.o _).mono ?_;rintro e cb ⟨aa,a3,au,c3,rfl⟩;go_wp2_with fail;refine cr (ax.o _) λcv aj=> ?_;go_wp2_with fail;refine cr (bh.o _) λdp ay=> ?_;exact aC (av.o 1 G E _ _ rfl (((H.trans aa zq).trans aj zq).trans ay zq))
     | false=>
      rw [bl] at u bh;simp only [DT,GG] at u;by_cases bv:cj=0
      ·subst bv;rw [AA (by simp)] at u;obtain ⟨⟨y,co,dg⟩,df⟩:=du.o rfl;have cw:=lH df;have br:=lH co;have db:=lH dg;have cg:=lH J;have gk:=B.lt co;have gn:=B.lt J;cases be:kid T o Q with
       | some j=>
        rw [be] at u;have E:Hid (gJ T p q=7):=lH (by rw [u];rfl);have cd:=lH be;clear u J aq B bo bc bl df co dg be;go_enter func160,ntmps160;go_wp2_with fail;refine cr ai.o λbf H=> ?_;go_wp2_with fail;refine (aw.o _).mono ?_;rintro e cb ⟨aa,a3,au,c3,rfl⟩;go_wp2_with fail;refine cr (ax.o _) λcv aj=> ?_;go_wp2_with fail;refine cr (bh.o _) λdp ay=> ?_;go_wp2_with fail;have an:=((H.trans aa zq).trans aj zq).trans ay zq;refine cr (cf.o _ an) λA bt=> ?_;have bg:=an.trans bt zq;obtain ⟨V,r,dy⟩:=(ds.o.no cz cc bg).reads cz.o;have R:=dy A (Fr.refl _);have fk:=R.ct;have bx:=R.look o y br.o;obtain ⟨gu,gj,eh⟩:=R.kids o y br db.o;have fu:=eh Q cw.o;rw [cd.o] at fu;clear R dy eh;exact aC (av.o 7 G E _ _ rfl bg)
       | none=>
        rw [be] at u;have E:Hid (gJ T p q=0):=lH (by rw [u];rfl);have em:=ce.o x rfl J bw (by simp) rfl be;have cx:=lH em;have fg:Hid (jB T p q=moved T k o Q x.dir):=lH (by rw [dt.o,AL E.o,aq]);have cd:=lH be;obtain ⟨gd,hu,eo⟩:=B.up k x J bw;have da:=lH hu;have dx:=lH eo;have gt:=B.lt hu;have fe:=lH (B.name k x J bw);have gr:things T<=129:=AV JM (by rw [JA];omega);have gp:bI T o<1000:=Nat.lt_of_le_of_lt (JM) (by rw [JA];omega);have ej:=zQ B J rfl rfl;have fc:=lH ej;clear u J aq B bo bc bl df co dg be em hu eo ej;go_enter func160,ntmps160;go_wp2_with fail;refine cr ai.o λbf H=> ?_;go_wp2_with fail;refine (aw.o _).mono ?_;rintro e cb ⟨aa,a3,au,c3,rfl⟩;go_wp2_with fail;refine cr (ax.o _) λcv aj=> ?_;go_wp2_with fail;refine cr (bh.o _) λdp ay=> ?_;go_wp2_with fail;have an:=((H.trans aa zq).trans aj zq).trans ay zq;refine cr (cf.o _ an) λA bt=> ?_;have bg:=an.trans bt zq;have ft:aF A ae:=λk de=>cc.o k (AV bg.size de);obtain ⟨V,r,bi,bb,fo,bj,bk⟩:=ds.o.no cz cc bg;(have ab:∃dh,A.heap[r k]? =some (.cells #[x.up,(ba x.name),x.dir,.map dh] 168 (0,0)):=by{have:=bk k x cg.o;obtain ⟨up,ha,dir⟩:=x;(cases dir with|false=>exact ⟨_,this.2⟩|true=>obtain ⟨_,jb,_,h,_⟩:=this;exact ⟨_,h⟩)});obtain ⟨dh,ab⟩:=ab;obtain ⟨ad,fx,ar,cp,fy⟩:=eG.dir (bk o y br) db.o;obtain ⟨ag,ge,ca,bq,hc⟩:=eG.dir (bk x.up gd da) dx.o;have gq:=(bk k x cg).1;have fk:A.cell? (I t 0)=some (.map (some V)):=aA bb _;have c1:A.cell? (I (r o) 3)=some (.map (some ad)):=aA ar _;have c2:A.cell? (I (r x.up) 3)=some (.map (some ag)):=aA ca _;have c3:A.cell? (I (r k) 0)=some (Z x.up):=aA ab _;have c4:A.cell? (I (r k) 1)=some (.string (ba x.name)):=aA ab _;have dc:dC T r (o:Int)=some (r o):=(by simp [dC,br.o]);have dd:dC T r (k:Int)=some (r k):=(by simp [dC,cg.o]);have dz:dC T r (x.up:Int)=some (r x.up):=(by simp [dC,da.o]);have dj:=bj.look (o:Int) (by unfold encI I64;dsimp only;omega) (t:=157) (e:=169) underlying157 (z:=.pointer none) N false;rw [dc] at dj;have gw:(Instr.lookup 157 (.map (some V)) (Z o) false).run prog A=.ok (Y (r o)) A:=dj;have dk:=bj.look (k:Int) (by unfold encI I64;dsimp only;omega) (t:=157) (e:=169) underlying157 (z:=.pointer none) N false;rw [dd] at dk;have gx:(Instr.lookup 157 (.map (some V)) (Z k) false).run prog A=.ok (Y (r k)) A:=dk;have dl:=(bj.fr (Fr.refl (S:=No) A).drew id).look (x.up:Int) (by unfold encI I64;dsimp only;omega) (t:=157) (e:=169) underlying157 (z:=.pointer none) N false;rw [dz] at dl;have gy:(Instr.lookup 157 (.map (some V)) (Z x.up) false).run prog A.drew=.ok (Y (r x.up)) A.drew:=dl;have dm:=cp.look (ba Q) (show (ba Q).size<=maxLen by rw [nN];have:=(sN Q cw).2.2;unfold maxLen;omega) (t:=166) (e:=3) underlying166 (z:=Z 0) N true;rw [show bQ T o (ba Q)=none by simp [bQ,mM,cd.o]] at dm;have gz:(Instr.lookup 166 (.map (some ad)) (.string (ba Q)) true).run prog A=.ok (.tuple #[Z 0,false]) A:=dm;obtain ⟨am,ef,cu,ea⟩:=(bq.fr (Fr.refl (S:=No) A).drew id).del (ba x.name) (show (ba x.name).size<=maxLen by rw [nN];have:=(sN _ fe).2.2;unfold maxLen;omega) (t:=166) (e:=3) underlying166 0;rw [show bQ T x.up (ba x.name)=some (k:Int) by simp [bQ,mM,fc.o]] at cu;have gl:(Builtin.delete_ #[166,9] 0 #[.map (some ag),(ba x.name)]).run prog A.drew=.ok (.tuple #[]) am:=ef;have az:Fr (· =ag) A am:=(Fr.refl A).drew.trans ea zq;have bp:=az.aB ab (bq.ne ab);have gh:am.cell? (I (r k) 0)=some (Z x.up):=aA bp _;have gi:am.cell? (I (r k) 1)=some (.string (ba x.name)):=aA bp _;have he:am.frozen? (I (r k) 0)=false:=aU bp 0;have hf:am.frozen? (I (r k) 1)=false:=aU bp 1;have ez:=lH bb;have fa:=lH bk;have fh:=lH ar;have fj:=lH ca;have fb:=lH ab;obtain ⟨w8,cn⟩:∃w8,w8=(am.setCell (I (r k) 0) (Z o)).setCell (I (r k) 1) (.string (ba Q)):=⟨_,rfl⟩;have ao:Fr (· =r k) am w8:=cn▸(dZ am (r k) 0 _).trans (dZ _ (r k) 1 _) zq;(have di:w8.heap[r k]? =some (.cells #[o,(ba Q),x.dir,.map dh] 168 (0,0)):=by{rw [cn];exact setCell_at (setCell_at bp 0 _) 1 _});have gm:=cx.o.dne;have gs:=cx.o.une;have fz:r k≠V:=bj.ne ab;have ga:r k≠ad:=cp.ne ab;have au:r k≠ag:=bq.ne ab;have gb:V≠ad:=(by rintro rfl;omega);have et:V≠ag:=(by rintro rfl;omega);(have eu:r o≠r k:=λe=>by rw [e] at fy;omega);have er:MapAt encI w8 V (things T) (dC T r):=(bj.fr az et).fr ao (EP fz);have ep:w8.heap[r o]? =some (.cells #[y.up,(ba y.name),true,.map (some ad)] 168 (0,0)):=ao.aB (az.aB ar (bq.ne ar)) eu;have ew:w8.heap[t]? =some (.cells #[.map (some V)] 159 (0,0)):=ao.aB (az.aB bb (bq.ne bb)) (by rintro rfl;omega);have el:x.up≠o->MapAt encS w8 ag (bI T x.up - 1) (λz=>if z=ba x.name then none else bQ T x.up z):=λ_=>cu.fr ao (EP au);(have ek:MapAt encS w8 ad (if x.up=o then bI T o - 1 else bI T o) (λz=>if x.up=o/\z=ba x.name then none else bQ T o z):=by{by_cases e:x.up=o;{rw [AL e];(have fl:ag=ad:=by{rw [e] at ca;rw [ca] at ar;simp at ar;exact ar.2.2});have:=cu.fr ao (EP au);rw [fl,e] at this;simpa [e] using this};{rw [AA e];have:=(cp.fr az (by rintro rfl;omega)).fr ao (EP ga);simpa [e] using this}});have ei:(if x.up=o then bI T o - 1 else bI T o)<1000:=(by split<;>omega);have dv:=lH (Jz t V (r o) ad (r k) (things T) _ o k Q (dC T r) _ w8 ew er (by unfold I64;omega) (by unfold I64;omega) X ei X dc ep rfl ek X di rfl cw);rw [cn] at dv;have ex:Hid (Fr (λj=>j=ag\/j=r k) A w8):=(az.mono (λ_ _ e=> .inl e)).trans (ao.mono (λ_ _ e=> .inr e)) zq;have fi:=lH di;have fd:=lH el;have dq:=lH dd;clear dj dk dl dm bb bj bk ar cp ca bq ab bp cu ea az ef dc dd dz ao di au gb et eu er ep ew el ek ei;go_wp2_with fail;go_region
        all_goals
         go_wp2_with fail;refine cr dv.o ?_;rintro gf ⟨ck,ct,dn⟩;rw [dq.o] at ct;(have en:¬((if x.up=o/\ba Q=ba x.name then none else bQ T o (ba Q)):Option Int).isSome=true:=by{have:bQ T o (ba Q)=none:=(by simp [bQ,mM,cd.o]);split;{simp};{rw [this];simp}});(have eq:MapAt encS gf ad ((if x.up=o then bI T o - 1 else bI T o)+1) (λz=>if z=ba Q then some (k:Int) else if x.up=o/\z=ba x.name then none else bQ T o z):=by{rw [AA en] at dn;exact dn});clear en dn;rw [<-cn] at ck;have ee:1<=bI T o\/x.up≠o:=by{by_cases e:x.up=o;{left;have:=Jk T k X x x.up;rw [V5 cg.o,AL rfl,e] at this;omega};{exact .inr e}}
         have eg:=eG.moves cx ft bi ez fo fa br db fx fh da dx ge fj ((ex.o.mono (T:=λj=>j=V\/j=ag\/j=ad\/j=r k) (λ_ _ e=>e.elim (λe=> .inr (.inl e)) (λe=> .inr (.inr (.inr e))))).trans (ck.mono (T:=λj=>j=V\/j=ag\/j=ad\/j=r k) (λ_ _ e=>e.elim .inl (λe=> .inr (.inr (.inl e))))) zq)
          (by
            have:(λz=>if z=(k:Int) then some (r k) else dC T r z)=dC T r:=by{funext z;by_cases e:z=(k:Int);{rw [AL e,e,dq.o]};{rw [AA e]}}
            rw [this] at ct;simpa using ct)
          (λgv h=>by
            rw [fb.o] at h;simp at h;rw [<-h];exact ck.aB fi X)
          (λe=>(fd.o e).fr ck (by
            rintro (rfl|rfl);{omega}
            ·omega))
          (by
            have e:(if x.up=o then bI T o else bI T o+1)=(if x.up=o then bI T o - 1 else bI T o)+1:=by{split;{rename_i h;rcases ee with eb|eb;{omega};{exact absurd h eb}};{rfl}}
            rw [e];exact eq)
         have dr:=lH eg;clear eg ct eq ee;go_wp2_with fail;refine ff.o _ _ E rfl ?_;rw [fg.o];exact ⟨_,(Step.no cc bg).trans (dr.o.1.mono (D:=dM K) (λc fs=>by
          rcases fs with rfl|rfl|rfl|rfl;{exact .inr (.inl rfl)};{exact .inr (.inr X)};{exact .inr (.inr X)}
          ·exact .inr (.inr X))) (λ_ e=>e),dr.o.2⟩
      {have E:Hid (gJ T p q=cj):=lH (by rw [u,AL bv]);have cy:=lH bv;have gc:(cj==0)=false:=(U bv);clear u J aq B bo bc bl bv;go_enter func160,ntmps160;go_wp2_with fail;refine cr ai.o λbf H=> ?_;go_wp2_with fail;refine (aw.o _).mono ?_;rintro e cb ⟨aa,a3,au,c3,rfl⟩;go_wp2_with fail;refine cr (ax.o _) λcv aj=> ?_;go_wp2_with fail;refine cr (bh.o _) λdp ay=> ?_;go_wp2_with fail;have an:=((H.trans aa zq).trans aj zq).trans ay zq;refine cr (cf.o _ an) λA bt=> ?_;exact aC (av.o cj cy E _ _ rfl (an.trans bt zq))}
 {have E:Hid (gJ T p q=ch):=lH (by rw [u,AL ak]);have cy:=lH ak;(have gc:(ch==0)=false:=by simpa using ak);clear ak u bm B bu bn;go_enter func160,ntmps160;go_wp2_with fail;refine cr ai.o λbf H=> ?_;exact aC (av.o ch cy E _ _ rfl H)}
open Go.Sort Go.Shelf
def wK (T:Tree) (d:Nat) (s:ByteArray):List Value:=eQ (kK T d s)
theorem aBJ (T d) (ss:List ByteArray):flatK (wK T d) 3 ss.toArray=((ss.map (kK T d)).flatMap eQ).toArray:=by
 have J:∀l:List dX,(l.flatMap eQ).length=l.length*3:=λl=>by
  (induction l with|nil=>rfl|cons a l ih=>rw [DU,AB,ih,A7,BX];omega)
 apply ext_get!;{rw [size_flatK];simp [J]};{intro t o;rw [size_flatK] at o;rw [get_flatK _ _ _ _ o];(have r:t / 3<ss.length:=by simp at o;omega);have E:t % 3<3:=Nat.mod_lt _ G;(have H:(ss.map (kK T d))[t / 3]? =some (kK T d ss[t / 3]):=by rw [DY,AC r];rfl);have u:(eQ (kK T d ss[t / 3]))[t % 3]? =some ((eQ (kK T d ss[t / 3]))[t % 3]'(by rw [A7];exact E)):=AC _;have A:=J3 _ (t / 3) (t % 3) _ _ H u;rw [show t / 3*3+t % 3=t by omega] at A;(have B:ss.toArray[t / 3]! =ss[t / 3]:=by simp [r]);rw [B];unfold wK;rw [show ((List.flatMap eQ (ss.map (kK T d))).toArray)[t]! =((List.flatMap eQ (ss.map (kK T d)))[t]?).getD default by simp,A];rw [Option.getD_some,JY,u];rfl}
theorem aFw {w} {base g cap n:Nat} {T d} {ss:List ByteArray} {o} (V:n=ss.length) (A:w.heap[g]? =some (.cells o 86 (0,0))) (r:o.toList.take (n*3)=(ss.map (kK T d)).flatMap eQ):HoldsK (wK T d) 3 w g 0 ss.toArray:=by
 intro j B;rw [size_flatK] at B;(have E:j<n*3:=by simp at B;omega);refine ⟨?_,by simp [World.frozen?,A]⟩;rw [aBJ];have u:(o.toList.take (n*3))[j]? =((ss.map (kK T d)).flatMap eQ)[j]? :=by rw [r]
 rw [IU E] at u;simp only [World.cell?,A,BP];simp only [Option.isSome_none,DT,GG];rw [<-CV,u];have Q:((ss.map (kK T d)).flatMap eQ).length=n*3:=by
  rw [<-r,BZ];have:n*3<=o.toList.length:=by
   rcases BK o.toList.length (n*3) with h|h
   ·exfalso;have H:∀l:List dX,(l.flatMap eQ).length=l.length*3:=λl=>by
     (induction l with|nil=>rfl|cons a l ih=>rw [DU,AB,ih,A7,BX];omega)
    have J:=BD List.length r;rw [BZ,H,CG] at J;omega
   {exact h}
  omega
 rw [AC X];simp [Q,E]
theorem Zm {w g n os o e fr} (F) (r:w.heap[g]? =some (.cells o e fr)):
  (Go.Sort.grow (Go.Sort.putRow id (Go.Sort.ahead w n) g 0 F) os).heap[g]? =some (.cells (Go.Sort.putCells id 0 F o) e fr):=by
 have u:=(KW.1 r).1;rw [Go.Sort.heap_grow_old _ _ (U u)];simp [Go.Sort.putRow,Go.Sort.mapBlock,Go.Sort.ahead,KO,r,Go.Sort.onCells]
theorem Gj {w g n os} (F):Fr (· =g) w (Go.Sort.grow (Go.Sort.putRow id (Go.Sort.ahead w n) g 0 F) os):=by
 refine ⟨rfl,rfl,rfl,by simp,λk o r=> ?_⟩;rw [Go.Sort.heap_grow_old _ _ (U o)];have:g≠k:=λe=>r e.symm;simp [Go.Sort.putRow,Go.Sort.mapBlock,Go.Sort.ahead,KO,this]
theorem aCP (T d) (ss:List ByteArray) (base v w) (h:w.ownsRow base 86 3 v ss.length ((ss.map (kK T d)).flatMap eQ)) (ao:ss.length<1000):
  Calls prog 86 #[v,.func (.func 87) #[] #[]] w λe w'=>e=.returned (.tuple #[])/\Fr (λk=>base<=k) w w'/\iF w' w' v ((ss.mergeSort mG).map (kK T d)):=by
 rcases h.2 with ⟨rfl,V⟩|⟨g,cap,aj,rfl,ab,r,al,am,an,aa⟩;{have ag:=CW V;subst ag;have o:=AnyF.slices_SortFunc_none (P:=prog) (ρ:=Tryz.U2) {Tryz.U8 with} none 0 (.func (.func 87) #[] #[]) w;change Calls prog 86 _ _ _ at o;refine o.mono ?_;rintro e w' ⟨rfl,rfl⟩;exact ⟨rfl,Fr.refl _,.inl ⟨rfl,by simp⟩⟩}
 ·have E:=aFw (T:=T) (d:=d) (ss:=ss) (base:=base) (cap:=cap) rfl r aa;have Q:=enters_of func87 N rfl;have o:=AnyQ.slices_SortFunc_total Tryz.U8 3 isAgg86 sizeOf86 (wK T d) (λ_=>rfl) (λx v H=>by simp [wK,eQ] at H;rcases H with rfl|rfl|rfl<;>rfl) pX Ee 87 #[] g 0 cap ss.toArray w Q
   (λm os ak _ x y=>aGA (kK T d x) (kK T d y) _) E (lt_of_block r) (by simp;omega) Si
  change Calls prog 86 _ _ _ at o;rw [show ss.toArray.size=ss.length by simp,show ss.toArray.toList=ss by simp] at o;refine o.mono ?_;rintro e w' ⟨rfl,n,os,rfl⟩;have B:(ss.mergeSort mG).length=ss.length:=List.length_mergeSort _;(have ae:HoldsK (wK T d) 3 (sortWorldK (wK T d) 3 w g 0 n (ss.mergeSort mG).toArray os) g 0 (ss.mergeSort mG).toArray:=by{unfold sortWorldK;refine holdsK_grow _ _ _ _ _ _ _ ?_ (holdsK_putRowK _ _ _ _ _ _ _ (holdsK_ahead _ _ _ n _ _ _ E) (by simp [B]));unfold putRowK;simpa [Go.Sort.ahead] using lt_of_block r});refine ⟨rfl,(Gj _).mono (λk _ e=>by rw [e];exact ab),.inr ⟨g,0,cap,by rw [CG,B],by rw [CG,B];omega,?_,?_,⟨_,_,Zm _ r⟩,λj x u i ai hu=> ?_⟩⟩;{exact AP (lt_of_block r) (Gj (w:=w) (g:=g) (n:=n) (os:=os) _).size};{exact AP (lt_of_block r) (Gj (w:=w) (g:=g) (n:=n) (os:=os) _).size};{(have A:j<(ss.mergeSort mG).length:=by{have:=(AY.1 u).1;simpa using this});have af:=(AY.1 hu).1;have ad:=(ae.cell (i:=j) (c:=i) (U A) af).1;refine ad.trans ?_;rw [DY,AC A] at u;simp only [Option.map_some,FQ] at u;have J:(ss.mergeSort mG).toArray[j]! =(ss.mergeSort mG)[j]:=(getElem!_pos (ss.mergeSort mG).toArray j (U A)).trans rfl;rw [J];unfold wK;rw [u];have ah:(eQ x)[i]? =some ai:=hu;rw [JY,ah];rfl}
def listOf (T:Tree) (l:List UInt8):Int×List dX:=if (lookOf T l).1≠0 then ((lookOf T l).1, []) else if (lookOf T l).2.2=false then (10, []) else (0,wW T (lookOf T l).2.1)
def zA (w:World) (x:Int×List dX) (e:Ending) (w':World):Prop:=∃v,e=.returned (.tuple #[v,x.1])/\Fr No w w'/\iF w' w' v x.2/\Low w v
def Fa (v:Value):Nat:=match v with| .slice _ l _=>l|_=>0
theorem aDX (br K t T l w) (cj:l.length<=1000000) (h:eG w br K t T) (V:dK T) (bi:aF w br):
  Calls prog 41 #[Y t,(ba l)] w (zA w (listOf T l)):=by
 have dd:=lH h;have ab:=lH V;have db:=lH bi;have ap:=lH (xG br K t T l w cj h V bi);have E:listOf T l=if (lookOf T l).1≠0 then ((lookOf T l).1, []) else if (lookOf T l).2.2=false then (10, []) else (0,wW T (lookOf T l).2.1):=rfl;have ao:=look_ok (l:=l) V;generalize lookOf T l=P at*;obtain ⟨aq,k,is⟩:=P;generalize listOf T l=ad at*;have bv:Hid (∀bc,ad=(bc, [])->∀e w',e=.returned (.tuple #[nS,bc])->Fr No w w'->zA w ad e w'):=λbc B e w' J f=>⟨.slice none 0 0,by rw [J,B],f,by rw [B];exact .inl ⟨rfl,rfl⟩,Low.nil _⟩;have dj:Hid (∀v e w',e=.returned (.tuple #[v,Z 0])->Fr No w w'->iF w' w' v (wW T k)->Low w v->ad=(0,wW T k)->zA w ad e w'):=λv e w' J f au ei B=>⟨v,by rw [J,B],f,by rw [B];exact au,ei⟩;generalize zA w ad=ep at*;clear h cj bi;dsimp only at E ao ap;by_cases J:aq=0
 ·subst J;obtain ⟨x,B,bn⟩:=ao rfl;rw [AA D] at E;cases is with
  | false=>
   have ak:=lH E;clear E ao B bn V;go_enter func41,ntmps41;go_wp2_with fail;refine cr ap.o λo H=> ?_;exact aC (bv.o 10 ak _ _ rfl H)
  | true=>
   rw [AA D] at E;have ak:=lH E;have bw:=lH B;have dl:=lH bn;have ez:=V.lt B;have fb:bI T k<=129:=AV JM (by rw [JA];omega);have bu:=lH (aFO T k);obtain ⟨el,ci,cp,ct,cu⟩:=EM Tryz.Tq;have de:=lH ci;have dm:=lH cp;have dn:=lH ct;have dp:=lH cu;clear ci cp ct cu E ao B bn V;go_enter func41,ntmps41;go_wp2_with fail;refine cr ap.o λo H=> ?_;obtain ⟨ax,Q,be,bf,du,bg,bh⟩:=dd.o.no ab db H;obtain ⟨aw,em,cv,bo,en⟩:=eG.dir (bh k x bw) dl.o;have eq:o.cell? (I t 0)=some (.map (some ax)):=aA bf _;have c3:o.cell? (I (Q k) 3)=some (.map (some aw)):=aA cv _;have bp:=bg.look (k:Int) (by unfold encI I64;dsimp only;omega) (t:=157) (e:=169) underlying157 (z:=.pointer none) N false;rw [show dC T Q (k:Int)=some (Q k) by simp [dC,bw.o]] at bp;have fj:(Instr.lookup 157 (.map (some ax)) (Z k) false).run prog o=.ok (Y (Q k)) o:=bp;obtain ⟨fq,ff,bz,cc,fg⟩:=bo.range (t:=166) (e:=3) underlying166;have cy:=lH bg;have cz:=lH bh;have cx:=lH bf;have dq:=lH bz;have cw:=lH cc;have ex:=bo.lt;clear bp bg bh bf em cv bo en be du bz cc;go_wp2_with fail;go_loopw [9] (λv wr=>∃ss:List ByteArray,Hid (∃left ae,jM encS wr aw o (bI T k) (bQ T k) left ae/\∀s:ByteArray,s.size<=maxLen->(left s=true↔(bQ T k s).isSome=true/\s ∉ ss))/\Hid (wr.ownsRow (o.heap.size+1) 86 3 v ss.length ((ss.map (kK T k)).flatMap eQ))/\Hid ss.Nodup/\Hid (∀s∈ss,(bQ T k s).isSome=true)/\Hid (Fr No o wr)/\o.heap.size+1<=wr.heap.size)
    (λv _=>bI T k - Fa v)
   case atStart=>exact ⟨[],lH ⟨_,_,dq,λs _=>by simp⟩,lH ⟨rfl,.inl ⟨rfl,rfl⟩⟩,lH List.nodup_nil,lH D,cw,by omega⟩
   case round=>
    obtain ⟨ss,bb,aj,ai,ah,ay,eg⟩:=hrel;obtain ⟨a,ca,rfl⟩:=aj.o.shape;obtain ⟨left,ae,ag,an⟩:=bb.o;rcases ag.next 0 with ⟨_,cm,bm⟩|⟨s,y,u,er,af,ck,bm,co,_,bd,ef,cf⟩
    ·have ce:∀s,s∈ss↔(bQ T k s).isSome=true:=λs=>⟨ah s,λh=>by
      obtain ⟨y,ej⟩:=EC.1 h;have ch:=(ag.map.good ej).1;apply BI;intro ec;have:=(an s ch).2 ⟨h,ec⟩;rw [cm s ch] at this;cases this⟩
     have da:=lH (aEH ab k ss ai ce);(have fc:ss.length<=bI T k:=by{rw [<-bu.o];exact List.Nodup.length_le_of_subset ai (λs ee=>(E5 ab k s).2 (ah.o s ee))});clear ce cm an ag bb;go_wp2_with fail;have ew:=H;refine cr (aCP T k ss (o.heap.size+1) _ wr aj X) ?_;rintro fs ⟨ds,cg⟩;rw [da.o] at cg;have eb:=(Low.row aj).le (AV H.size (CE _));have dz:=H.trans (((ay.o.bC (S:=λk=>o.heap.size<=k)).trans ds (λj _ h=>by omega)).no (λj am h=>by omega)) zq;exact aC (dj.o _ _ _ rfl dz cg eb ak.o)
    ·obtain ⟨bk,bl⟩:=(an s (ag.map.good af).1).1 ck;have fh:=(ag.map.good af).1;(obtain ⟨r,bj,rfl⟩:∃r,kid T k s.data.toList=some r/\y=(r:Int):=by{(cases ar:kid T k s.data.toList with|none=>simp [bQ,ar] at af|some r=>simp [bQ,ar] at af;exact ⟨r,rfl,af.symm⟩)});obtain ⟨z,A,_⟩:=rJ bj;have fa:=ab.o.lt A;have aa:Fr No o u:=ay.o.trans bd (λj am e=>by omega);have bx:u.ownsRow (o.heap.size+1) 86 3 (.slice a ss.length ca) ss.length ((ss.map (kK T k)).flatMap eQ):=vV aj bd (λj e h=>by omega);have d0:u.cell? (I t 0)=some (.map (some ax)):=aA (aa.aB cx.o id) _;have et:u.cell? (I (Q r) 2)=some (.bool (isDir T r)):=by{have cd:=(cz.o r z A).2;have dv:isDir T r=z.dir:=(by simp [isDir,A]);rw [dv];obtain ⟨up,fl,dir⟩:=z;(cases dir with|false=>rw [aA (aa.aB cd id)];rfl|true=>obtain ⟨jb,_,al,_⟩:=cd;rw [aA (aa.aB al id)];rfl)}
     have bq:=(cy.o.fr aa id).look (r:Int) (by unfold encI I64;dsimp only;omega) (t:=157) (e:=169) underlying157 (z:=.pointer none) N false;rw [show dC T Q (r:Int)=some (Q r) by simp [dC,A]] at bq;have fk:(Instr.lookup 157 (.map (some ax)) (Z r) false).run prog u=.ok (Y (Q r)) u:=bq;have fe:(Instr.next (Y o) false 0).run prog wr=.ok (.tuple #[true,s,r]) u:=bm;have ev:(Instr.entry (Y o)).run prog u=.ok (.tuple #[s,r]) u:=cf;have dy:Hid (kK T k s=(s,(r:Int),isDir T r)):=lH (by unfold kK;rw [bj];rfl);have fd:ss.length<bI T k:=by
      have al:(s::ss).length<=(tH T k).length:=List.Nodup.length_le_of_subset (JV.2 ⟨bl,ai⟩) (λz A=>by
       rcases CB.1 A with rfl|A;{exact (E5 ab k _).2 bk}
       ·exact (E5 ab k _).2 (ah.o z A))
      rw [bu.o,BX] at al;omega
     have dk:Hid (∃left ae,jM encS u aw o (bI T k) (bQ T k) left ae/\∀z:ByteArray,z.size<=maxLen->(left z=true↔(bQ T k z).isSome=true/\z ∉ ss++ [s])):=lH ⟨_,_,co,λz ek=>by
      have:=an z ek;simp only [BO,BV,this,BM,BB,not_or,and_assoc]⟩
     have dg:Hid (ss++ [s]).Nodup:=lH (by
      rw [List.nodup_append];exact ⟨ai,by simp,λa dw b au=>by
       rw [BB] at au;subst au;rintro rfl;exact bl dw⟩)
     have df:Hid (∀z∈ss++ [s],(bQ T k z).isSome=true):=λz A=>by
      rcases BM.1 A with h|h;{exact ah.o z h};{rw [BB] at h;subst h;exact bk}
     have az:=lH bx;have fi:o.heap.size+1<=u.heap.size:=X;have dc:=lH aa;clear ef eg bq bm cf ag co an ck af bk bl bj A bb aj ai ah ay bx aa bd;generalize isDir T r=cb at*;go_wp2_with (at_builtin;(refine wpList_append_lies _ R _ _ 26 R (o.heap.size+1) 86 el _ 3 32 underlying26 de dm dn dp rfl G (.slice a ss.length ca) ss.length ((ss.map (kK T k)).flatMap eQ) R (az.o.alloc _) (I u 0) 1 1 [s,r,cb] R R ?d1 (by simp [Value.oneCell']) G (by unfold maxLen;omega) X ?d5 (u.heap.size+1) ?d6 ?_));(case d1=>exact World.news_of_block (cs:= #[s,r,cb]) (t:=86) (fr:=(0,0)) (AQ u _));(case d5=>rw [fF];omega);(case d6=>simp);intro eu cap bt cn av dx ea;have cl:Fr No o bt:=by{refine (dc.o.alloc _).grown av (λj am=> .inr ?_);have:=Ir az j am;omega}
     have ed:Hid (∃left ae,jM encS bt aw o (bI T k) (bQ T k) left ae/\∀z:ByteArray,z.size<=maxLen->(left z=true↔(bQ T k z).isSome=true/\z ∉ ss++ [s])):=lH (by
      obtain ⟨eo,dr,ar,be⟩:=dk.o;have dt:=((Fr.refl u).alloc _).grown av (λj am=> .inl (Ir az j am));exact ⟨eo,dr,ar.fr dt X X,be⟩)
     have eh:o.heap.size+1<=bt.heap.size:=(by have:=av.size;rw [fF] at this;omega);have dh:=lH cl;have di:=lH cn;clear cn av dx ea cl;go_wp2_with fail;go_roundw;{refine ⟨ss++ [s],ed,lH ?_,dg,df,dh,eh⟩;have al:=di.o;rw [FN,EX,AB];simp only [EW,List.map_nil,DU,GU,EK,dy.o];exact al};simp [Fa];omega
 {have ak:Hid (ad=(aq, [])):=lH (by rw [E,AL J]);(have fo:(aq==0)=false:=by simpa using J);clear J E ao V;go_enter func41,ntmps41;go_wp2_with fail;refine cr ap.o λo H=> ?_;exact aC (bv.o aq ak _ _ rfl H)}
def gV (p:Pt):Stp:=(p.c,p.l,p.n)
def eF (L:List Pt) (x:Stp):Int:=(L.map λp=>if gV p=x then p.z else 0).sum
theorem aBp (x):eF [] x=0:=rfl
theorem Wj (L p x):eF (L++ [p]) x=eF L x+if gV p=x then p.z else 0:=by
 simp [eF]
theorem Gs {L} (h:∀p∈L,0<=p.z/\p.z<=64) (x):0<=eF L x/\eF L x<=64*L.length:=by
 (induction L with|nil=>exact ⟨IY _,IY _⟩|cons p r ih=>obtain ⟨u,A⟩:=ih (λq o=>h q (BJ _ o));obtain ⟨B,E⟩:=h p (BL ..);(have e:eF (p::r) x=(if gV p=x then p.z else 0)+eF r x:=by simp [eF]);rw [e,BX];split<;>omega)
theorem Wl {l:List Nat} {f} {b:Int} (h:∀i∈l,0<=f i/\f i<=b):0<=(l.map f).sum/\(l.map f).sum<=b*l.length:=by
 (induction l with|nil=>simp|cons i r ih=>obtain ⟨u,A⟩:=ih (λj o=>h j (BJ _ o));obtain ⟨B,E⟩:=h i (BL ..);rw [EW,GY,BX];(have:b*((r.length+1:Nat):Int)=b*(r.length:Int)+b:=by{rw [Int.natCast_add,Int.mul_add];simp});omega)
theorem aBS (n j) (f g:Nat->Int) (r:j<n) (h:∀i,i≠j->f i=g i):((List.range n).map f).sum=((List.range n).map g).sum+(f j - g j):=by
 (induction n with|zero=>omega|succ n ih=>rw [NG,FN,List.sum_append,FN,List.sum_append];simp only [EW,List.map_nil,GY,List.sum_nil];by_cases e:j=n;{subst e;have:(List.range j).map f=(List.range j).map g:=JF (λi o=>h i (by have:=CJ.1 o;omega));rw [this];omega};{rw [ih X,h n (λe'=>e e'.symm)];omega})
def jU (F:Nat->Option cZ) (left:Int->Bool) (x:Stp):Int:=((List.range 129).map λi=>match F i with
 | some m=>if left (i:Int)=true then 0 else eF (ptrs m) x
 | none=>0).sum
def iI (F:Nat->Option cZ) (x:Stp):Int:=jU F (λ_=>false) x
def jQ (F:Nat->Option cZ):Prop:=∀i m,F i=some m->∀p∈m.l,dW p
theorem qX {p} (h:dW p):iZ (gV p)/\0<=p.z/\p.z<=64:=by
 unfold iZ gV I64;rcases h with rfl|h;{decide};{dsimp only;omega}
def Short (F:Nat->Option cZ):Prop:=∀i m,F i=some m->∀p∈m.l,0<=p.z/\p.z<=64
theorem jQ.short {F} (h:jQ F):Short F:=λi m o p r=>(qX (h i m o p r)).2
theorem Zd {F} (h:Short F) {i m} (o:F i=some m):∀p∈ptrs m,0<=p.z/\p.z<=64:=λp r=>h i m o p (FC.1 r).1
theorem Ot {m} (h:eX m):(ptrs m).length<=64:=AV (IK _ _) (by
 obtain ⟨r,o⟩:=h;rw [o];unfold dA;omega)
theorem Jb {F} (h:Short F) (r:∀i m,F i=some m->eX m) (left x):0<=jU F left x/\jU F left x<=528384:=by
 have:=Wl (l:=List.range 129) (b:=4096) (f:=λi=>match F i with
  | some m=>if left (i:Int)=true then 0 else eF (ptrs m) x
  | none=>0) (λi _=>by
   cases o:F i with
   | none=>simp
   | some m=>
    dsimp only;split;{omega}
    ·have u:=Gs (Zd h o) x;have A:=Ot (r i m o);omega)
 rw [JA] at this;unfold jU;omega
theorem aGR {F left} (h:∀i m,F i=some m->left (i:Int)=true) (x):jU F left x=0:=by
 have e:(List.range 129).map (λi=>match F i with
  | some m=>if left (i:Int)=true then 0 else eF (ptrs m) x
  | none=>0)=(List.range 129).map (λ_=>(0:Int)):=JF (λi _=>by
   cases o:F i with
   | none=>rfl
   | some m=>dsimp only;rw [AL (h i m o)])
 unfold jU;rw [e];generalize List.range 129=l;(induction l with|nil=>rfl|cons a r ih=>rw [EW,GY,ih];rfl)
theorem aDp {F:Nat->Option cZ} {left i m} (o:F i=some m) (u:i<129) (r:left (i:Int)=true) (x:Stp):
  jU F (λz=>left z&&decide (z≠(i:Int))) x=jU F left x+eF (ptrs m) x:=by
 unfold jU;rw [aBS 129 i _ (λj=>match F j with
  | some m=>if left (j:Int)=true then 0 else eF (ptrs m) x
  | none=>0) u (λj A=>by
   have e:decide ((j:Int)≠(i:Int))=true:=BN X;cases F j with
   | none=>rfl
   | some m'=>simp only [e,Bool.and_true])]
 rw [o];simp [r]
theorem aDx {F left} (h:∀i:Nat,i<129->left (i:Int)=false) (x):jU F left x=iI F x:=by
 unfold iI jU;refine BD List.sum (JF (λi o=> ?_));(cases F i with|none=>rfl|some m=>dsimp only;rw [h i (CJ.1 o)])
def iC (F:Nat->Option cZ) (U:Stp->Option Us):Stp->Option Us:=λx=>match U x with
 | none=>none
 | some u=>if iI F x=0 then none else some (u.1,iI F x,u.2.2)
def dJ (w:World) (r:aG) (rv dv:Value):World:=(w.alloc (.cells (r.cells rv dv) 36)).alloc (.cells (bU.cells (nS) (nS)) 29)
structure aDl (w:World) (o:Nat->Nat) (K:Nat) (L:kC) (S:St) (n:Nat) (r:aG) (rv dv:Value) (w0:World):Prop where
 fr:Fr No w w0
 k0:w0.heap[w.heap.size]? =some (.cells (r.cells rv dv) 36 (0,0))
 k1:w0.heap[w.heap.size+1]? =some (.cells (bU.cells (nS) (nS)) 29 (0,0))
 at_:aV w0 o K L S n
 fresh:aF w0 o
theorem begun {w B K n L S} (h:aV w B K L S n) (ok:aH S) (E:aF w B) (r u o):aDl w B K L S n r u o (dJ w r u o):=by
 have A:Fr No w (dJ w r u o):=((Fr.refl w).alloc _).alloc _;refine ⟨A,((Fr.refl (S:=No) _).alloc _).aB (aT w _) id,?_,h.no ok E A,(noS E A).fresh⟩;have:=aT (w.alloc (.cells (r.cells u o) 36)) (.cells (bU.cells (nS) (nS)) 29);unfold dJ;simpa using this
theorem bH.no {w w' o K n L S x B e} (h:aV w o K L S n) (ok:aH S) (r:aF w o) (A:x≠0) (u:e=.panicked (kF x)) (f:Fr No w w'):bH w o K L n (x,B,S) e w':=
 ⟨⟨o,(noS r f).mono (λ_ e=>e.elim),h.no ok r f⟩,by rw [AA A];exact u⟩
def jD (e i z h s:Int) (d:Bool):aX:=⟨e,i,z,h,s,d, [], []⟩
def lQ (e i z h s:Int) (d:Bool):Value:=.agg #[e,i,z,h,s,d,nS,nS]
theorem mY.plain {n} (w e i z h s d):mY n w (lQ e i z h s d) (jD e i z h s d):=⟨_,_,rfl,.inl ⟨rfl,rfl⟩,.inl ⟨rfl,rfl⟩,Low.nil _,Low.nil _⟩
theorem zM {K c} (h:dM K c):bD K c:=by unfold bD;unfold dM at h;omega
theorem Ii {K c} (h:iE K c):bD K c:=by unfold bD;unfold iE at h;omega
theorem Jp {T} (A:dK T) (p q):dK (jB T p q):=by
 unfold jB;split;{rename_i h;unfold gJ at h;by_cases o:(lookOf T p).1=0;{rw [AA (by simp [o])] at h;by_cases u:(lookOf T p).2.1=1;{rw [AL u] at h;cases h};{rw [AA u] at h;split at h;{cases h};{split at h;{cases h};{rename_i B;split at h;{cases h};{by_cases r:(placeOf T q).1=0;{rw [AA (by simp [r])] at h;split at h;{cases h};{rename_i E;obtain ⟨x,H,hd⟩:=look_ok A o;rw [<-hd];exact Zl (Xo A o H u B r (U E))}};{rw [AL r] at h;exact absurd h r}}}}}};{rw [AL o] at h;exact absurd h o}};{exact A}
theorem aH.nI {S} (ok:aH S) {o} (h:dK o):aH {S with T:=o}:=⟨h,ok.file⟩
theorem Am {C w w' A B u r g} (H:aF w u) (f:Fr No w w') (s:Step C w' u A r) (J:w.heap.size<=g) (Q:g<w'.heap.size) (q:Fr (λj=>j=g) A B):
  Step C w u B r/\Step (λc=>c=0) A r B r:=by
 have e:=(s.old g Q).trans (H g J);have E:=(f.bC).trans s.fr (λ_ _ h=>h);refine ⟨⟨E.trans q (λj V e=>by omega),λk o=>s.old k (AP o f.size),λk o=>s.fresh k (AV q.size o)⟩,⟨q.mono (λj _ h=>by subst h;exact e),λ_ _=>rfl,λk o=>s.fresh k (AV q.size o)⟩⟩
theorem bH.yes {C w w' u A o r K n g L S' B v e} (J:aF w o) (f:Fr No w w') (s:Step C w' o u r) (E:∀c,C c->bD K c) (Q:w.heap.size<=g) (V:g<w'.heap.size) (q:Fr (λj=>j=g) u A) (ok:aH S') (t:aV u r K L S' n) (H:e=.returned v) (aa:mY w A v B):bH w o K L n (0,B,S') e A:=by
 obtain ⟨a,b⟩:=Am J f s Q V q;exact ⟨⟨r,a.mono E,t.step ok b (λc h e=>by unfold bD at h;omega)⟩,by rw [AL rfl];exact ⟨v,H,aa⟩⟩
def oL (S:St) (r:aG):Int×aX×St:=
 if gJ S.T r.path r.tq=0 then (0,jD 0 0 0 0 0 false,{S with T:=jB S.T r.path r.tq}) else (gJ S.T r.path r.tq,bU,S)
theorem aE4 (r K n L S o al ag w) (h:aV w r K L S n) (ok:aH S) (B:aF w r) (aq:o.path.length<=1000000) (ar:o.tq.length<=1000000):
  Calls prog 104 #[Y L.s,.agg (o.cells al ag)] w (bH w r K L n (oL S o)):=by
 obtain ⟨ap,aj,ak,ae,ad⟩:=begun h ok B o al ag;have au:=lH ap;have an:Hid (∀w',Fr No (dJ w o al ag) w'->Calls prog 160 #[Y L.tr,(ba o.path),(ba o.tq)] w' (yS w' r K L.tr S.T o.path o.tq)):=
  lH (λw' f=>aCU r K L.tr S.T o.path o.tq w' aq ar ((ae.no ok ad f).tree) ok.tree (noS ad f).fresh)
 have ax:Hid (gJ S.T o.path o.tq≠0->∀e w' A u,e=.panicked (kF (gJ S.T o.path o.tq))->Fr No w w'->Step (dM K) w' r A u->eG A u K L.tr (jB S.T o.path o.tq)->bH w r K L n (oL S o) e A):=λQ e w' A u J f s t=>by
  have aa:=(Step.no B f).trans s (λ_ e=>e);have:=h.nI ok aa t;rw [show jB S.T o.path o.tq=S.T from AA Q] at this;unfold oL;rw [AA Q];exact ⟨⟨u,aa.mono (λ_ e=>zM e),this⟩,by rw [AA Q];exact J⟩
 have aw:Hid (gJ S.T o.path o.tq=0->∀e w' A V u,e=.returned (lQ 0 0 0 0 0 false)->Fr No w w'->w.heap.size+1<w'.heap.size->Step (dM K) w' r A u->eG A u K L.tr (jB S.T o.path o.tq)->Fr (λj=>j=w.heap.size+1) A V->bH w r K L n (oL S o) e V):=λbf e w' A V u J f aa s t g=>by
  unfold oL;rw [AL bf];have bh:=(Step.no B f).trans s (λ_ e=>e);exact bH.yes B f s (λ_ e=>zM e) X aa g (ok.nI (Jp ok.tree _ _)) (h.nI ok bh t) J (mY.plain _ _ _ _ _ _ _)
 generalize bg:bH w r K L n _=bi at*;clear bg;have bd:Hid (¬dM K (r L.s)):=lH (by rw [h.own];unfold dM;omega);have bb:Hid (¬dM K (r w)):=lH (by rw [B _ (AU _)];unfold dM;omega);have bc:Hid (¬dM K (r (w.heap.size+1))):=lH (by rw [B _ (CE _)];unfold dM;omega);have av:=lH ae;clear ae ad ap h ok B aq ar;unfold yS at an;generalize gJ S.T o.path o.tq=ah at*;generalize jB S.T o.path o.tq=bj at*;unfold dJ aG.cells bU aX.cells at*;go_enter func104,ntmps104;go_wp2_with fail;generalize (w.alloc _).alloc _=w0 at*;have B1:=lH (lt_of_block ak);generalize bm:w.heap.size=E at*;have bk:w0.cell? (I L.s 9)=some (Y L.tr):=av.o.cell 9;have bl:w0.cell? (I E 4)=some (.string (ba o.path)):=aA aj _;have d5:w0.cell? (I E 5)=some (.string (ba o.tq)):=aA aj _;have ay:=lH ak;clear aj ak;go_region_held3 (λw'=>w'.cell? (I L.s 9)=some (Y L.tr)/\w'.cell? (I E 4)=some (.string (ba o.path))/\w'.cell? (I E 5)=some (.string (ba o.tq))) (first|go_keep|(go_split_ands;refine ⟨?_,?_,?_⟩<;>exact H.fr.cell_of (by assumption) (by first|exact bd.o|exact bb.o)))
  ((go_at_call 160;refine (an.o _ (Fr.refl _).drew).mono ?_;rintro e bo ⟨rfl,u,H,ab⟩))
 have be:Hid (E+1<w0.drew.heap.size):=lH (U B1.o);have am:=lH (au.o.trans (Fr.refl w0).drew zq);cases ai:(ah==0) with
 | false=>
  have Q:ah≠0:=by simpa using ai
  have af:=lH (ax.o Q _ _ _ _ rfl am H ab);clear H ab;go_wp2_with fail;refine cr (iD _ _) ?_;rintro bp rfl;go_wp2_with fail;exact ⟨rfl,af⟩
 | true=>
  obtain rfl:ah=0:=by simpa using ai
  have af:=lH (λe V J g=>aw.o rfl e _ _ V _ J am be H ab g);have ao:=lH (H.fr.aB ((Fr.refl (S:=No) w0).drew.aB ay id) bc);clear H ab ai;have bn:∀w':World,(Instr.build 29 #[]).run prog w'=.ok (.agg (cE 0)) w':=λw'=>by kernel_rfl
  go_wp2_with fail;refine cq (iU _ _) ?_;go_wp2_with (refine wS 29 ao ?_);have az:=aW (cs':=(cE 0)) ao.o;exact AZ (v:=lQ 0 0 0 0 0 false) (BH rfl _ _ (E+1) 29 _ (0,0) _ rfl az underlying29 rfl Tryz.size29) rfl
   (af.o _ _ rfl fR)
theorem iF.shape {w B v es} (h:iF w B v es):∃base len cap,v=.slice base len cap:=by
 rcases h with ⟨e,_⟩|⟨b,off,c,e,_⟩;{exact ⟨_,_,_,e⟩};{exact ⟨_,_,_,e⟩}
theorem iF.far {w w' o r g v es cs} (h:iF w o v es) (B:w.heap[g]? =some (.cells cs 29 (0,0))) (f:Fr (λj=>j=g) w w') (aa:o<=r):iF w' r v es:=by
 rcases h with h|⟨b,off,c,e,J,Q,af,⟨cs',H,u⟩,V⟩;{exact .inl h};{(have E:b≠g:=by{intro e;subst e;rw [u] at B;simp at B});have A:=f.aB u E;refine .inr ⟨b,off,c,e,J,AP Q aa,lt_of_block A,⟨cs',H,A⟩,λj x ad=> ?_⟩;exact λi ae ab=>f.cell_of (V j x ad i ae ab) E}
def rH (S:St) (r:aG):Int×aX×St:=
 if (listOf S.T r.path).1=0 then (0,⟨0,0,0,0,0,false,(listOf S.T r.path).2, []⟩,S) else ((listOf S.T r.path).1,bU,S)
theorem Zt (r K n L S o an ag w) (h:aV w r K L S n) (ok:aH S) (u:aF w r) (av:o.path.length<=1000000):
  Calls prog 106 #[Y L.s,.agg (o.cells an ag)] w (bH w r K L n (rH S o)):=by
 obtain ⟨au,aw,am,ad,ab⟩:=begun h ok u o an ag;have ao:=lH au;have ae:Hid (∀w',Fr No (dJ w o an ag) w'->Calls prog 41 #[Y L.tr,(ba o.path)] w' (zA w' (listOf S.T o.path))):=
  lH (λw' f=>aDX r K L.tr S.T o.path w' av ((ad.no ok ab f).tree) ok.tree (noS ab f).fresh)
 have ar:Hid ((listOf S.T o.path).1≠0->∀e w',e=.panicked (kF (listOf S.T o.path).1)->Fr No w w'->bH w r K L n (rH S o) e w'):=λH e w' A f=>by
  unfold rH;rw [AA H];exact bH.no h ok u H A f
 have aq:Hid ((listOf S.T o.path).1=0->∀v e w' B,e=.returned (.agg #[Z 0,Z 0,Z 0,Z 0,Z 0,false,v,nS])->Fr No w w'->w.heap.size+1<w'.heap.size->iF w' w' v (listOf S.T o.path).2->Low w v->(∃cs,w'.heap[w.heap.size+1]? =some (.cells cs 29 (0,0)))->Fr (λj=>j=w.heap.size+1) w' B->bH w r K L n (rH S o) e B):=λbh v e w' B A f bk es bl ak g=>by
  unfold rH;rw [AL bh];obtain ⟨cs,ak⟩:=ak;exact bH.yes (C:=λ_=>False) u f (Step.refl (noS u f).fresh) (λ_ e=>e.elim) X bk g ok (h.no ok u f) A ⟨_,_,rfl,es.far ak g g.size,.inl ⟨rfl,rfl⟩,bl,Low.nil _⟩
 generalize bi:bH w r K L n _=bm at*;clear bi;have az:=lH ad;clear ad ab au h ok u av;unfold zA at ae;generalize listOf S.T o.path=bg at*;obtain ⟨ah,es⟩:=bg;dsimp only at ae ar aq;unfold dJ aG.cells bU aX.cells at*;go_enter func106,ntmps106;go_wp2_with fail;generalize (w.alloc _).alloc _=w0 at*;have B1:=lH (lt_of_block am);generalize bj:w.heap.size=E at*;have bn:w0.cell? (I L.s 9)=some (Y L.tr):=az.o.cell 9;have bo:w0.cell? (I E 4)=some (.string (ba o.path)):=aA aw _;have bc:=lH am;clear aw am;go_region_held3 (λw'=>w'.cell? (I L.s 9)=some (Y L.tr)/\w'.cell? (I E 4)=some (.string (ba o.path))) (first|go_keep|(go_split_ands;refine ⟨?_,?_⟩<;>exact aj.cell_of (by assumption) id))
  ((go_at_call 41;refine (ae.o _ (Fr.refl _).drew).mono ?_;rintro e bq ⟨v,rfl,aj,ai,ax⟩;obtain ⟨J,V,Q,rfl⟩:=ai.shape))
 have aa:=lH ((Fr.refl w0).drew.trans aj zq);have ap:=lH (ao.o.trans aa zq);have bf:=lH (AP B1 aa.o.size);have ay:=lH ai;have be:=lH (show Low E (.slice J V Q) from ax.le (AV (by rw [<-bj];exact ao.o.size) (Fr.refl (S:=No) w0).drew.size));clear aj ai ax;cases al:(ah==0) with
 | false=>
  have H:ah≠0:=by simpa using al
  go_wp2_with fail;refine cr (iD _ _) ?_;rintro br rfl;go_wp2_with fail;exact ⟨rfl,ar H _ _ rfl ap⟩
 | true=>
  obtain rfl:ah=0:=by simpa using al
  have af:=lH (aa.o.aB bc id);have bb:=lH (λe B A g=>aq.o rfl _ e _ B A ap bf ay be ⟨_,af⟩ g);clear al;have bp:∀w':World,(Instr.build 29 #[(6,.slice J V Q)]).run prog w'=.ok (.agg #[Z 0,Z 0,Z 0,Z 0,Z 0,false,.slice J V Q,nS]) w':=λw'=>by kernel_rfl
  go_wp2_with fail;refine cq (iU _ _) ?_;go_wp2_with (refine wS 29 af ?_);have bd:=aW (cs':= #[Z 0,Z 0,Z 0,Z 0,Z 0,false,.slice J V Q,nS]) af.o;exact AZ (v:=.agg _) (BH rfl _ _ (E+1) 29 _ (0,0) _ rfl bd underlying29 rfl Tryz.size29) rfl
   (bb.o _ _ rfl fR)
def nJ:cZ:=⟨0, []⟩
def aS (F:Nat->Option cZ) (i:Nat) (x:Option cZ):Nat->Option cZ:=λj=>if j=i then x else F j
def vZ (w:World):World:=w.alloc (.cells #[true,Z 0,nS] 162)
theorem lN.make {w o K r n F} (h:lN w o K r n F) (aa:aF w o) (i:Nat) (ak:i<=1000000) (al:n<4611686018427387904):
  ∃w',(Instr.mapUpdate 128 (.map (some r)) (Z i) (Y w)).run prog (vZ w)=.ok () w'/\Fr (λk=>k=r) (vZ w) w'/\
   Step (λc=>c=K+6) w o w' (fZ o w (K+3000+i))/\lN w' (fZ o w (K+3000+i)) K r (n+1) (aS F i (some nJ)):=by
 obtain ⟨V,fp,c,aj,ad,ab⟩:=h;have f:Fr No w (vZ w):=(Fr.refl w).alloc _;(have am:(vZ w).heap.size=w.heap.size+1:=by unfold vZ;simp);have ai:(vZ w).heap[w.heap.size]? =some (.cells #[true,Z 0,nS] 162 (0,0)):=aT w _;have J:Step (λ_=>False) w o (vZ w) (fZ o w (K+3000+i)):=⟨f.mono (λ_ _ e=>e.elim),λk B=>dS _ _ X,λk B=>by rw [dS _ _ X];exact aa k X⟩;obtain ⟨ae,E⟩:=ad.step J id;obtain ⟨w',ah,af,g⟩:=ae.put (i:Int) w (show I64 _ by unfold I64;omega) trivial X (t:=128) (e:=63) underlying128;(have ag:w.heap.size≠r:=by{intro e;rw [<-e,mF] at E;rw [e] at E;omega});have s:Step (λc=>c=K+6) w o w' (fZ o w (K+3000+i)):=⟨(f.bC).trans g (λj _ e=>by rw [e];exact V),J.old,λk B=>J.fresh k (AV g.size B)⟩;refine ⟨w',ah,g,s,E.trans V,λj=>if j=i then w.heap.size else fp j,if (kV F fp i).isSome then c else c+1,by split<;>omega,?_,λj m u=> ?_⟩;{(have e:(λz:Int=>if z=(i:Int) then some w.heap.size else kV F fp z)=kV (aS F i (some nJ)) (λj=>if j=i then w.heap.size else fp j):=by{funext z;unfold kV aS;by_cases H:z=i;{subst H;simp};{by_cases Q:0<=z;{(have:z.toNat≠i:=X);simp [H,Q,this]};{simp [H,Q]}}});rw [<-e];exact af};{unfold aS at u;by_cases A:j=i;{rw [AL A] at u;cases u;dsimp only;rw [AL A,A];exact ⟨mF _ _ _,_,g.aB ai ag,.inl ⟨rfl,rfl⟩⟩};{rw [AA A] at u;dsimp only;rw [AA A];exact (ab j m u).step s X X}}
theorem aV.P9 {w w':World} {u r:Nat->Nat} {K n o:Nat} {L:kC} {S:St} {F':Nat->Option cZ} (h:aV w u K L S n) (A:n<=o) (ok:aH S) (s:Step (λc=>c=K+6) w u w' r) (t:lN w' r K L.fl o F'):aV w' r K L {S with F:=F'} o where
 own:=(s.own h.cs).trans h.own
 cs:=s.block h.cs (by rw [h.own];omega)
 win:=h.win.step s X X
 tree:=h.tree.step ok.tree s (λc e=>by unfold dM at e;omega)
 tok:=h.tok.step s X X
 files:=t
 uses:=(h.more A).uses.step s X
theorem aF7:eX nJ:=⟨BA _,by simp [nJ,dA]⟩
theorem aH.uU {S} (ok:aH S) {i} (r:1<=i/\i<=128) {m} (u:eX m):aH {S with F:=aS S.F i (some m)}:=⟨ok.tree,λj x o=>by
 unfold aS at o;dsimp only at o;split at o
 ·rename_i e
  subst e;cases o;exact ⟨r.1,r.2,u⟩
 ·exact ok.file j x o⟩
theorem jM.left_eq {K A:Type} {u:Enc K A} {w b r c m left} {o:Nat} (h:jM u w b r c m left o):w.rangeLeft b r=o:=by
 obtain ⟨D,E,B,_⟩:=h;exact B.left_eq
theorem aV.O8 {w w':World} {A r:Nat->Nat} {K n o:Nat} {L:kC} {S:St} {u:Stp->Option Us} (h:aV w A K L S n) (B:n<=o) (ok:aH S) (s:Step (λc=>c=K+7) w A w' r) (t:wZ w' r K L.us o u):aV w' r K L {S with U:=u} o where
 own:=(s.own h.cs).trans h.own
 cs:=s.block h.cs (by rw [h.own];omega)
 win:=h.win.step s X X
 tree:=h.tree.step ok.tree s (λc e=>by unfold dM at e;omega)
 tok:=h.tok.step s X X
 files:=(h.more B).files.step ok.file s X (λi E c e=>by unfold fO at e;omega)
 uses:=t
def Aj (w:World) (o:Nat->Nat) (K:Nat) (L:kC) (S:St) (n:Nat) (e:Ending) (w':World):Prop:=
 e=.returned (.tuple #[])/\∃o',Step (λc=>c=K+7) w o w' o'/\aV w' o' K L {S with U:=iC S.F S.U} n
def oW (w:World) (lb c:Nat) (g:Stp->Int):Prop:=∃m c',c'<=c/\MapAt vP w lb c' m/\∀x,(m x).getD 0=g x
theorem oW.fr {S w w' o c g} (h:oW w o c g) (f:Fr S w w') (B:¬S o):oW w' o c g:=by
 obtain ⟨m,r,E,u,A⟩:=h;exact ⟨m,r,E,u.fr f B,A⟩
theorem oW.look {w r c g} (h:oW w r c g) (x) (B:iZ x):(Instr.lookup 192 (.map (some r)) (kX x) false).run prog w=.ok (Z (g x)) w:=by
 obtain ⟨m,E,H,u,A⟩:=h;have:=u.look x B (t:=192) (e:=3) underlying192 (z:=Z 0) N false;rw [<-A x];(cases o:m x with|none=>rw [o] at this;exact this|some y=>rw [o] at this;exact this)
theorem oW.entry {w r c g} (h:oW w r c g) (x) (ab:iZ x) (ad:c<4611686018427387904):
  ∃A o,(Instr.mapEntry 192 (.map (some r)) (kX x)).run prog w=.ok (.tuple #[Z (g x),goInt A]) o/\(Instr.mapEntry 192 (.map (some r)) (kX x)).run prog o=.ok (.tuple #[Z (g x),goInt A]) o/\Fr (· =r) w o/\oW o r (c+1) g/\
   ∀y:Int,∃B,(Instr.entryStore 192 (.map (some r)) (goInt A) (Z y)).run prog o=.ok () B/\Fr (· =r) o B/\oW B r (c+1) (λz=>if z=x then y else g z):=by
 obtain ⟨m,H,ae,Q,E⟩:=h;obtain ⟨A,o,u⟩:=Q.entry x ab X (t:=192) (e:=3) underlying192 (z0:=0) trivial (λaf=>by kernel_rfl);(have J:(if (m x).isSome then H else H+1)<=c+1:=by split<;>omega);rw [E x] at u;refine ⟨A,o,u.run,u.again,u.fr,⟨_,_,J,u.map1,λz=> ?_⟩,λy=> ?_⟩;{by_cases e:z=x;{rw [AL e,e];rfl};{rw [AA e];exact E z}};{obtain ⟨B,aa,V,f,_⟩:=u.store y trivial;refine ⟨B,aa,f,_,_,J,V,λz=> ?_⟩;by_cases e:z=x;{show _=if z=x then y else g z;rw [AL e,AL e];rfl};{show _=if z=x then y else g z;rw [AA e,AA e];exact E z}}
structure wM (o:Nat->Nat) (K:Nat) (L:kC) (F:Nat->Option cZ) (fp:Nat->Nat) (w wr:World) (lb rb c:Nat) (left:Int->Bool) (cnt cf:Nat) (g:Stp->Int):Prop where
 fr:Fr No w wr
 live:oW wr lb c g
 rng:jM encI wr L.fl rb cf (kV F fp) left cnt
theorem wM.step {A K L F fp w wr w' u B c r o left g} (h:wM A K L F fp w wr u B c left r o g) (f:Fr No wr w'):wM A K L F fp w w' u B c left r o g:=
 ⟨h.fr.trans f zq,h.live.fr f id,h.rng.fr f id id⟩
theorem rM.fr {S w w' base v L} (h:rM w base v L) (f:Fr S w w') (r:∀j,base<=j->¬S j):rM w' base v L:=by
 rcases h with h|⟨b,cap,e,u,o,A⟩;{exact .inl h};{exact .inr ⟨b,cap,e,u,o,A.fr f (r b o)⟩}
theorem aGG {ops rest o a w w' r} (u:o.guard=none) (t m s x) (A:o.op=.entryStore t m s x) (B:(Instr.entryStore t (a.eval m) (a.eval s) (a.eval x)).run prog w=.ok () w') (h:wpList prog ops r rest (a.put o.dst undef) w'):wpList prog ops r (o::rest) a w:=
 wpList_plain u λK hK=>by
  unfold Oper.wp execOp;simp only [A,Sem.run_bind,B,Result.andThen_ok,Sem.run_pure,Oper.upon,Sem.run_map];exact hK _ _ h
structure Ud (L:kC) (F:Nat->Option cZ) (U:Stp->Option Us) (w wr:World) (lb rb c cl cu:Nat) (left:Stp->Bool) (cnt:Nat):Prop where
 fr:Fr (· =L.us) w wr
 live:oW wr lb cl (iI F)
 le:c<=cu
 rng:∃m,jM x8 wr L.us rb c m left cnt/\∀z,m z=if left z=true then iM U z else iM (iC F U) z
theorem Ov (E K n L S w) (h:aV w E K L S n) (ok:aH S) (de:jQ S.F) (ep:aF w E) (ht:n<=1000000):
  Calls prog 117 #[Y L.s] w (Aj w E K L S n):=by
 (have dd:prog.follows .mixedOrders=true:=N);have ad:=lH h;have gf:=lH ok;have fw:=lH ep;have gg:=lH de;have gl:=lH de.short;obtain ⟨am,fp,aa,el,ck,eq⟩:=h.files;have fx:=lH eq;have bf:Hid (∀i m,S.F i=some m->eX m):=λi m af=>(ok.file i m af).2.2;have ga:Hid (∀i m,S.F i=some m->1<=i/\i<=128):=λi m af=>⟨(ok.file i m af).1,(ok.file i m af).2.1⟩;have bj:Fr No w (w.alloc (.map #[] 0)):=(Fr.refl w).alloc _;obtain ⟨dh,bb,ee,cf,ez⟩:=(ck.fr bj id).range (t:=128) (e:=63) underlying128;have iv:L.fl<w.heap.size:=ck.lt;(have hv:L.fl≠w.heap.size:=X);have di:Fr No w dh:=bj.trans cf zq;have bp:(w.alloc (.map #[] 0)).heap.size=w.heap.size+1:=D
 have fz:Hid (wM E K L S.F fp w dh w (w.heap.size+1) 0 (λx=>(kV S.F fp x).isSome) aa aa (jU S.F (λx=>(kV S.F fp x).isSome))):=lH ⟨di,by
  refine oW.fr (w:=w.alloc (.map #[] 0)) ⟨_,0,AU _,MapAt.made vP w,λx=> ?_⟩ cf id;rw [aGR (λi m af=>by unfold kV;rw [AL X,FH,af];rfl)];rfl,by rw [<-bp];exact ee⟩
 have gj:Hid (∀e w' bu,e=.returned (.tuple #[])->Step (λc=>c=K+7) w E w' bu->aV w' bu K L {S with U:=iC S.F S.U} n->Aj w E K L S n e w'):=λe w' bu hn s t=>⟨hn,bu,s,t⟩;generalize hj:Aj w E K L S n=ij at*;clear hj;have hc:(w.alloc (.map #[] 0)).cell? (I L.s 11)=some (.map (some L.fl)):=bj.cell_of (h.cell 11) id;rw [bp] at bb;(have ja:dh.heap.size=w.heap.size+2:=by rw [ez,bp]);have hl:aa<=1000000:=AV el ht;clear h ok de ep am el ck eq bj ee cf ez bp di;(have ev:(Instr.makeMap 192 none).run prog w=.ok (.map (some w)) (w.alloc (.map #[] 0)):=N);go_enter func117,ntmps117;go_wp2_with fail;generalize hq:w.heap.size=r at*;go_loopw [] (λwr=>∃(left:Int->Bool) (ak c:Nat),Hid (wM E K L S.F fp w wr r (r+1) c left ak aa (jU S.F left))/\c+64*ak<=64*aa) (λwr=>wr.rangeLeft L.fl (r+1));case atStart=>exact ⟨_,_,_,fz,by omega⟩
 case round=>
  obtain ⟨left,ak,c,J,hk⟩:=hrel;rcases J.o.rng.next 0 with ⟨_,az,ah⟩|⟨x,y,ai,al,B,ax,ah,bc,bl,cg,hx,aw⟩
  ·have gd:Hid (oW wr r c (iI S.F)):=lH (by
    have e:iI S.F=jU S.F left:=by{funext z;exact (aDx (λi af=>az (i:Int) (by show I64 _;unfold I64;omega)) z).symm}
    rw [e];exact J.o.live)
   obtain ⟨aj,br⟩:∃aj:World,aj=wr:=⟨_,rfl⟩;have am:Fr No w aj:=br▸J.o.fr;obtain ⟨fc,bi,em,bq⟩:=ad.o.uses;obtain ⟨ih,iy,ef,ae,hy⟩:=(bq.fr am id).range (t:=129) (e:=80) underlying129;have jd:L.us<w.heap.size:=bq.lt;have ik:wr.cell? (I L.s 12)=some (.map (some L.us)):=J.o.fr.cell_of (ad.o.cell 12) id;have jc:r<=aj.heap.size:=hq▸am.size;have it:r<aj.heap.size:=(by rw [br];have:=J.o.rng.lt;omega)
   have hb:Hid (Ud L S.F S.U w ih r aj bi c bi (λx=>(iM S.U x).isSome) bi):=lH ⟨(am.trans ae zq).bC,(br▸gd.o).fr ae id,AU _,_,ef,λz=>by
    cases ab:iM S.U z with
    | some y=>rfl
    | none=>
     have:S.U z=none:=by{unfold iM at ab;(cases h:S.U z with|none=>rfl|some o=>rw [h] at ab;cases ab)}
     simp [iM,iC,this]⟩
   have bh:=lH fc;have gp:=lH bq;have dj:=lH em;subst br;clear fc em bq az J hk ef ae hy bb ev am;go_wp2_with fail;generalize iz:aj.heap.size=ao at*;go_loopw [] (λwr=>∃(left:Stp->Bool) (ak cd:Nat),Hid (Ud L S.F S.U w wr r ao cd c bi left ak)) (λwr=>wr.rangeLeft L.us ao);case atStart=>exact ⟨_,_,_,hb⟩
   case round=>
    obtain ⟨da,he,c2,Q⟩:=hrel;obtain ⟨fj,an,ay⟩:=Q.o.rng;rcases an.next 0 with ⟨_,az,ah⟩|⟨x,y,A,al,B,ax,ah,bc,bl,ch,hz,aw⟩
    ·have dt:=lH (show Step (λc=>c=K+7) w E wr E from ⟨Q.o.fr.mono (λj _ e=>by rw [e];exact bh.o),λ_ _=>rfl,λk co=>fw.o k (AV Q.o.fr.size co)⟩);have fu:Hid (aV wr E K L {S with U:=iC S.F S.U} n):=ad.o.O8 (AU _) gf dt ⟨bh,c2,AV Q.o.le dj,by
      have e:fj=iM (iC S.F S.U):=by{funext z;rw [ay z];by_cases cp:da z=true;{rw [AL cp];(cases ab:iM S.U z with|some y=>have:=az z (gp.o.good ab).1;rw [cp] at this;cases this|none=>(have:S.U z=none:=by{unfold iM at ab;(cases h:S.U z with|none=>rfl|some o=>rw [h] at ab;cases ab)});simp [iM,iC,this])};{rw [AA cp]}}
      rw [<-e];exact an.map⟩
     clear an ay az;go_wp2_with fail;exact IE (v:=.tuple #[]) (by simp [results,results117,go_sem]) rfl (gj.o _ _ _ rfl dt fu)
    ·(obtain ⟨o,hu,rfl⟩:∃o,S.U x=some o/\y=(x,o):=by{rw [ay x,AL ax] at B;unfold iM at B;(cases h:S.U x with|none=>rw [h] at B;cases B|some o=>rw [h] at B;cases B;exact ⟨o,rfl,rfl⟩)});have cn:iZ x:=(an.map.good B).1;have gk:=lH bc;have ca:=Q.o.live.fr ch (show ¬r=ao by omega);obtain ⟨v,cv⟩:∃v,iI S.F x=v:=⟨_,rfl⟩
     have dx:Hid (∀W,Fr No A W->(Instr.lookup 192 (.map (some r)) (kX x) false).run prog W=.ok (Z v) W):=λW f=>by
      rw [<-cv];exact (ca.fr f id).look x cn
     have ej:Fr No A ((A.alloc (.cells (cS x) 46)).alloc (.cells #[x.1,x.2.1,x.2.2,o.1,o.2.1,o.2.2] 80)):=((Fr.refl _).alloc _).alloc _;have ic:=dx.o _ ej;have gx:Hid (((A.alloc (.cells (cS x) 46)).alloc (.cells #[x.1,x.2.1,x.2.2,o.1,o.2.1,o.2.2] 80)).rangeAt A 0 (cS x)):=DV (((Fr.refl (S:=No) _).alloc _).aB (aT A _) id) 0 3;have bz:=lH (Q.o.fr.trans ch (λj er e=>by omega));have hw:(Instr.next (Y ao) false 0).run prog wr=.ok (.tuple #[true,.agg (cS x),.agg #[x.1,x.2.1,x.2.2,o.1,o.2.1,o.2.2]]) A:=ah;have ho:(Instr.entry (Y ao)).run prog A=.ok (.tuple #[.agg (cS x),.agg #[x.1,x.2.1,x.2.2,o.1,o.2.1,o.2.2]]) A:=aw;have dm:=lH bl;have dl:Hid (wr.rangeLeft L.us ao=he):=an.left_eq;have dp:=lH ay;have ge:Hid ((fj x).isSome=true):=lH (by rw [B];rfl);have du:Hid (iC S.F S.U x=if v=0 then none else some (o.1,v,o.2.2)):=lH (by unfold iC;rw [hu];dsimp only;rw [cv]);have gv:=lH ca;unfold kX at ic dx;clear ah aw bc an ch hz B ax bl ay cv ca ej;go_wp2_with (refine EQ R 46 _ R A 0 R (cS x) _ gx underlying46 rfl Tryz.rO ?_);have ek:Fr No A ((A.alloc (.cells (cS x) 46)).alloc (.cells #[x.1,x.2.1,x.2.2,o.1,v,o.2.2] 80)):=((Fr.refl _).alloc _).alloc _;have fg:((A.alloc (.cells (cS x) 46)).alloc (.cells #[x.1,x.2.1,x.2.2,o.1,v,o.2.2] 80)).heap[A.heap.size]? =some (.cells (cS x) 46 (0,0)):=((Fr.refl (S:=No) _).alloc _).aB (aT A _) id;(have fi:((A.alloc (.cells (cS x) 46)).alloc (.cells #[x.1,x.2.1,x.2.2,o.1,v,o.2.2] 80)).heap[A.heap.size+1]? =some (.cells #[x.1,x.2.1,x.2.2,o.1,v,o.2.2] 80 (0,0)):=by{have:=aT (A.alloc (.cells (cS x) 46)) (.cells #[x.1,x.2.1,x.2.2,o.1,v,o.2.2] 80);simpa using this});generalize (A.alloc (.cells (cS x) 46)).alloc (.cells #[x.1,x.2.1,x.2.2,o.1,v,o.2.2] 80)=V at*;have au:Fr No A V.drew:=ek.trans (Fr.refl _).drew zq;have je:L.us<A.heap.size:=(by have:=bz.o.size;omega)
     obtain ⟨H,ew,eb,ar⟩:=(gk.o.fr au id id).aD5 x (x,(o.1,v,o.2.2)) cn ge trivial (by have:=Q.o.le;have:=dj.o;omega) (t:=129) (e:=80) underlying129 (zv:=.agg #[Z 0,Z 0,Z 0,Z 0,Z 0,Z 0]) N;have ex:(Instr.mapUpdate 129 (.map (some L.us)) (.agg (cS x)) (.agg #[x.1,x.2.1,x.2.2,o.1,v,o.2.2])).run prog V.drew=.ok () H:=ew;have gi:=lH ex;have bw:Hid (Fr (· =L.us) w H):=bz.o.trans (au.bC.trans ar zq) zq;have eg:V.drew.cell? (I L.s 12)=some (.map (some L.us)):=by
      have hh:=bz.o.cell_of (ad.o.cell 12) (show ¬L.s=L.us from λe=>by
       have a:=ad.o.own;rw [e,bh.o] at a;omega)
      exact au.cell_of hh id
     have dw:Hid (oW H r c (iI S.F)):=(gv.o.fr au id).fr ar (show ¬r=L.us by omega);have cy:=(Fr.refl (S:=No) V).drew.aB fg id;have cz:=(Fr.refl (S:=No) V).drew.aB fi id;have gy:Hid (V.drew.rangeAt A 0 (cS x)):=DV cy 0 3;have ha:Hid (V.drew.rangeAt (A.heap.size+1) 0 [x.1,x.2.1,x.2.2,o.1,v,o.2.2]):=DV cz 0 6;have ib:=ar.aB cy X;have im:H.cell? (I (A.heap.size+1) 4)=some (Z v):=aA (ar.aB cz X) _;have cc:=lH eb;have fl:=lH eg;clear ek fg fi au ew ex ar eb eg cy cz;refine qL dd (λW=>W=V.drew) [6] N N N N (λ_ _ d _ _ h=>by cases d<;>exact h) rfl ?_;repeat (first
      | refine kR R ?_
      | (refine kM (v:= ?_) R R ?_ ?_
         rotate_left 1;(intro W;go_simp;(try with_reducible rfl))
         simp only [Act.put,lsA,aJ,lsS])
      | (refine kL (v:=.agg (cS x)) R N R (λW u=>lV 46 (.tmp 7) R A 0 R (cS x) _ (by rw [u];exact gy.o) underlying46 rfl Tryz.rO) ?_
         simp only [Act.put,lsA,aJ,lsS])
      | (refine kL (v:=.agg #[x.1,x.2.1,x.2.2,o.1,v,o.2.2]) R N R (λW u=>lV 80 (.tmp 8) R (A.heap.size+1) 0 R [x.1,x.2.1,x.2.2,o.1,v,o.2.2] _ (by rw [u];exact ha.o) underlying80 rfl Tryz.F9) ?_
         simp only [Act.put,lsA,aJ,lsS])
      | (refine kL (v:= ?_) R N R ?_ ?_
         rotate_left 1;(intro W u;have eh:W.cell? (I L.s 12)=some (.map (some L.us)):=(by rw [u];exact fl.o);clear u;go_simp;(try with_reducible rfl))
         simp only [Act.put,lsA,aJ,lsS]))
     intro W u;obtain rfl:W=V.drew:=u;simp only [CX,DL,DC,CQ];have ix:=gi.o;cases fd:(v==0) with
     | false=>
      have ia:v≠0:=(by simpa using fd);go_wp2_with fail;refine ⟨⟨λz=>da z&&decide (z≠x),al,c2,lH ⟨bw,dw,Q.o.le,_,cc,λz=> ?_⟩⟩,?_⟩;{by_cases e:z=x;{subst e;simp only [ne_eq,not_true_eq_false,decide_false,Bool.and_false,IJ,DT,GG];unfold iM;rw [du.o,AA ia];rfl};{simp only [e,GG,ne_eq,not_false_eq_true,decide_true,Bool.and_true];exact dp.o z}};{rw [cc.o.left_eq,dl.o];exact dm.o}
     | true=>
      obtain rfl:v=0:=(by simpa using fd)
      obtain ⟨dg,hf,en,ec,et,ce⟩:=(cc.o.fr (Fr.refl (S:=No) H).drew id id).aAV x cn (t:=129) (e:=80) underlying129 0;have eo:(Builtin.delete_ #[129,46] 0 #[.map (some L.us),.agg (cS x)]).run prog H.drew=.ok (.tuple #[]) dg:=en;have ft:=lH eo;have fh:=(Fr.refl (S:=No) H).drew.aB ib id;have gz:Hid (H.drew.rangeAt A 0 (cS x)):=DV fh 0 3;have fo:Hid (H.drew.cell? (I L.s 12)=some (.map (some L.us))):=(Fr.refl (S:=No) H).drew.cell_of (bw.o.cell_of (ad.o.cell 12) (show ¬L.s=L.us from λe=>by
       have a:=ad.o.own;rw [e,bh.o] at a;omega)) id
      have fq:Hid (Fr (· =L.us) w dg):=bw.o.trans ((Fr.refl (S:=No) H).drew.bC.trans ce zq) zq;have gu:Hid (oW dg r c (iI S.F)):=(dw.o.fr (Fr.refl (S:=No) H).drew id).fr ce (show ¬r=L.us by omega);have ed:=lH ec;have gc:=lH et;clear en eo ec et ce fh;go_wp2_with fail;refine qL dd (λW=>W=H.drew) [5] N N N N (λ_ _ d _ _ h=>by cases d<;>exact h) rfl ?_;repeat (first
       | refine kR R ?_
       | (refine kM (v:= ?_) R R ?_ ?_
          rotate_left 1;(intro W;go_simp;(try with_reducible rfl))
          simp only [Act.put,lsA,aJ,lsS])
       | (refine kL (v:=.agg (cS x)) R N R (λW u=>lV 46 (.tmp 7) R A 0 R (cS x) _ (by rw [u];exact gz.o) underlying46 rfl Tryz.rO) ?_
          simp only [Act.put,lsA,aJ,lsS])
       | (refine kL (v:= ?_) R N R ?_ ?_
          rotate_left 1;(intro W u;have eh:W.cell? (I L.s 12)=some (.map (some L.us)):=(by rw [u];exact fo.o);clear u;go_simp;(try with_reducible rfl))
          simp only [Act.put,lsA,aJ,lsS]))
      intro W u;obtain rfl:W=H.drew:=u;simp only [CX,DL,DC,CQ];have ip:=ft.o;go_wp2_with fail;refine ⟨⟨λz=>(da z&&decide (z≠x))&&decide (z≠x),hf,_,lH ⟨fq,gu,?_,_,ed,λz=> ?_⟩⟩,?_⟩;{(have hr:∀b:Bool,(if b=true then c2 - 1 else c2)<=c2:=λb=>by cases b<;>simp);exact AV (hr _) Q.o.le};{by_cases e:z=x;{subst e;simp only [ne_eq,not_true_eq_false,decide_false,Bool.and_false,IJ,DT,GG];unfold iM;rw [du.o];rfl};{simp only [e,GG,ne_eq,not_false_eq_true,decide_true,Bool.and_true];exact dp.o z}};{rw [ed.o.left_eq,dl.o];have:=dm.o;have:=gc.o;omega}
  ·(obtain ⟨i,m,ag,rfl,rfl⟩:∃(i:Nat) (m:cZ),S.F i=some m/\x=(i:Int)/\y=fp i:=by{unfold kV at B;split at B;{(cases cj:S.F x.toNat with|none=>rw [cj] at B;cases B|some m=>rw [cj] at B;cases B;exact ⟨x.toNat,m,cj,by omega,rfl⟩)};{cases B}});have iq:=ga.o i m ag;have bx:Fr No w ai:=J.o.fr.trans cg (λj er e=>by omega);have dv:Hid (wM E K L S.F fp w ai r (r+1) c (λz=>left z&&decide (z≠(i:Int))) al aa (jU S.F left)):=lH ⟨bx,J.o.live.fr cg X,bc⟩;have gh:=lH (aCG (fp i) m ai ((fx.o i m ag).reads.fr bx) (by have:=(bf.o i m ag).2;have:=(bf.o i m ag).1;unfold dA at*;omega));obtain ⟨ci,cl⟩:∃ci,jU S.F (λz=>left z&&decide (z≠(i:Int)))=ci:=⟨_,rfl⟩;have fy:=lH cl;have gb:Hid (∀x,ci x=jU S.F left x+eF (ptrs m) x):=λx=>by rw [<-cl];exact aDp ag X ax x
   have fs:Hid (∀x,0<=jU S.F left x/\jU S.F left x<=528384):=λx=>Jb gl bf left x;have bg:Hid ((ptrs m).length<=64):=Ot (bf.o i m ag);have dr:Hid (∀p∈ptrs m,dW p):=λp ct=>gg.o i m ag p (FC.1 ct).1;have hw:(Instr.next (Y (r+1)) false 0).run prog wr=.ok (.tuple #[true,i,Y (fp i)]) ai:=ah;have ho:(Instr.entry (Y (r+1))).run prog ai=.ok (.tuple #[i,Y (fp i)]) ai:=aw;have hi:Hid (wr.rangeLeft L.fl (r+1)=ak):=J.o.rng.left_eq;clear ah aw bc cg hx B ax ev bb hc bx cl;generalize ptrs m=P at*;generalize jU S.F left=g at*;go_wp2_with fail;refine gh.o.mono ?_;rintro e ig ⟨v,rfl,pn,ei⟩;obtain ⟨base,cap,rfl⟩:=pn.val.slice;have gt:=lH (dv.o.step ei);have cb:=lH pn;have ir:r+1<ai.heap.size:=dv.o.rng.lt;have cb:Hid (rM ig (r+1) (.slice base P.length cap) P):=lH (by
    rcases cb.o with h|⟨b,cd,e,bn,io,bb⟩;{exact .inl h}
    ·exact .inr ⟨b,cd,e,bn,by omega,bb⟩)
   clear pn ei;go_wp2_with fail;go_loopw [22] (λa wr=>∃j:Nat,a=Z j/\j<=P.length/\Hid (wM E K L S.F fp w wr r (r+1) (c+j) (λz=>left z&&decide (z≠(i:Int))) al aa (λx=>g x+eF (P.take j) x))/\Hid (rM wr (r+1) (.slice base P.length cap) P)) (λa _=>P.length - (intOf a).toNat);(case atStart=>refine ⟨0,rfl,BA _,lH ?_,cb⟩;(have e:(λx=>g x+eF (P.take 0) x)=g:=by{funext x;simp [eF]});rw [e];exact gt.o)
   case round=>
    obtain ⟨j,rfl,er,ap,dq⟩:=hrel;by_cases bm:j<P.length
    ·obtain ⟨b,rfl,bn,cu⟩:=dq.o.val.row X;have ds:=lH (cu.row j P[j] (AC bm));have iu:=cu.len;have iw:cap<=9223372036854775807:=bn;have ie:(j:Int)<(P.length:Int):=X;have jh:(j:Int)<(cap:Int):=X;have ji:(0:Int)<=(j:Int):=X
     have gn:Hid (∀z,g z+eF (P.take (j+1)) z=g z+eF (P.take j) z+if gV P[j]=z then P[j].z else 0):=λz=>by
      rw [DJ,AC bm,JP,Wj];omega
     obtain ⟨cm,jf,jg⟩:=qX (dr.o P[j] (BF bm));have ii:=fs.o (gV P[j]);have dk:=Gs (L:=P.take j) (λp ct=>(qX (dr.o p (FU ct))).2) (gV P[j]);rw [BZ] at dk;have hp:min j P.length=j:=X;rw [hp] at dk;generalize P[j]=x at*;obtain ⟨y,cx⟩:∃y,g (gV x)+eF (P.take j) (gV x)=y:=⟨_,rfl⟩;have ae:Fr No wr (wr.alloc (.cells (cP x) 59)):=(Fr.refl wr).alloc _;have fe:=aT wr (.cells (cP x) 59);have aq:=ap.o.step (ae.trans (Fr.refl _).drew zq);have ea:=dq.o.fr (ae.trans (Fr.refl _).drew zq) zq;(have hm:c+j<4611686018427387904:=by{have:=bg.o;have:=hl;omega});obtain ⟨df,bd,bo,eu,av,dy,fa⟩:=aq.live.entry (gV x) cm hm;rw [cx] at bo eu;obtain ⟨bv,fb,bk,dz⟩:=fa (y+x.z);have cw:wrap64 (y+x.z)=y+x.z:=by{have:=bg.o;unfold wrap64;omega}
     have db:=aq.live.look (gV x) cm;have dc:=dy.look (gV x) cm;rw [cx] at db dc;have gs:Hid (wM E K L S.F fp w bv r (r+1) (c+(j+1)) (λz=>left z&&decide (z≠(i:Int))) al aa (λz=>g z+eF (P.take (j+1)) z)):=lH ⟨aq.fr.trans (av.trans bk zq) (λk co e=>by omega),by
      have e:(λz=>g z+eF (P.take (j+1)) z)=(λz=>if z=gV x then y+x.z else g z+eF (P.take j) z):=by{funext z;rw [gn.o z];by_cases e:z=gV x;{subst e;rw [AL rfl,AL rfl,cx]};{rw [AA e,AA (λh=>e h.symm)];omega}}
      rw [e];exact dz,aq.rng.fr (av.trans bk zq) hv X⟩
     have gw:Hid (rM bv (r+1) (O b P.length cap) P):=ea.fr (av.trans bk zq) (λk co e=>by omega);have bt:=(Fr.refl (S:=No) _).drew.aB fe id;have hs:wr.heap.size≠r:=(by have:=ap.o.rng.lt;omega)
     have be:Hid (∀(d:Bool) W,(if d=true then W=bd else W=(wr.alloc (.cells (cP x) 59)).drew)->W.rangeAt wr 0 [x.c,x.l,x.n]/\W.cell? (I wr 4)=some (Z x.z)/\(Instr.lookup 192 (.map (some r)) (kX (gV x)) false).run prog W=.ok (Z y) W):=λd W u=>by
      (cases d with|true=>obtain rfl:W=bd:=u;have ff:=av.aB bt hs;exact ⟨DV ff 0 3,by rw [aA ff];rfl,dc⟩|false=>obtain rfl:W=_:=u;exact ⟨DV bt 0 3,by rw [aA bt];rfl,db⟩)
     have dn:=lH bo;have gm:=lH fb;have gr:=lH cw;have gq:Hid (IntKind.i64.wrap (y+x.z)=y+x.z):=lH (by rw [BG];have:=bg.o;omega);unfold bZ at ds;unfold kX gV at be dn;clear cu bn ae aq ea fa bo eu av dy fb bk dz db dc bt fe ap cw;go_wp2_with (refine EQ R 59 _ R b (j*5) R (cP x) _ ds underlying59 rfl Tryz.rC ?_);generalize wr.alloc (.cells (cP x) 59)=fk at*;generalize wr.heap.size=hg at*;refine Yu dd (λd W=>if d=true then W=bd else W=fk.drew) 7 [7,8,9] [9] N N N N (λ_ _ d _ _ h=>by cases d<;>exact h) rfl ?_;repeat (first
      | refine Ul R ?_
      | (refine Vl (v:= ?_) R R ?_ ?_
         rotate_left 1;(intro W;have cw:=gr.o;go_simp;(try with_reducible rfl))
         simp only [Act.put,lsA,aJ,lsS])
      | (refine F5 (v:=.agg #[x.c,x.l,x.n]) R N R (λd W u=>lV 46 (.tmp 27) R hg 0 R [x.c,x.l,x.n] _ (be.o d W u).1 underlying46 rfl Tryz.rO) ?_
         simp only [Act.put,lsA,aJ,lsS])
      | (refine F5 (v:= ?_) R N R ?_ ?_
         rotate_left 1;(intro d W u;have eh:=(be.o d W u).2.1;have il:=(be.o d W u).2.2;go_simp;(try with_reducible rfl))
         simp only [Act.put,lsA,aJ,lsS]))
     unfold oV;refine Nh (v:=.tuple #[y,goInt df]) R R R (λW u=>⟨bd,by obtain rfl:W=fk.drew:=u;have bo:=dn.o;go_simp,rfl⟩) ?_;simp only [Act.put,lsA,aJ,lsS];refine Nh (v:=goInt df) R R R (λW u=>⟨W,by go_simp,u⟩) ?_;simp only [Act.put,lsA,aJ,lsS];refine Vr R R ?_;intro W u;obtain rfl:W=bd:=u;simp only [EE,FW,GK,EH,ES,List.getElem_toArray,List.getElem_cons_succ,List.getElem_cons_zero,Act.put,lsA,aJ,lsS];refine aGG rfl 192 (.tmp 26) (.tmp 34) (.tmp 32) rfl (w':=bv) (by show (Instr.entryStore 192 (.map (some r)) (Z df) (Z (IntKind.i64.wrap (y+x.z)))).run prog W=.ok () bv;rw [show IntKind.i64.wrap (y+x.z)=y+x.z from gq.o];exact gm.o) ?_;go_wp2_with fail;refine ⟨⟨j+1,by go_num,bm,gs,gw⟩,?_⟩;simp [intOf];omega
    {(obtain rfl:j=P.length:=by omega);have ie:¬(P.length:Int)<(P.length:Int):=X;go_wp2_with fail;refine ⟨⟨λz=>left z&&decide (z≠(i:Int)),al,c+P.length,lH ?_,?_⟩,?_⟩;{(have e:(λx=>g x+eF (P.take P.length) x)=jU S.F (λz=>left z&&decide (z≠(i:Int))):=by{funext x;rw [fy.o,gb.o x,AX]});have:=ap.o;rw [e] at this;exact this};{have:=bg.o;omega};{rw [ap.o.rng.left_eq,hi.o];exact bl}}
def Tried (w:World) (o:Nat->Nat) (K:Nat) (L:kC) (n:Nat) (x:aX×St) (e:Ending) (w':World):Prop:=
 (∃o',Step (bD K) w o w' o'/\aV w' o' K L x.2 n)/\∃v,e=.returned v/\mY w w' v x.1
def fG (x:Int×aX×St):aX×St:=if x.1=0 then x.2 else (jD x.1 0 0 0 0 false,x.2.2)
theorem mY.other {n w w' r cs V v H} (h:mY n w v H) (E:w.heap[r]? =some (.cells cs 29 V)) (ae:∀(j:Nat) (x:Int),cs[j]? ≠some (.int .u8 x)) (f:Fr (λk=>k=r) w w'):mY n w' v H:=by
 obtain ⟨Q,af,rfl,A,B,ab⟩:=h;refine ⟨Q,af,rfl,?_,?_,ab⟩;{rcases A with A|⟨b,off,c,e,a1,a2,a3,⟨cs',aa,a4⟩,J⟩;{exact .inl A};{(have o:b≠r:=by{intro e;rw [e,E] at a4;simp at a4});exact .inr ⟨b,off,c,e,a1,AP a3 f.size,AP a3 f.size,⟨cs',aa,f.aB a4 o⟩,λj x u i ag ad=>f.cell_of (J j x u i ag ad) o⟩}};{rcases B with B|⟨b,off,c,⟨e,a1,a2,a3⟩,a4⟩;{exact .inl B};{refine .inr ⟨b,off,c,⟨e,a1,AP a2 f.size,λj x u=> ?_⟩,AP a2 f.size⟩;by_cases o:b=r;{have:=a3 j x u;rw [o,aA E] at this;exact absurd this (ae _ _)};{exact f.cell_of (a3 j x u) o}}}
theorem mY.le {n m w v r} (h:mY n w v r) (o:m<=n):mY m w v r:=by
 obtain ⟨u,J,e,A,B,E,H⟩:=h;exact ⟨u,J,e,A,B,E.le o,H.le o⟩
theorem Wu (B:aX) (o r) (u:∀x:Int,o≠ .int .u8 x) (A:∀x:Int,r≠ .int .u8 x) (j:Nat) (x):(B.cells o r)[j]? ≠some (.int .u8 x):=by
 intro h;unfold aX.cells at h;(match j,h with|0,h=>simp at h|1,h=>simp at h|2,h=>simp at h|3,h=>simp at h|4,h=>simp at h|5,h=>simp at h|6,h=>exact u x (U h)|7,h=>exact A x (U h)|(k+8),h=>simp at h)
theorem iF.one {w B v es} (h:iF w B v es):v.oneCell'=true:=by
 rcases h with ⟨rfl,_⟩|⟨_,_,_,rfl,_⟩<;>rfl
theorem iL.one {w B v es} (h:iL w B v es):v.oneCell'=true:=by
 rcases h with ⟨rfl,_⟩|⟨_,_,_,⟨rfl,_⟩,_⟩<;>rfl
theorem aX.cells_one {B:aX} {o r} (u:o.oneCell'=true) (A:r.oneCell'=true):(B.cells o r).all (·.oneCell')=true:=by
 have a:∀k x,(Value.int k x).oneCell'=true:=λ_ _=>rfl;have b:∀x,(Value.bool x).oneCell'=true:=λ_=>rfl;simp [aX.cells,u,A,a,b]
theorem sK (fn) (bf:fn=63\/fn=64\/fn=65\/fn=102\/fn=103\/fn=104\/fn=105\/fn=106\/fn=107\/fn=108\/fn=109) (J K n L x Q V A w) (ag:aF w J) (ok:aH x.2.2) (ar:Calls prog fn #[Y L.s,.agg (Q.cells V A)] (dJ w Q V A) (bH (dJ w Q V A) J K L n x)):
  Calls prog 62 #[Y L.s,.func (Fn.func fn) #[] #[],.agg (Q.cells V A)] w (Tried w J K L n (fG x)):=by
 have bm:∀(fn:Fn) (first cap:Array Value) (w:World),(Instr.makeFunc fn first cap).run prog w=.ok (.func fn first cap) w:=λ_ _ _ _=>rfl;have af:Fr No w (dJ w Q V A):=((Fr.refl w).alloc _).alloc _;have ab:(dJ w Q V A).heap[w.heap.size+1]? =some (.cells (bU.cells (nS) (nS)) 29 (0,0)):=by{have:=aT (w.alloc (.cells (Q.cells V A) 36)) (.cells (bU.cells (nS) (nS)) 29);unfold dJ;simpa using this}
 have bc:=lH ar;have ai:Hid (∀e u,bH (dJ w Q V A) J K L n x e u->u.heap[w.heap.size+1]? =some (.cells (bU.cells (nS) (nS)) 29 (0,0))/\
   ((∃B H,e=.returned (.agg (x.2.1.cells B H))/\(x.2.1.cells B H).all (·.oneCell')=true/\∀o,Fr (λk=>k=w.heap.size+1) u o->Tried w J K L n (fG x) (.returned (.agg (x.2.1.cells B H))) o)\/
    (e=.panicked (kF x.1)/\∀o,Fr (λk=>k=w.heap.size+1) u o->Tried w J K L n (fG x) (.returned (.agg (rep x.1 0))) o))):=lH (by
  rintro e u ⟨⟨az,aq,bb⟩,aa⟩;have au:=lt_of_block ab;have be:=ag _ (CE _);have ay:=aq.block ab (by rw [be];unfold bD;omega);refine ⟨ay,?_⟩;by_cases ae:x.1=0;{rw [AL ae] at aa;obtain ⟨v,rfl,aw⟩:=aa;have bh:=aw.le af.size;obtain ⟨B,H,rfl,aa,bg,_⟩:=aw;refine .inl ⟨B,H,rfl,aX.cells_one aa.one bg.one,λo E=> ?_⟩;obtain ⟨a,b⟩:=Am ag af aq (CE _) au E;refine ⟨⟨az,a,?_⟩,_,rfl,?_⟩;{unfold fG;rw [AL ae];exact bb.step ok b (λc h e=>by unfold bD at h;omega)};{unfold fG;rw [AL ae];exact bh.other ay (Wu _ _ _ (by simp) (by simp)) E}}
  ·rw [AA ae] at aa;refine .inr ⟨aa,λo E=> ?_⟩;obtain ⟨a,b⟩:=Am ag af aq (CE _) au E;unfold fG;rw [AA ae];exact ⟨⟨az,a,bb.step ok b (λc h e=>by unfold bD at h;omega)⟩,_,rfl,mY.plain _ _ _ _ _ _ _⟩)
 generalize bH _ J K L n x=D at*;generalize Tried w J K L n _=bl at*;clear ab af ag ok ar;obtain ⟨bj,r,bk⟩:=x;dsimp only at ai;clear bk;unfold dJ aG.cells bU aX.cells at*;rcases bf with rfl|rfl|rfl|rfl|rfl|rfl|rfl|rfl|rfl|rfl|rfl;(all_goals go_enter_defers func62,ntmps62;go_wp2_with fail;(with_reducible refine bc.o.mono ?_);rintro e u ao;obtain ⟨ab,ao⟩:=ai.o e u ao;have ak:=lH ab;clear ab ai;rcases ao with ⟨B,H,rfl,av,ad⟩|⟨rfl,ad⟩;{have bd:=lH av;have aj:=lH ad;clear av ad;go_wp2_with (refine BR rfl 29 (.tmp 6) (.tmp 11) rfl (w.heap.size+1) #[r.e,r.ino,r.size,r.handle,r.swaps,r.dir,B,H] rfl rfl 29 _ ak Tryz.size29 rfl bd ?_);go_wp2_with fail;refine MZ (f:=110) (args:= #[Y (w.heap.size+1)]) (by simp) (by simp [go_sem]) ?_;refine (catch_idle (I (w.heap.size+1) 0) _).mono ?_;rintro e bi o ⟨rfl,rfl,ax⟩;have E:=ax▸(Fr.setRow (S:=λk=>k=w.heap.size+1) (Fr.refl u) (.inl rfl) _).alloc _;(have ap:o.heap[w.heap.size+1]? =some (.cells #[r.e,r.ino,r.size,r.handle,r.swaps,r.dir,B,H] 29 (0,0)):=by{rw [ax];exact ((Fr.refl (S:=No) _).alloc _).aB (aW ak.o) id});obtain ⟨al,c1,c2,c3,c4,c5,am,an⟩:=tY ap;have ah:=aj.o o E;simp [Leaves,settle,results,results62,go_sem,al,c1,c2,c3,c4,c5,am,an];exact ah};{have aj:=lH ad;clear ad;refine MZ (f:=110) (args:= #[Y (w.heap.size+1)]) (by simp) (by simp [go_sem]) ?_;refine (aDL (w.heap.size+1) bj u _ ak rfl).mono ?_;rintro e bi o ⟨rfl,rfl,E,ap⟩;have ah:=aj.o o E;unfold rep at ah;obtain ⟨al,c1,c2,c3,c4,c5,am,an⟩:=tY ap;simp [Leaves,settle,results,results62,go_sem,al,c1,c2,c3,c4,c5,am,an];exact ah})
def sJ (s:lI) (x:Pt):lI:=dN (dN (dN (dN (dN s x.c 1) x.l 3) x.n 4) x.a 2) x.z 1
def tK (s:lI) (m:cZ):lI:=m.l.foldl sJ (dN s m.size 2)
theorem Pg.is {w p base s} (h:Pg w p base s):∃cs,w.heap[p]? =some (.cells cs 149 (0,0)):=by
 obtain ⟨v,o,_⟩:=h;exact ⟨_,o⟩
theorem xH {w w'} {p base k:Nat} {s cs t r} (h:Pg w p base s) (f:Fr (Pf w p base) w w') (o:w.heap[k]? =some (.cells cs t r)) (B:t≠5) (u:t≠149):w'.heap[k]? =some (.cells cs t r):=
 pV f o B (λe=>by
  obtain ⟨c2,A⟩:=h.is;rw [e,A] at o;simp only [FQ,Obj.cells.injEq] at o;exact u o.2.1.symm)
theorem bF.pf {α:Type} {c n t w w' p base b cap s} {L:List α} (h:bF c n t w b cap L) (g:Pg w p base s) (f:Fr (Pf w p base) w w') (J:t≠5) (A:t≠149):bF c n t w' b cap L:=by
 obtain ⟨⟨u,o,B⟩,E,H⟩:=h;have r:=xH g f o J A;exact ⟨⟨u,r,B⟩,E,λj x Q i V hu=>by
  have:=H j x Q i V hu;rw [aA o] at this;rw [aA r];exact this⟩
theorem pG.pf {w w' p base k s m} (h:pG w k m) (g:Pg w p base s) (f:Fr (Pf w p base) w w'):pG w' k m:=by
 obtain ⟨v,r,o⟩:=h;refine ⟨v,xH g f r G G,?_⟩;rcases o with o|⟨b,cap,e,u,A⟩;{exact .inl o};{exact .inr ⟨b,cap,e,u,A.pf g f G G⟩}
def wO (w:World) (p base:Nat) (s:lI) (e:Ending) (w':World):Prop:=e=.returned (.tuple #[])/\Pg w' p base s/\Fr (Pf w p base) w w'
theorem aBO (p base s x w) (h:Pg w p base s):Calls prog 136 #[Y p,dG x] w (wO w p base (sJ s x)):=by
 have r:Fr No w (w.alloc (.cells (cP x) 59)):=(Fr.refl w).alloc _;have H:=aT w (.cells (cP x) 59);have aw:Hid (∀e w',e=.returned (.tuple #[])->Pg w' p base (sJ s x)->Fr (Pf w p base) w w'->wO w p base (sJ s x) e w'):=λe w' a b c=>⟨a,b,c⟩;have bd:Hid (sJ s x=dN (dN (dN (dN (dN s x.c 1) x.l 3) x.n 4) x.a 2) x.z 1):=lH rfl;generalize bc:wO w p base _=bi at*;clear bc;have aa:=lH (h.no r);have am:Hid (Fr (Pf w p base) w (w.alloc (.cells (cP x) 59))):=r.bC;have ax:=lH H;generalize bk:w.alloc _=w0 at*;generalize bj:w.heap.size=o at*;have bl:w0.cell? (I o 0)=some (Z x.c):=aA H _;clear r H h;unfold dG;go_enter func136,ntmps136;go_wp2_with fail;refine cr (vH p base 1 s x.c G G _ aa) ?_;rintro be ⟨ag,u⟩;have J:=xH aa u ax G G;have an:=lH (mD am u);have ab:=lH ag;have ay:=lH J;have bm:be.cell? (I o 1)=some (Z x.l):=aA J _;clear ag u J;go_wp2_with fail;refine cr (vH p base 3 _ x.l G G _ ab) ?_;rintro bf ⟨ah,A⟩;have Q:=xH ab A ay G G;have ao:=lH (mD an A);have ad:=lH ah;have az:=lH Q;have bn:bf.cell? (I o 2)=some (Z x.n):=aA Q _;clear ah A Q;go_wp2_with fail;refine cr (vH p base 4 _ x.n G G _ ad) ?_;rintro bg ⟨ai,B⟩;have V:=xH ad B az G G;have ap:=lH (mD ao B);have ae:=lH ai;have bb:=lH V;have bo:bg.cell? (I o 3)=some (Z x.a):=aA V _;clear ai B V;go_wp2_with fail;refine cr (vH p base 2 _ x.a G G _ ae) ?_;rintro bh ⟨aj,E⟩;have al:=xH ae E bb G G;have aq:=lH (mD ap E);have au:=lH aj;have bp:bh.cell? (I o 4)=some (Z x.z):=aA al _;clear aj E al;go_wp2_with fail;refine cr (vH p base 1 _ x.z G G _ au) ?_;rintro bq ⟨ak,af⟩;have ar:=lH (mD aq af);have av:=lH ak;clear ak af;go_wp2_with fail;exact IE (v:=.tuple #[]) (by simp [results,results136,go_sem]) rfl (aw.o _ _ rfl (by rw [bd.o];exact av.o) ar)
theorem aDE (k p base s m w) (h:Pg w p base s) (ak:pG w k m):Calls prog 72 #[Y k,Y p] w (wO w p base (tK s m)):=by
 have ay:Hid (∀e w',e=.returned (.tuple #[])->Pg w' p base (tK s m)->Fr (Pf w p base) w w'->wO w p base (tK s m) e w'):=λe w' a b c=>⟨a,b,c⟩;have bh:Hid (tK s m=m.l.foldl sJ (dN s m.size 2)):=lH rfl;generalize bg:wO w p base _=bk at*;generalize tK s m=bd at*;clear bg;have ar:=lH ak;obtain ⟨v,r,an⟩:=ak;obtain ⟨ao,u,rfl⟩:=an.slice;have be:w.cell? (I k 0)=some (.bool true):=aA r _;have c1:w.cell? (I k 1)=some (Z m.size):=aA r _;have ae:=lH (vH p base 2 s m.size G G w h);have ab:=lH h;have ax:=lH r;clear r an h;go_enter func72,ntmps72;go_wp2_with fail;refine cr ae.o ?_;rintro A ⟨ai,o⟩;have V:=xH ab o ax G G;have c2:A.cell? (I k 2)=some (.slice ao m.l.length u):=aA V _;have aa:=lH ai;have ap:=lH o;have au:=lH (ar.o.pf ab o);have bb:Hid (qF A (.slice ao m.l.length u) m.l):=lH (by
  obtain ⟨bq,H,bf⟩:=au.o;rw [V] at H;simp only [FQ,Obj.cells.injEq,Array.mk.injEq,II,and_true,true_and] at H;rw [H];exact bf)
 clear ai o V be c1 ae;go_wp2_with fail;go_loopw [26] (λa wr=>∃j:Nat,a=Z j/\j<=m.l.length/\Hid (Pg wr p base ((m.l.take j).foldl sJ (dN s m.size 2)))/\Hid (Fr (Pf A p base) A wr)) (λa _=>m.l.length - (intOf a).toNat);(case atStart=>exact ⟨0,rfl,BA _,lH (by rw [FY,MR];exact aa.o),lH (Fr.refl _)⟩);(case round=>obtain ⟨j,rfl,bl,ad,B⟩:=hrel;by_cases J:j<m.l.length;{obtain ⟨b,rfl,al,Q⟩:=bb.o.row X;have am:=Q.pf aa B G G;have af:=lH (am.row j m.l[j] (AC J));have bm:=Q.len;have bn:u<=9223372036854775807:=al;have bi:(j:Int)<(m.l.length:Int):=X;have bo:(j:Int)<(u:Int):=X;have bp:(0:Int)<=(j:Int):=X;have az:Hid (m.l.take (j+1)=m.l.take j++ [m.l[j]]):=lH (by rw [DJ,AC J];rfl);generalize m.l[j]=x at*;unfold bZ at af;have E:=lH (aBO p base _ x _ (ad.o.no ((Fr.refl wr).alloc (.cells (cP x) 59))));unfold dG wO at E;have ah:Fr No wr (wr.alloc (.cells (cP x) 59)):=(Fr.refl wr).alloc _;have aq:=lH ah;clear Q am al ah;go_wp2_with (refine EQ R 59 _ R b (j*5) R (cP x) _ af underlying59 rfl Tryz.rC ?_);refine cr E.o ?_;rintro bj ⟨aj,ag⟩;have aw:Hid (Pg bj p base ((m.l.take (j+1)).foldl sJ (dN s m.size 2))):=lH (by rw [az.o,JC];exact aj);have av:=lH (mD (mD B aq.o.bC) ag);clear aj ag E;go_wp2_with fail;go_roundw;{exact ⟨j+1,by go_num,J,aw,av⟩};simp [intOf];omega};{(obtain rfl:j=m.l.length:=by omega);have bi:¬(m.l.length:Int)<(m.l.length:Int):=X;have bc:Hid (Pg wr p base bd):=lH (by rw [bh.o];have:=ad.o;rwa [AX] at this);go_wp2_with fail;exact IE (v:=.tuple #[]) (by simp [results,results72,go_sem]) rfl (ay.o _ _ rfl bc (mD ap B))})
def mW (m:cZ):List UInt8:=(tK ([],0) m).1
def Fe (m:cZ):Prop:=(tK ([],0) m).2=0/\mW m≠ []
def qU (i:Nat) (m:cZ) (h:Int):aX:=⟨0,i,m.size,h,0,false, [],mW m⟩
def Me (w:World) (i:Nat) (m:cZ) (e:Ending) (w':World):Prop:=
 ∃v b c,e=.returned (.agg #[Z 0,i,m.size,Z 0,Z 0,false,nS,v])/\Fr No w w'/\fH w' v (mW m) b 0 c/\w.heap.size<=b
theorem P5 (bk K n L S i m w) (h:aV w bk K L S n) (bh:i<=1000000) (aa:S.F i=some m) (an:Fe m):
  Calls prog 162 #[Y L.s,i] w (Me w i m):=by
 have fA:Fr No w (w.alloc (.cells (cE 0) 29)):=(Fr.refl w).alloc _;have o:Fr No w ((w.alloc (.cells (cE 0) 29)).alloc (.cells #[nS,Z 0] 149)):=fA.alloc _;have B:=Tm (w.alloc (.cells (cE 0) 29));rw [show (w.alloc _).heap.size=w.heap.size+1 by simp] at B;have ap:((w.alloc (.cells (cE 0) 29)).alloc (.cells #[nS,Z 0] 149)).heap[w.heap.size]? =some (.cells (cE 0) 29 (0,0)):=
  ((Fr.refl (S:=No) _).alloc _).aB (aT w _) id
 have av:=lH o;obtain ⟨fp,ae,aq⟩:=h.files.look i bh;have bc:=lH ae;have E:=h.cell 11;have au:=lH E;have ad:xW S.F fp i=Y (fp i):=by unfold xW;rw [aa]
 have ao:=ae _ o;rw [ad] at ao;have ax:=lH ad;have aj:=lH (aq m aa).reads;have ai:=lH an;have bd:((w.alloc (.cells (cE 0) 29)).alloc (.cells #[nS,Z 0] 149)).cell? (I L.s 11)=some (.map (some L.fl)):=o.cell_of E id;have ak:=lH (aDE (fp i) (w.heap.size+1) (w.heap.size+1+1) ([],0) m _ B (aj.o.fr o));have bm:∀w':World,(Instr.build 149 #[]).run prog w'=.ok (.agg #[nS,Z 0]) w':=λw'=>by kernel_rfl
 have bf:∀(w':World) (b c l:Nat),(Instr.build 29 #[(1,Z i),(2,Z m.size),(7,.slice (some (I b 0)) l c)]).run prog w'=.ok (.agg #[Z 0,i,m.size,Z 0,Z 0,false,nS,O b l c]) w':=λw' b c l=>by kernel_rfl
 clear fA o B h aa an ae aq E ad;unfold wO at ak;have az:=lH ap;clear ap;go_enter func162,ntmps162;go_wp2_with fail;refine cr ak.o ?_;rintro bl ⟨pg,H⟩;have ag:=av.o.trans H (λj V e=>by rcases e with e|⟨e,_⟩<;>omega);have al:=lH (H.aB az (by rintro (e|⟨e,_⟩)<;>omega));have aw:=lH (Uh (w.heap.size+1) (w.heap.size+1+1) (mW m) bl (by
  have e:tK ([],0) m=(mW m,0):=Prod.ext rfl ai.o.1;rw [e] at pg;exact pg) ai.o.2)
 have ah:=lH ag;clear pg H ag ao bd;go_wp2_with fail;refine aw.o.mono ?_;rintro e ar ⟨v,b,c,rfl,ab,Q,J⟩;obtain rfl:=ab.1;have r:=lH (ah.o.trans J zq);have am:=lH (J.aB al id);have u:=lH ab;have be:=lH (AV ah.o.size Q);have bj:Hid (w.heap.size<b):=AP (lt_of_block al) Q;clear ab J Q;have c3:ar.cell? (I L.s 11)=some (.map (some L.fl)):=r.o.cell_of au id;have bi:=bc.o _ r.o;rw [ax.o] at bi;have ay:=lH (Hg (fp i) m ar (aj.o.fr r));go_wp2_with fail;refine cr ay.o ?_;rintro af rfl;have bn:=bf af b c (mW m).length;go_wp2_with (refine wS 29 am ?_);have bb:=aW (cs':= #[Z 0,i,m.size,Z 0,Z 0,false,nS,O b (mW m).length c]) am.o;have A:Fr (λj=>j=w.heap.size) af (af.setRow w #[Z 0,i,m.size,Z 0,Z 0,false,nS,O b (mW m).length c]):=fR;have bg:b≠w.heap.size:=by
  have:=bj.o;omega
 exact AZ (v:=.agg _) (BH rfl _ _ w 29 _ (0,0) _ rfl bb underlying29 rfl Tryz.size29) rfl
  ⟨_,b,c,rfl,r.o.trans A (λj V e=>by omega),⟨u.o.1,u.o.2.1,AP u.o.2.2.1 A.size,λj y V=>A.cell_of (u.o.2.2.2 j y V) bg⟩,be.o⟩
theorem Gw {a o} (h:a.length+o.length<=65536):jC (a,0) o=(a++o,0):=by
 unfold jC;rw [AA D,AA (by dsimp only;omega)]
theorem qM {a x wd} (o:0<=x/\x<2 ^ (8*wd)) (h:a.length+wd<=65536):dN (a,0) x wd=(a++bK wd x.toNat,0):=by
 unfold dN;rw [AL o,Gw (by rw [fM];exact h)]
theorem Xl {a o} (h:a.length+2+o.length<=65536) (r:o.length<=65535):mP (a,0) o=(a++(bK 2 o.length++o),0):=by
 unfold mP;rw [AA X,Gw (by rw [AB,fM];omega)]
theorem Q8 (x):(lC x).length=x.1.data.toList.length+5:=by
 unfold lC;simp [fM];omega
theorem aBM {a x} (A:vU x) (h:a.length+(lC x).length<=65536):qE (a,0) x=(a++lC x,0):=by
 obtain ⟨o,r,u⟩:=A;rw [Q8] at h;unfold qE;rw [Xl X o,qM ⟨r,by simpa using u⟩ (by simp only [AB,fM];omega),Gw (by simp only [AB,fM,BX,ER];omega)];simp [lC,wY]
theorem Xp:∀(es:List dX) (a:List UInt8),(∀x∈es,vU x)->a.length+(es.flatMap lC).length<=65536->es.foldl qE (a,0)=(a++es.flatMap lC,0)
 | [],a,_,_=>by simp
 | x::r,a,hx,h=>by
  rw [DU,AB] at h;rw [NI,aBM (hx x D) X,Xp r _ (λy o=>hx y (by simp [o])) (by rw [AB];omega),DU,JB]
theorem aX.J8 {o:aX} (h:o.Fits) (Q:o.es.length<=4000) (V:∀x∈o.es,x.1.size<=1000000) (aa:14+(o.es.flatMap lC).length+o.map.length<=65536):o.ok:=by
 obtain ⟨r,u,A,B,E,H,J⟩:=h;refine ⟨?_,Q,V⟩;unfold uB zZ;rw [qM (wd:=1) (U r) D,qM (wd:=2) (U u) (by simp [fM]),qM (wd:=2) (U A) (by simp [fM]),qM (wd:=1) (U B) (by simp [fM]),qM (wd:=3) (U E) (by simp [fM]),
  Gw (by simp [fM]),qM (wd:=2) ⟨by omega,by simp;omega⟩ (by simp [fM]),Xp _ _ H (by simp only [AB,fM,BX,ER];omega),Xl (by simp only [AB,fM,BX,ER];omega) J]
theorem aX.ok.len {o:aX} (h:o.ok):o.bytes.length<=65536+65537:=by
 obtain ⟨_,e⟩:=h.raw;have B:=h.1;unfold aX.bytes uB at*;obtain ⟨E,ab,u⟩:=Oq B;rw [u];simp only [AB,fM];obtain ⟨ad,ae,aa⟩:=Jj E;(have:∀ {s:lI} {r:List UInt8},(jC s r).2=0->s.2=0->(jC s r).1.length<=65536:=by{intro s r J V;unfold jC at*;rw [AA (by simp [V])] at*;split at J;{cases J};{rename_i Q;rw [AA Q];simp only [AB];omega}});(have H:(mP (o.es.foldl qE (zZ ([],0) o)) o.map).1.length<=65536:=by{(have A:mP (o.es.foldl qE (zZ ([],0) o)) o.map=jC (o.es.foldl qE (zZ ([],0) o)) (bK 2 o.map.length++o.map):=by{unfold mP;rw [AA X]});rw [A];exact this (by rw [<-A];exact B) E});rw [u] at H;simp only [AB,fM] at H;omega
theorem aEy {a x} (o:dW x) (h:a.length+11<=65536):∃r,sJ (a,0) x=(a++r,0)/\r.length=11:=by
 have J:(0<=x.c/\x.c<256)/\(0<=x.l/\x.l<16777216)/\(0<=x.n/\x.n<4294967296)/\(0<=x.a/\x.a<65536)/\(0<=x.z/\x.z<256):=by{rcases o with rfl|o;{simp [aQ]};{omega}}
 obtain ⟨u,A,B,E,H⟩:=J;unfold sJ;rw [qM (wd:=1) (U u) X,qM (wd:=3) (U A) (by simp only [AB,fM];omega),qM (wd:=4) (U B) (by simp only [AB,fM];omega),
  qM (wd:=2) (U E) (by simp only [AB,fM];omega),qM (wd:=1) (U H) (by simp only [AB,fM];omega)]
 exact ⟨_,by simp only [JB];rfl,by simp [fM]⟩
theorem Ym:∀(l:List Pt) (a:List UInt8),(∀x∈l,dW x)->a.length+11*l.length<=65536->∃o,l.foldl sJ (a,0)=(a++o,0)/\o.length=11*l.length
 | [],a,_,_=>⟨[],by simp,rfl⟩
 | x::r,a,hx,h=>by
  rw [BX] at h;obtain ⟨y1,u,E⟩:=aEy (hx x D) (a:=a) X;obtain ⟨y2,A,H⟩:=Ym r (a++y1) (λy B=>hx y (by simp [B])) (by rw [AB];omega);exact ⟨y1++y2,by rw [NI,u,A,JB],by rw [AB,BX];omega⟩
theorem Tt {m} (r:eX m) (u:∀x∈m.l,dW x):Fe m/\(mW m).length<=1000:=by
 obtain ⟨B,o⟩:=r;(have E:m.l.length<=64:=by rw [o];unfold dA;omega);obtain ⟨A,e,n⟩:=Ym m.l (([]:List UInt8)++bK 2 (m.size:Int).toNat) u (by simp only [AB,fM,ER];omega);(have e0:tK ([],0) m=(([]:List UInt8)++bK 2 (m.size:Int).toNat++A,0):=by{unfold tK;rw [qM (wd:=2) ⟨by omega,by simp;omega⟩ D,e]});unfold Fe mW;rw [e0];refine ⟨⟨rfl,?_⟩,?_⟩;{intro h;have:=BD List.length h;simp only [AB,fM,ER] at this;omega};{simp only [AB,fM,ER];omega}
theorem Nj {e i z h s d} (o:0<=e/\e<256) (u:0<=i/\i<65536) (B:0<=z/\z<65536) (r:0<=h/\h<256) (A:0<=s/\s<16777216):aX.ok ⟨e,i,z,h,s,d, [], []⟩:=
 aX.J8 ⟨o,u,B,r,A,by simp,by simp⟩ D D D
theorem Ve {i m h s} (E:i<=128) (o:eX m) (u:∀x∈m.l,dW x) (r:0<=h/\h<256) (A:0<=s/\s<16777216):aX.ok {qU i m h with swaps:=s}:=by
 have B:=(Tt o u).2;have H:=o.1;refine aX.J8 ⟨by simp [qU],by simp only [qU];omega,by simp only [qU];omega,by simpa only [qU] using r,A,by simp [qU],by simp only [qU];omega⟩ (by simp [qU]) (by simp [qU]) ?_;simp only [qU,GU,ER];omega
theorem aC2 (T d s):(kid T d s).getD 0<129:=by
 (cases h:kid T d s with|none=>simp|some k=>unfold kid at h;have:=DF h;simpa using this)
theorem Yd {α:Type} (f:α->List UInt8) (m:Nat):∀l:List α,(∀x∈l,(f x).length<=m)->(l.flatMap f).length<=m*l.length
 | [],_=>by simp
 | x::r,h=>by
  have u:=h x D;have A:=Yd f m r (λy o=>h y (by simp [o]));rw [DU,AB,BX,Nat.mul_succ];omega
theorem aEA {T} (B:dK T) (d):(wW T d).length<=129/\∀x∈wW T d,vU x/\x.1.data.toList.length<=12:=by
 constructor;{unfold wW;rw [CG,List.length_mergeSort];unfold tH;exact AV (List.length_filterMap_le _ _) D};{intro x E;unfold wW at E;obtain ⟨s,u,rfl⟩:=FM.1 E;have u:=List.mem_mergeSort.1 u;unfold tH at u;obtain ⟨k,_,o⟩:=MH.1 u;(have H:s.data.toList.length<=12:=by{(cases r:T k with|none=>rw [r] at o;cases o|some y=>rw [r] at o;dsimp only at o;split at o;{(cases o;rw [mM];by_cases A:k=1);{subst A;rw [B.root] at r;cases r;simp};{have:=B.name k y r A;unfold eH at this;simp only [BO,BV] at this;exact this.1.1.1.1.2}};{cases o})});have J:=aC2 T d s.data.toList;exact ⟨⟨by unfold kK;dsimp only;omega,by unfold kK;dsimp only;omega,by unfold kK;dsimp only;omega⟩,H⟩}
theorem aBQ {T} (B:dK T) (l) {s} (A:0<=s/\s<16777216):aX.ok ⟨0,0,0,0,s,false,(listOf T l).2, []⟩:=by
 have u:(listOf T l).2.length<=129/\∀x∈(listOf T l).2,vU x/\x.1.data.toList.length<=12:=by{unfold listOf;split;{simp};{split;{simp};{exact aEA B _}}}
 obtain ⟨E,r⟩:=u;have H:=Yd lC 17 (listOf T l).2 (λx o=>by rw [Q8];have:=(r x o).2;omega);exact aX.J8 ⟨by dsimp only;omega,by dsimp only;omega,by dsimp only;omega,by dsimp only;omega,A,λx o=>(r x o).1,by dsimp only [List.length_nil];omega⟩ (by dsimp only;omega) (λx o=>by
  have:=(r x o).2;have e:x.1.size=x.1.data.toList.length:=by rw [NE];rfl
  rw [e];omega) (by simp only [ER];omega)
theorem iF.fr {S w w' r v es} (h:iF w r v es) (f:Fr S w w') (J:∀k,S k->(∃cs o,w.heap[k]? =some (.cells cs 86 o))->False):iF w' r v es:=by
 rcases h with h|⟨b,off,c,e,B,Q,E,⟨cs,o,u⟩,H⟩;{exact .inl h};{have A:¬S b:=λab=>J b ab ⟨cs,o,u⟩;exact .inr ⟨b,off,c,e,B,Q,AP E f.size,⟨cs,o,f.aB u A⟩,λj x aa i ad V=>f.cell_of (H j x aa i ad V) A⟩}
theorem iL.fr {S w w' o v r} (h:iL w o v r) (f:Fr S w w') (E:∀k,S k->o<=k):iL w' o v r:=by
 rcases h with h|⟨b,off,c,⟨e,u,A,B⟩,H⟩;{exact .inl h};{exact .inr ⟨b,off,c,⟨e,u,AP A f.size,λj x J=>f.cell_of (B j x J) (λQ=>by have:=E _ Q;dsimp only at this;omega)⟩,H⟩}
theorem iL.shape {w o v r} (h:iL w o v r):∃a l c,v=.slice a l c:=by
 rcases h with ⟨h,_⟩|⟨b,off,c,⟨e,_⟩,_⟩;{exact ⟨_,_,_,h⟩};{exact ⟨_,_,_,e⟩}
theorem aAT {w w' u g v r} {x:Int} {Q} (h:iL w u v r) (f:Fr (λk=>k=g) w w') (V:w.heap[g]? =some (.cells #[x] 25 Q)):iL w' u v r:=by
 rcases h with h|⟨b,off,c,⟨e,A,B,E⟩,H⟩;{exact .inl h};{by_cases aa:r= [];{subst aa;exact .inr ⟨b,off,c,⟨e,A,AP B f.size,λj x o=>by simp at o⟩,H⟩};{refine .inr ⟨b,off,c,⟨e,A,AP B f.size,λj y o=>f.cell_of (E j y o) ?_⟩,H⟩;dsimp only;rintro rfl;have:=E j y o;rw [aA V] at this;rcases J:off+j with _|n;{rw [J] at this;simp at this};{rw [J] at this;simp at this}}}
theorem aA3 {w w' o g v A B} (h:iL w o v A) (f:Fr (λk=>k=g) w w') (Q:w.heap[g]? =some (.cells (cE 0) 29 B)):iL w' o v A:=by
 rcases h with h|⟨b,off,c,⟨e,E,H,r⟩,J⟩;{exact .inl h};{refine .inr ⟨b,off,c,⟨e,E,AP H f.size,λj y u=>f.cell_of (r j y u) ?_⟩,J⟩;dsimp only;rintro rfl;have:=r j y u;rw [aA Q] at this;rcases V:off+j with _|_|_|_|_|_|_|_|n<;>rw [V] at this<;>simp at this}
def Red (rb:Nat) (r:aX) (w w':World):Prop:=∃ev mv B,B<=w'.heap.size/\iF w' B ev r.es/\iL w' B mv r.map/\w'.heap[rb]? =some (.cells (r.cells ev mv) 29 (0,0))/\Fr (λk=>k=rb) w w'/\Low w ev/\Low w mv
def rZ:Array Value:=(cE 0)
theorem aAu (p q u v o) (ad:o.ok) (ap:o.e<=18) (b off c w) (az:w.heap[p]? =some (.cells #[v] 27 (0,0))) (bb:w.heap[q]? =some (.cells #[.func (Fn.func 123) #[] #[.pointer (some (I u 0))]] 204 (0,0))) (ae:w.heap[u]? =some (.cells rZ 29 (0,0))) (h:fH w v o.bytes b off c) (cb:o.bytes.length<=1000000):
  Calls prog 175 #[.pointer (some (I p 0)),.pointer (some (I q 0))] w λx w'=>x=.returned (.tuple #[])/\Red u o w w':=by
 have c1:w.cell? (I p 0)=some v:=aA az _;have c2:w.cell? (I q 0)=some (.func (Fn.func 123) #[] #[Y u]):=aA bb _;have cj:=lt_of_block ae;have bq:=lH ae;have bp:=lH (aAo v o.bytes b off c w h cb);obtain ⟨av,bc⟩:=ad.raw;have r:=lH av;have bv:=lH bc;have bu:=lH ad;have bm:=lH ap;clear az bb ae h av bc ad ap;go_enter func175,ntmps175;go_wp2_with fail;refine bp.o.mono ?_;rintro x bj ⟨e,B,bw,rfl,al,J,bz,ci,ch,E⟩;have cf:=E.cell_of c2 id;have aa:Er bj e B o.bytes:=⟨0,bw,al,J.2.1,bz,J.2.2.1,J.2.2.2⟩;obtain ⟨V,au⟩:∃n:Nat,o.e=n:=⟨o.e.toNat,by have:=r.o.e;omega⟩;obtain ⟨af,ax⟩:∃n:Nat,o.ino=n:=⟨o.ino.toNat,by have:=r.o.ino;omega⟩;obtain ⟨ah,be⟩:∃n:Nat,o.size=n:=⟨o.size.toNat,by have:=r.o.size;omega⟩;obtain ⟨hd,aw⟩:∃n:Nat,o.handle=n:=⟨o.handle.toNat,by have:=r.o.handle;omega⟩;obtain ⟨sw,bd⟩:∃n:Nat,o.swaps=n:=⟨o.swaps.toNat,by have:=r.o.swaps;omega⟩;(have aq:o.bytes=bK 1 V++(bK 2 af++(bK 2 ah++(bK 1 hd++(bK 3 sw++(wY o.dir::(bK 2 o.es.length++(o.es.flatMap lC++(bK 2 o.map.length++o.map)))))))):=by{rw [bv.o,aX.Ja,aX.Jc,au,ax,be,aw,bd];simp});rw [aq] at aa;have ak:=lH (aFV e B u V af ah hd sw o.dir o.es o.map (by have:=bm.o;omega) (by have:=r.o.ino;omega) (by have:=r.o.size;omega) (by have:=r.o.handle;omega) (by have:=r.o.swaps;omega) bu.o.2.1 r.o.es r.o.map bj ⟨aa,E.aB bq id,by omega,by omega,Fr.refl _⟩);have Q:=lH E;clear c1 al J E aa c2 aq;go_wp2_with fail;refine cr ak.o ?_;rintro cc ⟨ab,ag,bk,bx,ar,ay,H,bf,am,bg,bh⟩;have bt:=lH (And.intro (bg.le Q.o.size) (bh.le Q.o.size));clear bg bh;have bn:=lH ar;have bo:=lH ay;have br:=lH bf;have bl:=lH ((Q.o.bC (S:=λk=>k=u)).trans am (λj cg h=>by rcases h with h|h;omega;exact h));obtain ⟨bi,c2,H,_⟩:=H;have aj:=lH H;clear ar ay bf am H ak;go_wp2_with fail;refine cr (Wn e B bi c2 cc aj) λcd an=> ?_;have ai:=lH an;clear an;go_wp2_with fail;refine cr (Wn e B bi c2 cd (ai.o.aB aj id)) λce ao=> ?_;have A:=lH (ai.o.trans ao zq);clear ao;go_wp2_with fail;refine cq (zU 0 ce) ?_;go_wp2_with fail;(have ca:o.cells ab ag= #[.int .i64 V,.int .i64 af,.int .i64 ah,.int .i64 hd,.int .i64 sw,.bool o.dir,ab,ag]:=by rw [aX.cells,au,ax,be,aw,bd]);exact IE (v:=.tuple #[]) (by simp [results,results175,go_sem]) rfl ⟨rfl,ab,ag,bk,AV bx A.o.size,bn.o.no A,bo.o.no A,by rw [ca];exact A.o.aB br id,bl.o.trans A (λ_ _ e=>e.elim),bt⟩
theorem aBG (o v r) (am:r.ok) (aj:r.e<=18) (bf:r.bytes.length<=1000000) (b off c w) (h:fH w v r.bytes b off c) (ab:w.heap[o]? =some (.cells rZ 29 (0,0))):
  Calls prog 122 #[v,.func (Fn.func 123) #[] #[Y o]] w λx w'=>x=.returned (Z 0)/\Red o r w w':=by
 have bl:∀(fn:Fn) (first cap:Array Value) (w:World),(Instr.makeFunc fn first cap).run prog w=.ok (.func fn first cap) w:=λ_ _ _ _=>rfl;obtain ⟨rfl,sl⟩:=h;generalize al:r.bytes.length=n at*;have E:=lH al;clear al;have av:Fr No w ((w.alloc (.cells #[.slice (some (I b off)) n c] 27)).alloc (.cells #[.func (Fn.func 123) #[] #[Y o]] 204)):=((Fr.refl w).alloc _).alloc _;have aq:((w.alloc (.cells #[.slice (some (I b off)) n c] 27)).alloc (.cells #[.func (Fn.func 123) #[] #[Y o]] 204)).heap[w.heap.size]? =some (.cells #[.slice (some (I b off)) n c] 27 (0,0)):=((Fr.refl (S:=No) _).alloc _).aB (aT w _) id;(have ar:((w.alloc (.cells #[.slice (some (I b off)) n c] 27)).alloc (.cells #[.func (Fn.func 123) #[] #[Y o]] 204)).heap[w.heap.size+1]? =some (.cells #[.func (Fn.func 123) #[] #[Y o]] 204 (0,0)):=by simpa using aT (w.alloc _) _);have bm:=lt_of_block ab;have ay:=lH ab;have H:=lH sl;have az:=lH aq;have bb:=lH ar;have bc:=lH am;have ax:=lH aj;clear ab sl aq ar am aj;(have an:((w.alloc (.cells #[.slice (some (I b off)) n c] 27)).alloc (.cells #[.func (Fn.func 123) #[] #[Y o]] 204)).heap.size=w.heap.size+1+1:=D);have ah:=lH an;clear an;go_enter func122,ntmps122;go_wp2_with fail;generalize ((w.alloc _).alloc _)=w0 at*;have J:Fr No w0 (w0.alloc (.cells #[Z 0] 25)):=(Fr.refl w0).alloc _;have u:=av.trans J zq;refine (aE1 w (w.heap.size+1) (λaf=>Red o r (w0.alloc (.cells #[Z 0] 25)) af) w0 ?_).mono ?_;{refine (aAu w (w.heap.size+1) o _ r bc ax b off c _ (J.aB az id) (J.aB bb id) (u.aB ay id) ⟨by rw [E.o],by rw [E.o];exact H.o.1,AP H.o.2.1 u.size,λj y V=>u.cell_of (H.o.2.2 j y V) id⟩ (by rw [E.o];exact bf)).mono ?_;rintro x af ⟨rfl,ao⟩;have e0:=ah.o;have bg:=ao;obtain ⟨ai,au,ag,ak,Q,aa,ad,B,_⟩:=bg;exact ⟨rfl,ao,B.aB (aT w0 _) X⟩};{rintro x bj ⟨rfl,af,⟨ai,au,ag,ak,Q,aa,ad,B,bh,bi⟩,A⟩;have e0:=ah.o;have ap:=A.aB ad X;have aw:=((u.bC (S:=λk=>k=o)).trans B (λj V e=>e)).trans A (λj V e=>by omega);have ae:=B.aB (aT w0 _) X;have bd:Hid (Red o r w bj):=lH ⟨ai,au,ag,AV ak A.size,Q.fr A (λk be ⟨cs,bk,h⟩=>by subst be;rw [ae] at h;simp at h),aAT aa A ae,ap,aw,bh.le u.size,bi.le u.size⟩;clear Q aa ad B A ap ae;go_wp2_with fail;go_ret;exact ⟨rfl,bd⟩}
theorem aFr (v) (o:aX) (ao:o.ok) (ak:o.e<=18) (an:o.bytes.length<=1000000) (b off c w) (h:fH w v o.bytes b off c):
  Calls prog 67 #[v] w λx w'=>∃E H,x=.returned (.tuple #[.agg (o.cells E H),Z 0])/\iF w' w' E o.es/\iL w' w' H o.map/\Fr No w w'/\Low w E/\Low w H:=by
 have bh:∀(fn:Fn) (first cap:Array Value) (w:World),(Instr.makeFunc fn first cap).run prog w=.ok (.func fn first cap) w:=λ_ _ _ _=>rfl;obtain ⟨rfl,sl⟩:=h;have r:Fr No w ((w.alloc (.cells rZ 29)).alloc (.cells rZ 29)):=((Fr.refl w).alloc _).alloc _;have ap:((w.alloc (.cells rZ 29)).alloc (.cells rZ 29)).heap[w.heap.size]? =some (.cells rZ 29 (0,0)):=((Fr.refl (S:=No) _).alloc _).aB (aT w _) id;have u:((w.alloc (.cells rZ 29)).alloc (.cells rZ 29)).heap[w.heap.size+1]? =some (.cells rZ 29 (0,0)):=by simpa using aT (w.alloc _) _
 have ai:=lH (aBG (w.heap.size+1) _ o ao ak an b off c _ ⟨rfl,sl.1,AP sl.2.1 r.size,λj y be=>r.cell_of (sl.2.2 j y be) id⟩ u);have aj:=lH ap;clear ap u sl ao ak an;unfold rZ at*;go_enter func67,ntmps67;go_wp2_with fail;with_reducible refine ai.o.mono ?_
 rintro x J ⟨rfl,E,H,bf,al,ad,ae,u,ab,aq,ar⟩;obtain ⟨Q,aa,V,rfl⟩:=ad.shape;obtain ⟨af,ah,ag,rfl⟩:=ae.shape;have bd:=lH (And.intro (aq.le r.size) (ar.le r.size));clear aq ar;have aw:=lH ad;have ay:=lH ae;unfold aX.cells at*;have bb:=lH u;have B:=lH (ab.aB aj X);have av:=lH ((r.bC.trans ab zq).no (λk am=>by omega));clear ad ae u ab ai r aj;go_wp2_with (first|(refine wR 29 bb ?_)|(refine wS 29 B ?_));all_goals
  have bc:=aW (cs':= #[o.e,o.ino,o.size,o.handle,o.swaps,o.dir,.slice Q aa V,.slice af ah ag]) B.o;have au:=av.o.setRow (g:=w.heap.size) (.inr (AU _)) #[o.e,o.ino,o.size,o.handle,o.swaps,o.dir,.slice Q aa V,.slice af ah ag];have A:Fr (λk=>k=w.heap.size) J (J.setRow w #[o.e,o.ino,o.size,o.handle,o.swaps,o.dir,.slice Q aa V,.slice af ah ag]):=Fr.setRow (S:=λk=>k=w.heap.size) (Fr.refl J) (.inl rfl) _;have ax:=(aw.o.fr A (λk am ⟨cs,bg,h⟩=>by subst am;rw [B.o] at h;simp at h)).le (AV al A.size);have az:=(aA3 ay A B).le (AV al A.size);generalize J.setRow w _=bi at*;exact AZ (aBU _ _ w _ (0,0) (Z 0) rfl rfl bc rfl) rfl ⟨_,_,rfl,ax,az,au,bd⟩
