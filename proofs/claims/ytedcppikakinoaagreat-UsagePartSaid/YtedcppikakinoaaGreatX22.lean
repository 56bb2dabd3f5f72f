/- Part of a proof. -/
import Derived.Test.YtedcppikakinoaaGreatX19
import Derived.Test.YtedcppikakinoaaGreatX20
set_option linter.unusedSimpArgs false
set_option linter.unusedVariables false
set_option maxRecDepth 100000
set_option maxHeartbeats 25600000
namespace Go.Proofs.YtedcppikakinoaaGreat
open Go.Proofs.Tryz Go.RowKit
theorem aFH (ab K n L S o ik hq u r w) (h:aV w ab K L S n) (ok:aG S) (hs:Ez S) (fw:jU S.F) (bn:aF w ab) (fk:aZ fD 4 w ab ik u) (hd:aZ dD 14 w ab hq r) (fh:∀x∈u,jM x.1) (lc:0<=o.c/\o.c<4) (ib:u.length<=1000) (ia:r.length<=1000) (ee:n<=900000):
  Calls prog 108 #[Y L.s,.agg (o.cells ik hq)] w (bH w ab K L (n+u.length) (jG S o u r)):=by
 (have ef:prog.follows .mixedOrders=true:=N);obtain ⟨bs,cs,rfl⟩:=fk.slice;obtain ⟨bf,bg,rfl⟩:=hd.slice;obtain ⟨ea,ci,fq,cp,bb⟩:=begun h ok bn o (.slice bs u.length cs) (.slice bf r.length bg);have bm:=lH ea;have fa:=fk.no bn ea;have hh:=lH (hd.no bn ea);obtain ⟨B,hw⟩:∃B:Nat,o.c=(B:Int):=⟨o.c.toNat,by omega⟩;have ld:B<4:=X
 have eq:Hid (∀w',Fr No (dG w o (.slice bs u.length cs) (.slice bf r.length bg)) w'->Calls prog 163 #[Y L.tk,o.c,o.h] w' λe bl=>e=.returned (.tuple #[kK ((dE S.K o.c o.h).getD fU),.bool (dE S.K o.c o.h).isSome])/\Fr No w' bl):=
  lH (λw' f=>by
   obtain ⟨v,ad,aa⟩:=Nv (cp.no ok bb f).tok;exact Eu L.tk v S.K o.c o.h w' ad aa)
 have he:Hid (∀w',Fr No (dG w o (.slice bs u.length cs) (.slice bf r.length bg)) w'->Calls prog 112 #[Y L.s,.agg (o.cells (.slice bs u.length cs) (.slice bf r.length bg)),B,o.l] w' (wY w' u.length (dW S o.sw o.nx u B o.l))):=
  lH (λw' f=>Py ab K n L S o _ _ u B o.l w' (cp.no ok bb f) ok (Step.no (C:=λ_=>False) bb f).fresh (fa.no bb f) fh X X)
 have ge:Hid (∀w',Fr No (dG w o (.slice bs u.length cs) (.slice bf r.length bg)) w'->Calls prog 115 #[Y L.s,.agg (o.cells (.slice bs u.length cs) (.slice bf r.length bg)),B] w' (xB w' ab K L (n+u.length) (iE S u B o.nx))):=
  lH (λw' f=>Rf ab K n L S o _ _ u B w' (cp.no ok bb f) ok (Step.no (C:=λ_=>False) bb f).fresh (fa.no bb f) fh X X X)
 have hf:Hid (∀x,dE S.K o.c o.h=some x->∃i m,x.i=((i:Nat):Int)/\1<=i/\i<=128/\S.F i=some m/\eQ m/\∀p∈m.l,dU p):=lH (λx aq=>by
  obtain ⟨i,m,ad,aa,ae⟩:=hs.tok x (CX aq);have ax:=ok.file i m ae;exact ⟨i,m,ad,ax.1,ax.2.1,ae,ax.2.2,fw i m ae⟩)
 have hc:Hid (∀y e,(dW S o.sw o.nx u B o.l).2 y=some e->1<=e/\e<=6000):=lH (Yc S o.sw o.nx u B o.l);have bv:Hid (∀c,c≠0->jG S o u r=(c,bT,S)->∀e w',e=.panicked (kH c)->Fr No w w'->bH w ab K L (n+u.length) (jG S o u r) e w'):=lH (λc ch ff e w' ay f=>by
  rw [ff];exact bH.no (h.more (Nat.le_add_right _ _)) ok bn ch ay f)
 have jh:Hid (∀i z S',jG S o u r=(0,iW 0 i z 0 0 false,S')->aG S'->∀e w' bl V fu,e=.returned (lG 0 i z 0 0 false)->Fr No w w'->w.heap.size+1<w'.heap.size->Step (bF K) w' ab bl fu->aV bl fu K L S' (n+u.length)->Fr (λj=>j=w.heap.size+1) bl V->bH w ab K L (n+u.length) (jG S o u r) e V):=lH (λi z S' ff kv e w' bl V fu ay f ks s t g=>by
  rw [ff];exact bH.yes bn f s (λ_ e=>e) X ks g kv t ay (mV.plain _ _ _ _ _ _ _))
 have cg:jG S o u r=match dE S.K o.c o.h with
  | none=>(13,bT,S)
  | some x=>
   if x.wr=false/\¬(r= []/\u= []) then (10,bT,S)
   else if (dW S o.sw o.nx u B o.l).1≠0 then ((dW S o.sw o.nx u B o.l).1,bT,S)
   else if ¬(∀d∈r,kN (dW S o.sw o.nx u B o.l).2 x.i d) then (4,bT,S)
   else (0,iW 0 x.i (r.foldl bP ((S.F x.i.toNat).getD mQ)).size 0 0 false,{mZ S u r B o.nx x.i.toNat with K:=kM o.cl S.K x}):=by
  unfold jG;rw [hw];rfl
 generalize jG S o u r=al at*;generalize ki:bH w ab K L (n+u.length) al=js at*;clear ki;generalize kh:dW S o.sw o.nx u B o.l=J at*;clear kh;have jm:dE S.K o.c o.h=dE S.K o.c o.h:=rfl;generalize ht:dE S.K o.c o.h=ai at*;have jn:=lH ht;clear jm ht;have gg:Hid (ai=none->al=(13,bT,S)):=lH (λaq=>by rw [cg,aq]);have gh:Hid (∀x,ai=some x->(x.wr=false/\¬(r= []/\u= []))->al=(10,bT,S)):=lH (λx aq ad=>by rw [cg,aq];dsimp only;rw [AL ad]);have gj:Hid (∀x,ai=some x->¬(x.wr=false/\¬(r= []/\u= []))->J.1≠0->al=(J.1,bT,S)):=lH (λx aq ad aa=>by rw [cg,aq];dsimp only;rw [AA ad,AL aa]);have gl:Hid (∀x,ai=some x->¬(x.wr=false/\¬(r= []/\u= []))->J.1=0->¬(∀d∈r,kN J.2 x.i d)->al=(4,bT,S)):=lH (λx aq ad aa ae=>by rw [cg,aq];dsimp only;rw [AA ad,AA (by simp [aa]),AL ae]);have gn:Hid (∀x,ai=some x->¬(x.wr=false/\¬(r= []/\u= []))->J.1=0->(∀d∈r,kN J.2 x.i d)->al=(0,iW 0 x.i (r.foldl bP ((S.F x.i.toNat).getD mQ)).size 0 0 false,{mZ S u r B o.nx x.i.toNat with K:=kM o.cl S.K x})):=lH (λx aq ad aa ae=>by rw [cg,aq];dsimp only;rw [AA ad,AA (by simp [aa]),AA (λkr=>kr ae)]);clear cg;have iz:=lH cp;have dt:=lH bb;have jf:=lH ok;have gx:=lH ib;have er:=lH ia;have je:=lH ee;have jg:=lH fw;have ha:Hid (ab w.heap.size=0/\ab (w.heap.size+1)=0):=lH ⟨bn _ (AU _),bn _ (BZ _)⟩;clear cp bb ea h ok bn hs fw fk hd fh ib ia ee fa;unfold dG aH.cells bT aW.cells at*;unfold kK at eq;generalize o.c=li at*;subst hw;go_enter func108,ntmps108;go_wp2_with fail;generalize (w.alloc (.cells #[B,o.l,o.q,o.kind,(ba o.path),(ba o.tq),o.dir,o.wr,o.cl,o.h,o.nx,o.sw,.slice bs u.length cs,.slice bf r.length bg] 36)).alloc (.cells (cE 0) 29)=w0 at*;have B1:=lH (lt_of_block fq);generalize la:w.heap.size=af at*;have ho:w0.cell? (I L.s 10)=some (Y L.tk):=iz.o.cell 10;(have d0:w0.cell? (I af 0)=some (Z B):=by rw [aA ci];rfl);have hp:w0.cell? (I af 9)=some (Z o.h):=by rw [aA ci];rfl
 have dd:Hid (Zero w0 ab af (.cells #[B,o.l,o.q,o.kind,(ba o.path),(ba o.tq),o.dir,o.wr,o.cl,o.h,o.nx,o.sw,.slice bs u.length cs,.slice bf r.length bg] 36 (0,0))):=lH ⟨ci,ha.o.1⟩;have ka:Hid (Zero w0 ab (af+1) (.cells (cE 0) 29 (0,0))):=lH ⟨fq,ha.o.2⟩;clear ci fq;refine xE ef (xO w0) 13 [14,15] N N N N (λ_ _ d _ _ h=>by cases d<;>exact h) ⟨(Fr.refl _).drew,.inl R⟩ ?_;repeat (first
  | refine uY R ?_
  | (refine vF (v:= ?_) R (λa v w=>wB w0 _ G a v w) R ?_ ?_
     rotate_left 1;(intro W;go_simp;(try with_reducible rfl))
     simp only [pT,aI,lsS])
  | (refine wG (v:= ?_) R (λa v w=>wB w0 _ G a v w) N R ?_ ?_
     rotate_left 1;(intro W A;obtain ⟨_,bh,_⟩:=A;have de:=bh.cell_of ho id;have df:=bh.cell_of d0 id;have kz:=bh.cell_of hp id;go_simp;(try with_reducible rfl))
     simp only [pT,aI,lsS]))
 refine H7 (v:=.tuple #[.agg (cT (ai.getD fU)),ai.isSome]) 163 #[Y L.tk,B,o.h] R (λa v w=>wB w0 _ G a v w) N R (λW=>by go_simp) (λw' A=>(eq.o w' A.choose_spec.1).mono (λe bl h=>⟨h.1,λb kk=>Rk h.2 b kk⟩)) ?_;simp only [pT,aI,lsS];repeat (first
  | refine uY R ?_
  | (refine vF (v:= ?_) R (λa v w=>wB w0 _ G a v w) R ?_ ?_
     rotate_left 1;(intro W;go_simp;(try with_reducible rfl))
     simp only [pT,aI,lsS]))
 unfold jZ;refine xX R R ?_;intro W A;refine ⟨.pointer (some (I W 0)),W.alloc (.cells #[Z 0,Z 0,Z 0,false] 53),by go_simp,?_,?_⟩;{exact ⟨A.1.alloc _,.inr ⟨W,by rfl,A.1.size,aQ W _⟩⟩}
 ·intro dy kj;obtain ⟨hr,aa⟩:=kj;have hz:dy.heap[W.heap.size]? =some (.cells #[Z 0,Z 0,Z 0,false] 53 (0,0)):=by{rcases aa with aa|⟨g,e,_,ko⟩;{exact absurd (show Value.pointer (some (I W 0))=undef from aa) (by intro h;cases h)};{have e':Value.pointer (some (I W 0))=Y g:=e;cases e';exact ko}}
  have ez:=lH hz;have gc:=lH hr;have gu:Hid (w0.heap.size<=W.heap.size):=lH A.1.size;clear aa hz hr A;simp only [DZ,FU,GG,ED,EQ,pT,aI,lsS];have cv:=lH (show ((cT (ai.getD fU)):Array Value).all (·.oneCell')=true from by simp [Value.oneCell']);generalize W.heap.size=ag at*;refine BQ rfl 53 (.tmp 5) (.tmp 23) rfl ag (cT (ai.getD fU)) rfl rfl 53 _ ez Tryz.tN rfl cv ?_;go_wp2_with fail;have hg:=aX (cs':=(cT (ai.getD fU))) ez.o;have co:Hid (Fr No w0 (dy.setRow ag (cT (ai.getD fU)))):=lH (Fr.setRow gc (.inr gu) _);have fb:Hid (Zero (dy.setRow ag (cT (ai.getD fU))) ab ag (.cells (cT (ai.getD fU)) 53 (0,0))):=lH ⟨hg,dt _ gu⟩;clear hg ho d0 hp ez gc cv eq;generalize dy.setRow ag (cT (ai.getD fU))=wR at*;cases ai with
  | none=>
   go_wp2_with fail;refine cr (gQ _ _) ?_;rintro ir rfl;go_wp2_with fail;exact ⟨rfl,bv 13 G (gg.o trivial) _ _ rfl (bm.o.trans co zq)⟩
  | some x=>
   obtain ⟨i,m,ig,km,hy,ic,ie,di⟩:=hf.o x rfl;obtain ⟨cl,cm,lk,an⟩:=x;dsimp only at ig;subst ig;dsimp only [Option.getD_some] at fb ⊢;have du:=lH ic;have ja:=lH ie;have jc:=lH di;have gi:Hid (an=false/\¬(r= []/\u= [])->al=(10,bT,S)):=lH (λh=>gh.o _ rfl h);have gk:Hid (¬(an=false/\¬(r= []/\u= []))->J.1≠0->al=(J.1,bT,S)):=lH (λad aa=>gj.o _ rfl ad aa);have gm:Hid (¬(an=false/\¬(r= []/\u= []))->J.1=0->¬(∀d∈r,kN J.2 i d)->al=(4,bT,S)):=lH (λad aa ae=>gl.o _ rfl ad aa ae);have gp:Hid (¬(an=false/\¬(r= []/\u= []))->J.1=0->(∀d∈r,kN J.2 i d)->al=(0,iW 0 i (r.foldl bP m).size 0 0 false,{mZ S u r B o.nx i with K:=kM o.cl S.K ⟨cl,cm,i,an⟩})):=lH (λad aa ae=>by
    have:=gn.o _ rfl ad aa ae;rw [GH,du.o,Option.getD_some] at this;exact this)
   clear ic ie di gg gh gj gl gn hf;have kg:=aA fb.o.1;go_wp2_with fail;refine cr (iR _ _) ?_;rintro ir rfl;obtain ⟨wR,rfl⟩:∃wR:World,wR=ir:=⟨_,rfl⟩;go_upto_region 3 with fail;go_cut [] (λcd=>Hid (Fr No wR cd)/\Hid (¬(an=false/\¬(r= []/\u= []))))
   case first=>
    cases an with
    | true=>
     go_wp2_with fail;refine cr (iR _ _) ?_;rintro V rfl;go_wp2_with fail;go_meet;exact ⟨lH (Fr.refl _),lH (λh=>by cases h.1)⟩
    | false=>
     have lg:wR.cell? (I af 12)=some (.slice bs u.length cs):=(by rw [aA (dd.o.no co.o).1];rfl);have lh:wR.cell? (I af 13)=some (.slice bf r.length bg):=(by rw [aA (dd.o.no co.o).1];rfl);have lf:IntKind.i64.wrap ((r.length:Int)+(u.length:Int))=(r.length:Int)+(u.length:Int):=(by have:=gx.o;have:=er.o;rw [BG];omega)
     cases az:(((r.length:Int)+(u.length:Int))==0) with
     | true=>
      have jo:Hid (r= []/\u= []):=lH (by
       have:(r.length:Int)+(u.length:Int)=0:=(by simpa using az)
       exact ⟨FN.1 X,FN.1 X⟩)
      go_wp2_with fail;refine cr (iR _ _) ?_;rintro V rfl;go_wp2_with fail;go_meet;exact ⟨lH (Fr.refl _),lH (λh=>h.2 jo)⟩
     | false=>
      have ap:Hid (al=(10,bT,S)):=lH (gi.o ⟨rfl,λh=>by
       rw [h.1,h.2] at az;simp at az⟩)
      go_wp2_with fail;refine cr (gQ _ _) ?_;rintro V rfl;go_wp2_with fail;exact ⟨rfl,bv 10 G ap _ _ rfl (bm.o.trans co zq)⟩
   case rest=>
    obtain ⟨gd,eu⟩:=hcut;obtain ⟨ga,rfl⟩:∃ga:World,ga=wc:=⟨_,rfl⟩;have dn:=lH (co.o.trans gd zq);have hm:=lH (dd.o.no dn);have jy:=lH (fb.o.no gd);have a0:=aA hm.o.1;have ev:=lH (he.o ga dn);unfold wY at ev;clear he kg;go_wp2_with (refine CO rfl 36 (.tmp 3) rfl af rfl 36 _ (0,0) _ hm.o.1 underlying36 rfl Tryz.yN ?_);refine ev.o.mono ?_;rintro e wS ⟨bh,ay⟩;by_cases bz:J.1=0
    ·rw [AL bz] at ay;obtain ⟨ii,ij,rfl,di,kp,kq⟩:=ay;have gt:=lH bz;have gy:=lH di;have dp:=lH (dn.o.trans bh zq);have cf:=lH (jy.o.no bh);have ke:=lH (dd.o.no dp);have il:=aA ke.o.1;clear bz di kp kq bh a0 ev;go_wp2_with fail;go_loopw [52] (λa wr=>∃j:Nat,a=Z j/\j<=r.length/\Hid (∀d∈r.take j,kN J.2 i d)/\Hid (Fr No wS wr)) (λa _=>r.length - (intOf a).toNat);case atStart=>exact ⟨0,rfl,BA _,lH D,lH (Fr.refl _)⟩
     case round=>
      obtain ⟨j,rfl,kn,ep,ao⟩:=hrel;have av:=lH (dp.o.trans ao zq);by_cases am:j<r.length
      ·have ch:r≠ []:=by{intro e;subst e;simp at am}
       obtain ⟨b,off,rfl,fj,fg,dj⟩:=(hh.o.no dt av).at ch;have cw:=lH (dj j r[j] (AC am));have gs:Hid (kN J.2 i r[j]->∀z∈r.take (j+1),kN J.2 i z):=lH (λhd z az=>by
        rw [DJ,AC am,JP] at az;rcases BN.1 az with az|az;{exact ep.o z az}
        ·rw [BB.1 az];exact hd)
       have ds:Hid (¬kN J.2 i r[j]->al=(4,bT,S)):=lH (λee=>gm.o eu gt (λh=>ee (h _ (BL am))));have fx:(j:Int)<(r.length:Int):=X;have kw:(0:Int)<=(j:Int):=X;have kl:r.length<=1000:=er.o;generalize r[j]=d at*;unfold dD at cw;have aw:=lH ((Fr.refl (S:=No) wr).alloc (.cells (cV d) 61));have ak:=lH (aQ wr (.cells (cV d) 61));clear dj fj fg il;go_upto_region 8 with (refine EW R 61 _ R b (off+j*14) R (cV d) _ cw underlying61 rfl Tryz.oP ?_);generalize wr.alloc (.cells (cV d) 61)=ar at*;generalize wr.heap.size=bk at*
       ·skip
        have bc:=lH (Sv d ar);unfold Ci iQ at bc;cases bx:decide (dP d) with
        | false=>
         rw [bx] at bc;have ap:=lH (ds.o (λh=>by rw [DV] at bx;exact bx h.1));clear bx;go_wp2_with (refine CO rfl 61 (.tmp 9) rfl bk rfl 61 _ (0,0) _ ak underlying61 rfl Tryz.oP ?_);refine cr bc.o λV Q=> ?_;have ah:=lH (aw.o.trans Q zq);clear Q;go_wp2_with fail;refine cr (gQ _ _) ?_;rintro H rfl;go_wp2_with fail;exact ⟨rfl,bv 4 G ap _ _ rfl (bm.o.trans (av.o.trans ah zq) zq)⟩
        | true=>
         rw [bx] at bc;have et:Hid (dP d):=lH (EE bx);clear bx;cases ad:(d.i==(i:Int)) with
         | false=>
          have ap:=lH (ds.o (λh=>by rw [h.2.1] at ad;simp at ad));go_wp2_with (refine CO rfl 61 (.tmp 9) rfl bk rfl 61 _ (0,0) _ ak underlying61 rfl Tryz.oP ?_);refine cr bc.o λV Q=> ?_;have ah:=lH (aw.o.trans Q zq);have aj:=Q.aB ak id;have ej:=aA aj;have eb:V.cell? (I ag 2)=some (Z i):=(by rw [aA (cf.o.no (ao.o.trans ah.o zq)).1];rfl);clear aj Q;go_wp2_with fail;refine cr (gQ _ _) ?_;rintro H rfl;go_wp2_with fail;exact ⟨rfl,bv 4 G ap _ _ rfl (bm.o.trans (av.o.trans ah zq) zq)⟩
         | true=>
          have gv:Hid (d.i=(i:Int)):=lH (by simpa using ad);cases aa:(d.k !=3) with
          | false=>
           have ap:=lH (ds.o (λh=>h.2.2.1 (by simpa using aa)));go_wp2_with (refine CO rfl 61 (.tmp 9) rfl bk rfl 61 _ (0,0) _ ak underlying61 rfl Tryz.oP ?_);refine cr bc.o λV Q=> ?_;have ah:=lH (aw.o.trans Q zq);have aj:=Q.aB ak id;have ej:=aA aj;have eb:V.cell? (I ag 2)=some (Z i):=(by rw [aA (cf.o.no (ao.o.trans ah.o zq)).1];rfl);clear aj Q;go_wp2_with fail;refine cr (gQ _ _) ?_;rintro H rfl;go_wp2_with fail;exact ⟨rfl,bv 4 G ap _ _ rfl (bm.o.trans (av.o.trans ah zq) zq)⟩
          | true=>
           have gw:Hid (d.k≠3):=lH (by simpa using aa);have lb:∀w':World,(Instr.build 59 #[]).run prog w'=.ok (.agg #[Z 0,Z 0,Z 0,Z 0,Z 0]) w':=λw'=>by kernel_rfl
           cases ae:decide (d.t=aS) with
           | true=>
            have ct:Hid (kN J.2 i d):=lH ⟨et,gv,gw,.inl (EE ae)⟩;go_wp2_with (refine CO rfl 61 (.tmp 9) rfl bk rfl 61 _ (0,0) _ ak underlying61 rfl Tryz.oP ?_);refine cr bc.o λV Q=> ?_;have ah:=lH (aw.o.trans Q zq);have aj:=Q.aB ak id;have ej:=aA aj;have eb:V.cell? (I ag 2)=some (Z i):=(by rw [aA (cf.o.no (ao.o.trans ah.o zq)).1];rfl);have cx:Hid (d.t=aS):=lH (EE ae);have em:=lH Q;clear aj Q ae;go_wp2_with (rw [I9,AL cx.o]);refine cr (iR _ _) ?_;rintro H rfl;go_wp2_with fail;go_roundw;{exact ⟨j+1,by go_num,am,lH (gs.o ct),lH (ao.o.trans (aw.o.trans em zq) zq)⟩};simp [intOf];omega
           | false=>
            have dv:Hid (dU d.t):=lH et.o.2.2.2.2.2.2.1;cases ax:uI J.2 d.t with
            | true=>
             have ct:Hid (kN J.2 i d):=lH ⟨et,gv,gw,.inr ax⟩;go_wp2_with (refine CO rfl 61 (.tmp 9) rfl bk rfl 61 _ (0,0) _ ak underlying61 rfl Tryz.oP ?_);refine cr bc.o λV Q=> ?_;have ah:=lH (aw.o.trans Q zq);have aj:=Q.aB ak id;have ej:=aA aj;have eb:V.cell? (I ag 2)=some (Z i):=(by rw [aA (cf.o.no (ao.o.trans ah.o zq)).1];rfl);have cx:Hid (¬d.t=aS):=lH (IR ae);have bt:=lH (Dp ii ij J.2 d.t V (gy.o.fr (ao.o.trans ah zq) id) (rY dv).1 (show I64 _ by have:=(rY dv).2;unfold I64;omega) (λy e fo=>by have:=hc.o y e fo;unfold I64;omega));unfold dF at bt;rw [ax] at bt;have em:=lH Q;clear aj Q ae ax;go_wp2_with (rw [I9,AA cx.o]);refine cr bt.o λkx dg=> ?_;have iu:=lH (em.o.trans dg zq);clear dg;go_wp2_with fail;refine cr (iR _ _) ?_;rintro H rfl;go_wp2_with fail;go_roundw;{exact ⟨j+1,by go_num,am,lH (gs.o ct),lH (ao.o.trans (aw.o.trans iu zq) zq)⟩};simp [intOf];omega
            | false=>
             have ap:=lH (ds.o (λh=>by
              rcases h.2.2.2 with h|h;{rw [DV] at ae;exact ae h}
              ·rw [ax] at h;cases h))
             go_wp2_with (refine CO rfl 61 (.tmp 9) rfl bk rfl 61 _ (0,0) _ ak underlying61 rfl Tryz.oP ?_);refine cr bc.o λV Q=> ?_;have ah:=lH (aw.o.trans Q zq);have aj:=Q.aB ak id;have ej:=aA aj;have eb:V.cell? (I ag 2)=some (Z i):=(by rw [aA (cf.o.no (ao.o.trans ah.o zq)).1];rfl);have cx:Hid (¬d.t=aS):=lH (IR ae);have bt:=lH (Dp ii ij J.2 d.t V (gy.o.fr (ao.o.trans ah zq) id) (rY dv).1 (show I64 _ by have:=(rY dv).2;unfold I64;omega) (λy e fo=>by have:=hc.o y e fo;unfold I64;omega));unfold dF at bt;rw [ax] at bt;clear aj Q ae ax;go_wp2_with (rw [I9,AA cx.o]);refine cr bt.o λkx dg=> ?_;have it:=lH (ah.o.trans dg zq);clear dg;go_wp2_with fail;refine cr (gQ _ _) ?_;rintro H rfl;go_wp2_with fail;exact ⟨rfl,bv 4 G ap _ _ rfl (bm.o.trans (av.o.trans it zq) zq)⟩
      ·(have dh:j=r.length:=X);have eo:Hid (∀d∈r,kN J.2 i d):=lH (by have:=ep.o;rw [dh,AY] at this;exact this);have fx:¬(j:Int)<(r.length:Int):=X;obtain ⟨gb,rfl⟩:∃gb:World,gb=wr:=⟨_,rfl⟩;have fe:=lH (dd.o.no av);have kf:=aA fe.o.1;have en:=lH (ge.o gb av);unfold xB at en;have gq:=lH (gp.o eu gt eo);clear dh il ep gi gk gm gp ge;go_wp2_with (refine CO rfl 36 (.tmp 3) rfl af rfl 36 _ (0,0) _ fe.o.1 underlying36 rfl Tryz.yN ?_);refine cr en.o ?_;rintro fz ⟨eh,cb,ip⟩;have jv:Hid (Step (bF K) w0 ab fz eh):=lH (((Step.no (C:=λ_=>False) dt av).mono (λ_ e=>e.elim)).trans (cb.mono (λc e=>by unfold bF;omega)) (λ_ e=>e));have jx:=lH ip;have hl:=lH (fe.o.step cb X);have hi:=lH ((cf.o.no ao).step cb X);have kb:=lH ((ka.o.no av).step cb X);have jt:=lH ((hh.o.no dt av).step cb X);have jr:=lH (jf.o.iE u B o.nx);have hn:=aA hl.o.1;have iw:=lH cb.fresh;clear cb ip kf en;go_wp2_with fail;go_loopw [93] (λa wr=>∃(j:Nat) (ca:Nat->Nat),a=Z j/\j<=r.length/\Hid (Step (fJ K i) fz eh wr ca)/\Hid (aV wr ca K L {iE S u B o.nx with F:=aT S.F i (some ((r.take j).foldl bP m))} (n+u.length))) (λa _=>r.length - (intOf a).toNat);case atStart=>exact ⟨0,eh,rfl,BA _,lH (Step.refl iw),lH (by rw [FW,MV,aFD du.o];exact jx.o)⟩
       case round=>
        obtain ⟨j,ca,rfl,kn,bd,dw⟩:=hrel;have dk:¬fJ K i 0:=(by unfold fJ;omega);have cu:Hid (eQ ((r.take j).foldl bP m)/\∀p∈((r.take j).foldl bP m).l,dU p):=lH (Yq (λd hd=>eo.o d (FT hd)) ja jc);have bw:Hid (aG {iE S u B o.nx with F:=aT S.F i (some ((r.take j).foldl bP m))}):=lH (jr.o.uK ⟨km,hy⟩ cu.o.1);by_cases am:j<r.length
        ·have ch:r≠ []:=by{intro e;subst e;simp at am}
         obtain ⟨b,off,rfl,fj,fg,dj⟩:=(jt.o.step bd dk).at ch;have cw:=lH (dj j r[j] (AC am));have ct:Hid (kN J.2 i r[j]):=lH (eo.o _ (BL am));have jl:Hid ((r.take (j+1)).foldl bP m=bP ((r.take j).foldl bP m) r[j]):=lH (by
          rw [DJ,AC am,JP,IZ];rfl)
         have fx:(j:Int)<(r.length:Int):=X;have kw:(0:Int)<=(j:Int):=X;have kl:r.length<=1000:=er.o;generalize r[j]=d at*;unfold dD at cw;generalize (r.take j).foldl bP m=ft at*;have aw:=lH ((Fr.refl (S:=No) wr).alloc (.cells (cV d) 61));have ak:=lH (aQ wr (.cells (cV d) 61));clear dj fj fg hn ch;go_upto_region 14 with (refine EW R 61 _ R b (off+j*14) R (cV d) _ cw underlying61 rfl Tryz.oP ?_)
         generalize wr.alloc (.cells (cV d) 61)=ar at*;generalize wr.heap.size=bk at*;have cn:Fr No wr ar.drew:=aw.o.trans (Fr.refl _).drew zq;have ed:=bd.o.fresh;have dx:=dw.o.no bw ed cn;have hx:aF ar.drew ca:=(Step.no (C:=λ_=>False) ed cn).fresh;obtain ⟨p,bp,bo,hu⟩:=dx.files.turn bw.o.file (i:=i) (m:=ft) (zI _ _ _);have bu:=lH (bp _ (Fr.refl _));have gf:=lH (Qo ca K i p ft d ar.drew bo hx X cu.o.1 ct.o.1);unfold uQ kL iQ at gf;have iv:=lH hu;have jj:=lH dx;have ix:=lH cn;have iy:=lH ed;have ih:=(Fr.refl (S:=No) ar).drew.aB ak id;have ju:Hid (ar.drew.rangeAt bk 0 (cV d)):=lH (DR ih 0 14);have bq:Hid (ar.drew.cell? (I L.s 11)=some (.map (some L.fl))):=lH (dx.cell 11);have br:Hid (ar.drew.cell? (I ag 2)=some (Z i)):=lH (by rw [aA ((hi.o.step bd.o dk).no cn).1];rfl);clear cn ed dx hx bp bo hu ih;refine qC ef (λW=>W=ar.drew) [8] N N N N (λ_ _ d _ _ h=>by cases d<;>exact h) rfl ?_;repeat (first
          | refine lJ R ?_
          | (refine kW (v:= ?_) R R ?_ ?_
             rotate_left 1;(intro W;go_simp;(try with_reducible rfl))
             simp only [pT,aI,lsS])
          | (refine nV R R ?_
             simp only [pT,aI,lsS])
          | (refine kE (v:=.agg (cV d)) R N R (λW A=>l7 61 (.tmp 11) R bk 0 R (cV d) _ (by rw [A];exact ju.o) underlying61 rfl Tryz.oP) ?_
             simp only [pT,aI,lsS])
          | (refine kE (v:= ?_) R N R ?_ ?_
             rotate_left 1;(intro W A;have e0:W.cell? (I L.s 11)=some (.map (some L.fl)):=(by rw [A];exact bq.o);have de:W.cell? (I ag 2)=some (Z i):=(by rw [A];exact br.o);have df:(Instr.lookup 128 (.map (some L.fl)) (Z i) false).run prog W=.ok (Y p) W:=(by rw [A];exact bu.o);clear A;go_simp;(try with_reducible rfl))
             simp only [pT,aI,lsS]))
         intro W A;obtain rfl:W=ar.drew:=A;simp only [DF,DT,DK,CP];go_wp2_with fail;refine gf.o.mono ?_;rintro e fy ⟨⟨lj,ky,rfl⟩,eg,ek,im⟩;have ji:Hid (Step (fJ K i) fz eh fy eg):=lH (bd.o.trans (((Step.no (C:=λ_=>False) iy ix).mono (λ_ e=>e.elim)).trans ek (λ_ e=>e)) (λ_ e=>e));have jk:Hid (aV fy eg K L {iE S u B o.nx with F:=aT S.F i (some (bP ft d))} (n+u.length)):=lH (by
          have:=jj.o.uK hy bw ek (iv.o fy eg _ ek im);rw [aEG] at this;exact this)
         clear ek im;go_wp2_with fail;go_roundw;{exact ⟨j+1,eg,by go_num,am,ji,by rw [jl.o];exact jk⟩};simp [intOf];omega
        ·(have dh:j=r.length:=X);have fx:¬(j:Int)<(r.length:Int):=X;rw [dh,AY] at cu bw dw;obtain ⟨el,rfl⟩:∃el:World,el=wr:=⟨_,rfl⟩;obtain ⟨E,fi⟩:∃E,r.foldl bP m=E:=⟨_,rfl⟩;have gz:=lH fi;rw [fi] at cu bw dw gq;clear fi;have kd:=lH (hl.o.step bd dk);have jz:=lH (hi.o.step bd dk);have kc:=lH (kb.o.step bd dk);have jw:Hid (Step (bF K) w0 ab el ca):=lH (jv.o.trans (bd.o.mono (λc e=>by unfold fJ at e;unfold bF;omega)) (λ_ e=>e));have gr:=lH (Ja ca K (n+u.length) L _ el dw bw (jg.o.put i cu.o.2) bd.o.fresh (by have:=je.o;have:=gx.o;omega));unfold zB at gr;clear dh hn;go_wp2_with fail;refine cr gr.o ?_;rintro au ⟨cj,dm,iq⟩;have dz:=lH (kd.o.step dm X);have hj:=lH (jz.o.step dm X);have hk:=lH (kc.o.step dm X);have ce:Hid (Step (bF K) w0 ab au cj):=lH (jw.o.trans (dm.mono (λc e=>by unfold bF;omega)) (λ_ e=>e));have db:=lH iq;have be:Hid (aG {iE S u B o.nx with F:=aT S.F i (some E),U:=gV (aT S.F i (some E)) (iE S u B o.nx).U}):=lH (bw.o.Wh _);have fs:au.cell? (I af 8)=some (.bool o.cl):=(by rw [aA dz.o.1];rfl);have hv:∀w':World,(Instr.build 29 #[(1,Z i),(2,Z E.size)]).run prog w'=.ok (.agg #[Z 0,i,E.size,Z 0,Z 0,false,nS,nS]) w':=λw'=>by kernel_rfl
         have dq:=lH hv;have cv:=lH (show (#[Z 0,i,E.size,Z 0,Z 0,false,nS,nS]:Array Value).all (·.oneCell')=true from by simp [Value.oneCell']);have hb:Hid (∀ei cd V e,aV cd ei K L {iE S u B o.nx with F:=aT S.F i (some E),U:=gV (aT S.F i (some E)) (iE S u B o.nx).U,K:=kM o.cl S.K ⟨cl,cm,i,an⟩} (n+u.length)->Step (bF K) w0 ab cd ei->e=.returned (lG 0 i E.size 0 0 false)->Fr (λj=>j=af+1) cd V->js e V):=lH (λei cd V e t s ay g=>by
          refine jh.o i E.size _ gq ?_ e w0 cd V ei ay bm B1 s ?_ g;{exact ⟨be.o.tree,by unfold mZ;rw [du.o,Option.getD_some,gz.o];exact be.o.file⟩}
          ·unfold mZ;rw [du.o,Option.getD_some,gz.o];exact t)
         clear dm iq hv;cases ec:o.cl with
         | true=>
          rw [ec] at fs;have ci:au.cell? (I af 0)=some (Z B):=(by rw [aA dz.o.1];rfl)
          have ku:=aA dz.o.1;have kt:au.cell? (I L.s 10)=some (Y L.tk):=db.o.cell 10;have bi:Fr No au au.drew:=(Fr.refl _).drew;have dr:=lH (close_ cj K L.tk S.K B o.h au.drew (db.o.no be ce.o.fresh bi).tok (Step.no (C:=λ_=>False) ce.o.fresh bi).fresh);rw [jn.o] at dr;unfold yY nU at dr;dsimp only at dr;have jp:Hid (¬gZ K (cj af)):=lH (by rw [dz.o.2];unfold gZ;omega);have jq:Hid (¬gZ K (cj L.s)):=lH (by rw [db.o.own];unfold gZ;omega);clear bi;go_wp2_with fail;go_region_held3 (λw'=>w'.cell? (I L.s 10)=some (Y L.tk)/\w'.cell? (I af 0)=some (Z B)/\w'.cell? (I af 9)=some (Z o.h)) (first|go_keep|(go_split_ands;refine ⟨?_,?_,?_⟩<;>exact ck.fr.cell_of (by assumption) (by first|exact jq.o|exact jp.o)))
           ((go_at_call 164;refine dr.o.mono ?_;rintro e H ⟨rfl,dl,ck,io⟩))
          have bi:Fr No au au.drew:=(Fr.refl _).drew;have dc:Hid (aV H dl K L {iE S u B o.nx with F:=aT S.F i (some E),U:=gV (aT S.F i (some E)) (iE S u B o.nx).U,K:=kM o.cl S.K ⟨cl,cm,i,an⟩} (n+u.length)):=lH (by
           have:=(db.o.no be ce.o.fresh bi).Az be ck io;unfold kM;rw [AL ec];exact this)
          have da:Hid (Step (bF K) w0 ab H dl):=lH (ce.o.trans (((Step.no (C:=λ_=>False) ce.o.fresh bi).mono (λ_ e=>e.elim)).trans (ck.mono (λ_ e=>Gs e)) (λ_ e=>e)) (λ_ e=>e));have fc:=lH ((hj.o.no bi).step ck (by unfold gZ;omega));have fd:=lH ((hk.o.no bi).step ck (by unfold gZ;omega));clear ck io bi ci fs ku kt;try go_wp2_with fail
          have cz:Hid (aG {iE S u B o.nx with F:=aT S.F i (some E),U:=gV (aT S.F i (some E)) (iE S u B o.nx).U,K:=kM o.cl S.K ⟨cl,cm,i,an⟩}):=lH ⟨be.o.tree,be.o.file⟩;have bj:Fr No H H.drew:=(Fr.refl _).drew;have cc:=dc.o.no cz da.o.fresh bj;obtain ⟨p,bp,bo,_⟩:=cc.files.turn cz.o.file (i:=i) (m:=E) (zI _ _ _);have bu:=lH (bp _ (Fr.refl _));have ew:=lH (E8 p E H.drew bo.reads);have bq:Hid (H.drew.cell? (I L.s 11)=some (.map (some L.fl))):=lH (cc.cell 11);have br:Hid (H.drew.cell? (I ag 2)=some (Z i)):=lH (by rw [aA (fc.o.no bj).1];rfl);have cy:=lH (fd.o.no bj).1;clear cc bp bo bj;refine qC ef (λW=>W=H.drew) [11] N N N N (λ_ _ d _ _ h=>by cases d<;>exact h) rfl ?_;repeat (first
           | refine lJ R ?_
           | (refine kW (v:= ?_) R R ?_ ?_
              rotate_left 1;(intro W;have fl:=dq.o W;go_simp;(try with_reducible rfl))
              simp only [pT,aI,lsS])
           | (refine nV R R ?_
              simp only [pT,aI,lsS])
           | (refine kE (v:= ?_) R N R ?_ ?_
              rotate_left 1;(intro W A;have e0:W.cell? (I L.s 11)=some (.map (some L.fl)):=(by rw [A];exact bq.o);have de:W.cell? (I ag 2)=some (Z i):=(by rw [A];exact br.o);have df:(Instr.lookup 128 (.map (some L.fl)) (Z i) false).run prog W=.ok (Y p) W:=(by rw [A];exact bu.o);clear A;go_simp;(try with_reducible rfl))
              simp only [pT,aI,lsS]))
          refine pW (v:=Z E.size) 37 #[Y p] R N R (λW=>by go_simp) (λw' A=>by subst A;exact ew.o.mono (λe bl h=>⟨h.1,h.2⟩)) ?_;simp only [pT,aI,lsS];repeat (first
           | refine lJ R ?_
           | (refine kW (v:= ?_) R R ?_ ?_
              rotate_left 1;(intro W;have fl:=dq.o W;go_simp;(try with_reducible rfl))
              simp only [pT,aI,lsS])
           | (refine nV R R ?_
              simp only [pT,aI,lsS])
           | (refine kE (v:= ?_) R N R ?_ ?_
              rotate_left 1;(intro W A;have e0:W.cell? (I L.s 11)=some (.map (some L.fl)):=(by rw [A];exact bq.o);have de:W.cell? (I ag 2)=some (Z i):=(by rw [A];exact br.o);have df:(Instr.lookup 128 (.map (some L.fl)) (Z i) false).run prog W=.ok (Y p) W:=(by rw [A];exact bu.o);clear A;go_simp;(try with_reducible rfl))
              simp only [pT,aI,lsS]))
          intro W A;obtain rfl:W=H.drew:=A;simp only [DF,DT,DK,CP];go_wp2_with (refine BQ rfl 29 (.tmp 4) (.tmp 131) rfl (af+1) #[Z 0,i,E.size,Z 0,Z 0,false,nS,nS] rfl rfl 29 _ cy Tryz.size29 rfl cv ?_);have ex:=aX (cs':= #[Z 0,i,E.size,Z 0,Z 0,false,nS,nS]) cy.o;exact AZ (v:=lG 0 i E.size 0 0 false) (BD rfl _ _ (af+1) 29 _ (0,0) _ rfl ex underlying29 rfl Tryz.size29) rfl
           (hb.o _ _ _ _ dc.o da.o rfl (((Fr.refl (S:=λj=>j=af+1) H).drew).trans (fR) zq))
         | false=>
          have dc:Hid (aV au cj K L {iE S u B o.nx with F:=aT S.F i (some E),U:=gV (aT S.F i (some E)) (iE S u B o.nx).U,K:=kM o.cl S.K ⟨cl,cm,i,an⟩} (n+u.length)):=lH (by rw [ec];exact db.o);have da:=ce;have fc:=hj;have fd:=hk;rw [ec] at fs;go_wp2_with fail;obtain ⟨H,rfl⟩:∃H:World,H=au:=⟨_,rfl⟩;obtain ⟨dl,rfl⟩:∃dl:Nat->Nat,dl=cj:=⟨_,rfl⟩
          have cz:Hid (aG {iE S u B o.nx with F:=aT S.F i (some E),U:=gV (aT S.F i (some E)) (iE S u B o.nx).U,K:=kM o.cl S.K ⟨cl,cm,i,an⟩}):=lH ⟨be.o.tree,be.o.file⟩;have bj:Fr No H H.drew:=(Fr.refl _).drew;have cc:=dc.o.no cz da.o.fresh bj;obtain ⟨p,bp,bo,_⟩:=cc.files.turn cz.o.file (i:=i) (m:=E) (zI _ _ _);have bu:=lH (bp _ (Fr.refl _));have ew:=lH (E8 p E H.drew bo.reads);have bq:Hid (H.drew.cell? (I L.s 11)=some (.map (some L.fl))):=lH (cc.cell 11);have br:Hid (H.drew.cell? (I ag 2)=some (Z i)):=lH (by rw [aA (fc.o.no bj).1];rfl);have cy:=lH (fd.o.no bj).1;clear cc bp bo bj;refine qC ef (λW=>W=H.drew) [11] N N N N (λ_ _ d _ _ h=>by cases d<;>exact h) rfl ?_;repeat (first
           | refine lJ R ?_
           | (refine kW (v:= ?_) R R ?_ ?_
              rotate_left 1;(intro W;have fl:=dq.o W;go_simp;(try with_reducible rfl))
              simp only [pT,aI,lsS])
           | (refine nV R R ?_
              simp only [pT,aI,lsS])
           | (refine kE (v:= ?_) R N R ?_ ?_
              rotate_left 1;(intro W A;have e0:W.cell? (I L.s 11)=some (.map (some L.fl)):=(by rw [A];exact bq.o);have de:W.cell? (I ag 2)=some (Z i):=(by rw [A];exact br.o);have df:(Instr.lookup 128 (.map (some L.fl)) (Z i) false).run prog W=.ok (Y p) W:=(by rw [A];exact bu.o);clear A;go_simp;(try with_reducible rfl))
              simp only [pT,aI,lsS]))
          refine pW (v:=Z E.size) 37 #[Y p] R N R (λW=>by go_simp) (λw' A=>by subst A;exact ew.o.mono (λe bl h=>⟨h.1,h.2⟩)) ?_;simp only [pT,aI,lsS];repeat (first
           | refine lJ R ?_
           | (refine kW (v:= ?_) R R ?_ ?_
              rotate_left 1;(intro W;have fl:=dq.o W;go_simp;(try with_reducible rfl))
              simp only [pT,aI,lsS])
           | (refine nV R R ?_
              simp only [pT,aI,lsS])
           | (refine kE (v:= ?_) R N R ?_ ?_
              rotate_left 1;(intro W A;have e0:W.cell? (I L.s 11)=some (.map (some L.fl)):=(by rw [A];exact bq.o);have de:W.cell? (I ag 2)=some (Z i):=(by rw [A];exact br.o);have df:(Instr.lookup 128 (.map (some L.fl)) (Z i) false).run prog W=.ok (Y p) W:=(by rw [A];exact bu.o);clear A;go_simp;(try with_reducible rfl))
              simp only [pT,aI,lsS]))
          intro W A;obtain rfl:W=H.drew:=A;simp only [DF,DT,DK,CP];go_wp2_with (refine BQ rfl 29 (.tmp 4) (.tmp 131) rfl (af+1) #[Z 0,i,E.size,Z 0,Z 0,false,nS,nS] rfl rfl 29 _ cy Tryz.size29 rfl cv ?_);have ex:=aX (cs':= #[Z 0,i,E.size,Z 0,Z 0,false,nS,nS]) cy.o;exact AZ (v:=lG 0 i E.size 0 0 false) (BD rfl _ _ (af+1) 29 _ (0,0) _ rfl ex underlying29 rfl Tryz.size29) rfl
           (hb.o _ _ _ _ dc.o da.o rfl (((Fr.refl (S:=λj=>j=af+1) H).drew).trans (fR) zq))
    {rw [AA bz] at ay;subst ay;have ap:=lH (gk.o eu bz);have dp:=lH (dn.o.trans bh zq);have jd:=lH bz;clear bh bz;go_wp2_with fail;exact ⟨rfl,bv _ jd ap _ _ rfl (bm.o.trans dp zq)⟩}
theorem aAW (r K n L S o am ak w) (h:aV w r K L S n) (ok:aG S) (ct:jU S.F) (Q:aF w r) (bv:o.path.length<=1000000) (co:n<=1000000):
  Calls prog 103 #[Y L.s,.agg (o.cells am ak)] w (bH w r K L n (iV S o)):=by
 obtain ⟨cm,bw,bx,ai,ab⟩:=begun h ok Q o am ak;have bh:=lH cm;have ce:Hid (∀w',Fr No (dG w o am ak) w'->Calls prog 85 #[Y L.tr,(ba o.path)] w' λe A=>e=.returned (.tuple #[.int .i64 (lookOf S.T o.path).2.1,.bool (lookOf S.T o.path).2.2,.int .i64 (lookOf S.T o.path).1])/\Fr No w' A):=
  lH (λw' f=>yJ r K L.tr S.T o.path w' bv ((ai.no ok ab f).tree) ok.tree (Step.no (C:=λ_=>False) ab f).fresh)
 have da:Hid (∀i:Nat,∀w',Fr No (dG w o am ak) w'->Calls prog 158 #[Y L.tk,i] w' λe A=>e=.returned (.bool (S.K.any λx=>x.i==i))/\Fr No w' A):=λi w' f=>by
  obtain ⟨v,af,bt⟩:=Nv (ai.no ok ab f).tok;exact aFF L.tk v S.K i w' af bt
 have bn:Hid (∀w',Fr No (dG w o am ak) w'->Calls prog 159 #[Y L.tr,(ba o.path),o.dir] w' (zN w' r K L.tr S.T o.path o.dir)):=
  lH (λw' f=>aCy r K L.tr S.T o.path o.dir w' bv ((ai.no ok ab f).tree) ok.tree (Step.no (C:=λ_=>False) ab f).fresh)
 have dh:Hid (∀w' aa V,Fr No (dG w o am ak) w'->Step (dM K) w' r aa V->eF aa V K L.tr (fH S.T o.path o.dir)->aV aa V K L {S with T:=fH S.T o.path o.dir} n/\aG {S with T:=fH S.T o.path o.dir}):=
  lH (λw' aa V f s t=>⟨(ai.no ok ab f).mM ok s t,ok.mM (Bv ok.tree _ _)⟩)
 have cc:Hid ((bK S.T o.path o.dir).1≠0->fH S.T o.path o.dir=S.T):=λu=>AA u;have cf:Hid ((bK S.T o.path o.dir).1=0->(bK S.T o.path o.dir).2<=128):=λae=>(Ns ok.tree ae).1;have bl:Hid ((lookOf S.T o.path).1≠0->∀e w',e=.panicked (kH (lookOf S.T o.path).1)->Fr No w w'->bH w r K L n (iV S o) e w'):=λu e w' E f=>by
  unfold iV;rw [AL u];exact bH.no h ok Q u E f
 have ch:Hid ((lookOf S.T o.path).1=0->¬mayRemove S o->∀e w',e=.panicked (kH 8)->Fr No w w'->bH w r K L n (iV S o) e w'):=λae af e w' E f=>by
  unfold iV;rw [AA (by simp [ae]),AL af];exact bH.no h ok Q G E f
 have bm:Hid ((lookOf S.T o.path).1=0->mayRemove S o->(bK S.T o.path o.dir).1≠0->∀e w' A ah,e=.panicked (kH (bK S.T o.path o.dir).1)->Fr No w w'->Step (dM K) w' r A ah->aV A ah K L S n->bH w r K L n (iV S o) e A):=λae af u e w' A ah E f s t=>by
  unfold iV;rw [AA (by simp [ae]),AA (λh=>h af),AL u];exact bH.no' Q f s (λ_ e=>zK e) t u E
 have cg:aG (kY S o):=by{unfold kY;split;{exact ok.mM (Bv ok.tree _ _)};{exact ((ok.mM (Bv ok.tree _ _)).less _).Wh _}}
 have ay:Hid ((lookOf S.T o.path).1=0->mayRemove S o->(bK S.T o.path o.dir).1=0->∀e w' A H ah,e=.returned (lG 0 (bK S.T o.path o.dir).2 0 0 0 false)->Fr No w w'->w.heap.size+1<w'.heap.size->Step (λc=>dM K c\/c=K+6\/c=K+7) w' r A ah->aV A ah K L (kY S o) n->Fr (λj=>j=w.heap.size+1) A H->bH w r K L n (iV S o) e H):=λae af bt e w' A H ah E f dx s t g=>by
  unfold iV;rw [AA (by simp [ae]),AA (λh=>h af),AA (by simp [bt])];exact bH.yes Q f s (λc e=>by rcases e with e|e|e;exact zK e;all_goals (unfold bF;omega)) X dx g cg t E (mV.plain _ _ _ _ _ _ _)
 have ap:Hid (mayRemove S o↔((lookOf S.T o.path).2.2=true\/o.dir=true\/(S.K.any λx=>x.i==(lookOf S.T o.path).2.1)=false)):=Iff.rfl;generalize mayRemove S o=cj at*;generalize dv:bH w r K L n _=ec at*;clear dv;have az:Hid (kY S o=if (lookOf S.T o.path).2.2=true then {S with T:=fH S.T o.path o.dir} else {S with T:=fH S.T o.path o.dir,F:=aT S.F (bK S.T o.path o.dir).2 none,U:=gV (aT S.F (bK S.T o.path o.dir).2 none) S.U}):=lH rfl;generalize kY S o=ed at*;have dn:Hid (¬dM K (r L.s)):=lH (by rw [h.own];unfold dM;omega);have dk:Hid (¬dM K (r w)):=lH (by rw [Q _ (AU _)];unfold dM;omega);have dl:Hid (¬dM K (r (w.heap.size+1))):=lH (by rw [Q _ (BZ _)];unfold dM;omega);have ck:=lH (Q _ (BZ _));have cd:=lH ai;have dz:=lH ab;have dd:=lH co;have df:=lH ct;clear ai ab cm h ok Q bv co ct cg;unfold zN at bn;generalize lookOf S.T o.path=dt at*;obtain ⟨bq,i,d⟩:=dt;dsimp only at ce bl ch bm ay ap az;generalize bK S.T o.path o.dir=du at*;obtain ⟨ey,B⟩:=du;dsimp only at bn cf cc bm ay az;generalize fH S.T o.path o.dir=ee at*;unfold dG aH.cells bT aW.cells at*;generalize ej:o.dir=rd at*;go_enter func103,ntmps103;go_wp2_with fail;generalize (w.alloc _).alloc _=w0 at*;have B1:=lH (lt_of_block bx);generalize eh:w.heap.size=ad at*;have bc:w0.cell? (I L.s 9)=some (Y L.tr):=cd.o.cell 9;have bd:w0.cell? (I ad 4)=some (.string (ba o.path)):=by rw [aA bw];rfl
 have bg:Hid (w0.cell? (I ad 6)=some (.bool rd)):=lH (by rw [aA bw];rfl);have cy:=lH bc;have D4:=lH bd;have di:=lH bx;clear bw bx;go_region_held3 (λw'=>w'.cell? (I L.s 9)=some (Y L.tr)/\w'.cell? (I ad 4)=some (.string (ba o.path))) (first|go_keep|(go_split_ands;refine ⟨?_,?_⟩<;>exact br.cell_of (by assumption) id))
  ((go_at_call 85;refine (ce.o _ (Fr.refl _).drew).mono ?_;rintro e aa ⟨rfl,br⟩))
 have J:=lH ((Fr.refl w0).drew.trans br zq);clear br bc bd;cases ag:(bq==0) with
 | false=>
  (have u:bq≠0:=by simpa using ag);go_wp2_with fail;refine cr (gQ _ _) ?_;rintro cx rfl;go_wp2_with fail;exact ⟨rfl,bl u _ _ rfl (bh.o.trans J zq)⟩
 | true=>
  (obtain rfl:bq=0:=by simpa using ag);clear ag bl;go_wp2_with fail;refine cr (iR _ _) ?_;rintro cx rfl;obtain ⟨aa,rfl⟩:∃aa:World,aa=cx:=⟨_,rfl⟩;go_upto_region 3 with fail;go_cut [] (λdy=>Hid (Fr No w0 dy)/\Hid cj)
  case first=>
   cases d with
   | true=>
    go_wp2_with fail;refine cr (iR _ _) ?_;rintro H rfl;go_wp2_with fail;go_meet;exact ⟨J,lH (ap.o.2 D)⟩
   | false=>
    cases rd with
    | true=>
     have d6:=J.o.cell_of bg id;go_wp2_with fail;refine cr (iR _ _) ?_;rintro H rfl;go_wp2_with fail;go_meet;exact ⟨J,lH (ap.o.2 D)⟩
    | false=>
     have d6:=J.o.cell_of bg id;have ef:=J.o.cell_of (cd.o.cell 10) id;have ax:=lH (da.o i aa J);cases al:(S.K.any λx=>x.i==(i:Int)) with
     | true=>
      rw [al] at ax;have u:¬cj:=λh=>by
       rcases ap.o.1 h with h|h|h;{cases h};{cases h};{rw [al] at h;cases h}
      have de:=lH u;clear u al;go_wp2_with fail;refine cr ax.o λH ar=> ?_;have bi:=lH (J.o.trans ar zq);clear ar;go_wp2_with fail;refine cr (gQ _ _) ?_;rintro bf rfl;go_wp2_with fail;exact ⟨rfl,ch trivial de _ _ rfl (bh.o.trans bi zq)⟩
     | false=>
      rw [al] at ax;have dc:=lH (ap.o.2 (by simp only [al];simp));clear al;go_wp2_with fail;refine cr ax.o λH ar=> ?_;have bi:=lH (J.o.trans ar zq);clear ar;go_wp2_with fail;refine cr (iR _ _) ?_;rintro bf rfl;go_wp2_with fail;go_meet;exact ⟨bi,dc⟩
  case rest=>
   obtain ⟨aw,bk⟩:=hcut;obtain ⟨an,rfl⟩:∃an:World,an=wc:=⟨_,rfl⟩;have bc:=aw.o.cell_of cy id;have bd:=aw.o.cell_of D4 id;have d6:=aw.o.cell_of bg id;have ao:=lH (aw.o.trans (Fr.refl an).drew zq);have dg:=lH (bn.o an.drew ao);go_upto_region 4 with fail
   go_region_held3 (λw'=>w'.cell? (I L.s 9)=some (Y L.tr)/\w'.cell? (I ad 4)=some (.string (ba o.path))/\w'.cell? (I ad 6)=some (.bool rd)) (first|go_keep|(go_split_ands;refine ⟨?_,?_,?_⟩<;>exact au.fr.cell_of (by assumption) (by first|exact dn.o|exact dk.o)))
    ((go_at_call 159;refine dg.o.mono ?_;rintro e bf ⟨rfl,V,au,cv⟩))
   have bb:=lH (AP B1 ao.o.size);have bj:=lH (bh.o.trans ao zq);obtain ⟨cu,cp⟩:=dh.o an.drew bf V ao au cv;have aj:=lH cu;have cl:=lH cp;have S1:=lH au;have bp:=lH (au.fr.aB (ao.o.aB di id) dl);clear cu cp au cv bc bd d6;cases ag:(ey==0) with
   | false=>
    have u:ey≠0:=(by simpa using ag);have aq:=lH (bm.o D bk u _ _ _ _ rfl bj S1 (by have:=aj.o;rw [cc.o u] at this;exact this));go_wp2_with fail;refine cr (gQ _ _) ?_;rintro av rfl;go_wp2_with fail;exact ⟨rfl,aq⟩
   | true=>
    obtain rfl:ey=0:=(by simpa using ag);clear ag;have dw:B<=128:=cf.o rfl;have ea:=lH dw;have ei:∀w':World,(Instr.build 29 #[(1,Z B)]).run prog w'=.ok (.agg #[Z 0,B,Z 0,Z 0,Z 0,false,nS,nS]) w':=λw'=>by kernel_rfl
    have eb:=lH (show (#[Z 0,B,Z 0,Z 0,Z 0,false,nS,nS]:Array Value).all (·.oneCell')=true from by simp [Value.oneCell']);cases d with
    | true=>
     have aq:=lH (λe H E g=>ay.o D bk D e _ _ H _ E bj bb (S1.o.mono (λ_ h=> .inl h)) (by rw [az.o,AL rfl];exact aj.o) g);go_wp2_with fail;refine cr (iR _ _) ?_;rintro av rfl;go_wp2_with (refine wS 29 (cs:= #[Z 0,B,Z 0,Z 0,Z 0,false,nS,nS]) bp ?_);have bo:=aX (cs':= #[Z 0,B,Z 0,Z 0,Z 0,false,nS,nS]) bp.o;exact AZ (v:=lG 0 B 0 0 0 false) (BD rfl _ _ (ad+1) 29 _ (0,0) _ rfl bo underlying29 rfl Tryz.size29) rfl
      (aq.o _ _ rfl (fR))
    | false=>
     have eg:bf.cell? (I L.s 11)=some (.map (some L.fl)):=aj.o.cell 11;obtain ⟨av,bu,cn,be,ca⟩:=lK.del aj.o.files S1.o.fresh B X;have db:=lH bu;have cz:Hid (aF av V):=be.fresh;have dp:=lH (cl.o.less B);have ds:=lH (aj.o.Uz (AU n) cl be ca);have dq:Hid (Step (λc=>dM K c\/c=K+6\/c=K+7) an.drew r av V):=(S1.o.mono (λ_ h=>Or.inl h)).trans (be.mono (λ_ h=>Or.inr (Or.inl h))) (λ_ e=>e);have dm:Hid (ad+1≠L.fl):=λe=>by
      have a:=S1.o.old _ bb.o;have b:=aj.o.files.1;rw [ck.o,e,b] at a;omega
     have dj:=lH (cn.aB bp dm);have cb:=lH (Ja V K n L _ av ds dp (df.o.less B) cz dd);unfold zB at cb;clear cn be ca bu;have bu:=db.o;go_wp2_with fail;refine cq (iR _ _) ?_;go_wp2_with fail;refine cr cb.o ?_;rintro el ⟨ek,bz,cw⟩;have dr:=lH (dq.o.trans (bz.mono (λ_ h=>Or.inr (Or.inr h))) (λ_ e=>e));have ci:=lH (bz.fr.aB dj (by
      intro e;have a:=S1.o.old _ bb.o;rw [ck.o,e] at a;omega))
     have aq:=lH (λe H E g=>ay.o D bk D e _ _ H _ E bj bb dr (by rw [az.o,AA G];exact cw) g);clear bz cw;go_wp2_with (refine wS 29 ci ?_);have bo:=aX (cs':= #[Z 0,B,Z 0,Z 0,Z 0,false,nS,nS]) ci.o;exact AZ (v:=lG 0 B 0 0 0 false) (BD rfl _ _ (ad+1) 29 _ (0,0) _ rfl bo underlying29 rfl Tryz.size29) rfl
      (aq.o _ _ rfl fR)
