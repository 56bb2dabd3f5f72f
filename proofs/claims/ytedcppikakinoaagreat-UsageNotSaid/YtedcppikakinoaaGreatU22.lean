/- Part of a proof. -/
import Derived.Test.YtedcppikakinoaaGreatU19
import Derived.Test.YtedcppikakinoaaGreatU20
set_option linter.unusedSimpArgs false
set_option linter.unusedVariables false
set_option maxRecDepth 100000
set_option maxHeartbeats 25600000
namespace Go.Proofs.YtedcppikakinoaaGreat
open Go.Proofs.Tryz Go.RowKit
theorem aA1 (aa K n L S o ij ho u r w) (h:aV w aa K L S n) (ok:aH S) (hq:Ha S) (fw:jQ S.F) (bl:aF w aa) (fk:aZ fD 4 w aa ij u) (hd:aZ dE 14 w aa ho r) (fh:∀x∈u,iZ x.1) (kx:0<=o.c/\o.c<4) (ia:u.length<=1000) (hz:r.length<=1000) (ed:n<=900000):
  Calls prog 108 #[Y L.s,.agg (o.cells ij ho)] w (bH w aa K L (n+u.length) (jG S o u r)):=by
 (have ee:prog.follows .mixedOrders=true:=N);obtain ⟨bs,cs,rfl⟩:=fk.slice;obtain ⟨bf,bg,rfl⟩:=hd.slice;obtain ⟨bw,ci,fq,cp,bb⟩:=begun h ok bl o (.slice bs u.length cs) (.slice bf r.length bg);have bk:=lH bw;have ez:=fk.no bl bw;have hh:=lH (hd.no bl bw);obtain ⟨A,hv⟩:∃A:Nat,o.c=(A:Int):=⟨o.c.toNat,by omega⟩;have ky:A<4:=X
 have ep:Hid (∀w',Fr No (dJ w o (.slice bs u.length cs) (.slice bf r.length bg)) w'->Calls prog 163 #[Y L.tk,o.c,o.h] w' λe bo=>e=.returned (.tuple #[kJ ((dF S.K o.c o.h).getD gY),.bool (dF S.K o.c o.h).isSome])/\Fr No w' bo):=
  lH (λw' f=>by
   obtain ⟨v,ab,ag⟩:=L6 (cp.no ok bb f).tok;exact Ew L.tk v S.K o.c o.h w' ab ag)
 have he:Hid (∀w',Fr No (dJ w o (.slice bs u.length cs) (.slice bf r.length bg)) w'->Calls prog 112 #[Y L.s,.agg (o.cells (.slice bs u.length cs) (.slice bf r.length bg)),A,o.l] w' (wV w' u.length (dY S o.sw o.nx u A o.l))):=
  lH (λw' f=>Ye aa K n L S o _ _ u A o.l w' (cp.no ok bb f) ok (noS bb f).fresh (ez.no bb f) fh X X)
 have ge:Hid (∀w',Fr No (dJ w o (.slice bs u.length cs) (.slice bf r.length bg)) w'->Calls prog 115 #[Y L.s,.agg (o.cells (.slice bs u.length cs) (.slice bf r.length bg)),A] w' (yK w' aa K L (n+u.length) (iJ S u A o.nx))):=
  lH (λw' f=>Uz aa K n L S o _ _ u A w' (cp.no ok bb f) ok (noS bb f).fresh (ez.no bb f) fh X X X)
 have hf:Hid (∀x,dF S.K o.c o.h=some x->∃i m,x.i=((i:Nat):Int)/\1<=i/\i<=128/\S.F i=some m/\eX m/\∀p∈m.l,dW p):=lH (λx aq=>by
  obtain ⟨i,m,ab,ag,ad⟩:=hq.tok x (DF aq);have ax:=ok.file i m ad;exact ⟨i,m,ab,ax.1,ax.2.1,ad,ax.2.2,fw i m ad⟩)
 have hc:Hid (∀y e,(dY S o.sw o.nx u A o.l).2 y=some e->1<=e/\e<=6000):=lH (Ri S o.sw o.nx u A o.l);have bu:Hid (∀c,c≠0->jG S o u r=(c,bU,S)->∀e w',e=.panicked (kF c)->Fr No w w'->bH w aa K L (n+u.length) (jG S o u r) e w'):=lH (λc ch ff e w' ay f=>by
  rw [ff];exact bH.no (h.more (Nat.le_add_right _ _)) ok bl ch ay f)
 have jg:Hid (∀i z S',jG S o u r=(0,jD 0 i z 0 0 false,S')->aH S'->∀e w' bo V fu,e=.returned (lQ 0 i z 0 0 false)->Fr No w w'->w.heap.size+1<w'.heap.size->Step (bD K) w' aa bo fu->aV bo fu K L S' (n+u.length)->Fr (λj=>j=w.heap.size+1) bo V->bH w aa K L (n+u.length) (jG S o u r) e V):=lH (λi z S' ff kr e w' bo V fu ay f ko s t g=>by
  rw [ff];exact bH.yes bl f s (λ_ e=>e) X ko g kr t ay (mY.plain _ _ _ _ _ _ _))
 have cg:jG S o u r=match dF S.K o.c o.h with
  | none=>(13,bU,S)
  | some x=>
   if x.wr=false/\¬(r= []/\u= []) then (10,bU,S)
   else if (dY S o.sw o.nx u A o.l).1≠0 then ((dY S o.sw o.nx u A o.l).1,bU,S)
   else if ¬(∀d∈r,kW (dY S o.sw o.nx u A o.l).2 x.i d) then (4,bU,S)
   else (0,jD 0 x.i (r.foldl bT ((S.F x.i.toNat).getD nJ)).size 0 0 false,{nM S u r A o.nx x.i.toNat with K:=kT o.cl S.K x}):=by
  unfold jG;rw [hv];rfl
 generalize jG S o u r=al at*;generalize kh:bH w aa K L (n+u.length) al=jr at*;clear kh;generalize kg:dY S o.sw o.nx u A o.l=J at*;clear kg;have jl:dF S.K o.c o.h=dF S.K o.c o.h:=rfl;generalize hr:dF S.K o.c o.h=ak at*;have jm:=lH hr;clear jl hr;have gg:Hid (ak=none->al=(13,bU,S)):=lH (λaq=>by rw [cg,aq]);have gh:Hid (∀x,ak=some x->(x.wr=false/\¬(r= []/\u= []))->al=(10,bU,S)):=lH (λx aq ab=>by rw [cg,aq];dsimp only;rw [AL ab]);have gj:Hid (∀x,ak=some x->¬(x.wr=false/\¬(r= []/\u= []))->J.1≠0->al=(J.1,bU,S)):=lH (λx aq ab ag=>by rw [cg,aq];dsimp only;rw [AA ab,AL ag]);have gl:Hid (∀x,ak=some x->¬(x.wr=false/\¬(r= []/\u= []))->J.1=0->¬(∀d∈r,kW J.2 x.i d)->al=(4,bU,S)):=lH (λx aq ab ag ad=>by rw [cg,aq];dsimp only;rw [AA ab,AA (by simp [ag]),AL ad]);have gn:Hid (∀x,ak=some x->¬(x.wr=false/\¬(r= []/\u= []))->J.1=0->(∀d∈r,kW J.2 x.i d)->al=(0,jD 0 x.i (r.foldl bT ((S.F x.i.toNat).getD nJ)).size 0 0 false,{nM S u r A o.nx x.i.toNat with K:=kT o.cl S.K x})):=lH (λx aq ab ag ad=>by rw [cg,aq];dsimp only;rw [AA ab,AA (by simp [ag]),AA (λkn=>kn ad)]);clear cg;have iy:=lH cp;have ds:=lH bb;have je:=lH ok;have gx:=lH ia;have eq:=lH hz;have jd:=lH ed;have jf:=lH fw;have ha:Hid (aa w.heap.size=0/\aa (w.heap.size+1)=0):=lH ⟨bl _ (AU _),bl _ (CE _)⟩;clear cp bb bw h ok bl hq fw fk hd fh ia hz ed ez;unfold dJ aG.cells bU aX.cells at*;unfold kJ at ep;generalize o.c=lc at*;subst hv;go_enter func108,ntmps108;go_wp2_with fail;generalize (w.alloc (.cells #[A,o.l,o.q,o.kind,(ba o.path),(ba o.tq),o.dir,o.wr,o.cl,o.h,o.nx,o.sw,.slice bs u.length cs,.slice bf r.length bg] 36)).alloc (.cells (cE 0) 29)=w0 at*;have B1:=lH (lt_of_block fq);generalize kv:w.heap.size=ae at*;have C1:w0.cell? (I L.s 10)=some (Y L.tk):=iy.o.cell 10;have C2:w0.cell? (I ae 0)=some (Z A):=aA ci _;have C3:w0.cell? (I ae 9)=some (Z o.h):=aA ci _
 have dd:Hid (Zero w0 aa ae (.cells #[A,o.l,o.q,o.kind,(ba o.path),(ba o.tq),o.dir,o.wr,o.cl,o.h,o.nx,o.sw,.slice bs u.length cs,.slice bf r.length bg] 36 (0,0))):=lH ⟨ci,ha.o.1⟩;have jz:Hid (Zero w0 aa (ae+1) (.cells (cE 0) 29 (0,0))):=lH ⟨fq,ha.o.2⟩;clear ci fq;refine xA 5 undef #[Z 0,Z 0,Z 0,false] 53 13 [14,15] ?_ ee;refine xC ep.o ?_;refine xB ?_;refine xE ?_;intro W fa bw hp hy;have ex:=lH hy;have gc:=lH hp;have gu:Hid (w0.heap.size<=W.heap.size):=lH bw.size;clear hy hp bw;simp only [EE,FW,GK,EH,ES,pT,aJ,lsS];have cv:=lH (show ((cT (ak.getD gY)):Array Value).all (·.oneCell')=true from by simp [Value.oneCell']);generalize W.heap.size=af at*;refine BR rfl 53 (.tmp 5) (.tmp 23) rfl af (cT (ak.getD gY)) rfl rfl 53 _ ex Tryz.tC rfl cv ?_;go_wp2_with fail;have hg:=aW (cs':=(cT (ak.getD gY))) ex.o;have co:Hid (Fr No w0 (fa.setRow af (cT (ak.getD gY)))):=lH (Fr.setRow gc (.inr gu) _);have fb:Hid (Zero (fa.setRow af (cT (ak.getD gY))) aa af (.cells (cT (ak.getD gY)) 53 (0,0))):=lH ⟨hg,ds _ gu⟩;clear hg C1 C2 C3 ex gc cv ep;generalize fa.setRow af (cT (ak.getD gY))=wR at*;cases ak with
 | none=>
  go_wp2_with fail;refine cr (iD _ _) ?_;rintro iq rfl;go_wp2_with fail;exact ⟨rfl,bu 13 G (gg.o trivial) _ _ rfl (bk.o.trans co zq)⟩
 | some x=>
  obtain ⟨i,m,ie,kj,hx,ib,ic,dh⟩:=hf.o x rfl;obtain ⟨cl,cm,lf,an⟩:=x;dsimp only at ie;subst ie;dsimp only [Option.getD_some] at fb ⊢;have dt:=lH ib;have iz:=lH ic;have ja:=lH dh;have gi:Hid (an=false/\¬(r= []/\u= [])->al=(10,bU,S)):=lH (λh=>gh.o _ rfl h);have gk:Hid (¬(an=false/\¬(r= []/\u= []))->J.1≠0->al=(J.1,bU,S)):=lH (λab ag=>gj.o _ rfl ab ag);have gm:Hid (¬(an=false/\¬(r= []/\u= []))->J.1=0->¬(∀d∈r,kW J.2 i d)->al=(4,bU,S)):=lH (λab ag ad=>gl.o _ rfl ab ag ad);have gp:Hid (¬(an=false/\¬(r= []/\u= []))->J.1=0->(∀d∈r,kW J.2 i d)->al=(0,jD 0 i (r.foldl bT m).size 0 0 false,{nM S u r A o.nx i with K:=kT o.cl S.K ⟨cl,cm,i,an⟩})):=lH (λab ag ad=>by
   have:=gn.o _ rfl ab ag ad;rw [FH,dt.o,Option.getD_some] at this;exact this)
  clear ib ic dh gg gh gj gl gn hf;have kf:=aA fb.o.1;go_wp2_with fail;refine cr (iU _ _) ?_;rintro iq rfl;obtain ⟨wR,rfl⟩:∃wR:World,wR=iq:=⟨_,rfl⟩;go_upto_region 3 with fail;go_cut [] (λcd=>Hid (Fr No wR cd)/\Hid (¬(an=false/\¬(r= []/\u= []))))
  case first=>
   cases an with
   | true=>
    go_wp2_with fail;refine cr (iU _ _) ?_;rintro V rfl;go_wp2_with fail;go_meet;exact ⟨lH (Fr.refl _),lH (λh=>by cases h.1)⟩
   | false=>
    have la:wR.cell? (I ae 12)=some (.slice bs u.length cs):=aA (dd.o.no co.o).1 _;have lb:wR.cell? (I ae 13)=some (.slice bf r.length bg):=aA (dd.o.no co.o).1 _;have kz:IntKind.i64.wrap ((r.length:Int)+(u.length:Int))=(r.length:Int)+(u.length:Int):=(by have:=gx.o;have:=eq.o;rw [BG];omega)
    cases az:(((r.length:Int)+(u.length:Int))==0) with
    | true=>
     have jn:Hid (r= []/\u= []):=lH (by
      have:(r.length:Int)+(u.length:Int)=0:=(by simpa using az)
      exact ⟨GL.1 X,GL.1 X⟩)
     go_wp2_with fail;refine cr (iU _ _) ?_;rintro V rfl;go_wp2_with fail;go_meet;exact ⟨lH (Fr.refl _),lH (λh=>h.2 jn)⟩
    | false=>
     have ap:Hid (al=(10,bU,S)):=lH (gi.o ⟨rfl,λh=>by
      rw [h.1,h.2] at az;simp at az⟩)
     go_wp2_with fail;refine cr (iD _ _) ?_;rintro V rfl;go_wp2_with fail;exact ⟨rfl,bu 10 G ap _ _ rfl (bk.o.trans co zq)⟩
  case rest=>
   obtain ⟨gd,et⟩:=hcut;obtain ⟨ga,rfl⟩:∃ga:World,ga=wc:=⟨_,rfl⟩;have dm:=lH (co.o.trans gd zq);have hm:=lH (dd.o.no dm);have jx:=lH (fb.o.no gd);have a0:=aA hm.o.1;have eu:=lH (he.o ga dm);unfold wV at eu;clear he kf;go_wp2_with (refine CS rfl 36 (.tmp 3) rfl ae rfl 36 _ (0,0) _ hm.o.1 underlying36 rfl Tryz.zB ?_);refine eu.o.mono ?_;rintro e wS ⟨df,ay⟩;by_cases bz:J.1=0
   ·rw [AL bz] at ay;obtain ⟨ih,ii,rfl,dh,kl,km⟩:=ay;have gt:=lH bz;have gy:=lH dh;have dn:=lH (dm.o.trans df zq);have cf:=lH (jx.o.no df);have kd:=lH (dd.o.no dn);have ik:=aA kd.o.1;clear bz dh kl km df a0 eu;go_wp2_with fail;go_loopw [52] (λa wr=>∃j:Nat,a=Z j/\j<=r.length/\Hid (∀d∈r.take j,kW J.2 i d)/\Hid (Fr No wS wr)) (λa _=>r.length - (intOf a).toNat);case atStart=>exact ⟨0,rfl,BA _,lH D,lH (Fr.refl _)⟩
    case round=>
     obtain ⟨j,rfl,kk,eo,ao⟩:=hrel;have av:=lH (dn.o.trans ao zq);by_cases am:j<r.length
     ·have ch:r≠ []:=by{intro e;subst e;simp at am}
      obtain ⟨b,off,rfl,fj,fg,di⟩:=(hh.o.no ds av).at ch;have cw:=lH (di j r[j] (AC am));have gs:Hid (kW J.2 i r[j]->∀z∈r.take (j+1),kW J.2 i z):=lH (λhd z az=>by
       rw [DJ,AC am,JP] at az;rcases BM.1 az with az|az;{exact eo.o z az}
       ·rw [BB.1 az];exact hd)
      have dr:Hid (¬kW J.2 i r[j]->al=(4,bU,S)):=lH (λed=>gm.o et gt (λh=>ed (h _ (BF am))));have fx:(j:Int)<(r.length:Int):=X;have ks:(0:Int)<=(j:Int):=X;have ki:r.length<=1000:=eq.o;generalize r[j]=d at*;unfold dE at cw;have aw:=lH ((Fr.refl (S:=No) wr).alloc (.cells (cV d) 61));have aj:=lH (aT wr (.cells (cV d) 61));clear di fj fg ik;go_upto_region 8 with (refine EQ R 61 _ R b (off+j*14) R (cV d) _ cw underlying61 rfl Tryz.o7 ?_);generalize wr.alloc (.cells (cV d) 61)=ar at*;generalize wr.heap.size=bj at*
      ·skip
       have bc:=lH (Vm d ar);unfold Bh iV at bc;cases bx:decide (dP d) with
       | false=>
        rw [bx] at bc;have ap:=lH (dr.o (λh=>by rw [EI] at bx;exact bx h.1));clear bx;go_wp2_with (refine CS rfl 61 (.tmp 9) rfl bj rfl 61 _ (0,0) _ aj underlying61 rfl Tryz.o7 ?_);refine cr bc.o λV Q=> ?_;have ah:=lH (aw.o.trans Q zq);clear Q;go_wp2_with fail;refine cr (iD _ _) ?_;rintro H rfl;go_wp2_with fail;exact ⟨rfl,bu 4 G ap _ _ rfl (bk.o.trans (av.o.trans ah zq) zq)⟩
       | true=>
        rw [bx] at bc;have er:Hid (dP d):=lH (DK bx);clear bx;cases ab:(d.i==(i:Int)) with
        | false=>
         have ap:=lH (dr.o (λh=>by rw [h.2.1] at ab;simp at ab));go_wp2_with (refine CS rfl 61 (.tmp 9) rfl bj rfl 61 _ (0,0) _ aj underlying61 rfl Tryz.o7 ?_);refine cr bc.o λV Q=> ?_;have ah:=lH (aw.o.trans Q zq);have ai:=Q.aB aj id;have ei:=aA ai;have ea:V.cell? (I af 2)=some (Z i):=aA (cf.o.no (ao.o.trans ah.o zq)).1 _;clear ai Q;go_wp2_with fail;refine cr (iD _ _) ?_;rintro H rfl;go_wp2_with fail;exact ⟨rfl,bu 4 G ap _ _ rfl (bk.o.trans (av.o.trans ah zq) zq)⟩
        | true=>
         have gv:Hid (d.i=(i:Int)):=lH (by simpa using ab);cases ag:(d.k !=3) with
         | false=>
          have ap:=lH (dr.o (λh=>h.2.2.1 (by simpa using ag)));go_wp2_with (refine CS rfl 61 (.tmp 9) rfl bj rfl 61 _ (0,0) _ aj underlying61 rfl Tryz.o7 ?_);refine cr bc.o λV Q=> ?_;have ah:=lH (aw.o.trans Q zq);have ai:=Q.aB aj id;have ei:=aA ai;have ea:V.cell? (I af 2)=some (Z i):=aA (cf.o.no (ao.o.trans ah.o zq)).1 _;clear ai Q;go_wp2_with fail;refine cr (iD _ _) ?_;rintro H rfl;go_wp2_with fail;exact ⟨rfl,bu 4 G ap _ _ rfl (bk.o.trans (av.o.trans ah zq) zq)⟩
         | true=>
          have gw:Hid (d.k≠3):=lH (by simpa using ag);have kw:∀w':World,(Instr.build 59 #[]).run prog w'=.ok (.agg #[Z 0,Z 0,Z 0,Z 0,Z 0]) w':=λw'=>by kernel_rfl
          cases ad:decide (d.t=aQ) with
          | true=>
           have ct:Hid (kW J.2 i d):=lH ⟨er,gv,gw,.inl (DK ad)⟩;go_wp2_with (refine CS rfl 61 (.tmp 9) rfl bj rfl 61 _ (0,0) _ aj underlying61 rfl Tryz.o7 ?_);refine cr bc.o λV Q=> ?_;have ah:=lH (aw.o.trans Q zq);have ai:=Q.aB aj id;have ei:=aA ai;have ea:V.cell? (I af 2)=some (Z i):=aA (cf.o.no (ao.o.trans ah.o zq)).1 _;have cx:Hid (d.t=aQ):=lH (DK ad);have el:=lH Q;clear ai Q ad;go_wp2_with (rw [Je,AL cx.o]);refine cr (iU _ _) ?_;rintro H rfl;go_wp2_with fail;go_roundw;{exact ⟨j+1,by go_num,am,lH (gs.o ct),lH (ao.o.trans (aw.o.trans el zq) zq)⟩};simp [intOf];omega
          | false=>
           have du:Hid (dW d.t):=lH er.o.2.2.2.2.2.2.1;cases ax:uA J.2 d.t with
           | true=>
            have ct:Hid (kW J.2 i d):=lH ⟨er,gv,gw,.inr ax⟩;go_wp2_with (refine CS rfl 61 (.tmp 9) rfl bj rfl 61 _ (0,0) _ aj underlying61 rfl Tryz.o7 ?_);refine cr bc.o λV Q=> ?_;have ah:=lH (aw.o.trans Q zq);have ai:=Q.aB aj id;have ei:=aA ai;have ea:V.cell? (I af 2)=some (Z i):=aA (cf.o.no (ao.o.trans ah.o zq)).1 _;have cx:Hid (¬d.t=aQ):=lH (IV ad);have br:=lH (D8 ih ii J.2 d.t V (gy.o.fr (ao.o.trans ah zq) id) (qX du).1 (show I64 _ by have:=(qX du).2;unfold I64;omega) (λy e fo=>by have:=hc.o y e fo;unfold I64;omega));unfold dG at br;rw [ax] at br;have el:=lH Q;clear ai Q ad ax;go_wp2_with (rw [Je,AA cx.o]);refine cr br.o λkt de=> ?_;have it:=lH (el.o.trans de zq);clear de;go_wp2_with fail;refine cr (iU _ _) ?_;rintro H rfl;go_wp2_with fail;go_roundw;{exact ⟨j+1,by go_num,am,lH (gs.o ct),lH (ao.o.trans (aw.o.trans it zq) zq)⟩};simp [intOf];omega
           | false=>
            have ap:=lH (dr.o (λh=>by
             rcases h.2.2.2 with h|h;{rw [EI] at ad;exact ad h}
             ·rw [ax] at h;cases h))
            go_wp2_with (refine CS rfl 61 (.tmp 9) rfl bj rfl 61 _ (0,0) _ aj underlying61 rfl Tryz.o7 ?_);refine cr bc.o λV Q=> ?_;have ah:=lH (aw.o.trans Q zq);have ai:=Q.aB aj id;have ei:=aA ai;have ea:V.cell? (I af 2)=some (Z i):=aA (cf.o.no (ao.o.trans ah.o zq)).1 _;have cx:Hid (¬d.t=aQ):=lH (IV ad);have br:=lH (D8 ih ii J.2 d.t V (gy.o.fr (ao.o.trans ah zq) id) (qX du).1 (show I64 _ by have:=(qX du).2;unfold I64;omega) (λy e fo=>by have:=hc.o y e fo;unfold I64;omega));unfold dG at br;rw [ax] at br;clear ai Q ad ax;go_wp2_with (rw [Je,AA cx.o]);refine cr br.o λkt de=> ?_;have ir:=lH (ah.o.trans de zq);clear de;go_wp2_with fail;refine cr (iD _ _) ?_;rintro H rfl;go_wp2_with fail;exact ⟨rfl,bu 4 G ap _ _ rfl (bk.o.trans (av.o.trans ir zq) zq)⟩
     ·(have dg:j=r.length:=X);have en:Hid (∀d∈r,kW J.2 i d):=lH (by have:=eo.o;rw [dg,AX] at this;exact this);have fx:¬(j:Int)<(r.length:Int):=X;obtain ⟨gb,rfl⟩:∃gb:World,gb=wr:=⟨_,rfl⟩;have fe:=lH (dd.o.no av);have ke:=aA fe.o.1;have em:=lH (ge.o gb av);unfold yK at em;have gq:=lH (gp.o et gt en);clear dg ik eo gi gk gm gp ge;go_wp2_with (refine CS rfl 36 (.tmp 3) rfl ae rfl 36 _ (0,0) _ fe.o.1 underlying36 rfl Tryz.zB ?_);refine cr em.o ?_;rintro fz ⟨eg,cb,io⟩;have ju:Hid (Step (bD K) w0 aa fz eg):=lH (((noS ds av).mono (λ_ e=>e.elim)).trans (cb.mono (λc e=>by unfold bD;omega)) (λ_ e=>e));have jw:=lH io;have hl:=lH (fe.o.step cb X);have hi:=lH ((cf.o.no ao).step cb X);have ka:=lH ((jz.o.no av).step cb X);have js:=lH ((hh.o.no ds av).step cb X);have jq:=lH (je.o.iJ u A o.nx);have hn:=aA hl.o.1;have iv:=lH cb.fresh;clear cb io ke em;go_wp2_with fail;go_loopw [93] (λa wr=>∃(j:Nat) (ca:Nat->Nat),a=Z j/\j<=r.length/\Hid (Step (fO K i) fz eg wr ca)/\Hid (aV wr ca K L {iJ S u A o.nx with F:=aS S.F i (some ((r.take j).foldl bT m))} (n+u.length))) (λa _=>r.length - (intOf a).toNat);case atStart=>exact ⟨0,eg,rfl,BA _,lH (Step.refl iv),lH (by rw [FY,MR,aBz dt.o];exact jw.o)⟩
      case round=>
       obtain ⟨j,ca,rfl,kk,bd,dv⟩:=hrel;have dj:¬fO K i 0:=(by unfold fO;omega);have cu:Hid (eX ((r.take j).foldl bT m)/\∀p∈((r.take j).foldl bT m).l,dW p):=lH (Ws (λd hd=>en.o d (FU hd)) iz ja);have bv:Hid (aH {iJ S u A o.nx with F:=aS S.F i (some ((r.take j).foldl bT m))}):=lH (jq.o.uU ⟨kj,hx⟩ cu.o.1);by_cases am:j<r.length
       ·have ch:r≠ []:=by{intro e;subst e;simp at am}
        obtain ⟨b,off,rfl,fj,fg,di⟩:=(js.o.step bd dj).at ch;have cw:=lH (di j r[j] (AC am));have ct:Hid (kW J.2 i r[j]):=lH (en.o _ (BF am));have jk:Hid ((r.take (j+1)).foldl bT m=bT ((r.take j).foldl bT m) r[j]):=lH (by
         rw [DJ,AC am,JP,JC];rfl)
        have fx:(j:Int)<(r.length:Int):=X;have ks:(0:Int)<=(j:Int):=X;have ki:r.length<=1000:=eq.o;generalize r[j]=d at*;unfold dE at cw;generalize (r.take j).foldl bT m=ft at*;have aw:=lH ((Fr.refl (S:=No) wr).alloc (.cells (cV d) 61));have aj:=lH (aT wr (.cells (cV d) 61));clear di fj fg hn ch;go_upto_region 14 with (refine EQ R 61 _ R b (off+j*14) R (cV d) _ cw underlying61 rfl Tryz.o7 ?_)
        generalize wr.alloc (.cells (cV d) 61)=ar at*;generalize wr.heap.size=bj at*;have cn:Fr No wr ar.drew:=aw.o.trans (Fr.refl _).drew zq;have ec:=bd.o.fresh;have dw:=dv.o.no bv ec cn;have hw:aF ar.drew ca:=(noS ec cn).fresh;obtain ⟨p,bn,bm,hs⟩:=dw.files.turn bv.o.file (i:=i) (m:=ft) (Ai _ _ _);have bt:=lH (bn _ (Fr.refl _));have gf:=lH (Vt ca K i p ft d ar.drew bm hw X cu.o.1 ct.o.1);unfold vI kN iV at gf;have iu:=lH hs;have ji:=lH dw;have iw:=lH cn;have ix:=lH ec;have ig:=(Fr.refl (S:=No) ar).drew.aB aj id;have jt:Hid (ar.drew.rangeAt bj 0 (cV d)):=lH (DV ig 0 14);have bp:Hid (ar.drew.cell? (I L.s 11)=some (.map (some L.fl))):=lH (dw.cell 11);have bq:Hid (ar.drew.cell? (I af 2)=some (Z i)):=lH (aA ((hi.o.step bd.o dj).no cn).1 _);clear cn ec dw hw bn bm hs ig;refine qL ee (λW=>W=ar.drew) [8] N N N N (λ_ _ d _ _ h=>by cases d<;>exact h) rfl ?_;repeat (first
         | refine kR R ?_
         | (refine kM (v:= ?_) R R ?_ ?_
            rotate_left 1;(intro W;go_simp;(try with_reducible rfl))
            simp only [pT,aJ,lsS])
         | (refine nK R R ?_
            simp only [pT,aJ,lsS])
         | (refine kL (v:=.agg (cV d)) R N R (λW B=>lV 61 (.tmp 11) R bj 0 R (cV d) _ (by rw [B];exact jt.o) underlying61 rfl Tryz.o7) ?_
            simp only [pT,aJ,lsS])
         | (refine kL (v:= ?_) R N R ?_ ?_
            rotate_left 1;(intro W B;have e0:W.cell? (I L.s 11)=some (.map (some L.fl)):=(by rw [B];exact bp.o);have dy:W.cell? (I af 2)=some (Z i):=(by rw [B];exact bq.o);have dz:(Instr.lookup 128 (.map (some L.fl)) (Z i) false).run prog W=.ok (Y p) W:=(by rw [B];exact bt.o);clear B;go_simp;(try with_reducible rfl))
            simp only [pT,aJ,lsS]))
        intro W B;obtain rfl:W=ar.drew:=B;simp only [CX,DL,DC,CQ];go_wp2_with fail;refine gf.o.mono ?_;rintro e fy ⟨⟨ld,ku,rfl⟩,ef,ej,il⟩;have jh:Hid (Step (fO K i) fz eg fy ef):=lH (bd.o.trans (((noS ix iw).mono (λ_ e=>e.elim)).trans ej (λ_ e=>e)) (λ_ e=>e));have jj:Hid (aV fy ef K L {iJ S u A o.nx with F:=aS S.F i (some (bT ft d))} (n+u.length)):=lH (by
         have:=ji.o.uU hx bv ej (iu.o fy ef _ ej il);rw [aCx] at this;exact this)
        clear ej il;go_wp2_with fail;go_roundw;{exact ⟨j+1,ef,by go_num,am,jh,by rw [jk.o];exact jj⟩};simp [intOf];omega
       ·(have dg:j=r.length:=X);have fx:¬(j:Int)<(r.length:Int):=X;rw [dg,AX] at cu bv dv;obtain ⟨ek,rfl⟩:∃ek:World,ek=wr:=⟨_,rfl⟩;obtain ⟨E,fi⟩:∃E,r.foldl bT m=E:=⟨_,rfl⟩;have gz:=lH fi;rw [fi] at cu bv dv gq;clear fi;have kc:=lH (hl.o.step bd dj);have jy:=lH (hi.o.step bd dj);have kb:=lH (ka.o.step bd dj);have jv:Hid (Step (bD K) w0 aa ek ca):=lH (ju.o.trans (bd.o.mono (λc e=>by unfold fO at e;unfold bD;omega)) (λ_ e=>e));have gr:=lH (Ov ca K (n+u.length) L _ ek dv bv (jf.o.put i cu.o.2) bd.o.fresh (by have:=jd.o;have:=gx.o;omega));unfold Aj at gr;clear dg hn;go_wp2_with fail;refine cr gr.o ?_;rintro au ⟨cj,dl,ip⟩;have dx:=lH (kc.o.step dl X);have hj:=lH (jy.o.step dl X);have hk:=lH (kb.o.step dl X);have ce:Hid (Step (bD K) w0 aa au cj):=lH (jv.o.trans (dl.mono (λc e=>by unfold bD;omega)) (λ_ e=>e));have db:=lH ip;have be:Hid (aH {iJ S u A o.nx with F:=aS S.F i (some E),U:=iC (aS S.F i (some E)) (iJ S u A o.nx).U}):=lH (bv.o.Uk _);have fs:au.cell? (I ae 8)=some (.bool o.cl):=aA dx.o.1 _;have ht:∀w':World,(Instr.build 29 #[(1,Z i),(2,Z E.size)]).run prog w'=.ok (.agg #[Z 0,i,E.size,Z 0,Z 0,false,nS,nS]) w':=λw'=>by kernel_rfl
        have dp:=lH ht;have cv:=lH (show (#[Z 0,i,E.size,Z 0,Z 0,false,nS,nS]:Array Value).all (·.oneCell')=true from by simp [Value.oneCell']);have hb:Hid (∀eh cd V e,aV cd eh K L {iJ S u A o.nx with F:=aS S.F i (some E),U:=iC (aS S.F i (some E)) (iJ S u A o.nx).U,K:=kT o.cl S.K ⟨cl,cm,i,an⟩} (n+u.length)->Step (bD K) w0 aa cd eh->e=.returned (lQ 0 i E.size 0 0 false)->Fr (λj=>j=ae+1) cd V->jr e V):=lH (λeh cd V e t s ay g=>by
         refine jg.o i E.size _ gq ?_ e w0 cd V eh ay bk B1 s ?_ g;{exact ⟨be.o.tree,by unfold nM;rw [dt.o,Option.getD_some,gz.o];exact be.o.file⟩}
         ·unfold nM;rw [dt.o,Option.getD_some,gz.o];exact t)
        clear dl ip ht;cases eb:o.cl with
        | true=>
         rw [eb] at fs;have ci:au.cell? (I ae 0)=some (Z A):=aA dx.o.1 _;have kq:=aA dx.o.1;have kp:au.cell? (I L.s 10)=some (Y L.tk):=db.o.cell 10;have bh:Fr No au au.drew:=(Fr.refl _).drew;have dq:=lH (close_ cj K L.tk S.K A o.h au.drew (db.o.no be ce.o.fresh bh).tok (noS ce.o.fresh bh).fresh);rw [jm.o] at dq;unfold zL oO at dq;dsimp only at dq;have jo:Hid (¬iE K (cj ae)):=lH (by rw [dx.o.2];unfold iE;omega);have jp:Hid (¬iE K (cj L.s)):=lH (by rw [db.o.own];unfold iE;omega);clear bh;go_wp2_with fail;go_region_held3 (λw'=>w'.cell? (I L.s 10)=some (Y L.tk)/\w'.cell? (I ae 0)=some (Z A)/\w'.cell? (I ae 9)=some (Z o.h)) (first|go_keep|(go_split_ands;refine ⟨?_,?_,?_⟩<;>exact ck.fr.cell_of (by assumption) (by first|exact jp.o|exact jo.o)))
          ((go_at_call 164;refine dq.o.mono ?_;rintro e H ⟨rfl,dk,ck,im⟩))
         have bh:Fr No au au.drew:=(Fr.refl _).drew;have dc:Hid (aV H dk K L {iJ S u A o.nx with F:=aS S.F i (some E),U:=iC (aS S.F i (some E)) (iJ S u A o.nx).U,K:=kT o.cl S.K ⟨cl,cm,i,an⟩} (n+u.length)):=lH (by
          have:=(db.o.no be ce.o.fresh bh).Bq be ck im;unfold kT;rw [AL eb];exact this)
         have da:Hid (Step (bD K) w0 aa H dk):=lH (ce.o.trans (((noS ce.o.fresh bh).mono (λ_ e=>e.elim)).trans (ck.mono (λ_ e=>Ii e)) (λ_ e=>e)) (λ_ e=>e));have fc:=lH ((hj.o.no bh).step ck (by unfold iE;omega));have fd:=lH ((hk.o.no bh).step ck (by unfold iE;omega));clear ck im bh ci fs kq kp;try go_wp2_with fail
         have cz:Hid (aH {iJ S u A o.nx with F:=aS S.F i (some E),U:=iC (aS S.F i (some E)) (iJ S u A o.nx).U,K:=kT o.cl S.K ⟨cl,cm,i,an⟩}):=lH ⟨be.o.tree,be.o.file⟩;have bi:Fr No H H.drew:=(Fr.refl _).drew;have cc:=dc.o.no cz da.o.fresh bi;obtain ⟨p,bn,bm,_⟩:=cc.files.turn cz.o.file (i:=i) (m:=E) (Ai _ _ _);have bt:=lH (bn _ (Fr.refl _));have ev:=lH (Hg p E H.drew bm.reads);have bp:Hid (H.drew.cell? (I L.s 11)=some (.map (some L.fl))):=lH (cc.cell 11);have bq:Hid (H.drew.cell? (I af 2)=some (Z i)):=lH (aA (fc.o.no bi).1 _);have cy:=lH (fd.o.no bi).1;clear cc bn bm bi;refine qL ee (λW=>W=H.drew) [11] N N N N (λ_ _ d _ _ h=>by cases d<;>exact h) rfl ?_;repeat (first
          | refine kR R ?_
          | (refine kM (v:= ?_) R R ?_ ?_
             rotate_left 1;(intro W;have fl:=dp.o W;go_simp;(try with_reducible rfl))
             simp only [pT,aJ,lsS])
          | (refine nK R R ?_
             simp only [pT,aJ,lsS])
          | (refine kL (v:= ?_) R N R ?_ ?_
             rotate_left 1;(intro W B;have e0:W.cell? (I L.s 11)=some (.map (some L.fl)):=(by rw [B];exact bp.o);have dy:W.cell? (I af 2)=some (Z i):=(by rw [B];exact bq.o);have dz:(Instr.lookup 128 (.map (some L.fl)) (Z i) false).run prog W=.ok (Y p) W:=(by rw [B];exact bt.o);clear B;go_simp;(try with_reducible rfl))
             simp only [pT,aJ,lsS]))
         refine o9 (v:=Z E.size) 37 #[Y p] R N R (λW=>by go_simp) (λw' B=>by subst B;exact ev.o.mono (λe bo h=>⟨h.1,h.2⟩)) ?_;simp only [pT,aJ,lsS];repeat (first
          | refine kR R ?_
          | (refine kM (v:= ?_) R R ?_ ?_
             rotate_left 1;(intro W;have fl:=dp.o W;go_simp;(try with_reducible rfl))
             simp only [pT,aJ,lsS])
          | (refine nK R R ?_
             simp only [pT,aJ,lsS])
          | (refine kL (v:= ?_) R N R ?_ ?_
             rotate_left 1;(intro W B;have e0:W.cell? (I L.s 11)=some (.map (some L.fl)):=(by rw [B];exact bp.o);have dy:W.cell? (I af 2)=some (Z i):=(by rw [B];exact bq.o);have dz:(Instr.lookup 128 (.map (some L.fl)) (Z i) false).run prog W=.ok (Y p) W:=(by rw [B];exact bt.o);clear B;go_simp;(try with_reducible rfl))
             simp only [pT,aJ,lsS]))
         intro W B;obtain rfl:W=H.drew:=B;simp only [CX,DL,DC,CQ];go_wp2_with (refine BR rfl 29 (.tmp 4) (.tmp 131) rfl (ae+1) #[Z 0,i,E.size,Z 0,Z 0,false,nS,nS] rfl rfl 29 _ cy Tryz.size29 rfl cv ?_);have ew:=aW (cs':= #[Z 0,i,E.size,Z 0,Z 0,false,nS,nS]) cy.o;exact AZ (v:=lQ 0 i E.size 0 0 false) (BH rfl _ _ (ae+1) 29 _ (0,0) _ rfl ew underlying29 rfl Tryz.size29) rfl
          (hb.o _ _ _ _ dc.o da.o rfl (((Fr.refl (S:=λj=>j=ae+1) H).drew).trans (fR) zq))
        | false=>
         have dc:Hid (aV au cj K L {iJ S u A o.nx with F:=aS S.F i (some E),U:=iC (aS S.F i (some E)) (iJ S u A o.nx).U,K:=kT o.cl S.K ⟨cl,cm,i,an⟩} (n+u.length)):=lH (by rw [eb];exact db.o);have da:=ce;have fc:=hj;have fd:=hk;rw [eb] at fs;go_wp2_with fail;obtain ⟨H,rfl⟩:∃H:World,H=au:=⟨_,rfl⟩;obtain ⟨dk,rfl⟩:∃dk:Nat->Nat,dk=cj:=⟨_,rfl⟩
         have cz:Hid (aH {iJ S u A o.nx with F:=aS S.F i (some E),U:=iC (aS S.F i (some E)) (iJ S u A o.nx).U,K:=kT o.cl S.K ⟨cl,cm,i,an⟩}):=lH ⟨be.o.tree,be.o.file⟩;have bi:Fr No H H.drew:=(Fr.refl _).drew;have cc:=dc.o.no cz da.o.fresh bi;obtain ⟨p,bn,bm,_⟩:=cc.files.turn cz.o.file (i:=i) (m:=E) (Ai _ _ _);have bt:=lH (bn _ (Fr.refl _));have ev:=lH (Hg p E H.drew bm.reads);have bp:Hid (H.drew.cell? (I L.s 11)=some (.map (some L.fl))):=lH (cc.cell 11);have bq:Hid (H.drew.cell? (I af 2)=some (Z i)):=lH (aA (fc.o.no bi).1 _);have cy:=lH (fd.o.no bi).1;clear cc bn bm bi;refine qL ee (λW=>W=H.drew) [11] N N N N (λ_ _ d _ _ h=>by cases d<;>exact h) rfl ?_;repeat (first
          | refine kR R ?_
          | (refine kM (v:= ?_) R R ?_ ?_
             rotate_left 1;(intro W;have fl:=dp.o W;go_simp;(try with_reducible rfl))
             simp only [pT,aJ,lsS])
          | (refine nK R R ?_
             simp only [pT,aJ,lsS])
          | (refine kL (v:= ?_) R N R ?_ ?_
             rotate_left 1;(intro W B;have e0:W.cell? (I L.s 11)=some (.map (some L.fl)):=(by rw [B];exact bp.o);have dy:W.cell? (I af 2)=some (Z i):=(by rw [B];exact bq.o);have dz:(Instr.lookup 128 (.map (some L.fl)) (Z i) false).run prog W=.ok (Y p) W:=(by rw [B];exact bt.o);clear B;go_simp;(try with_reducible rfl))
             simp only [pT,aJ,lsS]))
         refine o9 (v:=Z E.size) 37 #[Y p] R N R (λW=>by go_simp) (λw' B=>by subst B;exact ev.o.mono (λe bo h=>⟨h.1,h.2⟩)) ?_;simp only [pT,aJ,lsS];repeat (first
          | refine kR R ?_
          | (refine kM (v:= ?_) R R ?_ ?_
             rotate_left 1;(intro W;have fl:=dp.o W;go_simp;(try with_reducible rfl))
             simp only [pT,aJ,lsS])
          | (refine nK R R ?_
             simp only [pT,aJ,lsS])
          | (refine kL (v:= ?_) R N R ?_ ?_
             rotate_left 1;(intro W B;have e0:W.cell? (I L.s 11)=some (.map (some L.fl)):=(by rw [B];exact bp.o);have dy:W.cell? (I af 2)=some (Z i):=(by rw [B];exact bq.o);have dz:(Instr.lookup 128 (.map (some L.fl)) (Z i) false).run prog W=.ok (Y p) W:=(by rw [B];exact bt.o);clear B;go_simp;(try with_reducible rfl))
             simp only [pT,aJ,lsS]))
         intro W B;obtain rfl:W=H.drew:=B;simp only [CX,DL,DC,CQ];go_wp2_with (refine BR rfl 29 (.tmp 4) (.tmp 131) rfl (ae+1) #[Z 0,i,E.size,Z 0,Z 0,false,nS,nS] rfl rfl 29 _ cy Tryz.size29 rfl cv ?_);have ew:=aW (cs':= #[Z 0,i,E.size,Z 0,Z 0,false,nS,nS]) cy.o;exact AZ (v:=lQ 0 i E.size 0 0 false) (BH rfl _ _ (ae+1) 29 _ (0,0) _ rfl ew underlying29 rfl Tryz.size29) rfl
          (hb.o _ _ _ _ dc.o da.o rfl (((Fr.refl (S:=λj=>j=ae+1) H).drew).trans (fR) zq))
   {rw [AA bz] at ay;subst ay;have ap:=lH (gk.o et bz);have dn:=lH (dm.o.trans df zq);have jc:=lH bz;clear df bz;go_wp2_with fail;exact ⟨rfl,bu _ jc ap _ _ rfl (bk.o.trans dn zq)⟩}
theorem Zx (r K n L S o am ak w) (h:aV w r K L S n) (ok:aH S) (ct:jQ S.F) (Q:aF w r) (bv:o.path.length<=1000000) (co:n<=1000000):
  Calls prog 103 #[Y L.s,.agg (o.cells am ak)] w (bH w r K L n (jA S o)):=by
 obtain ⟨cm,bw,bx,ai,ad⟩:=begun h ok Q o am ak;have bh:=lH cm;have ce:Hid (∀w',Fr No (dJ w o am ak) w'->Calls prog 85 #[Y L.tr,(ba o.path)] w' λe A=>e=.returned (.tuple #[.int .i64 (lookOf S.T o.path).2.1,.bool (lookOf S.T o.path).2.2,.int .i64 (lookOf S.T o.path).1])/\Fr No w' A):=
  lH (λw' f=>xG r K L.tr S.T o.path w' bv ((ai.no ok ad f).tree) ok.tree (noS ad f).fresh)
 have da:Hid (∀i:Nat,∀w',Fr No (dJ w o am ak) w'->Calls prog 158 #[Y L.tk,i] w' λe A=>e=.returned (.bool (S.K.any λx=>x.i==i))/\Fr No w' A):=λi w' f=>by
  obtain ⟨v,af,bt⟩:=L6 (ai.no ok ad f).tok;exact aFg L.tk v S.K i w' af bt
 have bn:Hid (∀w',Fr No (dJ w o am ak) w'->Calls prog 159 #[Y L.tr,(ba o.path),o.dir] w' (zX w' r K L.tr S.T o.path o.dir)):=
  lH (λw' f=>aBZ r K L.tr S.T o.path o.dir w' bv ((ai.no ok ad f).tree) ok.tree (noS ad f).fresh)
 have dh:Hid (∀w' aa V,Fr No (dJ w o am ak) w'->Step (dM K) w' r aa V->eG aa V K L.tr (fJ S.T o.path o.dir)->aV aa V K L {S with T:=fJ S.T o.path o.dir} n/\aH {S with T:=fJ S.T o.path o.dir}):=
  lH (λw' aa V f s t=>⟨(ai.no ok ad f).nI ok s t,ok.nI (Bj ok.tree _ _)⟩)
 have cc:Hid ((bM S.T o.path o.dir).1≠0->fJ S.T o.path o.dir=S.T):=λu=>AA u;have cf:Hid ((bM S.T o.path o.dir).1=0->(bM S.T o.path o.dir).2<=128):=λae=>(Nq ok.tree ae).1;have bl:Hid ((lookOf S.T o.path).1≠0->∀e w',e=.panicked (kF (lookOf S.T o.path).1)->Fr No w w'->bH w r K L n (jA S o) e w'):=λu e w' B f=>by
  unfold jA;rw [AL u];exact bH.no h ok Q u B f
 have ch:Hid ((lookOf S.T o.path).1=0->¬mayRemove S o->∀e w',e=.panicked (kF 8)->Fr No w w'->bH w r K L n (jA S o) e w'):=λae af e w' B f=>by
  unfold jA;rw [AA (by simp [ae]),AL af];exact bH.no h ok Q G B f
 have bm:Hid ((lookOf S.T o.path).1=0->mayRemove S o->(bM S.T o.path o.dir).1≠0->∀e w' A ah,e=.panicked (kF (bM S.T o.path o.dir).1)->Fr No w w'->Step (dM K) w' r A ah->aV A ah K L S n->bH w r K L n (jA S o) e A):=λae af u e w' A ah B f s t=>by
  unfold jA;rw [AA (by simp [ae]),AA (λh=>h af),AL u];exact bH.no' Q f s (λ_ e=>zM e) t u B
 have cg:aH (lJ S o):=by{unfold lJ;split;{exact ok.nI (Bj ok.tree _ _)};{exact ((ok.nI (Bj ok.tree _ _)).less _).Uk _}}
 have ay:Hid ((lookOf S.T o.path).1=0->mayRemove S o->(bM S.T o.path o.dir).1=0->∀e w' A H ah,e=.returned (lQ 0 (bM S.T o.path o.dir).2 0 0 0 false)->Fr No w w'->w.heap.size+1<w'.heap.size->Step (λc=>dM K c\/c=K+6\/c=K+7) w' r A ah->aV A ah K L (lJ S o) n->Fr (λj=>j=w.heap.size+1) A H->bH w r K L n (jA S o) e H):=λae af bt e w' A H ah B f dw s t g=>by
  unfold jA;rw [AA (by simp [ae]),AA (λh=>h af),AA (by simp [bt])];exact bH.yes Q f s (λc e=>by rcases e with e|e|e;exact zM e;all_goals (unfold bD;omega)) X dw g cg t B (mY.plain _ _ _ _ _ _ _)
 have ap:Hid (mayRemove S o↔((lookOf S.T o.path).2.2=true\/o.dir=true\/(S.K.any λx=>x.i==(lookOf S.T o.path).2.1)=false)):=Iff.rfl;generalize mayRemove S o=cj at*;generalize dv:bH w r K L n _=dy at*;clear dv;have az:Hid (lJ S o=if (lookOf S.T o.path).2.2=true then {S with T:=fJ S.T o.path o.dir} else {S with T:=fJ S.T o.path o.dir,F:=aS S.F (bM S.T o.path o.dir).2 none,U:=iC (aS S.F (bM S.T o.path o.dir).2 none) S.U}):=lH rfl;generalize lJ S o=dz at*;have dn:Hid (¬dM K (r L.s)):=lH (by rw [h.own];unfold dM;omega);have dk:Hid (¬dM K (r w)):=lH (by rw [Q _ (AU _)];unfold dM;omega);have dl:Hid (¬dM K (r (w.heap.size+1))):=lH (by rw [Q _ (CE _)];unfold dM;omega);have ck:=lH (Q _ (CE _));have cd:=lH ai;have dd:=lH co;have df:=lH ct;clear ai ad cm h ok Q bv co ct cg;unfold zX at bn;generalize lookOf S.T o.path=dt at*;obtain ⟨bq,i,d⟩:=dt;dsimp only at ce bl ch bm ay ap az;generalize bM S.T o.path o.dir=du at*;obtain ⟨ey,E⟩:=du;dsimp only at bn cf cc bm ay az;generalize fJ S.T o.path o.dir=ea at*;unfold dJ aG.cells bU aX.cells at*;generalize eg:o.dir=rd at*;go_enter func103,ntmps103;go_wp2_with fail;generalize (w.alloc _).alloc _=w0 at*;have B1:=lH (lt_of_block bx);generalize ed:w.heap.size=ab at*;have bc:w0.cell? (I L.s 9)=some (Y L.tr):=cd.o.cell 9;have bd:w0.cell? (I ab 4)=some (.string (ba o.path)):=aA bw _;have bg:Hid (w0.cell? (I ab 6)=some (.bool rd)):=lH (aA bw _);have cy:=lH bc;have D4:=lH bd;have di:=lH bx;clear bw bx;go_region_held3 (λw'=>w'.cell? (I L.s 9)=some (Y L.tr)/\w'.cell? (I ab 4)=some (.string (ba o.path))) (first|go_keep|(go_split_ands;refine ⟨?_,?_⟩<;>exact br.cell_of (by assumption) id))
  ((go_at_call 85;refine (ce.o _ (Fr.refl _).drew).mono ?_;rintro e aa ⟨rfl,br⟩))
 have J:=lH ((Fr.refl w0).drew.trans br zq);clear br bc bd;cases ag:(bq==0) with
 | false=>
  (have u:bq≠0:=by simpa using ag);go_wp2_with fail;refine cr (iD _ _) ?_;rintro cx rfl;go_wp2_with fail;exact ⟨rfl,bl u _ _ rfl (bh.o.trans J zq)⟩
 | true=>
  (obtain rfl:bq=0:=by simpa using ag);clear ag bl;go_wp2_with fail;refine cr (iU _ _) ?_;rintro cx rfl;obtain ⟨aa,rfl⟩:∃aa:World,aa=cx:=⟨_,rfl⟩;go_upto_region 3 with fail;go_cut [] (λdx=>Hid (Fr No w0 dx)/\Hid cj)
  case first=>
   cases d with
   | true=>
    go_wp2_with fail;refine cr (iU _ _) ?_;rintro H rfl;go_wp2_with fail;go_meet;exact ⟨J,lH (ap.o.2 D)⟩
   | false=>
    cases rd with
    | true=>
     have d6:=J.o.cell_of bg id;go_wp2_with fail;refine cr (iU _ _) ?_;rintro H rfl;go_wp2_with fail;go_meet;exact ⟨J,lH (ap.o.2 D)⟩
    | false=>
     have d6:=J.o.cell_of bg id;have eb:=J.o.cell_of (cd.o.cell 10) id;have ax:=lH (da.o i aa J);cases al:(S.K.any λx=>x.i==(i:Int)) with
     | true=>
      rw [al] at ax;have u:¬cj:=λh=>by
       rcases ap.o.1 h with h|h|h;{cases h};{cases h};{rw [al] at h;cases h}
      have de:=lH u;clear u al;go_wp2_with fail;refine cr ax.o λH ar=> ?_;have bi:=lH (J.o.trans ar zq);clear ar;go_wp2_with fail;refine cr (iD _ _) ?_;rintro bf rfl;go_wp2_with fail;exact ⟨rfl,ch trivial de _ _ rfl (bh.o.trans bi zq)⟩
     | false=>
      rw [al] at ax;have dc:=lH (ap.o.2 (by simp only [al];simp));clear al;go_wp2_with fail;refine cr ax.o λH ar=> ?_;have bi:=lH (J.o.trans ar zq);clear ar;go_wp2_with fail;refine cr (iU _ _) ?_;rintro bf rfl;go_wp2_with fail;go_meet;exact ⟨bi,dc⟩
  case rest=>
   obtain ⟨aw,bk⟩:=hcut;obtain ⟨an,rfl⟩:∃an:World,an=wc:=⟨_,rfl⟩;have bc:=aw.o.cell_of cy id;have bd:=aw.o.cell_of D4 id;have d6:=aw.o.cell_of bg id;have ao:=lH (aw.o.trans (Fr.refl an).drew zq);have dg:=lH (bn.o an.drew ao);go_upto_region 4 with fail
   go_region_held3 (λw'=>w'.cell? (I L.s 9)=some (Y L.tr)/\w'.cell? (I ab 4)=some (.string (ba o.path))/\w'.cell? (I ab 6)=some (.bool rd)) (first|go_keep|(go_split_ands;refine ⟨?_,?_,?_⟩<;>exact au.fr.cell_of (by assumption) (by first|exact dn.o|exact dk.o)))
    ((go_at_call 159;refine dg.o.mono ?_;rintro e bf ⟨rfl,V,au,cv⟩))
   have bb:=lH (AP B1 ao.o.size);have bj:=lH (bh.o.trans ao zq);obtain ⟨cu,cp⟩:=dh.o an.drew bf V ao au cv;have aj:=lH cu;have cl:=lH cp;have S1:=lH au;have bp:=lH (au.fr.aB (ao.o.aB di id) dl);clear cu cp au cv bc bd d6;cases ag:(ey==0) with
   | false=>
    have u:ey≠0:=(by simpa using ag);have aq:=lH (bm.o D bk u _ _ _ _ rfl bj S1 (by have:=aj.o;rw [cc.o u] at this;exact this));go_wp2_with fail;refine cr (iD _ _) ?_;rintro av rfl;go_wp2_with fail;exact ⟨rfl,aq⟩
   | true=>
    obtain rfl:ey=0:=(by simpa using ag);clear ag;have ef:E<=128:=cf.o rfl;have ee:∀w':World,(Instr.build 29 #[(1,Z E)]).run prog w'=.ok (.agg #[Z 0,E,Z 0,Z 0,Z 0,false,nS,nS]) w':=λw'=>by kernel_rfl
    cases d with
    | true=>
     have aq:=lH (λe H B g=>ay.o D bk D e _ _ H _ B bj bb (S1.o.mono (λ_ h=> .inl h)) (by rw [az.o,AL rfl];exact aj.o) g);go_wp2_with fail;refine cr (iU _ _) ?_;rintro av rfl;go_wp2_with (refine wS 29 (cs:= #[Z 0,E,Z 0,Z 0,Z 0,false,nS,nS]) bp ?_);have bo:=aW (cs':= #[Z 0,E,Z 0,Z 0,Z 0,false,nS,nS]) bp.o;exact AZ (v:=lQ 0 E 0 0 0 false) (BH rfl _ _ (ab+1) 29 _ (0,0) _ rfl bo underlying29 rfl Tryz.size29) rfl
      (aq.o _ _ rfl (fR))
    | false=>
     have ec:bf.cell? (I L.s 11)=some (.map (some L.fl)):=aj.o.cell 11;obtain ⟨av,bu,cn,be,ca⟩:=lN.del aj.o.files S1.o.fresh E X;have db:=lH bu;have cz:Hid (aF av V):=be.fresh;have dp:=lH (cl.o.less E);have ds:=lH (aj.o.P9 (AU n) cl be ca);have dq:Hid (Step (λc=>dM K c\/c=K+6\/c=K+7) an.drew r av V):=(S1.o.mono (λ_ h=>Or.inl h)).trans (be.mono (λ_ h=>Or.inr (Or.inl h))) (λ_ e=>e);have dm:Hid (ab+1≠L.fl):=λe=>by
      have a:=S1.o.old _ bb.o;have b:=aj.o.files.1;rw [ck.o,e,b] at a;omega
     have dj:=lH (cn.aB bp dm);have cb:=lH (Ov V K n L _ av ds dp (df.o.less E) cz dd);unfold Aj at cb;clear cn be ca bu;have bu:=db.o;go_wp2_with fail;refine cq (iU _ _) ?_;go_wp2_with fail;refine cr cb.o ?_;rintro ei ⟨eh,bz,cw⟩;have dr:=lH (dq.o.trans (bz.mono (λ_ h=>Or.inr (Or.inr h))) (λ_ e=>e));have ci:=lH (bz.fr.aB dj (by
      intro e;have a:=S1.o.old _ bb.o;rw [ck.o,e] at a;omega))
     have aq:=lH (λe H B g=>ay.o D bk D e _ _ H _ B bj bb dr (by rw [az.o,AA G];exact cw) g);clear bz cw;go_wp2_with (refine wS 29 ci ?_);have bo:=aW (cs':= #[Z 0,E,Z 0,Z 0,Z 0,false,nS,nS]) ci.o;exact AZ (v:=lQ 0 E 0 0 0 false) (BH rfl _ _ (ab+1) 29 _ (0,0) _ rfl bo underlying29 rfl Tryz.size29) rfl
      (aq.o _ _ rfl fR)
