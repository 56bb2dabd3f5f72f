/- Part of a proof. -/
import Derived.Test.YtedcppikakinoaaGreatU12
import Derived.Test.YtedcppikakinoaaGreatU13
import Derived.Deep.RegionLaw
set_option linter.unusedSimpArgs false
set_option linter.unusedVariables false
set_option maxRecDepth 100000
set_option maxHeartbeats 3200000
namespace Go.Proofs.YtedcppikakinoaaGreat
open Go.Proofs.Tryz Go.RowKit
theorem gn1 (e b x rest) (r:x<256) (w) (o:Er w e b (bK 1 x++rest)):Calls prog 124 #[Y e,Z 1] w λy w'=>y=.returned (Z x)/\Er w' e b rest/\Fr (λk=>k=e) w w':=by
 have h:=Lm e b (bK 1 x) rest (by rw [fM];decide) (by rw [fM];decide) w o;rw [fM,Ib 1 x r] at h;exact h
theorem gn2 (e b x rest) (r:x<65536) (w) (o:Er w e b (bK 2 x++rest)):Calls prog 124 #[Y e,Z 2] w λy w'=>y=.returned (Z x)/\Er w' e b rest/\Fr (λk=>k=e) w w':=by
 have h:=Lm e b (bK 2 x) rest (by rw [fM];decide) (by rw [fM];decide) w o;rw [fM,Ib 2 x r] at h;exact h
theorem gn3 (e b x rest) (r:x<16777216) (w) (o:Er w e b (bK 3 x++rest)):Calls prog 124 #[Y e,Z 3] w λy w'=>y=.returned (Z x)/\Er w' e b rest/\Fr (λk=>k=e) w w':=by
 have h:=Lm e b (bK 3 x) rest (by rw [fM];decide) (by rw [fM];decide) w o;rw [fM,Ib 3 x r] at h;exact h
theorem Jf (e b rest w) (o:Er w e b rest):Calls prog 125 #[Y e] w λx w'=>x=.returned (.tuple #[])/\Fr No w w':=by
 obtain ⟨off,c,h,_⟩:=o;exact aDz e b off _ c w h
theorem aDY (e b n rest) (ab:n<=4000) (w) (E:Er w e b (bK 2 n++rest)):Calls prog 128 #[Y e] w λx w'=>x=.returned (Z n)/\Er w' e b rest/\Fr (λk=>k=e) w w':=by
 have u:=lH (gn2 e b n rest X w E);have ad:(n:Int)<=4000:=X
 clear E;go_enter func128,ntmps128;go_wp2_with fail;refine cr u.o ?_;rintro V ⟨A,B⟩;have r:=lH A;have J:=lH B;clear A B u;go_wp2_with fail;refine cr (Jf e b rest V r) λaa o=> ?_;have H:=lH (r.o.no o);have Q:=lH (J.o.trans o (λ_ _ e=>e.elim));clear o;go_wp2_with fail;refine cq (zU 3 aa) ?_;refine aC ?_;exact AZ (v:=Z n) (by simp [results,results128,go_sem]) rfl ⟨rfl,H,Q⟩
theorem Er.grown {w w' e b rest row} (h:Er w e b rest) (g:w.grownBy w' row) (r:row≠some e) (o:row≠some b):Er w' e b rest:=by
 refine h.fr (S:=λk=>row=some k) ⟨g.os,g.tape,g.output,g.size,λk u A=>g.block k u (λe'=>A e'.symm)⟩ r o
def eQ (x:dX):List Value:= [.string x.1,Z x.2.1,.bool x.2.2]
theorem Tryz.Tq:(prog.info? 86).map (λi=>(i.zero,i.size,i.bytes))=some (some (.agg #[.string ⟨#[]⟩,Z 0,false]),3,32):=by kernel_rfl
def Low (n:Nat) (v:Value):Prop:=∀a l c,v=.slice (some a) l c->n<=a.block
theorem Low.nil (n):Low n (nS):=λ_ _ _ e=>by cases e
theorem Low.le {m n v} (h:Low n v) (o:m<=n):Low m v:=λa l c e=>AV o (h a l c e)
theorem Low.row {w:World} {n t k m v u} (h:w.ownsRow n t k v m u):Low n v:=λa l c e=>by
 subst e;rcases h.2 with ⟨o,_⟩|⟨b,cap,A,o,r,_⟩
 ·cases o
 ·cases o;exact r
theorem Low.at {n b off l c v} (e:v=.slice (some (I b off)) l c) (h:n<=b):Low n v:=λa r o e'=>by
 rw [e] at e';cases e';exact h
theorem Ir {w:World} {base n v xs} (h:w.ownsRow base 86 3 v n xs):∀k,v.ownBlock=some k->base<=k:=by
 intro k o;rcases h.2 with ⟨rfl,_⟩|⟨g,u,A,rfl,r,B,_⟩;{simp [Value.ownBlock] at o};{simp [Value.ownBlock] at o;subst o;exact r}
theorem vV {S w w' base n v xs} (h:w.ownsRow base 86 3 v n xs) (f:Fr S w w') (A:∀k,S k->base<=k->False):w'.ownsRow base 86 3 v n xs:=by
 refine ⟨h.1,?_⟩;rcases h.2 with u|⟨g,cap,r,e,o,B,E⟩;{exact .inl u};{exact .inr ⟨g,cap,r,e,o,f.aB B (λe=>A g e o),E⟩}
structure Rg (wb w:World) (e b rb:Nat) (rest:List UInt8) (cs:Array Value):Prop where
 er:Er w e b rest
 rep:w.heap[rb]? =some (.cells cs 29 (0,0))
 re:rb≠e
 br:b≠rb
 fr:Fr (λk=>k=e\/k=rb) wb w
theorem Rg.no {r w w' e b o rest cs} (h:Rg r w e b o rest cs) (f:Fr No w w'):Rg r w' e b o rest cs:=
 ⟨h.er.no f,f.aB h.rep id,h.re,h.br,h.fr.trans f (λ_ _ e=>e.elim)⟩
theorem Rg.read {u w w' e b o rest r cs} (h:Rg u w e b o rest cs) (f:Fr (λk=>k=e) w w') (g:Er w' e b r):Rg u w' e b o r cs:=
 ⟨g,f.aB h.rep h.re,h.re,h.br,h.fr.trans f (λ_ _ e=> .inl e)⟩
theorem Rg.store {r w e b o rest cs} (h:Rg r w e b o rest cs) (j v):Rg r (w.setCell (I o j) v) e b o rest (cs.setIfInBounds j v):=by
 have f:Fr (λk=>k=o) w (w.setCell (I o j) v):=Fr.setCell (S:=λk=>k=o) (p:=(I o j)) (Fr.refl w) (.inl rfl) v;exact ⟨h.er.fr f (λe=>h.re e.symm) h.br,setCell_at h.rep j v,h.re,h.br,h.fr.trans f (λ_ _ e=> .inr e)⟩
theorem A7 (x):(eQ x).length=3:=rfl
theorem J3:∀(es:List dX) (j i:Nat) (x:dX) (o:Value),es[j]? =some x->(eQ x)[i]? =some o->(es.flatMap eQ)[j*3+i]? =some o
 | [],j,i,x,o,h,_=>by simp at h
 | y::r,0,i,x,o,h,hu=>by
  simp at h;subst h;have A:i<(eQ y).length:=(AY.1 hu).1;rw [DU,MQ,BP,GV A];exact hu
 | y::r,j+1,i,x,o,h,hu=>by
  have u:r[j]? =some x:=by simpa using h
  rw [DU,IC (by rw [A7];omega),A7,show (j+1)*3+i - 3=j*3+i by omega];exact J3 r j i x o u hu
theorem aFu {w base n v es} (h:w.ownsRow base 86 3 v n (es.flatMap eQ)) (A:es.length=n):iF w w v es:=by
 rcases h.2 with ⟨e,E⟩|⟨g,cap,u,e,ad,r,V,aa,ab,H⟩;{subst E;exact .inl ⟨e,CW A⟩};{refine .inr ⟨g,0,cap,by rw [e,A],by omega,lt_of_block r,lt_of_block r,⟨u,_,r⟩,λj x Q i B hu=> ?_⟩;have o:=J3 es j i x B Q hu;rw [<-H] at o;(have J:u.toList[j*3+i]? =some B:=by{rw [EL] at o;split at o;{exact o};{cases o}});rw [BP,aA r];simpa using J}
theorem Rg.grown {o w w' e b u rest cs row} (h:Rg o w e b u rest cs) (g:w.grownBy w' row) (r:∀k,row=some k->o.heap.size<=k) (E:e<o.heap.size) (B:b<o.heap.size) (H:u<o.heap.size):Rg o w' e b u rest cs:=
 ⟨h.er.grown g (λe'=>by have:=r _ e';omega) (λe'=>by have:=r _ e';omega),by rw [g.block u (lt_of_block h.rep) (λe'=>by have:=r _ e'.symm;omega)];exact h.rep,h.re,h.br,h.fr.grown g (λk A=> .inr (r k A))⟩
theorem aFV (e b o B H J hd sw dir es r) (gi:B<=18) (gj:H<65536) (gk:J<65536) (gl:hd<256) (gm:sw<16777216) (er:es.length<=4000) (db:∀x∈es,vU x) (dc:r.length<=65535) (w) (h:Rg w w e b o (bK 1 B++(bK 2 H++(bK 2 J++(bK 1 hd++(bK 3 sw++(wY dir::(bK 2 es.length++(es.flatMap lC++(bK 2 r.length++r))))))))) #[Z 0,Z 0,Z 0,Z 0,Z 0,.bool false,nS,nS]):
  Calls prog 123 #[Y e,Y o] w λx w'=>x=.returned (.tuple #[])/\∃bk bx bf,bf<=w'.heap.size/\iF w' bf bk es/\iL w' bf bx r/\Er w' e b []/\w'.heap[o]? =some (.cells #[Z B,Z H,Z J,Z hd,Z sw,.bool dir,bk,bx] 29 (0,0))/\Fr (λk=>k=e\/k=o) w w'/\Low w bk/\Low w bx:=by
 have ak:=lH h;have dy:=lH db;(have gr:(B:Int)<=18:=X);clear h db;generalize dg:(bK 2 r.length++r)=mt at*;have eb:=lH dg;clear dg;generalize dh:es.length=n at*;have aq:=lH dh;clear dh;generalize de:es.flatMap lC++mt=gh at*;have dz:=lH de;clear de;go_enter func123,ntmps123;go_wp2_with fail;refine cr (gn1 e b B _ X w ak.o.er) ?_;rintro fo ⟨g,cm⟩;have aw:=ak.o.read cm g;have fw:=aU aw.rep 0;have dr:fo.cell? (I o 0)=some (Z 0):=aA aw.rep _;have el:=lH aw;clear g cm aw;go_wp2_with fail;have S1:=el.o.store 0 (Z B);refine cr (Jf e b _ _ S1.er) λdx ct=> ?_;have ca:=S1.no ct;have cf:=lH ca;have ds:dx.cell? (I o 0)=some (Z B):=aA ca.rep _;clear fw dr ca S1 ct;go_wp2_with fail;refine cq (zU 4 dx) ?_;clear ds;go_wp2_with fail;refine cr (gn2 e b H _ X _ cf.o.er) ?_;rintro ft ⟨g,cu⟩;have az:=cf.o.read cu g;have fz:=aU az.rep 1;have fj:ft.cell? (I o 1)=some (Z 0):=aA az.rep _;have cg:=lH (az.store 1 (Z H));clear g cu az;go_wp2_with fail;refine cr (gn2 e b J _ X _ cg.o.er) ?_;rintro fu ⟨g,cv⟩;have bb:=cg.o.read cv g;have ga:=aU bb.rep 2;have fk:fu.cell? (I o 2)=some (Z 0):=aA bb.rep _;have ch:=lH (bb.store 2 (Z J));clear g cv bb;go_wp2_with fail;refine cr (gn1 e b hd _ X _ ch.o.er) ?_;rintro w8 ⟨g,cw⟩;have bc:=ch.o.read cw g;have gc:=aU bc.rep 3;have fl:w8.cell? (I o 3)=some (Z 0):=aA bc.rep _;have ci:=lH (bc.store 3 (Z hd));clear g cw bc;go_wp2_with fail;refine cr (gn3 e b sw _ X _ ci.o.er) ?_;rintro fq ⟨g,cn⟩;have ax:=ci.o.read cn g;have fx:=aU ax.rep 4;have fh:fq.cell? (I o 4)=some (Z 0):=aA ax.rep _;have cd:=lH (ax.store 4 (Z sw));clear g cn ax;go_wp2_with fail;refine cr (Pj e b dir _ _ cd.o.er) ?_;rintro fs ⟨g,co⟩;have ay:=cd.o.read co g;have fy:=aU ay.rep 5;have fi:fs.cell? (I o 5)=some (.bool false):=aA ay.rep _;have ce:=lH (ay.store 5 (.bool dir));clear g co ay;go_wp2_with fail;refine cr (aDY e b n _ er _ ce.o.er) ?_;rintro gs ⟨g,cp⟩;have em:=lH (ce.o.read cp g);clear g cp;go_wp2_with fail;have fc:o<w.heap.size:=lt_of_block ak.o.rep;have ev:e<w.heap.size:=ak.o.er.ey.1;(have eu:b<w.heap.size:=by obtain ⟨_,_,_,_,_,h,_⟩:=ak.o.er;exact h);obtain ⟨fe,df,dk,dl,dm⟩:=EM Tryz.Tq;have ea:=lH df;have ee:=lH dk;have ef:=lH dl;have eg:=lH dm;clear df dk dl dm fz fj ga fk gc fl fx fh fy fi;go_loopw [3,4,31] (λ_ _ i wr=>∃(j:Nat) (v:Value),i=Z j/\j<=n/\Hid (Rg w wr e b o ((es.drop j).flatMap lC++mt) #[Z B,Z H,Z J,Z hd,Z sw,dir,v,nS])/\Hid (wr.ownsRow w 86 3 v j ((es.take j).flatMap eQ))) (λ_ _ i _=>n - (intOf i).toNat);case atStart=>exact ⟨0,.slice none 0 0,rfl,BA _,lH (by have:=em.o;rw [<-dz.o] at this;exact this),lH ⟨rfl,.inl ⟨rfl,rfl⟩⟩⟩
 case round=>
  obtain ⟨j,v,rfl,br,bi,bh⟩:=hrel;(obtain ⟨a,A,rfl⟩:∃a A,v=.slice a j A:=by{rcases bh.o.2 with ⟨bj,fa⟩|⟨g,gf,gg,bj,_⟩;{exact ⟨none,0,by rw [fa,bj]⟩};{exact ⟨_,_,bj⟩}});by_cases ex:j<n
  ·(have bt:j<es.length:=by have:=aq.o;omega);have bo:es.drop j=es[j]::es.drop (j+1):=DN bt;have bv:es.take (j+1)=es.take j++ [es[j]]:=GH bt;have di:=dy.o _ (BF bt);generalize es[j]=x at bo bv di;obtain ⟨Q,dn,ag⟩:=x;obtain ⟨dp,ff,fg⟩:=di;dsimp only at dp ff fg;obtain ⟨m,rfl⟩:∃m:Nat,dn=m:=⟨dn.toNat,by omega⟩;(have dd:(es.drop j).flatMap lC++mt=bK 2 Q.data.toList.length++(Q.data.toList++(bK 2 m++(wY ag::((es.drop (j+1)).flatMap lC++mt)))):=by{rw [bo];simp [lC]});have V:=bi.o;rw [dd] at V;have al:=lH V;have ed:=lH bv;have dr:(0:Int)<=(j:Int):=X;have ds:(j:Int)<(n:Int):=X;clear V dd bo bv bi;go_wp2_with fail;refine cr (aE7 e b 65535 _ _ X dp wr al.o.er) ?_;rintro ad ⟨an,fA⟩;have ar:=lH (al.o.read fA an);have bg:=lH (vV bh fA (λk ab E=>by omega));rw [show (⟨Q.data.toList.toArray⟩:ByteArray)=Q by simp];clear an fA;go_wp2_with fail;refine cr (gn2 e b m _ X ad ar.o.er) ?_;rintro aa ⟨cz,bl⟩;have be:=ar.o.read bl cz;have am:=lH be;have cc:=lH (vV bg bl (λk ab E=>by omega));have ck:aa.cell? (I o 6)=some (.slice a j A):=aA be.rep _;have bu:=Ir cc.o;(have fb:(Value.slice a j A).ownBlock≠some o:=λe=>by have:=bu _ e;omega);have ec:=lH bu;have fd:w.heap.size<=aa.heap.size:=be.fr.size;clear cz bl be bu;go_wp2_with fail
   go_region_law
    (first
      | (rw [AL (show Region.wanted _ _=true from rfl)];go_simp;refine (Pj e b ag _ _ (am.o.er.no (Fr.refl aa).drew)).mono ?_;rintro y u ⟨rfl,gC,ah⟩;have ei:=vV cc ((Fr.refl (S:=λk=>k=e) aa).drew.trans ah zq) (λk ab E=>by omega);have gp:w.heap.size<=u.heap.size:=AV fd ah.size;have cl:u.cell? (I o 6)=some (.slice a j A):=ah.cell_of ((Fr.refl (S:=No) aa).drew.cell_of ck id) am.o.re;have ep:(u.alloc (.cells #[Q,Z m,ag] 86)).cell? (I o 6)=some (.slice a j A):=((Fr.refl (S:=No) u).alloc _).cell_of cl id)
      | (refine step_append_lies _ R _ _ _ R w 86 fe _ 3 32 underlying26 ea ee ef eg rfl X (.slice a j A) j ((es.take j).flatMap eQ) R (ei.alloc _)
          (I u 0) 1 1 [Q,Z m,ag] R R (World.news_of_block (cs:= #[Q,Z m,ag]) (t:=86) (fr:=(0,0)) (AQ u _)) (by simp [Value.oneCell'])
          X (by unfold maxLen;omega) X (by rw [fF];omega) (u.heap.size+1) D ?_;intro ao cap aj dj bq et ew;have bw:aj.heap[o]? =some (.cells #[Z B,Z H,Z J,Z hd,Z sw,dir,.slice a j A,nS] 29 (0,0)):=(by rw [bq.block o (by rw [fF];omega) (EP fb)];exact ((Fr.refl (S:=No) u).alloc _).aB (ah.aB ((Fr.refl (S:=No) aa).drew.aB am.o.rep id) am.o.re) id);have gd:=aU bw 6;have eq:aj.cell? (I o 6)=some (.slice a j A):=aA bw _))
   (all_goals have cy:Fr (λk=>k=e) aa u:=(Fr.refl (S:=λk=>k=e) aa).drew.trans ah zq;have dt:=am.o.read cy gC;have cx:Fr No u (u.alloc (.cells #[Q,Z m,ag] 86)):=(Fr.refl u).alloc _;have dv:=dt.no cx;have du:Rg w aj e b o ((es.drop (j+1)).flatMap lC++mt) #[Z B,Z H,Z J,Z hd,Z sw,dir,.slice a j A,nS]:=dv.grown bq ec ev eu fc;have ai:=du.store 6 (O ao (j+1) cap);(have da:∀k,k=o->w.heap.size<=k->False:=λk ab E=>by omega);have ap:=vV dj (Fr.setCell (S:=λk=>k=o) (p:=(I o 6)) (Fr.refl aj) (.inl rfl) (O ao (j+1) cap)) da;have cj:Hid (Rg w (aj.setCell (I o 6) (O ao (j+1) cap)) e b o ((es.drop (j+1)).flatMap lC++mt) #[Z B,Z H,Z J,Z hd,Z sw,dir,O ao (j+1) cap,nS]):=ai;have ej:=lH ap;clear ai ap du dv cx dt cy gC ah dj bq et ew bw gd ck cl ep eq da;generalize aj.setCell (I o 6) (O ao (j+1) cap)=wS at*;go_wp2_with fail;refine cr (Jf e b _ wS cj.o.er) λgt bn=> ?_;have en:=lH (cj.o.no bn);have ek:=lH (vV ej bn (λk ab E=>ab));clear bn;go_wp2_with fail;go_roundw;{refine ⟨j+1,_,by go_num,by omega,en,lH ?_⟩;rw [ed.o,EX];exact ek.o};simp [intOf];omega)
  {(obtain rfl:j=n:=by omega);have V:=bi.o;rw [List.drop_of_length_le (by have:=aq.o;omega)] at V;have bz:=bh.o;rw [FI (by have:=aq.o;omega)] at bz;have au:=V;rw [GU,DC,<-eb.o] at au;have al:=lH au;have eh:=lH bz;have gb:=aU V.rep 7;have bp:=au.er;rw [show bK 2 r.length++r=bK 2 r.length++(r++ []) by simp] at bp;have E:=Zb e b 65535 r [] X dc wr bp;generalize ez:r.length=av at E;have cb:=lH E;clear V au bz bp E ez dc ex br;go_wp2_with fail;refine cb.o.mono ?_;rintro y ad ⟨ae,af,rfl,sl,gn,an,fA⟩;have bd:=al.o.read fA an;have dq:=vV eh fA (λk ab E=>by omega);have ar:=lH bd;have bg:=lH dq;have eo:=lH sl;have gb:=aU bd.rep 7;have ge:ad.cell? (I o 7)=some (nS):=aA bd.rep _;have gq:w.heap.size<=wr.heap.size:=al.o.fr.size;clear sl an fA bd dq cb;go_wp2_with fail;have bm:Fr (λk=>k=o) ad (ad.setCell (I o 7) (O ae av af)):=Fr.setCell (S:=λk=>k=o) (p:=(I o 7)) (Fr.refl ad) (.inl rfl) _;have ai:=ar.o.store 7 (O ae av af);have ap:=vV bg bm (λk ab E=>by omega);(have dw:fH (ad.setCell (I o 7) (O ae av af)) (O ae av af) r ae 0 af:=by{have s:=eo.o;exact ⟨s.1,s.2.1,AP s.2.2.1 bm.size,λj y br=>bm.cell_of (s.2.2.2 j y br) (by dsimp only;omega)⟩});exact IE (v:=.tuple #[]) (by simp [results,results123,go_sem]) rfl ⟨rfl,.slice a j A,_,_,AU _,aFu ap aq,.inr ⟨ae,0,af,dw,dw.2.2.1⟩,ai.er,ai.rep,ai.fr,Low.row ap,Low.at rfl X⟩}
theorem Eh:∀a b:List UInt8,Lib.compareBytes b a= - Lib.compareBytes a b
 | [], []=>rfl
 | [],_::_=>rfl
 | _::_, []=>rfl
 | a::xs,b::ys=>by
  simp only [Lib.compareBytes];have u:=Eh xs ys;by_cases r:a<b
  ·have o:¬b<a:=by rw [IL] at*;omega
   simp [r,o]
  ·by_cases o:b<a
   ·simp [r,o]
   ·simp [r,o,u]
theorem Nk:∀a b:List UInt8,Lib.compareBytes a b=0->a=b
 | [], [],_=>rfl
 | [],_::_,h=>by simp [Lib.compareBytes] at h
 | _::_, [],h=>by simp [Lib.compareBytes] at h
 | a::xs,b::ys,h=>by
  simp only [Lib.compareBytes] at h;by_cases o:a<b
  ·simp [o] at h
  ·by_cases r:b<a
   ·simp [o,r] at h
   ·simp only [o,r,GG] at h;have e:a=b:=by
     apply UInt8.toNat_inj.1;rw [IL] at o r;omega
    rw [e,Nk xs ys h]
theorem Ll:∀a b c:List UInt8,Lib.compareBytes a b<0->Lib.compareBytes b c<0->Lib.compareBytes a c<0
 | [],b, [],h1,h2=>by
  cases b with
  | nil=>exact h1
  | cons x b=>simp [Lib.compareBytes] at h2
 | [],_,_::_,_,_=>by simp [Lib.compareBytes]
 | _::_, [],_,h1,_=>by simp [Lib.compareBytes] at h1
 | _::_,_::_, [],_,h2=>by simp [Lib.compareBytes] at h2
 | a::xs,b::ys,c::zs,h1,h2=>by
  simp only [Lib.compareBytes] at*;by_cases u:a<b
  ·by_cases o:b<c
   ·have:a<c:=by rw [IL] at*;omega
    simp [this]
   ·by_cases r:c<b
    ·simp [o,r] at h2
    ·have:a<c:=by rw [IL] at*;omega
     simp [this]
  ·by_cases y1:b<a
   ·simp [u,y1] at h1
   ·by_cases o:b<c
    ·have:a<c:=by rw [IL] at*;omega
     simp [this]
    ·by_cases r:c<b
     ·simp [o,r] at h2
     ·have A:¬a<c:=by rw [IL] at*;omega
      have B:¬c<a:=(by rw [IL] at*;omega)
      simp only [A,B,u,y1,o,r,GG] at*;exact Ll xs ys zs h1 h2
def pX (x y:ByteArray):Int:=Lib.compareBytes x.data.toList y.data.toList
theorem Hm (x y):ltOf pX x y=decide (pX x y<0):=rfl
theorem Ee:Go.Sort.SWO (ltOf pX) where
 irrefl x:=by
  have:=Eh x.data.toList x.data.toList;rw [Hm,EI];unfold pX;omega
 trans x y z h1 h2:=by
  rw [Hm,BV] at*;exact Ll _ _ _ h1 h2
 ntrans x y z h1 h2:=by
  rw [Hm,EI] at*;intro o;unfold pX at*;have r:=Eh x.data.toList y.data.toList;rcases Int.lt_or_gt_of_ne (a:=Lib.compareBytes x.data.toList y.data.toList) (b:=0) (λe=>by
   rw [Nk _ _ e] at o;exact h2 o) with h|h
  ·exact h1 h
  ·exact h2 (Ll _ _ _ X o)
theorem Si (x y) (o:ltOf pX x y=false) (r:ltOf pX y x=false):x=y:=by
 rw [Hm,EI] at*;unfold pX at*;have u:=Eh x.data.toList y.data.toList;have:=Nk x.data.toList y.data.toList X;rw [<-tZ x,<-tZ y,this]
def tH (T:Tree) (d:Nat):List ByteArray:=(List.range 129).filterMap λk=>match T k with|some x=>if x.up=d then some (ba x.name) else none|none=>none
def mG (x y:ByteArray):Bool:= !(ltOf pX y x)
def kK (T:Tree) (d:Nat) (s:ByteArray):dX:=(s,(((kid T d s.data.toList).getD 0:Nat):Int),isDir T ((kid T d s.data.toList).getD 0))
def wW (T:Tree) (d:Nat):List dX:=((tH T d).mergeSort mG).map (kK T d)
theorem E5 {T} (A:dK T) (d s):s∈tH T d↔(bQ T d s).isSome=true:=by
 unfold tH bQ;rw [MH];constructor;{rintro ⟨k,_,o⟩;(cases r:T k with|none=>rw [r] at o;cases o|some x=>rw [r] at o;dsimp only at o;split at o;{rename_i hu;cases o;rw [mM,zQ A r hu rfl];rfl};{cases o})};{intro h;(cases u:kid T d s.data.toList with|none=>rw [u] at h;cases h|some k=>obtain ⟨x,r,hu,B⟩:=rJ u;refine ⟨k,CJ.2 (by have:=A.lt r;omega),?_⟩;rw [r];dsimp only;rw [AL hu,B,tZ])}
theorem aAS {α J:Type} (f:α->Option J) (l:List α) (h:l.Nodup) (A:∀a∈l,∀b∈l,∀y,f a=some y->f b=some y->a=b):(l.filterMap f).Nodup:=by
 (induction l with|nil=>simp|cons a l ih=>have u:=ih (JV.1 h).2 (λa B b o=>A a (BJ _ B) b (BJ _ o));(cases r:f a with|none=>rw [NL r];exact u|some y=>rw [List.filterMap_cons_some r,JV];refine ⟨λH=> ?_,u⟩;obtain ⟨b,o,E⟩:=MH.1 H;have:=A a (BL ..) b (BJ _ o) y r E;subst this;exact (JV.1 h).1 o))
theorem aEV {T} (H:dK T) (d):(tH T d).Nodup:=by
 refine aAS _ _ List.nodup_range (λj _ k _ y o r=> ?_);(cases u:T j with|none=>rw [u] at o;cases o|some x=>(cases A:T k with|none=>rw [A] at r;cases r|some z=>rw [u] at o;rw [A] at r;dsimp only at o r;split at o;{split at r;{(cases o);rename_i B E;have e:=aBn (FZ r);exact H.one j k x z u A (by rw [B,E]) e.symm};{cases r}};{cases o}))
theorem aFO (T d):(tH T d).length=bI T d:=by
 unfold tH bI;(induction List.range 129 with|nil=>rfl|cons k l ih=>(cases o:T k with|none=>rw [NL (by rw [o]),NM (by simp [o]),ih]|some x=>by_cases hu:x.up=d;{rw [List.filterMap_cons_some (b:=ba x.name) (by rw [o];simp [hu]),List.countP_cons_of_pos (by simp [o,hu]),BX,ih]};{rw [NL (by rw [o];simp [hu]),NM (by simp [o,hu]),ih]}))
theorem aEH {T} (u:dK T) (d) (ss:List ByteArray) (H:ss.Nodup) (E:∀s,s∈ss↔(bQ T d s).isSome=true):ss.mergeSort mG=(tH T d).mergeSort mG:=by
 have J:=(List.perm_ext_iff_of_nodup H (aEV u d)).2 (λs=>by rw [E,E5 u]);have B:∀a b c,mG a b=true->mG b c=true->mG a c=true:=λa b c o r=>by
  unfold mG at*;simp only [ML] at*;exact Ee.ntrans _ _ _ r o
 have A:∀a b,(mG a b||mG b a)=true:=λa b=>by
  unfold mG;(cases o:ltOf pX b a with|false=>simp|true=>(cases r:ltOf pX a b with|false=>simp|true=>have:=Ee.trans _ _ _ o r;rw [Ee.irrefl] at this;cases this))
 refine List.Perm.eq_of_pairwise (le:=λx y=>mG x y=true) (λa b _ _ o r=> ?_) (NP B A _) (NP B A _) (((NF _ _).trans J).trans (NF _ _).symm);unfold mG at o r;simp only [ML] at o r;exact Si _ _ r o
theorem aGA (x y:dX) (W):Calls prog 87 #[.agg #[.string x.1,Z x.2.1,.bool x.2.2],.agg #[.string y.1,Z y.2.1,.bool y.2.2]] W λe w'=>e=.returned (Z (pX x.1 y.1))/\∃q u,w'=Go.Sort.grow (W.drewN q) u:=by
 have o:=λr=>Tryz.strings_Compare x.1 y.1 r;change ∀r,Calls prog 88 _ _ _ at o;unfold pX;generalize Lib.compareBytes x.1.data.toList y.1.data.toList=A at o ⊢;go_enter func87,ntmps87;go_wp2_with (go_at_call 88;refine (o _).mono ?_;rintro e w' ⟨rfl,rfl⟩);go_ret;exact ⟨rfl,0,_,by rw [Go.Sort.alloc_eq_grow,Go.Sort.alloc_eq_grow,Go.Sort.grow_grow];rfl⟩
structure St where
 boots:Int
 swaps:Int
 clock:Int
 next:Nat->Int
 W:Nat->Option wH
 T:Tree
 K:List Tok
 F:Nat->Option cZ
 U:Stp->Option Us
structure kC where
 s:Nat
 win:Nat
 tr:Nat
 tk:Nat
 fl:Nat
 us:Nat
def mQ (L:kC) (S:St):Array Value:= #[S.boots,S.swaps,S.clock,Z (S.next 0),Z (S.next 1),Z (S.next 2),Z (S.next 3),Z (S.next 4),
 Y L.win,Y L.tr,Y L.tk,.map (some L.fl),.map (some L.us)]
def kV (F:Nat->Option cZ) (fp:Nat->Nat):Int->Option Nat:=λi=>if 0<=i then (F i.toNat).map (λ_=>fp i.toNat) else none
def iM (U:Stp->Option Us):Stp->Option (Stp×Us):=λx=>(U x).map (λy=>(x,y))
def lN (w:World) (o:Nat->Nat) (K fl n:Nat) (F:Nat->Option cZ):Prop:=
 o fl=K+6/\∃fp c,c<=n/\MapAt encI w fl c (kV F fp)/\∀i m,F i=some m->jT w o K i (fp i) m
def wZ (w:World) (o:Nat->Nat) (K us n:Nat) (U:Stp->Option Us):Prop:=
 o us=K+7/\∃c,c<=n/\MapAt x8 w us c (iM U)
structure aV (w:World) (o:Nat->Nat) (K:Nat) (L:kC) (S:St) (n:Nat):Prop where
 own:o L.s=K+8
 cs:w.heap[L.s]? =some (.cells (mQ L S) 131 (0,0))
 win:lU w o (K+1) L.win S.W
 tree:eG w o K L.tr S.T
 tok:kQ w o K L.tk S.K
 files:lN w o K L.fl n S.F
 uses:wZ w o K L.us n S.U
structure aH (S:St):Prop where
 tree:dK S.T
 file:∀i m,S.F i=some m->1<=i/\i<=128/\eX m
def bD (K c:Nat):Prop:=K<c/\c<K+5000
theorem lN.step {C w w' E H K r n F} (h:lN w E K r n F) (B:∀i m,F i=some m->1<=i/\i<=128/\eX m) (s:Step C w E w' H) (ad:¬C (K+6)) (A:∀i,i<=128->∀c,fO K i c->¬C c):lN w' H K r n F:=by
 obtain ⟨u,fp,c,V,aa,ab⟩:=h;obtain ⟨J,Q⟩:=aa.step s (by rw [u];exact ad);exact ⟨Q.trans u,fp,c,V,J,λi m o=>(ab i m o).step s (A i (B i m o).2.1 _ (.inl rfl)) (A i (B i m o).2.1 _ (.inr rfl))⟩
theorem wZ.step {C w w' r u K A n U} (h:wZ w r K A n U) (s:Step C w r w' u) (Q:¬C (K+7)):wZ w' u K A n U:=by
 obtain ⟨o,c,H,J⟩:=h;obtain ⟨B,E⟩:=J.step s (by rw [o];exact Q);exact ⟨E.trans o,c,H,B⟩
theorem aV.step {C:Nat->Prop} {w w':World} {r u:Nat->Nat} {K n:Nat} {L:kC} {S:St} (h:aV w r K L S n) (ok:aH S) (s:Step C w r w' u) (o:∀c,bD K c->¬C c):aV w' u K L S n where
 own:=(s.own h.cs).trans h.own
 cs:=s.block h.cs (by rw [h.own];exact o _ (by unfold bD;omega))
 win:=h.win.step s (o _ (by unfold bD;omega)) (o _ (by unfold bD;omega))
 tree:=h.tree.step ok.tree s (λc e=>o c (by unfold bD;unfold dM at e;omega))
 tok:=h.tok.step s (o _ (by unfold bD;omega)) (o _ (by unfold bD;omega))
 files:=h.files.step ok.file s (o _ (by unfold bD;omega)) (λi A c e=>o c (by unfold bD;unfold fO at e;omega))
 uses:=h.uses.step s (o _ (by unfold bD;omega))
theorem aV.no {w w' o K n L S} (h:aV w o K L S n) (ok:aH S) (r:aF w o) (f:Fr No w w'):aV w' o K L S n:=
 h.step ok (Step.no (C:=λ_=>False) r f) zq
theorem aV.more {w u K n r L S} (h:aV w u K L S n) (o:n<=r):aV w u K L S r:=by
 obtain ⟨H,J,Q,V,aa,⟨A,fp,c,B,E⟩,⟨ab,d,ad,ae⟩⟩:=h;exact ⟨H,J,Q,V,aa,⟨A,fp,c,AV B o,E⟩,⟨ab,d,AV ad o,ae⟩⟩
theorem aV.nI {w w':World} {u o:Nat->Nat} {K n:Nat} {L:kC} {S:St} {r:Tree} (h:aV w u K L S n) (ok:aH S) (s:Step (dM K) w u w' o) (t:eG w' o K L.tr r):aV w' o K L {S with T:=r} n where
 own:=(s.own h.cs).trans h.own
 cs:=s.block h.cs (by rw [h.own];unfold dM;omega)
 win:=h.win.step s (by unfold dM;omega) (by unfold dM;omega)
 tree:=t
 tok:=h.tok.step s (by unfold dM;omega) (by unfold dM;omega)
 files:=h.files.step ok.file s (by unfold dM;omega) (λi A c e=>by unfold fO at e;unfold dM;omega)
 uses:=h.uses.step s (by unfold dM;omega)
theorem aV.Bq {w w':World} {u o:Nat->Nat} {K n:Nat} {L:kC} {S:St} {r:List Tok} (h:aV w u K L S n) (ok:aH S) (s:Step (iE K) w u w' o) (t:kQ w' o K L.tk r):aV w' o K L {S with K:=r} n where
 own:=(s.own h.cs).trans h.own
 cs:=s.block h.cs (by rw [h.own];unfold iE;omega)
 win:=h.win.step s (by unfold iE;omega) (by unfold iE;omega)
 tree:=h.tree.step ok.tree s (λc e=>by unfold dM at e;unfold iE;omega)
 tok:=t
 files:=h.files.step ok.file s (by unfold iE;omega) (λi A c e=>by unfold fO at e;unfold iE;omega)
 uses:=h.uses.step s (by unfold iE;omega)
theorem aV.cell {w o K n L S} (h:aV w o K L S n) (j):w.cell? ⟨L.s,j,none⟩=(mQ L S)[j]? :=by rw [aA h.cs]
structure aG where
 c:Int
 l:Int
 q:Int
 kind:Int
 path:List UInt8
 tq:List UInt8
 dir:Bool
 wr:Bool
 cl:Bool
 h:Int
 nx:Int
 sw:Int
def aG.cells (r:aG) (rv dv:Value):Array Value:= #[.int .i64 r.c,.int .i64 r.l,.int .i64 r.q,.int .i64 r.kind,.string (ba r.path),.string (ba r.tq),.bool r.dir,.bool r.wr,.bool r.cl,.int .i64 r.h,.int .i64 r.nx,.int .i64 r.sw,rv,dv]
inductive QcR|m (x:aG) (a b:Value)
abbrev cR:=QcR.m
instance (x:aG) (a b:Value):CoeDep QcR (.m x a b) (Array Value):=⟨#[x.c,x.l,x.q,x.kind,ba x.path,ba x.tq,x.dir,x.wr,x.cl,x.h,x.nx,x.sw,a,b]⟩
instance (x:aG) (a b:Value):CoeDep QcR (.m x a b) (List Value):=⟨[x.c,x.l,x.q,x.kind,ba x.path,ba x.tq,x.dir,x.wr,x.cl,x.h,x.nx,x.sw,a,b]⟩
def bU:aX:=⟨0,0,0,0,0,false, [], []⟩
def mY (n:Nat) (w:World) (v:Value) (r:aX):Prop:=∃ev mv,v=.agg (r.cells ev mv)/\iF w w.heap.size ev r.es/\iL w w.heap.size mv r.map/\Low n ev/\Low n mv
def bH (w:World) (o:Nat->Nat) (K:Nat) (L:kC) (n:Nat) (x:Int×aX×St) (e:Ending) (w':World):Prop:=
 (∃o',Step (bD K) w o w' o'/\aV w' o' K L x.2.2 n)/\if x.1=0 then ∃v,e=.returned v/\mY w.heap.size w' v x.2.1 else e=.panicked (kF x.1)
theorem yI (o K n L S w) (h:aV w o K L S n):Calls prog 60 #[Y L.s] w λe w'=>e=.returned (.bool true)/\w'=w:=by
 have r:w.cell? (I L.s 9)=some (Y L.tr):=h.cell 9;clear h;go_enter func60,ntmps60;go_wp2;go_ret;exact ⟨rfl,rfl⟩
theorem wZ.look {w E K B n U} (h:wZ w E K B n U) (x) (A:iZ x):
  ∃v,∀w',Fr No w w'->(Instr.lookup 129 (.map (some B)) (kX x) true).run prog w'=.ok (.tuple #[.agg v,.bool (U x).isSome]) w'/\v.size=6/\v.all (·.oneCell')=true:=by
 obtain ⟨H,c,J,o⟩:=h;(cases r:U x with|none=>refine ⟨#[Z 0,Z 0,Z 0,Z 0,Z 0,Z 0],λw' f=>⟨?_,rfl,by simp [Value.oneCell']⟩⟩;have:=(o.fr f id).look x A (t:=129) (e:=80) underlying129 (z:=.agg #[Z 0,Z 0,Z 0,Z 0,Z 0,Z 0]) N true;rw [show iM U x=none by unfold iM;rw [r];rfl] at this;exact this|some u=>refine ⟨#[x.1,x.2.1,x.2.2,u.1,u.2.1,u.2.2],λw' f=>⟨?_,rfl,by simp [Value.oneCell']⟩⟩;have:=(o.fr f id).look x A (t:=129) (e:=80) underlying129 (z:=.agg #[Z 0,Z 0,Z 0,Z 0,Z 0,Z 0]) N true;rw [show iM U x=some (x,u) by unfold iM;rw [r];rfl] at this;exact this)
theorem Tryz.rO:(prog.info? 46).map (·.size)=some 3:=by kernel_rfl
theorem Tryz.F9:(prog.info? 80).map (·.size)=some 6:=by kernel_rfl
theorem lV {u} {a:Act} {w} (o x) (E:u.op=.load o x) (b r) (H:a.eval x=.pointer (some (I b r))) (cs d) (A:w.rangeAt b r cs) (hu:prog.underlying o=some d) (hd:d.isRow=true) (B:(prog.info? o).map (·.size)=some cs.length):(execOp a.eval u).run prog w=.ok (.value (.agg cs.toArray)) w:=by
 unfold execOp;simp only [E,H,Instr.loadAt,Instr.sureAddr,Sem.run_bind,Sem.run_pure,Result.andThen_ok,run_loadVar_mid w b r o cs d A hu hd B]
theorem Ug (H K n L S x w) (h:aV w H K L S n) (ok:aH S) (aa:aF w H) (ad:iZ x):
  Calls prog 24 #[Y L.s,kX x] w λe w'=>e=.returned (.bool (S.U x).isSome)/\Fr No w w':=by
 have ao:prog.follows .mixedOrders=true:=N
 have o:Fr No w (w.alloc (.cells (cS x) 46)):=(Fr.refl w).alloc _;have ae:=aT w (.cells (cS x) 46);have af:=lH o;have A:=lH (h.no ok aa o);have ai:=lH (yI H K n L S _ A);obtain ⟨v,r⟩:=wZ.look A.o.uses x ad;have al:=lH r;have an:=(r _ (Fr.refl _)).2.1;have B:=lH (r _ (Fr.refl _)).2;have am:(w.alloc (.cells (cS x) 46)).cell? (I L.s 12)=some (.map (some L.us)):=A.o.cell 12;clear h ok aa ad r o an;unfold kX at*;generalize (S.U x).isSome=au at*;go_enter func24,ntmps24;go_wp2_with fail;refine ai.o.mono ?_;rintro e u ⟨rfl,rfl⟩;go_wp2_with fail;generalize w.alloc (.cells (cS x) 46)=u at*;generalize w.heap.size=J at*;have ak:Hid (∀W,Fr No u W->W.rangeAt J 0 (cS x)):=λW f=>DV (f.aB ae id) 0 3;clear ae;refine Ue ao (nC 5 undef (qV #[Z 0,Z 0,Z 0,Z 0,Z 0,Z 0] 80 u) u) 9 [10,11] N N N N (λ_ _ d _ _ h=>by cases d<;>exact h) ⟨(Fr.refl _).drew,.inl R⟩ ?_;repeat (first
  | refine Oj R ?_
  | (refine Le (v:= ?_) R (λa v w=>wF _ _ _ _ _ G a v w) R ?_ ?_
     rotate_left 1;(intro W;go_simp;(try with_reducible rfl))
     simp only [pT,aJ,lsS])
  | (refine Ej (v:=.agg (cS x)) R (λa v w=>wF _ _ _ _ _ G a v w) N R (λW E=>lV 46 (.tmp 3) R J 0 R (cS x) _ (ak.o W E.choose_spec.1) underlying46 rfl Tryz.rO) ?_
     simp only [pT,aJ,lsS])
  | (refine Ej (v:= ?_) R (λa v w=>wF _ _ _ _ _ G a v w) N R ?_ ?_
     rotate_left 1;(intro W E;obtain ⟨_,V,_⟩:=E;have aq:=V.cell_of am id;have ar:=(al.o W V).1;go_simp;(try with_reducible rfl))
     simp only [pT,aJ,lsS]))
 refine xE ?_;intro W ap o Q ab;have aj:=lH ab;have ag:=lH Q;have ah:=lH o.size;clear ab Q;simp only [EE,FW,GK,EH,ES,pT,aJ,lsS];refine BR rfl 80 (.tmp 5) (.tmp 17) rfl W v rfl rfl 80 _ aj (by rw [B.o.1];exact Tryz.F9) B.o.1.symm B.o.2 ?_;go_wp2_with fail;go_ret;exact ⟨rfl,af.o.trans (Fr.setRow ag (.inr ah) _) zq⟩
def tV (F:Nat->Option cZ) (i:Nat):Int:=match F i with
 | some m=>m.size
 | none=>0
def xW (F:Nat->Option cZ) (fp:Nat->Nat) (i:Nat):Value:=match F i with
 | some _=> .pointer (some (I (fp i) 0))
 | none=> .pointer none
theorem lN.look {w u K o n F} (h:lN w u K o n F) (i:Nat) (J:i<=1000000):
  ∃fp,(∀w',Fr No w w'->(Instr.lookup 128 (.map (some o)) (Z i) false).run prog w'=.ok (xW F fp i) w')/\∀m,F i=some m->jT w u K i (fp i) m:=by
 obtain ⟨E,fp,c,H,A,B⟩:=h;refine ⟨fp,λw' f=> ?_,λm=>B i m⟩;have:=(A.fr f id).look (i:Int) (show I64 _ by unfold I64;omega) (t:=128) (e:=63) underlying128 (z:=.pointer none) N false;(have e:kV F fp (i:Int)=(F i).map (λ_=>fp i):=by unfold kV;rw [AL X];rfl);rw [e] at this;unfold xW;(cases r:F i with|none=>rw [r] at this;exact this|some m=>rw [r] at this;exact this)
theorem aB5 {w i F fp} (h:∀m,F i=some m->pG w (fp i) m):
  Calls prog 37 #[xW F fp i] w λe w'=>e=.returned (Z (tV F i))/\w'=w:=by
 unfold xW tV;(cases o:F i with|none=>exact aFq w|some m=>exact Hg (fp i) m w (h m o))
theorem Lp {T} (o:dK T) {l} (h:(lookOf T l).1=0):(lookOf T l).2.1<=128:=by
 obtain ⟨x,r,_⟩:=look_ok o h;exact (o.lt r).2
def rG (S:St) (r:aG):Int×aX×St:=
 if (lookOf S.T r.path).1=0 then (0,⟨0,(lookOf S.T r.path).2.1,tV S.F (lookOf S.T r.path).2.1,0,0,(lookOf S.T r.path).2.2, [], []⟩,S) else ((lookOf S.T r.path).1,bU,S)
theorem aDg (r K n L S o E A w) (h:aV w r K L S n) (ok:aH S) (B:aF w r) (ar:o.path.length<=1000000):
  Calls prog 105 #[Y L.s,.agg (o.cells E A)] w (bH w r K L n (rG S o)):=by
 have Q:Fr No w ((w.alloc (.cells (o.cells E A) 36)).alloc (.cells (bU.cells (nS) (nS)) 29)):=((Fr.refl w).alloc _).alloc _;have av:((w.alloc (.cells (o.cells E A) 36)).alloc (.cells (bU.cells (nS) (nS)) 29)).heap[w.heap.size]? =some (.cells (o.cells E A) 36 (0,0)):=((Fr.refl (S:=No) _).alloc _).aB (aT w _) id;have aw:((w.alloc (.cells (o.cells E A) 36)).alloc (.cells (bU.cells (nS) (nS)) 29)).heap[w.heap.size+1]? =some (.cells (bU.cells (nS) (nS)) 29 (0,0)):=by{have:=aT (w.alloc (.cells (o.cells E A) 36)) (.cells (bU.cells (nS) (nS)) 29);simpa using this}
 have ak:=lH Q;have ab:=h.no ok B Q;have J:aF _ r:=(noS B Q).fresh;have am:Hid (∀w',Fr No ((w.alloc (.cells (o.cells E A) 36)).alloc (.cells (bU.cells (nS) (nS)) 29)) w'->Calls prog 85 #[Y L.tr,(ba o.path)] w' λe bi=>e=.returned (.tuple #[.int .i64 (lookOf S.T o.path).2.1,.bool (lookOf S.T o.path).2.2,.int .i64 (lookOf S.T o.path).1])/\Fr No w' bi):=
  lH (λw' f=>xG r K L.tr S.T o.path w' ar ((ab.no ok J f).tree) ok.tree (noS J f).fresh)
 have ap:Hid ((lookOf S.T o.path).1≠0->∀e w',e=.panicked (kF (lookOf S.T o.path).1)->Fr No w w'->bH w r K L n (rG S o) e w'):=λV e w' ai f=>by
  unfold rG;rw [AA V];exact ⟨⟨r,(noS B f).mono (λ_ e=>e.elim),h.no ok B f⟩,by rw [AA V];exact ai⟩
 have ao:Hid ((lookOf S.T o.path).1=0->∀e w',e=.returned (.agg #[Z 0,.int .i64 (lookOf S.T o.path).2.1,Z (tV S.F (lookOf S.T o.path).2.1),Z 0,Z 0,.bool (lookOf S.T o.path).2.2,nS,nS])->Fr No w w'->bH w r K L n (rG S o) e w'):=λag e w' ai f=>by
  unfold rG;rw [AL ag];exact ⟨⟨r,(noS B f).mono (λ_ e=>e.elim),h.no ok B f⟩,by rw [AL rfl];exact ⟨_,ai,_,_,rfl,.inl ⟨rfl,rfl⟩,.inl ⟨rfl,rfl⟩,Low.nil _,Low.nil _⟩⟩
 generalize bg:bH w r K L n _=bk at*;clear bg;have an:=lH (λag=>Lp ok.tree (l:=o.path) ag);generalize lookOf S.T o.path=bf at*;obtain ⟨ae,u,d⟩:=bf;dsimp only at am ap ao an;have al:=lH ab;have az:=lH J;have bb:=lH ok;clear ab J Q h ok B ar;unfold aG.cells bU aX.cells at*;go_enter func105,ntmps105;go_wp2_with fail;generalize (w.alloc _).alloc _=w0 at*;have bj:=lH (show w.heap.size<=w.heap.size from AU _);generalize bo:w.heap.size=ad at*;have bm:w0.cell? (I L.s 9)=some (Y L.tr):=al.o.cell 9;have bn:w0.cell? (I ad 4)=some (.string (ba o.path)):=aA av _;have bd:=lH aw;clear av aw;go_region_held3 (λw'=>w'.cell? (I L.s 9)=some (Y L.tr)/\w'.cell? (I ad 4)=some (.string (ba o.path))) (first|go_keep|(go_split_ands;refine ⟨?_,?_⟩<;>exact af.cell_of (by assumption) id))
  ((go_at_call 85;refine (am.o _ (Fr.refl _).drew).mono ?_;rintro e aa ⟨rfl,af⟩))
 have H:=lH ((Fr.refl w0).drew.trans af zq);clear af;cases aj:(ae==0) with
 | false=>
  (have V:ae≠0:=by simpa using aj);go_wp2_with fail;refine cr (iD _ _) ?_;rintro br rfl;go_wp2_with fail;exact ⟨rfl,ap V _ _ rfl (ak.o.trans H zq)⟩
 | true=>
  (obtain rfl:ae=0:=by simpa using aj);have au:∀w',Fr No w0 w'->aV w' r K L S n:=λw' f=>al.o.no bb az f;have ah:=au aa H.o;have bl:aa.cell? (I L.s 11)=some (.map (some L.fl)):=ah.cell 11;obtain ⟨fp,ay,ax⟩:=ah.files.look u (by have:=an.o rfl;omega);have bq:=ay aa (Fr.refl _);have bc:=lH (aB5 (w:=aa) (F:=S.F) (fp:=fp) (i:=u) (λm bh=>(ax m bh).reads));have aq:=lH (H.o.aB bd id);clear ay ax ah au aj;have bp:∀w':World,(Instr.build 29 #[(1,Z u),(5,.bool d),(2,Z (tV S.F u))]).run prog w'=.ok (.agg #[Z 0,u,Z (tV S.F u),Z 0,Z 0,d,nS,nS]) w':=λw'=>by kernel_rfl
  generalize tV S.F u=z at*;go_wp2_with fail;refine cq (iU _ _) ?_;go_wp2_with fail;refine cq bc.o ?_;go_wp2_with (refine wS 29 aq ?_);have be:=aW (cs':= #[Z 0,u,z,Z 0,Z 0,d,nS,nS]) aq.o;exact AZ (v:=.agg _) (BH rfl _ _ (ad+1) 29 _ (0,0) _ rfl be underlying29 rfl Tryz.size29) rfl
   (ao.o trivial _ _ rfl (Fr.setRow (ak.o.trans H.o zq) (.inr X) _))
