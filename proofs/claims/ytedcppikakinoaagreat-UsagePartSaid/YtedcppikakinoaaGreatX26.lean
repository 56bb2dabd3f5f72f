/- Part of a proof. -/
import Derived.Test.YtedcppikakinoaaGreatX24
import Derived.Test.YtedcppikakinoaaGreatX25
set_option linter.unusedSimpArgs false
set_option linter.unusedVariables false
set_option maxRecDepth 100000
set_option maxHeartbeats 12800000
namespace Go.Proofs.YtedcppikakinoaaGreat
open Go.Proofs.Tryz Go.RowKit Go.Lib
def zU (w:World) (k:Nat) (x:Int×Nat×List Tok) (e:Ending) (w':World):Prop:=e=.returned (.tuple #[x.2.1,x.1])/\((x.1≠0/\Fr No w w')\/(x.1=0/\Fr (λj=>j=k) w w'/\uF w w' k x.2.2))
section
variable {α:Type} {c:α->List Value} {n:Nat} {t sl:TypeId}
theorem Ut {ops rest o a w u} (T:iU c n t sl) (ad:o.guard=none) (s x) (af:o.op=.call {callee:=.builtin .append,args:= #[s,x],argTypes:= #[sl,sl]}) (base v L y) (ag:a.eval s=v) (H:Own c n t w base v L) (b) (ai:a.eval x=.slice (some (I b 0)) 1 1) (J cs) (V:w.heap[b]? =some (.cells cs t J)) (ab:cs.toList=c y) (al:L.length<=1000000) (w0) (E:Fr No w0 w) (A:w0.heap.size=base) (h:∀g cap w',Own c n t w' base (O g (L++ [y]).length cap) (L++ [y])->Fr No w0 w'->w.grownBy w' v.ownBlock->wpList prog ops u rest (a.put o.dst (O g (L.length+1) cap)) w'):wpList prog ops u (o::rest) a w:=by
 obtain ⟨i,z,ae,aj,ah,ak,aa⟩:=T.info;refine wpList_append_lies w ad s x sl af base t i z n i.bytes T.sl ae aj ah rfl ak T.pos v L.length (L.flatMap c) ag H (I b 0) 1 1 (c y) ai (by rw [T.len,Nat.one_mul]) ?_ (T.one y) G (by unfold maxLen;omega) ?_ (by rw [<-A];exact E.size) w rfl ?_;{intro j am r;(have:(Addr.mk b 0 none).add j=(I b (0+j)):=by unfold Addr.add;split<;>simp_all);rw [this,BP,aA V,<-CS,ab];exact r};{have:=Nat.mul_le_mul (show L.length+1<=1000001 by omega) aa;omega};{intro g cap w' Q B _ _;refine h g cap w' ?_ (E.grown B (λj r=> .inr ?_)) B;{unfold Own;rw [EU,AB];simpa using Q};{rw [A];exact zT H j r}}
theorem Own.not {w r:World} {base v L} (h:Own c n t w base v L) {o} (A:∀u,r.grownBy u v.ownBlock->r.heap[w.heap.size]? =some o->u.heap[w.heap.size]? =some o):True:=trivial
theorem Ei {w w':World} {row k r} (u:w.grownBy w' row) (o:w.heap[k]? =some r) (A:row≠some k):w'.heap[k]? =some r:=
 (u.block k (lt_of_block o) (λe=>A e.symm)).trans o
theorem Own.far {w base v L} (h:Own c n t w base v L) {k} (r:w.heap.size<=k):v.ownBlock≠some k:=by
 intro e;obtain ⟨_,⟨rfl,_⟩|⟨g,cap,u,rfl,_,o,_⟩⟩:=h;{cases e};{cases e;have A:=lt_of_block o;have B:w.heap.size<=g:=r;omega}
end
theorem aCQ (k) (c i:Int) (r:Bool) (L w) (ee:tZ w k L) (dk:kX L) (dl:∀x∈L,small x) (fd:L.length<=1000) (eb:0<=c/\c<4) (ec:2<=i/\i<=128):
  Calls prog 280 #[Y k,c,i,r] w (zU w k (eU L c i r)):=by
 obtain ⟨v,ck,di⟩:=ee;obtain ⟨base,cap,rfl,dj⟩:=di.rd;have av:=lH (aBT (c:=c) dk dl);have bt:Hid (eU L c i r=if 4<=fP L c then (5,0,L) else if L.any (λx=>x.i==i&&(r||x.wr)) then (8,0,L) else (0,fP L c,L.takeWhile (λx=>decide (0<kJ ⟨c,fP L c,i,r⟩ x))++⟨c,fP L c,i,r⟩::L.dropWhile (λx=>decide (0<kJ ⟨c,fP L c,i,r⟩ x)))):=lH rfl;have ce:Hid (∀h w',eU L c i r=(h,0,L)->h≠0->Fr No w w'->zU w k (eU L c i r) (.returned (.tuple #[Z 0,h])) w'):=λh w' bj dy f=>by
  rw [bj];exact ⟨rfl,.inl ⟨dy,f⟩⟩
 have cz:Hid (∀w' M (h:Nat),eU L c i r=(0,h,M)->Fr (λj=>j=k) w w'->uF w w' k M->zU w k (eU L c i r) (.returned (.tuple #[h,Z 0])) w'):=λw' M h bj f g=>by
  rw [bj];exact ⟨rfl,.inr ⟨rfl,f,g⟩⟩
 have cv:=lH (λh=>O9 (L:=L) (c:=c) h);generalize zU w k _=en at*;generalize eU L c i r=cg at*;(have du:w.cell? (I k 0)=some (.slice base L.length cap):=by rw [aA ck];rfl);have cf:=lH ck;have da:=lH dj;obtain ⟨ew,ex⟩:=eb;obtain ⟨fb,fc⟩:=ec;(have ff:¬c<0:=X);(have fg:¬4<=c:=X);(have fh:¬i<2:=X);(have fi:¬128<i:=X);clear ck di dj dk dl;go_enter func280,ntmps280;go_wp2_with fail;go_loopw [10,11,12,13] (λm b h a wr=>∃(j A o:Nat) (ak:Bool),a=Z j/\m=Z A/\h=Z o/\b=.bool ak/\j<=L.length/\A<=j/\o<=j/\Hid (mF c (L.take j) (0,0)=(A,o))/\Hid (ak=(L.take j).any λx=>x.i==i&&(r||x.wr))/\wr=w) (λ_ _ _ a _=>L.length - (intOf a).toNat);case atStart=>exact ⟨0,0,0,false,rfl,rfl,rfl,rfl,BA _,AU _,AU _,lH (by simp [mF]),lH D,rfl⟩
 case round=>
  obtain ⟨j,A,o,ak,rfl,rfl,rfl,rfl,ed,fe,fa,br,bo,rfl⟩:=hrel;by_cases u:j<L.length
  ·obtain ⟨b,off,rfl,am⟩:=da.o.at_ j u;have eg:(j:Int)<(L.length:Int):=X;have dn:(0:Int)<=(j:Int):=X
   have ab:Hid (mF c (L.take (j+1)) (0,0)=if (L[j]).c=c then (A+1,if (L[j]).h=(o:Int) then o+1 else o) else (A,o)):=lH (by
    rw [fK u,U4,br.o];show mF c [] (if (L[j]).c=c then _ else _)=_;unfold mF;rfl)
   have V:Hid (((L.take (j+1)).any λx=>x.i==i&&(r||x.wr))=(ak||((L[j]).i==i&&(r||(L[j]).wr)))):=lH (by
    rw [fK u,List.any_append,<-bo.o];simp)
   have e0:=am 0 _ rfl;have dw:=am 1 _ rfl;have ch:=am 2 _ rfl;have dx:=am 3 _ rfl;generalize L[j]=y at*;obtain ⟨Q,H,B,J⟩:=y;dsimp only [Nat.add_zero] at e0 dw ch dx ab V;clear am br bo;by_cases cm:Q=c;{subst cm;by_cases cn:H=(o:Int);{subst cn;(cases ak with|true=>{go_wp2_with fail;go_roundw;{exact ⟨j+1,A+1,o+1,true,by go_num,by go_num,by go_num,by trivial,u,by omega,by omega,lH (by rw [ab.o,AL rfl,AL rfl]),lH (by rw [V.o];rfl),by trivial⟩};simp [intOf];omega}|false=>by_cases af:B=i;{subst af;(cases r with|true=>{go_wp2_with fail;go_roundw;{exact ⟨j+1,A+1,o+1,true,by go_num,by go_num,by go_num,by trivial,u,by omega,by omega,lH (by rw [ab.o,AL rfl,AL rfl]),lH (by rw [V.o];simp),by trivial⟩};simp [intOf];omega}|false=>{go_wp2_with fail;go_roundw;{exact ⟨j+1,A+1,o+1,J,by go_num,by go_num,by go_num,by trivial,u,by omega,by omega,lH (by rw [ab.o,AL rfl,AL rfl]),lH (by rw [V.o];simp),by trivial⟩};simp [intOf];omega})};{(have bl:(B==i)=false:=by simpa using af);have ap:=af;go_wp2_with fail;go_roundw;{exact ⟨j+1,A+1,o+1,false,by go_num,by go_num,by go_num,by trivial,u,by omega,by omega,lH (by rw [ab.o,AL rfl,AL rfl]),lH (by rw [V.o,bl];rfl),by trivial⟩};simp [intOf];omega})};{(have eh:(H==(o:Int))=false:=by simpa using cn);have al:=cn;(cases ak with|true=>{go_wp2_with fail;go_roundw;{exact ⟨j+1,A+1,o,true,by go_num,by go_num,by go_num,by trivial,u,by omega,by omega,lH (by rw [ab.o,AL rfl,AA al]),lH (by rw [V.o];rfl),by trivial⟩};simp [intOf];omega}|false=>by_cases af:B=i;{subst af;(cases r with|true=>{go_wp2_with fail;go_roundw;{exact ⟨j+1,A+1,o,true,by go_num,by go_num,by go_num,by trivial,u,by omega,by omega,lH (by rw [ab.o,AL rfl,AA al]),lH (by rw [V.o];simp),by trivial⟩};simp [intOf];omega}|false=>{go_wp2_with fail;go_roundw;{exact ⟨j+1,A+1,o,J,by go_num,by go_num,by go_num,by trivial,u,by omega,by omega,lH (by rw [ab.o,AL rfl,AA al]),lH (by rw [V.o];simp),by trivial⟩};simp [intOf];omega})};{(have bl:(B==i)=false:=by simpa using af);have ap:=af;go_wp2_with fail;go_roundw;{exact ⟨j+1,A+1,o,false,by go_num,by go_num,by go_num,by trivial,u,by omega,by omega,lH (by rw [ab.o,AL rfl,AA al]),lH (by rw [V.o,bl];rfl),by trivial⟩};simp [intOf];omega})}};{(have eh:(Q==c)=false:=by simpa using cm);have al:=cm;(cases ak with|true=>{go_wp2_with fail;go_roundw;{exact ⟨j+1,A,o,true,by go_num,by go_num,by go_num,by trivial,u,by omega,by omega,lH (by rw [ab.o,AA al]),lH (by rw [V.o];rfl),by trivial⟩};simp [intOf];omega}|false=>by_cases af:B=i;{subst af;(cases r with|true=>{go_wp2_with fail;go_roundw;{exact ⟨j+1,A,o,true,by go_num,by go_num,by go_num,by trivial,u,by omega,by omega,lH (by rw [ab.o,AA al]),lH (by rw [V.o];simp),by trivial⟩};simp [intOf];omega}|false=>{go_wp2_with fail;go_roundw;{exact ⟨j+1,A,o,J,by go_num,by go_num,by go_num,by trivial,u,by omega,by omega,lH (by rw [ab.o,AA al]),lH (by rw [V.o];simp),by trivial⟩};simp [intOf];omega})};{(have bl:(B==i)=false:=by simpa using af);have ap:=af;go_wp2_with fail;go_roundw;{exact ⟨j+1,A,o,false,by go_num,by go_num,by go_num,by trivial,u,by omega,by omega,lH (by rw [ab.o,AA al]),lH (by rw [V.o,bl];rfl),by trivial⟩};simp [intOf];omega})}
  ·(obtain rfl:j=L.length:=by omega);have eg:¬(L.length:Int)<(L.length:Int):=X;have ab:Hid (mF c L (0,0)=(A,o)):=lH (by have:=br.o;rwa [AY] at this);have V:Hid (ak=L.any λx=>x.i==i&&(r||x.wr)):=lH (by have:=bo.o;rwa [AY] at this);have av:Hid ((4<=A↔4<=fP L c)/\(fP L c<4->o=fP L c)):=lH (by have:=av.o;rwa [ab.o] at this);clear br bo;by_cases ci:4<=A;{have aw:Hid (cg=(5,0,L)):=lH (by rw [bt.o,AL (av.o.1.1 ci)]);have dn:(4:Int)<=(A:Int):=X;go_wp2_with fail;exact ce.o 5 _ aw G (Fr.refl _)}
   ·have bx:¬4<=fP L c:=λh=>ci (av.o.1.2 h);have dn:¬(4:Int)<=(A:Int):=X
    cases ak with
    | true=>
     have aw:Hid (cg=(8,0,L)):=lH (by rw [bt.o,AA bx,AL V.o.symm]);clear bx;go_wp2_with fail;exact ce.o 8 _ aw G (Fr.refl _)
    | false=>
     obtain ⟨aq,rfl⟩:∃aq:World,aq=wr:=⟨wr,rfl⟩;have dg:=av.o.2 X;have ez:o<4:=X
     have aw:Hid (cg=(0,o,iG (nO c o) ⟨c,o,i,r⟩ L)):=lH (by
      have dz:=cv.o X;rw [bt.o,AA bx,AA (by rw [<-V.o];simp),Tf (λx bj e ch=>dz x bj ⟨e,ch⟩),<-dg])
     obtain ⟨E,ca⟩:∃E:World,E=aq.alloc (.cells #[c,o,i,r] 329):=⟨_,rfl⟩;have dm:E.heap[aq.heap.size]? =some (.cells #[c,o,i,r] 329 (0,0)):=(by rw [ca];exact AQ aq _);have dt:=lH dm;have bn:Hid (Fr No aq E):=lH (by rw [ca];exact (Fr.refl _).alloc _);have db:=lH bn.o.size;clear dm bx dg ci av bt V ab cv ce;go_wp2_with fail;rw [<-ca];clear ca;go_loopw [15,16,17] (λv p a wr=>∃(j:Nat) (ag:Bool) (M:List Tok),a=Z j/\p=.bool ag/\j<=L.length/\Hid (gG (nO c o) (⟨c,o,i,r⟩:Tok) L j ag M)/\M.length<=j+ag.toNat/\Hid (Own cZ 4 329 wr E v M)/\Hid (Fr No E wr)) (λ_ _ a _=>L.length - (intOf a).toNat);case atStart=>exact ⟨0,false, [],rfl,rfl,BA _,lH gG.start,by simp,lH Own.nil,lH (Fr.refl _)⟩
     (case round=>obtain ⟨j,ag,M,rfl,rfl,ed,au,cj,bb,bp⟩:=hrel;obtain ⟨a,ep,rfl⟩:=bb.o.shape;have bq:=lH (bn.o.trans bp zq);have dv:=bq.o.cell_of du id;have be:=lH (bp.o.aB dt id);by_cases u:j<L.length;{obtain ⟨dd,off,rfl,am⟩:=da.o.at_ j u;have ei:(j:Int)<(L.length:Int):=X;have fj:(0:Int)<=(j:Int):=X;have bu:Hid (wr.rangeAt dd (off+j*4) (cZ L[j])):=λi ej ef=>bq.o.cell_of (am i ej ef) id;(have cw:Hid (ag=false->nO c o (L[j])=true->gG (nO c o) (⟨c,o,i,r⟩:Tok) L (j+1) true ((M++ [(⟨c,o,i,r⟩:Tok)])++ [L[j]])):=λe bg=>by subst e;exact au.o.first u bg);(have cx:Hid (ag=false->nO c o (L[j])=false->gG (nO c o) (⟨c,o,i,r⟩:Tok) L (j+1) false (M++ [L[j]])):=λe bg=>by subst e;exact au.o.skip u bg);(have dq:Hid (ag=true->gG (nO c o) (⟨c,o,i,r⟩:Tok) L (j+1) true (M++ [L[j]])):=λe=>by subst e;exact au.o.later u);generalize L[j]=y at*;obtain ⟨Q,H,B,J⟩:=y;unfold cZ at bu;dsimp only [Nat.add_zero] at bu;clear am au;obtain ⟨aa,cb⟩:∃aa:World,aa=wr.alloc (.cells #[Q,H,B,J] 329):=⟨_,rfl⟩;have ap:aa.heap[wr.heap.size]? =some (.cells #[Q,H,B,J] 329 (0,0)):=(by rw [cb];exact AQ wr _);have ay:Hid (Fr No wr aa):=lH (by rw [cb];exact (Fr.refl _).alloc _);have dc:=lH ap;have y0:=aA ap;have em:=lH (pG ap);have el:Hid (aa.rangeAt aq 0 [c,o,i,r]):=pG (ay.o.aB be id);have bd:=lH (bb.o.no ay);have az:=lH (bp.o.trans ay zq);have cu:=lH (bb.o.far (AU _));clear ap;go_upto_region 25 with (refine EW R 329 _ R dd (off+j*4) R [Q,H,B,J] _ bu underlying329 rfl Tryz.Ij ?_);rw [<-cb];clear cb bu dv;generalize ev:wr.heap.size=eo at*;(cases ag with|true=>{rw [CZ] at cj;have aj:=lH (dq.o rfl);go_wp2_with (at_builtin;(refine gB oL R _ _ R E _ M (⟨Q,H,B,J⟩:Tok) R (bd.o.alloc _) aa R (0,0) #[Q,H,B,J] (AQ aa _) R (by first|omega|(simp only [AB,AO];omega)) E (az.o.alloc _) R ?_));intro bw bv cc ae ad;have ai:=lH ae;have ah:=lH ad;clear ae ad;go_wp2_with fail;go_roundw;{exact ⟨j+1,true,M++ [(⟨Q,H,B,J⟩:Tok)],by go_num,by trivial,u,aj,by simp only [AB,AO,CZ,CV];omega,ai,ah⟩};simp [intOf];omega}|false=>rw [CV] at cj;by_cases bg:c<Q;{have aj:=lH (cw.o rfl (by simp [nO,bg]));have bk:=ay.o.aB be id;have dp:=aA bk;clear bk;go_wp2_with (at_builtin;(refine Ut oL R _ _ R E _ M (⟨c,o,i,r⟩:Tok) R (bd.o.alloc _) aa R (0,0) #[c,o,i,r] (AQ aa _) R (by first|omega|(simp only [AB,AO];omega)) E (az.o.alloc _) R ?_));intro df de ax ao an bi;have bm:=(Ei bi (((Fr.refl aa).alloc (S:=No) _).aB dc id) cu);have z0:=aA bm;clear bm;have dh:(M++ [(⟨c,o,i,r⟩:Tok)]).length=M.length+1:=(by rw [AB,AO]);generalize M++ [(⟨c,o,i,r⟩:Tok)]=bf at*;have bc:=lH ao;have ar:=lH an;clear ao an bi;go_wp2_with (at_builtin;(refine gB oL R _ _ R E _ bf (⟨Q,H,B,J⟩:Tok) R (bc.o.alloc _) ax R (0,0) #[Q,H,B,J] (AQ ax _) R (by first|omega|(simp only [AB,AO];omega)) E (ar.o.alloc _) R ?_));intro bw bv cc ae ad;have ai:=lH ae;have ah:=lH ad;clear ae ad;go_wp2_with fail;go_roundw;{exact ⟨j+1,true,bf++ [(⟨Q,H,B,J⟩:Tok)],by go_num,by trivial,u,aj,by simp only [AB,AO,CZ,CV];omega,ai,ah⟩};simp [intOf];omega};{by_cases bh:c=Q;{subst bh;by_cases ea:(o:Int)<H;{have aj:=lH (cw.o rfl (by simp [nO,ea]));have bk:=ay.o.aB be id;have dp:=aA bk;clear bk;go_wp2_with (at_builtin;(refine Ut oL R _ _ R E _ M (⟨c,o,i,r⟩:Tok) R (bd.o.alloc _) aa R (0,0) #[c,o,i,r] (AQ aa _) R (by first|omega|(simp only [AB,AO];omega)) E (az.o.alloc _) R ?_));intro df de ax ao an bi;have bm:=(Ei bi (((Fr.refl aa).alloc (S:=No) _).aB dc id) cu);have z0:=aA bm;clear bm;have dh:(M++ [(⟨c,o,i,r⟩:Tok)]).length=M.length+1:=(by rw [AB,AO]);generalize M++ [(⟨c,o,i,r⟩:Tok)]=bf at*;have bc:=lH ao;have ar:=lH an;clear ao an bi;go_wp2_with (at_builtin;(refine gB oL R _ _ R E _ bf (⟨c,H,B,J⟩:Tok) R (bc.o.alloc _) ax R (0,0) #[c,H,B,J] (AQ ax _) R (by first|omega|(simp only [AB,AO];omega)) E (ar.o.alloc _) R ?_));intro bw bv cc ae ad;have ai:=lH ae;have ah:=lH ad;clear ae ad;go_wp2_with fail;go_roundw;{exact ⟨j+1,true,bf++ [(⟨c,H,B,J⟩:Tok)],by go_num,by trivial,u,aj,by simp only [AB,AO,CZ,CV];omega,ai,ah⟩};simp [intOf];omega};{have aj:=lH (cx.o rfl (by simp [nO];omega));go_wp2_with (at_builtin;(refine gB oL R _ _ R E _ M (⟨c,H,B,J⟩:Tok) R (bd.o.alloc _) aa R (0,0) _ (AQ aa _) R (by first|omega|(simp only [AB,AO];omega)) E (az.o.alloc _) R ?_));intro bw bv cc ae ad;have ai:=lH ae;have ah:=lH ad;clear ae ad;go_wp2_with fail;go_roundw;{exact ⟨j+1,false,M++ [(⟨c,H,B,J⟩:Tok)],by go_num,by trivial,u,aj,by simp only [AB,AO,CZ,CV];omega,ai,ah⟩};simp [intOf];omega}};{have bh:¬Q=c:=λe=>bh e.symm;have fk:(Q==c)=false:=(U bh);have aj:=lH (cx.o rfl (by simp [nO,bh];omega));go_wp2_with (at_builtin;(refine gB oL R _ _ R E _ M (⟨Q,H,B,J⟩:Tok) R (bd.o.alloc _) aa R (0,0) _ (AQ aa _) R (by first|omega|(simp only [AB,AO];omega)) E (az.o.alloc _) R ?_));intro bw bv cc ae ad;have ai:=lH ae;have ah:=lH ad;clear ae ad;go_wp2_with fail;go_roundw;{exact ⟨j+1,false,M++ [(⟨Q,H,B,J⟩:Tok)],by go_num,by trivial,u,aj,by simp only [AB,AO,CZ,CV];omega,ai,ah⟩};simp [intOf];omega}})};{(obtain rfl:j=L.length:=by omega);have ei:¬(L.length:Int)<(L.length:Int):=X;have cl:=bq.o.aB cf id;have ds:=lH cl;have cy:=lH (AP (lt_of_block cf) bn.o.size);have er:=aU cl 0;clear cl;have eu:M.length<=2000:=(by cases ag<;>simp at cj<;>omega);(cases ag with|true=>have cd:=lH (au.o.put);go_wp2_with fail;obtain ⟨co,cp,ct⟩:=tH (bb.o.new oL) ds cy.o;exact cz.o _ _ o aw (bq.o.aY.trans ct zq) ⟨_,co,by rw [<-cd.o];exact cp.le db⟩|false=>have cd:=lH (au.o.zD);have ek:=lH (pG be);have dp:=aA be.o;go_wp2_with (at_builtin;(refine gB oL R _ _ R E _ M (⟨c,o,i,r⟩:Tok) R (bb.o.alloc _) wr R (0,0) _ (AQ wr _) R (by first|omega|(simp only [AB,AO];omega)) E (bp.o.alloc _) R ?_));intro df de ax ao an;have bc:=lH ao;have ar:=lH (bn.o.trans an zq);have bz:=ar.o.aB cf id;have dr:=lH bz;have et:=aU bz 0;have eq:=aA bz;have dh:(M++ [(⟨c,o,i,r⟩:Tok)]).length=M.length+1:=(by rw [AB,AO]);clear ao an bz;go_wp2_with fail;obtain ⟨co,cp,ct⟩:=tH (Own.new oL (L:=M++_) bc) dr cy.o;exact cz.o _ _ o aw (ar.o.aY.trans ct zq) ⟨_,co,by rw [<-cd.o];exact cp.le db⟩)})
def Bd (F:Nat->Option cO) (U:Stp->Option Us):Prop:=∀i m,F i=some m->∀p∈ptrs m,∃u,U (gJ p)=some u/\p.a+p.z<=u.1
structure qH (S:St):Prop where
 tree:∀i m,S.F i=some m->∃x,S.T i=some x/\x.dir=false
 held:Bd S.F S.U
 live:∀x u,S.U x=some u->u.2.1=iH S.F x/\u.2.1≠0
theorem yL {m p}:p∈ptrs m↔p∈m.l/\p≠aS:=by
 unfold ptrs;rw [GY];simp
theorem Ro {m} (h:∀p∈m.l,dU p) {p} (A:p∈ptrs m):1<=p.z:=by
 obtain ⟨r,u⟩:=yL.1 A;rcases h p r with o|o;{exact absurd o u};{omega}
theorem Yp {L} (h:∀p∈L,0<=p.z) (x):0<=dX L x:=by
 (induction L with|nil=>exact JF _|cons a r ih=>have o:=ih (λp u=>h p (BH _ u));have A:=h a BK;unfold dX at o ⊢;rw [ET,GU];split<;>omega)
theorem aCa {L} (h:∀p∈L,1<=p.z) {p} (o:p∈L):0<dX L (gJ p):=by
 (induction L with|nil=>cases o|cons a r ih=>{have A:=Yp (L:=r) (λq u=>by have:=h q (BH _ u);omega) (gJ p);have E:=h a BK;rcases CE.1 o with rfl|o;{unfold dX at A ⊢;rw [ET,GU,AL rfl];omega};{have B:=ih (λq u=>h q (BH _ u)) o;unfold dX at B ⊢;rw [ET,GU];split<;>omega}})
theorem aEQ {l:List Nat} {f:Nat->Int} (h:∀i∈l,0<=f i):0<=(l.map f).sum/\∀i∈l,f i<=(l.map f).sum:=by
 (induction l with|nil=>exact ⟨JF _,λi o=>by cases o⟩|cons a r ih=>{obtain ⟨A,u⟩:=ih (λi o=>h i (BH _ o));have B:=h a BK;rw [ET,GU];refine ⟨by omega,λi o=> ?_⟩;rcases CE.1 o with rfl|o;{omega};{have:=u i o;omega}})
theorem aCS {F} (A:jU F) (E:∀i m,F i=some m->1<=i/\i<=128/\eQ m) {i m} (r:F i=some m) {p} (J:p∈ptrs m):0<iH F (gJ p):=by
 have B:=aCa (λq u=>Ro (A i m r) u) J;have o:=(aEQ (l:=List.range 129) (f:=λi=>match F i with
  | some m=>if (λ_:Int=>false) (i:Int)=true then 0 else dX (ptrs m) (gJ p)
  | none=>0) (λj _=>by
   dsimp only;cases H:F j with
   | none=>exact JF _
   | some y=>
    dsimp only;rw [AA D];exact Yp (λq u=>by have:=Ro (A j y H) u;omega) _)).2 i (CG.2 (by have:=E i m r;omega))
 dsimp only at o;rw [r] at o;dsimp only at o;rw [AA D] at o;unfold iH jT;exact Int.lt_of_lt_of_le B o
theorem Zv {F G} (h:∀i,(match F i with|some m=>ptrs m|none=> [])=(match G i with|some m=>ptrs m|none=> [])) (x):iH F x=iH G x:=by
 unfold iH jT;refine BC List.sum (JD (λi _=> ?_));have o:=h i;(cases u:F i with|none=>rw [u] at o;(cases r:G i with|none=>rfl|some y=>rw [r] at o;dsimp only at o ⊢;rw [<-o];rfl)|some z=>rw [u] at o;(cases r:G i with|none=>rw [r] at o;dsimp only at o ⊢;rw [o];rfl|some y=>rw [r] at o;dsimp only at o ⊢;rw [o]))
theorem N7 {F U} (J:jU F) (E:∀i m,F i=some m->1<=i/\i<=128/\eQ m) (h:Bd F U):Bd F (gV F U)/\∀x r,gV F U x=some r->r.2.1=iH F x/\r.2.1≠0:=by
 constructor;{intro i m u p A;obtain ⟨r,o,H⟩:=h i m u p A;have:=aCS J E u A;unfold gV;rw [o];dsimp only;rw [AA X];exact ⟨_,rfl,H⟩};{intro x r o;unfold gV at o;split at o;{cases o};{split at o;{cases o};{rename_i B;cases o;exact ⟨rfl,B⟩}}}
theorem Rn (c:Int):∀(o:List Sz) (U:Stp->Option Us) (y:Stp),(∀s∈o,s.1≠y)->jL c o U y=U y
 | [],_,_,_=>rfl
 | s::r,U,y,h=>by
  have u:=Rn c r (λz=>if z=s.1 then some (s.2,0,c) else U z) y (λt A=>h t (BH _ A));refine u.trans ?_;rw [AA (λe=>h s BK e.symm)]
theorem Yw (S:St) (nx c l u:Int):∀(B:List Sz) (m o:Stp->Option Int) (U:Stp->Option Us),(∀y z,m y=some z->∃b,U y=some (z,b))->dS S nx c l B m=some o->∀y z,o y=some z->∃b,jL u B U y=some (z,b)
 | [],m,o,U,h,e,y,z,hy=>by cases e;exact h y z hy
 | x::r,m,o,U,h,e,y,z,hy=>by
  unfold dS at e;split at e
  ·refine Yw S nx c l u r _ o (λz=>if z=x.1 then some (x.2,0,u) else U z) (λy z A=> ?_) e y z hy;split at A
   ·cases A;rw [AL (by assumption)];exact ⟨_,rfl⟩
   ·rw [AA (by assumption)];exact h y z A
  ·cases e
theorem Xq (S:St) (nx c l:Int):∀(A:List Sz) (m u:Stp->Option Int),dS S nx c l A m=some u->∀s∈A,(S.U s.1).isSome=false
 | [],_,_,_,s,o=>by cases o
 | x::r,m,u,h,s,o=>by
  unfold dS at h;split at h
  ·rename_i B
   rcases CE.1 o with rfl|o
   ·exact B.2.1
   ·exact Xq S nx c l r _ u h s o
  ·cases h
theorem aBC {S sw nx o c l} (h:(dW S sw nx o c l).1=0) (r):(∀s∈o,(S.U s.1).isSome=false)/\∀y z,(dW S sw nx o c l).2 y=some z->∃b,jL r o S.U y=some (z,b):=by
 unfold dW at h ⊢;split at h;{cases h};{rename_i A;split at h;{cases h};{rename_i B;rw [AA A,AA B];split at h;{cases h};{rename_i m u;exact ⟨Xq S nx c l o _ m u,Yw S nx c l r o fM m S.U (λy z E=>by cases E) u⟩}}}
theorem Uh {L n p} (h:p∈gK L n):p∈L\/p=aS:=by
 unfold gK at h;split at h;{exact .inl (FT h)};{rcases BN.1 h with h|h;{exact .inl h};{exact .inr (List.mem_replicate.1 h).2}}
theorem Vr {m d p} (h:p∈ptrs (bP m d)):p∈ptrs m\/p=d.t:=by
 unfold bP at h;split at h;{obtain ⟨u,A⟩:=yL.1 h;unfold jI at u;split at u;{rcases KY u with o|o;{rcases Uh o with r|r;{exact .inl (yL.2 ⟨r,A⟩)};{exact absurd r A}};{exact .inr o}};{split at u;{rcases Uh u with r|r;{exact .inl (yL.2 ⟨r,A⟩)};{exact absurd r A}};{rcases KY u with o|o;{exact .inl (yL.2 ⟨o,A⟩)};{exact .inr o}}}};{exact .inl h}
theorem O1:∀(A:List Dl) (m:cO) (p:Pt),p∈ptrs (A.foldl bP m)->p∈ptrs m\/∃d∈A,p=d.t
 | [],_,_,h=> .inl h
 | d::r,m,p,h=>by
  rcases O1 r (bP m d) p h with o|⟨e,B,o⟩
  ·rcases Vr o with u|u
   ·exact .inl u
   ·exact .inr ⟨d,BK,u⟩
  ·exact .inr ⟨e,BH _ B,o⟩
theorem Lp:∀(Q:List Dl) (F:Nat->Option cO) (i:Nat) (m:cO),(Q.foldl dN F) i=some m->∃A,F i=some A/\∀p∈ptrs m,p∈ptrs A\/∃d∈Q,p=d.t
 | [],_,_,m,h=>⟨m,h,λ_ o=> .inl o⟩
 | d::r,F,i,m,h=>by
  obtain ⟨J,u,aa⟩:=Lp r (dN F d) i m h;have key:∃A,F i=some A/\∀p∈ptrs J,p∈ptrs A\/p=d.t:=by
   unfold dN at u;cases H:F d.i.toNat with
   | some y=>
    rw [H] at u;dsimp only at u;rcases zF u with ⟨e,V⟩|u
    ·rw [e];exact ⟨y,H,λp o=>by rw [V] at o;exact Vr o⟩
    ·exact ⟨J,u,λ_ o=> .inl o⟩
   | none=>
    rw [H] at u;exact ⟨J,u,λ_ o=> .inl o⟩
  obtain ⟨A,ab,ad⟩:=key;refine ⟨A,ab,λp o=> ?_⟩;rcases aa p o with B|⟨e,ae,B⟩
  ·rcases ad p B with E|E
   ·exact .inl E
   ·exact .inr ⟨d,BK,E⟩
  ·exact .inr ⟨e,BH _ ae,B⟩
theorem X8 {S sw nx u c l} (B:(dW S sw nx u c l).1=0) (h:Bd S.F S.U) (A) {F'} (Q:∀i m,F' i=some m->∀p∈ptrs m,(∃j r,S.F j=some r/\p∈ptrs r)\/uI (dW S sw nx u c l).2 p=true):Bd F' (jL A u S.U):=by
 obtain ⟨H,J⟩:=aBC B A;intro i m ab p ag;rcases Q i m ab p ag with ⟨j,r,ad,af⟩|o;{obtain ⟨ah,E,ae⟩:=h j r ad p af;refine ⟨ah,?_,ae⟩;rw [Rn A u S.U _ (λs B e=> ?_)];{exact E};{have:=H s B;rw [e,E] at this;cases this}};{unfold uI at o;split at o;{cases o};{rename_i e aa;obtain ⟨b,V⟩:=J _ _ aa;have o:=EE o;obtain ⟨ai,aj,ak,al⟩:=o;exact ⟨_,V,by dsimp only;omega⟩}}
theorem aDT {o D q r ae H} (ah:eY o q) (ab:jU D.F) (aa:∀i m,D.F i=some m->1<=i/\i<=128/\eQ m) (h:qH o) (d:tX r ae H o D):qH D:=by
 cases d with
 | same=>exact h
 | move hk h0=>
  refine ⟨λi m u=> ?_,h.held,h.live⟩;obtain ⟨x,A,hd⟩:=h.tree i m u;dsimp only;unfold jC;rw [AL h0];unfold moved;by_cases e:i=(lookOf o.T r.path).2.1;{subst e;refine ⟨_,upd_same _ _ _,?_⟩;(have E:(lookOf o.T r.path).1=0:=by{unfold gI at h0;split at h0;{rename_i a;exact absurd h0 a};{rename_i a;exact BI a}});obtain ⟨y,ag,al⟩:=look_ok ah.ok.tree E;rw [A] at ag;cases ag;dsimp only;rw [<-al];exact hd};{rw [bZ _ _ e];exact ⟨x,A,hd⟩}
 | opens=>exact ⟨h.tree,h.held,h.live⟩
 | make hk h0=>
  have aq:=Dc ah.ok.tree h0;have ar:=Nj h0;(have am:o.F (free o.T)=none:=by{(cases V:o.F (free o.T) with|none=>rfl|some m=>obtain ⟨x,A,_⟩:=h.tree _ m V;rw [aq.new] at A;cases A)});(have ak:(lI o r).T=upd o.T (free o.T) (some ⟨(placeOf o.T r.path).2.1,(placeOf o.T r.path).2.2,r.dir⟩):=by{unfold lI gY grown;dsimp only;rw [AL h0]});have ad:(lI o r).U=o.U:=rfl;(have aj:(lI o r).F=if r.dir=true then o.F else aT o.F (free o.T) (some mQ):=by{unfold lI;dsimp only;rw [ar]});refine ⟨λi m u=> ?_,λi m u p Q=> ?_,λx av an=> ?_⟩;{rw [ak];rw [aj] at u;by_cases e:i=free o.T;{subst e;refine ⟨_,upd_same _ _ _,?_⟩;dsimp only;(cases hd:r.dir with|false=>rfl|true=>rw [hd,AL rfl,am] at u;cases u)};{rw [bZ _ _ e];split at u;{exact h.tree i m u};{rw [Fa _ _ e] at u;exact h.tree i m u}}};{rw [ad];rw [aj] at u;split at u;{exact h.held i m u p Q};{rcases zF u with ⟨_,rfl⟩|u;{cases Q};{exact h.held i m u p Q}}}
  ·rw [ad] at an;have E:iH (lI o r).F x=iH o.F x:=Zv (λi=>by
    rw [aj];cases r.dir with
    | true=>rfl
    | false=>
     rw [AA (by simp)];by_cases e:i=free o.T;{subst e;rw [zI,am];rfl}
     ·rw [Fa _ _ e]) x
   rw [E];exact h.live x av an
 | remove hk h0 h1 h2=>
  (have u:(bK o.T r.path r.dir).2=(lookOf o.T r.path).2.1/\(r.dir=true->(lookOf o.T r.path).2.2=true):=by{unfold bK at h2 ⊢;rw [AA (by simp [h0])] at h2 ⊢;split at h2;{cases h2};{rename_i a1;rw [AA a1];split at h2;{cases h2};{rename_i a2;rw [AA a2];split at h2;{cases h2};{rename_i a3;rw [AA a3];split at h2;{cases h2};{rename_i a4;rw [AA a4];refine ⟨rfl,λhd=> ?_⟩;(cases E:(lookOf o.T r.path).2.2 with|true=>rfl|false=>exact absurd ⟨hd,E⟩ a2)}}}}});obtain ⟨u,_⟩:=u;obtain ⟨y,ag,al⟩:=look_ok ah.ok.tree h0;(cases E:(lookOf o.T r.path).2.2 with|true=>(have e:kY o r={o with T:=dH o.T (lookOf o.T r.path).2.1}:=by{unfold kY fH;rw [AL E,AL h2,u]});rw [e];refine ⟨λi m J=> ?_,h.held,h.live⟩;obtain ⟨x,A,hd⟩:=h.tree i m J;dsimp only;unfold dH;rw [bZ _ _ (λe=> ?_)];{exact ⟨x,A,hd⟩};{rw [e,ag] at A;cases A;rw [al,E] at hd;cases hd}|false=>(have e:kY o r={o with T:=dH o.T (lookOf o.T r.path).2.1,F:=aT o.F (lookOf o.T r.path).2.1 none,U:=gV (aT o.F (lookOf o.T r.path).2.1 none) o.U}:=by{unfold kY fH;rw [AA (by simp [E]),AL h2,u]});rw [e] at ab aa ⊢;dsimp only at ab aa;obtain ⟨c1,c2⟩:=N7 (U:=o.U) ab aa (λi m J=>h.held i m (Aw J));refine ⟨λi m J=> ?_,c1,c2⟩;dsimp only at J ⊢;obtain ⟨x,A,hd⟩:=h.tree i m (Aw J);unfold dH;rw [bZ _ _ (λe=> ?_)];{exact ⟨x,A,hd⟩};{rw [e,zI] at J;cases J})
 | commit x hk A h1 h2 h3=>
  obtain ⟨i,m,aw,ax,af⟩:=ah.tok x (CX A);(have ao:x.i.toNat=i:=X);(have V:(mZ o ae H r.c.toNat r.nx x.i.toNat).F=aT o.F i (some (H.foldl bP m)):=by{unfold mZ;dsimp only;rw [ao,af,Option.getD_some]});have ad:(mZ o ae H r.c.toNat r.nx x.i.toNat).U=gV (aT o.F i (some (H.foldl bP m))) (jL o.clock ae o.U):=by{unfold mZ;dsimp only;rw [ao,af,Option.getD_some];rfl}
  have ak:(mZ o ae H r.c.toNat r.nx x.i.toNat).T=o.T:=rfl;dsimp only at ab aa;rw [V] at ab aa;have au:=X8 h2 h.held o.clock (F':=aT o.F i (some (H.foldl bP m))) (λj y B p Q=>by
   rcases zF B with ⟨_,rfl⟩|B;{rcases O1 H m p Q with ap|⟨d,hd,rfl⟩;{exact .inl ⟨i,m,af,ap⟩};{rcases (h3 d hd).2.2.2 with ai|ai;{exact absurd ai (yL.1 Q).2};{exact .inr ai}}}
   ·exact .inl ⟨j,y,B,Q⟩)
  obtain ⟨c1,c2⟩:=N7 ab aa au;refine ⟨λj y B=> ?_,?_,?_⟩;{dsimp only at B ⊢;rw [V] at B;rw [ak];rcases zF B with ⟨rfl,_⟩|B;{exact h.tree j m af};{exact h.tree j y B}};{dsimp only;rw [V,ad];exact c1};{dsimp only;rw [V,ad];exact c2}
theorem Xl {S} (h:qH S) (c o):qH (dL S c o):=by
 unfold dL;split<;>exact ⟨h.tree,h.held,h.live⟩
theorem aAT {S q B E o x} (ah:eY S q) (A:eY x.2 (q+2)) (h:qH S) (hd:nJ S B E o x):qH x.2:=by
 have t:=Iz hd;generalize x.2=S' at*;cases t with
 | same=>exact h
 | boot=>exact ⟨h.tree,h.held,h.live⟩
 | swap=>exact ⟨h.tree,h.held,h.live⟩
 | moved hc h2 h3=>
  have ab:=A.pts;have aa:=A.ok.file;have r:(sK S E o B.nx).F=o.foldl dN S.F:=rfl;have V:(sK S E o B.nx).U=gV (o.foldl dN S.F) (jL (S.clock+1) E S.U):=rfl;rw [r] at ab aa;have af:=X8 h2 h.held (S.clock+1) (F':=o.foldl dN S.F) (λj y u p ag=>by
   obtain ⟨Q,J,ad⟩:=Lp o S.F j y u;rcases ad p ag with ae|⟨d,hd,rfl⟩;{exact .inl ⟨j,Q,J,ae⟩}
   ·exact .inr (h3 d hd).2.2)
  obtain ⟨c1,c2⟩:=N7 ab aa af;refine ⟨λj y u=> ?_,?_,?_⟩;{rw [r] at u;obtain ⟨Q,J,_⟩:=Lp o S.F j y u;exact h.tree j Q J};{rw [r,V];exact c1};{rw [r,V];exact c2}
 | asked kd bs D hm hk ha hdd=>
  have H:=aDT (D:=D) (ah.dL B.c.toNat kd) A.pts A.ok.file (Xl h _ _) hdd;exact ⟨H.tree,H.held,H.live⟩
def rD (F:Nat->Option cO) (k:Nat):List Pt:=match F k with
 | some m=>ptrs m
 | none=> []
def lN (F:Nat->Option cO) (NN:List Nat) (k:Nat) (x:Stp):Int:=((NN.take k).map λi=>dX (rD F i) x).sum
theorem Pi (p:Nat->Bool) (f:Nat->Int):∀l:List Nat,((l.filter p).map f).sum=(l.map λi=>if p i=true then f i else 0).sum
 | []=>rfl
 | a::r=>by
  have o:=Pi p f r;rw [ET,GU,<-o];by_cases h:p a=true
  ·rw [List.filter_cons_of_pos h,ET,GU,AL h]
  ·rw [List.filter_cons_of_neg h,AA h,Int.zero_add]
theorem aEH {F} {T:Tree} (h:∀i m,F i=some m->(T i).isSome=true) (x) {n} (r:(numsOf λk=>(T k).isSome).length<=n):lN F (numsOf λk=>(T k).isSome) n x=iH F x:=by
 unfold lN;rw [FH r];unfold numsOf;rw [Pi];unfold iH jT;refine BC List.sum (JD (λi _=> ?_));unfold rD;(cases o:F i with|none=>dsimp only;split;{exact aFA x};{rfl}|some m=>dsimp only;rw [AL (h i m o),AA D])
theorem aFW (F o x):lN F o 0 x=0:=rfl
theorem aDz (F) {o k} (r:k<o.length) (x):lN F o (k+1) x=lN F o k x+dX (rD F o[k]) x:=by
 unfold lN;rw [FY r,GX,List.sum_append_int];simp
theorem aF4 {L:List Pt} {j} (o:j<L.length) (x):dX (L.take (j+1)) x=dX (L.take j) x+if gJ L[j]=x then L[j].z else 0:=by
 rw [FY o,Uf]
theorem J6 {F} (h:Short F) (r:∀i m,F i=some m->eQ m) (i):(rD F i).length<=64/\∀p∈rD F i,0<=p.z/\p.z<=64:=by
 unfold rD;(cases o:F i with|none=>exact ⟨BA _,λp u=>by cases u⟩|some m=>exact ⟨Ov (r i m o),Wj h o⟩)
theorem aAd {F} (h:Short F) (u:∀i m,F i=some m->eQ m) (o k x):0<=lN F o k x/\lN F o k x<=4096*o.length:=by
 unfold lN;have B:=Y5 (l:=o.take k) (f:=λi=>dX (rD F i) x) (b:=4096) (λi _=>by
  obtain ⟨A,r⟩:=J6 h u i;have:=Ht r x;omega)
 have E:(o.take k).length<=o.length:=by rw [BV];omega
 omega
theorem aFP {L:List Pt} (h:∀p∈L,0<=p.z/\p.z<=64) (A:L.length<=64) (j x):0<=dX (L.take j) x/\dX (L.take j) x<=4096:=by
 have r:=Ht (L:=L.take j) (λp o=>h p (FT o)) x;have u:(L.take j).length<=L.length:=by rw [BV];omega
 omega
theorem Qb:∀(u o:List Stp),u.Nodup->(∀x∈u,x∈o)->u.length<=o.length
 | [],_,_,_=>BA _
 | a::r,o,hn,h=>by
  obtain ⟨E,H⟩:=MC.1 hn;have A:=h a BK;have J:=Qb r (o.erase a) H (λx B=>(List.mem_erase_of_ne (λe=>E (by rw [<-e];exact B))).2 (h x (BH _ B)));rw [List.length_erase_of_mem A] at J;have:=List.length_pos_of_mem A;rw [BU];omega
theorem Ul:∀l:List Nat,(l.map λ_=>(0:Int)).sum=0
 | []=>rfl
 | _::r=>by rw [ET,GU,Ul r];rfl
theorem aFx {F x} (h:iH F x≠0):∃i,i<129/\∃m,F i=some m/\∃p∈ptrs m,gJ p=x:=by
 refine BI (λH=>h ?_);have key:∀i,i∈List.range 129->(match F i with
  | some m=>if (λ_:Int=>false) (i:Int)=true then 0 else dX (ptrs m) x
  | none=>0)=(0:Int):=λi E=>by
  cases B:F i with
  | none=>rfl
  | some m=>
   dsimp only;rw [AA D];have J:∀L:List Pt,(∀p∈L,gJ p≠x)->dX L x=0:=λL=>by
    (induction L with|nil=>{exact λ_=>rfl}|cons a r ih=>intro A;have u:=ih (λp o=>A p (BH _ o));unfold dX at u ⊢;rw [ET,GU,AA (A a BK),u];rfl)
   exact J _ (λp o e=>H ⟨i,CG.1 E,m,B,p,o,e⟩)
 have e:=BC List.sum (JD (g:=λ_=>(0:Int)) key);unfold iH jT;exact e.trans (Ul _)
theorem Zf (l:List Nat) (f b) (h:∀i,f i<=b):(l.map f).sum<=b*l.length:=by
 (induction l with|nil=>exact BA _|cons a r ih=>rw [ET,GU,BU,Nat.mul_succ];have:=h a;omega)
theorem aEL {S} (J:jU S.F) (B:∀i m,S.F i=some m->eQ m) (h:qH S) {ss:List Stp} (H:ss.Nodup) (E:∀x∈ss,(S.U x).isSome=true):ss.length<=8256:=by
 have r:=Qb ss ((List.range 129).flatMap λi=>(rD S.F i).map gJ) H (λx aa=>by
  obtain ⟨ab,V⟩:=EK.1 (E x aa);obtain ⟨r,o⟩:=h.live x ab V;rw [r] at o;obtain ⟨i,A,m,u,p,Q,rfl⟩:=aFx o;refine List.mem_flatMap.2 ⟨i,CG.2 A,IC.2 ⟨p,?_,rfl⟩⟩;unfold rD;rw [u];exact Q)
 rw [List.length_flatMap] at r;have o:=Zf (List.range 129) (λi=>((rD S.F i).map gJ).length) 64 (λi=>by
  rw [EP];exact (J6 J.short B i).1)
 rw [IX] at o;omega
theorem aCr:qH S0:=⟨λi m h=>(by cases h),λi m h=>(by cases h),λx u h=>(by cases h)⟩
def oU (st:List Sz) (x:Pt):Prop:=∃y∈st,y.1=gJ x/\0<=x.a/\1<=x.z/\x.z<=y.2/\x.a<=y.2 - x.z
instance (st:List Sz) (x:Pt):Decidable (oU st x):=by unfold oU;infer_instance
theorem Ug (ah:aH) (ay ag o x w) (aq:aJ fD 4 w ay o) (bx:o.length<=1000000) (au:∀y∈o,y.2<=6000):
  Calls prog 258 #[.agg (ah.cells ay ag),dF x] w (bD (.bool (decide (oU o x))) w):=by
 (have ab:prog.follows .mixedOrders=true:=N);obtain ⟨base,cap,rfl,ar⟩:=aq.rd;have an:=lH (Dj (P:=oU o x) (w:=w));generalize bD _ w=bu at*;obtain ⟨w0,ae⟩:∃w0,w0=(w.alloc (.cells (ah.cells (.slice base o.length cap) ag) 41)).alloc (.cells (cP x) 59):=⟨_,rfl⟩;(have ap:Fr No w w0:=by rw [ae];exact ((Fr.refl w).alloc _).alloc _);(have av:w0.heap[w.heap.size]? =some (.cells (ah.cells (.slice base o.length cap) ag) 41 (0,0)):=by{rw [ae];exact (show Fr No (w.alloc _) _ from (Fr.refl _).alloc _).aB (AQ w _) id});(have aw:w0.heap[w.heap.size+1]? =some (.cells (cP x) 59 (0,0)):=by{rw [ae];have:=AQ (w.alloc (.cells (ah.cells (.slice base o.length cap) ag) 41)) (.cells (cP x) 59);rwa [fC] at this});have ao:=lH ae.symm;have bk:=lH av;have bl:=lH aw;have az:=lH ap;have bh:=lH ar;have bi:=lH au;have bb:=lH (λy=>Df y (x.c,x.l,x.n));unfold aH.cells at ao;unfold aH.cells dF;clear aq ar ae ap av aw au;go_enter func258,ntmps258;go_upto_region 1 with fail;rw [ao.o];go_wp2_with fail;go_loopw [5] (λa wr=>∃j:Nat,a=Z j/\j<=o.length/\Hid (∀y∈o.take j,¬(y.1=gJ x/\0<=x.a/\1<=x.z/\x.z<=y.2/\x.a<=y.2 - x.z))/\Hid (Fr No w0 wr)) (λa _=>o.length - (intOf a).toNat);case atStart=>exact ⟨0,rfl,BA _,lH D,lH (Fr.refl _)⟩
 case round=>
  obtain ⟨j,rfl,bw,am,H⟩:=hrel;have Q:=lH (az.o.trans H zq);have ax:=H.o.aB bk id;(have bv:wr.cell? (I w 12)=some (.slice base o.length cap):=by rw [aA ax];rfl);clear ax;by_cases A:j<o.length
  ·obtain ⟨b,off,rfl,ad⟩:=bh.o.at_ j A;have br:=CY.2 A;have bz:=CB j;have y0:=Q.o.cell_of (ad 0 _ rfl) id;have y1:=Q.o.cell_of (ad 1 _ rfl) id;have y2:=Q.o.cell_of (ad 2 _ rfl) id;have y3:=Q.o.cell_of (ad 3 _ rfl) id;have aa:=H.o.aB bl id;have ca:wr.cell? (I (w.heap.size+1) 0)=some (Z x.c):=(by rw [aA aa];rfl);have cb:wr.cell? (I (w.heap.size+1) 1)=some (Z x.l):=(by rw [aA aa];rfl);have cc:wr.cell? (I (w.heap.size+1) 2)=some (Z x.n):=(by rw [aA aa];rfl);have cd:wr.cell? (I (w.heap.size+1) 3)=some (Z x.a):=(by rw [aA aa];rfl);have ce:wr.cell? (I (w.heap.size+1) 4)=some (Z x.z):=(by rw [aA aa];rfl)
   have bj:=lH (fK A);have bg:=lH (BL A);have bn:=bb.o (o[j]).1;have bm:=bi.o _ (BL A);generalize o[j]=y at*;obtain ⟨af,B⟩:=y;dsimp only [Nat.add_zero] at y0 y1 y2 y3 bn bm;clear ad aa;have u:Hid (¬(af=gJ x/\0<=x.a/\1<=x.z/\x.z<=B/\x.a<=B - x.z)->∀y∈o.take (j+1),¬(y.1=gJ x/\0<=x.a/\1<=x.z/\x.z<=y.2/\x.a<=y.2 - x.z)):=λbo z V=>by
    rw [bj.o] at V;rcases BN.1 V with V|V;{exact am.o z V};{rw [BB.1 V];exact bo}
   have J:Hid ((af=gJ x/\0<=x.a/\1<=x.z/\x.z<=B/\x.a<=B - x.z)->oU o x):=λh=>⟨_,bg,h⟩;have E:Hid (decide (af=(x.c,x.l,x.n))=true↔af=gJ x):=JQ;generalize decide (af=(x.c,x.l,x.n))=bt at*;(cases bt with|false=>{have r:=lH (u.o (λh=>(by have:=E.o.2 h.1;cases this)));clear u J E;go_wp2_with fail;refine bU [43] ?_ ab;go_wp2_with fail;go_roundw;{exact ⟨j+1,by go_num,A,r,lH H.o.drew⟩};simp [intOf];omega}|true=>by_cases ai:0<=x.a;rotate_left 1;{have r:=lH (u.o (λh=>ai h.2.1));have bc:=lH (BF ai);clear u J E;go_wp2_with fail;have D1:=bc;refine bU [43] ?_ ab;go_wp2_with fail;go_roundw;{exact ⟨j+1,by go_num,A,r,lH H.o.drew⟩};simp [intOf];omega};by_cases aj:1<=x.z;rotate_left 1;{have r:=lH (u.o (λh=>aj h.2.2.1));have bd:=lH (BF aj);clear u J E;go_wp2_with fail;have D1:=bd;refine bU [43] ?_ ab;go_wp2_with fail;go_roundw;{exact ⟨j+1,by go_num,A,r,lH H.o.drew⟩};simp [intOf];omega};by_cases ak:x.z<=B;rotate_left 1;{have r:=lH (u.o (λh=>ak h.2.2.2.1));have be:=lH (BF ak);clear u J E;go_wp2_with fail;have D1:=be;refine bU [43] ?_ ab;go_wp2_with fail;go_roundw;{exact ⟨j+1,by go_num,A,r,lH H.o.drew⟩};simp [intOf];omega};by_cases al:x.a<=B - x.z;rotate_left 1;{have r:=lH (u.o (λh=>al h.2.2.2.2));have bp:IntKind.i64.wrap (B - x.z)=B - x.z:=(by rw [BG];omega);have bf:=lH (BF al);clear u J E;go_wp2_with fail;have D1:=bf;refine bU [43] ?_ ab;go_wp2_with fail;go_roundw;{exact ⟨j+1,by go_num,A,r,lH H.o.drew⟩};simp [intOf];omega};{have r:=lH (J.o ⟨E.o.1 rfl,ai,aj,ak,al⟩);have bp:IntKind.i64.wrap (B - x.z)=B - x.z:=(by rw [BG];omega);clear u J E;go_wp2_with fail;refine bU [43] ?_ ab;exact aC (an.o true _ ⟨λ_=>r.o,λ_=>rfl⟩ Q.o.drew)})
  {(obtain rfl:j=o.length:=by omega);have br:=DY (o.length:Int);have r:Hid (¬oU o x):=λ⟨y,bq,e⟩=>am.o y (by rw [AY];exact bq) e;exact aC (an.o false _ ⟨λh=>(by cases h),λh=>absurd h r⟩ Q.o)}
theorem aDw (s fv F o x w) (ao:w.cell? (I s 11)=some fv) (az:aJ nD 2 w fv o) (bv:o.length<=200) (ar:∀y∈o,∃m,F y.1=some m/\rC w y.2 m) (ag:Short F) (V:∀i m,F i=some m->eQ m):
  Calls prog 301 #[Y s,.agg (cS x)] w (bD (Z (lN F (o.map (·.1)) o.length x)) w):=by
 obtain ⟨base,cap,rfl,aw⟩:=az.rd;have bl:Hid (∀w',Fr No w w'->bD (Z (lN F (o.map (·.1)) o.length x)) w (.returned (Z (lN F (o.map (·.1)) o.length x))) w'):=λw' f=>bD.mk f;generalize bD _ w=cf at*;have af:Fr No w (w.alloc (.cells (cS x) 46)):=(Fr.refl w).alloc _;have bq:=lH (aQ w (.cells (cS x) 46));have bc:=lH (af.cell_of ao id);have bg:=lH (λy=>Df y x);have bm:=lH aw;have bd:=lH af;have bj:=lH ar;have bf:=lH (λk=>aAd ag V (o.map (·.1)) k x);have bo:=lH (λi=>J6 ag V i);have bh:=lH V;clear ao az aw af ar ag V;go_enter func301,ntmps301;go_wp2_with fail;generalize bw:w.alloc _=w0 at*;clear bw;go_loopw [5,6] (λn a wr=>∃j:Nat,a=Z j/\j<=o.length/\n=Z (lN F (o.map (·.1)) j x)/\Hid (Fr No w0 wr)) (λ_ a _=>o.length - (intOf a).toNat);case atStart=>exact ⟨0,rfl,BA _,by rw [aFW],lH (Fr.refl _)⟩
 case round=>
  obtain ⟨j,rfl,cl,rfl,ae⟩:=hrel;have ad:=lH (bd.o.trans ae zq);have ci:=ae.o.cell_of bc id;by_cases Q:j<o.length
  ·obtain ⟨b,off,rfl,A⟩:=bm.o.at_ j Q;have bz:=CY.2 Q;have cw:=CB j;have y1:=ad.o.cell_of (A 1 _ rfl) id;obtain ⟨m,aa,au⟩:=bj.o o[j] (BL Q);have bk:Hid (lN F (o.map (·.1)) (j+1) x=lN F (o.map (·.1)) j x+dX (ptrs m) x):=lH (by
    have br:j<(o.map (·.1)).length:=(by rw [EP];exact Q);rw [aDz F br x];have an:(o.map (·.1))[j]=(o[j]).1:=(by rw [List.getElem_map])
    rw [an];unfold rD;rw [aa])
   (have ah:(ptrs m).length<=64/\∀p∈ptrs m,0<=p.z/\p.z<=64:=by{have:=bo.o (o[j]).1;unfold rD at this;rw [aa] at this;exact this});(have co:m.l.length<=1000:=by{have:=bh.o _ m aa;have an:=this.1;rw [this.2];unfold dA;omega});have al:=lH (Lu (o[j]).2 m wr (au.no ad) X);generalize o[j]=y at*;obtain ⟨dc,dd⟩:=y;dsimp only at y1 al;have bu:=bf.o j;have ck:(o.map (·.1)).length<=200:=(by rw [EP];exact bv);have bi:=lH (λk=>aFP ah.2 ah.1 k x);generalize ptrs m=r at*;generalize lN F _ j x=u at*;obtain ⟨cp,ay⟩:=ah;have bp:=lH ay;have cj:0<=u/\u<=1000000:=X;clear A aa au ay bu;obtain ⟨bb,rfl⟩:∃bb:World,bb=wr:=⟨wr,rfl⟩;go_wp2_with fail;refine al.o.mono ?_;rintro e cb ⟨cy,rfl,av,am⟩;obtain ⟨cg,c2,rfl,ax⟩:=av.any.rd;have bn:=lH ax;have be:=lH am;clear av ax am;go_wp2_with fail;go_loopw [5,8] (λn a wr=>∃k:Nat,a=Z k/\k<=r.length/\n=Z (u+dX (r.take k) x)/\Hid (Fr No cb wr)) (λ_ a _=>r.length - (intOf a).toNat);(case atStart=>exact ⟨0,rfl,BA _,by simp [dX],lH (Fr.refl _)⟩);(case round=>obtain ⟨k,rfl,cm,rfl,B⟩:=hrel;have ai:=lH ((ae.o.trans be zq).trans B zq);by_cases E:k<r.length;{obtain ⟨ch,cv,rfl,A⟩:=bn.o.at_ k E;have ca:=CY.2 E;have cx:=CB k;have z0:=B.o.cell_of (A 0 _ rfl) id;have cc:=B.o.cell_of (A 1 _ rfl) id;have cd:=B.o.cell_of (A 2 _ rfl) id;have ce:=B.o.cell_of (A 4 _ rfl) id;have ab:=ai.o.aB bq id;have cz:wr.cell? (I w 0)=some (Z x.1):=(by rw [aA ab];rfl);have da:wr.cell? (I w 1)=some (Z x.2.1):=(by rw [aA ab];rfl);have db:wr.cell? (I w 2)=some (Z x.2.2):=(by rw [aA ab];rfl);have aq:=aF4 E x;have cn:=bi.o k;have cu:=bp.o _ (BL E);have ap:=bg.o (gJ r[k]);generalize r[k]=p at*;unfold gJ at ap;dsimp only [Nat.add_zero] at z0 cc cd ce ap;have aj:Hid (decide ((p.c,p.l,p.n)=x)=true↔gJ p=x):=JQ;generalize decide ((p.c,p.l,p.n)=x)=bx at*;generalize bt:dX (r.take k) x=H at*;have ak:=lH aq;clear A ab aq bt;(cases bx with|true=>have J:Hid (u+dX (r.take (k+1)) x=u+H+p.z):=lH (by rw [ak.o,AL (aj.o.1 rfl)];omega);have ct:IntKind.i64.wrap (u+H+p.z)=u+H+p.z:=(by rw [BG];omega);go_wp2_with fail;go_region;(all_goals go_wp2_with fail;go_roundw;{exact ⟨k+1,by go_num,E,by rw [J.o],lH B.o.drew⟩};simp [intOf];omega)|false=>have J:Hid (u+dX (r.take (k+1)) x=u+H):=lH (by rw [ak.o,AA (λe=>(by have:=aj.o.2 e;cases this))];omega);go_wp2_with fail;go_region;(all_goals go_wp2_with fail;go_roundw;{exact ⟨k+1,by go_num,E,by rw [J.o],lH B.o.drew⟩};simp [intOf];omega))};{(obtain rfl:k=r.length:=by omega);have ca:=DY (r.length:Int);have J:Hid (lN F (o.map (·.1)) (j+1) x=u+dX (r.take r.length) x):=lH (by rw [bk.o,AY]);generalize dX _ x=H at*;go_wp2_with fail;go_roundw;{exact ⟨j+1,by go_num,Q,by rw [J.o],ai⟩};simp [intOf];omega})
  {(obtain rfl:j=o.length:=by omega);have bz:=DY (o.length:Int);exact aC (bl.o _ ad.o)}
def dO (nb:Nat) (w:World) (q:Nat):Prop:=∃v L e,w.heap[q]? =some (.cells #[v,Z e] 327 (0,0))/\aJ dB 1 w v L/\L.length<=100000/\∃b k,v=.slice b L.length k/\L.length<=k/\∀a:Addr,b=some a->a.block<nb
theorem dO.no {o w w' q} (h:dO o w q) (f:Fr No w w'):dO o w' q:=by
 obtain ⟨v,L,e,r,u,A⟩:=h;exact ⟨v,L,e,f.aB r id,u.no f,A⟩
theorem aJ.eye {w w' q v u} {L bs:List UInt8} {e:Int} (h:aJ dB 1 w v bs) (A:∃b n k,u=.slice b n k) (af:w.heap[q]? =some (.cells #[u,e] 327 (0,0))) (f:Fr (λk=>k=q) w w'):aJ dB 1 w' v bs:=by
 obtain ⟨base,cap,e0,ab⟩:=h;refine ⟨base,cap,e0,λE=> ?_⟩;obtain ⟨b,off,J,Q,V,B⟩:=ab E;have ad:b≠q:=λaa=>by
  subst aa;obtain ⟨y,ai,rfl⟩:=MZ E;have o:=B 0 y rfl 0 _ rfl;rw [aA af] at o;obtain ⟨H,ah,ag,rfl⟩:=A;rcases (show off+0*1+0=0\/off+0*1+0=1\/2<=off+0*1+0 by omega) with r|r|r;{rw [r] at o;cases o};{rw [r] at o;cases o};{rw [CJ (show (#[(Value.slice H ah ag),e]:Array Value).size<=off+0*1+0 from r)] at o;cases o}
 exact ⟨b,off,J,Q,AP V f.size,λj y ae i u A=>f.cell_of (B j y ae i u A) ad⟩
theorem dO.err {u w q v L} {e:Int} (o:w.heap[q]? =some (.cells #[v,e] 327 (0,0))) (r:aJ dB 1 w v L) (A:L.length<=100000/\∃b k,v=.slice b L.length k/\L.length<=k/\∀a:Addr,b=some a->a.block<u) (e'):
  dO u (w.setCell (I q 1) (Z e')) q/\Fr (λk=>k=q) w (w.setCell (I q 1) (Z e')):=by
 have f:=dZ w q 1 (Z e');obtain ⟨b,c,B⟩:=r.slice;exact ⟨⟨v,L,e',by simpa using setCell_at o 1 (Z e'),aJ.eye (L:=L) r ⟨b,_,c,B⟩ o f,A⟩,f⟩
def lX (nb:Nat) (w:World) (q:Nat) (R:Value->Prop) (e:Ending) (w':World):Prop:=(∃v,e=.returned v/\R v)/\Fr (λk=>k=q) w w'/\dO nb w' q
theorem Tm (o q k w) (h:dO o w q):Calls prog 269 #[Y q,Z k] w (lX o w q λ_=>True):=by
 have J:=lH h;obtain ⟨v,L,e,r,E,H⟩:=h;have B:Hid (∀v w',Fr (λk=>k=q) w w'->dO o w' q->lX o w q (λ_=>True) (.returned v) w'):=λv w' f h=>⟨⟨v,rfl,trivial⟩,f,h⟩;have A:=lH (dO.err r E H k);generalize lX o w q (λ_=>True)=Q at*;(have V:w.cell? (I q 1)=some (Z e):=by rw [aA r];rfl);have aa:=aU r 1;clear r E H;by_cases u:e=0;{subst u;go_enter func269,ntmps269;go_wp2_with fail;go_end0;exact B.o _ _ A.o.2 A.o.1};{have ab:=u;(have ad:(e==0)=false:=by simpa using u);clear u;go_enter func269,ntmps269;go_wp2_with fail;go_end0;exact B.o _ _ (Fr.refl w) J.o}
theorem aBt (H q w) (h:dO H w q):Calls prog 271 #[Y q] w λe w'=>∃k,e=.returned (Z k)/\w'=w:=by
 obtain ⟨v,L,e,r,B,E⟩:=h;obtain ⟨_,b,cap,rfl,_⟩:=E;have o:Hid (∀k,(λe w'=>∃k,e=Ending.returned (Z k)/\w'=w) (.returned (Z k)) w):=λk=>⟨k,rfl,rfl⟩;generalize (λe w'=>∃k,e=Ending.returned _/\w'=w)=J at*;(have V:w.cell? (I q 1)=some (Z e):=by rw [aA r];rfl);(have Q:w.cell? (I q 0)=some (.slice b L.length cap):=by rw [aA r];rfl);clear r B;by_cases u:e=0;{subst u;by_cases aa:0<L.length;{(have A:(0:Int)<(L.length:Int):=X);go_enter func271,ntmps271;go_wp2_with fail;exact o.o _};{(have A:¬(0:Int)<(L.length:Int):=X);go_enter func271,ntmps271;go_wp2_with fail;exact o.o _}};{have A:=u;clear u;go_enter func271,ntmps271;go_wp2_with fail;exact o.o _}
