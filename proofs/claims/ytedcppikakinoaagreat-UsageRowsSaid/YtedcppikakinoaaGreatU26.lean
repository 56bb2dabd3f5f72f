/- Part of a proof. -/
import Derived.Test.YtedcppikakinoaaGreatU24
import Derived.Test.YtedcppikakinoaaGreatU25
set_option linter.unusedSimpArgs false
set_option linter.unusedVariables false
set_option maxRecDepth 100000
set_option maxHeartbeats 12800000
namespace Go.Proofs.YtedcppikakinoaaGreat
open Go.Proofs.Tryz Go.RowKit Go.Lib
def Ag (w:World) (k:Nat) (x:Int×Nat×List Tok) (e:Ending) (w':World):Prop:=e=.returned (.tuple #[x.2.1,x.1])/\((x.1≠0/\Fr No w w')\/(x.1=0/\Fr (λj=>j=k) w w'/\sW w w' k x.2.2))
section
variable {α:Type} {c:α->List Value} {n:Nat} {t sl:TypeId}
theorem Dj {ops rest o a w u} (T:iW c n t sl) (ad:o.guard=none) (s x) (af:o.op=.call {callee:=.builtin .append,args:= #[s,x],argTypes:= #[sl,sl]}) (base v L y) (ag:a.eval s=v) (H:Own c n t w base v L) (b) (ai:a.eval x=.slice (some (I b 0)) 1 1) (J cs) (V:w.heap[b]? =some (.cells cs t J)) (ab:cs.toList=c y) (al:L.length<=1000000) (w0) (E:Fr No w0 w) (A:w0.heap.size=base) (h:∀g cap w',Own c n t w' base (O g (L++ [y]).length cap) (L++ [y])->Fr No w0 w'->w.grownBy w' v.ownBlock->wpList prog ops u rest (a.put o.dst (O g (L.length+1) cap)) w'):wpList prog ops u (o::rest) a w:=by
 obtain ⟨i,z,ae,aj,ah,ak,aa⟩:=T.info;refine wpList_append_lies w ad s x sl af base t i z n i.bytes T.sl ae aj ah rfl ak T.pos v L.length (L.flatMap c) ag H (I b 0) 1 1 (c y) ai (by rw [T.len,Nat.one_mul]) ?_ (T.one y) G (by unfold maxLen;omega) ?_ (by rw [<-A];exact E.size) w rfl ?_;{intro j am r;(have:(Addr.mk b 0 none).add j=(I b (0+j)):=by unfold Addr.add;split<;>simp_all);rw [this,BP,aA V,<-CV,ab];exact r};{have:=Nat.mul_le_mul (show L.length+1<=1000001 by omega) aa;omega};{intro g cap w' Q B _ _;refine h g cap w' ?_ (E.grown B (λj r=> .inr ?_)) B;{unfold Own;rw [EX,AB];simpa using Q};{rw [A];exact yU H j r}}
theorem Own.not {w r:World} {base v L} (h:Own c n t w base v L) {o} (A:∀u,r.grownBy u v.ownBlock->r.heap[w.heap.size]? =some o->u.heap[w.heap.size]? =some o):True:=trivial
theorem Hq {w w':World} {row k r} (u:w.grownBy w' row) (o:w.heap[k]? =some r) (A:row≠some k):w'.heap[k]? =some r:=
 (u.block k (lt_of_block o) (λe=>A e.symm)).trans o
theorem Own.far {w base v L} (h:Own c n t w base v L) {k} (r:w.heap.size<=k):v.ownBlock≠some k:=by
 intro e;obtain ⟨_,⟨rfl,_⟩|⟨g,cap,u,rfl,_,o,_⟩⟩:=h;{cases e};{cases e;have A:=lt_of_block o;have B:w.heap.size<=g:=r;omega}
end
theorem aE9 (k) (c i:Int) (r:Bool) (L w) (ee:sO w k L) (dk:lF L) (dl:∀x∈L,small x) (fa:L.length<=1000) (eb:0<=c/\c<4) (ec:2<=i/\i<=128):
  Calls prog 280 #[Y k,c,i,r] w (Ag w k (eY L c i r)):=by
 obtain ⟨v,ck,di⟩:=ee;obtain ⟨base,cap,rfl,dj⟩:=di.rd;have au:=lH (aBo (c:=c) dk dl);have br:Hid (eY L c i r=if 4<=fU L c then (5,0,L) else if L.any (λx=>x.i==i&&(r||x.wr)) then (8,0,L) else (0,fU L c,L.takeWhile (λx=>decide (0<kG ⟨c,fU L c,i,r⟩ x))++⟨c,fU L c,i,r⟩::L.dropWhile (λx=>decide (0<kG ⟨c,fU L c,i,r⟩ x)))):=lH rfl;have ce:Hid (∀h w',eY L c i r=(h,0,L)->h≠0->Fr No w w'->Ag w k (eY L c i r) (.returned (.tuple #[Z 0,h])) w'):=λh w' bi dy f=>by
  rw [bi];exact ⟨rfl,.inl ⟨dy,f⟩⟩
 have cz:Hid (∀w' M (h:Nat),eY L c i r=(0,h,M)->Fr (λj=>j=k) w w'->sW w w' k M->Ag w k (eY L c i r) (.returned (.tuple #[h,Z 0])) w'):=λw' M h bi f g=>by
  rw [bi];exact ⟨rfl,.inr ⟨rfl,f,g⟩⟩
 have cv:=lH (λh=>Qk (L:=L) (c:=c) h);generalize Ag w k _=ek at*;generalize eY L c i r=cg at*;have du:w.cell? (I k 0)=some (.slice base L.length cap):=aA ck _;have cf:=lH ck;have da:=lH dj;obtain ⟨et,eu⟩:=eb;obtain ⟨ex,ez⟩:=ec;(have fc:¬c<0:=X);(have fd:¬4<=c:=X);(have fe:¬i<2:=X);(have ff:¬128<i:=X);clear ck di dj dk dl;go_enter func280,ntmps280;go_wp2_with fail;go_loopw [10,11,12,13] (λm b h a wr=>∃(j A o:Nat) (ak:Bool),a=Z j/\m=Z A/\h=Z o/\b=.bool ak/\j<=L.length/\A<=j/\o<=j/\Hid (nD c (L.take j) (0,0)=(A,o))/\Hid (ak=(L.take j).any λx=>x.i==i&&(r||x.wr))/\wr=w) (λ_ _ _ a _=>L.length - (intOf a).toNat);case atStart=>exact ⟨0,0,0,false,rfl,rfl,rfl,rfl,BA _,AU _,AU _,lH (by simp [nD]),lH D,rfl⟩
 case round=>
  obtain ⟨j,A,o,ak,rfl,rfl,rfl,rfl,ed,fb,ew,bq,bn,rfl⟩:=hrel;by_cases u:j<L.length
  ·obtain ⟨b,off,rfl,am⟩:=da.o.at_ j u;have ef:(j:Int)<(L.length:Int):=X;have dn:(0:Int)<=(j:Int):=X
   have ab:Hid (nD c (L.take (j+1)) (0,0)=if (L[j]).c=c then (A+1,if (L[j]).h=(o:Int) then o+1 else o) else (A,o)):=lH (by
    rw [fE u,Rt,bq.o];show nD c [] (if (L[j]).c=c then _ else _)=_;unfold nD;rfl)
   have V:Hid (((L.take (j+1)).any λx=>x.i==i&&(r||x.wr))=(ak||((L[j]).i==i&&(r||(L[j]).wr)))):=lH (by
    rw [fE u,List.any_append,<-bn.o];simp)
   have e0:=am 0 _ rfl;have dw:=am 1 _ rfl;have ch:=am 2 _ rfl;have dx:=am 3 _ rfl;generalize L[j]=y at*;obtain ⟨Q,H,B,J⟩:=y;dsimp only [Nat.add_zero] at e0 dw ch dx ab V;clear am bq bn;by_cases cm:Q=c;{subst cm;by_cases cn:H=(o:Int);{subst cn;(cases ak with|true=>{go_wp2_with fail;go_roundw;{exact ⟨j+1,A+1,o+1,true,by go_num,by go_num,by go_num,by trivial,u,by omega,by omega,lH (by rw [ab.o,AL rfl,AL rfl]),lH (by rw [V.o];rfl),by trivial⟩};simp [intOf];omega}|false=>by_cases af:B=i;{subst af;(cases r with|true=>{go_wp2_with fail;go_roundw;{exact ⟨j+1,A+1,o+1,true,by go_num,by go_num,by go_num,by trivial,u,by omega,by omega,lH (by rw [ab.o,AL rfl,AL rfl]),lH (by rw [V.o];simp),by trivial⟩};simp [intOf];omega}|false=>{go_wp2_with fail;go_roundw;{exact ⟨j+1,A+1,o+1,J,by go_num,by go_num,by go_num,by trivial,u,by omega,by omega,lH (by rw [ab.o,AL rfl,AL rfl]),lH (by rw [V.o];simp),by trivial⟩};simp [intOf];omega})};{(have bk:(B==i)=false:=by simpa using af);have aw:=af;go_wp2_with fail;go_roundw;{exact ⟨j+1,A+1,o+1,false,by go_num,by go_num,by go_num,by trivial,u,by omega,by omega,lH (by rw [ab.o,AL rfl,AL rfl]),lH (by rw [V.o,bk];rfl),by trivial⟩};simp [intOf];omega})};{(have eg:(H==(o:Int))=false:=by simpa using cn);have al:=cn;(cases ak with|true=>{go_wp2_with fail;go_roundw;{exact ⟨j+1,A+1,o,true,by go_num,by go_num,by go_num,by trivial,u,by omega,by omega,lH (by rw [ab.o,AL rfl,AA al]),lH (by rw [V.o];rfl),by trivial⟩};simp [intOf];omega}|false=>by_cases af:B=i;{subst af;(cases r with|true=>{go_wp2_with fail;go_roundw;{exact ⟨j+1,A+1,o,true,by go_num,by go_num,by go_num,by trivial,u,by omega,by omega,lH (by rw [ab.o,AL rfl,AA al]),lH (by rw [V.o];simp),by trivial⟩};simp [intOf];omega}|false=>{go_wp2_with fail;go_roundw;{exact ⟨j+1,A+1,o,J,by go_num,by go_num,by go_num,by trivial,u,by omega,by omega,lH (by rw [ab.o,AL rfl,AA al]),lH (by rw [V.o];simp),by trivial⟩};simp [intOf];omega})};{(have bk:(B==i)=false:=by simpa using af);have aw:=af;go_wp2_with fail;go_roundw;{exact ⟨j+1,A+1,o,false,by go_num,by go_num,by go_num,by trivial,u,by omega,by omega,lH (by rw [ab.o,AL rfl,AA al]),lH (by rw [V.o,bk];rfl),by trivial⟩};simp [intOf];omega})}};{(have eg:(Q==c)=false:=by simpa using cm);have al:=cm;(cases ak with|true=>{go_wp2_with fail;go_roundw;{exact ⟨j+1,A,o,true,by go_num,by go_num,by go_num,by trivial,u,by omega,by omega,lH (by rw [ab.o,AA al]),lH (by rw [V.o];rfl),by trivial⟩};simp [intOf];omega}|false=>by_cases af:B=i;{subst af;(cases r with|true=>{go_wp2_with fail;go_roundw;{exact ⟨j+1,A,o,true,by go_num,by go_num,by go_num,by trivial,u,by omega,by omega,lH (by rw [ab.o,AA al]),lH (by rw [V.o];simp),by trivial⟩};simp [intOf];omega}|false=>{go_wp2_with fail;go_roundw;{exact ⟨j+1,A,o,J,by go_num,by go_num,by go_num,by trivial,u,by omega,by omega,lH (by rw [ab.o,AA al]),lH (by rw [V.o];simp),by trivial⟩};simp [intOf];omega})};{(have bk:(B==i)=false:=by simpa using af);have aw:=af;go_wp2_with fail;go_roundw;{exact ⟨j+1,A,o,false,by go_num,by go_num,by go_num,by trivial,u,by omega,by omega,lH (by rw [ab.o,AA al]),lH (by rw [V.o,bk];rfl),by trivial⟩};simp [intOf];omega})}
  ·(obtain rfl:j=L.length:=by omega);have ef:¬(L.length:Int)<(L.length:Int):=X;have ab:Hid (nD c L (0,0)=(A,o)):=lH (by have:=bq.o;rwa [AX] at this);have V:Hid (ak=L.any λx=>x.i==i&&(r||x.wr)):=lH (by have:=bn.o;rwa [AX] at this);have au:Hid ((4<=A↔4<=fU L c)/\(fU L c<4->o=fU L c)):=lH (by have:=au.o;rwa [ab.o] at this);clear bq bn;by_cases ci:4<=A;{have av:Hid (cg=(5,0,L)):=lH (by rw [br.o,AL (au.o.1.1 ci)]);have dn:(4:Int)<=(A:Int):=X;go_wp2_with fail;exact ce.o 5 _ av G (Fr.refl _)}
   ·have bx:¬4<=fU L c:=λh=>ci (au.o.1.2 h);have dn:¬(4:Int)<=(A:Int):=X
    cases ak with
    | true=>
     have av:Hid (cg=(8,0,L)):=lH (by rw [br.o,AA bx,AL V.o.symm]);clear bx;go_wp2_with fail;exact ce.o 8 _ av G (Fr.refl _)
    | false=>
     obtain ⟨ap,rfl⟩:∃ap:World,ap=wr:=⟨wr,rfl⟩;have dg:=au.o.2 X;have ev:o<4:=X
     have av:Hid (cg=(0,o,iK (oD c o) ⟨c,o,i,r⟩ L)):=lH (by
      have dz:=cv.o X;rw [br.o,AA bx,AA (by rw [<-V.o];simp),Wi (λx bi e ch=>dz x bi ⟨e,ch⟩),<-dg])
     obtain ⟨E,ca⟩:∃E:World,E=ap.alloc (.cells #[c,o,i,r] 329):=⟨_,rfl⟩;have dm:E.heap[ap.heap.size]? =some (.cells #[c,o,i,r] 329 (0,0)):=(by rw [ca];exact AQ ap _);have dt:=lH dm;have bm:Hid (Fr No ap E):=lH (by rw [ca];exact (Fr.refl _).alloc _);have db:=lH bm.o.size;clear dm bx dg ci au br V ab cv ce;go_wp2_with fail;rw [<-ca];clear ca;go_loopw [15,16,17] (λv p a wr=>∃(j:Nat) (ag:Bool) (M:List Tok),a=Z j/\p=.bool ag/\j<=L.length/\Hid (gI (oD c o) (⟨c,o,i,r⟩:Tok) L j ag M)/\M.length<=j+ag.toNat/\Hid (Own cO 4 329 wr E v M)/\Hid (Fr No E wr)) (λ_ _ a _=>L.length - (intOf a).toNat);case atStart=>exact ⟨0,false, [],rfl,rfl,BA _,lH gI.start,by simp,lH Own.nil,lH (Fr.refl _)⟩
     (case round=>obtain ⟨j,ag,M,rfl,rfl,ed,ar,cj,bb,bo⟩:=hrel;obtain ⟨a,em,rfl⟩:=bb.o.shape;have bp:=lH (bm.o.trans bo zq);have dv:=bp.o.cell_of du id;have bt:=lH (bo.o.aB dt id);by_cases u:j<L.length;{obtain ⟨dd,off,rfl,am⟩:=da.o.at_ j u;have eh:(j:Int)<(L.length:Int):=X;have fg:(0:Int)<=(j:Int):=X;have bu:Hid (wr.rangeAt dd (off+j*4) (cO L[j])):=λi ei hu=>bp.o.cell_of (am i ei hu) id;(have cw:Hid (ag=false->oD c o (L[j])=true->gI (oD c o) (⟨c,o,i,r⟩:Tok) L (j+1) true ((M++ [(⟨c,o,i,r⟩:Tok)])++ [L[j]])):=λe bf=>by subst e;exact ar.o.first u bf);(have cx:Hid (ag=false->oD c o (L[j])=false->gI (oD c o) (⟨c,o,i,r⟩:Tok) L (j+1) false (M++ [L[j]])):=λe bf=>by subst e;exact ar.o.skip u bf);(have dq:Hid (ag=true->gI (oD c o) (⟨c,o,i,r⟩:Tok) L (j+1) true (M++ [L[j]])):=λe=>by subst e;exact ar.o.later u);generalize L[j]=y at*;obtain ⟨Q,H,B,J⟩:=y;unfold cO at bu;dsimp only [Nat.add_zero] at bu;clear am ar;obtain ⟨aa,cb⟩:∃aa:World,aa=wr.alloc (.cells #[Q,H,B,J] 329):=⟨_,rfl⟩;have aw:aa.heap[wr.heap.size]? =some (.cells #[Q,H,B,J] 329 (0,0)):=(by rw [cb];exact AQ wr _);have ay:Hid (Fr No wr aa):=lH (by rw [cb];exact (Fr.refl _).alloc _);have dc:=lH aw;have y0:=aA aw;have ej:Hid (aa.rangeAt ap 0 [c,o,i,r]):=rF (ay.o.aB bt id);have bd:=lH (bb.o.no ay);have az:=lH (bo.o.trans ay zq);have cu:=lH (bb.o.far (AU _));clear aw;go_upto_region 25 with (refine EQ R 329 _ R dd (off+j*4) R [Q,H,B,J] _ bu underlying329 rfl Tryz.Lu ?_);rw [<-cb];clear cb bu dv;generalize er:wr.heap.size=el at*;(cases ag with|true=>{rw [DI] at cj;have aj:=lH (dq.o rfl);go_wp2_with (at_builtin;(refine gG pK R _ _ R E _ M (⟨Q,H,B,J⟩:Tok) R (bd.o.alloc _) aa R (0,0) #[Q,H,B,J] (AQ aa _) R (by first|omega|(simp only [AB,AO];omega)) E (az.o.alloc _) R ?_));intro bw bv cc ae ad;have ai:=lH ae;have ah:=lH ad;clear ae ad;go_wp2_with fail;go_roundw;{exact ⟨j+1,true,M++ [(⟨Q,H,B,J⟩:Tok)],by go_num,by trivial,u,aj,by simp only [AB,AO,DI,CZ];omega,ai,ah⟩};simp [intOf];omega}|false=>rw [CZ] at cj;by_cases bf:c<Q;{have aj:=lH (cw.o rfl (by simp [oD,bf]));have bj:=ay.o.aB bt id;have dp:=aA bj;clear bj;go_wp2_with (at_builtin;(refine Dj pK R _ _ R E _ M (⟨c,o,i,r⟩:Tok) R (bd.o.alloc _) aa R (0,0) #[c,o,i,r] (AQ aa _) R (by first|omega|(simp only [AB,AO];omega)) E (az.o.alloc _) R ?_));intro df de ax ao an bh;have bl:=(Hq bh (((Fr.refl aa).alloc (S:=No) _).aB dc id) cu);have z0:=aA bl;clear bl;have dh:(M++ [(⟨c,o,i,r⟩:Tok)]).length=M.length+1:=(by rw [AB,AO]);generalize M++ [(⟨c,o,i,r⟩:Tok)]=be at*;have bc:=lH ao;have aq:=lH an;clear ao an bh;go_wp2_with (at_builtin;(refine gG pK R _ _ R E _ be (⟨Q,H,B,J⟩:Tok) R (bc.o.alloc _) ax R (0,0) #[Q,H,B,J] (AQ ax _) R (by first|omega|(simp only [AB,AO];omega)) E (aq.o.alloc _) R ?_));intro bw bv cc ae ad;have ai:=lH ae;have ah:=lH ad;clear ae ad;go_wp2_with fail;go_roundw;{exact ⟨j+1,true,be++ [(⟨Q,H,B,J⟩:Tok)],by go_num,by trivial,u,aj,by simp only [AB,AO,DI,CZ];omega,ai,ah⟩};simp [intOf];omega};{by_cases bg:c=Q;{subst bg;by_cases ea:(o:Int)<H;{have aj:=lH (cw.o rfl (by simp [oD,ea]));have bj:=ay.o.aB bt id;have dp:=aA bj;clear bj;go_wp2_with (at_builtin;(refine Dj pK R _ _ R E _ M (⟨c,o,i,r⟩:Tok) R (bd.o.alloc _) aa R (0,0) #[c,o,i,r] (AQ aa _) R (by first|omega|(simp only [AB,AO];omega)) E (az.o.alloc _) R ?_));intro df de ax ao an bh;have bl:=(Hq bh (((Fr.refl aa).alloc (S:=No) _).aB dc id) cu);have z0:=aA bl;clear bl;have dh:(M++ [(⟨c,o,i,r⟩:Tok)]).length=M.length+1:=(by rw [AB,AO]);generalize M++ [(⟨c,o,i,r⟩:Tok)]=be at*;have bc:=lH ao;have aq:=lH an;clear ao an bh;go_wp2_with (at_builtin;(refine gG pK R _ _ R E _ be (⟨c,H,B,J⟩:Tok) R (bc.o.alloc _) ax R (0,0) #[c,H,B,J] (AQ ax _) R (by first|omega|(simp only [AB,AO];omega)) E (aq.o.alloc _) R ?_));intro bw bv cc ae ad;have ai:=lH ae;have ah:=lH ad;clear ae ad;go_wp2_with fail;go_roundw;{exact ⟨j+1,true,be++ [(⟨c,H,B,J⟩:Tok)],by go_num,by trivial,u,aj,by simp only [AB,AO,DI,CZ];omega,ai,ah⟩};simp [intOf];omega};{have aj:=lH (cx.o rfl (by simp [oD];omega));go_wp2_with (at_builtin;(refine gG pK R _ _ R E _ M (⟨c,H,B,J⟩:Tok) R (bd.o.alloc _) aa R (0,0) _ (AQ aa _) R (by first|omega|(simp only [AB,AO];omega)) E (az.o.alloc _) R ?_));intro bw bv cc ae ad;have ai:=lH ae;have ah:=lH ad;clear ae ad;go_wp2_with fail;go_roundw;{exact ⟨j+1,false,M++ [(⟨c,H,B,J⟩:Tok)],by go_num,by trivial,u,aj,by simp only [AB,AO,DI,CZ];omega,ai,ah⟩};simp [intOf];omega}};{have bg:¬Q=c:=λe=>bg e.symm;have fh:(Q==c)=false:=(U bg);have aj:=lH (cx.o rfl (by simp [oD,bg];omega));go_wp2_with (at_builtin;(refine gG pK R _ _ R E _ M (⟨Q,H,B,J⟩:Tok) R (bd.o.alloc _) aa R (0,0) _ (AQ aa _) R (by first|omega|(simp only [AB,AO];omega)) E (az.o.alloc _) R ?_));intro bw bv cc ae ad;have ai:=lH ae;have ah:=lH ad;clear ae ad;go_wp2_with fail;go_roundw;{exact ⟨j+1,false,M++ [(⟨Q,H,B,J⟩:Tok)],by go_num,by trivial,u,aj,by simp only [AB,AO,DI,CZ];omega,ai,ah⟩};simp [intOf];omega}})};{(obtain rfl:j=L.length:=by omega);have eh:¬(L.length:Int)<(L.length:Int):=X;have cl:=bp.o.aB cf id;have ds:=lH cl;have cy:=lH (AP (lt_of_block cf) bm.o.size);have eo:=aU cl 0;clear cl;have eq:M.length<=2000:=(by cases ag<;>simp at cj<;>omega);(cases ag with|true=>have cd:=lH (ar.o.put);go_wp2_with fail;obtain ⟨co,cp,ct⟩:=uK (bb.o.new pK) ds cy.o;exact cz.o _ _ o av (bp.o.bC.trans ct zq) ⟨_,co,by rw [<-cd.o];exact cp.le db⟩|false=>have cd:=lH (ar.o.Ae);have dp:=aA bt.o;go_wp2_with (at_builtin;(refine gG pK R _ _ R E _ M (⟨c,o,i,r⟩:Tok) R (bb.o.alloc _) wr R (0,0) _ (AQ wr _) R (by first|omega|(simp only [AB,AO];omega)) E (bo.o.alloc _) R ?_));intro df de ax ao an;have bc:=lH ao;have aq:=lH (bm.o.trans an zq);have bz:=aq.o.aB cf id;have dr:=lH bz;have ep:=aU bz 0;have en:=aA bz;have dh:(M++ [(⟨c,o,i,r⟩:Tok)]).length=M.length+1:=(by rw [AB,AO]);clear ao an bz;go_wp2_with fail;obtain ⟨co,cp,ct⟩:=uK (Own.new pK (L:=M++_) bc) dr cy.o;exact cz.o _ _ o av (aq.o.bC.trans ct zq) ⟨_,co,by rw [<-cd.o];exact cp.le db⟩)})
def Bf (F:Nat->Option cZ) (U:Stp->Option Us):Prop:=∀i m,F i=some m->∀p∈ptrs m,∃u,U (gV p)=some u/\p.a+p.z<=u.1
structure qO (S:St):Prop where
 tree:∀i m,S.F i=some m->∃x,S.T i=some x/\x.dir=false
 held:Bf S.F S.U
 live:∀x u,S.U x=some u->u.2.1=iI S.F x/\u.2.1≠0
theorem xZ {m p}:p∈ptrs m↔p∈m.l/\p≠aQ:=by
 unfold ptrs;rw [FC];simp
theorem Xg {m} (h:∀p∈m.l,dW p) {p} (A:p∈ptrs m):1<=p.z:=by
 obtain ⟨r,u⟩:=xZ.1 A;rcases h p r with o|o;{exact absurd o u};{omega}
theorem Xk {L} (h:∀p∈L,0<=p.z) (x):0<=eF L x:=by
 (induction L with|nil=>exact IY _|cons a r ih=>have o:=ih (λp u=>h p (BJ _ u));have A:=h a BL;unfold eF at o ⊢;rw [EW,GY];split<;>omega)
theorem aBx {L} (h:∀p∈L,1<=p.z) {p} (o:p∈L):0<eF L (gV p):=by
 (induction L with|nil=>cases o|cons a r ih=>{have A:=Xk (L:=r) (λq u=>by have:=h q (BJ _ u);omega) (gV p);have E:=h a BL;rcases CB.1 o with rfl|o;{unfold eF at A ⊢;rw [EW,GY,AL rfl];omega};{have B:=ih (λq u=>h q (BJ _ u)) o;unfold eF at B ⊢;rw [EW,GY];split<;>omega}})
theorem Zv {l:List Nat} {f:Nat->Int} (h:∀i∈l,0<=f i):0<=(l.map f).sum/\∀i∈l,f i<=(l.map f).sum:=by
 (induction l with|nil=>exact ⟨IY _,λi o=>by cases o⟩|cons a r ih=>{obtain ⟨A,u⟩:=ih (λi o=>h i (BJ _ o));have B:=h a BL;rw [EW,GY];refine ⟨by omega,λi o=> ?_⟩;rcases CB.1 o with rfl|o;{omega};{have:=u i o;omega}})
theorem aFn {F} (A:jQ F) (E:∀i m,F i=some m->1<=i/\i<=128/\eX m) {i m} (r:F i=some m) {p} (J:p∈ptrs m):0<iI F (gV p):=by
 have B:=aBx (λq u=>Xg (A i m r) u) J;have o:=(Zv (l:=List.range 129) (f:=λi=>match F i with
  | some m=>if (λ_:Int=>false) (i:Int)=true then 0 else eF (ptrs m) (gV p)
  | none=>0) (λj _=>by
   dsimp only;cases H:F j with
   | none=>exact IY _
   | some y=>
    dsimp only;rw [AA D];exact Xk (λq u=>by have:=Xg (A j y H) u;omega) _)).2 i (CJ.2 (by have:=E i m r;omega))
 dsimp only at o;rw [r] at o;dsimp only at o;rw [AA D] at o;unfold iI jU;exact Int.lt_of_lt_of_le B o
theorem aE8 {F G} (h:∀i,(match F i with|some m=>ptrs m|none=> [])=(match G i with|some m=>ptrs m|none=> [])) (x):iI F x=iI G x:=by
 unfold iI jU;refine BD List.sum (JF (λi _=> ?_));have o:=h i;(cases u:F i with|none=>rw [u] at o;(cases r:G i with|none=>rfl|some y=>rw [r] at o;dsimp only at o ⊢;rw [<-o];rfl)|some z=>rw [u] at o;(cases r:G i with|none=>rw [r] at o;dsimp only at o ⊢;rw [o];rfl|some y=>rw [r] at o;dsimp only at o ⊢;rw [o]))
theorem Oz {F U} (H:jQ F) (B:∀i m,F i=some m->1<=i/\i<=128/\eX m) (h:Bf F U):Bf F (iC F U)/\∀x o,iC F U x=some o->o.2.1=iI F x/\o.2.1≠0:=by
 constructor;{intro i m r p u;obtain ⟨o,hu,E⟩:=h i m r p u;have:=aFn H B r u;unfold iC;rw [hu];dsimp only;rw [AA X];exact ⟨_,rfl,E⟩};{intro x o hu;unfold iC at hu;split at hu;{cases hu};{split at hu;{cases hu};{rename_i A;cases hu;exact ⟨rfl,A⟩}}}
theorem Vj (c:Int):∀(o:List Sz) (U:Stp->Option Us) (y:Stp),(∀s∈o,s.1≠y)->jL c o U y=U y
 | [],_,_,_=>rfl
 | s::r,U,y,h=>by
  have u:=Vj c r (λz=>if z=s.1 then some (s.2,0,c) else U z) y (λt A=>h t (BJ _ A));refine u.trans ?_;rw [AA (λe=>h s BL e.symm)]
theorem Rf (S:St) (nx c l u:Int):∀(B:List Sz) (m o:Stp->Option Int) (U:Stp->Option Us),(∀y z,m y=some z->∃b,U y=some (z,b))->dU S nx c l B m=some o->∀y z,o y=some z->∃b,jL u B U y=some (z,b)
 | [],m,o,U,h,e,y,z,hy=>by cases e;exact h y z hy
 | x::r,m,o,U,h,e,y,z,hy=>by
  unfold dU at e;split at e
  ·refine Rf S nx c l u r _ o (λz=>if z=x.1 then some (x.2,0,u) else U z) (λy z A=> ?_) e y z hy;split at A
   ·cases A;rw [AL (by assumption)];exact ⟨_,rfl⟩
   ·rw [AA (by assumption)];exact h y z A
  ·cases e
theorem Pe (S:St) (nx c l:Int):∀(A:List Sz) (m u:Stp->Option Int),dU S nx c l A m=some u->∀s∈A,(S.U s.1).isSome=false
 | [],_,_,_,s,o=>by cases o
 | x::r,m,u,h,s,o=>by
  unfold dU at h;split at h
  ·rename_i B
   rcases CB.1 o with rfl|o
   ·exact B.2.1
   ·exact Pe S nx c l r _ u h s o
  ·cases h
theorem aBv {S sw nx o c l} (h:(dY S sw nx o c l).1=0) (r):(∀s∈o,(S.U s.1).isSome=false)/\∀y z,(dY S sw nx o c l).2 y=some z->∃b,jL r o S.U y=some (z,b):=by
 unfold dY at h ⊢;split at h;{cases h};{rename_i A;split at h;{cases h};{rename_i B;rw [AA A,AA B];split at h;{cases h};{rename_i m u;exact ⟨Pe S nx c l o _ m u,Rf S nx c l r o fP m S.U (λy z E=>by cases E) u⟩}}}
theorem Vf {L n p} (h:p∈gK L n):p∈L\/p=aQ:=by
 unfold gK at h;split at h;{exact .inl (FU h)};{rcases BM.1 h with h|h;{exact .inl h};{exact .inr (List.mem_replicate.1 h).2}}
theorem Qh {m d p} (h:p∈ptrs (bT m d)):p∈ptrs m\/p=d.t:=by
 unfold bT at h;split at h;{obtain ⟨u,A⟩:=xZ.1 h;unfold jO at u;split at u;{rcases KZ u with o|o;{rcases Vf o with r|r;{exact .inl (xZ.2 ⟨r,A⟩)};{exact absurd r A}};{exact .inr o}};{split at u;{rcases Vf u with r|r;{exact .inl (xZ.2 ⟨r,A⟩)};{exact absurd r A}};{rcases KZ u with o|o;{exact .inl (xZ.2 ⟨o,A⟩)};{exact .inr o}}}};{exact .inl h}
theorem U3:∀(A:List Dl) (m:cZ) (p:Pt),p∈ptrs (A.foldl bT m)->p∈ptrs m\/∃d∈A,p=d.t
 | [],_,_,h=> .inl h
 | d::r,m,p,h=>by
  rcases U3 r (bT m d) p h with o|⟨e,B,o⟩
  ·rcases Qh o with u|u
   ·exact .inl u
   ·exact .inr ⟨d,BL,u⟩
  ·exact .inr ⟨e,BJ _ B,o⟩
theorem Jv:∀(Q:List Dl) (F:Nat->Option cZ) (i:Nat) (m:cZ),(Q.foldl dO F) i=some m->∃A,F i=some A/\∀p∈ptrs m,p∈ptrs A\/∃d∈Q,p=d.t
 | [],_,_,m,h=>⟨m,h,λ_ o=> .inl o⟩
 | d::r,F,i,m,h=>by
  obtain ⟨J,u,aa⟩:=Jv r (dO F d) i m h;have key:∃A,F i=some A/\∀p∈ptrs J,p∈ptrs A\/p=d.t:=by
   unfold dO at u;cases H:F d.i.toNat with
   | some y=>
    rw [H] at u;dsimp only at u;rcases zG u with ⟨e,V⟩|u
    ·rw [e];exact ⟨y,H,λp o=>by rw [V] at o;exact Qh o⟩
    ·exact ⟨J,u,λ_ o=> .inl o⟩
   | none=>
    rw [H] at u;exact ⟨J,u,λ_ o=> .inl o⟩
  obtain ⟨A,ab,ad⟩:=key;refine ⟨A,ab,λp o=> ?_⟩;rcases aa p o with B|⟨e,ae,B⟩
  ·rcases ad p B with E|E
   ·exact .inl E
   ·exact .inr ⟨d,BL,E⟩
  ·exact .inr ⟨e,BJ _ ae,B⟩
theorem Yz {S sw nx u c l} (B:(dY S sw nx u c l).1=0) (h:Bf S.F S.U) (A) {F'} (J:∀i m,F' i=some m->∀p∈ptrs m,(∃j r,S.F j=some r/\p∈ptrs r)\/uA (dY S sw nx u c l).2 p=true):Bf F' (jL A u S.U):=by
 obtain ⟨E,H⟩:=aBv B A;intro i m aa p af;rcases J i m aa p af with ⟨j,r,ab,ae⟩|o;{obtain ⟨ag,hu,ad⟩:=h j r ab p ae;refine ⟨ag,?_,ad⟩;rw [Vj A u S.U _ (λs B e=> ?_)];{exact hu};{have:=E s B;rw [e,hu] at this;cases this}};{unfold uA at o;split at o;{cases o};{rename_i e V;obtain ⟨b,Q⟩:=H _ _ V;have o:=DK o;obtain ⟨ah,ai,aj,ak⟩:=o;exact ⟨_,Q,by dsimp only;omega⟩}}
theorem aE5 {o D q r ae H} (ah:fB o q) (ab:jQ D.F) (aa:∀i m,D.F i=some m->1<=i/\i<=128/\eX m) (h:qO o) (d:tX r ae H o D):qO D:=by
 cases d with
 | same=>exact h
 | move hk h0=>
  refine ⟨λi m u=> ?_,h.held,h.live⟩;obtain ⟨x,A,hd⟩:=h.tree i m u;dsimp only;unfold jB;rw [AL h0];unfold moved;by_cases e:i=(lookOf o.T r.path).2.1;{subst e;refine ⟨_,upd_same _ _ _,?_⟩;(have E:(lookOf o.T r.path).1=0:=by{unfold gJ at h0;split at h0;{rename_i a;exact absurd h0 a};{rename_i a;exact BI a}});obtain ⟨y,ag,al⟩:=look_ok ah.ok.tree E;rw [A] at ag;cases ag;dsimp only;rw [<-al];exact hd};{rw [bY _ _ e];exact ⟨x,A,hd⟩}
 | opens=>exact ⟨h.tree,h.held,h.live⟩
 | make hk h0=>
  have ap:=Dw ah.ok.tree h0;have aq:=Lt h0;(have am:o.F (free o.T)=none:=by{(cases V:o.F (free o.T) with|none=>rfl|some m=>obtain ⟨x,A,_⟩:=h.tree _ m V;rw [ap.new] at A;cases A)});(have ak:(lS o r).T=upd o.T (free o.T) (some ⟨(placeOf o.T r.path).2.1,(placeOf o.T r.path).2.2,r.dir⟩):=by{unfold lS gX grown;dsimp only;rw [AL h0]});have ad:(lS o r).U=o.U:=rfl;(have aj:(lS o r).F=if r.dir=true then o.F else aS o.F (free o.T) (some nJ):=by{unfold lS;dsimp only;rw [aq]});refine ⟨λi m u=> ?_,λi m u p Q=> ?_,λx au hu=> ?_⟩;{rw [ak];rw [aj] at u;by_cases e:i=free o.T;{subst e;refine ⟨_,upd_same _ _ _,?_⟩;dsimp only;(cases hd:r.dir with|false=>rfl|true=>rw [hd,AL rfl,am] at u;cases u)};{rw [bY _ _ e];split at u;{exact h.tree i m u};{rw [En _ _ e] at u;exact h.tree i m u}}};{rw [ad];rw [aj] at u;split at u;{exact h.held i m u p Q};{rcases zG u with ⟨_,rfl⟩|u;{cases Q};{exact h.held i m u p Q}}}
  ·rw [ad] at hu;have E:iI (lS o r).F x=iI o.F x:=aE8 (λi=>by
    rw [aj];cases r.dir with
    | true=>rfl
    | false=>
     rw [AA (by simp)];by_cases e:i=free o.T;{subst e;rw [Ai,am];rfl}
     ·rw [En _ _ e]) x
   rw [E];exact h.live x au hu
 | remove hk h0 h1 h2=>
  (have u:(bM o.T r.path r.dir).2=(lookOf o.T r.path).2.1/\(r.dir=true->(lookOf o.T r.path).2.2=true):=by{unfold bM at h2 ⊢;rw [AA (by simp [h0])] at h2 ⊢;split at h2;{cases h2};{rename_i a1;rw [AA a1];split at h2;{cases h2};{rename_i a2;rw [AA a2];split at h2;{cases h2};{rename_i a3;rw [AA a3];split at h2;{cases h2};{rename_i a4;rw [AA a4];refine ⟨rfl,λhd=> ?_⟩;(cases E:(lookOf o.T r.path).2.2 with|true=>rfl|false=>exact absurd ⟨hd,E⟩ a2)}}}}});obtain ⟨u,_⟩:=u;obtain ⟨y,ag,al⟩:=look_ok ah.ok.tree h0;(cases E:(lookOf o.T r.path).2.2 with|true=>(have e:lJ o r={o with T:=dI o.T (lookOf o.T r.path).2.1}:=by{unfold lJ fJ;rw [AL E,AL h2,u]});rw [e];refine ⟨λi m J=> ?_,h.held,h.live⟩;obtain ⟨x,A,hd⟩:=h.tree i m J;dsimp only;unfold dI;rw [bY _ _ (λe=> ?_)];{exact ⟨x,A,hd⟩};{rw [e,ag] at A;cases A;rw [al,E] at hd;cases hd}|false=>(have e:lJ o r={o with T:=dI o.T (lookOf o.T r.path).2.1,F:=aS o.F (lookOf o.T r.path).2.1 none,U:=iC (aS o.F (lookOf o.T r.path).2.1 none) o.U}:=by{unfold lJ fJ;rw [AA (by simp [E]),AL h2,u]});rw [e] at ab aa ⊢;dsimp only at ab aa;obtain ⟨c1,c2⟩:=Oz (U:=o.U) ab aa (λi m J=>h.held i m (Bc J));refine ⟨λi m J=> ?_,c1,c2⟩;dsimp only at J ⊢;obtain ⟨x,A,hd⟩:=h.tree i m (Bc J);unfold dI;rw [bY _ _ (λe=> ?_)];{exact ⟨x,A,hd⟩};{rw [e,Ai] at J;cases J})
 | commit x hk A h1 h2 h3=>
  obtain ⟨i,m,av,aw,af⟩:=ah.tok x (DF A);(have an:x.i.toNat=i:=X);(have V:(nM o ae H r.c.toNat r.nx x.i.toNat).F=aS o.F i (some (H.foldl bT m)):=by{unfold nM;dsimp only;rw [an,af,Option.getD_some]});have ad:(nM o ae H r.c.toNat r.nx x.i.toNat).U=iC (aS o.F i (some (H.foldl bT m))) (jL o.clock ae o.U):=by{unfold nM;dsimp only;rw [an,af,Option.getD_some];rfl}
  have ak:(nM o ae H r.c.toNat r.nx x.i.toNat).T=o.T:=rfl;dsimp only at ab aa;rw [V] at ab aa;have ar:=Yz h2 h.held o.clock (F':=aS o.F i (some (H.foldl bT m))) (λj y B p Q=>by
   rcases zG B with ⟨_,rfl⟩|B;{rcases U3 H m p Q with ao|⟨d,hd,rfl⟩;{exact .inl ⟨i,m,af,ao⟩};{rcases (h3 d hd).2.2.2 with ai|ai;{exact absurd ai (xZ.1 Q).2};{exact .inr ai}}}
   ·exact .inl ⟨j,y,B,Q⟩)
  obtain ⟨c1,c2⟩:=Oz ab aa ar;refine ⟨λj y B=> ?_,?_,?_⟩;{dsimp only at B ⊢;rw [V] at B;rw [ak];rcases zG B with ⟨rfl,_⟩|B;{exact h.tree j m af};{exact h.tree j y B}};{dsimp only;rw [V,ad];exact c1};{dsimp only;rw [V,ad];exact c2}
theorem Uj {S} (h:qO S) (c o):qO (dL S c o):=by
 unfold dL;split<;>exact ⟨h.tree,h.held,h.live⟩
theorem aBm {S q B E o x} (ah:fB S q) (A:fB x.2 (q+2)) (h:qO S) (hd:oC S B E o x):qO x.2:=by
 have t:=I9 hd;generalize x.2=S' at*;cases t with
 | same=>exact h
 | boot=>exact ⟨h.tree,h.held,h.live⟩
 | swap=>exact ⟨h.tree,h.held,h.live⟩
 | moved hc h2 h3=>
  have ab:=A.pts;have aa:=A.ok.file;have r:(sS S E o B.nx).F=o.foldl dO S.F:=rfl;have V:(sS S E o B.nx).U=iC (o.foldl dO S.F) (jL (S.clock+1) E S.U):=rfl;rw [r] at ab aa;have af:=Yz h2 h.held (S.clock+1) (F':=o.foldl dO S.F) (λj y u p ag=>by
   obtain ⟨Q,J,ad⟩:=Jv o S.F j y u;rcases ad p ag with ae|⟨d,hd,rfl⟩;{exact .inl ⟨j,Q,J,ae⟩}
   ·exact .inr (h3 d hd).2.2)
  obtain ⟨c1,c2⟩:=Oz ab aa af;refine ⟨λj y u=> ?_,?_,?_⟩;{rw [r] at u;obtain ⟨Q,J,_⟩:=Jv o S.F j y u;exact h.tree j Q J};{rw [r,V];exact c1};{rw [r,V];exact c2}
 | asked kd bs D hm hk ha hdd=>
  have H:=aE5 (D:=D) (ah.dL B.c.toNat kd) A.pts A.ok.file (Uj h _ _) hdd;exact ⟨H.tree,H.held,H.live⟩
def qQ (F:Nat->Option cZ) (k:Nat):List Pt:=match F k with
 | some m=>ptrs m
 | none=> []
def lM (F:Nat->Option cZ) (NN:List Nat) (k:Nat) (x:Stp):Int:=((NN.take k).map λi=>eF (qQ F i) x).sum
theorem S9 (p:Nat->Bool) (f:Nat->Int):∀l:List Nat,((l.filter p).map f).sum=(l.map λi=>if p i=true then f i else 0).sum
 | []=>rfl
 | a::r=>by
  have o:=S9 p f r;rw [EW,GY,<-o];by_cases h:p a=true
  ·rw [NQ h,EW,GY,AL h]
  ·rw [NR h,AA h,Int.zero_add]
theorem aD8 {F} {T:Tree} (h:∀i m,F i=some m->(T i).isSome=true) (x) {n} (r:(numsOf λk=>(T k).isSome).length<=n):lM F (numsOf λk=>(T k).isSome) n x=iI F x:=by
 unfold lM;rw [FI r];unfold numsOf;rw [S9];unfold iI jU;refine BD List.sum (JF (λi _=> ?_));unfold qQ;(cases o:F i with|none=>dsimp only;split;{exact aBp x};{rfl}|some m=>dsimp only;rw [AL (h i m o),AA D])
theorem aCf (F o x):lM F o 0 x=0:=rfl
theorem aED (F) {o k} (r:k<o.length) (x):lM F o (k+1) x=lM F o k x+eF (qQ F o[k]) x:=by
 unfold lM;rw [GH r,FN,List.sum_append_int];simp
theorem aDF {L:List Pt} {j} (o:j<L.length) (x):eF (L.take (j+1)) x=eF (L.take j) x+if gV L[j]=x then L[j].z else 0:=by
 rw [GH o,Wj]
theorem I4 {F} (h:Short F) (r:∀i m,F i=some m->eX m) (i):(qQ F i).length<=64/\∀p∈qQ F i,0<=p.z/\p.z<=64:=by
 unfold qQ;(cases o:F i with|none=>exact ⟨BA _,λp u=>by cases u⟩|some m=>exact ⟨Ot (r i m o),Zd h o⟩)
theorem aAv {F} (h:Short F) (u:∀i m,F i=some m->eX m) (o k x):0<=lM F o k x/\lM F o k x<=4096*o.length:=by
 unfold lM;have B:=Wl (l:=o.take k) (f:=λi=>eF (qQ F i) x) (b:=4096) (λi _=>by
  obtain ⟨A,r⟩:=I4 h u i;have:=Gs r x;omega)
 have E:(o.take k).length<=o.length:=by rw [BZ];omega
 omega
theorem aA0 {L:List Pt} (h:∀p∈L,0<=p.z/\p.z<=64) (A:L.length<=64) (j x):0<=eF (L.take j) x/\eF (L.take j) x<=4096:=by
 have r:=Gs (L:=L.take j) (λp o=>h p (FU o)) x;have u:(L.take j).length<=L.length:=by rw [BZ];omega
 omega
theorem Ux:∀(u o:List Stp),u.Nodup->(∀x∈u,x∈o)->u.length<=o.length
 | [],_,_,_=>BA _
 | a::r,o,hn,h=>by
  obtain ⟨E,H⟩:=JV.1 hn;have A:=h a BL;have J:=Ux r (o.erase a) H (λx B=>(List.mem_erase_of_ne (λe=>E (by rw [<-e];exact B))).2 (h x (BJ _ B)));rw [List.length_erase_of_mem A] at J;have:=List.length_pos_of_mem A;rw [BX];omega
theorem Ub:∀l:List Nat,(l.map λ_=>(0:Int)).sum=0
 | []=>rfl
 | _::r=>by rw [EW,GY,Ub r];rfl
theorem Vb {F x} (h:iI F x≠0):∃i,i<129/\∃m,F i=some m/\∃p∈ptrs m,gV p=x:=by
 refine BI (λH=>h ?_);have key:∀i,i∈List.range 129->(match F i with
  | some m=>if (λ_:Int=>false) (i:Int)=true then 0 else eF (ptrs m) x
  | none=>0)=(0:Int):=λi E=>by
  cases B:F i with
  | none=>rfl
  | some m=>
   dsimp only;rw [AA D];have J:∀L:List Pt,(∀p∈L,gV p≠x)->eF L x=0:=λL=>by
    (induction L with|nil=>{exact λ_=>rfl}|cons a r ih=>intro A;have u:=ih (λp o=>A p (BJ _ o));unfold eF at u ⊢;rw [EW,GY,AA (A a BL),u];rfl)
   exact J _ (λp o e=>H ⟨i,CJ.1 E,m,B,p,o,e⟩)
 have e:=BD List.sum (JF (g:=λ_=>(0:Int)) key);unfold iI jU;exact e.trans (Ub _)
theorem aD9 {S} (B:jQ S.F) (h:qO S) {x} (E:(S.U x).isSome=true):iZ x:=by
 obtain ⟨H,hu⟩:=EC.1 E;obtain ⟨r,o⟩:=h.live x H hu;rw [r] at o;obtain ⟨i,_,m,u,p,A,rfl⟩:=Vb o;exact (qX (B i m u p (xZ.1 A).1)).1
theorem aEf (l:List Nat) (f b) (h:∀i,f i<=b):(l.map f).sum<=b*l.length:=by
 (induction l with|nil=>exact BA _|cons a r ih=>rw [EW,GY,BX,Nat.mul_succ];have:=h a;omega)
theorem aAi {S} (J:jQ S.F) (B:∀i m,S.F i=some m->eX m) (h:qO S) {ss:List Stp} (H:ss.Nodup) (E:∀x∈ss,(S.U x).isSome=true):ss.length<=8256:=by
 have r:=Ux ss ((List.range 129).flatMap λi=>(qQ S.F i).map gV) H (λx V=>by
  obtain ⟨aa,hu⟩:=EC.1 (E x V);obtain ⟨r,o⟩:=h.live x aa hu;rw [r] at o;obtain ⟨i,A,m,u,p,Q,rfl⟩:=Vb o;refine List.mem_flatMap.2 ⟨i,CJ.2 A,FM.2 ⟨p,?_,rfl⟩⟩;unfold qQ;rw [u];exact Q)
 rw [List.length_flatMap] at r;have o:=aEf (List.range 129) (λi=>((qQ S.F i).map gV).length) 64 (λi=>by
  rw [CG];exact (I4 J.short B i).1)
 rw [JA] at o;omega
theorem aAs:qO S0:=⟨λi m h=>(by cases h),λi m h=>(by cases h),λx u h=>(by cases h)⟩
def pJ (st:List Sz) (x:Pt):Prop:=∃y∈st,y.1=gV x/\0<=x.a/\1<=x.z/\x.z<=y.2/\x.a<=y.2 - x.z
instance (st:List Sz) (x:Pt):Decidable (pJ st x):=by unfold pJ;infer_instance
theorem Yq (ah:aG) (ay ag o x w) (aq:aI fD 4 w ay o) (bx:o.length<=1000000) (au:∀y∈o,y.2<=6000):
  Calls prog 258 #[.agg (ah.cells ay ag),dG x] w (aY (.bool (decide (pJ o x))) w):=by
 (have ab:prog.follows .mixedOrders=true:=N);obtain ⟨base,cap,rfl,ar⟩:=aq.rd;have an:=lH (Af (P:=pJ o x) (w:=w));generalize aY _ w=bu at*;obtain ⟨w0,ae⟩:∃w0,w0=(w.alloc (.cells (ah.cells (.slice base o.length cap) ag) 41)).alloc (.cells (cP x) 59):=⟨_,rfl⟩;(have ap:Fr No w w0:=by rw [ae];exact ((Fr.refl w).alloc _).alloc _);(have av:w0.heap[w.heap.size]? =some (.cells (ah.cells (.slice base o.length cap) ag) 41 (0,0)):=by{rw [ae];exact (show Fr No (w.alloc _) _ from (Fr.refl _).alloc _).aB (AQ w _) id});(have aw:w0.heap[w.heap.size+1]? =some (.cells (cP x) 59 (0,0)):=by{rw [ae];have:=AQ (w.alloc (.cells (ah.cells (.slice base o.length cap) ag) 41)) (.cells (cP x) 59);rwa [fF] at this});have ao:=lH ae.symm;have bk:=lH av;have bl:=lH aw;have az:=lH ap;have bh:=lH ar;have bi:=lH au;have bb:=lH (λy=>xY y (x.c,x.l,x.n));unfold aG.cells at ao;unfold aG.cells dG;clear aq ar ae ap av aw au;go_enter func258,ntmps258;go_upto_region 1 with fail;rw [ao.o];go_wp2_with fail;go_loopw [5] (λa wr=>∃j:Nat,a=Z j/\j<=o.length/\Hid (∀y∈o.take j,¬(y.1=gV x/\0<=x.a/\1<=x.z/\x.z<=y.2/\x.a<=y.2 - x.z))/\Hid (Fr No w0 wr)) (λa _=>o.length - (intOf a).toNat);case atStart=>exact ⟨0,rfl,BA _,lH D,lH (Fr.refl _)⟩
 case round=>
  obtain ⟨j,rfl,bw,am,H⟩:=hrel;have Q:=lH (az.o.trans H zq);have ax:=H.o.aB bk id;have bv:wr.cell? (I w 12)=some (.slice base o.length cap):=aA ax _;clear ax;by_cases A:j<o.length
  ·obtain ⟨b,off,rfl,ad⟩:=bh.o.at_ j A;have br:=CO.2 A;have bz:=BQ j;have y0:=Q.o.cell_of (ad 0 _ rfl) id;have y1:=Q.o.cell_of (ad 1 _ rfl) id;have y2:=Q.o.cell_of (ad 2 _ rfl) id;have y3:=Q.o.cell_of (ad 3 _ rfl) id;have aa:=H.o.aB bl id;have ca:wr.cell? (I (w.heap.size+1) 0)=some (Z x.c):=aA aa _;have cb:wr.cell? (I (w.heap.size+1) 1)=some (Z x.l):=aA aa _;have cc:wr.cell? (I (w.heap.size+1) 2)=some (Z x.n):=aA aa _;have cd:wr.cell? (I (w.heap.size+1) 3)=some (Z x.a):=aA aa _;have ce:wr.cell? (I (w.heap.size+1) 4)=some (Z x.z):=aA aa _;have bj:=lH (fE A);have bg:=lH (BF A);have bn:=bb.o (o[j]).1;have bm:=bi.o _ (BF A);generalize o[j]=y at*;obtain ⟨af,B⟩:=y;dsimp only [Nat.add_zero] at y0 y1 y2 y3 bn bm;clear ad aa;have u:Hid (¬(af=gV x/\0<=x.a/\1<=x.z/\x.z<=B/\x.a<=B - x.z)->∀y∈o.take (j+1),¬(y.1=gV x/\0<=x.a/\1<=x.z/\x.z<=y.2/\x.a<=y.2 - x.z)):=λbo z V=>by
    rw [bj.o] at V;rcases BM.1 V with V|V;{exact am.o z V};{rw [BB.1 V];exact bo}
   have J:Hid ((af=gV x/\0<=x.a/\1<=x.z/\x.z<=B/\x.a<=B - x.z)->pJ o x):=λh=>⟨_,bg,h⟩;have E:Hid (decide (af=(x.c,x.l,x.n))=true↔af=gV x):=JQ;generalize decide (af=(x.c,x.l,x.n))=bt at*;(cases bt with|false=>{have r:=lH (u.o (λh=>(by have:=E.o.2 h.1;cases this)));clear u J E;go_wp2_with fail;refine bJ [43] ?_ ab;go_wp2_with fail;go_roundw;{exact ⟨j+1,by go_num,A,r,lH H.o.drew⟩};simp [intOf];omega}|true=>by_cases ai:0<=x.a;rotate_left 1;{have r:=lH (u.o (λh=>ai h.2.1));have bc:=lH (BC ai);clear u J E;go_wp2_with fail;have D1:=bc;refine bJ [43] ?_ ab;go_wp2_with fail;go_roundw;{exact ⟨j+1,by go_num,A,r,lH H.o.drew⟩};simp [intOf];omega};by_cases aj:1<=x.z;rotate_left 1;{have r:=lH (u.o (λh=>aj h.2.2.1));have bd:=lH (BC aj);clear u J E;go_wp2_with fail;have D1:=bd;refine bJ [43] ?_ ab;go_wp2_with fail;go_roundw;{exact ⟨j+1,by go_num,A,r,lH H.o.drew⟩};simp [intOf];omega};by_cases ak:x.z<=B;rotate_left 1;{have r:=lH (u.o (λh=>ak h.2.2.2.1));have be:=lH (BC ak);clear u J E;go_wp2_with fail;have D1:=be;refine bJ [43] ?_ ab;go_wp2_with fail;go_roundw;{exact ⟨j+1,by go_num,A,r,lH H.o.drew⟩};simp [intOf];omega};by_cases al:x.a<=B - x.z;rotate_left 1;{have r:=lH (u.o (λh=>al h.2.2.2.2));have bp:IntKind.i64.wrap (B - x.z)=B - x.z:=(by rw [BG];omega);have bf:=lH (BC al);clear u J E;go_wp2_with fail;have D1:=bf;refine bJ [43] ?_ ab;go_wp2_with fail;go_roundw;{exact ⟨j+1,by go_num,A,r,lH H.o.drew⟩};simp [intOf];omega};{have r:=lH (J.o ⟨E.o.1 rfl,ai,aj,ak,al⟩);have bp:IntKind.i64.wrap (B - x.z)=B - x.z:=(by rw [BG];omega);clear u J E;go_wp2_with fail;refine bJ [43] ?_ ab;exact aC (an.o true _ ⟨λ_=>r.o,λ_=>rfl⟩ Q.o.drew)})
  {(obtain rfl:j=o.length:=by omega);have br:=DR (o.length:Int);have r:Hid (¬pJ o x):=λ⟨y,bq,e⟩=>am.o y (by rw [AX];exact bq) e;exact aC (an.o false _ ⟨λh=>(by cases h),λh=>absurd h r⟩ Q.o)}
theorem aCs (s fv F o x w) (ao:w.cell? (I s 11)=some fv) (hu:aI nR 2 w fv o) (bu:o.length<=200) (ar:∀y∈o,∃m,F y.1=some m/\rV w y.2 m) (ag:Short F) (V:∀i m,F i=some m->eX m):
  Calls prog 301 #[Y s,.agg (cS x)] w (aY (Z (lM F (o.map (·.1)) o.length x)) w):=by
 obtain ⟨base,cap,rfl,aw⟩:=hu.rd;have bk:Hid (∀w',Fr No w w'->aY (Z (lM F (o.map (·.1)) o.length x)) w (.returned (Z (lM F (o.map (·.1)) o.length x))) w'):=λw' f=>aY.mk f;generalize aY _ w=ce at*;have af:Fr No w (w.alloc (.cells (cS x) 46)):=(Fr.refl w).alloc _;have bp:=lH (aT w (.cells (cS x) 46));have bb:=lH (af.cell_of ao id);have bf:=lH (λy=>xY y x);have bl:=lH aw;have bc:=lH af;have bi:=lH ar;have be:=lH (λk=>aAv ag V (o.map (·.1)) k x);have bn:=lH (λi=>I4 ag V i);have bg:=lH V;clear ao hu aw af ar ag V;go_enter func301,ntmps301;go_wp2_with fail;generalize bv:w.alloc _=w0 at*;clear bv;go_loopw [5,6] (λn a wr=>∃j:Nat,a=Z j/\j<=o.length/\n=Z (lM F (o.map (·.1)) j x)/\Hid (Fr No w0 wr)) (λ_ a _=>o.length - (intOf a).toNat);case atStart=>exact ⟨0,rfl,BA _,by rw [aCf],lH (Fr.refl _)⟩
 case round=>
  obtain ⟨j,rfl,ck,rfl,ae⟩:=hrel;have ad:=lH (bc.o.trans ae zq);have ch:=ae.o.cell_of bb id;by_cases Q:j<o.length
  ·obtain ⟨b,off,rfl,A⟩:=bl.o.at_ j Q;have bx:=CO.2 Q;have cv:=BQ j;have y1:=ad.o.cell_of (A 1 _ rfl) id;obtain ⟨m,aa,au⟩:=bi.o o[j] (BF Q);have bj:Hid (lM F (o.map (·.1)) (j+1) x=lM F (o.map (·.1)) j x+eF (ptrs m) x):=lH (by
    have bq:j<(o.map (·.1)).length:=(by rw [CG];exact Q);rw [aED F bq x];have an:(o.map (·.1))[j]=(o[j]).1:=(by rw [List.getElem_map])
    rw [an];unfold qQ;rw [aa])
   (have ah:(ptrs m).length<=64/\∀p∈ptrs m,0<=p.z/\p.z<=64:=by{have:=bn.o (o[j]).1;unfold qQ at this;rw [aa] at this;exact this});(have cn:m.l.length<=1000:=by{have:=bg.o _ m aa;have an:=this.1;rw [this.2];unfold dA;omega});have al:=lH (Ky (o[j]).2 m wr (au.no ad) X);generalize o[j]=y at*;obtain ⟨db,dc⟩:=y;dsimp only at y1 al;have bt:=be.o j;have cj:(o.map (·.1)).length<=200:=(by rw [CG];exact bu);have bh:=lH (λk=>aA0 ah.2 ah.1 k x);generalize ptrs m=r at*;generalize lM F _ j x=u at*;obtain ⟨co,ay⟩:=ah;have bo:=lH ay;have ci:0<=u/\u<=1000000:=X;clear A aa au ay bt;obtain ⟨az,rfl⟩:∃az:World,az=wr:=⟨wr,rfl⟩;go_wp2_with fail;refine al.o.mono ?_;rintro e ca ⟨cx,rfl,av,am⟩;obtain ⟨cf,c2,rfl,ax⟩:=av.any.rd;have bm:=lH ax;have bd:=lH am;clear av ax am;go_wp2_with fail;go_loopw [5,8] (λn a wr=>∃k:Nat,a=Z k/\k<=r.length/\n=Z (u+eF (r.take k) x)/\Hid (Fr No ca wr)) (λ_ a _=>r.length - (intOf a).toNat);(case atStart=>exact ⟨0,rfl,BA _,by simp [eF],lH (Fr.refl _)⟩);(case round=>obtain ⟨k,rfl,cl,rfl,B⟩:=hrel;have ai:=lH ((ae.o.trans bd zq).trans B zq);by_cases E:k<r.length;{obtain ⟨cg,cu,rfl,A⟩:=bm.o.at_ k E;have bz:=CO.2 E;have cw:=BQ k;have z0:=B.o.cell_of (A 0 _ rfl) id;have cb:=B.o.cell_of (A 1 _ rfl) id;have cc:=B.o.cell_of (A 2 _ rfl) id;have cd:=B.o.cell_of (A 4 _ rfl) id;have ab:=ai.o.aB bp id;have cy:wr.cell? (I w 0)=some (Z x.1):=aA ab _;have cz:wr.cell? (I w 1)=some (Z x.2.1):=aA ab _;have da:wr.cell? (I w 2)=some (Z x.2.2):=aA ab _;have aq:=aDF E x;have cm:=bh.o k;have ct:=bo.o _ (BF E);have ap:=bf.o (gV r[k]);generalize r[k]=p at*;unfold gV at ap;dsimp only [Nat.add_zero] at z0 cb cc cd ap;have aj:Hid (decide ((p.c,p.l,p.n)=x)=true↔gV p=x):=JQ;generalize decide ((p.c,p.l,p.n)=x)=bw at*;generalize br:eF (r.take k) x=H at*;have ak:=lH aq;clear A ab aq br;(cases bw with|true=>have J:Hid (u+eF (r.take (k+1)) x=u+H+p.z):=lH (by rw [ak.o,AL (aj.o.1 rfl)];omega);have cp:IntKind.i64.wrap (u+H+p.z)=u+H+p.z:=(by rw [BG];omega);go_wp2_with fail;go_region;(all_goals go_wp2_with fail;go_roundw;{exact ⟨k+1,by go_num,E,by rw [J.o],lH B.o.drew⟩};simp [intOf];omega)|false=>have J:Hid (u+eF (r.take (k+1)) x=u+H):=lH (by rw [ak.o,AA (λe=>(by have:=aj.o.2 e;cases this))];omega);go_wp2_with fail;go_region;(all_goals go_wp2_with fail;go_roundw;{exact ⟨k+1,by go_num,E,by rw [J.o],lH B.o.drew⟩};simp [intOf];omega))};{(obtain rfl:k=r.length:=by omega);have bz:=DR (r.length:Int);have J:Hid (lM F (o.map (·.1)) (j+1) x=u+eF (r.take r.length) x):=lH (by rw [bj.o,AX]);generalize eF _ x=H at*;go_wp2_with fail;go_roundw;{exact ⟨j+1,by go_num,Q,by rw [J.o],ai⟩};simp [intOf];omega})
  {(obtain rfl:j=o.length:=by omega);have bx:=DR (o.length:Int);exact aC (bk.o _ ad.o)}
