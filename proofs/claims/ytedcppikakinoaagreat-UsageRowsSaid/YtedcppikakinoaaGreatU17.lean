/- Part of a proof. -/
import Derived.Test.YtedcppikakinoaaGreatU14
set_option linter.unusedSimpArgs false
set_option linter.unusedVariables false
set_option maxRecDepth 100000
set_option maxHeartbeats 6400000
namespace Go.Proofs.YtedcppikakinoaaGreat
open Go.Proofs.Tryz Go.RowKit
def aZ {α:Type} (c:α->List Value) (n:Nat) (w:World) (o:Nat->Nat) (v:Value) (L:List α):Prop:=
 ∃base cap,v=.slice base L.length cap/\(L≠ []->∃b off,base=some (I b off)/\o b=0/\b<w.heap.size/\∀(j:Nat) x,L[j]? =some x->w.rangeAt b (off+j*n) (c x))
theorem aZ.step {α:Type} {c n C w w' u A v} {L:List α} (h:aZ c n w u v L) (s:Step C w u w' A) (H:¬C 0):aZ c n w' A v L:=by
 obtain ⟨base,cap,e,J⟩:=h;refine ⟨base,cap,e,λQ=> ?_⟩;obtain ⟨b,off,B,o,r,E⟩:=J Q;exact ⟨b,off,B,(s.old b r).trans o,AP r s.fr.size,λj x V i aa hu=>s.fr.cell_of (E j x V i aa hu) (by rw [o];exact H)⟩
theorem aZ.no {α:Type} {c n w w' o v} {L:List α} (h:aZ c n w o v L) (r:aF w o) (f:Fr No w w'):aZ c n w' o v L:=h.step (noS r f) id
theorem aZ.at {α:Type} {c n w o base cap} {L:List α} (h:aZ c n w o (.slice base L.length cap) L) (u:L≠ []):∃b off,base=some (I b off)/\o b=0/\b<w.heap.size/\∀(j:Nat) x,L[j]? =some x->w.rangeAt b (off+j*n) (c x):=by
 obtain ⟨A,cap',e,r⟩:=h;cases e;exact r u
theorem aZ.slice {α:Type} {c n w o v} {L:List α} (h:aZ c n w o v L):∃base cap,v=.slice base L.length cap:=by
 obtain ⟨base,cap,e,_⟩:=h;exact ⟨base,cap,e⟩
def fP:Stp->Option Int:=λ_=>none
abbrev Sz:=Stp×Int
def fD (x:Sz):List Value:= [x.1.1,x.1.2.1,x.1.2.2,x.2]
def qN (S:St) (nx c l:Int) (m:Stp->Option Int) (x:Sz):Prop:=
 (m x.1).isSome=false/\(S.U x.1).isSome=false/\(x.1.1==c)=true/\(x.1.2.1==l)=true/\S.next c.toNat<=x.1.2.2/\x.1.2.2<nx/\1<=x.2/\x.2<=6000
instance (S:St) (nx c l:Int) (m:Stp->Option Int) (x:Sz):Decidable (qN S nx c l m x):=by unfold qN;exact inferInstance
def dU (S:St) (nx c l:Int):List Sz->(Stp->Option Int)->Option (Stp->Option Int)
 | [],m=>some m
 | x::L,m=>if qN S nx c l m x then dU S nx c l L (λz=>if z=x.1 then some x.2 else m z) else none
def dY (S:St) (sw nx:Int) (st:List Sz) (c l:Int):Int×(Stp->Option Int):=
 if st≠ []/\sw≠S.swaps then (15,fP) else if ¬(S.next c.toNat<=nx/\nx<=1073741825) then (4,fP) else match dU S nx c l st fP with
  | none=>(4,fP)
  | some m=>(0,m)
def wV (w:World) (k:Nat) (x:Int×(Stp->Option Int)) (e:Ending) (w':World):Prop:=
 Fr No w w'/\if x.1=0 then ∃b c,e=.returned (.map (some b))/\MapAt vP w' b c x.2/\w.heap.size<=b/\c<=k else e=.panicked (kF x.1)
theorem next_cell {w r K n L S} (h:aV w r K L S n) (k) (o:k<5):w.cell? (I L.s (3+k))=some (Z (S.next k)):=by
 rw [h.cell];(match k,o with|0,_=>rfl|1,_=>rfl|2,_=>rfl|3,_=>rfl|4,_=>rfl)
theorem Ye (ay K n L S) (r:aG) (ee aj o) (k:Nat) (l:Int) (w) (h:aV w ay K L S n) (ok:aH S) (bi:aF w ay) (cf:aZ fD 4 w ay ee o) (dr:∀x∈o,iZ x.1) (dt:k<5) (du:o.length<=1000000):
  Calls prog 112 #[Y L.s,.agg (r.cells ee aj),k,l] w (wV w o.length (dY S r.sw r.nx o k l)):=by
 (have ab:prog.follows .mixedOrders=true:=N);obtain ⟨base,cap,rfl⟩:=cf.slice;have av:Fr No w (w.alloc (.cells (r.cells (.slice base o.length cap) aj) 36)):=(Fr.refl w).alloc _;have ax:=aT w (.cells (r.cells (.slice base o.length cap) aj) 36);have H:=lH av;have bo:=lH (h.no ok bi av);have ff:=lH (cf.no bi av);have bn:Hid (aF _ ay):=lH (noS bi av).fresh;have db:=lH ok;have ev:=lH dr;have cv:=lH du;(have gd:(0:Int)<=(k:Int):=X);(have ge:(k:Int)<5:=X);(have gf:¬(k:Int)<0:=X);have gg:¬(5:Int)<=(k:Int):=X
 have ct:dY S r.sw r.nx o k l=if o≠ []/\r.sw≠S.swaps then ((15:Int),fP) else if ¬(S.next k<=r.nx/\r.nx<=1073741825) then (4,fP) else match dU S r.nx k l o fP with
  | none=>(4,fP)
  | some m=>(0,m):=rfl
 generalize dY S r.sw r.nx o k l=V at*;have Q:Hid (∀c,c≠0->V=(c,fP)->∀e w',e=.panicked (kF c)->Fr No w w'->wV w o.length V e w'):=λc ca bz e w' cc f=>by
  subst bz;exact ⟨f,by rw [AA ca];exact cc⟩
 have fd:Hid (∀m,V=(0,m)->∀b c e w',e=.returned (.map (some b))->MapAt vP w' b c m->w.heap.size<=b->c<=o.length->Fr No w w'->wV w o.length V e w'):=λm bz b c e w' cc fj fh ca f=>by
  subst bz;exact ⟨f,by rw [AL rfl];exact ⟨b,c,cc,fj,fh,ca⟩⟩
 generalize wV w o.length V=fs at*;have c1:=bo.o.cell 1;have df:=next_cell bo k dt;clear h ok bi cf dr av du;unfold aG.cells at*;have dg:(w.alloc (.cells (cR r (.slice base o.length cap) aj) 36)).cell? (I w 10)=some (Z r.nx):=aA ax _;have dh:(w.alloc (.cells (cR r (.slice base o.length cap) aj) 36)).cell? (I w 11)=some (Z r.sw):=aA ax _;have bv:(w.alloc (.cells (cR r (.slice base o.length cap) aj) 36)).cell? (I w 12)=some (.slice base o.length cap):=aA ax _;have dq:(w.alloc (.cells (cR r (.slice base o.length cap) aj) 36)).cell? (I L.s 1)=some (Z S.swaps):=c1;clear c1;have ek:=lH (Fr.refl (S:=No) w);go_enter func112,ntmps112;go_upto_region 1 with fail;generalize (w.alloc (.cells (cR r (.slice base o.length cap) aj) 36))=w0 at*;have eo:Hid (w.heap.size<w0.heap.size):=lt_of_block ax;generalize ft:w.heap.size=dc at*;have cl:=lH dg;have cm:=lH dh;have az:=lH bv;have C1:=lH dq;have ck:=lH df;have bd:=lH ct;clear ax dg dh bv dq df ct ek;go_cut [] (λam=>Hid (Fr No w0 am)/\Hid (¬(o≠ []/\r.sw≠S.swaps)))
 case first=>
  cases dj:(((o.length:Nat):Int)==0) with
  | true=>
   have fa:Hid (o= []):=lH (by
    have:o.length=0:=(U dj)
    exact GL.1 this)
   have e0:=az.o;refine bJ [13] ?_ ab;clear e0;go_wp2_with fail;refine cr (iU _ _) ?_;rintro af rfl;go_wp2_with fail;go_meet;exact ⟨lH (Fr.refl _).drew,lH (λh=>h.1 fa)⟩
  | false=>
   have fb:Hid (o≠ []):=lH (by
    intro e;subst e;cases dj)
   (cases dk:(r.sw==S.swaps) with|true=>have bt:Hid (r.sw=S.swaps):=lH (U dk);have e0:=az.o;have A:=cm.o;have E:=C1.o;refine bJ [13] ?_ ab;clear e0 A E;go_wp2_with fail;refine cr (iU _ _) ?_;rintro af rfl;go_wp2_with fail;go_meet;exact ⟨lH (Fr.refl _).drew,lH (λh=>h.2 bt)⟩|false=>have bt:Hid (r.sw≠S.swaps):=lH (U dk);have u:Hid (V=(15,fP)):=lH (by rw [bd.o,AL ⟨fb.o,bt.o⟩]);have e0:=az.o;have A:=cm.o;have E:=C1.o;refine bJ [13] ?_ ab;clear e0 A E;go_wp2_with fail;refine cr (iD _ _) ?_;rintro af rfl;go_wp2_with fail;exact ⟨rfl,Q 15 G u _ _ rfl (H.o.trans (Fr.refl _).drew zq)⟩)
 case rest=>
  obtain ⟨an,bq⟩:=hcut;obtain ⟨ej,rfl⟩:∃ej:World,ej=wc:=⟨_,rfl⟩;have bm:=lH (an.o.cell_of cl id);have bl:=lH (an.o.cell_of ck id);go_upto_region 2 with fail;go_cut [] (λam=>Hid (Fr No w0 am)/\Hid (S.next k<=r.nx/\r.nx<=1073741825));(case first=>by_cases bk:S.next k<=r.nx;{by_cases dz:r.nx<=1073741825;{have bp:=lH (And.intro bk dz);have e0:=bm.o;have A:=bl.o;refine bJ [14] ?_ ab;clear e0 A;go_wp2_with fail;refine cr (iU _ _) ?_;rintro af rfl;go_wp2_with fail;go_meet;exact ⟨lH (an.o.trans (Fr.refl _).drew zq),bp⟩};{(have fo:¬r.nx<1073741826:=X);have u:Hid (V=(4,fP)):=lH (by rw [bd.o,AA bq.o,AL (λh=>dz h.2)]);have e0:=bm.o;have A:=bl.o;refine bJ [14] ?_ ab;clear e0 A;go_wp2_with fail;refine cr (iD _ _) ?_;rintro af rfl;go_wp2_with fail;exact ⟨rfl,Q 4 G u _ _ rfl (H.o.trans (an.o.trans (Fr.refl _).drew zq) zq)⟩}};{have u:Hid (V=(4,fP)):=lH (by rw [bd.o,AA bq.o,AL (λh=>bk h.1)]);have e0:=bm.o;have A:=bl.o;refine bJ [14] ?_ ab;clear e0 A;go_wp2_with fail;refine cr (iD _ _) ?_;rintro af rfl;go_wp2_with fail;exact ⟨rfl,Q 4 G u _ _ rfl (H.o.trans (an.o.trans (Fr.refl _).drew zq) zq)⟩})
  case rest=>
   obtain ⟨bb,eq⟩:=hcut;obtain ⟨ag,rfl⟩:∃ag:World,ag=wc:=⟨_,rfl⟩;have ga:(Instr.makeMap 192 none).run prog ag=.ok (.map (some ag)) (ag.alloc (.map #[] 0)):=N
   have bv:(ag.alloc (.map #[] 0)).cell? (I dc 12)=some (.slice base o.length cap):=(bb.o.alloc _).cell_of az id;have ew:=lH (MapAt.made vP ag);have el:=lH (bb.o.alloc (.map #[] 0));have cz:Hid (V=match dU S r.nx k l o fP with
    | none=>(4,fP)
    | some m=>(0,m)):=lH (by rw [bd.o,AA bq.o,AA (λh=>h eq.o)])
   have ez:=lH bb.o.size;have ep:Hid (dc<=ag.heap.size):=lH (by have:=bb.o.size;have:=eo.o;omega);go_wp2_with fail;generalize ag.heap.size=bj at*;go_loopw [47] (λa wr=>∃(j:Nat) (m:Stp->Option Int) (c:Nat),a=Z j/\j<=o.length/\Hid (dU S r.nx k l o fP=dU S r.nx k l (o.drop j) m)/\Hid (MapAt vP wr bj c m)/\c<=j/\Hid (Fr No w0 wr)) (λa _=>o.length - (intOf a).toNat);case atStart=>exact ⟨0,_,0,rfl,BA _,lH rfl,ew,AU _,el⟩
   case round=>
    obtain ⟨j,m,c,rfl,fz,cx,br,fx,be⟩:=hrel;by_cases aw:j<o.length
    ·have fk:o≠ []:=by{intro e;subst e;simp at aw}
     obtain ⟨b,off,rfl,gb,fw,dx⟩:=(ff.o.no bn be).at fk;have cw:=lH (dx j o[j] (AC aw));have cd:=ev.o o[j] (BF aw);have cy:Hid (dU S r.nx k l o fP=if qN S r.nx k l m o[j] then dU S r.nx k l (o.drop (j+1)) (λz=>if z=o[j].1 then some o[j].2 else m z) else none):=lH (by
      rw [cx.o,DN aw];rfl)
     have bk:(j:Int)<(o.length:Int):=X;have fo:(0:Int)<=(j:Int):=X;generalize o[j]=x at*;(have ai:Hid (¬qN S r.nx k l m x->V=(4,fP)):=λh=>by rw [cz.o,cy.o,AA h]);unfold fD at cw;have bg:Fr No wr (wr.alloc (.cells #[x.1.1,x.1.2.1,x.1.2.2,x.2] 141)):=(Fr.refl wr).alloc _;have ch:=aT wr (.cells #[x.1.1,x.1.2.1,x.1.2.2,x.2] 141);obtain ⟨eg,dy⟩:∃eg,∀W,Fr No wr W->(Instr.lookup 192 (.map (some bj)) (.agg (cS x.1)) true).run prog W=.ok (.tuple #[eg,.bool (m x.1).isSome]) W:=by{have bh:=λW (f:Fr No wr W)=>(br.o.fr f id).look x.1 cd (t:=192) (e:=3) underlying192 (z:=Z 0) N true;(cases dv:m x.1 with|none=>rw [dv] at bh;exact ⟨_,bh⟩|some y=>rw [dv] at bh;exact ⟨_,bh⟩)}
     have fl:=dy _ bg;have bu:=lH (DV ch 0 3);have bu:=bu;have ad:=lH ch;have J:=lH (be.o.trans bg zq);have en:=lH bg;have cu:=lH cd;clear dx dy ch bg cd;go_upto_region 8 with (first
      | (refine wL 141 cw ?_)
      | (refine wL 46 bu ?_))
     generalize wr.alloc _=ei at*;generalize wr.heap.size=ef at*;have ao:=lH (Ug ay K n L S x.1 ei (bo.o.no db bn J) db (noS bn J).fresh cu);unfold kX at ao;generalize dl:(m x.1).isSome=dd at*;generalize dm:(S.U x.1).isSome=de at*;have cn:=lH dl;have co:=lH dm;clear fl dl dm;go_cut [] (λam=>Hid (Fr No ei am)/\Hid (dd=false/\de=false/\(x.1.1==(k:Int))=true/\(x.1.2.1==l)=true));(case first=>(cases dd with|true=>have u:=lH (ai.o (λh=>by have:=h.1;rw [cn.o] at this;cases this));go_wp2_with fail;refine cr (iD _ _) ?_;rintro al rfl;go_wp2_with fail;exact ⟨rfl,Q 4 G u _ _ rfl (H.o.trans (J.o) zq)⟩|false=>(cases de with|true=>{have u:=lH (ai.o (λh=>by have:=h.2.1;rw [co.o] at this;cases this));have ci:=aA ad.o;go_wp2_with fail;refine cr ao.o λaf B=> ?_;have aa:=B.aB ad id;have cj:=aA aa;have ak:=lH B;clear aa B;go_wp2_with fail;refine cr (iD _ _) ?_;rintro al rfl;go_wp2_with fail;exact ⟨rfl,Q 4 G u _ _ rfl (H.o.trans (J.o.trans ak zq) zq)⟩}|false=>(cases dn:(x.1.1==(k:Int)) with|false=>{have u:=lH (ai.o (λh=>by have:=h.2.2.1;rw [dn] at this;cases this));have ci:=aA ad.o;go_wp2_with fail;refine cr ao.o λaf B=> ?_;have aa:=B.aB ad id;have cj:=aA aa;have ak:=lH B;clear aa B;go_wp2_with fail;refine cr (iD _ _) ?_;rintro al rfl;go_wp2_with fail;exact ⟨rfl,Q 4 G u _ _ rfl (H.o.trans (J.o.trans ak zq) zq)⟩}|true=>(cases dp:(x.1.2.1==l) with|false=>{have u:=lH (ai.o (λh=>by have:=h.2.2.2.1;rw [dp] at this;cases this));have ci:=aA ad.o;go_wp2_with fail;refine cr ao.o λaf B=> ?_;have aa:=B.aB ad id;have cj:=aA aa;have ak:=lH B;clear aa B;go_wp2_with fail;refine cr (iD _ _) ?_;rintro al rfl;go_wp2_with fail;exact ⟨rfl,Q 4 G u _ _ rfl (H.o.trans (J.o.trans ak zq) zq)⟩}|true=>{have cp:=lH (And.intro dn dp);have ci:=aA ad.o;go_wp2_with fail;refine cr ao.o λaf B=> ?_;have aa:=B.aB ad id;have cj:=aA aa;have ak:=lH B;clear aa B;go_wp2_with fail;refine cr (iU _ _) ?_;rintro al rfl;go_wp2_with fail;go_meet;exact ⟨ak,lH ⟨trivial,trivial,cp.o.1,cp.o.2⟩⟩})))));(case rest=>obtain ⟨ah,bc⟩:=hcut;obtain ⟨wd,rfl⟩:∃wd:World,wd=wc:=⟨_,rfl⟩;have da:=lH (ah.o.aB ad id);have ap:Hid (wd.cell? (I ef 2)=some (Z x.1.2.2)):=lH (aA da.o _);have aq:Hid (wd.cell? (I ef 3)=some (Z x.2)):=lH (aA da.o _);have ar:=lH (ah.o.cell_of (J.o.cell_of ck id) id);have au:=lH (ah.o.cell_of (J.o.cell_of cl id) id);go_upto_region 9 with fail;go_cut [] (λam=>Hid (Fr No wd am)/\Hid (S.next k<=x.1.2.2/\x.1.2.2<r.nx/\1<=x.2/\x.2<=6000));(case first=>by_cases ea:S.next k<=x.1.2.2;{by_cases eb:x.1.2.2<r.nx;{by_cases ec:1<=x.2;{by_cases ed:x.2<=6000;{have bp:=lH (And.intro ea (And.intro eb (And.intro ec ed)));have e0:=ap.o;have A:=aq.o;have E:=ar.o;have ae:=au.o;refine bJ [28] ?_ ab;clear e0 A E ae;go_wp2_with fail;refine cq (iU _ _) ?_;go_wp2_with fail;go_meet;exact ⟨lH (Fr.refl _).drew,bp⟩};{have u:=lH (ai.o (λh=>ed h.2.2.2.2.2.2.2));have fq:¬x.2<6001:=X;have e0:=ap.o;have A:=aq.o;have E:=ar.o;have ae:=au.o;refine bJ [28] ?_ ab;clear e0 A E ae;go_wp2_with fail;refine cr (iD _ _) ?_;rintro al rfl;go_wp2_with fail;exact ⟨rfl,Q 4 G u _ _ rfl (H.o.trans (J.o.trans (ah.o.trans (Fr.refl _).drew zq) zq) zq)⟩}};{have u:=lH (ai.o (λh=>ec h.2.2.2.2.2.2.1));have fq:x.2<1:=X;have e0:=ap.o;have A:=aq.o;have E:=ar.o;have ae:=au.o;refine bJ [28] ?_ ab;clear e0 A E ae;go_wp2_with fail;refine cr (iD _ _) ?_;rintro al rfl;go_wp2_with fail;exact ⟨rfl,Q 4 G u _ _ rfl (H.o.trans (J.o.trans (ah.o.trans (Fr.refl _).drew zq) zq) zq)⟩}};{have u:=lH (ai.o (λh=>eb h.2.2.2.2.2.1));have e0:=ap.o;have A:=aq.o;have E:=ar.o;have ae:=au.o;refine bJ [28] ?_ ab;clear e0 A E ae;go_wp2_with fail;refine cr (iD _ _) ?_;rintro al rfl;go_wp2_with fail;exact ⟨rfl,Q 4 G u _ _ rfl (H.o.trans (J.o.trans (ah.o.trans (Fr.refl _).drew zq) zq) zq)⟩}};{have u:=lH (ai.o (λh=>ea h.2.2.2.2.1));have e0:=ap.o;have A:=aq.o;have E:=ar.o;have ae:=au.o;refine bJ [28] ?_ ab;clear e0 A E ae;go_wp2_with fail;refine cq (iD _ _) ?_;go_wp2_with fail;exact ⟨rfl,Q 4 G u _ _ rfl (H.o.trans (J.o.trans (ah.o.trans (Fr.refl _).drew zq) zq) zq)⟩});(case rest=>obtain ⟨em,er⟩:=hcut;have bw:=ah.o.trans em zq;have cg:=bw.aB ad id;have gh:=aA cg;have fg:=lH (DV cg 0 3);have bx:=en.o.trans bw zq;have fi:c<4611686018427387904:=(by have:=cv.o;omega);obtain ⟨eh,dw,ce,di⟩:=(br.o.fr bx id).put x.1 x.2 cu trivial fi (t:=192) (e:=3) underlying192;have gc:(Instr.mapUpdate 192 (.map (some bj)) (.agg (cS x.1)) (Z x.2)).run prog wc=.ok () eh:=dw;have fc:Hid (qN S r.nx k l m x):=lH ⟨by rw [cn.o];exact bc.o.1,by rw [co.o];exact bc.o.2.1,bc.o.2.2.1,bc.o.2.2.2,er⟩;have fe:Hid (dU S r.nx k l o fP=dU S r.nx k l (o.drop (j+1)) (λz=>if z=x.1 then some x.2 else m z)):=lH (by rw [cy.o,AL fc.o]);obtain ⟨bf,cb⟩:∃bf,(if (m x.1).isSome then c else c+1)=bf:=⟨_,rfl⟩;rw [cb] at ce;have fy:bf<=c+1:=(by rw [<-cb];split<;>omega);have ex:=lH ce;have eu:Hid (Fr No w0 eh):=(be.o.trans bx zq).trans di (λk dt e=>by have:=ez.o;omega);have fu:o.length<=1000000:=cv.o;clear dw bw cg bx ce di cb;go_wp2_with (refine wL 46 (cs:=(cS x.1)) fg ?_);go_roundw;{exact ⟨j+1,_,bf,by go_num,aw,fe,ex,by omega,eu⟩};simp [intOf];omega))
    ·(have ds:j=o.length:=X);have bk:¬(j:Int)<(o.length:Int):=X
     have u:Hid (V=(0,m)):=lH (by
      rw [cz.o,cx.o,ds,KF];rfl)
     have et:Hid (c<=o.length):=lH X;clear ds;exact aC (fd.o m u bj c _ _ rfl br ep et (H.o.trans be zq))
def uO (x:Pt) (e:Int):Prop:=0<=x.a/\1<=x.z/\x.z<=e/\x.a<=e - x.z
instance (x:Pt) (e:Int):Decidable (uO x e):=by unfold uO;exact inferInstance
def uA (m:Stp->Option Int) (x:Pt):Bool:=match m (x.c,x.l,x.n) with
 | none=>false
 | some e=>decide (uO x e)
theorem D8 (b c m x w) (h:MapAt vP w b c m) (Q:iZ (x.c,x.l,x.n)) (ag:I64 x.z) (V:∀y e,m y=some e->I64 e):
  Calls prog 114 #[.map (some b),dG x] w λe w'=>e=.returned (.bool (uA m x))/\Fr No w w':=by
 have H:Fr No w (w.alloc (.cells (cP x) 59)):=(Fr.refl w).alloc _;have E:=aT w (.cells (cP x) 59);have J:=(h.fr H id).look (x.c,x.l,x.n) Q (t:=192) (e:=3) underlying192 (z:=Z 0) N true;have A:Hid ((w.alloc (.cells (cP x) 59)).rangeAt w 0 [x.c,x.l,x.n]):=λi ai r=>by
  rw [aA E];(match i,r with|0,r=>exact r|1,r=>exact r|2,r=>exact r)
 have u:=lH H;(have c3:(w.alloc (.cells (cP x) 59)).cell? (I w 3)=some (Z x.a):=by rw [aA E];rfl);(have c4:(w.alloc (.cells (cP x) 59)).cell? (I w 4)=some (Z x.z):=by rw [aA E];rfl);unfold uA;(cases B:m (x.c,x.l,x.n) with|none=>rw [B] at J;unfold vP kX dG at*;dsimp only at J ⊢;clear E H h B;go_enter func114,ntmps114;go_wp2_with (refine wL 46 A ?_);go_ret;exact ⟨rfl,u⟩|some e=>have af:=V _ _ B;rw [B] at J;unfold vP kX dG at*;dsimp only at J ⊢;unfold I64 at af ag;clear E H h B Q V;by_cases aa:0<=x.a;{by_cases ab:1<=x.z;{by_cases ad:x.z<=e;{(have ah:wrap64 (e - x.z)=e - x.z:=by unfold wrap64;omega);by_cases ae:x.a<=e - x.z;{have o:decide (uO x e)=true:=BN ⟨aa,ab,ad,ae⟩;rw [o];clear o;go_enter func114,ntmps114;go_wp2_with (refine wL 46 A ?_);go_ret;exact ⟨rfl,u⟩};{have o:decide (uO x e)=false:=BC (λh=>ae h.2.2.2);rw [o];clear o;go_enter func114,ntmps114;go_wp2_with (refine wL 46 A ?_);go_ret;exact ⟨rfl,u⟩}};{have o:decide (uO x e)=false:=BC (λh=>ad h.2.2.1);rw [o];clear o;go_enter func114,ntmps114;go_wp2_with (refine wL 46 A ?_);go_ret;exact ⟨rfl,u⟩}};{have o:decide (uO x e)=false:=BC (λh=>ab h.2.1);rw [o];clear o;go_enter func114,ntmps114;go_wp2_with (refine wL 46 A ?_);go_ret;exact ⟨rfl,u⟩}};{have o:decide (uO x e)=false:=BC (λh=>aa h.1);rw [o];clear o;go_enter func114,ntmps114;go_wp2_with (refine wL 46 A ?_);go_ret;exact ⟨rfl,u⟩})
