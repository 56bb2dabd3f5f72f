/- Part of a proof. -/
import Derived.Test.YtedcppikakinoaaGreatU32
set_option linter.unusedSimpArgs false
set_option linter.unusedVariables false
set_option maxRecDepth 100000
set_option maxHeartbeats 6400000
namespace Go.Proofs.YtedcppikakinoaaGreat
open Go.Proofs.Tryz Go.RowKit
theorem Gh {α:Type}:∀(l m:List α),l.Nodup->(∀x∈l,x∈m)->l.length<=m.length
 | [],_,_,_=>BA _
 | a::r,m,hn,hs=>by
  obtain ⟨B,E,rfl⟩:=List.append_of_mem (hs a BL);have h:=Gh r (B++E) (JV.1 hn).2 (λx u=>by
   have o:=hs x (BJ _ u);have A:x≠a:=λe=>(JV.1 hn).1 (e▸u);simp only [BM,CB] at o ⊢;rcases o with o|o|o
   ·exact .inl o
   ·exact absurd o A
   ·exact .inr o)
  simp only [AB,BX] at h ⊢;omega
def lW (z:Gr):Bool:=decide (z.1.2.2.1<z.1.2.1)&&decide (0<fv z.2)
theorem Oo {o:List Gr} {r z}:z∈o.filter (mO r)↔z∈o/\z.1.2.2.1<z.1.2.1/\z.1.1 ∉ r:=by
 rw [FC];unfold mO;simp
theorem Zj {C:List Gr} {z} (E:z∈C):0<=kE (C.map (·.2))/\(kE (C.map (·.2))).toNat<C.length/\fv z.2<=fv ((C.map (·.2)).getD (kE (C.map (·.2))).toNat 0):=by
 obtain ⟨i,r,rfl⟩:=MS.1 E;have u:0<(C.map (·.2)).length:=by rw [CG];omega
 have A:=Gp (C.map (·.2)) _ u;have B:=zC (C.map (·.2)) (C.map (·.2)).length;have o:=Kv (C.map (·.2)) (C.map (·.2)).length i (by rw [CG];exact r);have e:(C.map (·.2)).getD i 0=C[i].2:=by rw [FP,DY,AC r];rfl
 rw [e] at o;rw [CG] at B;refine ⟨A,?_,o⟩;unfold kE;rw [CG] at*;omega
theorem aFa {o:List Gr} {r} (h:mJ (o.filter (mO r))=none) {z} (B:z∈o) (u:z.1.2.2.1<z.1.2.1) (A:z.1.1 ∉ r):¬0<fv z.2:=by
 intro E;obtain ⟨a,b,c⟩:=Zj (Oo.2 ⟨B,u,A⟩);unfold mJ at h;rw [AA X,AL X,AC b] at h;cases h
theorem aAP {o:List Gr} {r x} (h:mJ (o.filter (mO r))=some x):∃z∈o,z.1.1=x/\z.1.2.2.1<z.1.2.1/\x ∉ r/\0<fv z.2/\∀y∈o,y.1.2.2.1<y.1.2.1->y.1.1 ∉ r->fv y.2<=fv z.2:=by
 have V:∀y∈o,y.1.2.2.1<y.1.2.1->y.1.1 ∉ r->y∈o.filter (mO r):=λy a b c=>Oo.2 ⟨a,b,c⟩;have aa:∀y∈o.filter (mO r),y∈o/\y.1.2.2.1<y.1.2.1/\y.1.1 ∉ r:=λy a=>Oo.1 a;generalize o.filter (mO r)=C at*;unfold mJ at h;split at h;{cases h};{split at h;{rename_i af A;obtain ⟨z,B,e⟩:=CY.1 h;obtain ⟨Q,ad⟩:=AY.1 B;have ae:z∈C:=ad▸BF Q;(have u:(C.map (·.2)).getD (kE (C.map (·.2))).toNat 0=z.2:=by{rw [FP,DY,B];rfl});rw [u] at A;obtain ⟨E,H,J⟩:=aa z ae;refine ⟨z,E,e,H,e▸J,A,λy ab a b=> ?_⟩;have:=(Zj (V y ab a b)).2.2;rwa [u] at this};{cases h}}
structure sF (RW:List Gr) (nt:List Stp) (last:Nat):Prop where
 nodup:nt.Nodup
 from_:∀x∈nt,∃z∈RW,z.1.1=x/\lW z=true
 top:∀z∈RW,z.1.2.2.1<z.1.2.1->z.1.1 ∉ nt->nt= []\/fv z.2<=fv last
 fin:Fin last
theorem sF.start (o):sF o [] 0:=⟨List.Pairwise.nil,λx r=>(by cases r),λ_ _ _ _=> .inl rfl,Dx _ _,by decide⟩
theorem sF.step {r:List Gr} {u:List Stp} {ad:Nat} (h:sF r u ad) (aa:∀z∈r,Fin z.2) {z:Gr} (B:z∈r) (E:z.1.2.2.1<z.1.2.1) (H:z.1.1 ∉ u) (J:0<fv z.2) (Q:∀y∈r,y.1.2.2.1<y.1.2.1->y.1.1 ∉ u->fv y.2<=fv z.2):sF r (u++ [z.1.1]) z.2 where
 nodup:=List.nodup_append.2 ⟨h.nodup,by simp,λa V b A e=>by
  rw [BB] at A;subst e;subst A;exact H V⟩
 from_ x o:=by
  rcases BM.1 o with o|o
  ·exact h.from_ x o
  ·rw [BB] at o;exact ⟨z,B,o.symm,by unfold lW;simp [E,J]⟩
 top y hy a b:=.inr (Q y hy a (λab=>b (BM.2 (.inl ab))))
 fin:=aa z B
theorem sF.len {o r B} (h:sF o r B):r.length<=o.length:=by
 have:=Gh r (o.map (·.1.1)) h.nodup (λx u=>by
  obtain ⟨z,A,e,_⟩:=h.from_ x u;exact FM.2 ⟨z,A,e⟩)
 rwa [CG] at this
theorem sF.done {o r J} (h:sF o r J) (B:(o.map (·.1.1)).Nodup) (E:mJ (o.filter (mO r))=none):(o.filter lW).length=r.length:=by
 have Q:r.length<=(o.filter lW).length:=by
  have:=Gh r ((o.filter lW).map (·.1.1)) h.nodup (λx u=>by
   obtain ⟨z,A,e,H⟩:=h.from_ x u;exact FM.2 ⟨z,FC.2 ⟨A,H⟩,e⟩)
  rwa [CG] at this
 have V:(o.filter lW).length<=r.length:=by
  have hd:((o.filter lW).map (·.1.1)).Nodup:=List.Pairwise.sublist (List.filter_sublist.map _) B;have:=Gh ((o.filter lW).map (·.1.1)) r hd (λx u=>by
   obtain ⟨z,A,rfl⟩:=FM.1 u;obtain ⟨a,b⟩:=FC.1 A;unfold lW at b;rw [BO,BV,BV] at b;refine BI λe=> ?_;exact aFa E a b.1 e b.2)
  rwa [CG] at this
 omega
theorem one_row {o:List Gr} (B:(o.map (·.1.1)).Nodup) {i j} (u:i<o.length) (A:j<o.length) (e:(o[i]).1.1=(o[j]).1.1):i=j:=by
 have h:=JR.1 B;rcases MM i j with r|r|r;{have:=h i j (U u) (U A) r;simp only [List.getElem_map] at this;exact absurd e this};{exact r};{have:=h j i (U A) (U u) r;simp only [List.getElem_map] at this;exact absurd e.symm this}
theorem rows_nodup {U o} (B:Keyed fC U o) (u):((o.map (rowOf u)).map (·.1.1)).Nodup:=by
 rw [List.map_map];exact List.pairwise_map.2 (B.1.imp (λ{a b} hab e=>by
  have r:fC a.1 b.1:=hab;have A:a.1=b.1:=e;rw [A] at r;unfold fC at r;omega))
theorem aEJ (L z):(L++ [z]).filter lW=if z.1.2.2.1<z.1.2.1/\0<fv z.2 then L.filter lW++ [z] else L.filter lW:=by
 rw [DW];by_cases h:z.1.2.2.1<z.1.2.1/\0<fv z.2;{rw [AL h,NQ (by unfold lW;simp [h])];rfl};{rw [AA h,NR (by unfold lW;simpa using h)];simp}
theorem aFJ (ea:Value) (ai:List Rq) (w:World) (ab:pM w (λ_=>0) ea ai) (aw:Nl ai):
  Calls prog 14 #[ea] w λe w'=>e=.returned (.bool true)/\Fr No w w':=by
 (have Q:prog.follows .mixedOrders=true:=N);obtain ⟨fg,fi,rfl⟩:=ab.slice;generalize dn:(λ(e:Ending) (w':World)=>e=.returned (.bool true)/\Fr No w w')=ep;have df:Hid (∀w',Fr No w w'->ep (.returned (.bool true)) w'):=λw' f=>by rw [<-dn];exact ⟨rfl,f⟩
 clear dn;have cz:=lH ab;have cy:=lH aw;clear ab aw;go_enter func14,ntmps14;go_wp2_with fail;refine cr (Zi _) λeb ch=> ?_;have bt:=lH ch;have bx:=lH (cz.o.no (fresh0 _) ch);clear ch cz;have ah:=lH (Ql (λ_=>0) _ ai 60 eb (fresh0 eb) bx X);unfold qG at ah;cases ax:decide (ai.length<=60/\∀y∈ai,nH y) with
 | false=>
  rw [ax] at ah;clear ax;go_wp2_with fail;refine cr ah.o λcv ak=> ?_;have bu:=lH (bt.o.trans ak zq);clear ak;exact aC (df.o _ bu.o)
 | true=>
  rw [ax] at ah;have bh:=lH (DK ax);clear ax;go_wp2_with fail;refine cr ah.o λcv ak=> ?_;have bu:=lH (bt.o.trans ak zq);have cc:=lH (Vp _ ai cv (bx.o.no (fresh0 _) ak) cy (AV bh.o.1 G) bh.o.2);unfold Aq at cc;clear ak bx bt ah;go_wp2_with fail;refine cc.o.mono ?_;rintro e bo ⟨L,s,rfl,co,S,dz,bi⟩;obtain ⟨aj,er,u⟩:=bi.small (by have:=bh.o.1;omega);have ed:=lH (bu.o.trans (show Fr No cv bo from dz.fr.mono (λ_ _ e=>by unfold yB bD aK at e;omega)) zq);have ef:=lH u;have cd:=lH (Dz co 0 _ L S aj.UL bo u.at_ u.fresh u.few u.key u.small);have ca:Hid (∀x W,(S.U x).isSome=true->Fr No bo W->Calls prog 24 #[Y L.s,.agg #[Z x.1,Z x.2.1,Z x.2.2]] W (λe w'=>e=.returned (.bool true)/\Fr No W w')):=λx W du f=>by
   have:=Ug co 0 _ L S x W (u.no f).at_ u.ok (u.no f).fresh (aD9 bi.inv.pts bi.live du);rwa [du] at this
  have ce:Hid (∀bn r W,aI o8 3 W bn r->r.length<=9000->Fr No bo W->Calls prog 54 #[Y L.s,bn] W (vW W (mJ (((aj.UL.map (rowOf S.clock))).filter (mO r))))):=λbn r W bk fk f=>Kr co 0 _ L S aj.UL bn r W (u.no f) bk X;have de:=lH (rows_nodup u.key S.clock);have bg:Hid (∀z∈aj.UL.map (rowOf S.clock),Fin z.2/\(S.U z.1.1).isSome=true):=λz H=>by
   obtain ⟨y,dv,rfl⟩:=FM.1 H;refine ⟨u.small.fin dv,?_⟩;have dm:=(u.key.2 y.1 y.2).1 dv;show (S.U y.1).isSome=true;rw [dm];rfl
  (have fo:(aj.UL.map (rowOf S.clock)).length<=9000:=by rw [CG];exact u.small.few);generalize aj.UL.map _=o at*;unfold qC at cd;clear er bi dz u cc bh cy ef;go_wp2_with fail;refine cd.o.mono ?_;rintro e af ⟨v,rfl,bk,dl⟩;obtain ⟨fx,fy,rfl,ds⟩:=bk.any.rd;have dg:=lH ds;have cx:=lH dl;clear bk ds dl cd;go_wp2_with fail;go_loopw [6,7,8] (λn l a wr=>∃(r:List Stp) (ae:Nat),a=Z r.length/\l=.float .f64 ae/\r.length<=o.length/\Hid (sF o r ae)/\Hid (Own o8 3 46 wr af n r)/\Hid (Fr No af wr)) (λ_ _ a _=>o.length+1 - (intOf a).toNat);case atStart=>exact ⟨[],0,rfl,rfl,BA _,lH (sF.start o),lH Own.nil,lH (Fr.refl _)⟩
  case round=>
   obtain ⟨r,ae,rfl,rfl,fl,be,aq,bd⟩:=hrel;obtain ⟨a,eq,rfl⟩:=aq.o.shape;have bz:=lH (cx.o.trans bd zq);have fq:(r.length:Int)<=(o.length:Int):=X
   have J:=lH (ce.o _ r wr (aq.o.new Bd).any X bz);unfold vW at J;cases al:mJ (o.filter (mO r)) with
   | none=>
    have eg:=lH (be.o.done de al);rw [al] at J;dsimp only [Option.getD,Option.isSome] at J;clear al ce ca;go_wp2_with fail;refine cr J.o λan av=> ?_;have ao:Hid (Fr No af (an.alloc (.cells #[Z 0,Z 0,Z 0] 46))):=(bd.o.trans av zq).alloc _;clear av J;go_wp2_with fail;go_loopw [12,13] (λm a cw=>∃k:Nat,a=Z k/\k<=o.length/\m=Z ((o.take k).filter lW).length/\Hid (Fr No af cw)) (λ_ a _=>o.length - (intOf a).toNat);(case atStart=>exact ⟨0,rfl,BA _,rfl,ao⟩);(case round=>obtain ⟨k,rfl,ew,rfl,E⟩:=hrel;by_cases A:k<o.length;{obtain ⟨b,off,rfl,ay⟩:=dg.o.at_ k A;have ct:(k:Int)<(o.length:Int):=X;have fb:(0:Int)<=(k:Int):=X;have B:Hid (wr.rangeAt b (off+k*7) (nU o[k])):=λi cu hu=>E.o.cell_of (ay i cu hu) id;have aa:Hid ((o.take (k+1)).filter lW=if (o[k]).1.2.2.1<(o[k]).1.2.1/\0<fv (o[k]).2 then (o.take k).filter lW++ [o[k]] else (o.take k).filter lW):=lH (by rw [fE A,aEJ]);have cp:=Aa (bg.o _ (BF A)).1.1 (Dx 0 0);have ez:((o.take k).filter lW).length<=9000:=AV (IK _ _) (by rw [BZ];omega);generalize o[k]=z at*;generalize (o.take k).filter lW=dk at*;rw [J4] at cp;have fd:=B.o 3 _ rfl;have fe:=B.o 4 _ rfl;have ff:=B.o 6 _ rfl;have V:=lH E.o.drew;clear ay B E;go_wp2_with fail;by_cases aw:z.1.2.2.1<z.1.2.1;rotate_left 1;{rw [AA (λh=>aw h.1)] at aa;clear cp;refine bJ [20] ?_ Q;go_wp2_with fail;go_roundw;{exact ⟨k+1,by go_num,A,by rw [aa.o],V⟩};simp [intOf];omega};rcases cp with ⟨ab,az⟩|⟨ab,az⟩|⟨ab,az⟩;{rw [AA (λh=>by omega)] at aa;refine bJ [20] ?_ Q;go_wp2_with fail;go_roundw;{exact ⟨k+1,by go_num,A,by rw [aa.o],V⟩};simp [intOf];omega};{rw [AA (λh=>by omega)] at aa;refine bJ [20] ?_ Q;go_wp2_with fail;go_roundw;{exact ⟨k+1,by go_num,A,by rw [aa.o],V⟩};simp [intOf];omega};{rw [AL ⟨aw,ab⟩] at aa;have ga:IntKind.i64.wrap ((dk.length:Int)+1)=((dk.length+1:Nat):Int):=(by rw [BG]<;>omega);refine bJ [20] ?_ Q;go_wp2_with fail;go_roundw;{exact ⟨k+1,by go_num,A,by rw [aa.o,AB];go_num,V⟩};simp [intOf];omega}};{(obtain rfl:k=o.length:=by omega);have ct:¬(o.length:Int)<(o.length:Int):=X;rw [AX,eg.o];exact aC (df.o _ (ed.o.trans (cx.o.trans E zq) zq))})
   | some x=>
    obtain ⟨z,H,am,bl,cn,dw,dx⟩:=aAP al;obtain ⟨ad,ev,dy⟩:=MS.1 H;have cb:=lH (be.o.step (λz H=>(bg.o z H).1) H bl (by rw [am];exact cn) dw dx);rw [am] at cb;have ex:=cb.o.len;rw [AB,AO] at ex;have fs:¬(r.length:Int)=(o.length:Int):=X;have dp:=(bg.o z H).2;rw [am] at dp;have el:=lH (be.o.top z H bl (by rw [am];exact cn));have ej:=lH (Aa (bg.o z H).1.1 be.o.fin.1);have dj:=lH am;have cf:=lH dy;have en:=lH bl;rw [al] at J;dsimp only [Option.getD,Option.isSome] at J;clear al H am dw dx ce dy bl;go_wp2_with fail;refine cr J.o λan av=> ?_;have ao:Hid (Fr No wr (an.alloc (.cells #[Z x.1,Z x.2.1,Z x.2.2] 46))):=av.alloc _;have ar:=lH (aT an (.cells #[Z x.1,Z x.2.1,Z x.2.2] 46));clear av J;generalize dt:an.alloc _=ec at*;have dh:=lH dt;have bc:=lH (Yj _ r x ec ((aq.o.no ao).new Bd).any X);unfold aY at bc;rw [BC cn] at bc;clear dt;go_upto_region 14 with (rw [dh.o]);generalize et:an.heap.size=ag at*;clear et dh;have bp:=aA ar.o 0;have bq:=aA ar.o 1;have br:ec.cell? (I ag 2)=some _:=aA ar.o 2;go_wp2_with fail;refine cr bc.o λw8 ci=> ?_;have bv:Hid (Fr No wr w8):=ao.o.trans ci zq;have au:=lH (ci.aB ar id);have db:=lH (ca.o x w8 dp (bz.o.trans bv zq));clear bp bq br ci bc ao ar ca;have bp:w8.cell? (I ag 0)=some _:=aA au.o 0;have bq:w8.cell? (I ag 1)=some _:=aA au.o 1;have br:w8.cell? (I ag 2)=some _:=aA au.o 2;go_wp2_with fail;refine cr db.o λbb cj=> ?_;have bw:Hid (Fr No wr bb):=bv.o.trans cj zq;have ee:Hid (Fr No af bb):=bd.o.trans bw zq;have ek:Hid (Own o8 3 46 bb af (.slice a r.length eq) r):=aq.o.no bw.o;have eo:=lH (cj.aB au id);clear bp bq br cj db bv au aq bd bz bw;go_wp2_with fail;go_loopw [7,11] (λl a cw=>∃k:Nat,a=Z k/\k<=o.length/\l=.float .f64 (if k<=ad then ae else z.2)/\Hid (Fr No bb cw)) (λ_ a _=>o.length - (intOf a).toNat);case atStart=>exact ⟨0,rfl,BA _,by rw [AL (BA _)],lH (Fr.refl _)⟩
    case round=>
     obtain ⟨k,rfl,ew,rfl,E⟩:=hrel;obtain ⟨bm,cl⟩:∃bm,bm=(if k<=ad then ae else z.2):=⟨_,rfl⟩;rw [<-cl];have bf:=lH cl;clear cl;have cg:=lH (E.o.aB eo id);have bp:wr.cell? (I ag 0)=some _:=aA cg.o 0;have bq:wr.cell? (I ag 1)=some _:=aA cg.o 1;have br:wr.cell? (I ag 2)=some _:=aA cg.o 2;have dd:=lH (ee.o.trans E zq);by_cases A:k<o.length
     ·obtain ⟨b,off,rfl,ay⟩:=dg.o.at_ k A;have ct:(k:Int)<(o.length:Int):=X;have fb:(0:Int)<=(k:Int):=X;have B:Hid (wr.rangeAt b (off+k*7) (nU o[k])):=λi cu hu=>dd.o.cell_of (ay i cu hu) id;have dc:Hid ((o[k]).1.1=x↔k=ad):=lH ⟨λe=>one_row de A ev (by rw [e,cf.o,dj.o]),λe=>by subst e;rw [cf.o,dj.o]⟩;(have di:Hid (k=ad->o[k]=z):=λe=>by subst e;exact cf.o);have da:=λ(W:World)=>xY (o[k]).1.1 x W;generalize o[k]=y at*;have ft:wr.cell? (I b (off+k*7))=some (Z y.1.1.1):=B.o 0 _ rfl;have fu:wr.cell? (I b (off+k*7+1))=some (Z y.1.1.2.1):=B.o 1 _ rfl;have fw:wr.cell? (I b (off+k*7+2))=some (Z y.1.1.2.2):=B.o 2 _ rfl;have fd:wr.cell? (I b (off+k*7+3))=some (Z y.1.2.1):=B.o 3 _ rfl;have fe:wr.cell? (I b (off+k*7+4))=some (Z y.1.2.2.1):=B.o 4 _ rfl;have ff:wr.cell? (I b (off+k*7+6))=some (.float .f64 y.2):=B.o 6 _ rfl;clear ay B;go_wp2_with fail;by_cases bj:k=ad;rotate_left 1
      ·have ap:Hid (bm=if k+1<=ad then ae else z.2):=lH (by
        rw [bf.o];by_cases h:k<=ad;{rw [AL h,AL X]}
        ·rw [AA h,AA X])
       rw [BC (λh=>bj (dc.o.1 h))] at da;refine bJ [7] ?_ Q;go_wp2_with fail;go_roundw;{exact ⟨k+1,by go_num,A,by rw [ap.o],lH E.o.drew⟩};simp [intOf];omega
      have fa:=di.o bj;rw [BN (dc.o.2 bj)] at da;subst fa;have ap:Hid ((if k+1<=ad then ae else y.2)=y.2):=AA X;have ck:bm=ae:=bf.o.trans (AL X);subst ck;have V:Hid (Fr No bb wr.drew.drew):=E.o.drew.drew;have ab:=en.o;clear bj di bf;refine bJ [7] ?_ Q;go_wp2_with fail;have D1:Hid (decide (y.1.2.1<=y.1.2.2.1)=false):=BC X;by_cases cm:r= [];{(have fc:¬(0:Int)<(r.length:Int):=by rw [cm];decide);refine bJ [25] ?_ Q;go_wp2_with fail;go_roundw;{exact ⟨k+1,by go_num,A,by rw [ap.o],V⟩};simp [intOf];omega};(have fc:(0:Int)<(r.length:Int):=by{have:=JG.2 cm;omega});have D2:Hid (decide (0<r.length)=true):=BN X;have ez:=el.o.resolve_left cm;rcases ej.o with ⟨_,az⟩|⟨_,az⟩|⟨dm,az⟩;{refine bJ [25] ?_ Q;go_wp2_with fail;go_roundw;{exact ⟨k+1,by go_num,A,by rw [ap.o],V⟩};simp [intOf];omega};{refine bJ [25] ?_ Q;go_wp2_with fail;go_roundw;{exact ⟨k+1,by go_num,A,by rw [ap.o],V⟩};simp [intOf];omega};{omega}
     {(obtain rfl:k=o.length:=by omega);have ct:¬(o.length:Int)<(o.length:Int):=X;have ck:=bf.o.trans (AA X);subst ck;have ei:=lH (ek.o.no E);go_wp2_with (at_builtin;(refine Dj Bd R _ _ R af _ r x R (ei.o.alloc _) wr R (0,0) _ (by exact AQ _ _) R X af (by exact dd.o.alloc _) R ?_);refine yJ ?_);refine Stop.go ?_;intro fj fh fz dr dq eu;have em:=lH dr;have eh:=lH dq;clear dr dq eu;go_wp2_with fail;go_roundw;{exact ⟨r++ [x],z.2,by rw [AB];go_num,rfl,by simp;omega,cb,lH (by have:=em.o;simpa using this),eh⟩};simp [intOf];omega}
