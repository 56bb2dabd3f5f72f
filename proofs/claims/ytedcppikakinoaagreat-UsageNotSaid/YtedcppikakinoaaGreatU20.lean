/- Part of a proof. -/
import Derived.Test.YtedcppikakinoaaGreatU16
set_option linter.unusedSimpArgs false
set_option linter.unusedVariables false
set_option maxRecDepth 100000
set_option maxHeartbeats 12800000
namespace Go.Proofs.YtedcppikakinoaaGreat
open Go.Proofs.Tryz Go.RowKit
theorem Gv {T} (B:dK T) {l} (h:(bV T l).1=0):1<=(bV T l).2/\(bV T l).2<=128:=by
 have a:=Dw B h;(have e:(bV T l).2=free T:=by{unfold bV at h ⊢;split at h;{cases h};{split at h;{rename_i o;exact absurd h o};{split at h;{cases h};{split at h;{cases h};{rename_i o r u A;rw [AA o,AA r,AA u,AA A]}}}}});rw [e];exact ⟨by have:=a.two;omega,a.most⟩
def lS (S:St) (r:aG):St:={S with T:=gX S.T r.path r.dir,F:=if r.dir=true then S.F else aS S.F (bV S.T r.path).2 (some nJ)}
def lD (S:St) (r:aG):Int×aX×St:=
 if (bV S.T r.path).1=0 then (0,jD 0 (bV S.T r.path).2 0 0 0 false,lS S r) else ((bV S.T r.path).1,bU,S)
theorem Jl {S} (ok:aH S) {r} (h:(bV S.T r.path).1=0):aH (lS S r):=by
 unfold lS;(cases r.dir with|true=>exact ok.nI (E8 ok.tree r.path true)|false=>exact aH.uU (S:={S with T:=gX S.T r.path false}) (ok.nI (E8 ok.tree r.path false)) (Gv ok.tree h) aF7)
theorem bH.no' {C w w' u o r K n L S x J e} (E:aF w o) (f:Fr No w w') (s:Step C w' o u r) (A:∀c,C c->bD K c) (t:aV u r K L S n) (H:x≠0) (B:e=.panicked (kF x)):bH w o K L n (x,J,S) e u:=
 ⟨⟨r,((Step.no E f).trans s (λ_ e=>e)).mono A,t⟩,by rw [AA H];exact B⟩
theorem aAa (w):Calls prog 157 #[] w λe w'=>e=.returned (Y w)/\Hid (w'=vZ w):=(aB0 w).mono (λ_ _ h=>⟨h.1,lH h.2⟩)
theorem aCj (r K n L S o an ak w) (h:aV w r K L S n) (ok:aH S) (H:aF w r) (bo:o.path.length<=1000000) (bp:n<4611686018427387904):
  Calls prog 102 #[Y L.s,.agg (o.cells an ak)] w (bH w r K L (n+1) (lD S o)):=by
 obtain ⟨bm,bb,bc,ai,ah⟩:=begun h ok H o an ak;have bv:=lH bm;have ap:Hid (∀w',Fr No (dJ w o an ak) w'->Calls prog 156 #[Y L.tr,(ba o.path),o.dir] w' (wI w' r K L.tr S.T o.path o.dir)):=
  lH (λw' f=>aBj r K L.tr S.T o.path o.dir w' bo ((ai.no ok ah f).tree) ok.tree (noS ah f).fresh)
 have ca:Hid (∀ab aa,Step (dM K) (dJ w o an ak).drew r ab aa->eG ab aa K L.tr (gX S.T o.path o.dir)->aV ab aa K L {S with T:=gX S.T o.path o.dir} n/\aH {S with T:=gX S.T o.path o.dir}):=
  lH (λab aa s t=>⟨(ai.no ok ah (Fr.refl _).drew).nI ok s t,ok.nI (E8 ok.tree _ _)⟩)
 have bf:Hid ((bV S.T o.path).1≠0->gX S.T o.path o.dir=S.T):=λJ=>AA J;have bh:Hid ((bV S.T o.path).1≠0->∀e w' u Q,e=.panicked (kF (bV S.T o.path).1)->Fr No w w'->Step (dM K) w' r u Q->aV u Q K L S n->bH w r K L (n+1) (lD S o) e u):=λJ e w' u Q E f s t=>by
  unfold lD;rw [AA J];exact bH.no' H f s (λ_ e=>zM e) (t.more (CE n)) J E
 have ar:Hid ((bV S.T o.path).1=0->∀e w' u ad Q,e=.returned (lQ 0 (bV S.T o.path).2 0 0 0 false)->Fr No w w'->w.heap.size+1<w'.heap.size->Step (λc=>dM K c\/c=K+6) w' r u Q->aV u Q K L (lS S o) (n+1)->Fr (λj=>j=w.heap.size+1) u ad->bH w r K L (n+1) (lD S o) e ad):=λam e w' u ad Q E f cl s t g=>by
  unfold lD;rw [AL am];exact bH.yes H f s (λc e=>by rcases e with e|e;exact zM e;unfold bD;omega) X cl g (Jl ok am) t E (mY.plain _ _ _ _ _ _ _)
 generalize ck:bH w r K L (n+1) _=cp at*;clear ck;have aq:Hid (lS S o={S with T:=gX S.T o.path o.dir,F:=if o.dir=true then S.F else aS S.F (bV S.T o.path).2 (some nJ)}):=lH rfl;generalize lS S o=ct at*;have bg:=lH (λam=>Gv ok.tree (l:=o.path) am);have ce:Hid (¬dM K (r L.s)):=lH (by rw [h.own];unfold dM;omega);have bj:Hid (¬dM K (r w)):=lH (by rw [H _ (AU _)];unfold dM;omega);have cd:Hid (¬dM K (r (w.heap.size+1))):=lH (by rw [H _ (CE _)];unfold dM;omega);have cf:=lH (H _ (CE _));have bx:=lH ai;have bz:=lH bp;clear ai ah bm h ok H bo bp;unfold wI at ap;generalize bV S.T o.path=ch at*;obtain ⟨ax,i⟩:=ch;dsimp only at ap bh ar bg bf aq;generalize gX S.T o.path o.dir=cu at*;unfold dJ aG.cells bU aX.cells at*;generalize cz:o.dir=rd at*;go_enter func102,ntmps102;go_wp2_with fail;generalize (w.alloc _).alloc _=w0 at*;have B1:=lH (lt_of_block bc);generalize cw:w.heap.size=B at*;have ci:w0.cell? (I L.s 9)=some (Y L.tr):=bx.o.cell 9;have cj:w0.cell? (I B 4)=some (.string (ba o.path)):=aA bb _;have d6:w0.cell? (I B 6)=some (.bool rd):=aA bb _;have cb:=lH bc;clear bb bc;go_region_held3 (λw'=>w'.cell? (I L.s 9)=some (Y L.tr)/\w'.cell? (I B 4)=some (.string (ba o.path))/\w'.cell? (I B 6)=some (.bool rd)) (first|go_keep|(go_split_ands;refine ⟨?_,?_,?_⟩<;>exact ag.fr.cell_of (by assumption) (by first|exact ce.o|exact bj.o)))
  ((go_at_call 156;refine (ap.o _ (Fr.refl _).drew).mono ?_;rintro e ab ⟨rfl,aa,ag,bt⟩))
 have aw:Hid (B+1<w0.drew.heap.size):=lH (U B1.o);have ao:=lH (bv.o.trans (Fr.refl w0).drew zq);obtain ⟨br,bq⟩:=ca.o ab aa ag bt;have aj:=lH br;have bk:=lH bq;have S1:=lH ag;have av:=lH (ag.fr.aB ((Fr.refl (S:=No) w0).drew.aB cb id) cd);clear br bq ag bt ci cj;cases az:(ax==0) with
 | false=>
  have J:ax≠0:=by simpa using az
  have ae:=lH (bh.o J _ _ _ _ rfl ao S1 (by have:=aj.o;rw [bf.o J] at this;exact this));go_wp2_with fail;refine cr (iD _ _) ?_;rintro A rfl;go_wp2_with fail;exact ⟨rfl,ae⟩
 | true=>
  obtain rfl:ax=0:=by simpa using az
  clear az;have cy:=bg.o rfl;have cx:∀w':World,(Instr.build 29 #[(1,Z i)]).run prog w'=.ok (.agg #[Z 0,i,Z 0,Z 0,Z 0,false,nS,nS]) w':=λw'=>by kernel_rfl
  have co:=S1.o.fr.cell_of d6 bj.o;cases rd with
  | true=>
   have ae:=lH (λe ad E g=>ar.o rfl e _ _ ad _ E ao aw (S1.o.mono (λ_ h=> .inl h)) (by rw [aq.o,AL rfl];exact aj.o.more (CE n)) g);go_wp2_with fail;refine cr (iU _ _) ?_;rintro A rfl;go_wp2_with (refine wS 29 (cs:= #[Z 0,i,Z 0,Z 0,Z 0,false,nS,nS]) av ?_);have au:=aW (cs':= #[Z 0,i,Z 0,Z 0,Z 0,false,nS,nS]) av.o;exact AZ (v:=lQ 0 i 0 0 0 false) (BH rfl _ _ (B+1) 29 _ (0,0) _ rfl au underlying29 rfl Tryz.size29) rfl
    (ae.o _ _ rfl (fR))
  | false=>
   have cv:ab.cell? (I L.s 11)=some (.map (some L.fl)):=aj.o.cell 11;go_wp2_with fail;refine cr (iU _ _) ?_;rintro A rfl;go_wp2_with fail;have af:=lH (aj.o.no bk S1.o.fresh (Fr.refl A).drew);have bw:Hid (aF A.drew aa):=lH (noS S1.o.fresh (Fr.refl A).drew).fresh;have cc:Hid (L.s≠L.fl):=lH (by
    intro e;have a:=af.o.own;have b:=af.o.files.1;rw [e] at a;omega)
   go_region_held3 (λw'=>w'.cell? (I L.s 11)=some (.map (some L.fl))) (first|go_keep|exact ay.cell_of (by assumption) id|exact al.cell_of (by assumption) cc)
    ((go_at_call 157;refine (aAa _).mono ?_;rintro e bu ⟨rfl,bn⟩;have ay:Fr No A.drew bu:=(by rw [bn.o];exact (Fr.refl _).alloc _);obtain ⟨cn,hu,al,bd,be⟩:=lN.make af.o.files bw i X bz.o;rw [<-bn.o] at hu al;have cm:(Instr.mapUpdate 128 (.map (some L.fl)) (Z i) _).run prog bu=.ok () cn:=(U hu)))
   have cg:=lH ((S1.o.mono (λ_ h=> .inl h)).trans ((Step.no S1.o.fresh (Fr.refl A).drew).trans (bd.mono (λ_ h=>Or.inr h)) (λ_ e=>e)) (λ_ e=>e));have bl:=af.o.P9 (CE n) bk bd be;have bi:=lH (al.aB (ay.aB ((Fr.refl (S:=No) A).drew.aB av id) id) (by
    intro e;have a:=S1.o.old _ aw.o;have b:=af.o.files.1;rw [cf.o,e,b] at a;omega))
   have ae:=lH (λe ad E g=>ar.o trivial e _ _ ad _ E ao aw cg (by rw [aq.o,AA G];exact bl) g);clear hu cm al bd be ay bl;go_wp2_with (refine wS 29 bi ?_);have au:=aW (cs':= #[Z 0,i,Z 0,Z 0,Z 0,false,nS,nS]) bi.o;exact AZ (v:=lQ 0 i 0 0 0 false) (BH rfl _ _ (B+1) 29 _ (0,0) _ rfl au underlying29 rfl Tryz.size29) rfl
    (ae.o _ _ rfl fR)
structure Ha (S:St):Prop where
 tok:∀x∈S.K,∃i m,x.i=((i:Nat):Int)/\i<=128/\S.F i=some m
 fit:∀i m,S.F i=some m->Fe m
 dir:∀k x,S.T k=some x->x.dir=false->∃m,S.F k=some m
 small:∀x∈S.K,small x
 few:S.K.length<=1000000
def mapD (S:St) (r:aG):Int×aX×St:=match dF S.K r.c r.h with
 | none=>(13,bU,S)
 | some x=>(0,qU x.i.toNat ((S.F x.i.toNat).getD nJ) 0,S)
theorem L6 {w B K k L} (h:kQ w B K k L):∃v,w.heap[k]? =some (.cells #[true,v] 187 (0,0))/\oH w v L:=by
 obtain ⟨_,v,r,o⟩:=h;refine ⟨v,r,?_⟩;rcases o with o|⟨b,cap,e,u,_,A⟩;{exact .inl o};{exact .inr ⟨b,cap,e,u,A⟩}
theorem aEq (u K n L S o ad Q w) (h:aV w u K L S n) (ok:aH S) (aj:Ha S) (E:aF w u):
  Calls prog 109 #[Y L.s,.agg (o.cells ad Q)] w (bH w u K L n (mapD S o)):=by
 have cb:prog.follows .mixedOrders=true:=N
 obtain ⟨aa,ar,au,H,ag⟩:=begun h ok E o ad Q;have av:=lH aa;have bb:Hid (∀w',Fr No (dJ w o ad Q) w'->Calls prog 163 #[Y L.tk,o.c,o.h] w' λe cc=>e=.returned (.tuple #[kJ ((dF S.K o.c o.h).getD gY),.bool (dF S.K o.c o.h).isSome])/\Fr No w' cc):=
  lH (λw' f=>by
   obtain ⟨v,ak,bg⟩:=L6 (H.no ok ag f).tok;exact Ew L.tk v S.K o.c o.h w' ak bg)
 have bp:Hid (∀x,dF S.K o.c o.h=some x->∃i m,x.i=((i:Nat):Int)/\S.F i=some m/\∀w',Fr No (dJ w o ad Q) w'->Calls prog 162 #[Y L.s,i] w' (Me w' i m)):=
  lH (λx aq=>by
   obtain ⟨i,m,ak,bg,al⟩:=aj.tok x (DF aq);exact ⟨i,m,ak,al,λw' f=>P5 u K n L S i m w' (H.no ok ag f) X al (aj.fit i m al)⟩)
 have bt:Hid (dF S.K o.c o.h=none->∀e w',e=.panicked (kF 13)->Fr No w w'->bH w u K L n (mapD S o) e w'):=λao e w' am f=>by
  unfold mapD;rw [ao];exact bH.no h ok E G am f
 have br:Hid (∀x i m,dF S.K o.c o.h=some x->x.i=((i:Nat):Int)->S.F i=some m->∀v b c e w' A,e=.returned (.agg #[Z 0,i,m.size,Z 0,Z 0,false,nS,v])->Fr No w w'->w.heap.size+1<w'.heap.size->fH A v (mW m) b 0 c->w.heap.size<=b->Fr (λj=>j=w.heap.size+1) w' A->bH w u K L n (mapD S o) e A):=λx i m aq bx an v b c e w' A am f ca ap ab g=>by
  unfold mapD;rw [aq];dsimp only;rw [bx,FH,an];exact bH.yes (C:=λ_=>False) E f (Step.refl (noS E f).fresh) (λ_ e=>e.elim) X ca g ok (h.no ok E f) am ⟨_,_,rfl,.inl ⟨rfl,rfl⟩,.inr ⟨b,0,c,ap,ap.2.2.1⟩,Low.nil _,Low.at ap.1 ab⟩
 generalize bw:bH w u K L n _=cd at*;clear bw;have bo:=lH H;clear H ag aa h ok E aj;generalize dF S.K o.c o.h=r at*;unfold dJ aG.cells bU aX.cells at*;unfold kJ at bb;go_enter func109,ntmps109;go_wp2_with fail;generalize (w.alloc _).alloc _=w0 at*;have B1:=lH (lt_of_block au);generalize cf:w.heap.size=B at*;have C1:w0.cell? (I L.s 10)=some (Y L.tk):=bo.o.cell 10;have C2:w0.cell? (I B 0)=some (Z o.c):=aA ar _;have C3:w0.cell? (I B 9)=some (Z o.h):=aA ar _;have bu:=lH au;clear ar au;refine xA 5 undef #[Z 0,Z 0,Z 0,false] 53 13 [14,15] ?_ cb;refine xC bb.o ?_;refine xB ?_;refine xE ?_;intro W bd aa be bh;have ai:=lH bh;have aw:=lH be;clear bh be;simp only [EE,FW,GK,EH,ES,pT,aJ,lsS];have bq:=lH (show (#[.int .i64 (r.getD gY).c,.int .i64 (r.getD gY).h,.int .i64 (r.getD gY).i,.bool (r.getD gY).wr]:Array Value).all (·.oneCell')=true from by simp [Value.oneCell']);refine wS 53 ai ?_;go_wp2_with fail;have az:=lH aa.size;have bc:=aW (cs':= #[.int .i64 (r.getD gY).c,.int .i64 (r.getD gY).h,.int .i64 (r.getD gY).i,.bool (r.getD gY).wr]) ai.o;cases r with
 | none=>
  go_wp2_with fail;refine cr (iD _ _) ?_;rintro cg rfl;go_wp2_with fail;refine ⟨rfl,bt trivial _ _ rfl (av.o.trans (Fr.setRow aw (.inr az) _) zq)⟩
 | some x=>
  obtain ⟨i,m,bi,an,bm⟩:=bp.o x rfl;obtain ⟨bj,bk,ch,bl⟩:=x;dsimp only at bi;subst bi;dsimp only [Option.getD_some] at bc ai bq ⊢;have af:Hid (Fr No w0 (bd.setRow W #[bj,bk,i,bl])):=Fr.setRow aw (.inr az) _;have ce:(bd.setRow W #[bj,bk,i,bl]).cell? (I W 2)=some (Z i):=aA bc _;have bn:=lH (bm _ af);go_wp2_with fail;refine cq (iU _ _) ?_;go_wp2_with fail;refine bn.o.mono ?_;rintro e A ⟨v,b,c,rfl,bf,sl,ab⟩;obtain rfl:=sl.1;have ax:=lH (af.o.trans bf zq);have ah:=lH (ax.o.aB bu id);have J:=lH sl;have ay:=lH (AP (AP B1 af.o.size) ab);clear bf sl ab;go_wp2_with (refine wS 29 ah ?_);have bv:=aW (cs':= #[Z 0,i,m.size,Z 0,Z 0,false,nS,O b (mW m).length c]) ah.o;have ae:Fr (λj=>j=B+1) A (A.setRow (B+1) #[Z 0,i,m.size,Z 0,Z 0,false,nS,O b (mW m).length c]):=fR;have ao:b≠B+1:=by have:=ay.o;omega
  exact AZ (v:=.agg _) (BH rfl _ _ (B+1) 29 _ (0,0) _ rfl bv underlying29 rfl Tryz.size29) rfl
   (br.o _ i m rfl rfl an _ b c _ _ _ rfl (av.o.trans ax zq) (lt_of_block ah) ⟨J.o.1,J.o.2.1,AP J.o.2.2.1 ae.size,λj y bz=>ae.cell_of (J.o.2.2.2 j y bz) ao⟩ (by have:=ay.o;omega) ae)
def Bh (w:World) (d:Dl) (e:Ending) (w':World):Prop:=e=.returned (.bool (decide (dP d)))/\Fr No w w'
theorem Vm (d w):Calls prog 113 #[iV d] w (Bh w d):=by
 have dd:Fr No w (w.alloc (.cells (dE d).toArray 61)):=(Fr.refl w).alloc _;have dk:iH (w.alloc (.cells (dE d).toArray 61)) w d:=aT w _;have ad:Hid (∀(cb:Bool) e w',(cb=true↔dP d)->e=.returned (.bool cb)->Fr No w w'->Bh w d e w'):=λcb e w' h dp f=>by
  (have:decide (dP d)=cb:=by{(cases cb);{rw [EI];intro dq;cases h.2 dq};{rw [BV];exact h.1 rfl}});exact ⟨by rw [this];exact dp,f⟩
 generalize Bh w d=dy at*;have E:Hid (dP d↔2<=d.i/\d.i<=128/\0<=d.b/\d.b<64/\0<=d.s/\d.s<=4096/\dW d.t/\dW d.o/\((d.k=1/\d.o=aQ)\/(d.k=2/\d.o=aQ/\d.t=aQ/\d.b=0)\/(d.k=3/\d.s=0))):=Iff.rfl;have aa:Hid (∀W,Calls prog 165 #[dG d.t] W (wU W d.t)):=λW=>Ez d.t W;have ab:Hid (∀W,Calls prog 165 #[dG d.o] W (wU W d.o)):=λW=>Ez d.o W;have ao:Hid (∀W,Calls prog 166 #[dG d.t] W λe w'=>e=.returned (.bool (decide (d.t=aQ)))/\Fr No W w'):=λW=>yN 166 (.inr rfl) d.t W;have ai:Hid (∀W,Calls prog 166 #[dG d.o] W λe w'=>e=.returned (.bool (decide (d.o=aQ)))/\Fr No W w'):=λW=>yN 166 (.inr rfl) d.o W;unfold wU at aa ab;have H:=lH dd;have Q:=lH dk;unfold dG at*;unfold iV;unfold dE at H Q;clear dd dk;have al:Hid (decide (dW d.t)=true↔dW d.t):=JQ;have ak:Hid (decide (dW d.o)=true↔dW d.o):=JQ;have an:Hid (decide (d.t=aQ)=true↔d.t=aQ):=JQ;have aj:Hid (decide (d.o=aQ)=true↔d.o=aQ):=JQ;generalize decide (dW d.t)=dm at*;generalize decide (dW d.o)=dl at*;generalize decide (d.t=aQ)=dx at*;generalize decide (d.o=aQ)=dc at*;by_cases de:2<=d.i;rotate_left 1;{have o:Hid (false=true↔dP d):=lH (by rw [E.o];constructor;intro h;cases h;rintro ⟨a0,a1,a2,a3,a4,bj,_⟩;exact absurd a0 de);clear E aa ab ao ai al ak an aj Q;go_enter func113,ntmps113;exact aC (ad.o false _ _ o rfl H.o)};by_cases df:d.i<=128;rotate_left 1;{have o:Hid (false=true↔dP d):=lH (by rw [E.o];constructor;intro h;cases h;rintro ⟨a0,a1,a2,a3,a4,bj,_⟩;exact absurd a1 df);clear E aa ab ao ai al ak an aj Q;go_enter func113,ntmps113;exact aC (ad.o false _ _ o rfl H.o)};by_cases dg:0<=d.b;rotate_left 1;{have o:Hid (false=true↔dP d):=lH (by rw [E.o];constructor;intro h;cases h;rintro ⟨a0,a1,a2,a3,a4,bj,_⟩;exact absurd a2 dg);clear E aa ab ao ai al ak an aj Q;go_enter func113,ntmps113;exact aC (ad.o false _ _ o rfl H.o)};by_cases dh:d.b<64;rotate_left 1;{have o:Hid (false=true↔dP d):=lH (by rw [E.o];constructor;intro h;cases h;rintro ⟨a0,a1,a2,a3,a4,bj,_⟩;exact absurd a3 dh);clear E aa ab ao ai al ak an aj Q;go_enter func113,ntmps113;exact aC (ad.o false _ _ o rfl H.o)};by_cases di:0<=d.s;rotate_left 1;{have o:Hid (false=true↔dP d):=lH (by rw [E.o];constructor;intro h;cases h;rintro ⟨a0,a1,a2,a3,a4,bj,_⟩;exact absurd a4 di);clear E aa ab ao ai al ak an aj Q;go_enter func113,ntmps113;exact aC (ad.o false _ _ o rfl H.o)};by_cases dj:d.s<=4096;rotate_left 1;{have o:Hid (false=true↔dP d):=lH (by rw [E.o];constructor;intro h;cases h;rintro ⟨a0,a1,a2,a3,a4,bj,_⟩;exact absurd bj dj);clear E aa ab ao ai al ak an aj Q;go_enter func113,ntmps113;exact aC (ad.o false _ _ o rfl H.o)};rcases LK dm with ch|ch;rotate_left 1;{subst ch;have o:Hid (false=true↔dP d):=lH (by rw [E.o,<-al.o];simp);go_enter func113,ntmps113;go_wp2_with fail;refine cr (aa.o _) λaq r=> ?_;have J:=lH (H.o.trans r zq);have u:=lH (iH.fr Q r);obtain ⟨ar,au,az,bb,bc,bd,be,bf,bg,bh,av,aw,ax,ay⟩:=u.o.cells;exact aC (ad.o false _ _ o rfl J.o)};subst ch;rcases LK dl with cg|cg;rotate_left 1;{subst cg;have o:Hid (false=true↔dP d):=lH (by rw [E.o,<-ak.o];simp);go_enter func113,ntmps113;go_wp2_with fail;refine cr (aa.o _) λaq r=> ?_;have J:=lH (H.o.trans r zq);have u:=lH (iH.fr Q r);obtain ⟨ar,au,az,bb,bc,bd,be,bf,bg,bh,av,aw,ax,ay⟩:=u.o.cells;go_wp2_with fail;refine cr (ab.o _) λv A=> ?_;have ae:=lH (J.o.trans A zq);have B:=lH (iH.fr u A);obtain ⟨ah,bl,bq,br,bt,bu,bv,bw,bx,bz,bm,bn,bo,bp⟩:=B.o.cells;exact aC (ad.o false _ _ o rfl ae.o)};subst cg;have bi:Hid (dP d↔((d.k=1/\d.o=aQ)\/(d.k=2/\d.o=aQ/\d.t=aQ/\d.b=0)\/(d.k=3/\d.s=0))):=lH (by rw [E.o,<-al.o,<-ak.o];simp [de,df,dg,dh,di,dj]);clear E al ak;by_cases bk:d.k=1;{have o:Hid (dc=true↔dP d):=lH (by rw [bi.o,aj.o];simp [bk]);have af:=lH bk;clear bk;go_enter func113,ntmps113;go_wp2_with fail;refine cr (aa.o _) λaq r=> ?_;have J:=lH (H.o.trans r zq);have u:=lH (iH.fr Q r);obtain ⟨ar,au,az,bb,bc,bd,be,bf,bg,bh,av,aw,ax,ay⟩:=u.o.cells;go_wp2_with fail;refine cr (ab.o _) λv A=> ?_;have ae:=lH (J.o.trans A zq);have B:=lH (iH.fr u A);obtain ⟨ah,bl,bq,br,bt,bu,bv,bw,bx,bz,bm,bn,bo,bp⟩:=B.o.cells;rw [af.o] at ah;go_wp2_with fail;refine cr (ai.o _) λx ag=> ?_;have ap:=lH (ae.o.trans ag zq);have am:=lH (iH.fr B ag);obtain ⟨cl,cm,cu,cv,cw,cx,cy,cz,da,db,cn,co,cp,ct⟩:=am.o.cells;exact aC (ad.o dc _ _ o rfl ap.o)};by_cases cc:d.k=2
 {have af:=lH cc;clear bk cc;rcases LK dc with cj|cj;rotate_left 1;{subst cj;have o:Hid (false=true↔dP d):=lH (by rw [bi.o,af.o,<-aj.o];simp);go_enter func113,ntmps113;go_wp2_with fail;refine cr (aa.o _) λaq r=> ?_;have J:=lH (H.o.trans r zq);have u:=lH (iH.fr Q r);obtain ⟨ar,au,az,bb,bc,bd,be,bf,bg,bh,av,aw,ax,ay⟩:=u.o.cells;go_wp2_with fail;refine cr (ab.o _) λv A=> ?_;have ae:=lH (J.o.trans A zq);have B:=lH (iH.fr u A);obtain ⟨ah,bl,bq,br,bt,bu,bv,bw,bx,bz,bm,bn,bo,bp⟩:=B.o.cells;rw [af.o] at ah;go_wp2_with fail;refine cr (ai.o _) λx ag=> ?_;have ap:=lH (ae.o.trans ag zq);have am:=lH (iH.fr B ag);obtain ⟨cl,cm,cu,cv,cw,cx,cy,cz,da,db,cn,co,cp,ct⟩:=am.o.cells;exact aC (ad.o false _ _ o rfl ap.o)};subst cj;rcases LK dx with ck|ck;rotate_left 1;{subst ck;have o:Hid (false=true↔dP d):=lH (by rw [bi.o,af.o,<-an.o];simp);go_enter func113,ntmps113;go_wp2_with fail;refine cr (aa.o _) λaq r=> ?_;have J:=lH (H.o.trans r zq);have u:=lH (iH.fr Q r);obtain ⟨ar,au,az,bb,bc,bd,be,bf,bg,bh,av,aw,ax,ay⟩:=u.o.cells;go_wp2_with fail;refine cr (ab.o _) λv A=> ?_;have ae:=lH (J.o.trans A zq);have B:=lH (iH.fr u A);obtain ⟨ah,bl,bq,br,bt,bu,bv,bw,bx,bz,bm,bn,bo,bp⟩:=B.o.cells;rw [af.o] at ah;go_wp2_with fail;refine cr (ai.o _) λx ag=> ?_;have ap:=lH (ae.o.trans ag zq);have am:=lH (iH.fr B ag);obtain ⟨cl,cm,cu,cv,cw,cx,cy,cz,da,db,cn,co,cp,ct⟩:=am.o.cells;go_wp2_with fail;refine cr (ao.o _) λy ca=> ?_;have cd:=lH (ap.o.trans ca zq);have ce:=lH (iH.fr am ca);obtain ⟨y0,y1,y2,y3,y4,y5,y6,y7,dv,dw,dr,ds,dt,du⟩:=ce.o.cells;exact aC (ad.o false _ _ o rfl cd.o)};subst ck;have o:Hid ((d.b==0)=true↔dP d):=lH (by rw [bi.o,af.o,<-aj.o,<-an.o];simp);generalize dn:(d.b==0)=cf at*;go_enter func113,ntmps113;go_wp2_with fail;refine cr (aa.o _) λaq r=> ?_;have J:=lH (H.o.trans r zq);have u:=lH (iH.fr Q r);obtain ⟨ar,au,az,bb,bc,bd,be,bf,bg,bh,av,aw,ax,ay⟩:=u.o.cells;go_wp2_with fail;refine cr (ab.o _) λv A=> ?_;have ae:=lH (J.o.trans A zq);have B:=lH (iH.fr u A);obtain ⟨ah,bl,bq,br,bt,bu,bv,bw,bx,bz,bm,bn,bo,bp⟩:=B.o.cells;rw [af.o] at ah;go_wp2_with fail;refine cr (ai.o _) λx ag=> ?_;have ap:=lH (ae.o.trans ag zq);have am:=lH (iH.fr B ag);obtain ⟨cl,cm,cu,cv,cw,cx,cy,cz,da,db,cn,co,cp,ct⟩:=am.o.cells;go_wp2_with fail;refine cr (ao.o _) λy ca=> ?_;have cd:=lH (ap.o.trans ca zq);have ce:=lH (iH.fr am ca);obtain ⟨y0,y1,y2,y3,y4,y5,y6,y7,dv,dw,dr,ds,dt,du⟩:=ce.o.cells;exact aC (ad.o cf _ _ o rfl cd.o)};by_cases ci:d.k=3;{have af:=lH ci;clear bk cc ci;have o:Hid ((d.s==0)=true↔dP d):=lH (by rw [bi.o,af.o];simp);generalize dn:(d.s==0)=cf at*;go_enter func113,ntmps113;go_wp2_with fail;refine cr (aa.o _) λaq r=> ?_;have J:=lH (H.o.trans r zq);have u:=lH (iH.fr Q r);obtain ⟨ar,au,az,bb,bc,bd,be,bf,bg,bh,av,aw,ax,ay⟩:=u.o.cells;go_wp2_with fail;refine cr (ab.o _) λv A=> ?_;have ae:=lH (J.o.trans A zq);have B:=lH (iH.fr u A);obtain ⟨ah,bl,bq,br,bt,bu,bv,bw,bx,bz,bm,bn,bo,bp⟩:=B.o.cells;rw [af.o] at ah;exact aC (ad.o cf _ _ o rfl ae.o)};have o:Hid (false=true↔dP d):=lH (by rw [bi.o];simp [bk,cc,ci]);go_enter func113,ntmps113;go_wp2_with fail;refine cr (aa.o _) λaq r=> ?_;have J:=lH (H.o.trans r zq);have u:=lH (iH.fr Q r);obtain ⟨ar,au,az,bb,bc,bd,be,bf,bg,bh,av,aw,ax,ay⟩:=u.o.cells;go_wp2_with fail;refine cr (ab.o _) λv A=> ?_;have ae:=lH (J.o.trans A zq);have B:=lH (iH.fr u A);obtain ⟨ah,bl,bq,br,bt,bu,bv,bw,bx,bz,bm,bn,bo,bp⟩:=B.o.cells;exact aC (ad.o false _ _ o rfl ae.o)
def jF (S:St) (r:aG):Int×aX×St:=
 if (lookOf S.T r.path).1≠0 then ((lookOf S.T r.path).1,bU,S)
 else if (lookOf S.T r.path).2.2=true then (9,bU,S)
 else if (eY S.K r.c (lookOf S.T r.path).2.1 r.wr).1≠0 then ((eY S.K r.c (lookOf S.T r.path).2.1 r.wr).1,bU,S)
 else (0,qU (lookOf S.T r.path).2.1 ((S.F (lookOf S.T r.path).2.1).getD nJ) (eY S.K r.c (lookOf S.T r.path).2.1 r.wr).2.1,{S with K:=(eY S.K r.c (lookOf S.T r.path).2.1 r.wr).2.2})
theorem aC8 {L c i b} (h:(eY L c i b).1≠0):(eY L c i b).2.2=L:=by
 unfold eY at h ⊢;split;{rfl};{split;{rfl};{rename_i o r;rw [AA o,AA r] at h;exact absurd rfl h}}
theorem aH.Bq {S} (ok:aH S) (o):aH {S with K:=o}:=⟨ok.tree,ok.file⟩
theorem aD3 (u K n L S o am ak w) (h:aV w u K L S n) (ok:aH S) (al:Ha S) (ab:aF w u) (ch:o.path.length<=1000000) (cf:0<=o.c/\o.c<4):
  Calls prog 107 #[Y L.s,.agg (o.cells am ak)] w (bH w u K L n (jF S o)):=by
 obtain ⟨cc,av,bq,aj,ag⟩:=begun h ok ab o am ak;have ax:=lH cc;have bb:Hid (∀w',Fr No (dJ w o am ak) w'->Calls prog 85 #[Y L.tr,(ba o.path)] w' λe A=>e=.returned (.tuple #[.int .i64 (lookOf S.T o.path).2.1,.bool (lookOf S.T o.path).2.2,.int .i64 (lookOf S.T o.path).1])/\Fr No w' A):=
  lH (λw' f=>xG u K L.tr S.T o.path w' ch ((aj.no ok ag f).tree) ok.tree (noS ag f).fresh)
 have az:Hid ((lookOf S.T o.path).1=0->(lookOf S.T o.path).2.2=false->2<=(lookOf S.T o.path).2.1/\(lookOf S.T o.path).2.1<=128/\∃m,S.F (lookOf S.T o.path).2.1=some m):=λad aa=>by
  obtain ⟨x,H,hd⟩:=look_ok ok.tree ad;obtain ⟨m,Q⟩:=al.dir _ x H (by rw [hd,aa]);have bl:=ok.tree.lt H;(have dm:(lookOf S.T o.path).2.1≠1:=by{intro e;rw [e,ok.tree.root] at H;cases H;rw [aa] at hd;cases hd});exact ⟨by omega,bl.2,m,Q⟩
 have bc:Hid (∀i:Nat,2<=i/\i<=128->∀w',Fr No (dJ w o am ak) w'->Calls prog 161 #[Y L.tk,o.c,i,o.wr] w' (zF w' u K L.tk S.K (eY S.K o.c i o.wr))):=λi dh w' f=>
  open_ u K L.tk S.K o.c i o.wr w' ((aj.no ok ag f).tok) (noS ag f).fresh cf X al.small al.few
 have cu:Hid (∀w' A r J,Fr No (dJ w o am ak) w'->Step (iE K) w' u A r->kQ A r K L.tk J->aV A r K L {S with K:=J} n):=λw' A r J f s t=>(aj.no ok ag f).Bq ok s t;have co:Hid (∀(i:Nat) m w' r J,i<=128->S.F i=some m->aV w' r K L {S with K:=J} n->Calls prog 162 _ w' (Me w' i m)):=λi m w' r J dh Q t=>
  P5 r K n L {S with K:=J} i m w' t X Q (al.fit i m Q)
 have be:Hid ((lookOf S.T o.path).1≠0->∀e w',e=.panicked (kF (lookOf S.T o.path).1)->Fr No w w'->bH w u K L n (jF S o) e w'):=λE e w' ae f=>by
  unfold jF;rw [AL E];exact bH.no h ok ab E ae f
 have bf:Hid ((lookOf S.T o.path).1=0->(lookOf S.T o.path).2.2=true->∀e w',e=.panicked (kF 9)->Fr No w w'->bH w u K L n (jF S o) e w'):=λad aa e w' ae f=>by
  unfold jF;rw [AA (by simp [ad]),AL aa];exact bH.no h ok ab G ae f
 have bg:Hid ((lookOf S.T o.path).1=0->(lookOf S.T o.path).2.2=false->(eY S.K o.c (lookOf S.T o.path).2.1 o.wr).1≠0->∀e w' A r,e=.panicked (kF (eY S.K o.c (lookOf S.T o.path).2.1 o.wr).1)->Fr No w w'->Step (iE K) w' u A r->aV A r K L {S with K:=(eY S.K o.c (lookOf S.T o.path).2.1 o.wr).2.2} n->bH w u K L n (jF S o) e A):=λad aa E e w' A r ae f s t=>by
  unfold jF;rw [AA (by simp [ad]),AA (by simp [aa]),AL E];rw [aC8 E] at t;exact bH.no' ab f s (λ_ e=>Ii e) t E ae
 have bd:Hid ((lookOf S.T o.path).1=0->(lookOf S.T o.path).2.2=false->(eY S.K o.c (lookOf S.T o.path).2.1 o.wr).1=0->∀m,S.F (lookOf S.T o.path).2.1=some m->∀v b c e w' A ao r,
   e=.returned (.agg #[Z 0,.int .i64 (lookOf S.T o.path).2.1,m.size,.int .i64 (eY S.K o.c (lookOf S.T o.path).2.1 o.wr).2.1,Z 0,false,nS,v])->Fr No w w'->w.heap.size+1<w'.heap.size->Step (iE K) w' u A r->
   aV A r K L {S with K:=(eY S.K o.c (lookOf S.T o.path).2.1 o.wr).2.2} n->fH ao v (mW m) b 0 c->w.heap.size<=b->Fr (λj=>j=w.heap.size+1) A ao->bH w u K L n (jF S o) e ao):=lH (λad aa bl m Q v b c e w' A ao r ae f dj s t bo bm g=>by
  unfold jF;rw [AA (by simp [ad]),AA (by simp [aa]),AA (by simp [bl]),Q];dsimp only [Option.getD_some];exact bH.yes ab f s (λ_ e=>Ii e) X dj g (ok.Bq _) t ae ⟨_,_,rfl,.inl ⟨rfl,rfl⟩,.inr ⟨b,0,c,bo,bo.2.2.1⟩,Low.nil _,Low.at bo.1 bm⟩)
 generalize dg:bH w u K L n _=dl at*;clear dg;have db:Hid (¬iE K (u L.s)):=lH (by rw [h.own];unfold iE;omega);have cz:Hid (¬iE K (u w)):=lH (by rw [ab _ (AU _)];unfold iE;omega);have da:Hid (¬iE K (u (w.heap.size+1))):=lH (by rw [ab _ (CE _)];unfold iE;omega);have bv:=lH aj;clear aj ag cc h ok ab ch al cf;generalize lookOf S.T o.path=dc at*;obtain ⟨bj,i,d⟩:=dc;dsimp only at bb az be bf bg bd;unfold zF oO at bc;unfold dJ aG.cells bU aX.cells at*;go_enter func107,ntmps107;go_wp2_with fail;generalize (w.alloc _).alloc _=w0 at*;have B1:=lH (lt_of_block bq);generalize dn:w.heap.size=B at*;have de:w0.cell? (I L.s 9)=some (Y L.tr):=bv.o.cell 9;have ar:w0.cell? (I L.s 10)=some (Y L.tk):=bv.o.cell 10;have d0:w0.cell? (I B 0)=some (Z o.c):=aA av _;have df:w0.cell? (I B 4)=some (.string (ba o.path)):=aA av _;have au:w0.cell? (I B 7)=some (.bool o.wr):=aA av _;have cw:=lH bq;have ck:=lH ar;have cl:=lH d0;have cm:=lH au;clear av bq ar d0 au;go_region_held3 (λw'=>w'.cell? (I L.s 9)=some (Y L.tr)/\w'.cell? (I B 4)=some (.string (ba o.path))) (first|go_keep|(go_split_ands;refine ⟨?_,?_⟩<;>exact bk.cell_of (by assumption) id))
  ((go_at_call 85;refine (bb.o _ (Fr.refl _).drew).mono ?_;rintro e dp ⟨rfl,bk⟩))
 have af:=lH ((Fr.refl w0).drew.trans bk zq);clear bk de df;cases H:(bj==0) with
 | false=>
  (have E:bj≠0:=by simpa using H);go_wp2_with fail;refine cr (iD _ _) ?_;rintro ah rfl;go_wp2_with fail;exact ⟨rfl,be E _ _ rfl (ax.o.trans af zq)⟩
 | true=>
  obtain rfl:bj=0:=by simpa using H
  clear H;cases d with
  | true=>
   go_wp2_with fail;refine cr (iU _ _) ?_;rintro ah rfl;go_wp2_with fail;refine cr (iD _ _) ?_;rintro ah rfl;go_wp2_with fail;exact ⟨rfl,bf trivial trivial _ _ rfl (ax.o.trans af zq)⟩
  | false=>
   obtain ⟨di,cg,m,Q⟩:=az.o rfl rfl;have bw:=lH (bc.o i ⟨di,cg⟩);have bz:=lH (bg.o rfl rfl);have bx:=lH (bd.o rfl rfl);have cp:=lH (λw' r J=>co.o i m w' r J cg Q);have ct:=lH Q;clear be bf bg bd Q;clear bc az bb;generalize eY S.K o.c i o.wr=dd at*;obtain ⟨ey,bp,J⟩:=dd;dsimp only at bw bz bx;go_wp2_with fail;refine cr (iU _ _) ?_;rintro ah rfl;go_wp2_with fail;refine cr (iU _ _) ?_;rintro ah rfl;go_wp2_with fail;have ar:=af.o.cell_of ck id;have d0:=af.o.cell_of cl id;have au:=af.o.cell_of cm id;have ai:=lH (af.o.trans (Fr.refl ah).drew zq);go_region_held3 (λw'=>w'.cell? (I L.s 10)=some (Y L.tk)/\w'.cell? (I B 0)=some (Z o.c)/\w'.cell? (I B 7)=some (.bool o.wr)) (first|go_keep|(go_split_ands;refine ⟨?_,?_,?_⟩<;>exact an.fr.cell_of (by assumption) (by first|exact db.o|exact cz.o)))
    ((go_at_call 161;refine (bw.o _ ai).mono ?_;rintro e ao ⟨rfl,r,an,ci⟩))
   have bi:=lH (cu.o _ _ _ _ ai an ci);have bh:=lH an;have bt:=lH (ax.o.trans ai zq);have cb:Hid (B+1<ah.drew.heap.size):=lH (by have:=ai.o.size;have:=B1.o;omega);have cx:=lH (an.fr.aB (ai.o.aB cw id) da);clear an ci ar d0 au;cases H:(ey==0) with
   | false=>
    have E:ey≠0:=(U H);have cv:=lH (bz.o E _ _ _ _ rfl bt bh bi);go_wp2_with fail;refine cr (iD _ _) ?_;rintro dq rfl;go_wp2_with fail;exact ⟨rfl,cv⟩
   | true=>
    obtain rfl:ey=0:=(U H);clear H;have cn:=lH (cp.o _ _ _ bi);go_wp2_with fail;refine cq (iU _ _) ?_;go_wp2_with fail;refine cn.o.mono ?_;rintro e cj ⟨v,b,c,rfl,cd,sl,bm⟩;obtain rfl:=sl.1;have aq:=lH sl;have bu:Hid (B+1<b):=lH (by have:=bh.o.fr.size;have:=cb.o;omega);have br:=lH ((cd.alloc (.cells #[Z 0,i,m.size,bp,Z 0,false,nS,O b (mW m).length c] 29)));have ca:=lH (br.o.aB cx id);clear cd sl bm;go_wp2_with (refine wS 29 ca ?_);have cy:=aW (cs':= #[Z 0,i,m.size,bp,Z 0,false,nS,O b (mW m).length c]) ca.o;generalize dk:cj.alloc _=aw at*;have ay:Fr (λj=>j=B+1) aw (aw.setRow (B+1) #[Z 0,i,m.size,bp,Z 0,false,nS,O b (mW m).length c]):=fR;have E:b≠B+1:=(by have:=bu.o;omega);have ap:fH aw (O b (mW m).length c) (mW m) b 0 c:=by{have ce:Fr No cj aw:=(by rw [<-dk];exact (Fr.refl _).alloc _);exact ⟨aq.o.1,aq.o.2.1,AP aq.o.2.2.1 ce.size,λj y bn=>ce.cell_of (aq.o.2.2.2 j y bn) id⟩}
    exact AZ (v:=.agg _) (BH rfl _ _ (B+1) 29 _ (0,0) _ rfl cy underlying29 rfl Tryz.size29) rfl
     (bx.o trivial m ct _ b c _ _ _ _ _ rfl bt cb bh bi ⟨ap.1,ap.2.1,AP ap.2.2.1 ay.size,λj y bn=>ay.cell_of (ap.2.2.2 j y bn) E⟩ (by have:=bu.o;omega) (br.o.bC.trans ay zq))
structure xR {K:Type} (lt:K->K->Prop):Prop where
 irr:∀a,¬lt a a
 trans:∀a b c,lt a b->lt b c->lt a c
 tri:∀a b,lt a b\/a=b\/lt b a
theorem yH:xR (λa b:Nat=>a<b):=⟨λa=>Nat.lt_irrefl a,λ_ _ _=>Nat.lt_trans,λa b=>by omega⟩
def Keyed {K V:Type} (lt:K->K->Prop) (f:K->Option V) (l:List (K×V)):Prop:=l.Pairwise (λa b=>lt a.1 b.1)/\∀k v,(k,v)∈l↔f k=some v
def iK {α:Type} (b:α->Bool) (x:α):List α->List α
 | []=> [x]
 | y::r=>if b y=true then x::y::r else y::iK b x r
theorem Gg {α:Type} (b:α->Bool) (x y:α):∀l:List α,y∈iK b x l↔y=x\/y∈l
 | []=>by simp [iK]
 | z::r=>by
  have o:=Gg b x y r;unfold iK;split
  ·simp
  ·rw [CB,o,CB];constructor
   ·rintro (h|h|h)<;>simp [h]
   ·rintro (h|h|h)<;>simp [h]
theorem Xt {α:Type} (b:α->Bool) (x:α):∀l:List α,(∀y∈l,b y=false)->iK b x l=l++ [x]
 | [],_=>rfl
 | z::r,h=>by
  unfold iK;rw [h z BL,AA G,Xt b x r (λy o=>h y (BJ _ o))];rfl
theorem Y4 {α:Type} (b:α->Bool) (x y:α) (h:b y=true):∀l:List α,(∀y∈l,b y=false)->iK b x (l++ [y])=l++ [x,y]
 | [],_=>by rw [DC];unfold iK;rw [AL h];rfl
 | z::r,hl=>by
  rw [CQ];unfold iK;rw [hl z BL,AA G,Y4 b x y h r (λy o=>hl y (BJ _ o))];rfl
theorem Yg {α:Type} (b:α->Bool) (x y:α):∀l:List α,(∃z∈l,b z=true)->iK b x (l++ [y])=iK b x l++ [y]
 | [],h=>by obtain ⟨z,o,_⟩:=h;cases o
 | z::r,h=>by
  rw [CQ];unfold iK;split
  ·rfl
  ·rename_i o
   obtain ⟨A,hu,u⟩:=h;rw [Yg b x y r ?_]
   ·rfl
   ·rcases CB.1 hu with rfl|hu
    ·exact absurd u o
    ·exact ⟨A,hu,u⟩
section
variable {K V:Type} {lt:K->K->Prop} {f:K->Option V} {l:List (K×V)}
theorem Keyed.nil:Keyed lt (λ_=>(none:Option V)) []:=⟨List.Pairwise.nil,λk v=>by simp⟩
theorem Keyed.congr {g} (h:Keyed lt f l) (e:∀k,f k=g k):Keyed lt g l:=⟨h.1,λk v=>by rw [h.2,e]⟩
theorem Keyed.one (u:xR lt) (h:Keyed lt f l) {i j:Nat} {x y} (J:l[i]? =some x) (Q:l[j]? =some y) (e:x.1=y.1):i=j:=by
 have r:=h.1;rw [JR] at r;obtain ⟨A,B⟩:=AY.1 J;obtain ⟨E,H⟩:=AY.1 Q;rcases MM i j with o|o|o;{have:=r i j A E o;rw [B,H,e] at this;exact absurd this (u.irr _)};{exact o};{have:=r j i E A o;rw [B,H,e] at this;exact absurd this (u.irr _)}
theorem Keyed.find [DecidableEq K] (h:Keyed lt f l) (k):l.find? (λy=>decide (y.1=k))=(f k).map (λv=>(k,v)):=by
 (cases o:f k with|none=>rw [Option.map_none,EU];rintro ⟨a,v⟩ A e;have:a=k:=DK e;subst this;rw [h.2,o] at A;cases A|some v=>have E:=(h.2 k v).2 o;(cases r:l.find? (λy=>decide (y.1=k)) with|none=>have:=EU.1 r _ E;simp at this|some y=>obtain ⟨a,H⟩:=y;have B:=KT r;have:a=k:=DK B;subst this;have u:=(h.2 _ _).1 (DF r);rw [o] at u;cases u;rfl))
theorem Keyed.ins [DecidableEq K] (E:xR lt) {k v} (J:f k=none) (b):∀ {l:List (K×V)},Keyed lt f l->(∀y∈l,b y=true↔lt k y.1)->Keyed lt (λz=>if z=k then some v else f z) (iK b (k,v) l):=by
 intro l h B;refine ⟨?_,λa ae=> ?_⟩
 ·have Q:∀y∈l,y.1≠k:=λy A e=>by
   have:=(h.2 y.1 y.2).1 A;rw [e,J] at this;cases this
  have aa:=h.1;clear h;(induction l with|nil=>exact List.pairwise_singleton _ _|cons y r ih=>obtain ⟨H,ad⟩:=ED.1 aa;unfold iK;split;{rename_i A;have ab:=(B y BL).1 A;refine ED.2 ⟨λz o=> ?_,aa⟩;rcases CB.1 o with rfl|o;{exact ab};{exact E.trans _ _ _ ab (H z o)}};{rename_i A;refine ED.2 ⟨λz o=> ?_,ih (λz o=>B z (BJ _ o)) (λz o=>Q z (BJ _ o)) ad⟩;rcases (Gg b (k,v) z r).1 o with rfl|o;{rcases E.tri y.1 k with u|u|u;{exact u};{exact absurd u (Q y BL)};{exact absurd ((B y BL).2 u) A}};{exact H z o}})
 {rw [Gg,h.2,GX];by_cases e:a=k;{subst e;simp [J,eq_comm]};{simp [e]}}
theorem Keyed.del [DecidableEq K] (h:Keyed lt f l) (k):Keyed lt (λz=>if z=k then none else f z) (l.filter λy=> !decide (y.1=k)):=by
 refine ⟨h.1.filter _,λa u=> ?_⟩;rw [FC,h.2];by_cases e:a=k<;>simp [e]
theorem Keyed.fm {W:Type} (h:Keyed lt f l) (g:K->V->Option W):Keyed lt (λz=>(f z).bind (g z)) (l.filterMap λy=>(g y.1 y.2).map λu=>(y.1,u)):=by
 refine ⟨h.1.filterMap _ (λa b H x A y o=> ?_),λa u=> ?_⟩;{simp only [CY] at A o;obtain ⟨_,_,rfl⟩:=A;obtain ⟨_,_,rfl⟩:=o;exact H};{rw [MH];constructor;{rintro ⟨y,o,e⟩;obtain ⟨J,B,E⟩:=CY.1 e;cases E;dsimp only;rw [(h.2 y.1 y.2).1 o];exact B};{intro e;dsimp only at e;(cases r:f a with|none=>rw [r] at e;cases e|some v=>rw [r] at e;exact ⟨(a,v),(h.2 a v).2 r,by rw [show g (a,v).1 (a,v).2=some u from e];rfl⟩)}}
theorem Keyed.put [DecidableEq K] (J:xR lt) (h:Keyed lt f l) {i k ae v} (r:l[i]? =some (k,ae)):Keyed lt (λz=>if z=k then some v else f z) (l.set i (k,v)):=by
 have aa:=(AY.1 r).1;refine ⟨?_,λa H=> ?_⟩
 ·have E:=h.1;rw [JR] at E ⊢;intro p q A B ad;rw [EZ] at A B;have key:∀(j:Nat) (o:j<l.length),((l.set i (k,v))[j]'(by rw [EZ];exact o)).1=(l[j]).1:=λj o=>by
   rw [List.getElem_set];split;{rename_i e;subst e;have:=(AY.1 r).2;rw [this]};{rfl}
  rw [key p A,key q B];exact E p q A B ad
 {rw [GZ];constructor;{rintro ⟨j,o⟩;rw [List.getElem?_set] at o;split at o;{rename_i e;subst e;cases o;simp};{rename_i e;have ab:=(h.2 a H).1 (DX o);have:a≠k:=λQ=>e (h.one J r o Q.symm);simp [this,ab]}};{intro e;dsimp only at e;by_cases u:a=k;{subst u;simp only [IJ,FQ] at e;subst e;exact ⟨i,by rw [MK aa]⟩};{rw [AA u] at e;obtain ⟨j,o⟩:=GZ.1 ((h.2 a H).2 e);refine ⟨j,?_⟩;rw [List.getElem?_set_ne ?_];{exact o};{rintro rfl;rw [r] at o;cases o;exact u rfl}}}}
theorem Keyed.cut [DecidableEq K] (A:xR lt) (h:Keyed lt f l) {i k v} (u:l[i]? =some (k,v)):l.take i++l.drop (i+1)=l.filter λy=> !decide (y.1=k):=by
 obtain ⟨aa,Q⟩:=AY.1 u;have ab:l=l.take i++(k,v)::l.drop (i+1):=by{rw [<-Q,<-DN aa,List.take_append_drop]}
 have H:∀y∈l.take i,y.1≠k:=λy r e=>by
  obtain ⟨j,o⟩:=GZ.1 r;rw [EL] at o;split at o;{have:=h.one A o u e;omega};{cases o}
 have J:∀y∈l.drop (i+1),y.1≠k:=λy r e=>by
  obtain ⟨j,o⟩:=GZ.1 r;rw [HY] at o;have:=h.one A o u e;omega
 have B:(l.take i).filter (λy=> !decide (y.1=k))=l.take i:=LM.2 (λy r=>by simp [H y r]);have E:(l.drop (i+1)).filter (λy=> !decide (y.1=k))=l.drop (i+1):=LM.2 (λy r=>by simp [J y r]);(conv=>rhs;rw [ab]);rw [DW,GM,B,E];simp
theorem Keyed.uniq (u:xR lt):∀ {l m:List (K×V)} {f:K->Option V},Keyed lt f l->Keyed lt f m->l=m:=by
 (have key:∀(l m:List (K×V)),l.Pairwise (λa b=>lt a.1 b.1)->m.Pairwise (λa b=>lt a.1 b.1)->(∀x,x∈l↔x∈m)->l=m:=by{intro l;(induction l with|nil=>intro m _ _ h;(cases m with|nil=>rfl|cons y r=>have:=(h y).2 BL;cases this)|cons x l ih=>intro m A B h;(cases m with|nil=>have:=(h x).1 BL;cases this|cons y r=>obtain ⟨a1,a2⟩:=ED.1 A;obtain ⟨H,J⟩:=ED.1 B;(have e:x=y:=by{rcases CB.1 ((h x).1 BL) with e|e;{exact e};{rcases CB.1 ((h y).2 BL) with E|E;{exact E.symm};{exact absurd (u.trans _ _ _ (H x e) (a1 y E)) (u.irr _)}}});subst e;rw [ih r a2 J (λz=>⟨λo=> ?_,λo=> ?_⟩)];{rcases CB.1 ((h z).1 (BJ _ o)) with e|e;{subst e;exact absurd (a1 z o) (u.irr _)};{exact e}};{rcases CB.1 ((h z).2 (BJ _ o)) with e|e;{subst e;exact absurd (H z o) (u.irr _)};{exact e}}))});intro l m f A B;exact key l m A.1 B.1 (λx=>by rw [show x=(x.1,x.2) from rfl,A.2,B.2])
end
def oK (T:Tree) (k:Nat):Option Node:=if 2<=k then T k else none
abbrev KL (T:Tree) (L:List (Nat×Node)):Prop:=Keyed (λa b:Nat=>a<b) (oK T) L
theorem Yt {V:Type} (f:Nat->Option V) (n) (h:∀k,n<=k->f k=none):Keyed (λa b:Nat=>a<b) f ((List.range n).filterMap λk=>(f k).map λv=>(k,v)):=by
 refine ⟨List.Pairwise.filterMap _ (λa b u x A y B=> ?_) List.pairwise_lt_range,λa E=> ?_⟩;{obtain ⟨_,_,rfl⟩:=CY.1 A;obtain ⟨_,_,rfl⟩:=CY.1 B;exact u};{rw [MH];constructor;{rintro ⟨y,_,e⟩;obtain ⟨H,o,r⟩:=CY.1 e;cases r;exact o};{intro e;refine ⟨a,CJ.2 ?_,by rw [e];rfl⟩;rcases BK a n with o|o;{exact o};{rw [h a o] at e;cases e}}}
theorem Rz {V:Type} (f:Nat->Option V):∀l:List Nat,(l.filterMap λk=>(f k).map λv=>(k,v)).length=l.countP λk=>(f k).isSome
 | []=>rfl
 | a::r=>by
  rw [EE,KD,<-Rz f r];cases f a<;>simp
theorem KL.len {T L} (h:KL T L) (o:dK T):things T=L.length+1:=by
 have u:∀k,129<=k->oK T k=none:=λk r=>by
  unfold oK;rw [o.top k r];split<;>rfl
 rw [Keyed.uniq yH h (Yt (oK T) 129 u),Rz];unfold things;rw [show List.range 129= [0,1]++(List.range 127).map (λk=>k+2) by decide,MB,MB,List.countP_map,List.countP_map];have A:List.countP (λk=>(T k).isSome) [0,1]=1:=by simp [KD,o.zero,o.root]
 have B:List.countP (λk=>(oK T k).isSome) [0,1]=0:=by simp [KD,oK]
 have E:(List.range 127).countP ((λk=>(T k).isSome)∘λk=>k+2)=(List.range 127).countP ((λk=>(oK T k).isSome)∘λk=>k+2):=by
  refine List.countP_congr (λk _=> ?_);simp [oK]
 omega
theorem KL.ge {T L} (h:KL T L) {y} (r:y∈L):2<=y.1/\T y.1=some y.2:=by
 have:=(h.2 y.1 y.2).1 r;unfold oK at this;split at this;{rename_i o;exact ⟨o,this⟩};{cases this}
theorem KL.mem {T L} (h:KL T L) {k x} (r:T k=some x) (o:2<=k):(k,x)∈L:=(h.2 k x).2 (by unfold oK;rw [AL o];exact r)
theorem KL.aEk {T L} (h:KL T L) (u:dK T) (d) (hd:d≠0) (s):(L.find? λy=>decide (y.2.up=d)&&decide (y.2.name=s)).map (λy=>y.1)=kid T d s:=by
 (cases r:L.find? (λy=>decide (y.2.up=d)&&decide (y.2.name=s)) with|none=>(cases H:kid T d s with|none=>rfl|some k=>obtain ⟨x,o,A,B⟩:=rJ H;(have J:2<=k:=by{rcases BK k 2 with Q|E;{have:=u.lt o;have e:k=1:=X;subst e;rw [u.root] at o;cases o;exact absurd A.symm hd};{exact E}});have:=EU.1 r _ (h.mem o J);simp [A,B] at this)|some y=>have o:=KT r;simp only [BO,BV] at o;rw [zQ u (h.ge (DF r)).2 o.1 o.2];rfl)
theorem KL.grow {T L} (h:KL T L) {n d s b} (r:T n=none) (o:2<=n):KL (grown T n d s b) (iK (λy=>decide (n<y.1)) (n,⟨d,s,b⟩) L):=
 (Keyed.ins yH (f:=oK T) (k:=n) (v:=⟨d,s,b⟩) (by unfold oK;rw [AL o,r]) (λy=>decide (n<y.1)) h (λy _=>by simp)).congr (λk=>by
   unfold oK grown upd;by_cases e:k=n
   ·subst e;simp [o]
   ·simp [e])
theorem KL.shrink {T L} (h:KL T L) {i n x} (o:L[i]? =some (n,x)):KL (dI T n) (L.take i++L.drop (i+1)):=by
 rw [Keyed.cut yH h o];exact (Keyed.del h n).congr (λk=>by
  unfold oK dI upd;by_cases e:k=n<;>simp [e])
theorem KL.move {T L} (h:KL T L) {i n d s b x} (o:L[i]? =some (n,x)):KL (moved T n d s b) (L.set i (n,⟨d,s,b⟩)):=
 (Keyed.put yH h (v:=⟨d,s,b⟩) o).congr (λk=>by
   have r:=(h.ge (DX o)).1;unfold oK moved upd;by_cases e:k=n
   ·subst e;simp [r]
   ·simp [e])
theorem KL.aAR {T L} (h:KL T L) (al:L.length<=126) {i} (ak:i<=L.length) (u:∀j,j<i->∃x,L[j]? =some (j+2,x)) (H:∀y,L[i]? =some y->y.1≠i+2):free T=i+2/\T (i+2)=none:=by
 have Q:T (i+2)=none:=by
  cases ad:T (i+2) with
  | none=>rfl
  | some x=>
   exfalso;obtain ⟨j,o⟩:=GZ.1 (h.mem ad X);rcases BK j i with ae|aj
   ·obtain ⟨y,A⟩:=u j ae;rw [A] at o;cases o;omega
   ·rcases BK i j with J|J
    ·have r:i<L.length:=by
      have:=(AY.1 o).1;omega
     have aa:=h.1;rw [JR] at aa;have B:=aa i j r (AY.1 o).1 J;rw [(AY.1 o).2] at B;have ag:=H _ (AC r)
     -- all rows ahead of i are below; the row at i is at least i + 2
     have ah:i+2<=(L[i]).1:=by
      rcases BK (L[i]).1 (i+2) with E|E
      ·have ai:=(h.ge (BF r)).1;obtain ⟨y,A⟩:=u ((L[i]).1 - 2) X;have:=h.one yH A (AC r) (by dsimp only;omega);omega
      ·exact E
     simp only at B;omega
    ·obtain rfl:i=j:=by omega
     exact H _ o rfl
 refine ⟨?_,Q⟩;unfold free;have:(List.range 129).find? (λk=>decide (2<=k)&&(T k).isNone)=some (i+2):=by
  rw [List.find?_range_eq_some];refine ⟨by simp [Q],by simp;omega,λj o=> ?_⟩;rcases BK j 2 with ab|ab
  ·simp;omega
  ·obtain ⟨x,af⟩:=u (j - 2) X;have:=(h.ge (DX af)).2;rw [show j - 2+2=j by omega] at this;simp [this]
 rw [this];rfl
theorem rW.cells {w o K k p n x m} (h:rW w o K k p x n m):∃v,w.heap[p]? =some (.cells #[x.up,(ba x.name),x.dir,v] 168 (0,0)):=by
 obtain ⟨up,u,dir⟩:=x;have:=h.2;(cases dir with|false=>exact ⟨_,this⟩|true=>obtain ⟨r,_,e,_⟩:=this;exact ⟨_,e⟩)
theorem oH.pf {w w' p base s v L} (h:oH w v L) (g:Pg w p base s) (f:Fr (Pf w p base) w w'):oH w' v L:=by
 rcases h with h|⟨b,cap,e,o,r⟩;{exact .inl h};{exact .inr ⟨b,cap,e,o,r.pf g f G G⟩}
