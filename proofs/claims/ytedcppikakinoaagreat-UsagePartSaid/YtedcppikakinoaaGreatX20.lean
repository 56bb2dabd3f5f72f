/- Part of a proof. -/
import Derived.Test.YtedcppikakinoaaGreatX16
set_option linter.unusedSimpArgs false
set_option linter.unusedVariables false
set_option maxRecDepth 100000
set_option maxHeartbeats 12800000
namespace Go.Proofs.YtedcppikakinoaaGreat
open Go.Proofs.Tryz Go.RowKit
theorem E5 {T} (B:dJ T) {l} (h:(bV T l).1=0):1<=(bV T l).2/\(bV T l).2<=128:=by
 have a:=Dc B h;(have e:(bV T l).2=free T:=by{unfold bV at h ⊢;split at h;{cases h};{split at h;{rename_i o;exact absurd h o};{split at h;{cases h};{split at h;{cases h};{rename_i o r u A;rw [AA o,AA r,AA u,AA A]}}}}});rw [e];exact ⟨by have:=a.two;omega,a.most⟩
def lI (S:St) (r:aH):St:={S with T:=gY S.T r.path r.dir,F:=if r.dir=true then S.F else aT S.F (bV S.T r.path).2 (some mQ)}
def lC (S:St) (r:aH):Int×aW×St:=
 if (bV S.T r.path).1=0 then (0,iW 0 (bV S.T r.path).2 0 0 0 false,lI S r) else ((bV S.T r.path).1,bT,S)
theorem Ii {S} (ok:aG S) {r} (h:(bV S.T r.path).1=0):aG (lI S r):=by
 unfold lI;(cases r.dir with|true=>exact ok.mM (Ee ok.tree r.path true)|false=>exact aG.uK (S:={S with T:=gY S.T r.path false}) (ok.mM (Ee ok.tree r.path false)) (E5 ok.tree h) aCq)
theorem bH.no' {C w w' u o r K n L S x J e} (E:aF w o) (f:Fr No w w') (s:Step C w' o u r) (A:∀c,C c->bF K c) (t:aV u r K L S n) (H:x≠0) (B:e=.panicked (kH x)):bH w o K L n (x,J,S) e u:=
 ⟨⟨r,((Step.no E f).trans s (λ_ e=>e)).mono A,t⟩,by rw [AA H];exact B⟩
theorem Zy (w):Calls prog 157 #[] w λe w'=>e=.returned (Y w)/\Hid (w'=wU w):=(aB0 w).mono (λ_ _ h=>⟨h.1,lH h.2⟩)
theorem aAw (r K n L S o an ak w) (h:aV w r K L S n) (ok:aG S) (H:aF w r) (bp:o.path.length<=1000000) (bq:n<4611686018427387904):
  Calls prog 102 #[Y L.s,.agg (o.cells an ak)] w (bH w r K L (n+1) (lC S o)):=by
 obtain ⟨bn,bc,bd,ai,ah⟩:=begun h ok H o an ak;have bw:=lH bn;have ap:Hid (∀w',Fr No (dG w o an ak) w'->Calls prog 156 #[Y L.tr,(ba o.path),o.dir] w' (vU w' r K L.tr S.T o.path o.dir)):=
  lH (λw' f=>aEh r K L.tr S.T o.path o.dir w' bp ((ai.no ok ah f).tree) ok.tree (Step.no (C:=λ_=>False) ah f).fresh)
 have cb:Hid (∀ab aa,Step (dM K) (dG w o an ak).drew r ab aa->eF ab aa K L.tr (gY S.T o.path o.dir)->aV ab aa K L {S with T:=gY S.T o.path o.dir} n/\aG {S with T:=gY S.T o.path o.dir}):=
  lH (λab aa s t=>⟨(ai.no ok ah (Fr.refl _).drew).mM ok s t,ok.mM (Ee ok.tree _ _)⟩)
 have bg:Hid ((bV S.T o.path).1≠0->gY S.T o.path o.dir=S.T):=λJ=>AA J;have bi:Hid ((bV S.T o.path).1≠0->∀e w' u Q,e=.panicked (kH (bV S.T o.path).1)->Fr No w w'->Step (dM K) w' r u Q->aV u Q K L S n->bH w r K L (n+1) (lC S o) e u):=λJ e w' u Q E f s t=>by
  unfold lC;rw [AA J];exact bH.no' H f s (λ_ e=>zK e) (t.more (BZ n)) J E
 have ar:Hid ((bV S.T o.path).1=0->∀e w' u ad Q,e=.returned (lG 0 (bV S.T o.path).2 0 0 0 false)->Fr No w w'->w.heap.size+1<w'.heap.size->Step (λc=>dM K c\/c=K+6) w' r u Q->aV u Q K L (lI S o) (n+1)->Fr (λj=>j=w.heap.size+1) u ad->bH w r K L (n+1) (lC S o) e ad):=λam e w' u ad Q E f cm s t g=>by
  unfold lC;rw [AL am];exact bH.yes H f s (λc e=>by rcases e with e|e;exact zK e;unfold bF;omega) X cm g (Ii ok am) t E (mV.plain _ _ _ _ _ _ _)
 generalize cl:bH w r K L (n+1) _=cu at*;clear cl;have aq:Hid (lI S o={S with T:=gY S.T o.path o.dir,F:=if o.dir=true then S.F else aT S.F (bV S.T o.path).2 (some mQ)}):=lH rfl;generalize lI S o=cv at*;have bh:=lH (λam=>E5 ok.tree (l:=o.path) am);have cf:Hid (¬dM K (r L.s)):=lH (by rw [h.own];unfold dM;omega);have bk:Hid (¬dM K (r w)):=lH (by rw [H _ (AU _)];unfold dM;omega);have ce:Hid (¬dM K (r (w.heap.size+1))):=lH (by rw [H _ (BZ _)];unfold dM;omega);have cg:=lH (H _ (BZ _));have bz:=lH ai;have ca:=lH bq;clear ai ah bn h ok H bp bq;unfold vU at ap;generalize bV S.T o.path=ci at*;obtain ⟨ax,i⟩:=ci;dsimp only at ap bi ar bh bg aq;generalize gY S.T o.path o.dir=cw at*;unfold dG aH.cells bT aW.cells at*;generalize db:o.dir=rd at*;go_enter func102,ntmps102;go_wp2_with fail;generalize (w.alloc _).alloc _=w0 at*;have B1:=lH (lt_of_block bd);generalize cy:w.heap.size=B at*;have cj:w0.cell? (I L.s 9)=some (Y L.tr):=bz.o.cell 9;have ck:w0.cell? (I B 4)=some (.string (ba o.path)):=by rw [aA bc];rfl
 have d6:w0.cell? (I B 6)=some (.bool rd):=by rw [aA bc];rfl
 have cc:=lH bd;clear bc bd;go_region_held3 (λw'=>w'.cell? (I L.s 9)=some (Y L.tr)/\w'.cell? (I B 4)=some (.string (ba o.path))/\w'.cell? (I B 6)=some (.bool rd)) (first|go_keep|(go_split_ands;refine ⟨?_,?_,?_⟩<;>exact ag.fr.cell_of (by assumption) (by first|exact cf.o|exact bk.o)))
  ((go_at_call 156;refine (ap.o _ (Fr.refl _).drew).mono ?_;rintro e ab ⟨rfl,aa,ag,bu⟩))
 have aw:Hid (B+1<w0.drew.heap.size):=lH (U B1.o);have ao:=lH (bw.o.trans (Fr.refl w0).drew zq);obtain ⟨bt,br⟩:=cb.o ab aa ag bu;have aj:=lH bt;have bl:=lH br;have S1:=lH ag;have av:=lH (ag.fr.aB ((Fr.refl (S:=No) w0).drew.aB cc id) ce);clear bt br ag bu cj ck;cases bb:(ax==0) with
 | false=>
  have J:ax≠0:=by simpa using bb
  have ae:=lH (bi.o J _ _ _ _ rfl ao S1 (by have:=aj.o;rw [bg.o J] at this;exact this));go_wp2_with fail;refine cr (gQ _ _) ?_;rintro A rfl;go_wp2_with fail;exact ⟨rfl,ae⟩
 | true=>
  obtain rfl:ax=0:=by simpa using bb
  clear bb;have da:=bh.o rfl;have cz:∀w':World,(Instr.build 29 #[(1,Z i)]).run prog w'=.ok (.agg #[Z 0,i,Z 0,Z 0,Z 0,false,nS,nS]) w':=λw'=>by kernel_rfl
  have ct:=lH (show (#[Z 0,i,Z 0,Z 0,Z 0,false,nS,nS]:Array Value).all (·.oneCell')=true from by simp [Value.oneCell']);have cp:=S1.o.fr.cell_of d6 bk.o;cases rd with
  | true=>
   have ae:=lH (λe ad E g=>ar.o rfl e _ _ ad _ E ao aw (S1.o.mono (λ_ h=> .inl h)) (by rw [aq.o,AL rfl];exact aj.o.more (BZ n)) g);go_wp2_with fail;refine cr (iR _ _) ?_;rintro A rfl;go_wp2_with (refine wS 29 (cs:= #[Z 0,i,Z 0,Z 0,Z 0,false,nS,nS]) av ?_);have au:=aX (cs':= #[Z 0,i,Z 0,Z 0,Z 0,false,nS,nS]) av.o;exact AZ (v:=lG 0 i 0 0 0 false) (BD rfl _ _ (B+1) 29 _ (0,0) _ rfl au underlying29 rfl Tryz.size29) rfl
    (ae.o _ _ rfl (fR))
  | false=>
   have cx:ab.cell? (I L.s 11)=some (.map (some L.fl)):=aj.o.cell 11;go_wp2_with fail;refine cr (iR _ _) ?_;rintro A rfl;go_wp2_with fail;have af:=lH (aj.o.no bl S1.o.fresh (Fr.refl A).drew);have bx:Hid (aF A.drew aa):=lH (Step.no (C:=λ_=>False) S1.o.fresh (Fr.refl A).drew).fresh;have cd:Hid (L.s≠L.fl):=lH (by
    intro e;have a:=af.o.own;have b:=af.o.files.1;rw [e] at a;omega)
   go_region_held3 (λw'=>w'.cell? (I L.s 11)=some (.map (some L.fl))) (first|go_keep|exact ay.cell_of (by assumption) id|exact al.cell_of (by assumption) cd)
    ((go_at_call 157;refine (Zy _).mono ?_;rintro e bv ⟨rfl,bo⟩;have ay:Fr No A.drew bv:=(by rw [bo.o];exact (Fr.refl _).alloc _);obtain ⟨co,az,al,be,bf⟩:=lK.make af.o.files bx i X ca.o;rw [<-bo.o] at az al;have cn:(Instr.mapUpdate 128 (.map (some L.fl)) (Z i) _).run prog bv=.ok () co:=(U az)))
   have ch:=lH ((S1.o.mono (λ_ h=> .inl h)).trans ((Step.no S1.o.fresh (Fr.refl A).drew).trans (be.mono (λ_ h=>Or.inr h)) (λ_ e=>e)) (λ_ e=>e));have bm:=af.o.Uz (BZ n) bl be bf;have bj:=lH (al.aB (ay.aB ((Fr.refl (S:=No) A).drew.aB av id) id) (by
    intro e;have a:=S1.o.old _ aw.o;have b:=af.o.files.1;rw [cg.o,e,b] at a;omega))
   have ae:=lH (λe ad E g=>ar.o trivial e _ _ ad _ E ao aw ch (by rw [aq.o,AA G];exact bm) g);clear az cn al be bf ay bm;go_wp2_with (refine wS 29 bj ?_);have au:=aX (cs':= #[Z 0,i,Z 0,Z 0,Z 0,false,nS,nS]) bj.o;exact AZ (v:=lG 0 i 0 0 0 false) (BD rfl _ _ (B+1) 29 _ (0,0) _ rfl au underlying29 rfl Tryz.size29) rfl
    (ae.o _ _ rfl fR)
structure Ez (S:St):Prop where
 tok:∀x∈S.K,∃i m,x.i=((i:Nat):Int)/\i<=128/\S.F i=some m
 fit:∀i m,S.F i=some m->Ec m
 dir:∀k x,S.T k=some x->x.dir=false->∃m,S.F k=some m
 small:∀x∈S.K,small x
 few:S.K.length<=1000000
def mapD (S:St) (r:aH):Int×aW×St:=match dE S.K r.c r.h with
 | none=>(13,bT,S)
 | some x=>(0,qV x.i.toNat ((S.F x.i.toNat).getD mQ) 0,S)
theorem Nv {w B K k L} (h:kG w B K k L):∃v,w.heap[k]? =some (.cells #[true,v] 187 (0,0))/\nK w v L:=by
 obtain ⟨_,v,r,o⟩:=h;refine ⟨v,r,?_⟩;rcases o with o|⟨b,cap,e,u,_,A⟩;{exact .inl o};{exact .inr ⟨b,cap,e,u,A⟩}
def xO (w0:World) (a:Act) (w:World):Prop:=
 Fr No w0 w/\(a.tmps.getD 5 undef=undef\/∃g,a.tmps.getD 5 undef=Y g/\w0.heap.size<=g/\w.heap[g]? =some (.cells #[Z 0,Z 0,Z 0,false] 53 (0,0)))
theorem wB (w0 d) (hd:d≠5) (a v w):xO w0 (a.put (some d) v) w↔xO w0 a w:=by
 have e:(a.put (some d) v).tmps.getD 5 undef=a.tmps.getD 5 undef:=by
  simp [Act.put,KD,hd]
 unfold xO;rw [e]
theorem Rk {w0 w w'} (f:Fr No w w') (a) (h:xO w0 a w):xO w0 a w':=by
 obtain ⟨r,o⟩:=h;refine ⟨r.trans f zq,?_⟩;rcases o with o|⟨g,e,u,A⟩;{exact .inl o};{exact .inr ⟨g,e,u,f.aB A id⟩}
theorem aGF (B K n L S o ae ad w) (h:aV w B K L S n) (ok:aG S) (an:Ez S) (Q:aF w B):
  Calls prog 109 #[Y L.s,.agg (o.cells ae ad)] w (bH w B K L n (mapD S o)):=by
 have ci:prog.follows .mixedOrders=true:=N
 obtain ⟨bg,ax,ay,aa,ai⟩:=begun h ok Q o ae ad;have az:=lH bg;have be:Hid (∀w',Fr No (dG w o ae ad) w'->Calls prog 163 #[Y L.tk,o.c,o.h] w' λe bl=>e=.returned (.tuple #[kK ((dE S.K o.c o.h).getD fU),.bool (dE S.K o.c o.h).isSome])/\Fr No w' bl):=
  lH (λw' f=>by
   obtain ⟨v,ao,u⟩:=Nv (aa.no ok ai f).tok;exact Eu L.tk v S.K o.c o.h w' ao u)
 have bt:Hid (∀x,dE S.K o.c o.h=some x->∃i m,x.i=((i:Nat):Int)/\S.F i=some m/\∀w',Fr No (dG w o ae ad) w'->Calls prog 162 #[Y L.s,i] w' (Jw w' i m)):=
  lH (λx aw=>by
   obtain ⟨i,m,ao,u,ap⟩:=an.tok x (CX aw);exact ⟨i,m,ao,ap,λw' f=>Tc B K n L S i m w' (aa.no ok ai f) X ap (an.fit i m ap)⟩)
 have bw:Hid (dE S.K o.c o.h=none->∀e w',e=.panicked (kH 13)->Fr No w w'->bH w B K L n (mapD S o) e w'):=λau e w' aq f=>by
  unfold mapD;rw [au];exact bH.no h ok Q G aq f
 have bv:Hid (∀x i m,dE S.K o.c o.h=some x->x.i=((i:Nat):Int)->S.F i=some m->∀v b c e w' E,e=.returned (.agg #[Z 0,i,m.size,Z 0,Z 0,false,nS,v])->Fr No w w'->w.heap.size+1<w'.heap.size->fB E v (lM m) b 0 c->w.heap.size<=b->Fr (λj=>j=w.heap.size+1) w' E->bH w B K L n (mapD S o) e E):=λx i m aw ce ar v b c e w' E aq f ch av J g=>by
  unfold mapD;rw [aw];dsimp only;rw [ce,GH,ar];exact bH.yes (C:=λ_=>False) Q f (Step.refl (Step.no (C:=λ_=>False) Q f).fresh) (λ_ e=>e.elim) X ch g ok (h.no ok Q f) aq ⟨_,_,rfl,.inl ⟨rfl,rfl⟩,.inr ⟨b,0,c,av,av.2.2.1⟩,Low.nil _,Low.at av.1 J⟩
 generalize cc:bH w B K L n _=cl at*;clear cc;have br:=lH aa;clear aa ai bg h ok Q an;generalize dE S.K o.c o.h=r at*;unfold dG aH.cells bT aW.cells at*;unfold kK at be;go_enter func109,ntmps109;go_wp2_with fail;generalize (w.alloc _).alloc _=w0 at*;have B1:=lH (lt_of_block ay);generalize ct:w.heap.size=H at*;have ca:w0.cell? (I L.s 10)=some (Y L.tk):=br.o.cell 10;(have d0:w0.cell? (I H 0)=some (Z o.c):=by rw [aA ax];rfl);have cb:w0.cell? (I H 9)=some (Z o.h):=by rw [aA ax];rfl
 have bx:=lH ay;clear ax ay;refine xE ci (xO w0) 13 [14,15] N N N N (λ_ _ d _ _ h=>by cases d<;>exact h) ⟨(Fr.refl _).drew,.inl R⟩ ?_;repeat (first
  | refine uY R ?_
  | (refine vF (v:= ?_) R (λa v w=>wB w0 _ G a v w) R ?_ ?_
     rotate_left 1;(intro W;go_simp;(try with_reducible rfl))
     simp only [pT,aI,lsS])
  | (refine wG (v:= ?_) R (λa v w=>wB w0 _ G a v w) N R ?_ ?_
     rotate_left 1;(intro W A;obtain ⟨_,am,_⟩:=A;have cn:=am.cell_of ca id;have co:=am.cell_of d0 id;have cp:=am.cell_of cb id;go_simp;(try with_reducible rfl))
     simp only [pT,aI,lsS]))
 refine H7 (v:=.tuple #[.agg #[.int .i64 (r.getD fU).c,.int .i64 (r.getD fU).h,.int .i64 (r.getD fU).i,.bool (r.getD fU).wr],r.isSome]) 163 #[Y L.tk,o.c,o.h] R (λa v w=>wB w0 _ G a v w) N R (λW=>by go_simp) (λw' A=>(be.o w' A.choose_spec.1).mono (λe bl h=>⟨h.1,λb J=>Rk h.2 b J⟩)) ?_;simp only [pT,aI,lsS];repeat (first
  | refine uY R ?_
  | (refine vF (v:= ?_) R (λa v w=>wB w0 _ G a v w) R ?_ ?_
     rotate_left 1;(intro W;go_simp;(try with_reducible rfl))
     simp only [pT,aI,lsS]))
 unfold jZ;refine xX R R ?_;intro W A;refine ⟨.pointer (some (I W 0)),W.alloc (.cells #[Z 0,Z 0,Z 0,false] 53),by go_simp,?_,?_⟩;{exact ⟨A.1.alloc _,.inr ⟨W,by rfl,A.1.size,aQ W _⟩⟩}
 ·intro al cd;obtain ⟨bh,u⟩:=cd;have bj:al.heap[W.heap.size]? =some (.cells #[Z 0,Z 0,Z 0,false] 53 (0,0)):=by{rcases u with u|⟨g,e,_,cg⟩;{exact absurd (show Value.pointer (some (I W 0))=undef from u) (by intro h;cases h)};{have e':=e;cases e';exact cg}}
  have ak:=lH bj;have af:=lH bh;clear u bj bh;simp only [DZ,FU,GG,ED,EQ,pT,aI,lsS];have bu:=lH (show (#[.int .i64 (r.getD fU).c,.int .i64 (r.getD fU).h,.int .i64 (r.getD fU).i,.bool (r.getD fU).wr]:Array Value).all (·.oneCell')=true from by simp [Value.oneCell']);refine wS 53 ak ?_;go_wp2_with fail;have bd:=lH A.1.size;have bf:=aX (cs':= #[.int .i64 (r.getD fU).c,.int .i64 (r.getD fU).h,.int .i64 (r.getD fU).i,.bool (r.getD fU).wr]) ak.o;cases r with
  | none=>
   have cj:=lH (af.o);go_wp2_with fail;refine cr (gQ _ _) ?_;rintro cu rfl;go_wp2_with fail;refine ⟨rfl,bw trivial _ _ rfl (az.o.trans (Fr.setRow af (.inr bd) _) zq)⟩
  | some x=>
   obtain ⟨i,m,bk,ar,bp⟩:=bt.o x rfl;obtain ⟨bm,bn,cv,bo⟩:=x;dsimp only at bk;subst bk;dsimp only [Option.getD_some] at bf ak bu ⊢;have ah:Hid (Fr No w0 (al.setRow W #[bm,bn,i,bo])):=Fr.setRow af (.inr bd) _;have cm:(al.setRow W #[bm,bn,i,bo]).cell? (I W 2)=some (Z i):=(by rw [aA bf];rfl);have bq:=lH (bp _ ah);go_wp2_with fail;refine cq (iR _ _) ?_;go_wp2_with fail;refine bq.o.mono ?_;rintro e E ⟨v,b,c,rfl,bi,sl,J⟩;obtain rfl:=sl.1;have bb:=lH (ah.o.trans bi zq);have aj:=lH (bb.o.aB bx id);have ab:=lH sl;have bc:=lH (AP (AP B1 ah.o.size) J);clear bi sl J;have ck:=lH (show (#[Z 0,i,m.size,Z 0,Z 0,false,nS,O b (lM m).length c]:Array Value).all (·.oneCell')=true from by simp [Value.oneCell']);go_wp2_with (refine wS 29 aj ?_);have bz:=aX (cs':= #[Z 0,i,m.size,Z 0,Z 0,false,nS,O b (lM m).length c]) aj.o;have ag:Fr (λj=>j=H+1) E (E.setRow (H+1) #[Z 0,i,m.size,Z 0,Z 0,false,nS,O b (lM m).length c]):=fR;have au:b≠H+1:=(by have:=bc.o;omega)
   exact AZ (v:=.agg _) (BD rfl _ _ (H+1) 29 _ (0,0) _ rfl bz underlying29 rfl Tryz.size29) rfl
    (bv.o _ i m rfl rfl ar _ b c _ _ _ rfl (az.o.trans bb zq) (lt_of_block aj) ⟨ab.o.1,ab.o.2.1,AP ab.o.2.2.1 ag.size,λj y cf=>ag.cell_of (ab.o.2.2.2 j y cf) au⟩ (by have:=bc.o;omega) ag)
def Ci (w:World) (d:Dl) (e:Ending) (w':World):Prop:=e=.returned (.bool (decide (dP d)))/\Fr No w w'
theorem Sv (d w):Calls prog 113 #[iQ d] w (Ci w d):=by
 have dd:Fr No w (w.alloc (.cells (dD d).toArray 61)):=(Fr.refl w).alloc _;have dk:iC (w.alloc (.cells (dD d).toArray 61)) w d:=aQ w _;have ad:Hid (∀(cb:Bool) e w',(cb=true↔dP d)->e=.returned (.bool cb)->Fr No w w'->Ci w d e w'):=λcb e w' h dp f=>by
  (have:decide (dP d)=cb:=by{(cases cb);{rw [DV];intro dq;cases h.2 dq};{rw [BR];exact h.1 rfl}});exact ⟨by rw [this];exact dp,f⟩
 generalize Ci w d=dy at*;have E:Hid (dP d↔2<=d.i/\d.i<=128/\0<=d.b/\d.b<64/\0<=d.s/\d.s<=4096/\dU d.t/\dU d.o/\((d.k=1/\d.o=aS)\/(d.k=2/\d.o=aS/\d.t=aS/\d.b=0)\/(d.k=3/\d.s=0))):=Iff.rfl;have aa:Hid (∀W,Calls prog 165 #[dF d.t] W (wC W d.t)):=λW=>H9 d.t W;have ab:Hid (∀W,Calls prog 165 #[dF d.o] W (wC W d.o)):=λW=>H9 d.o W;have ao:Hid (∀W,Calls prog 166 #[dF d.t] W λe w'=>e=.returned (.bool (decide (d.t=aS)))/\Fr No W w'):=λW=>yC 166 (.inr rfl) d.t W;have ai:Hid (∀W,Calls prog 166 #[dF d.o] W λe w'=>e=.returned (.bool (decide (d.o=aS)))/\Fr No W w'):=λW=>yC 166 (.inr rfl) d.o W;unfold wC at aa ab;have H:=lH dd;have Q:=lH dk;unfold dF at*;unfold iQ;unfold dD at H Q;clear dd dk;have al:Hid (decide (dU d.t)=true↔dU d.t):=JQ;have ak:Hid (decide (dU d.o)=true↔dU d.o):=JQ;have an:Hid (decide (d.t=aS)=true↔d.t=aS):=JQ;have aj:Hid (decide (d.o=aS)=true↔d.o=aS):=JQ;generalize decide (dU d.t)=dm at*;generalize decide (dU d.o)=dl at*;generalize decide (d.t=aS)=dx at*;generalize decide (d.o=aS)=dc at*;by_cases de:2<=d.i;rotate_left 1;{have o:Hid (false=true↔dP d):=lH (by rw [E.o];constructor;intro h;cases h;rintro ⟨a0,a1,a2,a3,a4,bj,_⟩;exact absurd a0 de);clear E aa ab ao ai al ak an aj Q;go_enter func113,ntmps113;exact aC (ad.o false _ _ o rfl H.o)};by_cases df:d.i<=128;rotate_left 1;{have o:Hid (false=true↔dP d):=lH (by rw [E.o];constructor;intro h;cases h;rintro ⟨a0,a1,a2,a3,a4,bj,_⟩;exact absurd a1 df);clear E aa ab ao ai al ak an aj Q;go_enter func113,ntmps113;exact aC (ad.o false _ _ o rfl H.o)};by_cases dg:0<=d.b;rotate_left 1;{have o:Hid (false=true↔dP d):=lH (by rw [E.o];constructor;intro h;cases h;rintro ⟨a0,a1,a2,a3,a4,bj,_⟩;exact absurd a2 dg);clear E aa ab ao ai al ak an aj Q;go_enter func113,ntmps113;exact aC (ad.o false _ _ o rfl H.o)};by_cases dh:d.b<64;rotate_left 1;{have o:Hid (false=true↔dP d):=lH (by rw [E.o];constructor;intro h;cases h;rintro ⟨a0,a1,a2,a3,a4,bj,_⟩;exact absurd a3 dh);clear E aa ab ao ai al ak an aj Q;go_enter func113,ntmps113;exact aC (ad.o false _ _ o rfl H.o)};by_cases di:0<=d.s;rotate_left 1;{have o:Hid (false=true↔dP d):=lH (by rw [E.o];constructor;intro h;cases h;rintro ⟨a0,a1,a2,a3,a4,bj,_⟩;exact absurd a4 di);clear E aa ab ao ai al ak an aj Q;go_enter func113,ntmps113;exact aC (ad.o false _ _ o rfl H.o)};by_cases dj:d.s<=4096;rotate_left 1;{have o:Hid (false=true↔dP d):=lH (by rw [E.o];constructor;intro h;cases h;rintro ⟨a0,a1,a2,a3,a4,bj,_⟩;exact absurd bj dj);clear E aa ab ao ai al ak an aj Q;go_enter func113,ntmps113;exact aC (ad.o false _ _ o rfl H.o)};rcases LM dm with ch|ch;rotate_left 1;{subst ch;have o:Hid (false=true↔dP d):=lH (by rw [E.o,<-al.o];simp);go_enter func113,ntmps113;go_wp2_with fail;refine cr (aa.o _) λaq r=> ?_;have J:=lH (H.o.trans r zq);have u:=lH (iC.fr Q r);obtain ⟨ar,au,az,bb,bc,bd,be,bf,bg,bh,av,aw,ax,ay⟩:=u.o.cells;exact aC (ad.o false _ _ o rfl J.o)};subst ch;rcases LM dl with cg|cg;rotate_left 1;{subst cg;have o:Hid (false=true↔dP d):=lH (by rw [E.o,<-ak.o];simp);go_enter func113,ntmps113;go_wp2_with fail;refine cr (aa.o _) λaq r=> ?_;have J:=lH (H.o.trans r zq);have u:=lH (iC.fr Q r);obtain ⟨ar,au,az,bb,bc,bd,be,bf,bg,bh,av,aw,ax,ay⟩:=u.o.cells;go_wp2_with fail;refine cr (ab.o _) λv A=> ?_;have ae:=lH (J.o.trans A zq);have B:=lH (iC.fr u A);obtain ⟨ah,bl,bq,br,bt,bu,bv,bw,bx,bz,bm,bn,bo,bp⟩:=B.o.cells;exact aC (ad.o false _ _ o rfl ae.o)};subst cg;have bi:Hid (dP d↔((d.k=1/\d.o=aS)\/(d.k=2/\d.o=aS/\d.t=aS/\d.b=0)\/(d.k=3/\d.s=0))):=lH (by rw [E.o,<-al.o,<-ak.o];simp [de,df,dg,dh,di,dj]);clear E al ak;by_cases bk:d.k=1;{have o:Hid (dc=true↔dP d):=lH (by rw [bi.o,aj.o];simp [bk]);have af:=lH bk;clear bk;go_enter func113,ntmps113;go_wp2_with fail;refine cr (aa.o _) λaq r=> ?_;have J:=lH (H.o.trans r zq);have u:=lH (iC.fr Q r);obtain ⟨ar,au,az,bb,bc,bd,be,bf,bg,bh,av,aw,ax,ay⟩:=u.o.cells;go_wp2_with fail;refine cr (ab.o _) λv A=> ?_;have ae:=lH (J.o.trans A zq);have B:=lH (iC.fr u A);obtain ⟨ah,bl,bq,br,bt,bu,bv,bw,bx,bz,bm,bn,bo,bp⟩:=B.o.cells;rw [af.o] at ah;go_wp2_with fail;refine cr (ai.o _) λx ag=> ?_;have ap:=lH (ae.o.trans ag zq);have am:=lH (iC.fr B ag);obtain ⟨cl,cm,cu,cv,cw,cx,cy,cz,da,db,cn,co,cp,ct⟩:=am.o.cells;exact aC (ad.o dc _ _ o rfl ap.o)};by_cases cc:d.k=2
 {have af:=lH cc;clear bk cc;rcases LM dc with cj|cj;rotate_left 1;{subst cj;have o:Hid (false=true↔dP d):=lH (by rw [bi.o,af.o,<-aj.o];simp);go_enter func113,ntmps113;go_wp2_with fail;refine cr (aa.o _) λaq r=> ?_;have J:=lH (H.o.trans r zq);have u:=lH (iC.fr Q r);obtain ⟨ar,au,az,bb,bc,bd,be,bf,bg,bh,av,aw,ax,ay⟩:=u.o.cells;go_wp2_with fail;refine cr (ab.o _) λv A=> ?_;have ae:=lH (J.o.trans A zq);have B:=lH (iC.fr u A);obtain ⟨ah,bl,bq,br,bt,bu,bv,bw,bx,bz,bm,bn,bo,bp⟩:=B.o.cells;rw [af.o] at ah;go_wp2_with fail;refine cr (ai.o _) λx ag=> ?_;have ap:=lH (ae.o.trans ag zq);have am:=lH (iC.fr B ag);obtain ⟨cl,cm,cu,cv,cw,cx,cy,cz,da,db,cn,co,cp,ct⟩:=am.o.cells;exact aC (ad.o false _ _ o rfl ap.o)};subst cj;rcases LM dx with ck|ck;rotate_left 1;{subst ck;have o:Hid (false=true↔dP d):=lH (by rw [bi.o,af.o,<-an.o];simp);go_enter func113,ntmps113;go_wp2_with fail;refine cr (aa.o _) λaq r=> ?_;have J:=lH (H.o.trans r zq);have u:=lH (iC.fr Q r);obtain ⟨ar,au,az,bb,bc,bd,be,bf,bg,bh,av,aw,ax,ay⟩:=u.o.cells;go_wp2_with fail;refine cr (ab.o _) λv A=> ?_;have ae:=lH (J.o.trans A zq);have B:=lH (iC.fr u A);obtain ⟨ah,bl,bq,br,bt,bu,bv,bw,bx,bz,bm,bn,bo,bp⟩:=B.o.cells;rw [af.o] at ah;go_wp2_with fail;refine cr (ai.o _) λx ag=> ?_;have ap:=lH (ae.o.trans ag zq);have am:=lH (iC.fr B ag);obtain ⟨cl,cm,cu,cv,cw,cx,cy,cz,da,db,cn,co,cp,ct⟩:=am.o.cells;go_wp2_with fail;refine cr (ao.o _) λy ca=> ?_;have cd:=lH (ap.o.trans ca zq);have ce:=lH (iC.fr am ca);obtain ⟨y0,y1,y2,y3,y4,y5,y6,y7,dv,dw,dr,ds,dt,du⟩:=ce.o.cells;exact aC (ad.o false _ _ o rfl cd.o)};subst ck;have o:Hid ((d.b==0)=true↔dP d):=lH (by rw [bi.o,af.o,<-aj.o,<-an.o];simp);generalize dn:(d.b==0)=cf at*;go_enter func113,ntmps113;go_wp2_with fail;refine cr (aa.o _) λaq r=> ?_;have J:=lH (H.o.trans r zq);have u:=lH (iC.fr Q r);obtain ⟨ar,au,az,bb,bc,bd,be,bf,bg,bh,av,aw,ax,ay⟩:=u.o.cells;go_wp2_with fail;refine cr (ab.o _) λv A=> ?_;have ae:=lH (J.o.trans A zq);have B:=lH (iC.fr u A);obtain ⟨ah,bl,bq,br,bt,bu,bv,bw,bx,bz,bm,bn,bo,bp⟩:=B.o.cells;rw [af.o] at ah;go_wp2_with fail;refine cr (ai.o _) λx ag=> ?_;have ap:=lH (ae.o.trans ag zq);have am:=lH (iC.fr B ag);obtain ⟨cl,cm,cu,cv,cw,cx,cy,cz,da,db,cn,co,cp,ct⟩:=am.o.cells;go_wp2_with fail;refine cr (ao.o _) λy ca=> ?_;have cd:=lH (ap.o.trans ca zq);have ce:=lH (iC.fr am ca);obtain ⟨y0,y1,y2,y3,y4,y5,y6,y7,dv,dw,dr,ds,dt,du⟩:=ce.o.cells;exact aC (ad.o cf _ _ o rfl cd.o)};by_cases ci:d.k=3;{have af:=lH ci;clear bk cc ci;have o:Hid ((d.s==0)=true↔dP d):=lH (by rw [bi.o,af.o];simp);generalize dn:(d.s==0)=cf at*;go_enter func113,ntmps113;go_wp2_with fail;refine cr (aa.o _) λaq r=> ?_;have J:=lH (H.o.trans r zq);have u:=lH (iC.fr Q r);obtain ⟨ar,au,az,bb,bc,bd,be,bf,bg,bh,av,aw,ax,ay⟩:=u.o.cells;go_wp2_with fail;refine cr (ab.o _) λv A=> ?_;have ae:=lH (J.o.trans A zq);have B:=lH (iC.fr u A);obtain ⟨ah,bl,bq,br,bt,bu,bv,bw,bx,bz,bm,bn,bo,bp⟩:=B.o.cells;rw [af.o] at ah;exact aC (ad.o cf _ _ o rfl ae.o)};have o:Hid (false=true↔dP d):=lH (by rw [bi.o];simp [bk,cc,ci]);go_enter func113,ntmps113;go_wp2_with fail;refine cr (aa.o _) λaq r=> ?_;have J:=lH (H.o.trans r zq);have u:=lH (iC.fr Q r);obtain ⟨ar,au,az,bb,bc,bd,be,bf,bg,bh,av,aw,ax,ay⟩:=u.o.cells;go_wp2_with fail;refine cr (ab.o _) λv A=> ?_;have ae:=lH (J.o.trans A zq);have B:=lH (iC.fr u A);obtain ⟨ah,bl,bq,br,bt,bu,bv,bw,bx,bz,bm,bn,bo,bp⟩:=B.o.cells;exact aC (ad.o false _ _ o rfl ae.o)
def iY (S:St) (r:aH):Int×aW×St:=
 if (lookOf S.T r.path).1≠0 then ((lookOf S.T r.path).1,bT,S)
 else if (lookOf S.T r.path).2.2=true then (9,bT,S)
 else if (eU S.K r.c (lookOf S.T r.path).2.1 r.wr).1≠0 then ((eU S.K r.c (lookOf S.T r.path).2.1 r.wr).1,bT,S)
 else (0,qV (lookOf S.T r.path).2.1 ((S.F (lookOf S.T r.path).2.1).getD mQ) (eU S.K r.c (lookOf S.T r.path).2.1 r.wr).2.1,{S with K:=(eU S.K r.c (lookOf S.T r.path).2.1 r.wr).2.2})
theorem aE5 {L c i b} (h:(eU L c i b).1≠0):(eU L c i b).2.2=L:=by
 unfold eU at h ⊢;split;{rfl};{split;{rfl};{rename_i o r;rw [AA o,AA r] at h;exact absurd rfl h}}
theorem aG.Az {S} (ok:aG S) (o):aG {S with K:=o}:=⟨ok.tree,ok.file⟩
theorem aFg (u K n L S o am ak w) (h:aV w u K L S n) (ok:aG S) (al:Ez S) (ab:aF w u) (ci:o.path.length<=1000000) (cg:0<=o.c/\o.c<4):
  Calls prog 107 #[Y L.s,.agg (o.cells am ak)] w (bH w u K L n (iY S o)):=by
 obtain ⟨ce,ax,br,aj,ad⟩:=begun h ok ab o am ak;have az:=lH ce;have bd:Hid (∀w',Fr No (dG w o am ak) w'->Calls prog 85 #[Y L.tr,(ba o.path)] w' λe A=>e=.returned (.tuple #[.int .i64 (lookOf S.T o.path).2.1,.bool (lookOf S.T o.path).2.2,.int .i64 (lookOf S.T o.path).1])/\Fr No w' A):=
  lH (λw' f=>yJ u K L.tr S.T o.path w' ci ((aj.no ok ad f).tree) ok.tree (Step.no (C:=λ_=>False) ad f).fresh)
 have bc:Hid ((lookOf S.T o.path).1=0->(lookOf S.T o.path).2.2=false->2<=(lookOf S.T o.path).2.1/\(lookOf S.T o.path).2.1<=128/\∃m,S.F (lookOf S.T o.path).2.1=some m):=λae aa=>by
  obtain ⟨x,H,hd⟩:=look_ok ok.tree ae;obtain ⟨m,Q⟩:=al.dir _ x H (by rw [hd,aa]);have bn:=ok.tree.lt H;(have dr:(lookOf S.T o.path).2.1≠1:=by{intro e;rw [e,ok.tree.root] at H;cases H;rw [aa] at hd;cases hd});exact ⟨by omega,bn.2,m,Q⟩
 have be:Hid (∀i:Nat,2<=i/\i<=128->∀w',Fr No (dG w o am ak) w'->Calls prog 161 #[Y L.tk,o.c,i,o.wr] w' (zL w' u K L.tk S.K (eU S.K o.c i o.wr))):=λi dh w' f=>
  open_ u K L.tk S.K o.c i o.wr w' ((aj.no ok ad f).tok) (Step.no (C:=λ_=>False) ad f).fresh cg X al.small al.few
 have cv:Hid (∀w' A r J,Fr No (dG w o am ak) w'->Step (gZ K) w' u A r->kG A r K L.tk J->aV A r K L {S with K:=J} n):=λw' A r J f s t=>(aj.no ok ad f).Az ok s t;have cp:Hid (∀(i:Nat) m w' r J,i<=128->S.F i=some m->aV w' r K L {S with K:=J} n->Calls prog 162 _ w' (Jw w' i m)):=λi m w' r J dh Q t=>
  Tc r K n L {S with K:=J} i m w' t X Q (al.fit i m Q)
 have bg:Hid ((lookOf S.T o.path).1≠0->∀e w',e=.panicked (kH (lookOf S.T o.path).1)->Fr No w w'->bH w u K L n (iY S o) e w'):=λE e w' af f=>by
  unfold iY;rw [AL E];exact bH.no h ok ab E af f
 have bh:Hid ((lookOf S.T o.path).1=0->(lookOf S.T o.path).2.2=true->∀e w',e=.panicked (kH 9)->Fr No w w'->bH w u K L n (iY S o) e w'):=λae aa e w' af f=>by
  unfold iY;rw [AA (by simp [ae]),AL aa];exact bH.no h ok ab G af f
 have bi:Hid ((lookOf S.T o.path).1=0->(lookOf S.T o.path).2.2=false->(eU S.K o.c (lookOf S.T o.path).2.1 o.wr).1≠0->∀e w' A r,e=.panicked (kH (eU S.K o.c (lookOf S.T o.path).2.1 o.wr).1)->Fr No w w'->Step (gZ K) w' u A r->aV A r K L {S with K:=(eU S.K o.c (lookOf S.T o.path).2.1 o.wr).2.2} n->bH w u K L n (iY S o) e A):=λae aa E e w' A r af f s t=>by
  unfold iY;rw [AA (by simp [ae]),AA (by simp [aa]),AL E];rw [aE5 E] at t;exact bH.no' ab f s (λ_ e=>Gs e) t E af
 have bf:Hid ((lookOf S.T o.path).1=0->(lookOf S.T o.path).2.2=false->(eU S.K o.c (lookOf S.T o.path).2.1 o.wr).1=0->∀m,S.F (lookOf S.T o.path).2.1=some m->∀v b c e w' A ao r,
   e=.returned (.agg #[Z 0,.int .i64 (lookOf S.T o.path).2.1,m.size,.int .i64 (eU S.K o.c (lookOf S.T o.path).2.1 o.wr).2.1,Z 0,false,nS,v])->Fr No w w'->w.heap.size+1<w'.heap.size->Step (gZ K) w' u A r->
   aV A r K L {S with K:=(eU S.K o.c (lookOf S.T o.path).2.1 o.wr).2.2} n->fB ao v (lM m) b 0 c->w.heap.size<=b->Fr (λj=>j=w.heap.size+1) A ao->bH w u K L n (iY S o) e ao):=lH (λae aa bn m Q v b c e w' A ao r af f dj s t bq bo g=>by
  unfold iY;rw [AA (by simp [ae]),AA (by simp [aa]),AA (by simp [bn]),Q];dsimp only [Option.getD_some];exact bH.yes ab f s (λ_ e=>Gs e) X dj g (ok.Az _) t af ⟨_,_,rfl,.inl ⟨rfl,rfl⟩,.inr ⟨b,0,c,bq,bq.2.2.1⟩,Low.nil _,Low.at bq.1 bo⟩)
 generalize dg:bH w u K L n _=dq at*;clear dg;have db:Hid (¬gZ K (u L.s)):=lH (by rw [h.own];unfold gZ;omega);have cz:Hid (¬gZ K (u w)):=lH (by rw [ab _ (AU _)];unfold gZ;omega);have da:Hid (¬gZ K (u (w.heap.size+1))):=lH (by rw [ab _ (BZ _)];unfold gZ;omega);have bw:=lH aj;have dm:=lH ad;clear aj ad ce h ok ab ci al cg;generalize lookOf S.T o.path=dc at*;obtain ⟨bl,i,d⟩:=dc;dsimp only at bd bc bg bh bi bf;unfold zL nU at be;unfold dG aH.cells bT aW.cells at*;go_enter func107,ntmps107;go_wp2_with fail;generalize (w.alloc _).alloc _=w0 at*;have B1:=lH (lt_of_block br);generalize ds:w.heap.size=B at*;have de:w0.cell? (I L.s 9)=some (Y L.tr):=bw.o.cell 9;have ar:w0.cell? (I L.s 10)=some (Y L.tk):=bw.o.cell 10;(have d0:w0.cell? (I B 0)=some (Z o.c):=by rw [aA ax];rfl);(have df:w0.cell? (I B 4)=some (.string (ba o.path)):=by rw [aA ax];rfl);have au:w0.cell? (I B 7)=some (.bool o.wr):=by rw [aA ax];rfl
 have cx:=lH br;have cl:=lH ar;have cm:=lH d0;have cn:=lH au;clear ax br ar d0 au;go_region_held3 (λw'=>w'.cell? (I L.s 9)=some (Y L.tr)/\w'.cell? (I B 4)=some (.string (ba o.path))) (first|go_keep|(go_split_ands;refine ⟨?_,?_⟩<;>exact bm.cell_of (by assumption) id))
  ((go_at_call 85;refine (bd.o _ (Fr.refl _).drew).mono ?_;rintro e dt ⟨rfl,bm⟩))
 have ag:=lH ((Fr.refl w0).drew.trans bm zq);clear bm de df;cases H:(bl==0) with
 | false=>
  (have E:bl≠0:=by simpa using H);go_wp2_with fail;refine cr (gQ _ _) ?_;rintro ah rfl;go_wp2_with fail;exact ⟨rfl,bg E _ _ rfl (az.o.trans ag zq)⟩
 | true=>
  obtain rfl:bl=0:=by simpa using H
  clear H;cases d with
  | true=>
   go_wp2_with fail;refine cr (iR _ _) ?_;rintro ah rfl;go_wp2_with fail;refine cr (gQ _ _) ?_;rintro ah rfl;go_wp2_with fail;exact ⟨rfl,bh trivial trivial _ _ rfl (az.o.trans ag zq)⟩
  | false=>
   obtain ⟨di,ch,m,Q⟩:=bc.o rfl rfl;have bx:=lH (be.o i ⟨di,ch⟩);have ca:=lH (bi.o rfl rfl);have bz:=lH (bf.o rfl rfl);have ct:=lH (λw' r J=>cp.o i m w' r J ch Q);have cu:=lH Q;clear bg bh bi bf Q;clear be bc bd;generalize eU S.K o.c i o.wr=dd at*;obtain ⟨ey,aw,J⟩:=dd;dsimp only at bx ca bz;go_wp2_with fail;refine cr (iR _ _) ?_;rintro ah rfl;go_wp2_with fail;refine cr (iR _ _) ?_;rintro ah rfl;go_wp2_with fail;have ar:=ag.o.cell_of cl id;have d0:=ag.o.cell_of cm id;have au:=ag.o.cell_of cn id;have ai:=lH (ag.o.trans (Fr.refl ah).drew zq);go_region_held3 (λw'=>w'.cell? (I L.s 10)=some (Y L.tk)/\w'.cell? (I B 0)=some (Z o.c)/\w'.cell? (I B 7)=some (.bool o.wr)) (first|go_keep|(go_split_ands;refine ⟨?_,?_,?_⟩<;>exact an.fr.cell_of (by assumption) (by first|exact db.o|exact cz.o)))
    ((go_at_call 161;refine (bx.o _ ai).mono ?_;rintro e ao ⟨rfl,r,an,cj⟩))
   have bk:=lH (cv.o _ _ _ _ ai an cj);have bj:=lH an;have bu:=lH (az.o.trans ai zq);have cd:Hid (B+1<ah.drew.heap.size):=lH (by have:=ai.o.size;have:=B1.o;omega);have cb:=lH (an.fr.aB (ai.o.aB cx id) da);clear an cj ar d0 au;cases H:(ey==0) with
   | false=>
    have E:ey≠0:=(U H);have cw:=lH (ca.o E _ _ _ _ rfl bu bj bk);go_wp2_with fail;refine cr (gQ _ _) ?_;rintro du rfl;go_wp2_with fail;exact ⟨rfl,cw⟩
   | true=>
    obtain rfl:ey=0:=(U H);clear H;have co:=lH (ct.o _ _ _ bk);go_wp2_with fail;refine cq (iR _ _) ?_;go_wp2_with fail;refine co.o.mono ?_;rintro e ck ⟨v,b,c,rfl,av,sl,bo⟩;obtain rfl:=sl.1;have dl:=lH av;have dp:=lH (av.aB cb id);have aq:=lH sl;have bv:Hid (B+1<b):=lH (by have:=bj.o.fr.size;have:=cd.o;omega);have bt:=lH ((av.alloc (.cells #[Z 0,i,m.size,aw,Z 0,false,nS,O b (lM m).length c] 29)));have cc:=lH (bt.o.aB cb id);have dn:=lH (show (#[Z 0,i,m.size,aw,Z 0,false,nS,O b (lM m).length c]:Array Value).all (·.oneCell')=true from by simp [Value.oneCell']);clear av sl bo;go_wp2_with (refine wS 29 cc ?_);have cy:=aX (cs':= #[Z 0,i,m.size,aw,Z 0,false,nS,O b (lM m).length c]) cc.o;generalize dk:ck.alloc _=ay at*;have bb:Fr (λj=>j=B+1) ay (ay.setRow (B+1) #[Z 0,i,m.size,aw,Z 0,false,nS,O b (lM m).length c]):=fR;have E:b≠B+1:=(by have:=bv.o;omega);have ap:fB ay (O b (lM m).length c) (lM m) b 0 c:=by{have cf:Fr No ck ay:=(by rw [<-dk];exact (Fr.refl _).alloc _);exact ⟨aq.o.1,aq.o.2.1,AP aq.o.2.2.1 cf.size,λj y bp=>cf.cell_of (aq.o.2.2.2 j y bp) id⟩}
    exact AZ (v:=.agg _) (BD rfl _ _ (B+1) 29 _ (0,0) _ rfl cy underlying29 rfl Tryz.size29) rfl
     (bz.o trivial m cu _ b c _ _ _ _ _ rfl bu cd bj bk ⟨ap.1,ap.2.1,AP ap.2.2.1 bb.size,λj y bp=>bb.cell_of (ap.2.2.2 j y bp) E⟩ (by have:=bv.o;omega) (bt.o.aY.trans bb zq))
structure xC {K:Type} (lt:K->K->Prop):Prop where
 irr:∀a,¬lt a a
 trans:∀a b c,lt a b->lt b c->lt a c
 tri:∀a b,lt a b\/a=b\/lt b a
theorem xG:xC (λa b:Nat=>a<b):=⟨λa=>Nat.lt_irrefl a,λ_ _ _=>Nat.lt_trans,λa b=>by omega⟩
def Keyed {K V:Type} (lt:K->K->Prop) (f:K->Option V) (l:List (K×V)):Prop:=l.Pairwise (λa b=>lt a.1 b.1)/\∀k v,(k,v)∈l↔f k=some v
def iG {α:Type} (b:α->Bool) (x:α):List α->List α
 | []=> [x]
 | y::r=>if b y=true then x::y::r else y::iG b x r
theorem Hq {α:Type} (b:α->Bool) (x y:α):∀l:List α,y∈iG b x l↔y=x\/y∈l
 | []=>by simp [iG]
 | z::r=>by
  have o:=Hq b x y r;unfold iG;split
  ·simp
  ·rw [CE,o,CE];constructor
   ·rintro (h|h|h)<;>simp [h]
   ·rintro (h|h|h)<;>simp [h]
theorem Yy {α:Type} (b:α->Bool) (x:α):∀l:List α,(∀y∈l,b y=false)->iG b x l=l++ [x]
 | [],_=>rfl
 | z::r,h=>by
  unfold iG;rw [h z BK,AA G,Yy b x r (λy o=>h y (BH _ o))];rfl
theorem Rt {α:Type} (b:α->Bool) (x y:α) (h:b y=true):∀l:List α,(∀y∈l,b y=false)->iG b x (l++ [y])=l++ [x,y]
 | [],_=>by rw [DK];unfold iG;rw [AL h];rfl
 | z::r,hl=>by
  rw [CP];unfold iG;rw [hl z BK,AA G,Rt b x y h r (λy o=>hl y (BH _ o))];rfl
theorem Yj {α:Type} (b:α->Bool) (x y:α):∀l:List α,(∃z∈l,b z=true)->iG b x (l++ [y])=iG b x l++ [y]
 | [],h=>by obtain ⟨z,u,_⟩:=h;cases u
 | z::r,h=>by
  rw [CP];unfold iG;split
  ·rfl
  ·rename_i u
   obtain ⟨B,o,A⟩:=h;rw [Yj b x y r ?_]
   ·rfl
   ·rcases CE.1 o with rfl|o
    ·exact absurd A u
    ·exact ⟨B,o,A⟩
section
variable {K V:Type} {lt:K->K->Prop} {f:K->Option V} {l:List (K×V)}
theorem Keyed.nil:Keyed lt (λ_=>(none:Option V)) []:=⟨List.Pairwise.nil,λk v=>by simp⟩
theorem Keyed.congr {g} (h:Keyed lt f l) (e:∀k,f k=g k):Keyed lt g l:=⟨h.1,λk v=>by rw [h.2,e]⟩
theorem Keyed.one (u:xC lt) (h:Keyed lt f l) {i j:Nat} {x y} (J:l[i]? =some x) (Q:l[j]? =some y) (e:x.1=y.1):i=j:=by
 have r:=h.1;rw [KZ] at r;obtain ⟨A,B⟩:=AX.1 J;obtain ⟨E,H⟩:=AX.1 Q;rcases Nat.lt_trichotomy i j with o|o|o;{have:=r i j A E o;rw [B,H,e] at this;exact absurd this (u.irr _)};{exact o};{have:=r j i E A o;rw [B,H,e] at this;exact absurd this (u.irr _)}
theorem Keyed.find [DecidableEq K] (h:Keyed lt f l) (k):l.find? (λy=>decide (y.1=k))=(f k).map (λv=>(k,v)):=by
 (cases o:f k with|none=>rw [Option.map_none,ES];rintro ⟨a,v⟩ A e;have:a=k:=EE e;subst this;rw [h.2,o] at A;cases A|some v=>have E:=(h.2 k v).2 o;(cases r:l.find? (λy=>decide (y.1=k)) with|none=>have:=ES.1 r _ E;simp at this|some y=>obtain ⟨a,H⟩:=y;have B:=KR r;have:a=k:=EE B;subst this;have u:=(h.2 _ _).1 (CX r);rw [o] at u;cases u;rfl))
theorem Keyed.ins [DecidableEq K] (E:xC lt) {k v} (J:f k=none) (b):∀ {l:List (K×V)},Keyed lt f l->(∀y∈l,b y=true↔lt k y.1)->Keyed lt (λz=>if z=k then some v else f z) (iG b (k,v) l):=by
 intro l h B;refine ⟨?_,λa ae=> ?_⟩
 ·have Q:∀y∈l,y.1≠k:=λy A e=>by
   have:=(h.2 y.1 y.2).1 A;rw [e,J] at this;cases this
  have aa:=h.1;clear h;(induction l with|nil=>exact List.pairwise_singleton _ _|cons y r ih=>obtain ⟨H,ad⟩:=DX.1 aa;unfold iG;split;{rename_i A;have ab:=(B y BK).1 A;refine DX.2 ⟨λz o=> ?_,aa⟩;rcases CE.1 o with rfl|o;{exact ab};{exact E.trans _ _ _ ab (H z o)}};{rename_i A;refine DX.2 ⟨λz o=> ?_,ih (λz o=>B z (BH _ o)) (λz o=>Q z (BH _ o)) ad⟩;rcases (Hq b (k,v) z r).1 o with rfl|o;{rcases E.tri y.1 k with u|u|u;{exact u};{exact absurd u (Q y BK)};{exact absurd ((B y BK).2 u) A}};{exact H z o}})
 {rw [Hq,h.2,II];by_cases e:a=k;{subst e;simp [J,eq_comm]};{simp [e]}}
theorem Keyed.del [DecidableEq K] (h:Keyed lt f l) (k):Keyed lt (λz=>if z=k then none else f z) (l.filter λy=> !decide (y.1=k)):=by
 refine ⟨h.1.filter _,λa u=> ?_⟩;rw [GY,h.2];by_cases e:a=k<;>simp [e]
theorem Keyed.fm {W:Type} (h:Keyed lt f l) (g:K->V->Option W):Keyed lt (λz=>(f z).bind (g z)) (l.filterMap λy=>(g y.1 y.2).map λu=>(y.1,u)):=by
 refine ⟨h.1.filterMap _ (λa b H x A y o=> ?_),λa u=> ?_⟩;{simp only [CW] at A o;obtain ⟨_,_,rfl⟩:=A;obtain ⟨_,_,rfl⟩:=o;exact H};{rw [MJ];constructor;{rintro ⟨y,o,e⟩;obtain ⟨J,B,E⟩:=CW.1 e;cases E;dsimp only;rw [(h.2 y.1 y.2).1 o];exact B};{intro e;dsimp only at e;(cases r:f a with|none=>rw [r] at e;cases e|some v=>rw [r] at e;exact ⟨(a,v),(h.2 a v).2 r,by rw [show g (a,v).1 (a,v).2=some u from e];rfl⟩)}}
theorem Keyed.put [DecidableEq K] (J:xC lt) (h:Keyed lt f l) {i k ae v} (r:l[i]? =some (k,ae)):Keyed lt (λz=>if z=k then some v else f z) (l.set i (k,v)):=by
 have aa:=(AX.1 r).1;refine ⟨?_,λa H=> ?_⟩
 ·have E:=h.1;rw [KZ] at E ⊢;intro p q A B ad;rw [EZ] at A B;have key:∀(j:Nat) (o:j<l.length),((l.set i (k,v))[j]'(by rw [EZ];exact o)).1=(l[j]).1:=λj o=>by
   rw [List.getElem_set];split;{rename_i e;subst e;have:=(AX.1 r).2;rw [this]};{rfl}
  rw [key p A,key q B];exact E p q A B ad
 {rw [GV];constructor;{rintro ⟨j,o⟩;rw [List.getElem?_set] at o;split at o;{rename_i e;subst e;cases o;simp};{rename_i e;have ab:=(h.2 a H).1 (DU o);have:a≠k:=λQ=>e (h.one J r o Q.symm);simp [this,ab]}};{intro e;dsimp only at e;by_cases u:a=k;{subst u;simp only [IK,FO] at e;subst e;exact ⟨i,by rw [MN aa]⟩};{rw [AA u] at e;obtain ⟨j,o⟩:=GV.1 ((h.2 a H).2 e);refine ⟨j,?_⟩;rw [List.getElem?_set_ne ?_];{exact o};{rintro rfl;rw [r] at o;cases o;exact u rfl}}}}
theorem Keyed.cut [DecidableEq K] (A:xC lt) (h:Keyed lt f l) {i k v} (u:l[i]? =some (k,v)):l.take i++l.drop (i+1)=l.filter λy=> !decide (y.1=k):=by
 obtain ⟨aa,Q⟩:=AX.1 u;have ab:l=l.take i++(k,v)::l.drop (i+1):=by{rw [<-Q,<-DL aa,List.take_append_drop]}
 have H:∀y∈l.take i,y.1≠k:=λy r e=>by
  obtain ⟨j,o⟩:=GV.1 r;rw [EH] at o;split at o;{have:=h.one A o u e;omega};{cases o}
 have J:∀y∈l.drop (i+1),y.1≠k:=λy r e=>by
  obtain ⟨j,o⟩:=GV.1 r;rw [GZ] at o;have:=h.one A o u e;omega
 have B:(l.take i).filter (λy=> !decide (y.1=k))=l.take i:=LP.2 (λy r=>by simp [H y r]);have E:(l.drop (i+1)).filter (λy=> !decide (y.1=k))=l.drop (i+1):=LP.2 (λy r=>by simp [J y r]);(conv=>rhs;rw [ab]);rw [EG,GL,B,E];simp
theorem Keyed.uniq (u:xC lt):∀ {l m:List (K×V)} {f:K->Option V},Keyed lt f l->Keyed lt f m->l=m:=by
 (have key:∀(l m:List (K×V)),l.Pairwise (λa b=>lt a.1 b.1)->m.Pairwise (λa b=>lt a.1 b.1)->(∀x,x∈l↔x∈m)->l=m:=by{intro l;(induction l with|nil=>intro m _ _ h;(cases m with|nil=>rfl|cons y r=>have:=(h y).2 BK;cases this)|cons x l ih=>intro m A B h;(cases m with|nil=>have:=(h x).1 BK;cases this|cons y r=>obtain ⟨a1,a2⟩:=DX.1 A;obtain ⟨H,J⟩:=DX.1 B;(have e:x=y:=by{rcases CE.1 ((h x).1 BK) with e|e;{exact e};{rcases CE.1 ((h y).2 BK) with E|E;{exact E.symm};{exact absurd (u.trans _ _ _ (H x e) (a1 y E)) (u.irr _)}}});subst e;rw [ih r a2 J (λz=>⟨λo=> ?_,λo=> ?_⟩)];{rcases CE.1 ((h z).1 (BH _ o)) with e|e;{subst e;exact absurd (a1 z o) (u.irr _)};{exact e}};{rcases CE.1 ((h z).2 (BH _ o)) with e|e;{subst e;exact absurd (H z o) (u.irr _)};{exact e}}))});intro l m f A B;exact key l m A.1 B.1 (λx=>by rw [show x=(x.1,x.2) from rfl,A.2,B.2])
end
def nY (T:Tree) (k:Nat):Option Node:=if 2<=k then T k else none
abbrev KL (T:Tree) (L:List (Nat×Node)):Prop:=Keyed (λa b:Nat=>a<b) (nY T) L
theorem O6 {V:Type} (f:Nat->Option V) (n) (h:∀k,n<=k->f k=none):Keyed (λa b:Nat=>a<b) f ((List.range n).filterMap λk=>(f k).map λv=>(k,v)):=by
 refine ⟨List.Pairwise.filterMap _ (λa b u x A y B=> ?_) List.pairwise_lt_range,λa E=> ?_⟩;{obtain ⟨_,_,rfl⟩:=CW.1 A;obtain ⟨_,_,rfl⟩:=CW.1 B;exact u};{rw [MJ];constructor;{rintro ⟨y,_,e⟩;obtain ⟨H,o,r⟩:=CW.1 e;cases r;exact o};{intro e;refine ⟨a,CG.2 ?_,by rw [e];rfl⟩;rcases BJ a n with o|o;{exact o};{rw [h a o] at e;cases e}}}
theorem X6 {V:Type} (f:Nat->Option V):∀l:List Nat,(l.filterMap λk=>(f k).map λv=>(k,v)).length=l.countP λk=>(f k).isSome
 | []=>rfl
 | a::r=>by
  rw [DZ,KE,<-X6 f r];cases f a<;>simp
theorem KL.len {T L} (h:KL T L) (o:dJ T):things T=L.length+1:=by
 have u:∀k,129<=k->nY T k=none:=λk r=>by
  unfold nY;rw [o.top k r];split<;>rfl
 rw [Keyed.uniq xG h (O6 (nY T) 129 u),X6];unfold things;rw [show List.range 129= [0,1]++(List.range 127).map (λk=>k+2) by decide,MF,MF,List.countP_map,List.countP_map];have A:List.countP (λk=>(T k).isSome) [0,1]=1:=by simp [KE,o.zero,o.root]
 have B:List.countP (λk=>(nY T k).isSome) [0,1]=0:=by simp [KE,nY]
 have E:(List.range 127).countP ((λk=>(T k).isSome)∘λk=>k+2)=(List.range 127).countP ((λk=>(nY T k).isSome)∘λk=>k+2):=by
  refine List.countP_congr (λk _=> ?_);simp [nY]
 omega
theorem KL.ge {T L} (h:KL T L) {y} (r:y∈L):2<=y.1/\T y.1=some y.2:=by
 have:=(h.2 y.1 y.2).1 r;unfold nY at this;split at this;{rename_i o;exact ⟨o,this⟩};{cases this}
theorem KL.mem {T L} (h:KL T L) {k x} (r:T k=some x) (o:2<=k):(k,x)∈L:=(h.2 k x).2 (by unfold nY;rw [AL o];exact r)
theorem KL.aAk {T L} (h:KL T L) (u:dJ T) (d) (hd:d≠0) (s):(L.find? λy=>decide (y.2.up=d)&&decide (y.2.name=s)).map (λy=>y.1)=kid T d s:=by
 (cases r:L.find? (λy=>decide (y.2.up=d)&&decide (y.2.name=s)) with|none=>(cases H:kid T d s with|none=>rfl|some k=>obtain ⟨x,o,A,B⟩:=rE H;(have J:2<=k:=by{rcases BJ k 2 with Q|E;{have:=u.lt o;have e:k=1:=X;subst e;rw [u.root] at o;cases o;exact absurd A.symm hd};{exact E}});have:=ES.1 r _ (h.mem o J);simp [A,B] at this)|some y=>have o:=KR r;simp only [BM,BR] at o;rw [zM u (h.ge (CX r)).2 o.1 o.2];rfl)
theorem KL.grow {T L} (h:KL T L) {n d s b} (r:T n=none) (o:2<=n):KL (grown T n d s b) (iG (λy=>decide (n<y.1)) (n,⟨d,s,b⟩) L):=
 (Keyed.ins xG (f:=nY T) (k:=n) (v:=⟨d,s,b⟩) (by unfold nY;rw [AL o,r]) (λy=>decide (n<y.1)) h (λy _=>by simp)).congr (λk=>by
   unfold nY grown upd;by_cases e:k=n
   ·subst e;simp [o]
   ·simp [e])
theorem KL.shrink {T L} (h:KL T L) {i n x} (o:L[i]? =some (n,x)):KL (dH T n) (L.take i++L.drop (i+1)):=by
 rw [Keyed.cut xG h o];exact (Keyed.del h n).congr (λk=>by
  unfold nY dH upd;by_cases e:k=n<;>simp [e])
theorem KL.move {T L} (h:KL T L) {i n d s b x} (o:L[i]? =some (n,x)):KL (moved T n d s b) (L.set i (n,⟨d,s,b⟩)):=
 (Keyed.put xG h (v:=⟨d,s,b⟩) o).congr (λk=>by
   have r:=(h.ge (DU o)).1;unfold nY moved upd;by_cases e:k=n
   ·subst e;simp [r]
   ·simp [e])
theorem KL.aAu {T L} (h:KL T L) (al:L.length<=126) {i} (ak:i<=L.length) (u:∀j,j<i->∃x,L[j]? =some (j+2,x)) (H:∀y,L[i]? =some y->y.1≠i+2):free T=i+2/\T (i+2)=none:=by
 have Q:T (i+2)=none:=by
  cases ad:T (i+2) with
  | none=>rfl
  | some x=>
   exfalso;obtain ⟨j,o⟩:=GV.1 (h.mem ad X);rcases BJ j i with ae|aj
   ·obtain ⟨y,A⟩:=u j ae;rw [A] at o;cases o;omega
   ·rcases BJ i j with J|J
    ·have r:i<L.length:=by
      have:=(AX.1 o).1;omega
     have aa:=h.1;rw [KZ] at aa;have B:=aa i j r (AX.1 o).1 J;rw [(AX.1 o).2] at B;have ag:=H _ (AC r)
     -- all rows ahead of i are below; the row at i is at least i + 2
     have ah:i+2<=(L[i]).1:=by
      rcases BJ (L[i]).1 (i+2) with E|E
      ·have ai:=(h.ge (BL r)).1;obtain ⟨y,A⟩:=u ((L[i]).1 - 2) X;have:=h.one xG A (AC r) (by dsimp only;omega);omega
      ·exact E
     simp only at B;omega
    ·obtain rfl:i=j:=by omega
     exact H _ o rfl
 refine ⟨?_,Q⟩;unfold free;have:(List.range 129).find? (λk=>decide (2<=k)&&(T k).isNone)=some (i+2):=by
  rw [List.find?_range_eq_some];refine ⟨by simp [Q],by simp;omega,λj o=> ?_⟩;rcases BJ j 2 with ab|ab
  ·simp;omega
  ·obtain ⟨x,af⟩:=u (j - 2) X;have:=(h.ge (DU af)).2;rw [show j - 2+2=j by omega] at this;simp [this]
 rw [this];rfl
theorem rX.cells {w o K k p n x m} (h:rX w o K k p x n m):∃v,w.heap[p]? =some (.cells #[x.up,(ba x.name),x.dir,v] 168 (0,0)):=by
 obtain ⟨up,u,dir⟩:=x;have:=h.2;(cases dir with|false=>exact ⟨_,this⟩|true=>obtain ⟨r,_,e,_⟩:=this;exact ⟨_,e⟩)
theorem nK.pf {w w' p base s v L} (h:nK w v L) (g:Pg w p base s) (f:Fr (Pf w p base) w w'):nK w' v L:=by
 rcases h with h|⟨b,cap,e,o,r⟩;{exact .inl h};{exact .inr ⟨b,cap,e,o,r.pf g f G G⟩}
