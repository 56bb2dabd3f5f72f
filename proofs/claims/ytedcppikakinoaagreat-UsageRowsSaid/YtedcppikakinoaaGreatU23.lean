/- Part of a proof. -/
import Derived.Test.YtedcppikakinoaaGreatU21
import Derived.Test.YtedcppikakinoaaGreatU22
set_option linter.unusedSimpArgs false
set_option linter.unusedVariables false
set_option maxRecDepth 100000
set_option maxHeartbeats 1600000
namespace Go.Proofs.YtedcppikakinoaaGreat
open Go.Proofs.Tryz Go.RowKit
theorem bH.more {w w' r K n o L x e} (h:bH w r K L n x e w') (A:n<=o):bH w r K L o x e w':=by
 obtain ⟨⟨B,s,t⟩,u⟩:=h;exact ⟨⟨B,s,t.more A⟩,u⟩
def iG (r:aG) (st:List Sz) (dl:List Dl) (k:Int) (S:St):Int×aX×St:=
 if k=1 then lD S r else if k=2 then jA S r else if k=3 then oL S r else if k=4 then rG S r else if k=5 then rH S r else if k=6 then jF S r else if k=7 then jG S r st dl else mapD S r
structure Small (r:aG) (st:List Sz) (dl:List Dl):Prop where
 path:r.path.length<=300
 dest:r.tq.length<=300
 few:st.length<=60
 some_:dl.length<=100
 good:∀x∈st,iZ x.1
theorem Gn {S q} (h:fB S q) (o A u k) (B:0<=o.c/\o.c<4):Fine (q+1) (iG o A u k S):=by
 have r:=h.more (CE q);unfold iG;split;{exact aAb r o};{split;{exact aBF r o};{split;{exact Zu r o};{split;{exact aEp r o};{split;{exact aCu r o};{split;{exact Zz h o B};{split;{exact aGU r o A u};{exact aAI r o}}}}}}}
theorem J5 (S r u o k):(iG r u o k S).2.2.W=S.W:=by
 unfold iG;split;{unfold lD lS;split<;>rfl};{split;{unfold jA lJ;split;{rfl};{split;{rfl};{split;{rfl};{dsimp only;split<;>rfl}}}};{split;{unfold oL;split<;>rfl};{split;{unfold rG;split<;>rfl};{split;{unfold rH;split<;>rfl};{split;{unfold jF;split;{rfl};{split;{rfl};{split<;>rfl}}};{split;{unfold jG;split;{rfl};{split;{rfl};{split;{rfl};{split;{rfl};{rfl}}}}};{unfold mapD;split<;>rfl}}}}}}}
theorem aDd (o K n q L S r B A Q J k w) (ae:1<=k/\k<=8) (h:aV w o K L S n) (u:fB S q) (E:aF w o) (ad:aZ fD 4 w o B Q) (hd:aZ dE 14 w o A J) (H:Small r Q J) (aa:0<=r.c/\r.c<4) (ag:q<=100000) (af:n<=500000):
  Calls prog (101+k.toNat) #[Y L.s,.agg (r.cells B A)] w (bH w o K L (n+100) (iG r Q J k S)):=by
 have ah:=H.path;have ai:=H.dest;have aj:=H.few;have ak:=H.some_;have V:=u.fits X;(have ab:k=1\/k=2\/k=3\/k=4\/k=5\/k=6\/k=7\/k=8:=X);rcases ab with rfl|rfl|rfl|rfl|rfl|rfl|rfl|rfl;{exact (aCj o K n L S r B A w h u.ok E X X).mono (λe w' x=>x.more X)};{exact (Zx o K n L S r B A w h u.ok u.pts E X X).mono (λe w' x=>x.more X)};{exact (aE4 o K n L S r B A w h u.ok E X X).mono (λe w' x=>x.more X)};{exact (aDg o K n L S r B A w h u.ok E X).mono (λe w' x=>x.more X)};{exact (Zt o K n L S r B A w h u.ok E X).mono (λe w' x=>x.more X)};{exact (aD3 o K n L S r B A w h u.ok V E X aa).mono (λe w' x=>x.more X)};{exact (aA1 o K n L S r B A Q J w h u.ok V u.pts E ad hd H.good aa X X X).mono (λe w' x=>x.more X)};{exact (aEq o K n L S r B A w h u.ok V E).mono (λe w' x=>x.more X)}
theorem aBH (r K n q L S o A u Q J k w) (ad:1<=k/\k<=8) (h:aV w r K L S n) (V:fB S q) (B:aF w r) (aj:aZ fD 4 w r A Q) (hd:aZ dE 14 w r u J) (al:Small o Q J) (ab:0<=o.c/\o.c<4) (ai:q<=100000) (ah:n<=500000):
  Calls prog 62 #[Y L.s,sD k,.agg (o.cells A u)] w (Tried w r K L (n+100) (fG (iG o Q J k S))):=by
 obtain ⟨aa,_,_,af,ae⟩:=begun h V.ok B o A u;have E:=aDd r K n q L S o A u Q J k _ ad af V ae (aj.no B aa) (hd.no B aa) al ab ai ah;have H:=(Gn V o Q J k ab).inv.ok;have ak:sD k=.func (Fn.func (101+k.toNat)) #[] #[]:=AL ad;rw [ak];generalize iG o Q J k S=x at*;(have ag:k=1\/k=2\/k=3\/k=4\/k=5\/k=6\/k=7\/k=8:=X);rcases ag with rfl|rfl|rfl|rfl|rfl|rfl|rfl|rfl;{exact sK 102 D r K _ L x o A u w B H E};{exact sK 103 D r K _ L x o A u w B H E};{exact sK 104 D r K _ L x o A u w B H E};{exact sK 105 D r K _ L x o A u w B H E};{exact sK 106 D r K _ L x o A u w B H E};{exact sK 107 D r K _ L x o A u w B H E};{exact sK 108 D r K _ L x o A u w B H E};{exact sK 109 D r K _ L x o A u w B H E}
def tell (x:aX×St):aX×St:=(iQ x.1 x.2.swaps,x.2)
def oC (S:St) (r:aG) (st:List Sz) (dl:List Dl) (x:aX×St):Prop:=
 if r.kind=10 then x=tell (fG (kH S r)) else if r.kind=11 then x=tell (fG (kP S r)) else if r.kind=9 then x=tell (fG (jP S r st dl))
 else if ¬(1<=r.kind/\r.kind<=8) then x=tell (jD 1 0 0 0 0 false,S)
 else if (dH S.W r.c r.l r.q).1=1 then x.2=S/\(dH S.W r.c r.l r.q).2=some x.1.bytes/\x.1.ok
 else if (dH S.W r.c r.l r.q).1=2 then x=tell (jD 17 0 0 0 0 false,S)
 else x=tell (uC (fG (iG r st dl r.kind (dL S r.c.toNat (dH S.W r.c r.l r.q).1))) r.c.toNat r)
theorem ask_cases (W c l s):(dH W c l s=(2,none))\/(0<=c/\c<4)/\(dH W c l s=(3,none)\/dH W c l s=(2,none)\/dH W c l s=(0,none)\/∃y,W c.toNat=some y/\dH W c l s=(1,some y.2.2)):=by
 unfold dH;split;{rename_i h;refine .inr ⟨⟨h.1,h.2.1⟩,?_⟩;(cases u:W c.toNat with|none=>exact .inl rfl|some y=>obtain ⟨o,r,bs⟩:=y;dsimp only;unfold kindOf;split;{exact .inr (.inl D)};{split;{exact .inl D};{split;{exact .inr (.inr (.inr ⟨(o,r,bs),rfl,by simp⟩))};{exact .inr (.inr (.inl D))}}})};{exact .inl rfl}
theorem fB.dL {S q} (h:fB S q) (c u):fB (dL S c u) (q+1):=by
 have o:=h.more (CE q);have A:=h.clock;unfold Go.Proofs.YtedcppikakinoaaGreat.dL;split;{refine ⟨⟨h.ok.tree,h.ok.file⟩,h.pts,h.dir,λx r=>h.tok x (FC.1 r).1,λx r=>h.small x (FC.1 r).1,AV (IK _ _) o.few,o.boots,o.swaps,?_,h.win⟩;dsimp only;omega};{refine ⟨⟨h.ok.tree,h.ok.file⟩,h.pts,h.dir,h.tok,h.small,o.few,o.boots,o.swaps,?_,h.win⟩;dsimp only;omega}
theorem Qw {x q} (h:Fine q x) {s} (o:0<=s/\s<16777216):(iQ (fG x).1 s).ok/\0<=(iQ (fG x).1 s).e/\(iQ (fG x).1 s).e<=18:=by
 unfold fG;split;{rename_i r;obtain ⟨A,u⟩:=h.rep r;exact ⟨u s o,by unfold iQ;dsimp only;omega,by unfold iQ;dsimp only;omega⟩};{have B:=h.code;exact ⟨Nj (e:=x.1) (i:=0) (z:=0) (h:=0) X X X X o,by unfold iQ jD;dsimp only;omega,by unfold iQ jD;dsimp only;omega⟩}
theorem aFH {x q} (h:Fine q x) (H:q<=1000000) (c E):fB (uC (fG x) c E).2 q:=by
 have o:=h.inv;rw [<-nT] at o;have J:=o.swaps;obtain ⟨u,A,B⟩:=Qw h (s:=(fG x).2.swaps) X;unfold uC;refine ⟨⟨o.ok.tree,o.ok.file⟩,o.pts,o.dir,o.tok,o.small,o.few,o.boots,o.swaps,o.clock,λi y r=> ?_⟩;dsimp only at r;unfold upd at r;split at r;{cases r;exact ⟨_,u,A,B,rfl⟩};{exact o.win i y r}
theorem fB.A8 {S q} (h:fB S q):∀i r u bs,S.W i=some (r,u,bs)->bs.length<=1000000:=λi r u bs B=>by
 obtain ⟨rep,A,_,_,o⟩:=h.win i _ B;have:=A.len;dsimp only at o;rw [o];omega
theorem U5 (o K n L S) (B:aG) (E r fv w) (h:aV w o K L S n) (ok:aH S) (u:aF w o):
  Calls prog 68 #[Y L.s,fv,.agg (B.cells E r),Z 2] w (nX (λ_=>False) w o K L n (jD 17 0 0 0 0 false,S)):=by
 obtain ⟨aa,af,A,Q,J⟩:=begun h ok u B E r;have ab:=lt_of_block A;have ad:Hid (∀H,Fr (λj=>j=w.heap.size+1) (dJ w B E r) H->nX (λ_=>False) w o K L n (jD 17 0 0 0 0 false,S) (.returned (lQ 17 0 0 0 0 false)) H):=λH g=>by
  obtain ⟨a,b⟩:=Am u aa (Step.refl J) (CE _) ab g;exact ⟨⟨o,a,Q.step ok b (λc h e=>by unfold bD at h;omega)⟩,.slice none 0 0,.slice none 0 0,rfl,rfl,rfl,Tn _,Low.nil _,Low.nil _⟩
 generalize nX (λ_=>False) w o K L n _=ag at*;have V:=lH A;have ah:∀w':World,(Instr.build 29 #[(0,Z 17)]).run prog w'=.ok (.agg (cE 17)) w':=λw'=>by kernel_rfl
 clear aa af A Q J h ok u ab;unfold dJ aG.cells bU aX.cells at*;go_enter func68,ntmps68;go_upto_region 1 with fail
 generalize (w.alloc _).alloc _=w0 at*;go_wp2_with (refine wS 29 V ?_);have ae:=aW (cs':=(cE 17)) V.o;exact AZ (v:=lQ 17 0 0 0 0 false) (BH rfl _ _ (w.heap.size+1) 29 _ (0,0) _ rfl ae underlying29 rfl Tryz.size29) rfl
  (ad.o _ fR)
theorem Told.after {w u w' o r K n L x e} (s:Step (bD K) w o u r) (h:Told u r K L n x e w'):Told w o K L n x e w':=by
 obtain ⟨⟨ab,ad,ae⟩,A,aa,B,E,H,J,Q,V⟩:=h;exact ⟨⟨ab,s.trans ad (λ_ e=>e),ae⟩,A,aa,B,E,H,J,Q.le s.fr.size,V.le s.fr.size⟩
theorem Told.more {w w' r K n o L x e} (h:Told w r K L n x e w') (A:n<=o):Told w r K L o x e w':=by
 obtain ⟨⟨B,E,H⟩,u⟩:=h;exact ⟨⟨B,E,H.more A⟩,u⟩
def Qe (w:World) (o:Nat->Nat) (K n q:Nat) (L:kC) (S:St) (r:aG) (st:List Sz) (dl:List Dl) (e:Ending) (w':World):Prop:=
 ∃x,oC S r st dl x/\fB x.2 (q+2)/\Told w o K L (n+100) x e w'
theorem aEF (r K n q L S o B u V aa w) (h:aV w r K L S n) (H:fB S q) (A:aF w r) (ar:aZ fD 4 w r B V) (hd:aZ dE 14 w r u aa) (am:Small o V aa) (ai:q<=90000) (bk:n<=400000):
  Calls prog 18 #[Y L.s,.agg (o.cells B u)] w (Qe w r K n q L S o V aa):=by
 have ok:=H.ok;have bn:=am.few;have bo:=am.some_;(have aw:¬bD K 0:=by unfold bD;omega);have bj:=H.clock;have bi:=H.boots;have bl:=H.swaps;by_cases af:o.kind=10;{have J:=aEG H o;refine (N9 63 r K n n L S o B u w (fG (kH S o)) h ok A (.inl ⟨af,rfl⟩) (by rw [nT];exact J.inv.ok) (λQ f=> ?_)).mono (λe w' t=>⟨tell (fG (kH S o)),by unfold oC;rw [AL af],?_,t.more X⟩);{have ab:aF Q r:=(noS A f).fresh;obtain ⟨al,_,_,ak,aj⟩:=begun (h.no ok A f) ok ab o B u;exact sK 63 D r K n L _ o B u Q ab J.inv.ok (aDP r K n L S o B u _ ak ok aj X X X)};{show fB (fG (kH S o)).2 (q+2);rw [nT];exact J.inv.more X}};by_cases ag:o.kind=11;{have J:=aAh H o;refine (N9 64 r K n n L S o B u w (fG (kP S o)) h ok A (.inr (.inl ⟨ag,rfl⟩)) (by rw [nT];exact J.inv.ok) (λQ f=> ?_)).mono (λe w' t=>⟨tell (fG (kP S o)),by unfold oC;rw [AA af,AL ag],?_,t.more X⟩);{have ab:aF Q r:=(noS A f).fresh;obtain ⟨al,_,_,ak,aj⟩:=begun (h.no ok A f) ok ab o B u;exact sK 64 D r K n L _ o B u Q ab J.inv.ok (aCC r K n L S o B u _ ak ok aj X X X)};{show fB (fG (kP S o)).2 (q+2);rw [nT];exact J.inv.more X}};by_cases ah:o.kind=9;{have J:=Pv H o V aa;refine (N9 65 r K n (n+V.length) L S o B u w (fG (jP S o V aa)) h ok A (.inr (.inr ⟨ah,rfl⟩)) (by rw [nT];exact J.inv.ok) (λQ f=> ?_)).mono (λe w' t=>⟨tell (fG (jP S o V aa)),by unfold oC;rw [AA af,AA ag,AL ah],?_,t.more X⟩);{have ab:aF Q r:=(noS A f).fresh;obtain ⟨al,_,_,ak,aj⟩:=begun (h.no ok A f) ok ab o B u;exact sK 65 D r K _ L _ o B u Q ab J.inv.ok (aDc r K n L S o B u V aa _ ak ok H.pts aj ((ar.no A f).no ab al) ((hd.no A f).no ab al) am.good X X X X)};{show fB (fG (jP S o V aa)).2 (q+2);rw [nT];exact J.inv.more X}};by_cases ae:1<=o.kind/\o.kind<=8
 ·rcases ask_cases S.W o.c o.l o.q with E|⟨an,E⟩;{refine (Oe r K n n L S o B u w (jD 17 0 0 0 0 false,S) 2 (λ_=>False) (λ_ e=>e.elim) h ok A ae H.A8 E G ok (λQ f=> ?_)).mono (λe w' t=>⟨_,?_,H.more X,Told.more (t.lift (λ_ e=>e.elim)) X⟩);{exact U5 r K n L S o B u _ Q (h.no ok A f) ok (noS A f).fresh};{unfold oC;rw [AA af,AA ag,AA ah,AA (λai=>ai ae),E,AA G,AL rfl];rfl}}
  ·have au:∀ad,(ad=0\/ad=3)->dH S.W o.c o.l o.q=(ad,none)->Calls prog 18 #[Y L.s,.agg (o.cells B u)] w (Qe w r K n q L S o V aa):=λad bc E=>by
    have aq:ad≠1:=X;have bd:ad≠2:=X;have av:=H.dL o.c.toNat ad;have J:=Gn av o V aa o.kind an;have az:=J5 (Go.Proofs.YtedcppikakinoaaGreat.dL S o.c.toNat ad) o V aa o.kind;have bb:(Go.Proofs.YtedcppikakinoaaGreat.dL S o.c.toNat ad).W=S.W:=(by unfold Go.Proofs.YtedcppikakinoaaGreat.dL;split<;>rfl);have bm:=J.inv.swaps;have ap:=aFH J X o.c.toNat o;refine (Oe r K n (n+100) L S o B u w (uC (fG (iG o V aa o.kind (Go.Proofs.YtedcppikakinoaaGreat.dL S o.c.toNat ad))) o.c.toNat o) ad (bD K) (λ_ e=>e) h ok A ae H.A8 E (U aq) ap.ok (λQ f=> ?_)).mono (λe w' t=>⟨_,?_,ap.more X,t⟩);{have ab:aF Q r:=(noS A f).fresh;refine aD2 r K n (n+100) L S o B u (sD o.kind) ad Q _ (h.no ok A f) ok ab an bc X (by rw [E]) H.A8 ?_ ?_ ?_ (λbg bf s t=> ?_);{rw [nT,az,bb]};{rw [nT];exact J.inv.ok};{exact (Qw J (by rw [nT];omega)).1};{exact aBH bf K n (q+1) L _ o B u V aa o.kind bg ae t av s.fresh ((ar.no A f).step s aw) ((hd.no A f).step s aw) am an X X}};{unfold oC;rw [AA af,AA ag,AA ah,AA (λai=>ai ae),E,AA aq,AA bd];rfl}
   rcases E with E|E|E|⟨y,be,E⟩;{exact au 3 (.inr rfl) E};{refine (Oe r K n n L S o B u w (jD 17 0 0 0 0 false,S) 2 (λ_=>False) (λ_ e=>e.elim) h ok A ae H.A8 E G ok (λQ f=> ?_)).mono (λe w' t=>⟨_,?_,H.more X,Told.more (t.lift (λ_ e=>e.elim)) X⟩);{exact U5 r K n L S o B u _ Q (h.no ok A f) ok (noS A f).fresh};{unfold oC;rw [AA af,AA ag,AA ah,AA (λai=>ai ae),E,AA G,AL rfl];rfl}};{exact au 0 (.inl rfl) E};{obtain ⟨rep,ao,bh,ax,ay⟩:=H.win _ y be;rw [ay] at E;refine (aBV r K n n L S o B u w rep h ok A ae H.A8 E ao ax rfl).mono (λe w' t=>⟨(rep,S),?_,H.more X,Told.more (t.lift (λ_ e=>e.elim)) X⟩);unfold oC;rw [AA af,AA ag,AA ah,AA (λai=>ai ae),E,AL rfl];exact ⟨rfl,rfl,ao⟩}
 {refine (aAd r K n n L S o B u w h ok A ae (U ah) (U af) (U ag) rfl).mono (λe w' t=>⟨tell (jD 1 0 0 0 0 false,S),?_,H.more X,Told.more (t.lift (λ_ e=>e.elim)) X⟩);unfold oC;rw [AA af,AA ag,AA ah,AL ae]}
def aN {α:Type} (c:α->List Value) (n:Nat) (t:TypeId) (w:World) (base:Nat) (v:Value) (L:List α):Prop:=(v=.slice none 0 0/\L= [])\/∃b cap,v=.slice (some (I b 0)) L.length cap/\cap<=maxLen/\base<=b/\bF c n t w b cap L
theorem aE0 {α:Type} {c n t} (A:∀x,(c x).length=n) {w base v} {L:List α} (h:w.ownsRow base t n v L.length (L.flatMap c)):aN c n t w base v L:=by
 obtain ⟨_,⟨rfl,r⟩|⟨g,cap,V,rfl,B,u,H,E,J,Q⟩⟩:=h;{exact .inl ⟨rfl,GL.1 r⟩};{refine .inr ⟨g,cap,rfl,E,B,bF.of_block A u (Nat.le_of_eq J.symm) H (λk aa o=> ?_)⟩;rw [<-Q,EL] at o;split at o;{simpa using o};{cases o}}
theorem aN.fr {α:Type} {c n t S w w' base v} {L:List α} (h:aN c n t w base v L) (f:Fr S w w') (r:∀j,base<=j->¬S j):aN c n t w' base v L:=by
 rcases h with h|⟨b,cap,e,u,o,A⟩;{exact .inl h};{exact .inr ⟨b,cap,e,u,o,A.fr f (r b o)⟩}
theorem aN.shape {α:Type} {c n t w base v} {L:List α} (h:aN c n t w base v L):∃b cap,v=.slice b L.length cap:=by
 rcases h with ⟨rfl,rfl⟩|⟨b,cap,e,_⟩;{exact ⟨none,0,rfl⟩};{exact ⟨_,_,e⟩}
theorem eX.few {m} (h:eX m):m.l.length<=1000:=by
 obtain ⟨r,o⟩:=h;unfold dA at o;omega
theorem fH.fr {S w w' v bs b off c} (h:fH w v bs b off c) (f:Fr S w w') (o:¬S b):fH w' v bs b off c:=
 ⟨h.1,h.2.1,AP h.2.2.1 f.size,λj x r=>f.cell_of (h.2.2.2 j x r) o⟩
theorem yU {t n} {w:World} {base v m xs} (h:w.ownsRow base t n v m xs) (j) (o:v.ownBlock=some j):base<=j:=by
 obtain ⟨_,⟨rfl,_⟩|⟨g,cap,u,rfl,r,_⟩⟩:=h;{cases o};{cases o;exact r}
theorem Nz {t n S w w' base v m xs} (h:w.ownsRow base t n v m xs) (f:Fr S w w') (B:∀j,v.ownBlock=some j->¬S j):w'.ownsRow base t n v m xs:=by
 obtain ⟨o,u|⟨g,cap,r,rfl,H,E,A⟩⟩:=h;{exact ⟨o,.inl u⟩};{exact ⟨o,.inr ⟨g,cap,r,rfl,H,f.aB E (B g rfl),A⟩⟩}
def dR (v:Value) (w:World) (e:Ending) (w':World):Prop:=e=.returned v/\w'=w
def aY (v:Value) (w:World) (e:Ending) (w':World):Prop:=e=.returned v/\Fr No w w'
theorem dR.mk {v w}:dR v w (.returned v) w:=⟨rfl,rfl⟩
theorem aY.mk {v w w'} (f:Fr No w w'):aY v w (.returned v) w':=⟨rfl,f⟩
abbrev aI {α:Type} (c:α->List Value) (n:Nat) (w:World) (v:Value) (L:List α):Prop:=aZ c n w (λ_=>0) v L
section
variable {α:Type} {c:α->List Value} {n:Nat} {t sl:TypeId}
theorem aZ.any {w E v L} (h:aZ c n w E v L):aI c n w v L:=by
 obtain ⟨base,cap,e,A⟩:=h;refine ⟨base,cap,e,λB=> ?_⟩;obtain ⟨b,off,o,_,r,u⟩:=A B;exact ⟨b,off,o,rfl,r,u⟩
theorem aI.no {w w' v L} (h:aI c n w v L) (f:Fr No w w'):aI c n w' v L:=
 aZ.no h (λ_ _=>rfl) f
theorem aZ.nil {w o}:aZ c n w o (nS) ([]:List α):=⟨none,0,rfl,λh=>absurd rfl h⟩
theorem aI.get {w base cap L} (h:aI c n w (.slice base L.length cap) L) (j) (o:j<L.length):∃b off,base=some (I b off)/\w.rangeAt b (off+j*n) (c L[j]):=by
 obtain ⟨b,off,e,_,_,r⟩:=aZ.at h (λe=>by rw [e] at o;simp at o);exact ⟨b,off,e,r j _ (AC o)⟩
theorem aN.rows {w r base v L} (h:aN c n t w base v L) (B:∀b,base<=b->r b=0):aZ c n w r v L:=by
 rcases h with ⟨rfl,rfl⟩|⟨b,cap,rfl,_,u,o⟩;{exact aZ.nil};{exact ⟨_,_,rfl,λ_=>⟨b,0,rfl,B b u,o.lt,λj x A=>by rw [BP];exact o.row j x A⟩⟩}
theorem aN.cap {w base v L} (h:aN c n t w base v L):∃b cap,v=.slice b L.length cap/\L.length<=cap:=by
 rcases h with ⟨rfl,rfl⟩|⟨b,cap,e,_,_,o⟩;{exact ⟨none,0,rfl,AU _⟩};{exact ⟨_,_,e,o.len⟩}
theorem aN.any {w base v L} (h:aN c n t w base v L):aI c n w v L:=h.rows (λ_ _=>rfl)
theorem aN.no {w w' base v L} (h:aN c n t w base v L) (f:Fr No w w'):aN c n t w' base v L:=h.fr f zq
theorem aN.le {w base o v L} (h:aN c n t w base v L) (u:o<=base):aN c n t w o v L:=by
 rcases h with h|⟨b,cap,e,A,r,B⟩;{exact .inl h};{exact .inr ⟨b,cap,e,A,AV u r,B⟩}
structure iW (c:α->List Value) (n:Nat) (t sl:TypeId):Prop where
 sl:prog.underlying sl=some (.slice t)
 info:∃i z,prog.info? t=some i/\i.zero=some z/\i.size=n/\z.cells.size=n/\i.bytes<=1000
 pos:0<n
 len:∀x,(c x).length=n
 one:∀x,∀u∈c x,u.oneCell'=true
def Own (c:α->List Value) (n:Nat) (t:TypeId) (w:World) (base:Nat) (v:Value) (L:List α):Prop:=w.ownsRow base t n v L.length (L.flatMap c)
theorem Own.nil {w base}:Own c n t w base (nS) ([]:List α):=⟨by simp,.inl ⟨rfl,rfl⟩⟩
theorem Own.new (T:iW c n t sl) {w base v L} (h:Own c n t w base v L):aN c n t w base v L:=aE0 T.len h
theorem Own.shape {w base v L} (h:Own c n t w base v L):∃a o,v=.slice a L.length o:=by
 obtain ⟨a,o,e⟩:=World.ownsRow.shape h;exact ⟨a,o,e⟩
theorem Own.no {w w' base v L} (h:Own c n t w base v L) (f:Fr No w w'):Own c n t w' base v L:=Nz h f zq
theorem Own.alloc {w base v L} (h:Own c n t w base v L) (x):Own c n t (w.alloc x) base v L:=World.ownsRow.alloc h x
theorem gG {ops rest o a w u} (T:iW c n t sl) (ad:o.guard=none) (s x) (af:o.op=.call {callee:=.builtin .append,args:= #[s,x],argTypes:= #[sl,sl]}) (base v L y) (ag:a.eval s=v) (E:Own c n t w base v L) (b) (ai:a.eval x=.slice (some (I b 0)) 1 1) (H cs) (V:w.heap[b]? =some (.cells cs t H)) (ab:cs.toList=c y) (al:L.length<=1000000) (w0) (B:Fr No w0 w) (A:w0.heap.size=base) (h:∀g cap w',Own c n t w' base (O g (L++ [y]).length cap) (L++ [y])->Fr No w0 w'->wpList prog ops u rest (a.put o.dst (O g (L.length+1) cap)) w'):wpList prog ops u (o::rest) a w:=by
 obtain ⟨i,z,ae,aj,ah,ak,aa⟩:=T.info;refine wpList_append_lies w ad s x sl af base t i z n i.bytes T.sl ae aj ah rfl ak T.pos v L.length (L.flatMap c) ag E (I b 0) 1 1 (c y) ai (by rw [T.len,Nat.one_mul]) ?_ (T.one y) G (by unfold maxLen;omega) ?_ (by rw [<-A];exact B.size) w rfl ?_;{intro j am r;(have:(Addr.mk b 0 none).add j=(I b (0+j)):=by unfold Addr.add;split<;>simp_all);rw [this,BP,aA V,<-CV,ab];exact r};{have:=Nat.mul_le_mul (show L.length+1<=1000001 by omega) aa;omega};{intro g cap w' J Q _ _;refine h g cap w' ?_ (B.grown Q (λj r=> .inr ?_));{unfold Own;rw [EX,AB];simpa using J};{rw [A];exact yU E j r}}
end
theorem G9 {n args w v} (h:∀Q:Ending->World->Prop,Hid (∀w',Fr No w w'->Q (.returned v) w')->Calls prog n args w Q):Calls prog n args w (aY v w):=h _ (lH (λw' f=>⟨rfl,f⟩))
theorem fE {α:Type} {L:List α} {j} (o:j<L.length):L.take (j+1)=L.take j++ [L[j]]:=by
 rw [DJ,AC o];rfl
theorem D7 {α:Type} {p} {L M:List α} {j} (o:j<L.length) (h:M=(L.take j).filter p) (r:p L[j]=true):M++ [L[j]]=(L.take (j+1)).filter p:=by
 rw [fE o,DW,h];simp [r]
theorem Ig {α:Type} {p} {L M:List α} {j} (o:j<L.length) (h:M=(L.take j).filter p) (r:p L[j]=false):M=(L.take (j+1)).filter p:=by
 rw [fE o,DW,<-h];simp [r]
structure gI {α:Type} (b:α->Bool) (x:α) (L:List α) (j:Nat) (p:Bool) (M:List α):Prop where
 no:p=false->(∀y∈L.take j,b y=false)/\M=L.take j
 yes:p=true->(∃y∈L.take j,b y=true)/\M=iK b x (L.take j)
section
variable {α:Type} {b:α->Bool} {x:α} {L M:List α} {j:Nat} {p:Bool}
theorem gI.start:gI b x L 0 false []:=⟨λ_=>⟨by simp,by simp⟩,λh=>(by cases h)⟩
theorem gI.first (h:gI b x L j false M) (r:j<L.length) (o:b L[j]=true):gI b x L (j+1) true ((M++ [x])++ [L[j]]):=by
 obtain ⟨u,A⟩:=h.no rfl;refine ⟨λe=>(by cases e),λ_=>⟨⟨L[j],by rw [fE r];exact IM _ (BB.2 rfl),o⟩,?_⟩⟩;rw [fE r,Y4 b x _ o _ u,A];simp
theorem gI.skip (h:gI b x L j false M) (r:j<L.length) (B:b L[j]=false):gI b x L (j+1) false (M++ [L[j]]):=by
 obtain ⟨u,A⟩:=h.no rfl;refine ⟨λ_=>⟨λy o=> ?_,by rw [fE r,A]⟩,λe=>(by cases e)⟩;rw [fE r] at o;rcases BM.1 o with o|o;{exact u y o};{rw [BB.1 o];exact B}
theorem gI.later (h:gI b x L j true M) (r:j<L.length):gI b x L (j+1) true (M++ [L[j]]):=by
 obtain ⟨⟨y,u,o⟩,A⟩:=h.yes rfl;refine ⟨λe=>(by cases e),λ_=>⟨⟨y,by rw [fE r];exact FV _ u,o⟩,?_⟩⟩;rw [fE r,Yg b x _ _ ⟨y,u,o⟩,A]
theorem gI.put (h:gI b x L L.length true M):M=iK b x L:=by
 have:=(h.yes rfl).2;rwa [AX] at this
theorem gI.Ae (h:gI b x L L.length false M):M++ [x]=iK b x L:=by
 obtain ⟨o,r⟩:=h.no rfl;rw [AX] at o r;rw [Xt b x L o,r]
end
theorem rF {w:World} {b cs t o} (h:w.heap[b]? =some (.cells cs t o)):w.rangeAt b 0 cs.toList:=λj v r=>by
 rw [aA h,BP];simpa using r
theorem uK {α:Type} {c n o r w base t v A} {L:List α} (h:aN c n o w base v L) (u:w.heap[t]? =some (.cells #[A] r (0,0))) (B:t<base):
  (w.setCell (I t 0) v).heap[t]? =some (.cells #[v] r (0,0))/\aN c n o (w.setCell (I t 0) v) base v L/\Fr (λk=>k=t) w (w.setCell (I t 0) v):=by
 have f:=dZ w t 0 v;refine ⟨by simpa using setCell_at u 0 v,h.fr f (λj E e=> ?_),f⟩;subst e;omega
def jI (y:Nat×Node):List Value:= [y.1,y.2.up,(ba y.2.name),y.2.dir]
def rX (w:World) (t:Nat) (L:List (Nat×Node)):Prop:=∃v,w.heap[t]? =some (.cells #[v] 233 (0,0))/\aI jI 4 w v L/\∃b cap,v=.slice b L.length cap/\L.length<=cap
theorem rX.no {w w' t L} (h:rX w t L) (f:Fr No w w'):rX w' t L:=by
 obtain ⟨v,o,r,u⟩:=h;exact ⟨v,f.aB o id,r.no f,u⟩
structure RdR {α:Type} (c:α->List Value) (n:Nat) (w:World) (base:Option Addr) (cap:Nat) (L:List α):Prop where
 at_:∀j (hj:j<L.length),∃b off,base=some (I b off)/\∀(i:Nat) u,(c L[j])[i]? =some u->w.cell? (I b (off+j*n+i))=some u
theorem aZ.rd {α:Type} {c n w r v} {L:List α} (h:aZ c n w r v L):∃base cap,v=.slice base L.length cap/\RdR c n w base cap L:=by
 obtain ⟨base,cap,rfl⟩:=h.slice;exact ⟨base,cap,rfl,⟨λj o=>h.any.get j o⟩⟩
theorem Og (t k L w) (h:rX w t L) (al:L.length<=1000) (B) (u:∀(i:Nat) x,L[i]? =some (k,x)->B (.returned (Z i)) w) (A:(∀y∈L,y.1≠k)->B (.returned (Z (-1))) w):Calls prog 307 #[Y t,k] w B:=by
 obtain ⟨v,aa,Q,_⟩:=h;obtain ⟨base,cap,rfl,V⟩:=Q.rd;(have aj:w.cell? (I t 0)=some (.slice base L.length cap):=by rw [aA aa];rfl);have ae:=lH V;replace u:=lH u;replace A:=lH A;clear aa Q V;go_enter func307,ntmps307;go_wp2_with fail;go_loopw [5] (λa wr=>∃j:Nat,a=Z j/\j<=L.length/\Hid (∀y∈L.take j,y.1≠k)/\wr=w) (λa _=>L.length - (intOf a).toNat);case atStart=>exact ⟨0,rfl,BA _,lH D,rfl⟩
 case round=>
  obtain ⟨j,rfl,ak,H,rfl⟩:=hrel;by_cases r:j<L.length
  ·obtain ⟨b,off,rfl,J⟩:=ae.o.at_ j r;have ah:=CO.2 r;have e0:=J 0 _ rfl;have ag:=lH (AC r);have af:Hid (L.take (j+1)=L.take j++ [L[j]]):=lH (by rw [DJ,AC r];rfl);generalize L[j]=y at*;obtain ⟨i,x⟩:=y;dsimp only [Nat.add_zero] at e0;clear J;by_cases E:i=k;{subst E;have ai:((i:Int)==(i:Int))=true:=D;exact aC (u.o j x ag.o)}
   ·(have ai:((i:Int)==(k:Int))=false:=by simp;omega);have ad:=lH E;clear E;go_wp2_with fail;go_roundw
    case rel=>exact ⟨j+1,by go_num,r,lH (by
     intro z o;rw [af.o] at o;rcases BM.1 o with o|o;{exact H.o z o}
     ·rw [BB.1 o];exact ad.o),by trivial⟩
    case measure=>simp [intOf];omega
  {(obtain rfl:j=L.length:=by omega);have ah:=DR (L.length:Int);have ab:Hid (∀y∈L,y.1≠k):=lH (by have:=H.o;rwa [AX] at this);exact aC (A.o ab.o)}
theorem Ls (t k:Nat) (T L w) (h:rX w t L) (J:KL T L) (ad:dK T) (ap:k≠0) (am:L.length<=1000):
  Calls prog 306 #[Y t,k] w (dR (.bool (isDir T k)) w):=by
 by_cases u:k=1;{(have q:((k:Int)==1)=true:=by rw [u];rfl);have r:Hid (isDir T k=true):=lH (by rw [u];unfold isDir;rw [ad.root]);clear u;rw [r.o];have af:Hid (dR (.bool true) w (.returned (.bool true)) w):=dR.mk;generalize dR _ w=E at*;go_enter func306,ntmps306;exact aC af.o}
 ·(have q:((k:Int)==1)=false:=by simp;omega);have ae:=lH (λE=>Og t k L w h am E);have r:Hid (∀b,b=isDir T k->dR (.bool (isDir T k)) w (.returned (.bool b)) w):=λb aj=>by rw [aj];exact dR.mk
  generalize dR _ w=E at*;have ah:Hid (∀(i:Nat) x,L[i]? =some (k,x)->x.dir=isDir T k):=λi x o=>by
   have:=(J.ge (DX o)).2;unfold isDir;rw [this]
  have ai:Hid ((∀y∈L,y.1≠k)->isDir T k=false):=λB=>by
   unfold isDir;(cases ak:T k with|none=>rfl|some x=>exact absurd rfl (B _ (J.mem ak X)))
  obtain ⟨v,Q,aa,_⟩:=h;obtain ⟨base,cap,rfl,ab⟩:=aa.rd;(have ao:w.cell? (I t 0)=some (.slice base L.length cap):=by rw [aA Q];rfl);have ag:=lH ab;generalize isDir T k=an at*;clear Q aa ab J ad u;go_enter func306,ntmps306;go_wp2_with fail;refine ae.o _ ?_ ?_;{intro i x o;have al:=(AY.1 o).1;obtain ⟨b,off,rfl,V⟩:=ag.o.at_ i al;have H:=V 3 _ rfl;rw [(AY.1 o).2] at H;dsimp only at H;have A:=ah.o i x o;rw [A] at H;clear V o A;exact aC (r.o _ rfl)};{intro B;have A:=ai.o B;clear B;subst A;exact aC (r.o _ rfl)}
theorem Ob (t d:Nat) (s T L w) (h:rX w t L) (ab:KL T L) (af:dK T) (hd:d≠0) (aw:L.length<=1000):
  Calls prog 303 #[Y t,d,(ba s)] w (dR (Z ((kid T d s).getD 0:Nat)) w):=by
 obtain ⟨v,aa,ad,_⟩:=h;obtain ⟨base,cap,rfl,ae⟩:=ad.rd;(have ar:w.cell? (I t 0)=some (.slice base L.length cap):=by rw [aA aa];rfl);have ah:=lH ae;(have V:Hid (∀k:Nat,k=((L.find? λy=>decide (y.2.up=d)&&decide (y.2.name=s)).map (λy=>y.1)).getD 0->dR (Z ((kid T d s).getD 0:Nat)) w (.returned (Z k)) w):=λk e=>by rw [e,ab.aEk af d hd s];exact dR.mk);generalize dR _ w=aq at*;clear aa ad ae ab af hd;go_enter func303,ntmps303;go_wp2_with fail;go_loopw [7] (λa wr=>∃j:Nat,a=Z j/\j<=L.length/\Hid (∀y∈L.take j,(decide (y.2.up=d)&&decide (y.2.name=s))=false)/\wr=w) (λa _=>L.length - (intOf a).toNat);case atStart=>exact ⟨0,rfl,BA _,lH D,rfl⟩
 case round=>
  obtain ⟨j,rfl,av,J,rfl⟩:=hrel;by_cases r:j<L.length
  ·obtain ⟨b,off,rfl,E⟩:=ah.o.at_ j r;have an:=CO.2 r;have e0:=E 0 _ rfl;have ak:=E 1 _ rfl;have al:=E 2 _ rfl;have aj:=lH (AC r);have ai:Hid (L.take (j+1)=L.take j++ [L[j]]):=lH (by rw [DJ,AC r];rfl);generalize L[j]=y at*;obtain ⟨i,B,A,au⟩:=y;dsimp only [Nat.add_zero] at e0 ak al;clear E;have Q:Hid ((decide (B=d)&&decide (A=s))=false->∀y∈L.take (j+1),(decide (y.2.up=d)&&decide (y.2.name=s))=false):=λe z u=>by
    rw [ai.o] at u;rcases BM.1 u with u|u;{exact J.o z u};{rw [BB.1 u];exact e}
   have ag:Hid ((decide (B=d)&&decide (A=s))=true->i=((L.find? λy=>decide (y.2.up=d)&&decide (y.2.name=s)).map (λy=>y.1)).getD 0):=λe=>by
    rw [Du aj.o e J.o];rfl
   by_cases hu:B=d;{subst hu;have ao:((B:Int)==(B:Int))=true:=D;by_cases H:A=s;{subst H;have ap:((ba A).toList==(ba A).toList)=true:=D;have o:=lH (ag.o D);go_wp2_with fail;skip;exact V.o i o.o};{(have ap:((ba A).toList==(ba s).toList)=false:=by rw [lG,lG];simpa using H);have o:=lH (Q.o (by simp [H]));clear H;go_wp2_with fail;go_roundw;{exact ⟨j+1,by go_num,r,o,by trivial⟩};simp [intOf];omega}};{(have ao:((B:Int)==(d:Int))=false:=by simp;omega);have o:=lH (Q.o (by simp [hu]));clear hu;go_wp2_with fail;go_roundw;{exact ⟨j+1,by go_num,r,o,by trivial⟩};simp [intOf];omega}
  ·obtain rfl:j=L.length:=by omega
   have an:=DR (L.length:Int);have o:Hid (0=((L.find? λy=>decide (y.2.up=d)&&decide (y.2.name=s)).map (λy=>y.1)).getD 0):=lH (by
    have h:=J.o;rw [AX] at h;rw [EU.2 (λy am=>by rw [h y am];decide)];rfl)
   go_wp2_with fail;skip;exact V.o 0 o.o
def qH (s:List UInt8):List Value:= [(ba s)]
theorem Vs (t v r T L w) (h:rX w t L) (af:KL T L) (ab:dK T) (ag:L.length<=1000) (ap:aI qH 1 w v r) (bc:r.length<=100):
  Calls prog 305 #[Y t,v] w (dR (.tuple #[.int .i64 (bP T 1 r).2,.int .i64 (bP T 1 r).1]) w):=by
 have aq:Hid (∀k:Nat,k≠0->Calls prog 306 #[Y t,k] w (dR (.bool (isDir T k)) w)):=λk Q=>Ls t k T L w h af ab Q ag;have ar:Hid (∀(d:Nat) s,d≠0->Calls prog 303 #[Y t,d,(ba s)] w (dR (Z ((kid T d s).getD 0:Nat)) w)):=λd s hd=>Ob t d s T L w h af ab hd ag;obtain ⟨base,cap,rfl,ao⟩:=ap.rd;have au:=lH ao;have ae:=lH ab;clear h af ab ap ao ag;generalize al:bP T 1 r=W at*;(have ad:Hid (∀V,V=W->dR (.tuple #[W.2,W.1]) w (.returned (.tuple #[V.2,V.1])) w):=λV e=>by rw [e];exact dR.mk);generalize dR _ w=bb at*;have av:=lH al;clear al;go_enter func305,ntmps305;go_wp2_with fail;go_loopw [6,7] (λa i wr=>∃(k j:Nat),a=Z k/\i=Z j/\j<=r.length/\Hid (bP T k (r.drop j)=W)/\Hid (∃x,T k=some x)/\wr=w) (λ_ i _=>r.length - (intOf i).toNat);case atStart=>exact ⟨1,0,rfl,rfl,BA _,lH av,lH ⟨_,ae.o.root⟩,rfl⟩
 case round=>
  obtain ⟨k,j,rfl,rfl,bd,ak,aw,rfl⟩:=hrel;by_cases aa:j<r.length;{obtain ⟨b,off,rfl,am⟩:=au.o.at_ j aa;have az:=CO.2 aa;have be:=BQ j;have e0:=am 0 _ rfl;have o:=ak.o;rw [DN aa] at o;generalize r[j]=s at*;dsimp only [Nat.add_zero] at e0;rw [IG] at e0;obtain ⟨x,H⟩:=aw.o;have Q:k≠0:=(by have:=ae.o.lt H;omega);have B:=lH (aq.o k Q);have E:=lH (ar.o k s Q);simp only [bP,H] at o;have an:isDir T k=x.dir:=(by unfold isDir;rw [H]);rw [an] at B;clear am Q an;(cases A:x.dir with|true=>rw [A] at B;rw [AL A] at o;(cases J:kid T k s with|none=>rw [J] at o E;have u:=lH o;clear o H J A;dsimp only [Option.getD_none] at E;go_wp2_with fail;refine cr B.o ?_;rintro aj rfl;go_wp2_with fail;refine cr E.o ?_;rintro aj rfl;exact aC (ad.o _ u.o)|some ai=>{rw [J] at o E;have u:=lH o;obtain ⟨y,ah,_⟩:=rJ J;have ay:=ae.o.lt ah;have bf:((ai:Int)==0)=false:=(by simp;omega);have ax:Hid (∃x,T ai=some x):=lH ⟨y,ah⟩;clear o H J A ah ay;dsimp only [Option.getD_some] at E;go_wp2_with fail;refine cr B.o ?_;rintro aj rfl;go_wp2_with fail;refine cr E.o ?_;rintro aj rfl;go_wp2_with fail;go_roundw;{exact ⟨ai,j+1,rfl,by go_num,aa,u,ax,by trivial⟩};simp [intOf];omega})|false=>rw [A] at B;rw [AA (by rw [A];decide)] at o;have u:=lH o;clear o H A;go_wp2_with fail;refine cq B.o ?_;exact aC (ad.o _ u.o))}
  ·obtain rfl:j=r.length:=by omega
   have az:=DR (r.length:Int);have u:Hid ((0,k)=W):=lH (by
    have:=ak.o;rw [KF] at this;exact this)
   exact aC (ad.o _ u.o)
