/- Part of a proof. -/
import Derived.Test.YtedcppikakinoaaGreatU07
import Derived.Test.YtedcppikakinoaaGreatU10
import Derived.Test.YtedcppikakinoaaGreatU11
import Derived.Laws.BytesString
set_option linter.unusedSimpArgs false
set_option linter.unusedVariables false
set_option maxRecDepth 100000
set_option maxHeartbeats 3200000
namespace Go.Proofs.YtedcppikakinoaaGreat
open Go.Proofs.Tryz Go.RowKit
theorem G7 {s r} (h:(jC s r).2=0):s.2=0/\jC s r=(s.1++r,0):=by
 unfold jC at*;split at h;{contradiction};{rename_i o;have o:=BI o;split at h;{simp at h};{rename_i u;rw [AA (by simp [o]),AA u];exact ⟨o,rfl⟩}}
theorem X9 {s e} (o:e≠0) (h:(oZ s e).2=0):False:=by
 unfold oZ at h;split at h;{contradiction};{exact o h}
theorem yO {s x wd} (h:(dN s x wd).2=0):s.2=0/\(0<=x/\x<2 ^ (8*wd))/\dN s x wd=(s.1++bK wd x.toNat,0):=by
 unfold dN at*;split at h;{rename_i o;obtain ⟨r,u⟩:=G7 h;rw [AL o];exact ⟨r,o,u⟩};{exact (X9 G h).elim}
theorem Oq {s o} (h:(mP s o).2=0):s.2=0/\o.length<=65535/\mP s o=(s.1++(bK 2 o.length++o),0):=by
 unfold mP at*;split at h;{exact (X9 G h).elim};{rename_i A;obtain ⟨r,u⟩:=G7 h;rw [AA A];exact ⟨r,by omega,u⟩}
def wY (x:Bool):UInt8:=if x then 1 else 0
def lC (x:dX):List UInt8:=bK 2 x.1.data.toList.length++x.1.data.toList++(bK 2 x.2.1.toNat++ [wY x.2.2])
def vU (x:dX):Prop:=x.1.data.toList.length<=65535/\0<=x.2.1/\x.2.1<65536
theorem aCe {s x} (h:(qE s x).2=0):s.2=0/\vU x/\qE s x=(s.1++lC x,0):=by
 unfold qE at*;obtain ⟨B,r⟩:=G7 h;obtain ⟨E,o,u⟩:=yO B;obtain ⟨H,J,A⟩:=Oq E;refine ⟨H,⟨J,o.1,o.2⟩,?_⟩;rw [r,u,A];simp [lC,wY]
theorem Jj:∀ {es:List dX} {s:lI},(es.foldl qE s).2=0->s.2=0/\(∀x∈es,vU x)/\es.foldl qE s=(s.1++es.flatMap lC,0)
 | [],s,h=>⟨h,by simp,by
  have:s=(s.1,s.2):=rfl;simp only [MR] at h;simp only [MR,GU,EK];rw [this,h]⟩
 | x::r,s,h=>by
  obtain ⟨B,E,u⟩:=Jj (es:=r) (s:=qE s x) h;obtain ⟨H,J,A⟩:=aCe B;refine ⟨H,?_,?_⟩
  ·intro y o;rcases CB.1 o with rfl|o
   ·exact J
   ·exact E y o
  ·rw [NI,u,A];simp
structure aX.Fits (r:aX):Prop where
 e:0<=r.e/\r.e<256
 ino:0<=r.ino/\r.ino<65536
 size:0<=r.size/\r.size<65536
 handle:0<=r.handle/\r.handle<256
 swaps:0<=r.swaps/\r.swaps<16777216
 es:∀x∈r.es,vU x
 map:r.map.length<=65535
def aX.Jc (r:aX):List UInt8:=r.es.flatMap lC++(bK 2 r.map.length++r.map)
def aX.Ja (r:aX):List UInt8:=bK 1 r.e.toNat++(bK 2 r.ino.toNat++(bK 2 r.size.toNat++(bK 1 r.handle.toNat++(bK 3 r.swaps.toNat++(wY r.dir::(bK 2 r.es.length++r.Jc))))))
theorem aX.ok.raw {o:aX} (h:o.ok):o.Fits/\o.bytes=o.Ja:=by
 obtain ⟨aa,_,_⟩:=h;unfold aX.bytes;unfold uB zZ at*;obtain ⟨ab,ao,r⟩:=Oq aa;obtain ⟨ad,al,u⟩:=Jj ab;obtain ⟨ae,au,A⟩:=yO ad;obtain ⟨af,B⟩:=G7 ae;obtain ⟨ag,ap,E⟩:=yO af;obtain ⟨ah,am,H⟩:=yO ag;obtain ⟨ai,aq,J⟩:=yO ah;obtain ⟨aj,an,Q⟩:=yO ai;obtain ⟨ar,ak,V⟩:=yO aj;refine ⟨⟨ak,an,aq,am,ap,al,ao⟩,?_⟩;rw [r,u,A,B,E,H,J,Q,V];simp [aX.Ja,aX.Jc,wY]
theorem aDz (e b off l c w) (B:Ey w e b off l c):Calls prog 125 #[Y e] w λx w'=>x=.returned (.tuple #[])/\Fr No w w':=by
 have r:=lH B;clear B;go_enter func125,ntmps125;go_wp2_with fail;refine cr (O3 e b off l c w r) λH u=> ?_;have o:=lH u;clear u;go_wp2_with fail;refine cr (O3 e b off l c H (o.o.aB r id)) λJ A=> ?_;have E:=lH (o.o.trans A zq);clear A;go_wp2_with fail;refine cq (zU 0 J) ?_;refine aC ?_;exact IE (v:=.tuple #[]) (by simp [results,results125,go_sem]) rfl ⟨rfl,E⟩
theorem Er.ey {w e b rest} (h:Er w e b rest):e<w.heap.size/\∃cs,w.heap[e]? =some (.cells cs 304 (0,0)):=by
 obtain ⟨off,c,o,_⟩:=h;exact ⟨lt_of_block o,_,o⟩
theorem Dc {w:World} {e r:Nat} {cs cs' t u} (A:w.heap[e]? =some (.cells cs' 304 (0,0))) (o:w.heap[r]? =some (.cells cs t u)) (B:t≠304):r≠e:=by
 intro e';rw [e',A] at o;simp at o;exact B o.2.1.symm
theorem aGI (e b p q r o rest) (an:1<=o.length) (aj:o.length<=7) (w) (E:Er w e b (o++rest)) (ab:w.heap[p]? =some (.cells #[o.length] 3 (0,0))) (ad:w.heap[q]? =some (.cells #[Y e] 203 (0,0))) (A:w.heap[r]? =some (.cells #[Z 0] 3 (0,0))) (ak:b≠r):
  Calls prog 179 #[Y p,Y q,Y r] w λx w'=>x=.returned (.tuple #[])/\w'.heap[r]? =some (.cells #[Z (kU 0 o)] 3 (0,0))/\Er w' e b rest/\Fr (λk=>k=e\/k=r) w w':=by
 have c1:w.cell? (I p 0)=some (Z o.length):=aA ab _;have c2:w.cell? (I q 0)=some (Y e):=aA ad _;have am:=aU A 0;have ag:=lH (Wx e b o rest aj w E);have ai:=lH A;obtain ⟨_,cs,V⟩:=E.ey;have aa:=Dc V A G;have ao:(1:Int)<=(o.length:Int):=X
 have ap:(o.length:Int)<=7:=X
 clear E ab ad A V;generalize al:o.length=n at*;clear al;go_enter func179,ntmps179;go_wp2_with (go_at_call 149;go_in);refine ag.o.mono ?_;rintro x B ⟨rfl,Q,J⟩;have af:=lH Q;have u:=J.aB ai aa;have ah:=lH u;have aq:=aU u 0;have c4:B.cell? (I r 0)=some (Z 0):=aA u _;have ae:=lH J;clear Q u am;go_wp2_with fail;have H:Fr (λk=>k=r) B (B.setCell (I r 0) (Z (kU 0 o))):=Fr.setCell (S:=λk=>k=r) (p:=(I r 0)) (Fr.refl B) (.inl rfl) _;exact IE (v:=.tuple #[]) (by simp [results,results179,go_sem]) rfl ⟨rfl,by simpa using setCell_at ah.o 0 _,af.o.fr H (λe'=>aa e'.symm) ak,(ae.o.mono (λ_ _ e=> .inl e)).trans H (λ_ _ e=> .inr e)⟩
theorem Lm (e b o rest) (ao:1<=o.length) (ap:o.length<=7) (w) (V:Er w e b (o++rest)):
  Calls prog 124 #[Y e,o.length] w λx w'=>x=.returned (Z (kU 0 o))/\Er w' e b rest/\Fr (λk=>k=e) w w':=by
 have ay:∀(fn:Fn) (first cap:Array Value) (w:World),(Instr.makeFunc fn first cap).run prog w=.ok (.func fn first cap) w:=λ_ _ _ _=>rfl;obtain ⟨off,c,aa,ar,av,aw,aq⟩:=id V;obtain ⟨r,A⟩:∃r,r=((w.alloc (.cells #[Y e] 203)).alloc (.cells #[o.length] 3)).alloc (.cells #[Z 0] 3):=⟨_,rfl⟩
 obtain ⟨E,ad⟩:∃E,E=(r.alloc (.cells #[Y e] 203)).alloc (.cells #[.slice (some (I b off)) (o++rest).length c] 27):=⟨_,rfl⟩
 have J:Fr No w r:=by rw [A];exact (((Fr.refl w).alloc _).alloc _).alloc _
 have u:Fr No r E:=by rw [ad];exact ((Fr.refl r).alloc _).alloc _
 have Q:=J.trans u zq;have ai:r.heap[w.heap.size]? =some (.cells #[Y e] 203 (0,0)):=by rw [A];exact ((Fr.refl (S:=No) _).alloc _|>.alloc _).aB (aT w _) id
 have ah:r.heap[w.heap.size+1]? =some (.cells #[o.length] 3 (0,0)):=by
  rw [A];have:=((Fr.refl (S:=No) _).alloc (.cells #[Z 0] 3)).aB (aT (w.alloc (.cells #[Y e] 203)) (.cells #[o.length] 3)) id;simpa using this
 have aj:r.heap[w.heap.size+1+1]? =some (.cells #[Z 0] 3 (0,0)):=by
  rw [A];have:=aT ((w.alloc (.cells #[Y e] 203)).alloc (.cells #[o.length] 3)) (.cells #[Z 0] 3);simpa using this
 have ab:=aGI e b (w.heap.size+1) w (w.heap.size+1+1) o rest ao ap E (V.no Q) (u.aB ah id) (u.aB ai id) (u.aB aj id) X;rw [ad] at ab;have le:=lt_of_block aa;have H:=lH (aBC e b off (o++rest).length c (w.heap.size+1) w (w.heap.size+1+1) r (J.aB aa id) _ ab);rw [<-ad] at H;have ak:=lH Q;clear ab u ai ah aj J Q V aa aq ar;rw [A] at H;go_enter func124,ntmps124;go_wp2_with fail;with_reducible refine H.o.mono ?_
 rintro x au ⟨rfl,az,⟨ag,af,ae⟩,B⟩;have an:au.cell? (I (w.heap.size+1+1) 0)=some (Z (kU 0 o)):=B.cell_of (aA ag _) id;have am:=lH (af.no B);have al:=lH ((ak.o.bC (S:=λk=>k=e)).trans (ae.trans B (λ_ _ e=>e.elim)) (λk ax e=>by rcases e with e|e;exact e;omega));clear ag ae B af;go_wp2_with fail;exact AZ (v:=Z (kU 0 o)) (by simp [results,results124,go_sem,an]) rfl ⟨rfl,am,al⟩
theorem aAQ (e b q o) (x:Bool) (rest w) (E:Er w e b ((if x then 1 else 0)::rest)) (ag:w.heap[q]? =some (.cells #[Y e] 203 (0,0))) (J:w.heap[o]? =some (.cells #[false] 4 (0,0))) (ae:b≠o):
  Calls prog 182 #[Y q,Y o] w λy w'=>y=.returned (.tuple #[])/\w'.heap[o]? =some (.cells #[x] 4 (0,0))/\Er w' e b rest/\Fr (λk=>k=e\/k=o) w w':=by
 have c2:w.cell? (I q 0)=some (Y e):=aA ag _;have ah:=lH (Iw e b [if x then 1 else 0] rest w E);have ai:=lH J;obtain ⟨_,cs,ad⟩:=E.ey;have H:=Dc ad J G;clear E ag J ad;cases x;all_goals
  go_enter func182,ntmps182;go_wp2_with fail;refine ah.o.mono ?_;rintro y r ⟨off,rfl,af,ab,B⟩;have V:=lH ab;have A:=B.aB ai H;have aa:=lH A;have aj:=aU A 0;have c4:r.cell? (I o 0)=some (.bool false):=aA A _;have d0:=af 0 _ rfl;rw [BU] at d0;have Q:=lH B;clear ab A af B;simp at d0;go_wp2_with fail
 ·have u:Fr (λk=>k=o) r (r.setCell (I o 0) (.bool false)):=Fr.setCell (S:=λk=>k=o) (p:=(I o 0)) (Fr.refl r) (.inl rfl) _;exact IE (v:=.tuple #[]) (by simp [results,results182,go_sem]) rfl ⟨rfl,by simpa using setCell_at aa.o 0 (.bool false),V.o.fr u (λe'=>H e'.symm) ae,(Q.o.mono (λ_ _ e=> .inl e)).trans u (λ_ _ e=> .inr e)⟩
 ·have u:Fr (λk=>k=o) r (r.setCell (I o 0) (.bool true)):=Fr.setCell (S:=λk=>k=o) (p:=(I o 0)) (Fr.refl r) (.inl rfl) _;exact IE (v:=.tuple #[]) (by simp [results,results182,go_sem]) rfl ⟨rfl,by simpa using setCell_at aa.o 0 (.bool true),V.o.fr u (λe'=>H e'.symm) ae,(Q.o.mono (λ_ _ e=> .inl e)).trans u (λ_ _ e=> .inr e)⟩
theorem Pj (e b x rest w) (Q:Er w e b ((if x then 1 else 0)::rest)):
  Calls prog 127 #[Y e] w λy w'=>y=.returned (.bool x)/\Er w' e b rest/\Fr (λk=>k=e) w w':=by
 have au:∀(fn:Fn) (first cap:Array Value) (w:World),(Instr.makeFunc fn first cap).run prog w=.ok (.func fn first cap) w:=λ_ _ _ _=>rfl;obtain ⟨off,c,V,an,ap,aq,am⟩:=id Q;obtain ⟨o,A⟩:∃o,o=(w.alloc (.cells #[Y e] 203)).alloc (.cells #[false] 4):=⟨_,rfl⟩
 obtain ⟨B,ab⟩:∃B,B=(o.alloc (.cells #[Y e] 203)).alloc (.cells #[.slice (some (I b off)) ((if x then 1 else 0)::rest:List UInt8).length c] 27):=⟨_,rfl⟩
 have H:Fr No w o:=by rw [A];exact ((Fr.refl w).alloc _).alloc _
 have r:Fr No o B:=by rw [ab];exact ((Fr.refl o).alloc _).alloc _
 have J:=H.trans r zq;have ag:o.heap[w.heap.size]? =some (.cells #[Y e] 203 (0,0)):=by rw [A];exact ((Fr.refl (S:=No) _).alloc _).aB (aT w _) id
 have ah:o.heap[w.heap.size+1]? =some (.cells #[false] 4 (0,0)):=by
  rw [A];have:=aT (w.alloc (.cells #[Y e] 203)) (.cells #[false] 4);simpa using this
 have aa:=aAQ e b w (w.heap.size+1) x rest B (Q.no J) (r.aB ag id) (r.aB ah id) X;rw [ab] at aa;have le:=lt_of_block V;have E:=lH (aBl e b off _ c w (w.heap.size+1) o (H.aB V id) _ aa);rw [<-ab] at E;have ai:=lH J;clear aa r ag ah H J Q V am an;rw [A] at E;go_enter func127,ntmps127;go_wp2_with fail;with_reducible refine E.o.mono ?_
 rintro y ao ⟨rfl,av,⟨af,ae,ad⟩,u⟩;have al:ao.cell? (I (w.heap.size+1) 0)=some (.bool x):=u.cell_of (aA af _) id;have ak:=lH (ae.no u);have aj:=lH ((ai.o.bC (S:=λk=>k=e)).trans (ad.trans u (λ_ _ e=>e.elim)) (λk ar e=>by rcases e with e|e;exact e;omega));clear af ad u ae;go_wp2_with fail;exact AZ (v:=.bool x) (by simp [results,results127,go_sem,al]) rfl ⟨rfl,ak,aj⟩
theorem aCB (e b p q r m o rest) (bn:(o.length:Int)<=m) (bm:o.length<=65535) (w) (ag:Er w e b (bK 2 o.length++(o++rest))) (aj:w.heap[p]? =some (.cells #[m] 3 (0,0))) (ak:w.heap[q]? =some (.cells #[Y e] 203 (0,0))) (Q:w.heap[r]? =some (.cells #[nS] 27 (0,0))) (be:b≠r):
  Calls prog 184 #[Y p,Y q,Y r] w λx w'=>x=.returned (.tuple #[])/\(∃u ad,w'.heap[r]? =some (.cells #[O u o.length ad] 27 (0,0))/\fH w' (O u o.length ad) o u 0 ad/\w.heap.size<=u)/\Er w' e b rest/\Fr (λk=>k=e\/k=r) w w':=by
 have c1:w.cell? (I p 0)=some (Z m):=aA aj _;have c2:w.cell? (I q 0)=some (Y e):=aA ak _;have bq:decide (m<0)=false:=by simp;omega
 have br:decide (m<(o.length:Int))=false:=by simp;omega
 have ah:=Wx e b (bK 2 o.length) (o++rest) (by rw [fM];decide) w ag;rw [fM,Ib 2 o.length (by show o.length<65536;omega)] at ah;have am:=lH ah;have bd:=lH Q;obtain ⟨bl,cs,H⟩:=ag.ey;have av:=Dc H Q G;have bg:=Dc H aj G;have bh:=Dc H ak G;have bp:=lt_of_block Q;clear ag aj ak Q H ah;generalize au:o.length=n at*;have A:=lH au;clear au;go_enter func184,ntmps184;go_wp2_with fail;refine am.o.mono ?_;rintro x bi ⟨rfl,ao,E⟩;have ai:=Iw e b o rest bi ao;rw [A.o] at ai;have bb:=lH ai;have ay:=lH E;have c1:=E.cell_of c1 bg;have c2:=E.cell_of c2 bh;clear ao E am ai;go_wp2_with fail;refine bb.o.mono ?_;rintro x bj ⟨off,rfl,aq,ae,ap⟩;have ax:=lH ae;have aa:=lH (ay.o.trans ap zq);have ar:=Az _ o b off n bj ⟨by rw [A.o],by have:=A.o;omega,by obtain ⟨_,_,_,_,_,h,_⟩:=ae;exact h,aq⟩ (by have:=A.o;omega);have az:=lH ar;clear ae ap aq ar;go_wp2_with fail;refine az.o.mono ?_;rintro x V ⟨bt,u,an,rfl,sl,bk,af⟩;obtain ⟨rfl,aw⟩:=sl;have ab:=lH aw;have al:=lH af;have J:=af.aB (aa.o.aB bd av) id;have bu:=aU J 0;have c4:V.cell? (I r 0)=some (nS):=aA J _;have bc:=lH J;have bo:=aa.o.size;clear aw af J;rw [A.o];go_wp2_with fail;have B:Fr (λk=>k=r) V (V.setCell (I r 0) (O u n an)):=Fr.setCell (S:=λk=>k=r) (p:=(I r 0)) (Fr.refl V) (.inl rfl) _;refine IE (v:=.tuple #[]) (by simp [results,results184,go_sem]) rfl ⟨rfl,⟨u,an,by simpa using setCell_at bc.o 0 _,⟨by rw [A.o],ab.o.1,AP ab.o.2.1 B.size,λj y bf=>B.cell_of (ab.o.2.2 j y bf) (by dsimp only;omega)⟩,by omega⟩,(ax.o.no al).fr B (λe'=>av e'.symm) be,((aa.o.trans al (λ_ _ e=>e.elim)).mono (λ_ _ e=> .inl e)).trans B (λ_ _ e=> .inr e)⟩
theorem Zb (e b m o rest) (bb:(o.length:Int)<=m) (ay:o.length<=65535) (w) (ab:Er w e b (bK 2 o.length++(o++rest))):
  Calls prog 130 #[Y e,m] w λx w'=>∃r A,x=.returned (O r o.length A)/\fH w' (O r o.length A) o r 0 A/\w.heap.size<=r/\Er w' e b rest/\Fr (λk=>k=e) w w':=by
 have bf:∀(fn:Fn) (first cap:Array Value) (w:World),(Instr.makeFunc fn first cap).run prog w=.ok (.func fn first cap) w:=λ_ _ _ _=>rfl;obtain ⟨off,c,ad,az,bc,bd,aw⟩:=id ab;obtain ⟨u,H⟩:∃u,u=((w.alloc (.cells #[Y e] 203)).alloc (.cells #[m] 3)).alloc (.cells #[nS] 27):=⟨_,rfl⟩
 obtain ⟨J,af⟩:∃J,J=(u.alloc (.cells #[Y e] 203)).alloc (.cells #[.slice (some (I b off)) (bK 2 o.length++(o++rest)).length c] 27):=⟨_,rfl⟩
 have V:Fr No w u:=by rw [H];exact (((Fr.refl w).alloc _).alloc _).alloc _
 have E:Fr No u J:=by rw [af];exact ((Fr.refl u).alloc _).alloc _
 have aa:=V.trans E zq;have am:u.heap[w.heap.size]? =some (.cells #[Y e] 203 (0,0)):=by rw [H];exact ((Fr.refl (S:=No) _).alloc _|>.alloc _).aB (aT w _) id
 have al:u.heap[w.heap.size+1]? =some (.cells #[m] 3 (0,0)):=by
  rw [H];have:=((Fr.refl (S:=No) _).alloc (.cells #[nS] 27)).aB (aT (w.alloc (.cells #[Y e] 203)) (.cells #[m] 3)) id;simpa using this
 have an:u.heap[w.heap.size+1+1]? =some (.cells #[nS] 27 (0,0)):=by
  rw [H];have:=aT ((w.alloc (.cells #[Y e] 203)).alloc (.cells #[m] 3)) (.cells #[nS] 27);simpa using this
 have ae:=aCB e b (w.heap.size+1) w (w.heap.size+1+1) m o rest bb ay J (ab.no aa) (E.aB al id) (E.aB am id) (E.aB an id) X;rw [af] at ae;have le:=lt_of_block ad;have Q:=lH (aCW e b off _ c (w.heap.size+1) w (w.heap.size+1+1) u (V.aB ad id) _ ae);rw [<-af] at Q;have ag:=lH aa;clear ae E am al an V aa ab ad aw az;rw [H] at Q;go_enter func130,ntmps130;go_wp2_with fail;with_reducible refine Q.o.mono ?_
 rintro x ao ⟨rfl,bg,⟨⟨r,A,ak,sl,aj⟩,ai,ah⟩,B⟩;have au:ao.cell? (I (w.heap.size+1+1) 0)=some (O r o.length A):=B.cell_of (aA ak _) id;have aq:=lH (ai.no B);have ap:=lH ((ag.o.bC (S:=λk=>k=e)).trans (ah.trans B (λ_ _ e=>e.elim)) (λk be e=>by rcases e with e|e;exact e;omega));have ar:Hid (fH ao (O r o.length A) o r 0 A):=lH ⟨rfl,sl.2.1,AP sl.2.2.1 B.size,λj y ax=>B.cell_of (sl.2.2.2 j y ax) id⟩;have av:=AV ag.o.size aj;clear ak ah B ai sl aj;go_wp2_with fail;exact AZ (v:=.slice (some (I r 0)) o.length A) (by simp [results,results130,go_sem,au]) rfl ⟨r,A,rfl,ar,av,aq,ap⟩
theorem Vd (w b c o) (h:fH w (O b o.length c) o b 0 c) (E:o.length<=65535):(convert 27 9 (O b o.length c)).run prog w=.ok (.string ⟨o.toArray⟩) w:=by
 have A:(loadCells (I b 0) o.length).run prog w=.ok ((o.map λx=>(x.toNat:Int)).map (Value.int .u8)).toArray w:=by
  have:=run_loadCells_list (P:=prog) w (I b 0) ((o.map λx=>(x.toNat:Int)).map (Value.int .u8)) (λj v r=>by
   rw [Addr.add_mid];simp only [DY,CY] at r;obtain ⟨x,⟨y,B,rfl⟩,rfl⟩:=r;exact h.2.2.2 j y B)
  simpa using this
 rw [run_convert_bytes_string w 27 9 5 _ _ _ underlying27 underlying5 underlying9,run_bytesToString w _ _ _ _ A];congr 2;(have:∀(o:List UInt8) (a:ByteArray),(o.map λx=>(x.toNat:Int)).foldl (λu n=>u.push (UInt8.ofNat n.toNat)) a=⟨a.data++o.toArray⟩:=by{intro o;(induction o with|nil=>intro a;simp|cons y u ih=>intro a;simp only [EW,NI];rw [ih];simp [ByteArray.push])});rw [this];exact BD (λa=>(⟨a⟩:ByteArray)) (Array.empty_append (xs:=o.toArray))
theorem aE7 (e b m o rest) (aa:(o.length:Int)<=m) (E:o.length<=65535) (w) (B:Er w e b (bK 2 o.length++(o++rest))):
  Calls prog 129 #[Y e,m] w λx w'=>x=.returned (.string ⟨o.toArray⟩)/\Er w' e b rest/\Fr (λk=>k=e) w w':=by
 have r:=lH (Zb e b m o rest aa E w B);clear B;go_enter func129,ntmps129;go_wp2_with fail;refine r.o.mono ?_;rintro x ab ⟨Q,V,rfl,sl,ad,u,A⟩;have ae:=Vd ab Q V o sl E;have H:=lH u;have J:=lH A;clear sl u A r;go_wp2_with fail;exact AZ (v:=.string ⟨o.toArray⟩) (by simp [results,results129,go_sem]) rfl ⟨rfl,H,J⟩
def Pred (g:Nat) (lb:Array Value) (p:Tok->Bool) (S:Nat->Prop) (w:World):Prop:=∀W,Fr S w W->∀x,Calls prog g (#[kJ x]++lb) W λe w'=>e=.returned (.bool (p x))/\Fr No W w'
def Found (w:World) (L:List Tok) (p:Tok->Bool) (e:Ending) (w':World):Prop:=
 Fr No w w'/\((e=.returned (Z (-1))/\∀x∈L,p x=false)\/∃(i:Nat) (x:Tok),e=.returned (Z i)/\L[i]? =some x/\p x=true/\∀y∈L.take i,p y=false)
theorem V6 (g ae) (am:∀args w,(callFunc g args).run prog w=.ok (.enter g args) w) (p b cap L w) (h:oQ w b cap L) (ab:Pred g ae p No w) (aa:cap<=maxLen):
  Calls prog 242 #[O b L.length cap,.func (.func g) #[] ae] w (Found w L p):=by
 have af:=lH h;have ag:=lH ab;have ao:=h.len;have ap:cap<=9223372036854775807:=aa;have J:Hid (∀e w',Fr No w w'->((e=.returned (Z (-1))/\∀x∈L,p x=false)\/∃(i:Nat) (x:Tok),e=.returned (Z i)/\L[i]? =some x/\p x=true/\∀y∈L.take i,p y=false)->Found w L p e w'):=λe w' f h=>⟨f,h⟩;generalize Found w L p=al at*;clear h ab aa;go_enter func242,ntmps242;go_wp2_with fail;go_loopw [8] (λi wr=>∃j:Nat,i=Z j/\j<=L.length/\Hid (∀y∈L.take j,p y=false)/\Hid (Fr No w wr)) (λi _=>L.length - (intOf i).toNat);(case atStart=>exact ⟨0,rfl,BA _,lH D,lH (Fr.refl _)⟩);(case round=>obtain ⟨j,rfl,an,B,r⟩:=hrel;by_cases A:j<L.length;{(have ak:(j:Int)<(L.length:Int):=X);have aq:(0:Int)<=(j:Int):=X;have ar:(j:Int)<(cap:Int):=X;have Q:=(af.o.fr r id).row j L[j] (AC A);have ai:Hid (L[j]? =some L[j]):=AC A;have u:=lH (ag.o wr r L[j]);have ah:Hid (L.take (j+1)=L.take j++ [L[j]]):=lH (by rw [DJ,AC A];rfl);generalize L[j]=x at*;have V:=lH Q;clear Q;(cases o:p x with|true=>rw [o] at u;have E:=lH o;clear o;go_wp2_with (first|(refine EQ R 53 _ R b (j*4) R (cO x) _ V underlying53 rfl Tryz.tC ?_)|(go_at_fn g;refine u.o.mono ?_;rintro e w' ⟨rfl,H⟩));refine J.o _ _ (r.o.trans H zq) (.inr ⟨j,x,rfl,ai,E,B⟩)|false=>{rw [o] at u;have E:=lH o;clear o;go_wp2_with (first|(refine EQ R 53 _ R b (j*4) R (cO x) _ V underlying53 rfl Tryz.tC ?_)|(go_at_fn g;refine u.o.mono ?_;rintro e w' ⟨rfl,H⟩));go_roundw;{refine ⟨j+1,by go_num,A,lH (λy ad=> ?_),lH (r.o.trans H zq)⟩;rw [ah.o] at ad;rcases BM.1 ad with h|h;{exact B.o y h};{rw [BB] at h;subst h;exact E.o}};simp [intOf];omega})};{(obtain rfl:j=L.length:=by omega);have ak:¬(L.length:Int)<(L.length:Int):=X;go_wp2_with fail;exact J.o _ _ r (.inl ⟨rfl,λx aj=>B.o x (by rw [AX];exact aj)⟩)})
theorem aDu (fv w):Calls prog 242 #[nS,fv] w λe w'=>e=.returned (Z (-1))/\w'=w:=by
 go_enter func242,ntmps242;go_wp2_with fail;refine IZ 1 ?_;rw [GR];go_wp2_with fail;go_ret;exact ⟨rfl,rfl⟩
theorem aDh (g r) (ad:∀args w,(callFunc g args).run prog w=.ok (.enter g args) w) (p v L w) (h:oH w v L) (Q:Pred g r p No w):
  Calls prog 230 #[v,.func (.func g) #[] r] w λe w'=>e=.returned (.bool (L.any p))/\Fr No w w':=by
 rcases h with ⟨rfl,rfl⟩|⟨b,cap,rfl,J,H⟩;{go_enter func230,ntmps230;go_wp2_with (go_at_call 242;refine (aDu _ _).mono ?_;rintro e w' ⟨rfl,rfl⟩);go_ret;exact ⟨rfl,Fr.refl _⟩};{have ab:=lH (V6 g r ad p b cap L w H Q J);clear H Q J;generalize V:L.any p=aa;have u:=lH V;clear V;go_enter func230,ntmps230;go_wp2_with fail;refine ab.o.mono ?_;rintro e w' ⟨A,⟨rfl,h⟩|⟨i,x,rfl,B,E,_⟩⟩;{have o:Hid (aa=false):=lH (by rw [<-u.o];simpa using h);clear h;go_wp2_with fail;go_ret;exact ⟨by rw [o.o];rfl,A⟩};{have o:Hid (aa=true):=lH (by rw [<-u.o];rw [List.any_eq_true];exact ⟨x,DX B,E⟩);have q:(0:Int)<=(i:Int):=X;clear B E;go_wp2_with fail;go_ret;exact ⟨by rw [o.o];rfl,A⟩}}
def kQ (w:World) (o:Nat->Nat) (K k:Nat) (L:List Tok):Prop:=
 o k=K+5/\∃v,w.heap[k]? =some (.cells #[.bool true,v] 187 (0,0))/\((v=.slice none 0 0/\L= [])\/∃b cap,v=.slice (some (I b 0)) L.length cap/\cap<=maxLen/\o b=K+9/\oQ w b cap L)
theorem kQ.step {C w w' E H K k L} (h:kQ w E K k L) (s:Step C w E w' H) (J:¬C (K+5)) (Q:¬C (K+9)):kQ w' H K k L:=by
 obtain ⟨r,v,u,o⟩:=h;refine ⟨(s.own u).trans r,v,s.block u (by rw [r];exact J),?_⟩;rcases o with o|⟨b,cap,e,V,A,B⟩;{exact .inl o};{exact .inr ⟨b,cap,e,V,(s.old b B.lt).trans A,B.fr s.fr (by rw [A];exact Q)⟩}
theorem kQ.no {w w' o K k L} (h:kQ w o K k L) (r:aF w o) (f:Fr No w w'):kQ w' o K k L:=h.step (noS r f) id id
theorem kQ.kJ {w B K k L} (h:kQ w B K k L):∃v,w.heap[k]? =some (.cells #[.bool true,v] 187 (0,0))/\oH w v L:=by
 obtain ⟨E,v,r,o⟩:=h;refine ⟨v,r,?_⟩;rcases o with o|⟨b,cap,e,u,H,A⟩;{exact .inl o};{exact .inr ⟨b,cap,e,u,A⟩}
theorem oH.fr {w w' v L} (h:oH w v L) (f:Fr No w w'):oH w' v L:=by
 rcases h with h|⟨b,cap,e,o,r⟩;{exact .inl h};{exact .inr ⟨b,cap,e,o,r.fr f id⟩}
theorem Fz (k v w) (h:w.heap[k]? =some (.cells #[.bool true,v] 187 (0,0))):Calls prog 135 #[Y k] w λe w'=>e=.returned v/\w'=w:=by
 have c1:w.cell? (I k 1)=some v:=aA h _;clear h;go_enter func135,ntmps135;go_wp2;go_ret;exact ⟨rfl,rfl⟩
theorem J6 (o w g cs fr r) (Q:o.getD 6 undef=.pointer (some (I g 0))) (A:o.getD 7 undef=r) (H:w.heap[g]? =some (.cells cs 53 fr)) (E:cs.size=4):(results Tryz.f163 o).run prog w=.ok (.tuple #[.agg cs,r]) w:=by
 have J:=NJ (P:=prog) w g 53 53 cs fr _ H underlying53 rfl (by rw [Tryz.tC,E]);have u:o[6]?.getD undef=Y g:=by simpa using Q
 have B:o[7]?.getD undef=r:=by simpa using A
 simp [results,results163,asAddr,u,B,J]
def dF (L:List Tok) (c h:Int):Option Tok:=L.find? λx=>x.c==c&&x.h==h
def gY:Tok:=⟨0,0,0,false⟩
def rU (w:World) (x:Option Tok) (e:Ending) (w':World):Prop:=e=.returned (.tuple #[kJ (x.getD gY),x.isSome])/\Fr No w w'
theorem Du {α:Type} {p} {L:List α} {j x} (u:L[j]? =some x) (B:p x=true) (r:∀y∈L.take j,p y=false):L.find? p=some x:=by
 obtain ⟨A,rfl⟩:=AY.1 u;have o:L.find? p=(L.take j++L.drop j).find? p:=by rw [List.take_append_drop]
 rw [o,List.find?_append,EU.2 (λy E=>by rw [r y E];simp),DN A,List.find?_cons_of_pos B];rfl
theorem wQ {α:Type} {p:α->Bool} {L:List α} {j x} (u:L[j]? =some x) (A:p x=false) (r:∀y∈L.take j,p y=false):∀y∈L.take (j+1),p y=false:=λy o=>by
 rw [DJ,u] at o;rcases BM.1 o with h|h
 ·exact r y h
 ·simp at h;subst h;exact A
theorem Ew (k v L) (c h:Int) (w) (ak:w.heap[k]? =some (.cells #[.bool true,v] 187 (0,0))) (ar:oH w v L):
  Calls prog 163 #[.pointer (some (I k 0)),c,h] w (rU w (dF L c h)):=by
 have Q:Hid (∀x e w',L.find? (λx=>x.c==c&&x.h==h)=x->e=.returned (.tuple #[kJ (x.getD gY),x.isSome])->Fr No w w'->rU w (dF L c h) e w'):=lH (λx e w' av ap f=>by subst av;exact ⟨ap,f⟩);generalize rU w _=az at*;have ab:Fr No w (w.alloc (.cells #[Z 0,Z 0,Z 0,false] 53)):=(Fr.refl w).alloc _;have an:=aT w (.cells #[Z 0,Z 0,Z 0,false] 53);have ai:=lH (ab.aB ak id);have B:=lH an;have u:=lH ab;clear ak ab an;rcases ar with ⟨rfl,rfl⟩|⟨b,cap,rfl,al,af⟩;{go_enter func163,ntmps163;go_wp2_with fail;refine cr (Fz k _ _ ai.o) ?_;rintro be rfl;go_wp2_with fail;refine IZ 1 ?_;rw [GR];go_wp2_with fail;have aq:=B.o;exact AZ (J6 _ _ w _ (0,0) (.bool false) rfl rfl aq rfl) rfl (Q.o none _ _ rfl rfl u.o)};{have bd:cap<=9223372036854775807:=al;have bc:L.length<=cap:=af.len;have ao:=lH (af.fr u.o id);clear af al;go_enter func163,ntmps163;go_wp2_with fail;refine cq (Fz k _ _ ai.o) ?_;go_wp2_with fail;generalize au:w.alloc (.cells #[Z 0,Z 0,Z 0,false] 53)=w0 at*;clear au;go_loopw [13] (λi wr=>∃j:Nat,i=Z j/\j<=L.length/\Hid (∀y∈L.take j,(y.c==c&&y.h==h)=false)/\Hid (Fr No w0 wr)) (λi _=>L.length - (intOf i).toNat);(case atStart=>exact ⟨0,rfl,BA _,lH D,lH (Fr.refl _)⟩);(case round=>obtain ⟨j,rfl,bb,A,r⟩:=hrel;by_cases E:j<L.length;{(have ax:(j:Int)<(L.length:Int):=X);have V:=lH ((ao.o.fr r.o id).row j L[j] (AC E));have aa:Hid (L[j]? =some L[j]):=lH (AC E);have J:=lH (r.o.aB B.o id);generalize L[j]=x at*;have ad:Fr No w0 (wr.alloc (.cells (cT x) 53)):=r.o.alloc _;have H:=lH ad;have aj:=lH (ad.aB B.o id);clear ad;(cases ah:(x.c==c) with|false=>{have o:Hid (∀y∈L.take (j+1),(y.c==c&&y.h==h)=false):=lH (wQ (p:=λy=>y.c==c&&y.h==h) aa.o (by simp [ah]) A.o);go_wp2_with (refine EQ R 53 _ R b (j*4) R (cT x) _ V.o underlying53 rfl Tryz.tC ?_);go_roundw;{exact ⟨j+1,by go_num,E,o,H⟩};simp [intOf];omega}|true=>(cases am:(x.h==h) with|false=>{have o:=lH (wQ (p:=λy=>y.c==c&&y.h==h) aa.o (by simp [ah,am]) A.o);go_wp2_with (refine wL 53 (cs:=(cT x)) V.o ?_);go_roundw;{exact ⟨j+1,by go_num,E,o,H⟩};simp [intOf];omega}|true=>have o:=lH (Du (p:=λy=>y.c==c&&y.h==h) aa.o (by simp [ah,am]) A.o);have ay:=lH (show ((cT x):Array Value).all (·.oneCell')=true from by simp [Value.oneCell']);go_wp2_with (first|(refine wL 53 (cs:=(cT x)) V.o ?_)|(refine wS 53 (cs:=(cT x)) aj.o ?_));have ag:=aW (cs':=(cT x)) aj.o;have ae:Fr No w ((wr.alloc (.cells (cT x) 53)).setRow w (cT x)):=Fr.setRow (u.o.trans H.o zq) (.inr (AU _)) _;exact AZ (J6 _ _ w _ (0,0) (.bool true) rfl rfl ag rfl) rfl (Q.o (some x) _ _ o.o rfl ae)))};{(obtain rfl:j=L.length:=by omega);have ax:¬(L.length:Int)<(L.length:Int):=X;have o:Hid (L.find? (λx=>x.c==c&&x.h==h)=none):=lH (EU.2 (λy aw=>by rw [A.o y (by rw [AX];exact aw)];simp));have J:=lH (r.o.aB B.o id);go_wp2_with (refine wS 53 J.o ?_);have ag:=aW (cs':= #[Z 0,Z 0,Z 0,false]) J.o;have ae:Fr No w (wr.setRow w #[Z 0,Z 0,Z 0,false]):=Fr.setRow (u.o.trans r.o zq) (.inr (AU _)) _;exact AZ (J6 _ _ w _ (0,0) (.bool false) rfl rfl ag rfl) rfl (Q.o none _ _ o.o rfl ae)})}
def Nw (w:World) (b cap:Nat) (L:List Tok) (e:Ending) (w':World):Prop:=e=.returned (O b L.length cap)/\oQ w' b cap L/\Fr (· =b) w w'
theorem Qx (g af) (bp:∀args w,(callFunc g args).run prog w=.ok (.enter g args) w) (p b cap L w) (h:oQ w b cap L) (al:Pred g af p (· =b) w) (aj:cap<=maxLen):
  Calls prog 185 #[O b L.length cap,.func (.func g) #[] af] w (Nw w b cap (L.filter λx=> !p x)):=by
 have bi:=lH (V6 g af bp p b cap L w h (λW f=>al W f.bC) aj);have ap:=lH h;have bl:=lH al;have bv:=h.len;have cj:cap<=9223372036854775807:=aj;(have aq:Hid (∀M e w',M=L.filter (λx=> !p x)->e=.returned (O b M.length cap)->oQ w' b cap M->Fr (· =b) w w'->Nw w b cap (L.filter λx=> !p x) e w'):=λM e w' bt ai ay az=>by subst bt;exact ⟨ai,ay,az⟩);generalize Nw w b cap (L.filter λx=> !p x)=cc at*;clear h al aj;go_enter func185,ntmps185;go_wp2_with fail;refine bi.o.mono ?_;rintro e cx ⟨aa,⟨rfl,bd⟩|⟨B,cy,rfl,an,be,bc⟩⟩;{have o:Hid (L=L.filter (λx=> !p x)):=lH (LM.2 (λx am=>by rw [bd x am];rfl)).symm;clear bd;exact aC (aq.o L _ _ o rfl (ap.o.fr aa id) aa.bC)}
 ·have bu:B<L.length:=(AY.1 an).1;have ah:Hid (L.take B=(L.take (B+1)).filter (λx=> !p x)):=lH (by
   rw [DJ,an,DW,LM.2 (λx am=>by rw [bc x am];rfl)];simp [be])
  (have ct:((B:Int)== -1)=false:=by rw [CU];omega);clear an be bc;go_wp2_with fail;go_loopw [5,6] (λa c wr=>∃(i j:Nat) (M:List Tok),a=Z i/\c=Z j/\i<j/\j<=L.length/\Hid (M.length=L.length/\M.take i=(L.take j).filter (λx=> !p x)/\M.drop j=L.drop j)/\Hid (oQ wr b cap M)/\Hid (Fr (· =b) w wr)) (λ_ c _=>L.length - (intOf c).toNat);case atStart=>exact ⟨B,B+1,L,rfl,by go_num,by omega,bu,lH ⟨rfl,ah,rfl⟩,lH (ap.o.fr aa id),lH aa.bC⟩
  case round=>
   obtain ⟨i,j,M,rfl,rfl,cg,ci,o,r,V⟩:=hrel;by_cases ad:j<L.length
   ·obtain ⟨ak,ae,H⟩:=o.o;have bx:(j:Int)<(L.length:Int):=X;have cu:(0:Int)<=(j:Int):=X;have cv:(j:Int)<(cap:Int):=X;have bz:(0:Int)<=(i:Int):=X;have ca:(i:Int)<(L.length:Int):=X;have cb:(i:Int)<(cap:Int):=X;have bb:M[j]? =some L[j]:=by{have:=BD (λl=>l[0]?) H;simpa [HY,AC ad] using this}
    have ar:=r.o.row j L[j] bb;have av:Hid (L.take (j+1)=L.take j++ [L[j]]):=lH (by rw [DJ,AC ad];rfl);have ao:Hid (M.drop (j+1)=L.drop (j+1)):=lH (by
     have:=BD (List.drop 1) H;rwa [List.drop_drop,List.drop_drop] at this)
    have bm:Hid (∀W x,Fr No (wr.alloc (.cells #[.int .i64 L[j].c,.int .i64 L[j].h,.int .i64 L[j].i,.bool L[j].wr] 53)) W->Calls prog g (#[kJ x]++af) W λe w'=>e=.returned (.bool (p x))/\Fr No W w'):=λW x f=>bl.o W ((V.o.alloc _).trans f (λ_ _ e=>e.elim)) x;generalize L[j]=x at*;have au:=lH ar;have Q:=lH (bm.o _ x (Fr.refl _));have ax:Fr No wr (wr.alloc (.cells (cT x) 53)):=(Fr.refl wr).alloc _;have ce:=r.o.lt;have bj:Hid ((wr.alloc (.cells (cT x) 53)).heap[wr.heap.size]? =some (.cells (cT x) 53 (0,0))):=aT wr _;have E:=lH ax;clear ar bb ak ae H ax;(cases A:p x with|true=>{rw [A] at Q;have ag:=lH A;clear A;go_wp2_with (first|(refine wL 53 (cs:=(cT x)) au ?_)|(go_at_fn g;refine Q.o.mono ?_;rintro e w' ⟨rfl,u⟩));go_roundw;{refine ⟨i,j+1,M,rfl,by go_num,by omega,ad,lH ⟨o.o.1,?_,ao⟩,lH ((r.o.fr E id).fr u id),lH ((V.o.trans E.o.bC zq).trans u.bC zq)⟩;rw [av.o,DW,o.o.2.1];simp [ag.o]};simp [intOf];omega}|false=>{rw [A] at Q;have ag:=lH A;clear A;go_wp2_with (refine wL 53 (cs:=(cT x)) au ?_);refine cr Q.o λw' u=> ?_;have J:=u.aB bj id;have cm:w'.cell? (I wr 0)=some (Z x.c):=aA J _;have cn:w'.cell? (I wr 1)=some (Z x.h):=aA J _;have co:w'.cell? (I wr 2)=some (Z x.i):=aA J _;have cp:w'.cell? (I wr 3)=some (.bool x.wr):=aA J _;clear J;have ah:=lH (((r.o.fr E id).fr u id).there i 4 X);have bk:Hid (((cT x):Array Value).all (·.oneCell')=true):=lH (by simp [Value.oneCell']);go_wp2_with (refine KG R 53 (.tmp 33) (.tmp 32) R b (i*4) (cT x) ?a1 ?a2 ?a3 Tryz.tC ?a4 ?_);(case a1=>rfl);(case a2=>rfl);(case a3=>exact ah.o);(case a4=>exact bk.o);have bw:i<M.length:=(by have:=o.o.1;omega);have bg:=lH (bF.set (c:=cO) (λ_=>rfl) ((r.o.fr E id).fr u id) i bw x);have bh:=lH (((V.o.trans E.o.bC zq).trans u.bC zq).trans (lK b (cO x) (i*4) w') zq);go_roundw;{refine ⟨i+1,j+1,M.set i x,by go_num,by go_num,by omega,ad,lH ⟨by rw [EZ];exact o.o.1,?_,?_⟩,bg,bh⟩;{rw [av.o,DW,<-o.o.2.1,DJ,MK (by have:=o.o.1;omega),List.take_set_of_le (AU _)];simp [ag.o]};{rw [List.drop_set_of_lt X];exact ao.o}};simp [intOf];omega})
   {(obtain rfl:j=L.length:=by omega);obtain ⟨ak,ae,H⟩:=o.o;have aw:Hid (M.take i=L.filter (λx=> !p x)):=lH (by rw [ae,AX]);have bx:¬(L.length:Int)<(L.length:Int):=X;have bz:(0:Int)<=(i:Int):=X;have ca:(i:Int)<=(L.length:Int):=X;have cb:(i:Int)<=(cap:Int):=X;have cw:(L.length:Int)<=(cap:Int):=X;obtain ⟨bf,ck,cf⟩:=aC5 wr 0 b (i*4) (L.length - i) (cap - i) (r.o.there i _ X) X;clear ak ae H;go_wp2_with fail;refine aq.o (L.filter (λx=> !p x)) _ _ rfl ?_ ?_ (V.o.trans (lK b bf (i*4) wr) zq);{(have:(L.filter (λx=> !p x)).length=i:=by rw [<-aw.o,BZ];have:=o.o.1;omega);rw [this]};{obtain ⟨⟨bn,ai,ay⟩,az,bq⟩:=r.o;obtain ⟨bo,br,cd⟩:=Bg b bf (i*4) wr bn 53 (0,0) ai;refine ⟨⟨bo,br,by omega⟩,AV (IK _ _) bv,λj x ab=> ?_⟩;rw [<-aw.o,EL] at ab;split at ab;{rename_i ch;refine KE (bq j x ab) b _ _ (.inr (.inl ?_));have cl:(cO x).length=4:=rfl;omega};{cases ab}}}
theorem aAE (a b c o r u:Int) (d A:Bool) (w):(binOp .eql 53 (.agg #[a,b,c,d]) (.agg #[o,r,u,A])).run prog w=.ok (.bool (a==o&&b==r&&c==u&&d==A)) w:=by
 have V:=underlying3;have a3:=isAgg3;have ab:=sizeOf3;have aa:=underlying4;have a4:=isAgg4;have ad:=sizeOf4;have J:prog.underlying 53=some (.struct (prog.fieldsOf 53)):=N
 have Q:prog.stoodInHeld 53=false:=N
 rw [run_eql_struct,show (10000:Nat)=9999+1 from rfl,run_equalIn_agg w 9999 53 _ _ J Q];simp only [Program.fieldsOf,underlying53];go_simp;by_cases B:a=o<;>by_cases E:b=r<;>by_cases H:c=u<;>cases d<;>cases A<;>simp [B,E,H]
theorem aDW (p i S w) (h:w.heap[p]? =some (.cells #[i] 3 (0,0))) (r:¬S p):Pred 231 #[Y p] (λx=>x.i==i) S w:=λW f x=>by
 have o:Fr No W (W.alloc (.cells (cT x) 53)):=(Fr.refl W).alloc _;have B:(W.alloc (.cells (cT x) 53)).cell? (I p 0)=some (Z i):=aA (o.aB (f.aB h r) id) _;show Calls prog 231 #[.agg (cT x),Y p] W λe w'=>e=.returned (.bool (x.i==i))/\Fr No W w'
 obtain ⟨u,A⟩:∃u,(x.i==i)=u:=⟨_,rfl⟩
 rw [A];clear f h r o;go_enter func231,ntmps231
 go_wp2
 go_ret
 exact ⟨rfl,(Fr.refl W).alloc _⟩
theorem aEs (p i S w) (h:w.heap[p]? =some (.cells #[i] 3 (0,0))) (r:¬S p):Pred 186 #[Y p] (λx=>x.c==i) S w:=λW f x=>by
 have o:Fr No W (W.alloc (.cells (cT x) 53)):=(Fr.refl W).alloc _;have B:(W.alloc (.cells (cT x) 53)).cell? (I p 0)=some (Z i):=aA (o.aB (f.aB h r) id) _;show Calls prog 186 #[.agg (cT x),Y p] W λe w'=>e=.returned (.bool (x.c==i))/\Fr No W w'
 obtain ⟨u,A⟩:∃u,(x.c==i)=u:=⟨_,rfl⟩
 rw [A];clear f h r o;go_enter func186,ntmps186
 go_wp2
 go_ret
 exact ⟨rfl,(Fr.refl W).alloc _⟩
theorem aFh (p y S w) (h:w.heap[p]? =some (.cells (cT y) 53 (0,0))) (u:¬S p):Pred 236 #[Y p] (λx=>decide (x=y)) S w:=λW f x=>by
 have r:Fr No W (W.alloc (.cells (cT x) 53)):=(Fr.refl W).alloc _;have o:=r.aB (f.aB h u) id;have ab:(W.alloc (.cells (cT x) 53)).cell? (I p 0)=some (Z y.c):=aA o _;have c1:(W.alloc (.cells (cT x) 53)).cell? (I p 1)=some (Z y.h):=aA o _;have c2:(W.alloc (.cells (cT x) 53)).cell? (I p 2)=some (Z y.i):=aA o _;have c3:(W.alloc (.cells (cT x) 53)).cell? (I p 3)=some (.bool y.wr):=aA o _;have ad:=aAE x.c x.h x.i y.c y.h y.i x.wr y.wr;have hd:Hid (decide (x=y)=(x.c==y.c&&x.h==y.h&&x.i==y.i&&x.wr==y.wr)):=lH (by
  obtain ⟨a,b,c,d⟩:=x;obtain ⟨A,B,E,H⟩:=y;simp only [Tok.mk.injEq];by_cases J:a=A<;>by_cases Q:b=B<;>by_cases V:c=E<;>by_cases aa:d=H<;>simp [J,Q,V,aa])
 show Calls prog 236 #[.agg (cT x),Y p] W λe w'=>e=.returned (.bool (decide (x=y)))/\Fr No W w'
 rw [hd.o];generalize (x.c==y.c&&x.h==y.h&&x.i==y.i&&x.wr==y.wr)=ae at*;clear f h u o r;go_enter func236,ntmps236
 go_wp2
 go_ret
 exact ⟨rfl,(Fr.refl W).alloc _⟩
theorem aBg (args w):(callFunc 231 args).run prog w=.ok (.enter 231 args) w:=enters_of func231 N rfl args w
theorem aF8 (args w):(callFunc 186 args).run prog w=.ok (.enter 186 args) w:=enters_of func186 N rfl args w
theorem aET (args w):(callFunc 236 args).run prog w=.ok (.enter 236 args) w:=enters_of func236 N rfl args w
theorem aFg (k v L) (i:Int) (w) (r:w.heap[k]? =some (.cells #[true,v] 187 (0,0))) (u:oH w v L):
  Calls prog 158 #[Y k,i] w λe w'=>e=.returned (.bool (L.any λx=>x.i==i))/\Fr No w w':=by
 have J:∀(fn:Fn) (first cap:Array Value) (w:World),(Instr.makeFunc fn first cap).run prog w=.ok (.func fn first cap) w:=λ_ _ _ _=>rfl;have o:Fr No w (w.alloc (.cells #[i] 3)):=(Fr.refl w).alloc _;have B:=lH (aDh 231 _ aBg (λx=>x.i==i) v L _ (u.fr o) (aDW w i No _ (aT w _) id));have E:=lH (Fz k v _ (o.aB r id));have A:=lH o;generalize (L.any λx=>x.i==i)=Q at*;clear r u o;go_enter func158,ntmps158;go_wp2_with fail;refine cq E.o ?_;go_wp2_with fail;refine cr B.o λV H=> ?_;go_wp2_with fail;go_ret;exact ⟨rfl,A.o.trans H zq⟩
def iE (K c:Nat):Prop:=c=K+5\/c=K+9
def oO (w:World) (o:Nat->Nat) (K k:Nat) (L:List Tok) (w':World):Prop:=∃o',Step (iE K) w o w' o'/\kQ w' o' K k L
theorem kQ.put {w r u o K k b cap M v} (h:o k=K+5) (Q:w.heap[k]? =some (.cells #[true,v] 187 (0,0))) (H:aF w o) (A:o b=K+9) (f:Fr (· =b) w r) (aa:oQ r b cap M) (V:cap<=maxLen) (e:u=r.setCell (I k 1) (O b M.length cap)):oO w o K k M u:=by
 have E:k≠b:=by intro e;rw [e,A] at h;omega
 have ab:=f.aB Q E;have B:=e▸dZ r k 1 _;have F:Fr (λj=>j=b\/j=k) w u:=(f.mono (λ_ _ e=> .inl e)).trans B (λ_ _ e=> .inr e);have s:Step (iE K) w o u o:=⟨F.mono (λj _ e=>by
  rcases e with rfl|rfl;{exact .inr A}
  ·exact .inl h),λ_ _=>rfl,λj J=>H j (AV F.size J)⟩
 refine ⟨o,s,h,_,e▸setCell_at ab 1 _,.inr ⟨b,cap,rfl,V,A,aa.fr B (λe=>E e.symm)⟩⟩
def Ef (w:World) (o:Nat->Nat) (K k:Nat) (M:List Tok) (e:Ending) (w':World):Prop:=(∃n,e=.returned (Z n))/\oO w o K k M w'
theorem oO.later {w r w' o K k M} (u:aF w o) (f:Fr No w r) (h:oO r o K k M w'):oO w o K k M w':=by
 obtain ⟨A,s,t⟩:=h;exact ⟨A,(Step.no u f).trans s (λ_ e=>e),t⟩
theorem aFb (r K k L) (c:Int) (w) (h:kQ w r K k L) (aa:aF w r):
  Calls prog 131 #[Y k,c] w (Ef w r K k (L.filter λx=> !(x.c==c))):=by
 have bd:∀(fn:Fn) (first cap:Array Value) (w:World),(Instr.makeFunc fn first cap).run prog w=.ok (.func fn first cap) w:=λ_ _ _ _=>rfl;have o:Fr No w (w.alloc (.cells #[c] 3)):=(Fr.refl w).alloc _;have am:=lH (h.no aa o);have af:Hid (aF (w.alloc (.cells #[c] 3)) r):=lH (noS aa o).fresh;obtain ⟨u,v,B,ae⟩:=h;have ai:=lH (Fz k v _ (o.aB B id));have H:=o.aB B id;have c1:(w.alloc (.cells #[c] 3)).cell? (I k 1)=some v:=aA H _;have ah:Hid (∀e w',(∃n,e=.returned (Z n))->oO (w.alloc (.cells #[c] 3)) r K k (L.filter λx=> !(x.c==c)) w'->Ef w r K k (L.filter λx=> !(x.c==c)) e w'):=λe w' V g=>⟨V,g.later aa o⟩;generalize Ef w r K k (L.filter λx=> !(x.c==c))=av at*;have an:=lH u;have ag:=lH H;by_cases A:L= [];{subst A;(have au:Hid (∀e w',e=.returned (Z 0)->w'=w.alloc (.cells #[c] 3)->av e w'):=λe w' V az=>by subst az;exact ah.o e _ ⟨0,V⟩ ⟨r,Step.refl af,am⟩);(have ax:∃a cap,v=.slice a 0 cap:=by{rcases ae with ⟨rfl,_⟩|⟨b,cap,rfl,_⟩;{exact ⟨_,_,rfl⟩};{exact ⟨_,_,rfl⟩}});obtain ⟨a,cap,rfl⟩:=ax;clear u B ae H o;go_enter func131,ntmps131;go_wp2_with fail;refine cr ai.o ?_;rintro bg rfl;exact aC (au.o _ _ rfl rfl)};{rcases ae with ⟨_,rfl⟩|⟨b,cap,rfl,ab,Q,ad⟩;{exact absurd rfl A};{have be:=JG.2 A;have bf:((L.length:Int)==0)=false:=(by rw [CU];omega);have bc:=ad.lt;have ap:=lH (Qx 186 _ aF8 (λx=>x.c==c) b cap L _ (ad.fr o id) (aEs w c (· =b) _ (aT w _) X) ab);have ao:=lH Q;have aq:=lH ab;have ay:k≠b:=(by intro e;rw [e,Q] at u;omega);generalize aw:(L.filter λx=> !(x.c==c))=M at*;clear u B H o ad Q ab A aw;go_enter func131,ntmps131;go_wp2_with fail;refine cq ai.o ?_;go_wp2_with fail;refine cr ap.o ?_;rintro ak ⟨aj,J⟩;have ar:=lH aj;have al:=lH J;have E:=J.aB ag ay;have d1:ak.cell? (I k 1)=some (O b L.length cap):=aA E _;have d2:=aU E 1;have bb:(ak.setCell (I k 1) (O b M.length cap)).cell? (I k 1)=some (O b M.length cap):=aA (setCell_at E 1 _) _;clear aj J E;exact aC (ah.o _ _ ⟨_,rfl⟩ (kQ.put an ag af ao al ar aq rfl))}}
def zL (w:World) (o:Nat->Nat) (K k:Nat) (L:List Tok) (x:Option Tok) (e:Ending) (w':World):Prop:=match x with
 | none=>e=.returned (Z 13)/\Fr No w w'
 | some r=>e=.returned (Z 0)/\oO w o K k (L.filter λx=> !decide (x=r)) w'
theorem close_ (r K k L) (c h:Int) (w) (bb:kQ w r K k L) (ad:aF w r):
  Calls prog 164 #[Y k,c,h] w (zL w r K k L (dF L c h)):=by
 have bg:∀(fn:Fn) (first cap:Array Value) (w:World),(Instr.makeFunc fn first cap).run prog w=.ok (.func fn first cap) w:=λ_ _ _ _=>rfl;obtain ⟨J,v,B,ah⟩:=bb;have am:=lH (Ew k v L c h w B (by
  rcases ah with ay|⟨b,cap,e,V,Q,u⟩;{exact .inl ay}
  ·exact .inr ⟨b,cap,e,V,u⟩))
 have be:w.cell? (I k 0)=some (.bool true):=aA B _;have ag:∀o,dF L c h=some o->o∈L:=λo u=>DF u;generalize dF L c h=x at*;have au:=lH B;have aj:=lH ad;(cases x with|none=>{have aa:Hid (∀e w',e=.returned (Z 13)->Fr No w w'->zL w r K k L none e w'):=λe w' a b=>⟨a,b⟩;generalize zL w r K k L none=ax at*;clear J B ah ad ag;go_enter func164,ntmps164;go_wp2_with fail;refine cr am.o λE A=> ?_;unfold gY kJ;dsimp only [Option.getD,Option.isSome];exact aC (aa.o _ _ rfl (A.alloc _))}|some o=>{rcases ah with ⟨_,rfl⟩|⟨b,cap,rfl,V,Q,u⟩;{exact absurd (ag o rfl) D};{have aa:Hid (∀e w',e=.returned (Z 0)->oO w r K k (L.filter λx=> !decide (x=o)) w'->zL w r K k L (some o) e w'):=λe w' a b=>⟨a,b⟩;generalize zL w r K k L _=ax at*;have av:=lH u;have aq:=lH Q;have al:=lH V;have ap:=lH J;have bc:k≠b:=(by intro e;rw [e,Q] at J;omega);have bf:=u.lt;clear J B ad ag V Q u;go_enter func164,ntmps164;go_wp2_with fail;refine cr am.o λE A=> ?_;unfold kJ;dsimp only [Option.getD,Option.isSome];have H:Fr No w (E.alloc (.cells (cT o) 53)):=A.alloc _;have ae:=H.aB au id;have c1:(E.alloc (.cells (cT o) 53)).cell? (I k 1)=some (O b L.length cap):=aA ae _;have bh:=A.size;have ar:=lH (Qx 236 _ aET (λx=>decide (x=o)) b cap L _ (av.o.fr H id) (aFh E o (· =b) _ (aT E _) X) al);have ai:=lH H;have ak:=lH ae;generalize az:(L.filter λx=> !decide (x=o))=M at*;clear A H ae az;go_wp2_with fail;refine cr ar.o ?_;rintro bd ⟨an,ab⟩;have aw:=lH an;have ao:=lH ab;have af:=ab.aB ak bc;have d2:=aU af 1;have d1:bd.cell? (I k 1)=some (O b L.length cap):=aA af _;clear an ab af;exact aC (aa.o _ _ rfl (oO.later aj ai (kQ.put ap ak (noS aj ai).fresh aq ao aw al rfl)))}})
