/- Part of a proof. -/
import Derived.Test.YtedcppikakinoaaGreatX03
import Derived.Test.YtedcppikakinoaaGreatX04
import Derived.Test.YtedcppikakinoaaGreatX05
import Derived.Test.YtedcppikakinoaaGreatX06
import Derived.Test.YtedcppikakinoaaGreatX08
import Derived.Test.YtedcppikakinoaaGreatX09
import Derived.Deep.AppendSrc
import Derived.Deep.CutBlock
import Derived.Deep.DeepCutAuto
import Derived.Laws.IdiomCopy
import Derived.Laws.StructEq
import Derived.Lib.AppendZerosOnto
import Derived.Lib.SliceRun
import Derived.Shelf.SlicesE.Kit
import Derived.Shelf.Spec.SlicesInsertGrow
set_option linter.unusedSimpArgs false
set_option linter.unusedVariables false
set_option maxRecDepth 100000
set_option maxHeartbeats 12800000
namespace Go.Proofs.YtedcppikakinoaaGreat
open Go.Proofs.Tryz Go.RowKit
def aF (w:World) (o:Nat->Nat):Prop:=∀k,w.heap.size<=k->o k=0
structure Step (C:Nat->Prop) (w:World) (o:Nat->Nat) (w':World) (o':Nat->Nat):Prop where
 fr:Fr (λk=>C (o k)) w w'
 old:∀k,k<w.heap.size->o' k=o k
 fresh:aF w' o'
theorem Step.refl {C w o} (h:aF w o):Step C w o w o:=⟨Fr.refl w,λ_ _=>rfl,h⟩
theorem Step.no {C w w' o} (h:aF w o) (f:Fr No w w'):Step C w o w' o:=
 ⟨f.aY,λ_ _=>rfl,λk r=>h k (AV f.size r)⟩
theorem Step.trans {C D w B E r u A} (h:Step C w r B u) (g:Step D B u E A) (H:∀c,D c->C c):Step C w r E A:=
 ⟨h.fr.trans g.fr (λj J e=>by rw [h.old j J] at e;exact H _ e),λk o=>(g.old k (AP o h.fr.size)).trans (h.old k o),g.fresh⟩
theorem Step.mono {C D w w' o r} (h:Step C w o w' r) (u:∀c,C c->D c):Step D w o w' r:=⟨h.fr.mono (λ_ _ e=>u _ e),h.old,h.fresh⟩
theorem Step.block {C w w' o A} (s:Step C w o w' A) {k x} (u:w.heap[k]? =some x) (r:¬C (o k)):w'.heap[k]? =some x:=s.fr.aB u r
theorem Step.own {C w w' o r} (s:Step C w o w' r) {k x} (u:w.heap[k]? =some x):r k=o k:=s.old k (lt_of_block u)
theorem Step.sl {C w w' o r} (s:Step C w o w' r) {v bs b off c} (h:fB w v bs b off c) (u:¬C (o b)):fB w' v bs b off c/\r b=o b:=
 ⟨⟨h.1,h.2.1,AP h.2.2.1 s.fr.size,λj x A=>s.fr.cell_of (h.2.2.2 j x A) u⟩,s.old b h.2.2.1⟩
def fV (o:Nat->Nat) (b c:Nat):Nat->Nat:=λk=>if k=b then c else o k
theorem lY (o b c):fV o b c b=c:=by simp [fV]
theorem dR (o) {b k} (c) (h:k≠b):fV o b c k=o k:=by simp [fV,h]
abbrev wV:=Int×Int×List UInt8
def rowAt (w:World) (o:Nat->Nat) (c:Nat) (i:Nat) (p:Value):Option wV->Prop
 | none=>p=.pointer none
 | some (life,seq,bs)=>∃r v b cc,p=Y r/\o r=c/\w.heap[r]? =some (.cells #[i,life,seq,v] 146 (0,0))/\fB w v bs b 0 cc/\o b=c
def lW (w:World) (o:Nat->Nat) (c win:Nat) (W:Nat->Option wV):Prop:=
 o win=c/\∃p:Nat->Value,w.heap[win]? =some (.cells #[p 0,p 1,p 2,p 3,true] 184 (0,0))/\∀i,i<4->rowAt w o (c+1) i (p i) (W i)
theorem rowAt.step {C w w' B E c i p x} (h:rowAt w B c i p x) (s:Step C w B w' E) (A:¬C c):rowAt w' E c i p x:=by
 rcases x with _|⟨ab,ad,bs⟩;{exact h};{obtain ⟨Q,v,b,H,e,o,r,J,u⟩:=h;obtain ⟨V,aa⟩:=s.sl J (by rw [u];exact A);exact ⟨Q,v,b,H,e,(s.own r).trans o,s.block r (by rw [o];exact A),V,aa.trans u⟩}
theorem lW.step {C w w' u A c win W} (h:lW w u c win W) (s:Step C w u w' A) (E:¬C c) (hd:¬C (c+1)):lW w' A c win W:=by
 obtain ⟨o,p,r,B⟩:=h;exact ⟨(s.own r).trans o,p,s.block r (by rw [o];exact E),λi H=>(B i H).step s hd⟩
theorem lW.no {w w' o c win W} (h:lW w o c win W) (r:aF w o) (f:Fr No w w'):lW w' o c win W:=h.step (Step.no (C:=λ_=>False) r f) id id
theorem Y4 (win i:Nat) (r:i<4) (p:Nat->Value) (w) (o:w.heap[win]? =some (.cells #[p 0,p 1,p 2,p 3,true] 184 (0,0))):Calls prog 119 #[Y win,i] w λe w'=>e=.returned (p i)/\w'=w:=by
 (have u:w.cell? (I win i)=some (p i):=by{rw [aA o];(match i,r with|0,_=>rfl|1,_=>rfl|2,_=>rfl|3,_=>rfl)});(have A:(0:Int)<=(i:Int):=X);(have B:(i:Int)<4:=X);(have E:¬(i:Int)<0:=X);(have H:¬(4:Int)<=(i:Int):=X);clear o;go_enter func119,ntmps119;go_wp2;go_ret;exact ⟨rfl,rfl⟩
def dI (W:Nat->Option wV) (c l s:Int):Int×Option (List UInt8):=
 if 0<=c/\c<4/\0<=l/\l<=1048576/\1<=s/\s<=1073741824 then
  match W c.toNat with
  | none=>(3,none)
  | some (life,seq,bs)=>(kindOf l s life seq,if kindOf l s life seq=1 then some bs else none)
 else (2,none)
def N9 (w:World) (x:Int×Option (List UInt8)) (e:Ending) (w':World):Prop:=
 Fr No w w'/\match x.2 with
  | none=>e=.returned (.tuple #[x.1,nS])
  | some bs=>∃v b c,e=.returned (.tuple #[x.1,v])/\fB w' v bs b 0 c/\w.heap.size<=b
theorem Nb (bk be win W) (c l s:Int) (w) (h:lW w bk be win W) (am:∀i r u bs,W i=some (r,u,bs)->bs.length<=1000000):
  Calls prog 66 #[Y win,.agg #[c,l,s]] w (N9 w (dI W c l s)):=by
 obtain ⟨_,p,ai,an⟩:=h;have ag:Fr No w (w.alloc (.cells #[c,l,s] 32)):=(Fr.refl w).alloc _;(have c4:(w.alloc (.cells #[c,l,s] 32)).cell? (I win 4)=some (.bool true):=by rw [aA (ag.aB ai id)];rfl);have V:=aQ w (.cells #[c,l,s] 32);by_cases E:kV c l s
 ·have o:dI W c l s=match W c.toNat with
   | none=>(3,none)
   | some (r,u,bs)=>(kindOf l s r u,if kindOf l s r u=1 then some bs else none):=AL E
  generalize dI W c l s=bt at*;obtain ⟨i,rfl⟩:∃i:Nat,c=i:=⟨c.toNat,by have:=E.1;omega⟩;(have ak:i<4:=by have:=E.2.1;omega);rw [show ((i:Int)).toNat=i by omega] at o;have aa:=an i ak;have ae:=lH E;have aq:=lH ai;clear an E ai;rcases ab:W i with _|⟨r,u,bs⟩;{rw [ab] at aa o;have aj:=lH aa;have ad:=lH o;clear aa ab o;go_enter func66,ntmps66;go_wp2_with fail;refine cr (Vb _ _ _ ae _) λB A=> ?_;have J:=ag.trans A zq;have ax:B.cell? (I w 0)=some (Z i):=(by rw [aA (A.aB V id)];rfl);clear V;go_wp2_with fail;refine cr (Y4 win i ak p _ (J.aB aq id)) ?_;rintro ay rfl;rw [aj.o];go_wp2_with fail;exact AZ (v:=.tuple #[Z 3,nS]) (by simp [results,results66,go_sem]) rfl (by rw [ad.o];exact ⟨J,rfl⟩)}
  ·rw [ab] at aa o;dsimp only at o;have ad:=lH o;obtain ⟨H,v,b,bd,av,_,au,aw,_⟩:=aa;have bi:=am i r u bs ab;have aj:=lH av;have ap:=lH au;have af:=lH aw;clear av au aw ab am o;go_enter func66,ntmps66;go_wp2_with fail;refine cr (Vb _ _ _ ae _) λB A=> ?_;have ax:B.cell? (I w 0)=some (Z i):=(by rw [aA (A.aB V id)];rfl);have bl:B.cell? (I w 1)=some (Z l):=(by rw [aA (A.aB V id)];rfl);have bm:B.cell? (I w 2)=some (Z s):=(by rw [aA (A.aB V id)];rfl);have J:=ag.trans A zq;have ah:=J.aB ap id;have bn:B.cell? (I H 0)=some (Z i):=(by rw [aA ah];rfl);have bo:B.cell? (I H 1)=some (Z r):=(by rw [aA ah];rfl);have bp:B.cell? (I H 2)=some (Z u):=(by rw [aA ah];rfl)
   clear V ah;go_wp2_with fail;refine cr (Y4 win i ak p _ (J.aB aq id)) ?_;rintro ay rfl;rw [aj.o];have az:=lH (aDp i l s r u ay.drew);generalize kindOf l s r u=ao at*;go_wp2_with fail;go_region_held3 (λw'=>w'.cell? (I w 0)=some (Z i)/\w'.cell? (I w 1)=some (Z l)/\w'.cell? (I w 2)=some (Z s)/\w'.cell? (I H 0)=some (Z i)/\w'.cell? (I H 1)=some (Z r)/\w'.cell? (I H 2)=some (Z u)) (first|go_keep|(go_split_ands;refine ⟨?_,?_,?_,?_,?_,?_⟩<;>exact ar.cell_of (by assumption) id))
    ((go_at_call 120;refine az.o.mono ?_;rintro e br ⟨rfl,ar⟩))
   have Q:=J.drew.trans ar zq;have bu:br.cell? (I H 3)=some v:=(by rw [aA (Q.aB ap.o id)];rfl);clear ax bl bm bn bo bp;by_cases al:ao=1;{subst al;go_wp2_with fail;refine (Bf v bs b 0 bd _ ⟨af.o.1,af.o.2.1,AP af.o.2.2.1 Q.size,λj x bh=>Q.cell_of (af.o.2.2.2 j x bh) id⟩ bi).mono ?_;rintro e bw ⟨bq,bb,bc,rfl,bj,bg,bf⟩;go_wp2_with fail;go_ret2;rw [ad.o];exact ⟨Q.trans bf zq,bq,bb,bc,rfl,bj,AV Q.size bg⟩};{(have bv:(ao==1)=false:=by simpa using al);go_wp2_with fail;exact AZ (v:=.tuple #[ao,nS]) (by simp [results,results66,go_sem]) rfl (by rw [ad.o,AA al];exact ⟨Q,rfl⟩)}
 {have o:dI W c l s=(2,none):=AA E;rw [o];have ae:=lH E;clear E o an ai am;go_enter func66,ntmps66;go_wp2_with fail;refine cr (aEr _ _ _ ae _) λB A=> ?_;refine aC ?_;exact AZ (v:=.tuple _) (by simp [results,results66,go_sem]) rfl ⟨ag.trans A zq,rfl⟩}
def upd {α:Type} (W:Nat->α) (i:Nat) (x:α):Nat->α:=λk=>if k=i then x else W k
theorem upd_same {α:Type} (W i) (x:α):upd W i x i=x:=by simp [upd]
theorem bZ {α:Type} (W) {i k} (x:α) (h:k≠i):upd W i x k=W k:=by simp [upd,h]
theorem aC5 {α:Type} (p a i) (o:i<4) (z):(#[p 0,p 1,p 2,p 3,a]:Array α).setIfInBounds i z= #[upd p i z 0,upd p i z 1,upd p i z 2,upd p i z 3,a]:=by
 (match i,o with|0,_=>simp [upd]|1,_=>simp [upd]|2,_=>simp [upd]|3,_=>simp [upd])
theorem lW.place {w A o win W} (h:lW w A o win W) (i) (u:i<4):∃z,w.cell? (I win i)=some z:=by
 obtain ⟨_,p,r,_⟩:=h;rw [aA r];(match i,u with|0,_=>exact ⟨_,rfl⟩|1,_=>exact ⟨_,rfl⟩|2,_=>exact ⟨_,rfl⟩|3,_=>exact ⟨_,rfl⟩)
theorem lW.frozen {w u o win W} (h:lW w u o win W) (i):w.frozen? (I win i)=false:=by
 obtain ⟨_,p,r,_⟩:=h;exact aU r i
theorem lW.set {w E J u o win W} (h:lW w u o win W) (ah:aF w u) (ab:Fr No w E) (i:Nat) (ai:i<4) {l s:Int} {bs r b aa v} (aq:w.heap.size<=r) (ap:w.heap.size<=b) (al:r≠b) (af:E.heap[r]? =some (.cells #[i,l,s,v] 146 (0,0))) (B:fB E v bs b 0 aa) (e:J=E.setCell (I win i) (Y r)):
  Step (· =o) w u J (fV (fV u r (o+1)) b (o+1))/\lW J (fV (fV u r (o+1)) b (o+1)) o win (upd W i (some (l,s,bs))):=by
 obtain ⟨ad,p,ae,ag⟩:=h;have ak:=lt_of_block ae;have A:=e▸dZ E win i _;have F:=ab.aY.trans A zq;(have V:Step (· =o) w u J (fV (fV u r (o+1)) b (o+1)):=by{refine ⟨F.mono (λk _ e=>by rw [e];exact ad),λk H=> ?_,λk H=> ?_⟩;{rw [dR _ _ X,dR _ _ X]};{have am:=lt_of_block af;have an:=B.2.2.1;have ao:=A.size;rw [dR _ _ X,dR _ _ X];exact ah k (AV F.size H)}});refine ⟨V,(V.old win ak).trans ad,upd p i (Y r),?_,λk H=> ?_⟩;{rw [e,<-aC5 _ _ i ai];exact setCell_at (ab.aB ae id) i _};{by_cases Q:k=i;{subst Q;rw [upd_same,upd_same];refine ⟨r,v,b,aa,rfl,by rw [dR _ _ al,lY],?_,⟨B.1,B.2.1,AP B.2.2.1 A.size,λj x aj=>A.cell_of (B.2.2.2 j x aj) (by dsimp only;omega)⟩,lY _ _ _⟩;exact A.aB af X};{rw [bZ _ _ Q,bZ _ _ Q];exact (ag k H).step V X}}
structure Tok where
 c:Int
 h:Int
 i:Int
 wr:Bool
deriving DecidableEq,Inhabited
inductive QcT|m (x:Tok)
abbrev cT:=QcT.m
instance (x:Tok):CoeDep QcT (.m x) (Array Value):=⟨#[.int .i64 x.c,.int .i64 x.h,.int .i64 x.i,.bool x.wr]⟩
instance (x:Tok):CoeDep QcT (.m x) (List Value):=⟨[.int .i64 x.c,.int .i64 x.h,.int .i64 x.i,.bool x.wr]⟩
def cZ (x:Tok):List Value:= [Z x.c,Z x.h,Z x.i,.bool x.wr]
def kK (x:Tok):Value:=.agg #[Z x.c,Z x.h,Z x.i,.bool x.wr]
structure bC {α:Type} (c:α->List Value) (n:Nat) (t:TypeId) (w:World) (b cap:Nat) (L:List α):Prop where
 blk:∃cur,w.heap[b]? =some (.cells cur t (0,0))/\cap*n<=cur.size
 len:L.length<=cap
 row:∀(j:Nat) x,L[j]? =some x->w.rangeAt b (j*n) (c x)
abbrev oG:=bC cZ 4 53
def nK (w:World) (v:Value) (L:List Tok):Prop:=(v=.slice none 0 0/\L= [])\/∃b cap,v=.slice (some (I b 0)) L.length cap/\cap<=maxLen/\oG w b cap L
section
variable {α:Type} {c:α->List Value} {n:Nat} {t:TypeId}
theorem bC.fr {S w w' b cap L} (h:bC c n t w b cap L) (f:Fr S w w') (o:¬S b):bC c n t w' b cap L:=by
 obtain ⟨⟨r,u,A⟩,B,E⟩:=h;exact ⟨⟨r,f.aB u o,A⟩,B,λj x H i Q J=>f.cell_of (E j x H i Q J) o⟩
theorem bC.lt {w b cap L} (h:bC c n t w b cap L):b<w.heap.size:=by
 obtain ⟨⟨r,o,u⟩,A,B⟩:=h;exact lt_of_block o
end
theorem Tryz.tN:(prog.info? 53).map (·.size)=some 4:=by kernel_rfl
theorem lL (b:Nat):∀(u:List Value) (o:Nat) (w:World),Fr (· =b) w (w.setCells b o u)
 | [],_,w=>Fr.refl w
 | v::r,o,w=>(dZ w b o v).trans (lL b r (o+1) _) zq
theorem Ad (b:Nat):∀(J:List Value) (B:Nat) (w:World) (o:Array Value) (t:TypeId) (u:Nat×Nat),w.heap[b]? =some (.cells o t u)->∃A,(w.setCells b B J).heap[b]? =some (.cells A t u)/\A.size=o.size
 | [],_,w,o,t,u,h=>⟨o,h,rfl⟩
 | v::r,B,w,o,t,u,h=>by
  obtain ⟨A,E,H⟩:=Ad b r (B+1) _ _ t u (setCell_at h B v);exact ⟨A,E,by rw [H];simp⟩
section
variable {α:Type} {c:α->List Value} {n:Nat} {t:TypeId}
theorem bC.there {w b cap L} (h:bC c n t w b cap L) (j m) (H:j*n+m<=cap*n):w.there b (j*n) m:=λi E=>by
 obtain ⟨⟨r,o,u⟩,A,B⟩:=h;refine ⟨?_,aU o _⟩;rw [aA o,FQ X];rfl
theorem bC.set {w b cap L} (r:∀x,(c x).length=n) (h:bC c n t w b cap L) (j) (Q:j<L.length) (x):bC c n t (w.setCells b (j*n) (c x)) b cap (L.set j x):=by
 have ae:=h.len;have ah:(j+1)*n<=cap*n:=DI n X;have ag:(j+1)*n=j*n+n:=JE j n;have aa:=h.there j n X;obtain ⟨⟨u,B,ab⟩,E,H⟩:=h;obtain ⟨A,J,ad⟩:=Ad b (c x) (j*n) w u t (0,0) B;refine ⟨⟨A,J,by omega⟩,by rw [EZ];exact E,λi y o=> ?_⟩;by_cases e:i=j;{subst e;rw [MN Q] at o;cases o;exact World.rangeAt_setCells_same w b (i*n) (c x) (by rw [r];exact aa)};{rw [List.getElem?_set_ne (EM e)] at o;refine KF (H i y o) b _ _ (.inr ?_);rw [r,r];rcases BJ i j with V|af;{exact .inl (by have:(i+1)*n<=j*n:=DI n V;rw [JE] at this;exact this)};{exact .inr (by have:(j+1)*n<=i*n:=DI n X;rw [JE] at this;exact this)}}
end
theorem aAB (w J b o n c) (u:w.there b o (n*4)) (Q:0<n):∃E:List Value,E.length=n*4/\(Builtin.clear_ #[50] J #[.slice (some (I b o)) n c]).run prog w=.ok (.tuple #[]) (w.setCells b o E):=by
 have H:∀w,(zeroValue 53).run prog w=.ok (kK ⟨0,0,0,false⟩) w:=λw=>by kernel_rfl
 refine ⟨(Builtin.zeroCells (kK ⟨0,0,0,false⟩).cells n).toList,by simp [Builtin.zeroCells,kK,Value.cells],?_⟩;have A:=run_storeCells_cells (P:=prog) b o (Builtin.zeroCells (kK ⟨0,0,0,false⟩).cells n).toList 0 w (λj r=>(u j (by simpa [Builtin.zeroCells,kK,Value.cells] using r)).1) (λj r=>(u j (by simpa [Builtin.zeroCells,kK,Value.cells] using r)).2) (by
  intro v B;simp only [Builtin.zeroCells,kK,Value.cells,Array.toList_map,IC] at B;obtain ⟨i,_,rfl⟩:=B;have:i % 4=0\/i % 4=1\/i % 4=2\/i % 4=3:=X
  rcases this with h|h|h|h<;>simp [h,Value.oneCell'])
 simp only [BX] at A;obtain ⟨m,rfl⟩:∃m,n=m+1:=⟨n - 1,by omega⟩;simp [Builtin.clear_,EC underlying50,H,A]
section
variable {α:Type} {c:α->List Value} {n:Nat} {t:TypeId}
theorem mO (o:∀x,(c x).length=n) (L:List α):(L.flatMap c).length=L.length*n:=by
 (induction L with|nil=>simp|cons x r ih=>rw [DN,AB,ih,o,BU,JE,Nat.add_comm])
theorem flat_get (u:∀x,(c x).length=n):∀(L:List α) (j:Nat) (x:α),L[j]? =some x->∀(i:Nat) (o:Value),(c x)[i]? =some o->(L.flatMap c)[j*n+i]? =some o
 | [],j,x,h,_,_,_=>by simp at h
 | y::r,0,x,h,i,o,hu=>by
  simp only [EQ,FO] at h;subst h;rw [DN,MS,BP,GR (AX.1 hu).1];exact hu
 | y::r,j+1,x,h,i,o,hu=>by
  rw [ED] at h;rw [DN,IE (by rw [u,JE];omega),u,JE,show j*n+n+i - n=j*n+i by omega];exact flat_get u r j x h i o hu
theorem D7 (o:∀x,(c x).length=n) (L:List α) (k Q) (h:(L.flatMap c)[k]? =some Q):∃j x i,L[j]? =some x/\(c x)[i]? =some Q/\k=j*n+i/\i<n:=by
 (have H:k<L.length*n:=by rw [<-mO o L];exact (AX.1 h).1);(have J:0<n:=by{rcases ER n with e|e;{rw [e,Nat.mul_zero] at H;omega};{exact e}});have E:=(JK J).2 H;have B:k % n<n:=Nat.mod_lt _ J;(have A:k=k / n*n+k % n:=by rw [LK];exact (Nat.div_add_mod k n).symm);refine ⟨k / n,L[k / n],k % n,AC E,?_,A,B⟩;have r:(c (L[k / n]))[k % n]? =some ((c (L[k / n]))[k % n]'(by rw [o];exact B)):=AC _;have u:=flat_get o L (k / n) _ (AC E) (k % n) _ r;rw [<-A,h] at u;rw [r,u]
theorem bC.cells {w b cap L} (B:∀x,(c x).length=n) (h:bC c n t w b cap L) (k o) (A:(L.flatMap c)[k]? =some o):w.cell? (I b k)=some o:=by
 obtain ⟨j,x,i,r,u,rfl,_⟩:=D7 B L k o A;exact h.row j x r i o u
theorem bC.part {w b cap L} (B:∀x,(c x).length=n) (h:bC c n t w b cap L) (d k o) (A:((L.drop d).flatMap c)[k]? =some o):w.cell? (I b (d*n+k))=some o:=by
 obtain ⟨j,x,i,r,u,rfl,_⟩:=D7 B _ k o A;rw [GZ] at r;have:=h.row (d+j) x r i o u;rwa [MM,Nat.add_assoc] at this
theorem bC.of_block {w b cap L} (H:∀x,(c x).length=n) {o} (u:w.heap[b]? =some (.cells o t (0,0))) (J:cap*n<=o.size) (E:L.length<=cap) (A:∀(k:Nat) (r:Value),(L.flatMap c)[k]? =some r->o[k]? =some r):bC c n t w b cap L:=
 ⟨⟨o,u,J⟩,E,λj x B i r Q=>by
  rw [aA u];exact A _ _ (flat_get H L j x B i r Q)⟩
theorem bC.tight {w b cap cap' L} (h:bC c n t w b cap L) (k) (H:k<=cap') (E:cap'<=cap):bC c n t w b cap' (L.take k):=by
 obtain ⟨⟨r,u,A⟩,J,B⟩:=h;refine ⟨⟨r,u,AV (DI n E) A⟩,AV (List.length_take_le _ _) H,λj x o=>B j x ?_⟩;rw [EH] at o;split at o;{exact o};{cases o}
theorem bC.splice {w b cap L} (u:∀x,(c x).length=n) (h:bC c n t w b cap L) (i N) (al:i<=L.length) (A:i+N.length<=cap):
  bC c n t (w.setCells b (i*n) (N.flatMap c)) b cap (L.take i++N++L.drop (i+N.length)):=by
 have H:=mO u N;(have ae:i*n+N.length*n<=cap*n:=by rw [<-MM];exact DI n A);have af:=h.there i (N.length*n) ae;obtain ⟨⟨Q,aa,ah⟩,ai,B⟩:=h;obtain ⟨V,ab,aj⟩:=Ad b (N.flatMap c) (i*n) w Q t (0,0) aa;(have r:(L.take i).length=i:=by rw [BV];omega);refine ⟨⟨V,ab,by omega⟩,?_,λj x o=> ?_⟩;{rw [AB,AB,r,IB];omega}
 ·by_cases E:j<i;{rw [IY,GR X,EH,AL E] at o;refine KF (B j x o) b _ _ (.inr (.inl ?_));rw [u];have:=DI n (show j+1<=i from E);rwa [JE] at this}
  ·by_cases ak:j<i+N.length
   ·rw [IY,IE X,r,GR X] at o;have A:=World.rangeAt_setCells_same w b (i*n) (N.flatMap c) (by rw [H];exact af);intro q J ag;have ad:=A _ J (flat_get u N (j - i) x o q J ag);rwa [show i*n+((j - i)*n+q)=j*n+q by
     rw [<-Nat.add_assoc,<-MM,show i+(j - i)=j by omega]] at ad
   {rw [IE (by rw [AB,r];omega),AB,r,GZ,show i+N.length+(j - (i+N.length))=j by omega] at o;refine KF (B j x o) b _ _ (.inr (.inr ?_));rw [H,<-MM];exact DI n X}
theorem bC.firstCells {P w b cap L} (r:∀x,(c x).length=n) (h:bC c n t w b cap L) (i l cap') (B:i<=L.length):(Builtin.firstCells n i (O b l cap')).run P w=.ok ((L.take i).flatMap c).toArray w:=
 run_firstCells_some w n i (I b 0) l cap' _ (by rw [mO r,BV,MB B]) (λj u E=>by
  rw [KO,BP];obtain ⟨q,x,H,o,A,rfl,_⟩:=D7 r _ j u E;rw [EH] at o;split at o
  ·exact h.row q x o H u A
  ·cases o)
end
theorem H6 {P} (w E aj ak u b o r Q a B ai n cs) (ah:P.underlying E=some (.slice u)) (J:(P.info? u).map (·.size)=some n) (ae:cs.length=Nat.min B r*n) (af:∀j v,cs[j]? =some v->w.cell? (a.add j)=some v) (aa:∀j,j<cs.length->(w.cell? (I b (o+j))).isSome=true) (ab:∀j,j<cs.length->w.frozen? (I b (o+j))=false) (V:∀v∈cs,v.oneCell'=true):
  (Builtin.copy_ #[E,aj] ak #[.slice (some (I b o)) r Q,.slice (some a) B ai]).run P w=.ok (goInt (Nat.min B r)) (w.setCells b o cs):=by
 have H:=run_loadCells_list (P:=P) w a cs af;have ag:=run_storeCells_cells (P:=P) b o cs 0 w (U aa) (U ab) V;(cases A:P.info? u with|none=>simp [A] at J|some i=>(have ad:i.size=n:=by simpa [A] using J);rw [ae] at H;simp [Builtin.copy_,EC ah,Builtin.lenOf,Builtin.firstCells,sizeOf,typeInfo,A,ad,H,ag])
theorem Yl (z n k) (o:z.size=n):(Builtin.zeroCells z k).toList=(List.replicate k ()).flatMap (λ_=>z.toList):=by
 (have B:∀x:Unit,((λ_=>z.toList) x).length=n:=λ_=>by simpa using o);apply List.ext_getElem?;intro q;(have V:(Builtin.zeroCells z k).toList.length=k*n:=by simp [Builtin.zeroCells,o]);have J:=mO B (List.replicate k ());rw [KQ] at J;by_cases r:q<k*n;{(have E:0<n:=by{rcases ER n with e|e;{rw [e,Nat.mul_zero] at r;omega};{exact e}});have A:q % n<n:=Nat.mod_lt _ E;have H:=(JK E).2 r;have Q:z.toList[q % n]? =some (z.toList[q % n]'(by simpa [o] using A)):=AC _;have u:=flat_get B (List.replicate k ()) (q / n) () (by rw [List.getElem?_replicate,AL H]) (q % n) _ Q;rw [show q / n*n+q % n=q by rw [LK];exact Nat.div_add_mod q n] at u;rw [u];simp only [Builtin.zeroCells,Array.toList_map,Array.toList_range,FB,o];rw [List.getElem?_range r];simp [o,A]};{rw [FZ X,FZ X]}
theorem Wv {α:Type} {c:α->List Value} (z k):(List.replicate k z).flatMap c=(List.replicate k ()).flatMap (λ_=>c z):=by
 (induction k with|zero=>rfl|succ k ih=>simp only [List.replicate_succ,DN,ih])
structure Pt where
 c:Int
 l:Int
 n:Int
 a:Int
 z:Int
deriving DecidableEq,Inhabited
inductive QcP|m (x:Pt)
abbrev cP:=QcP.m
instance (x:Pt):CoeDep QcP (.m x) (Array Value):=⟨#[x.c,x.l,x.n,x.a,x.z]⟩
instance (x:Pt):CoeDep QcP (.m x) (List Value):=⟨[x.c,x.l,x.n,x.a,x.z]⟩
def bY (x:Pt):List Value:= [x.c,x.l,x.n,x.a,x.z]
def dF (x:Pt):Value:=.agg #[x.c,x.l,x.n,x.a,x.z]
def aS:Pt:=⟨0,0,0,0,0⟩
theorem vO (x):(bY x).length=5:=rfl
theorem aFr (L:List Pt):∀r∈L.flatMap bY,r.oneCell'=true:=λr u=>by
 obtain ⟨x,_,o⟩:=List.mem_flatMap.1 u;simp only [bY,CE,List.not_mem_nil,or_false] at o;rcases o with rfl|rfl|rfl|rfl|rfl<;>rfl
theorem Tryz.qQ:(prog.info? 59).map (·.size)=some 5:=by kernel_rfl
theorem Tryz.C9:(prog.info? 59).map (λi=>(i.zero,i.size,i.bytes))=some (some (.agg #[Z 0,Z 0,Z 0,Z 0,Z 0]),5,40):=by kernel_rfl
theorem vM (a b c d e o r u A e':Int) (w):(binOp .eql 59 (.agg #[a,b,c,d,e]) (.agg #[o,r,u,A,e'])).run prog w=.ok (.bool (decide ((⟨a,b,c,d,e⟩:Pt)=⟨o,r,u,A,e'⟩))) w:=by
 have ad:=underlying3;have a3:=isAgg3;have af:=sizeOf3;have ae:=underlying46;have ab:=isAgg46;have ag:=sizeOf46;have V:prog.underlying 59=some (.struct (prog.fieldsOf 59)):=N
 have aa:prog.stoodInHeld 59=false:=N
 rw [run_eql_struct,show (10000:Nat)=9999+1 from rfl,run_equalIn_agg w 9999 59 _ _ V aa];simp only [Program.fieldsOf,underlying59,Pt.mk.injEq];go_simp;by_cases B:a=o<;>by_cases E:b=r<;>by_cases H:c=u<;>by_cases J:d=A<;>by_cases Q:e=e'<;>simp [B,E,H,J,Q]
theorem yC (f) (r:f=84\/f=166) (x w):Calls prog f #[dF x] w λe w'=>e=.returned (.bool (decide (x=aS)))/\Fr No w w':=by
 have o:=vM x.c x.l x.n x.a x.z 0 0 0 0 0;have hd:(decide ((⟨x.c,x.l,x.n,x.a,x.z⟩:Pt)=⟨0,0,0,0,0⟩))=decide (x=aS):=rfl;simp only [hd] at o;generalize decide (x=aS)=u at*;clear hd;unfold dF;rcases r with rfl|rfl;{go_enter func84,ntmps84;go_wp2;go_ret;exact ⟨rfl,(Fr.refl w).alloc _⟩};{go_enter func166,ntmps166;go_wp2;go_ret;exact ⟨rfl,(Fr.refl w).alloc _⟩}
theorem Au (x m:Int) (w):Calls prog 237 #[x,m] w λe w'=>e=.returned (.bool (decide (0<=x)&&decide (x<=m)))/\w'=w:=by
 by_cases o:0<=x;{by_cases r:x<=m;{(have e:(decide (0<=x)&&decide (x<=m))=true:=by simp [o,r]);rw [e];clear e;go_enter func237,ntmps237;go_wp2;go_ret;exact ⟨rfl,rfl⟩};{(have e:(decide (0<=x)&&decide (x<=m))=false:=by simp only [o,r];rfl);rw [e];clear e;go_enter func237,ntmps237;go_wp2;go_ret;exact ⟨rfl,rfl⟩}};{(have e:(decide (0<=x)&&decide (x<=m))=false:=by simp only [o];rfl);rw [e];clear e;go_enter func237,ntmps237;go_wp2;go_ret;exact ⟨rfl,rfl⟩}
def dU (x:Pt):Prop:=x=aS\/(0<=x.c/\x.c<=4/\0<=x.l/\x.l<=1048576/\0<=x.n/\x.n<=1073741824/\0<=x.a/\x.a<=5999/\1<=x.z/\x.z<=64/\x.a<=6000 - x.z)
instance (x:Pt):Decidable (dU x):=by unfold dU;infer_instance
def wC (w:World) (x:Pt) (e:Ending) (w':World):Prop:=e=.returned (.bool (decide (dU x)))/\Fr No w w'
theorem H9 (x w):Calls prog 165 #[dF x] w (wC w x):=by
 have al:Fr No w (w.alloc (.cells (cP x) 59)):=(Fr.refl w).alloc _;have az:=aQ w (.cells (cP x) 59);have u:Hid (∀(af:Bool) e w',(af=true↔dU x)->e=.returned (.bool af)->Fr No w w'->wC w x e w'):=λaf e w' h bd f=>by
  (have:decide (dU x)=af:=by{(cases af);{rw [DV];intro be;cases h.2 be};{rw [BR];exact h.1 rfl}});exact ⟨by rw [this];exact bd,f⟩
 generalize wC w x=bf at*;have ad:=lH (yC 84 (.inl rfl) x (w.alloc (.cells (cP x) 59)));have ag:=lH al;have bc:=lH az;clear al az;unfold dF at*;cases V:decide (x=aS) with
 | true=>
  have A:Hid (dU x):=.inl (U V);rw [V] at ad;clear V;go_enter func165,ntmps165;go_wp2_with fail;refine cr ad.o λr ae=> ?_;exact aC (u.o true _ _ (by simp [A.o]) rfl (ag.o.trans ae zq))
 | false=>
  rw [V] at ad;have bb:Hid (x≠aS):=lH (U V);clear V;go_enter func165,ntmps165;go_wp2_with fail;refine cr ad.o λr ae=> ?_;have aa:=ae.aB bc id;(have bg:r.cell? (I w 0)=some (Z x.c):=by rw [aA aa];rfl);(have bh:r.cell? (I w 1)=some (Z x.l):=by rw [aA aa];rfl);(have bi:r.cell? (I w 2)=some (Z x.n):=by rw [aA aa];rfl);(have bj:r.cell? (I w 3)=some (Z x.a):=by rw [aA aa];rfl);have bk:r.cell? (I w 4)=some (Z x.z):=by rw [aA aa];rfl
  have B:=lH (ag.o.trans ae zq);have av:=Au x.c 4 r;have aw:=Au x.l 1048576 r;have ax:=Au x.n 1073741824 r;have ay:=Au x.a 5999 r;have H:=lH av;have J:=lH aw;have Q:=lH ax;have ab:=lH ay;clear aa ae ad av aw ax ay;generalize ap:(decide (0<=x.c)&&decide (x.c<=4))=ah at*;generalize aq:(decide (0<=x.l)&&decide (x.l<=1048576))=ai at*;generalize ar:(decide (0<=x.n)&&decide (x.n<=1073741824))=aj at*;generalize au:(decide (0<=x.a)&&decide (x.a<=5999))=ak at*;have E:Hid (dU x↔ah=true/\ai=true/\aj=true/\ak=true/\1<=x.z/\x.z<=64/\x.a<=6000 - x.z):=lH (by
   rw [<-ap,<-aq,<-ar,<-au];simp only [dU,bb.o,false_or,BM,BR,and_assoc])
  clear ap aq ar au;(cases ah with|false=>go_wp2_with fail;refine cr H.o ?_;rintro o rfl;exact aC (u.o false _ _ (by simp [E.o]) rfl B.o)|true=>(cases ai with|false=>go_wp2_with fail;refine cr H.o ?_;rintro o rfl;go_wp2_with fail;refine cr J.o ?_;rintro o rfl;exact aC (u.o false _ _ (by simp [E.o]) rfl B.o)|true=>(cases aj with|false=>go_wp2_with fail;refine cr H.o ?_;rintro o rfl;go_wp2_with fail;refine cr J.o ?_;rintro o rfl;go_wp2_with fail;refine cr Q.o ?_;rintro o rfl;exact aC (u.o false _ _ (by simp [E.o]) rfl B.o)|true=>(cases ak with|false=>go_wp2_with fail;refine cr H.o ?_;rintro o rfl;go_wp2_with fail;refine cr J.o ?_;rintro o rfl;go_wp2_with fail;refine cr Q.o ?_;rintro o rfl;go_wp2_with fail;refine cr ab.o ?_;rintro o rfl;exact aC (u.o false _ _ (by simp [E.o]) rfl B.o)|true=>by_cases am:1<=x.z;{by_cases an:x.z<=64;{by_cases ao:x.a<=6000 - x.z;{have A:=lH (E.o.2 ⟨rfl,rfl,rfl,rfl,am,an,ao⟩);go_wp2_with fail;refine cr H.o ?_;rintro o rfl;go_wp2_with fail;refine cr J.o ?_;rintro o rfl;go_wp2_with fail;refine cr Q.o ?_;rintro o rfl;go_wp2_with fail;refine cr ab.o ?_;rintro o rfl;exact aC (u.o true _ _ (by simp [A.o]) rfl B.o)};{have A:Hid (¬dU x):=λh=>ao (E.o.1 h).2.2.2.2.2.2;go_wp2_with fail;refine cr H.o ?_;rintro o rfl;go_wp2_with fail;refine cr J.o ?_;rintro o rfl;go_wp2_with fail;refine cr Q.o ?_;rintro o rfl;go_wp2_with fail;refine cr ab.o ?_;rintro o rfl;go_wp2_with fail;exact u.o (decide (x.a<=6000 - x.z)) _ _ (by rw [BR];exact ⟨λh=>by omega,λh=>absurd h A⟩) rfl B.o}};{have A:Hid (¬dU x):=λh=>an (E.o.1 h).2.2.2.2.2.1;go_wp2_with fail;refine cr H.o ?_;rintro o rfl;go_wp2_with fail;refine cr J.o ?_;rintro o rfl;go_wp2_with fail;refine cr Q.o ?_;rintro o rfl;go_wp2_with fail;refine cr ab.o ?_;rintro o rfl;exact aC (u.o false _ _ (by simp [A.o]) rfl B.o)}};{have A:Hid (¬dU x):=λh=>am (E.o.1 h).2.2.2.2.1;go_wp2_with fail;refine cr H.o ?_;rintro o rfl;go_wp2_with fail;refine cr J.o ?_;rintro o rfl;go_wp2_with fail;refine cr Q.o ?_;rintro o rfl;go_wp2_with fail;refine cq ab.o ?_;exact aC (u.o false _ _ (by simp [A.o]) rfl B.o)}))))
structure cO where
 size:Nat
 l:List Pt
deriving DecidableEq,Inhabited
def pO (w:World) (v:Value) (L:List Pt):Prop:=(v=.slice none 0 0/\L= [])\/∃b cap,v=.slice (some (I b 0)) L.length cap/\cap<=maxLen/\bC bY 5 59 w b cap L
def oK (w:World) (p:Nat) (m:cO):Prop:=∃v,w.heap[p]? =some (.cells #[true,m.size,v] 162 (0,0))/\pO w v m.l
def jR (w:World) (o:Nat->Nat) (K i p:Nat) (m:cO):Prop:=
 o p=K+3000+i/\∃v,w.heap[p]? =some (.cells #[true,m.size,v] 162 (0,0))/\((v=.slice none 0 0/\m.l= [])\/∃b cap,v=.slice (some (I b 0)) m.l.length cap/\cap<=maxLen/\o b=K+4000+i/\bC bY 5 59 w b cap m.l)
theorem jR.step {C w w' E H K i p m} (h:jR w E K i p m) (s:Step C w E w' H) (J:¬C (K+3000+i)) (Q:¬C (K+4000+i)):jR w' H K i p m:=by
 obtain ⟨r,v,u,o⟩:=h;refine ⟨(s.own u).trans r,v,s.block u (by rw [r];exact J),?_⟩;rcases o with o|⟨b,cap,e,V,A,B⟩;{exact .inl o};{exact .inr ⟨b,cap,e,V,(s.old b B.lt).trans A,B.fr s.fr (by rw [A];exact Q)⟩}
theorem jR.no {w w' o K i p m} (h:jR w o K i p m) (r:aF w o) (f:Fr No w w'):jR w' o K i p m:=h.step (Step.no (C:=λ_=>False) r f) id id
theorem jR.reads {w B K i p m} (h:jR w B K i p m):oK w p m:=by
 obtain ⟨E,v,r,o⟩:=h;refine ⟨v,r,?_⟩;rcases o with o|⟨b,cap,e,u,H,A⟩;{exact .inl o};{exact .inr ⟨b,cap,e,u,A⟩}
theorem pO.fr {w w' v L} (h:pO w v L) (f:Fr No w w'):pO w' v L:=by
 rcases h with h|⟨b,cap,e,o,r⟩;{exact .inl h};{exact .inr ⟨b,cap,e,o,r.fr f id⟩}
theorem oK.fr {w w' p m} (h:oK w p m) (f:Fr No w w'):oK w' p m:=by
 obtain ⟨v,o,r⟩:=h;exact ⟨v,f.aB o id,r.fr f⟩
theorem pO.slice {w v L} (h:pO w v L):∃base cap,v=.slice base L.length cap:=by
 rcases h with ⟨e,o⟩|⟨b,cap,e,_,_⟩;{exact ⟨none,0,by rw [e,o];rfl⟩};{exact ⟨_,_,e⟩}
theorem pO.row {w base cap L} (h:pO w (.slice base L.length cap) L) (r:0<L.length):∃b,base=some (I b 0)/\cap<=maxLen/\bC bY 5 59 w b cap L:=by
 rcases h with ⟨_,rfl⟩|⟨b,cap',e,u,o⟩;{simp at r};{cases e;exact ⟨b,rfl,u,o⟩}
theorem aB0 (w):Calls prog 157 #[] w λe w'=>e=.returned (Y w)/\w'=w.alloc (.cells #[true,Z 0,nS] 162):=by
 (have o:(Instr.build 162 #[(0,.bool true)]).run prog w=.ok (.agg #[true,Z 0,nS]) w:=N);go_enter func157,ntmps157;go_wp2;go_ret;exact ⟨rfl,rfl⟩
theorem aBp (w):Calls prog 37 #[.pointer none] w λe w'=>e=.returned (Z 0)/\w'=w:=by
 go_enter func37,ntmps37;go_wp2;go_ret;exact ⟨rfl,rfl⟩
theorem E8 (p m w) (h:oK w p m):Calls prog 37 #[Y p] w λe w'=>e=.returned (Z m.size)/\w'=w:=by
 obtain ⟨v,o,_⟩:=h;(have c1:w.cell? (I p 1)=some (Z m.size):=by rw [aA o];rfl);clear o;go_enter func37,ntmps37;go_wp2;go_ret;exact ⟨rfl,rfl⟩
theorem Jm (p m w) (h:oK w p m):Calls prog 38 #[Y p] w λe w'=>e=.returned (Z m.l.length)/\w'=w:=by
 obtain ⟨v,o,r⟩:=h;obtain ⟨base,cap,rfl⟩:=r.slice;(have c1:w.cell? (I p 2)=some (.slice base m.l.length cap):=by rw [aA o];rfl);clear o r;go_enter func38,ntmps38;go_wp2;go_ret;exact ⟨rfl,rfl⟩
def dV (m:cO) (i:Int):Pt:=if 0<=i then (m.l[i.toNat]?).getD aS else aS
def xM (w:World) (x:Pt) (e:Ending) (w':World):Prop:=e=.returned (dF x)/\Fr No w w'
theorem Xz (p m) (i:Int) (w) (h:oK w p m):Calls prog 39 #[Y p,i] w (xM w (dV m i)):=by
 have o:Fr No w (w.alloc (.cells #[Z 0,Z 0,Z 0,Z 0,Z 0] 59)):=(Fr.refl w).alloc _;have u:=lH (aQ w (.cells #[Z 0,Z 0,Z 0,Z 0,Z 0] 59));have Q:=lH (Jm p m _ (h.fr o));have V:∀x:Pt,Hid (((cP x):Array Value).all (·.oneCell')=true):=λx=>lH (by simp [Value.oneCell']);have an:=lH V;(have E:Hid (∀x e w',dV m i=x->e=.returned (dF x)->Fr No w w'->xM w (dV m i) e w'):=λx e w' al ai f=>by subst al;exact ⟨ai,f⟩);generalize ah:xM w _=ao at*;clear ah V;have B:=lH o;by_cases ab:0<=i;{obtain ⟨j,rfl⟩:∃j:Nat,i=j:=⟨i.toNat,by omega⟩;(have A:dV m j=(m.l[j]?).getD aS:=by unfold dV;rw [AL ab];rfl);by_cases ad:j<m.l.length;{obtain ⟨v,ae,J⟩:=h.fr o;obtain ⟨base,cap,rfl⟩:=J.slice;obtain ⟨b,rfl,af,H⟩:=J.row X;have aa:=lH (H.row j m.l[j] (AC ad));have r:Hid (dV m j=m.l[j]):=lH (by rw [A,AC ad];rfl);have ak:=H.len;have ap:=af;have am:¬(m.l.length:Int)<=(j:Int):=X;have aq:(j:Int)<(m.l.length:Int):=X;have ar:(j:Int)<(cap:Int):=X;have c2:(w.alloc (.cells #[Z 0,Z 0,Z 0,Z 0,Z 0] 59)).cell? (I p 2)=some (O b m.l.length cap):=(by rw [aA ae];rfl);generalize m.l[j]=x at*;unfold bY at aa;clear ae J H h A o ak af;go_enter func39,ntmps39;go_wp2_with fail;refine cr Q.o ?_;rintro au rfl;go_wp2_with (first|(refine wL 59 aa ?_)|(refine wS 59 u ?_));have aj:=aX (cs':=(cP x)) u.o;have ag:Fr No w ((w.alloc (.cells #[Z 0,Z 0,Z 0,Z 0,Z 0] 59)).setRow w (cP x)):=Fr.setRow B (.inr (AU _)) _;exact AZ (v:=dF x) (BD rfl _ _ w 59 _ (0,0) _ rfl aj underlying59 rfl Tryz.qQ) rfl (E.o x _ _ r rfl ag)};{have r:Hid (dV m j=aS):=lH (by rw [A,FZ X];rfl);have am:(m.l.length:Int)<=(j:Int):=X;clear h A o;go_enter func39,ntmps39;go_wp2_with fail;refine cq Q.o ?_;exact aC (AZ (v:=dF aS) (BD rfl _ _ w 59 _ (0,0) _ rfl u underlying59 rfl Tryz.qQ) rfl (E.o aS _ _ r rfl B))}};{have r:Hid (dV m i=aS):=lH (by unfold dV;rw [AA ab]);clear h o;go_enter func39,ntmps39;go_wp2_with fail;exact AZ (v:=dF aS) (BD rfl _ _ w 59 _ (0,0) _ rfl u underlying59 rfl Tryz.qQ) rfl (E.o aS _ _ r rfl B)}
def dA (n:Nat):Nat:=(n+63) / 64
theorem aEN (n:Nat) (u:n<=4096) (w):Calls prog 238 #[n] w λe w'=>e=.returned (Z (dA n))/\w'=w:=by
 (have r:Int.tdiv ((n:Int)+64 - 1) 64=((dA n:Nat):Int):=by rw [Int.tdiv_eq_ediv_of_nonneg X];unfold dA;omega);(have o:wrap64 ((dA n:Nat):Int)=(dA n:Nat):=by unfold wrap64 dA;omega);go_enter func238,ntmps238;go_wp2;go_ret;exact ⟨BC (λx=>Ending.returned (Z x)) o,rfl⟩
def qX (w:World) (base:Nat) (v:Value) (L:List Pt):Prop:=(v=.slice none 0 0/\L= [])\/∃b cap,v=.slice (some (I b 0)) L.length cap/\cap<=maxLen/\base<=b/\bC bY 5 59 w b cap L
theorem qX.val {w base v L} (h:qX w base v L):pO w v L:=by
 rcases h with h|⟨b,cap,e,o,_,r⟩;{exact .inl h};{exact .inr ⟨b,cap,e,o,r⟩}
theorem Hg {w base v L} (h:w.ownsRow base 59 5 v L.length (L.flatMap bY)):qX w base v L:=by
 obtain ⟨_,⟨rfl,r⟩|⟨g,cap,Q,rfl,B,u,E,A,H,J⟩⟩:=h;{exact .inl ⟨rfl,FN.1 r⟩};{refine .inr ⟨g,cap,rfl,A,B,bC.of_block vO u (Nat.le_of_eq H.symm) E (λk V o=> ?_)⟩;rw [<-J,EH] at o;split at o;{simpa using o};{cases o}}
def aAH (w:World) (L:List Pt) (e:Ending) (w':World):Prop:=∃v,e=.returned v/\w'.ownsRow w 59 5 v L.length (L.flatMap bY)/\Fr No w w'
theorem Ua {w w'} (h:Below w.heap.size w w'):Fr No w w':=⟨h.os,h.tape,h.output,h.size,λk o _=>h.block k o⟩
theorem Yn (v L w) (h:pO w v L) (ab:L.length<=1000000):Calls prog 137 #[v] w (aAH w L):=by
 rcases h with ⟨rfl,rfl⟩|⟨b,cap,rfl,ad,B⟩;{refine cr (AnyE.slices_Clone_nil Tryz.Rl 0 0 w) ?_;rintro w' rfl;exact ⟨_,rfl,⟨rfl,.inl ⟨rfl,rfl⟩⟩,Fr.refl _⟩};{obtain ⟨Q,r,E,H,J⟩:=EL Tryz.C9;refine (AnyE.slices_Clone Tryz.Rl Q _ 5 40 r E H J rfl G sizeOf59 b 0 L.length cap (L.flatMap bY) w (mO vO L) (by unfold maxLen;omega) X (λj V u=> ?_) (aFr L)).mono ?_;{rw [BP];exact B.cells vO j V u};{rintro e w' ⟨aa,rfl,A,_,o⟩;exact ⟨aa,rfl,A,Ua o⟩}}
theorem aCR:EqlAt prog 59 (λx=> .agg (bY x).toArray) (λx y=>decide (x=y)):=
 ⟨λx y w=>vM x.c x.l x.n x.a x.z y.c y.l y.n y.a y.z w,GuardAt.agg _ N⟩
theorem Ze (x w):Calls prog 239 #[nS,.agg (cP x)] w λe w'=>e=.returned (Z (-1))/\Fr No w w':=by
 go_enter func239,ntmps239;go_wp2_with fail;refine IW 1 ?_;rw [GM];go_wp2_with fail;go_ret;exact ⟨rfl,(Fr.refl w).alloc _⟩
theorem aFX (x w):Calls prog 169 #[nS,.agg (cP x)] w λe w'=>e=.returned (.bool false)/\Fr No w w':=by
 go_enter func169,ntmps169;go_wp2_with fail;refine cr (Ze x _) λr o=> ?_;go_wp2_with fail;go_ret;exact ⟨rfl,((Fr.refl w).alloc _).trans o zq⟩
def Ew (w:World) (b:Bool) (e:Ending) (w':World):Prop:=e=.returned (.bool b)/\Fr No w w'
theorem Vs (v L x w) (h:pO w v L):Calls prog 169 #[v,dF x] w (Ew w (L.any λy=>decide (x=y))):=by
 rcases h with ⟨rfl,rfl⟩|⟨b,cap,rfl,A,r⟩;{refine cr (aFX x w) λw' f=> ?_;exact ⟨rfl,f⟩};{have B:=AV r.len A;refine (AnyQ.slices_Contains Tryz.aBe 5 isAgg59 sizeOf59 bY vO _ aCR b 0 L.length cap L x w (AU _) B (λj o i H E=> ?_)).mono ?_;{have:=r.row j L[j] (AC o) i H (by rwa [getElem!_pos L j o] at E);rwa [BP]};{rintro e w' ⟨rfl,u⟩;rw [AY];exact ⟨rfl,Ua u⟩}}
def ba (l:List UInt8):ByteArray:=⟨l.toArray⟩
theorem l9 (l):(ba l).data.toList=l:=by simp [ba]
theorem nG (l):(ba l).size=l.length:=by simp [ba,ByteArray.size]
theorem uH (s):ba s.data.toList=s:=by
 obtain ⟨⟨l⟩⟩:=s;rfl
theorem aCP {l k} (h:ba l=ba k):l=k:=by
 have:=BC (λs:ByteArray=>s.data.toList) h;simpa [l9] using this
theorem kZ (l):(ba l).toList=l:=by rw [ByteArray.toList_eq,l9]
def eH (l:List UInt8):Bool:=decide (1<=l.length)&&decide (l.length<=12)&&decide (l≠ [46])&&decide (l≠ [46,46])&&decide (Lib.indexByte l 0<0)&&decide (Lib.indexByte l 47<0)
theorem Qe (l w):Calls prog 209 #[(ba l)] w λe w'=>e=.returned (.bool (eH l))/\w'=w:=by
 have E:=nG l;have J:=l9 l;by_cases B:l.length<1;{(have q:((ba l).size:Int)<1:=X);(have o:eH l=false:=by simp [eH];omega);have r:=lH o;clear E J B o;go_enter func209,ntmps209;go_wp2_with fail;go_ret;exact ⟨by rw [r.o];rfl,rfl⟩};{by_cases H:12<l.length;{(have q:¬((ba l).size:Int)<1:=X);have aa:(12:Int)<((ba l).size:Int):=X;have o:eH l=false:=(by simp [eH];intros;omega);have r:=lH o;clear E J B o;go_enter func209,ntmps209;go_wp2_with fail;go_ret;exact ⟨by rw [r.o];rfl,rfl⟩};{(have q:¬((ba l).size:Int)<1:=X);have aa:¬(12:Int)<((ba l).size:Int):=X;by_cases u:l= [46];{(have V:ba l=⟨#[46]⟩:=by rw [u];rfl);have o:eH l=false:=(by simp [eH,u]);have r:=lH o;clear E J B H o u;go_enter func209,ntmps209;go_wp2_with fail;go_ret;exact ⟨by rw [r.o];rfl,rfl⟩};{by_cases A:l= [46,46];{(have V:ba l=⟨#[46,46]⟩:=by rw [A];rfl);have o:eH l=false:=(by simp [eH,A]);have r:=lH o;clear E J B H o u A;go_enter func209,ntmps209;go_wp2_with fail;go_ret;exact ⟨by rw [r.o];rfl,rfl⟩};{(have V:((ba l).toList== [46])=false:=by rw [kZ];simpa using u);have ad:((ba l).toList== [46,46])=false:=(by rw [kZ];simpa using A);(have o:eH l=(decide (Lib.indexByte l 0<0)&&decide (Lib.indexByte l 47<0)):=by{have a1:1<=l.length:=X;have a2:l.length<=12:=X;simp [eH,u,A,a1,a2]});have e0:(Int.toNat 0).toUInt8=0:=rfl;have ab:(Int.toNat 47).toUInt8=47:=rfl;by_cases Q:Lib.indexByte l 0<0;{have r:Hid (eH l=decide (Lib.indexByte l 47<0)):=lH (by rw [o];simp [Q]);clear E B H o u A;go_enter func209,ntmps209;go_wp2_with (go_at_call 252;refine (Tryz.strings_IndexByte _ _ _).mono ?_;rintro e w' ⟨rfl,rfl⟩);go_ret;exact ⟨by rw [r.o];rfl,rfl⟩};{have r:Hid (eH l=false):=lH (by rw [o];simp [Q]);clear E B H o u A;go_enter func209,ntmps209;go_wp2_with (go_at_call 252;refine (Tryz.strings_IndexByte _ _ _).mono ?_;rintro e w' ⟨rfl,rfl⟩);go_ret;exact ⟨by rw [r.o];rfl,rfl⟩}}}}}
def jP:Nat->List UInt8->Option (List (List UInt8))
 | _, []=>some []
 | 0,_::_=>none
 | n+1,c::t=>if c=47/\eH (t.takeWhile (· ≠47))=true then (jP n (t.dropWhile (· ≠47))).map (t.takeWhile (· ≠47):: ·) else none
def pathOf (l:List UInt8):Option (List (List UInt8)):=if l= [47] then some [] else if l= [] then none else jP 8 l
def strs (ps:List (List UInt8)):List Value:=ps.map λp=> .string (ba p)
theorem Ed (l a b):(ba l).extract a b=ba ((l.drop a).take (b - a)):=by
 rw [<-uH ((ba l).extract a b),Lib.extract_data,l9]
theorem aAh (c t):(ba (c::t)).extract 1 (ba (c::t)).size=ba t:=by
 rw [Ed,nG];simp
theorem Rh (t:List UInt8) (j) (h:∀k,k<j->t[k]? ≠some 47) (o:t[j]? =some 47\/j=t.length):t.takeWhile (· ≠47)=t.take j/\t.dropWhile (· ≠47)=t.drop j:=by
 (induction t generalizing j with|nil=>{rcases o with h|rfl<;>simp_all}|cons x t ih=>{rcases j with _|j;{rcases o with h|h;{simp at h;simp [h]};{simp at h}};{(have r:x≠47:=by have:=h 0 X;simpa using this);have:=ih j (λk u=>by have:=h (k+1) X;simpa using this) (U o);simp only [ne_eq,decide_not] at this ⊢;simp [r,this]}})
theorem Ib (n t j) (h:∀k,k<j->t[k]? ≠some 47) (u:t[j]? =some 47\/j=t.length) (A:eH (t.take j)=true):jP (n+1) (47::t)=(jP n (t.drop j)).map (t.take j:: ·):=by
 obtain ⟨o,r⟩:=Rh t j h u;rw [jP,o,r,AL ⟨rfl,A⟩]
theorem Na (n t j) (h:∀k,k<j->t[k]? ≠some 47) (r:t[j]? =some 47\/j=t.length) (u:eH (t.take j)=false):jP (n+1) (47::t)=none:=by
 obtain ⟨o,A⟩:=Rh t j h r;rw [jP,o,AA (by simp [u])]
def oO (w:World) (l:List UInt8) (e:Ending) (w':World):Prop:=
 Fr No w w'/\match pathOf l with
  | none=>e=.returned (.tuple #[nS,Z 12])
  | some ps=>∃v,e=.returned (.tuple #[v,Z 0])/\w'.ownsRow w 9 1 v ps.length (strs ps)
theorem _root_.Go.World.ownsRow.shape {w:World} {b t k n v xs} (h:w.ownsRow b t k v n xs):∃a cap,v=.slice a n cap:=by
 rcases h.2 with ⟨rfl,rfl⟩|⟨g,cap,o,rfl,_⟩;{exact ⟨none,0,rfl⟩};{exact ⟨_,_,rfl⟩}
theorem Ba (l w) (bo:l.length<=1000000):Calls prog 145 #[(ba l)] w (oO w l):=by
 obtain ⟨bi,bd,bf,bg,bh⟩:=EL Tryz.info9;have au:=lH bd;have ay:=lH bf;have az:=lH bg;have bb:=lH bh;clear bd bf bg bh;by_cases ag:l= [47];{subst ag;have A:Hid (pathOf [47]=some []):=lH rfl;(have q:((ba [47]).toList== [47])=true:=by rw [kZ];rfl);go_enter func145,ntmps145;go_wp2_with fail;go_step3;go_wp2;rw [MH];go_ret2;unfold oO;rw [A.o];exact ⟨Fr.refl _,_,rfl,⟨rfl,.inl ⟨rfl,rfl⟩⟩⟩}
 ·(have ce:((ba l).toList== [47])=false:=by rw [kZ];simpa using ag);by_cases ai:l= [];{subst ai;have A:Hid (pathOf []=none):=lH rfl;have bj:¬(0:Int)<((ba []).size:Int):=G;go_enter func145,ntmps145;go_wp2_with fail;go_step3;go_wp2_with fail;go_step3;go_wp2_with fail;refine IW 1 ?_;rw [GM];go_wp2_with fail;rw [MH];go_ret2;unfold oO;rw [A.o];exact ⟨Fr.refl _,rfl⟩}
  ·have bm:=lH ag;have av:=lH ai;clear ag ai;go_enter func145,ntmps145;go_wp2_with fail;go_step3;go_wp2_with fail;go_step3
   go_wp2_with fail;go_loopw [4,5] (λv ae wr=>∃(o:List (List UInt8)) (L:List UInt8),ae=.string (ba L)/\o.length<=8/\Hid (pathOf l=(jP (8 - o.length) L).map (o++ ·))/\Hid (L= []->o≠ [])/\L.length<=1000000/\wr.ownsRow w 9 1 v o.length (strs o)/\Fr No w wr)
    (λ_ ae _=>(match ae with| .string s=>s.size|_=>0))
   case atStart=>exact ⟨[],l,rfl,by simp,lH (by unfold pathOf;rw [AA bm.o,AA av.o];simp),lH (λe=>absurd e av),bo,⟨rfl,.inl ⟨rfl,rfl⟩⟩,Fr.refl _⟩
   case round=>
    obtain ⟨o,L,rfl,bz,A,bn,bc,H,fr⟩:=hrel;obtain ⟨a,cap,rfl⟩:=H.shape;rcases L with _|⟨c,t⟩;{(have bj:¬(0:Int)<((ba []).size:Int):=G);have be:=bn.o rfl;(have an:((o.length:Int)==0)=false:=by{rcases o with _|⟨p,o⟩;{exact absurd rfl be};{simp;omega}});have u:Hid (pathOf l=some o):=lH (by rw [A.o];simp [jP]);clear be;go_wp2_with fail;go_ret2;unfold oO;rw [u.o];exact ⟨fr,_,rfl,H⟩}
    ·(have bj:(0:Int)<((ba (c::t)).size:Int):=by rw [nG,BU];omega);have cd:(0:Int)<=((ba (c::t)).size:Int):=X;have ci:(1:Int)<=((ba (c::t)).size:Int):=X;have bu:0<(ba (c::t)).size:=X;by_cases V:c=47/\o.length<8
     ·obtain ⟨rfl,bv⟩:=V;have an:(((ba (47::t))[0].toNat:Int) !=47)=false:=rfl;have bp:((o.length:Int)==8)=false:=(by simp;omega);have am:(ba (47::t)).extract 1 (ba (47::t)).size=ba t:=aAh _ _;obtain ⟨ar,rfl⟩:∃ar:World,ar=wr:=⟨wr,rfl⟩;have aw:=lH (nG t);go_wp2_with fail;go_loopw [4,5,25] (λv ae i wr=>v=.slice a o.length cap/\ae=.string (ba t)/\∃j:Nat,i=Z j/\j<=t.length/\Hid (∀k,k<j->t[k]? ≠some 47)/\wr=ar) (λ_ _ i _=>t.length - (intOf i).toNat);case atStart=>exact ⟨rfl,rfl,0,rfl,BA _,lH (λk r=>by omega),rfl⟩
      case round=>
       obtain ⟨rfl,rfl,j,rfl,bw,Q,rfl⟩:=hrel;have ca:t.length<=1000000:=(by simp only [BU] at bc;omega);by_cases ak:j<t.length
       ·have af:=aw.o;have cf:(0:Int)<=(j:Int):=X;have bq:(j:Int)<((ba t).size:Int):=X;have cg:(j:Int)<=((ba t).size:Int):=X;have ch:j<(ba t).size:=X;by_cases J:t[j]=47
        ·(have br:(((ba t)[j].toNat:Int) !=47)=false:=by{have:(ba t)[j]=t[j]:=rfl;rw [this,J];rfl});have cb:(ba t).extract 0 j=ba (t.take j):=(by rw [Ed];simp);have cc:(ba t).extract j (ba t).size=ba (t.drop j):=(by rw [Ed,nG,FH D]);have bk:=lH J;clear af am J;go_wp2_with fail;refine (Qe _ _).mono ?_;rintro e ap ⟨rfl,rfl⟩;have ax:Hid (t[j]? =some 47\/j=t.length):=.inl (by rw [AC ak];exact BC some bk);have E:8 - o.length=7 - o.length+1:=X;rcases B:eH (t.take j) with _|_;{have u:Hid (pathOf l=none):=lH (by rw [A.o,E,Na _ t j Q.o ax.o B];rfl);clear B E;go_wp2_with fail;rw [MH];go_ret2;unfold oO;rw [u.o];exact ⟨fr,rfl⟩}
         ·have u:Hid (pathOf l=(jP (8 - (o++ [t.take j]).length) (t.drop j)).map ((o++ [t.take j])++ ·)):=lH (by
           rw [A.o,E,Ib _ t j Q.o ax.o B,Option.map_map,show 8 - (o++_).length=7 - o.length by rw [AB,AO];omega];congr 1;funext x;simp)
          clear B E;go_wp2_with (at_builtin;(refine wpList_append_own _ rfl _ _ 82 rfl w 9 bi (.string ⟨#[]⟩) 1 16 underlying82 au ay az bb rfl G _ _ _ rfl (H.alloc _) (I ap 0) 1 1 [(ba (t.take j))] rfl rfl ?c1 ?c2 ?c3 ?c4 ?c5 ?_));(case c1=>intro k ao r;(cases k with|zero=>simp at r;subst r;exact World.cell?_alloc_at _ _ _ _ rfl|succ k=>simp at r));(case c2=>first|rfl|(intro ao ad;simp at ad;subst ad;rfl));(case c3=>unfold maxLen;omega);(case c4=>omega);(case c5=>simp;have:=fr.size;omega);intro bt aq al aa _;(have ah:Fr No w aq:=by{refine (fr.alloc _).grown aa ?_;intro k r;exact .inr (H.lt _ r).1});clear aa;go_wp2_with fail;refine ⟨⟨o++_,t.drop j,rfl,by simp;omega,u,lH (λ_=>by simp),by simp only [IB];simp only [BU] at bc;omega,?_,ah⟩,?_⟩;{rw [AB,strs,GX];exact al};{simp only [nG,IB,BU];omega}
        ·have br:(((ba t)[j].toNat:Int) !=47)=true:=by{have:(ba t)[j]=t[j]:=rfl;rw [this,JV];intro e;exact J (UInt8.toNat_inj.1 (by have h:(47:UInt8).toNat=47:=rfl;omega))}
         have bl:Hid (∀k,k<j+1->t[k]? ≠some 47):=λk r=>by
          by_cases e:k=j;{subst e;rw [AC ak];exact λe=>J (FX e)};{exact Q.o k X}
         clear af am J;go_wp2_with fail;go_roundw;{exact ⟨rfl,rfl,j+1,by go_num,ak,bl,trivial⟩};simp [intOf];omega
       ·(obtain rfl:j=t.length:=by omega);have af:=aw.o;have bq:¬(t.length:Int)<((ba t).size:Int):=X;have E:8 - o.length=7 - o.length+1:=X;have ab:t.take t.length=t:=FH (AU _);clear am af;go_wp2_with fail;refine (Qe _ _).mono ?_;rintro e ap ⟨rfl,rfl⟩;rcases B:eH t with _|_;{have u:Hid (pathOf l=none):=lH (by rw [A.o,E,Na _ t t.length Q.o (.inr rfl) (by rw [ab];exact B)];rfl);clear B E ab;go_wp2_with fail;rw [MH];go_ret2;unfold oO;rw [u.o];exact ⟨fr,rfl⟩}
        ·have u:Hid (pathOf l=(jP (8 - (o++ [t]).length) []).map ((o++ [t])++ ·)):=lH (by
          rw [A.o,E,Ib _ t t.length Q.o (.inr rfl) (by rw [ab];exact B),Option.map_map,show 8 - (o++ [t]).length=7 - o.length by rw [AB,AO];omega,ab,KG];congr 1;funext x;simp)
         clear B E ab;go_wp2_with (at_builtin;refine wpList_append_own _ rfl _ _ 82 rfl w 9 bi (.string ⟨#[]⟩) 1 16 underlying82 au ay az bb rfl G _ _ _ rfl (H.alloc _) (I ap 0) 1 1 [(ba t)] rfl rfl ?c1 ?c2 ?c3 ?c4 ?c5 ?_);(case c1=>intro k ao r;(cases k with|zero=>simp at r;subst r;exact World.cell?_alloc_at _ _ _ _ rfl|succ k=>simp at r));(case c2=>first|rfl|(intro ao ad;simp at ad;subst ad;rfl));(case c3=>unfold maxLen;omega);(case c4=>omega);(case c5=>simp;have:=fr.size;omega);intro bt aq al aa _;(have ah:Fr No w aq:=by{refine (fr.alloc _).grown aa ?_;intro k r;exact .inr (H.lt _ r).1});clear aa;go_wp2_with fail;refine ⟨⟨o++ [t], [],rfl,by simp;omega,u,lH (λ_=>by simp),by simp,?_,ah⟩,?_⟩;{rw [AB,strs,GX];exact al};{have:(⟨#[]⟩:ByteArray).size=0:=rfl;simp only [nG,BU,this];omega}
     ·have u:Hid (pathOf l=none):=lH (by
       rw [A.o];rcases bx:8 - o.length with _|n;{simp [jP]}
       ·rw [jP,AA (by rintro ⟨h,_⟩;exact V ⟨h,by omega⟩)];rfl)
      by_cases aj:c=47;{subst aj;have an:(((ba (47::t))[0].toNat:Int) !=47)=false:=rfl;(have bp:((o.length:Int)==8)=true:=by{have:¬o.length<8:=λh=>V ⟨rfl,h⟩;rw [beq_iff_eq];omega});clear V;go_wp2_with fail;rw [MH];go_ret2;unfold oO;rw [u.o];exact ⟨fr,rfl⟩};{(have an:(((ba (c::t))[0].toNat:Int) !=47)=true:=by{have:(ba (c::t))[0]=c:=rfl;rw [this,JV];intro e;exact aj (UInt8.toNat_inj.1 (by have h:(47:UInt8).toNat=47:=rfl;omega))});clear V aj;go_wp2_with fail;rw [MH];go_ret2;unfold oO;rw [u.o];exact ⟨fr,rfl⟩}
theorem Q8 {w:World} {base v n xs} (h:w.ownsRow base 59 5 v n xs) (j) (o:v.ownBlock=some j):base<=j:=by
 obtain ⟨_,⟨rfl,_⟩|⟨g,cap,u,rfl,r,_⟩⟩:=h;{cases o};{cases o;exact r}
theorem Cm {S w w' base v n xs} (h:w.ownsRow base 59 5 v n xs) (f:Fr S w w') (B:∀j,v.ownBlock=some j->¬S j):w'.ownsRow base 59 5 v n xs:=by
 obtain ⟨o,u|⟨g,cap,r,rfl,H,E,A⟩⟩:=h;{exact ⟨o,.inl u⟩};{exact ⟨o,.inr ⟨g,cap,r,rfl,H,f.aB E (B g rfl),A⟩⟩}
def ptrs (m:cO):List Pt:=m.l.filter λx=> !decide (x=aS)
def Ie (w:World) (L:List Pt) (e:Ending) (w':World):Prop:=∃v,e=.returned v/\qX w' w v L/\Fr No w w'
theorem aCB (p m w) (h:oK w p m) (bw:m.l.length<=1000):Calls prog 40 #[Y p] w (Ie w (ptrs m)):=by
 have au:=lH (Jm p m w h);have av:=lH h;have bc:Hid (∀v w' L,L=ptrs m->w'.ownsRow w 59 5 v L.length (L.flatMap bY)->Fr No w w'->Ie w (ptrs m) (.returned v) w'):=λv w' L bj bm f=>by
  subst bj;exact ⟨v,rfl,Hg bm,f⟩
 generalize Ie w _=br at*;obtain ⟨bo,ak,ap,aq,ar⟩:=EL Tryz.C9;have aw:=lH ak;have bf:=lH ap;have bg:=lH aq;have bh:=lH ar;clear ak ap aq ar h;go_enter func40,ntmps40;go_wp2_with fail;refine cr au.o λQ bn=> ?_;subst bn;go_wp2_with fail;go_loopw [3,7] (λs a wr=>∃(j:Nat) (L:List Pt),a=Z j/\j<=m.l.length/\Hid (L=(m.l.take j).filter λx=> !decide (x=aS))/\L.length<=j/\Hid (wr.ownsRow Q 59 5 s L.length (L.flatMap bY))/\Hid (Fr No Q wr)) (λ_ a _=>m.l.length - (intOf a).toNat);(case atStart=>exact ⟨0, [],rfl,BA _,lH D,AU _,lH ⟨rfl,.inl ⟨rfl,rfl⟩⟩,lH (Fr.refl _)⟩);(case round=>obtain ⟨j,L,rfl,al,V,bv,H,E⟩:=hrel;obtain ⟨a,bt,rfl⟩:=H.o.shape;by_cases A:j<m.l.length;{obtain ⟨v,ad,ae⟩:=av.o.fr E.o;obtain ⟨base,cap,rfl⟩:=ae.slice;obtain ⟨b,rfl,am,J⟩:=ae.row X;have ab:=lH (J.row j m.l[j] (AC A));have bx:=J.len;have bz:=am;have bp:(j:Int)<(m.l.length:Int):=X;have cb:(j:Int)<(cap:Int):=X;have cc:(0:Int)<=(j:Int):=X;have c2:wr.cell? (I p 2)=some (O b m.l.length cap):=(by rw [aA ad];rfl);have ai:Hid (m.l.take (j+1)=m.l.take j++ [m.l[j]]):=lH (by rw [DJ,AC A];rfl);have be:=lH (AC A);have ax:=lH ad;have bd:=lH J;generalize m.l[j]=x at*;unfold bY at ab;have u:=lH (yC 84 (.inl rfl) x wr);unfold dF at u;clear ad ae J am;(cases r:decide (x=aS) with|true=>{rw [r] at u;have aa:Hid (L=(m.l.take (j+1)).filter λx=> !decide (x=aS)):=lH (by rw [ai.o,EG,<-V.o];simp only [GL,r];simp);clear r;go_wp2_with (refine wL 59 ab ?_);refine cr u.o λB o=> ?_;go_wp2_with fail;go_roundw;{exact ⟨j+1,L,by go_num,A,aa,by omega,lH (Cm H o zq),lH (E.o.trans o zq)⟩};simp [intOf];omega}|false=>{rw [r] at u;have aa:Hid (L++ [x]=(m.l.take (j+1)).filter λx=> !decide (x=aS)):=lH (by rw [ai.o,EG,<-V.o];simp only [GL,r];simp);clear r;go_wp2_with (refine wL 59 ab ?_);refine cr u.o λB o=> ?_;have c3:B.cell? (I p 2)=some (O b m.l.length cap):=(by rw [aA (o.aB ax.o id)];rfl);have ah:=lH ((bd.o.fr o id).row j x be);have ag:=lH (Cm H o zq);have af:=lH (E.o.trans o zq);have ca:=af.o.size;unfold bY at ah;go_wp2_with (first|(refine wL 59 ah ?_)|(at_builtin;(refine wpList_append_lies _ R _ _ 77 R Q 59 bo _ 5 40 underlying77 aw bf bg bh rfl G _ L.length (L.flatMap bY) R (ag.o.alloc _) (I B 0) 1 1 (cP x) R R ?d1 (by simp [Value.oneCell']) G (by unfold maxLen;omega) X ?d5 (B.heap.size+1) ?d6 ?_)));(case d1=>exact World.news_of_block (cs:=(cP x)) (t:=59) (fr:=(0,0)) (AQ B _));(case d5=>rw [fC];omega);(case d6=>simp);intro bu cap bq ao aj bk bl;(have an:Fr No Q bq:=by{refine (af.o.alloc _).grown aj (λj al=> .inr ?_);exact Q8 ag j al});have az:=lH an;have bb:=lH ao;clear ao aj bk bl an;go_wp2_with fail;go_roundw;{refine ⟨j+1,L++ [x],by go_num,A,aa,by rw [AB,AO];omega,lH ?_,az⟩;have bi:=bb.o;rw [EU,AB];simp only [DN,GN,EN,AO];exact bi};simp [intOf];omega})};{(obtain rfl:j=m.l.length:=by omega);have bp:¬(m.l.length:Int)<(m.l.length:Int):=X;have ay:Hid (L=ptrs m):=lH (by rw [V.o,AY];rfl);exact aC (bc.o _ _ L ay H E.o)})
structure Dl where
 k:Int
 i:Int
 b:Int
 s:Int
 t:Pt
 o:Pt
deriving DecidableEq,Inhabited
inductive QcV|m (x:Dl)
abbrev cV:=QcV.m
instance (x:Dl):CoeDep QcV (.m x) (Array Value):=⟨#[x.k,x.i,x.b,x.s,x.t.c,x.t.l,x.t.n,x.t.a,x.t.z,x.o.c,x.o.l,x.o.n,x.o.a,x.o.z]⟩
instance (x:Dl):CoeDep QcV (.m x) (List Value):=⟨[x.k,x.i,x.b,x.s,x.t.c,x.t.l,x.t.n,x.t.a,x.t.z,x.o.c,x.o.l,x.o.n,x.o.a,x.o.z]⟩
def dD (d:Dl):List Value:= [Z d.k,Z d.i,Z d.b,Z d.s,Z d.t.c,Z d.t.l,Z d.t.n,Z d.t.a,Z d.t.z,Z d.o.c,Z d.o.l,Z d.o.n,Z d.o.a,Z d.o.z]
def iQ (d:Dl):Value:=.agg #[Z d.k,Z d.i,Z d.b,Z d.s,Z d.t.c,Z d.t.l,Z d.t.n,Z d.t.a,Z d.t.z,Z d.o.c,Z d.o.l,Z d.o.n,Z d.o.a,Z d.o.z]
def dP (d:Dl):Prop:=2<=d.i/\d.i<=128/\0<=d.b/\d.b<64/\0<=d.s/\d.s<=4096/\dU d.t/\dU d.o/\
 ((d.k=1/\d.o=aS)\/(d.k=2/\d.o=aS/\d.t=aS/\d.b=0)\/(d.k=3/\d.s=0))
instance (d:Dl):Decidable (dP d):=by unfold dP;infer_instance
def gX (m:cO) (d:Dl):Prop:=(d.k=1/\d.b*64<d.s)\/d.k=2\/(d.k=3/\d.b<m.l.length/\d.o≠aS/\dV m d.b=d.o/\d.t≠aS/\d.t.z=d.o.z)
instance (m:cO) (d:Dl):Decidable (gX m d):=by unfold gX;infer_instance
def iC (w:World) (b:Nat) (d:Dl):Prop:=w.heap[b]? =some (.cells (dD d).toArray 61 (0,0))
theorem iC.fr {w w':World} {b:Nat} {d:Dl} (h:iC w b d) (f:Fr No w w'):iC w' b d:=f.aB h id
theorem iC.cells {w:World} {b:Nat} {d:Dl} (h:iC w b d):w.cell? (I b 0)=some (Z d.k)/\w.cell? (I b 1)=some (Z d.i)/\w.cell? (I b 2)=some (Z d.b)/\w.cell? (I b 3)=some (Z d.s)/\
  w.cell? (I b 4)=some (Z d.t.c)/\w.cell? (I b 5)=some (Z d.t.l)/\w.cell? (I b 6)=some (Z d.t.n)/\w.cell? (I b 7)=some (Z d.t.a)/\w.cell? (I b 8)=some (Z d.t.z)/\
  w.cell? (I b 9)=some (Z d.o.c)/\w.cell? (I b 10)=some (Z d.o.l)/\w.cell? (I b 11)=some (Z d.o.n)/\w.cell? (I b 12)=some (Z d.o.a)/\w.cell? (I b 13)=some (Z d.o.z):=by
 refine ⟨?_,?_,?_,?_,?_,?_,?_,?_,?_,?_,?_,?_,?_,?_⟩<;>(rw [aA h];rfl)
def o7 (w:World) (b:Bool) (e:Ending) (w':World):Prop:=e=.returned (.bool b)/\Fr No w w'
theorem aDI (p:Nat) (m:cO) (d:Dl) (w:World) (hd:dP d) (Q:d.k=1):Calls prog 167 #[Y p,iQ d] w (o7 w (decide (d.b*64<d.s))):=by
 have A:Fr No w (w.alloc (.cells (dD d).toArray 61)):=(Fr.refl w).alloc _;have E:iC (w.alloc (.cells (dD d).toArray 61)) w d:=aQ w _;obtain ⟨au,av,aw,ax,ay,az,B,H,J⟩:=hd;have o:=lH (H9 d.t (w.alloc (.cells (dD d).toArray 61)));have ap:Hid (decide (dU d.t)=true):=lH (by rw [BR];exact B);have r:=lH A;unfold dF dD at o;unfold iQ;unfold dD at r;obtain ⟨aa,ab,ah,ai,aj,ak,al,am,an,ao,ad,ae,af,ag⟩:=E.cells;unfold wC at o;rw [ap.o] at o;by_cases V:d.b*64<d.s;{(have e:decide (d.b*64<d.s)=true:=by simpa using V);rw [e];have u:Hid (∀e w',e=.returned (.bool true)->Fr No w w'->o7 w true e w'):=λe w' a b=>⟨a,b⟩;generalize o7 w true=aq at*;clear A E B H J e aa ab ah ai aj ak al am an ao ad ae af ag;rw [Q] at*;go_enter func167,ntmps167;go_wp2_with fail;refine cr o.o λbb ar=> ?_;exact aC (u.o _ _ rfl (r.o.trans ar zq))};{(have e:decide (d.b*64<d.s)=false:=by simpa using V);rw [e];have u:Hid (∀e w',e=.returned (.bool false)->Fr No w w'->o7 w false e w'):=λe w' a b=>⟨a,b⟩;generalize o7 w false=aq at*;clear A E B H J e aa ab ah ai aj ak al am an ao ad ae af ag o;rw [Q] at*;go_enter func167,ntmps167;exact aC (u.o _ _ rfl r.o)}
theorem aD9 (p:Nat) (d:Dl) (w:World) (hd:dP d) (V:d.k=2):Calls prog 167 #[Y p,iQ d] w (o7 w true):=by
 have u:Fr No w (w.alloc (.cells (dD d).toArray 61)):=(Fr.refl w).alloc _;obtain ⟨ab,ad,ae,af,B,E,H,J,Q⟩:=hd;have o:=lH (Au d.s 4096 (w.alloc (.cells (dD d).toArray 61)));have e:(decide (0<=d.s)&&decide (d.s<=4096))=true:=by simp [B,E]
 rw [e] at o;have r:=lH u;unfold dD at o r;unfold iQ;have A:Hid (∀e w',e=.returned (.bool true)->Fr No w w'->o7 w true e w'):=λe w' a b=>⟨a,b⟩;generalize o7 w true=aa at*;clear u H J Q e;rw [V] at*;go_enter func167,ntmps167;go_wp2_with fail;refine cq o.o ?_;exact aC (A.o _ _ rfl r.o)
theorem aEK (p:Nat) (m:cO) (d:Dl) (w:World) (h:oK w p m) (aw:m.l.length<=1000) (hd:dP d) (E:d.k=3):
  Calls prog 167 #[Y p,iQ d] w (o7 w (decide (gX m d))):=by
 have o:Fr No w (w.alloc (.cells (dD d).toArray 61)):=(Fr.refl w).alloc _;have H:iC (w.alloc (.cells (dD d).toArray 61)) w d:=aQ w _;obtain ⟨af,ag,aq,ar,ah,ai,B,aj,ak⟩:=hd;have A:decide (dU d.t)=true:=by rw [BR];exact B
 have J:Hid (decide (gX m d)=(decide (d.b<m.l.length)&&(!decide (d.o=aS))&&decide (dV m d.b=d.o)&&(!decide (d.t=aS))&&(d.t.z==d.o.z))):=lH (by
  have am:gX m d↔d.b<m.l.length/\d.o≠aS/\dV m d.b=d.o/\d.t≠aS/\d.t.z=d.o.z:=by
   unfold gX;rw [E];simp
  rw [MI,BR,am];simp [and_assoc])
 have r:∀W,Fr No (w.alloc (.cells (dD d).toArray 61)) W->Fr No w W:=λW f=>o.trans f zq;have C1:Hid (∀W,Fr No (w.alloc (.cells (dD d).toArray 61)) W->Calls prog 38 #[Y p] W λe w'=>e=.returned (Z m.l.length)/\Fr No W w'):=λW f=>(Jm p m W (h.fr (r W f))).mono (λe w' x=>⟨x.1,x.2▸Fr.refl _⟩);have C2:Hid (∀W,Fr No (w.alloc (.cells (dD d).toArray 61)) W->Calls prog 39 #[Y p,d.b] W (xM W (dV m d.b))):=λW f=>Xz p m d.b W (h.fr (r W f));have C3:Hid (∀W,Fr No (w.alloc (.cells (dD d).toArray 61)) W->Calls prog 84 #[dF d.o] W λe w'=>e=.returned (.bool (decide (d.o=aS)))/\Fr No W w'):=λW _=>yC 84 (.inl rfl) d.o W;have C4:Hid (∀W,Fr No (w.alloc (.cells (dD d).toArray 61)) W->Calls prog 84 #[dF d.t] W λe w'=>e=.returned (.bool (decide (d.t=aS)))/\Fr No W w'):=λW _=>yC 84 (.inl rfl) d.t W;have C5:Hid (∀W,Fr No (w.alloc (.cells (dD d).toArray 61)) W->Calls prog 165 #[dF d.t] W λe w'=>e=.returned (.bool true)/\Fr No W w'):=λW _=>by
  have:=H9 d.t W;unfold wC at this;rw [A] at this;exact this
 have N1:Hid (∀w,(binOp .eql 59 (.agg (cP (dV m d.b))) (.agg (cP d.o))).run prog w=.ok (.bool (decide (dV m d.b=d.o))) w):=λw=>vM (dV m d.b).c (dV m d.b).l (dV m d.b).n (dV m d.b).a (dV m d.b).z d.o.c d.o.l d.o.n d.o.a d.o.z w;have Q:Hid (∀b e w',decide (gX m d)=b->e=.returned (.bool b)->Fr No w w'->o7 w (decide (gX m d)) e w'):=λb e w' h a f=>by subst h;exact ⟨a,f⟩
 generalize o7 w (decide (gX m d))=ao at*;unfold xM at C2;generalize decide (dV m d.b=d.o)=ab at*;generalize dV m d.b=ap at*;generalize decide (d.o=aS)=aa at*;generalize decide (d.t=aS)=ad at*;have u:=lH o;have B1:=lH H;unfold iC dD at B1;unfold dD at C1 C2 C3 C4 C5 u;unfold dF at*;unfold iQ;have an:prog.follows .mixedOrders=true:=N
 clear o H h B aj ak A af ag ah ai r;rw [E] at*;generalize ax:w.alloc (.cells #[Z 3,d.i,d.b,d.s,d.t.c,d.t.l,d.t.n,d.t.a,d.t.z,d.o.c,d.o.l,d.o.n,d.o.a,d.o.z] 61)=ay at*;generalize av:(d.t.z==d.o.z)=ae at*;generalize au:decide (d.b<(m.l.length:Int))=V at*;cases V;rotate_left 1;cases aa;cases ab;rotate_left 1;cases ad;cases ae;all_goals
  have p:=aA B1.o;go_enter func167,ntmps167;go_wp2_with fail;clear p;refine Qh [] ?_ an;intro W al;go_wp2_with fail;exact Q.o _ _ _ (by rw [J.o];simp) rfl (u.o.trans al.o zq)
open Go.Lib
def fJ (K i c:Nat):Prop:=c=K+3000+i\/c=K+4000+i
def kL (w:World) (o:Nat->Nat) (K i p:Nat) (m:cO) (w':World):Prop:=∃o',Step (fJ K i) w o w' o'/\jR w' o' K i p m
theorem kL.later {w r w' o K i p m} (u:aF w o) (f:Fr No w r) (h:kL r o K i p m w'):kL w o K i p m w':=by
 obtain ⟨A,s,t⟩:=h;exact ⟨A,(Step.no u f).trans s (λ_ e=>e),t⟩
def gK (L:List Pt) (n:Nat):List Pt:=if n<=L.length then L.take n else L++List.replicate (n - L.length) aS
theorem Pj:(Value.agg #[Z 0,Z 0,Z 0,Z 0,Z 0]).cells.size=5:=rfl
def Jl (w:World) (o:Nat->Nat) (K i p:Nat) (m:cO) (e:Ending) (w':World):Prop:=e=.returned (.tuple #[])/\kL w o K i p m w'
theorem jR.put {w r o K i p b cap} {m:cO} {cs l} {n:Nat} (h:o p=K+3000+i) (V:w.heap[p]? =some (.cells cs 162 (0,0))) (A:aF w o) (u:o b=K+4000+i) (Q:i<1000) (f:Fr (λj=>j=b\/j=p) w r) (J:r.heap[p]? =some (.cells #[true,n,O b l.length cap] 162 (0,0))) (H:bC bY 5 59 r b cap l) (E:cap<=maxLen):kL w o K i p ⟨n,l⟩ r:=
 ⟨o,⟨f.mono (λj _ e=>by
  rcases e with rfl|rfl
  ·exact .inr u
  ·exact .inl h),λ_ _=>rfl,λj B=>A j (AV f.size B)⟩,h,_,J,.inr ⟨b,cap,rfl,E,u,H⟩⟩
theorem jR.En {w r o K i p b cap cs l} {n:Nat} (h:o p=K+3000+i) (E:w.heap[p]? =some (.cells cs 162 (0,0))) (B:aF w o) (Q:w.heap.size<=b) (f:Fr (λj=>j=p) w r) (J:r.heap[p]? =some (.cells #[true,n,O b l.length cap] 162 (0,0))) (A:bC bY 5 59 r b cap l) (H:cap<=maxLen):kL w o K i p ⟨n,l⟩ r:=by
 have aa:=lt_of_block E;have V:=A.lt;exact ⟨fV o b (K+4000+i),⟨f.mono (λj _ e=> .inl (by rw [e];exact h)),λj u=>dR o _ X,λj u=>by
  rw [dR o _ X];exact B j (AV f.size u)⟩,by rw [dR o _ X];exact h,_,J,.inr ⟨b,cap,rfl,H,lY _ _ _,A⟩⟩
theorem jR.aFG {w r o K i p cs} {n:Nat} (h:o p=K+3000+i) (E:w.heap[p]? =some (.cells cs 162 (0,0))) (u:aF w o) (f:Fr (λj=>j=p) w r) (B:r.heap[p]? =some (.cells #[true,n,nS] 162 (0,0))):kL w o K i p ⟨n, []⟩ r:=
 ⟨o,⟨f.mono (λj _ e=> .inl (by rw [e];exact h)),λ_ _=>rfl,λj A=>u j (AV f.size A)⟩,h,_,B,.inl ⟨rfl,rfl⟩⟩
theorem U9 (E K i p m) (n:Nat) (w) (h:jR w E K i p m) (bi:aF w E) (bx:i<1000) (cc:n<=4096) (ck:m.l.length<=1000):
  Calls prog 168 #[Y p,n] w (Jl w E K i p ⟨n,gK m.l (dA n)⟩):=by
 obtain ⟨bg,v,B,bb⟩:=h;have al:Hid (∀e w',e=.returned (.tuple #[])->kL w E K i p ⟨n,gK m.l (dA n)⟩ w'->Jl w E K i p ⟨n,gK m.l (dA n)⟩ e w'):=λe w' a b=>⟨a,b⟩;(have ci:dA n<=65:=by unfold dA;omega);(have c1:w.cell? (I p 1)=some (Z m.size):=by rw [aA B];rfl);have co:=aU B 1;have aq:=setCell_at B 1 (Z n);have bf:Fr (· =p) w (w.setCell (I p 1) (Z n)):=dZ w p 1 _;have ak:=lH (aEN n cc (w.setCell (I p 1) (Z n)));(have c2:(w.setCell (I p 1) (Z n)).cell? (I p 2)=some v:=by rw [aA aq];rfl);have cp:=aU aq 2;have av:=lH bi;have ab:=lH bg;have aj:=lH B;have aw:=lH aq;have aa:=lH bf;generalize Jl w E K i p ⟨n,gK m.l _⟩=ch at*;have be:Hid (gK m.l (dA n)=if dA n<=m.l.length then m.l.take (dA n) else m.l++List.replicate (dA n - m.l.length) aS):=lH rfl;generalize gK m.l _=M at*;generalize dA n=q at*;generalize cl:w.setCell (I p 1) (Z n)=o at*;clear B bi bg aq bf;by_cases ae:q<=m.l.length
 ·have ad:Hid (M=m.l.take q):=lH (by rw [be.o,AL ae]);rcases bb with ⟨rfl,Q⟩|⟨b,cap,rfl,ap,u,af⟩
  ·have ce:q=0:=by rw [Q] at ae;simpa using ae
   subst ce;have V:Hid (kL w E K i p ⟨n,M⟩ (o.setCell (I p 2) (nS))):=lH (by
    rw [ad.o,Q];exact jR.aFG ab aj av (aa.o.trans (dZ o p 2 _) zq) (setCell_at aw.o 2 _))
   clear Q;go_enter func168,ntmps168;go_wp2_with fail;refine cr ak.o ?_;rintro ah rfl;refine aC ?_;exact AZ (v:=.tuple #[]) (by simp [results,results168,go_sem]) rfl (al.o _ _ rfl V)
  ·have ca:=af.len;have cb:=ap;have ay:p≠b:=(by intro e;have:=ab.o;rw [e,u] at this;omega);have ao:(m.l.take q).length=q:=(by rw [BV];omega)
   have V:Hid (kL w E K i p ⟨n,M⟩ (o.setCell (I p 2) (O b q q))):=lH (by
    have ai:Fr (· =p) w (o.setCell (I p 2) (O b q q)):=aa.o.trans (dZ o p 2 _) zq;rw [ad.o];refine jR.put (cap:=q) (b:=b) (m:=m) ab aj av u bx (ai.mono (λ_ _ e=> .inr e)) ?_ ((af.fr ai (λe=>ay e.symm)).tight q (AU _) X) (by unfold maxLen;omega);have:=setCell_at aw.o 2 (O b q q);rw [ao];exact this)
   have cf:(q:Int)<=(m.l.length:Int):=X;have cg:(q:Int)<=(cap:Int):=X;have cm:(0:Int)<=(q:Int):=X;clear af u ap ao;go_enter func168,ntmps168;go_wp2_with fail;refine cr ak.o ?_;rintro ah rfl;refine aC ?_;exact AZ (v:=.tuple #[]) (by simp [results,results168,go_sem]) rfl (al.o _ _ rfl V)
 ·have ad:Hid (M=m.l++List.replicate (q - m.l.length) aS):=lH (by rw [be.o,AA ae]);(have an:m.l.length+(q - m.l.length)=q:=X);obtain ⟨bq,bj,bo,bp,bd⟩:=EL Tryz.C9;(have bc:pO o.drew v m.l:=by{rcases bb with bw|⟨b,cap,e,ap,u,af⟩;{exact .inl bw};{(have ay:p≠b:=by intro e;have:=ab.o;rw [e,u] at this;omega);exact .inr ⟨b,cap,e,ap,(af.fr aa (λe=>ay e.symm)).fr (S:=No) ⟨rfl,rfl,rfl,AU _,λ_ _ _=>rfl⟩ id⟩}});obtain ⟨base,cap,rfl⟩:=bc.slice;(have bl:(Builtin.firstCells bq.size m.l.length (.slice base m.l.length m.l.length)).run prog o.drew.drew=.ok (m.l.flatMap bY).toArray o.drew.drew:=by{rw [bp];rcases bc with ⟨A,Q⟩|⟨b,cap',A,_,u⟩;{simp only [KX] at A;rw [A.1,Q];exact run_firstCells_none o.drew.drew 5 0 0 0};{cases A;have:=bC.firstCells (P:=prog) (w:=o.drew.drew) (c:=bY) vO (u.fr (S:=No) ⟨rfl,rfl,rfl,AU _,λ_ _ _=>rfl⟩ id) m.l.length m.l.length m.l.length (AU _);rwa [AY] at this}});have ax:=λH=>Lib.run_append_grow_zeros o.drew 77 3 H 59 bq _ .i64 .i64 underlying77 underlying3 bj bo base m.l.length m.l.length _ bl (q - m.l.length) X X X X (by rw [bd];omega) (by rw [bd,an];exact growslice_fits X X);rw [an] at ax;have cj:=grownCap_ge o.drew q m.l.length 59;have bz:=NL o.drew q m.l.length 59 (by unfold maxLen;omega);generalize grownCap o.drew q m.l.length 59=G at*;obtain ⟨r,am⟩:∃r,r=o.drew.drew.alloc (.cells ((m.l.flatMap bY).toArray++Builtin.zeroCells (Value.agg #[Z 0,Z 0,Z 0,Z 0,Z 0]).cells (q - m.l.length)++Builtin.zeroCells (Value.agg #[Z 0,Z 0,Z 0,Z 0,Z 0]).cells (G - q)) 59):=⟨_,rfl⟩
  have az:∀H,(Builtin.append_ #[77,3] H #[.slice base m.l.length m.l.length,Z ((q:Int) - (m.l.length:Int))]).run prog o.drew=.ok (O o q G) r:=λH=>by
   have:=ax H;rw [show ((q - m.l.length:Nat):Int)=(q:Int) - (m.l.length:Int) by omega] at this;rw [am];exact this
  have au:Fr No o r:=am▸Fr.alloc (a:=o) (b:=o.drew.drew) ⟨rfl,rfl,rfl,AU _,λ_ _ _=>rfl⟩ _;(have bh:M.length=q:=by rw [ad.o,AB,KQ];exact an);(have bm:bC bY 5 59 r o G M:=by{refine bC.of_block vO (am▸aQ o.drew.drew _) ?_ X (λk cn B=> ?_);{simp only [Array.size_append,MP,mO vO,Builtin.zeroCells,Array.size_map,Array.size_range,Pj];omega};{(have ag:(List.replicate (q - m.l.length) aS).flatMap bY=(Builtin.zeroCells (Value.agg #[Z 0,Z 0,Z 0,Z 0,Z 0]).cells (q - m.l.length)).toList:=by{rw [Yl _ 5 _ Pj,Wv];rfl});rw [ad.o,EU,ag] at B;have ao:=(AX.1 B).1;rw [MX (U ao)];rw [<-B,<-CS];simp}});have ar:=au.aB aw id;have ct:=aU ar 2;have c3:r.cell? (I p 2)=some (.slice base m.l.length cap):=by rw [aA ar];rfl
  have bn:=aa.o.size;have cd:=lt_of_block aj.o;have V:Hid (kL w E K i p ⟨n,M⟩ (r.setCell (I p 2) (O o q G))):=lH (by
   have ai:Fr (· =p) w (r.setCell (I p 2) (O o q G)):=(aa.o.trans au (λ_ _ e=>e.elim)).trans (dZ r p 2 _) zq;refine jR.En (cap:=G) (b:=o.heap.size) ab aj av bn ai ?_ (bm.fr (dZ r p 2 _) X) bz;rw [bh];exact setCell_at ar 2 _)
  (have br:prog.follows .mixedOrders=true:=N);(have cf:¬(q:Int)<=(m.l.length:Int):=X);clear bh bm ar am au ax bl an bj bo bp bd bb ae bn cd;rcases bc with ⟨A,Q⟩|⟨b,cap',A,bk,u⟩
  ·simp only [KX] at A;obtain ⟨rfl,ag,rfl⟩:=A;have bt:Hid (∀H,(Builtin.append_ #[77,3] H #[nS,Z (q:Int)]).run prog o.drew=.ok (O o q G) r):=λH=>by
    have:=az H;rwa [ag,Int.natCast_zero,Int.sub_zero] at this
   have bu:Hid (IntKind.i64.wrap (q:Int)=(q:Int)):=lH (by rw [BG];omega);clear az;rw [ag] at*;clear ag Q;go_enter func168,ntmps168;go_wp2_with fail;refine cr ak.o ?_;rintro ah rfl;go_wp2_with fail;refine qC br (λW=>W=ah.drew) [23,24,25,26] N N N N (λ_ _ d _ _ h=>by cases d<;>exact h) rfl ?_;repeat (first
    | refine lJ R ?_
    | (refine kW (v:= ?_) R R ?_ ?_
       rotate_left 1;(intro W;go_simp;(try with_reducible rfl))
       simp only [pT,aI,lsS])
    | (refine kE (v:= ?_) R N R ?_ ?_
       rotate_left 1;(intro W J;have c4:W.cell? (I p 2)=some (nS):=(by rw [J];exact c2);go_simp;(try with_reducible rfl))
       simp only [pT,aI,lsS]))
   intro W J;subst J;simp only [DF,DT,DK,CP];refine Lib.wpList_append_run _ rfl (.tmp 43) (.tmp 50) 77 3 rfl (nS) (Z q) ?_ ?_ _ _ (bt.o _) ?_;{simp [Act.eval]};{simp [Act.eval,bu.o]};refine aC ?_;exact IG (v:=.tuple #[]) (by simp [results,results168,go_sem]) rfl (al.o _ _ rfl V)
  ·have ca:=u.len;have cb:=bk;cases A;have cg:(m.l.length:Int)<=(cap:Int):=X
   have bv:Hid (IntKind.i64.wrap ((q:Int) - (m.l.length:Int))=(q:Int) - (m.l.length:Int)):=lH (by rw [BG];omega);clear u bk;go_enter func168,ntmps168;go_wp2_with fail;refine cr ak.o ?_;rintro ah rfl;go_wp2_with fail;refine qC br (λW=>W=ah.drew) [23,24,25,26] N N N N (λ_ _ d _ _ h=>by cases d<;>exact h) rfl ?_;repeat (first
    | refine lJ R ?_
    | (refine kW (v:= ?_) R R ?_ ?_
       rotate_left 1;(intro W;go_simp;(try with_reducible rfl))
       simp only [pT,aI,lsS])
    | (refine kE (v:= ?_) R N R ?_ ?_
       rotate_left 1;(intro W J;have c4:W.cell? (I p 2)=some (O b m.l.length cap):=(by rw [J];exact c2);go_simp;(try with_reducible rfl))
       simp only [pT,aI,lsS]))
   intro W J;subst J;simp only [DF,DT,DK,CP];refine Lib.wpList_append_run _ rfl (.tmp 43) (.tmp 50) 77 3 rfl _ _ ?_ ?_ _ _ (az _) ?_;{simp [Act.eval]};{simp [Act.eval,bv.o]};refine aC ?_;exact IG (v:=.tuple #[]) (by simp [results,results168,go_sem]) rfl (al.o _ _ rfl V)
theorem Vx (a b c d e o r u A e':Int) (w:World):(binOp .neq 59 (.agg #[a,b,c,d,e]) (.agg #[o,r,u,A,e'])).run prog w=.ok (.bool (!decide ((⟨a,b,c,d,e⟩:Pt)=⟨o,r,u,A,e'⟩))) w:=by
 have h:=vM a b c d e o r u A e' w;rw [run_eql_struct] at h;rw [run_neq_struct];generalize (Op.equalIn 10000 59 (.agg #[a,b,c,d,e]) (.agg #[o,r,u,A,e'])).run prog w=B at*;(cases B with|ok b w'=>simp only [Result.andThen,Result.ok.injEq,Value.bool.injEq] at h ⊢;obtain ⟨rfl,rfl⟩:=h;exact ⟨rfl,rfl⟩|halt x w'=>simp [Result.andThen] at h)
theorem Wu (p:Nat) (m:cO) (d:Dl) (w:World) (h:oK w p m) (u:m.l.length<=1000) (hd:dP d):Calls prog 167 #[Y p,iQ d] w (o7 w (decide (gX m d))):=by
 obtain ⟨_,_,_,_,_,_,_,_,r⟩:=id hd;rcases r with ⟨o,_⟩|⟨o,_⟩|⟨o,_⟩;{(have:decide (gX m d)=decide (d.b*64<d.s):=by{rw [decide_eq_decide];unfold gX;rw [o];simp});rw [this];exact aDI p m d w hd o};{(have:decide (gX m d)=true:=by{rw [BR];exact .inr (.inl o)});rw [this];exact aD9 p d w hd o};{exact aEK p m d w h u hd o}
def jI (m:cO) (d:Dl):cO:=
 if d.k=1 then ⟨max m.size d.s.toNat,(gK m.l (dA (max m.size d.s.toNat))).set d.b.toNat d.t⟩
 else if d.k=2 then ⟨d.s.toNat,gK m.l (dA d.s.toNat)⟩
 else ⟨m.size,m.l.set d.b.toNat d.t⟩
def bP (m:cO) (d:Dl):cO:=if gX m d then jI m d else m
def eQ (m:cO):Prop:=m.size<=4096/\m.l.length=dA m.size
theorem Aa (L:List Pt) (n:Nat):(gK L n).length=n:=by
 unfold gK;split;{rw [BV];omega};{rw [AB,KQ];omega}
def uQ (w:World) (o:Nat->Nat) (K i p:Nat) (m:cO) (e:Ending) (w':World):Prop:=(∃v b,e=.returned (.tuple #[v,.bool b]))/\kL w o K i p m w'
theorem jR.setAt {w:World} {o:Nat->Nat} {K i p b cap:Nat} {n:Int} {l:List Pt} {size:Nat} (h:o p=K+3000+i) (u:w.heap[p]? =some (.cells #[true,size,O b l.length cap] 162 (0,0))) (A:aF w o) (r:o b=K+4000+i) (Q:i<1000) (E:cap<=maxLen) (J:bC bY 5 59 w b cap l) (j:Nat) (B:j<l.length) (t:Pt):
  kL w o K i p ⟨size,l.set j t⟩ (w.setCells b (j*5) (bY t)):=by
 have H:p≠b:=by intro e;rw [e,r] at h;omega
 have f:=lL b (bY t) (j*5) w;exact ⟨o,⟨f.mono (λk _ e=>by rw [e];exact .inr r),λ_ _=>rfl,λk u=>A k (AV f.size u)⟩,h,_,f.aB u H,.inr ⟨b,cap,by rw [EZ],E,r,bC.set (c:=bY) vO J j B t⟩⟩
def PtZ (w:World) (o:Nat->Nat) (v:Value) (L:List Pt):Prop:=(v=.slice none 0 0/\L= [])\/∃b cap,v=.slice (some (I b 0)) L.length cap/\cap<=maxLen/\o b=0/\bC bY 5 59 w b cap L
theorem qX.z {w w0:World} {o:Nat->Nat} {v:Value} {L:List Pt} (h:qX w w0 v L) (u:aF w0 o):PtZ w o v L:=by
 rcases h with h|⟨b,cap,e,A,r,B⟩;{exact .inl h};{exact .inr ⟨b,cap,e,A,u b r,B⟩}
theorem PtZ.val {w:World} {u:Nat->Nat} {v:Value} {L:List Pt} (h:PtZ w u v L):pO w v L:=by
 rcases h with h|⟨b,cap,e,o,_,r⟩;{exact .inl h};{exact .inr ⟨b,cap,e,o,r⟩}
theorem PtZ.step {C:Nat->Prop} {w w':World} {u A:Nat->Nat} {v:Value} {L:List Pt} (h:PtZ w u v L) (s:Step C w u w' A) (B:¬C 0):PtZ w' A v L:=by
 rcases h with h|⟨b,cap,e,E,o,r⟩;{exact .inl h};{exact .inr ⟨b,cap,e,E,(s.old b r.lt).trans o,r.fr s.fr (by rw [o];exact B)⟩}
theorem A7 (K i:Nat):¬fJ K i 0:=by unfold fJ;omega
theorem aDf (o:Nat->Nat) (K i p:Nat) (m:cO) (d:Dl) (w:World) (h:jR w o K i p m) (A:aF w o) (Q:m.l.length<=1000) (hd:dP d) (H:¬gX m d):
  Calls prog 116 #[.pointer (some (I p 0)),iQ d] w (uQ w o K i p m):=by
 have u:Fr No w (w.alloc (.cells (dD d).toArray 61)):=(Fr.refl w).alloc _;have r:=lH (Wu p m d _ (h.reads.fr u) Q hd);rw [BF H] at r;have V:Hid (∀e w',(∃v b,e=.returned (.tuple #[v,.bool b]))->Fr No w w'->uQ w o K i p m e w'):=λe w' ab f=>⟨ab,o,Step.no A f,h.no A f⟩;generalize uQ w o K i p m=ad at*;have E:=lH u;obtain ⟨_,v,J,_⟩:=h;have B:=u.aB J id;unfold o7 at r;unfold dD at B r E;unfold iQ at*;have ae:(w.alloc (.cells [.int .i64 d.k,.int .i64 d.i,.int .i64 d.b,.int .i64 d.s,.int .i64 d.t.c,.int .i64 d.t.l,.int .i64 d.t.n,.int .i64 d.t.a,.int .i64 d.t.z,.int .i64 d.o.c,.int .i64 d.o.l,.int .i64 d.o.n,.int .i64 d.o.a,.int .i64 d.o.z].toArray 61)).cell? (I p 0)=some (.bool true):=by rw [aA B];rfl
 clear A J B u hd H Q;go_enter func116,ntmps116;go_wp2_with fail;refine cr r.o λaf aa=> ?_;go_wp2_with fail;exact V.o _ _ ⟨_,_,rfl⟩ (E.o.trans aa zq)
theorem kL.set {w w':World} {aa:Nat->Nat} {K i p J:Nat} {r:List Pt} (g:kL w aa K i p ⟨J,r⟩ w') (ae:i<1000) (o:Nat) (E:o<r.length):
  ∃b cap,w'.heap[p]? =some (.cells #[true,Z J,O b r.length cap] 162 (0,0))/\cap<=maxLen/\r.length<=cap/\w'.drew.there b (o*5) 5/\∀t,kL w aa K i p ⟨J,r.set o t⟩ (w'.drew.setCells b (o*5) (bY t)):=by
 obtain ⟨aj,H,ag,v,B,V⟩:=g;dsimp only at B V;rcases V with ⟨_,af⟩|⟨b,cap,rfl,Q,ab,u⟩;{rw [af] at E;simp at E};have A:Fr No w' w'.drew:=(Fr.refl _).drew;refine ⟨b,cap,B,Q,u.len,bC.there (u.fr A id) o 5 (by have:=u.len;omega),λt=> ?_⟩;obtain ⟨ah,ai,ad⟩:=jR.setAt (n:=0) (w:=w'.drew) ag B H.fresh ab ae Q (u.fr A id) o E t;exact ⟨ah,(H.trans (Step.no H.fresh A) (λ_ e=>e)).trans ai (λ_ e=>e),ad⟩
theorem aAY (r:Nat->Nat) (K i p:Nat) (m:cO) (d:Dl) (w:World) (h:jR w r K i p m) (db:aF w r) (bo:i<1000) (bq:eQ m) (hd:dP d) (bm:gX m d):
  Calls prog 116 #[Y p,iQ d] w (uQ w r K i p (jI m d)):=by
 (have bp:m.l.length<=1000:=by rw [bq.2];have:=bq.1;unfold dA;omega);have ap:Fr No w (w.alloc (.cells (dD d).toArray 61)):=(Fr.refl w).alloc _;have dw:iC (w.alloc (.cells (dD d).toArray 61)) w d:=aQ w _;have ah:=lH (Wu p m d _ (h.reads.fr ap) bp hd);rw [BO bm] at ah;have ek:Hid (∀v b w',kL w r K i p (jI m d) w'->uQ w r K i p (jI m d) (.returned (.tuple #[v,.bool b])) w'):=λv b w' g=>⟨⟨v,b,rfl⟩,g⟩;generalize uQ w r K i p (jI m d)=fq at*;have av:=lH ap;have aw:=lH h;have B:=lH db;obtain ⟨_,v,E,_⟩:=id h;have ch:=lH bq;have Q:=lH hd;have ax:=lH bm;have ce:=lH dw;unfold o7 at ah;unfold iQ at*;have cp:=aA (ap.aB E id);unfold dD at ah av cp;clear db E ap hd bm h dw;go_enter func116,ntmps116;go_wp2_with fail;refine cr ah.o λff bi=> ?_;have al:=lH (av.o.trans bi zq);have cf:=lH (ce.o.fr bi);obtain ⟨v,E,dq⟩:=aw.o.reads.fr al.o;have c2:=aA E;have cb:=lH (Yn v m.l ff dq X);clear cp E dq bi ah;go_wp2_with fail;refine cb.o.mono ?_;rintro e V ⟨gn,rfl,dl,bj⟩;have am:=lH (al.o.trans bj zq);have bf:=lH ((Hg dl).z (Step.no (C:=λ_=>False) B al).fresh);have bc:=lH (cf.o.fr bj);have ag:=lH (aw.o.no B am);have ab:=lH (Step.no (C:=λ_=>False) B am).fresh;obtain ⟨gp,wc,rfl⟩:=bf.o.val.slice;(have bx:prog.follows .mixedOrders=true:=N);have co:Hid (r w.heap.size=0):=B.o _ (AU _);have cg:Hid (∀W ar,Step (fJ K i) V r W ar->W.heap[w.heap.size]? =some (.cells (cV d) 61 (0,0))):=λW ar s=>s.block bc (by rw [co.o];exact A7 K i);have cl:=lH ag.o.1;obtain ⟨fe,dg,dr⟩:=ag.o.reads;have aa:=lH dg;have cn:=lH dr;have em:Hid (jI m d=jI m d):=lH rfl;obtain ⟨dz,_,ea,au,_⟩:=bc.o.cells;clear dl bj c2 cb dg dr em;go_upto_block 0 with fail;go_cut [] (λaf=>Hid (kL V r K i p (jI m d) af));(case first=>rcases Q.o.2.2.2.2.2.2.2.2 with ⟨E,bw⟩|⟨E,bw⟩|⟨E,bw⟩;(all_goals have u:=lH E;clear bw E dz);(case' inr.inl=>have cu:(d.k==1)=false:=(by rw [u.o];rfl);have er:(d.k==2)=true:=(by rw [u.o];rfl);obtain ⟨n,br⟩:∃n:Nat,d.s=n:=⟨d.s.toNat,by have:=Q.o.2.2.2.2.1;omega⟩;have an:Hid (jI m d=⟨n,gK m.l (dA n)⟩):=lH (by unfold jI;rw [u.o,br];rfl);have ao:=lH (U9 r K i p m n V ag ab bo (by have:=Q.o.2.2.2.2.2.1;omega) bp);rw [br] at au;clear br;go_wp2_with fail;refine cr ao.o λJ g=> ?_;have bb:=lH g;clear g;go_wp2_with fail;go_meet;exact lH (by rw [an.o];exact bb.o));(all_goals obtain ⟨H,ad⟩:∃n:Nat,d.b=n:=⟨d.b.toNat,by have:=Q.o.2.2.1;omega⟩);(case' inl=>have cu:(d.k==1)=true:=(by rw [u.o];rfl);obtain ⟨bz,bt⟩:∃n:Nat,d.s=n:=⟨d.s.toNat,by have:=Q.o.2.2.2.2.1;omega⟩;have ai:H*64<bz:=(by have:=u.o;rcases ax.o with ⟨_,h⟩|h|h<;>omega);obtain ⟨A,dj⟩:∃A,A=max m.size bz:=⟨_,rfl⟩;have ez:A<=4096:=(by have:=ch.o.1;have:=Q.o.2.2.2.2.2.1;omega);have ex:max (m.size:Int) (bz:Int)=(A:Int):=X;have ew:(gK m.l (dA A)).length=dA A:=Aa _ _;have aj:H<(gK m.l (dA A)).length:=(by unfold dA at*;omega);have an:Hid (jI m d=⟨A,(gK m.l (dA A)).set H d.t⟩):=lH (by unfold jI;rw [u.o,bt,ad,dj];rfl);have c1:=aA aa.o;have ao:=lH (U9 r K i p m A V.drew (ag.o.no ab (Fr.refl _).drew) ab bo ez bp);rw [bt] at au;have ci:=lH ad;clear dj ew bt ad;generalize gK m.l (dA A)=gc at*;go_wp2_with fail;refine bU [8] ?_ bx;go_wp2_with fail;refine ao.o.mono ?_;rintro e ca ⟨rfl,g⟩;have g:=kL.later ab (Fr.refl _).drew g;clear c1 ao ex ai);(case' inr.inr=>have cu:(d.k==1)=false:=(by rw [u.o];rfl);have er:(d.k==2)=false:=(by rw [u.o];rfl);have ft:(d.k==3)=true:=(by rw [u.o];rfl);have aj:H<m.l.length:=(by have:=u.o;rcases ax.o with ⟨h,_⟩|h|⟨_,h,_⟩<;>omega);have an:Hid (jI m d=⟨m.size,m.l.set H d.t⟩):=lH (by unfold jI;rw [u.o,ad];rfl);have c1:=aA aa.o;have cc:=lH (Yn fe m.l V cn X);have ci:=lH ad;clear ad;go_wp2_with fail;refine cc.o.mono ?_;rintro e ae ⟨gm,rfl,dm,bk⟩;rcases Hg dm with ⟨_,fa⟩|⟨bg,bh,rfl,cz,cy,da⟩;{rw [fa] at aj;simp at aj};have aq:=bk.aB aa id;have fk:ae.frozen? (I p 2)=false:=aU aq 2;have eq:=aA aq;have cv:Fr (· =p) V (ae.setCell (I p 2) (O bg m.l.length bh)):=bk.aY.trans (dZ ae p 2 _) zq;have ga:=lt_of_block aa.o;have g:kL V r K i p m (ae.setCell (I p 2) (O bg m.l.length bh)):=jR.En cl aa ab cy cv (setCell_at aq 2 _) (da.fr (dZ ae p 2 _) X) cz;clear da dm bk aq cv c1 cc cz cy;go_upto_region 12 with fail;clear eq fk;generalize ae.setCell (I p 2) (O bg m.l.length bh)=ca at*);(all_goals obtain ⟨ep,ct,dx,di,fx,dp,dc⟩:=g.set bo H aj;obtain ⟨ar,dy,_⟩:=g;obtain ⟨_,_,y2,_,y4,y5,y6,y7,gq,_⟩:=(show iC ca w d from cg.o ca ar dy).cells;rw [ci.o] at y2;have el:=lH dp;have bb:=lH (dc d.t);have d2:=aA dx;have gg:=CY.2 aj;have gh:(0:Int)<=(H:Int):=X;have gi:(H:Int)<(ct:Int):=X;have gj:ct<=9223372036854775807:=di;clear dp dc dx dy ea au di;go_wp2_with fail;refine bU [8,9] ?_ bx;go_wp2_with (refine KH R 59 _ _ R ep (H*5) (cP d.t) ?a1 ?a2 el Tryz.qQ (by simp [Value.oneCell']) ?_);(case a1=>rfl);(case a2=>rfl);simp only [Act.put];go_meet;exact lH (by rw [an.o];exact bb.o)))
 case rest=>
  obtain ⟨J,rfl⟩:∃J:World,J=wc:=⟨_,rfl⟩;have eb:=hcut.o;obtain ⟨fc,ak,bn⟩:=eb;have en:=lH (bf.o.step ak (A7 K i)).val;have cd:=lH bn.reads;have ec:Hid (∀W,Fr No J W->kL w r K i p (jI m d) W):=λW f=>kL.later B am ⟨fc,ak.trans (Step.no ak.fresh f) (λ_ e=>e),bn.no ak.fresh f⟩;generalize jI m d=o at*;clear ak bn hcut bc cg dz ea au bf ag ab cl aa cn co Q ax ce cf aw B ch av al am;obtain ⟨fb,de,dt,du,dv⟩:=EL Tryz.C9;have ee:=lH de;have ef:=lH dt;have eg:=lH du;have eh:=lH dv;clear de dt du dv;go_wp2_with fail;go_loopw [7,79] (λg a wr=>∃(j:Nat) (G:List Pt),a=Z j/\j<=m.l.length/\G.length<=j/\Hid (wr.ownsRow J 59 5 g G.length (G.flatMap bY))/\Hid (Fr No J wr)) (λ_ a _=>m.l.length - (intOf a).toNat);case atStart=>exact ⟨0, [],rfl,BA _,AU _,lH ⟨rfl,.inl ⟨rfl,rfl⟩⟩,lH (Fr.refl _)⟩
  case round=>
   obtain ⟨j,G,rfl,df,fw,cj,B⟩:=hrel;obtain ⟨cw,cx,rfl⟩:=cj.o.shape;by_cases ai:j<m.l.length
   ·obtain ⟨fh,rfl,ds,bv⟩:=(en.o.fr B).row X;have cm:=lH (bv.row j m.l[j] (AC ai));have fy:=bv.len;have fz:wc<=9223372036854775807:=ds;have fd:(j:Int)<(m.l.length:Int):=X;have ge:(j:Int)<(wc:Int):=X;have gf:(0:Int)<=(j:Int):=X;generalize m.l[j]=x at*;unfold bY at cm;have bl:Fr No wr (wr.alloc (.cells (cP x) 59)):=(Fr.refl wr).alloc _;have ck:=lH (Cm cj bl zq);have az:=lH (B.o.trans bl zq);have B1:=lH (aQ wr (.cells (cP x) 59));clear bl bv ds;go_upto_region 17 with (refine EW R 59 _ R fh (j*5) R (cP x) _ cm underlying59 rfl Tryz.qQ ?_);generalize wr.alloc (.cells (cP x) 59)=af at*;generalize wr.heap.size=gk at*;obtain ⟨gl,dh,bu⟩:=cd.o.fr az.o;obtain ⟨eo,c2,rfl⟩:=bu.slice;have B2:=lH dh;have ed:=lH (cd.o.fr az);have C1:Hid (∀W,Fr No af W->Calls prog 84 #[dF x] W λe w'=>e=.returned (.bool (decide (x=aS)))/\Fr No W w'):=λW _=>yC 84 (.inl rfl) x W;have C2:Hid (∀W,Fr No af W->Calls prog 39 #[Y p,j] W (xM W (dV o j))):=λW f=>Xz p o j W (ed.o.fr f);have C3:Hid (∀W,Fr No af W->Calls prog 169 #[.slice eo o.l.length c2,dF x] W (Ew W (o.l.any λy=>decide (x=y)))):=λW f=>Vs _ _ x W (bu.fr f);have C4:Hid (∀W,Fr No af W->Calls prog 169 #[.slice cw G.length cx,dF x] W (Ew W (G.any λy=>decide (x=y)))):=λW f=>Vs _ _ x W (Hg (Cm ck f zq)).val;have N1:Hid (∀w,_):=λw=>Vx (dV o j).c (dV o j).l (dV o j).n (dV o j).a (dV o j).z x.c x.l x.n x.a x.z w;unfold xM at C2;unfold Ew at C3 C4;unfold dF at C1 C2 C3 C4;clear dh bu;generalize decide (x=aS)=fi at*;generalize decide ((⟨(dV o j).c,(dV o j).l,(dV o j).n,(dV o j).a,(dV o j).z⟩:Pt)=⟨x.c,x.l,x.n,x.a,x.z⟩)=fj at*;generalize (o.l.any λy=>decide (x=y))=fl at*;generalize (G.any λy=>decide (x=y))=fo at*;generalize dV o j=fs at*;generalize o.l=gd at*;cases fi;cases fj;cases fl;cases fo;(all_goals refine Qh [] ?_ bx;intro W be;have ay:=lH (az.o.trans be zq);have bd:=lH (Cm ck be zq))
    rotate_left 1;all_goals try
     go_wp2_with fail;go_roundw;{exact ⟨j+1,G,by go_num,ai,by omega,bd,ay⟩};simp [intOf];omega
    have gb:=ay.o.size;have s:=aA (be.o.aB B1 id);go_wp2_with (at_builtin;(refine wpList_append_lies _ R _ _ 77 R J 59 fb _ 5 40 underlying77 ee ef eg eh rfl (by decide) (.slice cw G.length cx) G.length (G.flatMap bY) R (bd.o.alloc _) (I W 0) 1 1 (cP x) R R ?d1 (by simp [Value.oneCell']) (by decide) (by unfold maxLen;omega) X ?d5 (W.heap.size+1) ?d6 ?_));(case d1=>exact World.news_of_block (cs:= #[Z x.c,Z x.l,Z x.n,Z x.a,Z x.z]) (t:=59) (fr:=(0,0)) (AQ W _));(case d5=>rw [fC];omega);(case d6=>simp);intro fu cap fg dn dd eu ev;(have dk:Fr No J fg:=by{refine (ay.o.alloc _).grown dd (λj df=> .inr ?_);exact Q8 bd j df});have ei:=lH dk;have ej:=lH dn;clear dn dd eu ev dk;go_wp2_with fail;go_roundw;{refine ⟨j+1,G++ [x],by go_num,ai,by rw [AB,AO];omega,lH ?_,ei⟩;have et:=ej.o;rw [EU,AB];simp only [DN,GN,EN,AO];exact et};simp [intOf];omega
   {(obtain rfl:j=m.l.length:=by omega);have fd:¬(m.l.length:Int)<(m.l.length:Int):=X;go_wp2_with fail;exact ek.o _ true _ (ec.o _ B)}
theorem Qo (o:Nat->Nat) (K i p:Nat) (m:cO) (d:Dl) (w:World) (h:jR w o K i p m) (A:aF w o) (B:i<1000) (u:eQ m) (hd:dP d):
  Calls prog 116 #[Y p,iQ d] w (uQ w o K i p (bP m d)):=by
 (have E:m.l.length<=1000:=by rw [u.2];have:=u.1;unfold dA;omega);unfold bP;by_cases r:gX m d;{rw [AL r];exact aAY o K i p m d w h A B u hd r};{rw [AA r];exact aDf o K i p m d w h A E hd r}
def qG (ps:List (List UInt8)):List UInt8:=47::Lib.join ps [47]
theorem Uc (x r):qG (x::r)=Lib.joinTail [47] (x::r):=by
 rw [qG,Lib.join_cons];simp [Lib.joinTail]
theorem rV (x) (h:eH x=true):(∀k:Nat,x[k]? ≠some 47)/\1<=x.length/\x.length<=12:=by
 simp only [eH,BM,BR] at h;obtain ⟨⟨⟨⟨⟨o,r⟩,_⟩,_⟩,_⟩,u⟩:=h;have:=Lib.indexByte_ge x 47;exact ⟨λk=>Lib.indexByte_none X k,o,r⟩
theorem aFO (o) (h:∀x∈o,eH x=true):(Lib.joinTail [47] o).length<=13*o.length:=by
 (induction o with|nil=>simp [Lib.joinTail]|cons x r ih=>have B:=(rV x (h x D)).2.2;have u:=ih (λy A=>h y (by simp [A]));simp only [Lib.joinTail,ET,List.flatten_cons,AB,BU,EO] at u ⊢;omega)
theorem aEU (r n) (h:∀x∈r,eH x=true) (u:r.length<=n):jP n (Lib.joinTail [47] r)=some r:=by
 induction r generalizing n with
 | nil=>simp [Lib.joinTail,jP]
 | cons x o ih=>
  obtain ⟨n,rfl⟩:∃m,n=m+1:=⟨n - 1,by simp at u;omega⟩;have B:=rV x (h x D);have e:Lib.joinTail [47] (x::o)=47::(x++Lib.joinTail [47] o):=by simp [Lib.joinTail]
  have a1:∀k,k<x.length->(x++Lib.joinTail [47] o)[k]? ≠some 47:=λk A=>by
   rw [GR A];exact B.1 k
  (have a2:(x++Lib.joinTail [47] o)[x.length]? =some 47\/x.length=(x++Lib.joinTail [47] o).length:=by{rcases o with _|⟨y,o⟩;{right;simp [Lib.joinTail]};{left;rw [IE (AU _)];simp [Lib.joinTail]}});(have a3:eH ((x++Lib.joinTail [47] o).take x.length)=true:=by{rw [List.take_left];exact h x D});rw [e,Ib n _ x.length a1 a2 a3,List.drop_left,List.take_left,ih n (λy E=>h y (by simp [E])) (by simp at u;omega)];rfl
theorem aBZ (o) (h:∀x∈o,eH x=true) (u:o.length<=8):pathOf (qG o)=some o:=by
 rcases o with _|⟨x,r⟩;{rfl};{have A:=rV x (h x D);(have e:Lib.joinTail [47] (x::r)=47::(x++Lib.joinTail [47] r):=by simp [Lib.joinTail]);rw [Uc,pathOf,AA,AA,aEU _ _ h u];{rw [e];simp};{rw [e];rcases x with _|⟨a,x⟩;{simp at A};{simp}}}
theorem Y2 (o) (h:∀x∈o,eH x=true) (r:o.length<=8):(qG o).length<=104:=by
 rcases o with _|⟨x,u⟩;{decide};{rw [Uc];have:=aFO _ h;omega}
theorem aBu (n l o) (h:jP n l=some o):(∀x∈o,eH x=true)/\o.length<=n:=by
 induction n generalizing l o with
 | zero=>
  rcases l with _|⟨c,t⟩;{simp [jP] at h;subst h;simp};{simp [jP] at h}
 | succ n ih=>
  rcases l with _|⟨c,t⟩;{simp [jP] at h;subst h;simp}
  ·rw [jP] at h;split at h
   ·rename_i B
    obtain ⟨H,u,rfl⟩:=CW.1 h;obtain ⟨A,E⟩:=ih _ _ u;exact ⟨λx r=>by
     rcases CE.1 r with rfl|r;{exact B.2}
     ·exact A x r,by simp;omega⟩
   {cases h}
theorem sF (l o) (h:pathOf l=some o):(∀x∈o,eH x=true)/\o.length<=8:=by
 unfold pathOf at h;split at h;{cases h;simp};{split at h;{cases h};{exact aBu 8 l o h}}
theorem Hu {w:World} {base n v o} (h:w.ownsRow base 9 1 v n (strs o)) (u:n=o.length) (A:o≠ []):
  ∃g c,v=.slice (some (I g 0)) o.length c/\o.length<=c/\base<=g/\g<w.heap.size/\∀(j:Nat) x,(o.map ba)[j]? =some x->w.cell? (I g (0+j))=some (.string x):=by
 subst u;rcases h.2 with ⟨rfl,J⟩|⟨g,cap,H,rfl,V,B,u,_,ab,aa⟩;{exact absurd (CU J) A};{refine ⟨g,cap,rfl,u,V,lt_of_block B,λj x E=> ?_⟩;(have r:(strs o)[j]? =some (.string x):=by{simp only [strs,FB,CW] at E ⊢;obtain ⟨p,A,rfl⟩:=E;exact ⟨p,A,rfl⟩});rw [<-aa] at r;(have Q:H.toList[j]? =some (.string x):=by{rw [EH] at r;split at r;{exact r};{cases r}});rw [BP,aA B];simpa using Q}
theorem aCK (g c k o w) (ad:k=o.length) (H:∀(j:Nat) x,(o.map ba)[j]? =some x->w.cell? (I g (0+j))=some (.string x)) (J:g<w.heap.size) (E:o.length<=c) (Q:∀x∈o,eH x=true) (B:o.length<=8):
  Calls prog 312 #[O g k c] w λe w'=>e=.returned (.string (ba (qG o)))/\Fr No w w':=by
 subst ad;(have ab:(Lib.join o [47]).length<=104:=by{have:=Y2 o Q B;simp [qG] at this;omega});(have u:(o.map ba).map (·.data.toList)=o:=by{rw [List.map_map];(conv=>rhs;rw [<-List.map_id o]);apply JD;intro x _;exact l9 x});have r:(⟨#[47]⟩:ByteArray).data.toList= [47]:=rfl;have A:=lH (Tryz.strings_Join g 0 c (o.map ba) ⟨#[47]⟩ w H J (by rw [EP];omega) (by rw [EP];exact E) (by rw [u,r];omega));have V:(o.map ba).length=o.length:=EP ..;rw [u,V,r] at A;(have af:(⟨#[47]⟩:ByteArray)++⟨(Lib.join o [47]).toArray⟩=ba (qG o):=by{apply ByteArray.ext;simp [ba,qG]});(have ag:¬(9223372036854775807<(⟨#[47]⟩:ByteArray).size+(⟨(Lib.join o [47]).toArray⟩:ByteArray).size):=by{(have:(⟨(Lib.join o [47]).toArray⟩:ByteArray).size=(Lib.join o [47]).length:=by simp [ByteArray.size]);rw [this];have:(⟨#[47]⟩:ByteArray).size=1:=rfl;omega});clear H Q B u r V ab J E;generalize (Lib.join o [47]).toArray=ae at*;generalize o.length=n at*;go_enter func312,ntmps312;go_wp2_with fail;refine A.o.mono ?_;rintro e w' ⟨rfl,aa⟩;go_wp2_with fail;go_ret;exact ⟨rfl,Fr.of_below aa (AU _)⟩
def Jh (w:World) (l:List UInt8) (e:Ending) (w':World):Prop:=
 Fr No w w'/\match pathOf l with
  | none=>e=.returned (.tuple #[.string ⟨#[]⟩,.string ⟨#[]⟩,Z 12])
  | some []=>e=.returned (.tuple #[.string ⟨#[]⟩,.string ⟨#[]⟩,Z 1])
  | some (p::ps)=>e=.returned (.tuple #[(ba (qG (p::ps).dropLast)),(ba ((p::ps).getLast D)),Z 0])
theorem aAD (l w) (aa:l.length<=1000000):Calls prog 288 #[(ba l)] w (Jh w l):=by
 have A:=lH (Ba l w aa);have ah:=lH (sF l);clear aa;unfold Jh;unfold oO at A;generalize pathOf l=P at*;rcases P with _|_|⟨p,o⟩;{go_enter func288,ntmps288;go_wp2_with fail;refine A.o.mono ?_;rintro e E ⟨r,rfl⟩;go_wp2_with fail;exact AZ (v:=.tuple _) (by simp [results,results288,go_sem]) rfl ⟨r,rfl⟩};{go_enter func288,ntmps288;go_wp2_with fail;refine A.o.mono ?_;rintro e E ⟨r,v,rfl,B⟩;obtain ⟨a,cap,rfl⟩:=B.shape;go_wp2_with fail;exact AZ (v:=.tuple _) (by simp [results,results288,go_sem]) rfl ⟨r,rfl⟩}
 ·obtain ⟨ad,aj⟩:=ah.o (p::o) rfl;have ag:=lH ad;clear ad;go_enter func288,ntmps288;go_wp2_with fail;refine A.o.mono ?_;rintro e E ⟨r,v,rfl,B⟩;obtain ⟨g,c,rfl,ak,_,al,H⟩:=Hu B rfl (by simp);have ab:(p::o).length=o.length+1:=rfl;rw [ab] at ak aj ⊢;have hd:o.length=(p::o).dropLast.length:=by simp
  have af:=lH (aCK g c o.length (p::o).dropLast E.drew hd (λj x u=>H j x (by
   rw [List.map_dropLast] at u;simp only [List.getElem?_dropLast] at u;split at u;{exact u}
   ·cases u)) al X (λx ao=>ag.o x (List.dropLast_subset _ ao)) X)
  have am:E.cell? (I g o.length)=some (.string (ba ((p::o).getLast (by simp)))):=by
   have:=H o.length (ba ((p::o).getLast (by simp))) (by
    rw [FB,List.getLast_eq_getElem];simp)
   rw [BP] at this;exact this
  have ap:=lH am;clear H B hd ab;generalize Q:(p::o).dropLast=D at*;generalize V:(p::o).getLast _=T at*;have ae:=lH Q;have ai:=lH V;clear Q V;generalize an:o.length=n at*;clear an;(have aq:(0:Int)<=(n:Int):=X);(have ar:(n:Int)<=(c:Int):=X);(have au:(n:Int)+1<=(c:Int):=X);(have av:((n+1:Nat):Int) - 1=n:=X);have aw:(n:Int)<(n:Int)+1:=X
  go_wp2_with fail;go_region_held3 (λw'=>w'.cell? (I g n)=some (.string (ba T))) (first|go_keep|exact J.cell_of (by assumption) id)
   ((go_at_call 312;refine af.o.mono ?_;rintro e ax ⟨rfl,J⟩))
  (all_goals go_wp2_with fail;go_ret3;refine ⟨r.drew.trans J zq,?_⟩;rw [<-ae.o,<-ai.o];rfl)
theorem Qc {k l:List (List UInt8)} (r:k.length<=l.length) (h:∀i,i<k.length->k[i]? =l[i]?):k.isPrefixOf l=true:=by
 rw [JG,List.prefix_iff_eq_take];apply List.ext_getElem?;intro i;rw [EH];split;{rename_i o;exact h i o};{rename_i o;exact FZ X}
theorem Wi {k l:List (List UInt8)} {i} (o:i<k.length) (h:k[i]? ≠l[i]?):k.isPrefixOf l=false:=by
 rw [<-KI,JG,List.prefix_iff_eq_take];intro e;apply h;rw [e] at o
 conv=>lhs;rw [e]
 rw [EH,AL];simp at o;omega
theorem Tu (a b l k w) (aj:a.length<=1000000) (ak:b.length<=1000000) (ab:pathOf a=some l) (V:pathOf b=some k):
  Calls prog 232 #[(ba a),(ba b)] w λe w'=>e=.returned (.bool (k.isPrefixOf l))/\Fr No w w':=by
 have ah:∀w,Calls prog 145 #[(ba a)] w λe w'=>Fr No w w'/\∃v,e=.returned (.tuple #[v,Z 0])/\w'.ownsRow w 9 1 v l.length (strs l):=λw=>(Ba a w aj).mono (λe w' h=>by unfold oO at h;rw [ab] at h;exact h);have ai:∀w,Calls prog 145 #[(ba b)] w λe w'=>Fr No w w'/\∃v,e=.returned (.tuple #[v,Z 0])/\w'.ownsRow w 9 1 v k.length (strs k):=λw=>(Ba b w ak).mono (λe w' h=>by unfold oO at h;rw [V] at h;exact h);have bq:=(sF a l ab).2;have bp:=(sF b k V).2;have J:=lH ah;have Q:=lH ai;clear ah ai ab V aj ak;by_cases bn:l.length<k.length
 ·have E:Hid (k.isPrefixOf l=false):=lH (by
   rw [<-KI,JG];intro h;have:=h.length_le;omega)
  (have bf:(l.length:Int)<(k.length:Int):=X);go_enter func232,ntmps232;go_wp2_with fail;refine (J.o _).mono ?_;rintro e av ⟨A,ar,rfl,o⟩;obtain ⟨a1,c1,rfl⟩:=o.shape;clear o;go_wp2_with fail;refine (Q.o _).mono ?_;rintro e ad ⟨u,au,rfl,r⟩;obtain ⟨a2,c2,rfl⟩:=r.shape;clear r;go_wp2_with fail;go_ret;exact ⟨by rw [E.o];rfl,A.trans u zq⟩
 ·(have bf:¬(l.length:Int)<(k.length:Int):=X);rcases H:k with _|⟨br,bt⟩;{subst H;go_enter func232,ntmps232;go_wp2_with fail;refine (J.o _).mono ?_;rintro e av ⟨A,ar,rfl,o⟩;obtain ⟨a1,c1,rfl⟩:=o.shape;clear o;go_wp2_with fail;refine (Q.o _).mono ?_;rintro e ad ⟨u,au,rfl,r⟩;obtain ⟨a2,c2,rfl⟩:=r.shape;clear r;go_wp2_with fail;refine IW 1 ?_;rw [GM];go_wp2_with fail;go_ret;exact ⟨rfl,A.trans u zq⟩}
  ·(have aa:k≠ []:=by rw [H];simp);rw [<-H];clear H;(have ap:l≠ []:=by{rintro rfl;have:=KC.2 aa;have bk:([]:List (List UInt8)).length=0:=rfl;omega});have az:=lH aa;have bb:=lH ap;clear aa ap;go_enter func232,ntmps232;go_wp2_with fail;refine (J.o _).mono ?_;rintro e av ⟨A,ar,rfl,o⟩;obtain ⟨bc,c1,rfl,bl,_,_,al⟩:=Hu o rfl bb.o;have aw:=lH al;clear o al;go_wp2_with fail;refine (Q.o _).mono ?_;rintro e ad ⟨u,au,rfl,r⟩;obtain ⟨bd,c2,rfl,bm,_,_,am⟩:=Hu r rfl az.o;have ax:=lH am;clear r am;go_wp2_with fail;go_loopw [36] (λi wr=>∃j:Nat,i=Z j/\j<=k.length/\Hid (∀i,i<j->k[i]? =l[i]?)/\wr=ad) (λi _=>k.length - (intOf i).toNat);case atStart=>exact ⟨0,rfl,BA _,lH (λi be=>by omega),rfl⟩
   case round=>
    obtain ⟨j,rfl,bo,ag,rfl⟩:=hrel;by_cases aq:j<k.length
    ·(have bg:(j:Int)<(k.length:Int):=X);have bu:(0:Int)<=(j:Int):=X;have bv:(j:Int)<(l.length:Int):=X;(have bi:wr.cell? (I bc j)=some (.string (ba (l[j]' X))):=by{have:=u.cell_of (aw.o j (ba (l[j]' X)) (by rw [FB,AC X];rfl)) id;rw [BP] at this;exact this});(have bj:wr.cell? (I bd j)=some (.string (ba (k[j]' X))):=by{have:=ax.o j (ba (k[j]' X)) (by rw [FB,AC X];rfl);rw [BP] at this;exact this});have an:k[j]? =some (k[j]' X):=AC _;have ao:l[j]? =some (l[j]' X):=AC _;generalize l[j]' X=x at*;generalize k[j]' X=y at*;have ae:=lH an;have af:=lH ao;clear an ao;by_cases B:x=y
     ·have bh:((ba x).toList==(ba y).toList)=true:=by rw [B];simp
      have ay:Hid (∀i,i<j+1->k[i]? =l[i]?):=λi be=>by
       by_cases e:i=j;{rw [e,ae.o,af.o,B]};{exact ag.o i X}
      clear B;go_wp2_with fail;go_roundw;{exact ⟨j+1,by go_num,aq,ay,trivial⟩};simp [intOf];omega
     {(have bh:((ba x).toList==(ba y).toList)=false:=by{rw [CQ,kZ,kZ];exact B});have E:Hid (k.isPrefixOf l=false):=Wi aq (by rw [ae.o,af.o];exact λe=>B (FX e).symm);clear B;go_wp2_with fail;go_ret;exact ⟨by rw [E.o];rfl,A.trans u zq⟩}
    {(obtain rfl:j=k.length:=by omega);have E:=lH (Qc X ag);have bg:¬(k.length:Int)<(k.length:Int):=X;go_wp2_with fail;go_ret;exact ⟨by rw [E.o];rfl,A.trans u zq⟩}
