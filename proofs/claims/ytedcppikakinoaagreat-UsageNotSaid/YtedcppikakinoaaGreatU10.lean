/- Part of a proof. -/
import Derived.Test.YtedcppikakinoaaGreatU03
import Derived.Test.YtedcppikakinoaaGreatU04
import Derived.Test.YtedcppikakinoaaGreatU05
import Derived.Test.YtedcppikakinoaaGreatU06
import Derived.Test.YtedcppikakinoaaGreatU08
import Derived.Test.YtedcppikakinoaaGreatU09
import Derived.Deep.AppendSrc
import Derived.Deep.CutBlock
import Derived.Deep.DeepCutAuto
import Derived.Laws.IdiomCopy
import Derived.Laws.StructEq
import Derived.Lib.AppendZerosOnto
import Derived.Lib.SliceRun
import Derived.Shelf.SlicesE.Kit
import Derived.Shelf.Spec.SlicesInsertGrow
set_option linter.unusedSimpArgs false
set_option linter.unusedVariables false
set_option maxRecDepth 100000
set_option maxHeartbeats 12800000
namespace Go.Proofs.YtedcppikakinoaaGreat
open Go.Proofs.Tryz Go.RowKit
def aF (w:World) (o:Nat->Nat):Prop:=∀k,w.heap.size<=k->o k=0
structure Step (C:Nat->Prop) (w:World) (o:Nat->Nat) (w':World) (o':Nat->Nat):Prop where
 fr:Fr (λk=>C (o k)) w w'
 old:∀k,k<w.heap.size->o' k=o k
 fresh:aF w' o'
theorem Step.refl {C w o} (h:aF w o):Step C w o w o:=⟨Fr.refl w,λ_ _=>rfl,h⟩
theorem Step.no {C w w' o} (h:aF w o) (f:Fr No w w'):Step C w o w' o:=
 ⟨f.bC,λ_ _=>rfl,λk r=>h k (AV f.size r)⟩
theorem noS {w w' o} (h:aF w o) (f:Fr No w w'):Step (λ_=>False) w o w' o:=Step.no h f
theorem Step.trans {C D w B E r u A} (h:Step C w r B u) (g:Step D B u E A) (H:∀c,D c->C c):Step C w r E A:=
 ⟨h.fr.trans g.fr (λj J e=>by rw [h.old j J] at e;exact H _ e),λk o=>(g.old k (AP o h.fr.size)).trans (h.old k o),g.fresh⟩
theorem Step.mono {C D w w' o r} (h:Step C w o w' r) (u:∀c,C c->D c):Step D w o w' r:=⟨h.fr.mono (λ_ _ e=>u _ e),h.old,h.fresh⟩
theorem Step.block {C w w' o A} (s:Step C w o w' A) {k x} (u:w.heap[k]? =some x) (r:¬C (o k)):w'.heap[k]? =some x:=s.fr.aB u r
theorem Step.own {C w w' o r} (s:Step C w o w' r) {k x} (u:w.heap[k]? =some x):r k=o k:=s.old k (lt_of_block u)
theorem Step.sl {C w w' o r} (s:Step C w o w' r) {v bs b off c} (h:fH w v bs b off c) (u:¬C (o b)):fH w' v bs b off c/\r b=o b:=
 ⟨⟨h.1,h.2.1,AP h.2.2.1 s.fr.size,λj x A=>s.fr.cell_of (h.2.2.2 j x A) u⟩,s.old b h.2.2.1⟩
def fZ (o:Nat->Nat) (b c:Nat):Nat->Nat:=λk=>if k=b then c else o k
theorem mF (o b c):fZ o b c b=c:=by simp [fZ]
theorem dS (o) {b k} (c) (h:k≠b):fZ o b c k=o k:=by simp [fZ,h]
abbrev wH:=Int×Int×List UInt8
def rowAt (w:World) (o:Nat->Nat) (c:Nat) (i:Nat) (p:Value):Option wH->Prop
 | none=>p=.pointer none
 | some (life,seq,bs)=>∃r v b cc,p=Y r/\o r=c/\w.heap[r]? =some (.cells #[i,life,seq,v] 146 (0,0))/\fH w v bs b 0 cc/\o b=c
def lU (w:World) (o:Nat->Nat) (c win:Nat) (W:Nat->Option wH):Prop:=
 o win=c/\∃p:Nat->Value,w.heap[win]? =some (.cells #[p 0,p 1,p 2,p 3,true] 184 (0,0))/\∀i,i<4->rowAt w o (c+1) i (p i) (W i)
theorem rowAt.step {C w w' B E c i p x} (h:rowAt w B c i p x) (s:Step C w B w' E) (A:¬C c):rowAt w' E c i p x:=by
 rcases x with _|⟨ab,ad,bs⟩;{exact h};{obtain ⟨Q,v,b,H,e,o,r,J,u⟩:=h;obtain ⟨V,aa⟩:=s.sl J (by rw [u];exact A);exact ⟨Q,v,b,H,e,(s.own r).trans o,s.block r (by rw [o];exact A),V,aa.trans u⟩}
theorem lU.step {C w w' u A c win W} (h:lU w u c win W) (s:Step C w u w' A) (E:¬C c) (hd:¬C (c+1)):lU w' A c win W:=by
 obtain ⟨o,p,r,B⟩:=h;exact ⟨(s.own r).trans o,p,s.block r (by rw [o];exact E),λi H=>(B i H).step s hd⟩
theorem lU.no {w w' o c win W} (h:lU w o c win W) (r:aF w o) (f:Fr No w w'):lU w' o c win W:=h.step (noS r f) id id
theorem Tz (win i:Nat) (r:i<4) (p:Nat->Value) (w) (o:w.heap[win]? =some (.cells #[p 0,p 1,p 2,p 3,true] 184 (0,0))):Calls prog 119 #[Y win,i] w λe w'=>e=.returned (p i)/\w'=w:=by
 (have u:w.cell? (I win i)=some (p i):=by{rw [aA o];(match i,r with|0,_=>rfl|1,_=>rfl|2,_=>rfl|3,_=>rfl)});(have A:(0:Int)<=(i:Int):=X);(have B:(i:Int)<4:=X);(have E:¬(i:Int)<0:=X);(have H:¬(4:Int)<=(i:Int):=X);clear o;go_enter func119,ntmps119;go_wp2;go_ret;exact ⟨rfl,rfl⟩
def dH (W:Nat->Option wH) (c l s:Int):Int×Option (List UInt8):=
 if 0<=c/\c<4/\0<=l/\l<=1048576/\1<=s/\s<=1073741824 then
  match W c.toNat with
  | none=>(3,none)
  | some (life,seq,bs)=>(kindOf l s life seq,if kindOf l s life seq=1 then some bs else none)
 else (2,none)
def Nu (w:World) (x:Int×Option (List UInt8)) (e:Ending) (w':World):Prop:=
 Fr No w w'/\match x.2 with
  | none=>e=.returned (.tuple #[x.1,nS])
  | some bs=>∃v b c,e=.returned (.tuple #[x.1,v])/\fH w' v bs b 0 c/\w.heap.size<=b
theorem I8 (bk be win W) (c l s:Int) (w) (h:lU w bk be win W) (am:∀i r u bs,W i=some (r,u,bs)->bs.length<=1000000):
  Calls prog 66 #[Y win,.agg #[c,l,s]] w (Nu w (dH W c l s)):=by
 obtain ⟨_,p,ai,an⟩:=h;have ag:Fr No w (w.alloc (.cells #[c,l,s] 32)):=(Fr.refl w).alloc _;have c4:(w.alloc (.cells #[c,l,s] 32)).cell? (I win 4)=some (.bool true):=aA (ag.aB ai id) _;have V:=aT w (.cells #[c,l,s] 32);by_cases E:kZ c l s
 ·have o:dH W c l s=match W c.toNat with
   | none=>(3,none)
   | some (r,u,bs)=>(kindOf l s r u,if kindOf l s r u=1 then some bs else none):=AL E
  generalize dH W c l s=bt at*;obtain ⟨i,rfl⟩:∃i:Nat,c=i:=⟨c.toNat,by have:=E.1;omega⟩;(have ak:i<4:=by have:=E.2.1;omega);rw [show ((i:Int)).toNat=i by omega] at o;have aa:=an i ak;have ae:=lH E;have aq:=lH ai;clear an E ai;rcases ab:W i with _|⟨r,u,bs⟩;{rw [ab] at aa o;have aj:=lH aa;have ad:=lH o;clear aa ab o;go_enter func66,ntmps66;go_wp2_with fail;refine cr (Qg _ _ _ ae _) λB A=> ?_;have J:=ag.trans A zq;have ax:B.cell? (I w 0)=some (Z i):=aA (A.aB V id) _;clear V;go_wp2_with fail;refine cr (Tz win i ak p _ (J.aB aq id)) ?_;rintro ay rfl;rw [aj.o];go_wp2_with fail;exact AZ (v:=.tuple #[Z 3,nS]) (by simp [results,results66,go_sem]) rfl (by rw [ad.o];exact ⟨J,rfl⟩)}
  ·rw [ab] at aa o;dsimp only at o;have ad:=lH o;obtain ⟨H,v,b,bd,av,_,au,aw,_⟩:=aa;have bi:=am i r u bs ab;have aj:=lH av;have ap:=lH au;have af:=lH aw;clear av au aw ab am o;go_enter func66,ntmps66;go_wp2_with fail;refine cr (Qg _ _ _ ae _) λB A=> ?_;have ax:B.cell? (I w 0)=some (Z i):=aA (A.aB V id) _;have bl:B.cell? (I w 1)=some (Z l):=aA (A.aB V id) _;have bm:B.cell? (I w 2)=some (Z s):=aA (A.aB V id) _;have J:=ag.trans A zq;have ah:=J.aB ap id;have bn:B.cell? (I H 0)=some (Z i):=aA ah _;have bo:B.cell? (I H 1)=some (Z r):=aA ah _;have bp:B.cell? (I H 2)=some (Z u):=aA ah _;clear V ah;go_wp2_with fail;refine cr (Tz win i ak p _ (J.aB aq id)) ?_;rintro ay rfl;rw [aj.o];have az:=lH (aAq i l s r u ay.drew);generalize kindOf l s r u=ao at*;go_wp2_with fail;go_region_held3 (λw'=>w'.cell? (I w 0)=some (Z i)/\w'.cell? (I w 1)=some (Z l)/\w'.cell? (I w 2)=some (Z s)/\w'.cell? (I H 0)=some (Z i)/\w'.cell? (I H 1)=some (Z r)/\w'.cell? (I H 2)=some (Z u)) (first|go_keep|(go_split_ands;refine ⟨?_,?_,?_,?_,?_,?_⟩<;>exact ar.cell_of (by assumption) id))
    ((go_at_call 120;refine az.o.mono ?_;rintro e br ⟨rfl,ar⟩))
   have Q:=J.drew.trans ar zq;have bu:br.cell? (I H 3)=some v:=aA (Q.aB ap.o id) _;clear ax bl bm bn bo bp;by_cases al:ao=1;{subst al;go_wp2_with fail;refine (Az v bs b 0 bd _ ⟨af.o.1,af.o.2.1,AP af.o.2.2.1 Q.size,λj x bh=>Q.cell_of (af.o.2.2.2 j x bh) id⟩ bi).mono ?_;rintro e bw ⟨bq,bb,bc,rfl,bj,bg,bf⟩;go_wp2_with fail;go_ret2;rw [ad.o];exact ⟨Q.trans bf zq,bq,bb,bc,rfl,bj,AV Q.size bg⟩};{(have bv:(ao==1)=false:=by simpa using al);go_wp2_with fail;exact AZ (v:=.tuple #[ao,nS]) (by simp [results,results66,go_sem]) rfl (by rw [ad.o,AA al];exact ⟨Q,rfl⟩)}
 {have o:dH W c l s=(2,none):=AA E;rw [o];have ae:=lH E;clear E o an ai am;go_enter func66,ntmps66;go_wp2_with fail;refine cr (aFC _ _ _ ae _) λB A=> ?_;refine aC ?_;exact AZ (v:=.tuple _) (by simp [results,results66,go_sem]) rfl ⟨ag.trans A zq,rfl⟩}
def upd {α:Type} (W:Nat->α) (i:Nat) (x:α):Nat->α:=λk=>if k=i then x else W k
theorem upd_same {α:Type} (W i) (x:α):upd W i x i=x:=by simp [upd]
theorem bY {α:Type} (W) {i k} (x:α) (h:k≠i):upd W i x k=W k:=by simp [upd,h]
theorem aGQ {α:Type} (p a i) (o:i<4) (z):(#[p 0,p 1,p 2,p 3,a]:Array α).setIfInBounds i z= #[upd p i z 0,upd p i z 1,upd p i z 2,upd p i z 3,a]:=by
 (match i,o with|0,_=>simp [upd]|1,_=>simp [upd]|2,_=>simp [upd]|3,_=>simp [upd])
theorem lU.place {w A o win W} (h:lU w A o win W) (i) (u:i<4):∃z,w.cell? (I win i)=some z:=by
 obtain ⟨_,p,r,_⟩:=h;rw [aA r];(match i,u with|0,_=>exact ⟨_,rfl⟩|1,_=>exact ⟨_,rfl⟩|2,_=>exact ⟨_,rfl⟩|3,_=>exact ⟨_,rfl⟩)
theorem lU.frozen {w u o win W} (h:lU w u o win W) (i):w.frozen? (I win i)=false:=by
 obtain ⟨_,p,r,_⟩:=h;exact aU r i
theorem lU.set {w E J u o win W} (h:lU w u o win W) (ah:aF w u) (ab:Fr No w E) (i:Nat) (ai:i<4) {l s:Int} {bs r b aa v} (aq:w.heap.size<=r) (ap:w.heap.size<=b) (al:r≠b) (af:E.heap[r]? =some (.cells #[i,l,s,v] 146 (0,0))) (B:fH E v bs b 0 aa) (e:J=E.setCell (I win i) (Y r)):
  Step (· =o) w u J (fZ (fZ u r (o+1)) b (o+1))/\lU J (fZ (fZ u r (o+1)) b (o+1)) o win (upd W i (some (l,s,bs))):=by
 obtain ⟨ad,p,ae,ag⟩:=h;have ak:=lt_of_block ae;have A:=e▸dZ E win i _;have F:=ab.bC.trans A zq;(have V:Step (· =o) w u J (fZ (fZ u r (o+1)) b (o+1)):=by{refine ⟨F.mono (λk _ e=>by rw [e];exact ad),λk H=> ?_,λk H=> ?_⟩;{rw [dS _ _ X,dS _ _ X]};{have am:=lt_of_block af;have an:=B.2.2.1;have ao:=A.size;rw [dS _ _ X,dS _ _ X];exact ah k (AV F.size H)}});refine ⟨V,(V.old win ak).trans ad,upd p i (Y r),?_,λk H=> ?_⟩;{rw [e,<-aGQ _ _ i ai];exact setCell_at (ab.aB ae id) i _};{by_cases Q:k=i;{subst Q;rw [upd_same,upd_same];refine ⟨r,v,b,aa,rfl,by rw [dS _ _ al,mF],?_,⟨B.1,B.2.1,AP B.2.2.1 A.size,λj x aj=>A.cell_of (B.2.2.2 j x aj) (by dsimp only;omega)⟩,mF _ _ _⟩;exact A.aB af X};{rw [bY _ _ Q,bY _ _ Q];exact (ag k H).step V X}}
structure Tok where
 c:Int
 h:Int
 i:Int
 wr:Bool
deriving DecidableEq,Inhabited
inductive QcT|m (x:Tok)
abbrev cT:=QcT.m
instance (x:Tok):CoeDep QcT (.m x) (Array Value):=⟨#[.int .i64 x.c,.int .i64 x.h,.int .i64 x.i,.bool x.wr]⟩
instance (x:Tok):CoeDep QcT (.m x) (List Value):=⟨[.int .i64 x.c,.int .i64 x.h,.int .i64 x.i,.bool x.wr]⟩
def cO (x:Tok):List Value:= [Z x.c,Z x.h,Z x.i,.bool x.wr]
def kJ (x:Tok):Value:=.agg #[Z x.c,Z x.h,Z x.i,.bool x.wr]
structure bF {α:Type} (c:α->List Value) (n:Nat) (t:TypeId) (w:World) (b cap:Nat) (L:List α):Prop where
 blk:∃cur,w.heap[b]? =some (.cells cur t (0,0))/\cap*n<=cur.size
 len:L.length<=cap
 row:∀(j:Nat) x,L[j]? =some x->w.rangeAt b (j*n) (c x)
abbrev oQ:=bF cO 4 53
def oH (w:World) (v:Value) (L:List Tok):Prop:=(v=.slice none 0 0/\L= [])\/∃b cap,v=.slice (some (I b 0)) L.length cap/\cap<=maxLen/\oQ w b cap L
section
variable {α:Type} {c:α->List Value} {n:Nat} {t:TypeId}
theorem bF.fr {S w w' b cap L} (h:bF c n t w b cap L) (f:Fr S w w') (o:¬S b):bF c n t w' b cap L:=by
 obtain ⟨⟨r,u,A⟩,B,E⟩:=h;exact ⟨⟨r,f.aB u o,A⟩,B,λj x H i J hu=>f.cell_of (E j x H i J hu) o⟩
theorem bF.lt {w b cap L} (h:bF c n t w b cap L):b<w.heap.size:=by
 obtain ⟨⟨r,o,u⟩,A,B⟩:=h;exact lt_of_block o
end
theorem Tryz.tC:(prog.info? 53).map (·.size)=some 4:=by kernel_rfl
theorem lK (b:Nat):∀(u:List Value) (o:Nat) (w:World),Fr (· =b) w (w.setCells b o u)
 | [],_,w=>Fr.refl w
 | v::r,o,w=>(dZ w b o v).trans (lK b r (o+1) _) zq
theorem Bg (b:Nat):∀(J:List Value) (B:Nat) (w:World) (o:Array Value) (t:TypeId) (u:Nat×Nat),w.heap[b]? =some (.cells o t u)->∃A,(w.setCells b B J).heap[b]? =some (.cells A t u)/\A.size=o.size
 | [],_,w,o,t,u,h=>⟨o,h,rfl⟩
 | v::r,B,w,o,t,u,h=>by
  obtain ⟨A,E,H⟩:=Bg b r (B+1) _ _ t u (setCell_at h B v);exact ⟨A,E,by rw [H];simp⟩
section
variable {α:Type} {c:α->List Value} {n:Nat} {t:TypeId}
theorem bF.there {w b cap L} (h:bF c n t w b cap L) (j m) (H:j*n+m<=cap*n):w.there b (j*n) m:=λi E=>by
 obtain ⟨⟨r,o,u⟩,A,B⟩:=h;refine ⟨?_,aU o _⟩;rw [aA o,FT X];rfl
theorem bF.set {w b cap L} (r:∀x,(c x).length=n) (h:bF c n t w b cap L) (j) (Q:j<L.length) (x):bF c n t (w.setCells b (j*n) (c x)) b cap (L.set j x):=by
 have ae:=h.len;have ah:(j+1)*n<=cap*n:=EG n X;have ag:(j+1)*n=j*n+n:=JH j n;have aa:=h.there j n X;obtain ⟨⟨u,B,ab⟩,E,H⟩:=h;obtain ⟨A,J,ad⟩:=Bg b (c x) (j*n) w u t (0,0) B;refine ⟨⟨A,J,by omega⟩,by rw [EZ];exact E,λi y o=> ?_⟩;by_cases e:i=j;{subst e;rw [MK Q] at o;cases o;exact World.rangeAt_setCells_same w b (i*n) (c x) (by rw [r];exact aa)};{rw [List.getElem?_set_ne (EP e)] at o;refine KE (H i y o) b _ _ (.inr ?_);rw [r,r];rcases BK i j with V|af;{exact .inl (by have:(i+1)*n<=j*n:=EG n V;rw [JH] at this;exact this)};{exact .inr (by have:(j+1)*n<=i*n:=EG n X;rw [JH] at this;exact this)}}
end
theorem aC5 (w J b o n c) (u:w.there b o (n*4)) (Q:0<n):∃E:List Value,E.length=n*4/\(Builtin.clear_ #[50] J #[.slice (some (I b o)) n c]).run prog w=.ok (.tuple #[]) (w.setCells b o E):=by
 have H:∀w,(zeroValue 53).run prog w=.ok (kJ ⟨0,0,0,false⟩) w:=λw=>by kernel_rfl
 refine ⟨(Builtin.zeroCells (kJ ⟨0,0,0,false⟩).cells n).toList,by simp [Builtin.zeroCells,kJ,Value.cells],?_⟩;have A:=run_storeCells_cells (P:=prog) b o (Builtin.zeroCells (kJ ⟨0,0,0,false⟩).cells n).toList 0 w (λj r=>(u j (by simpa [Builtin.zeroCells,kJ,Value.cells] using r)).1) (λj r=>(u j (by simpa [Builtin.zeroCells,kJ,Value.cells] using r)).2) (by
  intro v B;simp only [Builtin.zeroCells,kJ,Value.cells,Array.toList_map,FM] at B;obtain ⟨i,_,rfl⟩:=B;have:i % 4=0\/i % 4=1\/i % 4=2\/i % 4=3:=X
  rcases this with h|h|h|h<;>simp [h,Value.oneCell'])
 simp only [BU] at A;obtain ⟨m,rfl⟩:∃m,n=m+1:=⟨n - 1,by omega⟩;simp [Builtin.clear_,EF underlying50,H,A]
section
variable {α:Type} {c:α->List Value} {n:Nat} {t:TypeId}
theorem nG (o:∀x,(c x).length=n) (L:List α):(L.flatMap c).length=L.length*n:=by
 (induction L with|nil=>simp|cons x r ih=>rw [DU,AB,ih,o,BX,JH,Nat.add_comm])
theorem flat_get (u:∀x,(c x).length=n):∀(L:List α) (j:Nat) (x:α),L[j]? =some x->∀(i:Nat) (o:Value),(c x)[i]? =some o->(L.flatMap c)[j*n+i]? =some o
 | [],j,x,h,_,_,_=>by simp at h
 | y::r,0,x,h,i,o,hu=>by
  simp only [ES,FQ] at h;subst h;rw [DU,MQ,BP,GV (AY.1 hu).1];exact hu
 | y::r,j+1,x,h,i,o,hu=>by
  rw [EH] at h;rw [DU,IC (by rw [u,JH];omega),u,JH,show j*n+n+i - n=j*n+i by omega];exact flat_get u r j x h i o hu
theorem He (o:∀x,(c x).length=n) (L:List α) (k Q) (h:(L.flatMap c)[k]? =some Q):∃j x i,L[j]? =some x/\(c x)[i]? =some Q/\k=j*n+i/\i<n:=by
 (have H:k<L.length*n:=by rw [<-nG o L];exact (AY.1 h).1);(have J:0<n:=by{rcases ET n with e|e;{rw [e,Nat.mul_zero] at H;omega};{exact e}});have E:=(KQ J).2 H;have B:k % n<n:=Nat.mod_lt _ J;(have A:k=k / n*n+k % n:=by rw [Nat.mul_comm];exact (Nat.div_add_mod k n).symm);refine ⟨k / n,L[k / n],k % n,AC E,?_,A,B⟩;have r:(c (L[k / n]))[k % n]? =some ((c (L[k / n]))[k % n]'(by rw [o];exact B)):=AC _;have u:=flat_get o L (k / n) _ (AC E) (k % n) _ r;rw [<-A,h] at u;rw [r,u]
theorem bF.cells {w b cap L} (B:∀x,(c x).length=n) (h:bF c n t w b cap L) (k o) (A:(L.flatMap c)[k]? =some o):w.cell? (I b k)=some o:=by
 obtain ⟨j,x,i,r,u,rfl,_⟩:=He B L k o A;exact h.row j x r i o u
theorem bF.part {w b cap L} (B:∀x,(c x).length=n) (h:bF c n t w b cap L) (d k o) (A:((L.drop d).flatMap c)[k]? =some o):w.cell? (I b (d*n+k))=some o:=by
 obtain ⟨j,x,i,r,u,rfl,_⟩:=He B _ k o A;rw [HY] at r;have:=h.row (d+j) x r i o u;rwa [NC,Nat.add_assoc] at this
theorem bF.of_block {w b cap L} (H:∀x,(c x).length=n) {o} (u:w.heap[b]? =some (.cells o t (0,0))) (J:cap*n<=o.size) (E:L.length<=cap) (A:∀(k:Nat) (r:Value),(L.flatMap c)[k]? =some r->o[k]? =some r):bF c n t w b cap L:=
 ⟨⟨o,u,J⟩,E,λj x B i r hu=>by
  rw [aA u];exact A _ _ (flat_get H L j x B i r hu)⟩
theorem bF.tight {w b cap cap' L} (h:bF c n t w b cap L) (k) (H:k<=cap') (E:cap'<=cap):bF c n t w b cap' (L.take k):=by
 obtain ⟨⟨r,u,A⟩,J,B⟩:=h;refine ⟨⟨r,u,AV (EG n E) A⟩,AV (List.length_take_le _ _) H,λj x o=>B j x ?_⟩;rw [EL] at o;split at o;{exact o};{cases o}
theorem bF.splice {w b cap L} (u:∀x,(c x).length=n) (h:bF c n t w b cap L) (i N) (ak:i<=L.length) (A:i+N.length<=cap):
  bF c n t (w.setCells b (i*n) (N.flatMap c)) b cap (L.take i++N++L.drop (i+N.length)):=by
 have H:=nG u N;(have ae:i*n+N.length*n<=cap*n:=by rw [<-NC];exact EG n A);have af:=h.there i (N.length*n) ae;obtain ⟨⟨Q,aa,ag⟩,ah,B⟩:=h;obtain ⟨V,ab,ai⟩:=Bg b (N.flatMap c) (i*n) w Q t (0,0) aa;(have r:(L.take i).length=i:=by rw [BZ];omega);refine ⟨⟨V,ab,by omega⟩,?_,λj x o=> ?_⟩;{rw [AB,AB,r,IB];omega}
 ·by_cases E:j<i;{rw [JB,GV X,EL,AL E] at o;refine KE (B j x o) b _ _ (.inr (.inl ?_));rw [u];have:=EG n (show j+1<=i from E);rwa [JH] at this}
  ·by_cases aj:j<i+N.length
   ·rw [JB,IC X,r,GV X] at o;have A:=World.rangeAt_setCells_same w b (i*n) (N.flatMap c) (by rw [H];exact af);intro q J hu;have ad:=A _ J (flat_get u N (j - i) x o q J hu);rwa [show i*n+((j - i)*n+q)=j*n+q by
     rw [<-Nat.add_assoc,<-NC,show i+(j - i)=j by omega]] at ad
   {rw [IC (by rw [AB,r];omega),AB,r,HY,show i+N.length+(j - (i+N.length))=j by omega] at o;refine KE (B j x o) b _ _ (.inr (.inr ?_));rw [H,<-NC];exact EG n X}
theorem bF.firstCells {P w b cap L} (r:∀x,(c x).length=n) (h:bF c n t w b cap L) (i l cap') (B:i<=L.length):(Builtin.firstCells n i (O b l cap')).run P w=.ok ((L.take i).flatMap c).toArray w:=
 run_firstCells_some w n i (I b 0) l cap' _ (by rw [nG r,BZ,LZ B]) (λj u E=>by
  rw [KN,BP];obtain ⟨q,x,H,o,A,rfl,_⟩:=He r _ j u E;rw [EL] at o;split at o
  ·exact h.row q x o H u A
  ·cases o)
end
theorem H5 {P} (w E ai aj u b o r Q a B ah n cs) (hu:P.underlying E=some (.slice u)) (J:(P.info? u).map (·.size)=some n) (ae:cs.length=Nat.min B r*n) (af:∀j v,cs[j]? =some v->w.cell? (a.add j)=some v) (aa:∀j,j<cs.length->(w.cell? (I b (o+j))).isSome=true) (ab:∀j,j<cs.length->w.frozen? (I b (o+j))=false) (V:∀v∈cs,v.oneCell'=true):
  (Builtin.copy_ #[E,ai] aj #[.slice (some (I b o)) r Q,.slice (some a) B ah]).run P w=.ok (goInt (Nat.min B r)) (w.setCells b o cs):=by
 have H:=run_loadCells_list (P:=P) w a cs af;have ag:=run_storeCells_cells (P:=P) b o cs 0 w (U aa) (U ab) V;(cases A:P.info? u with|none=>simp [A] at J|some i=>(have ad:i.size=n:=by simpa [A] using J);rw [ae] at H;simp [Builtin.copy_,EF hu,Builtin.lenOf,Builtin.firstCells,sizeOf,typeInfo,A,ad,H,ag])
theorem Rl (z n k) (o:z.size=n):(Builtin.zeroCells z k).toList=(List.replicate k ()).flatMap (λ_=>z.toList):=by
 (have B:∀x:Unit,((λ_=>z.toList) x).length=n:=λ_=>by simpa using o);apply List.ext_getElem?;intro q;(have Q:(Builtin.zeroCells z k).toList.length=k*n:=by simp [Builtin.zeroCells,o]);have J:=nG B (List.replicate k ());rw [KR] at J;by_cases r:q<k*n;{(have E:0<n:=by{rcases ET n with e|e;{rw [e,Nat.mul_zero] at r;omega};{exact e}});have A:q % n<n:=Nat.mod_lt _ E;have H:=(KQ E).2 r;have hu:z.toList[q % n]? =some (z.toList[q % n]'(by simpa [o] using A)):=AC _;have u:=flat_get B (List.replicate k ()) (q / n) () (by rw [List.getElem?_replicate,AL H]) (q % n) _ hu;rw [show q / n*n+q % n=q by rw [Nat.mul_comm];exact Nat.div_add_mod q n] at u;rw [u];simp only [Builtin.zeroCells,Array.toList_map,Array.toList_range,DY,o];rw [List.getElem?_range r];simp [o,A]};{rw [GI X,GI X]}
theorem Ru {α:Type} {c:α->List Value} (z k):(List.replicate k z).flatMap c=(List.replicate k ()).flatMap (λ_=>c z):=by
 (induction k with|zero=>rfl|succ k ih=>simp only [List.replicate_succ,DU,ih])
structure Pt where
 c:Int
 l:Int
 n:Int
 a:Int
 z:Int
deriving DecidableEq,Inhabited
inductive QcP|m (x:Pt)
abbrev cP:=QcP.m
instance (x:Pt):CoeDep QcP (.m x) (Array Value):=⟨#[x.c,x.l,x.n,x.a,x.z]⟩
instance (x:Pt):CoeDep QcP (.m x) (List Value):=⟨[x.c,x.l,x.n,x.a,x.z]⟩
def bZ (x:Pt):List Value:= [x.c,x.l,x.n,x.a,x.z]
def dG (x:Pt):Value:=.agg #[x.c,x.l,x.n,x.a,x.z]
def aQ:Pt:=⟨0,0,0,0,0⟩
theorem vC (x):(bZ x).length=5:=rfl
theorem aFY (L:List Pt):∀r∈L.flatMap bZ,r.oneCell'=true:=λr hu=>by
 obtain ⟨x,_,o⟩:=List.mem_flatMap.1 hu;simp only [bZ,CB,List.not_mem_nil,or_false] at o;rcases o with rfl|rfl|rfl|rfl|rfl<;>rfl
theorem Tryz.rC:(prog.info? 59).map (·.size)=some 5:=by kernel_rfl
theorem Tryz.Dp:(prog.info? 59).map (λi=>(i.zero,i.size,i.bytes))=some (some (.agg #[Z 0,Z 0,Z 0,Z 0,Z 0]),5,40):=by kernel_rfl
theorem vM (a b c d e o r u A e':Int) (w):(binOp .eql 59 (.agg #[a,b,c,d,e]) (.agg #[o,r,u,A,e'])).run prog w=.ok (.bool (decide ((⟨a,b,c,d,e⟩:Pt)=⟨o,r,u,A,e'⟩))) w:=by
 have ad:=underlying3;have a3:=isAgg3;have af:=sizeOf3;have ae:=underlying46;have ab:=isAgg46;have ag:=sizeOf46;have V:prog.underlying 59=some (.struct (prog.fieldsOf 59)):=N
 have aa:prog.stoodInHeld 59=false:=N
 rw [run_eql_struct,show (10000:Nat)=9999+1 from rfl,run_equalIn_agg w 9999 59 _ _ V aa];simp only [Program.fieldsOf,underlying59,Pt.mk.injEq];go_simp;by_cases B:a=o<;>by_cases E:b=r<;>by_cases H:c=u<;>by_cases J:d=A<;>by_cases Q:e=e'<;>simp [B,E,H,J,Q]
theorem yN (f) (r:f=84\/f=166) (x w):Calls prog f #[dG x] w λe w'=>e=.returned (.bool (decide (x=aQ)))/\Fr No w w':=by
 have o:=vM x.c x.l x.n x.a x.z 0 0 0 0 0;have hd:(decide ((⟨x.c,x.l,x.n,x.a,x.z⟩:Pt)=⟨0,0,0,0,0⟩))=decide (x=aQ):=rfl;simp only [hd] at o;generalize decide (x=aQ)=u at*;clear hd;unfold dG;rcases r with rfl|rfl;{go_enter func84,ntmps84;go_wp2;go_ret;exact ⟨rfl,(Fr.refl w).alloc _⟩};{go_enter func166,ntmps166;go_wp2;go_ret;exact ⟨rfl,(Fr.refl w).alloc _⟩}
theorem Au (x m:Int) (w):Calls prog 237 #[x,m] w λe w'=>e=.returned (.bool (decide (0<=x)&&decide (x<=m)))/\w'=w:=by
 by_cases o:0<=x;{by_cases r:x<=m;{(have e:(decide (0<=x)&&decide (x<=m))=true:=by simp [o,r]);rw [e];clear e;go_enter func237,ntmps237;go_wp2;go_ret;exact ⟨rfl,rfl⟩};{(have e:(decide (0<=x)&&decide (x<=m))=false:=by simp only [o,r];rfl);rw [e];clear e;go_enter func237,ntmps237;go_wp2;go_ret;exact ⟨rfl,rfl⟩}};{(have e:(decide (0<=x)&&decide (x<=m))=false:=by simp only [o];rfl);rw [e];clear e;go_enter func237,ntmps237;go_wp2;go_ret;exact ⟨rfl,rfl⟩}
def dW (x:Pt):Prop:=x=aQ\/(0<=x.c/\x.c<=4/\0<=x.l/\x.l<=1048576/\0<=x.n/\x.n<=1073741824/\0<=x.a/\x.a<=5999/\1<=x.z/\x.z<=64/\x.a<=6000 - x.z)
instance (x:Pt):Decidable (dW x):=by unfold dW;infer_instance
def wU (w:World) (x:Pt) (e:Ending) (w':World):Prop:=e=.returned (.bool (decide (dW x)))/\Fr No w w'
theorem Ez (x w):Calls prog 165 #[dG x] w (wU w x):=by
 have al:Fr No w (w.alloc (.cells (cP x) 59)):=(Fr.refl w).alloc _;have az:=aT w (.cells (cP x) 59);have u:Hid (∀(af:Bool) e w',(af=true↔dW x)->e=.returned (.bool af)->Fr No w w'->wU w x e w'):=λaf e w' h bd f=>by
  (have:decide (dW x)=af:=by{(cases af);{rw [EI];intro be;cases h.2 be};{rw [BV];exact h.1 rfl}});exact ⟨by rw [this];exact bd,f⟩
 generalize wU w x=bf at*;have ad:=lH (yN 84 (.inl rfl) x (w.alloc (.cells (cP x) 59)));have ag:=lH al;have bc:=lH az;clear al az;unfold dG at*;cases V:decide (x=aQ) with
 | true=>
  have A:Hid (dW x):=.inl (U V);rw [V] at ad;clear V;go_enter func165,ntmps165;go_wp2_with fail;refine cr ad.o λr ae=> ?_;exact aC (u.o true _ _ (by simp [A.o]) rfl (ag.o.trans ae zq))
 | false=>
  rw [V] at ad;have bb:Hid (x≠aQ):=lH (U V);clear V;go_enter func165,ntmps165;go_wp2_with fail;refine cr ad.o λr ae=> ?_;have aa:=ae.aB bc id;have bg:r.cell? (I w 0)=some (Z x.c):=aA aa _;have bh:r.cell? (I w 1)=some (Z x.l):=aA aa _;have bi:r.cell? (I w 2)=some (Z x.n):=aA aa _;have bj:r.cell? (I w 3)=some (Z x.a):=aA aa _;have bk:r.cell? (I w 4)=some (Z x.z):=aA aa _;have B:=lH (ag.o.trans ae zq);have av:=Au x.c 4 r;have aw:=Au x.l 1048576 r;have ax:=Au x.n 1073741824 r;have ay:=Au x.a 5999 r;have H:=lH av;have J:=lH aw;have Q:=lH ax;have ab:=lH ay;clear aa ae ad av aw ax ay;generalize ap:(decide (0<=x.c)&&decide (x.c<=4))=ah at*;generalize aq:(decide (0<=x.l)&&decide (x.l<=1048576))=ai at*;generalize ar:(decide (0<=x.n)&&decide (x.n<=1073741824))=aj at*;generalize au:(decide (0<=x.a)&&decide (x.a<=5999))=ak at*;have E:Hid (dW x↔ah=true/\ai=true/\aj=true/\ak=true/\1<=x.z/\x.z<=64/\x.a<=6000 - x.z):=lH (by
   rw [<-ap,<-aq,<-ar,<-au];simp only [dW,bb.o,false_or,BO,BV,and_assoc])
  clear ap aq ar au;(cases ah with|false=>go_wp2_with fail;refine cr H.o ?_;rintro o rfl;exact aC (u.o false _ _ (by simp [E.o]) rfl B.o)|true=>(cases ai with|false=>go_wp2_with fail;refine cr H.o ?_;rintro o rfl;go_wp2_with fail;refine cr J.o ?_;rintro o rfl;exact aC (u.o false _ _ (by simp [E.o]) rfl B.o)|true=>(cases aj with|false=>go_wp2_with fail;refine cr H.o ?_;rintro o rfl;go_wp2_with fail;refine cr J.o ?_;rintro o rfl;go_wp2_with fail;refine cr Q.o ?_;rintro o rfl;exact aC (u.o false _ _ (by simp [E.o]) rfl B.o)|true=>(cases ak with|false=>go_wp2_with fail;refine cr H.o ?_;rintro o rfl;go_wp2_with fail;refine cr J.o ?_;rintro o rfl;go_wp2_with fail;refine cr Q.o ?_;rintro o rfl;go_wp2_with fail;refine cr ab.o ?_;rintro o rfl;exact aC (u.o false _ _ (by simp [E.o]) rfl B.o)|true=>by_cases am:1<=x.z;{by_cases an:x.z<=64;{by_cases ao:x.a<=6000 - x.z;{have A:=lH (E.o.2 ⟨rfl,rfl,rfl,rfl,am,an,ao⟩);go_wp2_with fail;refine cr H.o ?_;rintro o rfl;go_wp2_with fail;refine cr J.o ?_;rintro o rfl;go_wp2_with fail;refine cr Q.o ?_;rintro o rfl;go_wp2_with fail;refine cr ab.o ?_;rintro o rfl;exact aC (u.o true _ _ (by simp [A.o]) rfl B.o)};{have A:Hid (¬dW x):=λh=>ao (E.o.1 h).2.2.2.2.2.2;go_wp2_with fail;refine cr H.o ?_;rintro o rfl;go_wp2_with fail;refine cr J.o ?_;rintro o rfl;go_wp2_with fail;refine cr Q.o ?_;rintro o rfl;go_wp2_with fail;refine cr ab.o ?_;rintro o rfl;go_wp2_with fail;exact u.o (decide (x.a<=6000 - x.z)) _ _ (by rw [BV];exact ⟨λh=>by omega,λh=>absurd h A⟩) rfl B.o}};{have A:Hid (¬dW x):=λh=>an (E.o.1 h).2.2.2.2.2.1;go_wp2_with fail;refine cr H.o ?_;rintro o rfl;go_wp2_with fail;refine cr J.o ?_;rintro o rfl;go_wp2_with fail;refine cr Q.o ?_;rintro o rfl;go_wp2_with fail;refine cr ab.o ?_;rintro o rfl;exact aC (u.o false _ _ (by simp [A.o]) rfl B.o)}};{have A:Hid (¬dW x):=λh=>am (E.o.1 h).2.2.2.2.1;go_wp2_with fail;refine cr H.o ?_;rintro o rfl;go_wp2_with fail;refine cr J.o ?_;rintro o rfl;go_wp2_with fail;refine cr Q.o ?_;rintro o rfl;go_wp2_with fail;refine cq ab.o ?_;exact aC (u.o false _ _ (by simp [A.o]) rfl B.o)}))))
structure cZ where
 size:Nat
 l:List Pt
deriving DecidableEq,Inhabited
def qF (w:World) (v:Value) (L:List Pt):Prop:=(v=.slice none 0 0/\L= [])\/∃b cap,v=.slice (some (I b 0)) L.length cap/\cap<=maxLen/\bF bZ 5 59 w b cap L
def pG (w:World) (p:Nat) (m:cZ):Prop:=∃v,w.heap[p]? =some (.cells #[true,m.size,v] 162 (0,0))/\qF w v m.l
def jT (w:World) (o:Nat->Nat) (K i p:Nat) (m:cZ):Prop:=
 o p=K+3000+i/\∃v,w.heap[p]? =some (.cells #[true,m.size,v] 162 (0,0))/\((v=.slice none 0 0/\m.l= [])\/∃b cap,v=.slice (some (I b 0)) m.l.length cap/\cap<=maxLen/\o b=K+4000+i/\bF bZ 5 59 w b cap m.l)
theorem jT.step {C w w' E H K i p m} (h:jT w E K i p m) (s:Step C w E w' H) (J:¬C (K+3000+i)) (Q:¬C (K+4000+i)):jT w' H K i p m:=by
 obtain ⟨r,v,u,o⟩:=h;refine ⟨(s.own u).trans r,v,s.block u (by rw [r];exact J),?_⟩;rcases o with o|⟨b,cap,e,V,A,B⟩;{exact .inl o};{exact .inr ⟨b,cap,e,V,(s.old b B.lt).trans A,B.fr s.fr (by rw [A];exact Q)⟩}
theorem jT.no {w w' o K i p m} (h:jT w o K i p m) (r:aF w o) (f:Fr No w w'):jT w' o K i p m:=h.step (noS r f) id id
theorem jT.reads {w B K i p m} (h:jT w B K i p m):pG w p m:=by
 obtain ⟨E,v,r,o⟩:=h;refine ⟨v,r,?_⟩;rcases o with o|⟨b,cap,e,u,H,A⟩;{exact .inl o};{exact .inr ⟨b,cap,e,u,A⟩}
theorem qF.fr {w w' v L} (h:qF w v L) (f:Fr No w w'):qF w' v L:=by
 rcases h with h|⟨b,cap,e,o,r⟩;{exact .inl h};{exact .inr ⟨b,cap,e,o,r.fr f id⟩}
theorem pG.fr {w w' p m} (h:pG w p m) (f:Fr No w w'):pG w' p m:=by
 obtain ⟨v,o,r⟩:=h;exact ⟨v,f.aB o id,r.fr f⟩
theorem qF.slice {w v L} (h:qF w v L):∃base cap,v=.slice base L.length cap:=by
 rcases h with ⟨e,o⟩|⟨b,cap,e,_,_⟩;{exact ⟨none,0,by rw [e,o];rfl⟩};{exact ⟨_,_,e⟩}
theorem qF.row {w base cap L} (h:qF w (.slice base L.length cap) L) (r:0<L.length):∃b,base=some (I b 0)/\cap<=maxLen/\bF bZ 5 59 w b cap L:=by
 rcases h with ⟨_,rfl⟩|⟨b,cap',e,u,o⟩;{simp at r};{cases e;exact ⟨b,rfl,u,o⟩}
theorem aB0 (w):Calls prog 157 #[] w λe w'=>e=.returned (Y w)/\w'=w.alloc (.cells #[true,Z 0,nS] 162):=by
 (have o:(Instr.build 162 #[(0,.bool true)]).run prog w=.ok (.agg #[true,Z 0,nS]) w:=N);go_enter func157,ntmps157;go_wp2;go_ret;exact ⟨rfl,rfl⟩
theorem aFq (w):Calls prog 37 #[.pointer none] w λe w'=>e=.returned (Z 0)/\w'=w:=by
 go_enter func37,ntmps37;go_wp2;go_ret;exact ⟨rfl,rfl⟩
theorem Hg (p m w) (h:pG w p m):Calls prog 37 #[Y p] w λe w'=>e=.returned (Z m.size)/\w'=w:=by
 obtain ⟨v,o,_⟩:=h;have c1:w.cell? (I p 1)=some (Z m.size):=aA o _;clear o;go_enter func37,ntmps37;go_wp2;go_ret;exact ⟨rfl,rfl⟩
theorem Om (p m w) (h:pG w p m):Calls prog 38 #[Y p] w λe w'=>e=.returned (Z m.l.length)/\w'=w:=by
 obtain ⟨v,o,r⟩:=h;obtain ⟨base,cap,rfl⟩:=r.slice;have c1:w.cell? (I p 2)=some (.slice base m.l.length cap):=aA o _;clear o r;go_enter func38,ntmps38;go_wp2;go_ret;exact ⟨rfl,rfl⟩
def dV (m:cZ) (i:Int):Pt:=if 0<=i then (m.l[i.toNat]?).getD aQ else aQ
def yP (w:World) (x:Pt) (e:Ending) (w':World):Prop:=e=.returned (dG x)/\Fr No w w'
theorem Yr (p m) (i:Int) (w) (h:pG w p m):Calls prog 39 #[Y p,i] w (yP w (dV m i)):=by
 have o:Fr No w (w.alloc (.cells #[Z 0,Z 0,Z 0,Z 0,Z 0] 59)):=(Fr.refl w).alloc _;have u:=lH (aT w (.cells #[Z 0,Z 0,Z 0,Z 0,Z 0] 59));have Q:=lH (Om p m _ (h.fr o));have af:∀x:Pt,Hid (((cP x):Array Value).all (·.oneCell')=true):=λx=>lH (by simp [Value.oneCell']);(have E:Hid (∀x e w',dV m i=x->e=.returned (dG x)->Fr No w w'->yP w (dV m i) e w'):=λx e w' al ai f=>by subst al;exact ⟨ai,f⟩);generalize ah:yP w _=an at*;clear ah af;have B:=lH o;by_cases aa:0<=i;{obtain ⟨j,rfl⟩:∃j:Nat,i=j:=⟨i.toNat,by omega⟩;(have A:dV m j=(m.l[j]?).getD aQ:=by unfold dV;rw [AL aa];rfl);by_cases ab:j<m.l.length;{obtain ⟨v,ad,J⟩:=h.fr o;obtain ⟨base,cap,rfl⟩:=J.slice;obtain ⟨b,rfl,ae,H⟩:=J.row X;have V:=lH (H.row j m.l[j] (AC ab));have r:Hid (dV m j=m.l[j]):=lH (by rw [A,AC ab];rfl);have ak:=H.len;have ao:=ae;have am:¬(m.l.length:Int)<=(j:Int):=X;have ap:(j:Int)<(m.l.length:Int):=X;have aq:(j:Int)<(cap:Int):=X;have c2:(w.alloc (.cells #[Z 0,Z 0,Z 0,Z 0,Z 0] 59)).cell? (I p 2)=some (O b m.l.length cap):=aA ad _;generalize m.l[j]=x at*;unfold bZ at V;clear ad J H h A o ak ae;go_enter func39,ntmps39;go_wp2_with fail;refine cr Q.o ?_;rintro ar rfl;go_wp2_with (first|(refine wL 59 V ?_)|(refine wS 59 u ?_));have aj:=aW (cs':=(cP x)) u.o;have ag:Fr No w ((w.alloc (.cells #[Z 0,Z 0,Z 0,Z 0,Z 0] 59)).setRow w (cP x)):=Fr.setRow B (.inr (AU _)) _;exact AZ (v:=dG x) (BH rfl _ _ w 59 _ (0,0) _ rfl aj underlying59 rfl Tryz.rC) rfl (E.o x _ _ r rfl ag)};{have r:Hid (dV m j=aQ):=lH (by rw [A,GI X];rfl);have am:(m.l.length:Int)<=(j:Int):=X;clear h A o;go_enter func39,ntmps39;go_wp2_with fail;refine cq Q.o ?_;exact aC (AZ (v:=dG aQ) (BH rfl _ _ w 59 _ (0,0) _ rfl u underlying59 rfl Tryz.rC) rfl (E.o aQ _ _ r rfl B))}};{have r:Hid (dV m i=aQ):=lH (by unfold dV;rw [AA aa]);clear h o;go_enter func39,ntmps39;go_wp2_with fail;exact AZ (v:=dG aQ) (BH rfl _ _ w 59 _ (0,0) _ rfl u underlying59 rfl Tryz.rC) rfl (E.o aQ _ _ r rfl B)}
def dA (n:Nat):Nat:=(n+63) / 64
theorem aEo (n:Nat) (u:n<=4096) (w):Calls prog 238 #[n] w λe w'=>e=.returned (Z (dA n))/\w'=w:=by
 (have r:Int.tdiv ((n:Int)+64 - 1) 64=((dA n:Nat):Int):=by rw [Int.tdiv_eq_ediv_of_nonneg X];unfold dA;omega);(have o:wrap64 ((dA n:Nat):Int)=(dA n:Nat):=by unfold wrap64 dA;omega);go_enter func238,ntmps238;go_wp2;go_ret;exact ⟨BD (λx=>Ending.returned (Z x)) o,rfl⟩
def rM (w:World) (base:Nat) (v:Value) (L:List Pt):Prop:=(v=.slice none 0 0/\L= [])\/∃b cap,v=.slice (some (I b 0)) L.length cap/\cap<=maxLen/\base<=b/\bF bZ 5 59 w b cap L
theorem rM.val {w base v L} (h:rM w base v L):qF w v L:=by
 rcases h with h|⟨b,cap,e,o,_,r⟩;{exact .inl h};{exact .inr ⟨b,cap,e,o,r⟩}
theorem F7 {w base v L} (h:w.ownsRow base 59 5 v L.length (L.flatMap bZ)):rM w base v L:=by
 obtain ⟨_,⟨rfl,r⟩|⟨g,cap,Q,rfl,B,u,E,A,H,J⟩⟩:=h;{exact .inl ⟨rfl,GL.1 r⟩};{refine .inr ⟨g,cap,rfl,A,B,bF.of_block vC u (Nat.le_of_eq H.symm) E (λk V o=> ?_)⟩;rw [<-J,EL] at o;split at o;{simpa using o};{cases o}}
def aBW (w:World) (L:List Pt) (e:Ending) (w':World):Prop:=∃v,e=.returned v/\w'.ownsRow w 59 5 v L.length (L.flatMap bZ)/\Fr No w w'
theorem Tc {w w'} (h:Below w.heap.size w w'):Fr No w w':=⟨h.os,h.tape,h.output,h.size,λk o _=>h.block k o⟩
theorem U4 (v L w) (h:qF w v L) (ab:L.length<=1000000):Calls prog 137 #[v] w (aBW w L):=by
 rcases h with ⟨rfl,rfl⟩|⟨b,cap,rfl,ad,B⟩;{refine cr (AnyE.slices_Clone_nil Tryz.Y1 0 0 w) ?_;rintro w' rfl;exact ⟨_,rfl,⟨rfl,.inl ⟨rfl,rfl⟩⟩,Fr.refl _⟩};{obtain ⟨Q,r,E,H,J⟩:=EM Tryz.Dp;refine (AnyE.slices_Clone Tryz.Y1 Q _ 5 40 r E H J rfl G sizeOf59 b 0 L.length cap (L.flatMap bZ) w (nG vC L) (by unfold maxLen;omega) X (λj V u=> ?_) (aFY L)).mono ?_;{rw [BP];exact B.cells vC j V u};{rintro e w' ⟨aa,rfl,A,_,o⟩;exact ⟨aa,rfl,A,Tc o⟩}}
theorem aBT:EqlAt prog 59 (λx=> .agg (bZ x).toArray) (λx y=>decide (x=y)):=
 ⟨λx y w=>vM x.c x.l x.n x.a x.z y.c y.l y.n y.a y.z w,GuardAt.agg _ N⟩
theorem aDo (x w):Calls prog 239 #[nS,.agg (cP x)] w λe w'=>e=.returned (Z (-1))/\Fr No w w':=by
 go_enter func239,ntmps239;go_wp2_with fail;refine IZ 1 ?_;rw [GR];go_wp2_with fail;go_ret;exact ⟨rfl,(Fr.refl w).alloc _⟩
theorem aCd (x w):Calls prog 169 #[nS,.agg (cP x)] w λe w'=>e=.returned (.bool false)/\Fr No w w':=by
 go_enter func169,ntmps169;go_wp2_with fail;refine cr (aDo x _) λr o=> ?_;go_wp2_with fail;go_ret;exact ⟨rfl,((Fr.refl w).alloc _).trans o zq⟩
def Gx (w:World) (b:Bool) (e:Ending) (w':World):Prop:=e=.returned (.bool b)/\Fr No w w'
theorem Yp (v L x w) (h:qF w v L):Calls prog 169 #[v,dG x] w (Gx w (L.any λy=>decide (x=y))):=by
 rcases h with ⟨rfl,rfl⟩|⟨b,cap,rfl,A,r⟩;{refine cr (aCd x w) λw' f=> ?_;exact ⟨rfl,f⟩};{have B:=AV r.len A;refine (AnyQ.slices_Contains Tryz.aEW 5 isAgg59 sizeOf59 bZ vC _ aBT b 0 L.length cap L x w (AU _) B (λj o i E hu=> ?_)).mono ?_;{have:=r.row j L[j] (AC o) i E (by rwa [getElem!_pos L j o] at hu);rwa [BP]};{rintro e w' ⟨rfl,u⟩;rw [AX];exact ⟨rfl,Tc u⟩}}
def ba (l:List UInt8):ByteArray:=⟨l.toArray⟩
theorem mM (l):(ba l).data.toList=l:=by simp [ba]
theorem nN (l):(ba l).size=l.length:=by simp [ba,ByteArray.size]
theorem tZ (s):ba s.data.toList=s:=by
 obtain ⟨⟨l⟩⟩:=s;rfl
theorem aBn {l k} (h:ba l=ba k):l=k:=by
 have:=BD (λs:ByteArray=>s.data.toList) h;simpa [mM] using this
theorem lG (l):(ba l).toList=l:=by rw [ByteArray.toList_eq,mM]
def eH (l:List UInt8):Bool:=decide (1<=l.length)&&decide (l.length<=12)&&decide (l≠ [46])&&decide (l≠ [46,46])&&decide (Lib.indexByte l 0<0)&&decide (Lib.indexByte l 47<0)
theorem Va (l w):Calls prog 209 #[(ba l)] w λe w'=>e=.returned (.bool (eH l))/\w'=w:=by
 have E:=nN l;have J:=mM l;by_cases B:l.length<1;{(have q:((ba l).size:Int)<1:=X);(have o:eH l=false:=by simp [eH];omega);have r:=lH o;clear E J B o;go_enter func209,ntmps209;go_wp2_with fail;go_ret;exact ⟨by rw [r.o];rfl,rfl⟩};{by_cases H:12<l.length;{(have q:¬((ba l).size:Int)<1:=X);have aa:(12:Int)<((ba l).size:Int):=X;have o:eH l=false:=(by simp [eH];intros;omega);have r:=lH o;clear E J B o;go_enter func209,ntmps209;go_wp2_with fail;go_ret;exact ⟨by rw [r.o];rfl,rfl⟩};{(have q:¬((ba l).size:Int)<1:=X);have aa:¬(12:Int)<((ba l).size:Int):=X;by_cases u:l= [46];{(have V:ba l=⟨#[46]⟩:=by rw [u];rfl);have o:eH l=false:=(by simp [eH,u]);have r:=lH o;clear E J B H o u;go_enter func209,ntmps209;go_wp2_with fail;go_ret;exact ⟨by rw [r.o];rfl,rfl⟩};{by_cases A:l= [46,46];{(have V:ba l=⟨#[46,46]⟩:=by rw [A];rfl);have o:eH l=false:=(by simp [eH,A]);have r:=lH o;clear E J B H o u A;go_enter func209,ntmps209;go_wp2_with fail;go_ret;exact ⟨by rw [r.o];rfl,rfl⟩};{(have V:((ba l).toList== [46])=false:=by rw [lG];simpa using u);have ad:((ba l).toList== [46,46])=false:=(by rw [lG];simpa using A);(have o:eH l=(decide (Lib.indexByte l 0<0)&&decide (Lib.indexByte l 47<0)):=by{have a1:1<=l.length:=X;have a2:l.length<=12:=X;simp [eH,u,A,a1,a2]});have e0:(Int.toNat 0).toUInt8=0:=rfl;have ab:(Int.toNat 47).toUInt8=47:=rfl;by_cases Q:Lib.indexByte l 0<0;{have r:Hid (eH l=decide (Lib.indexByte l 47<0)):=lH (by rw [o];simp [Q]);clear E B H o u A;go_enter func209,ntmps209;go_wp2_with (go_at_call 252;refine (Tryz.strings_IndexByte _ _ _).mono ?_;rintro e w' ⟨rfl,rfl⟩);go_ret;exact ⟨by rw [r.o];rfl,rfl⟩};{have r:Hid (eH l=false):=lH (by rw [o];simp [Q]);clear E B H o u A;go_enter func209,ntmps209;go_wp2_with (go_at_call 252;refine (Tryz.strings_IndexByte _ _ _).mono ?_;rintro e w' ⟨rfl,rfl⟩);go_ret;exact ⟨by rw [r.o];rfl,rfl⟩}}}}}
def jW:Nat->List UInt8->Option (List (List UInt8))
 | _, []=>some []
 | 0,_::_=>none
 | n+1,c::t=>if c=47/\eH (t.takeWhile (· ≠47))=true then (jW n (t.dropWhile (· ≠47))).map (t.takeWhile (· ≠47):: ·) else none
def pathOf (l:List UInt8):Option (List (List UInt8)):=if l= [47] then some [] else if l= [] then none else jW 8 l
def strs (ps:List (List UInt8)):List Value:=ps.map λp=> .string (ba p)
theorem Il (l a b):(ba l).extract a b=ba ((l.drop a).take (b - a)):=by
 rw [<-tZ ((ba l).extract a b),Lib.extract_data,mM]
theorem aDy (c t):(ba (c::t)).extract 1 (ba (c::t)).size=ba t:=by
 rw [Il,nN];simp
theorem Pm (t:List UInt8) (j) (h:∀k,k<j->t[k]? ≠some 47) (o:t[j]? =some 47\/j=t.length):t.takeWhile (· ≠47)=t.take j/\t.dropWhile (· ≠47)=t.drop j:=by
 (induction t generalizing j with|nil=>{rcases o with h|rfl<;>simp_all}|cons x t ih=>{rcases j with _|j;{rcases o with h|h;{simp at h;simp [h]};{simp at h}};{(have r:x≠47:=by have:=h 0 X;simpa using this);have:=ih j (λk u=>by have:=h (k+1) X;simpa using this) (U o);simp only [ne_eq,decide_not] at this ⊢;simp [r,this]}})
theorem Fh (n t j) (h:∀k,k<j->t[k]? ≠some 47) (u:t[j]? =some 47\/j=t.length) (A:eH (t.take j)=true):jW (n+1) (47::t)=(jW n (t.drop j)).map (t.take j:: ·):=by
 obtain ⟨o,r⟩:=Pm t j h u;rw [jW,o,r,AL ⟨rfl,A⟩]
theorem Oh (n t j) (h:∀k,k<j->t[k]? ≠some 47) (r:t[j]? =some 47\/j=t.length) (u:eH (t.take j)=false):jW (n+1) (47::t)=none:=by
 obtain ⟨o,A⟩:=Pm t j h r;rw [jW,o,AA (by simp [u])]
def pF (w:World) (l:List UInt8) (e:Ending) (w':World):Prop:=
 Fr No w w'/\match pathOf l with
  | none=>e=.returned (.tuple #[nS,Z 12])
  | some ps=>∃v,e=.returned (.tuple #[v,Z 0])/\w'.ownsRow w 9 1 v ps.length (strs ps)
theorem _root_.Go.World.ownsRow.shape {w:World} {b t k n v xs} (h:w.ownsRow b t k v n xs):∃a cap,v=.slice a n cap:=by
 rcases h.2 with ⟨rfl,rfl⟩|⟨g,cap,o,rfl,_⟩;{exact ⟨none,0,rfl⟩};{exact ⟨_,_,rfl⟩}
theorem Dn (l w) (bn:l.length<=1000000):Calls prog 145 #[(ba l)] w (pF w l):=by
 obtain ⟨bh,bc,be,bf,bg⟩:=EM Tryz.info9;have ar:=lH bc;have ax:=lH be;have ay:=lH bf;have az:=lH bg;clear bc be bf bg;by_cases af:l= [47];{subst af;have A:Hid (pathOf [47]=some []):=lH rfl;(have q:((ba [47]).toList== [47])=true:=by rw [lG];rfl);go_enter func145,ntmps145;go_wp2_with fail;go_step3;go_wp2;rw [MC];go_ret2;unfold pF;rw [A.o];exact ⟨Fr.refl _,_,rfl,⟨rfl,.inl ⟨rfl,rfl⟩⟩⟩}
 ·(have cd:((ba l).toList== [47])=false:=by rw [lG];simpa using af);by_cases ah:l= [];{subst ah;have A:Hid (pathOf []=none):=lH rfl;have bi:¬(0:Int)<((ba []).size:Int):=G;go_enter func145,ntmps145;go_wp2_with fail;go_step3;go_wp2_with fail;go_step3;go_wp2_with fail;refine IZ 1 ?_;rw [GR];go_wp2_with fail;rw [MC];go_ret2;unfold pF;rw [A.o];exact ⟨Fr.refl _,rfl⟩}
  ·have bl:=lH af;have au:=lH ah;clear af ah;go_enter func145,ntmps145;go_wp2_with fail;go_step3;go_wp2_with fail;go_step3
   go_wp2_with fail;go_loopw [4,5] (λv ad wr=>∃(o:List (List UInt8)) (L:List UInt8),ad=.string (ba L)/\o.length<=8/\Hid (pathOf l=(jW (8 - o.length) L).map (o++ ·))/\Hid (L= []->o≠ [])/\L.length<=1000000/\wr.ownsRow w 9 1 v o.length (strs o)/\Fr No w wr)
    (λ_ ad _=>(match ad with| .string s=>s.size|_=>0))
   case atStart=>exact ⟨[],l,rfl,by simp,lH (by unfold pathOf;rw [AA bl.o,AA au.o];simp),lH (λe=>absurd e au),bn,⟨rfl,.inl ⟨rfl,rfl⟩⟩,Fr.refl _⟩
   case round=>
    obtain ⟨o,L,rfl,bx,A,bm,bb,H,fr⟩:=hrel;obtain ⟨a,cap,rfl⟩:=H.shape;rcases L with _|⟨c,t⟩;{(have bi:¬(0:Int)<((ba []).size:Int):=G);have bd:=bm.o rfl;(have am:((o.length:Int)==0)=false:=by{rcases o with _|⟨p,o⟩;{exact absurd rfl bd};{simp;omega}});have u:Hid (pathOf l=some o):=lH (by rw [A.o];simp [jW]);clear bd;go_wp2_with fail;go_ret2;unfold pF;rw [u.o];exact ⟨fr,_,rfl,H⟩}
    ·(have bi:(0:Int)<((ba (c::t)).size:Int):=by rw [nN,BX];omega);have cc:(0:Int)<=((ba (c::t)).size:Int):=X;have ch:(1:Int)<=((ba (c::t)).size:Int):=X;have bt:0<(ba (c::t)).size:=X;by_cases V:c=47/\o.length<8
     ·obtain ⟨rfl,bu⟩:=V;have am:(((ba (47::t))[0].toNat:Int) !=47)=false:=rfl;have bo:((o.length:Int)==8)=false:=(by simp;omega);have al:(ba (47::t)).extract 1 (ba (47::t)).size=ba t:=aDy _ _;obtain ⟨aq,rfl⟩:∃aq:World,aq=wr:=⟨wr,rfl⟩;have av:=lH (nN t);go_wp2_with fail;go_loopw [4,5,25] (λv ad i wr=>v=.slice a o.length cap/\ad=.string (ba t)/\∃j:Nat,i=Z j/\j<=t.length/\Hid (∀k,k<j->t[k]? ≠some 47)/\wr=aq) (λ_ _ i _=>t.length - (intOf i).toNat);case atStart=>exact ⟨rfl,rfl,0,rfl,BA _,lH (λk r=>by omega),rfl⟩
      case round=>
       obtain ⟨rfl,rfl,j,rfl,bv,Q,rfl⟩:=hrel;have bz:t.length<=1000000:=(by simp only [BX] at bb;omega);by_cases aj:j<t.length
       ·have ae:=av.o;have ce:(0:Int)<=(j:Int):=X;have bp:(j:Int)<((ba t).size:Int):=X;have cf:(j:Int)<=((ba t).size:Int):=X;have cg:j<(ba t).size:=X;by_cases J:t[j]=47
        ·(have bq:(((ba t)[j].toNat:Int) !=47)=false:=by{have:(ba t)[j]=t[j]:=rfl;rw [this,J];rfl});have ca:(ba t).extract 0 j=ba (t.take j):=(by rw [Il];simp);have cb:(ba t).extract j (ba t).size=ba (t.drop j):=(by rw [Il,nN,FI D]);have bj:=lH J;clear ae al J;go_wp2_with fail;refine (Va _ _).mono ?_;rintro e ao ⟨rfl,rfl⟩;have aw:Hid (t[j]? =some 47\/j=t.length):=.inl (by rw [AC aj];exact BD some bj);have E:8 - o.length=7 - o.length+1:=X;rcases B:eH (t.take j) with _|_;{have u:Hid (pathOf l=none):=lH (by rw [A.o,E,Oh _ t j Q.o aw.o B];rfl);clear B E;go_wp2_with fail;rw [MC];go_ret2;unfold pF;rw [u.o];exact ⟨fr,rfl⟩}
         ·have u:Hid (pathOf l=(jW (8 - (o++ [t.take j]).length) (t.drop j)).map ((o++ [t.take j])++ ·)):=lH (by
           rw [A.o,E,Fh _ t j Q.o aw.o B,Option.map_map,show 8 - (o++_).length=7 - o.length by rw [AB,AO];omega];congr 1;funext x;simp)
          clear B E;go_wp2_with (at_builtin;(refine wpList_append_own _ rfl _ _ 82 rfl w 9 bh (.string ⟨#[]⟩) 1 16 underlying82 ar ax ay az rfl G _ _ _ rfl (H.alloc _) (I ao 0) 1 1 [(ba (t.take j))] rfl rfl ?c1 ?c2 ?c3 ?c4 ?c5 ?_));(case c1=>intro k an r;(cases k with|zero=>simp at r;subst r;exact World.cell?_alloc_at _ _ _ _ rfl|succ k=>simp at r));(case c2=>first|rfl|(intro an hu;simp at hu;subst hu;rfl));(case c3=>unfold maxLen;omega);(case c4=>omega);(case c5=>simp;have:=fr.size;omega);intro br ap ak aa _;(have ag:Fr No w ap:=by{refine (fr.alloc _).grown aa ?_;intro k r;exact .inr (H.lt _ r).1});clear aa;go_wp2_with fail;refine ⟨⟨o++_,t.drop j,rfl,by simp;omega,u,lH (λ_=>by simp),by simp only [IB];simp only [BX] at bb;omega,?_,ag⟩,?_⟩;{rw [AB,strs,FN];exact ak};{simp only [nN,IB,BX];omega}
        ·have bq:(((ba t)[j].toNat:Int) !=47)=true:=by{have:(ba t)[j]=t[j]:=rfl;rw [this,JW];intro e;exact J (UInt8.toNat_inj.1 (by have h:(47:UInt8).toNat=47:=rfl;omega))}
         have bk:Hid (∀k,k<j+1->t[k]? ≠some 47):=λk r=>by
          by_cases e:k=j;{subst e;rw [AC aj];exact λe=>J (FZ e)};{exact Q.o k X}
         clear ae al J;go_wp2_with fail;go_roundw;{exact ⟨rfl,rfl,j+1,by go_num,aj,bk,trivial⟩};simp [intOf];omega
       ·(obtain rfl:j=t.length:=by omega);have ae:=av.o;have bp:¬(t.length:Int)<((ba t).size:Int):=X;have E:8 - o.length=7 - o.length+1:=X;have ab:t.take t.length=t:=FI (AU _);clear al ae;go_wp2_with fail;refine (Va _ _).mono ?_;rintro e ao ⟨rfl,rfl⟩;rcases B:eH t with _|_;{have u:Hid (pathOf l=none):=lH (by rw [A.o,E,Oh _ t t.length Q.o (.inr rfl) (by rw [ab];exact B)];rfl);clear B E ab;go_wp2_with fail;rw [MC];go_ret2;unfold pF;rw [u.o];exact ⟨fr,rfl⟩}
        ·have u:Hid (pathOf l=(jW (8 - (o++ [t]).length) []).map ((o++ [t])++ ·)):=lH (by
          rw [A.o,E,Fh _ t t.length Q.o (.inr rfl) (by rw [ab];exact B),Option.map_map,show 8 - (o++ [t]).length=7 - o.length by rw [AB,AO];omega,ab,KF];congr 1;funext x;simp)
         clear B E ab;go_wp2_with (at_builtin;refine wpList_append_own _ rfl _ _ 82 rfl w 9 bh (.string ⟨#[]⟩) 1 16 underlying82 ar ax ay az rfl G _ _ _ rfl (H.alloc _) (I ao 0) 1 1 [(ba t)] rfl rfl ?c1 ?c2 ?c3 ?c4 ?c5 ?_);(case c1=>intro k an r;(cases k with|zero=>simp at r;subst r;exact World.cell?_alloc_at _ _ _ _ rfl|succ k=>simp at r));(case c2=>first|rfl|(intro an hu;simp at hu;subst hu;rfl));(case c3=>unfold maxLen;omega);(case c4=>omega);(case c5=>simp;have:=fr.size;omega);intro br ap ak aa _;(have ag:Fr No w ap:=by{refine (fr.alloc _).grown aa ?_;intro k r;exact .inr (H.lt _ r).1});clear aa;go_wp2_with fail;refine ⟨⟨o++ [t], [],rfl,by simp;omega,u,lH (λ_=>by simp),by simp,?_,ag⟩,?_⟩;{rw [AB,strs,FN];exact ak};{have:(⟨#[]⟩:ByteArray).size=0:=rfl;simp only [nN,BX,this];omega}
     ·have u:Hid (pathOf l=none):=lH (by
       rw [A.o];rcases bw:8 - o.length with _|n;{simp [jW]}
       ·rw [jW,AA (by rintro ⟨h,_⟩;exact V ⟨h,by omega⟩)];rfl)
      by_cases ai:c=47;{subst ai;have am:(((ba (47::t))[0].toNat:Int) !=47)=false:=rfl;(have bo:((o.length:Int)==8)=true:=by{have:¬o.length<8:=λh=>V ⟨rfl,h⟩;rw [beq_iff_eq];omega});clear V;go_wp2_with fail;rw [MC];go_ret2;unfold pF;rw [u.o];exact ⟨fr,rfl⟩};{(have am:(((ba (c::t))[0].toNat:Int) !=47)=true:=by{have:(ba (c::t))[0]=c:=rfl;rw [this,JW];intro e;exact ai (UInt8.toNat_inj.1 (by have h:(47:UInt8).toNat=47:=rfl;omega))});clear V ai;go_wp2_with fail;rw [MC];go_ret2;unfold pF;rw [u.o];exact ⟨fr,rfl⟩}
theorem Qj {w:World} {base v n xs} (h:w.ownsRow base 59 5 v n xs) (j) (o:v.ownBlock=some j):base<=j:=by
 obtain ⟨_,⟨rfl,_⟩|⟨g,cap,u,rfl,r,_⟩⟩:=h;{cases o};{cases o;exact r}
theorem Be {S w w' base v n xs} (h:w.ownsRow base 59 5 v n xs) (f:Fr S w w') (B:∀j,v.ownBlock=some j->¬S j):w'.ownsRow base 59 5 v n xs:=by
 obtain ⟨o,u|⟨g,cap,r,rfl,H,E,A⟩⟩:=h;{exact ⟨o,.inl u⟩};{exact ⟨o,.inr ⟨g,cap,r,rfl,H,f.aB E (B g rfl),A⟩⟩}
def ptrs (m:cZ):List Pt:=m.l.filter λx=> !decide (x=aQ)
def Nr (w:World) (L:List Pt) (e:Ending) (w':World):Prop:=∃v,e=.returned v/\rM w' w v L/\Fr No w w'
theorem aCG (p m w) (h:pG w p m) (bw:m.l.length<=1000):Calls prog 40 #[Y p] w (Nr w (ptrs m)):=by
 have au:=lH (Om p m w h);have av:=lH h;have bc:Hid (∀v w' L,L=ptrs m->w'.ownsRow w 59 5 v L.length (L.flatMap bZ)->Fr No w w'->Nr w (ptrs m) (.returned v) w'):=λv w' L bj bm f=>by
  subst bj;exact ⟨v,rfl,F7 bm,f⟩
 generalize Nr w _=br at*;obtain ⟨bo,ak,ap,aq,ar⟩:=EM Tryz.Dp;have aw:=lH ak;have bf:=lH ap;have bg:=lH aq;have bh:=lH ar;clear ak ap aq ar h;go_enter func40,ntmps40;go_wp2_with fail;refine cr au.o λQ bn=> ?_;subst bn;go_wp2_with fail;go_loopw [3,7] (λs a wr=>∃(j:Nat) (L:List Pt),a=Z j/\j<=m.l.length/\Hid (L=(m.l.take j).filter λx=> !decide (x=aQ))/\L.length<=j/\Hid (wr.ownsRow Q 59 5 s L.length (L.flatMap bZ))/\Hid (Fr No Q wr)) (λ_ a _=>m.l.length - (intOf a).toNat);(case atStart=>exact ⟨0, [],rfl,BA _,lH D,AU _,lH ⟨rfl,.inl ⟨rfl,rfl⟩⟩,lH (Fr.refl _)⟩);(case round=>obtain ⟨j,L,rfl,al,V,bv,H,E⟩:=hrel;obtain ⟨a,bt,rfl⟩:=H.o.shape;by_cases A:j<m.l.length;{obtain ⟨v,ad,ae⟩:=av.o.fr E.o;obtain ⟨base,cap,rfl⟩:=ae.slice;obtain ⟨b,rfl,am,J⟩:=ae.row X;have ab:=lH (J.row j m.l[j] (AC A));have bx:=J.len;have bz:=am;have bp:(j:Int)<(m.l.length:Int):=X;have cb:(j:Int)<(cap:Int):=X;have cc:(0:Int)<=(j:Int):=X;have c2:wr.cell? (I p 2)=some (O b m.l.length cap):=(by rw [aA ad];rfl);have ai:Hid (m.l.take (j+1)=m.l.take j++ [m.l[j]]):=lH (by rw [DJ,AC A];rfl);have be:=lH (AC A);have ax:=lH ad;have bd:=lH J;generalize m.l[j]=x at*;unfold bZ at ab;have u:=lH (yN 84 (.inl rfl) x wr);unfold dG at u;clear ad ae J am;(cases r:decide (x=aQ) with|true=>{rw [r] at u;have aa:Hid (L=(m.l.take (j+1)).filter λx=> !decide (x=aQ)):=lH (by rw [ai.o,DW,<-V.o];simp only [GM,r];simp);clear r;go_wp2_with (refine wL 59 ab ?_);refine cr u.o λB o=> ?_;go_wp2_with fail;go_roundw;{exact ⟨j+1,L,by go_num,A,aa,by omega,lH (Be H o zq),lH (E.o.trans o zq)⟩};simp [intOf];omega}|false=>{rw [r] at u;have aa:Hid (L++ [x]=(m.l.take (j+1)).filter λx=> !decide (x=aQ)):=lH (by rw [ai.o,DW,<-V.o];simp only [GM,r];simp);clear r;go_wp2_with (refine wL 59 ab ?_);refine cr u.o λB o=> ?_;have c3:B.cell? (I p 2)=some (O b m.l.length cap):=(by rw [aA (o.aB ax.o id)];rfl);have ah:=lH ((bd.o.fr o id).row j x be);have ag:=lH (Be H o zq);have af:=lH (E.o.trans o zq);have ca:=af.o.size;unfold bZ at ah;go_wp2_with (first|(refine wL 59 ah ?_)|(at_builtin;(refine wpList_append_lies _ R _ _ 77 R Q 59 bo _ 5 40 underlying77 aw bf bg bh rfl G _ L.length (L.flatMap bZ) R (ag.o.alloc _) (I B 0) 1 1 (cP x) R R ?d1 (by simp [Value.oneCell']) G (by unfold maxLen;omega) X ?d5 (B.heap.size+1) ?d6 ?_)));(case d1=>exact World.news_of_block (cs:=(cP x)) (t:=59) (fr:=(0,0)) (AQ B _));(case d5=>rw [fF];omega);(case d6=>simp);intro bu cap bq ao aj bk bl;(have an:Fr No Q bq:=by{refine (af.o.alloc _).grown aj (λj al=> .inr ?_);exact Qj ag j al});have az:=lH an;have bb:=lH ao;clear ao aj bk bl an;go_wp2_with fail;go_roundw;{refine ⟨j+1,L++ [x],by go_num,A,aa,by rw [AB,AO];omega,lH ?_,az⟩;have bi:=bb.o;rw [EX,AB];simp only [DU,GU,EK,AO];exact bi};simp [intOf];omega})};{(obtain rfl:j=m.l.length:=by omega);have bp:¬(m.l.length:Int)<(m.l.length:Int):=X;have ay:Hid (L=ptrs m):=lH (by rw [V.o,AX];rfl);exact aC (bc.o _ _ L ay H E.o)})
structure Dl where
 k:Int
 i:Int
 b:Int
 s:Int
 t:Pt
 o:Pt
deriving DecidableEq,Inhabited
inductive QcV|m (x:Dl)
abbrev cV:=QcV.m
instance (x:Dl):CoeDep QcV (.m x) (Array Value):=⟨#[x.k,x.i,x.b,x.s,x.t.c,x.t.l,x.t.n,x.t.a,x.t.z,x.o.c,x.o.l,x.o.n,x.o.a,x.o.z]⟩
instance (x:Dl):CoeDep QcV (.m x) (List Value):=⟨[x.k,x.i,x.b,x.s,x.t.c,x.t.l,x.t.n,x.t.a,x.t.z,x.o.c,x.o.l,x.o.n,x.o.a,x.o.z]⟩
def dE (d:Dl):List Value:= [Z d.k,Z d.i,Z d.b,Z d.s,Z d.t.c,Z d.t.l,Z d.t.n,Z d.t.a,Z d.t.z,Z d.o.c,Z d.o.l,Z d.o.n,Z d.o.a,Z d.o.z]
def iV (d:Dl):Value:=.agg #[Z d.k,Z d.i,Z d.b,Z d.s,Z d.t.c,Z d.t.l,Z d.t.n,Z d.t.a,Z d.t.z,Z d.o.c,Z d.o.l,Z d.o.n,Z d.o.a,Z d.o.z]
def dP (d:Dl):Prop:=2<=d.i/\d.i<=128/\0<=d.b/\d.b<64/\0<=d.s/\d.s<=4096/\dW d.t/\dW d.o/\
 ((d.k=1/\d.o=aQ)\/(d.k=2/\d.o=aQ/\d.t=aQ/\d.b=0)\/(d.k=3/\d.s=0))
instance (d:Dl):Decidable (dP d):=by unfold dP;infer_instance
def gZ (m:cZ) (d:Dl):Prop:=(d.k=1/\d.b*64<d.s)\/d.k=2\/(d.k=3/\d.b<m.l.length/\d.o≠aQ/\dV m d.b=d.o/\d.t≠aQ/\d.t.z=d.o.z)
instance (m:cZ) (d:Dl):Decidable (gZ m d):=by unfold gZ;infer_instance
def iH (w:World) (b:Nat) (d:Dl):Prop:=w.heap[b]? =some (.cells (dE d).toArray 61 (0,0))
theorem iH.fr {w w':World} {b:Nat} {d:Dl} (h:iH w b d) (f:Fr No w w'):iH w' b d:=f.aB h id
theorem iH.cells {w:World} {b:Nat} {d:Dl} (h:iH w b d):w.cell? (I b 0)=some (Z d.k)/\w.cell? (I b 1)=some (Z d.i)/\w.cell? (I b 2)=some (Z d.b)/\w.cell? (I b 3)=some (Z d.s)/\
  w.cell? (I b 4)=some (Z d.t.c)/\w.cell? (I b 5)=some (Z d.t.l)/\w.cell? (I b 6)=some (Z d.t.n)/\w.cell? (I b 7)=some (Z d.t.a)/\w.cell? (I b 8)=some (Z d.t.z)/\
  w.cell? (I b 9)=some (Z d.o.c)/\w.cell? (I b 10)=some (Z d.o.l)/\w.cell? (I b 11)=some (Z d.o.n)/\w.cell? (I b 12)=some (Z d.o.a)/\w.cell? (I b 13)=some (Z d.o.z):=by
 refine ⟨?_,?_,?_,?_,?_,?_,?_,?_,?_,?_,?_,?_,?_,?_⟩<;>(rw [aA h];rfl)
def pW (w:World) (b:Bool) (e:Ending) (w':World):Prop:=e=.returned (.bool b)/\Fr No w w'
theorem aAZ (p:Nat) (m:cZ) (d:Dl) (w:World) (hd:dP d) (Q:d.k=1):Calls prog 167 #[Y p,iV d] w (pW w (decide (d.b*64<d.s))):=by
 have A:Fr No w (w.alloc (.cells (dE d).toArray 61)):=(Fr.refl w).alloc _;have E:iH (w.alloc (.cells (dE d).toArray 61)) w d:=aT w _;obtain ⟨au,av,aw,ax,ay,az,B,H,J⟩:=hd;have o:=lH (Ez d.t (w.alloc (.cells (dE d).toArray 61)));have ap:Hid (decide (dW d.t)=true):=lH (by rw [BV];exact B);have r:=lH A;unfold dG dE at o;unfold iV;unfold dE at r;obtain ⟨aa,ab,ah,ai,aj,ak,al,am,an,ao,ad,ae,af,ag⟩:=E.cells;unfold wU at o;rw [ap.o] at o;by_cases V:d.b*64<d.s;{(have e:decide (d.b*64<d.s)=true:=by simpa using V);rw [e];have u:Hid (∀e w',e=.returned (.bool true)->Fr No w w'->pW w true e w'):=λe w' a b=>⟨a,b⟩;generalize pW w true=aq at*;clear A E B H J e aa ab ah ai aj ak al am an ao ad ae af ag;rw [Q] at*;go_enter func167,ntmps167;go_wp2_with fail;refine cr o.o λbb ar=> ?_;exact aC (u.o _ _ rfl (r.o.trans ar zq))};{(have e:decide (d.b*64<d.s)=false:=by simpa using V);rw [e];have u:Hid (∀e w',e=.returned (.bool false)->Fr No w w'->pW w false e w'):=λe w' a b=>⟨a,b⟩;generalize pW w false=aq at*;clear A E B H J e aa ab ah ai aj ak al am an ao ad ae af ag o;rw [Q] at*;go_enter func167,ntmps167;exact aC (u.o _ _ rfl r.o)}
theorem aFj (p:Nat) (d:Dl) (w:World) (hd:dP d) (V:d.k=2):Calls prog 167 #[Y p,iV d] w (pW w true):=by
 have u:Fr No w (w.alloc (.cells (dE d).toArray 61)):=(Fr.refl w).alloc _;obtain ⟨ab,ad,ae,af,B,E,H,J,Q⟩:=hd;have o:=lH (Au d.s 4096 (w.alloc (.cells (dE d).toArray 61)));have e:(decide (0<=d.s)&&decide (d.s<=4096))=true:=by simp [B,E]
 rw [e] at o;have r:=lH u;unfold dE at o r;unfold iV;have A:Hid (∀e w',e=.returned (.bool true)->Fr No w w'->pW w true e w'):=λe w' a b=>⟨a,b⟩;generalize pW w true=aa at*;clear u H J Q e;rw [V] at*;go_enter func167,ntmps167;go_wp2_with fail;refine cq o.o ?_;exact aC (A.o _ _ rfl r.o)
theorem aBA (p:Nat) (m:cZ) (d:Dl) (w:World) (h:pG w p m) (aw:m.l.length<=1000) (hd:dP d) (E:d.k=3):
  Calls prog 167 #[Y p,iV d] w (pW w (decide (gZ m d))):=by
 have o:Fr No w (w.alloc (.cells (dE d).toArray 61)):=(Fr.refl w).alloc _;have H:iH (w.alloc (.cells (dE d).toArray 61)) w d:=aT w _;obtain ⟨af,ag,aq,ar,ah,ai,B,aj,ak⟩:=hd;have A:decide (dW d.t)=true:=by rw [BV];exact B
 have J:Hid (decide (gZ m d)=(decide (d.b<m.l.length)&&(!decide (d.o=aQ))&&decide (dV m d.b=d.o)&&(!decide (d.t=aQ))&&(d.t.z==d.o.z))):=lH (by
  have am:gZ m d↔d.b<m.l.length/\d.o≠aQ/\dV m d.b=d.o/\d.t≠aQ/\d.t.z=d.o.z:=by
   unfold gZ;rw [E];simp
  rw [MF,BV,am];simp [and_assoc])
 have r:∀W,Fr No (w.alloc (.cells (dE d).toArray 61)) W->Fr No w W:=λW f=>o.trans f zq;have C1:Hid (∀W,Fr No (w.alloc (.cells (dE d).toArray 61)) W->Calls prog 38 #[Y p] W λe w'=>e=.returned (Z m.l.length)/\Fr No W w'):=λW f=>(Om p m W (h.fr (r W f))).mono (λe w' x=>⟨x.1,x.2▸Fr.refl _⟩);have C2:Hid (∀W,Fr No (w.alloc (.cells (dE d).toArray 61)) W->Calls prog 39 #[Y p,d.b] W (yP W (dV m d.b))):=λW f=>Yr p m d.b W (h.fr (r W f));have C3:Hid (∀W,Fr No (w.alloc (.cells (dE d).toArray 61)) W->Calls prog 84 #[dG d.o] W λe w'=>e=.returned (.bool (decide (d.o=aQ)))/\Fr No W w'):=λW _=>yN 84 (.inl rfl) d.o W;have C4:Hid (∀W,Fr No (w.alloc (.cells (dE d).toArray 61)) W->Calls prog 84 #[dG d.t] W λe w'=>e=.returned (.bool (decide (d.t=aQ)))/\Fr No W w'):=λW _=>yN 84 (.inl rfl) d.t W;have C5:Hid (∀W,Fr No (w.alloc (.cells (dE d).toArray 61)) W->Calls prog 165 #[dG d.t] W λe w'=>e=.returned (.bool true)/\Fr No W w'):=λW _=>by
  have:=Ez d.t W;unfold wU at this;rw [A] at this;exact this
 have N1:Hid (∀w,(binOp .eql 59 (.agg (cP (dV m d.b))) (.agg (cP d.o))).run prog w=.ok (.bool (decide (dV m d.b=d.o))) w):=λw=>vM (dV m d.b).c (dV m d.b).l (dV m d.b).n (dV m d.b).a (dV m d.b).z d.o.c d.o.l d.o.n d.o.a d.o.z w;have Q:Hid (∀b e w',decide (gZ m d)=b->e=.returned (.bool b)->Fr No w w'->pW w (decide (gZ m d)) e w'):=λb e w' h a f=>by subst h;exact ⟨a,f⟩
 generalize pW w (decide (gZ m d))=ao at*;unfold yP at C2;generalize decide (dV m d.b=d.o)=ab at*;generalize dV m d.b=ap at*;generalize decide (d.o=aQ)=aa at*;generalize decide (d.t=aQ)=ad at*;have u:=lH o;have B1:=lH H;unfold iH dE at B1;unfold dE at C1 C2 C3 C4 C5 u;unfold dG at*;unfold iV;have an:prog.follows .mixedOrders=true:=N
 clear o H h B aj ak A af ag ah ai r;rw [E] at*;generalize ax:w.alloc (.cells #[Z 3,d.i,d.b,d.s,d.t.c,d.t.l,d.t.n,d.t.a,d.t.z,d.o.c,d.o.l,d.o.n,d.o.a,d.o.z] 61)=ay at*;generalize av:(d.t.z==d.o.z)=ae at*;generalize au:decide (d.b<(m.l.length:Int))=V at*;cases V;rotate_left 1;cases aa;cases ab;rotate_left 1;cases ad;cases ae;all_goals
  have p:=aA B1.o;go_enter func167,ntmps167;go_wp2_with fail;clear p;refine Rn [] ?_ an;intro W al;go_wp2_with fail;exact Q.o _ _ _ (by rw [J.o];simp) rfl (u.o.trans al.o zq)
open Go.Lib
def fO (K i c:Nat):Prop:=c=K+3000+i\/c=K+4000+i
def kN (w:World) (o:Nat->Nat) (K i p:Nat) (m:cZ) (w':World):Prop:=∃o',Step (fO K i) w o w' o'/\jT w' o' K i p m
theorem kN.later {w r w' o K i p m} (u:aF w o) (f:Fr No w r) (h:kN r o K i p m w'):kN w o K i p m w':=by
 obtain ⟨A,s,t⟩:=h;exact ⟨A,(Step.no u f).trans s (λ_ e=>e),t⟩
def gK (L:List Pt) (n:Nat):List Pt:=if n<=L.length then L.take n else L++List.replicate (n - L.length) aQ
theorem We:(Value.agg #[Z 0,Z 0,Z 0,Z 0,Z 0]).cells.size=5:=rfl
def Ko (w:World) (o:Nat->Nat) (K i p:Nat) (m:cZ) (e:Ending) (w':World):Prop:=e=.returned (.tuple #[])/\kN w o K i p m w'
theorem jT.put {w r o K i p b cap} {m:cZ} {cs l} {n:Nat} (h:o p=K+3000+i) (V:w.heap[p]? =some (.cells cs 162 (0,0))) (A:aF w o) (u:o b=K+4000+i) (Q:i<1000) (f:Fr (λj=>j=b\/j=p) w r) (J:r.heap[p]? =some (.cells #[true,n,O b l.length cap] 162 (0,0))) (H:bF bZ 5 59 r b cap l) (E:cap<=maxLen):kN w o K i p ⟨n,l⟩ r:=
 ⟨o,⟨f.mono (λj _ e=>by
  rcases e with rfl|rfl
  ·exact .inr u
  ·exact .inl h),λ_ _=>rfl,λj B=>A j (AV f.size B)⟩,h,_,J,.inr ⟨b,cap,rfl,E,u,H⟩⟩
theorem jT.Ht {w r o K i p b cap cs l} {n:Nat} (h:o p=K+3000+i) (E:w.heap[p]? =some (.cells cs 162 (0,0))) (B:aF w o) (Q:w.heap.size<=b) (f:Fr (λj=>j=p) w r) (J:r.heap[p]? =some (.cells #[true,n,O b l.length cap] 162 (0,0))) (A:bF bZ 5 59 r b cap l) (H:cap<=maxLen):kN w o K i p ⟨n,l⟩ r:=by
 have aa:=lt_of_block E;have V:=A.lt;exact ⟨fZ o b (K+4000+i),⟨f.mono (λj _ e=> .inl (by rw [e];exact h)),λj u=>dS o _ X,λj u=>by
  rw [dS o _ X];exact B j (AV f.size u)⟩,by rw [dS o _ X];exact h,_,J,.inr ⟨b,cap,rfl,H,mF _ _ _,A⟩⟩
theorem jT.aB9 {w r o K i p cs} {n:Nat} (h:o p=K+3000+i) (E:w.heap[p]? =some (.cells cs 162 (0,0))) (u:aF w o) (f:Fr (λj=>j=p) w r) (B:r.heap[p]? =some (.cells #[true,n,nS] 162 (0,0))):kN w o K i p ⟨n, []⟩ r:=
 ⟨o,⟨f.mono (λj _ e=> .inl (by rw [e];exact h)),λ_ _=>rfl,λj A=>u j (AV f.size A)⟩,h,_,B,.inl ⟨rfl,rfl⟩⟩
theorem Yf (E K i p m) (n:Nat) (w) (h:jT w E K i p m) (bi:aF w E) (bx:i<1000) (cc:n<=4096) (ck:m.l.length<=1000):
  Calls prog 168 #[Y p,n] w (Ko w E K i p ⟨n,gK m.l (dA n)⟩):=by
 obtain ⟨bg,v,B,bb⟩:=h;have al:Hid (∀e w',e=.returned (.tuple #[])->kN w E K i p ⟨n,gK m.l (dA n)⟩ w'->Ko w E K i p ⟨n,gK m.l (dA n)⟩ e w'):=λe w' a b=>⟨a,b⟩;(have ci:dA n<=65:=by unfold dA;omega);(have c1:w.cell? (I p 1)=some (Z m.size):=by rw [aA B];rfl);have co:=aU B 1;have aq:=setCell_at B 1 (Z n);have bf:Fr (· =p) w (w.setCell (I p 1) (Z n)):=dZ w p 1 _;have ak:=lH (aEo n cc (w.setCell (I p 1) (Z n)));(have c2:(w.setCell (I p 1) (Z n)).cell? (I p 2)=some v:=by rw [aA aq];rfl);have cp:=aU aq 2;have av:=lH bi;have ab:=lH bg;have aj:=lH B;have aw:=lH aq;have aa:=lH bf;generalize Ko w E K i p ⟨n,gK m.l _⟩=ch at*;have be:Hid (gK m.l (dA n)=if dA n<=m.l.length then m.l.take (dA n) else m.l++List.replicate (dA n - m.l.length) aQ):=lH rfl;generalize gK m.l _=M at*;generalize dA n=q at*;generalize cl:w.setCell (I p 1) (Z n)=o at*;clear B bi bg aq bf;by_cases ae:q<=m.l.length
 ·have ad:Hid (M=m.l.take q):=lH (by rw [be.o,AL ae]);rcases bb with ⟨rfl,Q⟩|⟨b,cap,rfl,ap,u,af⟩
  ·have ce:q=0:=by rw [Q] at ae;simpa using ae
   subst ce;have V:Hid (kN w E K i p ⟨n,M⟩ (o.setCell (I p 2) (nS))):=lH (by
    rw [ad.o,Q];exact jT.aB9 ab aj av (aa.o.trans (dZ o p 2 _) zq) (setCell_at aw.o 2 _))
   clear Q;go_enter func168,ntmps168;go_wp2_with fail;refine cr ak.o ?_;rintro ah rfl;refine aC ?_;exact AZ (v:=.tuple #[]) (by simp [results,results168,go_sem]) rfl (al.o _ _ rfl V)
  ·have ca:=af.len;have cb:=ap;have ay:p≠b:=(by intro e;have:=ab.o;rw [e,u] at this;omega);have ao:(m.l.take q).length=q:=(by rw [BZ];omega)
   have V:Hid (kN w E K i p ⟨n,M⟩ (o.setCell (I p 2) (O b q q))):=lH (by
    have ai:Fr (· =p) w (o.setCell (I p 2) (O b q q)):=aa.o.trans (dZ o p 2 _) zq;rw [ad.o];refine jT.put (cap:=q) (b:=b) (m:=m) ab aj av u bx (ai.mono (λ_ _ e=> .inr e)) ?_ ((af.fr ai (λe=>ay e.symm)).tight q (AU _) X) (by unfold maxLen;omega);have:=setCell_at aw.o 2 (O b q q);rw [ao];exact this)
   have cf:(q:Int)<=(m.l.length:Int):=X;have cg:(q:Int)<=(cap:Int):=X;have cm:(0:Int)<=(q:Int):=X;clear af u ap ao;go_enter func168,ntmps168;go_wp2_with fail;refine cr ak.o ?_;rintro ah rfl;refine aC ?_;exact AZ (v:=.tuple #[]) (by simp [results,results168,go_sem]) rfl (al.o _ _ rfl V)
 ·have ad:Hid (M=m.l++List.replicate (q - m.l.length) aQ):=lH (by rw [be.o,AA ae]);(have an:m.l.length+(q - m.l.length)=q:=X);obtain ⟨bq,bj,bo,bp,bd⟩:=EM Tryz.Dp;(have bc:qF o.drew v m.l:=by{rcases bb with bw|⟨b,cap,e,ap,u,af⟩;{exact .inl bw};{(have ay:p≠b:=by intro e;have:=ab.o;rw [e,u] at this;omega);exact .inr ⟨b,cap,e,ap,(af.fr aa (λe=>ay e.symm)).fr (S:=No) ⟨rfl,rfl,rfl,AU _,λ_ _ _=>rfl⟩ id⟩}});obtain ⟨base,cap,rfl⟩:=bc.slice;(have bl:(Builtin.firstCells bq.size m.l.length (.slice base m.l.length m.l.length)).run prog o.drew.drew=.ok (m.l.flatMap bZ).toArray o.drew.drew:=by{rw [bp];rcases bc with ⟨A,Q⟩|⟨b,cap',A,_,u⟩;{simp only [KY] at A;rw [A.1,Q];exact run_firstCells_none o.drew.drew 5 0 0 0};{cases A;have:=bF.firstCells (P:=prog) (w:=o.drew.drew) (c:=bZ) vC (u.fr (S:=No) ⟨rfl,rfl,rfl,AU _,λ_ _ _=>rfl⟩ id) m.l.length m.l.length m.l.length (AU _);rwa [AX] at this}});have ax:=λH=>Lib.run_append_grow_zeros o.drew 77 3 H 59 bq _ .i64 .i64 underlying77 underlying3 bj bo base m.l.length m.l.length _ bl (q - m.l.length) X X X X (by rw [bd];omega) (by rw [bd,an];exact growslice_fits X X);rw [an] at ax;have cj:=grownCap_ge o.drew q m.l.length 59;have bz:=NK o.drew q m.l.length 59 (by unfold maxLen;omega);generalize grownCap o.drew q m.l.length 59=G at*;obtain ⟨r,am⟩:∃r,r=o.drew.drew.alloc (.cells ((m.l.flatMap bZ).toArray++Builtin.zeroCells (Value.agg #[Z 0,Z 0,Z 0,Z 0,Z 0]).cells (q - m.l.length)++Builtin.zeroCells (Value.agg #[Z 0,Z 0,Z 0,Z 0,Z 0]).cells (G - q)) 59):=⟨_,rfl⟩
  have az:∀H,(Builtin.append_ #[77,3] H #[.slice base m.l.length m.l.length,Z ((q:Int) - (m.l.length:Int))]).run prog o.drew=.ok (O o q G) r:=λH=>by
   have:=ax H;rw [show ((q - m.l.length:Nat):Int)=(q:Int) - (m.l.length:Int) by omega] at this;rw [am];exact this
  have au:Fr No o r:=am▸Fr.alloc (a:=o) (b:=o.drew.drew) ⟨rfl,rfl,rfl,AU _,λ_ _ _=>rfl⟩ _;(have bh:M.length=q:=by rw [ad.o,AB,KR];exact an);(have bm:bF bZ 5 59 r o G M:=by{refine bF.of_block vC (am▸aT o.drew.drew _) ?_ X (λk cn B=> ?_);{simp only [Array.size_append,MN,nG vC,Builtin.zeroCells,Array.size_map,Array.size_range,We];omega};{(have ag:(List.replicate (q - m.l.length) aQ).flatMap bZ=(Builtin.zeroCells (Value.agg #[Z 0,Z 0,Z 0,Z 0,Z 0]).cells (q - m.l.length)).toList:=by{rw [Rl _ 5 _ We,Ru];rfl});rw [ad.o,EX,ag] at B;have ao:=(AY.1 B).1;rw [MW (U ao)];rw [<-B,<-CV];simp}});have ar:=au.aB aw id;have ct:=aU ar 2;have c3:r.cell? (I p 2)=some (.slice base m.l.length cap):=by rw [aA ar];rfl
  have bn:=aa.o.size;have cd:=lt_of_block aj.o;have V:Hid (kN w E K i p ⟨n,M⟩ (r.setCell (I p 2) (O o q G))):=lH (by
   have ai:Fr (· =p) w (r.setCell (I p 2) (O o q G)):=(aa.o.trans au (λ_ _ e=>e.elim)).trans (dZ r p 2 _) zq;refine jT.Ht (cap:=G) (b:=o.heap.size) ab aj av bn ai ?_ (bm.fr (dZ r p 2 _) X) bz;rw [bh];exact setCell_at ar 2 _)
  (have br:prog.follows .mixedOrders=true:=N);(have cf:¬(q:Int)<=(m.l.length:Int):=X);clear bh bm ar am au ax bl an bj bo bp bd bb ae bn cd;rcases bc with ⟨A,Q⟩|⟨b,cap',A,bk,u⟩
  ·simp only [KY] at A;obtain ⟨rfl,ag,rfl⟩:=A;have bt:Hid (∀H,(Builtin.append_ #[77,3] H #[nS,Z (q:Int)]).run prog o.drew=.ok (O o q G) r):=λH=>by
    have:=az H;rwa [ag,Int.natCast_zero,Int.sub_zero] at this
   have bu:Hid (IntKind.i64.wrap (q:Int)=(q:Int)):=lH (by rw [BG];omega);clear az;rw [ag] at*;clear ag Q;go_enter func168,ntmps168;go_wp2_with fail;refine cr ak.o ?_;rintro ah rfl;go_wp2_with fail;refine qL br (λW=>W=ah.drew) [23,24,25,26] N N N N (λ_ _ d _ _ h=>by cases d<;>exact h) rfl ?_;repeat (first
    | refine kR R ?_
    | (refine kM (v:= ?_) R R ?_ ?_
       rotate_left 1;(intro W;go_simp;(try with_reducible rfl))
       simp only [pT,aJ,lsS])
    | (refine kL (v:= ?_) R N R ?_ ?_
       rotate_left 1;(intro W J;have c4:W.cell? (I p 2)=some (nS):=(by rw [J];exact c2);go_simp;(try with_reducible rfl))
       simp only [pT,aJ,lsS]))
   intro W J;subst J;simp only [CX,DL,DC,CQ];refine Lib.wpList_append_run _ rfl (.tmp 43) (.tmp 50) 77 3 rfl (nS) (Z q) ?_ ?_ _ _ (bt.o _) ?_;{simp [Act.eval]};{simp [Act.eval,bu.o]};refine aC ?_;exact IE (v:=.tuple #[]) (by simp [results,results168,go_sem]) rfl (al.o _ _ rfl V)
  ·have ca:=u.len;have cb:=bk;cases A;have cg:(m.l.length:Int)<=(cap:Int):=X
   have bv:Hid (IntKind.i64.wrap ((q:Int) - (m.l.length:Int))=(q:Int) - (m.l.length:Int)):=lH (by rw [BG];omega);clear u bk;go_enter func168,ntmps168;go_wp2_with fail;refine cr ak.o ?_;rintro ah rfl;go_wp2_with fail;refine qL br (λW=>W=ah.drew) [23,24,25,26] N N N N (λ_ _ d _ _ h=>by cases d<;>exact h) rfl ?_;repeat (first
    | refine kR R ?_
    | (refine kM (v:= ?_) R R ?_ ?_
       rotate_left 1;(intro W;go_simp;(try with_reducible rfl))
       simp only [pT,aJ,lsS])
    | (refine kL (v:= ?_) R N R ?_ ?_
       rotate_left 1;(intro W J;have c4:W.cell? (I p 2)=some (O b m.l.length cap):=(by rw [J];exact c2);go_simp;(try with_reducible rfl))
       simp only [pT,aJ,lsS]))
   intro W J;subst J;simp only [CX,DL,DC,CQ];refine Lib.wpList_append_run _ rfl (.tmp 43) (.tmp 50) 77 3 rfl _ _ ?_ ?_ _ _ (az _) ?_;{simp [Act.eval]};{simp [Act.eval,bv.o]};refine aC ?_;exact IE (v:=.tuple #[]) (by simp [results,results168,go_sem]) rfl (al.o _ _ rfl V)
theorem Pi (a b c d e o r u A e':Int) (w:World):(binOp .neq 59 (.agg #[a,b,c,d,e]) (.agg #[o,r,u,A,e'])).run prog w=.ok (.bool (!decide ((⟨a,b,c,d,e⟩:Pt)=⟨o,r,u,A,e'⟩))) w:=by
 have h:=vM a b c d e o r u A e' w;rw [run_eql_struct] at h;rw [run_neq_struct];generalize (Op.equalIn 10000 59 (.agg #[a,b,c,d,e]) (.agg #[o,r,u,A,e'])).run prog w=B at*;(cases B with|ok b w'=>simp only [Result.andThen,Result.ok.injEq,Value.bool.injEq] at h ⊢;obtain ⟨rfl,rfl⟩:=h;exact ⟨rfl,rfl⟩|halt x w'=>simp [Result.andThen] at h)
theorem Ur (p:Nat) (m:cZ) (d:Dl) (w:World) (h:pG w p m) (u:m.l.length<=1000) (hd:dP d):Calls prog 167 #[Y p,iV d] w (pW w (decide (gZ m d))):=by
 obtain ⟨_,_,_,_,_,_,_,_,r⟩:=id hd;rcases r with ⟨o,_⟩|⟨o,_⟩|⟨o,_⟩;{(have:decide (gZ m d)=decide (d.b*64<d.s):=by{rw [decide_eq_decide];unfold gZ;rw [o];simp});rw [this];exact aAZ p m d w hd o};{(have:decide (gZ m d)=true:=by{rw [BV];exact .inr (.inl o)});rw [this];exact aFj p d w hd o};{exact aBA p m d w h u hd o}
def jO (m:cZ) (d:Dl):cZ:=
 if d.k=1 then ⟨max m.size d.s.toNat,(gK m.l (dA (max m.size d.s.toNat))).set d.b.toNat d.t⟩
 else if d.k=2 then ⟨d.s.toNat,gK m.l (dA d.s.toNat)⟩
 else ⟨m.size,m.l.set d.b.toNat d.t⟩
def bT (m:cZ) (d:Dl):cZ:=if gZ m d then jO m d else m
def eX (m:cZ):Prop:=m.size<=4096/\m.l.length=dA m.size
theorem y9 (L:List Pt) (n:Nat):(gK L n).length=n:=by
 unfold gK;split;{rw [BZ];omega};{rw [AB,KR];omega}
def vI (w:World) (o:Nat->Nat) (K i p:Nat) (m:cZ) (e:Ending) (w':World):Prop:=(∃v b,e=.returned (.tuple #[v,.bool b]))/\kN w o K i p m w'
theorem jT.setAt {w:World} {o:Nat->Nat} {K i p b cap:Nat} {n:Int} {l:List Pt} {size:Nat} (h:o p=K+3000+i) (u:w.heap[p]? =some (.cells #[true,size,O b l.length cap] 162 (0,0))) (A:aF w o) (r:o b=K+4000+i) (Q:i<1000) (E:cap<=maxLen) (J:bF bZ 5 59 w b cap l) (j:Nat) (B:j<l.length) (t:Pt):
  kN w o K i p ⟨size,l.set j t⟩ (w.setCells b (j*5) (bZ t)):=by
 have H:p≠b:=by intro e;rw [e,r] at h;omega
 have f:=lK b (bZ t) (j*5) w;exact ⟨o,⟨f.mono (λk _ e=>by rw [e];exact .inr r),λ_ _=>rfl,λk u=>A k (AV f.size u)⟩,h,_,f.aB u H,.inr ⟨b,cap,by rw [EZ],E,r,bF.set (c:=bZ) vC J j B t⟩⟩
def PtZ (w:World) (o:Nat->Nat) (v:Value) (L:List Pt):Prop:=(v=.slice none 0 0/\L= [])\/∃b cap,v=.slice (some (I b 0)) L.length cap/\cap<=maxLen/\o b=0/\bF bZ 5 59 w b cap L
theorem rM.z {w w0:World} {o:Nat->Nat} {v:Value} {L:List Pt} (h:rM w w0 v L) (u:aF w0 o):PtZ w o v L:=by
 rcases h with h|⟨b,cap,e,A,r,B⟩;{exact .inl h};{exact .inr ⟨b,cap,e,A,u b r,B⟩}
theorem PtZ.val {w:World} {u:Nat->Nat} {v:Value} {L:List Pt} (h:PtZ w u v L):qF w v L:=by
 rcases h with h|⟨b,cap,e,o,_,r⟩;{exact .inl h};{exact .inr ⟨b,cap,e,o,r⟩}
theorem PtZ.step {C:Nat->Prop} {w w':World} {u A:Nat->Nat} {v:Value} {L:List Pt} (h:PtZ w u v L) (s:Step C w u w' A) (B:¬C 0):PtZ w' A v L:=by
 rcases h with h|⟨b,cap,e,E,o,r⟩;{exact .inl h};{exact .inr ⟨b,cap,e,E,(s.old b r.lt).trans o,r.fr s.fr (by rw [o];exact B)⟩}
theorem Di (K i:Nat):¬fO K i 0:=by unfold fO;omega
theorem aEx (o:Nat->Nat) (K i p:Nat) (m:cZ) (d:Dl) (w:World) (h:jT w o K i p m) (A:aF w o) (Q:m.l.length<=1000) (hd:dP d) (H:¬gZ m d):
  Calls prog 116 #[.pointer (some (I p 0)),iV d] w (vI w o K i p m):=by
 have u:Fr No w (w.alloc (.cells (dE d).toArray 61)):=(Fr.refl w).alloc _;have r:=lH (Ur p m d _ (h.reads.fr u) Q hd);rw [BC H] at r;have V:Hid (∀e w',(∃v b,e=.returned (.tuple #[v,.bool b]))->Fr No w w'->vI w o K i p m e w'):=λe w' ab f=>⟨ab,o,Step.no A f,h.no A f⟩;generalize vI w o K i p m=ad at*;have E:=lH u;obtain ⟨_,v,J,_⟩:=h;have B:=u.aB J id;unfold pW at r;unfold dE at B r E;unfold iV at*;have ae:(w.alloc (.cells [.int .i64 d.k,.int .i64 d.i,.int .i64 d.b,.int .i64 d.s,.int .i64 d.t.c,.int .i64 d.t.l,.int .i64 d.t.n,.int .i64 d.t.a,.int .i64 d.t.z,.int .i64 d.o.c,.int .i64 d.o.l,.int .i64 d.o.n,.int .i64 d.o.a,.int .i64 d.o.z].toArray 61)).cell? (I p 0)=some (.bool true):=aA B _;clear A J B u hd H Q;go_enter func116,ntmps116;go_wp2_with fail;refine cr r.o λaf aa=> ?_;go_wp2_with fail;exact V.o _ _ ⟨_,_,rfl⟩ (E.o.trans aa zq)
theorem kN.set {w w':World} {aa:Nat->Nat} {K i p J:Nat} {r:List Pt} (g:kN w aa K i p ⟨J,r⟩ w') (ae:i<1000) (o:Nat) (E:o<r.length):
  ∃b cap,w'.heap[p]? =some (.cells #[true,Z J,O b r.length cap] 162 (0,0))/\cap<=maxLen/\r.length<=cap/\w'.drew.there b (o*5) 5/\∀t,kN w aa K i p ⟨J,r.set o t⟩ (w'.drew.setCells b (o*5) (bZ t)):=by
 obtain ⟨aj,H,ag,v,B,V⟩:=g;dsimp only at B V;rcases V with ⟨_,af⟩|⟨b,cap,rfl,Q,ab,u⟩;{rw [af] at E;simp at E};have A:Fr No w' w'.drew:=(Fr.refl _).drew;refine ⟨b,cap,B,Q,u.len,bF.there (u.fr A id) o 5 (by have:=u.len;omega),λt=> ?_⟩;obtain ⟨ah,ai,ad⟩:=jT.setAt (n:=0) (w:=w'.drew) ag B H.fresh ab ae Q (u.fr A id) o E t;exact ⟨ah,(H.trans (Step.no H.fresh A) (λ_ e=>e)).trans ai (λ_ e=>e),ad⟩
theorem aA6 (r:Nat->Nat) (K i p:Nat) (m:cZ) (d:Dl) (w:World) (h:jT w r K i p m) (db:aF w r) (bo:i<1000) (bq:eX m) (hd:dP d) (bm:gZ m d):
  Calls prog 116 #[Y p,iV d] w (vI w r K i p (jO m d)):=by
 (have bp:m.l.length<=1000:=by rw [bq.2];have:=bq.1;unfold dA;omega);have ap:Fr No w (w.alloc (.cells (dE d).toArray 61)):=(Fr.refl w).alloc _;have dw:iH (w.alloc (.cells (dE d).toArray 61)) w d:=aT w _;have ah:=lH (Ur p m d _ (h.reads.fr ap) bp hd);rw [BN bm] at ah;have ek:Hid (∀v b w',kN w r K i p (jO m d) w'->vI w r K i p (jO m d) (.returned (.tuple #[v,.bool b])) w'):=λv b w' g=>⟨⟨v,b,rfl⟩,g⟩;generalize vI w r K i p (jO m d)=fq at*;have av:=lH ap;have aw:=lH h;have B:=lH db;obtain ⟨_,v,E,_⟩:=id h;have ch:=lH bq;have Q:=lH hd;have ax:=lH bm;have ce:=lH dw;unfold pW at ah;unfold iV at*;have cp:=aA (ap.aB E id);unfold dE at ah av cp;clear db E ap hd bm h dw;go_enter func116,ntmps116;go_wp2_with fail;refine cr ah.o λff bi=> ?_;have al:=lH (av.o.trans bi zq);have cf:=lH (ce.o.fr bi);obtain ⟨v,E,dq⟩:=aw.o.reads.fr al.o;have c2:=aA E;have cb:=lH (U4 v m.l ff dq X);clear cp E dq bi ah;go_wp2_with fail;refine cb.o.mono ?_;rintro e V ⟨gn,rfl,dl,bj⟩;have am:=lH (al.o.trans bj zq);have bf:=lH ((F7 dl).z (noS B al).fresh);have bc:=lH (cf.o.fr bj);have ag:=lH (aw.o.no B am);have ab:=lH (noS B am).fresh;obtain ⟨gp,wc,rfl⟩:=bf.o.val.slice;(have bx:prog.follows .mixedOrders=true:=N);have co:Hid (r w.heap.size=0):=B.o _ (AU _);have cg:Hid (∀W ar,Step (fO K i) V r W ar->W.heap[w.heap.size]? =some (.cells (cV d) 61 (0,0))):=λW ar s=>s.block bc (by rw [co.o];exact Di K i);have cl:=lH ag.o.1;obtain ⟨fe,dg,dr⟩:=ag.o.reads;have aa:=lH dg;have cn:=lH dr;have em:Hid (jO m d=jO m d):=lH rfl;obtain ⟨dz,_,ea,au,_⟩:=bc.o.cells;clear dl bj c2 cb dg dr em;go_upto_block 0 with fail;go_cut [] (λaf=>Hid (kN V r K i p (jO m d) af));(case first=>rcases Q.o.2.2.2.2.2.2.2.2 with ⟨E,bw⟩|⟨E,bw⟩|⟨E,bw⟩;(all_goals have u:=lH E;clear bw E dz);(case' inr.inl=>have cu:(d.k==1)=false:=(by rw [u.o];rfl);have er:(d.k==2)=true:=(by rw [u.o];rfl);obtain ⟨n,br⟩:∃n:Nat,d.s=n:=⟨d.s.toNat,by have:=Q.o.2.2.2.2.1;omega⟩;have an:Hid (jO m d=⟨n,gK m.l (dA n)⟩):=lH (by unfold jO;rw [u.o,br];rfl);have ao:=lH (Yf r K i p m n V ag ab bo (by have:=Q.o.2.2.2.2.2.1;omega) bp);rw [br] at au;clear br;go_wp2_with fail;refine cr ao.o λJ g=> ?_;have bb:=lH g;clear g;go_wp2_with fail;go_meet;exact lH (by rw [an.o];exact bb.o));(all_goals obtain ⟨H,ad⟩:∃n:Nat,d.b=n:=⟨d.b.toNat,by have:=Q.o.2.2.1;omega⟩);(case' inl=>have cu:(d.k==1)=true:=(by rw [u.o];rfl);obtain ⟨bz,bt⟩:∃n:Nat,d.s=n:=⟨d.s.toNat,by have:=Q.o.2.2.2.2.1;omega⟩;have ai:H*64<bz:=(by have:=u.o;rcases ax.o with ⟨_,h⟩|h|h<;>omega);obtain ⟨A,dj⟩:∃A,A=max m.size bz:=⟨_,rfl⟩;have ez:A<=4096:=(by have:=ch.o.1;have:=Q.o.2.2.2.2.2.1;omega);have ex:max (m.size:Int) (bz:Int)=(A:Int):=X;have ew:(gK m.l (dA A)).length=dA A:=y9 _ _;have aj:H<(gK m.l (dA A)).length:=(by unfold dA at*;omega);have an:Hid (jO m d=⟨A,(gK m.l (dA A)).set H d.t⟩):=lH (by unfold jO;rw [u.o,bt,ad,dj];rfl);have c1:=aA aa.o;have ao:=lH (Yf r K i p m A V.drew (ag.o.no ab (Fr.refl _).drew) ab bo ez bp);rw [bt] at au;have ci:=lH ad;clear dj ew bt ad;generalize gK m.l (dA A)=gc at*;go_wp2_with fail;refine bJ [8] ?_ bx;go_wp2_with fail;refine ao.o.mono ?_;rintro e ca ⟨rfl,g⟩;have g:=kN.later ab (Fr.refl _).drew g;clear c1 ao ex ai);(case' inr.inr=>have cu:(d.k==1)=false:=(by rw [u.o];rfl);have er:(d.k==2)=false:=(by rw [u.o];rfl);have ft:(d.k==3)=true:=(by rw [u.o];rfl);have aj:H<m.l.length:=(by have:=u.o;rcases ax.o with ⟨h,_⟩|h|⟨_,h,_⟩<;>omega);have an:Hid (jO m d=⟨m.size,m.l.set H d.t⟩):=lH (by unfold jO;rw [u.o,ad];rfl);have c1:=aA aa.o;have cc:=lH (U4 fe m.l V cn X);have ci:=lH ad;clear ad;go_wp2_with fail;refine cc.o.mono ?_;rintro e ae ⟨gm,rfl,dm,bk⟩;rcases F7 dm with ⟨_,fa⟩|⟨bg,bh,rfl,cz,cy,da⟩;{rw [fa] at aj;simp at aj};have aq:=bk.aB aa id;have fk:ae.frozen? (I p 2)=false:=aU aq 2;have eq:=aA aq;have cv:Fr (· =p) V (ae.setCell (I p 2) (O bg m.l.length bh)):=bk.bC.trans (dZ ae p 2 _) zq;have ga:=lt_of_block aa.o;have g:kN V r K i p m (ae.setCell (I p 2) (O bg m.l.length bh)):=jT.Ht cl aa ab cy cv (setCell_at aq 2 _) (da.fr (dZ ae p 2 _) X) cz;clear da dm bk aq cv c1 cc cz cy;go_upto_region 12 with fail;clear eq fk;generalize ae.setCell (I p 2) (O bg m.l.length bh)=ca at*);(all_goals obtain ⟨ep,ct,dx,di,fx,dp,dc⟩:=g.set bo H aj;obtain ⟨ar,dy,_⟩:=g;obtain ⟨_,_,y2,_,y4,y5,y6,y7,gq,_⟩:=(show iH ca w d from cg.o ca ar dy).cells;rw [ci.o] at y2;have el:=lH dp;have bb:=lH (dc d.t);have d2:=aA dx;have gg:=CO.2 aj;have gh:(0:Int)<=(H:Int):=X;have gi:(H:Int)<(ct:Int):=X;have gj:ct<=9223372036854775807:=di;clear dp dc dx dy ea au di;go_wp2_with fail;refine bJ [8,9] ?_ bx;go_wp2_with (refine KG R 59 _ _ R ep (H*5) (cP d.t) ?a1 ?a2 el Tryz.rC (by simp [Value.oneCell']) ?_);(case a1=>rfl);(case a2=>rfl);simp only [Act.put];go_meet;exact lH (by rw [an.o];exact bb.o)))
 case rest=>
  obtain ⟨J,rfl⟩:∃J:World,J=wc:=⟨_,rfl⟩;have eb:=hcut.o;obtain ⟨fc,ak,bn⟩:=eb;have en:=lH (bf.o.step ak (Di K i)).val;have cd:=lH bn.reads;have ec:Hid (∀W,Fr No J W->kN w r K i p (jO m d) W):=λW f=>kN.later B am ⟨fc,ak.trans (Step.no ak.fresh f) (λ_ e=>e),bn.no ak.fresh f⟩;generalize jO m d=o at*;clear ak bn hcut bc cg dz ea au bf ag ab cl aa cn co Q ax ce cf aw B ch av al am;obtain ⟨fb,de,dt,du,dv⟩:=EM Tryz.Dp;have ee:=lH de;have ef:=lH dt;have eg:=lH du;have eh:=lH dv;clear de dt du dv;go_wp2_with fail;go_loopw [7,79] (λg a wr=>∃(j:Nat) (G:List Pt),a=Z j/\j<=m.l.length/\G.length<=j/\Hid (wr.ownsRow J 59 5 g G.length (G.flatMap bZ))/\Hid (Fr No J wr)) (λ_ a _=>m.l.length - (intOf a).toNat);case atStart=>exact ⟨0, [],rfl,BA _,AU _,lH ⟨rfl,.inl ⟨rfl,rfl⟩⟩,lH (Fr.refl _)⟩
  case round=>
   obtain ⟨j,G,rfl,df,fw,cj,B⟩:=hrel;obtain ⟨cw,cx,rfl⟩:=cj.o.shape;by_cases ai:j<m.l.length
   ·obtain ⟨fh,rfl,ds,bv⟩:=(en.o.fr B).row X;have cm:=lH (bv.row j m.l[j] (AC ai));have fy:=bv.len;have fz:wc<=9223372036854775807:=ds;have fd:(j:Int)<(m.l.length:Int):=X;have ge:(j:Int)<(wc:Int):=X;have gf:(0:Int)<=(j:Int):=X;generalize m.l[j]=x at*;unfold bZ at cm;have bl:Fr No wr (wr.alloc (.cells (cP x) 59)):=(Fr.refl wr).alloc _;have ck:=lH (Be cj bl zq);have az:=lH (B.o.trans bl zq);have B1:=lH (aT wr (.cells (cP x) 59));clear bl bv ds;go_upto_region 17 with (refine EQ R 59 _ R fh (j*5) R (cP x) _ cm underlying59 rfl Tryz.rC ?_);generalize wr.alloc (.cells (cP x) 59)=af at*;generalize wr.heap.size=gk at*;obtain ⟨gl,dh,bu⟩:=cd.o.fr az.o;obtain ⟨eo,c2,rfl⟩:=bu.slice;have B2:=lH dh;have ed:=lH (cd.o.fr az);have C1:Hid (∀W,Fr No af W->Calls prog 84 #[dG x] W λe w'=>e=.returned (.bool (decide (x=aQ)))/\Fr No W w'):=λW _=>yN 84 (.inl rfl) x W;have C2:Hid (∀W,Fr No af W->Calls prog 39 #[Y p,j] W (yP W (dV o j))):=λW f=>Yr p o j W (ed.o.fr f);have C3:Hid (∀W,Fr No af W->Calls prog 169 #[.slice eo o.l.length c2,dG x] W (Gx W (o.l.any λy=>decide (x=y)))):=λW f=>Yp _ _ x W (bu.fr f);have C4:Hid (∀W,Fr No af W->Calls prog 169 #[.slice cw G.length cx,dG x] W (Gx W (G.any λy=>decide (x=y)))):=λW f=>Yp _ _ x W (F7 (Be ck f zq)).val;have N1:Hid (∀w,_):=λw=>Pi (dV o j).c (dV o j).l (dV o j).n (dV o j).a (dV o j).z x.c x.l x.n x.a x.z w;unfold yP at C2;unfold Gx at C3 C4;unfold dG at C1 C2 C3 C4;clear dh bu;generalize decide (x=aQ)=fi at*;generalize decide ((⟨(dV o j).c,(dV o j).l,(dV o j).n,(dV o j).a,(dV o j).z⟩:Pt)=⟨x.c,x.l,x.n,x.a,x.z⟩)=fj at*;generalize (o.l.any λy=>decide (x=y))=fl at*;generalize (G.any λy=>decide (x=y))=fo at*;generalize dV o j=fs at*;generalize o.l=gd at*;cases fi;cases fj;cases fl;cases fo;(all_goals refine Rn [] ?_ bx;intro W be;have ay:=lH (az.o.trans be zq);have bd:=lH (Be ck be zq))
    rotate_left 1;all_goals try
     go_wp2_with fail;go_roundw;{exact ⟨j+1,G,by go_num,ai,by omega,bd,ay⟩};simp [intOf];omega
    have gb:=ay.o.size;have s:=aA (be.o.aB B1 id);go_wp2_with (at_builtin;(refine wpList_append_lies _ R _ _ 77 R J 59 fb _ 5 40 underlying77 ee ef eg eh rfl (by decide) (.slice cw G.length cx) G.length (G.flatMap bZ) R (bd.o.alloc _) (I W 0) 1 1 (cP x) R R ?d1 (by simp [Value.oneCell']) (by decide) (by unfold maxLen;omega) X ?d5 (W.heap.size+1) ?d6 ?_));(case d1=>exact World.news_of_block (cs:= #[Z x.c,Z x.l,Z x.n,Z x.a,Z x.z]) (t:=59) (fr:=(0,0)) (AQ W _));(case d5=>rw [fF];omega);(case d6=>simp);intro fu cap fg dn dd eu ev;(have dk:Fr No J fg:=by{refine (ay.o.alloc _).grown dd (λj df=> .inr ?_);exact Qj bd j df});have ei:=lH dk;have ej:=lH dn;clear dn dd eu ev dk;go_wp2_with fail;go_roundw;{refine ⟨j+1,G++ [x],by go_num,ai,by rw [AB,AO];omega,lH ?_,ei⟩;have et:=ej.o;rw [EX,AB];simp only [DU,GU,EK,AO];exact et};simp [intOf];omega
   {(obtain rfl:j=m.l.length:=by omega);have fd:¬(m.l.length:Int)<(m.l.length:Int):=X;go_wp2_with fail;exact ek.o _ true _ (ec.o _ B)}
theorem Vt (o:Nat->Nat) (K i p:Nat) (m:cZ) (d:Dl) (w:World) (h:jT w o K i p m) (A:aF w o) (B:i<1000) (u:eX m) (hd:dP d):
  Calls prog 116 #[Y p,iV d] w (vI w o K i p (bT m d)):=by
 (have E:m.l.length<=1000:=by rw [u.2];have:=u.1;unfold dA;omega);unfold bT;by_cases r:gZ m d;{rw [AL r];exact aA6 o K i p m d w h A B u hd r};{rw [AA r];exact aEx o K i p m d w h A E hd r}
def qW (ps:List (List UInt8)):List UInt8:=47::Lib.join ps [47]
theorem Ze (x r):qW (x::r)=Lib.joinTail [47] (x::r):=by
 rw [qW,Lib.join_cons];simp [Lib.joinTail]
theorem sN (x) (h:eH x=true):(∀k:Nat,x[k]? ≠some 47)/\1<=x.length/\x.length<=12:=by
 simp only [eH,BO,BV] at h;obtain ⟨⟨⟨⟨⟨o,r⟩,_⟩,_⟩,_⟩,u⟩:=h;have:=Lib.indexByte_ge x 47;exact ⟨λk=>Lib.indexByte_none X k,o,r⟩
theorem aFF (o) (h:∀x∈o,eH x=true):(Lib.joinTail [47] o).length<=13*o.length:=by
 (induction o with|nil=>simp [Lib.joinTail]|cons x r ih=>have B:=(sN x (h x D)).2.2;have u:=ih (λy A=>h y (by simp [A]));simp only [Lib.joinTail,EW,List.flatten_cons,AB,BX,ER] at u ⊢;omega)
theorem aB6 (r n) (h:∀x∈r,eH x=true) (u:r.length<=n):jW n (Lib.joinTail [47] r)=some r:=by
 induction r generalizing n with
 | nil=>simp [Lib.joinTail,jW]
 | cons x o ih=>
  obtain ⟨n,rfl⟩:∃m,n=m+1:=⟨n - 1,by simp at u;omega⟩;have B:=sN x (h x D);have e:Lib.joinTail [47] (x::o)=47::(x++Lib.joinTail [47] o):=by simp [Lib.joinTail]
  have a1:∀k,k<x.length->(x++Lib.joinTail [47] o)[k]? ≠some 47:=λk A=>by
   rw [GV A];exact B.1 k
  (have a2:(x++Lib.joinTail [47] o)[x.length]? =some 47\/x.length=(x++Lib.joinTail [47] o).length:=by{rcases o with _|⟨y,o⟩;{right;simp [Lib.joinTail]};{left;rw [IC (AU _)];simp [Lib.joinTail]}});(have a3:eH ((x++Lib.joinTail [47] o).take x.length)=true:=by{rw [List.take_left];exact h x D});rw [e,Fh n _ x.length a1 a2 a3,List.drop_left,List.take_left,ih n (λy E=>h y (by simp [E])) (by simp at u;omega)];rfl
theorem aFM (o) (h:∀x∈o,eH x=true) (u:o.length<=8):pathOf (qW o)=some o:=by
 rcases o with _|⟨x,r⟩;{rfl};{have A:=sN x (h x D);(have e:Lib.joinTail [47] (x::r)=47::(x++Lib.joinTail [47] r):=by simp [Lib.joinTail]);rw [Ze,pathOf,AA,AA,aB6 _ _ h u];{rw [e];simp};{rw [e];rcases x with _|⟨a,x⟩;{simp at A};{simp}}}
theorem Sm (o) (h:∀x∈o,eH x=true) (r:o.length<=8):(qW o).length<=104:=by
 rcases o with _|⟨x,u⟩;{decide};{rw [Ze];have:=aFF _ h;omega}
theorem aCA (n l o) (h:jW n l=some o):(∀x∈o,eH x=true)/\o.length<=n:=by
 induction n generalizing l o with
 | zero=>
  rcases l with _|⟨c,t⟩;{simp [jW] at h;subst h;simp};{simp [jW] at h}
 | succ n ih=>
  rcases l with _|⟨c,t⟩;{simp [jW] at h;subst h;simp}
  ·rw [jW] at h;split at h
   ·rename_i B
    obtain ⟨H,u,rfl⟩:=CY.1 h;obtain ⟨A,E⟩:=ih _ _ u;exact ⟨λx r=>by
     rcases CB.1 r with rfl|r;{exact B.2}
     ·exact A x r,by simp;omega⟩
   {cases h}
theorem sU (l o) (h:pathOf l=some o):(∀x∈o,eH x=true)/\o.length<=8:=by
 unfold pathOf at h;split at h;{cases h;simp};{split at h;{cases h};{exact aCA 8 l o h}}
theorem Ih {w:World} {base n v o} (h:w.ownsRow base 9 1 v n (strs o)) (u:n=o.length) (A:o≠ []):
  ∃g c,v=.slice (some (I g 0)) o.length c/\o.length<=c/\base<=g/\g<w.heap.size/\∀(j:Nat) x,(o.map ba)[j]? =some x->w.cell? (I g (0+j))=some (.string x):=by
 subst u;rcases h.2 with ⟨rfl,J⟩|⟨g,cap,H,rfl,V,B,u,_,ab,aa⟩;{exact absurd (CW J) A};{refine ⟨g,cap,rfl,u,V,lt_of_block B,λj x E=> ?_⟩;(have r:(strs o)[j]? =some (.string x):=by{simp only [strs,DY,CY] at E ⊢;obtain ⟨p,A,rfl⟩:=E;exact ⟨p,A,rfl⟩});rw [<-aa] at r;(have Q:H.toList[j]? =some (.string x):=by{rw [EL] at r;split at r;{exact r};{cases r}});rw [BP,aA B];simpa using Q}
theorem aAH (g c k o w) (ad:k=o.length) (H:∀(j:Nat) x,(o.map ba)[j]? =some x->w.cell? (I g (0+j))=some (.string x)) (J:g<w.heap.size) (E:o.length<=c) (Q:∀x∈o,eH x=true) (B:o.length<=8):
  Calls prog 312 #[O g k c] w λe w'=>e=.returned (.string (ba (qW o)))/\Fr No w w':=by
 subst ad;(have ab:(Lib.join o [47]).length<=104:=by{have:=Sm o Q B;simp [qW] at this;omega});(have u:(o.map ba).map (·.data.toList)=o:=by{rw [List.map_map];(conv=>rhs;rw [<-List.map_id o]);apply JF;intro x _;exact mM x});have r:(⟨#[47]⟩:ByteArray).data.toList= [47]:=rfl;have A:=lH (Tryz.strings_Join g 0 c (o.map ba) ⟨#[47]⟩ w H J (by rw [CG];omega) (by rw [CG];exact E) (by rw [u,r];omega));have V:(o.map ba).length=o.length:=CG ..;rw [u,V,r] at A;(have af:(⟨#[47]⟩:ByteArray)++⟨(Lib.join o [47]).toArray⟩=ba (qW o):=by{apply ByteArray.ext;simp [ba,qW]});(have ag:¬(9223372036854775807<(⟨#[47]⟩:ByteArray).size+(⟨(Lib.join o [47]).toArray⟩:ByteArray).size):=by{(have:(⟨(Lib.join o [47]).toArray⟩:ByteArray).size=(Lib.join o [47]).length:=by simp [ByteArray.size]);rw [this];have:(⟨#[47]⟩:ByteArray).size=1:=rfl;omega});clear H Q B u r V ab J E;generalize (Lib.join o [47]).toArray=ae at*;generalize o.length=n at*;go_enter func312,ntmps312;go_wp2_with fail;refine A.o.mono ?_;rintro e w' ⟨rfl,aa⟩;go_wp2_with fail;go_ret;exact ⟨rfl,Fr.of_below aa (AU _)⟩
def Ol (w:World) (l:List UInt8) (e:Ending) (w':World):Prop:=
 Fr No w w'/\match pathOf l with
  | none=>e=.returned (.tuple #[.string ⟨#[]⟩,.string ⟨#[]⟩,Z 12])
  | some []=>e=.returned (.tuple #[.string ⟨#[]⟩,.string ⟨#[]⟩,Z 1])
  | some (p::ps)=>e=.returned (.tuple #[(ba (qW (p::ps).dropLast)),(ba ((p::ps).getLast D)),Z 0])
theorem aCq (l w) (aa:l.length<=1000000):Calls prog 288 #[(ba l)] w (Ol w l):=by
 have A:=lH (Dn l w aa);have ah:=lH (sU l);clear aa;unfold Ol;unfold pF at A;generalize pathOf l=P at*;rcases P with _|_|⟨p,o⟩;{go_enter func288,ntmps288;go_wp2_with fail;refine A.o.mono ?_;rintro e E ⟨r,rfl⟩;go_wp2_with fail;exact AZ (v:=.tuple _) (by simp [results,results288,go_sem]) rfl ⟨r,rfl⟩};{go_enter func288,ntmps288;go_wp2_with fail;refine A.o.mono ?_;rintro e E ⟨r,v,rfl,B⟩;obtain ⟨a,cap,rfl⟩:=B.shape;go_wp2_with fail;exact AZ (v:=.tuple _) (by simp [results,results288,go_sem]) rfl ⟨r,rfl⟩}
 ·obtain ⟨ad,aj⟩:=ah.o (p::o) rfl;have ag:=lH ad;clear ad;go_enter func288,ntmps288;go_wp2_with fail;refine A.o.mono ?_;rintro e E ⟨r,v,rfl,B⟩;obtain ⟨g,c,rfl,ak,_,al,H⟩:=Ih B rfl (by simp);have ab:(p::o).length=o.length+1:=rfl;rw [ab] at ak aj ⊢;have hd:o.length=(p::o).dropLast.length:=by simp
  have af:=lH (aAH g c o.length (p::o).dropLast E.drew hd (λj x u=>H j x (by
   rw [List.map_dropLast] at u;simp only [List.getElem?_dropLast] at u;split at u;{exact u}
   ·cases u)) al X (λx ao=>ag.o x (List.dropLast_subset _ ao)) X)
  have am:E.cell? (I g o.length)=some (.string (ba ((p::o).getLast (by simp)))):=by
   have:=H o.length (ba ((p::o).getLast (by simp))) (by
    rw [DY,List.getLast_eq_getElem];simp)
   rw [BP] at this;exact this
  have ap:=lH am;clear H B hd ab;generalize Q:(p::o).dropLast=D at*;generalize V:(p::o).getLast _=T at*;have ae:=lH Q;have ai:=lH V;clear Q V;generalize an:o.length=n at*;clear an;(have aq:(0:Int)<=(n:Int):=X);(have ar:(n:Int)<=(c:Int):=X);(have au:(n:Int)+1<=(c:Int):=X);(have av:((n+1:Nat):Int) - 1=n:=X);have aw:(n:Int)<(n:Int)+1:=X
  go_wp2_with fail;go_region_held3 (λw'=>w'.cell? (I g n)=some (.string (ba T))) (first|go_keep|exact J.cell_of (by assumption) id)
   ((go_at_call 312;refine af.o.mono ?_;rintro e ax ⟨rfl,J⟩))
  (all_goals go_wp2_with fail;go_ret3;refine ⟨r.drew.trans J zq,?_⟩;rw [<-ae.o,<-ai.o];rfl)
theorem Td {k l:List (List UInt8)} (r:k.length<=l.length) (h:∀i,i<k.length->k[i]? =l[i]?):k.isPrefixOf l=true:=by
 rw [JI,List.prefix_iff_eq_take];apply List.ext_getElem?;intro i;rw [EL];split;{rename_i o;exact h i o};{rename_i o;exact GI X}
theorem Vg {k l:List (List UInt8)} {i} (o:i<k.length) (h:k[i]? ≠l[i]?):k.isPrefixOf l=false:=by
 rw [<-KH,JI,List.prefix_iff_eq_take];intro e;apply h;rw [e] at o
 conv=>lhs;rw [e]
 rw [EL,AL];simp at o;omega
theorem Q9 (a b l k w) (aj:a.length<=1000000) (ak:b.length<=1000000) (ab:pathOf a=some l) (V:pathOf b=some k):
  Calls prog 232 #[(ba a),(ba b)] w λe w'=>e=.returned (.bool (k.isPrefixOf l))/\Fr No w w':=by
 have ah:∀w,Calls prog 145 #[(ba a)] w λe w'=>Fr No w w'/\∃v,e=.returned (.tuple #[v,Z 0])/\w'.ownsRow w 9 1 v l.length (strs l):=λw=>(Dn a w aj).mono (λe w' h=>by unfold pF at h;rw [ab] at h;exact h);have ai:∀w,Calls prog 145 #[(ba b)] w λe w'=>Fr No w w'/\∃v,e=.returned (.tuple #[v,Z 0])/\w'.ownsRow w 9 1 v k.length (strs k):=λw=>(Dn b w ak).mono (λe w' h=>by unfold pF at h;rw [V] at h;exact h);have bq:=(sU a l ab).2;have bp:=(sU b k V).2;have J:=lH ah;have Q:=lH ai;clear ah ai ab V aj ak;by_cases bn:l.length<k.length
 ·have E:Hid (k.isPrefixOf l=false):=lH (by
   rw [<-KH,JI];intro h;have:=h.length_le;omega)
  (have bf:(l.length:Int)<(k.length:Int):=X);go_enter func232,ntmps232;go_wp2_with fail;refine (J.o _).mono ?_;rintro e av ⟨A,ar,rfl,o⟩;obtain ⟨a1,c1,rfl⟩:=o.shape;clear o;go_wp2_with fail;refine (Q.o _).mono ?_;rintro e ad ⟨u,au,rfl,r⟩;obtain ⟨a2,c2,rfl⟩:=r.shape;clear r;go_wp2_with fail;go_ret;exact ⟨by rw [E.o];rfl,A.trans u zq⟩
 ·(have bf:¬(l.length:Int)<(k.length:Int):=X);rcases H:k with _|⟨br,bt⟩;{subst H;go_enter func232,ntmps232;go_wp2_with fail;refine (J.o _).mono ?_;rintro e av ⟨A,ar,rfl,o⟩;obtain ⟨a1,c1,rfl⟩:=o.shape;clear o;go_wp2_with fail;refine (Q.o _).mono ?_;rintro e ad ⟨u,au,rfl,r⟩;obtain ⟨a2,c2,rfl⟩:=r.shape;clear r;go_wp2_with fail;refine IZ 1 ?_;rw [GR];go_wp2_with fail;go_ret;exact ⟨rfl,A.trans u zq⟩}
  ·(have aa:k≠ []:=by rw [H];simp);rw [<-H];clear H;(have ap:l≠ []:=by{rintro rfl;have:=JG.2 aa;have bk:([]:List (List UInt8)).length=0:=rfl;omega});have az:=lH aa;have bb:=lH ap;clear aa ap;go_enter func232,ntmps232;go_wp2_with fail;refine (J.o _).mono ?_;rintro e av ⟨A,ar,rfl,o⟩;obtain ⟨bc,c1,rfl,bl,_,_,al⟩:=Ih o rfl bb.o;have aw:=lH al;clear o al;go_wp2_with fail;refine (Q.o _).mono ?_;rintro e ad ⟨u,au,rfl,r⟩;obtain ⟨bd,c2,rfl,bm,_,_,am⟩:=Ih r rfl az.o;have ax:=lH am;clear r am;go_wp2_with fail;go_loopw [36] (λi wr=>∃j:Nat,i=Z j/\j<=k.length/\Hid (∀i,i<j->k[i]? =l[i]?)/\wr=ad) (λi _=>k.length - (intOf i).toNat);case atStart=>exact ⟨0,rfl,BA _,lH (λi be=>by omega),rfl⟩
   case round=>
    obtain ⟨j,rfl,bo,ag,rfl⟩:=hrel;by_cases aq:j<k.length
    ·(have bg:(j:Int)<(k.length:Int):=X);have bu:(0:Int)<=(j:Int):=X;have bv:(j:Int)<(l.length:Int):=X;(have bi:wr.cell? (I bc j)=some (.string (ba (l[j]' X))):=by{have:=u.cell_of (aw.o j (ba (l[j]' X)) (by rw [DY,AC X];rfl)) id;rw [BP] at this;exact this});(have bj:wr.cell? (I bd j)=some (.string (ba (k[j]' X))):=by{have:=ax.o j (ba (k[j]' X)) (by rw [DY,AC X];rfl);rw [BP] at this;exact this});have an:k[j]? =some (k[j]' X):=AC _;have ao:l[j]? =some (l[j]' X):=AC _;generalize l[j]' X=x at*;generalize k[j]' X=y at*;have ae:=lH an;have af:=lH ao;clear an ao;by_cases B:x=y
     ·have bh:((ba x).toList==(ba y).toList)=true:=by rw [B];simp
      have ay:Hid (∀i,i<j+1->k[i]? =l[i]?):=λi be=>by
       by_cases e:i=j;{rw [e,ae.o,af.o,B]};{exact ag.o i X}
      clear B;go_wp2_with fail;go_roundw;{exact ⟨j+1,by go_num,aq,ay,trivial⟩};simp [intOf];omega
     {(have bh:((ba x).toList==(ba y).toList)=false:=by{rw [CU,lG,lG];exact B});have E:Hid (k.isPrefixOf l=false):=Vg aq (by rw [ae.o,af.o];exact λe=>B (FZ e).symm);clear B;go_wp2_with fail;go_ret;exact ⟨by rw [E.o];rfl,A.trans u zq⟩}
    {(obtain rfl:j=k.length:=by omega);have E:=lH (Td X ag);have bg:¬(k.length:Int)<(k.length:Int):=X;go_wp2_with fail;go_ret;exact ⟨by rw [E.o];rfl,A.trans u zq⟩}
