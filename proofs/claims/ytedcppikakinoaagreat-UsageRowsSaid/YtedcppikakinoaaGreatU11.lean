/- Part of a proof. -/
import Derived.Test.YtedcppikakinoaaGreatU03
import Derived.Test.YtedcppikakinoaaGreatU04
import Derived.Deep.AppendLies
import Derived.Deep.RegionWith
import Derived.DeepKeys4
import Derived.Laws.BitsAllLaws
import Derived.Laws.Rows
import Derived.Laws.Tables
import Derived.Lib.ConvBytes
import Derived.OwnWalk
set_option linter.unusedSimpArgs false
set_option linter.unusedVariables false
set_option maxRecDepth 100000
set_option maxHeartbeats 3200000
namespace Go.Proofs.YtedcppikakinoaaGreat
open Go.Proofs.Tryz Go.RowKit
theorem Tryz.laidOut:laidOutB prog=true:=by kernel_rfl
theorem Tryz.aB4:prog.keyType 46=true:=by kernel_rfl
theorem Tryz.aB3:prog.keyTypeAt 2 46=true:=by kernel_rfl
theorem Tryz.cells46:prog.cellsOf 46=3:=by kernel_rfl
theorem Tryz.cells3:prog.cellsOf 3=1:=by kernel_rfl
theorem Tryz.Vk:(46:TypeId)<prog.types.size:=DK N
theorem Tryz.aD6:(match prog.underlying 46 with|some (.array _ _)|some (.struct _)=>true|_=>false)=true:=by rw [underlying46]
set_option maxRecDepth 1000000 in
theorem Tryz.Qp:WideMaps.KeyLaw prog 46:=deep_law_laid Tryz.laidOut (m:=2) X Tryz.Vk Tryz.aB3 Tryz.aD6
abbrev Stp:=Int×Int×Int
inductive QcS|m (x:Stp)
abbrev cS:=QcS.m
instance (x:Stp):CoeDep QcS (.m x) (Array Value):=⟨#[x.1,x.2.1,x.2.2]⟩
instance (x:Stp):CoeDep QcS (.m x) (List Value):=⟨[x.1,x.2.1,x.2.2]⟩
def kX (x:Stp):Value:=.agg #[Z x.1,Z x.2.1,Z x.2.2]
def Iz (x:Stp):Lit:=.string (keyBytes [.int .i64 x.1,.int .i64 x.2.1,.int .i64 x.2.2])
def iZ (x:Stp):Prop:=I64 x.1/\I64 x.2.1/\I64 x.2.2
theorem wf_i64 (x):(Lit.int .i64 x).wf=true↔I64 x:=by
 have o:IntKind.i64.min= -9223372036854775808:=G
 simp [Lit.wf,I64,o]
theorem D6 (v o n):prog.keyLits (n+1) 3 [v]=some o↔∃x,I64 x/\v=.int .i64 x/\o= [.int .i64 x]:=by
 have r:=underlying3;unfold Program.keyLits;rw [r];(cases v<;>simp);rename_i k a;constructor;{rintro ⟨⟨rfl,h⟩,rfl⟩;exact ⟨a,(wf_i64 a).1 h,⟨rfl,rfl⟩,rfl⟩};{rintro ⟨x,h,⟨rfl,rfl⟩,rfl⟩;exact ⟨⟨rfl,(wf_i64 _).2 h⟩,rfl⟩}
theorem P6 (a b c B n):prog.keyLits (n+2) 46 [a,b,c]=some B↔∃x,iZ x/\a=.int .i64 x.1/\b=.int .i64 x.2.1/\c=.int .i64 x.2.2/\B= [.int .i64 x.1,.int .i64 x.2.1,.int .i64 x.2.2]:=by
 have h:=underlying46;unfold Program.keyLits;rw [h];simp [Tryz.cells46,Tryz.cells3];have yes:∀x,I64 x->prog.keyLits (n+1) 3 [.int .i64 x]=some [.int .i64 x]:=λx o=>(D6 _ _ n).2 ⟨x,o,rfl,rfl⟩;constructor;{intro ag;obtain ⟨ah,E,A⟩:=KA.1 ag;obtain ⟨x,o,rfl,rfl⟩:=(D6 _ _ n).1 E;simp only [Function.comp,CY] at A;obtain ⟨al,Q,rfl⟩:=A;obtain ⟨ai,V,aa⟩:=KA.1 Q;obtain ⟨aj,ab,ad⟩:=KA.1 V;obtain ⟨y,r,rfl,rfl⟩:=(D6 _ _ n).1 ab;obtain ⟨ak,ae,af⟩:=KA.1 ad;obtain ⟨le,H,J⟩:=KA.1 ae;obtain ⟨z,u,rfl,rfl⟩:=(D6 _ _ n).1 H;cases J;cases af;cases aa;exact ⟨x,y,z,⟨o,r,u⟩,rfl,rfl,rfl,rfl⟩};{rintro ⟨x,y,z,⟨o,r,u⟩,rfl,rfl,rfl,rfl⟩;simp [yes x o,yes y r,yes z u]}
set_option maxRecDepth 1000000 in
theorem Ec (v l):keyOf prog 46 v=some l↔∃x,iZ x/\v=kX x/\l=Iz x:=by
 have h:=underlying46;obtain ⟨n,A⟩:∃n,prog.types.size+1=n+2:=⟨prog.types.size - 1,by have:(46:Nat)<prog.types.size:=Tryz.Vk;omega⟩;unfold keyOf;rw [h,Tryz.aB4,A];simp;constructor;{rintro ⟨o,B,u,rfl⟩;(cases v with|agg cs=>simp [Value.formed,h,Tryz.cells46] at o;rcases cs with ⟨cs⟩;(match cs,o with|[a,b,c],_=>obtain ⟨x,r,rfl,rfl,rfl,rfl⟩:=(P6 a b c B n).1 u;exact ⟨x.1,x.2.1,x.2.2,r,rfl,rfl⟩)|_=>simp [Value.formed,h] at o)};{rintro ⟨a,b,c,r,rfl,rfl⟩;exact ⟨by simp [Value.formed,h,kX,Tryz.cells46],_,(P6 _ _ _ _ n).2 ⟨(a,b,c),r,rfl,rfl,rfl,rfl⟩,rfl⟩}
theorem W9 (v l):keyOf prog 3 v=some l↔∃x,I64 x/\v=.int .i64 x/\l=.int .i64 x:=by
 have h:=underlying3;unfold keyOf;rw [h];unfold mapKey;rw [h];(cases v<;>simp);rename_i k a;constructor;{rintro ⟨⟨rfl,h⟩,rfl⟩;exact ⟨a,(wf_i64 a).1 h,⟨rfl,rfl⟩,rfl⟩};{rintro ⟨x,h,⟨rfl,rfl⟩,rfl⟩;exact ⟨⟨rfl,(wf_i64 _).2 h⟩,rfl⟩}
theorem Vq (v l):keyOf prog 9 v=some l↔∃s:ByteArray,s.size<=maxLen/\v=.string s/\l=.string s.data.toList:=by
 have h:=underlying9;unfold keyOf;rw [h];unfold mapKey;rw [h];(cases v<;>simp);constructor;{rintro ⟨h,rfl⟩;exact ⟨_,h,rfl,rfl⟩};{rintro ⟨s,h,rfl,rfl⟩;exact ⟨h,rfl⟩}
def J7 (v:Value):Option (DataW Unit×List MemPlace):=match v with
 | .pointer (some ⟨b,0,none⟩)=>some (.lit (.int .i64 b), [])
 | _=>none
def Eg (v:Value):Option (DataW Unit×List MemPlace):=match v with
 | .int .i64 x=>some (.lit (.int .i64 x), [])
 | _=>none
abbrev Us:=Int×Int×Int
def Tf (x:Stp×Us):Value:=.agg #[x.1.1,x.1.2.1,x.1.2.2,x.2.1,x.2.2.1,x.2.2.2]
def Gq (x:Stp×Us):DataW Unit:=.agg [.lit (.int .i64 x.1.1),.lit (.int .i64 x.1.2.1),.lit (.int .i64 x.1.2.2),.lit (.int .i64 x.2.1),.lit (.int .i64 x.2.2.1),.lit (.int .i64 x.2.2.2)]
def Nv (v:Value):Option (DataW Unit×List MemPlace):=match v with
 | .agg ⟨[.int .i64 a,.int .i64 b,.int .i64 c,.int .i64 d,.int .i64 e,.int .i64 f]⟩=>some (Gq ((a,b,c),(d,e,f)), [])
 | _=>none
theorem aEu (v z) (h:J7 v=some z):∃b:Nat,True/\v=.pointer (some (I b 0))/\z=(.lit (.int .i64 b), []):=by
 unfold J7 at h;split at h;{cases h;exact ⟨_,trivial,rfl,rfl⟩};{cases h}
theorem Qy (v z) (h:Eg v=some z):∃x:Int,True/\v=.int .i64 x/\z=(.lit (.int .i64 x), []):=by
 unfold Eg at h;split at h;{cases h;exact ⟨_,trivial,rfl,rfl⟩};{cases h}
theorem aEL (v z) (h:Nv v=some z):∃x,True/\v=Tf x/\z=(Gq x, []):=by
 unfold Nv at h;split at h;{cases h;exact ⟨((_,_,_),(_,_,_)),trivial,rfl,rfl⟩};{cases h}
def encI:Enc Int Nat where
 k:=3
 law:=Maps.int_keyed underlying3
 ek x:=.int .i64 x
 lk x:=.int .i64 x
 good:=I64
 key x hx:=(W9 _ _).2 ⟨x,hx,rfl,rfl⟩
 inv v l h:=(W9 v l).1 h
 einj x y h:=by cases h;rfl
 R:=J7
 ev b:=.pointer (some ⟨b,0,none⟩)
 dv b:=.lit (.int .i64 b)
 fine _:=True
 read _ _:=rfl
 rinv:=aEu
 dinj y z h:=by
  have h':(y:Int)=(z:Int):=by simpa using h
  omega
def encS:Enc ByteArray Int where
 k:=9
 law:=Maps.string_keyed underlying9
 ek s:=.string s
 lk s:=.string s.data.toList
 good s:=s.size<=maxLen
 key s hs:=(Vq _ _).2 ⟨s,hs,rfl,rfl⟩
 inv v l h:=(Vq v l).1 h
 einj x y h:=by cases h;rfl
 R:=Eg
 ev x:=.int .i64 x
 dv x:=.lit (.int .i64 x)
 fine _:=True
 read _ _:=rfl
 rinv:=Qy
 dinj y z h:=by simpa using h
def vP:Enc Stp Int where
 k:=46
 law:=Maps.Keyed.of_law Tryz.Qp
 ek:=kX
 lk:=Iz
 good:=iZ
 key x hx:=(Ec _ _).2 ⟨x,hx,rfl,rfl⟩
 inv v l h:=(Ec v l).1 h
 einj x y h:=by
  obtain ⟨a,b,c⟩:=x;obtain ⟨d,e,f⟩:=y;simpa [kX] using h
 R:=Eg
 ev x:=.int .i64 x
 dv x:=.lit (.int .i64 x)
 fine _:=True
 read _ _:=rfl
 rinv:=Qy
 dinj y z h:=by simpa using h
def x8:Enc Stp (Stp×Us) where
 k:=46
 law:=Maps.Keyed.of_law Tryz.Qp
 ek:=kX
 lk:=Iz
 good:=iZ
 key x hx:=(Ec _ _).2 ⟨x,hx,rfl,rfl⟩
 inv v l h:=(Ec v l).1 h
 einj x y h:=by
  obtain ⟨a,b,c⟩:=x;obtain ⟨d,e,f⟩:=y;simpa [kX] using h
 R:=Nv
 ev:=Tf
 dv:=Gq
 fine _:=True
 read _ _:=rfl
 rinv:=aEL
 dinj y z h:=by
  obtain ⟨⟨a,b,c⟩,d,e,f⟩:=y;obtain ⟨⟨a',b',c'⟩,d',e',f'⟩:=z;simpa [Gq,and_assoc] using h
def jS (bs:List UInt8):List Value:=bs.map λx=> .int .u8 x.toNat
def Pn (w:World) (p base:Nat) (bs:List UInt8):Prop:=
 ∃v,w.heap[p]? =some (.cells #[v,Z 0] 149 (0,0))/\w.ownsRow base 5 1 v bs.length (jS bs)/\base<=w.heap.size
def Pf (w:World) (p base:Nat) (k:Nat):Prop:=k=p\/(base<=k/\∃cur fz,w.heap[k]? =some (.cells cur 5 fz))
theorem Tryz.info5:(prog.info? 5).map (λi=>(i.zero,i.size,i.bytes))=some (some (.int .u8 0),1,1):=by kernel_rfl
theorem Pn.no {w w' p base bs} (h:Pn w p base bs) (f:Fr No w w'):Pn w' p base bs:=by
 obtain ⟨v,E,r,o⟩:=h;refine ⟨v,f.aB E id,⟨r.1,?_⟩,AV o f.size⟩;rcases r.2 with A|⟨g,cap,u,rfl,o,B,H⟩;{exact .inl A};{exact .inr ⟨g,cap,u,rfl,o,f.aB B id,H⟩}
theorem pV {w w' p base k cs t o} (f:Fr (Pf w p base) w w') (r:w.heap[k]? =some (.cells cs t o)) (A:t≠5) (u:k≠p):w'.heap[k]? =some (.cells cs t o):=by
 refine f.aB r ?_;rintro (e|⟨_,B,E,e⟩);{exact u e};{rw [r] at e;simp at e;exact A e.2.1}
theorem aBP {w:World} {base n v xs} (h:w.ownsRow base 5 1 v n xs):∀k,v.ownBlock=some k->base<=k:=by
 intro k o;rcases h.2 with ⟨rfl,_⟩|⟨g,u,A,rfl,r,B,_⟩;{simp [Value.ownBlock] at o};{simp [Value.ownBlock] at o;subst o;exact r}
theorem Y9 {w base g cap n o} (h:w.ownsRow base 5 1 (O g n cap) n (jS o)) (A:n=o.length):fH w (O g o.length cap) o g 0 cap:=by
 subst A;obtain ⟨b,c,u,_⟩:=Ip (bs:=o) h D;obtain ⟨r,B⟩:=u;simp only [KY,FQ,Addr.mk.injEq] at r;obtain ⟨⟨rfl,_⟩,_,rfl⟩:=r;exact ⟨rfl,B⟩
theorem yT {w w' p base} (f:Fr No w w'):∀j,j<w.heap.size->Pf w' p base j->Pf w p base j:=by
 rintro j A (e|⟨u,o,r,e⟩);{exact .inl e};{exact .inr ⟨u,o,r,by rw [<-f.block j A id];exact e⟩}
abbrev lI:=List UInt8×Int
def jC (s:lI) (ys:List UInt8):lI:=if s.2≠0 then s else if 65536<s.1.length+ys.length then (s.1,3) else (s.1++ys,0)
def oZ (s:lI) (e:Int):lI:=if s.2≠0 then s else (s.1,e)
def Pg (w:World) (p base:Nat) (s:lI):Prop:=
 ∃v,w.heap[p]? =some (.cells #[v,s.2] 149 (0,0))/\w.ownsRow base 5 1 v s.1.length (jS s.1)/\base<=w.heap.size/\s.1.length<=65536
theorem Pg.pn {w p base bs} (h:Pg w p base (bs,0)):Pn w p base bs:=by
 obtain ⟨v,o,r,u,_⟩:=h;exact ⟨v,o,r,u⟩
theorem Pg.of {w p base bs} (h:Pn w p base bs) (A:bs.length<=65536):Pg w p base (bs,0):=by
 obtain ⟨v,o,r,u⟩:=h;exact ⟨v,o,r,u,A⟩
theorem Pg.no {w w' p base s} (h:Pg w p base s) (f:Fr No w w'):Pg w' p base s:=by
 obtain ⟨v,E,r,o,H⟩:=h;refine ⟨v,f.aB E id,⟨r.1,?_⟩,AV o f.size,H⟩;rcases r.2 with A|⟨g,cap,u,rfl,o,B,J⟩;{exact .inl A};{exact .inr ⟨g,cap,u,rfl,o,f.aB B id,J⟩}
theorem L9 (p base s) (e:Int) (ak:(e !=0)=true) (w) (h:Pg w p base s):
  Calls prog 150 #[Y p,e,nS] w λx w'=>x=.returned (.tuple #[])/\Pg w' p base (oZ s e)/\Fr (Pf w p base) w w':=by
 obtain ⟨bs,o⟩:=s;obtain ⟨v,r,u,Q,aa⟩:=h;have aj:w.cell? (I p 1)=some (Z o):=aA r _;have am:=aU r 1;by_cases A:o=0;{subst A;have H:=lH r;have J:=lH u;clear r u;go_enter func150,ntmps150;go_wp2_with fail;go_end0;have E:Fr (λk=>k=p) w (w.setCell (I p 1) (Z e)):=Fr.setCell (S:=λk=>k=p) (p:=(I p 1)) (Fr.refl w) (.inl rfl) _;refine ⟨rfl,⟨v,?_,⟨J.o.1,?_⟩,AV Q E.size,aa⟩,E.mono (λ_ _ e=> .inl e)⟩;{simpa [oZ] using setCell_at H.o 1 (Z e)};{rcases J.o.2 with h|⟨af,ad,ae,ag,ah,B,ai⟩;{exact .inl h};{exact .inr ⟨af,ad,ae,ag,ah,zJ B (λe=>by have:=H.o;rw [e,this] at B;simp at B) 1 _,ai⟩}}};{(have al:(o !=0)=true:=by simpa using A);have ab:Hid (Pg w p base (bs,o)):=lH ⟨v,r,u,Q,aa⟩;(have V:oZ (bs,o) e=(bs,o):=by simp [oZ,A]);rw [V];clear r u V;go_enter func150,ntmps150;go_wp2_with fail;go_end0;exact ⟨rfl,ab,Fr.refl _⟩}
theorem aDk (p base bs u b off c w) (h:Pn w p base bs) (bn:fH w (.slice (some (I b off)) u.length c) u b off c) (ak:u≠ []) (bv:bs.length+u.length<=65536):
  Calls prog 150 #[Y p,Z 0,.slice (some (I b off)) u.length c] w λe w'=>e=.returned (.tuple #[])/\Pn w' p base (bs++u)/\Fr (Pf w p base) w w':=by
 obtain ⟨v,o,H,B⟩:=h;obtain ⟨_,bx,bw,ar⟩:=bn;obtain ⟨bp,am,au,av,aw⟩:=EM Tryz.info5;have ay:=lH am;have bc:=lH au;have bd:=lH av;have be:=lH aw;clear am au av aw;(have ax:∀k,v.ownBlock=some k->base<=k/\∃A,w.heap[k]? =some (.cells A 5 (0,0)):=by{intro k o;rcases H.2 with ⟨rfl,_⟩|⟨g,aa,A,rfl,B,E,_⟩;{simp [Value.ownBlock] at o};{simp [Value.ownBlock] at o;subst o;exact ⟨B,A,E⟩}});(obtain ⟨a,c1,rfl⟩:∃a c1,v=.slice a bs.length c1:=by{rcases H.2 with ⟨rfl,bl⟩|⟨g,aa,A,rfl,_⟩;{exact ⟨none,0,by rw [bl]⟩};{exact ⟨_,_,rfl⟩}});have bt:w.cell? (I p 0)=some (.slice a bs.length c1):=aA o _;have bu:w.cell? (I p 1)=some (Z 0):=aA o _;have z0:=aU o 0;(have bz:¬(65536:Int) - (bs.length:Int)<(u.length:Int):=X);(have bo:0<u.length:=by cases u with|nil=>exact absurd rfl ak|cons x r=>simp);have bb:=lH ar;have V:=lH ax;have af:=lH o;have ad:=lH B;generalize ao:u.length=m at*;have ag:=lH ao;generalize ap:bs.length=n at*;have az:=lH ap;clear ak ar ax o B ao ap;go_enter func150,ntmps150;go_wp2_with (at_builtin;refine wpList_append_lies _ rfl _ _ 27 rfl base 5 bp _ 1 1 underlying27 ay bc bd be rfl G _ n (jS bs) rfl H (I b off) m c (jS u) rfl ?d0 ?d1 ?d2 bo (by unfold maxLen;omega) X ad w rfl ?_);(case d0=>rw [jS,CG,ag.o]);(case d1=>intro j bq an;simp only [jS,DY,CY] at an;obtain ⟨x,bm,rfl⟩:=an;exact bb.o j x bm);(case d2=>intro bq hu;obtain ⟨x,_,rfl⟩:=FM.1 hu;rfl)
 intro g cap br aq al bj bk;have aj:(Value.slice a n c1).ownBlock≠some p:=λe=>by
  obtain ⟨_,A,E⟩:=V.o p e;rw [af.o] at E;simp at E
 have Q:=(Fr.refl (S:=λk=>(Value.slice a n c1).ownBlock=some k) w).grown al (λk o=> .inl o);have J:=Q.aB af aj;have c2:br.cell? (I p 0)=some (.slice a n c1):=aA J _;have ca:=aU J 0;have ai:=lH J;have ah:=lH aq;have ae:=lH Q;clear al bj bk J aq Q H aj;go_wp2_with fail;go_end0;refine ⟨rfl,⟨.slice (some (I g 0)) (n+m) cap,?_,?_,?_⟩,?_⟩;{have:=setCell_at ai.o 0 (O g (n+m) cap);simpa using this};{rw [AB,az.o,ag.o];(have e:jS (bs++u)=jS bs++jS u:=by simp [jS]);rw [e];refine ⟨ah.o.1,?_⟩;rcases ah.o.2 with h|⟨bf,aa,A,bg,bh,ab,bi⟩;{exact .inl h};{exact .inr ⟨bf,aa,A,bg,bh,zJ ab (λe=>by have:=ai.o;rw [e,this] at ab;simp at ab) 0 _,bi⟩}};{exact AV ad (by simpa [World.setCell] using ae.o.size)};{refine Fr.setCell (ae.o.mono (λk _ o=> ?_)) (.inl (.inl rfl)) _;exact .inr ⟨(V.o k o).1,by obtain ⟨_,A,h⟩:=V.o k o;exact ⟨A,_,h⟩⟩}
theorem Dh (p base s o b off c w) (h:Pg w p base s) (Q:fH w (.slice (some (I b off)) o.length c) o b off c) (am:o≠ []) (ar:o.length<=1000000):
  Calls prog 150 #[Y p,Z 0,.slice (some (I b off)) o.length c] w λx w'=>x=.returned (.tuple #[])/\Pg w' p base (jC s o)/\Fr (Pf w p base) w w':=by
 obtain ⟨bs,A⟩:=s;by_cases u:A=0;{subst u;by_cases af:bs.length+o.length<=65536;{refine (aDk p base bs o b off c w h.pn Q am af).mono ?_;rintro x w' ⟨rfl,E,H⟩;have e:jC (bs,0) o=(bs++o,0):=(by simp [jC];omega);rw [e];exact ⟨rfl,Pg.of E (U af),H⟩};{(have e:jC (bs,0) o=(bs,3):=by simp [jC];omega);rw [e];obtain ⟨v,r,B,u,ag⟩:=h;(obtain ⟨a,c1,rfl⟩:∃a c1,v=.slice a bs.length c1:=by{rcases B.2 with ⟨rfl,ap⟩|⟨g,ad,ae,rfl,_⟩;{exact ⟨none,0,by rw [ap]⟩};{exact ⟨_,_,rfl⟩}});have aq:w.cell? (I p 0)=some (.slice a bs.length c1):=aA r _;have ak:w.cell? (I p 1)=some (Z 0):=aA r _;have aw:=aU r 1;have au:(65536:Int) - (bs.length:Int)<(o.length:Int):=X;have aa:=lH r;have ai:=lH B;clear r B Q;generalize ao:o.length=m at*;generalize ah:bs.length=n at*;have ab:=lH ah;clear ao ah;go_enter func150,ntmps150;go_wp2_with fail;go_end0;have V:Fr (λk=>k=p) w (w.setCell (I p 1) (Z 3)):=Fr.setCell (S:=λk=>k=p) (p:=(I p 1)) (Fr.refl w) (.inl rfl) _;refine ⟨rfl,⟨_,by simpa using setCell_at aa.o 1 (Z 3),⟨by simp [jS],?_⟩,AV u V.size,by rw [ab.o];exact ag⟩,V.mono (λ_ _ e=> .inl e)⟩;rw [ab.o];rcases ai.o.2 with h|⟨al,ad,ae,E,H,J,an⟩;{exact .inl h};{exact .inr ⟨al,ad,ae,E,H,zJ J (λe=>by have:=aa.o;rw [e,this] at J;simp at J) 1 _,an⟩}}};{(have av:(A !=0)=true:=by simpa using u);(have e:jC (bs,A) o=(bs,A):=by simp [jC,u]);rw [e];have aj:=lH h;obtain ⟨v,r,B,u,ag⟩:=h;have ak:w.cell? (I p 1)=some (Z A):=aA r _;clear r B Q e;go_enter func150,ntmps150;go_wp2_with fail;go_end0;exact ⟨rfl,aj,Fr.refl _⟩}
def bK (wd x:Nat):List UInt8:=(List.range wd).map λj=>UInt8.ofNat (x / 2 ^ (8*(wd - 1 - j)) % 256)
theorem fM (wd x):(bK wd x).length=wd:=by simp [bK]
theorem Zc (wd x m) (r:m+1<=wd):(bK wd x).take (wd - m)=(bK wd x).take (wd - (m+1))++ [UInt8.ofNat (x / 2 ^ (8*m) % 256)]:=by
 have e:wd - m=wd - (m+1)+1:=X
 have o:wd - (m+1)<(bK wd x).length:=by rw [fM];omega
 rw [e,GH o];congr 2;simp [bK];congr 4;omega
def dN (s:lI) (x:Int) (wd:Nat):lI:=if 0<=x/\x<2 ^ (8*wd) then jC s (bK wd x.toNat) else oZ s 1
theorem aF0 (p base wd:Nat) (s) (x:Nat) (ay:1<=wd) (az:wd<=7) (u:x<2 ^ (8*wd)) (w) (h:Pg w p base s):
  Calls prog 89 #[Y p,x,wd] w λe w'=>e=.returned (.tuple #[])/\Pg w' p base (jC s (bK wd x))/\Fr (Pf w p base) w w':=by
 (have bg:(1:Int)<=(wd:Int):=X);(have bh:(wd:Int)<=7:=X);(have bi:¬(x:Int)<0:=X);(have bj:((x:Int) / 2 ^ (8*wd) !=0)=false:=by{(have:(x:Int) / 2 ^ (8*wd)=0:=by{have e:((x:Int) / 2 ^ (8*wd))=((x / 2 ^ (8*wd):Nat):Int):=D;rw [e,Nat.div_eq_of_lt u];rfl});simp [this]});have ah:=lH h;have aw:=lH u;obtain ⟨au,H,V,aa,ab⟩:=EM Tryz.info5;have af:=lH H;have ai:=lH V;have aj:=lH aa;have ak:=lH ab;clear H V aa ab h u;have J:w.ownsRow w 5 1 (nS) 0 []:=⟨rfl,.inl ⟨rfl,rfl⟩⟩;go_enter func89,ntmps89;go_wp2_with (go_at_call 149;go_in);go_loopw [6,7] (λb i wr=>∃m:Nat,i=Z ((m:Int) - 1)/\m<=wd/\wr.ownsRow w 5 1 b (wd - m) (jS ((bK wd x).take (wd - m)))/\Fr No w wr) (λ_ i _=>(intOf i+1).toNat);(case atStart=>refine ⟨wd,rfl,AU _,?_,Fr.refl _⟩;rw [Nat.sub_self];exact J)
 case round=>
  obtain ⟨m,rfl,ap,o,r⟩:=hrel;clear J;rcases m with _|m;{rw [Nat.sub_zero,FI (by rw [fM];exact AU _)] at o;(obtain ⟨g,cap,rfl,sl⟩:∃g cap,u6=.slice (some (I g 0)) wd cap/\fH wr (O g (bK wd x).length cap) (bK wd x) g 0 cap:=by{rcases o.2 with ⟨_,aq⟩|⟨g,cap,ax,rfl,_⟩;{exact absurd aq X};{exact ⟨g,cap,rfl,Y9 o (fM wd x).symm⟩}});have al:=lH sl;have A:=lH (Dh p base s (bK wd x) g 0 cap wr (ah.o.no r) al (by intro e;have:=fM wd x;rw [e] at this;simp at this;omega) (by rw [fM];omega));rw [fM] at A;clear sl o;go_wp2_with fail;refine A.o.mono ?_;rintro e bk ⟨rfl,B,am⟩;have ae:=lH B;clear B;go_wp2_with fail;go_end0;exact ⟨rfl,ae,r.bC.trans am (yT r)⟩}
  ·rw [show (((m+1:Nat)):Int) - 1=(m:Int) by omega];have bb:(0:Int)<=(m:Int):=X;have bc:IntKind.i64.wrap (8*(m:Int))=8*(m:Int):=IntWalk.i64_in _ X;have bd:(0:Int)<=8*(m:Int):=X;have be:8*(m:Int)<64:=X;have bf:(8*(m:Int)).toNat=8*m:=X;go_wp2_with (at_builtin;refine wpList_append_lies _ rfl _ _ 27 rfl w 5 au _ 1 1 underlying27 af ai aj ak rfl G u6 (wd - (m+1)) (jS ((bK wd x).take (wd - (m+1)))) rfl (o.alloc _) (I wr 0) 1 1 [.int .u8 ((x:Int) / 2 ^ (8*m) % 256)] rfl rfl ?d1 ?d2 G (by unfold maxLen;omega) X ?d5 (wr.heap.size+1) ?d6 ?_);(case d1=>exact World.news_of_block (cs:= #[.int .u8 ((x:Int) / 2 ^ (8*m) % 256)]) (t:=5) (fr:=(0,0)) (AQ wr _));(case d2=>simp [Value.oneCell']);(case d5=>have:=r.size;simp;omega);(case d6=>simp);intro g cap av Q E an ao;have ad:=r.alloc _|>.grown E (λz ar=> .inr (aBP o z ar))
   have ag:Hid (av.ownsRow w 5 1 (O g (wd - (m+1)+1) cap) (wd - m) (jS ((bK wd x).take (wd - m)))):=lH (by
    rw [Zc wd x m ap,show wd - m=wd - (m+1)+1 by omega];have e:jS ((bK wd x).take (wd - (m+1))++ [UInt8.ofNat (x / 2 ^ (8*m) % 256)])=jS ((bK wd x).take (wd - (m+1)))++ [.int .u8 ((x:Int) / 2 ^ (8*m) % 256)]:=by{simp [jS]}
    rw [e];exact Q)
   clear Q E an ao o r;go_wp2_with fail;go_roundw;{exact ⟨m,rfl,by omega,ag,ad⟩};simp [intOf]
theorem aFp (p base wd:Nat) (s) (x:Int) (B:1<=wd) (E:wd<=7) (H:x<0) (w) (h:Pg w p base s):
  Calls prog 89 #[Y p,x,wd] w λe w'=>e=.returned (.tuple #[])/\Pg w' p base (oZ s 1)/\Fr (Pf w p base) w w':=by
 have J:(1:Int)<=(wd:Int):=X
 have Q:(wd:Int)<=7:=X
 have u:=lH (L9 p base s 1 rfl w h);go_enter func89,ntmps89;go_wp2_with (go_at_call 149;go_in);refine u.o.mono ?_;rintro e V ⟨rfl,o,A⟩;have r:=lH o;clear o;go_wp2_with fail;exact AZ (v:=.tuple #[]) (by simp [results,results89,go_sem]) rfl ⟨rfl,r,A⟩
theorem aFe (p base wd:Nat) (s) (x:Nat) (E:1<=wd) (H:wd<=7) (r:2 ^ (8*wd)<=x) (w) (h:Pg w p base s):
  Calls prog 89 #[Y p,x,wd] w λe w'=>e=.returned (.tuple #[])/\Pg w' p base (oZ s 1)/\Fr (Pf w p base) w w':=by
 have J:(1:Int)<=(wd:Int):=X
 have Q:(wd:Int)<=7:=X
 have V:¬(x:Int)<0:=X
 have aa:((x:Int) / 2 ^ (8*wd) !=0)=true:=by
  have e:((x:Int) / 2 ^ (8*wd))=((x / 2 ^ (8*wd):Nat):Int):=D
  rw [e];have:0<x / 2 ^ (8*wd):=Nat.div_pos r (KP _);simp;omega
 have A:=lH (L9 p base s 1 rfl w h);clear r;go_enter func89,ntmps89;go_wp2_with (go_at_call 149;go_in);refine A.o.mono ?_;rintro e ab ⟨rfl,o,B⟩;have u:=lH o;clear o;go_wp2_with fail;exact AZ (v:=.tuple #[]) (by simp [results,results89,go_sem]) rfl ⟨rfl,u,B⟩
theorem vH (p base wd:Nat) (s) (x:Int) (o:1<=wd) (r:wd<=7) (w) (h:Pg w p base s):
  Calls prog 89 #[Y p,x,wd] w λe w'=>e=.returned (.tuple #[])/\Pg w' p base (dN s x wd)/\Fr (Pf w p base) w w':=by
 by_cases A:x<0;{rw [show dN s x wd=oZ s 1 by unfold dN;rw [AA X]];exact aFp p base wd s x o r A w h};{obtain ⟨n,rfl⟩:∃n:Nat,x=n:=⟨x.toNat,by omega⟩;by_cases u:n<2 ^ (8*wd);{(have e:dN s n wd=jC s (bK wd n):=by{unfold dN;rw [AL ⟨by omega,by exact_mod_cast u⟩];simp});rw [e];exact aF0 p base wd s n o r u w h};{(have e:dN s n wd=oZ s 1:=by{unfold dN;rw [AA (λh=>u (by exact_mod_cast h.2))]});rw [e];exact aFe p base wd s n o r X w h}}
theorem O7 (w:World) (o):fH (w.alloc (.cells (jS o).toArray 5)) (O w o.length o.length) o w 0 o.length:=
 ⟨rfl,AU _,by simp,λj x r=>by
  rw [BP,aA (aT w _)];simp [jS,r]⟩
def mP (s:lI) (ys:List UInt8):lI:=if 65535<ys.length then oZ s 3 else jC s (bK 2 ys.length++ys)
def Bs (w:World) (v:Value) (ys:List UInt8):Prop:=(v=.slice none 0 0/\ys= [])\/∃b off c,fH w v ys b off c
theorem Bs.no {w w' v o} (h:Bs w v o) (f:Fr No w w'):Bs w' v o:=by
 rcases h with h|⟨b,off,c,e,r,u,A⟩;{exact .inl h};{exact .inr ⟨b,off,c,e,r,AP u f.size,λj x B=>f.cell_of (A j x B) id⟩}
theorem Za (n):bK 2 n= [UInt8.ofNat (n / 256 % 256),UInt8.ofNat (n % 256)]:=by simp [bK,NG]
theorem Y0 (p base s v) (H:v=.slice none 0 0\/∃b off c,v=.slice (some (I b off)) 0 c) (w) (h:Pg w p base s):
  Calls prog 90 #[Y p,v] w λe w'=>e=.returned (.tuple #[])/\Pg w' p base (jC s [0,0])/\Fr (Pf w p base) w w':=by
 have B:=lH h;clear h;have o:Fr No w (w.alloc (.cells #[.int .u8 0,.int .u8 0] 5)):=(Fr.refl w).alloc _;have A:=lH (Dh p base s [0,0] w 0 2 (w.alloc _) (B.o.no o) (O7 w [0,0]) D D);rcases H with rfl|⟨b,off,c,rfl⟩;(all_goals go_enter func90,ntmps90;go_wp2_with fail;refine cr A.o ?_;rintro J ⟨r,E⟩;have u:=lH r;clear r;go_wp2_with fail;go_end0;exact ⟨rfl,u,o.bC.trans E (yT o)⟩)
theorem aFl (p base s o b off c w) (bc:fH w (.slice (some (I b off)) o.length c) o b off c) (V:o≠ []) (bg:o.length<=65535) (h:Pg w p base s):
  Calls prog 90 #[Y p,.slice (some (I b off)) o.length c] w λe w'=>e=.returned (.tuple #[])/\Pg w' p base (jC s (bK 2 o.length++o))/\Fr (Pf w p base) w w':=by
 have ap:=lH h;obtain ⟨_,bi,bh,ai⟩:=bc;obtain ⟨be,ad,aj,ak,al⟩:=EM Tryz.info5;have ao:=lH ad;have ar:=lH aj;have au:=lH ak;have av:=lH al;have aq:=lH ai;(have az:0<o.length:=by cases o with|nil=>exact absurd rfl V|cons x r=>simp);clear ad aj ak al h ai V;have bj:¬(65535:Int)<(o.length:Int):=X
 generalize af:o.length=m at*;have H:=lH af;clear af;have ag:(w.alloc (.cells #[.int .u8 ((m:Int) / 256),.int .u8 ((m:Int) % 256)] 5)).ownsRow w 5 1 (O w 2 2) 2 [.int .u8 ((m:Int) / 256),.int .u8 ((m:Int) % 256)]:=
  ⟨rfl,.inr ⟨w,2,_,rfl,AU _,aT w _,AU _,by decide,rfl,rfl⟩⟩
 have Q:Fr No w (w.alloc (.cells #[.int .u8 ((m:Int) / 256),.int .u8 ((m:Int) % 256)] 5)):=(Fr.refl w).alloc _;go_enter func90,ntmps90;go_wp2_with (at_builtin;refine wpList_append_lies _ rfl _ _ 27 rfl w 5 be _ 1 1 underlying27 ao ar au av rfl G _ 2 _ rfl ag (I b off) m c (jS o) rfl ?d0 ?d1 ?d2 az (by unfold maxLen;omega) X ?d5 (w.heap.size+1) ?d6 ?_);(case d0=>rw [jS,CG,H.o]);(case d1=>intro j bf ae;simp only [jS,DY,CY] at ae;obtain ⟨x,bb,rfl⟩:=ae;exact aq.o j x bb);(case d2=>intro bf hu;obtain ⟨x,_,rfl⟩:=FM.1 hu;rfl);intro g cap am ah ab ax ay;have A:=Q.grown ab (λz bd=>by simp [Value.ownBlock] at bd;exact .inr X);have B:=Za m;have u:(bK 2 m++o).length=2+m:=by rw [AB,fM,H.o]
 have J:Hid (fH am (O g (bK 2 m++o).length cap) (bK 2 m++o) g 0 cap):=lH (by
  refine Y9 (base:=w.heap.size) (n:=(bK 2 m++o).length) ?_ rfl;have e:jS (bK 2 m++o)= [.int .u8 ((m:Int) / 256),.int .u8 ((m:Int) % 256)]++jS o:=by{rw [B];simp [jS];omega}
  rw [u,e];exact ah)
 have E:=lH (Dh p base s (bK 2 m++o) g 0 cap am (ap.o.no A) J (by rw [B];simp) (by rw [u];omega));rw [u] at E;clear ag ah ab ax ay Q B u J;go_wp2_with fail;refine cr E.o ?_;rintro bk ⟨aa,aw⟩;have an:=lH aa;clear aa;go_wp2_with fail;go_end0;exact ⟨rfl,an,A.bC.trans aw (yT A)⟩
theorem aAW (p base s n b off c w) (B:65535<n) (h:Pg w p base s):
  Calls prog 90 #[Y p,.slice (some (I b off)) n c] w λe w'=>e=.returned (.tuple #[])/\Pg w' p base (oZ s 3)/\Fr (Pf w p base) w w':=by
 have E:(65535:Int)<(n:Int):=X
 have u:=lH (L9 p base s 3 rfl w h);clear h;go_enter func90,ntmps90;go_wp2_with fail;refine cr u.o ?_;rintro H ⟨o,A⟩;have r:=lH o;clear o;refine aC ?_;exact AZ (v:=.tuple #[]) (by simp [results,results90,go_sem]) rfl ⟨rfl,r,A⟩
theorem Xa (p base s v o w) (A:Bs w v o) (h:Pg w p base s):
  Calls prog 90 #[Y p,v] w λe w'=>e=.returned (.tuple #[])/\Pg w' p base (mP s o)/\Fr (Pf w p base) w w':=by
 rcases A with ⟨rfl,rfl⟩|⟨b,off,c,rfl,sl⟩;{exact Y0 p base s _ (.inl rfl) w h};{by_cases u:o= [];{subst u;exact Y0 p base s _ (.inr ⟨b,off,c,rfl⟩) w h};{by_cases r:65535<o.length;{rw [show mP s o=oZ s 3 by simp [mP,r]];exact aAW p base s _ b off c w r h};{rw [show mP s o=jC s (bK 2 o.length++o) by simp [mP,r]];exact aFl p base s o b off c w ⟨rfl,sl⟩ u X h}}}
theorem U6 (p base s) (x:Bool) (w) (h:Pg w p base s):
  Calls prog 144 #[Y p,x] w λe w'=>e=.returned (.tuple #[])/\Pg w' p base (jC s [if x then 1 else 0])/\Fr (Pf w p base) w w':=by
 have B:=lH h;clear h;(cases x);{have o:Fr No w (w.alloc (.cells #[.int .u8 0] 5)):=(Fr.refl w).alloc _;go_enter func144,ntmps144;go_wp2_with fail;refine cr (Dh p base s [0] w 0 1 (w.alloc _) (B.o.no o) (O7 w [0]) D D) ?_;rintro E ⟨r,A⟩;have u:=lH r;clear r;go_wp2_with fail;go_end0;exact ⟨rfl,u,o.bC.trans A (yT o)⟩};{have o:Fr No w (w.alloc (.cells #[.int .u8 1] 5)):=(Fr.refl w).alloc _;go_enter func144,ntmps144;go_wp2_with fail;refine cr (Dh p base s [1] w 0 1 (w.alloc _) (B.o.no o) (O7 w [1]) D D) ?_;rintro E ⟨r,A⟩;have u:=lH r;clear r;go_wp2_with fail;exact AZ (v:=.tuple #[]) (by simp [results,results144,go_sem]) rfl ⟨rfl,u,o.bC.trans A (yT o)⟩}
theorem Vu (w s):(convert 9 27 (.string s)).run prog w=.ok (O w s.size (grownCap w s.size 0 5)) (Lib.bytesWorld w 5 s):=
 Lib.run_convert_string_bytes w 9 27 5 s underlying9 underlying27 underlying5
theorem V9 (w s):Fr No w (Lib.bytesWorld w 5 s):=
 ⟨rfl,rfl,rfl,by rw [Lib.bytesWorld_size];omega,λj o _=>Lib.bytesWorld_at_old w 5 s j o⟩
theorem Sv (w s) (u:s.size<=1000000):fH (Lib.bytesWorld w 5 s) (O w s.size (grownCap w s.size 0 5)) s.data.toList w 0 (grownCap w s.size 0 5):=
 ⟨rfl,grownCap_ge w s.size 0 5,by rw [Lib.bytesWorld_size];omega,λj x o=>by
  have r:=(AY.1 o).1;rw [BP,Lib.bytesWorld_cell w 5 s j r];have:s.data.toList.getD j 0=x:=by simp [List.getD,o]
  rw [this]⟩
theorem aAF (p base s) (x:ByteArray) (H:x.size<=1000000) (w) (h:Pg w p base s):
  Calls prog 143 #[Y p,x] w λe w'=>e=.returned (.tuple #[])/\Pg w' p base (mP s x.data.toList)/\Fr (Pf w p base) w w':=by
 have B:=lH h;clear h;have J:=Vu w x;have o:=V9 w x;have A:=lH (Xa p base s _ x.data.toList _ (.inr ⟨w,0,grownCap w x.size 0 5,Sv w x H⟩) (B.o.no o));go_enter func143,ntmps143;go_wp2_with fail;refine A.o.mono ?_;rintro e Q ⟨rfl,r,E⟩;have u:=lH r;clear r;go_wp2_with fail;go_end0;exact ⟨rfl,u,o.bC.trans E (yT o)⟩
theorem Uh (p base bs w) (h:Pg w p base (bs,0)) (u:bs≠ []):
  Calls prog 73 #[Y p] w λe w'=>∃v b c,e=.returned (.tuple #[v,Z 0])/\fH w' v bs b 0 c/\w.heap.size<=b/\Fr No w w':=by
 obtain ⟨v,o,r,aa,B⟩:=h;(have E:v≠ .slice none 0 0:=by{rintro rfl;rcases r.2 with ⟨_,ad⟩|⟨g,cap,aj,af,_⟩;{exact u (CW ad)};{cases af}});obtain ⟨g,c1,A,_⟩:=Ip r E;(have ah:w.cell? (I p 0)=some v:=by rw [aA o];rfl);(have ai:w.cell? (I p 1)=some (Z 0):=by rw [aA o];rfl);have H:=lH A;have ak:=B;clear o r aa E u A B;go_enter func73,ntmps73;go_wp2_with fail;refine (Az v bs g 0 c1 _ H X).mono ?_;rintro e al ⟨ag,J,Q,rfl,ae,ab,V⟩;go_wp2_with fail;go_ret2;exact ⟨ag,J,Q,rfl,ae,ab,V⟩
theorem Tryz.size29:(prog.info? 29).map (·.size)=some 8:=by kernel_rfl
theorem aBK (x:Int) (w):(Instr.typeAssert (.iface 189 (.agg #[x])) 20 189 true).run prog w=.ok (.tuple #[.agg #[x],true]) w:=by kernel_rfl
theorem aDQ (w):(Instr.typeAssert .nilIface 20 189 true).run prog w=.ok (.tuple #[.agg #[Z 0],false]) w:=by kernel_rfl
set_option maxRecDepth 10000 in
theorem catch_idle (p w):
  CallsD prog 110 #[.pointer (some p)] .returning w λe r w'=>e=.returned (.tuple #[])/\r=.returning/\w'=w.alloc (.cells #[Z 0] 189):=by
 refine callsD_of_wpS func110 rfl λo cs hu=> ?_;apply wpS_seq;apply LX;simp [wpOpsS,go_sem,recoverD,hu,ntmps110,Exit.thenS,aDQ,Array.replicate,List.replicate];apply wpS_seq;apply LX;simp [wpOpsS,go_sem,Exit.thenS];refine wpS_cond (t:=false) (by simp [Act.eval]) ?_;simp only [DT,GG];refine wpS_of_wp (wp_skip ?_);cases o
 simp_all [bodyPostS,results,results110]
set_option maxRecDepth 10000 in
theorem aDL (b x w old) (B:w.heap[b]? =some (.cells old 29 (0,0))) (E:old.size=8):
  CallsD prog 110 #[Y b] (.panicking (kF x)) w λe H w'=>
   e=.returned (.tuple #[])/\H=.panicking [{v:=.iface 189 (.agg #[x]),recovered:=true}]/\Fr (· =b) w w'/\w'.heap[b]? =some (.cells (rep x 0) 29 (0,0)):=by
 refine callsD_of_wpS func110 rfl λJ cs hu=> ?_;unfold kF at hu;apply wpS_seq;apply LX;simp [wpOpsS,go_sem,recoverD,hu,ntmps110,Exit.thenS,aBK,Array.replicate,List.replicate];apply wpS_seq;apply LX;simp [wpOpsS,go_sem,Exit.thenS];refine wpS_cond (t:=true) (by simp [Act.eval]) ?_;simp only [IJ];apply LX;have o:(w.alloc (.cells #[x] 189)).heap[b]? =some (.cells old 29 (0,0)):=((Fr.refl (S:=No) w).alloc _).aB B id;have r:=run_storeVar_row (P:=prog) (w.alloc _) b 29 29 old (rep x 0) o Tryz.size29 (by simpa [rep] using E) (by simp [rep,Value.oneCell']);have A:(w.alloc (.cells #[x] 189)).cell? (I w 0)=some (Z x):=by rw [aA (aT w _)];rfl
 have u:(Instr.build 29 #[(0,Z x)]).run prog (w.alloc (.cells #[x] 189))=.ok (.agg (rep x 0)) (w.alloc (.cells #[x] 189)):=N
 have K:=lH (aW (cs':=rep x 0) o);have F:=lH (Fr.setRow (S:=λk=>k=b) ((Fr.refl w).alloc (.cells #[x] 189)) (.inl rfl) (rep x 0));clear o;unfold rep at*;simp [go_sem] at r;simp [wpOpsS,go_sem,A,u,bodyPostS,results,results110];rw [r];simp [go_sem];exact ⟨F,K⟩
theorem mD {w o u p base} (f:Fr (Pf w p base) w o) (g:Fr (Pf o p base) o u):Fr (Pf w p base) w u:=
 f.trans g (λj H e=>BI λr=>r (by
  rcases e with e|⟨E,A,B,e⟩
  ·exact .inl e
  ·exact .inr ⟨E,A,B,by rw [<-f.block j H r];exact e⟩))
theorem zU (e:Int) (w):Calls prog 126 #[true,e] w λe w'=>e=.returned (.tuple #[])/\w'=w:=by
 go_enter func126,ntmps126;go_wp2;go_end0;exact ⟨rfl,rfl⟩
abbrev dX:=ByteArray×Int×Bool
structure aX where
 e:Int
 ino:Int
 size:Int
 handle:Int
 swaps:Int
 dir:Bool
 es:List dX
 map:List UInt8
def aX.cells (r:aX) (ev mv:Value):Array Value:= #[r.e,r.ino,r.size,r.handle,r.swaps,r.dir,ev,mv]
def iL (w:World) (B:Nat) (v:Value) (ys:List UInt8):Prop:=(v=.slice none 0 0/\ys= [])\/∃b off c,fH w v ys b off c/\b<B
def iF (w:World) (B:Nat) (v:Value) (es:List dX):Prop:=(v=.slice none 0 0/\es= [])\/
 ∃b off c,v=.slice (some (I b off)) es.length c/\es.length<=c/\b<B/\b<w.heap.size/\(∃cs fz,w.heap[b]? =some (.cells cs 86 fz))/\
  ∀(j:Nat) x,es[j]? =some x->w.rangeAt b (off+j*3) [.string x.1,Z x.2.1,.bool x.2.2]
theorem iL.bs {w r v o} (h:iL w r v o):Bs w v o:=by
 rcases h with h|⟨b,off,c,h,_⟩;{exact .inl h};{exact .inr ⟨b,off,c,h⟩}
theorem iL.no {w w' o v r} (h:iL w o v r) (f:Fr No w w'):iL w' o v r:=by
 rcases h with h|⟨b,off,c,⟨e,u,A,B⟩,E⟩;{exact .inl h};{exact .inr ⟨b,off,c,⟨e,u,AP A f.size,λj x H=>f.cell_of (B j x H) id⟩,E⟩}
theorem iF.no {w w' o v es} (h:iF w o v es) (f:Fr No w w'):iF w' o v es:=by
 rcases h with h|⟨b,off,c,e,u,H,A,⟨cs,r,B⟩,E⟩;{exact .inl h};{exact .inr ⟨b,off,c,e,u,H,AP A f.size,⟨cs,r,f.aB B id⟩,λj x Q i V J=>f.cell_of (E j x Q i V J) id⟩}
theorem iL.pf {w w' o p base v r} (h:iL w o v r) (J:o<=base) (Q:o<=p) (f:Fr (Pf w p base) w w'):iL w' o v r:=by
 rcases h with h|⟨b,off,c,⟨e,u,A,B⟩,E⟩;{exact .inl h};{refine .inr ⟨b,off,c,⟨e,u,AP A f.size,λj x H=>f.cell_of (B j x H) ?_⟩,E⟩;rintro (e|⟨e,_⟩);{dsimp only at e;omega};{dsimp only at e;omega}}
theorem iF.pf {w w' o p base v es} (h:iF w o v es) (ab:o<=base) (ad:o<=p) (f:Fr (Pf w p base) w w'):iF w' o v es:=by
 rcases h with h|⟨b,off,c,e,A,J,B,⟨cs,u,E⟩,H⟩;{exact .inl h};{(have r:¬Pf w p base b:=by rintro (e|⟨e,_⟩)<;>omega);exact .inr ⟨b,off,c,e,A,J,AP B f.size,⟨cs,u,f.aB E r⟩,λj x V i aa Q=>f.cell_of (H j x V i aa Q) r⟩}
theorem Q4 (p base s) (x:Int) (w) (h:Pg w p base s):Calls prog 89 #[Y p,x,Z 1] w λe w'=>e=.returned (.tuple #[])/\Pg w' p base (dN s x 1)/\Fr (Pf w p base) w w':=vH p base 1 s x G G w h
theorem Hz (p base s) (x:Int) (w) (h:Pg w p base s):Calls prog 89 #[Y p,x,Z 2] w λe w'=>e=.returned (.tuple #[])/\Pg w' p base (dN s x 2)/\Fr (Pf w p base) w w':=vH p base 2 s x G G w h
theorem aGF (p base s) (x:Int) (w) (h:Pg w p base s):Calls prog 89 #[Y p,x,Z 3] w λe w'=>e=.returned (.tuple #[])/\Pg w' p base (dN s x 3)/\Fr (Pf w p base) w w':=vH p base 3 s x G G w h
theorem Tryz.Oc:(prog.info? 86).map (·.size)=some 3:=by kernel_rfl
def qE (s:lI) (x:dX):lI:=jC (dN (mP s x.1.data.toList) x.2.1 2) [if x.2.2 then 1 else 0]
def zZ (s:lI) (r:aX):lI:=dN (jC (dN (dN (dN (dN (dN s r.e 1) r.ino 2) r.size 2) r.handle 1) r.swaps 3) [if r.dir then 1 else 0]) r.es.length 2
def uB (s:lI) (r:aX):lI:=mP (r.es.foldl qE (zZ s r)) r.map
theorem aGD (p base av V s Q bm ad) (dm:Q.es.length<=4000) (bp:∀x∈Q.es,x.1.size<=1000000) (w) (h:Pg w p base s) (aq:w.heap[av]? =some (.cells (Q.cells bm ad) 29 (0,0))) (E:av≠p) (o:V<=base) (r:V<=p) (ax:iF w V bm Q.es) (bo:iL w V ad Q.map):
  Calls prog 188 #[Y p,Y av] w λx w'=>x=.returned (.tuple #[])/\Pg w' p base (uB s Q)/\Fr (Pf w p base) w w':=by
 obtain ⟨e,J,size,ap,swaps,dir,es,dt⟩:=Q;unfold aX.cells at aq;dsimp only at dm bp aq ax bo;have ch:=lH h;have da:=lH aq;have bq:=lH ax;have ct:=lH bo;have ej:=lH bp;have bz:Fr (Pf w p base) w w:=Fr.refl w;(obtain ⟨n,c,a,fb⟩:∃n c a,bm=.slice a n c/\n=es.length:=by{rcases ax with ⟨e,ez⟩|⟨b,off,c,e,_⟩;{exact ⟨0,0,none,e,by rw [ez];rfl⟩};{exact ⟨_,c,_,e,rfl⟩}});obtain ⟨rfl,dp⟩:=fb;(have fw:(n:Int)<=4000:=X);have ae:=lH dp;clear dp;obtain ⟨A,c1,c2,c3,c4,c5,B,u⟩:=tY aq;clear h aq ax bo bp dm;go_enter func188,ntmps188;go_wp2_with fail;refine cq (zU _ _) ?_;go_wp2_with fail;refine cr (Q4 p base (s) e _ ch) ?_;rintro fz ⟨dc,ag⟩;have ci:=lH dc;have ca:=mD bz ag;have bf:=lH (pV ag da G E);have br:=lH (bq.o.pf o r ag);have cu:=lH (ct.o.pf o r ag);clear dc ag A c1 c2 c3 c4 c5 B u;obtain ⟨A,c1,c2,c3,c4,c5,B,u⟩:=tY bf.o;go_wp2_with fail;refine cr (Hz p base (dN s e 1) J _ ci) ?_;rintro gb ⟨de,ai⟩;have cj:=lH de;have cb:=mD ca ai;have bg:=lH (pV ai bf G E);have bt:=lH (br.o.pf o r ai);have cv:=lH (cu.o.pf o r ai);clear de ai A c1 c2 c3 c4 c5 B u;obtain ⟨A,c1,c2,c3,c4,c5,B,u⟩:=tY bg.o;go_wp2_with fail;refine cr (Hz p base (dN (dN s e 1) J 2) size _ cj) ?_;rintro gc ⟨df,aj⟩;have ck:=lH df;have cc:=mD cb aj;have bh:=lH (pV aj bg G E);have bu:=lH (bt.o.pf o r aj);have cw:=lH (cv.o.pf o r aj);clear df aj A c1 c2 c3 c4 c5 B u;obtain ⟨A,c1,c2,c3,c4,c5,B,u⟩:=tY bh.o;go_wp2_with fail;refine cr (Q4 p base (dN (dN (dN s e 1) J 2) size 2) ap _ ck) ?_;rintro gd ⟨dg,ak⟩;have cl:=lH dg;have cd:=mD cc ak;have bi:=lH (pV ak bh G E);have bv:=lH (bu.o.pf o r ak);have cx:=lH (cw.o.pf o r ak);clear dg ak A c1 c2 c3 c4 c5 B u;obtain ⟨A,c1,c2,c3,c4,c5,B,u⟩:=tY bi.o;go_wp2_with fail;refine cr (aGF p base (dN (dN (dN (dN s e 1) J 2) size 2) ap 1) swaps _ cl) ?_;rintro ge ⟨dh,al⟩;have cm:=lH dh;have ce:=mD cd al;have bj:=lH (pV al bi G E);have bw:=lH (bv.o.pf o r al);have cy:=lH (cx.o.pf o r al);clear dh al A c1 c2 c3 c4 c5 B u;obtain ⟨A,c1,c2,c3,c4,c5,B,u⟩:=tY bj.o;go_wp2_with fail;refine cr (U6 p base (dN (dN (dN (dN (dN s e 1) J 2) size 2) ap 1) swaps 3) dir _ cm) ?_;rintro gf ⟨di,am⟩;have cn:=lH di;have cf:=mD ce am;have bk:=lH (pV am bj G E);have bx:=lH (bw.o.pf o r am);have cz:=lH (cy.o.pf o r am);clear di am A c1 c2 c3 c4 c5 B u;obtain ⟨A,c1,c2,c3,c4,c5,B,u⟩:=tY bk.o;go_wp2_with fail;refine cr (Hz p base (jC (dN (dN (dN (dN (dN s e 1) J 2) size 2) ap 1) swaps 3) _) (n:Int) _ cn) ?_;rintro du ⟨dj,an⟩;have ef:=lH dj;have cg:=mD cf an;have db:=lH (pV an bk G E);have dw:=lH (bx.o.pf o r an);have ep:=lH (cz.o.pf o r an);clear dj an A c1 c2 c3 c4 c5 B u;obtain ⟨A,c1,c2,c3,c4,c5,B,u⟩:=tY db.o;go_wp2_with fail;have ei:=lH cg;clear A c1 c2 c3 c4 c5 B u bz ca cb cc cd ce cf cg ch ci cj ck cl cm cn da bf bg bh bi bj bk bq br bt bu bv bw bx ct cu cv cw cx cy cz;generalize dq:dN _ n 2=fi at*;have ek:=lH dq;clear dq;go_loopw [42] (λi wr=>∃j:Nat,i=Z j/\j<=n/\Hid (Pg wr p base ((es.take j).foldl qE fi))/\Hid (Fr (Pf du p base) du wr)/\Hid (wr.heap[av]? =some (.cells #[Z e,Z J,Z size,Z ap,Z swaps,dir,.slice a n c,ad] 29 (0,0)))/\Hid (iF wr V (.slice a n c) es)/\Hid (iL wr V ad dt)) (λi _=>n - (intOf i).toNat);(case atStart=>exact ⟨0,rfl,BA _,ef,lH (Fr.refl _),db,dw,ep⟩);(case round=>obtain ⟨j,rfl,fs,aw,bb,bl,az,be⟩:=hrel;by_cases ft:j<n;{have ar:es[j]? =some (es[j]'(by have:=ae.o;omega)):=AC _;generalize es[j]'(by have:=ae.o;omega)=x at ar;obtain ⟨ay,au,af⟩:=x;have ea:=az.o;rcases ea with ⟨e0,_⟩|⟨b,off,fo,e0,fe,ff,fa,⟨cs,fq,bn⟩,dl⟩;{simp at e0;omega};{simp only [KY] at e0;obtain ⟨rfl,fc,fd⟩:=e0;clear fc fd;have eh:=lH (dl j _ ar);have fx:(0:Int)<=(j:Int):=X;have fy:(j:Int)<(n:Int):=X;have el:=lH ar;have dr:=ej.o _ (DX ar);dsimp only at dr;clear dl bn ar fe ff fa;go_wp2_with (refine wL 86 eh ?_);have fu:p<wr.heap.size:=(by obtain ⟨v,bn,_⟩:=aw.o;exact lt_of_block bn);have ab:Fr No wr (wr.alloc (.cells #[ay,Z au,af] 86)):=(Fr.refl wr).alloc _;have ds:=aT wr (.cells #[ay,Z au,af] 86);have en:=lH ds;have ex:=lH (ab.aB bl id);have dz:=lH (az.o.no ab);have et:=lH (be.o.no ab);have ed:=lH (bb.o.trans ab (λ_ _ e=>e.elim));have co:=lH (aAF p base _ ay dr _ (aw.o.no ab));clear ds ab bl az be bb aw;generalize fg:wr.heap.size=z at*;generalize (wr.alloc _)=gg at*;clear fg;refine cr co.o ?_;rintro w8 ⟨ao,H⟩;have bd:=lH ao;have cp:=lH (pV H en G X);have ev:=lH (pV H ex G E);have dx:=lH (dz.o.pf o r H);have eq:=lH (et.o.pf o r H);have bc:=lH (mD ed H);clear ao H co;have fk:w8.cell? (I z 1)=some (Z au):=(by rw [aA cp.o];rfl);go_wp2_with fail;refine cr (Hz p base _ au _ bd) ?_;rintro fj ⟨dk,aa⟩;have eg:=lH dk;have em:=lH (pV aa cp G X);have ew:=lH (pV aa ev G E);have dy:=lH (dx.o.pf o r aa);have er:=lH (eq.o.pf o r aa);have ec:=lH (mD bc aa);clear dk aa fk;have fl:fj.cell? (I z 2)=some (.bool af):=(by rw [aA em.o];rfl);go_wp2_with fail;refine cr (U6 p base _ af _ eg) ?_;rintro ga ⟨dd,ah⟩;have ee:=lH dd;have eu:=lH (pV ah ew G E);have dv:=lH (dy.o.pf o r ah);have eo:=lH (er.o.pf o r ah);have eb:=lH (mD ec ah);clear dd ah fl;go_wp2_with fail;go_roundw;{refine ⟨j+1,by go_num,by omega,lH ?_,eb,eu,dv,eo⟩;have dn:j<es.length:=(by have:=ae.o;omega);rw [GH dn,JC];(have fh:es[j]=(ay,au,af):=by{have:=el.o;rw [AC dn] at this;exact FZ this});rw [fh];exact ee.o};simp [intOf];omega}};{(obtain rfl:j=n:=by omega);have u:wr.cell? (I av 7)=some ad:=(by rw [aA bl.o];rfl);go_wp2_with fail;refine cr (Xa p base _ ad dt _ be.o.bs aw) ?_;rintro w8 ⟨ao,H⟩;have bd:=lH ao;have bc:=lH (mD (mD ei bb) H);clear ao H;go_wp2_with fail;go_end0;refine ⟨rfl,?_,bc⟩;have:=bd.o;rw [FI (by have:=ae.o;omega),<-ek.o,ae.o] at this;exact this})
theorem iL.le {w o C v r} (h:iL w o v r) (A:o<=C):iL w C v r:=by
 rcases h with h|⟨b,off,c,h,u⟩;{exact .inl h};{exact .inr ⟨b,off,c,h,AP u A⟩}
theorem iF.le {w o C v es} (h:iF w o v es) (B:o<=C):iF w C v es:=by
 rcases h with h|⟨b,off,c,e,r,A,u⟩;{exact .inl h};{exact .inr ⟨b,off,c,e,r,AP A B,u⟩}
def aX.ok (r:aX):Prop:=(uB ([],0) r).2=0/\r.es.length<=4000/\∀x∈r.es,x.1.size<=1000000
def aX.bytes (r:aX):List UInt8:=(uB ([],0) r).1
theorem aBN (s o) (h:(mP s o).2=0):(mP s o).1≠ []:=by
 unfold mP oZ jC at*;split at h;{split at h;{contradiction};{simp at h}};{split at h;{contradiction};{split at h;{simp at h};{rename_i r u A;rw [AA r,AA u,AA A];simp [Za]}}}
theorem aX.ok.some {r:aX} (h:r.ok):r.bytes≠ []:=aBN _ _ h.1
theorem Tm (w:World):Pg (w.alloc (.cells #[nS,Z 0] 149)) w (w.heap.size+1) ([],0):=
 ⟨.slice none 0 0,aT w _,⟨rfl,.inl ⟨rfl,rfl⟩⟩,by simp,by simp⟩
theorem aX.ok.pg {o} (h:o.ok) {w p base} (r:Pg w p base (uB ([],0) o)):Pg w p base (o.bytes,0):=by
 have e:uB ([],0) o=(o.bytes,0):=by
  rw [show (o.bytes,(0:Int))=((uB ([],0) o).1,(uB ([],0) o).2) by rw [h.1];rfl]
 rw [e] at r;exact r
theorem aGL (af o B) (r:aX) (V ae) (A:r.ok) (w) (ad:w.heap[af]? =some (.cells #[.func (Fn.func 188) #[] #[Y B]] 150 (0,0))) (aa:w.heap[o]? =some (.cells #[nS] 27 (0,0))) (ab:w.heap[B]? =some (.cells (r.cells V ae) 29 (0,0))) (al:iF w w V r.es) (an:iL w w ae r.map):
  Calls prog 243 #[Y af,Y o] w λx w'=>∃v b c,x=.returned (.tuple #[])/\w'.heap[o]? =some (.cells #[v] 27 (0,0))/\fH w' v r.bytes b 0 c/\w.heap.size<=b/\Fr (λk=>k=o) w w':=by
 have u:Fr No w (w.alloc (.cells #[nS,Z 0] 149)):=(Fr.refl w).alloc _;have aw:=lH (Tm w);have bf:=lt_of_block ad;have bg:=lt_of_block aa;have bh:=lt_of_block ab;(have cs:(w.alloc (.cells #[nS,Z 0] 149)).cell? (I af 0)=some (.func (Fn.func 188) #[] #[Y B]):=by rw [aA (u.aB ad id)];rfl);have av:=lH (u.aB aa id);have ay:=lH (aGD w (w.heap.size+1) B w ([],0) r V ae A.2.1 A.2.2 _ aw (u.aB ab id) X X (AU _) (al.no u) (an.no u));have ag:=lH A;clear ad aa ab al an A;go_enter func243,ntmps243;go_wp2_with fail;refine ay.o.mono ?_;rintro x bi ⟨rfl,aj,ah⟩;have ar:=lH (ag.o.pg aj);have J:=lH ah;clear aj ah cs;go_wp2_with fail;refine (Uh _ _ _ _ ar ag.o.some).mono ?_;rintro x bj ⟨v,b,c,rfl,ao,be,ai⟩;have ax:=lH ao;have bc:=J.o.size;have ap:=ai.aB (pV J av G X) id;have Q:=lH ap;clear ao;go_wp2_with fail;refine (zU _ _).mono ?_;rintro x E ⟨rfl,rfl⟩;have bd:E.cell? (I o 0)=some (nS):=by rw [aA Q.o];rfl
 have bk:=aU Q.o 0;obtain ⟨rfl,az,bb,ak⟩:=ax.o;simp at bc;have aq:=(u.bC.trans (J.o) (λj am e=>by
  rcases e with e|⟨e,_⟩<;>omega)).trans ai zq
 have au:=lH ak;clear ap ak;go_wp2_with fail;go_end0;have H:Fr (λk=>k=o) E (E.setCell (I o 0) (O b r.bytes.length c)):=Fr.setCell (S:=λk=>k=o) (p:=(I o 0)) (Fr.refl E) (.inl rfl) _;refine ⟨_,b,c,rfl,by simpa using setCell_at Q.o 0 _,⟨rfl,az,AP bb H.size,λj y am=>H.cell_of (au.o j y am) (by dsimp only;omega)⟩,by omega,aq.bC.trans H zq⟩
theorem aAM (r) (o:aX) (aa ad) (aj:o.ok) (w) (ak:w.heap[r]? =some (.cells (o.cells aa ad) 29 (0,0))) (ah:iF w w aa o.es) (ai:iL w w ad o.map):
  Calls prog 187 #[.func (Fn.func 188) #[] #[Y r]] w λx w'=>∃v b c,x=.returned (.tuple #[v,Z 0])/\fH w' v o.bytes b 0 c/\w.heap.size<=b/\Fr No w w':=by
 have bb:∀(fn:Fn) (first cap:Array Value) (w:World),(Instr.makeFunc fn first cap).run prog w=.ok (.func fn first cap) w:=λ_ _ _ _=>rfl;have J:Fr No w ((w.alloc (.cells #[.func (Fn.func 188) #[] #[Y r]] 150)).alloc (.cells #[nS] 27)):=((Fr.refl w).alloc _).alloc _;have ao:((w.alloc (.cells #[.func (Fn.func 188) #[] #[Y r]] 150)).alloc (.cells #[nS] 27)).heap[w.heap.size]? =some (.cells #[.func (Fn.func 188) #[] #[Y r]] 150 (0,0)):=((Fr.refl (S:=No) _).alloc _).aB (aT w _) id;(have an:((w.alloc (.cells #[.func (Fn.func 188) #[] #[Y r]] 150)).alloc (.cells #[nS] 27)).heap[w.heap.size+1]? =some (.cells #[nS] 27 (0,0)):=by simpa using aT (w.alloc _) _);(have al:((w.alloc (.cells #[.func (Fn.func 188) #[] #[Y r]] 150)).alloc (.cells #[nS] 27)).heap.size=w.heap.size+1+1:=D);have au:=lH (J.aB ak id);have aq:=lH (ah.no J);have ar:=lH (ai.no J);have ay:=lH aj;have ax:=lH ao;have aw:=lH an;clear ak ao an ah ai aj;go_enter func187,ntmps187;go_wp2_with fail;generalize ((w.alloc _).alloc _)=w0 at*;have V:=lH al;clear al;have A:Fr No w0 (w0.alloc (.cells #[Z 0] 25)):=(Fr.refl w0).alloc _;refine (aBy w (w.heap.size+1) (λH=>∃v b c,H.heap[w.heap.size+1]? =some (.cells #[v] 27 (0,0))/\fH H v o.bytes b 0 c/\w.heap.size+1+1+1<=b/\Fr (λk=>k=w.heap.size+1) w0 H) w0 ?_).mono ?_;{(have af:w.heap.size<=(w0.alloc (.cells #[Z 0] 25)).heap.size:=by have:=V.o;simp;omega);refine (aGL w (w.heap.size+1) r o aa ad ay _ (A.aB ax id) (A.aB aw id) (A.aB au id) ((aq.o.no A).le af) ((ar.o.no A).le af)).mono ?_;rintro x H ⟨v,b,c,rfl,Q,u,ag,B⟩;have e0:=V.o;refine ⟨rfl,⟨v,b,c,Q,u,by simp at ag;omega,A.bC.trans B zq⟩,B.aB (aT w0 _) X⟩};{rintro x ae ⟨rfl,H,⟨v,b,c,Q,u,ag,B⟩,E⟩;have e0:=V.o;have am:=E.aB Q X;(have az:ae.cell? (I (w.heap.size+1) 0)=some v:=by rw [aA am];rfl);have ap:Fr No w ae:=(J.bC.trans B (λj ab e=>by omega)).trans E (λj ab e=>by omega);have av:Hid (fH ae v o.bytes b 0 c):=lH ⟨u.1,u.2.1,AP u.2.2.1 E.size,λj y ab=>E.cell_of (u.2.2.2 j y ab) (by dsimp only;omega)⟩;clear Q u B E am;go_wp2_with fail;go_ret2;exact ⟨v,b,c,rfl,av,by omega,ap⟩}
theorem Y7 (o:aX) (r u) (J:o.ok) (w) (E:iF w w r o.es) (H:iL w w u o.map):
  Calls prog 132 #[.agg (o.cells r u)] w λx w'=>∃v b c,x=.returned (.tuple #[v,Z 0])/\fH w' v o.bytes b 0 c/\w.heap.size<=b/\Fr No w w':=by
 have ae:∀(fn:Fn) (first cap:Array Value) (w:World),(Instr.makeFunc fn first cap).run prog w=.ok (.func fn first cap) w:=λ_ _ _ _=>rfl;have A:Fr No w (w.alloc (.cells (o.cells r u) 29)):=(Fr.refl w).alloc _;have B:w.heap.size<=(w.alloc (.cells (o.cells r u) 29)).heap.size:=D
 have aa:=lH (aAM w o r u J _ (aT w _) ((E.no A).le B) ((H.no A).le B));clear E H J;unfold aX.cells at*;go_enter func132,ntmps132;go_wp2_with fail;with_reducible refine aa.o.mono ?_
 rintro x af ⟨v,b,c,rfl,Q,ad,ab⟩;have V:=lH Q;simp at ad;clear Q;go_wp2_with fail
 go_ret2
 exact ⟨v,b,c,rfl,V,by omega,A.trans ab zq⟩
theorem aCn (a b:Nat) (o:a<9223372036854775808) (r:b<9223372036854775808):bits .or .i64 (a:Int) (b:Int)=((a|||b:Nat):Int):=by
 have u:a|||b<2 ^ 63:=Nat.or_lt_two_pow X X
 show IntKind.i64.wrap ((BitVec.ofInt 64 (a:Int)|||BitVec.ofInt 64 (b:Int)).toNat:Int)=_;rw [BitVec.toNat_or,ofInt_u64 a X,ofInt_u64 b X];exact IntWalk.i64_in _ X
theorem aDN (a c:Nat) (o:a<36028797018963968) (r:c<256):bits .or .i64 ((a:Int)*256) (c:Int)=((a*256+c:Nat):Int):=by
 rw [show (a:Int)*256=((a*256:Nat):Int) by omega,aCn _ _ X X];congr 1;rw [show a*256=a<<<8 by rw [IR],<-Nat.shiftLeft_add_eq_or_of_lt X]
def kU (a:Nat) (ys:List UInt8):Nat:=ys.foldl (λa c=>a*256+c.toNat) a
theorem aDv (o):kU 0 o<2 ^ (8*o.length):=by
 (suffices h:∀(o:List UInt8) (a n:Nat),a<2 ^ n->kU a o<2 ^ (n+8*o.length) by simpa using h o 0 0 D);intro o;(induction o with|nil=>intro a n h;simpa [kU] using h|cons y r ih=>intro a n h;have A:=y.toNat_lt;(have u:a*256+y.toNat<2 ^ (n+8):=by{rw [IX];have:(2:Nat) ^ 8=256:=rfl;rw [this];omega});have:=ih _ _ u;show kU (a*256+y.toNat) r<_;rw [BX,show n+8*(r.length+1)=n+8+8*r.length by omega];exact this)
theorem Pq (a xs o):kU a (xs++o)=kU (kU a xs) o:=by simp [kU,JC]
theorem Ib (wd x) (B:x<2 ^ (8*wd)):kU 0 (bK wd x)=x:=by
 suffices h:∀m,m<=wd->kU 0 ((bK wd x).take (wd - m))=x / 2 ^ (8*m) by
  have:=h 0 (BA _);rw [Nat.sub_zero,FI (by rw [fM];exact AU _)] at this;simpa using this
 intro m;(induction u:wd - m generalizing m with|zero=>intro A;(have:m=wd:=X);subst this;simp [kU,Nat.div_eq_of_lt B]|succ k ih=>intro A;(have o:m+1<=wd:=X);have e:=Zc wd x m o;have E:=ih (m+1) X o;rw [u] at e;rw [show wd - (m+1)=k by omega] at e;rw [e,Pq,E];simp only [kU,NI,MR];(have r:(UInt8.ofNat (x / 2 ^ (8*m) % 256)).toNat=x / 2 ^ (8*m) % 256:=D);rw [r,show 8*(m+1)=8*m+8 by omega,IX,<-Nat.div_div_eq_div_mul];have:(2:Nat) ^ 8=256:=rfl;rw [this];omega)
def Er (w:World) (e b:Nat) (rest:List UInt8):Prop:=
 ∃off c,Ey w e b off rest.length c/\rest.length<=c/\b≠e/\b<w.heap.size/\∀(j:Nat) x,rest[j]? =some x->w.cell? (I b (off+j))=some (.int .u8 x.toNat)
theorem Er.fr {S w w' e b rest} (h:Er w e b rest) (f:Fr S w w') (H:¬S e) (E:¬S b):Er w' e b rest:=by
 obtain ⟨off,c,o,r,u,A,B⟩:=h;exact ⟨off,c,f.aB o H,r,u,AP A f.size,λj x J=>f.cell_of (B j x J) E⟩
theorem Er.no {w w' e b rest} (h:Er w e b rest) (f:Fr No w w'):Er w' e b rest:=h.fr f id id
theorem Iw (e b o rest w) (h:Er w e b (o++rest)):
  Calls prog 183 #[Y e,o.length] w λx w'=>∃off,x=.returned (.slice (some (I b off)) o.length o.length)/\(∀(j:Nat) x,o[j]? =some x->w'.cell? (I b (off+j))=some (.int .u8 x.toNat))/\Er w' e b rest/\Fr (λk=>k=e) w w':=by
 obtain ⟨off,c,Q,V,A,aa,B⟩:=h;refine (aDD e b off _ c o.length w Q V D).mono ?_;rintro x w' ⟨rfl,⟨ad,J,E,H,r⟩,f⟩;(have ab:(o++rest).length - o.length=rest.length:=D);rw [ab] at E H r;refine ⟨off,rfl,λj x u=>f.cell_of (B j x (by rw [GV (AY.1 u).1];exact u)) A,⟨ad,J,E,H,A,AP aa f.size,λj x u=> ?_⟩,f⟩;rcases r with r|r;{rw [CW r] at u;simp at u};{rw [r,Nat.add_assoc];exact f.cell_of (B (o.length+j) x (by rw [IC X,Nat.add_sub_cancel_left];exact u)) A}
theorem Wx (e b o rest) (aq:o.length<=7) (w) (h:Er w e b (o++rest)):
  Calls prog 180 #[Y e,o.length] w λx w'=>x=.returned (Z (kU 0 o))/\Er w' e b rest/\Fr (λk=>k=e) w w':=by
 have A:=lH (Iw e b o rest w h);clear h;go_enter func180,ntmps180;go_wp2_with fail;refine A.o.mono ?_;rintro x ak ⟨off,rfl,H,J,B⟩;have ae:=lH H;have af:=lH J;have ad:=lH B;clear H J B A;generalize Q:o.length=n at*;have u:=lH Q;clear Q;go_wp2_with fail;go_loopw [5,12] (λa i wr=>∃j:Nat,i=Z j/\j<=n/\a=Z (kU 0 (o.take j):Nat)/\wr=ak) (λ_ i _=>n - (intOf i).toNat);(case atStart=>exact ⟨0,rfl,BA _,rfl,rfl⟩);(case round=>obtain ⟨j,rfl,ao,rfl,rfl⟩:=hrel;by_cases ap:j<n;{(have r:j<o.length:=by have:=u.o;omega);have aa:=AC r;have E:=aDv (o.take j);rw [BZ,LZ X] at E;have ai:(2:Nat) ^ (8*j)<=2 ^ 48:=JU G X;(have V:kU 0 (o.take (j+1))=kU 0 (o.take j)*256+o[j].toNat:=by{rw [GH r,Pq];rfl});have ag:=lH V;have aj:=(o[j]).toNat_lt;generalize ab:o[j].toNat=y at*;have an:wr.cell? (I b (off+j))=some (.int .u8 y):=(by rw [ae.o j _ aa,ab]);generalize kU 0 _=a at*;(have ah:a<=281474976710655:=by{have:(2:Nat) ^ 48=281474976710656:=rfl;omega});have am:=aDN a y X X;have ar:(0:Int)<=(j:Int):=X;have au:(j:Int)<(n:Int):=X;have av:(0:Int)<=(a:Int):=X;have aw:(a:Int)<=281474976710655:=X;have ax:(0:Int)<=(y:Int):=X;have ay:(y:Int)<=255:=X;have al:=lH r;clear aa E ai V ab aj ah r;go_wp2_with fail;go_roundw;{exact ⟨j+1,by go_num,by omega,by rw [ag.o];simp,trivial⟩};simp [intOf];omega};{(obtain rfl:j=n:=by omega);go_wp2_with fail;have e:o.take j=o:=FI (by have:=u.o;omega);refine AZ (v:=Z (kU 0 (o.take j):Nat)) (by simp [results,results180,go_sem]) rfl ⟨by rw [e],af,ad⟩})
theorem aBU (o w g cs fr r) (Q:o.getD 2 undef=.pointer (some (I g 0))) (A:o.getD 3 undef=r) (H:w.heap[g]? =some (.cells cs 29 fr)) (E:cs.size=8):(results Tryz.f67 o).run prog w=.ok (.tuple #[.agg cs,r]) w:=by
 have J:=NJ (P:=prog) w g 29 29 cs fr _ H underlying29 rfl (by rw [Tryz.size29,E]);have u:o[2]?.getD undef=Y g:=by simpa using Q
 have B:o[3]?.getD undef=r:=by simpa using A
 simp [results,results67,asAddr,u,B,J]
