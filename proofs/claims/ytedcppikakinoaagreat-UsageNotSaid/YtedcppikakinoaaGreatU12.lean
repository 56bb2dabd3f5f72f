/- Part of a proof. -/
import Derived.Test.YtedcppikakinoaaGreatU10
import Derived.Test.YtedcppikakinoaaGreatU11
set_option linter.unusedSimpArgs false
set_option linter.unusedVariables false
set_option maxRecDepth 100000
set_option maxHeartbeats 3200000
namespace Go.Proofs.YtedcppikakinoaaGreat
open Go.Proofs.Tryz Go.RowKit
structure Node where
 up:Nat
 name:List UInt8
 dir:Bool
deriving DecidableEq
abbrev Tree:=Nat->Option Node
def kid (T:Tree) (d:Nat) (s:List UInt8):Option Nat:=(List.range 129).find? λk=>match T k with|some x=>decide (x.up=d/\x.name=s)|none=>false
def bI (T:Tree) (d:Nat):Nat:=(List.range 129).countP λk=>match T k with|some x=>decide (x.up=d)|none=>false
def things (T:Tree):Nat:=(List.range 129).countP λk=>(T k).isSome
structure dK (T:Tree):Prop where
 root:T 1=some ⟨0, [],true⟩
 zero:T 0=none
 top:∀k,129<=k->T k=none
 up:∀k x,T k=some x->k≠1->∃y,T x.up=some y/\y.dir=true
 name:∀k x,T k=some x->k≠1->eH x.name=true
 one:∀j k x y,T j=some x->T k=some y->x.up=y.up->x.name=y.name->j=k
theorem dK.lt {T} (h:dK T) {k x} (o:T k=some x):1<=k/\k<=128:=by
 constructor;{rcases k with _|k;{rw [h.zero] at o;cases o};{omega}};{rcases BK k 129 with r|r;{omega};{rw [h.top k r] at o;cases o}}
theorem rJ {T d k s} (h:kid T d s=some k):∃x,T k=some x/\x.up=d/\x.name=s:=by
 have:=KT h;split at this;{rename_i x o;exact ⟨x,o,by simpa using this⟩};{cases this}
theorem zQ {T} (A:dK T) {d k s x} (o:T k=some x) (hd:x.up=d) (u:x.name=s):kid T d s=some k:=by
 (cases r:kid T d s with|none=>have:=EU.1 r k (CJ.2 (by have:=A.lt o;omega));simp [o,hd,u] at this|some j=>obtain ⟨y,B,E,H⟩:=rJ r;rw [A.one j k y x B o (by rw [E,hd]) (by rw [H,u])])
theorem Yb {T d s} (h:kid T d s=none) (k) (o:k<129) (x) (r:T k=some x):¬(x.up=d/\x.name=s):=by
 have:=EU.1 h k (CJ.2 o);simpa [r] using this
def dC (T:Tree) (tp:Nat->Nat):Int->Option Nat:=λi=>if 0<=i then (T i.toNat).map (λ_=>tp i.toNat) else none
def bQ (T:Tree) (d:Nat):ByteArray->Option Int:=λs=>(kid T d s.data.toList).map (λk=>(k:Int))
def rW (w:World) (o:Nat->Nat) (K k p:Nat) (x:Node) (n:Nat) (m:ByteArray->Option Int):Prop:=
 o p=K+1000+k/\match x.dir with
  | true=>∃ib,o ib=K+2000+k/\w.heap[p]? =some (.cells #[x.up,(ba x.name),true,.map (some ib)] 168 (0,0))/\MapAt encS w ib n m
  | false=>w.heap[p]? =some (.cells #[x.up,(ba x.name),false,.map none] 168 (0,0))
def eG (w:World) (o:Nat->Nat) (K t:Nat) (T:Tree):Prop:=
 ∃mb tp,o t=K+3/\w.heap[t]? =some (.cells #[.map (some mb)] 159 (0,0))/\o mb=K+4/\MapAt encI w mb (things T) (dC T tp)/\∀k x,T k=some x->rW w o K k (tp k) x (bI T k) (bQ T k)
theorem MapAt.step {A B:Type} {r C w w' o u b c} {m:A->Option B} (h:MapAt r w b c m) (s:Step C w o w' u) (E:¬C (o b)):MapAt r w' b c m/\u b=o b:=⟨h.fr s.fr E,s.old b h.lt⟩
theorem rW.step {C w w' r u K k p n x m} (h:rW w r K k p x n m) (s:Step C w r w' u) (o:¬C (K+1000+k)) (E:¬C (K+2000+k)):rW w' u K k p x n m:=by
 obtain ⟨up,J,dir⟩:=x;obtain ⟨a,b⟩:=h;(cases dir with|false=>exact ⟨(s.own b).trans a,s.block b (by rw [a];exact o)⟩|true=>obtain ⟨H,c,d,e⟩:=b;obtain ⟨A,B⟩:=e.step s (by rw [c];exact E);exact ⟨(s.own d).trans a,H,B.trans c,s.block d (by rw [a];exact o),A⟩)
def dM (K c:Nat):Prop:=c=K+3\/c=K+4\/K+1000<=c/\c<K+3000
theorem eG.step {C w w' H J K t T} (h:eG w H K t T) (E:dK T) (s:Step C w H w' J) (o:∀c,dM K c->¬C c):eG w' J K t T:=by
 obtain ⟨ad,ae,u,A,B,aa,ab⟩:=h;obtain ⟨Q,V⟩:=aa.step s (by rw [B];exact o _ (.inr (.inl rfl)));refine ⟨ad,ae,(s.own A).trans u,s.block A (by rw [u];exact o _ (.inl rfl)),V.trans B,Q,λk x r=>(ab k x r).step s ?_ ?_⟩;{have:=E.lt r;exact o _ (.inr (.inr X))};{have:=E.lt r;exact o _ (.inr (.inr X))}
theorem eG.no {w w' o K t T} (h:eG w o K t T) (u:dK T) (r:aF w o) (f:Fr No w w'):eG w' o K t T:=
 h.step u (Step.no r f) zq
structure Xb (w:World) (t mb:Nat) (tp:Nat->Nat) (T:Tree):Prop where
 ct:w.cell? (I t 0)=some (.map (some mb))
 look:∀k x,T k=some x->(Instr.lookup 157 (.map (some mb)) (Z k) false).run prog w=.ok (Y (tp k)) w
 dir:∀k x,T k=some x->w.cell? (I (tp k) 2)=some (.bool x.dir)
 kids:∀k x,T k=some x->x.dir=true->∃ib,w.cell? (I (tp k) 3)=some (.map (some ib))/\∀s:List UInt8,eH s=true->(Instr.lookup 166 (.map (some ib)) (.string (ba s)) true).run prog w=.ok (match kid T k s with|some j=> .tuple #[j,true]|none=> .tuple #[Z 0,false]) w
theorem eG.reads {w ae K t T} (h:eG w ae K t T) (ab:dK T):∃A u,∀w',Fr No w w'->Xb w' t A u T:=by
 obtain ⟨A,u,af,J,ag,Q,B⟩:=h;refine ⟨A,u,λw' f=>⟨by rw [aA (f.aB J id)];rfl,λk x o=> ?_,λk x o=> ?_,λk x o hd=> ?_⟩⟩;{have:=(Q.fr f id).look (k:Int) (show I64 _ by have:=ab.lt o;unfold I64;omega) (t:=157) (e:=169) underlying157 (z:=.pointer none) N false;rw [show dC T u (k:Int)=some (u k) by simp [dC,o]] at this;exact this};{obtain ⟨up,ad,dir⟩:=x;have:=(B k _ o).2;(cases dir with|false=>rw [aA (f.aB this id)];rfl|true=>obtain ⟨H,_,e,_⟩:=this;rw [aA (f.aB e id)];rfl)};{obtain ⟨up,ad,dir⟩:=x;have V:=(B k _ o).2;dsimp only at hd;subst hd;obtain ⟨H,_,e,m⟩:=V;refine ⟨H,by rw [aA (f.aB e id)];rfl,λs aa=> ?_⟩;have r:=(m.fr f id).look (ba s) (show (ba s).size<=maxLen by rw [nN];have:=(sN s aa).2.2;unfold maxLen;omega) (t:=166) (e:=3) underlying166 (z:=Z 0) N true;rw [show bQ T k (ba s)=(kid T k s).map (λj=>(j:Int)) by simp [bQ,mM]] at r;(cases E:kid T k s with|none=>rw [E] at r;exact r|some j=>rw [E] at r;exact r)}
theorem yF (w A K t T) (h:eG w A K t T):Calls prog 81 #[Y t] w λe w'=>e=.returned (.bool true)/\w'=w:=by
 obtain ⟨r,H,u,o,_⟩:=h;(have B:w.cell? (I t 0)=some (.map (some r)):=by rw [aA o];rfl);have E:=run_neq_map_nil w 157 3 169 (some r) underlying157;clear u o;go_enter func81,ntmps81;go_wp2;go_ret;exact ⟨rfl,rfl⟩
def bP (T:Tree):Nat->List (List UInt8)->Int×Nat
 | k, []=>(0,k)
 | k,s::r=>match T k with
  | none=>(14,0)
  | some x=>if x.dir=true then (match kid T k s with|some j=>bP T j r|none=>(6,0)) else (10,0)
theorem Gz {T} (H:dK T) {k u e j} (o:∃x,T k=some x) (h:bP T k u=(e,j)):e=0/\(∃x,T j=some x)\/e≠0/\j=0:=by
 (induction u generalizing k with|nil=>simp only [bP,GX] at h;obtain ⟨rfl,rfl⟩:=h;exact .inl ⟨rfl,o⟩|cons s r ih=>obtain ⟨x,B⟩:=o;simp only [bP,B] at h;split at h;{split at h;{rename_i J A;obtain ⟨y,E,_⟩:=rJ A;exact ih ⟨y,E⟩ h};{simp only [GX] at h;obtain ⟨rfl,rfl⟩:=h;exact .inr ⟨by decide,rfl⟩}};{simp only [GX] at h;obtain ⟨rfl,rfl⟩:=h;exact .inr ⟨by decide,rfl⟩})
theorem aDj (t ar av T w) (R:Xb w t ar av T) (ai:dK T) (v n o base) (Q:w.ownsRow base 9 1 v n (strs o)) (ap:n=o.length) (ah:∀x∈o,eH x=true) (ay:o.length<=8):
  Calls prog 146 #[Y t,v] w λe w'=>e=.returned (.tuple #[.int .i64 (bP T 1 o).2,.int .i64 (bP T 1 o).1])/\w'=w:=by
 subst ap;have V:=lH R;have al:=lH ai;have ak:=lH ah;have aw:=R.ct;clear R ai ah;rcases J:o with _|⟨bf,bg⟩;{subst J;obtain ⟨a,c,rfl⟩:=Q.shape;clear Q;go_enter func146,ntmps146;go_wp2_with fail;refine IZ 1 ?_;rw [GR];go_wp2_with fail;go_ret2;exact ⟨rfl,rfl⟩}
 ·rw [<-J];obtain ⟨g,c,rfl,az,_,_,ae⟩:=Ih Q rfl (by rw [J];simp);have aj:=lH ae;clear Q ae J;generalize ad:bP T 1 o=W at*;have am:=lH ad;clear ad;go_enter func146,ntmps146;go_wp2_with fail;go_loopw [6,14] (λa i wr=>∃(k j:Nat),a=Z k/\i=Z j/\j<=o.length/\Hid (bP T k (o.drop j)=W)/\Hid (∃x,T k=some x)/\wr=w) (λ_ i _=>o.length - (intOf i).toNat);case atStart=>exact ⟨1,0,rfl,rfl,BA _,lH am,lH ⟨_,al.o.root⟩,rfl⟩
  case round=>
   obtain ⟨k,j,rfl,rfl,bc,ab,an,rfl⟩:=hrel;by_cases B:j<o.length
   ·(have au:(j:Int)<(o.length:Int):=X);have bh:(0:Int)<=(j:Int):=X;have bi:(j:Int)<(c:Int):=X;(have ax:wr.cell? (I g j)=some (.string (ba (o[j]'B))):=by{have:=aj.o j (ba (o[j]'B)) (by rw [DY,AC B];rfl);rw [BP] at this;exact this});have aa:=ak.o (o[j]'B) (BF _);have r:=ab.o;rw [DN B] at r;generalize o[j]'B=s at*;obtain ⟨x,E⟩:=an.o;have bd:=V.o.look k x E;have hd:=V.o.dir k x E;simp only [bP,E] at r;by_cases u:x.dir=true
    ·rw [AL u] at r;obtain ⟨be,bb,af⟩:=V.o.kids k x E u;have ag:=af s aa;rw [u] at hd;clear u af aa;cases H:kid T k s with
     | none=>
      rw [H] at r ag;have A:=lH r;clear r E H;go_wp2_with fail;go_ret2;rw [<-A.o];exact ⟨rfl,rfl⟩
     | some k'=>
      rw [H] at r ag;have A:=lH r;have ao:Hid (∃x,T k'=some x):=lH (by
       obtain ⟨y,aq,_⟩:=rJ H;exact ⟨y,aq⟩)
      clear r E H;go_wp2_with fail;go_roundw;{exact ⟨k',j+1,rfl,by go_num,B,A,ao,trivial⟩};simp [intOf];omega
    {rw [AA u] at r;have A:=lH r;rw [KH] at u;rw [u] at hd;clear r E u aa;go_wp2_with fail;go_ret2;rw [<-A.o];exact ⟨rfl,rfl⟩}
   ·(obtain rfl:j=o.length:=by omega);have au:¬(o.length:Int)<(o.length:Int):=X
    have A:Hid ((0,k)=W):=lH (by
     have:=ab.o;rw [KF] at this;exact this)
    go_wp2_with fail;go_ret2;rw [<-A.o];exact ⟨rfl,rfl⟩
def isDir (T:Tree) (k:Nat):Bool:=match T k with|some x=>x.dir|none=>false
def seen (T:Tree) (ps:List (List UInt8)):Int×Nat×Bool:=if (bP T 1 ps).1=0 then (0,(bP T 1 ps).2,isDir T (bP T 1 ps).2) else ((bP T 1 ps).1,0,false)
def lookOf (T:Tree) (l:List UInt8):Int×Nat×Bool:=match pathOf l with
 | none=>(12,0,false)
 | some ps=>seen T ps
theorem xG (E K t T l w) (ae:l.length<=1000000) (h:eG w E K t T) (ao:dK T) (am:aF w E):
  Calls prog 85 #[Y t,(ba l)] w λe w'=>e=.returned (.tuple #[.int .i64 (lookOf T l).2.1,.bool (lookOf T l).2.2,.int .i64 (lookOf T l).1])/\Fr No w w':=by
 have aa:=lH (Dn l w ae);have ar:=lH (sU l);have Q:=lH h;have r:=lH ao;have ap:=lH am;have o:lookOf T l=match pathOf l with|none=>(12,0,false)|some B=>seen T B:=rfl
 clear ae h ao am;unfold pF at aa;generalize lookOf T l=H at*;generalize pathOf l=P at*;rcases P with _|B;{dsimp only at o;have J:=lH o;clear o;go_enter func85,ntmps85;go_wp2_with fail;refine cr (yF _ E K t T Q) ?_;rintro bb rfl;go_wp2_with fail;refine aa.o.mono ?_;rintro e bb ⟨u,rfl⟩;go_wp2_with fail;go_ret3;rw [J.o];exact ⟨rfl,u⟩};{obtain ⟨an,ax⟩:=ar.o B rfl;have aq:=lH an;clear an;dsimp only at o;have J:=lH o;clear o;go_enter func85,ntmps85;go_wp2_with fail;refine cq (yF _ E K t T Q) ?_;go_wp2_with fail;refine aa.o.mono ?_;rintro e ah ⟨u,v,rfl,ag⟩;have ai:=Q.o.no r ap u;obtain ⟨ay,az,ab⟩:=ai.reads r.o;have R:=ab ah (Fr.refl _);have ak:=ab ah.drew (Fr.refl _).drew;obtain ⟨a,c,rfl⟩:=ag.shape;have av:=lH (aDj t ay az T ah R r _ _ B _ ag rfl aq ax);have V:=lH R;have au:=lH ak;clear ai ag R ak ab;generalize ad:bP T 1 B=W at*;have aj:Hid (H=if W.1=0 then (0,W.2,isDir T W.2) else (W.1,0,false)):=lH (by rw [J.o,<-ad];rfl);have aw:=lH ad;clear ad;obtain ⟨al,k⟩:=W;go_wp2_with fail;refine cq av.o ?_;rcases Gz r.o ⟨_,r.o.root⟩ aw.o with ⟨rfl,x,A⟩|⟨af,rfl⟩;{have hd:Hid (H=(0,k,x.dir)):=lH (by rw [aj.o];simp [isDir,A]);have bc:=V.o.ct;have ae:=V.o.look k x A;have bd:=V.o.dir k x A;have be:=au.o.look k x A;clear A;go_wp2_with fail;go_region;(all_goals go_wp2_with fail;go_ret3;rw [hd.o];exact ⟨rfl,u.drewN 1⟩)};{have hd:Hid (H=(al,0,false)):=lH (by rw [aj.o,AA af]);have q:(al==0)=false:=(U af);clear af;go_wp2_with fail;go_ret3;rw [hd.o];exact ⟨rfl,u⟩}}
def stands (T:Tree) (ps:List (List UInt8)) (last:List UInt8):Int×Nat×List UInt8:=
 if (seen T ps).1=0 then (if (seen T ps).2.2 then (0,(seen T ps).2.1,last) else (10,0, [])) else ((seen T ps).1,0, [])
def placeOf (T:Tree) (l:List UInt8):Int×Nat×List UInt8:=match pathOf l with
 | none=>(12,0, [])
 | some []=>(1,0, [])
 | some (p::ps)=>stands T (p::ps).dropLast ((p::ps).getLast D)
theorem Yo (H K t T l w) (ai:l.length<=1000000) (h:eG w H K t T) (al:dK T) (ah:aF w H):
  Calls prog 228 #[Y t,(ba l)] w λe w'=>e=.returned (.tuple #[.int .i64 (placeOf T l).2.1,(ba (placeOf T l).2.2),.int .i64 (placeOf T l).1])/\Fr No w w':=by
 have B:=lH (aCq l w ai);have aq:=lH (sU l);have ao:=lH h;have ag:=lH al;have ae:=lH ah;have o:placeOf T l=match pathOf l with
  | none=>(12,0, [])
  | some []=>(1,0, [])
  | some (p::u)=>stands T (p::u).dropLast ((p::u).getLast (by simp)):=rfl
 clear ai h al ah;unfold Ol at B;generalize placeOf T l=Q at*;generalize pathOf l=P at*;rcases P with _|_|⟨p,u⟩;{dsimp only at o;have A:=lH o;clear o;go_enter func228,ntmps228;go_wp2_with fail;refine B.o.mono ?_;rintro e am ⟨r,rfl⟩;go_wp2_with fail;go_ret3;rw [A.o];exact ⟨rfl,r⟩};{dsimp only at o;have A:=lH o;clear o;go_enter func228,ntmps228;go_wp2_with fail;refine B.o.mono ?_;rintro e am ⟨r,rfl⟩;go_wp2_with fail;go_ret3;rw [A.o];exact ⟨rfl,r⟩};{obtain ⟨ak,av⟩:=aq.o (p::u) rfl;dsimp only at o B;have ad:∀x∈(p::u).dropLast,eH x=true:=λx ay=>ak x (List.dropLast_subset _ ay);(have ab:(p::u).dropLast.length<=8:=by rw [List.length_dropLast];omega);generalize (p::u).dropLast=D at*;generalize (p::u).getLast _=L at*;(have aj:lookOf T (qW D)=seen T D:=by rw [lookOf,aFM D ad ab]);have aw:=Sm D ad ab;clear ak ad ab av;rw [stands,<-aj] at o;have af:∀w,eG w H K t T->aF w H->_:=λw ar au=>xG H K t T (qW D) w X ar ag au;generalize lookOf T _=an at*;obtain ⟨V,k,d⟩:=an;have A:=lH o;have ap:=lH af;clear o aj aw af;generalize qW D=az at*;go_enter func228,ntmps228;go_wp2_with fail;refine B.o.mono ?_;rintro e am ⟨r,rfl⟩;go_wp2_with fail;refine cr (ap.o _ (ao.o.no ag ae r) (λk ax=>ae.o k (AV r.size ax))) λbb aa=> ?_;by_cases J:V=0;{subst J;(cases d with|true=>have E:Hid (Q=(0,k,L)):=lH (by rw [A.o];rfl);go_wp2_with fail;go_ret3;rw [E.o];exact ⟨rfl,r.trans aa zq⟩|false=>have E:Hid (Q=(10,0, [])):=lH (by rw [A.o];rfl);go_wp2_with fail;go_ret3;rw [E.o];exact ⟨rfl,r.trans aa zq⟩)};{have E:Hid (Q=(V,0, [])):=lH (by rw [A.o,AA J]);have q:(V==0)=false:=(U J);clear J;go_wp2_with fail;go_ret3;rw [E.o];exact ⟨rfl,r.trans aa zq⟩}}
theorem MapAt.is {r u:Type} {o w b c} {m:r->Option u} (h:MapAt o w b c m):∃es clock,w.heap[b]? =some (.map es clock):=by
 obtain ⟨D,⟨es,clock,A,_⟩,_⟩:=h;exact ⟨es,clock,A⟩
theorem MapAt.ne {u A:Type} {r:Enc u A} {w b c a m} (h:MapAt r w b c m) {cs t} {B:Nat×Nat} (E:w.heap[a]? =some (.cells cs t B)):a≠b:=by
 obtain ⟨es,clock,o⟩:=h.is;rintro rfl;rw [E] at o;cases o
def aCc (w:World) (mb ib c n:Nat) (ino:Int) (xb:Nat) (s:ByteArray) (m:Int->Option Nat) (k:ByteArray->Option Int) (e:Ending) (w':World):Prop:=
 e=.returned (.tuple #[])/\Fr (λj=>j=mb\/j=ib) w w'/\
   MapAt encI w' mb (if (m ino).isSome then c else c+1) (λz=>if z=ino then some xb else m z)/\MapAt encS w' ib (if (k s).isSome then n else n+1) (λz=>if z=s then some ino else k z)
theorem Jz (t o q B J c n E u A m k w) (V:w.heap[t]? =some (.cells #[.map (some o)] 159 (0,0))) (Q:MapAt encI w o c m) (ak:I64 u) (aj:I64 E) (bg:c<1000) (bh:n<1000) (al:E≠u) (an:m E=some q) {cs be} (ae:w.heap[q]? =some (.cells cs 168 be)) (aq:cs[3]? =some (.map (some B))) (ah:MapAt encS w B n k) (ad:o≠B) {xs bf} (af:w.heap[J]? =some (.cells xs 168 bf)) (ar:xs[1]? =some (.string (ba A))) (am:eH A=true):
  Calls prog 229 #[Y t,E,u,Y J] w (aCc w o B c n u J (ba A) m k):=by
 (have bi:w.cell? (I t 0)=some (.map (some o)):=by rw [aA V];rfl);obtain ⟨r,ao,au,ai⟩:=Q.put u J ak trivial X (t:=157) (e:=169) underlying157;have ax:=Q.ne V;have ay:=Q.ne ae;have az:=Q.ne af;have H:=ai.drew;(have d0:r.drew.cell? (I t 0)=some (.map (some o)):=by rw [aA (H.aB V ax)];rfl);have ag:MapAt encI r.drew o _ _:=au.fr (Fr.refl (S:=No) r).drew id;have ab:=ag.look E aj (t:=157) (e:=169) underlying157 (z:=.pointer none) N false;simp only [AA al,an] at ab;(have bj:r.drew.cell? (I q 3)=some (.map (some B)):=by rw [aA (H.aB ae ay)];exact aq);(have bk:r.drew.cell? (I J 1)=some (.string (ba A)):=by rw [aA (H.aB af az)];exact ar);have av:=ah.fr H (EP ad);obtain ⟨bb,ap,aw,aa⟩:=av.put (ba A) u (show (ba A).size<=maxLen by rw [nN];have:=(sN A am).2.2;unfold maxLen;omega) trivial X (t:=166) (e:=3) underlying166;have F:Hid (Fr (λj=>j=o\/j=B) w bb):=(H.mono (λ_ _ e=> .inl e)).trans (aa.mono (λ_ _ e=> .inr e)) zq;have bc:=lH (ag.fr aa ad);have bd:=lH aw;have bm:(Instr.mapUpdate 157 (.map (some o)) (Z u) (Y J)).run prog w=.ok () r:=ao;have bn:(Instr.mapUpdate 166 (.map (some B)) (.string (ba A)) (Z u)).run prog r.drew=.ok () bb:=ap;have bl:(Instr.lookup 157 (.map (some o)) (Z E) false).run prog r.drew=.ok (Y q) r.drew:=ab;clear ao ap ab au ag av aw ai aa H Q ah V ae aq af ar ax ay az an al ak aj bg bh am ad;go_enter func229,ntmps229;go_wp2_with fail;go_region;(all_goals go_wp2_with fail;go_end0;exact ⟨rfl,F,bc,bd⟩)
theorem C9 (p q i n) (A:i<n) (h:∀k,k≠i->q k=p k) (r:p i=false) (u:q i=true):(List.range n).countP q=(List.range n).countP p+1:=by
 (induction n with|zero=>omega|succ n ih=>rw [NG,MB,MB];by_cases e:i=n;{subst e;have:(List.range i).countP q=(List.range i).countP p:=List.countP_congr (λk o=>by rw [h k (by have:=CJ.1 o;omega)]);simp [this,r,u]};{have:=ih X;simp [this,h n (EP e)];omega})
theorem Ar (p q n) (h:∀k,k<n->q k=p k):(List.range n).countP q=(List.range n).countP p:=
 List.countP_congr (λk o=>by rw [h k (CJ.1 o)])
def free (T:Tree):Nat:=((List.range 129).find? λk=>decide (2<=k)&&(T k).isNone).getD 0
theorem Oy {T} (J:dK T) (h:things T<128):2<=free T/\free T<=128/\T (free T)=none/\∀k,2<=k->k<free T->T k≠none:=by
 cases o:(List.range 129).find? λk=>decide (2<=k)&&(T k).isNone with
 | none=>
  exfalso;have aa:=EU.1 o;have r:things T=(List.range 129).countP λk=>decide (k≠0):=Ar _ _ _ (λk A=>by
   by_cases e:k=0;{subst e;simp [J.zero]}
   ·by_cases Q:k=1;{subst Q;simp [J.root]}
    ·have:=aa k (CJ.2 A);have u:2<=k:=X
     simp [u] at this;simp [this,e,Option.isSome_iff_ne_none])
  (have u:((List.range 129).countP λk=>decide (k≠0))=128:=N);omega
 | some j=>
  (have e:free T=j:=by simp [free,o]);rw [e];have r:=KT o;simp only [BO,BV,Option.isNone_iff_eq_none] at r;have u:=CJ.1 (DF o);refine ⟨r.1,by omega,r.2,λk A ag ad=> ?_⟩;obtain ⟨_,af,ah,B,ae⟩:=List.find?_eq_some_iff_append.1 o;(have ab:k∈af:=by{have E:k∈List.range 129:=CJ.2 X;rw [B] at E;rcases BM.1 E with h|h;{exact h};{exfalso;have H:(List.range 129).Pairwise (· < ·):=List.pairwise_lt_range;rw [B] at H;have V:=(JX.1 H).2.1;rcases CB.1 h with rfl|h;{omega};{have:=(ED.1 V).1 k h;omega}}});have:=ae k ab;simp [A,ad] at this
theorem qZ {T} (A:dK T) {d k s}:kid T d s=some k↔∃b,T k=some ⟨d,s,b⟩:=by
 constructor;{intro h;obtain ⟨⟨B,n,b⟩,u,o,r⟩:=rJ h;dsimp only at o r;exact ⟨b,by rw [u,o,r]⟩};{rintro ⟨b,h⟩;exact zQ A h rfl rfl}
def grown (T:Tree) (i d:Nat) (s:List UInt8) (b:Bool):Tree:=upd T i (some ⟨d,s,b⟩)
structure oI (T:Tree) (i d:Nat) (s:List UInt8):Prop where
 ok:dK T
 two:2<=i
 most:i<=128
 new:T i=none
 dir:∃y,T d=some y/\y.dir=true
 name:eH s=true
 none:kid T d s=none
section
variable {T:Tree} {i d:Nat} {s:List UInt8} {b:Bool}
theorem oI.up (h:oI T i d s) {k x} (o:T k=some x):x.up≠i:=by
 have A:=h.two;intro e;by_cases r:k=1;{subst r;rw [h.ok.root] at o;cases o;dsimp only at e;omega};{obtain ⟨y,u,_⟩:=h.ok.up k x o r;rw [e,h.new] at u;cases u}
theorem oI.ne (h:oI T i d s):d≠i:=by
 rintro rfl;obtain ⟨y,o,_⟩:=h.dir;rw [h.new] at o;cases o
theorem oI.U9 (h:oI T i d s):dK (grown T i d s b) where
 root:=by rw [grown,bY _ _ (by have:=h.two;omega)];exact h.ok.root
 zero:=by rw [grown,bY _ _ (by have:=h.two;omega)];exact h.ok.zero
 top k hk:=by rw [grown,bY _ _ (by have:=h.most;omega)];exact h.ok.top k hk
 up k x hk h1:=by
  by_cases e:k=i
  ·subst e;rw [grown,upd_same] at hk;cases hk;obtain ⟨y,u,hd⟩:=h.dir;exact ⟨y,by rw [grown,bY _ _ h.ne];exact u,hd⟩
  ·rw [grown,bY _ _ e] at hk;obtain ⟨y,u,hd⟩:=h.ok.up k x hk h1;exact ⟨y,by rw [grown,bY _ _ (h.up hk)];exact u,hd⟩
 name k x hk h1:=by
  by_cases e:k=i
  ·subst e;rw [grown,upd_same] at hk;cases hk;exact h.name
  ·rw [grown,bY _ _ e] at hk;exact h.ok.name k x hk h1
 one j k x y hj hk h1 h2:=by
  have A:∀k z,T k=some z->¬(z.up=d/\z.name=s):=λk z B=>Yb h.none k (by have:=h.ok.lt B;omega) z B;by_cases o:j=i<;>by_cases r:k=i
  ·rw [o,r]
  ·subst o;rw [grown,upd_same] at hj;rw [grown,bY _ _ r] at hk;cases hj;exact absurd ⟨h1.symm,h2.symm⟩ (A k y hk)
  ·subst r;rw [grown,upd_same] at hk;rw [grown,bY _ _ o] at hj;cases hk;exact absurd ⟨h1,h2⟩ (A j x hj)
  ·rw [grown,bY _ _ o] at hj;rw [grown,bY _ _ r] at hk;exact h.ok.one j k x y hj hk h1 h2
theorem oI.kid (h:oI T i d s) (e z):kid (grown T i d s b) e z=if e=d/\z=s then some i else kid T e z:=by
 apply Option.ext;intro k;rw [qZ h.U9];by_cases A:e=d/\z=s;{obtain ⟨rfl,rfl⟩:=A;rw [AL ⟨rfl,rfl⟩];constructor;{rintro ⟨r,o⟩;by_cases u:k=i;{rw [u]};{rw [grown,bY _ _ u] at o;have:=(qZ h.ok).2 ⟨r,o⟩;rw [h.none] at this;cases this}};{intro B;cases B;exact ⟨b,upd_same _ _ _⟩}};{rw [AA A,qZ h.ok];constructor;{rintro ⟨r,o⟩;by_cases u:k=i;{subst u;rw [grown,upd_same] at o;cases o;exact absurd ⟨rfl,rfl⟩ A};{rw [grown,bY _ _ u] at o;exact ⟨r,o⟩}};{rintro ⟨r,o⟩;refine ⟨r,?_⟩;rw [grown,bY];{exact o};{rintro rfl;rw [h.new] at o;cases o}}}
theorem oI.bI (h:oI T i d s) (e):bI (grown T i d s b) e=if e=d then bI T e+1 else bI T e:=by
 by_cases o:e=d;{subst o;rw [AL rfl];refine C9 _ _ i 129 (by have:=h.most;omega) (λk u=> ?_) ?_ ?_;{simp only [grown,bY _ _ u]};{simp [h.new]};{simp [grown,upd_same]}};{rw [AA o];refine Ar _ _ _ (λk _=> ?_);by_cases r:k=i;{subst r;simp [grown,upd_same,h.new,EP o]};{simp only [grown,bY _ _ r]}}
theorem oI.things (h:oI T i d s):things (grown T i d s b)=things T+1:=by
 refine C9 _ _ i 129 (by have:=h.most;omega) (λk o=> ?_) ?_ ?_;{simp only [grown,bY _ _ o]};{simp [h.new]};{simp [grown,upd_same]}
theorem aBr (h:oI T i d s):bI (grown T i d s b) i=0/\∀z,YtedcppikakinoaaGreat.kid (grown T i d s b) i z=none:=by
 have u:∀z,YtedcppikakinoaaGreat.kid T i z=none:=λz=>by
  (cases r:YtedcppikakinoaaGreat.kid T i z with|none=>rfl|some k=>obtain ⟨x,o,hu,_⟩:=rJ r;exact absurd hu (h.up o))
 refine ⟨?_,λz=>by rw [h.kid,AA (λe=>h.ne e.1.symm),u]⟩;rw [h.bI,AA (EP h.ne)];refine List.countP_eq_zero.2 (λk r=> ?_);(cases o:T k with|none=>simp|some x=>simpa using h.up o)
end
theorem eG.dir {w r K k p n x m} (h:rW w r K k p x n m) (hd:x.dir=true):
  ∃o,r o=K+2000+k/\w.heap[p]? =some (.cells #[x.up,(ba x.name),true,.map (some o)] 168 (0,0))/\MapAt encS w o n m/\r p=K+1000+k:=by
 obtain ⟨up,H,dir⟩:=x;dsimp only at hd;subst hd;obtain ⟨u,o,A,B,E⟩:=h;exact ⟨o,A,B,E,u⟩
def NewAt (w:World) (p ib d:Nat) (s:List UInt8) (b:Bool):Prop:=match b with
 | true=>w.heap[p]? =some (.cells #[d,(ba s),true,.map (some ib)] 168 (0,0))/\MapAt encS w ib 0 (λ_=>none)/\p≠ib
 | false=>w.heap[p]? =some (.cells #[d,(ba s),false,.map none] 168 (0,0))
def xX (o:Nat->Nat) (K i p ib:Nat) (b:Bool):Nat->Nat:=match b with
 | true=>fZ (fZ o p (K+1000+i)) ib (K+2000+i)
 | false=>fZ o p (K+1000+i)
theorem aCh (T i d s b u p):dC (grown T i d s b) (upd u i p)=λz=>if z=(i:Int) then some p else dC T u z:=by
 funext z;by_cases r:z=(i:Int);{subst r;simp [dC,grown,upd_same]};{rw [AA r];unfold dC;by_cases o:0<=z;{rw [AL o,AL o,grown,bY,bY];{omega};{omega}};{rw [AA o,AA o]}}
theorem aA7 {T i d s b} (h:oI T i d s):bQ (grown T i d s b) d=λz=>if z=ba s then some (i:Int) else bQ T d z:=by
 funext z;unfold bQ;rw [h.kid];by_cases o:z=ba s;{subst o;simp [mM]};{rw [AA o,AA];rintro ⟨_,e⟩;exact o (by rw [<-e,tZ])}
theorem eG.grow {w w' o K t B i d p A jb E T s b y} (h:oI T i d s) (aa:aF w o) (aj:o t=K+3) (ag:w.heap[t]? =some (.cells #[.map (some B)] 159 (0,0))) (ai:o B=K+4) (M:MapAt encI w B (YtedcppikakinoaaGreat.things T) (dC T E)) (ab:∀k x,T k=some x->rW w o K k (E k) x (YtedcppikakinoaaGreat.bI T k) (bQ T k)) (ad:T d=some y) (ae:y.dir=true) (ah:o A=K+2000+d) (af:w.heap[E d]? =some (.cells #[y.up,(ba y.name),true,.map (some A)] 168 (0,0))) (f:Fr (λj=>j=B\/j=A) w w') (ak:MapAt encI w' B (YtedcppikakinoaaGreat.things T+1) (λz=>if z=(i:Int) then some p else dC T E z)) (al:MapAt encS w' A (YtedcppikakinoaaGreat.bI T d+1) (λz=>if z=ba s then some (i:Int) else bQ T d z)) (ay:w.heap.size<=p) (ap:b=true->w.heap.size<=jb) (N:NewAt w' p jb d s b) (aq:b=true->jb<w'.heap.size) (az:p<w'.heap.size):
  Step (λc=>c=K+4\/c=K+2000+d) w o w' (xX o K i p jb b)/\eG w' (xX o K i p jb b) K t (grown T i d s b):=by
 have ar:∀k,k<w.heap.size->xX o K i p jb b k=o k:=λk r=>by
  (cases b with|false=>exact dS _ _ X|true=>have:=ap rfl;show fZ (fZ o p _) jb _ k=_;rw [dS _ _ X,dS _ _ X])
 (have u:Step (λc=>c=K+4\/c=K+2000+d) w o w' (xX o K i p jb b):=by{refine ⟨f.mono (λk _ e=> ?_),ar,λk r=> ?_⟩;{rcases e with rfl|rfl;{exact .inl ai};{exact .inr ah}};{have Q:=aa k (AV f.size r);(cases b with|false=>rw [show xX o K i p jb false=fZ o p (K+1000+i) from rfl,dS _ _ X];exact Q|true=>have:=aq rfl;rw [show xX o K i p jb true=fZ (fZ o p (K+1000+i)) jb (K+2000+i) from rfl,dS _ _ X,dS _ _ X];exact Q)}});refine ⟨u,B,upd E i p,(u.own ag).trans aj,u.block ag (by rw [aj];omega),(u.old B M.lt).trans ai,?_,λk x r=> ?_⟩;{rw [aCh,h.things];exact ak}
 ·by_cases J:k=i;{subst J;rw [grown,upd_same] at r;(cases r;rw [upd_same];obtain ⟨am,an⟩:=aBr h (b:=b);have ao:bQ (grown T k d s b) k=λ_=>none:=by{funext z;unfold bQ;rw [an];rfl});rw [am,ao];(cases b with|false=>exact ⟨mF _ _ _,N⟩|true=>obtain ⟨au,av,aw⟩:=N;exact ⟨by show fZ (fZ o p _) jb _ p=_;rw [dS _ _ aw,mF],jb,mF _ _ _,au,av⟩)}
  ·rw [grown,bY _ _ J] at r;rw [bY _ _ J];have ax:=h.ok.lt r;by_cases H:k=d
   ·subst H;rw [ad] at r;cases r;have V:=(ab k y ad).1;rw [h.bI,AL rfl,aA7 h];have e:rW w' (xX o K i p jb b) K k (E k) y (YtedcppikakinoaaGreat.bI T k+1) (λz=>if z=ba s then some (i:Int) else bQ T k z):=by
     obtain ⟨up,bb,dir⟩:=y;dsimp only at ae;subst ae;exact ⟨(u.own af).trans V,A,(u.old A (by
      rcases BK A w.heap.size with h|h;{exact h}
      ·have:=aa A h;omega)).trans ah,u.block af (by rw [V];omega),al⟩
    exact e
   {rw [h.bI,AA H];(have e:bQ (grown T i d s b) k=bQ T k:=by{funext z;unfold bQ;rw [h.kid,AA (λe=>H e.1)]});rw [e];exact (ab k x r).step u X X}
theorem aCv (n:Int) (s:ByteArray) (w:World):Calls prog 101 #[n,s] w λe w'=>e=.returned (Y (w.heap.size+1))/\w'=(w.alloc (.map #[] 0)).alloc (.cells #[n,s,true,.map (some w)] 168):=by
 have o:= @run_makeMap prog;go_enter func101,ntmps101;go_wp2;go_ret;exact ⟨rfl,rfl⟩
theorem X6 {T:Tree} (u:dK T) {o:List (List UInt8)} (h:(seen T o).1=0):∃x,T (seen T o).2.1=some x/\x.dir=(seen T o).2.2:=by
 unfold seen at h ⊢;by_cases r:(bP T 1 o).1=0;{rw [AL r] at h ⊢;rcases Gz u (e:=(bP T 1 o).1) (j:=(bP T 1 o).2) ⟨_,u.root⟩ rfl with ⟨_,x,A⟩|⟨B,_⟩;{exact ⟨x,A,by simp [isDir,A]⟩};{exact absurd r B}};{rw [AA r] at h;exact absurd h r}
theorem yQ {T:Tree} (E:dK T) {l:List UInt8} (h:(placeOf T l).1=0):(∃y,T (placeOf T l).2.1=some y/\y.dir=true)/\eH (placeOf T l).2.2=true:=by
 unfold placeOf at h ⊢;split at h;{cases h};{cases h};{rename_i p u B;have A:=(sU l _ B).1;unfold stands at h ⊢;by_cases o:(seen T (p::u).dropLast).1=0;{rw [AL o] at h ⊢;obtain ⟨x,H,hd⟩:=X6 E o;(cases r:(seen T (p::u).dropLast).2.2 with|true=>rw [r] at hd;exact ⟨⟨x,H,hd⟩,A _ (List.getLast_mem _)⟩|false=>rw [r] at h;cases h)};{rw [AA o] at h;exact absurd h o}}
def bV (T:Tree) (l:List UInt8):Int×Nat:=
 if l= [47] then (7,0) else if (placeOf T l).1≠0 then ((placeOf T l).1,0) else if (kid T (placeOf T l).2.1 (placeOf T l).2.2).isSome=true then (7,0) else if 128<=things T then (5,0) else (0,free T)
def gX (T:Tree) (l:List UInt8) (b:Bool):Tree:=if (bV T l).1=0 then grown T (free T) (placeOf T l).2.1 (placeOf T l).2.2 b else T
theorem Dw {T:Tree} (r:dK T) {l:List UInt8} (h:(bV T l).1=0):oI T (free T) (placeOf T l).2.1 (placeOf T l).2.2:=by
 unfold bV at h;split at h;{cases h};{split at h;{rename_i o;exact absurd h o};{rename_i o;split at h;{cases h};{rename_i H;split at h;{cases h};{rename_i V;obtain ⟨u,A,B,_⟩:=Oy r X;have E:=Decidable.not_not.1 o;obtain ⟨J,Q⟩:=yQ r E;exact ⟨r,u,A,B,J,Q,by simpa using H⟩}}}}
theorem E8 {T:Tree} (o:dK T) (l:List UInt8) (b:Bool):dK (gX T l b):=by
 unfold gX;split;{rename_i h;exact (Dw o h).U9};{exact o}
def wI (w:World) (o:Nat->Nat) (K t:Nat) (T:Tree) (l:List UInt8) (b:Bool) (e:Ending) (w':World):Prop:=
 e=.returned (.tuple #[.int .i64 (bV T l).2,.int .i64 (bV T l).1])/\∃o',Step (dM K) w o w' o'/\eG w' o' K t (gX T l b)
theorem aBj (A:Nat->Nat) (K t:Nat) (T:Tree) (l:List UInt8) (b:Bool) (w:World) (ae:l.length<=1000000) (h:eG w A K t T) (J:dK T) (ak:aF w A):
  Calls prog 156 #[Y t,(ba l),b] w (wI w A K t T l b):=by
 have V:=lH h;have au:=lH J;have al:=lH ak;by_cases ab:l= [47]
 ·have u:bV T l=(7,0):=AL ab;have bc:Hid (∀e w',e=.returned (.tuple #[Z 0,Z 7])->Fr No w w'->wI w A K t T l b e w'):=λe w' Q f=>⟨by rw [Q,u];rfl,A,Step.no ak f,by
   have:gX T l b=T:=(by unfold gX;rw [u];rfl)
   rw [this];exact h.no J ak f⟩
  (have dw:((ba l).toList== [47])=true:=by rw [lG,ab];rfl);clear h J ak ab ae u;generalize wI w A K t T l b=dk at*;go_enter func156,ntmps156;go_wp2_with fail;refine cr (yF _ A K t T V) ?_;rintro cn rfl;exact aC (bc.o _ _ rfl (Fr.refl _))
 ·(have dw:((ba l).toList== [47])=false:=by rw [lG];simpa using ab);have bo:=lH (Yo A K t T l w ae h J ak);have u:bV T l=if (placeOf T l).1≠0 then ((placeOf T l).1,0) else if (kid T (placeOf T l).2.1 (placeOf T l).2.2).isSome=true then (7,0) else if 128<=things T then (5,0) else (0,free T):=AA ab
  have cf:=lH (Dw (l:=l) J);have cg:Hid (gX T l b=if (bV T l).1=0 then grown T (free T) (placeOf T l).2.1 (placeOf T l).2.2 b else T):=lH rfl;have bk:=yQ (l:=l) J;generalize placeOf T l=P at*;obtain ⟨bv,o,r⟩:=P;have bc:Hid (∀bw,bw≠0->bV T l=(bw,0)->∀e w',e=.returned (.tuple #[Z 0,bw])->Fr No w w'->wI w A K t T l b e w'):=λbw ax u e w' Q f=>⟨by rw [Q,u];rfl,A,Step.no ak f,by
   have:gX T l b=T:=(by unfold gX;rw [u,AA ax])
   rw [this];exact h.no J ak f⟩
  have ct:Hid (∀i e w',bV T l=(0,i)->e=.returned (.tuple #[i,Z 0])->(∃dc,Step (dM K) w A w' dc/\eG w' dc K t (gX T l b))->wI w A K t T l b e w'):=λi e w' u Q cd=>⟨by rw [Q,u],cd⟩;generalize dm:wI w A K t T l b=dk at*;clear dm;clear h ab ae ak;by_cases Q:bv=0
  ·subst Q;obtain ⟨⟨y,ay,ce⟩,bj⟩:=bk rfl;rw [AA (by simp)] at u;dsimp only at u ay bj cf cg;have bb:=lH bj;have aa:=lH ay;have bd:=lH ce;cases ad:kid T o r with
   | some j=>
    rw [ad] at u;have ah:=lH u;have az:=lH ad;clear ad u bk J ay ce bj;go_enter func156,ntmps156;go_wp2_with fail;refine cr (yF _ A K t T V) ?_;rintro cn rfl;go_wp2_with fail;refine cr bo.o λE H=> ?_;obtain ⟨ag,B,be⟩:=(V.o.no au al H).reads au.o;have R:=be E (Fr.refl _);have bf:=R.ct;have ae:=R.look o y aa.o;obtain ⟨ao,dl,bi⟩:=R.kids o y aa bd.o;have an:=bi r bb.o;rw [az.o] at an;clear R be bi;exact aC (bc.o 7 G ah _ _ rfl H)
   | none=>
    rw [ad] at u;simp only [Option.isSome_none,DT,GG] at u;have az:=lH ad;by_cases cb:128<=things T;{have ah:Hid (bV T l=(5,0)):=lH (by rw [u,AL cb]);have dd:(128:Int)<=(things T:Int):=X;clear ad u bk J ay ce bj cb;go_enter func156,ntmps156;go_wp2_with fail;refine cr (yF _ A K t T V) ?_;rintro cn rfl;go_wp2_with fail;refine cr bo.o λE H=> ?_;obtain ⟨ag,B,bx,aw,bz,aj,bg⟩:=V.o.no au al H;have dp:=λcm=>aj.len (t:=157) (e:=169) underlying157 cm;obtain ⟨dv,eh,be⟩:=(V.o.no au al H).reads au.o;have R:=be E (Fr.refl _);have bf:=R.ct;(obtain rfl:dv=ag:=by{have:=(aA aw 0).symm.trans bf;simp at this;exact this.symm});have ae:=R.look o y aa.o;obtain ⟨ao,dl,bi⟩:=R.kids o y aa bd.o;have an:=bi r bb.o;rw [az.o] at an;clear R be bi bx aw bz aj bg;exact aC (bc.o 5 G ah _ _ rfl H)}
    ·(have ca:bV T l=(0,free T):=by rw [u,AA cb]);have ah:=lH ca;have df:=lH (cf.o (by rw [ca]));have cp:Hid (gX T l b=grown T (free T) o r b):=lH (by rw [cg.o,ca];rfl);have bn:=lH (Oy J X);have dd:¬(128:Int)<=(things T:Int):=X;have ef:things T<128:=X;have cy:bI T o<1000:=Nat.lt_of_le_of_lt (JM) (by rw [JA];omega);have dy:=J.lt ay;clear ad u bk J ay ce bj cb ca cf cg;go_enter func156,ntmps156;go_wp2_with fail;refine cr (yF _ A K t T V) ?_;rintro cn rfl;go_wp2_with fail;refine cr bo.o λE H=> ?_;have cv:aF E A:=λk ad=>al.o k (AV H.size ad);obtain ⟨ag,B,bx,aw,bz,aj,bg⟩:=V.o.no au al H;obtain ⟨ao,da,cj,ck,eg⟩:=eG.dir (bg o y aa) bd.o;have dp:=λcm=>aj.len (t:=157) (e:=169) underlying157 cm;have bf:E.cell? (I t 0)=some (.map (some ag)):=(by rw [aA aw];rfl);have c3:E.cell? (I (B o) 3)=some (.map (some ao)):=(by rw [aA cj];rfl)
     have ae:=aj.look (o:Int) (by unfold encI I64;dsimp only;omega) (t:=157) (e:=169) underlying157 (z:=.pointer none) N false;rw [show dC T B (o:Int)=some (B o) by simp [dC,aa.o]] at ae;have af:∀j:Nat,j<=128->(Instr.lookup 157 (.map (some ag)) (Z j) false).run prog E=.ok (match dC T B j with|some p=> .pointer (some (I p 0))|none=> .pointer none) E:=λj ec=>by
      have:=aj.look (j:Int) (by unfold encI I64;dsimp only;omega) (t:=157) (e:=169) underlying157 (z:=.pointer none) N false;cases du:dC T B j<;>rw [du] at this<;>exact this
     have dg:=lH af;have an:=ck.look (ba r) (show (ba r).size<=maxLen by rw [nN];have:=(sN r bb).2.2;unfold maxLen;omega) (t:=166) (e:=3) underlying166 (z:=Z 0) N true;rw [show bQ T o (ba r)=none by simp [bQ,mM,az.o]] at an;have cz:(Instr.lookup 157 (.map (some ag)) (Z o) false).run prog E=.ok (Y (B o)) E:=ae;have cx:(Instr.lookup 166 (.map (some ao)) (.string (ba r)) true).run prog E=.ok (.tuple #[Z 0,false]) E:=an;have bl:=lH aw;have ar:=lH aj;have co:=lH bg;have bp:=lH cj;have bq:=lH ck;clear ae an aw aj bg cj ck af;go_wp2_with fail;go_loopw [13] (λa wr=>∃j:Nat,a=Z j/\2<=j/\j<=free T/\wr=E) (λa _=>free T - (intOf a).toNat);case atStart=>exact ⟨2,rfl,AU _,bn.o.1,rfl⟩
     case round=>
      obtain ⟨j,rfl,dn,ed,rfl⟩:=hrel;have dz:=bn.o.2.1;have af:=dg.o j X;by_cases dq:j<free T;{obtain ⟨x,cd⟩:=Option.ne_none_iff_exists'.1 (bn.o.2.2.2 j dn dq);rw [show dC T B (j:Int)=some (B j) by simp [dC,cd]] at af;dsimp only at af;clear cd;go_wp2_with fail;go_roundw;{exact ⟨j+1,by go_num,by omega,by omega,trivial⟩};simp [intOf];omega}
      ·(obtain rfl:j=free T:=by omega);rw [show dC T B ((free T:Nat):Int)=none by simp [dC,bn.o.2.2.1]] at af;dsimp only at af;generalize cw:free T=fr at*;have ea:2<=fr:=X;have bm:=lH df.o;have am:Fr No wr (wr.alloc (.cells #[o,(ba r),false,.map none] 168)):=(Fr.refl wr).alloc _;(have ax:ag≠ao:=by{rintro rfl;omega});have cc:(o:Int)≠(fr:Int):=(by have:=bm.o.ne;omega);have br:dC T B (fr:Int)=none:=(by simp [dC,bm.o.new]);have bt:bQ T o (ba r)=none:=(by simp [bQ,mM,az.o]);have bu:dC T B (o:Int)=some (B o):=(by simp [dC,aa.o])
       cases b with
       | false=>
        have ch:=lH (Jz t ag (B o) ao wr (things T) (bI T o) o fr r (dC T B) (bQ T o) (wr.alloc _)
         (am.aB bl.o id) (ar.o.fr am id) (by unfold I64;omega) (by unfold I64;omega) X cy cc bu (am.aB bp.o id) rfl (bq.o.fr am id) ax (aT wr _) rfl bb.o)
        clear am ax cc cw;go_wp2_with fail;refine cr ch.o ?_;rintro dx ⟨ai,ap,aq⟩;rw [br] at ap;rw [bt] at aq;have bh:=eG.grow (b:=false) (jb:=0) bm cv bx bl bz ar co aa bd da bp (((Fr.refl wr).alloc _).bC.trans ai zq) ap aq (AU _) (by simp)
         (show _=_ from ai.aB (aT wr _) (by
           have:=ar.o.lt;have:=bq.o.lt;omega)) (by simp) (by have:=ai.size;simp at this;omega)
        clear ap aq br bt bu bf c3 af cz cx;go_wp2_with fail;refine ct.o fr _ _ ah rfl ?_;rw [cp.o];exact ⟨_,(Step.no al H).trans (bh.1.mono (D:=dM K) (λc ci=>by
         rcases ci with rfl|rfl;{exact .inr (.inl rfl)}
         ·exact .inr (.inr X))) (λ_ e=>e),bh.2⟩
       | true=>
        have cu:Fr No wr ((wr.alloc (.cells #[o,(ba r),false,.map none] 168)).alloc (.map #[] 0)):=am.alloc _;have av:Fr No wr (((wr.alloc (.cells #[o,(ba r),false,.map none] 168)).alloc (.map #[] 0)).alloc (.cells #[o,(ba r),true,.map (some (wr.heap.size+1))] 168)):=cu.alloc _;(have cl:(((wr.alloc (.cells #[o,(ba r),false,.map none] 168)).alloc (.map #[] 0)).alloc (.cells #[o,(ba r),true,.map (some (wr.heap.size+1))] 168)).heap[wr.heap.size+1+1]? =some (.cells #[o,(ba r),true,.map (some (wr.heap.size+1))] 168 (0,0)):=by{simpa using aT ((wr.alloc (.cells #[o,(ba r),false,.map none] 168)).alloc (.map #[] 0)) (.cells #[o,(ba r),true,.map (some (wr.heap.size+1))] 168)});have db:MapAt encS (((wr.alloc (.cells #[o,(ba r),false,.map none] 168)).alloc (.map #[] 0)).alloc (.cells #[o,(ba r),true,.map (some (wr.heap.size+1))] 168)) (wr.heap.size+1) 0 (λ_=>none):=by{have ab:=MapAt.made encS (wr.alloc (.cells #[o,(ba r),false,.map none] 168));rw [show (wr.alloc _).heap.size=wr.heap.size+1 by simp] at ab;exact ab.fr ((Fr.refl (S:=No) _).alloc _) id}
        have ch:=lH (Jz t ag (B o) ao (wr.heap.size+1+1) (things T) (bI T o) o fr r (dC T B) (bQ T o) _
         (av.aB bl.o id) (ar.o.fr av id) (by unfold I64;omega) (by unfold I64;omega) X cy cc bu (av.aB bp.o id) rfl (bq.o.fr av id) ax cl rfl bb.o)
        have ds:=(((Fr.refl (S:=No) wr).alloc (.cells #[o,(ba r),false,.map none] 168)).alloc (.map #[] 0)).size;have dj:=lH cl;have di:=lH db;have de:=lH av;have dt:Hid ((((wr.alloc (.cells #[o,(ba r),false,.map none] 168)).alloc (.map #[] 0)).alloc (.cells #[o,(ba r),true,.map (some (wr.heap.size+1))] 168)).heap.size=wr.heap.size+1+1+1):=lH (by simp);clear am cu av cl db cc cw ds;go_wp2_with fail;refine cq (aCv _ _ _) ?_;rw [show (wr.alloc _).heap.size=wr.heap.size+1 by simp];go_wp2_with fail;refine cr ch.o ?_;rintro dx ⟨ai,ap,aq⟩;rw [br] at ap;rw [bt] at aq;have ee:=ar.o.lt;have eb:=bq.o.lt;have dr:=ai.size;rw [dt.o] at dr;have bh:=eG.grow (b:=true) (jb:=wr.heap.size+1) bm cv bx bl bz ar co aa bd da bp (de.o.bC.trans ai zq) ap aq (p:=wr.heap.size+1+1) X (λ_=>by omega)
         (show _/\_/\_ from ⟨ai.aB dj.o X,di.o.fr ai X,by omega⟩) (λ_=>by omega) X
        clear ap aq br bt bu bf c3 af cz cx ax;go_wp2_with fail;refine ct.o fr _ _ ah rfl ?_;rw [cp.o];exact ⟨_,(Step.no al H).trans (bh.1.mono (D:=dM K) (λc ci=>by
         rcases ci with rfl|rfl;{exact .inr (.inl rfl)}
         ·exact .inr (.inr X))) (λ_ e=>e),bh.2⟩
  {have ah:Hid (bV T l=(bv,0)):=lH (by rw [u,AL Q]);have dh:=lH Q;have dd:(bv==0)=false:=(U Q);clear Q u bk J;go_enter func156,ntmps156;go_wp2_with fail;refine cq (yF _ A K t T V) ?_;go_wp2_with fail;refine cr bo.o λE H=> ?_;exact aC (bc.o bv dh ah _ _ rfl H)}
def dI (T:Tree) (i:Nat):Tree:=upd T i none
structure sG (T:Tree) (i:Nat) (x:Node):Prop where
 ok:dK T
 is:T i=some x
 ne:i≠1
 bare:x.dir=true->bI T i=0
section
variable {T:Tree} {i:Nat} {x:Node}
theorem sG.up (h:sG T i x) {k z} (o:T k=some z):z.up≠i:=by
 have B:=h.ok.lt h.is;intro e;by_cases r:k=1;{subst r;rw [h.ok.root] at o;cases o;dsimp only at e;omega};{obtain ⟨y,u,hd⟩:=h.ok.up k z o r;rw [e,h.is] at u;cases u;have A:=List.countP_eq_zero.1 (h.bare hd) k (CJ.2 (by have:=h.ok.lt o;omega));simp [o,e] at A}
theorem sG.Vy (h:sG T i x):dK (dI T i) where
 root:=by rw [dI,bY _ _ (EP h.ne)];exact h.ok.root
 zero:=by rw [dI,bY _ _ (by have:=h.ok.lt h.is;omega)];exact h.ok.zero
 top k hk:=by rw [dI,bY _ _ (by have:=h.ok.lt h.is;omega)];exact h.ok.top k hk
 up k z hk h1:=by
  by_cases e:k=i
  ·subst e;rw [dI,upd_same] at hk;cases hk
  ·rw [dI,bY _ _ e] at hk;obtain ⟨y,u,hd⟩:=h.ok.up k z hk h1;exact ⟨y,by rw [dI,bY _ _ (h.up hk)];exact u,hd⟩
 name k z hk h1:=by
  by_cases e:k=i
  ·subst e;rw [dI,upd_same] at hk;cases hk
  ·rw [dI,bY _ _ e] at hk;exact h.ok.name k z hk h1
 one j k y z hj hk h1 h2:=by
  by_cases o:j=i
  ·subst o;rw [dI,upd_same] at hj;cases hj
  ·by_cases r:k=i
   ·subst r;rw [dI,upd_same] at hk;cases hk
   ·rw [dI,bY _ _ o] at hj;rw [dI,bY _ _ r] at hk;exact h.ok.one j k y z hj hk h1 h2
theorem Qa (h:sG T i x) (e z):kid (dI T i) e z=if e=x.up/\z=x.name then none else kid T e z:=by
 apply Option.ext;intro k;rw [qZ h.Vy];by_cases A:e=x.up/\z=x.name;{obtain ⟨rfl,rfl⟩:=A;rw [AL ⟨rfl,rfl⟩];constructor;{rintro ⟨u,o⟩;by_cases r:k=i;{subst r;rw [dI,upd_same] at o;cases o};{rw [dI,bY _ _ r] at o;exact absurd (h.ok.one k i _ x o h.is rfl rfl) r}};{intro B;cases B}};{rw [AA A,qZ h.ok];constructor;{rintro ⟨u,o⟩;by_cases r:k=i;{subst r;rw [dI,upd_same] at o;cases o};{rw [dI,bY _ _ r] at o;exact ⟨u,o⟩}};{rintro ⟨u,o⟩;refine ⟨u,?_⟩;rw [dI,bY];{exact o};{rintro rfl;rw [h.is] at o;cases o;exact A ⟨rfl,rfl⟩}}}
theorem Y5 (h:sG T i x) (e):bI T e=if e=x.up then bI (dI T i) e+1 else bI (dI T i) e:=by
 by_cases o:e=x.up;{subst o;rw [AL rfl];refine C9 _ _ i 129 (by have:=h.ok.lt h.is;omega) (λk u=> ?_) ?_ ?_;{simp only [dI,bY _ _ u]};{simp [dI,upd_same]};{simp [h.is]}};{rw [AA o];refine Ar _ _ _ (λk _=> ?_);by_cases r:k=i;{subst r;simp [dI,upd_same,h.is,EP o]};{simp only [dI,bY _ _ r]}}
theorem aEC (h:sG T i x):things T=things (dI T i)+1:=by
 refine C9 _ _ i 129 (by have:=h.ok.lt h.is;omega) (λk o=> ?_) ?_ ?_;{simp only [dI,bY _ _ o]};{simp [dI,upd_same]};{simp [h.is]}
theorem aFt (T i u):dC (dI T i) u=λz=>if z=(i:Int) then none else dC T u z:=by
 funext z;by_cases r:z=(i:Int);{subst r;simp [dC,dI,upd_same]};{rw [AA r];unfold dC;by_cases o:0<=z;{rw [AL o,AL o,dI,bY];omega};{rw [AA o,AA o]}}
theorem aFk (h:sG T i x):bQ (dI T i) x.up=λz=>if z=ba x.name then none else bQ T x.up z:=by
 funext z;unfold bQ;rw [Qa h];by_cases o:z=ba x.name;{subst o;simp [mM]};{rw [AA o,AA];rintro ⟨_,e⟩;exact o (by rw [<-e,tZ])}
end
theorem eG.shrink {w w' o K t u i A E T x y} (h:sG T i x) (ak:aF w o) (ag:o t=K+3) (am:w.heap[t]? =some (.cells #[.map (some u)] 159 (0,0))) (af:o u=K+4) (ao:u<w.heap.size) (aa:∀k x,T k=some x->rW w o K k (E k) x (bI T k) (bQ T k)) (ab:T x.up=some y) (ad:y.dir=true) (ae:o A=K+2000+x.up) (al:w.heap[E x.up]? =some (.cells #[y.up,(ba y.name),true,.map (some A)] 168 (0,0))) (f:Fr (λj=>j=u\/j=A) w w') (ah:MapAt encI w' u (things T - 1) (λz=>if z=(i:Int) then none else dC T E z)) (ai:MapAt encS w' A (bI T x.up - 1) (λz=>if z=ba x.name then none else bQ T x.up z)):
  Step (λc=>c=K+4\/c=K+2000+x.up) w o w' o/\eG w' o K t (dI T i):=by
 (have B:Step (λc=>c=K+4\/c=K+2000+x.up) w o w' o:=by{refine ⟨f.mono (λk _ e=> ?_),λ_ _=>rfl,λk r=>ak k (AV f.size r)⟩;rcases e with rfl|rfl;{exact .inl af};{exact .inr ae}});refine ⟨B,u,E,ag,B.block am (by rw [ag];omega),af,?_,λk z r=> ?_⟩;{rw [aFt,show things (dI T i)=things T - 1 by rw [aEC h];rfl];exact ah};{by_cases Q:k=i;{subst Q;rw [dI,upd_same] at r;cases r};{rw [dI,bY _ _ Q] at r;have an:=h.ok.lt r;by_cases J:k=x.up;{subst J;rw [ab] at r;(cases r;have V:=(aa x.up y ab).1;have H:bI (dI T i) x.up=bI T x.up - 1:=(by rw [Y5 h x.up,AL rfl];rfl));rw [H,aFk h];obtain ⟨up,ap,dir⟩:=y;dsimp only at ad;subst ad;exact ⟨V,A,ae,B.block al (by rw [V];omega),ai⟩};{(have H:bI (dI T i) k=bI T k:=by rw [Y5 h k,AA J]);(have aj:bQ (dI T i) k=bQ T k:=by{funext z;unfold bQ;rw [Qa h,AA (λe=>J e.1)]});rw [H,aj];exact (aa k z r).step B X X}}}
def bM (T:Tree) (l:List UInt8) (b:Bool):Int×Nat:=
 if (lookOf T l).1≠0 then ((lookOf T l).1,0) else if (lookOf T l).2.1=1 then (8,0) else if b=true/\(lookOf T l).2.2=false then (10,0) else if b=false/\(lookOf T l).2.2=true then (9,0)
 else if (lookOf T l).2.2=true/\0<bI T (lookOf T l).2.1 then (11,0) else (0,(lookOf T l).2.1)
def fJ (T:Tree) (l:List UInt8) (b:Bool):Tree:=if (bM T l b).1=0 then dI T (bM T l b).2 else T
theorem look_ok {T} (o:dK T) {l} (h:(lookOf T l).1=0):∃x,T (lookOf T l).2.1=some x/\x.dir=(lookOf T l).2.2:=by
 unfold lookOf at h ⊢;split at h;{cases h};{exact X6 o h}
def zX (w:World) (o:Nat->Nat) (K t:Nat) (T:Tree) (l:List UInt8) (b:Bool) (e:Ending) (w':World):Prop:=
 e=.returned (.tuple #[.int .i64 (bM T l b).2,.int .i64 (bM T l b).1])/\∃o',Step (dM K) w o w' o'/\eG w' o' K t (fJ T l b)
theorem aBZ (an K t T l) (b:Bool) (w) (V:l.length<=1000000) (h:eG w an K t T) (J:dK T) (bo:aF w an):
  Calls prog 159 #[Y t,(ba l),b] w (zX w an K t T l b):=by
 have bw:=lH h;have bi:=lH J;have ar:=lH bo;have ap:=lH (xG an K t T l w V h J bo);have u:bM T l b=if (lookOf T l).1≠0 then ((lookOf T l).1,0) else if (lookOf T l).2.1=1 then (8,0) else if b=true/\(lookOf T l).2.2=false then (10,0) else if b=false/\(lookOf T l).2.2=true then (9,0)
  else if (lookOf T l).2.2=true/\0<bI T (lookOf T l).2.1 then (11,0) else (0,(lookOf T l).2.1):=rfl
 have az:=look_ok (l:=l) J;generalize lookOf T l=P at*;obtain ⟨bv,k,is⟩:=P;have bh:Hid (∀ab,ab≠0->bM T l b=(ab,0)->∀e w',e=.returned (.tuple #[Z 0,ab])->Fr No w w'->zX w an K t T l b e w'):=λab am u e w' ak f=>⟨by rw [ak,u];rfl,an,Step.no bo f,by
  have:fJ T l b=T:=by unfold fJ;rw [u,AA am]
  rw [this];exact h.no J bo f⟩
 have ce:Hid (∀i e w',bM T l b=(0,i)->e=.returned (.tuple #[i,Z 0])->(∃cp,Step (dM K) w an w' cp/\eG w' cp K t (fJ T l b))->zX w an K t T l b e w'):=λi e w' u ak aa=>⟨by rw [ak,u],aa⟩;generalize cv:zX w an K t T l b=db at*;clear cv h V bo;dsimp only at u az ap;by_cases ak:bv=0
 ·subst ak;obtain ⟨x,aa,bb⟩:=az rfl;rw [AA (by simp)] at u;by_cases bq:k=1;{subst bq;have ae:Hid (bM T l b=(8,0)):=lH (by rw [u,AL rfl]);clear u az aa bb J;go_enter func159,ntmps159;go_wp2_with fail;refine cr ap.o λo A=> ?_;exact aC (bh.o 8 G ae _ _ rfl A)}
  ·rw [AA bq] at u;have df:((k:Int)==1)=false:=(by rw [CU];omega);by_cases ay:b=is
   ·subst ay;rw [AA (by rintro ⟨aw,E⟩;rw [aw] at E;cases E),AA (by rintro ⟨aw,E⟩;rw [aw] at E;cases E)] at u;by_cases aq:b=true/\0<bI T k;{obtain ⟨rfl,aq⟩:=aq;have ae:Hid (bM T l true=(11,0)):=lH (by rw [u,AL ⟨rfl,aq⟩]);have da:(0:Int)<(bI T k:Int):=X;have af:=lH aa;have cy:=J.lt aa;clear u az aa J aq;go_enter func159,ntmps159;go_wp2_with fail;refine cr ap.o λo A=> ?_;obtain ⟨H,r,E,B,ax,Q,ad⟩:=bw.o.no bi ar A;obtain ⟨ag,bc,ah,ai,br⟩:=eG.dir (ad k x af) bb;have cl:=λcb=>ai.len (t:=166) (e:=3) underlying166 cb;have ci:o.cell? (I t 0)=some (.map (some H)):=aA B _;have c3:o.cell? (I (r k) 3)=some (.map (some ag)):=aA ah _;have V:=Q.look (k:Int) (by unfold encI I64;dsimp only;omega) (t:=157) (e:=169) underlying157 (z:=.pointer none) N false;rw [show dC T r (k:Int)=some (r k) by simp [dC,af.o]] at V;have ck:(Instr.lookup 157 (.map (some H)) (Z k) false).run prog o=.ok (Y (r k)) o:=V;clear E B ax Q ad bc ah ai br V bb;exact aC (bh.o 11 G ae _ _ rfl A)}
    ·rw [AA aq] at u;have cn:sG T k x:=⟨J,aa,bq,λh=>by
      have:b=true:=(by rw [<-bb];exact h);rcases ET (bI T k) with av|av;{exact av}
      ·exact absurd ⟨this,av⟩ aq⟩
     obtain ⟨y,ca,co⟩:=J.up k x aa bq;have ae:=lH u;have af:=lH aa;have bf:=lH ca;have bu:=lH co;have cf:=lH cn;have cy:=J.lt aa;have dd:=J.lt ca;have cm:=J.name k x aa bq;have cd:=lH cm;have dc:things T<=129:=AV JM (by rw [JA];omega);have cg:Hid (fJ T l b=dI T k):=lH (by unfold fJ;rw [u];rfl);have ct:Hid (b=true->bI T k=0):=λe=>by
      rcases ET (bI T k) with av|av;{exact av};{exact absurd ⟨e,av⟩ aq}
     have ch:=lH bb;clear u az aa ca co cn cm aq J bb;go_enter func159,ntmps159;cases b with
     | false=>
      go_wp2_with fail;refine cr ap.o λo A=> ?_;obtain ⟨H,r,E,B,ax,Q,ad⟩:=bw.o.no bi ar A;(have al:o.heap[r k]? =some (.cells #[x.up,(ba x.name),false,.map none] 168 (0,0)):=by{obtain ⟨up,de,dir⟩:=x;have e:dir=false:=ch.o;subst e;exact (ad k _ af).2});obtain ⟨ag,bc,ah,ai,br⟩:=eG.dir (ad x.up y bf) bu.o;have ci:o.cell? (I t 0)=some (.map (some H)):=aA B _;have c3:o.cell? (I (r k) 3)=some (.map none):=aA al _;have c1:o.cell? (I (r k) 1)=some (.string (ba x.name)):=aA al _;have c2:o.cell? (I (r k) 0)=some (Z x.up):=aA al _;have c4:o.cell? (I (r x.up) 3)=some (.map (some ag)):=aA ah _;have V:=Q.look (k:Int) (by unfold encI I64;dsimp only;omega) (t:=157) (e:=169) underlying157 (z:=.pointer none) N false;rw [show dC T r (k:Int)=some (r k) by simp [dC,af.o]] at V;have ck:(Instr.lookup 157 (.map (some H)) (Z k) false).run prog o=.ok (Y (r k)) o:=V;have u:=(Q.fr (Fr.refl (S:=No) o).drew id).look (x.up:Int) (by unfold encI I64;dsimp only;omega) (t:=157) (e:=169) underlying157 (z:=.pointer none) N false;rw [show dC T r (x.up:Int)=some (r x.up) by simp [dC,bf.o]] at u;have cz:(Instr.lookup 157 (.map (some H)) (Z x.up) false).run prog o.drew=.ok (Y (r x.up)) o.drew:=u;obtain ⟨ao,bm,bd,bl⟩:=(ai.fr (Fr.refl (S:=No) o).drew id).del (ba x.name) (show (ba x.name).size<=maxLen by rw [nN];have:=(sN _ cd).2.2;unfold maxLen;omega) (t:=166) (e:=3) underlying166 0;have aj:Fr (· =ag) o ao:=(Fr.refl o).drew.trans bl zq;(have am:H≠ag:=by{rintro rfl;omega});obtain ⟨cc,bn,be,au⟩:=(Q.fr aj am).del (k:Int) (by unfold encI I64;dsimp only;omega) (t:=157) (e:=169) underlying157 0;(have bj:bQ T x.up (ba x.name)=some (k:Int):=by{have:=zQ bi af rfl rfl;simp [bQ,mM,this]});have bk:dC T r (k:Int)=some (r k):=(by simp [dC,af.o]);rw [bj] at bd;rw [bk] at be;have bt:=bd.fr au (EP am);have c5:ao.cell? (I t 0)=some (.map (some H)):=aA (aj.aB B (ai.ne B)) _;have bp:=eG.shrink cf (λk bz=>ar.o k (AV A.size bz)) E B ax Q.lt ad bf bu bc ah ((aj.mono (λ_ _ e=> .inr e)).trans (au.mono (λ_ _ e=> .inl e)) zq) be bt;have bg:=lH bp;have cw:(Builtin.delete_ #[166,9] 0 #[.map (some ag),(ba x.name)]).run prog o.drew=.ok (.tuple #[]) ao:=bm;have cx:(Builtin.delete_ #[157,3] 0 #[.map (some H),k]).run prog ao=.ok (.tuple #[]) cc:=bn;clear V u B Q ad bc ah ai br al E ax bp bd be bt bm bn bl au aj am bj bk;go_wp2_with fail;go_region
      all_goals
       go_wp2_with fail;refine ce.o k _ _ ae rfl ?_;rw [cg.o];exact ⟨_,(Step.no ar A).trans (bg.o.1.mono (D:=dM K) (λc bx=>by
        rcases bx with rfl|rfl;{exact .inr (.inl rfl)}
        ·exact .inr (.inr X))) (λ_ e=>e),bg.o.2⟩
     | true=>
      go_wp2_with fail;refine cr ap.o λo A=> ?_;obtain ⟨H,r,E,B,ax,Q,ad⟩:=bw.o.no bi ar A;obtain ⟨jb,j1,al,j3,j4⟩:=eG.dir (ad k x af) ch.o;have cl:=λcb=>j3.len (t:=166) (e:=3) underlying166 cb;rw [ct.o trivial] at cl;obtain ⟨ag,bc,ah,ai,br⟩:=eG.dir (ad x.up y bf) bu.o;have ci:o.cell? (I t 0)=some (.map (some H)):=aA B _;have c3:o.cell? (I (r k) 3)=some (.map (some jb)):=aA al _;have c1:o.cell? (I (r k) 1)=some (.string (ba x.name)):=aA al _;have c2:o.cell? (I (r k) 0)=some (Z x.up):=aA al _;have c4:o.cell? (I (r x.up) 3)=some (.map (some ag)):=aA ah _;have V:=Q.look (k:Int) (by unfold encI I64;dsimp only;omega) (t:=157) (e:=169) underlying157 (z:=.pointer none) N false;rw [show dC T r (k:Int)=some (r k) by simp [dC,af.o]] at V;have ck:(Instr.lookup 157 (.map (some H)) (Z k) false).run prog o=.ok (Y (r k)) o:=V;have u:=(Q.fr (Fr.refl (S:=No) o).drew id).look (x.up:Int) (by unfold encI I64;dsimp only;omega) (t:=157) (e:=169) underlying157 (z:=.pointer none) N false;rw [show dC T r (x.up:Int)=some (r x.up) by simp [dC,bf.o]] at u;have cz:(Instr.lookup 157 (.map (some H)) (Z x.up) false).run prog o.drew=.ok (Y (r x.up)) o.drew:=u;obtain ⟨ao,bm,bd,bl⟩:=(ai.fr (Fr.refl (S:=No) o).drew id).del (ba x.name) (show (ba x.name).size<=maxLen by rw [nN];have:=(sN _ cd).2.2;unfold maxLen;omega) (t:=166) (e:=3) underlying166 0;have aj:Fr (· =ag) o ao:=(Fr.refl o).drew.trans bl zq;(have am:H≠ag:=by{rintro rfl;omega});obtain ⟨cc,bn,be,au⟩:=(Q.fr aj am).del (k:Int) (by unfold encI I64;dsimp only;omega) (t:=157) (e:=169) underlying157 0;(have bj:bQ T x.up (ba x.name)=some (k:Int):=by{have:=zQ bi af rfl rfl;simp [bQ,mM,this]});have bk:dC T r (k:Int)=some (r k):=(by simp [dC,af.o]);rw [bj] at bd;rw [bk] at be;have bt:=bd.fr au (EP am);have c5:ao.cell? (I t 0)=some (.map (some H)):=aA (aj.aB B (ai.ne B)) _;have bp:=eG.shrink cf (λk bz=>ar.o k (AV A.size bz)) E B ax Q.lt ad bf bu bc ah ((aj.mono (λ_ _ e=> .inr e)).trans (au.mono (λ_ _ e=> .inl e)) zq) be bt;have bg:=lH bp;have cw:(Builtin.delete_ #[166,9] 0 #[.map (some ag),(ba x.name)]).run prog o.drew=.ok (.tuple #[]) ao:=bm;have cx:(Builtin.delete_ #[157,3] 0 #[.map (some H),k]).run prog ao=.ok (.tuple #[]) cc:=bn;clear j1 j3 j4 V u B Q ad bc ah ai br al E ax bp bd be bt bm bn bl au aj am bj bk;go_wp2_with fail;go_region
      all_goals
       go_wp2_with fail;refine ce.o k _ _ ae rfl ?_;rw [cg.o];exact ⟨_,(Step.no ar A).trans (bg.o.1.mono (D:=dM K) (λc bx=>by
        rcases bx with rfl|rfl;{exact .inr (.inl rfl)}
        ·exact .inr (.inr X))) (λ_ e=>e),bg.o.2⟩
   {(have cj:∃ab,ab≠0/\bM T l b=(ab,0)/\ab=if b then 10 else 9:=by{(cases b<;>cases is);{exact absurd rfl ay};{exact ⟨9,by decide,by rw [u];rfl,rfl⟩};{exact ⟨10,by decide,by rw [u];rfl,rfl⟩};{exact absurd rfl ay}});have ae:=lH cj;clear cj u az aa bb J;(cases b<;>cases is);{exact absurd rfl ay};{clear ay;go_enter func159,ntmps159;go_wp2_with fail;refine cr ap.o λo A=> ?_;go_wp2_with fail;obtain ⟨ab,aw,E,B⟩:=ae.o;exact bh.o ab aw E _ _ (by rw [B];rfl) A};{clear ay;go_enter func159,ntmps159;go_wp2_with fail;refine cr ap.o λo A=> ?_;go_wp2_with fail;obtain ⟨ab,aw,E,B⟩:=ae.o;exact bh.o ab aw E _ _ (by rw [B];rfl) A};{exact absurd rfl ay}}
 {have ae:Hid (bM T l b=(bv,0)):=lH (by rw [u,AL ak]);have cu:=lH ak;(have da:(bv==0)=false:=by simpa using ak);clear ak u az J;go_enter func159,ntmps159;go_wp2_with fail;refine cr ap.o λo A=> ?_;exact aC (bh.o bv cu ae _ _ rfl A)}
theorem aAX (T k p):(∃c:Int,c≠0/\∀o,bP T k (p::o)=(c,0))\/∃j,∀o,bP T k (p::o)=bP T j o:=by
 (cases r:T k with|none=>exact .inl ⟨14,by decide,λo=>by simp [bP,r]⟩|some x=>by_cases hd:x.dir=true;{(cases u:kid T k p with|none=>exact .inl ⟨6,by decide,λo=>by simp [bP,r,hd,u]⟩|some j=>exact .inr ⟨j,λo=>by simp [bP,r,hd,u]⟩)};{exact .inl ⟨10,by decide,λo=>by simp [bP,r,hd]⟩})
theorem aDt {T} (o s k):bP T k (o++ [s])=if (bP T k o).1=0 then bP T (bP T k o).2 [s] else bP T k o:=by
 (induction o generalizing k with|nil=>rfl|cons p r ih=>{rw [CQ];rcases aAX T k p with ⟨c,u,h⟩|⟨j,h⟩;{rw [h,h];simp only;rw [AA u]};{rw [h,h,ih]}})
theorem aGM {T d s k} (h:bP T d [s]=(0,k)):kid T d s=some k/\∃x,T d=some x/\x.dir=true:=by
 simp only [bP] at h;(cases hd:T d with|none=>rw [hd] at h;cases h|some x=>rw [hd] at h;simp only at h;by_cases o:x.dir=true;{rw [AL o] at h;(cases r:kid T d s with|none=>rw [r] at h;cases h|some j=>rw [r] at h;simp only [GX,true_and] at h;subst h;exact ⟨rfl,x,rfl,o⟩)};{rw [AA o] at h;cases h})
theorem G6 {T r s k} (h:bP T 1 (r++ [s])=(0,k)):∃d,bP T 1 r=(0,d)/\kid T d s=some k/\∃x,T d=some x/\x.dir=true:=by
 rw [aDt] at h;by_cases o:(bP T 1 r).1=0;{rw [AL o] at h;obtain ⟨u,A⟩:=aGM h;refine ⟨(bP T 1 r).2,?_,u,A⟩;rw [<-o]};{rw [AA o] at h;rw [h] at o;exact absurd rfl o}
theorem U1 {T} (B:dK T) (n E A k) (Q:E.length<=n) (u:bP T 1 E=(0,k)) (r:bP T 1 A=(0,k)):E=A:=by
 have V:∀(o:List (List UInt8)) s,bP T 1 (o++ [s])≠(0,1):=λo s h=>by
  obtain ⟨d,_,J,x,ab,_⟩:=G6 h;obtain ⟨b,H⟩:=(qZ B).1 J;rw [B.root] at H;cases H;rw [B.zero] at ab;cases ab
 (induction n generalizing E A k with|zero=>{obtain rfl:=CW (Nat.le_zero.1 Q);simp only [bP,GX,true_and] at u;subst u;rcases JO A with rfl|⟨o,s,rfl⟩;{rfl};{rw [KU] at r;exact absurd r (V o s)}}|succ n ih=>{rcases JO E with rfl|⟨o,s,rfl⟩;{simp only [bP,GX,true_and] at u;subst u;rcases JO A with rfl|⟨o,s,rfl⟩;{rfl};{rw [KU] at r;exact absurd r (V o s)}};{rw [KU] at u Q ⊢;obtain ⟨d,ad,J,_⟩:=G6 u;rcases JO A with rfl|⟨ag,aj,rfl⟩;{simp only [bP,GX,true_and] at r;subst r;exact absurd u (V o s)};{rw [KU] at r ⊢;obtain ⟨ai,ae,af,_⟩:=G6 r;obtain ⟨b,H⟩:=(qZ B).1 J;obtain ⟨ah,aa⟩:=(qZ B).1 af;rw [H] at aa;cases aa;rw [ih o ag d (by simp at Q;omega) ad ae]}}})
def moved (T:Tree) (i d:Nat) (s:List UInt8) (b:Bool):Tree:=upd T i (some ⟨d,s,b⟩)
structure Moves (T:Tree) (i:Nat) (x:Node) (d:Nat) (s:List UInt8):Prop where
 ok:dK T
 is:T i=some x
 ne:i≠1
 une:x.up≠i
 dir:∃y,T d=some y/\y.dir=true
 dne:d≠i
 name:eH s=true
 none:kid T d s=none
section
variable {T:Tree} {i d:Nat} {s:List UInt8} {x:Node}
theorem Zl (h:Moves T i x d s):dK (moved T i d s x.dir) where
 root:=by rw [moved,bY _ _ (EP h.ne)];exact h.ok.root
 zero:=by rw [moved,bY _ _ (by have:=h.ok.lt h.is;omega)];exact h.ok.zero
 top k hk:=by rw [moved,bY _ _ (by have:=h.ok.lt h.is;omega)];exact h.ok.top k hk
 up k z hk h1:=by
  by_cases e:k=i
  ·subst e;rw [moved,upd_same] at hk;cases hk;obtain ⟨y,o,hd⟩:=h.dir;exact ⟨y,by rw [moved,bY _ _ h.dne];exact o,hd⟩
  ·rw [moved,bY _ _ e] at hk;obtain ⟨y,o,hd⟩:=h.ok.up k z hk h1;by_cases A:z.up=i
   ·rw [A,h.is] at o;cases o;exact ⟨⟨d,s,x.dir⟩,by rw [A,moved,upd_same],hd⟩
   ·exact ⟨y,by rw [moved,bY _ _ A];exact o,hd⟩
 name k z hk h1:=by
  by_cases e:k=i
  ·subst e;rw [moved,upd_same] at hk;cases hk;exact h.name
  ·rw [moved,bY _ _ e] at hk;exact h.ok.name k z hk h1
 one j k y z hj hk h1 h2:=by
  have B:∀k z,T k=some z->¬(z.up=d/\z.name=s):=λk z E=>Yb h.none k (by have:=h.ok.lt E;omega) z E;by_cases r:j=i<;>by_cases u:k=i
  ·rw [r,u]
  ·subst r;rw [moved,upd_same] at hj;rw [moved,bY _ _ u] at hk;cases hj;exact absurd ⟨h1.symm,h2.symm⟩ (B k z hk)
  ·subst u;rw [moved,upd_same] at hk;rw [moved,bY _ _ r] at hj;cases hk;exact absurd ⟨h1,h2⟩ (B j y hj)
  ·rw [moved,bY _ _ r] at hj;rw [moved,bY _ _ u] at hk;exact h.ok.one j k y z hj hk h1 h2
theorem Gy (h:Moves T i x d s) (e z):kid (moved T i d s x.dir) e z=if e=d/\z=s then some i else if e=x.up/\z=x.name then none else kid T e z:=by
 apply Option.ext;intro k;rw [qZ (Zl h)];by_cases A:e=d/\z=s;{obtain ⟨rfl,rfl⟩:=A;rw [AL ⟨rfl,rfl⟩];constructor;{rintro ⟨u,o⟩;by_cases r:k=i;{rw [r]};{rw [moved,bY _ _ r] at o;have:=(qZ h.ok).2 ⟨u,o⟩;rw [h.none] at this;cases this}};{intro B;cases B;exact ⟨x.dir,upd_same _ _ _⟩}};{rw [AA A];by_cases hu:e=x.up/\z=x.name;{obtain ⟨rfl,rfl⟩:=hu;rw [AL ⟨rfl,rfl⟩];constructor;{rintro ⟨u,o⟩;by_cases r:k=i;{subst r;rw [moved,upd_same] at o;cases o;exact absurd ⟨rfl,rfl⟩ A};{rw [moved,bY _ _ r] at o;exact absurd (h.ok.one k i _ x o h.is rfl rfl) r}};{intro B;cases B}};{rw [AA hu,qZ h.ok];constructor;{rintro ⟨u,o⟩;by_cases r:k=i;{subst r;rw [moved,upd_same] at o;cases o;exact absurd ⟨rfl,rfl⟩ A};{rw [moved,bY _ _ r] at o;exact ⟨u,o⟩}};{rintro ⟨u,o⟩;refine ⟨u,?_⟩;rw [moved,bY];{exact o};{rintro rfl;rw [h.is] at o;cases o;exact hu ⟨rfl,rfl⟩}}}}
theorem Jk (T i) (u:i<129) (z e):bI (upd T i (some z)) e=(if e=z.up then 1 else 0)+bI (dI T i) e:=by
 by_cases o:e=z.up;{subst o;rw [AL rfl,Nat.add_comm];refine C9 _ _ i 129 u (λk A=> ?_) ?_ ?_;{simp only [dI,bY _ _ A]};{simp [dI,upd_same]};{simp [upd_same]}};{rw [AA o,BP];refine Ar _ _ _ (λk _=> ?_);by_cases r:k=i;{subst r;simp [dI,upd_same,EP o]};{simp only [dI,bY _ _ r]}}
theorem V5 {T i} {x:Node} (h:T i=some x):upd T i (some x)=T:=by
 funext k;by_cases e:k=i;{rw [e,upd_same,h]};{rw [bY _ _ e]}
theorem aCM (h:Moves T i x d s) (e):bI (moved T i d s x.dir) e+(if e=x.up then 1 else 0)=bI T e+(if e=d then 1 else 0):=by
 have o:i<129:=by have:=h.ok.lt h.is;omega
 have r:=Jk T i o x e;have u:=Jk T i o ⟨d,s,x.dir⟩ e;rw [V5 h.is] at r;unfold moved;dsimp only at u;omega
theorem aDV (h:Moves T i x d s):things (moved T i d s x.dir)=things T:=Ar _ _ _ (λk _=>by
 by_cases o:k=i
 ·subst o;simp [moved,upd_same,h.is]
 ·simp only [moved,bY _ _ o])
theorem aBt (h:Moves T i x d s) (r):dC (moved T i d s x.dir) r=dC T r:=by
 funext z;unfold dC;by_cases o:0<=z;{rw [AL o,AL o];by_cases e:z.toNat=i;{rw [e,moved,upd_same,h.is];rfl};{rw [moved,bY _ _ e]}};{rw [AA o,AA o]}
end
theorem eG.moves {w w' r K t ae i d ad id A T s x y Q} (h:Moves T i x d s) (bg:aF w r) (az:r t=K+3) (bj:w.heap[t]? =some (.cells #[.map (some ae)] 159 (0,0))) (ay:r ae=K+4) (aa:∀k x,T k=some x->rW w r K k (A k) x (bI T k) (bQ T k)) (ak:T d=some y) (ar:y.dir=true) (ax:r id=K+2000+d) (bi:w.heap[A d]? =some (.cells #[y.up,(ba y.name),true,.map (some id)] 168 (0,0))) (hu:T x.up=some Q) (ap:Q.dir=true) (al:r ad=K+2000+x.up) (bk:w.heap[A x.up]? =some (.cells #[Q.up,(ba Q.name),true,.map (some ad)] 168 (0,0))) (f:Fr (λj=>j=ae\/j=ad\/j=id\/j=A i) w w') (bc:MapAt encI w' ae (things T) (dC T A)) (av:∀au,w.heap[A i]? =some (.cells #[x.up,(ba x.name),x.dir,.map au] 168 (0,0))->w'.heap[A i]? =some (.cells #[d,(ba s),x.dir,.map au] 168 (0,0))) (be:x.up≠d->MapAt encS w' ad (bI T x.up - 1) (λz=>if z=ba x.name then none else bQ T x.up z)) (bd:MapAt encS w' id (if x.up=d then bI T d else bI T d+1) (λz=>if z=ba s then some (i:Int) else if x.up=d/\z=ba x.name then none else bQ T d z)):
  Step (λc=>c=K+4\/c=K+2000+x.up\/c=K+2000+d\/c=K+1000+i) w r w' r/\eG w' r K t (moved T i d s x.dir):=by
 have bb:=(aa i x h.is).1;(have V:Step (λc=>c=K+4\/c=K+2000+x.up\/c=K+2000+d\/c=K+1000+i) w r w' r:=by{refine ⟨f.mono (λk _ e=> ?_),λ_ _=>rfl,λk o=>bg k (AV f.size o)⟩;rcases e with rfl|rfl|rfl|rfl;{exact .inl ay};{exact .inr (.inl al)};{exact .inr (.inr (.inl ax))};{exact .inr (.inr (.inr bb))}});have bn:=h.ok.lt h.is;have bl:=h.ok.lt ak;have bp:=h.ok.lt hu;have bm:=h.dne;have bh:=h.une;refine ⟨V,ae,A,az,V.block bj (by rw [az];omega),ay,?_,λk z o=> ?_⟩;{rw [aBt h,aDV h];exact bc};{have J:=aCM h k;by_cases am:k=i;{subst am;rw [moved,upd_same] at o;(cases o;have B:bI (moved T k d s x.dir) k=bI T k:=by{rw [AA (EP h.une),AA (EP h.dne)] at J;omega});(have E:bQ (moved T k d s x.dir) k=bQ T k:=by{funext z;unfold bQ;rw [Gy h,AA (λe=>h.dne e.1.symm),AA (λe=>h.une e.1.symm)]});rw [B,E];have aq:=aa k x h.is;obtain ⟨up,aw,dir⟩:=x;(cases dir with|false=>obtain ⟨u,ai⟩:=aq;exact ⟨u,av _ ai⟩|true=>obtain ⟨u,jb,ai,an,ao⟩:=aq;refine ⟨u,jb,ai,av _ an,ao.fr f ?_⟩;dsimp only at al bb bh ⊢;rintro (rfl|rfl|rfl|e);{omega};{omega};{omega};{exact (ao.ne an) e.symm})};{rw [moved,bY _ _ am] at o;have bo:=h.ok.lt o;by_cases af:k=d;{subst af;rw [ak] at o;(cases o;have u:=(aa k y ak).1;have B:bI (moved T i k s x.dir) k=if x.up=k then bI T k else bI T k+1:=by{rw [AL rfl] at J;by_cases ah:x.up=k;{rw [AL ah.symm] at J;rw [AL ah];omega};{rw [AA (EP ah)] at J;rw [AA ah];omega}});(have E:bQ (moved T i k s x.dir) k=λz=>if z=ba s then some (i:Int) else if x.up=k/\z=ba x.name then none else bQ T k z:=by{funext z;unfold bQ;rw [Gy h];by_cases H:z=ba s;{subst H;simp [mM]};{rw [AA H,AA (λe=>H (by rw [<-e.2,tZ]))];by_cases ab:x.up=k/\z=ba x.name;{rw [AL ab,AL ⟨ab.1.symm,by rw [ab.2,mM]⟩];rfl};{rw [AA ab,AA (λe=>ab ⟨e.1.symm,by rw [<-e.2,tZ]⟩)]}}});rw [B,E];obtain ⟨up,aw,dir⟩:=y;dsimp only at ar;subst ar;exact ⟨u,id,ax,V.block bi (by rw [u];omega),bd⟩};{by_cases ag:k=x.up;{have aj:x.up≠d:=λe=>af (ag.trans e);have bf:=be aj;subst ag;rw [hu] at o;(cases o;have u:=(aa x.up Q hu).1;have B:bI (moved T i d s x.dir) x.up=bI T x.up - 1:=by{rw [AL rfl,AA aj] at J;omega});(have E:bQ (moved T i d s x.dir) x.up=λz=>if z=ba x.name then none else bQ T x.up z:=by{funext z;unfold bQ;rw [Gy h,AA (λe=>aj e.1)];by_cases H:z=ba x.name;{subst H;rw [AL rfl,AL ⟨rfl,by rw [mM]⟩];rfl};{rw [AA H,AA (λe=>H (by rw [<-e.2,tZ]))]}});rw [B,E];obtain ⟨up,aw,dir⟩:=Q;dsimp only at ap;subst ap;exact ⟨u,ad,al,V.block bk (by rw [u];omega),bf⟩};{(have B:bI (moved T i d s x.dir) k=bI T k:=by{rw [AA ag,AA af] at J;omega});(have E:bQ (moved T i d s x.dir) k=bQ T k:=by{funext z;unfold bQ;rw [Gy h,AA (λe=>af e.1),AA (λe=>ag e.1)]});rw [B,E];exact (aa k z o).step V X X}}}}
