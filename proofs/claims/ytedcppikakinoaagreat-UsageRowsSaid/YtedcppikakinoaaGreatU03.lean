/- Part of a proof. -/
import Derived.Test.YtedcppikakinoaaGreatU01
import Derived.Test.YtedcppikakinoaaGreatU02
import Derived.Deep.RegionHeld3
import Derived.Maps.OwnSet
import Derived.Maps.RangeWalk
import Derived.Outline
import Derived.Recover
set_option linter.unusedSimpArgs false
set_option linter.unusedVariables false
set_option maxRecDepth 100000
set_option maxHeartbeats 1600000
namespace Go.Proofs.YtedcppikakinoaaGreat
open Go.Proofs.Tryz Go Go.RowKit
section
variable {P:Program} {Q:Exit->Act->World->Prop} {a:Act} {w:World} {l:List Oper} {id:Nat}
theorem Fr.hd {S:Nat->Prop} {w:World}:Hid (Fr S w w.drew):=lH (Fr.refl w).drew
theorem Rn {ops:Array Oper} {ab:List Oper} {u:Act} (L2:List Nat) (k:∀W,Hid (Fr No w W)->wpList P ops Q ab u W) (ae:P.follows .mixedOrders=true) (A:Region.noSelect ops=true:=by kernel_rfl) (B:(L2==(List.range ops.size).filter λi=>L2.contains i)=true:=by kernel_rfl)
  (H:(((List.range' 0 ops.size).filter λi=> !L2.contains i).length+L2.length==ops.size)=true:=by kernel_rfl) (J:mX .any ops L2 (Array.replicate ops.size false) ((List.range' 0 ops.size).filter λi=> !L2.contains i)=true:=by kernel_rfl)
  (aa:qR .any ops L2=true:=by kernel_rfl) (ad:∀c (a:Act) d v w,Q (.panic c) (a.put d v) w->Q (.panic c) a w:=by
    intro _ _ d _ _ h;cases d<;>exact h)
  (h:Hid (Ci ops L2)->Hid (∀W,Hid (Fr No w W)->wpList P ops Q ab u W)->kD P .any ops Q (λW=>Hid (Fr No w W)) L2 0 ops.toList [] a:=by
    intro r k;repeat (first
     | refine kR R ?_
     | (first
         | refine nK R R ?_
         | (refine kM (v:= ?_) R R ?_ ?_
            rotate_left 1
            focus (intro W;(try have aj:=N1.o);go_simp;(try with_reducible rfl);done))
         | (refine qJ (v:= ?_) r R R R ?_ ?_
            rotate_left 1
            focus (intro W o;(try have af:=aA (o.o.aB B1.o id));(try have ag:=aA (o.o.aB B2.o id));(try have ah:=aA (o.o.aB B3.o id));(try have ai:=aA (o.o.aB B4.o id));clear o;go_simp;(try with_reducible rfl);done))
         | (refine o9 (v:=_) _ _ R (qY r.o.all R) R ?_ (λW o=>(C1.o W o.o).mono (λe w' h=>⟨h.1,lH (o.o.trans h.2 zq)⟩)) ?_
            focus (intro W;go_simp;(try with_reducible rfl);done))
         | (refine o9 (v:=_) _ _ R (qY r.o.all R) R ?_ (λW o=>(C2.o W o.o).mono (λe w' h=>⟨h.1,lH (o.o.trans h.2 zq)⟩)) ?_
            focus (intro W;go_simp;(try with_reducible rfl);done))
         | (refine o9 (v:=_) _ _ R (qY r.o.all R) R ?_ (λW o=>(C3.o W o.o).mono (λe w' h=>⟨h.1,lH (o.o.trans h.2 zq)⟩)) ?_
            focus (intro W;go_simp;(try with_reducible rfl);done))
         | (refine o9 (v:=_) _ _ R (qY r.o.all R) R ?_ (λW o=>(C4.o W o.o).mono (λe w' h=>⟨h.1,lH (o.o.trans h.2 zq)⟩)) ?_
            focus (intro W;go_simp;(try with_reducible rfl);done))
         | (refine o9 (v:=_) _ _ R (qY r.o.all R) R ?_ (λW o=>(C5.o W o.o).mono (λe w' h=>⟨h.1,lH (o.o.trans h.2 zq)⟩)) ?_
            focus (intro W;go_simp;(try with_reducible rfl);done)))
       simp only [pT,aJ,lsS]
       (try rw [D1.o])
       (try rw [D2.o])
       (try rw [D3.o])
       (try rw [D4.o]))
    intro W o;simp only [CX,DL,DC,CQ];exact k.o W o):(Code.region id ops true).wp P Q a w:=uP ae (lH ⟨A,B,H,J,aa⟩) (λW=>Hid (Fr No w W)) ad Fr.hd (h (lH ⟨A,B,H,J,aa⟩) (lH k))
end
open Go.WideElems (Fit rd rg pl rd_val)
structure Enc (K V:Type) where
 k:TypeId
 law:Go.Maps.Keyed prog k
 ek:K->Value
 lk:K->Lit
 good:K->Prop
 key:∀x,good x->keyOf prog k (ek x)=some (lk x)
 inv:∀v l,keyOf prog k v=some l->∃x,good x/\v=ek x/\l=lk x
 einj:∀x y,ek x=ek y->x=y
 R:Value->Option (DataW Unit×List MemPlace)
 ev:V->Value
 dv:V->DataW Unit
 fine:V->Prop
 read:∀y,fine y->R (ev y)=some (dv y, [])
 rinv:∀v z,R v=some z->∃y,fine y/\v=ev y/\z=(dv y, [])
 dinj:∀y z,dv y=dv z->y=z
theorem Enc.Ac {K V:Type} (E:Enc K V) {x y} (o:E.good x) (r:E.good y) (h:E.lk x=E.lk y):x=y:=
 E.einj _ _ (E.law.inj (E.key x o) (h▸E.key y r))
section
variable {K V:Type} {E:Enc K V} {w w':World} {b c:Nat} {m:K->Option V}
structure Zh (E:Enc K V) (D:DataW Unit) (m:K->Option V):Prop where
 tidy:Maps.Tidy D
 some:∀x y,m x=some y->E.good x/\E.fine y/\Maps.has D (E.lk x)=true/\∀zd,D.atKey (E.lk x) zd=E.dv y
 none:∀x,E.good x->m x=none->Maps.has D (E.lk x)=false
def MapAt (E:Enc K V) (w:World) (b c:Nat) (m:K->Option V):Prop:=∃D,w.ownsMap prog E.k E.R b c D/\Maps.size D=c/\Zh E D m
theorem Q5 {P k R n} {D:DataW Unit} (h:w.ownsMap P k R b n D):w.ownsMap P k R b (Maps.size D) D:=by
 obtain ⟨es,clock,o,F,r,rfl⟩:=h;exact ⟨es,clock,o,F,by simp [Maps.size,length_read],rfl⟩
theorem MapAt.fr {S} (h:MapAt E w b c m) (f:Fr S w w') (r:¬S b):MapAt E w' b c m:=by
 obtain ⟨D,⟨es,clock,u,F,A,o⟩,H,B⟩:=h;exact ⟨D,⟨es,clock,f.aB u r,F,A,o⟩,H,B⟩
theorem MapAt.lt (h:MapAt E w b c m):b<w.heap.size:=by
 obtain ⟨D,o,_⟩:=h;exact o.lt
theorem MapAt.made (E:Enc K V) (w:World):MapAt E (w.alloc (.map #[] 0)) w 0 (λ_=>none):=
 ⟨.map [],World.ownsMap_made w _ _ _,rfl,⟨Maps.tidy_empty,λ_ _ h=>(nomatch h),λ_ _ _=>rfl⟩⟩
theorem MapAt.good (h:MapAt E w b c m) {x y} (u:m x=some y):E.good x/\E.fine y:=by
 obtain ⟨D,_,_,t⟩:=h;obtain ⟨o,r,_⟩:=t.some x y u;exact ⟨o,r⟩
theorem MapAt.look (h:MapAt E w b c m) (x) (H:E.good x) {t e} (af:prog.underlying t=some (.map E.k e)) {z} (ag:(zeroValue e).run prog w=.ok z w) (ok):
  (Instr.lookup t (.map (some b)) (E.ek x) ok).run prog w=.ok (match m x with
    | some y=>if ok then .tuple #[E.ev y,true] else E.ev y
    | none=>if ok then .tuple #[z,false] else z) w:=by
 obtain ⟨D,⟨es,clock,ae,F,ai,rfl⟩,ah,T⟩:=h;rcases Maps.fit_look ok E.law af ag ae F (E.key x H) with ⟨u,_,o⟩|⟨e0,y,_,_,u,ad,o,_⟩
 ·cases r:m x with
  | none=>exact u
  | some y=>
   obtain ⟨_,_,B,_⟩:=T.some x y r;rw [Maps.has_false_of_atKey o] at B;cases B
 ·cases r:m x with
  | none=>
   have:=T.none x H r;rw [MJ o] at this;cases this
  | some y'=>
   obtain ⟨_,_,_,ab⟩:=T.some x y' r;obtain ⟨y2,_,J,aa⟩:=E.rinv _ _ ad;have A:=(o (.map [])).symm.trans (ab (.map []));rw [aa] at A;obtain rfl:=E.dinj _ _ A;rw [J] at u;exact u
theorem Cm (E:Enc K V) {x} (o:E.good x):WideAt.IsKeyLit (E.lk x):=E.law.key (E.key x o)
theorem MapAt.put [DecidableEq K] (h:MapAt E w b c m) (x y) (o:E.good x) (ad:E.fine y) (ap:c<4611686018427387904) {t e} (an:prog.underlying t=some (.map E.k e)):
  ∃w',(Instr.mapUpdate t (.map (some b)) (E.ek x) (E.ev y)).run prog w=.ok () w'/\MapAt E w' b (if (m x).isSome then c else c+1) (λz=>if z=x then some y else m z)/\Fr (· =b) w w':=by
 obtain ⟨D,ak,H,T⟩:=h;obtain ⟨w',am,al,A⟩:=ak.update E.law an (by unfold maxLen;omega) (E.key x o) (E.read y ad);refine ⟨w',am,⟨D.put (E.lk x) (E.dv y),?_,?_,T.tidy.put (Cm E o) _,?_,?_⟩,⟨A.os,A.tape,A.output,A.size,λk ai aj=>A.block k ai (λe=>aj (FZ e))⟩⟩;{have:=Q5 al;rw [Maps.size_put T.tidy] at this;(cases B:m x with|none=>rw [T.none x o B,H] at this;simpa using this|some y0=>rw [(T.some x y0 B).2.2.1,H] at this;simpa using this)};{rw [Maps.size_put T.tidy];(cases B:m x with|none=>rw [T.none x o B,H];simp|some y0=>rw [(T.some x y0 B).2.2.1,H];simp)};{intro u ao r;by_cases e:u=x;{subst e;simp at r;subst r;exact ⟨o,ad,Maps.has_put_same T.tidy.isMap (Cm E o) _,λae=>Maps.atKey_put_same T.tidy.isMap (Cm E o) _ _⟩};{simp [e] at r;obtain ⟨J,af,ag,ah⟩:=T.some u ao r;have aa:E.lk u≠E.lk x:=λe'=>e (E.Ac J o e');exact ⟨J,af,by rw [Maps.has_put_other aa];exact ag,λae=>by rw [Maps.atKey_put_other aa];exact ah ae⟩}};{intro u ab r;by_cases e:u=x;{simp [e] at r};{simp [e] at r;rw [Maps.has_put_other (λe'=>e (E.Ac ab o e'))];exact T.none u ab r}}
theorem MapAt.del [DecidableEq K] (h:MapAt E w b c m) (x) (H:E.good x) {t e} (an:prog.underlying t=some (.map E.k e)) (ae):
  ∃w',(Builtin.delete_ #[t,E.k] ae #[.map (some b),E.ek x]).run prog w=.ok (.tuple #[]) w'/\MapAt E w' b (if (m x).isSome then c - 1 else c) (λz=>if z=x then none else m z)/\Fr (· =b) w w':=by
 obtain ⟨D,ak,J,T⟩:=h;obtain ⟨w',am,al,ao⟩:=ak.drop E.law an (E.key x H) ae;have A:=ao.grown;have o:=Maps.size_del (k:=E.lk x) T.tidy;refine ⟨w',am,⟨D.del (E.lk x),?_,?_,T.tidy.del _,?_,?_⟩,⟨A.os,A.tape,A.output,A.size,λk ai aj=>A.block k ai (λe=>aj (FZ e))⟩⟩;{have:=Q5 al;(cases B:m x with|none=>rw [T.none x H B,J] at o;simp at o;rw [o] at this;simpa using this|some y0=>rw [(T.some x y0 B).2.2.1,J] at o;simp at o;rw [show Maps.size (D.del (E.lk x))=c - 1 by omega] at this;simpa using this)};{(cases B:m x with|none=>rw [T.none x H B,J] at o;simpa using o|some y0=>rw [(T.some x y0 B).2.2.1,J] at o;simp at o ⊢;omega)};{intro u ap r;by_cases e:u=x;{simp [e] at r};{simp [e] at r;obtain ⟨aa,af,ag,ah⟩:=T.some u ap r;have ab:E.lk u≠E.lk x:=λe'=>e (E.Ac aa H e');exact ⟨aa,af,by rw [Maps.has_del_other ab];exact ag,λaq=>by rw [Maps.atKey_del_other ab];exact ah aq⟩}};{intro u ad r;by_cases e:u=x;{subst e;exact Maps.has_del_same};{simp [e] at r;rw [Maps.has_del_other (λe'=>e (E.Ac ad H e'))];exact T.none u ad r}}
theorem MapAt.len (h:MapAt E w b c m) {t e} (u:prog.underlying t=some (.map E.k e)) (o):(Builtin.len_ #[t] o #[.map (some b)]).run prog w=.ok (Z c) w:=by
 obtain ⟨D,r,A,T⟩:=h;have:=r.len u o;rw [A] at this;exact this
def jM (E:Enc K V) (w:World) (b r c:Nat) (m:K->Option V) (left:K->Bool) (cnt:Nat):Prop:=
 ∃D lf,w.ranges prog E.k E.R b r c D lf cnt/\Maps.size D=c/\Zh E D m/\∀x,E.good x->lf (E.lk x)=left x
theorem jM.map {B left o} (h:jM E w b B c m left o):MapAt E w b c m:=by
 obtain ⟨D,H,r,u,A,_⟩:=h;exact ⟨D,r.owns,u,A⟩
theorem jM.fr {S o left r} (h:jM E w b o c m left r) (f:Fr S w w') (ae:¬S b) (af:¬S o):jM E w' b o c m left r:=by
 obtain ⟨D,ag,⟨es,clock,ah,seen,u,A,B,H,J,aa,ab⟩,ad⟩:=h;exact ⟨D,ag,⟨es,clock,ah,seen,u,f.aB A ae,B,H,J,f.aB aa af,ab⟩,ad⟩
theorem jM.lt {o left r} (h:jM E w b o c m left r):o<w.heap.size:=by
 obtain ⟨D,A,u,_⟩:=h;exact u.lt
theorem jM.ne {o left r} (h:jM E w b o c m left r):o≠b:=by
 obtain ⟨D,A,u,_⟩:=h;exact u.ne
theorem MapAt.range (h:MapAt E w b c m) {t e} (ab:prog.underlying t=some (.map E.k e)):
  ∃w',(Instr.range t (.map (some b))).run prog w=.ok (Y w) w'/\jM E w' b w c m (λx=>(m x).isSome) c/\Fr No w w'/\w'.heap.size=w.heap.size+1:=by
 obtain ⟨D,H,A,T⟩:=h;obtain ⟨w',J,u,o,aa⟩:=H.range E.law ab;rw [A] at u;refine ⟨w',J,⟨D,_,u,A,T,λx ad=> ?_⟩,⟨o.os,o.tape,o.output,o.size,λk B _=>o.block k B (by simp)⟩,aa⟩;(cases r:m x with|none=>rw [T.none x ad r];simp [r]|some y=>rw [(T.some x y r).2.2.1];simp [r])
theorem jM.next [DecidableEq K] {r left H} (h:jM E w b r c m left H) (ab):
  (H=0/\(∀x,E.good x->left x=false)/\(Instr.next (Y r) false ab).run prog w=.ok (.tuple #[false]) w)\/
  ∃x y w' A,m x=some y/\left x=true/\(Instr.next (Y r) false ab).run prog w=.ok (.tuple #[true,E.ek x,E.ev y]) w'/\
   jM E w' b r c m (λz=>left z&&decide (z≠x)) A/\A<H/\Fr (· =r) w w'/\w'.heap.size=w.heap.size/\(Instr.entry (Y r)).run prog w'=.ok (.tuple #[E.ek x,E.ev y]) w':=by
 obtain ⟨D,ax,ag,au,T,J⟩:=h;rcases ag.next E.law ab with ⟨af,ao,aa⟩|⟨key,v,aw,y,w',A,ak,al,ar,ad,aa,ap,am,u,aq,ai⟩;{exact .inl ⟨af,λx o=>by rw [<-J x o];exact ao _,aa⟩};{obtain ⟨x,o,rfl,rfl⟩:=E.inv _ _ ak;obtain ⟨y0,av,rfl,rfl⟩:=E.rinv _ _ ar;(have B:m x=some y0:=by{(cases B:m x with|none=>have:=T.none x o B;rw [MJ ad] at this;cases this|some y1=>have ah:=(ad (.map [])).symm.trans ((T.some x y1 B).2.2.2 (.map []));rw [E.dinj _ _ ah])});refine .inr ⟨x,y0,w',A,B,by rw [<-J x o];exact al,aa,⟨D,_,ap,au,T,λz ae=> ?_⟩,am,⟨u.os,u.tape,u.output,u.size,λk aj an=>u.block k aj (λe=>an (FZ e))⟩,aq,ai⟩;rw [J z ae];by_cases e:z=x;{subst e;simp [WideAt.sameKey_self (Cm E o)]};{simp [e,Maps.sameKey_ne (λe'=>e (E.Ac ae o e'))]}}
end
def kF (e:Int):List PanicEntry:= [{v:=.iface 189 (.agg #[e]),recovered:=false}]
def rep (e n:Int):Array Value:= #[e,n,Z 0,Z 0,Z 0,false,nS,nS]
theorem iU (e:Int) (w):Calls prog 111 #[true,e] w λe w'=>e=.returned (.tuple #[])/\w'=w:=by
 go_enter func111,ntmps111;go_wp2;go_end0;exact ⟨rfl,rfl⟩
theorem iD (x:Int) (w):Calls prog 111 #[false,x] w λe w'=>e=.panicked (kF x)/\w'=w:=by
 go_enter func111,ntmps111;go_wp2;exact ⟨rfl,rfl,rfl⟩
theorem tY {w:World} {b t a0 a1 a2 a3 a4 o r u} (h:w.heap[b]? =some (.cells #[a0,a1,a2,a3,a4,o,r,u] t (0,0))):
  w.cell? (I b 0)=some a0/\w.cell? (I b 1)=some a1/\w.cell? (I b 2)=some a2/\w.cell? (I b 3)=some a3/\w.cell? (I b 4)=some a4/\w.cell? (I b 5)=some o/\w.cell? (I b 6)=some r/\w.cell? (I b 7)=some u:=by
 refine ⟨?_,?_,?_,?_,?_,?_,?_,?_⟩<;>(rw [aA h];rfl)
def Ey (w:World) (e b off l c:Nat):Prop:=w.heap[e]? =some (.cells #[true,.slice (some (I b off)) l c,Z 0] 304 (0,0))
theorem aDD (e b off l c n w) (o:Ey w e b off l c) (B:l<=c) (H:n<=l):
  Calls prog 183 #[Y e,n] w λx w'=>x=.returned (.slice (some (I b off)) n n)/\(∃A u,Ey w' e b A (l - n) u/\l - n<=u/\(l - n=0\/A=off+n))/\Fr (λk=>k=e) w w':=by
 have c1:w.cell? (I e 1)=some (.slice (some (I b off)) l c):=by rw [aA o];rfl
 have aa:=aU o 1;have r:=lH o;have J:(decide ((l:Int)<(n:Int)))=false:=by simp;omega
 clear o;go_enter func183,ntmps183;go_wp2_with fail
 ·refine AZ (v:=.slice (some (I b off)) n n) (by simp [results,results183,go_sem]) rfl ⟨rfl,⟨off,0,by simpa [Ey] using setCell_at r.o 1 _,by omega,.inl X⟩,Fr.setCell (S:=λk=>k=e) (p:=(I e 1)) (Fr.refl w) (.inl rfl) _⟩
 ·refine AZ (v:=.slice (some (I b off)) n n) (by simp [results,results183,go_sem]) rfl ⟨rfl,⟨off+n,c - n,by simpa [Ey] using setCell_at r.o 1 _,by omega,.inr rfl⟩,Fr.setCell (S:=λk=>k=e) (p:=(I e 1)) (Fr.refl w) (.inl rfl) _⟩
