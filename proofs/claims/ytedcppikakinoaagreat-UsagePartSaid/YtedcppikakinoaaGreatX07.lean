/- Part of a proof. -/
import Derived.Test.YtedcppikakinoaaGreatX03
import Derived.Test.YtedcppikakinoaaGreatX04
import Derived.Test.YtedcppikakinoaaGreatX05
import Derived.Test.YtedcppikakinoaaGreatX06
import Derived.Laws.FloatArith
import Derived.WideKeyEntry
set_option linter.unusedSimpArgs false
set_option linter.unusedVariables false
set_option maxRecDepth 100000
namespace Go.Proofs.YtedcppikakinoaaGreat
open Go.Proofs.Tryz
abbrev DD:Ieee.Format:=Ieee.double
theorem xJ:DD.infRung=9218868437227405312:=by decide
theorem Bo:DD.binade=4503599627370496:=by decide
theorem Dt:DD.signWeight=9223372036854775808:=by decide
theorem Dq:DD.leastPlace= -1074:=by decide
theorem vH {n k} (h:n≠0) (u:n<2 ^ (k+1)):n.log2<=k:=by
 have:=(Nat.log2_lt h).2 u;omega
theorem Aj {n k} (h:n≠0) (u:2 ^ k<=n):k<=n.log2:=(Nat.le_log2 h).2 u
theorem xZ {n} (h:n≠0):2 ^ n.log2<=n:=Nat.log2_self_le h
theorem sQ (n):n<2 ^ (n.log2+1):=Nat.lt_log2_self
theorem Zg (neg r) (h:r<4503599627370496):DD.read (DD.word neg r)=.number neg r (-1074):=by
 unfold Ieee.Format.read Ieee.Format.word;rw [Dt,Bo,xJ,Dq];(cases neg with|true=>(have u:(9223372036854775808+r) / 9223372036854775808 % 2=1:=X);(have A:(9223372036854775808+r) % 9223372036854775808=r:=X);simp only [IK,u,A,h];rfl|false=>(have u:r / 9223372036854775808 % 2=0:=X);(have A:r % 9223372036854775808=r:=X);simp only [u,A,h,IK,DC,FP];rfl)
theorem Yr (neg t k) (ab:k<4503599627370496) (ad:t<2046):
  DD.read (DD.word neg ((t+1)*4503599627370496+k))=.number neg (4503599627370496+k) (-1074+(t:Int)):=by
 unfold Ieee.Format.read Ieee.Format.word;rw [Dt,Bo,xJ,Dq];(have B:¬(t+1)*4503599627370496+k<4503599627370496:=X);(have H:(t+1)*4503599627370496+k<9218868437227405312:=X);(have J:((t+1)*4503599627370496+k) % 4503599627370496=k:=X);(have aa:((t+1)*4503599627370496+k) / 4503599627370496 - 1=t:=X);generalize (t+1)*4503599627370496+k=r at*;(cases neg with|true=>(have u:(9223372036854775808+r) / 9223372036854775808 % 2=1:=X);(have A:(9223372036854775808+r) % 9223372036854775808=r:=X);simp only [IK,u,A,B,H,FP,J,aa];rfl|false=>(have u:r / 9223372036854775808 % 2=0:=X);(have A:r % 9223372036854775808=r:=X);simp only [u,A,B,H,FP,J,aa,DC,IK];rfl)
theorem aAR (neg n):Ieee.Toward.even.cut neg n 0=n:=by
 unfold Ieee.Toward.cut;simp [Nat.mod_one]
theorem aEj (neg n d) (h:d<=n.log2):n / 2 ^ d<=Ieee.Toward.even.cut neg n d/\Ieee.Toward.even.cut neg n d<=n / 2 ^ d+1:=by
 unfold Ieee.Toward.cut;rw [MB X,Nat.one_shiftLeft];dsimp only;constructor;{exact Nat.le_add_right _ _};{refine Nat.add_le_add_left ?_ _;cases decide (2 ^ d<2*(n % 2 ^ d))||2 ^ d==2*(n % 2 ^ d)&&n / 2 ^ d % 2==1<;>simp}
theorem Il (neg u) (place:Int) (B:u≠0) (an: -900<=place+u.log2) (ao:place+u.log2<=900):
  ∃A,4503599627370496<=A/\A<=9007199254740992/\(u.log2<=52->A=u*2 ^ (52 - u.log2))/\(52<u.log2->u / 2 ^ (u.log2 - 52)<=A/\A<=u / 2 ^ (u.log2 - 52)+1)/\
   DD.read (DD.nearest neg u place)=if A<9007199254740992 then .number neg A (place+u.log2 - 52) else .number neg 4503599627370496 (place+u.log2 - 51):=by
 have aa:=xZ B;have H:=sQ u;generalize ad:u.log2=L at*;have af:max (place+(L:Int) - (DD.fractionBits:Int)) DD.leastPlace=place+L - 52:=by{rw [Dq,show DD.fractionBits=52 from rfl];omega}
 have ah:∃A,4503599627370496<=A/\A<=9007199254740992/\(L<=52->A=u*2 ^ (52 - L))/\(52<L->u / 2 ^ (L - 52)<=A/\A<=u / 2 ^ (L - 52)+1)/\
   Ieee.Toward.even.cut neg (u<<<(place - (place+L - 52)).toNat) ((place+L - 52) - place).toNat=A:=by
   rcases BJ 52 L with ap|aq;{refine ⟨_,?_,?_,λh=>absurd h X,?_,rfl⟩;(all_goals rw [show (place - (place+(L:Int) - 52)).toNat=0 by omega,show (place+(L:Int) - 52 - place).toNat=L - 52 by omega,Nat.shiftLeft_zero];have ae:=aEj neg u (L - 52) X;(have ab:2 ^ L=4503599627370496*2 ^ (L - 52):=by{rw [show (4503599627370496:Nat)=2 ^ 52 from rfl,<-FK];congr 1;omega});(have ar:4503599627370496<=u / 2 ^ (L - 52):=by{rw [Nat.le_div_iff_mul_le (GI _),<-ab];exact aa});(have au:u / 2 ^ (L - 52)<9007199254740992:=by{rw [JK (GI _)];rw [Nat.pow_succ] at H;omega});first|omega|exact λ_=>ae)};{refine ⟨u*2 ^ (52 - L),?_,?_,λ_=>rfl,λh=>absurd h X,?_⟩;{have:=DI (2 ^ (52 - L)) aa;rw [<-FK,show L+(52 - L)=52 by omega] at this;exact this};{have:=DI (2 ^ (52 - L)) (MR H);rw [<-FK,show L+1+(52 - L)=53 by omega] at this;exact this};{rw [show (place - (place+(L:Int) - 52)).toNat=52 - L by omega,show (place+(L:Int) - 52 - place).toNat=0 by omega,aAR,FD]}}
 obtain ⟨A,ai,aj,ak,al,am⟩:=ah;refine ⟨A,ai,aj,ak,al,?_⟩;unfold Ieee.Format.nearest;rw [AA B];dsimp only;rw [ad,af,am,Bo,xJ,Dq];obtain ⟨t,ag⟩:∃t:Nat,(place+(L:Int) - 52 - -1074).toNat=t/\(t:Int)=place+L+1022:=⟨_,rfl,by omega⟩;rw [ag.1];rw [MB X];by_cases J:A<9007199254740992;{rw [AL J];have:=Yr neg t (A - 4503599627370496) X X;rw [show (t+1)*4503599627370496+(A - 4503599627370496)=t*4503599627370496+A by omega,show 4503599627370496+(A - 4503599627370496)=A by omega,show -1074+(t:Int)=place+L - 52 by omega] at this;exact this};{rw [AA J];have:=Yr neg (t+1) 0 X X;rw [show (t+1+1)*4503599627370496+0=t*4503599627370496+A by omega,show -1074+((t+1:Nat):Int)=place+L - 51 by omega] at this;exact this}
def Ex (x:Nat) (s:Bool) (lo hi:Int):Prop:=∃m p,DD.read x=.number s m p/\ -1074<=p/\m≠0/\m.log2=52/\lo<=p+52/\p+52<=hi
def Ou (x:Nat):Prop:=∃s p,DD.read x=.number s 0 p/\ -1074<=p
def Fi (x:Nat) (lo hi:Int):Prop:=Ou x\/∃s,Ex x s lo hi
theorem Xb {m} (A:4503599627370496<=m) (B:m<9007199254740992):m≠0/\m.log2=52:=by
 have u:m≠0:=X
 have a:=vH (k:=52) u B;have b:=Aj (k:=52) u A;exact ⟨u,by omega⟩
theorem D9 (neg u) (place:Int) (J:u≠0) (aa: -900<=place+u.log2) (ab:place+u.log2<=900):Ex (DD.nearest neg u place) neg (place+u.log2) (place+u.log2+1):=by
 obtain ⟨H,ad,ae,_,_,A⟩:=Il neg u place J aa ab;by_cases B:H<9007199254740992;{rw [AL B] at A;have:=Xb ad B;exact ⟨H,_,A,by omega,this.1,this.2,by omega,by omega⟩};{rw [AA B] at A;exact ⟨_,_,A,by omega,by decide,by decide,by omega,by omega⟩}
theorem L6 (neg place):Ou (DD.nearest neg 0 place):=by
 unfold Ieee.Format.nearest;rw [AL rfl];exact ⟨neg, -1074,Zg neg 0 G,by decide⟩
theorem Ex.wide {x s B u H A} (h:Ex x s B u) (J:H<=B) (aa:u<=A):Ex x s H A:=by
 obtain ⟨m,p,a,b,c,d,e,f⟩:=h;exact ⟨m,p,a,b,c,d,by omega,by omega⟩
theorem Je (neg u) (place H B:Int) (h:u≠0->H<=place+u.log2/\place+u.log2+1<=B) (J: -900<=H) (aa:B<=900):Fi (DD.nearest neg u place) H B:=by
 by_cases A:u=0;{subst A;exact .inl (L6 neg place)};{have:=h A;exact .inr ⟨neg,(D9 neg u place A X X).wide X X⟩}
theorem Yg (n) (ae:n≠0) (H:n.natAbs.log2<=52):DD.read (floatOfInt .f64 n)=.number (decide (n<0)) (n.natAbs*2 ^ (52 - n.natAbs.log2)) ((n.natAbs.log2:Int) - 52):=by
 have B:n.natAbs≠0:=X
 obtain ⟨ad,af,ag,ab,_,u⟩:=Il (decide (n<0)) n.natAbs 0 B X X;have A:=ab H;have J:=sQ n.natAbs;have aa:ad<9007199254740992:=by
  rw [A];have:=JC J (GI (52 - n.natAbs.log2));rw [<-FK,show n.natAbs.log2+1+(52 - n.natAbs.log2)=53 by omega] at this;exact this
 rw [AL aa,A,Int.zero_add] at u;exact u
theorem wJ (n) (H:n≠0) (A:n.natAbs<2 ^ 40):Ex (floatOfInt .f64 n) (decide (n<0)) 0 40:=by
 have u:n.natAbs≠0:=X
 have B:=vH (k:=39) u A;have:=D9 (decide (n<0)) n.natAbs 0 u X X;exact this.wide X X
theorem aFt (n) (A:n.natAbs<2 ^ 40):Fi (floatOfInt .f64 n) 0 40:=by
 by_cases u:n=0;{subst u;refine .inl ?_;change Ou (DD.nearest (decide ((0:Int)<0)) 0 0);exact L6 _ 0};{exact .inr ⟨_,wJ n u A⟩}
theorem aGI {a b} (ad:a.log2=52) (ae:b.log2=52) (aa:a≠0) (ab:b≠0):104<=(a*b).log2/\(a*b).log2<=105:=by
 have A:=xZ aa;have B:=sQ a;have H:=xZ ab;have J:=sQ b;rw [ad] at A B;rw [ae] at H J;have u:=Nat.mul_ne_zero aa ab;exact ⟨Aj u (by have:=Nat.mul_le_mul A H;rw [<-FK] at this;exact this),vH u (by have:=Nat.mul_lt_mul'' B J;rw [<-FK] at this;exact this)⟩
theorem aC2 {x y a b c d} (ad:Fi x a b) (ae:Fi y c d) (ah: -800<=a+c) (ai:b+d<=800):∃r,DD.mul x y=some r/\Fi r (a+c) (b+d+2):=by
 (have key:∀(s t:Bool) (m n:Nat) (i j:Int),DD.read x=.number s m i->DD.read y=.number t n j->(m*n≠0->m.log2=52/\n.log2=52/\a<=i+52/\i+52<=b/\c<=j+52/\j+52<=d)->∃r,DD.mul x y=some r/\Fi r (a+c) (b+d+2):=by{intro s t m n i j u ey ab;refine ⟨DD.nearest (s ^^ t) (m*n) (i+j),?_,Je _ _ _ _ _ (λA=> ?_) X X⟩;{unfold Ieee.Format.mul;rw [u,ey];rfl};{obtain ⟨B,H,J,aa,al,am⟩:=ab A;have:=aGI B H (λe=>A (by rw [e,MS])) (λe=>A (by rw [e,Nat.mul_zero]));omega}});rcases ad with ⟨s,i,u,_⟩|⟨s,m,i,u,_,aj,af,B,H⟩<;>rcases ae with ⟨t,j,ey,_⟩|⟨t,n,j,ey,_,ak,ag,J,aa⟩;{exact key s t 0 0 i j u ey (λh=>absurd (MS _) h)};{exact key s t 0 n i j u ey (λh=>absurd (MS _) h)};{exact key s t m 0 i j u ey (λh=>absurd (Nat.mul_zero _) h)};{exact key s t m n i j u ey (λ_=>⟨af,ag,B,H,J,aa⟩)}
theorem Jt {m n} (aa:m.log2=52) (ad:n.log2=52) (J:m≠0) (ab:n≠0):∃q,2*((m<<<54) / n)+((m<<<54) % n !=0).toNat=q/\q≠0/\54<=q.log2/\q.log2<=55:=by
 have u:=xZ J;have A:=sQ m;have B:=xZ ab;have H:=sQ n;rw [aa] at u A;rw [ad] at B H;have hd:(m<<<54)=m*18014398509481984:=by rw [FD]
 have af:9007199254740992<=(m<<<54) / n:=by
  rw [Nat.le_div_iff_mul_le X,hd];omega
 have ag:(m<<<54) / n<36028797018963968:=by
  rw [JK X,hd];omega
 have ae:((m<<<54) % n !=0).toNat<=1:=by cases ((m<<<54) % n !=0)<;>simp
 refine ⟨_,rfl,by omega,Aj X X,vH X X⟩
theorem G5 {x y s t m n i j} (u:DD.read x=.number s m i) (ey:DD.read y=.number t n j) (A:m.log2=52) (H:n.log2=52) (B:n≠0):
  DD.div x y=some (DD.nearest (s ^^ t) (2*((m<<<54) / n)+((m<<<54) % n !=0).toNat) (i - j - 54 - 1)):=by
 unfold Ieee.Format.div;rw [u,ey];unfold Ieee.Datum.quotient;dsimp only;rw [AA B,A,H];rfl
theorem aCN {x y s a b c d} (aa:Fi x a b) (ab:Ex y s c d) (ae: -800<=a - d) (af:b - c<=800):∃r,DD.div x y=some r/\Fi r (a - d - 1) (b - c+1):=by
 obtain ⟨n,j,ey,_,A,B,al,am⟩:=ab;rcases aa with ⟨t,i,u,_⟩|⟨t,m,i,u,_,ad,H,aj,ak⟩;{refine ⟨_,?_,.inl (L6 (t ^^ s) (i - j - (54+52 - (0:Nat).log2:Nat) - 1))⟩;unfold Ieee.Format.div;rw [u,ey];unfold Ieee.Datum.quotient;dsimp only;rw [AA A,B];rw [Nat.zero_shiftLeft,Nat.zero_div,Nat.zero_mod];rfl};{obtain ⟨q,J,ai,ag,ah⟩:=Jt H B ad A;refine ⟨_,G5 u ey H B A,?_⟩;rw [J];exact Je _ _ _ _ _ (λ_=>by omega) X X}
theorem J8 {x y s t a b c d} (aa:Ex x s a b) (ab:Ex y t c d) (af: -800<=a - d) (ag:b - c<=800):∃r,DD.div x y=some r/\Ex r (s ^^ t) (a - d - 1) (b - c+1):=by
 obtain ⟨m,i,H,_,ad,u,aj,ak⟩:=aa;obtain ⟨n,j,ey,_,A,B,al,am⟩:=ab;obtain ⟨q,J,ae,ah,ai⟩:=Jt u B ad A;refine ⟨_,G5 H ey u B A,?_⟩;rw [J];exact (D9 _ q _ ae X X).wide X X
abbrev o6:Nat:=4607182418800017408
theorem Gi:DD.read o6=.number false 4503599627370496 (-52):=by decide
theorem aBw {x a b} (af:Ex x false a b) (ah: -700<=a) (ai:b<=700) (aj:0<=b):∃r,DD.add o6 x=some r/\Ex r false 0 (b+3):=by
 obtain ⟨m,i,ab,_,ao,ag,ar,au⟩:=af;have A:=sQ m;rw [ag] at A;obtain ⟨k,ae⟩:∃k:Nat,min (-52) i= -52 - (k:Int)/\(k:Int)<=700:=⟨(-52 - min (-52) i).toNat,by omega⟩;obtain ⟨j,ak⟩:∃j:Nat,(j:Int)=i - min (-52) i/\(j:Int)<=b+(k:Int):=⟨(i - min (-52) i).toNat,by omega⟩;(have B:((-52:Int) - min (-52) i).toNat=k:=X);(have H:(i - min (-52) i).toNat=j:=X);have am:=GI k;obtain ⟨M,ad⟩:∃M,M=4503599627370496<<<k+m<<<j:=⟨_,rfl⟩;rw [FD,FD] at ad;(have u:M≠0:=X);have an:52+k<=M.log2:=Aj u (by rw [FK];omega);(have al:m*2 ^ j<2 ^ (53+j):=by{rw [FK];exact JC A (GI j)});have ap:2 ^ (53+j)<=2 ^ (53+(b.toNat+k)):=IV G X;(have aq:4503599627370496*2 ^ k<=2 ^ (53+(b.toNat+k)):=by{rw [show (4503599627370496:Nat)=2 ^ 52 from rfl,<-FK];exact IV G X});have av:M.log2<=53+(b.toNat+k):=vH u (by rw [Nat.pow_succ];omega);refine ⟨DD.nearest false M (-52 - (k:Int)),?_,?_⟩;{unfold Ieee.Format.add;rw [Gi,ab];unfold Ieee.Datum.sum;dsimp only;rw [B,H,ae.1];unfold Ieee.signed;simp only [DC,FP,FD];(have J:((4503599627370496*2 ^ k:Nat):Int)+((m*2 ^ j:Nat):Int)=(M:Int):=X);rw [J,AA X];(have aa:decide ((M:Int)<0)=false:=D);rw [aa];rfl};{exact (D9 false M _ u X X).wide X X}
theorem aBn {x a b} (ae:Ex x false a b) (ag: -700<=a) (ai:a<=0) (ah:b<=700) (aj:0<=b):∃r,DD.sub o6 x=some r/\Fi r (a - 52) (b+3):=by
 obtain ⟨m,i,H,_,am,af,ap,aq⟩:=ae;have u:=sQ m;rw [af] at u;obtain ⟨k,ad⟩:∃k:Nat,min (-52) i= -52 - (k:Int)/\(k:Int)<= -a:=⟨(-52 - min (-52) i).toNat,by omega⟩;obtain ⟨j,ak⟩:∃j:Nat,(j:Int)=i - min (-52) i/\(j:Int)<=b+(k:Int):=⟨(i - min (-52) i).toNat,by omega⟩;(have A:((-52:Int) - min (-52) i).toNat=k:=X);(have B:(i - min (-52) i).toNat=j:=X);(have al:m*2 ^ j<2 ^ (53+j):=by{rw [FK];exact JC u (GI j)});have an:2 ^ (53+j)<=2 ^ (53+(b.toNat+k)):=IV G X;(have ao:4503599627370496*2 ^ k<=2 ^ (53+(b.toNat+k)):=by{rw [show (4503599627370496:Nat)=2 ^ 52 from rfl,<-FK];exact IV G X});obtain ⟨M,aa⟩:∃M:Int,M=((4503599627370496*2 ^ k:Nat):Int)+ -((m*2 ^ j:Nat):Int):=⟨_,rfl⟩;(have ab:M.natAbs<2 ^ (53+(b.toNat+k)+1):=by{rw [Nat.pow_succ];omega});refine ⟨DD.nearest (if M=0 then (false&&true) else decide (M<0)) M.natAbs (-52 - (k:Int)),?_,?_⟩;{unfold Ieee.Format.sub;rw [Gi,H];unfold Ieee.Datum.sum Ieee.Datum.opposite;dsimp only;rw [A,B,ad.1];unfold Ieee.signed;simp only [DC,FP,FD,Bool.not_false,IK];rw [<-aa];rfl};{refine Je _ _ _ _ _ (λJ=> ?_) X X;have:=vH J ab;omega}
def gU (l z:Int):Nat:=(DD.div (floatOfInt .f64 l) (floatOfInt .f64 z)).getD 0
def gR (l z:Int):Nat:=(DD.sub o6 (gU l z)).getD 0
def gW (l z a:Int):Nat:=(DD.mul (gR l z) (floatOfInt .f64 a)).getD 0
def gC (l z:Int):Nat:=(DD.add o6 (gU l z)).getD 0
def qL (l z a:Int):Nat:=(DD.div (gW l z a) (gC l z)).getD 0
structure F9 (l z a:Int):Prop where
 u:DD.div (floatOfInt .f64 l) (floatOfInt .f64 z)=some (gU l z)
 r:DD.sub o6 (gU l z)=some (gR l z)
 w:DD.mul (gR l z) (floatOfInt .f64 a)=some (gW l z a)
 c:DD.add o6 (gU l z)=some (gC l z)
 g:DD.div (gW l z a) (gC l z)=some (qL l z a)
 fin:Fi (qL l z a) (-200) 300
theorem getD_some {o r} (h:o=some r):o=some (o.getD 0)/\o.getD 0=r:=by subst h;exact ⟨rfl,rfl⟩
theorem aFU (l z a) (au:1<=l) (av:l<2 ^ 40) (aw:1<=z) (ax:z<2 ^ 40) (af:a.natAbs<2 ^ 40):F9 l z a:=by
 have H:=wJ l X X;have ab:=wJ z X X;rw [BF X] at H ab;obtain ⟨an,aj,u⟩:=J8 H ab X X;obtain ⟨ao,ap⟩:=getD_some aj;change Ex an false (-41) 41 at u;rw [<-ap] at u;obtain ⟨r,ai,J⟩:=aBn u X X X X;obtain ⟨al,am⟩:=getD_some ai;rw [<-am] at J;obtain ⟨w,ak,aa⟩:=aC2 J (aFt a af) X X;obtain ⟨aq,ar⟩:=getD_some ak;rw [<-ar] at aa;obtain ⟨c,ag,A⟩:=aBw u X X X;obtain ⟨c1,c2⟩:=getD_some ag;rw [<-c2] at A;obtain ⟨g,ah,B⟩:=aCN aa A X X;obtain ⟨ad,ae⟩:=getD_some ah;rw [<-ae] at B;refine ⟨ao,al,aq,c1,ad,?_⟩;rcases B with h|⟨s,h⟩;{exact .inl h};{exact .inr ⟨s,h.wide X X⟩}
def fv (x:Nat):Int:=match DD.read x with
 | .number s m p=>Ieee.signed s m (p+1074).toNat
 | _=>0
theorem Fi.num {x a b} (h:Fi x a b):∃s m p,DD.read x=.number s m p/\ -1074<=p:=by
 rcases h with ⟨s,p,e,q⟩|⟨s,m,p,e,q,_⟩;{exact ⟨s,0,p,e,q⟩};{exact ⟨s,m,p,e,q⟩}
theorem Qy (s m a k):Ieee.signed s m (a+k)=Ieee.signed s m a*((2 ^ k:Nat):Int):=by
 unfold Ieee.signed;rw [FD,FD,FK,<-Nat.mul_assoc];cases s
 ·simp
 ·simp [Int.neg_mul]
theorem Fg (x y:Int):compare x y=if x<y then .lt else if x=y then .eq else .gt:=rfl
theorem Zk (x y k):compare (x*((2 ^ k:Nat):Int)) (y*((2 ^ k:Nat):Int))=compare x y:=by
 (have u:(0:Int)<((2 ^ k:Nat):Int):=by have:=GI k;omega);rw [Fg,Fg];have A:x*((2 ^ k:Nat):Int)<y*((2 ^ k:Nat):Int)↔x<y:=⟨λh=>Int.lt_of_mul_lt_mul_right h (Int.le_of_lt u),λh=>Int.mul_lt_mul_of_pos_right h u⟩;have B:x*((2 ^ k:Nat):Int)=y*((2 ^ k:Nat):Int)↔x=y:=⟨λh=>Int.eq_of_mul_eq_mul_right X h,λh=>by rw [h]⟩;simp only [A,B]
theorem Uo {x y a b c d} (A:Fi x a b) (B:Fi y c d):DD.order x y=some (compare (fv x) (fv y)):=by
 obtain ⟨s,m,i,u,H⟩:=A.num;obtain ⟨t,n,j,ey,J⟩:=B.num;unfold Ieee.Format.order fv;rw [u,ey];unfold Ieee.Datum.order;dsimp only;obtain ⟨k,aa⟩:∃k:Nat,(k:Int)=min i j+1074:=⟨(min i j+1074).toNat,by omega⟩;rw [show (i+1074).toNat=(i - min i j).toNat+k by omega,show (j+1074).toNat=(j - min i j).toNat+k by omega,Qy,Qy,Zk]
theorem aGL {x a b} (u:Fi x a b):DD.order x x=some .eq:=by
 rw [Uo u u,Fg,AA X,AL rfl]
def qF (x:Nat):Bool:=decide (9223372036854775808<=x)
def uP (x y:Nat):Int:=if fv x<fv y then -1 else if fv y<fv x then 1 else if qF x=qF y then 0 else if qF x=true then -1 else 1
def kT (l:List Nat):Nat->Int
 | 0=> -1
 | j+1=>if kT l j<0\/0<uP (l.getD j 0) (l.getD (kT l j).toNat 0) then (j:Int) else kT l j
def rW (l:List Nat):Int:=kT l l.length
theorem Ko (l:List Nat):∀j,kT l j<j/\ -1<=kT l j
 | 0=>by unfold kT;omega
 | j+1=>by
  have:=Ko l j;unfold kT;split<;>omega
theorem aCc (l j) (u:0<j):0<=kT l j:=by
 obtain ⟨j,rfl⟩:∃i,j=i+1:=⟨j - 1,by omega⟩;unfold kT;split<;>omega
theorem Y9 {x a b} (h:Ex x false a b):0<fv x:=by
 obtain ⟨m,p,e,_,u,_⟩:=h;unfold fv;rw [e];simp only [Ieee.signed,DC,FP,FD];have:=Nat.mul_pos (Nat.pos_of_ne_zero u) (GI (p+1074).toNat);omega
theorem L9:fv 0=0:=by decide
theorem Xk (a b):Fi 0 a b:=.inl ⟨false, -1074,by decide,by decide⟩
theorem Qn:Fi o6 0 0:=.inr ⟨false,4503599627370496, -52,Gi,by decide,by decide,by decide,by decide,by decide⟩
theorem Vu {x m p} (e:DD.read x=.number false m p):fv x=((m*2 ^ (p+1074).toNat:Nat):Int):=by
 unfold fv;rw [e];unfold Ieee.signed;dsimp only;rw [AA (show ¬(false=true) by decide),FD]
theorem aEg:∃j:Nat,j=1022/\fv o6=((4503599627370496*2 ^ j:Nat):Int):=⟨((-52:Int)+1074).toNat,by decide,Vu Gi⟩
theorem Yt {x m p} (e:DD.read x=.number false m p) (J:m<9007199254740992) (ad:p<= -53) (aa: -1074<=p):fv x<fv o6:=by
 obtain ⟨j,B,u⟩:=aEg;rw [u,Vu e];obtain ⟨k,H⟩:∃k:Nat,(p+1074).toNat=k/\k<=1021:=⟨_,rfl,by omega⟩;rw [H.1];have ab:=JC J (GI k);have A:2 ^ (k+1)<=2 ^ j:=IV G X;rw [Nat.pow_succ] at A;clear B;omega
theorem aFQ (l) (ab:1<=l) (aa:l<67108864):DD.div (floatOfInt .f64 l) (floatOfInt .f64 l)=some o6:=by
 obtain ⟨m,i,u,_,J,A,_⟩:=wJ l X X;rw [BF X] at u;rw [G5 u u A A J];have B:(m<<<54) / m=18014398509481984:=by
  rw [FD,LK,Nat.mul_div_cancel _ X]
 have H:(m<<<54) % m=0:=by
  rw [FD,LK,Nat.mul_mod_left]
 rw [B,H,show i - i - 54 - 1=(-55:Int) by omega];decide
theorem aC8 (l z) (ai:1<=l) (bn:l<z) (bi:z<67108864):∃p,DD.div (floatOfInt .f64 l) (floatOfInt .f64 z)=some p/\fv p<fv o6:=by
 obtain ⟨a,rfl⟩:∃a:Nat,l=a:=⟨l.toNat,by omega⟩;obtain ⟨c,rfl⟩:∃c:Nat,z=c:=⟨z.toNat,by omega⟩;(have ah:a≠0:=X);have J:c≠0:=X
 have ay:=vH (k:=25) ah X;have az:=vH (k:=25) J X;have ae:=Yg a X (by rw [Int.natAbs_natCast];omega);have ey:=Yg c X (by rw [Int.natAbs_natCast];omega);rw [BF X,Int.natAbs_natCast] at ae ey;have a1:=xZ ah;have a2:=sQ a;have c1:=xZ J;have c2:=sQ c;have bl:a.log2<=c.log2:=Aj J X;generalize a.log2=u at*;generalize c.log2=v at*;have af:∀(n k:Nat),k<=25->2 ^ k<=n->n<2 ^ (k+1)->n*2 ^ (52 - k)≠0/\(n*2 ^ (52 - k)).log2=52:=λn k A H ag=>by
  have ab:=DI (2 ^ (52 - k)) H;have ad:=JC ag (GI (52 - k));rw [<-FK,show k+(52 - k)=52 by omega] at ab;rw [<-FK,show k+1+(52 - k)=53 by omega] at ad;exact Xb ab ad
 obtain ⟨bb,al⟩:=af a u ay a1 a2;obtain ⟨am,an⟩:=af c v az c1 c2;refine ⟨_,G5 ae ey al an am,?_⟩;obtain ⟨q,aj,ao,bv,bw⟩:=Jt al an bb am;obtain ⟨e,rfl⟩:∃e,v=u+e:=⟨v - u,by omega⟩;(have aq:(a*2 ^ (52 - u))<<<54 / (c*2 ^ (52 - (u+e)))=a*2 ^ (54+e) / c:=by{rw [FD,Nat.mul_assoc,<-FK,show 52 - u+54=(54+e)+(52 - (u+e)) by omega,FK 2 (54+e),<-Nat.mul_assoc,Nat.mul_div_mul_right _ _ (GI _)]});(have bh:18014398509481984<=2 ^ (54+e):=by{rw [FK];have:=Nat.mul_le_mul_left 18014398509481984 (Nat.one_le_two_pow (n:=e));omega});(have bp:a*2 ^ (54+e) / c<=2 ^ (54+e) - 268435456:=by{rw [<-Nat.lt_succ_iff,JK X];have H:a*2 ^ (54+e)<=(c - 1)*2 ^ (54+e):=DI _ X;rw [Nat.sub_mul,Nat.one_mul] at H;(have ag:c*268435456<=2 ^ (54+e):=X);(have bc:(2 ^ (54+e) - 268435456+1)*c=2 ^ (54+e)*c - 268435456*c+c:=by{rw [MM,Nat.sub_mul,Nat.one_mul]});have bd:268435456*c=c*268435456:=LK _ _;have be:2 ^ (54+e)*c=c*2 ^ (54+e):=LK _ _;have bf:=DI c X;have bg:2 ^ (54+e)<=c*2 ^ (54+e):=Nat.le_mul_of_pos_left _ X;show _<(2 ^ (54+e) - 268435456+1)*c;omega});(have bq:(((a*2 ^ (52 - u))<<<54) % (c*2 ^ (52 - (u+e))) !=0).toNat<=1:=by cases (((a*2 ^ (52 - u))<<<54) % (c*2 ^ (52 - (u+e))) !=0)<;>simp);rw [aj];rw [aq] at aj;(have ak:q<=2*2 ^ (54+e) - 536870911:=X);have bo:q.log2<=54+e:=vH ao (by rw [Nat.pow_succ];omega);(have au:((u:Int) - 52 - (((u+e:Nat):Int) - 52) - 54 - 1)= -(e:Int) - 55:=X);rw [au];(have bj:(e:Int)<=25:=X);obtain ⟨ax,br,bt,_,av,B⟩:=Il (false ^^ false) q (-(e:Int) - 55) ao X X;obtain ⟨bu,aa⟩:=av X;by_cases A:ax<9007199254740992;{rw [AL A] at B;exact Yt B A X X};{rw [AA A] at B;refine Yt B G ?_ X;rcases BJ q.log2 (54+e) with bm|bk;{omega};{exfalso;have ai:q.log2=54+e:=X;rw [ai] at aa;have ar:e=0\/e=1:=X;rcases ar with rfl|rfl;{have aw:=aa;have ap:=ak;omega};{have aw:=aa;have ap:=ak;omega}}}
open Go.RowKit
theorem Tryz.yN:(prog.info? 36).map (·.size)=some 14:=by kernel_rfl
theorem aCh (w):(Instr.typeAssert .nilIface 20 260 true).run prog w=.ok (.tuple #[.agg #[Z 0],false]) w:=by kernel_rfl
set_option maxRecDepth 10000 in
theorem Ku (p q w):
  CallsD prog 241 #[p,q] .returning w λe B w'=>e=.returned (.tuple #[])/\B=.returning/\w'=w.alloc (.cells #[Z 0] 260):=by
 refine callsD_of_wpS func241 rfl λu cs A=> ?_;apply wpS_seq;apply LY;simp [wpOpsS,go_sem,recoverD,A,ntmps241,Exit.thenS,aCh,Array.replicate,List.replicate];apply wpS_seq;apply LY;simp [wpOpsS,go_sem,Exit.thenS];refine wpS_cond (t:=false) (by simp [Act.eval]) ?_;simp only [DC,FP];refine wpS_of_wp (wp_skip ?_);cases u
 simp_all [bodyPostS,results,results241]
theorem aGM (e b off l c a2 a3 a4 w) (B:Ey w e b off l c) (P:World->Prop) (H:Calls prog 179 #[Y a2,Y a3,Y a4] ((w.alloc (.cells #[Y e] 203)).alloc (.cells #[.slice (some (I b off)) l c] 27)) λx w'=>x=.returned (.tuple #[])/\P w'):
  Calls prog 178 #[Y e,.func (Fn.func 179) #[] #[Y a2,Y a3,Y a4]] w λx w'=>x=.returned (.tuple #[])/\∃u,P u/\Fr No u w':=by
 have ah:∀(fn:Fn) (first cap:Array Value) (w:World),(Instr.makeFunc fn first cap).run prog w=.ok (.func fn first cap) w:=λ_ _ _ _=>rfl;have A:Fr No w (w.alloc (.cells #[Y e] 203)):=(Fr.refl w).alloc _;have ag:(w.alloc (.cells #[Y e] 203)).cell? (I e 0)=some (.bool true):=A.cell_of (by rw [aA B];rfl) id;have c1:(w.alloc (.cells #[Y e] 203)).cell? (I e 1)=some (.slice (some (I b off)) l c):=A.cell_of (by rw [aA B];rfl) id;have c2:(w.alloc (.cells #[Y e] 203)).cell? (I e 2)=some (Z 0):=A.cell_of (by rw [aA B];rfl) id;have aa:=lH H;clear H A B
 go_enter_defers func178,ntmps178
 go_wp2_with fail;with_reducible refine aa.o.mono ?_
 rintro x u ⟨rfl,J⟩;have ab:=lH J;clear J;go_wp2_with fail;refine ND (f:=241) (args:= #[Y (w.heap.size+1),Y w.heap.size]) D (by simp [go_sem]) ?_;refine (Ku _ _ _).mono ?_;rintro e' ai af ⟨rfl,rfl,ae⟩;have ad:Fr No u af:=by rw [ae];exact (Fr.refl u).alloc _
 simp [Leaves,settle,results,results178,go_sem];exact ⟨u,ab,ad⟩
theorem aEs (e b off l c a2 a3 w) (B:Ey w e b off l c) (P:World->Prop) (H:Calls prog 182 #[Y a2,Y a3] ((w.alloc (.cells #[Y e] 203)).alloc (.cells #[.slice (some (I b off)) l c] 27)) λx w'=>x=.returned (.tuple #[])/\P w'):
  Calls prog 178 #[Y e,.func (Fn.func 182) #[] #[Y a2,Y a3]] w λx w'=>x=.returned (.tuple #[])/\∃u,P u/\Fr No u w':=by
 have ah:∀(fn:Fn) (first cap:Array Value) (w:World),(Instr.makeFunc fn first cap).run prog w=.ok (.func fn first cap) w:=λ_ _ _ _=>rfl;have A:Fr No w (w.alloc (.cells #[Y e] 203)):=(Fr.refl w).alloc _;have ag:(w.alloc (.cells #[Y e] 203)).cell? (I e 0)=some (.bool true):=A.cell_of (by rw [aA B];rfl) id;have c1:(w.alloc (.cells #[Y e] 203)).cell? (I e 1)=some (.slice (some (I b off)) l c):=A.cell_of (by rw [aA B];rfl) id;have c2:(w.alloc (.cells #[Y e] 203)).cell? (I e 2)=some (Z 0):=A.cell_of (by rw [aA B];rfl) id;have aa:=lH H;clear H A B
 go_enter_defers func178,ntmps178
 go_wp2_with fail;with_reducible refine aa.o.mono ?_
 rintro x u ⟨rfl,J⟩;have ab:=lH J;clear J;go_wp2_with fail;refine ND (f:=241) (args:= #[Y (w.heap.size+1),Y w.heap.size]) D (by simp [go_sem]) ?_;refine (Ku _ _ _).mono ?_;rintro e' ai af ⟨rfl,rfl,ae⟩;have ad:Fr No u af:=by rw [ae];exact (Fr.refl u).alloc _
 simp [Leaves,settle,results,results178,go_sem];exact ⟨u,ab,ad⟩
theorem aEl (e b off l c a2 a3 a4 w) (B:Ey w e b off l c) (P:World->Prop) (H:Calls prog 184 #[Y a2,Y a3,Y a4] ((w.alloc (.cells #[Y e] 203)).alloc (.cells #[.slice (some (I b off)) l c] 27)) λx w'=>x=.returned (.tuple #[])/\P w'):
  Calls prog 178 #[Y e,.func (Fn.func 184) #[] #[Y a2,Y a3,Y a4]] w λx w'=>x=.returned (.tuple #[])/\∃u,P u/\Fr No u w':=by
 have ah:∀(fn:Fn) (first cap:Array Value) (w:World),(Instr.makeFunc fn first cap).run prog w=.ok (.func fn first cap) w:=λ_ _ _ _=>rfl;have A:Fr No w (w.alloc (.cells #[Y e] 203)):=(Fr.refl w).alloc _;have ag:(w.alloc (.cells #[Y e] 203)).cell? (I e 0)=some (.bool true):=A.cell_of (by rw [aA B];rfl) id;have c1:(w.alloc (.cells #[Y e] 203)).cell? (I e 1)=some (.slice (some (I b off)) l c):=A.cell_of (by rw [aA B];rfl) id;have c2:(w.alloc (.cells #[Y e] 203)).cell? (I e 2)=some (Z 0):=A.cell_of (by rw [aA B];rfl) id;have aa:=lH H;clear H A B
 go_enter_defers func178,ntmps178
 go_wp2_with fail;with_reducible refine aa.o.mono ?_
 rintro x u ⟨rfl,J⟩;have ab:=lH J;clear J;go_wp2_with fail;refine ND (f:=241) (args:= #[Y (w.heap.size+1),Y w.heap.size]) D (by simp [go_sem]) ?_;refine (Ku _ _ _).mono ?_;rintro e' ai af ⟨rfl,rfl,ae⟩;have ad:Fr No u af:=by rw [ae];exact (Fr.refl u).alloc _
 simp [Leaves,settle,results,results178,go_sem];exact ⟨u,ab,ad⟩
theorem Le (e b off l c w) (u:Ey w e b off l c):Calls prog 181 #[Y e] w λx w'=>x=.returned (Z 0)/\Fr No w w':=by
 have A:w.cell? (I e 0)=some (.bool true):=by rw [aA u];rfl
 have c2:w.cell? (I e 2)=some (Z 0):=by rw [aA u];rfl
 clear u;go_enter func181,ntmps181;go_wp2_with fail;exact AZ (v:=Z 0) (by simp [results,results181,go_sem]) rfl ⟨rfl,Fr.refl _⟩
theorem Qp (e b off c w) (B:Ey w e b off 0 c):Calls prog 177 #[Y e] w λx w'=>x=.returned (Z 0)/\Fr No w w':=by
 have A:=lH B;clear B;go_enter func177,ntmps177;go_wp2_with fail;refine (Le e b off 0 c w A).mono ?_;rintro x J ⟨rfl,u⟩;have c1:J.cell? (I e 1)=some (.slice (some (I b off)) 0 c):=u.cell_of (by rw [aA A.o];rfl) id;have H:=lH u;clear u;go_wp2_with fail;exact AZ (v:=Z 0) (by simp [results,results177,go_sem]) rfl ⟨rfl,H⟩
theorem aCL (v bs b off c w) (h:fB w v bs b off c) (ae:bs.length<=1000000):
  Calls prog 176 #[v] w λx w'=>∃e u A,x=.returned (Y e)/\Ey w' e u 0 bs.length A/\fB w' (O u bs.length A) bs u 0 A/\u≠e/\w.heap.size<=e/\w.heap.size<=u/\Fr No w w':=by
 have ah:=h.1;have ad:=lH (Bf v bs b off c w h ae);subst ah;clear h;go_enter func176,ntmps176;go_wp2_with fail;refine ad.o.mono ?_;rintro x B ⟨aj,u,A,rfl,⟨rfl,sl⟩,af,ab⟩;have J:=lH sl;have aa:=lH ab;have ai:=sl.2.1;clear sl ab;go_wp2_with fail;have H:Fr No B (B.alloc (.cells #[true,O u bs.length A,Z 0] 304)):=(Fr.refl B).alloc _;exact AZ (v:=Y B) (by simp [results,results176,go_sem]) rfl ⟨_,u,A,rfl,aQ B _,⟨rfl,J.o.1,AP J.o.2.1 H.size,λj x ag=>H.cell_of (J.o.2.2 j x ag) id⟩,by omega,aa.o.size,af,aa.o.trans H zq⟩
open Go
section
variable {P:Program} {ops:Array Oper} {Q:Exit->Act->World->Prop} {md:Region.Mode} {S:Act->World->Prop} {T:Nat->Bool}
def pU (P:Program) (ops:Array Oper) (S:Act->World->Prop) (o:Oper) (v:Value) (a:Act):Prop:=
 (Region.wanted o (yielded ops a.tmps)=true/\∀w,(∃b,S b w)->(∃w',(execOp a.eval o).run P w=.ok (.value v) w'/\∀b,S b w->S b w')\/∃f args w1,(execOp a.eval o).run P w=.ok (.enter f args) w1/\Calls P f args w1 (λe w'=>e=.returned v/\∀b,S b w->S b w'))\/
 (Region.wanted o (yielded ops a.tmps)=false/\v=undef)
theorem pU.wpOp {i o v a} (ab:ops[i]? =some o) (ae:pU P ops S o v a) {K w} (u:S a w) (h:∀w',S a w'->K (a.put o.dst v) w'):wpOp P ops Q i K a w:=by
 unfold Go.wpOp;simp only [ab];rcases ae with ⟨H,ad⟩|⟨H,rfl⟩;{simp only [H,IK];refine .inl ?_;rcases ad w ⟨a,u⟩ with ⟨w',B,A⟩|⟨f,args,ag,B,J⟩;{simp only [Oper.wp,B,Oper.upon];exact h w' (A a u)};{simp only [Oper.wp,B,Oper.upon];refine Calls.mono J λe af aa=> ?_;obtain ⟨rfl,A⟩:=aa;exact h af (A a u)}};{simp only [H,DC,FP];exact h w u}
theorem pU.of_same {o v a u} (H:pU P ops S o v a) (A:execOp u.eval o=execOp a.eval o) (B:Region.wanted o (yielded ops u.tmps)=Region.wanted o (yielded ops a.tmps)):pU P ops S o v u:=by
 unfold pU at*;rw [A,B];exact H
theorem aEW {j u B v} (ak:ops[j]? =some B) (aj:u.apart ops B=true) (am:∀cs b,u.op≠ .select cs b) (ai:∀cs b,B.op≠ .select cs b) (ag:∀c a w,Q (.panic c) (a.put u.dst v) w->Q (.panic c) a w) {K a w} (H:pU P ops S u v a) (h:wpOp P ops Q j K (a.put u.dst v) w):
  wpOp P ops Q j (λae w'=>pU P ops S u v ae/\K (ae.put u.dst v) w') a w:=by
 obtain ⟨ab,J,af⟩:=Oper.apart_spec aj;have keep:∀(a:Act),pU P ops S u v a->∀A,pU P ops S u v (a.put B.dst A):=λa H A=>
  H.of_same (LW u am a B.dst A af) (wanted_put u a B.dst A af)
 have an:∀d,pU P ops S u v {a with defers:=d::a.defers}:=λd=>H.of_same rfl rfl;unfold wpOp at*;simp only [ak] at*;rw [wanted_put B a u.dst v ab] at h;split;{rename_i ad;simp only [ad,IK] at h;rcases h with h|⟨ah,al⟩;(case inr=>exact .inr ⟨by unfold Oper.asks at*;rw [LW B ai a u.dst v ab] at ah;exact ah,al⟩);refine .inl ?_;unfold Oper.wp at*;rw [LW B ai a u.dst v ab] at h;generalize (execOp a.eval B).run P w=r at*;(cases r with|ok n w'=>{(cases n<;>simp only [Oper.upon] at h ⊢);(case value A=>exact ⟨keep a H A,by rw [<-FI a v A J];exact h⟩);(case skip=>exact ⟨keep a H _,by rw [<-FI a v undef J];exact h⟩);(case defer d=>refine ⟨keep _ (an d) _,?_⟩;rw [<-FI _ v undef J,<-Act.put_defers];exact h);(case enter f args=>refine Calls.mono h λe ao aa=> ?_;(cases e with|returned A=>exact ⟨keep a H A,by rw [<-FI a v A J];exact aa⟩|panicked c=>exact ag _ _ _ aa|outgrown=>exact aa));case row row args=>exact Rows.mono h λA ao aa=>⟨keep a H A,by rw [<-FI a v A J];exact aa⟩}|halt x w'=>{(cases x<;>simp only [Oper.upon] at h ⊢);case panic A=>exact ag _ _ _ h})};{rename_i ad;simp only [ad] at h;exact ⟨keep a H _,by rw [<-FI a v undef J];exact h⟩}
def wX (P:Program) (md:Region.Mode) (ops:Array Oper) (Q:Exit->Act->World->Prop) (S:Act->World->Prop) (T:Nat->Bool):Nat->Array Bool->Act->Prop
 | 0,listed,a=>Region.ready md ops listed= []/\∀w,S a w->Q .normal a w
 | fuel+1,listed,a=>
  (Region.ready md ops listed= []->∀w,S a w->Q .normal a w)/\
  ∀i∈Region.ready md ops listed,∀w,S a w->wpOp P ops Q i (λa' w'=>if T i=true then wpAny P md ops Q fuel (listed.setIfInBounds i true) a' w' else S a' w'/\wX P md ops Q S T fuel (listed.setIfInBounds i true) a') a w
theorem P5:∀(u:Nat) (listed:Array Bool) (a:Act) (w:World),S a w->wX P md ops Q S T u listed a->wpAny P md ops Q u listed a w
 | 0,_,_,w,hS,h=>⟨h.1,h.2 w hS⟩
 | u+1,_,_,w,hS,h=>⟨λJ=>h.1 J w hS,λi H=>IM (λB w' A=>by
   split at A
   ·exact A
   ·exact P5 u _ B w' A.1 A.2) (h.2 i H w hS)⟩
theorem aD7 {i B v} (ag:ops[i]? =some B) (am:∀(j:Nat) (o:Oper) cs b,ops[j]? =some o->o.op≠ .select cs b) (aq:∀c a w,Q (.panic c) (a.put B.dst v) w->Q (.panic c) a w) (ar:T i=false) (af:∀(a:Act) v w,S (a.put B.dst v) w↔S a w):
  ∀(aa:Nat) (listed:Array Bool) (a:Act),
   (∀j J,ops[j]? =some J->j≠i->listed.getD j true=false->(∀e∈J.after,Region.binds md e=true->e.on≠i)->B.apart ops J=true)->
   i∈Region.ready md ops listed->Yields P ops B v a->
   wX P md ops Q S T aa (listed.setIfInBounds i true) (a.put B.dst v)->wX P md ops Q S T (aa+1) listed a:=by
 intro aa;induction aa with
 | zero=>
  intro listed a _ A ai ab;refine ⟨λh=>(by rw [h] at A;cases A),λj ah w ae=> ?_⟩;by_cases u:j=i;{subst u;exact ai.wpOp ag (by rw [AA (by simp [ar])];exact ⟨(af _ _ _).2 ae,ab⟩)};{have:=EX ah u;rw [ab.1] at this;cases this}
 | succ aa ih=>
  intro listed a au A ai ab;refine ⟨λh=>(by rw [h] at A;cases A),λj ah w ae=> ?_⟩;by_cases u:j=i;{subst u;exact ai.wpOp ag (by rw [AA (by simp [ar])];exact ⟨(af _ _ _).2 ae,ab⟩)}
  ·have H:=ab.2 j (EX ah u) w ((af _ _ _).2 ae);obtain ⟨ax,J,al,bc⟩:=FC.1 ah;have bj:∀e∈J.after,Region.binds md e=true->e.on≠i:=λe be bd bf=>by
    have H:=bc e be bd;have ao:=(FC.1 A).1;rw [bf] at H;rcases BJ i listed.size with aj|aj;{simp [aj] at ao H;rw [ao] at H;cases H};{simp [CJ aj] at H}
   have az:=wpOp_put al (au j J al u ax bj) (λcs b=>am i B cs b ag) (λcs b=>am j J cs b al) aq ai H;have av:∀k ok,ops[k]? =some ok->k≠i->(listed.setIfInBounds j true).getD k true=false->
     (∀e∈ok.after,Region.binds md e=true->e.on≠i)->B.apart ops ok=true:=λk ok bg bh ay bi=>by
     refine au k ok bg bh ?_ bi;by_cases aw:j=k;{subst aw;exact ax};{rw [IU true aw] at ay;exact ay}
   refine IM (λan w' bb=> ?_) az;obtain ⟨ap,ad⟩:=bb;split at ad;{rename_i ak;rw [AL ak];refine wpAny_first ag am aq aa (listed.setIfInBounds j true) an w' av (EX A (EM u)) ap ?_;rw [DW _ _ u];exact ad};{rename_i ak;rw [AA ak];refine ⟨(af _ _ _).1 ad.1,ih (listed.setIfInBounds j true) an av (EX A (EM u)) ap ?_⟩;rw [DW _ _ u];exact ad.2}
theorem aBQ {i B v} (aq:ops[i]? =some B) (bb:∀(j:Nat) (o:Oper) cs b,ops[j]? =some o->o.op≠ .select cs b) (bg:∀c a w,Q (.panic c) (a.put B.dst v) w->Q (.panic c) a w) (ar:T i=false) (ai:∀(a:Act) v w,S (a.put B.dst v) w↔S a w) (f) (bh:∀t,T t=true->reach md ops f t i=true):
  ∀(ae:Nat) (listed:Array Bool) (a:Act),Closed md ops listed->
   (∀j aa,ops[j]? =some aa->j≠i->listed.getD j true=false->(∀e∈aa.after,Region.binds md e=true->e.on≠i)->B.apart ops aa=true)->
   i∈Region.ready md ops listed->pU P ops S B v a->
   wX P md ops Q S T ae (listed.setIfInBounds i true) (a.put B.dst v)->wX P md ops Q S T (ae+1) listed a:=by
 intro ae;induction ae with
 | zero=>
  intro listed a _ _ A ak ad;refine ⟨λh=>(by rw [h] at A;cases A),λj ag w ah=> ?_⟩;by_cases u:j=i;{subst u;exact ak.wpOp aq ah (λw' am=>by rw [AA (by simp [ar])];exact ⟨(ai _ _ _).2 am,ad⟩)};{have:=EX ag u;rw [ad.1] at this;cases this}
 | succ ae ih=>
  intro listed a av aw A ak ad;refine ⟨λh=>(by rw [h] at A;cases A),λj ag w ah=> ?_⟩;by_cases u:j=i;{subst u;exact ak.wpOp aq ah (λw' am=>by rw [AA (by simp [ar])];exact ⟨(ai _ _ _).2 am,ad⟩)}
  ·have J:=ad.2 j (EX ag u) w ((ai _ _ _).2 ah);obtain ⟨ay,aa,aj,au⟩:=FC.1 ag;have an:¬T j=true:=λan=>by
    have ab:=Bz av f j i (λo az e ap ao=>by rw [aj] at az;cases az;exact au e ap ao) (bh j an);have af:=(FC.1 A).1;rcases BJ i listed.size with H|H;{simp [H] at af ab;rw [af] at ab;cases ab};{simp [CJ H] at ab}
   have bn:∀e∈aa.after,Region.binds md e=true->e.on≠i:=λe ap ao bi=>by
    have J:=au e ap ao;have af:=(FC.1 A).1;rw [bi] at J;rcases BJ i listed.size with H|H;{simp [H] at af J;rw [af] at J;cases J};{simp [CJ H] at J}
   have be:=aEW aj (aw j aa aj u ay bn) (λcs b=>bb i B cs b aq) (λcs b=>bb j aa cs b aj) bg ak J;have bj:∀k ok,ops[k]? =some ok->k≠i->(listed.setIfInBounds j true).getD k true=false->
     (∀e∈ok.after,Region.binds md e=true->e.on≠i)->B.apart ops ok=true:=λk ok bk bl bc bm=>by
     refine aw k ok bk bl ?_ bm;by_cases ax:j=k;{subst ax;exact ay};{rw [IU true ax] at bc;exact bc}
   refine IM (λbd w' ab=> ?_) be;obtain ⟨bf,al⟩:=ab;rw [AA an] at al ⊢;refine ⟨(ai _ _ _).1 al.1,ih (listed.setIfInBounds j true) bd (av.set ag) bj (EX A (EM u)) bf ?_⟩;rw [DW _ _ u];exact al.2
def Md (P:Program) (ops:Array Oper) (Q:Exit->Act->World->Prop) (S:Act->World->Prop) (k:Nat) (L2:List Nat) (a:Act):Prop:=
 ∀w,S a w->wpOp P ops Q k (λa' w'=>S a' w'/\∀w'',S a' w''->wpList P ops Q (L2.filterMap λi=>ops[i]?) a' w'') a w
def seqB (P:Program) (md:Region.Mode) (ops:Array Oper) (Q:Exit->Act->World->Prop) (S:Act->World->Prop) (k:Nat) (L2:List Nat):List Nat->Act->Prop
 | [],a=>Md P ops Q S k L2 a
 | i::r,a=>∃o v,ops[i]? =some o/\(∀(a:Act) v w,S (a.put o.dst v) w↔S a w)/\(Yields P ops o v a\/(rch md ops L2 i=true/\pU P ops S o v a))/\seqB P md ops Q S k L2 r (a.put o.dst v)
theorem aGE (L2 A listed a) (J:L2.length=A) (B:oV md ops listed L2=true) (h:∀w,S a w->wpList P ops Q (L2.filterMap λi=>ops[i]?) a w):wX P md ops Q S (λi=>L2.contains i) A listed a:=by
 have aa:∀w,S a w->wpAny P md ops Q A listed a w:=λw u=>Bh L2 A listed a w J B (h w u);(cases A with|zero=>(have ad:L2= []:=by simpa using J);subst ad;exact ⟨by simpa [oV] using B,λw u=>(aa w u).2⟩|succ f=>refine ⟨λae w u=>(aa w u).1 ae,λi H w u=>IM (λaf w' ab=> ?_) ((aa w u).2 i H)⟩;(cases L2 with|nil=>simp at J|cons t r=>unfold oV at B;rw [BM] at B;rw [JJ B.1,BB] at H;rw [AL (by simp [H])];exact ab))
theorem aAm (ao:Region.noSelect ops=true) (ak:∀c (a:Act) d v w,Q (.panic c) (a.put d v) w->Q (.panic c) a w) (k L2) (av:L2.contains k=false):
  ∀(H:List Nat) (B:Nat) (listed:Array Bool) (a:Act),H.length+(L2.length+1)=B->Closed md ops listed->mX md ops (k::L2) listed H=true->seqB P md ops Q S k L2 H a->wX P md ops Q S (λi=>L2.contains i) B listed a:=by
 intro H;(induction H with|nil=>intro B listed a aa ab u h;(obtain rfl:B=L2.length+1:=by simpa using aa.symm);unfold mX oV at u;rw [BM] at u;have am:=JJ u.1;refine ⟨λag=>(by rw [am] at ag;cases ag),λi A w au=> ?_⟩;rw [am,BB] at A;subst A;refine IM (λap w' af=> ?_) (h w au);rw [AA (by simp only [av];decide)];exact ⟨af.1,aGE L2 _ _ ap rfl u.2 af.2⟩|cons i r ih=>{intro B listed a aa ab u h;obtain ⟨f,rfl⟩:∃f,B=f+1:=⟨r.length+(L2.length+1),by simp at aa;omega⟩;unfold mX at u;simp only [BM,MO] at u;obtain ⟨⟨⟨aq,ah⟩,ai⟩,ar⟩:=u;(have ad:i∈Region.ready md ops listed:=by simpa using aq);(have aj:L2.contains i=false:=by{rw [List.contains_cons,Bool.or_eq_false_iff] at ai;exact ai.2});obtain ⟨o,v,A,al,J,h⟩:=h;have an:=ih f (listed.setIfInBounds i true) (a.put o.dst v) (by simp at aa;omega) (ab.set ad) ar h;rcases J with J|⟨ae,J⟩;{exact aD7 A (HY ao) (λc a w h=>ak c a _ _ w h) aj al f listed a (JH A ah) ad J an};{refine aBQ A (HY ao) (λc a w h=>ak c a _ _ w h) aj al ops.size (λt aw=> ?_) f listed a ab (JH A ah) ad J an;unfold rch at ae;rw [EY] at ae;exact ae t (U aw)}})
def jZ (P:Program) (md:Region.Mode) (ops:Array Oper) (Q:Exit->Act->World->Prop) (S:Act->World->Prop) (k:Nat) (L2:List Nat):Nat->List Oper->Act->Prop
 | _, [],a=>Md P ops Q S k L2 a
 | j,o::rest,a=>if (k::L2).contains j=true then jZ P md ops Q S k L2 (j+1) rest a else ∃v,(∀(a:Act) v w,S (a.put o.dst v) w↔S a w)/\(Yields P ops o v a\/(rch md ops L2 j=true/\pU P ops S o v a))/\jZ P md ops Q S k L2 (j+1) rest (a.put o.dst v)
theorem Ig {k:Nat} {L2:List Nat}:∀(r j:Nat) (a:Act),j+r=ops.size->jZ P md ops Q S k L2 j (ops.toList.drop j) a->seqB P md ops Q S k L2 ((List.range' j r).filter λi=> !(k::L2).contains i) a
 | 0,j,a,hj,h=>by
  obtain rfl:j=ops.size:=by omega
  rw [EJ D] at h;exact h
 | r+1,j,a,hj,h=>by
  have A:j<ops.toList.length:=by simp;omega
  have H:ops[j]? =some (ops.toList[j]):=by rw [<-CS];exact AC A
  rw [DL A] at h;unfold jZ at h;rw [List.range'_succ,GL];split at h
  ·rename_i u
   rw [AA (by simp only [u];decide)];exact Ig r (j+1) a X h
  ·rename_i u
   rw [AL (U u)];obtain ⟨v,B,J,h⟩:=h;exact ⟨_,v,H,B,J,Ig r (j+1) _ X h⟩
theorem xE {id a w} (ab:P.follows .mixedOrders=true) (S k L2) (ad:Region.noSelect ops=true) (J:L2.contains k=false) (aa:(((List.range' 0 ops.size).filter λi=> !(k::L2).contains i).length+(L2.length+1)==ops.size)=true) (H:mX .any ops (k::L2) (Array.replicate ops.size false) ((List.range' 0 ops.size).filter λi=> !(k::L2).contains i)=true) (A:∀c (a:Act) d v w,Q (.panic c) (a.put d v) w->Q (.panic c) a w) (B:S a w.drew) (h:jZ P .any ops Q S k L2 0 ops.toList a):(Code.region id ops true).wp P Q a w:=by
 refine wp_region_any ab ?_;refine P5 _ _ _ _ B (aAm ad A k L2 J _ ops.size _ a (JJ aa) (λj o ae u=> ?_) H (Ig ops.size 0 a X (U h)));rw [EF,IP] at u;split at u<;>cases u
end
section
variable {P:Program} {ops:Array Oper} {Q:Exit->Act->World->Prop} {md:Region.Mode} {S:Act->World->Prop}
variable {L2:List Nat} {k j:Nat} {o:Oper} {rest:List Oper} {a:Act} {v:Value}
theorem uY (u:(k::L2).contains j=true) (h:jZ P md ops Q S k L2 (j+1) rest a):jZ P md ops Q S k L2 j (o::rest) a:=by
 unfold jZ;rw [AL u];exact h
theorem vF (A:(k::L2).contains j=false) (u:∀(a:Act) v w,S (a.put o.dst v) w↔S a w) (B:Region.wanted o (yielded ops a.tmps)=true) (h:∀w,(execOp a.eval o).run P w=.ok (.value v) w) (r:jZ P md ops Q S k L2 (j+1) rest (a.put o.dst v)):jZ P md ops Q S k L2 j (o::rest) a:=by
 unfold jZ;rw [AA (by simp only [A];decide)];exact ⟨v,u,.inl (.inl ⟨B,h⟩),r⟩
theorem wG (H:(k::L2).contains j=false) (A:∀(a:Act) v w,S (a.put o.dst v) w↔S a w) (B:rch md ops L2 j=true) (J:Region.wanted o (yielded ops a.tmps)=true) (h:∀w,(∃b,S b w)->(execOp a.eval o).run P w=.ok (.value v) w) (r:jZ P md ops Q S k L2 (j+1) rest (a.put o.dst v)):jZ P md ops Q S k L2 j (o::rest) a:=by
 unfold jZ;rw [AA (by simp only [H];decide)];exact ⟨v,A,.inr ⟨B,.inl ⟨J,λw u=> .inl ⟨w,h w u,λ_ h=>h⟩⟩⟩,r⟩
theorem H7 (f args) (J:(k::L2).contains j=false) (A:∀(a:Act) v w,S (a.put o.dst v) w↔S a w) (B:rch md ops L2 j=true) (aa:Region.wanted o (yielded ops a.tmps)=true) (h:∀w,(execOp a.eval o).run P w=.ok (.enter f args) w) (H:∀w,(∃b,S b w)->Calls P f args w (λe w'=>e=.returned v/\∀b,S b w->S b w')) (r:jZ P md ops Q S k L2 (j+1) rest (a.put o.dst v)):jZ P md ops Q S k L2 j (o::rest) a:=by
 unfold jZ;rw [AA (by simp only [J];decide)];exact ⟨v,A,.inr ⟨B,.inl ⟨aa,λw u=> .inr ⟨f,args,w,h w,H w u⟩⟩⟩,r⟩
theorem xX (J:ops[k]? =some o) (ab:Region.wanted o (yielded ops a.tmps)=true)
  (h:∀w,S a w->∃v w',(execOp a.eval o).run P w=.ok (.value v) w'/\S (a.put o.dst v) w'/\∀u,S (a.put o.dst v) u->wpList P ops Q (L2.filterMap λi=>ops[i]?) (a.put o.dst v) u):Md P ops Q S k L2 a:=by
 intro w H;obtain ⟨v,w',aa,A,B⟩:=h w H;unfold wpOp;simp only [J,ab,IK];refine .inl ?_;simp only [Oper.wp,aa,Oper.upon];exact ⟨A,B⟩
end
open Go.WideElems (Fit rd rg pl rd_val rd_key rg_of rd_mk other_key)
open Go.MapKept Go.ChangeMaps
section
variable {K V:Type} {E:Enc K V} {w w':World} {b c r:Nat} {m:K->Option V} {left:K->Bool} {cnt:Nat}
theorem jJ.aEc [DecidableEq K] (h:jJ E w b r c m left cnt) (x y) (ay:E.good x) (ar:(m x).isSome=true) (az:E.fine y) (bg:c<4611686018427387904) {t e} (ai:prog.underlying t=some (.map E.k e)) {zv} (cb:(zeroValue e).run prog w=.ok zv w):
  ∃w',(Instr.mapUpdate t (.map (some b)) (E.ek x) (E.ev y)).run prog w=.ok () w'/\jJ E w' b r c (λz=>if z=x then some y else m z) left cnt/\Fr (· =b) w w':=by
 obtain ⟨w',aw,au,an⟩:=h.map.put x y ay az bg ai;rw [AL ar] at au;refine ⟨w',aw,?_,an⟩;have bp:=h.ne;obtain ⟨D,cd,⟨es,clock,ce,seen,bd,H,F,ck,rfl,br,bq,bh,bn,bo,bv,bw⟩,u,T,bm⟩:=h;obtain ⟨cg,⟨ci,ch,ag,F',bt,rfl⟩,ca,bc⟩:=au;have aa:=E.key x ay;have bk:=F.keys;rcases E.law.find w aa es.toList bk with ⟨aj,A⟩|⟨j,e0,aj,A,ak⟩;{exfalso;obtain ⟨y0,bz⟩:=EK.1 ar;obtain ⟨_,_,ao,cj⟩:=T.some x y0 bz;rcases Maps.fit_look false E.law ai cb H F aa with ⟨_,_,bf⟩|⟨e0,y1,ah,bj,_⟩;{rw [Maps.has_false_of_atKey bf] at ao;cases ao};{exact A e0 ah bj}}
 ·(have bi:es[j]? =some e0:=by simpa using A);(have ax:(Instr.mapUpdate t (.map (some b)) (E.ek x) (E.ev y)).run prog w=.ok () (setBlock w b (.map (es.modify j (λe'=>{e' with key:=E.ek x,val:=E.ev y})) clock)):=by{simp [Instr.mapUpdate,EC ai,EI H,E.law.check w false aa,aj,bi,ak,E.law.stays w aa,FV _ H,Result.andThen,setBlock]});rw [aw] at ax;(have bx:w'=setBlock w b (.map (es.modify j (λe'=>{e' with key:=E.ek x,val:=E.ev y})) clock):=by{injection ax});(have al:w'.heap[b]? =some (.map (es.modify j (λe'=>{e' with key:=E.ek x,val:=E.ev y})) clock):=by rw [bx];exact heap_setBlock_same H _);rw [al] at ag;simp only [FO,Obj.map.injEq] at ag;obtain ⟨rfl,rfl⟩:=ag;(have af:(es.modify j (λe'=>{e' with key:=E.ek x,val:=E.ev y})).toList=es.toList.set j {e0 with key:=E.ek x,val:=E.ev y}:=by rw [KA,modify_eq_set _ _ _ _ A]);(have aq:(rg prog E.k E.R {e0 with key:=E.ek x,val:=E.ev y}).1=(rg prog E.k E.R e0).1:=by{have ah:=DU A;obtain ⟨q,av⟩:=F.reads e0 ah;rw [rg_of av,rg_of (rd_mk (born:=e0.born) aa (E.read y az))];have:=rd_key av;rw [ak,aa] at this;exact FX this});(have bb:∀z∈es.toList.set j {e0 with key:=E.ek x,val:=E.ev y},∃z0∈es.toList,z.born=z0.born/\(rg prog E.k E.R z).1=(rg prog E.k E.R z0).1:=by{intro z u;obtain ⟨i,ad,B⟩:=NE u;rw [List.getElem_set] at B;split at B;{subst B;exact ⟨e0,DU A,rfl,aq⟩};{subst B;exact ⟨_,BL (U ad),rfl,rfl⟩}});have cf:∀z0∈es.toList,∃z∈es.toList.set j {e0 with key:=E.ek x,val:=E.ev y},(rg prog E.k E.R z).1=(rg prog E.k E.R z0).1:=by{intro z0 J;obtain ⟨i,ad,B⟩:=NE J;by_cases ap:j=i;{subst ap;refine ⟨_,List.mem_iff_getElem.2 ⟨j,by simpa using ad,rfl⟩,?_⟩;rw [List.getElem_set_self,aq];rw [AC ad] at A;rw [<-B,FX A]};{refine ⟨_,List.mem_iff_getElem.2 ⟨i,by simpa using ad,rfl⟩,?_⟩;rw [List.getElem_set_ne ap,B]}}
  have am:∀a:Array MapEntry,(leftOf a seen).size=(a.toList.filter λe=> !seen.contains e.born).length:=λa=>by
   unfold leftOf;rw [<-Array.toList_filter,NF]
  (have bu:∀(l:List MapEntry) (j:Nat) (z ae:MapEntry),l[j]? =some z->ae.born=z.born->((l.set j ae).filter λe=> !seen.contains e.born).length=(l.filter λe=> !seen.contains e.born).length:=by{intro l;(induction l with|nil=>intro j z ae h;simp at h|cons a r ih=>intro j z ae h H;(cases j with|zero=>simp only [EQ,FO] at h;subst h;simp only [aI,GL,H];split<;>rfl|succ j=>simp only [ED] at h;have:=ih j z ae h H;simp only [lsS,GL];split;{simp only [BU,this]};{exact this}))});refine ⟨_,cd,⟨_,_,ce,seen,bd,al,F',bt,rfl,an.aB br (λe=>bp e),?_,?_,?_,?_,bv,bw⟩,ca,bc,bm⟩;{intro z u;rw [af] at u;obtain ⟨z0,J,ab,_⟩:=bb z u;rw [ab];exact bq z0 J};{rw [am,af,bu es.toList j e0 {e0 with key:=E.ek x,val:=E.ev y} A rfl,<-am];exact bh};{intro z u;rw [af] at u;obtain ⟨z0,J,ab,be⟩:=bb z u;rw [ab,be];exact bn z0 J};{intro cc bl;obtain ⟨z0,J,rfl⟩:=bo cc bl;obtain ⟨z,u,ab⟩:=cf z0 J;exact ⟨z,by rw [af];exact u,ab⟩}
theorem jJ.aGB [DecidableEq K] (h:jJ E w b r c m left cnt) (x) (H:E.good x) {t e} (af:prog.underlying t=some (.map E.k e)) (J):
  ∃w' B,(Builtin.delete_ #[t,E.k] J #[.map (some b),E.ek x]).run prog w=.ok (.tuple #[]) w'/\jJ E w' b r (if (m x).isSome then c - 1 else c) (λz=>if z=x then none else m z) (λz=>left z&&decide (z≠x)) B/\B<=cnt/\Fr (· =b) w w':=by
 obtain ⟨w',ad,ay,av⟩:=h.map.del x H af J;obtain ⟨D,ah,ar,bh,T,aw⟩:=h;obtain ⟨bg,B,ae,ab,ax,_⟩:=ar.drop E.law af (E.key x H) J;rw [ad] at ae;(have bb:w'=bg:=by injection ae);subst bb;obtain ⟨ai,aa,bc,aj⟩:=ay;(have au:ai=D.del (E.lk x):=by{obtain ⟨ap,al,A,_,_,an⟩:=aa;obtain ⟨aq,am,u,_,_,ao⟩:=ab.owns;rw [A] at u;simp only [FO,Obj.map.injEq] at u;rw [an,ao,u.1]});subst au;refine ⟨w',B,ad,⟨_,λz=>ah z&& !z.sameKey (E.lk x),?_,bc,aj,λz ag=> ?_⟩,ax,av⟩;{obtain ⟨aq,am,bf,seen,ak,u,bd,bi,be⟩:=ab;obtain ⟨ap,al,A,_,az,_⟩:=aa;rw [A] at u;simp only [FO,Obj.map.injEq] at u;obtain ⟨rfl,rfl⟩:=u;exact ⟨_,_,bf,seen,ak,A,bd,az,be⟩};{show (ah (E.lk z)&& !(E.lk z).sameKey (E.lk x))=(left z&&decide (z≠x));rw [aw z ag];by_cases e:z=x;{subst e;simp [WideAt.sameKey_self (Ap E H)]};{simp [e,Maps.sameKey_ne (λe'=>e (E.zY ag H e'))]}}
end
open Go.WideElems (Fit findIdx_born findIdx_arr modify_last set_self)
section
variable {K V:Type} {E:Enc K V} {w w':World} {b c:Nat} {m:K->Option V}
structure aDq [DecidableEq K] (E:Enc K V) (t:TypeId) (w:World) (b c:Nat) (m:K->Option V) (x:K) (y0:V) (st:Nat) (w1:World):Prop where
 run:(Instr.mapEntry t (.map (some b)) (E.ek x)).run prog w=.ok (.tuple #[E.ev y0,goInt st]) w1
 again:(Instr.mapEntry t (.map (some b)) (E.ek x)).run prog w1=.ok (.tuple #[E.ev y0,goInt st]) w1
 fr:Fr (· =b) w w1
 size:w1.heap.size=w.heap.size
 map1:MapAt E w1 b (if (m x).isSome then c else c+1) (λz=>if z=x then some y0 else m z)
 store:∀y,E.fine y->∃w2,(Instr.entryStore t (.map (some b)) (goInt st) (E.ev y)).run prog w1=.ok () w2/\MapAt E w2 b (if (m x).isSome then c else c+1) (λz=>if z=x then some y else m z)/\Fr (· =b) w1 w2/\w2.heap.size=w1.heap.size
theorem MapAt.entry [DecidableEq K] (h:MapAt E w b c m) (x) (al:E.good x) (aw:c<4611686018427387904) {t e} (H:prog.underlying t=some (.map E.k e)) {z0} (cg:E.fine z0) (ar:∀bt:World,(zeroValue e).run prog bt=.ok (E.ev z0) bt):
  ∃ci cj,aDq E t w b c m x ((m x).getD z0) ci cj:=by
 have A:=E.key x al;(have bz:E.fine ((m x).getD z0):=by{(cases B:m x with|none=>exact cg|some y=>exact (h.good B).2)});obtain ⟨J,bp,cc,ao⟩:=h.put x ((m x).getD z0) al bz aw H;have bq:∀y,E.fine y->∃aa,(Instr.mapUpdate t (.map (some b)) (E.ek x) (E.ev y)).run prog w=.ok () aa/\MapAt E aa b (if (m x).isSome then c else c+1) (λz=>if z=x then some y else m z)/\Fr (· =b) w aa:=λy ad=>h.put x y al ad aw H;have bm:=h.look x al H (ar w) false;obtain ⟨D,⟨es,clock,u,F,cd,rfl⟩,ce,T⟩:=h;obtain ⟨ch,br,_⟩:=F.stamped;rcases E.law.find w A es.toList F.keys with ⟨ae,ab⟩|⟨j,e0,ae,ab,an⟩
 ·(have bf:(Instr.lookup t (.map (some b)) (E.ek x) false).run prog w=.ok (E.ev z0) w:=by{simp [Instr.lookup,EC H,EI u,E.law.check w _ A,ae,ar,Result.andThen]});(have am:E.ev ((m x).getD z0)=E.ev z0:=by{rw [bm] at bf;(cases B:m x with|none=>rfl|some y=>rw [B] at bf;injection bf)});(have ag:J=setBlock w b (.map (es.push ⟨E.ek x,E.ev z0,clock⟩) (clock+1)):=by{(have:(Instr.mapUpdate t (.map (some b)) (E.ek x) (E.ev z0)).run prog w=.ok () (setBlock w b (.map (es.push ⟨E.ek x,E.ev z0,clock⟩) (clock+1))):=by{simp [Instr.mapUpdate,EC H,EI u,E.law.check w false A,ae,FV _ u,Result.andThen,setBlock]});rw [am] at bp;rw [bp] at this;injection this});have av:J.heap[b]? =some (.map (es.push ⟨E.ek x,E.ev z0,clock⟩) (clock+1)):=by rw [ag];exact heap_setBlock_same u _
  have cb:∀e∈(es.push ⟨E.ek x,E.ev z0,clock⟩).toList,∃l,keyOf prog E.k e.key=some l:=λe aj=>by
   rw [KW,BN,BB] at aj;rcases aj with aj|rfl;{exact F.keys e aj};{exact ⟨_,A⟩}
  have bc:(es.push ⟨E.ek x,E.ev z0,clock⟩).findIdx? (λe=>((e.born:Nat):Int)==((clock:Nat):Int))=some es.size:=by
   rw [findIdx_arr];exact findIdx_born (l:=(es.push ⟨E.ek x,E.ev z0,clock⟩).toList) (j:=es.size) (e0:=⟨E.ek x,E.ev z0,clock⟩) (by
    simp only [KW,GX,ET,List.map_nil];refine List.nodup_append.2 ⟨br,by simp,λa bw c aw au=> ?_⟩;simp only [BB] at aw;obtain ⟨y,ad,rfl⟩:=IC.1 bw;have:=ch y ad;omega) (by simp)
  refine ⟨clock,J,?_,?_,ao,by rw [ag];simp [setBlock],cc,λy ad=> ?_⟩;{rw [ag,am];simp [Instr.mapEntry,EC H,EI u,E.law.check w false A,ae,ar,FV _ u,Result.andThen,setBlock]};{rcases E.law.find J A (es.push ⟨E.ek x,E.ev z0,clock⟩).toList cb with ⟨_,ai⟩|⟨j,e0,bu,ai,ay⟩;{exact absurd rfl (ai ⟨E.ek x,E.ev z0,clock⟩ (by simp))};{have bj:=bu;rw [KW] at bj;(have ap:e0=⟨E.ek x,E.ev z0,clock⟩:=by{have B:=DU ai;rw [KW,BN,BB] at B;rcases B with B|B;{exact absurd ay (ab e0 B)};{exact B}});have ca:(es.push ⟨E.ek x,E.ev z0,clock⟩)[j]? =some e0:=(by rw [<-CS];exact ai);(have bi:(es.push ⟨E.ek x,E.ev z0,clock⟩).modify j (λe=>{e with key:=E.ek x})=es.push ⟨E.ek x,E.ev z0,clock⟩:=by{apply Array.ext';rw [KA,modify_eq_set _ _ _ _ ai];have:({e0 with key:=E.ek x}:MapEntry)=e0:=(by rw [<-ay]);rw [this];exact set_self _ _ _ ai});have cf:e0.val=E.ev z0:=(by rw [ap]);have bx:e0.born=clock:=(by rw [ap]);(have bb:setBlock J b (.map (es.push ⟨E.ek x,E.ev z0,clock⟩) (clock+1))=J:=by{rw [ag];simp [setBlock]});(have:(Instr.mapEntry t (.map (some b)) (E.ek x)).run prog J=.ok (.tuple #[e0.val,goInt e0.born]) (setBlock J b (.map (es.push ⟨E.ek x,E.ev z0,clock⟩) (clock+1))):=by{simp [Instr.mapEntry,EC H,EI av,E.law.check J false A,bj,ca,ay,E.law.stays J A,bi,FV _ av,Result.andThen,setBlock]});rw [this,cf,bx,bb,am]}};{obtain ⟨aa,bg,bd,ah⟩:=bq y ad;(have be:(es.push ⟨E.ek x,E.ev z0,clock⟩).modify es.size (λe=>{e with val:=E.ev y})=es.push ⟨E.ek x,E.ev y,clock⟩:=by{apply Array.ext';rw [KA,KW,KW,<-NF,modify_last]});(have ak:aa=setBlock w b (.map (es.push ⟨E.ek x,E.ev y,clock⟩) (clock+1)):=by{(have:(Instr.mapUpdate t (.map (some b)) (E.ek x) (E.ev y)).run prog w=.ok () (setBlock w b (.map (es.push ⟨E.ek x,E.ev y,clock⟩) (clock+1))):=by{simp [Instr.mapUpdate,EC H,EI u,E.law.check w false A,ae,FV _ u,Result.andThen,setBlock]});rw [bg] at this;injection this});(have ax:(Instr.entryStore t (.map (some b)) (goInt clock) (E.ev y)).run prog J=.ok () (setBlock J b (.map (es.push ⟨E.ek x,E.ev y,clock⟩) (clock+1))):=by{simp [Instr.entryStore,EI av,asInt,asIntOf,goInt,bc,be,FV _ av,Result.andThen,setBlock]});(have aj:setBlock J b (.map (es.push ⟨E.ek x,E.ev y,clock⟩) (clock+1))=aa:=by{rw [ak,ag];simp [setBlock]});rw [aj] at ax;refine ⟨aa,ax,?_,?_,by rw [ak,ag];simp [setBlock]⟩;{exact bd};{refine ⟨ah.os.trans ao.os.symm,ah.tape.trans ao.tape.symm,ah.output.trans ao.output.symm,by rw [ak,ag];simp [setBlock],λk bk af=> ?_⟩;have bl:k<w.heap.size:=(by rw [ag] at bk;simpa [setBlock] using bk);rw [ah.block k bl af,ao.block k bl af]}}
 {(have ap:es[j]? =some e0:=by simpa using ab);(have bi:es.modify j (λe=>{e with key:=E.ek x})=es:=by{apply Array.ext';rw [KA,modify_eq_set _ _ _ _ ab];have:({e0 with key:=E.ek x}:MapEntry)=e0:=(by rw [<-an]);rw [this];exact set_self _ _ _ ab});(have aq:(Instr.lookup t (.map (some b)) (E.ek x) false).run prog w=.ok e0.val w:=by{simp [Instr.lookup,EC H,EI u,E.law.check w _ A,ae,Result.andThen]});(have am:E.ev ((m x).getD z0)=e0.val:=by{rw [bm] at aq;(cases B:m x with|none=>{rw [B] at aq;have af:=T.none x al B;rcases Maps.fit_look false E.law H (ar w) u F A with ⟨bh,_,_⟩|⟨au,y,_,_,_,_,az,_⟩;{injection aq};{rw [ML az] at af;cases af}}|some y=>rw [B] at aq;injection aq)});(have bb:setBlock w b (.map es clock)=w:=by{have bn:=lt_of_block u;have ck:w.heap[b]=.map es clock:=(by rw [FQ bn] at u;exact FX u);unfold setBlock;(have:w.heap.setIfInBounds b (.map es clock)=w.heap:=by{apply Array.ext_getElem?;intro i;by_cases e:b=i;{subst e;rw [MW bn,u]};{rw [LU e]}});rw [this]});(have bh:(Instr.mapEntry t (.map (some b)) (E.ek x)).run prog w=.ok (.tuple #[e0.val,goInt e0.born]) w:=by{(have:(Instr.mapEntry t (.map (some b)) (E.ek x)).run prog w=.ok (.tuple #[e0.val,goInt e0.born]) (setBlock w b (.map es clock)):=by{simp [Instr.mapEntry,EC H,EI u,E.law.check w false A,ae,ap,an,E.law.stays w A,bi,FV _ u,Result.andThen,setBlock]});rw [this,bb]});(have bo:(m x).isSome=true:=by{(cases B:m x with|some y=>rfl|none=>{have af:=T.none x al B;rcases Maps.fit_look false E.law H (ar w) u F A with ⟨_,bv,_⟩|⟨au,y,_,_,_,_,az,_⟩;{exact absurd an (bv e0 (DU ab))};{rw [ML az] at af;cases af}})});refine ⟨e0.born,w,by rw [am];exact bh,by rw [am];exact bh,Fr.refl w,rfl,?_,λy ad=> ?_⟩;{rw [AL bo];(have au:(λz=>if z=x then some ((m x).getD z0) else m z)=m:=by{funext z;by_cases e:z=x;{subst e;obtain ⟨y,ad⟩:=EK.1 bo;simp [ad]};{simp [e]}});rw [au];exact ⟨_,⟨es,clock,u,F,cd,rfl⟩,ce,T⟩};{obtain ⟨aa,bg,bd,ah⟩:=bq y ad;(have bc:es.findIdx? (λe=>((e.born:Nat):Int)==((e0.born:Nat):Int))=some j:=by{rw [findIdx_arr];exact findIdx_born br ab});(have be:es.modify j (λe=>{e with val:=E.ev y})=es.modify j (λe'=>{e' with key:=E.ek x,val:=E.ev y}):=by{apply Array.ext';rw [KA,KA,modify_eq_set _ _ _ _ ab,modify_eq_set _ _ _ _ ab,<-an]});(have ak:aa=setBlock w b (.map (es.modify j (λe'=>{e' with key:=E.ek x,val:=E.ev y})) clock):=by{(have:(Instr.mapUpdate t (.map (some b)) (E.ek x) (E.ev y)).run prog w=.ok () (setBlock w b (.map (es.modify j (λe'=>{e' with key:=E.ek x,val:=E.ev y})) clock)):=by{simp [Instr.mapUpdate,EC H,EI u,E.law.check w false A,ae,ap,an,E.law.stays w A,FV _ u,Result.andThen,setBlock]});rw [bg] at this;injection this});(have ax:(Instr.entryStore t (.map (some b)) (goInt e0.born) (E.ev y)).run prog w=.ok () aa:=by{rw [ak];simp [Instr.entryStore,EI u,asInt,asIntOf,goInt,bc,be,FV _ u,Result.andThen,setBlock]});refine ⟨aa,ax,?_,ah,by rw [ak];simp [setBlock]⟩;exact bd}}
end
section
variable {P:Program} {ops:Array Oper} {Q:Exit->Act->World->Prop} {md:Region.Mode} {S:Bool->World->Prop} {T:Nat->Bool} {k:Nat}
theorem sV {listed:Array Bool} {k i} (h:k≠i):(listed.setIfInBounds i true).getD k true=listed.getD k true:=IU true (EM h)
abbrev rM (P:Program) (ops:Array Oper) (S:Bool->World->Prop) (o:Oper) (v:Value) (a:Act):Prop:=∀b,nH P ops (S b) o v a
theorem rM.of_same {o v a u} (H:rM P ops S o v a) (A:execOp u.eval o=execOp a.eval o) (B:Region.wanted o (yielded ops u.tmps)=Region.wanted o (yielded ops a.tmps)):rM P ops S o v u:=λb=>(H b).of_same A B
theorem aB7 {j u B v} (ak:ops[j]? =some B) (aj:u.apart ops B=true) (am:∀cs b,u.op≠ .select cs b) (ai:∀cs b,B.op≠ .select cs b) (ag:∀c a w,Q (.panic c) (a.put u.dst v) w->Q (.panic c) a w) {K a w} (H:rM P ops S u v a) (h:wpOp P ops Q j K (a.put u.dst v) w):
  wpOp P ops Q j (λae w'=>rM P ops S u v ae/\K (ae.put u.dst v) w') a w:=by
 obtain ⟨ab,J,af⟩:=Oper.apart_spec aj;have keep:∀(a:Act),rM P ops S u v a->∀A,rM P ops S u v (a.put B.dst A):=λa H A=>
  H.of_same (LW u am a B.dst A af) (wanted_put u a B.dst A af)
 have an:∀d,rM P ops S u v {a with defers:=d::a.defers}:=λd=>H.of_same rfl rfl;unfold wpOp at*;simp only [ak] at*;rw [wanted_put B a u.dst v ab] at h;split;{rename_i ad;simp only [ad,IK] at h;rcases h with h|⟨ah,al⟩;(case inr=>exact .inr ⟨by unfold Oper.asks at*;rw [LW B ai a u.dst v ab] at ah;exact ah,al⟩);refine .inl ?_;unfold Oper.wp at*;rw [LW B ai a u.dst v ab] at h;generalize (execOp a.eval B).run P w=r at*;(cases r with|ok n w'=>{(cases n<;>simp only [Oper.upon] at h ⊢);(case value A=>exact ⟨keep a H A,by rw [<-FI a v A J];exact h⟩);(case skip=>exact ⟨keep a H _,by rw [<-FI a v undef J];exact h⟩);(case defer d=>refine ⟨keep _ (an d) _,?_⟩;rw [<-FI _ v undef J,<-Act.put_defers];exact h);(case enter f args=>refine Calls.mono h λe ao aa=> ?_;(cases e with|returned A=>exact ⟨keep a H A,by rw [<-FI a v A J];exact aa⟩|panicked c=>exact ag _ _ _ aa|outgrown=>exact aa));case row row args=>exact Rows.mono h λA ao aa=>⟨keep a H A,by rw [<-FI a v A J];exact aa⟩}|halt x w'=>{(cases x<;>simp only [Oper.upon] at h ⊢);case panic A=>exact ag _ _ _ h})};{rename_i ad;simp only [ad] at h;exact ⟨keep a H _,by rw [<-FI a v undef J];exact h⟩}
def wE (P:Program) (md:Region.Mode) (ops:Array Oper) (Q:Exit->Act->World->Prop) (S:Bool->World->Prop) (T:Nat->Bool) (k:Nat):Nat->Array Bool->Act->Prop
 | 0,listed,a=>Region.ready md ops listed= []/\∀w,S (listed.getD k true) w->Q .normal a w
 | fuel+1,listed,a=>
  (Region.ready md ops listed= []->∀w,S (listed.getD k true) w->Q .normal a w)/\
  ∀i∈Region.ready md ops listed,∀w,S (listed.getD k true) w->wpOp P ops Q i (λa' w'=>if T i=true then wpAny P md ops Q fuel (listed.setIfInBounds i true) a' w' else S ((listed.setIfInBounds i true).getD k true) w'/\wE P md ops Q S T k fuel (listed.setIfInBounds i true) a') a w
theorem Xh:∀(u:Nat) (listed:Array Bool) (a:Act) (w:World),S (listed.getD k true) w->wE P md ops Q S T k u listed a->wpAny P md ops Q u listed a w
 | 0,_,_,w,hS,h=>⟨h.1,h.2 w hS⟩
 | u+1,_,_,w,hS,h=>⟨λJ=>h.1 J w hS,λi H=>IM (λB w' A=>by
   split at A
   ·exact A
   ·exact Xh u _ B w' A.1 A.2) (h.2 i H w hS)⟩
theorem aEM {i H v} (ag:ops[i]? =some H) (an:∀(j:Nat) (o:Oper) cs b,ops[j]? =some o->o.op≠ .select cs b) (ar:∀c a w,Q (.panic c) (a.put H.dst v) w->Q (.panic c) a w) (au:T i=false) (ah:k≠i):
  ∀(aa:Nat) (listed:Array Bool) (a:Act),
   (∀j J,ops[j]? =some J->j≠i->listed.getD j true=false->(∀e∈J.after,Region.binds md e=true->e.on≠i)->H.apart ops J=true)->
   i∈Region.ready md ops listed->Yields P ops H v a->
   wE P md ops Q S T k aa (listed.setIfInBounds i true) (a.put H.dst v)->wE P md ops Q S T k (aa+1) listed a:=by
 intro aa;induction aa with
 | zero=>
  intro listed a _ A aj ad;refine ⟨λh=>(by rw [h] at A;cases A),λj ai w af=> ?_⟩;by_cases u:j=i;{subst u;exact aj.wpOp ag (by rw [AA (by simp [au])];exact ⟨by rw [sV ah];exact af,ad⟩)};{have:=EX ai u;rw [ad.1] at this;cases this}
 | succ aa ih=>
  intro listed a av A aj ad;refine ⟨λh=>(by rw [h] at A;cases A),λj ai w af=> ?_⟩;by_cases u:j=i;{subst u;exact aj.wpOp ag (by rw [AA (by simp [au])];exact ⟨by rw [sV ah];exact af,ad⟩)}
  ·have B:=ad.2 j (EX ai u) w (by rw [sV ah];exact af);obtain ⟨ay,J,am,bd⟩:=FC.1 ai;have bk:∀e∈J.after,Region.binds md e=true->e.on≠i:=λe bf be bg=>by
    have B:=bd e bf be;have ap:=(FC.1 A).1;rw [bg] at B;rcases BJ i listed.size with ak|ak;{simp [ak] at ap B;rw [ap] at B;cases B};{simp [CJ ak] at B}
   have bb:=wpOp_put am (av j J am u ay bk) (λcs b=>an i H cs b ag) (λcs b=>an j J cs b am) ar aj B;have aw:∀ab ok,ops[ab]? =some ok->ab≠i->(listed.setIfInBounds j true).getD ab true=false->
     (∀e∈ok.after,Region.binds md e=true->e.on≠i)->H.apart ops ok=true:=λab ok bh bi az bj=>by
     refine av ab ok bh bi ?_ bj;by_cases ax:j=ab;{subst ax;exact ay};{rw [IU true ax] at az;exact az}
   refine IM (λao w' bc=> ?_) bb;obtain ⟨aq,ae⟩:=bc;split at ae;{rename_i al;rw [AL al];refine wpAny_first ag an ar aa (listed.setIfInBounds j true) ao w' aw (EX A (EM u)) aq ?_;rw [DW _ _ u];exact ae};{rename_i al;rw [AA al];refine ⟨by have:=ae.1;rw [DW _ _ (EM u),sV ah] at this;exact this,ih (listed.setIfInBounds j true) ao aw (EX A (EM u)) aq ?_⟩;rw [DW _ _ u];exact ae.2}
theorem aDO {i J v} (ar:ops[i]? =some J) (bc:∀(j:Nat) (o:Oper) cs b,ops[j]? =some o->o.op≠ .select cs b) (bh:∀c a w,Q (.panic c) (a.put J.dst v) w->Q (.panic c) a w) (au:T i=false) (aj:k≠i) (f) (bi:∀t,T t=true->reach md ops f t i=true):
  ∀(af:Nat) (listed:Array Bool) (a:Act),Closed md ops listed->
   (∀j aa,ops[j]? =some aa->j≠i->listed.getD j true=false->(∀e∈aa.after,Region.binds md e=true->e.on≠i)->J.apart ops aa=true)->
   i∈Region.ready md ops listed->rM P ops S J v a->
   wE P md ops Q S T k af (listed.setIfInBounds i true) (a.put J.dst v)->wE P md ops Q S T k (af+1) listed a:=by
 intro af;induction af with
 | zero=>
  intro listed a _ _ A al ae;refine ⟨λh=>(by rw [h] at A;cases A),λj ah w ai=> ?_⟩;by_cases u:j=i;{subst u;exact (al _).wpOp ar ai (λw' an=>by rw [AA (by simp [au])];exact ⟨by rw [sV aj];exact an,ae⟩)};{have:=EX ah u;rw [ae.1] at this;cases this}
 | succ af ih=>
  intro listed a aw ax A al ae;refine ⟨λh=>(by rw [h] at A;cases A),λj ah w ai=> ?_⟩;by_cases u:j=i;{subst u;exact (al _).wpOp ar ai (λw' an=>by rw [AA (by simp [au])];exact ⟨by rw [sV aj];exact an,ae⟩)}
  ·have H:=ae.2 j (EX ah u) w (by rw [sV aj];exact ai);obtain ⟨az,aa,ak,av⟩:=FC.1 ah;have ao:¬T j=true:=λao=>by
    have ab:=Bz aw f j i (λo bb e aq ap=>by rw [ak] at bb;cases bb;exact av e aq ap) (bi j ao);have ag:=(FC.1 A).1;rcases BJ i listed.size with B|B;{simp [B] at ag ab;rw [ag] at ab;cases ab};{simp [CJ B] at ab}
   have bo:∀e∈aa.after,Region.binds md e=true->e.on≠i:=λe aq ap bj=>by
    have H:=av e aq ap;have ag:=(FC.1 A).1;rw [bj] at H;rcases BJ i listed.size with B|B;{simp [B] at ag H;rw [ag] at H;cases H};{simp [CJ B] at H}
   have bf:=aB7 ak (ax j aa ak u az bo) (λcs b=>bc i J cs b ar) (λcs b=>bc j aa cs b ak) bh al H;have bk:∀ad ok,ops[ad]? =some ok->ad≠i->(listed.setIfInBounds j true).getD ad true=false->
     (∀e∈ok.after,Region.binds md e=true->e.on≠i)->J.apart ops ok=true:=λad ok bl bm bd bn=>by
     refine ax ad ok bl bm ?_ bn;by_cases ay:j=ad;{subst ay;exact az};{rw [IU true ay] at bd;exact bd}
   refine IM (λbe w' ab=> ?_) bf;obtain ⟨bg,am⟩:=ab;rw [AA ao] at am ⊢;refine ⟨by have:=am.1;rw [DW _ _ (EM u),sV aj] at this;exact this,ih (listed.setIfInBounds j true) be (aw.set ah) bk (EX A (EM u)) bg ?_⟩;rw [DW _ _ u];exact am.2
def xR (P:Program) (ops:Array Oper) (Q:Exit->Act->World->Prop) (S:Bool->World->Prop) (T:Nat->Bool) (k:Nat):List Nat->Bool->Act->Prop
 | [],b,a=>∀w,S b w->Q .normal a w
 | i::r,b,a=>∀w,S b w->wpOp P ops Q i (λa' w'=>if T i=true then wpList P ops Q (r.filterMap λi=>ops[i]?) a' w' else S (b||i==k) w'/\xR P ops Q S T k r (b||i==k) a') a w
theorem Yk {listed:Array Bool} {k i} (h:listed.getD i true=false):(listed.setIfInBounds i true).getD k true=(listed.getD k true||i==k):=by
 by_cases e:k=i;{subst e;rcases BJ k listed.size with u|u;{simp [u]};{simp [CJ u]}};{rw [sV e];(have:(i==k)=false:=by simpa using EM e);rw [this,Bool.or_false]}
theorem X7:∀(L:List Nat) (u:Nat) (listed:Array Bool) (a:Act),L.length=u->oV md ops listed L=true->xR P ops Q S T k L (listed.getD k true) a->wE P md ops Q S T k u listed a
 | [],u,listed,a,hl,hok,h=>by
  subst hl;exact ⟨by simpa [oV] using hok,h⟩
 | i::r,u,listed,a,hl,hok,h=>by
  obtain ⟨f,rfl⟩:∃f,u=f+1:=⟨r.length,by simp at hl;omega⟩
  unfold oV at hok;rw [BM] at hok;have ab:=JJ hok.1;refine ⟨λaa=>(by rw [ab] at aa;cases aa),λj H w ae=> ?_⟩;have ad:=(FC.1 H).1;rw [ab,BB] at H;subst H;refine IM (λJ w' A=> ?_) (h w ae);split at A
  ·rename_i B
   rw [AL B];exact Bh r f _ J w' (by simp at hl;omega) hok.2 A
  ·rename_i B
   rw [AA B,Yk ad];exact ⟨A.1,X7 r f _ J (by simp at hl;omega) hok.2 (by rw [Yk ad];exact A.2)⟩
def nT (P:Program) (md:Region.Mode) (ops:Array Oper) (Q:Exit->Act->World->Prop) (S:Bool->World->Prop) (k:Nat) (L2 T:List Nat):Nat->List Oper->Act->Prop
 | _, [],a=>xR P ops Q S (λi=>T.contains i) k L2 false a
 | j,o::rest,a=>if L2.contains j=true then nT P md ops Q S k L2 T (j+1) rest a else ∃v,(Yields P ops o v a\/(rch md ops T j=true/\rM P ops S o v a))/\nT P md ops Q S k L2 T (j+1) rest (a.put o.dst v)
def Lh (P:Program) (md:Region.Mode) (ops:Array Oper) (Q:Exit->Act->World->Prop) (S:Bool->World->Prop) (k:Nat) (L2 T:List Nat):List Nat->Act->Prop
 | [],a=>xR P ops Q S (λi=>T.contains i) k L2 false a
 | i::r,a=>∃o v,ops[i]? =some o/\(Yields P ops o v a\/(rch md ops T i=true/\rM P ops S o v a))/\Lh P md ops Q S k L2 T r (a.put o.dst v)
theorem Jj {L2 T:List Nat}:∀(r j:Nat) (a:Act),j+r=ops.size->nT P md ops Q S k L2 T j (ops.toList.drop j) a->Lh P md ops Q S k L2 T ((List.range' j r).filter λi=> !L2.contains i) a
 | 0,j,a,hj,h=>by
  obtain rfl:j=ops.size:=by omega
  rw [EJ D] at h;exact h
 | r+1,j,a,hj,h=>by
  have A:j<ops.toList.length:=by simp;omega
  have B:ops[j]? =some (ops.toList[j]):=by rw [<-CS];exact AC A
  rw [DL A] at h;unfold nT at h;rw [List.range'_succ,GL];split at h
  ·rename_i u
   rw [AA (by simp only [u];decide)];exact Jj r (j+1) a X h
  ·rename_i u
   rw [AL (U u)];obtain ⟨v,H,h⟩:=h;exact ⟨_,v,B,H,Jj r (j+1) _ X h⟩
theorem aEu (ap:Region.noSelect ops=true) (al:∀c (a:Act) d v w,Q (.panic c) (a.put d v) w->Q (.panic c) a w) (L2 T) (an:L2.contains k=true) (au:∀t∈T,t∈L2):
  ∀(A:List Nat) (u:Nat) (listed:Array Bool) (a:Act),A.length+L2.length=u->Closed md ops listed->listed.getD k true=false->mX md ops L2 listed A=true->Lh P md ops Q S k L2 T A a->wE P md ops Q S (λi=>T.contains i) k u listed a:=by
 intro A;(induction A with|nil=>intro u listed a aa ab ad B h;exact X7 L2 u listed a (U aa) B (by rw [ad];exact h)|cons i r ih=>{intro u listed a aa ab ad B h;obtain ⟨f,rfl⟩:∃f,u=f+1:=⟨r.length+L2.length,by simp at aa;omega⟩;unfold mX at B;simp only [BM,MO] at B;obtain ⟨⟨⟨aq,ai⟩,aj⟩,ar⟩:=B;(have af:i∈Region.ready md ops listed:=by simpa using aq);(have ae:k≠i:=by{intro e;rw [e,aj] at an;cases an});(have am:T.contains i=false:=by{(cases ah:T.contains i with|false=>rfl|true=>have:=au i (U ah);have ak:L2.contains i=true:=(U this);rw [aj] at ak;cases ak)});obtain ⟨o,v,J,H,h⟩:=h;have ao:=ih f (listed.setIfInBounds i true) (a.put o.dst v) (by simp at aa;omega) (ab.set af) (by rw [sV ae];exact ad) ar h;rcases H with H|⟨ag,H⟩;{exact aEM J (HY ap) (λc a w h=>al c a _ _ w h) am ae f listed a (JH J ai) af H ao};{refine aDO J (HY ap) (λc a w h=>al c a _ _ w h) am ae ops.size (λt ah=> ?_) f listed a ab (JH J ai) af H ao;unfold rch at ag;rw [EY] at ag;exact ag t (U ah)}})
theorem Ue {id a w} (ad:P.follows .mixedOrders=true) (S k L2 T) (ae:Region.noSelect ops=true) (u:(decide (k<ops.size)&&L2.contains k&&T.all λt=>L2.contains t)=true) (ab:(((List.range' 0 ops.size).filter λi=> !L2.contains i).length+L2.length==ops.size)=true) (aa:mX .any ops L2 (Array.replicate ops.size false) ((List.range' 0 ops.size).filter λi=> !L2.contains i)=true) (H:∀c (a:Act) d v w,Q (.panic c) (a.put d v) w->Q (.panic c) a w) (J:S false w.drew) (h:nT P .any ops Q S k L2 T 0 ops.toList a):(Code.region id ops true).wp P Q a w:=by
 simp only [BM,BR,EY] at u;have B:(Array.replicate ops.size false).getD k true=false:=by
  rw [EF,IP,AL u.1.1];rfl
 refine wp_region_any ad ?_;refine Xh (k:=k) (S:=S) (T:=λi=>T.contains i) _ _ _ _ (by rw [B];exact J) (aEu ae H L2 T u.1.2 (λt af=>by simpa using u.2 t af) _ ops.size _ a (JJ ab) (λj o ag A=> ?_) B aa (Jj ops.size 0 a X (U h)));rw [EF,IP] at A;split at A<;>cases A
variable {L2 T:List Nat} {j:Nat} {o:Oper} {rest:List Oper} {a:Act} {v:Value}
theorem V5 (u:L2.contains j=true) (h:nT P md ops Q S k L2 T (j+1) rest a):nT P md ops Q S k L2 T j (o::rest) a:=by
 unfold nT;rw [AL u];exact h
theorem O7 (u:L2.contains j=false) (A:Region.wanted o (yielded ops a.tmps)=true) (h:∀w,(execOp a.eval o).run P w=.ok (.value v) w) (r:nT P md ops Q S k L2 T (j+1) rest (a.put o.dst v)):nT P md ops Q S k L2 T j (o::rest) a:=by
 unfold nT;rw [AA (by simp only [u];decide)];exact ⟨v,.inl (.inl ⟨A,h⟩),r⟩
theorem H8 (B:L2.contains j=false) (A:rch md ops T j=true) (H:Region.wanted o (yielded ops a.tmps)=true) (h:∀b w,S b w->(execOp a.eval o).run P w=.ok (.value v) w) (r:nT P md ops Q S k L2 T (j+1) rest (a.put o.dst v)):nT P md ops Q S k L2 T j (o::rest) a:=by
 unfold nT;rw [AA (by simp only [B];decide)];exact ⟨v,.inr ⟨A,λb=> .inl ⟨H,λw u=> .inl ⟨w,h b w u,u⟩⟩⟩,r⟩
theorem J5 {i r b u} (aa:ops[i]? =some o) (J:u i=false) (ad:Region.wanted o (yielded ops a.tmps)=true) (h:∀w,S b w->∃w',(execOp a.eval o).run P w=.ok (.value v) w'/\S (b||i==k) w') (ab:xR P ops Q S u k r (b||i==k) (a.put o.dst v)):xR P ops Q S u k (i::r) b a:=by
 intro w H;obtain ⟨w',A,B⟩:=h w H;unfold Go.wpOp;simp only [aa,ad,IK];refine .inl ?_;simp only [Oper.wp,A,Oper.upon];rw [AA (by simp [J])];exact ⟨B,ab⟩
theorem Tj {i r b B} (H:ops[i]? =some o) (aa:B i=true) (h:∀w,S b w->wpList P ops Q ((i::r).filterMap λi=>ops[i]?) a w):xR P ops Q S B k (i::r) b a:=by
 intro w J;have u:=h w J;rw [DZ,H] at u;simp only [wpList] at u;unfold wpOp;rw [H];simp only [aa,IK];split at u;{rename_i A;rw [AL A];exact u};{rename_i A;rw [AA A];exact u}
end
open Go.Sort Go.Shelf
def numsOf (p:Nat->Bool):List Nat:=(List.range 129).filter p
section
variable {P:Program} {ops:Array Oper} {Q:Exit->Act->World->Prop} {md:Region.Mode} {G:World->World->Prop}
structure Pre (G:World->World->Prop):Prop where
 refl:∀w,G w w
 trans:∀ {a b c},G a b->G b c->G a c
def nP (ops:Array Oper) (i:Nat):Option Nat:=(ops[i]?).bind (·.dst)
def waits (md:Region.Mode) (ops:Array Oper) (i d:Nat):Bool:=match ops[i]? with
 | none=>false
 | some o=>o.after.any λe=>Region.binds md e&&nP ops e.on==some d
def Yi (ops:Array Oper) (m d:Nat):Bool:=(List.range m).all λi=> !(nP ops i==some d)
structure Ef (md:Region.Mode) (ops:Array Oper) (m:Nat):Prop where
 le:m<ops.size
 back:((List.range m).all λi=>match ops[i]? with|none=>false|some o=>o.after.all λe=> !Region.binds md e||decide (e.on<i))=true
 dist:((List.range m).all λi=>(List.range i).all λj=>nP ops i==none|| !(nP ops i==nP ops j))=true
 all:qW md ops (List.range' m (ops.size - m))=true
 last:oV md ops ((List.replicate m true++List.replicate (ops.size - m) false).toArray) (List.range' m (ops.size - m))=true
structure sS (G:World->World->Prop) (md:Region.Mode) (ops:Array Oper) (m:Nat) (R:Nat->Value->World->Prop) (w0:World) (a0:Act) (listed:Array Bool) (a:Act) (w:World):Prop where
 fr:G w0 w
 size:listed.size=ops.size
 tail:∀t,m<=t->t<ops.size->listed.getD t true=false
 closed:Closed md ops listed
 tsz:a.tmps.size=a0.tmps.size
 dfr:a.defers=a0.defers
 keep:∀d,(∀i,i<m->nP ops i≠some d)->a.tmps[d]? =a0.tmps[d]?
 val:∀i d,i<m->listed.getD i true=true->nP ops i=some d->R d (a.tmps.getD d undef) w
def F7 (G:World->World->Prop) (P:Program) (md:Region.Mode) (ops:Array Oper) (m:Nat) (R:Nat->Value->World->Prop) (w0:World) (a0:Act) (i:Nat) (o:Oper):Prop:=
 ∀(a:Act) (w:World),G w0 w->(∀d,Yi ops m d=true->a.tmps[d]? =a0.tmps[d]?)->(∀d,waits md ops i d=true->R d (a.tmps.getD d undef) w)->
  (Region.wanted o (yielded ops a.tmps)=true/\((∃v w',(execOp a.eval o).run P w=.ok (.value v) w'/\G w w'/\∀d,o.dst=some d->R d v w')\/
    ∃f args w1,(execOp a.eval o).run P w=.ok (.enter f args) w1/\Calls P f args w1 (λe w'=>∃v,e=.returned v/\G w w'/\∀d,o.dst=some d->R d v w')))\/
  (Region.wanted o (yielded ops a.tmps)=false/\∀d,o.dst=some d->R d undef w)
theorem Nk (a:Act) (e v d) (h:e≠some d):(a.put e v).tmps[d]? =a.tmps[d]? :=by
 unfold Act.put;(cases e with|none=>rfl|some k=>{have:k≠d:=λe=>h (by rw [e]);simp [KD,this]})
theorem aA3 (a:Act) (v d) (h:d<a.tmps.size):(a.put (some d) v).tmps.getD d undef=v:=by
 simp [Act.put,h]
theorem mJ {a b:Act} {d} (h:a.tmps[d]? =b.tmps[d]?):a.tmps.getD d undef=b.tmps.getD d undef:=by
 rw [EF,EF,h]
theorem sS.put {m R w0 a0 listed a w w' i o v} (u:sS G md ops m R w0 a0 listed a w) (ok:Ef md ops m) (ak:Pre G) (al:∀d v w w',R d v w->G w w'->R d v w') (hd:∀i d,i<m->nP ops i=some d->d<a0.tmps.size) (aq:i∈Region.ready md ops listed) (H:i<m) (an:ops[i]? =some o) (f:G w w') (av:∀d,o.dst=some d->R d v w'):
  sS G md ops m R w0 a0 (listed.setIfInBounds i true) (a.put o.dst v) w':=by
 (have B:nP ops i=o.dst:=by unfold nP;rw [an];rfl);refine ⟨ak.trans u.fr f,by simpa using u.size,λt ar au=> ?_,u.closed.set aq,?_,?_,λd ag=> ?_,λj d af ah A=> ?_⟩;{rw [IU true X];exact u.tail t ar au};{rw [<-u.tsz];unfold Act.put;split<;>simp};{rw [<-u.dfr];unfold Act.put;split<;>rfl};{rw [Nk _ _ _ _ (by rw [<-B];exact ag i H)];exact u.keep d ag}
 ·by_cases J:j=i;{subst J;rw [B] at A;rw [A,aA3 _ _ _ (by rw [u.tsz];exact hd j d H (by rw [B];exact A))];exact av d A}
  ·rw [IU true (EM J)] at ah;have am:o.dst≠some d:=λaa=>by
    have ab:=ok.dist;rw [EY] at ab;have key:∀p q,p<m->q<p->nP ops p=some d->nP ops q=some d->False:=λp q ao ap ai aj=>by
     have ad:=ab p (CG.2 ao);rw [EY] at ad;have ae:=ad q (CG.2 ap);rw [ai,aj] at ae;simp at ae
    rcases Nat.lt_trichotomy j i with h|h|h;{exact key i j H h (by rw [B];exact aa) A};{exact J h};{exact key j i af h A (by rw [B];exact aa)}
   rw [mJ (Nk _ _ _ _ am)];exact al _ _ _ _ (u.val j d af ah A) f
theorem yE {listed:Array Bool} {k} (u:k<listed.size):listed.getD k true=listed.getD k false:=by
 simp [u]
theorem sS.step {m R w0 a0 listed a w i o} (A:sS G md ops m R w0 a0 listed a w) (ok:Ef md ops m) (J:Pre G) (af:∀d v w w',R d v w->G w w'->R d v w') (hd:∀i d,i<m->nP ops i=some d->d<a0.tmps.size) (aa:i∈Region.ready md ops listed) (ad:i<m) (H:ops[i]? =some o) (au:F7 G P md ops m R w0 a0 i o) {K} (h:∀aj w',sS G md ops m R w0 a0 (listed.setIfInBounds i true) aj w'->K aj w'):wpOp P ops Q i K a w:=by
 obtain ⟨av,aw,ak,am⟩:=FC.1 aa;rw [H] at ak;cases ak;have al:=au a w A.fr (λd ab=>A.keep d (λj ar e=>by
  unfold Yi at ab;rw [EY] at ab;have:=ab j (CG.2 ar);rw [e] at this;simp at this)) (λd u=>by
  unfold waits at u;rw [H] at u;dsimp only at u;rw [Array.any_eq_true'] at u;obtain ⟨e,ap,B⟩:=u;rw [BM] at B;have ae:=am e ap B.1;(have ag:e.on<listed.size:=by{rcases BJ e.on listed.size with h|h;{exact h};{simp [CJ h] at ae}});have aq:e.on<m:=by{rcases BJ e.on m with h|h;{exact h};{have:=A.tail e.on h (by rw [<-A.size];exact ag);rw [yE ag,ae] at this;cases this}}
  exact A.val e.on d aq (by rw [yE ag];exact ae) (JJ B.2))
 unfold wpOp;rw [H];dsimp only;rcases al with ⟨u,B⟩|⟨u,B⟩;{rw [AL u];refine .inl ?_;rcases B with ⟨v,w',ai,f,ah⟩|⟨g,args,ax,ai,an⟩;{unfold Oper.wp;rw [ai];exact h _ _ (A.put ok J af hd aa ad H f ah)};{unfold Oper.wp;rw [ai];refine an.mono (λe w' ao=> ?_);obtain ⟨v,rfl,f,ah⟩:=ao;exact h _ _ (A.put ok J af hd aa ad H f ah)}};{rw [AA (by rw [u];decide)];exact h _ _ (A.put ok J af hd aa ad H (J.refl w) B)}
def left (ops:Array Oper) (listed:Array Bool):Nat:=(List.range ops.size).countP λi=> !listed.getD i true
theorem Px {listed i} (af:listed.size=ops.size) (H:i<ops.size) (aa:listed.getD i true=false):left ops listed=left ops (listed.setIfInBounds i true)+1:=by
 (have key:∀(l:List Nat),l.Nodup->(i∈l->l.countP (λk=> !listed.getD k true)=l.countP (λk=> !(listed.setIfInBounds i true).getD k true)+1)/\(i ∉ l->l.countP (λk=> !listed.getD k true)=l.countP (λk=> !(listed.setIfInBounds i true).getD k true)):=by{intro l;(induction l with|nil=>intro _;exact ⟨λh=>(by cases h),λ_=>rfl⟩|cons k r ih=>intro ad;obtain ⟨ab,ae⟩:=MC.1 ad;obtain ⟨ah,J⟩:=ih ae;have ag:(listed.setIfInBounds i true).getD i true=true:=(by simp [af,H]);constructor;{intro u;by_cases e:k=i;{subst e;rw [List.countP_cons_of_pos (by rw [aa];rfl),NP (by rw [ag];decide),J ab]};{(have B:i∈r:=by{rcases CE.1 u with h|h;{exact absurd h.symm e};{exact h}});have A:=IU (listed:=listed) true (EM e);rw [KE,KE,A,ah B];omega}};{intro u;have e:i≠k:=λe=>u (by rw [e];exact BK);have B:i ∉ r:=λh=>u (BH _ h);have A:=IU (listed:=listed) true e;rw [KE,KE,A,J B]})});exact (key (List.range ops.size) List.nodup_range).1 (CG.2 H)
theorem Tv {m listed} (A:∀i,i<m->listed.getD i true=true) (B:∀t,m<=t->t<ops.size->listed.getD t true=false) (J:m<ops.size):left ops listed=ops.size - m:=by
 have e:List.range ops.size=List.range m++List.range' m (ops.size - m):=by
  have h:List.range' 0 m++List.range' (0+m) (ops.size - m)=List.range' 0 (m+(ops.size - m)):=by rw [List.range'_append_1]
  rw [BP] at h;rw [List.range_eq_range',List.range_eq_range',h];congr 1;omega
 unfold left;rw [e,MF,List.countP_eq_zero.2 (λi H=>by rw [A i (CG.1 H)];decide),List.countP_eq_length.2 (λt u=>by rw [List.mem_range'_1] at u;rw [B t u.1 X];rfl),List.length_range'];omega
theorem aEn {m R w0 a0} (ok:Ef md ops m) (au:Pre G) (bb:∀d v w w',R d v w->G w w'->R d v w') (hd:∀i d,i<m->nP ops i=some d->d<a0.tmps.size) (ap:∀i o,i<m->ops[i]? =some o->F7 G P md ops m R w0 a0 i o) (ay:∀listed a w,sS G md ops m R w0 a0 listed a w->(∀i,i<m->listed.getD i true=true)->wpList P ops Q (ops.toList.drop m) a w):
  ∀n listed a w,sS G md ops m R w0 a0 listed a w->left ops listed=n->wpAny P md ops Q n listed a w:=by
 have az:∀listed a w,sS G md ops m R w0 a0 listed a w->(∀i,i<m->listed.getD i true=true)->wpAny P md ops Q (ops.size - m) listed a w:=λlisted a w u B=>by
  have aa:=ok.le;(have e:listed=(List.replicate m true++List.replicate (ops.size - m) false).toArray:=by{apply Array.ext;{simp [u.size];omega};{intro k A H;rcases BJ k m with h|h;{have:=B k h;rw [EF,FQ A,Option.getD_some] at this;rw [this];simp [List.getElem_append_left,h]};{have:=u.tail k h (by rw [<-u.size];exact A);rw [EF,FQ A,Option.getD_some] at this;rw [this];simp [List.getElem_append_right,h]}}});refine Bh (List.range' m (ops.size - m)) _ listed a w (by rw [List.length_range']) (by rw [e];exact ok.last) ?_;(have ar:(List.range' m (ops.size - m)).filterMap (λi=>ops[i]?)=ops.toList.drop m:=by{apply List.ext_getElem?;intro k;(have:∀(n s:Nat),s+n<=ops.size->((List.range' s n).filterMap (λi=>ops[i]?))[k]? =if k<n then ops[s+k]? else none:=by{intro n;(induction n generalizing k with|zero=>intro s _;simp|succ n ih=>intro s ap;rw [List.range'_succ,DZ,FQ X];(cases k with|zero=>simp|succ k=>rw [ED,ih k (s+1) X];have:s+1+k=s+(k+1):=X;rw [this];simp))});rw [this _ m X,GZ,CS];split;{rfl};{rw [CJ X]}});rw [ar];exact ay listed a w u B
 have ao:∀listed a w,sS G md ops m R w0 a0 listed a w->¬(∀i,i<m->listed.getD i true=true)->(∀i∈Region.ready md ops listed,i<m)/\Region.ready md ops listed≠ []:=λlisted a w u al=>by
  have aa:=ok.le;refine ⟨λi J=> ?_,λbc=> ?_⟩;{rcases BJ i m with h|h;{exact h};{exfalso;obtain ⟨bd,o,am,B⟩:=FC.1 J;have be:=(KU.1 am).1;have ad:=ok.all;unfold qW at ad;rw [EY] at ad;have A:=ad i (by rw [List.mem_range'_1];omega);rw [BM] at A;refine al (λk ai=> ?_);have H:=Bz u.closed (i - k) i k (λbf an e ae ab=>by rw [am] at an;cases an;exact B e ae ab) (Xr A.2 _ k rfl X);rw [yE (by rw [u.size];omega)];exact H}}
  ·refine al (λk=> ?_);induction k using Nat.strongRecOn with
   | ind k ih=>
    intro ai;cases ax:listed.getD k true with
    | true=>rfl
    | false=>
     exfalso;have ab:=ok.back;rw [EY] at ab;have A:=ab k (CG.2 ai);have aj:ops[k]? =some (ops[k]' X):=FQ X;rw [aj] at A;dsimp only at A;rw [Array.all_eq_true_iff_forall_mem] at A;have:k∈Region.ready md ops listed:=FC.2 ⟨ax,_,aj,λe ae aw=>by
      have H:=A e ae;rw [aw] at H;have af:e.on<k:=(U H)
      have:=ih e.on af X;rwa [yE (by rw [u.size];omega)] at this⟩
     rw [bc] at this;cases this
 intro n;(induction n with|zero=>intro listed a w u ak;have aa:=ok.le;by_cases B:∀i,i<m->listed.getD i true=true;{have:=Tv (ops:=ops) B u.tail aa;omega};{exfalso;obtain ⟨A,H⟩:=ao listed a w u B;obtain ⟨i,J⟩:=List.exists_mem_of_ne_nil _ H;have af:=A i J;have:=Px (ops:=ops) u.size X (FC.1 J).1;omega}|succ n ih=>intro listed a w u ak;have aa:=ok.le;by_cases B:∀i,i<m->listed.getD i true=true;{have:=Tv (ops:=ops) B u.tail aa;rw [<-ak,this];exact az listed a w u B};{obtain ⟨A,H⟩:=ao listed a w u B;refine ⟨λh=>absurd h H,λi J=> ?_⟩;have ag:=A i J;have ah:ops[i]? =some (ops[i]' X):=FQ X;refine u.step ok au bb hd J ag ah (ap i _ ag ah) (λaq w' av=>ih _ aq w' av ?_);have:=Px (ops:=ops) u.size X (FC.1 J).1;omega})
def xP (G:World->World->Prop) (P:Program) (ops:Array Oper) (m:Nat) (R:Nat->Value->World->Prop) (w0:World) (a0:Act):Nat->List Oper->Prop
 | _, []=>True
 | i,o::r=>F7 G P .any ops m R w0 a0 i o/\xP G P ops m R w0 a0 (i+1) r
theorem Ph {m:Nat} {R:Nat->Value->World->Prop} {w0:World} {a0:Act}:∀(L:List Oper) (i:Nat),xP G P ops m R w0 a0 i L->∀(k:Nat) o,L[k]? =some o->F7 G P .any ops m R w0 a0 (i+k) o
 | [],_,_,k,o,h=>by simp at h
 | x::r,i,hs,k,o,h=>by
  cases k with
  | zero=>simp at h;subst h;exact hs.1
  | succ k=>
   have:=Ph r (i+1) hs.2 k o (U h);have e:i+1+k=i+(k+1):=X
   rwa [e] at this
def vG (P:Program) (ops:Array Oper) (Q:Exit->Act->World->Prop) (R:Nat->Value->World->Prop) (tail:List Oper):List Oper->(World->Prop)->Act->Prop
 | [],C,a=>∀w,C w->wpList P ops Q tail a w
 | o::r,C,a=>match o.dst with
  | some d=>∀v,vG P ops Q R tail r (λw=>C w/\R d v w) (a.put (some d) v)
  | none=>vG P ops Q R tail r C a
def yF:List Oper->Act->Act->Act
 | [],_,b=>b
 | o::r,a,b=>match o.dst with
  | some d=>yF r a (b.put (some d) (a.tmps.getD d undef))
  | none=>yF r a b
theorem J4 {R:Nat->Value->World->Prop} {A:List Oper} {a:Act} {w:World}:∀(L:List Oper) (C:World->Prop) (b:Act),vG P ops Q R A L C b->C w->(∀o∈L,∀d,o.dst=some d->R d (a.tmps.getD d undef) w)->wpList P ops Q A (yF L a b) w
 | [],C,b,h,hc,_=>h w hc
 | o::r,C,b,h,hc,hr=>by
  unfold vG at h;unfold yF;cases hd:o.dst with
  | none=>
   rw [hd] at h;exact J4 r C b h hc (λx u=>hr x (BH _ u))
  | some d=>
   rw [hd] at h;exact J4 r _ _ (h (a.tmps.getD d undef)) ⟨hc,hr o BK d hd⟩ (λx u=>hr x (BH _ u))
theorem J9 {a:Act}:∀(L:List Oper) (b:Act),b.tmps.size=a.tmps.size->b.defers=a.defers->(∀d,(∃o∈L,o.dst=some d)\/b.tmps[d]? =a.tmps[d]?)->yF L a b=a
 | [],b,hs,hd,h=>by
  show b=a;obtain ⟨ab,ag⟩:=b;obtain ⟨aa,af⟩:=a;dsimp only at hs hd h;subst hd;have:ab=aa:=by
   apply Array.ext_getElem?;intro i;rcases h i with ⟨o,ad,_⟩|h
   ·cases ad
   ·exact h
  rw [this]
 | o::r,b,hs,hdf,h=>by
  unfold yF;cases hd:o.dst with
  | none=>
   refine J9 r b hs hdf (λd=> ?_);rcases h d with ⟨x,A,u⟩|h
   ·rcases CE.1 A with rfl|A
    ·rw [hd] at u;cases u
    ·exact .inl ⟨x,A,u⟩
   ·exact .inr h
  | some e=>
   refine J9 r _ (by simp [Act.put,hs]) hdf (λd=> ?_);by_cases J:d=e
   ·subst J;refine .inr ?_;rcases BJ d b.tmps.size with B|B
    ·have H:d<a.tmps.size:=(by rw [<-hs];exact B)
     simp [Act.put,B,H]
    ·have H:a.tmps.size<=d:=by rw [<-hs];exact B
     simp only [Act.put];rw [CJ (U B),CJ H]
   ·have ae:=Nk b (some e) (a.tmps.getD e undef) d (λh=>J (FX h).symm);rcases h d with ⟨x,A,u⟩|h
    ·rcases CE.1 A with rfl|A
     ·rw [hd] at u;cases u;exact absurd rfl J
     ·exact .inl ⟨x,A,u⟩
    ·exact .inr (by rw [ae];exact h)
theorem Gy {id a w m} (ak:P.follows .mixedOrders=true) (ok:Ef .any ops m) (ah:Pre G) (an:G w w.drew) (R) (ai:∀d v w w',R d v w->G w w'->R d v w') (hd:((List.range m).all λi=>match nP ops i with|none=>true|some d=>decide (d<a.tmps.size))=true) (am:xP G P ops m R w a 0 (ops.toList.take m)) (h:vG P ops Q R (ops.toList.drop m) (ops.toList.take m) (λW=>G w W) a):(Code.region id ops true).wp P Q a w:=by
 refine wp_region_any ak ?_;have aq:=ok.le;have H:∀k,(Array.replicate ops.size false).getD k false=false:=λk=>by
  rw [EF,IP];split<;>rfl
 refine aEn (R:=R) (w0:=w) (a0:=a) ok ah ai (λi d u e=> ?_) (λi o u ab=> ?_) (λlisted J w' A aj=> ?_) ops.size _ a _ ⟨an,by simp,λt ao ag=>by rw [yE (U ag)];exact H t,λj o ap B=>(by rw [H] at B;cases B),rfl,rfl,λ_ _=>rfl,λi d u B=> ?_⟩ ?_;{rw [EY] at hd;have:=hd i (CG.2 u);rw [e] at this;simpa using this};{have:=Ph (ops.toList.take m) 0 am i o (by rw [IQ u,CS];exact ab);rwa [BP] at this}
 ·have al:yF (ops.toList.take m) J a=J:=by{refine J9 _ _ A.tsz.symm A.dfr.symm (λd=> ?_);by_cases af:∃o∈ops.toList.take m,o.dst=some d;{exact .inl af};{refine .inr (A.keep d (λi u e=>af ?_)).symm;have ad:ops[i]? =some (ops[i]' X):=FQ X;refine ⟨ops[i]' X,GV.2 ⟨i,by rw [IQ u,CS];exact ad⟩,?_⟩;unfold nP at e;rw [ad] at e;exact e}}
  have:=J4 (a:=J) (w:=w') _ _ _ h A.fr (λo ab d hd=>by
   obtain ⟨i,u⟩:=GV.1 ab;have aa:i<m:=by{have:=(AX.1 u).1;rw [BV] at this;omega}
   rw [IQ aa,CS] at u;exact A.val i d aa (aj i aa) (by unfold nP;rw [u];exact hd))
  rwa [al] at this
 {rw [yE (by simp;omega),H] at B;cases B};{unfold left;rw [List.countP_eq_length.2 (λk ae=>by rw [CG] at ae;rw [yE (U ae),H];rfl),IX]}
end
section
variable {P:Program} {ops:Array Oper} {Q:Exit->Act->World->Prop} {md:Region.Mode} {S:World->Prop}
def pR (P:Program) (ops:Array Oper) (Q:Exit->Act->World->Prop) (S:World->Prop) (k:Nat):Nat->List Oper->Act->Prop
 | _, [],_=>False
 | j,o::rest,a=>if j=k then ∀w,S w->wpOp P ops Q k (λa' w'=>pI P ops Q (λW=>W=w') rest a') a w else ∃v,nH P ops S o v a/\pR P ops Q S k (j+1) rest (a.put o.dst v)
theorem aA9 {k} (ai:Region.noSelect ops=true) (af:yU md ops=true) (ah:(Region.ready md ops (pre ops.size k)== [k])=true) (A:qW md ops [k]=true) (ad:∀c (a:Act) d v w,Q (.panic c) (a.put d v) w->Q (.panic c) a w):
  ∀(r j:Nat) (a:Act),j+r=k->Closed md ops (pre ops.size j)->pR P ops Q S k j (ops.toList.drop j) a->wQ P md ops Q S (λi=>i==k) (ops.size - j) (pre ops.size j) a:=by
 have an:k<ops.size:=by{unfold qW at A;simp only [List.all_cons,BM,BR] at A;exact A.1.1}
 have ao:∀i,i<k->reach md ops ops.size k i=true:=λi u=>by
  have h:=uC (L2:= [k]) (k:=i) A (U u);unfold rch at h;simpa using h
 intro r;induction r with
 | zero=>
  intro j a am _ h;(obtain rfl:j=k:=by omega);obtain ⟨f,aa⟩:∃f,ops.size - j=f+1:=⟨ops.size - j - 1,by omega⟩;(have B:j<ops.toList.length:=by simpa using an);rw [DL B] at h;unfold pR at h;rw [AL rfl] at h;rw [aa];refine ⟨λab=>(by rw [JJ ah] at ab;cases ab),λi u w al=> ?_⟩;rw [JJ ah,BB] at u;subst u;refine IM (λaj w' ak=> ?_) (h w al);rw [AL D,F5];exact Pz (S:=λW=>W=w') _ _ _ _ rfl (aAp ai af ad f (i+1) aj X ak)
 | succ r ih=>
  intro j a am ae h;obtain ⟨f,aa⟩:∃f,ops.size - j=f+1:=⟨ops.size - j - 1,by omega⟩;(have B:j<ops.toList.length:=by simp;omega);rw [DL B] at h;unfold pR at h;rw [AA X] at h;obtain ⟨v,aq,h⟩:=h;(have u:ops[j]? =some (ops.toList[j]):=by rw [<-CS];exact AC B);have J:=af;unfold yU at J;rw [BM,EY] at J;have H:=J.1 j (CG.2 X);rw [BM] at H;have ag:j∈Region.ready md ops (pre ops.size j):=by simpa using H.1
  rw [aa];refine Td u (HY ai) (λc a w h=>ad c a _ _ w h) (by simp;omega) ops.size (λt ap=>by
   have:t=k:=(U ap)
   subst this;exact ao j X) f (pre ops.size j) a ae (JH u H.2) ag aq ?_
  rw [F5];have:=ih (j+1) _ X (by rw [<-F5];exact ae.set ag) h;rwa [show ops.size - (j+1)=f by omega] at this
theorem Hr {id a w} (k) (ae:P.follows .mixedOrders=true) (A:Region.noSelect ops=true) (B:yU .any ops=true) (H:(Region.ready .any ops (pre ops.size k)== [k])=true) (J:qW .any ops [k]=true) (S) (aa:∀c (a:Act) d v w,Q (.panic c) (a.put d v) w->Q (.panic c) a w) (ab:S w.drew) (h:pR P ops Q S k 0 ops.toList a):(Code.region id ops true).wp P Q a w:=by
 refine wp_region_any ae ?_;rw [<-Ti];have ad:Closed .any ops (pre ops.size 0):=λj o af u=>by
  rw [Ti,EF,IP] at u;split at u<;>cases u
 have:=aA9 (k:=k) (S:=S) A B H J aa k 0 a X ad (U h);exact Kr _ _ _ _ ab this
variable {k j:Nat} {o:Oper} {rest:List Oper} {a:Act} {v:Value}
theorem x9 (A:(j==k)=false) (B:Region.wanted o (yielded ops a.tmps)=true) (h:∀w,S w->(execOp a.eval o).run P w=.ok (.value v) w) (r:pR P ops Q S k (j+1) rest (a.put o.dst v)):pR P ops Q S k j (o::rest) a:=by
 unfold pR;rw [AA (U A)];exact ⟨v,.inl ⟨B,λw u=> .inl ⟨w,h w u,u⟩⟩,r⟩
theorem Gv (u:(j==k)=false) (A:Region.wanted o (yielded ops a.tmps)=false) (r:pR P ops Q S k (j+1) rest (a.put o.dst undef)):pR P ops Q S k j (o::rest) a:=by
 unfold pR;rw [AA (U u)];exact ⟨undef,.inr ⟨A,rfl⟩,r⟩
theorem G6 (f args) (H:ops[k]? =some o) (J:Region.wanted o (yielded ops a.tmps)=true) (h:∀w,S w->(execOp a.eval o).run P w=.ok (.enter f args) w) (B:∀w,S w->Calls P f args w (λe w'=>∃v,e=.returned v/\pI P ops Q (λW=>W=w') rest (a.put o.dst v))):pR P ops Q S k k (o::rest) a:=by
 unfold pR;rw [AL rfl];intro w u;unfold Go.wpOp;simp only [H,J,IK];refine .inl ?_;simp only [Oper.wp,h w u,Oper.upon];refine (B w u).mono ?_;rintro e w' ⟨v,rfl,A⟩;exact A
theorem aFN {w0} (u:Region.wanted o (yielded ops a.tmps)=true) (h:(execOp a.eval o).run P w0=.ok (.value v) w0) (r:pI P ops Q (λW=>W=w0) rest (a.put o.dst v)):pI P ops Q (λW=>W=w0) (o::rest) a:=
 aEw u (λw e=>by subst e;exact h) r
theorem wpC {id:Nat} {a A:Act} {w:World} {f:Nat} {args:Array Value} {o:Oper} {rest:List Oper} (k:Nat) (K:Calls P f args w.drew (λe w'=>∃v,e=.returned v/\pI P ops Q (λW=>W=w') rest (A.put o.dst v))) (ad:P.follows .mixedOrders=true)
  (B:Region.noSelect ops=true:=by kernel_rfl) (H:yU .any ops=true:=by kernel_rfl) (J:(Region.ready .any ops (pre ops.size k)== [k])=true:=by kernel_rfl) (aa:qW .any ops [k]=true:=by kernel_rfl)
  (ab:∀c (a:Act) d v w,Q (.panic c) (a.put d v) w->Q (.panic c) a w:=by
    intro _ _ d _ _ h;cases d<;>exact h)
  (h:Hid (Calls P f args w.drew (λe w'=>∃v,e=.returned v/\pI P ops Q (λW=>W=w') rest (A.put o.dst v)))->pR P ops Q (λW=>W=w.drew) k 0 ops.toList a:=by
    intro K;repeat (first
     | (refine x9 (v:= ?_) R R ?_ ?_
        rotate_left 1
        (intro W u;subst u;go_simp;(try with_reducible rfl))
        simp only [pT,aI,lsS])
     | (refine Gv R R ?_
        simp only [pT,aI,lsS]))
    refine G6 _ _ R R (by intro W u;subst u;go_simp;(try first|exact ⟨rfl,rfl⟩|with_reducible rfl)) ?_;intro W u;subst u;exact K.o):(Code.region id ops true).wp P Q a w:=Hr k ad B H J aa (λW=>W=w.drew) ab rfl (h (lH K))
theorem qE {a u:Act} {w:World} {rest:List Oper} (K:Q .normal u w) (h:Hid (Q .normal u w)->pI P ops Q (λW=>W=w) rest a:=by
   intro K;simp only [pT,aI,lsS];repeat (first
    | (refine aFN (v:= ?_) R ?_ ?_
       rotate_left 1
       (go_simp;(try with_reducible rfl))
       simp only [pT,aI,lsS])
    | (refine aEZ R ?_
       simp only [pT,aI,lsS]))
   intro W A;have B:=Eq.symm A;clear A;subst B;exact K.o):pI P ops Q (λW=>W=w) rest a:=h (lH K)
end
