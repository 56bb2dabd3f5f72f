/- Part of a proof. -/
import Derived.Test.YtedcppikakinoaaGreatU03
import Derived.Test.YtedcppikakinoaaGreatU04
import Derived.Test.YtedcppikakinoaaGreatU05
import Derived.Test.YtedcppikakinoaaGreatU06
import Derived.Laws.FloatArith
import Derived.WideKeyEntry
set_option linter.unusedSimpArgs false
set_option linter.unusedVariables false
set_option maxRecDepth 100000
namespace Go.Proofs.YtedcppikakinoaaGreat
open Go.Proofs.Tryz
abbrev DD:Ieee.Format:=Ieee.double
theorem yE:DD.infRung=9218868437227405312:=by decide
theorem Cb:DD.binade=4503599627370496:=by decide
theorem Eo:DD.signWeight=9223372036854775808:=by decide
theorem Gt:DD.leastPlace= -1074:=by decide
theorem zO {n k} (h:n≠0) (A:n<2 ^ (k+1)):n.log2<=k:=by
 have:=(Nat.log2_lt h).2 A;omega
theorem Fb {n k} (h:n≠0) (A:2 ^ k<=n):k<=n.log2:=(Nat.le_log2 h).2 A
theorem Bv {n} (h:n≠0):2 ^ n.log2<=n:=Nat.log2_self_le h
theorem yM (n):n<2 ^ (n.log2+1):=Nat.lt_log2_self
theorem aCD (neg r) (h:r<4503599627370496):DD.read (DD.word neg r)=.number neg r (-1074):=by
 unfold Ieee.Format.read Ieee.Format.word;rw [Eo,Cb,yE,Gt];(cases neg with|true=>(have A:(9223372036854775808+r) / 9223372036854775808 % 2=1:=X);(have B:(9223372036854775808+r) % 9223372036854775808=r:=X);simp only [IJ,A,B,h];rfl|false=>(have A:r / 9223372036854775808 % 2=0:=X);(have B:r % 9223372036854775808=r:=X);simp only [A,B,h,IJ,DT,GG];rfl)
theorem Xd (neg t k) (ad:k<4503599627370496) (ae:t<2046):
  DD.read (DD.word neg ((t+1)*4503599627370496+k))=.number neg (4503599627370496+k) (-1074+(t:Int)):=by
 unfold Ieee.Format.read Ieee.Format.word;rw [Eo,Cb,yE,Gt];(have H:¬(t+1)*4503599627370496+k<4503599627370496:=X);(have J:(t+1)*4503599627370496+k<9218868437227405312:=X);(have aa:((t+1)*4503599627370496+k) % 4503599627370496=k:=X);(have ab:((t+1)*4503599627370496+k) / 4503599627370496 - 1=t:=X);generalize (t+1)*4503599627370496+k=r at*;(cases neg with|true=>(have A:(9223372036854775808+r) / 9223372036854775808 % 2=1:=X);(have B:(9223372036854775808+r) % 9223372036854775808=r:=X);simp only [IJ,A,B,H,J,GG,aa,ab];rfl|false=>(have A:r / 9223372036854775808 % 2=0:=X);(have B:r % 9223372036854775808=r:=X);simp only [A,B,H,J,GG,aa,ab,DT,IJ];rfl)
theorem aCF (neg n):Ieee.Toward.even.cut neg n 0=n:=by
 unfold Ieee.Toward.cut;simp [Nat.mod_one]
theorem aFd (neg n d) (h:d<=n.log2):n / 2 ^ d<=Ieee.Toward.even.cut neg n d/\Ieee.Toward.even.cut neg n d<=n / 2 ^ d+1:=by
 unfold Ieee.Toward.cut;rw [LZ X,Nat.one_shiftLeft];dsimp only;constructor;{exact Nat.le_add_right _ _};{refine Nat.add_le_add_left ?_ _;cases decide (2 ^ d<2*(n % 2 ^ d))||2 ^ d==2*(n % 2 ^ d)&&n / 2 ^ d % 2==1<;>simp}
theorem aFf (neg A) (place:Int) (H:A≠0) (ao: -900<=place+A.log2) (ap:place+A.log2<=900):
  ∃B,4503599627370496<=B/\B<=9007199254740992/\(A.log2<=52->B=A*2 ^ (52 - A.log2))/\(52<A.log2->A / 2 ^ (A.log2 - 52)<=B/\B<=A / 2 ^ (A.log2 - 52)+1)/\
   DD.read (DD.nearest neg A place)=if B<9007199254740992 then .number neg B (place+A.log2 - 52) else .number neg 4503599627370496 (place+A.log2 - 51):=by
 have ab:=Bv H;have J:=yM A;generalize ae:A.log2=L at*;have ag:max (place+(L:Int) - (DD.fractionBits:Int)) DD.leastPlace=place+L - 52:=by{rw [Gt,show DD.fractionBits=52 from rfl];omega}
 have ai:∃B,4503599627370496<=B/\B<=9007199254740992/\(L<=52->B=A*2 ^ (52 - L))/\(52<L->A / 2 ^ (L - 52)<=B/\B<=A / 2 ^ (L - 52)+1)/\
   Ieee.Toward.even.cut neg (A<<<(place - (place+L - 52)).toNat) ((place+L - 52) - place).toNat=B:=by
   rcases BK 52 L with aq|ar;{refine ⟨_,?_,?_,λh=>absurd h X,?_,rfl⟩;(all_goals rw [show (place - (place+(L:Int) - 52)).toNat=0 by omega,show (place+(L:Int) - 52 - place).toNat=L - 52 by omega,Nat.shiftLeft_zero];have af:=aFd neg A (L - 52) X;(have ad:2 ^ L=4503599627370496*2 ^ (L - 52):=by{rw [show (4503599627370496:Nat)=2 ^ 52 from rfl,<-IX];congr 1;omega});(have au:4503599627370496<=A / 2 ^ (L - 52):=by{rw [Nat.le_div_iff_mul_le (KP _),<-ad];exact ab});(have av:A / 2 ^ (L - 52)<9007199254740992:=by{rw [KQ (KP _)];rw [Nat.pow_succ] at J;omega});first|omega|exact λ_=>af)};{refine ⟨A*2 ^ (52 - L),?_,?_,λ_=>rfl,λh=>absurd h X,?_⟩;{have:=EG (2 ^ (52 - L)) ab;rw [<-IX,show L+(52 - L)=52 by omega] at this;exact this};{have:=EG (2 ^ (52 - L)) (MP J);rw [<-IX,show L+1+(52 - L)=53 by omega] at this;exact this};{rw [show (place - (place+(L:Int) - 52)).toNat=52 - L by omega,show (place+(L:Int) - 52 - place).toNat=0 by omega,aCF,IR]}}
 obtain ⟨B,aj,ak,al,am,an⟩:=ai;refine ⟨B,aj,ak,al,am,?_⟩;unfold Ieee.Format.nearest;rw [AA H];dsimp only;rw [ae,ag,an,Cb,yE,Gt];obtain ⟨t,ah⟩:∃t:Nat,(place+(L:Int) - 52 - -1074).toNat=t/\(t:Int)=place+L+1022:=⟨_,rfl,by omega⟩;rw [ah.1];rw [LZ X];by_cases aa:B<9007199254740992;{rw [AL aa];have:=Xd neg t (B - 4503599627370496) X X;rw [show (t+1)*4503599627370496+(B - 4503599627370496)=t*4503599627370496+B by omega,show 4503599627370496+(B - 4503599627370496)=B by omega,show -1074+(t:Int)=place+L - 52 by omega] at this;exact this};{rw [AA aa];have:=Xd neg (t+1) 0 X X;rw [show (t+1+1)*4503599627370496+0=t*4503599627370496+B by omega,show -1074+((t+1:Nat):Int)=place+L - 51 by omega] at this;exact this}
def Ex (x:Nat) (s:Bool) (lo hi:Int):Prop:=∃m p,DD.read x=.number s m p/\ -1074<=p/\m≠0/\m.log2=52/\lo<=p+52/\p+52<=hi
def I5 (x:Nat):Prop:=∃s p,DD.read x=.number s 0 p/\ -1074<=p
def Fi (x:Nat) (lo hi:Int):Prop:=I5 x\/∃s,Ex x s lo hi
theorem aDS {m} (B:4503599627370496<=m) (H:m<9007199254740992):m≠0/\m.log2=52:=by
 have A:m≠0:=X
 have a:=zO (k:=52) A H;have b:=Fb (k:=52) A B;exact ⟨A,by omega⟩
theorem Gf (neg A) (place:Int) (aa:A≠0) (ab: -900<=place+A.log2) (ad:place+A.log2<=900):Ex (DD.nearest neg A place) neg (place+A.log2) (place+A.log2+1):=by
 obtain ⟨J,ae,af,_,_,B⟩:=aFf neg A place aa ab ad;by_cases H:J<9007199254740992;{rw [AL H] at B;have:=aDS ae H;exact ⟨J,_,B,by omega,this.1,this.2,by omega,by omega⟩};{rw [AA H] at B;exact ⟨_,_,B,by omega,by decide,by decide,by omega,by omega⟩}
theorem O6 (neg place):I5 (DD.nearest neg 0 place):=by
 unfold Ieee.Format.nearest;rw [AL rfl];exact ⟨neg, -1074,aCD neg 0 G,by decide⟩
theorem Ex.wide {x s H A J B} (h:Ex x s H A) (aa:J<=H) (ab:A<=B):Ex x s J B:=by
 obtain ⟨m,p,a,b,c,d,e,f⟩:=h;exact ⟨m,p,a,b,c,d,by omega,by omega⟩
theorem Lc (neg A) (place J H:Int) (h:A≠0->J<=place+A.log2/\place+A.log2+1<=H) (aa: -900<=J) (ab:H<=900):Fi (DD.nearest neg A place) J H:=by
 by_cases B:A=0;{subst B;exact .inl (O6 neg place)};{have:=h B;exact .inr ⟨neg,(Gf neg A place B X X).wide X X⟩}
theorem xK (n) (J:n≠0) (B:n.natAbs<2 ^ 40):Ex (floatOfInt .f64 n) (decide (n<0)) 0 40:=by
 have A:n.natAbs≠0:=X
 have H:=zO (k:=39) A B;have:=Gf (decide (n<0)) n.natAbs 0 A X X;exact this.wide X X
theorem aBB (n) (B:n.natAbs<2 ^ 40):Fi (floatOfInt .f64 n) 0 40:=by
 by_cases A:n=0;{subst A;refine .inl ?_;change I5 (DD.nearest (decide ((0:Int)<0)) 0 0);exact O6 _ 0};{exact .inr ⟨_,xK n A B⟩}
theorem aEv {a b} (ae:a.log2=52) (af:b.log2=52) (ab:a≠0) (ad:b≠0):104<=(a*b).log2/\(a*b).log2<=105:=by
 have B:=Bv ab;have H:=yM a;have J:=Bv ad;have aa:=yM b;rw [ae] at B H;rw [af] at J aa;have A:=Nat.mul_ne_zero ab ad;exact ⟨Fb A (by have:=Nat.mul_le_mul B J;rw [<-IX] at this;exact this),zO A (by have:=Nat.mul_lt_mul'' H aa;rw [<-IX] at this;exact this)⟩
theorem aA2 {x y a b c d} (ae:Fi x a b) (af:Fi y c d) (ai: -800<=a+c) (aj:b+d<=800):∃r,DD.mul x y=some r/\Fi r (a+c) (b+d+2):=by
 (have key:∀(s t:Bool) (m n:Nat) (i j:Int),DD.read x=.number s m i->DD.read y=.number t n j->(m*n≠0->m.log2=52/\n.log2=52/\a<=i+52/\i+52<=b/\c<=j+52/\j+52<=d)->∃r,DD.mul x y=some r/\Fi r (a+c) (b+d+2):=by{intro s t m n i j A ey ad;refine ⟨DD.nearest (s ^^ t) (m*n) (i+j),?_,Lc _ _ _ _ _ (λB=> ?_) X X⟩;{unfold Ieee.Format.mul;rw [A,ey];rfl};{obtain ⟨H,J,aa,ab,am,an⟩:=ad B;have:=aEv H J (λe=>B (by rw [e,MQ])) (λe=>B (by rw [e,Nat.mul_zero]));omega}});rcases ae with ⟨s,i,A,_⟩|⟨s,m,i,A,_,ak,ag,H,J⟩<;>rcases af with ⟨t,j,ey,_⟩|⟨t,n,j,ey,_,al,ah,aa,ab⟩;{exact key s t 0 0 i j A ey (λh=>absurd (MQ _) h)};{exact key s t 0 n i j A ey (λh=>absurd (MQ _) h)};{exact key s t m 0 i j A ey (λh=>absurd (Nat.mul_zero _) h)};{exact key s t m n i j A ey (λ_=>⟨ag,ah,H,J,aa,ab⟩)}
theorem P7 {m n} (ab:m.log2=52) (ae:n.log2=52) (aa:m≠0) (ad:n≠0):∃q,2*((m<<<54) / n)+((m<<<54) % n !=0).toNat=q/\q≠0/\54<=q.log2/\q.log2<=55:=by
 have A:=Bv aa;have B:=yM m;have H:=Bv ad;have J:=yM n;rw [ab] at A B;rw [ae] at H J;have hd:(m<<<54)=m*18014398509481984:=by rw [IR]
 have ag:9007199254740992<=(m<<<54) / n:=by
  rw [Nat.le_div_iff_mul_le X,hd];omega
 have ah:(m<<<54) / n<36028797018963968:=by
  rw [KQ X,hd];omega
 have af:((m<<<54) % n !=0).toNat<=1:=by cases ((m<<<54) % n !=0)<;>simp
 refine ⟨_,rfl,by omega,Fb X X,zO X X⟩
theorem Qd {x y s t m n i j} (A:DD.read x=.number s m i) (ey:DD.read y=.number t n j) (B:m.log2=52) (J:n.log2=52) (H:n≠0):
  DD.div x y=some (DD.nearest (s ^^ t) (2*((m<<<54) / n)+((m<<<54) % n !=0).toNat) (i - j - 54 - 1)):=by
 unfold Ieee.Format.div;rw [A,ey];unfold Ieee.Datum.quotient;dsimp only;rw [AA H,B,J];rfl
theorem aEl {x y s a b c d} (ab:Fi x a b) (ad:Ex y s c d) (af: -800<=a - d) (ag:b - c<=800):∃r,DD.div x y=some r/\Fi r (a - d - 1) (b - c+1):=by
 obtain ⟨n,j,ey,_,B,H,am,an⟩:=ad;rcases ab with ⟨t,i,A,_⟩|⟨t,m,i,A,_,ae,J,ak,al⟩;{refine ⟨_,?_,.inl (O6 (t ^^ s) (i - j - (54+52 - (0:Nat).log2:Nat) - 1))⟩;unfold Ieee.Format.div;rw [A,ey];unfold Ieee.Datum.quotient;dsimp only;rw [AA B,H];rw [Nat.zero_shiftLeft,Nat.zero_div,Nat.zero_mod];rfl};{obtain ⟨q,aa,aj,ah,ai⟩:=P7 J H ae B;refine ⟨_,Qd A ey J H B,?_⟩;rw [aa];exact Lc _ _ _ _ _ (λ_=>by omega) X X}
theorem Jr {x y s t a b c d} (ab:Ex x s a b) (ad:Ex y t c d) (ag: -800<=a - d) (ah:b - c<=800):∃r,DD.div x y=some r/\Ex r (s ^^ t) (a - d - 1) (b - c+1):=by
 obtain ⟨m,i,J,_,ae,A,ak,al⟩:=ab;obtain ⟨n,j,ey,_,B,H,am,an⟩:=ad;obtain ⟨q,aa,af,ai,aj⟩:=P7 A H ae B;refine ⟨_,Qd J ey A H B,?_⟩;rw [aa];exact (Gf _ q _ af X X).wide X X
abbrev xI:Nat:=4607182418800017408
theorem Xh:DD.read xI=.number false 4503599627370496 (-52):=by decide
theorem aDT {x a b} (ag:Ex x false a b) (ai: -700<=a) (aj:b<=700) (ak:0<=b):∃r,DD.add xI x=some r/\Ex r false 0 (b+3):=by
 obtain ⟨m,i,ad,_,ap,ah,au,av⟩:=ag;have B:=yM m;rw [ah] at B;obtain ⟨k,af⟩:∃k:Nat,min (-52) i= -52 - (k:Int)/\(k:Int)<=700:=⟨(-52 - min (-52) i).toNat,by omega⟩;obtain ⟨j,al⟩:∃j:Nat,(j:Int)=i - min (-52) i/\(j:Int)<=b+(k:Int):=⟨(i - min (-52) i).toNat,by omega⟩;(have H:((-52:Int) - min (-52) i).toNat=k:=X);(have J:(i - min (-52) i).toNat=j:=X);have an:=KP k;obtain ⟨M,ae⟩:∃M,M=4503599627370496<<<k+m<<<j:=⟨_,rfl⟩;rw [IR,IR] at ae;(have A:M≠0:=X);have ao:52+k<=M.log2:=Fb A (by rw [IX];omega);(have am:m*2 ^ j<2 ^ (53+j):=by{rw [IX];exact Nat.mul_lt_mul_of_pos_right B (KP j)});have aq:2 ^ (53+j)<=2 ^ (53+(b.toNat+k)):=JU G X;(have ar:4503599627370496*2 ^ k<=2 ^ (53+(b.toNat+k)):=by{rw [show (4503599627370496:Nat)=2 ^ 52 from rfl,<-IX];exact JU G X});have aw:M.log2<=53+(b.toNat+k):=zO A (by rw [Nat.pow_succ];omega);refine ⟨DD.nearest false M (-52 - (k:Int)),?_,?_⟩;{unfold Ieee.Format.add;rw [Xh,ad];unfold Ieee.Datum.sum;dsimp only;rw [H,J,af.1];unfold Ieee.signed;simp only [DT,GG,IR];(have aa:((4503599627370496*2 ^ k:Nat):Int)+((m*2 ^ j:Nat):Int)=(M:Int):=X);rw [aa,AA X];(have ab:decide ((M:Int)<0)=false:=D);rw [ab];rfl};{exact (Gf false M _ A X X).wide X X}
theorem aEK {x a b} (af:Ex x false a b) (ah: -700<=a) (aj:a<=0) (ai:b<=700) (ak:0<=b):∃r,DD.sub xI x=some r/\Fi r (a - 52) (b+3):=by
 obtain ⟨m,i,J,_,an,ag,aq,ar⟩:=af;have A:=yM m;rw [ag] at A;obtain ⟨k,ae⟩:∃k:Nat,min (-52) i= -52 - (k:Int)/\(k:Int)<= -a:=⟨(-52 - min (-52) i).toNat,by omega⟩;obtain ⟨j,al⟩:∃j:Nat,(j:Int)=i - min (-52) i/\(j:Int)<=b+(k:Int):=⟨(i - min (-52) i).toNat,by omega⟩;(have B:((-52:Int) - min (-52) i).toNat=k:=X);(have H:(i - min (-52) i).toNat=j:=X);(have am:m*2 ^ j<2 ^ (53+j):=by{rw [IX];exact Nat.mul_lt_mul_of_pos_right A (KP j)});have ao:2 ^ (53+j)<=2 ^ (53+(b.toNat+k)):=JU G X;(have ap:4503599627370496*2 ^ k<=2 ^ (53+(b.toNat+k)):=by{rw [show (4503599627370496:Nat)=2 ^ 52 from rfl,<-IX];exact JU G X});obtain ⟨M,ab⟩:∃M:Int,M=((4503599627370496*2 ^ k:Nat):Int)+ -((m*2 ^ j:Nat):Int):=⟨_,rfl⟩;(have ad:M.natAbs<2 ^ (53+(b.toNat+k)+1):=by{rw [Nat.pow_succ];omega});refine ⟨DD.nearest (if M=0 then (false&&true) else decide (M<0)) M.natAbs (-52 - (k:Int)),?_,?_⟩;{unfold Ieee.Format.sub;rw [Xh,J];unfold Ieee.Datum.sum Ieee.Datum.opposite;dsimp only;rw [B,H,ae.1];unfold Ieee.signed;simp only [DT,GG,IR,Bool.not_false,IJ];rw [<-ab];rfl};{refine Lc _ _ _ _ _ (λaa=> ?_) X X;have:=zO aa ad;omega}
def gU (l z:Int):Nat:=(DD.div (floatOfInt .f64 l) (floatOfInt .f64 z)).getD 0
def gR (l z:Int):Nat:=(DD.sub xI (gU l z)).getD 0
def gW (l z a:Int):Nat:=(DD.mul (gR l z) (floatOfInt .f64 a)).getD 0
def gC (l z:Int):Nat:=(DD.add xI (gU l z)).getD 0
def oM (l z a:Int):Nat:=(DD.div (gW l z a) (gC l z)).getD 0
structure Ak (l z a:Int):Prop where
 u:DD.div (floatOfInt .f64 l) (floatOfInt .f64 z)=some (gU l z)
 r:DD.sub xI (gU l z)=some (gR l z)
 w:DD.mul (gR l z) (floatOfInt .f64 a)=some (gW l z a)
 c:DD.add xI (gU l z)=some (gC l z)
 g:DD.div (gW l z a) (gC l z)=some (oM l z a)
 fin:Fi (oM l z a) (-200) 300
theorem getD_some {o r} (h:o=some r):o=some (o.getD 0)/\o.getD 0=r:=by subst h;exact ⟨rfl,rfl⟩
theorem aE2 (l z a) (ar:1<=l) (au:l<2 ^ 40) (av:1<=z) (aw:z<2 ^ 40) (ag:a.natAbs<2 ^ 40):Ak l z a:=by
 have J:=xK l X X;have ad:=xK z X X;rw [BC X] at J ad;obtain ⟨u,hu,A⟩:=Jr J ad X X;obtain ⟨an,ao⟩:=getD_some hu;change Ex u false (-41) 41 at A;rw [<-ao] at A;obtain ⟨r,aj,aa⟩:=aEK A X X X X;obtain ⟨al,am⟩:=getD_some aj;rw [<-am] at aa;obtain ⟨w,ak,ab⟩:=aA2 aa (aBB a ag) X X;obtain ⟨ap,aq⟩:=getD_some ak;rw [<-aq] at ab;obtain ⟨c,ah,B⟩:=aDT A X X X;obtain ⟨c1,c2⟩:=getD_some ah;rw [<-c2] at B;obtain ⟨g,ai,H⟩:=aEl ab B X X;obtain ⟨ae,af⟩:=getD_some ai;rw [<-af] at H;refine ⟨an,al,ap,c1,ae,?_⟩;rcases H with h|⟨s,h⟩;{exact .inl h};{exact .inr ⟨s,h.wide X X⟩}
def fv (x:Nat):Int:=match DD.read x with
 | .number s m p=>Ieee.signed s m (p+1074).toNat
 | _=>0
theorem Fi.num {x a b} (h:Fi x a b):∃s m p,DD.read x=.number s m p/\ -1074<=p:=by
 rcases h with ⟨s,p,e,q⟩|⟨s,m,p,e,q,_⟩;{exact ⟨s,0,p,e,q⟩};{exact ⟨s,m,p,e,q⟩}
theorem Qu (s m a k):Ieee.signed s m (a+k)=Ieee.signed s m a*((2 ^ k:Nat):Int):=by
 unfold Ieee.signed;rw [IR,IR,IX,<-Nat.mul_assoc];cases s
 ·simp
 ·simp [Int.neg_mul]
theorem Hw (x y:Int):compare x y=if x<y then .lt else if x=y then .eq else .gt:=rfl
theorem aCi (x y k):compare (x*((2 ^ k:Nat):Int)) (y*((2 ^ k:Nat):Int))=compare x y:=by
 (have A:(0:Int)<((2 ^ k:Nat):Int):=by have:=KP k;omega);rw [Hw,Hw];have B:x*((2 ^ k:Nat):Int)<y*((2 ^ k:Nat):Int)↔x<y:=⟨λh=>Int.lt_of_mul_lt_mul_right h (Int.le_of_lt A),λh=>Int.mul_lt_mul_of_pos_right h A⟩;have H:x*((2 ^ k:Nat):Int)=y*((2 ^ k:Nat):Int)↔x=y:=⟨λh=>Int.eq_of_mul_eq_mul_right X h,λh=>by rw [h]⟩;simp only [B,H]
theorem Uu {x y a b c d} (B:Fi x a b) (H:Fi y c d):DD.order x y=some (compare (fv x) (fv y)):=by
 obtain ⟨s,m,i,A,J⟩:=B.num;obtain ⟨t,n,j,ey,aa⟩:=H.num;unfold Ieee.Format.order fv;rw [A,ey];unfold Ieee.Datum.order;dsimp only;obtain ⟨k,ab⟩:∃k:Nat,(k:Int)=min i j+1074:=⟨(min i j+1074).toNat,by omega⟩;rw [show (i+1074).toNat=(i - min i j).toNat+k by omega,show (j+1074).toNat=(j - min i j).toNat+k by omega,Qu,Qu,aCi]
theorem Zo {x a b} (A:Fi x a b):DD.order x x=some .eq:=by
 rw [Uu A A,Hw,AA X,AL rfl]
def nV (x:Nat):Bool:=decide (9223372036854775808<=x)
def kY (x y:Nat):Int:=if fv x<fv y then -1 else if fv y<fv x then 1 else if nV x=nV y then 0 else if nV x=true then -1 else 1
def fV (l:List Nat):Nat->Int
 | 0=> -1
 | j+1=>if fV l j<0\/0<kY (l.getD j 0) (l.getD (fV l j).toNat 0) then (j:Int) else fV l j
def kE (l:List Nat):Int:=fV l l.length
theorem zC (l:List Nat):∀j,fV l j<j/\ -1<=fV l j
 | 0=>by unfold fV;omega
 | j+1=>by
  have:=zC l j;unfold fV;split<;>omega
theorem Gp (l j) (A:0<j):0<=fV l j:=by
 obtain ⟨j,rfl⟩:∃i,j=i+1:=⟨j - 1,by omega⟩;unfold fV;split<;>omega
theorem Kv (l:List Nat):∀j i,i<j->fv (l.getD i 0)<=fv (l.getD (fV l j).toNat 0)
 | 0,i,h=>absurd h X
 | j+1,i,h=>by
  unfold fV;split
  ·rename_i A
   rcases BK i j with B|B
   ·have aa:=Kv l j i B;have J:=Gp l j X;have:0<kY (l.getD j 0) (l.getD (fV l j).toNat 0):=by
     rcases A with A|A
     ·omega
     ·exact A
    unfold kY at this;rw [show ((j:Int)).toNat=j by omega];split at this
    ·omega
    ·omega
   ·obtain rfl:i=j:=by omega
    rw [show ((i:Int)).toNat=i by omega];exact IY _
  ·rename_i A
   rcases BK i j with B|B
   ·exact Kv l j i B
   ·obtain rfl:i=j:=by omega
    have H:¬0<kY (l.getD i 0) (l.getD (fV l i).toNat 0):=λe=>A (.inr e);unfold kY at H;split at H
    ·omega
    ·split at H
     ·omega
     ·omega
theorem J4:fv 0=0:=by decide
theorem Dx (a b):Fi 0 a b:=.inl ⟨false, -1074,by decide,by decide⟩
open Go.RowKit
theorem Tryz.zB:(prog.info? 36).map (·.size)=some 14:=by kernel_rfl
theorem aAJ (w):(Instr.typeAssert .nilIface 20 260 true).run prog w=.ok (.tuple #[.agg #[Z 0],false]) w:=by kernel_rfl
set_option maxRecDepth 10000 in
theorem L8 (p q w):
  CallsD prog 241 #[p,q] .returning w λe B w'=>e=.returned (.tuple #[])/\B=.returning/\w'=w.alloc (.cells #[Z 0] 260):=by
 refine callsD_of_wpS func241 rfl λA cs hu=> ?_;apply wpS_seq;apply LX;simp [wpOpsS,go_sem,recoverD,hu,ntmps241,Exit.thenS,aAJ,Array.replicate,List.replicate];apply wpS_seq;apply LX;simp [wpOpsS,go_sem,Exit.thenS];refine wpS_cond (t:=false) (by simp [Act.eval]) ?_;simp only [DT,GG];refine wpS_of_wp (wp_skip ?_);cases A
 simp_all [bodyPostS,results,results241]
theorem aBC (e b off l c a2 a3 a4 w) (H:Ey w e b off l c) (P:World->Prop) (J:Calls prog 179 #[Y a2,Y a3,Y a4] ((w.alloc (.cells #[Y e] 203)).alloc (.cells #[.slice (some (I b off)) l c] 27)) λx w'=>x=.returned (.tuple #[])/\P w'):
  Calls prog 178 #[Y e,.func (Fn.func 179) #[] #[Y a2,Y a3,Y a4]] w λx w'=>x=.returned (.tuple #[])/\∃A,P A/\Fr No A w':=by
 have ai:∀(fn:Fn) (first cap:Array Value) (w:World),(Instr.makeFunc fn first cap).run prog w=.ok (.func fn first cap) w:=λ_ _ _ _=>rfl;have B:Fr No w (w.alloc (.cells #[Y e] 203)):=(Fr.refl w).alloc _;have ah:(w.alloc (.cells #[Y e] 203)).cell? (I e 0)=some (.bool true):=B.cell_of (aA H _) id;have c1:(w.alloc (.cells #[Y e] 203)).cell? (I e 1)=some (.slice (some (I b off)) l c):=B.cell_of (aA H _) id;have c2:(w.alloc (.cells #[Y e] 203)).cell? (I e 2)=some (Z 0):=B.cell_of (aA H _) id;have ab:=lH J;clear J B H
 go_enter_defers func178,ntmps178
 go_wp2_with fail;with_reducible refine ab.o.mono ?_
 rintro x A ⟨rfl,aa⟩;have ad:=lH aa;clear aa;go_wp2_with fail;refine MZ (f:=241) (args:= #[Y (w.heap.size+1),Y w.heap.size]) D (by simp [go_sem]) ?_;refine (L8 _ _ _).mono ?_;rintro e' aj ag ⟨rfl,rfl,af⟩;have ae:Fr No A ag:=by rw [af];exact (Fr.refl A).alloc _
 simp [Leaves,settle,results,results178,go_sem];exact ⟨A,ad,ae⟩
theorem aBl (e b off l c a2 a3 w) (H:Ey w e b off l c) (P:World->Prop) (J:Calls prog 182 #[Y a2,Y a3] ((w.alloc (.cells #[Y e] 203)).alloc (.cells #[.slice (some (I b off)) l c] 27)) λx w'=>x=.returned (.tuple #[])/\P w'):
  Calls prog 178 #[Y e,.func (Fn.func 182) #[] #[Y a2,Y a3]] w λx w'=>x=.returned (.tuple #[])/\∃A,P A/\Fr No A w':=by
 have ai:∀(fn:Fn) (first cap:Array Value) (w:World),(Instr.makeFunc fn first cap).run prog w=.ok (.func fn first cap) w:=λ_ _ _ _=>rfl;have B:Fr No w (w.alloc (.cells #[Y e] 203)):=(Fr.refl w).alloc _;have ah:(w.alloc (.cells #[Y e] 203)).cell? (I e 0)=some (.bool true):=B.cell_of (aA H _) id;have c1:(w.alloc (.cells #[Y e] 203)).cell? (I e 1)=some (.slice (some (I b off)) l c):=B.cell_of (aA H _) id;have c2:(w.alloc (.cells #[Y e] 203)).cell? (I e 2)=some (Z 0):=B.cell_of (aA H _) id;have ab:=lH J;clear J B H
 go_enter_defers func178,ntmps178
 go_wp2_with fail;with_reducible refine ab.o.mono ?_
 rintro x A ⟨rfl,aa⟩;have ad:=lH aa;clear aa;go_wp2_with fail;refine MZ (f:=241) (args:= #[Y (w.heap.size+1),Y w.heap.size]) D (by simp [go_sem]) ?_;refine (L8 _ _ _).mono ?_;rintro e' aj ag ⟨rfl,rfl,af⟩;have ae:Fr No A ag:=by rw [af];exact (Fr.refl A).alloc _
 simp [Leaves,settle,results,results178,go_sem];exact ⟨A,ad,ae⟩
theorem aCW (e b off l c a2 a3 a4 w) (H:Ey w e b off l c) (P:World->Prop) (J:Calls prog 184 #[Y a2,Y a3,Y a4] ((w.alloc (.cells #[Y e] 203)).alloc (.cells #[.slice (some (I b off)) l c] 27)) λx w'=>x=.returned (.tuple #[])/\P w'):
  Calls prog 178 #[Y e,.func (Fn.func 184) #[] #[Y a2,Y a3,Y a4]] w λx w'=>x=.returned (.tuple #[])/\∃A,P A/\Fr No A w':=by
 have ai:∀(fn:Fn) (first cap:Array Value) (w:World),(Instr.makeFunc fn first cap).run prog w=.ok (.func fn first cap) w:=λ_ _ _ _=>rfl;have B:Fr No w (w.alloc (.cells #[Y e] 203)):=(Fr.refl w).alloc _;have ah:(w.alloc (.cells #[Y e] 203)).cell? (I e 0)=some (.bool true):=B.cell_of (aA H _) id;have c1:(w.alloc (.cells #[Y e] 203)).cell? (I e 1)=some (.slice (some (I b off)) l c):=B.cell_of (aA H _) id;have c2:(w.alloc (.cells #[Y e] 203)).cell? (I e 2)=some (Z 0):=B.cell_of (aA H _) id;have ab:=lH J;clear J B H
 go_enter_defers func178,ntmps178
 go_wp2_with fail;with_reducible refine ab.o.mono ?_
 rintro x A ⟨rfl,aa⟩;have ad:=lH aa;clear aa;go_wp2_with fail;refine MZ (f:=241) (args:= #[Y (w.heap.size+1),Y w.heap.size]) D (by simp [go_sem]) ?_;refine (L8 _ _ _).mono ?_;rintro e' aj ag ⟨rfl,rfl,af⟩;have ae:Fr No A ag:=by rw [af];exact (Fr.refl A).alloc _
 simp [Leaves,settle,results,results178,go_sem];exact ⟨A,ad,ae⟩
theorem O3 (e b off l c w) (A:Ey w e b off l c):Calls prog 181 #[Y e] w λx w'=>x=.returned (Z 0)/\Fr No w w':=by
 have B:w.cell? (I e 0)=some (.bool true):=aA A _;have c2:w.cell? (I e 2)=some (Z 0):=aA A _;clear A;go_enter func181,ntmps181;go_wp2_with fail;exact AZ (v:=Z 0) (by simp [results,results181,go_sem]) rfl ⟨rfl,Fr.refl _⟩
theorem Wn (e b off c w) (H:Ey w e b off 0 c):Calls prog 177 #[Y e] w λx w'=>x=.returned (Z 0)/\Fr No w w':=by
 have B:=lH H;clear H;go_enter func177,ntmps177;go_wp2_with fail;refine (O3 e b off 0 c w B).mono ?_;rintro x aa ⟨rfl,A⟩;have c1:aa.cell? (I e 1)=some (.slice (some (I b off)) 0 c):=A.cell_of (aA B.o _) id;have J:=lH A;clear A;go_wp2_with fail;exact AZ (v:=Z 0) (by simp [results,results177,go_sem]) rfl ⟨rfl,J⟩
theorem aAo (v bs b off c w) (h:fH w v bs b off c) (af:bs.length<=1000000):
  Calls prog 176 #[v] w λx w'=>∃e A B,x=.returned (Y e)/\Ey w' e A 0 bs.length B/\fH w' (O A bs.length B) bs A 0 B/\A≠e/\w.heap.size<=e/\w.heap.size<=A/\Fr No w w':=by
 have ai:=h.1;have ae:=lH (Az v bs b off c w h af);subst ai;clear h;go_enter func176,ntmps176;go_wp2_with fail;refine ae.o.mono ?_;rintro x H ⟨ak,A,B,rfl,⟨rfl,sl⟩,ag,ad⟩;have aa:=lH sl;have ab:=lH ad;have aj:=sl.2.1;clear sl ad;go_wp2_with fail;have J:Fr No H (H.alloc (.cells #[true,O A bs.length B,Z 0] 304)):=(Fr.refl H).alloc _;exact AZ (v:=Y H) (by simp [results,results176,go_sem]) rfl ⟨_,A,B,rfl,aT H _,⟨rfl,aa.o.1,AP aa.o.2.1 J.size,λj x ah=>J.cell_of (aa.o.2.2 j x ah) id⟩,by omega,ab.o.size,ag,ab.o.trans J zq⟩
open Go
section
variable {P:Program} {ops:Array Oper} {Q:Exit->Act->World->Prop} {md:Region.Mode} {S:Act->World->Prop} {T:Nat->Bool}
def qA (P:Program) (ops:Array Oper) (S:Act->World->Prop) (o:Oper) (v:Value) (a:Act):Prop:=
 (Region.wanted o (yielded ops a.tmps)=true/\∀w,(∃b,S b w)->(∃w',(execOp a.eval o).run P w=.ok (.value v) w'/\∀b,S b w->S b w')\/∃f args w1,(execOp a.eval o).run P w=.ok (.enter f args) w1/\Calls P f args w1 (λe w'=>e=.returned v/\∀b,S b w->S b w'))\/
 (Region.wanted o (yielded ops a.tmps)=false/\v=undef)
theorem qA.wpOp {i o v a} (ad:ops[i]? =some o) (af:qA P ops S o v a) {K w} (A:S a w) (h:∀w',S a w'->K (a.put o.dst v) w'):wpOp P ops Q i K a w:=by
 unfold Go.wpOp;simp only [ad];rcases af with ⟨J,ae⟩|⟨J,rfl⟩;{simp only [J,IJ];refine .inl ?_;rcases ae w ⟨a,A⟩ with ⟨w',H,B⟩|⟨f,args,ah,H,aa⟩;{simp only [Oper.wp,H,Oper.upon];exact h w' (B a A)};{simp only [Oper.wp,H,Oper.upon];refine Calls.mono aa λe ag ab=> ?_;obtain ⟨rfl,B⟩:=ab;exact h ag (B a A)}};{simp only [J,DT,GG];exact h w A}
theorem qA.of_same {o v a a'} (H:qA P ops S o v a) (A:execOp a'.eval o=execOp a.eval o) (B:Region.wanted o (yielded ops a'.tmps)=Region.wanted o (yielded ops a.tmps)):qA P ops S o v a':=by
 unfold qA at*;rw [A,B];exact H
theorem aE3 {j A B v} (aj:ops[j]? =some B) (ai:A.apart ops B=true) (al:∀cs b,A.op≠ .select cs b) (ah:∀cs b,B.op≠ .select cs b) (af:∀c a w,Q (.panic c) (a.put A.dst v) w->Q (.panic c) a w) {K a w} (H:qA P ops S A v a) (h:wpOp P ops Q j K (a.put A.dst v) w):
  wpOp P ops Q j (λa' w'=>qA P ops S A v a'/\K (a'.put A.dst v) w') a w:=by
 obtain ⟨ab,J,ae⟩:=Oper.apart_spec ai;have keep:∀(a:Act),qA P ops S A v a->∀u,qA P ops S A v (a.put B.dst u):=λa H u=>
  H.of_same (LU A al a B.dst u ae) (wanted_put A a B.dst u ae)
 have am:∀d,qA P ops S A v {a with defers:=d::a.defers}:=λd=>H.of_same rfl rfl;unfold wpOp at*;simp only [aj] at*;rw [wanted_put B a A.dst v ab] at h;split;{rename_i ad;simp only [ad,IJ] at h;rcases h with h|⟨ag,ak⟩;(case inr=>exact .inr ⟨by unfold Oper.asks at*;rw [LU B ah a A.dst v ab] at ag;exact ag,ak⟩);refine .inl ?_;unfold Oper.wp at*;rw [LU B ah a A.dst v ab] at h;generalize (execOp a.eval B).run P w=r at*;(cases r with|ok n w'=>{(cases n<;>simp only [Oper.upon] at h ⊢);(case value u=>exact ⟨keep a H u,by rw [<-FK a v u J];exact h⟩);(case skip=>exact ⟨keep a H _,by rw [<-FK a v undef J];exact h⟩);(case defer d=>refine ⟨keep _ (am d) _,?_⟩;rw [<-FK _ v undef J,<-Act.put_defers];exact h);(case enter f args=>refine Calls.mono h λe an aa=> ?_;(cases e with|returned u=>exact ⟨keep a H u,by rw [<-FK a v u J];exact aa⟩|panicked c=>exact af _ _ _ aa|outgrown=>exact aa));case row row args=>exact Rows.mono h λu an aa=>⟨keep a H u,by rw [<-FK a v u J];exact aa⟩}|halt x w'=>{(cases x<;>simp only [Oper.upon] at h ⊢);case panic u=>exact af _ _ _ h})};{rename_i ad;simp only [ad] at h;exact ⟨keep a H _,by rw [<-FK a v undef J];exact h⟩}
def wB (P:Program) (md:Region.Mode) (ops:Array Oper) (Q:Exit->Act->World->Prop) (S:Act->World->Prop) (T:Nat->Bool):Nat->Array Bool->Act->Prop
 | 0,listed,a=>Region.ready md ops listed= []/\∀w,S a w->Q .normal a w
 | fuel+1,listed,a=>
  (Region.ready md ops listed= []->∀w,S a w->Q .normal a w)/\
  ∀i∈Region.ready md ops listed,∀w,S a w->wpOp P ops Q i (λa' w'=>if T i=true then wpAny P md ops Q fuel (listed.setIfInBounds i true) a' w' else S a' w'/\wB P md ops Q S T fuel (listed.setIfInBounds i true) a') a w
theorem Qr:∀(A:Nat) (listed:Array Bool) (a:Act) (w:World),S a w->wB P md ops Q S T A listed a->wpAny P md ops Q A listed a w
 | 0,_,_,w,hS,h=>⟨h.1,h.2 w hS⟩
 | A+1,_,_,w,hS,h=>⟨λJ=>h.1 J w hS,λi H=>IP (λa' w' B=>by
   split at B
   ·exact B
   ·exact Qr A _ a' w' B.1 B.2) (h.2 i H w hS)⟩
theorem aAY {i H v} (ah:ops[i]? =some H) (an:∀(j:Nat) (o:Oper) cs b,ops[j]? =some o->o.op≠ .select cs b) (aq:∀c a w,Q (.panic c) (a.put H.dst v) w->Q (.panic c) a w) (ar:T i=false) (ag:∀(a:Act) v w,S (a.put H.dst v) w↔S a w):
  ∀(ab:Nat) (listed:Array Bool) (a:Act),
   (∀j aa,ops[j]? =some aa->j≠i->listed.getD j true=false->(∀e∈aa.after,Region.binds md e=true->e.on≠i)->H.apart ops aa=true)->
   i∈Region.ready md ops listed->Yields P ops H v a->
   wB P md ops Q S T ab (listed.setIfInBounds i true) (a.put H.dst v)->wB P md ops Q S T (ab+1) listed a:=by
 intro ab;induction ab with
 | zero=>
  intro listed a _ B aj ad;refine ⟨λh=>(by rw [h] at B;cases B),λj ai w af=> ?_⟩;by_cases A:j=i;{subst A;exact aj.wpOp ah (by rw [AA (by simp [ar])];exact ⟨(ag _ _ _).2 af,ad⟩)};{have:=EY ai A;rw [ad.1] at this;cases this}
 | succ ab ih=>
  intro listed a au B aj ad;refine ⟨λh=>(by rw [h] at B;cases B),λj ai w af=> ?_⟩;by_cases A:j=i;{subst A;exact aj.wpOp ah (by rw [AA (by simp [ar])];exact ⟨(ag _ _ _).2 af,ad⟩)}
  ·have J:=ad.2 j (EY ai A) w ((ag _ _ _).2 af);obtain ⟨ax,aa,am,bc⟩:=FB.1 ai;have bj:∀e∈aa.after,Region.binds md e=true->e.on≠i:=λe be bd bf=>by
    have J:=bc e be bd;have ao:=(FB.1 B).1;rw [bf] at J;rcases BK i listed.size with ak|ak;{simp [ak] at ao J;rw [ao] at J;cases J};{simp [CP ak] at J}
   have az:=wpOp_put am (au j aa am A ax bj) (λcs b=>an i H cs b ah) (λcs b=>an j aa cs b am) aq aj J;have av:∀k ok,ops[k]? =some ok->k≠i->(listed.setIfInBounds j true).getD k true=false->
     (∀e∈ok.after,Region.binds md e=true->e.on≠i)->H.apart ops ok=true:=λk ok bg bh ay bi=>by
     refine au k ok bg bh ?_ bi;by_cases aw:j=k;{subst aw;exact ax};{rw [IW true aw] at ay;exact ay}
   refine IP (λa' w' bb=> ?_) az;obtain ⟨ap,ae⟩:=bb;split at ae;{rename_i al;rw [AL al];refine wpAny_first ah an aq ab (listed.setIfInBounds j true) a' w' av (EY B (EP A)) ap ?_;rw [DZ _ _ A];exact ae};{rename_i al;rw [AA al];refine ⟨(ag _ _ _).1 ae.1,ih (listed.setIfInBounds j true) a' av (EY B (EP A)) ap ?_⟩;rw [DZ _ _ A];exact ae.2}
theorem aFG {i H v} (ar:ops[i]? =some H) (bc:∀(j:Nat) (o:Oper) cs b,ops[j]? =some o->o.op≠ .select cs b) (bg:∀c a w,Q (.panic c) (a.put H.dst v) w->Q (.panic c) a w) (au:T i=false) (aj:∀(a:Act) v w,S (a.put H.dst v) w↔S a w) (f) (bh:∀t,T t=true->reach md ops f t i=true):
  ∀(af:Nat) (listed:Array Bool) (a:Act),Closed md ops listed->
   (∀j ab,ops[j]? =some ab->j≠i->listed.getD j true=false->(∀e∈ab.after,Region.binds md e=true->e.on≠i)->H.apart ops ab=true)->
   i∈Region.ready md ops listed->qA P ops S H v a->
   wB P md ops Q S T af (listed.setIfInBounds i true) (a.put H.dst v)->wB P md ops Q S T (af+1) listed a:=by
 intro af;induction af with
 | zero=>
  intro listed a _ _ B al ae;refine ⟨λh=>(by rw [h] at B;cases B),λj ah w ai=> ?_⟩;by_cases A:j=i;{subst A;exact al.wpOp ar ai (λw' an=>by rw [AA (by simp [au])];exact ⟨(aj _ _ _).2 an,ae⟩)};{have:=EY ah A;rw [ae.1] at this;cases this}
 | succ af ih=>
  intro listed a aw ax B al ae;refine ⟨λh=>(by rw [h] at B;cases B),λj ah w ai=> ?_⟩;by_cases A:j=i;{subst A;exact al.wpOp ar ai (λw' an=>by rw [AA (by simp [au])];exact ⟨(aj _ _ _).2 an,ae⟩)}
  ·have aa:=ae.2 j (EY ah A) w ((aj _ _ _).2 ai);obtain ⟨az,ab,ak,av⟩:=FB.1 ah;have ao:¬T j=true:=λao=>by
    have ad:=Bi aw f j i (λo bb e aq ap=>by rw [ak] at bb;cases bb;exact av e aq ap) (bh j ao);have ag:=(FB.1 B).1;rcases BK i listed.size with J|J;{simp [J] at ag ad;rw [ag] at ad;cases ad};{simp [CP J] at ad}
   have bn:∀e∈ab.after,Region.binds md e=true->e.on≠i:=λe aq ap bi=>by
    have aa:=av e aq ap;have ag:=(FB.1 B).1;rw [bi] at aa;rcases BK i listed.size with J|J;{simp [J] at ag aa;rw [ag] at aa;cases aa};{simp [CP J] at aa}
   have be:=aE3 ak (ax j ab ak A az bn) (λcs b=>bc i H cs b ar) (λcs b=>bc j ab cs b ak) bg al aa;have bj:∀k ok,ops[k]? =some ok->k≠i->(listed.setIfInBounds j true).getD k true=false->
     (∀e∈ok.after,Region.binds md e=true->e.on≠i)->H.apart ops ok=true:=λk ok bk bl bd bm=>by
     refine ax k ok bk bl ?_ bm;by_cases ay:j=k;{subst ay;exact az};{rw [IW true ay] at bd;exact bd}
   refine IP (λa' w' ad=> ?_) be;obtain ⟨bf,am⟩:=ad;rw [AA ao] at am ⊢;refine ⟨(aj _ _ _).1 am.1,ih (listed.setIfInBounds j true) a' (aw.set ah) bj (EY B (EP A)) bf ?_⟩;rw [DZ _ _ A];exact am.2
def Kq (P:Program) (ops:Array Oper) (Q:Exit->Act->World->Prop) (S:Act->World->Prop) (k:Nat) (L2:List Nat) (a:Act):Prop:=
 ∀w,S a w->wpOp P ops Q k (λa' w'=>S a' w'/\∀w'',S a' w''->wpList P ops Q (L2.filterMap λi=>ops[i]?) a' w'') a w
def seqB (P:Program) (md:Region.Mode) (ops:Array Oper) (Q:Exit->Act->World->Prop) (S:Act->World->Prop) (k:Nat) (L2:List Nat):List Nat->Act->Prop
 | [],a=>Kq P ops Q S k L2 a
 | i::r,a=>∃o v,ops[i]? =some o/\(∀(a:Act) v w,S (a.put o.dst v) w↔S a w)/\(Yields P ops o v a\/(rch md ops L2 i=true/\qA P ops S o v a))/\seqB P md ops Q S k L2 r (a.put o.dst v)
theorem aD0 (L2 B listed a) (aa:L2.length=B) (H:o6 md ops listed L2=true) (h:∀w,S a w->wpList P ops Q (L2.filterMap λi=>ops[i]?) a w):wB P md ops Q S (λi=>L2.contains i) B listed a:=by
 have ab:∀w,S a w->wpAny P md ops Q B listed a w:=λw A=>Dv L2 B listed a w aa H (h w A);(cases B with|zero=>(have ae:L2= []:=by simpa using aa);subst ae;exact ⟨by simpa [o6] using H,λw A=>(ab w A).2⟩|succ f=>refine ⟨λaf w A=>(ab w A).1 af,λi J w A=>IP (λa' w' ad=> ?_) ((ab w A).2 i J)⟩;(cases L2 with|nil=>simp at aa|cons t r=>unfold o6 at H;rw [BO] at H;rw [JL H.1,BB] at J;rw [AL (by simp [J])];exact ad))
theorem aAD (ap:Region.noSelect ops=true) (al:∀c (a:Act) d v w,Q (.panic c) (a.put d v) w->Q (.panic c) a w) (k L2) (av:L2.contains k=false):
  ∀(J:List Nat) (H:Nat) (listed:Array Bool) (a:Act),J.length+(L2.length+1)=H->Closed md ops listed->mX md ops (k::L2) listed J=true->seqB P md ops Q S k L2 J a->wB P md ops Q S (λi=>L2.contains i) H listed a:=by
 intro J;(induction J with|nil=>intro H listed a ab ad A h;(obtain rfl:H=L2.length+1:=by simpa using ab.symm);unfold mX o6 at A;rw [BO] at A;have an:=JL A.1;refine ⟨λah=>(by rw [an] at ah;cases ah),λi B w au=> ?_⟩;rw [an,BB] at B;subst B;refine IP (λa' w' ag=> ?_) (h w au);rw [AA (by simp only [av];decide)];exact ⟨ag.1,aD0 L2 _ _ a' rfl A.2 ag.2⟩|cons i r ih=>{intro H listed a ab ad A h;obtain ⟨f,rfl⟩:∃f,H=f+1:=⟨r.length+(L2.length+1),by simp at ab;omega⟩;unfold mX at A;simp only [BO,ML] at A;obtain ⟨⟨⟨aq,ai⟩,aj⟩,ar⟩:=A;(have ae:i∈Region.ready md ops listed:=by simpa using aq);(have ak:L2.contains i=false:=by{rw [List.contains_cons,Bool.or_eq_false_iff] at aj;exact aj.2});obtain ⟨o,v,B,am,aa,h⟩:=h;have ao:=ih f (listed.setIfInBounds i true) (a.put o.dst v) (by simp at ab;omega) (ad.set ae) ar h;rcases aa with aa|⟨af,aa⟩;{exact aAY B (IA ap) (λc a w h=>al c a _ _ w h) ak am f listed a (JJ B ai) ae aa ao};{refine aFG B (IA ap) (λc a w h=>al c a _ _ w h) ak am ops.size (λt aw=> ?_) f listed a ad (JJ B ai) ae aa ao;unfold rch at af;rw [FD] at af;exact af t (U aw)}})
def jJ (P:Program) (md:Region.Mode) (ops:Array Oper) (Q:Exit->Act->World->Prop) (S:Act->World->Prop) (k:Nat) (L2:List Nat):Nat->List Oper->Act->Prop
 | _, [],a=>Kq P ops Q S k L2 a
 | j,o::rest,a=>if (k::L2).contains j=true then jJ P md ops Q S k L2 (j+1) rest a else ∃v,(∀(a:Act) v w,S (a.put o.dst v) w↔S a w)/\(Yields P ops o v a\/(rch md ops L2 j=true/\qA P ops S o v a))/\jJ P md ops Q S k L2 (j+1) rest (a.put o.dst v)
theorem Ny {k:Nat} {L2:List Nat}:∀(r j:Nat) (a:Act),j+r=ops.size->jJ P md ops Q S k L2 j (ops.toList.drop j) a->seqB P md ops Q S k L2 ((List.range' j r).filter λi=> !(k::L2).contains i) a
 | 0,j,a,hj,h=>by
  obtain rfl:j=ops.size:=by omega
  rw [EO D] at h;exact h
 | r+1,j,a,hj,h=>by
  have B:j<ops.toList.length:=by simp;omega
  have J:ops[j]? =some (ops.toList[j]):=by rw [<-CV];exact AC B
  rw [DN B] at h;unfold jJ at h;rw [List.range'_succ,GM];split at h
  ·rename_i A
   rw [AA (by simp only [A];decide)];exact Ny r (j+1) a X h
  ·rename_i A
   rw [AL (U A)];obtain ⟨v,H,aa,h⟩:=h;exact ⟨_,v,J,H,aa,Ny r (j+1) _ X h⟩
theorem Ue {id a w} (ad:P.follows .mixedOrders=true) (S k L2) (ae:Region.noSelect ops=true) (aa:L2.contains k=false) (ab:(((List.range' 0 ops.size).filter λi=> !(k::L2).contains i).length+(L2.length+1)==ops.size)=true) (J:mX .any ops (k::L2) (Array.replicate ops.size false) ((List.range' 0 ops.size).filter λi=> !(k::L2).contains i)=true) (B:∀c (a:Act) d v w,Q (.panic c) (a.put d v) w->Q (.panic c) a w) (H:S a w.drew) (h:jJ P .any ops Q S k L2 0 ops.toList a):(Code.region id ops true).wp P Q a w:=by
 refine wp_region_any ad ?_;refine Qr _ _ _ _ H (aAD ae B k L2 aa _ ops.size _ a (JL ab) (λj o af A=> ?_) J (Ny ops.size 0 a X (U h)));rw [EJ,IQ] at A;split at A<;>cases A
end
section
variable {P:Program} {ops:Array Oper} {Q:Exit->Act->World->Prop} {md:Region.Mode} {S:Act->World->Prop}
variable {L2:List Nat} {k j:Nat} {o:Oper} {rest:List Oper} {a:Act} {v:Value}
theorem Oj (A:(k::L2).contains j=true) (h:jJ P md ops Q S k L2 (j+1) rest a):jJ P md ops Q S k L2 j (o::rest) a:=by
 unfold jJ;rw [AL A];exact h
theorem Le (B:(k::L2).contains j=false) (A:∀(a:Act) v w,S (a.put o.dst v) w↔S a w) (H:Region.wanted o (yielded ops a.tmps)=true) (h:∀w,(execOp a.eval o).run P w=.ok (.value v) w) (r:jJ P md ops Q S k L2 (j+1) rest (a.put o.dst v)):jJ P md ops Q S k L2 j (o::rest) a:=by
 unfold jJ;rw [AA (by simp only [B];decide)];exact ⟨v,A,.inl (.inl ⟨H,h⟩),r⟩
theorem Ej (J:(k::L2).contains j=false) (B:∀(a:Act) v w,S (a.put o.dst v) w↔S a w) (H:rch md ops L2 j=true) (aa:Region.wanted o (yielded ops a.tmps)=true) (h:∀w,(∃b,S b w)->(execOp a.eval o).run P w=.ok (.value v) w) (r:jJ P md ops Q S k L2 (j+1) rest (a.put o.dst v)):jJ P md ops Q S k L2 j (o::rest) a:=by
 unfold jJ;rw [AA (by simp only [J];decide)];exact ⟨v,B,.inr ⟨H,.inl ⟨aa,λw A=> .inl ⟨w,h w A,λ_ h=>h⟩⟩⟩,r⟩
theorem aAc (f args) (aa:(k::L2).contains j=false) (B:∀(a:Act) v w,S (a.put o.dst v) w↔S a w) (H:rch md ops L2 j=true) (ab:Region.wanted o (yielded ops a.tmps)=true) (h:∀w,(execOp a.eval o).run P w=.ok (.enter f args) w) (J:∀w,(∃b,S b w)->Calls P f args w (λe w'=>e=.returned v/\∀b,S b w->S b w')) (r:jJ P md ops Q S k L2 (j+1) rest (a.put o.dst v)):jJ P md ops Q S k L2 j (o::rest) a:=by
 unfold jJ;rw [AA (by simp only [aa];decide)];exact ⟨v,B,.inr ⟨H,.inl ⟨ab,λw A=> .inr ⟨f,args,w,h w,J w A⟩⟩⟩,r⟩
theorem aDO (aa:ops[k]? =some o) (ad:Region.wanted o (yielded ops a.tmps)=true)
  (h:∀w,S a w->∃v w',(execOp a.eval o).run P w=.ok (.value v) w'/\S (a.put o.dst v) w'/\∀A,S (a.put o.dst v) A->wpList P ops Q (L2.filterMap λi=>ops[i]?) (a.put o.dst v) A):Kq P ops Q S k L2 a:=by
 intro w J;obtain ⟨v,w',ab,B,H⟩:=h w J;unfold wpOp;simp only [aa,ad,IJ];refine .inl ?_;simp only [Oper.wp,ab,Oper.upon];exact ⟨B,H⟩
end
def nC (d:Nat) (u:Value) (R:Value->World->Prop) (w0:World) (a:Act) (w:World):Prop:=Fr No w0 w/\(a.tmps.getD d undef=u\/R (a.tmps.getD d undef) w)
theorem wF (e u R w0 d) (hd:d≠e) (a v w):nC e u R w0 (a.put (some d) v) w↔nC e u R w0 a w:=by
 have e:(a.put (some d) v).tmps.getD e undef=a.tmps.getD e undef:=by
  simp [Act.put,Array.getElem?_setIfInBounds,hd]
 unfold nC;rw [e]
def qV (cs:Array Value) (t:TypeId) (w0:World) (v:Value) (W:World):Prop:=∃g,v=Y g/\w0.heap.size<=g/\W.heap[g]? =some (.cells cs t (0,0))
theorem aEm {P:Program} {d:Nat} {u:Value} {cs t w0 f args v} (ab:∀W,Fr No w0 W->Calls P f args W (λe w'=>e=.returned v/\Fr No W w')):
  ∀w,(∃b,nC d u (qV cs t w0) w0 b w)->Calls P f args w (λe w'=>e=.returned v/\∀b,nC d u (qV cs t w0) w0 b w->nC d u (qV cs t w0) w0 b w'):=λw ⟨b,aa⟩=>
 (ab w aa.1).mono (λe w' ⟨B,f⟩=>⟨B,λb h=>⟨h.1.trans f zq,by
   rcases h.2 with A|⟨g,A,H,J⟩
   ·exact .inl A
   ·exact .inr ⟨g,A,H,f.aB J id⟩⟩⟩)
section
variable {P:Program} {ops:Array Oper} {Q:Exit->Act->World->Prop} {w:World} {k j j':Nat} {rest rest':List Oper} {a a':Act} {L2:List Nat} {o:Oper} {R:Value->World->Prop} {d:Nat} {u:Value} {cs:Array Value} {t:TypeId}
theorem xB (K:jJ P .any ops Q (nC d u R w) k L2 j' rest' a') (h:Hid (jJ P .any ops Q (nC d u R w) k L2 j' rest' a')->jJ P .any ops Q (nC d u R w) k L2 j rest a:=by
 intro K
 (try simp only [pT,aJ,lsS])
 repeat (first
  | refine Oj (by rfl) ?_
  | (refine Le (v:= ?_) (by rfl) (λa v w=>wF _ _ _ _ _ G a v w) (by rfl) ?_ ?_
     rotate_left 1
     (intro W;go_simp;(try with_reducible rfl))
     simp only [pT,aJ,lsS])
  | (refine Ej (v:= ?_) (by rfl) (λa v w=>wF _ _ _ _ _ G a v w) N (by rfl) ?_ ?_
     rotate_left 1
     (intro W B;have A:=B.choose_spec.1;(first|have c1:=A.cell_of C1.o id|have c1:=A.cell_of C1 id|skip);(first|have c2:=A.cell_of C2.o id|have c2:=A.cell_of C2 id|skip);(first|have c3:=A.cell_of C3.o id|have c3:=A.cell_of C3 id|skip);(first|have c4:=A.cell_of C4.o id|have c4:=A.cell_of C4 id|skip);(first|have c5:=A.cell_of C5.o id|have c5:=A.cell_of C5 id|skip);(first|have H:=A.cell_of C6.o id|have H:=A.cell_of C6 id|skip);(try obtain ⟨J,aa,ab⟩:=HLC.o W A);clear B A;go_simp;(try with_reducible rfl))
     simp only [pT,aJ,lsS]))
 exact K.o):jJ P .any ops Q (nC d u R w) k L2 j rest a:=h (lH K)
theorem xA {id} (d u cs t k L2) (K:jJ P .any ops Q (nC d u (qV cs t w) w) k L2 j rest a') (ae:P.follows .mixedOrders=true) (af:Region.noSelect ops=true:=by kernel_rfl) (ab:L2.contains k=false:=by kernel_rfl) (ad:(((List.range' 0 ops.size).filter λi=> !(k::L2).contains i).length+(L2.length+1)==ops.size)=true:=by kernel_rfl) (aa:mX .any ops (k::L2) (Array.replicate ops.size false) ((List.range' 0 ops.size).filter λi=> !(k::L2).contains i)=true:=by kernel_rfl) (J:∀c (a:Act) d v w,Q (.panic c) (a.put d v) w->Q (.panic c) a w:=by
 intro _ _ d _ _ h;cases d<;>exact h) (hu:a.tmps.getD d undef=u:=by rfl) (h:Hid (jJ P .any ops Q (nC d u (qV cs t w) w) k L2 j rest a')->jJ P .any ops Q (nC d u (qV cs t w) w) k L2 0 ops.toList a:=by
 intro K
 (try simp only [pT,aJ,lsS])
 repeat (first
  | refine Oj R ?_
  | (refine Le (v:= ?_) R (λa v w=>wF _ _ _ _ _ G a v w) R ?_ ?_
     rotate_left 1
     (intro W;go_simp;(try with_reducible rfl))
     simp only [pT,aJ,lsS])
  | (refine Ej (v:= ?_) R (λa v w=>wF _ _ _ _ _ G a v w) N R ?_ ?_
     rotate_left 1
     (intro W B;have A:=B.choose_spec.1;(first|have c1:=A.cell_of C1.o id|have c1:=A.cell_of C1 id|skip);(first|have c2:=A.cell_of C2.o id|have c2:=A.cell_of C2 id|skip);(first|have c3:=A.cell_of C3.o id|have c3:=A.cell_of C3 id|skip);(first|have c4:=A.cell_of C4.o id|have c4:=A.cell_of C4 id|skip);(first|have c5:=A.cell_of C5.o id|have c5:=A.cell_of C5 id|skip);(first|have H:=A.cell_of C6.o id|have H:=A.cell_of C6 id|skip);(try obtain ⟨ag,ah,ai⟩:=HLC.o W A);clear B A;go_simp;(try with_reducible rfl))
     simp only [pT,aJ,lsS]))
 exact K.o):(Code.region id ops true).wp P Q a w:=Ue ae _ k L2 af ab ad aa J ⟨(Fr.refl _).drew,.inl hu⟩ (h (lH K))
theorem xC {v f args} (B:∀W,Fr No w W->Calls P f args W (λe w'=>e=.returned v/\Fr No W w')) (K:jJ P .any ops Q (nC d u (qV cs t w) w) k L2 (j+1) rest (a.put o.dst v)) (H:(k::L2).contains j=false:=by rfl) (A:∀(a:Act) v W,nC d u (qV cs t w) w (a.put o.dst v) W↔nC d u (qV cs t w) w a W:=by exact λa v w=>wF _ _ _ _ _ G a v w) (J:rch .any ops L2 j=true:=by kernel_rfl) (aa:Region.wanted o (yielded ops a.tmps)=true:=by rfl) (h:∀W,(execOp a.eval o).run P W=.ok (.enter f args) W:=by
 intro W;go_simp):jJ P .any ops Q (nC d u (qV cs t w) w) k L2 j (o::rest) a:=aAc f args H A J aa h (aEm B) K
theorem xE (K:∀W A:World,Fr No w W->Fr No w A->A.heap[W.heap.size]? =some (.cells cs t (0,0))->wpList P ops Q (L2.filterMap λi=>ops[i]?) (a.put o.dst (Y W.heap.size)) A) (J:ops[k]? =some o:=by rfl) (hu:∀W:World,w.heap.size<=W.heap.size->(Y W.heap.size:Value)≠u:=by
 intro _ _ h;cases h) (ad:Region.wanted o (yielded ops a.tmps)=true:=by rfl) (hd:∀v,(a.put o.dst v).tmps.getD d undef=v:=by
 intro _;rfl) (ab:∀W:World,(execOp a.eval o).run P W=.ok (.value (Y W.heap.size)) (W.alloc (.cells cs t)):=by
 intro W;go_simp):jJ P .any ops Q (nC d u (qV cs t w) w) k L2 j [] a:=by
 unfold jJ;refine aDO J ad λW B=>⟨_,_,ab W,⟨B.1.alloc _,.inr ?_⟩,λA h=>K W A B.1 h.1 ?_⟩;{rw [hd];exact ⟨W.heap.size,rfl,B.1.size,aT W _⟩};{rcases h.2 with H|⟨g,e,_,aa⟩;{rw [hd] at H;exact absurd H (hu W B.1.size)};{rw [hd] at e;cases e;exact aa}}
end
open Go.WideElems (Fit rd rg pl rd_val rd_key rg_of rd_mk other_key)
open Go.MapKept Go.ChangeMaps
section
variable {K V:Type} {E:Enc K V} {w w':World} {b c r:Nat} {m:K->Option V} {left:K->Bool} {cnt:Nat}
theorem jM.aD5 [DecidableEq K] (h:jM E w b r c m left cnt) (x y) (az:E.good x) (au:(m x).isSome=true) (bb:E.fine y) (bh:c<4611686018427387904) {t e} (aj:prog.underlying t=some (.map E.k e)) {zv} (cc:(zeroValue e).run prog w=.ok zv w):
  ∃w',(Instr.mapUpdate t (.map (some b)) (E.ek x) (E.ev y)).run prog w=.ok () w'/\jM E w' b r c (λz=>if z=x then some y else m z) left cnt/\Fr (· =b) w w':=by
 obtain ⟨w',ax,av,ao⟩:=h.map.put x y az bb bh aj;rw [AL au] at av;refine ⟨w',ax,?_,ao⟩;have bq:=h.ne;obtain ⟨D,ce,⟨es,clock,cf,seen,be,J,F,cl,rfl,bt,br,bi,bo,bp,bw,bx⟩,A,T,bn⟩:=h;obtain ⟨ch,⟨cj,ci,ah,F',bu,rfl⟩,cb,bd⟩:=av;have ab:=E.key x az;have bl:=F.keys;rcases E.law.find w ab es.toList bl with ⟨ak,B⟩|⟨j,e0,ak,B,al⟩;{exfalso;obtain ⟨y0,ca⟩:=EC.1 au;obtain ⟨_,_,ap,ck⟩:=T.some x y0 ca;rcases Maps.fit_look false E.law aj cc J F ab with ⟨_,_,bg⟩|⟨e0,y1,ai,bk,_⟩;{rw [Maps.has_false_of_atKey bg] at ap;cases ap};{exact B e0 ai bk}}
 ·(have bj:es[j]? =some e0:=by simpa using B);(have ay:(Instr.mapUpdate t (.map (some b)) (E.ek x) (E.ev y)).run prog w=.ok () (setBlock w b (.map (es.modify j (λe'=>{e' with key:=E.ek x,val:=E.ev y})) clock)):=by{simp [Instr.mapUpdate,EF aj,EN J,E.law.check w false ab,ak,bj,al,E.law.stays w ab,FX _ J,Result.andThen,setBlock]});rw [ax] at ay;(have bz:w'=setBlock w b (.map (es.modify j (λe'=>{e' with key:=E.ek x,val:=E.ev y})) clock):=by{injection ay});(have am:w'.heap[b]? =some (.map (es.modify j (λe'=>{e' with key:=E.ek x,val:=E.ev y})) clock):=by rw [bz];exact heap_setBlock_same J _);rw [am] at ah;simp only [FQ,Obj.map.injEq] at ah;obtain ⟨rfl,rfl⟩:=ah;(have ag:(es.modify j (λe'=>{e' with key:=E.ek x,val:=E.ev y})).toList=es.toList.set j {e0 with key:=E.ek x,val:=E.ev y}:=by rw [KC,modify_eq_set _ _ _ _ B]);(have ar:(rg prog E.k E.R {e0 with key:=E.ek x,val:=E.ev y}).1=(rg prog E.k E.R e0).1:=by{have ai:=DX B;obtain ⟨q,aw⟩:=F.reads e0 ai;rw [rg_of aw,rg_of (rd_mk (born:=e0.born) ab (E.read y bb))];have:=rd_key aw;rw [al,ab] at this;exact FZ this});(have bc:∀z∈es.toList.set j {e0 with key:=E.ek x,val:=E.ev y},∃z0∈es.toList,z.born=z0.born/\(rg prog E.k E.R z).1=(rg prog E.k E.R z0).1:=by{intro z A;obtain ⟨i,ae,H⟩:=ND A;rw [List.getElem_set] at H;split at H;{subst H;exact ⟨e0,DX B,rfl,ar⟩};{subst H;exact ⟨_,BF (U ae),rfl,rfl⟩}});have cg:∀z0∈es.toList,∃z∈es.toList.set j {e0 with key:=E.ek x,val:=E.ev y},(rg prog E.k E.R z).1=(rg prog E.k E.R z0).1:=by{intro z0 aa;obtain ⟨i,ae,H⟩:=ND aa;by_cases aq:j=i;{subst aq;refine ⟨_,MS.2 ⟨j,by simpa using ae,rfl⟩,?_⟩;rw [List.getElem_set_self,ar];rw [AC ae] at B;rw [<-H,FZ B]};{refine ⟨_,MS.2 ⟨i,by simpa using ae,rfl⟩,?_⟩;rw [List.getElem_set_ne aq,H]}}
  have an:∀a:Array MapEntry,(leftOf a seen).size=(a.toList.filter λe=> !seen.contains e.born).length:=λa=>by
   unfold leftOf;rw [<-Array.toList_filter,NE]
  (have bv:∀(l:List MapEntry) (j:Nat) (z af:MapEntry),l[j]? =some z->af.born=z.born->((l.set j af).filter λe=> !seen.contains e.born).length=(l.filter λe=> !seen.contains e.born).length:=by{intro l;(induction l with|nil=>intro j z af h;simp at h|cons a r ih=>intro j z af h J;(cases j with|zero=>simp only [ES,FQ] at h;subst h;simp only [aJ,GM,J];split<;>rfl|succ j=>simp only [EH] at h;have:=ih j z af h J;simp only [lsS,GM];split;{simp only [BX,this]};{exact this}))});refine ⟨_,ce,⟨_,_,cf,seen,be,am,F',bu,rfl,ao.aB bt (λe=>bq e),?_,?_,?_,?_,bw,bx⟩,cb,bd,bn⟩;{intro z A;rw [ag] at A;obtain ⟨z0,aa,ad,_⟩:=bc z A;rw [ad];exact br z0 aa};{rw [an,ag,bv es.toList j e0 {e0 with key:=E.ek x,val:=E.ev y} B rfl,<-an];exact bi};{intro z A;rw [ag] at A;obtain ⟨z0,aa,ad,bf⟩:=bc z A;rw [ad,bf];exact bo z0 aa};{intro cd bm;obtain ⟨z0,aa,rfl⟩:=bp cd bm;obtain ⟨z,A,ad⟩:=cg z0 aa;exact ⟨z,by rw [ag];exact A,ad⟩}
theorem jM.aAV [DecidableEq K] (h:jM E w b r c m left cnt) (x) (J:E.good x) {t e} (ag:prog.underlying t=some (.map E.k e)) (aa):
  ∃w' H,(Builtin.delete_ #[t,E.k] aa #[.map (some b),E.ek x]).run prog w=.ok (.tuple #[]) w'/\jM E w' b r (if (m x).isSome then c - 1 else c) (λz=>if z=x then none else m z) (λz=>left z&&decide (z≠x)) H/\H<=cnt/\Fr (· =b) w w':=by
 obtain ⟨w',ae,az,aw⟩:=h.map.del x J ag aa;obtain ⟨D,ai,au,bi,T,ax⟩:=h;obtain ⟨bh,H,af,ad,ay,_⟩:=au.drop E.law ag (E.key x J) aa;rw [ae] at af;(have bc:w'=bh:=by injection af);subst bc;obtain ⟨aj,ab,bd,ak⟩:=az;(have av:aj=D.del (E.lk x):=by{obtain ⟨aq,am,B,_,_,ao⟩:=ab;obtain ⟨ar,an,A,_,_,ap⟩:=ad.owns;rw [B] at A;simp only [FQ,Obj.map.injEq] at A;rw [ao,ap,A.1]});subst av;refine ⟨w',H,ae,⟨_,λz=>ai z&& !z.sameKey (E.lk x),?_,bd,ak,λz ah=> ?_⟩,ay,aw⟩;{obtain ⟨ar,an,bg,seen,al,A,be,bj,bf⟩:=ad;obtain ⟨aq,am,B,_,bb,_⟩:=ab;rw [B] at A;simp only [FQ,Obj.map.injEq] at A;obtain ⟨rfl,rfl⟩:=A;exact ⟨_,_,bg,seen,al,B,be,bb,bf⟩};{show (ai (E.lk z)&& !(E.lk z).sameKey (E.lk x))=(left z&&decide (z≠x));rw [ax z ah];by_cases e:z=x;{subst e;simp [WideAt.sameKey_self (Cm E J)]};{simp [e,Maps.sameKey_ne (λe'=>e (E.Ac ah J e'))]}}
end
open Go.WideElems (Fit findIdx_born findIdx_arr modify_last set_self)
section
variable {K V:Type} {E:Enc K V} {w w':World} {b c:Nat} {m:K->Option V}
structure aFN [DecidableEq K] (E:Enc K V) (t:TypeId) (w:World) (b c:Nat) (m:K->Option V) (x:K) (y0:V) (st:Nat) (w1:World):Prop where
 run:(Instr.mapEntry t (.map (some b)) (E.ek x)).run prog w=.ok (.tuple #[E.ev y0,goInt st]) w1
 again:(Instr.mapEntry t (.map (some b)) (E.ek x)).run prog w1=.ok (.tuple #[E.ev y0,goInt st]) w1
 fr:Fr (· =b) w w1
 size:w1.heap.size=w.heap.size
 map1:MapAt E w1 b (if (m x).isSome then c else c+1) (λz=>if z=x then some y0 else m z)
 store:∀y,E.fine y->∃w2,(Instr.entryStore t (.map (some b)) (goInt st) (E.ev y)).run prog w1=.ok () w2/\MapAt E w2 b (if (m x).isSome then c else c+1) (λz=>if z=x then some y else m z)/\Fr (· =b) w1 w2/\w2.heap.size=w1.heap.size
theorem MapAt.entry [DecidableEq K] (h:MapAt E w b c m) (x) (am:E.good x) (ax:c<4611686018427387904) {t e} (J:prog.underlying t=some (.map E.k e)) {z0} (cg:E.fine z0) (au:∀u:World,(zeroValue e).run prog u=.ok (E.ev z0) u):
  ∃ci cj,aFN E t w b c m x ((m x).getD z0) ci cj:=by
 have B:=E.key x am;(have bz:E.fine ((m x).getD z0):=by{(cases H:m x with|none=>exact cg|some y=>exact (h.good H).2)});obtain ⟨aa,bq,cc,ap⟩:=h.put x ((m x).getD z0) am bz ax J;have br:∀y,E.fine y->∃ab,(Instr.mapUpdate t (.map (some b)) (E.ek x) (E.ev y)).run prog w=.ok () ab/\MapAt E ab b (if (m x).isSome then c else c+1) (λz=>if z=x then some y else m z)/\Fr (· =b) w ab:=λy ae=>h.put x y am ae ax J;have bn:=h.look x am J (au w) false;obtain ⟨D,⟨es,clock,A,F,cd,rfl⟩,ce,T⟩:=h;obtain ⟨ch,bt,_⟩:=F.stamped;rcases E.law.find w B es.toList F.keys with ⟨af,ad⟩|⟨j,e0,af,ad,ao⟩
 ·(have bg:(Instr.lookup t (.map (some b)) (E.ek x) false).run prog w=.ok (E.ev z0) w:=by{simp [Instr.lookup,EF J,EN A,E.law.check w _ B,af,au,Result.andThen]});(have an:E.ev ((m x).getD z0)=E.ev z0:=by{rw [bn] at bg;(cases H:m x with|none=>rfl|some y=>rw [H] at bg;injection bg)});(have ah:aa=setBlock w b (.map (es.push ⟨E.ek x,E.ev z0,clock⟩) (clock+1)):=by{(have:(Instr.mapUpdate t (.map (some b)) (E.ek x) (E.ev z0)).run prog w=.ok () (setBlock w b (.map (es.push ⟨E.ek x,E.ev z0,clock⟩) (clock+1))):=by{simp [Instr.mapUpdate,EF J,EN A,E.law.check w false B,af,FX _ A,Result.andThen,setBlock]});rw [an] at bq;rw [bq] at this;injection this});have aw:aa.heap[b]? =some (.map (es.push ⟨E.ek x,E.ev z0,clock⟩) (clock+1)):=by rw [ah];exact heap_setBlock_same A _
  have cb:∀e∈(es.push ⟨E.ek x,E.ev z0,clock⟩).toList,∃l,keyOf prog E.k e.key=some l:=λe ak=>by
   rw [KX,BM,BB] at ak;rcases ak with ak|rfl;{exact F.keys e ak};{exact ⟨_,B⟩}
  have bd:(es.push ⟨E.ek x,E.ev z0,clock⟩).findIdx? (λe=>((e.born:Nat):Int)==((clock:Nat):Int))=some es.size:=by
   rw [findIdx_arr];exact findIdx_born (l:=(es.push ⟨E.ek x,E.ev z0,clock⟩).toList) (j:=es.size) (e0:=⟨E.ek x,E.ev z0,clock⟩) (by
    simp only [KX,FN,EW,List.map_nil];refine List.nodup_append.2 ⟨bt,by simp,λa bw c ax av=> ?_⟩;simp only [BB] at ax;obtain ⟨y,ae,rfl⟩:=FM.1 bw;have:=ch y ae;omega) (by simp)
  refine ⟨clock,aa,?_,?_,ap,by rw [ah];simp [setBlock],cc,λy ae=> ?_⟩;{rw [ah,an];simp [Instr.mapEntry,EF J,EN A,E.law.check w false B,af,au,FX _ A,Result.andThen,setBlock]};{rcases E.law.find aa B (es.push ⟨E.ek x,E.ev z0,clock⟩).toList cb with ⟨_,aj⟩|⟨j,e0,bu,aj,az⟩;{exact absurd rfl (aj ⟨E.ek x,E.ev z0,clock⟩ (by simp))};{have bk:=bu;rw [KX] at bk;(have aq:e0=⟨E.ek x,E.ev z0,clock⟩:=by{have H:=DX aj;rw [KX,BM,BB] at H;rcases H with H|H;{exact absurd az (ad e0 H)};{exact H}});have ca:(es.push ⟨E.ek x,E.ev z0,clock⟩)[j]? =some e0:=(by rw [<-CV];exact aj);(have bj:(es.push ⟨E.ek x,E.ev z0,clock⟩).modify j (λe=>{e with key:=E.ek x})=es.push ⟨E.ek x,E.ev z0,clock⟩:=by{apply Array.ext';rw [KC,modify_eq_set _ _ _ _ aj];have:({e0 with key:=E.ek x}:MapEntry)=e0:=(by rw [<-az]);rw [this];exact set_self _ _ _ aj});have cf:e0.val=E.ev z0:=(by rw [aq]);have bx:e0.born=clock:=(by rw [aq]);(have bc:setBlock aa b (.map (es.push ⟨E.ek x,E.ev z0,clock⟩) (clock+1))=aa:=by{rw [ah];simp [setBlock]});(have:(Instr.mapEntry t (.map (some b)) (E.ek x)).run prog aa=.ok (.tuple #[e0.val,goInt e0.born]) (setBlock aa b (.map (es.push ⟨E.ek x,E.ev z0,clock⟩) (clock+1))):=by{simp [Instr.mapEntry,EF J,EN aw,E.law.check aa false B,bk,ca,az,E.law.stays aa B,bj,FX _ aw,Result.andThen,setBlock]});rw [this,cf,bx,bc,an]}};{obtain ⟨ab,bh,be,ai⟩:=br y ae;(have bf:(es.push ⟨E.ek x,E.ev z0,clock⟩).modify es.size (λe=>{e with val:=E.ev y})=es.push ⟨E.ek x,E.ev y,clock⟩:=by{apply Array.ext';rw [KC,KX,KX,<-NE,modify_last]});(have al:ab=setBlock w b (.map (es.push ⟨E.ek x,E.ev y,clock⟩) (clock+1)):=by{(have:(Instr.mapUpdate t (.map (some b)) (E.ek x) (E.ev y)).run prog w=.ok () (setBlock w b (.map (es.push ⟨E.ek x,E.ev y,clock⟩) (clock+1))):=by{simp [Instr.mapUpdate,EF J,EN A,E.law.check w false B,af,FX _ A,Result.andThen,setBlock]});rw [bh] at this;injection this});(have ay:(Instr.entryStore t (.map (some b)) (goInt clock) (E.ev y)).run prog aa=.ok () (setBlock aa b (.map (es.push ⟨E.ek x,E.ev y,clock⟩) (clock+1))):=by{simp [Instr.entryStore,EN aw,asInt,asIntOf,goInt,bd,bf,FX _ aw,Result.andThen,setBlock]});(have ak:setBlock aa b (.map (es.push ⟨E.ek x,E.ev y,clock⟩) (clock+1))=ab:=by{rw [al,ah];simp [setBlock]});rw [ak] at ay;refine ⟨ab,ay,?_,?_,by rw [al,ah];simp [setBlock]⟩;{exact be};{refine ⟨ai.os.trans ap.os.symm,ai.tape.trans ap.tape.symm,ai.output.trans ap.output.symm,by rw [al,ah];simp [setBlock],λk bl ag=> ?_⟩;have bm:k<w.heap.size:=(by rw [ah] at bl;simpa [setBlock] using bl);rw [ai.block k bm ag,ap.block k bm ag]}}
 {(have aq:es[j]? =some e0:=by simpa using ad);(have bj:es.modify j (λe=>{e with key:=E.ek x})=es:=by{apply Array.ext';rw [KC,modify_eq_set _ _ _ _ ad];have:({e0 with key:=E.ek x}:MapEntry)=e0:=(by rw [<-ao]);rw [this];exact set_self _ _ _ ad});(have ar:(Instr.lookup t (.map (some b)) (E.ek x) false).run prog w=.ok e0.val w:=by{simp [Instr.lookup,EF J,EN A,E.law.check w _ B,af,Result.andThen]});(have an:E.ev ((m x).getD z0)=e0.val:=by{rw [bn] at ar;(cases H:m x with|none=>{rw [H] at ar;have ag:=T.none x am H;rcases Maps.fit_look false E.law J (au w) A F B with ⟨bi,_,_⟩|⟨av,y,_,_,_,_,bb,_⟩;{injection ar};{rw [MJ bb] at ag;cases ag}}|some y=>rw [H] at ar;injection ar)});(have bc:setBlock w b (.map es clock)=w:=by{have bo:=lt_of_block A;have ck:w.heap[b]=.map es clock:=(by rw [FT bo] at A;exact FZ A);unfold setBlock;(have:w.heap.setIfInBounds b (.map es clock)=w.heap:=by{apply Array.ext_getElem?;intro i;by_cases e:b=i;{subst e;rw [MV bo,A]};{rw [LQ e]}});rw [this]});(have bi:(Instr.mapEntry t (.map (some b)) (E.ek x)).run prog w=.ok (.tuple #[e0.val,goInt e0.born]) w:=by{(have:(Instr.mapEntry t (.map (some b)) (E.ek x)).run prog w=.ok (.tuple #[e0.val,goInt e0.born]) (setBlock w b (.map es clock)):=by{simp [Instr.mapEntry,EF J,EN A,E.law.check w false B,af,aq,ao,E.law.stays w B,bj,FX _ A,Result.andThen,setBlock]});rw [this,bc]});(have bp:(m x).isSome=true:=by{(cases H:m x with|some y=>rfl|none=>{have ag:=T.none x am H;rcases Maps.fit_look false E.law J (au w) A F B with ⟨_,bv,_⟩|⟨av,y,_,_,_,_,bb,_⟩;{exact absurd ao (bv e0 (DX ad))};{rw [MJ bb] at ag;cases ag}})});refine ⟨e0.born,w,by rw [an];exact bi,by rw [an];exact bi,Fr.refl w,rfl,?_,λy ae=> ?_⟩;{rw [AL bp];(have av:(λz=>if z=x then some ((m x).getD z0) else m z)=m:=by{funext z;by_cases e:z=x;{subst e;obtain ⟨y,ae⟩:=EC.1 bp;simp [ae]};{simp [e]}});rw [av];exact ⟨_,⟨es,clock,A,F,cd,rfl⟩,ce,T⟩};{obtain ⟨ab,bh,be,ai⟩:=br y ae;(have bd:es.findIdx? (λe=>((e.born:Nat):Int)==((e0.born:Nat):Int))=some j:=by{rw [findIdx_arr];exact findIdx_born bt ad});(have bf:es.modify j (λe=>{e with val:=E.ev y})=es.modify j (λe'=>{e' with key:=E.ek x,val:=E.ev y}):=by{apply Array.ext';rw [KC,KC,modify_eq_set _ _ _ _ ad,modify_eq_set _ _ _ _ ad,<-ao]});(have al:ab=setBlock w b (.map (es.modify j (λe'=>{e' with key:=E.ek x,val:=E.ev y})) clock):=by{(have:(Instr.mapUpdate t (.map (some b)) (E.ek x) (E.ev y)).run prog w=.ok () (setBlock w b (.map (es.modify j (λe'=>{e' with key:=E.ek x,val:=E.ev y})) clock)):=by{simp [Instr.mapUpdate,EF J,EN A,E.law.check w false B,af,aq,ao,E.law.stays w B,FX _ A,Result.andThen,setBlock]});rw [bh] at this;injection this});(have ay:(Instr.entryStore t (.map (some b)) (goInt e0.born) (E.ev y)).run prog w=.ok () ab:=by{rw [al];simp [Instr.entryStore,EN A,asInt,asIntOf,goInt,bd,bf,FX _ A,Result.andThen,setBlock]});refine ⟨ab,ay,?_,ai,by rw [al];simp [setBlock]⟩;exact be}}
end
section
variable {P:Program} {ops:Array Oper} {Q:Exit->Act->World->Prop} {md:Region.Mode} {S:Bool->World->Prop} {T:Nat->Bool} {k:Nat}
theorem uD {listed:Array Bool} {k i} (h:k≠i):(listed.setIfInBounds i true).getD k true=listed.getD k true:=IW true (EP h)
abbrev sH (P:Program) (ops:Array Oper) (S:Bool->World->Prop) (o:Oper) (v:Value) (a:Act):Prop:=∀b,nO P ops (S b) o v a
theorem sH.of_same {o v a a'} (H:sH P ops S o v a) (A:execOp a'.eval o=execOp a.eval o) (B:Region.wanted o (yielded ops a'.tmps)=Region.wanted o (yielded ops a.tmps)):sH P ops S o v a':=λb=>(H b).of_same A B
theorem Z4 {j A B v} (aj:ops[j]? =some B) (ai:A.apart ops B=true) (al:∀cs b,A.op≠ .select cs b) (ah:∀cs b,B.op≠ .select cs b) (af:∀c a w,Q (.panic c) (a.put A.dst v) w->Q (.panic c) a w) {K a w} (H:sH P ops S A v a) (h:wpOp P ops Q j K (a.put A.dst v) w):
  wpOp P ops Q j (λa' w'=>sH P ops S A v a'/\K (a'.put A.dst v) w') a w:=by
 obtain ⟨ab,J,ae⟩:=Oper.apart_spec ai;have keep:∀(a:Act),sH P ops S A v a->∀u,sH P ops S A v (a.put B.dst u):=λa H u=>
  H.of_same (LU A al a B.dst u ae) (wanted_put A a B.dst u ae)
 have am:∀d,sH P ops S A v {a with defers:=d::a.defers}:=λd=>H.of_same rfl rfl;unfold wpOp at*;simp only [aj] at*;rw [wanted_put B a A.dst v ab] at h;split;{rename_i ad;simp only [ad,IJ] at h;rcases h with h|⟨ag,ak⟩;(case inr=>exact .inr ⟨by unfold Oper.asks at*;rw [LU B ah a A.dst v ab] at ag;exact ag,ak⟩);refine .inl ?_;unfold Oper.wp at*;rw [LU B ah a A.dst v ab] at h;generalize (execOp a.eval B).run P w=r at*;(cases r with|ok n w'=>{(cases n<;>simp only [Oper.upon] at h ⊢);(case value u=>exact ⟨keep a H u,by rw [<-FK a v u J];exact h⟩);(case skip=>exact ⟨keep a H _,by rw [<-FK a v undef J];exact h⟩);(case defer d=>refine ⟨keep _ (am d) _,?_⟩;rw [<-FK _ v undef J,<-Act.put_defers];exact h);(case enter f args=>refine Calls.mono h λe an aa=> ?_;(cases e with|returned u=>exact ⟨keep a H u,by rw [<-FK a v u J];exact aa⟩|panicked c=>exact af _ _ _ aa|outgrown=>exact aa));case row row args=>exact Rows.mono h λu an aa=>⟨keep a H u,by rw [<-FK a v u J];exact aa⟩}|halt x w'=>{(cases x<;>simp only [Oper.upon] at h ⊢);case panic u=>exact af _ _ _ h})};{rename_i ad;simp only [ad] at h;exact ⟨keep a H _,by rw [<-FK a v undef J];exact h⟩}
def vT (P:Program) (md:Region.Mode) (ops:Array Oper) (Q:Exit->Act->World->Prop) (S:Bool->World->Prop) (T:Nat->Bool) (k:Nat):Nat->Array Bool->Act->Prop
 | 0,listed,a=>Region.ready md ops listed= []/\∀w,S (listed.getD k true) w->Q .normal a w
 | fuel+1,listed,a=>
  (Region.ready md ops listed= []->∀w,S (listed.getD k true) w->Q .normal a w)/\
  ∀i∈Region.ready md ops listed,∀w,S (listed.getD k true) w->wpOp P ops Q i (λa' w'=>if T i=true then wpAny P md ops Q fuel (listed.setIfInBounds i true) a' w' else S ((listed.setIfInBounds i true).getD k true) w'/\vT P md ops Q S T k fuel (listed.setIfInBounds i true) a') a w
theorem Xy:∀(A:Nat) (listed:Array Bool) (a:Act) (w:World),S (listed.getD k true) w->vT P md ops Q S T k A listed a->wpAny P md ops Q A listed a w
 | 0,_,_,w,hS,h=>⟨h.1,h.2 w hS⟩
 | A+1,_,_,w,hS,h=>⟨λJ=>h.1 J w hS,λi H=>IP (λa' w' B=>by
   split at B
   ·exact B
   ·exact Xy A _ a' w' B.1 B.2) (h.2 i H w hS)⟩
theorem aFo {i J v} (ah:ops[i]? =some J) (ao:∀(j:Nat) (o:Oper) cs b,ops[j]? =some o->o.op≠ .select cs b) (ar:∀c a w,Q (.panic c) (a.put J.dst v) w->Q (.panic c) a w) (au:T i=false) (ai:k≠i):
  ∀(ab:Nat) (listed:Array Bool) (a:Act),
   (∀j aa,ops[j]? =some aa->j≠i->listed.getD j true=false->(∀e∈aa.after,Region.binds md e=true->e.on≠i)->J.apart ops aa=true)->
   i∈Region.ready md ops listed->Yields P ops J v a->
   vT P md ops Q S T k ab (listed.setIfInBounds i true) (a.put J.dst v)->vT P md ops Q S T k (ab+1) listed a:=by
 intro ab;induction ab with
 | zero=>
  intro listed a _ B ak ae;refine ⟨λh=>(by rw [h] at B;cases B),λj aj w ag=> ?_⟩;by_cases A:j=i;{subst A;exact ak.wpOp ah (by rw [AA (by simp [au])];exact ⟨by rw [uD ai];exact ag,ae⟩)};{have:=EY aj A;rw [ae.1] at this;cases this}
 | succ ab ih=>
  intro listed a av B ak ae;refine ⟨λh=>(by rw [h] at B;cases B),λj aj w ag=> ?_⟩;by_cases A:j=i;{subst A;exact ak.wpOp ah (by rw [AA (by simp [au])];exact ⟨by rw [uD ai];exact ag,ae⟩)}
  ·have H:=ae.2 j (EY aj A) w (by rw [uD ai];exact ag);obtain ⟨ay,aa,an,bd⟩:=FB.1 aj;have bk:∀e∈aa.after,Region.binds md e=true->e.on≠i:=λe bf be bg=>by
    have H:=bd e bf be;have ap:=(FB.1 B).1;rw [bg] at H;rcases BK i listed.size with al|al;{simp [al] at ap H;rw [ap] at H;cases H};{simp [CP al] at H}
   have bb:=wpOp_put an (av j aa an A ay bk) (λcs b=>ao i J cs b ah) (λcs b=>ao j aa cs b an) ar ak H;have aw:∀ad ok,ops[ad]? =some ok->ad≠i->(listed.setIfInBounds j true).getD ad true=false->
     (∀e∈ok.after,Region.binds md e=true->e.on≠i)->J.apart ops ok=true:=λad ok bh bi az bj=>by
     refine av ad ok bh bi ?_ bj;by_cases ax:j=ad;{subst ax;exact ay};{rw [IW true ax] at az;exact az}
   refine IP (λa' w' bc=> ?_) bb;obtain ⟨aq,af⟩:=bc;split at af;{rename_i am;rw [AL am];refine wpAny_first ah ao ar ab (listed.setIfInBounds j true) a' w' aw (EY B (EP A)) aq ?_;rw [DZ _ _ A];exact af};{rename_i am;rw [AA am];refine ⟨by have:=af.1;rw [DZ _ _ (EP A),uD ai] at this;exact this,ih (listed.setIfInBounds j true) a' aw (EY B (EP A)) aq ?_⟩;rw [DZ _ _ A];exact af.2}
theorem aAN {i aa v} (au:ops[i]? =some aa) (bd:∀(j:Nat) (o:Oper) cs b,ops[j]? =some o->o.op≠ .select cs b) (bh:∀c a w,Q (.panic c) (a.put aa.dst v) w->Q (.panic c) a w) (av:T i=false) (ak:k≠i) (f) (bi:∀t,T t=true->reach md ops f t i=true):
  ∀(ag:Nat) (listed:Array Bool) (a:Act),Closed md ops listed->
   (∀j ab,ops[j]? =some ab->j≠i->listed.getD j true=false->(∀e∈ab.after,Region.binds md e=true->e.on≠i)->aa.apart ops ab=true)->
   i∈Region.ready md ops listed->sH P ops S aa v a->
   vT P md ops Q S T k ag (listed.setIfInBounds i true) (a.put aa.dst v)->vT P md ops Q S T k (ag+1) listed a:=by
 intro ag;induction ag with
 | zero=>
  intro listed a _ _ B am af;refine ⟨λh=>(by rw [h] at B;cases B),λj ai w aj=> ?_⟩;by_cases A:j=i;{subst A;exact (am _).wpOp au aj (λw' ao=>by rw [AA (by simp [av])];exact ⟨by rw [uD ak];exact ao,af⟩)};{have:=EY ai A;rw [af.1] at this;cases this}
 | succ ag ih=>
  intro listed a ax ay B am af;refine ⟨λh=>(by rw [h] at B;cases B),λj ai w aj=> ?_⟩;by_cases A:j=i;{subst A;exact (am _).wpOp au aj (λw' ao=>by rw [AA (by simp [av])];exact ⟨by rw [uD ak];exact ao,af⟩)}
  ·have J:=af.2 j (EY ai A) w (by rw [uD ak];exact aj);obtain ⟨bb,ab,al,aw⟩:=FB.1 ai;have ap:¬T j=true:=λap=>by
    have ad:=Bi ax f j i (λo bc e ar aq=>by rw [al] at bc;cases bc;exact aw e ar aq) (bi j ap);have ah:=(FB.1 B).1;rcases BK i listed.size with H|H;{simp [H] at ah ad;rw [ah] at ad;cases ad};{simp [CP H] at ad}
   have bo:∀e∈ab.after,Region.binds md e=true->e.on≠i:=λe ar aq bj=>by
    have J:=aw e ar aq;have ah:=(FB.1 B).1;rw [bj] at J;rcases BK i listed.size with H|H;{simp [H] at ah J;rw [ah] at J;cases J};{simp [CP H] at J}
   have bf:=Z4 al (ay j ab al A bb bo) (λcs b=>bd i aa cs b au) (λcs b=>bd j ab cs b al) bh am J;have bk:∀ae ok,ops[ae]? =some ok->ae≠i->(listed.setIfInBounds j true).getD ae true=false->
     (∀e∈ok.after,Region.binds md e=true->e.on≠i)->aa.apart ops ok=true:=λae ok bl bm be bn=>by
     refine ay ae ok bl bm ?_ bn;by_cases az:j=ae;{subst az;exact bb};{rw [IW true az] at be;exact be}
   refine IP (λa' w' ad=> ?_) bf;obtain ⟨bg,an⟩:=ad;rw [AA ap] at an ⊢;refine ⟨by have:=an.1;rw [DZ _ _ (EP A),uD ak] at this;exact this,ih (listed.setIfInBounds j true) a' (ax.set ai) bk (EY B (EP A)) bg ?_⟩;rw [DZ _ _ A];exact an.2
def xP (P:Program) (ops:Array Oper) (Q:Exit->Act->World->Prop) (S:Bool->World->Prop) (T:Nat->Bool) (k:Nat):List Nat->Bool->Act->Prop
 | [],b,a=>∀w,S b w->Q .normal a w
 | i::r,b,a=>∀w,S b w->wpOp P ops Q i (λa' w'=>if T i=true then wpList P ops Q (r.filterMap λi=>ops[i]?) a' w' else S (b||i==k) w'/\xP P ops Q S T k r (b||i==k) a') a w
theorem Ti {listed:Array Bool} {k i} (h:listed.getD i true=false):(listed.setIfInBounds i true).getD k true=(listed.getD k true||i==k):=by
 by_cases e:k=i;{subst e;rcases BK k listed.size with A|A;{simp [A]};{simp [CP A]}};{rw [uD e];(have:(i==k)=false:=by simpa using EP e);rw [this,Bool.or_false]}
theorem Xj:∀(L:List Nat) (A:Nat) (listed:Array Bool) (a:Act),L.length=A->o6 md ops listed L=true->xP P ops Q S T k L (listed.getD k true) a->vT P md ops Q S T k A listed a
 | [],A,listed,a,hl,hok,h=>by
  subst hl;exact ⟨by simpa [o6] using hok,h⟩
 | i::r,A,listed,a,hl,hok,h=>by
  obtain ⟨f,rfl⟩:∃f,A=f+1:=⟨r.length,by simp at hl;omega⟩
  unfold o6 at hok;rw [BO] at hok;have ab:=JL hok.1;refine ⟨λaa=>(by rw [ab] at aa;cases aa),λj J w ae=> ?_⟩;have ad:=(FB.1 J).1;rw [ab,BB] at J;subst J;refine IP (λa' w' B=> ?_) (h w ae);split at B
  ·rename_i H
   rw [AL H];exact Dv r f _ a' w' (by simp at hl;omega) hok.2 B
  ·rename_i H
   rw [AA H,Ti ad];exact ⟨B.1,Xj r f _ a' (by simp at hl;omega) hok.2 (by rw [Ti ad];exact B.2)⟩
def oV (P:Program) (md:Region.Mode) (ops:Array Oper) (Q:Exit->Act->World->Prop) (S:Bool->World->Prop) (k:Nat) (L2 T:List Nat):Nat->List Oper->Act->Prop
 | _, [],a=>xP P ops Q S (λi=>T.contains i) k L2 false a
 | j,o::rest,a=>if L2.contains j=true then oV P md ops Q S k L2 T (j+1) rest a else ∃v,(Yields P ops o v a\/(rch md ops T j=true/\sH P ops S o v a))/\oV P md ops Q S k L2 T (j+1) rest (a.put o.dst v)
def La (P:Program) (md:Region.Mode) (ops:Array Oper) (Q:Exit->Act->World->Prop) (S:Bool->World->Prop) (k:Nat) (L2 T:List Nat):List Nat->Act->Prop
 | [],a=>xP P ops Q S (λi=>T.contains i) k L2 false a
 | i::r,a=>∃o v,ops[i]? =some o/\(Yields P ops o v a\/(rch md ops T i=true/\sH P ops S o v a))/\La P md ops Q S k L2 T r (a.put o.dst v)
theorem Jh {L2 T:List Nat}:∀(r j:Nat) (a:Act),j+r=ops.size->oV P md ops Q S k L2 T j (ops.toList.drop j) a->La P md ops Q S k L2 T ((List.range' j r).filter λi=> !L2.contains i) a
 | 0,j,a,hj,h=>by
  obtain rfl:j=ops.size:=by omega
  rw [EO D] at h;exact h
 | r+1,j,a,hj,h=>by
  have B:j<ops.toList.length:=by simp;omega
  have H:ops[j]? =some (ops.toList[j]):=by rw [<-CV];exact AC B
  rw [DN B] at h;unfold oV at h;rw [List.range'_succ,GM];split at h
  ·rename_i A
   rw [AA (by simp only [A];decide)];exact Jh r (j+1) a X h
  ·rename_i A
   rw [AL (U A)];obtain ⟨v,J,h⟩:=h;exact ⟨_,v,H,J,Jh r (j+1) _ X h⟩
theorem Zq (aq:Region.noSelect ops=true) (am:∀c (a:Act) d v w,Q (.panic c) (a.put d v) w->Q (.panic c) a w) (L2 T) (ao:L2.contains k=true) (av:∀t∈T,t∈L2):
  ∀(B:List Nat) (A:Nat) (listed:Array Bool) (a:Act),B.length+L2.length=A->Closed md ops listed->listed.getD k true=false->mX md ops L2 listed B=true->La P md ops Q S k L2 T B a->vT P md ops Q S (λi=>T.contains i) k A listed a:=by
 intro B;(induction B with|nil=>intro A listed a ab ad ae H h;exact Xj L2 A listed a (U ab) H (by rw [ae];exact h)|cons i r ih=>{intro A listed a ab ad ae H h;obtain ⟨f,rfl⟩:∃f,A=f+1:=⟨r.length+L2.length,by simp at ab;omega⟩;unfold mX at H;simp only [BO,ML] at H;obtain ⟨⟨⟨ar,aj⟩,ak⟩,au⟩:=H;(have ag:i∈Region.ready md ops listed:=by simpa using ar);(have af:k≠i:=by{intro e;rw [e,ak] at ao;cases ao});(have an:T.contains i=false:=by{(cases ai:T.contains i with|false=>rfl|true=>have:=av i (U ai);have al:L2.contains i=true:=(U this);rw [ak] at al;cases al)});obtain ⟨o,v,aa,J,h⟩:=h;have ap:=ih f (listed.setIfInBounds i true) (a.put o.dst v) (by simp at ab;omega) (ad.set ag) (by rw [uD af];exact ae) au h;rcases J with J|⟨ah,J⟩;{exact aFo aa (IA aq) (λc a w h=>am c a _ _ w h) an af f listed a (JJ aa aj) ag J ap};{refine aAN aa (IA aq) (λc a w h=>am c a _ _ w h) an af ops.size (λt ai=> ?_) f listed a ad (JJ aa aj) ag J ap;unfold rch at ah;rw [FD] at ah;exact ah t (U ai)}})
theorem Yu {id a w} (ae:P.follows .mixedOrders=true) (S k L2 T) (af:Region.noSelect ops=true) (A:(decide (k<ops.size)&&L2.contains k&&T.all λt=>L2.contains t)=true) (ad:(((List.range' 0 ops.size).filter λi=> !L2.contains i).length+L2.length==ops.size)=true) (ab:mX .any ops L2 (Array.replicate ops.size false) ((List.range' 0 ops.size).filter λi=> !L2.contains i)=true) (J:∀c (a:Act) d v w,Q (.panic c) (a.put d v) w->Q (.panic c) a w) (aa:S false w.drew) (h:oV P .any ops Q S k L2 T 0 ops.toList a):(Code.region id ops true).wp P Q a w:=by
 simp only [BO,BV,FD] at A;have H:(Array.replicate ops.size false).getD k true=false:=by
  rw [EJ,IQ,AL A.1.1];rfl
 refine wp_region_any ae ?_;refine Xy (k:=k) (S:=S) (T:=λi=>T.contains i) _ _ _ _ (by rw [H];exact aa) (Zq af J L2 T A.1.2 (λt ag=>by simpa using A.2 t ag) _ ops.size _ a (JL ad) (λj o ah B=> ?_) H ab (Jh ops.size 0 a X (U h)));rw [EJ,IQ] at B;split at B<;>cases B
variable {L2 T:List Nat} {j:Nat} {o:Oper} {rest:List Oper} {a:Act} {v:Value}
theorem Ul (A:L2.contains j=true) (h:oV P md ops Q S k L2 T (j+1) rest a):oV P md ops Q S k L2 T j (o::rest) a:=by
 unfold oV;rw [AL A];exact h
theorem Vl (A:L2.contains j=false) (B:Region.wanted o (yielded ops a.tmps)=true) (h:∀w,(execOp a.eval o).run P w=.ok (.value v) w) (r:oV P md ops Q S k L2 T (j+1) rest (a.put o.dst v)):oV P md ops Q S k L2 T j (o::rest) a:=by
 unfold oV;rw [AA (by simp only [A];decide)];exact ⟨v,.inl (.inl ⟨B,h⟩),r⟩
theorem F5 (H:L2.contains j=false) (B:rch md ops T j=true) (J:Region.wanted o (yielded ops a.tmps)=true) (h:∀b w,S b w->(execOp a.eval o).run P w=.ok (.value v) w) (r:oV P md ops Q S k L2 T (j+1) rest (a.put o.dst v)):oV P md ops Q S k L2 T j (o::rest) a:=by
 unfold oV;rw [AA (by simp only [H];decide)];exact ⟨v,.inr ⟨B,λb=> .inl ⟨J,λw A=> .inl ⟨w,h b w A,A⟩⟩⟩,r⟩
theorem Nh {i r b A} (ab:ops[i]? =some o) (aa:A i=false) (ae:Region.wanted o (yielded ops a.tmps)=true) (h:∀w,S b w->∃w',(execOp a.eval o).run P w=.ok (.value v) w'/\S (b||i==k) w') (ad:xP P ops Q S A k r (b||i==k) (a.put o.dst v)):xP P ops Q S A k (i::r) b a:=by
 intro w J;obtain ⟨w',B,H⟩:=h w J;unfold Go.wpOp;simp only [ab,ae,IJ];refine .inl ?_;simp only [Oper.wp,B,Oper.upon];rw [AA (by simp [aa])];exact ⟨H,ad⟩
theorem Vr {i r b H} (J:ops[i]? =some o) (ab:H i=true) (h:∀w,S b w->wpList P ops Q ((i::r).filterMap λi=>ops[i]?) a w):xP P ops Q S H k (i::r) b a:=by
 intro w aa;have A:=h w aa;rw [EE,J] at A;simp only [wpList] at A;unfold wpOp;rw [J];simp only [ab,IJ];split at A;{rename_i B;rw [AL B];exact A};{rename_i B;rw [AA B];exact A}
end
open Go.Sort Go.Shelf
def numsOf (p:Nat->Bool):List Nat:=(List.range 129).filter p
section
variable {P:Program} {ops:Array Oper} {Q:Exit->Act->World->Prop} {md:Region.Mode} {G:World->World->Prop}
structure Pre (G:World->World->Prop):Prop where
 refl:∀w,G w w
 trans:∀ {a b c},G a b->G b c->G a c
def nY (ops:Array Oper) (i:Nat):Option Nat:=(ops[i]?).bind (·.dst)
def waits (md:Region.Mode) (ops:Array Oper) (i d:Nat):Bool:=match ops[i]? with
 | none=>false
 | some o=>o.after.any λe=>Region.binds md e&&nY ops e.on==some d
def Ui (ops:Array Oper) (m d:Nat):Bool:=(List.range m).all λi=> !(nY ops i==some d)
structure Hf (md:Region.Mode) (ops:Array Oper) (m:Nat):Prop where
 le:m<ops.size
 back:((List.range m).all λi=>match ops[i]? with|none=>false|some o=>o.after.all λe=> !Region.binds md e||decide (e.on<i))=true
 dist:((List.range m).all λi=>(List.range i).all λj=>nY ops i==none|| !(nY ops i==nY ops j))=true
 all:qR md ops (List.range' m (ops.size - m))=true
 last:o6 md ops ((List.replicate m true++List.replicate (ops.size - m) false).toArray) (List.range' m (ops.size - m))=true
structure sQ (G:World->World->Prop) (md:Region.Mode) (ops:Array Oper) (m:Nat) (R:Nat->Value->World->Prop) (w0:World) (a0:Act) (listed:Array Bool) (a:Act) (w:World):Prop where
 fr:G w0 w
 size:listed.size=ops.size
 tail:∀t,m<=t->t<ops.size->listed.getD t true=false
 closed:Closed md ops listed
 tsz:a.tmps.size=a0.tmps.size
 dfr:a.defers=a0.defers
 keep:∀d,(∀i,i<m->nY ops i≠some d)->a.tmps[d]? =a0.tmps[d]?
 val:∀i d,i<m->listed.getD i true=true->nY ops i=some d->R d (a.tmps.getD d undef) w
def Em (G:World->World->Prop) (P:Program) (md:Region.Mode) (ops:Array Oper) (m:Nat) (R:Nat->Value->World->Prop) (w0:World) (a0:Act) (i:Nat) (o:Oper):Prop:=
 ∀(a:Act) (w:World),G w0 w->(∀d,Ui ops m d=true->a.tmps[d]? =a0.tmps[d]?)->(∀d,waits md ops i d=true->R d (a.tmps.getD d undef) w)->
  (Region.wanted o (yielded ops a.tmps)=true/\((∃v w',(execOp a.eval o).run P w=.ok (.value v) w'/\G w w'/\∀d,o.dst=some d->R d v w')\/
    ∃f args w1,(execOp a.eval o).run P w=.ok (.enter f args) w1/\Calls P f args w1 (λe w'=>∃v,e=.returned v/\G w w'/\∀d,o.dst=some d->R d v w')))\/
  (Region.wanted o (yielded ops a.tmps)=false/\∀d,o.dst=some d->R d undef w)
theorem Jd (a:Act) (e v d) (h:e≠some d):(a.put e v).tmps[d]? =a.tmps[d]? :=by
 unfold Act.put;(cases e with|none=>rfl|some k=>{have:k≠d:=λe=>h (by rw [e]);simp [Array.getElem?_setIfInBounds,this]})
theorem aBk (a:Act) (v d) (h:d<a.tmps.size):(a.put (some d) v).tmps.getD d undef=v:=by
 simp [Act.put,h]
theorem mV {a b:Act} {d} (h:a.tmps[d]? =b.tmps[d]?):a.tmps.getD d undef=b.tmps.getD d undef:=by
 rw [EJ,EJ,h]
theorem sQ.put {m R w0 a0 listed a w w' i o v} (A:sQ G md ops m R w0 a0 listed a w) (ok:Hf md ops m) (al:Pre G) (am:∀d v w w',R d v w->G w w'->R d v w') (hd:∀i d,i<m->nY ops i=some d->d<a0.tmps.size) (ar:i∈Region.ready md ops listed) (J:i<m) (ao:ops[i]? =some o) (f:G w w') (aw:∀d,o.dst=some d->R d v w'):
  sQ G md ops m R w0 a0 (listed.setIfInBounds i true) (a.put o.dst v) w':=by
 (have H:nY ops i=o.dst:=by unfold nY;rw [ao];rfl);refine ⟨al.trans A.fr f,by simpa using A.size,λt au av=> ?_,A.closed.set ar,?_,?_,λd ah=> ?_,λj d ag ai B=> ?_⟩;{rw [IW true X];exact A.tail t au av};{rw [<-A.tsz];unfold Act.put;split<;>simp};{rw [<-A.dfr];unfold Act.put;split<;>rfl};{rw [Jd _ _ _ _ (by rw [<-H];exact ah i J)];exact A.keep d ah}
 ·by_cases aa:j=i;{subst aa;rw [H] at B;rw [B,aBk _ _ _ (by rw [A.tsz];exact hd j d J (by rw [H];exact B))];exact aw d B}
  ·rw [IW true (EP aa)] at ai;have an:o.dst≠some d:=λab=>by
    have ad:=ok.dist;rw [FD] at ad;have key:∀p q,p<m->q<p->nY ops p=some d->nY ops q=some d->False:=λp q ap aq aj ak=>by
     have ae:=ad p (CJ.2 ap);rw [FD] at ae;have af:=ae q (CJ.2 aq);rw [aj,ak] at af;simp at af
    rcases MM j i with h|h|h;{exact key i j J h (by rw [H];exact ab) B};{exact aa h};{exact key j i ag h B (by rw [H];exact ab)}
   rw [mV (Jd _ _ _ _ an)];exact am _ _ _ _ (A.val j d ag ai B) f
theorem xQ {listed:Array Bool} {k} (A:k<listed.size):listed.getD k true=listed.getD k false:=by
 simp [A]
theorem sQ.step {m R w0 a0 listed a w i o} (B:sQ G md ops m R w0 a0 listed a w) (ok:Hf md ops m) (aa:Pre G) (ag:∀d v w w',R d v w->G w w'->R d v w') (hd:∀i d,i<m->nY ops i=some d->d<a0.tmps.size) (ab:i∈Region.ready md ops listed) (ae:i<m) (J:ops[i]? =some o) (au:Em G P md ops m R w0 a0 i o) {K} (h:∀a' w',sQ G md ops m R w0 a0 (listed.setIfInBounds i true) a' w'->K a' w'):wpOp P ops Q i K a w:=by
 obtain ⟨av,aw,ak,am⟩:=FB.1 ab;rw [J] at ak;cases ak;have al:=au a w B.fr (λd ad=>B.keep d (λj ar e=>by
  unfold Ui at ad;rw [FD] at ad;have:=ad j (CJ.2 ar);rw [e] at this;simp at this)) (λd A=>by
  unfold waits at A;rw [J] at A;dsimp only at A;rw [Array.any_eq_true'] at A;obtain ⟨e,ap,H⟩:=A;rw [BO] at H;have af:=am e ap H.1;(have ah:e.on<listed.size:=by{rcases BK e.on listed.size with h|h;{exact h};{simp [CP h] at af}});have aq:e.on<m:=by{rcases BK e.on m with h|h;{exact h};{have:=B.tail e.on h (by rw [<-B.size];exact ah);rw [xQ ah,af] at this;cases this}}
  exact B.val e.on d aq (by rw [xQ ah];exact af) (JL H.2))
 unfold wpOp;rw [J];dsimp only;rcases al with ⟨A,H⟩|⟨A,H⟩;{rw [AL A];refine .inl ?_;rcases H with ⟨v,w',aj,f,ai⟩|⟨g,args,ax,aj,an⟩;{unfold Oper.wp;rw [aj];exact h _ _ (B.put ok aa ag hd ab ae J f ai)};{unfold Oper.wp;rw [aj];refine an.mono (λe w' ao=> ?_);obtain ⟨v,rfl,f,ai⟩:=ao;exact h _ _ (B.put ok aa ag hd ab ae J f ai)}};{rw [AA (by rw [A];decide)];exact h _ _ (B.put ok aa ag hd ab ae J (aa.refl w) H)}
def left (ops:Array Oper) (listed:Array Bool):Nat:=(List.range ops.size).countP λi=> !listed.getD i true
theorem Uc {listed i} (ag:listed.size=ops.size) (J:i<ops.size) (ab:listed.getD i true=false):left ops listed=left ops (listed.setIfInBounds i true)+1:=by
 (have key:∀(l:List Nat),l.Nodup->(i∈l->l.countP (λk=> !listed.getD k true)=l.countP (λk=> !(listed.setIfInBounds i true).getD k true)+1)/\(i ∉ l->l.countP (λk=> !listed.getD k true)=l.countP (λk=> !(listed.setIfInBounds i true).getD k true)):=by{intro l;(induction l with|nil=>intro _;exact ⟨λh=>(by cases h),λ_=>rfl⟩|cons k r ih=>intro ae;obtain ⟨ad,af⟩:=JV.1 ae;obtain ⟨ai,aa⟩:=ih af;have ah:(listed.setIfInBounds i true).getD i true=true:=(by simp [ag,J]);constructor;{intro A;by_cases e:k=i;{subst e;rw [List.countP_cons_of_pos (by rw [ab];rfl),NM (by rw [ah];decide),aa ad]};{(have H:i∈r:=by{rcases CB.1 A with h|h;{exact absurd h.symm e};{exact h}});have B:=IW (listed:=listed) true (EP e);rw [KD,KD,B,ai H];omega}};{intro A;have e:i≠k:=λe=>A (by rw [e];exact BL);have H:i ∉ r:=λh=>A (BJ _ h);have B:=IW (listed:=listed) true e;rw [KD,KD,B,aa H]})});exact (key (List.range ops.size) List.nodup_range).1 (CJ.2 J)
theorem Q7 {m listed} (B:∀i,i<m->listed.getD i true=true) (H:∀t,m<=t->t<ops.size->listed.getD t true=false) (aa:m<ops.size):left ops listed=ops.size - m:=by
 have e:List.range ops.size=List.range m++List.range' m (ops.size - m):=by
  have h:List.range' 0 m++List.range' (0+m) (ops.size - m)=List.range' 0 (m+(ops.size - m)):=by rw [List.range'_append_1]
  rw [BP] at h;rw [List.range_eq_range',List.range_eq_range',h];congr 1;omega
 unfold left;rw [e,MB,List.countP_eq_zero.2 (λi J=>by rw [B i (CJ.1 J)];decide),List.countP_eq_length.2 (λt A=>by rw [List.mem_range'_1] at A;rw [H t A.1 X];rfl),List.length_range'];omega
theorem aGJ {m R w0 a0} (ok:Hf md ops m) (au:Pre G) (bb:∀d v w w',R d v w->G w w'->R d v w') (hd:∀i d,i<m->nY ops i=some d->d<a0.tmps.size) (aq:∀i o,i<m->ops[i]? =some o->Em G P md ops m R w0 a0 i o) (ay:∀listed a w,sQ G md ops m R w0 a0 listed a w->(∀i,i<m->listed.getD i true=true)->wpList P ops Q (ops.toList.drop m) a w):
  ∀n listed a w,sQ G md ops m R w0 a0 listed a w->left ops listed=n->wpAny P md ops Q n listed a w:=by
 have az:∀listed a w,sQ G md ops m R w0 a0 listed a w->(∀i,i<m->listed.getD i true=true)->wpAny P md ops Q (ops.size - m) listed a w:=λlisted a w A H=>by
  have ab:=ok.le;(have e:listed=(List.replicate m true++List.replicate (ops.size - m) false).toArray:=by{apply Array.ext;{simp [A.size];omega};{intro k B J;rcases BK k m with h|h;{have:=H k h;rw [EJ,FT B,Option.getD_some] at this;rw [this];simp [List.getElem_append_left,h]};{have:=A.tail k h (by rw [<-A.size];exact B);rw [EJ,FT B,Option.getD_some] at this;rw [this];simp [List.getElem_append_right,h]}}});refine Dv (List.range' m (ops.size - m)) _ listed a w (by rw [List.length_range']) (by rw [e];exact ok.last) ?_;(have ar:(List.range' m (ops.size - m)).filterMap (λi=>ops[i]?)=ops.toList.drop m:=by{apply List.ext_getElem?;intro k;(have:∀(n s:Nat),s+n<=ops.size->((List.range' s n).filterMap (λi=>ops[i]?))[k]? =if k<n then ops[s+k]? else none:=by{intro n;(induction n generalizing k with|zero=>intro s _;simp|succ n ih=>intro s aq;rw [List.range'_succ,EE,FT X];(cases k with|zero=>simp|succ k=>rw [EH,ih k (s+1) X];have:s+1+k=s+(k+1):=X;rw [this];simp))});rw [this _ m X,HY,CV];split;{rfl};{rw [CP X]}});rw [ar];exact ay listed a w A H
 have ap:∀listed a w,sQ G md ops m R w0 a0 listed a w->¬(∀i,i<m->listed.getD i true=true)->(∀i∈Region.ready md ops listed,i<m)/\Region.ready md ops listed≠ []:=λlisted a w A am=>by
  have ab:=ok.le;refine ⟨λi aa=> ?_,λbc=> ?_⟩;{rcases BK i m with h|h;{exact h};{exfalso;obtain ⟨bd,o,an,H⟩:=FB.1 aa;have be:=(KW.1 an).1;have ae:=ok.all;unfold qR at ae;rw [FD] at ae;have B:=ae i (by rw [List.mem_range'_1];omega);rw [BO] at B;refine am (λk aj=> ?_);have J:=Bi A.closed (i - k) i k (λbf ao e af ad=>by rw [an] at ao;cases ao;exact H e af ad) (Zg B.2 _ k rfl X);rw [xQ (by rw [A.size];omega)];exact J}}
  ·refine am (λk=> ?_);induction k using Nat.strongRecOn with
   | ind k ih=>
    intro aj;cases ax:listed.getD k true with
    | true=>rfl
    | false=>
     exfalso;have ad:=ok.back;rw [FD] at ad;have B:=ad k (CJ.2 aj);have ak:ops[k]? =some (ops[k]' X):=FT X;rw [ak] at B;dsimp only at B;rw [Array.all_eq_true_iff_forall_mem] at B;have:k∈Region.ready md ops listed:=FB.2 ⟨ax,_,ak,λe af aw=>by
      have J:=B e af;rw [aw] at J;have ag:e.on<k:=(U J)
      have:=ih e.on ag X;rwa [xQ (by rw [A.size];omega)] at this⟩
     rw [bc] at this;cases this
 intro n;(induction n with|zero=>intro listed a w A al;have ab:=ok.le;by_cases H:∀i,i<m->listed.getD i true=true;{have:=Q7 (ops:=ops) H A.tail ab;omega};{exfalso;obtain ⟨B,J⟩:=ap listed a w A H;obtain ⟨i,aa⟩:=List.exists_mem_of_ne_nil _ J;have ag:=B i aa;have:=Uc (ops:=ops) A.size X (FB.1 aa).1;omega}|succ n ih=>intro listed a w A al;have ab:=ok.le;by_cases H:∀i,i<m->listed.getD i true=true;{have:=Q7 (ops:=ops) H A.tail ab;rw [<-al,this];exact az listed a w A H};{obtain ⟨B,J⟩:=ap listed a w A H;refine ⟨λh=>absurd h J,λi aa=> ?_⟩;have ah:=B i aa;have ai:ops[i]? =some (ops[i]' X):=FT X;refine A.step ok au bb hd aa ah ai (aq i _ ah ai) (λa' w' av=>ih _ a' w' av ?_);have:=Uc (ops:=ops) A.size X (FB.1 aa).1;omega})
def x9 (G:World->World->Prop) (P:Program) (ops:Array Oper) (m:Nat) (R:Nat->Value->World->Prop) (w0:World) (a0:Act):Nat->List Oper->Prop
 | _, []=>True
 | i,o::r=>Em G P .any ops m R w0 a0 i o/\x9 G P ops m R w0 a0 (i+1) r
theorem Wh {m:Nat} {R:Nat->Value->World->Prop} {w0:World} {a0:Act}:∀(L:List Oper) (i:Nat),x9 G P ops m R w0 a0 i L->∀(k:Nat) o,L[k]? =some o->Em G P .any ops m R w0 a0 (i+k) o
 | [],_,_,k,o,h=>by simp at h
 | x::r,i,hs,k,o,h=>by
  cases k with
  | zero=>simp at h;subst h;exact hs.1
  | succ k=>
   have:=Wh r (i+1) hs.2 k o (U h);have e:i+1+k=i+(k+1):=X
   rwa [e] at this
def uZ (P:Program) (ops:Array Oper) (Q:Exit->Act->World->Prop) (R:Nat->Value->World->Prop) (tail:List Oper):List Oper->(World->Prop)->Act->Prop
 | [],C,a=>∀w,C w->wpList P ops Q tail a w
 | o::r,C,a=>match o.dst with
  | some d=>∀v,uZ P ops Q R tail r (λw=>C w/\R d v w) (a.put (some d) v)
  | none=>uZ P ops Q R tail r C a
def yL:List Oper->Act->Act->Act
 | [],_,b=>b
 | o::r,a,b=>match o.dst with
  | some d=>yL r a (b.put (some d) (a.tmps.getD d undef))
  | none=>yL r a b
theorem Ou {R:Nat->Value->World->Prop} {B:List Oper} {a:Act} {w:World}:∀(L:List Oper) (C:World->Prop) (b:Act),uZ P ops Q R B L C b->C w->(∀o∈L,∀d,o.dst=some d->R d (a.tmps.getD d undef) w)->wpList P ops Q B (yL L a b) w
 | [],C,b,h,hc,_=>h w hc
 | o::r,C,b,h,hc,hr=>by
  unfold uZ at h;unfold yL;cases hd:o.dst with
  | none=>
   rw [hd] at h;exact Ou r C b h hc (λx A=>hr x (BJ _ A))
  | some d=>
   rw [hd] at h;exact Ou r _ _ (h (a.tmps.getD d undef)) ⟨hc,hr o BL d hd⟩ (λx A=>hr x (BJ _ A))
theorem Iu {a:Act}:∀(L:List Oper) (b:Act),b.tmps.size=a.tmps.size->b.defers=a.defers->(∀d,(∃o∈L,o.dst=some d)\/b.tmps[d]? =a.tmps[d]?)->yL L a b=a
 | [],b,hs,hd,h=>by
  show b=a;obtain ⟨ad,ah⟩:=b;obtain ⟨ab,ag⟩:=a;dsimp only at hs hd h;subst hd;have:ad=ab:=by
   apply Array.ext_getElem?;intro i;rcases h i with ⟨o,ae,_⟩|h
   ·cases ae
   ·exact h
  rw [this]
 | o::r,b,hs,hdf,h=>by
  unfold yL;cases hd:o.dst with
  | none=>
   refine Iu r b hs hdf (λd=> ?_);rcases h d with ⟨x,B,A⟩|h
   ·rcases CB.1 B with rfl|B
    ·rw [hd] at A;cases A
    ·exact .inl ⟨x,B,A⟩
   ·exact .inr h
  | some e=>
   refine Iu r _ (by simp [Act.put,hs]) hdf (λd=> ?_);by_cases aa:d=e
   ·subst aa;refine .inr ?_;rcases BK d b.tmps.size with H|H
    ·have J:d<a.tmps.size:=(by rw [<-hs];exact H)
     simp [Act.put,H,J]
    ·have J:a.tmps.size<=d:=by rw [<-hs];exact H
     simp only [Act.put];rw [CP (U H),CP J]
   ·have af:=Jd b (some e) (a.tmps.getD e undef) d (λh=>aa (FZ h).symm);rcases h d with ⟨x,B,A⟩|h
    ·rcases CB.1 B with rfl|B
     ·rw [hd] at A;cases A;exact absurd rfl aa
     ·exact .inl ⟨x,B,A⟩
    ·exact .inr (by rw [af];exact h)
theorem Gi {id a w m} (ak:P.follows .mixedOrders=true) (ok:Hf .any ops m) (ah:Pre G) (an:G w w.drew) (R) (ai:∀d v w w',R d v w->G w w'->R d v w') (hd:((List.range m).all λi=>match nY ops i with|none=>true|some d=>decide (d<a.tmps.size))=true) (am:x9 G P ops m R w a 0 (ops.toList.take m)) (h:uZ P ops Q R (ops.toList.drop m) (ops.toList.take m) (λW=>G w W) a):(Code.region id ops true).wp P Q a w:=by
 refine wp_region_any ak ?_;have aq:=ok.le;have J:∀k,(Array.replicate ops.size false).getD k false=false:=λk=>by
  rw [EJ,IQ];split<;>rfl
 refine aGJ (R:=R) (w0:=w) (a0:=a) ok ah ai (λi d A e=> ?_) (λi o A ab=> ?_) (λlisted a' w' B aj=> ?_) ops.size _ a _ ⟨an,by simp,λt ao ag=>by rw [xQ (U ag)];exact J t,λj o ap H=>(by rw [J] at H;cases H),rfl,rfl,λ_ _=>rfl,λi d A H=> ?_⟩ ?_;{rw [FD] at hd;have:=hd i (CJ.2 A);rw [e] at this;simpa using this};{have:=Wh (ops.toList.take m) 0 am i o (by rw [IU A,CV];exact ab);rwa [BP] at this}
 ·have al:yL (ops.toList.take m) a' a=a':=by{refine Iu _ _ B.tsz.symm B.dfr.symm (λd=> ?_);by_cases af:∃o∈ops.toList.take m,o.dst=some d;{exact .inl af};{refine .inr (B.keep d (λi A e=>af ?_)).symm;have ad:ops[i]? =some (ops[i]' X):=FT X;refine ⟨ops[i]' X,GZ.2 ⟨i,by rw [IU A,CV];exact ad⟩,?_⟩;unfold nY at e;rw [ad] at e;exact e}}
  have:=Ou (a:=a') (w:=w') _ _ _ h B.fr (λo ab d hd=>by
   obtain ⟨i,A⟩:=GZ.1 ab;have aa:i<m:=by{have:=(AY.1 A).1;rw [BZ] at this;omega}
   rw [IU aa,CV] at A;exact B.val i d aa (aj i aa) (by unfold nY;rw [A];exact hd))
  rwa [al] at this
 {rw [xQ (by simp;omega),J] at H;cases H};{unfold left;rw [List.countP_eq_length.2 (λk ae=>by rw [CJ] at ae;rw [xQ (U ae),J];rfl),JA]}
end
section
variable {P:Program} {ops:Array Oper} {Q:Exit->Act->World->Prop} {md:Region.Mode} {S:World->Prop}
def pY (P:Program) (ops:Array Oper) (Q:Exit->Act->World->Prop) (S:World->Prop) (k:Nat):Nat->List Oper->Act->Prop
 | _, [],_=>False
 | j,o::rest,a=>if j=k then ∀w,S w->wpOp P ops Q k (λa' w'=>pR P ops Q (λW=>W=w') rest a') a w else ∃v,nO P ops S o v a/\pY P ops Q S k (j+1) rest (a.put o.dst v)
theorem aBq {k} (aj:Region.noSelect ops=true) (ag:yX md ops=true) (ai:(Region.ready md ops (pre ops.size k)== [k])=true) (B:qR md ops [k]=true) (ae:∀c (a:Act) d v w,Q (.panic c) (a.put d v) w->Q (.panic c) a w):
  ∀(r j:Nat) (a:Act),j+r=k->Closed md ops (pre ops.size j)->pY P ops Q S k j (ops.toList.drop j) a->wG P md ops Q S (λi=>i==k) (ops.size - j) (pre ops.size j) a:=by
 have an:k<ops.size:=by{unfold qR at B;simp only [List.all_cons,BO,BV] at B;exact B.1.1}
 have ao:∀i,i<k->reach md ops ops.size k i=true:=λi A=>by
  have h:=qY (L2:= [k]) (k:=i) B (U A);unfold rch at h;simpa using h
 intro r;induction r with
 | zero=>
  intro j a am _ h;(obtain rfl:j=k:=by omega);obtain ⟨f,ab⟩:∃f,ops.size - j=f+1:=⟨ops.size - j - 1,by omega⟩;(have H:j<ops.toList.length:=by simpa using an);rw [DN H] at h;unfold pY at h;rw [AL rfl] at h;rw [ab];refine ⟨λad=>(by rw [JL ai] at ad;cases ad),λi A w al=> ?_⟩;rw [JL ai,BB] at A;subst A;refine IP (λa' w' ak=> ?_) (h w al);rw [AL D,Fv];exact Yv (S:=λW=>W=w') _ _ _ _ rfl (aEc aj ag ae f (i+1) a' X ak)
 | succ r ih=>
  intro j a am af h;obtain ⟨f,ab⟩:∃f,ops.size - j=f+1:=⟨ops.size - j - 1,by omega⟩;(have H:j<ops.toList.length:=by simp;omega);rw [DN H] at h;unfold pY at h;rw [AA X] at h;obtain ⟨v,aq,h⟩:=h;(have A:ops[j]? =some (ops.toList[j]):=by rw [<-CV];exact AC H);have aa:=ag;unfold yX at aa;rw [BO,FD] at aa;have J:=aa.1 j (CJ.2 X);rw [BO] at J;have ah:j∈Region.ready md ops (pre ops.size j):=by simpa using J.1
  rw [ab];refine Y6 A (IA aj) (λc a w h=>ae c a _ _ w h) (by simp;omega) ops.size (λt ap=>by
   have:t=k:=(U ap)
   subst this;exact ao j X) f (pre ops.size j) a af (JJ A J.2) ah aq ?_
  rw [Fv];have:=ih (j+1) _ X (by rw [<-Fv];exact af.set ah) h;rwa [show ops.size - (j+1)=f by omega] at this
theorem Ea {id a w} (k) (af:P.follows .mixedOrders=true) (B:Region.noSelect ops=true) (H:yX .any ops=true) (J:(Region.ready .any ops (pre ops.size k)== [k])=true) (aa:qR .any ops [k]=true) (S) (ab:∀c (a:Act) d v w,Q (.panic c) (a.put d v) w->Q (.panic c) a w) (ad:S w.drew) (h:pY P ops Q S k 0 ops.toList a):(Code.region id ops true).wp P Q a w:=by
 refine wp_region_any af ?_;rw [<-Vx];have ae:Closed .any ops (pre ops.size 0):=λj o ag A=>by
  rw [Vx,EJ,IQ] at A;split at A<;>cases A
 have:=aBq (k:=k) (S:=S) B H J aa ab k 0 a X ae (U h);exact Jy _ _ _ _ ad this
variable {k j:Nat} {o:Oper} {rest:List Oper} {a:Act} {v:Value}
theorem xJ (B:(j==k)=false) (H:Region.wanted o (yielded ops a.tmps)=true) (h:∀w,S w->(execOp a.eval o).run P w=.ok (.value v) w) (r:pY P ops Q S k (j+1) rest (a.put o.dst v)):pY P ops Q S k j (o::rest) a:=by
 unfold pY;rw [AA (U B)];exact ⟨v,.inl ⟨H,λw A=> .inl ⟨w,h w A,A⟩⟩,r⟩
theorem G8 (A:(j==k)=false) (B:Region.wanted o (yielded ops a.tmps)=false) (r:pY P ops Q S k (j+1) rest (a.put o.dst undef)):pY P ops Q S k j (o::rest) a:=by
 unfold pY;rw [AA (U A)];exact ⟨undef,.inr ⟨B,rfl⟩,r⟩
theorem Dy (f args) (J:ops[k]? =some o) (aa:Region.wanted o (yielded ops a.tmps)=true) (h:∀w,S w->(execOp a.eval o).run P w=.ok (.enter f args) w) (H:∀w,S w->Calls P f args w (λe w'=>∃v,e=.returned v/\pR P ops Q (λW=>W=w') rest (a.put o.dst v))):pY P ops Q S k k (o::rest) a:=by
 unfold pY;rw [AL rfl];intro w A;unfold Go.wpOp;simp only [J,aa,IJ];refine .inl ?_;simp only [Oper.wp,h w A,Oper.upon];refine (H w A).mono ?_;rintro e w' ⟨v,rfl,B⟩;exact B
theorem aEE {w0} (A:Region.wanted o (yielded ops a.tmps)=true) (h:(execOp a.eval o).run P w0=.ok (.value v) w0) (r:pR P ops Q (λW=>W=w0) rest (a.put o.dst v)):pR P ops Q (λW=>W=w0) (o::rest) a:=
 aCr A (λw e=>by subst e;exact h) r
theorem wpC {id:Nat} {a a':Act} {w:World} {f:Nat} {args:Array Value} {o:Oper} {rest:List Oper} (k:Nat) (K:Calls P f args w.drew (λe w'=>∃v,e=.returned v/\pR P ops Q (λW=>W=w') rest (a'.put o.dst v))) (ad:P.follows .mixedOrders=true)
  (B:Region.noSelect ops=true:=by kernel_rfl) (H:yX .any ops=true:=by kernel_rfl) (J:(Region.ready .any ops (pre ops.size k)== [k])=true:=by kernel_rfl) (aa:qR .any ops [k]=true:=by kernel_rfl)
  (ab:∀c (a:Act) d v w,Q (.panic c) (a.put d v) w->Q (.panic c) a w:=by
    intro _ _ d _ _ h;cases d<;>exact h)
  (h:Hid (Calls P f args w.drew (λe w'=>∃v,e=.returned v/\pR P ops Q (λW=>W=w') rest (a'.put o.dst v)))->pY P ops Q (λW=>W=w.drew) k 0 ops.toList a:=by
    intro K;repeat (first
     | (refine xJ (v:= ?_) R R ?_ ?_
        rotate_left 1
        (intro W A;subst A;go_simp;(try with_reducible rfl))
        simp only [pT,aJ,lsS])
     | (refine G8 R R ?_
        simp only [pT,aJ,lsS]))
    refine Dy _ _ R R (by intro W A;subst A;go_simp;(try first|exact ⟨rfl,rfl⟩|with_reducible rfl)) ?_;intro W A;subst A;exact K.o):(Code.region id ops true).wp P Q a w:=Ea k ad B H J aa (λW=>W=w.drew) ab rfl (h (lH K))
theorem qP {a a':Act} {w:World} {rest:List Oper} (K:Q .normal a' w) (h:Hid (Q .normal a' w)->pR P ops Q (λW=>W=w) rest a:=by
   intro K;simp only [pT,aJ,lsS];repeat (first
    | (refine aEE (v:= ?_) R ?_ ?_
       rotate_left 1
       (go_simp;(try with_reducible rfl))
       simp only [pT,aJ,lsS])
    | (refine aD4 R ?_
       simp only [pT,aJ,lsS]))
   intro W A;have B:=Eq.symm A;clear A;subst B;exact K.o):pR P ops Q (λW=>W=w) rest a:=h (lH K)
end
