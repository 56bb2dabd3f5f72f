/- Part of a proof. -/
import Derived.Test.YtedcppikakinoaaGreatX23
import Derived.ChangeArms
import Derived.Deep.Slices
import Derived.Laws.Externs
import Derived.OpenShut
import Derived.ProofKit
set_option linter.unusedSimpArgs false
set_option linter.unusedVariables false
set_option maxRecDepth 100000
set_option maxHeartbeats 6400000
namespace Go.Proofs.YtedcppikakinoaaGreat
open Go.Proofs.Tryz Go.RowKit
theorem aFc (x w):(callFunc 97 #[.float .f64 x]).run prog w=.ok (.value (.int .u64 x)) w:=by
 rw [run_callFunc_extern (f:=97) (fn:=Tryz.f97) (e:=Extern.MathFloatBits.float64bits) N N N N N];rfl
theorem Jk {P} (t) {x y o} (h:DD.div x y=some o) (w):(binOp .quo t (.float .f64 x) (.float .f64 y)).run P w=.ok (.float .f64 o) w:=by
 have r:FloatKind.f64.format.div x y=some o:=h;simp [binOp,Op.floatArith,r,Sem.run]
theorem aAQ {P} (t) {x y o} (h:DD.sub x y=some o) (w):(binOp .sub t (.float .f64 x) (.float .f64 y)).run P w=.ok (.float .f64 o) w:=by
 have r:FloatKind.f64.format.sub x y=some o:=h;simp [binOp,Op.floatArith,r,Sem.run]
theorem aDt {P} (t) {x y o} (h:DD.mul x y=some o) (w):(binOp .mul t (.float .f64 x) (.float .f64 y)).run P w=.ok (.float .f64 o) w:=by
 have r:FloatKind.f64.format.mul x y=some o:=h;simp [binOp,Op.floatArith,r,Sem.run]
theorem f_add {P} (t) {x y o} (h:DD.add x y=some o) (w):(binOp .add t (.float .f64 x) (.float .f64 y)).run P w=.ok (.float .f64 o) w:=by
 have r:FloatKind.f64.format.add x y=some o:=h;simp [binOp,Op.floatArith,r,Sem.run]
theorem write_lt (d):DD.write d<18446744073709551616:=by
 have o:∀(s:Bool) (r:Nat),r<=9223372036854775807->DD.word s r<18446744073709551616:=λs r h=>by
  unfold Ieee.Format.word;rw [Dt];split<;>omega
 unfold Ieee.Format.write;split;{unfold Ieee.Format.nearest;split;{exact o _ _ G};{exact o _ _ (AV (Nat.min_le_right _ _) (by rw [xJ];decide))}};{exact o _ _ (by rw [xJ];decide)};{rename_i f;refine o _ _ ?_;rw [xJ,Bo];have:=Nat.mod_lt f (show 0<4503599627370496 by decide);omega}
theorem div_lt {x y r} (h:DD.div x y=some r):r<18446744073709551616:=by
 unfold Ieee.Format.div at h;obtain ⟨d,_,rfl⟩:=CW.1 h;exact write_lt d
theorem Hm {x y a b c d} (r:Fi x a b) (u:Fi y c d):(fv x<fv y/\FloatKind.f64.format.order x y=some .lt)\/(fv x=fv y/\FloatKind.f64.format.order x y=some .eq)\/(fv y<fv x/\FloatKind.f64.format.order x y=some .gt):=by
 have h:FloatKind.f64.format.order x y=some (compare (fv x) (fv y)):=Uo r u;rw [h,Fg];rcases JY (fv x) (fv y) with o|o|o;{exact .inl ⟨o,by rw [AL o]⟩};{exact .inr (.inl ⟨o,by rw [AA X,AL o]⟩)};{exact .inr (.inr ⟨o,by rw [AA X,AA X]⟩)}
theorem Sr {x a b} (o:Fi x a b):FloatKind.f64.format.order x x=some .eq:=aGL o
def nX (v:Value) (w:World) (e:Ending) (w':World):Prop:=e=.returned v/\w'=w
theorem Ce (v w):Hid (∀u,u=v->nX v w (.returned u) w):=lH (λ_ e=>by rw [e];exact ⟨rfl,rfl⟩)
theorem none_ {x a b} (o:Fi x a b) (w):Calls prog 154 #[.float .f64 x] w (nX (.bool false) w):=by
 have A:=Sr o;have r:=Ce (.bool false) w;generalize nX _ w=u at*;clear o;go_enter func154,ntmps154;exact aC (r.o _ rfl)
theorem aDi (x:Nat) (h:x<18446744073709551616):(wrap64 (x:Int)<0)↔9223372036854775808<=x:=by
 unfold wrap64;omega
theorem Vk (x) (h:x<18446744073709551616) (w):Calls prog 227 #[.float .f64 x] w (nX (.bool (qF x)) w):=by
 have A:=aFc x;have r:Hid (decide (wrap64 (x:Int)<0)=qF x):=lH (by
  unfold qF;rw [decide_eq_decide];exact aDi x h)
 have o:=Ce (.bool (qF x)) w;generalize nX _ w=u at*;go_enter func227,ntmps227;go_wp2_with fail;rw [r.o];exact o.o _ rfl
theorem aF3 {x y a b c d} (B:Fi x a b) (J:Fi y c d) (ae:x<18446744073709551616) (af:y<18446744073709551616) (w):Calls prog 155 #[.float .f64 x,.float .f64 y] w (nX (Z (uP x y)) w):=by
 have A:=lH (none_ B);have aa:=lH (none_ J);have ab:=lH (Vk x ae);have ad:=lH (Vk y af);have o:=Ce (Z (uP x y)) w;generalize nX _ w=ak at*;unfold nX at A aa ab ad;have aj:=Hm B J;clear B J ae af;go_enter func155,ntmps155;go_wp2_with fail;refine cr (A.o _) ?_;rintro Q rfl;go_wp2_with fail;refine cr (A.o _) ?_;rintro Q rfl;go_wp2_with fail;refine cr (aa.o _) ?_;rintro Q rfl;rcases aj with ⟨u,ag⟩|⟨u,ag⟩|⟨u,ag⟩;{go_wp2_with fail;refine o.o _ (Eq.trans (show _=Value.int .i64 (-1) from rfl) ?_);unfold uP;rw [AL u]};{go_wp2_with fail;refine cr (ab.o _) ?_;rintro Q rfl;go_wp2_with fail;refine cq (ad.o _) ?_;(have r:uP x y=if qF x=qF y then 0 else if qF x=true then -1 else 1:=by{unfold uP;rw [AA X,AA X]});(cases ah:qF x<;>cases ai:qF y<;>rw [ah,ai] at r);{go_wp2_with fail;exact o.o _ (Eq.trans (show _=Value.int .i64 0 from rfl) (by rw [r];rfl))};{go_wp2_with fail;exact o.o _ (Eq.trans (show _=Value.int .i64 1 from rfl) (by rw [r];rfl))};{go_wp2_with fail;exact o.o _ (Eq.trans (show _=Value.int .i64 (-1) from rfl) (by rw [r];rfl))};{go_wp2_with fail;exact o.o _ (Eq.trans (show _=Value.int .i64 0 from rfl) (by rw [r];rfl))}};{go_wp2_with fail;refine o.o _ (Eq.trans (show _=Value.int .i64 (1) from rfl) ?_);unfold uP;rw [AA X,AL u]}
theorem aDb (l z a) (h:F9 l z a) (w):Calls prog 152 #[l,z,a] w (nX (.float .f64 (qL l z a)) w):=by
 have u:=λw=>Jk (P:=prog) 112 h.u w;have A:=λw=>aAQ (P:=prog) 112 h.r w;have B:=λw=>aDt (P:=prog) 112 h.w w;have J:=λw=>f_add (P:=prog) 112 h.c w;have Q:=λw=>Jk (P:=prog) 112 h.g w;have o:=Ce (.float .f64 (qL l z a)) w;generalize nX _ w=r at*;clear h;go_enter func152,ntmps152;exact aC (o.o _ rfl)
theorem Tryz.aFz:(prog.info? 141).map (λi=>(i.zero,i.size,i.bytes))=some (some (.agg #[Z 0,Z 0,Z 0,Z 0]),4,32):=by kernel_rfl
theorem Ru (x):(fD x).length=4:=rfl
theorem Gh {w:World} {base v n xs} (h:w.ownsRow base 141 4 v n xs) (j) (o:v.ownBlock=some j):base<=j:=by
 obtain ⟨_,⟨rfl,_⟩|⟨g,cap,u,rfl,r,_⟩⟩:=h;{cases o};{cases o;exact r}
theorem Lm {S w w' base v n xs} (h:w.ownsRow base 141 4 v n xs) (f:Fr S w w') (B:∀j,v.ownBlock=some j->¬S j):w'.ownsRow base 141 4 v n xs:=by
 obtain ⟨o,u|⟨g,cap,r,rfl,Q,J,A⟩⟩:=h;{exact ⟨o,.inl u⟩};{exact ⟨o,.inr ⟨g,cap,r,rfl,Q,f.aB J (B g rfl),A⟩⟩}
theorem aAV {w u base v L} (h:w.ownsRow base 141 4 v L.length (L.flatMap fD)) (ab:∀k,base<=k->u k=0):aZ fD 4 w u v L:=by
 obtain ⟨_,⟨rfl,A⟩|⟨g,cap,ag,rfl,J,r,aa,ah,ae,af⟩⟩:=h;{have B:=FN.1 A;subst B;exact ⟨none,0,rfl,λh=>absurd rfl h⟩}
 ·refine ⟨some (I g 0),cap,rfl,λ_=>⟨g,0,rfl,ab g J,lt_of_block r,λj x Q=> ?_⟩⟩;have ad:=(bC.of_block (c:=fD) (n:=4) (t:=141) Ru r (Nat.le_of_eq ae.symm) aa (λk ai o=>by
   rw [<-af,EH] at o;split at o;{simpa using o}
   ·cases o)).row j x Q
  rw [BP];exact ad
def Ff (w:World) (o:Nat->Nat) (r:aH) (st:List Sz) (dv:Value) (e:Ending) (w':World):Prop:=∃rv,e=.returned (.agg (r.cells rv dv))/\aZ fD 4 w' o rv st/\Fr No w w'
theorem aCi (ag o ce az r w) (bt:aF w ag) (bg:aZ fD 4 w ag ce r) (hd:∃u B A,az=.slice u B A) (bu:r.length<=1000):
  Calls prog 19 #[.agg (o.cells ce az)] w (Ff w ag o r az):=by
 (have du:prog.follows .mixedOrders=true:=N);obtain ⟨bs,cs,rfl⟩:=bg.slice;obtain ⟨u,B,A,rfl⟩:=hd;have cw:Hid (∀au w',aZ fD 4 w' ag au r->Fr No w w'->Ff w ag o r (.slice u B A) (.returned (.agg (o.cells au (.slice u B A)))) w'):=λau w' dj dk=>⟨au,rfl,dj,dk⟩;generalize Ff w ag o r _=dz at*;obtain ⟨dt,Q,bx,bz,ca⟩:=EL Tryz.aFz;have cn:=lH Q;have cz:=lH bx;have da:=lH bz;have db:=lH ca;have cu:=lH bu;have bj:=lH bt;have bl:=lH bg;(have dn:∀w':World,(Instr.build 32 #[(0,Z o.c),(1,Z o.l),(2,Z o.q)]).run prog w'=.ok (.agg #[o.c,o.l,o.q]) w':=λw'=>by kernel_rfl);(have dp:∀w':World,(Instr.build 36 #[(0,.agg #[o.c,o.l,o.q]),(1,Z o.kind),(2,.string (ba o.path)),(3,.string (ba o.tq)),(4,.bool o.dir),(5,.bool o.wr),(6,.bool o.cl),(7,Z o.h),(8,Z o.nx),(9,Z o.sw),(11,.slice u B A)]).run prog w'=.ok (.agg #[o.c,o.l,o.q,o.kind,(ba o.path),(ba o.tq),o.dir,o.wr,o.cl,o.h,o.nx,o.sw,nS,.slice u B A]) w':=λw'=>by kernel_rfl);clear Q bx bz ca bt bg bu;unfold aH.cells at*;have cb:(((w.alloc (.cells #[o.c,o.l,o.q,o.kind,(ba o.path),(ba o.tq),o.dir,o.wr,o.cl,o.h,o.nx,o.sw,.slice bs r.length cs,.slice u B A] 41)).alloc (.cells #[Z 0,Z 0,Z 0,Z 0,.string ⟨#[]⟩,.string ⟨#[]⟩,false,false,false,Z 0,Z 0,Z 0,nS,nS] 36)).alloc (.cells #[o.c,o.l,o.q,o.kind,(ba o.path),(ba o.tq),o.dir,o.wr,o.cl,o.h,o.nx,o.sw,nS,.slice u B A] 36)).heap[w.heap.size]? =some (.cells #[o.c,o.l,o.q,o.kind,(ba o.path),(ba o.tq),o.dir,o.wr,o.cl,o.h,o.nx,o.sw,.slice bs r.length cs,.slice u B A] 41 (0,0)):=(((Fr.refl (S:=No) _).alloc _).alloc _).aB (aQ w _) id;(have cc:(((w.alloc (.cells #[o.c,o.l,o.q,o.kind,(ba o.path),(ba o.tq),o.dir,o.wr,o.cl,o.h,o.nx,o.sw,.slice bs r.length cs,.slice u B A] 41)).alloc (.cells #[Z 0,Z 0,Z 0,Z 0,.string ⟨#[]⟩,.string ⟨#[]⟩,false,false,false,Z 0,Z 0,Z 0,nS,nS] 36)).alloc (.cells #[o.c,o.l,o.q,o.kind,(ba o.path),(ba o.tq),o.dir,o.wr,o.cl,o.h,o.nx,o.sw,nS,.slice u B A] 36)).heap[w.heap.size+1]? =some (.cells #[Z 0,Z 0,Z 0,Z 0,.string ⟨#[]⟩,.string ⟨#[]⟩,false,false,false,Z 0,Z 0,Z 0,nS,nS] 36 (0,0)):=by{(have h:((w.alloc (.cells #[o.c,o.l,o.q,o.kind,(ba o.path),(ba o.tq),o.dir,o.wr,o.cl,o.h,o.nx,o.sw,.slice bs r.length cs,.slice u B A] 41)).alloc (.cells #[Z 0,Z 0,Z 0,Z 0,.string ⟨#[]⟩,.string ⟨#[]⟩,false,false,false,Z 0,Z 0,Z 0,nS,nS] 36)).heap[w.heap.size+1]? =some (.cells #[Z 0,Z 0,Z 0,Z 0,.string ⟨#[]⟩,.string ⟨#[]⟩,false,false,false,Z 0,Z 0,Z 0,nS,nS] 36 (0,0)):=by simpa using aQ (w.alloc _) _);exact ((Fr.refl (S:=No) _).alloc _).aB h id});(have cd:(((w.alloc (.cells #[o.c,o.l,o.q,o.kind,(ba o.path),(ba o.tq),o.dir,o.wr,o.cl,o.h,o.nx,o.sw,.slice bs r.length cs,.slice u B A] 41)).alloc (.cells #[Z 0,Z 0,Z 0,Z 0,.string ⟨#[]⟩,.string ⟨#[]⟩,false,false,false,Z 0,Z 0,Z 0,nS,nS] 36)).alloc (.cells #[o.c,o.l,o.q,o.kind,(ba o.path),(ba o.tq),o.dir,o.wr,o.cl,o.h,o.nx,o.sw,nS,.slice u B A] 36)).heap[w.heap.size+1+1]? =some (.cells #[o.c,o.l,o.q,o.kind,(ba o.path),(ba o.tq),o.dir,o.wr,o.cl,o.h,o.nx,o.sw,nS,.slice u B A] 36 (0,0)):=by simpa using aQ ((w.alloc _).alloc _) _);have fA:Fr No w (((w.alloc (.cells #[o.c,o.l,o.q,o.kind,(ba o.path),(ba o.tq),o.dir,o.wr,o.cl,o.h,o.nx,o.sw,.slice bs r.length cs,.slice u B A] 41)).alloc (.cells #[Z 0,Z 0,Z 0,Z 0,.string ⟨#[]⟩,.string ⟨#[]⟩,false,false,false,Z 0,Z 0,Z 0,nS,nS] 36)).alloc (.cells #[o.c,o.l,o.q,o.kind,(ba o.path),(ba o.tq),o.dir,o.wr,o.cl,o.h,o.nx,o.sw,nS,.slice u B A] 36)):=(((Fr.refl w).alloc _).alloc _).alloc _;(have ae:(((w.alloc (.cells #[o.c,o.l,o.q,o.kind,(ba o.path),(ba o.tq),o.dir,o.wr,o.cl,o.h,o.nx,o.sw,.slice bs r.length cs,.slice u B A] 41)).alloc (.cells #[Z 0,Z 0,Z 0,Z 0,.string ⟨#[]⟩,.string ⟨#[]⟩,false,false,false,Z 0,Z 0,Z 0,nS,nS] 36)).alloc (.cells #[o.c,o.l,o.q,o.kind,(ba o.path),(ba o.tq),o.dir,o.wr,o.cl,o.h,o.nx,o.sw,nS,.slice u B A] 36)).heap.size=w.heap.size+1+1+1:=D);go_enter func19,ntmps19;go_wp2_with fail;generalize ((w.alloc _).alloc _).alloc _=aa at*;have ck:=lH fA;have co:=lH cb;have cp:=lH cc;have ct:=lH cd;have ax:=lH ae;have cx:=lH (bl.o.no bj fA);have cm:Hid (aF aa ag):=lH (Step.no (C:=λ_=>False) bj fA).fresh;generalize bq:w.heap.size=J at*;clear cb cc cd fA ae dn dp;go_loopw [4] (λa wr=>∃(j:Nat) (bh:Value),a=Z j/\j<=r.length/\Hid (wr.ownsRow aa 141 4 bh j ((r.take j).flatMap fD))/\Hid (wr.heap[J+1+1]? =some (.cells #[o.c,o.l,o.q,o.kind,(ba o.path),(ba o.tq),o.dir,o.wr,o.cl,o.h,o.nx,o.sw,bh,.slice u B A] 36 (0,0)))/\Hid (Fr (λk=>k=J+1+1) aa wr)) (λa _=>r.length - (intOf a).toNat);case atStart=>exact ⟨0,.slice none 0 0,rfl,BA _,lH ⟨rfl,.inl ⟨rfl,rfl⟩⟩,ct,lH (Fr.refl _)⟩
 case round=>
  obtain ⟨j,bh,rfl,al,av,ap,aj⟩:=hrel;obtain ⟨a,ad,rfl⟩:=av.o.shape;have ae:=ax.o;have di:wr.cell? (I J 12)=some (.slice bs r.length cs):=aj.o.cell_of (by rw [aA co.o];rfl) (by dsimp only;omega);have cf:=lH di;by_cases aq:j<r.length
  ·(have bv:r≠ []:=by{intro e;subst e;simp at aq});obtain ⟨b,off,rfl,ds,dq,bw⟩:=cx.o.at bv;(have eg:b<J:=by{obtain ⟨ea,ej,e,_,dm,_⟩:=bl.o.at bv;cases e;rw [<-bq];exact dm});have ay:=bw j r[j] (AC aq);have dv:(j:Int)<(r.length:Int):=X;have ek:(0:Int)<=(j:Int):=X
   have ef:=cu.o;have cy:Hid (r.take (j+1)=r.take j++ [r[j]]):=lH (by rw [DJ,AC aq];rfl);have dy:Hid ((r.take j).length=j):=lH (by rw [BV];omega);generalize r[j]=x at*;unfold fD at ay;have bb:=aj.o.drew;have bm:Hid (wr.drew.rangeAt b (off+j*4) [x.1.1,x.1.2.1,x.1.2.2,x.2]):=λi an Q=>bb.cell_of (ay i an Q) (by dsimp only;omega);have dg:Hid (wr.drew.rangeAt b (off+j*4) (cS x.1)):=λi an Q=>bm.o i an (by
    match i,Q with
    | 0,Q=>exact Q
    | 1,Q=>exact Q
    | 2,Q=>exact Q)
   have df:=lH (bm.o 3 _ rfl);have cg:Hid (wr.drew.cell? (I J 12)=some (.slice (some (I b off)) r.length cs)):=(Fr.refl (S:=No) wr).drew.cell_of cf id;have dh:Hid (wr.drew.cell? (I (J+1+1) 12)=some (.slice a j ad)):=(Fr.refl (S:=No) wr).drew.cell_of (by rw [aA ap.o];rfl) id;have aw:=lH (Lm av (Fr.refl wr).drew zq);have dw:=lH ((Fr.refl (S:=No) wr).drew.aB ap id);have cl:=lH bb;(have br:∀W:World,(Instr.build 141 #[(0,.agg (cS x.1)),(1,Z x.2)]).run prog W=.ok (.agg #[x.1.1,x.1.2.1,x.1.2.2,x.2]) W:=λW=>by kernel_rfl);have cj:=lH br;clear ay bw bb br ds dq;go_wp2_with fail;obtain ⟨ai,bc⟩:∃ai,wr.drew.alloc (.cells #[x.1.1,x.1.2.1,x.1.2.2,x.2] 141)=ai:=⟨_,rfl⟩
   have af:=lH bc;have ao:Hid (∀(d:Bool) (W:World),(if d=true then W=ai else W=wr.drew)->Fr No wr.drew W):=λd W h=>by
    (cases d with|true=>rw [AL rfl] at h;rw [h,<-bc];exact (Fr.refl _).alloc _|false=>rw [AA D] at h;rw [h];exact Fr.refl _)
   clear bc;refine Ue du (λd W=>if d=true then W=ai else W=wr.drew) 15 [15,16,17,18] [16] N N N N (λ_ _ d _ _ h=>by cases d<;>exact h) rfl ?_;repeat (first
    | refine V5 R ?_
    | (refine O7 (v:= ?_) R R ?_ ?_
       rotate_left 1;(intro W;have ei:=cj.o W;go_simp;(try with_reducible rfl))
       simp only [Act.put,lsA,aI,lsS])
    | (refine H8 (v:=.agg _) R N R (λd W ab=>l7 46 (.tmp 49) R b (off+j*4) R _ _ (λi an Q=>(ao.o d W ab).cell_of (dg.o i an Q) id) underlying46 rfl Tryz.qR) ?_
       simp only [Act.put,lsA,aI,lsS])
    | (refine H8 (v:= ?_) R N R ?_ ?_
       rotate_left 1;(intro d W ab;have e0:W.cell? (I J 12)=some (.slice (some (I b off)) r.length cs):=(ao.o d W ab).cell_of cg id;have ec:W.cell? (I (J+1+1) 12)=some (.slice a j ad):=(ao.o d W ab).cell_of dh id;have ed:W.cell? (I b (off+j*4+3))=some (Z x.2):=(ao.o d W ab).cell_of df id;clear ab;go_simp;(try with_reducible rfl))
       simp only [Act.put,lsA,aI,lsS]))
   unfold nT;refine J5 (v:=.slice (some (I wr.drew.heap.size 0)) 1 1) R R R (λW ab=>⟨ai,by obtain rfl:W=wr.drew:=ab;go_simp;exact af.o,rfl⟩) ?_;simp only [Act.put,lsA,aI,lsS];refine Tj R R ?_;intro W ab;obtain rfl:W=ai:=ab;simp only [DZ,FU,GG,ED,EQ,List.getElem_toArray,List.getElem_cons_succ,List.getElem_cons_zero,Act.put,lsA,aI,lsS];have eh:=cl.o.size;have cv:Hid (W.ownsRow aa 141 4 (.slice a j ad) j ((r.take j).flatMap fD)):=lH (by rw [<-af.o];exact aw.o.alloc _);clear ae;refine wpList_append_lies _ R _ _ 33 R aa 141 dt _ 4 32 underlying33 cn cz da db rfl G (.slice a j ad) j ((r.take j).flatMap fD) R cv (I wr.drew.heap.size 0) 1 1 [x.1.1,x.1.2.1,x.1.2.2,x.2] R R ?d1 (by simp [Value.oneCell']) G (by unfold maxLen;omega) X ?d5 (wr.drew.heap.size+1) ?d6 ?_;(case d1=>exact World.news_of_block (cs:= #[x.1.1,x.1.2.1,x.1.2.2,x.2]) (t:=141) (fr:=(0,0)) (by rw [<-af.o];exact AQ wr.drew _));(case d5=>rw [<-af.o,fC];omega);(case d6=>rw [<-af.o,fC]);intro ak cap ah bf bd dl dr;have ae:=ax.o;have bo:Fr (λk=>aa.heap.size<=k) wr ah:=(by rw [<-af.o];exact ((Fr.refl (S:=λk=>aa.heap.size<=k) wr).drew.alloc _):Fr (λk=>aa.heap.size<=k) wr W).grown bd (λj al=> .inl (Gh aw j al));have bp:Fr (λk=>k=J+1+1) aa ah:=(by rw [<-af.o];exact aj.o.drew.alloc _:Fr (λk=>k=J+1+1) aa W).grown bd (λj al=> .inr (Gh aw j al));have ar:=bo.aB ap X;have eb:ah.cell? (I (J+1+1) 12)=some (.slice a j ad):=(by rw [aA ar];rfl)
   have el:=aU ar 12;have dc:Hid ((ah.setCell (I (J+1+1) 12) (.slice (some (I ak 0)) (j+1) cap)).heap[J+1+1]? =some (.cells #[o.c,o.l,o.q,o.kind,(ba o.path),(ba o.tq),o.dir,o.wr,o.cl,o.h,o.nx,o.sw,.slice (some (I ak 0)) (j+1) cap,.slice u B A] 36 (0,0))):=lH (by simpa using setCell_at ar 12 _);have ch:Hid (Fr (λk=>k=J+1+1) aa (ah.setCell (I (J+1+1) 12) (.slice (some (I ak 0)) (j+1) cap))):=bp.setCell (.inl rfl) _;have de:Hid ((ah.setCell (I (J+1+1) 12) (.slice (some (I ak 0)) (j+1) cap)).ownsRow aa 141 4 (.slice (some (I ak 0)) (j+1) cap) (j+1) ((r.take (j+1)).flatMap fD)):=lH (by
    have e:(r.take (j+1)).flatMap fD=(r.take j).flatMap fD++ [.int .i64 x.1.1,.int .i64 x.1.2.1,.int .i64 x.1.2.2,.int .i64 x.2]:=by{rw [cy.o,EU];simp [fD]}
    rw [e];exact Lm bf (dZ ah (J+1+1) 12 _) (λk am e=>by
     have:=Gh bf k am;omega))
   clear bf bd dl dr bo bp ar ae;go_wp2_with fail;go_roundw;{exact ⟨j+1,_,by go_num,aq,de,dc,ch⟩};simp [intOf];omega
  ·(have be:j=r.length:=X);have dv:¬(j:Int)<(r.length:Int):=X
   have bn:=lH (aj.o.aB cp X);have dx:=lH (show (#[o.c,o.l,o.q,o.kind,(ba o.path),(ba o.tq),o.dir,o.wr,o.cl,o.h,o.nx,o.sw,.slice a j ad,.slice u B A]:Array Value).all (·.oneCell')=true from by simp [Value.oneCell']);have bk:Hid (wr.ownsRow aa 141 4 (.slice a j ad) r.length (r.flatMap fD)):=lH (by have:=av.o;rw [be,AY] at this;rw [be];exact this);have ci:=lH bq;clear be ae;go_wp2_with (first|(refine wR 36 ap ?_)|(refine wS 36 bn ?_));have dd:=aX (cs':= #[o.c,o.l,o.q,o.kind,(ba o.path),(ba o.tq),o.dir,o.wr,o.cl,o.h,o.nx,o.sw,.slice a j ad,.slice u B A]) bn.o;have bi:Fr (λk=>k=J+1) wr (wr.setRow (J+1) #[o.c,o.l,o.q,o.kind,(ba o.path),(ba o.tq),o.dir,o.wr,o.cl,o.h,o.nx,o.sw,.slice a j ad,.slice u B A]):=Fr.setRow (S:=λk=>k=J+1) (Fr.refl _) (.inl rfl) _;refine AZ (v:=.agg _) (BD rfl _ _ (J+1) 36 _ (0,0) _ rfl dd underlying36 rfl Tryz.yN) rfl ?_;have ae:=ax.o;have ee:=ci.o;exact cw.o _ _ (aAV (Lm bk bi (λk am e=>by
    have:=Gh bk k am;omega)) (λk am=>cm.o k am)) (ck.o.trans ((aj.o.mono (T:=λk=>k=J+1\/k=J+1+1) (λ_ _ e=>Or.inr e)).trans bi (λ_ _ e=>Or.inl e)) (λj al e=>by omega))
inductive tX (r:aH) (st:List Sz) (dl:List Dl) (B:St):St->Prop
 | same:tX r st dl B B
 | make:r.kind=1->(bV B.T r.path).1=0->tX r st dl B (lI B r)
 | remove:r.kind=2->(lookOf B.T r.path).1=0->mayRemove B r->(bK B.T r.path r.dir).1=0->tX r st dl B (kY B r)
 | move:r.kind=3->gI B.T r.path r.tq=0->tX r st dl B {B with T:=jC B.T r.path r.tq}
 | opens:r.kind=6->(lookOf B.T r.path).1=0->(lookOf B.T r.path).2.2=false->(eU B.K r.c (lookOf B.T r.path).2.1 r.wr).1=0->tX r st dl B {B with K:=(eU B.K r.c (lookOf B.T r.path).2.1 r.wr).2.2}
 | commit (x:Tok):r.kind=7->dE B.K r.c r.h=some x->¬(x.wr=false/\¬(dl= []/\st= []))->(dW B r.sw r.nx st r.c r.l).1=0->(∀d∈dl,kN (dW B r.sw r.nx st r.c r.l).2 x.i d)->
   tX r st dl B {mZ B st dl r.c.toNat r.nx x.i.toNat with K:=kM r.cl B.K x}
theorem aAy (u r Q J) (ab:1<=r.kind/\r.kind<=8):tX r Q J u (iF r Q J r.kind u).2.2/\((iF r Q J r.kind u).1≠0->(iF r Q J r.kind u).2.2=u):=by
 unfold iF;split;{rename_i h;unfold lC;split;{rename_i o;exact ⟨.make h o,λe=>absurd rfl e⟩};{exact ⟨.same,λ_=>rfl⟩}};{split;{rename_i h;unfold iV;split;{exact ⟨.same,λ_=>rfl⟩};{rename_i o;split;{exact ⟨.same,λ_=>rfl⟩};{rename_i A;split;{exact ⟨.same,λ_=>rfl⟩};{rename_i B;exact ⟨.remove h (BI o) (BI A) (BI B),λe=>absurd rfl e⟩}}}};{split;{rename_i h;unfold oC;split;{rename_i o;exact ⟨.move h o,λe=>absurd rfl e⟩};{exact ⟨.same,λ_=>rfl⟩}};{split;{unfold rF;split<;>exact ⟨.same,λ_=>rfl⟩};{split;{unfold qU;split<;>exact ⟨.same,λ_=>rfl⟩};{split;{rename_i h;unfold iY;split;{exact ⟨.same,λ_=>rfl⟩};{rename_i o;split;{exact ⟨.same,λ_=>rfl⟩};{rename_i A;split;{exact ⟨.same,λ_=>rfl⟩};{rename_i B;exact ⟨.opens h (BI o) (U A) (BI B),λe=>absurd rfl e⟩}}}};{split;{rename_i h;unfold jG;split;{exact ⟨.same,λ_=>rfl⟩};{rename_i x aa;split;{exact ⟨.same,λ_=>rfl⟩};{rename_i o;split;{exact ⟨.same,λ_=>rfl⟩};{rename_i A;split;{exact ⟨.same,λ_=>rfl⟩};{rename_i B;exact ⟨.commit x h aa o (BI A) (BI B),λe=>absurd rfl e⟩}}}}};{unfold mapD;split<;>exact ⟨.same,λ_=>rfl⟩}}}}}}}
inductive rQ (S:St) (r:aH) (st:List Sz) (dl:List Dl):St->Prop
 | same:rQ S r st dl S
 | boot:rQ S r st dl (uU S)
 | swap:rQ S r st dl (sN S)
 | moved:r.c=4/\r.l=S.boots->(dW S r.sw r.nx st 4 S.boots).1=0->(∀d∈dl,oD (dW S r.sw r.nx st 4 S.boots).2 d)->rQ S r st dl (sK S st dl r.nx)
 | asked (kd:Int) (bs:List UInt8) (D:St):kV r.c r.l r.q->kd=0\/kd=3->dI S.W r.c r.l r.q=(kd,none)->tX r st dl (dL S r.c.toNat kd) D->rQ S r st dl {D with W:=upd S.W r.c.toNat (some (r.l,r.q,bs))}
theorem Yd (S c o):(dL S c o).W=S.W:=by unfold dL;split<;>rfl
theorem Iz {S o A u x} (hd:nJ S o A u x):rQ S o A u x.2:=by
 unfold nJ at hd;split at hd;{rw [hd];show rQ S o A u (fE (kF S o)).2;rw [nI];unfold kF;split;{exact .boot};{exact .same}};{split at hd;{rw [hd];show rQ S o A u (fE (kC S o)).2;rw [nI];unfold kC;split;{exact .swap};{exact .same}};{split at hd;{rw [hd];show rQ S o A u (fE (jO S o A u)).2;rw [nI];unfold jO;split;{exact .same};{rename_i aa;split;{exact .same};{rename_i ab;split;{exact .same};{rename_i ad;exact .moved (BI aa) (BI ab) (BI ad)}}}};{split at hd;{rw [hd];exact .same};{rename_i ag;split at hd;{rw [hd.1];exact .same};{split at hd;{rw [hd];exact .same};{rename_i ae J;rcases ask_cases S.W o.c o.l o.q with r|⟨ai,r⟩;{rw [r] at J;exact absurd rfl J};{(have Q:kV o.c o.l o.q:=by{by_cases Q:kV o.c o.l o.q;{exact Q};{have:dI S.W o.c o.l o.q=(2,none):=AA Q;rw [this] at J;exact absurd rfl J}});(have af:∃B:Int,(B=0\/B=3)/\dI S.W o.c o.l o.q=(B,none):=by{rcases r with r|r|r|⟨y,_,r⟩;{exact ⟨3,.inr rfl,r⟩};{rw [r] at J;exact absurd rfl J};{exact ⟨0,.inl rfl,r⟩};{rw [r] at ae;exact absurd rfl ae}});obtain ⟨B,ah,r⟩:=af;rw [r] at hd;rw [hd];have aa:=(aAy (dL S o.c.toNat B) o A u (BI ag)).1;have ab:=rQ.asked (bs:=(iP (fE (iF o A u o.kind (dL S o.c.toNat B))).1 (fE (iF o A u o.kind (dL S o.c.toNat B))).2.swaps).bytes) B _ Q ah r aa;(have ad:(tell (tY (fE (iF o A u o.kind (dL S o.c.toNat B))) o.c.toNat o)).2={(iF o A u o.kind (dL S o.c.toNat B)).2.2 with W:=upd S.W o.c.toNat (some (o.l,o.q,(iP (fE (iF o A u o.kind (dL S o.c.toNat B))).1 (fE (iF o A u o.kind (dL S o.c.toNat B))).2.swaps).bytes))}:=by{unfold tell tY;dsimp only;rw [nI,Nu,Yd]});rw [ad];exact ab}}}}}}}
theorem O9 {L c} (h:fP L c<4):∀x∈L,¬(x.c=c/\x.h=(fP L c:Int)):=by
 unfold fP at h ⊢;(cases r:(List.range 4).find? (λh:Nat=>(dE L c h).isNone) with|none=>rw [r] at h;exact absurd h G|some k=>rw [Option.getD_some];have u:=KR r;intro x A e;(have o:dE L c k=none:=by simpa using u);unfold dE at o;have:=ES.1 o x A;simp [e] at this)
def vN (x y:Tok):Prop:=x.c<y.c\/x.c=y.c/\x.h<y.h
def kX (L:List Tok):Prop:=L.Pairwise vN
def mF (c:Int):List Tok->Nat×Nat->Nat×Nat
 | [],s=>s
 | x::r,s=>mF c r (if x.c=c then (s.1+1,if x.h=(s.2:Int) then s.2+1 else s.2) else s)
theorem U4 (c:Int):∀(L M:List Tok) (s:Nat×Nat),mF c (L++M) s=mF c M (mF c L s)
 | [],_,_=>rfl
 | x::r,M,s=>by rw [CP];exact U4 c r M _
structure Ir (c:Int) (L:List Tok) (m h:Nat):Prop where
 all:∀k:Nat,k<h->∃x∈L,x.c=c/\x.h=(k:Int)
 no:∀x∈L,x.c=c->x.h≠(h:Int)
 most:m=h/\(∀x∈L,x.c=c->x.h<(h:Int))\/h<m/\∃x∈L,x.c=c/\(m:Int)<=x.h
theorem aA0 (c L) (Q:kX L) (J:∀x∈L,0<=x.h):Ir c L (mF c L (0,0)).1 (mF c L (0,0)).2:=by
 have key:∀(R B:List Tok) (m h:Nat),kX (B++R)->(∀x∈B++R,0<=x.h)->Ir c B m h->Ir c (B++R) (mF c R (m,h)).1 (mF c R (m,h)).2:=by
  intro R;induction R with
  | nil=>intro B m h _ _ H;rw [EN];exact H
  | cons x r ih=>
   intro B m h Q J H;rw [show B++x::r=(B++ [x])++r by simp] at Q J ⊢;have ad:∀y∈B,vN y x:=λy o=>by
    have u:=(JW.1 Q).1;exact (JW.1 u).2.2 y o x D
   have aj:=J x D;unfold mF;by_cases aa:x.c=c
   ·rw [AL aa];have af:∀y∈B,y.c=c->y.h<x.h:=λy o e=>by
     rcases ad y o with u|u;{omega};{exact u.2}
    by_cases ae:x.h=(h:Int);{rw [AL ae];refine ih _ _ _ Q J ⟨λk ab=> ?_,λy o A=> ?_,?_⟩;{rcases BJ k h with u|u;{obtain ⟨y,a,b⟩:=H.all k u;exact ⟨y,GK _ a,b⟩};{exact ⟨x,by simp,aa,by omega⟩}};{rcases BN.1 o with o|o;{have:=af y o A;omega};{rw [BB] at o;subst o;omega}};{rcases H.most with ⟨u,ag⟩|⟨u,y,o,A,ah⟩;{refine .inl ⟨by dsimp only;omega,λy o A=> ?_⟩;rcases BN.1 o with o|o;{have:=ag y o A;dsimp only;omega};{rw [BB] at o;subst o;dsimp only;omega}};{have:=af y o A;exfalso;omega}}};{rw [AA ae];(have ai:(h:Int)<x.h:=by{rcases JY x.h (h:Int) with u|u|u;{obtain ⟨y,a,b,d⟩:=H.all x.h.toNat X;have:=af y a b;omega};{exact absurd u ae};{exact u}});refine ih _ _ _ Q J ⟨λk ab=> ?_,λy o A=> ?_,.inr ⟨?_,x,by simp,aa,?_⟩⟩;{obtain ⟨y,a,b⟩:=H.all k ab;exact ⟨y,GK _ a,b⟩};{rcases BN.1 o with o|o;{exact H.no y o A};{rw [BB] at o;subst o;exact ae}};{rcases H.most with ⟨u,_⟩|⟨u,_⟩<;>dsimp only<;>omega};{rcases H.most with ⟨u,_⟩|⟨u,y,o,A,ah⟩;{dsimp only;omega};{have:=af y o A;dsimp only;omega}}}
   {rw [AA aa];refine ih _ _ _ Q J ⟨λk ab=> ?_,λy o A=> ?_,?_⟩;{obtain ⟨y,a,b⟩:=H.all k ab;exact ⟨y,GK _ a,b⟩};{rcases BN.1 o with o|o;{exact H.no y o A};{rw [BB] at o;subst o;exact absurd A aa}};{rcases H.most with ⟨u,ag⟩|⟨u,y,o,A,ah⟩;{refine .inl ⟨u,λy o A=> ?_⟩;rcases BN.1 o with o|o;{exact ag y o A};{rw [BB] at o;subst o;exact absurd A aa}};{exact .inr ⟨u,y,GK _ o,A,ah⟩}}}
 exact key L [] 0 0 (U Q) (U J) ⟨λk ab=>absurd ab X,λx ad=>by simp at ad,.inl ⟨rfl,λx ad=>by simp at ad⟩⟩
theorem aC7 {L c} {k:Nat} {x} (u:x∈L) (o:x.c=c) (r:x.h=(k:Int)):(dE L c k).isSome=true:=by
 unfold dE;rw [List.find?_isSome];exact ⟨x,u,by simp [o,r]⟩
theorem aCT {L c h} (o:∀x∈L,x.c=c->x.h≠h):(dE L c h).isNone=true:=by
 unfold dE;rw [Option.isNone_iff_eq_none,ES];intro x r e;simp only [BM,beq_iff_eq] at e;exact o x r e.1 e.2
theorem aBT {L c} (ab:kX L) (u:∀x∈L,small x):(4<=(mF c L (0,0)).1↔4<=fP L c)/\(fP L c<4->(mF c L (0,0)).2=fP L c):=by
 have H:=aA0 c L ab (λx o=>(u x o).2.2.1);generalize (mF c L (0,0)).1=m at*;generalize (mF c L (0,0)).2=h at*;have J:h<=4:=by{rcases BJ 4 h with r|r;{obtain ⟨x,o,_,e⟩:=H.all 4 r;have:=(u x o).2.2.2;omega};{exact r}}
 have Q:=Wx J (λk aa=>by
  obtain ⟨x,o,A,B⟩:=H.all k aa;exact aC7 o A B) (λ_=>aCT H.no)
 rw [Q];refine ⟨?_,λ_=>rfl⟩;rcases H.most with ⟨r,_⟩|⟨r,x,o,_,ad⟩;{rw [r]};{have:=(u x o).2.2.2;omega}
def nO (c:Int) (h:Nat) (y:Tok):Bool:=decide (c<y.c)||decide (y.c=c)&&decide ((h:Int)<y.h)
theorem Tf {L c i wr} (B:∀x∈L,x.c=c->x.h≠(fP L c:Int)):
  L.takeWhile (λx=>decide (0<kJ ⟨c,fP L c,i,wr⟩ x))++⟨c,fP L c,i,wr⟩::L.dropWhile (λx=>decide (0<kJ ⟨c,fP L c,i,wr⟩ x))=iG (nO c (fP L c)) ⟨c,fP L c,i,wr⟩ L:=by
 generalize fP L c=h at*;(induction L with|nil=>rfl|cons y r ih=>have aa:=B y BK;(have e:nO c h y= !decide (0<kJ ⟨c,h,i,wr⟩ y):=by{unfold nO kJ;dsimp only;by_cases A:c=y.c;{subst A;have:=aa rfl;rw [AL rfl];simp only [DY,decide_false,Bool.false_or,decide_true,Bool.true_and];by_cases u:(h:Int)<y.h;{(have o:¬(0<(h:Int) - y.h):=X);rw [BO u,BF o];rfl};{(have o:0<(h:Int) - y.h:=X);rw [BF u,BO o];rfl}};{rw [AA A];have J:¬y.c=c:=λe=>A e.symm;simp only [J,decide_false,Bool.false_and,Bool.or_false];by_cases u:c<y.c;{(have o:¬(0<c - y.c):=X);rw [BO u,BF o];rfl};{(have o:0<c - y.c:=X);rw [BF u,BO o];rfl}}});rw [List.takeWhile_cons,List.dropWhile_cons];unfold iG;rw [e];(cases hd:decide (0<kJ ⟨c,h,i,wr⟩ y) with|true=>simp only [IK,Bool.not_true,DC,FP];rw [<-ih (λx Q=>B x (BH _ Q))];rfl|false=>simp))
theorem kX.ins {L} (J:kX L) {x} {h:Nat} (ae:x.h=(h:Int)) (B:∀y∈L,y.c=x.c->y.h≠(h:Int)):kX (iG (nO x.c h) x L):=by
 unfold kX at*;(induction L with|nil=>exact List.pairwise_singleton _ _|cons y r ih=>obtain ⟨A,Q⟩:=DX.1 J;unfold iG;split;{rename_i u;(have aa:vN x y:=by{unfold nO at u;simp only [JA,BR,BM] at u;unfold vN;omega});refine DX.2 ⟨λz o=> ?_,J⟩;rcases CE.1 o with rfl|o;{exact aa};{have:=A z o;unfold vN at*;omega}};{rename_i u;have ab:=B y BK;(have ad:vN y x:=by{unfold nO at u;simp only [JA,BR,BM,not_or,not_and] at u;unfold vN;by_cases e:y.c=x.c;{have:=u.2 e;have:=ab e;omega};{omega}});refine DX.2 ⟨λz o=> ?_,ih Q (λz o=>B z (BH _ o))⟩;rcases (Hq _ _ _ _).1 o with rfl|o;{exact ad};{exact A z o}})
theorem kX.turn {S S' o aa B} (h:kX S.K) (t:rQ S o aa B S'):kX S'.K:=by
 (cases t with|same=>exact h|boot=>exact h|swap=>exact h|moved=>exact h|asked kd bs D hm hk ha hd=>(have r:kX (dL S o.c.toNat kd).K:=by{unfold dL;split;{exact List.Pairwise.filter _ h};{exact h}});(cases hd with|same=>exact r|make=>unfold lI;split<;>exact r|remove=>unfold kY;split<;>exact r|move=>exact r|commit x _ A _ _ _=>show kX (kM o.cl (dL S o.c.toNat kd).K x);unfold kM;split;{exact List.Pairwise.filter _ r};{exact r}|opens _ h1 h2 h3=>generalize (lookOf (dL S o.c.toNat kd).T o.path).2.1=i at*;show kX (eU (dL S o.c.toNat kd).K o.c i o.wr).2.2;generalize (dL S o.c.toNat kd).K=L at*;unfold eU;split;{exact r};{rename_i a1;split;{exact r};{have Q:=O9 (L:=L) (c:=o.c) X;have u:∀x∈L,x.c=o.c->x.h≠(fP L o.c:Int):=λx A e J=>Q x A ⟨e,J⟩;rw [Tf u];exact r.ins (x:=⟨o.c,fP L o.c,i,o.wr⟩) rfl u}}))
theorem Tryz.Ij:(prog.info? 329).map (·.size)=some 4:=by kernel_rfl
theorem oL:iU cZ 4 329 234:=⟨underlying234,by
 obtain ⟨i,r,u,A,B⟩:=EL (show (prog.info? 329).map (λi=>(i.zero,i.size,i.bytes))=some (some (.agg #[Z 0,Z 0,Z 0,false]),4,32) by kernel_rfl);exact ⟨i,_,r,u,A,rfl,by omega⟩,by decide,λ_=>rfl,λx J o=>by
  simp [cZ] at o;rcases o with rfl|rfl|rfl|rfl<;>rfl⟩
def tZ (w:World) (k:Nat) (L:List Tok):Prop:=∃v,w.heap[k]? =some (.cells #[v] 236 (0,0))/\aJ cZ 4 w v L
theorem tZ.no {w w' k L} (h:tZ w k L) (f:Fr No w w'):tZ w' k L:=by
 obtain ⟨v,o,r⟩:=h;exact ⟨v,f.aB o id,r.no f⟩
def uF (base:Nat) (w:World) (k:Nat) (L:List Tok):Prop:=∃v,w.heap[k]? =some (.cells #[v] 236 (0,0))/\aO cZ 4 329 w base v L
theorem uF.any {base w k L} (h:uF base w k L):tZ w k L:=by
 obtain ⟨v,o,r⟩:=h;exact ⟨v,o,r.any⟩
def vX (w:World) (k:Nat) (L':List Tok) (v:Value) (e:Ending) (w':World):Prop:=e=.returned v/\Fr (λj=>j=k) w w'/\uF w w' k L'
theorem aDF (k) (i:Int) (L w) (h:tZ w k L) (ao:L.length<=1000000):Calls prog 275 #[Y k,i] w (dQ (.bool (L.any λx=>x.i==i)) w):=by
 obtain ⟨v,B,aa⟩:=h;obtain ⟨base,cap,rfl,ab⟩:=aa.rd;have am:w.cell? (I k 0)=some (.slice base L.length cap):=by rw [aA B];rfl
 have af:=lH ab;have A:Hid (∀b:Bool,(b=true↔∃x∈L,(x.i==i)=true)->dQ (.bool (L.any λx=>x.i==i)) w (.returned (.bool b)) w):=λb e=>by
  rw [show (L.any λx=>x.i==i)=b by rw [MI,e,List.any_eq_true]];exact dQ.mk
 generalize dQ (.bool (L.any λx=>x.i==i)) w=al at*;clear B aa ab;go_enter func275,ntmps275;go_wp2_with fail;go_loopw [5] (λa wr=>∃j:Nat,a=Z j/\j<=L.length/\Hid (∀y∈L.take j,(y.i==i)=false)/\wr=w) (λa _=>L.length - (intOf a).toNat);case atStart=>exact ⟨0,rfl,BA _,lH D,rfl⟩
 case round=>
  obtain ⟨j,rfl,an,u,rfl⟩:=hrel;by_cases o:j<L.length;{obtain ⟨b,off,rfl,J⟩:=af.o.at_ j o;have aj:(j:Int)<(L.length:Int):=X;have ah:=J 2 _ rfl;have ag:=lH (AC o);have ad:=lH (BL o);generalize L[j]=y at*;obtain ⟨ap,aq,ak,ar⟩:=y;dsimp only at ah;clear J;(cases Q:(ak==i) with|true=>have r:=lH (A.o true ⟨λ_=>⟨_,ad,Q⟩,λ_=>rfl⟩);exact aC r.o|false=>{have ae:=lH (wH (p:=λy:Tok=>y.i==i) ag Q u);go_wp2_with fail;go_roundw;{exact ⟨j+1,by go_num,o,ae,by trivial⟩};simp [intOf];omega})}
  ·(obtain rfl:j=L.length:=by omega);have aj:¬(L.length:Int)<(L.length:Int):=X
   have r:=lH (A.o false ⟨λh=>(by cases h),λ⟨x,ai,e⟩=>by
    have:=u.o x (by rw [AY];exact ai);rw [this] at e;exact e⟩)
   exact aC r.o
theorem of_none {L c h} (o:∀y∈L,(y.c==c&&y.h==h)=false):dE L c h=none:=by
 unfold dE;exact ES.2 (λy r=>by rw [o y r];decide)
theorem Wq:∀(a:Array Value) (w:World) (b:Nat) (cs:Array Value) (o:Nat×Nat) (x:Value),a.getD 6 undef=Y b->a.getD 7 undef=x->w.heap[b]? =some (.cells cs 329 o)->cs.size=4->(results Tryz.f282 a).run prog w=.ok (.tuple #[.agg cs,x]) w:=by
 intro a w b cs o x aa u J B;have Q:=NK (P:=prog) w b 329 329 cs o _ J underlying329 rfl (by rw [Tryz.Ij,B]);have r:a[6]?.getD undef=Y b:=by simpa using aa
 have A:a[7]?.getD undef=x:=by simpa using u
 simp [results,results282,asAddr,r,A,Q]
theorem Jp (k) (c h:Int) (L w) (aw:tZ w k L) (bf:L.length<=1000000):Calls prog 282 #[Y k,c,h] w (qI w (dE L c h)):=by
 obtain ⟨v,ak,ao⟩:=aw;obtain ⟨base,cap,rfl,ap⟩:=ao.rd;(have ai:Hid (∀x w',dE L c h=x->Fr No w w'->qI w (dE L c h) (.returned (.tuple #[kK (x.getD fU),x.isSome])) w'):=λx w' e f=>by rw [e];exact ⟨rfl,f⟩);generalize qI w _=bc at*;have au:=lH ak;have ar:=lH ap;have aj:Fr No w (w.alloc (.cells #[Z 0,Z 0,Z 0,false] 329)):=(Fr.refl w).alloc _;have J:=lH (aQ w (.cells #[Z 0,Z 0,Z 0,false] 329));have A:=lH aj;clear ak ao ap aj;go_enter func282,ntmps282;go_wp2_with fail;generalize ay:w.alloc _=w0 at*;clear ay;go_loopw [8] (λa wr=>∃j:Nat,a=Z j/\j<=L.length/\Hid (∀y∈L.take j,(y.c==c&&y.h==h)=false)/\wr=w0) (λa _=>L.length - (intOf a).toNat);(case atStart=>exact ⟨0,rfl,BA _,lH D,rfl⟩);(case round=>obtain ⟨j,rfl,be,B,rfl⟩:=hrel;(have bd:wr.cell? (I k 0)=some (.slice base L.length cap):=by rw [aA (A.o.aB au.o id)];rfl);by_cases Q:j<L.length;{obtain ⟨b,off,rfl,al⟩:=ar.o.at_ j Q;have az:(j:Int)<(L.length:Int):=X;have o:Hid (wr.rangeAt b (off+j*4) (cZ L[j])):=λi bb ax=>A.o.cell_of (al i bb ax) id;have e0:=o.o 0 _ rfl;have av:=o.o 1 _ rfl;have af:=lH (AC Q);generalize L[j]=y at*;obtain ⟨r,u,aa,ab⟩:=y;unfold cZ at o;dsimp only [Nat.add_zero] at e0 av o;clear al;(cases am:(r==c) with|true=>(cases an:(u==h) with|true=>have ae:=lH (Ah af.o (by simp [am,an]) B);have aq:=lH (show (#[r,u,aa,ab]:Array Value).all (·.oneCell')=true from by simp [Value.oneCell']);go_wp2_with (first|(refine wL 329 o ?_)|(refine wS 329 J ?_));have ah:=aX (cs':= #[r,u,aa,ab]) J.o;have ag:Fr No w (wr.setRow w #[r,u,aa,ab]):=Fr.setRow A (.inr (AU _)) _;exact AZ (Wq _ _ w _ (0,0) (.bool true) rfl rfl ah rfl) rfl (ai.o (some ⟨r,u,aa,ab⟩) _ ae ag)|false=>{have ad:=lH (wH (p:=λy:Tok=>y.c==c&&y.h==h) af (by simp [an]) B);go_wp2_with fail;go_roundw;{exact ⟨j+1,by go_num,Q,ad,by trivial⟩};simp [intOf];omega})|false=>{have ad:=lH (wH (p:=λy:Tok=>y.c==c&&y.h==h) af (by simp [am]) B);go_wp2_with fail;go_roundw;{exact ⟨j+1,by go_num,Q,ad,by trivial⟩};simp [intOf];omega})};{(obtain rfl:j=L.length:=by omega);have az:¬(L.length:Int)<(L.length:Int):=X;have ae:Hid (dE L c h=none):=of_none (by have:=B.o;rwa [AY] at this);have aq:=lH (show (#[Z 0,Z 0,Z 0,false]:Array Value).all (·.oneCell')=true from by simp [Value.oneCell']);go_wp2_with (refine wS 329 J ?_);have ah:=aX (cs':= #[Z 0,Z 0,Z 0,false]) J.o;have ag:Fr No w (wr.setRow w #[Z 0,Z 0,Z 0,false]):=Fr.setRow A (.inr (AU _)) _;exact AZ (Wq _ _ w _ (0,0) (.bool false) rfl rfl ah rfl) rfl (ai.o none _ ae ag)})
theorem aEa (k) (c:Int) (L w) (ax:tZ w k L) (bn:L.length<=1000000):Calls prog 223 #[Y k,c] w λe w'=>∃v,vX w k (L.filter λx=> !(x.c==c)) v e w':=by
 obtain ⟨v,af,ak⟩:=ax;obtain ⟨base,cap,rfl,al⟩:=ak.rd;have ar:Hid (∀v w',Fr (λj=>j=k) w w'->uF w w' k (L.filter λx=> !(x.c==c))->(λe w'=>∃v,vX w k (L.filter λx=> !(x.c==c)) v e w') (.returned v) w'):=λv w' f h=>⟨v,rfl,f,h⟩;generalize (λe w'=>∃v,vX w k (L.filter λx=> !(x.c==c)) v e w')=bf at*;have ad:=lH af;have au:=lH al;clear af ak al;go_enter func223,ntmps223;go_wp2_with fail;go_loopw [5,6] (λv a wr=>∃(j:Nat) (M:List Tok),a=Z j/\j<=L.length/\Hid (M=(L.take j).filter λx=> !(x.c==c))/\M.length<=j/\Hid (Own cZ 4 329 wr w v M)/\Hid (Fr No w wr)) (λ_ a _=>L.length - (intOf a).toNat);(case atStart=>exact ⟨0, [],rfl,BA _,lH D,by simp,lH Own.nil,lH (Fr.refl _)⟩);(case round=>obtain ⟨j,M,rfl,bm,A,bl,B,o⟩:=hrel;obtain ⟨a,bi,rfl⟩:=B.o.shape;have Q:=o.o.aB ad id;have av:=lH Q;(have bg:wr.cell? (I k 0)=some (.slice base L.length cap):=by rw [aA Q];rfl);have bj:=aU Q 0;clear Q;by_cases u:j<L.length;{obtain ⟨b,off,rfl,ag⟩:=au.o.at_ j u;have bd:(j:Int)<(L.length:Int):=X;have bo:(0:Int)<=(j:Int):=X;have J:Hid (wr.rangeAt b (off+j*4) (cZ L[j])):=λi be ay=>o.o.cell_of (ag i be ay) id;have e0:=J.o 0 _ rfl;have ae:Hid ((!(L[j].c==c))=true->M++ [L[j]]=(L.take (j+1)).filter λx=> !(x.c==c)):=λe=>Du u A e;have ab:Hid ((!(L[j].c==c))=false->M=(L.take (j+1)).filter λx=> !(x.c==c)):=λe=>Gg u A e;generalize L[j]=y at*;obtain ⟨aa,am,an,ao⟩:=y;unfold cZ at J;dsimp only [Nat.add_zero] at e0 J ae ab;clear ag A;(cases aj:(aa==c) with|true=>{have r:=lH (ab.o (by rw [aj];rfl));go_wp2_with fail;go_roundw;{exact ⟨j+1,M,by go_num,u,r,by omega,B,o⟩};simp [intOf];omega}|false=>{have r:=lH (ae.o (by rw [aj];rfl));go_wp2_with (first|(refine wL 329 J ?_)|(at_builtin;(refine gB oL R _ _ R w _ M (⟨aa,am,an,ao⟩:Tok) R (B.o.alloc _) wr R (0,0) _ (AQ wr _) R (by first|omega|(simp only [AB,AO];omega)) w (o.o.alloc _) R ?_)));intro bk bh bp ai ah;have aq:=lH ai;have ap:=lH ah;clear ai ah;go_wp2_with fail;go_roundw;{exact ⟨j+1,M++ [(⟨aa,am,an,ao⟩:Tok)],by go_num,u,r,by simp only [AB,AO];omega,aq,ap⟩};simp [intOf];omega})};{(obtain rfl:j=L.length:=by omega);have bd:¬(L.length:Int)<(L.length:Int):=X;have r:Hid (M=L.filter λx=> !(x.c==c)):=lH (by have:=A.o;rwa [AY] at this);have aw:=lt_of_block ad.o;go_wp2_with fail;obtain ⟨az,bb,bc⟩:=tH (B.o.new oL) av aw;exact ar.o _ _ (o.o.aY.trans bc zq) ⟨_,az,by rw [<-r.o];exact bb⟩})
theorem aBV (k c h L w) (ao:tZ w k L) (bl:L.length<=1000000) (az:(dE L c h).isSome=true):Calls prog 310 #[Y k,c,h] w (vX w k (L.filter λx=> !(x.c==c&&x.h==h)) (Z 0)):=by
 have Q:=lH (Jp k c h L w ao bl);obtain ⟨x,bb⟩:=EK.1 az;unfold qI at Q;rw [bb] at Q;dsimp only [Option.getD_some,Option.isSome_some] at Q;unfold kK at Q;have bd:=lH ao;have be:Hid (∀w',Fr (λj=>j=k) w w'->uF w w' k (L.filter λx=> !(x.c==c&&x.h==h))->vX w k (L.filter λx=> !(x.c==c&&x.h==h)) (Z 0) (.returned (Z 0)) w'):=λw' f h=>⟨rfl,f,h⟩;generalize vX w k (L.filter λx=> !(x.c==c&&x.h==h)) (Z 0)=bw at*;clear ao az bb;go_enter func310,ntmps310;go_wp2_with fail;refine Q.o.mono ?_;rintro e bc ⟨rfl,au⟩;go_wp2_with fail;have an:Fr No w (bc.alloc (.cells (cT x) 329)):=au.alloc _;generalize bo:bc.alloc _=w0 at*;clear bo;obtain ⟨v,av,ax⟩:=bd.o.no an;obtain ⟨base,cap,rfl,ay⟩:=ax.rd;have ar:=lH av;have bf:=lH ay;have ap:=lH an;clear av ax ay au an;go_loopw [9,10] (λv a wr=>∃(j:Nat) (M:List Tok),a=Z j/\j<=L.length/\Hid (M=(L.take j).filter λx=> !(x.c==c&&x.h==h))/\M.length<=j/\Hid (Own cZ 4 329 wr w0 v M)/\Hid (Fr No w0 wr)) (λ_ a _=>L.length - (intOf a).toNat);(case atStart=>exact ⟨0, [],rfl,BA _,lH D,by simp,lH Own.nil,lH (Fr.refl _)⟩);(case round=>obtain ⟨j,M,rfl,cc,af,cb,aa,A⟩:=hrel;obtain ⟨a,bz,rfl⟩:=aa.o.shape;have ah:=A.o.aB ar id;have bg:=lH ah;(have bx:wr.cell? (I k 0)=some (.slice base L.length cap):=by rw [aA ah];rfl);have ca:=aU ah 0;clear ah;by_cases J:j<L.length;{obtain ⟨b,off,rfl,aw⟩:=bf.o.at_ j J;have bt:(j:Int)<(L.length:Int):=X;have cd:(0:Int)<=(j:Int):=X;have B:Hid (wr.rangeAt b (off+j*4) (cZ L[j])):=λi bu bn=>A.o.cell_of (aw i bu bn) id;have e0:=B.o 0 _ rfl;have bi:=B.o 1 _ rfl;have am:Hid ((!(L[j].c==c&&L[j].h==h))=true->M++ [L[j]]=(L.take (j+1)).filter λx=> !(x.c==c&&x.h==h)):=λe=>Du J af e;have aq:Hid ((!(L[j].c==c&&L[j].h==h))=false->M=(L.take (j+1)).filter λx=> !(x.c==c&&x.h==h)):=λe=>Gg J af e;generalize L[j]=y at*;obtain ⟨o,u,ai,aj⟩:=y;unfold cZ at B;dsimp only [Nat.add_zero] at e0 bi B am aq;clear aw af;(cases ae:(o==c) with|true=>(cases ag:(u==h) with|true=>{have r:=lH (aq.o (by rw [ae,ag];rfl));obtain rfl:o=c:=(U ae);obtain rfl:u=h:=(U ag);go_wp2_with fail;go_roundw;{exact ⟨j+1,M,by go_num,J,r,by omega,aa,A⟩};simp [intOf];omega}|false=>{have r:=lH (am.o (by rw [ag];simp));obtain rfl:o=c:=(U ae);have bm:¬u=h:=(U ag);go_wp2_with (first|(refine wL 329 B ?_)|(at_builtin;(refine gB oL R _ _ R w0 _ M (⟨o,u,ai,aj⟩:Tok) R (aa.o.alloc _) wr R (0,0) _ (AQ wr _) R (by first|omega|(simp only [AB,AO];omega)) w0 (A.o.alloc _) R ?_)));intro bj bh bv ad ab;have al:=lH ad;have ak:=lH ab;clear ad ab;go_wp2_with fail;go_roundw;{exact ⟨j+1,M++ [(⟨o,u,ai,aj⟩:Tok)],by go_num,J,r,by simp only [AB,AO];omega,al,ak⟩};simp [intOf];omega})|false=>{have r:=lH (am.o (by rw [ae];rfl));have bm:¬o=c:=(U ae);go_wp2_with (first|(refine wL 329 B ?_)|(at_builtin;(refine gB oL R _ _ R w0 _ M (⟨o,u,ai,aj⟩:Tok) R (aa.o.alloc _) wr R (0,0) _ (AQ wr _) R (by first|omega|(simp only [AB,AO];omega)) w0 (A.o.alloc _) R ?_)));intro bj bh bv ad ab;have al:=lH ad;have ak:=lH ab;clear ad ab;go_wp2_with fail;go_roundw;{exact ⟨j+1,M++ [(⟨o,u,ai,aj⟩:Tok)],by go_num,J,r,by simp only [AB,AO];omega,al,ak⟩};simp [intOf];omega})};{(obtain rfl:j=L.length:=by omega);have bt:¬(L.length:Int)<(L.length:Int):=X;have r:Hid (M=L.filter λx=> !(x.c==c&&x.h==h)):=lH (by have:=af.o;rwa [AY] at this);have bk:=lt_of_block ar.o;go_wp2_with fail;obtain ⟨bp,bq,br⟩:=tH (aa.o.new oL) bg bk;exact be.o _ ((ap.o.trans A zq).aY.trans br zq) ⟨_,bp,by rw [<-r.o];exact bq.le ap.o.size⟩})
def jF (a b:Int):Int:=if a<b then -1 else if b<a then 1 else 0
def lF (x y:Stp):Int:=if jF x.1 y.1≠0 then jF x.1 y.1 else if jF x.2.1 y.2.1≠0 then jF x.2.1 y.2.1 else jF x.2.2 y.2.2
theorem Lj {a b}:jF a b<0↔a<b:=by unfold jF;split<;>(try split)<;>omega
theorem Ur {a b}:jF a b=0↔a=b:=by unfold jF;split<;>(try split)<;>omega
theorem vW (x y):lF x y<0↔(x.1<y.1\/x.1=y.1/\(x.2.1<y.2.1\/x.2.1=y.2.1/\x.2.2<y.2.2)):=by
 unfold lF;have o:= @Lj x.1 y.1;have r:= @Ur x.1 y.1;have u:= @Lj x.2.1 y.2.1;have A:= @Ur x.2.1 y.2.1;have B:= @Lj x.2.2 y.2.2;split;{omega};{split<;>omega}
theorem aCd:Go.Sort.SWO (ltOf lF) where
 irrefl x:=by
  show decide (lF x x<0)=false;rw [DV,vW];omega
 trans x y z o r:=by
  have o:decide (lF x y<0)=true:=o;have r:decide (lF y z<0)=true:=r;show decide (lF x z<0)=true;rw [BR,vW] at*;omega
 ntrans x y z o r:=by
  have o:decide (lF x y<0)=false:=o;have r:decide (lF y z<0)=false:=r;show decide (lF x z<0)=false;rw [DV,vW] at*;omega
theorem aBH (x y) (o:ltOf lF x y=false) (r:ltOf lF y x=false):x=y:=by
 have o:decide (lF x y<0)=false:=o;have r:decide (lF y x<0)=false:=r;rw [DV,vW] at*;obtain ⟨a,b,c⟩:=x;obtain ⟨u,A,B⟩:=y;simp only [II];dsimp only at o r;omega
theorem Xv (a:Int) (w):Calls prog 199 #[a] w λe w'=>e=.returned (.bool false)/\w'=w:=by
 go_enter func199,ntmps199;go_wp2_with fail;go_ret;exact ⟨by simp,rfl⟩
theorem Jf (a b:Int) (w):Calls prog 141 #[a,b] w λe w'=>e=.returned (Z (jF a b))/\w'=w:=by
 have r:=lH (Xv a w);have u:=lH (Xv b w);by_cases A:a<b;{have e:jF a b= -1:=AL A;rw [e];clear e;go_enter func141,ntmps141;go_wp2_with fail;refine cr r.o λJ o=> ?_;subst o;go_wp2_with fail;refine cr u.o λQ o=> ?_;subst o;go_wp2_with fail;go_ret;exact ⟨rfl,rfl⟩};{by_cases B:b<a;{have e:jF a b=1:=(AA A).trans (AL B);rw [e];clear e;go_enter func141,ntmps141;go_wp2_with fail;refine cr r.o λJ o=> ?_;subst o;go_wp2_with fail;refine cr u.o λQ o=> ?_;subst o;go_wp2_with fail;go_ret;exact ⟨rfl,rfl⟩};{have e:jF a b=0:=(AA A).trans (AA B);rw [e];clear e;go_enter func141,ntmps141;go_wp2_with fail;refine cr r.o λJ o=> ?_;subst o;go_wp2_with fail;refine cr u.o λQ o=> ?_;subst o;go_wp2_with fail;go_ret;exact ⟨rfl,rfl⟩}}
def wZ (x y z:Int):Int:=if x≠0 then x else if y≠0 then y else z
theorem aEB (b x y z) (w:World) (A:w.cell? (I b 0)=some (Z x)) (c1:w.cell? (I b 1)=some (Z y)) (c2:w.cell? (I b 2)=some (Z z)):
  Calls prog 140 #[O b 3 3] w λe w'=>e=.returned (Z (wZ x y z))/\w'=w:=by
 by_cases o:x=0;{subst o;by_cases r:y=0;{subst r;have e:wZ 0 0 z=z:=(by simp [wZ]);rw [e];clear e;by_cases u:z=0;{subst u;go_enter func140,ntmps140;go_wp2_with fail;refine IW 4 ?_;rw [GM];go_wp2_with fail;rw [GM];go_wp2_with fail;rw [GM];go_wp2_with fail;rw [GM];go_wp2_with fail;go_ret;exact ⟨rfl,rfl⟩};{(have q:(z !=0)=true:=by simpa using u);clear u;go_enter func140,ntmps140;go_wp2_with fail;refine IW 4 ?_;rw [GM];go_wp2_with fail;rw [GM];go_wp2_with fail;rw [GM];go_wp2_with fail;go_ret;exact ⟨rfl,rfl⟩}};{(have e:wZ 0 y z=y:=by simp [wZ,r]);have q:(y !=0)=true:=(U r);rw [e];clear e r;go_enter func140,ntmps140;go_wp2_with fail;refine IW 4 ?_;rw [GM];go_wp2_with fail;rw [GM];go_wp2_with fail;go_ret;exact ⟨rfl,rfl⟩}};{(have e:wZ x y z=x:=by simp [wZ,o]);(have q:(x !=0)=true:=by simpa using o);rw [e];clear e o;go_enter func140,ntmps140;go_wp2_with fail;refine IW 4 ?_;rw [GM];go_wp2_with fail;go_ret;exact ⟨rfl,rfl⟩}
theorem aFB (x y):wZ (jF x.1 y.1) (jF x.2.1 y.2.1) (jF x.2.2 y.2.2)=lF x y:=rfl
theorem aFY (x y w):Calls prog 77 #[kS x,kS y] w λe w'=>e=.returned (Z (lF x y))/\w'=(((w.alloc (.cells (cS x) 46)).alloc (.cells (cS y) 46)).alloc (.cells #[Z (jF x.1 y.1),Z (jF x.2.1 y.2.1),Z (jF x.2.2 y.2.2)] 3)).drew:=by
 (have am:prog.follows .mixedOrders=true:=N);have ag:Fr No (w.alloc (.cells (cS x) 46)) ((w.alloc (.cells (cS x) 46)).alloc (.cells (cS y) 46)):=(Fr.refl _).alloc _;have ae:=ag.aB (aQ w (.cells (cS x) 46)) id;have A:=aQ (w.alloc (.cells (cS x) 46)) (.cells (cS y) 46);rw [show (w.alloc (.cells (cS x) 46)).heap.size=w.heap.size+1 by simp] at A;rw [<-aFB];obtain ⟨B,J,Q⟩:=x;obtain ⟨aa,ab,ad⟩:=y;unfold kS;dsimp only at ae A ⊢;clear ag;go_enter func77,ntmps77;go_wp2_with fail;generalize ah:(w.alloc (.cells #[B,J,Q] 46)).alloc (.cells #[aa,ab,ad] 46)=o at*;have aj:=lH ah;clear ah;generalize w.heap.size=u at*;(have a0:o.cell? (I u 0)=some (Z B):=by rw [aA ae];rfl);(have a1:o.cell? (I u 1)=some (Z J):=by rw [aA ae];rfl);(have a2:o.cell? (I u 2)=some (Z Q):=by rw [aA ae];rfl);(have an:o.cell? (I (u+1) 0)=some (Z aa):=by rw [aA A];rfl);(have ao:o.cell? (I (u+1) 1)=some (Z ab):=by rw [aA A];rfl);have ap:o.cell? (I (u+1) 2)=some (Z ad):=by rw [aA A];rfl
 clear ae A;refine qC am (λW=>W=o.drew) [15,16,17] N N N N (λ_ _ d _ _ h=>by cases d<;>exact h) rfl ?_;repeat (first
  | refine lJ R ?_
  | (refine kW (v:= ?_) R R ?_ ?_
     rotate_left 1;(intro W;go_simp;(try with_reducible rfl))
     simp only [pT,aI,lsS])
  | (refine pW (v:=Z (jF B aa)) 141 #[B,aa] R N R ?_ (λw' r=>(Jf _ _ _).mono (λe ai h=>⟨h.1,h.2.trans r⟩)) ?_
     focus (intro W;go_simp;done)
     simp only [pT,aI,lsS])
  | (refine pW (v:=Z (jF J ab)) 141 #[J,ab] R N R ?_ (λw' r=>(Jf _ _ _).mono (λe ai h=>⟨h.1,h.2.trans r⟩)) ?_
     focus (intro W;go_simp;done)
     simp only [pT,aI,lsS])
  | (refine pW (v:=Z (jF Q ad)) 141 #[Q,ad] R N R ?_ (λw' r=>(Jf _ _ _).mono (λe ai h=>⟨h.1,h.2.trans r⟩)) ?_
     focus (intro W;go_simp;done)
     simp only [pT,aI,lsS])
  | (refine kE (v:= ?_) R N R ?_ ?_
     rotate_left 1;(intro W r;have ak:W=o.drew:=r;subst ak;go_simp;(try with_reducible rfl))
     simp only [pT,aI,lsS]))
 intro W r;obtain rfl:W=o.drew:=r;simp only [DF,DT,DK,CP];go_wp2_with fail;have af:=aQ o (.cells #[Z (jF B aa),Z (jF J ab),Z (jF Q ad)] 3);refine (aEB _ (jF B aa) (jF J ab) (jF Q ad) _ ((Fr.refl (S:=No) _).drew.cell_of (by rw [aA af];rfl) id) ((Fr.refl (S:=No) _).drew.cell_of (by rw [aA af];rfl) id) ((Fr.refl (S:=No) _).drew.cell_of (by rw [aA af];rfl) id)).mono ?_;rintro e aq ⟨rfl,al⟩;subst al;go_wp2_with fail;go_ret;exact ⟨rfl,by rw [aj.o]⟩
def nN (U:Stp->Option Us) (x:Stp):List Value:= [x.1,x.2.1,x.2.2,.int .i64 ((U x).getD (0,0,0)).1,.int .i64 ((U x).getD (0,0,0)).2.1,.int .i64 ((U x).getD (0,0,0)).2.2]
theorem aAx (x y) (ab J u ad Q A:Int) (W):Calls prog 76 #[.agg #[x.1,x.2.1,x.2.2,ab,J,u],.agg #[y.1,y.2.1,y.2.2,ad,Q,A]] W λe w'=>e=.returned (Z (lF x y))/\∃q aa,w'=Go.Sort.grow (W.drewN q) aa:=by
 have o:=λr=>aFY x y r;unfold kS at o;go_enter func76,ntmps76;go_wp2_with (go_at_call 77;refine (o _).mono ?_;rintro e w' ⟨rfl,B⟩;subst B);go_ret
 exact ⟨rfl,1,_,by
  simp only [Go.Sort.alloc_eq_grow,Go.Sort.grow_grow];rfl⟩
open Go.Sort Go.Shelf
theorem Zw {α:Type} [Inhabited α] (c n) (r:∀x,(c x).length=n) (J:0<n) (ss:List α):flatK c n ss.toArray=(ss.flatMap c).toArray:=by
 have ad:=mO r ss;apply ext_get!;{rw [size_flatK];simp [ad]};{intro t o;rw [size_flatK] at o;rw [get_flatK _ _ _ _ o];(have u:t / n<ss.length:=by{rw [MP] at o;exact (JK J).2 o});have aa:t % n<n:=Nat.mod_lt _ J;have ab:=AC u;have A:(c ss[t / n])[t % n]? =some ((c ss[t / n])[t % n]'(by rw [r];exact aa)):=AC _;have B:=flat_get r ss (t / n) _ ab (t % n) _ A;rw [show t / n*n+t % n=t by rw [LK];exact Nat.div_add_mod t n] at B;(have Q:ss.toArray[t / n]! =ss[t / n]:=by simp [u]);rw [Q];rw [show ((ss.flatMap c).toArray)[t]! =((ss.flatMap c)[t]?).getD default by simp,B];rw [Option.getD_some,JX,A];rfl}
theorem aCY {α:Type} [Inhabited α] {c n} (u:∀x,(c x).length=n) (aa:0<n) {t w g} {ss:List α} {o} (A:w.heap[g]? =some (.cells o t (0,0))) (ab:o.toList.take (ss.length*n)=ss.flatMap c):HoldsK c n w g 0 ss.toArray:=by
 intro j B;rw [size_flatK] at B;have J:j<ss.length*n:=by simpa using B
 refine ⟨?_,by simp [World.frozen?,A]⟩;rw [Zw c n u aa];have Q:=mO u ss;have r:(o.toList.take (ss.length*n))[j]? =(ss.flatMap c)[j]? :=by rw [ab]
 rw [IQ J] at r;simp only [World.cell?,A,BP];simp only [Option.isSome_none,DC,FP];rw [<-CS,r];rw [AC X];simp [Q,J]
def oM (x y:Stp):Bool:= !(ltOf lF y x)
theorem Xu (U x):(nN U x).length=6:=rfl
theorem aF7 (U x):∀v∈nN U x,v.oneCell'=true:=λv o=>by
 simp only [nN,CE,List.not_mem_nil,or_false] at o;rcases o with rfl|rfl|rfl|rfl|rfl|rfl<;>rfl
theorem aFu (U) (ss:List Stp) (base v w) (h:w.ownsRow base 80 6 v ss.length (ss.flatMap (nN U))) (aq:ss.length<10000000):
  Calls prog 75 #[v,.func (.func 76) #[] #[]] w λe w'=>e=.returned (.tuple #[])/\Fr (λk=>base<=k) w w'/\aO (nN U) 6 80 w' base v (ss.mergeSort oM):=by
 rcases h.2 with ⟨rfl,af⟩|⟨g,cap,an,rfl,Q,r,ag,ah,ap,ai⟩;{have al:=CU af;subst al;have o:=AnyF.slices_SortFunc_none (P:=prog) (ρ:=Tryz.O4) {Tryz.Uu with} none 0 (.func (.func 76) #[] #[]) w;change Calls prog 75 _ _ _ at o;refine cr o ?_;rintro w' rfl;exact ⟨rfl,Fr.refl _,.inl ⟨rfl,by simp⟩⟩}
 ·have J:=aCY (Xu U) X r ai;have ae:=enters_of func76 N rfl;have o:=AnyQ.slices_SortFunc_total Tryz.Uu 6 isAgg80 sizeOf80 (nN U) (Xu U) (λx v am=>aF7 U x v am) lF aCd 76 #[] g 0 cap ss.toArray w ae
   (λm os ao _ x y=>aAx x y _ _ _ _ _ _ _) J (lt_of_block r) (by simp;omega) aBH
  change Calls prog 75 _ _ _ at o;rw [show ss.toArray.size=ss.length by simp,show ss.toArray.toList=ss by simp] at o;refine cr o ?_;rintro w' ⟨n,os,rfl⟩;have B:(ss.mergeSort oM).length=ss.length:=List.length_mergeSort _;(have aj:HoldsK (nN U) 6 (sortWorldK (nN U) 6 w g 0 n (ss.mergeSort oM).toArray os) g 0 (ss.mergeSort oM).toArray:=by{unfold sortWorldK;refine holdsK_grow _ _ _ _ _ _ _ ?_ (holdsK_putRowK _ _ _ _ _ _ _ (holdsK_ahead _ _ _ n _ _ _ J) (by simp [B]));unfold putRowK;simpa [Go.Sort.ahead] using lt_of_block r});refine ⟨rfl,(Dn _).mono (λk _ e=>by rw [e];exact Q),.inr ⟨g,cap,by rw [B],ah,Q,⟨⟨_,Xd _ r,?_⟩,by rw [B];exact ag,λj x u i ar ab=> ?_⟩⟩⟩;{simp only [Go.Sort.putCells,Array.size_mapIdx];omega};{have A:=(AX.1 u).1;have ak:=(AX.1 ab).1;have aa:=(aj.cell (i:=j) (c:=i) (by simpa using A) ak).1;rw [BP] at aa;refine aa.trans ?_;(have ad:(ss.mergeSort oM).toArray[j]! =x:=by{rw [AC A] at u;cases u;exact (getElem!_pos (ss.mergeSort oM).toArray j (by simpa using A)).trans rfl});rw [ad,JX,ab];rfl}
def Kz (w:World) (U:Stp->Option Us) (e:Ending) (w':World):Prop:=
 ∃v ss,e=.returned v/\aO (nN U) 6 80 w' w v ss/\ss.Nodup/\(∀x,x∈ss↔(U x).isSome=true)/\ss.Pairwise (λx y=>oM x y=true)/\Fr No w w'
theorem Ia (x y):oM x y=true↔¬lF y x<0:=by
 show (!decide (lF y x<0))=true↔_;simp
theorem Zm (ss:List Stp):(ss.mergeSort oM).Pairwise (λx y=>oM x y=true):=
 NQ (λx y z o r=>by rw [Ia,vW] at*;omega) (λx y=>by
  rw [JA,Ia,Ia,vW,vW];omega) _
theorem Tryz.aDM:(prog.info? 80).map (λi=>(i.zero,i.size,i.bytes))=some (some (.agg #[Z 0,Z 0,Z 0,Z 0,Z 0,Z 0]),6,48):=by kernel_rfl
theorem aDE (aq K n L S w) (h:aV w aq K L S n) (dh:aF w aq) (ae:n<=1000000):
  Calls prog 30 #[.pointer (some (I L.s 0))] w (Kz w S.U):=by
 have ck:=lH (xN aq K n L S w h);have dt:w.cell? (I L.s 12)=some (.map (some L.us)):=h.cell 12;obtain ⟨_,ak,bh,af⟩:=h.uses;obtain ⟨ec,dz,ax,bc,bv⟩:=af.range (t:=129) (e:=80) underlying129;have eb:L.us<w.heap.size:=af.lt;have cv:=lH af;have cp:Hid (∀v w' ss,aO (nN S.U) 6 80 w' w v ss->ss.Nodup->(∀x,x∈ss↔(S.U x).isSome=true)->ss.Pairwise (λx y=>oM x y=true)->Fr No w w'->Kz w S.U (.returned v) w'):=λv w' ss A B aa dd f=>⟨v,ss,rfl,A,B,aa,dd,f⟩;generalize Kz w S.U=ds at*;generalize S.U=U at*;have db:=lH ax;have cc:=lH bc;have dw:ak<=1000000:=AV bh ae;obtain ⟨dn,bm,bz,ca,cb⟩:=EL Tryz.aDM;have ch:=lH bm;have cw:=lH bz;have cx:=lH ca;have cy:=lH cb;have ct:=lH bv;clear bm bz ca cb h dh af ax bc bv bh ae;go_enter func30,ntmps30;go_wp2_with fail;refine cr ck.o λr dm=> ?_;subst dm;go_wp2_with fail;go_loopw [3] (λv wr=>∃(ss:List Stp) (left:Stp->Bool) (ad:Nat),Hid (jJ xY wr L.us r ak (iI U) left ad)/\Hid (∀s:Stp,jM s->(left s=true↔(U s).isSome=true/\s ∉ ss))/\Hid (wr.ownsRow (r.heap.size+1) 80 6 v ss.length (ss.flatMap (nN U)))/\Hid ss.Nodup/\Hid (∀s∈ss,(U s).isSome=true)/\Hid (Fr No r wr)/\ad+ss.length<=ak/\r.heap.size+1<=wr.heap.size) (λ_ wr=>wr.rangeLeft L.us r);(case atStart=>refine ⟨[],_,_,db,lH (λs _=> ?_),lH ⟨rfl,.inl ⟨rfl,rfl⟩⟩,lH List.nodup_nil,lH D,cc,by simp,by have:=ct.o;omega⟩;unfold iI;cases U s<;>simp)
 case round=>
  obtain ⟨ss,left,ad,ai,ah,ab,aw,au,ar,dv,ea⟩:=hrel;obtain ⟨a,bb,rfl⟩:=ab.o.shape;rcases ai.o.next 0 with ⟨_,bq,an⟩|⟨x,y,u,dc,Q,bn,an,bt,bo,al,bw,bi⟩
  ·have bf:∀s,s∈ss↔(U s).isSome=true:=λs=>⟨au s,λh=>by
    obtain ⟨dp,dl⟩:=EK.1 h;have bl:=(cv.o.good (x:=s) (y:=(s,dp)) (by unfold iI;rw [dl];rfl)).1;apply BI;intro ae;have:=(ah.o s bl).2 ⟨h,ae⟩;rw [bq s bl] at this;cases this⟩
   have cg:=lH bf;clear bf bq;go_wp2_with fail;refine cr (aFu U ss (r.heap.size+1) _ wr ab X) ?_;rintro dq ⟨bd,bj⟩;have bk:=((ar.o.aY (S:=λk=>r.heap.size+1<=k)).trans bd (λj _ h=>h)).no (λj J h=>by omega);(have bu:aO (nN U) 6 80 dq r (.slice a ss.length bb) (ss.mergeSort oM):=by{rcases bj with h|⟨b,c,e,A,B,aa⟩;{exact .inl h};{exact .inr ⟨b,c,e,A,by omega,aa⟩}});have ce:=lH bk;have cf:=lH bu;clear bd bj bk bu;exact aC (cp.o _ _ _ cf ((NG ss oM).nodup_iff.2 aw) (λx=>(NG ss oM).mem_iff.trans (cg.o x)) (Zm ss) ce.o)
  ·obtain ⟨o,ap,rfl⟩:∃o,U x=some o/\y=(x,o):=by{unfold iI at Q;(cases h:U x with|none=>rw [h] at Q;cases Q|some o=>rw [h] at Q;cases Q;exact ⟨o,rfl,rfl⟩)}
   have dj:=(ai.o.map.good Q).1;obtain ⟨_,bp⟩:=(ah.o x dj).1 bn;have cd:=lH (ar.o.trans al (λj J e=>by omega));have aj:=lH (I7 ab al (λj J e=>by have:=zT ab j J;omega));have cz:=lH bt;have dy:=an;have dx:(Instr.entry (Y r)).run prog u=.ok (.tuple #[.agg (cS x),.agg #[x.1,x.2.1,x.2.2,o.1,o.2.1,o.2.2]]) u:=bi;have cj:Hid (wr.rangeLeft L.us r.heap.size=ad):=ai.o.left_eq;have av:=lH bo;have cl:Hid (∀s:Stp,jM s->((left s&&decide (s≠x))=true↔(U s).isSome=true/\s ∉ ss++ [x])):=λs ao=>by
    rw [BM,BR,ah.o s ao,BN,BB];constructor;{rintro ⟨⟨A,B⟩,aa⟩;exact ⟨A,λh=>h.elim B aa⟩};{rintro ⟨A,B⟩;exact ⟨⟨A,λh=>B (.inl h)⟩,λh=>B (.inr h)⟩}
   have cm:Hid (ss++ [x]).Nodup:=lH (by
    rw [List.nodup_append];exact ⟨aw,by simp,λa df b bg e=>by
     rw [BB] at bg;subst bg;subst e;exact bp df⟩)
   have ci:Hid (∀s∈ss++ [x],(U s).isSome=true):=λs ao=>by
    rcases BN.1 ao with h|h;{exact au.o s h};{rw [BB] at h;rw [h,ap];rfl}
   have cu:Hid (nN U x= [.int .i64 x.1,.int .i64 x.2.1,.int .i64 x.2.2,.int .i64 o.1,.int .i64 o.2.1,.int .i64 o.2.2]):=lH (by unfold nN;rw [ap];rfl);have bx:u.heap.size=wr.heap.size:=bw;have da:Hid (((u.alloc (.cells #[x.1,x.2.1,x.2.2,o.1,o.2.1,o.2.2] 80)).rangeAt u 0 [x.1,x.2.1,x.2.2,o.1,o.2.1,o.2.2])):=DR (aQ u _) 0 6;have az:=lH bx;clear an bi bt al bw Q bn bo bp ap bx;go_wp2_with (first|(refine EW R 80 _ R u 0 R [x.1,x.2.1,x.2.2,o.1,o.2.1,o.2.2] _ da underlying80 rfl Tryz.Gf ?_)|(at_builtin;(refine wpList_append_lies _ R _ _ 65 R (r.heap.size+1) 80 dn _ 6 48 underlying65 ch cw cx cy rfl G (.slice a ss.length bb) ss.length (ss.flatMap (nN U)) R ((aj.o.alloc _).alloc _) (I (u.heap.size+1) 0) 1 1 [x.1,x.2.1,x.2.2,o.1,o.2.1,o.2.2] R R ?d1 (by simp [Value.oneCell']) G (by unfold maxLen;omega) X ?d5 (u.heap.size+1+1) ?d6 ?_)));(case d1=>have be:=World.news_of_block (cs:= #[x.1,x.2.1,x.2.2,o.1,o.2.1,o.2.2]) (t:=80) (fr:=(0,0)) (AQ (u.alloc (.cells #[x.1,x.2.1,x.2.2,o.1,o.2.1,o.2.2] 80)) _);rw [fC] at be;exact be);(case d5=>rw [fC,fC];have:=az.o;omega);(case d6=>simp);intro du cap dr br am dg di;have cn:=lH (((cd.o.alloc _).alloc _).grown am (λj J=> .inr (by have:=zT aj j J;omega)));have ag:=(((Fr.refl (S:=λk=>r.heap.size+1<=k) u).alloc _).alloc _).grown am (λj J=> .inl (zT aj j J));have ay:=lH (cz.o.fr ag X X);have co:=lH br;have dk:r.heap.size+1<=dr.heap.size:=AV (by have:=az.o;omega) ag.size;clear br am dg di ag;go_wp2_with fail;go_roundw;(case rel=>refine ⟨ss++ [x],_,dc,ay,cl,lH ?_,cm,ci,cn,by rw [AB,AO];have:=av.o;omega,dk⟩;have de:=co.o;rw [EU,AB];simp only [DN,GN,EN,AO];rw [cu.o];exact de);(case measure=>rw [ay.o.left_eq,cj.o];exact av.o)
open Go.ChangeShapes Go.WideShapes Go.Deep
section
variable {H:Type} {enc:TypeId×Value->H} {W:World}
theorem Tryz.cells4:prog.cellsOf 4=1:=by kernel_rfl
theorem Tryz.cells9:prog.cellsOf 9=1:=by kernel_rfl
theorem Tryz.cells38:prog.cellsOf 38=3:=by kernel_rfl
theorem Tryz.cells59:prog.cellsOf 59=5:=by kernel_rfl
theorem Tryz.Ym:prog.cellsOf 57=4:=by kernel_rfl
theorem Tryz.V7:prog.cellsOf 61=14:=by kernel_rfl
theorem Tryz.cells39:prog.cellsOf 39=1:=by kernel_rfl
theorem Tryz.cells34:prog.cellsOf 34=1:=by kernel_rfl
theorem Tryz.cells41:prog.cellsOf 41=14:=by kernel_rfl
theorem fields_of {P t u aa cs x} (ag:P.underlying t=some (.struct u)) (h:DataW.trod enc P W 0 (λ_=>true) true aa t cs=some x):
  cs.length=P.cellsOf t/\∃n,∀(i:Nat) (f:Field) (o:TypeId) (r k:Nat),u[i]? =some f->f.type=o->f.offset=r->P.cellsOf o=k->∃y,DataW.trod enc P W 0 (λ_=>true) true n o ((cs.drop r).take k)=some y:=by
 obtain ⟨xs,n,_,_,ab,ae,ad⟩:=DataW.trod_struct ag h;refine ⟨ab,n,λi f o r k A B J Q=> ?_⟩;subst B J Q;have af:i<xs.length:=by
  rw [ae];exact (KU.1 A).1
 exact ⟨xs[i],by rw [ad i f A,AC af]⟩
theorem nM {r c y} (h:DataW.trod enc prog W 0 (λ_=>true) true r 3 [c]=some y):∃n,c=Z n/\I64 n:=by
 obtain ⟨n,o,_,u⟩:=DataW.trod_int underlying3 h;simp only [IJ,and_true] at o;exact ⟨n,o,bounds_i64 u⟩
theorem Ll {r c y} (h:DataW.trod enc prog W 0 (λ_=>true) true r 4 [c]=some y):∃n,c=.bool n:=by
 obtain ⟨n,o,_⟩:=DataW.trod_bool underlying4 h;simp only [IJ,and_true] at o;exact ⟨n,o⟩
theorem U5 {r c y} (h:DataW.trod enc prog W 0 (λ_=>true) true r 9 [c]=some y):∃l:List UInt8,c=.string (ba l):=by
 obtain ⟨s,o,_,u⟩:=DataW.trod_string underlying9 h;simp only [IJ,and_true] at o;exact ⟨s.data.toList,by rw [o,uH]⟩
theorem aFS {w:World} {a v} (h:w.cell? a=some v):a.spot=none:=by
 unfold World.cell? at h;split at h;{split at h;{cases h};{simpa using ‹¬a.spot.isSome=true›}};{cases h}
theorem Y8 {w:World} {a v} (h:w.cell? a=some v):a.block<w.heap.size:=by
 unfold World.cell? at h;split at h;{rename_i e;exact (KU.1 e).1};{cases h}
theorem Ip {T J n} {α:Type} [Inhabited α] (c:α->List Value) (G:α->Prop) (al:prog.underlying T=some (.slice J)) (ak:prog.cellsOf J=n) (av:0<n) (af:∀x,(c x).length=n) (ao:∀ {Q:Nat} {cs:List Value} {y:DataW H×List MemPlace},DataW.trod enc prog W 0 (λ_=>true) true Q J cs=some y->∃x,cs=c x/\G x) {Q v y} (h:DataW.trod enc prog W 0 (λ_=>true) true Q T [v]=some y):
  ∃(L:List α) (base:Option Addr) (cap:Nat),v=.slice base L.length cap/\(∀x∈L,G x)/\(L≠ []->∃b off,base=some (I b off)/\b<W.heap.size/\∀(j:Nat) x,L[j]? =some x->W.rangeAt b (off+j*n) (c x)):=by
 rcases open_slice al h with ⟨u,_⟩|⟨a,len,cap,m,k,D,ay,u,_,az,bd,ai,_,ag⟩;{simp only [IJ,and_true] at u;exact ⟨[],none,0,u,(λ_ h=>by cases h),λh=>absurd rfl h⟩}
 ·simp only [IJ,and_true] at u;simp only [IK] at ai;subst ai;rw [ak] at ag;obtain ⟨f,ab⟩:=choose_lt (α:=α) (n:=len) (p:=λi x=>G x/\∀j A,(c x)[j]? =some A->W.cell? ((a.add (i*n)).add j)=some A) (λi bc=>by
   obtain ⟨cs',aj,aa⟩:=ag i X;obtain ⟨x,rfl,ap⟩:=ao aa;obtain ⟨_,bb,an⟩:=World.cells?_some aj;refine ⟨x,ap,λj A o=> ?_⟩;have ar:j<n:=by{rcases BJ j n with h|h;{exact h};{rw [FZ (by rw [af];exact h)] at o;cases o}}
   rw [an j ar,o])
  refine ⟨(List.range len).map f,some a,m,by simpa using u,λx ad=> ?_,λaw=> ?_⟩;{obtain ⟨i,aq,rfl⟩:=IC.1 ad;exact (ab i (CG.1 aq)).1};{(have r:0<len:=by{rcases ER len with r|r;{subst r;simp at aw};{exact r}});have au:0<(c (f 0)).length:=(by rw [af];exact av);have ae:=(ab 0 r).2 0 _ (AC au);have B:=aFS ae;have B:a.spot=none:=(by simpa [Addr.add] using B);have am:=Y8 ae;obtain ⟨b,off,s⟩:=a;simp only at B;subst B;refine ⟨b,off,rfl,by simpa [Addr.add] using am,λj x o=> ?_⟩;(have ah:j<len:=by{rcases BJ j len with h|h;{exact h};{rw [FZ (by simp;omega)] at o;cases o}});(have ad:x=f j:=by{rw [FB,List.getElem?_range ah] at o;simpa using o.symm});subst ad;intro i A ax;(have aa:((Addr.mk b off none).add (j*n)).add i=(I b (off+j*n+i)):=by{unfold Addr.add;split<;>split<;>simp_all});have:=(ab j ah).2 i A ax;rw [aa] at this;exact this}
theorem Va {u cs y} (h:DataW.trod enc prog W 0 (λ_=>true) true u 46 cs=some y):∃x:Stp,cs=(cS x)/\jM x:=by
 obtain ⟨r,n,o⟩:=fields_of underlying46 h;rw [Tryz.cells46] at r;(match cs,r with|[c0,c1,c2],_=>obtain ⟨_,A⟩:=o 0 _ 3 0 1 rfl rfl rfl Tryz.cells3;obtain ⟨_,B⟩:=o 1 _ 3 1 1 rfl rfl rfl Tryz.cells3;obtain ⟨_,J⟩:=o 2 _ 3 2 1 rfl rfl rfl Tryz.cells3;obtain ⟨ad,rfl,Q⟩:=nM A;obtain ⟨ae,rfl,aa⟩:=nM B;obtain ⟨af,rfl,ab⟩:=nM J;exact ⟨(ad,ae,af),rfl,Q,aa,ab⟩)
theorem aAn {u cs y} (h:DataW.trod enc prog W 0 (λ_=>true) true u 57 cs=some y):∃x:Sz,cs=fD x/\jM x.1:=by
 obtain ⟨r,n,o⟩:=fields_of underlying57 h;rw [Tryz.Ym] at r;(match cs,r with|[c0,c1,c2,c3],_=>obtain ⟨_,A⟩:=o 0 _ 46 0 3 rfl rfl rfl Tryz.cells46;obtain ⟨_,B⟩:=o 1 _ 3 3 1 rfl rfl rfl Tryz.cells3;obtain ⟨x,e,J⟩:=Va A;obtain ⟨Q,rfl,_⟩:=nM B;simp only [KJ,FM,FW,IJ,and_true] at e;obtain ⟨rfl,rfl,rfl⟩:=e;exact ⟨(x,Q),rfl,J⟩)
theorem Tn {u cs y} (h:DataW.trod enc prog W 0 (λ_=>true) true u 59 cs=some y):∃x:Pt,cs=bY x:=by
 obtain ⟨r,n,o⟩:=fields_of underlying59 h;rw [Tryz.cells59] at r;(match cs,r with|[c0,c1,c2,c3,c4],_=>obtain ⟨_,A⟩:=o 0 _ 46 0 3 rfl rfl rfl Tryz.cells46;obtain ⟨_,B⟩:=o 1 _ 3 3 1 rfl rfl rfl Tryz.cells3;obtain ⟨_,J⟩:=o 2 _ 3 4 1 rfl rfl rfl Tryz.cells3;obtain ⟨x,e,ab⟩:=Va A;obtain ⟨Q,rfl,_⟩:=nM B;obtain ⟨aa,rfl,_⟩:=nM J;simp only [KJ,FM,FW,IJ,and_true] at e;obtain ⟨rfl,rfl,rfl⟩:=e;exact ⟨⟨x.1,x.2.1,x.2.2,Q,aa⟩,rfl⟩)
theorem aEO {u cs y} (h:DataW.trod enc prog W 0 (λ_=>true) true u 61 cs=some y):∃x:Dl,cs=dD x:=by
 obtain ⟨r,n,o⟩:=fields_of underlying61 h;rw [Tryz.V7] at r;(match cs,r with|[c0,c1,c2,c3,c4,c5,c6,c7,c8,c9,c10,c11,c12,c13],_=>obtain ⟨_,A⟩:=o 0 _ 3 0 1 rfl rfl rfl Tryz.cells3;obtain ⟨_,B⟩:=o 1 _ 3 1 1 rfl rfl rfl Tryz.cells3;obtain ⟨_,J⟩:=o 2 _ 3 2 1 rfl rfl rfl Tryz.cells3;obtain ⟨_,Q⟩:=o 3 _ 3 3 1 rfl rfl rfl Tryz.cells3;obtain ⟨_,aa⟩:=o 4 _ 59 4 5 rfl rfl rfl Tryz.cells59;obtain ⟨_,ab⟩:=o 5 _ 59 9 5 rfl rfl rfl Tryz.cells59;obtain ⟨ad,rfl,_⟩:=nM A;obtain ⟨ae,rfl,_⟩:=nM B;obtain ⟨af,rfl,_⟩:=nM J;obtain ⟨ag,rfl,_⟩:=nM Q;obtain ⟨t,e⟩:=Tn aa;obtain ⟨ah,e'⟩:=Tn ab;simp only [bY,LQ,KJ,FM,FW,IJ,and_true] at e e';obtain ⟨rfl,rfl,rfl,rfl,rfl⟩:=e;obtain ⟨rfl,rfl,rfl,rfl,rfl⟩:=e';exact ⟨⟨ad,ae,af,ag,t,ah⟩,rfl⟩)
theorem aEy {u v y} (h:DataW.trod enc prog W 0 (λ_=>true) true u 39 [v]=some y):∃o:List Sz,aZ fD 4 W (λ_=>0) v o/\∀s∈o,jM s.1:=by
 obtain ⟨L,base,cap,e,J,Q⟩:=Ip (enc:=enc) (W:=W) fD (λx=>jM x.1) underlying39 Tryz.Ym G Ru aAn h;exact ⟨L,⟨base,cap,e,λA=>by
  obtain ⟨b,off,r,B,aa⟩:=Q A;exact ⟨b,off,r,rfl,B,aa⟩⟩,J⟩
theorem aAf {A v y} (h:DataW.trod enc prog W 0 (λ_=>true) true A 34 [v]=some y):∃r:List Dl,aZ dD 14 W (λ_=>0) v r:=by
 obtain ⟨L,base,cap,e,_,Q⟩:=Ip (enc:=enc) (W:=W) dD (λ_=>True) underlying34 Tryz.V7 G (λ_=>rfl) (λh=>by
  obtain ⟨x,o⟩:=aEO h;exact ⟨x,o,trivial⟩) h
 exact ⟨L,⟨base,cap,e,λB=>by
  obtain ⟨b,off,u,J,o⟩:=Q B;exact ⟨b,off,u,rfl,J,o⟩⟩⟩
abbrev vY:=Rq×Value×Value
def vY.cells (y:vY):List Value:=(y.1.1.cells y.2.1 y.2.2).toList
def vY.good (W:World) (y:vY):Prop:=aZ fD 4 W (λ_=>0) y.2.1 y.1.2.1/\aZ dD 14 W (λ_=>0) y.2.2 y.1.2.2/\∀s∈y.1.2.1,jM s.1
theorem aBv {B cs y} (h:DataW.trod enc prog W 0 (λ_=>true) true B 41 cs=some y):∃x:vY,cs=x.cells/\x.good W:=by
 obtain ⟨u,n,o⟩:=fields_of underlying41 h;rw [Tryz.cells41] at u;(match cs,u with|[c0,c1,c2,c3,c4,c5,c6,c7,c8,c9,c10,c11,c12,c13],_=>obtain ⟨_,ak⟩:=o 0 _ 38 0 3 rfl rfl rfl Tryz.cells38;obtain ⟨_,ad⟩:=o 1 _ 3 3 1 rfl rfl rfl Tryz.cells3;obtain ⟨_,ae⟩:=o 2 _ 9 4 1 rfl rfl rfl Tryz.cells9;obtain ⟨_,af⟩:=o 3 _ 9 5 1 rfl rfl rfl Tryz.cells9;obtain ⟨_,ag⟩:=o 4 _ 4 6 1 rfl rfl rfl Tryz.cells4;obtain ⟨_,ah⟩:=o 5 _ 4 7 1 rfl rfl rfl Tryz.cells4;obtain ⟨_,ai⟩:=o 6 _ 4 8 1 rfl rfl rfl Tryz.cells4;obtain ⟨_,aj⟩:=o 7 _ 3 9 1 rfl rfl rfl Tryz.cells3;obtain ⟨_,J⟩:=o 8 _ 3 10 1 rfl rfl rfl Tryz.cells3;obtain ⟨_,Q⟩:=o 9 _ 3 11 1 rfl rfl rfl Tryz.cells3;obtain ⟨_,aa⟩:=o 10 _ 39 12 1 rfl rfl rfl Tryz.cells39;obtain ⟨_,ab⟩:=o 11 _ 34 13 1 rfl rfl rfl Tryz.cells34;obtain ⟨_,m,r⟩:=fields_of underlying38 ak;obtain ⟨_,ao⟩:=r 0 _ 3 0 1 rfl rfl rfl Tryz.cells3;obtain ⟨_,ap⟩:=r 1 _ 3 1 1 rfl rfl rfl Tryz.cells3;obtain ⟨_,aq⟩:=r 2 _ 3 2 1 rfl rfl rfl Tryz.cells3;obtain ⟨ar,rfl,_⟩:=nM ao;obtain ⟨au,rfl,_⟩:=nM ap;obtain ⟨ax,rfl,_⟩:=nM aq;obtain ⟨ay,rfl,_⟩:=nM ad;obtain ⟨az,rfl⟩:=U5 ae;obtain ⟨bb,rfl⟩:=U5 af;obtain ⟨bc,rfl⟩:=Ll ag;obtain ⟨bd,rfl⟩:=Ll ah;obtain ⟨be,rfl⟩:=Ll ai;obtain ⟨bf,rfl,_⟩:=nM aj;obtain ⟨av,rfl,_⟩:=nM J;obtain ⟨aw,rfl,_⟩:=nM Q;obtain ⟨bg,an,am⟩:=aEy aa;obtain ⟨A,al⟩:=aAf ab;exact ⟨((⟨ar,au,ax,ay,az,bb,bc,bd,be,bf,av,aw⟩,bg,A),_,_),rfl,an,al,am⟩)
theorem aAK {B v d p} (ai:Value.okWide prog W .any B 44 v) (h:DataW.Trod enc prog W 0 (λ_=>true) true 44 v d p):∃L:List Rq,oW W (λ_=>0) v L/\∀y∈L,∀s∈y.2.1,jM s.1:=by
 obtain ⟨A,al,cap',rfl⟩:=okWide_slice underlying44 ai;obtain ⟨am,af⟩:=h;haveI:Inhabited vY:=⟨((⟨0,0,0,0, [], [],false,false,false,0,0,0⟩, [], []),.slice none 0 0,.slice none 0 0)⟩;obtain ⟨L,base,cap,e,u,ag⟩:=Ip (enc:=enc) (W:=W) vY.cells (vY.good W) underlying44 Tryz.cells41 G (λ_=>rfl) aBv (v:=.slice A al cap') af;refine ⟨L.map (·.1),⟨base,cap,by rw [EP];exact e,λab=> ?_⟩,λy ak s ah=> ?_⟩;{have ad:L≠ []:=λh=>ab (by rw [h];rfl);obtain ⟨b,off,J,ae,aj⟩:=ag ad;refine ⟨b,off,J,rfl,ae,λj y r=> ?_⟩;rw [FB] at r;(cases o:L[j]? with|none=>rw [o] at r;cases r|some z=>rw [o] at r;cases r;obtain ⟨Q,aa,_⟩:=u z (DU o);exact ⟨z.2.1,z.2.2,aj j z o,Q,aa⟩)};{obtain ⟨z,o,rfl⟩:=IC.1 ak;exact (u z o).2.2 s ah}
end
def nR:Tree:=λk=>if k=1 then some ⟨0, [],true⟩ else none
def S0:St:=⟨0,0,0,λ_=>0,λ_=>none,nR, [],λ_=>none,λ_=>none⟩
theorem xA {k x} (h:nR k=some x):k=1/\x=⟨0, [],true⟩:=by
 unfold nR at h;split at h;{rename_i e;cases h;exact ⟨e,rfl⟩};{cases h}
theorem Zz:dJ nR where
 root:=rfl
 zero:=rfl
 top:=λk o=>by unfold nR;rw [AA X]
 up:=λk x h o=>absurd (xA h).1 o
 name:=λk x h o=>absurd (xA h).1 o
 one:=λj k x y r o _ _=>by rw [(xA r).1,(xA o).1]
theorem aAG:things nR=1:=by decide
theorem aB5:bI nR 1=0:=by decide
theorem aBz (s):kid nR 1 s=none:=by
 (cases h:kid nR 1 s with|none=>rfl|some k=>obtain ⟨x,r,o,_⟩:=rE h;rw [(xA r).2] at o;cases o)
theorem Dz:eY S0 0 where
 ok:=⟨Zz,λi m h=>by cases h⟩
 pts:=λi m h=>by cases h
 dir:=λk x h hd=>by
  have:=(xA h).2;rw [this] at hd;cases hd
 tok:=λx o=>by cases o
 small:=λx o=>by cases o
 few:=AU _
 boots:=⟨JF _,JF _⟩
 swaps:=⟨JF _,JF _⟩
 clock:=⟨JF _,JF _⟩
 win:=λi y h=>by cases h
def aBm (w:World) (e:Ending) (w':World):Prop:=
 ∃tr th root rin:Nat,e=.returned (Y tr)/\Fr No w w'/\w.heap.size<=th/\th<rin/\rin<root/\root<tr/\
  w'.heap[tr]? =some (.cells #[.map (some th)] 159 (0,0))/\MapAt encI w' th 1 (λz=>if z=1 then some root else none)/\
  w'.heap[root]? =some (.cells #[Z 0,.string ⟨#[]⟩,true,.map (some rin)] 168 (0,0))/\MapAt encS w' rin 0 (λ_=>none)
theorem aCm (w):Calls prog 58 #[] w (aBm w):=by
 have am:= @run_makeMap prog;go_enter func58,ntmps58;go_wp2_with fail;refine (aB3 _ _ _).mono ?_;rintro e ao ⟨rfl,rfl⟩;have Q:=MapAt.made encI w;have ab:Fr No (w.alloc (.map #[] 0)) (((w.alloc (.map #[] 0)).alloc (.map #[] 0)).alloc (.cells #[Z 0,.string ⟨#[]⟩,true,.map (some (w.heap.size+1))] 168)):=((Fr.refl _).alloc _).alloc _;have A:=MapAt.made encS (w.alloc (.map #[] 0));rw [show (w.alloc (.map #[] 0)).heap.size=w.heap.size+1 by simp] at A;have ad:Fr No ((w.alloc (.map #[] 0)).alloc (.map #[] 0)) (((w.alloc (.map #[] 0)).alloc (.map #[] 0)).alloc (.cells #[Z 0,.string ⟨#[]⟩,true,.map (some (w.heap.size+1))] 168)):=(Fr.refl _).alloc _;(have J:(((w.alloc (.map #[] 0)).alloc (.map #[] 0)).alloc (.cells #[Z 0,.string ⟨#[]⟩,true,.map (some (w.heap.size+1))] 168)).heap[w.heap.size+1+1]? =some (.cells #[Z 0,.string ⟨#[]⟩,true,.map (some (w.heap.size+1))] 168 (0,0)):=by{simpa using aQ ((w.alloc (.map #[] 0)).alloc (.map #[] 0)) (.cells #[Z 0,.string ⟨#[]⟩,true,.map (some (w.heap.size+1))] 168)});have F:Fr No w (((w.alloc (.map #[] 0)).alloc (.map #[] 0)).alloc (.cells #[Z 0,.string ⟨#[]⟩,true,.map (some (w.heap.size+1))] 168)):=(((Fr.refl w).alloc _).alloc _).alloc _;(have aj:(((w.alloc (.map #[] 0)).alloc (.map #[] 0)).alloc (.cells #[Z 0,.string ⟨#[]⟩,true,.map (some (w.heap.size+1))] 168)).heap.size=w.heap.size+1+1+1:=D);obtain ⟨o,B,aa,r⟩:=(Q.fr ab id).put (1:Int) (w.heap.size+1+1) (show I64 _ by unfold I64;omega) trivial X (t:=157) (e:=169) underlying157;have an:(Instr.mapUpdate 157 (.map (some w)) (Z 1) (Y (w.heap.size+1+1))).run prog (((w.alloc (.map #[] 0)).alloc (.map #[] 0)).alloc (.cells #[Z 0,.string ⟨#[]⟩,true,.map (some (w.heap.size+1))] 168))=.ok () o:=B;have af:=lH (r.aB J X);have ah:=lH aa;have ag:=lH ((A.fr ad id).fr r X);have ae:=F.trans r (λj al e=>by omega);have ai:=r.size;rw [aj] at ai;clear J Q A B aa;go_wp2_with fail;go_ret;have ak:=aQ o (.cells #[.map (some w)] 159);have u:Fr No o (o.alloc (.cells #[.map (some w)] 159)):=(Fr.refl o).alloc _;exact ⟨o,w.heap.size,w.heap.size+1+1,w.heap.size+1,rfl,ae.trans u zq,AU _,by omega,by omega,by omega,ak,ah.o.fr u id,u.aB af id,ag.o.fr u id⟩
def aEP (w:World) (e:Ending) (w':World):Prop:=
 ∃(L:jV) (o:Nat->Nat),e=.returned (Y L.s)/\Step (λ_=>False) w (λ_=>0) w' o/\aV w' o 0 L S0 0
def qK (L:jV) (th root rin:Nat):Nat->Nat:=λk=>if k=L.win then 1 else if k=th then 4 else if k=rin then 2001 else if k=root then 1001 else if k=L.tr then 3 else if k=L.tk then 5 else if k=L.fl then 6 else if k=L.us then 7 else if k=L.s then 8 else 0
theorem Ox (w):Calls prog 17 #[] w (aEP w):=by
 have bc:= @run_makeMap prog;go_enter func17,ntmps17;go_wp2_with fail;refine (aDB _).mono ?_;rintro e bi ⟨rfl,rfl⟩;go_wp2_with fail;refine (aCm _).mono ?_;rintro e o ⟨r,ab,A,aa,rfl,J,az,bd,be,bf,Q,ak,ai,aj⟩;have av:=lH Q;have au:=lH ak;have aq:=lH ai;have ap:=lH aj;have aw:=lH (J.aB (aQ w _) id);have ad:=((Fr.refl w).alloc _).trans J zq;have bg:=lt_of_block Q;simp only [fC] at az;clear Q ak ai aj J;go_wp2_with fail;refine (aB4 _).mono ?_;rintro e bj ⟨rfl,rfl⟩;have ar:=lH (aQ o (.cells #[true,nS] 187));have ae:=lH (MapAt.made encI (o.alloc (.cells #[true,nS] 187)));have af:=lH (MapAt.made xY ((o.alloc (.cells #[true,nS] 187)).alloc (.map #[] 0)));rw [show (o.alloc _).heap.size=o.heap.size+1 by simp] at ae;rw [show ((o.alloc _).alloc (.map #[] 0)).heap.size=o.heap.size+1+1 by simp] at af;(have ax:(((o.alloc (.cells #[true,nS] 187)).alloc (.map #[] 0)).alloc (.map #[] 0)).heap.size=o.heap.size+1+1+1:=D);have ao:Fr No (((o.alloc (.cells #[true,nS] 187)).alloc (.map #[] 0)).alloc (.map #[] 0)) ((((o.alloc (.cells #[true,nS] 187)).alloc (.map #[] 0)).alloc (.map #[] 0)).alloc (.cells #[Z 0,Z 0,Z 0,Z 0,Z 0,Z 0,Z 0,Z 0,Y w,Y r,Y o,.map (some (o.heap.size+1)),.map (some (o.heap.size+1+1))] 131)):=(Fr.refl _).alloc _;have an:Fr No ((o.alloc (.cells #[true,nS] 187)).alloc (.map #[] 0)) ((((o.alloc (.cells #[true,nS] 187)).alloc (.map #[] 0)).alloc (.map #[] 0)).alloc (.cells #[Z 0,Z 0,Z 0,Z 0,Z 0,Z 0,Z 0,Z 0,Y w,Y r,Y o,.map (some (o.heap.size+1)),.map (some (o.heap.size+1+1))] 131)):=((Fr.refl _).alloc _).alloc _;have am:Fr No (o.alloc (.cells #[true,nS] 187)) ((((o.alloc (.cells #[true,nS] 187)).alloc (.map #[] 0)).alloc (.map #[] 0)).alloc (.cells #[Z 0,Z 0,Z 0,Z 0,Z 0,Z 0,Z 0,Z 0,Y w,Y r,Y o,.map (some (o.heap.size+1)),.map (some (o.heap.size+1+1))] 131)):=(((Fr.refl _).alloc _).alloc _).alloc _;have u:Fr No o ((((o.alloc (.cells #[true,nS] 187)).alloc (.map #[] 0)).alloc (.map #[] 0)).alloc (.cells #[Z 0,Z 0,Z 0,Z 0,Z 0,Z 0,Z 0,Z 0,Y w,Y r,Y o,.map (some (o.heap.size+1)),.map (some (o.heap.size+1+1))] 131)):=((((Fr.refl _).alloc _).alloc _).alloc _).alloc _;have ah:=aQ (((o.alloc (.cells #[true,nS] 187)).alloc (.map #[] 0)).alloc (.map #[] 0)) (.cells #[Z 0,Z 0,Z 0,Z 0,Z 0,Z 0,Z 0,Z 0,Y w,Y r,Y o,.map (some (o.heap.size+1)),.map (some (o.heap.size+1+1))] 131);rw [ax] at ah;(have ay:((((o.alloc (.cells #[true,nS] 187)).alloc (.map #[] 0)).alloc (.map #[] 0)).alloc (.cells #[Z 0,Z 0,Z 0,Z 0,Z 0,Z 0,Z 0,Z 0,Y w,Y r,Y o,.map (some (o.heap.size+1)),.map (some (o.heap.size+1+1))] 131)).heap.size=o.heap.size+1+1+1+1:=D);go_wp2_with fail;go_ret;generalize bb:(((o.alloc _).alloc _).alloc _).alloc _=al at*;have bh:=ad.size;refine ⟨⟨o.heap.size+1+1+1,w.heap.size,r,o.heap.size,o.heap.size+1,o.heap.size+1+1⟩,qK ⟨o.heap.size+1+1+1,w.heap.size,r,o.heap.size,o.heap.size+1,o.heap.size+1+1⟩ ab A aa,rfl,⟨(ad.trans u zq).mono (λ_ _ e=>e.elim),λk B=> ?_,λk B=> ?_⟩,?_⟩;{unfold qK;dsimp only;repeat (first|rw [AA X])};{unfold qK;dsimp only;rw [ay] at B;repeat (first|rw [AA X])};{refine ⟨?_,ah,⟨?_,λ_=> .pointer none,u.aB aw id,λ_ _=>rfl⟩,⟨ab,λ_=>A,?_,u.aB av id,?_,?_,?_⟩,⟨?_,.slice none 0 0,am.aB ar id,.inl ⟨rfl,rfl⟩⟩,⟨?_,λ_=>0,0,AU _,?_,λi m h=>by cases h⟩,⟨?_,0,AU _,?_⟩⟩;{unfold qK;dsimp only;repeat (first|rw [AL rfl]|rw [AA X])};{unfold qK;dsimp only;repeat (first|rw [AL rfl]|rw [AA X])};{unfold qK;dsimp only;repeat (first|rw [AL rfl]|rw [AA X])};{unfold qK;dsimp only;repeat (first|rw [AL rfl]|rw [AA X])};{show MapAt encI al ab (things nR) (dC nR λ_=>A);rw [aAG];(have e:dC nR (λ_=>A)=λz=>if z=1 then some A else none:=by{funext z;unfold dC nR;by_cases ag:z=1;{subst ag;rfl};{rw [AA ag];split;{rw [AA X];rfl};{rfl}}});rw [e];exact au.o.fr u id};{intro k x B;obtain ⟨rfl,rfl⟩:=xA B;refine ⟨?_,aa,?_,u.aB aq id,?_⟩;{unfold qK;dsimp only;repeat (first|rw [AL rfl]|rw [AA X])};{unfold qK;dsimp only;repeat (first|rw [AL rfl]|rw [AA X])};{show MapAt encS al aa (bI nR 1) (bQ nR 1);rw [aB5];(have e:bQ nR 1=λ_=>none:=by{funext s;unfold bQ;rw [aBz];rfl});rw [e];exact ap.o.fr u id}};{unfold qK;dsimp only;repeat (first|rw [AL rfl]|rw [AA X])};{unfold qK;dsimp only;repeat (first|rw [AL rfl]|rw [AA X])};{(have e:kR S0.F (λ_=>0)=λ_=>none:=by{funext z;unfold kR S0;split<;>rfl});rw [e];exact ae.o.fr an id};{unfold qK;dsimp only;repeat (first|rw [AL rfl]|rw [AA X])};{(have e:iI S0.U=λ_=>none:=by funext z;rfl);rw [e];exact af.o.fr ao id}}
def Q5 (L:List Rq):Prop:=∀y∈L,∀s∈y.2.1,jM s.1
theorem fresh0 (w):aF w (λ_=>0):=λ_ _=>rfl
section
variable {K V:Type} [DecidableEq K] {E:Enc K V} {t e:TypeId}
def gone (left:K->Bool) (m:K->Option V):K->Option V:=λz=>if left z=true then none else m z
omit [DecidableEq K] in
omit [DecidableEq K] in
end
theorem Step.aGP {w u A o b c} (s:Step (λ_=>False) w A u o) (B:w.heap.size<=b) (J:b<u.heap.size):Step (λ_=>False) w A u (fV o b c):=
 ⟨s.fr,λk r=>by rw [dR o _ X];exact s.old k r,λk r=>by rw [dR o _ X];exact s.fresh k r⟩
theorem aO.at {α:Type} {c n t w base a len cap} {L:List α} (h:aO c n t w base (.slice a len cap) L) (o:0<L.length):∃b,a=some (I b 0)/\cap<=maxLen/\base<=b/\bC c n t w b cap L:=by
 rcases h with ⟨_,rfl⟩|⟨b,cap',e,u,r,A⟩;{exact absurd o D};{cases e;exact ⟨b,rfl,u,r,A⟩}
theorem nK.no {w w' v L} (h:nK w v L) (f:Fr No w w'):nK w' v L:=by
 rcases h with h|⟨b,cap,e,o,r⟩;{exact .inl h};{exact .inr ⟨b,cap,e,o,r.fr f id⟩}
def P7 (K:Nat) (w:World) (o:Nat->Nat) (L:jV) (S:St) (n q:Nat) (r:aH) (st:List Sz) (dl:List Dl) (e:Ending) (w':World):Prop:=
 ∃(x:aW×St) (o':Nat->Nat) (ev mv:Value),e=.returned (.agg (x.1.cells ev mv))/\ev.oneCell'=true/\mv.oneCell'=true/\nJ S r st dl x/\eY x.2 (q+2)/\Step (bF K) w o w' o'/\aV w' o' K L x.2 (n+100)
theorem aE9 (o K n q L S B Q J r u w) (h:aV w o K L S n) (ak:eY S q) (af:aF w o) (aj:aZ fD 4 w o Q r) (hd:aZ dD 14 w o J u) (A:qN B r.length u.length) (ag:∀s∈r,jM s.1) (ai:q<=90000) (ah:n<=400000):
  Calls prog 18 #[Y L.s,.agg (B.cells Q J)] w (P7 K w o L S n q B r u):=
 (aAM o K n q L S B Q J r u w h ak af aj hd ⟨A.1,A.2.1,A.2.2.1,A.2.2.2,ag⟩ ai ah).mono (λe w' p=>by
   obtain ⟨x,ab,ad,⟨am,s,t⟩,aa,al,ae,an,ao,_⟩:=p;exact ⟨x,am,aa,al,ae,an,ao,ab,ad,s,t⟩)
