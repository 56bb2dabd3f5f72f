/- Part of a proof. -/
import Derived.Test.YtedcppikakinoaaGreatU23
import Derived.ChangeArms
import Derived.Deep.Slices
import Derived.Laws.Externs
import Derived.OpenShut
import Derived.ProofKit
set_option linter.unusedSimpArgs false
set_option linter.unusedVariables false
set_option maxRecDepth 100000
set_option maxHeartbeats 6400000
namespace Go.Proofs.YtedcppikakinoaaGreat
open Go.Proofs.Tryz Go.RowKit
theorem Hy (x w):(callFunc 97 #[.float .f64 x]).run prog w=.ok (.value (.int .u64 x)) w:=by
 rw [run_callFunc_extern (f:=97) (fn:=Tryz.f97) (e:=Extern.MathFloatBits.float64bits) N N N N N];rfl
theorem zY {P} (t) {x y o} (h:DD.div x y=some o) (w):(binOp .quo t (.float .f64 x) (.float .f64 y)).run P w=.ok (.float .f64 o) w:=by
 have r:FloatKind.f64.format.div x y=some o:=h;simp [binOp,Op.floatArith,r,Sem.run]
theorem V4 {P} (t) {x y o} (h:DD.sub x y=some o) (w):(binOp .sub t (.float .f64 x) (.float .f64 y)).run P w=.ok (.float .f64 o) w:=by
 have r:FloatKind.f64.format.sub x y=some o:=h;simp [binOp,Op.floatArith,r,Sem.run]
theorem Ua {P} (t) {x y o} (h:DD.mul x y=some o) (w):(binOp .mul t (.float .f64 x) (.float .f64 y)).run P w=.ok (.float .f64 o) w:=by
 have r:FloatKind.f64.format.mul x y=some o:=h;simp [binOp,Op.floatArith,r,Sem.run]
theorem f_add {P} (t) {x y o} (h:DD.add x y=some o) (w):(binOp .add t (.float .f64 x) (.float .f64 y)).run P w=.ok (.float .f64 o) w:=by
 have r:FloatKind.f64.format.add x y=some o:=h;simp [binOp,Op.floatArith,r,Sem.run]
theorem write_lt (d):DD.write d<18446744073709551616:=by
 have o:∀(s:Bool) (r:Nat),r<=9223372036854775807->DD.word s r<18446744073709551616:=λs r h=>by
  unfold Ieee.Format.word;rw [Eo];split<;>omega
 unfold Ieee.Format.write;split;{unfold Ieee.Format.nearest;split;{exact o _ _ G};{exact o _ _ (AV (Nat.min_le_right _ _) (by rw [yE];decide))}};{exact o _ _ (by rw [yE];decide)};{rename_i f;refine o _ _ ?_;rw [yE,Cb];have:=Nat.mod_lt f (show 0<4503599627370496 by decide);omega}
theorem div_lt {x y r} (h:DD.div x y=some r):r<18446744073709551616:=by
 unfold Ieee.Format.div at h;obtain ⟨d,_,rfl⟩:=CY.1 h;exact write_lt d
theorem Aa {x y a b c d} (r:Fi x a b) (u:Fi y c d):(fv x<fv y/\FloatKind.f64.format.order x y=some .lt)\/(fv x=fv y/\FloatKind.f64.format.order x y=some .eq)\/(fv y<fv x/\FloatKind.f64.format.order x y=some .gt):=by
 have h:FloatKind.f64.format.order x y=some (compare (fv x) (fv y)):=Uu r u;rw [h,Hw];rcases JZ (fv x) (fv y) with o|o|o;{exact .inl ⟨o,by rw [AL o]⟩};{exact .inr (.inl ⟨o,by rw [AA X,AL o]⟩)};{exact .inr (.inr ⟨o,by rw [AA X,AA X]⟩)}
theorem Cc {x a b} (o:Fi x a b):FloatKind.f64.format.order x x=some .eq:=Zo o
def jY (v:Value) (w:World) (e:Ending) (w':World):Prop:=e=.returned v/\w'=w
theorem wE (v w):Hid (∀u,u=v->jY v w (.returned u) w):=lH (λ_ e=>by rw [e];exact ⟨rfl,rfl⟩)
theorem none_ {x a b} (o:Fi x a b) (w):Calls prog 154 #[.float .f64 x] w (jY (.bool false) w):=by
 have A:=Cc o;have r:=wE (.bool false) w;generalize jY _ w=u at*;clear o;go_enter func154,ntmps154;exact aC (r.o _ rfl)
theorem aFv (x:Nat) (h:x<18446744073709551616):(wrap64 (x:Int)<0)↔9223372036854775808<=x:=by
 unfold wrap64;omega
theorem Ro (x) (h:x<18446744073709551616) (w):Calls prog 227 #[.float .f64 x] w (jY (.bool (nV x)) w):=by
 have A:=Hy x;have r:Hid (decide (wrap64 (x:Int)<0)=nV x):=lH (by
  unfold nV;rw [decide_eq_decide];exact aFv x h)
 have o:=wE (.bool (nV x)) w;generalize jY _ w=u at*;go_enter func227,ntmps227;go_wp2_with fail;rw [r.o];exact o.o _ rfl
theorem aDa {x y a b c d} (B:Fi x a b) (J:Fi y c d) (ae:x<18446744073709551616) (af:y<18446744073709551616) (w):Calls prog 155 #[.float .f64 x,.float .f64 y] w (jY (Z (kY x y)) w):=by
 have A:=lH (none_ B);have aa:=lH (none_ J);have ab:=lH (Ro x ae);have ad:=lH (Ro y af);have o:=wE (Z (kY x y)) w;generalize jY _ w=ak at*;unfold jY at A aa ab ad;have aj:=Aa B J;clear B J ae af;go_enter func155,ntmps155;go_wp2_with fail;refine cr (A.o _) ?_;rintro Q rfl;go_wp2_with fail;refine cr (A.o _) ?_;rintro Q rfl;go_wp2_with fail;refine cr (aa.o _) ?_;rintro Q rfl;rcases aj with ⟨u,ag⟩|⟨u,ag⟩|⟨u,ag⟩;{go_wp2_with fail;refine o.o _ (Eq.trans (show _=Value.int .i64 (-1) from rfl) ?_);unfold kY;rw [AL u]};{go_wp2_with fail;refine cr (ab.o _) ?_;rintro Q rfl;go_wp2_with fail;refine cq (ad.o _) ?_;(have r:kY x y=if nV x=nV y then 0 else if nV x=true then -1 else 1:=by{unfold kY;rw [AA X,AA X]});(cases ah:nV x<;>cases ai:nV y<;>rw [ah,ai] at r);{go_wp2_with fail;exact o.o _ (Eq.trans (show _=Value.int .i64 0 from rfl) (by rw [r];rfl))};{go_wp2_with fail;exact o.o _ (Eq.trans (show _=Value.int .i64 1 from rfl) (by rw [r];rfl))};{go_wp2_with fail;exact o.o _ (Eq.trans (show _=Value.int .i64 (-1) from rfl) (by rw [r];rfl))};{go_wp2_with fail;exact o.o _ (Eq.trans (show _=Value.int .i64 0 from rfl) (by rw [r];rfl))}};{go_wp2_with fail;refine o.o _ (Eq.trans (show _=Value.int .i64 (1) from rfl) ?_);unfold kY;rw [AA X,AL u]}
theorem Wq {x:Nat} (h:x<18446744073709551616):((x:Int) / 9223372036854775808=0/\nV x=false)\/((x:Int) / 9223372036854775808=1/\nV x=true):=by
 unfold nV;rcases BK x 9223372036854775808 with o|o;{exact .inl ⟨by omega,BC X⟩};{exact .inr ⟨by omega,BN o⟩}
theorem aB1 {x y a b c d} (A:Fi x a b) (B:Fi y c d) (ab:x<18446744073709551616) (ad:y<18446744073709551616) (w):Calls prog 98 #[.float .f64 x,.float .f64 y] w (jY (Z (kY x y)) w):=by
 have ak:=Cc A;have al:=Cc B;have o:=wE (Z (kY x y)) w;generalize jY _ w=ah at*;have ai:=Hy x;have aj:=Hy y;have ag:=Aa A B;clear A B;go_enter func98,ntmps98;rcases ag with ⟨u,J⟩|⟨u,J⟩|⟨u,J⟩;{go_wp2_with fail;refine o.o _ (Eq.trans (show _=Value.int .i64 (-1) from rfl) ?_);unfold kY;rw [AL u]};{(have r:kY x y=if nV x=nV y then 0 else if nV x=true then -1 else 1:=by{unfold kY;rw [AA X,AA X]});rcases Wq ab with ⟨ae,Q⟩|⟨ae,Q⟩<;>rcases Wq ad with ⟨af,aa⟩|⟨af,aa⟩<;>rw [Q,aa] at r;{go_wp2_with fail;exact o.o _ (Eq.trans (show _=Value.int .i64 0 from rfl) (by rw [r];rfl))};{go_wp2_with fail;exact o.o _ (Eq.trans (show _=Value.int .i64 1 from rfl) (by rw [r];rfl))};{go_wp2_with fail;exact o.o _ (Eq.trans (show _=Value.int .i64 (-1) from rfl) (by rw [r];rfl))};{go_wp2_with fail;exact o.o _ (Eq.trans (show _=Value.int .i64 0 from rfl) (by rw [r];rfl))}};{go_wp2_with fail;refine o.o _ (Eq.trans (show _=Value.int .i64 (1) from rfl) ?_);unfold kY;rw [AA X,AL u]}
theorem aGK (l z a) (h:Ak l z a) (w):Calls prog 152 #[l,z,a] w (jY (.float .f64 (oM l z a)) w):=by
 have u:=λw=>zY (P:=prog) 112 h.u w;have A:=λw=>V4 (P:=prog) 112 h.r w;have B:=λw=>Ua (P:=prog) 112 h.w w;have J:=λw=>f_add (P:=prog) 112 h.c w;have Q:=λw=>zY (P:=prog) 112 h.g w;have o:=wE (.float .f64 (oM l z a)) w;generalize jY _ w=r at*;clear h;go_enter func152,ntmps152;exact aC (o.o _ rfl)
theorem aCT (l z a) (h:Ak l z a) (w):Calls prog 50 #[l,z,a] w (jY (.float .f64 (oM l z a)) w):=by
 have u:=λw=>zY (P:=prog) 112 h.u w;have A:=λw=>V4 (P:=prog) 112 h.r w;have B:=λw=>Ua (P:=prog) 112 h.w w;have J:=λw=>f_add (P:=prog) 112 h.c w;have Q:=λw=>zY (P:=prog) 112 h.g w;have o:=wE (.float .f64 (oM l z a)) w;generalize jY _ w=r at*;clear h;go_enter func50,ntmps50;exact aC (o.o _ rfl)
theorem Vz {x a b} (o:Fi x a b) (w):Calls prog 51 #[.float .f64 x] w (jY (.int .u64 x) w):=by
 have B:=Cc o;have A:=Hy x;have r:=wE (.int .u64 x) w;generalize jY _ w=u at*;clear o;go_enter func51,ntmps51;exact aC (r.o _ rfl)
theorem Tryz.aBI:(prog.info? 141).map (λi=>(i.zero,i.size,i.bytes))=some (some (.agg #[Z 0,Z 0,Z 0,Z 0]),4,32):=by kernel_rfl
theorem Yw (x):(fD x).length=4:=rfl
theorem F8 {w:World} {base v n xs} (h:w.ownsRow base 141 4 v n xs) (j) (o:v.ownBlock=some j):base<=j:=by
 obtain ⟨_,⟨rfl,_⟩|⟨g,cap,u,rfl,r,_⟩⟩:=h;{cases o};{cases o;exact r}
theorem O5 {S w w' base v n xs} (h:w.ownsRow base 141 4 v n xs) (f:Fr S w w') (B:∀j,v.ownBlock=some j->¬S j):w'.ownsRow base 141 4 v n xs:=by
 obtain ⟨o,u|⟨g,cap,r,rfl,Q,J,A⟩⟩:=h;{exact ⟨o,.inl u⟩};{exact ⟨o,.inr ⟨g,cap,r,rfl,Q,f.aB J (B g rfl),A⟩⟩}
theorem aFs {w u base v L} (h:w.ownsRow base 141 4 v L.length (L.flatMap fD)) (ab:∀k,base<=k->u k=0):aZ fD 4 w u v L:=by
 obtain ⟨_,⟨rfl,A⟩|⟨g,cap,ag,rfl,J,r,aa,ah,ae,af⟩⟩:=h;{have B:=GL.1 A;subst B;exact ⟨none,0,rfl,λh=>absurd rfl h⟩}
 ·refine ⟨some (I g 0),cap,rfl,λ_=>⟨g,0,rfl,ab g J,lt_of_block r,λj x Q=> ?_⟩⟩;have ad:=(bF.of_block (c:=fD) (n:=4) (t:=141) Yw r (Nat.le_of_eq ae.symm) aa (λk ai o=>by
   rw [<-af,EL] at o;split at o;{simpa using o}
   ·cases o)).row j x Q
  rw [BP];exact ad
def H6 (w:World) (o:Nat->Nat) (r:aG) (st:List Sz) (dv:Value) (e:Ending) (w':World):Prop:=∃rv,e=.returned (.agg (r.cells rv dv))/\aZ fD 4 w' o rv st/\Fr No w w'
theorem aDZ (ag o ce az r w) (bt:aF w ag) (bg:aZ fD 4 w ag ce r) (hd:∃A J B,az=.slice A J B) (bu:r.length<=1000):
  Calls prog 19 #[.agg (o.cells ce az)] w (H6 w ag o r az):=by
 (have du:prog.follows .mixedOrders=true:=N);obtain ⟨bs,cs,rfl⟩:=bg.slice;obtain ⟨A,J,B,rfl⟩:=hd;have cw:Hid (∀ar w',aZ fD 4 w' ag ar r->Fr No w w'->H6 w ag o r (.slice A J B) (.returned (.agg (o.cells ar (.slice A J B)))) w'):=λar w' dj dk=>⟨ar,rfl,dj,dk⟩;generalize H6 w ag o r _=dw at*;obtain ⟨dt,Q,bx,bz,ca⟩:=EM Tryz.aBI;have cn:=lH Q;have cz:=lH bx;have da:=lH bz;have db:=lH ca;have cu:=lH bu;have bj:=lH bt;have bl:=lH bg;(have dn:∀w':World,(Instr.build 32 #[(0,Z o.c),(1,Z o.l),(2,Z o.q)]).run prog w'=.ok (.agg #[o.c,o.l,o.q]) w':=λw'=>by kernel_rfl);(have dp:∀w':World,(Instr.build 36 #[(0,.agg #[o.c,o.l,o.q]),(1,Z o.kind),(2,.string (ba o.path)),(3,.string (ba o.tq)),(4,.bool o.dir),(5,.bool o.wr),(6,.bool o.cl),(7,Z o.h),(8,Z o.nx),(9,Z o.sw),(11,.slice A J B)]).run prog w'=.ok (.agg #[o.c,o.l,o.q,o.kind,(ba o.path),(ba o.tq),o.dir,o.wr,o.cl,o.h,o.nx,o.sw,nS,.slice A J B]) w':=λw'=>by kernel_rfl);clear Q bx bz ca bt bg bu;unfold aG.cells at*;have cb:(((w.alloc (.cells #[o.c,o.l,o.q,o.kind,(ba o.path),(ba o.tq),o.dir,o.wr,o.cl,o.h,o.nx,o.sw,.slice bs r.length cs,.slice A J B] 41)).alloc (.cells #[Z 0,Z 0,Z 0,Z 0,.string ⟨#[]⟩,.string ⟨#[]⟩,false,false,false,Z 0,Z 0,Z 0,nS,nS] 36)).alloc (.cells #[o.c,o.l,o.q,o.kind,(ba o.path),(ba o.tq),o.dir,o.wr,o.cl,o.h,o.nx,o.sw,nS,.slice A J B] 36)).heap[w.heap.size]? =some (.cells #[o.c,o.l,o.q,o.kind,(ba o.path),(ba o.tq),o.dir,o.wr,o.cl,o.h,o.nx,o.sw,.slice bs r.length cs,.slice A J B] 41 (0,0)):=(((Fr.refl (S:=No) _).alloc _).alloc _).aB (aT w _) id;(have cc:(((w.alloc (.cells #[o.c,o.l,o.q,o.kind,(ba o.path),(ba o.tq),o.dir,o.wr,o.cl,o.h,o.nx,o.sw,.slice bs r.length cs,.slice A J B] 41)).alloc (.cells #[Z 0,Z 0,Z 0,Z 0,.string ⟨#[]⟩,.string ⟨#[]⟩,false,false,false,Z 0,Z 0,Z 0,nS,nS] 36)).alloc (.cells #[o.c,o.l,o.q,o.kind,(ba o.path),(ba o.tq),o.dir,o.wr,o.cl,o.h,o.nx,o.sw,nS,.slice A J B] 36)).heap[w.heap.size+1]? =some (.cells #[Z 0,Z 0,Z 0,Z 0,.string ⟨#[]⟩,.string ⟨#[]⟩,false,false,false,Z 0,Z 0,Z 0,nS,nS] 36 (0,0)):=by{(have h:((w.alloc (.cells #[o.c,o.l,o.q,o.kind,(ba o.path),(ba o.tq),o.dir,o.wr,o.cl,o.h,o.nx,o.sw,.slice bs r.length cs,.slice A J B] 41)).alloc (.cells #[Z 0,Z 0,Z 0,Z 0,.string ⟨#[]⟩,.string ⟨#[]⟩,false,false,false,Z 0,Z 0,Z 0,nS,nS] 36)).heap[w.heap.size+1]? =some (.cells #[Z 0,Z 0,Z 0,Z 0,.string ⟨#[]⟩,.string ⟨#[]⟩,false,false,false,Z 0,Z 0,Z 0,nS,nS] 36 (0,0)):=by simpa using aT (w.alloc _) _);exact ((Fr.refl (S:=No) _).alloc _).aB h id});(have cd:(((w.alloc (.cells #[o.c,o.l,o.q,o.kind,(ba o.path),(ba o.tq),o.dir,o.wr,o.cl,o.h,o.nx,o.sw,.slice bs r.length cs,.slice A J B] 41)).alloc (.cells #[Z 0,Z 0,Z 0,Z 0,.string ⟨#[]⟩,.string ⟨#[]⟩,false,false,false,Z 0,Z 0,Z 0,nS,nS] 36)).alloc (.cells #[o.c,o.l,o.q,o.kind,(ba o.path),(ba o.tq),o.dir,o.wr,o.cl,o.h,o.nx,o.sw,nS,.slice A J B] 36)).heap[w.heap.size+1+1]? =some (.cells #[o.c,o.l,o.q,o.kind,(ba o.path),(ba o.tq),o.dir,o.wr,o.cl,o.h,o.nx,o.sw,nS,.slice A J B] 36 (0,0)):=by simpa using aT ((w.alloc _).alloc _) _);have fA:Fr No w (((w.alloc (.cells #[o.c,o.l,o.q,o.kind,(ba o.path),(ba o.tq),o.dir,o.wr,o.cl,o.h,o.nx,o.sw,.slice bs r.length cs,.slice A J B] 41)).alloc (.cells #[Z 0,Z 0,Z 0,Z 0,.string ⟨#[]⟩,.string ⟨#[]⟩,false,false,false,Z 0,Z 0,Z 0,nS,nS] 36)).alloc (.cells #[o.c,o.l,o.q,o.kind,(ba o.path),(ba o.tq),o.dir,o.wr,o.cl,o.h,o.nx,o.sw,nS,.slice A J B] 36)):=(((Fr.refl w).alloc _).alloc _).alloc _;(have ae:(((w.alloc (.cells #[o.c,o.l,o.q,o.kind,(ba o.path),(ba o.tq),o.dir,o.wr,o.cl,o.h,o.nx,o.sw,.slice bs r.length cs,.slice A J B] 41)).alloc (.cells #[Z 0,Z 0,Z 0,Z 0,.string ⟨#[]⟩,.string ⟨#[]⟩,false,false,false,Z 0,Z 0,Z 0,nS,nS] 36)).alloc (.cells #[o.c,o.l,o.q,o.kind,(ba o.path),(ba o.tq),o.dir,o.wr,o.cl,o.h,o.nx,o.sw,nS,.slice A J B] 36)).heap.size=w.heap.size+1+1+1:=D);go_enter func19,ntmps19;go_wp2_with fail;generalize ((w.alloc _).alloc _).alloc _=aa at*;have ck:=lH fA;have co:=lH cb;have cp:=lH cc;have ct:=lH cd;have ax:=lH ae;have cx:=lH (bl.o.no bj fA);have cm:Hid (aF aa ag):=lH (noS bj fA).fresh;generalize bq:w.heap.size=u at*;clear cb cc cd fA ae dn dp;go_loopw [4] (λa wr=>∃(j:Nat) (bh:Value),a=Z j/\j<=r.length/\Hid (wr.ownsRow aa 141 4 bh j ((r.take j).flatMap fD))/\Hid (wr.heap[u+1+1]? =some (.cells #[o.c,o.l,o.q,o.kind,(ba o.path),(ba o.tq),o.dir,o.wr,o.cl,o.h,o.nx,o.sw,bh,.slice A J B] 36 (0,0)))/\Hid (Fr (λk=>k=u+1+1) aa wr)) (λa _=>r.length - (intOf a).toNat);case atStart=>exact ⟨0,.slice none 0 0,rfl,BA _,lH ⟨rfl,.inl ⟨rfl,rfl⟩⟩,ct,lH (Fr.refl _)⟩
 case round=>
  obtain ⟨j,bh,rfl,al,av,au,aj⟩:=hrel;obtain ⟨a,ad,rfl⟩:=av.o.shape;have ae:=ax.o;have di:wr.cell? (I u 12)=some (.slice bs r.length cs):=aj.o.cell_of (aA co.o _) (by dsimp only;omega);have cf:=lH di;by_cases ap:j<r.length
  ·(have bv:r≠ []:=by{intro e;subst e;simp at ap});obtain ⟨b,off,rfl,ds,dq,bw⟩:=cx.o.at bv;(have ed:b<u:=by{obtain ⟨dx,eg,e,_,dm,_⟩:=bl.o.at bv;cases e;rw [<-bq];exact dm});have ay:=bw j r[j] (AC ap);have dv:(j:Int)<(r.length:Int):=X;have eh:(0:Int)<=(j:Int):=X
   have ec:=cu.o;have cy:Hid (r.take (j+1)=r.take j++ [r[j]]):=lH (by rw [DJ,AC ap];rfl);generalize r[j]=x at*;unfold fD at ay;have bb:=aj.o.drew;have bm:Hid (wr.drew.rangeAt b (off+j*4) [x.1.1,x.1.2.1,x.1.2.2,x.2]):=λi an Q=>bb.cell_of (ay i an Q) (by dsimp only;omega);have dg:Hid (wr.drew.rangeAt b (off+j*4) (cS x.1)):=λi an Q=>bm.o i an (by
    match i,Q with
    | 0,Q=>exact Q
    | 1,Q=>exact Q
    | 2,Q=>exact Q)
   have df:=lH (bm.o 3 _ rfl);have cg:Hid (wr.drew.cell? (I u 12)=some (.slice (some (I b off)) r.length cs)):=(Fr.refl (S:=No) wr).drew.cell_of cf id;have dh:Hid (wr.drew.cell? (I (u+1+1) 12)=some (.slice a j ad)):=(Fr.refl (S:=No) wr).drew.cell_of (aA au.o _) id;have aw:=lH (O5 av (Fr.refl wr).drew zq);have cl:=lH bb;(have br:∀W:World,(Instr.build 141 #[(0,.agg (cS x.1)),(1,Z x.2)]).run prog W=.ok (.agg #[x.1.1,x.1.2.1,x.1.2.2,x.2]) W:=λW=>by kernel_rfl);have cj:=lH br;clear ay bw bb br ds dq;go_wp2_with fail;obtain ⟨ai,bc⟩:∃ai,wr.drew.alloc (.cells #[x.1.1,x.1.2.1,x.1.2.2,x.2] 141)=ai:=⟨_,rfl⟩
   have af:=lH bc;have ao:Hid (∀(d:Bool) (W:World),(if d=true then W=ai else W=wr.drew)->Fr No wr.drew W):=λd W h=>by
    (cases d with|true=>rw [AL rfl] at h;rw [h,<-bc];exact (Fr.refl _).alloc _|false=>rw [AA D] at h;rw [h];exact Fr.refl _)
   clear bc;refine Yu du (λd W=>if d=true then W=ai else W=wr.drew) 15 [15,16,17,18] [16] N N N N (λ_ _ d _ _ h=>by cases d<;>exact h) rfl ?_;repeat (first
    | refine Ul R ?_
    | (refine Vl (v:= ?_) R R ?_ ?_
       rotate_left 1;(intro W;have ef:=cj.o W;go_simp;(try with_reducible rfl))
       simp only [Act.put,lsA,aJ,lsS])
    | (refine F5 (v:=.agg _) R N R (λd W ab=>lV 46 (.tmp 49) R b (off+j*4) R _ _ (λi an Q=>(ao.o d W ab).cell_of (dg.o i an Q) id) underlying46 rfl Tryz.rO) ?_
       simp only [Act.put,lsA,aJ,lsS])
    | (refine F5 (v:= ?_) R N R ?_ ?_
       rotate_left 1;(intro d W ab;have e0:W.cell? (I u 12)=some (.slice (some (I b off)) r.length cs):=(ao.o d W ab).cell_of cg id;have dz:W.cell? (I (u+1+1) 12)=some (.slice a j ad):=(ao.o d W ab).cell_of dh id;have ea:W.cell? (I b (off+j*4+3))=some (Z x.2):=(ao.o d W ab).cell_of df id;clear ab;go_simp;(try with_reducible rfl))
       simp only [Act.put,lsA,aJ,lsS]))
   unfold oV;refine Nh (v:=.slice (some (I wr.drew.heap.size 0)) 1 1) R R R (λW ab=>⟨ai,by obtain rfl:W=wr.drew:=ab;go_simp;exact af.o,rfl⟩) ?_;simp only [Act.put,lsA,aJ,lsS];refine Vr R R ?_;intro W ab;obtain rfl:W=ai:=ab;simp only [EE,FW,GK,EH,ES,List.getElem_toArray,List.getElem_cons_succ,List.getElem_cons_zero,Act.put,lsA,aJ,lsS];have ee:=cl.o.size;have cv:Hid (W.ownsRow aa 141 4 (.slice a j ad) j ((r.take j).flatMap fD)):=lH (by rw [<-af.o];exact aw.o.alloc _);clear ae;refine wpList_append_lies _ R _ _ 33 R aa 141 dt _ 4 32 underlying33 cn cz da db rfl G (.slice a j ad) j ((r.take j).flatMap fD) R cv (I wr.drew.heap.size 0) 1 1 [x.1.1,x.1.2.1,x.1.2.2,x.2] R R ?d1 (by simp [Value.oneCell']) G (by unfold maxLen;omega) X ?d5 (wr.drew.heap.size+1) ?d6 ?_;(case d1=>exact World.news_of_block (cs:= #[x.1.1,x.1.2.1,x.1.2.2,x.2]) (t:=141) (fr:=(0,0)) (by rw [<-af.o];exact AQ wr.drew _));(case d5=>rw [<-af.o,fF];omega);case d6=>rw [<-af.o,fF]
   intro ak cap ah bf bd dl dr;have ae:=ax.o;have bo:Fr (λk=>aa.heap.size<=k) wr ah:=(by rw [<-af.o];exact ((Fr.refl (S:=λk=>aa.heap.size<=k) wr).drew.alloc _):Fr (λk=>aa.heap.size<=k) wr W).grown bd (λj al=> .inl (F8 aw j al));have bp:Fr (λk=>k=u+1+1) aa ah:=(by rw [<-af.o];exact aj.o.drew.alloc _:Fr (λk=>k=u+1+1) aa W).grown bd (λj al=> .inr (F8 aw j al));have aq:=bo.aB au X;have dy:ah.cell? (I (u+1+1) 12)=some (.slice a j ad):=aA aq _;have ei:=aU aq 12;have dc:Hid ((ah.setCell (I (u+1+1) 12) (.slice (some (I ak 0)) (j+1) cap)).heap[u+1+1]? =some (.cells #[o.c,o.l,o.q,o.kind,(ba o.path),(ba o.tq),o.dir,o.wr,o.cl,o.h,o.nx,o.sw,.slice (some (I ak 0)) (j+1) cap,.slice A J B] 36 (0,0))):=lH (by simpa using setCell_at aq 12 _);have ch:Hid (Fr (λk=>k=u+1+1) aa (ah.setCell (I (u+1+1) 12) (.slice (some (I ak 0)) (j+1) cap))):=bp.setCell (.inl rfl) _;have de:Hid ((ah.setCell (I (u+1+1) 12) (.slice (some (I ak 0)) (j+1) cap)).ownsRow aa 141 4 (.slice (some (I ak 0)) (j+1) cap) (j+1) ((r.take (j+1)).flatMap fD)):=lH (by
    have e:(r.take (j+1)).flatMap fD=(r.take j).flatMap fD++ [.int .i64 x.1.1,.int .i64 x.1.2.1,.int .i64 x.1.2.2,.int .i64 x.2]:=by{rw [cy.o,EX];simp [fD]}
    rw [e];exact O5 bf (dZ ah (u+1+1) 12 _) (λk am e=>by
     have:=F8 bf k am;omega))
   clear bf bd dl dr bo bp aq ae;go_wp2_with fail;go_roundw;{exact ⟨j+1,_,by go_num,ap,de,dc,ch⟩};simp [intOf];omega
  ·(have be:j=r.length:=X);have dv:¬(j:Int)<(r.length:Int):=X
   have bn:=lH (aj.o.aB cp X);have bk:Hid (wr.ownsRow aa 141 4 (.slice a j ad) r.length (r.flatMap fD)):=lH (by have:=av.o;rw [be,AX] at this;rw [be];exact this);have ci:=lH bq;clear be ae;go_wp2_with (first|(refine wR 36 au ?_)|(refine wS 36 bn ?_));have dd:=aW (cs':= #[o.c,o.l,o.q,o.kind,(ba o.path),(ba o.tq),o.dir,o.wr,o.cl,o.h,o.nx,o.sw,.slice a j ad,.slice A J B]) bn.o;have bi:Fr (λk=>k=u+1) wr (wr.setRow (u+1) #[o.c,o.l,o.q,o.kind,(ba o.path),(ba o.tq),o.dir,o.wr,o.cl,o.h,o.nx,o.sw,.slice a j ad,.slice A J B]):=Fr.setRow (S:=λk=>k=u+1) (Fr.refl _) (.inl rfl) _;refine AZ (v:=.agg _) (BH rfl _ _ (u+1) 36 _ (0,0) _ rfl dd underlying36 rfl Tryz.zB) rfl ?_;have ae:=ax.o;have eb:=ci.o;exact cw.o _ _ (aFs (O5 bk bi (λk am e=>by
    have:=F8 bk k am;omega)) (λk am=>cm.o k am)) (ck.o.trans ((aj.o.mono (T:=λk=>k=u+1\/k=u+1+1) (λ_ _ e=>Or.inr e)).trans bi (λ_ _ e=>Or.inl e)) (λj al e=>by omega))
inductive tX (r:aG) (st:List Sz) (dl:List Dl) (B:St):St->Prop
 | same:tX r st dl B B
 | make:r.kind=1->(bV B.T r.path).1=0->tX r st dl B (lS B r)
 | remove:r.kind=2->(lookOf B.T r.path).1=0->mayRemove B r->(bM B.T r.path r.dir).1=0->tX r st dl B (lJ B r)
 | move:r.kind=3->gJ B.T r.path r.tq=0->tX r st dl B {B with T:=jB B.T r.path r.tq}
 | opens:r.kind=6->(lookOf B.T r.path).1=0->(lookOf B.T r.path).2.2=false->(eY B.K r.c (lookOf B.T r.path).2.1 r.wr).1=0->tX r st dl B {B with K:=(eY B.K r.c (lookOf B.T r.path).2.1 r.wr).2.2}
 | commit (x:Tok):r.kind=7->dF B.K r.c r.h=some x->¬(x.wr=false/\¬(dl= []/\st= []))->(dY B r.sw r.nx st r.c r.l).1=0->(∀d∈dl,kW (dY B r.sw r.nx st r.c r.l).2 x.i d)->
   tX r st dl B {nM B st dl r.c.toNat r.nx x.i.toNat with K:=kT r.cl B.K x}
theorem aCY (u r Q J) (ab:1<=r.kind/\r.kind<=8):tX r Q J u (iG r Q J r.kind u).2.2/\((iG r Q J r.kind u).1≠0->(iG r Q J r.kind u).2.2=u):=by
 unfold iG;split;{rename_i h;unfold lD;split;{rename_i o;exact ⟨.make h o,λe=>absurd rfl e⟩};{exact ⟨.same,λ_=>rfl⟩}};{split;{rename_i h;unfold jA;split;{exact ⟨.same,λ_=>rfl⟩};{rename_i o;split;{exact ⟨.same,λ_=>rfl⟩};{rename_i A;split;{exact ⟨.same,λ_=>rfl⟩};{rename_i B;exact ⟨.remove h (BI o) (BI A) (BI B),λe=>absurd rfl e⟩}}}};{split;{rename_i h;unfold oL;split;{rename_i o;exact ⟨.move h o,λe=>absurd rfl e⟩};{exact ⟨.same,λ_=>rfl⟩}};{split;{unfold rG;split<;>exact ⟨.same,λ_=>rfl⟩};{split;{unfold rH;split<;>exact ⟨.same,λ_=>rfl⟩};{split;{rename_i h;unfold jF;split;{exact ⟨.same,λ_=>rfl⟩};{rename_i o;split;{exact ⟨.same,λ_=>rfl⟩};{rename_i A;split;{exact ⟨.same,λ_=>rfl⟩};{rename_i B;exact ⟨.opens h (BI o) (U A) (BI B),λe=>absurd rfl e⟩}}}};{split;{rename_i h;unfold jG;split;{exact ⟨.same,λ_=>rfl⟩};{rename_i x aa;split;{exact ⟨.same,λ_=>rfl⟩};{rename_i o;split;{exact ⟨.same,λ_=>rfl⟩};{rename_i A;split;{exact ⟨.same,λ_=>rfl⟩};{rename_i B;exact ⟨.commit x h aa o (BI A) (BI B),λe=>absurd rfl e⟩}}}}};{unfold mapD;split<;>exact ⟨.same,λ_=>rfl⟩}}}}}}}
inductive rY (S:St) (r:aG) (st:List Sz) (dl:List Dl):St->Prop
 | same:rY S r st dl S
 | boot:rY S r st dl (uX S)
 | swap:rY S r st dl (tJ S)
 | moved:r.c=4/\r.l=S.boots->(dY S r.sw r.nx st 4 S.boots).1=0->(∀d∈dl,oU (dY S r.sw r.nx st 4 S.boots).2 d)->rY S r st dl (sS S st dl r.nx)
 | asked (kd:Int) (bs:List UInt8) (D:St):kZ r.c r.l r.q->kd=0\/kd=3->dH S.W r.c r.l r.q=(kd,none)->tX r st dl (dL S r.c.toNat kd) D->rY S r st dl {D with W:=upd S.W r.c.toNat (some (r.l,r.q,bs))}
theorem Wp (S c o):(dL S c o).W=S.W:=by unfold dL;split<;>rfl
theorem I9 {S o A u x} (hd:oC S o A u x):rY S o A u x.2:=by
 unfold oC at hd;split at hd;{rw [hd];show rY S o A u (fG (kH S o)).2;rw [nT];unfold kH;split;{exact .boot};{exact .same}};{split at hd;{rw [hd];show rY S o A u (fG (kP S o)).2;rw [nT];unfold kP;split;{exact .swap};{exact .same}};{split at hd;{rw [hd];show rY S o A u (fG (jP S o A u)).2;rw [nT];unfold jP;split;{exact .same};{rename_i aa;split;{exact .same};{rename_i ab;split;{exact .same};{rename_i ad;exact .moved (BI aa) (BI ab) (BI ad)}}}};{split at hd;{rw [hd];exact .same};{rename_i ag;split at hd;{rw [hd.1];exact .same};{split at hd;{rw [hd];exact .same};{rename_i ae J;rcases ask_cases S.W o.c o.l o.q with r|⟨ai,r⟩;{rw [r] at J;exact absurd rfl J};{(have Q:kZ o.c o.l o.q:=by{by_cases Q:kZ o.c o.l o.q;{exact Q};{have:dH S.W o.c o.l o.q=(2,none):=AA Q;rw [this] at J;exact absurd rfl J}});(have af:∃B:Int,(B=0\/B=3)/\dH S.W o.c o.l o.q=(B,none):=by{rcases r with r|r|r|⟨y,_,r⟩;{exact ⟨3,.inr rfl,r⟩};{rw [r] at J;exact absurd rfl J};{exact ⟨0,.inl rfl,r⟩};{rw [r] at ae;exact absurd rfl ae}});obtain ⟨B,ah,r⟩:=af;rw [r] at hd;rw [hd];have aa:=(aCY (dL S o.c.toNat B) o A u (BI ag)).1;have ab:=rY.asked (bs:=(iQ (fG (iG o A u o.kind (dL S o.c.toNat B))).1 (fG (iG o A u o.kind (dL S o.c.toNat B))).2.swaps).bytes) B _ Q ah r aa;(have ad:(tell (uC (fG (iG o A u o.kind (dL S o.c.toNat B))) o.c.toNat o)).2={(iG o A u o.kind (dL S o.c.toNat B)).2.2 with W:=upd S.W o.c.toNat (some (o.l,o.q,(iQ (fG (iG o A u o.kind (dL S o.c.toNat B))).1 (fG (iG o A u o.kind (dL S o.c.toNat B))).2.swaps).bytes))}:=by{unfold tell uC;dsimp only;rw [nT,J5,Wp]});rw [ad];exact ab}}}}}}}
theorem Qk {L c} (h:fU L c<4):∀x∈L,¬(x.c=c/\x.h=(fU L c:Int)):=by
 unfold fU at h ⊢;(cases r:(List.range 4).find? (λh:Nat=>(dF L c h).isNone) with|none=>rw [r] at h;exact absurd h G|some k=>rw [Option.getD_some];have u:=KT r;intro x A e;(have o:dF L c k=none:=by simpa using u);unfold dF at o;have:=EU.1 o x A;simp [e] at this)
def vJ (x y:Tok):Prop:=x.c<y.c\/x.c=y.c/\x.h<y.h
def lF (L:List Tok):Prop:=L.Pairwise vJ
def nD (c:Int):List Tok->Nat×Nat->Nat×Nat
 | [],s=>s
 | x::r,s=>nD c r (if x.c=c then (s.1+1,if x.h=(s.2:Int) then s.2+1 else s.2) else s)
theorem Rt (c:Int):∀(L M:List Tok) (s:Nat×Nat),nD c (L++M) s=nD c M (nD c L s)
 | [],_,_=>rfl
 | x::r,M,s=>by rw [CQ];exact Rt c r M _
structure I7 (c:Int) (L:List Tok) (m h:Nat):Prop where
 all:∀k:Nat,k<h->∃x∈L,x.c=c/\x.h=(k:Int)
 no:∀x∈L,x.c=c->x.h≠(h:Int)
 most:m=h/\(∀x∈L,x.c=c->x.h<(h:Int))\/h<m/\∃x∈L,x.c=c/\(m:Int)<=x.h
theorem aCp (c L) (Q:lF L) (J:∀x∈L,0<=x.h):I7 c L (nD c L (0,0)).1 (nD c L (0,0)).2:=by
 have key:∀(R B:List Tok) (m h:Nat),lF (B++R)->(∀x∈B++R,0<=x.h)->I7 c B m h->I7 c (B++R) (nD c R (m,h)).1 (nD c R (m,h)).2:=by
  intro R;induction R with
  | nil=>intro B m h _ _ H;rw [EK];exact H
  | cons x r ih=>
   intro B m h Q J H;rw [show B++x::r=(B++ [x])++r by simp] at Q J ⊢;have ad:∀y∈B,vJ y x:=λy o=>by
    have u:=(JX.1 Q).1;exact (JX.1 u).2.2 y o x D
   have aj:=J x D;unfold nD;by_cases aa:x.c=c
   ·rw [AL aa];have af:∀y∈B,y.c=c->y.h<x.h:=λy o e=>by
     rcases ad y o with u|u;{omega};{exact u.2}
    by_cases ae:x.h=(h:Int);{rw [AL ae];refine ih _ _ _ Q J ⟨λk ab=> ?_,λy o A=> ?_,?_⟩;{rcases BK k h with u|u;{obtain ⟨y,a,b⟩:=H.all k u;exact ⟨y,FV _ a,b⟩};{exact ⟨x,by simp,aa,by omega⟩}};{rcases BM.1 o with o|o;{have:=af y o A;omega};{rw [BB] at o;subst o;omega}};{rcases H.most with ⟨u,ag⟩|⟨u,y,o,A,ah⟩;{refine .inl ⟨by dsimp only;omega,λy o A=> ?_⟩;rcases BM.1 o with o|o;{have:=ag y o A;dsimp only;omega};{rw [BB] at o;subst o;dsimp only;omega}};{have:=af y o A;exfalso;omega}}};{rw [AA ae];(have ai:(h:Int)<x.h:=by{rcases JZ x.h (h:Int) with u|u|u;{obtain ⟨y,a,b,d⟩:=H.all x.h.toNat X;have:=af y a b;omega};{exact absurd u ae};{exact u}});refine ih _ _ _ Q J ⟨λk ab=> ?_,λy o A=> ?_,.inr ⟨?_,x,by simp,aa,?_⟩⟩;{obtain ⟨y,a,b⟩:=H.all k ab;exact ⟨y,FV _ a,b⟩};{rcases BM.1 o with o|o;{exact H.no y o A};{rw [BB] at o;subst o;exact ae}};{rcases H.most with ⟨u,_⟩|⟨u,_⟩<;>dsimp only<;>omega};{rcases H.most with ⟨u,_⟩|⟨u,y,o,A,ah⟩;{dsimp only;omega};{have:=af y o A;dsimp only;omega}}}
   {rw [AA aa];refine ih _ _ _ Q J ⟨λk ab=> ?_,λy o A=> ?_,?_⟩;{obtain ⟨y,a,b⟩:=H.all k ab;exact ⟨y,FV _ a,b⟩};{rcases BM.1 o with o|o;{exact H.no y o A};{rw [BB] at o;subst o;exact absurd A aa}};{rcases H.most with ⟨u,ag⟩|⟨u,y,o,A,ah⟩;{refine .inl ⟨u,λy o A=> ?_⟩;rcases BM.1 o with o|o;{exact ag y o A};{rw [BB] at o;subst o;exact absurd A aa}};{exact .inr ⟨u,y,FV _ o,A,ah⟩}}}
 exact key L [] 0 0 (U Q) (U J) ⟨λk ab=>absurd ab X,λx ad=>by simp at ad,.inl ⟨rfl,λx ad=>by simp at ad⟩⟩
theorem aEX {L c} {k:Nat} {x} (u:x∈L) (o:x.c=c) (r:x.h=(k:Int)):(dF L c k).isSome=true:=by
 unfold dF;rw [List.find?_isSome];exact ⟨x,u,by simp [o,r]⟩
theorem aC0 {L c h} (o:∀x∈L,x.c=c->x.h≠h):(dF L c h).isNone=true:=by
 unfold dF;rw [Option.isNone_iff_eq_none,EU];intro x r e;simp only [BO,beq_iff_eq] at e;exact o x r e.1 e.2
theorem aBo {L c} (ab:lF L) (u:∀x∈L,small x):(4<=(nD c L (0,0)).1↔4<=fU L c)/\(fU L c<4->(nD c L (0,0)).2=fU L c):=by
 have H:=aCp c L ab (λx o=>(u x o).2.2.1);generalize (nD c L (0,0)).1=m at*;generalize (nD c L (0,0)).2=h at*;have J:h<=4:=by{rcases BK 4 h with r|r;{obtain ⟨x,o,_,e⟩:=H.all 4 r;have:=(u x o).2.2.2;omega};{exact r}}
 have Q:=Sl J (λk aa=>by
  obtain ⟨x,o,A,B⟩:=H.all k aa;exact aEX o A B) (λ_=>aC0 H.no)
 rw [Q];refine ⟨?_,λ_=>rfl⟩;rcases H.most with ⟨r,_⟩|⟨r,x,o,_,ad⟩;{rw [r]};{have:=(u x o).2.2.2;omega}
def oD (c:Int) (h:Nat) (y:Tok):Bool:=decide (c<y.c)||decide (y.c=c)&&decide ((h:Int)<y.h)
theorem Wi {L c i wr} (B:∀x∈L,x.c=c->x.h≠(fU L c:Int)):
  L.takeWhile (λx=>decide (0<kG ⟨c,fU L c,i,wr⟩ x))++⟨c,fU L c,i,wr⟩::L.dropWhile (λx=>decide (0<kG ⟨c,fU L c,i,wr⟩ x))=iK (oD c (fU L c)) ⟨c,fU L c,i,wr⟩ L:=by
 generalize fU L c=h at*;(induction L with|nil=>rfl|cons y r ih=>have aa:=B y BL;(have e:oD c h y= !decide (0<kG ⟨c,h,i,wr⟩ y):=by{unfold oD kG;dsimp only;by_cases A:c=y.c;{subst A;have:=aa rfl;rw [AL rfl];simp only [DR,decide_false,Bool.false_or,decide_true,Bool.true_and];by_cases u:(h:Int)<y.h;{(have o:¬(0<(h:Int) - y.h):=X);rw [BN u,BC o];rfl};{(have o:0<(h:Int) - y.h:=X);rw [BC u,BN o];rfl}};{rw [AA A];have J:¬y.c=c:=λe=>A e.symm;simp only [J,decide_false,Bool.false_and,Bool.or_false];by_cases u:c<y.c;{(have o:¬(0<c - y.c):=X);rw [BN u,BC o];rfl};{(have o:0<c - y.c:=X);rw [BC u,BN o];rfl}}});rw [List.takeWhile_cons,List.dropWhile_cons];unfold iK;rw [e];(cases hd:decide (0<kG ⟨c,h,i,wr⟩ y) with|true=>simp only [IJ,Bool.not_true,DT,GG];rw [<-ih (λx Q=>B x (BJ _ Q))];rfl|false=>simp))
theorem lF.ins {L} (J:lF L) {x} {h:Nat} (ae:x.h=(h:Int)) (B:∀y∈L,y.c=x.c->y.h≠(h:Int)):lF (iK (oD x.c h) x L):=by
 unfold lF at*;(induction L with|nil=>exact List.pairwise_singleton _ _|cons y r ih=>obtain ⟨A,Q⟩:=ED.1 J;unfold iK;split;{rename_i u;(have aa:vJ x y:=by{unfold oD at u;simp only [JD,BV,BO] at u;unfold vJ;omega});refine ED.2 ⟨λz o=> ?_,J⟩;rcases CB.1 o with rfl|o;{exact aa};{have:=A z o;unfold vJ at*;omega}};{rename_i u;have ab:=B y BL;(have ad:vJ y x:=by{unfold oD at u;simp only [JD,BV,BO,not_or,not_and] at u;unfold vJ;by_cases e:y.c=x.c;{have:=u.2 e;have:=ab e;omega};{omega}});refine ED.2 ⟨λz o=> ?_,ih Q (λz o=>B z (BJ _ o))⟩;rcases (Gg _ _ _ _).1 o with rfl|o;{exact ad};{exact A z o}})
theorem lF.turn {S S' o aa B} (h:lF S.K) (t:rY S o aa B S'):lF S'.K:=by
 (cases t with|same=>exact h|boot=>exact h|swap=>exact h|moved=>exact h|asked kd bs D hm hk ha hd=>(have r:lF (dL S o.c.toNat kd).K:=by{unfold dL;split;{exact List.Pairwise.filter _ h};{exact h}});(cases hd with|same=>exact r|make=>unfold lS;split<;>exact r|remove=>unfold lJ;split<;>exact r|move=>exact r|commit x _ A _ _ _=>show lF (kT o.cl (dL S o.c.toNat kd).K x);unfold kT;split;{exact List.Pairwise.filter _ r};{exact r}|opens _ h1 h2 h3=>generalize (lookOf (dL S o.c.toNat kd).T o.path).2.1=i at*;show lF (eY (dL S o.c.toNat kd).K o.c i o.wr).2.2;generalize (dL S o.c.toNat kd).K=L at*;unfold eY;split;{exact r};{rename_i a1;split;{exact r};{have Q:=Qk (L:=L) (c:=o.c) X;have u:∀x∈L,x.c=o.c->x.h≠(fU L o.c:Int):=λx A e J=>Q x A ⟨e,J⟩;rw [Wi u];exact r.ins (x:=⟨o.c,fU L o.c,i,o.wr⟩) rfl u}}))
theorem Tryz.Lu:(prog.info? 329).map (·.size)=some 4:=by kernel_rfl
theorem pK:iW cO 4 329 234:=⟨underlying234,by
 obtain ⟨i,o,r,u,A⟩:=EM (show (prog.info? 329).map (λi=>(i.zero,i.size,i.bytes))=some (some (.agg #[Z 0,Z 0,Z 0,false]),4,32) by kernel_rfl);exact ⟨i,_,o,r,u,rfl,by omega⟩,by decide,λ_=>rfl,λx B hu=>by
  simp [cO] at hu;rcases hu with rfl|rfl|rfl|rfl<;>rfl⟩
def sO (w:World) (k:Nat) (L:List Tok):Prop:=∃v,w.heap[k]? =some (.cells #[v] 236 (0,0))/\aI cO 4 w v L
theorem sO.no {w w' k L} (h:sO w k L) (f:Fr No w w'):sO w' k L:=by
 obtain ⟨v,o,r⟩:=h;exact ⟨v,f.aB o id,r.no f⟩
def sW (base:Nat) (w:World) (k:Nat) (L:List Tok):Prop:=∃v,w.heap[k]? =some (.cells #[v] 236 (0,0))/\aN cO 4 329 w base v L
theorem sW.any {base w k L} (h:sW base w k L):sO w k L:=by
 obtain ⟨v,o,r⟩:=h;exact ⟨v,o,r.any⟩
def wJ (w:World) (k:Nat) (L':List Tok) (v:Value) (e:Ending) (w':World):Prop:=e=.returned v/\Fr (λj=>j=k) w w'/\sW w w' k L'
theorem aGP (k) (i:Int) (L w) (h:sO w k L) (ao:L.length<=1000000):Calls prog 275 #[Y k,i] w (dR (.bool (L.any λx=>x.i==i)) w):=by
 obtain ⟨v,B,aa⟩:=h;obtain ⟨base,cap,rfl,ab⟩:=aa.rd;have am:w.cell? (I k 0)=some (.slice base L.length cap):=aA B _;have af:=lH ab;have A:Hid (∀b:Bool,(b=true↔∃x∈L,(x.i==i)=true)->dR (.bool (L.any λx=>x.i==i)) w (.returned (.bool b)) w):=λb e=>by
  rw [show (L.any λx=>x.i==i)=b by rw [MF,e,List.any_eq_true]];exact dR.mk
 generalize dR (.bool (L.any λx=>x.i==i)) w=al at*;clear B aa ab;go_enter func275,ntmps275;go_wp2_with fail;go_loopw [5] (λa wr=>∃j:Nat,a=Z j/\j<=L.length/\Hid (∀y∈L.take j,(y.i==i)=false)/\wr=w) (λa _=>L.length - (intOf a).toNat);case atStart=>exact ⟨0,rfl,BA _,lH D,rfl⟩
 case round=>
  obtain ⟨j,rfl,an,u,rfl⟩:=hrel;by_cases o:j<L.length;{obtain ⟨b,off,rfl,J⟩:=af.o.at_ j o;have aj:(j:Int)<(L.length:Int):=X;have ah:=J 2 _ rfl;have ag:=lH (AC o);have ad:=lH (BF o);generalize L[j]=y at*;obtain ⟨ap,aq,ak,ar⟩:=y;dsimp only at ah;clear J;(cases Q:(ak==i) with|true=>have r:=lH (A.o true ⟨λ_=>⟨_,ad,Q⟩,λ_=>rfl⟩);exact aC r.o|false=>{have ae:=lH (wQ (p:=λy:Tok=>y.i==i) ag Q u);go_wp2_with fail;go_roundw;{exact ⟨j+1,by go_num,o,ae,by trivial⟩};simp [intOf];omega})}
  ·(obtain rfl:j=L.length:=by omega);have aj:¬(L.length:Int)<(L.length:Int):=X
   have r:=lH (A.o false ⟨λh=>(by cases h),λ⟨x,ai,e⟩=>by
    have:=u.o x (by rw [AX];exact ai);rw [this] at e;exact e⟩)
   exact aC r.o
theorem of_none {L c h} (o:∀y∈L,(y.c==c&&y.h==h)=false):dF L c h=none:=by
 unfold dF;exact EU.2 (λy r=>by rw [o y r];decide)
theorem Qo:∀(a:Array Value) (w:World) (b:Nat) (cs:Array Value) (o:Nat×Nat) (x:Value),a.getD 6 undef=Y b->a.getD 7 undef=x->w.heap[b]? =some (.cells cs 329 o)->cs.size=4->(results Tryz.f282 a).run prog w=.ok (.tuple #[.agg cs,x]) w:=by
 intro a w b cs o x aa u J B;have Q:=NJ (P:=prog) w b 329 329 cs o _ J underlying329 rfl (by rw [Tryz.Lu,B]);have r:a[6]?.getD undef=Y b:=by simpa using aa
 have A:a[7]?.getD undef=x:=by simpa using u
 simp [results,results282,asAddr,r,A,Q]
theorem Oi (k) (c h:Int) (L w) (av:sO w k L) (be:L.length<=1000000):Calls prog 282 #[Y k,c,h] w (rU w (dF L c h)):=by
 obtain ⟨v,ak,ao⟩:=av;obtain ⟨base,cap,rfl,ap⟩:=ao.rd;(have ai:Hid (∀x w',dF L c h=x->Fr No w w'->rU w (dF L c h) (.returned (.tuple #[kJ (x.getD gY),x.isSome])) w'):=λx w' e f=>by rw [e];exact ⟨rfl,f⟩);generalize rU w _=bb at*;have ar:=lH ak;have aq:=lH ap;have aj:Fr No w (w.alloc (.cells #[Z 0,Z 0,Z 0,false] 329)):=(Fr.refl w).alloc _;have J:=lH (aT w (.cells #[Z 0,Z 0,Z 0,false] 329));have A:=lH aj;clear ak ao ap aj;go_enter func282,ntmps282;go_wp2_with fail;generalize aw:w.alloc _=w0 at*;clear aw;go_loopw [8] (λa wr=>∃j:Nat,a=Z j/\j<=L.length/\Hid (∀y∈L.take j,(y.c==c&&y.h==h)=false)/\wr=w0) (λa _=>L.length - (intOf a).toNat);(case atStart=>exact ⟨0,rfl,BA _,lH D,rfl⟩);(case round=>obtain ⟨j,rfl,bd,B,rfl⟩:=hrel;have bc:wr.cell? (I k 0)=some (.slice base L.length cap):=aA (A.o.aB ar.o id) _;by_cases Q:j<L.length;{obtain ⟨b,off,rfl,al⟩:=aq.o.at_ j Q;have ax:(j:Int)<(L.length:Int):=X;have o:Hid (wr.rangeAt b (off+j*4) (cO L[j])):=λi ay hu=>A.o.cell_of (al i ay hu) id;have e0:=o.o 0 _ rfl;have au:=o.o 1 _ rfl;have af:=lH (AC Q);generalize L[j]=y at*;obtain ⟨r,u,aa,ab⟩:=y;unfold cO at o;dsimp only [Nat.add_zero] at e0 au o;clear al;(cases am:(r==c) with|true=>(cases an:(u==h) with|true=>have ae:=lH (Du af.o (by simp [am,an]) B);have az:=lH (show (#[r,u,aa,ab]:Array Value).all (·.oneCell')=true from by simp [Value.oneCell']);go_wp2_with (first|(refine wL 329 o ?_)|(refine wS 329 J ?_));have ah:=aW (cs':= #[r,u,aa,ab]) J.o;have ag:Fr No w (wr.setRow w #[r,u,aa,ab]):=Fr.setRow A (.inr (AU _)) _;exact AZ (Qo _ _ w _ (0,0) (.bool true) rfl rfl ah rfl) rfl (ai.o (some ⟨r,u,aa,ab⟩) _ ae ag)|false=>{have ad:=lH (wQ (p:=λy:Tok=>y.c==c&&y.h==h) af (by simp [an]) B);go_wp2_with fail;go_roundw;{exact ⟨j+1,by go_num,Q,ad,by trivial⟩};simp [intOf];omega})|false=>{have ad:=lH (wQ (p:=λy:Tok=>y.c==c&&y.h==h) af (by simp [am]) B);go_wp2_with fail;go_roundw;{exact ⟨j+1,by go_num,Q,ad,by trivial⟩};simp [intOf];omega})};{(obtain rfl:j=L.length:=by omega);have ax:¬(L.length:Int)<(L.length:Int):=X;have ae:Hid (dF L c h=none):=of_none (by have:=B.o;rwa [AX] at this);go_wp2_with (refine wS 329 J ?_);have ah:=aW (cs':= #[Z 0,Z 0,Z 0,false]) J.o;have ag:Fr No w (wr.setRow w #[Z 0,Z 0,Z 0,false]):=Fr.setRow A (.inr (AU _)) _;exact AZ (Qo _ _ w _ (0,0) (.bool false) rfl rfl ah rfl) rfl (ai.o none _ ae ag)})
def jK (a b:Int):Int:=if a<b then -1 else if b<a then 1 else 0
def lT (x y:Stp):Int:=if jK x.1 y.1≠0 then jK x.1 y.1 else if jK x.2.1 y.2.1≠0 then jK x.2.1 y.2.1 else jK x.2.2 y.2.2
theorem Kz {a b}:jK a b<0↔a<b:=by unfold jK;split<;>(try split)<;>omega
theorem Y2 {a b}:jK a b=0↔a=b:=by unfold jK;split<;>(try split)<;>omega
theorem wP (x y):lT x y<0↔(x.1<y.1\/x.1=y.1/\(x.2.1<y.2.1\/x.2.1=y.2.1/\x.2.2<y.2.2)):=by
 unfold lT;have o:= @Kz x.1 y.1;have r:= @Y2 x.1 y.1;have u:= @Kz x.2.1 y.2.1;have A:= @Y2 x.2.1 y.2.1;have B:= @Kz x.2.2 y.2.2;split;{omega};{split<;>omega}
theorem aDR:Go.Sort.SWO (ltOf lT) where
 irrefl x:=by
  show decide (lT x x<0)=false;rw [EI,wP];omega
 trans x y z o r:=by
  have o:decide (lT x y<0)=true:=o;have r:decide (lT y z<0)=true:=r;show decide (lT x z<0)=true;rw [BV,wP] at*;omega
 ntrans x y z o r:=by
  have o:decide (lT x y<0)=false:=o;have r:decide (lT y z<0)=false:=r;show decide (lT x z<0)=false;rw [EI,wP] at*;omega
theorem aBR (x y) (o:ltOf lT x y=false) (r:ltOf lT y x=false):x=y:=by
 have o:decide (lT x y<0)=false:=o;have r:decide (lT y x<0)=false:=r;rw [EI,wP] at*;obtain ⟨a,b,c⟩:=x;obtain ⟨u,A,B⟩:=y;simp only [GX];dsimp only at o r;omega
theorem Yh (a:Int) (w):Calls prog 199 #[a] w λe w'=>e=.returned (.bool false)/\w'=w:=by
 go_enter func199,ntmps199;go_wp2_with fail;go_ret;exact ⟨by simp,rfl⟩
theorem Jg (a b:Int) (w):Calls prog 141 #[a,b] w λe w'=>e=.returned (Z (jK a b))/\w'=w:=by
 have r:=lH (Yh a w);have u:=lH (Yh b w);by_cases A:a<b;{have e:jK a b= -1:=AL A;rw [e];clear e;go_enter func141,ntmps141;go_wp2_with fail;refine cr r.o λJ o=> ?_;subst o;go_wp2_with fail;refine cr u.o λQ o=> ?_;subst o;go_wp2_with fail;go_ret;exact ⟨rfl,rfl⟩};{by_cases B:b<a;{have e:jK a b=1:=(AA A).trans (AL B);rw [e];clear e;go_enter func141,ntmps141;go_wp2_with fail;refine cr r.o λJ o=> ?_;subst o;go_wp2_with fail;refine cr u.o λQ o=> ?_;subst o;go_wp2_with fail;go_ret;exact ⟨rfl,rfl⟩};{have e:jK a b=0:=(AA A).trans (AA B);rw [e];clear e;go_enter func141,ntmps141;go_wp2_with fail;refine cr r.o λJ o=> ?_;subst o;go_wp2_with fail;refine cr u.o λQ o=> ?_;subst o;go_wp2_with fail;go_ret;exact ⟨rfl,rfl⟩}}
def vY (x y z:Int):Int:=if x≠0 then x else if y≠0 then y else z
theorem aCS (b x y z) (w:World) (A:w.cell? (I b 0)=some (Z x)) (c1:w.cell? (I b 1)=some (Z y)) (c2:w.cell? (I b 2)=some (Z z)):
  Calls prog 140 #[O b 3 3] w λe w'=>e=.returned (Z (vY x y z))/\w'=w:=by
 by_cases o:x=0;{subst o;by_cases r:y=0;{subst r;have e:vY 0 0 z=z:=(by simp [vY]);rw [e];clear e;by_cases u:z=0;{subst u;go_enter func140,ntmps140;go_wp2_with fail;refine IZ 4 ?_;rw [GR];go_wp2_with fail;rw [GR];go_wp2_with fail;rw [GR];go_wp2_with fail;rw [GR];go_wp2_with fail;go_ret;exact ⟨rfl,rfl⟩};{(have q:(z !=0)=true:=by simpa using u);clear u;go_enter func140,ntmps140;go_wp2_with fail;refine IZ 4 ?_;rw [GR];go_wp2_with fail;rw [GR];go_wp2_with fail;rw [GR];go_wp2_with fail;go_ret;exact ⟨rfl,rfl⟩}};{(have e:vY 0 y z=y:=by simp [vY,r]);have q:(y !=0)=true:=(U r);rw [e];clear e r;go_enter func140,ntmps140;go_wp2_with fail;refine IZ 4 ?_;rw [GR];go_wp2_with fail;rw [GR];go_wp2_with fail;go_ret;exact ⟨rfl,rfl⟩}};{(have e:vY x y z=x:=by simp [vY,o]);(have q:(x !=0)=true:=by simpa using o);rw [e];clear e o;go_enter func140,ntmps140;go_wp2_with fail;refine IZ 4 ?_;rw [GR];go_wp2_with fail;go_ret;exact ⟨rfl,rfl⟩}
theorem aAO (x y):vY (jK x.1 y.1) (jK x.2.1 y.2.1) (jK x.2.2 y.2.2)=lT x y:=rfl
theorem aDU (x y w):Calls prog 77 #[kX x,kX y] w λe w'=>e=.returned (Z (lT x y))/\w'=(((w.alloc (.cells (cS x) 46)).alloc (.cells (cS y) 46)).alloc (.cells #[Z (jK x.1 y.1),Z (jK x.2.1 y.2.1),Z (jK x.2.2 y.2.2)] 3)).drew:=by
 have am:prog.follows .mixedOrders=true:=N
 have ag:Fr No (w.alloc (.cells (cS x) 46)) ((w.alloc (.cells (cS x) 46)).alloc (.cells (cS y) 46)):=(Fr.refl _).alloc _;have ae:=ag.aB (aT w (.cells (cS x) 46)) id;have A:=aT (w.alloc (.cells (cS x) 46)) (.cells (cS y) 46);rw [show (w.alloc (.cells (cS x) 46)).heap.size=w.heap.size+1 by simp] at A;rw [<-aAO];obtain ⟨B,J,Q⟩:=x;obtain ⟨aa,ab,ad⟩:=y;unfold kX;dsimp only at ae A ⊢;clear ag;go_enter func77,ntmps77;go_wp2_with fail;generalize ah:(w.alloc (.cells #[B,J,Q] 46)).alloc (.cells #[aa,ab,ad] 46)=o at*;have aj:=lH ah;clear ah;generalize w.heap.size=u at*;have a0:o.cell? (I u 0)=some (Z B):=aA ae _;have a1:o.cell? (I u 1)=some (Z J):=aA ae _;have a2:o.cell? (I u 2)=some (Z Q):=aA ae _;have an:o.cell? (I (u+1) 0)=some (Z aa):=aA A _;have ao:o.cell? (I (u+1) 1)=some (Z ab):=aA A _;have ap:o.cell? (I (u+1) 2)=some (Z ad):=aA A _;clear ae A;refine qL am (λW=>W=o.drew) [15,16,17] N N N N (λ_ _ d _ _ h=>by cases d<;>exact h) rfl ?_;repeat (first
  | refine kR R ?_
  | (refine kM (v:= ?_) R R ?_ ?_
     rotate_left 1;(intro W;go_simp;(try with_reducible rfl))
     simp only [pT,aJ,lsS])
  | (refine o9 (v:=Z (jK B aa)) 141 #[B,aa] R N R ?_ (λw' r=>(Jg _ _ _).mono (λe ai h=>⟨h.1,h.2.trans r⟩)) ?_
     focus (intro W;go_simp;done)
     simp only [pT,aJ,lsS])
  | (refine o9 (v:=Z (jK J ab)) 141 #[J,ab] R N R ?_ (λw' r=>(Jg _ _ _).mono (λe ai h=>⟨h.1,h.2.trans r⟩)) ?_
     focus (intro W;go_simp;done)
     simp only [pT,aJ,lsS])
  | (refine o9 (v:=Z (jK Q ad)) 141 #[Q,ad] R N R ?_ (λw' r=>(Jg _ _ _).mono (λe ai h=>⟨h.1,h.2.trans r⟩)) ?_
     focus (intro W;go_simp;done)
     simp only [pT,aJ,lsS])
  | (refine kL (v:= ?_) R N R ?_ ?_
     rotate_left 1;(intro W r;have ak:W=o.drew:=r;subst ak;go_simp;(try with_reducible rfl))
     simp only [pT,aJ,lsS]))
 intro W r;obtain rfl:W=o.drew:=r;simp only [CX,DL,DC,CQ];go_wp2_with fail;have af:=aT o (.cells #[Z (jK B aa),Z (jK J ab),Z (jK Q ad)] 3);refine (aCS _ (jK B aa) (jK J ab) (jK Q ad) _ ((Fr.refl (S:=No) _).drew.cell_of (aA af _) id) ((Fr.refl (S:=No) _).drew.cell_of (aA af _) id) ((Fr.refl (S:=No) _).drew.cell_of (aA af _) id)).mono ?_;rintro e aq ⟨rfl,al⟩;subst al;go_wp2_with fail;go_ret;exact ⟨rfl,by rw [aj.o]⟩
def nZ (U:Stp->Option Us) (x:Stp):List Value:= [x.1,x.2.1,x.2.2,.int .i64 ((U x).getD (0,0,0)).1,.int .i64 ((U x).getD (0,0,0)).2.1,.int .i64 ((U x).getD (0,0,0)).2.2]
theorem aA8 (x y) (ab J u ad Q A:Int) (W):Calls prog 76 #[.agg #[x.1,x.2.1,x.2.2,ab,J,u],.agg #[y.1,y.2.1,y.2.2,ad,Q,A]] W λe w'=>e=.returned (Z (lT x y))/\∃q aa,w'=Go.Sort.grow (W.drewN q) aa:=by
 have o:=λr=>aDU x y r;unfold kX at o;go_enter func76,ntmps76;go_wp2_with (go_at_call 77;refine (o _).mono ?_;rintro e w' ⟨rfl,B⟩;subst B);go_ret
 exact ⟨rfl,1,_,by
  simp only [Go.Sort.alloc_eq_grow,Go.Sort.grow_grow];rfl⟩
open Go.Sort Go.Shelf
theorem aES {α:Type} [Inhabited α] (c n) (r:∀x,(c x).length=n) (J:0<n) (ss:List α):flatK c n ss.toArray=(ss.flatMap c).toArray:=by
 have ad:=nG r ss;apply ext_get!;{rw [size_flatK];simp [ad]};{intro t o;rw [size_flatK] at o;rw [get_flatK _ _ _ _ o];(have u:t / n<ss.length:=by{rw [MN] at o;exact (KQ J).2 o});have aa:t % n<n:=Nat.mod_lt _ J;have ab:=AC u;have A:(c ss[t / n])[t % n]? =some ((c ss[t / n])[t % n]'(by rw [r];exact aa)):=AC _;have B:=flat_get r ss (t / n) _ ab (t % n) _ A;rw [show t / n*n+t % n=t by rw [Nat.mul_comm];exact Nat.div_add_mod t n] at B;(have Q:ss.toArray[t / n]! =ss[t / n]:=by simp [u]);rw [Q];rw [show ((ss.flatMap c).toArray)[t]! =((ss.flatMap c)[t]?).getD default by simp,B];rw [Option.getD_some,JY,A];rfl}
theorem aAA {α:Type} [Inhabited α] {c n} (u:∀x,(c x).length=n) (aa:0<n) {t w g} {ss:List α} {o} (A:w.heap[g]? =some (.cells o t (0,0))) (ab:o.toList.take (ss.length*n)=ss.flatMap c):HoldsK c n w g 0 ss.toArray:=by
 intro j B;rw [size_flatK] at B;have J:j<ss.length*n:=by simpa using B
 refine ⟨?_,by simp [World.frozen?,A]⟩;rw [aES c n u aa];have Q:=nG u ss;have r:(o.toList.take (ss.length*n))[j]? =(ss.flatMap c)[j]? :=by rw [ab]
 rw [IU J] at r;simp only [World.cell?,A,BP];simp only [Option.isSome_none,DT,GG];rw [<-CV,r];rw [AC X];simp [Q,J]
def pI (x y:Stp):Bool:= !(ltOf lT y x)
theorem V8 (U x):(nZ U x).length=6:=rfl
theorem aAC (U x):∀v∈nZ U x,v.oneCell'=true:=λv o=>by
 simp only [nZ,CB,List.not_mem_nil,or_false] at o;rcases o with rfl|rfl|rfl|rfl|rfl|rfl<;>rfl
theorem aEr (U) (ss:List Stp) (base v w) (h:w.ownsRow base 80 6 v ss.length (ss.flatMap (nZ U))) (ap:ss.length<10000000):
  Calls prog 75 #[v,.func (.func 76) #[] #[]] w λe w'=>e=.returned (.tuple #[])/\Fr (λk=>base<=k) w w'/\aN (nZ U) 6 80 w' base v (ss.mergeSort pI):=by
 rcases h.2 with ⟨rfl,ae⟩|⟨g,cap,am,rfl,Q,r,af,ag,ao,ah⟩;{have ak:=CW ae;subst ak;have o:=AnyF.slices_SortFunc_none (P:=prog) (ρ:=Tryz.Xv) {Tryz.P8 with} none 0 (.func (.func 76) #[] #[]) w;change Calls prog 75 _ _ _ at o;refine cr o ?_;rintro w' rfl;exact ⟨rfl,Fr.refl _,.inl ⟨rfl,by simp⟩⟩}
 ·have J:=aAA (V8 U) X r ah;have ad:=enters_of func76 N rfl;have o:=AnyQ.slices_SortFunc_total Tryz.P8 6 isAgg80 sizeOf80 (nZ U) (V8 U) (λx v al=>aAC U x v al) lT aDR 76 #[] g 0 cap ss.toArray w ad
   (λm os an _ x y=>aA8 x y _ _ _ _ _ _ _) J (lt_of_block r) (by simp;omega) aBR
  change Calls prog 75 _ _ _ at o;rw [show ss.toArray.size=ss.length by simp,show ss.toArray.toList=ss by simp] at o;refine cr o ?_;rintro w' ⟨n,os,rfl⟩;have B:(ss.mergeSort pI).length=ss.length:=List.length_mergeSort _;(have ai:HoldsK (nZ U) 6 (sortWorldK (nZ U) 6 w g 0 n (ss.mergeSort pI).toArray os) g 0 (ss.mergeSort pI).toArray:=by{unfold sortWorldK;refine holdsK_grow _ _ _ _ _ _ _ ?_ (holdsK_putRowK _ _ _ _ _ _ _ (holdsK_ahead _ _ _ n _ _ _ J) (by simp [B]));unfold putRowK;simpa [Go.Sort.ahead] using lt_of_block r});refine ⟨rfl,(Gj _).mono (λk _ e=>by rw [e];exact Q),.inr ⟨g,cap,by rw [B],ag,Q,⟨⟨_,Zm _ r,?_⟩,by rw [B];exact af,λj x u i aq hu=> ?_⟩⟩⟩;{simp only [Go.Sort.putCells,Array.size_mapIdx];omega};{have A:=(AY.1 u).1;have aj:=(AY.1 hu).1;have aa:=(ai.cell (i:=j) (c:=i) (by simpa using A) aj).1;rw [BP] at aa;refine aa.trans ?_;(have ab:(ss.mergeSort pI).toArray[j]! =x:=by{rw [AC A] at u;cases u;exact (getElem!_pos (ss.mergeSort pI).toArray j (by simpa using A)).trans rfl});rw [ab,JY,hu];rfl}
def O0 (w:World) (U:Stp->Option Us) (e:Ending) (w':World):Prop:=
 ∃v ss,e=.returned v/\aN (nZ U) 6 80 w' w v ss/\ss.Nodup/\(∀x,x∈ss↔(U x).isSome=true)/\ss.Pairwise (λx y=>pI x y=true)/\Fr No w w'
theorem Es (x y):pI x y=true↔¬lT y x<0:=by
 show (!decide (lT y x<0))=true↔_;simp
theorem aFz (ss:List Stp):(ss.mergeSort pI).Pairwise (λx y=>pI x y=true):=
 NP (λx y z o r=>by rw [Es,wP] at*;omega) (λx y=>by
  rw [JD,Es,Es,wP,wP];omega) _
theorem Tryz.aEN:(prog.info? 80).map (λi=>(i.zero,i.size,i.bytes))=some (some (.agg #[Z 0,Z 0,Z 0,Z 0,Z 0,Z 0]),6,48):=by kernel_rfl
theorem aFS (ap K n L S w) (h:aV w ap K L S n) (dg:aF w ap) (ae:n<=1000000):
  Calls prog 30 #[.pointer (some (I L.s 0))] w (O0 w S.U):=by
 have cj:=lH (yI ap K n L S w h);have ds:w.cell? (I L.s 12)=some (.map (some L.us)):=h.cell 12;obtain ⟨_,ak,bg,af⟩:=h.uses;obtain ⟨eb,dy,aw,bb,bu⟩:=af.range (t:=129) (e:=80) underlying129;have ea:L.us<w.heap.size:=af.lt;have cu:=lH af;have co:Hid (∀v w' ss,aN (nZ S.U) 6 80 w' w v ss->ss.Nodup->(∀x,x∈ss↔(S.U x).isSome=true)->ss.Pairwise (λx y=>pI x y=true)->Fr No w w'->O0 w S.U (.returned v) w'):=λv w' ss A B aa dc f=>⟨v,ss,rfl,A,B,aa,dc,f⟩;generalize O0 w S.U=dr at*;generalize S.U=U at*;have da:=lH aw;have cb:=lH bb;have dv:ak<=1000000:=AV bg ae;obtain ⟨dm,bl,bx,bz,ca⟩:=EM Tryz.aEN;have cg:=lH bl;have cv:=lH bx;have cw:=lH bz;have cx:=lH ca;have cp:=lH bu;clear bl bx bz ca h dg af aw bb bu bg ae;go_enter func30,ntmps30;go_wp2_with fail;refine cr cj.o λr dl=> ?_;subst dl;go_wp2_with fail;go_loopw [3] (λv wr=>∃(ss:List Stp) (left:Stp->Bool) (ad:Nat),Hid (jM x8 wr L.us r ak (iM U) left ad)/\Hid (∀s:Stp,iZ s->(left s=true↔(U s).isSome=true/\s ∉ ss))/\Hid (wr.ownsRow (r.heap.size+1) 80 6 v ss.length (ss.flatMap (nZ U)))/\Hid ss.Nodup/\Hid (∀s∈ss,(U s).isSome=true)/\Hid (Fr No r wr)/\ad+ss.length<=ak/\r.heap.size+1<=wr.heap.size) (λ_ wr=>wr.rangeLeft L.us r);(case atStart=>refine ⟨[],_,_,da,lH (λs _=> ?_),lH ⟨rfl,.inl ⟨rfl,rfl⟩⟩,lH List.nodup_nil,lH D,cb,by simp,by have:=cp.o;omega⟩;unfold iM;cases U s<;>simp)
 case round=>
  obtain ⟨ss,left,ad,ai,ah,ab,av,ar,aq,du,dz⟩:=hrel;obtain ⟨a,az,rfl⟩:=ab.o.shape;rcases ai.o.next 0 with ⟨_,bp,an⟩|⟨x,y,u,db,Q,bm,an,br,bn,al,bv,bh⟩
  ·have be:∀s,s∈ss↔(U s).isSome=true:=λs=>⟨ar s,λh=>by
    obtain ⟨dn,dk⟩:=EC.1 h;have bk:=(cu.o.good (x:=s) (y:=(s,dn)) (by unfold iM;rw [dk];rfl)).1;apply BI;intro ae;have:=(ah.o s bk).2 ⟨h,ae⟩;rw [bp s bk] at this;cases this⟩
   have cf:=lH be;clear be bp;go_wp2_with fail;refine cr (aEr U ss (r.heap.size+1) _ wr ab X) ?_;rintro dp ⟨bc,bi⟩;have bj:=((aq.o.bC (S:=λk=>r.heap.size+1<=k)).trans bc (λj _ h=>h)).no (λj J h=>by omega);(have bt:aN (nZ U) 6 80 dp r (.slice a ss.length az) (ss.mergeSort pI):=by{rcases bi with h|⟨b,c,e,A,B,aa⟩;{exact .inl h};{exact .inr ⟨b,c,e,A,by omega,aa⟩}});have cd:=lH bj;have ce:=lH bt;clear bc bi bj bt;exact aC (co.o _ _ _ ce ((NF ss pI).nodup_iff.2 av) (λx=>(NF ss pI).mem_iff.trans (cf.o x)) (aFz ss) cd.o)
  ·obtain ⟨o,hu,rfl⟩:∃o,U x=some o/\y=(x,o):=by{unfold iM at Q;(cases h:U x with|none=>rw [h] at Q;cases Q|some o=>rw [h] at Q;cases Q;exact ⟨o,rfl,rfl⟩)}
   have di:=(ai.o.map.good Q).1;obtain ⟨_,bo⟩:=(ah.o x di).1 bm;have cc:=lH (aq.o.trans al (λj J e=>by omega));have aj:=lH (Nz ab al (λj J e=>by have:=yU ab j J;omega));have cy:=lH br;have dx:=an;have dw:(Instr.entry (Y r)).run prog u=.ok (.tuple #[.agg (cS x),.agg #[x.1,x.2.1,x.2.2,o.1,o.2.1,o.2.2]]) u:=bh;have ci:Hid (wr.rangeLeft L.us r.heap.size=ad):=ai.o.left_eq;have au:=lH bn;have ck:Hid (∀s:Stp,iZ s->((left s&&decide (s≠x))=true↔(U s).isSome=true/\s ∉ ss++ [x])):=λs ao=>by
    rw [BO,BV,ah.o s ao,BM,BB];constructor;{rintro ⟨⟨A,B⟩,aa⟩;exact ⟨A,λh=>h.elim B aa⟩};{rintro ⟨A,B⟩;exact ⟨⟨A,λh=>B (.inl h)⟩,λh=>B (.inr h)⟩}
   have cl:Hid (ss++ [x]).Nodup:=lH (by
    rw [List.nodup_append];exact ⟨av,by simp,λa de b bf e=>by
     rw [BB] at bf;subst bf;subst e;exact bo de⟩)
   have ch:Hid (∀s∈ss++ [x],(U s).isSome=true):=λs ao=>by
    rcases BM.1 ao with h|h;{exact ar.o s h};{rw [BB] at h;rw [h,hu];rfl}
   have ct:Hid (nZ U x= [.int .i64 x.1,.int .i64 x.2.1,.int .i64 x.2.2,.int .i64 o.1,.int .i64 o.2.1,.int .i64 o.2.2]):=lH (by unfold nZ;rw [hu];rfl);have bw:u.heap.size=wr.heap.size:=bv;have cz:Hid (((u.alloc (.cells #[x.1,x.2.1,x.2.2,o.1,o.2.1,o.2.2] 80)).rangeAt u 0 [x.1,x.2.1,x.2.2,o.1,o.2.1,o.2.2])):=DV (aT u _) 0 6;have ay:=lH bw;clear an bh br al bv Q bm bn bo hu bw;go_wp2_with (first|(refine EQ R 80 _ R u 0 R [x.1,x.2.1,x.2.2,o.1,o.2.1,o.2.2] _ cz underlying80 rfl Tryz.F9 ?_)|(at_builtin;(refine wpList_append_lies _ R _ _ 65 R (r.heap.size+1) 80 dm _ 6 48 underlying65 cg cv cw cx rfl G (.slice a ss.length az) ss.length (ss.flatMap (nZ U)) R ((aj.o.alloc _).alloc _) (I (u.heap.size+1) 0) 1 1 [x.1,x.2.1,x.2.2,o.1,o.2.1,o.2.2] R R ?d1 (by simp [Value.oneCell']) G (by unfold maxLen;omega) X ?d5 (u.heap.size+1+1) ?d6 ?_)));(case d1=>have bd:=World.news_of_block (cs:= #[x.1,x.2.1,x.2.2,o.1,o.2.1,o.2.2]) (t:=80) (fr:=(0,0)) (AQ (u.alloc (.cells #[x.1,x.2.1,x.2.2,o.1,o.2.1,o.2.2] 80)) _);rw [fF] at bd;exact bd);(case d5=>rw [fF,fF];have:=ay.o;omega);(case d6=>simp);intro dt cap dq bq am df dh;have cm:=lH (((cc.o.alloc _).alloc _).grown am (λj J=> .inr (by have:=yU aj j J;omega)));have ag:=(((Fr.refl (S:=λk=>r.heap.size+1<=k) u).alloc _).alloc _).grown am (λj J=> .inl (yU aj j J));have ax:=lH (cy.o.fr ag X X);have cn:=lH bq;have dj:r.heap.size+1<=dq.heap.size:=AV (by have:=ay.o;omega) ag.size;clear bq am df dh ag;go_wp2_with fail;go_roundw;(case rel=>refine ⟨ss++ [x],_,db,ax,ck,lH ?_,cl,ch,cm,by rw [AB,AO];have:=au.o;omega,dj⟩;have dd:=cn.o;rw [EX,AB];simp only [DU,GU,EK,AO];rw [ct.o];exact dd);(case measure=>rw [ax.o.left_eq,ci.o];exact au.o)
open Go.ChangeShapes Go.WideShapes Go.Deep
section
variable {H:Type} {enc:TypeId×Value->H} {W:World}
theorem Tryz.cells4:prog.cellsOf 4=1:=by kernel_rfl
theorem Tryz.cells9:prog.cellsOf 9=1:=by kernel_rfl
theorem Tryz.cells38:prog.cellsOf 38=3:=by kernel_rfl
theorem Tryz.cells59:prog.cellsOf 59=5:=by kernel_rfl
theorem Tryz.Ry:prog.cellsOf 57=4:=by kernel_rfl
theorem Tryz.O9:prog.cellsOf 61=14:=by kernel_rfl
theorem Tryz.cells39:prog.cellsOf 39=1:=by kernel_rfl
theorem Tryz.cells34:prog.cellsOf 34=1:=by kernel_rfl
theorem Tryz.cells41:prog.cellsOf 41=14:=by kernel_rfl
theorem fields_of {P t u aa cs x} (ag:P.underlying t=some (.struct u)) (h:DataW.trod enc P W 0 (λ_=>true) true aa t cs=some x):
  cs.length=P.cellsOf t/\∃n,∀(i:Nat) (f:Field) (o:TypeId) (r k:Nat),u[i]? =some f->f.type=o->f.offset=r->P.cellsOf o=k->∃y,DataW.trod enc P W 0 (λ_=>true) true n o ((cs.drop r).take k)=some y:=by
 obtain ⟨xs,n,_,_,ab,ae,ad⟩:=DataW.trod_struct ag h;refine ⟨ab,n,λi f o r k A B J Q=> ?_⟩;subst B J Q;have af:i<xs.length:=by
  rw [ae];exact (KW.1 A).1
 exact ⟨xs[i],by rw [ad i f A,AC af]⟩
theorem oG {r c y} (h:DataW.trod enc prog W 0 (λ_=>true) true r 3 [c]=some y):∃n,c=Z n/\I64 n:=by
 obtain ⟨n,o,_,u⟩:=DataW.trod_int underlying3 h;simp only [II,and_true] at o;exact ⟨n,o,bounds_i64 u⟩
theorem J9 {r c y} (h:DataW.trod enc prog W 0 (λ_=>true) true r 4 [c]=some y):∃n,c=.bool n:=by
 obtain ⟨n,o,_⟩:=DataW.trod_bool underlying4 h;simp only [II,and_true] at o;exact ⟨n,o⟩
theorem Qc {r c y} (h:DataW.trod enc prog W 0 (λ_=>true) true r 9 [c]=some y):∃l:List UInt8,c=.string (ba l):=by
 obtain ⟨s,o,_,u⟩:=DataW.trod_string underlying9 h;simp only [II,and_true] at o;exact ⟨s.data.toList,by rw [o,tZ]⟩
theorem aFm {w:World} {a v} (h:w.cell? a=some v):a.spot=none:=by
 unfold World.cell? at h;split at h;{split at h;{cases h};{simpa using ‹¬a.spot.isSome=true›}};{cases h}
theorem Xz {w:World} {a v} (h:w.cell? a=some v):a.block<w.heap.size:=by
 unfold World.cell? at h;split at h;{rename_i e;exact (KW.1 e).1};{cases h}
theorem Eb {T J n} {α:Type} [Inhabited α] (c:α->List Value) (G:α->Prop) (al:prog.underlying T=some (.slice J)) (ak:prog.cellsOf J=n) (av:0<n) (af:∀x,(c x).length=n) (ao:∀ {Q:Nat} {cs:List Value} {y:DataW H×List MemPlace},DataW.trod enc prog W 0 (λ_=>true) true Q J cs=some y->∃x,cs=c x/\G x) {Q v y} (h:DataW.trod enc prog W 0 (λ_=>true) true Q T [v]=some y):
  ∃(L:List α) (base:Option Addr) (cap:Nat),v=.slice base L.length cap/\(∀x∈L,G x)/\(L≠ []->∃b off,base=some (I b off)/\b<W.heap.size/\∀(j:Nat) x,L[j]? =some x->W.rangeAt b (off+j*n) (c x)):=by
 rcases open_slice al h with ⟨u,_⟩|⟨a,len,cap,m,k,D,ax,u,_,ay,bc,ai,_,ag⟩;{simp only [II,and_true] at u;exact ⟨[],none,0,u,(λ_ h=>by cases h),λh=>absurd rfl h⟩}
 ·simp only [II,and_true] at u;simp only [IJ] at ai;subst ai;rw [ak] at ag;obtain ⟨f,ab⟩:=choose_lt (α:=α) (n:=len) (p:=λi x=>G x/\∀j A,(c x)[j]? =some A->W.cell? ((a.add (i*n)).add j)=some A) (λi bb=>by
   obtain ⟨cs',aj,aa⟩:=ag i X;obtain ⟨x,rfl,ap⟩:=ao aa;obtain ⟨_,az,an⟩:=World.cells?_some aj;refine ⟨x,ap,λj A o=> ?_⟩;have ar:j<n:=by{rcases BK j n with h|h;{exact h};{rw [GI (by rw [af];exact h)] at o;cases o}}
   rw [an j ar,o])
  refine ⟨(List.range len).map f,some a,m,by simpa using u,λx ad=> ?_,λaw=> ?_⟩;{obtain ⟨i,aq,rfl⟩:=FM.1 ad;exact (ab i (CJ.1 aq)).1};{(have r:0<len:=by{rcases ET len with r|r;{subst r;simp at aw};{exact r}});have au:0<(c (f 0)).length:=(by rw [af];exact av);have ae:=(ab 0 r).2 0 _ (AC au);have B:=aFm ae;have B:a.spot=none:=(by simpa [Addr.add] using B);have am:=Xz ae;obtain ⟨b,off,s⟩:=a;simp only at B;subst B;refine ⟨b,off,rfl,by simpa [Addr.add] using am,λj x o=> ?_⟩;(have ah:j<len:=by{rcases BK j len with h|h;{exact h};{rw [GI (by simp;omega)] at o;cases o}});(have ad:x=f j:=by{rw [DY,List.getElem?_range ah] at o;simpa using o.symm});subst ad;intro i A hu;(have aa:((Addr.mk b off none).add (j*n)).add i=(I b (off+j*n+i)):=by{unfold Addr.add;split<;>split<;>simp_all});have:=(ab j ah).2 i A hu;rw [aa] at this;exact this}
theorem Na {u cs y} (h:DataW.trod enc prog W 0 (λ_=>true) true u 46 cs=some y):∃x:Stp,cs=(cS x)/\iZ x:=by
 obtain ⟨r,n,o⟩:=fields_of underlying46 h;rw [Tryz.cells46] at r;(match cs,r with|[c0,c1,c2],_=>obtain ⟨_,A⟩:=o 0 _ 3 0 1 rfl rfl rfl Tryz.cells3;obtain ⟨_,B⟩:=o 1 _ 3 1 1 rfl rfl rfl Tryz.cells3;obtain ⟨_,J⟩:=o 2 _ 3 2 1 rfl rfl rfl Tryz.cells3;obtain ⟨ad,rfl,Q⟩:=oG A;obtain ⟨ae,rfl,aa⟩:=oG B;obtain ⟨af,rfl,ab⟩:=oG J;exact ⟨(ad,ae,af),rfl,Q,aa,ab⟩)
theorem aDr {u cs y} (h:DataW.trod enc prog W 0 (λ_=>true) true u 57 cs=some y):∃x:Sz,cs=fD x/\iZ x.1:=by
 obtain ⟨r,n,o⟩:=fields_of underlying57 h;rw [Tryz.Ry] at r;(match cs,r with|[c0,c1,c2,c3],_=>obtain ⟨_,A⟩:=o 0 _ 46 0 3 rfl rfl rfl Tryz.cells46;obtain ⟨_,B⟩:=o 1 _ 3 3 1 rfl rfl rfl Tryz.cells3;obtain ⟨x,e,J⟩:=Na A;obtain ⟨Q,rfl,_⟩:=oG B;simp only [KI,FO,FY,II,and_true] at e;obtain ⟨rfl,rfl,rfl⟩:=e;exact ⟨(x,Q),rfl,J⟩)
theorem Rx {u cs y} (h:DataW.trod enc prog W 0 (λ_=>true) true u 59 cs=some y):∃x:Pt,cs=bZ x:=by
 obtain ⟨r,n,o⟩:=fields_of underlying59 h;rw [Tryz.cells59] at r;(match cs,r with|[c0,c1,c2,c3,c4],_=>obtain ⟨_,A⟩:=o 0 _ 46 0 3 rfl rfl rfl Tryz.cells46;obtain ⟨_,B⟩:=o 1 _ 3 3 1 rfl rfl rfl Tryz.cells3;obtain ⟨_,J⟩:=o 2 _ 3 4 1 rfl rfl rfl Tryz.cells3;obtain ⟨x,e,ab⟩:=Na A;obtain ⟨Q,rfl,_⟩:=oG B;obtain ⟨aa,rfl,_⟩:=oG J;simp only [KI,FO,FY,II,and_true] at e;obtain ⟨rfl,rfl,rfl⟩:=e;exact ⟨⟨x.1,x.2.1,x.2.2,Q,aa⟩,rfl⟩)
theorem aGH {u cs y} (h:DataW.trod enc prog W 0 (λ_=>true) true u 61 cs=some y):∃x:Dl,cs=dE x:=by
 obtain ⟨r,n,o⟩:=fields_of underlying61 h;rw [Tryz.O9] at r;(match cs,r with|[c0,c1,c2,c3,c4,c5,c6,c7,c8,c9,c10,c11,c12,c13],_=>obtain ⟨_,A⟩:=o 0 _ 3 0 1 rfl rfl rfl Tryz.cells3;obtain ⟨_,B⟩:=o 1 _ 3 1 1 rfl rfl rfl Tryz.cells3;obtain ⟨_,J⟩:=o 2 _ 3 2 1 rfl rfl rfl Tryz.cells3;obtain ⟨_,Q⟩:=o 3 _ 3 3 1 rfl rfl rfl Tryz.cells3;obtain ⟨_,aa⟩:=o 4 _ 59 4 5 rfl rfl rfl Tryz.cells59;obtain ⟨_,ab⟩:=o 5 _ 59 9 5 rfl rfl rfl Tryz.cells59;obtain ⟨ad,rfl,_⟩:=oG A;obtain ⟨ae,rfl,_⟩:=oG B;obtain ⟨af,rfl,_⟩:=oG J;obtain ⟨ag,rfl,_⟩:=oG Q;obtain ⟨t,e⟩:=Rx aa;obtain ⟨ah,e'⟩:=Rx ab;simp only [bZ,LP,KI,FO,FY,II,and_true] at e e';obtain ⟨rfl,rfl,rfl,rfl,rfl⟩:=e;obtain ⟨rfl,rfl,rfl,rfl,rfl⟩:=e';exact ⟨⟨ad,ae,af,ag,t,ah⟩,rfl⟩)
theorem aCm {u v y} (h:DataW.trod enc prog W 0 (λ_=>true) true u 39 [v]=some y):∃o:List Sz,aZ fD 4 W (λ_=>0) v o/\∀s∈o,iZ s.1:=by
 obtain ⟨L,base,cap,e,J,Q⟩:=Eb (enc:=enc) (W:=W) fD (λx=>iZ x.1) underlying39 Tryz.Ry G Yw aDr h;exact ⟨L,⟨base,cap,e,λA=>by
  obtain ⟨b,off,r,B,aa⟩:=Q A;exact ⟨b,off,r,rfl,B,aa⟩⟩,J⟩
theorem aAj {A v y} (h:DataW.trod enc prog W 0 (λ_=>true) true A 34 [v]=some y):∃r:List Dl,aZ dE 14 W (λ_=>0) v r:=by
 obtain ⟨L,base,cap,e,_,Q⟩:=Eb (enc:=enc) (W:=W) dE (λ_=>True) underlying34 Tryz.O9 G (λ_=>rfl) (λh=>by
  obtain ⟨x,o⟩:=aGH h;exact ⟨x,o,trivial⟩) h
 exact ⟨L,⟨base,cap,e,λB=>by
  obtain ⟨b,off,u,J,o⟩:=Q B;exact ⟨b,off,u,rfl,J,o⟩⟩⟩
abbrev wC:=Rq×Value×Value
def wC.cells (y:wC):List Value:=(y.1.1.cells y.2.1 y.2.2).toList
def wC.good (W:World) (y:wC):Prop:=aZ fD 4 W (λ_=>0) y.2.1 y.1.2.1/\aZ dE 14 W (λ_=>0) y.2.2 y.1.2.2/\∀s∈y.1.2.1,iZ s.1
theorem aFc {B cs y} (h:DataW.trod enc prog W 0 (λ_=>true) true B 41 cs=some y):∃x:wC,cs=x.cells/\x.good W:=by
 obtain ⟨u,n,o⟩:=fields_of underlying41 h;rw [Tryz.cells41] at u;(match cs,u with|[c0,c1,c2,c3,c4,c5,c6,c7,c8,c9,c10,c11,c12,c13],_=>obtain ⟨_,ak⟩:=o 0 _ 38 0 3 rfl rfl rfl Tryz.cells38;obtain ⟨_,ad⟩:=o 1 _ 3 3 1 rfl rfl rfl Tryz.cells3;obtain ⟨_,ae⟩:=o 2 _ 9 4 1 rfl rfl rfl Tryz.cells9;obtain ⟨_,af⟩:=o 3 _ 9 5 1 rfl rfl rfl Tryz.cells9;obtain ⟨_,ag⟩:=o 4 _ 4 6 1 rfl rfl rfl Tryz.cells4;obtain ⟨_,ah⟩:=o 5 _ 4 7 1 rfl rfl rfl Tryz.cells4;obtain ⟨_,ai⟩:=o 6 _ 4 8 1 rfl rfl rfl Tryz.cells4;obtain ⟨_,aj⟩:=o 7 _ 3 9 1 rfl rfl rfl Tryz.cells3;obtain ⟨_,J⟩:=o 8 _ 3 10 1 rfl rfl rfl Tryz.cells3;obtain ⟨_,Q⟩:=o 9 _ 3 11 1 rfl rfl rfl Tryz.cells3;obtain ⟨_,aa⟩:=o 10 _ 39 12 1 rfl rfl rfl Tryz.cells39;obtain ⟨_,ab⟩:=o 11 _ 34 13 1 rfl rfl rfl Tryz.cells34;obtain ⟨_,m,r⟩:=fields_of underlying38 ak;obtain ⟨_,ao⟩:=r 0 _ 3 0 1 rfl rfl rfl Tryz.cells3;obtain ⟨_,ap⟩:=r 1 _ 3 1 1 rfl rfl rfl Tryz.cells3;obtain ⟨_,aq⟩:=r 2 _ 3 2 1 rfl rfl rfl Tryz.cells3;obtain ⟨ar,rfl,_⟩:=oG ao;obtain ⟨au,rfl,_⟩:=oG ap;obtain ⟨ax,rfl,_⟩:=oG aq;obtain ⟨ay,rfl,_⟩:=oG ad;obtain ⟨az,rfl⟩:=Qc ae;obtain ⟨bb,rfl⟩:=Qc af;obtain ⟨bc,rfl⟩:=J9 ag;obtain ⟨bd,rfl⟩:=J9 ah;obtain ⟨be,rfl⟩:=J9 ai;obtain ⟨bf,rfl,_⟩:=oG aj;obtain ⟨av,rfl,_⟩:=oG J;obtain ⟨aw,rfl,_⟩:=oG Q;obtain ⟨bg,an,am⟩:=aCm aa;obtain ⟨A,al⟩:=aAj ab;exact ⟨((⟨ar,au,ax,ay,az,bb,bc,bd,be,bf,av,aw⟩,bg,A),_,_),rfl,an,al,am⟩)
theorem Zf {B v d p} (ai:Value.okWide prog W .any B 44 v) (h:DataW.Trod enc prog W 0 (λ_=>true) true 44 v d p):∃L:List Rq,pM W (λ_=>0) v L/\∀y∈L,∀s∈y.2.1,iZ s.1:=by
 obtain ⟨A,al,cap',rfl⟩:=okWide_slice underlying44 ai;obtain ⟨am,af⟩:=h;haveI:Inhabited wC:=⟨((⟨0,0,0,0, [], [],false,false,false,0,0,0⟩, [], []),.slice none 0 0,.slice none 0 0)⟩;obtain ⟨L,base,cap,e,u,ag⟩:=Eb (enc:=enc) (W:=W) wC.cells (wC.good W) underlying44 Tryz.cells41 G (λ_=>rfl) aFc (v:=.slice A al cap') af;refine ⟨L.map (·.1),⟨base,cap,by rw [CG];exact e,λab=> ?_⟩,λy ak s ah=> ?_⟩;{have ad:L≠ []:=λh=>ab (by rw [h];rfl);obtain ⟨b,off,J,ae,aj⟩:=ag ad;refine ⟨b,off,J,rfl,ae,λj y r=> ?_⟩;rw [DY] at r;(cases o:L[j]? with|none=>rw [o] at r;cases r|some z=>rw [o] at r;cases r;obtain ⟨Q,aa,_⟩:=u z (DX o);exact ⟨z.2.1,z.2.2,aj j z o,Q,aa⟩)};{obtain ⟨z,o,rfl⟩:=FM.1 ak;exact (u z o).2.2 s ah}
end
def oJ:Tree:=λk=>if k=1 then some ⟨0, [],true⟩ else none
def S0:St:=⟨0,0,0,λ_=>0,λ_=>none,oJ, [],λ_=>none,λ_=>none⟩
theorem vX {k x} (h:oJ k=some x):k=1/\x=⟨0, [],true⟩:=by
 unfold oJ at h;split at h;{rename_i e;cases h;exact ⟨e,rfl⟩};{cases h}
theorem aD1:dK oJ where
 root:=rfl
 zero:=rfl
 top:=λk o=>by unfold oJ;rw [AA X]
 up:=λk x h o=>absurd (vX h).1 o
 name:=λk x h o=>absurd (vX h).1 o
 one:=λj k x y r o _ _=>by rw [(vX r).1,(vX o).1]
theorem aFB:things oJ=1:=by decide
theorem aF5:bI oJ 1=0:=by decide
theorem aBX (s):kid oJ 1 s=none:=by
 (cases h:kid oJ 1 s with|none=>rfl|some k=>obtain ⟨x,r,o,_⟩:=rJ h;rw [(vX r).2] at o;cases o)
theorem Et:fB S0 0 where
 ok:=⟨aD1,λi m h=>by cases h⟩
 pts:=λi m h=>by cases h
 dir:=λk x h hd=>by
  have:=(vX h).2;rw [this] at hd;cases hd
 tok:=λx o=>by cases o
 small:=λx o=>by cases o
 few:=AU _
 boots:=⟨IY _,IY _⟩
 swaps:=⟨IY _,IY _⟩
 clock:=⟨IY _,IY _⟩
 win:=λi y h=>by cases h
def aEZ (w:World) (e:Ending) (w':World):Prop:=
 ∃tr th root rin:Nat,e=.returned (Y tr)/\Fr No w w'/\w.heap.size<=th/\th<rin/\rin<root/\root<tr/\
  w'.heap[tr]? =some (.cells #[.map (some th)] 159 (0,0))/\MapAt encI w' th 1 (λz=>if z=1 then some root else none)/\
  w'.heap[root]? =some (.cells #[Z 0,.string ⟨#[]⟩,true,.map (some rin)] 168 (0,0))/\MapAt encS w' rin 0 (λ_=>none)
theorem aCy (w):Calls prog 58 #[] w (aEZ w):=by
 have al:= @run_makeMap prog;go_enter func58,ntmps58;go_wp2_with fail;refine (aAe _ _ _).mono ?_;rintro e an ⟨rfl,rfl⟩;have J:=MapAt.made encI w;have aa:Fr No (w.alloc (.map #[] 0)) (((w.alloc (.map #[] 0)).alloc (.map #[] 0)).alloc (.cells #[Z 0,.string ⟨#[]⟩,true,.map (some (w.heap.size+1))] 168)):=((Fr.refl _).alloc _).alloc _;have A:=MapAt.made encS (w.alloc (.map #[] 0));rw [show (w.alloc (.map #[] 0)).heap.size=w.heap.size+1 by simp] at A;have ab:Fr No ((w.alloc (.map #[] 0)).alloc (.map #[] 0)) (((w.alloc (.map #[] 0)).alloc (.map #[] 0)).alloc (.cells #[Z 0,.string ⟨#[]⟩,true,.map (some (w.heap.size+1))] 168)):=(Fr.refl _).alloc _;(have B:(((w.alloc (.map #[] 0)).alloc (.map #[] 0)).alloc (.cells #[Z 0,.string ⟨#[]⟩,true,.map (some (w.heap.size+1))] 168)).heap[w.heap.size+1+1]? =some (.cells #[Z 0,.string ⟨#[]⟩,true,.map (some (w.heap.size+1))] 168 (0,0)):=by{simpa using aT ((w.alloc (.map #[] 0)).alloc (.map #[] 0)) (.cells #[Z 0,.string ⟨#[]⟩,true,.map (some (w.heap.size+1))] 168)});have F:Fr No w (((w.alloc (.map #[] 0)).alloc (.map #[] 0)).alloc (.cells #[Z 0,.string ⟨#[]⟩,true,.map (some (w.heap.size+1))] 168)):=(((Fr.refl w).alloc _).alloc _).alloc _;(have ai:(((w.alloc (.map #[] 0)).alloc (.map #[] 0)).alloc (.cells #[Z 0,.string ⟨#[]⟩,true,.map (some (w.heap.size+1))] 168)).heap.size=w.heap.size+1+1+1:=D);obtain ⟨o,hu,Q,r⟩:=(J.fr aa id).put (1:Int) (w.heap.size+1+1) (show I64 _ by unfold I64;omega) trivial X (t:=157) (e:=169) underlying157;have am:(Instr.mapUpdate 157 (.map (some w)) (Z 1) (Y (w.heap.size+1+1))).run prog (((w.alloc (.map #[] 0)).alloc (.map #[] 0)).alloc (.cells #[Z 0,.string ⟨#[]⟩,true,.map (some (w.heap.size+1))] 168))=.ok () o:=hu;have ae:=lH (r.aB B X);have ag:=lH Q;have af:=lH ((A.fr ab id).fr r X);have ad:=F.trans r (λj ak e=>by omega);have ah:=r.size;rw [ai] at ah;clear B J A hu Q;go_wp2_with fail;go_ret;have aj:=aT o (.cells #[.map (some w)] 159);have u:Fr No o (o.alloc (.cells #[.map (some w)] 159)):=(Fr.refl o).alloc _;exact ⟨o,w.heap.size,w.heap.size+1+1,w.heap.size+1,rfl,ad.trans u zq,AU _,by omega,by omega,by omega,aj,ag.o.fr u id,u.aB ae id,af.o.fr u id⟩
def aDq (w:World) (e:Ending) (w':World):Prop:=
 ∃(L:kC) (o:Nat->Nat),e=.returned (Y L.s)/\Step (λ_=>False) w (λ_=>0) w' o/\aV w' o 0 L S0 0
def rP (L:kC) (th root rin:Nat):Nat->Nat:=λk=>if k=L.win then 1 else if k=th then 4 else if k=rin then 2001 else if k=root then 1001 else if k=L.tr then 3 else if k=L.tk then 5 else if k=L.fl then 6 else if k=L.us then 7 else if k=L.s then 8 else 0
theorem Uo (w):Calls prog 17 #[] w (aDq w):=by
 have bc:= @run_makeMap prog;go_enter func17,ntmps17;go_wp2_with fail;refine (aEz _).mono ?_;rintro e bi ⟨rfl,rfl⟩;go_wp2_with fail;refine (aCy _).mono ?_;rintro e o ⟨r,ab,A,aa,rfl,J,az,bd,be,bf,Q,ak,ai,aj⟩;have av:=lH Q;have au:=lH ak;have aq:=lH ai;have ap:=lH aj;have aw:=lH (J.aB (aT w _) id);have ad:=((Fr.refl w).alloc _).trans J zq;have bg:=lt_of_block Q;simp only [fF] at az;clear Q ak ai aj J;go_wp2_with fail;refine (Zn _).mono ?_;rintro e bj ⟨rfl,rfl⟩;have ar:=lH (aT o (.cells #[true,nS] 187));have ae:=lH (MapAt.made encI (o.alloc (.cells #[true,nS] 187)));have af:=lH (MapAt.made x8 ((o.alloc (.cells #[true,nS] 187)).alloc (.map #[] 0)));rw [show (o.alloc _).heap.size=o.heap.size+1 by simp] at ae;rw [show ((o.alloc _).alloc (.map #[] 0)).heap.size=o.heap.size+1+1 by simp] at af;(have ax:(((o.alloc (.cells #[true,nS] 187)).alloc (.map #[] 0)).alloc (.map #[] 0)).heap.size=o.heap.size+1+1+1:=D);have ao:Fr No (((o.alloc (.cells #[true,nS] 187)).alloc (.map #[] 0)).alloc (.map #[] 0)) ((((o.alloc (.cells #[true,nS] 187)).alloc (.map #[] 0)).alloc (.map #[] 0)).alloc (.cells #[Z 0,Z 0,Z 0,Z 0,Z 0,Z 0,Z 0,Z 0,Y w,Y r,Y o,.map (some (o.heap.size+1)),.map (some (o.heap.size+1+1))] 131)):=(Fr.refl _).alloc _;have an:Fr No ((o.alloc (.cells #[true,nS] 187)).alloc (.map #[] 0)) ((((o.alloc (.cells #[true,nS] 187)).alloc (.map #[] 0)).alloc (.map #[] 0)).alloc (.cells #[Z 0,Z 0,Z 0,Z 0,Z 0,Z 0,Z 0,Z 0,Y w,Y r,Y o,.map (some (o.heap.size+1)),.map (some (o.heap.size+1+1))] 131)):=((Fr.refl _).alloc _).alloc _;have am:Fr No (o.alloc (.cells #[true,nS] 187)) ((((o.alloc (.cells #[true,nS] 187)).alloc (.map #[] 0)).alloc (.map #[] 0)).alloc (.cells #[Z 0,Z 0,Z 0,Z 0,Z 0,Z 0,Z 0,Z 0,Y w,Y r,Y o,.map (some (o.heap.size+1)),.map (some (o.heap.size+1+1))] 131)):=(((Fr.refl _).alloc _).alloc _).alloc _;have u:Fr No o ((((o.alloc (.cells #[true,nS] 187)).alloc (.map #[] 0)).alloc (.map #[] 0)).alloc (.cells #[Z 0,Z 0,Z 0,Z 0,Z 0,Z 0,Z 0,Z 0,Y w,Y r,Y o,.map (some (o.heap.size+1)),.map (some (o.heap.size+1+1))] 131)):=((((Fr.refl _).alloc _).alloc _).alloc _).alloc _;have ah:=aT (((o.alloc (.cells #[true,nS] 187)).alloc (.map #[] 0)).alloc (.map #[] 0)) (.cells #[Z 0,Z 0,Z 0,Z 0,Z 0,Z 0,Z 0,Z 0,Y w,Y r,Y o,.map (some (o.heap.size+1)),.map (some (o.heap.size+1+1))] 131);rw [ax] at ah;(have ay:((((o.alloc (.cells #[true,nS] 187)).alloc (.map #[] 0)).alloc (.map #[] 0)).alloc (.cells #[Z 0,Z 0,Z 0,Z 0,Z 0,Z 0,Z 0,Z 0,Y w,Y r,Y o,.map (some (o.heap.size+1)),.map (some (o.heap.size+1+1))] 131)).heap.size=o.heap.size+1+1+1+1:=D);go_wp2_with fail;go_ret;generalize bb:(((o.alloc _).alloc _).alloc _).alloc _=al at*;have bh:=ad.size;refine ⟨⟨o.heap.size+1+1+1,w.heap.size,r,o.heap.size,o.heap.size+1,o.heap.size+1+1⟩,rP ⟨o.heap.size+1+1+1,w.heap.size,r,o.heap.size,o.heap.size+1,o.heap.size+1+1⟩ ab A aa,rfl,⟨(ad.trans u zq).mono (λ_ _ e=>e.elim),λk B=> ?_,λk B=> ?_⟩,?_⟩;{unfold rP;dsimp only;repeat (first|rw [AA X])};{unfold rP;dsimp only;rw [ay] at B;repeat (first|rw [AA X])};{refine ⟨?_,ah,⟨?_,λ_=> .pointer none,u.aB aw id,λ_ _=>rfl⟩,⟨ab,λ_=>A,?_,u.aB av id,?_,?_,?_⟩,⟨?_,.slice none 0 0,am.aB ar id,.inl ⟨rfl,rfl⟩⟩,⟨?_,λ_=>0,0,AU _,?_,λi m h=>by cases h⟩,⟨?_,0,AU _,?_⟩⟩;{unfold rP;dsimp only;repeat (first|rw [AL rfl]|rw [AA X])};{unfold rP;dsimp only;repeat (first|rw [AL rfl]|rw [AA X])};{unfold rP;dsimp only;repeat (first|rw [AL rfl]|rw [AA X])};{unfold rP;dsimp only;repeat (first|rw [AL rfl]|rw [AA X])};{show MapAt encI al ab (things oJ) (dC oJ λ_=>A);rw [aFB];(have e:dC oJ (λ_=>A)=λz=>if z=1 then some A else none:=by{funext z;unfold dC oJ;by_cases ag:z=1;{subst ag;rfl};{rw [AA ag];split;{rw [AA X];rfl};{rfl}}});rw [e];exact au.o.fr u id};{intro k x B;obtain ⟨rfl,rfl⟩:=vX B;refine ⟨?_,aa,?_,u.aB aq id,?_⟩;{unfold rP;dsimp only;repeat (first|rw [AL rfl]|rw [AA X])};{unfold rP;dsimp only;repeat (first|rw [AL rfl]|rw [AA X])};{show MapAt encS al aa (bI oJ 1) (bQ oJ 1);rw [aF5];(have e:bQ oJ 1=λ_=>none:=by{funext s;unfold bQ;rw [aBX];rfl});rw [e];exact ap.o.fr u id}};{unfold rP;dsimp only;repeat (first|rw [AL rfl]|rw [AA X])};{unfold rP;dsimp only;repeat (first|rw [AL rfl]|rw [AA X])};{(have e:kV S0.F (λ_=>0)=λ_=>none:=by{funext z;unfold kV S0;split<;>rfl});rw [e];exact ae.o.fr an id};{unfold rP;dsimp only;repeat (first|rw [AL rfl]|rw [AA X])};{(have e:iM S0.U=λ_=>none:=by funext z;rfl);rw [e];exact af.o.fr ao id}}
open Go Go.Lib
theorem aFX (a b:Nat) (A:a<281474976710656) (B:b<256):bits BinOp.or IntKind.i64 ((a:Int)*256) (b:Int)=(a:Int)*256+b:=by
 have o:BitVec.ofInt 64 ((a:Int)*256)=BitVec.ofNat 64 (a*256):=by
  rw [show ((a:Int)*256)=((a*256:Nat):Int) by omega,BitVec.ofInt_natCast]
 have r:BitVec.ofInt 64 (b:Int)=BitVec.ofNat 64 b:=BitVec.ofInt_natCast ..;have u:(a*256|||b)=a*256+b:=by
  have:=Nat.two_pow_add_eq_or_of_lt (i:=8) (b:=b) X a;rw [show (2:Nat) ^ 8=256 by decide,Nat.mul_comm] at this;exact this.symm
 show IntKind.i64.wrap (((BitVec.ofInt 64 ((a:Int)*256))|||(BitVec.ofInt 64 (b:Int))).toNat:Int)=_;rw [o,r,BitVec.toNat_or,BitVec.toNat_ofNat,BitVec.toNat_ofNat,Nat.mod_eq_of_lt X,Nat.mod_eq_of_lt X,u,BG];all_goals omega
def Nl (L:List Rq):Prop:=∀y∈L,∀s∈y.2.1,iZ s.1
theorem fresh0 (w):aF w (λ_=>0):=λ_ _=>rfl
section
variable {K V:Type} [DecidableEq K] {E:Enc K V} {t e:TypeId}
def gone (left:K->Bool) (m:K->Option V):K->Option V:=λz=>if left z=true then none else m z
end
theorem Step.aGW {w u A o b c} (s:Step (λ_=>False) w A u o) (B:w.heap.size<=b) (J:b<u.heap.size):Step (λ_=>False) w A u (fZ o b c):=
 ⟨s.fr,λk r=>by rw [dS o _ X];exact s.old k r,λk r=>by rw [dS o _ X];exact s.fresh k r⟩
theorem aN.at {α:Type} {c n t w base a len cap} {L:List α} (h:aN c n t w base (.slice a len cap) L) (o:0<L.length):∃b,a=some (I b 0)/\cap<=maxLen/\base<=b/\bF c n t w b cap L:=by
 rcases h with ⟨_,rfl⟩|⟨b,cap',e,u,r,A⟩;{exact absurd o D};{cases e;exact ⟨b,rfl,u,r,A⟩}
theorem oH.no {w w' v L} (h:oH w v L) (f:Fr No w w'):oH w' v L:=by
 rcases h with h|⟨b,cap,e,o,r⟩;{exact .inl h};{exact .inr ⟨b,cap,e,o,r.fr f id⟩}
