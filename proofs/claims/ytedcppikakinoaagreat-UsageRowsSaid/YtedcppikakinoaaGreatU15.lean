/- Part of a proof. -/
import Derived.Test.YtedcppikakinoaaGreatU13
set_option linter.unusedSimpArgs false
set_option linter.unusedVariables false
set_option maxRecDepth 100000
set_option maxHeartbeats 3200000
namespace Go.Proofs.YtedcppikakinoaaGreat
open Go.Proofs.Tryz Go.RowKit Go.Lib
theorem Tryz.Nc:(prog.info? 53).map (λi=>(i.zero,i.size,i.bytes))=some (some (.agg #[Z 0,Z 0,Z 0,false]),4,32):=by kernel_rfl
def pU (w:World) (v:Value) (M:List Tok) (e:Ending) (w':World):Prop:=
 ∃b cap,e=.returned (O b M.length cap)/\cap<=maxLen/\oQ w' b cap M/\(((∃l c,v=.slice (some (I b 0)) l c)/\Fr (· =b) w w')\/(w.heap.size<=b/\Fr No w w'))
theorem l7 (x):(cO x).length=4:=rfl
theorem Px (L:List Tok):∀r∈L.flatMap cO,r.oneCell'=true:=λr hu=>by
 obtain ⟨x,_,o⟩:=List.mem_flatMap.1 hu;simp only [cO,CB,List.not_mem_nil,or_false] at o;rcases o with rfl|rfl|rfl|rfl<;>rfl
theorem Jq {S w w'} (f:Fr S w w'):Fr S w w'.drew:=⟨f.os,f.tape,f.output,f.size,f.block⟩
theorem G5 {S w w'} (f:Fr S w.drew w'):Fr S w w':=⟨f.os,f.tape,f.output,f.size,f.block⟩
theorem aFL (b cap A L o w) (h:oQ w b cap L) (aa:w.heap[A]? =some (.cells (cT o) 53 (0,0))) (Q:L.length<cap) (af:cap<=maxLen):
  Calls prog 235 #[O b L.length cap,L.length,O A 1 1] w (pU w (O b L.length cap) (L++ [o])):=by
 have B:=bF.splice (c:=cO) l7 h L.length [o] (AU _) Q;rw [AX,EO D,EK,DU,GU,EK] at B;have ad:Hid (∀e w',e=.returned (O b (L.length+1) cap)->w'=w.setCells b (L.length*4) (cO o)->pU w (O b L.length cap) (L++ [o]) e w'):=λe w' ae ah=>by
  subst ah;exact ⟨b,cap,by rw [ae,AB];rfl,af,B,.inl ⟨⟨_,_,rfl⟩,lK b _ _ w⟩⟩
 generalize pU w _ _=ak at*;obtain ⟨ab,J,ai,u,aj⟩:=EM Tryz.Nc;have E:=h.there L.length 4 X;have V:Src prog ab.size 50 (O A 1 1) 1 (cO o) w:=by
  rw [u];refine Src.ofSlice (size:=4) w (e':=53) underlying50 (I A 0) 1 1 (cO o) rfl (λj an r=> ?_) (by simp [cO,Value.oneCell']);rw [KN,aA aa,BP,<-r];show (cO o).toArray[j]? =_;simp
 have ag:∀H,(Builtin.append_ #[50,50] H #[O b L.length cap,O A 1 1]).run prog w=.ok (O b (L.length+1) cap) (w.setCells b (L.length*4) (cO o)):=λH=>by
  have:=run_append_room_src w 50 50 H 53 ab underlying50 J b 0 L.length cap _ 1 (cO o) V Q (λj r=>by rw [u,BP];exact (E j r).1) (λj r=>by rw [u,BP];exact (E j r).2);rwa [u,BP] at this
 have al:(L.length:Int)<=(cap:Int):=X
 have am:(0:Int)<=(L.length:Int):=X
 clear B h aa E V ai u aj J;go_enter func235,ntmps235;go_wp2_with (at_builtin;refine Lib.wpList_append_run _ rfl _ _ _ _ rfl _ _ rfl rfl _ _ (ag _) ?_);exact ad.o _ _ rfl rfl
theorem aFD (w r o) (A:w.heap[r]? =some (.cells (cT o) 53 (0,0))):Src prog 4 50 (O r 1 1) 1 (cO o) w:=
 Src.ofSlice (size:=4) w (e':=53) underlying50 (I r 0) 1 1 (cO o) rfl (λj B u=>by
  rw [KN,aA A,BP,<-u];show (cO o).toArray[j]? =_;simp) (by simp [cO,Value.oneCell'])
theorem Jn:(Value.agg #[Z 0,Z 0,Z 0,false]).cells.size=4:=rfl
theorem Ut {α:Type} {c:α->List Value} {n t} (r:∀x,(c x).length=n) (w:World) (L z) (A:z.size=n) (cap:Nat) (u:L.length<=cap):
  bF c n t (w.alloc (.cells ((L.flatMap c).toArray++Builtin.zeroCells z (cap - L.length)) t)) w cap L:=by
 refine bF.of_block r (aT w _) ?_ u (λk B o=> ?_);{rw [Array.size_append,MN,nG r];simp only [Builtin.zeroCells,Array.size_map,Array.size_range,A];rw [<-NC,show L.length+(cap - L.length)=cap by omega];exact AU _};{rw [MW (by rw [MN];exact (AY.1 o).1)];simpa using o}
theorem Sj (base cap B L r w) (h:oH w (.slice base L.length cap) L) (ag:w.heap[B]? =some (.cells (cT r) 53 (0,0))) (af:cap=L.length) (al:L.length<=1000000):
  Calls prog 235 #[.slice base L.length cap,L.length,O B 1 1] w (pU w (.slice base L.length cap) (L++ [r])):=by
 obtain ⟨aj,ab,ah,J,ai⟩:=EM Tryz.Nc;have ae:(Builtin.firstCells aj.size L.length (.slice base L.length cap)).run prog w.drew=.ok (L.flatMap cO).toArray w.drew:=by{rw [J];rcases h with ⟨o,rfl⟩|⟨b,cap',o,_,ak⟩;{simp only [ER] at o ⊢;cases o;exact run_firstCells_none w.drew 4 0 0 0};{cases o;have:=bF.firstCells (P:=prog) (w:=w.drew) (c:=cO) l7 (ak.fr (S:=No) ⟨rfl,rfl,rfl,AU _,λ_ _ _=>rfl⟩ id) L.length L.length cap (AU _);rwa [AX] at this}}
 have A:∀Q,(Builtin.append_ #[50,50] Q #[.slice base L.length cap,O B 1 1]).run prog w=_:=λQ=>
  run_append_grow_src w 50 50 Q 53 aj _ underlying50 ab ah base L.length cap _ ae _ 1 (cO r) (by rw [J];exact aFD w B r ag) X X (by rw [ai];exact growslice_fits X X)
 have aa:=grownCap_ge w (L.length+1) cap 53;have ad:=NK w (L.length+1) cap 53 (by unfold maxLen;omega);generalize grownCap w _ cap 53=G at*;have H:=Ut (c:=cO) (t:=53) l7 w.drew (L++ [r]) (Value.agg _).cells Jn G (by rw [AB];exact aa);rw [EX,DU,GU,EK,AB] at H;have u:Hid (∀e w',e=.returned (O w (L.length+1) G)->w'=w.drew.alloc (.cells ((L.flatMap cO++cO r).toArray++Builtin.zeroCells (Value.agg #[Z 0,Z 0,Z 0,false]).cells (G - (L.length+1))) 53)->pU w (.slice base L.length cap) (L++ [r]) e w'):=λe w' o am=>by
  subst am;exact ⟨w,G,by rw [o,AB];rfl,ad,H,.inr ⟨AU _,(G5 (Fr.refl w.drew)).alloc _⟩⟩
 generalize pU w _ _=ap at*;(have an:(L.length:Int)<=(cap:Int):=X);(have ao:(0:Int)<=(L.length:Int):=X);clear H ag ae ah J ai ab aa ad;obtain ⟨V,E⟩:∃V,V=w.drew.alloc (.cells ((L.flatMap cO++cO r).toArray++Builtin.zeroCells (Value.agg #[Z 0,Z 0,Z 0,false]).cells (G - (L.length+1))) 53):=⟨_,rfl⟩;rw [<-E] at A u;rcases h with ⟨o,rfl⟩|⟨b,cap',o,_,_⟩;{simp only [ER] at o ⊢;cases o;simp only [ER,BP] at A u;clear E af an ao al;go_enter func235,ntmps235;go_wp2_with (at_builtin;refine Lib.wpList_append_run _ rfl _ _ _ _ rfl _ _ rfl rfl _ _ (A _) ?_);exact u.o _ _ rfl rfl};{cases o;clear E af;go_enter func235,ntmps235;go_wp2_with (at_builtin;refine Lib.wpList_append_run _ rfl _ _ _ _ rfl _ _ rfl rfl _ _ (A _) ?_);all_goals exact u.o _ _ rfl rfl}
theorem aDB {α:Type} (L:List α) (i o) (u:i<L.length):((L.take (i+1)++L.drop i).take i++ [o]++(L.take (i+1)++L.drop i).drop (i+1))=L.take i++o::L.drop i:=by
 have r:(L.take (i+1)).length=i+1:=by rw [BZ];omega
 rw [List.take_append_of_le_length X,List.take_take,LZ X,List.drop_append,r,Nat.sub_self,KI,EO X];simp
theorem aCL (b cap E i L r w) (h:oQ w b cap L) (J:w.heap[E]? =some (.cells (cT r) 53 (0,0))) (bi:L.length<cap) (aj:cap<=maxLen) (ax:i<L.length) (al:E≠b):
  Calls prog 235 #[O b L.length cap,i,O E 1 1] w (pU w (O b L.length cap) (L.take i++r::L.drop i)):=by
 have H:(L.drop i).length=L.length - i:=IB;have Q:=bF.splice (c:=cO) (n:=4) l7 (h.fr (S:=No) (w':=w.drew) ⟨rfl,rfl,rfl,AU _,λ_ _ _=>rfl⟩ id) (i+1) (L.drop i) X X;have am:L.drop (i+1+(L.drop i).length)= []:=EO X;rw [am,EK] at Q;have ay:(L.take (i+1)++L.drop i).length=L.length+1:=by rw [AB,BZ,H];omega
 have V:=bF.splice (c:=cO) (n:=4) l7 Q i [r] X (by rw [AO];omega);rw [AO,aDB L i r ax] at V;rw [DU,GU,EK] at V;have ak:(L.take i++r::L.drop i).length=L.length+1:=by rw [AB,BX,BZ,H];omega
 obtain ⟨u,aa⟩:∃u,u=w.drew.setCells b ((i+1)*4) ((L.drop i).flatMap cO):=⟨_,rfl⟩
 have ab:=aa▸G5 (lK b _ _ w.drew);rw [<-aa] at Q V;have ap:Hid (∀e w',e=.returned (O b (L.length+1) cap)->w'=u.setCells b (i*4) (cO r)->pU w (O b L.length cap) (L.take i++r::L.drop i) e w'):=λe w' aw bb=>by
  subst bb;exact ⟨b,cap,by rw [aw,ak],aj,V,.inl ⟨⟨_,_,rfl⟩,ab.trans (lK b _ _ u) zq⟩⟩
 generalize pU w _ _=bc at*;have ae:=h.there 0 (cap*4) X;have au:∀B A ah,(Builtin.copy_ #[50,50] B #[.slice (some (I b ((i+1)*4))) (L.length - i) A,.slice (some (I b (i*4))) (L.length+1 - i) ah]).run prog w.drew=.ok (goInt (Nat.min (L.length+1 - i) (L.length - i))) u:=λB A ah=>by
  rw [aa];refine H5 w.drew 50 50 B 53 b ((i+1)*4) _ A (I b (i*4)) _ ah 4 _ underlying50 Tryz.tC (by rw [nG l7,H];simp only [Nat.min_def];split<;>omega) (λj ao o=> ?_) (λj o=> ?_) (λj o=> ?_) (Px _)
  ·rw [KN];exact h.part l7 i j ao o
  ·rw [nG l7,H] at o;have:=(ae ((i+1)*4+j) X).1;rwa [MQ,BP] at this
  ·rw [nG l7,H] at o;have:=(ae ((i+1)*4+j) X).2;rwa [MQ,BP] at this
 have an:=ab.aB J al;have af:=Q.there i 4 X;have av:∀B A,(Builtin.copy_ #[50,50] B #[.slice (some (I b (i*4))) (L.length+1 - i) A,O E 1 1]).run prog u=.ok (goInt 1) (u.setCells b (i*4) (cO r)):=λB A=>by
  have:=H5 (P:=prog) u 50 50 B 53 b (i*4) (L.length+1 - i) A (I E 0) 1 1 4 (cO r) underlying50 Tryz.tC (by rw [l7];simp only [Nat.min_def];split<;>omega) (λj ao o=>by
   rw [KN,BP,aA an,<-o];show (cO r).toArray[j]? =_;simp) (λj o=>(af j o).1) (λj o=>(af j o).2) (by simp [cO,Value.oneCell'])
  rwa [show Nat.min 1 (L.length+1 - i)=1 by simp only [Nat.min_def];split<;>omega] at this
 have az:∀ag ad,(callFunc 289 #[O E 1 1,.slice (some (I b ((i+1)*4))) ag ad]).run prog w=.ok (.value (.bool false)) w:=λag ad=>by
  obtain ⟨⟨aq,ai,ar⟩,_,_⟩:=h;rw [run_callFunc_extern func289 N N N (e:=Extern.SlicesOverlaps.overlaps #[50,50] #[4]) N,
   Lib.run_overlaps_apart w 50 4 53 underlying50 4 sizeOf53 (I E 0) (I b ((i+1)*4)) 1 1 ag ad al 53 53 4 aq.size (by simp [World.shape?,J]) (by simp [World.shape?,ai]) X (aU J _) (aU J _)]
  rfl
 have bm:prog.follows .mixedOrders=true:=N
 have bh:cap<=9223372036854775807:=aj;have bk:IntKind.i64.wrap ((i:Int)+1)=(i:Int)+1:=by rw [BG];omega
 have bl:¬((i:Int)=(L.length:Int)):=X
 have ai:(0:Int)<=(i:Int)+1:=X
 have bg:i<=L.length:=X
 have bj:((i:Int)+1).toNat=i+1:=X
 have ar:¬(cap=i+1):=X
 have bd:(i:Int)<=(L.length:Int)+1:=X
 have be:¬(cap=i):=X
 have bf:¬((cap:Int)<(L.length:Int)+1):=X
 clear ae af an Q V ak ay H h J am ab aa;go_enter func235,ntmps235;go_wp2_with (simp only [az])
 go_region_law_o (refine step_copy_runI rfl _ _ 50 50 rfl (.slice (some (I b ((i+1)*4))) (L.length - i) (cap - (i+1))) (.slice (some (I b (i*4))) (L.length+1 - i) (cap - i)) (by simp [Act.eval,Act.put]) (by simp [Act.eval,Act.put]) (au _ _ _) ?_)
 go_wp2_with (at_builtin;refine wpList_copy_runI _ rfl _ _ 50 50 rfl _ _ rfl rfl (av _ _) ?_);exact ap.o _ _ rfl rfl
theorem aCl (b cap ab i L o w) (h:oQ w b cap L) (ay:w.heap[ab]? =some (.cells (cT o) 53 (0,0))) (bm:cap=L.length) (cb:L.length<=1000000) (cd:i<L.length):
  Calls prog 235 #[O b L.length cap,i,O ab 1 1] w (pU w (O b L.length cap) (L.take i++o::L.drop i)):=by
 have J:(L.drop i).length=L.length - i:=IB;(have H:(L.take i).length=i:=by rw [BZ];omega);obtain ⟨bd,au,bb,bc,ak⟩:=EM Tryz.Nc;(have ax:(Builtin.firstCells bd.size i (O b i cap)).run prog w.drew=.ok ((L.take i).flatMap cO).toArray w.drew:=by{rw [bc];exact bF.firstCells (P:=prog) (w:=w.drew) (c:=cO) l7 (h.fr (S:=No) ⟨rfl,rfl,rfl,AU _,λ_ _ _=>rfl⟩ id) i i cap X});(have ag:i+(L.length+1 - i)=L.length+1:=X);have af:=λu=>Lib.run_append_grow_zeros w 50 3 u 53 bd _ .i64 .i64 underlying50 underlying3 au bb (some (I b 0)) i cap _ ax (L.length+1 - i) X X X X (by rw [ak];omega) (by rw [ak,ag];exact growslice_fits X X);rw [ag] at af;have cc:=grownCap_ge w (L.length+1) cap 53;have av:=NK w (L.length+1) cap 53 (by unfold maxLen;omega);generalize grownCap w _ cap 53=G at*;obtain ⟨A,V⟩:∃A,A=w.drew.alloc (.cells (((L.take i).flatMap cO).toArray++Builtin.zeroCells (Value.agg #[Z 0,Z 0,Z 0,false]).cells (L.length+1 - i)++Builtin.zeroCells (Value.agg #[Z 0,Z 0,Z 0,false]).cells (G - (L.length+1))) 53):=⟨_,rfl⟩
 have bn:∀u,(Builtin.append_ #[50,3] u #[O b i cap,Z ((L.length:Int)+1 - (i:Int))]).run prog w=.ok (O w (L.length+1) G) A:=λu=>by
  have:=af u;rw [show ((L.length+1 - i:Nat):Int)=(L.length:Int)+1 - (i:Int) by omega] at this;rw [V];exact this
 clear af;have ad:Fr No w A:=V▸(G5 (Fr.refl w.drew)).alloc _;(have al:oQ A w G (L.take i++List.replicate (L.length+1 - i) gY):=by{(have cf:(L.take i++List.replicate (L.length+1 - i) gY).length=L.length+1:=by rw [AB,H,KR];omega);refine bF.of_block l7 (V▸aT w.drew _) ?_ X (λk ao ah=> ?_);{simp only [Array.size_append,MN,nG l7,H,Builtin.zeroCells,Array.size_map,Array.size_range,Jn];omega};{(have bp:(List.replicate (L.length+1 - i) gY).flatMap cO=(Builtin.zeroCells (Value.agg #[Z 0,Z 0,Z 0,false]).cells (L.length+1 - i)).toList:=by{rw [Rl _ 4 _ Jn,Ru];rfl});rw [EX,bp] at ah;have bl:=(AY.1 ah).1;rw [MW (U bl)];rw [<-ah,<-CV];simp}});have Q:=bF.splice (c:=cO) (n:=4) l7 al i [o] (by rw [AB];omega) (by rw [AO];omega);(have ap:(L.take i++List.replicate (L.length+1 - i) gY).take i++ [o]++(L.take i++List.replicate (L.length+1 - i) gY).drop (i+ [o].length)=L.take i++o::List.replicate (L.length - i) gY:=by{rw [List.take_append_of_le_length X,List.take_take,Nat.min_self,AO,List.drop_append,H,EO X,DC,List.drop_replicate,JB,List.singleton_append,show L.length+1 - i - (i+1 - i)=L.length - i by omega]});rw [ap,DU,GU,EK] at Q;obtain ⟨B,aa⟩:∃B,B=A.setCells w (i*4) (cO o):=⟨_,rfl⟩;have ae:=aa▸(ad.bC.trans (lK w _ _ A) zq).no (λj r e=>by omega);rw [<-aa] at Q;(have bk:(L.take i++o::List.replicate (L.length - i) gY).length=L.length+1:=by rw [AB,BX,KR,H];omega);have am:=bF.splice (c:=cO) (n:=4) l7 (Q.fr (S:=No) (w':=B.drew) ⟨rfl,rfl,rfl,AU _,λ_ _ _=>rfl⟩ id) (i+1) (L.drop i) X X;(have aq:(L.take i++o::List.replicate (L.length - i) gY).take (i+1)++L.drop i++(L.take i++o::List.replicate (L.length - i) gY).drop (i+1+(L.drop i).length)=L.take i++o::L.drop i:=by{have bf:(L.take i++o::List.replicate (L.length - i) gY).drop (i+1+(L.drop i).length)= []:=EO X;(have bg:(L.take i++o::List.replicate (L.length - i) gY).take (i+1)=L.take i++ [o]:=by{rw [List.take_append,H,FI X,show i+1 - i=1 by omega];rfl});rw [bf,bg,EK,JB,List.singleton_append]});rw [aq] at am;have aw:(L.take i++o::L.drop i).length=L.length+1:=by rw [AB,BX,H,J];omega
 have be:Hid (∀e w',e=.returned (O w (L.length+1) G)->w'=B.drew.setCells w ((i+1)*4) ((L.drop i).flatMap cO)->pU w (O b L.length cap) (L.take i++o::L.drop i) e w'):=λe w' bj bo=>by
  subst bo;exact ⟨w,G,by rw [bj,aw],av,am,.inr ⟨AU _,((Jq ae).bC.trans (lK w _ _ B.drew) zq).no (λj r e=>by omega)⟩⟩
 generalize pU w _ _=bq at*;have ai:=al.there i 4 X;have aj:=Q.there (i+1) ((L.length - i)*4) X;have az:=ad.aB ay id;have bh:∀u E,(Builtin.copy_ #[50,50] u #[.slice (some (I w (i*4))) (L.length+1 - i) E,O ab 1 1]).run prog A=.ok (goInt 1) B:=λu E=>by
  have:=H5 (P:=prog) A 50 50 u 53 w (i*4) (L.length+1 - i) E (I ab 0) 1 1 4 (cO o) underlying50 Tryz.tC (by rw [l7];simp only [Nat.min_def];split<;>omega) (λj ao r=>by
   rw [KN,BP,aA az,<-r];show (cO o).toArray[j]? =_;simp) (λj r=>(ai j r).1) (λj r=>(ai j r).2) (by simp [cO,Value.oneCell'])
  rw [show Nat.min 1 (L.length+1 - i)=1 by simp only [Nat.min_def];split<;>omega,<-aa] at this;exact this
 have ar:=h.fr ae id;have bi:∀u E an,(Builtin.copy_ #[50,50] u #[.slice (some (I w ((i+1)*4))) (L.length - i) E,.slice (some (I b (i*4))) (L.length - i) an]).run prog B.drew=.ok (goInt (Nat.min (L.length - i) (L.length - i))) (B.drew.setCells w ((i+1)*4) ((L.drop i).flatMap cO)):=λu E an=>by
  refine H5 B.drew 50 50 u 53 w ((i+1)*4) _ E (I b (i*4)) _ an 4 _ underlying50 Tryz.tC (by rw [nG l7,J];simp only [Nat.min_def];split<;>omega) (λj ao r=> ?_) (λj r=> ?_) (λj r=> ?_) (Px _);{rw [KN];exact ar.part l7 i j ao r};{rw [nG l7,J] at r;exact (aj j r).1};{rw [nG l7,J] at r;exact (aj j r).2}
 (have cj:prog.follows .mixedOrders=true:=N);have br:=av;(have ch:IntKind.i64.wrap ((i:Int)+1)=(i:Int)+1:=by rw [BG];omega);(have ci:¬((i:Int)=(L.length:Int)):=X);(have bt:(0:Int)<=(i:Int)+1:=X);(have ce:i<=L.length:=X);(have cg:((i:Int)+1).toNat=i+1:=X);(have bu:(i:Int)<=(L.length:Int):=X);(have bv:(cap:Int)<(L.length:Int)+1:=X);(have bw:¬(G=i):=X);(have bx:¬(G=i+1):=X);(have bz:¬(cap=i):=X);have ca:(i:Int)<=(cap:Int):=X
 clear ai aj az al Q am aw bk J H h ay ad ae V aa ap aq ar ax au bb bc ak ag bm;go_enter func235,ntmps235;go_wp2_with (first
  | (at_builtin;refine Lib.wpList_append_run _ rfl _ _ _ _ rfl _ _ rfl rfl _ _ (bn _) ?_)
  | (at_builtin;refine wpList_copy_runI _ rfl _ _ 50 50 rfl _ _ rfl rfl (bh _ _) ?_))
 go_region_law_o (refine step_copy_runI rfl _ _ 50 50 rfl (.slice (some (I w ((i+1)*4))) (L.length - i) (G - (i+1))) (.slice (some (I b (i*4))) (L.length - i) (cap - i)) (by simp [Act.eval,Act.put]) (by simp [Act.eval,Act.put]) (bi _ _ _) ?_);go_wp2_with fail;exact be.o _ _ rfl rfl
theorem Uf (v o i L r w) (h:oH w v L) (A:w.heap[o]? =some (.cells (cT r) 53 (0,0))) (H:L.length<=1000000) (aa:i<=L.length) (ad:∀b l c,v=.slice (some (I b 0)) l c->o≠b):
  Calls prog 235 #[v,i,O o 1 1] w (pU w v (L.take i++r::L.drop i)):=by
 rcases h with ⟨rfl,rfl⟩|⟨b,cap,rfl,E,u⟩;{(have ab:i=0:=by simpa using aa);subst ab;exact Sj none 0 o [] r w (.inl ⟨rfl,rfl⟩) A rfl D};{by_cases Q:L.length<cap;{rcases BK i L.length with B|V;{exact aCL b cap o i L r w u A Q E B (ad b _ _ rfl)};{(obtain rfl:i=L.length:=by omega);have:=aFL b cap o L r w u A Q E;rwa [AX,KF]}};{(have J:cap=L.length:=by have:=u.len;omega);rcases BK i L.length with B|V;{exact aCl b cap o i L r w u A J H B};{(obtain rfl:i=L.length:=by omega);have:=Sj (some (I b 0)) cap o L r w (.inr ⟨b,cap,rfl,E,u⟩) A J H;rwa [AX,KF]}}}
def kG (r x:Tok):Int:=if r.c=x.c then r.h - x.h else r.c - x.c
def small (x:Tok):Prop:=0<=x.c/\x.c<4/\0<=x.h/\x.h<4
theorem aEO (o x) (r:small o) (u:small x) (w):Calls prog 234 #[.agg (cT o),.agg (cT x)] w λe w'=>e=.returned (Z (kG o x))/\Fr No w w':=by
 obtain ⟨a1,a2,a3,a4⟩:=r;obtain ⟨A,B,E,H⟩:=u;by_cases h:o.c=x.c;{have e:kG o x=o.h - x.h:=AL h;rw [e];rw [h] at*;clear e h;go_enter func234,ntmps234;go_wp2;go_ret;exact ⟨rfl,by repeat (first|exact Fr.refl _|apply Fr.alloc)⟩};{have e:kG o x=o.c - x.c:=AA h;rw [e];clear e;go_enter func234,ntmps234;go_wp2;go_ret;exact ⟨rfl,by repeat (first|exact Fr.refl _|apply Fr.alloc)⟩}
def fU (L:List Tok) (c:Int):Nat:=((List.range 4).find? λh:Nat=>(dF L c h).isNone).getD 4
theorem Sl {L c h} (E:h<=4) (r:∀k:Nat,k<h->(dF L c k).isSome=true) (B:h<4->(dF L c h).isNone=true):fU L c=h:=by
 unfold fU;rcases BK h 4 with u|H;{(have:(List.range 4).find? (λh:Nat=>(dF L c h).isNone)=some h:=by{have A:(List.range 4)[h]? =some h:=(by rw [List.getElem?_range u]);refine Du (p:=λh:Nat=>(dF L c h).isNone) A (B u) (λy o=> ?_);rw [List.take_range,CJ] at o;have:=r y X;simp only [Option.isNone_eq_false_iff];exact this});rw [this];rfl}
 ·have:(List.range 4).find? (λh:Nat=>(dF L c h).isNone)=none:=EU.2 (λy o=>by
   have:=r y (by have:=CJ.1 o;omega);simp only [KH,Option.isNone_eq_false_iff];exact this)
  rw [this];(have:h=4:=X);rw [this];rfl
def eY (L:List Tok) (c i:Int) (wr:Bool):Int×Nat×List Tok:=
 if 4<=fU L c then (5,0,L) else if L.any (λx=>x.i==i&&(wr||x.wr)) then (8,0,L)
 else (0,fU L c,L.takeWhile (λx=>decide (0<kG ⟨c,fU L c,i,wr⟩ x))++⟨c,fU L c,i,wr⟩::L.dropWhile (λx=>decide (0<kG ⟨c,fU L c,i,wr⟩ x)))
def zF (w:World) (o:Nat->Nat) (K k:Nat) (L:List Tok) (x:Int×Nat×List Tok) (e:Ending) (w':World):Prop:=
 e=.returned (.tuple #[x.2.1,x.1])/\oO w o K k x.2.2 w'
theorem take_at {α:Type} (p) (L:List α) (j) (J:j<=L.length) (u:∀y∈L.take j,p y=true) (A:∀y,L[j]? =some y->p y=false):L.takeWhile p=L.take j/\L.dropWhile p=L.drop j:=by
 (induction L generalizing j with|nil=>simp|cons a r ih=>(cases j with|zero=>have:=A a D;simp [List.takeWhile_cons,List.dropWhile_cons,this]|succ j=>have H:=u a D;obtain ⟨B,E⟩:=ih j (U J) (λy o=>u y (by simp [o])) (λy o=>A y (U o));simp [List.takeWhile_cons,List.dropWhile_cons,H,B,E]))
theorem aEj (c i:Int) (o:0<=c/\c<4) (r:2<=i/\i<=128) (w):Calls prog 233 #[c,i] w λe w'=>e=.returned (.bool true)/\w'=w:=by
 obtain ⟨u,A⟩:=o;obtain ⟨B,E⟩:=r;go_enter func233,ntmps233;go_wp2;go_ret;exact ⟨rfl,rfl⟩
theorem kQ.Ht {w r A o K k b cap M v} (h:o k=K+5) (E:w.heap[k]? =some (.cells #[true,v] 187 (0,0))) (J:aF w o) (aa:w.heap.size<=b) (f:Fr No w r) (H:oQ r b cap M) (Q:cap<=maxLen) (e:A=r.setCell (I k 1) (O b M.length cap)):oO w o K k M A:=by
 have ad:=lt_of_block E;have V:=f.aB E id;have u:=e▸dZ r k 1 _;have F:=f.bC.trans u zq;have ab:=H.lt;have s:Step (iE K) w o A (fZ o b (K+9)):=⟨F.mono (λj _ e=> .inl (by rw [e];exact h)),λj B=>dS o _ X,λj B=>by
  have:=u.size;rw [dS o _ X];exact J j (AV F.size B)⟩
 exact ⟨_,s,by rw [dS o _ X];exact h,_,e▸setCell_at V 1 _,.inr ⟨b,cap,rfl,Q,mF _ _ _,H.fr u X⟩⟩
theorem Qs {w W w8 B K k L M v e} (aa:kQ w B K k L) (r:w.heap[k]? =some (.cells #[true,v] 187 (0,0))) (J:aF w B) (F:Fr No w W) (h:pU W v M e w8):
  ∃b cap,e=.returned (O b M.length cap)/\(∃ag,w8.cell? (I k 1)=some ag)/\w8.frozen? (I k 1)=false/\oO w B K k M (w8.setCell (I k 1) (O b M.length cap)):=by
 obtain ⟨E,aj,H,af⟩:=aa;rw [r] at H;simp only [FQ,Obj.cells.injEq,Array.mk.injEq,II,and_true,true_and] at H;subst H;obtain ⟨b,cap,rfl,Q,V,ab⟩:=h;rcases ab with ⟨⟨l,c,rfl⟩,f⟩|⟨ad,f⟩;{(have A:B b=K+9:=by{rcases af with ⟨e,_⟩|⟨ah,ai,e,_,A,_⟩;{cases e};{cases e;exact A}});(have ae:k≠b:=by intro e;rw [e,A] at E;omega);have o:=F.bC.trans f zq;have u:=o.aB r ae;exact ⟨b,cap,rfl,⟨_,aA u 1⟩,aU u 1,kQ.put E r J A o V Q rfl⟩};{have o:=F.trans f zq;have u:=o.aB r id;exact ⟨b,cap,rfl,⟨_,aA u 1⟩,aU u 1,kQ.Ht E r J (AV F.size ad) o V Q rfl⟩}
theorem open_ (Q K k L) (c i:Int) (o:Bool) (w) (dx:kQ w Q K k L) (bj:aF w Q) (cz:0<=c/\c<4) (da:2<=i/\i<=128) (dd:∀x∈L,small x) (cy:L.length<=1000000):
  Calls prog 161 #[Y k,c,i,o] w (zF w Q K k L (eY L c i o)):=by
 have ex:∀(fn:Fn) (first cap:Array Value) (w:World),(Instr.makeFunc fn first cap).run prog w=.ok (.func fn first cap) w:=λ_ _ _ _=>rfl;obtain ⟨aj,v,ax,bk⟩:=dx;have A:Hid (oH w v L):=lH (by
  rcases bk with dt|⟨b,cap,e,ae,bh,eg⟩;{exact .inl dt}
  ·exact .inr ⟨b,cap,e,ae,eg⟩)
 have bt:Hid (∀w' (h:Int),Fr No w w'->Calls prog 163 #[Y k,c,h] w' (rU w' (dF L c h))):=λw' h f=>Ew k v L c h w' (f.aB ax id) (A.o.fr f);have ev:=aA ax;have ah:=lH ax;have ci:=lH bj;have be:Hid (eY L c i o=if 4<=fU L c then (5,0,L) else if L.any (λx=>x.i==i&&(o||x.wr)) then (8,0,L) else (0,fU L c,L.takeWhile (λx=>decide (0<kG ⟨c,fU L c,i,o⟩ x))++⟨c,fU L c,i,o⟩::L.dropWhile (λx=>decide (0<kG ⟨c,fU L c,i,o⟩ x)))):=lH rfl;have bu:Hid (∀h e w',eY L c i o=(h,0,L)->e=.returned (.tuple #[Z 0,h])->Fr No w w'->zF w Q K k L (eY L c i o) e w'):=λh e w' al cb f=>by
  rw [al];exact ⟨cb,Q,Step.no bj f,kQ.no ⟨aj,v,ax,bk⟩ bj f⟩
 have cm:Hid (∀e w' M (h:Nat),eY L c i o=(0,h,M)->e=.returned (.tuple #[h,Z 0])->oO w Q K k M w'->zF w Q K k L (eY L c i o) e w'):=λe w' M h al cb g=>by
  rw [al];exact ⟨cb,g⟩
 generalize zF w Q K k L _=eu at*;generalize eY L c i o=aq at*;have co:=lH dd;have cj:=lH aj;have cu:=lH bk;have bn:=lH cz;have dj:=lH da;clear ax bj dd aj bk cz da;go_enter func161,ntmps161;go_wp2_with fail;refine cr (aEj c i bn.o dj.o w) ?_;rintro w rfl;go_wp2_with fail;refine cr (bt.o w 0 (Fr.refl _)) λce cw=> ?_;unfold kJ;go_wp2_with fail;generalize ei:(dF L c 0).getD gY=cf;have df:=aT ce (.cells (cT cf) 53);have ch:=lH (cw.alloc (.cells (cT cf) 53));generalize eh:ce.alloc _=fc at*;have cv:=lH df;clear eh cw df;generalize de:(dF L c 0).isSome=fb;have cp:=lH de;clear de ei;go_loopw [10,11,12] (λa p ep an=>∃h g:Nat,a=Z h/\p=Y g/\ep=.bool (dF L c h).isSome/\h<=4/\Hid (∀j:Nat,j<h->(dF L c j).isSome=true)/\Hid (Fr No w an)/\Hid (∃x:Tok,an.heap[g]? =some (.cells (cT x) 53 (0,0)))) (λa _ _ _=>4 - (intOf a).toNat);case atStart=>exact ⟨0,ce.heap.size,rfl,rfl,by rw [<-cp.o];rfl,by omega,lH X,ch,lH ⟨cf,cv.o⟩⟩
 case round=>
  obtain ⟨h,g,rfl,rfl,rfl,dy,bm,ag,cl⟩:=hrel;cases az:(dF L c h).isSome with
  | true=>
   have ed:h<4:=by{apply BI;intro ew;obtain ⟨x,al⟩:=EC.1 az;have ae:=DF al;have ef:=KT al;have:=co.o x ae;simp only [BO,beq_iff_eq] at ef;have:=this.2.2.2;omega}
   have dl:=lH az;obtain ⟨x,aw⟩:=cl.o;have ej:wr.cell? (I g 0)=some (Z x.c):=aA aw _;have ek:wr.cell? (I g 1)=some (Z x.h):=aA aw _;have el:wr.cell? (I g 2)=some (Z x.i):=aA aw _;have em:wr.cell? (I g 3)=some (.bool x.wr):=aA aw _;clear aw az;go_wp2_with fail;refine cr (bt.o _ ((h:Int)+1) (ag.o.alloc _)) λfd bw=> ?_;unfold kJ;have di:=lH (((ag.o.alloc _).trans bw zq));have dh:=lH (bw.aB (aT wr _) id);have dg:Hid (∀j:Nat,j<h+1->(dF L c j).isSome=true):=λj ak=>by
    rcases BK j h with aj|aj;{exact bm.o j aj};{(obtain rfl:j=h:=by omega);exact dl.o}
   clear bw;go_wp2_with fail;go_roundw;{exact ⟨h+1,wr.heap.size,by go_num,rfl,by rw [show ((h+1:Nat):Int)=(h:Int)+1 by omega],by omega,dg,di,lH ⟨x,dh.o⟩⟩};simp [intOf];omega
  | false=>
   have bc:=lH (Sl dy bm.o (λ_=>by rw [<-Option.not_isSome,az];rfl));clear az bm;by_cases du:h=4;{subst du;have A:Hid (aq=(5,0,L)):=lH (by rw [be.o,AL (by rw [bc.o];exact AU _)]);exact aC (bu.o 5 _ _ A.o rfl ag.o)}
   ·(have ed:h<4:=X);have ez:¬(4:Int)<=(h:Int):=X;have dz:=ag.o.aB ah.o id;have c1:=aA dz;(obtain ⟨base,cap,rfl⟩:∃base cap,v=.slice base L.length cap:=by{rcases A.o with ⟨e,eb⟩|⟨b,cap,e,_,_⟩;{exact ⟨none,0,by rw [e,eb];rfl⟩};{exact ⟨_,_,e⟩}});go_wp2_with fail;go_loopw [56] (λa an=>∃j:Nat,a=Z j/\j<=L.length/\Hid (∀y∈L.take j,(y.i==i&&(o||y.wr))=false)/\Hid (Fr No w an)) (λa _=>L.length - (intOf a).toNat);case atStart=>exact ⟨0,rfl,BA _,lH D,ag⟩
    case round=>
     obtain ⟨j,rfl,ak,J,r⟩:=hrel;by_cases B:j<L.length
     ·(obtain ⟨b,bz,ca,ao⟩:∃b,base=some (I b 0)/\cap<=maxLen/\Hid (oQ w b cap L):=by{rcases A.o with ⟨_,rfl⟩|⟨b,cap',e,ae,bh⟩;{simp at B};{cases e;exact ⟨b,rfl,ae,lH bh⟩}});subst bz;have ee:=ca;have ec:=ao.o.len;have cd:(j:Int)<(L.length:Int):=X;have en:(0:Int)<=(j:Int):=X;have eo:(j:Int)<(cap:Int):=X
      have u:=lH ((ao.o.fr r.o id).row j L[j] (AC B));have ai:=lH (AC B);generalize L[j]=x at*;have af:=lH (r.o.alloc (.cells (cT x) 53));unfold cO at u;cases dc:(x.i==i) with
      | false=>
       have ap:=lH (wQ (p:=λy=>y.i==i&&(o||y.wr)) ai.o (by simp [dc]) J.o);go_wp2_with (refine wL 53 u.o ?_);go_roundw;{exact ⟨j+1,by go_num,B,ap,af⟩};simp [intOf];omega
      | true=>
       cases bi:(o||x.wr) with
       | false=>
        have ap:=lH (wQ (p:=λy=>y.i==i&&(o||y.wr)) ai.o (by simp [bi]) J.o);obtain ⟨rfl,bb⟩:=Bool.or_eq_false_iff.1 bi;rw [bb] at af;rw [bb] at u;go_wp2_with (refine wL 53 u.o ?_);go_roundw;{exact ⟨j+1,by go_num,B,ap,af⟩};simp [intOf];omega
       | true=>
        have ct:Hid (aq=(8,0,L)):=lH (by
         rw [be.o,AA (by rw [bc.o];omega),AL];rw [List.any_eq_true];exact ⟨x,DX ai.o,by simp [dc,bi]⟩)
        (cases o with|true=>go_wp2_with (refine wL 53 u.o ?_);exact bu.o 8 _ _ ct.o rfl af.o|false=>have bb:x.wr=true:=(U bi);rw [bb] at af;rw [bb] at u;go_wp2_with (refine wL 53 u.o ?_);exact bu.o 8 _ _ ct.o rfl af.o)
     ·(obtain rfl:j=L.length:=by omega);have cd:¬(L.length:Int)<(L.length:Int):=X
      have bd:Hid (aq=(0,h,L.takeWhile (λx=>decide (0<kG ⟨c,h,i,o⟩ x))++⟨c,h,i,o⟩::L.dropWhile (λx=>decide (0<kG ⟨c,h,i,o⟩ x)))):=lH (by
       rw [be.o,bc.o,AA X,AA];rw [KH,List.any_eq_false];intro y H;rw [J.o y (by rw [AX];exact H)];simp)
      clear be J bc;have cc:=(r.o.alloc (.cells #[c,h,i,o] 53)).aB ah.o id;have c1:=aA cc;go_wp2_with fail;have bl:=lH (r.o.alloc (.cells #[c,h,i,o] 53));have cn:=lH (aT wr (.cells #[c,h,i,o] 53));have br:=lH cc;generalize wr.alloc _=er at*;generalize wr.heap.size=fa at*;have dk:Hid (small ⟨c,h,i,o⟩):=lH ⟨bn.o.1,bn.o.2,by dsimp only;omega,by dsimp only;omega⟩;clear cc r ag cl cp ch cv bt;go_loopw [17] (λa an=>∃j:Nat,a=Z j/\j<=L.length/\Hid (∀y∈L.take j,decide (0<kG ⟨c,h,i,o⟩ y)=true)/\Hid (Fr No er an)) (λa _=>L.length - (intOf a).toNat);case atStart=>exact ⟨0,rfl,BA _,lH D,lH (Fr.refl _)⟩
      case round=>
       obtain ⟨j,rfl,ak,J,r⟩:=hrel;have ea:=r.o.aB br.o id;have c5:=aA ea;by_cases B:j<L.length
       ·(obtain ⟨b,bz,ca,ao⟩:∃b,base=some (I b 0)/\cap<=maxLen/\Hid (oQ w b cap L):=by{rcases A.o with ⟨_,rfl⟩|⟨b,cap',e,ae,bh⟩;{simp at B};{cases e;exact ⟨b,rfl,ae,lH bh⟩}});subst bz;have ee:cap<=9223372036854775807:=ca;have ec:L.length<=cap:=ao.o.len;have cd:(j:Int)<(L.length:Int):=X;have en:(0:Int)<=(j:Int):=X;have eo:(j:Int)<(cap:Int):=X;have u:=lH ((ao.o.fr (bl.o.trans r.o zq) id).row j L[j] (AC B));have ai:Hid (L[j]? =some L[j]):=AC B;have ck:=lH (aEO ⟨c,h,i,o⟩ L[j] dk.o (co.o _ (BF _)) wr);generalize L[j]=x at*;unfold cO at u;have ej:wr.cell? (I b (j*4))=some (Z x.c):=u.o 0 _ rfl;have ek:wr.cell? (I b (j*4+1))=some (Z x.h):=u.o 1 _ rfl;have el:wr.cell? (I b (j*4+2))=some (Z x.i):=u.o 2 _ rfl;have em:wr.cell? (I b (j*4+3))=some (.bool x.wr):=u.o 3 _ rfl;have cx:∀a:Int,kG ⟨c,h,i,o⟩ x=a->(Hid (kG ⟨c,h,i,o⟩ x=a)):=λa e=>lH e;generalize bg:kG ⟨c,h,i,o⟩ x=cg at*;have et:=cx cg rfl;clear cx;by_cases db:0<cg
        ·have ap:Hid (∀y∈L.take (j+1),decide (0<kG ⟨c,h,i,o⟩ y)=true):=λy H=>by
          rw [DJ,ai.o] at H;rcases BM.1 H with bf|bf;{exact J.o y bf};{simp at bf;subst bf;rw [bg];simpa using db}
         clear bg;go_wp2_with fail;refine cr ck.o λam au=> ?_;go_wp2_with fail;go_roundw;{exact ⟨j+1,by go_num,B,ap,lH (r.o.trans au zq)⟩};simp [intOf];omega
        ·have ab:=lH (take_at (λy=>decide (0<kG ⟨c,h,i,o⟩ y)) L j ak J.o (λy H=>by
          rw [ai.o] at H;cases H;rw [bg];simpa using db))
         clear bg;go_wp2_with fail;refine cr ck.o λam au=> ?_;go_wp2_with fail;have ad:=(r.o.trans au zq).aB br.o id;have ay:=(r.o.trans au zq).aB cn.o id;have d1:=aA ad;have d2:=aA ay;have d6:(am.alloc (.cells #[c,h,i,o] 53)).cell? (I k 1)=some (O b L.length cap):=aA (((Fr.refl (S:=No) am).alloc _).aB ad id) _;have aa:=Jq (bl.o.trans (r.o.trans au zq) zq);have V:Fr No w (am.drew.alloc (.cells #[c,h,i,o] 53)):=aa.alloc _;have bq:=lH (Uf _ am.drew.heap.size j L ⟨c,h,i,o⟩ _ (A.o.fr V) (aT am.drew _) cy ak (λb l dp e=>by
          rcases A.o with ⟨E,_⟩|⟨dm,dq,E,_,bx⟩;{rw [E] at e;cases e}
          ·rw [E] at e;cases e;have dv:=bx.lt;have dw:=aa.size;omega))
         have bo:=lH (λe w8 M=>Qs (w8:=w8) (M:=M) (e:=e) ⟨cj.o,_,ah.o,cu.o⟩ ah.o ci.o V);have bv:Hid (aq=(0,h,L.take j++⟨c,h,i,o⟩::L.drop j)):=lH (by rw [bd.o,ab.o.1,ab.o.2]);clear ad ay V aa bd ab;generalize L.take j++_::L.drop j=M at*;go_region_with (go_at_call 235;refine bq.o.mono ?_;rintro e w8 av;obtain ⟨dn,dr,rfl,⟨eq,ds⟩,E,ar⟩:=bo.o _ _ _ av;clear av;have bp:=lH ar;clear ar);(all_goals exact aC (cm.o _ _ M h bv.o rfl bp.o))
       ·(obtain rfl:j=L.length:=by omega);have cd:¬(L.length:Int)<(L.length:Int):=X
        have ab:=lH (take_at (λy=>decide (0<kG ⟨c,h,i,o⟩ y)) L L.length ak J.o (λy H=>by simp at H));go_wp2_with fail;have ad:=(r.o).aB br.o id;have ay:=(r.o).aB cn.o id;have d1:=aA ad;have d2:=aA ay;have d6:(wr.alloc (.cells #[c,h,i,o] 53)).cell? (I k 1)=some (.slice base L.length cap):=aA (((Fr.refl (S:=No) wr).alloc _).aB ad id) _;have aa:=Jq (bl.o.trans (r.o) zq);have V:Fr No w (wr.drew.alloc (.cells #[c,h,i,o] 53)):=aa.alloc _;have bq:=lH (Uf _ wr.drew.heap.size L.length L ⟨c,h,i,o⟩ _ (A.o.fr V) (aT wr.drew _) cy ak (λb l dp e=>by
         rcases A.o with ⟨E,_⟩|⟨dm,dq,E,_,bx⟩;{rw [E] at e;cases e}
         ·rw [E] at e;cases e;have dv:=bx.lt;have dw:=aa.size;omega))
        have bo:=lH (λe w8 M=>Qs (w8:=w8) (M:=M) (e:=e) ⟨cj.o,_,ah.o,cu.o⟩ ah.o ci.o V);have bv:Hid (aq=(0,h,L.take L.length++⟨c,h,i,o⟩::L.drop L.length)):=lH (by rw [bd.o,ab.o.1,ab.o.2]);clear ad ay V aa bd ab;generalize L.take L.length++_::L.drop L.length=M at*;go_region_with (go_at_call 235;refine bq.o.mono ?_;rintro e w8 av;obtain ⟨dn,dr,rfl,⟨eq,ds⟩,E,ar⟩:=bo.o _ _ _ av;clear av;have bp:=lH ar;clear ar);(all_goals exact aC (cm.o _ _ M h bv.o rfl bp.o))
