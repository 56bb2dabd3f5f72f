/- Part of the proof; the last text says what is proved. -/
import Derived.Test.YtlcojhddnpmgmaaGreatW14
import Derived.Test.YtlcojhddnpmgmaaGreatW19
import Derived.WideKeyEntry
set_option linter.unusedSimpArgs false
set_option linter.unusedVariables false
set_option maxRecDepth 100000
set_option maxHeartbeats 3200000
namespace Go.Proofs.YtlcojhddnpmgmaaGreat
open Go.RowKit
theorem gmade_ (o:Nat→Nat) (K n:Nat) (L:Plc) (S:St) (w:World) (h:StateAt w o K L S n):Calls Tryz.prog 47 #[.pointer (some ⟨L.s,0,none⟩)] w fun e w'=>e=.returned (.bool true)∧w'=w:=by
 have c9:w.cell? ⟨L.s,9,none⟩=some (.pointer (some ⟨L.tr,0,none⟩)):=h.cell 9;clear h;go_enter Tryz.func47,Tryz.ntmps47
 go_wp2
 go_ret
 exact ⟨rfl,rfl⟩
def bornG (d:Nat) (cs:Array Value) (t:TypeId) (w0:World) (a:Act) (w:World):Prop:=
 Fr No w0 w∧(a.tmps.getD d undef=undef∨∃g,a.tmps.getD d undef=.pointer (some ⟨g,0,none⟩)∧w0.heap.size≤g∧w.heap[g]? =some (.cells cs t (0,0)))
theorem bornG_put (e:Nat) (cs:Array Value) (t:TypeId) (w0:World) (d:Nat) (hd:d≠e) (a:Act) (v:Value) (w:World):bornG e cs t w0 (a.put (some d) v) w↔bornG e cs t w0 a w:=by
 have e:(a.put (some d) v).tmps.getD e undef=a.tmps.getD e undef:=by
  simp [Act.put,Array.getElem?_setIfInBounds,hd]
 unfold bornG;rw [e]
theorem UsesAt.look {w:World} {o:Nat→Nat} {K us n:Nat} {U:Stp→Option Us} (h:UsesAt w o K us n U) (x:Stp) (hx:stpGood x):
  ∃v,∀w',Fr No w w'→(Instr.lookup 101 (.map (some us)) (stpV x) true).run Tryz.prog w'=.ok (.tuple #[.agg v,.bool (U x).isSome]) w'∧v.size=6∧v.all (·.oneCell')=true:=by
 obtain ⟨h1,c,h2,h3⟩:=h;cases hU:U x with
 | none=>
  refine ⟨#[.int .i64 0,.int .i64 0,.int .i64 0,.int .i64 0,.int .i64 0,.int .i64 0],fun w' f=>⟨?_,rfl,by simp [Value.oneCell']⟩⟩;have:=(h3.fr f id).look x hx (t:=101) (e:=80) Tryz.underlying101 (z:=.agg #[.int .i64 0,.int .i64 0,.int .i64 0,.int .i64 0,.int .i64 0,.int .i64 0]) (by kernel_rfl) true;rw [show usem U x=none by unfold usem;rw [hU];rfl] at this;exact this
 | some u=>
  refine ⟨#[.int .i64 x.1,.int .i64 x.2.1,.int .i64 x.2.2,.int .i64 u.1,.int .i64 u.2.1,.int .i64 u.2.2],fun w' f=>⟨?_,rfl,by simp [Value.oneCell']⟩⟩;have:=(h3.fr f id).look x hx (t:=101) (e:=80) Tryz.underlying101 (z:=.agg #[.int .i64 0,.int .i64 0,.int .i64 0,.int .i64 0,.int .i64 0,.int .i64 0]) (by kernel_rfl) true;rw [show usem U x=some (x,u) by unfold usem;rw [hU];rfl] at this;exact this
theorem Tryz.size46:(Tryz.prog.info? 46).map (·.size)=some 3:=by kernel_rfl
theorem Tryz.size80:(Tryz.prog.info? 80).map (·.size)=some 6:=by kernel_rfl
theorem exec_load_mid {op:Oper} {a:Act} {w:World} (ty:TypeId) (x:Operand) (ho:op.op=.load ty x) (b o:Nat) (hx:a.eval x=.pointer (some ⟨b,o,none⟩)) (cs:List Value) (d:TypeDesc) (hc:w.rangeAt b o cs)
  (hu:Tryz.prog.underlying ty=some d) (hd:d.isRow=true) (hi:(Tryz.prog.info? ty).map (·.size)=some cs.length):(execOp a.eval op).run Tryz.prog w=.ok (.value (.agg cs.toArray)) w:=by
 unfold execOp;simp only [ho,hx,Instr.loadAt,Instr.sureAddr,Sem.run_bind,Sem.run_pure,Result.andThen_ok,run_loadVar_mid w b o ty cs d hc hu hd hi]
theorem holds_ (o:Nat→Nat) (K n:Nat) (L:Plc) (S:St) (x:Stp) (w:World) (h:StateAt w o K L S n) (ok:StOk S) (hf:Fresh w o) (hx:stpGood x):
  Calls Tryz.prog 21 #[.pointer (some ⟨L.s,0,none⟩),stpV x] w fun e w'=>e=.returned (.bool (S.U x).isSome)∧Fr No w w':=by
 have mixed:Tryz.prog.follows .mixedOrders=true:=by kernel_rfl
 have f0:Fr No w (w.alloc (.cells #[.int .i64 x.1,.int .i64 x.2.1,.int .i64 x.2.2] 46)):=(Fr.refl w).alloc _;have k0:=new_at w (.cells #[.int .i64 x.1,.int .i64 x.2.1,.int .i64 x.2.2] 46);have F0:=lH f0;have H0:=lH (h.no ok hf f0);have HM:=lH (gmade_ o K n L S _ H0.out);obtain ⟨v,lk⟩:=UsesAt.look H0.out.uses x hx;have LK:=lH lk;have hvs:v.size=6:=(lk _ (Fr.refl _)).2.1;have HV:=lH (lk _ (Fr.refl _)).2;have c12:(w.alloc (.cells #[.int .i64 x.1,.int .i64 x.2.1,.int .i64 x.2.2] 46)).cell? ⟨L.s,12,none⟩=some (.map (some L.us)):=H0.out.cell 12;clear h ok hf hx lk f0 hvs;unfold stpV at*;generalize (S.U x).isSome=r at*;go_enter Tryz.func21,Tryz.ntmps21;go_wp2_with fail;refine HM.out.mono ?_;rintro e w1 ⟨rfl,rfl⟩;go_wp2_with fail;generalize w.alloc (.cells #[.int .i64 x.1,.int .i64 x.2.1,.int .i64 x.2.2] 46)=w1 at*;generalize w.heap.size=b0 at*;have LD:Hid (∀W,Fr No w1 W→W.rangeAt b0 0 [.int .i64 x.1,.int .i64 x.2.1,.int .i64 x.2.2]):=lH (fun W f=>World.rangeAt_of_block (f.block_of k0 id) 0 3);clear k0;refine wp_region_born mixed (bornG 5 #[.int .i64 0,.int .i64 0,.int .i64 0,.int .i64 0,.int .i64 0,.int .i64 0] 80 w1) 9 [10,11] (by kernel_rfl) (by kernel_rfl) (by kernel_rfl) (by kernel_rfl) (fun _ _ d _ _ h=>by cases d<;>exact h) ⟨(Fr.refl _).drew,.inl (by rfl)⟩ ?_;repeat (first
  | refine seqXB_skip (by rfl) ?_
  | (refine seqXB_val (v:= ?_) (by rfl) (fun a v w=>bornG_put _ _ _ w1 _ (by decide) a v w) (by rfl) ?_ ?_
     rotate_left 1
     (intro W;go_simp;(try with_reducible rfl))
     simp only [Act.put,lsA,lsZ,lsS])
  | (refine seqXB_valS (v:=.agg #[.int .i64 x.1,.int .i64 x.2.1,.int .i64 x.2.2]) (by rfl) (fun a v w=>bornG_put _ _ _ w1 _ (by decide) a v w) (by kernel_rfl) (by rfl) (fun W hS=>exec_load_mid 46 (.tmp 3) (by rfl) b0 0 (by rfl) [.int .i64 x.1,.int .i64 x.2.1,.int .i64 x.2.2] _ (LD.out W hS.choose_spec.1) Tryz.underlying46 rfl Tryz.size46) ?_
     simp only [Act.put,lsA,lsZ,lsS])
  | (refine seqXB_valS (v:= ?_) (by rfl) (fun a v w=>bornG_put _ _ _ w1 _ (by decide) a v w) (by kernel_rfl) (by rfl) ?_ ?_
     rotate_left 1
     (intro W hS;obtain ⟨_,fS,_⟩:=hS;have e1:=fS.cell_of c12 id;have e3:=(LK.out W fS).1;go_simp;(try with_reducible rfl))
     simp only [Act.put,lsA,lsZ,lsS]))
 unfold seqXB;refine bornEnd_val (by rfl) (by rfl) ?_;intro W hS;refine ⟨.pointer (some ⟨W.heap.size,0,none⟩),W.alloc (.cells #[.int .i64 0,.int .i64 0,.int .i64 0,.int .i64 0,.int .i64 0,.int .i64 0] 80),by go_simp,?_,?_⟩
 ·exact ⟨hS.1.alloc _,.inr ⟨W.heap.size,by rfl,hS.1.size,new_at W _⟩⟩
 ·intro W2 hS2;obtain ⟨f2,h2⟩:=hS2;have hk2:W2.heap[W.heap.size]? =some (.cells #[.int .i64 0,.int .i64 0,.int .i64 0,.int .i64 0,.int .i64 0,.int .i64 0] 80 (0,0)):=by
   rcases h2 with h2|⟨g,e,_,hk⟩
   ·exact absurd (show Value.pointer (some ⟨W.heap.size,0,none⟩)=undef from h2) (by intro h;cases h)
   ·have e':Value.pointer (some ⟨W.heap.size,0,none⟩)=.pointer (some ⟨g,0,none⟩):=e;cases e';exact hk
  have KG:=lH hk2;have F2:=lH f2;have HG:Hid (w1.heap.size≤W.heap.size):=lH hS.1.size;clear h2 hk2 f2;simp only [List.filterMap_cons,List.filterMap_nil,List.getElem?_toArray,List.getElem?_cons_succ,List.getElem?_cons_zero,Act.put,lsA,lsZ,lsS];refine wpList_store_row rfl 80 (.tmp 5) (.tmp 17) rfl W.heap.size v rfl rfl 80 _ KG.out (by rw [HV.out.1];exact Tryz.size80) HV.out.1.symm HV.out.2 ?_;go_wp2_with fail
  go_ret
  exact ⟨rfl,F0.out.trans (Fr.setRow F2.out (.inr HG.out) _) (fun _ _ e=>e)⟩
def sizeIn (F:Nat→Option FMap) (i:Nat):Int:=match F i with
 | some m=>m.size
 | none=>0
def fileV (F:Nat→Option FMap) (fp:Nat→Nat) (i:Nat):Value:=match F i with
 | some _=> .pointer (some ⟨fp i,0,none⟩)
 | none=> .pointer none
theorem FilesAt.look {w:World} {o:Nat→Nat} {K fl n:Nat} {F:Nat→Option FMap} (h:FilesAt w o K fl n F) (i:Nat) (hi:i≤1000000):
  ∃fp,(∀w',Fr No w w'→(Instr.lookup 100 (.map (some fl)) (.int .i64 i) false).run Tryz.prog w'=.ok (fileV F fp i) w')∧∀m,F i=some m→FileAt w o K i (fp i) m:=by
 obtain ⟨h1,fp,c,h2,h3,h4⟩:=h;refine ⟨fp,fun w' f=> ?_,fun m=>h4 i m⟩;have:=(h3.fr f id).look (i:Int) (show I64 _ by unfold I64;omega) (t:=100) (e:=63) Tryz.underlying100 (z:=.pointer none) (by kernel_rfl) false;have e:filem F fp (i:Int)=(F i).map (fun _=>fp i):=by unfold filem;rw [if_pos (by omega)];rfl
 rw [e] at this;unfold fileV;cases hF:F i with
 | none=>rw [hF] at this;exact this
 | some m=>rw [hF] at this;exact this
theorem sizeIn_ {w:World} {i:Nat} {F:Nat→Option FMap} {fp:Nat→Nat} (h:∀m,F i=some m→FileR w (fp i) m):
  Calls Tryz.prog 34 #[fileV F fp i] w fun e w'=>e=.returned (.int .i64 (sizeIn F i))∧w'=w:=by
 unfold fileV sizeIn;cases hF:F i with
 | none=>exact fsize_nil w
 | some m=>exact fsize_ (fp i) m w (h m hF)
theorem look_lt {T:Tree} (ht:TreeOk T) {l:List UInt8} (h:(lookOf T l).1=0):(lookOf T l).2.1≤128:=by
 obtain ⟨x,hx,_⟩:=look_ok ht h;exact (ht.lt hx).2
def lookD (S:St) (r:Req):Int×RepS×St:=
 if (lookOf S.T r.path).1=0 then (0,⟨0,(lookOf S.T r.path).2.1,sizeIn S.F (lookOf S.T r.path).2.1,0,0,(lookOf S.T r.path).2.2, [], []⟩,S) else ((lookOf S.T r.path).1,noRep,S)
theorem dlook_ (o:Nat→Nat) (K n:Nat) (L:Plc) (S:St) (r:Req) (rv dv:Value) (w:World) (h:StateAt w o K L S n) (ok:StOk S) (hf:Fresh w o) (hl:r.path.length≤1000000):
  Calls Tryz.prog 85 #[.pointer (some ⟨L.s,0,none⟩),.agg (r.cells rv dv)] w (Deed w o K L n (lookD S r)):=by
 have f0:Fr No w ((w.alloc (.cells (r.cells rv dv) 36)).alloc (.cells (noRep.cells (.slice none 0 0) (.slice none 0 0)) 29)):=((Fr.refl w).alloc _).alloc _;have k0:((w.alloc (.cells (r.cells rv dv) 36)).alloc (.cells (noRep.cells (.slice none 0 0) (.slice none 0 0)) 29)).heap[w.heap.size]? =some (.cells (r.cells rv dv) 36 (0,0)):=((Fr.refl (S:=No) _).alloc _).block_of (new_at w _) id;have k1:((w.alloc (.cells (r.cells rv dv) 36)).alloc (.cells (noRep.cells (.slice none 0 0) (.slice none 0 0)) 29)).heap[w.heap.size+1]? =some (.cells (noRep.cells (.slice none 0 0) (.slice none 0 0)) 29 (0,0)):=by
  have:=new_at (w.alloc (.cells (r.cells rv dv) 36)) (.cells (noRep.cells (.slice none 0 0) (.slice none 0 0)) 29);simpa using this
 have F0:=lH f0;have H0:=h.no ok hf f0;have G0:Fresh _ o:=(Step.no (C:=fun _=>False) hf f0).fresh;have HL:Hid (∀w',Fr No ((w.alloc (.cells (r.cells rv dv) 36)).alloc (.cells (noRep.cells (.slice none 0 0) (.slice none 0 0)) 29)) w'→Calls Tryz.prog 72 #[.pointer (some ⟨L.tr,0,none⟩),.string (ba r.path)] w' fun e w''=>e=.returned (.tuple #[.int .i64 (lookOf S.T r.path).2.1,.bool (lookOf S.T r.path).2.2,.int .i64 (lookOf S.T r.path).1])∧Fr No w' w''):=
  lH (fun w' f=>glook_ o K L.tr S.T r.path w' hl ((H0.no ok G0 f).tree) ok.tree (Step.no (C:=fun _=>False) G0 f).fresh)
 have HR:Hid ((lookOf S.T r.path).1≠0→∀e w',e=.panicked (refC (lookOf S.T r.path).1)→Fr No w w'→Deed w o K L n (lookD S r) e w'):=lH (fun hne e w' he f=>by
  unfold lookD;rw [if_neg hne];exact ⟨⟨o,(Step.no (C:=fun _=>False) hf f).mono (fun _ e=>e.elim),h.no ok hf f⟩,by rw [if_neg hne];exact he⟩)
 have HQ:Hid ((lookOf S.T r.path).1=0→∀e w',e=.returned (.agg #[.int .i64 0,.int .i64 (lookOf S.T r.path).2.1,.int .i64 (sizeIn S.F (lookOf S.T r.path).2.1),.int .i64 0,.int .i64 0,.bool (lookOf S.T r.path).2.2,.slice none 0 0,.slice none 0 0])→Fr No w w'→Deed w o K L n (lookD S r) e w'):=lH (fun h0 e w' he f=>by
  unfold lookD;rw [if_pos h0];exact ⟨⟨o,(Step.no (C:=fun _=>False) hf f).mono (fun _ e=>e.elim),h.no ok hf f⟩,by rw [if_pos rfl];exact ⟨_,he,_,_,rfl,.inl ⟨rfl,rfl⟩,.inl ⟨rfl,rfl⟩,Low.nil _,Low.nil _⟩⟩)
 generalize hQ:Deed w o K L n (lookD S r)=Q at*;clear hQ;have HLT:=lH (fun h0=>look_lt ok.tree (l:=r.path) h0);generalize lookOf S.T r.path=X at*;obtain ⟨er,ino,d⟩:=X;dsimp only at HL HR HQ HLT;have HH:=lH H0;have HG:=lH G0;have HOK:=lH ok;clear H0 G0 f0 h ok hf hl;unfold Req.cells noRep RepS.cells at*;go_enter Tryz.func85,Tryz.ntmps85;go_wp2_with fail;generalize (w.alloc (.cells #[.int .i64 r.c,.int .i64 r.l,.int .i64 r.q,.int .i64 r.kind,.string (ba r.path),.string (ba r.to),.bool r.dir,.bool r.wr,.bool r.cl,.int .i64 r.h,.int .i64 r.nx,.int .i64 r.sw,rv,dv] 36)).alloc (.cells #[.int .i64 0,.int .i64 0,.int .i64 0,.int .i64 0,.int .i64 0,.bool false,.slice none 0 0,.slice none 0 0] 29)=w0 at*;have B0:=lH (show w.heap.size≤w.heap.size from Nat.le_refl _);generalize hb0:w.heap.size=b0 at*;have c9:w0.cell? ⟨L.s,9,none⟩=some (.pointer (some ⟨L.tr,0,none⟩)):=HH.out.cell 9;have d4:w0.cell? ⟨b0,4,none⟩=some (.string (ba r.path)):=by rw [cell_at k0];rfl
 have K0:=lH k0;have K1:=lH k1;clear k0 k1;go_region_held3 (fun w'=>w'.cell? ⟨L.s,9,none⟩=some (.pointer (some ⟨L.tr,0,none⟩))∧w'.cell? ⟨b0,4,none⟩=some (.string (ba r.path))) (first|go_keep|(go_split_ands;refine ⟨?_,?_⟩<;>exact f1.cell_of (by assumption) id))
  ((go_at_call 72;refine (HL.out _ (Fr.refl _).drew).mono ?_;rintro e w1 ⟨rfl,f1⟩))
 have F1:=lH ((Fr.refl w0).drew.trans f1 (fun _ _ e=>e));clear f1;cases hx:(er==0) with
 | false=>
  have hne:er≠0:=by simpa using hx
  go_wp2_with fail;refine (must_no _ _).mono ?_;rintro e w2 ⟨rfl,rfl⟩;go_wp2_with fail;exact ⟨rfl,HR.out hne _ _ rfl (F0.out.trans F1.out (fun _ _ e=>e))⟩
 | true=>
  obtain rfl:er=0:=by simpa using hx
  have hno:∀w',Fr No w0 w'→StateAt w' o K L S n:=fun w' f=>HH.out.no HOK.out HG.out f;have h1:=hno w1 F1.out;have c7:w1.cell? ⟨L.s,11,none⟩=some (.map (some L.fl)):=h1.cell 11;obtain ⟨fp,lk,lf⟩:=h1.files.look ino (by have:=HLT.out rfl;omega);have lk1:=lk w1 (Fr.refl _);have HZ:=lH (sizeIn_ (w:=w1) (F:=S.F) (fp:=fp) (i:=ino) (fun m hm=>(lf m hm).reads));have KK:=lH (F1.out.block_of K1.out id);clear lk lf h1 hno hx;have hbd:∀w':World,(Instr.build 29 #[(1,.int .i64 ino),(5,.bool d),(2,.int .i64 (sizeIn S.F ino))]).run Tryz.prog w'=.ok (.agg #[.int .i64 0,.int .i64 ino,.int .i64 (sizeIn S.F ino),.int .i64 0,.int .i64 0,.bool d,.slice none 0 0,.slice none 0 0]) w':=fun w'=>by kernel_rfl
  generalize sizeIn S.F ino=z at*;have HOC:=lH (show (#[.int .i64 0,.int .i64 ino,.int .i64 z,.int .i64 0,.int .i64 0,.bool d,.slice none 0 0,.slice none 0 0]:Array Value).all (·.oneCell')=true from by simp [Value.oneCell']);go_wp2_with fail;refine (must_yes _ _).mono ?_;rintro e w2 ⟨rfl,rfl⟩;go_wp2_with fail;refine HZ.out.mono ?_;rintro e w3 ⟨rfl,rfl⟩;go_wp2_with (refine wpList_store_row rfl 29 (.tmp 4) (.tmp 32) rfl (b0+1) #[.int .i64 0,.int .i64 ino,.int .i64 z,.int .i64 0,.int .i64 0,.bool d,.slice none 0 0,.slice none 0 0] rfl rfl 29 _ KK.out Tryz.size29 rfl HOC.out ?_);have KF:=setRow_at (cs':= #[.int .i64 0,.int .i64 ino,.int .i64 z,.int .i64 0,.int .i64 0,.bool d,.slice none 0 0,.slice none 0 0]) KK.out;exact bodyPost_ret (v:=.agg #[.int .i64 0,.int .i64 ino,.int .i64 z,.int .i64 0,.int .i64 0,.bool d,.slice none 0 0,.slice none 0 0]) (results_cell_row rfl _ _ (b0+1) 29 _ (0,0) _ rfl KF Tryz.underlying29 rfl Tryz.size29) rfl
   (HQ.out trivial _ _ rfl (Fr.setRow (F0.out.trans F1.out (fun _ _ e=>e)) (.inr (by omega)) _))
open Go.WideElems (Fit rd rg pl rd_val rd_key rg_of rd_mk other_key)
open Go.MapKept Go.ChangeMaps
variable {K V:Type} {E:Enc K V} {w w':World} {b c r:Nat} {m:K→Option V} {left:K→Bool} {cnt:Nat}
theorem RangeAt.putThere [DecidableEq K] (h:RangeAt E w b r c m left cnt) (x:K) (y:V) (hx:E.good x) (hm:(m x).isSome=true) (hy:E.fine y) (hc:c<4611686018427387904) {t e:TypeId} (ht:Tryz.prog.underlying t=some (.map E.k e)) {zv:Value} (hzv:(zeroValue e).run Tryz.prog w=.ok zv w):
  ∃w',(Instr.mapUpdate t (.map (some b)) (E.ek x) (E.ev y)).run Tryz.prog w=.ok () w'∧RangeAt E w' b r c (fun z=>if z=x then some y else m z) left cnt∧Fr (· =b) w w':=by
 obtain ⟨w',hrun,hma,hfr⟩:=h.map.put x y hx hy hc ht;rw [if_pos hm] at hma;refine ⟨w',hrun,?_,hfr⟩;have hne:=h.ne;obtain ⟨D,lf,⟨es,clock,since,seen,c0,hb,F,hs,rfl,hr,hold,hcnt,hl1,hl2,hsc,hsk⟩,hz,T,hl⟩:=h;obtain ⟨D',⟨es',clock',hb',F',hs',rfl⟩,hz',T'⟩:=hma;have hkey:=E.key x hx;have hkeys:∀e∈es.toList,∃l,keyOf Tryz.prog E.k e.key=some l:=F.keys;rcases E.law.find w hkey es.toList hkeys with ⟨h1,h2⟩|⟨j,e0,h1,h2,h3⟩
 ·exfalso;obtain ⟨y0,hy0⟩:=Option.isSome_iff_exists.1 hm;obtain ⟨_,_,hh,hat⟩:=T.some x y0 hy0;rcases Maps.fit_look false E.law ht hzv hb F hkey with ⟨_,_,hat2⟩|⟨e0,y1,he0,hk0,_⟩
  ·rw [Maps.has_false_of_atKey hat2] at hh;cases hh
  ·exact h2 e0 he0 hk0
 ·have hj:es[j]? =some e0:=by simpa using h2
  have hrun2:(Instr.mapUpdate t (.map (some b)) (E.ek x) (E.ev y)).run Tryz.prog w=.ok () (setBlock w b (.map (es.modify j (fun e'=>{e' with key:=E.ek x,val:=E.ev y})) clock)):=by
   simp [Instr.mapUpdate,run_underlying ht,MapKept.run_getObj_map hb,E.law.check w false hkey,h1,hj,h3,E.law.stays w hkey,MapKept.run_setObj_map _ hb,Result.andThen,setBlock]
  rw [hrun] at hrun2;have hw:w'=setBlock w b (.map (es.modify j (fun e'=>{e' with key:=E.ek x,val:=E.ev y})) clock):=by
   injection hrun2
  have hbb:w'.heap[b]? =some (.map (es.modify j (fun e'=>{e' with key:=E.ek x,val:=E.ev y})) clock):=by rw [hw];exact heap_setBlock_same hb _
  rw [hbb] at hb';simp only [Option.some.injEq,Obj.map.injEq] at hb';obtain ⟨rfl,rfl⟩:=hb';have hlist:(es.modify j (fun e'=>{e' with key:=E.ek x,val:=E.ev y})).toList=es.toList.set j {e0 with key:=E.ek x,val:=E.ev y}:=by rw [Array.toList_modify,modify_eq_set _ _ _ _ h2]
  have hlit:(rg Tryz.prog E.k E.R {e0 with key:=E.ek x,val:=E.ev y}).1=(rg Tryz.prog E.k E.R e0).1:=by
   have he0:e0∈es.toList:=List.mem_of_getElem? h2;obtain ⟨q,hq⟩:=F.reads e0 he0;rw [rg_of hq,rg_of (rd_mk (born:=e0.born) hkey (E.read y hy))];have:=rd_key hq;rw [h3,hkey] at this;exact Option.some.inj this
  have who:∀z∈es.toList.set j {e0 with key:=E.ek x,val:=E.ev y},∃z0∈es.toList,z.born=z0.born∧(rg Tryz.prog E.k E.R z).1=(rg Tryz.prog E.k E.R z0).1:=by
   intro z hz;obtain ⟨i,hi,ez⟩:=List.getElem_of_mem hz;rw [List.getElem_set] at ez;split at ez
   ·subst ez;exact ⟨e0,List.mem_of_getElem? h2,rfl,hlit⟩
   ·subst ez;exact ⟨_,List.getElem_mem (by simpa using hi),rfl,rfl⟩
  have who2:∀z0∈es.toList,∃z∈es.toList.set j {e0 with key:=E.ek x,val:=E.ev y},(rg Tryz.prog E.k E.R z).1=(rg Tryz.prog E.k E.R z0).1:=by
   intro z0 hz0;obtain ⟨i,hi,ez⟩:=List.getElem_of_mem hz0;by_cases hij:j=i
   ·subst hij;refine ⟨_,List.mem_iff_getElem.2 ⟨j,by simpa using hi,rfl⟩,?_⟩;rw [List.getElem_set_self,hlit];rw [List.getElem?_eq_getElem hi] at h2;rw [← ez,Option.some.inj h2]
   ·refine ⟨_,List.mem_iff_getElem.2 ⟨i,by simpa using hi,rfl⟩,?_⟩;rw [List.getElem_set_ne hij,ez]
  have hcount:∀a:Array MapEntry,(leftOf a seen).size=(a.toList.filter fun e=> !seen.contains e.born).length:=fun a=>by
   unfold leftOf;rw [← Array.toList_filter,Array.length_toList]
  have hsame:∀(l:List MapEntry) (j:Nat) (z z':MapEntry),l[j]? =some z→z'.born=z.born→((l.set j z').filter fun e=> !seen.contains e.born).length=(l.filter fun e=> !seen.contains e.born).length:=by
   intro l;induction l with
   | nil=>intro j z z' h;simp at h
   | cons a r ih=>
    intro j z z' h hb;cases j with
    | zero=>
     simp only [List.getElem?_cons_zero,Option.some.injEq] at h;subst h;simp only [lsZ,List.filter_cons,hb];split<;>rfl
    | succ j=>
     simp only [List.getElem?_cons_succ] at h;have:=ih j z z' h hb;simp only [lsS,List.filter_cons];split
     ·simp only [List.length_cons,this]
     ·exact this
  refine ⟨_,lf,⟨_,_,since,seen,c0,hbb,F',hs',rfl,hfr.block_of hr (fun e=>hne e),?_,?_,?_,?_,hsc,hsk⟩,hz',T',hl⟩
  ·intro z hz;rw [hlist] at hz;obtain ⟨z0,hz0,e1,_⟩:=who z hz;rw [e1];exact hold z0 hz0
  ·rw [hcount,hlist,hsame es.toList j e0 {e0 with key:=E.ek x,val:=E.ev y} h2 rfl,← hcount];exact hcnt
  ·intro z hz;rw [hlist] at hz;obtain ⟨z0,hz0,e1,e2⟩:=who z hz;rw [e1,e2];exact hl1 z0 hz0
  ·intro kl hkl;obtain ⟨z0,hz0,rfl⟩:=hl2 kl hkl;obtain ⟨z,hz,e1⟩:=who2 z0 hz0;exact ⟨z,by rw [hlist];exact hz,e1⟩
theorem RangeAt.delThere [DecidableEq K] (h:RangeAt E w b r c m left cnt) (x:K) (hx:E.good x) {t e:TypeId} (ht:Tryz.prog.underlying t=some (.map E.k e)) (ty:TypeId):
  ∃w' cnt',(Builtin.delete_ #[t,E.k] ty #[.map (some b),E.ek x]).run Tryz.prog w=.ok (.tuple #[]) w'∧RangeAt E w' b r (if (m x).isSome then c - 1 else c) (fun z=>if z=x then none else m z) (fun z=>left z&&decide (z≠x)) cnt'∧cnt'≤cnt∧Fr (· =b) w w':=by
 obtain ⟨w',hrun,hma,hfr⟩:=h.map.del x hx ht ty;obtain ⟨D,lf,h1,hz,T,hl⟩:=h;obtain ⟨w2,cnt',hrun2,hr2,hle,_⟩:=h1.drop E.law ht (E.key x hx) ty;rw [hrun] at hrun2;have hw:w'=w2:=by injection hrun2
 subst hw;obtain ⟨D',ho',hz',T'⟩:=hma;have hD:D'=D.del (E.lk x):=by
  obtain ⟨es1,cl1,b1,_,_,e1⟩:=ho';obtain ⟨es2,cl2,b2,_,_,e2⟩:=hr2.owns;rw [b1] at b2;simp only [Option.some.injEq,Obj.map.injEq] at b2;rw [e1,e2,b2.1]
 subst hD;refine ⟨w',cnt',hrun,⟨_,fun z=>lf z&& !z.sameKey (E.lk x),?_,hz',T',fun z hz2=> ?_⟩,hle,hfr⟩
 ·obtain ⟨es2,cl2,since,seen,c0,b2,q1,q2,q3⟩:=hr2;obtain ⟨es1,cl1,b1,_,hs1,_⟩:=ho';rw [b1] at b2;simp only [Option.some.injEq,Obj.map.injEq] at b2;obtain ⟨rfl,rfl⟩:=b2;exact ⟨_,_,since,seen,c0,b1,q1,hs1,q3⟩
 ·show (lf (E.lk z)&& !(E.lk z).sameKey (E.lk x))=(left z&&decide (z≠x));rw [hl z hz2];by_cases e:z=x
  ·subst e;simp [WideAt.sameKey_self (isKeyLit E hx)]
  ·simp [e,Maps.sameKey_ne (fun e'=>e (E.linj hz2 hx e'))]
open Go.WideElems (Fit findIdx_born findIdx_arr modify_last set_self)
open Go.MapKept Go.ChangeMaps
variable {K V:Type} {E:Enc K V} {w w':World} {b c:Nat} {m:K→Option V}
structure EntryAt [DecidableEq K] (E:Enc K V) (t:TypeId) (w:World) (b c:Nat) (m:K→Option V) (x:K) (y0:V) (st:Nat) (w1:World):Prop where
 run:(Instr.mapEntry t (.map (some b)) (E.ek x)).run Tryz.prog w=.ok (.tuple #[E.ev y0,goInt st]) w1
 again:(Instr.mapEntry t (.map (some b)) (E.ek x)).run Tryz.prog w1=.ok (.tuple #[E.ev y0,goInt st]) w1
 fr:Fr (· =b) w w1
 size:w1.heap.size=w.heap.size
 map1:MapAt E w1 b (if (m x).isSome then c else c+1) (fun z=>if z=x then some y0 else m z)
 store:∀y,E.fine y→∃w2,(Instr.entryStore t (.map (some b)) (goInt st) (E.ev y)).run Tryz.prog w1=.ok () w2∧MapAt E w2 b (if (m x).isSome then c else c+1) (fun z=>if z=x then some y else m z)∧Fr (· =b) w1 w2∧w2.heap.size=w1.heap.size
theorem MapAt.entry [DecidableEq K] (h:MapAt E w b c m) (x:K) (hx:E.good x) (hc:c<4611686018427387904) {t e:TypeId} (ht:Tryz.prog.underlying t=some (.map E.k e)) {z0:V} (hz0:E.fine z0) (hz:∀u:World,(zeroValue e).run Tryz.prog u=.ok (E.ev z0) u):
  ∃st w1,EntryAt E t w b c m x ((m x).getD z0) st w1:=by
 have hkey:=E.key x hx;have hfy:E.fine ((m x).getD z0):=by
  cases hm:m x with
  | none=>exact hz0
  | some y=>exact (h.good hm).2
 obtain ⟨wp,hput,hmp,hfp⟩:=h.put x ((m x).getD z0) hx hfy hc ht;have hput2:∀y,E.fine y→∃w2,(Instr.mapUpdate t (.map (some b)) (E.ek x) (E.ev y)).run Tryz.prog w=.ok () w2∧MapAt E w2 b (if (m x).isSome then c else c+1) (fun z=>if z=x then some y else m z)∧Fr (· =b) w w2:=fun y hy=>h.put x y hx hy hc ht;have hlk:=h.look x hx ht (hz w) false;obtain ⟨D,⟨es,clock,hb,F,hs,rfl⟩,hsz,T⟩:=h;obtain ⟨s1,s2,_⟩:=F.stamped;rcases E.law.find w hkey es.toList F.keys with ⟨h1,h2⟩|⟨j,e0,h1,h2,h3⟩
 ·have hnew:(Instr.lookup t (.map (some b)) (E.ek x) false).run Tryz.prog w=.ok (E.ev z0) w:=by
   simp [Instr.lookup,run_underlying ht,MapKept.run_getObj_map hb,E.law.check w _ hkey,h1,hz,Result.andThen]
  have hy0:E.ev ((m x).getD z0)=E.ev z0:=by
   rw [hlk] at hnew;cases hm:m x with
   | none=>rfl
   | some y=>
    rw [hm] at hnew
    injection hnew
  have hw1:wp=setBlock w b (.map (es.push ⟨E.ek x,E.ev z0,clock⟩) (clock+1)):=by
   have:(Instr.mapUpdate t (.map (some b)) (E.ek x) (E.ev z0)).run Tryz.prog w=.ok () (setBlock w b (.map (es.push ⟨E.ek x,E.ev z0,clock⟩) (clock+1))):=by
    simp [Instr.mapUpdate,run_underlying ht,MapKept.run_getObj_map hb,E.law.check w false hkey,h1,MapKept.run_setObj_map _ hb,Result.andThen,setBlock]
   rw [hy0] at hput;rw [hput] at this
   injection this
  have hb1:wp.heap[b]? =some (.map (es.push ⟨E.ek x,E.ev z0,clock⟩) (clock+1)):=by rw [hw1];exact heap_setBlock_same hb _
  have hkeys1:∀e∈(es.push ⟨E.ek x,E.ev z0,clock⟩).toList,∃l,keyOf Tryz.prog E.k e.key=some l:=fun e he=>by
   rw [Array.toList_push,List.mem_append,List.mem_singleton] at he;rcases he with he|rfl
   ·exact F.keys e he
   ·exact ⟨_,hkey⟩
  have hidx:(es.push ⟨E.ek x,E.ev z0,clock⟩).findIdx? (fun e=>((e.born:Nat):Int)==((clock:Nat):Int))=some es.size:=by
   rw [findIdx_arr];exact findIdx_born (l:=(es.push ⟨E.ek x,E.ev z0,clock⟩).toList) (j:=es.size) (e0:=⟨E.ek x,E.ev z0,clock⟩) (by
    simp only [Array.toList_push,List.map_append,List.map_cons,List.map_nil];refine List.nodup_append.2 ⟨s2,by simp,fun a ha c hc e1=> ?_⟩;simp only [List.mem_singleton] at hc;obtain ⟨y,hy,rfl⟩:=List.mem_map.1 ha;have:=s1 y hy;omega) (by simp)
  refine ⟨clock,wp,?_,?_,hfp,by rw [hw1];simp [setBlock],hmp,fun y hy=> ?_⟩
  ·rw [hw1,hy0];simp [Instr.mapEntry,run_underlying ht,MapKept.run_getObj_map hb,E.law.check w false hkey,h1,hz,MapKept.run_setObj_map _ hb,Result.andThen,setBlock]
  ·rcases E.law.find wp hkey (es.push ⟨E.ek x,E.ev z0,clock⟩).toList hkeys1 with ⟨_,g2⟩|⟨j,e0,g1,g2,g3⟩
   ·exact absurd rfl (g2 ⟨E.ek x,E.ev z0,clock⟩ (by simp))
   ·have hg1:=g1;rw [Array.toList_push] at hg1;have hj:e0=⟨E.ek x,E.ev z0,clock⟩:=by
     have hm:=List.mem_of_getElem? g2;rw [Array.toList_push,List.mem_append,List.mem_singleton] at hm;rcases hm with hm|hm
     ·exact absurd g3 (h2 e0 hm)
     ·exact hm
    have hjj:(es.push ⟨E.ek x,E.ev z0,clock⟩)[j]? =some e0:=(by rw [← Array.getElem?_toList];exact g2)
    have hsame:(es.push ⟨E.ek x,E.ev z0,clock⟩).modify j (fun e=>{e with key:=E.ek x})=es.push ⟨E.ek x,E.ev z0,clock⟩:=by
     apply Array.ext';rw [Array.toList_modify,modify_eq_set _ _ _ _ g2];have:({e0 with key:=E.ek x}:MapEntry)=e0:=(by rw [← g3])
     rw [this];exact set_self _ _ _ g2
    have hval:e0.val=E.ev z0:=(by rw [hj])
    have hborn:e0.born=clock:=(by rw [hj])
    have hback:setBlock wp b (.map (es.push ⟨E.ek x,E.ev z0,clock⟩) (clock+1))=wp:=by
     rw [hw1];simp [setBlock]
    have:(Instr.mapEntry t (.map (some b)) (E.ek x)).run Tryz.prog wp=.ok (.tuple #[e0.val,goInt e0.born]) (setBlock wp b (.map (es.push ⟨E.ek x,E.ev z0,clock⟩) (clock+1))):=by
     simp [Instr.mapEntry,run_underlying ht,MapKept.run_getObj_map hb1,E.law.check wp false hkey,hg1,hjj,g3,E.law.stays wp hkey,hsame,MapKept.run_setObj_map _ hb1,Result.andThen,setBlock]
    rw [this,hval,hborn,hback,hy0]
  ·obtain ⟨w2,hr2,hm2,f2⟩:=hput2 y hy;have hmod:(es.push ⟨E.ek x,E.ev z0,clock⟩).modify es.size (fun e=>{e with val:=E.ev y})=es.push ⟨E.ek x,E.ev y,clock⟩:=by
    apply Array.ext';rw [Array.toList_modify,Array.toList_push,Array.toList_push,← Array.length_toList,modify_last]
   have hw2:w2=setBlock w b (.map (es.push ⟨E.ek x,E.ev y,clock⟩) (clock+1)):=by
    have:(Instr.mapUpdate t (.map (some b)) (E.ek x) (E.ev y)).run Tryz.prog w=.ok () (setBlock w b (.map (es.push ⟨E.ek x,E.ev y,clock⟩) (clock+1))):=by
     simp [Instr.mapUpdate,run_underlying ht,MapKept.run_getObj_map hb,E.law.check w false hkey,h1,MapKept.run_setObj_map _ hb,Result.andThen,setBlock]
    rw [hr2] at this
    injection this
   have hst:(Instr.entryStore t (.map (some b)) (goInt clock) (E.ev y)).run Tryz.prog wp=.ok () (setBlock wp b (.map (es.push ⟨E.ek x,E.ev y,clock⟩) (clock+1))):=by
    simp [Instr.entryStore,MapKept.run_getObj_map hb1,asInt,asIntOf,goInt,hidx,hmod,MapKept.run_setObj_map _ hb1,Result.andThen,setBlock]
   have he:setBlock wp b (.map (es.push ⟨E.ek x,E.ev y,clock⟩) (clock+1))=w2:=by
    rw [hw2,hw1];simp [setBlock]
   rw [he] at hst;refine ⟨w2,hst,?_,?_,by rw [hw2,hw1];simp [setBlock]⟩
   ·exact hm2
   ·refine ⟨f2.os.trans hfp.os.symm,f2.tape.trans hfp.tape.symm,f2.output.trans hfp.output.symm,by rw [hw2,hw1];simp [setBlock],fun k hk hn=> ?_⟩;have hk0:k<w.heap.size:=(by rw [hw1] at hk;simpa [setBlock] using hk)
    rw [f2.block k hk0 hn,hfp.block k hk0 hn]
 ·have hj:es[j]? =some e0:=by simpa using h2
  have hsame:es.modify j (fun e=>{e with key:=E.ek x})=es:=by
   apply Array.ext';rw [Array.toList_modify,modify_eq_set _ _ _ _ h2];have:({e0 with key:=E.ek x}:MapEntry)=e0:=(by rw [← h3])
   rw [this];exact set_self _ _ _ h2
  have hold:(Instr.lookup t (.map (some b)) (E.ek x) false).run Tryz.prog w=.ok e0.val w:=by
   simp [Instr.lookup,run_underlying ht,MapKept.run_getObj_map hb,E.law.check w _ hkey,h1,Result.andThen]
  have hy0:E.ev ((m x).getD z0)=e0.val:=by
   rw [hlk] at hold;cases hm:m x with
   | none=>
    rw [hm] at hold;have hn:=T.none x hx hm;rcases Maps.fit_look false E.law ht (hz w) hb F hkey with ⟨hrun,_,_⟩|⟨e1,y,_,_,_,_,hat,_⟩
    ·injection hold
    ·rw [Maps.has_true_of_atKey hat] at hn;cases hn
   | some y=>
    rw [hm] at hold
    injection hold
  have hback:setBlock w b (.map es clock)=w:=by
   have hlt:b<w.heap.size:=lt_of_block hb;have h4:w.heap[b]=.map es clock:=(by rw [Array.getElem?_eq_getElem hlt] at hb;exact Option.some.inj hb)
   unfold setBlock;have:w.heap.setIfInBounds b (.map es clock)=w.heap:=by
    apply Array.ext_getElem?;intro i;by_cases e:b=i
    ·subst e;rw [Array.getElem?_setIfInBounds_self_of_lt hlt,hb]
    ·rw [Array.getElem?_setIfInBounds_ne e]
   rw [this]
  have hrun:(Instr.mapEntry t (.map (some b)) (E.ek x)).run Tryz.prog w=.ok (.tuple #[e0.val,goInt e0.born]) w:=by
   have:(Instr.mapEntry t (.map (some b)) (E.ek x)).run Tryz.prog w=.ok (.tuple #[e0.val,goInt e0.born]) (setBlock w b (.map es clock)):=by
    simp [Instr.mapEntry,run_underlying ht,MapKept.run_getObj_map hb,E.law.check w false hkey,h1,hj,h3,E.law.stays w hkey,hsame,MapKept.run_setObj_map _ hb,Result.andThen,setBlock]
   rw [this,hback]
  have hms:(m x).isSome=true:=by
   cases hm:m x with
   | some y=>rfl
   | none=>
    have hn:=T.none x hx hm;rcases Maps.fit_look false E.law ht (hz w) hb F hkey with ⟨_,h8,_⟩|⟨e1,y,_,_,_,_,hat,_⟩
    ·exact absurd h3 (h8 e0 (List.mem_of_getElem? h2))
    ·rw [Maps.has_true_of_atKey hat] at hn;cases hn
  refine ⟨e0.born,w,by rw [hy0];exact hrun,by rw [hy0];exact hrun,Fr.refl w,rfl,?_,fun y hy=> ?_⟩
  ·rw [if_pos hms];have e1:(fun z=>if z=x then some ((m x).getD z0) else m z)=m:=by
    funext z;by_cases e:z=x
    ·subst e;obtain ⟨y,hy⟩:=Option.isSome_iff_exists.1 hms;simp [hy]
    ·simp [e]
   rw [e1];exact ⟨_,⟨es,clock,hb,F,hs,rfl⟩,hsz,T⟩
  ·obtain ⟨w2,hr2,hm2,f2⟩:=hput2 y hy;have hidx:es.findIdx? (fun e=>((e.born:Nat):Int)==((e0.born:Nat):Int))=some j:=by
    rw [findIdx_arr];exact findIdx_born s2 h2
   have hmod:es.modify j (fun e=>{e with val:=E.ev y})=es.modify j (fun e'=>{e' with key:=E.ek x,val:=E.ev y}):=by
    apply Array.ext';rw [Array.toList_modify,Array.toList_modify,modify_eq_set _ _ _ _ h2,modify_eq_set _ _ _ _ h2,← h3]
   have hw2:w2=setBlock w b (.map (es.modify j (fun e'=>{e' with key:=E.ek x,val:=E.ev y})) clock):=by
    have:(Instr.mapUpdate t (.map (some b)) (E.ek x) (E.ev y)).run Tryz.prog w=.ok () (setBlock w b (.map (es.modify j (fun e'=>{e' with key:=E.ek x,val:=E.ev y})) clock)):=by
     simp [Instr.mapUpdate,run_underlying ht,MapKept.run_getObj_map hb,E.law.check w false hkey,h1,hj,h3,E.law.stays w hkey,MapKept.run_setObj_map _ hb,Result.andThen,setBlock]
    rw [hr2] at this
    injection this
   have hst:(Instr.entryStore t (.map (some b)) (goInt e0.born) (E.ev y)).run Tryz.prog w=.ok () w2:=by
    rw [hw2];simp [Instr.entryStore,MapKept.run_getObj_map hb,asInt,asIntOf,goInt,hidx,hmod,MapKept.run_setObj_map _ hb,Result.andThen,setBlock]
   refine ⟨w2,hst,?_,f2,by rw [hw2];simp [setBlock]⟩;exact hm2
def stpOf (p:Pt):Stp:=(p.c,p.l,p.n)
def liveP (L:List Pt) (x:Stp):Int:=(L.map fun p=>if stpOf p=x then p.z else 0).sum
theorem liveP_snoc (L:List Pt) (p:Pt) (x:Stp):liveP (L++ [p]) x=liveP L x+if stpOf p=x then p.z else 0:=by
 simp [liveP]
theorem liveP_bound {L:List Pt} (h:∀p∈L,0≤p.z∧p.z≤64) (x:Stp):0≤liveP L x∧liveP L x≤64*L.length:=by
 induction L with
 | nil=>exact ⟨Int.le_refl _,Int.le_refl _⟩
 | cons p r ih=>
  obtain ⟨h1,h2⟩:=ih (fun q hq=>h q (List.mem_cons_of_mem _ hq));obtain ⟨h3,h4⟩:=h p (List.mem_cons_self ..);have e:liveP (p::r) x=(if stpOf p=x then p.z else 0)+liveP r x:=by simp [liveP]
  rw [e,List.length_cons];split<;>omega
theorem sum_bound {l:List Nat} {f:Nat→Int} {b:Int} (h:∀i∈l,0≤f i∧f i≤b):0≤(l.map f).sum∧(l.map f).sum≤b*l.length:=by
 induction l with
 | nil=>simp
 | cons i r ih=>
  obtain ⟨h1,h2⟩:=ih (fun j hj=>h j (List.mem_cons_of_mem _ hj));obtain ⟨h3,h4⟩:=h i (List.mem_cons_self ..);rw [List.map_cons,List.sum_cons,List.length_cons];have:b*((r.length+1:Nat):Int)=b*(r.length:Int)+b:=by
   rw [Int.natCast_add,Int.mul_add];simp
  omega
theorem sum_at (n j:Nat) (f g:Nat→Int) (hj:j<n) (h:∀i,i≠j→f i=g i):((List.range n).map f).sum=((List.range n).map g).sum+(f j - g j):=by
 induction n with
 | zero=>omega
 | succ n ih=>
  rw [List.range_succ,List.map_append,List.sum_append,List.map_append,List.sum_append];simp only [List.map_cons,List.map_nil,List.sum_cons,List.sum_nil];by_cases e:j=n
  ·subst e;have:(List.range j).map f=(List.range j).map g:=List.map_congr_left (fun i hi=>h i (by have:=List.mem_range.1 hi;omega));rw [this];omega
  ·rw [ih (by omega),h n (fun e'=>e e'.symm)];omega
def liveD (F:Nat→Option FMap) (left:Int→Bool) (x:Stp):Int:=((List.range 129).map fun i=>match F i with
 | some m=>if left (i:Int)=true then 0 else liveP (ptrs m) x
 | none=>0).sum
def liveF (F:Nat→Option FMap) (x:Stp):Int:=liveD F (fun _=>false) x
def PtsOk (F:Nat→Option FMap):Prop:=∀i m,F i=some m→∀p∈m.l,mayPt p
theorem may_good {p:Pt} (h:mayPt p):stpGood (stpOf p)∧0≤p.z∧p.z≤64:=by
 unfold stpGood stpOf I64;rcases h with rfl|h
 ·decide
 ·dsimp only;omega
def Short (F:Nat→Option FMap):Prop:=∀i m,F i=some m→∀p∈m.l,0≤p.z∧p.z≤64
theorem PtsOk.short {F:Nat→Option FMap} (h:PtsOk F):Short F:=fun i m hi p hp=>(may_good (h i m hi p hp)).2
theorem ptrs_short {F:Nat→Option FMap} (h:Short F) {i:Nat} {m:FMap} (hi:F i=some m):∀p∈ptrs m,0≤p.z∧p.z≤64:=fun p hp=>h i m hi p (List.mem_filter.1 hp).1
theorem ptrs_len {m:FMap} (h:MapLen m):(ptrs m).length≤64:=Nat.le_trans (List.length_filter_le _ _) (by
 obtain ⟨h1,h2⟩:=h;rw [h2];unfold blocksN;omega)
theorem liveD_bound {F:Nat→Option FMap} (h:Short F) (hl:∀i m,F i=some m→MapLen m) (left:Int→Bool) (x:Stp):0≤liveD F left x∧liveD F left x≤528384:=by
 have:=sum_bound (l:=List.range 129) (b:=4096) (f:=fun i=>match F i with
  | some m=>if left (i:Int)=true then 0 else liveP (ptrs m) x
  | none=>0) (fun i _=>by
   cases hi:F i with
   | none=>simp
   | some m=>
    dsimp only;split
    ·omega
    ·have h1:=liveP_bound (ptrs_short h hi) x;have h2:=ptrs_len (hl i m hi);omega)
 rw [List.length_range] at this;unfold liveD;omega
theorem liveD_start {F:Nat→Option FMap} {left:Int→Bool} (h:∀i m,F i=some m→left (i:Int)=true) (x:Stp):liveD F left x=0:=by
 have e:(List.range 129).map (fun i=>match F i with
  | some m=>if left (i:Int)=true then 0 else liveP (ptrs m) x
  | none=>0)=(List.range 129).map (fun _=>(0:Int)):=List.map_congr_left (fun i _=>by
   cases hi:F i with
   | none=>rfl
   | some m=>dsimp only;rw [if_pos (h i m hi)])
 unfold liveD;rw [e];generalize List.range 129=l;induction l with
 | nil=>rfl
 | cons a r ih=>rw [List.map_cons,List.sum_cons,ih];rfl
theorem liveD_next {F:Nat→Option FMap} {left:Int→Bool} {i:Nat} {m:FMap} (hi:F i=some m) (hlt:i<129) (hl:left (i:Int)=true) (x:Stp):
  liveD F (fun z=>left z&&decide (z≠(i:Int))) x=liveD F left x+liveP (ptrs m) x:=by
 unfold liveD;rw [sum_at 129 i _ (fun j=>match F j with
  | some m=>if left (j:Int)=true then 0 else liveP (ptrs m) x
  | none=>0) hlt (fun j hj=>by
   have e:decide ((j:Int)≠(i:Int))=true:=decide_eq_true (by omega);cases F j with
   | none=>rfl
   | some m'=>simp only [e,Bool.and_true])]
 rw [hi];simp [hl]
theorem liveD_end {F:Nat→Option FMap} {left:Int→Bool} (h:∀i:Nat,i<129→left (i:Int)=false) (x:Stp):liveD F left x=liveF F x:=by
 unfold liveF liveD;refine congrArg List.sum (List.map_congr_left (fun i hi=> ?_));cases F i with
 | none=>rfl
 | some m=>dsimp only;rw [h i (List.mem_range.1 hi)]
def countedU (F:Nat→Option FMap) (U:Stp→Option Us):Stp→Option Us:=fun x=>match U x with
 | none=>none
 | some u=>if liveF F x=0 then none else some (u.1,liveF F x,u.2.2)
end Go.Proofs.YtlcojhddnpmgmaaGreat
namespace Go.Proofs.YtlcojhddnpmgmaaGreat
open Go Go.RowKit
section
variable {P:Program} {ops:Array Oper} {Q:Exit→Act→World→Prop} {md:Region.Mode} {S:Bool→World→Prop} {T:Nat→Bool} {k:Nat}
theorem fl_set {listed:Array Bool} {k i:Nat} (h:k≠i):(listed.setIfInBounds i true).getD k true=listed.getD k true:=getD_set_ne true (Ne.symm h)
abbrev YieldsF (P:Program) (ops:Array Oper) (S:Bool→World→Prop) (o:Oper) (v:Value) (a:Act):Prop:=∀b,YieldsS P ops (S b) o v a
theorem YieldsF.of_same {o:Oper} {v:Value} {a a':Act} (hy:YieldsF P ops S o v a) (he:execOp a'.eval o=execOp a.eval o)
  (hw:Region.wanted o (yielded ops a'.tmps)=Region.wanted o (yielded ops a.tmps)):YieldsF P ops S o v a':=fun b=>(hy b).of_same he hw
theorem wpOp_putF {j:Nat} {oi oj:Oper} {v:Value} (hj:ops[j]? =some oj) (hap:oi.apart ops oj=true)
  (hsi:∀cs b,oi.op≠ .select cs b) (hsj:∀cs b,oj.op≠ .select cs b)
  (hQ:∀c a w,Q (.panic c) (a.put oi.dst v) w→Q (.panic c) a w) {K:Act→World→Prop} {a:Act} {w:World}
  (hy:YieldsF P ops S oi v a) (h:wpOp P ops Q j K (a.put oi.dst v) w):
  wpOp P ops Q j (fun a' w'=>YieldsF P ops S oi v a'∧K (a'.put oi.dst v) w') a w:=by
 obtain ⟨h1,h2,h3⟩:=Oper.apart_spec hap;have keep:∀(a:Act),YieldsF P ops S oi v a→∀u,YieldsF P ops S oi v (a.put oj.dst u):=fun a hy u=>
  hy.of_same (execOp_put oi hsi a oj.dst u h3) (wanted_put oi a oj.dst u h3)
 have keepD:∀d,YieldsF P ops S oi v {a with defers:=d::a.defers}:=fun d=>hy.of_same rfl rfl;unfold wpOp at*;simp only [hj] at*;rw [wanted_put oj a oi.dst v h1] at h;split
 ·rename_i hw
  simp only [hw,if_true] at h;rcases h with h|⟨hasks,hlets⟩
  case inr=>exact .inr ⟨by unfold Oper.asks at*;rw [execOp_put oj hsj a oi.dst v h1] at hasks;exact hasks,hlets⟩
  refine .inl ?_;unfold Oper.wp at*;rw [execOp_put oj hsj a oi.dst v h1] at h;generalize (execOp a.eval oj).run P w=r at*;cases r with
  | ok n w'=>
   cases n<;>simp only [Oper.upon] at h ⊢
   case value u=>exact ⟨keep a hy u,by rw [← Act.put_comm a v u h2];exact h⟩
   case skip=>exact ⟨keep a hy _,by rw [← Act.put_comm a v undef h2];exact h⟩
   case defer d=>
    refine ⟨keep _ (keepD d) _,?_⟩;rw [← Act.put_comm _ v undef h2,← Act.put_defers];exact h
   case enter f args=>
    refine Calls.mono h fun e w'' he=> ?_;cases e with
    | returned u=>exact ⟨keep a hy u,by rw [← Act.put_comm a v u h2];exact he⟩
    | panicked c=>exact hQ _ _ _ he
    | outgrown=>exact he
   case row row args=>exact Rows.mono h fun u w'' he=>⟨keep a hy u,by rw [← Act.put_comm a v u h2];exact he⟩
  | halt x w'=>
   cases x<;>simp only [Oper.upon] at h ⊢
   case panic u=>exact hQ _ _ _ h
 ·rename_i hw
  simp only [hw] at h;exact ⟨keep a hy _,by rw [← Act.put_comm a v undef h2];exact h⟩
def wpAnyF (P:Program) (md:Region.Mode) (ops:Array Oper) (Q:Exit→Act→World→Prop) (S:Bool→World→Prop) (T:Nat→Bool) (k:Nat):Nat→Array Bool→Act→Prop
 | 0,listed,a=>Region.ready md ops listed= []∧∀w,S (listed.getD k true) w→Q .normal a w
 | fuel+1,listed,a=>
  (Region.ready md ops listed= []→∀w,S (listed.getD k true) w→Q .normal a w)∧
  ∀i∈Region.ready md ops listed,∀w,S (listed.getD k true) w→wpOp P ops Q i (fun a' w'=>if T i=true then wpAny P md ops Q fuel (listed.setIfInBounds i true) a' w' else S ((listed.setIfInBounds i true).getD k true) w'∧wpAnyF P md ops Q S T k fuel (listed.setIfInBounds i true) a') a w
theorem wpAny_of_flag:∀(fuel:Nat) (listed:Array Bool) (a:Act) (w:World),S (listed.getD k true) w→wpAnyF P md ops Q S T k fuel listed a→wpAny P md ops Q fuel listed a w
 | 0,_,_,w,hS,h=>⟨h.1,h.2 w hS⟩
 | fuel+1,_,_,w,hS,h=>⟨fun hr=>h.1 hr w hS,fun i hi=>wpOp_mono (fun a' w' h'=>by
   split at h'
   ·exact h'
   ·exact wpAny_of_flag fuel _ a' w' h'.1 h'.2) (h.2 i hi w hS)⟩
theorem wpAnyF_firstW {i:Nat} {oi:Oper} {v:Value} (hi:ops[i]? =some oi) (hsel:∀(j:Nat) (o:Oper) cs b,ops[j]? =some o→o.op≠ .select cs b)
  (hQ:∀c a w,Q (.panic c) (a.put oi.dst v) w→Q (.panic c) a w) (hT:T i=false) (hik:k≠i):
  ∀(fuel:Nat) (listed:Array Bool) (a:Act),
   (∀j oj,ops[j]? =some oj→j≠i→listed.getD j true=false→(∀e∈oj.after,Region.binds md e=true→e.on≠i)→oi.apart ops oj=true)→
   i∈Region.ready md ops listed→Yields P ops oi v a→
   wpAnyF P md ops Q S T k fuel (listed.setIfInBounds i true) (a.put oi.dst v)→wpAnyF P md ops Q S T k (fuel+1) listed a:=by
 intro fuel;induction fuel with
 | zero=>
  intro listed a _ hr hy H;refine ⟨fun h=>(by rw [h] at hr;cases hr),fun j hj w hS=> ?_⟩;by_cases hji:j=i
  ·subst hji;exact hy.wpOp hi (by rw [if_neg (by simp [hT])];exact ⟨by rw [fl_set hik];exact hS,H⟩)
  ·have:=ready_mono hj hji;rw [H.1] at this;cases this
 | succ fuel ih=>
  intro listed a hfree hr hy H;refine ⟨fun h=>(by rw [h] at hr;cases hr),fun j hj w hS=> ?_⟩;by_cases hji:j=i
  ·subst hji;exact hy.wpOp hi (by rw [if_neg (by simp [hT])];exact ⟨by rw [fl_set hik];exact hS,H⟩)
  ·have h1:=H.2 j (ready_mono hj hji) w (by rw [fl_set hik];exact hS);obtain ⟨hjun,oj,hoj,hall⟩:=mem_ready.1 hj;have hnot:∀e∈oj.after,Region.binds md e=true→e.on≠i:=fun e he hb heq=>by
    have h1:=hall e he hb;have h0:=(mem_ready.1 hr).1;rw [heq] at h1;rcases Nat.lt_or_ge i listed.size with h'|h'
    ·simp [h'] at h0 h1;rw [h0] at h1;cases h1
    ·simp [Array.getElem?_eq_none h'] at h1
   have h2:=wpOp_put hoj (hfree j oj hoj hji hjun hnot) (fun cs b=>hsel i oi cs b hi) (fun cs b=>hsel j oj cs b hoj) hQ hy h1;have hfree':∀k' ok,ops[k']? =some ok→k'≠i→(listed.setIfInBounds j true).getD k' true=false→
     (∀e∈ok.after,Region.binds md e=true→e.on≠i)→oi.apart ops ok=true:=fun k' ok hk hki hun hno=>by
    refine hfree k' ok hk hki ?_ hno;by_cases hjk:j=k'
    ·subst hjk;exact hjun
    ·rw [getD_set_ne true hjk] at hun;exact hun
   refine wpOp_mono (fun a' w' h3=> ?_) h2;obtain ⟨h4,h5⟩:=h3;split at h5
   ·rename_i hTj
    rw [if_pos hTj];refine wpAny_first hi hsel hQ fuel (listed.setIfInBounds j true) a' w' hfree' (ready_mono hr (Ne.symm hji)) h4 ?_;rw [Array.setIfInBounds_comm _ _ hji];exact h5
   ·rename_i hTj
    rw [if_neg hTj];refine ⟨by have:=h5.1;rw [Array.setIfInBounds_comm _ _ (Ne.symm hji),fl_set hik] at this;exact this,ih (listed.setIfInBounds j true) a' hfree' (ready_mono hr (Ne.symm hji)) h4 ?_⟩;rw [Array.setIfInBounds_comm _ _ hji];exact h5.2
theorem wpAnyF_firstS {i:Nat} {oi:Oper} {v:Value} (hi:ops[i]? =some oi) (hsel:∀(j:Nat) (o:Oper) cs b,ops[j]? =some o→o.op≠ .select cs b)
  (hQ:∀c a w,Q (.panic c) (a.put oi.dst v) w→Q (.panic c) a w) (hT:T i=false) (hik:k≠i) (f:Nat) (hR:∀t,T t=true→reach md ops f t i=true):
  ∀(fuel:Nat) (listed:Array Bool) (a:Act),Closed md ops listed→
   (∀j oj,ops[j]? =some oj→j≠i→listed.getD j true=false→(∀e∈oj.after,Region.binds md e=true→e.on≠i)→oi.apart ops oj=true)→
   i∈Region.ready md ops listed→YieldsF P ops S oi v a→
   wpAnyF P md ops Q S T k fuel (listed.setIfInBounds i true) (a.put oi.dst v)→wpAnyF P md ops Q S T k (fuel+1) listed a:=by
 intro fuel;induction fuel with
 | zero=>
  intro listed a _ _ hr hy H;refine ⟨fun h=>(by rw [h] at hr;cases hr),fun j hj w hS=> ?_⟩;by_cases hji:j=i
  ·subst hji;exact (hy _).wpOp hi hS (fun w' hS'=>by rw [if_neg (by simp [hT])];exact ⟨by rw [fl_set hik];exact hS',H⟩)
  ·have:=ready_mono hj hji;rw [H.1] at this;cases this
 | succ fuel ih=>
  intro listed a hcl hfree hr hy H;refine ⟨fun h=>(by rw [h] at hr;cases hr),fun j hj w hS=> ?_⟩;by_cases hji:j=i
  ·subst hji;exact (hy _).wpOp hi hS (fun w' hS'=>by rw [if_neg (by simp [hT])];exact ⟨by rw [fl_set hik];exact hS',H⟩)
  ·have h1:=H.2 j (ready_mono hj hji) w (by rw [fl_set hik];exact hS);obtain ⟨hjun,oj,hoj,hall⟩:=mem_ready.1 hj;have hTj:¬T j=true:=fun hTj=>by
    have h3:=reach_listed hcl f j i (fun o ho e he hb=>by rw [hoj] at ho;cases ho;exact hall e he hb) (hR j hTj);have h0:=(mem_ready.1 hr).1;rcases Nat.lt_or_ge i listed.size with h'|h'
    ·simp [h'] at h0 h3;rw [h0] at h3;cases h3
    ·simp [Array.getElem?_eq_none h'] at h3
   have hnot:∀e∈oj.after,Region.binds md e=true→e.on≠i:=fun e he hb heq=>by
    have h1:=hall e he hb;have h0:=(mem_ready.1 hr).1;rw [heq] at h1;rcases Nat.lt_or_ge i listed.size with h'|h'
    ·simp [h'] at h0 h1;rw [h0] at h1;cases h1
    ·simp [Array.getElem?_eq_none h'] at h1
   have h2:=wpOp_putF hoj (hfree j oj hoj hji hjun hnot) (fun cs b=>hsel i oi cs b hi) (fun cs b=>hsel j oj cs b hoj) hQ hy h1;have hfree':∀k' ok,ops[k']? =some ok→k'≠i→(listed.setIfInBounds j true).getD k' true=false→
     (∀e∈ok.after,Region.binds md e=true→e.on≠i)→oi.apart ops ok=true:=fun k' ok hk hki hun hno=>by
    refine hfree k' ok hk hki ?_ hno;by_cases hjk:j=k'
    ·subst hjk;exact hjun
    ·rw [getD_set_ne true hjk] at hun;exact hun
   refine wpOp_mono (fun a' w' h3=> ?_) h2;obtain ⟨h4,h5⟩:=h3;rw [if_neg hTj] at h5 ⊢;refine ⟨by have:=h5.1;rw [Array.setIfInBounds_comm _ _ (Ne.symm hji),fl_set hik] at this;exact this,ih (listed.setIfInBounds j true) a' (hcl.set hj) hfree' (ready_mono hr (Ne.symm hji)) h4 ?_⟩;rw [Array.setIfInBounds_comm _ _ hji];exact h5.2
def endF (P:Program) (ops:Array Oper) (Q:Exit→Act→World→Prop) (S:Bool→World→Prop) (T:Nat→Bool) (k:Nat):List Nat→Bool→Act→Prop
 | [],b,a=>∀w,S b w→Q .normal a w
 | i::r,b,a=>∀w,S b w→wpOp P ops Q i (fun a' w'=>if T i=true then wpList P ops Q (r.filterMap fun i=>ops[i]?) a' w' else S (b||i==k) w'∧endF P ops Q S T k r (b||i==k) a') a w
theorem fl_next {listed:Array Bool} {k i:Nat} (h:listed.getD i true=false):(listed.setIfInBounds i true).getD k true=(listed.getD k true||i==k):=by
 by_cases e:k=i
 ·subst e;rcases Nat.lt_or_ge k listed.size with h1|h1
  ·simp [h1]
  ·simp [Array.getElem?_eq_none h1]
 ·rw [fl_set e];have:(i==k)=false:=by simpa using Ne.symm e
  rw [this,Bool.or_false]
theorem wpAnyF_end:∀(L:List Nat) (fuel:Nat) (listed:Array Bool) (a:Act),L.length=fuel→okP2 md ops listed L=true→endF P ops Q S T k L (listed.getD k true) a→wpAnyF P md ops Q S T k fuel listed a
 | [],fuel,listed,a,hl,hok,h=>by
  subst hl;exact ⟨by simpa [okP2] using hok,h⟩
 | i::r,fuel,listed,a,hl,hok,h=>by
  obtain ⟨f,rfl⟩:∃f,fuel=f+1:=⟨r.length,by simp at hl;omega⟩
  unfold okP2 at hok;rw [Bool.and_eq_true] at hok;have hrd:=eq_of_beq hok.1;refine ⟨fun h0=>(by rw [hrd] at h0;cases h0),fun j hj w hS=> ?_⟩;have hun:=(mem_ready.1 hj).1;rw [hrd,List.mem_singleton] at hj;subst hj;refine wpOp_mono (fun a' w' h'=> ?_) (h w hS);split at h'
  ·rename_i hT
   rw [if_pos hT];exact wpAny_list r f _ a' w' (by simp at hl;omega) hok.2 h'
  ·rename_i hT
   rw [if_neg hT,fl_next hun];exact ⟨h'.1,wpAnyF_end r f _ a' (by simp at hl;omega) hok.2 (by rw [fl_next hun];exact h'.2)⟩
def seqXF (P:Program) (md:Region.Mode) (ops:Array Oper) (Q:Exit→Act→World→Prop) (S:Bool→World→Prop) (k:Nat) (L2 T:List Nat):Nat→List Oper→Act→Prop
 | _, [],a=>endF P ops Q S (fun i=>T.contains i) k L2 false a
 | j,o::rest,a=>if L2.contains j=true then seqXF P md ops Q S k L2 T (j+1) rest a else ∃v,(Yields P ops o v a∨(rch md ops T j=true∧YieldsF P ops S o v a))∧seqXF P md ops Q S k L2 T (j+1) rest (a.put o.dst v)
def seqF (P:Program) (md:Region.Mode) (ops:Array Oper) (Q:Exit→Act→World→Prop) (S:Bool→World→Prop) (k:Nat) (L2 T:List Nat):List Nat→Act→Prop
 | [],a=>endF P ops Q S (fun i=>T.contains i) k L2 false a
 | i::r,a=>∃o v,ops[i]? =some o∧(Yields P ops o v a∨(rch md ops T i=true∧YieldsF P ops S o v a))∧seqF P md ops Q S k L2 T r (a.put o.dst v)
theorem seqF_of_text {L2 T:List Nat}:∀(r j:Nat) (a:Act),j+r=ops.size→seqXF P md ops Q S k L2 T j (ops.toList.drop j) a→seqF P md ops Q S k L2 T ((List.range' j r).filter fun i=> !L2.contains i) a
 | 0,j,a,hj,h=>by
  obtain rfl:j=ops.size:=by omega
  rw [List.drop_eq_nil_of_le (by simp)] at h;exact h
 | r+1,j,a,hj,h=>by
  have hlt:j<ops.toList.length:=by simp;omega
  have hi:ops[j]? =some (ops.toList[j]):=by rw [← Array.getElem?_toList];exact List.getElem?_eq_getElem hlt
  rw [List.drop_eq_getElem_cons hlt] at h;unfold seqXF at h;rw [List.range'_succ,List.filter_cons];split at h
  ·rename_i hc
   rw [if_neg (by simp only [hc];decide)];exact seqF_of_text r (j+1) a (by omega) h
  ·rename_i hc
   rw [if_pos (by simpa using hc)];obtain ⟨v,hy,h⟩:=h;exact ⟨_,v,hi,hy,seqF_of_text r (j+1) _ (by omega) h⟩
theorem wpAnyF_seq (hs:Region.noSelect ops=true) (hQ:∀c (a:Act) d v w,Q (.panic c) (a.put d v) w→Q (.panic c) a w) (L2 T:List Nat) (hkL:L2.contains k=true) (hTL:∀t∈T,t∈L2):
  ∀(L1:List Nat) (fuel:Nat) (listed:Array Bool) (a:Act),L1.length+L2.length=fuel→Closed md ops listed→listed.getD k true=false→okP1 md ops L2 listed L1=true→seqF P md ops Q S k L2 T L1 a→wpAnyF P md ops Q S (fun i=>T.contains i) k fuel listed a:=by
 intro L1;induction L1 with
 | nil=>
  intro fuel listed a hl hcl hfl hok h;exact wpAnyF_end L2 fuel listed a (by simpa using hl) hok (by rw [hfl];exact h)
 | cons i r ih=>
  intro fuel listed a hl hcl hfl hok h;obtain ⟨f,rfl⟩:∃f,fuel=f+1:=⟨r.length+L2.length,by simp at hl;omega⟩
  unfold okP1 at hok;simp only [Bool.and_eq_true,Bool.not_eq_true'] at hok;obtain ⟨⟨⟨h1,h2⟩,h3⟩,h4⟩:=hok;have hr:i∈Region.ready md ops listed:=by simpa using h1
  have hki:k≠i:=by
   intro e;rw [e,h3] at hkL;cases hkL
  have hTi:T.contains i=false:=by
   cases ht:T.contains i with
   | false=>rfl
   | true=>
    have:=hTL i (by simpa using ht);have h5:L2.contains i=true:=(by simpa using this)
    rw [h3] at h5;cases h5
  obtain ⟨o,v,hi,hy,h⟩:=h;have hrest:=ih f (listed.setIfInBounds i true) (a.put o.dst v) (by simp at hl;omega) (hcl.set hr) (by rw [fl_set hki];exact hfl) h4 h;rcases hy with hy|⟨hrc,hy⟩
  ·exact wpAnyF_firstW hi (Region.noSelect_spec hs) (fun c a w h=>hQ c a _ _ w h) hTi hki f listed a (Region.free_spec hi h2) hr hy hrest
  ·refine wpAnyF_firstS hi (Region.noSelect_spec hs) (fun c a w h=>hQ c a _ _ w h) hTi hki ops.size (fun t ht=> ?_) f listed a hcl (Region.free_spec hi h2) hr hy hrest;unfold rch at hrc;rw [List.all_eq_true] at hrc;exact hrc t (by simpa using ht)
theorem wp_region_turn {id:Nat} {a:Act} {w:World} (hm:P.follows .mixedOrders=true) (S:Bool→World→Prop) (k:Nat) (L2 T:List Nat) (hs:Region.noSelect ops=true) (hk:(decide (k<ops.size)&&L2.contains k&&T.all fun t=>L2.contains t)=true)
  (hlen:(((List.range' 0 ops.size).filter fun i=> !L2.contains i).length+L2.length==ops.size)=true) (hf:okP1 .any ops L2 (Array.replicate ops.size false) ((List.range' 0 ops.size).filter fun i=> !L2.contains i)=true)
  (hQ:∀c (a:Act) d v w,Q (.panic c) (a.put d v) w→Q (.panic c) a w) (hS:S false w.drew)
  (h:seqXF P .any ops Q S k L2 T 0 ops.toList a):(Code.region id ops true).wp P Q a w:=by
 simp only [Bool.and_eq_true,decide_eq_true_eq,List.all_eq_true] at hk;have hfl:(Array.replicate ops.size false).getD k true=false:=by
  rw [Array.getD_eq_getD_getElem?,Array.getElem?_replicate,if_pos hk.1.1];rfl
 refine wp_region_any hm ?_;refine wpAny_of_flag (k:=k) (S:=S) (T:=fun i=>T.contains i) _ _ _ _ (by rw [hfl];exact hS) (wpAnyF_seq hs hQ L2 T hk.1.2 (fun t ht=>by simpa using hk.2 t ht) _ ops.size _ a (eq_of_beq hlen) (fun j o hj hl=> ?_) hfl hf (seqF_of_text ops.size 0 a (by omega) (by simpa using h)));rw [Array.getD_eq_getD_getElem?,Array.getElem?_replicate] at hl;split at hl<;>cases hl
variable {L2 T:List Nat} {j:Nat} {o:Oper} {rest:List Oper} {a:Act} {v:Value}
theorem seqXF_skip (hk:L2.contains j=true) (h:seqXF P md ops Q S k L2 T (j+1) rest a):seqXF P md ops Q S k L2 T j (o::rest) a:=by
 unfold seqXF;rw [if_pos hk];exact h
theorem seqXF_val (hk:L2.contains j=false) (hw:Region.wanted o (yielded ops a.tmps)=true) (h:∀w,(execOp a.eval o).run P w=.ok (.value v) w) (r:seqXF P md ops Q S k L2 T (j+1) rest (a.put o.dst v)):seqXF P md ops Q S k L2 T j (o::rest) a:=by
 unfold seqXF;rw [if_neg (by simp only [hk];decide)];exact ⟨v,.inl (.inl ⟨hw,h⟩),r⟩
theorem seqXF_valS (hk:L2.contains j=false) (hc:rch md ops T j=true) (hw:Region.wanted o (yielded ops a.tmps)=true) (h:∀b w,S b w→(execOp a.eval o).run P w=.ok (.value v) w) (r:seqXF P md ops Q S k L2 T (j+1) rest (a.put o.dst v)):seqXF P md ops Q S k L2 T j (o::rest) a:=by
 unfold seqXF;rw [if_neg (by simp only [hk];decide)];exact ⟨v,.inr ⟨hc,fun b=> .inl ⟨hw,fun w hS=> .inl ⟨w,h b w hS,hS⟩⟩⟩,r⟩
theorem endF_val {i:Nat} {r:List Nat} {b:Bool} {Tf:Nat→Bool} (hi:ops[i]? =some o) (hT:Tf i=false) (hw:Region.wanted o (yielded ops a.tmps)=true)
  (h:∀w,S b w→∃w',(execOp a.eval o).run P w=.ok (.value v) w'∧S (b||i==k) w') (hr:endF P ops Q S Tf k r (b||i==k) (a.put o.dst v)):endF P ops Q S Tf k (i::r) b a:=by
 intro w hS;obtain ⟨w',h1,h2⟩:=h w hS;unfold Go.wpOp;simp only [hi,hw,if_true];refine .inl ?_;simp only [Oper.wp,h1,Oper.upon];rw [if_neg (by simp [hT])];exact ⟨h2,hr⟩
theorem endF_list {i:Nat} {r:List Nat} {b:Bool} {Tf:Nat→Bool} (hi:ops[i]? =some o) (hT:Tf i=true) (h:∀w,S b w→wpList P ops Q ((i::r).filterMap fun i=>ops[i]?) a w):endF P ops Q S Tf k (i::r) b a:=by
 intro w hS;have h1:=h w hS;rw [List.filterMap_cons,hi] at h1;simp only [wpList] at h1;unfold wpOp;rw [hi];simp only [hT,if_true];split at h1
 ·rename_i hw
  rw [if_pos hw];exact h1
 ·rename_i hw
  rw [if_neg hw];exact h1
end
end Go.Proofs.YtlcojhddnpmgmaaGreat
namespace Go.Proofs.YtlcojhddnpmgmaaGreat
open Go.RowKit
def deedW (w:World) (r:Req) (rv dv:Value):World:=(w.alloc (.cells (r.cells rv dv) 36)).alloc (.cells (noRep.cells (.slice none 0 0) (.slice none 0 0)) 29)
structure Begun (w:World) (o:Nat→Nat) (K:Nat) (L:Plc) (S:St) (n:Nat) (r:Req) (rv dv:Value) (w0:World):Prop where
 fr:Fr No w w0
 k0:w0.heap[w.heap.size]? =some (.cells (r.cells rv dv) 36 (0,0))
 k1:w0.heap[w.heap.size+1]? =some (.cells (noRep.cells (.slice none 0 0) (.slice none 0 0)) 29 (0,0))
 at_:StateAt w0 o K L S n
 fresh:Fresh w0 o
theorem begun {w:World} {o:Nat→Nat} {K n:Nat} {L:Plc} {S:St} (h:StateAt w o K L S n) (ok:StOk S) (hf:Fresh w o) (r:Req) (rv dv:Value):Begun w o K L S n r rv dv (deedW w r rv dv):=by
 have f0:Fr No w (deedW w r rv dv):=((Fr.refl w).alloc _).alloc _;refine ⟨f0,((Fr.refl (S:=No) _).alloc _).block_of (new_at w _) id,?_,h.no ok hf f0,(Step.no (C:=fun _=>False) hf f0).fresh⟩;have:=new_at (w.alloc (.cells (r.cells rv dv) 36)) (.cells (noRep.cells (.slice none 0 0) (.slice none 0 0)) 29);unfold deedW;simpa using this
theorem Deed.no {w w':World} {o:Nat→Nat} {K n:Nat} {L:Plc} {S:St} {x:Int} {r:RepS} {e:Ending} (h:StateAt w o K L S n) (ok:StOk S) (hf:Fresh w o) (hx:x≠0) (he:e=.panicked (refC x)) (f:Fr No w w'):Deed w o K L n (x,r,S) e w':=
 ⟨⟨o,(Step.no (C:=fun _=>False) hf f).mono (fun _ e=>e.elim),h.no ok hf f⟩,by rw [if_neg hx];exact he⟩
def plainRep (e i z h s:Int) (d:Bool):RepS:=⟨e,i,z,h,s,d, [], []⟩
def plainV (e i z h s:Int) (d:Bool):Value:=.agg #[.int .i64 e,.int .i64 i,.int .i64 z,.int .i64 h,.int .i64 s,.bool d,.slice none 0 0,.slice none 0 0]
theorem RepAt.plain {n:Nat} (w:World) (e i z h s:Int) (d:Bool):RepAt n w (plainV e i z h s d) (plainRep e i z h s d):=⟨_,_,rfl,.inl ⟨rfl,rfl⟩,.inl ⟨rfl,rfl⟩,Low.nil _,Low.nil _⟩
theorem treeC_state {K c:Nat} (h:treeC K c):stateC K c:=by unfold stateC;unfold treeC at h;omega
theorem tokC2_state {K c:Nat} (h:tokC2 K c):stateC K c:=by unfold stateC;unfold tokC2 at h;omega
theorem movedT_ok {T:Tree} (ht:TreeOk T) (p q:List UInt8):TreeOk (movedT T p q):=by
 unfold movedT;split
 ·rename_i h
  unfold moveE at h;by_cases h1:(lookOf T p).1=0
  ·rw [if_neg (by simp [h1])] at h;by_cases h2:(lookOf T p).2.1=1
   ·rw [if_pos h2] at h;cases h
   ·rw [if_neg h2] at h;split at h
    ·cases h
    ·split at h
     ·cases h
     ·rename_i h3
      split at h
      ·cases h
      ·by_cases h4:(placeOf T q).1=0
       ·rw [if_neg (by simp [h4])] at h;split at h
        ·cases h
        ·rename_i h5
         obtain ⟨x,hx,hd⟩:=look_ok ht h1;rw [← hd];exact moved_ok (move_moves ht h1 hx h2 h3 h4 (by simpa using h5))
       ·rw [if_pos h4] at h;exact absurd h h4
  ·rw [if_pos h1] at h;exact absurd h h1
 ·exact ht
theorem StOk.newTree {S:St} (ok:StOk S) {T':Tree} (h:TreeOk T'):StOk {S with T:=T'}:=⟨h,ok.file⟩
theorem last_ {C:Nat→Prop} {w w' w'' w3:World} {o o':Nat→Nat} {g:Nat} (hf:Fresh w o) (f:Fr No w w') (s:Step C w' o w'' o') (hg:w.heap.size≤g) (hg':g<w'.heap.size) (q:Fr (fun j=>j=g) w'' w3):
  Step C w o w3 o'∧Step (fun c=>c=0) w'' o' w3 o':=by
 have e:o' g=0:=(s.old g hg').trans (hf g hg);have f0:Fr (fun k=>C (o k)) w w'':=(f.of_no).trans s.fr (fun _ _ h=>h);refine ⟨⟨f0.trans q (fun j hj e=>by omega),fun k hk=>s.old k (Nat.lt_of_lt_of_le hk f.size),fun k hk=>s.fresh k (Nat.le_trans q.size hk)⟩,⟨q.mono (fun j _ h=>by subst h;exact e),fun _ _=>rfl,fun k hk=>s.fresh k (Nat.le_trans q.size hk)⟩⟩
theorem Deed.yes {C:Nat→Prop} {w w' w'' w3:World} {o o':Nat→Nat} {K n g:Nat} {L:Plc} {S':St} {r:RepS} {v:Value} {e:Ending} (hf:Fresh w o) (f:Fr No w w') (s:Step C w' o w'' o') (hC:∀c,C c→stateC K c) (hg:w.heap.size≤g) (hg':g<w'.heap.size) (q:Fr (fun j=>j=g) w'' w3)
  (ok:StOk S') (t:StateAt w'' o' K L S' n) (he:e=.returned v) (hr:RepAt w.heap.size w3 v r):Deed w o K L n (0,r,S') e w3:=by
 obtain ⟨a,b⟩:=last_ hf f s hg hg' q;exact ⟨⟨o',a.mono hC,t.step ok b (fun c h e=>by unfold stateC at h;omega)⟩,by rw [if_pos rfl];exact ⟨v,he,hr⟩⟩
def moveD (S:St) (r:Req):Int×RepS×St:=
 if moveE S.T r.path r.to=0 then (0,plainRep 0 0 0 0 0 false,{S with T:=movedT S.T r.path r.to}) else (moveE S.T r.path r.to,noRep,S)
theorem dmove_ (o:Nat→Nat) (K n:Nat) (L:Plc) (S:St) (r:Req) (rv dv:Value) (w:World) (h:StateAt w o K L S n) (ok:StOk S) (hf:Fresh w o) (hl:r.path.length≤1000000) (hl2:r.to.length≤1000000):
  Calls Tryz.prog 84 #[.pointer (some ⟨L.s,0,none⟩),.agg (r.cells rv dv)] w (Deed w o K L n (moveD S r)):=by
 obtain ⟨f0,k0,k1,H0,G0⟩:=begun h ok hf r rv dv;have F0:=lH f0;have HL:Hid (∀w',Fr No (deedW w r rv dv) w'→Calls Tryz.prog 135 #[.pointer (some ⟨L.tr,0,none⟩),.string (ba r.path),.string (ba r.to)] w' (GMove w' o K L.tr S.T r.path r.to)):=
  lH (fun w' f=>gmove_ o K L.tr S.T r.path r.to w' hl hl2 ((H0.no ok G0 f).tree) ok.tree (Step.no (C:=fun _=>False) G0 f).fresh)
 have HR:Hid (moveE S.T r.path r.to≠0→∀e w' w'' o',e=.panicked (refC (moveE S.T r.path r.to))→Fr No w w'→Step (treeC K) w' o w'' o'→TreeAt w'' o' K L.tr (movedT S.T r.path r.to)→Deed w o K L n (moveD S r) e w''):=lH (fun hne e w' w'' o' he f s t=>by
  have hs:Step (treeC K) w o w'' o':=((Step.no (C:=fun _=>False) hf f).mono (fun _ e=>e.elim)).trans s (fun _ e=>e);have:=h.newTree ok hs t;rw [show movedT S.T r.path r.to=S.T from if_neg hne] at this;unfold moveD;rw [if_neg hne];exact ⟨⟨o',hs.mono (fun _ e=>treeC_state e),this⟩,by rw [if_neg hne];exact he⟩)
 have HQ:Hid (moveE S.T r.path r.to=0→∀e w' w'' w3 o',e=.returned (plainV 0 0 0 0 0 false)→Fr No w w'→w.heap.size+1<w'.heap.size→Step (treeC K) w' o w'' o'→TreeAt w'' o' K L.tr (movedT S.T r.path r.to)→Fr (fun j=>j=w.heap.size+1) w'' w3→Deed w o K L n (moveD S r) e w3):=lH (fun h0 e w' w'' w3 o' he f hs s t g=>by
  unfold moveD;rw [if_pos h0];have s':Step (treeC K) w o w'' o':=((Step.no (C:=fun _=>False) hf f).mono (fun _ e=>e.elim)).trans s (fun _ e=>e);exact Deed.yes hf f s (fun _ e=>treeC_state e) (by omega) hs g (ok.newTree (movedT_ok ok.tree _ _)) (h.newTree ok s' t) he (RepAt.plain _ _ _ _ _ _ _))
 generalize hQ:Deed w o K L n (moveD S r)=Q at*;clear hQ;have NS:Hid (¬treeC K (o L.s)):=lH (by rw [h.own];unfold treeC;omega);have NB:Hid (¬treeC K (o w.heap.size)):=lH (by rw [hf _ (Nat.le_refl _)];unfold treeC;omega);have NR:Hid (¬treeC K (o (w.heap.size+1))):=lH (by rw [hf _ (Nat.le_succ _)];unfold treeC;omega);have HH:=lH H0;have HG:=lH G0;clear H0 G0 f0 h ok hf hl hl2;unfold GMove at HL;generalize moveE S.T r.path r.to=er at*;generalize movedT S.T r.path r.to=T' at*;unfold deedW Req.cells noRep RepS.cells at*;go_enter Tryz.func84,Tryz.ntmps84;go_wp2_with fail;generalize (w.alloc (.cells #[.int .i64 r.c,.int .i64 r.l,.int .i64 r.q,.int .i64 r.kind,.string (ba r.path),.string (ba r.to),.bool r.dir,.bool r.wr,.bool r.cl,.int .i64 r.h,.int .i64 r.nx,.int .i64 r.sw,rv,dv] 36)).alloc (.cells #[.int .i64 0,.int .i64 0,.int .i64 0,.int .i64 0,.int .i64 0,.bool false,.slice none 0 0,.slice none 0 0] 29)=w0 at*;have B1:=lH (lt_of_block k1);generalize hb0:w.heap.size=b0 at*;have c9:w0.cell? ⟨L.s,9,none⟩=some (.pointer (some ⟨L.tr,0,none⟩)):=HH.out.cell 9;have d4:w0.cell? ⟨b0,4,none⟩=some (.string (ba r.path)):=by rw [cell_at k0];rfl
 have d5:w0.cell? ⟨b0,5,none⟩=some (.string (ba r.to)):=by rw [cell_at k0];rfl
 have K1:=lH k1;clear k0 k1;go_region_held3 (fun w'=>w'.cell? ⟨L.s,9,none⟩=some (.pointer (some ⟨L.tr,0,none⟩))∧w'.cell? ⟨b0,4,none⟩=some (.string (ba r.path))∧w'.cell? ⟨b0,5,none⟩=some (.string (ba r.to))) (first|go_keep|(go_split_ands;refine ⟨?_,?_,?_⟩<;>exact s1.fr.cell_of (by assumption) (by first|exact NS.out|exact NB.out)))
  ((go_at_call 135;refine (HL.out _ (Fr.refl _).drew).mono ?_;rintro e w1 ⟨rfl,o',s1,t1⟩))
 have SZ:Hid (b0+1<w0.drew.heap.size):=lH (by simpa using B1.out);have FF:=lH (F0.out.trans (Fr.refl w0).drew (fun _ _ e=>e));cases hx:(er==0) with
 | false=>
  have hne:er≠0:=by simpa using hx
  have HX:=lH (HR.out hne _ _ _ _ rfl FF.out s1 t1);clear s1 t1;go_wp2_with fail;refine (must_no _ _).mono ?_;rintro e w2 ⟨rfl,rfl⟩;go_wp2_with fail;exact ⟨rfl,HX.out⟩
 | true=>
  obtain rfl:er=0:=by simpa using hx
  have HX:=lH (fun e w3 he g=>HQ.out rfl e _ _ w3 _ he FF.out SZ.out s1 t1 g);have KK:=lH (s1.fr.block_of ((Fr.refl (S:=No) w0).drew.block_of K1.out id) NR.out);clear s1 t1 hx;have hbd:∀w':World,(Instr.build 29 #[]).run Tryz.prog w'=.ok (.agg #[.int .i64 0,.int .i64 0,.int .i64 0,.int .i64 0,.int .i64 0,.bool false,.slice none 0 0,.slice none 0 0]) w':=fun w'=>by kernel_rfl
  have HOC:=lH (show (#[.int .i64 0,.int .i64 0,.int .i64 0,.int .i64 0,.int .i64 0,.bool false,.slice none 0 0,.slice none 0 0]:Array Value).all (·.oneCell')=true from by simp [Value.oneCell']);go_wp2_with fail;refine (must_yes _ _).mono ?_;rintro e w2 ⟨rfl,rfl⟩;go_wp2_with (refine wpList_store_row rfl 29 (.tmp 4) (.tmp 19) rfl (b0+1) #[.int .i64 0,.int .i64 0,.int .i64 0,.int .i64 0,.int .i64 0,.bool false,.slice none 0 0,.slice none 0 0] rfl rfl 29 _ KK.out Tryz.size29 rfl HOC.out ?_);have KF:=setRow_at (cs':= #[.int .i64 0,.int .i64 0,.int .i64 0,.int .i64 0,.int .i64 0,.bool false,.slice none 0 0,.slice none 0 0]) KK.out;exact bodyPost_ret (v:=plainV 0 0 0 0 0 false) (results_cell_row rfl _ _ (b0+1) 29 _ (0,0) _ rfl KF Tryz.underlying29 rfl Tryz.size29) rfl
   (HX.out _ _ rfl (Fr.setRow (S:=fun j=>j=b0+1) (Fr.refl _) (.inl rfl) _))
theorem EsB.shape {w:World} {B:Nat} {v:Value} {es:List Ent} (h:EsB w B v es):∃base len cap,v=.slice base len cap:=by
 rcases h with ⟨e,_⟩|⟨b,off,c,e,_⟩
 ·exact ⟨_,_,_,e⟩
 ·exact ⟨_,_,_,e⟩
theorem EsB.far {w w':World} {B B' g:Nat} {v:Value} {es:List Ent} {cs:Array Value} (h:EsB w B v es) (hk:w.heap[g]? =some (.cells cs 29 (0,0))) (f:Fr (fun j=>j=g) w w') (hB:B≤B'):EsB w' B' v es:=by
 rcases h with h|⟨b,off,c,e,h1,h2,h3,⟨cs',fz,h4⟩,h5⟩
 ·exact .inl h
 ·have hne:b≠g:=by
   intro e;subst e;rw [h4] at hk;simp at hk
  have h4':=f.block_of h4 hne;refine .inr ⟨b,off,c,e,h1,Nat.lt_of_lt_of_le h2 hB,lt_of_block h4',⟨cs',fz,h4'⟩,fun j x hj=> ?_⟩;exact fun i u hi=>f.cell_of (h5 j x hj i u hi) hne
def listD (S:St) (r:Req):Int×RepS×St:=
 if (listOf S.T r.path).1=0 then (0,⟨0,0,0,0,0,false,(listOf S.T r.path).2, []⟩,S) else ((listOf S.T r.path).1,noRep,S)
theorem dlist_ (o:Nat→Nat) (K n:Nat) (L:Plc) (S:St) (r:Req) (rv dv:Value) (w:World) (h:StateAt w o K L S n) (ok:StOk S) (hf:Fresh w o) (hl:r.path.length≤1000000):
  Calls Tryz.prog 86 #[.pointer (some ⟨L.s,0,none⟩),.agg (r.cells rv dv)] w (Deed w o K L n (listD S r)):=by
 obtain ⟨f0,k0,k1,H0,G0⟩:=begun h ok hf r rv dv;have F0:=lH f0;have HL:Hid (∀w',Fr No (deedW w r rv dv) w'→Calls Tryz.prog 38 #[.pointer (some ⟨L.tr,0,none⟩),.string (ba r.path)] w' (GList w' (listOf S.T r.path))):=
  lH (fun w' f=>glist_ o K L.tr S.T r.path w' hl ((H0.no ok G0 f).tree) ok.tree (Step.no (C:=fun _=>False) G0 f).fresh)
 have HR:Hid ((listOf S.T r.path).1≠0→∀e w',e=.panicked (refC (listOf S.T r.path).1)→Fr No w w'→Deed w o K L n (listD S r) e w'):=lH (fun hne e w' he f=>by
  unfold listD;rw [if_neg hne];exact Deed.no h ok hf hne he f)
 have HQ:Hid ((listOf S.T r.path).1=0→∀v e w' w3,e=.returned (.agg #[.int .i64 0,.int .i64 0,.int .i64 0,.int .i64 0,.int .i64 0,.bool false,v,.slice none 0 0])→Fr No w w'→w.heap.size+1<w'.heap.size→EsB w' w'.heap.size v (listOf S.T r.path).2→Low w.heap.size v→(∃cs,w'.heap[w.heap.size+1]? =some (.cells cs 29 (0,0)))→Fr (fun j=>j=w.heap.size+1) w' w3→Deed w o K L n (listD S r) e w3):=lH (fun h0 v e w' w3 he f hs es lw hk g=>by
  unfold listD;rw [if_pos h0];obtain ⟨cs,hk⟩:=hk;exact Deed.yes (C:=fun _=>False) hf f (Step.refl (Step.no (C:=fun _=>False) hf f).fresh) (fun _ e=>e.elim) (by omega) hs g ok (h.no ok hf f) he ⟨_,_,rfl,es.far hk g g.size,.inl ⟨rfl,rfl⟩,lw,Low.nil _⟩)
 generalize hQ:Deed w o K L n (listD S r)=Q at*;clear hQ;have HH:=lH H0;clear H0 G0 f0 h ok hf hl;unfold GList at HL;generalize listOf S.T r.path=X at*;obtain ⟨er,es⟩:=X;dsimp only at HL HR HQ;unfold deedW Req.cells noRep RepS.cells at*;go_enter Tryz.func86,Tryz.ntmps86;go_wp2_with fail;generalize (w.alloc (.cells #[.int .i64 r.c,.int .i64 r.l,.int .i64 r.q,.int .i64 r.kind,.string (ba r.path),.string (ba r.to),.bool r.dir,.bool r.wr,.bool r.cl,.int .i64 r.h,.int .i64 r.nx,.int .i64 r.sw,rv,dv] 36)).alloc (.cells #[.int .i64 0,.int .i64 0,.int .i64 0,.int .i64 0,.int .i64 0,.bool false,.slice none 0 0,.slice none 0 0] 29)=w0 at*;have B1:=lH (lt_of_block k1);generalize hb0:w.heap.size=b0 at*;have c9:w0.cell? ⟨L.s,9,none⟩=some (.pointer (some ⟨L.tr,0,none⟩)):=HH.out.cell 9;have d4:w0.cell? ⟨b0,4,none⟩=some (.string (ba r.path)):=by rw [cell_at k0];rfl
 have K1:=lH k1;clear k0 k1;go_region_held3 (fun w'=>w'.cell? ⟨L.s,9,none⟩=some (.pointer (some ⟨L.tr,0,none⟩))∧w'.cell? ⟨b0,4,none⟩=some (.string (ba r.path))) (first|go_keep|(go_split_ands;refine ⟨?_,?_⟩<;>exact f1.cell_of (by assumption) id))
  ((go_at_call 38;refine (HL.out _ (Fr.refl _).drew).mono ?_;rintro e w1 ⟨v,rfl,f1,es1,lw1⟩;obtain ⟨vb,vl,vc,rfl⟩:=es1.shape))
 have F1:=lH ((Fr.refl w0).drew.trans f1 (fun _ _ e=>e));have FF:=lH (F0.out.trans F1.out (fun _ _ e=>e));have SZ:Hid (b0+1<w1.heap.size):=lH (Nat.lt_of_lt_of_le B1.out F1.out.size);have ES:=lH es1;have LW:=lH (show Low b0 (.slice vb vl vc) from lw1.le (Nat.le_trans (by rw [← hb0];exact F0.out.size) (Fr.refl (S:=No) w0).drew.size));clear f1 es1 lw1;cases hx:(er==0) with
 | false=>
  have hne:er≠0:=by simpa using hx
  go_wp2_with fail;refine (must_no _ _).mono ?_;rintro e w2 ⟨rfl,rfl⟩;go_wp2_with fail;exact ⟨rfl,HR.out hne _ _ rfl FF.out⟩
 | true=>
  obtain rfl:er=0:=by simpa using hx
  have KK:=lH (F1.out.block_of K1.out id);have HX:=lH (fun e w3 he g=>HQ.out rfl _ e _ w3 he FF.out SZ.out ES.out LW.out ⟨_,KK.out⟩ g);clear hx;have hbd:∀w':World,(Instr.build 29 #[(6,.slice vb vl vc)]).run Tryz.prog w'=.ok (.agg #[.int .i64 0,.int .i64 0,.int .i64 0,.int .i64 0,.int .i64 0,.bool false,.slice vb vl vc,.slice none 0 0]) w':=fun w'=>by kernel_rfl
  have HOC:=lH (show (#[.int .i64 0,.int .i64 0,.int .i64 0,.int .i64 0,.int .i64 0,.bool false,.slice vb vl vc,.slice none 0 0]:Array Value).all (·.oneCell')=true from by simp [Value.oneCell']);go_wp2_with fail;refine (must_yes _ _).mono ?_;rintro e w2 ⟨rfl,rfl⟩;go_wp2_with (refine wpList_store_row rfl 29 (.tmp 4) (.tmp 22) rfl (b0+1) #[.int .i64 0,.int .i64 0,.int .i64 0,.int .i64 0,.int .i64 0,.bool false,.slice vb vl vc,.slice none 0 0] rfl rfl 29 _ KK.out Tryz.size29 rfl HOC.out ?_);have KF:=setRow_at (cs':= #[.int .i64 0,.int .i64 0,.int .i64 0,.int .i64 0,.int .i64 0,.bool false,.slice vb vl vc,.slice none 0 0]) KK.out;exact bodyPost_ret (v:=.agg #[.int .i64 0,.int .i64 0,.int .i64 0,.int .i64 0,.int .i64 0,.bool false,.slice vb vl vc,.slice none 0 0]) (results_cell_row rfl _ _ (b0+1) 29 _ (0,0) _ rfl KF Tryz.underlying29 rfl Tryz.size29) rfl
   (HX.out _ _ rfl (Fr.setRow (S:=fun j=>j=b0+1) (Fr.refl _) (.inl rfl) _))
def noFile:FMap:=⟨0, []⟩
def updF (F:Nat→Option FMap) (i:Nat) (x:Option FMap):Nat→Option FMap:=fun j=>if j=i then x else F j
def freshW (w:World):World:=w.alloc (.cells #[.bool true,.int .i64 0,.slice none 0 0] 135)
theorem FilesAt.make {w:World} {o:Nat→Nat} {K fl n:Nat} {F:Nat→Option FMap} (h:FilesAt w o K fl n F) (hf:Fresh w o) (i:Nat) (hi:i≤1000000) (hn:n<4611686018427387904):
  ∃w',(Instr.mapUpdate 100 (.map (some fl)) (.int .i64 i) (.pointer (some ⟨w.heap.size,0,none⟩))).run Tryz.prog (freshW w)=.ok () w'∧Fr (fun k=>k=fl) (freshW w) w'∧
   Step (fun c=>c=K+6) w o w' (paint o w.heap.size (K+3000+i))∧FilesAt w' (paint o w.heap.size (K+3000+i)) K fl (n+1) (updF F i (some noFile)):=by
 obtain ⟨h1,fp,c,hc,hm,hfl⟩:=h;have f:Fr No w (freshW w):=(Fr.refl w).alloc _;have hsz:(freshW w).heap.size=w.heap.size+1:=by unfold freshW;simp
 have kn:(freshW w).heap[w.heap.size]? =some (.cells #[.bool true,.int .i64 0,.slice none 0 0] 135 (0,0)):=new_at w _;have s1:Step (fun _=>False) w o (freshW w) (paint o w.heap.size (K+3000+i)):=⟨f.mono (fun _ _ e=>e.elim),fun k hk=>paint_other _ _ (by omega),fun k hk=>by rw [paint_other _ _ (by omega)];exact hf k (by omega)⟩
 obtain ⟨hm1,ho1⟩:=hm.step s1 id;obtain ⟨w',hrun,hma,g⟩:=hm1.put (i:Int) w.heap.size (show I64 _ by unfold I64;omega) trivial (by omega) (t:=100) (e:=63) Tryz.underlying100;have hne:w.heap.size≠fl:=by
  intro e;rw [← e,paint_same] at ho1;rw [e] at ho1;omega
 have s:Step (fun c=>c=K+6) w o w' (paint o w.heap.size (K+3000+i)):=⟨(f.of_no).trans g (fun j _ e=>by rw [e];exact h1),s1.old,fun k hk=>s1.fresh k (Nat.le_trans g.size hk)⟩
 refine ⟨w',hrun,g,s,ho1.trans h1,fun j=>if j=i then w.heap.size else fp j,if (filem F fp i).isSome then c else c+1,by split<;>omega,?_,fun j m hj=> ?_⟩
 ·have e:(fun z:Int=>if z=(i:Int) then some w.heap.size else filem F fp z)=filem (updF F i (some noFile)) (fun j=>if j=i then w.heap.size else fp j):=by
   funext z;unfold filem updF;by_cases hz:z=i
   ·subst hz;simp
   ·by_cases h0:0≤z
    ·have:z.toNat≠i:=by omega
     simp [hz,h0,this]
    ·simp [hz,h0]
  rw [← e];exact hma
 ·unfold updF at hj;by_cases hji:j=i
  ·rw [if_pos hji] at hj;cases hj;dsimp only;rw [if_pos hji,hji];exact ⟨paint_same _ _ _,_,g.block_of kn hne,.inl ⟨rfl,rfl⟩⟩
  ·rw [if_neg hji] at hj;dsimp only;rw [if_neg hji];exact (hfl j m hj).step s (by omega) (by omega)
theorem StateAt.newFiles {w w':World} {o o':Nat→Nat} {K n n':Nat} {L:Plc} {S:St} {F':Nat→Option FMap} (h:StateAt w o K L S n) (hn:n≤n') (ok:StOk S) (s:Step (fun c=>c=K+6) w o w' o') (t:FilesAt w' o' K L.fl n' F'):StateAt w' o' K L {S with F:=F'} n' where
 own:=(s.own h.cs).trans h.own
 cs:=s.block h.cs (by rw [h.own];omega)
 win:=h.win.step s (by omega) (by omega)
 tree:=h.tree.step ok.tree s (fun c e=>by unfold treeC at e;omega)
 tok:=h.tok.step s (by omega) (by omega)
 files:=t
 uses:=(h.more hn).uses.step s (by omega)
theorem noFile_len:MapLen noFile:=⟨Nat.zero_le _,by simp [noFile,blocksN]⟩
theorem StOk.newFile {S:St} (ok:StOk S) {i:Nat} (hi:1≤i∧i≤128) {m:FMap} (hm:MapLen m):StOk {S with F:=updF S.F i (some m)}:=⟨ok.tree,fun j x hj=>by
 unfold updF at hj;dsimp only at hj;split at hj
 ·rename_i e
  subst e;cases hj;exact ⟨hi.1,hi.2,hm⟩
 ·exact ok.file j x hj⟩
end Go.Proofs.YtlcojhddnpmgmaaGreat
