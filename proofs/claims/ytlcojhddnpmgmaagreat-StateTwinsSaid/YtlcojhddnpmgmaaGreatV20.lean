/- Part of a proof. -/
import Derived.Test.YtlcojhddnpmgmaaGreatV14
import Derived.Test.YtlcojhddnpmgmaaGreatV19
import Derived.WideKeyEntry
set_option linter.unusedSimpArgs false
set_option linter.unusedVariables false
set_option maxRecDepth 100000
set_option maxHeartbeats 3200000
namespace Go.Proofs.YtlcojhddnpmgmaaGreat
open Go.RowKit
theorem qY (o:Nat→Nat) (K n:Nat) (L:aT) (S:St) (w:World) (h:aK w o K L S n):Calls Tryz.prog 47 #[.pointer (some ⟨L.s,0,none⟩)] w fun e w'=>e=.returned (.bool true)∧w'=w:=by
 have c9:w.cell? ⟨L.s,9,none⟩=some (.pointer (some ⟨L.tr,0,none⟩)):=h.cell 9;clear h;go_enter Tryz.func47,Tryz.ntmps47
 go_wp2
 go_ret
 exact ⟨rfl,rfl⟩
def Bv (d:Nat) (cs:Array Value) (t:TypeId) (w0:World) (a:Act) (w:World):Prop:=
 Fr No w0 w∧(a.tmps.getD d undef=undef∨∃g,a.tmps.getD d undef=.pointer (some ⟨g,0,none⟩)∧w0.heap.size≤g∧w.heap[g]? =some (.cells cs t (0,0)))
theorem Ie (e:Nat) (cs:Array Value) (t:TypeId) (w0:World) (d:Nat) (hd:d≠e) (a:Act) (v:Value) (w:World):Bv e cs t w0 (a.put (some d) v) w↔Bv e cs t w0 a w:=by
 have e:(a.put (some d) v).tmps.getD e undef=a.tmps.getD e undef:=by
  simp [Act.put,Array.getElem?_setIfInBounds,hd]
 unfold Bv;rw [e]
theorem rU.look {w:World} {o:Nat→Nat} {K us n:Nat} {U:Stp→Option Us} (h:rU w o K us n U) (x:Stp) (hx:iF x):
  ∃v,∀w',Fr No w w'→(Instr.lookup 101 (.map (some us)) (jF x) true).run Tryz.prog w'=.ok (.tuple #[.agg v,.bool (U x).isSome]) w'∧v.size=6∧v.all (·.oneCell')=true:=by
 obtain ⟨h1,c,h2,h3⟩:=h;cases hU:U x with
 | none=>
  refine ⟨#[.int .i64 0,.int .i64 0,.int .i64 0,.int .i64 0,.int .i64 0,.int .i64 0],fun w' f=>⟨?_,rfl,by simp [Value.oneCell']⟩⟩;have:=(h3.fr f id).look x hx (t:=101) (e:=80) Tryz.underlying101 (z:=.agg #[.int .i64 0,.int .i64 0,.int .i64 0,.int .i64 0,.int .i64 0,.int .i64 0]) (by kernel_rfl) true;rw [show dV U x=none by unfold dV;rw [hU];rfl] at this;exact this
 | some u=>
  refine ⟨#[.int .i64 x.1,.int .i64 x.2.1,.int .i64 x.2.2,.int .i64 u.1,.int .i64 u.2.1,.int .i64 u.2.2],fun w' f=>⟨?_,rfl,by simp [Value.oneCell']⟩⟩;have:=(h3.fr f id).look x hx (t:=101) (e:=80) Tryz.underlying101 (z:=.agg #[.int .i64 0,.int .i64 0,.int .i64 0,.int .i64 0,.int .i64 0,.int .i64 0]) (by kernel_rfl) true;rw [show dV U x=some (x,u) by unfold dV;rw [hU];rfl] at this;exact this
theorem Tryz.lJ:(Tryz.prog.info? 46).map (·.size)=some 3:=by kernel_rfl
theorem Tryz.yJ:(Tryz.prog.info? 80).map (·.size)=some 6:=by kernel_rfl
theorem oG {op:Oper} {a:Act} {w:World} (ty:TypeId) (x:Operand) (ho:op.op=.load ty x) (b o:Nat) (hx:a.eval x=.pointer (some ⟨b,o,none⟩)) (cs:List Value) (d:TypeDesc) (hc:w.rangeAt b o cs)
  (hu:Tryz.prog.underlying ty=some d) (hd:d.isRow=true) (hi:(Tryz.prog.info? ty).map (·.size)=some cs.length):(execOp a.eval op).run Tryz.prog w=.ok (.value (.agg cs.toArray)) w:=by
 unfold execOp;simp only [ho,hx,Instr.loadAt,Instr.sureAddr,Sem.run_bind,Sem.run_pure,Result.andThen_ok,run_loadVar_mid w b o ty cs d hc hu hd hi]
theorem Xd (o:Nat→Nat) (K n:Nat) (L:aT) (S:St) (x:Stp) (w:World) (h:aK w o K L S n) (ok:aU S) (hf:aP w o) (hx:iF x):
  Calls Tryz.prog 21 #[.pointer (some ⟨L.s,0,none⟩),jF x] w fun e w'=>e=.returned (.bool (S.U x).isSome)∧Fr No w w':=by
 have mixed:Tryz.prog.follows .mixedOrders=true:=by kernel_rfl
 have f0:Fr No w (w.alloc (.cells #[.int .i64 x.1,.int .i64 x.2.1,.int .i64 x.2.2] 46)):=(Fr.refl w).alloc _;have k0:=aO w (.cells #[.int .i64 x.1,.int .i64 x.2.1,.int .i64 x.2.2] 46);have F0:=lH f0;have H0:=lH (h.no ok hf f0);have HM:=lH (qY o K n L S _ H0.o);obtain ⟨v,lk⟩:=rU.look H0.o.uses x hx;have LK:=lH lk;have hvs:v.size=6:=(lk _ (Fr.refl _)).2.1;have HV:=lH (lk _ (Fr.refl _)).2;have c12:(w.alloc (.cells #[.int .i64 x.1,.int .i64 x.2.1,.int .i64 x.2.2] 46)).cell? ⟨L.s,12,none⟩=some (.map (some L.us)):=H0.o.cell 12;clear h ok hf hx lk f0 hvs;unfold jF at*;generalize (S.U x).isSome=r at*;go_enter Tryz.func21,Tryz.ntmps21;go_wp2_with fail;refine HM.o.mono ?_;rintro e w1 ⟨rfl,rfl⟩;go_wp2_with fail;generalize w.alloc (.cells #[.int .i64 x.1,.int .i64 x.2.1,.int .i64 x.2.2] 46)=w1 at*;generalize w.heap.size=b0 at*;have LD:Hid (∀W,Fr No w1 W→W.rangeAt b0 0 [.int .i64 x.1,.int .i64 x.2.1,.int .i64 x.2.2]):=lH (fun W f=>World.rangeAt_of_block (f.aC k0 id) 0 3);clear k0;refine Di mixed (Bv 5 #[.int .i64 0,.int .i64 0,.int .i64 0,.int .i64 0,.int .i64 0,.int .i64 0] 80 w1) 9 [10,11] (by kernel_rfl) (by kernel_rfl) (by kernel_rfl) (by kernel_rfl) (fun _ _ d _ _ h=>by cases d<;>exact h) ⟨(Fr.refl _).drew,.inl (by rfl)⟩ ?_;repeat (first
  | refine wY (by rfl) ?_
  | (refine xC (v:= ?_) (by rfl) (fun a v w=>Ie _ _ _ w1 _ (by decide) a v w) (by rfl) ?_ ?_
     rotate_left 1
     (intro W;go_simp;(try with_reducible rfl))
     simp only [pT,aB,lsS])
  | (refine vX (v:=.agg #[.int .i64 x.1,.int .i64 x.2.1,.int .i64 x.2.2]) (by rfl) (fun a v w=>Ie _ _ _ w1 _ (by decide) a v w) (by kernel_rfl) (by rfl) (fun W hS=>oG 46 (.tmp 3) (by rfl) b0 0 (by rfl) [.int .i64 x.1,.int .i64 x.2.1,.int .i64 x.2.2] _ (LD.o W hS.choose_spec.1) Tryz.underlying46 rfl Tryz.lJ) ?_
     simp only [pT,aB,lsS])
  | (refine vX (v:= ?_) (by rfl) (fun a v w=>Ie _ _ _ w1 _ (by decide) a v w) (by kernel_rfl) (by rfl) ?_ ?_
     rotate_left 1
     (intro W hS;obtain ⟨_,fS,_⟩:=hS;have e1:=fS.cell_of c12 id;have e3:=(LK.o W fS).1;go_simp;(try with_reducible rfl))
     simp only [pT,aB,lsS]))
 unfold jZ;refine Gz (by rfl) (by rfl) ?_;intro W hS;refine ⟨.pointer (some ⟨W.heap.size,0,none⟩),W.alloc (.cells #[.int .i64 0,.int .i64 0,.int .i64 0,.int .i64 0,.int .i64 0,.int .i64 0] 80),by go_simp,?_,?_⟩
 ·exact ⟨hS.1.alloc _,.inr ⟨W.heap.size,by rfl,hS.1.size,aO W _⟩⟩
 ·intro W2 hS2;obtain ⟨f2,h2⟩:=hS2;have hk2:W2.heap[W.heap.size]? =some (.cells #[.int .i64 0,.int .i64 0,.int .i64 0,.int .i64 0,.int .i64 0,.int .i64 0] 80 (0,0)):=by
   rcases h2 with h2|⟨g,e,_,hk⟩
   ·exact absurd (show Value.pointer (some ⟨W.heap.size,0,none⟩)=undef from h2) (by intro h;cases h)
   ·have e':Value.pointer (some ⟨W.heap.size,0,none⟩)=.pointer (some ⟨g,0,none⟩):=e;cases e';exact hk
  have KG:=lH hk2;have F2:=lH f2;have HG:Hid (w1.heap.size≤W.heap.size):=lH hS.1.size;clear h2 hk2 f2;simp only [List.filterMap_cons,List.filterMap_nil,List.getElem?_toArray,List.getElem?_cons_succ,List.getElem?_cons_zero,pT,aB,lsS];refine wpList_store_row rfl 80 (.tmp 5) (.tmp 17) rfl W.heap.size v rfl rfl 80 _ KG.o (by rw [HV.o.1];exact Tryz.yJ) HV.o.1.symm HV.o.2 ?_;go_wp2_with fail
  go_ret
  exact ⟨rfl,F0.o.trans (Fr.setRow F2.o (.inr HG.o) _) kp⟩
def qK (F:Nat→Option aG) (i:Nat):Int:=match F i with
 | some m=>m.size
 | none=>0
def rX (F:Nat→Option aG) (fp:Nat→Nat) (i:Nat):Value:=match F i with
 | some _=> .pointer (some ⟨fp i,0,none⟩)
 | none=> .pointer none
theorem jK.look {w:World} {o:Nat→Nat} {K fl n:Nat} {F:Nat→Option aG} (h:jK w o K fl n F) (i:Nat) (hi:i≤1000000):
  ∃fp,(∀w',Fr No w w'→(Instr.lookup 100 (.map (some fl)) (.int .i64 i) false).run Tryz.prog w'=.ok (rX F fp i) w')∧∀m,F i=some m→eH w o K i (fp i) m:=by
 obtain ⟨h1,fp,c,h2,h3,h4⟩:=h;refine ⟨fp,fun w' f=> ?_,fun m=>h4 i m⟩;have:=(h3.fr f id).look (i:Int) (show I64 _ by unfold I64;omega) (t:=100) (e:=63) Tryz.underlying100 (z:=.pointer none) (by kernel_rfl) false;have e:cO F fp (i:Int)=(F i).map (fun _=>fp i):=by unfold cO;rw [if_pos (by omega)];rfl
 rw [e] at this;unfold rX;cases hF:F i with
 | none=>rw [hF] at this;exact this
 | some m=>rw [hF] at this;exact this
theorem aAk {w:World} {i:Nat} {F:Nat→Option aG} {fp:Nat→Nat} (h:∀m,F i=some m→lY w (fp i) m):
  Calls Tryz.prog 34 #[rX F fp i] w fun e w'=>e=.returned (.int .i64 (qK F i))∧w'=w:=by
 unfold rX qK;cases hF:F i with
 | none=>exact aAT w
 | some m=>exact Bc (fp i) m w (h m hF)
theorem Ig {T:Tree} (ht:dD T) {l:List UInt8} (h:(lookOf T l).1=0):(lookOf T l).2.1≤128:=by
 obtain ⟨x,hx,_⟩:=look_ok ht h;exact (ht.lt hx).2
def pG (S:St) (r:aJ):Int×aF×St:=
 if (lookOf S.T r.path).1=0 then (0,⟨0,(lookOf S.T r.path).2.1,qK S.F (lookOf S.T r.path).2.1,0,0,(lookOf S.T r.path).2.2, [], []⟩,S) else ((lookOf S.T r.path).1,bD,S)
theorem aDH (o:Nat→Nat) (K n:Nat) (L:aT) (S:St) (r:aJ) (rv dv:Value) (w:World) (h:aK w o K L S n) (ok:aU S) (hf:aP w o) (hl:r.path.length≤1000000):
  Calls Tryz.prog 85 #[.pointer (some ⟨L.s,0,none⟩),.agg (r.cells rv dv)] w (aX w o K L n (pG S r)):=by
 have f0:Fr No w ((w.alloc (.cells (r.cells rv dv) 36)).alloc (.cells (bD.cells (.slice none 0 0) (.slice none 0 0)) 29)):=((Fr.refl w).alloc _).alloc _;have k0:((w.alloc (.cells (r.cells rv dv) 36)).alloc (.cells (bD.cells (.slice none 0 0) (.slice none 0 0)) 29)).heap[w.heap.size]? =some (.cells (r.cells rv dv) 36 (0,0)):=((Fr.refl (S:=No) _).alloc _).aC (aO w _) id;have k1:((w.alloc (.cells (r.cells rv dv) 36)).alloc (.cells (bD.cells (.slice none 0 0) (.slice none 0 0)) 29)).heap[w.heap.size+1]? =some (.cells (bD.cells (.slice none 0 0) (.slice none 0 0)) 29 (0,0)):=by
  have:=aO (w.alloc (.cells (r.cells rv dv) 36)) (.cells (bD.cells (.slice none 0 0) (.slice none 0 0)) 29);simpa using this
 have F0:=lH f0;have H0:=h.no ok hf f0;have G0:aP _ o:=(Step.no (C:=fun _=>False) hf f0).fresh;have HL:Hid (∀w',Fr No ((w.alloc (.cells (r.cells rv dv) 36)).alloc (.cells (bD.cells (.slice none 0 0) (.slice none 0 0)) 29)) w'→Calls Tryz.prog 72 #[.pointer (some ⟨L.tr,0,none⟩),.string (ba r.path)] w' fun e w''=>e=.returned (.tuple #[.int .i64 (lookOf S.T r.path).2.1,.bool (lookOf S.T r.path).2.2,.int .i64 (lookOf S.T r.path).1])∧Fr No w' w''):=
  lH (fun w' f=>vK o K L.tr S.T r.path w' hl ((H0.no ok G0 f).tree) ok.tree (Step.no (C:=fun _=>False) G0 f).fresh)
 have HR:Hid ((lookOf S.T r.path).1≠0→∀e w',e=.panicked (iW (lookOf S.T r.path).1)→Fr No w w'→aX w o K L n (pG S r) e w'):=lH (fun hne e w' he f=>by
  unfold pG;rw [if_neg hne];exact ⟨⟨o,(Step.no (C:=fun _=>False) hf f).mono (fun _ e=>e.elim),h.no ok hf f⟩,by rw [if_neg hne];exact he⟩)
 have HQ:Hid ((lookOf S.T r.path).1=0→∀e w',e=.returned (.agg #[.int .i64 0,.int .i64 (lookOf S.T r.path).2.1,.int .i64 (qK S.F (lookOf S.T r.path).2.1),.int .i64 0,.int .i64 0,.bool (lookOf S.T r.path).2.2,.slice none 0 0,.slice none 0 0])→Fr No w w'→aX w o K L n (pG S r) e w'):=lH (fun h0 e w' he f=>by
  unfold pG;rw [if_pos h0];exact ⟨⟨o,(Step.no (C:=fun _=>False) hf f).mono (fun _ e=>e.elim),h.no ok hf f⟩,by rw [if_pos rfl];exact ⟨_,he,_,_,rfl,.inl ⟨rfl,rfl⟩,.inl ⟨rfl,rfl⟩,Low.nil _,Low.nil _⟩⟩)
 generalize hQ:aX w o K L n (pG S r)=Q at*;clear hQ;have HLT:=lH (fun h0=>Ig ok.tree (l:=r.path) h0);generalize lookOf S.T r.path=X at*;obtain ⟨er,ino,d⟩:=X;dsimp only at HL HR HQ HLT;have HH:=lH H0;have HG:=lH G0;have HOK:=lH ok;clear H0 G0 f0 h ok hf hl;unfold aJ.cells bD aF.cells at*;go_enter Tryz.func85,Tryz.ntmps85;go_wp2_with fail;generalize (w.alloc (.cells #[.int .i64 r.c,.int .i64 r.l,.int .i64 r.q,.int .i64 r.kind,.string (ba r.path),.string (ba r.to),.bool r.dir,.bool r.wr,.bool r.cl,.int .i64 r.h,.int .i64 r.nx,.int .i64 r.sw,rv,dv] 36)).alloc (.cells #[.int .i64 0,.int .i64 0,.int .i64 0,.int .i64 0,.int .i64 0,.bool false,.slice none 0 0,.slice none 0 0] 29)=w0 at*;have B0:=lH (show w.heap.size≤w.heap.size from Nat.le_refl _);generalize hb0:w.heap.size=b0 at*;have c9:w0.cell? ⟨L.s,9,none⟩=some (.pointer (some ⟨L.tr,0,none⟩)):=HH.o.cell 9;have d4:w0.cell? ⟨b0,4,none⟩=some (.string (ba r.path)):=by rw [aA k0];rfl
 have K0:=lH k0;have K1:=lH k1;clear k0 k1;go_region_held3 (fun w'=>w'.cell? ⟨L.s,9,none⟩=some (.pointer (some ⟨L.tr,0,none⟩))∧w'.cell? ⟨b0,4,none⟩=some (.string (ba r.path))) (first|go_keep|(go_split_ands;refine ⟨?_,?_⟩<;>exact f1.cell_of (by assumption) id))
  ((go_at_call 72;refine (HL.o _ (Fr.refl _).drew).mono ?_;rintro e w1 ⟨rfl,f1⟩))
 have F1:=lH ((Fr.refl w0).drew.trans f1 kp);clear f1;cases hx:(er==0) with
 | false=>
  have hne:er≠0:=by simpa using hx
  go_wp2_with fail;refine (fJ _ _).mono ?_;rintro e w2 ⟨rfl,rfl⟩;go_wp2_with fail;exact ⟨rfl,HR.o hne _ _ rfl (F0.o.trans F1.o kp)⟩
 | true=>
  obtain rfl:er=0:=by simpa using hx
  have hno:∀w',Fr No w0 w'→aK w' o K L S n:=fun w' f=>HH.o.no HOK.o HG.o f;have h1:=hno w1 F1.o;have c7:w1.cell? ⟨L.s,11,none⟩=some (.map (some L.fl)):=h1.cell 11;obtain ⟨fp,lk,lf⟩:=h1.files.look ino (by have:=HLT.o rfl;omega);have lk1:=lk w1 (Fr.refl _);have HZ:=lH (aAk (w:=w1) (F:=S.F) (fp:=fp) (i:=ino) (fun m hm=>(lf m hm).reads));have KK:=lH (F1.o.aC K1.o id);clear lk lf h1 hno hx;have hbd:∀w':World,(Instr.build 29 #[(1,.int .i64 ino),(5,.bool d),(2,.int .i64 (qK S.F ino))]).run Tryz.prog w'=.ok (.agg #[.int .i64 0,.int .i64 ino,.int .i64 (qK S.F ino),.int .i64 0,.int .i64 0,.bool d,.slice none 0 0,.slice none 0 0]) w':=fun w'=>by kernel_rfl
  generalize qK S.F ino=z at*;have HOC:=lH (show (#[.int .i64 0,.int .i64 ino,.int .i64 z,.int .i64 0,.int .i64 0,.bool d,.slice none 0 0,.slice none 0 0]:Array Value).all (·.oneCell')=true from by simp [Value.oneCell']);go_wp2_with fail;refine (gU _ _).mono ?_;rintro e w2 ⟨rfl,rfl⟩;go_wp2_with fail;refine HZ.o.mono ?_;rintro e w3 ⟨rfl,rfl⟩;go_wp2_with (refine wpList_store_row rfl 29 (.tmp 4) (.tmp 32) rfl (b0+1) #[.int .i64 0,.int .i64 ino,.int .i64 z,.int .i64 0,.int .i64 0,.bool d,.slice none 0 0,.slice none 0 0] rfl rfl 29 _ KK.o Tryz.size29 rfl HOC.o ?_);have KF:=dS (cs':= #[.int .i64 0,.int .i64 ino,.int .i64 z,.int .i64 0,.int .i64 0,.bool d,.slice none 0 0,.slice none 0 0]) KK.o;exact bodyPost_ret (v:=.agg #[.int .i64 0,.int .i64 ino,.int .i64 z,.int .i64 0,.int .i64 0,.bool d,.slice none 0 0,.slice none 0 0]) (results_cell_row rfl _ _ (b0+1) 29 _ (0,0) _ rfl KF Tryz.underlying29 rfl Tryz.size29) rfl
   (HQ.o trivial _ _ rfl (Fr.setRow (F0.o.trans F1.o kp) (.inr (by omega)) _))
open Go.WideElems (Fit rd rg pl rd_val rd_key rg_of rd_mk other_key)
open Go.MapKept Go.ChangeMaps
variable {K V:Type} {E:Enc K V} {w w':World} {b c r:Nat} {m:K→Option V} {left:K→Bool} {cnt:Nat}
theorem fG.aBc [DecidableEq K] (h:fG E w b r c m left cnt) (x:K) (y:V) (hx:E.good x) (hm:(m x).isSome=true) (hy:E.fine y) (hc:c<4611686018427387904) {t e:TypeId} (ht:Tryz.prog.underlying t=some (.map E.k e)) {zv:Value} (hzv:(zeroValue e).run Tryz.prog w=.ok zv w):
  ∃w',(Instr.mapUpdate t (.map (some b)) (E.ek x) (E.ev y)).run Tryz.prog w=.ok () w'∧fG E w' b r c (fun z=>if z=x then some y else m z) left cnt∧Fr (· =b) w w':=by
 obtain ⟨w',hrun,hma,hfr⟩:=h.map.put x y hx hy hc ht;rw [if_pos hm] at hma;refine ⟨w',hrun,?_,hfr⟩;have hne:=h.ne;obtain ⟨D,lf,⟨es,clock,since,seen,c0,hb,F,hs,rfl,hr,hold,hcnt,hl1,hl2,hsc,hsk⟩,hz,T,hl⟩:=h;obtain ⟨D',⟨es',clock',hb',F',hs',rfl⟩,hz',T'⟩:=hma;have hkey:=E.key x hx;have hkeys:∀e∈es.toList,∃l,keyOf Tryz.prog E.k e.key=some l:=F.keys;rcases E.law.find w hkey es.toList hkeys with ⟨h1,h2⟩|⟨j,e0,h1,h2,h3⟩
 ·exfalso;obtain ⟨y0,hy0⟩:=Option.isSome_iff_exists.1 hm;obtain ⟨_,_,hh,hat⟩:=T.some x y0 hy0;rcases Maps.fit_look false E.law ht hzv hb F hkey with ⟨_,_,hat2⟩|⟨e0,y1,he0,hk0,_⟩
  ·rw [Maps.has_false_of_atKey hat2] at hh;cases hh
  ·exact h2 e0 he0 hk0
 ·have hj:es[j]? =some e0:=by simpa using h2
  have hrun2:(Instr.mapUpdate t (.map (some b)) (E.ek x) (E.ev y)).run Tryz.prog w=.ok () (setBlock w b (.map (es.modify j (fun e'=>{e' with key:=E.ek x,val:=E.ev y})) clock)):=by
   simp [Instr.mapUpdate,run_underlying ht,MapKept.run_getObj_map hb,E.law.check w false hkey,h1,hj,h3,E.law.stays w hkey,MapKept.run_setObj_map _ hb,Result.andThen,setBlock]
  rw [hrun] at hrun2;have hw:w'=setBlock w b (.map (es.modify j (fun e'=>{e' with key:=E.ek x,val:=E.ev y})) clock):=by
   injection hrun2
  have hbb:w'.heap[b]? =some (.map (es.modify j (fun e'=>{e' with key:=E.ek x,val:=E.ev y})) clock):=by rw [hw];exact heap_setBlock_same hb _
  rw [hbb] at hb';simp only [Option.some.injEq,Obj.map.injEq] at hb';obtain ⟨rfl,rfl⟩:=hb';have hlist:(es.modify j (fun e'=>{e' with key:=E.ek x,val:=E.ev y})).toList=es.toList.set j {e0 with key:=E.ek x,val:=E.ev y}:=by rw [Array.toList_modify,modify_eq_set _ _ _ _ h2]
  have hlit:(rg Tryz.prog E.k E.R {e0 with key:=E.ek x,val:=E.ev y}).1=(rg Tryz.prog E.k E.R e0).1:=by
   have he0:e0∈es.toList:=List.mem_of_getElem? h2;obtain ⟨q,hq⟩:=F.reads e0 he0;rw [rg_of hq,rg_of (rd_mk (born:=e0.born) hkey (E.read y hy))];have:=rd_key hq;rw [h3,hkey] at this;exact Option.some.inj this
  have who:∀z∈es.toList.set j {e0 with key:=E.ek x,val:=E.ev y},∃z0∈es.toList,z.born=z0.born∧(rg Tryz.prog E.k E.R z).1=(rg Tryz.prog E.k E.R z0).1:=by
   intro z hz;obtain ⟨i,hi,ez⟩:=List.getElem_of_mem hz;rw [List.getElem_set] at ez;split at ez
   ·subst ez;exact ⟨e0,List.mem_of_getElem? h2,rfl,hlit⟩
   ·subst ez;exact ⟨_,List.getElem_mem (by simpa using hi),rfl,rfl⟩
  have who2:∀z0∈es.toList,∃z∈es.toList.set j {e0 with key:=E.ek x,val:=E.ev y},(rg Tryz.prog E.k E.R z).1=(rg Tryz.prog E.k E.R z0).1:=by
   intro z0 hz0;obtain ⟨i,hi,ez⟩:=List.getElem_of_mem hz0;by_cases hij:j=i
   ·subst hij;refine ⟨_,List.mem_iff_getElem.2 ⟨j,by simpa using hi,rfl⟩,?_⟩;rw [List.getElem_set_self,hlit];rw [List.getElem?_eq_getElem hi] at h2;rw [← ez,Option.some.inj h2]
   ·refine ⟨_,List.mem_iff_getElem.2 ⟨i,by simpa using hi,rfl⟩,?_⟩;rw [List.getElem_set_ne hij,ez]
  have hcount:∀a:Array MapEntry,(leftOf a seen).size=(a.toList.filter fun e=> !seen.contains e.born).length:=fun a=>by
   unfold leftOf;rw [← Array.toList_filter,Array.length_toList]
  have hsame:∀(l:List MapEntry) (j:Nat) (z z':MapEntry),l[j]? =some z→z'.born=z.born→((l.set j z').filter fun e=> !seen.contains e.born).length=(l.filter fun e=> !seen.contains e.born).length:=by
   intro l;induction l with
   | nil=>intro j z z' h;simp at h
   | cons a r ih=>
    intro j z z' h hb;cases j with
    | zero=>
     simp only [List.getElem?_cons_zero,Option.some.injEq] at h;subst h;simp only [aB,List.filter_cons,hb];split<;>rfl
    | succ j=>
     simp only [List.getElem?_cons_succ] at h;have:=ih j z z' h hb;simp only [lsS,List.filter_cons];split
     ·simp only [List.length_cons,this]
     ·exact this
  refine ⟨_,lf,⟨_,_,since,seen,c0,hbb,F',hs',rfl,hfr.aC hr (fun e=>hne e),?_,?_,?_,?_,hsc,hsk⟩,hz',T',hl⟩
  ·intro z hz;rw [hlist] at hz;obtain ⟨z0,hz0,e1,_⟩:=who z hz;rw [e1];exact hold z0 hz0
  ·rw [hcount,hlist,hsame es.toList j e0 {e0 with key:=E.ek x,val:=E.ev y} h2 rfl,← hcount];exact hcnt
  ·intro z hz;rw [hlist] at hz;obtain ⟨z0,hz0,e1,e2⟩:=who z hz;rw [e1,e2];exact hl1 z0 hz0
  ·intro kl hkl;obtain ⟨z0,hz0,rfl⟩:=hl2 kl hkl;obtain ⟨z,hz,e1⟩:=who2 z0 hz0;exact ⟨z,by rw [hlist];exact hz,e1⟩
theorem fG.Ym [DecidableEq K] (h:fG E w b r c m left cnt) (x:K) (hx:E.good x) {t e:TypeId} (ht:Tryz.prog.underlying t=some (.map E.k e)) (ty:TypeId):
  ∃w' cnt',(Builtin.delete_ #[t,E.k] ty #[.map (some b),E.ek x]).run Tryz.prog w=.ok (.tuple #[]) w'∧fG E w' b r (if (m x).isSome then c - 1 else c) (fun z=>if z=x then none else m z) (fun z=>left z&&decide (z≠x)) cnt'∧cnt'≤cnt∧Fr (· =b) w w':=by
 obtain ⟨w',hrun,hma,hfr⟩:=h.map.del x hx ht ty;obtain ⟨D,lf,h1,hz,T,hl⟩:=h;obtain ⟨w2,cnt',hrun2,hr2,hle,_⟩:=h1.drop E.law ht (E.key x hx) ty;rw [hrun] at hrun2;have hw:w'=w2:=by injection hrun2
 subst hw;obtain ⟨D',ho',hz',T'⟩:=hma;have hD:D'=D.del (E.lk x):=by
  obtain ⟨es1,cl1,b1,_,_,e1⟩:=ho';obtain ⟨es2,cl2,b2,_,_,e2⟩:=hr2.owns;rw [b1] at b2;simp only [Option.some.injEq,Obj.map.injEq] at b2;rw [e1,e2,b2.1]
 subst hD;refine ⟨w',cnt',hrun,⟨_,fun z=>lf z&& !z.sameKey (E.lk x),?_,hz',T',fun z hz2=> ?_⟩,hle,hfr⟩
 ·obtain ⟨es2,cl2,since,seen,c0,b2,q1,q2,q3⟩:=hr2;obtain ⟨es1,cl1,b1,_,hs1,_⟩:=ho';rw [b1] at b2;simp only [Option.some.injEq,Obj.map.injEq] at b2;obtain ⟨rfl,rfl⟩:=b2;exact ⟨_,_,since,seen,c0,b1,q1,hs1,q3⟩
 ·show (lf (E.lk z)&& !(E.lk z).sameKey (E.lk x))=(left z&&decide (z≠x));rw [hl z hz2];by_cases e:z=x
  ·subst e;simp [WideAt.sameKey_self (xW E hx)]
  ·simp [e,Maps.sameKey_ne (fun e'=>e (E.wG hz2 hx e'))]
open Go.WideElems (Fit findIdx_born findIdx_arr modify_last set_self)
open Go.MapKept Go.ChangeMaps
variable {K V:Type} {E:Enc K V} {w w':World} {b c:Nat} {m:K→Option V}
structure aBw [DecidableEq K] (E:Enc K V) (t:TypeId) (w:World) (b c:Nat) (m:K→Option V) (x:K) (y0:V) (st:Nat) (w1:World):Prop where
 run:(Instr.mapEntry t (.map (some b)) (E.ek x)).run Tryz.prog w=.ok (.tuple #[E.ev y0,goInt st]) w1
 again:(Instr.mapEntry t (.map (some b)) (E.ek x)).run Tryz.prog w1=.ok (.tuple #[E.ev y0,goInt st]) w1
 fr:Fr (· =b) w w1
 size:w1.heap.size=w.heap.size
 map1:MapAt E w1 b (if (m x).isSome then c else c+1) (fun z=>if z=x then some y0 else m z)
 store:∀y,E.fine y→∃w2,(Instr.entryStore t (.map (some b)) (goInt st) (E.ev y)).run Tryz.prog w1=.ok () w2∧MapAt E w2 b (if (m x).isSome then c else c+1) (fun z=>if z=x then some y else m z)∧Fr (· =b) w1 w2∧w2.heap.size=w1.heap.size
theorem MapAt.entry [DecidableEq K] (h:MapAt E w b c m) (x:K) (hx:E.good x) (hc:c<4611686018427387904) {t e:TypeId} (ht:Tryz.prog.underlying t=some (.map E.k e)) {z0:V} (hz0:E.fine z0) (hz:∀u:World,(zeroValue e).run Tryz.prog u=.ok (E.ev z0) u):
  ∃st w1,aBw E t w b c m x ((m x).getD z0) st w1:=by
 have hkey:=E.key x hx;have hfy:E.fine ((m x).getD z0):=by
  cases hm:m x with
  | none=>exact hz0
  | some y=>exact (h.good hm).2
 obtain ⟨wp,hput,hmp,hfp⟩:=h.put x ((m x).getD z0) hx hfy hc ht;have hput2:∀y,E.fine y→∃w2,(Instr.mapUpdate t (.map (some b)) (E.ek x) (E.ev y)).run Tryz.prog w=.ok () w2∧MapAt E w2 b (if (m x).isSome then c else c+1) (fun z=>if z=x then some y else m z)∧Fr (· =b) w w2:=fun y hy=>h.put x y hx hy hc ht;have hlk:=h.look x hx ht (hz w) false;obtain ⟨D,⟨es,clock,hb,F,hs,rfl⟩,hsz,T⟩:=h;obtain ⟨s1,s2,_⟩:=F.stamped;rcases E.law.find w hkey es.toList F.keys with ⟨h1,h2⟩|⟨j,e0,h1,h2,h3⟩
 ·have hnew:(Instr.lookup t (.map (some b)) (E.ek x) false).run Tryz.prog w=.ok (E.ev z0) w:=by
   simp [Instr.lookup,run_underlying ht,MapKept.run_getObj_map hb,E.law.check w _ hkey,h1,hz,Result.andThen]
  have hy0:E.ev ((m x).getD z0)=E.ev z0:=by
   rw [hlk] at hnew;cases hm:m x with
   | none=>rfl
   | some y=>
    rw [hm] at hnew
    injection hnew
  have hw1:wp=setBlock w b (.map (es.push ⟨E.ek x,E.ev z0,clock⟩) (clock+1)):=by
   have:(Instr.mapUpdate t (.map (some b)) (E.ek x) (E.ev z0)).run Tryz.prog w=.ok () (setBlock w b (.map (es.push ⟨E.ek x,E.ev z0,clock⟩) (clock+1))):=by
    simp [Instr.mapUpdate,run_underlying ht,MapKept.run_getObj_map hb,E.law.check w false hkey,h1,MapKept.run_setObj_map _ hb,Result.andThen,setBlock]
   rw [hy0] at hput;rw [hput] at this
   injection this
  have hb1:wp.heap[b]? =some (.map (es.push ⟨E.ek x,E.ev z0,clock⟩) (clock+1)):=by rw [hw1];exact heap_setBlock_same hb _
  have hkeys1:∀e∈(es.push ⟨E.ek x,E.ev z0,clock⟩).toList,∃l,keyOf Tryz.prog E.k e.key=some l:=fun e he=>by
   rw [Array.toList_push,List.mem_append,List.mem_singleton] at he;rcases he with he|rfl
   ·exact F.keys e he
   ·exact ⟨_,hkey⟩
  have hidx:(es.push ⟨E.ek x,E.ev z0,clock⟩).findIdx? (fun e=>((e.born:Nat):Int)==((clock:Nat):Int))=some es.size:=by
   rw [findIdx_arr];exact findIdx_born (l:=(es.push ⟨E.ek x,E.ev z0,clock⟩).toList) (j:=es.size) (e0:=⟨E.ek x,E.ev z0,clock⟩) (by
    simp only [Array.toList_push,List.map_append,List.map_cons,List.map_nil];refine List.nodup_append.2 ⟨s2,by simp,fun a ha c hc e1=> ?_⟩;simp only [List.mem_singleton] at hc;obtain ⟨y,hy,rfl⟩:=List.mem_map.1 ha;have:=s1 y hy;omega) (by simp)
  refine ⟨clock,wp,?_,?_,hfp,by rw [hw1];simp [setBlock],hmp,fun y hy=> ?_⟩
  ·rw [hw1,hy0];simp [Instr.mapEntry,run_underlying ht,MapKept.run_getObj_map hb,E.law.check w false hkey,h1,hz,MapKept.run_setObj_map _ hb,Result.andThen,setBlock]
  ·rcases E.law.find wp hkey (es.push ⟨E.ek x,E.ev z0,clock⟩).toList hkeys1 with ⟨_,g2⟩|⟨j,e0,g1,g2,g3⟩
   ·exact absurd rfl (g2 ⟨E.ek x,E.ev z0,clock⟩ (by simp))
   ·have hg1:=g1;rw [Array.toList_push] at hg1;have hj:e0=⟨E.ek x,E.ev z0,clock⟩:=by
     have hm:=List.mem_of_getElem? g2;rw [Array.toList_push,List.mem_append,List.mem_singleton] at hm;rcases hm with hm|hm
     ·exact absurd g3 (h2 e0 hm)
     ·exact hm
    have hjj:(es.push ⟨E.ek x,E.ev z0,clock⟩)[j]? =some e0:=(by rw [← Array.getElem?_toList];exact g2)
    have hsame:(es.push ⟨E.ek x,E.ev z0,clock⟩).modify j (fun e=>{e with key:=E.ek x})=es.push ⟨E.ek x,E.ev z0,clock⟩:=by
     apply Array.ext';rw [Array.toList_modify,modify_eq_set _ _ _ _ g2];have:({e0 with key:=E.ek x}:MapEntry)=e0:=(by rw [← g3])
     rw [this];exact set_self _ _ _ g2
    have hval:e0.val=E.ev z0:=(by rw [hj])
    have hborn:e0.born=clock:=(by rw [hj])
    have hback:setBlock wp b (.map (es.push ⟨E.ek x,E.ev z0,clock⟩) (clock+1))=wp:=by
     rw [hw1];simp [setBlock]
    have:(Instr.mapEntry t (.map (some b)) (E.ek x)).run Tryz.prog wp=.ok (.tuple #[e0.val,goInt e0.born]) (setBlock wp b (.map (es.push ⟨E.ek x,E.ev z0,clock⟩) (clock+1))):=by
     simp [Instr.mapEntry,run_underlying ht,MapKept.run_getObj_map hb1,E.law.check wp false hkey,hg1,hjj,g3,E.law.stays wp hkey,hsame,MapKept.run_setObj_map _ hb1,Result.andThen,setBlock]
    rw [this,hval,hborn,hback,hy0]
  ·obtain ⟨w2,hr2,hm2,f2⟩:=hput2 y hy;have hmod:(es.push ⟨E.ek x,E.ev z0,clock⟩).modify es.size (fun e=>{e with val:=E.ev y})=es.push ⟨E.ek x,E.ev y,clock⟩:=by
    apply Array.ext';rw [Array.toList_modify,Array.toList_push,Array.toList_push,← Array.length_toList,modify_last]
   have hw2:w2=setBlock w b (.map (es.push ⟨E.ek x,E.ev y,clock⟩) (clock+1)):=by
    have:(Instr.mapUpdate t (.map (some b)) (E.ek x) (E.ev y)).run Tryz.prog w=.ok () (setBlock w b (.map (es.push ⟨E.ek x,E.ev y,clock⟩) (clock+1))):=by
     simp [Instr.mapUpdate,run_underlying ht,MapKept.run_getObj_map hb,E.law.check w false hkey,h1,MapKept.run_setObj_map _ hb,Result.andThen,setBlock]
    rw [hr2] at this
    injection this
   have hst:(Instr.entryStore t (.map (some b)) (goInt clock) (E.ev y)).run Tryz.prog wp=.ok () (setBlock wp b (.map (es.push ⟨E.ek x,E.ev y,clock⟩) (clock+1))):=by
    simp [Instr.entryStore,MapKept.run_getObj_map hb1,asInt,asIntOf,goInt,hidx,hmod,MapKept.run_setObj_map _ hb1,Result.andThen,setBlock]
   have he:setBlock wp b (.map (es.push ⟨E.ek x,E.ev y,clock⟩) (clock+1))=w2:=by
    rw [hw2,hw1];simp [setBlock]
   rw [he] at hst;refine ⟨w2,hst,?_,?_,by rw [hw2,hw1];simp [setBlock]⟩
   ·exact hm2
   ·refine ⟨f2.os.trans hfp.os.symm,f2.tape.trans hfp.tape.symm,f2.output.trans hfp.output.symm,by rw [hw2,hw1];simp [setBlock],fun k hk hn=> ?_⟩;have hk0:k<w.heap.size:=(by rw [hw1] at hk;simpa [setBlock] using hk)
    rw [f2.block k hk0 hn,hfp.block k hk0 hn]
 ·have hj:es[j]? =some e0:=by simpa using h2
  have hsame:es.modify j (fun e=>{e with key:=E.ek x})=es:=by
   apply Array.ext';rw [Array.toList_modify,modify_eq_set _ _ _ _ h2];have:({e0 with key:=E.ek x}:MapEntry)=e0:=(by rw [← h3])
   rw [this];exact set_self _ _ _ h2
  have hold:(Instr.lookup t (.map (some b)) (E.ek x) false).run Tryz.prog w=.ok e0.val w:=by
   simp [Instr.lookup,run_underlying ht,MapKept.run_getObj_map hb,E.law.check w _ hkey,h1,Result.andThen]
  have hy0:E.ev ((m x).getD z0)=e0.val:=by
   rw [hlk] at hold;cases hm:m x with
   | none=>
    rw [hm] at hold;have hn:=T.none x hx hm;rcases Maps.fit_look false E.law ht (hz w) hb F hkey with ⟨hrun,_,_⟩|⟨e1,y,_,_,_,_,hat,_⟩
    ·injection hold
    ·rw [Maps.has_true_of_atKey hat] at hn;cases hn
   | some y=>
    rw [hm] at hold
    injection hold
  have hback:setBlock w b (.map es clock)=w:=by
   have hlt:b<w.heap.size:=lt_of_block hb;have h4:w.heap[b]=.map es clock:=(by rw [Array.getElem?_eq_getElem hlt] at hb;exact Option.some.inj hb)
   unfold setBlock;have:w.heap.setIfInBounds b (.map es clock)=w.heap:=by
    apply Array.ext_getElem?;intro i;by_cases e:b=i
    ·subst e;rw [Array.getElem?_setIfInBounds_self_of_lt hlt,hb]
    ·rw [Array.getElem?_setIfInBounds_ne e]
   rw [this]
  have hrun:(Instr.mapEntry t (.map (some b)) (E.ek x)).run Tryz.prog w=.ok (.tuple #[e0.val,goInt e0.born]) w:=by
   have:(Instr.mapEntry t (.map (some b)) (E.ek x)).run Tryz.prog w=.ok (.tuple #[e0.val,goInt e0.born]) (setBlock w b (.map es clock)):=by
    simp [Instr.mapEntry,run_underlying ht,MapKept.run_getObj_map hb,E.law.check w false hkey,h1,hj,h3,E.law.stays w hkey,hsame,MapKept.run_setObj_map _ hb,Result.andThen,setBlock]
   rw [this,hback]
  have hms:(m x).isSome=true:=by
   cases hm:m x with
   | some y=>rfl
   | none=>
    have hn:=T.none x hx hm;rcases Maps.fit_look false E.law ht (hz w) hb F hkey with ⟨_,h8,_⟩|⟨e1,y,_,_,_,_,hat,_⟩
    ·exact absurd h3 (h8 e0 (List.mem_of_getElem? h2))
    ·rw [Maps.has_true_of_atKey hat] at hn;cases hn
  refine ⟨e0.born,w,by rw [hy0];exact hrun,by rw [hy0];exact hrun,Fr.refl w,rfl,?_,fun y hy=> ?_⟩
  ·rw [if_pos hms];have e1:(fun z=>if z=x then some ((m x).getD z0) else m z)=m:=by
    funext z;by_cases e:z=x
    ·subst e;obtain ⟨y,hy⟩:=Option.isSome_iff_exists.1 hms;simp [hy]
    ·simp [e]
   rw [e1];exact ⟨_,⟨es,clock,hb,F,hs,rfl⟩,hsz,T⟩
  ·obtain ⟨w2,hr2,hm2,f2⟩:=hput2 y hy;have hidx:es.findIdx? (fun e=>((e.born:Nat):Int)==((e0.born:Nat):Int))=some j:=by
    rw [findIdx_arr];exact findIdx_born s2 h2
   have hmod:es.modify j (fun e=>{e with val:=E.ev y})=es.modify j (fun e'=>{e' with key:=E.ek x,val:=E.ev y}):=by
    apply Array.ext';rw [Array.toList_modify,Array.toList_modify,modify_eq_set _ _ _ _ h2,modify_eq_set _ _ _ _ h2,← h3]
   have hw2:w2=setBlock w b (.map (es.modify j (fun e'=>{e' with key:=E.ek x,val:=E.ev y})) clock):=by
    have:(Instr.mapUpdate t (.map (some b)) (E.ek x) (E.ev y)).run Tryz.prog w=.ok () (setBlock w b (.map (es.modify j (fun e'=>{e' with key:=E.ek x,val:=E.ev y})) clock)):=by
     simp [Instr.mapUpdate,run_underlying ht,MapKept.run_getObj_map hb,E.law.check w false hkey,h1,hj,h3,E.law.stays w hkey,MapKept.run_setObj_map _ hb,Result.andThen,setBlock]
    rw [hr2] at this
    injection this
   have hst:(Instr.entryStore t (.map (some b)) (goInt e0.born) (E.ev y)).run Tryz.prog w=.ok () w2:=by
    rw [hw2];simp [Instr.entryStore,MapKept.run_getObj_map hb,asInt,asIntOf,goInt,hidx,hmod,MapKept.run_setObj_map _ hb,Result.andThen,setBlock]
   refine ⟨w2,hst,?_,f2,by rw [hw2];simp [setBlock]⟩;exact hm2
def iK (p:Pt):Stp:=(p.c,p.l,p.n)
def fZ (L:List Pt) (x:Stp):Int:=(L.map fun p=>if iK p=x then p.z else 0).sum
theorem aAW (L:List Pt) (p:Pt) (x:Stp):fZ (L++ [p]) x=fZ L x+if iK p=x then p.z else 0:=by
 simp [fZ]
theorem Om {L:List Pt} (h:∀p∈L,0≤p.z∧p.z≤64) (x:Stp):0≤fZ L x∧fZ L x≤64*L.length:=by
 induction L with
 | nil=>exact ⟨Int.le_refl _,Int.le_refl _⟩
 | cons p r ih=>
  obtain ⟨h1,h2⟩:=ih (fun q hq=>h q (List.mem_cons_of_mem _ hq));obtain ⟨h3,h4⟩:=h p (List.mem_cons_self ..);have e:fZ (p::r) x=(if iK p=x then p.z else 0)+fZ r x:=by simp [fZ]
  rw [e,List.length_cons];split<;>omega
theorem aCP {l:List Nat} {f:Nat→Int} {b:Int} (h:∀i∈l,0≤f i∧f i≤b):0≤(l.map f).sum∧(l.map f).sum≤b*l.length:=by
 induction l with
 | nil=>simp
 | cons i r ih=>
  obtain ⟨h1,h2⟩:=ih (fun j hj=>h j (List.mem_cons_of_mem _ hj));obtain ⟨h3,h4⟩:=h i (List.mem_cons_self ..);rw [List.map_cons,List.sum_cons,List.length_cons];have:b*((r.length+1:Nat):Int)=b*(r.length:Int)+b:=by
   rw [Int.natCast_add,Int.mul_add];simp
  omega
theorem aDG (n j:Nat) (f g:Nat→Int) (hj:j<n) (h:∀i,i≠j→f i=g i):((List.range n).map f).sum=((List.range n).map g).sum+(f j - g j):=by
 induction n with
 | zero=>omega
 | succ n ih=>
  rw [List.range_succ,List.map_append,List.sum_append,List.map_append,List.sum_append];simp only [List.map_cons,List.map_nil,List.sum_cons,List.sum_nil];by_cases e:j=n
  ·subst e;have:(List.range j).map f=(List.range j).map g:=List.map_congr_left (fun i hi=>h i (by have:=List.mem_range.1 hi;omega));rw [this];omega
  ·rw [ih (by omega),h n (fun e'=>e e'.symm)];omega
def jC (F:Nat→Option aG) (left:Int→Bool) (x:Stp):Int:=((List.range 129).map fun i=>match F i with
 | some m=>if left (i:Int)=true then 0 else fZ (ptrs m) x
 | none=>0).sum
def jT (F:Nat→Option aG) (x:Stp):Int:=jC F (fun _=>false) x
def jP (F:Nat→Option aG):Prop:=∀i m,F i=some m→∀p∈m.l,dI p
theorem pW {p:Pt} (h:dI p):iF (iK p)∧0≤p.z∧p.z≤64:=by
 unfold iF iK I64;rcases h with rfl|h
 ·decide
 ·dsimp only;omega
def Short (F:Nat→Option aG):Prop:=∀i m,F i=some m→∀p∈m.l,0≤p.z∧p.z≤64
theorem jP.short {F:Nat→Option aG} (h:jP F):Short F:=fun i m hi p hp=>(pW (h i m hi p hp)).2
theorem Ob {F:Nat→Option aG} (h:Short F) {i:Nat} {m:aG} (hi:F i=some m):∀p∈ptrs m,0≤p.z∧p.z≤64:=fun p hp=>h i m hi p (List.mem_filter.1 hp).1
theorem Gs {m:aG} (h:fU m):(ptrs m).length≤64:=Nat.le_trans (List.length_filter_le _ _) (by
 obtain ⟨h1,h2⟩:=h;rw [h2];unfold dY;omega)
theorem aCr {F:Nat→Option aG} (h:Short F) (hl:∀i m,F i=some m→fU m) (left:Int→Bool) (x:Stp):0≤jC F left x∧jC F left x≤528384:=by
 have:=aCP (l:=List.range 129) (b:=4096) (f:=fun i=>match F i with
  | some m=>if left (i:Int)=true then 0 else fZ (ptrs m) x
  | none=>0) (fun i _=>by
   cases hi:F i with
   | none=>simp
   | some m=>
    dsimp only;split
    ·omega
    ·have h1:=Om (Ob h hi) x;have h2:=Gs (hl i m hi);omega)
 rw [List.length_range] at this;unfold jC;omega
theorem aBN {F:Nat→Option aG} {left:Int→Bool} (h:∀i m,F i=some m→left (i:Int)=true) (x:Stp):jC F left x=0:=by
 have e:(List.range 129).map (fun i=>match F i with
  | some m=>if left (i:Int)=true then 0 else fZ (ptrs m) x
  | none=>0)=(List.range 129).map (fun _=>(0:Int)):=List.map_congr_left (fun i _=>by
   cases hi:F i with
   | none=>rfl
   | some m=>dsimp only;rw [if_pos (h i m hi)])
 unfold jC;rw [e];generalize List.range 129=l;induction l with
 | nil=>rfl
 | cons a r ih=>rw [List.map_cons,List.sum_cons,ih];rfl
theorem aCY {F:Nat→Option aG} {left:Int→Bool} {i:Nat} {m:aG} (hi:F i=some m) (hlt:i<129) (hl:left (i:Int)=true) (x:Stp):
  jC F (fun z=>left z&&decide (z≠(i:Int))) x=jC F left x+fZ (ptrs m) x:=by
 unfold jC;rw [aDG 129 i _ (fun j=>match F j with
  | some m=>if left (j:Int)=true then 0 else fZ (ptrs m) x
  | none=>0) hlt (fun j hj=>by
   have e:decide ((j:Int)≠(i:Int))=true:=decide_eq_true (by omega);cases F j with
   | none=>rfl
   | some m'=>simp only [e,Bool.and_true])]
 rw [hi];simp [hl]
theorem Vj {F:Nat→Option aG} {left:Int→Bool} (h:∀i:Nat,i<129→left (i:Int)=false) (x:Stp):jC F left x=jT F x:=by
 unfold jT jC;refine congrArg List.sum (List.map_congr_left (fun i hi=> ?_));cases F i with
 | none=>rfl
 | some m=>dsimp only;rw [h i (List.mem_range.1 hi)]
def iD (F:Nat→Option aG) (U:Stp→Option Us):Stp→Option Us:=fun x=>match U x with
 | none=>none
 | some u=>if jT F x=0 then none else some (u.1,jT F x,u.2.2)
end Go.Proofs.YtlcojhddnpmgmaaGreat
namespace Go.Proofs.YtlcojhddnpmgmaaGreat
open Go Go.RowKit
section
variable {P:Program} {ops:Array Oper} {Q:Exit→Act→World→Prop} {md:Region.Mode} {S:Bool→World→Prop} {T:Nat→Bool} {k:Nat}
theorem qX {listed:Array Bool} {k i:Nat} (h:k≠i):(listed.setIfInBounds i true).getD k true=listed.getD k true:=getD_set_ne true (Ne.symm h)
abbrev pV (P:Program) (ops:Array Oper) (S:Bool→World→Prop) (o:Oper) (v:Value) (a:Act):Prop:=∀b,l7 P ops (S b) o v a
theorem pV.of_same {o:Oper} {v:Value} {a a':Act} (hy:pV P ops S o v a) (he:execOp a'.eval o=execOp a.eval o)
  (hw:Region.wanted o (yielded ops a'.tmps)=Region.wanted o (yielded ops a.tmps)):pV P ops S o v a':=fun b=>(hy b).of_same he hw
theorem Yo {j:Nat} {oi oj:Oper} {v:Value} (hj:ops[j]? =some oj) (hap:oi.apart ops oj=true)
  (hsi:∀cs b,oi.op≠ .select cs b) (hsj:∀cs b,oj.op≠ .select cs b)
  (hQ:∀c a w,Q (.panic c) (a.put oi.dst v) w→Q (.panic c) a w) {K:Act→World→Prop} {a:Act} {w:World}
  (hy:pV P ops S oi v a) (h:wpOp P ops Q j K (a.put oi.dst v) w):
  wpOp P ops Q j (fun a' w'=>pV P ops S oi v a'∧K (a'.put oi.dst v) w') a w:=by
 obtain ⟨h1,h2,h3⟩:=Oper.apart_spec hap;have keep:∀(a:Act),pV P ops S oi v a→∀u,pV P ops S oi v (a.put oj.dst u):=fun a hy u=>
  hy.of_same (execOp_put oi hsi a oj.dst u h3) (wanted_put oi a oj.dst u h3)
 have keepD:∀d,pV P ops S oi v {a with defers:=d::a.defers}:=fun d=>hy.of_same rfl rfl;unfold wpOp at*;simp only [hj] at*;rw [wanted_put oj a oi.dst v h1] at h;split
 ·rename_i hw
  simp only [hw,if_true] at h;rcases h with h|⟨hasks,hlets⟩
  case inr=>exact .inr ⟨by unfold Oper.asks at*;rw [execOp_put oj hsj a oi.dst v h1] at hasks;exact hasks,hlets⟩
  refine .inl ?_;unfold Oper.wp at*;rw [execOp_put oj hsj a oi.dst v h1] at h;generalize (execOp a.eval oj).run P w=r at*;cases r with
  | ok n w'=>
   cases n<;>simp only [Oper.upon] at h ⊢
   case value u=>exact ⟨keep a hy u,by rw [← Act.put_comm a v u h2];exact h⟩
   case skip=>exact ⟨keep a hy _,by rw [← Act.put_comm a v undef h2];exact h⟩
   case defer d=>
    refine ⟨keep _ (keepD d) _,?_⟩;rw [← Act.put_comm _ v undef h2,← Act.put_defers];exact h
   case enter f args=>
    refine Calls.mono h fun e w'' he=> ?_;cases e with
    | returned u=>exact ⟨keep a hy u,by rw [← Act.put_comm a v u h2];exact he⟩
    | panicked c=>exact hQ _ _ _ he
    | outgrown=>exact he
   case row row args=>exact Rows.mono h fun u w'' he=>⟨keep a hy u,by rw [← Act.put_comm a v u h2];exact he⟩
  | halt x w'=>
   cases x<;>simp only [Oper.upon] at h ⊢
   case panic u=>exact hQ _ _ _ h
 ·rename_i hw
  simp only [hw] at h;exact ⟨keep a hy _,by rw [← Act.put_comm a v undef h2];exact h⟩
def uG (P:Program) (md:Region.Mode) (ops:Array Oper) (Q:Exit→Act→World→Prop) (S:Bool→World→Prop) (T:Nat→Bool) (k:Nat):Nat→Array Bool→Act→Prop
 | 0,listed,a=>Region.ready md ops listed= []∧∀w,S (listed.getD k true) w→Q .normal a w
 | fuel+1,listed,a=>
  (Region.ready md ops listed= []→∀w,S (listed.getD k true) w→Q .normal a w)∧
  ∀i∈Region.ready md ops listed,∀w,S (listed.getD k true) w→wpOp P ops Q i (fun a' w'=>if T i=true then wpAny P md ops Q fuel (listed.setIfInBounds i true) a' w' else S ((listed.setIfInBounds i true).getD k true) w'∧uG P md ops Q S T k fuel (listed.setIfInBounds i true) a') a w
theorem Oa:∀(fuel:Nat) (listed:Array Bool) (a:Act) (w:World),S (listed.getD k true) w→uG P md ops Q S T k fuel listed a→wpAny P md ops Q fuel listed a w
 | 0,_,_,w,hS,h=>⟨h.1,h.2 w hS⟩
 | fuel+1,_,_,w,hS,h=>⟨fun hr=>h.1 hr w hS,fun i hi=>wpOp_mono (fun a' w' h'=>by
   split at h'
   ·exact h'
   ·exact Oa fuel _ a' w' h'.1 h'.2) (h.2 i hi w hS)⟩
theorem Xa {i:Nat} {oi:Oper} {v:Value} (hi:ops[i]? =some oi) (hsel:∀(j:Nat) (o:Oper) cs b,ops[j]? =some o→o.op≠ .select cs b)
  (hQ:∀c a w,Q (.panic c) (a.put oi.dst v) w→Q (.panic c) a w) (hT:T i=false) (hik:k≠i):
  ∀(fuel:Nat) (listed:Array Bool) (a:Act),
   (∀j oj,ops[j]? =some oj→j≠i→listed.getD j true=false→(∀e∈oj.after,Region.binds md e=true→e.on≠i)→oi.apart ops oj=true)→
   i∈Region.ready md ops listed→Yields P ops oi v a→
   uG P md ops Q S T k fuel (listed.setIfInBounds i true) (a.put oi.dst v)→uG P md ops Q S T k (fuel+1) listed a:=by
 intro fuel;induction fuel with
 | zero=>
  intro listed a _ hr hy H;refine ⟨fun h=>(by rw [h] at hr;cases hr),fun j hj w hS=> ?_⟩;by_cases hji:j=i
  ·subst hji;exact hy.wpOp hi (by rw [if_neg (by simp [hT])];exact ⟨by rw [qX hik];exact hS,H⟩)
  ·have:=ready_mono hj hji;rw [H.1] at this;cases this
 | succ fuel ih=>
  intro listed a hfree hr hy H;refine ⟨fun h=>(by rw [h] at hr;cases hr),fun j hj w hS=> ?_⟩;by_cases hji:j=i
  ·subst hji;exact hy.wpOp hi (by rw [if_neg (by simp [hT])];exact ⟨by rw [qX hik];exact hS,H⟩)
  ·have h1:=H.2 j (ready_mono hj hji) w (by rw [qX hik];exact hS);obtain ⟨hjun,oj,hoj,hall⟩:=mem_ready.1 hj;have hnot:∀e∈oj.after,Region.binds md e=true→e.on≠i:=fun e he hb heq=>by
    have h1:=hall e he hb;have h0:=(mem_ready.1 hr).1;rw [heq] at h1;rcases Nat.lt_or_ge i listed.size with h'|h'
    ·simp [h'] at h0 h1;rw [h0] at h1;cases h1
    ·simp [Array.getElem?_eq_none h'] at h1
   have h2:=wpOp_put hoj (hfree j oj hoj hji hjun hnot) (fun cs b=>hsel i oi cs b hi) (fun cs b=>hsel j oj cs b hoj) hQ hy h1;have hfree':∀k' ok,ops[k']? =some ok→k'≠i→(listed.setIfInBounds j true).getD k' true=false→
     (∀e∈ok.after,Region.binds md e=true→e.on≠i)→oi.apart ops ok=true:=fun k' ok hk hki hun hno=>by
    refine hfree k' ok hk hki ?_ hno;by_cases hjk:j=k'
    ·subst hjk;exact hjun
    ·rw [getD_set_ne true hjk] at hun;exact hun
   refine wpOp_mono (fun a' w' h3=> ?_) h2;obtain ⟨h4,h5⟩:=h3;split at h5
   ·rename_i hTj
    rw [if_pos hTj];refine wpAny_first hi hsel hQ fuel (listed.setIfInBounds j true) a' w' hfree' (ready_mono hr (Ne.symm hji)) h4 ?_;rw [Array.setIfInBounds_comm _ _ hji];exact h5
   ·rename_i hTj
    rw [if_neg hTj];refine ⟨by have:=h5.1;rw [Array.setIfInBounds_comm _ _ (Ne.symm hji),qX hik] at this;exact this,ih (listed.setIfInBounds j true) a' hfree' (ready_mono hr (Ne.symm hji)) h4 ?_⟩;rw [Array.setIfInBounds_comm _ _ hji];exact h5.2
theorem Vm {i:Nat} {oi:Oper} {v:Value} (hi:ops[i]? =some oi) (hsel:∀(j:Nat) (o:Oper) cs b,ops[j]? =some o→o.op≠ .select cs b)
  (hQ:∀c a w,Q (.panic c) (a.put oi.dst v) w→Q (.panic c) a w) (hT:T i=false) (hik:k≠i) (f:Nat) (hR:∀t,T t=true→reach md ops f t i=true):
  ∀(fuel:Nat) (listed:Array Bool) (a:Act),Closed md ops listed→
   (∀j oj,ops[j]? =some oj→j≠i→listed.getD j true=false→(∀e∈oj.after,Region.binds md e=true→e.on≠i)→oi.apart ops oj=true)→
   i∈Region.ready md ops listed→pV P ops S oi v a→
   uG P md ops Q S T k fuel (listed.setIfInBounds i true) (a.put oi.dst v)→uG P md ops Q S T k (fuel+1) listed a:=by
 intro fuel;induction fuel with
 | zero=>
  intro listed a _ _ hr hy H;refine ⟨fun h=>(by rw [h] at hr;cases hr),fun j hj w hS=> ?_⟩;by_cases hji:j=i
  ·subst hji;exact (hy _).wpOp hi hS (fun w' hS'=>by rw [if_neg (by simp [hT])];exact ⟨by rw [qX hik];exact hS',H⟩)
  ·have:=ready_mono hj hji;rw [H.1] at this;cases this
 | succ fuel ih=>
  intro listed a hcl hfree hr hy H;refine ⟨fun h=>(by rw [h] at hr;cases hr),fun j hj w hS=> ?_⟩;by_cases hji:j=i
  ·subst hji;exact (hy _).wpOp hi hS (fun w' hS'=>by rw [if_neg (by simp [hT])];exact ⟨by rw [qX hik];exact hS',H⟩)
  ·have h1:=H.2 j (ready_mono hj hji) w (by rw [qX hik];exact hS);obtain ⟨hjun,oj,hoj,hall⟩:=mem_ready.1 hj;have hTj:¬T j=true:=fun hTj=>by
    have h3:=Aj hcl f j i (fun o ho e he hb=>by rw [hoj] at ho;cases ho;exact hall e he hb) (hR j hTj);have h0:=(mem_ready.1 hr).1;rcases Nat.lt_or_ge i listed.size with h'|h'
    ·simp [h'] at h0 h3;rw [h0] at h3;cases h3
    ·simp [Array.getElem?_eq_none h'] at h3
   have hnot:∀e∈oj.after,Region.binds md e=true→e.on≠i:=fun e he hb heq=>by
    have h1:=hall e he hb;have h0:=(mem_ready.1 hr).1;rw [heq] at h1;rcases Nat.lt_or_ge i listed.size with h'|h'
    ·simp [h'] at h0 h1;rw [h0] at h1;cases h1
    ·simp [Array.getElem?_eq_none h'] at h1
   have h2:=Yo hoj (hfree j oj hoj hji hjun hnot) (fun cs b=>hsel i oi cs b hi) (fun cs b=>hsel j oj cs b hoj) hQ hy h1;have hfree':∀k' ok,ops[k']? =some ok→k'≠i→(listed.setIfInBounds j true).getD k' true=false→
     (∀e∈ok.after,Region.binds md e=true→e.on≠i)→oi.apart ops ok=true:=fun k' ok hk hki hun hno=>by
    refine hfree k' ok hk hki ?_ hno;by_cases hjk:j=k'
    ·subst hjk;exact hjun
    ·rw [getD_set_ne true hjk] at hun;exact hun
   refine wpOp_mono (fun a' w' h3=> ?_) h2;obtain ⟨h4,h5⟩:=h3;rw [if_neg hTj] at h5 ⊢;refine ⟨by have:=h5.1;rw [Array.setIfInBounds_comm _ _ (Ne.symm hji),qX hik] at this;exact this,ih (listed.setIfInBounds j true) a' (hcl.set hj) hfree' (ready_mono hr (Ne.symm hji)) h4 ?_⟩;rw [Array.setIfInBounds_comm _ _ hji];exact h5.2
def uT (P:Program) (ops:Array Oper) (Q:Exit→Act→World→Prop) (S:Bool→World→Prop) (T:Nat→Bool) (k:Nat):List Nat→Bool→Act→Prop
 | [],b,a=>∀w,S b w→Q .normal a w
 | i::r,b,a=>∀w,S b w→wpOp P ops Q i (fun a' w'=>if T i=true then wpList P ops Q (r.filterMap fun i=>ops[i]?) a' w' else S (b||i==k) w'∧uT P ops Q S T k r (b||i==k) a') a w
theorem Jg {listed:Array Bool} {k i:Nat} (h:listed.getD i true=false):(listed.setIfInBounds i true).getD k true=(listed.getD k true||i==k):=by
 by_cases e:k=i
 ·subst e;rcases Nat.lt_or_ge k listed.size with h1|h1
  ·simp [h1]
  ·simp [Array.getElem?_eq_none h1]
 ·rw [qX e];have:(i==k)=false:=by simpa using Ne.symm e
  rw [this,Bool.or_false]
theorem Jz:∀(L:List Nat) (fuel:Nat) (listed:Array Bool) (a:Act),L.length=fuel→nP md ops listed L=true→uT P ops Q S T k L (listed.getD k true) a→uG P md ops Q S T k fuel listed a
 | [],fuel,listed,a,hl,hok,h=>by
  subst hl;exact ⟨by simpa [nP] using hok,h⟩
 | i::r,fuel,listed,a,hl,hok,h=>by
  obtain ⟨f,rfl⟩:∃f,fuel=f+1:=⟨r.length,by simp at hl;omega⟩
  unfold nP at hok;rw [Bool.and_eq_true] at hok;have hrd:=eq_of_beq hok.1;refine ⟨fun h0=>(by rw [hrd] at h0;cases h0),fun j hj w hS=> ?_⟩;have hun:=(mem_ready.1 hj).1;rw [hrd,List.mem_singleton] at hj;subst hj;refine wpOp_mono (fun a' w' h'=> ?_) (h w hS);split at h'
  ·rename_i hT
   rw [if_pos hT];exact zH r f _ a' w' (by simp at hl;omega) hok.2 h'
  ·rename_i hT
   rw [if_neg hT,Jg hun];exact ⟨h'.1,Jz r f _ a' (by simp at hl;omega) hok.2 (by rw [Jg hun];exact h'.2)⟩
def mQ (P:Program) (md:Region.Mode) (ops:Array Oper) (Q:Exit→Act→World→Prop) (S:Bool→World→Prop) (k:Nat) (L2 T:List Nat):Nat→List Oper→Act→Prop
 | _, [],a=>uT P ops Q S (fun i=>T.contains i) k L2 false a
 | j,o::rest,a=>if L2.contains j=true then mQ P md ops Q S k L2 T (j+1) rest a else ∃v,(Yields P ops o v a∨(rch md ops T j=true∧pV P ops S o v a))∧mQ P md ops Q S k L2 T (j+1) rest (a.put o.dst v)
def Il (P:Program) (md:Region.Mode) (ops:Array Oper) (Q:Exit→Act→World→Prop) (S:Bool→World→Prop) (k:Nat) (L2 T:List Nat):List Nat→Act→Prop
 | [],a=>uT P ops Q S (fun i=>T.contains i) k L2 false a
 | i::r,a=>∃o v,ops[i]? =some o∧(Yields P ops o v a∨(rch md ops T i=true∧pV P ops S o v a))∧Il P md ops Q S k L2 T r (a.put o.dst v)
theorem Iz {L2 T:List Nat}:∀(r j:Nat) (a:Act),j+r=ops.size→mQ P md ops Q S k L2 T j (ops.toList.drop j) a→Il P md ops Q S k L2 T ((List.range' j r).filter fun i=> !L2.contains i) a
 | 0,j,a,hj,h=>by
  obtain rfl:j=ops.size:=by omega
  rw [List.drop_eq_nil_of_le (by simp)] at h;exact h
 | r+1,j,a,hj,h=>by
  have hlt:j<ops.toList.length:=by simp;omega
  have hi:ops[j]? =some (ops.toList[j]):=by rw [← Array.getElem?_toList];exact List.getElem?_eq_getElem hlt
  rw [List.drop_eq_getElem_cons hlt] at h;unfold mQ at h;rw [List.range'_succ,List.filter_cons];split at h
  ·rename_i hc
   rw [if_neg (by simp only [hc];decide)];exact Iz r (j+1) a (by omega) h
  ·rename_i hc
   rw [if_pos (by simpa using hc)];obtain ⟨v,hy,h⟩:=h;exact ⟨_,v,hi,hy,Iz r (j+1) _ (by omega) h⟩
theorem Wp (hs:Region.noSelect ops=true) (hQ:∀c (a:Act) d v w,Q (.panic c) (a.put d v) w→Q (.panic c) a w) (L2 T:List Nat) (hkL:L2.contains k=true) (hTL:∀t∈T,t∈L2):
  ∀(L1:List Nat) (fuel:Nat) (listed:Array Bool) (a:Act),L1.length+L2.length=fuel→Closed md ops listed→listed.getD k true=false→nT md ops L2 listed L1=true→Il P md ops Q S k L2 T L1 a→uG P md ops Q S (fun i=>T.contains i) k fuel listed a:=by
 intro L1;induction L1 with
 | nil=>
  intro fuel listed a hl hcl hfl hok h;exact Jz L2 fuel listed a (by simpa using hl) hok (by rw [hfl];exact h)
 | cons i r ih=>
  intro fuel listed a hl hcl hfl hok h;obtain ⟨f,rfl⟩:∃f,fuel=f+1:=⟨r.length+L2.length,by simp at hl;omega⟩
  unfold nT at hok;simp only [Bool.and_eq_true,Bool.not_eq_true'] at hok;obtain ⟨⟨⟨h1,h2⟩,h3⟩,h4⟩:=hok;have hr:i∈Region.ready md ops listed:=by simpa using h1
  have hki:k≠i:=by
   intro e;rw [e,h3] at hkL;cases hkL
  have hTi:T.contains i=false:=by
   cases ht:T.contains i with
   | false=>rfl
   | true=>
    have:=hTL i (by simpa using ht);have h5:L2.contains i=true:=(by simpa using this)
    rw [h3] at h5;cases h5
  obtain ⟨o,v,hi,hy,h⟩:=h;have hrest:=ih f (listed.setIfInBounds i true) (a.put o.dst v) (by simp at hl;omega) (hcl.set hr) (by rw [qX hki];exact hfl) h4 h;rcases hy with hy|⟨hrc,hy⟩
  ·exact Xa hi (Region.noSelect_spec hs) (fun c a w h=>hQ c a _ _ w h) hTi hki f listed a (Region.free_spec hi h2) hr hy hrest
  ·refine Vm hi (Region.noSelect_spec hs) (fun c a w h=>hQ c a _ _ w h) hTi hki ops.size (fun t ht=> ?_) f listed a hcl (Region.free_spec hi h2) hr hy hrest;unfold rch at hrc;rw [List.all_eq_true] at hrc;exact hrc t (by simpa using ht)
theorem Oh {id:Nat} {a:Act} {w:World} (hm:P.follows .mixedOrders=true) (S:Bool→World→Prop) (k:Nat) (L2 T:List Nat) (hs:Region.noSelect ops=true) (hk:(decide (k<ops.size)&&L2.contains k&&T.all fun t=>L2.contains t)=true)
  (hlen:(((List.range' 0 ops.size).filter fun i=> !L2.contains i).length+L2.length==ops.size)=true) (hf:nT .any ops L2 (Array.replicate ops.size false) ((List.range' 0 ops.size).filter fun i=> !L2.contains i)=true)
  (hQ:∀c (a:Act) d v w,Q (.panic c) (a.put d v) w→Q (.panic c) a w) (hS:S false w.drew)
  (h:mQ P .any ops Q S k L2 T 0 ops.toList a):(Code.region id ops true).wp P Q a w:=by
 simp only [Bool.and_eq_true,decide_eq_true_eq,List.all_eq_true] at hk;have hfl:(Array.replicate ops.size false).getD k true=false:=by
  rw [Array.getD_eq_getD_getElem?,Array.getElem?_replicate,if_pos hk.1.1];rfl
 refine wp_region_any hm ?_;refine Oa (k:=k) (S:=S) (T:=fun i=>T.contains i) _ _ _ _ (by rw [hfl];exact hS) (Wp hs hQ L2 T hk.1.2 (fun t ht=>by simpa using hk.2 t ht) _ ops.size _ a (eq_of_beq hlen) (fun j o hj hl=> ?_) hfl hf (Iz ops.size 0 a (by omega) (by simpa using h)));rw [Array.getD_eq_getD_getElem?,Array.getElem?_replicate] at hl;split at hl<;>cases hl
variable {L2 T:List Nat} {j:Nat} {o:Oper} {rest:List Oper} {a:Act} {v:Value}
theorem Sl (hk:L2.contains j=true) (h:mQ P md ops Q S k L2 T (j+1) rest a):mQ P md ops Q S k L2 T j (o::rest) a:=by
 unfold mQ;rw [if_pos hk];exact h
theorem Tj (hk:L2.contains j=false) (hw:Region.wanted o (yielded ops a.tmps)=true) (h:∀w,(execOp a.eval o).run P w=.ok (.value v) w) (r:mQ P md ops Q S k L2 T (j+1) rest (a.put o.dst v)):mQ P md ops Q S k L2 T j (o::rest) a:=by
 unfold mQ;rw [if_neg (by simp only [hk];decide)];exact ⟨v,.inl (.inl ⟨hw,h⟩),r⟩
theorem zT (hk:L2.contains j=false) (hc:rch md ops T j=true) (hw:Region.wanted o (yielded ops a.tmps)=true) (h:∀b w,S b w→(execOp a.eval o).run P w=.ok (.value v) w) (r:mQ P md ops Q S k L2 T (j+1) rest (a.put o.dst v)):mQ P md ops Q S k L2 T j (o::rest) a:=by
 unfold mQ;rw [if_neg (by simp only [hk];decide)];exact ⟨v,.inr ⟨hc,fun b=> .inl ⟨hw,fun w hS=> .inl ⟨w,h b w hS,hS⟩⟩⟩,r⟩
theorem Ff {i:Nat} {r:List Nat} {b:Bool} {Tf:Nat→Bool} (hi:ops[i]? =some o) (hT:Tf i=false) (hw:Region.wanted o (yielded ops a.tmps)=true)
  (h:∀w,S b w→∃w',(execOp a.eval o).run P w=.ok (.value v) w'∧S (b||i==k) w') (hr:uT P ops Q S Tf k r (b||i==k) (a.put o.dst v)):uT P ops Q S Tf k (i::r) b a:=by
 intro w hS;obtain ⟨w',h1,h2⟩:=h w hS;unfold Go.wpOp;simp only [hi,hw,if_true];refine .inl ?_;simp only [Oper.wp,h1,Oper.upon];rw [if_neg (by simp [hT])];exact ⟨h2,hr⟩
theorem O6 {i:Nat} {r:List Nat} {b:Bool} {Tf:Nat→Bool} (hi:ops[i]? =some o) (hT:Tf i=true) (h:∀w,S b w→wpList P ops Q ((i::r).filterMap fun i=>ops[i]?) a w):uT P ops Q S Tf k (i::r) b a:=by
 intro w hS;have h1:=h w hS;rw [List.filterMap_cons,hi] at h1;simp only [wpList] at h1;unfold wpOp;rw [hi];simp only [hT,if_true];split at h1
 ·rename_i hw
  rw [if_pos hw];exact h1
 ·rename_i hw
  rw [if_neg hw];exact h1
end
end Go.Proofs.YtlcojhddnpmgmaaGreat
namespace Go.Proofs.YtlcojhddnpmgmaaGreat
open Go.RowKit
def bQ (w:World) (r:aJ) (rv dv:Value):World:=(w.alloc (.cells (r.cells rv dv) 36)).alloc (.cells (bD.cells (.slice none 0 0) (.slice none 0 0)) 29)
structure aBZ (w:World) (o:Nat→Nat) (K:Nat) (L:aT) (S:St) (n:Nat) (r:aJ) (rv dv:Value) (w0:World):Prop where
 fr:Fr No w w0
 k0:w0.heap[w.heap.size]? =some (.cells (r.cells rv dv) 36 (0,0))
 k1:w0.heap[w.heap.size+1]? =some (.cells (bD.cells (.slice none 0 0) (.slice none 0 0)) 29 (0,0))
 at_:aK w0 o K L S n
 fresh:aP w0 o
theorem begun {w:World} {o:Nat→Nat} {K n:Nat} {L:aT} {S:St} (h:aK w o K L S n) (ok:aU S) (hf:aP w o) (r:aJ) (rv dv:Value):aBZ w o K L S n r rv dv (bQ w r rv dv):=by
 have f0:Fr No w (bQ w r rv dv):=((Fr.refl w).alloc _).alloc _;refine ⟨f0,((Fr.refl (S:=No) _).alloc _).aC (aO w _) id,?_,h.no ok hf f0,(Step.no (C:=fun _=>False) hf f0).fresh⟩;have:=aO (w.alloc (.cells (r.cells rv dv) 36)) (.cells (bD.cells (.slice none 0 0) (.slice none 0 0)) 29);unfold bQ;simpa using this
theorem aX.no {w w':World} {o:Nat→Nat} {K n:Nat} {L:aT} {S:St} {x:Int} {r:aF} {e:Ending} (h:aK w o K L S n) (ok:aU S) (hf:aP w o) (hx:x≠0) (he:e=.panicked (iW x)) (f:Fr No w w'):aX w o K L n (x,r,S) e w':=
 ⟨⟨o,(Step.no (C:=fun _=>False) hf f).mono (fun _ e=>e.elim),h.no ok hf f⟩,by rw [if_neg hx];exact he⟩
def gV (e i z h s:Int) (d:Bool):aF:=⟨e,i,z,h,s,d, [], []⟩
def jU (e i z h s:Int) (d:Bool):Value:=.agg #[.int .i64 e,.int .i64 i,.int .i64 z,.int .i64 h,.int .i64 s,.bool d,.slice none 0 0,.slice none 0 0]
theorem kW.plain {n:Nat} (w:World) (e i z h s:Int) (d:Bool):kW n w (jU e i z h s d) (gV e i z h s d):=⟨_,_,rfl,.inl ⟨rfl,rfl⟩,.inl ⟨rfl,rfl⟩,Low.nil _,Low.nil _⟩
theorem wW {K c:Nat} (h:bI K c):aH K c:=by unfold aH;unfold bI at h;omega
theorem Ap {K c:Nat} (h:fQ K c):aH K c:=by unfold aH;unfold fQ at h;omega
theorem Kr {T:Tree} (ht:dD T) (p q:List UInt8):dD (lQ T p q):=by
 unfold lQ;split
 ·rename_i h
  unfold iL at h;by_cases h1:(lookOf T p).1=0
  ·rw [if_neg (by simp [h1])] at h;by_cases h2:(lookOf T p).2.1=1
   ·rw [if_pos h2] at h;cases h
   ·rw [if_neg h2] at h;split at h
    ·cases h
    ·split at h
     ·cases h
     ·rename_i h3
      split at h
      ·cases h
      ·by_cases h4:(placeOf T q).1=0
       ·rw [if_neg (by simp [h4])] at h;split at h
        ·cases h
        ·rename_i h5
         obtain ⟨x,hx,hd⟩:=look_ok ht h1;rw [← hd];exact Jr (Qm ht h1 hx h2 h3 h4 (by simpa using h5))
       ·rw [if_pos h4] at h;exact absurd h h4
  ·rw [if_pos h1] at h;exact absurd h h1
 ·exact ht
theorem aU.oQ {S:St} (ok:aU S) {T':Tree} (h:dD T'):aU {S with T:=T'}:=⟨h,ok.file⟩
theorem yE {C:Nat→Prop} {w w' w'' w3:World} {o o':Nat→Nat} {g:Nat} (hf:aP w o) (f:Fr No w w') (s:Step C w' o w'' o') (hg:w.heap.size≤g) (hg':g<w'.heap.size) (q:Fr (fun j=>j=g) w'' w3):
  Step C w o w3 o'∧Step (fun c=>c=0) w'' o' w3 o':=by
 have e:o' g=0:=(s.old g hg').trans (hf g hg);have f0:Fr (fun k=>C (o k)) w w'':=(f.bK).trans s.fr (fun _ _ h=>h);refine ⟨⟨f0.trans q (fun j hj e=>by omega),fun k hk=>s.old k (Nat.lt_of_lt_of_le hk f.size),fun k hk=>s.fresh k (Nat.le_trans q.size hk)⟩,⟨q.mono (fun j _ h=>by subst h;exact e),fun _ _=>rfl,fun k hk=>s.fresh k (Nat.le_trans q.size hk)⟩⟩
theorem aX.yes {C:Nat→Prop} {w w' w'' w3:World} {o o':Nat→Nat} {K n g:Nat} {L:aT} {S':St} {r:aF} {v:Value} {e:Ending} (hf:aP w o) (f:Fr No w w') (s:Step C w' o w'' o') (hC:∀c,C c→aH K c) (hg:w.heap.size≤g) (hg':g<w'.heap.size) (q:Fr (fun j=>j=g) w'' w3)
  (ok:aU S') (t:aK w'' o' K L S' n) (he:e=.returned v) (hr:kW w.heap.size w3 v r):aX w o K L n (0,r,S') e w3:=by
 obtain ⟨a,b⟩:=yE hf f s hg hg' q;exact ⟨⟨o',a.mono hC,t.step ok b (fun c h e=>by unfold aH at h;omega)⟩,by rw [if_pos rfl];exact ⟨v,he,hr⟩⟩
def pM (S:St) (r:aJ):Int×aF×St:=
 if iL S.T r.path r.to=0 then (0,gV 0 0 0 0 0 false,{S with T:=lQ S.T r.path r.to}) else (iL S.T r.path r.to,bD,S)
theorem Zv (o:Nat→Nat) (K n:Nat) (L:aT) (S:St) (r:aJ) (rv dv:Value) (w:World) (h:aK w o K L S n) (ok:aU S) (hf:aP w o) (hl:r.path.length≤1000000) (hl2:r.to.length≤1000000):
  Calls Tryz.prog 84 #[.pointer (some ⟨L.s,0,none⟩),.agg (r.cells rv dv)] w (aX w o K L n (pM S r)):=by
 obtain ⟨f0,k0,k1,H0,G0⟩:=begun h ok hf r rv dv;have F0:=lH f0;have HL:Hid (∀w',Fr No (bQ w r rv dv) w'→Calls Tryz.prog 135 #[.pointer (some ⟨L.tr,0,none⟩),.string (ba r.path),.string (ba r.to)] w' (xA w' o K L.tr S.T r.path r.to)):=
  lH (fun w' f=>Yx o K L.tr S.T r.path r.to w' hl hl2 ((H0.no ok G0 f).tree) ok.tree (Step.no (C:=fun _=>False) G0 f).fresh)
 have HR:Hid (iL S.T r.path r.to≠0→∀e w' w'' o',e=.panicked (iW (iL S.T r.path r.to))→Fr No w w'→Step (bI K) w' o w'' o'→bV w'' o' K L.tr (lQ S.T r.path r.to)→aX w o K L n (pM S r) e w''):=lH (fun hne e w' w'' o' he f s t=>by
  have hs:Step (bI K) w o w'' o':=((Step.no (C:=fun _=>False) hf f).mono (fun _ e=>e.elim)).trans s (fun _ e=>e);have:=h.oQ ok hs t;rw [show lQ S.T r.path r.to=S.T from if_neg hne] at this;unfold pM;rw [if_neg hne];exact ⟨⟨o',hs.mono (fun _ e=>wW e),this⟩,by rw [if_neg hne];exact he⟩)
 have HQ:Hid (iL S.T r.path r.to=0→∀e w' w'' w3 o',e=.returned (jU 0 0 0 0 0 false)→Fr No w w'→w.heap.size+1<w'.heap.size→Step (bI K) w' o w'' o'→bV w'' o' K L.tr (lQ S.T r.path r.to)→Fr (fun j=>j=w.heap.size+1) w'' w3→aX w o K L n (pM S r) e w3):=lH (fun h0 e w' w'' w3 o' he f hs s t g=>by
  unfold pM;rw [if_pos h0];have s':Step (bI K) w o w'' o':=((Step.no (C:=fun _=>False) hf f).mono (fun _ e=>e.elim)).trans s (fun _ e=>e);exact aX.yes hf f s (fun _ e=>wW e) (by omega) hs g (ok.oQ (Kr ok.tree _ _)) (h.oQ ok s' t) he (kW.plain _ _ _ _ _ _ _))
 generalize hQ:aX w o K L n (pM S r)=Q at*;clear hQ;have NS:Hid (¬bI K (o L.s)):=lH (by rw [h.own];unfold bI;omega);have NB:Hid (¬bI K (o w.heap.size)):=lH (by rw [hf _ (Nat.le_refl _)];unfold bI;omega);have NR:Hid (¬bI K (o (w.heap.size+1))):=lH (by rw [hf _ (Nat.le_succ _)];unfold bI;omega);have HH:=lH H0;have HG:=lH G0;clear H0 G0 f0 h ok hf hl hl2;unfold xA at HL;generalize iL S.T r.path r.to=er at*;generalize lQ S.T r.path r.to=T' at*;unfold bQ aJ.cells bD aF.cells at*;go_enter Tryz.func84,Tryz.ntmps84;go_wp2_with fail;generalize (w.alloc (.cells #[.int .i64 r.c,.int .i64 r.l,.int .i64 r.q,.int .i64 r.kind,.string (ba r.path),.string (ba r.to),.bool r.dir,.bool r.wr,.bool r.cl,.int .i64 r.h,.int .i64 r.nx,.int .i64 r.sw,rv,dv] 36)).alloc (.cells #[.int .i64 0,.int .i64 0,.int .i64 0,.int .i64 0,.int .i64 0,.bool false,.slice none 0 0,.slice none 0 0] 29)=w0 at*;have B1:=lH (lt_of_block k1);generalize hb0:w.heap.size=b0 at*;have c9:w0.cell? ⟨L.s,9,none⟩=some (.pointer (some ⟨L.tr,0,none⟩)):=HH.o.cell 9;have d4:w0.cell? ⟨b0,4,none⟩=some (.string (ba r.path)):=by rw [aA k0];rfl
 have d5:w0.cell? ⟨b0,5,none⟩=some (.string (ba r.to)):=by rw [aA k0];rfl
 have K1:=lH k1;clear k0 k1;go_region_held3 (fun w'=>w'.cell? ⟨L.s,9,none⟩=some (.pointer (some ⟨L.tr,0,none⟩))∧w'.cell? ⟨b0,4,none⟩=some (.string (ba r.path))∧w'.cell? ⟨b0,5,none⟩=some (.string (ba r.to))) (first|go_keep|(go_split_ands;refine ⟨?_,?_,?_⟩<;>exact s1.fr.cell_of (by assumption) (by first|exact NS.o|exact NB.o)))
  ((go_at_call 135;refine (HL.o _ (Fr.refl _).drew).mono ?_;rintro e w1 ⟨rfl,o',s1,t1⟩))
 have SZ:Hid (b0+1<w0.drew.heap.size):=lH (by simpa using B1.o);have FF:=lH (F0.o.trans (Fr.refl w0).drew kp);cases hx:(er==0) with
 | false=>
  have hne:er≠0:=by simpa using hx
  have HX:=lH (HR.o hne _ _ _ _ rfl FF.o s1 t1);clear s1 t1;go_wp2_with fail;refine (fJ _ _).mono ?_;rintro e w2 ⟨rfl,rfl⟩;go_wp2_with fail;exact ⟨rfl,HX.o⟩
 | true=>
  obtain rfl:er=0:=by simpa using hx
  have HX:=lH (fun e w3 he g=>HQ.o rfl e _ _ w3 _ he FF.o SZ.o s1 t1 g);have KK:=lH (s1.fr.aC ((Fr.refl (S:=No) w0).drew.aC K1.o id) NR.o);clear s1 t1 hx;have hbd:∀w':World,(Instr.build 29 #[]).run Tryz.prog w'=.ok (.agg #[.int .i64 0,.int .i64 0,.int .i64 0,.int .i64 0,.int .i64 0,.bool false,.slice none 0 0,.slice none 0 0]) w':=fun w'=>by kernel_rfl
  have HOC:=lH (show (#[.int .i64 0,.int .i64 0,.int .i64 0,.int .i64 0,.int .i64 0,.bool false,.slice none 0 0,.slice none 0 0]:Array Value).all (·.oneCell')=true from by simp [Value.oneCell']);go_wp2_with fail;refine (gU _ _).mono ?_;rintro e w2 ⟨rfl,rfl⟩;go_wp2_with (refine wpList_store_row rfl 29 (.tmp 4) (.tmp 19) rfl (b0+1) #[.int .i64 0,.int .i64 0,.int .i64 0,.int .i64 0,.int .i64 0,.bool false,.slice none 0 0,.slice none 0 0] rfl rfl 29 _ KK.o Tryz.size29 rfl HOC.o ?_);have KF:=dS (cs':= #[.int .i64 0,.int .i64 0,.int .i64 0,.int .i64 0,.int .i64 0,.bool false,.slice none 0 0,.slice none 0 0]) KK.o;exact bodyPost_ret (v:=jU 0 0 0 0 0 false) (results_cell_row rfl _ _ (b0+1) 29 _ (0,0) _ rfl KF Tryz.underlying29 rfl Tryz.size29) rfl
   (HX.o _ _ rfl (Fr.setRow (S:=fun j=>j=b0+1) (Fr.refl _) (.inl rfl) _))
theorem eQ.shape {w:World} {B:Nat} {v:Value} {es:List eF} (h:eQ w B v es):∃base len cap,v=.slice base len cap:=by
 rcases h with ⟨e,_⟩|⟨b,off,c,e,_⟩
 ·exact ⟨_,_,_,e⟩
 ·exact ⟨_,_,_,e⟩
theorem eQ.far {w w':World} {B B' g:Nat} {v:Value} {es:List eF} {cs:Array Value} (h:eQ w B v es) (hk:w.heap[g]? =some (.cells cs 29 (0,0))) (f:Fr (fun j=>j=g) w w') (hB:B≤B'):eQ w' B' v es:=by
 rcases h with h|⟨b,off,c,e,h1,h2,h3,⟨cs',fz,h4⟩,h5⟩
 ·exact .inl h
 ·have hne:b≠g:=by
   intro e;subst e;rw [h4] at hk;simp at hk
  have h4':=f.aC h4 hne;refine .inr ⟨b,off,c,e,h1,Nat.lt_of_lt_of_le h2 hB,lt_of_block h4',⟨cs',fz,h4'⟩,fun j x hj=> ?_⟩;exact fun i u hi=>f.cell_of (h5 j x hj i u hi) hne
def oP (S:St) (r:aJ):Int×aF×St:=
 if (listOf S.T r.path).1=0 then (0,⟨0,0,0,0,0,false,(listOf S.T r.path).2, []⟩,S) else ((listOf S.T r.path).1,bD,S)
theorem Y5 (o:Nat→Nat) (K n:Nat) (L:aT) (S:St) (r:aJ) (rv dv:Value) (w:World) (h:aK w o K L S n) (ok:aU S) (hf:aP w o) (hl:r.path.length≤1000000):
  Calls Tryz.prog 86 #[.pointer (some ⟨L.s,0,none⟩),.agg (r.cells rv dv)] w (aX w o K L n (oP S r)):=by
 obtain ⟨f0,k0,k1,H0,G0⟩:=begun h ok hf r rv dv;have F0:=lH f0;have HL:Hid (∀w',Fr No (bQ w r rv dv) w'→Calls Tryz.prog 38 #[.pointer (some ⟨L.tr,0,none⟩),.string (ba r.path)] w' (wU w' (listOf S.T r.path))):=
  lH (fun w' f=>X7 o K L.tr S.T r.path w' hl ((H0.no ok G0 f).tree) ok.tree (Step.no (C:=fun _=>False) G0 f).fresh)
 have HR:Hid ((listOf S.T r.path).1≠0→∀e w',e=.panicked (iW (listOf S.T r.path).1)→Fr No w w'→aX w o K L n (oP S r) e w'):=lH (fun hne e w' he f=>by
  unfold oP;rw [if_neg hne];exact aX.no h ok hf hne he f)
 have HQ:Hid ((listOf S.T r.path).1=0→∀v e w' w3,e=.returned (.agg #[.int .i64 0,.int .i64 0,.int .i64 0,.int .i64 0,.int .i64 0,.bool false,v,.slice none 0 0])→Fr No w w'→w.heap.size+1<w'.heap.size→eQ w' w'.heap.size v (listOf S.T r.path).2→Low w.heap.size v→(∃cs,w'.heap[w.heap.size+1]? =some (.cells cs 29 (0,0)))→Fr (fun j=>j=w.heap.size+1) w' w3→aX w o K L n (oP S r) e w3):=lH (fun h0 v e w' w3 he f hs es lw hk g=>by
  unfold oP;rw [if_pos h0];obtain ⟨cs,hk⟩:=hk;exact aX.yes (C:=fun _=>False) hf f (Step.refl (Step.no (C:=fun _=>False) hf f).fresh) (fun _ e=>e.elim) (by omega) hs g ok (h.no ok hf f) he ⟨_,_,rfl,es.far hk g g.size,.inl ⟨rfl,rfl⟩,lw,Low.nil _⟩)
 generalize hQ:aX w o K L n (oP S r)=Q at*;clear hQ;have HH:=lH H0;clear H0 G0 f0 h ok hf hl;unfold wU at HL;generalize listOf S.T r.path=X at*;obtain ⟨er,es⟩:=X;dsimp only at HL HR HQ;unfold bQ aJ.cells bD aF.cells at*;go_enter Tryz.func86,Tryz.ntmps86;go_wp2_with fail;generalize (w.alloc (.cells #[.int .i64 r.c,.int .i64 r.l,.int .i64 r.q,.int .i64 r.kind,.string (ba r.path),.string (ba r.to),.bool r.dir,.bool r.wr,.bool r.cl,.int .i64 r.h,.int .i64 r.nx,.int .i64 r.sw,rv,dv] 36)).alloc (.cells #[.int .i64 0,.int .i64 0,.int .i64 0,.int .i64 0,.int .i64 0,.bool false,.slice none 0 0,.slice none 0 0] 29)=w0 at*;have B1:=lH (lt_of_block k1);generalize hb0:w.heap.size=b0 at*;have c9:w0.cell? ⟨L.s,9,none⟩=some (.pointer (some ⟨L.tr,0,none⟩)):=HH.o.cell 9;have d4:w0.cell? ⟨b0,4,none⟩=some (.string (ba r.path)):=by rw [aA k0];rfl
 have K1:=lH k1;clear k0 k1;go_region_held3 (fun w'=>w'.cell? ⟨L.s,9,none⟩=some (.pointer (some ⟨L.tr,0,none⟩))∧w'.cell? ⟨b0,4,none⟩=some (.string (ba r.path))) (first|go_keep|(go_split_ands;refine ⟨?_,?_⟩<;>exact f1.cell_of (by assumption) id))
  ((go_at_call 38;refine (HL.o _ (Fr.refl _).drew).mono ?_;rintro e w1 ⟨v,rfl,f1,es1,lw1⟩;obtain ⟨vb,vl,vc,rfl⟩:=es1.shape))
 have F1:=lH ((Fr.refl w0).drew.trans f1 kp);have FF:=lH (F0.o.trans F1.o kp);have SZ:Hid (b0+1<w1.heap.size):=lH (Nat.lt_of_lt_of_le B1.o F1.o.size);have ES:=lH es1;have LW:=lH (show Low b0 (.slice vb vl vc) from lw1.le (Nat.le_trans (by rw [← hb0];exact F0.o.size) (Fr.refl (S:=No) w0).drew.size));clear f1 es1 lw1;cases hx:(er==0) with
 | false=>
  have hne:er≠0:=by simpa using hx
  go_wp2_with fail;refine (fJ _ _).mono ?_;rintro e w2 ⟨rfl,rfl⟩;go_wp2_with fail;exact ⟨rfl,HR.o hne _ _ rfl FF.o⟩
 | true=>
  obtain rfl:er=0:=by simpa using hx
  have KK:=lH (F1.o.aC K1.o id);have HX:=lH (fun e w3 he g=>HQ.o rfl _ e _ w3 he FF.o SZ.o ES.o LW.o ⟨_,KK.o⟩ g);clear hx;have hbd:∀w':World,(Instr.build 29 #[(6,.slice vb vl vc)]).run Tryz.prog w'=.ok (.agg #[.int .i64 0,.int .i64 0,.int .i64 0,.int .i64 0,.int .i64 0,.bool false,.slice vb vl vc,.slice none 0 0]) w':=fun w'=>by kernel_rfl
  have HOC:=lH (show (#[.int .i64 0,.int .i64 0,.int .i64 0,.int .i64 0,.int .i64 0,.bool false,.slice vb vl vc,.slice none 0 0]:Array Value).all (·.oneCell')=true from by simp [Value.oneCell']);go_wp2_with fail;refine (gU _ _).mono ?_;rintro e w2 ⟨rfl,rfl⟩;go_wp2_with (refine wpList_store_row rfl 29 (.tmp 4) (.tmp 22) rfl (b0+1) #[.int .i64 0,.int .i64 0,.int .i64 0,.int .i64 0,.int .i64 0,.bool false,.slice vb vl vc,.slice none 0 0] rfl rfl 29 _ KK.o Tryz.size29 rfl HOC.o ?_);have KF:=dS (cs':= #[.int .i64 0,.int .i64 0,.int .i64 0,.int .i64 0,.int .i64 0,.bool false,.slice vb vl vc,.slice none 0 0]) KK.o;exact bodyPost_ret (v:=.agg #[.int .i64 0,.int .i64 0,.int .i64 0,.int .i64 0,.int .i64 0,.bool false,.slice vb vl vc,.slice none 0 0]) (results_cell_row rfl _ _ (b0+1) 29 _ (0,0) _ rfl KF Tryz.underlying29 rfl Tryz.size29) rfl
   (HX.o _ _ rfl (Fr.setRow (S:=fun j=>j=b0+1) (Fr.refl _) (.inl rfl) _))
def gZ:aG:=⟨0, []⟩
def bC (F:Nat→Option aG) (i:Nat) (x:Option aG):Nat→Option aG:=fun j=>if j=i then x else F j
def tV (w:World):World:=w.alloc (.cells #[.bool true,.int .i64 0,.slice none 0 0] 135)
theorem jK.make {w:World} {o:Nat→Nat} {K fl n:Nat} {F:Nat→Option aG} (h:jK w o K fl n F) (hf:aP w o) (i:Nat) (hi:i≤1000000) (hn:n<4611686018427387904):
  ∃w',(Instr.mapUpdate 100 (.map (some fl)) (.int .i64 i) (.pointer (some ⟨w.heap.size,0,none⟩))).run Tryz.prog (tV w)=.ok () w'∧Fr (fun k=>k=fl) (tV w) w'∧
   Step (fun c=>c=K+6) w o w' (dH o w.heap.size (K+3000+i))∧jK w' (dH o w.heap.size (K+3000+i)) K fl (n+1) (bC F i (some gZ)):=by
 obtain ⟨h1,fp,c,hc,hm,hfl⟩:=h;have f:Fr No w (tV w):=(Fr.refl w).alloc _;have hsz:(tV w).heap.size=w.heap.size+1:=by unfold tV;simp
 have kn:(tV w).heap[w.heap.size]? =some (.cells #[.bool true,.int .i64 0,.slice none 0 0] 135 (0,0)):=aO w _;have s1:Step (fun _=>False) w o (tV w) (dH o w.heap.size (K+3000+i)):=⟨f.mono (fun _ _ e=>e.elim),fun k hk=>eU _ _ (by omega),fun k hk=>by rw [eU _ _ (by omega)];exact hf k (by omega)⟩
 obtain ⟨hm1,ho1⟩:=hm.step s1 id;obtain ⟨w',hrun,hma,g⟩:=hm1.put (i:Int) w.heap.size (show I64 _ by unfold I64;omega) trivial (by omega) (t:=100) (e:=63) Tryz.underlying100;have hne:w.heap.size≠fl:=by
  intro e;rw [← e,jD] at ho1;rw [e] at ho1;omega
 have s:Step (fun c=>c=K+6) w o w' (dH o w.heap.size (K+3000+i)):=⟨(f.bK).trans g (fun j _ e=>by rw [e];exact h1),s1.old,fun k hk=>s1.fresh k (Nat.le_trans g.size hk)⟩
 refine ⟨w',hrun,g,s,ho1.trans h1,fun j=>if j=i then w.heap.size else fp j,if (cO F fp i).isSome then c else c+1,by split<;>omega,?_,fun j m hj=> ?_⟩
 ·have e:(fun z:Int=>if z=(i:Int) then some w.heap.size else cO F fp z)=cO (bC F i (some gZ)) (fun j=>if j=i then w.heap.size else fp j):=by
   funext z;unfold cO bC;by_cases hz:z=i
   ·subst hz;simp
   ·by_cases h0:0≤z
    ·have:z.toNat≠i:=by omega
     simp [hz,h0,this]
    ·simp [hz,h0]
  rw [← e];exact hma
 ·unfold bC at hj;by_cases hji:j=i
  ·rw [if_pos hji] at hj;cases hj;dsimp only;rw [if_pos hji,hji];exact ⟨jD _ _ _,_,g.aC kn hne,.inl ⟨rfl,rfl⟩⟩
  ·rw [if_neg hji] at hj;dsimp only;rw [if_neg hji];exact (hfl j m hj).step s (by omega) (by omega)
theorem aK.Tu {w w':World} {o o':Nat→Nat} {K n n':Nat} {L:aT} {S:St} {F':Nat→Option aG} (h:aK w o K L S n) (hn:n≤n') (ok:aU S) (s:Step (fun c=>c=K+6) w o w' o') (t:jK w' o' K L.fl n' F'):aK w' o' K L {S with F:=F'} n' where
 own:=(s.own h.cs).trans h.own
 cs:=s.block h.cs (by rw [h.own];omega)
 win:=h.win.step s (by omega) (by omega)
 tree:=h.tree.step ok.tree s (fun c e=>by unfold bI at e;omega)
 tok:=h.tok.step s (by omega) (by omega)
 files:=t
 uses:=(h.more hn).uses.step s (by omega)
theorem Q3:fU gZ:=⟨Nat.zero_le _,by simp [gZ,dY]⟩
theorem aU.xG {S:St} (ok:aU S) {i:Nat} (hi:1≤i∧i≤128) {m:aG} (hm:fU m):aU {S with F:=bC S.F i (some m)}:=⟨ok.tree,fun j x hj=>by
 unfold bC at hj;dsimp only at hj;split at hj
 ·rename_i e
  subst e;cases hj;exact ⟨hi.1,hi.2,hm⟩
 ·exact ok.file j x hj⟩
