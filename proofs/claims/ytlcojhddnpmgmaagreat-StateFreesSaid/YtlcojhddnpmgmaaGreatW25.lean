/- Part of the proof; the last text says what is proved. -/
import Derived.Test.YtlcojhddnpmgmaaGreatW20
set_option linter.unusedSimpArgs false
set_option linter.unusedVariables false
set_option maxRecDepth 100000
set_option maxHeartbeats 1600000
namespace Go.Proofs.YtlcojhddnpmgmaaGreat
open Go.RowKit
def Tried (w:World) (o:Nat→Nat) (K:Nat) (L:Plc) (n:Nat) (x:RepS×St) (e:Ending) (w':World):Prop:=
 (∃o',Step (stateC K) w o w' o'∧StateAt w' o' K L x.2 n)∧∃v,e=.returned v∧RepAt w.heap.size w' v x.1
def triedOf (x:Int×RepS×St):RepS×St:=if x.1=0 then x.2 else (plainRep x.1 0 0 0 0 false,x.2.2)
theorem RepAt.other {n:Nat} {w w':World} {b0:Nat} {cs:Array Value} {fz:Nat×Nat} {v:Value} {r:RepS} (h:RepAt n w v r) (hb:w.heap[b0]? =some (.cells cs 29 fz)) (hn:∀(j:Nat) (x:Int),cs[j]? ≠some (.int .u8 x)) (f:Fr (fun k=>k=b0) w w'):RepAt n w' v r:=by
 obtain ⟨ev,mv,rfl,h1,h2,h3⟩:=h;refine ⟨ev,mv,rfl,?_,?_,h3⟩
 ·rcases h1 with h1|⟨b,off,c,e,a1,a2,a3,⟨cs',fz',a4⟩,a5⟩
  ·exact .inl h1
  ·have hne:b≠b0:=by
    intro e;rw [e,hb] at a4;simp at a4
   exact .inr ⟨b,off,c,e,a1,Nat.lt_of_lt_of_le a3 f.size,Nat.lt_of_lt_of_le a3 f.size,⟨cs',fz',f.block_of a4 hne⟩,fun j x hj i u hi=>f.cell_of (a5 j x hj i u hi) hne⟩
 ·rcases h2 with h2|⟨b,off,c,⟨e,a1,a2,a3⟩,a4⟩
  ·exact .inl h2
  ·refine .inr ⟨b,off,c,⟨e,a1,Nat.lt_of_lt_of_le a2 f.size,fun j x hj=> ?_⟩,Nat.lt_of_lt_of_le a2 f.size⟩;by_cases hne:b=b0
   ·have:=a3 j x hj;rw [hne,cell_at hb] at this;exact absurd this (hn _ _)
   ·exact f.cell_of (a3 j x hj) hne
theorem RepAt.le {n m:Nat} {w:World} {v:Value} {r:RepS} (h:RepAt n w v r) (hm:m≤n):RepAt m w v r:=by
 obtain ⟨ev,mv,e,h1,h2,h3,h4⟩:=h;exact ⟨ev,mv,e,h1,h2,h3.le hm,h4.le hm⟩
theorem rep_no8 (r:RepS) (ev mv:Value) (he:∀x:Int,ev≠ .int .u8 x) (hm:∀x:Int,mv≠ .int .u8 x) (j:Nat) (x:Int):(r.cells ev mv)[j]? ≠some (.int .u8 x):=by
 intro h;unfold RepS.cells at h
 match j,h with
 | 0,h=>simp at h
 | 1,h=>simp at h
 | 2,h=>simp at h
 | 3,h=>simp at h
 | 4,h=>simp at h
 | 5,h=>simp at h
 | 6,h=>exact he x (by simpa using h)
 | 7,h=>exact hm x (by simpa using h)
 | (k+8),h=>simp at h
theorem EsB.one {w:World} {B:Nat} {v:Value} {es:List Ent} (h:EsB w B v es):v.oneCell'=true:=by
 rcases h with ⟨rfl,_⟩|⟨_,_,_,rfl,_⟩<;>rfl
theorem BsB.one {w:World} {B:Nat} {v:Value} {es:List UInt8} (h:BsB w B v es):v.oneCell'=true:=by
 rcases h with ⟨rfl,_⟩|⟨_,_,_,⟨rfl,_⟩,_⟩<;>rfl
theorem RepS.cells_one {r:RepS} {ev mv:Value} (he:ev.oneCell'=true) (hm:mv.oneCell'=true):(r.cells ev mv).all (·.oneCell')=true:=by
 have a:∀k x,(Value.int k x).oneCell'=true:=fun _ _=>rfl;have b:∀x,(Value.bool x).oneCell'=true:=fun _=>rfl;simp [RepS.cells,he,hm,a,b]
theorem gtried_ (fn:Nat) (hfn:fn=50∨fn=51∨fn=52∨fn=82∨fn=83∨fn=84∨fn=85∨fn=86∨fn=87∨fn=88∨fn=89) (o:Nat→Nat) (K n:Nat) (L:Plc) (x:Int×RepS×St) (r:Req) (rv dv:Value) (w:World) (hf:Fresh w o) (ok:StOk x.2.2)
  (HC:Calls Tryz.prog fn #[.pointer (some ⟨L.s,0,none⟩),.agg (r.cells rv dv)] (deedW w r rv dv) (Deed (deedW w r rv dv) o K L n x)):
  Calls Tryz.prog 49 #[.pointer (some ⟨L.s,0,none⟩),.func (Fn.func fn) #[] #[],.agg (r.cells rv dv)] w (Tried w o K L n (triedOf x)):=by
 have hmf:∀(fn:Fn) (first cap:Array Value) (w:World),(Instr.makeFunc fn first cap).run Tryz.prog w=.ok (.func fn first cap) w:=fun _ _ _ _=>rfl;have f0:Fr No w (deedW w r rv dv):=((Fr.refl w).alloc _).alloc _;have k1:(deedW w r rv dv).heap[w.heap.size+1]? =some (.cells (noRep.cells (.slice none 0 0) (.slice none 0 0)) 29 (0,0)):=by
  have:=new_at (w.alloc (.cells (r.cells rv dv) 36)) (.cells (noRep.cells (.slice none 0 0) (.slice none 0 0)) 29);unfold deedW;simpa using this
 have HM:=lH HC;have F0:=lH f0;have K1:=lH k1;have HD:Hid (∀e w1,Deed (deedW w r rv dv) o K L n x e w1→w1.heap[w.heap.size+1]? =some (.cells (noRep.cells (.slice none 0 0) (.slice none 0 0)) 29 (0,0))∧
   ((∃ev mv,e=.returned (.agg (x.2.1.cells ev mv))∧(x.2.1.cells ev mv).all (·.oneCell')=true∧∀w5,Fr (fun k=>k=w.heap.size+1) w1 w5→Tried w o K L n (triedOf x) (.returned (.agg (x.2.1.cells ev mv))) w5)∨
    (e=.panicked (refC x.1)∧∀w5,Fr (fun k=>k=w.heap.size+1) w1 w5→Tried w o K L n (triedOf x) (.returned (.agg (rep x.1 0))) w5))):=lH (by
  rintro e w1 ⟨⟨o1,s1,t1⟩,he⟩;have hlt:=lt_of_block k1;have h0:o (w.heap.size+1)=0:=hf _ (Nat.le_succ _);have k1':=s1.block k1 (by rw [h0];unfold stateC;omega);refine ⟨k1',?_⟩;by_cases hx:x.1=0
  ·rw [if_pos hx] at he;obtain ⟨v,rfl,hr⟩:=he;have hr':=hr.le f0.size;obtain ⟨ev,mv,rfl,he,hm,_⟩:=hr;refine .inl ⟨ev,mv,rfl,RepS.cells_one he.one hm.one,fun w5 f5=> ?_⟩;obtain ⟨a,b⟩:=last_ hf f0 s1 (Nat.le_succ _) hlt f5;refine ⟨⟨o1,a,?_⟩,_,rfl,?_⟩
   ·unfold triedOf;rw [if_pos hx];exact t1.step ok b (fun c h e=>by unfold stateC at h;omega)
   ·unfold triedOf;rw [if_pos hx];exact hr'.other k1' (rep_no8 _ _ _ (by simp) (by simp)) f5
  ·rw [if_neg hx] at he;refine .inr ⟨he,fun w5 f5=> ?_⟩;obtain ⟨a,b⟩:=last_ hf f0 s1 (Nat.le_succ _) hlt f5;unfold triedOf;rw [if_neg hx];exact ⟨⟨o1,a,t1.step ok b (fun c h e=>by unfold stateC at h;omega)⟩,_,rfl,RepAt.plain _ _ _ _ _ _ _⟩)
 generalize Deed (deedW w r rv dv) o K L n x=D at*;generalize Tried w o K L n (triedOf x)=Q at*;clear k1 f0 hf ok HC;obtain ⟨x1,x2,x3⟩:=x;dsimp only at HD;clear x3;unfold deedW Req.cells noRep RepS.cells at*;rcases hfn with rfl|rfl|rfl|rfl|rfl|rfl|rfl|rfl|rfl|rfl|rfl;all_goals
  go_enter_defers Tryz.func49,Tryz.ntmps49
  go_wp2_with fail;with_reducible refine HM.out.mono ?_
  rintro e w1 hD;obtain ⟨k1,hD⟩:=HD.out e w1 hD;have K11:=lH k1;clear k1 HD;rcases hD with ⟨ev,mv,rfl,hoc,hQ⟩|⟨rfl,hQ⟩
  ·have HOC:=lH hoc;have HQ:=lH hQ;clear hoc hQ;go_wp2_with (refine wpList_store_row rfl 29 (.tmp 6) (.tmp 11) rfl (w.heap.size+1) #[.int .i64 x2.e,.int .i64 x2.ino,.int .i64 x2.size,.int .i64 x2.handle,.int .i64 x2.swaps,.bool x2.dir,ev,mv] rfl rfl 29 _ K11.out Tryz.size29 rfl HOC.out ?_);go_wp2_with fail;refine leaves_cons (f:=90) (args:= #[.pointer (some ⟨w.heap.size+1,0,none⟩)]) (by simp) (by simp [go_sem]) ?_;refine (catch_idle ⟨w.heap.size+1,0,none⟩ _).mono ?_;rintro e u' w5 ⟨rfl,rfl,hw5⟩;have f5:Fr (fun k=>k=w.heap.size+1) w1 w5:=hw5▸(Fr.setRow (S:=fun k=>k=w.heap.size+1) (Fr.refl w1) (.inl rfl) #[.int .i64 x2.e,.int .i64 x2.ino,.int .i64 x2.size,.int .i64 x2.handle,.int .i64 x2.swaps,.bool x2.dir,ev,mv]).alloc _;have k5:w5.heap[w.heap.size+1]? =some (.cells #[.int .i64 x2.e,.int .i64 x2.ino,.int .i64 x2.size,.int .i64 x2.handle,.int .i64 x2.swaps,.bool x2.dir,ev,mv] 29 (0,0)):=by
    rw [hw5];exact ((Fr.refl (S:=No) _).alloc _).block_of (setRow_at K11.out) id
   obtain ⟨c0,c1,c2,c3,c4,c5,c6,c7⟩:=rows8 k5;have hq:=HQ.out w5 f5;simp [Leaves,settle,results,Tryz.results49,go_sem,c0,c1,c2,c3,c4,c5,c6,c7];exact hq
  ·have HQ:=lH hQ;clear hQ;refine leaves_cons (f:=90) (args:= #[.pointer (some ⟨w.heap.size+1,0,none⟩)]) (by simp) (by simp [go_sem]) ?_;refine (catch_ref (w.heap.size+1) x1 w1 _ K11.out rfl).mono ?_;rintro e u' w5 ⟨rfl,rfl,f5,k5⟩;have hq:=HQ.out w5 f5;unfold rep at hq;obtain ⟨c0,c1,c2,c3,c4,c5,c6,c7⟩:=rows8 k5;simp [Leaves,settle,results,Tryz.results49,go_sem,c0,c1,c2,c3,c4,c5,c6,c7];exact hq
end Go.Proofs.YtlcojhddnpmgmaaGreat
