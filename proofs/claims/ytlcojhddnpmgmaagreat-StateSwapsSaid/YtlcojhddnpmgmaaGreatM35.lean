/- Parts: How stripes compare: cmp.Compare, cmp.Or, order, and the closure of Stripes. Walked. All stripes in their order: Stripes. Walked. Plain law: what Apply does, case by case; what always holds of the window's rows and of the handles. No program is walked here. Plain law: a commit with an elder count of swaps is lost. No program is walked here. Are two rows of bytes the same? Walked. Maps copied: the laws; the handles cloned. Walked. StateSwaps: what was put ahead of a replacement is lost. Walked. (Printed by wip/tools/kigen.py.) -/
import Derived.Test.YtlcojhddnpmgmaaGreatM24
import Derived.Test.YtlcojhddnpmgmaaGreatM34
set_option linter.unusedSimpArgs false
set_option linter.unusedVariables false
set_option maxRecDepth 100000
namespace Go.Proofs.YtlcojhddnpmgmaaGreat
open Go.RowKit
def cmpI (a b : Int) : Int := if a < b then -1 else if b < a then 1 else 0
def stpO (x y : Stp) : Int := if cmpI x.1 y.1 ≠ 0 then cmpI x.1 y.1 else if cmpI x.2.1 y.2.1 ≠ 0 then cmpI x.2.1 y.2.1 else cmpI x.2.2 y.2.2
theorem cmpI_neg {a b : Int} : cmpI a b < 0 ↔ a < b := by unfold cmpI; split <;> (try split) <;> omega
theorem cmpI_zero {a b : Int} : cmpI a b = 0 ↔ a = b := by unfold cmpI; split <;> (try split) <;> omega
theorem stpO_lt (x y : Stp) : stpO x y < 0 ↔ (x.1 < y.1 ∨ x.1 = y.1 ∧ (x.2.1 < y.2.1 ∨ x.2.1 = y.2.1 ∧ x.2.2 < y.2.2)) := by
 unfold stpO
 have h1 := @cmpI_neg x.1 y.1
 have h2 := @cmpI_zero x.1 y.1
 have h3 := @cmpI_neg x.2.1 y.2.1
 have h4 := @cmpI_zero x.2.1 y.2.1
 have h5 := @cmpI_neg x.2.2 y.2.2
 split
 ·omega
 ·split <;> omega
theorem stpO_swo : Go.Sort.SWO (ltOf stpO) where
 irrefl x := by
  show decide (stpO x x < 0) = false
  rw [decide_eq_false_iff_not, stpO_lt]
  omega
 trans x y z h1 h2 := by
  have h1 : decide (stpO x y < 0) = true := h1
  have h2 : decide (stpO y z < 0) = true := h2
  show decide (stpO x z < 0) = true
  rw [decide_eq_true_eq, stpO_lt] at *
  omega
 ntrans x y z h1 h2 := by
  have h1 : decide (stpO x y < 0) = false := h1
  have h2 : decide (stpO y z < 0) = false := h2
  show decide (stpO x z < 0) = false
  rw [decide_eq_false_iff_not, stpO_lt] at *
  omega
theorem stpO_total (x y : Stp) (h1 : ltOf stpO x y = false) (h2 : ltOf stpO y x = false) : x = y := by
 have h1 : decide (stpO x y < 0) = false := h1
 have h2 : decide (stpO y x < 0) = false := h2
 rw [decide_eq_false_iff_not, stpO_lt] at *
 obtain ⟨a, b, c⟩ := x
 obtain ⟨a', b', c'⟩ := y
 simp only [Prod.mk.injEq]
 dsimp only at h1 h2
 omega
theorem nan_ (a : Int) (w : World) : Calls Tryz.prog 174 #[.int .i64 a] w fun e w' => e = .returned (.bool false) ∧ w' = w := by
 go_enter Tryz.func174, Tryz.ntmps174
 go_wp2_with fail
 go_ret
 exact ⟨by simp, rfl⟩
theorem cmp_ (a b : Int) (w : World) : Calls Tryz.prog 121 #[.int .i64 a, .int .i64 b] w fun e w' => e = .returned (.int .i64 (cmpI a b)) ∧ w' = w := by
 have H1 := Lib.hid (nan_ a w)
 have H2 := Lib.hid (nan_ b w)
 by_cases h1 : a < b
 ·have e : cmpI a b = -1 := if_pos h1
  rw [e]
  clear e
  go_enter Tryz.func121, Tryz.ntmps121
  go_wp2_with fail
  refine H1.out.mono ?_
  rintro e w1 ⟨rfl, hw⟩
  subst hw
  go_wp2_with fail
  refine H2.out.mono ?_
  rintro e w2 ⟨rfl, hw⟩
  subst hw
  go_wp2_with fail
  go_ret
  exact ⟨rfl, rfl⟩
 ·by_cases h2 : b < a
  ·have e : cmpI a b = 1 := (if_neg h1).trans (if_pos h2)
   rw [e]
   clear e
   go_enter Tryz.func121, Tryz.ntmps121
   go_wp2_with fail
   refine H1.out.mono ?_
   rintro e w1 ⟨rfl, hw⟩
   subst hw
   go_wp2_with fail
   refine H2.out.mono ?_
   rintro e w2 ⟨rfl, hw⟩
   subst hw
   go_wp2_with fail
   go_ret
   exact ⟨rfl, rfl⟩
  ·have e : cmpI a b = 0 := (if_neg h1).trans (if_neg h2)
   rw [e]
   clear e
   go_enter Tryz.func121, Tryz.ntmps121
   go_wp2_with fail
   refine H1.out.mono ?_
   rintro e w1 ⟨rfl, hw⟩
   subst hw
   go_wp2_with fail
   refine H2.out.mono ?_
   rintro e w2 ⟨rfl, hw⟩
   subst hw
   go_wp2_with fail
   go_ret
   exact ⟨rfl, rfl⟩
def or3 (x y z : Int) : Int := if x ≠ 0 then x else if y ≠ 0 then y else z
theorem or3_ (b : Nat) (x y z : Int) (w : World) (c0 : w.cell? ⟨b, 0, none⟩ = some (.int .i64 x)) (c1 : w.cell? ⟨b, 1, none⟩ = some (.int .i64 y)) (c2 : w.cell? ⟨b, 2, none⟩ = some (.int .i64 z)) :
  Calls Tryz.prog 120 #[.slice (some ⟨b, 0, none⟩) 3 3] w fun e w' => e = .returned (.int .i64 (or3 x y z)) ∧ w' = w := by
 by_cases h1 : x = 0
 ·subst h1
  by_cases h2 : y = 0
  ·subst h2
   have e : or3 0 0 z = z := by simp [or3]
   rw [e]
   clear e
   by_cases h3 : z = 0
   ·subst h3
    go_enter Tryz.func120, Tryz.ntmps120
    go_wp2_with fail
    refine wp_loop_rounds 4 ?_; rw [rounds_succ]
    go_wp2_with fail
    rw [rounds_succ]
    go_wp2_with fail
    rw [rounds_succ]
    go_wp2_with fail
    rw [rounds_succ]
    go_wp2_with fail
    go_ret
    exact ⟨rfl, rfl⟩
   ·have q : (z != 0) = true := by simpa using h3
    clear h3
    go_enter Tryz.func120, Tryz.ntmps120
    go_wp2_with fail
    refine wp_loop_rounds 4 ?_; rw [rounds_succ]
    go_wp2_with fail
    rw [rounds_succ]
    go_wp2_with fail
    rw [rounds_succ]
    go_wp2_with fail
    go_ret
    exact ⟨rfl, rfl⟩
  ·have e : or3 0 y z = y := by simp [or3, h2]
   have q : (y != 0) = true := by simpa using h2
   rw [e]
   clear e h2
   go_enter Tryz.func120, Tryz.ntmps120
   go_wp2_with fail
   refine wp_loop_rounds 4 ?_; rw [rounds_succ]
   go_wp2_with fail
   rw [rounds_succ]
   go_wp2_with fail
   go_ret
   exact ⟨rfl, rfl⟩
 ·have e : or3 x y z = x := by simp [or3, h1]
  have q : (x != 0) = true := by simpa using h1
  rw [e]
  clear e h1
  go_enter Tryz.func120, Tryz.ntmps120
  go_wp2_with fail
  refine wp_loop_rounds 4 ?_; rw [rounds_succ]
  go_wp2_with fail
  go_ret
  exact ⟨rfl, rfl⟩
theorem or3_stp (x y : Stp) : or3 (cmpI x.1 y.1) (cmpI x.2.1 y.2.1) (cmpI x.2.2 y.2.2) = stpO x y := rfl
set_option maxHeartbeats 3200000 in
theorem order_ (x y : Stp) (w : World) : Calls Tryz.prog 64 #[stpV x, stpV y] w fun e w' => e = .returned (.int .i64 (stpO x y)) ∧ w' = (((w.alloc (.cells #[.int .i64 x.1, .int .i64 x.2.1, .int .i64 x.2.2] 46)).alloc (.cells #[.int .i64 y.1, .int .i64 y.2.1, .int .i64 y.2.2] 46)).alloc (.cells #[.int .i64 (cmpI x.1 y.1), .int .i64 (cmpI x.2.1 y.2.1), .int .i64 (cmpI x.2.2 y.2.2)] 3)).drew := by
 have mixed : Tryz.prog.follows .mixedOrders = true := by kernel_rfl
 have f1 : Fr No (w.alloc (.cells #[.int .i64 x.1, .int .i64 x.2.1, .int .i64 x.2.2] 46)) ((w.alloc (.cells #[.int .i64 x.1, .int .i64 x.2.1, .int .i64 x.2.2] 46)).alloc (.cells #[.int .i64 y.1, .int .i64 y.2.1, .int .i64 y.2.2] 46)) := (Fr.refl _).alloc _
 have k0 := f1.block_of (new_at w (.cells #[.int .i64 x.1, .int .i64 x.2.1, .int .i64 x.2.2] 46)) id
 have k1 := new_at (w.alloc (.cells #[.int .i64 x.1, .int .i64 x.2.1, .int .i64 x.2.2] 46)) (.cells #[.int .i64 y.1, .int .i64 y.2.1, .int .i64 y.2.2] 46)
 rw [show (w.alloc (.cells #[.int .i64 x.1, .int .i64 x.2.1, .int .i64 x.2.2] 46)).heap.size = w.heap.size + 1 by simp] at k1
 rw [← or3_stp]
 obtain ⟨xc, xl, xn⟩ := x
 obtain ⟨yc, yl, yn⟩ := y
 unfold stpV
 dsimp only at k0 k1 ⊢
 clear f1
 go_enter Tryz.func64, Tryz.ntmps64
 go_wp2_with fail
 generalize hwA : (w.alloc (.cells #[.int .i64 xc, .int .i64 xl, .int .i64 xn] 46)).alloc (.cells #[.int .i64 yc, .int .i64 yl, .int .i64 yn] 46) = wA at *
 have HWA := Lib.hid hwA
 clear hwA
 generalize w.heap.size = b0 at *
 have a0 : wA.cell? ⟨b0, 0, none⟩ = some (.int .i64 xc) := by rw [cell_at k0]; rfl
 have a1 : wA.cell? ⟨b0, 1, none⟩ = some (.int .i64 xl) := by rw [cell_at k0]; rfl
 have a2 : wA.cell? ⟨b0, 2, none⟩ = some (.int .i64 xn) := by rw [cell_at k0]; rfl
 have b0' : wA.cell? ⟨b0 + 1, 0, none⟩ = some (.int .i64 yc) := by rw [cell_at k1]; rfl
 have b1 : wA.cell? ⟨b0 + 1, 1, none⟩ = some (.int .i64 yl) := by rw [cell_at k1]; rfl
 have b2 : wA.cell? ⟨b0 + 1, 2, none⟩ = some (.int .i64 yn) := by rw [cell_at k1]; rfl
 clear k0 k1
 refine wp_region_text mixed (fun W => W = wA.drew) [15, 16, 17] (by kernel_rfl) (by kernel_rfl) (by kernel_rfl) (by kernel_rfl) (fun _ _ d _ _ h => by cases d <;> exact h) rfl ?_
 repeat (first
  | refine seqX_skip (by rfl) ?_
  | (refine seqX_val (v := ?_) (by rfl) (by rfl) ?_ ?_
     rotate_left 1
     (intro W; go_simp; (try with_reducible rfl))
     simp only [Act.put, lsA, lsZ, lsS])
  | (refine seqX_call (v := .int .i64 (cmpI xc yc)) 121 #[.int .i64 xc, .int .i64 yc] (by rfl) (by kernel_rfl) (by rfl) ?_ (fun w' hS => (cmp_ _ _ _).mono (fun e w'' h => ⟨h.1, h.2.trans hS⟩)) ?_
     focus (intro W; go_simp; done)
     simp only [Act.put, lsA, lsZ, lsS])
  | (refine seqX_call (v := .int .i64 (cmpI xl yl)) 121 #[.int .i64 xl, .int .i64 yl] (by rfl) (by kernel_rfl) (by rfl) ?_ (fun w' hS => (cmp_ _ _ _).mono (fun e w'' h => ⟨h.1, h.2.trans hS⟩)) ?_
     focus (intro W; go_simp; done)
     simp only [Act.put, lsA, lsZ, lsS])
  | (refine seqX_call (v := .int .i64 (cmpI xn yn)) 121 #[.int .i64 xn, .int .i64 yn] (by rfl) (by kernel_rfl) (by rfl) ?_ (fun w' hS => (cmp_ _ _ _).mono (fun e w'' h => ⟨h.1, h.2.trans hS⟩)) ?_
     focus (intro W; go_simp; done)
     simp only [Act.put, lsA, lsZ, lsS])
  | (refine seqX_valS (v := ?_) (by rfl) (by kernel_rfl) (by rfl) ?_ ?_
     rotate_left 1
     (intro W hS; have hS' : W = wA.drew := hS; subst hS'; go_simp; (try with_reducible rfl))
     simp only [Act.put, lsA, lsZ, lsS]))
 intro W hS
 obtain rfl : W = wA.drew := hS
 simp only [List.reverse_cons, List.reverse_nil, List.nil_append, List.cons_append]
 go_wp2_with fail
 have k5 := new_at wA (.cells #[.int .i64 (cmpI xc yc), .int .i64 (cmpI xl yl), .int .i64 (cmpI xn yn)] 3)
 refine (or3_ _ (cmpI xc yc) (cmpI xl yl) (cmpI xn yn) _ ((Fr.refl (S := No) _).drew.cell_of (by rw [cell_at k5]; rfl) id) ((Fr.refl (S := No) _).drew.cell_of (by rw [cell_at k5]; rfl) id) ((Fr.refl (S := No) _).drew.cell_of (by rw [cell_at k5]; rfl) id)).mono ?_
 rintro e w2 ⟨rfl, hw⟩
 subst hw
 go_wp2_with fail
 go_ret
 exact ⟨rfl, by rw [HWA.out]⟩
def useC (U : Stp → Option Us) (x : Stp) : List Value := [.int .i64 x.1, .int .i64 x.2.1, .int .i64 x.2.2, .int .i64 ((U x).getD (0, 0, 0)).1, .int .i64 ((U x).getD (0, 0, 0)).2.1, .int .i64 ((U x).getD (0, 0, 0)).2.2]
set_option maxHeartbeats 1600000 in
theorem useCmp_ (x y : Stp) (s1 l1 b1 s2 l2 b2 : Int) (W : World) : Calls Tryz.prog 63 #[.agg #[.int .i64 x.1, .int .i64 x.2.1, .int .i64 x.2.2, .int .i64 s1, .int .i64 l1, .int .i64 b1], .agg #[.int .i64 y.1, .int .i64 y.2.1, .int .i64 y.2.2, .int .i64 s2, .int .i64 l2, .int .i64 b2]] W fun e w' => e = .returned (.int .i64 (stpO x y)) ∧ ∃ q os', w' = Go.Sort.grow (W.drewN q) os' := by
 have HO := fun W' => order_ x y W'
 unfold stpV at HO
 go_enter Tryz.func63, Tryz.ntmps63
 go_wp2_with (go_at_call 64; refine (HO _).mono ?_; rintro e w' ⟨rfl, hw⟩; subst hw)
 go_ret
 exact ⟨rfl, 1, _, by
  simp only [Go.Sort.alloc_eq_grow, Go.Sort.grow_grow]
  rfl⟩
end Go.Proofs.YtlcojhddnpmgmaaGreat
namespace Go.Proofs.YtlcojhddnpmgmaaGreat
open Go.RowKit Go.Sort Go.Shelf
theorem flatK_gen {α : Type} [Inhabited α] (c : α → List Value) (n : Nat) (hc : ∀ x, (c x).length = n) (hn : 0 < n) (ss : List α) : flatK c n ss.toArray = (ss.flatMap c).toArray := by
 have hlen := flat_len hc ss
 apply ext_get!
 ·rw [size_flatK]; simp [hlen]
 ·intro t ht
  rw [size_flatK] at ht
  rw [get_flatK _ _ _ _ ht]
  have h1 : t / n < ss.length := by
   rw [List.size_toArray] at ht
   exact (Nat.div_lt_iff_lt_mul hn).2 ht
  have h2 : t % n < n := Nat.mod_lt _ hn
  have h3 : ss[t / n]? = some ss[t / n] := List.getElem?_eq_getElem h1
  have h4 : (c ss[t / n])[t % n]? = some ((c ss[t / n])[t % n]'(by rw [hc]; exact h2)) := List.getElem?_eq_getElem _
  have h5 := flat_get hc ss (t / n) _ h3 (t % n) _ h4
  rw [show t / n * n + t % n = t by rw [Nat.mul_comm]; exact Nat.div_add_mod t n] at h5
  have e1 : ss.toArray[t / n]! = ss[t / n] := by simp [h1]
  rw [e1]
  rw [show ((ss.flatMap c).toArray)[t]! = ((ss.flatMap c)[t]?).getD default by simp, h5]
  rw [Option.getD_some, List.getElem!_eq_getElem?_getD, h4]
  rfl
theorem holdsK_gen {α : Type} [Inhabited α] {c : α → List Value} {n : Nat} (hc : ∀ x, (c x).length = n) (hn : 0 < n) {t : TypeId} {w : World} {g : Nat} {ss : List α} {cur : Array Value} (hh : w.heap[g]? = some (.cells cur t (0, 0))) (ht : cur.toList.take (ss.length * n) = ss.flatMap c) : HoldsK c n w g 0 ss.toArray := by
 intro j hj
 rw [size_flatK] at hj
 have hj' : j < ss.length * n := by simpa using hj
 refine ⟨?_, by simp [World.frozen?, hh]⟩
 rw [flatK_gen c n hc hn]
 have hlen := flat_len hc ss
 have h1 : (cur.toList.take (ss.length * n))[j]? = (ss.flatMap c)[j]? := by rw [ht]
 rw [List.getElem?_take_of_lt hj'] at h1
 simp only [World.cell?, hh, Nat.zero_add]
 simp only [Option.isSome_none, Bool.false_eq_true, if_false]
 rw [← Array.getElem?_toList, h1]
 rw [List.getElem?_eq_getElem (by omega)]
 simp [hlen, hj']
def stpLe (x y : Stp) : Bool := !(ltOf stpO y x)
theorem useC_len (U : Stp → Option Us) (x : Stp) : (useC U x).length = 6 := rfl
theorem useC_one (U : Stp → Option Us) (x : Stp) : ∀ v ∈ useC U x, v.oneCell' = true := fun v hv => by
 simp only [useC, List.mem_cons, List.not_mem_nil, or_false] at hv
 rcases hv with rfl | rfl | rfl | rfl | rfl | rfl <;> rfl
theorem sortU_ (U : Stp → Option Us) (ss : List Stp) (base : Nat) (v : Value) (w : World) (h : w.ownsRow base 80 6 v ss.length (ss.flatMap (useC U))) (hs : ss.length < 10000000) :
  Calls Tryz.prog 62 #[v, .func (.func 63) #[] #[]] w fun e w' => e = .returned (.tuple #[]) ∧ Fr (fun k => base ≤ k) w w' ∧ RowNew (useC U) 6 80 w' base v (ss.mergeSort stpLe) := by
 rcases h.2 with ⟨rfl, h0⟩ | ⟨g, cap, cur, rfl, hb, hh, h1, h2, h3, h4⟩
 ·have hs0 := List.eq_nil_of_length_eq_zero h0
  subst hs0
  have hcon := AnyF.slices_SortFunc_none (P := Tryz.prog) (ρ := Tryz.sortU_ren) { Tryz.sortU with } none 0 (.func (.func 63) #[] #[]) w
  change Calls Tryz.prog 62 _ _ _ at hcon
  refine hcon.mono ?_
  rintro e w' ⟨rfl, rfl⟩
  exact ⟨rfl, Fr.refl _, .inl ⟨rfl, by simp⟩⟩
 ·have hH := holdsK_gen (useC_len U) (by omega) hh h4
  have eg : ∀ args w, (callFunc 63 args).run Tryz.prog w = .ok (.enter 63 args) w := enters_of Tryz.func63 (by kernel_rfl) rfl
  have hcon := AnyQ.slices_SortFunc_total Tryz.sortU 6 Tryz.isAgg80 Tryz.sizeOf80 (useC U) (useC_len U) (fun x v hv => useC_one U x v hv) stpO stpO_swo 63 #[] g 0 cap ss.toArray w eg
   (fun m os dk _ x y => useCmp_ x y _ _ _ _ _ _ _) hH (lt_of_block hh) (by simp; omega) stpO_total
  change Calls Tryz.prog 62 _ _ _ at hcon
  rw [show ss.toArray.size = ss.length by simp, show ss.toArray.toList = ss by simp] at hcon
  refine hcon.mono ?_
  rintro e w' ⟨rfl, n, os, rfl⟩
  have hl : (ss.mergeSort stpLe).length = ss.length := List.length_mergeSort _
  have hfin : HoldsK (useC U) 6 (sortWorldK (useC U) 6 w g 0 n (ss.mergeSort stpLe).toArray os) g 0 (ss.mergeSort stpLe).toArray := by
   unfold sortWorldK
   refine holdsK_grow _ _ _ _ _ _ _ ?_ (holdsK_putRowK _ _ _ _ _ _ _ (holdsK_ahead _ _ _ n _ _ _ hH) (by simp [hl]))
   unfold putRowK
   simpa [Go.Sort.ahead] using lt_of_block hh
  refine ⟨rfl, (fr_sortedK _).mono (fun k _ e => by rw [e]; exact hb), .inr ⟨g, cap, by rw [hl], h2, hb, ⟨⟨_, heap_sortedK _ hh, ?_⟩, by rw [hl]; exact h1, fun j x hj i u hu => ?_⟩⟩⟩
  ·simp only [Go.Sort.putCells, Array.size_mapIdx]; omega
  ·have hjl : j < (ss.mergeSort stpLe).length := (List.getElem?_eq_some_iff.1 hj).1
   have hi6 : i < 6 := (List.getElem?_eq_some_iff.1 hu).1
   have hc := (hfin.cell (i := j) (c := i) (by simpa using hjl) hi6).1
   rw [Nat.zero_add] at hc
   refine hc.trans ?_
   have e1 : (ss.mergeSort stpLe).toArray[j]! = x := by
    rw [List.getElem?_eq_getElem hjl] at hj
    cases hj
    exact (getElem!_pos (ss.mergeSort stpLe).toArray j (by simpa using hjl)).trans rfl
   rw [e1, List.getElem!_eq_getElem?_getD, hu]
   rfl
def StripesPost (w : World) (U : Stp → Option Us) (e : Ending) (w' : World) : Prop :=
 ∃ v ss, e = .returned v ∧ RowNew (useC U) 6 80 w' w.heap.size v ss ∧ ss.Nodup ∧ (∀ x, x ∈ ss ↔ (U x).isSome = true) ∧ ss.Pairwise (fun x y => stpLe x y = true) ∧ Fr No w w'
theorem stpLe_iff (x y : Stp) : stpLe x y = true ↔ ¬ stpO y x < 0 := by
 show (!decide (stpO y x < 0)) = true ↔ _
 simp
theorem stp_sorted (ss : List Stp) : (ss.mergeSort stpLe).Pairwise (fun x y => stpLe x y = true) :=
 List.pairwise_mergeSort (fun x y z h1 h2 => by rw [stpLe_iff, stpO_lt] at *; omega) (fun x y => by
  rw [Bool.or_eq_true, stpLe_iff, stpLe_iff, stpO_lt, stpO_lt]
  omega) _
theorem Tryz.info80 : (Tryz.prog.info? 80).map (fun i => (i.zero, i.size, i.bytes)) = some (some (.agg #[.int .i64 0, .int .i64 0, .int .i64 0, .int .i64 0, .int .i64 0, .int .i64 0]), 6, 48) := by kernel_rfl
set_option maxHeartbeats 3200000 in
theorem gstripes_ (o : Nat → Nat) (K n : Nat) (L : Plc) (S : St) (w : World) (h : StateAt w o K L S n) (hf : Fresh w o) (hn : n ≤ 1000000) :
  Calls Tryz.prog 27 #[.pointer (some ⟨L.s, 0, none⟩)] w (StripesPost w S.U) := by
 have HMD := Lib.hid (gmade_ o K n L S w h)
 have c12 : w.cell? ⟨L.s, 12, none⟩ = some (.map (some L.us)) := h.cell 12
 obtain ⟨_, cu, hcu, hum⟩ := h.uses
 obtain ⟨w2, hr, R2, f2, hs2⟩ := hum.range (t := 101) (e := 80) Tryz.underlying101
 have hult : L.us < w.heap.size := hum.lt
 have HUM := Lib.hid hum
 have HQ : Hid (∀ v w' ss, RowNew (useC S.U) 6 80 w' w.heap.size v ss → ss.Nodup → (∀ x, x ∈ ss ↔ (S.U x).isSome = true) → ss.Pairwise (fun x y => stpLe x y = true) → Fr No w w' → StripesPost w S.U (.returned v) w') := Lib.hid (fun v w' ss h1 h2 h3 h4 f => ⟨v, ss, rfl, h1, h2, h3, h4, f⟩)
 generalize StripesPost w S.U = Q at *
 generalize S.U = U at *
 have RR2 := Lib.hid R2
 have F2 := Lib.hid f2
 have hcu1 : cu ≤ 1000000 := Nat.le_trans hcu hn
 obtain ⟨i0, hi, hz0, hz1, hz2⟩ := info_parts Tryz.info80
 have HI := Lib.hid hi
 have HZ0 := Lib.hid hz0
 have HZ1 := Lib.hid hz1
 have HZ2 := Lib.hid hz2
 have HS2 := Lib.hid hs2
 clear hi hz0 hz1 hz2 h hf hum R2 f2 hs2 hcu hn
 go_enter Tryz.func27, Tryz.ntmps27
 go_wp2_with fail
 refine HMD.out.mono ?_
 rintro e w1 ⟨rfl, hw⟩
 subst hw
 go_wp2_with fail
 go_loopw [3] (fun v wr => ∃ (ss : List Stp) (left : Stp → Bool) (cnt : Nat), Hid (RangeAt encU wr L.us w1.heap.size cu (usem U) left cnt) ∧ Hid (∀ s : Stp, stpGood s → (left s = true ↔ (U s).isSome = true ∧ s ∉ ss)) ∧ Hid (wr.ownsRow (w1.heap.size + 1) 80 6 v ss.length (ss.flatMap (useC U))) ∧ Hid ss.Nodup ∧ Hid (∀ s ∈ ss, (U s).isSome = true) ∧ Hid (Fr No w1 wr) ∧ cnt + ss.length ≤ cu ∧ w1.heap.size + 1 ≤ wr.heap.size) (fun _ wr => wr.rangeLeft L.us w1.heap.size)
 case atStart =>
  refine ⟨[], _, _, RR2, Lib.hid (fun s _ => ?_), Lib.hid ⟨rfl, .inl ⟨rfl, rfl⟩⟩, Lib.hid List.nodup_nil, Lib.hid (by simp), F2, by simp, by have := HS2.out; omega⟩
  unfold usem
  cases U s <;> simp
 case round =>
  obtain ⟨ss, left, cnt, HRA, HLF, HOWN, HND, HIN, HFR, hcnt, hsz⟩ := hrel
  obtain ⟨a, cc, rfl⟩ := HOWN.out.shape
  rcases HRA.out.next 0 with ⟨_, hno, hnx⟩ | ⟨x, y, w4, cnt', hms, hls, hnx, hra', hlt', f4, hs4, hen⟩
  ·have hall : ∀ s, s ∈ ss ↔ (U s).isSome = true := fun s => ⟨HIN.out s, fun h => by
    obtain ⟨u0, hu0⟩ := Option.isSome_iff_exists.1 h
    have hg : stpGood s := (HUM.out.good (x := s) (y := (s, u0)) (by unfold usem; rw [hu0]; rfl)).1
    apply Classical.byContradiction
    intro hn
    have := (HLF.out s hg).2 ⟨h, hn⟩
    rw [hno s hg] at this
    cases this⟩
   have HALL := Lib.hid hall
   clear hall hno
   go_wp2_with fail
   refine (sortU_ U ss (w1.heap.size + 1) _ wr HOWN.out (by omega)).mono ?_
   rintro e w6 ⟨rfl, f6, hes⟩
   have hfin : Fr No w1 w6 := ((HFR.out.of_no (S := fun k => w1.heap.size + 1 ≤ k)).trans f6 (fun j _ h => h)).no (fun j hj h => by omega)
   have hrow : RowNew (useC U) 6 80 w6 w1.heap.size (.slice a ss.length cc) (ss.mergeSort stpLe) := by
    rcases hes with h | ⟨b, c, e, h1, h2, h3⟩
    ·exact .inl h
    ·exact .inr ⟨b, c, e, h1, by omega, h3⟩
   have H1 := Lib.hid hfin
   have H2 := Lib.hid hrow
   clear f6 hes hfin hrow
   go_wp2_with fail
   exact HQ.out _ _ _ H2.out ((List.mergeSort_perm ss stpLe).nodup_iff.2 HND.out) (fun x => (List.mergeSort_perm ss stpLe).mem_iff.trans (HALL.out x)) (stp_sorted ss) H1.out
  ·obtain ⟨u, hu, rfl⟩ : ∃ u, U x = some u ∧ y = (x, u) := by
    unfold usem at hms
    cases h : U x with
    | none => rw [h] at hms; cases hms
    | some u =>
     rw [h] at hms
     cases hms
     exact ⟨u, rfl, rfl⟩
   have hgx : stpGood x := (HRA.out.map.good hms).1
   obtain ⟨_, hnin⟩ := (HLF.out x hgx).1 hls
   have F4 : Hid (Fr No w1 w4) := Lib.hid (HFR.out.trans f4 (fun j hj e => by omega))
   have O4 : Hid (w4.ownsRow (w1.heap.size + 1) 80 6 (.slice a ss.length cc) ss.length (ss.flatMap (useC U))) := Lib.hid (ownR_fr HOWN.out f4 (fun j hj e => by have := ownR_base HOWN.out j hj; omega))
   have R4 := Lib.hid hra'
   have hnx' : (Instr.next (.pointer (some ⟨w1.heap.size, 0, none⟩)) false 0).run Tryz.prog wr = .ok (.tuple #[.bool true, .agg #[.int .i64 x.1, .int .i64 x.2.1, .int .i64 x.2.2], .agg #[.int .i64 x.1, .int .i64 x.2.1, .int .i64 x.2.2, .int .i64 u.1, .int .i64 u.2.1, .int .i64 u.2.2]]) w4 := hnx
   have hen' : (Instr.entry (.pointer (some ⟨w1.heap.size, 0, none⟩))).run Tryz.prog w4 = .ok (.tuple #[.agg #[.int .i64 x.1, .int .i64 x.2.1, .int .i64 x.2.2], .agg #[.int .i64 x.1, .int .i64 x.2.1, .int .i64 x.2.2, .int .i64 u.1, .int .i64 u.2.1, .int .i64 u.2.2]]) w4 := hen
   have HLE : Hid (wr.rangeLeft L.us w1.heap.size = cnt) := Lib.hid HRA.out.left_eq
   have HLT := Lib.hid hlt'
   have HN : Hid (∀ s : Stp, stpGood s → ((left s && decide (s ≠ x)) = true ↔ (U s).isSome = true ∧ s ∉ ss ++ [x])) := Lib.hid (fun s hs => by
    rw [Bool.and_eq_true, decide_eq_true_eq, HLF.out s hs, List.mem_append, List.mem_singleton]
    constructor
    ·rintro ⟨⟨h1, h2⟩, h3⟩
     exact ⟨h1, fun h => h.elim h2 h3⟩
    ·rintro ⟨h1, h2⟩
     exact ⟨⟨h1, fun h => h2 (.inl h)⟩, fun h => h2 (.inr h)⟩)
   have HND2 : Hid (ss ++ [x]).Nodup := Lib.hid (by
    rw [List.nodup_append]
    exact ⟨HND.out, by simp, fun a ha b hb e => by
     rw [List.mem_singleton] at hb
     subst hb
     subst e
     exact hnin ha⟩)
   have HIN2 : Hid (∀ s ∈ ss ++ [x], (U s).isSome = true) := Lib.hid (fun s hs => by
    rcases List.mem_append.1 hs with h | h
    ·exact HIN.out s h
    ·rw [List.mem_singleton] at h
     rw [h, hu]; rfl)
   have HUC : Hid (useC U x = [.int .i64 x.1, .int .i64 x.2.1, .int .i64 x.2.2, .int .i64 u.1, .int .i64 u.2.1, .int .i64 u.2.2]) := Lib.hid (by unfold useC; rw [hu]; rfl)
   have hs4' : w4.heap.size = wr.heap.size := hs4
   have RA : Hid (((w4.alloc (.cells #[.int .i64 x.1, .int .i64 x.2.1, .int .i64 x.2.2, .int .i64 u.1, .int .i64 u.2.1, .int .i64 u.2.2] 80)).rangeAt w4.heap.size 0 [.int .i64 x.1, .int .i64 x.2.1, .int .i64 x.2.2, .int .i64 u.1, .int .i64 u.2.1, .int .i64 u.2.2])) := Lib.hid (World.rangeAt_of_block (new_at w4 _) 0 6)
   have SZ := Lib.hid hs4'
   clear hnx hen hra' f4 hs4 hms hls hlt' hnin hu hs4'
   go_wp2_with (first | (refine wpList_load_mid (by rfl) 80 _ (by rfl) w4.heap.size 0 (by rfl) [.int .i64 x.1, .int .i64 x.2.1, .int .i64 x.2.2, .int .i64 u.1, .int .i64 u.2.1, .int .i64 u.2.2] _ RA.out Tryz.underlying80 rfl Tryz.size80 ?_) | (at_builtin; (refine wpList_append_lies _ (by rfl) _ _ 65 (by rfl) (w1.heap.size + 1) 80 i0 _ 6 48 Tryz.underlying65 HI.out HZ0.out HZ1.out HZ2.out rfl (by decide) (.slice a ss.length cc) ss.length (ss.flatMap (useC U)) (by rfl) ((O4.out.alloc _).alloc _) ⟨w4.heap.size + 1, 0, none⟩ 1 1 [.int .i64 x.1, .int .i64 x.2.1, .int .i64 x.2.2, .int .i64 u.1, .int .i64 u.2.1, .int .i64 u.2.2] (by rfl) (by rfl) ?d1 (by simp [Value.oneCell']) (by decide) (by unfold maxLen; omega) (by omega) ?d5 (w4.heap.size + 1 + 1) ?d6 ?_)))
   case d1 =>
    have h5 := World.news_of_block (cs := #[.int .i64 x.1, .int .i64 x.2.1, .int .i64 x.2.2, .int .i64 u.1, .int .i64 u.2.1, .int .i64 u.2.2]) (t := 80) (fr := (0, 0)) (heap_alloc_new (w4.alloc (.cells #[.int .i64 x.1, .int .i64 x.2.1, .int .i64 x.2.2, .int .i64 u.1, .int .i64 u.2.1, .int .i64 u.2.2] 80)) _)
    rw [heap_size_alloc] at h5
    exact h5
   case d5 => rw [heap_size_alloc, heap_size_alloc]; have := SZ.out; omega
   case d6 => simp
   intro gg cap wD hownD hgrow hat hgl
   have HNL : Hid (Fr No w1 wD) := Lib.hid (((F4.out.alloc _).alloc _).grown hgrow (fun j hj => .inr (by have := ownR_base O4.out j hj; omega)))
   have HG4 : Fr (fun k => w1.heap.size + 1 ≤ k) w4 wD := (((Fr.refl (S := fun k => w1.heap.size + 1 ≤ k) w4).alloc _).alloc _).grown hgrow (fun j hj => .inl (ownR_base O4.out j hj))
   have RD := Lib.hid (R4.out.fr HG4 (by omega) (by omega))
   have HOD := Lib.hid hownD
   have hsD : w1.heap.size + 1 ≤ wD.heap.size := Nat.le_trans (by have := SZ.out; omega) HG4.size
   clear hownD hgrow hat hgl HG4
   go_wp2_with fail
   go_roundw
   case rel =>
    refine ⟨ss ++ [x], _, cnt', RD, HN, Lib.hid ?_, HND2, HIN2, HNL, by rw [List.length_append, List.length_singleton]; have := HLT.out; omega, hsD⟩
    have h9 := HOD.out
    rw [List.flatMap_append, List.length_append]
    simp only [List.flatMap_cons, List.flatMap_nil, List.append_nil, List.length_singleton]
    rw [HUC.out]
    exact h9
   case measure =>
    rw [RD.out.left_eq, HLE.out]
    exact HLT.out
end Go.Proofs.YtlcojhddnpmgmaaGreat
namespace Go.Proofs.YtlcojhddnpmgmaaGreat
open Go.RowKit
inductive Deeds (r : Req) (st : List Sz) (dl : List Dl) (B : St) : St → Prop
 | same : Deeds r st dl B B
 | make : r.kind = 1 → (makeOf B.T r.path).1 = 0 → Deeds r st dl B (makeS B r)
 | remove : r.kind = 2 → (lookOf B.T r.path).1 = 0 → mayRemove B r → (removeOf B.T r.path r.dir).1 = 0 → Deeds r st dl B (removeS B r)
 | move : r.kind = 3 → moveE B.T r.path r.to = 0 → Deeds r st dl B { B with T := movedT B.T r.path r.to }
 | opens : r.kind = 6 → (lookOf B.T r.path).1 = 0 → (lookOf B.T r.path).2.2 = false → (openOf B.K r.c (lookOf B.T r.path).2.1 r.wr).1 = 0 → Deeds r st dl B { B with K := (openOf B.K r.c (lookOf B.T r.path).2.1 r.wr).2.2 }
 | commit (x : Tok) : r.kind = 7 → ofT B.K r.c r.h = some x → ¬ (x.wr = false ∧ ¬ (dl = [] ∧ st = [])) → (stripesE B r.sw r.nx st r.c r.l).1 = 0 → (∀ d ∈ dl, dlOk (stripesE B r.sw r.nx st r.c r.l).2 x.i d) →
   Deeds r st dl B { commitS B st dl r.c.toNat r.nx x.i.toNat with K := closedK r.cl B.K x }
theorem deeds_all (B : St) (r : Req) (st : List Sz) (dl : List Dl) (hk : 1 ≤ r.kind ∧ r.kind ≤ 8) : Deeds r st dl B (deedF r st dl r.kind B).2.2 ∧ ((deedF r st dl r.kind B).1 ≠ 0 → (deedF r st dl r.kind B).2.2 = B) := by
 unfold deedF
 split
 ·rename_i h
  unfold makeD
  split
  ·rename_i h1
   exact ⟨.make h h1, fun e => absurd rfl e⟩
  ·exact ⟨.same, fun _ => rfl⟩
 ·split
  ·rename_i h
   unfold removeD
   split
   ·exact ⟨.same, fun _ => rfl⟩
   ·rename_i h1
    split
    ·exact ⟨.same, fun _ => rfl⟩
    ·rename_i h2
     split
     ·exact ⟨.same, fun _ => rfl⟩
     ·rename_i h3
      exact ⟨.remove h (Classical.byContradiction h1) (Classical.byContradiction h2) (Classical.byContradiction h3), fun e => absurd rfl e⟩
  ·split
   ·rename_i h
    unfold moveD
    split
    ·rename_i h1
     exact ⟨.move h h1, fun e => absurd rfl e⟩
    ·exact ⟨.same, fun _ => rfl⟩
   ·split
    ·unfold lookD; split <;> exact ⟨.same, fun _ => rfl⟩
    ·split
     ·unfold listD; split <;> exact ⟨.same, fun _ => rfl⟩
     ·split
      ·rename_i h
       unfold openD
       split
       ·exact ⟨.same, fun _ => rfl⟩
       ·rename_i h1
        split
        ·exact ⟨.same, fun _ => rfl⟩
        ·rename_i h2
         split
         ·exact ⟨.same, fun _ => rfl⟩
         ·rename_i h3
          exact ⟨.opens h (Classical.byContradiction h1) (by simpa using h2) (Classical.byContradiction h3), fun e => absurd rfl e⟩
      ·split
       ·rename_i h
        unfold commitD
        split
        ·exact ⟨.same, fun _ => rfl⟩
        ·rename_i x hx
         split
         ·exact ⟨.same, fun _ => rfl⟩
         ·rename_i h1
          split
          ·exact ⟨.same, fun _ => rfl⟩
          ·rename_i h2
           split
           ·exact ⟨.same, fun _ => rfl⟩
           ·rename_i h3
            exact ⟨.commit x h hx h1 (Classical.byContradiction h2) (Classical.byContradiction h3), fun e => absurd rfl e⟩
       ·unfold mapD
        split <;> exact ⟨.same, fun _ => rfl⟩
inductive Turns (S : St) (r : Req) (st : List Sz) (dl : List Dl) : St → Prop
 | same : Turns S r st dl S
 | boot : Turns S r st dl (bootS S)
 | swap : Turns S r st dl (swapS S)
 | moved : r.c = 4 ∧ r.l = S.boots → (stripesE S r.sw r.nx st 4 S.boots).1 = 0 → (∀ d ∈ dl, mvOk (stripesE S r.sw r.nx st 4 S.boots).2 d) → Turns S r st dl (movedS S st dl r.nx)
 | asked (kd : Int) (bs : List UInt8) (D : St) : mayP r.c r.l r.q → kd = 0 ∨ kd = 3 → askOf S.W r.c r.l r.q = (kd, none) → Deeds r st dl (askB S r.c.toNat kd) D → Turns S r st dl { D with W := upd S.W r.c.toNat (some (r.l, r.q, bs)) }
theorem askB_W (S : St) (c : Nat) (kind : Int) : (askB S c kind).W = S.W := by unfold askB; split <;> rfl
theorem turns_all {S : St} {r : Req} {st : List Sz} {dl : List Dl} {x : RepS × St} (hd : Did S r st dl x) : Turns S r st dl x.2 := by
 unfold Did at hd
 split at hd
 ·rw [hd]
  show Turns S r st dl (triedOf (bootD S r)).2
  rw [triedOf_st]
  unfold bootD
  split
  ·exact .boot
  ·exact .same
 ·split at hd
  ·rw [hd]
   show Turns S r st dl (triedOf (swapD S r)).2
   rw [triedOf_st]
   unfold swapD
   split
   ·exact .swap
   ·exact .same
  ·split at hd
   ·rw [hd]
    show Turns S r st dl (triedOf (movedD S r st dl)).2
    rw [triedOf_st]
    unfold movedD
    split
    ·exact .same
    ·rename_i h1
     split
     ·exact .same
     ·rename_i h2
      split
      ·exact .same
      ·rename_i h3
       exact .moved (Classical.byContradiction h1) (Classical.byContradiction h2) (Classical.byContradiction h3)
   ·split at hd
    ·rw [hd]; exact .same
    ·rename_i hk
     split at hd
     ·rw [hd.1]; exact .same
     ·split at hd
      ·rw [hd]; exact .same
      ·rename_i hk1 hk2
       rcases ask_cases S.W r.c r.l r.q with ha | ⟨hc, ha⟩
       ·rw [ha] at hk2; exact absurd rfl hk2
       ·have hm : mayP r.c r.l r.q := by
         by_cases hm : mayP r.c r.l r.q
         ·exact hm
         ·have : askOf S.W r.c r.l r.q = (2, none) := if_neg hm
          rw [this] at hk2; exact absurd rfl hk2
        have he : ∃ kd : Int, (kd = 0 ∨ kd = 3) ∧ askOf S.W r.c r.l r.q = (kd, none) := by
         rcases ha with ha | ha | ha | ⟨y, _, ha⟩
         ·exact ⟨3, .inr rfl, ha⟩
         ·rw [ha] at hk2; exact absurd rfl hk2
         ·exact ⟨0, .inl rfl, ha⟩
         ·rw [ha] at hk1; exact absurd rfl hk1
        obtain ⟨kd, hkd, ha⟩ := he
        rw [ha] at hd
        rw [hd]
        have h1 := (deeds_all (askB S r.c.toNat kd) r st dl (Classical.byContradiction hk)).1
        have h2 := Turns.asked (bs := (withSw (triedOf (deedF r st dl r.kind (askB S r.c.toNat kd))).1 (triedOf (deedF r st dl r.kind (askB S r.c.toNat kd))).2.swaps).bytes) kd _ hm hkd ha h1
        have h3 : (tell (askedS (triedOf (deedF r st dl r.kind (askB S r.c.toNat kd))) r.c.toNat r)).2 = { (deedF r st dl r.kind (askB S r.c.toNat kd)).2.2 with W := upd S.W r.c.toNat (some (r.l, r.q, (withSw (triedOf (deedF r st dl r.kind (askB S r.c.toNat kd))).1 (triedOf (deedF r st dl r.kind (askB S r.c.toNat kd))).2.swaps).bytes)) } := by
         unfold tell askedS
         dsimp only
         rw [triedOf_st, win_all, askB_W]
        rw [h3]
        exact h2
def InvWin (S : St) : Prop := ∀ i y, S.W i = some y → i < 4 ∧ 0 ≤ y.1 ∧ y.1 ≤ 1048576 ∧ 1 ≤ y.2.1 ∧ y.2.1 ≤ 1073741824
theorem InvWin.turn {S S' : St} {r : Req} {st : List Sz} {dl : List Dl} (h : InvWin S) (t : Turns S r st dl S') : InvWin S' := by
 cases t with
 | same => exact h
 | boot => exact h
 | swap => exact h
 | moved => exact h
 | asked kd bs D hm hk ha hd =>
  intro i y hy
  dsimp only at hy
  unfold upd at hy
  split at hy
  ·rename_i e
   cases hy
   obtain ⟨h1, h2, h3⟩ := hm
   exact ⟨by omega, h3⟩
  ·exact h i y hy
structure InvTok (S : St) : Prop where
 row : ∀ x ∈ S.K, 0 ≤ x.c ∧ x.c < 4 ∧ 0 ≤ x.h ∧ x.h < 4 ∧ (S.W x.c.toNat).isSome = true
 one : S.K.Pairwise fun x y => ¬ (x.c = y.c ∧ x.h = y.h)
theorem freeH_none {L : List Tok} {c : Int} (h : freeH L c < 4) : ∀ x ∈ L, ¬ (x.c = c ∧ x.h = (freeH L c : Int)) := by
 unfold freeH at h ⊢
 cases hf : (List.range 4).find? (fun h : Nat => (ofT L c h).isNone) with
 | none => rw [hf] at h; exact absurd h (by decide)
 | some k =>
  rw [Option.getD_some]
  have h1 := List.find?_some hf
  intro x hx e
  have h2 : ofT L c k = none := by simpa using h1
  unfold ofT at h2
  have := List.find?_eq_none.1 h2 x hx
  simp [e] at this
theorem InvTok.turn {S S' : St} {r : Req} {st : List Sz} {dl : List Dl} (h : InvTok S) (t : Turns S r st dl S') : InvTok S' := by
 cases t with
 | same => exact h
 | boot => exact ⟨h.row, h.one⟩
 | swap => exact ⟨h.row, h.one⟩
 | moved => exact ⟨h.row, h.one⟩
 | asked kd bs D hm hk ha hd =>
  have hB : (∀ x ∈ (askB S r.c.toNat kd).K, x ∈ S.K) ∧ (askB S r.c.toNat kd).K.Pairwise (fun x y => ¬ (x.c = y.c ∧ x.h = y.h)) := by
   unfold askB
   split
   ·exact ⟨fun x hx => (List.mem_filter.1 hx).1, h.one.filter _⟩
   ·exact ⟨fun x hx => hx, h.one⟩
  obtain ⟨hB1, hB2⟩ := hB
  have hW : ∀ c : Int, (S.W c.toNat).isSome = true → (upd S.W r.c.toNat (some (r.l, r.q, bs)) c.toNat).isSome = true := fun c hc => by
   unfold upd
   split
   ·rfl
   ·exact hc
  have hrow : ∀ x ∈ (askB S r.c.toNat kd).K, 0 ≤ x.c ∧ x.c < 4 ∧ 0 ≤ x.h ∧ x.h < 4 ∧ (upd S.W r.c.toNat (some (r.l, r.q, bs)) x.c.toNat).isSome = true := fun x hx => by
   obtain ⟨a1, a2, a3, a4, a5⟩ := h.row x (hB1 x hx)
   exact ⟨a1, a2, a3, a4, hW _ a5⟩
  have hsame : ∀ D' : St, D'.K = (askB S r.c.toNat kd).K → InvTok { D' with W := upd S.W r.c.toNat (some (r.l, r.q, bs)) } := fun D' e => ⟨by dsimp only; rw [e]; exact hrow, by dsimp only; rw [e]; exact hB2⟩
  cases hd with
  | same => exact hsame _ rfl
  | make => exact hsame _ (by unfold makeS; split <;> rfl)
  | remove => exact hsame _ (by unfold removeS; split <;> rfl)
  | move => exact hsame _ rfl
  | commit x _ hx _ _ _ =>
   have hk : (∀ y ∈ closedK r.cl (askB S r.c.toNat kd).K x, y ∈ (askB S r.c.toNat kd).K) ∧ (closedK r.cl (askB S r.c.toNat kd).K x).Pairwise (fun x y => ¬ (x.c = y.c ∧ x.h = y.h)) := by
    unfold closedK
    split
    ·exact ⟨fun x hx => (List.mem_filter.1 hx).1, hB2.filter _⟩
    ·exact ⟨fun x hx => hx, hB2⟩
   exact ⟨fun y hy => hrow y (hk.1 y hy), hk.2⟩
  | opens _ h1 h2 h3 =>
   generalize (lookOf (askB S r.c.toNat kd).T r.path).2.1 = i at *
   generalize (askB S r.c.toNat kd).K = L at *
   clear hsame hB1
   unfold openOf at h3 ⊢
   split at h3
   ·cases h3
   ·rename_i a1
    rw [if_neg a1]
    split at h3
    ·cases h3
    ·rename_i a2
     rw [if_neg a2]
     have hfree := freeH_none (L := L) (c := r.c) (by omega)
     obtain ⟨m1, m2, _⟩ := hm
     have hmem : ∀ y, y ∈ L.takeWhile (fun x => decide (0 < agn ⟨r.c, freeH L r.c, i, r.wr⟩ x)) ++ ⟨r.c, freeH L r.c, i, r.wr⟩ :: L.dropWhile (fun x => decide (0 < agn ⟨r.c, freeH L r.c, i, r.wr⟩ x)) → y = ⟨r.c, freeH L r.c, i, r.wr⟩ ∨ y ∈ L := fun y hy => by
      rcases List.mem_append.1 hy with hy | hy
      ·exact .inr (List.takeWhile_subset _ hy)
      ·rcases List.mem_cons.1 hy with hy | hy
       ·exact .inl hy
       ·exact .inr (List.dropWhile_subset _ hy)
     refine ⟨fun y hy => ?_, ?_⟩
     ·rcases hmem y hy with rfl | hy
      ·refine ⟨m1, m2, by dsimp only; omega, by dsimp only; omega, ?_⟩
       dsimp only
       unfold upd
       rw [if_pos rfl]; rfl
      ·exact hrow y hy
     ·dsimp only
      have hp := List.takeWhile_append_dropWhile (p := fun x => decide (0 < agn ⟨r.c, freeH L r.c, i, r.wr⟩ x)) (l := L)
      rw [← hp, List.pairwise_append] at hB2
      obtain ⟨b1, b2, b3⟩ := hB2
      refine List.pairwise_append.2 ⟨b1, List.pairwise_cons.2 ⟨fun y hy e => hfree y (List.dropWhile_subset _ hy) ⟨e.1.symm, e.2.symm⟩, b2⟩, fun y hy z hz => ?_⟩
      rcases List.mem_cons.1 hz with rfl | hz
      ·exact fun e => hfree y (List.takeWhile_subset _ hy) e
      ·exact b3 y hy z hz
theorem InvTok.few {S : St} (h : InvTok S) : S.K.length ≤ 16 := by
 have key : ∀ (n : Nat) (L : List Nat), L.Nodup → (∀ x ∈ L, x < n) → L.length ≤ n := by
  intro n
  induction n with
  | zero =>
   intro L _ hx
   cases L with
   | nil => exact Nat.le_refl _
   | cons a r => exact absurd (hx a (by simp)) (by omega)
  | succ n ih =>
   intro L hn hx
   have h1 := ih (L.erase n) (hn.erase n) (fun x hm => by
    have h2 := (hn.mem_erase_iff).1 hm
    have := hx x h2.2
    have := h2.1
    omega)
   by_cases hm : n ∈ L
   ·rw [List.length_erase_of_mem hm] at h1
    omega
   ·rw [List.erase_of_not_mem hm] at h1
    omega
 have h2 := key 16 (S.K.map fun x => x.c.toNat * 4 + x.h.toNat) (by
  unfold List.Nodup
  rw [List.pairwise_map]
  refine h.one.imp_of_mem (fun {x y} hx hy hn e => hn ?_)
  have a := h.row x hx
  have b := h.row y hy
  omega) (fun z hz => by
  obtain ⟨x, hx, rfl⟩ := List.mem_map.1 hz
  have a := h.row x hx
  omega)
 rwa [List.length_map] at h2
theorem lastW_some {W : Nat → Option WRow} {c : Nat} {y : WRow} (hc : c < 4) (h : W c = some y) : lastW W (c : Int) = some ((c : Int), y.1, y.2.1, y.2.2) := by
 unfold lastW
 have key : ∀ n, c < n → (wrOf W n).find? (fun y => y.1 == (c : Int)) = some ((c : Int), y.1, y.2.1, y.2.2) := by
  intro n
  induction n with
  | zero => intro h; omega
  | succ n ih =>
   intro hn
   by_cases e : c = n
   ·subst e
    rw [wrOf_some h, List.find?_append]
    have : (wrOf W c).find? (fun y => y.1 == (c : Int)) = none := by
     rw [List.find?_eq_none]
     intro z hz
     unfold wrOf at hz
     obtain ⟨i, hi, e⟩ := List.mem_filterMap.1 hz
     rw [List.mem_range] at hi
     cases hw : W i with
     | none => rw [hw] at e; cases e
     | some u =>
      rw [hw] at e
      cases e
      simp only [beq_iff_eq]
      omega
    rw [this]
    simp
   ·have h1 := ih (by omega)
    cases hw : W n with
    | none => rw [wrOf_none hw]; exact h1
    | some u => rw [wrOf_some hw, List.find?_append, h1]; rfl
 exact key 4 hc
theorem lifeS_some {S : St} {c : Nat} {y : WRow} (hc : c < 4) (h : S.W c = some y) : lifeS S (c : Int) = y.1 := by
 unfold lifeS lifeOf
 rw [if_neg (by omega), if_pos (by omega), Int.toNat_natCast, h]
theorem ofT_one {L : List Tok} (h : L.Pairwise fun x y => ¬ (x.c = y.c ∧ x.h = y.h)) {t : Tok} (ht : t ∈ L) : ofT L t.c t.h = some t := by
 unfold ofT
 induction L with
 | nil => cases ht
 | cons a r ih =>
  rw [List.pairwise_cons] at h
  rw [List.find?_cons]
  rcases List.mem_cons.1 ht with rfl | ht
  ·simp
  ·have : (a.c == t.c && a.h == t.h) = false := by
    have := h.1 t ht
    rw [Bool.eq_false_iff]
    intro e
    simp only [Bool.and_eq_true, beq_iff_eq] at e
    exact this e
   rw [this]
   exact ih h.2 ht
theorem ask_next {S : St} (iw : InvWin S) {c : Nat} {y : WRow} (h : S.W c = some y) (hq : y.2.1 + 1 ≤ 1073741824) : askOf S.W (c : Int) y.1 (y.2.1 + 1) = (0, none) := by
 obtain ⟨h1, h2, h3, h4, h5⟩ := iw c y h
 unfold askOf
 rw [if_pos (by omega), Int.toNat_natCast, h]
 obtain ⟨a, b, d⟩ := y
 dsimp only at *
 have e : kindOf a (b + 1) a b = 0 := by
  unfold kindOf
  rw [if_neg (by omega), if_neg (by omega), if_neg (by omega)]
 rw [e]
 rfl
theorem swaps_lost {S : St} {r : Req} {st : List Sz} {dl : List Dl} {x : RepS × St} (iw : InvWin S) (it : InvTok S) {t : Tok} (ht : t ∈ S.K) (hw : t.wr = true) {y : WRow} (hy : S.W t.c.toNat = some y)
  (h1 : r.c = t.c) (h2 : r.l = y.1) (h3 : r.q = y.2.1 + 1) (h4 : r.q ≤ 1073741824) (h5 : r.kind = 7) (h6 : r.h = t.h) (h7 : r.sw ≠ S.swaps) (h8 : st ≠ []) (hd : Did S r st dl x) :
  x.1.e = 15 ∧ x.1.swaps = S.swaps ∧ x.2.K = S.K ∧ x.2.F = S.F ∧ x.2.U = S.U ∧ x.2.swaps = S.swaps := by
 have hc := it.row t ht
 have hcc : ((t.c.toNat : Nat) : Int) = t.c := Int.toNat_of_nonneg hc.1
 have ha : askOf S.W r.c r.l r.q = (0, none) := by
  rw [h1, h2, h3, ← hcc]
  exact ask_next iw hy (by omega)
 unfold Did at hd
 rw [if_neg (by omega), if_neg (by omega), if_neg (by omega), if_neg (by omega), ha, if_neg (by decide), if_neg (by decide), h5] at hd
 have hB : askB S r.c.toNat 0 = { S with clock := S.clock + 1 } := if_neg (by decide)
 have hD : deedF r st dl 7 { S with clock := S.clock + 1 } = (15, noRep, { S with clock := S.clock + 1 }) := by
  show commitD { S with clock := S.clock + 1 } r st dl = _
  unfold commitD
  have h9 : ofT S.K r.c r.h = some t := by rw [h1, h6]; exact ofT_one it.one ht
  dsimp only
  rw [h9]
  dsimp only
  rw [if_neg (by rw [hw]; simp)]
  have h10 : stripesE { S with clock := S.clock + 1 } r.sw r.nx st r.c r.l = (15, noStp) := if_pos ⟨h8, h7⟩
  rw [h10, if_pos (by decide)]
 rw [hB, hD] at hd
 rw [hd]
 exact ⟨rfl, rfl, rfl, rfl, rfl, rfl⟩
theorem SlAt.slice {w : World} {v : Value} {bs : List UInt8} (h : SlAt w v bs) : ∃ a c, v = .slice a bs.length c := by
 rcases h with ⟨rfl, a, c, rfl⟩ | ⟨b, off, c, rfl, _⟩
 ·exact ⟨a, c, rfl⟩
 ·exact ⟨_, c, rfl⟩
theorem SlAt.at {w : World} {a : Option Addr} {c : Nat} {bs : List UInt8} (h : SlAt w (.slice a bs.length c) bs) {j : Nat} (hj : j < bs.length) : ∃ b off, a = some ⟨b, off, none⟩ ∧ w.cell? ⟨b, off + j, none⟩ = some (.int .u8 bs[j].toNat) := by
 rcases h with ⟨rfl, _⟩ | ⟨b, off, c', e, _, _, hc⟩
 ·exact absurd hj (Nat.not_lt_zero _)
 ·cases e
  exact ⟨b, off, rfl, hc j _ (List.getElem?_eq_getElem hj)⟩
theorem SlIs.slAt {w : World} {v : Value} {bs : List UInt8} {b off c : Nat} (h : SlIs w v bs b off c) : SlAt w v bs := .inr ⟨b, off, c, h.1, h.2.1, h.2.2.1, h.2.2.2⟩
set_option maxHeartbeats 1600000 in
theorem gsame_ (v1 v2 : Value) (x y : List UInt8) (w : World) (h1 : SlAt w v1 x) (h2 : SlAt w v2 y) (hbig : x.length ≤ 1000000) : Calls Tryz.prog 28 #[v1, v2] w (BoolPost w (x = y)) := by
 have mixed : Tryz.prog.follows .mixedOrders = true := by kernel_rfl
 obtain ⟨a1, c1, rfl⟩ := h1.slice
 obtain ⟨a2, c2, rfl⟩ := h2.slice
 have HQ : Hid (∀ b w', (b = true ↔ x = y) → Fr No w w' → BoolPost w (x = y) (.returned (.bool b)) w') := Lib.hid (fun b w' hb f => BoolPost.mk b _ _ hb rfl f)
 generalize BoolPost w (x = y) = Q at *
 have H1 := Lib.hid h1
 have H2 := Lib.hid h2
 clear h1 h2
 by_cases hl : x.length = y.length
 ·have q0 : ((x.length : Int) != (y.length : Int)) = false := by rw [hl]; simp
  have HL := Lib.hid hl
  clear hl
  go_enter Tryz.func28, Tryz.ntmps28
  go_wp2_with fail
  go_loopw [5] (fun a wr => ∃ j : Nat, a = .int .i64 j ∧ j ≤ x.length ∧ Hid (x.take j = y.take j) ∧ Hid (Fr No w wr)) (fun a _ => x.length - (intOf a).toNat)
  case atStart => exact ⟨0, rfl, Nat.zero_le _, Lib.hid rfl, Lib.hid (Fr.refl _)⟩
  case round =>
   obtain ⟨j, rfl, hj, HT, HF⟩ := hrel
   by_cases hlt : j < x.length
   ·have hlt2 : j < y.length := by rw [← HL.out]; exact hlt
    obtain ⟨b1, o1, rfl, k1⟩ := (H1.out.no HF.out).at hlt
    obtain ⟨b2, o2, rfl, k2⟩ := (H2.out.no HF.out).at (j := j) hlt2
    have q1 : (j : Int) < (x.length : Int) := by omega
    have q2 : (j : Int) < (y.length : Int) := by omega
    have q3 : (0 : Int) ≤ (j : Int) := by omega
    have HN : Hid (x[j].toNat = y[j].toNat → x.take (j + 1) = y.take (j + 1)) := Lib.hid (fun e => by
     rw [List.take_succ_eq_append_getElem hlt, List.take_succ_eq_append_getElem hlt2, HT.out, UInt8.toNat_inj.1 e])
    have HX : Hid (x = y → x[j].toNat = y[j].toNat) := Lib.hid (fun e => by subst e; rfl)
    generalize x[j].toNat = u at *
    generalize y[j].toNat = v at *
    by_cases e : u = v
    ·have HN' := Lib.hid (HN.out e)
     subst e
     go_wp2_with fail
     go_region
     all_goals
      go_wp2_with fail
      go_roundw
      case rel => exact ⟨j + 1, by go_num, hlt, HN', Lib.hid (HF.out.drew)⟩
      case measure => simp [intOf]; omega
    ·have q4 : ((u : Int) != (v : Int)) = true := by simp only [bne_iff_ne, ne_eq]; omega
     have HE : Hid (¬ x = y) := Lib.hid (fun h => e (HX.out h))
     go_wp2_with fail
     go_region
     all_goals
      go_wp2_with fail
      exact HQ.out false _ (by simp [HE.out]) HF.out.drew
   ·obtain rfl : j = x.length := by omega
    have q1 : ¬ (x.length : Int) < (x.length : Int) := by omega
    have HE : Hid (x = y) := Lib.hid (by
     have h := HT.out
     rw [List.take_length, HL.out, List.take_length] at h
     exact h)
    go_wp2_with fail
    exact HQ.out true _ (by simp [HE.out]) HF.out
 ·have q0 : ((x.length : Int) != (y.length : Int)) = true := by simp only [bne_iff_ne, ne_eq]; omega
  have HE : Hid (¬ x = y) := Lib.hid (fun h => hl (by rw [h]))
  go_enter Tryz.func28, Tryz.ntmps28
  go_wp2_with fail
  exact HQ.out false _ (by simp [HE.out]) (Fr.refl _)
section
variable {K V : Type} [DecidableEq K] {E : Enc K V} {t e : TypeId}
def gone (left : K → Bool) (m : K → Option V) : K → Option V := fun z => if left z = true then none else m z
omit [DecidableEq K] in
omit [DecidableEq K] in
end
theorem Step.painted {w w1 : World} {o o1 : Nat → Nat} {b c : Nat} (s : Step (fun _ => False) w o w1 o1) (hb : w.heap.size ≤ b) (hlt : b < w1.heap.size) : Step (fun _ => False) w o w1 (paint o1 b c) :=
 ⟨s.fr, fun k hk => by rw [paint_other o1 _ (by omega)]; exact s.old k hk, fun k hk => by rw [paint_other o1 _ (by omega)]; exact s.fresh k hk⟩
theorem RowNew.at {α : Type} {c : α → List Value} {n : Nat} {t : TypeId} {w : World} {base : Nat} {a : Option Addr} {len cap : Nat} {L : List α} (h : RowNew c n t w base (.slice a len cap) L) (h0 : 0 < L.length) : ∃ b, a = some ⟨b, 0, none⟩ ∧ cap ≤ maxLen ∧ base ≤ b ∧ RowB c n t w b cap L := by
 rcases h with ⟨_, rfl⟩ | ⟨b, cap', e, hm, hb, hr⟩
 ·exact absurd h0 (by simp)
 ·cases e
  exact ⟨b, rfl, hm, hb, hr⟩
theorem TokV.no {w w' : World} {v : Value} {L : List Tok} (h : TokV w v L) (f : Fr No w w') : TokV w' v L := by
 rcases h with h | ⟨b, cap, e, hm, hr⟩
 ·exact .inl h
 ·exact .inr ⟨b, cap, e, hm, hr.fr f id⟩
def InvWT (S : St) : Prop := InvWin S ∧ InvTok S
theorem InvWT.turn {S S' : St} {r : Req} {st : List Sz} {dl : List Dl} (h : InvWT S) (t : Turns S r st dl S') : InvWT S' := ⟨h.1.turn t, h.2.turn t⟩
def Elder (u : Value) (w : World) : Prop := ∀ b, u = .pointer (some b) → b.block < w.heap.size
theorem Elder.more {u : Value} {w w' : World} (h : Elder u w) (hs : w.heap.size ≤ w'.heap.size) : Elder u w' := fun b e => Nat.lt_of_lt_of_le (h b e) hs
theorem S0_WT : InvWT S0 := ⟨fun i y h => (by cases h), fun x h => (by cases h), List.Pairwise.nil⟩
def LiesN (w : World) (o : Nat → Nat) (L : Plc) (n : Nat) (p : St → Prop) (w' : World) : Prop := ∃ j, j ≤ n ∧ Lies w o L j p w'
def Went2 (w : World) (o : Nat → Nat) (L : Plc) (S : St) (n q : Nat) (r : Req) (st : List Sz) (dl : List Dl) (e : Ending) (w' : World) : Prop :=
 ∃ (x : RepS × St) (o' : Nat → Nat) (ev mv : Value), e = .returned (.agg (x.1.cells ev mv)) ∧ ev.oneCell' = true ∧ mv.oneCell' = true ∧ Did S r st dl x ∧ StInv x.2 (q + 2) ∧ Step (stateC 0) w o w' o' ∧ StateAt w' o' 0 L x.2 (n + 100)
theorem went2 (o : Nat → Nat) (n q : Nat) (L : Plc) (S : St) (r : Req) (rv dv : Value) (st : List Sz) (dl : List Dl) (w : World) (h : StateAt w o 0 L S n) (inv : StInv S q) (hf : Fresh w o) (hr : RowsAt szC 4 w o rv st) (hd : RowsAt dlC 14 w o dv dl) (hs : smallR r st.length dl.length) (hg : ∀ s ∈ st, stpGood s.1) (hq : q ≤ 90000) (hn : n ≤ 400000) :
  Calls Tryz.prog 15 #[.pointer (some ⟨L.s, 0, none⟩), .agg (r.cells rv dv)] w (Went2 w o L S n q r st dl) :=
 (gapply_ o 0 n q L S r rv dv st dl w h inv hf hr hd ⟨hs.1, hs.2.1, hs.2.2.1, hs.2.2.2, hg⟩ hq hn).mono (fun e w' p => by
   obtain ⟨x, h1, h2, ⟨o', s, t⟩, ev, mv, he, q1, q2⟩ := p
   exact ⟨x, o', ev, mv, he, q1, q2, h1, h2, s, t⟩)
set_option maxHeartbeats 6400000 in
theorem stateSwaps_ (v1 : Value) (L1 : List Rq) (sw : Nat) (w : World) (h1 : RqsAt w (fun _ => 0) v1 L1) (g1 : GoodRqs L1) (hsw : sw < 256) :
  Calls Tryz.prog 5 #[v1, .int .u8 sw] w fun e w' => e = .returned (.bool true) ∧ Fr No w w' := by
 have mixed : Tryz.prog.follows .mixedOrders = true := by kernel_rfl
 obtain ⟨base1, cap1, rfl⟩ := h1.slice
 generalize hQ : (fun (e : Ending) (w' : World) => e = .returned (.bool true) ∧ Fr No w w') = Q
 have HQ : Hid (∀ w', Fr No w w' → Q (.returned (.bool true)) w') := Lib.hid (fun w' f => by rw [← hQ]; exact ⟨rfl, f⟩)
 clear hQ
 have H1 := Lib.hid h1
 have G1 := Lib.hid g1
 clear h1 g1
 go_enter Tryz.func5, Tryz.ntmps5
 go_wp2_with fail
 refine (gawake_ _).mono ?_
 rintro e w1 ⟨rfl, f1⟩
 have F1 := Lib.hid f1
 have H11 := Lib.hid (H1.out.no (fresh0 _) f1)
 clear f1 H1
 have HA1 := Lib.hid (gasks_ (fun _ => 0) _ L1 60 w1 (fresh0 w1) H11.out (by omega))
 unfold BoolPost at HA1
 cases hA : decide (L1.length ≤ 60 ∧ ∀ y ∈ L1, smallY y) with
 | false =>
  rw [hA] at HA1
  clear hA
  go_wp2_with fail
  refine HA1.out.mono ?_
  rintro e w2 ⟨rfl, f2⟩
  have F2 := Lib.hid (F1.out.trans f2 (fun _ _ e => e))
  clear f2
  go_wp2_with fail
  exact HQ.out _ F2.out
 | true =>
  rw [hA] at HA1
  have SM1 := Lib.hid (of_decide_eq_true hA)
  clear hA
  go_wp2_with fail
  refine HA1.out.mono ?_
  rintro e w2 ⟨rfl, f2⟩
  have F2 := Lib.hid (F1.out.trans f2 (fun _ _ e => e))
  have H12 := Lib.hid (H11.out.no (fresh0 _) f2)
  clear f2 H11 F1 HA1
  go_wp2_with fail
  refine (gstate_new _).mono ?_
  rintro e w4 ⟨L, o4, rfl, s4, t4⟩
  have F4 := Lib.hid (F2.out.trans (s4.fr.mono (fun _ _ e => e)) (fun _ _ e => e.elim))
  have HLE : Hid (∀ k, k < w.heap.size → o4 k = 0) := Lib.hid (fun k hk => s4.old k (Nat.lt_of_lt_of_le hk F2.out.size))
  have H14 := Lib.hid (H12.out.step s4 id)
  have LI0 : Hid (LiesN w4 o4 L 0 InvWT w4) := Lib.hid ⟨0, Nat.le_refl _, o4, S0, Step.refl s4.fresh, t4, S0_inv, S0_WT⟩
  have nos : ¬ stateC 0 0 := by unfold stateC; omega
  have NOS := Lib.hid nos
  clear s4 t4 H12 F2 nos
  go_wp2_with fail
  go_loopw [6, 10] (fun a u wr => ∃ j : Nat, a = .int .i64 j ∧ j ≤ L1.length ∧ Hid (Elder u wr) ∧ Hid (LiesN w4 o4 L (20 * j) InvWT wr)) (fun a _ _ => L1.length - (intOf a).toNat)
  case atStart => exact ⟨0, rfl, Nat.zero_le _, Lib.hid (fun b e => by cases e), LI0⟩
  case round =>
   obtain ⟨j, rfl, hj, HU, HLI⟩ := hrel
   obtain ⟨n0, hn0, oj, S, sj, tj, ij, pj⟩ := HLI.out
   have SJ := Lib.hid sj
   have TJ := Lib.hid tj
   have IJ := Lib.hid ij
   have PJ := Lib.hid pj
   have hl60 := SM1.out.1
   clear sj tj ij pj
   by_cases hlt : j < L1.length
   ·have hne : L1 ≠ [] := by
     intro e
     subst e
     simp at hlt
    obtain ⟨b, off, rfl, ho, hbl, hrows⟩ := (H14.out.step SJ.out NOS.out).at hne
    obtain ⟨rv, dv, hr1, hr2, hr3⟩ := hrows j L1[j] (List.getElem?_eq_getElem hlt)
    have HSM := Lib.hid (SM1.out.2 L1[j] (List.getElem_mem hlt))
    have HGD := Lib.hid (G1.out L1[j] (List.getElem_mem hlt))
    have q1 : (j : Int) < (L1.length : Int) := by omega
    have q3 : (0 : Int) ≤ (j : Int) := by omega
    generalize L1[j] = y at *
    obtain ⟨r, st, dl⟩ := y
    dsimp only at hr1 hr2 hr3 HGD
    unfold smallY at HSM
    dsimp only at HSM
    obtain ⟨bs, cs, rfl⟩ := hr2.slice
    obtain ⟨bd, cd, rfl⟩ := hr3.slice
    have HR1 := Lib.hid hr1
    have HR3 := Lib.hid hr3
    have HRQ := Lib.hid (grequest_ oj r (.slice bs st.length cs) (.slice bd dl.length cd) st wr SJ.out.fresh hr2 ⟨_, _, _, rfl⟩ (by have := HSM.out.2.2.1; omega))
    unfold ReqPost at HRQ
    unfold Req.cells at HR1 HRQ
    clear hrows ho hbl hr1 hr2 hr3
    go_wp2_with (refine wpList_load_mid (by rfl) 41 _ (by rfl) b (off + j * 14) (by rfl) [.int .i64 r.c, .int .i64 r.l, .int .i64 r.q, .int .i64 r.kind, .string (ba r.path), .string (ba r.to), .bool r.dir, .bool r.wr, .bool r.cl, .int .i64 r.h, .int .i64 r.nx, .int .i64 r.sw, .slice bs st.length cs, .slice bd dl.length cd] _ HR1.out Tryz.underlying41 rfl Tryz.size41 ?_)
    refine HRQ.out.mono ?_
    rintro e wq ⟨rv', rfl, hrq, fq⟩
    have HSQ := Lib.hid fq.size
    have TQ := TJ.out.no IJ.out.ok SJ.out.fresh fq
    have FQ : Fresh wq oj := (Step.no (C := fun _ => False) SJ.out.fresh fq).fresh
    have SQ : Hid (Step (stateC 0) w4 o4 wq oj) := Lib.hid (SJ.out.trans ((Step.no (C := fun _ => False) SJ.out.fresh fq).mono (fun _ e => e.elim)) (fun _ e => e))
    have HW := Lib.hid (went oj (100 * n0) (2 * n0) L S r rv' _ st dl wq TQ IJ.out FQ hrq (HR3.out.no SJ.out.fresh fq) HSM.out HGD.out (by omega) (by omega))
    unfold Went at HW
    unfold Req.cells at HW
    clear TQ FQ hrq fq
    go_wp2_with fail
    refine HW.out.mono ?_
    rintro e w5 ⟨x5, o5, ev, mv, rfl, d5, i5, s5, t5⟩
    have S5 := Lib.hid (SQ.out.trans s5 (fun _ e => e))
    have T5 := Lib.hid t5
    have I5 := Lib.hid i5
    have P5 := Lib.hid (PJ.out.turn (turns_all d5))
    have HSZ : wr.heap.size ≤ w5.heap.size := Nat.le_trans HSQ.out s5.fr.size
    generalize x5.2 = S5' at *
    clear d5 s5 t5 i5 HW SQ TJ IJ PJ SJ HLI
    have HSZ5 : Hid (wr.heap.size ≤ w5.heap.size) := Lib.hid HSZ
    clear HSZ
    cases hm : ((j : Int) % 7 != (sw : Int) % 7) with
    | true =>
     have L5 : Hid (LiesN w4 o4 L (20 * (j + 1)) InvWT w5) := Lib.hid ⟨n0 + 1, by omega, o5, S5', S5.out, T5.out, I5.out, P5.out⟩
     go_wp2_with fail
     go_roundw
     case rel => exact ⟨j + 1, by go_num, hlt, Lib.hid (HU.out.more HSZ5.out), L5⟩
     case measure => simp [intOf]; omega
    | false =>
     have fq : Fr No w5 (w5.alloc (.cells #[.int .i64 4, .int .i64 0, .int .i64 0, .int .i64 11, .string ⟨#[]⟩, .string ⟨#[]⟩, .bool false, .bool false, .bool false, .int .i64 0, .int .i64 0, .int .i64 0, .slice none 0 0, .slice none 0 0] 41)) := (Fr.refl w5).alloc _
     have S6 := Lib.hid (S5.out.trans ((Step.no (C := fun _ => False) S5.out.fresh fq).mono (D := stateC 0) (fun _ e => e.elim)) (fun _ e => e))
     have T6 := Lib.hid (T5.out.no I5.out.ok S5.out.fresh fq)
     have HQ6 : Hid (Calls Tryz.prog 16 #[.agg #[.int .i64 4, .int .i64 0, .int .i64 0, .int .i64 11, .string ⟨#[]⟩, .string ⟨#[]⟩, .bool false, .bool false, .bool false, .int .i64 0, .int .i64 0, .int .i64 0, .slice none 0 0, .slice none 0 0]] (w5.alloc (.cells #[.int .i64 4, .int .i64 0, .int .i64 0, .int .i64 11, .string ⟨#[]⟩, .string ⟨#[]⟩, .bool false, .bool false, .bool false, .int .i64 0, .int .i64 0, .int .i64 0, .slice none 0 0, .slice none 0 0] 41)) (ReqPost (w5.alloc (.cells #[.int .i64 4, .int .i64 0, .int .i64 0, .int .i64 11, .string ⟨#[]⟩, .string ⟨#[]⟩, .bool false, .bool false, .bool false, .int .i64 0, .int .i64 0, .int .i64 0, .slice none 0 0, .slice none 0 0] 41)) o5 ⟨4, 0, 0, 11, [], [], false, false, false, 0, 0, 0⟩ [] (.slice none 0 0))) := Lib.hid (grequest_ o5 ⟨4, 0, 0, 11, [], [], false, false, false, 0, 0, 0⟩ (.slice none 0 0) (.slice none 0 0) [] _ S6.out.fresh ⟨none, 0, rfl, fun h => absurd rfl h⟩ ⟨_, _, _, rfl⟩ (by decide))
     go_wp2_with fail
     refine HQ6.out.mono ?_
     rintro e w7 ⟨rv7, rfl, hrq7, f7⟩
     have S7 := Lib.hid (S6.out.trans ((Step.no (C := fun _ => False) S6.out.fresh f7).mono (D := stateC 0) (fun _ e => e.elim)) (fun _ e => e))
     have T7 := Lib.hid (T6.out.no I5.out.ok S6.out.fresh f7)
     have HW7 := Lib.hid (went o5 (100 * n0 + 100) (2 * n0 + 2) L S5' ⟨4, 0, 0, 11, [], [], false, false, false, 0, 0, 0⟩ rv7 (.slice none 0 0) [] [] w7 T7.out I5.out S7.out.fresh hrq7 ⟨none, 0, rfl, fun h => absurd rfl h⟩ ⟨by decide, by decide, by decide, by decide⟩ (fun s hs => by cases hs) (by omega) (by omega))
     have HSZ7 : Hid (w5.heap.size ≤ w7.heap.size) := Lib.hid (Nat.le_trans fq.size f7.size)
     unfold Went at HW7
     unfold Req.cells
     clear hrq7 f7 fq
     go_wp2_with fail
     refine HW7.out.mono ?_
     rintro e w8 ⟨x8, o8, ev8, mv8, rfl, d8, i8, s8, t8⟩
     have S8 := Lib.hid (S7.out.trans s8 (fun _ e => e))
     have T8 := Lib.hid t8
     have I8 := Lib.hid i8
     have P8 := Lib.hid (P5.out.turn (turns_all d8))
     have HSZ8 : Hid (w5.heap.size ≤ w8.heap.size) := Lib.hid (Nat.le_trans HSZ7.out s8.fr.size)
     generalize x8.2 = S8' at *
     clear d8 s8 t8 i8 HW7 S7 T7 S6 T6 S5 T5 I5 P5 HQ6
     have HTK := Lib.hid (gtokens_ o8 0 _ L S8' w8 T8.out (by have := P8.out.2.few; omega))
     unfold RowPost at HTK
     go_wp2_with fail
     refine HTK.out.mono ?_
     rintro e w9 ⟨v9, rfl, hr9, f9⟩
     obtain ⟨a9, c9, hv9⟩ := hr9.shape
     subst hv9
     have HR9 := Lib.hid hr9
     have S9 := Lib.hid (S8.out.trans ((Step.no (C := fun _ => False) S8.out.fresh f9).mono (D := stateC 0) (fun _ e => e.elim)) (fun _ e => e))
     have T9 := Lib.hid (T8.out.no I8.out.ok S8.out.fresh f9)
     have HB9 : Hid (∀ k, w8.heap.size ≤ k → o8 k = 0) := Lib.hid (fun k hk => S8.out.fresh k hk)
     have hK16 := P8.out.2.few
     have LJ0 : Hid (LiesN w9 o8 L (20 * j + 2 + 0) (fun T => InvWT T ∧ T.K = S8'.K) w9) := Lib.hid ⟨n0 + 2, by omega, o8, S8', Step.refl S9.out.fresh, by
      have := T9.out
      rwa [show 100 * n0 + 100 + 100 = 100 * (n0 + 2) by omega] at this, by
      have := I8.out
      rwa [show 2 * n0 + 2 + 2 = 2 * (n0 + 2) by omega] at this, P8.out, rfl⟩
     generalize S8'.K = K0 at *
     have HU9 : Hid (Elder u10 w9) := Lib.hid (HU.out.more (Nat.le_trans HSZ5.out (Nat.le_trans HSZ8.out f9.size)))
     clear hr9 f9 HTK T9 T8 I8 P8 S8
     go_wp2_with fail
     go_loopw [9, 10] (fun a u wr => ∃ k : Nat, a = .int .i64 k ∧ k ≤ K0.length ∧ Hid (Elder u wr) ∧ Hid (LiesN w9 o8 L (20 * j + 2 + k) (fun T => InvWT T ∧ T.K = K0) wr)) (fun a _ _ => K0.length - (intOf a).toNat)
     case atStart => exact ⟨0, rfl, Nat.zero_le _, HU9, LJ0⟩
     case round =>
      obtain ⟨k, rfl, hk, HV, HLK⟩ := hrel
      by_cases hlk : k < K0.length
      ·obtain ⟨nk, hnk, ok, Sk, sk, tk, ik, ⟨wk, uk⟩, ek⟩ := HLK.out
       have SK := Lib.hid sk
       have TK := Lib.hid tk
       have IK := Lib.hid ik
       have WK := Lib.hid wk
       have UK := Lib.hid uk
       have EK := Lib.hid ek
       clear sk tk ik wk uk ek
       obtain ⟨b9, rfl, hm9, hb9, hr9⟩ := HR9.out.at (by omega)
       have hrk := hr9.fr SK.out.fr (by rw [HB9.out b9 hb9]; exact NOS.out)
       have hrow := hrk.row k K0[k] (List.getElem?_eq_getElem hlk)
       have hlen9 := hr9.len
       have HMEM := Lib.hid (List.getElem_mem hlk)
       generalize K0[k] = x at *
       obtain ⟨xc, xh, xi, xw⟩ := x
       have k0 : wr.cell? ⟨b9, k * 4, none⟩ = some (.int .i64 xc) := hrow 0 _ rfl
       have k1 : wr.cell? ⟨b9, k * 4 + 1, none⟩ = some (.int .i64 xh) := hrow 1 _ rfl
       have k2 : wr.cell? ⟨b9, k * 4 + 2, none⟩ = some (.int .i64 xi) := hrow 2 _ rfl
       have k3 : wr.cell? ⟨b9, k * 4 + 3, none⟩ = some (.bool xw) := hrow 3 _ rfl
       have HROW : Hid (∀ w', Fr No wr w' → w'.cell? ⟨b9, k * 4, none⟩ = some (.int .i64 xc) ∧ w'.cell? ⟨b9, k * 4 + 1, none⟩ = some (.int .i64 xh) ∧ w'.cell? ⟨b9, k * 4 + 2, none⟩ = some (.int .i64 xi)) := Lib.hid (fun w' f => ⟨f.cell_of k0 id, f.cell_of k1 id, f.cell_of k2 id⟩)
       have q7 : (k : Int) < (K0.length : Int) := by omega
       have q8 : (0 : Int) ≤ (k : Int) := by omega
       have q9 : (k : Int) < (c9 : Int) := by omega
       have hmc : c9 ≤ 9223372036854775807 := hm9
       have HOB : Hid (ok b9 = 0) := Lib.hid ((SK.out.old b9 hr9.lt).trans (HB9.out b9 hb9))
       clear hrow hrk hr9 hm9
       cases xw with
       | false =>
        have L9 : Hid (LiesN w9 o8 L (20 * j + 2 + (k + 1)) (fun T => InvWT T ∧ T.K = K0) wr) := Lib.hid (by
         obtain ⟨n, hn, r⟩ := HLK.out
         exact ⟨n, by omega, r⟩)
        go_wp2_with fail
        go_roundw
        case rel => exact ⟨k + 1, by go_num, hlk, HV, L9⟩
        case measure => simp [intOf]; omega
       | true =>
        obtain ⟨iN, mF, hxi, hi8, hF⟩ := IK.out.tok ⟨xc, xh, xi, true⟩ (by rw [EK.out]; exact HMEM.out)
        dsimp only at hxi
        subst hxi
        have HFF := Lib.hid hF
        clear hF
        have hwr : IntKind.i64.wrap (Sk.swaps - 1) = Sk.swaps - 1 := by
         have := IK.out.swaps
         rw [IntKind.wrap_i64]; omega
        have HSWP : Hid (∀ W, Fr No wr W → Calls Tryz.prog 23 #[.pointer (some ⟨L.s, 0, none⟩)] W fun e w' => e = .returned (.int .i64 Sk.swaps) ∧ w' = W) := Lib.hid (fun W f => gswaps_ ok 0 _ L Sk W (TK.out.no IK.out.ok SK.out.fresh f))
        have hbd : ∀ W : World, (Instr.build 41 #[(1, .int .i64 7), (7, .int .i64 xh), (8, .int .i64 536870912), (9, .int .i64 (Sk.swaps - 1))]).run Tryz.prog W = .ok (.agg #[.int .i64 0, .int .i64 0, .int .i64 0, .int .i64 7, .string ⟨#[]⟩, .string ⟨#[]⟩, .bool false, .bool false, .bool false, .int .i64 xh, .int .i64 536870912, .int .i64 (Sk.swaps - 1), .slice none 0 0, .slice none 0 0]) W := fun W => by kernel_rfl
        go_wp2_with fail
        refine wp_region_born mixed (bornP 10 u10 (fun v W => ∃ g, v = .pointer (some ⟨g, 0, none⟩) ∧ wr.heap.size ≤ g ∧ W.heap[g]? = some (.cells #[.int .i64 0, .int .i64 0, .int .i64 0, .int .i64 0, .string ⟨#[]⟩, .string ⟨#[]⟩, .bool false, .bool false, .bool false, .int .i64 0, .int .i64 0, .int .i64 0, .slice none 0 0, .slice none 0 0] 41 (0, 0))) wr) 9 [10] (by kernel_rfl) (by kernel_rfl) (by kernel_rfl) (by kernel_rfl) (fun _ _ d _ _ h => by cases d <;> exact h) ⟨(Fr.refl _).drew, .inl (by rfl)⟩ ?_
        repeat (first
         | refine seqXB_skip (by rfl) ?_
         | (refine seqXB_val (v := ?_) (by rfl) (fun a v w => bornP_put _ _ _ _ _ (by decide) a v w) (by rfl) ?_ ?_
            rotate_left 1
            (intro W; go_simp; (try with_reducible rfl))
            simp only [Act.put, lsA, lsZ, lsS])
         | (refine seqXB_call (v := .int .i64 Sk.swaps) 23 #[.pointer (some ⟨L.s, 0, none⟩)] (by rfl) (fun a v w => bornP_put _ _ _ _ _ (by decide) a v w) (by kernel_rfl) (by rfl) ?_ (fun W hS => (HSWP.out W hS.choose_spec.1).mono (fun e w'' h => ⟨h.1, by rw [h.2]; exact fun _ h => h⟩)) ?_
            focus (intro W; go_simp; done)
            simp only [Act.put, lsA, lsZ, lsS])
         | (refine seqXB_valS (v := ?_) (by rfl) (fun a v w => bornP_put _ _ _ _ _ (by decide) a v w) (by kernel_rfl) (by rfl) ?_ ?_
            rotate_left 1
            (intro W hS; have e1 := (HROW.out W hS.choose_spec.1).2.1; clear hS; go_simp; (try with_reducible rfl))
            simp only [Act.put, lsA, lsZ, lsS]))
        unfold seqXB
        refine bornEnd_val (by rfl) (by rfl) ?_
        intro W hS
        refine ⟨.pointer (some ⟨W.heap.size, 0, none⟩), W.alloc (.cells #[.int .i64 0, .int .i64 0, .int .i64 0, .int .i64 0, .string ⟨#[]⟩, .string ⟨#[]⟩, .bool false, .bool false, .bool false, .int .i64 0, .int .i64 0, .int .i64 0, .slice none 0 0, .slice none 0 0] 41), by go_simp, ⟨hS.1.alloc _, .inr ⟨W.heap.size, by rfl, hS.1.size, new_at W _⟩⟩, ?_⟩
        intro W2 hS2
        obtain ⟨f2, h2⟩ := hS2
        have hgw : wr.heap.size ≤ W.heap.size := hS.1.size
        have hk2 : W2.heap[W.heap.size]? = some (.cells #[.int .i64 0, .int .i64 0, .int .i64 0, .int .i64 0, .string ⟨#[]⟩, .string ⟨#[]⟩, .bool false, .bool false, .bool false, .int .i64 0, .int .i64 0, .int .i64 0, .slice none 0 0, .slice none 0 0] 41 (0, 0)) := by
         rcases h2 with h2 | ⟨g, e, _, hk⟩
         ·have h6 := HV.out ⟨W.heap.size, 0, none⟩ (show u10 = _ from h2.symm)
          dsimp only at h6
          omega
         ·have e' : Value.pointer (some ⟨W.heap.size, 0, none⟩) = .pointer (some ⟨g, 0, none⟩) := e
          cases e'
          exact hk
        have KG := Lib.hid hk2
        have F2 := Lib.hid f2
        clear h2 hk2 f2 hS
        generalize W.heap.size = g at *
        simp only [List.filterMap_cons, List.filterMap_nil, List.getElem?_toArray, List.getElem?_cons_succ, List.getElem?_cons_zero, List.getElem_toArray, List.getElem_cons_succ, List.getElem_cons_zero, Act.put, lsA, lsZ, lsS]
        have HOC := Lib.hid (show (#[.int .i64 0, .int .i64 0, .int .i64 0, .int .i64 7, .string ⟨#[]⟩, .string ⟨#[]⟩, .bool false, .bool false, .bool false, .int .i64 xh, .int .i64 536870912, .int .i64 (Sk.swaps - 1), .slice none 0 0, .slice none 0 0] : Array Value).all (·.oneCell') = true from by simp [Value.oneCell'])
        refine wpList_store_row rfl 41 (.tmp 10) (.tmp 72) rfl g #[.int .i64 0, .int .i64 0, .int .i64 0, .int .i64 7, .string ⟨#[]⟩, .string ⟨#[]⟩, .bool false, .bool false, .bool false, .int .i64 xh, .int .i64 536870912, .int .i64 (Sk.swaps - 1), .slice none 0 0, .slice none 0 0] rfl rfl 41 _ KG.out Tryz.size41 rfl HOC.out ?_
        have F10 : Hid (Fr No wr (W2.setRow g #[.int .i64 0, .int .i64 0, .int .i64 0, .int .i64 7, .string ⟨#[]⟩, .string ⟨#[]⟩, .bool false, .bool false, .bool false, .int .i64 xh, .int .i64 536870912, .int .i64 (Sk.swaps - 1), .slice none 0 0, .slice none 0 0])) := Lib.hid (Fr.setRow F2.out (.inr hgw) _)
        have K10 := Lib.hid (setRow_at (cs' := #[.int .i64 0, .int .i64 0, .int .i64 0, .int .i64 7, .string ⟨#[]⟩, .string ⟨#[]⟩, .bool false, .bool false, .bool false, .int .i64 xh, .int .i64 536870912, .int .i64 (Sk.swaps - 1), .slice none 0 0, .slice none 0 0]) KG.out)
        generalize W2.setRow g #[.int .i64 0, .int .i64 0, .int .i64 0, .int .i64 7, .string ⟨#[]⟩, .string ⟨#[]⟩, .bool false, .bool false, .bool false, .int .i64 xh, .int .i64 536870912, .int .i64 (Sk.swaps - 1), .slice none 0 0, .slice none 0 0] = w10 at *
        clear KG F2 HOC hbd hwr
        have LF : Hid (∀ W, Fr No wr W → Calls Tryz.prog 18 #[.pointer (some ⟨L.s, 0, none⟩), .int .i64 xc] W fun e w' => e = .returned (.int .i64 (lifeS Sk xc)) ∧ w' = W) := Lib.hid (fun W f => glifeS_ ok 0 _ L Sk xc W (TK.out.no IK.out.ok SK.out.fresh f))
        have g0 : w10.cell? ⟨g, 0, none⟩ = some (.int .i64 0) := by rw [cell_at K10.out]; rfl
        have g1 : w10.cell? ⟨g, 1, none⟩ = some (.int .i64 0) := by rw [cell_at K10.out]; rfl
        have gz := fun j => frozen_at K10.out j
        have LS : Hid (∀ v, Fr No wr (w10.setCell ⟨g, 0, none⟩ v).drew) := Lib.hid (fun v => ((F10.out.of_no.trans (fr_set w10 g 0 v) (fun _ _ e => e)).drew.no (fun j hj e => by omega)))
        have h0 : w10.cell? ⟨b9, k * 4, none⟩ = some (.int .i64 xc) := (HROW.out w10 F10.out).1
        have h1 : ∀ v, (w10.setCell ⟨g, 0, none⟩ v).cell? ⟨b9, k * 4, none⟩ = some (.int .i64 xc) := fun v => (HROW.out _ (LS.out v)).1
        go_wp2_with fail
        simp only [Act.put]
        go_cut [] (fun wx => wx = ((w10.setCell ⟨g, 0, none⟩ (.int .i64 xc)).setCell ⟨g, 1, none⟩ (.int .i64 (lifeS Sk xc))).drew)
        case first =>
         go_region_with (go_at_call 18; (first | refine (LF.out _ F10.out.drew).mono ?_ | refine (LF.out _ (LS.out _)).mono ?_); rintro e w11 ⟨rfl, rfl⟩)
         all_goals
          go_wp2_with fail
          go_meet
          exact rfl
        subst hcut
        clear h0 h1
        have K11 : Hid (((w10.setCell ⟨g, 0, none⟩ (.int .i64 xc)).setCell ⟨g, 1, none⟩ (.int .i64 (lifeS Sk xc))).drew.heap[g]? = some (.cells #[.int .i64 xc, .int .i64 (lifeS Sk xc), .int .i64 0, .int .i64 7, .string ⟨#[]⟩, .string ⟨#[]⟩, .bool false, .bool false, .bool false, .int .i64 xh, .int .i64 536870912, .int .i64 (Sk.swaps - 1), .slice none 0 0, .slice none 0 0] 41 (0, 0))) := Lib.hid (setCell_at (setCell_at K10.out 0 _) 1 _)
        have F11 : Hid (Fr No wr ((w10.setCell ⟨g, 0, none⟩ (.int .i64 xc)).setCell ⟨g, 1, none⟩ (.int .i64 (lifeS Sk xc))).drew) := Lib.hid (((F10.out.of_no.trans (fr_set w10 g 0 _) (fun _ _ e => e)).trans (fr_set _ g 1 _) (fun _ _ e => e)).drew.no (fun j hj e => by omega))
        have z0 := (HROW.out _ F11.out).1
        have z0' : ((w10.setCell ⟨g, 0, none⟩ (.int .i64 xc)).setCell ⟨g, 1, none⟩ (.int .i64 (lifeS Sk xc))).cell? ⟨b9, k * 4, none⟩ = some (.int .i64 xc) := z0
        have HLST := Lib.hid (glast_ ok 0 _ L Sk xc _ (TK.out.no IK.out.ok SK.out.fresh F11.out) (Step.no (C := fun _ => False) SK.out.fresh F11.out).fresh IK.out.winlen)
        have HT := Lib.hid (UK.out.row ⟨xc, xh, iN, true⟩ (by rw [EK.out]; exact HMEM.out))
        obtain ⟨cN, hcN⟩ : ∃ n : Nat, xc = n := ⟨xc.toNat, by have := HT.out.1; dsimp only at this; omega⟩
        have hc4 : cN < 4 := by have := HT.out.2.1; dsimp only at this; omega
        obtain ⟨y, hy⟩ := Option.isSome_iff_exists.1 HT.out.2.2.2.2
        dsimp only at hy
        have hyn : Sk.W cN = some y := by rw [hcN, Int.toNat_natCast] at hy; exact hy
        have HL0 : Hid (lastW Sk.W xc = some (xc, y.1, y.2.1, y.2.2)) := Lib.hid (by rw [hcN]; exact lastW_some hc4 hyn)
        have HY := Lib.hid (WK.out cN y hyn)
        have HYW := Lib.hid hy
        rw [HL0.out] at HLST
        unfold LastPost at HLST
        have HCN := Lib.hid hcN
        have hyr := HY.out
        clear hy hyn z0 hcN
        go_wp2_with fail
        refine HLST.out.mono ?_
        rintro e w12 ⟨f12, v12, rfl, s12⟩
        have hq2 : IntKind.i64.wrap (y.2.1 + 1) = y.2.1 + 1 := by rw [IntKind.wrap_i64]; omega
        have k12 := f12.block_of K11.out id
        have e2 : w12.cell? ⟨g, 2, none⟩ = some (.int .i64 0) := by rw [cell_at k12]; rfl
        have ez := fun j => frozen_at k12 j
        have F12 := Lib.hid (F11.out.trans f12 (fun _ _ e => e))
        have K13 : Hid ((w12.setCell ⟨g, 2, none⟩ (.int .i64 (y.2.1 + 1))).heap[g]? = some (.cells #[.int .i64 xc, .int .i64 (lifeS Sk xc), .int .i64 (y.2.1 + 1), .int .i64 7, .string ⟨#[]⟩, .string ⟨#[]⟩, .bool false, .bool false, .bool false, .int .i64 xh, .int .i64 536870912, .int .i64 (Sk.swaps - 1), .slice none 0 0, .slice none 0 0] 41 (0, 0))) := Lib.hid (setCell_at k12 2 _)
        have F13 : Hid (Fr No wr (w12.setCell ⟨g, 2, none⟩ (.int .i64 (y.2.1 + 1)))) := Lib.hid ((F12.out.of_no.trans (fr_set w12 g 2 _) (fun _ _ e => e)).no (fun j hj e => by omega))
        clear k12 f12 g0 g1 gz z0' s12
        by_cases hbig : y.2.1 + 1 > 1073741824
        ·have q10 : (1073741824 : Int) < y.2.1 + 1 := by omega
         have L13 : Hid (LiesN w9 o8 L (20 * j + 2 + (k + 1)) (fun T => InvWT T ∧ T.K = K0) (w12.setCell ⟨g, 2, none⟩ (.int .i64 (y.2.1 + 1)))) := Lib.hid ⟨nk, by omega, ok, Sk, SK.out.trans ((Step.no (C := fun _ => False) SK.out.fresh F13.out).mono (fun _ e => e.elim)) (fun _ e => e), TK.out.no IK.out.ok SK.out.fresh F13.out, IK.out, ⟨WK.out, UK.out⟩, EK.out⟩
         have E13 : Hid (Elder (.pointer (some ⟨g, 0, none⟩)) (w12.setCell ⟨g, 2, none⟩ (.int .i64 (y.2.1 + 1)))) := Lib.hid (fun b e => by cases e; exact lt_of_block K13.out)
         go_wp2_with fail
         go_roundw
         case rel => exact ⟨k + 1, by go_num, hlk, E13, L13⟩
         case measure => simp [intOf]; omega
        ·have q10 : ¬ (1073741824 : Int) < y.2.1 + 1 := by omega
         go_upto_region 26 with fail
         generalize hw13 : w12.setCell ⟨g, 2, none⟩ (.int .i64 (y.2.1 + 1)) = w13 at *
         have z13 := HROW.out w13 F13.out
         have e13 : w13.cell? ⟨g, 2, none⟩ = some (.int .i64 (y.2.1 + 1)) := by rw [cell_at K13.out]; rfl
         have e0 : w13.cell? ⟨g, 0, none⟩ = some (.int .i64 xc) := by rw [cell_at K13.out]; rfl
         have e1 : w13.cell? ⟨g, 1, none⟩ = some (.int .i64 (lifeS Sk xc)) := by rw [cell_at K13.out]; rfl
         have e12 : w13.cell? ⟨g, 12, none⟩ = some (.slice none 0 0) := by rw [cell_at K13.out]; rfl
         have ez13 := fun j => frozen_at K13.out j
         have hw13s := F13.out.size
         have hgs : g < w13.heap.size := lt_of_block K13.out
         have ka13 : ∀ o, (w13.alloc o).heap[g]? = some (.cells #[.int .i64 xc, .int .i64 (lifeS Sk xc), .int .i64 (y.2.1 + 1), .int .i64 7, .string ⟨#[]⟩, .string ⟨#[]⟩, .bool false, .bool false, .bool false, .int .i64 xh, .int .i64 536870912, .int .i64 (Sk.swaps - 1), .slice none 0 0, .slice none 0 0] 41 (0, 0)) := fun o => ((Fr.refl (S := No) w13).alloc o).block_of K13.out id
         have ez14 : ∀ o j, (w13.alloc o).frozen? ⟨g, j, none⟩ = false := fun o j => frozen_at (ka13 o) j
         have e14 : ∀ o, (w13.alloc o).cell? ⟨g, 12, none⟩ = some (.slice none 0 0) := fun o => by rw [cell_at (ka13 o)]; rfl
         have K14 : Hid ((((w13.setCell ⟨g, 12, none⟩ (.slice (some ⟨w13.heap.size, 0, none⟩) 1 1)).alloc (.cells #[.int .i64 xc, .int .i64 (lifeS Sk xc), .int .i64 536870911, .int .i64 5] 57))).heap[g]? = some (.cells #[.int .i64 xc, .int .i64 (lifeS Sk xc), .int .i64 (y.2.1 + 1), .int .i64 7, .string ⟨#[]⟩, .string ⟨#[]⟩, .bool false, .bool false, .bool false, .int .i64 xh, .int .i64 536870912, .int .i64 (Sk.swaps - 1), .slice (some ⟨w13.heap.size, 0, none⟩) 1 1, .slice none 0 0] 41 (0, 0))) := Lib.hid (((Fr.refl (S := No) _).alloc _).block_of (setCell_at K13.out 12 _) id)
         have KS14 : Hid ((((w13.setCell ⟨g, 12, none⟩ (.slice (some ⟨w13.heap.size, 0, none⟩) 1 1)).alloc (.cells #[.int .i64 xc, .int .i64 (lifeS Sk xc), .int .i64 536870911, .int .i64 5] 57))).heap[w13.heap.size]? = some (.cells #[.int .i64 xc, .int .i64 (lifeS Sk xc), .int .i64 536870911, .int .i64 5] 57 (0, 0))) := Lib.hid (by
          have := new_at (w13.setCell ⟨g, 12, none⟩ (.slice (some ⟨w13.heap.size, 0, none⟩) 1 1)) (.cells #[.int .i64 xc, .int .i64 (lifeS Sk xc), .int .i64 536870911, .int .i64 5] 57)
          rwa [show (w13.setCell ⟨g, 12, none⟩ (.slice (some ⟨w13.heap.size, 0, none⟩) 1 1)).heap.size = w13.heap.size by simp] at this)
         have F14 : Hid (Fr No wr ((w13.setCell ⟨g, 12, none⟩ (.slice (some ⟨w13.heap.size, 0, none⟩) 1 1)).alloc (.cells #[.int .i64 xc, .int .i64 (lifeS Sk xc), .int .i64 536870911, .int .i64 5] 57))) := Lib.hid (((F13.out.of_no.trans (fr_set w13 g 12 _) (fun _ _ e => e)).alloc _).no (fun j hj e => by omega))
         have KA13 := Lib.hid ka13
         clear ka13
         clear hw13 z13
         go_upto_region 27 with fail
         generalize hw14 : ((w13.setCell ⟨g, 12, none⟩ (.slice (some ⟨w13.heap.size, 0, none⟩) 1 1)).alloc (.cells #[.int .i64 xc, .int .i64 (lifeS Sk xc), .int .i64 536870911, .int .i64 5] 57)) = w14 at *
         have u0 : w14.cell? ⟨w13.heap.size, 0, none⟩ = some (.int .i64 xc) := by rw [cell_at KS14.out]; rfl
         have u1 : w14.cell? ⟨w13.heap.size, 1, none⟩ = some (.int .i64 (lifeS Sk xc)) := by rw [cell_at KS14.out]; rfl
         have u2 : w14.cell? ⟨w13.heap.size, 2, none⟩ = some (.int .i64 536870911) := by rw [cell_at KS14.out]; rfl
         have u12 : w14.cell? ⟨g, 12, none⟩ = some (.slice (some ⟨w13.heap.size, 0, none⟩) 1 1) := by rw [cell_at K14.out]; rfl
         have u13 : w14.cell? ⟨g, 13, none⟩ = some (.slice none 0 0) := by rw [cell_at K14.out]; rfl
         have uz := fun j => frozen_at K14.out j
         have uk := (HROW.out w14 F14.out).2.2
         have ka14 : ∀ o, (w14.alloc o).heap[g]? = some (.cells #[.int .i64 xc, .int .i64 (lifeS Sk xc), .int .i64 (y.2.1 + 1), .int .i64 7, .string ⟨#[]⟩, .string ⟨#[]⟩, .bool false, .bool false, .bool false, .int .i64 xh, .int .i64 536870912, .int .i64 (Sk.swaps - 1), .slice (some ⟨w13.heap.size, 0, none⟩) 1 1, .slice none 0 0] 41 (0, 0)) := fun o => ((Fr.refl (S := No) w14).alloc o).block_of K14.out id
         have uz14 : ∀ o j, (w14.alloc o).frozen? ⟨g, j, none⟩ = false := fun o j => frozen_at (ka14 o) j
         have u14' : ∀ o, (w14.alloc o).cell? ⟨g, 13, none⟩ = some (.slice none 0 0) := fun o => by rw [cell_at (ka14 o)]; rfl
         have hw14s : w13.heap.size < w14.heap.size := lt_of_block KS14.out
         have K15 : Hid ((((w14.alloc (.cells #[.int .i64 1, .int .i64 iN, .int .i64 0, .int .i64 5, .int .i64 xc, .int .i64 (lifeS Sk xc), .int .i64 536870911, .int .i64 0, .int .i64 5, .int .i64 0, .int .i64 0, .int .i64 0, .int .i64 0, .int .i64 0] 61)).setCell ⟨g, 13, none⟩ (.slice (some ⟨w14.heap.size, 0, none⟩) 1 1)).drew).heap[g]? = some (.cells #[.int .i64 xc, .int .i64 (lifeS Sk xc), .int .i64 (y.2.1 + 1), .int .i64 7, .string ⟨#[]⟩, .string ⟨#[]⟩, .bool false, .bool false, .bool false, .int .i64 xh, .int .i64 536870912, .int .i64 (Sk.swaps - 1), .slice (some ⟨w13.heap.size, 0, none⟩) 1 1, .slice (some ⟨w14.heap.size, 0, none⟩) 1 1] 41 (0, 0))) := Lib.hid (setCell_at (ka14 _) 13 _)
         have KD15 : Hid ((((w14.alloc (.cells #[.int .i64 1, .int .i64 iN, .int .i64 0, .int .i64 5, .int .i64 xc, .int .i64 (lifeS Sk xc), .int .i64 536870911, .int .i64 0, .int .i64 5, .int .i64 0, .int .i64 0, .int .i64 0, .int .i64 0, .int .i64 0] 61)).setCell ⟨g, 13, none⟩ (.slice (some ⟨w14.heap.size, 0, none⟩) 1 1)).drew).heap[w14.heap.size]? = some (.cells #[.int .i64 1, .int .i64 iN, .int .i64 0, .int .i64 5, .int .i64 xc, .int .i64 (lifeS Sk xc), .int .i64 536870911, .int .i64 0, .int .i64 5, .int .i64 0, .int .i64 0, .int .i64 0, .int .i64 0, .int .i64 0] 61 (0, 0))) := Lib.hid ((fr_set _ g 13 _).drew.block_of (new_at w14 _) (by omega))
         have KS15 : Hid ((((w14.alloc (.cells #[.int .i64 1, .int .i64 iN, .int .i64 0, .int .i64 5, .int .i64 xc, .int .i64 (lifeS Sk xc), .int .i64 536870911, .int .i64 0, .int .i64 5, .int .i64 0, .int .i64 0, .int .i64 0, .int .i64 0, .int .i64 0] 61)).setCell ⟨g, 13, none⟩ (.slice (some ⟨w14.heap.size, 0, none⟩) 1 1)).drew).heap[w13.heap.size]? = some (.cells #[.int .i64 xc, .int .i64 (lifeS Sk xc), .int .i64 536870911, .int .i64 5] 57 (0, 0))) := Lib.hid (((((Fr.refl (S := fun k => k = g) w14).alloc _).trans (fr_set _ g 13 _) (fun _ _ e => e)).drew).block_of KS14.out (by omega))
         have F15 : Hid (Fr No wr ((w14.alloc (.cells #[.int .i64 1, .int .i64 iN, .int .i64 0, .int .i64 5, .int .i64 xc, .int .i64 (lifeS Sk xc), .int .i64 536870911, .int .i64 0, .int .i64 5, .int .i64 0, .int .i64 0, .int .i64 0, .int .i64 0, .int .i64 0] 61)).setCell ⟨g, 13, none⟩ (.slice (some ⟨w14.heap.size, 0, none⟩) 1 1)).drew) := Lib.hid (((((F14.out.of_no).alloc _).trans (fr_set _ g 13 _) (fun _ _ e => e)).drew).no (fun j hj e => by omega))
         have KA14 := Lib.hid ka14
         clear ka14
         clear hw14 e0 e1 e12 ez13 ez14 e14
         have hs1w : wr.heap.size ≤ w13.heap.size := hw13s
         have hd1w : wr.heap.size ≤ w14.heap.size := F14.out.size
         go_region
         all_goals
          clear u0 u1 u2 u12 u13 uz uk uz14 u14'
          generalize ((w14.alloc (.cells #[.int .i64 1, .int .i64 iN, .int .i64 0, .int .i64 5, .int .i64 xc, .int .i64 (lifeS Sk xc), .int .i64 536870911, .int .i64 0, .int .i64 5, .int .i64 0, .int .i64 0, .int .i64 0, .int .i64 0, .int .i64 0] 61)).setCell ⟨g, 13, none⟩ (.slice (some ⟨w14.heap.size, 0, none⟩) 1 1)).drew = w15 at *
          generalize w13.heap.size = s1 at *
          generalize w14.heap.size = d1 at *
          have uk := (HROW.out w15 F15.out).2.2
          have S15 := Lib.hid (Step.no (C := fun _ => False) SK.out.fresh F15.out)
          have T15 := Lib.hid (TK.out.step IK.out.ok S15.out (fun _ _ e => e))
          have HMP := Lib.hid (gmap_ ok 0 _ L Sk iN w15 T15.out IK.out.ok (by omega))
          unfold MapPost at HMP
          rw [HFF.out] at HMP
          dsimp only at HMP
          unfold FilePost at HMP
          have HFIT := Lib.hid (map_fits (IK.out.ok.file iN mF HFF.out).2.2 (IK.out.pts iN mF HFF.out)).1
          have HLEN := Lib.hid (map_fits (IK.out.ok.file iN mF HFF.out).2.2 (IK.out.pts iN mF HFF.out)).2
          go_wp2_with fail
          refine HMP.out.mono ?_
          rintro e w16 ⟨p16, rfl, fr16, f16⟩
          have HBY := Lib.hid (gbytes_ p16 mF w16 fr16 HFIT.out)
          unfold BytesPost at HBY
          have F16 := Lib.hid (F15.out.trans f16 (fun _ _ e => e))
          have G16 := Lib.hid f16
          clear fr16 f16 uk HMP
          go_wp2_with fail
          refine HBY.out.mono ?_
          rintro e w17 ⟨v17, b17, c17, rfl, sl17, hb17, f17⟩
          obtain rfl := sl17.1
          have SL17 := Lib.hid sl17
          have F17 := Lib.hid (F16.out.trans f17 (fun _ _ e => e))
          have G17 := Lib.hid (G16.out.trans f17 (fun _ _ e => e))
          have hb17' : wr.heap.size ≤ b17 := Nat.le_trans F16.out.size hb17
          have S17 := Lib.hid (Step.no (C := fun _ => False) SK.out.fresh F17.out)
          have T17 := Lib.hid (TK.out.step IK.out.ok S17.out (fun _ _ e => e))
          have HST := Lib.hid (gstripes_ ok 0 _ L Sk w17 T17.out S17.out.fresh (by omega))
          unfold StripesPost at HST
          clear sl17 f17 hb17 HBY
          go_wp2_with fail
          refine HST.out.mono ?_
          rintro e w18 ⟨v18, ss, rfl, rn18, nd18, mem18, _, f18⟩
          obtain ⟨a18, c18, hv18⟩ := rn18.shape
          subst hv18
          have ND := Lib.hid nd18
          have MEM := Lib.hid mem18
          have F18 := Lib.hid (F17.out.trans f18 (fun _ _ e => e))
          have G18 := Lib.hid (G17.out.trans f18 (fun _ _ e => e))
          have SL18 := Lib.hid (SL17.out.fr f18 id)
          have S18 := Lib.hid (Step.no (C := fun _ => False) SK.out.fresh F18.out)
          have T18 := Lib.hid (TK.out.step IK.out.ok S18.out (fun _ _ e => e))
          have KG18 := Lib.hid (G18.out.block_of K15.out id)
          have KS18 := Lib.hid (G18.out.block_of KS15.out id)
          have KD18 := Lib.hid (G18.out.block_of KD15.out id)
          have hyl : lifeS Sk xc = y.1 := by
           rw [HCN.out] at HYW ⊢
           have := HYW.out
           rw [Int.toNat_natCast] at this
           exact lifeS_some hc4 this
          have HYL := Lib.hid hyl
          have HRQ := Lib.hid (grequest_ ok ⟨xc, lifeS Sk xc, y.2.1 + 1, 7, [], [], false, false, false, xh, 536870912, Sk.swaps - 1⟩ (.slice (some ⟨s1, 0, none⟩) 1 1) (.slice (some ⟨d1, 0, none⟩) 1 1) [((xc, lifeS Sk xc, 536870911), 5)] w18 S18.out.fresh ⟨_, _, rfl, fun _ => ⟨s1, 0, rfl, SK.out.fresh s1 hs1w, lt_of_block KS18.out, fun j x hj => by
           obtain rfl : j = 0 := by have := (List.getElem?_eq_some_iff.1 hj).1; simp at this; exact this
           cases hj
           exact World.rangeAt_of_block KS18.out 0 4⟩⟩ ⟨_, _, _, rfl⟩ (by simp))
          unfold ReqPost at HRQ
          unfold Req.cells at HRQ
          dsimp only at HRQ
          clear rn18 nd18 mem18 f18 hyl HST
          go_wp2_with (refine wpList_load_row rfl 41 (.tmp 10) rfl g rfl 41 _ (0, 0) _ KG18.out Tryz.underlying41 rfl Tryz.size41 ?_)
          refine HRQ.out.mono ?_
          rintro e w19 ⟨rv19, rfl, hrq19, f19⟩
          have HSZ19 := Lib.hid f19.size
          have F19 := Lib.hid (F18.out.trans f19 (fun _ _ e => e))
          have S19 := Lib.hid (Step.no (C := fun _ => False) SK.out.fresh F19.out)
          have T19 := Lib.hid (TK.out.step IK.out.ok S19.out (fun _ _ e => e))
          have SL19 := Lib.hid (SL18.out.fr f19 id)
          have KD19 := Lib.hid (f19.block_of KD18.out id)
          have hnk : nk ≤ 1300 := by omega
          have hyr2 := HY.out
          have HW19 := Lib.hid (went2 ok (100 * nk) (2 * nk) L Sk ⟨xc, lifeS Sk xc, y.2.1 + 1, 7, [], [], false, false, false, xh, 536870912, Sk.swaps - 1⟩ rv19 (.slice (some ⟨d1, 0, none⟩) 1 1) [((xc, lifeS Sk xc, 536870911), 5)] [⟨1, iN, 0, 5, ⟨xc, lifeS Sk xc, 536870911, 0, 5⟩, noPt⟩] w19 T19.out IK.out S19.out.fresh hrq19 ⟨_, _, rfl, fun _ => ⟨d1, 0, rfl, SK.out.fresh d1 hd1w, lt_of_block KD19.out, fun j x hj => by
           obtain rfl : j = 0 := by have := (List.getElem?_eq_some_iff.1 hj).1; simp at this; exact this
           cases hj
           exact World.rangeAt_of_block KD19.out 0 14⟩⟩ ⟨by simp, by simp, by simp, by simp⟩ (fun s hs => by
            obtain rfl : s = ((xc, lifeS Sk xc, 536870911), 5) := by simpa using hs
            have := HYL.out
            have := HCN.out
            unfold stpGood I64
            dsimp only
            omega) (by omega) (by omega))
          unfold Went2 at HW19
          unfold Req.cells at HW19
          dsimp only at HW19
          clear hrq19 f19
          go_wp2_with fail
          refine HW19.out.mono ?_
          rintro e w20 ⟨x20, o20, ev20, mv20, rfl, q1e, q2e, d20, i20, s20, t20⟩
          obtain ⟨he20, hs20, hk20, hF20, hU20, hw20⟩ := swaps_lost WK.out UK.out (t := ⟨xc, xh, iN, true⟩) (by rw [EK.out]; exact HMEM.out) rfl HYW.out rfl HYL.out rfl (by dsimp only; omega) rfl rfl (by dsimp only; omega) (by simp) d20
          have P20 := Lib.hid (InvWT.turn ⟨WK.out, UK.out⟩ (turns_all d20))
          have HK20 := Lib.hid (hk20.trans EK.out)
          have kz := new_at w20 (.cells #[.int .i64 0, .int .i64 0, .int .i64 0, .int .i64 0, .int .i64 0, .bool false, .slice none 0 0, .slice none 0 0] 29)
          have K21 := Lib.hid (setRow_at (cs' := x20.1.cells ev20 mv20) kz)
          have KZ := Lib.hid kz
          have F21 : Hid (Fr No w20 ((w20.alloc (.cells #[.int .i64 0, .int .i64 0, .int .i64 0, .int .i64 0, .int .i64 0, .bool false, .slice none 0 0, .slice none 0 0] 29)).setRow w20.heap.size (x20.1.cells ev20 mv20))) := Lib.hid (Fr.setRow ((Fr.refl (S := No) w20).alloc _) (.inr (Nat.le_refl _)) _)
          have HOC := Lib.hid (RepS.cells_one (r := x20.1) q1e q2e)
          have SLX := Lib.hid (s20.sl SL19.out (by rw [SK.out.fresh b17 hb17']; exact NOS.out)).1
          have X9 := Lib.hid (s20.fr.cell_of (HROW.out w19 F19.out).2.2 (by rw [HOB.out]; exact NOS.out))
          have S20 := Lib.hid (SK.out.trans ((S19.out.mono (D := stateC 0) (fun _ e => e.elim)).trans s20 (fun _ e => e)) (fun _ e => e))
          have hgw20 : g < w20.heap.size := by
           have h1 := lt_of_block KG18.out
           have h2 := F18.out
           have h3 := s20.fr.size
           have h4 : w18.heap.size ≤ w19.heap.size := HSZ19.out
           omega
          have TX := Lib.hid t20
          have IX := Lib.hid i20
          have FX := Lib.hid s20.fresh
          have H23 : Hid (∀ W, Fr No w20 W → Calls Tryz.prog 23 #[.pointer (some ⟨L.s, 0, none⟩)] W fun e w' => e = .returned (.int .i64 Sk.swaps) ∧ w' = W) := Lib.hid (fun W f => by
           have := gswaps_ o20 0 _ L x20.2 W (TX.out.no IX.out.ok FX.out f)
           rwa [hw20] at this)
          have H26 : Hid (∀ W, Fr No w20 W → Calls Tryz.prog 26 #[.pointer (some ⟨L.s, 0, none⟩), .int .i64 iN] W (FilePost W mF)) := Lib.hid (fun W f => by
           have := gmap_ o20 0 _ L x20.2 iN W (TX.out.no IX.out.ok FX.out f) IX.out.ok (by omega)
           rwa [hF20, HFF.out] at this)
          have H27 : Hid (∀ W, Fr No w20 W → Calls Tryz.prog 27 #[.pointer (some ⟨L.s, 0, none⟩)] W (StripesPost W Sk.U)) := Lib.hid (fun W f => by
           have := gstripes_ o20 0 _ L x20.2 W (TX.out.no IX.out.ok FX.out f) (Step.no (C := fun _ => False) FX.out f).fresh (by omega)
           rwa [hU20] at this)
          have HE := Lib.hid he20
          have HSW := Lib.hid hs20
          unfold FilePost at H26
          unfold StripesPost at H27
          clear he20 hs20 hk20 hF20 hU20 hw20 d20 s20 t20 i20 kz
          go_upto_region 31 with (refine wpList_store_row rfl 29 (.tmp 15) (.tmp 145) rfl w20.heap.size (x20.1.cells ev20 mv20) rfl rfl 29 _ KZ.out Tryz.size29 rfl HOC.out ?_)
          have z0 : ((w20.alloc (.cells #[.int .i64 0, .int .i64 0, .int .i64 0, .int .i64 0, .int .i64 0, .bool false, .slice none 0 0, .slice none 0 0] 29)).setRow w20.heap.size (x20.1.cells ev20 mv20)).cell? ⟨w20.heap.size, 0, none⟩ = some (.int .i64 15) := by
           rw [cell_at K21.out]
           show some (Value.int .i64 x20.1.e) = _
           rw [HE.out]
          have z4 : ((w20.alloc (.cells #[.int .i64 0, .int .i64 0, .int .i64 0, .int .i64 0, .int .i64 0, .bool false, .slice none 0 0, .slice none 0 0] 29)).setRow w20.heap.size (x20.1.cells ev20 mv20)).cell? ⟨w20.heap.size, 4, none⟩ = some (.int .i64 Sk.swaps) := by
           rw [cell_at K21.out]
           show some (Value.int .i64 x20.1.swaps) = _
           rw [HSW.out]
          have z9 := F21.out.cell_of X9.out id
          have fz := F21.out.drew
          have SLZ := Lib.hid (SLX.out.fr F21.out id)
          have FZ1 := Lib.hid F21.out
          generalize (w20.alloc (.cells #[.int .i64 0, .int .i64 0, .int .i64 0, .int .i64 0, .int .i64 0, .bool false, .slice none 0 0, .slice none 0 0] 29)).setRow w20.heap.size (x20.1.cells ev20 mv20) = w21 at *
          have HEND : Hid (∀ W, Fr No w20 W → Elder (.pointer (some ⟨g, 0, none⟩)) W ∧ LiesN w9 o8 L (20 * j + 2 + (k + 1)) (fun T => InvWT T ∧ T.K = K0) W) := Lib.hid (fun W f => ⟨fun b e => by cases e; exact Nat.lt_of_lt_of_le hgw20 f.size, nk + 1, by omega, o20, x20.2, S20.out.trans ((Step.no (C := fun _ => False) FX.out f).mono (fun _ e => e.elim)) (fun _ e => e), TX.out.no IX.out.ok FX.out f, IX.out, P20.out, HK20.out⟩)
          have h16 : (mapB mF).length ≤ 1000000 := by have := HLEN.out; omega
          go_wp2_with fail
          go_region_held3 (fun w' => w'.cell? ⟨w20.heap.size, 0, none⟩ = some (.int .i64 15) ∧ w'.cell? ⟨w20.heap.size, 4, none⟩ = some (.int .i64 Sk.swaps) ∧ w'.cell? ⟨b9, k * 4 + 2, none⟩ = some (.int .i64 iN)) (first | go_keep | (go_split_ands; refine ⟨?_, ?_, ?_⟩ <;> (first | exact f27.cell_of (by assumption) id | exact f28.cell_of (by assumption) id | exact f25.cell_of (by assumption) id | exact f26.cell_of (by assumption) id)))
           (first
           | (go_at_call 23; refine (H23.out _ fz).mono ?_; rintro e w23 ⟨rfl, rfl⟩)
           | (go_at_call 26; refine (H26.out _ fz).mono ?_; rintro e w26 ⟨p26, rfl, fr26, f26⟩; have fz := fz.trans f26 (fun _ _ e => e))
           | (go_at_call 25; refine (gbytes_ p26 mF _ fr26 HFIT.out).mono ?_; rintro e w25 ⟨v25, b25, c25, rfl, sl25, hb25, f25⟩; obtain rfl := sl25.1; have fz := fz.trans f25 (fun _ _ e => e))
           | (go_at_call 28; refine (gsame_ _ _ (mapB mF) (mapB mF) _ sl25.slAt (SLX.out.fr fz id).slAt h16).mono ?_; rintro e w28 ⟨rfl, f28⟩; have fz := fz.trans f28 (fun _ _ e => e))
           | (go_at_call 27; refine (H27.out _ fz).mono ?_; rintro e w27 ⟨v27, ss27, rfl, rn27, nd27, mem27, _, f27⟩; obtain ⟨a27, c27, hv27⟩ := rn27.shape; subst hv27; have hl27 : ss27.length = ss.length := ((List.perm_ext_iff_of_nodup nd27 ND.out).2 (fun x => (mem27 x).trans (MEM.out x).symm)).length_eq; have fz := fz.trans f27 (fun _ _ e => e)))
          all_goals
           have HF := Lib.hid (HEND.out _ fz)
           go_wp2_with fail
           go_roundw
           case rel => exact ⟨k + 1, by go_num, hlk, Lib.hid HF.out.1, Lib.hid HF.out.2⟩
           case measure => simp [intOf]; omega
      ·obtain rfl : k = K0.length := by omega
       have q9 : ¬ (K0.length : Int) < (K0.length : Int) := by omega
       have L9 : Hid (LiesN w4 o4 L (20 * (j + 1)) InvWT wr) := Lib.hid (by
        obtain ⟨n, hn, oz, Sz, sz, tz, iz, pz⟩ := HLK.out
        exact ⟨n, by omega, oz, Sz, S9.out.trans sz (fun _ e => e), tz, iz, pz.1⟩)
       go_wp2_with fail
       go_roundw
       case rel => exact ⟨j + 1, by go_num, hlt, HV, L9⟩
       case measure => simp [intOf]; omega
   ·have q1 : ¬ (j : Int) < (L1.length : Int) := by omega
    have FB := Lib.hid (Lies.fr ⟨oj, S, SJ.out, TJ.out, IJ.out, PJ.out⟩ F4.out HLE.out)
    go_wp2_with fail
    exact HQ.out _ FB.out
end Go.Proofs.YtlcojhddnpmgmaaGreat
