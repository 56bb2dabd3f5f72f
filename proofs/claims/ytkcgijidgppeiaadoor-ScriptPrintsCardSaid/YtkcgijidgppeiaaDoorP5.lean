/- The script's reader, walked: an event. -/
import Derived.Test.YtkcgijidgppeiaaDoorP4
import Derived.Deep.MidRow
namespace Go.Proofs.YtkcgijidgppeiaaDoor
open Go.RowKit

structure Ev3 (w0 w : World) (br : Nat) (ws : List ByteArray) (b2 : Nat) (c2 : Array Value) (bc : Nat) (cc : Array Value) (bp : Nat) : Prop where
  two : Two w0 w br ws b2 c2 bc cc 50
  kp : w.heap[bp]? = some (.cells #[.pointer (some ⟨br, 0, none⟩)] 54 (0, 0))
  lp : w0.heap.size ≤ bp
  np2 : bp ≠ b2
  npc : bp ≠ bc

theorem Ev3.call {w0 w w' : World} {br b2 bc bp : Nat} {ws ws' : List ByteArray} {c2 cc : Array Value} (h : Ev3 w0 w br ws b2 c2 bc cc bp) (f : Fr (· = br) w w') (r : Rd w' br ws') : Ev3 w0 w' br ws' b2 c2 bc cc bp :=
  ⟨h.two.call f r, f.block_of h.kp (by have := h.lp; have := h.two.lbr; omega), h.lp, h.np2, h.npc⟩
theorem Ev3.no {w0 w w' : World} {br b2 bc bp : Nat} {ws : List ByteArray} {c2 cc : Array Value} (h : Ev3 w0 w br ws b2 c2 bc cc bp) (f : Fr No w w') : Ev3 w0 w' br ws b2 c2 bc cc bp :=
  ⟨h.two.no f, f.block_of h.kp id, h.lp, h.np2, h.npc⟩
theorem Ev3.setC {w0 w : World} {br b2 bc bp : Nat} {ws : List ByteArray} {c2 cc : Array Value} (h : Ev3 w0 w br ws b2 c2 bc cc bp) (j : Nat) (v : Value) : Ev3 w0 (w.setCell ⟨bc, j, none⟩ v) br ws b2 c2 bc (cc.setIfInBounds j v) bp :=
  ⟨h.two.setC j v, setCell_off h.kp h.npc j v, h.lp, h.np2, h.npc⟩
theorem Ev3.set2 {w0 w : World} {br b2 bc bp : Nat} {ws : List ByteArray} {c2 cc : Array Value} (h : Ev3 w0 w br ws b2 c2 bc cc bp) (j : Nat) (v : Value) : Ev3 w0 (w.setCell ⟨b2, j, none⟩ v) br ws b2 (c2.setIfInBounds j v) bc cc bp :=
  ⟨h.two.set2 j v, setCell_off h.kp h.np2 j v, h.lp, h.np2, h.npc⟩
theorem Ev3.ptr {w0 w : World} {br b2 bc bp : Nat} {ws : List ByteArray} {c2 cc : Array Value} (h : Ev3 w0 w br ws b2 c2 bc cc bp) : w.cell? ⟨bp, 0, none⟩ = some (.pointer (some ⟨br, 0, none⟩)) := by
  rw [cell_at h.kp]; rfl

/-- what 'node' does. -/
def NodePost (w0 : World) (br : Nat) (ws : List ByteArray) (b2 : Nat) (c2 : Array Value) (bc : Nat) (cc : Array Value) (bp : Nat) (e : Ending) (w' : World) : Prop :=
  (∃ x r, Scr.num ws = some (x, r) ∧ I64 x ∧ e = .returned (.tuple #[]) ∧ Ev3 w0 w' br r b2 c2 bc (cc.setIfInBounds 1 (.int .i64 x)) bp) ∨ (Scr.num ws = none ∧ e = .panicked oddC ∧ Fr (· = br) w0 w')

set_option maxHeartbeats 400000 in
theorem node_ (w0 w : World) (br : Nat) (ws : List ByteArray) (b2 : Nat) (c2 : Array Value) (bc : Nat) (cc : Array Value) (bp : Nat) (O : Ev3 w0 w br ws b2 c2 bc cc bp) (hs : 1 < cc.size) :
    Calls Tryd.prog 41 #[.pointer (some ⟨bp, 0, none⟩), .pointer (some ⟨bc, 0, none⟩)] w (NodePost w0 br ws b2 c2 bc cc bp) := by
  have hp := O.ptr
  go_enter Tryd.func41, Tryd.ntmps41
  go_wp2_with fail
  refine (num_ br ws _ O.two.rd O.two.gl).mono ?_
  rintro e w1 (⟨x, r, v, hf, rfl, ⟨rfl, i0, i1⟩, hr, f⟩ | ⟨hf, rfl, f⟩)
  rotate_left
  · exact ⟨rfl, .inr ⟨hf, rfl, O.two.fr.br_trans f⟩⟩
  have H := Lib.hid hf
  have I : I64 x := ⟨i0, i1⟩
  replace O := O.call f hr
  obtain ⟨c1, z1⟩ := O.two.cell 1
  obtain ⟨old, ho⟩ : ∃ old, cc[1]? = some old := ⟨_, Array.getElem?_eq_getElem hs⟩
  rw [ho] at c1
  have O' := O.setC 1 (.int .i64 x)
  clear hf f hr i0 i1 ho O hp
  go_wp2_with fail
  refine ⟨rfl, _, results_none rfl _ _ _, .inl ⟨x, r, H.out, I, rfl, O'⟩⟩

theorem kind_stop {w : List UInt8} {k : Nat} (hk : k ≤ 11) (h : ¬ (k ≤ 10 ∧ Scr.name k ≠ w)) : Scr.kindFrom (11 - k) k w = k := by
  rcases Nat.lt_or_ge k 11 with h1 | h1
  · rw [show 11 - k = (10 - k) + 1 by omega]
    unfold Scr.kindFrom
    rw [if_neg h]
  · rw [show 11 - k = 0 by omega]; rfl
theorem kind_on {w : List UInt8} {k : Nat} (h : k ≤ 10 ∧ Scr.name k ≠ w) : Scr.kindFrom (11 - k) k w = Scr.kindFrom (11 - (k + 1)) (k + 1) w := by
  rw [show 11 - k = (11 - (k + 1)) + 1 by omega]
  rw [Scr.kindFrom, if_pos h]

theorem OpV.fr {S : Nat → Prop} {w w' : World} {o : Scr.OpS} {vs : List Value} (h : OpV w o vs) (f : Fr S w w') (hS : ∀ a l c, Value.slice (some a) l c ∈ vs → ¬ S a.block) : OpV w' o vs := by
  obtain ⟨vb, rfl, hs, r⟩ := h
  exact ⟨vb, rfl, hs.fr f (fun a l c hv => hS a l c (by rw [hv]; simp)), r⟩
theorem i64_lit (n : Int) (h : -9223372036854775808 ≤ n ∧ n ≤ 9223372036854775807) : I64 n := h
theorem OpV.zero (w : World) : OpV w Scr.OpS.zero [.int .i64 0, .string ⟨#[]⟩, .string ⟨#[]⟩, .int .i64 0, .int .i64 0, .int .i64 0, .bool false, .slice none 0 0] :=
  ⟨_, rfl, .inl ⟨rfl, _, _, rfl⟩, i64_lit 0 (by decide), i64_lit 0 (by decide), i64_lit 0 (by decide), i64_lit 0 (by decide), by simp [Scr.OpS.zero], by simp [Scr.OpS.zero], by simp [Scr.OpS.zero]⟩
/-- an event's thirteen values. -/
def EvV (w : World) (e : Scr.Ev) (vs : List Value) : Prop :=
  ∃ ovs vb, vs = [.int .i64 e.kind, .int .i64 e.node, .int .i64 e.fate, .int .i64 e.n] ++ ovs ++ [vb] ∧ OpV w e.op ovs ∧ SlAt w vb e.b ∧ I64 e.kind ∧ I64 e.node ∧ I64 e.fate ∧ I64 e.n ∧ e.b.length ≤ 1048576
theorem newvs_lt {w0 w : World} {br b2 bc bp : Nat} {ws : List ByteArray} {c2 cc : Array Value} {vs : List Value} (h : NewVs w.heap.size vs) (o : Ev3 w0 w br ws b2 c2 bc cc bp) : ∀ a l c, Value.slice (some a) l c ∈ vs → b2 < a.block ∧ bc < a.block := by
  intro a l c hv
  have h1 := h a l c hv
  have h2 := lt_of_block o.two.k2
  have h3 := lt_of_block o.two.kc
  omega

theorem wpList_store_row {P : Program} {ops : Array Oper} {rest : List Oper} {o : Oper} {a : Act} {w : World} {Q : Exit → Act → World → Prop} (hgd : o.guard = none) (ty : TypeId) (x y : Operand) (ho : o.op = .store ty x y)
    (g : Nat) (cells : Array Value) (hx : a.eval x = .pointer (some ⟨g, 0, none⟩)) (hy : a.eval y = .agg cells)
    (t : TypeId) (old : Array Value) (hg : w.heap[g]? = some (.cells old t (0, 0))) (hi : (P.info? ty).map (·.size) = some cells.size)
    (hold : old.size = cells.size) (h1 : cells.all (·.oneCell') = true)
    (h : wpList P ops Q rest (a.put o.dst undef) (w.setRow g cells)) : wpList P ops Q (o :: rest) a w :=
  wpList_plain hgd fun _ hK => wp_store_row ty x y ho g cells hx hy t old hg hi hold h1 (hK _ _ h)
theorem Tryd.size50 : (Tryd.prog.info? 50).map (·.size) = some 13 := by kernel_rfl
theorem Tryd.size45 : (Tryd.prog.info? 45).map (·.size) = some 8 := by kernel_rfl
theorem there_of {w : World} {b : Nat} {cs : Array Value} {t : TypeId} (h : w.heap[b]? = some (.cells cs t (0, 0))) (o n : Nat) (hn : o + n ≤ cs.size) : w.there b o n := fun j hj => by
  rw [cell_at h, frozen_at h]
  exact ⟨by rw [Array.getElem?_eq_getElem (by omega)]; rfl, rfl⟩
theorem Fr.setRow {S : Nat → Prop} {a b : World} (h : Fr S a b) {g : Nat} (hp : S g ∨ a.heap.size ≤ g) (cs : Array Value) : Fr S a (b.setRow g cs) := by
  refine ⟨h.os, h.tape, h.output, by simpa [World.setRow] using h.size, fun k hk hn => ?_⟩
  rw [← h.block k hk hn]
  simp only [World.setRow, Array.getElem?_modify]
  rw [if_neg (by
    rintro rfl
    rcases hp with hp | hp
    · exact hn hp
    · omega)]
theorem setRow_at {w : World} {b : Nat} {cs cs' : Array Value} {t : TypeId} {fz : Nat × Nat} (h : w.heap[b]? = some (.cells cs t fz)) : (w.setRow b cs').heap[b]? = some (.cells cs' t fz) := by
  simp [World.setRow, Array.getElem?_modify, h]
theorem Ev3.row2 {w0 w : World} {br b2 bc bp : Nat} {ws : List ByteArray} {c2 cc : Array Value} (h : Ev3 w0 w br ws b2 c2 bc cc bp) (cs : Array Value) : Ev3 w0 (w.setRow b2 cs) br ws b2 cs bc cc bp := by
  have f : Fr (· = b2) w (w.setRow b2 cs) := Fr.setRow (S := (· = b2)) (Fr.refl _) (.inl rfl) cs
  have h1 := h.two.l2
  have h2 := h.two.lbr
  have h3 := h.two.rd.1
  exact ⟨⟨h.two.gl.fr f (fun k hk e => by omega), h.two.rd.fr f (fun k hk e => by omega), setRow_at h.two.k2, f.block_of h.two.kc (fun e => h.two.ne e.symm), Fr.setRow h.two.fr (.inr h1) cs, h1, h.two.lc, h.two.ne, h2⟩,
    f.block_of h.kp h.np2, h.lp, h.np2, h.npc⟩

theorem one_cells (cs : List Value) (h : ∀ v ∈ cs, v.oneCell' = true) : cs.toArray.all (·.oneCell') = true := all_oneCell_toArray h

def spl (cc : Array Value) : Nat → List Value → Array Value
  | _, [] => cc
  | o, v :: r => spl (cc.setIfInBounds o v) (o + 1) r
theorem Ev3.setCs {w0 : World} {br b2 bc bp : Nat} {ws : List ByteArray} {c2 : Array Value} : ∀ {w : World} {cc : Array Value}, Ev3 w0 w br ws b2 c2 bc cc bp → ∀ (o : Nat) (vs : List Value), Ev3 w0 (w.setCells bc o vs) br ws b2 c2 bc (spl cc o vs) bp
  | _, _, h, _, [] => h
  | _, _, h, o, v :: r => Ev3.setCs (h.setC o v) (o + 1) r
theorem Fr.setCs {S : Nat → Prop} {a b : World} {g : Nat} (h : Fr S a b) (hp : S g ∨ a.heap.size ≤ g) (o : Nat) (vs : List Value) : Fr S a (b.setCells g o vs) := by
  induction vs generalizing b o with
  | nil => exact h
  | cons v r ih => exact ih (Fr.setCell (p := ⟨g, o, none⟩) h hp v) (o + 1)

def Z13 : Array Value := #[.int .i64 0, .int .i64 0, .int .i64 0, .int .i64 0, .int .i64 0, .string ⟨#[]⟩, .string ⟨#[]⟩, .int .i64 0, .int .i64 0, .int .i64 0, .bool false, .slice none 0 0, .slice none 0 0]

set_option maxRecDepth 100000 in
set_option maxHeartbeats 6400000 in
theorem event_ (br : Nat) (ws : List ByteArray) (w : World) (h : Rd w br ws) (hg : Glob w) : Calls Tryd.prog 21 #[.pointer (some ⟨br, 0, none⟩)] w (RdPost w br ws Scr.event fun w' x v => ∃ vs, v = .agg vs.toArray ∧ EvV w' x vs ∧ NewVs w.heap.size vs ∧ Tag5 w' vs) := by
  have hlt := h.lt
  have h8 := h.1
  have hmf : ∀ (fn : Fn) (first cap : Array Value) (w : World), (Instr.makeFunc fn first cap).run Tryd.prog w = .ok (.func fn first cap) w := fun _ _ _ _ => rfl
  go_enter Tryd.func21, Tryd.ntmps21
  go_wp2_with fail
  have F0 : Fr No w ((w.alloc (.cells #[.pointer (some ⟨br, 0, none⟩)] 54)).alloc (.cells #[.int .i64 0, .int .i64 0, .int .i64 0, .int .i64 0, .int .i64 0, .string ⟨#[]⟩, .string ⟨#[]⟩, .int .i64 0, .int .i64 0, .int .i64 0, .bool false, .slice none 0 0, .slice none 0 0] 50)) := ((Fr.refl _).alloc _).alloc _
  refine (word_ br ws _ (h.no F0)).mono ?_
  rintro e w1 (⟨x, r, v, hf, rfl, rfl, hr, f⟩ | ⟨hf, rfl, f⟩)
  rotate_left
  · exact ⟨rfl, .inr ⟨by simp [Scr.event, hf], rfl, F0.of_no.br_trans f⟩⟩
  have O : Ev3 w (w1.alloc (.cells #[.int .i64 1, .int .i64 0, .int .i64 0, .int .i64 0, .int .i64 0, .string ⟨#[]⟩, .string ⟨#[]⟩, .int .i64 0, .int .i64 0, .int .i64 0, .bool false, .slice none 0 0, .slice none 0 0] 50)) br r (w.heap.size + 1) #[.int .i64 0, .int .i64 0, .int .i64 0, .int .i64 0, .int .i64 0, .string ⟨#[]⟩, .string ⟨#[]⟩, .int .i64 0, .int .i64 0, .int .i64 0, .bool false, .slice none 0 0, .slice none 0 0] w1.heap.size #[.int .i64 1, .int .i64 0, .int .i64 0, .int .i64 0, .int .i64 0, .string ⟨#[]⟩, .string ⟨#[]⟩, .int .i64 0, .int .i64 0, .int .i64 0, .bool false, .slice none 0 0, .slice none 0 0] w.heap.size := by
    have s1 : w.heap.size + 1 + 1 ≤ w1.heap.size := by have := f.size; simpa using this
    have kp : w1.heap[w.heap.size]? = some (.cells #[.pointer (some ⟨br, 0, none⟩)] 54 (0, 0)) := f.block_of (by rw [Below.heap_alloc _ _ _ (by simp)]; exact new_at _ _) (by omega)
    have k2 : w1.heap[w.heap.size + 1]? = some (.cells #[.int .i64 0, .int .i64 0, .int .i64 0, .int .i64 0, .int .i64 0, .string ⟨#[]⟩, .string ⟨#[]⟩, .int .i64 0, .int .i64 0, .int .i64 0, .bool false, .slice none 0 0, .slice none 0 0] 50 (0, 0)) := f.block_of (by
      have := new_at (w.alloc (.cells #[.pointer (some ⟨br, 0, none⟩)] 54)) (.cells #[.int .i64 0, .int .i64 0, .int .i64 0, .int .i64 0, .int .i64 0, .string ⟨#[]⟩, .string ⟨#[]⟩, .int .i64 0, .int .i64 0, .int .i64 0, .bool false, .slice none 0 0, .slice none 0 0] 50)
      simpa using this) (by omega)
    refine ⟨⟨((hg.no F0).br f h8).no ((Fr.refl _).alloc _), hr.no ((Fr.refl _).alloc _), ?_, new_at _ _, (F0.of_no.br_trans f).alloc _, by omega, by omega, by omega, hlt⟩, ?_, by omega, by omega, by omega⟩
    · rw [Below.heap_alloc _ _ _ (by omega)]; exact k2
    · rw [Below.heap_alloc _ _ _ (by omega)]; exact kp
  have HW := Lib.hid hf
  have hne1 : w.heap.size ≠ w1.heap.size := by have := O.npc; exact this
  clear hf f hr F0 h hg
  go_wp2_with fail
  go_loopw [9] (fun _ wr => ∃ k : Nat, 1 ≤ k ∧ k ≤ 11 ∧ Scr.kindOf x.data.toList = Scr.kindFrom (11 - k) k x.data.toList ∧ Ev3 w wr br r (w.heap.size + 1) #[.int .i64 0, .int .i64 0, .int .i64 0, .int .i64 0, .int .i64 0, .string ⟨#[]⟩, .string ⟨#[]⟩, .int .i64 0, .int .i64 0, .int .i64 0, .bool false, .slice none 0 0, .slice none 0 0] w1.heap.size #[.int .i64 k, .int .i64 0, .int .i64 0, .int .i64 0, .int .i64 0, .string ⟨#[]⟩, .string ⟨#[]⟩, .int .i64 0, .int .i64 0, .int .i64 0, .bool false, .slice none 0 0, .slice none 0 0] w.heap.size)
    (fun _ wr => 11 - (intOf ((wr.cell? ⟨w1.heap.size, 0, none⟩).getD undef)).toNat)
  case atStart => exact ⟨1, by omega, by omega, rfl, O⟩
  case round =>
    obtain ⟨k, hk1, hk2, hkf, O⟩ := hrel
    have HK := Lib.hid hkf
    clear hkf
    obtain ⟨c0, z0⟩ := O.two.cell 0
    simp only [List.getElem?_toArray, List.getElem?_cons_zero] at c0
    by_cases hc : k ≤ 10 ∧ Scr.name k ≠ x.data.toList
    · have HN := Lib.hid (kind_on hc)
      obtain ⟨h10, hnm⟩ := hc
      have ht : (Scr.name k == x.toList) = false := by rw [ByteArray.toList_eq]; simpa using hnm
      clear hnm
      have O' := O.setC 0 (.int .i64 ((k : Int) + 1))
      go_wp2_with (go_at_call 26; refine (name_ _ _ (by omega) (by omega)).mono ?_; rintro e w' ⟨rfl, rfl⟩)
      go_roundw
      case rel =>
        refine ⟨k + 1, by omega, by omega, by rw [HK.out, HN.out], ?_⟩
        simpa using O'
      case measure =>
        have e1 := (O'.two.cell 0).1
        simp only [List.getElem?_toArray, List.getElem?_cons_zero, List.setIfInBounds_toArray, List.set_cons_zero] at e1
        simp [e1, c0, intOf]
        omega
    · have HN := Lib.hid (kind_stop hk2 hc)
      have hkd : Scr.kindOf x.data.toList = k := by rw [HK.out, HN.out]
      have hnm : k ≤ 10 → (Scr.name k == x.toList) = true := fun h => by
        have : Scr.name k = x.data.toList := Classical.byContradiction fun h' => hc ⟨h, h'⟩
        rw [this, ByteArray.toList_eq]
        simp
      have hne3 : w.heap.size + 1 ≠ w1.heap.size := O.two.ne
      have HKD := Lib.hid hkd
      have HNM := Lib.hid hnm
      clear hkd hnm hc HN HK
      rcases (by omega : k = 1 ∨ k = 2 ∨ k = 3 ∨ k = 4 ∨ k = 5 ∨ k = 6 ∨ k = 7 ∨ k = 8 ∨ k = 9 ∨ k = 10 ∨ k = 11) with rfl | rfl | rfl | rfl | rfl | rfl | rfl | rfl | rfl | rfl | rfl
      · have O1 : Ev3 w wr br r (w.heap.size + 1) #[.int .i64 0, .int .i64 0, .int .i64 0, .int .i64 0, .int .i64 0, .string ⟨#[]⟩, .string ⟨#[]⟩, .int .i64 0, .int .i64 0, .int .i64 0, .bool false, .slice none 0 0, .slice none 0 0] w1.heap.size #[.int .i64 1, .int .i64 0, .int .i64 0, .int .i64 0, .int .i64 0, .string ⟨#[]⟩, .string ⟨#[]⟩, .int .i64 0, .int .i64 0, .int .i64 0, .bool false, .slice none 0 0, .slice none 0 0] w.heap.size := O
        have c1 : wr.cell? ⟨w1.heap.size, 0, none⟩ = some (.int .i64 1) := c0
        have hnm : (Scr.name 1 == x.toList) = true := HNM.out (by decide)
        clear O c0
        have O := O1
        have c0 := c1
        clear O1 c1
        have hp := O.ptr
        go_wp2_with (go_at_call 26; refine (name_ _ _ (by omega) (by omega)).mono ?_; rintro e w' ⟨rfl, rfl⟩)
        refine (node_ w _ br r _ _ _ _ _ O (by decide)).mono ?_
        rintro e w2 (⟨x0, r0, hf, I0, rfl, O1⟩ | ⟨hf, rfl, f⟩)
        rotate_left
        · exact ⟨rfl, .inr ⟨by simp [Scr.event, HW.out, HKD.out, hf], rfl, f⟩⟩
        have H0 := Lib.hid hf
        have J0 := Lib.hid I0
        clear hf I0 O hp c0 z0
        have O := O1
        clear O1
        simp only [List.setIfInBounds_toArray, List.set_cons_zero, List.set_cons_succ] at O
        have hp := O.ptr
        obtain ⟨c0, z0⟩ := O.two.cell 0
        simp only [List.getElem?_toArray, List.getElem?_cons_zero] at c0
        go_wp2_with fail
        refine (op_ br r0 _ O.two.rd O.two.gl).mono ?_
        rintro e w3 (⟨x1, r1, v, hf, rfl, ⟨vs, rfl, ⟨vb, rfl, hsl, i0, i1, i2, i3, l0, l1, l2⟩, hn, ht⟩, hr, f⟩ | ⟨hf, rfl, f⟩)
        rotate_left
        · exact ⟨rfl, .inr ⟨by simp [Scr.event, HW.out, HKD.out, H0.out, hf], rfl, O.two.fr.br_trans f⟩⟩
        obtain ⟨sa, sl, sc, rfl⟩ := hsl.shape
        have H1 := Lib.hid hf
        have HB := Lib.hid (newvs_lt hn O)
        have HO := Lib.hid (show OpV _ x1 _ from ⟨_, rfl, hsl, i0, i1, i2, i3, l0, l1, l2⟩)
        have O1 := O.call f hr
        have HT := Lib.hid ht
        clear hf f hr hsl i0 i1 i2 i3 l0 l1 l2 hn ht O hp c0 z0
        have O := O1
        clear O1
        obtain ⟨c4, z4⟩ := O.two.cell 4
        obtain ⟨c5, z5⟩ := O.two.cell 5
        obtain ⟨c6, z6⟩ := O.two.cell 6
        obtain ⟨c7, z7⟩ := O.two.cell 7
        obtain ⟨c8, z8⟩ := O.two.cell 8
        obtain ⟨c9, z9⟩ := O.two.cell 9
        obtain ⟨c10, z10⟩ := O.two.cell 10
        obtain ⟨c11, z11⟩ := O.two.cell 11
        have O2 := ((((((((O.setC 4 (.int .i64 x1.kind)).setC 5 (.string ⟨x1.path.toArray⟩)).setC 6 (.string ⟨x1.to.toArray⟩)).setC 7 (.int .i64 x1.handle)).setC 8 (.int .i64 x1.pos)).setC 9 (.int .i64 x1.n)).setC 10 (.bool x1.writes)).setC 11 (.slice sa sl sc))
        simp only [List.setIfInBounds_toArray, List.set_cons_zero, List.set_cons_succ] at O2
        simp only [List.getElem?_toArray, List.getElem?_cons_zero, List.getElem?_cons_succ] at c4 c5 c6 c7 c8 c9 c10 c11
        have KC := Lib.hid O2.two.kc
        have K2 := Lib.hid O2.two.k2
        have O3 := O2.row2 #[.int .i64 1, .int .i64 x0, .int .i64 0, .int .i64 0, .int .i64 x1.kind, .string ⟨x1.path.toArray⟩, .string ⟨x1.to.toArray⟩, .int .i64 x1.handle, .int .i64 x1.pos, .int .i64 x1.n, .bool x1.writes, .slice sa sl sc, .slice none 0 0]
        have K3 := Lib.hid O3.two.k2
        clear O O2
        have HOC := Lib.hid (one_cells [.int .i64 1, .int .i64 x0, .int .i64 0, .int .i64 0, .int .i64 x1.kind, .string ⟨x1.path.toArray⟩, .string ⟨x1.to.toArray⟩, .int .i64 x1.handle, .int .i64 x1.pos, .int .i64 x1.n, .bool x1.writes, .slice sa sl sc, .slice none 0 0] (by intro v hv; simp only [List.mem_cons, List.mem_nil_iff, or_false] at hv; rcases hv with rfl | rfl | rfl | rfl | rfl | rfl | rfl | rfl | rfl | rfl | rfl | rfl | rfl <;> rfl))
        have FX := Lib.hid (Fr.setRow (Fr.setCell (p := ⟨w1.heap.size, 11, none⟩) (Fr.setCell (p := ⟨w1.heap.size, 10, none⟩) (Fr.setCell (p := ⟨w1.heap.size, 9, none⟩) (Fr.setCell (p := ⟨w1.heap.size, 8, none⟩) (Fr.setCell (p := ⟨w1.heap.size, 7, none⟩) (Fr.setCell (p := ⟨w1.heap.size, 6, none⟩) (Fr.setCell (p := ⟨w1.heap.size, 5, none⟩) (Fr.setCell (p := ⟨w1.heap.size, 4, none⟩) (Fr.refl (S := fun k => k = w1.heap.size ∨ k = w.heap.size + 1) w3) (.inl (.inl rfl)) (.int .i64 x1.kind)) (.inl (.inl rfl)) (.string ⟨x1.path.toArray⟩)) (.inl (.inl rfl)) (.string ⟨x1.to.toArray⟩)) (.inl (.inl rfl)) (.int .i64 x1.handle)) (.inl (.inl rfl)) (.int .i64 x1.pos)) (.inl (.inl rfl)) (.int .i64 x1.n)) (.inl (.inl rfl)) (.bool x1.writes)) (.inl (.inl rfl)) (.slice sa sl sc)) (.inl (.inr rfl)) #[.int .i64 1, .int .i64 x0, .int .i64 0, .int .i64 0, .int .i64 x1.kind, .string ⟨x1.path.toArray⟩, .string ⟨x1.to.toArray⟩, .int .i64 x1.handle, .int .i64 x1.pos, .int .i64 x1.n, .bool x1.writes, .slice sa sl sc, .slice none 0 0])
        simp only []
        iterate 12 (first | go_values | go_skip | go_guarded | go_step)
        refine wpList_load_row rfl 50 (.tmp 4) rfl w1.heap.size rfl 50 #[.int .i64 1, .int .i64 x0, .int .i64 0, .int .i64 0, .int .i64 x1.kind, .string ⟨x1.path.toArray⟩, .string ⟨x1.to.toArray⟩, .int .i64 x1.handle, .int .i64 x1.pos, .int .i64 x1.n, .bool x1.writes, .slice sa sl sc, .slice none 0 0] (0, 0) _ KC.out Tryd.underlying50 rfl Tryd.size50 ?_
        refine wpList_store_row rfl 50 (.tmp 2) (.tmp 69) rfl (w.heap.size + 1) #[.int .i64 1, .int .i64 x0, .int .i64 0, .int .i64 0, .int .i64 x1.kind, .string ⟨x1.path.toArray⟩, .string ⟨x1.to.toArray⟩, .int .i64 x1.handle, .int .i64 x1.pos, .int .i64 x1.n, .bool x1.writes, .slice sa sl sc, .slice none 0 0] rfl rfl 50 _ K2.out Tryd.size50 rfl HOC.out ?_
        go_wp2_with fail
        refine bodyPost_ret (v := .agg #[.int .i64 1, .int .i64 x0, .int .i64 0, .int .i64 0, .int .i64 x1.kind, .string ⟨x1.path.toArray⟩, .string ⟨x1.to.toArray⟩, .int .i64 x1.handle, .int .i64 x1.pos, .int .i64 x1.n, .bool x1.writes, .slice sa sl sc, .slice none 0 0]) (results_cell_row rfl _ _ (w.heap.size + 1) 50 _ (0, 0) _ rfl K3.out Tryd.underlying50 rfl Tryd.size50) rfl (.inl ⟨⟨1, x0, 0, 0, x1, []⟩, r1, _, ?_, rfl, ⟨[.int .i64 1, .int .i64 x0, .int .i64 0, .int .i64 0, .int .i64 x1.kind, .string ⟨x1.path.toArray⟩, .string ⟨x1.to.toArray⟩, .int .i64 x1.handle, .int .i64 x1.pos, .int .i64 x1.n, .bool x1.writes, .slice sa sl sc, .slice none 0 0], rfl, ⟨[.int .i64 x1.kind, .string ⟨x1.path.toArray⟩, .string ⟨x1.to.toArray⟩, .int .i64 x1.handle, .int .i64 x1.pos, .int .i64 x1.n, .bool x1.writes, .slice sa sl sc], .slice none 0 0, rfl, ?_, ?_, i64_lit 1 (by decide), J0.out, i64_lit 0 (by decide), i64_lit 0 (by decide), by simp⟩, ?_, ?_⟩, O3.two.rd, O3.two.fr⟩)
        · simp [Scr.event, Scr.Ev.zero, HW.out, HKD.out, H0.out, H1.out]
        · exact HO.out.fr FX.out (fun a l c hm e => by have := HB.out a l c hm; omega)
        · exact .inl ⟨rfl, _, _, rfl⟩
        · intro a l c hm
          simp at hm
          have := HB.out a l c (by simp [hm])
          omega
        · intro a l c hm
          simp at hm
          exact (HT.out.fr FX.out (fun a l c hm e => by simp at hm; have := HB.out a l c (by simp [hm]); omega)) a l c (by simp [hm])
      · have O1 : Ev3 w wr br r (w.heap.size + 1) #[.int .i64 0, .int .i64 0, .int .i64 0, .int .i64 0, .int .i64 0, .string ⟨#[]⟩, .string ⟨#[]⟩, .int .i64 0, .int .i64 0, .int .i64 0, .bool false, .slice none 0 0, .slice none 0 0] w1.heap.size #[.int .i64 2, .int .i64 0, .int .i64 0, .int .i64 0, .int .i64 0, .string ⟨#[]⟩, .string ⟨#[]⟩, .int .i64 0, .int .i64 0, .int .i64 0, .bool false, .slice none 0 0, .slice none 0 0] w.heap.size := O
        have c1 : wr.cell? ⟨w1.heap.size, 0, none⟩ = some (.int .i64 2) := c0
        have hnm : (Scr.name 2 == x.toList) = true := HNM.out (by decide)
        clear O c0
        have O := O1
        have c0 := c1
        clear O1 c1
        have hp := O.ptr
        go_wp2_with (go_at_call 26; refine (name_ _ _ (by omega) (by omega)).mono ?_; rintro e w' ⟨rfl, rfl⟩)
        refine (node_ w _ br r _ _ _ _ _ O (by decide)).mono ?_
        rintro e w2 (⟨x0, r0, hf, I0, rfl, O1⟩ | ⟨hf, rfl, f⟩)
        rotate_left
        · exact ⟨rfl, .inr ⟨by simp [Scr.event, HW.out, HKD.out, hf], rfl, f⟩⟩
        have H0 := Lib.hid hf
        have J0 := Lib.hid I0
        clear hf I0 O hp c0 z0
        have O := O1
        clear O1
        simp only [List.setIfInBounds_toArray, List.set_cons_zero, List.set_cons_succ] at O
        have hp := O.ptr
        obtain ⟨c0, z0⟩ := O.two.cell 0
        simp only [List.getElem?_toArray, List.getElem?_cons_zero] at c0
        go_wp2_with fail
        refine (num_ br r0 _ O.two.rd O.two.gl).mono ?_
        rintro e w3 (⟨x1, r1, v, hf, rfl, ⟨rfl, i0, i1⟩, hr, f⟩ | ⟨hf, rfl, f⟩)
        rotate_left
        · exact ⟨rfl, .inr ⟨by simp [Scr.event, HW.out, HKD.out, H0.out, hf], rfl, O.two.fr.br_trans f⟩⟩
        have H1 := Lib.hid hf
        have J1 := Lib.hid (show I64 x1 from ⟨i0, i1⟩)
        have O1 := O.call f hr
        clear hf f hr i0 i1 O hp c0 z0
        have O := O1
        clear O1
        obtain ⟨c2, z2⟩ := O.two.cell 2
        have O2 := (O.setC 2 (.int .i64 x1))
        simp only [List.setIfInBounds_toArray, List.set_cons_zero, List.set_cons_succ] at O2
        simp only [List.getElem?_toArray, List.getElem?_cons_zero, List.getElem?_cons_succ] at c2
        have KC := Lib.hid O2.two.kc
        have K2 := Lib.hid O2.two.k2
        have O3 := O2.row2 #[.int .i64 2, .int .i64 x0, .int .i64 x1, .int .i64 0, .int .i64 0, .string ⟨#[]⟩, .string ⟨#[]⟩, .int .i64 0, .int .i64 0, .int .i64 0, .bool false, .slice none 0 0, .slice none 0 0]
        have K3 := Lib.hid O3.two.k2
        clear O O2
        have HOC := Lib.hid (one_cells [.int .i64 2, .int .i64 x0, .int .i64 x1, .int .i64 0, .int .i64 0, .string ⟨#[]⟩, .string ⟨#[]⟩, .int .i64 0, .int .i64 0, .int .i64 0, .bool false, .slice none 0 0, .slice none 0 0] (by intro v hv; simp only [List.mem_cons, List.mem_nil_iff, or_false] at hv; rcases hv with rfl | rfl | rfl | rfl | rfl | rfl | rfl | rfl | rfl | rfl | rfl | rfl | rfl <;> rfl))
        go_wp2_with (first | (refine wpList_load_row rfl 50 (.tmp 4) rfl w1.heap.size rfl 50 #[.int .i64 2, .int .i64 x0, .int .i64 x1, .int .i64 0, .int .i64 0, .string ⟨#[]⟩, .string ⟨#[]⟩, .int .i64 0, .int .i64 0, .int .i64 0, .bool false, .slice none 0 0, .slice none 0 0] (0, 0) _ KC.out Tryd.underlying50 rfl Tryd.size50 ?_) | (refine wpList_store_row rfl 50 (.tmp 2) (.tmp 69) rfl (w.heap.size + 1) #[.int .i64 2, .int .i64 x0, .int .i64 x1, .int .i64 0, .int .i64 0, .string ⟨#[]⟩, .string ⟨#[]⟩, .int .i64 0, .int .i64 0, .int .i64 0, .bool false, .slice none 0 0, .slice none 0 0] rfl rfl 50 _ K2.out Tryd.size50 rfl HOC.out ?_))
        refine bodyPost_ret (v := .agg #[.int .i64 2, .int .i64 x0, .int .i64 x1, .int .i64 0, .int .i64 0, .string ⟨#[]⟩, .string ⟨#[]⟩, .int .i64 0, .int .i64 0, .int .i64 0, .bool false, .slice none 0 0, .slice none 0 0]) (results_cell_row rfl _ _ (w.heap.size + 1) 50 _ (0, 0) _ rfl K3.out Tryd.underlying50 rfl Tryd.size50) rfl (.inl ⟨⟨2, x0, x1, 0, Scr.OpS.zero, []⟩, r1, _, ?_, rfl, ⟨[.int .i64 2, .int .i64 x0, .int .i64 x1, .int .i64 0, .int .i64 0, .string ⟨#[]⟩, .string ⟨#[]⟩, .int .i64 0, .int .i64 0, .int .i64 0, .bool false, .slice none 0 0, .slice none 0 0], rfl, ⟨[.int .i64 0, .string ⟨#[]⟩, .string ⟨#[]⟩, .int .i64 0, .int .i64 0, .int .i64 0, .bool false, .slice none 0 0], .slice none 0 0, rfl, ?_, ?_, i64_lit 2 (by decide), J0.out, J1.out, i64_lit 0 (by decide), by simp⟩, ?_, ?_⟩, O3.two.rd, O3.two.fr⟩)
        · simp [Scr.event, Scr.Ev.zero, HW.out, HKD.out, H0.out, H1.out]
        · exact OpV.zero _
        · exact .inl ⟨rfl, _, _, rfl⟩
        · intro a l c hm
          simp at hm
        · intro a l c hm
          simp at hm
      · have O1 : Ev3 w wr br r (w.heap.size + 1) #[.int .i64 0, .int .i64 0, .int .i64 0, .int .i64 0, .int .i64 0, .string ⟨#[]⟩, .string ⟨#[]⟩, .int .i64 0, .int .i64 0, .int .i64 0, .bool false, .slice none 0 0, .slice none 0 0] w1.heap.size #[.int .i64 3, .int .i64 0, .int .i64 0, .int .i64 0, .int .i64 0, .string ⟨#[]⟩, .string ⟨#[]⟩, .int .i64 0, .int .i64 0, .int .i64 0, .bool false, .slice none 0 0, .slice none 0 0] w.heap.size := O
        have c1 : wr.cell? ⟨w1.heap.size, 0, none⟩ = some (.int .i64 3) := c0
        have hnm : (Scr.name 3 == x.toList) = true := HNM.out (by decide)
        clear O c0
        have O := O1
        have c0 := c1
        clear O1 c1
        have hp := O.ptr
        go_wp2_with (go_at_call 26; refine (name_ _ _ (by omega) (by omega)).mono ?_; rintro e w' ⟨rfl, rfl⟩)
        refine (node_ w _ br r _ _ _ _ _ O (by decide)).mono ?_
        rintro e w2 (⟨x0, r0, hf, I0, rfl, O1⟩ | ⟨hf, rfl, f⟩)
        rotate_left
        · exact ⟨rfl, .inr ⟨by simp [Scr.event, HW.out, HKD.out, hf], rfl, f⟩⟩
        have H0 := Lib.hid hf
        have J0 := Lib.hid I0
        clear hf I0 O hp c0 z0
        have O := O1
        clear O1
        simp only [List.setIfInBounds_toArray, List.set_cons_zero, List.set_cons_succ] at O
        have hp := O.ptr
        obtain ⟨c0, z0⟩ := O.two.cell 0
        simp only [List.getElem?_toArray, List.getElem?_cons_zero] at c0
        go_wp2_with fail
        refine (num_ br r0 _ O.two.rd O.two.gl).mono ?_
        rintro e w3 (⟨x1, r1, v, hf, rfl, ⟨rfl, i0, i1⟩, hr, f⟩ | ⟨hf, rfl, f⟩)
        rotate_left
        · exact ⟨rfl, .inr ⟨by simp [Scr.event, HW.out, HKD.out, H0.out, hf], rfl, O.two.fr.br_trans f⟩⟩
        have H1 := Lib.hid hf
        have J1 := Lib.hid (show I64 x1 from ⟨i0, i1⟩)
        have O1 := O.call f hr
        clear hf f hr i0 i1 O hp c0 z0
        have O := O1
        clear O1
        obtain ⟨c2, z2⟩ := O.two.cell 2
        have O2 := (O.setC 2 (.int .i64 x1))
        simp only [List.setIfInBounds_toArray, List.set_cons_zero, List.set_cons_succ] at O2
        simp only [List.getElem?_toArray, List.getElem?_cons_zero, List.getElem?_cons_succ] at c2
        have KC := Lib.hid O2.two.kc
        have K2 := Lib.hid O2.two.k2
        have O3 := O2.row2 #[.int .i64 3, .int .i64 x0, .int .i64 x1, .int .i64 0, .int .i64 0, .string ⟨#[]⟩, .string ⟨#[]⟩, .int .i64 0, .int .i64 0, .int .i64 0, .bool false, .slice none 0 0, .slice none 0 0]
        have K3 := Lib.hid O3.two.k2
        clear O O2
        have HOC := Lib.hid (one_cells [.int .i64 3, .int .i64 x0, .int .i64 x1, .int .i64 0, .int .i64 0, .string ⟨#[]⟩, .string ⟨#[]⟩, .int .i64 0, .int .i64 0, .int .i64 0, .bool false, .slice none 0 0, .slice none 0 0] (by intro v hv; simp only [List.mem_cons, List.mem_nil_iff, or_false] at hv; rcases hv with rfl | rfl | rfl | rfl | rfl | rfl | rfl | rfl | rfl | rfl | rfl | rfl | rfl <;> rfl))
        go_wp2_with (first | (refine wpList_load_row rfl 50 (.tmp 4) rfl w1.heap.size rfl 50 #[.int .i64 3, .int .i64 x0, .int .i64 x1, .int .i64 0, .int .i64 0, .string ⟨#[]⟩, .string ⟨#[]⟩, .int .i64 0, .int .i64 0, .int .i64 0, .bool false, .slice none 0 0, .slice none 0 0] (0, 0) _ KC.out Tryd.underlying50 rfl Tryd.size50 ?_) | (refine wpList_store_row rfl 50 (.tmp 2) (.tmp 69) rfl (w.heap.size + 1) #[.int .i64 3, .int .i64 x0, .int .i64 x1, .int .i64 0, .int .i64 0, .string ⟨#[]⟩, .string ⟨#[]⟩, .int .i64 0, .int .i64 0, .int .i64 0, .bool false, .slice none 0 0, .slice none 0 0] rfl rfl 50 _ K2.out Tryd.size50 rfl HOC.out ?_))
        refine bodyPost_ret (v := .agg #[.int .i64 3, .int .i64 x0, .int .i64 x1, .int .i64 0, .int .i64 0, .string ⟨#[]⟩, .string ⟨#[]⟩, .int .i64 0, .int .i64 0, .int .i64 0, .bool false, .slice none 0 0, .slice none 0 0]) (results_cell_row rfl _ _ (w.heap.size + 1) 50 _ (0, 0) _ rfl K3.out Tryd.underlying50 rfl Tryd.size50) rfl (.inl ⟨⟨3, x0, x1, 0, Scr.OpS.zero, []⟩, r1, _, ?_, rfl, ⟨[.int .i64 3, .int .i64 x0, .int .i64 x1, .int .i64 0, .int .i64 0, .string ⟨#[]⟩, .string ⟨#[]⟩, .int .i64 0, .int .i64 0, .int .i64 0, .bool false, .slice none 0 0, .slice none 0 0], rfl, ⟨[.int .i64 0, .string ⟨#[]⟩, .string ⟨#[]⟩, .int .i64 0, .int .i64 0, .int .i64 0, .bool false, .slice none 0 0], .slice none 0 0, rfl, ?_, ?_, i64_lit 3 (by decide), J0.out, J1.out, i64_lit 0 (by decide), by simp⟩, ?_, ?_⟩, O3.two.rd, O3.two.fr⟩)
        · simp [Scr.event, Scr.Ev.zero, HW.out, HKD.out, H0.out, H1.out]
        · exact OpV.zero _
        · exact .inl ⟨rfl, _, _, rfl⟩
        · intro a l c hm
          simp at hm
        · intro a l c hm
          simp at hm
      · have O1 : Ev3 w wr br r (w.heap.size + 1) #[.int .i64 0, .int .i64 0, .int .i64 0, .int .i64 0, .int .i64 0, .string ⟨#[]⟩, .string ⟨#[]⟩, .int .i64 0, .int .i64 0, .int .i64 0, .bool false, .slice none 0 0, .slice none 0 0] w1.heap.size #[.int .i64 4, .int .i64 0, .int .i64 0, .int .i64 0, .int .i64 0, .string ⟨#[]⟩, .string ⟨#[]⟩, .int .i64 0, .int .i64 0, .int .i64 0, .bool false, .slice none 0 0, .slice none 0 0] w.heap.size := O
        have c1 : wr.cell? ⟨w1.heap.size, 0, none⟩ = some (.int .i64 4) := c0
        have hnm : (Scr.name 4 == x.toList) = true := HNM.out (by decide)
        clear O c0
        have O := O1
        have c0 := c1
        clear O1 c1
        have hp := O.ptr
        go_wp2_with (go_at_call 26; refine (name_ _ _ (by omega) (by omega)).mono ?_; rintro e w' ⟨rfl, rfl⟩)
        refine (node_ w _ br r _ _ _ _ _ O (by decide)).mono ?_
        rintro e w2 (⟨x0, r0, hf, I0, rfl, O1⟩ | ⟨hf, rfl, f⟩)
        rotate_left
        · exact ⟨rfl, .inr ⟨by simp [Scr.event, HW.out, HKD.out, hf], rfl, f⟩⟩
        have H0 := Lib.hid hf
        have J0 := Lib.hid I0
        clear hf I0 O hp c0 z0
        have O := O1
        clear O1
        simp only [List.setIfInBounds_toArray, List.set_cons_zero, List.set_cons_succ] at O
        have hp := O.ptr
        obtain ⟨c0, z0⟩ := O.two.cell 0
        simp only [List.getElem?_toArray, List.getElem?_cons_zero] at c0
        go_wp2_with fail
        refine (num_ br r0 _ O.two.rd O.two.gl).mono ?_
        rintro e w3 (⟨x1, r1, v, hf, rfl, ⟨rfl, i0, i1⟩, hr, f⟩ | ⟨hf, rfl, f⟩)
        rotate_left
        · exact ⟨rfl, .inr ⟨by simp [Scr.event, HW.out, HKD.out, H0.out, hf], rfl, O.two.fr.br_trans f⟩⟩
        have H1 := Lib.hid hf
        have J1 := Lib.hid (show I64 x1 from ⟨i0, i1⟩)
        have O1 := O.call f hr
        clear hf f hr i0 i1 O hp c0 z0
        have O := O1
        clear O1
        obtain ⟨c2, z2⟩ := O.two.cell 2
        have O2 := (O.setC 2 (.int .i64 x1))
        simp only [List.setIfInBounds_toArray, List.set_cons_zero, List.set_cons_succ] at O2
        simp only [List.getElem?_toArray, List.getElem?_cons_zero, List.getElem?_cons_succ] at c2
        have KC := Lib.hid O2.two.kc
        have K2 := Lib.hid O2.two.k2
        have O3 := O2.row2 #[.int .i64 4, .int .i64 x0, .int .i64 x1, .int .i64 0, .int .i64 0, .string ⟨#[]⟩, .string ⟨#[]⟩, .int .i64 0, .int .i64 0, .int .i64 0, .bool false, .slice none 0 0, .slice none 0 0]
        have K3 := Lib.hid O3.two.k2
        clear O O2
        have HOC := Lib.hid (one_cells [.int .i64 4, .int .i64 x0, .int .i64 x1, .int .i64 0, .int .i64 0, .string ⟨#[]⟩, .string ⟨#[]⟩, .int .i64 0, .int .i64 0, .int .i64 0, .bool false, .slice none 0 0, .slice none 0 0] (by intro v hv; simp only [List.mem_cons, List.mem_nil_iff, or_false] at hv; rcases hv with rfl | rfl | rfl | rfl | rfl | rfl | rfl | rfl | rfl | rfl | rfl | rfl | rfl <;> rfl))
        go_wp2_with (first | (refine wpList_load_row rfl 50 (.tmp 4) rfl w1.heap.size rfl 50 #[.int .i64 4, .int .i64 x0, .int .i64 x1, .int .i64 0, .int .i64 0, .string ⟨#[]⟩, .string ⟨#[]⟩, .int .i64 0, .int .i64 0, .int .i64 0, .bool false, .slice none 0 0, .slice none 0 0] (0, 0) _ KC.out Tryd.underlying50 rfl Tryd.size50 ?_) | (refine wpList_store_row rfl 50 (.tmp 2) (.tmp 69) rfl (w.heap.size + 1) #[.int .i64 4, .int .i64 x0, .int .i64 x1, .int .i64 0, .int .i64 0, .string ⟨#[]⟩, .string ⟨#[]⟩, .int .i64 0, .int .i64 0, .int .i64 0, .bool false, .slice none 0 0, .slice none 0 0] rfl rfl 50 _ K2.out Tryd.size50 rfl HOC.out ?_))
        refine bodyPost_ret (v := .agg #[.int .i64 4, .int .i64 x0, .int .i64 x1, .int .i64 0, .int .i64 0, .string ⟨#[]⟩, .string ⟨#[]⟩, .int .i64 0, .int .i64 0, .int .i64 0, .bool false, .slice none 0 0, .slice none 0 0]) (results_cell_row rfl _ _ (w.heap.size + 1) 50 _ (0, 0) _ rfl K3.out Tryd.underlying50 rfl Tryd.size50) rfl (.inl ⟨⟨4, x0, x1, 0, Scr.OpS.zero, []⟩, r1, _, ?_, rfl, ⟨[.int .i64 4, .int .i64 x0, .int .i64 x1, .int .i64 0, .int .i64 0, .string ⟨#[]⟩, .string ⟨#[]⟩, .int .i64 0, .int .i64 0, .int .i64 0, .bool false, .slice none 0 0, .slice none 0 0], rfl, ⟨[.int .i64 0, .string ⟨#[]⟩, .string ⟨#[]⟩, .int .i64 0, .int .i64 0, .int .i64 0, .bool false, .slice none 0 0], .slice none 0 0, rfl, ?_, ?_, i64_lit 4 (by decide), J0.out, J1.out, i64_lit 0 (by decide), by simp⟩, ?_, ?_⟩, O3.two.rd, O3.two.fr⟩)
        · simp [Scr.event, Scr.Ev.zero, HW.out, HKD.out, H0.out, H1.out]
        · exact OpV.zero _
        · exact .inl ⟨rfl, _, _, rfl⟩
        · intro a l c hm
          simp at hm
        · intro a l c hm
          simp at hm
      · have O1 : Ev3 w wr br r (w.heap.size + 1) #[.int .i64 0, .int .i64 0, .int .i64 0, .int .i64 0, .int .i64 0, .string ⟨#[]⟩, .string ⟨#[]⟩, .int .i64 0, .int .i64 0, .int .i64 0, .bool false, .slice none 0 0, .slice none 0 0] w1.heap.size #[.int .i64 5, .int .i64 0, .int .i64 0, .int .i64 0, .int .i64 0, .string ⟨#[]⟩, .string ⟨#[]⟩, .int .i64 0, .int .i64 0, .int .i64 0, .bool false, .slice none 0 0, .slice none 0 0] w.heap.size := O
        have c1 : wr.cell? ⟨w1.heap.size, 0, none⟩ = some (.int .i64 5) := c0
        have hnm : (Scr.name 5 == x.toList) = true := HNM.out (by decide)
        clear O c0
        have O := O1
        have c0 := c1
        clear O1 c1
        have hp := O.ptr
        go_wp2_with (go_at_call 26; refine (name_ _ _ (by omega) (by omega)).mono ?_; rintro e w' ⟨rfl, rfl⟩)
        refine (num_ br r _ O.two.rd O.two.gl).mono ?_
        rintro e w2 (⟨x0, r0, v, hf, rfl, ⟨rfl, i0, i1⟩, hr, f⟩ | ⟨hf, rfl, f⟩)
        rotate_left
        · exact ⟨rfl, .inr ⟨by simp [Scr.event, HW.out, HKD.out, hf], rfl, O.two.fr.br_trans f⟩⟩
        have H0 := Lib.hid hf
        have J0 := Lib.hid (show I64 x0 from ⟨i0, i1⟩)
        have O1 := O.call f hr
        clear hf f hr i0 i1 O hp c0 z0
        have O := O1
        clear O1
        obtain ⟨c3, z3⟩ := O.two.cell 3
        have O2 := (O.setC 3 (.int .i64 x0))
        simp only [List.setIfInBounds_toArray, List.set_cons_zero, List.set_cons_succ] at O2
        simp only [List.getElem?_toArray, List.getElem?_cons_zero, List.getElem?_cons_succ] at c3
        have KC := Lib.hid O2.two.kc
        have K2 := Lib.hid O2.two.k2
        have O3 := O2.row2 #[.int .i64 5, .int .i64 0, .int .i64 0, .int .i64 x0, .int .i64 0, .string ⟨#[]⟩, .string ⟨#[]⟩, .int .i64 0, .int .i64 0, .int .i64 0, .bool false, .slice none 0 0, .slice none 0 0]
        have K3 := Lib.hid O3.two.k2
        clear O O2
        have HOC := Lib.hid (one_cells [.int .i64 5, .int .i64 0, .int .i64 0, .int .i64 x0, .int .i64 0, .string ⟨#[]⟩, .string ⟨#[]⟩, .int .i64 0, .int .i64 0, .int .i64 0, .bool false, .slice none 0 0, .slice none 0 0] (by intro v hv; simp only [List.mem_cons, List.mem_nil_iff, or_false] at hv; rcases hv with rfl | rfl | rfl | rfl | rfl | rfl | rfl | rfl | rfl | rfl | rfl | rfl | rfl <;> rfl))
        go_wp2_with (first | (refine wpList_load_row rfl 50 (.tmp 4) rfl w1.heap.size rfl 50 #[.int .i64 5, .int .i64 0, .int .i64 0, .int .i64 x0, .int .i64 0, .string ⟨#[]⟩, .string ⟨#[]⟩, .int .i64 0, .int .i64 0, .int .i64 0, .bool false, .slice none 0 0, .slice none 0 0] (0, 0) _ KC.out Tryd.underlying50 rfl Tryd.size50 ?_) | (refine wpList_store_row rfl 50 (.tmp 2) (.tmp 69) rfl (w.heap.size + 1) #[.int .i64 5, .int .i64 0, .int .i64 0, .int .i64 x0, .int .i64 0, .string ⟨#[]⟩, .string ⟨#[]⟩, .int .i64 0, .int .i64 0, .int .i64 0, .bool false, .slice none 0 0, .slice none 0 0] rfl rfl 50 _ K2.out Tryd.size50 rfl HOC.out ?_))
        refine bodyPost_ret (v := .agg #[.int .i64 5, .int .i64 0, .int .i64 0, .int .i64 x0, .int .i64 0, .string ⟨#[]⟩, .string ⟨#[]⟩, .int .i64 0, .int .i64 0, .int .i64 0, .bool false, .slice none 0 0, .slice none 0 0]) (results_cell_row rfl _ _ (w.heap.size + 1) 50 _ (0, 0) _ rfl K3.out Tryd.underlying50 rfl Tryd.size50) rfl (.inl ⟨⟨5, 0, 0, x0, Scr.OpS.zero, []⟩, r0, _, ?_, rfl, ⟨[.int .i64 5, .int .i64 0, .int .i64 0, .int .i64 x0, .int .i64 0, .string ⟨#[]⟩, .string ⟨#[]⟩, .int .i64 0, .int .i64 0, .int .i64 0, .bool false, .slice none 0 0, .slice none 0 0], rfl, ⟨[.int .i64 0, .string ⟨#[]⟩, .string ⟨#[]⟩, .int .i64 0, .int .i64 0, .int .i64 0, .bool false, .slice none 0 0], .slice none 0 0, rfl, ?_, ?_, i64_lit 5 (by decide), i64_lit 0 (by decide), i64_lit 0 (by decide), J0.out, by simp⟩, ?_, ?_⟩, O3.two.rd, O3.two.fr⟩)
        · simp [Scr.event, Scr.Ev.zero, HW.out, HKD.out, H0.out]
        · exact OpV.zero _
        · exact .inl ⟨rfl, _, _, rfl⟩
        · intro a l c hm
          simp at hm
        · intro a l c hm
          simp at hm
      · have O1 : Ev3 w wr br r (w.heap.size + 1) #[.int .i64 0, .int .i64 0, .int .i64 0, .int .i64 0, .int .i64 0, .string ⟨#[]⟩, .string ⟨#[]⟩, .int .i64 0, .int .i64 0, .int .i64 0, .bool false, .slice none 0 0, .slice none 0 0] w1.heap.size #[.int .i64 6, .int .i64 0, .int .i64 0, .int .i64 0, .int .i64 0, .string ⟨#[]⟩, .string ⟨#[]⟩, .int .i64 0, .int .i64 0, .int .i64 0, .bool false, .slice none 0 0, .slice none 0 0] w.heap.size := O
        have c1 : wr.cell? ⟨w1.heap.size, 0, none⟩ = some (.int .i64 6) := c0
        have hnm : (Scr.name 6 == x.toList) = true := HNM.out (by decide)
        clear O c0
        have O := O1
        have c0 := c1
        clear O1 c1
        have hp := O.ptr
        go_wp2_with (go_at_call 26; refine (name_ _ _ (by omega) (by omega)).mono ?_; rintro e w' ⟨rfl, rfl⟩)
        refine (node_ w _ br r _ _ _ _ _ O (by decide)).mono ?_
        rintro e w2 (⟨x0, r0, hf, I0, rfl, O1⟩ | ⟨hf, rfl, f⟩)
        rotate_left
        · exact ⟨rfl, .inr ⟨by simp [Scr.event, HW.out, HKD.out, hf], rfl, f⟩⟩
        have H0 := Lib.hid hf
        have J0 := Lib.hid I0
        clear hf I0 O hp c0 z0
        have O := O1
        clear O1
        simp only [List.setIfInBounds_toArray, List.set_cons_zero, List.set_cons_succ] at O
        have hp := O.ptr
        obtain ⟨c0, z0⟩ := O.two.cell 0
        simp only [List.getElem?_toArray, List.getElem?_cons_zero] at c0
        go_wp2_with fail
        refine (bytes_ br r0 _ O.two.rd O.two.gl).mono ?_
        rintro e w3 (⟨x1, r1, v, hf, rfl, ⟨hsl, hn, hl, ht⟩, hr, f⟩ | ⟨hf, rfl, f⟩)
        rotate_left
        · exact ⟨rfl, .inr ⟨by simp [Scr.event, HW.out, HKD.out, H0.out, hf], rfl, O.two.fr.br_trans f⟩⟩
        have H1 := Lib.hid hf
        obtain ⟨sa, sl, sc, rfl⟩ := hsl.shape
        have HB := Lib.hid (NewSl.own hn O.two)
        have HO := Lib.hid hsl
        have HL := Lib.hid hl
        have HT := Lib.hid ht
        have O1 := O.call f hr
        clear hf f hr hsl hn hl ht O hp c0 z0
        have O := O1
        clear O1
        obtain ⟨c12, z12⟩ := O.two.cell 12
        have O2 := (O.setC 12 (.slice sa sl sc))
        simp only [List.setIfInBounds_toArray, List.set_cons_zero, List.set_cons_succ] at O2
        simp only [List.getElem?_toArray, List.getElem?_cons_zero, List.getElem?_cons_succ] at c12
        have KC := Lib.hid O2.two.kc
        have K2 := Lib.hid O2.two.k2
        have O3 := O2.row2 #[.int .i64 6, .int .i64 x0, .int .i64 0, .int .i64 0, .int .i64 0, .string ⟨#[]⟩, .string ⟨#[]⟩, .int .i64 0, .int .i64 0, .int .i64 0, .bool false, .slice none 0 0, .slice sa sl sc]
        have K3 := Lib.hid O3.two.k2
        clear O O2
        have HOC := Lib.hid (one_cells [.int .i64 6, .int .i64 x0, .int .i64 0, .int .i64 0, .int .i64 0, .string ⟨#[]⟩, .string ⟨#[]⟩, .int .i64 0, .int .i64 0, .int .i64 0, .bool false, .slice none 0 0, .slice sa sl sc] (by intro v hv; simp only [List.mem_cons, List.mem_nil_iff, or_false] at hv; rcases hv with rfl | rfl | rfl | rfl | rfl | rfl | rfl | rfl | rfl | rfl | rfl | rfl | rfl <;> rfl))
        have FX := Lib.hid (Fr.setRow (Fr.setCell (p := ⟨w1.heap.size, 12, none⟩) (Fr.refl (S := fun k => k = w1.heap.size ∨ k = w.heap.size + 1) w3) (.inl (.inl rfl)) (.slice sa sl sc)) (.inl (.inr rfl)) #[.int .i64 6, .int .i64 x0, .int .i64 0, .int .i64 0, .int .i64 0, .string ⟨#[]⟩, .string ⟨#[]⟩, .int .i64 0, .int .i64 0, .int .i64 0, .bool false, .slice none 0 0, .slice sa sl sc])
        go_wp2_with (first | (refine wpList_load_row rfl 50 (.tmp 4) rfl w1.heap.size rfl 50 #[.int .i64 6, .int .i64 x0, .int .i64 0, .int .i64 0, .int .i64 0, .string ⟨#[]⟩, .string ⟨#[]⟩, .int .i64 0, .int .i64 0, .int .i64 0, .bool false, .slice none 0 0, .slice sa sl sc] (0, 0) _ KC.out Tryd.underlying50 rfl Tryd.size50 ?_) | (refine wpList_store_row rfl 50 (.tmp 2) (.tmp 69) rfl (w.heap.size + 1) #[.int .i64 6, .int .i64 x0, .int .i64 0, .int .i64 0, .int .i64 0, .string ⟨#[]⟩, .string ⟨#[]⟩, .int .i64 0, .int .i64 0, .int .i64 0, .bool false, .slice none 0 0, .slice sa sl sc] rfl rfl 50 _ K2.out Tryd.size50 rfl HOC.out ?_))
        refine bodyPost_ret (v := .agg #[.int .i64 6, .int .i64 x0, .int .i64 0, .int .i64 0, .int .i64 0, .string ⟨#[]⟩, .string ⟨#[]⟩, .int .i64 0, .int .i64 0, .int .i64 0, .bool false, .slice none 0 0, .slice sa sl sc]) (results_cell_row rfl _ _ (w.heap.size + 1) 50 _ (0, 0) _ rfl K3.out Tryd.underlying50 rfl Tryd.size50) rfl (.inl ⟨⟨6, x0, 0, 0, Scr.OpS.zero, x1⟩, r1, _, ?_, rfl, ⟨[.int .i64 6, .int .i64 x0, .int .i64 0, .int .i64 0, .int .i64 0, .string ⟨#[]⟩, .string ⟨#[]⟩, .int .i64 0, .int .i64 0, .int .i64 0, .bool false, .slice none 0 0, .slice sa sl sc], rfl, ⟨[.int .i64 0, .string ⟨#[]⟩, .string ⟨#[]⟩, .int .i64 0, .int .i64 0, .int .i64 0, .bool false, .slice none 0 0], .slice sa sl sc, rfl, ?_, ?_, i64_lit 6 (by decide), J0.out, i64_lit 0 (by decide), i64_lit 0 (by decide), HL.out⟩, ?_, ?_⟩, O3.two.rd, O3.two.fr⟩)
        · simp [Scr.event, Scr.Ev.zero, HW.out, HKD.out, H0.out, H1.out]
        · exact OpV.zero _
        · exact SlAt.fr HO.out FX.out (fun a l c hm e => by have := HB.out a l c hm; omega)
        · intro a l c hm
          simp at hm
          have := HB.out a l c (by simp [hm])
          omega
        · intro a l c hm
          simp at hm
          exact (HT.out.fr FX.out (fun a l c hm e => by simp at hm; have := HB.out a l c (by simp [hm]); omega)) a l c (by simp [hm])
      · have O1 : Ev3 w wr br r (w.heap.size + 1) #[.int .i64 0, .int .i64 0, .int .i64 0, .int .i64 0, .int .i64 0, .string ⟨#[]⟩, .string ⟨#[]⟩, .int .i64 0, .int .i64 0, .int .i64 0, .bool false, .slice none 0 0, .slice none 0 0] w1.heap.size #[.int .i64 7, .int .i64 0, .int .i64 0, .int .i64 0, .int .i64 0, .string ⟨#[]⟩, .string ⟨#[]⟩, .int .i64 0, .int .i64 0, .int .i64 0, .bool false, .slice none 0 0, .slice none 0 0] w.heap.size := O
        have c1 : wr.cell? ⟨w1.heap.size, 0, none⟩ = some (.int .i64 7) := c0
        have hnm : (Scr.name 7 == x.toList) = true := HNM.out (by decide)
        clear O c0
        have O := O1
        have c0 := c1
        clear O1 c1
        have hp := O.ptr
        go_wp2_with (go_at_call 26; refine (name_ _ _ (by omega) (by omega)).mono ?_; rintro e w' ⟨rfl, rfl⟩)
        refine (node_ w _ br r _ _ _ _ _ O (by decide)).mono ?_
        rintro e w2 (⟨x0, r0, hf, I0, rfl, O1⟩ | ⟨hf, rfl, f⟩)
        rotate_left
        · exact ⟨rfl, .inr ⟨by simp [Scr.event, HW.out, HKD.out, hf], rfl, f⟩⟩
        have H0 := Lib.hid hf
        have J0 := Lib.hid I0
        clear hf I0 O hp c0 z0
        have O := O1
        clear O1
        simp only [List.setIfInBounds_toArray, List.set_cons_zero, List.set_cons_succ] at O
        have hp := O.ptr
        obtain ⟨c0, z0⟩ := O.two.cell 0
        simp only [List.getElem?_toArray, List.getElem?_cons_zero] at c0
        have O2 := O
        have KC := Lib.hid O2.two.kc
        have K2 := Lib.hid O2.two.k2
        have O3 := O2.row2 #[.int .i64 7, .int .i64 x0, .int .i64 0, .int .i64 0, .int .i64 0, .string ⟨#[]⟩, .string ⟨#[]⟩, .int .i64 0, .int .i64 0, .int .i64 0, .bool false, .slice none 0 0, .slice none 0 0]
        have K3 := Lib.hid O3.two.k2
        clear O O2
        have HOC := Lib.hid (one_cells [.int .i64 7, .int .i64 x0, .int .i64 0, .int .i64 0, .int .i64 0, .string ⟨#[]⟩, .string ⟨#[]⟩, .int .i64 0, .int .i64 0, .int .i64 0, .bool false, .slice none 0 0, .slice none 0 0] (by intro v hv; simp only [List.mem_cons, List.mem_nil_iff, or_false] at hv; rcases hv with rfl | rfl | rfl | rfl | rfl | rfl | rfl | rfl | rfl | rfl | rfl | rfl | rfl <;> rfl))
        go_wp2_with (first | (refine wpList_load_row rfl 50 (.tmp 4) rfl w1.heap.size rfl 50 #[.int .i64 7, .int .i64 x0, .int .i64 0, .int .i64 0, .int .i64 0, .string ⟨#[]⟩, .string ⟨#[]⟩, .int .i64 0, .int .i64 0, .int .i64 0, .bool false, .slice none 0 0, .slice none 0 0] (0, 0) _ KC.out Tryd.underlying50 rfl Tryd.size50 ?_) | (refine wpList_store_row rfl 50 (.tmp 2) (.tmp 69) rfl (w.heap.size + 1) #[.int .i64 7, .int .i64 x0, .int .i64 0, .int .i64 0, .int .i64 0, .string ⟨#[]⟩, .string ⟨#[]⟩, .int .i64 0, .int .i64 0, .int .i64 0, .bool false, .slice none 0 0, .slice none 0 0] rfl rfl 50 _ K2.out Tryd.size50 rfl HOC.out ?_))
        refine bodyPost_ret (v := .agg #[.int .i64 7, .int .i64 x0, .int .i64 0, .int .i64 0, .int .i64 0, .string ⟨#[]⟩, .string ⟨#[]⟩, .int .i64 0, .int .i64 0, .int .i64 0, .bool false, .slice none 0 0, .slice none 0 0]) (results_cell_row rfl _ _ (w.heap.size + 1) 50 _ (0, 0) _ rfl K3.out Tryd.underlying50 rfl Tryd.size50) rfl (.inl ⟨⟨7, x0, 0, 0, Scr.OpS.zero, []⟩, r0, _, ?_, rfl, ⟨[.int .i64 7, .int .i64 x0, .int .i64 0, .int .i64 0, .int .i64 0, .string ⟨#[]⟩, .string ⟨#[]⟩, .int .i64 0, .int .i64 0, .int .i64 0, .bool false, .slice none 0 0, .slice none 0 0], rfl, ⟨[.int .i64 0, .string ⟨#[]⟩, .string ⟨#[]⟩, .int .i64 0, .int .i64 0, .int .i64 0, .bool false, .slice none 0 0], .slice none 0 0, rfl, ?_, ?_, i64_lit 7 (by decide), J0.out, i64_lit 0 (by decide), i64_lit 0 (by decide), by simp⟩, ?_, ?_⟩, O3.two.rd, O3.two.fr⟩)
        · simp [Scr.event, Scr.Ev.zero, HW.out, HKD.out, H0.out]
        · exact OpV.zero _
        · exact .inl ⟨rfl, _, _, rfl⟩
        · intro a l c hm
          simp at hm
        · intro a l c hm
          simp at hm
      · have O1 : Ev3 w wr br r (w.heap.size + 1) #[.int .i64 0, .int .i64 0, .int .i64 0, .int .i64 0, .int .i64 0, .string ⟨#[]⟩, .string ⟨#[]⟩, .int .i64 0, .int .i64 0, .int .i64 0, .bool false, .slice none 0 0, .slice none 0 0] w1.heap.size #[.int .i64 8, .int .i64 0, .int .i64 0, .int .i64 0, .int .i64 0, .string ⟨#[]⟩, .string ⟨#[]⟩, .int .i64 0, .int .i64 0, .int .i64 0, .bool false, .slice none 0 0, .slice none 0 0] w.heap.size := O
        have c1 : wr.cell? ⟨w1.heap.size, 0, none⟩ = some (.int .i64 8) := c0
        have hnm : (Scr.name 8 == x.toList) = true := HNM.out (by decide)
        clear O c0
        have O := O1
        have c0 := c1
        clear O1 c1
        have hp := O.ptr
        go_wp2_with (go_at_call 26; refine (name_ _ _ (by omega) (by omega)).mono ?_; rintro e w' ⟨rfl, rfl⟩)
        refine (node_ w _ br r _ _ _ _ _ O (by decide)).mono ?_
        rintro e w2 (⟨x0, r0, hf, I0, rfl, O1⟩ | ⟨hf, rfl, f⟩)
        rotate_left
        · exact ⟨rfl, .inr ⟨by simp [Scr.event, HW.out, HKD.out, hf], rfl, f⟩⟩
        have H0 := Lib.hid hf
        have J0 := Lib.hid I0
        clear hf I0 O hp c0 z0
        have O := O1
        clear O1
        simp only [List.setIfInBounds_toArray, List.set_cons_zero, List.set_cons_succ] at O
        have hp := O.ptr
        obtain ⟨c0, z0⟩ := O.two.cell 0
        simp only [List.getElem?_toArray, List.getElem?_cons_zero] at c0
        have O2 := O
        have KC := Lib.hid O2.two.kc
        have K2 := Lib.hid O2.two.k2
        have O3 := O2.row2 #[.int .i64 8, .int .i64 x0, .int .i64 0, .int .i64 0, .int .i64 0, .string ⟨#[]⟩, .string ⟨#[]⟩, .int .i64 0, .int .i64 0, .int .i64 0, .bool false, .slice none 0 0, .slice none 0 0]
        have K3 := Lib.hid O3.two.k2
        clear O O2
        have HOC := Lib.hid (one_cells [.int .i64 8, .int .i64 x0, .int .i64 0, .int .i64 0, .int .i64 0, .string ⟨#[]⟩, .string ⟨#[]⟩, .int .i64 0, .int .i64 0, .int .i64 0, .bool false, .slice none 0 0, .slice none 0 0] (by intro v hv; simp only [List.mem_cons, List.mem_nil_iff, or_false] at hv; rcases hv with rfl | rfl | rfl | rfl | rfl | rfl | rfl | rfl | rfl | rfl | rfl | rfl | rfl <;> rfl))
        go_wp2_with (first | (refine wpList_load_row rfl 50 (.tmp 4) rfl w1.heap.size rfl 50 #[.int .i64 8, .int .i64 x0, .int .i64 0, .int .i64 0, .int .i64 0, .string ⟨#[]⟩, .string ⟨#[]⟩, .int .i64 0, .int .i64 0, .int .i64 0, .bool false, .slice none 0 0, .slice none 0 0] (0, 0) _ KC.out Tryd.underlying50 rfl Tryd.size50 ?_) | (refine wpList_store_row rfl 50 (.tmp 2) (.tmp 69) rfl (w.heap.size + 1) #[.int .i64 8, .int .i64 x0, .int .i64 0, .int .i64 0, .int .i64 0, .string ⟨#[]⟩, .string ⟨#[]⟩, .int .i64 0, .int .i64 0, .int .i64 0, .bool false, .slice none 0 0, .slice none 0 0] rfl rfl 50 _ K2.out Tryd.size50 rfl HOC.out ?_))
        refine bodyPost_ret (v := .agg #[.int .i64 8, .int .i64 x0, .int .i64 0, .int .i64 0, .int .i64 0, .string ⟨#[]⟩, .string ⟨#[]⟩, .int .i64 0, .int .i64 0, .int .i64 0, .bool false, .slice none 0 0, .slice none 0 0]) (results_cell_row rfl _ _ (w.heap.size + 1) 50 _ (0, 0) _ rfl K3.out Tryd.underlying50 rfl Tryd.size50) rfl (.inl ⟨⟨8, x0, 0, 0, Scr.OpS.zero, []⟩, r0, _, ?_, rfl, ⟨[.int .i64 8, .int .i64 x0, .int .i64 0, .int .i64 0, .int .i64 0, .string ⟨#[]⟩, .string ⟨#[]⟩, .int .i64 0, .int .i64 0, .int .i64 0, .bool false, .slice none 0 0, .slice none 0 0], rfl, ⟨[.int .i64 0, .string ⟨#[]⟩, .string ⟨#[]⟩, .int .i64 0, .int .i64 0, .int .i64 0, .bool false, .slice none 0 0], .slice none 0 0, rfl, ?_, ?_, i64_lit 8 (by decide), J0.out, i64_lit 0 (by decide), i64_lit 0 (by decide), by simp⟩, ?_, ?_⟩, O3.two.rd, O3.two.fr⟩)
        · simp [Scr.event, Scr.Ev.zero, HW.out, HKD.out, H0.out]
        · exact OpV.zero _
        · exact .inl ⟨rfl, _, _, rfl⟩
        · intro a l c hm
          simp at hm
        · intro a l c hm
          simp at hm
      · have O1 : Ev3 w wr br r (w.heap.size + 1) #[.int .i64 0, .int .i64 0, .int .i64 0, .int .i64 0, .int .i64 0, .string ⟨#[]⟩, .string ⟨#[]⟩, .int .i64 0, .int .i64 0, .int .i64 0, .bool false, .slice none 0 0, .slice none 0 0] w1.heap.size #[.int .i64 9, .int .i64 0, .int .i64 0, .int .i64 0, .int .i64 0, .string ⟨#[]⟩, .string ⟨#[]⟩, .int .i64 0, .int .i64 0, .int .i64 0, .bool false, .slice none 0 0, .slice none 0 0] w.heap.size := O
        have c1 : wr.cell? ⟨w1.heap.size, 0, none⟩ = some (.int .i64 9) := c0
        have hnm : (Scr.name 9 == x.toList) = true := HNM.out (by decide)
        clear O c0
        have O := O1
        have c0 := c1
        clear O1 c1
        have hp := O.ptr
        go_wp2_with (go_at_call 26; refine (name_ _ _ (by omega) (by omega)).mono ?_; rintro e w' ⟨rfl, rfl⟩)
        refine (node_ w _ br r _ _ _ _ _ O (by decide)).mono ?_
        rintro e w2 (⟨x0, r0, hf, I0, rfl, O1⟩ | ⟨hf, rfl, f⟩)
        rotate_left
        · exact ⟨rfl, .inr ⟨by simp [Scr.event, HW.out, HKD.out, hf], rfl, f⟩⟩
        have H0 := Lib.hid hf
        have J0 := Lib.hid I0
        clear hf I0 O hp c0 z0
        have O := O1
        clear O1
        simp only [List.setIfInBounds_toArray, List.set_cons_zero, List.set_cons_succ] at O
        have hp := O.ptr
        obtain ⟨c0, z0⟩ := O.two.cell 0
        simp only [List.getElem?_toArray, List.getElem?_cons_zero] at c0
        have O2 := O
        have KC := Lib.hid O2.two.kc
        have K2 := Lib.hid O2.two.k2
        have O3 := O2.row2 #[.int .i64 9, .int .i64 x0, .int .i64 0, .int .i64 0, .int .i64 0, .string ⟨#[]⟩, .string ⟨#[]⟩, .int .i64 0, .int .i64 0, .int .i64 0, .bool false, .slice none 0 0, .slice none 0 0]
        have K3 := Lib.hid O3.two.k2
        clear O O2
        have HOC := Lib.hid (one_cells [.int .i64 9, .int .i64 x0, .int .i64 0, .int .i64 0, .int .i64 0, .string ⟨#[]⟩, .string ⟨#[]⟩, .int .i64 0, .int .i64 0, .int .i64 0, .bool false, .slice none 0 0, .slice none 0 0] (by intro v hv; simp only [List.mem_cons, List.mem_nil_iff, or_false] at hv; rcases hv with rfl | rfl | rfl | rfl | rfl | rfl | rfl | rfl | rfl | rfl | rfl | rfl | rfl <;> rfl))
        go_wp2_with (first | (refine wpList_load_row rfl 50 (.tmp 4) rfl w1.heap.size rfl 50 #[.int .i64 9, .int .i64 x0, .int .i64 0, .int .i64 0, .int .i64 0, .string ⟨#[]⟩, .string ⟨#[]⟩, .int .i64 0, .int .i64 0, .int .i64 0, .bool false, .slice none 0 0, .slice none 0 0] (0, 0) _ KC.out Tryd.underlying50 rfl Tryd.size50 ?_) | (refine wpList_store_row rfl 50 (.tmp 2) (.tmp 69) rfl (w.heap.size + 1) #[.int .i64 9, .int .i64 x0, .int .i64 0, .int .i64 0, .int .i64 0, .string ⟨#[]⟩, .string ⟨#[]⟩, .int .i64 0, .int .i64 0, .int .i64 0, .bool false, .slice none 0 0, .slice none 0 0] rfl rfl 50 _ K2.out Tryd.size50 rfl HOC.out ?_))
        refine bodyPost_ret (v := .agg #[.int .i64 9, .int .i64 x0, .int .i64 0, .int .i64 0, .int .i64 0, .string ⟨#[]⟩, .string ⟨#[]⟩, .int .i64 0, .int .i64 0, .int .i64 0, .bool false, .slice none 0 0, .slice none 0 0]) (results_cell_row rfl _ _ (w.heap.size + 1) 50 _ (0, 0) _ rfl K3.out Tryd.underlying50 rfl Tryd.size50) rfl (.inl ⟨⟨9, x0, 0, 0, Scr.OpS.zero, []⟩, r0, _, ?_, rfl, ⟨[.int .i64 9, .int .i64 x0, .int .i64 0, .int .i64 0, .int .i64 0, .string ⟨#[]⟩, .string ⟨#[]⟩, .int .i64 0, .int .i64 0, .int .i64 0, .bool false, .slice none 0 0, .slice none 0 0], rfl, ⟨[.int .i64 0, .string ⟨#[]⟩, .string ⟨#[]⟩, .int .i64 0, .int .i64 0, .int .i64 0, .bool false, .slice none 0 0], .slice none 0 0, rfl, ?_, ?_, i64_lit 9 (by decide), J0.out, i64_lit 0 (by decide), i64_lit 0 (by decide), by simp⟩, ?_, ?_⟩, O3.two.rd, O3.two.fr⟩)
        · simp [Scr.event, Scr.Ev.zero, HW.out, HKD.out, H0.out]
        · exact OpV.zero _
        · exact .inl ⟨rfl, _, _, rfl⟩
        · intro a l c hm
          simp at hm
        · intro a l c hm
          simp at hm
      · have O1 : Ev3 w wr br r (w.heap.size + 1) #[.int .i64 0, .int .i64 0, .int .i64 0, .int .i64 0, .int .i64 0, .string ⟨#[]⟩, .string ⟨#[]⟩, .int .i64 0, .int .i64 0, .int .i64 0, .bool false, .slice none 0 0, .slice none 0 0] w1.heap.size #[.int .i64 10, .int .i64 0, .int .i64 0, .int .i64 0, .int .i64 0, .string ⟨#[]⟩, .string ⟨#[]⟩, .int .i64 0, .int .i64 0, .int .i64 0, .bool false, .slice none 0 0, .slice none 0 0] w.heap.size := O
        have c1 : wr.cell? ⟨w1.heap.size, 0, none⟩ = some (.int .i64 10) := c0
        have hnm : (Scr.name 10 == x.toList) = true := HNM.out (by decide)
        clear O c0
        have O := O1
        have c0 := c1
        clear O1 c1
        have hp := O.ptr
        go_wp2_with (go_at_call 26; refine (name_ _ _ (by omega) (by omega)).mono ?_; rintro e w' ⟨rfl, rfl⟩)
        refine (node_ w _ br r _ _ _ _ _ O (by decide)).mono ?_
        rintro e w2 (⟨x0, r0, hf, I0, rfl, O1⟩ | ⟨hf, rfl, f⟩)
        rotate_left
        · exact ⟨rfl, .inr ⟨by simp [Scr.event, HW.out, HKD.out, hf], rfl, f⟩⟩
        have H0 := Lib.hid hf
        have J0 := Lib.hid I0
        clear hf I0 O hp c0 z0
        have O := O1
        clear O1
        simp only [List.setIfInBounds_toArray, List.set_cons_zero, List.set_cons_succ] at O
        have hp := O.ptr
        obtain ⟨c0, z0⟩ := O.two.cell 0
        simp only [List.getElem?_toArray, List.getElem?_cons_zero] at c0
        go_wp2_with fail
        refine (num_ br r0 _ O.two.rd O.two.gl).mono ?_
        rintro e w3 (⟨x1, r1, v, hf, rfl, ⟨rfl, i0, i1⟩, hr, f⟩ | ⟨hf, rfl, f⟩)
        rotate_left
        · exact ⟨rfl, .inr ⟨by simp [Scr.event, HW.out, HKD.out, H0.out, hf], rfl, O.two.fr.br_trans f⟩⟩
        have H1 := Lib.hid hf
        have J1 := Lib.hid (show I64 x1 from ⟨i0, i1⟩)
        have O1 := O.call f hr
        clear hf f hr i0 i1 O hp c0 z0
        have O := O1
        clear O1
        obtain ⟨c3, z3⟩ := O.two.cell 3
        have O2 := (O.setC 3 (.int .i64 x1))
        simp only [List.setIfInBounds_toArray, List.set_cons_zero, List.set_cons_succ] at O2
        simp only [List.getElem?_toArray, List.getElem?_cons_zero, List.getElem?_cons_succ] at c3
        have KC := Lib.hid O2.two.kc
        have K2 := Lib.hid O2.two.k2
        have O3 := O2.row2 #[.int .i64 10, .int .i64 x0, .int .i64 0, .int .i64 x1, .int .i64 0, .string ⟨#[]⟩, .string ⟨#[]⟩, .int .i64 0, .int .i64 0, .int .i64 0, .bool false, .slice none 0 0, .slice none 0 0]
        have K3 := Lib.hid O3.two.k2
        clear O O2
        have HOC := Lib.hid (one_cells [.int .i64 10, .int .i64 x0, .int .i64 0, .int .i64 x1, .int .i64 0, .string ⟨#[]⟩, .string ⟨#[]⟩, .int .i64 0, .int .i64 0, .int .i64 0, .bool false, .slice none 0 0, .slice none 0 0] (by intro v hv; simp only [List.mem_cons, List.mem_nil_iff, or_false] at hv; rcases hv with rfl | rfl | rfl | rfl | rfl | rfl | rfl | rfl | rfl | rfl | rfl | rfl | rfl <;> rfl))
        go_wp2_with (first | (refine wpList_load_row rfl 50 (.tmp 4) rfl w1.heap.size rfl 50 #[.int .i64 10, .int .i64 x0, .int .i64 0, .int .i64 x1, .int .i64 0, .string ⟨#[]⟩, .string ⟨#[]⟩, .int .i64 0, .int .i64 0, .int .i64 0, .bool false, .slice none 0 0, .slice none 0 0] (0, 0) _ KC.out Tryd.underlying50 rfl Tryd.size50 ?_) | (refine wpList_store_row rfl 50 (.tmp 2) (.tmp 69) rfl (w.heap.size + 1) #[.int .i64 10, .int .i64 x0, .int .i64 0, .int .i64 x1, .int .i64 0, .string ⟨#[]⟩, .string ⟨#[]⟩, .int .i64 0, .int .i64 0, .int .i64 0, .bool false, .slice none 0 0, .slice none 0 0] rfl rfl 50 _ K2.out Tryd.size50 rfl HOC.out ?_))
        refine bodyPost_ret (v := .agg #[.int .i64 10, .int .i64 x0, .int .i64 0, .int .i64 x1, .int .i64 0, .string ⟨#[]⟩, .string ⟨#[]⟩, .int .i64 0, .int .i64 0, .int .i64 0, .bool false, .slice none 0 0, .slice none 0 0]) (results_cell_row rfl _ _ (w.heap.size + 1) 50 _ (0, 0) _ rfl K3.out Tryd.underlying50 rfl Tryd.size50) rfl (.inl ⟨⟨10, x0, 0, x1, Scr.OpS.zero, []⟩, r1, _, ?_, rfl, ⟨[.int .i64 10, .int .i64 x0, .int .i64 0, .int .i64 x1, .int .i64 0, .string ⟨#[]⟩, .string ⟨#[]⟩, .int .i64 0, .int .i64 0, .int .i64 0, .bool false, .slice none 0 0, .slice none 0 0], rfl, ⟨[.int .i64 0, .string ⟨#[]⟩, .string ⟨#[]⟩, .int .i64 0, .int .i64 0, .int .i64 0, .bool false, .slice none 0 0], .slice none 0 0, rfl, ?_, ?_, i64_lit 10 (by decide), J0.out, i64_lit 0 (by decide), J1.out, by simp⟩, ?_, ?_⟩, O3.two.rd, O3.two.fr⟩)
        · simp [Scr.event, Scr.Ev.zero, HW.out, HKD.out, H0.out, H1.out]
        · exact OpV.zero _
        · exact .inl ⟨rfl, _, _, rfl⟩
        · intro a l c hm
          simp at hm
        · intro a l c hm
          simp at hm
      · have O1 : Ev3 w wr br r (w.heap.size + 1) #[.int .i64 0, .int .i64 0, .int .i64 0, .int .i64 0, .int .i64 0, .string ⟨#[]⟩, .string ⟨#[]⟩, .int .i64 0, .int .i64 0, .int .i64 0, .bool false, .slice none 0 0, .slice none 0 0] w1.heap.size #[.int .i64 11, .int .i64 0, .int .i64 0, .int .i64 0, .int .i64 0, .string ⟨#[]⟩, .string ⟨#[]⟩, .int .i64 0, .int .i64 0, .int .i64 0, .bool false, .slice none 0 0, .slice none 0 0] w.heap.size := O
        have c1 : wr.cell? ⟨w1.heap.size, 0, none⟩ = some (.int .i64 11) := c0
        clear O c0
        have O := O1
        have c0 := c1
        clear O1 c1
        go_wp2_with (go_at_call 26; refine (name_ _ _ (by omega) (by omega)).mono ?_; rintro e w' ⟨rfl, rfl⟩)
        exact ⟨rfl, .inr ⟨by simp [Scr.event, HW.out, HKD.out], rfl, O.two.fr⟩⟩
#print axioms event_
end Go.Proofs.YtkcgijidgppeiaaDoor
