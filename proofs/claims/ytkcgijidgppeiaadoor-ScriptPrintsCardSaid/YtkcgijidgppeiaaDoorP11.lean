/- What the script's printer is made of: rows, numbers, bits, bytes. -/
import Derived.Test.YtkcgijidgppeiaaDoorP10
namespace Go.Proofs.YtkcgijidgppeiaaDoor
open Go.RowKit


/-- a slice that reads as values. -/
def InAt (w : World) (v : Value) (xs : List Value) : Prop :=
  ∃ a c, v = .slice a xs.length c ∧ xs.length ≤ c ∧ (xs = [] ∨ ∃ b off, a = some ⟨b, off, none⟩ ∧ b < w.heap.size ∧ ∀ j x, xs[j]? = some x → w.cell? ⟨b, off + j, none⟩ = some x)

theorem InAt.no {w w' : World} {v : Value} {xs : List Value} (h : InAt w v xs) (f : Fr No w w') : InAt w' v xs := by
  obtain ⟨a, c, rfl, hc, h⟩ := h
  refine ⟨a, c, rfl, hc, ?_⟩
  rcases h with h | ⟨b, off, rfl, hb, hx⟩
  · exact .inl h
  · exact .inr ⟨b, off, rfl, Nat.lt_of_lt_of_le hb f.size, fun j x hj => f.cell_of (hx j x hj) id⟩

theorem InAt.of_own {w : World} {base e : Nat} {v : Value} {xs : List Value} (h : w.ownsRow base e 1 v xs.length xs) : InAt w v xs := by
  rcases h.2 with ⟨rfl, h0⟩ | ⟨g, cap, cur, rfl, hb, hh, hc, _, hs, ht⟩
  · exact ⟨none, 0, by rw [h0], by omega, .inl (List.eq_nil_of_length_eq_zero h0)⟩
  · refine ⟨_, cap, rfl, hc, .inr ⟨g, 0, rfl, lt_of_block hh, fun j x hj => ?_⟩⟩
    rw [Nat.zero_add, cell_at hh]
    have : (cur.toList.take (xs.length * 1))[j]? = some x := by rw [ht]; exact hj
    rw [Nat.mul_one, List.getElem?_take] at this
    split at this
    · simpa using this
    · cases this

theorem bit_ (x : Bool) (w : World) : Calls Tryd.prog 54 #[.bool x] w fun e w' => e = .returned (.string (Scr.bitB x)) ∧ w = w' := by
  cases x
  · go_enter Tryd.func54, Tryd.ntmps54
    go_wp2
    go_ret
    exact ⟨rfl, rfl⟩
  · go_enter Tryd.func54, Tryd.ntmps54
    go_wp2
    go_ret
    exact ⟨rfl, rfl⟩

theorem row_ (xs : List ByteArray) (v : Value) (w : World) (hx : InAt w v (xs.map .string)) (hN : xs.length ≤ 140737488355328) (hlen : (Lib.join (xs.map (·.data.toList)) [32]).length ≤ 140737488355328) :
    Calls Tryd.prog 28 #[v] w fun e w' => e = .returned (.string (Scr.rowB xs)) ∧ Fr No w w' := by
  obtain ⟨a, c, rfl, hc, h⟩ := hx
  have hJ : Calls Tryd.prog 50 #[.slice a (xs.map Value.string).length c, .string ⟨#[32]⟩] w fun e w' => e = .returned (.string ⟨(Lib.join (xs.map (·.data.toList)) [32]).toArray⟩) ∧ Fr No w w' := by
    rcases h with h | ⟨b, off, rfl, hb, hcell⟩
    · have : xs = [] := by simpa using h
      subst this
      exact (Tryd.strings_Join_none _ _ _ w).mono fun e w' ⟨h1, h2⟩ => ⟨h1, h2 ▸ Fr.refl _⟩
    · rw [List.length_map] at hc ⊢
      refine (Tryd.strings_Join b off c xs ⟨#[32]⟩ w (fun j x hj => ?_) hb hN hc hlen).mono fun e w' ⟨h1, h2⟩ => ⟨h1, Fr.of_below h2 (Nat.le_refl _)⟩
      exact hcell j _ (by simp [hj])
  generalize (xs.map Value.string).length = n at *
  clear h hc
  go_enter Tryd.func28, Tryd.ntmps28
  go_wp2_with fail
  refine hJ.mono ?_
  rintro e w1 ⟨rfl, f⟩
  go_wp2_with fail
  go_ret
  exact ⟨rfl, f⟩

theorem Tryd.info9 : (Tryd.prog.info? 9).map (fun i => (i.zero, i.size, i.bytes)) = some (some (.string ⟨#[]⟩), 1, 16) := by kernel_rfl
theorem itoa_ (n : Int) (w : World) (hg : Glob w) (h : I64 n) : Calls Tryd.prog 51 #[.int .i64 n] w fun e w' => e = .returned (.string (Scr.itoaB n)) ∧ Fr No w w' :=
  (Tryd.strconv_Itoa n h.1 h.2 w hg.tab).mono fun e w' ⟨he, k, os, hw⟩ => ⟨he, by rw [hw]; exact fr_grow _ _ _⟩

/-- the strings that numbers are. -/
def strs (ns : List Int) : List Value := ns.map fun n => .string (Scr.itoaB n)

theorem _root_.Go.World.ownsRow.no {w w' : World} {base e size n : Nat} {v : Value} {xs : List Value} (h : w.ownsRow base e size v n xs) (f : Fr No w w') : w'.ownsRow base e size v n xs := by
  refine ⟨h.1, ?_⟩
  rcases h.2 with h2 | ⟨g, cap, cur, rfl, hb, hh, r⟩
  · exact .inl h2
  · exact .inr ⟨g, cap, cur, rfl, hb, f.block_of hh id, r⟩

set_option maxRecDepth 100000 in
set_option maxHeartbeats 800000 in
theorem ints_ (ns : List Int) (v : Value) (w : World) (hg : Glob w) (hx : InAt w v (ns.map (.int .i64))) (hi : ∀ n ∈ ns, I64 n) (hN : ns.length ≤ 1000) :
    Calls Tryd.prog 29 #[v] w fun e w' => ∃ v', e = .returned v' ∧ w'.ownsRow w.heap.size 9 1 v' ns.length (strs ns) ∧ Fr No w w' := by
  obtain ⟨a, c, rfl, hc, h⟩ := hx
  have hcell : ∀ j (hj : j < ns.length), ∃ b off, a = some ⟨b, off, none⟩ ∧ w.cell? ⟨b, off + j, none⟩ = some (.int .i64 ns[j]) := by
    intro j hj
    rcases h with h | ⟨b, off, rfl, hb, hcell⟩
    · have : ns = [] := by simpa using h
      subst this
      simp at hj
    · exact ⟨b, off, rfl, hcell j _ (by simp [hj])⟩
  have HCELL := Lib.hid hcell
  rw [List.length_map]
  clear h hc hcell
  obtain ⟨i0, hi0, hz0, hz1, hz2⟩ := info_parts Tryd.info9
  have HI := Lib.hid hi0
  have HZ0 := Lib.hid hz0
  have HZ1 := Lib.hid hz1
  have HZ2 := Lib.hid hz2
  clear hi0 hz0 hz1 hz2
  go_enter Tryd.func29, Tryd.ntmps29
  go_wp2_with fail
  go_loopw [3, 8] (fun o i wr => ∃ (j : Nat), i = .int .i64 j ∧ j ≤ ns.length ∧ wr.ownsRow w.heap.size 9 1 o j (strs (ns.take j)) ∧ Fr No w wr)
    (fun _ i _ => ns.length - (intOf i).toNat)
  case atStart => exact ⟨0, rfl, Nat.zero_le _, ⟨rfl, .inl ⟨rfl, rfl⟩⟩, Fr.refl _⟩
  case round =>
    obtain ⟨j, rfl, hj, hown, fr⟩ := hrel
    by_cases hlt : j < ns.length
    · obtain ⟨b, off, rfl, hc0⟩ := HCELL.out j hlt
      have hc1 := fr.cell_of hc0 id
      have qlt : (j : Int) < (ns.length : Int) := by omega
      have hni : I64 ns[j] := hi _ (List.getElem_mem hlt)
      have HNI := Lib.hid hni
      clear hni
      go_wp2_with fail
      refine (itoa_ _ _ (hg.no fr) HNI.out).mono ?_
      rintro e w2 ⟨rfl, f2⟩
      have hown2 : w2.ownsRow w.heap.size 9 1 u3 j (strs (ns.take j)) := hown.no f2
      generalize hs : Scr.itoaB ns[j] = s
      have HS := Lib.hid hs
      have wsz := fr.size
      have wsz2 := f2.size
      clear hs
      simp only []
      iterate 2 (first | go_values | go_skip | go_guarded | go_step)
      go_wp2_with (at_builtin; refine wpList_append_own _ rfl _ _ 51 rfl w.heap.size 9 i0 (.string ⟨#[]⟩) 1 16 Tryd.underlying51 HI.out HZ0.out HZ1.out HZ2.out rfl (by decide) _ _ _ rfl (hown2.alloc _) ⟨w2.heap.size, 0, none⟩ 1 1 [.string s] rfl rfl ?c1 ?c2 ?c3 ?c4 ?c5 ?_)
      case c1 =>
        intro k u hk
        cases k with
        | zero => simp at hk; subst hk; exact World.cell?_alloc_at _ _ _ _ rfl
        | succ k => simp at hk
      case c2 => first | rfl | (intro u hu; simp at hu; subst hu; rfl)
      case c3 => unfold maxLen; omega
      case c4 => omega
      case c5 => simp; omega
      intro v' w3 hown' hgrow _
      have f3 : Fr No w w3 := by
        refine ((fr.no_trans f2).alloc _).grown hgrow ?_
        intro k hk
        exact .inr (hown2.lt _ hk).1
      clear hgrow
      go_wp2_with fail
      go_roundw
      case rel =>
        refine ⟨j + 1, by go_num, by omega, ?_, f3⟩
        have e : strs (ns.take (j + 1)) = strs (ns.take j) ++ [.string s] := by
          unfold strs
          rw [List.take_succ_eq_append_getElem hlt, List.map_append, List.map_cons, List.map_nil, HS.out]
        rw [e]
        exact hown'
      case measure => simp [intOf]; omega
    · obtain rfl : j = ns.length := by omega
      go_wp2_with fail
      go_ret
      rw [List.take_length] at hown
      exact ⟨_, rfl, hown, fr⟩

theorem digit_at0 (w : World) : (Instr.index 9 (.string ⟨#[48, 49, 50, 51, 52, 53, 54, 55, 56, 57, 97, 98, 99, 100, 101, 102]⟩) (.int .u8 0)).run Tryd.prog w = .ok (.int .u8 (Scr.digit 0).toNat) w := by kernel_rfl
theorem digit_at1 (w : World) : (Instr.index 9 (.string ⟨#[48, 49, 50, 51, 52, 53, 54, 55, 56, 57, 97, 98, 99, 100, 101, 102]⟩) (.int .u8 1)).run Tryd.prog w = .ok (.int .u8 (Scr.digit 1).toNat) w := by kernel_rfl
theorem digit_at2 (w : World) : (Instr.index 9 (.string ⟨#[48, 49, 50, 51, 52, 53, 54, 55, 56, 57, 97, 98, 99, 100, 101, 102]⟩) (.int .u8 2)).run Tryd.prog w = .ok (.int .u8 (Scr.digit 2).toNat) w := by kernel_rfl
theorem digit_at3 (w : World) : (Instr.index 9 (.string ⟨#[48, 49, 50, 51, 52, 53, 54, 55, 56, 57, 97, 98, 99, 100, 101, 102]⟩) (.int .u8 3)).run Tryd.prog w = .ok (.int .u8 (Scr.digit 3).toNat) w := by kernel_rfl
theorem digit_at4 (w : World) : (Instr.index 9 (.string ⟨#[48, 49, 50, 51, 52, 53, 54, 55, 56, 57, 97, 98, 99, 100, 101, 102]⟩) (.int .u8 4)).run Tryd.prog w = .ok (.int .u8 (Scr.digit 4).toNat) w := by kernel_rfl
theorem digit_at5 (w : World) : (Instr.index 9 (.string ⟨#[48, 49, 50, 51, 52, 53, 54, 55, 56, 57, 97, 98, 99, 100, 101, 102]⟩) (.int .u8 5)).run Tryd.prog w = .ok (.int .u8 (Scr.digit 5).toNat) w := by kernel_rfl
theorem digit_at6 (w : World) : (Instr.index 9 (.string ⟨#[48, 49, 50, 51, 52, 53, 54, 55, 56, 57, 97, 98, 99, 100, 101, 102]⟩) (.int .u8 6)).run Tryd.prog w = .ok (.int .u8 (Scr.digit 6).toNat) w := by kernel_rfl
theorem digit_at7 (w : World) : (Instr.index 9 (.string ⟨#[48, 49, 50, 51, 52, 53, 54, 55, 56, 57, 97, 98, 99, 100, 101, 102]⟩) (.int .u8 7)).run Tryd.prog w = .ok (.int .u8 (Scr.digit 7).toNat) w := by kernel_rfl
theorem digit_at8 (w : World) : (Instr.index 9 (.string ⟨#[48, 49, 50, 51, 52, 53, 54, 55, 56, 57, 97, 98, 99, 100, 101, 102]⟩) (.int .u8 8)).run Tryd.prog w = .ok (.int .u8 (Scr.digit 8).toNat) w := by kernel_rfl
theorem digit_at9 (w : World) : (Instr.index 9 (.string ⟨#[48, 49, 50, 51, 52, 53, 54, 55, 56, 57, 97, 98, 99, 100, 101, 102]⟩) (.int .u8 9)).run Tryd.prog w = .ok (.int .u8 (Scr.digit 9).toNat) w := by kernel_rfl
theorem digit_at10 (w : World) : (Instr.index 9 (.string ⟨#[48, 49, 50, 51, 52, 53, 54, 55, 56, 57, 97, 98, 99, 100, 101, 102]⟩) (.int .u8 10)).run Tryd.prog w = .ok (.int .u8 (Scr.digit 10).toNat) w := by kernel_rfl
theorem digit_at11 (w : World) : (Instr.index 9 (.string ⟨#[48, 49, 50, 51, 52, 53, 54, 55, 56, 57, 97, 98, 99, 100, 101, 102]⟩) (.int .u8 11)).run Tryd.prog w = .ok (.int .u8 (Scr.digit 11).toNat) w := by kernel_rfl
theorem digit_at12 (w : World) : (Instr.index 9 (.string ⟨#[48, 49, 50, 51, 52, 53, 54, 55, 56, 57, 97, 98, 99, 100, 101, 102]⟩) (.int .u8 12)).run Tryd.prog w = .ok (.int .u8 (Scr.digit 12).toNat) w := by kernel_rfl
theorem digit_at13 (w : World) : (Instr.index 9 (.string ⟨#[48, 49, 50, 51, 52, 53, 54, 55, 56, 57, 97, 98, 99, 100, 101, 102]⟩) (.int .u8 13)).run Tryd.prog w = .ok (.int .u8 (Scr.digit 13).toNat) w := by kernel_rfl
theorem digit_at14 (w : World) : (Instr.index 9 (.string ⟨#[48, 49, 50, 51, 52, 53, 54, 55, 56, 57, 97, 98, 99, 100, 101, 102]⟩) (.int .u8 14)).run Tryd.prog w = .ok (.int .u8 (Scr.digit 14).toNat) w := by kernel_rfl
theorem digit_at15 (w : World) : (Instr.index 9 (.string ⟨#[48, 49, 50, 51, 52, 53, 54, 55, 56, 57, 97, 98, 99, 100, 101, 102]⟩) (.int .u8 15)).run Tryd.prog w = .ok (.int .u8 (Scr.digit 15).toNat) w := by kernel_rfl
theorem digit_at (n : Nat) (hn : n < 16) (w : World) : (Instr.index 9 (.string ⟨#[48, 49, 50, 51, 52, 53, 54, 55, 56, 57, 97, 98, 99, 100, 101, 102]⟩) (.int .u8 n)).run Tryd.prog w = .ok (.int .u8 (Scr.digit n).toNat) w :=
  match n, hn with
  | 0, _ => digit_at0 w
  | 1, _ => digit_at1 w
  | 2, _ => digit_at2 w
  | 3, _ => digit_at3 w
  | 4, _ => digit_at4 w
  | 5, _ => digit_at5 w
  | 6, _ => digit_at6 w
  | 7, _ => digit_at7 w
  | 8, _ => digit_at8 w
  | 9, _ => digit_at9 w
  | 10, _ => digit_at10 w
  | 11, _ => digit_at11 w
  | 12, _ => digit_at12 w
  | 13, _ => digit_at13 w
  | 14, _ => digit_at14 w
  | 15, _ => digit_at15 w
  | n + 16, h => absurd h (by omega)

theorem Fr.no_below {a b c : World} (h : Fr No a b) (k : Below a.heap.size b c) : Fr No a c :=
  ⟨k.os.trans h.os, k.tape.trans h.tape, k.output.trans h.output, Nat.le_trans h.size k.size, fun j hj _ => (k.block j hj).trans (h.block j hj id)⟩
theorem hexL_length : ∀ l : List UInt8, (Scr.hexL l).length = 2 * l.length
  | [] => rfl
  | x :: r => by simp [Scr.hexL, hexL_length r]; omega
theorem hexL_append : ∀ l m : List UInt8, Scr.hexL (l ++ m) = Scr.hexL l ++ Scr.hexL m
  | [], m => rfl
  | x :: r, m => by simp [Scr.hexL, hexL_append r m]

set_option maxRecDepth 100000 in
set_option maxHeartbeats 800000 in
theorem hex_ (bs : List UInt8) (v : Value) (w : World) (hx : SlAt w v bs) (hv : ∃ a l c, v = .slice a l c) (hN : bs.length ≤ 1048576) :
    Calls Tryd.prog 53 #[v] w fun e w' => e = .returned (.string (Scr.hexB bs)) ∧ Fr No w w' := by
  rcases hx with ⟨rfl, a, c, rfl⟩ | ⟨b, off, c, rfl, hc, hb, _, hcell⟩
  · go_enter Tryd.func53, Tryd.ntmps53
    go_wp2_with fail
    go_ret
    exact ⟨rfl, Fr.refl _⟩
  · by_cases h0 : bs = []
    · subst h0
      go_enter Tryd.func53, Tryd.ntmps53
      go_wp2_with fail
      go_ret
      exact ⟨rfl, Fr.refl _⟩
    · have t0 : ((bs.length : Int) == 0) = false := by
        have : bs.length ≠ 0 := fun e => h0 (List.eq_nil_of_length_eq_zero e)
        simp
        omega
      have H0 := Lib.hid h0
      have HCELL := Lib.hid hcell
      clear h0 hcell hv
      have hB0 := Lib.fresh_isBuilder 68 5 w
      go_enter Tryd.func53, Tryd.ntmps53
      go_wp2_with fail
      go_loopw [11] (fun i wr => ∃ (j : Nat), i = .int .i64 j ∧ j ≤ bs.length ∧ Lib.IsBuilder 68 5 w.heap.size w.heap.size (Lib.byteCells (Scr.hexL (bs.take j))) wr ∧ Fr No w wr)
        (fun i _ => bs.length - (intOf i).toNat)
      case atStart => exact ⟨0, rfl, Nat.zero_le _, hB0, (Fr.refl w).alloc _⟩
      case round =>
        obtain ⟨j, rfl, hj, hbu, fr⟩ := hrel
        clear hB0
        by_cases hlt : j < bs.length
        · have hc1 := fr.cell_of (HCELL.out j bs[j] (List.getElem?_eq_getElem hlt)) id
          have qlt : (j : Int) < (bs.length : Int) := by omega
          obtain ⟨x, hxx⟩ : ∃ x : Nat, x = bs[j].toNat := ⟨_, rfl⟩
          have hx256 : x < 256 := by rw [hxx]; exact bs[j].toNat_lt
          rw [← hxx] at hc1
          have HXX := Lib.hid hxx
          clear hxx
          have i1 : ∀ w, (Instr.index 9 (.string ⟨#[48, 49, 50, 51, 52, 53, 54, 55, 56, 57, 97, 98, 99, 100, 101, 102]⟩) (.int .u8 ((x : Int) / 16))).run Tryd.prog w = .ok (.int .u8 (Scr.digit (x / 16)).toNat) w := fun w => by
            have := digit_at (x / 16) (by omega) w
            rw [← this]
            rfl
          have i2 : ∀ w, (Instr.index 9 (.string ⟨#[48, 49, 50, 51, 52, 53, 54, 55, 56, 57, 97, 98, 99, 100, 101, 102]⟩) (.int .u8 ((x : Int) % 16))).run Tryd.prog w = .ok (.int .u8 (Scr.digit (x % 16)).toNat) w := fun w => by
            have := digit_at (x % 16) (by omega) w
            rw [← this]
            rfl
          go_wp2_with fail
          have hlb : (Lib.byteCells (Scr.hexL (bs.take j))).length ≤ 4194304 := by
            simp only [Lib.byteCells, List.length_map, hexL_length, List.length_take]
            omega
          refine (Tryd.Builder_WriteByte w.heap.size w.heap.size _ _ _ hbu (by omega) fr.size).mono ?_
          rintro e w2 ⟨rfl, hb2, hbel⟩
          have f2 : Fr No w w2 := fr.no_below hbel
          go_wp2_with fail
          refine (Tryd.Builder_WriteByte w.heap.size w.heap.size _ _ _ (.inr hb2) (by rw [List.length_append]; simp; omega) f2.size).mono ?_
          rintro e w3 ⟨rfl, hb3, hbel3⟩
          have f3 : Fr No w w3 := f2.no_below hbel3
          clear hb2 hbel hbel3 i1 i2
          go_wp2_with fail
          go_roundw
          case rel =>
            refine ⟨j + 1, by go_num, by omega, ?_, f3⟩
            have e : Lib.byteCells (Scr.hexL (bs.take (j + 1))) = Lib.byteCells (Scr.hexL (bs.take j)) ++ [.int .u8 (Scr.digit (x / 16)).toNat] ++ [.int .u8 (Scr.digit (x % 16)).toNat] := by
              rw [List.take_succ_eq_append_getElem hlt, hexL_append, HXX.out]
              simp [Lib.byteCells, Scr.hexL]
            rw [e]
            exact .inr hb3
          case measure => simp [intOf]; omega
        · obtain rfl : j = bs.length := by omega
          rw [List.take_length] at hbu
          go_wp2_with fail
          refine (Tryd.Builder_String_any w.heap.size w.heap.size _ _ hbu fr.size).mono ?_
          rintro e w2 ⟨rfl, hbel⟩
          have f2 : Fr No w w2 := fr.no_below hbel
          go_wp2_with fail
          go_ret
          refine ⟨?_, f2⟩
          unfold Scr.hexB
          rw [if_neg H0.out]
          rfl
end Go.Proofs.YtkcgijidgppeiaaDoor
