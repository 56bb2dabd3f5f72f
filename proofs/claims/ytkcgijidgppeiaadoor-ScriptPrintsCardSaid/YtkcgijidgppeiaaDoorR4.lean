/- The reference's base 16, walked. -/
import Derived.Test.YtkcgijidgppeiaaDoorR3
import Derived.Deep.RegionHeld3
import Derived.Deep.AppendLies
namespace Go.Proofs.YtkcgijidgppeiaaDoor
open Go.RowKit

theorem and15 (x : Nat) (h : x < 256) : bits BinOp.and IntKind.u8 (x : Int) 15 = (x : Int) % 16 := by
  have e : ∀ a : Fin 256, bits BinOp.and IntKind.u8 (a.val : Int) 15 = (a.val : Int) % 16 := by decide +kernel
  exact e ⟨x, h⟩

set_option maxRecDepth 100000 in
set_option maxHeartbeats 3200000 in
theorem rhex_ (bs : List UInt8) (v : Value) (w : World) (hx : SlAt w v bs) (h8 : 8 ≤ w.heap.size) (hN : bs.length ≤ 1048576) :
    Calls Tryd.prog 36 #[v] w fun e w' => e = .returned (.string (Scr.hexB bs)) ∧ Fr No w w' := by
  rcases hx with ⟨rfl, a, c, rfl⟩ | ⟨b, off, c, rfl, hc, hb, _, hcell⟩
  · go_enter Tryd.func36, Tryd.ntmps36
    go_wp2_with fail
    go_ret
    exact ⟨rfl, Fr.refl _⟩
  · by_cases h0 : bs = []
    · subst h0
      go_enter Tryd.func36, Tryd.ntmps36
      go_wp2_with fail
      go_ret
      exact ⟨rfl, Fr.refl _⟩
    · have t0 : ((bs.length : Int) == 0) = false := by
        rw [beq_eq_false_iff_ne]
        intro e
        exact h0 (List.eq_nil_of_length_eq_zero (by omega))
      have H0 := Lib.hid h0
      have HCELL := Lib.hid hcell
      clear h0 hcell
      obtain ⟨i0, hi, hz0, hz1, hz2⟩ := info_parts Tryd.info5
      have HI := Lib.hid hi
      have HZ0 := Lib.hid hz0
      have HZ1 := Lib.hid hz1
      have HZ2 := Lib.hid hz2
      clear hi hz0 hz1 hz2
      go_enter Tryd.func36, Tryd.ntmps36
      go_wp2_with fail
      go_loopw [3, 4] (fun o i wr => ∃ (j : Nat), i = .int .i64 j ∧ j ≤ bs.length ∧ wr.ownsRow w.heap.size 5 1 o (Scr.hexL (bs.take j)).length (Lib.byteCells (Scr.hexL (bs.take j))) ∧ Fr No w wr)
        (fun _ i _ => bs.length - (intOf i).toNat)
      case atStart => exact ⟨0, rfl, Nat.zero_le _, ⟨rfl, .inl ⟨rfl, rfl⟩⟩, Fr.refl _⟩
      case round =>
        obtain ⟨j, rfl, hj, hown, fr⟩ := hrel
        by_cases hlt : j < bs.length
        · have hc1 := fr.cell_of (HCELL.out j bs[j] (List.getElem?_eq_getElem hlt)) id
          have qlt : (j : Int) < (bs.length : Int) := by omega
          have q0 : (0 : Int) ≤ (j : Int) := by omega
          obtain ⟨x, hxx⟩ : ∃ x : Nat, x = bs[j].toNat := ⟨_, rfl⟩
          have hx256 : x < 256 := by rw [hxx]; exact bs[j].toNat_lt
          rw [← hxx] at hc1
          have HXX := Lib.hid hxx
          clear hxx
          have i1 : ∀ w, (Instr.index 9 (.string ⟨#[48, 49, 50, 51, 52, 53, 54, 55, 56, 57, 97, 98, 99, 100, 101, 102]⟩) (.int .u8 ((x : Int) / 16))).run Tryd.prog w = .ok (.int .u8 (Scr.digit (x / 16)).toNat) w := fun w => by
            have := digit_at (x / 16) (by omega) w
            rw [← this]
            rfl
          have i2 : ∀ w, (Instr.index 9 (.string ⟨#[48, 49, 50, 51, 52, 53, 54, 55, 56, 57, 97, 98, 99, 100, 101, 102]⟩) (.int .u8 ((x : Int) % 16))).run Tryd.prog w = .ok (.int .u8 (Scr.digit (x % 16)).toNat) w := fun w => by
            have := digit_at (x % 16) (by omega) w
            rw [← this]
            rfl
          have hand : bits BinOp.and IntKind.u8 (x : Int) 15 = (x : Int) % 16 := and15 x hx256
          have i3 : ∀ w, (Instr.index 9 (.string ⟨#[48, 49, 50, 51, 52, 53, 54, 55, 56, 57, 97, 98, 99, 100, 101, 102]⟩) (.int .u8 (bits BinOp.and IntKind.u8 (x : Int) 15))).run Tryd.prog w = .ok (.int .u8 (Scr.digit (x % 16)).toNat) w := fun w => by rw [hand]; exact i2 w
          clear hand
          have hlen : (Scr.hexL (bs.take j)).length ≤ 2097152 := by rw [hexL_length, List.length_take]; omega
          have wsz := fr.size
          have hbr : b < wr.heap.size := by omega
          have ab : u3.ownBlock ≠ some b := fun e => by have := (hown.lt _ e).1; omega
          go_wp2_with fail
          go_region_held3 (fun w' => w'.cell? ⟨b, off + j, none⟩ = some (.int .u8 x))
            (first
              | go_keep
              | (rw [hgrow.cell_far _ (by simp; omega) (Ne.symm ab)]; assumption))
            ((refine step_append_lies _ (by rfl) _ _ _ (by rfl) w.heap.size 5 i0 _ 1 1 Tryd.underlying43 HI.out HZ0.out HZ1.out HZ2.out rfl (by omega) u3 _ _ (by rfl) ((hown.alloc _).drew)
                ⟨wr.heap.size, 0, none⟩ 2 2 [.int .u8 (Scr.digit (x / 16)).toNat, .int .u8 (Scr.digit (x % 16)).toNat] (by rfl) (by rfl) (World.news_of_block (cs := #[.int .u8 (Scr.digit (x / 16)).toNat, .int .u8 (Scr.digit (x % 16)).toNat]) (t := 5) (fr := (0, 0)) (heap_alloc_new wr _)) (by simp [Value.oneCell'])
                (by omega) (by unfold maxLen; omega) (by omega) (by simp; omega) (wr.heap.size + 1) (by simp) ?_; intro gg cap w1 hown1 hgrow hat hgl))
          all_goals
            have f3 : Fr No w w1 := by
              refine (fr.drew.alloc _).grown hgrow ?_
              intro k hk
              exact .inr (hown.lt _ hk).1
            have hfin : w1.ownsRow w.heap.size 5 1 (.slice (some ⟨gg, 0, none⟩) ((Scr.hexL (bs.take j)).length + 2) cap) (Scr.hexL (bs.take (j + 1))).length (Lib.byteCells (Scr.hexL (bs.take (j + 1)))) := by
              have e : Scr.hexL (bs.take (j + 1)) = Scr.hexL (bs.take j) ++ [Scr.digit (x / 16), Scr.digit (x % 16)] := by
                rw [List.take_succ_eq_append_getElem hlt, hexL_append, HXX.out]
                rfl
              rw [e, List.length_append]
              simpa [Lib.byteCells] using hown1
            clear hown1 hgrow i1 i2 i3
            go_wp2_with fail
            go_roundw
            case rel => exact ⟨j + 1, by go_num, by omega, hfin, f3⟩
            case measure => simp [intOf]; omega
        · obtain rfl : j = bs.length := by omega
          rw [List.take_length] at hown
          have hs := slAt_of_own hown h8
          have hcv := run_convert_sl _ _ _ hs.1
          go_wp2_with fail
          go_ret
          refine ⟨?_, fr⟩
          unfold Scr.hexB
          rw [if_neg H0.out]; rfl
end Go.Proofs.YtkcgijidgppeiaaDoor
