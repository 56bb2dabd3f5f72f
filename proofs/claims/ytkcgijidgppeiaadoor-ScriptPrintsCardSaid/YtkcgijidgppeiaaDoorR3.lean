/- The reference's bytes and names, walked. -/
import Derived.Test.YtkcgijidgppeiaaDoorR2
namespace Go.Proofs.YtkcgijidgppeiaaDoor
open Go.RowKit

set_option maxHeartbeats 1600000 in
theorem rname_ (k : Int) (w : World) (h : I64 k) : Calls Tryd.prog 34 #[.int .i64 k] w fun e w' => e = .returned (.string ⟨(Scr.name k).toArray⟩) ∧ Fr No w w' := by
  obtain ⟨h0, h1⟩ := h
  by_cases hl : k < 1
  · have hn : Scr.name k = [] := by unfold Scr.name; rw [if_neg (by omega)]
    have HN := Lib.hid hn
    clear hn
    go_enter Tryd.func34, Tryd.ntmps34
    go_wp2_with fail
    go_ret
    exact ⟨by rw [HN.out]; rfl, (Fr.refl _).alloc _⟩
  · by_cases hg : 10 < k
    · have hn : Scr.name k = [] := by unfold Scr.name; rw [if_neg (by omega)]
      have HN := Lib.hid hn
      clear hn
      go_enter Tryd.func34, Tryd.ntmps34
      go_wp2_with fail
      go_ret
      exact ⟨by rw [HN.out]; rfl, (Fr.refl _).alloc _⟩
    · have hk : k = 1 ∨ k = 2 ∨ k = 3 ∨ k = 4 ∨ k = 5 ∨ k = 6 ∨ k = 7 ∨ k = 8 ∨ k = 9 ∨ k = 10 := by omega
      clear hl hg h0 h1
      rcases hk with rfl | rfl | rfl | rfl | rfl | rfl | rfl | rfl | rfl | rfl
      all_goals
        go_enter Tryd.func34, Tryd.ntmps34
        go_wp2_with fail
        go_ret
        exact ⟨rfl, (Fr.refl _).alloc _⟩

/-- what 'raw' does. -/
def RawPost (x : ByteArray) (w : World) (e : Ending) (w' : World) : Prop :=
  ∃ v, e = .returned (.tuple #[v, .bool (Scr.bOk x)]) ∧ SlAt w' v (Scr.bV x) ∧ NewSl w v ∧ Fr No w w' ∧ (Scr.bV x).length ≤ 1048576

theorem rawPost_no {x : ByteArray} {w w' : World} {e : Ending} (h : Scr.bytesW x.data.toList = none) (he : e = .returned (.tuple #[.slice none 0 0, .bool false])) (f : Fr No w w') : RawPost x w e w' := by
  unfold RawPost Scr.bV Scr.bOk
  rw [h]
  exact ⟨_, he, .inl ⟨rfl, _, _, rfl⟩, (fun a l c h => by simp at h), f, by simp⟩
theorem rawPost_yes {x : ByteArray} {b : List UInt8} {v : Value} {w w' : World} {e : Ending} (h : Scr.bytesW x.data.toList = some b) (he : e = .returned (.tuple #[v, .bool true])) (hv : SlAt w' v b) (hn : NewSl w v) (f : Fr No w w') (hl : b.length ≤ 1048576) : RawPost x w e w' := by
  unfold RawPost Scr.bV Scr.bOk
  rw [h]
  exact ⟨v, he, hv, hn, f, hl⟩

set_option maxRecDepth 100000 in
set_option maxHeartbeats 800000 in
theorem raw_ (x : ByteArray) (w : World) (h8 : 8 ≤ w.heap.size) (hsz : x.size ≤ 1048576) : Calls Tryd.prog 47 #[.string x] w (RawPost x w) := by
  by_cases hd : x.data.toList = [45]
  · obtain rfl : x = ⟨#[45]⟩ := WideShapes.bytes_inj hd
    clear hd
    go_enter Tryd.func47, Tryd.ntmps47
    go_wp2_with fail
    go_ret2
    exact rawPost_yes (b := []) rfl rfl (.inl ⟨rfl, _, _, rfl⟩) (fun a l c h => by simp at h) (Fr.refl _) (by simp)
  · have t0 : (x.toList == [45]) = false := by rw [ByteArray.toList_eq]; simpa using hd
    have HD := Lib.hid hd
    clear hd
    by_cases he : x.data.toList = []
    · obtain rfl : x = ⟨#[]⟩ := WideShapes.bytes_inj he
      clear he
      go_enter Tryd.func47, Tryd.ntmps47
      go_wp2_with fail
      go_ret2
      exact rawPost_no rfl rfl (Fr.refl _)
    · have t1 : ((x.size : Int) == 0) = false := by
        rw [beq_eq_false_iff_ne]
        intro e
        exact he (List.eq_nil_of_length_eq_zero (by rw [← size_list]; omega))
      have HE := Lib.hid he
      clear he
      have hW : Scr.bytesW x.data.toList = Scr.unhex x.data.toList := by
        unfold Scr.bytesW
        rw [if_neg HD.out, if_neg HE.out]
      have HW := Lib.hid hW
      clear hW
      by_cases hm : (x.size : Int) % 2 = 0
      · have t3 : ((x.size : Int) % 2 != 0) = false := by simpa using hm
        have HM := Lib.hid hm
        clear hm
        go_enter Tryd.func47, Tryd.ntmps47
        go_wp2_with fail
        have hown0 : w.ownsRow w.heap.size 5 1 (.slice none 0 0) 0 [] := ⟨rfl, .inl ⟨rfl, rfl⟩⟩
        obtain ⟨i0, hi, hz0, hz1, hz2⟩ := info_parts Tryd.info5
        have HI := Lib.hid hi
        have HZ0 := Lib.hid hz0
        have HZ1 := Lib.hid hz1
        have HZ2 := Lib.hid hz2
        clear hi hz0 hz1 hz2
        go_loopw [4, 5] (fun b i wr => ∃ (j : Nat) (l : List UInt8), i = .int .i64 j ∧ j ≤ x.size ∧ Hid (j % 2 = 0) ∧ Hid (Scr.unhex (x.data.toList.take j) = some l) ∧ wr.ownsRow w.heap.size 5 1 b l.length (Lib.byteCells l) ∧ Fr No w wr)
          (fun _ i _ => x.size - (intOf i).toNat)
        case atStart => exact ⟨0, [], rfl, Nat.zero_le _, rfl, rfl, hown0, Fr.refl _⟩
        case round =>
          obtain ⟨j, l, rfl, hj, HJ2, HUL, hown, f2⟩ := hrel
          clear hown0
          by_cases hlt : j < x.size
          · have hj1 : j + 1 < x.size := by have := HM.out; have := HJ2.out; omega
            have q1 : IntKind.i64.wrap ((j : Int) + 1) = (j : Int) + 1 := IntWalk.i64_in _ (by omega)
            have q2 : (0 : Int) ≤ (j : Int) + 1 := by omega
            have q3 : ((j : Int) + 1).toNat = j + 1 := by omega
            have q4 : (j : Int) + 1 < (x.size : Int) := by omega
            have ba := digs_lt x[j]
            have bb := digs_lt x[j + 1]
            have hstep : Scr.unhex (x.data.toList.take (j + 2)) = (Scr.unhex [x[j], x[j + 1]]).map (l ++ ·) := by
              have e1 : x.data.toList.take (j + 2) = x.data.toList.take j ++ [x[j], x[j + 1]] := by
                have hl := size_list x
                rw [show j + 2 = j + 1 + 1 by omega, List.take_succ_eq_append_getElem (by omega), List.take_succ_eq_append_getElem (by omega)]
                simp
                exact ⟨rfl, rfl⟩
              rw [e1, unhex_append _ _ (by rw [List.length_take]; have := HJ2.out; have hl := size_list x; omega), HUL.out]
              rfl
            have HS := Lib.hid hstep
            clear hstep
            go_wp2_with fail
            refine (digit_ _ _).mono ?_
            rintro e w3 ⟨rfl, rfl⟩
            go_wp2_with fail
            refine (digit_ _ _).mono ?_
            rintro e w3 ⟨rfl, rfl⟩
            generalize hA : Lib.indexByte Scr.digs x[j] = ia at *
            generalize hB : Lib.indexByte Scr.digs x[j + 1] = ib at *
            have HA := Lib.hid hA
            have HB := Lib.hid hB
            clear hA hB
            have hl := Lib.hid (size_list x)
            by_cases ha : ia < 0
            · go_wp2_with fail
              go_ret2
              refine rawPost_no ?_ rfl f2
              rw [HW.out, unhex_none (m := j + 2) (by have := HJ2.out; omega) (by have := hl.out; omega) (by rw [HS.out, unhex_two_neg (.inl (by rw [HA.out]; exact ha))]; rfl)]
            · by_cases hb : ib < 0
              · go_wp2_with fail
                go_ret2
                refine rawPost_no ?_ rfl f2
                rw [HW.out, unhex_none (m := j + 2) (by have := HJ2.out; omega) (by have := hl.out; omega) (by rw [HS.out, unhex_two_neg (.inr (by rw [HB.out]; exact hb))]; rfl)]
              · obtain ⟨a, rfl⟩ := Int.eq_ofNat_of_zero_le (Int.not_lt.1 ha)
                obtain ⟨b, rfl⟩ := Int.eq_ofNat_of_zero_le (Int.not_lt.1 hb)
                have ha2 : a < 16 := by omega
                have hb2 : b < 16 := by omega
                have HO := Lib.hid (or8 a b ha2 hb2)
                have hlen : l.length ≤ 1048576 := by
                  have h1 := unhex_len _ _ HUL.out
                  rw [List.length_take] at h1
                  omega
                go_wp2_with (at_builtin; refine wpList_append_own _ rfl _ _ 43 rfl w.heap.size 5 i0 (.int .u8 0) 1 1 Tryd.underlying43 HI.out HZ0.out HZ1.out HZ2.out rfl (by decide) _ _ _ rfl (hown.alloc _) ⟨wr.heap.size, 0, none⟩ 1 1 [.int .u8 (bits BinOp.or IntKind.i64 ((a : Int) * 16) (b : Int) % 256)] rfl rfl ?c1 ?c2 ?c3 ?c4 ?c5 ?_)
                case c1 =>
                  intro k u hk
                  cases k with
                  | zero => simp at hk; subst hk; exact World.cell?_alloc_at _ _ _ _ rfl
                  | succ k => simp at hk
                case c2 => first | rfl | (intro u hu; simp at hu; subst hu; rfl)
                case c3 => unfold maxLen; omega
                case c4 => omega
                case c5 => have := f2.size; simp; omega
                intro v' w2 hown' hgrow _
                have f3 : Fr No w w2 := by
                  refine (f2.alloc _).grown hgrow ?_
                  intro k hk
                  exact .inr (hown.lt _ hk).1
                rw [HO.out] at hown'
                clear hgrow
                go_wp2_with fail
                go_roundw
                case rel =>
                  refine ⟨j + 2, l ++ [UInt8.ofNat (16 * a + b)], by go_num, by omega, by have := HJ2.out; unfold Hid; omega, ?_, ?_, f3⟩
                  · unfold Hid; rw [HS.out, unhex_two HA.out HB.out]; rfl
                  · simpa [Lib.byteCells] using hown'
                case measure => simp [intOf]; omega
          · obtain rfl : j = x.size := by omega
            go_wp2_with fail
            go_ret2
            have hlen : l.length ≤ 1048576 := by
              have h1 := unhex_len _ _ HUL.out
              rw [List.length_take] at h1
              omega
            have hs := slAt_of_own hown h8
            refine rawPost_yes ?_ rfl hs.1 hs.2.1 f2 hlen
            have hu := HUL.out
            rw [List.take_of_length_le (by rw [size_list x]; exact Nat.le_refl _)] at hu
            rw [HW.out, hu]
      · have t3 : ((x.size : Int) % 2 != 0) = true := by simpa using hm
        have HM := Lib.hid hm
        clear hm
        go_enter Tryd.func47, Tryd.ntmps47
        go_wp2_with fail
        go_ret2
        refine rawPost_no ?_ rfl (Fr.refl _)
        rw [HW.out, unhex_odd x.data.toList (by have := HM.out; have e : x.size = x.data.toList.length := (size_list x); omega)]
end Go.Proofs.YtkcgijidgppeiaaDoor
