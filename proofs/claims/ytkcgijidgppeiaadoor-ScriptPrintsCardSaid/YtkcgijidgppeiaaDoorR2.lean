/- The reference's numbers and bytes, walked. -/
import Derived.Test.YtkcgijidgppeiaaDoorR1
namespace Go.Proofs.YtkcgijidgppeiaaDoor
open Go.RowKit

set_option maxHeartbeats 400000 in
theorem digit_ (c : UInt8) (w : World) : Calls Tryd.prog 63 #[.int .u8 c.toNat] w fun e w' => e = .returned (.int .i64 (Lib.indexByte Scr.digs c)) ∧ w = w' := by
  have HR := Lib.hid (Scr.rdigit_eq c)
  have hc := c.toNat_lt
  generalize hn : c.toNat = n at *
  have HN := Lib.hid hn
  clear hn
  have HD : Hid (Scr.rdigit c = if 48 ≤ n ∧ n ≤ 57 then (n : Int) - 48 else if 97 ≤ n ∧ n ≤ 102 then (n : Int) - 97 + 10 else -1) := by unfold Scr.rdigit; rw [HN.out]; rfl
  by_cases h1 : 48 ≤ n
  · by_cases h2 : n ≤ 57
    · have q1 : (48 : Int) ≤ (n : Int) := by omega
      have q2 : (n : Int) ≤ 57 := by omega
      go_enter Tryd.func63, Tryd.ntmps63
      go_wp2_with fail
      go_ret
      refine ⟨?_, rfl⟩
      rw [← HR.out, HD.out, if_pos ⟨h1, h2⟩]; rfl
    · have q1 : (48 : Int) ≤ (n : Int) := by omega
      have q2 : ¬ (n : Int) ≤ 57 := by omega
      by_cases h3 : 97 ≤ n
      · have q3 : (97 : Int) ≤ (n : Int) := by omega
        by_cases h4 : n ≤ 102
        · have q4 : (n : Int) ≤ 102 := by omega
          go_enter Tryd.func63, Tryd.ntmps63
          go_wp2_with fail
          go_ret
          refine ⟨?_, rfl⟩
          rw [← HR.out, HD.out, if_neg (by omega), if_pos ⟨h3, h4⟩]; rfl
        · have q4 : ¬ (n : Int) ≤ 102 := by omega
          go_enter Tryd.func63, Tryd.ntmps63
          go_wp2_with fail
          go_ret
          refine ⟨?_, rfl⟩
          rw [← HR.out, HD.out, if_neg (by omega), if_neg (by omega)]; rfl
      · have q3 : ¬ (97 : Int) ≤ (n : Int) := by omega
        go_enter Tryd.func63, Tryd.ntmps63
        go_wp2_with fail
        go_ret
        refine ⟨?_, rfl⟩
        rw [← HR.out, HD.out, if_neg (by omega), if_neg (by omega)]; rfl
  · have q1 : ¬ (48 : Int) ≤ (n : Int) := by omega
    have q3 : ¬ (97 : Int) ≤ (n : Int) := by omega
    go_enter Tryd.func63, Tryd.ntmps63
    go_wp2_with fail
    go_ret
    refine ⟨?_, rfl⟩
    rw [← HR.out, HD.out, if_neg (by omega), if_neg (by omega)]; rfl

/-- one byte of the call's own, read as a string. -/
theorem conv_byte (w : World) (_h8 : 8 ≤ w.heap.size) (d : Nat) (hd : d < 256) (v : Int) (hv : v = (d : Int)) : (convert 43 9 (.slice (some ⟨w.heap.size, 0, none⟩) 1 1)).run Tryd.prog (w.alloc (.cells #[.int .u8 v] 5)) = .ok (.string ⟨#[UInt8.ofNat d]⟩) (w.alloc (.cells #[.int .u8 v] 5)) := by
  subst hv
  refine run_convert_sl _ _ [UInt8.ofNat d] (.inr ⟨w.heap.size, 0, 1, rfl, Nat.le_refl _, by simp, trivial, fun j x hj => ?_⟩)
  cases j with
  | succ j => simp at hj
  | zero =>
    simp at hj
    subst hj
    rw [cell_at (new_at w _)]
    have : (UInt8.ofNat d).toNat = d := by simp [UInt8.toNat_ofNat']; omega
    rw [this]; rfl

theorem dec_len (u : Nat) (h : u < 18446744073709551616) : (Lib.decDigits u).length ≤ 20 := by
  rw [Lib.decDigits_length]
  exact Scr.nDigits_le 19 u (by omega)

set_option maxRecDepth 100000 in
set_option maxHeartbeats 400000 in
theorem dec_ (N : Nat) (hN : N < 18446744073709551616) (w : World) (h8 : 8 ≤ w.heap.size) : Calls Tryd.prog 55 #[.int .u64 N] w fun e w' => ∃ s : ByteArray, e = .returned (.string s) ∧ s.size ≤ 20 ∧ s.data.toList = Lib.decDigits N ∧ Fr No w w' := by
  have HLN := Lib.hid (dec_len N hN)
  go_enter Tryd.func55, Tryd.ntmps55
  go_wp2_with fail
  go_loopw [0, 3] (fun n s wr => ∃ (k : Nat) (b : ByteArray), n = .int .u64 k ∧ s = .string b ∧ k ≤ N ∧ b.size ≤ 20 ∧ Hid (Lib.decDigits N = Lib.decDigits k ++ b.data.toList) ∧ Fr No w wr) (fun n _ _ => (intOf n).toNat)
  case atStart => exact ⟨N, ⟨#[]⟩, rfl, rfl, Nat.le_refl _, by decide, by simp [Hid], Fr.refl _⟩
  case round =>
    obtain ⟨k, b, rfl, rfl, hk, hb, HD, fr⟩ := hrel
    have wsz := fr.size
    have hcv := conv_byte wr (by omega) (48 + k % 10) (by omega) (48 + (k : Int) % 10) (by omega)
    obtain ⟨c, hc⟩ : ∃ c : ByteArray, c = ⟨#[UInt8.ofNat (48 + k % 10)]⟩ := ⟨_, rfl⟩
    rw [← hc] at hcv
    have hc1 : c.size = 1 := by rw [hc]; rfl
    have hcs : c.size ≤ 1 := by omega
    have HC := Lib.hid hc
    have HC1 := Lib.hid hc1
    clear hc hc1
    have hcb : (c ++ b).data.toList = UInt8.ofNat (48 + k % 10) :: b.data.toList := by rw [Scr.ba_append, HC.out]; simp
    have HCB := Lib.hid hcb
    clear hcb
    by_cases h10 : k < 10
    · have q : ((k : Int) / 10 == 0) = true := by simp; omega
      have hfin : (c ++ b).data.toList = Lib.decDigits N := by
        rw [HCB.out, HD.out, Lib.decDigits_one h10, Nat.mod_eq_of_lt h10]; rfl
      have HF := Lib.hid hfin
      clear hfin
      go_wp2_with fail
      go_ret
      refine ⟨_, rfl, ?_, HF.out, fr.alloc _⟩
      rw [size_list, HF.out]; exact HLN.out
    · have q : ((k : Int) / 10 == 0) = false := by simp; omega
      have q2 : ((k : Int) / 10 != 0) = true := by simp; omega
      have hfin : Lib.decDigits N = Lib.decDigits (k / 10) ++ (c ++ b).data.toList := by
        rw [HCB.out, HD.out, Scr.dec_snoc h10]; simp
      have HF := Lib.hid hfin
      clear hfin
      go_wp2_with fail
      go_roundw
      case rel =>
        refine ⟨k / 10, c ++ b, by go_num, rfl, by omega, ?_, HF, fr.alloc _⟩
        have := congrArg List.length HF.out
        rw [List.length_append] at this
        rw [size_list]
        have := HLN.out
        omega
      case measure => simp [intOf]; omega

theorem itoa_cases (n : Int) : Lib.itoa n = if n < 0 then 45 :: Lib.decDigits n.natAbs else Lib.decDigits n.toNat := rfl

set_option maxHeartbeats 400000 in
theorem int_ (n : Int) (w : World) (h8 : 8 ≤ w.heap.size) (h : I64 n) : Calls Tryd.prog 35 #[.int .i64 n] w fun e w' => e = .returned (.string (Scr.itoaB n)) ∧ Fr No w w' := by
  obtain ⟨i0, i1⟩ := h
  by_cases hn : n < 0
  · obtain ⟨u, hu⟩ : ∃ u : Nat, -(n + 1) + 1 = (u : Int) := ⟨(-(n + 1) + 1).toNat, by omega⟩
    have HU := Lib.hid hu
    clear hu
    go_enter Tryd.func35, Tryd.ntmps35
    go_wp2_with fail
    rw [HU.out]
    refine (dec_ u (by have := HU.out; omega) w h8).mono ?_
    rintro e w1 ⟨s, rfl, hs, hd, f1⟩
    have HD := Lib.hid hd
    clear hd
    go_wp2_with fail
    go_ret
    refine ⟨?_, f1⟩
    have e1 : Scr.itoaB n = ⟨#[45]⟩ ++ s := by
      apply Scr.ba_ext
      rw [Scr.ba_append, HD.out, Scr.itoaB, itoa_cases, if_pos hn, show n.natAbs = u by have := HU.out; omega]
      simp
    rw [e1]; rfl
  · obtain ⟨u, rfl⟩ : ∃ u : Nat, n = (u : Int) := ⟨n.toNat, by omega⟩
    go_enter Tryd.func35, Tryd.ntmps35
    go_wp2_with fail
    refine (dec_ u (by omega) w h8).mono ?_
    rintro e w1 ⟨s, rfl, hs, hd, f1⟩
    have HD := Lib.hid hd
    clear hd
    go_wp2_with fail
    go_ret
    refine ⟨?_, f1⟩
    have e1 : Scr.itoaB u = s := by
      apply Scr.ba_ext
      rw [HD.out, Scr.itoaB, itoa_cases, if_neg (by omega)]
      simp
    rw [e1]; rfl

theorem wrap_sgn (a : Nat) (h : a < 18446744073709551616) : wrap64 (a : Int) = Scr.sgn a := by
  unfold wrap64 Scr.sgn
  split <;> omega
theorem wrap_neg (a : Nat) : wrap64 (-Scr.sgn a) = Scr.neg64 (Scr.sgn a) ∨ ¬ a < 18446744073709551616 := by
  by_cases h : a < 18446744073709551616
  · left
    unfold wrap64 Scr.neg64 Scr.sgn
    split <;> split <;> omega
  · exact .inr h
def NumPost (s : ByteArray) (w : World) (e : Ending) (w' : World) : Prop := e = .returned (.tuple #[.int .i64 (Scr.nV s), .bool (Scr.nOk s)]) ∧ Fr No w w'
theorem numPost_no {s : ByteArray} {w w' : World} {e : Ending} (h : Scr.rnumber s.data.toList = none) (he : e = .returned (.tuple #[.int .i64 0, .bool false])) (f : Fr No w w') : NumPost s w e w' := by
  rw [Scr.rnumber_eq] at h
  unfold NumPost Scr.nV Scr.nOk
  rw [h]
  exact ⟨he, f⟩
theorem numPost_yes {s : ByteArray} {v : Int} {w w' : World} {e : Ending} (h : Scr.rnumber s.data.toList = some v) (he : e = .returned (.tuple #[.int .i64 v, .bool true])) (f : Fr No w w') : NumPost s w e w' := by
  rw [Scr.rnumber_eq] at h
  unfold NumPost Scr.nV Scr.nOk
  rw [h]
  exact ⟨he, f⟩

set_option maxRecDepth 100000 in
set_option maxHeartbeats 800000 in
theorem number_ (s : ByteArray) (w : World) (h8 : 8 ≤ w.heap.size) (hs : s.size ≤ 1048576) : Calls Tryd.prog 45 #[.string s] w (NumPost s w) := by
  have HL := Lib.hid (size_list s)
  by_cases h0 : s.size = 0
  · have q0 : ((s.size : Int) == 0) = true := beq_iff_eq.2 (by omega)
    have hr : Scr.rnumber s.data.toList = none := by
      unfold Scr.rnumber
      rw [if_pos (.inl (by rw [← HL.out]; exact h0))]
    have HR := Lib.hid hr
    clear hr h0
    go_enter Tryd.func45, Tryd.ntmps45
    go_wp2_with fail
    go_ret2
    exact numPost_no HR.out rfl (Fr.refl _)
  · have q0 : ((s.size : Int) == 0) = false := beq_eq_false_iff_ne.2 (by omega)
    have hs0 : 0 < s.size := by omega
    clear h0
    by_cases h20 : 20 < s.size
    · have q1 : (20 : Int) < (s.size : Int) := by omega
      have hr : Scr.rnumber s.data.toList = none := by
        unfold Scr.rnumber
        rw [if_pos (.inr (by rw [← HL.out]; exact h20))]
      have HR := Lib.hid hr
      clear hr h20
      go_enter Tryd.func45, Tryd.ntmps45
      go_wp2_with fail
      go_ret2
      exact numPost_no HR.out rfl (Fr.refl _)
    · have q1 : ¬ (20 : Int) < (s.size : Int) := by omega
      obtain ⟨c0, hc0⟩ : ∃ c0 : Nat, s[0].toNat = c0 := ⟨_, rfl⟩
      have hh : s.data.toList.head? = some s[0] := by
        have hl2 : 0 < s.data.toList.length := by have := HL.out; omega
        rw [List.head?_eq_getElem?, List.getElem?_eq_getElem hl2, at_list s 0 hs0 hl2]
      have HH := Lib.hid hh
      clear hh hc0
      by_cases hx : s[0] = 45
      · have qx : ((s[0].toNat : Int) == 45) = true := by rw [hx]; rfl
        have HI := Lib.hid (show Scr.isNeg s.data.toList = true from by unfold Scr.isNeg; rw [HH.out]; rw [hx]; rfl)
        have hdr : (if true then s.data.toList.tail else s.data.toList) = s.data.toList.drop 1 := by cases s.data.toList <;> rfl
        have HDR := Lib.hid hdr
        have hrn : Scr.rnumber s.data.toList = match Scr.rnum 0 (s.data.toList.drop 1) with
            | none => none
            | some n => if Lib.itoa (Scr.rval true n) = s.data.toList then some (Scr.rval true n) else none := by
          unfold Scr.rnumber
          rw [if_neg (by rw [← HL.out]; omega), HI.out, HDR.out]
          rfl
        have HRN := Lib.hid hrn
        clear hdr hrn hx
        go_enter Tryd.func45, Tryd.ntmps45
        go_wp2_with fail
        go_loopw [4, 6] (fun n k wr => ∃ (a j : Nat), n = .int .u64 a ∧ k = .int .i64 j ∧ 1 ≤ j ∧ j ≤ s.size ∧ a < 18446744073709551616 ∧ Hid (Scr.rnum 0 (s.data.toList.drop 1) = Scr.rnum a (s.data.toList.drop j)) ∧ wr = w) (fun _ k _ => s.size - (intOf k).toNat)
        case atStart => exact ⟨0, 1, rfl, rfl, Nat.le_refl _, by omega, by omega, rfl, rfl⟩
        case round =>
          obtain ⟨a, j, rfl, rfl, hj0, hj, ha, HA, rfl⟩ := hrel
          by_cases hlt : j < s.size
          · have qlt : (j : Int) < (s.size : Int) := by omega
            have hl2 : j < s.data.toList.length := by have := HL.out; omega
            have hd : s.data.toList.drop j = s[j] :: s.data.toList.drop (j + 1) := by rw [List.drop_eq_getElem_cons hl2, at_list s j hlt hl2]
            have HDJ := Lib.hid hd
            clear hd
            have hc := s[j].toNat_lt
            by_cases hbad : s[j].toNat < 48 ∨ 57 < s[j].toNat ∨ 922337203685477580 < a
            · have hr : Scr.rnumber s.data.toList = none := by rw [HRN.out, HA.out, HDJ.out, Scr.rnum, if_pos (by exact hbad)]
              have HR := Lib.hid hr
              clear hr
              by_cases b1 : s[j].toNat < 48
              · have qq : (s[j].toNat : Int) < 48 := by omega
                go_wp2_with fail
                go_ret2
                exact numPost_no HR.out rfl (Fr.refl _)
              · by_cases b2 : 57 < s[j].toNat
                · have qq : ¬ (s[j].toNat : Int) < 48 := by omega
                  have qq2 : (57 : Int) < (s[j].toNat : Int) := by omega
                  clear hbad
                  go_wp2_with fail
                  go_ret2
                  exact numPost_no HR.out rfl (Fr.refl _)
                · have qq : ¬ (s[j].toNat : Int) < 48 := by omega
                  have qq2 : ¬ (57 : Int) < (s[j].toNat : Int) := by omega
                  have qq3 : (922337203685477580 : Int) < (a : Int) := by omega
                  clear hbad
                  go_wp2_with fail
                  go_ret2
                  exact numPost_no HR.out rfl (Fr.refl _)
            · have qq : ¬ (s[j].toNat : Int) < 48 := by omega
              have qq2 : ¬ (57 : Int) < (s[j].toNat : Int) := by omega
              have qq3 : ¬ (922337203685477580 : Int) < (a : Int) := by omega
              have hst : Scr.rnum a (s.data.toList.drop j) = Scr.rnum (a * 10 + (s[j].toNat - 48)) (s.data.toList.drop (j + 1)) := by rw [HDJ.out, Scr.rnum, if_neg (by exact hbad)]
              have HST := Lib.hid hst
              clear hst hbad
              go_wp2_with fail
              go_roundw
              case rel => exact ⟨a * 10 + (s[j].toNat - 48), j + 1, by go_num, by go_num, by omega, by omega, by omega, HA.out.trans HST.out, (by first | rfl | trivial)⟩
              case measure => simp [intOf]; omega
          · obtain rfl : j = s.size := by omega
            have hfin : Scr.rnumber s.data.toList = if Lib.itoa (Scr.rval true a) = s.data.toList then some (Scr.rval true a) else none := by
              rw [HRN.out, HA.out, List.drop_eq_nil_of_le (by rw [← HL.out]; exact Nat.le_refl _), Scr.rnum]
            have HF := Lib.hid hfin
            clear hfin
            go_wp2_with fail
            rw [wrap_sgn a ha, (wrap_neg a).resolve_right (fun h => h ha)]
            have hrv := Scr.rval_range true a ha
            have HRV : Hid (Scr.rval true a = Scr.neg64 (Scr.sgn a)) := rfl
            rw [← HRV.out]
            refine (int_ _ _ h8 hrv).mono ?_
            rintro e w5 ⟨rfl, f5⟩
            by_cases he : Lib.itoa (Scr.rval true a) = s.data.toList
            · have e1 : Scr.itoaB (Scr.rval true a) = s := Scr.ba_ext (by simpa [Scr.itoaB] using he)
              have HE := Lib.hid he
              rw [e1]
              clear he e1 hrv
              go_wp2_with fail
              go_ret2
              exact numPost_yes (by rw [HF.out, if_pos HE.out]) rfl f5
            · have HE := Lib.hid he
              have e1 : ((Scr.itoaB (Scr.rval true a)).toList == s.toList) = false := by
                rw [ByteArray.toList_eq, ByteArray.toList_eq, beq_eq_false_iff_ne]
                intro e
                exact he (by simpa [Scr.itoaB] using e)
              have e2 : ((Scr.itoaB (Scr.rval true a)).toList != s.toList) = true := by unfold bne; rw [e1]; rfl
              generalize Scr.itoaB (Scr.rval true a) = ib at *
              clear he hrv
              go_wp2_with fail
              go_ret2
              exact numPost_no (by rw [HF.out, if_neg HE.out]) rfl f5
      · have qx : ((s[0].toNat : Int) == 45) = false := by
          rw [beq_eq_false_iff_ne]
          intro e
          exact hx (UInt8.toNat_inj.1 (by have h : (45 : UInt8).toNat = 45 := rfl; omega))
        have HI := Lib.hid (show Scr.isNeg s.data.toList = false from by unfold Scr.isNeg; rw [HH.out]; simpa using hx)
        have hdr : (if false then s.data.toList.tail else s.data.toList) = s.data.toList.drop 0 := by cases s.data.toList <;> rfl
        have HDR := Lib.hid hdr
        have hrn : Scr.rnumber s.data.toList = match Scr.rnum 0 (s.data.toList.drop 0) with
            | none => none
            | some n => if Lib.itoa (Scr.rval false n) = s.data.toList then some (Scr.rval false n) else none := by
          unfold Scr.rnumber
          rw [if_neg (by rw [← HL.out]; omega), HI.out, HDR.out]
          rfl
        have HRN := Lib.hid hrn
        clear hdr hrn hx
        go_enter Tryd.func45, Tryd.ntmps45
        go_wp2_with fail
        go_loopw [4, 6] (fun n k wr => ∃ (a j : Nat), n = .int .u64 a ∧ k = .int .i64 j ∧ 0 ≤ j ∧ j ≤ s.size ∧ a < 18446744073709551616 ∧ Hid (Scr.rnum 0 (s.data.toList.drop 0) = Scr.rnum a (s.data.toList.drop j)) ∧ wr = w) (fun _ k _ => s.size - (intOf k).toNat)
        case atStart => exact ⟨0, 0, rfl, rfl, Nat.le_refl _, by omega, by omega, rfl, rfl⟩
        case round =>
          obtain ⟨a, j, rfl, rfl, hj0, hj, ha, HA, rfl⟩ := hrel
          by_cases hlt : j < s.size
          · have qlt : (j : Int) < (s.size : Int) := by omega
            have hl2 : j < s.data.toList.length := by have := HL.out; omega
            have hd : s.data.toList.drop j = s[j] :: s.data.toList.drop (j + 1) := by rw [List.drop_eq_getElem_cons hl2, at_list s j hlt hl2]
            have HDJ := Lib.hid hd
            clear hd
            have hc := s[j].toNat_lt
            by_cases hbad : s[j].toNat < 48 ∨ 57 < s[j].toNat ∨ 922337203685477580 < a
            · have hr : Scr.rnumber s.data.toList = none := by rw [HRN.out, HA.out, HDJ.out, Scr.rnum, if_pos (by exact hbad)]
              have HR := Lib.hid hr
              clear hr
              by_cases b1 : s[j].toNat < 48
              · have qq : (s[j].toNat : Int) < 48 := by omega
                go_wp2_with fail
                go_ret2
                exact numPost_no HR.out rfl (Fr.refl _)
              · by_cases b2 : 57 < s[j].toNat
                · have qq : ¬ (s[j].toNat : Int) < 48 := by omega
                  have qq2 : (57 : Int) < (s[j].toNat : Int) := by omega
                  clear hbad
                  go_wp2_with fail
                  go_ret2
                  exact numPost_no HR.out rfl (Fr.refl _)
                · have qq : ¬ (s[j].toNat : Int) < 48 := by omega
                  have qq2 : ¬ (57 : Int) < (s[j].toNat : Int) := by omega
                  have qq3 : (922337203685477580 : Int) < (a : Int) := by omega
                  clear hbad
                  go_wp2_with fail
                  go_ret2
                  exact numPost_no HR.out rfl (Fr.refl _)
            · have qq : ¬ (s[j].toNat : Int) < 48 := by omega
              have qq2 : ¬ (57 : Int) < (s[j].toNat : Int) := by omega
              have qq3 : ¬ (922337203685477580 : Int) < (a : Int) := by omega
              have hst : Scr.rnum a (s.data.toList.drop j) = Scr.rnum (a * 10 + (s[j].toNat - 48)) (s.data.toList.drop (j + 1)) := by rw [HDJ.out, Scr.rnum, if_neg (by exact hbad)]
              have HST := Lib.hid hst
              clear hst hbad
              go_wp2_with fail
              go_roundw
              case rel => exact ⟨a * 10 + (s[j].toNat - 48), j + 1, by go_num, by go_num, by omega, by omega, by omega, HA.out.trans HST.out, (by first | rfl | trivial)⟩
              case measure => simp [intOf]; omega
          · obtain rfl : j = s.size := by omega
            have hfin : Scr.rnumber s.data.toList = if Lib.itoa (Scr.rval false a) = s.data.toList then some (Scr.rval false a) else none := by
              rw [HRN.out, HA.out, List.drop_eq_nil_of_le (by rw [← HL.out]; exact Nat.le_refl _), Scr.rnum]
            have HF := Lib.hid hfin
            clear hfin
            go_wp2_with fail
            rw [wrap_sgn a ha]
            have hrv := Scr.rval_range false a ha
            have HRV : Hid (Scr.rval false a = Scr.sgn a) := rfl
            rw [← HRV.out]
            refine (int_ _ _ h8 hrv).mono ?_
            rintro e w5 ⟨rfl, f5⟩
            by_cases he : Lib.itoa (Scr.rval false a) = s.data.toList
            · have e1 : Scr.itoaB (Scr.rval false a) = s := Scr.ba_ext (by simpa [Scr.itoaB] using he)
              have HE := Lib.hid he
              rw [e1]
              clear he e1 hrv
              go_wp2_with fail
              go_ret2
              exact numPost_yes (by rw [HF.out, if_pos HE.out]) rfl f5
            · have HE := Lib.hid he
              have e1 : ((Scr.itoaB (Scr.rval false a)).toList == s.toList) = false := by
                rw [ByteArray.toList_eq, ByteArray.toList_eq, beq_eq_false_iff_ne]
                intro e
                exact he (by simpa [Scr.itoaB] using e)
              have e2 : ((Scr.itoaB (Scr.rval false a)).toList != s.toList) = true := by unfold bne; rw [e1]; rfl
              generalize Scr.itoaB (Scr.rval false a) = ib at *
              clear he hrv
              go_wp2_with fail
              go_ret2
              exact numPost_no (by rw [HF.out, if_neg HE.out]) rfl f5
end Go.Proofs.YtkcgijidgppeiaaDoor
