/- The script's reader, walked: bytes, flags, the first line. -/
import Derived.Test.YtkcgijidgppeiaaDoorP1
import Derived.Deep.QuietTactic
import Derived.BigQuiet
import Derived.IntWalk
import Derived.Deep.DeepMust
namespace Go.Proofs.YtkcgijidgppeiaaDoor
open Go.RowKit

set_option maxHeartbeats 400000 in
theorem flag_ (br : Nat) (ws : List ByteArray) (w : World) (h : Rd w br ws) (hg : Glob w) : Calls Tryd.prog 61 #[.pointer (some ⟨br, 0, none⟩)] w (RdPost w br ws Scr.flag fun _ x v => v = .bool x) := by
  go_enter Tryd.func61, Tryd.ntmps61
  go_wp2_with fail
  refine (num_ br ws _ h hg).mono ?_
  rintro e w1 (⟨x, r, v, hf, rfl, ⟨rfl, h0, h1⟩, hr, f1⟩ | ⟨hf, rfl, f1⟩)
  · by_cases e0 : x = 0
    · subst e0
      have HF := Lib.hid hf
      clear hf
      go_wp2_with fail
      go_ret
      exact .inl ⟨false, r, _, by simp [Scr.flag, HF.out], rfl, rfl, hr, f1⟩
    · by_cases e1 : x = 1
      · subst e1
        have HF := Lib.hid hf
        clear hf
        go_wp2_with fail
        go_ret
        exact .inl ⟨true, r, _, by simp [Scr.flag, HF.out], rfl, rfl, hr, f1⟩
      · have HF := Lib.hid hf
        clear hf
        have t0 : (x != 0) = true := by simpa using e0
        have t1 : (x != 1) = true := by simpa using e1
        have E0 := Lib.hid e0
        have E1 := Lib.hid e1
        clear e0 e1
        go_wp2_with fail
        exact ⟨rfl, .inr ⟨by simp [Scr.flag, HF.out, E0.out, E1.out], rfl, f1⟩⟩
  · exact ⟨rfl, .inr ⟨by simp [Scr.flag, hf], rfl, f1⟩⟩

theorem size_list (x : ByteArray) : x.size = x.data.toList.length := by rw [Array.length_toList]; rfl

theorem unhex_len : ∀ (l r : List UInt8), Scr.unhex l = some r → r.length ≤ l.length
  | [], r, h => by simp [Scr.unhex] at h; subst h; simp
  | [_], r, h => by simp [Scr.unhex] at h
  | a :: b :: l, r, h => by
    unfold Scr.unhex at h
    split at h
    · cases h
    · cases hr : Scr.unhex l with
      | none => rw [hr] at h; cases h
      | some q =>
        rw [hr] at h
        cases h
        have := unhex_len l q hr
        simp; omega

theorem unhex_odd : ∀ (l : List UInt8), l.length % 2 = 1 → Scr.unhex l = none
  | [], h => by simp at h
  | [_], _ => rfl
  | a :: b :: r, h => by
    unfold Scr.unhex
    rw [unhex_odd r (by simp at h; omega)]
    split <;> rfl

theorem unhex_append : ∀ (x y : List UInt8), x.length % 2 = 0 → Scr.unhex (x ++ y) = (Scr.unhex x).bind fun l => (Scr.unhex y).map (l ++ ·)
  | [], y, _ => by simp [Scr.unhex]
  | [_], _, h => by simp at h
  | a :: b :: r, y, h => by
    have ih := unhex_append r y (by simp at h; omega)
    simp only [List.cons_append, Scr.unhex, ih]
    split
    · rfl
    · cases Scr.unhex r with
      | none => rfl
      | some l => cases Scr.unhex y <;> rfl

theorem idx_ (u : UInt8) (w : World) : Calls Tryd.prog 62 #[.string ⟨#[48, 49, 50, 51, 52, 53, 54, 55, 56, 57, 97, 98, 99, 100, 101, 102]⟩, .int .u8 u.toNat] w fun e w' => e = .returned (.int .i64 (Lib.indexByte Scr.digs u)) ∧ w' = w :=
  (Tryd.strings_IndexByte _ _ _).mono fun e w' ⟨he, hw⟩ => ⟨by rw [he]; simp [Scr.digs], hw⟩

theorem digs_lt (u : UInt8) : -1 ≤ Lib.indexByte Scr.digs u ∧ Lib.indexByte Scr.digs u < 16 := by
  refine ⟨Lib.indexByte_ge _ _, ?_⟩
  have h : ∀ n : Fin 256, Lib.indexByte Scr.digs (UInt8.ofNat n.val) < 16 := by decide +kernel
  have h1 := h ⟨u.toNat, u.toNat_lt⟩
  simpa using h1

theorem unhex_none {x : List UInt8} {m : Nat} (hm : m % 2 = 0) (hl : m ≤ x.length) (h : Scr.unhex (x.take m) = none) : Scr.unhex x = none := by
  rw [← List.take_append_drop m x, unhex_append _ _ (by rw [List.length_take]; omega), h]
  rfl

theorem unhex_two_neg {a b : UInt8} (h : Lib.indexByte Scr.digs a < 0 ∨ Lib.indexByte Scr.digs b < 0) : Scr.unhex [a, b] = none := by
  unfold Scr.unhex
  rw [if_pos h]

theorem unhex_two {a b : UInt8} {i k : Nat} (ha : Lib.indexByte Scr.digs a = i) (hb : Lib.indexByte Scr.digs b = k) : Scr.unhex [a, b] = some [UInt8.ofNat (16 * i + k)] := by
  unfold Scr.unhex
  rw [if_neg (by omega), ha, hb]
  rfl

theorem or8 (a b : Nat) (ha : a < 16) (hb : b < 16) : bits BinOp.or IntKind.i64 ((a : Int) * 16) (b : Int) % 256 = ((UInt8.ofNat (16 * a + b)).toNat : Int) := by
  have e : ∀ a b : Fin 16, bits BinOp.or IntKind.i64 ((a.val : Int) * 16) (b.val : Int) % 256 = ((UInt8.ofNat (16 * a.val + b.val)).toNat : Int) := by decide +kernel
  exact e ⟨a, ha⟩ ⟨b, hb⟩

/-- every slice among the values lies in a block of bytes. -/
def Tag5 (w : World) (vs : List Value) : Prop := ∀ a l c, Value.slice (some a) l c ∈ vs → ∃ cur fz, w.heap[a.block]? = some (.cells cur 5 fz)
theorem Tag5.fr {S : Nat → Prop} {w w' : World} {vs : List Value} (h : Tag5 w vs) (f : Fr S w w') (hS : ∀ a l c, Value.slice (some a) l c ∈ vs → ¬ S a.block) : Tag5 w' vs := fun a l c hm => by
  obtain ⟨cur, fz, hh⟩ := h a l c hm
  exact ⟨cur, fz, f.block_of hh (hS a l c hm)⟩

def NewSl (w : World) (v : Value) : Prop := ∀ a l c, v = .slice (some a) l c → w.heap.size ≤ a.block

theorem slAt_of_own {w : World} {base : Nat} {v : Value} {bs : List UInt8} (h : w.ownsRow base 5 1 v bs.length (Lib.byteCells bs)) (_hb : 8 ≤ base) :
    SlAt w v bs ∧ (∀ a l c, v = .slice (some a) l c → base ≤ a.block) ∧ Tag5 w [v] := by
  obtain ⟨_, h⟩ := h
  rcases h with ⟨rfl, hn⟩ | ⟨g, cap, cur, rfl, hg, hh, hn, _, hs, ht⟩
  · obtain rfl : bs = [] := by cases bs with | nil => rfl | cons a b => simp at hn
    exact ⟨.inl ⟨rfl, _, _, rfl⟩, (fun a l c h => by simp at h), fun a l c h => by simp at h⟩
  · refine ⟨.inr ⟨g, 0, cap, rfl, hn, lt_of_block hh, trivial, fun j x hj => ?_⟩, (fun a l c h => by simp at h; obtain ⟨rfl, _⟩ := h; exact hg), fun a l c h => by simp at h; obtain ⟨rfl, _⟩ := h; exact ⟨_, _, hh⟩⟩
    have h1 : (Lib.byteCells bs)[j]? = some (.int .u8 x.toNat) := by simp [Lib.byteCells, hj]
    rw [← ht] at h1
    have h2 : cur.toList[j]? = some (.int .u8 x.toNat) := by
      rw [List.getElem?_take] at h1
      split at h1
      · exact h1
      · cases h1
    simp only [World.cell?, hh, Nat.zero_add]
    simpa using h2

theorem Tryd.info5 : (Tryd.prog.info? 5).map (fun i => (i.zero, i.size, i.bytes)) = some (some (.int .u8 0), 1, 1) := by kernel_rfl

set_option maxRecDepth 100000 in
set_option maxHeartbeats 400000 in
theorem bytes_ (br : Nat) (ws : List ByteArray) (w : World) (h : Rd w br ws) (hg : Glob w) : Calls Tryd.prog 43 #[.pointer (some ⟨br, 0, none⟩)] w (RdPost w br ws Scr.bytes fun w' x v => SlAt w' v x ∧ NewSl w v ∧ x.length ≤ 1048576 ∧ Tag5 w' [v]) := by
  have h8 := h.1
  have hx := h.2.1
  go_enter Tryd.func43, Tryd.ntmps43
  go_wp2_with fail
  refine (word_ br ws _ h).mono ?_
  rintro e w1 (⟨x, r, v, hf, rfl, rfl, hr, f1⟩ | ⟨hf, rfl, f1⟩)
  · obtain rfl : ws = x :: r := by
      cases ws with
      | nil => simp [Scr.word] at hf
      | cons a b => simp [Scr.word] at hf; obtain ⟨rfl, rfl⟩ := hf; rfl
    have hsz := hx x (by simp)
    clear hf hx
    by_cases hd : x.data.toList = [45]
    · obtain rfl : x = ⟨#[45]⟩ := WideShapes.bytes_inj hd
      clear hd
      go_wp2_with fail
      go_ret
      exact .inl ⟨[], r, _, rfl, rfl, ⟨.inl ⟨rfl, _, _, rfl⟩, (fun a l c h => by simp at h), by simp, fun a l c h => by simp at h⟩, hr, f1⟩
    · have t0 : (x.toList == [45]) = false := by rw [ByteArray.toList_eq]; simpa using hd
      have HD := Lib.hid hd
      clear hd
      by_cases he : x.data.toList = []
      · obtain rfl : x = ⟨#[]⟩ := WideShapes.bytes_inj he
        clear he
        go_wp2_with fail
        exact ⟨rfl, .inr ⟨rfl, rfl, f1⟩⟩
      · have t1 : x.toList.isEmpty = false := by rw [ByteArray.toList_eq]; simpa using he
        have t2 : (!x.toList.isEmpty) = true := by rw [t1]; rfl
        have HE := Lib.hid he
        clear he
        have hW : Scr.bytes (x :: r) = (Scr.unhex x.data.toList).map (·, r) := by
          simp only [Scr.bytes, Scr.bytesW, if_neg HD.out, if_neg HE.out]
          cases Scr.unhex x.data.toList <;> rfl
        have HW := Lib.hid hW
        clear hW
        by_cases hm : (x.size : Int) % 2 = 0
        · have t3 : ((x.size : Int) % 2 != 0) = false := by simpa using hm
          have HM := Lib.hid hm
          clear hm
          go_wp2_with fail
          have hown0 : w1.ownsRow w1.heap.size 5 1 (.slice none 0 0) 0 [] := ⟨rfl, .inl ⟨rfl, rfl⟩⟩
          obtain ⟨i0, hi, hz0, hz1, hz2⟩ := info_parts Tryd.info5
          have HI := Lib.hid hi
          have HZ0 := Lib.hid hz0
          have HZ1 := Lib.hid hz1
          have HZ2 := Lib.hid hz2
          clear hi hz0 hz1 hz2
          go_loopw [4, 5] (fun b i wr => ∃ (j : Nat) (l : List UInt8), i = .int .i64 j ∧ j ≤ x.size ∧ j % 2 = 0 ∧ Scr.unhex (x.data.toList.take j) = some l ∧ wr.ownsRow w1.heap.size 5 1 b l.length (Lib.byteCells l) ∧ Fr No w1 wr)
            (fun _ i _ => x.size - (intOf i).toNat)
          case atStart => exact ⟨0, [], rfl, Nat.zero_le _, rfl, rfl, hown0, Fr.refl _⟩
          case round =>
            obtain ⟨j, l, rfl, hj, hj2, hul, hown, f2⟩ := hrel
            have HUL := Lib.hid hul
            have HJ2 := Lib.hid hj2
            clear hul hj2 hown0
            by_cases hlt : j < x.size
            · have hj1 : j + 1 < x.size := by have := HM.out; have := HJ2.out; omega
              have q1 : IntKind.i64.wrap ((j : Int) + 1) = (j : Int) + 1 := IntWalk.i64_in _ (by omega)
              have q2 : (0 : Int) ≤ (j : Int) + 1 := by omega
              have q3 : ((j : Int) + 1).toNat = j + 1 := by omega
              have q4 : (j : Int) + 1 < (x.size : Int) := by omega
              go_wp2_with fail
              go_quiet ((go_at_call 62; exact Calls.quiet_of_same (idx_ _ _)))
              have ba := digs_lt x[j]
              have bb := digs_lt x[j + 1]
              have hstep : Scr.unhex (x.data.toList.take (j + 2)) = (Scr.unhex [x[j], x[j + 1]]).map (l ++ ·) := by
                have e1 : x.data.toList.take (j + 2) = x.data.toList.take j ++ [x[j], x[j + 1]] := by
                  have hl := size_list x
                  rw [show j + 2 = j + 1 + 1 by omega, List.take_succ_eq_append_getElem (by omega), List.take_succ_eq_append_getElem (by omega)]
                  simp
                  exact ⟨rfl, rfl⟩
                rw [e1, unhex_append _ _ (by rw [List.length_take]; have := HJ2.out; have hl := size_list x; omega), HUL.out]
                rfl
              have HS := Lib.hid hstep
              clear hstep
              generalize hA : Lib.indexByte Scr.digs x[j] = ia at *
              generalize hB : Lib.indexByte Scr.digs x[j + 1] = ib at *
              have HA := Lib.hid hA
              have HB := Lib.hid hB
              clear hA hB
              have hl := Lib.hid (size_list x)
              have hFF : Fr (· = br) w (wr.drewN nq) := (f1.no_trans f2).drewN _
              by_cases ha : ia < 0
              · go_wp2_with fail
                refine ⟨rfl, .inr ⟨?_, rfl, hFF⟩⟩
                rw [HW.out, unhex_none (m := j + 2) (by have := HJ2.out; omega) (by have := hl.out; omega) (by rw [HS.out, unhex_two_neg (.inl (by rw [HA.out]; exact ha))]; rfl)]
                rfl
              · by_cases hb : ib < 0
                · go_wp2_with fail
                  refine ⟨rfl, .inr ⟨?_, rfl, hFF⟩⟩
                  rw [HW.out, unhex_none (m := j + 2) (by have := HJ2.out; omega) (by have := hl.out; omega) (by rw [HS.out, unhex_two_neg (.inr (by rw [HB.out]; exact hb))]; rfl)]
                  rfl
                · obtain ⟨a, rfl⟩ := Int.eq_ofNat_of_zero_le (Int.not_lt.1 ha)
                  obtain ⟨b, rfl⟩ := Int.eq_ofNat_of_zero_le (Int.not_lt.1 hb)
                  have ha2 : a < 16 := by omega
                  have hb2 : b < 16 := by omega
                  have hown2 : (wr.drewN nq).ownsRow w1.heap.size 5 1 u4 l.length (Lib.byteCells l) := hown
                  have HO := Lib.hid (or8 a b ha2 hb2)
                  have hlen : l.length ≤ 1048576 := by
                    have h1 := unhex_len _ _ HUL.out
                    rw [List.length_take] at h1
                    omega
                  go_wp2_with (at_builtin; refine wpList_append_own _ rfl _ _ 43 rfl w1.heap.size 5 i0 (.int .u8 0) 1 1 Tryd.underlying43 HI.out HZ0.out HZ1.out HZ2.out rfl (by decide) _ _ _ rfl (hown2.alloc _) ⟨wr.heap.size, 0, none⟩ 1 1 [.int .u8 (bits BinOp.or IntKind.i64 ((a : Int) * 16) (b : Int) % 256)] rfl rfl ?c1 ?c2 ?c3 ?c4 ?c5 ?_)
                  case c1 =>
                    intro k u hk
                    cases k with
                    | zero => simp at hk; subst hk; exact World.cell?_alloc_at _ _ _ _ rfl
                    | succ k => simp at hk
                  case c2 => first | rfl | (intro u hu; simp at hu; subst hu; rfl)
                  case c3 => unfold maxLen; omega
                  case c4 => omega
                  case c5 => have := f2.size; simp; omega
                  intro v' w2 hown' hgrow _
                  have f3 : Fr No w1 w2 := by
                    refine ((f2.drewN nq).alloc _).grown hgrow ?_
                    intro k hk
                    exact .inr (hown2.lt _ hk).1
                  rw [HO.out] at hown'
                  clear hgrow
                  go_wp2_with fail
                  go_roundw
                  case rel =>
                    refine ⟨j + 2, l ++ [UInt8.ofNat (16 * a + b)], by go_num, by omega, by have := HJ2.out; omega, ?_, ?_, f3⟩
                    · rw [HS.out, unhex_two HA.out HB.out]; rfl
                    · simpa [Lib.byteCells] using hown'
                  case measure => simp [intOf]; omega
            · obtain rfl : j = x.size := by omega
              go_wp2_with fail
              go_ret
              have hlen : l.length ≤ 1048576 := by
                have h1 := unhex_len _ _ HUL.out
                rw [List.length_take] at h1
                omega
              have hs := slAt_of_own hown (by have := f1.size; have := hg.size; omega)
              refine .inl ⟨l, r, _, ?_, rfl, ⟨hs.1, (fun a l c h => Nat.le_trans f1.size (hs.2.1 a l c h)), hlen, hs.2.2⟩, hr.no f2, f1.no_trans f2⟩
              have hu := HUL.out
              rw [List.take_of_length_le (by rw [size_list x]; exact Nat.le_refl _)] at hu
              rw [HW.out, hu]
              rfl
        · have t3 : ((x.size : Int) % 2 != 0) = true := by simpa using hm
          have HM := Lib.hid hm
          clear hm
          go_wp2_with fail
          refine ⟨rfl, .inr ⟨?_, rfl, f1⟩⟩
          rw [HW.out, unhex_odd x.data.toList (by have := HM.out; have e : x.size = x.data.toList.length := (size_list x)
                                                  omega)]
          rfl
  · exact ⟨rfl, .inr ⟨by cases ws <;> simp_all [Scr.word, Scr.bytes], rfl, f1⟩⟩
end Go.Proofs.YtkcgijidgppeiaaDoor
