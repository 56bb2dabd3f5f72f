/- Numbers and bytes as words, there and back; the reference's number and digit. Plain: no program in sight. -/
import Derived.Test.YtkcgijidgppeiaaDoorL2
import Derived.Lib.ParseIntBCases
namespace Go.Proofs.YtkcgijidgppeiaaDoor
namespace Scr

theorem dec_snoc {u : Nat} (h : ¬ u < 10) : Lib.decDigits u = Lib.decDigits (u / 10) ++ [UInt8.ofNat (48 + u % 10)] := by rw [Lib.decDigits, dif_neg h]
theorem byte_toNat (d : Nat) (h : d < 10) : (UInt8.ofNat (48 + d)).toNat = 48 + d := by simp [UInt8.toNat_ofNat']; omega

theorem dec_digits (u : Nat) : ∀ c ∈ Lib.decDigits u, 48 ≤ c.toNat ∧ c.toNat ≤ 57 := by
  induction u using Nat.strongRecOn with
  | ind u ih =>
    intro c hc
    by_cases h : u < 10
    · rw [Lib.decDigits_one h] at hc
      simp only [List.mem_singleton] at hc; subst hc
      rw [byte_toNat _ h]; omega
    · rw [dec_snoc h] at hc
      rcases List.mem_append.1 hc with hc | hc
      · exact ih _ (by omega) c hc
      · simp only [List.mem_singleton] at hc; subst hc
        rw [byte_toNat _ (by omega)]; omega

theorem dec_cons (u : Nat) : ∃ c r, Lib.decDigits u = c :: r ∧ 48 ≤ c.toNat ∧ c.toNat ≤ 57 := by
  have h := dec_digits u
  have hl := Lib.decDigits_length u
  have hp := Lib.nDigits_pos u
  cases hd : Lib.decDigits u with
  | nil => rw [hd] at hl; simp at hl; omega
  | cons c r => exact ⟨c, r, rfl, h c (by rw [hd]; simp)⟩

theorem parseUintM_snoc (M : Nat) (c : UInt8) : ∀ (l : List UInt8) (acc a : Nat) (R : Lib.NumEnd Nat), Lib.parseUintM M a [c] = R → Lib.parseUintM M acc l = .ok a → Lib.parseUintM M acc (l ++ [c]) = R
  | [], acc, a, R, hR, h => by simp only [Lib.parseUintM] at h; injection h with h; subst h; exact hR
  | x :: r, acc, a, R, hR, h => by
    rw [List.cons_append, Lib.parseUintM]
    rw [Lib.parseUintM] at h
    split at h
    · rename_i h1
      split at h
      · cases h
      · rename_i h2
        split at h
        · cases h
        · rename_i h3
          rw [if_pos h1, if_neg h2, if_neg h3]
          exact parseUintM_snoc M c r _ a R hR h
    · cases h

theorem parse_dec (M : Nat) (hM : M ≤ 18446744073709551615) (u : Nat) : u ≤ M → Lib.parseUintM M 0 (Lib.decDigits u) = .ok u := by
  induction u using Nat.strongRecOn with
  | ind u ih =>
    intro hu
    by_cases h : u < 10
    · rw [Lib.decDigits_one h]
      unfold Lib.parseUintM
      have := byte_toNat u h
      rw [this, if_pos (by omega), if_neg (by omega), if_neg (by omega), Lib.parseUintM]
      congr 1; omega
    · rw [dec_snoc h]
      refine parseUintM_snoc M _ _ 0 (u / 10) _ ?_ (ih _ (by omega) (by omega))
      unfold Lib.parseUintM
      have := byte_toNat (u % 10) (by omega)
      rw [this, if_pos (by omega), if_neg (by omega), if_neg (by omega), Lib.parseUintM]
      congr 1; omega

theorem numW_itoa (v : Int) (h0 : -9223372036854775808 ≤ v) (h1 : v ≤ 9223372036854775807) : numW (Lib.itoa v) = some v := by
  have hp : Lib.parseIntB 64 (Lib.itoa v) = .ok v := by
    by_cases hv : v < 0
    · have e : Lib.itoa v = 45 :: Lib.decDigits v.natAbs := by unfold Lib.itoa; rw [if_pos hv]
      rw [e, Lib.parseIntB_minus]
      obtain ⟨c, r, hc, _⟩ := dec_cons v.natAbs
      unfold Lib.parseUintB
      rw [if_neg (by rw [hc]; simp), parse_dec _ (by decide) _ (by omega)]
      unfold Lib.signedC; dsimp only
      rw [if_neg (by omega)]
      congr 1; omega
    · have e : Lib.itoa v = Lib.decDigits v.toNat := by unfold Lib.itoa; rw [if_neg hv]
      obtain ⟨c, r, hc, hc1, hc2⟩ := dec_cons v.toNat
      have hd := parse_dec (2 ^ 64 - 1) (by decide) v.toNat (by omega)
      rw [e, hc, Lib.parseIntB_plain 64 c r (by omega) (by omega), ← hc]
      unfold Lib.parseUintB
      rw [if_neg (by rw [hc]; simp), hd]
      unfold Lib.signlessC; dsimp only
      rw [if_neg (by omega)]
      congr 1; omega
  unfold numW
  rw [hp]
  simp

theorem numW_iff (w : Bs) (v : Int) : numW w = some v ↔ (-9223372036854775808 ≤ v ∧ v ≤ 9223372036854775807) ∧ Lib.itoa v = w := by
  constructor
  · intro h
    refine ⟨?_, numW_back h⟩
    unfold numW at h
    split at h
    · rename_i v' hv
      split at h
      · injection h with h; subst h
        have := Lib.parseIntB_bounds hv
        omega
      · cases h
    · cases h
  · rintro ⟨⟨h0, h1⟩, rfl⟩
    exact numW_itoa v h0 h1

/-! ### the reference's number -/
def rnum : Nat → Bs → Option Nat
  | n, [] => some n
  | n, c :: r => if c.toNat < 48 ∨ 57 < c.toNat ∨ 922337203685477580 < n then none else rnum (n * 10 + (c.toNat - 48)) r
def sgn (n : Nat) : Int := if n < 9223372036854775808 then n else (n : Int) - 18446744073709551616
def neg64 (x : Int) : Int := if x = -9223372036854775808 then x else -x
def rval (neg : Bool) (n : Nat) : Int := if neg then neg64 (sgn n) else sgn n
def isNeg (w : Bs) : Bool := w.head? == some 45
def rnumber (w : Bs) : Option Int :=
  if w.length = 0 ∨ 20 < w.length then none
  else match rnum 0 (if isNeg w then w.tail else w) with
    | none => none
    | some n => if Lib.itoa (rval (isNeg w) n) = w then some (rval (isNeg w) n) else none

theorem rnum_lt : ∀ (l : Bs) (n m : Nat), n < 18446744073709551616 → rnum n l = some m → m < 18446744073709551616
  | [], n, m, hn, h => by unfold rnum at h; injection h with h; omega
  | c :: r, n, m, hn, h => by
    unfold rnum at h
    split at h
    · cases h
    · exact rnum_lt r _ m (by omega) h

theorem rnum_snoc (c : UInt8) : ∀ (l : Bs) (n a : Nat) (R : Option Nat), rnum a [c] = R → rnum n l = some a → rnum n (l ++ [c]) = R
  | [], n, a, R, hR, h => by unfold rnum at h; injection h with h; subst h; exact hR
  | x :: r, n, a, R, hR, h => by
    rw [List.cons_append, rnum]
    rw [rnum] at h
    split at h
    · cases h
    · rename_i h1
      rw [if_neg h1]
      exact rnum_snoc c r _ a R hR h

theorem rnum_dec (u : Nat) : u ≤ 9223372036854775808 → rnum 0 (Lib.decDigits u) = some u := by
  induction u using Nat.strongRecOn with
  | ind u ih =>
    intro hu
    by_cases h : u < 10
    · rw [Lib.decDigits_one h]
      unfold rnum
      have := byte_toNat u h
      rw [this, if_neg (by omega), rnum]
      congr 1; omega
    · rw [dec_snoc h]
      refine rnum_snoc _ _ 0 (u / 10) _ ?_ (ih _ (by omega) (by omega))
      unfold rnum
      have := byte_toNat (u % 10) (by omega)
      rw [this, if_neg (by omega), rnum]
      congr 1; omega

theorem nDigits_le : ∀ (k u : Nat), u < 10 ^ (k + 1) → Lib.nDigits u ≤ k + 1
  | 0, u, h => by rw [Lib.nDigits_small (by simpa using h)]; omega
  | k + 1, u, h => by
    by_cases h10 : u < 10
    · rw [Lib.nDigits_small h10]; omega
    · rw [Lib.nDigits_big h10]
      have : u / 10 < 10 ^ (k + 1) := by rw [Nat.pow_succ] at h; omega
      have := nDigits_le k (u / 10) this
      omega

theorem itoa_len20 (v : Int) (h0 : -9223372036854775808 ≤ v) (h1 : v ≤ 9223372036854775807) : (Lib.itoa v).length ≤ 20 ∧ (Lib.itoa v).length ≠ 0 := by
  unfold Lib.itoa
  have hn : ∀ u : Nat, u ≤ 9223372036854775808 → Lib.nDigits u ≤ 19 := fun u hu => nDigits_le 18 u (by omega)
  split
  · have := hn v.natAbs (by omega)
    rw [List.length_cons, Lib.decDigits_length]; omega
  · have := hn v.toNat (by omega)
    have := Lib.nDigits_pos v.toNat
    rw [Lib.decDigits_length]; omega

theorem rnumber_itoa (v : Int) (h0 : -9223372036854775808 ≤ v) (h1 : v ≤ 9223372036854775807) : rnumber (Lib.itoa v) = some v := by
  have hl := itoa_len20 v h0 h1
  unfold rnumber
  rw [if_neg (by omega)]
  by_cases hv : v < 0
  · have e : Lib.itoa v = 45 :: Lib.decDigits v.natAbs := by unfold Lib.itoa; rw [if_pos hv]
    have en : isNeg (Lib.itoa v) = true := by rw [e]; rfl
    have et : (Lib.itoa v).tail = Lib.decDigits v.natAbs := by rw [e]; rfl
    have ev : rval true v.natAbs = v := by
      by_cases hm : v = -9223372036854775808
      · subst hm; decide
      · have hs : sgn v.natAbs = (v.natAbs : Int) := by unfold sgn; rw [if_pos (by omega)]
        unfold rval neg64
        rw [if_pos rfl, hs, if_neg (by omega)]; omega
    rw [en, if_pos rfl, et, rnum_dec _ (by omega)]
    simp only [ev, if_pos]
  · have e : Lib.itoa v = Lib.decDigits v.toNat := by unfold Lib.itoa; rw [if_neg hv]
    obtain ⟨c, r, hc, hc1, hc2⟩ := dec_cons v.toNat
    have en : isNeg (Lib.itoa v) = false := by
      rw [e, hc]
      simp [isNeg]
      rintro rfl
      revert hc1; decide
    have ev : rval false v.toNat = v := by
      unfold rval sgn
      simp only [Bool.false_eq_true, if_false]
      rw [if_pos (by omega)]; omega
    rw [en]
    simp only [Bool.false_eq_true, if_false]
    have e2 := rnum_dec v.toNat (by omega)
    rw [← e] at e2
    rw [e2]
    simp only [ev, if_pos]

theorem rval_range (b : Bool) (n : Nat) (h : n < 18446744073709551616) : -9223372036854775808 ≤ rval b n ∧ rval b n ≤ 9223372036854775807 := by
  unfold rval neg64 sgn
  split <;> (repeat' split) <;> omega

theorem rnumber_iff (w : Bs) (v : Int) : rnumber w = some v ↔ (-9223372036854775808 ≤ v ∧ v ≤ 9223372036854775807) ∧ Lib.itoa v = w := by
  constructor
  · intro h
    unfold rnumber at h
    split at h
    · cases h
    · split at h
      · cases h
      · rename_i n hn
        split at h
        · rename_i he
          injection h with h
          subst h
          exact ⟨rval_range _ n (rnum_lt _ 0 n (by decide) hn), he⟩
        · cases h
  · rintro ⟨⟨h0, h1⟩, rfl⟩
    exact rnumber_itoa v h0 h1

/-- the reference's number is the program's. -/
theorem rnumber_eq (w : Bs) : rnumber w = numW w := by
  cases h : numW w with
  | none =>
    cases h2 : rnumber w with
    | none => rfl
    | some v => rw [(numW_iff w v).2 ((rnumber_iff w v).1 h2)] at h; cases h
  | some v => exact (rnumber_iff w v).2 ((numW_iff w v).1 h)

/-! ### the reference's digit -/
def rdigit (c : UInt8) : Int := if 48 ≤ c.toNat ∧ c.toNat ≤ 57 then (c.toNat : Int) - 48 else if 97 ≤ c.toNat ∧ c.toNat ≤ 102 then (c.toNat : Int) - 97 + 10 else -1
theorem rdigit_eq (c : UInt8) : rdigit c = Lib.indexByte digs c := by
  have h : ∀ n : Fin 256, rdigit (UInt8.ofNat n.val) = Lib.indexByte digs (UInt8.ofNat n.val) := by decide +kernel
  have h1 := h ⟨c.toNat, c.toNat_lt⟩
  simpa using h1

/-! ### bytes there and back -/
theorem unhex_hexL : ∀ b : Bs, unhex (hexL b) = some b
  | [] => rfl
  | x :: r => by
    have hd : ∀ n : Fin 16, Lib.indexByte digs (digit n.val) = ((n.val : Nat) : Int) := by decide +kernel
    have h1 := hd ⟨x.toNat / 16, by have := x.toNat_lt; omega⟩
    have h2 := hd ⟨x.toNat % 16, by omega⟩
    dsimp only at h1 h2
    rw [hexL, unhex, h1, h2, if_neg (by omega), unhex_hexL r]
    have e : UInt8.ofNat (16 * ((x.toNat / 16 : Nat) : Int).toNat + ((x.toNat % 16 : Nat) : Int).toNat) = x := by
      rw [Int.toNat_natCast, Int.toNat_natCast, show 16 * (x.toNat / 16) + x.toNat % 16 = x.toNat by omega]
      simp
    rw [e]

theorem hexL_not : ∀ (b : Bs) (c : UInt8), c ∈ hexL b → c ∈ digs
  | [], c, h => by simp [hexL] at h
  | x :: r, c, h => by
    have hd : ∀ n : Fin 16, digit n.val ∈ digs := by decide +kernel
    unfold hexL at h
    rcases List.mem_cons.1 h with rfl | h
    · exact hd ⟨x.toNat / 16, by have := x.toNat_lt; omega⟩
    · rcases List.mem_cons.1 h with rfl | h
      · exact hd ⟨x.toNat % 16, by omega⟩
      · exact hexL_not r c h

theorem bytesW_hexB (b : Bs) : bytesW (hexB b).data.toList = some b := by
  unfold hexB
  by_cases hb : b = []
  · subst hb; rw [if_pos rfl]; rfl
  · rw [if_neg hb]
    show bytesW (hexL b) = some b
    cases b with
    | nil => exact absurd rfl hb
    | cons x r =>
      have hu := unhex_hexL (x :: r)
      unfold bytesW
      rw [if_neg (by rw [hexL]; simp), if_neg (by rw [hexL]; simp)]
      exact hu
end Scr
end Go.Proofs.YtkcgijidgppeiaaDoor
