/- A reply's bytes: what the steps write. Walked. -/
import Derived.Test.YtlcojhddnpmgmaaGreatN
import Derived.Test.YtlcojhddnpmgmaaGreatJ
namespace Go.Proofs.YtlcojhddnpmgmaaGreat
open Go.RowKit

theorem pf_trans {w w1 w2 : World} {p base : Nat} (f : Fr (Pf w p base) w w1) (g : Fr (Pf w1 p base) w1 w2) : Fr (Pf w p base) w w2 :=
  f.trans g (fun j hj e => Classical.byContradiction fun hn => hn (by
    rcases e with e | ⟨hb, cur, fz, e⟩
    · exact .inl e
    · exact .inr ⟨hb, cur, fz, by rw [← f.block j hj hn]; exact e⟩))
theorem nmust_yes (e : Int) (w : World) : Calls Tryz.prog 106 #[.bool true, .int .i64 e] w fun e w' => e = .returned (.tuple #[]) ∧ w' = w := by
  go_enter Tryz.func106, Tryz.ntmps106
  go_wp2
  go_end0
  exact ⟨rfl, rfl⟩

/-- the bytes of a small reply. -/
def repB (e n : Nat) : List UInt8 := [UInt8.ofNat e, 0, UInt8.ofNat n, 0, 0, 0, 0, 0, 0, 0, 0, 0, 0, 0]

set_option maxRecDepth 100000 in
set_option maxHeartbeats 3200000 in
theorem steps_ (p base rb : Nat) (e n : Nat) (he : e < 256) (hn : n < 256) (w : World) (h : Pn w p base []) (hr : w.heap[rb]? = some (.cells (rep e n) 29 (0, 0))) (hne : rb ≠ p) :
    Calls Tryz.prog 163 #[.pointer (some ⟨p, 0, none⟩), .pointer (some ⟨rb, 0, none⟩)] w fun x w' => x = .returned (.tuple #[]) ∧ Pn w' p base (repB e n) ∧ Fr (Pf w p base) w w' := by
  have H0 := Lib.hid h
  have R0 := Lib.hid hr
  have F0 : Fr (Pf w p base) w w := Fr.refl w
  obtain ⟨c0, c1, c2, c3, c4, c5, c6, c7⟩ := rows8 hr
  clear h hr
  go_enter Tryz.func163, Tryz.ntmps163
  go_wp2_with fail
  refine (nmust_yes _ _).mono ?_
  rintro e' w' ⟨rfl, rfl⟩
  go_wp2_with fail
  refine (num1 p base ([]) e he _ H0.out (by simp)).mono ?_
  rintro e' w1 ⟨rfl, h1, f1⟩
  have H1 : Hid (Pn w1 p base [UInt8.ofNat e]) := Lib.hid (by simpa using h1)
  have F1 := pf_trans F0 f1
  have R1 := Lib.hid (pf_of f1 R0.out (by decide) hne)
  clear h1 f1 c0 c1 c2 c3 c4 c5 c6 c7
  obtain ⟨c0, c1, c2, c3, c4, c5, c6, c7⟩ := rows8 R1.out
  go_wp2_with fail
  refine (num2 p base ([UInt8.ofNat e]) n hn _ H1.out (by simp)).mono ?_
  rintro e' w2 ⟨rfl, h2, f2⟩
  have H2 : Hid (Pn w2 p base [UInt8.ofNat e, 0, UInt8.ofNat n]) := Lib.hid (by simpa using h2)
  have F2 := pf_trans F1 f2
  have R2 := Lib.hid (pf_of f2 R1.out (by decide) hne)
  clear h2 f2 c0 c1 c2 c3 c4 c5 c6 c7
  obtain ⟨c0, c1, c2, c3, c4, c5, c6, c7⟩ := rows8 R2.out
  go_wp2_with fail
  refine (num2 p base ([UInt8.ofNat e, 0, UInt8.ofNat n]) 0 (by decide) _ H2.out (by simp)).mono ?_
  rintro e' w3 ⟨rfl, h3, f3⟩
  have H3 : Hid (Pn w3 p base [UInt8.ofNat e, 0, UInt8.ofNat n, 0, 0]) := Lib.hid (by simpa using h3)
  have F3 := pf_trans F2 f3
  have R3 := Lib.hid (pf_of f3 R2.out (by decide) hne)
  clear h3 f3 c0 c1 c2 c3 c4 c5 c6 c7
  obtain ⟨c0, c1, c2, c3, c4, c5, c6, c7⟩ := rows8 R3.out
  go_wp2_with fail
  refine (num1 p base ([UInt8.ofNat e, 0, UInt8.ofNat n, 0, 0]) 0 (by decide) _ H3.out (by simp)).mono ?_
  rintro e' w4 ⟨rfl, h4, f4⟩
  have H4 : Hid (Pn w4 p base [UInt8.ofNat e, 0, UInt8.ofNat n, 0, 0, 0]) := Lib.hid (by simpa using h4)
  have F4 := pf_trans F3 f4
  have R4 := Lib.hid (pf_of f4 R3.out (by decide) hne)
  clear h4 f4 c0 c1 c2 c3 c4 c5 c6 c7
  obtain ⟨c0, c1, c2, c3, c4, c5, c6, c7⟩ := rows8 R4.out
  go_wp2_with fail
  refine (num3 p base ([UInt8.ofNat e, 0, UInt8.ofNat n, 0, 0, 0]) 0 (by decide) _ H4.out (by simp)).mono ?_
  rintro e' w5 ⟨rfl, h5, f5⟩
  have H5 : Hid (Pn w5 p base [UInt8.ofNat e, 0, UInt8.ofNat n, 0, 0, 0, 0, 0, 0]) := Lib.hid (by simpa using h5)
  have F5 := pf_trans F4 f5
  have R5 := Lib.hid (pf_of f5 R4.out (by decide) hne)
  clear h5 f5 c0 c1 c2 c3 c4 c5 c6 c7
  obtain ⟨c0, c1, c2, c3, c4, c5, c6, c7⟩ := rows8 R5.out
  go_wp2_with fail
  refine (bool0 p base ([UInt8.ofNat e, 0, UInt8.ofNat n, 0, 0, 0, 0, 0, 0]) _ H5.out (by simp)).mono ?_
  rintro e' w6 ⟨rfl, h6, f6⟩
  have H6 : Hid (Pn w6 p base [UInt8.ofNat e, 0, UInt8.ofNat n, 0, 0, 0, 0, 0, 0, 0]) := Lib.hid (by simpa using h6)
  have F6 := pf_trans F5 f6
  have R6 := Lib.hid (pf_of f6 R5.out (by decide) hne)
  clear h6 f6 c0 c1 c2 c3 c4 c5 c6 c7
  obtain ⟨c0, c1, c2, c3, c4, c5, c6, c7⟩ := rows8 R6.out
  go_wp2_with fail
  refine (num2 p base ([UInt8.ofNat e, 0, UInt8.ofNat n, 0, 0, 0, 0, 0, 0, 0]) 0 (by decide) _ H6.out (by simp)).mono ?_
  rintro e' w7 ⟨rfl, h7, f7⟩
  have H7 : Hid (Pn w7 p base [UInt8.ofNat e, 0, UInt8.ofNat n, 0, 0, 0, 0, 0, 0, 0, 0, 0]) := Lib.hid (by simpa using h7)
  have F7 := pf_trans F6 f7
  have R7 := Lib.hid (pf_of f7 R6.out (by decide) hne)
  clear h7 f7 c0 c1 c2 c3 c4 c5 c6 c7
  obtain ⟨c0, c1, c2, c3, c4, c5, c6, c7⟩ := rows8 R7.out
  go_wp2_with fail
  refine wp_loop_rounds 1 ?_; rw [rounds_succ]
  go_wp2_with fail
  refine (raw0 p base ([UInt8.ofNat e, 0, UInt8.ofNat n, 0, 0, 0, 0, 0, 0, 0, 0, 0]) _ H7.out (by simp)).mono ?_
  rintro e' w8 ⟨rfl, h8, f8⟩
  have H8 : Hid (Pn w8 p base [UInt8.ofNat e, 0, UInt8.ofNat n, 0, 0, 0, 0, 0, 0, 0, 0, 0, 0, 0]) := Lib.hid (by simpa using h8)
  have F8 := pf_trans F7 f8
  have R8 := Lib.hid (pf_of f8 R7.out (by decide) hne)
  clear h8 f8 c0 c1 c2 c3 c4 c5 c6 c7
  obtain ⟨c0, c1, c2, c3, c4, c5, c6, c7⟩ := rows8 R8.out
  go_wp2_with fail
  go_end0
  exact ⟨rfl, H8.out, F8⟩
end Go.Proofs.YtlcojhddnpmgmaaGreat
