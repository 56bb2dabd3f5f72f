/- Reading a reply. Walked. -/
import Derived.Test.YtlcojhddnpmgmaaGreatZj
import Derived.Outline
namespace Go.Proofs.YtlcojhddnpmgmaaGreat
open Go.RowKit

/-- a reply that was read of the bytes that a new file's reply is. -/
def Was (rb : Nat) (w w' : World) : Prop := ∃ v' b' c', SlIs w' v' [] b' 0 c' ∧ w'.heap[rb]? = some (.cells #[.int .i64 0, .int .i64 2, .int .i64 0, .int .i64 0, .int .i64 0, .bool false, .slice none 0 0, v'] 29 (0, 0)) ∧ Fr (fun k => k = rb) w w'

set_option maxRecDepth 100000 in
theorem read1_ (p q rb : Nat) (v : Value) (b off c : Nat) (w : World) (hp : w.heap[p]? = some (.cells #[v] 27 (0, 0))) (hq : w.heap[q]? = some (.cells #[.func (Fn.func 103) #[] #[.pointer (some ⟨rb, 0, none⟩)]] 172 (0, 0)))
    (hr : w.heap[rb]? = some (.cells #[.int .i64 0, .int .i64 0, .int .i64 0, .int .i64 0, .int .i64 0, .bool false, .slice none 0 0, .slice none 0 0] 29 (0, 0))) (h : SlIs w v (repB 0 2) b off c) :
    Calls Tryz.prog 150 #[.pointer (some ⟨p, 0, none⟩), .pointer (some ⟨q, 0, none⟩)] w fun x w' => x = .returned (.tuple #[]) ∧ Was rb w w' := by
  have c1 : w.cell? ⟨p, 0, none⟩ = some v := by rw [cell_at hp]; rfl
  have c2 : w.cell? ⟨q, 0, none⟩ = some (.func (Fn.func 103) #[] #[.pointer (some ⟨rb, 0, none⟩)]) := by rw [cell_at hq]; rfl
  have hrb := lt_of_block hr
  have HR := Lib.hid hr
  have HN := Lib.hid (neweye_ v (repB 0 2) b off c w h (by decide))
  clear hp hq hr
  go_enter Tryz.func150, Tryz.ntmps150
  go_wp2_with fail
  refine HN.out.mono ?_
  rintro x w1 ⟨e, b1, c1', rfl, e1, s1, hbe, hle, hlb, f1⟩
  have c2' := f1.cell_of c2 id
  have RD : Hid (Rd w1 w1 e b1 rb 0 14 c1' #[.int .i64 0, .int .i64 0, .int .i64 0, .int .i64 0, .int .i64 0, .bool false, .slice none 0 0, .slice none 0 0]) := Lib.hid ⟨e1, s1.2.1, f1.block_of HR.out id, fun j x hj => by simpa using s1.2.2.2 j x hj, hbe, by omega, by omega, s1.2.2.1, .inr rfl, Fr.refl _⟩
  have F1 := Lib.hid f1
  clear c1 c2 e1 s1 f1
  go_wp2_with fail
  refine (rsteps_ e b1 c1' rb w1 RD.out).mono ?_
  rintro x w2 ⟨rfl, v', b', c', o', c2, sl, e2, k2, f2⟩
  have SL := Lib.hid sl
  have E2 := Lib.hid e2
  have K2 := Lib.hid k2
  have F2 := Lib.hid ((F1.out.of_no (S := fun k => k = rb)).trans f2 (fun j hj h => by rcases h with h | h; omega; exact h))
  clear sl e2 k2 f2
  go_wp2_with fail
  refine (eend_ e b1 o' c2 w2 E2.out).mono ?_
  rintro x w3 ⟨rfl, f3⟩
  have F3 := Lib.hid f3
  clear f3
  go_wp2_with fail
  refine (eend_ e b1 o' c2 w3 (F3.out.block_of E2.out id)).mono ?_
  rintro x w4 ⟨rfl, f4⟩
  have F4 : Hid (Fr No w2 w4) := Lib.hid (F3.out.trans f4 (fun _ _ e => e))
  clear f4
  go_wp2_with fail
  refine (nmust_yes 0 w4).mono ?_
  rintro x w5 ⟨rfl, rfl⟩
  go_wp2_with fail
  exact bodyPost_end (v := .tuple #[]) (by simp [results, Tryz.results150, go_sem]) rfl ⟨rfl, v', b', c', ⟨SL.out.1, SL.out.2.1, Nat.lt_of_lt_of_le SL.out.2.2.1 F4.out.size, fun j y hj => by simp at hj⟩, F4.out.block_of K2.out id, F2.out.trans F4.out (fun _ _ e => e.elim)⟩
end Go.Proofs.YtlcojhddnpmgmaaGreat
