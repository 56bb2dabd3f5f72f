/- Walks over the small makers of a new state. -/
import Derived.Test.YtlcojhddnpmgmaaGreatBase
import Derived.Outline
namespace Go.Proofs.YtlcojhddnpmgmaaGreat
open Go.RowKit

theorem once_new (w : World) : Calls Tryz.prog 44 #[] w fun e w' => e = .returned (.pointer (some ⟨w.heap.size, 0, none⟩)) ∧ w' = w.alloc (.cells #[.pointer none, .pointer none, .pointer none, .pointer none, .bool true] 152) := by
  go_enter Tryz.func44, Tryz.ntmps44
  go_wp2
  go_ret
  exact ⟨rfl, rfl⟩
theorem tokens_new (w : World) : Calls Tryz.prog 46 #[] w fun e w' => e = .returned (.pointer (some ⟨w.heap.size, 0, none⟩)) ∧ w' = w.alloc (.cells #[.bool true, .slice none 0 0] 155) := by
  go_enter Tryz.func46, Tryz.ntmps46
  go_wp2
  go_ret
  exact ⟨rfl, rfl⟩
theorem blocks_new (w : World) : Calls Tryz.prog 132 #[] w fun e w' => e = .returned (.pointer (some ⟨w.heap.size, 0, none⟩)) ∧ w' = w.alloc (.cells #[.bool true, .int .i64 0, .slice none 0 0] 135) := by
  go_enter Tryz.func132, Tryz.ntmps132
  go_wp2
  go_ret
  exact ⟨rfl, rfl⟩
theorem directory_ (n : Int) (s : ByteArray) (w : World) : Calls Tryz.prog 81 #[.int .i64 n, .string s] w fun e w' => e = .returned (.pointer (some ⟨w.heap.size + 1, 0, none⟩)) ∧ w' = (w.alloc (.map #[] 0)).alloc (.cells #[.int .i64 n, .string s, .bool true, .map (some w.heap.size)] 141) := by
  have hmm := @run_makeMap Tryz.prog
  go_enter Tryz.func81, Tryz.ntmps81
  go_wp2
  go_ret
  exact ⟨rfl, rfl⟩

theorem heap_size_alloc (w : World) (o : Obj) : (w.alloc o).heap.size = w.heap.size + 1 := by simp
/-- where a state's parts lie. -/
structure Loc where
  s : Nat
  win : Nat
  tr : Nat
  tk : Nat
  fl : Nat
  us : Nat
  th : Nat
  root : Nat
  rin : Nat
/-- what a state holds: how often a request was done, the first client's row, the tree's things, the root's names, the files. -/
structure Con where
  clock : Int
  row : Value
  ths : Array MapEntry
  tc : Nat
  ins : Array MapEntry
  ic : Nat
  fls : Array MapEntry
  fc : Nat
structure At (w : World) (L : Loc) (C : Con) : Prop where
  s : w.heap[L.s]? = some (.cells #[.int .i64 0, .int .i64 0, .int .i64 C.clock, .int .i64 0, .int .i64 0, .int .i64 0, .int .i64 0, .int .i64 0, .pointer (some ⟨L.win, 0, none⟩), .pointer (some ⟨L.tr, 0, none⟩), .pointer (some ⟨L.tk, 0, none⟩), .map (some L.fl), .map (some L.us)] 104 (0, 0))
  win : w.heap[L.win]? = some (.cells #[C.row, .pointer none, .pointer none, .pointer none, .bool true] 152 (0, 0))
  tr : w.heap[L.tr]? = some (.cells #[.map (some L.th)] 132 (0, 0))
  tk : w.heap[L.tk]? = some (.cells #[.bool true, .slice none 0 0] 155 (0, 0))
  th : w.heap[L.th]? = some (.map C.ths C.tc)
  root : w.heap[L.root]? = some (.cells #[.int .i64 0, .string ⟨#[]⟩, .bool true, .map (some L.rin)] 141 (0, 0))
  rin : w.heap[L.rin]? = some (.map C.ins C.ic)
  fl : w.heap[L.fl]? = some (.map C.fls C.fc)
  ne : L.th ≠ L.rin ∧ L.th ≠ L.fl ∧ L.rin ≠ L.fl
theorem At.no {w w' : World} {L : Loc} {C : Con} (h : At w L C) (f : Fr No w w') : At w' L C :=
  ⟨f.block_of h.s id, f.block_of h.win id, f.block_of h.tr id, f.block_of h.tk id, f.block_of h.th id, f.block_of h.root id, f.block_of h.rin id, f.block_of h.fl id, h.ne⟩

set_option maxRecDepth 100000 in
set_option maxHeartbeats 400000 in
theorem tree_new (w : World) : Calls Tryz.prog 45 #[] w fun e w' => ∃ tr th root rin : Nat, e = .returned (.pointer (some ⟨tr, 0, none⟩)) ∧ Fr No w w' ∧ w.heap.size ≤ tr ∧ w.heap.size ≤ th ∧ w.heap.size ≤ rin ∧ th ≠ rin ∧
    w'.heap[tr]? = some (.cells #[.map (some th)] 132 (0, 0)) ∧ w'.heap[th]? = some (.map #[{ key := .int .i64 1, val := .pointer (some ⟨root, 0, none⟩), born := 0 }] 1) ∧
    w'.heap[root]? = some (.cells #[.int .i64 0, .string ⟨#[]⟩, .bool true, .map (some rin)] 141 (0, 0)) ∧ w'.heap[rin]? = some (.map #[] 0) := by
  have hmm := @run_makeMap Tryz.prog
  go_enter Tryz.func45, Tryz.ntmps45
  go_wp2_with fail
  refine (directory_ _ _ _).mono ?_; rintro e w1 ⟨rfl, rfl⟩
  have k0 : (((w.alloc (.map #[] 0)).alloc (.map #[] 0)).alloc (.cells #[.int .i64 0, .string ⟨#[]⟩, .bool true, .map (some (w.heap.size + 1))] 141)).heap[w.heap.size]? = some (.map #[] 0) :=
    ((((Fr.refl (S := No) (w.alloc (.map #[] 0))).alloc _).alloc _).block_of (new_at w _) id)
  have k1 : (((w.alloc (.map #[] 0)).alloc (.map #[] 0)).alloc (.cells #[.int .i64 0, .string ⟨#[]⟩, .bool true, .map (some (w.heap.size + 1))] 141)).heap[w.heap.size + 1]? = some (.map #[] 0) :=
    (((Fr.refl (S := No) ((w.alloc (.map #[] 0)).alloc (.map #[] 0))).alloc _).block_of (by simpa using new_at (w.alloc (.map #[] 0)) (.map #[] 0)) id)
  have k2 : (((w.alloc (.map #[] 0)).alloc (.map #[] 0)).alloc (.cells #[.int .i64 0, .string ⟨#[]⟩, .bool true, .map (some (w.heap.size + 1))] 141)).heap[w.heap.size + 1 + 1]? = some (.cells #[.int .i64 0, .string ⟨#[]⟩, .bool true, .map (some (w.heap.size + 1))] 141 (0, 0)) := by
    simpa using new_at ((w.alloc (.map #[] 0)).alloc (.map #[] 0)) (.cells #[.int .i64 0, .string ⟨#[]⟩, .bool true, .map (some (w.heap.size + 1))] 141)
  have F : Fr No w (((w.alloc (.map #[] 0)).alloc (.map #[] 0)).alloc (.cells #[.int .i64 0, .string ⟨#[]⟩, .bool true, .map (some (w.heap.size + 1))] 141)) := (((Fr.refl w).alloc _).alloc _).alloc _
  have hsz : (((w.alloc (.map #[] 0)).alloc (.map #[] 0)).alloc (.cells #[.int .i64 0, .string ⟨#[]⟩, .bool true, .map (some (w.heap.size + 1))] 141)).heap.size = w.heap.size + 1 + 1 + 1 := by simp
  obtain ⟨w9, hu, f9, k9⟩ := map_add (P := Tryz.prog) 130 3 142 w.heap.size 0 #[] (.int .i64 1) (.pointer (some ⟨w.heap.size + 1 + 1, 0, none⟩)) Tryz.underlying130 Tryz.underlying3 (by simp [MapKept.IsKey]) k0 rfl
  have K1 := Lib.hid (f9.block_of k1 (by omega))
  have K2 := Lib.hid (f9.block_of k2 (by omega))
  have K9 := Lib.hid k9
  have F9 : Fr No w w9 := F.trans f9 (fun j hj e => by omega)
  clear k0 k1 k2 k9
  go_wp2_with fail
  go_ret
  have kt := new_at w9 (.cells #[.map (some w.heap.size)] 132)
  have fz : Fr No w9 (w9.alloc (.cells #[.map (some w.heap.size)] 132)) := (Fr.refl w9).alloc _
  have hs := F9.size
  exact ⟨w9.heap.size, w.heap.size, w.heap.size + 1 + 1, w.heap.size + 1, rfl, F9.trans fz (fun _ _ e => e), hs, Nat.le_refl _, by omega, by omega, kt, fz.block_of K9.out id, fz.block_of K2.out id, fz.block_of K1.out id⟩

def newCon (root : Nat) : Con := ⟨0, .pointer none, #[{ key := .int .i64 1, val := .pointer (some ⟨root, 0, none⟩), born := 0 }], 1, #[], 0, #[], 0⟩

set_option maxRecDepth 100000 in
set_option maxHeartbeats 400000 in
theorem state_new (w : World) : Calls Tryz.prog 14 #[] w fun e w' => ∃ L : Loc, e = .returned (.pointer (some ⟨L.s, 0, none⟩)) ∧ Fr No w w' ∧ At w' L (newCon L.root) ∧ (w.heap.size ≤ L.s ∧ w.heap.size ≤ L.win ∧ w.heap.size ≤ L.th ∧ w.heap.size ≤ L.rin ∧ w.heap.size ≤ L.fl) := by
  have hmm := @run_makeMap Tryz.prog
  go_enter Tryz.func14, Tryz.ntmps14
  go_wp2_with fail
  refine (once_new _).mono ?_; rintro e w1 ⟨rfl, rfl⟩
  go_wp2_with fail
  refine (tree_new _).mono ?_; rintro e w2 ⟨tr, th, root, rin, rfl, f2, htr, hth, hrin, hne, ktr, kth, kroot, krin⟩
  have HN := Lib.hid hne
  have KTR := Lib.hid ktr
  have KTH := Lib.hid kth
  have KRO := Lib.hid kroot
  have KRI := Lib.hid krin
  have KW := Lib.hid (f2.block_of (new_at w (.cells #[.pointer none, .pointer none, .pointer none, .pointer none, .bool true] 152)) id)
  have F2 : Fr No w w2 := ((Fr.refl w).alloc _).trans f2 (fun _ _ e => e)
  clear hne ktr kth kroot krin
  go_wp2_with fail
  refine (tokens_new _).mono ?_; rintro e w3 ⟨rfl, rfl⟩
  have KT := Lib.hid (new_at w2 (.cells #[.bool true, .slice none 0 0] 155))
  go_wp2_with fail
  go_ret
  have s1 := f2.size
  simp only [heap_size_alloc] at s1 htr hth hrin
  have e1 : ((w2.alloc (.cells #[.bool true, .slice none 0 0] 155)).alloc (.map #[] 0)).heap.size = w2.heap.size + 1 + 1 := by simp
  have e2 : (((w2.alloc (.cells #[.bool true, .slice none 0 0] 155)).alloc (.map #[] 0)).alloc (.map #[] 0)).heap.size = w2.heap.size + 1 + 1 + 1 := by simp
  have G1 : Fr No (w2.alloc (.cells #[.bool true, .slice none 0 0] 155)) ((((w2.alloc (.cells #[.bool true, .slice none 0 0] 155)).alloc (.map #[] 0)).alloc (.map #[] 0)).alloc (.cells #[.int .i64 0, .int .i64 0, .int .i64 0, .int .i64 0, .int .i64 0, .int .i64 0, .int .i64 0, .int .i64 0, .pointer (some ⟨w.heap.size, 0, none⟩), .pointer (some ⟨tr, 0, none⟩), .pointer (some ⟨w2.heap.size, 0, none⟩), .map (some (w2.heap.size + 1)), .map (some (w2.heap.size + 1 + 1))] 104)) := (((Fr.refl _).alloc _).alloc _).alloc _
  have G0 : Fr No w2 ((((w2.alloc (.cells #[.bool true, .slice none 0 0] 155)).alloc (.map #[] 0)).alloc (.map #[] 0)).alloc (.cells #[.int .i64 0, .int .i64 0, .int .i64 0, .int .i64 0, .int .i64 0, .int .i64 0, .int .i64 0, .int .i64 0, .pointer (some ⟨w.heap.size, 0, none⟩), .pointer (some ⟨tr, 0, none⟩), .pointer (some ⟨w2.heap.size, 0, none⟩), .map (some (w2.heap.size + 1)), .map (some (w2.heap.size + 1 + 1))] 104)) := ((((Fr.refl _).alloc _).alloc _).alloc _).alloc _
  have k1 := new_at (((w2.alloc (.cells #[.bool true, .slice none 0 0] 155)).alloc (.map #[] 0)).alloc (.map #[] 0)) (.cells #[.int .i64 0, .int .i64 0, .int .i64 0, .int .i64 0, .int .i64 0, .int .i64 0, .int .i64 0, .int .i64 0, .pointer (some ⟨w.heap.size, 0, none⟩), .pointer (some ⟨tr, 0, none⟩), .pointer (some ⟨w2.heap.size, 0, none⟩), .map (some (w2.heap.size + 1)), .map (some (w2.heap.size + 1 + 1))] 104)
  rw [e2] at k1
  have lth := lt_of_block KTH.out
  have lri := lt_of_block KRI.out
  have k2 : ((w2.alloc (.cells #[.bool true, .slice none 0 0] 155)).alloc (.map #[] 0)).heap[w2.heap.size + 1]? = some (.map #[] 0) := by simpa using new_at (w2.alloc (.cells #[.bool true, .slice none 0 0] 155)) (.map #[] 0)
  exact ⟨⟨w2.heap.size + 1 + 1 + 1, w.heap.size, tr, w2.heap.size, w2.heap.size + 1, w2.heap.size + 1 + 1, th, root, rin⟩, rfl, F2.trans G0 (fun _ _ e => e), ⟨k1, G0.block_of KW.out id, G0.block_of KTR.out id, G1.block_of KT.out id, G0.block_of KTH.out id, G0.block_of KRO.out id, G0.block_of KRI.out id,
    (((Fr.refl (S := No) _).alloc _).alloc _).block_of k2 id, HN.out, by show th ≠ w2.heap.size + 1; omega, by show rin ≠ w2.heap.size + 1; omega⟩, by show w.heap.size ≤ w2.heap.size + 1 + 1 + 1; omega, Nat.le_refl _, by show w.heap.size ≤ th; omega, by show w.heap.size ≤ rin; omega, by show w.heap.size ≤ w2.heap.size + 1; omega⟩
end Go.Proofs.YtlcojhddnpmgmaaGreat
