/- The statement ScriptParses, walked. -/
import Derived.Test.YtkcgijidgppeiaaDoorR9
import Derived.Test.YtkcgijidgppeiaaDoorP16
namespace Go.Proofs.YtkcgijidgppeiaaDoor
open Go.RowKit

theorem parse_few {text : ByteArray} {c : Scr.Cfg} {evs : List Scr.Ev} {n err : Int} (h : Scr.parse text = (c, evs, n, err)) : evs.length ≤ 2047 := by
  by_cases he : err = 0
  · subst he
    exact Scr.print_len (by rw [Scr.again h])
  · rw [Scr.parse_err h he]; simp

set_option maxRecDepth 100000 in
set_option maxHeartbeats 1600000 in
theorem parses_ (text : ByteArray) (w : World) (hg : Glob w) (hs : text.size ≤ 1048576) : Calls Tryd.prog 3 #[.string text] w fun e w' => e = .returned (.bool true) ∧ Fr No w w' := by
  go_enter Tryd.func3, Tryd.ntmps3
  go_wp2_with fail
  refine (awake_ w hg).mono ?_
  rintro e w1 ⟨rfl, f1⟩
  by_cases hbig : 70000 < text.size
  · have q : (70000 : Int) < (text.size : Int) := by omega
    have HP := Lib.hid (Scr.parse_long ((Scr.long_eq text).2 (.inl (by omega))))
    go_wp2_with fail
    refine (parse_ text _ (hg.no f1) (by omega)).mono ?_
    rintro e w3 ⟨c, evs, n, err, lv, hp, rfl, hc, hev, f3, hg3⟩
    rw [HP.out] at hp
    simp only [Prod.mk.injEq] at hp
    obtain ⟨rfl, rfl, rfl, rfl⟩ := hp
    have F3 : Fr No w w3 := f1.trans f3 (fun _ _ e => e)
    clear hev
    go_wp2_with fail
    go_ret
    exact ⟨rfl, F3.alloc _⟩
  · have q : ¬ (70000 : Int) < (text.size : Int) := by omega
    go_wp2_with fail
    refine (parse_ text _ (hg.no f1) (by omega)).mono ?_
    rintro e w3 ⟨c, evs, n, err, lv, hp, rfl, hc, hev, f3, hg3⟩
    have F3 : Fr No w w3 := f1.trans f3 (fun _ _ e => e)
    have HP := Lib.hid hp
    have hat := Lib.hid hev.at
    have hw8 := Lib.hid (hg.no F3).size
    clear hp hev
    go_wp2_with fail
    have FA : Fr No w3 (w3.alloc (.cells #[.int .i64 c.servers, .int .i64 c.clients, .int .i64 c.sectors, .int .i64 c.journal, .int .i64 c.tries] 24)) := (Fr.refl w3).alloc _
    have k7 := new_at w3 (.cells #[.int .i64 c.servers, .int .i64 c.clients, .int .i64 c.sectors, .int .i64 c.journal, .int .i64 c.tries] 24)
    refine (rparse_ text _ (Nat.le_trans hw8.out FA.size) hs).mono ?_
    rintro e w5 ⟨c', evs', n', err', lv', hp', rfl, hc', hat', f5⟩
    rw [HP.out] at hp'
    simp only [Prod.mk.injEq] at hp'
    obtain ⟨rfl, rfl, rfl, rfl⟩ := hp'
    have F5 : Fr No w3 w5 := FA.trans f5 (fun _ _ e => e)
    have k7b := f5.block_of k7 id
    obtain ⟨⟨p0, _⟩, ⟨p1, _⟩, ⟨p2, _⟩, ⟨p3, _⟩, ⟨p4, _⟩⟩ := rows5 k7b
    have HAT' := Lib.hid hat'
    clear k7 hat'
    have p0' : (w5.alloc (.cells #[.int .i64 c.servers, .int .i64 c.clients, .int .i64 c.sectors, .int .i64 c.journal, .int .i64 c.tries] 29)).cell? ⟨w3.heap.size, 0, none⟩ = some (.int .i64 c.servers) := ((Fr.refl (S := No) w5).alloc _).cell_of p0 id
    have p1' : (w5.alloc (.cells #[.int .i64 c.servers, .int .i64 c.clients, .int .i64 c.sectors, .int .i64 c.journal, .int .i64 c.tries] 29)).cell? ⟨w3.heap.size, 1, none⟩ = some (.int .i64 c.clients) := ((Fr.refl (S := No) w5).alloc _).cell_of p1 id
    have p2' : (w5.alloc (.cells #[.int .i64 c.servers, .int .i64 c.clients, .int .i64 c.sectors, .int .i64 c.journal, .int .i64 c.tries] 29)).cell? ⟨w3.heap.size, 2, none⟩ = some (.int .i64 c.sectors) := ((Fr.refl (S := No) w5).alloc _).cell_of p2 id
    have p3' : (w5.alloc (.cells #[.int .i64 c.servers, .int .i64 c.clients, .int .i64 c.sectors, .int .i64 c.journal, .int .i64 c.tries] 29)).cell? ⟨w3.heap.size, 3, none⟩ = some (.int .i64 c.journal) := ((Fr.refl (S := No) w5).alloc _).cell_of p3 id
    have p4' : (w5.alloc (.cells #[.int .i64 c.servers, .int .i64 c.clients, .int .i64 c.sectors, .int .i64 c.journal, .int .i64 c.tries] 29)).cell? ⟨w3.heap.size, 4, none⟩ = some (.int .i64 c.tries) := ((Fr.refl (S := No) w5).alloc _).cell_of p4 id
    have F6 : Fr No w3 (w5.alloc (.cells #[.int .i64 c.servers, .int .i64 c.clients, .int .i64 c.sectors, .int .i64 c.journal, .int .i64 c.tries] 29)) := F5.alloc _
    clear p0 p1 p2 p3 p4
    go_wp2_with fail
    refine (sameConfig_ _ _ _ _ _ _).mono ?_
    rintro e w7 ⟨rfl, f7⟩
    clear p0' p1' p2' p3' p4'
    go_wp2_with fail
    have F7 : Fr No w5 w7 := ((Fr.refl (S := No) w5).alloc _).trans f7 (fun _ _ e => e)
    have F8 : Fr No w3 w7 := F6.trans f7 (fun _ _ e => e)
    refine (same_ evs lv lv' _ (hat.out.no F8) (HAT'.out.no F7) (by have := parse_few HP.out; omega)).mono ?_
    rintro e w9 ⟨rfl, f9⟩
    go_wp2_with fail
    go_ret
    exact ⟨rfl, (F3.trans F8 (fun _ _ e => e)).trans f9 (fun _ _ e => e)⟩
end Go.Proofs.YtkcgijidgppeiaaDoor
