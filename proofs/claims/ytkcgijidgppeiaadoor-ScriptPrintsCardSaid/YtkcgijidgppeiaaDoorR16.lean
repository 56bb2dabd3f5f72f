/- The statement's room for events, walked. -/
import Derived.Test.YtkcgijidgppeiaaDoorR14
import Derived.BigQuiet
import Derived.Deep.QuietTactic
namespace Go.Proofs.YtkcgijidgppeiaaDoor
open Go.RowKit

def RoomOk (x : Scr.Ev) : Prop := x.b.length ≤ 300 ∧ x.op.path.length ≤ 300 ∧ x.op.to.length ≤ 300 ∧ x.op.b.length ≤ 5000
def RoomPost (w : World) (evs : List Scr.Ev) (e : Ending) (w' : World) : Prop := Fr No w w' ∧ (e = .returned (.bool false) ∨ (e = .returned (.bool true) ∧ evs.length ≤ 200 ∧ ∀ x ∈ evs, RoomOk x))
theorem room_no {w w' : World} {evs : List Scr.Ev} {e : Ending} (he : e = .returned (.bool false)) (f : Fr No w w') : RoomPost w evs e w' := ⟨f, .inl he⟩
theorem room_yes {w w' : World} {evs : List Scr.Ev} {e : Ending} (he : e = .returned (.bool true)) (f : Fr No w w') (h1 : evs.length ≤ 200) (h2 : ∀ x ∈ evs, RoomOk x) : RoomPost w evs e w' := ⟨f, .inr ⟨he, h1, h2⟩⟩

set_option maxRecDepth 100000 in
set_option maxHeartbeats 1600000 in
theorem room_ (evs : List Scr.Ev) (v : Value) (w : World) (hv : ArgEvs w v evs) : Calls Tryd.prog 11 #[v, .int .i64 200] w (RoomPost w evs) := by
  obtain ⟨a, cp, rfl, hcp, hcm, hev⟩ := hv
  have HEV := Lib.hid hev
  clear hev
  by_cases h200 : 200 < evs.length
  · have q : (200 : Int) < (evs.length : Int) := by omega
    go_enter Tryd.func11, Tryd.ntmps11
    go_wp2_with fail
    go_ret
    exact room_no rfl (Fr.refl _)
  · have q : ¬ (200 : Int) < (evs.length : Int) := by omega
    go_enter Tryd.func11, Tryd.ntmps11
    go_wp2_with fail
    go_loopw [5] (fun i wr => ∃ (j : Nat), i = .int .i64 j ∧ j ≤ evs.length ∧ (∀ x ∈ evs.take j, RoomOk x) ∧ Fr No w wr) (fun i _ => evs.length - (intOf i).toNat)
    case atStart => exact ⟨0, rfl, Nat.zero_le _, (fun x hx => by simp at hx), Fr.refl _⟩
    case round =>
      obtain ⟨j, rfl, hj, hall, fr⟩ := hrel
      have HALL := Lib.hid hall
      clear hall
      by_cases hlt : j < evs.length
      · have qlt : (j : Int) < (evs.length : Int) := by omega
        obtain ⟨b, off, rfl, hx⟩ : ∃ b off, a = some ⟨b, off, none⟩ ∧ ∃ oa ol oc va vl vc, EvW w evs[j] oa ol oc va vl vc ∧ w.rangeAt b (off + j * 13) (evCells evs[j] (.slice oa ol oc) (.slice va vl vc)).toList := by
          rcases HEV.out with h | ⟨b, off, rfl, hb, h⟩
          · rw [h] at hlt; simp at hlt
          · exact ⟨b, off, rfl, h j evs[j] (List.getElem?_eq_getElem hlt)⟩
        obtain ⟨oa, ol, oc, va, vl, vc, ⟨_, _, _, _, _, _, _, _, _, _, lp, lt, ⟨eo, lo⟩, ev, lv⟩, hr⟩ := hx
        have hrr : wr.rangeAt b (off + j * 13) (evCells evs[j] (.slice oa ol oc) (.slice va vl vc)).toList := fun i u hi => fr.cell_of (hr i u hi) id
        have c5 : wr.cell? ⟨b, off + j * 13 + 5, none⟩ = some (.string ⟨evs[j].op.path.toArray⟩) := hrr 5 _ rfl
        have c6 : wr.cell? ⟨b, off + j * 13 + 6, none⟩ = some (.string ⟨evs[j].op.to.toArray⟩) := hrr 6 _ rfl
        have c11 : wr.cell? ⟨b, off + j * 13 + 11, none⟩ = some (.slice oa ol oc) := hrr 11 _ rfl
        have c12 : wr.cell? ⟨b, off + j * 13 + 12, none⟩ = some (.slice va vl vc) := hrr 12 _ rfl
        generalize hxx : evs[j] = x at *
        have HXX := Lib.hid hxx
        have EO := Lib.hid eo
        have EV := Lib.hid ev
        clear hr hrr hxx eo ev
        go_wp2_with fail
        all_goals first
          | (go_ret; exact room_no rfl fr)
          | (refine ⟨⟨j + 1, by go_num, by omega, ?_, fr⟩, by simp [intOf]; omega⟩
             intro z hz
             rw [List.take_succ_eq_append_getElem hlt] at hz
             rcases List.mem_append.1 hz with hz | hz
             · exact HALL.out z hz
             · simp only [List.mem_singleton] at hz
               subst hz
               have e1 := EO.out
               have e2 := EV.out
               have e3 := HXX.out
               subst e3
               exact ⟨by omega, by omega, by omega, by omega⟩)
      · obtain rfl : j = evs.length := by omega
        rw [List.take_length] at HALL
        go_wp2_with fail
        go_ret
        exact room_yes rfl fr (by omega) HALL.out
end Go.Proofs.YtkcgijidgppeiaaDoor
