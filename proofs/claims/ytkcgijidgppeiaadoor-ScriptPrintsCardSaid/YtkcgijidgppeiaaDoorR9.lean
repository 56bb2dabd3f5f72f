/- The statement's comparisons of events and configurations, walked. -/
import Derived.Test.YtkcgijidgppeiaaDoorR8
import Derived.Deep.RegionHeld3
import Derived.StillTailTactics
namespace Go.Proofs.YtkcgijidgppeiaaDoor
open Go.RowKit

set_option maxHeartbeats 800000 in
theorem sameConfig_ (a b c d e : Int) (w : World) : Calls Tryd.prog 9 #[.agg #[.int .i64 a, .int .i64 b, .int .i64 c, .int .i64 d, .int .i64 e], .agg #[.int .i64 a, .int .i64 b, .int .i64 c, .int .i64 d, .int .i64 e]] w fun x w' => x = .returned (.bool true) ∧ Fr No w w' := by
  go_enter Tryd.func9, Tryd.ntmps9
  go_wp2_with fail
  go_ret
  exact ⟨rfl, ((Fr.refl _).alloc _).alloc _⟩

def opCells (o : Scr.OpS) (v : Value) : Array Value := #[.int .i64 o.kind, .string ⟨o.path.toArray⟩, .string ⟨o.to.toArray⟩, .int .i64 o.handle, .int .i64 o.pos, .int .i64 o.n, .bool o.writes, v]

set_option maxRecDepth 100000 in
set_option maxHeartbeats 1600000 in
theorem sameOp_ (o : Scr.OpS) (sa sb : Option Addr) (la ca lb cb : Nat) (w : World) (ha : SlAt w (.slice sa la ca) o.b) (hb : SlAt w (.slice sb lb cb) o.b) :
    Calls Tryd.prog 48 #[.agg (opCells o (.slice sa la ca)), .agg (opCells o (.slice sb lb cb))] w fun x w' => x = .returned (.bool true) ∧ Fr No w w' := by
  have F : Fr No w ((w.alloc (.cells (opCells o (.slice sa la ca)) 45)).alloc (.cells (opCells o (.slice sb lb cb)) 45)) := ((Fr.refl _).alloc _).alloc _
  have h1 := run_convert_sl _ _ _ (ha.fr F (fun _ _ _ _ e => e))
  have h2 := run_convert_sl _ _ _ (hb.fr F (fun _ _ _ _ e => e))
  have HF := Lib.hid F
  clear F ha hb
  unfold opCells at *
  go_enter Tryd.func48, Tryd.ntmps48
  go_wp2_with fail
  go_ret
  exact ⟨rfl, HF.out⟩

set_option maxRecDepth 100000 in
set_option maxHeartbeats 1600000 in
theorem sameEvent_ (x : Scr.Ev) (oa va ob vb : Option Addr) (ol oc vl vc pl pc ql qc : Nat) (w : World) (ha : SlAt w (.slice oa ol oc) x.op.b) (hb : SlAt w (.slice ob pl pc) x.op.b) (hc : SlAt w (.slice va vl vc) x.b) (hd : SlAt w (.slice vb ql qc) x.b) :
    Calls Tryd.prog 25 #[.agg (evCells x (.slice oa ol oc) (.slice va vl vc)), .agg (evCells x (.slice ob pl pc) (.slice vb ql qc))] w fun e w' => e = .returned (.bool true) ∧ Fr No w w' := by
  have F : Fr No w ((w.alloc (.cells (evCells x (.slice oa ol oc) (.slice va vl vc)) 47)).alloc (.cells (evCells x (.slice ob pl pc) (.slice vb ql qc)) 47)) := ((Fr.refl _).alloc _).alloc _
  have h1 := run_convert_sl _ _ _ (hc.fr F (fun _ _ _ _ e => e))
  have h2 := run_convert_sl _ _ _ (hd.fr F (fun _ _ _ _ e => e))
  have HA := Lib.hid (ha.fr F (fun _ _ _ _ e => e))
  have HB := Lib.hid (hb.fr F (fun _ _ _ _ e => e))
  have HF := Lib.hid F
  clear F ha hb hc hd
  unfold evCells at *
  go_enter Tryd.func25, Tryd.ntmps25
  go_wp2_with fail
  refine (sameOp_ x.op oa ob ol oc pl pc _ HA.out HB.out).mono ?_
  rintro e w2 ⟨rfl, f2⟩
  go_wp2_with fail
  go_ret
  exact ⟨rfl, HF.out.trans f2 (fun _ _ e => e)⟩

theorem EvV.sl {w : World} {x : Scr.Ev} {oa va : Option Addr} {ol oc vl vc : Nat} (h : EvV w x (evCells x (.slice oa ol oc) (.slice va vl vc)).toList) : SlAt w (.slice oa ol oc) x.op.b ∧ SlAt w (.slice va vl vc) x.b := by
  obtain ⟨ovs, vb, he, ⟨ob, rfl, hs, _⟩, hb, _⟩ := h
  simp [evCells] at he
  obtain ⟨rfl, rfl⟩ := he
  exact ⟨hs, hb⟩

set_option maxRecDepth 100000 in
set_option maxHeartbeats 3200000 in
theorem same_ (evs : List Scr.Ev) (va vb : Value) (w : World) (ha : EvsAt w va evs) (hb : EvsAt w vb evs) (hN : evs.length ≤ 1000000) :
    Calls Tryd.prog 10 #[va, vb] w fun e w' => e = .returned (.bool true) ∧ Fr No w w' := by
  obtain ⟨a, ca, rfl, hca, hA⟩ := ha
  obtain ⟨b, cb, rfl, hcb, hB⟩ := hb
  have HA := Lib.hid hA
  have HB := Lib.hid hB
  clear hA hB
  go_enter Tryd.func10, Tryd.ntmps10
  go_wp2_with fail
  go_loopw [5] (fun i wr => ∃ (j : Nat), i = .int .i64 j ∧ j ≤ evs.length ∧ Fr No w wr) (fun i _ => evs.length - (intOf i).toNat)
  case atStart => exact ⟨0, rfl, Nat.zero_le _, Fr.refl _⟩
  case round =>
    obtain ⟨j, rfl, hj, fr⟩ := hrel
    by_cases hlt : j < evs.length
    · have qlt : (j : Int) < (evs.length : Int) := by omega
      have qn : ¬ (evs.length : Int) ≤ (j : Int) := by omega
      have q0 : (0 : Int) ≤ (j : Int) := by omega
      obtain ⟨ba, oa, rfl, hxa⟩ : ∃ b off, a = some ⟨b, off, none⟩ ∧ ∃ oa ol oc va vl vc, EvV w evs[j] (evCells evs[j] (.slice oa ol oc) (.slice va vl vc)).toList ∧ w.rangeAt b (off + j * 13) (evCells evs[j] (.slice oa ol oc) (.slice va vl vc)).toList := by
        rcases HA.out with h | ⟨b, off, rfl, _, h⟩
        · rw [h] at hlt; simp at hlt
        · exact ⟨b, off, rfl, h j evs[j] (List.getElem?_eq_getElem hlt)⟩
      obtain ⟨bb, ob, rfl, hxb⟩ : ∃ b' off, b = some ⟨b', off, none⟩ ∧ ∃ oa ol oc va vl vc, EvV w evs[j] (evCells evs[j] (.slice oa ol oc) (.slice va vl vc)).toList ∧ w.rangeAt b' (off + j * 13) (evCells evs[j] (.slice oa ol oc) (.slice va vl vc)).toList := by
        rcases HB.out with h | ⟨b, off, rfl, _, h⟩
        · rw [h] at hlt; simp at hlt
        · exact ⟨b, off, rfl, h j evs[j] (List.getElem?_eq_getElem hlt)⟩
      generalize evs[j] = x at hxa hxb
      obtain ⟨s1, l1, m1, s2, l2, m2, hv1, hr1⟩ := hxa
      obtain ⟨s3, l3, m3, s4, l4, m4, hv2, hr2⟩ := hxb
      have hrr : wr.rangeAt ba (oa + j * 13) (evCells x (.slice s1 l1 m1) (.slice s2 l2 m2)).toList := fun i u hi => fr.cell_of (hr1 i u hi) id
      have hrs : wr.rangeAt bb (ob + j * 13) (evCells x (.slice s3 l3 m3) (.slice s4 l4 m4)).toList := fun i u hi => fr.cell_of (hr2 i u hi) id
      have HRS := Lib.hid hrs
      have HV1 := Lib.hid hv1
      have HV2 := Lib.hid hv2
      have c0 : wr.cell? ⟨ba, oa + j * 13, none⟩ = some (.int .i64 x.kind) := hrr 0 _ rfl
      have c1 : wr.cell? ⟨ba, oa + j * 13 + 1, none⟩ = some (.int .i64 x.node) := hrr 1 _ rfl
      have c2 : wr.cell? ⟨ba, oa + j * 13 + 2, none⟩ = some (.int .i64 x.fate) := hrr 2 _ rfl
      have c3 : wr.cell? ⟨ba, oa + j * 13 + 3, none⟩ = some (.int .i64 x.n) := hrr 3 _ rfl
      have c4 : wr.cell? ⟨ba, oa + j * 13 + 4, none⟩ = some (.int .i64 x.op.kind) := hrr 4 _ rfl
      have c5 : wr.cell? ⟨ba, oa + j * 13 + 5, none⟩ = some (.string ⟨x.op.path.toArray⟩) := hrr 5 _ rfl
      have c6 : wr.cell? ⟨ba, oa + j * 13 + 6, none⟩ = some (.string ⟨x.op.to.toArray⟩) := hrr 6 _ rfl
      have c7 : wr.cell? ⟨ba, oa + j * 13 + 7, none⟩ = some (.int .i64 x.op.handle) := hrr 7 _ rfl
      have c8 : wr.cell? ⟨ba, oa + j * 13 + 8, none⟩ = some (.int .i64 x.op.pos) := hrr 8 _ rfl
      have c9 : wr.cell? ⟨ba, oa + j * 13 + 9, none⟩ = some (.int .i64 x.op.n) := hrr 9 _ rfl
      have c10 : wr.cell? ⟨ba, oa + j * 13 + 10, none⟩ = some (.bool x.op.writes) := hrr 10 _ rfl
      have c11 : wr.cell? ⟨ba, oa + j * 13 + 11, none⟩ = some (.slice s1 l1 m1) := hrr 11 _ rfl
      have c12 : wr.cell? ⟨ba, oa + j * 13 + 12, none⟩ = some (.slice s2 l2 m2) := hrr 12 _ rfl
      clear hrr hrs hv1 hv2 hr1 hr2
      go_wp2_with fail
      have hba : ba < wr.heap.size := lt_of_cell c0
      go_region_held3 (fun w' => w'.cell? ⟨ba, oa + j * 13, none⟩ = some (.int .i64 x.kind) ∧ w'.cell? ⟨ba, oa + j * 13 + 1, none⟩ = some (.int .i64 x.node) ∧ w'.cell? ⟨ba, oa + j * 13 + 2, none⟩ = some (.int .i64 x.fate) ∧ w'.cell? ⟨ba, oa + j * 13 + 3, none⟩ = some (.int .i64 x.n) ∧ w'.cell? ⟨ba, oa + j * 13 + 4, none⟩ = some (.int .i64 x.op.kind) ∧ w'.cell? ⟨ba, oa + j * 13 + 5, none⟩ = some (.string ⟨x.op.path.toArray⟩) ∧ w'.cell? ⟨ba, oa + j * 13 + 6, none⟩ = some (.string ⟨x.op.to.toArray⟩) ∧ w'.cell? ⟨ba, oa + j * 13 + 7, none⟩ = some (.int .i64 x.op.handle) ∧ w'.cell? ⟨ba, oa + j * 13 + 8, none⟩ = some (.int .i64 x.op.pos) ∧ w'.cell? ⟨ba, oa + j * 13 + 9, none⟩ = some (.int .i64 x.op.n) ∧ w'.cell? ⟨ba, oa + j * 13 + 10, none⟩ = some (.bool x.op.writes) ∧ w'.cell? ⟨ba, oa + j * 13 + 11, none⟩ = some (.slice s1 l1 m1) ∧ w'.cell? ⟨ba, oa + j * 13 + 12, none⟩ = some (.slice s2 l2 m2)) (go_keep) (fail)
      have k6 : ((wr.alloc (.cells #[.int .i64 x.kind, .int .i64 x.node, .int .i64 x.fate, .int .i64 x.n, .int .i64 x.op.kind, .string ⟨x.op.path.toArray⟩, .string ⟨x.op.to.toArray⟩, .int .i64 x.op.handle, .int .i64 x.op.pos, .int .i64 x.op.n, .bool x.op.writes, .slice s1 l1 m1, .slice s2 l2 m2] 47)).drew).heap[wr.heap.size]? = some (.cells #[.int .i64 x.kind, .int .i64 x.node, .int .i64 x.fate, .int .i64 x.n, .int .i64 x.op.kind, .string ⟨x.op.path.toArray⟩, .string ⟨x.op.to.toArray⟩, .int .i64 x.op.handle, .int .i64 x.op.pos, .int .i64 x.op.n, .bool x.op.writes, .slice s1 l1 m1, .slice s2 l2 m2] 47 (0, 0)) := new_at wr _
      have F6 : Fr No w ((wr.alloc (.cells #[.int .i64 x.kind, .int .i64 x.node, .int .i64 x.fate, .int .i64 x.n, .int .i64 x.op.kind, .string ⟨x.op.path.toArray⟩, .string ⟨x.op.to.toArray⟩, .int .i64 x.op.handle, .int .i64 x.op.pos, .int .i64 x.op.n, .bool x.op.writes, .slice s1 l1 m1, .slice s2 l2 m2] 47)).drew) := (fr.alloc _).drew
      have FR6 : Fr No wr ((wr.alloc (.cells #[.int .i64 x.kind, .int .i64 x.node, .int .i64 x.fate, .int .i64 x.n, .int .i64 x.op.kind, .string ⟨x.op.path.toArray⟩, .string ⟨x.op.to.toArray⟩, .int .i64 x.op.handle, .int .i64 x.op.pos, .int .i64 x.op.n, .bool x.op.writes, .slice s1 l1 m1, .slice s2 l2 m2] 47)).drew) := ((Fr.refl wr).alloc _).drew
      clear c0 c1 c2 c3 c4 c5 c6 c7 c8 c9 c10 c11 c12 hba
      generalize (wr.alloc (.cells #[.int .i64 x.kind, .int .i64 x.node, .int .i64 x.fate, .int .i64 x.n, .int .i64 x.op.kind, .string ⟨x.op.path.toArray⟩, .string ⟨x.op.to.toArray⟩, .int .i64 x.op.handle, .int .i64 x.op.pos, .int .i64 x.op.n, .bool x.op.writes, .slice s1 l1 m1, .slice s2 l2 m2] 47)).drew = w6 at *
      generalize wr.heap.size = b6 at *
      have c0 : w6.cell? ⟨b6, 0, none⟩ = some (.int .i64 x.kind) := by rw [cell_at k6]; rfl
      have c1 : w6.cell? ⟨b6, 1, none⟩ = some (.int .i64 x.node) := by rw [cell_at k6]; rfl
      have c2 : w6.cell? ⟨b6, 2, none⟩ = some (.int .i64 x.fate) := by rw [cell_at k6]; rfl
      have c3 : w6.cell? ⟨b6, 3, none⟩ = some (.int .i64 x.n) := by rw [cell_at k6]; rfl
      have c4 : w6.cell? ⟨b6, 4, none⟩ = some (.int .i64 x.op.kind) := by rw [cell_at k6]; rfl
      have c5 : w6.cell? ⟨b6, 5, none⟩ = some (.string ⟨x.op.path.toArray⟩) := by rw [cell_at k6]; rfl
      have c6 : w6.cell? ⟨b6, 6, none⟩ = some (.string ⟨x.op.to.toArray⟩) := by rw [cell_at k6]; rfl
      have c7 : w6.cell? ⟨b6, 7, none⟩ = some (.int .i64 x.op.handle) := by rw [cell_at k6]; rfl
      have c8 : w6.cell? ⟨b6, 8, none⟩ = some (.int .i64 x.op.pos) := by rw [cell_at k6]; rfl
      have c9 : w6.cell? ⟨b6, 9, none⟩ = some (.int .i64 x.op.n) := by rw [cell_at k6]; rfl
      have c10 : w6.cell? ⟨b6, 10, none⟩ = some (.bool x.op.writes) := by rw [cell_at k6]; rfl
      have c11 : w6.cell? ⟨b6, 11, none⟩ = some (.slice s1 l1 m1) := by rw [cell_at k6]; rfl
      have c12 : w6.cell? ⟨b6, 12, none⟩ = some (.slice s2 l2 m2) := by rw [cell_at k6]; rfl
      have d0 : w6.cell? ⟨bb, ob + j * 13, none⟩ = some (.int .i64 x.kind) := FR6.cell_of (HRS.out 0 _ rfl) id
      have d1 : w6.cell? ⟨bb, ob + j * 13 + 1, none⟩ = some (.int .i64 x.node) := FR6.cell_of (HRS.out 1 _ rfl) id
      have d2 : w6.cell? ⟨bb, ob + j * 13 + 2, none⟩ = some (.int .i64 x.fate) := FR6.cell_of (HRS.out 2 _ rfl) id
      have d3 : w6.cell? ⟨bb, ob + j * 13 + 3, none⟩ = some (.int .i64 x.n) := FR6.cell_of (HRS.out 3 _ rfl) id
      have d4 : w6.cell? ⟨bb, ob + j * 13 + 4, none⟩ = some (.int .i64 x.op.kind) := FR6.cell_of (HRS.out 4 _ rfl) id
      have d5 : w6.cell? ⟨bb, ob + j * 13 + 5, none⟩ = some (.string ⟨x.op.path.toArray⟩) := FR6.cell_of (HRS.out 5 _ rfl) id
      have d6 : w6.cell? ⟨bb, ob + j * 13 + 6, none⟩ = some (.string ⟨x.op.to.toArray⟩) := FR6.cell_of (HRS.out 6 _ rfl) id
      have d7 : w6.cell? ⟨bb, ob + j * 13 + 7, none⟩ = some (.int .i64 x.op.handle) := FR6.cell_of (HRS.out 7 _ rfl) id
      have d8 : w6.cell? ⟨bb, ob + j * 13 + 8, none⟩ = some (.int .i64 x.op.pos) := FR6.cell_of (HRS.out 8 _ rfl) id
      have d9 : w6.cell? ⟨bb, ob + j * 13 + 9, none⟩ = some (.int .i64 x.op.n) := FR6.cell_of (HRS.out 9 _ rfl) id
      have d10 : w6.cell? ⟨bb, ob + j * 13 + 10, none⟩ = some (.bool x.op.writes) := FR6.cell_of (HRS.out 10 _ rfl) id
      have d11 : w6.cell? ⟨bb, ob + j * 13 + 11, none⟩ = some (.slice s3 l3 m3) := FR6.cell_of (HRS.out 11 _ rfl) id
      have d12 : w6.cell? ⟨bb, ob + j * 13 + 12, none⟩ = some (.slice s4 l4 m4) := FR6.cell_of (HRS.out 12 _ rfl) id
      obtain ⟨g1, g2⟩ := HV1.out.sl
      obtain ⟨g3, g4⟩ := HV2.out.sl
      have G1 := Lib.hid (g1.fr F6 (fun _ _ _ _ e => e))
      have G2 := Lib.hid (g2.fr F6 (fun _ _ _ _ e => e))
      have G3 := Lib.hid (g3.fr F6 (fun _ _ _ _ e => e))
      have G4 := Lib.hid (g4.fr F6 (fun _ _ _ _ e => e))
      have FD : Fr No w6 w6.drew := (Fr.refl w6).drew
      clear g1 g2 g3 g4 FR6 k6
      go_wp2_with fail
      go_region_held3 (fun w' => w'.cell? ⟨b6, 0, none⟩ = some (.int .i64 x.kind) ∧ w'.cell? ⟨b6, 1, none⟩ = some (.int .i64 x.node) ∧ w'.cell? ⟨b6, 2, none⟩ = some (.int .i64 x.fate) ∧ w'.cell? ⟨b6, 3, none⟩ = some (.int .i64 x.n) ∧ w'.cell? ⟨b6, 4, none⟩ = some (.int .i64 x.op.kind) ∧ w'.cell? ⟨b6, 5, none⟩ = some (.string ⟨x.op.path.toArray⟩) ∧ w'.cell? ⟨b6, 6, none⟩ = some (.string ⟨x.op.to.toArray⟩) ∧ w'.cell? ⟨b6, 7, none⟩ = some (.int .i64 x.op.handle) ∧ w'.cell? ⟨b6, 8, none⟩ = some (.int .i64 x.op.pos) ∧ w'.cell? ⟨b6, 9, none⟩ = some (.int .i64 x.op.n) ∧ w'.cell? ⟨b6, 10, none⟩ = some (.bool x.op.writes) ∧ w'.cell? ⟨b6, 11, none⟩ = some (.slice s1 l1 m1) ∧ w'.cell? ⟨b6, 12, none⟩ = some (.slice s2 l2 m2) ∧ w'.cell? ⟨bb, ob + j * 13, none⟩ = some (.int .i64 x.kind) ∧ w'.cell? ⟨bb, ob + j * 13 + 1, none⟩ = some (.int .i64 x.node) ∧ w'.cell? ⟨bb, ob + j * 13 + 2, none⟩ = some (.int .i64 x.fate) ∧ w'.cell? ⟨bb, ob + j * 13 + 3, none⟩ = some (.int .i64 x.n) ∧ w'.cell? ⟨bb, ob + j * 13 + 4, none⟩ = some (.int .i64 x.op.kind) ∧ w'.cell? ⟨bb, ob + j * 13 + 5, none⟩ = some (.string ⟨x.op.path.toArray⟩) ∧ w'.cell? ⟨bb, ob + j * 13 + 6, none⟩ = some (.string ⟨x.op.to.toArray⟩) ∧ w'.cell? ⟨bb, ob + j * 13 + 7, none⟩ = some (.int .i64 x.op.handle) ∧ w'.cell? ⟨bb, ob + j * 13 + 8, none⟩ = some (.int .i64 x.op.pos) ∧ w'.cell? ⟨bb, ob + j * 13 + 9, none⟩ = some (.int .i64 x.op.n) ∧ w'.cell? ⟨bb, ob + j * 13 + 10, none⟩ = some (.bool x.op.writes) ∧ w'.cell? ⟨bb, ob + j * 13 + 11, none⟩ = some (.slice s3 l3 m3) ∧ w'.cell? ⟨bb, ob + j * 13 + 12, none⟩ = some (.slice s4 l4 m4))
        (first | go_keep | (go_split_ands; refine ⟨?_, ?_, ?_, ?_, ?_, ?_, ?_, ?_, ?_, ?_, ?_, ?_, ?_, ?_, ?_, ?_, ?_, ?_, ?_, ?_, ?_, ?_, ?_, ?_, ?_, ?_⟩ <;> exact f7.cell_of (by assumption) id))
        ((go_at_call 25; refine (sameEvent_ x s1 s2 s3 s4 l1 m1 l2 m2 l3 m3 l4 m4 _ (by first | exact G1.out | exact G1.out.fr FD (fun _ _ _ _ e => e)) (by first | exact G3.out | exact G3.out.fr FD (fun _ _ _ _ e => e)) (by first | exact G2.out | exact G2.out.fr FD (fun _ _ _ _ e => e)) (by first | exact G4.out | exact G4.out.fr FD (fun _ _ _ _ e => e))).mono ?_; rintro e w7 ⟨rfl, f7⟩))
      have F7 : Fr No w w7 := by first | exact F6.trans f7 (fun _ _ e => e) | exact F6.drew.trans f7 (fun _ _ e => e)
      clear c0 c1 c2 c3 c4 c5 c6 c7 c8 c9 c10 c11 c12 d0 d1 d2 d3 d4 d5 d6 d7 d8 d9 d10 d11 d12
      go_wp2_with fail
      go_roundw
      case rel => exact ⟨j + 1, by go_num, by omega, F7⟩
      case measure => simp [intOf]; omega
    · obtain rfl : j = evs.length := by omega
      go_wp2_with fail
      go_ret
      exact ⟨rfl, fr⟩
end Go.Proofs.YtkcgijidgppeiaaDoor
