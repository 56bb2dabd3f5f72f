/- A configuration and an event as the program has them; an event with what its line has alone. Walked. -/
import Derived.Test.YtkcgijidgppeiaaDoorP13
import Derived.Test.YtkcgijidgppeiaaDoorL4
namespace Go.Proofs.YtkcgijidgppeiaaDoor
open Go.RowKit

set_option maxRecDepth 100000 in
set_option maxHeartbeats 1600000 in
theorem config13_ (a b c d e : Int) (w : World) : Calls Tryd.prog 13 #[.agg #[.int .i64 a, .int .i64 b, .int .i64 c, .int .i64 d, .int .i64 e]] w fun x w' => x = .returned (.agg #[.int .i64 a, .int .i64 b, .int .i64 c, .int .i64 d, .int .i64 e]) ∧ Fr No w w' := by
  go_enter Tryd.func13, Tryd.ntmps13
  go_wp2_with fail
  exact bodyPost_ret (v := .agg #[.int .i64 a, .int .i64 b, .int .i64 c, .int .i64 d, .int .i64 e]) (by simp [results, Tryd.results13, go_sem]) rfl ⟨rfl, ((Fr.refl w).alloc _).alloc _⟩

set_option maxRecDepth 100000 in
set_option maxHeartbeats 1600000 in
theorem event33_ (x : Scr.Ev) (oa va : Option Addr) (ol oc vl vc : Nat) (w : World) :
    Calls Tryd.prog 33 #[.agg (evCells x (.slice oa ol oc) (.slice va vl vc))] w fun e w' => e = .returned (.agg (evCells x (.slice oa ol oc) (.slice va vl vc))) ∧ Fr No w w' := by
  unfold evCells at *
  go_enter Tryd.func33, Tryd.ntmps33
  go_wp2_with fail
  exact bodyPost_ret (v := .agg #[.int .i64 x.kind, .int .i64 x.node, .int .i64 x.fate, .int .i64 x.n, .int .i64 x.op.kind, .string ⟨x.op.path.toArray⟩, .string ⟨x.op.to.toArray⟩, .int .i64 x.op.handle, .int .i64 x.op.pos, .int .i64 x.op.n, .bool x.op.writes, .slice oa ol oc, .slice va vl vc]) (by simp [results, Tryd.results33, go_sem]) rfl ⟨rfl, ((Fr.refl w).alloc _).alloc _⟩

def SparePost (w0 w : World) (x : Scr.Ev) (e : Ending) (w' : World) : Prop :=
  ∃ (oa : Option Addr) (ol oc : Nat) (va : Option Addr) (vl vc : Nat), e = .returned (.agg (evCells (Scr.spare x) (.slice oa ol oc) (.slice va vl vc))) ∧ EvV w0 (Scr.spare x) (evCells (Scr.spare x) (.slice oa ol oc) (.slice va vl vc)).toList ∧ Fr No w w'

theorem spare_post {w0 w w' : World} {x : Scr.Ev} {e : Ending} (oa : Option Addr) (ol oc : Nat) (va : Option Addr) (vl vc : Nat) (he : e = .returned (.agg (evCells (Scr.spare x) (.slice oa ol oc) (.slice va vl vc)))) (h1 : SlAt w0 (.slice oa ol oc) (Scr.spare x).op.b) (h2 : SlAt w0 (.slice va vl vc) (Scr.spare x).b)
    (oa' : Option Addr) (ol' oc' : Nat) (va' : Option Addr) (vl' vc' : Nat) (hv : EvV w0 x (evCells x (.slice oa' ol' oc') (.slice va' vl' vc')).toList) (f : Fr No w w') : SparePost w0 w x e w' := by
  obtain ⟨ovs, vb, _, ⟨ob, _, _, i1, i2, i3, i4, l1, l2, l3⟩, _, i5, i6, i7, i8, l4⟩ := hv
  have z : I64 0 := i64_lit 0 (by decide)
  have hop : OpV w0 (Scr.spare x).op [.int .i64 (Scr.spare x).op.kind, .string ⟨(Scr.spare x).op.path.toArray⟩, .string ⟨(Scr.spare x).op.to.toArray⟩, .int .i64 (Scr.spare x).op.handle, .int .i64 (Scr.spare x).op.pos, .int .i64 (Scr.spare x).op.n, .bool (Scr.spare x).op.writes, .slice oa ol oc] := by
    refine ⟨_, rfl, h1, ?_⟩
    by_cases hk : x.kind = 1
    · have e : (Scr.spare x).op = x.op := by simp [Scr.spare, hk]
      rw [e]
      exact ⟨i1, i2, i3, i4, l1, l2, l3⟩
    · have e : (Scr.spare x).op = Scr.OpS.zero := by simp [Scr.spare, hk]
      rw [e]
      exact ⟨z, z, z, z, by simp [Scr.OpS.zero], by simp [Scr.OpS.zero], by simp [Scr.OpS.zero]⟩
  refine ⟨oa, ol, oc, va, vl, vc, he, ⟨_, _, rfl, hop, h2, i5, ?_, ?_, ?_, ?_⟩, f⟩
  · unfold Scr.spare; dsimp only; split <;> assumption
  · unfold Scr.spare; dsimp only; split <;> assumption
  · unfold Scr.spare; dsimp only; split <;> assumption
  · unfold Scr.spare; dsimp only; split <;> simp [l4]

set_option maxRecDepth 100000 in
set_option maxHeartbeats 6400000 in
theorem spare16_ (x : Scr.Ev) (oa va : Option Addr) (ol oc vl vc : Nat) (w0 w : World) (hv : EvV w0 x (evCells x (.slice oa ol oc) (.slice va vl vc)).toList) (hk : 1 ≤ x.kind ∧ x.kind ≤ 10) :
    Calls Tryd.prog 16 #[.agg (evCells x (.slice oa ol oc) (.slice va vl vc))] w (SparePost w0 w x) := by
  have hs : SlAt w0 (.slice oa ol oc) x.op.b ∧ SlAt w0 (.slice va vl vc) x.b := by
    obtain ⟨ovs, vb, he, ⟨ob, rfl, hs, _⟩, hb, _⟩ := hv
    simp [evCells] at he
    obtain ⟨rfl, rfl⟩ := he
    exact ⟨hs, hb⟩
  have HV := Lib.hid hv
  have HS := Lib.hid hs
  clear hv hs
  obtain ⟨kind, node, fate, n, op, b⟩ := x
  unfold evCells
  simp only at hk
  have h10 : kind = 1 ∨ kind = 2 ∨ kind = 3 ∨ kind = 4 ∨ kind = 5 ∨ kind = 6 ∨ kind = 7 ∨ kind = 8 ∨ kind = 9 ∨ kind = 10 := by omega
  clear hk
  rcases h10 with rfl | rfl | rfl | rfl | rfl | rfl | rfl | rfl | rfl | rfl
  · go_enter Tryd.func16, Tryd.ntmps16
    go_wp2_with fail
    exact bodyPost_ret (v := .agg #[.int .i64 1, .int .i64 node, .int .i64 0, .int .i64 0, .int .i64 op.kind, .string ⟨op.path.toArray⟩, .string ⟨op.to.toArray⟩, .int .i64 op.handle, .int .i64 op.pos, .int .i64 op.n, .bool op.writes, .slice oa ol oc, .slice none 0 0]) (by simp [results, Tryd.results16, go_sem]) rfl (spare_post oa ol oc none 0 0 (by simp [evCells, Scr.spare]) (by simpa [Scr.spare] using HS.out.1) (.inl ⟨by simp [Scr.spare], _, _, rfl⟩) _ _ _ _ _ _ HV.out ((((Fr.refl w).alloc _).alloc _).alloc _))
  · go_enter Tryd.func16, Tryd.ntmps16
    go_wp2_with fail
    exact bodyPost_ret (v := .agg #[.int .i64 2, .int .i64 node, .int .i64 fate, .int .i64 0, .int .i64 0, .string ⟨#[]⟩, .string ⟨#[]⟩, .int .i64 0, .int .i64 0, .int .i64 0, .bool false, .slice none 0 0, .slice none 0 0]) (by simp [results, Tryd.results16, go_sem]) rfl (spare_post none 0 0 none 0 0 (by simp [evCells, Scr.spare, Scr.OpS.zero]) (.inl ⟨by simp [Scr.spare, Scr.OpS.zero], _, _, rfl⟩) (.inl ⟨by simp [Scr.spare], _, _, rfl⟩) _ _ _ _ _ _ HV.out ((((Fr.refl w).alloc _).alloc _).alloc _))
  · go_enter Tryd.func16, Tryd.ntmps16
    go_wp2_with fail
    exact bodyPost_ret (v := .agg #[.int .i64 3, .int .i64 node, .int .i64 fate, .int .i64 0, .int .i64 0, .string ⟨#[]⟩, .string ⟨#[]⟩, .int .i64 0, .int .i64 0, .int .i64 0, .bool false, .slice none 0 0, .slice none 0 0]) (by simp [results, Tryd.results16, go_sem]) rfl (spare_post none 0 0 none 0 0 (by simp [evCells, Scr.spare, Scr.OpS.zero]) (.inl ⟨by simp [Scr.spare, Scr.OpS.zero], _, _, rfl⟩) (.inl ⟨by simp [Scr.spare], _, _, rfl⟩) _ _ _ _ _ _ HV.out ((((Fr.refl w).alloc _).alloc _).alloc _))
  · go_enter Tryd.func16, Tryd.ntmps16
    go_wp2_with fail
    exact bodyPost_ret (v := .agg #[.int .i64 4, .int .i64 node, .int .i64 fate, .int .i64 0, .int .i64 0, .string ⟨#[]⟩, .string ⟨#[]⟩, .int .i64 0, .int .i64 0, .int .i64 0, .bool false, .slice none 0 0, .slice none 0 0]) (by simp [results, Tryd.results16, go_sem]) rfl (spare_post none 0 0 none 0 0 (by simp [evCells, Scr.spare, Scr.OpS.zero]) (.inl ⟨by simp [Scr.spare, Scr.OpS.zero], _, _, rfl⟩) (.inl ⟨by simp [Scr.spare], _, _, rfl⟩) _ _ _ _ _ _ HV.out ((((Fr.refl w).alloc _).alloc _).alloc _))
  · go_enter Tryd.func16, Tryd.ntmps16
    go_wp2_with fail
    exact bodyPost_ret (v := .agg #[.int .i64 5, .int .i64 0, .int .i64 0, .int .i64 n, .int .i64 0, .string ⟨#[]⟩, .string ⟨#[]⟩, .int .i64 0, .int .i64 0, .int .i64 0, .bool false, .slice none 0 0, .slice none 0 0]) (by simp [results, Tryd.results16, go_sem]) rfl (spare_post none 0 0 none 0 0 (by simp [evCells, Scr.spare, Scr.OpS.zero]) (.inl ⟨by simp [Scr.spare, Scr.OpS.zero], _, _, rfl⟩) (.inl ⟨by simp [Scr.spare], _, _, rfl⟩) _ _ _ _ _ _ HV.out ((((Fr.refl w).alloc _).alloc _).alloc _))
  · go_enter Tryd.func16, Tryd.ntmps16
    go_wp2_with fail
    exact bodyPost_ret (v := .agg #[.int .i64 6, .int .i64 node, .int .i64 0, .int .i64 0, .int .i64 0, .string ⟨#[]⟩, .string ⟨#[]⟩, .int .i64 0, .int .i64 0, .int .i64 0, .bool false, .slice none 0 0, .slice va vl vc]) (by simp [results, Tryd.results16, go_sem]) rfl (spare_post none 0 0 va vl vc (by simp [evCells, Scr.spare, Scr.OpS.zero]) (.inl ⟨by simp [Scr.spare, Scr.OpS.zero], _, _, rfl⟩) (by simpa [Scr.spare] using HS.out.2) _ _ _ _ _ _ HV.out ((((Fr.refl w).alloc _).alloc _).alloc _))
  · go_enter Tryd.func16, Tryd.ntmps16
    go_wp2_with fail
    exact bodyPost_ret (v := .agg #[.int .i64 7, .int .i64 node, .int .i64 0, .int .i64 0, .int .i64 0, .string ⟨#[]⟩, .string ⟨#[]⟩, .int .i64 0, .int .i64 0, .int .i64 0, .bool false, .slice none 0 0, .slice none 0 0]) (by simp [results, Tryd.results16, go_sem]) rfl (spare_post none 0 0 none 0 0 (by simp [evCells, Scr.spare, Scr.OpS.zero]) (.inl ⟨by simp [Scr.spare, Scr.OpS.zero], _, _, rfl⟩) (.inl ⟨by simp [Scr.spare], _, _, rfl⟩) _ _ _ _ _ _ HV.out ((((Fr.refl w).alloc _).alloc _).alloc _))
  · go_enter Tryd.func16, Tryd.ntmps16
    go_wp2_with fail
    exact bodyPost_ret (v := .agg #[.int .i64 8, .int .i64 node, .int .i64 0, .int .i64 0, .int .i64 0, .string ⟨#[]⟩, .string ⟨#[]⟩, .int .i64 0, .int .i64 0, .int .i64 0, .bool false, .slice none 0 0, .slice none 0 0]) (by simp [results, Tryd.results16, go_sem]) rfl (spare_post none 0 0 none 0 0 (by simp [evCells, Scr.spare, Scr.OpS.zero]) (.inl ⟨by simp [Scr.spare, Scr.OpS.zero], _, _, rfl⟩) (.inl ⟨by simp [Scr.spare], _, _, rfl⟩) _ _ _ _ _ _ HV.out ((((Fr.refl w).alloc _).alloc _).alloc _))
  · go_enter Tryd.func16, Tryd.ntmps16
    go_wp2_with fail
    exact bodyPost_ret (v := .agg #[.int .i64 9, .int .i64 node, .int .i64 0, .int .i64 0, .int .i64 0, .string ⟨#[]⟩, .string ⟨#[]⟩, .int .i64 0, .int .i64 0, .int .i64 0, .bool false, .slice none 0 0, .slice none 0 0]) (by simp [results, Tryd.results16, go_sem]) rfl (spare_post none 0 0 none 0 0 (by simp [evCells, Scr.spare, Scr.OpS.zero]) (.inl ⟨by simp [Scr.spare, Scr.OpS.zero], _, _, rfl⟩) (.inl ⟨by simp [Scr.spare], _, _, rfl⟩) _ _ _ _ _ _ HV.out ((((Fr.refl w).alloc _).alloc _).alloc _))
  · go_enter Tryd.func16, Tryd.ntmps16
    go_wp2_with fail
    exact bodyPost_ret (v := .agg #[.int .i64 10, .int .i64 node, .int .i64 0, .int .i64 n, .int .i64 0, .string ⟨#[]⟩, .string ⟨#[]⟩, .int .i64 0, .int .i64 0, .int .i64 0, .bool false, .slice none 0 0, .slice none 0 0]) (by simp [results, Tryd.results16, go_sem]) rfl (spare_post none 0 0 none 0 0 (by simp [evCells, Scr.spare, Scr.OpS.zero]) (.inl ⟨by simp [Scr.spare, Scr.OpS.zero], _, _, rfl⟩) (.inl ⟨by simp [Scr.spare], _, _, rfl⟩) _ _ _ _ _ _ HV.out ((((Fr.refl w).alloc _).alloc _).alloc _))
end Go.Proofs.YtkcgijidgppeiaaDoor
