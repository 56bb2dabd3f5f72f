/- Names of paths, at the path that the first sentence uses. Walked. -/
import Derived.Test.YtlcojhddnpmgmaaGreatB
import Derived.Deep.AppendLies
import Derived.Outline
import Derived.Deep.QuietTactic
import Derived.BigQuiet
namespace Go.Proofs.YtlcojhddnpmgmaaGreat
open Go.RowKit

def sF : ByteArray := ⟨#[102]⟩
theorem idx0 : Lib.indexByte [102] (Int.toNat 0).toUInt8 = -1 := by decide
theorem idx47 : Lib.indexByte [102] (Int.toNat 47).toUInt8 = -1 := by decide

set_option maxRecDepth 100000 in
theorem may_f (w : World) : Calls Tryz.prog 184 #[.string ⟨#[102]⟩] w fun e w' => e = .returned (.bool true) ∧ w' = w := by
  have h0 := idx0
  have h1 := idx47
  go_enter Tryz.func184, Tryz.ntmps184
  go_wp2_with (go_at_call 218; refine (Tryz.strings_IndexByte _ _ _).mono ?_; rintro e w' ⟨rfl, rfl⟩)
  go_ret
  exact ⟨rfl, rfl⟩

set_option maxRecDepth 100000 in
theorem split_root (w : World) : Calls Tryz.prog 125 #[.string ⟨#[47]⟩] w fun e w' => e = .returned (.tuple #[.slice none 0 0, .int .i64 0]) ∧ w' = w := by
  go_enter Tryz.func125, Tryz.ntmps125
  go_wp2_with fail
  go_step3
  go_wp2
  rw [Exit.noGoto_ret]
  go_ret2
  exact ⟨rfl, rfl⟩

theorem Tryz.info9 : (Tryz.prog.info? 9).map (fun i => (i.zero, i.size, i.bytes)) = some (some (.string ⟨#[]⟩), 1, 16) := by kernel_rfl

set_option maxRecDepth 100000 in
set_option maxHeartbeats 800000 in
theorem split_f (w : World) : Calls Tryz.prog 125 #[.string ⟨#[47, 102]⟩] w fun e w' => ∃ g c, e = .returned (.tuple #[.slice (some ⟨g, 0, none⟩) 1 c, .int .i64 0]) ∧ w'.cell? ⟨g, 0, none⟩ = some (.string ⟨#[102]⟩) ∧ 1 ≤ c ∧ Fr No w w' := by
  obtain ⟨i0, hi0, hz0, hz1, hz2⟩ := info_parts Tryz.info9
  have HI := Lib.hid hi0
  have HZ0 := Lib.hid hz0
  have HZ1 := Lib.hid hz1
  have HZ2 := Lib.hid hz2
  clear hi0 hz0 hz1 hz2
  have hx : (⟨#[47, 102]⟩ : ByteArray).extract 1 2 = ⟨#[102]⟩ := by rfl
  go_enter Tryz.func125, Tryz.ntmps125
  go_wp2_with fail
  go_step3
  go_wp2_with fail
  go_step3
  go_wp2_with fail
  refine wp_loop_rounds 2 ?_; rw [rounds_succ]
  go_wp2_with fail
  refine wp_loop_rounds 2 ?_; rw [rounds_succ]
  go_wp2_with fail
  rw [rounds_succ]
  go_wp2_with fail
  refine (may_f _).mono ?_
  rintro e w1 ⟨rfl, rfl⟩
  clear hx
  go_wp2_with (at_builtin; refine wpList_append_lies _ rfl _ _ 82 rfl w1.heap.size 9 i0 (.string ⟨#[]⟩) 1 16 Tryz.underlying82 HI.out HZ0.out HZ1.out HZ2.out rfl (by decide) (.slice none 0 0) 0 [] rfl ⟨rfl, .inl ⟨rfl, rfl⟩⟩ ⟨w1.heap.size, 0, none⟩ 1 1 [.string ⟨#[102]⟩] rfl rfl ?d1 (by simp [Value.oneCell']) (by decide) (by unfold maxLen; omega) (by omega) ?d5 (w1.heap.size + 1) ?d6 ?_)
  case d1 => exact World.news_of_block (cs := #[.string ⟨#[102]⟩]) (t := 9) (fr := (0, 0)) (heap_alloc_new w1 _)
  case d5 => simp
  case d6 => simp
  intro g cap w6 hown6 hgrow hat hgl
  have hc : w6.cell? ⟨g, 0, none⟩ = some (.string ⟨#[102]⟩) ∧ 1 ≤ cap := by
    rcases hown6.2 with ⟨h, _⟩ | ⟨g', cap', cur, hv, _, hh, hn, _, hs, ht⟩
    · cases h
    · simp only [Value.slice.injEq, Option.some.injEq, Addr.mk.injEq] at hv
      obtain ⟨⟨rfl, _⟩, _, rfl⟩ := hv
      refine ⟨?_, by omega⟩
      rw [cell_at hh]
      have : (cur.toList.take 1)[0]? = some (.string ⟨#[102]⟩) := by rw [show cur.toList.take 1 = [.string ⟨#[102]⟩] from by simpa using ht]; rfl
      simpa using this
  have F6 : Fr No w1 w6 := ((Fr.refl w1).alloc _).grown hgrow (fun z hz => by simp [Value.ownBlock] at hz)
  have HC := Lib.hid hc
  clear hown6 hgrow hat hgl hc
  go_wp2_with fail
  rw [rounds_succ]
  go_wp2_with fail
  rw [Exit.noGoto_ret]
  go_ret2
  exact ⟨g, cap, rfl, HC.out.1, HC.out.2, F6⟩

theorem join_none (a : Option Addr) (c : Nat) (sep : ByteArray) (w : World) : Calls Tryz.prog 232 #[.slice a 0 c, .string sep] w fun e w' => e = .returned (.string ⟨#[]⟩) ∧ w' = w := by
  go_enter Tryz.func232, Tryz.ntmps232
  go_wp2_with fail
  go_ret
  exact ⟨rfl, rfl⟩

theorem join_ (a : Option Addr) (c : Nat) (w : World) : Calls Tryz.prog 229 #[.slice a 0 c] w fun e w' => e = .returned (.string ⟨#[47]⟩) ∧ w' = w := by
  have hx : (⟨#[47]⟩ : ByteArray) ++ ⟨#[]⟩ = ⟨#[47]⟩ := by rfl
  go_enter Tryz.func229, Tryz.ntmps229
  go_wp2_with fail
  refine (join_none _ _ _ _).mono ?_
  rintro e w' ⟨rfl, rfl⟩
  go_wp2_with fail
  go_ret
  exact ⟨rfl, rfl⟩

set_option maxRecDepth 100000 in
set_option maxHeartbeats 800000 in
theorem parent_f (w : World) : Calls Tryz.prog 222 #[.string ⟨#[47, 102]⟩] w fun e w' => e = .returned (.tuple #[.string ⟨#[47]⟩, .string ⟨#[102]⟩, .int .i64 0]) ∧ Fr No w w' := by
  go_enter Tryz.func222, Tryz.ntmps222
  go_wp2_with fail
  refine (split_f _).mono ?_
  rintro e w1 ⟨g, c, rfl, hg, hc, f1⟩
  go_wp2_with fail
  go_quiet ((go_at_call 229; exact Calls.quiet_of_same (join_ _ _ _)))
  go_wp2_with fail
  go_ret3
  exact ⟨rfl, f1.drewN _⟩
end Go.Proofs.YtlcojhddnpmgmaaGreat
