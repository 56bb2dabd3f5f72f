/-
 What is proved: the law StateFrees returns true at every call, whatever the requests, in whatever memory. No condition.
 The frame is the kit's own shell (proof-skeleton.mjs), the walk stands in the texts ahead.
-/
import Derived.Test.YtlcojhddnpmgmaaGreatW38
import Derived.Test.YtlcojhddnpmgmaaGreatW39
import Derived.Test.YtlcojhddnpmgmaaGreatRows
set_option linter.unusedSimpArgs false
set_option linter.unusedVariables false
set_option maxRecDepth 100000
namespace Go.Proofs.YtlcojhddnpmgmaaGreat.stateFrees
open Go.ChangeShapes Go.WideShapes Go.ChangeAt Go.RowKit
theorem own:ownKnob Tryz.prog.godebug=none:=by kernel_rfl
theorem laidOut:laidOutB Tryz.prog=true:=by kernel_rfl
theorem lifted (os:Os) (started:os.Started) (H:Type) (enc:TypeId×Value→H):
  ReturnsInHanded {} Tryz.checked os 8 .any (Rows.stateFreesSpec.pre6 enc Tryz.prog Tryz.f8 Rows.stateFreesRow.domain false) (Rows.stateFreesSpec.post enc Tryz.prog Tryz.f8 false true false false):=by
 refine returnsInHanded_of_change (C:=Tryz.checked) own started (by kernel_rfl) Tryz.func8
  (ChangeSpec.witness6 (enc:=enc) (C:=Tryz.checked) false ⟨#[], #[.slice none 0 0], []⟩ 8 (by kernel_rfl) (by kernel_rfl) (by kernel_rfl) (by kernel_rfl)) ?_
 intro W base args ds gs before hval0 hW hcnd _;have hval:∀(j:Nat) t v,Tryz.f8.params[j]? =some t→args[j]? =some v→Value.okWide Tryz.prog W .any base t v:=hval0;have hW':=hW;obtain ⟨p,q,hA0,hV,rfl,hfz,hnd⟩:=hW;have hA:DataW.TrodAll enc Tryz.prog W 0 (fun _=>true) true Tryz.f8.params.toList args.toList ds p:=hA0;rw [Tryz.params8] at hA hval;obtain ⟨v0,d0,rfl,rfl,h0⟩:=trodAll_one hA;obtain ⟨rfl,rfl⟩:=trodVars_none hV;clear hA0 hval0;simp only [List.append_nil] at hW';obtain ⟨L0,hL0,hg0⟩:=rqs_of (hval 0 44 v0 rfl rfl) h0;have hlt:∀y∈p,y.block<W.heap.size:=fun y hy=>by simpa using hW'.lt y (by simpa using hy)
 refine (stateFrees_ v0 L0 W hL0 hg0).mono fun e W' ⟨he,hg⟩=> ?_;subst he;have hb:=hg.below (Nat.le_refl _) (fun _ _ e=>e);refine ⟨_,rfl,_,_,_, [],p, [],hW',?_,?_,?_,hb.frame _,fun h=>by cases h⟩
 ·exact trodAll_cons_mk (shut_bool Tryz.underlying4 _) trodAll_mk0
 ·exact trodAll_mk1 (Below.trod laidOut (by kernel_rfl) (of_decide_eq_true (by kernel_rfl)) h0 hb hlt)
 ·rfl
theorem over:Rows.stateFreesRow.holds Tryz.pinned (OpenSpec.ofChange Rows.stateFreesSpec):=
 OpenClaim.holds_of_wide 8 Tryz.f8 rfl rfl rfl rfl rfl rfl rfl ⟨rfl,rfl,rfl,rfl,rfl⟩ rfl rfl rfl rfl rfl (by kernel_rfl) Tryz.func8 joined
  (of_decide_eq_true (by kernel_rfl)) (by unfold Func.isWrapper;first|(rw [if_pos (by decide+kernel)];kernel_rfl)|(rw [if_neg (by decide+kernel)];exact ⟨rfl,rfl⟩))
  (fun os started H enc _=>lifted os started H enc)
/-- The statement. -/
theorem proved:Rows.StateFreesSaid:=
 over
#print axioms proved
end Go.Proofs.YtlcojhddnpmgmaaGreat.stateFrees
