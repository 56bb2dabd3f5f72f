/-
 What is proved: the law StateTwins returns true at every call, whatever the requests of the two lists, in whatever memory. No condition.
 The frame is the kit's own shell (proof-skeleton.mjs), the walk stands in the texts ahead.
-/
import Derived.Test.YtlcojhddnpmgmaaGreatV42
import Derived.Test.YtlcojhddnpmgmaaGreatV43
import Derived.Test.YtlcojhddnpmgmaaGreatRows
set_option linter.unusedSimpArgs false
set_option linter.unusedVariables false
set_option maxRecDepth 100000
namespace Go.Proofs.YtlcojhddnpmgmaaGreat.stateTwins
open Go.ChangeShapes Go.WideShapes Go.ChangeAt Go.RowKit
theorem own:ownKnob Tryz.prog.godebug=none:=by kernel_rfl
theorem laidOut:laidOutB Tryz.prog=true:=by kernel_rfl
theorem lifted (os:Os) (started:os.Started) (H:Type) (enc:TypeId×Value→H):
  ReturnsInHanded {} Tryz.checked os 12 .any (Rows.stateTwinsSpec.pre6 enc Tryz.prog Tryz.f12 Rows.stateTwinsRow.domain false) (Rows.stateTwinsSpec.post enc Tryz.prog Tryz.f12 false true false false):=by
 refine returnsInHanded_of_change (C:=Tryz.checked) own started (by kernel_rfl) Tryz.func12
  (ChangeSpec.witness6 (enc:=enc) (C:=Tryz.checked) false ⟨#[], #[.slice none 0 0,.slice none 0 0], []⟩ 8 (by kernel_rfl) (by kernel_rfl) (by kernel_rfl) (by kernel_rfl)) ?_
 intro W base args ds gs before hval0 hW hcnd _;have hval:∀(j:Nat) t v,Tryz.f12.params[j]? =some t→args[j]? =some v→Value.okWide Tryz.prog W .any base t v:=hval0;have hW':=hW;obtain ⟨p,q,hA0,hV,rfl,hfz,hnd⟩:=hW;have hA:DataW.TrodAll enc Tryz.prog W 0 (fun _=>true) true Tryz.f12.params.toList args.toList ds p:=hA0;rw [Tryz.params12] at hA hval;obtain ⟨v0,v1,d0,d1,p0,p1,rfl,rfl,rfl,h0,h1⟩:=trodAll_two hA;obtain ⟨rfl,rfl⟩:=trodVars_none hV;clear hA0 hval0;simp only [List.append_nil] at hW';obtain ⟨L0,hL0,hg0⟩:=Uw (hval 0 44 v0 rfl rfl) h0;obtain ⟨L1,hL1,hg1⟩:=Uw (hval 1 44 v1 rfl rfl) h1;have hlt:∀y∈p0++p1,y.block<W.heap.size:=fun y hy=>by simpa using hW'.lt y (by simpa using hy)
 refine (aCk v0 v1 L0 L1 W hL0 hg0 hL1 hg1).mono fun e W' ⟨he,hg⟩=> ?_;subst he;have hb:=hg.below (Nat.le_refl _) kp;refine ⟨_,rfl,_,_,_, [],p0++p1, [],hW',?_,?_,?_,hb.frame _,fun h=>by cases h⟩
 ·exact trodAll_cons_mk (shut_bool Tryz.underlying4 _) trodAll_mk0
 ·exact trodAll_mk2 (Below.trod laidOut (by kernel_rfl) (of_decide_eq_true (by kernel_rfl)) h0 hb (fun x hx=>hlt x (List.mem_append_left _ hx))) (Below.trod laidOut (by kernel_rfl) (of_decide_eq_true (by kernel_rfl)) h1 hb (fun x hx=>hlt x (List.mem_append_right _ hx)))
 ·rfl
theorem over:Rows.stateTwinsRow.holds Tryz.pinned (OpenSpec.ofChange Rows.stateTwinsSpec):=
 OpenClaim.holds_of_wide 12 Tryz.f12 rfl rfl rfl rfl rfl rfl rfl ⟨rfl,rfl,rfl,rfl,rfl⟩ rfl rfl rfl rfl rfl (by kernel_rfl) Tryz.func12 joined
  (of_decide_eq_true (by kernel_rfl)) (by unfold Func.isWrapper;first|(rw [if_pos (by decide+kernel)];kernel_rfl)|(rw [if_neg (by decide+kernel)];exact ⟨rfl,rfl⟩))
  (fun os started H enc _=>lifted os started H enc)
/-- The statement. -/
theorem proved:Rows.StateTwinsSaid:=
 over
#print axioms proved
end Go.Proofs.YtlcojhddnpmgmaaGreat.stateTwins
