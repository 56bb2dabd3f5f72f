/-
 What is proved: the law StateLive returns true at every call, whatever the requests, in whatever memory. No condition.
 The frame is the kit's own shell (proof-skeleton.mjs), the walk stands in the texts ahead.
-/
import Derived.Test.YtlcojhddnpmgmaaGreatR36
import Derived.Test.YtlcojhddnpmgmaaGreatR37
import Derived.Test.YtlcojhddnpmgmaaGreatRows
set_option linter.unusedSimpArgs false
set_option linter.unusedVariables false
set_option maxRecDepth 100000
namespace Go.Proofs.YtlcojhddnpmgmaaGreat.stateLive
open Go.ChangeShapes Go.WideShapes Go.ChangeAt Go.RowKit
theorem own:ownKnob Tryz.prog.godebug=none:=by kernel_rfl
theorem laidOut:laidOutB Tryz.prog=true:=by kernel_rfl
theorem lifted (os:Os) (started:os.Started) (H:Type) (enc:TypeId×Value→H):
  ReturnsInHanded {} Tryz.checked os 7 .any (Rows.stateLiveSpec.pre6 enc Tryz.prog Tryz.f7 Rows.stateLiveRow.domain false) (Rows.stateLiveSpec.post enc Tryz.prog Tryz.f7 false true false false):=by
 refine returnsInHanded_of_change (C:=Tryz.checked) own started (by kernel_rfl) Tryz.func7
  (ChangeSpec.witness6 (enc:=enc) (C:=Tryz.checked) false ⟨#[], #[.slice none 0 0], []⟩ 8 (by kernel_rfl) (by kernel_rfl) (by kernel_rfl) (by kernel_rfl)) ?_
 intro W base args ds gs before hval0 hW hcnd _;have hval:∀(j:Nat) t v,Tryz.f7.params[j]? =some t→args[j]? =some v→Value.okWide Tryz.prog W .any base t v:=hval0;have hW':=hW;obtain ⟨p,q,hA0,hV,rfl,hfz,hnd⟩:=hW;have hA:DataW.TrodAll enc Tryz.prog W 0 (fun _=>true) true Tryz.f7.params.toList args.toList ds p:=hA0;rw [Tryz.params7] at hA hval;obtain ⟨v0,d0,rfl,rfl,h0⟩:=trodAll_one hA;obtain ⟨rfl,rfl⟩:=trodVars_none hV;clear hA0 hval0;simp only [List.append_nil] at hW';obtain ⟨L0,hL0,hg0⟩:=rqs_of (hval 0 44 v0 rfl rfl) h0;have hlt:∀y∈p,y.block<W.heap.size:=fun y hy=>by simpa using hW'.lt y (by simpa using hy)
 refine (stateLive_ v0 L0 W hL0 hg0).mono fun e W' ⟨he,hg⟩=> ?_;subst he;have hb:=hg.below (Nat.le_refl _) (fun _ _ e=>e);refine ⟨_,rfl,_,_,_, [],p, [],hW',?_,?_,?_,hb.frame _,fun h=>by cases h⟩
 ·exact trodAll_cons_mk (shut_bool Tryz.underlying4 _) trodAll_mk0
 ·exact trodAll_mk1 (Below.trod laidOut (by kernel_rfl) (of_decide_eq_true (by kernel_rfl)) h0 hb hlt)
 ·rfl
theorem over:Rows.stateLiveRow.holds Tryz.pinned (OpenSpec.ofChange Rows.stateLiveSpec):=
 OpenClaim.holds_of_wide 7 Tryz.f7 rfl rfl rfl rfl rfl rfl rfl ⟨rfl,rfl,rfl,rfl,rfl⟩ rfl rfl rfl rfl rfl (by kernel_rfl) Tryz.func7 joined
  (of_decide_eq_true (by kernel_rfl)) (by unfold Func.isWrapper;first|(rw [if_pos (by decide+kernel)];kernel_rfl)|(rw [if_neg (by decide+kernel)];exact ⟨rfl,rfl⟩))
  (fun os started H enc _=>lifted os started H enc)
/-- The statement. -/
theorem proved:Rows.StateLiveSaid:=
 over
#print axioms proved
end Go.Proofs.YtlcojhddnpmgmaaGreat.stateLive
