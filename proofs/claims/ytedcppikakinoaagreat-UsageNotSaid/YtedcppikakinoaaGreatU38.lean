/-
  What is proved: the law UsageNot returns true at every call, whatever the requests, in whatever memory. No condition.
  The frame is the kit's own shell (proof-skeleton.mjs), the walk stands in the texts ahead.
-/
import Derived.Test.YtedcppikakinoaaGreatU36
import Derived.Test.YtedcppikakinoaaGreatU37
import Derived.Test.YtedcppikakinoaaGreatRows
set_option linter.unusedSimpArgs false
set_option linter.unusedVariables false
set_option maxRecDepth 100000
namespace Go.Proofs.YtedcppikakinoaaGreat.usageNot
open Go.ChangeShapes Go.WideShapes Go.ChangeAt Go.RowKit
theorem own:ownKnob Tryz.prog.godebug=none:=by kernel_rfl
theorem laidOut:laidOutB Tryz.prog=true:=by kernel_rfl
theorem lifted (os:Os) (ak:os.Started) (V:Type) (enc:TypeId×Value->V):
  ReturnsInHanded {} Tryz.checked os 14 .any (Rows.usageNotSpec.pre6 enc Tryz.prog Tryz.f14 Rows.usageNotRow.domain false) (Rows.usageNotSpec.post enc Tryz.prog Tryz.f14 false true false false):=by
 refine returnsInHanded_of_change (C:=Tryz.checked) own ak (by kernel_rfl) Tryz.func14
  (ChangeSpec.witness6 (enc:=enc) (C:=Tryz.checked) false ⟨#[], #[.slice none 0 0], []⟩ 8 (by kernel_rfl) (by kernel_rfl) (by kernel_rfl) (by kernel_rfl)) ?_
 intro W base args ab an am J B ao _;have H:∀(j:Nat) t v,Tryz.f14.params[j]? =some t->args[j]? =some v->Value.okWide Tryz.prog W .any base t v:=J;have o:=B;obtain ⟨p,q,A,ae,rfl,ap,aq⟩:=B;have u:DataW.TrodAll enc Tryz.prog W 0 (λ_=>true) true Tryz.f14.params.toList args.toList ab p:=A;rw [Tryz.params14] at u H;obtain ⟨Q,d0,rfl,rfl,r⟩:=trodAll_one u;obtain ⟨rfl,rfl⟩:=trodVars_none ae;clear A J;simp only [List.append_nil] at o;obtain ⟨aa,ad,ah⟩:=Zf (H 0 44 Q rfl rfl) r;(have ai:∀y∈p,y.block<W.heap.size:=λy aj=>by simpa using o.lt y (by simpa using aj));refine (aFJ Q aa W ad ah).mono λe al ⟨af,ag⟩=> ?_;subst af;have E:=ag.below (Nat.le_refl _) zq;refine ⟨_,rfl,_,_,_, [],p, [],o,?_,?_,?_,E.frame _,λh=>by cases h⟩;{exact trodAll_cons_mk (shut_bool Tryz.underlying4 _) trodAll_mk0};{exact trodAll_mk1 (Below.trod laidOut (by kernel_rfl) (of_decide_eq_true (by kernel_rfl)) r E ai)};{rfl}
theorem over:Rows.usageNotRow.holds Tryz.pinned (OpenSpec.ofChange Rows.usageNotSpec):=
 OpenClaim.holds_of_wide 14 Tryz.f14 rfl rfl rfl rfl rfl rfl rfl ⟨rfl,rfl,rfl,rfl,rfl⟩ rfl rfl rfl rfl rfl (by kernel_rfl) Tryz.func14 joined
  (of_decide_eq_true (by kernel_rfl)) (by unfold Func.isWrapper;first|(rw [if_pos (by decide+kernel)];kernel_rfl)|(rw [if_neg (by decide+kernel)];exact ⟨rfl,rfl⟩))
  (λos r o enc _=>lifted os r o enc)
/-- The statement. -/
theorem proved:Rows.UsageNotSaid:=
 over
#print axioms proved
end Go.Proofs.YtedcppikakinoaaGreat.usageNot
