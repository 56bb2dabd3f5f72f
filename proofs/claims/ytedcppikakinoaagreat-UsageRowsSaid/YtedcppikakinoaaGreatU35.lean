/-
  What is proved: the law UsageRows returns true at every call, whatever the requests and the stripes that are left out, in whatever memory. No condition.
  The frame is the kit's own shell (proof-skeleton.mjs), the walk stands in the texts ahead.
-/
import Derived.Test.YtedcppikakinoaaGreatU33
import Derived.Test.YtedcppikakinoaaGreatU34
import Derived.Test.YtedcppikakinoaaGreatRows
set_option linter.unusedSimpArgs false
set_option linter.unusedVariables false
set_option maxRecDepth 100000
namespace Go.Proofs.YtedcppikakinoaaGreat.usageRows
open Go.ChangeShapes Go.WideShapes Go.ChangeAt Go.RowKit
theorem own:ownKnob Tryz.prog.godebug=none:=by kernel_rfl
theorem laidOut:laidOutB Tryz.prog=true:=by kernel_rfl
theorem aDi {o:Type} {enc:TypeId×Value->o} {W:World} {u:Nat} {v:Value} {d:DataW o} {p:List MemPlace} (Q:Value.okWide Tryz.prog W .any u 96 v) (h:DataW.Trod enc Tryz.prog W 0 (λ_=>true) true 96 v d p):∃L:List Stp,aI o8 3 W v L:=by
 obtain ⟨r,aa,cap',rfl⟩:=okWide_slice Tryz.underlying96 Q;obtain ⟨ab,H⟩:=h;obtain ⟨L,base,cap,e,ad,J⟩:=Eb (enc:=enc) (W:=W) o8 (λx=>iZ x) Tryz.underlying96 Tryz.cells46 (by decide) (λ_=>rfl) Na (v:=.slice r aa cap') H;exact ⟨L,⟨base,cap,e,λB=>by
  obtain ⟨b,off,A,E,V⟩:=J B;exact ⟨b,off,A,rfl,E,V⟩⟩⟩
theorem lifted (os:Os) (ar:os.Started) (ag:Type) (enc:TypeId×Value->ag):
  ReturnsInHanded {} Tryz.checked os 13 .any (Rows.usageRowsSpec.pre6 enc Tryz.prog Tryz.f13 Rows.usageRowsRow.domain false) (Rows.usageRowsSpec.post enc Tryz.prog Tryz.f13 false true false false):=by
 refine returnsInHanded_of_change (C:=Tryz.checked) own ar (by kernel_rfl) Tryz.func13
  (ChangeSpec.witness6 (enc:=enc) (C:=Tryz.checked) false ⟨#[], #[.slice none 0 0,.slice none 0 0], []⟩ 8 (by kernel_rfl) (by kernel_rfl) (by kernel_rfl) (by kernel_rfl)) ?_
 intro W base args aj aw av aa Q ax _;have u:∀(j:Nat) t v,Tryz.f13.params[j]? =some t->args[j]? =some v->Value.okWide Tryz.prog W .any base t v:=aa;have o:=Q;obtain ⟨p,q,J,am,rfl,ay,az⟩:=Q;have H:DataW.TrodAll enc Tryz.prog W 0 (λ_=>true) true Tryz.f13.params.toList args.toList aj p:=J;rw [Tryz.params13] at H u;obtain ⟨ae,af,d0,d1,ab,ad,rfl,rfl,rfl,B,E⟩:=trodAll_two H;obtain ⟨rfl,rfl⟩:=trodVars_none am;clear J aa;simp only [List.append_nil] at o;obtain ⟨ah,ak,ap⟩:=Zf (u 0 44 ae rfl rfl) B;obtain ⟨ai,al⟩:=aDi (u 1 96 af rfl rfl) E;(have V:∀y∈ab++ad,y.block<W.heap.size:=λy aq=>by simpa using o.lt y (by simpa using aq));refine (aFW ae ah af ai W ak ap al).mono λe au ⟨an,ao⟩=> ?_;subst an;have r:=ao.below (Nat.le_refl _) zq;refine ⟨_,rfl,_,_,_, [],ab++ad, [],o,?_,?_,?_,r.frame _,λh=>by cases h⟩;{exact trodAll_cons_mk (shut_bool Tryz.underlying4 _) trodAll_mk0};{exact trodAll_mk2 (Below.trod laidOut (by kernel_rfl) (of_decide_eq_true (by kernel_rfl)) B r (λx A=>V x (List.mem_append_left _ A))) (Below.trod laidOut (by kernel_rfl) (of_decide_eq_true (by kernel_rfl)) E r (λx A=>V x (List.mem_append_right _ A)))};{rfl}
theorem over:Rows.usageRowsRow.holds Tryz.pinned (OpenSpec.ofChange Rows.usageRowsSpec):=
 OpenClaim.holds_of_wide 13 Tryz.f13 rfl rfl rfl rfl rfl rfl rfl ⟨rfl,rfl,rfl,rfl,rfl⟩ rfl rfl rfl rfl rfl (by kernel_rfl) Tryz.func13 joined
  (of_decide_eq_true (by kernel_rfl)) (by unfold Func.isWrapper;first|(rw [if_pos (by decide+kernel)];kernel_rfl)|(rw [if_neg (by decide+kernel)];exact ⟨rfl,rfl⟩))
  (λos r o enc _=>lifted os r o enc)
/-- The statement. -/
theorem proved:Rows.UsageRowsSaid:=
 over
#print axioms proved
end Go.Proofs.YtedcppikakinoaaGreat.usageRows
