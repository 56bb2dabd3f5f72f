/-
 What is proved: the law StateMoves returns true at every call, whatever the requests and the cleaner's move, in whatever memory. No condition.
 The frame is the kit's own shell (proof-skeleton.mjs), the walk stands in the texts ahead.
-/
import Derived.Test.YtlcojhddnpmgmaaGreatP37
import Derived.Test.YtlcojhddnpmgmaaGreatP38
import Derived.Test.YtlcojhddnpmgmaaGreatRows
set_option linter.unusedSimpArgs false
set_option linter.unusedVariables false
set_option maxRecDepth 100000
namespace Go.Proofs.YtlcojhddnpmgmaaGreat.stateMoves
open Go.ChangeShapes Go.WideShapes Go.ChangeAt Go.RowKit
theorem own:ownKnob Tryz.prog.godebug=none:=by kernel_rfl
theorem laidOut:laidOutB Tryz.prog=true:=by kernel_rfl
theorem rqV_of {H:Type} {enc:TypeId×Value→H} {W:World} {b0:Nat} {v:Value} {d:DataW H} {p:List MemPlace} (hv:Value.okWide Tryz.prog W .any b0 41 v) (h:DataW.Trod enc Tryz.prog W 0 (fun _=>true) true 41 v d p):∃y:RqV,v=.agg (y.1.1.cells y.2.1 y.2.2)∧RowsAt szC 4 W (fun _=>0) y.2.1 y.1.2.1∧RowsAt dlC 14 W (fun _=>0) y.2.2 y.1.2.2∧∀s∈y.1.2.1,stpGood s.1:=by
 obtain ⟨cs,rfl,hsz⟩:=okWide_struct Tryz.underlying41 hv;obtain ⟨l⟩:=cs;obtain ⟨fuel,hf⟩:=h;obtain ⟨x,e,hx⟩:=rq_of (cs:=l) hf;refine ⟨x,?_,hx⟩;rw [e];rfl
theorem lifted (os:Os) (started:os.Started) (H:Type) (enc:TypeId×Value→H):
  ReturnsInHanded {} Tryz.checked os 6 .any (Rows.stateMovesSpec.pre6 enc Tryz.prog Tryz.f6 Rows.stateMovesRow.domain false) (Rows.stateMovesSpec.post enc Tryz.prog Tryz.f6 false true false false):=by
 refine returnsInHanded_of_change (C:=Tryz.checked) own started (by kernel_rfl) Tryz.func6
  (ChangeSpec.witness6 (enc:=enc) (C:=Tryz.checked) false ⟨#[], #[.slice none 0 0,.agg #[.int .i64 0,.int .i64 0,.int .i64 0,.int .i64 0,.string ⟨#[]⟩,.string ⟨#[]⟩,.bool false,.bool false,.bool false,.int .i64 0,.int .i64 0,.int .i64 0,.slice none 0 0,.slice none 0 0]], []⟩ 8 (by kernel_rfl) (by kernel_rfl) (by kernel_rfl) (by kernel_rfl)) ?_
 intro W base args ds gs before hval0 hW hcnd _;have hval:∀(j:Nat) t v,Tryz.f6.params[j]? =some t→args[j]? =some v→Value.okWide Tryz.prog W .any base t v:=hval0;have hW':=hW;obtain ⟨p,q,hA0,hV,rfl,hfz,hnd⟩:=hW;have hA:DataW.TrodAll enc Tryz.prog W 0 (fun _=>true) true Tryz.f6.params.toList args.toList ds p:=hA0;rw [Tryz.params6] at hA hval;obtain ⟨v0,v1,d0,d1,p0,p1,rfl,rfl,rfl,h0,h1⟩:=trodAll_two hA;obtain ⟨rfl,rfl⟩:=trodVars_none hV;clear hA0 hval0;simp only [List.append_nil] at hW';obtain ⟨L0,hL0,hg0⟩:=rqs_of (hval 0 44 v0 rfl rfl) h0;obtain ⟨y1,hy1,hz1⟩:=rqV_of (hval 1 41 v1 rfl rfl) h1;have hlt:∀y∈p0++p1,y.block<W.heap.size:=fun y hy=>by simpa using hW'.lt y (by simpa using hy)
 have hcall:=stateMoves_ v0 L0 y1.1.1 y1.2.1 y1.2.2 y1.1.2.1 y1.1.2.2 W hL0 hg0 hz1.1 hz1.2.1 hz1.2.2;rw [← hy1] at hcall;refine hcall.mono fun e W' ⟨he,hg⟩=> ?_;subst he;have hb:=hg.below (Nat.le_refl _) (fun _ _ e=>e);refine ⟨_,rfl,_,_,_, [],p0++p1, [],hW',?_,?_,?_,hb.frame _,fun h=>by cases h⟩
 ·exact trodAll_cons_mk (shut_bool Tryz.underlying4 _) trodAll_mk0
 ·exact trodAll_mk2 (Below.trod laidOut (by kernel_rfl) (of_decide_eq_true (by kernel_rfl)) h0 hb (fun x hx=>hlt x (List.mem_append_left _ hx))) (Below.trod laidOut (by kernel_rfl) (of_decide_eq_true (by kernel_rfl)) h1 hb (fun x hx=>hlt x (List.mem_append_right _ hx)))
 ·rfl
theorem over:Rows.stateMovesRow.holds Tryz.pinned (OpenSpec.ofChange Rows.stateMovesSpec):=
 OpenClaim.holds_of_wide 6 Tryz.f6 rfl rfl rfl rfl rfl rfl rfl ⟨rfl,rfl,rfl,rfl,rfl⟩ rfl rfl rfl rfl rfl (by kernel_rfl) Tryz.func6 joined
  (of_decide_eq_true (by kernel_rfl)) (by unfold Func.isWrapper;first|(rw [if_pos (by decide+kernel)];kernel_rfl)|(rw [if_neg (by decide+kernel)];exact ⟨rfl,rfl⟩))
  (fun os started H enc _=>lifted os started H enc)
/-- The statement. -/
theorem proved:Rows.StateMovesSaid:=
 over
#print axioms proved
end Go.Proofs.YtlcojhddnpmgmaaGreat.stateMoves
