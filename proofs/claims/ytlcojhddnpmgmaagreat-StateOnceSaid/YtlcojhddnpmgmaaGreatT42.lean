/-
 What is proved: the law StateOnce returns true at every call, whatever the requests and the bytes, in whatever memory. No condition.
 The frame is the kit's own shell (proof-skeleton.mjs), the walk stands in the texts ahead.
-/
import Derived.Test.YtlcojhddnpmgmaaGreatT40
import Derived.Test.YtlcojhddnpmgmaaGreatT41
import Derived.Test.YtlcojhddnpmgmaaGreatRows
set_option linter.unusedSimpArgs false
set_option linter.unusedVariables false
set_option maxRecDepth 100000
namespace Go.Proofs.YtlcojhddnpmgmaaGreat.stateOnce
open Go.ChangeShapes Go.WideShapes Go.ChangeAt Go.RowKit
theorem own:ownKnob Tryz.prog.godebug=none:=by kernel_rfl
theorem laidOut:laidOutB Tryz.prog=true:=by kernel_rfl
theorem Tryz.cells5b:Tryz.prog.cellsOf 5=1:=by kernel_rfl
theorem u8e_of {H:Type} {enc:TypeId×Value→H} {W:World} {fuel:Nat} {cs:List Value} {y:DataW H×List MemPlace} (h:DataW.trod enc Tryz.prog W 0 (fun _=>true) true fuel 5 cs=some y):∃x:UInt8,cs=u8C x∧True:=by
 obtain ⟨m,hc,_,hw⟩:=DataW.trod_int Tryz.underlying5 h;have:=bounds_u8 hw;refine ⟨UInt8.ofNat m.toNat,?_,trivial⟩;rw [hc];unfold u8C;have e:((UInt8.ofNat m.toNat).toNat:Int)=m:=by
  rw [UInt8.toNat_ofNat'];omega
 rw [e]
theorem u8s_of {H:Type} {enc:TypeId×Value→H} {W:World} {b0:Nat} {v:Value} {d:DataW H} {p:List MemPlace} (hv:Value.okWide Tryz.prog W .any b0 27 v) (h:DataW.Trod enc Tryz.prog W 0 (fun _=>true) true 27 v d p):∃L:List UInt8,RowsAt u8C 1 W (fun _=>0) v L:=by
 obtain ⟨a',len',cap',rfl⟩:=okWide_slice Tryz.underlying27 hv;obtain ⟨fuel,hf⟩:=h;obtain ⟨L,base,cap,e,hg,hr⟩:=rows_open (enc:=enc) (W:=W) u8C (fun _=>True) Tryz.underlying27 Tryz.cells5b (by decide) (fun _=>rfl) u8e_of (v:=.slice a' len' cap') hf;exact ⟨L,⟨base,cap,e,fun hL=>by
  obtain ⟨b,off,e1,hb,hx⟩:=hr hL;exact ⟨b,off,e1,rfl,hb,hx⟩⟩⟩
theorem lifted (os:Os) (started:os.Started) (H:Type) (enc:TypeId×Value→H):
  ReturnsInHanded {} Tryz.checked os 11 .any (Rows.stateOnceSpec.pre6 enc Tryz.prog Tryz.f11 Rows.stateOnceRow.domain false) (Rows.stateOnceSpec.post enc Tryz.prog Tryz.f11 false true false false):=by
 refine returnsInHanded_of_change (C:=Tryz.checked) own started (by kernel_rfl) Tryz.func11
  (ChangeSpec.witness6 (enc:=enc) (C:=Tryz.checked) false ⟨#[], #[.slice none 0 0,.slice none 0 0], []⟩ 8 (by kernel_rfl) (by kernel_rfl) (by kernel_rfl) (by kernel_rfl)) ?_
 intro W base args ds gs before hval0 hW hcnd _;have hval:∀(j:Nat) t v,Tryz.f11.params[j]? =some t→args[j]? =some v→Value.okWide Tryz.prog W .any base t v:=hval0;have hW':=hW;obtain ⟨p,q,hA0,hV,rfl,hfz,hnd⟩:=hW;have hA:DataW.TrodAll enc Tryz.prog W 0 (fun _=>true) true Tryz.f11.params.toList args.toList ds p:=hA0;rw [Tryz.params11] at hA hval;obtain ⟨v0,v1,d0,d1,p0,p1,rfl,rfl,rfl,h0,h1⟩:=trodAll_two hA;obtain ⟨rfl,rfl⟩:=trodVars_none hV;clear hA0 hval0;simp only [List.append_nil] at hW';obtain ⟨L0,hL0,hg0⟩:=rqs_of (hval 0 44 v0 rfl rfl) h0;obtain ⟨L1,hL1⟩:=u8s_of (hval 1 27 v1 rfl rfl) h1;have hlt:∀y∈p0++p1,y.block<W.heap.size:=fun y hy=>by simpa using hW'.lt y (by simpa using hy)
 refine (stateOnce_ v0 L0 v1 L1 W hL0 hg0 hL1).mono fun e W' ⟨he,hg⟩=> ?_;subst he;have hb:=hg.below (Nat.le_refl _) (fun _ _ e=>e);refine ⟨_,rfl,_,_,_, [],p0++p1, [],hW',?_,?_,?_,hb.frame _,fun h=>by cases h⟩
 ·exact trodAll_cons_mk (shut_bool Tryz.underlying4 _) trodAll_mk0
 ·exact trodAll_mk2 (Below.trod laidOut (by kernel_rfl) (of_decide_eq_true (by kernel_rfl)) h0 hb (fun x hx=>hlt x (List.mem_append_left _ hx))) (Below.trod laidOut (by kernel_rfl) (of_decide_eq_true (by kernel_rfl)) h1 hb (fun x hx=>hlt x (List.mem_append_right _ hx)))
 ·rfl
theorem over:Rows.stateOnceRow.holds Tryz.pinned (OpenSpec.ofChange Rows.stateOnceSpec):=
 OpenClaim.holds_of_wide 11 Tryz.f11 rfl rfl rfl rfl rfl rfl rfl ⟨rfl,rfl,rfl,rfl,rfl⟩ rfl rfl rfl rfl rfl (by kernel_rfl) Tryz.func11 joined
  (of_decide_eq_true (by kernel_rfl)) (by unfold Func.isWrapper;first|(rw [if_pos (by decide+kernel)];kernel_rfl)|(rw [if_neg (by decide+kernel)];exact ⟨rfl,rfl⟩))
  (fun os started H enc _=>lifted os started H enc)
/-- The statement. -/
theorem proved:Rows.StateOnceSaid:=
 over
#print axioms proved
end Go.Proofs.YtlcojhddnpmgmaaGreat.stateOnce
