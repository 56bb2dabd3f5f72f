/- The reference's Print: the words of a 'begin', in whatever order they are made. -/
import Derived.Test.YtkcgijidgppeiaaDoorR4
import Derived.Test.YtkcgijidgppeiaaDoorR12
import Derived.Deep.RegionHeld3
namespace Go.Proofs.YtkcgijidgppeiaaDoor
open Go.RowKit
set_option linter.unusedSimpArgs false

def findReg (n : Nat) : Code → Option Code
  | .region m ops b => if m = n then some (.region m ops b) else none
  | .loop c => findReg n c
  | .seq a b => match findReg n a with
    | some c => some c
    | none => findReg n b
  | .block _ c => findReg n c
  | .scope c => findReg n c
  | .cond _ a b => match findReg n a with
    | some c => some c
    | none => findReg n b
  | _ => none
noncomputable def reg19 : Code := ((Tryd.f15.body.bind (findReg 19)).getD .skip)

theorem itoa_len (n : Int) (h : I64 n) : (Scr.itoaB n).size ≤ 20 := by
  have := Scr.itoa_len20 n h.1 h.2
  rw [size_list]; simp [Scr.itoaB]; omega

set_option maxRecDepth 1000000 in
set_option maxHeartbeats 20000000 in
theorem begin_region (x : Scr.Ev) (sb0 : ByteArray) (b5 : Nat) (oa va : Option Addr) (ol oc vl vc : Nat) (w5 wb : World) (hk5 : w5.heap[b5]? = some (.cells #[.int .i64 x.kind, .int .i64 x.node, .int .i64 x.fate, .int .i64 x.n, .int .i64 x.op.kind, .string ⟨x.op.path.toArray⟩, .string ⟨x.op.to.toArray⟩, .int .i64 x.op.handle, .int .i64 x.op.pos, .int .i64 x.op.n, .bool x.op.writes, .slice oa ol oc, .slice va vl vc] 47 (0, 0))) (G5 : Fr No w5 wb) (e8 : 8 ≤ w5.heap.size)
    (hsO : SlAt w5 (.slice oa ol oc) x.op.b) (iok : I64 x.op.kind) (ihd : I64 x.op.handle) (ipos : I64 x.op.pos) (ion : I64 x.op.n) (lp : x.op.path.length ≤ 1048576) (lt : x.op.to.length ≤ 1048576) (lb : x.op.b.length ≤ 1048576) (zs : sb0.size ≤ 5000000)
    (u0 u1 u2 u3 u4 u5 u6 u7 u8 u12 u13 u14 u15 u16 u17 u18 u19 u20 u21 u22 u23 u24 u25 u26 u27 u28 u29 u30 u31 u32 u33 u34 u35 u36 u37 u38 u39 u40 u41 u42 u43 u44 u45 u46 u47 u48 u49 u50 u51 u52 u53 u54 u55 u56 u57 u58 u59 u60 u61 u62 u63 u64 u65 u66 u67 u68 u69 u70 u71 u72 u73 u74 u75 u76 u77 u78 u79 u80 u81 u82 u83 u84 u85 u86 u87 u88 u89 u90 u91 u92 u93 u94 u95 u96 u97 u98 u99 u100 u101 u102 u103 u104 u105 u106 u107 u108 u109 u110 u111 u112 u113 u114 u115 u116 u117 u118 u119 u120 u121 u122 u123 u124 u125 u126 u127 u128 u129 u130 u131 u132 u133 u134 u135 u136 u137 u138 u139 u140 u141 u142 u143 u144 u145 u146 u147 u148 u149 u150 u151 u152 u153 u154 u155 u156 u157 u158 u159 u160 u161 u162 u163 u164 u165 u166 u167 u168 u169 u170 u171 u172 u173 u174 u175 u176 : Value) (Q : Exit → Act → World → Prop) (hP : ∀ c i v a w, Q (.panic c) (Act.put a i v) w → Q (.panic c) a w)
    (hQ : ∀ (v84 v85 v86 v87 v88 v89 v90 v91 v92 v93 v94 v95 v96 v97 v98 v99 v100 v101 v102 v103 v104 v105 v106 v107 v108 v109 v110 v111 v112 v113 v114 v115 v116 v117 v118 v119 v120 v121 v122 v123 v124 v125 v126 v127 v128 v129 v130 v131 v132 : Value) (w' : World), Fr No w5 w' → Q .normal ⟨#[u0, u1, u2, u3, u4, u5, u6, u7, u8, .pointer (some ⟨b5, 0, none⟩), .string (sb0 ++ ⟨#[32]⟩ ++ Scr.itoaB x.op.kind ++ ⟨#[32]⟩ ++ Scr.hexB x.op.path ++ ⟨#[32]⟩ ++ Scr.hexB x.op.to ++ ⟨#[32]⟩ ++ Scr.itoaB x.op.handle ++ ⟨#[32]⟩ ++ Scr.itoaB x.op.pos ++ ⟨#[32]⟩ ++ Scr.itoaB x.op.n ++ ⟨#[32]⟩ ++ Scr.bitB x.op.writes ++ ⟨#[32]⟩ ++ Scr.hexB x.op.b), .string (Scr.bitB x.op.writes), u12, u13, u14, u15, u16, u17, u18, u19, u20, u21, u22, u23, u24, u25, u26, u27, u28, u29, u30, u31, u32, u33, u34, u35, u36, u37, u38, u39, u40, u41, u42, u43, u44, u45, u46, u47, u48, u49, u50, u51, u52, u53, u54, u55, u56, u57, u58, u59, u60, u61, u62, u63, u64, u65, u66, u67, u68, u69, u70, u71, u72, u73, u74, u75, u76, u77, u78, u79, u80, u81, u82, u83, v84, v85, v86, v87, v88, v89, v90, v91, v92, v93, v94, v95, v96, v97, v98, v99, v100, v101, v102, v103, v104, v105, v106, v107, v108, v109, v110, v111, v112, v113, v114, v115, v116, v117, v118, v119, v120, v121, v122, v123, v124, v125, v126, v127, v128, v129, v130, v131, v132, u133, u134, u135, u136, u137, u138, u139, u140, u141, u142, u143, u144, u145, u146, u147, u148, u149, u150, u151, u152, u153, u154, u155, u156, u157, u158, u159, u160, u161, u162, u163, u164, u165, u166, u167, u168, u169, u170, u171, u172, u173, u174, u175, u176], []⟩ w') :
    Code.wp Tryd.prog reg19 Q ⟨#[u0, u1, u2, u3, u4, u5, u6, u7, u8, .pointer (some ⟨b5, 0, none⟩), .string sb0, .string (Scr.bitB x.op.writes), u12, u13, u14, u15, u16, u17, u18, u19, u20, u21, u22, u23, u24, u25, u26, u27, u28, u29, u30, u31, u32, u33, u34, u35, u36, u37, u38, u39, u40, u41, u42, u43, u44, u45, u46, u47, u48, u49, u50, u51, u52, u53, u54, u55, u56, u57, u58, u59, u60, u61, u62, u63, u64, u65, u66, u67, u68, u69, u70, u71, u72, u73, u74, u75, u76, u77, u78, u79, u80, u81, u82, u83, u84, u85, u86, u87, u88, u89, u90, u91, u92, u93, u94, u95, u96, u97, u98, u99, u100, u101, u102, u103, u104, u105, u106, u107, u108, u109, u110, u111, u112, u113, u114, u115, u116, u117, u118, u119, u120, u121, u122, u123, u124, u125, u126, u127, u128, u129, u130, u131, u132, u133, u134, u135, u136, u137, u138, u139, u140, u141, u142, u143, u144, u145, u146, u147, u148, u149, u150, u151, u152, u153, u154, u155, u156, u157, u158, u159, u160, u161, u162, u163, u164, u165, u166, u167, u168, u169, u170, u171, u172, u173, u174, u175, u176], []⟩ wb := by
  conv => arg 2; whnf
  have HK5 := Lib.hid hk5
  have HQ := Lib.hid hQ
  have HSO := Lib.hid hsO
  have HP := Lib.hid hP
  clear hk5 hQ hsO hP
  have z4 := itoa_len _ iok
  have z7 := itoa_len _ ihd
  have z8 := itoa_len _ ipos
  have z9 := itoa_len _ ion
  have zp := hex_size _ lp
  have zt := hex_size _ lt
  have zb := hex_size _ lb
  have b8 : 8 ≤ wb.heap.size := Nat.le_trans e8 G5.size
  have hcv := conv_
  have zbit : (Scr.bitB x.op.writes).size ≤ 1 := by cases x.op.writes <;> decide
  have d4 : wb.cell? ⟨b5, 4, none⟩ = some (.int .i64 x.op.kind) := by rw [cell_at (G5.block_of HK5.out id)]; rfl
  have d5 : wb.cell? ⟨b5, 5, none⟩ = some (.string ⟨x.op.path.toArray⟩) := by rw [cell_at (G5.block_of HK5.out id)]; rfl
  have d6 : wb.cell? ⟨b5, 6, none⟩ = some (.string ⟨x.op.to.toArray⟩) := by rw [cell_at (G5.block_of HK5.out id)]; rfl
  have d7 : wb.cell? ⟨b5, 7, none⟩ = some (.int .i64 x.op.handle) := by rw [cell_at (G5.block_of HK5.out id)]; rfl
  have d8 : wb.cell? ⟨b5, 8, none⟩ = some (.int .i64 x.op.pos) := by rw [cell_at (G5.block_of HK5.out id)]; rfl
  have d9 : wb.cell? ⟨b5, 9, none⟩ = some (.int .i64 x.op.n) := by rw [cell_at (G5.block_of HK5.out id)]; rfl
  have d11 : wb.cell? ⟨b5, 11, none⟩ = some (.slice oa ol oc) := by rw [cell_at (G5.block_of HK5.out id)]; rfl
  have qg1 : ¬ (9223372036854775807 < sb0.size + 1) := by omega
  have qg2 : ¬ (9223372036854775807 < sb0.size + 1 + (Scr.itoaB x.op.kind).size) := by omega
  have qg3 : ¬ (9223372036854775807 < sb0.size + 1 + (Scr.itoaB x.op.kind).size + 1) := by omega
  have qg4 : ¬ (9223372036854775807 < sb0.size + 1 + (Scr.itoaB x.op.kind).size + 1 + (Scr.hexB x.op.path).size) := by omega
  have qg5 : ¬ (9223372036854775807 < sb0.size + 1 + (Scr.itoaB x.op.kind).size + 1 + (Scr.hexB x.op.path).size + 1) := by omega
  have qg6 : ¬ (9223372036854775807 < sb0.size + 1 + (Scr.itoaB x.op.kind).size + 1 + (Scr.hexB x.op.path).size + 1 + (Scr.hexB x.op.to).size) := by omega
  have qg7 : ¬ (9223372036854775807 < sb0.size + 1 + (Scr.itoaB x.op.kind).size + 1 + (Scr.hexB x.op.path).size + 1 + (Scr.hexB x.op.to).size + 1) := by omega
  have qg8 : ¬ (9223372036854775807 < sb0.size + 1 + (Scr.itoaB x.op.kind).size + 1 + (Scr.hexB x.op.path).size + 1 + (Scr.hexB x.op.to).size + 1 + (Scr.itoaB x.op.handle).size) := by omega
  have qg9 : ¬ (9223372036854775807 < sb0.size + 1 + (Scr.itoaB x.op.kind).size + 1 + (Scr.hexB x.op.path).size + 1 + (Scr.hexB x.op.to).size + 1 + (Scr.itoaB x.op.handle).size + 1) := by omega
  have qg10 : ¬ (9223372036854775807 < sb0.size + 1 + (Scr.itoaB x.op.kind).size + 1 + (Scr.hexB x.op.path).size + 1 + (Scr.hexB x.op.to).size + 1 + (Scr.itoaB x.op.handle).size + 1 + (Scr.itoaB x.op.pos).size) := by omega
  have qg11 : ¬ (9223372036854775807 < sb0.size + 1 + (Scr.itoaB x.op.kind).size + 1 + (Scr.hexB x.op.path).size + 1 + (Scr.hexB x.op.to).size + 1 + (Scr.itoaB x.op.handle).size + 1 + (Scr.itoaB x.op.pos).size + 1) := by omega
  have qg12 : ¬ (9223372036854775807 < sb0.size + 1 + (Scr.itoaB x.op.kind).size + 1 + (Scr.hexB x.op.path).size + 1 + (Scr.hexB x.op.to).size + 1 + (Scr.itoaB x.op.handle).size + 1 + (Scr.itoaB x.op.pos).size + 1 + (Scr.itoaB x.op.n).size) := by omega
  have qg13 : ¬ (9223372036854775807 < sb0.size + 1 + (Scr.itoaB x.op.kind).size + 1 + (Scr.hexB x.op.path).size + 1 + (Scr.hexB x.op.to).size + 1 + (Scr.itoaB x.op.handle).size + 1 + (Scr.itoaB x.op.pos).size + 1 + (Scr.itoaB x.op.n).size + 1) := by omega
  have qg14 : ¬ (9223372036854775807 < sb0.size + 1 + (Scr.itoaB x.op.kind).size + 1 + (Scr.hexB x.op.path).size + 1 + (Scr.hexB x.op.to).size + 1 + (Scr.itoaB x.op.handle).size + 1 + (Scr.itoaB x.op.pos).size + 1 + (Scr.itoaB x.op.n).size + 1 + (Scr.bitB x.op.writes).size) := by omega
  have qg15 : ¬ (9223372036854775807 < sb0.size + 1 + (Scr.itoaB x.op.kind).size + 1 + (Scr.hexB x.op.path).size + 1 + (Scr.hexB x.op.to).size + 1 + (Scr.itoaB x.op.handle).size + 1 + (Scr.itoaB x.op.pos).size + 1 + (Scr.itoaB x.op.n).size + 1 + (Scr.bitB x.op.writes).size + 1) := by omega
  have qg16 : ¬ (9223372036854775807 < sb0.size + 1 + (Scr.itoaB x.op.kind).size + 1 + (Scr.hexB x.op.path).size + 1 + (Scr.hexB x.op.to).size + 1 + (Scr.itoaB x.op.handle).size + 1 + (Scr.itoaB x.op.pos).size + 1 + (Scr.itoaB x.op.n).size + 1 + (Scr.bitB x.op.writes).size + 1 + (Scr.hexB x.op.b).size) := by omega
  clear z4 z7 z8 z9 zp zt zb zbit zs
  refine wp_region_held_drew (S := fun w' => w'.cell? ⟨b5, 4, none⟩ = some (.int .i64 x.op.kind) ∧ w'.cell? ⟨b5, 5, none⟩ = some (.string ⟨x.op.path.toArray⟩) ∧ w'.cell? ⟨b5, 6, none⟩ = some (.string ⟨x.op.to.toArray⟩) ∧ w'.cell? ⟨b5, 7, none⟩ = some (.int .i64 x.op.handle) ∧ w'.cell? ⟨b5, 8, none⟩ = some (.int .i64 x.op.pos) ∧ w'.cell? ⟨b5, 9, none⟩ = some (.int .i64 x.op.n) ∧ w'.cell? ⟨b5, 11, none⟩ = some (.slice oa ol oc) ∧ 8 ≤ w'.heap.size) (by as_aux_lemma => kernel_rfl) ⟨d4, d5, d6, d7, d8, d9, d11, b8⟩ (fun hHeld => ?_)
  clear d4 d5 d6 d7 d8 d9 d11
  have R0 : Fr No w5 wb.drew := G5.drew
  refine wpAnyH_take (i := 0) (v := ?_) rfl (by as_aux_lemma => kernel_rfl) (by as_aux_lemma => kernel_rfl) (by as_aux_lemma => kernel_rfl) (fun _ _ _ h => HP.out _ _ _ _ _ h) (Or.inl ⟨by rfl, ?_⟩) (by assumption) ?_
  rotate_left
  · (intro w' hSw; (try dsimp only at hSw); go_simp; (try with_reducible rfl))
  try simp only [Act.put, List.setIfInBounds_toArray, List.set_cons_zero, List.set_cons_succ]
  refine wpAnyH_take (i := 1) (v := ?_) rfl (by as_aux_lemma => kernel_rfl) (by as_aux_lemma => kernel_rfl) (by as_aux_lemma => kernel_rfl) (fun _ _ _ h => HP.out _ _ _ _ _ h) (Or.inl ⟨by rfl, ?_⟩) (by assumption) ?_
  rotate_left
  · (intro w' hSw; (try dsimp only at hSw); go_simp; (try with_reducible rfl))
  try simp only [Act.put, List.setIfInBounds_toArray, List.set_cons_zero, List.set_cons_succ]
  refine wpAnyH_take (i := 2) (v := ?_) rfl (by as_aux_lemma => kernel_rfl) (by as_aux_lemma => kernel_rfl) (by as_aux_lemma => kernel_rfl) (fun _ _ _ h => HP.out _ _ _ _ _ h) (Or.inl ⟨by rfl, ?_⟩) (by assumption) ?_
  rotate_left
  · (intro w' hSw; (try dsimp only at hSw); go_simp; (try with_reducible rfl))
  try simp only [Act.put, List.setIfInBounds_toArray, List.set_cons_zero, List.set_cons_succ]
  refine wpAnyH_take (i := 3) (v := ?_) rfl (by as_aux_lemma => kernel_rfl) (by as_aux_lemma => kernel_rfl) (by as_aux_lemma => kernel_rfl) (fun _ _ _ h => HP.out _ _ _ _ _ h) (Or.inl ⟨by rfl, ?_⟩) (by assumption) ?_
  rotate_left
  · (intro w' hSw; (try dsimp only at hSw); go_simp; (try with_reducible rfl))
  try simp only [Act.put, List.setIfInBounds_toArray, List.set_cons_zero, List.set_cons_succ]
  refine wpAnyH_take (i := 4) (v := ?_) rfl (by as_aux_lemma => kernel_rfl) (by as_aux_lemma => kernel_rfl) (by as_aux_lemma => kernel_rfl) (fun _ _ _ h => HP.out _ _ _ _ _ h) (Or.inl ⟨by rfl, ?_⟩) (by assumption) ?_
  rotate_left
  · (intro w' hSw; (try dsimp only at hSw); go_simp; (try with_reducible rfl))
  try simp only [Act.put, List.setIfInBounds_toArray, List.set_cons_zero, List.set_cons_succ]
  refine wpAnyH_take (i := 8) (v := ?_) rfl (by as_aux_lemma => kernel_rfl) (by as_aux_lemma => kernel_rfl) (by as_aux_lemma => kernel_rfl) (fun _ _ _ h => HP.out _ _ _ _ _ h) (Or.inl ⟨by rfl, ?_⟩) (by assumption) ?_
  rotate_left
  · (intro w' hSw; (try dsimp only at hSw); go_simp; (try with_reducible rfl))
  try simp only [Act.put, List.setIfInBounds_toArray, List.set_cons_zero, List.set_cons_succ]
  refine wpAnyH_take (i := 9) (v := ?_) rfl (by as_aux_lemma => kernel_rfl) (by as_aux_lemma => kernel_rfl) (by as_aux_lemma => kernel_rfl) (fun _ _ _ h => HP.out _ _ _ _ _ h) (Or.inl ⟨by rfl, ?_⟩) (by assumption) ?_
  rotate_left
  · (intro w' hSw; (try dsimp only at hSw); go_simp; (try with_reducible rfl))
  try simp only [Act.put, List.setIfInBounds_toArray, List.set_cons_zero, List.set_cons_succ]
  refine wpAnyH_take (i := 10) (v := ?_) rfl (by as_aux_lemma => kernel_rfl) (by as_aux_lemma => kernel_rfl) (by as_aux_lemma => kernel_rfl) (fun _ _ _ h => HP.out _ _ _ _ _ h) (Or.inl ⟨by rfl, ?_⟩) (by assumption) ?_
  rotate_left
  · (intro w' hSw; (try dsimp only at hSw); go_simp; (try with_reducible rfl))
  try simp only [Act.put, List.setIfInBounds_toArray, List.set_cons_zero, List.set_cons_succ]
  refine wpAnyH_take (i := 15) (v := ?_) rfl (by as_aux_lemma => kernel_rfl) (by as_aux_lemma => kernel_rfl) (by as_aux_lemma => kernel_rfl) (fun _ _ _ h => HP.out _ _ _ _ _ h) (Or.inl ⟨by rfl, ?_⟩) (by assumption) ?_
  rotate_left
  · (intro w' hSw; (try dsimp only at hSw); go_simp; (try with_reducible rfl))
  try simp only [Act.put, List.setIfInBounds_toArray, List.set_cons_zero, List.set_cons_succ]
  refine wpAnyH_take (i := 16) (v := ?_) rfl (by as_aux_lemma => kernel_rfl) (by as_aux_lemma => kernel_rfl) (by as_aux_lemma => kernel_rfl) (fun _ _ _ h => HP.out _ _ _ _ _ h) (Or.inl ⟨by rfl, ?_⟩) (by assumption) ?_
  rotate_left
  · (intro w' hSw; (try dsimp only at hSw); go_simp; (try with_reducible rfl))
  try simp only [Act.put, List.setIfInBounds_toArray, List.set_cons_zero, List.set_cons_succ]
  refine wpAnyH_take (i := 17) (v := ?_) rfl (by as_aux_lemma => kernel_rfl) (by as_aux_lemma => kernel_rfl) (by as_aux_lemma => kernel_rfl) (fun _ _ _ h => HP.out _ _ _ _ _ h) (Or.inl ⟨by rfl, ?_⟩) (by assumption) ?_
  rotate_left
  · (intro w' hSw; (try dsimp only at hSw); go_simp; (try with_reducible rfl))
  try simp only [Act.put, List.setIfInBounds_toArray, List.set_cons_zero, List.set_cons_succ]
  refine wpAnyH_take (i := 22) (v := ?_) rfl (by as_aux_lemma => kernel_rfl) (by as_aux_lemma => kernel_rfl) (by as_aux_lemma => kernel_rfl) (fun _ _ _ h => HP.out _ _ _ _ _ h) (Or.inl ⟨by rfl, ?_⟩) (by assumption) ?_
  rotate_left
  · (intro w' hSw; (try dsimp only at hSw); go_simp; (try with_reducible rfl))
  try simp only [Act.put, List.setIfInBounds_toArray, List.set_cons_zero, List.set_cons_succ]
  refine wpAnyH_take (i := 23) (v := ?_) rfl (by as_aux_lemma => kernel_rfl) (by as_aux_lemma => kernel_rfl) (by as_aux_lemma => kernel_rfl) (fun _ _ _ h => HP.out _ _ _ _ _ h) (Or.inl ⟨by rfl, ?_⟩) (by assumption) ?_
  rotate_left
  · (intro w' hSw; (try dsimp only at hSw); go_simp; (try with_reducible rfl))
  try simp only [Act.put, List.setIfInBounds_toArray, List.set_cons_zero, List.set_cons_succ]
  refine wpAnyH_take (i := 24) (v := ?_) rfl (by as_aux_lemma => kernel_rfl) (by as_aux_lemma => kernel_rfl) (by as_aux_lemma => kernel_rfl) (fun _ _ _ h => HP.out _ _ _ _ _ h) (Or.inl ⟨by rfl, ?_⟩) (by assumption) ?_
  rotate_left
  · (intro w' hSw; (try dsimp only at hSw); go_simp; (try with_reducible rfl))
  try simp only [Act.put, List.setIfInBounds_toArray, List.set_cons_zero, List.set_cons_succ]
  refine wpAnyH_take (i := 28) (v := ?_) rfl (by as_aux_lemma => kernel_rfl) (by as_aux_lemma => kernel_rfl) (by as_aux_lemma => kernel_rfl) (fun _ _ _ h => HP.out _ _ _ _ _ h) (Or.inl ⟨by rfl, ?_⟩) (by assumption) ?_
  rotate_left
  · (intro w' hSw; (try dsimp only at hSw); go_simp; (try with_reducible rfl))
  try simp only [Act.put, List.setIfInBounds_toArray, List.set_cons_zero, List.set_cons_succ]
  refine wpAnyH_take (i := 29) (v := ?_) rfl (by as_aux_lemma => kernel_rfl) (by as_aux_lemma => kernel_rfl) (by as_aux_lemma => kernel_rfl) (fun _ _ _ h => HP.out _ _ _ _ _ h) (Or.inl ⟨by rfl, ?_⟩) (by assumption) ?_
  rotate_left
  · (intro w' hSw; (try dsimp only at hSw); go_simp; (try with_reducible rfl))
  try simp only [Act.put, List.setIfInBounds_toArray, List.set_cons_zero, List.set_cons_succ]
  refine wpAnyH_take (i := 30) (v := ?_) rfl (by as_aux_lemma => kernel_rfl) (by as_aux_lemma => kernel_rfl) (by as_aux_lemma => kernel_rfl) (fun _ _ _ h => HP.out _ _ _ _ _ h) (Or.inl ⟨by rfl, ?_⟩) (by assumption) ?_
  rotate_left
  · (intro w' hSw; (try dsimp only at hSw); go_simp; (try with_reducible rfl))
  try simp only [Act.put, List.setIfInBounds_toArray, List.set_cons_zero, List.set_cons_succ]
  refine wpAnyH_take (i := 34) (v := ?_) rfl (by as_aux_lemma => kernel_rfl) (by as_aux_lemma => kernel_rfl) (by as_aux_lemma => kernel_rfl) (fun _ _ _ h => HP.out _ _ _ _ _ h) (Or.inl ⟨by rfl, ?_⟩) (by assumption) ?_
  rotate_left
  · (intro w' hSw; (try dsimp only at hSw); go_simp; (try with_reducible rfl))
  try simp only [Act.put, List.setIfInBounds_toArray, List.set_cons_zero, List.set_cons_succ]
  refine wpAnyH_take (i := 35) (v := ?_) rfl (by as_aux_lemma => kernel_rfl) (by as_aux_lemma => kernel_rfl) (by as_aux_lemma => kernel_rfl) (fun _ _ _ h => HP.out _ _ _ _ _ h) (Or.inl ⟨by rfl, ?_⟩) (by assumption) ?_
  rotate_left
  · (intro w' hSw; (try dsimp only at hSw); go_simp; (try with_reducible rfl))
  try simp only [Act.put, List.setIfInBounds_toArray, List.set_cons_zero, List.set_cons_succ]
  refine wpAnyH_take (i := 36) (v := ?_) rfl (by as_aux_lemma => kernel_rfl) (by as_aux_lemma => kernel_rfl) (by as_aux_lemma => kernel_rfl) (fun _ _ _ h => HP.out _ _ _ _ _ h) (Or.inl ⟨by rfl, ?_⟩) (by assumption) ?_
  rotate_left
  · (intro w' hSw; (try dsimp only at hSw); go_simp; (try with_reducible rfl))
  try simp only [Act.put, List.setIfInBounds_toArray, List.set_cons_zero, List.set_cons_succ]
  refine wpAnyH_take (i := 40) (v := ?_) rfl (by as_aux_lemma => kernel_rfl) (by as_aux_lemma => kernel_rfl) (by as_aux_lemma => kernel_rfl) (fun _ _ _ h => HP.out _ _ _ _ _ h) (Or.inl ⟨by rfl, ?_⟩) (by assumption) ?_
  rotate_left
  · (intro w' hSw; (try dsimp only at hSw); go_simp; (try with_reducible rfl))
  try simp only [Act.put, List.setIfInBounds_toArray, List.set_cons_zero, List.set_cons_succ]
  refine wpAnyH_take (i := 43) (v := ?_) rfl (by as_aux_lemma => kernel_rfl) (by as_aux_lemma => kernel_rfl) (by as_aux_lemma => kernel_rfl) (fun _ _ _ h => HP.out _ _ _ _ _ h) (Or.inl ⟨by rfl, ?_⟩) (by assumption) ?_
  rotate_left
  · (intro w' hSw; (try dsimp only at hSw); go_simp; (try with_reducible rfl))
  try simp only [Act.put, List.setIfInBounds_toArray, List.set_cons_zero, List.set_cons_succ]
  refine wpAnyH_take (i := 44) (v := ?_) rfl (by as_aux_lemma => kernel_rfl) (by as_aux_lemma => kernel_rfl) (by as_aux_lemma => kernel_rfl) (fun _ _ _ h => HP.out _ _ _ _ _ h) (Or.inl ⟨by rfl, ?_⟩) (by assumption) ?_
  rotate_left
  · (intro w' hSw; (try dsimp only at hSw); go_simp; (try with_reducible rfl))
  try simp only [Act.put, List.setIfInBounds_toArray, List.set_cons_zero, List.set_cons_succ]
  refine wpAnyH_take (i := 45) (v := ?_) rfl (by as_aux_lemma => kernel_rfl) (by as_aux_lemma => kernel_rfl) (by as_aux_lemma => kernel_rfl) (fun _ _ _ h => HP.out _ _ _ _ _ h) (Or.inl ⟨by rfl, ?_⟩) (by assumption) ?_
  rotate_left
  · (intro w' hSw; (try dsimp only at hSw); go_simp; (try with_reducible rfl))
  try simp only [Act.put, List.setIfInBounds_toArray, List.set_cons_zero, List.set_cons_succ]
  refine wpAnyH_ready (rs := [5, 11, 18]) (by as_aux_lemma => kernel_rfl) (by simp) ?_
  refine AllReadyH.cons rfl (fun K hK => ?_) (AllReadyH.cons rfl (fun K hK => ?_) (AllReadyH.cons rfl (fun K hK => ?_) AllReadyH.nil))
  · go_simp
    go_wp2_with (go_at_call 35; refine (int_ _ _ hHeld.2.2.2.2.2.2.2 iok).mono ?_; rintro e v1 ⟨rfl, g1⟩)
    refine hK.out _ _ ⟨g1.cell_of hHeld.1 id, g1.cell_of hHeld.2.1 id, g1.cell_of hHeld.2.2.1 id, g1.cell_of hHeld.2.2.2.1 id, g1.cell_of hHeld.2.2.2.2.1 id, g1.cell_of hHeld.2.2.2.2.2.1 id, g1.cell_of hHeld.2.2.2.2.2.2.1 id, Nat.le_trans hHeld.2.2.2.2.2.2.2 g1.size⟩ (fun hHeld => ?_)
    clear hK K
    try simp only [Act.put, List.setIfInBounds_toArray, List.set_cons_zero, List.set_cons_succ]
    have R1 := R0.trans g1 (fun _ _ e => e)
    refine wpAnyH_take (i := 6) (v := ?_) rfl (by as_aux_lemma => kernel_rfl) (by as_aux_lemma => kernel_rfl) (by as_aux_lemma => kernel_rfl) (fun _ _ _ h => HP.out _ _ _ _ _ h) (Or.inl ⟨by rfl, ?_⟩) (by assumption) ?_
    rotate_left
    · (intro w' hSw; (try dsimp only at hSw); go_simp; (try with_reducible rfl))
    try simp only [Act.put, List.setIfInBounds_toArray, List.set_cons_zero, List.set_cons_succ]
    refine wpAnyH_take (i := 7) (v := ?_) rfl (by as_aux_lemma => kernel_rfl) (by as_aux_lemma => kernel_rfl) (by as_aux_lemma => kernel_rfl) (fun _ _ _ h => HP.out _ _ _ _ _ h) (Or.inl ⟨by rfl, ?_⟩) (by assumption) ?_
    rotate_left
    · (intro w' hSw; (try dsimp only at hSw); go_simp; (try with_reducible rfl))
    try simp only [Act.put, List.setIfInBounds_toArray, List.set_cons_zero, List.set_cons_succ]
    refine wpAnyH_ready (rs := [11, 18]) (by as_aux_lemma => kernel_rfl) (by simp) ?_
    refine AllReadyH.cons rfl (fun K hK => ?_) (AllReadyH.cons rfl (fun K hK => ?_) AllReadyH.nil)
    · go_simp
      refine hK.out _ _ ⟨((Fr.refl (S := No) _).conv _).cell_of hHeld.1 id, ((Fr.refl (S := No) _).conv _).cell_of hHeld.2.1 id, ((Fr.refl (S := No) _).conv _).cell_of hHeld.2.2.1 id, ((Fr.refl (S := No) _).conv _).cell_of hHeld.2.2.2.1 id, ((Fr.refl (S := No) _).conv _).cell_of hHeld.2.2.2.2.1 id, ((Fr.refl (S := No) _).conv _).cell_of hHeld.2.2.2.2.2.1 id, ((Fr.refl (S := No) _).conv _).cell_of hHeld.2.2.2.2.2.2.1 id, Nat.le_trans hHeld.2.2.2.2.2.2.2 ((Fr.refl (S := No) _).conv _).size⟩ (fun hHeld => ?_)
      clear hK K
      try simp only [Act.put, List.setIfInBounds_toArray, List.set_cons_zero, List.set_cons_succ]
      have R2 := R1.conv ⟨x.op.path.toArray⟩
      have P2 := slat_conv _ x.op.path _ _ rfl rfl (Nat.le_trans e8 R1.size)
      refine wpAnyH_ready (rs := [12, 18]) (by as_aux_lemma => kernel_rfl) (by simp) ?_
      refine AllReadyH.cons rfl (fun K hK => ?_) (AllReadyH.cons rfl (fun K hK => ?_) AllReadyH.nil)
      · go_simp
        go_wp2_with (go_at_call 36; refine (rhex_ x.op.path _ _ P2 hHeld.2.2.2.2.2.2.2 lp).mono ?_; rintro e v3 ⟨rfl, g3⟩)
        refine hK.out _ _ ⟨g3.cell_of hHeld.1 id, g3.cell_of hHeld.2.1 id, g3.cell_of hHeld.2.2.1 id, g3.cell_of hHeld.2.2.2.1 id, g3.cell_of hHeld.2.2.2.2.1 id, g3.cell_of hHeld.2.2.2.2.2.1 id, g3.cell_of hHeld.2.2.2.2.2.2.1 id, Nat.le_trans hHeld.2.2.2.2.2.2.2 g3.size⟩ (fun hHeld => ?_)
        clear hK K
        try simp only [Act.put, List.setIfInBounds_toArray, List.set_cons_zero, List.set_cons_succ]
        have R3 := R2.trans g3 (fun _ _ e => e)
        refine wpAnyH_take (i := 13) (v := ?_) rfl (by as_aux_lemma => kernel_rfl) (by as_aux_lemma => kernel_rfl) (by as_aux_lemma => kernel_rfl) (fun _ _ _ h => HP.out _ _ _ _ _ h) (Or.inl ⟨by rfl, ?_⟩) (by assumption) ?_
        rotate_left
        · (intro w' hSw; (try dsimp only at hSw); go_simp; (try with_reducible rfl))
        try simp only [Act.put, List.setIfInBounds_toArray, List.set_cons_zero, List.set_cons_succ]
        refine wpAnyH_take (i := 14) (v := ?_) rfl (by as_aux_lemma => kernel_rfl) (by as_aux_lemma => kernel_rfl) (by as_aux_lemma => kernel_rfl) (fun _ _ _ h => HP.out _ _ _ _ _ h) (Or.inl ⟨by rfl, ?_⟩) (by assumption) ?_
        rotate_left
        · (intro w' hSw; (try dsimp only at hSw); go_simp; (try with_reducible rfl))
        try simp only [Act.put, List.setIfInBounds_toArray, List.set_cons_zero, List.set_cons_succ]
        refine wpAnyH_ready (rs := [18]) (by as_aux_lemma => kernel_rfl) (by simp) ?_
        refine AllReadyH.cons rfl (fun K hK => ?_) AllReadyH.nil
        go_simp
        refine hK.out _ _ ⟨((Fr.refl (S := No) _).conv _).cell_of hHeld.1 id, ((Fr.refl (S := No) _).conv _).cell_of hHeld.2.1 id, ((Fr.refl (S := No) _).conv _).cell_of hHeld.2.2.1 id, ((Fr.refl (S := No) _).conv _).cell_of hHeld.2.2.2.1 id, ((Fr.refl (S := No) _).conv _).cell_of hHeld.2.2.2.2.1 id, ((Fr.refl (S := No) _).conv _).cell_of hHeld.2.2.2.2.2.1 id, ((Fr.refl (S := No) _).conv _).cell_of hHeld.2.2.2.2.2.2.1 id, Nat.le_trans hHeld.2.2.2.2.2.2.2 ((Fr.refl (S := No) _).conv _).size⟩ (fun hHeld => ?_)
        clear hK K
        try simp only [Act.put, List.setIfInBounds_toArray, List.set_cons_zero, List.set_cons_succ]
        have R4 := R3.conv ⟨x.op.to.toArray⟩
        have T4 := slat_conv _ x.op.to _ _ rfl rfl (Nat.le_trans e8 R3.size)
        refine wpAnyH_ready (rs := [19]) (by as_aux_lemma => kernel_rfl) (by simp) ?_
        refine AllReadyH.cons rfl (fun K hK => ?_) AllReadyH.nil
        go_simp
        go_wp2_with (go_at_call 36; refine (rhex_ x.op.to _ _ T4 hHeld.2.2.2.2.2.2.2 lt).mono ?_; rintro e v5 ⟨rfl, g5⟩)
        refine hK.out _ _ ⟨g5.cell_of hHeld.1 id, g5.cell_of hHeld.2.1 id, g5.cell_of hHeld.2.2.1 id, g5.cell_of hHeld.2.2.2.1 id, g5.cell_of hHeld.2.2.2.2.1 id, g5.cell_of hHeld.2.2.2.2.2.1 id, g5.cell_of hHeld.2.2.2.2.2.2.1 id, Nat.le_trans hHeld.2.2.2.2.2.2.2 g5.size⟩ (fun hHeld => ?_)
        clear hK K
        try simp only [Act.put, List.setIfInBounds_toArray, List.set_cons_zero, List.set_cons_succ]
        have R5 := R4.trans g5 (fun _ _ e => e)
        refine wpAnyH_take (i := 20) (v := ?_) rfl (by as_aux_lemma => kernel_rfl) (by as_aux_lemma => kernel_rfl) (by as_aux_lemma => kernel_rfl) (fun _ _ _ h => HP.out _ _ _ _ _ h) (Or.inl ⟨by rfl, ?_⟩) (by assumption) ?_
        rotate_left
        · (intro w' hSw; (try dsimp only at hSw); go_simp; (try with_reducible rfl))
        try simp only [Act.put, List.setIfInBounds_toArray, List.set_cons_zero, List.set_cons_succ]
        refine wpAnyH_take (i := 21) (v := ?_) rfl (by as_aux_lemma => kernel_rfl) (by as_aux_lemma => kernel_rfl) (by as_aux_lemma => kernel_rfl) (fun _ _ _ h => HP.out _ _ _ _ _ h) (Or.inl ⟨by rfl, ?_⟩) (by assumption) ?_
        rotate_left
        · (intro w' hSw; (try dsimp only at hSw); go_simp; (try with_reducible rfl))
        try simp only [Act.put, List.setIfInBounds_toArray, List.set_cons_zero, List.set_cons_succ]
        refine wpAnyH_ready (rs := [25]) (by as_aux_lemma => kernel_rfl) (by simp) ?_
        refine AllReadyH.cons rfl (fun K hK => ?_) AllReadyH.nil
        go_simp
        go_wp2_with (go_at_call 35; refine (int_ _ _ hHeld.2.2.2.2.2.2.2 ihd).mono ?_; rintro e v6 ⟨rfl, g6⟩)
        refine hK.out _ _ ⟨g6.cell_of hHeld.1 id, g6.cell_of hHeld.2.1 id, g6.cell_of hHeld.2.2.1 id, g6.cell_of hHeld.2.2.2.1 id, g6.cell_of hHeld.2.2.2.2.1 id, g6.cell_of hHeld.2.2.2.2.2.1 id, g6.cell_of hHeld.2.2.2.2.2.2.1 id, Nat.le_trans hHeld.2.2.2.2.2.2.2 g6.size⟩ (fun hHeld => ?_)
        clear hK K
        try simp only [Act.put, List.setIfInBounds_toArray, List.set_cons_zero, List.set_cons_succ]
        have R6 := R5.trans g6 (fun _ _ e => e)
        refine wpAnyH_take (i := 26) (v := ?_) rfl (by as_aux_lemma => kernel_rfl) (by as_aux_lemma => kernel_rfl) (by as_aux_lemma => kernel_rfl) (fun _ _ _ h => HP.out _ _ _ _ _ h) (Or.inl ⟨by rfl, ?_⟩) (by assumption) ?_
        rotate_left
        · (intro w' hSw; (try dsimp only at hSw); go_simp; (try with_reducible rfl))
        try simp only [Act.put, List.setIfInBounds_toArray, List.set_cons_zero, List.set_cons_succ]
        refine wpAnyH_take (i := 27) (v := ?_) rfl (by as_aux_lemma => kernel_rfl) (by as_aux_lemma => kernel_rfl) (by as_aux_lemma => kernel_rfl) (fun _ _ _ h => HP.out _ _ _ _ _ h) (Or.inl ⟨by rfl, ?_⟩) (by assumption) ?_
        rotate_left
        · (intro w' hSw; (try dsimp only at hSw); go_simp; (try with_reducible rfl))
        try simp only [Act.put, List.setIfInBounds_toArray, List.set_cons_zero, List.set_cons_succ]
        refine wpAnyH_ready (rs := [31]) (by as_aux_lemma => kernel_rfl) (by simp) ?_
        refine AllReadyH.cons rfl (fun K hK => ?_) AllReadyH.nil
        go_simp
        go_wp2_with (go_at_call 35; refine (int_ _ _ hHeld.2.2.2.2.2.2.2 ipos).mono ?_; rintro e v7 ⟨rfl, g7⟩)
        refine hK.out _ _ ⟨g7.cell_of hHeld.1 id, g7.cell_of hHeld.2.1 id, g7.cell_of hHeld.2.2.1 id, g7.cell_of hHeld.2.2.2.1 id, g7.cell_of hHeld.2.2.2.2.1 id, g7.cell_of hHeld.2.2.2.2.2.1 id, g7.cell_of hHeld.2.2.2.2.2.2.1 id, Nat.le_trans hHeld.2.2.2.2.2.2.2 g7.size⟩ (fun hHeld => ?_)
        clear hK K
        try simp only [Act.put, List.setIfInBounds_toArray, List.set_cons_zero, List.set_cons_succ]
        have R7 := R6.trans g7 (fun _ _ e => e)
        refine wpAnyH_take (i := 32) (v := ?_) rfl (by as_aux_lemma => kernel_rfl) (by as_aux_lemma => kernel_rfl) (by as_aux_lemma => kernel_rfl) (fun _ _ _ h => HP.out _ _ _ _ _ h) (Or.inl ⟨by rfl, ?_⟩) (by assumption) ?_
        rotate_left
        · (intro w' hSw; (try dsimp only at hSw); go_simp; (try with_reducible rfl))
        try simp only [Act.put, List.setIfInBounds_toArray, List.set_cons_zero, List.set_cons_succ]
        refine wpAnyH_take (i := 33) (v := ?_) rfl (by as_aux_lemma => kernel_rfl) (by as_aux_lemma => kernel_rfl) (by as_aux_lemma => kernel_rfl) (fun _ _ _ h => HP.out _ _ _ _ _ h) (Or.inl ⟨by rfl, ?_⟩) (by assumption) ?_
        rotate_left
        · (intro w' hSw; (try dsimp only at hSw); go_simp; (try with_reducible rfl))
        try simp only [Act.put, List.setIfInBounds_toArray, List.set_cons_zero, List.set_cons_succ]
        refine wpAnyH_ready (rs := [37]) (by as_aux_lemma => kernel_rfl) (by simp) ?_
        refine AllReadyH.cons rfl (fun K hK => ?_) AllReadyH.nil
        go_simp
        go_wp2_with (go_at_call 35; refine (int_ _ _ hHeld.2.2.2.2.2.2.2 ion).mono ?_; rintro e v8 ⟨rfl, g8⟩)
        refine hK.out _ _ ⟨g8.cell_of hHeld.1 id, g8.cell_of hHeld.2.1 id, g8.cell_of hHeld.2.2.1 id, g8.cell_of hHeld.2.2.2.1 id, g8.cell_of hHeld.2.2.2.2.1 id, g8.cell_of hHeld.2.2.2.2.2.1 id, g8.cell_of hHeld.2.2.2.2.2.2.1 id, Nat.le_trans hHeld.2.2.2.2.2.2.2 g8.size⟩ (fun hHeld => ?_)
        clear hK K
        try simp only [Act.put, List.setIfInBounds_toArray, List.set_cons_zero, List.set_cons_succ]
        have R8 := R7.trans g8 (fun _ _ e => e)
        refine wpAnyH_take (i := 38) (v := ?_) rfl (by as_aux_lemma => kernel_rfl) (by as_aux_lemma => kernel_rfl) (by as_aux_lemma => kernel_rfl) (fun _ _ _ h => HP.out _ _ _ _ _ h) (Or.inl ⟨by rfl, ?_⟩) (by assumption) ?_
        rotate_left
        · (intro w' hSw; (try dsimp only at hSw); go_simp; (try with_reducible rfl))
        try simp only [Act.put, List.setIfInBounds_toArray, List.set_cons_zero, List.set_cons_succ]
        refine wpAnyH_take (i := 39) (v := ?_) rfl (by as_aux_lemma => kernel_rfl) (by as_aux_lemma => kernel_rfl) (by as_aux_lemma => kernel_rfl) (fun _ _ _ h => HP.out _ _ _ _ _ h) (Or.inl ⟨by rfl, ?_⟩) (by assumption) ?_
        rotate_left
        · (intro w' hSw; (try dsimp only at hSw); go_simp; (try with_reducible rfl))
        try simp only [Act.put, List.setIfInBounds_toArray, List.set_cons_zero, List.set_cons_succ]
        refine wpAnyH_take (i := 41) (v := ?_) rfl (by as_aux_lemma => kernel_rfl) (by as_aux_lemma => kernel_rfl) (by as_aux_lemma => kernel_rfl) (fun _ _ _ h => HP.out _ _ _ _ _ h) (Or.inl ⟨by rfl, ?_⟩) (by assumption) ?_
        rotate_left
        · (intro w' hSw; (try dsimp only at hSw); go_simp; (try with_reducible rfl))
        try simp only [Act.put, List.setIfInBounds_toArray, List.set_cons_zero, List.set_cons_succ]
        refine wpAnyH_take (i := 42) (v := ?_) rfl (by as_aux_lemma => kernel_rfl) (by as_aux_lemma => kernel_rfl) (by as_aux_lemma => kernel_rfl) (fun _ _ _ h => HP.out _ _ _ _ _ h) (Or.inl ⟨by rfl, ?_⟩) (by assumption) ?_
        rotate_left
        · (intro w' hSw; (try dsimp only at hSw); go_simp; (try with_reducible rfl))
        try simp only [Act.put, List.setIfInBounds_toArray, List.set_cons_zero, List.set_cons_succ]
        refine wpAnyH_ready (rs := [46]) (by as_aux_lemma => kernel_rfl) (by simp) ?_
        refine AllReadyH.cons rfl (fun K hK => ?_) AllReadyH.nil
        go_simp
        go_wp2_with (go_at_call 36; refine (rhex_ x.op.b _ _ (HSO.out.no R8) hHeld.2.2.2.2.2.2.2 lb).mono ?_; rintro e v9 ⟨rfl, g9⟩)
        refine hK.out _ _ ⟨g9.cell_of hHeld.1 id, g9.cell_of hHeld.2.1 id, g9.cell_of hHeld.2.2.1 id, g9.cell_of hHeld.2.2.2.1 id, g9.cell_of hHeld.2.2.2.2.1 id, g9.cell_of hHeld.2.2.2.2.2.1 id, g9.cell_of hHeld.2.2.2.2.2.2.1 id, Nat.le_trans hHeld.2.2.2.2.2.2.2 g9.size⟩ (fun hHeld => ?_)
        clear hK K
        try simp only [Act.put, List.setIfInBounds_toArray, List.set_cons_zero, List.set_cons_succ]
        have R9 := R8.trans g9 (fun _ _ e => e)
        refine wpAnyH_take (i := 47) (v := ?_) rfl (by as_aux_lemma => kernel_rfl) (by as_aux_lemma => kernel_rfl) (by as_aux_lemma => kernel_rfl) (fun _ _ _ h => HP.out _ _ _ _ _ h) (Or.inl ⟨by rfl, ?_⟩) (by assumption) ?_
        rotate_left
        · (intro w' hSw; (try dsimp only at hSw); go_simp; (try with_reducible rfl))
        try simp only [Act.put, List.setIfInBounds_toArray, List.set_cons_zero, List.set_cons_succ]
        refine wpAnyH_take (i := 48) (v := ?_) rfl (by as_aux_lemma => kernel_rfl) (by as_aux_lemma => kernel_rfl) (by as_aux_lemma => kernel_rfl) (fun _ _ _ h => HP.out _ _ _ _ _ h) (Or.inl ⟨by rfl, ?_⟩) (by assumption) ?_
        rotate_left
        · (intro w' hSw; (try dsimp only at hSw); go_simp; (try with_reducible rfl))
        try simp only [Act.put, List.setIfInBounds_toArray, List.set_cons_zero, List.set_cons_succ]
        refine wpAnyH_done (by as_aux_lemma => kernel_rfl) ?_ _
        go_simp
        exact HQ.out _ _ _ _ _ _ _ _ _ _ _ _ _ _ _ _ _ _ _ _ _ _ _ _ _ _ _ _ _ _ _ _ _ _ _ _ _ _ _ _ _ _ _ _ _ _ _ _ _ _ R9
      · go_simp
        refine hK.out _ _ ⟨((Fr.refl (S := No) _).conv _).cell_of hHeld.1 id, ((Fr.refl (S := No) _).conv _).cell_of hHeld.2.1 id, ((Fr.refl (S := No) _).conv _).cell_of hHeld.2.2.1 id, ((Fr.refl (S := No) _).conv _).cell_of hHeld.2.2.2.1 id, ((Fr.refl (S := No) _).conv _).cell_of hHeld.2.2.2.2.1 id, ((Fr.refl (S := No) _).conv _).cell_of hHeld.2.2.2.2.2.1 id, ((Fr.refl (S := No) _).conv _).cell_of hHeld.2.2.2.2.2.2.1 id, Nat.le_trans hHeld.2.2.2.2.2.2.2 ((Fr.refl (S := No) _).conv _).size⟩ (fun hHeld => ?_)
        clear hK K
        try simp only [Act.put, List.setIfInBounds_toArray, List.set_cons_zero, List.set_cons_succ]
        have R10 := R2.conv ⟨x.op.to.toArray⟩
        have P10 := P2.no ((Fr.refl (S := No) _).conv ⟨x.op.to.toArray⟩)
        have T10 := slat_conv _ x.op.to _ _ rfl rfl (Nat.le_trans e8 R2.size)
        refine wpAnyH_ready (rs := [12]) (by as_aux_lemma => kernel_rfl) (by simp) ?_
        refine AllReadyH.cons rfl (fun K hK => ?_) AllReadyH.nil
        go_simp
        go_wp2_with (go_at_call 36; refine (rhex_ x.op.path _ _ P10 hHeld.2.2.2.2.2.2.2 lp).mono ?_; rintro e v11 ⟨rfl, g11⟩)
        refine hK.out _ _ ⟨g11.cell_of hHeld.1 id, g11.cell_of hHeld.2.1 id, g11.cell_of hHeld.2.2.1 id, g11.cell_of hHeld.2.2.2.1 id, g11.cell_of hHeld.2.2.2.2.1 id, g11.cell_of hHeld.2.2.2.2.2.1 id, g11.cell_of hHeld.2.2.2.2.2.2.1 id, Nat.le_trans hHeld.2.2.2.2.2.2.2 g11.size⟩ (fun hHeld => ?_)
        clear hK K
        try simp only [Act.put, List.setIfInBounds_toArray, List.set_cons_zero, List.set_cons_succ]
        have R11 := R10.trans g11 (fun _ _ e => e)
        have T11 := T10.no g11
        refine wpAnyH_take (i := 13) (v := ?_) rfl (by as_aux_lemma => kernel_rfl) (by as_aux_lemma => kernel_rfl) (by as_aux_lemma => kernel_rfl) (fun _ _ _ h => HP.out _ _ _ _ _ h) (Or.inl ⟨by rfl, ?_⟩) (by assumption) ?_
        rotate_left
        · (intro w' hSw; (try dsimp only at hSw); go_simp; (try with_reducible rfl))
        try simp only [Act.put, List.setIfInBounds_toArray, List.set_cons_zero, List.set_cons_succ]
        refine wpAnyH_take (i := 14) (v := ?_) rfl (by as_aux_lemma => kernel_rfl) (by as_aux_lemma => kernel_rfl) (by as_aux_lemma => kernel_rfl) (fun _ _ _ h => HP.out _ _ _ _ _ h) (Or.inl ⟨by rfl, ?_⟩) (by assumption) ?_
        rotate_left
        · (intro w' hSw; (try dsimp only at hSw); go_simp; (try with_reducible rfl))
        try simp only [Act.put, List.setIfInBounds_toArray, List.set_cons_zero, List.set_cons_succ]
        refine wpAnyH_ready (rs := [19]) (by as_aux_lemma => kernel_rfl) (by simp) ?_
        refine AllReadyH.cons rfl (fun K hK => ?_) AllReadyH.nil
        go_simp
        go_wp2_with (go_at_call 36; refine (rhex_ x.op.to _ _ T11 hHeld.2.2.2.2.2.2.2 lt).mono ?_; rintro e v12 ⟨rfl, g12⟩)
        refine hK.out _ _ ⟨g12.cell_of hHeld.1 id, g12.cell_of hHeld.2.1 id, g12.cell_of hHeld.2.2.1 id, g12.cell_of hHeld.2.2.2.1 id, g12.cell_of hHeld.2.2.2.2.1 id, g12.cell_of hHeld.2.2.2.2.2.1 id, g12.cell_of hHeld.2.2.2.2.2.2.1 id, Nat.le_trans hHeld.2.2.2.2.2.2.2 g12.size⟩ (fun hHeld => ?_)
        clear hK K
        try simp only [Act.put, List.setIfInBounds_toArray, List.set_cons_zero, List.set_cons_succ]
        have R12 := R11.trans g12 (fun _ _ e => e)
        refine wpAnyH_take (i := 20) (v := ?_) rfl (by as_aux_lemma => kernel_rfl) (by as_aux_lemma => kernel_rfl) (by as_aux_lemma => kernel_rfl) (fun _ _ _ h => HP.out _ _ _ _ _ h) (Or.inl ⟨by rfl, ?_⟩) (by assumption) ?_
        rotate_left
        · (intro w' hSw; (try dsimp only at hSw); go_simp; (try with_reducible rfl))
        try simp only [Act.put, List.setIfInBounds_toArray, List.set_cons_zero, List.set_cons_succ]
        refine wpAnyH_take (i := 21) (v := ?_) rfl (by as_aux_lemma => kernel_rfl) (by as_aux_lemma => kernel_rfl) (by as_aux_lemma => kernel_rfl) (fun _ _ _ h => HP.out _ _ _ _ _ h) (Or.inl ⟨by rfl, ?_⟩) (by assumption) ?_
        rotate_left
        · (intro w' hSw; (try dsimp only at hSw); go_simp; (try with_reducible rfl))
        try simp only [Act.put, List.setIfInBounds_toArray, List.set_cons_zero, List.set_cons_succ]
        refine wpAnyH_ready (rs := [25]) (by as_aux_lemma => kernel_rfl) (by simp) ?_
        refine AllReadyH.cons rfl (fun K hK => ?_) AllReadyH.nil
        go_simp
        go_wp2_with (go_at_call 35; refine (int_ _ _ hHeld.2.2.2.2.2.2.2 ihd).mono ?_; rintro e v13 ⟨rfl, g13⟩)
        refine hK.out _ _ ⟨g13.cell_of hHeld.1 id, g13.cell_of hHeld.2.1 id, g13.cell_of hHeld.2.2.1 id, g13.cell_of hHeld.2.2.2.1 id, g13.cell_of hHeld.2.2.2.2.1 id, g13.cell_of hHeld.2.2.2.2.2.1 id, g13.cell_of hHeld.2.2.2.2.2.2.1 id, Nat.le_trans hHeld.2.2.2.2.2.2.2 g13.size⟩ (fun hHeld => ?_)
        clear hK K
        try simp only [Act.put, List.setIfInBounds_toArray, List.set_cons_zero, List.set_cons_succ]
        have R13 := R12.trans g13 (fun _ _ e => e)
        refine wpAnyH_take (i := 26) (v := ?_) rfl (by as_aux_lemma => kernel_rfl) (by as_aux_lemma => kernel_rfl) (by as_aux_lemma => kernel_rfl) (fun _ _ _ h => HP.out _ _ _ _ _ h) (Or.inl ⟨by rfl, ?_⟩) (by assumption) ?_
        rotate_left
        · (intro w' hSw; (try dsimp only at hSw); go_simp; (try with_reducible rfl))
        try simp only [Act.put, List.setIfInBounds_toArray, List.set_cons_zero, List.set_cons_succ]
        refine wpAnyH_take (i := 27) (v := ?_) rfl (by as_aux_lemma => kernel_rfl) (by as_aux_lemma => kernel_rfl) (by as_aux_lemma => kernel_rfl) (fun _ _ _ h => HP.out _ _ _ _ _ h) (Or.inl ⟨by rfl, ?_⟩) (by assumption) ?_
        rotate_left
        · (intro w' hSw; (try dsimp only at hSw); go_simp; (try with_reducible rfl))
        try simp only [Act.put, List.setIfInBounds_toArray, List.set_cons_zero, List.set_cons_succ]
        refine wpAnyH_ready (rs := [31]) (by as_aux_lemma => kernel_rfl) (by simp) ?_
        refine AllReadyH.cons rfl (fun K hK => ?_) AllReadyH.nil
        go_simp
        go_wp2_with (go_at_call 35; refine (int_ _ _ hHeld.2.2.2.2.2.2.2 ipos).mono ?_; rintro e v14 ⟨rfl, g14⟩)
        refine hK.out _ _ ⟨g14.cell_of hHeld.1 id, g14.cell_of hHeld.2.1 id, g14.cell_of hHeld.2.2.1 id, g14.cell_of hHeld.2.2.2.1 id, g14.cell_of hHeld.2.2.2.2.1 id, g14.cell_of hHeld.2.2.2.2.2.1 id, g14.cell_of hHeld.2.2.2.2.2.2.1 id, Nat.le_trans hHeld.2.2.2.2.2.2.2 g14.size⟩ (fun hHeld => ?_)
        clear hK K
        try simp only [Act.put, List.setIfInBounds_toArray, List.set_cons_zero, List.set_cons_succ]
        have R14 := R13.trans g14 (fun _ _ e => e)
        refine wpAnyH_take (i := 32) (v := ?_) rfl (by as_aux_lemma => kernel_rfl) (by as_aux_lemma => kernel_rfl) (by as_aux_lemma => kernel_rfl) (fun _ _ _ h => HP.out _ _ _ _ _ h) (Or.inl ⟨by rfl, ?_⟩) (by assumption) ?_
        rotate_left
        · (intro w' hSw; (try dsimp only at hSw); go_simp; (try with_reducible rfl))
        try simp only [Act.put, List.setIfInBounds_toArray, List.set_cons_zero, List.set_cons_succ]
        refine wpAnyH_take (i := 33) (v := ?_) rfl (by as_aux_lemma => kernel_rfl) (by as_aux_lemma => kernel_rfl) (by as_aux_lemma => kernel_rfl) (fun _ _ _ h => HP.out _ _ _ _ _ h) (Or.inl ⟨by rfl, ?_⟩) (by assumption) ?_
        rotate_left
        · (intro w' hSw; (try dsimp only at hSw); go_simp; (try with_reducible rfl))
        try simp only [Act.put, List.setIfInBounds_toArray, List.set_cons_zero, List.set_cons_succ]
        refine wpAnyH_ready (rs := [37]) (by as_aux_lemma => kernel_rfl) (by simp) ?_
        refine AllReadyH.cons rfl (fun K hK => ?_) AllReadyH.nil
        go_simp
        go_wp2_with (go_at_call 35; refine (int_ _ _ hHeld.2.2.2.2.2.2.2 ion).mono ?_; rintro e v15 ⟨rfl, g15⟩)
        refine hK.out _ _ ⟨g15.cell_of hHeld.1 id, g15.cell_of hHeld.2.1 id, g15.cell_of hHeld.2.2.1 id, g15.cell_of hHeld.2.2.2.1 id, g15.cell_of hHeld.2.2.2.2.1 id, g15.cell_of hHeld.2.2.2.2.2.1 id, g15.cell_of hHeld.2.2.2.2.2.2.1 id, Nat.le_trans hHeld.2.2.2.2.2.2.2 g15.size⟩ (fun hHeld => ?_)
        clear hK K
        try simp only [Act.put, List.setIfInBounds_toArray, List.set_cons_zero, List.set_cons_succ]
        have R15 := R14.trans g15 (fun _ _ e => e)
        refine wpAnyH_take (i := 38) (v := ?_) rfl (by as_aux_lemma => kernel_rfl) (by as_aux_lemma => kernel_rfl) (by as_aux_lemma => kernel_rfl) (fun _ _ _ h => HP.out _ _ _ _ _ h) (Or.inl ⟨by rfl, ?_⟩) (by assumption) ?_
        rotate_left
        · (intro w' hSw; (try dsimp only at hSw); go_simp; (try with_reducible rfl))
        try simp only [Act.put, List.setIfInBounds_toArray, List.set_cons_zero, List.set_cons_succ]
        refine wpAnyH_take (i := 39) (v := ?_) rfl (by as_aux_lemma => kernel_rfl) (by as_aux_lemma => kernel_rfl) (by as_aux_lemma => kernel_rfl) (fun _ _ _ h => HP.out _ _ _ _ _ h) (Or.inl ⟨by rfl, ?_⟩) (by assumption) ?_
        rotate_left
        · (intro w' hSw; (try dsimp only at hSw); go_simp; (try with_reducible rfl))
        try simp only [Act.put, List.setIfInBounds_toArray, List.set_cons_zero, List.set_cons_succ]
        refine wpAnyH_take (i := 41) (v := ?_) rfl (by as_aux_lemma => kernel_rfl) (by as_aux_lemma => kernel_rfl) (by as_aux_lemma => kernel_rfl) (fun _ _ _ h => HP.out _ _ _ _ _ h) (Or.inl ⟨by rfl, ?_⟩) (by assumption) ?_
        rotate_left
        · (intro w' hSw; (try dsimp only at hSw); go_simp; (try with_reducible rfl))
        try simp only [Act.put, List.setIfInBounds_toArray, List.set_cons_zero, List.set_cons_succ]
        refine wpAnyH_take (i := 42) (v := ?_) rfl (by as_aux_lemma => kernel_rfl) (by as_aux_lemma => kernel_rfl) (by as_aux_lemma => kernel_rfl) (fun _ _ _ h => HP.out _ _ _ _ _ h) (Or.inl ⟨by rfl, ?_⟩) (by assumption) ?_
        rotate_left
        · (intro w' hSw; (try dsimp only at hSw); go_simp; (try with_reducible rfl))
        try simp only [Act.put, List.setIfInBounds_toArray, List.set_cons_zero, List.set_cons_succ]
        refine wpAnyH_ready (rs := [46]) (by as_aux_lemma => kernel_rfl) (by simp) ?_
        refine AllReadyH.cons rfl (fun K hK => ?_) AllReadyH.nil
        go_simp
        go_wp2_with (go_at_call 36; refine (rhex_ x.op.b _ _ (HSO.out.no R15) hHeld.2.2.2.2.2.2.2 lb).mono ?_; rintro e v16 ⟨rfl, g16⟩)
        refine hK.out _ _ ⟨g16.cell_of hHeld.1 id, g16.cell_of hHeld.2.1 id, g16.cell_of hHeld.2.2.1 id, g16.cell_of hHeld.2.2.2.1 id, g16.cell_of hHeld.2.2.2.2.1 id, g16.cell_of hHeld.2.2.2.2.2.1 id, g16.cell_of hHeld.2.2.2.2.2.2.1 id, Nat.le_trans hHeld.2.2.2.2.2.2.2 g16.size⟩ (fun hHeld => ?_)
        clear hK K
        try simp only [Act.put, List.setIfInBounds_toArray, List.set_cons_zero, List.set_cons_succ]
        have R16 := R15.trans g16 (fun _ _ e => e)
        refine wpAnyH_take (i := 47) (v := ?_) rfl (by as_aux_lemma => kernel_rfl) (by as_aux_lemma => kernel_rfl) (by as_aux_lemma => kernel_rfl) (fun _ _ _ h => HP.out _ _ _ _ _ h) (Or.inl ⟨by rfl, ?_⟩) (by assumption) ?_
        rotate_left
        · (intro w' hSw; (try dsimp only at hSw); go_simp; (try with_reducible rfl))
        try simp only [Act.put, List.setIfInBounds_toArray, List.set_cons_zero, List.set_cons_succ]
        refine wpAnyH_take (i := 48) (v := ?_) rfl (by as_aux_lemma => kernel_rfl) (by as_aux_lemma => kernel_rfl) (by as_aux_lemma => kernel_rfl) (fun _ _ _ h => HP.out _ _ _ _ _ h) (Or.inl ⟨by rfl, ?_⟩) (by assumption) ?_
        rotate_left
        · (intro w' hSw; (try dsimp only at hSw); go_simp; (try with_reducible rfl))
        try simp only [Act.put, List.setIfInBounds_toArray, List.set_cons_zero, List.set_cons_succ]
        refine wpAnyH_done (by as_aux_lemma => kernel_rfl) ?_ _
        go_simp
        exact HQ.out _ _ _ _ _ _ _ _ _ _ _ _ _ _ _ _ _ _ _ _ _ _ _ _ _ _ _ _ _ _ _ _ _ _ _ _ _ _ _ _ _ _ _ _ _ _ _ _ _ _ R16
    · go_simp
      refine hK.out _ _ ⟨((Fr.refl (S := No) _).conv _).cell_of hHeld.1 id, ((Fr.refl (S := No) _).conv _).cell_of hHeld.2.1 id, ((Fr.refl (S := No) _).conv _).cell_of hHeld.2.2.1 id, ((Fr.refl (S := No) _).conv _).cell_of hHeld.2.2.2.1 id, ((Fr.refl (S := No) _).conv _).cell_of hHeld.2.2.2.2.1 id, ((Fr.refl (S := No) _).conv _).cell_of hHeld.2.2.2.2.2.1 id, ((Fr.refl (S := No) _).conv _).cell_of hHeld.2.2.2.2.2.2.1 id, Nat.le_trans hHeld.2.2.2.2.2.2.2 ((Fr.refl (S := No) _).conv _).size⟩ (fun hHeld => ?_)
      clear hK K
      try simp only [Act.put, List.setIfInBounds_toArray, List.set_cons_zero, List.set_cons_succ]
      have R17 := R1.conv ⟨x.op.to.toArray⟩
      have T17 := slat_conv _ x.op.to _ _ rfl rfl (Nat.le_trans e8 R1.size)
      refine wpAnyH_ready (rs := [11]) (by as_aux_lemma => kernel_rfl) (by simp) ?_
      refine AllReadyH.cons rfl (fun K hK => ?_) AllReadyH.nil
      go_simp
      refine hK.out _ _ ⟨((Fr.refl (S := No) _).conv _).cell_of hHeld.1 id, ((Fr.refl (S := No) _).conv _).cell_of hHeld.2.1 id, ((Fr.refl (S := No) _).conv _).cell_of hHeld.2.2.1 id, ((Fr.refl (S := No) _).conv _).cell_of hHeld.2.2.2.1 id, ((Fr.refl (S := No) _).conv _).cell_of hHeld.2.2.2.2.1 id, ((Fr.refl (S := No) _).conv _).cell_of hHeld.2.2.2.2.2.1 id, ((Fr.refl (S := No) _).conv _).cell_of hHeld.2.2.2.2.2.2.1 id, Nat.le_trans hHeld.2.2.2.2.2.2.2 ((Fr.refl (S := No) _).conv _).size⟩ (fun hHeld => ?_)
      clear hK K
      try simp only [Act.put, List.setIfInBounds_toArray, List.set_cons_zero, List.set_cons_succ]
      have R18 := R17.conv ⟨x.op.path.toArray⟩
      have T18 := T17.no ((Fr.refl (S := No) _).conv ⟨x.op.path.toArray⟩)
      have P18 := slat_conv _ x.op.path _ _ rfl rfl (Nat.le_trans e8 R17.size)
      refine wpAnyH_ready (rs := [12]) (by as_aux_lemma => kernel_rfl) (by simp) ?_
      refine AllReadyH.cons rfl (fun K hK => ?_) AllReadyH.nil
      go_simp
      go_wp2_with (go_at_call 36; refine (rhex_ x.op.path _ _ P18 hHeld.2.2.2.2.2.2.2 lp).mono ?_; rintro e v19 ⟨rfl, g19⟩)
      refine hK.out _ _ ⟨g19.cell_of hHeld.1 id, g19.cell_of hHeld.2.1 id, g19.cell_of hHeld.2.2.1 id, g19.cell_of hHeld.2.2.2.1 id, g19.cell_of hHeld.2.2.2.2.1 id, g19.cell_of hHeld.2.2.2.2.2.1 id, g19.cell_of hHeld.2.2.2.2.2.2.1 id, Nat.le_trans hHeld.2.2.2.2.2.2.2 g19.size⟩ (fun hHeld => ?_)
      clear hK K
      try simp only [Act.put, List.setIfInBounds_toArray, List.set_cons_zero, List.set_cons_succ]
      have R19 := R18.trans g19 (fun _ _ e => e)
      have T19 := T18.no g19
      refine wpAnyH_take (i := 13) (v := ?_) rfl (by as_aux_lemma => kernel_rfl) (by as_aux_lemma => kernel_rfl) (by as_aux_lemma => kernel_rfl) (fun _ _ _ h => HP.out _ _ _ _ _ h) (Or.inl ⟨by rfl, ?_⟩) (by assumption) ?_
      rotate_left
      · (intro w' hSw; (try dsimp only at hSw); go_simp; (try with_reducible rfl))
      try simp only [Act.put, List.setIfInBounds_toArray, List.set_cons_zero, List.set_cons_succ]
      refine wpAnyH_take (i := 14) (v := ?_) rfl (by as_aux_lemma => kernel_rfl) (by as_aux_lemma => kernel_rfl) (by as_aux_lemma => kernel_rfl) (fun _ _ _ h => HP.out _ _ _ _ _ h) (Or.inl ⟨by rfl, ?_⟩) (by assumption) ?_
      rotate_left
      · (intro w' hSw; (try dsimp only at hSw); go_simp; (try with_reducible rfl))
      try simp only [Act.put, List.setIfInBounds_toArray, List.set_cons_zero, List.set_cons_succ]
      refine wpAnyH_ready (rs := [19]) (by as_aux_lemma => kernel_rfl) (by simp) ?_
      refine AllReadyH.cons rfl (fun K hK => ?_) AllReadyH.nil
      go_simp
      go_wp2_with (go_at_call 36; refine (rhex_ x.op.to _ _ T19 hHeld.2.2.2.2.2.2.2 lt).mono ?_; rintro e v20 ⟨rfl, g20⟩)
      refine hK.out _ _ ⟨g20.cell_of hHeld.1 id, g20.cell_of hHeld.2.1 id, g20.cell_of hHeld.2.2.1 id, g20.cell_of hHeld.2.2.2.1 id, g20.cell_of hHeld.2.2.2.2.1 id, g20.cell_of hHeld.2.2.2.2.2.1 id, g20.cell_of hHeld.2.2.2.2.2.2.1 id, Nat.le_trans hHeld.2.2.2.2.2.2.2 g20.size⟩ (fun hHeld => ?_)
      clear hK K
      try simp only [Act.put, List.setIfInBounds_toArray, List.set_cons_zero, List.set_cons_succ]
      have R20 := R19.trans g20 (fun _ _ e => e)
      refine wpAnyH_take (i := 20) (v := ?_) rfl (by as_aux_lemma => kernel_rfl) (by as_aux_lemma => kernel_rfl) (by as_aux_lemma => kernel_rfl) (fun _ _ _ h => HP.out _ _ _ _ _ h) (Or.inl ⟨by rfl, ?_⟩) (by assumption) ?_
      rotate_left
      · (intro w' hSw; (try dsimp only at hSw); go_simp; (try with_reducible rfl))
      try simp only [Act.put, List.setIfInBounds_toArray, List.set_cons_zero, List.set_cons_succ]
      refine wpAnyH_take (i := 21) (v := ?_) rfl (by as_aux_lemma => kernel_rfl) (by as_aux_lemma => kernel_rfl) (by as_aux_lemma => kernel_rfl) (fun _ _ _ h => HP.out _ _ _ _ _ h) (Or.inl ⟨by rfl, ?_⟩) (by assumption) ?_
      rotate_left
      · (intro w' hSw; (try dsimp only at hSw); go_simp; (try with_reducible rfl))
      try simp only [Act.put, List.setIfInBounds_toArray, List.set_cons_zero, List.set_cons_succ]
      refine wpAnyH_ready (rs := [25]) (by as_aux_lemma => kernel_rfl) (by simp) ?_
      refine AllReadyH.cons rfl (fun K hK => ?_) AllReadyH.nil
      go_simp
      go_wp2_with (go_at_call 35; refine (int_ _ _ hHeld.2.2.2.2.2.2.2 ihd).mono ?_; rintro e v21 ⟨rfl, g21⟩)
      refine hK.out _ _ ⟨g21.cell_of hHeld.1 id, g21.cell_of hHeld.2.1 id, g21.cell_of hHeld.2.2.1 id, g21.cell_of hHeld.2.2.2.1 id, g21.cell_of hHeld.2.2.2.2.1 id, g21.cell_of hHeld.2.2.2.2.2.1 id, g21.cell_of hHeld.2.2.2.2.2.2.1 id, Nat.le_trans hHeld.2.2.2.2.2.2.2 g21.size⟩ (fun hHeld => ?_)
      clear hK K
      try simp only [Act.put, List.setIfInBounds_toArray, List.set_cons_zero, List.set_cons_succ]
      have R21 := R20.trans g21 (fun _ _ e => e)
      refine wpAnyH_take (i := 26) (v := ?_) rfl (by as_aux_lemma => kernel_rfl) (by as_aux_lemma => kernel_rfl) (by as_aux_lemma => kernel_rfl) (fun _ _ _ h => HP.out _ _ _ _ _ h) (Or.inl ⟨by rfl, ?_⟩) (by assumption) ?_
      rotate_left
      · (intro w' hSw; (try dsimp only at hSw); go_simp; (try with_reducible rfl))
      try simp only [Act.put, List.setIfInBounds_toArray, List.set_cons_zero, List.set_cons_succ]
      refine wpAnyH_take (i := 27) (v := ?_) rfl (by as_aux_lemma => kernel_rfl) (by as_aux_lemma => kernel_rfl) (by as_aux_lemma => kernel_rfl) (fun _ _ _ h => HP.out _ _ _ _ _ h) (Or.inl ⟨by rfl, ?_⟩) (by assumption) ?_
      rotate_left
      · (intro w' hSw; (try dsimp only at hSw); go_simp; (try with_reducible rfl))
      try simp only [Act.put, List.setIfInBounds_toArray, List.set_cons_zero, List.set_cons_succ]
      refine wpAnyH_ready (rs := [31]) (by as_aux_lemma => kernel_rfl) (by simp) ?_
      refine AllReadyH.cons rfl (fun K hK => ?_) AllReadyH.nil
      go_simp
      go_wp2_with (go_at_call 35; refine (int_ _ _ hHeld.2.2.2.2.2.2.2 ipos).mono ?_; rintro e v22 ⟨rfl, g22⟩)
      refine hK.out _ _ ⟨g22.cell_of hHeld.1 id, g22.cell_of hHeld.2.1 id, g22.cell_of hHeld.2.2.1 id, g22.cell_of hHeld.2.2.2.1 id, g22.cell_of hHeld.2.2.2.2.1 id, g22.cell_of hHeld.2.2.2.2.2.1 id, g22.cell_of hHeld.2.2.2.2.2.2.1 id, Nat.le_trans hHeld.2.2.2.2.2.2.2 g22.size⟩ (fun hHeld => ?_)
      clear hK K
      try simp only [Act.put, List.setIfInBounds_toArray, List.set_cons_zero, List.set_cons_succ]
      have R22 := R21.trans g22 (fun _ _ e => e)
      refine wpAnyH_take (i := 32) (v := ?_) rfl (by as_aux_lemma => kernel_rfl) (by as_aux_lemma => kernel_rfl) (by as_aux_lemma => kernel_rfl) (fun _ _ _ h => HP.out _ _ _ _ _ h) (Or.inl ⟨by rfl, ?_⟩) (by assumption) ?_
      rotate_left
      · (intro w' hSw; (try dsimp only at hSw); go_simp; (try with_reducible rfl))
      try simp only [Act.put, List.setIfInBounds_toArray, List.set_cons_zero, List.set_cons_succ]
      refine wpAnyH_take (i := 33) (v := ?_) rfl (by as_aux_lemma => kernel_rfl) (by as_aux_lemma => kernel_rfl) (by as_aux_lemma => kernel_rfl) (fun _ _ _ h => HP.out _ _ _ _ _ h) (Or.inl ⟨by rfl, ?_⟩) (by assumption) ?_
      rotate_left
      · (intro w' hSw; (try dsimp only at hSw); go_simp; (try with_reducible rfl))
      try simp only [Act.put, List.setIfInBounds_toArray, List.set_cons_zero, List.set_cons_succ]
      refine wpAnyH_ready (rs := [37]) (by as_aux_lemma => kernel_rfl) (by simp) ?_
      refine AllReadyH.cons rfl (fun K hK => ?_) AllReadyH.nil
      go_simp
      go_wp2_with (go_at_call 35; refine (int_ _ _ hHeld.2.2.2.2.2.2.2 ion).mono ?_; rintro e v23 ⟨rfl, g23⟩)
      refine hK.out _ _ ⟨g23.cell_of hHeld.1 id, g23.cell_of hHeld.2.1 id, g23.cell_of hHeld.2.2.1 id, g23.cell_of hHeld.2.2.2.1 id, g23.cell_of hHeld.2.2.2.2.1 id, g23.cell_of hHeld.2.2.2.2.2.1 id, g23.cell_of hHeld.2.2.2.2.2.2.1 id, Nat.le_trans hHeld.2.2.2.2.2.2.2 g23.size⟩ (fun hHeld => ?_)
      clear hK K
      try simp only [Act.put, List.setIfInBounds_toArray, List.set_cons_zero, List.set_cons_succ]
      have R23 := R22.trans g23 (fun _ _ e => e)
      refine wpAnyH_take (i := 38) (v := ?_) rfl (by as_aux_lemma => kernel_rfl) (by as_aux_lemma => kernel_rfl) (by as_aux_lemma => kernel_rfl) (fun _ _ _ h => HP.out _ _ _ _ _ h) (Or.inl ⟨by rfl, ?_⟩) (by assumption) ?_
      rotate_left
      · (intro w' hSw; (try dsimp only at hSw); go_simp; (try with_reducible rfl))
      try simp only [Act.put, List.setIfInBounds_toArray, List.set_cons_zero, List.set_cons_succ]
      refine wpAnyH_take (i := 39) (v := ?_) rfl (by as_aux_lemma => kernel_rfl) (by as_aux_lemma => kernel_rfl) (by as_aux_lemma => kernel_rfl) (fun _ _ _ h => HP.out _ _ _ _ _ h) (Or.inl ⟨by rfl, ?_⟩) (by assumption) ?_
      rotate_left
      · (intro w' hSw; (try dsimp only at hSw); go_simp; (try with_reducible rfl))
      try simp only [Act.put, List.setIfInBounds_toArray, List.set_cons_zero, List.set_cons_succ]
      refine wpAnyH_take (i := 41) (v := ?_) rfl (by as_aux_lemma => kernel_rfl) (by as_aux_lemma => kernel_rfl) (by as_aux_lemma => kernel_rfl) (fun _ _ _ h => HP.out _ _ _ _ _ h) (Or.inl ⟨by rfl, ?_⟩) (by assumption) ?_
      rotate_left
      · (intro w' hSw; (try dsimp only at hSw); go_simp; (try with_reducible rfl))
      try simp only [Act.put, List.setIfInBounds_toArray, List.set_cons_zero, List.set_cons_succ]
      refine wpAnyH_take (i := 42) (v := ?_) rfl (by as_aux_lemma => kernel_rfl) (by as_aux_lemma => kernel_rfl) (by as_aux_lemma => kernel_rfl) (fun _ _ _ h => HP.out _ _ _ _ _ h) (Or.inl ⟨by rfl, ?_⟩) (by assumption) ?_
      rotate_left
      · (intro w' hSw; (try dsimp only at hSw); go_simp; (try with_reducible rfl))
      try simp only [Act.put, List.setIfInBounds_toArray, List.set_cons_zero, List.set_cons_succ]
      refine wpAnyH_ready (rs := [46]) (by as_aux_lemma => kernel_rfl) (by simp) ?_
      refine AllReadyH.cons rfl (fun K hK => ?_) AllReadyH.nil
      go_simp
      go_wp2_with (go_at_call 36; refine (rhex_ x.op.b _ _ (HSO.out.no R23) hHeld.2.2.2.2.2.2.2 lb).mono ?_; rintro e v24 ⟨rfl, g24⟩)
      refine hK.out _ _ ⟨g24.cell_of hHeld.1 id, g24.cell_of hHeld.2.1 id, g24.cell_of hHeld.2.2.1 id, g24.cell_of hHeld.2.2.2.1 id, g24.cell_of hHeld.2.2.2.2.1 id, g24.cell_of hHeld.2.2.2.2.2.1 id, g24.cell_of hHeld.2.2.2.2.2.2.1 id, Nat.le_trans hHeld.2.2.2.2.2.2.2 g24.size⟩ (fun hHeld => ?_)
      clear hK K
      try simp only [Act.put, List.setIfInBounds_toArray, List.set_cons_zero, List.set_cons_succ]
      have R24 := R23.trans g24 (fun _ _ e => e)
      refine wpAnyH_take (i := 47) (v := ?_) rfl (by as_aux_lemma => kernel_rfl) (by as_aux_lemma => kernel_rfl) (by as_aux_lemma => kernel_rfl) (fun _ _ _ h => HP.out _ _ _ _ _ h) (Or.inl ⟨by rfl, ?_⟩) (by assumption) ?_
      rotate_left
      · (intro w' hSw; (try dsimp only at hSw); go_simp; (try with_reducible rfl))
      try simp only [Act.put, List.setIfInBounds_toArray, List.set_cons_zero, List.set_cons_succ]
      refine wpAnyH_take (i := 48) (v := ?_) rfl (by as_aux_lemma => kernel_rfl) (by as_aux_lemma => kernel_rfl) (by as_aux_lemma => kernel_rfl) (fun _ _ _ h => HP.out _ _ _ _ _ h) (Or.inl ⟨by rfl, ?_⟩) (by assumption) ?_
      rotate_left
      · (intro w' hSw; (try dsimp only at hSw); go_simp; (try with_reducible rfl))
      try simp only [Act.put, List.setIfInBounds_toArray, List.set_cons_zero, List.set_cons_succ]
      refine wpAnyH_done (by as_aux_lemma => kernel_rfl) ?_ _
      go_simp
      exact HQ.out _ _ _ _ _ _ _ _ _ _ _ _ _ _ _ _ _ _ _ _ _ _ _ _ _ _ _ _ _ _ _ _ _ _ _ _ _ _ _ _ _ _ _ _ _ _ _ _ _ _ R24
  · go_simp
    refine hK.out _ _ ⟨((Fr.refl (S := No) _).conv _).cell_of hHeld.1 id, ((Fr.refl (S := No) _).conv _).cell_of hHeld.2.1 id, ((Fr.refl (S := No) _).conv _).cell_of hHeld.2.2.1 id, ((Fr.refl (S := No) _).conv _).cell_of hHeld.2.2.2.1 id, ((Fr.refl (S := No) _).conv _).cell_of hHeld.2.2.2.2.1 id, ((Fr.refl (S := No) _).conv _).cell_of hHeld.2.2.2.2.2.1 id, ((Fr.refl (S := No) _).conv _).cell_of hHeld.2.2.2.2.2.2.1 id, Nat.le_trans hHeld.2.2.2.2.2.2.2 ((Fr.refl (S := No) _).conv _).size⟩ (fun hHeld => ?_)
    clear hK K
    try simp only [Act.put, List.setIfInBounds_toArray, List.set_cons_zero, List.set_cons_succ]
    have R25 := R0.conv ⟨x.op.path.toArray⟩
    have P25 := slat_conv _ x.op.path _ _ rfl rfl (Nat.le_trans e8 R0.size)
    refine wpAnyH_ready (rs := [5, 18]) (by as_aux_lemma => kernel_rfl) (by simp) ?_
    refine AllReadyH.cons rfl (fun K hK => ?_) (AllReadyH.cons rfl (fun K hK => ?_) AllReadyH.nil)
    · go_simp
      go_wp2_with (go_at_call 35; refine (int_ _ _ hHeld.2.2.2.2.2.2.2 iok).mono ?_; rintro e v26 ⟨rfl, g26⟩)
      refine hK.out _ _ ⟨g26.cell_of hHeld.1 id, g26.cell_of hHeld.2.1 id, g26.cell_of hHeld.2.2.1 id, g26.cell_of hHeld.2.2.2.1 id, g26.cell_of hHeld.2.2.2.2.1 id, g26.cell_of hHeld.2.2.2.2.2.1 id, g26.cell_of hHeld.2.2.2.2.2.2.1 id, Nat.le_trans hHeld.2.2.2.2.2.2.2 g26.size⟩ (fun hHeld => ?_)
      clear hK K
      try simp only [Act.put, List.setIfInBounds_toArray, List.set_cons_zero, List.set_cons_succ]
      have R26 := R25.trans g26 (fun _ _ e => e)
      have P26 := P25.no g26
      refine wpAnyH_take (i := 6) (v := ?_) rfl (by as_aux_lemma => kernel_rfl) (by as_aux_lemma => kernel_rfl) (by as_aux_lemma => kernel_rfl) (fun _ _ _ h => HP.out _ _ _ _ _ h) (Or.inl ⟨by rfl, ?_⟩) (by assumption) ?_
      rotate_left
      · (intro w' hSw; (try dsimp only at hSw); go_simp; (try with_reducible rfl))
      try simp only [Act.put, List.setIfInBounds_toArray, List.set_cons_zero, List.set_cons_succ]
      refine wpAnyH_take (i := 7) (v := ?_) rfl (by as_aux_lemma => kernel_rfl) (by as_aux_lemma => kernel_rfl) (by as_aux_lemma => kernel_rfl) (fun _ _ _ h => HP.out _ _ _ _ _ h) (Or.inl ⟨by rfl, ?_⟩) (by assumption) ?_
      rotate_left
      · (intro w' hSw; (try dsimp only at hSw); go_simp; (try with_reducible rfl))
      try simp only [Act.put, List.setIfInBounds_toArray, List.set_cons_zero, List.set_cons_succ]
      refine wpAnyH_ready (rs := [12, 18]) (by as_aux_lemma => kernel_rfl) (by simp) ?_
      refine AllReadyH.cons rfl (fun K hK => ?_) (AllReadyH.cons rfl (fun K hK => ?_) AllReadyH.nil)
      · go_simp
        go_wp2_with (go_at_call 36; refine (rhex_ x.op.path _ _ P26 hHeld.2.2.2.2.2.2.2 lp).mono ?_; rintro e v27 ⟨rfl, g27⟩)
        refine hK.out _ _ ⟨g27.cell_of hHeld.1 id, g27.cell_of hHeld.2.1 id, g27.cell_of hHeld.2.2.1 id, g27.cell_of hHeld.2.2.2.1 id, g27.cell_of hHeld.2.2.2.2.1 id, g27.cell_of hHeld.2.2.2.2.2.1 id, g27.cell_of hHeld.2.2.2.2.2.2.1 id, Nat.le_trans hHeld.2.2.2.2.2.2.2 g27.size⟩ (fun hHeld => ?_)
        clear hK K
        try simp only [Act.put, List.setIfInBounds_toArray, List.set_cons_zero, List.set_cons_succ]
        have R27 := R26.trans g27 (fun _ _ e => e)
        refine wpAnyH_take (i := 13) (v := ?_) rfl (by as_aux_lemma => kernel_rfl) (by as_aux_lemma => kernel_rfl) (by as_aux_lemma => kernel_rfl) (fun _ _ _ h => HP.out _ _ _ _ _ h) (Or.inl ⟨by rfl, ?_⟩) (by assumption) ?_
        rotate_left
        · (intro w' hSw; (try dsimp only at hSw); go_simp; (try with_reducible rfl))
        try simp only [Act.put, List.setIfInBounds_toArray, List.set_cons_zero, List.set_cons_succ]
        refine wpAnyH_take (i := 14) (v := ?_) rfl (by as_aux_lemma => kernel_rfl) (by as_aux_lemma => kernel_rfl) (by as_aux_lemma => kernel_rfl) (fun _ _ _ h => HP.out _ _ _ _ _ h) (Or.inl ⟨by rfl, ?_⟩) (by assumption) ?_
        rotate_left
        · (intro w' hSw; (try dsimp only at hSw); go_simp; (try with_reducible rfl))
        try simp only [Act.put, List.setIfInBounds_toArray, List.set_cons_zero, List.set_cons_succ]
        refine wpAnyH_ready (rs := [18]) (by as_aux_lemma => kernel_rfl) (by simp) ?_
        refine AllReadyH.cons rfl (fun K hK => ?_) AllReadyH.nil
        go_simp
        refine hK.out _ _ ⟨((Fr.refl (S := No) _).conv _).cell_of hHeld.1 id, ((Fr.refl (S := No) _).conv _).cell_of hHeld.2.1 id, ((Fr.refl (S := No) _).conv _).cell_of hHeld.2.2.1 id, ((Fr.refl (S := No) _).conv _).cell_of hHeld.2.2.2.1 id, ((Fr.refl (S := No) _).conv _).cell_of hHeld.2.2.2.2.1 id, ((Fr.refl (S := No) _).conv _).cell_of hHeld.2.2.2.2.2.1 id, ((Fr.refl (S := No) _).conv _).cell_of hHeld.2.2.2.2.2.2.1 id, Nat.le_trans hHeld.2.2.2.2.2.2.2 ((Fr.refl (S := No) _).conv _).size⟩ (fun hHeld => ?_)
        clear hK K
        try simp only [Act.put, List.setIfInBounds_toArray, List.set_cons_zero, List.set_cons_succ]
        have R28 := R27.conv ⟨x.op.to.toArray⟩
        have T28 := slat_conv _ x.op.to _ _ rfl rfl (Nat.le_trans e8 R27.size)
        refine wpAnyH_ready (rs := [19]) (by as_aux_lemma => kernel_rfl) (by simp) ?_
        refine AllReadyH.cons rfl (fun K hK => ?_) AllReadyH.nil
        go_simp
        go_wp2_with (go_at_call 36; refine (rhex_ x.op.to _ _ T28 hHeld.2.2.2.2.2.2.2 lt).mono ?_; rintro e v29 ⟨rfl, g29⟩)
        refine hK.out _ _ ⟨g29.cell_of hHeld.1 id, g29.cell_of hHeld.2.1 id, g29.cell_of hHeld.2.2.1 id, g29.cell_of hHeld.2.2.2.1 id, g29.cell_of hHeld.2.2.2.2.1 id, g29.cell_of hHeld.2.2.2.2.2.1 id, g29.cell_of hHeld.2.2.2.2.2.2.1 id, Nat.le_trans hHeld.2.2.2.2.2.2.2 g29.size⟩ (fun hHeld => ?_)
        clear hK K
        try simp only [Act.put, List.setIfInBounds_toArray, List.set_cons_zero, List.set_cons_succ]
        have R29 := R28.trans g29 (fun _ _ e => e)
        refine wpAnyH_take (i := 20) (v := ?_) rfl (by as_aux_lemma => kernel_rfl) (by as_aux_lemma => kernel_rfl) (by as_aux_lemma => kernel_rfl) (fun _ _ _ h => HP.out _ _ _ _ _ h) (Or.inl ⟨by rfl, ?_⟩) (by assumption) ?_
        rotate_left
        · (intro w' hSw; (try dsimp only at hSw); go_simp; (try with_reducible rfl))
        try simp only [Act.put, List.setIfInBounds_toArray, List.set_cons_zero, List.set_cons_succ]
        refine wpAnyH_take (i := 21) (v := ?_) rfl (by as_aux_lemma => kernel_rfl) (by as_aux_lemma => kernel_rfl) (by as_aux_lemma => kernel_rfl) (fun _ _ _ h => HP.out _ _ _ _ _ h) (Or.inl ⟨by rfl, ?_⟩) (by assumption) ?_
        rotate_left
        · (intro w' hSw; (try dsimp only at hSw); go_simp; (try with_reducible rfl))
        try simp only [Act.put, List.setIfInBounds_toArray, List.set_cons_zero, List.set_cons_succ]
        refine wpAnyH_ready (rs := [25]) (by as_aux_lemma => kernel_rfl) (by simp) ?_
        refine AllReadyH.cons rfl (fun K hK => ?_) AllReadyH.nil
        go_simp
        go_wp2_with (go_at_call 35; refine (int_ _ _ hHeld.2.2.2.2.2.2.2 ihd).mono ?_; rintro e v30 ⟨rfl, g30⟩)
        refine hK.out _ _ ⟨g30.cell_of hHeld.1 id, g30.cell_of hHeld.2.1 id, g30.cell_of hHeld.2.2.1 id, g30.cell_of hHeld.2.2.2.1 id, g30.cell_of hHeld.2.2.2.2.1 id, g30.cell_of hHeld.2.2.2.2.2.1 id, g30.cell_of hHeld.2.2.2.2.2.2.1 id, Nat.le_trans hHeld.2.2.2.2.2.2.2 g30.size⟩ (fun hHeld => ?_)
        clear hK K
        try simp only [Act.put, List.setIfInBounds_toArray, List.set_cons_zero, List.set_cons_succ]
        have R30 := R29.trans g30 (fun _ _ e => e)
        refine wpAnyH_take (i := 26) (v := ?_) rfl (by as_aux_lemma => kernel_rfl) (by as_aux_lemma => kernel_rfl) (by as_aux_lemma => kernel_rfl) (fun _ _ _ h => HP.out _ _ _ _ _ h) (Or.inl ⟨by rfl, ?_⟩) (by assumption) ?_
        rotate_left
        · (intro w' hSw; (try dsimp only at hSw); go_simp; (try with_reducible rfl))
        try simp only [Act.put, List.setIfInBounds_toArray, List.set_cons_zero, List.set_cons_succ]
        refine wpAnyH_take (i := 27) (v := ?_) rfl (by as_aux_lemma => kernel_rfl) (by as_aux_lemma => kernel_rfl) (by as_aux_lemma => kernel_rfl) (fun _ _ _ h => HP.out _ _ _ _ _ h) (Or.inl ⟨by rfl, ?_⟩) (by assumption) ?_
        rotate_left
        · (intro w' hSw; (try dsimp only at hSw); go_simp; (try with_reducible rfl))
        try simp only [Act.put, List.setIfInBounds_toArray, List.set_cons_zero, List.set_cons_succ]
        refine wpAnyH_ready (rs := [31]) (by as_aux_lemma => kernel_rfl) (by simp) ?_
        refine AllReadyH.cons rfl (fun K hK => ?_) AllReadyH.nil
        go_simp
        go_wp2_with (go_at_call 35; refine (int_ _ _ hHeld.2.2.2.2.2.2.2 ipos).mono ?_; rintro e v31 ⟨rfl, g31⟩)
        refine hK.out _ _ ⟨g31.cell_of hHeld.1 id, g31.cell_of hHeld.2.1 id, g31.cell_of hHeld.2.2.1 id, g31.cell_of hHeld.2.2.2.1 id, g31.cell_of hHeld.2.2.2.2.1 id, g31.cell_of hHeld.2.2.2.2.2.1 id, g31.cell_of hHeld.2.2.2.2.2.2.1 id, Nat.le_trans hHeld.2.2.2.2.2.2.2 g31.size⟩ (fun hHeld => ?_)
        clear hK K
        try simp only [Act.put, List.setIfInBounds_toArray, List.set_cons_zero, List.set_cons_succ]
        have R31 := R30.trans g31 (fun _ _ e => e)
        refine wpAnyH_take (i := 32) (v := ?_) rfl (by as_aux_lemma => kernel_rfl) (by as_aux_lemma => kernel_rfl) (by as_aux_lemma => kernel_rfl) (fun _ _ _ h => HP.out _ _ _ _ _ h) (Or.inl ⟨by rfl, ?_⟩) (by assumption) ?_
        rotate_left
        · (intro w' hSw; (try dsimp only at hSw); go_simp; (try with_reducible rfl))
        try simp only [Act.put, List.setIfInBounds_toArray, List.set_cons_zero, List.set_cons_succ]
        refine wpAnyH_take (i := 33) (v := ?_) rfl (by as_aux_lemma => kernel_rfl) (by as_aux_lemma => kernel_rfl) (by as_aux_lemma => kernel_rfl) (fun _ _ _ h => HP.out _ _ _ _ _ h) (Or.inl ⟨by rfl, ?_⟩) (by assumption) ?_
        rotate_left
        · (intro w' hSw; (try dsimp only at hSw); go_simp; (try with_reducible rfl))
        try simp only [Act.put, List.setIfInBounds_toArray, List.set_cons_zero, List.set_cons_succ]
        refine wpAnyH_ready (rs := [37]) (by as_aux_lemma => kernel_rfl) (by simp) ?_
        refine AllReadyH.cons rfl (fun K hK => ?_) AllReadyH.nil
        go_simp
        go_wp2_with (go_at_call 35; refine (int_ _ _ hHeld.2.2.2.2.2.2.2 ion).mono ?_; rintro e v32 ⟨rfl, g32⟩)
        refine hK.out _ _ ⟨g32.cell_of hHeld.1 id, g32.cell_of hHeld.2.1 id, g32.cell_of hHeld.2.2.1 id, g32.cell_of hHeld.2.2.2.1 id, g32.cell_of hHeld.2.2.2.2.1 id, g32.cell_of hHeld.2.2.2.2.2.1 id, g32.cell_of hHeld.2.2.2.2.2.2.1 id, Nat.le_trans hHeld.2.2.2.2.2.2.2 g32.size⟩ (fun hHeld => ?_)
        clear hK K
        try simp only [Act.put, List.setIfInBounds_toArray, List.set_cons_zero, List.set_cons_succ]
        have R32 := R31.trans g32 (fun _ _ e => e)
        refine wpAnyH_take (i := 38) (v := ?_) rfl (by as_aux_lemma => kernel_rfl) (by as_aux_lemma => kernel_rfl) (by as_aux_lemma => kernel_rfl) (fun _ _ _ h => HP.out _ _ _ _ _ h) (Or.inl ⟨by rfl, ?_⟩) (by assumption) ?_
        rotate_left
        · (intro w' hSw; (try dsimp only at hSw); go_simp; (try with_reducible rfl))
        try simp only [Act.put, List.setIfInBounds_toArray, List.set_cons_zero, List.set_cons_succ]
        refine wpAnyH_take (i := 39) (v := ?_) rfl (by as_aux_lemma => kernel_rfl) (by as_aux_lemma => kernel_rfl) (by as_aux_lemma => kernel_rfl) (fun _ _ _ h => HP.out _ _ _ _ _ h) (Or.inl ⟨by rfl, ?_⟩) (by assumption) ?_
        rotate_left
        · (intro w' hSw; (try dsimp only at hSw); go_simp; (try with_reducible rfl))
        try simp only [Act.put, List.setIfInBounds_toArray, List.set_cons_zero, List.set_cons_succ]
        refine wpAnyH_take (i := 41) (v := ?_) rfl (by as_aux_lemma => kernel_rfl) (by as_aux_lemma => kernel_rfl) (by as_aux_lemma => kernel_rfl) (fun _ _ _ h => HP.out _ _ _ _ _ h) (Or.inl ⟨by rfl, ?_⟩) (by assumption) ?_
        rotate_left
        · (intro w' hSw; (try dsimp only at hSw); go_simp; (try with_reducible rfl))
        try simp only [Act.put, List.setIfInBounds_toArray, List.set_cons_zero, List.set_cons_succ]
        refine wpAnyH_take (i := 42) (v := ?_) rfl (by as_aux_lemma => kernel_rfl) (by as_aux_lemma => kernel_rfl) (by as_aux_lemma => kernel_rfl) (fun _ _ _ h => HP.out _ _ _ _ _ h) (Or.inl ⟨by rfl, ?_⟩) (by assumption) ?_
        rotate_left
        · (intro w' hSw; (try dsimp only at hSw); go_simp; (try with_reducible rfl))
        try simp only [Act.put, List.setIfInBounds_toArray, List.set_cons_zero, List.set_cons_succ]
        refine wpAnyH_ready (rs := [46]) (by as_aux_lemma => kernel_rfl) (by simp) ?_
        refine AllReadyH.cons rfl (fun K hK => ?_) AllReadyH.nil
        go_simp
        go_wp2_with (go_at_call 36; refine (rhex_ x.op.b _ _ (HSO.out.no R32) hHeld.2.2.2.2.2.2.2 lb).mono ?_; rintro e v33 ⟨rfl, g33⟩)
        refine hK.out _ _ ⟨g33.cell_of hHeld.1 id, g33.cell_of hHeld.2.1 id, g33.cell_of hHeld.2.2.1 id, g33.cell_of hHeld.2.2.2.1 id, g33.cell_of hHeld.2.2.2.2.1 id, g33.cell_of hHeld.2.2.2.2.2.1 id, g33.cell_of hHeld.2.2.2.2.2.2.1 id, Nat.le_trans hHeld.2.2.2.2.2.2.2 g33.size⟩ (fun hHeld => ?_)
        clear hK K
        try simp only [Act.put, List.setIfInBounds_toArray, List.set_cons_zero, List.set_cons_succ]
        have R33 := R32.trans g33 (fun _ _ e => e)
        refine wpAnyH_take (i := 47) (v := ?_) rfl (by as_aux_lemma => kernel_rfl) (by as_aux_lemma => kernel_rfl) (by as_aux_lemma => kernel_rfl) (fun _ _ _ h => HP.out _ _ _ _ _ h) (Or.inl ⟨by rfl, ?_⟩) (by assumption) ?_
        rotate_left
        · (intro w' hSw; (try dsimp only at hSw); go_simp; (try with_reducible rfl))
        try simp only [Act.put, List.setIfInBounds_toArray, List.set_cons_zero, List.set_cons_succ]
        refine wpAnyH_take (i := 48) (v := ?_) rfl (by as_aux_lemma => kernel_rfl) (by as_aux_lemma => kernel_rfl) (by as_aux_lemma => kernel_rfl) (fun _ _ _ h => HP.out _ _ _ _ _ h) (Or.inl ⟨by rfl, ?_⟩) (by assumption) ?_
        rotate_left
        · (intro w' hSw; (try dsimp only at hSw); go_simp; (try with_reducible rfl))
        try simp only [Act.put, List.setIfInBounds_toArray, List.set_cons_zero, List.set_cons_succ]
        refine wpAnyH_done (by as_aux_lemma => kernel_rfl) ?_ _
        go_simp
        exact HQ.out _ _ _ _ _ _ _ _ _ _ _ _ _ _ _ _ _ _ _ _ _ _ _ _ _ _ _ _ _ _ _ _ _ _ _ _ _ _ _ _ _ _ _ _ _ _ _ _ _ _ R33
      · go_simp
        refine hK.out _ _ ⟨((Fr.refl (S := No) _).conv _).cell_of hHeld.1 id, ((Fr.refl (S := No) _).conv _).cell_of hHeld.2.1 id, ((Fr.refl (S := No) _).conv _).cell_of hHeld.2.2.1 id, ((Fr.refl (S := No) _).conv _).cell_of hHeld.2.2.2.1 id, ((Fr.refl (S := No) _).conv _).cell_of hHeld.2.2.2.2.1 id, ((Fr.refl (S := No) _).conv _).cell_of hHeld.2.2.2.2.2.1 id, ((Fr.refl (S := No) _).conv _).cell_of hHeld.2.2.2.2.2.2.1 id, Nat.le_trans hHeld.2.2.2.2.2.2.2 ((Fr.refl (S := No) _).conv _).size⟩ (fun hHeld => ?_)
        clear hK K
        try simp only [Act.put, List.setIfInBounds_toArray, List.set_cons_zero, List.set_cons_succ]
        have R34 := R26.conv ⟨x.op.to.toArray⟩
        have P34 := P26.no ((Fr.refl (S := No) _).conv ⟨x.op.to.toArray⟩)
        have T34 := slat_conv _ x.op.to _ _ rfl rfl (Nat.le_trans e8 R26.size)
        refine wpAnyH_ready (rs := [12]) (by as_aux_lemma => kernel_rfl) (by simp) ?_
        refine AllReadyH.cons rfl (fun K hK => ?_) AllReadyH.nil
        go_simp
        go_wp2_with (go_at_call 36; refine (rhex_ x.op.path _ _ P34 hHeld.2.2.2.2.2.2.2 lp).mono ?_; rintro e v35 ⟨rfl, g35⟩)
        refine hK.out _ _ ⟨g35.cell_of hHeld.1 id, g35.cell_of hHeld.2.1 id, g35.cell_of hHeld.2.2.1 id, g35.cell_of hHeld.2.2.2.1 id, g35.cell_of hHeld.2.2.2.2.1 id, g35.cell_of hHeld.2.2.2.2.2.1 id, g35.cell_of hHeld.2.2.2.2.2.2.1 id, Nat.le_trans hHeld.2.2.2.2.2.2.2 g35.size⟩ (fun hHeld => ?_)
        clear hK K
        try simp only [Act.put, List.setIfInBounds_toArray, List.set_cons_zero, List.set_cons_succ]
        have R35 := R34.trans g35 (fun _ _ e => e)
        have T35 := T34.no g35
        refine wpAnyH_take (i := 13) (v := ?_) rfl (by as_aux_lemma => kernel_rfl) (by as_aux_lemma => kernel_rfl) (by as_aux_lemma => kernel_rfl) (fun _ _ _ h => HP.out _ _ _ _ _ h) (Or.inl ⟨by rfl, ?_⟩) (by assumption) ?_
        rotate_left
        · (intro w' hSw; (try dsimp only at hSw); go_simp; (try with_reducible rfl))
        try simp only [Act.put, List.setIfInBounds_toArray, List.set_cons_zero, List.set_cons_succ]
        refine wpAnyH_take (i := 14) (v := ?_) rfl (by as_aux_lemma => kernel_rfl) (by as_aux_lemma => kernel_rfl) (by as_aux_lemma => kernel_rfl) (fun _ _ _ h => HP.out _ _ _ _ _ h) (Or.inl ⟨by rfl, ?_⟩) (by assumption) ?_
        rotate_left
        · (intro w' hSw; (try dsimp only at hSw); go_simp; (try with_reducible rfl))
        try simp only [Act.put, List.setIfInBounds_toArray, List.set_cons_zero, List.set_cons_succ]
        refine wpAnyH_ready (rs := [19]) (by as_aux_lemma => kernel_rfl) (by simp) ?_
        refine AllReadyH.cons rfl (fun K hK => ?_) AllReadyH.nil
        go_simp
        go_wp2_with (go_at_call 36; refine (rhex_ x.op.to _ _ T35 hHeld.2.2.2.2.2.2.2 lt).mono ?_; rintro e v36 ⟨rfl, g36⟩)
        refine hK.out _ _ ⟨g36.cell_of hHeld.1 id, g36.cell_of hHeld.2.1 id, g36.cell_of hHeld.2.2.1 id, g36.cell_of hHeld.2.2.2.1 id, g36.cell_of hHeld.2.2.2.2.1 id, g36.cell_of hHeld.2.2.2.2.2.1 id, g36.cell_of hHeld.2.2.2.2.2.2.1 id, Nat.le_trans hHeld.2.2.2.2.2.2.2 g36.size⟩ (fun hHeld => ?_)
        clear hK K
        try simp only [Act.put, List.setIfInBounds_toArray, List.set_cons_zero, List.set_cons_succ]
        have R36 := R35.trans g36 (fun _ _ e => e)
        refine wpAnyH_take (i := 20) (v := ?_) rfl (by as_aux_lemma => kernel_rfl) (by as_aux_lemma => kernel_rfl) (by as_aux_lemma => kernel_rfl) (fun _ _ _ h => HP.out _ _ _ _ _ h) (Or.inl ⟨by rfl, ?_⟩) (by assumption) ?_
        rotate_left
        · (intro w' hSw; (try dsimp only at hSw); go_simp; (try with_reducible rfl))
        try simp only [Act.put, List.setIfInBounds_toArray, List.set_cons_zero, List.set_cons_succ]
        refine wpAnyH_take (i := 21) (v := ?_) rfl (by as_aux_lemma => kernel_rfl) (by as_aux_lemma => kernel_rfl) (by as_aux_lemma => kernel_rfl) (fun _ _ _ h => HP.out _ _ _ _ _ h) (Or.inl ⟨by rfl, ?_⟩) (by assumption) ?_
        rotate_left
        · (intro w' hSw; (try dsimp only at hSw); go_simp; (try with_reducible rfl))
        try simp only [Act.put, List.setIfInBounds_toArray, List.set_cons_zero, List.set_cons_succ]
        refine wpAnyH_ready (rs := [25]) (by as_aux_lemma => kernel_rfl) (by simp) ?_
        refine AllReadyH.cons rfl (fun K hK => ?_) AllReadyH.nil
        go_simp
        go_wp2_with (go_at_call 35; refine (int_ _ _ hHeld.2.2.2.2.2.2.2 ihd).mono ?_; rintro e v37 ⟨rfl, g37⟩)
        refine hK.out _ _ ⟨g37.cell_of hHeld.1 id, g37.cell_of hHeld.2.1 id, g37.cell_of hHeld.2.2.1 id, g37.cell_of hHeld.2.2.2.1 id, g37.cell_of hHeld.2.2.2.2.1 id, g37.cell_of hHeld.2.2.2.2.2.1 id, g37.cell_of hHeld.2.2.2.2.2.2.1 id, Nat.le_trans hHeld.2.2.2.2.2.2.2 g37.size⟩ (fun hHeld => ?_)
        clear hK K
        try simp only [Act.put, List.setIfInBounds_toArray, List.set_cons_zero, List.set_cons_succ]
        have R37 := R36.trans g37 (fun _ _ e => e)
        refine wpAnyH_take (i := 26) (v := ?_) rfl (by as_aux_lemma => kernel_rfl) (by as_aux_lemma => kernel_rfl) (by as_aux_lemma => kernel_rfl) (fun _ _ _ h => HP.out _ _ _ _ _ h) (Or.inl ⟨by rfl, ?_⟩) (by assumption) ?_
        rotate_left
        · (intro w' hSw; (try dsimp only at hSw); go_simp; (try with_reducible rfl))
        try simp only [Act.put, List.setIfInBounds_toArray, List.set_cons_zero, List.set_cons_succ]
        refine wpAnyH_take (i := 27) (v := ?_) rfl (by as_aux_lemma => kernel_rfl) (by as_aux_lemma => kernel_rfl) (by as_aux_lemma => kernel_rfl) (fun _ _ _ h => HP.out _ _ _ _ _ h) (Or.inl ⟨by rfl, ?_⟩) (by assumption) ?_
        rotate_left
        · (intro w' hSw; (try dsimp only at hSw); go_simp; (try with_reducible rfl))
        try simp only [Act.put, List.setIfInBounds_toArray, List.set_cons_zero, List.set_cons_succ]
        refine wpAnyH_ready (rs := [31]) (by as_aux_lemma => kernel_rfl) (by simp) ?_
        refine AllReadyH.cons rfl (fun K hK => ?_) AllReadyH.nil
        go_simp
        go_wp2_with (go_at_call 35; refine (int_ _ _ hHeld.2.2.2.2.2.2.2 ipos).mono ?_; rintro e v38 ⟨rfl, g38⟩)
        refine hK.out _ _ ⟨g38.cell_of hHeld.1 id, g38.cell_of hHeld.2.1 id, g38.cell_of hHeld.2.2.1 id, g38.cell_of hHeld.2.2.2.1 id, g38.cell_of hHeld.2.2.2.2.1 id, g38.cell_of hHeld.2.2.2.2.2.1 id, g38.cell_of hHeld.2.2.2.2.2.2.1 id, Nat.le_trans hHeld.2.2.2.2.2.2.2 g38.size⟩ (fun hHeld => ?_)
        clear hK K
        try simp only [Act.put, List.setIfInBounds_toArray, List.set_cons_zero, List.set_cons_succ]
        have R38 := R37.trans g38 (fun _ _ e => e)
        refine wpAnyH_take (i := 32) (v := ?_) rfl (by as_aux_lemma => kernel_rfl) (by as_aux_lemma => kernel_rfl) (by as_aux_lemma => kernel_rfl) (fun _ _ _ h => HP.out _ _ _ _ _ h) (Or.inl ⟨by rfl, ?_⟩) (by assumption) ?_
        rotate_left
        · (intro w' hSw; (try dsimp only at hSw); go_simp; (try with_reducible rfl))
        try simp only [Act.put, List.setIfInBounds_toArray, List.set_cons_zero, List.set_cons_succ]
        refine wpAnyH_take (i := 33) (v := ?_) rfl (by as_aux_lemma => kernel_rfl) (by as_aux_lemma => kernel_rfl) (by as_aux_lemma => kernel_rfl) (fun _ _ _ h => HP.out _ _ _ _ _ h) (Or.inl ⟨by rfl, ?_⟩) (by assumption) ?_
        rotate_left
        · (intro w' hSw; (try dsimp only at hSw); go_simp; (try with_reducible rfl))
        try simp only [Act.put, List.setIfInBounds_toArray, List.set_cons_zero, List.set_cons_succ]
        refine wpAnyH_ready (rs := [37]) (by as_aux_lemma => kernel_rfl) (by simp) ?_
        refine AllReadyH.cons rfl (fun K hK => ?_) AllReadyH.nil
        go_simp
        go_wp2_with (go_at_call 35; refine (int_ _ _ hHeld.2.2.2.2.2.2.2 ion).mono ?_; rintro e v39 ⟨rfl, g39⟩)
        refine hK.out _ _ ⟨g39.cell_of hHeld.1 id, g39.cell_of hHeld.2.1 id, g39.cell_of hHeld.2.2.1 id, g39.cell_of hHeld.2.2.2.1 id, g39.cell_of hHeld.2.2.2.2.1 id, g39.cell_of hHeld.2.2.2.2.2.1 id, g39.cell_of hHeld.2.2.2.2.2.2.1 id, Nat.le_trans hHeld.2.2.2.2.2.2.2 g39.size⟩ (fun hHeld => ?_)
        clear hK K
        try simp only [Act.put, List.setIfInBounds_toArray, List.set_cons_zero, List.set_cons_succ]
        have R39 := R38.trans g39 (fun _ _ e => e)
        refine wpAnyH_take (i := 38) (v := ?_) rfl (by as_aux_lemma => kernel_rfl) (by as_aux_lemma => kernel_rfl) (by as_aux_lemma => kernel_rfl) (fun _ _ _ h => HP.out _ _ _ _ _ h) (Or.inl ⟨by rfl, ?_⟩) (by assumption) ?_
        rotate_left
        · (intro w' hSw; (try dsimp only at hSw); go_simp; (try with_reducible rfl))
        try simp only [Act.put, List.setIfInBounds_toArray, List.set_cons_zero, List.set_cons_succ]
        refine wpAnyH_take (i := 39) (v := ?_) rfl (by as_aux_lemma => kernel_rfl) (by as_aux_lemma => kernel_rfl) (by as_aux_lemma => kernel_rfl) (fun _ _ _ h => HP.out _ _ _ _ _ h) (Or.inl ⟨by rfl, ?_⟩) (by assumption) ?_
        rotate_left
        · (intro w' hSw; (try dsimp only at hSw); go_simp; (try with_reducible rfl))
        try simp only [Act.put, List.setIfInBounds_toArray, List.set_cons_zero, List.set_cons_succ]
        refine wpAnyH_take (i := 41) (v := ?_) rfl (by as_aux_lemma => kernel_rfl) (by as_aux_lemma => kernel_rfl) (by as_aux_lemma => kernel_rfl) (fun _ _ _ h => HP.out _ _ _ _ _ h) (Or.inl ⟨by rfl, ?_⟩) (by assumption) ?_
        rotate_left
        · (intro w' hSw; (try dsimp only at hSw); go_simp; (try with_reducible rfl))
        try simp only [Act.put, List.setIfInBounds_toArray, List.set_cons_zero, List.set_cons_succ]
        refine wpAnyH_take (i := 42) (v := ?_) rfl (by as_aux_lemma => kernel_rfl) (by as_aux_lemma => kernel_rfl) (by as_aux_lemma => kernel_rfl) (fun _ _ _ h => HP.out _ _ _ _ _ h) (Or.inl ⟨by rfl, ?_⟩) (by assumption) ?_
        rotate_left
        · (intro w' hSw; (try dsimp only at hSw); go_simp; (try with_reducible rfl))
        try simp only [Act.put, List.setIfInBounds_toArray, List.set_cons_zero, List.set_cons_succ]
        refine wpAnyH_ready (rs := [46]) (by as_aux_lemma => kernel_rfl) (by simp) ?_
        refine AllReadyH.cons rfl (fun K hK => ?_) AllReadyH.nil
        go_simp
        go_wp2_with (go_at_call 36; refine (rhex_ x.op.b _ _ (HSO.out.no R39) hHeld.2.2.2.2.2.2.2 lb).mono ?_; rintro e v40 ⟨rfl, g40⟩)
        refine hK.out _ _ ⟨g40.cell_of hHeld.1 id, g40.cell_of hHeld.2.1 id, g40.cell_of hHeld.2.2.1 id, g40.cell_of hHeld.2.2.2.1 id, g40.cell_of hHeld.2.2.2.2.1 id, g40.cell_of hHeld.2.2.2.2.2.1 id, g40.cell_of hHeld.2.2.2.2.2.2.1 id, Nat.le_trans hHeld.2.2.2.2.2.2.2 g40.size⟩ (fun hHeld => ?_)
        clear hK K
        try simp only [Act.put, List.setIfInBounds_toArray, List.set_cons_zero, List.set_cons_succ]
        have R40 := R39.trans g40 (fun _ _ e => e)
        refine wpAnyH_take (i := 47) (v := ?_) rfl (by as_aux_lemma => kernel_rfl) (by as_aux_lemma => kernel_rfl) (by as_aux_lemma => kernel_rfl) (fun _ _ _ h => HP.out _ _ _ _ _ h) (Or.inl ⟨by rfl, ?_⟩) (by assumption) ?_
        rotate_left
        · (intro w' hSw; (try dsimp only at hSw); go_simp; (try with_reducible rfl))
        try simp only [Act.put, List.setIfInBounds_toArray, List.set_cons_zero, List.set_cons_succ]
        refine wpAnyH_take (i := 48) (v := ?_) rfl (by as_aux_lemma => kernel_rfl) (by as_aux_lemma => kernel_rfl) (by as_aux_lemma => kernel_rfl) (fun _ _ _ h => HP.out _ _ _ _ _ h) (Or.inl ⟨by rfl, ?_⟩) (by assumption) ?_
        rotate_left
        · (intro w' hSw; (try dsimp only at hSw); go_simp; (try with_reducible rfl))
        try simp only [Act.put, List.setIfInBounds_toArray, List.set_cons_zero, List.set_cons_succ]
        refine wpAnyH_done (by as_aux_lemma => kernel_rfl) ?_ _
        go_simp
        exact HQ.out _ _ _ _ _ _ _ _ _ _ _ _ _ _ _ _ _ _ _ _ _ _ _ _ _ _ _ _ _ _ _ _ _ _ _ _ _ _ _ _ _ _ _ _ _ _ _ _ _ _ R40
    · go_simp
      refine hK.out _ _ ⟨((Fr.refl (S := No) _).conv _).cell_of hHeld.1 id, ((Fr.refl (S := No) _).conv _).cell_of hHeld.2.1 id, ((Fr.refl (S := No) _).conv _).cell_of hHeld.2.2.1 id, ((Fr.refl (S := No) _).conv _).cell_of hHeld.2.2.2.1 id, ((Fr.refl (S := No) _).conv _).cell_of hHeld.2.2.2.2.1 id, ((Fr.refl (S := No) _).conv _).cell_of hHeld.2.2.2.2.2.1 id, ((Fr.refl (S := No) _).conv _).cell_of hHeld.2.2.2.2.2.2.1 id, Nat.le_trans hHeld.2.2.2.2.2.2.2 ((Fr.refl (S := No) _).conv _).size⟩ (fun hHeld => ?_)
      clear hK K
      try simp only [Act.put, List.setIfInBounds_toArray, List.set_cons_zero, List.set_cons_succ]
      have R41 := R25.conv ⟨x.op.to.toArray⟩
      have P41 := P25.no ((Fr.refl (S := No) _).conv ⟨x.op.to.toArray⟩)
      have T41 := slat_conv _ x.op.to _ _ rfl rfl (Nat.le_trans e8 R25.size)
      refine wpAnyH_ready (rs := [5]) (by as_aux_lemma => kernel_rfl) (by simp) ?_
      refine AllReadyH.cons rfl (fun K hK => ?_) AllReadyH.nil
      go_simp
      go_wp2_with (go_at_call 35; refine (int_ _ _ hHeld.2.2.2.2.2.2.2 iok).mono ?_; rintro e v42 ⟨rfl, g42⟩)
      refine hK.out _ _ ⟨g42.cell_of hHeld.1 id, g42.cell_of hHeld.2.1 id, g42.cell_of hHeld.2.2.1 id, g42.cell_of hHeld.2.2.2.1 id, g42.cell_of hHeld.2.2.2.2.1 id, g42.cell_of hHeld.2.2.2.2.2.1 id, g42.cell_of hHeld.2.2.2.2.2.2.1 id, Nat.le_trans hHeld.2.2.2.2.2.2.2 g42.size⟩ (fun hHeld => ?_)
      clear hK K
      try simp only [Act.put, List.setIfInBounds_toArray, List.set_cons_zero, List.set_cons_succ]
      have R42 := R41.trans g42 (fun _ _ e => e)
      have P42 := P41.no g42
      have T42 := T41.no g42
      refine wpAnyH_take (i := 6) (v := ?_) rfl (by as_aux_lemma => kernel_rfl) (by as_aux_lemma => kernel_rfl) (by as_aux_lemma => kernel_rfl) (fun _ _ _ h => HP.out _ _ _ _ _ h) (Or.inl ⟨by rfl, ?_⟩) (by assumption) ?_
      rotate_left
      · (intro w' hSw; (try dsimp only at hSw); go_simp; (try with_reducible rfl))
      try simp only [Act.put, List.setIfInBounds_toArray, List.set_cons_zero, List.set_cons_succ]
      refine wpAnyH_take (i := 7) (v := ?_) rfl (by as_aux_lemma => kernel_rfl) (by as_aux_lemma => kernel_rfl) (by as_aux_lemma => kernel_rfl) (fun _ _ _ h => HP.out _ _ _ _ _ h) (Or.inl ⟨by rfl, ?_⟩) (by assumption) ?_
      rotate_left
      · (intro w' hSw; (try dsimp only at hSw); go_simp; (try with_reducible rfl))
      try simp only [Act.put, List.setIfInBounds_toArray, List.set_cons_zero, List.set_cons_succ]
      refine wpAnyH_ready (rs := [12]) (by as_aux_lemma => kernel_rfl) (by simp) ?_
      refine AllReadyH.cons rfl (fun K hK => ?_) AllReadyH.nil
      go_simp
      go_wp2_with (go_at_call 36; refine (rhex_ x.op.path _ _ P42 hHeld.2.2.2.2.2.2.2 lp).mono ?_; rintro e v43 ⟨rfl, g43⟩)
      refine hK.out _ _ ⟨g43.cell_of hHeld.1 id, g43.cell_of hHeld.2.1 id, g43.cell_of hHeld.2.2.1 id, g43.cell_of hHeld.2.2.2.1 id, g43.cell_of hHeld.2.2.2.2.1 id, g43.cell_of hHeld.2.2.2.2.2.1 id, g43.cell_of hHeld.2.2.2.2.2.2.1 id, Nat.le_trans hHeld.2.2.2.2.2.2.2 g43.size⟩ (fun hHeld => ?_)
      clear hK K
      try simp only [Act.put, List.setIfInBounds_toArray, List.set_cons_zero, List.set_cons_succ]
      have R43 := R42.trans g43 (fun _ _ e => e)
      have T43 := T42.no g43
      refine wpAnyH_take (i := 13) (v := ?_) rfl (by as_aux_lemma => kernel_rfl) (by as_aux_lemma => kernel_rfl) (by as_aux_lemma => kernel_rfl) (fun _ _ _ h => HP.out _ _ _ _ _ h) (Or.inl ⟨by rfl, ?_⟩) (by assumption) ?_
      rotate_left
      · (intro w' hSw; (try dsimp only at hSw); go_simp; (try with_reducible rfl))
      try simp only [Act.put, List.setIfInBounds_toArray, List.set_cons_zero, List.set_cons_succ]
      refine wpAnyH_take (i := 14) (v := ?_) rfl (by as_aux_lemma => kernel_rfl) (by as_aux_lemma => kernel_rfl) (by as_aux_lemma => kernel_rfl) (fun _ _ _ h => HP.out _ _ _ _ _ h) (Or.inl ⟨by rfl, ?_⟩) (by assumption) ?_
      rotate_left
      · (intro w' hSw; (try dsimp only at hSw); go_simp; (try with_reducible rfl))
      try simp only [Act.put, List.setIfInBounds_toArray, List.set_cons_zero, List.set_cons_succ]
      refine wpAnyH_ready (rs := [19]) (by as_aux_lemma => kernel_rfl) (by simp) ?_
      refine AllReadyH.cons rfl (fun K hK => ?_) AllReadyH.nil
      go_simp
      go_wp2_with (go_at_call 36; refine (rhex_ x.op.to _ _ T43 hHeld.2.2.2.2.2.2.2 lt).mono ?_; rintro e v44 ⟨rfl, g44⟩)
      refine hK.out _ _ ⟨g44.cell_of hHeld.1 id, g44.cell_of hHeld.2.1 id, g44.cell_of hHeld.2.2.1 id, g44.cell_of hHeld.2.2.2.1 id, g44.cell_of hHeld.2.2.2.2.1 id, g44.cell_of hHeld.2.2.2.2.2.1 id, g44.cell_of hHeld.2.2.2.2.2.2.1 id, Nat.le_trans hHeld.2.2.2.2.2.2.2 g44.size⟩ (fun hHeld => ?_)
      clear hK K
      try simp only [Act.put, List.setIfInBounds_toArray, List.set_cons_zero, List.set_cons_succ]
      have R44 := R43.trans g44 (fun _ _ e => e)
      refine wpAnyH_take (i := 20) (v := ?_) rfl (by as_aux_lemma => kernel_rfl) (by as_aux_lemma => kernel_rfl) (by as_aux_lemma => kernel_rfl) (fun _ _ _ h => HP.out _ _ _ _ _ h) (Or.inl ⟨by rfl, ?_⟩) (by assumption) ?_
      rotate_left
      · (intro w' hSw; (try dsimp only at hSw); go_simp; (try with_reducible rfl))
      try simp only [Act.put, List.setIfInBounds_toArray, List.set_cons_zero, List.set_cons_succ]
      refine wpAnyH_take (i := 21) (v := ?_) rfl (by as_aux_lemma => kernel_rfl) (by as_aux_lemma => kernel_rfl) (by as_aux_lemma => kernel_rfl) (fun _ _ _ h => HP.out _ _ _ _ _ h) (Or.inl ⟨by rfl, ?_⟩) (by assumption) ?_
      rotate_left
      · (intro w' hSw; (try dsimp only at hSw); go_simp; (try with_reducible rfl))
      try simp only [Act.put, List.setIfInBounds_toArray, List.set_cons_zero, List.set_cons_succ]
      refine wpAnyH_ready (rs := [25]) (by as_aux_lemma => kernel_rfl) (by simp) ?_
      refine AllReadyH.cons rfl (fun K hK => ?_) AllReadyH.nil
      go_simp
      go_wp2_with (go_at_call 35; refine (int_ _ _ hHeld.2.2.2.2.2.2.2 ihd).mono ?_; rintro e v45 ⟨rfl, g45⟩)
      refine hK.out _ _ ⟨g45.cell_of hHeld.1 id, g45.cell_of hHeld.2.1 id, g45.cell_of hHeld.2.2.1 id, g45.cell_of hHeld.2.2.2.1 id, g45.cell_of hHeld.2.2.2.2.1 id, g45.cell_of hHeld.2.2.2.2.2.1 id, g45.cell_of hHeld.2.2.2.2.2.2.1 id, Nat.le_trans hHeld.2.2.2.2.2.2.2 g45.size⟩ (fun hHeld => ?_)
      clear hK K
      try simp only [Act.put, List.setIfInBounds_toArray, List.set_cons_zero, List.set_cons_succ]
      have R45 := R44.trans g45 (fun _ _ e => e)
      refine wpAnyH_take (i := 26) (v := ?_) rfl (by as_aux_lemma => kernel_rfl) (by as_aux_lemma => kernel_rfl) (by as_aux_lemma => kernel_rfl) (fun _ _ _ h => HP.out _ _ _ _ _ h) (Or.inl ⟨by rfl, ?_⟩) (by assumption) ?_
      rotate_left
      · (intro w' hSw; (try dsimp only at hSw); go_simp; (try with_reducible rfl))
      try simp only [Act.put, List.setIfInBounds_toArray, List.set_cons_zero, List.set_cons_succ]
      refine wpAnyH_take (i := 27) (v := ?_) rfl (by as_aux_lemma => kernel_rfl) (by as_aux_lemma => kernel_rfl) (by as_aux_lemma => kernel_rfl) (fun _ _ _ h => HP.out _ _ _ _ _ h) (Or.inl ⟨by rfl, ?_⟩) (by assumption) ?_
      rotate_left
      · (intro w' hSw; (try dsimp only at hSw); go_simp; (try with_reducible rfl))
      try simp only [Act.put, List.setIfInBounds_toArray, List.set_cons_zero, List.set_cons_succ]
      refine wpAnyH_ready (rs := [31]) (by as_aux_lemma => kernel_rfl) (by simp) ?_
      refine AllReadyH.cons rfl (fun K hK => ?_) AllReadyH.nil
      go_simp
      go_wp2_with (go_at_call 35; refine (int_ _ _ hHeld.2.2.2.2.2.2.2 ipos).mono ?_; rintro e v46 ⟨rfl, g46⟩)
      refine hK.out _ _ ⟨g46.cell_of hHeld.1 id, g46.cell_of hHeld.2.1 id, g46.cell_of hHeld.2.2.1 id, g46.cell_of hHeld.2.2.2.1 id, g46.cell_of hHeld.2.2.2.2.1 id, g46.cell_of hHeld.2.2.2.2.2.1 id, g46.cell_of hHeld.2.2.2.2.2.2.1 id, Nat.le_trans hHeld.2.2.2.2.2.2.2 g46.size⟩ (fun hHeld => ?_)
      clear hK K
      try simp only [Act.put, List.setIfInBounds_toArray, List.set_cons_zero, List.set_cons_succ]
      have R46 := R45.trans g46 (fun _ _ e => e)
      refine wpAnyH_take (i := 32) (v := ?_) rfl (by as_aux_lemma => kernel_rfl) (by as_aux_lemma => kernel_rfl) (by as_aux_lemma => kernel_rfl) (fun _ _ _ h => HP.out _ _ _ _ _ h) (Or.inl ⟨by rfl, ?_⟩) (by assumption) ?_
      rotate_left
      · (intro w' hSw; (try dsimp only at hSw); go_simp; (try with_reducible rfl))
      try simp only [Act.put, List.setIfInBounds_toArray, List.set_cons_zero, List.set_cons_succ]
      refine wpAnyH_take (i := 33) (v := ?_) rfl (by as_aux_lemma => kernel_rfl) (by as_aux_lemma => kernel_rfl) (by as_aux_lemma => kernel_rfl) (fun _ _ _ h => HP.out _ _ _ _ _ h) (Or.inl ⟨by rfl, ?_⟩) (by assumption) ?_
      rotate_left
      · (intro w' hSw; (try dsimp only at hSw); go_simp; (try with_reducible rfl))
      try simp only [Act.put, List.setIfInBounds_toArray, List.set_cons_zero, List.set_cons_succ]
      refine wpAnyH_ready (rs := [37]) (by as_aux_lemma => kernel_rfl) (by simp) ?_
      refine AllReadyH.cons rfl (fun K hK => ?_) AllReadyH.nil
      go_simp
      go_wp2_with (go_at_call 35; refine (int_ _ _ hHeld.2.2.2.2.2.2.2 ion).mono ?_; rintro e v47 ⟨rfl, g47⟩)
      refine hK.out _ _ ⟨g47.cell_of hHeld.1 id, g47.cell_of hHeld.2.1 id, g47.cell_of hHeld.2.2.1 id, g47.cell_of hHeld.2.2.2.1 id, g47.cell_of hHeld.2.2.2.2.1 id, g47.cell_of hHeld.2.2.2.2.2.1 id, g47.cell_of hHeld.2.2.2.2.2.2.1 id, Nat.le_trans hHeld.2.2.2.2.2.2.2 g47.size⟩ (fun hHeld => ?_)
      clear hK K
      try simp only [Act.put, List.setIfInBounds_toArray, List.set_cons_zero, List.set_cons_succ]
      have R47 := R46.trans g47 (fun _ _ e => e)
      refine wpAnyH_take (i := 38) (v := ?_) rfl (by as_aux_lemma => kernel_rfl) (by as_aux_lemma => kernel_rfl) (by as_aux_lemma => kernel_rfl) (fun _ _ _ h => HP.out _ _ _ _ _ h) (Or.inl ⟨by rfl, ?_⟩) (by assumption) ?_
      rotate_left
      · (intro w' hSw; (try dsimp only at hSw); go_simp; (try with_reducible rfl))
      try simp only [Act.put, List.setIfInBounds_toArray, List.set_cons_zero, List.set_cons_succ]
      refine wpAnyH_take (i := 39) (v := ?_) rfl (by as_aux_lemma => kernel_rfl) (by as_aux_lemma => kernel_rfl) (by as_aux_lemma => kernel_rfl) (fun _ _ _ h => HP.out _ _ _ _ _ h) (Or.inl ⟨by rfl, ?_⟩) (by assumption) ?_
      rotate_left
      · (intro w' hSw; (try dsimp only at hSw); go_simp; (try with_reducible rfl))
      try simp only [Act.put, List.setIfInBounds_toArray, List.set_cons_zero, List.set_cons_succ]
      refine wpAnyH_take (i := 41) (v := ?_) rfl (by as_aux_lemma => kernel_rfl) (by as_aux_lemma => kernel_rfl) (by as_aux_lemma => kernel_rfl) (fun _ _ _ h => HP.out _ _ _ _ _ h) (Or.inl ⟨by rfl, ?_⟩) (by assumption) ?_
      rotate_left
      · (intro w' hSw; (try dsimp only at hSw); go_simp; (try with_reducible rfl))
      try simp only [Act.put, List.setIfInBounds_toArray, List.set_cons_zero, List.set_cons_succ]
      refine wpAnyH_take (i := 42) (v := ?_) rfl (by as_aux_lemma => kernel_rfl) (by as_aux_lemma => kernel_rfl) (by as_aux_lemma => kernel_rfl) (fun _ _ _ h => HP.out _ _ _ _ _ h) (Or.inl ⟨by rfl, ?_⟩) (by assumption) ?_
      rotate_left
      · (intro w' hSw; (try dsimp only at hSw); go_simp; (try with_reducible rfl))
      try simp only [Act.put, List.setIfInBounds_toArray, List.set_cons_zero, List.set_cons_succ]
      refine wpAnyH_ready (rs := [46]) (by as_aux_lemma => kernel_rfl) (by simp) ?_
      refine AllReadyH.cons rfl (fun K hK => ?_) AllReadyH.nil
      go_simp
      go_wp2_with (go_at_call 36; refine (rhex_ x.op.b _ _ (HSO.out.no R47) hHeld.2.2.2.2.2.2.2 lb).mono ?_; rintro e v48 ⟨rfl, g48⟩)
      refine hK.out _ _ ⟨g48.cell_of hHeld.1 id, g48.cell_of hHeld.2.1 id, g48.cell_of hHeld.2.2.1 id, g48.cell_of hHeld.2.2.2.1 id, g48.cell_of hHeld.2.2.2.2.1 id, g48.cell_of hHeld.2.2.2.2.2.1 id, g48.cell_of hHeld.2.2.2.2.2.2.1 id, Nat.le_trans hHeld.2.2.2.2.2.2.2 g48.size⟩ (fun hHeld => ?_)
      clear hK K
      try simp only [Act.put, List.setIfInBounds_toArray, List.set_cons_zero, List.set_cons_succ]
      have R48 := R47.trans g48 (fun _ _ e => e)
      refine wpAnyH_take (i := 47) (v := ?_) rfl (by as_aux_lemma => kernel_rfl) (by as_aux_lemma => kernel_rfl) (by as_aux_lemma => kernel_rfl) (fun _ _ _ h => HP.out _ _ _ _ _ h) (Or.inl ⟨by rfl, ?_⟩) (by assumption) ?_
      rotate_left
      · (intro w' hSw; (try dsimp only at hSw); go_simp; (try with_reducible rfl))
      try simp only [Act.put, List.setIfInBounds_toArray, List.set_cons_zero, List.set_cons_succ]
      refine wpAnyH_take (i := 48) (v := ?_) rfl (by as_aux_lemma => kernel_rfl) (by as_aux_lemma => kernel_rfl) (by as_aux_lemma => kernel_rfl) (fun _ _ _ h => HP.out _ _ _ _ _ h) (Or.inl ⟨by rfl, ?_⟩) (by assumption) ?_
      rotate_left
      · (intro w' hSw; (try dsimp only at hSw); go_simp; (try with_reducible rfl))
      try simp only [Act.put, List.setIfInBounds_toArray, List.set_cons_zero, List.set_cons_succ]
      refine wpAnyH_done (by as_aux_lemma => kernel_rfl) ?_ _
      go_simp
      exact HQ.out _ _ _ _ _ _ _ _ _ _ _ _ _ _ _ _ _ _ _ _ _ _ _ _ _ _ _ _ _ _ _ _ _ _ _ _ _ _ _ _ _ _ _ _ _ _ _ _ _ _ R48
  · go_simp
    refine hK.out _ _ ⟨((Fr.refl (S := No) _).conv _).cell_of hHeld.1 id, ((Fr.refl (S := No) _).conv _).cell_of hHeld.2.1 id, ((Fr.refl (S := No) _).conv _).cell_of hHeld.2.2.1 id, ((Fr.refl (S := No) _).conv _).cell_of hHeld.2.2.2.1 id, ((Fr.refl (S := No) _).conv _).cell_of hHeld.2.2.2.2.1 id, ((Fr.refl (S := No) _).conv _).cell_of hHeld.2.2.2.2.2.1 id, ((Fr.refl (S := No) _).conv _).cell_of hHeld.2.2.2.2.2.2.1 id, Nat.le_trans hHeld.2.2.2.2.2.2.2 ((Fr.refl (S := No) _).conv _).size⟩ (fun hHeld => ?_)
    clear hK K
    try simp only [Act.put, List.setIfInBounds_toArray, List.set_cons_zero, List.set_cons_succ]
    have R49 := R0.conv ⟨x.op.to.toArray⟩
    have T49 := slat_conv _ x.op.to _ _ rfl rfl (Nat.le_trans e8 R0.size)
    refine wpAnyH_ready (rs := [5, 11]) (by as_aux_lemma => kernel_rfl) (by simp) ?_
    refine AllReadyH.cons rfl (fun K hK => ?_) (AllReadyH.cons rfl (fun K hK => ?_) AllReadyH.nil)
    · go_simp
      go_wp2_with (go_at_call 35; refine (int_ _ _ hHeld.2.2.2.2.2.2.2 iok).mono ?_; rintro e v50 ⟨rfl, g50⟩)
      refine hK.out _ _ ⟨g50.cell_of hHeld.1 id, g50.cell_of hHeld.2.1 id, g50.cell_of hHeld.2.2.1 id, g50.cell_of hHeld.2.2.2.1 id, g50.cell_of hHeld.2.2.2.2.1 id, g50.cell_of hHeld.2.2.2.2.2.1 id, g50.cell_of hHeld.2.2.2.2.2.2.1 id, Nat.le_trans hHeld.2.2.2.2.2.2.2 g50.size⟩ (fun hHeld => ?_)
      clear hK K
      try simp only [Act.put, List.setIfInBounds_toArray, List.set_cons_zero, List.set_cons_succ]
      have R50 := R49.trans g50 (fun _ _ e => e)
      have T50 := T49.no g50
      refine wpAnyH_take (i := 6) (v := ?_) rfl (by as_aux_lemma => kernel_rfl) (by as_aux_lemma => kernel_rfl) (by as_aux_lemma => kernel_rfl) (fun _ _ _ h => HP.out _ _ _ _ _ h) (Or.inl ⟨by rfl, ?_⟩) (by assumption) ?_
      rotate_left
      · (intro w' hSw; (try dsimp only at hSw); go_simp; (try with_reducible rfl))
      try simp only [Act.put, List.setIfInBounds_toArray, List.set_cons_zero, List.set_cons_succ]
      refine wpAnyH_take (i := 7) (v := ?_) rfl (by as_aux_lemma => kernel_rfl) (by as_aux_lemma => kernel_rfl) (by as_aux_lemma => kernel_rfl) (fun _ _ _ h => HP.out _ _ _ _ _ h) (Or.inl ⟨by rfl, ?_⟩) (by assumption) ?_
      rotate_left
      · (intro w' hSw; (try dsimp only at hSw); go_simp; (try with_reducible rfl))
      try simp only [Act.put, List.setIfInBounds_toArray, List.set_cons_zero, List.set_cons_succ]
      refine wpAnyH_ready (rs := [11]) (by as_aux_lemma => kernel_rfl) (by simp) ?_
      refine AllReadyH.cons rfl (fun K hK => ?_) AllReadyH.nil
      go_simp
      refine hK.out _ _ ⟨((Fr.refl (S := No) _).conv _).cell_of hHeld.1 id, ((Fr.refl (S := No) _).conv _).cell_of hHeld.2.1 id, ((Fr.refl (S := No) _).conv _).cell_of hHeld.2.2.1 id, ((Fr.refl (S := No) _).conv _).cell_of hHeld.2.2.2.1 id, ((Fr.refl (S := No) _).conv _).cell_of hHeld.2.2.2.2.1 id, ((Fr.refl (S := No) _).conv _).cell_of hHeld.2.2.2.2.2.1 id, ((Fr.refl (S := No) _).conv _).cell_of hHeld.2.2.2.2.2.2.1 id, Nat.le_trans hHeld.2.2.2.2.2.2.2 ((Fr.refl (S := No) _).conv _).size⟩ (fun hHeld => ?_)
      clear hK K
      try simp only [Act.put, List.setIfInBounds_toArray, List.set_cons_zero, List.set_cons_succ]
      have R51 := R50.conv ⟨x.op.path.toArray⟩
      have T51 := T50.no ((Fr.refl (S := No) _).conv ⟨x.op.path.toArray⟩)
      have P51 := slat_conv _ x.op.path _ _ rfl rfl (Nat.le_trans e8 R50.size)
      refine wpAnyH_ready (rs := [12]) (by as_aux_lemma => kernel_rfl) (by simp) ?_
      refine AllReadyH.cons rfl (fun K hK => ?_) AllReadyH.nil
      go_simp
      go_wp2_with (go_at_call 36; refine (rhex_ x.op.path _ _ P51 hHeld.2.2.2.2.2.2.2 lp).mono ?_; rintro e v52 ⟨rfl, g52⟩)
      refine hK.out _ _ ⟨g52.cell_of hHeld.1 id, g52.cell_of hHeld.2.1 id, g52.cell_of hHeld.2.2.1 id, g52.cell_of hHeld.2.2.2.1 id, g52.cell_of hHeld.2.2.2.2.1 id, g52.cell_of hHeld.2.2.2.2.2.1 id, g52.cell_of hHeld.2.2.2.2.2.2.1 id, Nat.le_trans hHeld.2.2.2.2.2.2.2 g52.size⟩ (fun hHeld => ?_)
      clear hK K
      try simp only [Act.put, List.setIfInBounds_toArray, List.set_cons_zero, List.set_cons_succ]
      have R52 := R51.trans g52 (fun _ _ e => e)
      have T52 := T51.no g52
      refine wpAnyH_take (i := 13) (v := ?_) rfl (by as_aux_lemma => kernel_rfl) (by as_aux_lemma => kernel_rfl) (by as_aux_lemma => kernel_rfl) (fun _ _ _ h => HP.out _ _ _ _ _ h) (Or.inl ⟨by rfl, ?_⟩) (by assumption) ?_
      rotate_left
      · (intro w' hSw; (try dsimp only at hSw); go_simp; (try with_reducible rfl))
      try simp only [Act.put, List.setIfInBounds_toArray, List.set_cons_zero, List.set_cons_succ]
      refine wpAnyH_take (i := 14) (v := ?_) rfl (by as_aux_lemma => kernel_rfl) (by as_aux_lemma => kernel_rfl) (by as_aux_lemma => kernel_rfl) (fun _ _ _ h => HP.out _ _ _ _ _ h) (Or.inl ⟨by rfl, ?_⟩) (by assumption) ?_
      rotate_left
      · (intro w' hSw; (try dsimp only at hSw); go_simp; (try with_reducible rfl))
      try simp only [Act.put, List.setIfInBounds_toArray, List.set_cons_zero, List.set_cons_succ]
      refine wpAnyH_ready (rs := [19]) (by as_aux_lemma => kernel_rfl) (by simp) ?_
      refine AllReadyH.cons rfl (fun K hK => ?_) AllReadyH.nil
      go_simp
      go_wp2_with (go_at_call 36; refine (rhex_ x.op.to _ _ T52 hHeld.2.2.2.2.2.2.2 lt).mono ?_; rintro e v53 ⟨rfl, g53⟩)
      refine hK.out _ _ ⟨g53.cell_of hHeld.1 id, g53.cell_of hHeld.2.1 id, g53.cell_of hHeld.2.2.1 id, g53.cell_of hHeld.2.2.2.1 id, g53.cell_of hHeld.2.2.2.2.1 id, g53.cell_of hHeld.2.2.2.2.2.1 id, g53.cell_of hHeld.2.2.2.2.2.2.1 id, Nat.le_trans hHeld.2.2.2.2.2.2.2 g53.size⟩ (fun hHeld => ?_)
      clear hK K
      try simp only [Act.put, List.setIfInBounds_toArray, List.set_cons_zero, List.set_cons_succ]
      have R53 := R52.trans g53 (fun _ _ e => e)
      refine wpAnyH_take (i := 20) (v := ?_) rfl (by as_aux_lemma => kernel_rfl) (by as_aux_lemma => kernel_rfl) (by as_aux_lemma => kernel_rfl) (fun _ _ _ h => HP.out _ _ _ _ _ h) (Or.inl ⟨by rfl, ?_⟩) (by assumption) ?_
      rotate_left
      · (intro w' hSw; (try dsimp only at hSw); go_simp; (try with_reducible rfl))
      try simp only [Act.put, List.setIfInBounds_toArray, List.set_cons_zero, List.set_cons_succ]
      refine wpAnyH_take (i := 21) (v := ?_) rfl (by as_aux_lemma => kernel_rfl) (by as_aux_lemma => kernel_rfl) (by as_aux_lemma => kernel_rfl) (fun _ _ _ h => HP.out _ _ _ _ _ h) (Or.inl ⟨by rfl, ?_⟩) (by assumption) ?_
      rotate_left
      · (intro w' hSw; (try dsimp only at hSw); go_simp; (try with_reducible rfl))
      try simp only [Act.put, List.setIfInBounds_toArray, List.set_cons_zero, List.set_cons_succ]
      refine wpAnyH_ready (rs := [25]) (by as_aux_lemma => kernel_rfl) (by simp) ?_
      refine AllReadyH.cons rfl (fun K hK => ?_) AllReadyH.nil
      go_simp
      go_wp2_with (go_at_call 35; refine (int_ _ _ hHeld.2.2.2.2.2.2.2 ihd).mono ?_; rintro e v54 ⟨rfl, g54⟩)
      refine hK.out _ _ ⟨g54.cell_of hHeld.1 id, g54.cell_of hHeld.2.1 id, g54.cell_of hHeld.2.2.1 id, g54.cell_of hHeld.2.2.2.1 id, g54.cell_of hHeld.2.2.2.2.1 id, g54.cell_of hHeld.2.2.2.2.2.1 id, g54.cell_of hHeld.2.2.2.2.2.2.1 id, Nat.le_trans hHeld.2.2.2.2.2.2.2 g54.size⟩ (fun hHeld => ?_)
      clear hK K
      try simp only [Act.put, List.setIfInBounds_toArray, List.set_cons_zero, List.set_cons_succ]
      have R54 := R53.trans g54 (fun _ _ e => e)
      refine wpAnyH_take (i := 26) (v := ?_) rfl (by as_aux_lemma => kernel_rfl) (by as_aux_lemma => kernel_rfl) (by as_aux_lemma => kernel_rfl) (fun _ _ _ h => HP.out _ _ _ _ _ h) (Or.inl ⟨by rfl, ?_⟩) (by assumption) ?_
      rotate_left
      · (intro w' hSw; (try dsimp only at hSw); go_simp; (try with_reducible rfl))
      try simp only [Act.put, List.setIfInBounds_toArray, List.set_cons_zero, List.set_cons_succ]
      refine wpAnyH_take (i := 27) (v := ?_) rfl (by as_aux_lemma => kernel_rfl) (by as_aux_lemma => kernel_rfl) (by as_aux_lemma => kernel_rfl) (fun _ _ _ h => HP.out _ _ _ _ _ h) (Or.inl ⟨by rfl, ?_⟩) (by assumption) ?_
      rotate_left
      · (intro w' hSw; (try dsimp only at hSw); go_simp; (try with_reducible rfl))
      try simp only [Act.put, List.setIfInBounds_toArray, List.set_cons_zero, List.set_cons_succ]
      refine wpAnyH_ready (rs := [31]) (by as_aux_lemma => kernel_rfl) (by simp) ?_
      refine AllReadyH.cons rfl (fun K hK => ?_) AllReadyH.nil
      go_simp
      go_wp2_with (go_at_call 35; refine (int_ _ _ hHeld.2.2.2.2.2.2.2 ipos).mono ?_; rintro e v55 ⟨rfl, g55⟩)
      refine hK.out _ _ ⟨g55.cell_of hHeld.1 id, g55.cell_of hHeld.2.1 id, g55.cell_of hHeld.2.2.1 id, g55.cell_of hHeld.2.2.2.1 id, g55.cell_of hHeld.2.2.2.2.1 id, g55.cell_of hHeld.2.2.2.2.2.1 id, g55.cell_of hHeld.2.2.2.2.2.2.1 id, Nat.le_trans hHeld.2.2.2.2.2.2.2 g55.size⟩ (fun hHeld => ?_)
      clear hK K
      try simp only [Act.put, List.setIfInBounds_toArray, List.set_cons_zero, List.set_cons_succ]
      have R55 := R54.trans g55 (fun _ _ e => e)
      refine wpAnyH_take (i := 32) (v := ?_) rfl (by as_aux_lemma => kernel_rfl) (by as_aux_lemma => kernel_rfl) (by as_aux_lemma => kernel_rfl) (fun _ _ _ h => HP.out _ _ _ _ _ h) (Or.inl ⟨by rfl, ?_⟩) (by assumption) ?_
      rotate_left
      · (intro w' hSw; (try dsimp only at hSw); go_simp; (try with_reducible rfl))
      try simp only [Act.put, List.setIfInBounds_toArray, List.set_cons_zero, List.set_cons_succ]
      refine wpAnyH_take (i := 33) (v := ?_) rfl (by as_aux_lemma => kernel_rfl) (by as_aux_lemma => kernel_rfl) (by as_aux_lemma => kernel_rfl) (fun _ _ _ h => HP.out _ _ _ _ _ h) (Or.inl ⟨by rfl, ?_⟩) (by assumption) ?_
      rotate_left
      · (intro w' hSw; (try dsimp only at hSw); go_simp; (try with_reducible rfl))
      try simp only [Act.put, List.setIfInBounds_toArray, List.set_cons_zero, List.set_cons_succ]
      refine wpAnyH_ready (rs := [37]) (by as_aux_lemma => kernel_rfl) (by simp) ?_
      refine AllReadyH.cons rfl (fun K hK => ?_) AllReadyH.nil
      go_simp
      go_wp2_with (go_at_call 35; refine (int_ _ _ hHeld.2.2.2.2.2.2.2 ion).mono ?_; rintro e v56 ⟨rfl, g56⟩)
      refine hK.out _ _ ⟨g56.cell_of hHeld.1 id, g56.cell_of hHeld.2.1 id, g56.cell_of hHeld.2.2.1 id, g56.cell_of hHeld.2.2.2.1 id, g56.cell_of hHeld.2.2.2.2.1 id, g56.cell_of hHeld.2.2.2.2.2.1 id, g56.cell_of hHeld.2.2.2.2.2.2.1 id, Nat.le_trans hHeld.2.2.2.2.2.2.2 g56.size⟩ (fun hHeld => ?_)
      clear hK K
      try simp only [Act.put, List.setIfInBounds_toArray, List.set_cons_zero, List.set_cons_succ]
      have R56 := R55.trans g56 (fun _ _ e => e)
      refine wpAnyH_take (i := 38) (v := ?_) rfl (by as_aux_lemma => kernel_rfl) (by as_aux_lemma => kernel_rfl) (by as_aux_lemma => kernel_rfl) (fun _ _ _ h => HP.out _ _ _ _ _ h) (Or.inl ⟨by rfl, ?_⟩) (by assumption) ?_
      rotate_left
      · (intro w' hSw; (try dsimp only at hSw); go_simp; (try with_reducible rfl))
      try simp only [Act.put, List.setIfInBounds_toArray, List.set_cons_zero, List.set_cons_succ]
      refine wpAnyH_take (i := 39) (v := ?_) rfl (by as_aux_lemma => kernel_rfl) (by as_aux_lemma => kernel_rfl) (by as_aux_lemma => kernel_rfl) (fun _ _ _ h => HP.out _ _ _ _ _ h) (Or.inl ⟨by rfl, ?_⟩) (by assumption) ?_
      rotate_left
      · (intro w' hSw; (try dsimp only at hSw); go_simp; (try with_reducible rfl))
      try simp only [Act.put, List.setIfInBounds_toArray, List.set_cons_zero, List.set_cons_succ]
      refine wpAnyH_take (i := 41) (v := ?_) rfl (by as_aux_lemma => kernel_rfl) (by as_aux_lemma => kernel_rfl) (by as_aux_lemma => kernel_rfl) (fun _ _ _ h => HP.out _ _ _ _ _ h) (Or.inl ⟨by rfl, ?_⟩) (by assumption) ?_
      rotate_left
      · (intro w' hSw; (try dsimp only at hSw); go_simp; (try with_reducible rfl))
      try simp only [Act.put, List.setIfInBounds_toArray, List.set_cons_zero, List.set_cons_succ]
      refine wpAnyH_take (i := 42) (v := ?_) rfl (by as_aux_lemma => kernel_rfl) (by as_aux_lemma => kernel_rfl) (by as_aux_lemma => kernel_rfl) (fun _ _ _ h => HP.out _ _ _ _ _ h) (Or.inl ⟨by rfl, ?_⟩) (by assumption) ?_
      rotate_left
      · (intro w' hSw; (try dsimp only at hSw); go_simp; (try with_reducible rfl))
      try simp only [Act.put, List.setIfInBounds_toArray, List.set_cons_zero, List.set_cons_succ]
      refine wpAnyH_ready (rs := [46]) (by as_aux_lemma => kernel_rfl) (by simp) ?_
      refine AllReadyH.cons rfl (fun K hK => ?_) AllReadyH.nil
      go_simp
      go_wp2_with (go_at_call 36; refine (rhex_ x.op.b _ _ (HSO.out.no R56) hHeld.2.2.2.2.2.2.2 lb).mono ?_; rintro e v57 ⟨rfl, g57⟩)
      refine hK.out _ _ ⟨g57.cell_of hHeld.1 id, g57.cell_of hHeld.2.1 id, g57.cell_of hHeld.2.2.1 id, g57.cell_of hHeld.2.2.2.1 id, g57.cell_of hHeld.2.2.2.2.1 id, g57.cell_of hHeld.2.2.2.2.2.1 id, g57.cell_of hHeld.2.2.2.2.2.2.1 id, Nat.le_trans hHeld.2.2.2.2.2.2.2 g57.size⟩ (fun hHeld => ?_)
      clear hK K
      try simp only [Act.put, List.setIfInBounds_toArray, List.set_cons_zero, List.set_cons_succ]
      have R57 := R56.trans g57 (fun _ _ e => e)
      refine wpAnyH_take (i := 47) (v := ?_) rfl (by as_aux_lemma => kernel_rfl) (by as_aux_lemma => kernel_rfl) (by as_aux_lemma => kernel_rfl) (fun _ _ _ h => HP.out _ _ _ _ _ h) (Or.inl ⟨by rfl, ?_⟩) (by assumption) ?_
      rotate_left
      · (intro w' hSw; (try dsimp only at hSw); go_simp; (try with_reducible rfl))
      try simp only [Act.put, List.setIfInBounds_toArray, List.set_cons_zero, List.set_cons_succ]
      refine wpAnyH_take (i := 48) (v := ?_) rfl (by as_aux_lemma => kernel_rfl) (by as_aux_lemma => kernel_rfl) (by as_aux_lemma => kernel_rfl) (fun _ _ _ h => HP.out _ _ _ _ _ h) (Or.inl ⟨by rfl, ?_⟩) (by assumption) ?_
      rotate_left
      · (intro w' hSw; (try dsimp only at hSw); go_simp; (try with_reducible rfl))
      try simp only [Act.put, List.setIfInBounds_toArray, List.set_cons_zero, List.set_cons_succ]
      refine wpAnyH_done (by as_aux_lemma => kernel_rfl) ?_ _
      go_simp
      exact HQ.out _ _ _ _ _ _ _ _ _ _ _ _ _ _ _ _ _ _ _ _ _ _ _ _ _ _ _ _ _ _ _ _ _ _ _ _ _ _ _ _ _ _ _ _ _ _ _ _ _ _ R57
    · go_simp
      refine hK.out _ _ ⟨((Fr.refl (S := No) _).conv _).cell_of hHeld.1 id, ((Fr.refl (S := No) _).conv _).cell_of hHeld.2.1 id, ((Fr.refl (S := No) _).conv _).cell_of hHeld.2.2.1 id, ((Fr.refl (S := No) _).conv _).cell_of hHeld.2.2.2.1 id, ((Fr.refl (S := No) _).conv _).cell_of hHeld.2.2.2.2.1 id, ((Fr.refl (S := No) _).conv _).cell_of hHeld.2.2.2.2.2.1 id, ((Fr.refl (S := No) _).conv _).cell_of hHeld.2.2.2.2.2.2.1 id, Nat.le_trans hHeld.2.2.2.2.2.2.2 ((Fr.refl (S := No) _).conv _).size⟩ (fun hHeld => ?_)
      clear hK K
      try simp only [Act.put, List.setIfInBounds_toArray, List.set_cons_zero, List.set_cons_succ]
      have R58 := R49.conv ⟨x.op.path.toArray⟩
      have T58 := T49.no ((Fr.refl (S := No) _).conv ⟨x.op.path.toArray⟩)
      have P58 := slat_conv _ x.op.path _ _ rfl rfl (Nat.le_trans e8 R49.size)
      refine wpAnyH_ready (rs := [5]) (by as_aux_lemma => kernel_rfl) (by simp) ?_
      refine AllReadyH.cons rfl (fun K hK => ?_) AllReadyH.nil
      go_simp
      go_wp2_with (go_at_call 35; refine (int_ _ _ hHeld.2.2.2.2.2.2.2 iok).mono ?_; rintro e v59 ⟨rfl, g59⟩)
      refine hK.out _ _ ⟨g59.cell_of hHeld.1 id, g59.cell_of hHeld.2.1 id, g59.cell_of hHeld.2.2.1 id, g59.cell_of hHeld.2.2.2.1 id, g59.cell_of hHeld.2.2.2.2.1 id, g59.cell_of hHeld.2.2.2.2.2.1 id, g59.cell_of hHeld.2.2.2.2.2.2.1 id, Nat.le_trans hHeld.2.2.2.2.2.2.2 g59.size⟩ (fun hHeld => ?_)
      clear hK K
      try simp only [Act.put, List.setIfInBounds_toArray, List.set_cons_zero, List.set_cons_succ]
      have R59 := R58.trans g59 (fun _ _ e => e)
      have P59 := P58.no g59
      have T59 := T58.no g59
      refine wpAnyH_take (i := 6) (v := ?_) rfl (by as_aux_lemma => kernel_rfl) (by as_aux_lemma => kernel_rfl) (by as_aux_lemma => kernel_rfl) (fun _ _ _ h => HP.out _ _ _ _ _ h) (Or.inl ⟨by rfl, ?_⟩) (by assumption) ?_
      rotate_left
      · (intro w' hSw; (try dsimp only at hSw); go_simp; (try with_reducible rfl))
      try simp only [Act.put, List.setIfInBounds_toArray, List.set_cons_zero, List.set_cons_succ]
      refine wpAnyH_take (i := 7) (v := ?_) rfl (by as_aux_lemma => kernel_rfl) (by as_aux_lemma => kernel_rfl) (by as_aux_lemma => kernel_rfl) (fun _ _ _ h => HP.out _ _ _ _ _ h) (Or.inl ⟨by rfl, ?_⟩) (by assumption) ?_
      rotate_left
      · (intro w' hSw; (try dsimp only at hSw); go_simp; (try with_reducible rfl))
      try simp only [Act.put, List.setIfInBounds_toArray, List.set_cons_zero, List.set_cons_succ]
      refine wpAnyH_ready (rs := [12]) (by as_aux_lemma => kernel_rfl) (by simp) ?_
      refine AllReadyH.cons rfl (fun K hK => ?_) AllReadyH.nil
      go_simp
      go_wp2_with (go_at_call 36; refine (rhex_ x.op.path _ _ P59 hHeld.2.2.2.2.2.2.2 lp).mono ?_; rintro e v60 ⟨rfl, g60⟩)
      refine hK.out _ _ ⟨g60.cell_of hHeld.1 id, g60.cell_of hHeld.2.1 id, g60.cell_of hHeld.2.2.1 id, g60.cell_of hHeld.2.2.2.1 id, g60.cell_of hHeld.2.2.2.2.1 id, g60.cell_of hHeld.2.2.2.2.2.1 id, g60.cell_of hHeld.2.2.2.2.2.2.1 id, Nat.le_trans hHeld.2.2.2.2.2.2.2 g60.size⟩ (fun hHeld => ?_)
      clear hK K
      try simp only [Act.put, List.setIfInBounds_toArray, List.set_cons_zero, List.set_cons_succ]
      have R60 := R59.trans g60 (fun _ _ e => e)
      have T60 := T59.no g60
      refine wpAnyH_take (i := 13) (v := ?_) rfl (by as_aux_lemma => kernel_rfl) (by as_aux_lemma => kernel_rfl) (by as_aux_lemma => kernel_rfl) (fun _ _ _ h => HP.out _ _ _ _ _ h) (Or.inl ⟨by rfl, ?_⟩) (by assumption) ?_
      rotate_left
      · (intro w' hSw; (try dsimp only at hSw); go_simp; (try with_reducible rfl))
      try simp only [Act.put, List.setIfInBounds_toArray, List.set_cons_zero, List.set_cons_succ]
      refine wpAnyH_take (i := 14) (v := ?_) rfl (by as_aux_lemma => kernel_rfl) (by as_aux_lemma => kernel_rfl) (by as_aux_lemma => kernel_rfl) (fun _ _ _ h => HP.out _ _ _ _ _ h) (Or.inl ⟨by rfl, ?_⟩) (by assumption) ?_
      rotate_left
      · (intro w' hSw; (try dsimp only at hSw); go_simp; (try with_reducible rfl))
      try simp only [Act.put, List.setIfInBounds_toArray, List.set_cons_zero, List.set_cons_succ]
      refine wpAnyH_ready (rs := [19]) (by as_aux_lemma => kernel_rfl) (by simp) ?_
      refine AllReadyH.cons rfl (fun K hK => ?_) AllReadyH.nil
      go_simp
      go_wp2_with (go_at_call 36; refine (rhex_ x.op.to _ _ T60 hHeld.2.2.2.2.2.2.2 lt).mono ?_; rintro e v61 ⟨rfl, g61⟩)
      refine hK.out _ _ ⟨g61.cell_of hHeld.1 id, g61.cell_of hHeld.2.1 id, g61.cell_of hHeld.2.2.1 id, g61.cell_of hHeld.2.2.2.1 id, g61.cell_of hHeld.2.2.2.2.1 id, g61.cell_of hHeld.2.2.2.2.2.1 id, g61.cell_of hHeld.2.2.2.2.2.2.1 id, Nat.le_trans hHeld.2.2.2.2.2.2.2 g61.size⟩ (fun hHeld => ?_)
      clear hK K
      try simp only [Act.put, List.setIfInBounds_toArray, List.set_cons_zero, List.set_cons_succ]
      have R61 := R60.trans g61 (fun _ _ e => e)
      refine wpAnyH_take (i := 20) (v := ?_) rfl (by as_aux_lemma => kernel_rfl) (by as_aux_lemma => kernel_rfl) (by as_aux_lemma => kernel_rfl) (fun _ _ _ h => HP.out _ _ _ _ _ h) (Or.inl ⟨by rfl, ?_⟩) (by assumption) ?_
      rotate_left
      · (intro w' hSw; (try dsimp only at hSw); go_simp; (try with_reducible rfl))
      try simp only [Act.put, List.setIfInBounds_toArray, List.set_cons_zero, List.set_cons_succ]
      refine wpAnyH_take (i := 21) (v := ?_) rfl (by as_aux_lemma => kernel_rfl) (by as_aux_lemma => kernel_rfl) (by as_aux_lemma => kernel_rfl) (fun _ _ _ h => HP.out _ _ _ _ _ h) (Or.inl ⟨by rfl, ?_⟩) (by assumption) ?_
      rotate_left
      · (intro w' hSw; (try dsimp only at hSw); go_simp; (try with_reducible rfl))
      try simp only [Act.put, List.setIfInBounds_toArray, List.set_cons_zero, List.set_cons_succ]
      refine wpAnyH_ready (rs := [25]) (by as_aux_lemma => kernel_rfl) (by simp) ?_
      refine AllReadyH.cons rfl (fun K hK => ?_) AllReadyH.nil
      go_simp
      go_wp2_with (go_at_call 35; refine (int_ _ _ hHeld.2.2.2.2.2.2.2 ihd).mono ?_; rintro e v62 ⟨rfl, g62⟩)
      refine hK.out _ _ ⟨g62.cell_of hHeld.1 id, g62.cell_of hHeld.2.1 id, g62.cell_of hHeld.2.2.1 id, g62.cell_of hHeld.2.2.2.1 id, g62.cell_of hHeld.2.2.2.2.1 id, g62.cell_of hHeld.2.2.2.2.2.1 id, g62.cell_of hHeld.2.2.2.2.2.2.1 id, Nat.le_trans hHeld.2.2.2.2.2.2.2 g62.size⟩ (fun hHeld => ?_)
      clear hK K
      try simp only [Act.put, List.setIfInBounds_toArray, List.set_cons_zero, List.set_cons_succ]
      have R62 := R61.trans g62 (fun _ _ e => e)
      refine wpAnyH_take (i := 26) (v := ?_) rfl (by as_aux_lemma => kernel_rfl) (by as_aux_lemma => kernel_rfl) (by as_aux_lemma => kernel_rfl) (fun _ _ _ h => HP.out _ _ _ _ _ h) (Or.inl ⟨by rfl, ?_⟩) (by assumption) ?_
      rotate_left
      · (intro w' hSw; (try dsimp only at hSw); go_simp; (try with_reducible rfl))
      try simp only [Act.put, List.setIfInBounds_toArray, List.set_cons_zero, List.set_cons_succ]
      refine wpAnyH_take (i := 27) (v := ?_) rfl (by as_aux_lemma => kernel_rfl) (by as_aux_lemma => kernel_rfl) (by as_aux_lemma => kernel_rfl) (fun _ _ _ h => HP.out _ _ _ _ _ h) (Or.inl ⟨by rfl, ?_⟩) (by assumption) ?_
      rotate_left
      · (intro w' hSw; (try dsimp only at hSw); go_simp; (try with_reducible rfl))
      try simp only [Act.put, List.setIfInBounds_toArray, List.set_cons_zero, List.set_cons_succ]
      refine wpAnyH_ready (rs := [31]) (by as_aux_lemma => kernel_rfl) (by simp) ?_
      refine AllReadyH.cons rfl (fun K hK => ?_) AllReadyH.nil
      go_simp
      go_wp2_with (go_at_call 35; refine (int_ _ _ hHeld.2.2.2.2.2.2.2 ipos).mono ?_; rintro e v63 ⟨rfl, g63⟩)
      refine hK.out _ _ ⟨g63.cell_of hHeld.1 id, g63.cell_of hHeld.2.1 id, g63.cell_of hHeld.2.2.1 id, g63.cell_of hHeld.2.2.2.1 id, g63.cell_of hHeld.2.2.2.2.1 id, g63.cell_of hHeld.2.2.2.2.2.1 id, g63.cell_of hHeld.2.2.2.2.2.2.1 id, Nat.le_trans hHeld.2.2.2.2.2.2.2 g63.size⟩ (fun hHeld => ?_)
      clear hK K
      try simp only [Act.put, List.setIfInBounds_toArray, List.set_cons_zero, List.set_cons_succ]
      have R63 := R62.trans g63 (fun _ _ e => e)
      refine wpAnyH_take (i := 32) (v := ?_) rfl (by as_aux_lemma => kernel_rfl) (by as_aux_lemma => kernel_rfl) (by as_aux_lemma => kernel_rfl) (fun _ _ _ h => HP.out _ _ _ _ _ h) (Or.inl ⟨by rfl, ?_⟩) (by assumption) ?_
      rotate_left
      · (intro w' hSw; (try dsimp only at hSw); go_simp; (try with_reducible rfl))
      try simp only [Act.put, List.setIfInBounds_toArray, List.set_cons_zero, List.set_cons_succ]
      refine wpAnyH_take (i := 33) (v := ?_) rfl (by as_aux_lemma => kernel_rfl) (by as_aux_lemma => kernel_rfl) (by as_aux_lemma => kernel_rfl) (fun _ _ _ h => HP.out _ _ _ _ _ h) (Or.inl ⟨by rfl, ?_⟩) (by assumption) ?_
      rotate_left
      · (intro w' hSw; (try dsimp only at hSw); go_simp; (try with_reducible rfl))
      try simp only [Act.put, List.setIfInBounds_toArray, List.set_cons_zero, List.set_cons_succ]
      refine wpAnyH_ready (rs := [37]) (by as_aux_lemma => kernel_rfl) (by simp) ?_
      refine AllReadyH.cons rfl (fun K hK => ?_) AllReadyH.nil
      go_simp
      go_wp2_with (go_at_call 35; refine (int_ _ _ hHeld.2.2.2.2.2.2.2 ion).mono ?_; rintro e v64 ⟨rfl, g64⟩)
      refine hK.out _ _ ⟨g64.cell_of hHeld.1 id, g64.cell_of hHeld.2.1 id, g64.cell_of hHeld.2.2.1 id, g64.cell_of hHeld.2.2.2.1 id, g64.cell_of hHeld.2.2.2.2.1 id, g64.cell_of hHeld.2.2.2.2.2.1 id, g64.cell_of hHeld.2.2.2.2.2.2.1 id, Nat.le_trans hHeld.2.2.2.2.2.2.2 g64.size⟩ (fun hHeld => ?_)
      clear hK K
      try simp only [Act.put, List.setIfInBounds_toArray, List.set_cons_zero, List.set_cons_succ]
      have R64 := R63.trans g64 (fun _ _ e => e)
      refine wpAnyH_take (i := 38) (v := ?_) rfl (by as_aux_lemma => kernel_rfl) (by as_aux_lemma => kernel_rfl) (by as_aux_lemma => kernel_rfl) (fun _ _ _ h => HP.out _ _ _ _ _ h) (Or.inl ⟨by rfl, ?_⟩) (by assumption) ?_
      rotate_left
      · (intro w' hSw; (try dsimp only at hSw); go_simp; (try with_reducible rfl))
      try simp only [Act.put, List.setIfInBounds_toArray, List.set_cons_zero, List.set_cons_succ]
      refine wpAnyH_take (i := 39) (v := ?_) rfl (by as_aux_lemma => kernel_rfl) (by as_aux_lemma => kernel_rfl) (by as_aux_lemma => kernel_rfl) (fun _ _ _ h => HP.out _ _ _ _ _ h) (Or.inl ⟨by rfl, ?_⟩) (by assumption) ?_
      rotate_left
      · (intro w' hSw; (try dsimp only at hSw); go_simp; (try with_reducible rfl))
      try simp only [Act.put, List.setIfInBounds_toArray, List.set_cons_zero, List.set_cons_succ]
      refine wpAnyH_take (i := 41) (v := ?_) rfl (by as_aux_lemma => kernel_rfl) (by as_aux_lemma => kernel_rfl) (by as_aux_lemma => kernel_rfl) (fun _ _ _ h => HP.out _ _ _ _ _ h) (Or.inl ⟨by rfl, ?_⟩) (by assumption) ?_
      rotate_left
      · (intro w' hSw; (try dsimp only at hSw); go_simp; (try with_reducible rfl))
      try simp only [Act.put, List.setIfInBounds_toArray, List.set_cons_zero, List.set_cons_succ]
      refine wpAnyH_take (i := 42) (v := ?_) rfl (by as_aux_lemma => kernel_rfl) (by as_aux_lemma => kernel_rfl) (by as_aux_lemma => kernel_rfl) (fun _ _ _ h => HP.out _ _ _ _ _ h) (Or.inl ⟨by rfl, ?_⟩) (by assumption) ?_
      rotate_left
      · (intro w' hSw; (try dsimp only at hSw); go_simp; (try with_reducible rfl))
      try simp only [Act.put, List.setIfInBounds_toArray, List.set_cons_zero, List.set_cons_succ]
      refine wpAnyH_ready (rs := [46]) (by as_aux_lemma => kernel_rfl) (by simp) ?_
      refine AllReadyH.cons rfl (fun K hK => ?_) AllReadyH.nil
      go_simp
      go_wp2_with (go_at_call 36; refine (rhex_ x.op.b _ _ (HSO.out.no R64) hHeld.2.2.2.2.2.2.2 lb).mono ?_; rintro e v65 ⟨rfl, g65⟩)
      refine hK.out _ _ ⟨g65.cell_of hHeld.1 id, g65.cell_of hHeld.2.1 id, g65.cell_of hHeld.2.2.1 id, g65.cell_of hHeld.2.2.2.1 id, g65.cell_of hHeld.2.2.2.2.1 id, g65.cell_of hHeld.2.2.2.2.2.1 id, g65.cell_of hHeld.2.2.2.2.2.2.1 id, Nat.le_trans hHeld.2.2.2.2.2.2.2 g65.size⟩ (fun hHeld => ?_)
      clear hK K
      try simp only [Act.put, List.setIfInBounds_toArray, List.set_cons_zero, List.set_cons_succ]
      have R65 := R64.trans g65 (fun _ _ e => e)
      refine wpAnyH_take (i := 47) (v := ?_) rfl (by as_aux_lemma => kernel_rfl) (by as_aux_lemma => kernel_rfl) (by as_aux_lemma => kernel_rfl) (fun _ _ _ h => HP.out _ _ _ _ _ h) (Or.inl ⟨by rfl, ?_⟩) (by assumption) ?_
      rotate_left
      · (intro w' hSw; (try dsimp only at hSw); go_simp; (try with_reducible rfl))
      try simp only [Act.put, List.setIfInBounds_toArray, List.set_cons_zero, List.set_cons_succ]
      refine wpAnyH_take (i := 48) (v := ?_) rfl (by as_aux_lemma => kernel_rfl) (by as_aux_lemma => kernel_rfl) (by as_aux_lemma => kernel_rfl) (fun _ _ _ h => HP.out _ _ _ _ _ h) (Or.inl ⟨by rfl, ?_⟩) (by assumption) ?_
      rotate_left
      · (intro w' hSw; (try dsimp only at hSw); go_simp; (try with_reducible rfl))
      try simp only [Act.put, List.setIfInBounds_toArray, List.set_cons_zero, List.set_cons_succ]
      refine wpAnyH_done (by as_aux_lemma => kernel_rfl) ?_ _
      go_simp
      exact HQ.out _ _ _ _ _ _ _ _ _ _ _ _ _ _ _ _ _ _ _ _ _ _ _ _ _ _ _ _ _ _ _ _ _ _ _ _ _ _ _ _ _ _ _ _ _ _ _ _ _ _ R65
end Go.Proofs.YtkcgijidgppeiaaDoor
