/- An event's line, printed: the walk of 'begin'. -/
import Derived.Test.YtkcgijidgppeiaaDoorP13
import Derived.Lib.ConvBytes
import Derived.Deep.RegionWith
namespace Go.Proofs.YtkcgijidgppeiaaDoor
open Go.RowKit

theorem conv_ (w : World) (s : ByteArray) : (convert 9 43 (.string s)).run Tryd.prog w = .ok (.slice (some ⟨w.heap.size, 0, none⟩) s.size (grownCap w s.size 0 5)) (Lib.bytesWorld w 5 s) :=
  Lib.run_convert_string_bytes w 9 43 5 s Tryd.underlying9 Tryd.underlying43 Tryd.underlying5
theorem Fr.conv {S : Nat → Prop} {a b : World} (h : Fr S a b) (s : ByteArray) : Fr S a (Lib.bytesWorld b 5 s) :=
  ⟨h.os, h.tape, h.output, by rw [Lib.bytesWorld_size]; exact Nat.le_succ_of_le h.size, fun k hk hn => (Lib.bytesWorld_at_old b 5 s k (Nat.lt_of_lt_of_le hk h.size)).trans (h.block k hk hn)⟩
theorem slat_conv (w : World) (l : List UInt8) (n cap : Nat) (hn : w.heap.size = n) (hc : cap = grownCap w l.length 0 5) (_h8 : 8 ≤ w.heap.size) : SlAt (Lib.bytesWorld w 5 ⟨l.toArray⟩) (.slice (some ⟨n, 0, none⟩) l.length cap) l := by
  have hs : ByteArray.size ⟨l.toArray⟩ = l.length := by simp [ByteArray.size]
  subst hn hc
  refine .inr ⟨w.heap.size, 0, _, rfl, ?_, ?_, trivial, fun j x hj => ?_⟩
  · exact grownCap_ge w l.length 0 5
  · rw [Lib.bytesWorld_size]; omega
  · have hlt : j < l.length := by
      rcases Nat.lt_or_ge j l.length with h | h
      · exact h
      · rw [List.getElem?_eq_none h] at hj; cases hj
    have := Lib.bytesWorld_cell w 5 ⟨l.toArray⟩ j (by rw [hs]; exact hlt)
    rw [Nat.zero_add, this]
    simp [List.getD, hj]

theorem bit_size (x : Bool) : (Scr.bitB x).size ≤ 4194304 := by cases x <;> decide
theorem SlAt.no {w w' : World} {v : Value} {bs : List UInt8} (h : SlAt w v bs) (f : Fr No w w') : SlAt w' v bs := h.fr f (fun _ _ _ _ e => e)
theorem SlAt.conv {w : World} {v : Value} {bs : List UInt8} (h : SlAt w v bs) (s : ByteArray) : SlAt (Lib.bytesWorld w 5 s) v bs := h.no ((Fr.refl (S := No) w).conv s)

/-- what the region that draws holds on to. -/
abbrev HeldS (b5 : Nat) (p t : Value) (w : World) : Prop := w.cell? ⟨b5, 1, none⟩ = some p ∧ w.cell? ⟨b5, 2, none⟩ = some t ∧ 8 ≤ w.heap.size
theorem HeldS.no {b5 : Nat} {p t : Value} {w w' : World} (f : Fr No w w') (h : w.cell? ⟨b5, 1, none⟩ = some p ∧ w.cell? ⟨b5, 2, none⟩ = some t ∧ 8 ≤ w.heap.size) : w'.cell? ⟨b5, 1, none⟩ = some p ∧ w'.cell? ⟨b5, 2, none⟩ = some t ∧ 8 ≤ w'.heap.size :=
  ⟨f.cell_of h.1 id, f.cell_of h.2.1 id, Nat.le_trans h.2.2 f.size⟩
theorem HeldS.le {b5 : Nat} {p t : Value} {w : World} (h : w.cell? ⟨b5, 1, none⟩ = some p ∧ w.cell? ⟨b5, 2, none⟩ = some t ∧ 8 ≤ w.heap.size) : 8 ≤ w.heap.size := h.2.2
theorem Fr.no2 {a b c : World} (h : Fr No a b) (k : Fr No b c) : Fr No a c := h.trans k (fun _ _ e => e)
theorem inAt_two (w : World) (s t : ByteArray) : InAt (w.alloc (.cells #[.string s, .string t] 9)) (.slice (some ⟨w.heap.size, 0, none⟩) 2 2) ([s, t].map .string) :=
  ⟨_, _, rfl, Nat.le_refl _, .inr ⟨w.heap.size, 0, rfl, by simp, fun j x hj => by
    rw [Nat.zero_add, cell_at (heap_alloc_new w _)]
    simpa using hj⟩⟩

set_option maxRecDepth 100000 in
set_option maxHeartbeats 8000000 in
theorem said_begin (x : Scr.Ev) (oa va : Option Addr) (ol oc vl vc : Nat) (w : World) (hg : Glob w) (hv : EvV w x (evCells x (.slice oa ol oc) (.slice va vl vc)).toList) (hk : x.kind = 1) :
    Calls Tryd.prog 31 #[.agg (evCells x (.slice oa ol oc) (.slice va vl vc))] w fun e w' => e = .returned (.string (Scr.saidB x)) ∧ Fr No w w' := by
  have hmf : ∀ (fn : Fn) (first cap : Array Value) (w : World), (Instr.makeFunc fn first cap).run Tryd.prog w = .ok (.func fn first cap) w := fun _ _ _ _ => rfl
  have HW := fun s => said_world w hg (evCells x (.slice oa ol oc) (.slice va vl vc)) s _ rfl
  have HV := Lib.hid hv
  clear hv
  obtain ⟨kind, node, fate, n, op, b⟩ := x
  simp only at hk
  subst hk
  unfold evCells at *
  simp only at *
  go_enter Tryd.func31, Tryd.ntmps31
  go_upto_region 3 with fail
  refine (name_ 1 _ (by omega) (by omega)).mono ?_
  rintro e w1 ⟨rfl, rfl⟩
  go_upto_region 3 with fail
  have S := HW ⟨(Scr.name 1).toArray⟩
  clear HW
  generalize (((w.alloc (.cells #[.int .i64 1, .int .i64 node, .int .i64 fate, .int .i64 n, .int .i64 op.kind, .string ⟨op.path.toArray⟩, .string ⟨op.to.toArray⟩, .int .i64 op.handle, .int .i64 op.pos, .int .i64 op.n, .bool op.writes, .slice oa ol oc, .slice va vl vc] 50)).alloc (.cells #[.string ⟨(Scr.name 1).toArray⟩] 9)).alloc (.cells #[.slice (some ⟨w.heap.size + 1, 0, none⟩) 1 1] 51)) = w2 at S ⊢
  have hI : I64 node ∧ I64 op.kind ∧ I64 op.handle ∧ I64 op.pos ∧ I64 op.n ∧ op.path.length ≤ 1048576 ∧ op.to.length ≤ 1048576 ∧ op.b.length ≤ 1048576 ∧ SlAt w (.slice oa ol oc) op.b := by
    obtain ⟨ovs, vb, he, ⟨ob, rfl, hs, h1, h2, h3, h4, h5, h6, h7⟩, _, _, h8, _⟩ := HV.out
    simp at he
    obtain ⟨rfl, rfl⟩ := he
    exact ⟨h8, h1, h2, h3, h4, h5, h6, h7, hs⟩
  have c0 : w2.cell? ⟨w.heap.size, 0, none⟩ = some (.int .i64 1) := S.c 0
  have c1 : w2.cell? ⟨w.heap.size, 1, none⟩ = some (.int .i64 node) := S.c 1
  go_wp2_with fail
  refine (sd_ints S [node] (by simp; exact hI.1) (by simp) _ rfl _ rfl _ rfl).mono ?_
  rintro e w3 ⟨v3, rfl, S3, I3, f3⟩
  go_wp2_with fail
  refine (sd_add S3 [Scr.itoaB node] v3 I3 (by simp) (by simp) (by simp)).mono ?_
  rintro e w4 ⟨rfl, S4, g4⟩
  clear c0 c1
  have c0 : w4.cell? ⟨w.heap.size, 0, none⟩ = some (.int .i64 1) := S4.c 0
  have c4 : w4.cell? ⟨w.heap.size, 4, none⟩ = some (.int .i64 op.kind) := S4.c 4
  have c5 : w4.cell? ⟨w.heap.size, 5, none⟩ = some (.string ⟨op.path.toArray⟩) := S4.c 5
  have c6 : w4.cell? ⟨w.heap.size, 6, none⟩ = some (.string ⟨op.to.toArray⟩) := S4.c 6
  have c7 : w4.cell? ⟨w.heap.size, 7, none⟩ = some (.int .i64 op.handle) := S4.c 7
  have c8 : w4.cell? ⟨w.heap.size, 8, none⟩ = some (.int .i64 op.pos) := S4.c 8
  have c9 : w4.cell? ⟨w.heap.size, 9, none⟩ = some (.int .i64 op.n) := S4.c 9
  have c10 : w4.cell? ⟨w.heap.size, 10, none⟩ = some (.bool op.writes) := S4.c 10
  have c11 : w4.cell? ⟨w.heap.size, 11, none⟩ = some (.slice oa ol oc) := S4.c 11
  go_upto_region 8 with fail
  have k5 := heap_alloc_new w4 (.cells #[.int .i64 op.kind, .string ⟨op.path.toArray⟩, .string ⟨op.to.toArray⟩, .int .i64 op.handle, .int .i64 op.pos, .int .i64 op.n, .bool op.writes, .slice oa ol oc] 45)
  have S5 := S4.no ((Fr.refl _).alloc (.cells #[.int .i64 op.kind, .string ⟨op.path.toArray⟩, .string ⟨op.to.toArray⟩, .int .i64 op.handle, .int .i64 op.pos, .int .i64 op.n, .bool op.writes, .slice oa ol oc] 45))
  have nb : w4.heap.size ≠ w.heap.size + 1 + 1 := by
    intro e
    obtain ⟨lv, hk, _⟩ := S4.wd
    have := lt_of_block hk
    omega
  clear c0 c4 c5 c6 c7 c8 c9 c10 c11
  generalize w4.alloc (.cells #[.int .i64 op.kind, .string ⟨op.path.toArray⟩, .string ⟨op.to.toArray⟩, .int .i64 op.handle, .int .i64 op.pos, .int .i64 op.n, .bool op.writes, .slice oa ol oc] 45) = w5 at *
  generalize w4.heap.size = b5 at *
  have c0 : w5.cell? ⟨b5, 0, none⟩ = some (.int .i64 op.kind) := by rw [cell_at k5]; rfl
  go_wp2_with fail
  refine (sd_ints S5 [op.kind] (by simp; exact hI.2.1) (by simp) _ rfl _ rfl _ rfl).mono ?_
  rintro e w6 ⟨v6, rfl, S6, I6, f6⟩
  go_wp2_with fail
  refine (sd_add S6 [Scr.itoaB op.kind] v6 I6 (by simp) (by simp) (by simp)).mono ?_
  rintro e w7 ⟨rfl, S7, g7⟩
  have k7 := ad_of g7 (f6.block_of k5 id) (by decide) nb
  clear k5 c0
  go_upto_region 9 with fail
  go_cut [4] from 32 (fun c wc => c = .func (Fn.func 52) #[] #[.pointer (some ⟨w.heap.size + 1 + 1, 0, none⟩)] ∧
    Sd w wc w.heap.size (w.heap.size + 1 + 1) (w.heap.size + 1) ([⟨(Scr.name 1).toArray⟩] ++ [Scr.itoaB node] ++ [Scr.itoaB op.kind] ++ [Scr.hexB op.path, Scr.hexB op.to]) #[.int .i64 1, .int .i64 node, .int .i64 fate, .int .i64 n, .int .i64 op.kind, .string ⟨op.path.toArray⟩, .string ⟨op.to.toArray⟩, .int .i64 op.handle, .int .i64 op.pos, .int .i64 op.n, .bool op.writes, .slice oa ol oc, .slice va vl vc] ∧
    wc.heap[b5]? = some (.cells #[.int .i64 op.kind, .string ⟨op.path.toArray⟩, .string ⟨op.to.toArray⟩, .int .i64 op.handle, .int .i64 op.pos, .int .i64 op.n, .bool op.writes, .slice oa ol oc] 45 (0, 0)))
  case first =>
    have hcv := conv_
    have cp : w7.cell? ⟨b5, 1, none⟩ = some (.string ⟨op.path.toArray⟩) := by rw [cell_at k7]; rfl
    have ct : w7.cell? ⟨b5, 2, none⟩ = some (.string ⟨op.to.toArray⟩) := by rw [cell_at k7]; rfl
    have h8 : 8 ≤ w7.heap.size := by have := S7.fr.size; have := hg.size; omega
    have hpl : op.path.length ≤ 1048576 := hI.2.2.2.2.2.1
    have htl : op.to.length ≤ 1048576 := hI.2.2.2.2.2.2.1
    have f0 : Fr No w7 w7.drew := (Fr.refl w7).drew
    have h8b : ∀ (w : World) (s : ByteArray), 8 ≤ w.heap.size → 8 ≤ (Lib.bytesWorld w 5 s).heap.size := fun w s h => by rw [Lib.bytesWorld_size]; omega
    have cpB := ((f0.conv (⟨op.to.toArray⟩ : ByteArray)).cell_of cp id)
    have ctA := ((f0.conv (⟨op.path.toArray⟩ : ByteArray)).cell_of ct id)
    go_region_with
      (first
        | (go_at_call 53
           refine (hex_ op.path _ _ (by first | exact slat_conv _ _ _ _ rfl rfl (by first | exact h8 | exact h8b _ _ h8 | exact Nat.le_trans h8 FA.size) | exact (slat_conv _ _ _ _ rfl rfl (by first | exact h8 | exact h8b _ _ h8 | exact Nat.le_trans h8 FA.size)).conv _) ⟨_, _, _, rfl⟩ hpl).mono ?_
           rintro e wA ⟨rfl, fh⟩
           have FA : Fr No w7 wA := by first | exact Fr.no2 (f0.conv _) fh | exact Fr.no2 ((f0.conv _).conv _) fh
           have ctF := FA.cell_of ct id)
        | (go_at_call 53
           refine (hex_ op.to _ _ (by first | exact slat_conv _ _ _ _ rfl rfl (by first | exact h8 | exact h8b _ _ h8 | exact Nat.le_trans h8 FA.size) | exact (slat_conv _ _ _ _ rfl rfl (by first | exact h8 | exact h8b _ _ h8 | exact Nat.le_trans h8 FA.size)).no fh | exact ((slat_conv _ _ _ _ rfl rfl (by first | exact h8 | exact h8b _ _ h8 | exact Nat.le_trans h8 FA.size)).conv _).no fh) ⟨_, _, _, rfl⟩ htl).mono ?_
           rintro e wB ⟨rfl, fk⟩
           have FB : Fr No w7 wB := by first | exact Fr.no2 FA fk | exact Fr.no2 (FA.conv _) fk)
        | (go_at_call 52
           refine (sd_add (S7.no (FB.alloc _)) [Scr.hexB op.path, Scr.hexB op.to] _ (inAt_two _ _ _) (by simp) (by simp) (by simp)).mono ?_
           rintro e wZ ⟨rfl, SZ, gZ⟩
           have kZ := ad_of gZ ((FB.alloc _).block_of k7 id) (by decide) nb))
    all_goals go_wp2_with fail
    all_goals go_meet
    all_goals exact ⟨rfl, SZ, kZ⟩
  case rest =>
    obtain ⟨rfl, S8, k8⟩ := hcut
    have c3 : wc.cell? ⟨b5, 3, none⟩ = some (.int .i64 op.handle) := by rw [cell_at k8]; rfl
    have c4 : wc.cell? ⟨b5, 4, none⟩ = some (.int .i64 op.pos) := by rw [cell_at k8]; rfl
    have c5 : wc.cell? ⟨b5, 5, none⟩ = some (.int .i64 op.n) := by rw [cell_at k8]; rfl
    go_wp2_with fail
    refine (sd_ints S8 [op.handle, op.pos, op.n] (by simp; exact ⟨hI.2.2.1, hI.2.2.2.1, hI.2.2.2.2.1⟩) (by simp) _ rfl _ rfl _ rfl).mono ?_
    rintro e w9 ⟨v9, rfl, S9, I9, f9⟩
    go_wp2_with fail
    refine (sd_add S9 [Scr.itoaB op.handle, Scr.itoaB op.pos, Scr.itoaB op.n] v9 I9 (by simp) (by simp) (by simp)).mono ?_
    rintro e w10 ⟨rfl, S10, g10⟩
    have k10 := ad_of g10 (f9.block_of k8 id) (by decide) nb
    clear c3 c4 c5
    go_upto_region 11 with fail
    have c6 : w10.cell? ⟨b5, 6, none⟩ = some (.bool op.writes) := by rw [cell_at k10]; rfl
    have c7 : w10.cell? ⟨b5, 7, none⟩ = some (.slice oa ol oc) := by rw [cell_at k10]; rfl
    have hbl : op.b.length ≤ 1048576 := hI.2.2.2.2.2.2.2.1
    have hpl : op.path.length ≤ 1048576 := hI.2.2.2.2.2.1
    have htl : op.to.length ≤ 1048576 := hI.2.2.2.2.2.2.1
    have hsb : SlAt w10.drew (.slice oa ol oc) op.b := hI.2.2.2.2.2.2.2.2.no S10.fr.drew
    have f0 : Fr No w10 w10.drew := (Fr.refl w10).drew
    go_region_with
      (first
        | (go_at_call 54
           refine (bit_ _ _).mono ?_
           rintro e wA ⟨rfl, rfl⟩)
        | (go_at_call 53
           refine (hex_ op.b _ _ hsb ⟨_, _, _, rfl⟩ hbl).mono ?_
           rintro e wB ⟨rfl, fk⟩
           have FB : Fr No w10 wB := Fr.no2 f0 fk)
        | (go_at_call 52
           refine (sd_add (S10.no (FB.alloc _)) [Scr.bitB op.writes, Scr.hexB op.b] _ (inAt_two _ _ _) (by simp) (by simp) (by simp)).mono ?_
           rintro e wZ ⟨rfl, SZ, gZ⟩))
    all_goals
      obtain ⟨ra, rl, rc, cw, hrow⟩ := sd_row SZ (by simp) (by
        intro y hy
        simp only [List.mem_append, List.mem_cons, List.not_mem_nil, or_false] at hy
        rcases hy with ((((hy | hy) | hy) | (hy | hy)) | (hy | hy | hy)) | (hy | hy)
        all_goals (rw [hy]; first | exact name_size _ | exact hex_size _ hbl | exact hex_size _ hpl | exact hex_size _ htl | exact itoa_size _ hI.1 | exact itoa_size _ hI.2.1 | exact itoa_size _ hI.2.2.1 | exact itoa_size _ hI.2.2.2.1 | exact itoa_size _ hI.2.2.2.2.1 | exact bit_size _))
      go_wp2_with fail
      refine hrow.mono ?_
      rintro e wE ⟨rfl, fE⟩
      go_wp2_with fail
      go_ret
      exact ⟨rfl, fE⟩
end Go.Proofs.YtkcgijidgppeiaaDoor
