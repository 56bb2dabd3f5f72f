/- The script's reader, walked. -/
import Derived.Test.YtkcgijidgppeiaaDoorBase
import Derived.Test.YtkcgijidgppeiaaDoorSpec
import Derived.Lib.ParseIntBTie
import Derived.Lib.SmallJoins
namespace Go.Proofs.YtkcgijidgppeiaaDoor
open Go.RowKit

/-- a reader lies at block br, the words ws are still to be read. -/
def Rd (w : World) (br : Nat) (ws : List ByteArray) : Prop :=
  8 ≤ br ∧ (∀ x ∈ ws, x.size ≤ 1048576) ∧ ws.length ≤ 1048576 ∧ ∃ bw off cap, w.heap[br]? = some (.cells #[.slice (some ⟨bw, off, none⟩) ws.length cap] 86 (0, 0)) ∧ ws.length ≤ cap ∧ cap ≤ 1048576 ∧
    bw < br ∧ (∀ j x, ws[j]? = some x → w.cell? ⟨bw, off + j, none⟩ = some (.string x)) ∧ (∃ cur, w.heap[bw]? = some (.cells cur 9 (0, 0)))

def oddC : List PanicEntry := [{ v := .iface 83 (.agg #[]), recovered := false }]

/-- what a reader's method does: f gives the value and the words that are left, or it panics. -/
def RdPost {α : Type} (w : World) (br : Nat) (ws : List ByteArray) (f : List ByteArray → Option (α × List ByteArray)) (V : World → α → Value → Prop) (e : Ending) (w' : World) : Prop :=
  (∃ x r v, f ws = some (x, r) ∧ e = .returned v ∧ V w' x v ∧ Rd w' br r ∧ Fr (· = br) w w') ∨ (f ws = none ∧ e = .panicked oddC ∧ Fr (· = br) w w')

set_option maxHeartbeats 400000 in
theorem word_ (br : Nat) (ws : List ByteArray) (w : World) (h : Rd w br ws) : Calls Tryd.prog 39 #[.pointer (some ⟨br, 0, none⟩)] w (RdPost w br ws Scr.word fun _ x v => v = .string x) := by
  obtain ⟨h8, hx, hl, bw, off, cap, hb, hc, hc2, hlt, hw, cur, htag⟩ := h
  have hne : bw ≠ br := Nat.ne_of_lt hlt
  have h0 : w.cell? ⟨br, 0, none⟩ = some (.slice (some ⟨bw, off, none⟩) ws.length cap) := by simp [World.cell?, hb]
  have f0 : w.frozen? ⟨br, 0, none⟩ = false := by simp [World.frozen?, hb]
  cases ws with
  | nil =>
    go_enter Tryd.func39, Tryd.ntmps39
    go_wp2
    exact ⟨rfl, .inr ⟨rfl, rfl, Fr.refl _⟩⟩
  | cons x r =>
    have h1 : w.cell? ⟨bw, off, none⟩ = some (.string x) := hw 0 x rfl
    simp only [List.length_cons] at *
    have hpost : ∀ v, (v = Value.slice (some ⟨bw, off + 1, none⟩) r.length (cap - 1) ∨ (r = [] ∧ v = Value.slice (some ⟨bw, off, none⟩) 0 0)) → 
        RdPost w br (x :: r) Scr.word (fun _ x v => v = .string x) (.returned (.string x)) (w.setCell ⟨br, 0, none⟩ v) := by
      intro v hv
      have hset : (w.setCell ⟨br, 0, none⟩ v).heap[br]? = some (.cells #[v] 86 (0, 0)) := by
        simp [World.setCell, Array.getElem?_modify, hb]
      have hF : Fr (· = br) w (w.setCell ⟨br, 0, none⟩ v) := Fr.setCell (S := (· = br)) (p := ⟨br, 0, none⟩) (Fr.refl _) (.inl rfl) _
      refine .inl ⟨x, r, _, rfl, rfl, rfl, ⟨h8, fun y hy => hx y (by simp [hy]), by omega, ?_⟩, hF⟩
      rcases hv with rfl | ⟨rfl, rfl⟩
      · refine ⟨bw, off + 1, cap - 1, hset, by omega, by omega, hlt, fun j y hj => hF.cell_of (p := ⟨bw, off + 1 + j, none⟩) ?_ hne, cur, hF.block_of htag hne⟩
        have := hw (j + 1) y (by simpa using hj)
        rwa [show off + 1 + j = off + (j + 1) by omega]
      · exact ⟨bw, off, 0, hset, by simp, by omega, hlt, (fun j y hj => by simp at hj), cur, hF.block_of htag hne⟩
    by_cases hcap : cap = 1
    · obtain rfl : r = [] := by cases r with | nil => rfl | cons a b => simp at hc; omega
      have H := Lib.hid (hpost (.slice (some ⟨bw, off, none⟩) 0 0) (.inr ⟨rfl, rfl⟩))
      subst hcap
      clear hpost hw hx
      go_enter Tryd.func39, Tryd.ntmps39
      go_wp2
      go_ret
      exact H.out
    · have H := Lib.hid (hpost (.slice (some ⟨bw, off + 1, none⟩) r.length (cap - 1)) (.inl rfl))
      clear hpost hw hx
      go_enter Tryd.func39, Tryd.ntmps39
      go_wp2
      go_ret
      exact H.out

theorem fr_grow (w : World) (k : Nat) (os : Array Obj) : Fr No w (Sort.grow (w.drewN k) os) :=
  ⟨rfl, rfl, rfl, by simp [Sort.grow, World.drewN], fun j hj _ => by
    show (w.heap ++ os)[j]? = _
    rw [Array.getElem?_append_left hj]⟩

theorem fr_bytesWorld (w : World) (e : TypeId) (s : ByteArray) : Fr No w (Lib.bytesWorld w e s) :=
  ⟨rfl, rfl, rfl, by rw [Lib.bytesWorld_size]; omega, fun j hj _ => Lib.bytesWorld_at_old w e s j hj⟩

def PI (w : World) (s : ByteArray) (e : Ending) (w' : World) : Prop :=
  ∃ v err, e = .returned (.tuple #[.int .i64 v, err]) ∧ Fr No w w' ∧ ((Lib.parseIntB 64 s.data.toList = .ok v ∧ err = .nilIface ∧ -9223372036854775808 ≤ v ∧ v ≤ 9223372036854775807) ∨ ((∀ v', Lib.parseIntB 64 s.data.toList ≠ .ok v') ∧ ∃ t p, err = .iface t p))

theorem parseInt_ (s : ByteArray) (w : World) (hg : Glob w) (hs : s.size ≤ 1048576) : Calls Tryd.prog 59 #[.string s, .int .i64 10, .int .i64 64] w (PI w s) := by
  obtain ⟨tp, p, hsyn⟩ := hg.syn
  obtain ⟨tp', p', hran⟩ := hg.range
  cases h : Lib.parseIntB 64 s.data.toList
  · rename_i v
    have hb := Lib.parseIntB_bounds h
    refine (Tryd.strconv_ParseInt_10_at64_ok s (by omega) v h w).mono ?_
    rintro e w' ⟨rfl, hw⟩
    refine ⟨v, _, rfl, ?_, .inl ⟨h, rfl, ?_⟩⟩
    · rcases hw with rfl | ⟨t, rfl⟩
      · exact Fr.refl _
      · exact fr_bytesWorld _ _ _
    · simp at hb; omega
  · refine (Tryd.strconv_ParseInt_10_at64_syntax_var s (by omega) h tp p w hsyn).mono ?_
    rintro e w' ⟨N, rfl, _, _, hb⟩
    exact ⟨_, _, rfl, Fr.of_below hb (Nat.le_refl _), .inr ⟨(fun v' hv => by rw [h] at hv; cases hv), _, _, rfl⟩⟩
  · refine (Tryd.strconv_ParseInt_10_at64_range_var s (by omega) h tp' p' w hran).mono ?_
    rintro e w' ⟨N, rfl, _, _, hb⟩
    exact ⟨_, _, rfl, Fr.of_below hb (Nat.le_refl _), .inr ⟨(fun v' hv => by rw [h] at hv; cases hv), _, _, rfl⟩⟩

theorem formatInt_ (n : Int) (w : World) (hg : Glob w) (h0 : -9223372036854775808 ≤ n) (h1 : n ≤ 9223372036854775807) : Calls Tryd.prog 60 #[.int .i64 n, .int .i64 10] w fun e w' => e = .returned (.string ⟨(Lib.itoa n).toArray⟩) ∧ Fr No w w' :=
  (Tryd.strconv_FormatInt_10 n h0 h1 w hg.tab).mono fun e w' ⟨he, k, os, hw⟩ => ⟨he, by rw [hw]; exact fr_grow _ _ _⟩

theorem Rd.fr2 {w w' : World} {br : Nat} {ws : List ByteArray} {S : Nat → Prop} (h : Rd w br ws) (f : Fr S w w') (hb : ¬ S br) (hS : ∀ k cur, w.heap[k]? = some (.cells cur 9 (0, 0)) → k < br → ¬ S k) : Rd w' br ws := by
  obtain ⟨h8, hx, hl, bw, off, cap, hbk, hc, hc2, hlt, hw, cur, ht⟩ := h
  exact ⟨h8, hx, hl, bw, off, cap, f.block_of hbk hb, hc, hc2, hlt, fun j x hj => f.cell_of (p := ⟨bw, off + j, none⟩) (hw j x hj) (hS _ _ ht hlt), cur, f.block_of ht (hS _ _ ht hlt)⟩
theorem Rd.fr {w w' : World} {br : Nat} {ws : List ByteArray} {S : Nat → Prop} (h : Rd w br ws) (f : Fr S w w') (hS : ∀ k, k ≤ br → ¬ S k) : Rd w' br ws :=
  h.fr2 f (hS _ (Nat.le_refl _)) (fun k _ _ hk => hS k (Nat.le_of_lt hk))

theorem Rd.lt {w : World} {br : Nat} {ws : List ByteArray} (h : Rd w br ws) : br < w.heap.size := by
  obtain ⟨h8, hx, hl, bw, off, cap, hbk, _⟩ := h
  exact lt_of_block hbk

theorem Rd.no {w w' : World} {br : Nat} {ws : List ByteArray} (h : Rd w br ws) (f : Fr No w w') : Rd w' br ws := h.fr f (fun _ _ h => h)
theorem Glob.br {w w' : World} {br : Nat} (h : Glob w) (f : Fr (· = br) w w') (hb : 8 ≤ br) : Glob w' := h.fr f (fun _ _ _ => by omega)
theorem Glob.no {w w' : World} (h : Glob w) (f : Fr No w w') : Glob w' := h.fr f (fun _ _ e => e)
theorem Fr.br_trans {a b c : World} {br : Nat} (h : Fr (· = br) a b) (k : Fr (· = br) b c) : Fr (· = br) a c := h.trans k (fun _ _ h => h)
theorem Fr.br_no {a b c : World} {br : Nat} (h : Fr (· = br) a b) (k : Fr No b c) : Fr (· = br) a c := h.trans k (fun _ _ h => h.elim)
theorem Fr.no_trans {S : Nat → Prop} {a b c : World} (h : Fr S a b) (k : Fr No b c) : Fr S a c := h.trans k (fun _ _ h => h.elim)

set_option maxHeartbeats 400000 in
theorem num_ (br : Nat) (ws : List ByteArray) (w : World) (h : Rd w br ws) (hg : Glob w) : Calls Tryd.prog 40 #[.pointer (some ⟨br, 0, none⟩)] w (RdPost w br ws Scr.num fun _ x v => v = .int .i64 x ∧ -9223372036854775808 ≤ x ∧ x ≤ 9223372036854775807) := by
  have h8 := h.1
  have hx := h.2.1
  go_enter Tryd.func40, Tryd.ntmps40
  go_wp2_with fail
  refine (word_ br ws _ h).mono ?_
  rintro e w1 (⟨x, r, v, hf, rfl, rfl, hr, f1⟩ | ⟨hf, rfl, f1⟩)
  · obtain rfl : ws = x :: r := by
      cases ws with
      | nil => simp [Scr.word] at hf
      | cons a b => simp [Scr.word] at hf; obtain ⟨rfl, rfl⟩ := hf; rfl
    have hg1 := hg.br f1 h8
    have hsz := hx x (by simp)
    clear hf hx
    go_wp2_with fail
    refine (parseInt_ x _ hg1 hsz).mono ?_
    rintro e w2 ⟨v, err, rfl, f2, (⟨hok, rfl, hv0, hv1⟩ | ⟨hno, t, p, rfl⟩)⟩
    · have hg2 := hg1.no f2
      have HOK := Lib.hid hok
      clear hok
      go_wp2_with fail
      refine (formatInt_ v _ hg2 hv0 hv1).mono ?_
      rintro e w3 ⟨rfl, f3⟩
      have F := Lib.hid ((f1.no_trans f2).no_trans f3)
      have R := Lib.hid (((hr.no f2).no f3))
      clear f1 f2 f3 hr
      by_cases hit : Lib.itoa v = x.data.toList
      · have hs : (⟨(Lib.itoa v).toArray⟩ : ByteArray) = x := by rw [hit]
        have H := Lib.hid hit
        clear hit
        rw [hs]
        clear hs
        go_wp2_with fail
        go_ret
        refine .inl ⟨v, r, _, ?_, rfl, ⟨rfl, hv0, hv1⟩, R.out, F.out⟩
        simp [Scr.num, Scr.numW, HOK.out, H.out]
      · have ht : (Lib.itoa v == x.toList) = false := by
          rw [ByteArray.toList_eq]
          simpa using hit
        have H := Lib.hid hit
        clear hit
        go_wp2_with fail
        refine ⟨rfl, .inr ⟨?_, rfl, F.out⟩⟩
        simp only [Scr.num, Scr.numW, HOK.out]
        rw [if_neg H.out]
    · have H := Lib.hid hno
      clear hno
      go_wp2_with fail
      refine ⟨rfl, .inr ⟨?_, rfl, f1.no_trans f2⟩⟩
      cases hp : Lib.parseIntB 64 x.data.toList with
      | ok v => exact (H.out v hp).elim
      | _ => simp [Scr.num, Scr.numW, hp]
  · exact ⟨rfl, .inr ⟨by cases ws <;> simp_all [Scr.word, Scr.num], rfl, f1⟩⟩

#print axioms num_
end Go.Proofs.YtkcgijidgppeiaaDoor
