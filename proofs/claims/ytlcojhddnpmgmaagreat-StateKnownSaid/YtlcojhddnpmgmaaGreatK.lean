/- The pen: bytes put. Walked. -/
import Derived.Test.YtlcojhddnpmgmaaGreatC
import Derived.Deep.AppendLies
import Derived.OwnWalk
import Derived.Outline
namespace Go.Proofs.YtlcojhddnpmgmaaGreat
open Go.RowKit

def u8s (bs : List UInt8) : List Value := bs.map fun x => .int .u8 x.toNat
/-- a pen that has written bytes, at p; its row lies in a block from base on. -/
def Pn (w : World) (p base : Nat) (bs : List UInt8) : Prop :=
  ∃ v, w.heap[p]? = some (.cells #[v, .int .i64 0] 122 (0, 0)) ∧ w.ownsRow base 5 1 v bs.length (u8s bs) ∧ base ≤ w.heap.size
/-- what a pen may turn. -/
def Pf (w : World) (p base : Nat) (k : Nat) : Prop := k = p ∨ (base ≤ k ∧ ∃ cur fz, w.heap[k]? = some (.cells cur 5 fz))
theorem Tryz.info5 : (Tryz.prog.info? 5).map (fun i => (i.zero, i.size, i.bytes)) = some (some (.int .u8 0), 1, 1) := by kernel_rfl
theorem Pn.no {w w' : World} {p base : Nat} {bs : List UInt8} (h : Pn w p base bs) (f : Fr No w w') : Pn w' p base bs := by
  obtain ⟨v, hk, ho, hb⟩ := h
  refine ⟨v, f.block_of hk id, ⟨ho.1, ?_⟩, Nat.le_trans hb f.size⟩
  rcases ho.2 with h2 | ⟨g, cap, cur, rfl, hb, hh, r⟩
  · exact .inl h2
  · exact .inr ⟨g, cap, cur, rfl, hb, f.block_of hh id, r⟩
theorem pf_of {w w' : World} {p base k : Nat} {cs : Array Value} {t : TypeId} {fz : Nat × Nat} (f : Fr (Pf w p base) w w') (hk : w.heap[k]? = some (.cells cs t fz)) (ht : t ≠ 5) (hn : k ≠ p) : w'.heap[k]? = some (.cells cs t fz) := by
  refine f.block_of hk ?_
  rintro (e | ⟨_, cur, fz', e⟩)
  · exact hn e
  · rw [hk] at e
    simp at e
    exact ht e.2.1

set_option maxRecDepth 100000 in
set_option maxHeartbeats 1600000 in
theorem put_b (p base : Nat) (bs ys : List UInt8) (b off c : Nat) (w : World) (h : Pn w p base bs) (hy : SlIs w (.slice (some ⟨b, off, none⟩) ys.length c) ys b off c) (h0 : ys ≠ []) (hl : bs.length ≤ 30000) (hm : ys.length ≤ 30000) :
    Calls Tryz.prog 130 #[.pointer (some ⟨p, 0, none⟩), .int .i64 0, .slice (some ⟨b, off, none⟩) ys.length c] w fun e w' => e = .returned (.tuple #[]) ∧ Pn w' p base (bs ++ ys) ∧ Fr (Pf w p base) w w' := by
  obtain ⟨v, hk, hown, hb⟩ := h
  obtain ⟨_, hyc, hyb, hyx⟩ := hy
  obtain ⟨i0, hi0, hz0, hz1, hz2⟩ := info_parts Tryz.info5
  have HI := Lib.hid hi0
  have HZ0 := Lib.hid hz0
  have HZ1 := Lib.hid hz1
  have HZ2 := Lib.hid hz2
  clear hi0 hz0 hz1 hz2
  have tag : ∀ k, v.ownBlock = some k → base ≤ k ∧ ∃ cur, w.heap[k]? = some (.cells cur 5 (0, 0)) := by
    intro k hk
    rcases hown.2 with ⟨rfl, _⟩ | ⟨g, cp, cur, rfl, hb, hh, _⟩
    · simp [Value.ownBlock] at hk
    · simp [Value.ownBlock] at hk
      subst hk
      exact ⟨hb, cur, hh⟩
  obtain ⟨a, c1, rfl⟩ : ∃ a c1, v = .slice a bs.length c1 := by
    rcases hown.2 with ⟨rfl, hn⟩ | ⟨g, cp, cur, rfl, _⟩
    · exact ⟨none, 0, by rw [hn]⟩
    · exact ⟨_, _, rfl⟩
  have c0 : w.cell? ⟨p, 0, none⟩ = some (.slice a bs.length c1) := by rw [cell_at hk]; rfl
  have cb : w.cell? ⟨p, 1, none⟩ = some (.int .i64 0) := by rw [cell_at hk]; rfl
  have z0 := frozen_at hk 0
  have q1 : ¬ (65536 : Int) - (bs.length : Int) < (ys.length : Int) := by omega
  have hym : 0 < ys.length := by cases ys with | nil => exact absurd rfl h0 | cons x r => simp
  have HY := Lib.hid hyx
  have TAG := Lib.hid tag
  have HK := Lib.hid hk
  have HB := Lib.hid hb
  generalize hml : ys.length = m at *
  have HM := Lib.hid hml
  generalize hnl : bs.length = n at *
  have HN := Lib.hid hnl
  clear h0 hyx tag hk hb hml hnl
  go_enter Tryz.func130, Tryz.ntmps130
  go_wp2_with (at_builtin; refine wpList_append_lies _ rfl _ _ 27 rfl base 5 i0 (.int .u8 0) 1 1 Tryz.underlying27 HI.out HZ0.out HZ1.out HZ2.out rfl (by decide) (.slice a n c1) n (u8s bs) rfl hown ⟨b, off, none⟩ m c (u8s ys) rfl ?d0 ?d1 ?d2 hym (by unfold maxLen; omega) (by omega) HB.out w.heap.size rfl ?_)
  case d0 => rw [u8s, List.length_map, HM.out]
  case d1 =>
    intro j u hj
    simp only [u8s, List.getElem?_map, Option.map_eq_some_iff] at hj
    obtain ⟨x, hx, rfl⟩ := hj
    exact HY.out j x hx
  case d2 =>
    intro u hu
    obtain ⟨x, _, rfl⟩ := List.mem_map.1 hu
    rfl
  intro g cap w2 hown2 hgrow hat hgl
  have bn : (Value.slice a n c1).ownBlock ≠ some p := fun e => by
    obtain ⟨_, cur, hh⟩ := TAG.out p e
    rw [HK.out] at hh
    simp at hh
  have F2 : Fr (fun k => (Value.slice a n c1).ownBlock = some k) w w2 := (Fr.refl (S := fun k => (Value.slice a n c1).ownBlock = some k) w).grown hgrow (fun k hk => .inl hk)
  have k2 : w2.heap[p]? = some (.cells #[.slice a n c1, .int .i64 0] 122 (0, 0)) := F2.block_of HK.out bn
  have c2 : w2.cell? ⟨p, 0, none⟩ = some (.slice a n c1) := by rw [cell_at k2]; rfl
  have z2 := frozen_at k2 0
  have K2 := Lib.hid k2
  have HO := Lib.hid hown2
  have HF := Lib.hid F2
  clear hgrow hat hgl k2 hown2 F2 hown bn
  go_wp2_with fail
  go_end0
  refine ⟨rfl, ⟨.slice (some ⟨g, 0, none⟩) (n + m) cap, ?_, ?_, ?_⟩, ?_⟩
  · have := setCell_at K2.out 0 (.slice (some ⟨g, 0, none⟩) (n + m) cap)
    simpa using this
  · rw [List.length_append, HN.out, HM.out]
    have e : u8s (bs ++ ys) = u8s bs ++ u8s ys := by simp [u8s]
    rw [e]
    refine ⟨HO.out.1, ?_⟩
    rcases HO.out.2 with h | ⟨g', cp, cur, h1, h2, h3, h4⟩
    · exact .inl h
    · exact .inr ⟨g', cp, cur, h1, h2, setCell_off h3 (fun e => by have := K2.out; rw [e, this] at h3; simp at h3) 0 _, h4⟩
  · exact Nat.le_trans HB.out (by simpa [World.setCell] using HF.out.size)
  · refine Fr.setCell (HF.out.mono (fun k _ hk => ?_)) (.inl (.inl rfl)) _
    exact .inr ⟨(TAG.out k hk).1, by obtain ⟨_, cur, h⟩ := TAG.out k hk; exact ⟨cur, _, h⟩⟩
end Go.Proofs.YtlcojhddnpmgmaaGreat
