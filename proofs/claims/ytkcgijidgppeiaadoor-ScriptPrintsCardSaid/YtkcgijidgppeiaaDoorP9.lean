/- A line of the script, walked. -/
import Derived.Test.YtkcgijidgppeiaaDoorP8
import Derived.Lib.SplitLaws
namespace Go.Proofs.YtkcgijidgppeiaaDoor
open Go.RowKit


theorem splitB_size (sep : ByteArray) : ∀ (k : Nat) (s x : ByteArray), x ∈ Lib.splitB sep 0 k s → x.size ≤ s.size := by
  intro k
  induction k with
  | zero => intro s x h; simp [Lib.splitB] at h; subst h; exact Nat.le_refl _
  | succ k ih =>
    intro s x h
    rw [Lib.splitB] at h
    split at h
    · simp at h; subst h; exact Nat.le_refl _
    · rcases List.mem_cons.1 h with rfl | h
      · simp [ByteArray.size_extract]; omega
      · have := ih _ _ h
        simp [ByteArray.size_extract] at this
        omega

theorem parts_length (sep s : ByteArray) (h1 : 1 ≤ sep.size) : (Scr.parts sep s).length = Lib.countB s sep + 1 := Lib.splitB_all sep h1 0 _ s rfl
theorem parts_le (sep s : ByteArray) (h1 : 1 ≤ sep.size) : (Scr.parts sep s).length ≤ s.size + 1 := by
  rw [parts_length sep s h1]
  have := Lib.countB_le sep h1 s.size s (Nat.le_refl _)
  omega

theorem read_ (base bi bc bl br : Nat) (ws : List ByteArray) (i : Int) (c : Scr.Cfg) (evs : List Scr.Ev) (lv : Value) (w : World) (h : Sh w base bi bc bl i c evs lv) (hr : Rd w br ws) (hi : bi < br) (hc : bc < br) (hl : bl < br) (h50 : lv.ownBlock ≠ some br) (hev : evs.length ≤ 65536) :
    Calls Tryd.prog 19 #[.pointer (some ⟨br, 0, none⟩), .pointer (some ⟨bi, 0, none⟩), .pointer (some ⟨bc, 0, none⟩), .pointer (some ⟨bl, 0, none⟩)] w (ReadPost w base bi bc bl br ws i c evs lv) := by
  by_cases h0 : i = 0
  · subst h0
    exact read_zero base bi bc bl br ws c evs lv w h hr hi hc hl h50
  · exact read_pos base bi bc bl br ws i h0 c evs lv w h hr hi hc hl h50 hev

def LinePost (w : World) (base bi bc bl : Nat) (i : Int) (c : Scr.Cfg) (evs : List Scr.Ev) (lv : Value) (s : ByteArray) (e : Ending) (w' : World) : Prop :=
  ∃ b, e = .returned (.bool b) ∧ Fr (fun k => k = bc ∨ k = bl ∨ lv.ownBlock = some k) w w' ∧ (b = true → ∃ c' evs' lv', Scr.readLine i c evs s = some (c', evs') ∧ Sh w' base bi bc bl i c' evs' lv') ∧ (b = false → Scr.readLine i c evs s = none)

/-- the world in which a line's reader is asked. -/
theorem line_world (w : World) (s : ByteArray) (hs : s.size ≤ 65536) (h8 : 8 ≤ w.heap.size) (w3 : World)
    (e3 : w3 = ((w.alloc (.cells #[.bool false] 4)).alloc (.cells ((Lib.splitB ⟨#[32]⟩ 0 (Lib.countB s ⟨#[32]⟩) s).map Value.string).toArray 9)).alloc (.cells #[.slice (some ⟨w.heap.size + 1, 0, none⟩) (Lib.countB s ⟨#[32]⟩ + 1) (Lib.countB s ⟨#[32]⟩ + 1)] 86)) :
    Fr No w w3 ∧ w3.heap[w.heap.size]? = some (.cells #[.bool false] 4 (0, 0)) ∧ Rd w3 (w.heap.size + 1 + 1) (Scr.parts Scr.space s) ∧ (∀ cur fz, w3.heap[w.heap.size + 1 + 1]? ≠ some (.cells cur 5 fz)) := by
  have f3 : Fr No w w3 := e3 ▸ (((Fr.refl (S := No) w).alloc _).alloc _).alloc _
  have k4 : w3.heap[w.heap.size]? = some (.cells #[.bool false] 4 (0, 0)) := by
    rw [e3]
    exact ((((Fr.refl (S := No) (w.alloc (.cells #[.bool false] 4))).alloc _).alloc _).block_of (heap_alloc_new w _) id)
  have k9 : w3.heap[w.heap.size + 1]? = some (.cells ((Lib.splitB ⟨#[32]⟩ 0 (Lib.countB s ⟨#[32]⟩) s).map Value.string).toArray 9 (0, 0)) := by
    rw [e3]
    refine (((Fr.refl (S := No) ((w.alloc (.cells #[.bool false] 4)).alloc (.cells ((Lib.splitB ⟨#[32]⟩ 0 (Lib.countB s ⟨#[32]⟩) s).map Value.string).toArray 9))).alloc _).block_of ?_ id)
    have := heap_alloc_new (w.alloc (.cells #[.bool false] 4)) (.cells ((Lib.splitB ⟨#[32]⟩ 0 (Lib.countB s ⟨#[32]⟩) s).map Value.string).toArray 9)
    simpa using this
  have k86 : w3.heap[w.heap.size + 1 + 1]? = some (.cells #[.slice (some ⟨w.heap.size + 1, 0, none⟩) (Lib.countB s ⟨#[32]⟩ + 1) (Lib.countB s ⟨#[32]⟩ + 1)] 86 (0, 0)) := by
    rw [e3]
    have := heap_alloc_new ((w.alloc (.cells #[.bool false] 4)).alloc (.cells ((Lib.splitB ⟨#[32]⟩ 0 (Lib.countB s ⟨#[32]⟩) s).map Value.string).toArray 9)) (.cells #[.slice (some ⟨w.heap.size + 1, 0, none⟩) (Lib.countB s ⟨#[32]⟩ + 1) (Lib.countB s ⟨#[32]⟩ + 1)] 86)
    simpa using this
  have hl := parts_length Scr.space s (by decide)
  have hle := parts_le Scr.space s (by decide)
  refine ⟨f3, k4, ⟨by omega, ?_, by omega, w.heap.size + 1, 0, Lib.countB s ⟨#[32]⟩ + 1, ?_, ?_, ?_, by omega, ?_, _, k9⟩, ?_⟩
  · intro x hx
    have := splitB_size _ _ _ _ hx
    omega
  · rw [k86, hl]
    rfl
  · exact Nat.le_of_eq hl
  · have e : Lib.countB s ⟨#[32]⟩ + 1 = (Scr.parts Scr.space s).length := hl.symm
    omega
  · intro j x hj
    rw [Nat.zero_add, cell_at k9]
    have hj' : (Lib.splitB ⟨#[32]⟩ 0 (Lib.countB s ⟨#[32]⟩) s)[j]? = some x := hj
    simp [hj']
  · intro cur fz e
    rw [k86] at e
    simp at e

set_option maxRecDepth 100000 in
set_option maxHeartbeats 800000 in
theorem line_ (base bi bc bl : Nat) (i : Int) (c : Scr.Cfg) (evs : List Scr.Ev) (lv : Value) (s : ByteArray) (w : World) (h : Sh w base bi bc bl i c evs lv) (hev : evs.length ≤ 65536) (hs : s.size ≤ 65536) :
    Calls Tryd.prog 18 #[.string s, .func (Fn.func 19) #[] #[.pointer (some ⟨bi, 0, none⟩), .pointer (some ⟨bc, 0, none⟩), .pointer (some ⟨bl, 0, none⟩)]] w (LinePost w base bi bc bl i c evs lv s) := by
  have hmf : ∀ (fn : Fn) (first cap : Array Value) (w : World), (Instr.makeFunc fn first cap).run Tryd.prog w = .ok (.func fn first cap) w := fun _ _ _ _ => rfl
  have H := Lib.hid h
  clear h
  go_enter_defers Tryd.func18, Tryd.ntmps18
  go_wp2_with (first
    | (go_at_call 17; refine (Tryd.strings_Split _ _ (H.out.gl.maxLen.choose) _ (by omega) (((Fr.refl (S := No) w).alloc _).cell_of H.out.gl.maxLen.choose_spec id) (by decide)).mono ?_; rintro e w1 ⟨rfl, rfl⟩))
  have hW := line_world w s hs H.out.gl.size _ rfl
  generalize hw3 : (((w.alloc (.cells #[.bool false] 4)).alloc (.cells ((Lib.splitB ⟨#[32]⟩ 0 (Lib.countB s ⟨#[32]⟩) s).map Value.string).toArray 9)).alloc (.cells #[.slice (some ⟨w.heap.size + 1, 0, none⟩) (Lib.countB s ⟨#[32]⟩ + 1) (Lib.countB s ⟨#[32]⟩ + 1)] 86)) = w3 at hW ⊢
  clear hw3
  obtain ⟨f3, k4, R3, h5⟩ := hW
  have S3 := H.out.no f3
  have li : bi < w.heap.size := lt_of_block H.out.ki
  have lc : bc < w.heap.size := lt_of_block H.out.kc
  have ll : bl < w.heap.size := lt_of_block H.out.kl
  have low : ∀ k, lv.ownBlock = some k → k < w.heap.size := fun k hk => by
    obtain ⟨_, ho, _⟩ := H.out.ev
    exact (ho.lt k hk).2
  have h50 : lv.ownBlock ≠ some (w.heap.size + 1 + 1) := fun e => by have := low _ e; omega
  refine (read_ base bi bc bl _ _ i c evs lv _ S3 R3 (by omega) (by omega) (by omega) h50 hev).mono ?_
  clear hmf
  rintro e w4 (⟨c', evs', lv', r, hc', rfl, S4, R4, f4⟩ | ⟨hn, rfl, f4⟩)
  · have HC := Lib.hid hc'
    clear hc'
    have k44 := f4.block_of k4 (by
      rintro (e | e | e | e)
      · omega
      · omega
      · omega
      · have := low _ e; omega)
    have R4' := R4
    obtain ⟨_, _, _, bw, off, cap, kr, hcap, _⟩ := R4'
    have cr : w4.cell? ⟨w.heap.size + 1 + 1, 0, none⟩ = some (.slice (some ⟨bw, off, none⟩) r.length cap) := by rw [cell_at kr]; rfl
    have c4 : w4.cell? ⟨w.heap.size, 0, none⟩ = some (.bool false) := by rw [cell_at k44]; rfl
    have z4 := frozen_at k44 0
    clear R4 kr
    go_wp2_with fail
    refine leaves_cons (f := 38) (args := #[.pointer (some ⟨w.heap.size, 0, none⟩)]) (by simp) (by simp [go_sem]) ?_
    refine (catch_idle ⟨w.heap.size, 0, none⟩ _).mono ?_
    rintro e u' w5 ⟨rfl, rfl, hw5⟩
    have k5 : w5.heap[w.heap.size]? = some (.cells #[.bool ((r.length : Int) == 0)] 4 (0, 0)) := by
      rw [hw5]
      refine ((Fr.refl (S := No) _).alloc _).block_of (setCell_at k44 0 _) id
    have c5 : w5.cell? ⟨w.heap.size, 0, none⟩ = some (.bool ((r.length : Int) == 0)) := by rw [cell_at k5]; rfl
    have f5 : Fr (· = w.heap.size) w4 w5 := hw5 ▸ (((Fr.refl (S := (· = w.heap.size)) w4).setCell (.inl rfl) _).alloc _)
    have post : LinePost w base bi bc bl i c evs lv s (.returned (.bool ((r.length : Int) == 0))) w5 := by
      refine ⟨_, rfl, ?_, ?_, ?_⟩
      · refine ((f3.of_no (S := fun k => k = bc ∨ k = bl ∨ lv.ownBlock = some k)).trans f4 ?_).trans f5 ?_
        · rintro j hj (e | e | e | e)
          · omega
          · exact .inl e
          · exact .inr (.inl e)
          · exact .inr (.inr e)
        · intro j hj e
          omega
      · intro hb
        have hr0 : r = [] := by
          have : (r.length : Int) = 0 := by simpa using hb
          exact List.eq_nil_of_length_eq_zero (by omega)
        refine ⟨c', evs', lv', ?_, ?_⟩
        · have hh := HC.out
          unfold Scr.readLine
          split at hh
          · obtain ⟨⟨x, hx, rfl⟩, rfl⟩ := hh
            rw [hx, hr0]
            simp_all
          · obtain ⟨⟨x, hx, rfl⟩, rfl⟩ := hh
            rw [hx, hr0]
            simp_all
        · refine S4.call f5 li lc ll ?_ ?_
          · intro cur fz e
            rw [k44] at e
            simp at e
          · intro e
            obtain ⟨vss, ho, _⟩ := S4.ev
            rcases ho.2 with ⟨rfl, _⟩ | ⟨g, cp, cur, rfl, hb, hh, _⟩
            · simp [Value.ownBlock] at e
            · simp [Value.ownBlock] at e
              rw [e, k44] at hh
              simp at hh
      · intro hb
        have hr0 : r ≠ [] := by
          rintro rfl
          simp at hb
        have hh := HC.out
        unfold Scr.readLine
        obtain ⟨y, ys, rfl⟩ := List.exists_cons_of_ne_nil hr0
        split at hh
        · obtain ⟨⟨x, hx, rfl⟩, rfl⟩ := hh
          rw [hx]
          simp_all
        · obtain ⟨⟨x, hx, rfl⟩, rfl⟩ := hh
          rw [hx]
          simp_all
    simp [Leaves, settle, results, Tryd.results18, go_sem, c5]
    exact post
  · refine leaves_cons (f := 38) (args := #[.pointer (some ⟨w.heap.size, 0, none⟩)]) (by simp) (by simp [go_sem]) ?_
    have k44 := f4.block_of k4 (by omega)
    have c4 : w4.cell? ⟨w.heap.size, 0, none⟩ = some (.bool false) := by rw [cell_at k44]; rfl
    refine (catch_odd ⟨w.heap.size, 0, none⟩ false w4 c4 (frozen_at k44 0)).mono ?_
    rintro e u' w5 ⟨rfl, rfl, hw5⟩
    have k5 : w5.heap[w.heap.size]? = some (.cells #[.bool false] 4 (0, 0)) := by
      rw [hw5]
      exact setCell_at (((Fr.refl (S := No) _).alloc _).block_of k44 id) 0 _
    have c5 : w5.cell? ⟨w.heap.size, 0, none⟩ = some (.bool false) := by rw [cell_at k5]; rfl
    have f5 : Fr (· = w.heap.size) w4 w5 := hw5 ▸ (((Fr.refl (S := (· = w.heap.size)) w4).alloc _).setCell (.inl rfl) _)
    have post : LinePost w base bi bc bl i c evs lv s (.returned (.bool false)) w5 := by
      refine ⟨_, rfl, ?_, ?_, ?_⟩
      · refine ((f3.of_no (S := fun k => k = bc ∨ k = bl ∨ lv.ownBlock = some k)).trans f4 ?_).trans f5 ?_
        · intro j hj e
          omega
        · intro j hj e
          omega
      · intro hb
        cases hb
      · intro _
        unfold Scr.readLine
        split at hn
        · rw [hn]; simp_all
        · rw [hn]; simp_all
    simp [Leaves, settle, results, Tryd.results18, go_sem, c5]
    exact post
end Go.Proofs.YtkcgijidgppeiaaDoor
