/- The reference's event, walked. (Printed by wip/tools/refgen3.py.) -/
import Derived.Test.YtkcgijidgppeiaaDoorR6
namespace Go.Proofs.YtkcgijidgppeiaaDoor
open Go.RowKit

def REvPost (ws : List ByteArray) (w : World) (e : Ending) (w' : World) : Prop :=
  ∃ (x : Scr.Ev) (vs : List Value), (Scr.event1 ws).getD Scr.Ev.zero = x ∧ e = .returned (.tuple #[.agg vs.toArray, .bool (Scr.event1 ws).isSome]) ∧ EvV w' x vs ∧ NewVs w.heap.size vs ∧ Fr No w w'

theorem Tryd.size47 : (Tryd.prog.info? 47).map (·.size) = some 13 := by kernel_rfl
theorem results24_ (tmps : Array Value) (w : World) (g : Nat) (cs : Array Value) (fr : Nat × Nat) (v3 : Value) (hp : tmps.getD 2 undef = .pointer (some ⟨g, 0, none⟩)) (h3 : tmps.getD 3 undef = v3)
    (hg : w.heap[g]? = some (.cells cs 47 fr)) (hc : cs.size = 13) : (results Tryd.f24 tmps).run Tryd.prog w = .ok (.tuple #[.agg cs, v3]) w := by
  have hl := run_loadVar_row (P := Tryd.prog) w g 47 47 cs fr _ hg Tryd.underlying47 rfl (by rw [Tryd.size47, hc])
  have h2' : tmps[2]?.getD undef = .pointer (some ⟨g, 0, none⟩) := by simpa using hp
  have h3' : tmps[3]?.getD undef = v3 := by simpa using h3
  simp [results, Tryd.results24, asAddr, h2', h3', hl]

theorem EvV.zero (w : World) : EvV w Scr.Ev.zero [.int .i64 0, .int .i64 0, .int .i64 0, .int .i64 0, .int .i64 0, .string ⟨#[]⟩, .string ⟨#[]⟩, .int .i64 0, .int .i64 0, .int .i64 0, .bool false, .slice none 0 0, .slice none 0 0] :=
  ⟨_, _, rfl, OpV.zero w, .inl ⟨rfl, _, _, rfl⟩, i64_lit 0 (by decide), i64_lit 0 (by decide), i64_lit 0 (by decide), i64_lit 0 (by decide), by simp [Scr.Ev.zero]⟩
theorem rev_no {ws : List ByteArray} {w w' : World} {e : Ending} (h : Scr.event1 ws = none) (he : e = .returned (.tuple #[.agg #[.int .i64 0, .int .i64 0, .int .i64 0, .int .i64 0, .int .i64 0, .string ⟨#[]⟩, .string ⟨#[]⟩, .int .i64 0, .int .i64 0, .int .i64 0, .bool false, .slice none 0 0, .slice none 0 0], .bool false])) (f : Fr No w w') : REvPost ws w e w' :=
  ⟨Scr.Ev.zero, _, by rw [h]; rfl, by rw [h]; exact he, EvV.zero w', (fun a l c hm => by simp at hm), f⟩
theorem rev_yes {ws : List ByteArray} {x : Scr.Ev} {vs : List Value} {w w' : World} {e : Ending} (h : Scr.event1 ws = some x) (he : e = .returned (.tuple #[.agg vs.toArray, .bool true])) (hv : EvV w' x vs) (hn : NewVs w.heap.size vs) (f : Fr No w w') : REvPost ws w e w' :=
  ⟨x, vs, by rw [h]; rfl, by rw [h]; exact he, hv, hn, f⟩

/-- of the kinds below j the one whose name it is is i; 0: none is. -/
def Upto (x : ByteArray) (i j : Nat) : Prop := (i = 0 ∧ ∀ m : Nat, 1 ≤ m → m < j → x.data.toList ≠ Scr.name m) ∨ (1 ≤ i ∧ i < j ∧ x.data.toList = Scr.name i)
theorem Upto.start (x : ByteArray) : Upto x 0 1 := .inl ⟨rfl, fun m h1 h2 => absurd h2 (by omega)⟩
theorem Upto.no {x : ByteArray} {i j : Nat} (h : Upto x i j) (hn : x.data.toList ≠ Scr.name j) : Upto x i (j + 1) := by
  rcases h with ⟨h1, h2⟩ | ⟨h1, h2, h3⟩
  · refine .inl ⟨h1, fun m hm hm2 => ?_⟩
    rcases Nat.lt_or_ge m j with h | h
    · exact h2 m hm h
    · rw [show m = j by omega]; exact hn
  · exact .inr ⟨h1, by omega, h3⟩
theorem Upto.yes {x : ByteArray} {j : Nat} (hj : 1 ≤ j) (hn : x.data.toList = Scr.name j) : Upto x j (j + 1) := .inr ⟨hj, by omega, hn⟩
theorem Upto.kind {x : ByteArray} {i : Nat} (h : Upto x i 11) : Scr.rkind x = i ∧ i ≤ 10 := by
  rcases h with ⟨h1, h2⟩ | ⟨h1, h2, h3⟩
  · subst h1; exact ⟨Scr.rkind_none x (fun k hk hk2 => h2 k hk (by omega)), by omega⟩
  · exact ⟨Scr.rkind_of x i h1 (by omega) h3, by omega⟩

theorem row_one (cs : List Value) (h : ∀ v ∈ cs, v.oneCell' = true) : cs.toArray.all (·.oneCell') = true := all_oneCell_toArray h
theorem zero_one : (#[.int .i64 0, .int .i64 0, .int .i64 0, .int .i64 0, .int .i64 0, .string ⟨#[]⟩, .string ⟨#[]⟩, .int .i64 0, .int .i64 0, .int .i64 0, .bool false, .slice none 0 0, .slice none 0 0] : Array Value).all (·.oneCell') = true := row_one [.int .i64 0, .int .i64 0, .int .i64 0, .int .i64 0, .int .i64 0, .string ⟨#[]⟩, .string ⟨#[]⟩, .int .i64 0, .int .i64 0, .int .i64 0, .bool false, .slice none 0 0, .slice none 0 0] (by intro v hv; simp only [List.mem_cons, List.not_mem_nil, or_false] at hv; rcases hv with rfl | rfl | rfl | rfl | rfl | rfl | rfl | rfl | rfl | rfl | rfl | rfl | rfl <;> rfl)

set_option maxRecDepth 100000 in
set_option maxHeartbeats 8000000 in
theorem revent_ (s : ByteArray) (w : World) (h8 : 8 ≤ w.heap.size) (hs : s.size ≤ 1048576) : Calls Tryd.prog 24 #[.string s] w (REvPost (Scr.parts Scr.space s) w) := by
  go_enter Tryd.func24, Tryd.ntmps24
  go_wp2_with fail
  refine (words_ s _ hs).mono ?_
  rintro e w1 ⟨v, rfl, hown, f1⟩
  have F0 : Fr No w (w.alloc (.cells #[.int .i64 0, .int .i64 0, .int .i64 0, .int .i64 0, .int .i64 0, .string ⟨#[]⟩, .string ⟨#[]⟩, .int .i64 0, .int .i64 0, .int .i64 0, .bool false, .slice none 0 0, .slice none 0 0] 47)) := (Fr.refl _).alloc _
  have K1 := f1.block_of (new_at w (.cells #[.int .i64 0, .int .i64 0, .int .i64 0, .int .i64 0, .int .i64 0, .string ⟨#[]⟩, .string ⟨#[]⟩, .int .i64 0, .int .i64 0, .int .i64 0, .bool false, .slice none 0 0, .slice none 0 0] 47)) id
  have F1 : Fr No w w1 := F0.trans f1 (fun _ _ e => e)
  have hsz1 : w.heap.size < w1.heap.size := lt_of_block K1
  have I1 := InAt.of_own (base := _) (e := 9) (xs := (Scr.parts Scr.space s).map .string) (by rw [List.length_map]; exact hown)
  obtain ⟨hwl, hwx⟩ := words_world w s hs _ rfl
  have hne : (Scr.parts Scr.space s).length ≠ 0 := by rw [parts_length Scr.space s (by decide)]; omega
  clear hown F0 f1
  generalize Scr.parts Scr.space s = ws at *
  obtain ⟨x0, rest, rfl⟩ : ∃ x0 rest, ws = x0 :: rest := by
    cases ws with
    | nil => exact absurd rfl hne
    | cons a b => exact ⟨a, b, rfl⟩
  obtain ⟨a, c, rfl, hc, hcell⟩ := I1
  obtain ⟨b, off, rfl, hb, hcell⟩ : ∃ b off, a = some ⟨b, off, none⟩ ∧ b < w1.heap.size ∧ ∀ j x, ((x0 :: rest).map Value.string)[j]? = some x → w1.cell? ⟨b, off + j, none⟩ = some x := by
    rcases hcell with h | h
    · simp at h
    · exact h
  rw [List.length_map, List.length_cons] at hc ⊢
  rw [List.length_cons] at hwl
  have HC := Lib.hid hc
  have HCELL := Lib.hid hcell
  have HWX := Lib.hid hwx
  have HK1 := Lib.hid K1
  have HD0 : Hid (w1.cell? ⟨b, off, none⟩ = some (.string x0)) := hcell 0 _ rfl
  clear hc hcell hwx K1 hne
  go_wp2_with fail
  go_loopw [5, 6] (fun d k wr => ∃ (i j : Nat), d = .int .i64 i ∧ k = .int .i64 j ∧ 1 ≤ j ∧ j ≤ 11 ∧ Hid (Upto x0 i j) ∧ Fr No w1 wr) (fun _ k _ => 11 - (intOf k).toNat)
  case atStart => exact ⟨0, 1, rfl, rfl, by omega, by omega, Upto.start x0, Fr.refl _⟩
  case round =>
    obtain ⟨i, j, rfl, rfl, hj1, hj2, HU, fr⟩ := hrel
    by_cases hlt : j ≤ 10
    · have qlt : (j : Int) ≤ 10 := by omega
      have d0 := fr.cell_of HD0.out id
      have hq0 : (0 : Int) < ((rest.length : Int) + 1) := by omega
      have hq1 : (0 : Int) < ((rest.length + 1 : Nat) : Int) := by omega
      by_cases hx : x0.data.toList = Scr.name j
      · have ht : (x0.toList == Scr.name j) = true := by rw [ByteArray.toList_eq]; simpa using hx
        have HX := Lib.hid hx
        clear hx
        go_wp2_with fail
        go_region_held3 (fun w' => w'.cell? ⟨b, off, none⟩ = some (.string x0))
          (first | go_keep | exact fn.cell_of (by assumption) id)
          ((go_at_call 34; refine (rname_ _ _ ⟨by omega, by omega⟩).mono ?_; rintro e w3 ⟨rfl, fn⟩))
        have F3 : Fr No w1 w3 := by first | exact fr.trans fn (fun _ _ e => e) | exact fr.drew.trans fn (fun _ _ e => e) | exact (fr.drewN _).trans fn (fun _ _ e => e)
        have HU2 : Hid (Upto x0 j (j + 1)) := Upto.yes hj1 HX.out
        clear HU d0
        go_wp2_with fail
        go_roundw
        case rel => exact ⟨j, j + 1, rfl, by go_num, by omega, by omega, HU2, F3⟩
        case measure => simp [intOf]; omega
      · have ht : (x0.toList == Scr.name j) = false := by rw [ByteArray.toList_eq]; simpa using hx
        have HX := Lib.hid hx
        clear hx
        go_wp2_with fail
        go_region_held3 (fun w' => w'.cell? ⟨b, off, none⟩ = some (.string x0))
          (first | go_keep | exact fn.cell_of (by assumption) id)
          ((go_at_call 34; refine (rname_ _ _ ⟨by omega, by omega⟩).mono ?_; rintro e w3 ⟨rfl, fn⟩))
        have F3 : Fr No w1 w3 := by first | exact fr.trans fn (fun _ _ e => e) | exact fr.drew.trans fn (fun _ _ e => e) | exact (fr.drewN _).trans fn (fun _ _ e => e)
        have HU2 : Hid (Upto x0 i (j + 1)) := HU.out.no HX.out
        clear HU d0
        go_wp2_with fail
        go_roundw
        case rel => exact ⟨i, j + 1, rfl, by go_num, by omega, by omega, HU2, F3⟩
        case measure => simp [intOf]; omega
    · obtain rfl : j = 11 := by omega
      obtain ⟨hk, hi10⟩ := HU.out.kind
      have HK := Lib.hid hk
      clear hk HU hj1 hj2 hlt
      go_upto_region 9 with fail

      have FM : Fr No w1 (wr.alloc (.cells #[.int .i64 0, .int .i64 10, .int .i64 3, .int .i64 3, .int .i64 3, .int .i64 2, .int .i64 3, .int .i64 2, .int .i64 2, .int .i64 2, .int .i64 3] 3)) := fr.alloc _
      have KM3 := new_at wr (.cells #[.int .i64 0, .int .i64 10, .int .i64 3, .int .i64 3, .int .i64 3, .int .i64 2, .int .i64 3, .int .i64 2, .int .i64 2, .int .i64 2, .int .i64 3] 3)
      have SM : w1.heap.size ≤ wr.heap.size := fr.size
      have LB3 : wr.heap.size < (wr.alloc (.cells #[.int .i64 0, .int .i64 10, .int .i64 3, .int .i64 3, .int .i64 3, .int .i64 2, .int .i64 3, .int .i64 2, .int .i64 2, .int .i64 2, .int .i64 3] 3)).heap.size := by simp
      generalize wr.alloc (.cells #[.int .i64 0, .int .i64 10, .int .i64 3, .int .i64 3, .int .i64 3, .int .i64 2, .int .i64 3, .int .i64 2, .int .i64 2, .int .i64 2, .int .i64 3] 3) = wm at *
      generalize wr.heap.size = B3 at *
      have KM1 := FM.block_of HK1.out id
      have FW : Fr No w wm := F1.trans FM (fun _ _ e => e)
      have HKM1 := Lib.hid KM1
      have HKM3 := Lib.hid KM3
      clear KM1 KM3 fr
      rcases (by omega : i = 0 ∨ i = 1 ∨ i = 2 ∨ i = 3 ∨ i = 4 ∨ i = 5 ∨ i = 6 ∨ i = 7 ∨ i = 8 ∨ i = 9 ∨ i = 10) with rfl | rfl | rfl | rfl | rfl | rfl | rfl | rfl | rfl | rfl | rfl
      · have HN := Lib.hid (Scr.event1_zero (r := rest) HK.out)
        go_wp2_with (refine wpList_store_row rfl 47 (.tmp 2) (.tmp 37) rfl w.heap.size #[.int .i64 0, .int .i64 0, .int .i64 0, .int .i64 0, .int .i64 0, .string ⟨#[]⟩, .string ⟨#[]⟩, .int .i64 0, .int .i64 0, .int .i64 0, .bool false, .slice none 0 0, .slice none 0 0] rfl rfl 47 #[.int .i64 0, .int .i64 0, .int .i64 0, .int .i64 0, .int .i64 0, .string ⟨#[]⟩, .string ⟨#[]⟩, .int .i64 0, .int .i64 0, .int .i64 0, .bool false, .slice none 0 0, .slice none 0 0] HKM1.out Tryd.size47 rfl zero_one ?_)
        exact bodyPost_ret (results24_ _ _ w.heap.size #[.int .i64 0, .int .i64 0, .int .i64 0, .int .i64 0, .int .i64 0, .string ⟨#[]⟩, .string ⟨#[]⟩, .int .i64 0, .int .i64 0, .int .i64 0, .bool false, .slice none 0 0, .slice none 0 0] (0, 0) (.bool false) rfl rfl (setRow_at HKM1.out) rfl) rfl (rev_no HN.out rfl (Fr.setRow FW (.inr (Nat.le_refl _)) _))
      · have cm : wm.cell? ⟨B3, 1, none⟩ = some (.int .i64 10) := by rw [cell_at HKM3.out]; rfl
        by_cases hl : rest.length + 1 = 10
        · match rest, hl with
          | [x1, x2, x3, x4, x5, x6, x7, x8, x9], _ =>
            have d1 : (wm.alloc (.cells #[.int .i64 1, .int .i64 0, .int .i64 0, .int .i64 0, .int .i64 0, .string ⟨#[]⟩, .string ⟨#[]⟩, .int .i64 0, .int .i64 0, .int .i64 0, .bool false, .slice none 0 0, .slice none 0 0] 47)).cell? ⟨b, off + 1, none⟩ = some (.string x1) := (FM.alloc _).cell_of (HCELL.out 1 _ rfl) id
            simp only [List.length_cons, List.length_nil] at HC
            have hc10 : 10 ≤ c := HC.out
            have hc2 : ¬ c = 2 := by omega
            have hc3 : ¬ c ≤ 2 := by omega
            go_wp2_with fail
            clear cm d1
            have O : Own3 w (wm.alloc (.cells #[.int .i64 1, .int .i64 0, .int .i64 0, .int .i64 0, .int .i64 0, .string ⟨#[]⟩, .string ⟨#[]⟩, .int .i64 0, .int .i64 0, .int .i64 0, .bool false, .slice none 0 0, .slice none 0 0] 47)) w.heap.size #[.int .i64 0, .int .i64 0, .int .i64 0, .int .i64 0, .int .i64 0, .string ⟨#[]⟩, .string ⟨#[]⟩, .int .i64 0, .int .i64 0, .int .i64 0, .bool false, .slice none 0 0, .slice none 0 0] 47 wm.heap.size #[.int .i64 1, .int .i64 0, .int .i64 0, .int .i64 0, .int .i64 0, .string ⟨#[]⟩, .string ⟨#[]⟩, .int .i64 0, .int .i64 0, .int .i64 0, .bool false, .slice none 0 0, .slice none 0 0] 47 B3 #[.int .i64 0, .int .i64 10, .int .i64 3, .int .i64 3, .int .i64 3, .int .i64 2, .int .i64 3, .int .i64 2, .int .i64 2, .int .i64 2, .int .i64 3] 3 := by
              have hB := FW.size
              refine ⟨FW.alloc _, (Fr.refl (S := No) wm).alloc _ |>.block_of HKM1.out id, new_at _ _, (Fr.refl (S := No) wm).alloc _ |>.block_of HKM3.out id, Nat.le_refl _, hB, by omega, by have := FM.size; omega, by omega, by omega⟩
            have LB : wm.heap.size < (wm.alloc (.cells #[.int .i64 1, .int .i64 0, .int .i64 0, .int .i64 0, .int .i64 0, .string ⟨#[]⟩, .string ⟨#[]⟩, .int .i64 0, .int .i64 0, .int .i64 0, .bool false, .slice none 0 0, .slice none 0 0] 47)).heap.size := by simp
            have FB : Fr No w1 (wm.alloc (.cells #[.int .i64 1, .int .i64 0, .int .i64 0, .int .i64 0, .int .i64 0, .string ⟨#[]⟩, .string ⟨#[]⟩, .int .i64 0, .int .i64 0, .int .i64 0, .bool false, .slice none 0 0, .slice none 0 0] 47)) := FM.alloc _
            refine (number_ x1 _ (Nat.le_trans h8 O.fr.size) (HWX.out x1 (by simp))).mono ?_
            rintro e v1 ⟨rfl, g1⟩
            replace O := O.no g1
            replace LB := Nat.lt_of_lt_of_le LB g1.size
            replace FB := FB.trans (T := No) g1 (fun _ _ e => e)
            clear g1
            have m12 := O.n12
            obtain ⟨c1, z1⟩ := O.cell2 1
            simp only [List.getElem?_toArray, List.getElem?_cons_zero, List.getElem?_cons_succ] at c1
            have nb2 : b ≠ wm.heap.size := by have := FM.size; omega
            go_wp2_with fail
            replace O := O.set2 1 (.int .i64 (Scr.nV x1))
            replace LB : wm.heap.size < (v1.setCell ⟨wm.heap.size, 1, none⟩ (.int .i64 (Scr.nV x1))).heap.size := by simpa [World.setCell] using LB
            replace FB : Fr No w1 (v1.setCell ⟨wm.heap.size, 1, none⟩ (.int .i64 (Scr.nV x1))) := Fr.setCell (p := ⟨wm.heap.size, 1, none⟩) FB (.inr FM.size) _
            clear c1 z1
            refine (roperation_ x2 x3 x4 x5 x6 x7 x8 x9 b (off + 2) _ _ (Nat.le_trans h8 O.fr.size) (by have := HC.out; omega) (fun x hx => HWX.out x (List.mem_cons_of_mem _ (List.mem_cons_of_mem _ hx))) (Nat.lt_of_lt_of_le hb FB.size) (FB.cell_of (HCELL.out 2 (.string x2) rfl) id) (FB.cell_of (HCELL.out 3 (.string x3) rfl) id) (FB.cell_of (HCELL.out 4 (.string x4) rfl) id) (FB.cell_of (HCELL.out 5 (.string x5) rfl) id) (FB.cell_of (HCELL.out 6 (.string x6) rfl) id) (FB.cell_of (HCELL.out 7 (.string x7) rfl) id) (FB.cell_of (HCELL.out 8 (.string x8) rfl) id) (FB.cell_of (HCELL.out 9 (.string x9) rfl) id)).mono ?_
            rintro e v2 ⟨ox, vs, hox, rfl, hov, hnv, g2⟩
            obtain ⟨vb, rfl, hsl, i0, i1, i2, i3, l0, l1, l2⟩ := hov
            obtain ⟨sa, sl, sc, rfl⟩ := hsl.shape
            have HN2 : Hid (∀ a l c, Value.slice sa sl sc = .slice (some a) l c → wm.heap.size < a.block) := fun a l c h => Nat.lt_of_lt_of_le LB (hnv a l c (by rw [← h]; simp))
            have HI := Lib.hid (And.intro i0 (And.intro i1 (And.intro i2 (And.intro i3 (And.intro l0 (And.intro l1 l2))))))
            have HOX := Lib.hid hox
            replace O := O.no g2
            clear hox hnv i0 i1 i2 i3 l0 l1 l2
            obtain ⟨c4, z4⟩ := O.cell2 4
            obtain ⟨c5, z5⟩ := O.cell2 5
            obtain ⟨c6, z6⟩ := O.cell2 6
            obtain ⟨c7, z7⟩ := O.cell2 7
            obtain ⟨c8, z8⟩ := O.cell2 8
            obtain ⟨c9, z9⟩ := O.cell2 9
            obtain ⟨c10, z10⟩ := O.cell2 10
            obtain ⟨c11, z11⟩ := O.cell2 11
            simp only [List.getElem?_toArray, List.getElem?_cons_zero, List.getElem?_cons_succ, List.setIfInBounds_toArray, List.set_cons_zero, List.set_cons_succ] at c4 c5 c6 c7 c8 c9 c10 c11
            have O' := ((((((((O.set2 4 (.int .i64 ox.kind)).set2 5 (.string ⟨ox.path.toArray⟩)).set2 6 (.string ⟨ox.to.toArray⟩)).set2 7 (.int .i64 ox.handle)).set2 8 (.int .i64 ox.pos)).set2 9 (.int .i64 ox.n)).set2 10 (.bool ox.writes)).set2 11 (.slice sa sl sc))
            have HS2 := Lib.hid (SlAt.set (SlAt.set (SlAt.set (SlAt.set (SlAt.set (SlAt.set (SlAt.set (SlAt.set hsl HN2.out 4 (.int .i64 ox.kind)) HN2.out 5 (.string ⟨ox.path.toArray⟩)) HN2.out 6 (.string ⟨ox.to.toArray⟩)) HN2.out 7 (.int .i64 ox.handle)) HN2.out 8 (.int .i64 ox.pos)) HN2.out 9 (.int .i64 ox.n)) HN2.out 10 (.bool ox.writes)) HN2.out 11 (.slice sa sl sc))
            clear O hsl
            have O := O'
            clear O'
            have HE := Lib.hid (Scr.event1_begin HK.out x1 [x2, x3, x4, x5, x6, x7, x8, x9])
            simp only [List.setIfInBounds_toArray, List.set_cons_zero, List.set_cons_succ] at O
            go_upto_region 32 with fail
            clear c4 z4 c5 z5 c6 z6 c7 z7 c8 z8 c9 z9 c10 z10 c11 z11
            generalize ((((((((v2.setCell ⟨wm.heap.size, 4, none⟩ (.int .i64 ox.kind)).setCell ⟨wm.heap.size, 5, none⟩ (.string ⟨ox.path.toArray⟩)).setCell ⟨wm.heap.size, 6, none⟩ (.string ⟨ox.to.toArray⟩)).setCell ⟨wm.heap.size, 7, none⟩ (.int .i64 ox.handle)).setCell ⟨wm.heap.size, 8, none⟩ (.int .i64 ox.pos)).setCell ⟨wm.heap.size, 9, none⟩ (.int .i64 ox.n)).setCell ⟨wm.heap.size, 10, none⟩ (.bool ox.writes)).setCell ⟨wm.heap.size, 11, none⟩ (.slice sa sl sc)) = w9 at *
            have HO := Lib.hid O
            clear O
            obtain ⟨q1, hq1⟩ : ∃ q, Scr.nOk x1 = q := ⟨_, rfl⟩
            obtain ⟨q2, hq2⟩ : ∃ q, (Scr.op1 [x2, x3, x4, x5, x6, x7, x8, x9]).isSome = q := ⟨_, rfl⟩
            rw [hq1, hq2] at HE
            rw [hq1, hq2]
            clear hq1 hq2
            cases q1
            · go_wp2_with (refine wpList_store_row rfl 47 (.tmp 2) (.tmp 109) rfl w.heap.size #[.int .i64 0, .int .i64 0, .int .i64 0, .int .i64 0, .int .i64 0, .string ⟨#[]⟩, .string ⟨#[]⟩, .int .i64 0, .int .i64 0, .int .i64 0, .bool false, .slice none 0 0, .slice none 0 0] rfl rfl 47 #[.int .i64 0, .int .i64 0, .int .i64 0, .int .i64 0, .int .i64 0, .string ⟨#[]⟩, .string ⟨#[]⟩, .int .i64 0, .int .i64 0, .int .i64 0, .bool false, .slice none 0 0, .slice none 0 0] HO.out.k1 Tryd.size47 rfl zero_one ?_)
              exact bodyPost_ret (results24_ _ _ w.heap.size #[.int .i64 0, .int .i64 0, .int .i64 0, .int .i64 0, .int .i64 0, .string ⟨#[]⟩, .string ⟨#[]⟩, .int .i64 0, .int .i64 0, .int .i64 0, .bool false, .slice none 0 0, .slice none 0 0] (0, 0) (.bool false) rfl rfl (setRow_at HO.out.k1) rfl) rfl (rev_no (by rw [HE.out]; rfl) rfl (Fr.setRow HO.out.fr (.inr (Nat.le_refl _)) _))
            cases q2
            · go_wp2_with (refine wpList_store_row rfl 47 (.tmp 2) (.tmp 109) rfl w.heap.size #[.int .i64 0, .int .i64 0, .int .i64 0, .int .i64 0, .int .i64 0, .string ⟨#[]⟩, .string ⟨#[]⟩, .int .i64 0, .int .i64 0, .int .i64 0, .bool false, .slice none 0 0, .slice none 0 0] rfl rfl 47 #[.int .i64 0, .int .i64 0, .int .i64 0, .int .i64 0, .int .i64 0, .string ⟨#[]⟩, .string ⟨#[]⟩, .int .i64 0, .int .i64 0, .int .i64 0, .bool false, .slice none 0 0, .slice none 0 0] HO.out.k1 Tryd.size47 rfl zero_one ?_)
              exact bodyPost_ret (results24_ _ _ w.heap.size #[.int .i64 0, .int .i64 0, .int .i64 0, .int .i64 0, .int .i64 0, .string ⟨#[]⟩, .string ⟨#[]⟩, .int .i64 0, .int .i64 0, .int .i64 0, .bool false, .slice none 0 0, .slice none 0 0] (0, 0) (.bool false) rfl rfl (setRow_at HO.out.k1) rfl) rfl (rev_no (by rw [HE.out]; rfl) rfl (Fr.setRow HO.out.fr (.inr (Nat.le_refl _)) _))
            · have HOC := Lib.hid (row_one [.int .i64 1, .int .i64 (Scr.nV x1), .int .i64 0, .int .i64 0, .int .i64 ox.kind, .string ⟨ox.path.toArray⟩, .string ⟨ox.to.toArray⟩, .int .i64 ox.handle, .int .i64 ox.pos, .int .i64 ox.n, .bool ox.writes, .slice sa sl sc, .slice none 0 0] (by intro v hv; simp only [List.mem_cons, List.not_mem_nil, or_false] at hv; rcases hv with rfl | rfl | rfl | rfl | rfl | rfl | rfl | rfl | rfl | rfl | rfl | rfl | rfl <;> rfl))
              go_wp2_with (first | (refine wpList_load_row rfl 47 (.tmp 8) rfl wm.heap.size rfl 47 #[.int .i64 1, .int .i64 (Scr.nV x1), .int .i64 0, .int .i64 0, .int .i64 ox.kind, .string ⟨ox.path.toArray⟩, .string ⟨ox.to.toArray⟩, .int .i64 ox.handle, .int .i64 ox.pos, .int .i64 ox.n, .bool ox.writes, .slice sa sl sc, .slice none 0 0] (0, 0) _ HO.out.k2 Tryd.underlying47 rfl Tryd.size47 ?_) | (refine wpList_store_row rfl 47 (.tmp 2) (.tmp 110) rfl w.heap.size #[.int .i64 1, .int .i64 (Scr.nV x1), .int .i64 0, .int .i64 0, .int .i64 ox.kind, .string ⟨ox.path.toArray⟩, .string ⟨ox.to.toArray⟩, .int .i64 ox.handle, .int .i64 ox.pos, .int .i64 ox.n, .bool ox.writes, .slice sa sl sc, .slice none 0 0] rfl rfl 47 #[.int .i64 0, .int .i64 0, .int .i64 0, .int .i64 0, .int .i64 0, .string ⟨#[]⟩, .string ⟨#[]⟩, .int .i64 0, .int .i64 0, .int .i64 0, .bool false, .slice none 0 0, .slice none 0 0] HO.out.k1 Tryd.size47 rfl HOC.out ?_))
              exact bodyPost_ret (results24_ _ _ w.heap.size #[.int .i64 1, .int .i64 (Scr.nV x1), .int .i64 0, .int .i64 0, .int .i64 ox.kind, .string ⟨ox.path.toArray⟩, .string ⟨ox.to.toArray⟩, .int .i64 ox.handle, .int .i64 ox.pos, .int .i64 ox.n, .bool ox.writes, .slice sa sl sc, .slice none 0 0] (0, 0) (.bool true) rfl rfl (setRow_at HO.out.k1) rfl) rfl (rev_yes (x := { Scr.Ev.zero with kind := 1, node := Scr.nV x1, op := ox }) (by rw [HE.out]; rw [HOX.out]; rfl) rfl ⟨_, _, rfl, ⟨_, rfl, SlAt.fr HS2.out (Fr.setRow (S := (· = w.heap.size)) (Fr.refl _) (.inl rfl) _) (fun a l c h e => by have := HN2.out a l c h; have := FW.size; omega), HI.out⟩, .inl ⟨rfl, _, _, rfl⟩, (i64_lit 1 (by decide)), nV_in _, (i64_lit 0 (by decide)), (i64_lit 0 (by decide)), by simp [Scr.Ev.zero]⟩ (fun a l c hm => by simp at hm; have := HN2.out a l c (by simp [hm]); have := FW.size; omega) (Fr.setRow HO.out.fr (.inr (Nat.le_refl _)) _))
        · have HN := Lib.hid (Scr.event1_len (r := rest) HK.out (show rest.length + 1 ≠ Scr.many 1 from hl))
          have qn : ((rest.length : Int) + 1 != 10) = true := by rw [bne_iff_ne]; omega
          have qm : (((rest.length + 1 : Nat) : Int) != 10) = true := by rw [bne_iff_ne]; omega
          clear hl
          go_wp2_with (refine wpList_store_row rfl 47 (.tmp 2) (.tmp 37) rfl w.heap.size #[.int .i64 0, .int .i64 0, .int .i64 0, .int .i64 0, .int .i64 0, .string ⟨#[]⟩, .string ⟨#[]⟩, .int .i64 0, .int .i64 0, .int .i64 0, .bool false, .slice none 0 0, .slice none 0 0] rfl rfl 47 #[.int .i64 0, .int .i64 0, .int .i64 0, .int .i64 0, .int .i64 0, .string ⟨#[]⟩, .string ⟨#[]⟩, .int .i64 0, .int .i64 0, .int .i64 0, .bool false, .slice none 0 0, .slice none 0 0] HKM1.out Tryd.size47 rfl zero_one ?_)
          exact bodyPost_ret (results24_ _ _ w.heap.size #[.int .i64 0, .int .i64 0, .int .i64 0, .int .i64 0, .int .i64 0, .string ⟨#[]⟩, .string ⟨#[]⟩, .int .i64 0, .int .i64 0, .int .i64 0, .bool false, .slice none 0 0, .slice none 0 0] (0, 0) (.bool false) rfl rfl (setRow_at HKM1.out) rfl) rfl (rev_no HN.out rfl (Fr.setRow FW (.inr (Nat.le_refl _)) _))
      · have cm : wm.cell? ⟨B3, 2, none⟩ = some (.int .i64 3) := by rw [cell_at HKM3.out]; rfl
        by_cases hl : rest.length + 1 = 3
        · match rest, hl with
          | [x1, x2], _ =>
            have d1 : (wm.alloc (.cells #[.int .i64 2, .int .i64 0, .int .i64 0, .int .i64 0, .int .i64 0, .string ⟨#[]⟩, .string ⟨#[]⟩, .int .i64 0, .int .i64 0, .int .i64 0, .bool false, .slice none 0 0, .slice none 0 0] 47)).cell? ⟨b, off + 1, none⟩ = some (.string x1) := (FM.alloc _).cell_of (HCELL.out 1 _ rfl) id
            simp only [List.length_cons, List.length_nil] at HC
            go_wp2_with fail
            clear cm d1
            have O : Own3 w (wm.alloc (.cells #[.int .i64 2, .int .i64 0, .int .i64 0, .int .i64 0, .int .i64 0, .string ⟨#[]⟩, .string ⟨#[]⟩, .int .i64 0, .int .i64 0, .int .i64 0, .bool false, .slice none 0 0, .slice none 0 0] 47)) w.heap.size #[.int .i64 0, .int .i64 0, .int .i64 0, .int .i64 0, .int .i64 0, .string ⟨#[]⟩, .string ⟨#[]⟩, .int .i64 0, .int .i64 0, .int .i64 0, .bool false, .slice none 0 0, .slice none 0 0] 47 wm.heap.size #[.int .i64 2, .int .i64 0, .int .i64 0, .int .i64 0, .int .i64 0, .string ⟨#[]⟩, .string ⟨#[]⟩, .int .i64 0, .int .i64 0, .int .i64 0, .bool false, .slice none 0 0, .slice none 0 0] 47 B3 #[.int .i64 0, .int .i64 10, .int .i64 3, .int .i64 3, .int .i64 3, .int .i64 2, .int .i64 3, .int .i64 2, .int .i64 2, .int .i64 2, .int .i64 3] 3 := by
              have hB := FW.size
              refine ⟨FW.alloc _, (Fr.refl (S := No) wm).alloc _ |>.block_of HKM1.out id, new_at _ _, (Fr.refl (S := No) wm).alloc _ |>.block_of HKM3.out id, Nat.le_refl _, hB, by omega, by have := FM.size; omega, by omega, by omega⟩
            have LB : wm.heap.size < (wm.alloc (.cells #[.int .i64 2, .int .i64 0, .int .i64 0, .int .i64 0, .int .i64 0, .string ⟨#[]⟩, .string ⟨#[]⟩, .int .i64 0, .int .i64 0, .int .i64 0, .bool false, .slice none 0 0, .slice none 0 0] 47)).heap.size := by simp
            have FB : Fr No w1 (wm.alloc (.cells #[.int .i64 2, .int .i64 0, .int .i64 0, .int .i64 0, .int .i64 0, .string ⟨#[]⟩, .string ⟨#[]⟩, .int .i64 0, .int .i64 0, .int .i64 0, .bool false, .slice none 0 0, .slice none 0 0] 47)) := FM.alloc _
            refine (number_ x1 _ (Nat.le_trans h8 O.fr.size) (HWX.out x1 (by simp))).mono ?_
            rintro e v1 ⟨rfl, g1⟩
            replace O := O.no g1
            replace LB := Nat.lt_of_lt_of_le LB g1.size
            replace FB := FB.trans (T := No) g1 (fun _ _ e => e)
            clear g1
            have m12 := O.n12
            obtain ⟨c1, z1⟩ := O.cell2 1
            simp only [List.getElem?_toArray, List.getElem?_cons_zero, List.getElem?_cons_succ] at c1
            have d2 := FB.cell (p := ⟨b, off + 2, none⟩) hb id
            rw [HCELL.out 2 (.string x2) rfl] at d2
            have nb2 : b ≠ wm.heap.size := by have := FM.size; omega
            go_wp2_with fail
            replace O := O.set2 1 (.int .i64 (Scr.nV x1))
            replace LB : wm.heap.size < (v1.setCell ⟨wm.heap.size, 1, none⟩ (.int .i64 (Scr.nV x1))).heap.size := by simpa [World.setCell] using LB
            replace FB : Fr No w1 (v1.setCell ⟨wm.heap.size, 1, none⟩ (.int .i64 (Scr.nV x1))) := Fr.setCell (p := ⟨wm.heap.size, 1, none⟩) FB (.inr FM.size) _
            clear c1 z1 d2
            refine (number_ x2 _ (Nat.le_trans h8 O.fr.size) (HWX.out x2 (by simp))).mono ?_
            rintro e v2 ⟨rfl, g2⟩
            replace O := O.no g2
            obtain ⟨c2, z2⟩ := O.cell2 2
            simp only [List.getElem?_toArray, List.getElem?_cons_zero, List.getElem?_cons_succ, List.setIfInBounds_toArray, List.set_cons_zero, List.set_cons_succ] at c2
            have O' := O.set2 2 (.int .i64 (Scr.nV x2))
            clear O
            have O := O'
            clear O'
            have HE := Lib.hid (Scr.event1_fate HK.out (by omega) x1 x2)
            simp only [List.setIfInBounds_toArray, List.set_cons_zero, List.set_cons_succ] at O
            have HO := Lib.hid O
            clear O
            obtain ⟨q1, hq1⟩ : ∃ q, Scr.nOk x1 = q := ⟨_, rfl⟩
            obtain ⟨q2, hq2⟩ : ∃ q, Scr.nOk x2 = q := ⟨_, rfl⟩
            rw [hq1, hq2] at HE
            rw [hq1, hq2]
            clear hq1 hq2
            cases q1
            · go_wp2_with (refine wpList_store_row rfl 47 (.tmp 2) (.tmp 109) rfl w.heap.size #[.int .i64 0, .int .i64 0, .int .i64 0, .int .i64 0, .int .i64 0, .string ⟨#[]⟩, .string ⟨#[]⟩, .int .i64 0, .int .i64 0, .int .i64 0, .bool false, .slice none 0 0, .slice none 0 0] rfl rfl 47 #[.int .i64 0, .int .i64 0, .int .i64 0, .int .i64 0, .int .i64 0, .string ⟨#[]⟩, .string ⟨#[]⟩, .int .i64 0, .int .i64 0, .int .i64 0, .bool false, .slice none 0 0, .slice none 0 0] HO.out.k1 Tryd.size47 rfl zero_one ?_)
              exact bodyPost_ret (results24_ _ _ w.heap.size #[.int .i64 0, .int .i64 0, .int .i64 0, .int .i64 0, .int .i64 0, .string ⟨#[]⟩, .string ⟨#[]⟩, .int .i64 0, .int .i64 0, .int .i64 0, .bool false, .slice none 0 0, .slice none 0 0] (0, 0) (.bool false) rfl rfl (setRow_at HO.out.k1) rfl) rfl (rev_no (by rw [HE.out]; rfl) rfl (Fr.setRow HO.out.fr (.inr (Nat.le_refl _)) _))
            cases q2
            · go_wp2_with (refine wpList_store_row rfl 47 (.tmp 2) (.tmp 109) rfl w.heap.size #[.int .i64 0, .int .i64 0, .int .i64 0, .int .i64 0, .int .i64 0, .string ⟨#[]⟩, .string ⟨#[]⟩, .int .i64 0, .int .i64 0, .int .i64 0, .bool false, .slice none 0 0, .slice none 0 0] rfl rfl 47 #[.int .i64 0, .int .i64 0, .int .i64 0, .int .i64 0, .int .i64 0, .string ⟨#[]⟩, .string ⟨#[]⟩, .int .i64 0, .int .i64 0, .int .i64 0, .bool false, .slice none 0 0, .slice none 0 0] HO.out.k1 Tryd.size47 rfl zero_one ?_)
              exact bodyPost_ret (results24_ _ _ w.heap.size #[.int .i64 0, .int .i64 0, .int .i64 0, .int .i64 0, .int .i64 0, .string ⟨#[]⟩, .string ⟨#[]⟩, .int .i64 0, .int .i64 0, .int .i64 0, .bool false, .slice none 0 0, .slice none 0 0] (0, 0) (.bool false) rfl rfl (setRow_at HO.out.k1) rfl) rfl (rev_no (by rw [HE.out]; rfl) rfl (Fr.setRow HO.out.fr (.inr (Nat.le_refl _)) _))
            · have HOC := Lib.hid (row_one [.int .i64 2, .int .i64 (Scr.nV x1), .int .i64 (Scr.nV x2), .int .i64 0, .int .i64 0, .string ⟨#[]⟩, .string ⟨#[]⟩, .int .i64 0, .int .i64 0, .int .i64 0, .bool false, .slice none 0 0, .slice none 0 0] (by intro v hv; simp only [List.mem_cons, List.not_mem_nil, or_false] at hv; rcases hv with rfl | rfl | rfl | rfl | rfl | rfl | rfl | rfl | rfl | rfl | rfl | rfl | rfl <;> rfl))
              go_wp2_with (first | (refine wpList_load_row rfl 47 (.tmp 8) rfl wm.heap.size rfl 47 #[.int .i64 2, .int .i64 (Scr.nV x1), .int .i64 (Scr.nV x2), .int .i64 0, .int .i64 0, .string ⟨#[]⟩, .string ⟨#[]⟩, .int .i64 0, .int .i64 0, .int .i64 0, .bool false, .slice none 0 0, .slice none 0 0] (0, 0) _ HO.out.k2 Tryd.underlying47 rfl Tryd.size47 ?_) | (refine wpList_store_row rfl 47 (.tmp 2) (.tmp 110) rfl w.heap.size #[.int .i64 2, .int .i64 (Scr.nV x1), .int .i64 (Scr.nV x2), .int .i64 0, .int .i64 0, .string ⟨#[]⟩, .string ⟨#[]⟩, .int .i64 0, .int .i64 0, .int .i64 0, .bool false, .slice none 0 0, .slice none 0 0] rfl rfl 47 #[.int .i64 0, .int .i64 0, .int .i64 0, .int .i64 0, .int .i64 0, .string ⟨#[]⟩, .string ⟨#[]⟩, .int .i64 0, .int .i64 0, .int .i64 0, .bool false, .slice none 0 0, .slice none 0 0] HO.out.k1 Tryd.size47 rfl HOC.out ?_))
              exact bodyPost_ret (results24_ _ _ w.heap.size #[.int .i64 2, .int .i64 (Scr.nV x1), .int .i64 (Scr.nV x2), .int .i64 0, .int .i64 0, .string ⟨#[]⟩, .string ⟨#[]⟩, .int .i64 0, .int .i64 0, .int .i64 0, .bool false, .slice none 0 0, .slice none 0 0] (0, 0) (.bool true) rfl rfl (setRow_at HO.out.k1) rfl) rfl (rev_yes (x := { Scr.Ev.zero with kind := ((2 : Nat) : Int), node := Scr.nV x1, fate := Scr.nV x2 }) (by rw [HE.out]; rfl) rfl ⟨_, _, rfl, OpV.zero _, .inl ⟨rfl, _, _, rfl⟩, (i64_lit 2 (by decide)), nV_in _, nV_in _, (i64_lit 0 (by decide)), by simp [Scr.Ev.zero]⟩ (fun a l c hm => by simp at hm) (Fr.setRow HO.out.fr (.inr (Nat.le_refl _)) _))
        · have HN := Lib.hid (Scr.event1_len (r := rest) HK.out (show rest.length + 1 ≠ Scr.many 2 from hl))
          have qn : ((rest.length : Int) + 1 != 3) = true := by rw [bne_iff_ne]; omega
          have qm : (((rest.length + 1 : Nat) : Int) != 3) = true := by rw [bne_iff_ne]; omega
          clear hl
          go_wp2_with (refine wpList_store_row rfl 47 (.tmp 2) (.tmp 37) rfl w.heap.size #[.int .i64 0, .int .i64 0, .int .i64 0, .int .i64 0, .int .i64 0, .string ⟨#[]⟩, .string ⟨#[]⟩, .int .i64 0, .int .i64 0, .int .i64 0, .bool false, .slice none 0 0, .slice none 0 0] rfl rfl 47 #[.int .i64 0, .int .i64 0, .int .i64 0, .int .i64 0, .int .i64 0, .string ⟨#[]⟩, .string ⟨#[]⟩, .int .i64 0, .int .i64 0, .int .i64 0, .bool false, .slice none 0 0, .slice none 0 0] HKM1.out Tryd.size47 rfl zero_one ?_)
          exact bodyPost_ret (results24_ _ _ w.heap.size #[.int .i64 0, .int .i64 0, .int .i64 0, .int .i64 0, .int .i64 0, .string ⟨#[]⟩, .string ⟨#[]⟩, .int .i64 0, .int .i64 0, .int .i64 0, .bool false, .slice none 0 0, .slice none 0 0] (0, 0) (.bool false) rfl rfl (setRow_at HKM1.out) rfl) rfl (rev_no HN.out rfl (Fr.setRow FW (.inr (Nat.le_refl _)) _))
      · have cm : wm.cell? ⟨B3, 3, none⟩ = some (.int .i64 3) := by rw [cell_at HKM3.out]; rfl
        by_cases hl : rest.length + 1 = 3
        · match rest, hl with
          | [x1, x2], _ =>
            have d1 : (wm.alloc (.cells #[.int .i64 3, .int .i64 0, .int .i64 0, .int .i64 0, .int .i64 0, .string ⟨#[]⟩, .string ⟨#[]⟩, .int .i64 0, .int .i64 0, .int .i64 0, .bool false, .slice none 0 0, .slice none 0 0] 47)).cell? ⟨b, off + 1, none⟩ = some (.string x1) := (FM.alloc _).cell_of (HCELL.out 1 _ rfl) id
            simp only [List.length_cons, List.length_nil] at HC
            go_wp2_with fail
            clear cm d1
            have O : Own3 w (wm.alloc (.cells #[.int .i64 3, .int .i64 0, .int .i64 0, .int .i64 0, .int .i64 0, .string ⟨#[]⟩, .string ⟨#[]⟩, .int .i64 0, .int .i64 0, .int .i64 0, .bool false, .slice none 0 0, .slice none 0 0] 47)) w.heap.size #[.int .i64 0, .int .i64 0, .int .i64 0, .int .i64 0, .int .i64 0, .string ⟨#[]⟩, .string ⟨#[]⟩, .int .i64 0, .int .i64 0, .int .i64 0, .bool false, .slice none 0 0, .slice none 0 0] 47 wm.heap.size #[.int .i64 3, .int .i64 0, .int .i64 0, .int .i64 0, .int .i64 0, .string ⟨#[]⟩, .string ⟨#[]⟩, .int .i64 0, .int .i64 0, .int .i64 0, .bool false, .slice none 0 0, .slice none 0 0] 47 B3 #[.int .i64 0, .int .i64 10, .int .i64 3, .int .i64 3, .int .i64 3, .int .i64 2, .int .i64 3, .int .i64 2, .int .i64 2, .int .i64 2, .int .i64 3] 3 := by
              have hB := FW.size
              refine ⟨FW.alloc _, (Fr.refl (S := No) wm).alloc _ |>.block_of HKM1.out id, new_at _ _, (Fr.refl (S := No) wm).alloc _ |>.block_of HKM3.out id, Nat.le_refl _, hB, by omega, by have := FM.size; omega, by omega, by omega⟩
            have LB : wm.heap.size < (wm.alloc (.cells #[.int .i64 3, .int .i64 0, .int .i64 0, .int .i64 0, .int .i64 0, .string ⟨#[]⟩, .string ⟨#[]⟩, .int .i64 0, .int .i64 0, .int .i64 0, .bool false, .slice none 0 0, .slice none 0 0] 47)).heap.size := by simp
            have FB : Fr No w1 (wm.alloc (.cells #[.int .i64 3, .int .i64 0, .int .i64 0, .int .i64 0, .int .i64 0, .string ⟨#[]⟩, .string ⟨#[]⟩, .int .i64 0, .int .i64 0, .int .i64 0, .bool false, .slice none 0 0, .slice none 0 0] 47)) := FM.alloc _
            refine (number_ x1 _ (Nat.le_trans h8 O.fr.size) (HWX.out x1 (by simp))).mono ?_
            rintro e v1 ⟨rfl, g1⟩
            replace O := O.no g1
            replace LB := Nat.lt_of_lt_of_le LB g1.size
            replace FB := FB.trans (T := No) g1 (fun _ _ e => e)
            clear g1
            have m12 := O.n12
            obtain ⟨c1, z1⟩ := O.cell2 1
            simp only [List.getElem?_toArray, List.getElem?_cons_zero, List.getElem?_cons_succ] at c1
            have d2 := FB.cell (p := ⟨b, off + 2, none⟩) hb id
            rw [HCELL.out 2 (.string x2) rfl] at d2
            have nb2 : b ≠ wm.heap.size := by have := FM.size; omega
            go_wp2_with fail
            replace O := O.set2 1 (.int .i64 (Scr.nV x1))
            replace LB : wm.heap.size < (v1.setCell ⟨wm.heap.size, 1, none⟩ (.int .i64 (Scr.nV x1))).heap.size := by simpa [World.setCell] using LB
            replace FB : Fr No w1 (v1.setCell ⟨wm.heap.size, 1, none⟩ (.int .i64 (Scr.nV x1))) := Fr.setCell (p := ⟨wm.heap.size, 1, none⟩) FB (.inr FM.size) _
            clear c1 z1 d2
            refine (number_ x2 _ (Nat.le_trans h8 O.fr.size) (HWX.out x2 (by simp))).mono ?_
            rintro e v2 ⟨rfl, g2⟩
            replace O := O.no g2
            obtain ⟨c2, z2⟩ := O.cell2 2
            simp only [List.getElem?_toArray, List.getElem?_cons_zero, List.getElem?_cons_succ, List.setIfInBounds_toArray, List.set_cons_zero, List.set_cons_succ] at c2
            have O' := O.set2 2 (.int .i64 (Scr.nV x2))
            clear O
            have O := O'
            clear O'
            have HE := Lib.hid (Scr.event1_fate HK.out (by omega) x1 x2)
            simp only [List.setIfInBounds_toArray, List.set_cons_zero, List.set_cons_succ] at O
            have HO := Lib.hid O
            clear O
            obtain ⟨q1, hq1⟩ : ∃ q, Scr.nOk x1 = q := ⟨_, rfl⟩
            obtain ⟨q2, hq2⟩ : ∃ q, Scr.nOk x2 = q := ⟨_, rfl⟩
            rw [hq1, hq2] at HE
            rw [hq1, hq2]
            clear hq1 hq2
            cases q1
            · go_wp2_with (refine wpList_store_row rfl 47 (.tmp 2) (.tmp 109) rfl w.heap.size #[.int .i64 0, .int .i64 0, .int .i64 0, .int .i64 0, .int .i64 0, .string ⟨#[]⟩, .string ⟨#[]⟩, .int .i64 0, .int .i64 0, .int .i64 0, .bool false, .slice none 0 0, .slice none 0 0] rfl rfl 47 #[.int .i64 0, .int .i64 0, .int .i64 0, .int .i64 0, .int .i64 0, .string ⟨#[]⟩, .string ⟨#[]⟩, .int .i64 0, .int .i64 0, .int .i64 0, .bool false, .slice none 0 0, .slice none 0 0] HO.out.k1 Tryd.size47 rfl zero_one ?_)
              exact bodyPost_ret (results24_ _ _ w.heap.size #[.int .i64 0, .int .i64 0, .int .i64 0, .int .i64 0, .int .i64 0, .string ⟨#[]⟩, .string ⟨#[]⟩, .int .i64 0, .int .i64 0, .int .i64 0, .bool false, .slice none 0 0, .slice none 0 0] (0, 0) (.bool false) rfl rfl (setRow_at HO.out.k1) rfl) rfl (rev_no (by rw [HE.out]; rfl) rfl (Fr.setRow HO.out.fr (.inr (Nat.le_refl _)) _))
            cases q2
            · go_wp2_with (refine wpList_store_row rfl 47 (.tmp 2) (.tmp 109) rfl w.heap.size #[.int .i64 0, .int .i64 0, .int .i64 0, .int .i64 0, .int .i64 0, .string ⟨#[]⟩, .string ⟨#[]⟩, .int .i64 0, .int .i64 0, .int .i64 0, .bool false, .slice none 0 0, .slice none 0 0] rfl rfl 47 #[.int .i64 0, .int .i64 0, .int .i64 0, .int .i64 0, .int .i64 0, .string ⟨#[]⟩, .string ⟨#[]⟩, .int .i64 0, .int .i64 0, .int .i64 0, .bool false, .slice none 0 0, .slice none 0 0] HO.out.k1 Tryd.size47 rfl zero_one ?_)
              exact bodyPost_ret (results24_ _ _ w.heap.size #[.int .i64 0, .int .i64 0, .int .i64 0, .int .i64 0, .int .i64 0, .string ⟨#[]⟩, .string ⟨#[]⟩, .int .i64 0, .int .i64 0, .int .i64 0, .bool false, .slice none 0 0, .slice none 0 0] (0, 0) (.bool false) rfl rfl (setRow_at HO.out.k1) rfl) rfl (rev_no (by rw [HE.out]; rfl) rfl (Fr.setRow HO.out.fr (.inr (Nat.le_refl _)) _))
            · have HOC := Lib.hid (row_one [.int .i64 3, .int .i64 (Scr.nV x1), .int .i64 (Scr.nV x2), .int .i64 0, .int .i64 0, .string ⟨#[]⟩, .string ⟨#[]⟩, .int .i64 0, .int .i64 0, .int .i64 0, .bool false, .slice none 0 0, .slice none 0 0] (by intro v hv; simp only [List.mem_cons, List.not_mem_nil, or_false] at hv; rcases hv with rfl | rfl | rfl | rfl | rfl | rfl | rfl | rfl | rfl | rfl | rfl | rfl | rfl <;> rfl))
              go_wp2_with (first | (refine wpList_load_row rfl 47 (.tmp 8) rfl wm.heap.size rfl 47 #[.int .i64 3, .int .i64 (Scr.nV x1), .int .i64 (Scr.nV x2), .int .i64 0, .int .i64 0, .string ⟨#[]⟩, .string ⟨#[]⟩, .int .i64 0, .int .i64 0, .int .i64 0, .bool false, .slice none 0 0, .slice none 0 0] (0, 0) _ HO.out.k2 Tryd.underlying47 rfl Tryd.size47 ?_) | (refine wpList_store_row rfl 47 (.tmp 2) (.tmp 110) rfl w.heap.size #[.int .i64 3, .int .i64 (Scr.nV x1), .int .i64 (Scr.nV x2), .int .i64 0, .int .i64 0, .string ⟨#[]⟩, .string ⟨#[]⟩, .int .i64 0, .int .i64 0, .int .i64 0, .bool false, .slice none 0 0, .slice none 0 0] rfl rfl 47 #[.int .i64 0, .int .i64 0, .int .i64 0, .int .i64 0, .int .i64 0, .string ⟨#[]⟩, .string ⟨#[]⟩, .int .i64 0, .int .i64 0, .int .i64 0, .bool false, .slice none 0 0, .slice none 0 0] HO.out.k1 Tryd.size47 rfl HOC.out ?_))
              exact bodyPost_ret (results24_ _ _ w.heap.size #[.int .i64 3, .int .i64 (Scr.nV x1), .int .i64 (Scr.nV x2), .int .i64 0, .int .i64 0, .string ⟨#[]⟩, .string ⟨#[]⟩, .int .i64 0, .int .i64 0, .int .i64 0, .bool false, .slice none 0 0, .slice none 0 0] (0, 0) (.bool true) rfl rfl (setRow_at HO.out.k1) rfl) rfl (rev_yes (x := { Scr.Ev.zero with kind := ((3 : Nat) : Int), node := Scr.nV x1, fate := Scr.nV x2 }) (by rw [HE.out]; rfl) rfl ⟨_, _, rfl, OpV.zero _, .inl ⟨rfl, _, _, rfl⟩, (i64_lit 3 (by decide)), nV_in _, nV_in _, (i64_lit 0 (by decide)), by simp [Scr.Ev.zero]⟩ (fun a l c hm => by simp at hm) (Fr.setRow HO.out.fr (.inr (Nat.le_refl _)) _))
        · have HN := Lib.hid (Scr.event1_len (r := rest) HK.out (show rest.length + 1 ≠ Scr.many 3 from hl))
          have qn : ((rest.length : Int) + 1 != 3) = true := by rw [bne_iff_ne]; omega
          have qm : (((rest.length + 1 : Nat) : Int) != 3) = true := by rw [bne_iff_ne]; omega
          clear hl
          go_wp2_with (refine wpList_store_row rfl 47 (.tmp 2) (.tmp 37) rfl w.heap.size #[.int .i64 0, .int .i64 0, .int .i64 0, .int .i64 0, .int .i64 0, .string ⟨#[]⟩, .string ⟨#[]⟩, .int .i64 0, .int .i64 0, .int .i64 0, .bool false, .slice none 0 0, .slice none 0 0] rfl rfl 47 #[.int .i64 0, .int .i64 0, .int .i64 0, .int .i64 0, .int .i64 0, .string ⟨#[]⟩, .string ⟨#[]⟩, .int .i64 0, .int .i64 0, .int .i64 0, .bool false, .slice none 0 0, .slice none 0 0] HKM1.out Tryd.size47 rfl zero_one ?_)
          exact bodyPost_ret (results24_ _ _ w.heap.size #[.int .i64 0, .int .i64 0, .int .i64 0, .int .i64 0, .int .i64 0, .string ⟨#[]⟩, .string ⟨#[]⟩, .int .i64 0, .int .i64 0, .int .i64 0, .bool false, .slice none 0 0, .slice none 0 0] (0, 0) (.bool false) rfl rfl (setRow_at HKM1.out) rfl) rfl (rev_no HN.out rfl (Fr.setRow FW (.inr (Nat.le_refl _)) _))
      · have cm : wm.cell? ⟨B3, 4, none⟩ = some (.int .i64 3) := by rw [cell_at HKM3.out]; rfl
        by_cases hl : rest.length + 1 = 3
        · match rest, hl with
          | [x1, x2], _ =>
            have d1 : (wm.alloc (.cells #[.int .i64 4, .int .i64 0, .int .i64 0, .int .i64 0, .int .i64 0, .string ⟨#[]⟩, .string ⟨#[]⟩, .int .i64 0, .int .i64 0, .int .i64 0, .bool false, .slice none 0 0, .slice none 0 0] 47)).cell? ⟨b, off + 1, none⟩ = some (.string x1) := (FM.alloc _).cell_of (HCELL.out 1 _ rfl) id
            simp only [List.length_cons, List.length_nil] at HC
            go_wp2_with fail
            clear cm d1
            have O : Own3 w (wm.alloc (.cells #[.int .i64 4, .int .i64 0, .int .i64 0, .int .i64 0, .int .i64 0, .string ⟨#[]⟩, .string ⟨#[]⟩, .int .i64 0, .int .i64 0, .int .i64 0, .bool false, .slice none 0 0, .slice none 0 0] 47)) w.heap.size #[.int .i64 0, .int .i64 0, .int .i64 0, .int .i64 0, .int .i64 0, .string ⟨#[]⟩, .string ⟨#[]⟩, .int .i64 0, .int .i64 0, .int .i64 0, .bool false, .slice none 0 0, .slice none 0 0] 47 wm.heap.size #[.int .i64 4, .int .i64 0, .int .i64 0, .int .i64 0, .int .i64 0, .string ⟨#[]⟩, .string ⟨#[]⟩, .int .i64 0, .int .i64 0, .int .i64 0, .bool false, .slice none 0 0, .slice none 0 0] 47 B3 #[.int .i64 0, .int .i64 10, .int .i64 3, .int .i64 3, .int .i64 3, .int .i64 2, .int .i64 3, .int .i64 2, .int .i64 2, .int .i64 2, .int .i64 3] 3 := by
              have hB := FW.size
              refine ⟨FW.alloc _, (Fr.refl (S := No) wm).alloc _ |>.block_of HKM1.out id, new_at _ _, (Fr.refl (S := No) wm).alloc _ |>.block_of HKM3.out id, Nat.le_refl _, hB, by omega, by have := FM.size; omega, by omega, by omega⟩
            have LB : wm.heap.size < (wm.alloc (.cells #[.int .i64 4, .int .i64 0, .int .i64 0, .int .i64 0, .int .i64 0, .string ⟨#[]⟩, .string ⟨#[]⟩, .int .i64 0, .int .i64 0, .int .i64 0, .bool false, .slice none 0 0, .slice none 0 0] 47)).heap.size := by simp
            have FB : Fr No w1 (wm.alloc (.cells #[.int .i64 4, .int .i64 0, .int .i64 0, .int .i64 0, .int .i64 0, .string ⟨#[]⟩, .string ⟨#[]⟩, .int .i64 0, .int .i64 0, .int .i64 0, .bool false, .slice none 0 0, .slice none 0 0] 47)) := FM.alloc _
            refine (number_ x1 _ (Nat.le_trans h8 O.fr.size) (HWX.out x1 (by simp))).mono ?_
            rintro e v1 ⟨rfl, g1⟩
            replace O := O.no g1
            replace LB := Nat.lt_of_lt_of_le LB g1.size
            replace FB := FB.trans (T := No) g1 (fun _ _ e => e)
            clear g1
            have m12 := O.n12
            obtain ⟨c1, z1⟩ := O.cell2 1
            simp only [List.getElem?_toArray, List.getElem?_cons_zero, List.getElem?_cons_succ] at c1
            have d2 := FB.cell (p := ⟨b, off + 2, none⟩) hb id
            rw [HCELL.out 2 (.string x2) rfl] at d2
            have nb2 : b ≠ wm.heap.size := by have := FM.size; omega
            go_wp2_with fail
            replace O := O.set2 1 (.int .i64 (Scr.nV x1))
            replace LB : wm.heap.size < (v1.setCell ⟨wm.heap.size, 1, none⟩ (.int .i64 (Scr.nV x1))).heap.size := by simpa [World.setCell] using LB
            replace FB : Fr No w1 (v1.setCell ⟨wm.heap.size, 1, none⟩ (.int .i64 (Scr.nV x1))) := Fr.setCell (p := ⟨wm.heap.size, 1, none⟩) FB (.inr FM.size) _
            clear c1 z1 d2
            refine (number_ x2 _ (Nat.le_trans h8 O.fr.size) (HWX.out x2 (by simp))).mono ?_
            rintro e v2 ⟨rfl, g2⟩
            replace O := O.no g2
            obtain ⟨c2, z2⟩ := O.cell2 2
            simp only [List.getElem?_toArray, List.getElem?_cons_zero, List.getElem?_cons_succ, List.setIfInBounds_toArray, List.set_cons_zero, List.set_cons_succ] at c2
            have O' := O.set2 2 (.int .i64 (Scr.nV x2))
            clear O
            have O := O'
            clear O'
            have HE := Lib.hid (Scr.event1_fate HK.out (by omega) x1 x2)
            simp only [List.setIfInBounds_toArray, List.set_cons_zero, List.set_cons_succ] at O
            have HO := Lib.hid O
            clear O
            obtain ⟨q1, hq1⟩ : ∃ q, Scr.nOk x1 = q := ⟨_, rfl⟩
            obtain ⟨q2, hq2⟩ : ∃ q, Scr.nOk x2 = q := ⟨_, rfl⟩
            rw [hq1, hq2] at HE
            rw [hq1, hq2]
            clear hq1 hq2
            cases q1
            · go_wp2_with (refine wpList_store_row rfl 47 (.tmp 2) (.tmp 109) rfl w.heap.size #[.int .i64 0, .int .i64 0, .int .i64 0, .int .i64 0, .int .i64 0, .string ⟨#[]⟩, .string ⟨#[]⟩, .int .i64 0, .int .i64 0, .int .i64 0, .bool false, .slice none 0 0, .slice none 0 0] rfl rfl 47 #[.int .i64 0, .int .i64 0, .int .i64 0, .int .i64 0, .int .i64 0, .string ⟨#[]⟩, .string ⟨#[]⟩, .int .i64 0, .int .i64 0, .int .i64 0, .bool false, .slice none 0 0, .slice none 0 0] HO.out.k1 Tryd.size47 rfl zero_one ?_)
              exact bodyPost_ret (results24_ _ _ w.heap.size #[.int .i64 0, .int .i64 0, .int .i64 0, .int .i64 0, .int .i64 0, .string ⟨#[]⟩, .string ⟨#[]⟩, .int .i64 0, .int .i64 0, .int .i64 0, .bool false, .slice none 0 0, .slice none 0 0] (0, 0) (.bool false) rfl rfl (setRow_at HO.out.k1) rfl) rfl (rev_no (by rw [HE.out]; rfl) rfl (Fr.setRow HO.out.fr (.inr (Nat.le_refl _)) _))
            cases q2
            · go_wp2_with (refine wpList_store_row rfl 47 (.tmp 2) (.tmp 109) rfl w.heap.size #[.int .i64 0, .int .i64 0, .int .i64 0, .int .i64 0, .int .i64 0, .string ⟨#[]⟩, .string ⟨#[]⟩, .int .i64 0, .int .i64 0, .int .i64 0, .bool false, .slice none 0 0, .slice none 0 0] rfl rfl 47 #[.int .i64 0, .int .i64 0, .int .i64 0, .int .i64 0, .int .i64 0, .string ⟨#[]⟩, .string ⟨#[]⟩, .int .i64 0, .int .i64 0, .int .i64 0, .bool false, .slice none 0 0, .slice none 0 0] HO.out.k1 Tryd.size47 rfl zero_one ?_)
              exact bodyPost_ret (results24_ _ _ w.heap.size #[.int .i64 0, .int .i64 0, .int .i64 0, .int .i64 0, .int .i64 0, .string ⟨#[]⟩, .string ⟨#[]⟩, .int .i64 0, .int .i64 0, .int .i64 0, .bool false, .slice none 0 0, .slice none 0 0] (0, 0) (.bool false) rfl rfl (setRow_at HO.out.k1) rfl) rfl (rev_no (by rw [HE.out]; rfl) rfl (Fr.setRow HO.out.fr (.inr (Nat.le_refl _)) _))
            · have HOC := Lib.hid (row_one [.int .i64 4, .int .i64 (Scr.nV x1), .int .i64 (Scr.nV x2), .int .i64 0, .int .i64 0, .string ⟨#[]⟩, .string ⟨#[]⟩, .int .i64 0, .int .i64 0, .int .i64 0, .bool false, .slice none 0 0, .slice none 0 0] (by intro v hv; simp only [List.mem_cons, List.not_mem_nil, or_false] at hv; rcases hv with rfl | rfl | rfl | rfl | rfl | rfl | rfl | rfl | rfl | rfl | rfl | rfl | rfl <;> rfl))
              go_wp2_with (first | (refine wpList_load_row rfl 47 (.tmp 8) rfl wm.heap.size rfl 47 #[.int .i64 4, .int .i64 (Scr.nV x1), .int .i64 (Scr.nV x2), .int .i64 0, .int .i64 0, .string ⟨#[]⟩, .string ⟨#[]⟩, .int .i64 0, .int .i64 0, .int .i64 0, .bool false, .slice none 0 0, .slice none 0 0] (0, 0) _ HO.out.k2 Tryd.underlying47 rfl Tryd.size47 ?_) | (refine wpList_store_row rfl 47 (.tmp 2) (.tmp 110) rfl w.heap.size #[.int .i64 4, .int .i64 (Scr.nV x1), .int .i64 (Scr.nV x2), .int .i64 0, .int .i64 0, .string ⟨#[]⟩, .string ⟨#[]⟩, .int .i64 0, .int .i64 0, .int .i64 0, .bool false, .slice none 0 0, .slice none 0 0] rfl rfl 47 #[.int .i64 0, .int .i64 0, .int .i64 0, .int .i64 0, .int .i64 0, .string ⟨#[]⟩, .string ⟨#[]⟩, .int .i64 0, .int .i64 0, .int .i64 0, .bool false, .slice none 0 0, .slice none 0 0] HO.out.k1 Tryd.size47 rfl HOC.out ?_))
              exact bodyPost_ret (results24_ _ _ w.heap.size #[.int .i64 4, .int .i64 (Scr.nV x1), .int .i64 (Scr.nV x2), .int .i64 0, .int .i64 0, .string ⟨#[]⟩, .string ⟨#[]⟩, .int .i64 0, .int .i64 0, .int .i64 0, .bool false, .slice none 0 0, .slice none 0 0] (0, 0) (.bool true) rfl rfl (setRow_at HO.out.k1) rfl) rfl (rev_yes (x := { Scr.Ev.zero with kind := ((4 : Nat) : Int), node := Scr.nV x1, fate := Scr.nV x2 }) (by rw [HE.out]; rfl) rfl ⟨_, _, rfl, OpV.zero _, .inl ⟨rfl, _, _, rfl⟩, (i64_lit 4 (by decide)), nV_in _, nV_in _, (i64_lit 0 (by decide)), by simp [Scr.Ev.zero]⟩ (fun a l c hm => by simp at hm) (Fr.setRow HO.out.fr (.inr (Nat.le_refl _)) _))
        · have HN := Lib.hid (Scr.event1_len (r := rest) HK.out (show rest.length + 1 ≠ Scr.many 4 from hl))
          have qn : ((rest.length : Int) + 1 != 3) = true := by rw [bne_iff_ne]; omega
          have qm : (((rest.length + 1 : Nat) : Int) != 3) = true := by rw [bne_iff_ne]; omega
          clear hl
          go_wp2_with (refine wpList_store_row rfl 47 (.tmp 2) (.tmp 37) rfl w.heap.size #[.int .i64 0, .int .i64 0, .int .i64 0, .int .i64 0, .int .i64 0, .string ⟨#[]⟩, .string ⟨#[]⟩, .int .i64 0, .int .i64 0, .int .i64 0, .bool false, .slice none 0 0, .slice none 0 0] rfl rfl 47 #[.int .i64 0, .int .i64 0, .int .i64 0, .int .i64 0, .int .i64 0, .string ⟨#[]⟩, .string ⟨#[]⟩, .int .i64 0, .int .i64 0, .int .i64 0, .bool false, .slice none 0 0, .slice none 0 0] HKM1.out Tryd.size47 rfl zero_one ?_)
          exact bodyPost_ret (results24_ _ _ w.heap.size #[.int .i64 0, .int .i64 0, .int .i64 0, .int .i64 0, .int .i64 0, .string ⟨#[]⟩, .string ⟨#[]⟩, .int .i64 0, .int .i64 0, .int .i64 0, .bool false, .slice none 0 0, .slice none 0 0] (0, 0) (.bool false) rfl rfl (setRow_at HKM1.out) rfl) rfl (rev_no HN.out rfl (Fr.setRow FW (.inr (Nat.le_refl _)) _))
      · have cm : wm.cell? ⟨B3, 5, none⟩ = some (.int .i64 2) := by rw [cell_at HKM3.out]; rfl
        by_cases hl : rest.length + 1 = 2
        · match rest, hl with
          | [x1], _ =>
            have d1 : (wm.alloc (.cells #[.int .i64 5, .int .i64 0, .int .i64 0, .int .i64 0, .int .i64 0, .string ⟨#[]⟩, .string ⟨#[]⟩, .int .i64 0, .int .i64 0, .int .i64 0, .bool false, .slice none 0 0, .slice none 0 0] 47)).cell? ⟨b, off + 1, none⟩ = some (.string x1) := (FM.alloc _).cell_of (HCELL.out 1 _ rfl) id
            simp only [List.length_cons, List.length_nil] at HC
            go_wp2_with fail
            clear cm d1
            have O : Own3 w (wm.alloc (.cells #[.int .i64 5, .int .i64 0, .int .i64 0, .int .i64 0, .int .i64 0, .string ⟨#[]⟩, .string ⟨#[]⟩, .int .i64 0, .int .i64 0, .int .i64 0, .bool false, .slice none 0 0, .slice none 0 0] 47)) w.heap.size #[.int .i64 0, .int .i64 0, .int .i64 0, .int .i64 0, .int .i64 0, .string ⟨#[]⟩, .string ⟨#[]⟩, .int .i64 0, .int .i64 0, .int .i64 0, .bool false, .slice none 0 0, .slice none 0 0] 47 wm.heap.size #[.int .i64 5, .int .i64 0, .int .i64 0, .int .i64 0, .int .i64 0, .string ⟨#[]⟩, .string ⟨#[]⟩, .int .i64 0, .int .i64 0, .int .i64 0, .bool false, .slice none 0 0, .slice none 0 0] 47 B3 #[.int .i64 0, .int .i64 10, .int .i64 3, .int .i64 3, .int .i64 3, .int .i64 2, .int .i64 3, .int .i64 2, .int .i64 2, .int .i64 2, .int .i64 3] 3 := by
              have hB := FW.size
              refine ⟨FW.alloc _, (Fr.refl (S := No) wm).alloc _ |>.block_of HKM1.out id, new_at _ _, (Fr.refl (S := No) wm).alloc _ |>.block_of HKM3.out id, Nat.le_refl _, hB, by omega, by have := FM.size; omega, by omega, by omega⟩
            have LB : wm.heap.size < (wm.alloc (.cells #[.int .i64 5, .int .i64 0, .int .i64 0, .int .i64 0, .int .i64 0, .string ⟨#[]⟩, .string ⟨#[]⟩, .int .i64 0, .int .i64 0, .int .i64 0, .bool false, .slice none 0 0, .slice none 0 0] 47)).heap.size := by simp
            have FB : Fr No w1 (wm.alloc (.cells #[.int .i64 5, .int .i64 0, .int .i64 0, .int .i64 0, .int .i64 0, .string ⟨#[]⟩, .string ⟨#[]⟩, .int .i64 0, .int .i64 0, .int .i64 0, .bool false, .slice none 0 0, .slice none 0 0] 47)) := FM.alloc _
            refine (number_ x1 _ (Nat.le_trans h8 O.fr.size) (HWX.out x1 (by simp))).mono ?_
            rintro e v1 ⟨rfl, g1⟩
            replace O := O.no g1
            replace LB := Nat.lt_of_lt_of_le LB g1.size
            replace FB := FB.trans (T := No) g1 (fun _ _ e => e)
            clear g1
            have m12 := O.n12
            obtain ⟨c3, z3⟩ := O.cell2 3
            simp only [List.getElem?_toArray, List.getElem?_cons_zero, List.getElem?_cons_succ] at c3
            have nb2 : b ≠ wm.heap.size := by have := FM.size; omega
            have O' := O.set2 3 (.int .i64 (Scr.nV x1))
            have HE := Lib.hid (Scr.event1_come HK.out x1)
            clear O
            have O := O'
            clear O'
            simp only [List.setIfInBounds_toArray, List.set_cons_zero, List.set_cons_succ] at O
            have HO := Lib.hid O
            clear O
            obtain ⟨q1, hq1⟩ : ∃ q, Scr.nOk x1 = q := ⟨_, rfl⟩
            rw [hq1] at HE ⊢
            clear hq1
            cases q1
            · go_wp2_with (refine wpList_store_row rfl 47 (.tmp 2) (.tmp 109) rfl w.heap.size #[.int .i64 0, .int .i64 0, .int .i64 0, .int .i64 0, .int .i64 0, .string ⟨#[]⟩, .string ⟨#[]⟩, .int .i64 0, .int .i64 0, .int .i64 0, .bool false, .slice none 0 0, .slice none 0 0] rfl rfl 47 #[.int .i64 0, .int .i64 0, .int .i64 0, .int .i64 0, .int .i64 0, .string ⟨#[]⟩, .string ⟨#[]⟩, .int .i64 0, .int .i64 0, .int .i64 0, .bool false, .slice none 0 0, .slice none 0 0] HO.out.k1 Tryd.size47 rfl zero_one ?_)
              exact bodyPost_ret (results24_ _ _ w.heap.size #[.int .i64 0, .int .i64 0, .int .i64 0, .int .i64 0, .int .i64 0, .string ⟨#[]⟩, .string ⟨#[]⟩, .int .i64 0, .int .i64 0, .int .i64 0, .bool false, .slice none 0 0, .slice none 0 0] (0, 0) (.bool false) rfl rfl (setRow_at HO.out.k1) rfl) rfl (rev_no (by rw [HE.out]; rfl) rfl (Fr.setRow HO.out.fr (.inr (Nat.le_refl _)) _))
            · have HOC := Lib.hid (row_one [.int .i64 5, .int .i64 0, .int .i64 0, .int .i64 (Scr.nV x1), .int .i64 0, .string ⟨#[]⟩, .string ⟨#[]⟩, .int .i64 0, .int .i64 0, .int .i64 0, .bool false, .slice none 0 0, .slice none 0 0] (by intro v hv; simp only [List.mem_cons, List.not_mem_nil, or_false] at hv; rcases hv with rfl | rfl | rfl | rfl | rfl | rfl | rfl | rfl | rfl | rfl | rfl | rfl | rfl <;> rfl))
              go_wp2_with (first | (refine wpList_load_row rfl 47 (.tmp 8) rfl wm.heap.size rfl 47 #[.int .i64 5, .int .i64 0, .int .i64 0, .int .i64 (Scr.nV x1), .int .i64 0, .string ⟨#[]⟩, .string ⟨#[]⟩, .int .i64 0, .int .i64 0, .int .i64 0, .bool false, .slice none 0 0, .slice none 0 0] (0, 0) _ HO.out.k2 Tryd.underlying47 rfl Tryd.size47 ?_) | (refine wpList_store_row rfl 47 (.tmp 2) (.tmp 110) rfl w.heap.size #[.int .i64 5, .int .i64 0, .int .i64 0, .int .i64 (Scr.nV x1), .int .i64 0, .string ⟨#[]⟩, .string ⟨#[]⟩, .int .i64 0, .int .i64 0, .int .i64 0, .bool false, .slice none 0 0, .slice none 0 0] rfl rfl 47 #[.int .i64 0, .int .i64 0, .int .i64 0, .int .i64 0, .int .i64 0, .string ⟨#[]⟩, .string ⟨#[]⟩, .int .i64 0, .int .i64 0, .int .i64 0, .bool false, .slice none 0 0, .slice none 0 0] HO.out.k1 Tryd.size47 rfl HOC.out ?_))
              exact bodyPost_ret (results24_ _ _ w.heap.size #[.int .i64 5, .int .i64 0, .int .i64 0, .int .i64 (Scr.nV x1), .int .i64 0, .string ⟨#[]⟩, .string ⟨#[]⟩, .int .i64 0, .int .i64 0, .int .i64 0, .bool false, .slice none 0 0, .slice none 0 0] (0, 0) (.bool true) rfl rfl (setRow_at HO.out.k1) rfl) rfl (rev_yes (x := { Scr.Ev.zero with kind := 5, n := Scr.nV x1 }) (by rw [HE.out]; rfl) rfl ⟨_, _, rfl, OpV.zero _, .inl ⟨rfl, _, _, rfl⟩, (i64_lit 5 (by decide)), (i64_lit 0 (by decide)), (i64_lit 0 (by decide)), nV_in _, by simp [Scr.Ev.zero]⟩ (fun a l c hm => by simp at hm) (Fr.setRow HO.out.fr (.inr (Nat.le_refl _)) _))
        · have HN := Lib.hid (Scr.event1_len (r := rest) HK.out (show rest.length + 1 ≠ Scr.many 5 from hl))
          have qn : ((rest.length : Int) + 1 != 2) = true := by rw [bne_iff_ne]; omega
          have qm : (((rest.length + 1 : Nat) : Int) != 2) = true := by rw [bne_iff_ne]; omega
          clear hl
          go_wp2_with (refine wpList_store_row rfl 47 (.tmp 2) (.tmp 37) rfl w.heap.size #[.int .i64 0, .int .i64 0, .int .i64 0, .int .i64 0, .int .i64 0, .string ⟨#[]⟩, .string ⟨#[]⟩, .int .i64 0, .int .i64 0, .int .i64 0, .bool false, .slice none 0 0, .slice none 0 0] rfl rfl 47 #[.int .i64 0, .int .i64 0, .int .i64 0, .int .i64 0, .int .i64 0, .string ⟨#[]⟩, .string ⟨#[]⟩, .int .i64 0, .int .i64 0, .int .i64 0, .bool false, .slice none 0 0, .slice none 0 0] HKM1.out Tryd.size47 rfl zero_one ?_)
          exact bodyPost_ret (results24_ _ _ w.heap.size #[.int .i64 0, .int .i64 0, .int .i64 0, .int .i64 0, .int .i64 0, .string ⟨#[]⟩, .string ⟨#[]⟩, .int .i64 0, .int .i64 0, .int .i64 0, .bool false, .slice none 0 0, .slice none 0 0] (0, 0) (.bool false) rfl rfl (setRow_at HKM1.out) rfl) rfl (rev_no HN.out rfl (Fr.setRow FW (.inr (Nat.le_refl _)) _))
      · have cm : wm.cell? ⟨B3, 6, none⟩ = some (.int .i64 3) := by rw [cell_at HKM3.out]; rfl
        by_cases hl : rest.length + 1 = 3
        · match rest, hl with
          | [x1, x2], _ =>
            have d1 : (wm.alloc (.cells #[.int .i64 6, .int .i64 0, .int .i64 0, .int .i64 0, .int .i64 0, .string ⟨#[]⟩, .string ⟨#[]⟩, .int .i64 0, .int .i64 0, .int .i64 0, .bool false, .slice none 0 0, .slice none 0 0] 47)).cell? ⟨b, off + 1, none⟩ = some (.string x1) := (FM.alloc _).cell_of (HCELL.out 1 _ rfl) id
            simp only [List.length_cons, List.length_nil] at HC
            go_wp2_with fail
            clear cm d1
            have O : Own3 w (wm.alloc (.cells #[.int .i64 6, .int .i64 0, .int .i64 0, .int .i64 0, .int .i64 0, .string ⟨#[]⟩, .string ⟨#[]⟩, .int .i64 0, .int .i64 0, .int .i64 0, .bool false, .slice none 0 0, .slice none 0 0] 47)) w.heap.size #[.int .i64 0, .int .i64 0, .int .i64 0, .int .i64 0, .int .i64 0, .string ⟨#[]⟩, .string ⟨#[]⟩, .int .i64 0, .int .i64 0, .int .i64 0, .bool false, .slice none 0 0, .slice none 0 0] 47 wm.heap.size #[.int .i64 6, .int .i64 0, .int .i64 0, .int .i64 0, .int .i64 0, .string ⟨#[]⟩, .string ⟨#[]⟩, .int .i64 0, .int .i64 0, .int .i64 0, .bool false, .slice none 0 0, .slice none 0 0] 47 B3 #[.int .i64 0, .int .i64 10, .int .i64 3, .int .i64 3, .int .i64 3, .int .i64 2, .int .i64 3, .int .i64 2, .int .i64 2, .int .i64 2, .int .i64 3] 3 := by
              have hB := FW.size
              refine ⟨FW.alloc _, (Fr.refl (S := No) wm).alloc _ |>.block_of HKM1.out id, new_at _ _, (Fr.refl (S := No) wm).alloc _ |>.block_of HKM3.out id, Nat.le_refl _, hB, by omega, by have := FM.size; omega, by omega, by omega⟩
            have LB : wm.heap.size < (wm.alloc (.cells #[.int .i64 6, .int .i64 0, .int .i64 0, .int .i64 0, .int .i64 0, .string ⟨#[]⟩, .string ⟨#[]⟩, .int .i64 0, .int .i64 0, .int .i64 0, .bool false, .slice none 0 0, .slice none 0 0] 47)).heap.size := by simp
            have FB : Fr No w1 (wm.alloc (.cells #[.int .i64 6, .int .i64 0, .int .i64 0, .int .i64 0, .int .i64 0, .string ⟨#[]⟩, .string ⟨#[]⟩, .int .i64 0, .int .i64 0, .int .i64 0, .bool false, .slice none 0 0, .slice none 0 0] 47)) := FM.alloc _
            refine (number_ x1 _ (Nat.le_trans h8 O.fr.size) (HWX.out x1 (by simp))).mono ?_
            rintro e v1 ⟨rfl, g1⟩
            replace O := O.no g1
            replace LB := Nat.lt_of_lt_of_le LB g1.size
            replace FB := FB.trans (T := No) g1 (fun _ _ e => e)
            clear g1
            have m12 := O.n12
            obtain ⟨c1, z1⟩ := O.cell2 1
            simp only [List.getElem?_toArray, List.getElem?_cons_zero, List.getElem?_cons_succ] at c1
            have d2 := FB.cell (p := ⟨b, off + 2, none⟩) hb id
            rw [HCELL.out 2 (.string x2) rfl] at d2
            have nb2 : b ≠ wm.heap.size := by have := FM.size; omega
            go_wp2_with fail
            replace O := O.set2 1 (.int .i64 (Scr.nV x1))
            replace LB : wm.heap.size < (v1.setCell ⟨wm.heap.size, 1, none⟩ (.int .i64 (Scr.nV x1))).heap.size := by simpa [World.setCell] using LB
            replace FB : Fr No w1 (v1.setCell ⟨wm.heap.size, 1, none⟩ (.int .i64 (Scr.nV x1))) := Fr.setCell (p := ⟨wm.heap.size, 1, none⟩) FB (.inr FM.size) _
            clear c1 z1 d2
            refine (raw_ x2 _ (Nat.le_trans h8 O.fr.size) (HWX.out x2 (by simp))).mono ?_
            rintro e v2 ⟨t2, rfl, hs2, hn2, g2, hl2⟩
            obtain ⟨sa2, sl2, sc2, rfl⟩ := hs2.shape
            have HN2 := Lib.hid (raw_new hn2 LB)
            have HL2 := Lib.hid hl2
            replace O := O.no g2
            obtain ⟨c12, z12⟩ := O.cell2 12
            simp only [List.getElem?_toArray, List.getElem?_cons_zero, List.getElem?_cons_succ, List.setIfInBounds_toArray, List.set_cons_zero, List.set_cons_succ] at c12
            have HS2 : Hid (SlAt (v2.setCell ⟨wm.heap.size, 12, none⟩ (.slice sa2 sl2 sc2)) (.slice sa2 sl2 sc2) (Scr.bV x2)) := SlAt.set hs2 HN2.out 12 _
            have O' := O.set2 12 (.slice sa2 sl2 sc2)
            clear O hs2 hn2 hl2
            have O := O'
            clear O'
            have HE := Lib.hid (Scr.event1_crash HK.out x1 x2)
            simp only [List.setIfInBounds_toArray, List.set_cons_zero, List.set_cons_succ] at O
            have HO := Lib.hid O
            clear O
            obtain ⟨q1, hq1⟩ : ∃ q, Scr.nOk x1 = q := ⟨_, rfl⟩
            obtain ⟨q2, hq2⟩ : ∃ q, Scr.bOk x2 = q := ⟨_, rfl⟩
            rw [hq1, hq2] at HE
            rw [hq1, hq2]
            clear hq1 hq2
            cases q1
            · go_wp2_with (refine wpList_store_row rfl 47 (.tmp 2) (.tmp 109) rfl w.heap.size #[.int .i64 0, .int .i64 0, .int .i64 0, .int .i64 0, .int .i64 0, .string ⟨#[]⟩, .string ⟨#[]⟩, .int .i64 0, .int .i64 0, .int .i64 0, .bool false, .slice none 0 0, .slice none 0 0] rfl rfl 47 #[.int .i64 0, .int .i64 0, .int .i64 0, .int .i64 0, .int .i64 0, .string ⟨#[]⟩, .string ⟨#[]⟩, .int .i64 0, .int .i64 0, .int .i64 0, .bool false, .slice none 0 0, .slice none 0 0] HO.out.k1 Tryd.size47 rfl zero_one ?_)
              exact bodyPost_ret (results24_ _ _ w.heap.size #[.int .i64 0, .int .i64 0, .int .i64 0, .int .i64 0, .int .i64 0, .string ⟨#[]⟩, .string ⟨#[]⟩, .int .i64 0, .int .i64 0, .int .i64 0, .bool false, .slice none 0 0, .slice none 0 0] (0, 0) (.bool false) rfl rfl (setRow_at HO.out.k1) rfl) rfl (rev_no (by rw [HE.out]; rfl) rfl (Fr.setRow HO.out.fr (.inr (Nat.le_refl _)) _))
            cases q2
            · go_wp2_with (refine wpList_store_row rfl 47 (.tmp 2) (.tmp 109) rfl w.heap.size #[.int .i64 0, .int .i64 0, .int .i64 0, .int .i64 0, .int .i64 0, .string ⟨#[]⟩, .string ⟨#[]⟩, .int .i64 0, .int .i64 0, .int .i64 0, .bool false, .slice none 0 0, .slice none 0 0] rfl rfl 47 #[.int .i64 0, .int .i64 0, .int .i64 0, .int .i64 0, .int .i64 0, .string ⟨#[]⟩, .string ⟨#[]⟩, .int .i64 0, .int .i64 0, .int .i64 0, .bool false, .slice none 0 0, .slice none 0 0] HO.out.k1 Tryd.size47 rfl zero_one ?_)
              exact bodyPost_ret (results24_ _ _ w.heap.size #[.int .i64 0, .int .i64 0, .int .i64 0, .int .i64 0, .int .i64 0, .string ⟨#[]⟩, .string ⟨#[]⟩, .int .i64 0, .int .i64 0, .int .i64 0, .bool false, .slice none 0 0, .slice none 0 0] (0, 0) (.bool false) rfl rfl (setRow_at HO.out.k1) rfl) rfl (rev_no (by rw [HE.out]; rfl) rfl (Fr.setRow HO.out.fr (.inr (Nat.le_refl _)) _))
            · have HOC := Lib.hid (row_one [.int .i64 6, .int .i64 (Scr.nV x1), .int .i64 0, .int .i64 0, .int .i64 0, .string ⟨#[]⟩, .string ⟨#[]⟩, .int .i64 0, .int .i64 0, .int .i64 0, .bool false, .slice none 0 0, .slice sa2 sl2 sc2] (by intro v hv; simp only [List.mem_cons, List.not_mem_nil, or_false] at hv; rcases hv with rfl | rfl | rfl | rfl | rfl | rfl | rfl | rfl | rfl | rfl | rfl | rfl | rfl <;> rfl))
              go_wp2_with (first | (refine wpList_load_row rfl 47 (.tmp 8) rfl wm.heap.size rfl 47 #[.int .i64 6, .int .i64 (Scr.nV x1), .int .i64 0, .int .i64 0, .int .i64 0, .string ⟨#[]⟩, .string ⟨#[]⟩, .int .i64 0, .int .i64 0, .int .i64 0, .bool false, .slice none 0 0, .slice sa2 sl2 sc2] (0, 0) _ HO.out.k2 Tryd.underlying47 rfl Tryd.size47 ?_) | (refine wpList_store_row rfl 47 (.tmp 2) (.tmp 110) rfl w.heap.size #[.int .i64 6, .int .i64 (Scr.nV x1), .int .i64 0, .int .i64 0, .int .i64 0, .string ⟨#[]⟩, .string ⟨#[]⟩, .int .i64 0, .int .i64 0, .int .i64 0, .bool false, .slice none 0 0, .slice sa2 sl2 sc2] rfl rfl 47 #[.int .i64 0, .int .i64 0, .int .i64 0, .int .i64 0, .int .i64 0, .string ⟨#[]⟩, .string ⟨#[]⟩, .int .i64 0, .int .i64 0, .int .i64 0, .bool false, .slice none 0 0, .slice none 0 0] HO.out.k1 Tryd.size47 rfl HOC.out ?_))
              exact bodyPost_ret (results24_ _ _ w.heap.size #[.int .i64 6, .int .i64 (Scr.nV x1), .int .i64 0, .int .i64 0, .int .i64 0, .string ⟨#[]⟩, .string ⟨#[]⟩, .int .i64 0, .int .i64 0, .int .i64 0, .bool false, .slice none 0 0, .slice sa2 sl2 sc2] (0, 0) (.bool true) rfl rfl (setRow_at HO.out.k1) rfl) rfl (rev_yes (x := { Scr.Ev.zero with kind := 6, node := Scr.nV x1, b := Scr.bV x2 }) (by rw [HE.out]; rfl) rfl ⟨_, _, rfl, OpV.zero _, SlAt.fr HS2.out (Fr.setRow (S := (· = w.heap.size)) (Fr.refl _) (.inl rfl) _) (fun a l c h e => by have := HN2.out a l c h; have := FW.size; omega), (i64_lit 6 (by decide)), nV_in _, (i64_lit 0 (by decide)), (i64_lit 0 (by decide)), HL2.out⟩ (fun a l c hm => by simp at hm; have := HN2.out a l c (by simp [hm]); have := FW.size; omega) (Fr.setRow HO.out.fr (.inr (Nat.le_refl _)) _))
        · have HN := Lib.hid (Scr.event1_len (r := rest) HK.out (show rest.length + 1 ≠ Scr.many 6 from hl))
          have qn : ((rest.length : Int) + 1 != 3) = true := by rw [bne_iff_ne]; omega
          have qm : (((rest.length + 1 : Nat) : Int) != 3) = true := by rw [bne_iff_ne]; omega
          clear hl
          go_wp2_with (refine wpList_store_row rfl 47 (.tmp 2) (.tmp 37) rfl w.heap.size #[.int .i64 0, .int .i64 0, .int .i64 0, .int .i64 0, .int .i64 0, .string ⟨#[]⟩, .string ⟨#[]⟩, .int .i64 0, .int .i64 0, .int .i64 0, .bool false, .slice none 0 0, .slice none 0 0] rfl rfl 47 #[.int .i64 0, .int .i64 0, .int .i64 0, .int .i64 0, .int .i64 0, .string ⟨#[]⟩, .string ⟨#[]⟩, .int .i64 0, .int .i64 0, .int .i64 0, .bool false, .slice none 0 0, .slice none 0 0] HKM1.out Tryd.size47 rfl zero_one ?_)
          exact bodyPost_ret (results24_ _ _ w.heap.size #[.int .i64 0, .int .i64 0, .int .i64 0, .int .i64 0, .int .i64 0, .string ⟨#[]⟩, .string ⟨#[]⟩, .int .i64 0, .int .i64 0, .int .i64 0, .bool false, .slice none 0 0, .slice none 0 0] (0, 0) (.bool false) rfl rfl (setRow_at HKM1.out) rfl) rfl (rev_no HN.out rfl (Fr.setRow FW (.inr (Nat.le_refl _)) _))
      · have cm : wm.cell? ⟨B3, 7, none⟩ = some (.int .i64 2) := by rw [cell_at HKM3.out]; rfl
        by_cases hl : rest.length + 1 = 2
        · match rest, hl with
          | [x1], _ =>
            have d1 : (wm.alloc (.cells #[.int .i64 7, .int .i64 0, .int .i64 0, .int .i64 0, .int .i64 0, .string ⟨#[]⟩, .string ⟨#[]⟩, .int .i64 0, .int .i64 0, .int .i64 0, .bool false, .slice none 0 0, .slice none 0 0] 47)).cell? ⟨b, off + 1, none⟩ = some (.string x1) := (FM.alloc _).cell_of (HCELL.out 1 _ rfl) id
            simp only [List.length_cons, List.length_nil] at HC
            go_wp2_with fail
            clear cm d1
            have O : Own3 w (wm.alloc (.cells #[.int .i64 7, .int .i64 0, .int .i64 0, .int .i64 0, .int .i64 0, .string ⟨#[]⟩, .string ⟨#[]⟩, .int .i64 0, .int .i64 0, .int .i64 0, .bool false, .slice none 0 0, .slice none 0 0] 47)) w.heap.size #[.int .i64 0, .int .i64 0, .int .i64 0, .int .i64 0, .int .i64 0, .string ⟨#[]⟩, .string ⟨#[]⟩, .int .i64 0, .int .i64 0, .int .i64 0, .bool false, .slice none 0 0, .slice none 0 0] 47 wm.heap.size #[.int .i64 7, .int .i64 0, .int .i64 0, .int .i64 0, .int .i64 0, .string ⟨#[]⟩, .string ⟨#[]⟩, .int .i64 0, .int .i64 0, .int .i64 0, .bool false, .slice none 0 0, .slice none 0 0] 47 B3 #[.int .i64 0, .int .i64 10, .int .i64 3, .int .i64 3, .int .i64 3, .int .i64 2, .int .i64 3, .int .i64 2, .int .i64 2, .int .i64 2, .int .i64 3] 3 := by
              have hB := FW.size
              refine ⟨FW.alloc _, (Fr.refl (S := No) wm).alloc _ |>.block_of HKM1.out id, new_at _ _, (Fr.refl (S := No) wm).alloc _ |>.block_of HKM3.out id, Nat.le_refl _, hB, by omega, by have := FM.size; omega, by omega, by omega⟩
            have LB : wm.heap.size < (wm.alloc (.cells #[.int .i64 7, .int .i64 0, .int .i64 0, .int .i64 0, .int .i64 0, .string ⟨#[]⟩, .string ⟨#[]⟩, .int .i64 0, .int .i64 0, .int .i64 0, .bool false, .slice none 0 0, .slice none 0 0] 47)).heap.size := by simp
            have FB : Fr No w1 (wm.alloc (.cells #[.int .i64 7, .int .i64 0, .int .i64 0, .int .i64 0, .int .i64 0, .string ⟨#[]⟩, .string ⟨#[]⟩, .int .i64 0, .int .i64 0, .int .i64 0, .bool false, .slice none 0 0, .slice none 0 0] 47)) := FM.alloc _
            refine (number_ x1 _ (Nat.le_trans h8 O.fr.size) (HWX.out x1 (by simp))).mono ?_
            rintro e v1 ⟨rfl, g1⟩
            replace O := O.no g1
            replace LB := Nat.lt_of_lt_of_le LB g1.size
            replace FB := FB.trans (T := No) g1 (fun _ _ e => e)
            clear g1
            have m12 := O.n12
            obtain ⟨c1, z1⟩ := O.cell2 1
            simp only [List.getElem?_toArray, List.getElem?_cons_zero, List.getElem?_cons_succ] at c1
            have nb2 : b ≠ wm.heap.size := by have := FM.size; omega
            have O' := O.set2 1 (.int .i64 (Scr.nV x1))
            have HE := Lib.hid (Scr.event1_node HK.out (by omega) x1)
            clear O
            have O := O'
            clear O'
            simp only [List.setIfInBounds_toArray, List.set_cons_zero, List.set_cons_succ] at O
            have HO := Lib.hid O
            clear O
            obtain ⟨q1, hq1⟩ : ∃ q, Scr.nOk x1 = q := ⟨_, rfl⟩
            rw [hq1] at HE ⊢
            clear hq1
            cases q1
            · go_wp2_with (refine wpList_store_row rfl 47 (.tmp 2) (.tmp 109) rfl w.heap.size #[.int .i64 0, .int .i64 0, .int .i64 0, .int .i64 0, .int .i64 0, .string ⟨#[]⟩, .string ⟨#[]⟩, .int .i64 0, .int .i64 0, .int .i64 0, .bool false, .slice none 0 0, .slice none 0 0] rfl rfl 47 #[.int .i64 0, .int .i64 0, .int .i64 0, .int .i64 0, .int .i64 0, .string ⟨#[]⟩, .string ⟨#[]⟩, .int .i64 0, .int .i64 0, .int .i64 0, .bool false, .slice none 0 0, .slice none 0 0] HO.out.k1 Tryd.size47 rfl zero_one ?_)
              exact bodyPost_ret (results24_ _ _ w.heap.size #[.int .i64 0, .int .i64 0, .int .i64 0, .int .i64 0, .int .i64 0, .string ⟨#[]⟩, .string ⟨#[]⟩, .int .i64 0, .int .i64 0, .int .i64 0, .bool false, .slice none 0 0, .slice none 0 0] (0, 0) (.bool false) rfl rfl (setRow_at HO.out.k1) rfl) rfl (rev_no (by rw [HE.out]; rfl) rfl (Fr.setRow HO.out.fr (.inr (Nat.le_refl _)) _))
            · have HOC := Lib.hid (row_one [.int .i64 7, .int .i64 (Scr.nV x1), .int .i64 0, .int .i64 0, .int .i64 0, .string ⟨#[]⟩, .string ⟨#[]⟩, .int .i64 0, .int .i64 0, .int .i64 0, .bool false, .slice none 0 0, .slice none 0 0] (by intro v hv; simp only [List.mem_cons, List.not_mem_nil, or_false] at hv; rcases hv with rfl | rfl | rfl | rfl | rfl | rfl | rfl | rfl | rfl | rfl | rfl | rfl | rfl <;> rfl))
              go_wp2_with (first | (refine wpList_load_row rfl 47 (.tmp 8) rfl wm.heap.size rfl 47 #[.int .i64 7, .int .i64 (Scr.nV x1), .int .i64 0, .int .i64 0, .int .i64 0, .string ⟨#[]⟩, .string ⟨#[]⟩, .int .i64 0, .int .i64 0, .int .i64 0, .bool false, .slice none 0 0, .slice none 0 0] (0, 0) _ HO.out.k2 Tryd.underlying47 rfl Tryd.size47 ?_) | (refine wpList_store_row rfl 47 (.tmp 2) (.tmp 110) rfl w.heap.size #[.int .i64 7, .int .i64 (Scr.nV x1), .int .i64 0, .int .i64 0, .int .i64 0, .string ⟨#[]⟩, .string ⟨#[]⟩, .int .i64 0, .int .i64 0, .int .i64 0, .bool false, .slice none 0 0, .slice none 0 0] rfl rfl 47 #[.int .i64 0, .int .i64 0, .int .i64 0, .int .i64 0, .int .i64 0, .string ⟨#[]⟩, .string ⟨#[]⟩, .int .i64 0, .int .i64 0, .int .i64 0, .bool false, .slice none 0 0, .slice none 0 0] HO.out.k1 Tryd.size47 rfl HOC.out ?_))
              exact bodyPost_ret (results24_ _ _ w.heap.size #[.int .i64 7, .int .i64 (Scr.nV x1), .int .i64 0, .int .i64 0, .int .i64 0, .string ⟨#[]⟩, .string ⟨#[]⟩, .int .i64 0, .int .i64 0, .int .i64 0, .bool false, .slice none 0 0, .slice none 0 0] (0, 0) (.bool true) rfl rfl (setRow_at HO.out.k1) rfl) rfl (rev_yes (x := { Scr.Ev.zero with kind := ((7 : Nat) : Int), node := Scr.nV x1 }) (by rw [HE.out]; rfl) rfl ⟨_, _, rfl, OpV.zero _, .inl ⟨rfl, _, _, rfl⟩, (i64_lit 7 (by decide)), nV_in _, (i64_lit 0 (by decide)), (i64_lit 0 (by decide)), by simp [Scr.Ev.zero]⟩ (fun a l c hm => by simp at hm) (Fr.setRow HO.out.fr (.inr (Nat.le_refl _)) _))
        · have HN := Lib.hid (Scr.event1_len (r := rest) HK.out (show rest.length + 1 ≠ Scr.many 7 from hl))
          have qn : ((rest.length : Int) + 1 != 2) = true := by rw [bne_iff_ne]; omega
          have qm : (((rest.length + 1 : Nat) : Int) != 2) = true := by rw [bne_iff_ne]; omega
          clear hl
          go_wp2_with (refine wpList_store_row rfl 47 (.tmp 2) (.tmp 37) rfl w.heap.size #[.int .i64 0, .int .i64 0, .int .i64 0, .int .i64 0, .int .i64 0, .string ⟨#[]⟩, .string ⟨#[]⟩, .int .i64 0, .int .i64 0, .int .i64 0, .bool false, .slice none 0 0, .slice none 0 0] rfl rfl 47 #[.int .i64 0, .int .i64 0, .int .i64 0, .int .i64 0, .int .i64 0, .string ⟨#[]⟩, .string ⟨#[]⟩, .int .i64 0, .int .i64 0, .int .i64 0, .bool false, .slice none 0 0, .slice none 0 0] HKM1.out Tryd.size47 rfl zero_one ?_)
          exact bodyPost_ret (results24_ _ _ w.heap.size #[.int .i64 0, .int .i64 0, .int .i64 0, .int .i64 0, .int .i64 0, .string ⟨#[]⟩, .string ⟨#[]⟩, .int .i64 0, .int .i64 0, .int .i64 0, .bool false, .slice none 0 0, .slice none 0 0] (0, 0) (.bool false) rfl rfl (setRow_at HKM1.out) rfl) rfl (rev_no HN.out rfl (Fr.setRow FW (.inr (Nat.le_refl _)) _))
      · have cm : wm.cell? ⟨B3, 8, none⟩ = some (.int .i64 2) := by rw [cell_at HKM3.out]; rfl
        by_cases hl : rest.length + 1 = 2
        · match rest, hl with
          | [x1], _ =>
            have d1 : (wm.alloc (.cells #[.int .i64 8, .int .i64 0, .int .i64 0, .int .i64 0, .int .i64 0, .string ⟨#[]⟩, .string ⟨#[]⟩, .int .i64 0, .int .i64 0, .int .i64 0, .bool false, .slice none 0 0, .slice none 0 0] 47)).cell? ⟨b, off + 1, none⟩ = some (.string x1) := (FM.alloc _).cell_of (HCELL.out 1 _ rfl) id
            simp only [List.length_cons, List.length_nil] at HC
            go_wp2_with fail
            clear cm d1
            have O : Own3 w (wm.alloc (.cells #[.int .i64 8, .int .i64 0, .int .i64 0, .int .i64 0, .int .i64 0, .string ⟨#[]⟩, .string ⟨#[]⟩, .int .i64 0, .int .i64 0, .int .i64 0, .bool false, .slice none 0 0, .slice none 0 0] 47)) w.heap.size #[.int .i64 0, .int .i64 0, .int .i64 0, .int .i64 0, .int .i64 0, .string ⟨#[]⟩, .string ⟨#[]⟩, .int .i64 0, .int .i64 0, .int .i64 0, .bool false, .slice none 0 0, .slice none 0 0] 47 wm.heap.size #[.int .i64 8, .int .i64 0, .int .i64 0, .int .i64 0, .int .i64 0, .string ⟨#[]⟩, .string ⟨#[]⟩, .int .i64 0, .int .i64 0, .int .i64 0, .bool false, .slice none 0 0, .slice none 0 0] 47 B3 #[.int .i64 0, .int .i64 10, .int .i64 3, .int .i64 3, .int .i64 3, .int .i64 2, .int .i64 3, .int .i64 2, .int .i64 2, .int .i64 2, .int .i64 3] 3 := by
              have hB := FW.size
              refine ⟨FW.alloc _, (Fr.refl (S := No) wm).alloc _ |>.block_of HKM1.out id, new_at _ _, (Fr.refl (S := No) wm).alloc _ |>.block_of HKM3.out id, Nat.le_refl _, hB, by omega, by have := FM.size; omega, by omega, by omega⟩
            have LB : wm.heap.size < (wm.alloc (.cells #[.int .i64 8, .int .i64 0, .int .i64 0, .int .i64 0, .int .i64 0, .string ⟨#[]⟩, .string ⟨#[]⟩, .int .i64 0, .int .i64 0, .int .i64 0, .bool false, .slice none 0 0, .slice none 0 0] 47)).heap.size := by simp
            have FB : Fr No w1 (wm.alloc (.cells #[.int .i64 8, .int .i64 0, .int .i64 0, .int .i64 0, .int .i64 0, .string ⟨#[]⟩, .string ⟨#[]⟩, .int .i64 0, .int .i64 0, .int .i64 0, .bool false, .slice none 0 0, .slice none 0 0] 47)) := FM.alloc _
            refine (number_ x1 _ (Nat.le_trans h8 O.fr.size) (HWX.out x1 (by simp))).mono ?_
            rintro e v1 ⟨rfl, g1⟩
            replace O := O.no g1
            replace LB := Nat.lt_of_lt_of_le LB g1.size
            replace FB := FB.trans (T := No) g1 (fun _ _ e => e)
            clear g1
            have m12 := O.n12
            obtain ⟨c1, z1⟩ := O.cell2 1
            simp only [List.getElem?_toArray, List.getElem?_cons_zero, List.getElem?_cons_succ] at c1
            have nb2 : b ≠ wm.heap.size := by have := FM.size; omega
            have O' := O.set2 1 (.int .i64 (Scr.nV x1))
            have HE := Lib.hid (Scr.event1_node HK.out (by omega) x1)
            clear O
            have O := O'
            clear O'
            simp only [List.setIfInBounds_toArray, List.set_cons_zero, List.set_cons_succ] at O
            have HO := Lib.hid O
            clear O
            obtain ⟨q1, hq1⟩ : ∃ q, Scr.nOk x1 = q := ⟨_, rfl⟩
            rw [hq1] at HE ⊢
            clear hq1
            cases q1
            · go_wp2_with (refine wpList_store_row rfl 47 (.tmp 2) (.tmp 109) rfl w.heap.size #[.int .i64 0, .int .i64 0, .int .i64 0, .int .i64 0, .int .i64 0, .string ⟨#[]⟩, .string ⟨#[]⟩, .int .i64 0, .int .i64 0, .int .i64 0, .bool false, .slice none 0 0, .slice none 0 0] rfl rfl 47 #[.int .i64 0, .int .i64 0, .int .i64 0, .int .i64 0, .int .i64 0, .string ⟨#[]⟩, .string ⟨#[]⟩, .int .i64 0, .int .i64 0, .int .i64 0, .bool false, .slice none 0 0, .slice none 0 0] HO.out.k1 Tryd.size47 rfl zero_one ?_)
              exact bodyPost_ret (results24_ _ _ w.heap.size #[.int .i64 0, .int .i64 0, .int .i64 0, .int .i64 0, .int .i64 0, .string ⟨#[]⟩, .string ⟨#[]⟩, .int .i64 0, .int .i64 0, .int .i64 0, .bool false, .slice none 0 0, .slice none 0 0] (0, 0) (.bool false) rfl rfl (setRow_at HO.out.k1) rfl) rfl (rev_no (by rw [HE.out]; rfl) rfl (Fr.setRow HO.out.fr (.inr (Nat.le_refl _)) _))
            · have HOC := Lib.hid (row_one [.int .i64 8, .int .i64 (Scr.nV x1), .int .i64 0, .int .i64 0, .int .i64 0, .string ⟨#[]⟩, .string ⟨#[]⟩, .int .i64 0, .int .i64 0, .int .i64 0, .bool false, .slice none 0 0, .slice none 0 0] (by intro v hv; simp only [List.mem_cons, List.not_mem_nil, or_false] at hv; rcases hv with rfl | rfl | rfl | rfl | rfl | rfl | rfl | rfl | rfl | rfl | rfl | rfl | rfl <;> rfl))
              go_wp2_with (first | (refine wpList_load_row rfl 47 (.tmp 8) rfl wm.heap.size rfl 47 #[.int .i64 8, .int .i64 (Scr.nV x1), .int .i64 0, .int .i64 0, .int .i64 0, .string ⟨#[]⟩, .string ⟨#[]⟩, .int .i64 0, .int .i64 0, .int .i64 0, .bool false, .slice none 0 0, .slice none 0 0] (0, 0) _ HO.out.k2 Tryd.underlying47 rfl Tryd.size47 ?_) | (refine wpList_store_row rfl 47 (.tmp 2) (.tmp 110) rfl w.heap.size #[.int .i64 8, .int .i64 (Scr.nV x1), .int .i64 0, .int .i64 0, .int .i64 0, .string ⟨#[]⟩, .string ⟨#[]⟩, .int .i64 0, .int .i64 0, .int .i64 0, .bool false, .slice none 0 0, .slice none 0 0] rfl rfl 47 #[.int .i64 0, .int .i64 0, .int .i64 0, .int .i64 0, .int .i64 0, .string ⟨#[]⟩, .string ⟨#[]⟩, .int .i64 0, .int .i64 0, .int .i64 0, .bool false, .slice none 0 0, .slice none 0 0] HO.out.k1 Tryd.size47 rfl HOC.out ?_))
              exact bodyPost_ret (results24_ _ _ w.heap.size #[.int .i64 8, .int .i64 (Scr.nV x1), .int .i64 0, .int .i64 0, .int .i64 0, .string ⟨#[]⟩, .string ⟨#[]⟩, .int .i64 0, .int .i64 0, .int .i64 0, .bool false, .slice none 0 0, .slice none 0 0] (0, 0) (.bool true) rfl rfl (setRow_at HO.out.k1) rfl) rfl (rev_yes (x := { Scr.Ev.zero with kind := ((8 : Nat) : Int), node := Scr.nV x1 }) (by rw [HE.out]; rfl) rfl ⟨_, _, rfl, OpV.zero _, .inl ⟨rfl, _, _, rfl⟩, (i64_lit 8 (by decide)), nV_in _, (i64_lit 0 (by decide)), (i64_lit 0 (by decide)), by simp [Scr.Ev.zero]⟩ (fun a l c hm => by simp at hm) (Fr.setRow HO.out.fr (.inr (Nat.le_refl _)) _))
        · have HN := Lib.hid (Scr.event1_len (r := rest) HK.out (show rest.length + 1 ≠ Scr.many 8 from hl))
          have qn : ((rest.length : Int) + 1 != 2) = true := by rw [bne_iff_ne]; omega
          have qm : (((rest.length + 1 : Nat) : Int) != 2) = true := by rw [bne_iff_ne]; omega
          clear hl
          go_wp2_with (refine wpList_store_row rfl 47 (.tmp 2) (.tmp 37) rfl w.heap.size #[.int .i64 0, .int .i64 0, .int .i64 0, .int .i64 0, .int .i64 0, .string ⟨#[]⟩, .string ⟨#[]⟩, .int .i64 0, .int .i64 0, .int .i64 0, .bool false, .slice none 0 0, .slice none 0 0] rfl rfl 47 #[.int .i64 0, .int .i64 0, .int .i64 0, .int .i64 0, .int .i64 0, .string ⟨#[]⟩, .string ⟨#[]⟩, .int .i64 0, .int .i64 0, .int .i64 0, .bool false, .slice none 0 0, .slice none 0 0] HKM1.out Tryd.size47 rfl zero_one ?_)
          exact bodyPost_ret (results24_ _ _ w.heap.size #[.int .i64 0, .int .i64 0, .int .i64 0, .int .i64 0, .int .i64 0, .string ⟨#[]⟩, .string ⟨#[]⟩, .int .i64 0, .int .i64 0, .int .i64 0, .bool false, .slice none 0 0, .slice none 0 0] (0, 0) (.bool false) rfl rfl (setRow_at HKM1.out) rfl) rfl (rev_no HN.out rfl (Fr.setRow FW (.inr (Nat.le_refl _)) _))
      · have cm : wm.cell? ⟨B3, 9, none⟩ = some (.int .i64 2) := by rw [cell_at HKM3.out]; rfl
        by_cases hl : rest.length + 1 = 2
        · match rest, hl with
          | [x1], _ =>
            have d1 : (wm.alloc (.cells #[.int .i64 9, .int .i64 0, .int .i64 0, .int .i64 0, .int .i64 0, .string ⟨#[]⟩, .string ⟨#[]⟩, .int .i64 0, .int .i64 0, .int .i64 0, .bool false, .slice none 0 0, .slice none 0 0] 47)).cell? ⟨b, off + 1, none⟩ = some (.string x1) := (FM.alloc _).cell_of (HCELL.out 1 _ rfl) id
            simp only [List.length_cons, List.length_nil] at HC
            go_wp2_with fail
            clear cm d1
            have O : Own3 w (wm.alloc (.cells #[.int .i64 9, .int .i64 0, .int .i64 0, .int .i64 0, .int .i64 0, .string ⟨#[]⟩, .string ⟨#[]⟩, .int .i64 0, .int .i64 0, .int .i64 0, .bool false, .slice none 0 0, .slice none 0 0] 47)) w.heap.size #[.int .i64 0, .int .i64 0, .int .i64 0, .int .i64 0, .int .i64 0, .string ⟨#[]⟩, .string ⟨#[]⟩, .int .i64 0, .int .i64 0, .int .i64 0, .bool false, .slice none 0 0, .slice none 0 0] 47 wm.heap.size #[.int .i64 9, .int .i64 0, .int .i64 0, .int .i64 0, .int .i64 0, .string ⟨#[]⟩, .string ⟨#[]⟩, .int .i64 0, .int .i64 0, .int .i64 0, .bool false, .slice none 0 0, .slice none 0 0] 47 B3 #[.int .i64 0, .int .i64 10, .int .i64 3, .int .i64 3, .int .i64 3, .int .i64 2, .int .i64 3, .int .i64 2, .int .i64 2, .int .i64 2, .int .i64 3] 3 := by
              have hB := FW.size
              refine ⟨FW.alloc _, (Fr.refl (S := No) wm).alloc _ |>.block_of HKM1.out id, new_at _ _, (Fr.refl (S := No) wm).alloc _ |>.block_of HKM3.out id, Nat.le_refl _, hB, by omega, by have := FM.size; omega, by omega, by omega⟩
            have LB : wm.heap.size < (wm.alloc (.cells #[.int .i64 9, .int .i64 0, .int .i64 0, .int .i64 0, .int .i64 0, .string ⟨#[]⟩, .string ⟨#[]⟩, .int .i64 0, .int .i64 0, .int .i64 0, .bool false, .slice none 0 0, .slice none 0 0] 47)).heap.size := by simp
            have FB : Fr No w1 (wm.alloc (.cells #[.int .i64 9, .int .i64 0, .int .i64 0, .int .i64 0, .int .i64 0, .string ⟨#[]⟩, .string ⟨#[]⟩, .int .i64 0, .int .i64 0, .int .i64 0, .bool false, .slice none 0 0, .slice none 0 0] 47)) := FM.alloc _
            refine (number_ x1 _ (Nat.le_trans h8 O.fr.size) (HWX.out x1 (by simp))).mono ?_
            rintro e v1 ⟨rfl, g1⟩
            replace O := O.no g1
            replace LB := Nat.lt_of_lt_of_le LB g1.size
            replace FB := FB.trans (T := No) g1 (fun _ _ e => e)
            clear g1
            have m12 := O.n12
            obtain ⟨c1, z1⟩ := O.cell2 1
            simp only [List.getElem?_toArray, List.getElem?_cons_zero, List.getElem?_cons_succ] at c1
            have nb2 : b ≠ wm.heap.size := by have := FM.size; omega
            have O' := O.set2 1 (.int .i64 (Scr.nV x1))
            have HE := Lib.hid (Scr.event1_node HK.out (by omega) x1)
            clear O
            have O := O'
            clear O'
            simp only [List.setIfInBounds_toArray, List.set_cons_zero, List.set_cons_succ] at O
            have HO := Lib.hid O
            clear O
            obtain ⟨q1, hq1⟩ : ∃ q, Scr.nOk x1 = q := ⟨_, rfl⟩
            rw [hq1] at HE ⊢
            clear hq1
            cases q1
            · go_wp2_with (refine wpList_store_row rfl 47 (.tmp 2) (.tmp 109) rfl w.heap.size #[.int .i64 0, .int .i64 0, .int .i64 0, .int .i64 0, .int .i64 0, .string ⟨#[]⟩, .string ⟨#[]⟩, .int .i64 0, .int .i64 0, .int .i64 0, .bool false, .slice none 0 0, .slice none 0 0] rfl rfl 47 #[.int .i64 0, .int .i64 0, .int .i64 0, .int .i64 0, .int .i64 0, .string ⟨#[]⟩, .string ⟨#[]⟩, .int .i64 0, .int .i64 0, .int .i64 0, .bool false, .slice none 0 0, .slice none 0 0] HO.out.k1 Tryd.size47 rfl zero_one ?_)
              exact bodyPost_ret (results24_ _ _ w.heap.size #[.int .i64 0, .int .i64 0, .int .i64 0, .int .i64 0, .int .i64 0, .string ⟨#[]⟩, .string ⟨#[]⟩, .int .i64 0, .int .i64 0, .int .i64 0, .bool false, .slice none 0 0, .slice none 0 0] (0, 0) (.bool false) rfl rfl (setRow_at HO.out.k1) rfl) rfl (rev_no (by rw [HE.out]; rfl) rfl (Fr.setRow HO.out.fr (.inr (Nat.le_refl _)) _))
            · have HOC := Lib.hid (row_one [.int .i64 9, .int .i64 (Scr.nV x1), .int .i64 0, .int .i64 0, .int .i64 0, .string ⟨#[]⟩, .string ⟨#[]⟩, .int .i64 0, .int .i64 0, .int .i64 0, .bool false, .slice none 0 0, .slice none 0 0] (by intro v hv; simp only [List.mem_cons, List.not_mem_nil, or_false] at hv; rcases hv with rfl | rfl | rfl | rfl | rfl | rfl | rfl | rfl | rfl | rfl | rfl | rfl | rfl <;> rfl))
              go_wp2_with (first | (refine wpList_load_row rfl 47 (.tmp 8) rfl wm.heap.size rfl 47 #[.int .i64 9, .int .i64 (Scr.nV x1), .int .i64 0, .int .i64 0, .int .i64 0, .string ⟨#[]⟩, .string ⟨#[]⟩, .int .i64 0, .int .i64 0, .int .i64 0, .bool false, .slice none 0 0, .slice none 0 0] (0, 0) _ HO.out.k2 Tryd.underlying47 rfl Tryd.size47 ?_) | (refine wpList_store_row rfl 47 (.tmp 2) (.tmp 110) rfl w.heap.size #[.int .i64 9, .int .i64 (Scr.nV x1), .int .i64 0, .int .i64 0, .int .i64 0, .string ⟨#[]⟩, .string ⟨#[]⟩, .int .i64 0, .int .i64 0, .int .i64 0, .bool false, .slice none 0 0, .slice none 0 0] rfl rfl 47 #[.int .i64 0, .int .i64 0, .int .i64 0, .int .i64 0, .int .i64 0, .string ⟨#[]⟩, .string ⟨#[]⟩, .int .i64 0, .int .i64 0, .int .i64 0, .bool false, .slice none 0 0, .slice none 0 0] HO.out.k1 Tryd.size47 rfl HOC.out ?_))
              exact bodyPost_ret (results24_ _ _ w.heap.size #[.int .i64 9, .int .i64 (Scr.nV x1), .int .i64 0, .int .i64 0, .int .i64 0, .string ⟨#[]⟩, .string ⟨#[]⟩, .int .i64 0, .int .i64 0, .int .i64 0, .bool false, .slice none 0 0, .slice none 0 0] (0, 0) (.bool true) rfl rfl (setRow_at HO.out.k1) rfl) rfl (rev_yes (x := { Scr.Ev.zero with kind := ((9 : Nat) : Int), node := Scr.nV x1 }) (by rw [HE.out]; rfl) rfl ⟨_, _, rfl, OpV.zero _, .inl ⟨rfl, _, _, rfl⟩, (i64_lit 9 (by decide)), nV_in _, (i64_lit 0 (by decide)), (i64_lit 0 (by decide)), by simp [Scr.Ev.zero]⟩ (fun a l c hm => by simp at hm) (Fr.setRow HO.out.fr (.inr (Nat.le_refl _)) _))
        · have HN := Lib.hid (Scr.event1_len (r := rest) HK.out (show rest.length + 1 ≠ Scr.many 9 from hl))
          have qn : ((rest.length : Int) + 1 != 2) = true := by rw [bne_iff_ne]; omega
          have qm : (((rest.length + 1 : Nat) : Int) != 2) = true := by rw [bne_iff_ne]; omega
          clear hl
          go_wp2_with (refine wpList_store_row rfl 47 (.tmp 2) (.tmp 37) rfl w.heap.size #[.int .i64 0, .int .i64 0, .int .i64 0, .int .i64 0, .int .i64 0, .string ⟨#[]⟩, .string ⟨#[]⟩, .int .i64 0, .int .i64 0, .int .i64 0, .bool false, .slice none 0 0, .slice none 0 0] rfl rfl 47 #[.int .i64 0, .int .i64 0, .int .i64 0, .int .i64 0, .int .i64 0, .string ⟨#[]⟩, .string ⟨#[]⟩, .int .i64 0, .int .i64 0, .int .i64 0, .bool false, .slice none 0 0, .slice none 0 0] HKM1.out Tryd.size47 rfl zero_one ?_)
          exact bodyPost_ret (results24_ _ _ w.heap.size #[.int .i64 0, .int .i64 0, .int .i64 0, .int .i64 0, .int .i64 0, .string ⟨#[]⟩, .string ⟨#[]⟩, .int .i64 0, .int .i64 0, .int .i64 0, .bool false, .slice none 0 0, .slice none 0 0] (0, 0) (.bool false) rfl rfl (setRow_at HKM1.out) rfl) rfl (rev_no HN.out rfl (Fr.setRow FW (.inr (Nat.le_refl _)) _))
      · have cm : wm.cell? ⟨B3, 10, none⟩ = some (.int .i64 3) := by rw [cell_at HKM3.out]; rfl
        by_cases hl : rest.length + 1 = 3
        · match rest, hl with
          | [x1, x2], _ =>
            have d1 : (wm.alloc (.cells #[.int .i64 10, .int .i64 0, .int .i64 0, .int .i64 0, .int .i64 0, .string ⟨#[]⟩, .string ⟨#[]⟩, .int .i64 0, .int .i64 0, .int .i64 0, .bool false, .slice none 0 0, .slice none 0 0] 47)).cell? ⟨b, off + 1, none⟩ = some (.string x1) := (FM.alloc _).cell_of (HCELL.out 1 _ rfl) id
            simp only [List.length_cons, List.length_nil] at HC
            go_wp2_with fail
            clear cm d1
            have O : Own3 w (wm.alloc (.cells #[.int .i64 10, .int .i64 0, .int .i64 0, .int .i64 0, .int .i64 0, .string ⟨#[]⟩, .string ⟨#[]⟩, .int .i64 0, .int .i64 0, .int .i64 0, .bool false, .slice none 0 0, .slice none 0 0] 47)) w.heap.size #[.int .i64 0, .int .i64 0, .int .i64 0, .int .i64 0, .int .i64 0, .string ⟨#[]⟩, .string ⟨#[]⟩, .int .i64 0, .int .i64 0, .int .i64 0, .bool false, .slice none 0 0, .slice none 0 0] 47 wm.heap.size #[.int .i64 10, .int .i64 0, .int .i64 0, .int .i64 0, .int .i64 0, .string ⟨#[]⟩, .string ⟨#[]⟩, .int .i64 0, .int .i64 0, .int .i64 0, .bool false, .slice none 0 0, .slice none 0 0] 47 B3 #[.int .i64 0, .int .i64 10, .int .i64 3, .int .i64 3, .int .i64 3, .int .i64 2, .int .i64 3, .int .i64 2, .int .i64 2, .int .i64 2, .int .i64 3] 3 := by
              have hB := FW.size
              refine ⟨FW.alloc _, (Fr.refl (S := No) wm).alloc _ |>.block_of HKM1.out id, new_at _ _, (Fr.refl (S := No) wm).alloc _ |>.block_of HKM3.out id, Nat.le_refl _, hB, by omega, by have := FM.size; omega, by omega, by omega⟩
            have LB : wm.heap.size < (wm.alloc (.cells #[.int .i64 10, .int .i64 0, .int .i64 0, .int .i64 0, .int .i64 0, .string ⟨#[]⟩, .string ⟨#[]⟩, .int .i64 0, .int .i64 0, .int .i64 0, .bool false, .slice none 0 0, .slice none 0 0] 47)).heap.size := by simp
            have FB : Fr No w1 (wm.alloc (.cells #[.int .i64 10, .int .i64 0, .int .i64 0, .int .i64 0, .int .i64 0, .string ⟨#[]⟩, .string ⟨#[]⟩, .int .i64 0, .int .i64 0, .int .i64 0, .bool false, .slice none 0 0, .slice none 0 0] 47)) := FM.alloc _
            refine (number_ x1 _ (Nat.le_trans h8 O.fr.size) (HWX.out x1 (by simp))).mono ?_
            rintro e v1 ⟨rfl, g1⟩
            replace O := O.no g1
            replace LB := Nat.lt_of_lt_of_le LB g1.size
            replace FB := FB.trans (T := No) g1 (fun _ _ e => e)
            clear g1
            have m12 := O.n12
            obtain ⟨c1, z1⟩ := O.cell2 1
            simp only [List.getElem?_toArray, List.getElem?_cons_zero, List.getElem?_cons_succ] at c1
            have d2 := FB.cell (p := ⟨b, off + 2, none⟩) hb id
            rw [HCELL.out 2 (.string x2) rfl] at d2
            have nb2 : b ≠ wm.heap.size := by have := FM.size; omega
            go_wp2_with fail
            replace O := O.set2 1 (.int .i64 (Scr.nV x1))
            replace LB : wm.heap.size < (v1.setCell ⟨wm.heap.size, 1, none⟩ (.int .i64 (Scr.nV x1))).heap.size := by simpa [World.setCell] using LB
            replace FB : Fr No w1 (v1.setCell ⟨wm.heap.size, 1, none⟩ (.int .i64 (Scr.nV x1))) := Fr.setCell (p := ⟨wm.heap.size, 1, none⟩) FB (.inr FM.size) _
            clear c1 z1 d2
            refine (number_ x2 _ (Nat.le_trans h8 O.fr.size) (HWX.out x2 (by simp))).mono ?_
            rintro e v2 ⟨rfl, g2⟩
            replace O := O.no g2
            obtain ⟨c3, z3⟩ := O.cell2 3
            simp only [List.getElem?_toArray, List.getElem?_cons_zero, List.getElem?_cons_succ, List.setIfInBounds_toArray, List.set_cons_zero, List.set_cons_succ] at c3
            have O' := O.set2 3 (.int .i64 (Scr.nV x2))
            clear O
            have O := O'
            clear O'
            have HE := Lib.hid (Scr.event1_fuse HK.out x1 x2)
            simp only [List.setIfInBounds_toArray, List.set_cons_zero, List.set_cons_succ] at O
            have HO := Lib.hid O
            clear O
            obtain ⟨q1, hq1⟩ : ∃ q, Scr.nOk x1 = q := ⟨_, rfl⟩
            obtain ⟨q2, hq2⟩ : ∃ q, Scr.nOk x2 = q := ⟨_, rfl⟩
            rw [hq1, hq2] at HE
            rw [hq1, hq2]
            clear hq1 hq2
            cases q1
            · go_wp2_with (refine wpList_store_row rfl 47 (.tmp 2) (.tmp 109) rfl w.heap.size #[.int .i64 0, .int .i64 0, .int .i64 0, .int .i64 0, .int .i64 0, .string ⟨#[]⟩, .string ⟨#[]⟩, .int .i64 0, .int .i64 0, .int .i64 0, .bool false, .slice none 0 0, .slice none 0 0] rfl rfl 47 #[.int .i64 0, .int .i64 0, .int .i64 0, .int .i64 0, .int .i64 0, .string ⟨#[]⟩, .string ⟨#[]⟩, .int .i64 0, .int .i64 0, .int .i64 0, .bool false, .slice none 0 0, .slice none 0 0] HO.out.k1 Tryd.size47 rfl zero_one ?_)
              exact bodyPost_ret (results24_ _ _ w.heap.size #[.int .i64 0, .int .i64 0, .int .i64 0, .int .i64 0, .int .i64 0, .string ⟨#[]⟩, .string ⟨#[]⟩, .int .i64 0, .int .i64 0, .int .i64 0, .bool false, .slice none 0 0, .slice none 0 0] (0, 0) (.bool false) rfl rfl (setRow_at HO.out.k1) rfl) rfl (rev_no (by rw [HE.out]; rfl) rfl (Fr.setRow HO.out.fr (.inr (Nat.le_refl _)) _))
            cases q2
            · go_wp2_with (refine wpList_store_row rfl 47 (.tmp 2) (.tmp 109) rfl w.heap.size #[.int .i64 0, .int .i64 0, .int .i64 0, .int .i64 0, .int .i64 0, .string ⟨#[]⟩, .string ⟨#[]⟩, .int .i64 0, .int .i64 0, .int .i64 0, .bool false, .slice none 0 0, .slice none 0 0] rfl rfl 47 #[.int .i64 0, .int .i64 0, .int .i64 0, .int .i64 0, .int .i64 0, .string ⟨#[]⟩, .string ⟨#[]⟩, .int .i64 0, .int .i64 0, .int .i64 0, .bool false, .slice none 0 0, .slice none 0 0] HO.out.k1 Tryd.size47 rfl zero_one ?_)
              exact bodyPost_ret (results24_ _ _ w.heap.size #[.int .i64 0, .int .i64 0, .int .i64 0, .int .i64 0, .int .i64 0, .string ⟨#[]⟩, .string ⟨#[]⟩, .int .i64 0, .int .i64 0, .int .i64 0, .bool false, .slice none 0 0, .slice none 0 0] (0, 0) (.bool false) rfl rfl (setRow_at HO.out.k1) rfl) rfl (rev_no (by rw [HE.out]; rfl) rfl (Fr.setRow HO.out.fr (.inr (Nat.le_refl _)) _))
            · have HOC := Lib.hid (row_one [.int .i64 10, .int .i64 (Scr.nV x1), .int .i64 0, .int .i64 (Scr.nV x2), .int .i64 0, .string ⟨#[]⟩, .string ⟨#[]⟩, .int .i64 0, .int .i64 0, .int .i64 0, .bool false, .slice none 0 0, .slice none 0 0] (by intro v hv; simp only [List.mem_cons, List.not_mem_nil, or_false] at hv; rcases hv with rfl | rfl | rfl | rfl | rfl | rfl | rfl | rfl | rfl | rfl | rfl | rfl | rfl <;> rfl))
              go_wp2_with (first | (refine wpList_load_row rfl 47 (.tmp 8) rfl wm.heap.size rfl 47 #[.int .i64 10, .int .i64 (Scr.nV x1), .int .i64 0, .int .i64 (Scr.nV x2), .int .i64 0, .string ⟨#[]⟩, .string ⟨#[]⟩, .int .i64 0, .int .i64 0, .int .i64 0, .bool false, .slice none 0 0, .slice none 0 0] (0, 0) _ HO.out.k2 Tryd.underlying47 rfl Tryd.size47 ?_) | (refine wpList_store_row rfl 47 (.tmp 2) (.tmp 110) rfl w.heap.size #[.int .i64 10, .int .i64 (Scr.nV x1), .int .i64 0, .int .i64 (Scr.nV x2), .int .i64 0, .string ⟨#[]⟩, .string ⟨#[]⟩, .int .i64 0, .int .i64 0, .int .i64 0, .bool false, .slice none 0 0, .slice none 0 0] rfl rfl 47 #[.int .i64 0, .int .i64 0, .int .i64 0, .int .i64 0, .int .i64 0, .string ⟨#[]⟩, .string ⟨#[]⟩, .int .i64 0, .int .i64 0, .int .i64 0, .bool false, .slice none 0 0, .slice none 0 0] HO.out.k1 Tryd.size47 rfl HOC.out ?_))
              exact bodyPost_ret (results24_ _ _ w.heap.size #[.int .i64 10, .int .i64 (Scr.nV x1), .int .i64 0, .int .i64 (Scr.nV x2), .int .i64 0, .string ⟨#[]⟩, .string ⟨#[]⟩, .int .i64 0, .int .i64 0, .int .i64 0, .bool false, .slice none 0 0, .slice none 0 0] (0, 0) (.bool true) rfl rfl (setRow_at HO.out.k1) rfl) rfl (rev_yes (x := { Scr.Ev.zero with kind := 10, node := Scr.nV x1, n := Scr.nV x2 }) (by rw [HE.out]; rfl) rfl ⟨_, _, rfl, OpV.zero _, .inl ⟨rfl, _, _, rfl⟩, (i64_lit 10 (by decide)), nV_in _, (i64_lit 0 (by decide)), nV_in _, by simp [Scr.Ev.zero]⟩ (fun a l c hm => by simp at hm) (Fr.setRow HO.out.fr (.inr (Nat.le_refl _)) _))
        · have HN := Lib.hid (Scr.event1_len (r := rest) HK.out (show rest.length + 1 ≠ Scr.many 10 from hl))
          have qn : ((rest.length : Int) + 1 != 3) = true := by rw [bne_iff_ne]; omega
          have qm : (((rest.length + 1 : Nat) : Int) != 3) = true := by rw [bne_iff_ne]; omega
          clear hl
          go_wp2_with (refine wpList_store_row rfl 47 (.tmp 2) (.tmp 37) rfl w.heap.size #[.int .i64 0, .int .i64 0, .int .i64 0, .int .i64 0, .int .i64 0, .string ⟨#[]⟩, .string ⟨#[]⟩, .int .i64 0, .int .i64 0, .int .i64 0, .bool false, .slice none 0 0, .slice none 0 0] rfl rfl 47 #[.int .i64 0, .int .i64 0, .int .i64 0, .int .i64 0, .int .i64 0, .string ⟨#[]⟩, .string ⟨#[]⟩, .int .i64 0, .int .i64 0, .int .i64 0, .bool false, .slice none 0 0, .slice none 0 0] HKM1.out Tryd.size47 rfl zero_one ?_)
          exact bodyPost_ret (results24_ _ _ w.heap.size #[.int .i64 0, .int .i64 0, .int .i64 0, .int .i64 0, .int .i64 0, .string ⟨#[]⟩, .string ⟨#[]⟩, .int .i64 0, .int .i64 0, .int .i64 0, .bool false, .slice none 0 0, .slice none 0 0] (0, 0) (.bool false) rfl rfl (setRow_at HKM1.out) rfl) rfl (rev_no HN.out rfl (Fr.setRow FW (.inr (Nat.le_refl _)) _))
end Go.Proofs.YtkcgijidgppeiaaDoor
