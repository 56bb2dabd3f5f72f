/- Parse, walked. -/
import Derived.Test.YtkcgijidgppeiaaDoorP9
namespace Go.Proofs.YtkcgijidgppeiaaDoor
open Go.RowKit

def zero24 : Array Value := #[.int .i64 0, .int .i64 0, .int .i64 0, .int .i64 0, .int .i64 0]

/-- the world behind the split into lines. -/
theorem parse_world (w : World) (text : ByteArray) (w1 : World)
    (e1 : w1 = (w.alloc (.cells zero24 24)).alloc (.cells ((Lib.splitB ⟨#[10]⟩ 0 (Lib.countB text ⟨#[10]⟩) text).map Value.string).toArray 9)) :
    Fr No w w1 ∧ w1.heap.size = w.heap.size + 1 + 1 ∧ w1.heap[w.heap.size]? = some (.cells zero24 24 (0, 0)) ∧ (∀ (j : Nat) (x : ByteArray), (Scr.parts Scr.newline text)[j]? = some x → w1.cell? ⟨w.heap.size + 1, j, none⟩ = some (.string x)) := by
  have k9 : w1.heap[w.heap.size + 1]? = some (.cells ((Lib.splitB ⟨#[10]⟩ 0 (Lib.countB text ⟨#[10]⟩) text).map Value.string).toArray 9 (0, 0)) := by
    rw [e1]
    have := heap_alloc_new (w.alloc (.cells zero24 24)) (.cells ((Lib.splitB ⟨#[10]⟩ 0 (Lib.countB text ⟨#[10]⟩) text).map Value.string).toArray 9)
    simpa using this
  refine ⟨e1 ▸ ((Fr.refl (S := No) w).alloc _).alloc _, by rw [e1]; simp, ?_, ?_⟩
  · rw [e1]
    exact (((Fr.refl (S := No) (w.alloc (.cells zero24 24))).alloc _).block_of (heap_alloc_new w _) id)
  · intro j x hj
    have hj' : (Lib.splitB ⟨#[10]⟩ 0 (Lib.countB text ⟨#[10]⟩) text)[j]? = some x := hj
    rw [cell_at k9]
    simp [hj']


/-- what the lines share, between two lines. -/
structure Sh0 (w : World) (base bc bl : Nat) (c : Scr.Cfg) (evs : List Scr.Ev) (lv : Value) : Prop where
  gl : Glob w
  kc : w.heap[bc]? = some (.cells #[.int .i64 c.servers, .int .i64 c.clients, .int .i64 c.sectors, .int .i64 c.journal, .int .i64 c.tries] 24 (0, 0))
  kl : w.heap[bl]? = some (.cells #[lv] 25 (0, 0))
  ev : Evs w base lv evs
  h8 : 8 ≤ bc ∧ 8 ≤ bl
  hb : base ≤ w.heap.size
  bb : bc < base ∧ bl < base
  i64 : I64 c.servers ∧ I64 c.clients ∧ I64 c.sectors ∧ I64 c.journal ∧ I64 c.tries

theorem Sh.to0 {w : World} {base bi bc bl : Nat} {i : Int} {c : Scr.Cfg} {evs : List Scr.Ev} {lv : Value} (h : Sh w base bi bc bl i c evs lv) : Sh0 w base bc bl c evs lv :=
  ⟨h.gl, h.kc, h.kl, h.ev, ⟨h.h8.2.1, h.h8.2.2⟩, h.hb, h.bb, h.i64⟩
theorem Sh0.with {w w' : World} {base bi bc bl : Nat} {i : Int} {c : Scr.Cfg} {evs : List Scr.Ev} {lv : Value} (h : Sh0 w base bc bl c evs lv) (f : Fr No w w') (hi : w'.heap[bi]? = some (.cells #[.int .i64 i] 3 (0, 0))) (h8 : 8 ≤ bi) : Sh w' base bi bc bl i c evs lv :=
  ⟨h.gl.no f, hi, f.block_of h.kc id, f.block_of h.kl id, h.ev.fr f (fun _ _ _ _ e => e) (fun _ _ e => e), ⟨h8, h.h8.1, h.h8.2⟩, Nat.le_trans h.hb f.size, h.bb, h.i64⟩
theorem Sh0.own {w : World} {base bc bl : Nat} {c : Scr.Cfg} {evs : List Scr.Ev} {lv : Value} (h : Sh0 w base bc bl c evs lv) : ∀ k, lv.ownBlock = some k → base ≤ k := fun k hk => by
  obtain ⟨_, ho, _⟩ := h.ev
  exact (ho.lt k hk).1

/-- what Parse hands back. -/
def ParsePost (w : World) (text : ByteArray) (e : Ending) (w' : World) : Prop :=
  ∃ c evs n err lv, Scr.parse text = (c, evs, n, err) ∧ e = .returned (.tuple #[.agg #[.int .i64 c.servers, .int .i64 c.clients, .int .i64 c.sectors, .int .i64 c.journal, .int .i64 c.tries], lv, .int .i64 n, .int .i64 err]) ∧
    (I64 c.servers ∧ I64 c.clients ∧ I64 c.sectors ∧ I64 c.journal ∧ I64 c.tries) ∧ Evs w' w.heap.size lv evs ∧ Fr No w w' ∧ Glob w'

theorem parse_failed {w w' : World} {text : ByteArray} {n err : Int} (hp : Scr.parse text = (Scr.Cfg.zero, [], n, err)) (hg : Glob w) (f : Fr No w w') :
    ParsePost w text (.returned (.tuple #[.agg zero24, .slice none 0 0, .int .i64 n, .int .i64 err])) w' :=
  ⟨_, _, _, _, .slice none 0 0, hp, rfl, (by simp [Scr.Cfg.zero, I64]), ⟨[], ⟨rfl, .inl ⟨rfl, rfl⟩⟩, rfl, (by simp), (by simp)⟩, f, hg.no f⟩

theorem results7_ (tmps : Array Value) (w : World) (g : Nat) (cs : Array Value) (fr : Nat × Nat) (v3 v4 v5 : Value) (hp : tmps.getD 2 undef = .pointer (some ⟨g, 0, none⟩)) (h3 : tmps.getD 3 undef = v3) (h4 : tmps.getD 4 undef = v4) (h5 : tmps.getD 5 undef = v5)
    (hg : w.heap[g]? = some (.cells cs 24 fr)) (hc : cs.size = 5) : (results Tryd.f7 tmps).run Tryd.prog w = .ok (.tuple #[.agg cs, v3, v4, v5]) w := by
  have hl := run_loadVar_row (P := Tryd.prog) w g 24 24 cs fr _ hg Tryd.underlying24 rfl (by rw [Tryd.size24, hc])
  have h2' : tmps[2]?.getD undef = .pointer (some ⟨g, 0, none⟩) := by simpa using hp
  have h3' : tmps[3]?.getD undef = v3 := by simpa using h3
  have h4' : tmps[4]?.getD undef = v4 := by simpa using h4
  have h5' : tmps[5]?.getD undef = v5 := by simpa using h5
  simp [results, Tryd.results7, asAddr, h2', h3', h4', h5', hl]

theorem row5 {w : World} {b : Nat} {t : TypeId} (a0 a1 a2 a3 a4 v0 v1 v2 v3 v4 : Value) (h : w.heap[b]? = some (.cells #[a0, a1, a2, a3, a4] t (0, 0))) :
    (((((w.setCell ⟨b, 0, none⟩ v0).setCell ⟨b, 1, none⟩ v1).setCell ⟨b, 2, none⟩ v2).setCell ⟨b, 3, none⟩ v3).setCell ⟨b, 4, none⟩ v4).heap[b]? = some (.cells #[v0, v1, v2, v3, v4] t (0, 0)) := by
  have := setCell_at (setCell_at (setCell_at (setCell_at (setCell_at h 0 v0) 1 v1) 2 v2) 3 v3) 4 v4
  simpa using this
theorem row5_fr {S : Nat → Prop} {w0 w : World} {b : Nat} (v0 v1 v2 v3 v4 : Value) (f : Fr S w0 w) (hb : S b ∨ w0.heap.size ≤ b) :
    Fr S w0 (((((w.setCell ⟨b, 0, none⟩ v0).setCell ⟨b, 1, none⟩ v1).setCell ⟨b, 2, none⟩ v2).setCell ⟨b, 3, none⟩ v3).setCell ⟨b, 4, none⟩ v4) :=
  ((((f.setCell hb v0).setCell hb v1).setCell hb v2).setCell hb v3).setCell hb v4

theorem lines_at (text : ByteArray) (j : Nat) (hj : j < Lib.countB text Scr.newline) :
    ∃ s, (Scr.parts Scr.newline text)[j]? = some s ∧ (Scr.lines text).drop j = s :: (Scr.lines text).drop (j + 1) ∧ s.size ≤ text.size := by
  have hpl := parts_length Scr.newline text (by decide)
  have h1 : j < (Scr.parts Scr.newline text).length := by omega
  refine ⟨(Scr.parts Scr.newline text)[j], List.getElem?_eq_getElem h1, ?_, splitB_size _ _ _ _ (List.getElem_mem h1)⟩
  have h2 : j < (Scr.lines text).length := by unfold Scr.lines; rw [List.length_take]; omega
  rw [List.drop_eq_getElem_cons h2]
  congr 1
  exact List.getElem_take
theorem lines_length (text : ByteArray) : (Scr.lines text).length = Lib.countB text Scr.newline := by
  unfold Scr.lines
  rw [List.length_take, parts_length Scr.newline text (by decide)]
  omega

theorem readLine_len {i : Int} {c c' : Scr.Cfg} {evs evs' : List Scr.Ev} {s : ByteArray} (h : Scr.readLine i c evs s = some (c', evs')) : evs'.length ≤ evs.length + 1 := by
  unfold Scr.readLine at h
  split at h
  · split at h
    · cases h; omega
    · cases h
  · split at h
    · cases h; simp
    · cases h

/-- a line that is not so. -/
theorem parse_bad {w w5 : World} {text s : ByteArray} {j : Nat} {c : Scr.Cfg} {evs : List Scr.Ev} (hg : Glob w) (hl : Scr.long text = false)
    (hr : Scr.readAll j c evs ((Scr.lines text).drop j) = Scr.readAll 0 Scr.Cfg.zero [] (Scr.lines text)) (hd : (Scr.lines text).drop j = s :: (Scr.lines text).drop (j + 1)) (hn : Scr.readLine j c evs s = none) (f : Fr No w w5) :
    ParsePost w text (.returned (.tuple #[.agg zero24, .slice none 0 0, .int .i64 ((j : Int) + 1), .int .i64 18])) w5 := by
  refine parse_failed ?_ hg f
  unfold Scr.parse
  rw [if_neg (by rw [hl]; simp), ← hr, hd, Scr.readAll, hn]
  rfl

/-- the end of a text that is read to its end. -/
theorem parse_end {text : ByteArray} {c : Scr.Cfg} {evs : List Scr.Ev} (hl : Scr.long text = false)
    (hr : Scr.readAll (Lib.countB text Scr.newline) c evs ((Scr.lines text).drop (Lib.countB text Scr.newline)) = Scr.readAll 0 Scr.Cfg.zero [] (Scr.lines text)) :
    Scr.parse text = if Lib.countB text Scr.newline = 0 ∨ (Scr.last text).toList.isEmpty = false then (Scr.Cfg.zero, [], (Lib.countB text Scr.newline : Int) + 1, 18) else (c, evs, 0, 0) := by
  rw [List.drop_of_length_le (by rw [lines_length]; exact Nat.le_refl _), Scr.readAll] at hr
  unfold Scr.parse
  rw [if_neg (by rw [hl]; simp), ← hr]

theorem Evs.base {w : World} {b b' : Nat} {v : Value} {evs : List Scr.Ev} (h : Evs w b v evs) (hb : b' ≤ b) : Evs w b' v evs := by
  obtain ⟨vss, ⟨hl, ho⟩, r⟩ := h
  refine ⟨vss, ⟨hl, ?_⟩, r⟩
  rcases ho with ho | ⟨g, cap, cur, rfl, hg, rest⟩
  · exact .inl ho
  · exact .inr ⟨g, cap, cur, rfl, Nat.le_trans hb hg, rest⟩

/-- the end of a text that is so. -/
theorem parse_good {w wr w5 : World} {text : ByteArray} {c : Scr.Cfg} {evs : List Scr.Ev} {lv : Value} {b1 bc bl : Nat} (hp : Scr.parse text = (c, evs, 0, 0)) (hS : Sh0 wr b1 bc bl c evs lv) (hb : w.heap.size < b1)
    (hk : wr.heap[w.heap.size]? = some (.cells zero24 24 (0, 0))) (hg : Glob w) (f0 : Fr No w wr) (f : Fr (· = w.heap.size) wr w5) :
    ParsePost w text (.returned (.tuple #[.agg #[.int .i64 c.servers, .int .i64 c.clients, .int .i64 c.sectors, .int .i64 c.journal, .int .i64 c.tries], lv, .int .i64 0, .int .i64 0])) w5 := by
  have f1 : Fr No w w5 := f0.trans f (fun j hj e => by omega)
  refine ⟨c, evs, 0, 0, lv, hp, rfl, hS.i64, ?_, f1, hg.no f1⟩
  refine (hS.ev.fr f ?_ ?_).base (Nat.le_of_lt hb)
  · intro k cur fz h e
    rw [e, hk] at h
    simp at h
  · intro k h e
    have := hS.own k h
    omega

/-- where the lines begin. -/
theorem parse_start (w1 : World) (base : Nat) (hb : w1.heap.size = base) (hg : Glob w1) (w2 : World) (e2 : w2 = (w1.alloc (.cells zero24 24)).alloc (.cells #[.slice none 0 0] 25)) :
    Sh0 w2 (base + 1 + 1) base (base + 1) Scr.Cfg.zero [] (.slice none 0 0) ∧ Fr No w1 w2 := by
  subst hb
  have f : Fr No w1 w2 := e2 ▸ ((Fr.refl (S := No) w1).alloc _).alloc _
  refine ⟨⟨hg.no f, ?_, ?_, ⟨[], ⟨rfl, .inl ⟨rfl, rfl⟩⟩, rfl, (by simp), (by simp)⟩, ⟨hg.size, Nat.le_succ_of_le hg.size⟩, (by rw [e2]; simp), (by omega), (by simp [Scr.Cfg.zero, I64])⟩, f⟩
  · rw [e2]
    exact ((Fr.refl (S := No) (w1.alloc (.cells zero24 24))).alloc _).block_of (heap_alloc_new w1 _) id
  · rw [e2]
    have := heap_alloc_new (w1.alloc (.cells zero24 24)) (.cells #[.slice none 0 0] 25)
    simpa using this

set_option maxRecDepth 100000 in
set_option maxHeartbeats 800000 in
theorem parse_ (text : ByteArray) (w : World) (hg : Glob w) (hs : text.size < 4294967281) :
    Calls Tryd.prog 7 #[.string text] w (ParsePost w text) := by
  have hmf : ∀ (fn : Fn) (first cap : Array Value) (w : World), (Instr.makeFunc fn first cap).run Tryd.prog w = .ok (.func fn first cap) w := fun _ _ _ _ => rfl
  have HG := Lib.hid hg
  clear hg
  have hpl := parts_length Scr.newline text (by decide)
  have hple := parts_le Scr.newline text (by decide)
  obtain ⟨last, hlast⟩ : ∃ x, (Scr.parts Scr.newline text)[Lib.countB text ⟨#[10]⟩]? = some x := by
    have : Lib.countB text ⟨#[10]⟩ < (Scr.parts Scr.newline text).length := by rw [hpl]; exact Nat.lt_succ_self _
    exact ⟨_, List.getElem?_eq_getElem this⟩
  have hcb : Lib.countB text ⟨#[10]⟩ ≤ text.size := by have e : Lib.countB text Scr.newline = Lib.countB text ⟨#[10]⟩ := rfl; omega
  go_enter Tryd.func7, Tryd.ntmps7
  go_wp2_with fail
  refine (Tryd.strings_Split _ _ (HG.out.maxLen.choose) _ (by omega) (((Fr.refl (S := No) w).alloc _).cell_of HG.out.maxLen.choose_spec id) (by decide)).mono ?_
  rintro e w1 ⟨rfl, hw1⟩
  obtain ⟨f1, hs1, kR, hcell⟩ := parse_world w text w1 hw1
  clear hw1
  have hlong : Scr.long text = (decide (65536 < (text.size : Int)) || decide (2048 < (Lib.countB text ⟨#[10]⟩ : Int)) || (((Lib.countB text ⟨#[10]⟩ : Int) == 2048) && !last.toList.isEmpty)) := by
    have : Scr.last text = last := by unfold Scr.last; rw [show Lib.countB text Scr.newline = Lib.countB text ⟨#[10]⟩ from rfl, hlast]; rfl
    unfold Scr.long; rw [this]; rfl
  have HLONG := Lib.hid hlong
  have HLAST : Hid (Scr.last text = last) := Lib.hid (by unfold Scr.last; rw [show Lib.countB text Scr.newline = Lib.countB text ⟨#[10]⟩ from rfl, hlast]; rfl)
  clear hlong
  generalize hn : Lib.countB text ⟨#[10]⟩ = n at *
  have cl := hcell _ _ hlast
  have in1 : ((n : Int) + 1 - 1) = n := by omega
  have iw : IntKind.i64.wrap ((n : Int) + 1 - 1) = n := by rw [in1]; rw [IntKind.wrap_i64]; omega
  have cR : ∀ j, w1.cell? ⟨w.heap.size, j, none⟩ = zero24[j]? := fun j => cell_at kR j
  have zR0 := frozen_at kR 0
  have zR1 := frozen_at kR 1
  have zR2 := frozen_at kR 2
  have zR3 := frozen_at kR 3
  have zR4 := frozen_at kR 4
  have cR0 := cR 0
  have cR1 := cR 1
  have cR2 := cR 2
  have cR3 := cR 3
  have cR4 := cR 4
  simp [zero24] at cR0 cR1 cR2 cR3 cR4
  obtain ⟨t1, h1⟩ : ∃ t, decide (65536 < (text.size : Int)) = t := ⟨_, rfl⟩
  obtain ⟨t2, h2⟩ : ∃ t, decide (2048 < (n : Int)) = t := ⟨_, rfl⟩
  obtain ⟨t3, h3⟩ : ∃ t, ((n : Int) == 2048) = t := ⟨_, rfl⟩
  obtain ⟨t4, h4⟩ : ∃ t, last.toList.isEmpty = t := ⟨_, rfl⟩
  have H1 := Lib.hid h1
  have H2 := Lib.hid h2
  have H3 := Lib.hid h3
  have H4 := Lib.hid h4
  have HLT : Hid ((t1 = true → Scr.long text = true) ∧ (t2 = true → Scr.long text = true) ∧ (t3 = true → (!t4) = true → Scr.long text = true)) := Lib.hid (by
    have e := HLONG.out
    rw [h1, h2, h3, h4] at e
    rw [e]
    refine ⟨?_, ?_, ?_⟩ <;> (cases t1 <;> cases t2 <;> cases t3 <;> cases t4 <;> simp))
  have HLF : Hid (¬ t1 = true → ¬ t2 = true → (t3 = true → (!t4) = false) → Scr.long text = false) := Lib.hid (by
    have e := HLONG.out
    rw [h1, h2, h3, h4] at e
    rw [e]
    cases t1 <;> cases t2 <;> cases t3 <;> cases t4 <;> simp)
  have HCELL := Lib.hid hcell
  clear hcell cR
  go_wp2_with fail
  iterate 3
    refine bodyPost_ret (results7_ _ _ w.heap.size zero24 (0, 0) (.slice none 0 0) (.int .i64 0) (.int .i64 3) rfl rfl rfl rfl (row5 _ _ _ _ _ _ _ _ _ _ kR) rfl) rfl
      (parse_failed (by unfold Scr.parse; rw [if_pos (by first | exact HLT.out.1 (by assumption) | exact HLT.out.2.1 (by assumption) | exact HLT.out.2.2 (by assumption) (by assumption))]) HG.out (row5_fr _ _ _ _ _ f1 (.inr (Nat.le_refl _))))
  all_goals
    have hlf : Scr.long text = false := HLF.out (by assumption) (by assumption) (by first | (intro _; assumption) | (intro e; exact absurd e (by assumption)))
    have hts : text.size ≤ 65536 := by
      have : t1 = false := by simpa using (by assumption : ¬ t1 = true)
      have := H1.out.trans this
      simp at this
      omega
    have hn2 : n ≤ 2048 := by
      have : t2 = false := by simpa using (by assumption : ¬ t2 = true)
      have := H2.out.trans this
      simp at this
      omega
    have HLFALSE := Lib.hid hlf
    try (have h4t : t4 = true := by simpa using (by assumption : (!t4) = false)
         rw [h4t, Bool.not_true])
    obtain ⟨hS2, f2⟩ := parse_start w1 (w.heap.size + 1 + 1) hs1 (HG.out.no f1) _ rfl
    have ew2 : Hid (((w1.alloc (.cells zero24 24)).alloc (.cells #[.slice none 0 0] 25)).heap.size = w.heap.size + 1 + 1 + 1 + 1) := Lib.hid (by simp [hs1])
    clear hlf cR0 cR1 cR2 cR3 cR4 zR0 zR1 zR2 zR3 zR4 cl in1 iw h1 h2 h3 hlast
    go_loopw [46] (fun i wr => ∃ (j : Nat) (c : Scr.Cfg) (evs : List Scr.Ev) (lv : Value), i = .int .i64 j ∧ j ≤ n ∧ evs.length ≤ j ∧ Sh0 wr (w.heap.size + 1 + 1 + 1 + 1) (w.heap.size + 1 + 1) (w.heap.size + 1 + 1 + 1) c evs lv ∧
        Scr.readAll j c evs ((Scr.lines text).drop j) = Scr.readAll 0 Scr.Cfg.zero [] (Scr.lines text) ∧ Fr (fun k => k = w.heap.size + 1 + 1 ∨ k = w.heap.size + 1 + 1 + 1) ((w1.alloc (.cells zero24 24)).alloc (.cells #[.slice none 0 0] 25)) wr)
      (fun i _ => n - (intOf i).toNat)
    case atStart => exact ⟨0, _, _, _, rfl, Nat.zero_le _, Nat.le_refl _, hS2, rfl, Fr.refl _⟩
    case round =>
      obtain ⟨j, c, evs, lv, rfl, hjn, hej, hS, hread, fr⟩ := hrel
      have HR := Lib.hid hread
      clear hread hS2
      have kRr := (f2.of_no.trans fr (fun j hj e => by omega)).block_of kR (by omega)
      by_cases hlt : j < n
      · obtain ⟨s, hps, hdrop, hss⟩ := lines_at text j (by rw [show Lib.countB text Scr.newline = n from hn]; exact hlt)
        have cs : wr.cell? ⟨w.heap.size + 1, j, none⟩ = some (.string s) :=
          (f2.of_no.trans fr (fun j hj e => by omega)).cell_of (HCELL.out j s hps) (by simp)
        have HD := Lib.hid hdrop
        clear hdrop hps
        have qlt : (j : Int) < (n : Int) := by omega
        have nlow : 8 ≤ w.heap.size := HG.out.size
        have wsz := fr.size
        have FI : Fr No wr (wr.alloc (.cells #[.int .i64 j] 3)) := (Fr.refl wr).alloc _
        have SI := hS.with FI (heap_alloc_new wr _) (by have := ew2.out; omega)
        go_wp2_with fail
        refine (line_ _ _ _ _ _ c evs lv s _ SI (by omega) (by omega)).mono ?_
        rintro e w4 ⟨b, rfl, f4, hyes, hno⟩
        have nown : ∀ k, lv.ownBlock = some k → w.heap.size + 1 + 1 + 1 + 1 ≤ k ∧ k < wr.heap.size := fun k hk => by
          obtain ⟨_, ho, _⟩ := hS.ev
          exact ho.lt k hk
        have kR4 : w4.heap[w.heap.size]? = some (.cells zero24 24 (0, 0)) := f4.block_of (FI.block_of kRr id) (by
          rintro (e | e | e)
          · omega
          · omega
          · have := nown _ e; omega)
        have ki4 : w4.heap[wr.heap.size]? = some (.cells #[.int .i64 j] 3 (0, 0)) := f4.block_of (heap_alloc_new wr _) (by
          have := ew2.out
          rintro (e | e | e)
          · omega
          · omega
          · have := nown _ e; omega)
        have F4 : Fr (fun k => k = w.heap.size + 1 + 1 ∨ k = w.heap.size + 1 + 1 + 1) ((w1.alloc (.cells zero24 24)).alloc (.cells #[.slice none 0 0] 25)) w4 := by
          refine (fr.no_trans FI).trans f4 ?_
          have := ew2.out
          rintro k hk (e | e | e)
          · exact .inl e
          · exact .inr e
          · have := nown _ e; omega
        have qw : IntKind.i64.wrap ((j : Int) + 1) = (j : Int) + 1 := IntWalk.i64_in _ (by omega)
        clear kRr SI FI cs
        cases b with
        | true =>
          obtain ⟨c', evs', lv', hrl, S4⟩ := hyes rfl
          have HRL := Lib.hid hrl
          clear hrl hyes hno
          go_wp2_with fail
          go_roundw
          case rel => exact ⟨j + 1, c', evs', lv', by go_num, by omega, (by have := readLine_len HRL.out; omega), S4.to0, by
            rw [← HR.out, HD.out, Scr.readAll, HRL.out], F4⟩
          case measure => simp [intOf]; omega
        | false =>
          have hnone := Lib.hid (hno rfl)
          clear hyes hno
          have ci4 : w4.cell? ⟨wr.heap.size, 0, none⟩ = some (.int .i64 j) := by rw [cell_at ki4]; rfl
          have cR0 : w4.cell? ⟨w.heap.size, 0, none⟩ = some (.int .i64 0) := by rw [cell_at kR4]; rfl
          have cR1 : w4.cell? ⟨w.heap.size, 1, none⟩ = some (.int .i64 0) := by rw [cell_at kR4]; rfl
          have cR2 : w4.cell? ⟨w.heap.size, 2, none⟩ = some (.int .i64 0) := by rw [cell_at kR4]; rfl
          have cR3 : w4.cell? ⟨w.heap.size, 3, none⟩ = some (.int .i64 0) := by rw [cell_at kR4]; rfl
          have cR4 : w4.cell? ⟨w.heap.size, 4, none⟩ = some (.int .i64 0) := by rw [cell_at kR4]; rfl
          have zR0 := frozen_at kR4 0
          have zR1 := frozen_at kR4 1
          have zR2 := frozen_at kR4 2
          have zR3 := frozen_at kR4 3
          have zR4 := frozen_at kR4 4
          have bne : ¬ wr.heap.size = w.heap.size := by have := ew2.out; omega
          go_wp2_with fail
          go_region
          all_goals go_wp2_with fail
          have rowD := row5 _ _ _ _ _ (.int .i64 0) (.int .i64 0) (.int .i64 0) (.int .i64 0) (.int .i64 0) kR4
          have F5 : Fr No w w4 := (f1.trans f2 (fun _ _ e => e)).trans F4 (fun k hk e => by omega)
          have F6 := row5_fr (.int .i64 0) (.int .i64 0) (.int .i64 0) (.int .i64 0) (.int .i64 0) F5 (.inr (Nat.le_refl _))
          generalize ((((w4.setCell ⟨w.heap.size, 0, none⟩ (.int .i64 0)).setCell ⟨w.heap.size, 1, none⟩ (.int .i64 0)).setCell ⟨w.heap.size, 2, none⟩ (.int .i64 0)).setCell ⟨w.heap.size, 3, none⟩ (.int .i64 0)).setCell ⟨w.heap.size, 4, none⟩ (.int .i64 0) = w5 at *
          exact bodyPost_ret (results7_ _ w5.drew w.heap.size zero24 (0, 0) (.slice none 0 0) (.int .i64 ((j : Int) + 1)) (.int .i64 18) rfl rfl rfl rfl rowD rfl) rfl (parse_bad HG.out HLFALSE.out HR.out HD.out hnone.out F6.drew)
      · obtain rfl : j = n := by omega
        have hend : Hid (Scr.parse text = if j = 0 ∨ t4 = false then (Scr.Cfg.zero, [], (j : Int) + 1, 18) else (c, evs, 0, 0)) := Lib.hid (by
          have := parse_end HLFALSE.out (c := c) (evs := evs) (by rw [show Lib.countB text Scr.newline = j from hn]; exact HR.out)
          rw [show Lib.countB text Scr.newline = j from hn, HLAST.out, H4.out] at this
          exact this)
        have cR0 : wr.cell? ⟨w.heap.size, 0, none⟩ = some (.int .i64 0) := by rw [cell_at kRr]; rfl
        have cR1 : wr.cell? ⟨w.heap.size, 1, none⟩ = some (.int .i64 0) := by rw [cell_at kRr]; rfl
        have cR2 : wr.cell? ⟨w.heap.size, 2, none⟩ = some (.int .i64 0) := by rw [cell_at kRr]; rfl
        have cR3 : wr.cell? ⟨w.heap.size, 3, none⟩ = some (.int .i64 0) := by rw [cell_at kRr]; rfl
        have cR4 : wr.cell? ⟨w.heap.size, 4, none⟩ = some (.int .i64 0) := by rw [cell_at kRr]; rfl
        have zR0 := frozen_at kRr 0
        have zR1 := frozen_at kRr 1
        have zR2 := frozen_at kRr 2
        have zR3 := frozen_at kRr 3
        have zR4 := frozen_at kRr 4
        have qw : IntKind.i64.wrap ((j : Int) + 1) = (j : Int) + 1 := IntWalk.i64_in _ (by omega)
        have F5 : Fr No w wr := (f1.trans f2 (fun _ _ e => e)).trans fr (fun k hk e => by omega)
        obtain ⟨t5, h5⟩ : ∃ t, ((j : Int) == 0) = t := ⟨_, rfl⟩
        have H5 := Lib.hid h5
        have cc0 : wr.cell? ⟨w.heap.size + 1 + 1, 0, none⟩ = some (.int .i64 c.servers) := by rw [cell_at hS.kc]; rfl
        have cc1 : wr.cell? ⟨w.heap.size + 1 + 1, 1, none⟩ = some (.int .i64 c.clients) := by rw [cell_at hS.kc]; rfl
        have cc2 : wr.cell? ⟨w.heap.size + 1 + 1, 2, none⟩ = some (.int .i64 c.sectors) := by rw [cell_at hS.kc]; rfl
        have cc3 : wr.cell? ⟨w.heap.size + 1 + 1, 3, none⟩ = some (.int .i64 c.journal) := by rw [cell_at hS.kc]; rfl
        have cc4 : wr.cell? ⟨w.heap.size + 1 + 1, 4, none⟩ = some (.int .i64 c.tries) := by rw [cell_at hS.kc]; rfl
        have cl : wr.cell? ⟨w.heap.size + 1 + 1 + 1, 0, none⟩ = some lv := by rw [cell_at hS.kl]; rfl
        go_wp2_with fail
        all_goals first
          | (have rowD := row5 _ _ _ _ _ (.int .i64 0) (.int .i64 0) (.int .i64 0) (.int .i64 0) (.int .i64 0) kRr
             have F6 := row5_fr (.int .i64 0) (.int .i64 0) (.int .i64 0) (.int .i64 0) (.int .i64 0) F5 (.inr (Nat.le_refl _))
             generalize ((((wr.setCell ⟨w.heap.size, 0, none⟩ (.int .i64 0)).setCell ⟨w.heap.size, 1, none⟩ (.int .i64 0)).setCell ⟨w.heap.size, 2, none⟩ (.int .i64 0)).setCell ⟨w.heap.size, 3, none⟩ (.int .i64 0)).setCell ⟨w.heap.size, 4, none⟩ (.int .i64 0) = w5 at *
             exact bodyPost_ret (results7_ _ w5 w.heap.size zero24 (0, 0) (.slice none 0 0) (.int .i64 ((j : Int) + 1)) (.int .i64 18) rfl rfl rfl rfl rowD rfl) rfl
               (parse_failed (by
                 rw [hend.out, if_pos (by first | (left; have := H5.out.trans (by assumption : t5 = true); simpa using this) | (right; simpa using (by assumption : (!t4) = true)))]) HG.out F6))
          | (have hgood : Scr.parse text = (c, evs, 0, 0) := by
               rw [hend.out, if_neg]
               rintro (e | e)
               · have h1 : t5 = false := by simpa using (by assumption : ¬ t5 = true)
                 have := H5.out.trans h1
                 simp at this
                 omega
               · first | (rw [e] at h4t; cases h4t) | (have h2 : (!t4) = false := by assumption
                                                       rw [e] at h2; cases h2)
             have HGOOD := Lib.hid hgood
             clear hgood
             go_region
             all_goals go_wp2_with fail
             all_goals (
               have rowD := row5 _ _ _ _ _ (.int .i64 c.servers) (.int .i64 c.clients) (.int .i64 c.sectors) (.int .i64 c.journal) (.int .i64 c.tries) kRr
               have F6 := row5_fr (S := (· = w.heap.size)) (.int .i64 c.servers) (.int .i64 c.clients) (.int .i64 c.sectors) (.int .i64 c.journal) (.int .i64 c.tries) (Fr.refl wr) (.inl rfl)
               generalize ((((wr.setCell ⟨w.heap.size, 0, none⟩ (.int .i64 c.servers)).setCell ⟨w.heap.size, 1, none⟩ (.int .i64 c.clients)).setCell ⟨w.heap.size, 2, none⟩ (.int .i64 c.sectors)).setCell ⟨w.heap.size, 3, none⟩ (.int .i64 c.journal)).setCell ⟨w.heap.size, 4, none⟩ (.int .i64 c.tries) = w5 at *
               exact bodyPost_ret (results7_ _ w5.drew w.heap.size _ (0, 0) lv (.int .i64 0) (.int .i64 0) rfl rfl rfl rfl rowD rfl) rfl
                 (parse_good HGOOD.out hS (by omega) kRr HG.out F5 F6.drew)))
end Go.Proofs.YtkcgijidgppeiaaDoor
