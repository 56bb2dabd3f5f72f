/- The statement ScriptPrints, walked. -/
import Derived.Test.YtkcgijidgppeiaaDoorR17
import Derived.Test.YtkcgijidgppeiaaDoorP16
import Derived.Test.YtkcgijidgppeiaaDoorR10
import Derived.Test.YtkcgijidgppeiaaDoorR13
namespace Go.Proofs.YtkcgijidgppeiaaDoor
open Go.RowKit

theorem SlAt.no' {w w' : World} {v : Value} {bs : List UInt8} (h : SlAt w v bs) (f : Fr No w w') : SlAt w' v bs := h.fr f (fun _ _ _ _ e => e)
theorem ArgEvs.no {w w' : World} {v : Value} {evs : List Scr.Ev} (h : ArgEvs w v evs) (f : Fr No w w') : ArgEvs w' v evs := by
  obtain ⟨a, c, rfl, hc, hm, h⟩ := h
  refine ⟨a, c, rfl, hc, hm, ?_⟩
  rcases h with h | ⟨b, off, rfl, hb, hx⟩
  · exact .inl h
  · refine .inr ⟨b, off, rfl, Nat.lt_of_lt_of_le hb f.size, fun j x hj => ?_⟩
    obtain ⟨oa, ol, oc, va, vl, vc, ⟨h1, h2, r⟩, hr⟩ := hx j x hj
    exact ⟨oa, ol, oc, va, vl, vc, ⟨h1.no' f, h2.no' f, r⟩, fun i u hi => f.cell_of (hr i u hi) id⟩
theorem EvsAt.ok {w : World} {v : Value} {evs : List Scr.Ev} (h : EvsAt w v evs) : ∀ x ∈ evs, x.Ok := by
  intro x hx
  obtain ⟨a, c, rfl, hc, h⟩ := h
  obtain ⟨j, hj, rfl⟩ := List.getElem_of_mem hx
  rcases h with h | ⟨b, off, rfl, hb, h⟩
  · subst h; simp at hj
  · obtain ⟨oa, ol, oc, va, vl, vc, ⟨ovs, vb, _, ⟨ob, _, _, i1, i2, i3, i4, _⟩, _, i5, i6, i7, i8, _⟩, _⟩ := h j evs[j] (List.getElem?_eq_getElem hj)
    exact ⟨i6, i7, i8, i1, i2, i3, i4⟩
theorem print_small {c : Scr.Cfg} {evs : List Scr.Ev} (h : (Scr.print c evs).2 = 0) : (Scr.print c evs).1.size ≤ 65536 := by
  unfold Scr.print at h ⊢
  split at h
  · simp at h
  · rename_i h1
    split at h
    · simp at h
    · rename_i h2
      rw [if_neg h1, if_neg h2]
      split at h
      · rename_i s hs
        exact (Scr.printFrom_some _ _ _ hs).2
      · simp at h
theorem print_kinds {c : Scr.Cfg} {evs : List Scr.Ev} (h : (Scr.print c evs).2 = 0) : ∀ x ∈ evs, 1 ≤ x.kind ∧ x.kind ≤ 10 := by
  unfold Scr.print at h
  split at h
  · simp at h
  · rename_i h1
    intro x hx
    refine name_kind ?_
    have := List.any_eq_false.1 (by simpa using h1 : evs.any (fun x => (Scr.name x.kind).isEmpty) = false) x hx
    simpa using this

set_option maxRecDepth 100000 in
set_option maxHeartbeats 3200000 in
/-- the statement ScriptPrints, walked. -/
theorem prints_ (c : Scr.Cfg) (evs : List Scr.Ev) (v : Value) (w : World) (hg : Glob w) (hc : I64 c.servers ∧ I64 c.clients ∧ I64 c.sectors ∧ I64 c.journal ∧ I64 c.tries) (hv : ArgEvs w v evs) :
    Calls Tryd.prog 4 #[.agg #[.int .i64 c.servers, .int .i64 c.clients, .int .i64 c.sectors, .int .i64 c.journal, .int .i64 c.tries], v] w fun e w' => e = .returned (.bool true) ∧ Fr No w w' := by
  obtain ⟨a, cp, rfl, hcp, hcm, hev⟩ := hv
  have HV : Hid (ArgEvs w (.slice a evs.length cp) evs) := Lib.hid ⟨a, cp, rfl, hcp, hcm, hev⟩
  clear hev
  have f0 : Fr No w (w.alloc (.cells #[.int .i64 c.servers, .int .i64 c.clients, .int .i64 c.sectors, .int .i64 c.journal, .int .i64 c.tries] 29)) := (Fr.refl w).alloc _
  have k0 := heap_alloc_new w (.cells #[.int .i64 c.servers, .int .i64 c.clients, .int .i64 c.sectors, .int .i64 c.journal, .int .i64 c.tries] 29)
  go_enter Tryd.func4, Tryd.ntmps4
  go_wp2_with fail
  generalize w.alloc (.cells #[.int .i64 c.servers, .int .i64 c.clients, .int .i64 c.sectors, .int .i64 c.journal, .int .i64 c.tries] 29) = w0 at *
  generalize hb0 : w.heap.size = b0 at *
  have HB0 := Lib.hid hb0
  clear hb0
  have K0 := Lib.hid k0
  clear k0
  refine (awake_ _ (hg.no f0)).mono ?_
  rintro e w1 ⟨rfl, f1⟩
  go_wp2_with fail
  refine (room_ evs _ _ ((HV.out.no f0).no f1)).mono ?_
  rintro e w2 ⟨f2, he⟩
  have F2 : Fr No w w2 := (f0.trans f1 (fun _ _ e => e)).trans f2 (fun _ _ e => e)
  have K2 := Lib.hid ((f1.trans f2 (fun _ _ e => e)).block_of K0.out id)
  rcases he with rfl | ⟨rfl, h200, hok⟩
  · go_wp2_with fail
    go_ret
    exact ⟨rfl, F2⟩
  · have HA := Lib.hid (HV.out.at hok)
    have HAO := Lib.hid HA.out.ok
    clear hok
    obtain ⟨⟨p0, _⟩, ⟨p1, _⟩, ⟨p2, _⟩, ⟨p3, _⟩, ⟨p4, _⟩⟩ := rows5 K2.out
    go_wp2_with fail
    refine (config13_ _ _ _ _ _ _).mono ?_
    rintro e w3 ⟨rfl, f3⟩
    have F3 : Fr No w w3 := F2.trans f3 (fun _ _ e => e)
    have K3 := Lib.hid (f3.block_of K2.out id)
    clear p0 p1 p2 p3 p4
    go_wp2_with fail
    refine (events_ evs _ _ (HA.out.no F3) (by omega)).mono ?_
    rintro e w4 ⟨lv, rfl, hlv, f4⟩
    have F4 : Fr No w w4 := F3.trans f4 (fun _ _ e => e)
    have K4 := Lib.hid (f4.block_of K3.out id)
    have HL := Lib.hid hlv
    clear hlv
    go_wp2_with fail
    refine (print_ c evs lv _ (hg.no F4) hc HL.out (by omega)).mono ?_
    rintro e w5 ⟨rfl, f5⟩
    have F5 : Fr No w w5 := F4.trans f5 (fun _ _ e => e)
    have K5 := Lib.hid (f5.block_of K4.out id)
    obtain ⟨⟨p0, _⟩, ⟨p1, _⟩, ⟨p2, _⟩, ⟨p3, _⟩, ⟨p4, _⟩⟩ := rows5 K5.out
    go_wp2_with fail
    refine (rprint_ c evs _ _ (hg.no F5).size hc (HA.out.no F5) (by omega)).mono ?_
    rintro e w6 ⟨rfl, f6⟩
    have F6 : Fr No w w6 := F5.trans f6 (fun _ _ e => e)
    have K6 := Lib.hid (f6.block_of K5.out id)
    clear p0 p1 p2 p3 p4
    by_cases hf : (Scr.print c evs).2 = 0
    · have hp := Scr.printed hc HAO.out hf
      have hsm := print_small hf
      have HKI := Lib.hid (print_kinds hf)
      generalize (Scr.print c evs).1 = s at *
      generalize (Scr.print c evs).2 = er at *
      subst hf
      have HP := Lib.hid hp
      clear hp
      go_wp2_with fail
      refine (parse_ s _ (hg.no F6) (by omega)).mono ?_
      rintro e w7 ⟨c', evs', n, err, kv, hp', rfl, hc', hev, f7, hg7⟩
      rw [HP.out] at hp'
      simp only [Prod.mk.injEq] at hp'
      obtain ⟨rfl, rfl, rfl, rfl⟩ := hp'
      have F7 : Fr No w w7 := F6.trans f7 (fun _ _ e => e)
      have K7 := Lib.hid (f7.block_of K6.out id)
      have HK := Lib.hid hev.at
      clear hev hc'
      obtain ⟨i0, hi0, hz0, hz1, hz2⟩ := info_parts Tryd.info47
      have HI := Lib.hid hi0
      have HZ0 := Lib.hid hz0
      have HZ1 := Lib.hid hz1
      have HZ2 := Lib.hid hz2
      clear hi0 hz0 hz1 hz2
      have f8 : Fr No w7 (w7.alloc (.cells #[.int .i64 c.servers, .int .i64 c.clients, .int .i64 c.sectors, .int .i64 c.journal, .int .i64 c.tries] 24)) := (Fr.refl w7).alloc _
      have k8 := heap_alloc_new w7 (.cells #[.int .i64 c.servers, .int .i64 c.clients, .int .i64 c.sectors, .int .i64 c.journal, .int .i64 c.tries] 24)
      go_wp2_with fail
      generalize w7.alloc (.cells #[.int .i64 c.servers, .int .i64 c.clients, .int .i64 c.sectors, .int .i64 c.journal, .int .i64 c.tries] 24) = w8 at *
      generalize w7.heap.size = b8 at *
      have K8 := Lib.hid k8
      have F8 : Fr No w w8 := F7.trans f8 (fun _ _ e => e)
      have KB := Lib.hid (f8.block_of K7.out id)
      have hsz8 := F8.size
      clear k8 hsm
      go_loopw [13, 14] (fun o i wr => ∃ (j : Nat), i = .int .i64 j ∧ j ≤ evs.length ∧ Col 47 wr w8.heap.size o ((evs.take j).map Scr.spare) ∧ Fr No w8 wr) (fun _ i _ => evs.length - (intOf i).toNat)
      case atStart => exact ⟨0, rfl, Nat.zero_le _, Col.nil _ _ _, Fr.refl _⟩
      case round =>
        obtain ⟨j, rfl, hj, hcol, fr⟩ := hrel
        have HCOL := Lib.hid hcol
        clear hcol
        have FR : Fr No w wr := F8.trans fr (fun _ _ e => e)
        by_cases hlt : j < evs.length
        · have qlt : (j : Int) < (evs.length : Int) := by omega
          obtain ⟨b, off, rfl, hx⟩ : ∃ b off, a = some ⟨b, off, none⟩ ∧ ∃ oa ol oc va vl vc, EvV w evs[j] (evCells evs[j] (.slice oa ol oc) (.slice va vl vc)).toList ∧ w.rangeAt b (off + j * 13) (evCells evs[j] (.slice oa ol oc) (.slice va vl vc)).toList := by
            obtain ⟨a', c', he, _, h⟩ := HA.out
            simp only [Value.slice.injEq] at he
            obtain ⟨rfl, _, rfl⟩ := he
            rcases h with h | ⟨b, off, rfl, hb, h⟩
            · rw [h] at hlt; simp at hlt
            · exact ⟨b, off, rfl, h j evs[j] (List.getElem?_eq_getElem hlt)⟩
          obtain ⟨oa, ol, oc, va, vl, vc, hv, hr⟩ := hx
          have hrr : wr.rangeAt b (off + j * 13) (evCells evs[j] (.slice oa ol oc) (.slice va vl vc)).toList := fun i u hi => FR.cell_of (hr i u hi) id
          have htk : evs.take (j + 1) = evs.take j ++ [evs[j]] := by rw [List.take_succ_eq_append_getElem hlt]
          have HTK := Lib.hid htk
          have hkx := HKI.out evs[j] (List.getElem_mem hlt)
          clear htk
          generalize evs[j] = x at *
          have c0 : wr.cell? ⟨b, off + j * 13, none⟩ = some (.int .i64 x.kind) := hrr 0 _ rfl
          have c1 : wr.cell? ⟨b, off + j * 13 + 1, none⟩ = some (.int .i64 x.node) := hrr 1 _ rfl
          have c2 : wr.cell? ⟨b, off + j * 13 + 2, none⟩ = some (.int .i64 x.fate) := hrr 2 _ rfl
          have c3 : wr.cell? ⟨b, off + j * 13 + 3, none⟩ = some (.int .i64 x.n) := hrr 3 _ rfl
          have c4 : wr.cell? ⟨b, off + j * 13 + 4, none⟩ = some (.int .i64 x.op.kind) := hrr 4 _ rfl
          have c5 : wr.cell? ⟨b, off + j * 13 + 5, none⟩ = some (.string ⟨x.op.path.toArray⟩) := hrr 5 _ rfl
          have c6 : wr.cell? ⟨b, off + j * 13 + 6, none⟩ = some (.string ⟨x.op.to.toArray⟩) := hrr 6 _ rfl
          have c7 : wr.cell? ⟨b, off + j * 13 + 7, none⟩ = some (.int .i64 x.op.handle) := hrr 7 _ rfl
          have c8 : wr.cell? ⟨b, off + j * 13 + 8, none⟩ = some (.int .i64 x.op.pos) := hrr 8 _ rfl
          have c9 : wr.cell? ⟨b, off + j * 13 + 9, none⟩ = some (.int .i64 x.op.n) := hrr 9 _ rfl
          have c10 : wr.cell? ⟨b, off + j * 13 + 10, none⟩ = some (.bool x.op.writes) := hrr 10 _ rfl
          have c11 : wr.cell? ⟨b, off + j * 13 + 11, none⟩ = some (.slice oa ol oc) := hrr 11 _ rfl
          have c12 : wr.cell? ⟨b, off + j * 13 + 12, none⟩ = some (.slice va vl vc) := hrr 12 _ rfl
          have h16 := spare16_ x oa va ol oc vl vc w wr hv hkx
          unfold evCells at h16
          have H16 := Lib.hid h16
          clear hrr hr hv h16 hkx
          go_wp2_with fail
          with_reducible refine H16.out.mono ?_
          rintro e w9 ⟨oa', ol', oc', va', vl', vc', rfl, hev', f9⟩
          have hlp : ((evs.take j).map Scr.spare).length = j := by rw [List.length_map, List.length_take]; omega
          have htk2 : (evs.take (j + 1)).map Scr.spare = (evs.take j).map Scr.spare ++ [Scr.spare x] := by rw [HTK.out, List.map_append]; rfl
          have HTK2 := Lib.hid htk2
          clear htk2 HTK H16 c0 c1 c2 c3 c4 c5 c6 c7 c8 c9 c10 c11 c12
          generalize (evs.take j).map Scr.spare = pre at *
          generalize Scr.spare x = y at *
          obtain ⟨vss, hown, hvl, hve, hvb⟩ := HCOL.out.no f9
          have HVL := Lib.hid hvl
          have HVE := Lib.hid hve
          have HVB := Lib.hid hvb
          have HLP := Lib.hid hlp
          have hpl : pre.length ≤ 1000000 := by omega
          have F9 : Fr No w8 w9 := fr.trans f9 (fun _ _ e => e)
          have hsz := F9.size
          have HX := Lib.hid (hev'.fr (F8.trans F9 (fun _ _ e => e)) (fun _ _ _ _ e => e))
          have HXB : Hid (∀ a l c, Value.slice (some a) l c ∈ (evCells y (.slice oa' ol' oc') (.slice va' vl' vc')).toList → 0 < l → a.block < w8.heap.size) := Lib.hid (fun a l c hm h0 => Nat.lt_of_lt_of_le (hev'.blk a l c hm h0) hsz8)
          have H13 := Lib.hid (cells_one y oa' va' ol' oc' vl' vc')
          clear hvl hve hvb hlp hev'
          unfold evCells
          go_wp2_with (at_builtin; refine wpList_append_lies _ rfl _ _ 30 rfl w8.heap.size 47 i0 (.agg #[.int .i64 0, .int .i64 0, .int .i64 0, .int .i64 0, .int .i64 0, .string ⟨#[]⟩, .string ⟨#[]⟩, .int .i64 0, .int .i64 0, .int .i64 0, .bool false, .slice none 0 0, .slice none 0 0]) 13 152 Tryd.underlying30 HI.out HZ0.out HZ1.out HZ2.out rfl (by decide) u13 pre.length vss.flatten rfl (hown.alloc _) ⟨w9.heap.size, 0, none⟩ 1 1 [.int .i64 y.kind, .int .i64 y.node, .int .i64 y.fate, .int .i64 y.n, .int .i64 y.op.kind, .string ⟨y.op.path.toArray⟩, .string ⟨y.op.to.toArray⟩, .int .i64 y.op.handle, .int .i64 y.op.pos, .int .i64 y.op.n, .bool y.op.writes, .slice oa' ol' oc', .slice va' vl' vc'] rfl rfl ?d1 H13.out (by decide) (by unfold maxLen; omega) (by omega) ?d5 (w9.heap.size + 1) ?d6 ?_)
          case d1 => exact World.news_of_block (cs := #[.int .i64 y.kind, .int .i64 y.node, .int .i64 y.fate, .int .i64 y.n, .int .i64 y.op.kind, .string ⟨y.op.path.toArray⟩, .string ⟨y.op.to.toArray⟩, .int .i64 y.op.handle, .int .i64 y.op.pos, .int .i64 y.op.n, .bool y.op.writes, .slice oa' ol' oc', .slice va' vl' vc']) (t := 47) (fr := (0, 0)) (heap_alloc_new w9 _)
          case d5 => simp; omega
          case d6 => simp
          intro g cap w10 hown6 hgrow hat hgl
          have F10 : Fr No w8 w10 := (F9.alloc _).grown hgrow (fun z hz => .inr (own_base hown z hz))
          have RE := Col.push hown HVL.out HVE.out HVB.out HX.out HXB.out rfl hown6 hgrow
          have HRE := Lib.hid RE
          clear RE hown6 hgrow hat hgl hown
          go_wp2_with fail
          go_roundw
          case rel => exact ⟨j + 1, by go_num, by omega, by rw [HTK2.out]; exact HRE.out, F10⟩
          case measure => simp [intOf]; omega
        · obtain rfl : j = evs.length := by omega
          rw [List.take_length] at HCOL
          have ka := fr.block_of K8.out id
          have kb := fr.block_of KB.out id
          obtain ⟨⟨p0, _⟩, ⟨p1, _⟩, ⟨p2, _⟩, ⟨p3, _⟩, ⟨p4, _⟩⟩ := rows5 ka
          obtain ⟨⟨q0, _⟩, ⟨q1, _⟩, ⟨q2, _⟩, ⟨q3, _⟩, ⟨q4, _⟩⟩ := rows5 kb
          clear ka kb
          go_wp2_with fail
          refine (sameConfig_ _ _ _ _ _ _).mono ?_
          rintro e w9 ⟨rfl, f9⟩
          clear p0 p1 p2 p3 p4 q0 q1 q2 q3 q4
          go_wp2_with fail
          refine (same_ (evs.map Scr.spare) kv u13 _ (HK.out.no ((f8.trans fr (fun _ _ e => e)).trans f9 (fun _ _ e => e))) (HCOL.out.at.no f9) (by rw [List.length_map]; omega)).mono ?_
          rintro e w10 ⟨rfl, f10⟩
          go_wp2_with fail
          go_ret
          exact ⟨rfl, (FR.trans f9 (fun _ _ e => e)).trans f10 (fun _ _ e => e)⟩
    · have hf1 : ((Scr.print c evs).2 == 0) = false := by simpa using hf
      go_wp2_with fail
      go_ret
      exact ⟨rfl, F6⟩
end Go.Proofs.YtkcgijidgppeiaaDoor
