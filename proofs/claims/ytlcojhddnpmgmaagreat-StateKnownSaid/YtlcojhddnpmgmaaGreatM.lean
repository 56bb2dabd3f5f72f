/- The pen's numbers, of one byte's worth. Walked. -/
import Derived.Test.YtlcojhddnpmgmaaGreatK
namespace Go.Proofs.YtlcojhddnpmgmaaGreat
open Go.RowKit

theorem own1_base {w : World} {base n : Nat} {v : Value} {xs : List Value} (h : w.ownsRow base 5 1 v n xs) : ∀ k, v.ownBlock = some k → base ≤ k := by
  intro k hk
  rcases h.2 with ⟨rfl, _⟩ | ⟨g, cp, cur, rfl, hb, hh, _⟩
  · simp [Value.ownBlock] at hk
  · simp [Value.ownBlock] at hk
    subst hk
    exact hb
theorem own1_is {w : World} {base g cap n : Nat} {zs : List UInt8} (h : w.ownsRow base 5 1 (.slice (some ⟨g, 0, none⟩) n cap) n (u8s zs)) (hn : n = zs.length) : SlIs w (.slice (some ⟨g, 0, none⟩) zs.length cap) zs g 0 cap := by
  subst hn
  obtain ⟨b, c, h1, _⟩ := slAt_own (bs := zs) h (by simp)
  obtain ⟨he, r⟩ := h1
  simp only [Value.slice.injEq, Option.some.injEq, Addr.mk.injEq] at he
  obtain ⟨⟨rfl, _⟩, _, rfl⟩ := he
  exact ⟨rfl, r⟩
theorem pf_back {w w' : World} {p base : Nat} (f : Fr No w w') : ∀ j, j < w.heap.size → Pf w' p base j → Pf w p base j := by
  rintro j hj (e | ⟨hb, cur, fz, e⟩)
  · exact .inl e
  · exact .inr ⟨hb, cur, fz, by rw [← f.block j hj id]; exact e⟩

set_option maxRecDepth 100000 in
set_option maxHeartbeats 1600000 in
theorem num1 (p base : Nat) (bs : List UInt8) (x : Nat) (hx : x < 256) (w : World) (h : Pn w p base bs) (hl : bs.length ≤ 20000) :
    Calls Tryz.prog 76 #[.pointer (some ⟨p, 0, none⟩), .int .i64 x, .int .i64 1] w fun e w' => e = .returned (.tuple #[]) ∧ Pn w' p base (bs ++ [UInt8.ofNat x]) ∧ Fr (Pf w p base) w w' := by
  obtain ⟨i0, hi0, hz0, hz1, hz2⟩ := info_parts Tryz.info5
  have HI := Lib.hid hi0
  have HZ0 := Lib.hid hz0
  have HZ1 := Lib.hid hz1
  have HZ2 := Lib.hid hz2
  have HP := Lib.hid h
  clear hi0 hz0 hz1 hz2 h
  have t1 : ((x : Int) / 256 != 0) = false := by
    have : (x : Int) / 256 = 0 := by omega
    simp [this]
  have hv : u8s [UInt8.ofNat x] = [.int .u8 (x : Int)] := by simp [u8s]; omega
  have HV := Lib.hid hv
  clear hv
  have hx0 : (0 : Int) ≤ (x : Int) := by omega
  have hx1 : (x : Int) ≤ 255 := by omega
  go_enter Tryz.func76, Tryz.ntmps76
  go_wp2_with (go_at_call 129; go_in)
  refine wp_loop_rounds 2 ?_
  rw [rounds_succ]
  go_wp2_with (at_builtin; refine wpList_append_lies _ rfl _ _ 27 rfl w.heap.size 5 i0 (.int .u8 0) 1 1 Tryz.underlying27 HI.out HZ0.out HZ1.out HZ2.out rfl (by decide) (.slice none 0 0) 0 [] rfl ⟨rfl, .inl ⟨rfl, rfl⟩⟩ ⟨w.heap.size, 0, none⟩ 1 1 [.int .u8 (x : Int)] rfl rfl ?d1 ?d2 (by decide) (by unfold maxLen; omega) (by omega) ?d5 (w.heap.size + 1) ?d6 ?_)
  case d1 => exact World.news_of_block (cs := #[.int .u8 (x : Int)]) (t := 5) (fr := (0, 0)) (heap_alloc_new w _)
  case d2 => simp [Value.oneCell']
  case d5 => simp
  case d6 => simp
  intro g0 cap0 w0 hown0 hgrow0 hat0 hgl0
  have HO0 : Hid (w0.ownsRow w.heap.size 5 1 (.slice (some ⟨g0, 0, none⟩) 1 cap0) 1 (u8s [UInt8.ofNat x])) := Lib.hid (by
    have e : u8s [UInt8.ofNat x] = [] ++ [.int .u8 (x : Int)] := by rw [HV.out]; rfl
    rw [e]
    exact hown0)
  have F0 : Fr No w w0 := (Fr.refl w).alloc _ |>.grown hgrow0 (fun z hz => by simp [Value.ownBlock] at hz)
  clear hown0 hgrow0 hat0 hgl0
  go_wp2_with fail
  rw [rounds_succ]
  go_wp2_with fail
  refine (put_b p base bs [UInt8.ofNat x] g0 0 cap0 w0 (HP.out.no F0) (own1_is HO0.out rfl) (by simp) (by omega) (by simp)).mono ?_
  rintro e w9 ⟨rfl, h9, f9⟩
  have H9 := Lib.hid h9
  clear h9
  go_wp2_with fail
  go_end0
  exact ⟨rfl, H9.out, F0.of_no.trans f9 (pf_back F0)⟩

set_option maxRecDepth 100000 in
set_option maxHeartbeats 1600000 in
theorem num2 (p base : Nat) (bs : List UInt8) (x : Nat) (hx : x < 256) (w : World) (h : Pn w p base bs) (hl : bs.length ≤ 20000) :
    Calls Tryz.prog 76 #[.pointer (some ⟨p, 0, none⟩), .int .i64 x, .int .i64 2] w fun e w' => e = .returned (.tuple #[]) ∧ Pn w' p base (bs ++ [0, UInt8.ofNat x]) ∧ Fr (Pf w p base) w w' := by
  obtain ⟨i0, hi0, hz0, hz1, hz2⟩ := info_parts Tryz.info5
  have HI := Lib.hid hi0
  have HZ0 := Lib.hid hz0
  have HZ1 := Lib.hid hz1
  have HZ2 := Lib.hid hz2
  have HP := Lib.hid h
  clear hi0 hz0 hz1 hz2 h
  have t1 : ((x : Int) / 65536 != 0) = false := by
    have : (x : Int) / 65536 = 0 := by omega
    simp [this]
  have hv : u8s [UInt8.ofNat x] = [.int .u8 (x : Int)] := by simp [u8s]; omega
  have HV := Lib.hid hv
  clear hv
  have hx0 : (0 : Int) ≤ (x : Int) := by omega
  have hx1 : (x : Int) ≤ 255 := by omega
  have hz1a : (x : Int) / 256 = 0 := by omega
  go_enter Tryz.func76, Tryz.ntmps76
  go_wp2_with (go_at_call 129; go_in)
  refine wp_loop_rounds 3 ?_
  rw [rounds_succ]
  go_wp2_with (at_builtin; refine wpList_append_lies _ rfl _ _ 27 rfl w.heap.size 5 i0 (.int .u8 0) 1 1 Tryz.underlying27 HI.out HZ0.out HZ1.out HZ2.out rfl (by decide) (.slice none 0 0) 0 [] rfl ⟨rfl, .inl ⟨rfl, rfl⟩⟩ ⟨w.heap.size, 0, none⟩ 1 1 [.int .u8 0] rfl rfl ?d1 ?d2 (by decide) (by unfold maxLen; omega) (by omega) ?d5 (w.heap.size + 1) ?d6 ?_)
  case d1 => exact World.news_of_block (cs := #[.int .u8 0]) (t := 5) (fr := (0, 0)) (heap_alloc_new w _)
  case d2 => simp [Value.oneCell']
  case d5 => simp
  case d6 => simp
  intro g0 cap0 w0 hown0 hgrow0 hat0 hgl0
  have HO0 : Hid (w0.ownsRow w.heap.size 5 1 (.slice (some ⟨g0, 0, none⟩) 1 cap0) 1 (u8s [0])) := Lib.hid (by
    have e : u8s [0] = [] ++ [.int .u8 0] := by rfl
    rw [e]
    exact hown0)
  have F0 : Fr No w w0 := (Fr.refl w).alloc _ |>.grown hgrow0 (fun z hz => by simp [Value.ownBlock] at hz)
  clear hown0 hgrow0 hat0 hgl0
  go_wp2_with fail
  rw [rounds_succ]
  go_wp2_with (at_builtin; refine wpList_append_lies _ rfl _ _ 27 rfl w.heap.size 5 i0 (.int .u8 0) 1 1 Tryz.underlying27 HI.out HZ0.out HZ1.out HZ2.out rfl (by decide) (.slice (some ⟨g0, 0, none⟩) 1 cap0) 1 (u8s [0]) rfl (HO0.out.alloc _) ⟨w0.heap.size, 0, none⟩ 1 1 [.int .u8 (x : Int)] rfl rfl ?d1 ?d2 (by decide) (by unfold maxLen; omega) (by omega) ?d5 (w0.heap.size + 1) ?d6 ?_)
  case d1 => exact World.news_of_block (cs := #[.int .u8 (x : Int)]) (t := 5) (fr := (0, 0)) (heap_alloc_new w0 _)
  case d2 => simp [Value.oneCell']
  case d5 => have := F0.size; simp; omega
  case d6 => simp
  intro g1 cap1 w1 hown1 hgrow1 hat1 hgl1
  have HO1 : Hid (w1.ownsRow w.heap.size 5 1 (.slice (some ⟨g1, 0, none⟩) 2 cap1) 2 (u8s [0, UInt8.ofNat x])) := Lib.hid (by
    have e : u8s [0, UInt8.ofNat x] = (u8s [0]) ++ [.int .u8 (x : Int)] := by rw [← HV.out]; rfl
    rw [e]
    exact hown1)
  have F1 : Fr No w w1 := F0.alloc _ |>.grown hgrow1 (fun z hz => .inr (own1_base HO0.out z hz))
  clear hown1 hgrow1 hat1 hgl1
  go_wp2_with fail
  rw [rounds_succ]
  go_wp2_with fail
  refine (put_b p base bs [0, UInt8.ofNat x] g1 0 cap1 w1 (HP.out.no F1) (own1_is HO1.out rfl) (by simp) (by omega) (by simp)).mono ?_
  rintro e w9 ⟨rfl, h9, f9⟩
  have H9 := Lib.hid h9
  clear h9
  go_wp2_with fail
  go_end0
  exact ⟨rfl, H9.out, F1.of_no.trans f9 (pf_back F1)⟩

set_option maxRecDepth 100000 in
set_option maxHeartbeats 1600000 in
theorem num3 (p base : Nat) (bs : List UInt8) (x : Nat) (hx : x < 256) (w : World) (h : Pn w p base bs) (hl : bs.length ≤ 20000) :
    Calls Tryz.prog 76 #[.pointer (some ⟨p, 0, none⟩), .int .i64 x, .int .i64 3] w fun e w' => e = .returned (.tuple #[]) ∧ Pn w' p base (bs ++ [0, 0, UInt8.ofNat x]) ∧ Fr (Pf w p base) w w' := by
  obtain ⟨i0, hi0, hz0, hz1, hz2⟩ := info_parts Tryz.info5
  have HI := Lib.hid hi0
  have HZ0 := Lib.hid hz0
  have HZ1 := Lib.hid hz1
  have HZ2 := Lib.hid hz2
  have HP := Lib.hid h
  clear hi0 hz0 hz1 hz2 h
  have t1 : ((x : Int) / 16777216 != 0) = false := by
    have : (x : Int) / 16777216 = 0 := by omega
    simp [this]
  have hv : u8s [UInt8.ofNat x] = [.int .u8 (x : Int)] := by simp [u8s]; omega
  have HV := Lib.hid hv
  clear hv
  have hx0 : (0 : Int) ≤ (x : Int) := by omega
  have hx1 : (x : Int) ≤ 255 := by omega
  have hz1a : (x : Int) / 256 = 0 := by omega
  have hz2a : (x : Int) / 65536 = 0 := by omega
  go_enter Tryz.func76, Tryz.ntmps76
  go_wp2_with (go_at_call 129; go_in)
  refine wp_loop_rounds 4 ?_
  rw [rounds_succ]
  go_wp2_with (at_builtin; refine wpList_append_lies _ rfl _ _ 27 rfl w.heap.size 5 i0 (.int .u8 0) 1 1 Tryz.underlying27 HI.out HZ0.out HZ1.out HZ2.out rfl (by decide) (.slice none 0 0) 0 [] rfl ⟨rfl, .inl ⟨rfl, rfl⟩⟩ ⟨w.heap.size, 0, none⟩ 1 1 [.int .u8 0] rfl rfl ?d1 ?d2 (by decide) (by unfold maxLen; omega) (by omega) ?d5 (w.heap.size + 1) ?d6 ?_)
  case d1 => exact World.news_of_block (cs := #[.int .u8 0]) (t := 5) (fr := (0, 0)) (heap_alloc_new w _)
  case d2 => simp [Value.oneCell']
  case d5 => simp
  case d6 => simp
  intro g0 cap0 w0 hown0 hgrow0 hat0 hgl0
  have HO0 : Hid (w0.ownsRow w.heap.size 5 1 (.slice (some ⟨g0, 0, none⟩) 1 cap0) 1 (u8s [0])) := Lib.hid (by
    have e : u8s [0] = [] ++ [.int .u8 0] := by rfl
    rw [e]
    exact hown0)
  have F0 : Fr No w w0 := (Fr.refl w).alloc _ |>.grown hgrow0 (fun z hz => by simp [Value.ownBlock] at hz)
  clear hown0 hgrow0 hat0 hgl0
  go_wp2_with fail
  rw [rounds_succ]
  go_wp2_with (at_builtin; refine wpList_append_lies _ rfl _ _ 27 rfl w.heap.size 5 i0 (.int .u8 0) 1 1 Tryz.underlying27 HI.out HZ0.out HZ1.out HZ2.out rfl (by decide) (.slice (some ⟨g0, 0, none⟩) 1 cap0) 1 (u8s [0]) rfl (HO0.out.alloc _) ⟨w0.heap.size, 0, none⟩ 1 1 [.int .u8 0] rfl rfl ?d1 ?d2 (by decide) (by unfold maxLen; omega) (by omega) ?d5 (w0.heap.size + 1) ?d6 ?_)
  case d1 => exact World.news_of_block (cs := #[.int .u8 0]) (t := 5) (fr := (0, 0)) (heap_alloc_new w0 _)
  case d2 => simp [Value.oneCell']
  case d5 => have := F0.size; simp; omega
  case d6 => simp
  intro g1 cap1 w1 hown1 hgrow1 hat1 hgl1
  have HO1 : Hid (w1.ownsRow w.heap.size 5 1 (.slice (some ⟨g1, 0, none⟩) 2 cap1) 2 (u8s [0, 0])) := Lib.hid (by
    have e : u8s [0, 0] = (u8s [0]) ++ [.int .u8 0] := by rfl
    rw [e]
    exact hown1)
  have F1 : Fr No w w1 := F0.alloc _ |>.grown hgrow1 (fun z hz => .inr (own1_base HO0.out z hz))
  clear hown1 hgrow1 hat1 hgl1
  go_wp2_with fail
  rw [rounds_succ]
  go_wp2_with (at_builtin; refine wpList_append_lies _ rfl _ _ 27 rfl w.heap.size 5 i0 (.int .u8 0) 1 1 Tryz.underlying27 HI.out HZ0.out HZ1.out HZ2.out rfl (by decide) (.slice (some ⟨g1, 0, none⟩) 2 cap1) 2 (u8s [0, 0]) rfl (HO1.out.alloc _) ⟨w1.heap.size, 0, none⟩ 1 1 [.int .u8 (x : Int)] rfl rfl ?d1 ?d2 (by decide) (by unfold maxLen; omega) (by omega) ?d5 (w1.heap.size + 1) ?d6 ?_)
  case d1 => exact World.news_of_block (cs := #[.int .u8 (x : Int)]) (t := 5) (fr := (0, 0)) (heap_alloc_new w1 _)
  case d2 => simp [Value.oneCell']
  case d5 => have := F1.size; simp; omega
  case d6 => simp
  intro g2 cap2 w2 hown2 hgrow2 hat2 hgl2
  have HO2 : Hid (w2.ownsRow w.heap.size 5 1 (.slice (some ⟨g2, 0, none⟩) 3 cap2) 3 (u8s [0, 0, UInt8.ofNat x])) := Lib.hid (by
    have e : u8s [0, 0, UInt8.ofNat x] = (u8s [0, 0]) ++ [.int .u8 (x : Int)] := by rw [← HV.out]; rfl
    rw [e]
    exact hown2)
  have F2 : Fr No w w2 := F1.alloc _ |>.grown hgrow2 (fun z hz => .inr (own1_base HO1.out z hz))
  clear hown2 hgrow2 hat2 hgl2
  go_wp2_with fail
  rw [rounds_succ]
  go_wp2_with fail
  refine (put_b p base bs [0, 0, UInt8.ofNat x] g2 0 cap2 w2 (HP.out.no F2) (own1_is HO2.out rfl) (by simp) (by omega) (by simp)).mono ?_
  rintro e w9 ⟨rfl, h9, f9⟩
  have H9 := Lib.hid h9
  clear h9
  go_wp2_with fail
  go_end0
  exact ⟨rfl, H9.out, F2.of_no.trans f9 (pf_back F2)⟩

end Go.Proofs.YtlcojhddnpmgmaaGreat
