/- Parts: A request as the program has it. Walked. (Printed by wip/tools/jlgen.py.) -/
import Derived.Test.YtlcojhddnpmgmaaGreatM23
set_option linter.unusedSimpArgs false
set_option linter.unusedVariables false
set_option maxRecDepth 100000
namespace Go.Proofs.YtlcojhddnpmgmaaGreat
open Go.RowKit
theorem Tryz.info114 : (Tryz.prog.info? 114).map (fun i => (i.zero, i.size, i.bytes)) = some (some (.agg #[.int .i64 0, .int .i64 0, .int .i64 0, .int .i64 0]), 4, 32) := by kernel_rfl
theorem szC_len (x : Sz) : (szC x).length = 4 := rfl
theorem own114_base {w : World} {base : Nat} {v : Value} {n : Nat} {xs : List Value} (h : w.ownsRow base 114 4 v n xs) (j : Nat) (hj : v.ownBlock = some j) : base ≤ j := by
 obtain ⟨_, ⟨rfl, _⟩ | ⟨g, cap, cur, rfl, hg, _⟩⟩ := h
 ·cases hj
 ·cases hj; exact hg
theorem own114_fr {S : Nat → Prop} {w w' : World} {base : Nat} {v : Value} {n : Nat} {xs : List Value} (h : w.ownsRow base 114 4 v n xs) (f : Fr S w w') (hS : ∀ j, v.ownBlock = some j → ¬ S j) : w'.ownsRow base 114 4 v n xs := by
 obtain ⟨h1, h2 | ⟨g, cap, cur, rfl, hg, hb, h3⟩⟩ := h
 ·exact ⟨h1, .inl h2⟩
 ·exact ⟨h1, .inr ⟨g, cap, cur, rfl, hg, f.block_of hb (hS g rfl), h3⟩⟩
theorem own_rows {w : World} {o : Nat → Nat} {base : Nat} {v : Value} {L : List Sz} (h : w.ownsRow base 114 4 v L.length (L.flatMap szC)) (ho : ∀ k, base ≤ k → o k = 0) : RowsAt szC 4 w o v L := by
 obtain ⟨_, ⟨rfl, h0⟩ | ⟨g, cap, cur, rfl, hg, hb, hn, hc, hs, ht⟩⟩ := h
 ·have hL : L = [] := List.length_eq_zero_iff.1 h0
  subst hL
  exact ⟨none, 0, rfl, fun h => absurd rfl h⟩
 ·refine ⟨some ⟨g, 0, none⟩, cap, rfl, fun _ => ⟨g, 0, rfl, ho g hg, lt_of_block hb, fun j x hj => ?_⟩⟩
  have hr := (RowB.of_block (c := szC) (n := 4) (t := 114) szC_len hb (Nat.le_of_eq hs.symm) hn (fun k u hk => by
   rw [← ht, List.getElem?_take] at hk
   split at hk
   ·simpa using hk
   ·cases hk)).row j x hj
  rw [Nat.zero_add]
  exact hr
def ReqPost (w : World) (o : Nat → Nat) (r : Req) (st : List Sz) (dv : Value) (e : Ending) (w' : World) : Prop := ∃ rv, e = .returned (.agg (r.cells rv dv)) ∧ RowsAt szC 4 w' o rv st ∧ Fr No w w'
set_option maxHeartbeats 6400000 in
theorem grequest_ (o : Nat → Nat) (r : Req) (rv dv : Value) (st : List Sz) (w : World) (hf : Fresh w o) (hr : RowsAt szC 4 w o rv st) (hd : ∃ bd nd cd, dv = .slice bd nd cd) (hls : st.length ≤ 1000) :
  Calls Tryz.prog 16 #[.agg (r.cells rv dv)] w (ReqPost w o r st dv) := by
 have mixed : Tryz.prog.follows .mixedOrders = true := by kernel_rfl
 obtain ⟨bs, cs, rfl⟩ := hr.slice
 obtain ⟨bd, nd, cd, rfl⟩ := hd
 have HQ : Hid (∀ rv' w', RowsAt szC 4 w' o rv' st → Fr No w w' → ReqPost w o r st (.slice bd nd cd) (.returned (.agg (r.cells rv' (.slice bd nd cd)))) w') := Lib.hid (fun rv' w' h1 h2 => ⟨rv', rfl, h1, h2⟩)
 generalize ReqPost w o r st (.slice bd nd cd) = Q at *
 obtain ⟨i0, hi, hz0, hz1, hz2⟩ := info_parts Tryz.info114
 have HI := Lib.hid hi
 have HZ0 := Lib.hid hz0
 have HZ1 := Lib.hid hz1
 have HZ2 := Lib.hid hz2
 have HLS := Lib.hid hls
 have HF0 := Lib.hid hf
 have HR0 := Lib.hid hr
 have hb32 : ∀ w' : World, (Instr.build 32 #[(0, .int .i64 r.c), (1, .int .i64 r.l), (2, .int .i64 r.q)]).run Tryz.prog w' = .ok (.agg #[.int .i64 r.c, .int .i64 r.l, .int .i64 r.q]) w' := fun w' => by kernel_rfl
 have hb36 : ∀ w' : World, (Instr.build 36 #[(0, .agg #[.int .i64 r.c, .int .i64 r.l, .int .i64 r.q]), (1, .int .i64 r.kind), (2, .string (ba r.path)), (3, .string (ba r.to)), (4, .bool r.dir), (5, .bool r.wr), (6, .bool r.cl), (7, .int .i64 r.h), (8, .int .i64 r.nx), (9, .int .i64 r.sw), (11, .slice bd nd cd)]).run Tryz.prog w' = .ok (.agg #[.int .i64 r.c, .int .i64 r.l, .int .i64 r.q, .int .i64 r.kind, .string (ba r.path), .string (ba r.to), .bool r.dir, .bool r.wr, .bool r.cl, .int .i64 r.h, .int .i64 r.nx, .int .i64 r.sw, .slice none 0 0, .slice bd nd cd]) w' := fun w' => by kernel_rfl
 clear hi hz0 hz1 hz2 hf hr hls
 unfold Req.cells at *
 have k0 : (((w.alloc (.cells #[.int .i64 r.c, .int .i64 r.l, .int .i64 r.q, .int .i64 r.kind, .string (ba r.path), .string (ba r.to), .bool r.dir, .bool r.wr, .bool r.cl, .int .i64 r.h, .int .i64 r.nx, .int .i64 r.sw, .slice bs st.length cs, .slice bd nd cd] 41)).alloc (.cells #[.int .i64 0, .int .i64 0, .int .i64 0, .int .i64 0, .string ⟨#[]⟩, .string ⟨#[]⟩, .bool false, .bool false, .bool false, .int .i64 0, .int .i64 0, .int .i64 0, .slice none 0 0, .slice none 0 0] 36)).alloc (.cells #[.int .i64 r.c, .int .i64 r.l, .int .i64 r.q, .int .i64 r.kind, .string (ba r.path), .string (ba r.to), .bool r.dir, .bool r.wr, .bool r.cl, .int .i64 r.h, .int .i64 r.nx, .int .i64 r.sw, .slice none 0 0, .slice bd nd cd] 36)).heap[w.heap.size]? = some (.cells #[.int .i64 r.c, .int .i64 r.l, .int .i64 r.q, .int .i64 r.kind, .string (ba r.path), .string (ba r.to), .bool r.dir, .bool r.wr, .bool r.cl, .int .i64 r.h, .int .i64 r.nx, .int .i64 r.sw, .slice bs st.length cs, .slice bd nd cd] 41 (0, 0)) := (((Fr.refl (S := No) _).alloc _).alloc _).block_of (new_at w _) id
 have k1 : (((w.alloc (.cells #[.int .i64 r.c, .int .i64 r.l, .int .i64 r.q, .int .i64 r.kind, .string (ba r.path), .string (ba r.to), .bool r.dir, .bool r.wr, .bool r.cl, .int .i64 r.h, .int .i64 r.nx, .int .i64 r.sw, .slice bs st.length cs, .slice bd nd cd] 41)).alloc (.cells #[.int .i64 0, .int .i64 0, .int .i64 0, .int .i64 0, .string ⟨#[]⟩, .string ⟨#[]⟩, .bool false, .bool false, .bool false, .int .i64 0, .int .i64 0, .int .i64 0, .slice none 0 0, .slice none 0 0] 36)).alloc (.cells #[.int .i64 r.c, .int .i64 r.l, .int .i64 r.q, .int .i64 r.kind, .string (ba r.path), .string (ba r.to), .bool r.dir, .bool r.wr, .bool r.cl, .int .i64 r.h, .int .i64 r.nx, .int .i64 r.sw, .slice none 0 0, .slice bd nd cd] 36)).heap[w.heap.size + 1]? = some (.cells #[.int .i64 0, .int .i64 0, .int .i64 0, .int .i64 0, .string ⟨#[]⟩, .string ⟨#[]⟩, .bool false, .bool false, .bool false, .int .i64 0, .int .i64 0, .int .i64 0, .slice none 0 0, .slice none 0 0] 36 (0, 0)) := by
  have h : ((w.alloc (.cells #[.int .i64 r.c, .int .i64 r.l, .int .i64 r.q, .int .i64 r.kind, .string (ba r.path), .string (ba r.to), .bool r.dir, .bool r.wr, .bool r.cl, .int .i64 r.h, .int .i64 r.nx, .int .i64 r.sw, .slice bs st.length cs, .slice bd nd cd] 41)).alloc (.cells #[.int .i64 0, .int .i64 0, .int .i64 0, .int .i64 0, .string ⟨#[]⟩, .string ⟨#[]⟩, .bool false, .bool false, .bool false, .int .i64 0, .int .i64 0, .int .i64 0, .slice none 0 0, .slice none 0 0] 36)).heap[w.heap.size + 1]? = some (.cells #[.int .i64 0, .int .i64 0, .int .i64 0, .int .i64 0, .string ⟨#[]⟩, .string ⟨#[]⟩, .bool false, .bool false, .bool false, .int .i64 0, .int .i64 0, .int .i64 0, .slice none 0 0, .slice none 0 0] 36 (0, 0)) := by simpa using new_at (w.alloc (.cells #[.int .i64 r.c, .int .i64 r.l, .int .i64 r.q, .int .i64 r.kind, .string (ba r.path), .string (ba r.to), .bool r.dir, .bool r.wr, .bool r.cl, .int .i64 r.h, .int .i64 r.nx, .int .i64 r.sw, .slice bs st.length cs, .slice bd nd cd] 41)) (.cells #[.int .i64 0, .int .i64 0, .int .i64 0, .int .i64 0, .string ⟨#[]⟩, .string ⟨#[]⟩, .bool false, .bool false, .bool false, .int .i64 0, .int .i64 0, .int .i64 0, .slice none 0 0, .slice none 0 0] 36)
  exact ((Fr.refl (S := No) _).alloc _).block_of h id
 have k2 : (((w.alloc (.cells #[.int .i64 r.c, .int .i64 r.l, .int .i64 r.q, .int .i64 r.kind, .string (ba r.path), .string (ba r.to), .bool r.dir, .bool r.wr, .bool r.cl, .int .i64 r.h, .int .i64 r.nx, .int .i64 r.sw, .slice bs st.length cs, .slice bd nd cd] 41)).alloc (.cells #[.int .i64 0, .int .i64 0, .int .i64 0, .int .i64 0, .string ⟨#[]⟩, .string ⟨#[]⟩, .bool false, .bool false, .bool false, .int .i64 0, .int .i64 0, .int .i64 0, .slice none 0 0, .slice none 0 0] 36)).alloc (.cells #[.int .i64 r.c, .int .i64 r.l, .int .i64 r.q, .int .i64 r.kind, .string (ba r.path), .string (ba r.to), .bool r.dir, .bool r.wr, .bool r.cl, .int .i64 r.h, .int .i64 r.nx, .int .i64 r.sw, .slice none 0 0, .slice bd nd cd] 36)).heap[w.heap.size + 1 + 1]? = some (.cells #[.int .i64 r.c, .int .i64 r.l, .int .i64 r.q, .int .i64 r.kind, .string (ba r.path), .string (ba r.to), .bool r.dir, .bool r.wr, .bool r.cl, .int .i64 r.h, .int .i64 r.nx, .int .i64 r.sw, .slice none 0 0, .slice bd nd cd] 36 (0, 0)) := by simpa using new_at ((w.alloc (.cells #[.int .i64 r.c, .int .i64 r.l, .int .i64 r.q, .int .i64 r.kind, .string (ba r.path), .string (ba r.to), .bool r.dir, .bool r.wr, .bool r.cl, .int .i64 r.h, .int .i64 r.nx, .int .i64 r.sw, .slice bs st.length cs, .slice bd nd cd] 41)).alloc (.cells #[.int .i64 0, .int .i64 0, .int .i64 0, .int .i64 0, .string ⟨#[]⟩, .string ⟨#[]⟩, .bool false, .bool false, .bool false, .int .i64 0, .int .i64 0, .int .i64 0, .slice none 0 0, .slice none 0 0] 36)) (.cells #[.int .i64 r.c, .int .i64 r.l, .int .i64 r.q, .int .i64 r.kind, .string (ba r.path), .string (ba r.to), .bool r.dir, .bool r.wr, .bool r.cl, .int .i64 r.h, .int .i64 r.nx, .int .i64 r.sw, .slice none 0 0, .slice bd nd cd] 36)
 have fA : Fr No w (((w.alloc (.cells #[.int .i64 r.c, .int .i64 r.l, .int .i64 r.q, .int .i64 r.kind, .string (ba r.path), .string (ba r.to), .bool r.dir, .bool r.wr, .bool r.cl, .int .i64 r.h, .int .i64 r.nx, .int .i64 r.sw, .slice bs st.length cs, .slice bd nd cd] 41)).alloc (.cells #[.int .i64 0, .int .i64 0, .int .i64 0, .int .i64 0, .string ⟨#[]⟩, .string ⟨#[]⟩, .bool false, .bool false, .bool false, .int .i64 0, .int .i64 0, .int .i64 0, .slice none 0 0, .slice none 0 0] 36)).alloc (.cells #[.int .i64 r.c, .int .i64 r.l, .int .i64 r.q, .int .i64 r.kind, .string (ba r.path), .string (ba r.to), .bool r.dir, .bool r.wr, .bool r.cl, .int .i64 r.h, .int .i64 r.nx, .int .i64 r.sw, .slice none 0 0, .slice bd nd cd] 36)) := (((Fr.refl w).alloc _).alloc _).alloc _
 have hsz : (((w.alloc (.cells #[.int .i64 r.c, .int .i64 r.l, .int .i64 r.q, .int .i64 r.kind, .string (ba r.path), .string (ba r.to), .bool r.dir, .bool r.wr, .bool r.cl, .int .i64 r.h, .int .i64 r.nx, .int .i64 r.sw, .slice bs st.length cs, .slice bd nd cd] 41)).alloc (.cells #[.int .i64 0, .int .i64 0, .int .i64 0, .int .i64 0, .string ⟨#[]⟩, .string ⟨#[]⟩, .bool false, .bool false, .bool false, .int .i64 0, .int .i64 0, .int .i64 0, .slice none 0 0, .slice none 0 0] 36)).alloc (.cells #[.int .i64 r.c, .int .i64 r.l, .int .i64 r.q, .int .i64 r.kind, .string (ba r.path), .string (ba r.to), .bool r.dir, .bool r.wr, .bool r.cl, .int .i64 r.h, .int .i64 r.nx, .int .i64 r.sw, .slice none 0 0, .slice bd nd cd] 36)).heap.size = w.heap.size + 1 + 1 + 1 := by simp
 go_enter Tryz.func16, Tryz.ntmps16
 go_wp2_with fail
 generalize ((w.alloc (.cells #[.int .i64 r.c, .int .i64 r.l, .int .i64 r.q, .int .i64 r.kind, .string (ba r.path), .string (ba r.to), .bool r.dir, .bool r.wr, .bool r.cl, .int .i64 r.h, .int .i64 r.nx, .int .i64 r.sw, .slice bs st.length cs, .slice bd nd cd] 41)).alloc (.cells #[.int .i64 0, .int .i64 0, .int .i64 0, .int .i64 0, .string ⟨#[]⟩, .string ⟨#[]⟩, .bool false, .bool false, .bool false, .int .i64 0, .int .i64 0, .int .i64 0, .slice none 0 0, .slice none 0 0] 36)).alloc (.cells #[.int .i64 r.c, .int .i64 r.l, .int .i64 r.q, .int .i64 r.kind, .string (ba r.path), .string (ba r.to), .bool r.dir, .bool r.wr, .bool r.cl, .int .i64 r.h, .int .i64 r.nx, .int .i64 r.sw, .slice none 0 0, .slice bd nd cd] 36) = w1 at *
 have HFA := Lib.hid fA
 have HK0 := Lib.hid k0
 have HK1 := Lib.hid k1
 have HK2 := Lib.hid k2
 have HSZ := Lib.hid hsz
 have HRA := Lib.hid (HR0.out.no HF0.out fA)
 have HFF : Hid (Fresh w1 o) := Lib.hid (Step.no (C := fun _ => False) HF0.out fA).fresh
 generalize hb0 : w.heap.size = b0 at *
 clear k0 k1 k2 fA hsz hb32 hb36
 go_loopw [4] (fun a wr => ∃ (j : Nat) (sv : Value), a = .int .i64 j ∧ j ≤ st.length ∧ Hid (wr.ownsRow w1.heap.size 114 4 sv j ((st.take j).flatMap szC)) ∧ Hid (wr.heap[b0 + 1 + 1]? = some (.cells #[.int .i64 r.c, .int .i64 r.l, .int .i64 r.q, .int .i64 r.kind, .string (ba r.path), .string (ba r.to), .bool r.dir, .bool r.wr, .bool r.cl, .int .i64 r.h, .int .i64 r.nx, .int .i64 r.sw, sv, .slice bd nd cd] 36 (0, 0))) ∧ Hid (Fr (fun k => k = b0 + 1 + 1) w1 wr)) (fun a _ => st.length - (intOf a).toNat)
 case atStart => exact ⟨0, .slice none 0 0, rfl, Nat.zero_le _, Lib.hid ⟨rfl, .inl ⟨rfl, rfl⟩⟩, HK2, Lib.hid (Fr.refl _)⟩
 case round =>
  obtain ⟨j, sv, rfl, hj, HO, HK, HF⟩ := hrel
  obtain ⟨a, cc, rfl⟩ := HO.out.shape
  have hsz := HSZ.out
  have c12 : wr.cell? ⟨b0, 12, none⟩ = some (.slice bs st.length cs) := HF.out.cell_of (by rw [cell_at HK0.out]; rfl) (by dsimp only; omega)
  have C12 := Lib.hid c12
  by_cases hlt : j < st.length
  ·have hne : st ≠ [] := by
    intro e
    subst e
    simp at hlt
   obtain ⟨b, off, rfl, ho, hbl, hrows⟩ := HRA.out.at hne
   have hbl1 : b < b0 := by
    obtain ⟨b', off', e, _, hb', _⟩ := HR0.out.at hne
    cases e
    rw [← hb0]
    exact hb'
   have HX0 := hrows j st[j] (List.getElem?_eq_getElem hlt)
   have q1 : (j : Int) < (st.length : Int) := by omega
   have q3 : (0 : Int) ≤ (j : Int) := by omega
   have hbig : st.length ≤ 1000 := HLS.out
   have HTK : Hid (st.take (j + 1) = st.take j ++ [st[j]]) := Lib.hid (by rw [List.take_add_one, List.getElem?_eq_getElem hlt]; rfl)
   have HTL : Hid ((st.take j).length = j) := Lib.hid (by rw [List.length_take]; omega)
   generalize st[j] = x at *
   unfold szC at HX0
   have fwd : Fr (fun k => k = b0 + 1 + 1) w1 wr.drew := HF.out.drew
   have HRX : Hid (wr.drew.rangeAt b (off + j * 4) [.int .i64 x.1.1, .int .i64 x.1.2.1, .int .i64 x.1.2.2, .int .i64 x.2]) := Lib.hid (fun i u hi => fwd.cell_of (HX0 i u hi) (by dsimp only; omega))
   have R3 : Hid (wr.drew.rangeAt b (off + j * 4) [.int .i64 x.1.1, .int .i64 x.1.2.1, .int .i64 x.1.2.2]) := Lib.hid (fun i u hi => HRX.out i u (by
    match i, hi with
    | 0, hi => exact hi
    | 1, hi => exact hi
    | 2, hi => exact hi))
   have P3 : Hid (wr.drew.cell? ⟨b, off + j * 4 + 3, none⟩ = some (.int .i64 x.2)) := Lib.hid (HRX.out 3 _ rfl)
   have D12 : Hid (wr.drew.cell? ⟨b0, 12, none⟩ = some (.slice (some ⟨b, off, none⟩) st.length cs)) := Lib.hid ((Fr.refl (S := No) wr).drew.cell_of C12.out id)
   have T12 : Hid (wr.drew.cell? ⟨b0 + 1 + 1, 12, none⟩ = some (.slice a j cc)) := Lib.hid ((Fr.refl (S := No) wr).drew.cell_of (by rw [cell_at HK.out]; rfl) id)
   have HOD := Lib.hid (own114_fr HO.out (Fr.refl (S := No) wr).drew (fun _ _ e => e))
   have HKD := Lib.hid ((Fr.refl (S := No) wr).drew.block_of HK.out id)
   have HFD := Lib.hid fwd
   have hbd : ∀ W : World, (Instr.build 114 #[(0, .agg #[.int .i64 x.1.1, .int .i64 x.1.2.1, .int .i64 x.1.2.2]), (1, .int .i64 x.2)]).run Tryz.prog W = .ok (.agg #[.int .i64 x.1.1, .int .i64 x.1.2.1, .int .i64 x.1.2.2, .int .i64 x.2]) W := fun W => by kernel_rfl
   have HBD := Lib.hid hbd
   clear HX0 hrows fwd hbd ho hbl
   go_wp2_with fail
   obtain ⟨WA, hWA⟩ : ∃ WA, wr.drew.alloc (.cells #[.int .i64 x.1.1, .int .i64 x.1.2.1, .int .i64 x.1.2.2, .int .i64 x.2] 114) = WA := ⟨_, rfl⟩
   have HWA := Lib.hid hWA
   have HFS : Hid (∀ (d : Bool) (W : World), (if d = true then W = WA else W = wr.drew) → Fr No wr.drew W) := Lib.hid (fun d W h => by
    cases d with
    | true => rw [if_pos rfl] at h; rw [h, ← hWA]; exact (Fr.refl _).alloc _
    | false => rw [if_neg (by simp)] at h; rw [h]; exact Fr.refl _)
   clear hWA
   refine wp_region_turn mixed (fun d W => if d = true then W = WA else W = wr.drew) 15 [15, 16, 17, 18] [16] (by kernel_rfl) (by kernel_rfl) (by kernel_rfl) (by kernel_rfl) (fun _ _ d _ _ h => by cases d <;> exact h) rfl ?_
   repeat (first
    | refine seqXF_skip (by rfl) ?_
    | (refine seqXF_val (v := ?_) (by rfl) (by rfl) ?_ ?_
       rotate_left 1
       (intro W; have hv0 := HBD.out W; go_simp; (try with_reducible rfl))
       simp only [Act.put, lsA, lsZ, lsS])
    | (refine seqXF_valS (v := .agg #[.int .i64 x.1.1, .int .i64 x.1.2.1, .int .i64 x.1.2.2]) (by rfl) (by kernel_rfl) (by rfl) (fun d W hS => exec_load_mid 46 (.tmp 49) (by rfl) b (off + j * 4) (by rfl) [.int .i64 x.1.1, .int .i64 x.1.2.1, .int .i64 x.1.2.2] _ (fun i u hi => (HFS.out d W hS).cell_of (R3.out i u hi) id) Tryz.underlying46 rfl Tryz.size46) ?_
       simp only [Act.put, lsA, lsZ, lsS])
    | (refine seqXF_valS (v := ?_) (by rfl) (by kernel_rfl) (by rfl) ?_ ?_
       rotate_left 1
       (intro d W hS; have e0 : W.cell? ⟨b0, 12, none⟩ = some (.slice (some ⟨b, off, none⟩) st.length cs) := (HFS.out d W hS).cell_of D12.out id; have e1 : W.cell? ⟨b0 + 1 + 1, 12, none⟩ = some (.slice a j cc) := (HFS.out d W hS).cell_of T12.out id; have e2 : W.cell? ⟨b, off + j * 4 + 3, none⟩ = some (.int .i64 x.2) := (HFS.out d W hS).cell_of P3.out id; clear hS; go_simp; (try with_reducible rfl))
       simp only [Act.put, lsA, lsZ, lsS]))
   unfold seqXF
   refine endF_val (v := .slice (some ⟨wr.drew.heap.size, 0, none⟩) 1 1) (by rfl) (by rfl) (by rfl) (fun W hS => ⟨WA, by obtain rfl : W = wr.drew := hS; go_simp; exact HWA.out, rfl⟩) ?_
   simp only [Act.put, lsA, lsZ, lsS]
   refine endF_list (by rfl) (by rfl) ?_
   intro W hS
   obtain rfl : W = WA := hS
   simp only [List.filterMap_cons, List.filterMap_nil, List.getElem?_toArray, List.getElem?_cons_succ, List.getElem?_cons_zero, List.getElem_toArray, List.getElem_cons_succ, List.getElem_cons_zero, Act.put, lsA, lsZ, lsS]
   have hszl := HFD.out.size
   have HOWA : Hid (W.ownsRow w1.heap.size 114 4 (.slice a j cc) j ((st.take j).flatMap szC)) := Lib.hid (by rw [← HWA.out]; exact HOD.out.alloc _)
   clear hsz
   refine wpList_append_lies _ (by rfl) _ _ 33 (by rfl) w1.heap.size 114 i0 _ 4 32 Tryz.underlying33 HI.out HZ0.out HZ1.out HZ2.out rfl (by decide) (.slice a j cc) j ((st.take j).flatMap szC) (by rfl) HOWA.out ⟨wr.drew.heap.size, 0, none⟩ 1 1 [.int .i64 x.1.1, .int .i64 x.1.2.1, .int .i64 x.1.2.2, .int .i64 x.2] (by rfl) (by rfl) ?d1 (by simp [Value.oneCell']) (by decide) (by unfold maxLen; omega) (by omega) ?d5 (wr.drew.heap.size + 1) ?d6 ?_
   case d1 => exact World.news_of_block (cs := #[.int .i64 x.1.1, .int .i64 x.1.2.1, .int .i64 x.1.2.2, .int .i64 x.2]) (t := 114) (fr := (0, 0)) (by rw [← HWA.out]; exact heap_alloc_new wr.drew _)
   case d5 => rw [← HWA.out, heap_size_alloc]; omega
   case d6 => rw [← HWA.out, heap_size_alloc]
   intro gg cap wD hownD hgrow hat hgl
   have hsz := HSZ.out
   have hFB : Fr (fun k => w1.heap.size ≤ k) wr wD := (by rw [← HWA.out]; exact ((Fr.refl (S := fun k => w1.heap.size ≤ k) wr).drew.alloc _) : Fr (fun k => w1.heap.size ≤ k) wr W).grown hgrow (fun j hj => .inl (own114_base HOD.out j hj))
   have hFT : Fr (fun k => k = b0 + 1 + 1) w1 wD := (by rw [← HWA.out]; exact HF.out.drew.alloc _ : Fr (fun k => k = b0 + 1 + 1) w1 W).grown hgrow (fun j hj => .inr (own114_base HOD.out j hj))
   have kD := hFB.block_of HK.out (by omega)
   have cD : wD.cell? ⟨b0 + 1 + 1, 12, none⟩ = some (.slice a j cc) := by rw [cell_at kD]; rfl
   have zD := frozen_at kD 12
   have KE : Hid ((wD.setCell ⟨b0 + 1 + 1, 12, none⟩ (.slice (some ⟨gg, 0, none⟩) (j + 1) cap)).heap[b0 + 1 + 1]? = some (.cells #[.int .i64 r.c, .int .i64 r.l, .int .i64 r.q, .int .i64 r.kind, .string (ba r.path), .string (ba r.to), .bool r.dir, .bool r.wr, .bool r.cl, .int .i64 r.h, .int .i64 r.nx, .int .i64 r.sw, .slice (some ⟨gg, 0, none⟩) (j + 1) cap, .slice bd nd cd] 36 (0, 0))) := Lib.hid (by simpa using setCell_at kD 12 (.slice (some ⟨gg, 0, none⟩) (j + 1) cap))
   have FE : Hid (Fr (fun k => k = b0 + 1 + 1) w1 (wD.setCell ⟨b0 + 1 + 1, 12, none⟩ (.slice (some ⟨gg, 0, none⟩) (j + 1) cap))) := Lib.hid (hFT.setCell (.inl rfl) _)
   have OE : Hid ((wD.setCell ⟨b0 + 1 + 1, 12, none⟩ (.slice (some ⟨gg, 0, none⟩) (j + 1) cap)).ownsRow w1.heap.size 114 4 (.slice (some ⟨gg, 0, none⟩) (j + 1) cap) (j + 1) ((st.take (j + 1)).flatMap szC)) := Lib.hid (by
    have e : (st.take (j + 1)).flatMap szC = (st.take j).flatMap szC ++ [.int .i64 x.1.1, .int .i64 x.1.2.1, .int .i64 x.1.2.2, .int .i64 x.2] := by
     rw [HTK.out, List.flatMap_append]
     simp [szC]
    rw [e]
    exact own114_fr hownD (fr_set wD (b0 + 1 + 1) 12 _) (fun k hk e => by
     have := own114_base hownD k hk
     omega))
   clear hownD hgrow hat hgl hFB hFT kD hsz
   go_wp2_with fail
   go_roundw
   case rel => exact ⟨j + 1, _, by go_num, hlt, OE, KE, FE⟩
   case measure => simp [intOf]; omega
  ·have hjl : j = st.length := by omega
   have q1 : ¬ (j : Int) < (st.length : Int) := by omega
   have K1 := Lib.hid (HF.out.block_of HK1.out (by omega))
   have HOC := Lib.hid (show (#[.int .i64 r.c, .int .i64 r.l, .int .i64 r.q, .int .i64 r.kind, .string (ba r.path), .string (ba r.to), .bool r.dir, .bool r.wr, .bool r.cl, .int .i64 r.h, .int .i64 r.nx, .int .i64 r.sw, .slice a j cc, .slice bd nd cd] : Array Value).all (·.oneCell') = true from by simp [Value.oneCell'])
   have HOS : Hid (wr.ownsRow w1.heap.size 114 4 (.slice a j cc) st.length (st.flatMap szC)) := Lib.hid (by have := HO.out; rw [hjl, List.take_length] at this; rw [hjl]; exact this)
   have HB := Lib.hid hb0
   clear hjl hsz
   go_wp2_with (first | (refine wpList_load_row rfl 36 (.tmp 3) rfl (b0 + 1 + 1) rfl 36 _ (0, 0) _ HK.out Tryz.underlying36 rfl Tryz.size36 ?_) | (refine wpList_store_row rfl 36 (.tmp 2) (.tmp 61) rfl (b0 + 1) #[.int .i64 r.c, .int .i64 r.l, .int .i64 r.q, .int .i64 r.kind, .string (ba r.path), .string (ba r.to), .bool r.dir, .bool r.wr, .bool r.cl, .int .i64 r.h, .int .i64 r.nx, .int .i64 r.sw, .slice a j cc, .slice bd nd cd] rfl rfl 36 _ K1.out Tryz.size36 rfl HOC.out ?_))
   have KF := setRow_at (cs' := #[.int .i64 r.c, .int .i64 r.l, .int .i64 r.q, .int .i64 r.kind, .string (ba r.path), .string (ba r.to), .bool r.dir, .bool r.wr, .bool r.cl, .int .i64 r.h, .int .i64 r.nx, .int .i64 r.sw, .slice a j cc, .slice bd nd cd]) K1.out
   have FS : Fr (fun k => k = b0 + 1) wr (wr.setRow (b0 + 1) #[.int .i64 r.c, .int .i64 r.l, .int .i64 r.q, .int .i64 r.kind, .string (ba r.path), .string (ba r.to), .bool r.dir, .bool r.wr, .bool r.cl, .int .i64 r.h, .int .i64 r.nx, .int .i64 r.sw, .slice a j cc, .slice bd nd cd]) := Fr.setRow (S := fun k => k = b0 + 1) (Fr.refl _) (.inl rfl) _
   refine bodyPost_ret (v := .agg #[.int .i64 r.c, .int .i64 r.l, .int .i64 r.q, .int .i64 r.kind, .string (ba r.path), .string (ba r.to), .bool r.dir, .bool r.wr, .bool r.cl, .int .i64 r.h, .int .i64 r.nx, .int .i64 r.sw, .slice a j cc, .slice bd nd cd]) (results_cell_row rfl _ _ (b0 + 1) 36 _ (0, 0) _ rfl KF Tryz.underlying36 rfl Tryz.size36) rfl ?_
   have hsz := HSZ.out
   have hbb := HB.out
   exact HQ.out _ _ (own_rows (own114_fr HOS.out FS (fun k hk e => by
    have := own114_base HOS.out k hk
    omega)) (fun k hk => HFF.out k hk)) (HFA.out.trans ((HF.out.mono (T := fun k => k = b0 + 1 ∨ k = b0 + 1 + 1) (fun _ _ e => Or.inr e)).trans FS (fun _ _ e => Or.inl e)) (fun j hj e => by omega))
end Go.Proofs.YtlcojhddnpmgmaaGreat
