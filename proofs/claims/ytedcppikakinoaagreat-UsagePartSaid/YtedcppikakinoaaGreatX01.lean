/- Part of a proof. -/
import Derived.Test.YtedcppikakinoaaGreatProg
import Derived.Deep.MidRow
import Derived.Lib.Hide
import Derived.OrdersHeld
import Derived.Tactics
import Derived.WalkKit
import Derived.WalkLawsBesides
import Derived.WalkSpells
set_option linter.unusedSimpArgs false
set_option linter.unusedVariables false
set_option linter.defProp false
set_option maxRecDepth 100000
namespace Go.RowKit
theorem Hid.o {p:Prop} (h:Hid p):p:=h
end Go.RowKit
namespace Go.Proofs.YtedcppikakinoaaGreat
open Go.Proofs.Tryz Go.RowKit
abbrev AA:=@if_neg
abbrev AB:=@List.length_append
abbrev AC:=@List.getElem?_eq_getElem
abbrev AL:=@if_pos
abbrev AO:=@List.length_singleton
abbrev AP:=@Nat.lt_of_lt_of_le
abbrev AQ:=@heap_alloc_new
abbrev AU:=@Nat.le_refl
abbrev AV:=@Nat.le_trans
abbrev AX:=@List.getElem?_eq_some_iff
abbrev AY:=@List.take_length
abbrev AZ:=@bodyPost_ret
abbrev BA:=@Nat.zero_le
abbrev BB:=@List.mem_singleton
abbrev BC:=@congrArg
abbrev BD:=@results_cell_row
abbrev BF:=@decide_eq_false
abbrev BG:=@IntKind.wrap_i64
abbrev BH:=@List.mem_cons_of_mem
abbrev BI:=@Classical.byContradiction
abbrev BJ:=@Nat.lt_or_ge
abbrev BK:=@List.mem_cons_self
abbrev BL:=@List.getElem_mem
abbrev BM:=@Bool.and_eq_true
abbrev BN:=@List.mem_append
abbrev BO:=@decide_eq_true
abbrev BP:=@Nat.zero_add
abbrev BQ:=@wpList_store_row
abbrev BR:=@decide_eq_true_eq
abbrev BU:=@List.length_cons
abbrev BV:=@List.length_take
abbrev BX:=@Nat.add_zero
abbrev BZ:=@Nat.le_succ
abbrev CB:=@Int.natCast_nonneg
abbrev CE:=@List.mem_cons
abbrev CG:=@List.mem_range
abbrev CJ:=@Array.getElem?_eq_none
abbrev CO:=@wpList_load_row
abbrev CP:=@List.cons_append
abbrev CQ:=@beq_eq_false_iff_ne
abbrev CS:=@Array.getElem?_toList
abbrev CU:=@List.eq_nil_of_length_eq_zero
abbrev CV:=@Bool.toNat_false
abbrev CW:=@Option.map_eq_some_iff
abbrev CX:=@List.mem_of_find?_eq_some
abbrev CY:=@Int.ofNat_lt
abbrev CZ:=@Bool.toNat_true
abbrev DC:=@Bool.false_eq_true
abbrev DF:=@List.reverse_cons
abbrev DI:=@Nat.mul_le_mul_right
abbrev DJ:=@List.take_add_one
abbrev DK:=@List.nil_append
abbrev DL:=@List.drop_eq_getElem_cons
abbrev DN:=@List.flatMap_cons
abbrev DR:=@World.rangeAt_of_block
abbrev DT:=@List.reverse_nil
abbrev DU:=@List.mem_of_getElem?
abbrev DV:=@decide_eq_false_iff_not
abbrev DW:=@Array.setIfInBounds_comm
abbrev DX:=@List.pairwise_cons
abbrev DY:=@Int.lt_irrefl
abbrev DZ:=@List.filterMap_cons
abbrev EC:=@run_underlying
abbrev ED:=@List.getElem?_cons_succ
abbrev EE:=@of_decide_eq_true
abbrev EF:=@Array.getD_eq_getD_getElem?
abbrev EG:=@List.filter_append
abbrev EH:=@List.getElem?_take
abbrev EI:=@MapKept.run_getObj_map
abbrev EJ:=@List.drop_eq_nil_of_le
abbrev EK:=@Option.isSome_iff_exists
abbrev EL:=@info_parts
abbrev EM:=@Ne.symm
abbrev EN:=@List.append_nil
abbrev EO:=@List.length_nil
abbrev EP:=@List.length_map
abbrev EQ:=@List.getElem?_cons_zero
abbrev ER:=@Nat.eq_zero_or_pos
abbrev ES:=@List.find?_eq_none
abbrev ET:=@List.map_cons
abbrev EU:=@List.flatMap_append
abbrev EW:=@wpList_load_mid
abbrev EX:=@ready_mono
abbrev EY:=@List.all_eq_true
abbrev EZ:=@List.length_set
abbrev FB:=@List.getElem?_map
abbrev FC:=@mem_ready
abbrev FD:=@Nat.shiftLeft_eq
abbrev FH:=@List.take_of_length_le
abbrev FI:=@Act.put_comm
abbrev FK:=@Nat.pow_add
abbrev FM:=@List.take_succ_cons
abbrev FN:=@List.length_eq_zero_iff
abbrev FO:=@Option.some.injEq
abbrev FP:=@if_false
abbrev FQ:=@Array.getElem?_eq_getElem
abbrev FT:=@List.mem_of_mem_take
abbrev FU:=@List.filterMap_nil
abbrev FV:=@MapKept.run_setObj_map
abbrev FW:=@List.take_zero
abbrev FX:=@Option.some.inj
abbrev FY:=@List.take_succ_eq_append_getElem
abbrev FZ:=@List.getElem?_eq_none
abbrev GG:=@List.getElem?_toArray
abbrev GH:=@Int.toNat_natCast
abbrev GI:=@Nat.two_pow_pos
abbrev GK:=@List.mem_append_left
abbrev GL:=@List.filter_cons
abbrev GM:=@rounds_succ
abbrev GN:=@List.flatMap_nil
abbrev GR:=@List.getElem?_append_left
abbrev GU:=@List.sum_cons
abbrev GV:=@List.mem_iff_getElem?
abbrev GX:=@List.map_append
abbrev GY:=@List.mem_filter
abbrev GZ:=@List.getElem?_drop
abbrev HY:=@Region.noSelect_spec
abbrev IA:=@Tryz.underlying4
abbrev IB:=@List.length_drop
abbrev IC:=@List.mem_map
abbrev IE:=@List.getElem?_append_right
abbrev IG:=@bodyPost_end
abbrev II:=@Prod.mk.injEq
abbrev IJ:=@List.cons.injEq
abbrev IK:=@if_true
abbrev IL:=@UInt8.lt_iff_toNat_lt
abbrev IM:=@wpOp_mono
abbrev IP:=@Array.getElem?_replicate
abbrev IQ:=@List.getElem?_take_of_lt
abbrev IR:=@of_decide_eq_false
abbrev IU:=@getD_set_ne
abbrev IV:=@Nat.pow_le_pow_right
abbrev IW:=@wp_loop_rounds
abbrev IX:=@List.length_range
abbrev IY:=@List.append_assoc
abbrev IZ:=@List.foldl_append
abbrev JA:=@Bool.or_eq_true
abbrev JB:=@Tryz.zeroValue4
abbrev JC:=@Nat.mul_lt_mul_of_pos_right
abbrev JD:=@List.map_congr_left
abbrev JE:=@Nat.succ_mul
abbrev JF:=@Int.le_refl
abbrev JG:=@List.isPrefixOf_iff_prefix
abbrev JH:=@Region.free_spec
abbrev JI:=@Tryz.underlying3
abbrev JJ:=@eq_of_beq
abbrev JK:=@Nat.div_lt_iff_lt_mul
abbrev JL:=@List.countP_le_length
abbrev JM:=@List.eq_nil_or_concat
abbrev JO:=@List.length_filter_le
abbrev JP:=@Option.toList_some
abbrev JQ:=@decide_eq_true_iff
abbrev JR:=@List.mem_append_right
abbrev JS:=@Nat.mul_one
abbrev JU:=@Tryz.zeroValue3
abbrev JV:=@bne_iff_ne
abbrev JW:=@List.pairwise_append
abbrev JX:=@List.getElem!_eq_getElem?_getD
abbrev JY:=@Int.lt_trichotomy
abbrev JZ:=@Option.bind_eq_some_iff
abbrev KA:=@Array.toList_modify
abbrev KC:=@List.length_pos_iff
abbrev KD:=@Array.getElem?_setIfInBounds
abbrev KE:=@List.countP_cons
abbrev KF:=@World.rangeAt_setCells_apart
abbrev KG:=@List.drop_length
abbrev KH:=@wpList_store_mid
abbrev KI:=@Bool.not_eq_true
abbrev KJ:=@List.drop_zero
abbrev KN:=@Tryz.sizeOf4
abbrev KO:=@Addr.add_lit
abbrev KP:=@Array.getElem?_modify
abbrev KQ:=@List.length_replicate
abbrev KR:=@List.find?_some
abbrev KT:=@List.concat_eq_append
abbrev KU:=@Array.getElem?_eq_some_iff
abbrev KW:=@Array.toList_push
abbrev KX:=@Value.slice.injEq
abbrev KY:=@List.mem_or_eq_of_mem_set
abbrev KZ:=@List.pairwise_iff_getElem
abbrev LC:=@Tryz.isAgg4
abbrev LD:=@Tryz.sizeOf3
abbrev LG:=@Tryz.underlying5
abbrev LH:=@Tryz.underlying9
abbrev LJ:=@Tryz.underlying0
abbrev LK:=@Nat.mul_comm
abbrev LM:=@Bool.eq_false_or_eq_true
abbrev LP:=@List.filter_eq_self
abbrev LQ:=@List.drop_succ_cons
abbrev LU:=@Array.getElem?_setIfInBounds_ne
abbrev LW:=@execOp_put
abbrev LX:=@Tryz.zeroValue9
abbrev LY:=@wpS_region
abbrev LZ:=@Tryz.zeroValue0
abbrev MB:=@Nat.min_eq_left
abbrev MC:=@List.nodup_cons
abbrev MF:=@List.countP_append
abbrev MH:=@Exit.noGoto_ret
abbrev MI:=@Bool.eq_iff_iff
abbrev MJ:=@List.mem_filterMap
abbrev MK:=@Tryz.isAgg3
abbrev ML:=@Maps.has_true_of_atKey
abbrev MM:=@Nat.add_mul
abbrev MN:=@List.getElem?_set_self
abbrev MO:=@Bool.not_eq_true'
abbrev MP:=@List.size_toArray
abbrev MQ:=@List.filterMap_append
abbrev MR:=@Nat.le_of_lt
abbrev MS:=@Nat.zero_mul
abbrev MV:=@List.foldl_nil
abbrev MW:=@Array.getElem?_setIfInBounds_self_of_lt
abbrev MX:=@Array.getElem?_append_left
abbrev MZ:=@List.exists_cons_of_ne_nil
abbrev NC:=@List.getD_eq_getElem?_getD
abbrev ND:=@leaves_cons
abbrev NE:=@List.getElem_of_mem
abbrev NF:=@Array.length_toList
abbrev NG:=@List.mergeSort_perm
abbrev NH:=@List.range_succ
abbrev NI:=@Tryz.zeroValue5
abbrev NJ:=@List.foldl_cons
abbrev NK:=@run_loadVar_row
abbrev NL:=@grownCap_le_maxLen
abbrev NM:=@List.filterMap_cons_none
abbrev NP:=@List.countP_cons_of_neg
abbrev NQ:=@List.pairwise_mergeSort
theorem X {p:Prop} (h:p:=by omega):p:=h
theorem R {p:Prop} (h:p:=by rfl):p:=h
theorem N {p:Prop} (h:p:=by kernel_rfl):p:=h
theorem G {p:Prop} (h:p:=by decide):p:=h
theorem D {p:Prop} (h:p:=by simp):p:=h
theorem U {p q:Prop} (h:p) (k:p→q:=by intro h;simpa using h):q:=k h
theorem lH {p:Prop} (h:p):Hid p:=Lib.hid h
theorem zq {α:Type _} {p q:α->Prop} (j:α) (_:p j) (e:q j):q j:=e
theorem pT {l:List Value} {r} {d:Nat} {v:Value}:Act.put ⟨l.toArray,r⟩ (some d) v=⟨(l.set d v).toArray,r⟩:=by simp only [Act.put,List.setIfInBounds_toArray]
theorem lsA {α:Type _} {l:List α} {i:Nat} {a:α}:l.toArray.setIfInBounds i a=(l.set i a).toArray:=List.setIfInBounds_toArray ..
theorem aI {α:Type _} {x a:α} {xs:List α}:(x::xs).set 0 a=a::xs:=List.set_cons_zero
theorem lsS {α:Type _} {x a:α} {xs:List α} {n:Nat}:(x::xs).set (n+1) a=x::xs.set n a:=List.set_cons_succ
structure Fr (S:Nat->Prop) (w w':World):Prop where
 os:w'.os=w.os
 tape:w'.tape=w.tape
 output:w'.output=w.output
 size:w.heap.size<=w'.heap.size
 block:∀k,k<w.heap.size->¬S k->w'.heap[k]? =w.heap[k]?
def No (_:Nat):Prop:=False
theorem Fr.refl {S:Nat->Prop} (w:World):Fr S w w:=⟨rfl,rfl,rfl,AU _,λ_ _ _=>rfl⟩
theorem Fr.trans {S T:Nat->Prop} {a b c:World} (h:Fr S a b) (k:Fr T b c) (A:∀j,j<a.heap.size->T j->S j):Fr S a c:=
 ⟨k.os.trans h.os,k.tape.trans h.tape,k.output.trans h.output,AV h.size k.size,λj r u=>(k.block j (AP r h.size) (λB=>u (A j r B))).trans (h.block j r u)⟩
theorem Fr.mono {S T:Nat->Prop} {a b:World} (h:Fr S a b) (u:∀j,j<a.heap.size->S j->T j):Fr T a b:=
 ⟨h.os,h.tape,h.output,h.size,λj r A=>h.block j r (λB=>A (u j r B))⟩
theorem Fr.drew {S:Nat->Prop} {a b:World} (h:Fr S a b):Fr S a b.drew:=⟨h.os,h.tape,h.output,h.size,h.block⟩
theorem Fr.drewN {S:Nat->Prop} {a b:World} (h:Fr S a b) (n:Nat):Fr S a (b.drewN n):=⟨h.os,h.tape,h.output,h.size,h.block⟩
theorem Fr.of_below {S:Nat->Prop} {r:Nat} {a b:World} (h:Below r a b) (u:a.heap.size<=r):Fr S a b:=
 ⟨h.os,h.tape,h.output,h.size,λk A _=>h.block k (AP A u)⟩
theorem Fr.below {S:Nat->Prop} {r:Nat} {a b:World} (h:Fr S a b) (A:r<=a.heap.size) (B:∀k,k<r->¬S k):Below r a b:=
 ⟨h.os,h.tape,h.output,h.size,λk u=>h.block k (AP u A) (B k u)⟩
theorem Fr.alloc {S:Nat->Prop} {a b:World} (h:Fr S a b) (o:Obj):Fr S a (b.alloc o):=
 ⟨h.os,h.tape,h.output,AV h.size D,λk r u=>(Below.heap_alloc _ _ _ (AP r h.size)).trans (h.block k r u)⟩
theorem Fr.setCell {S:Nat->Prop} {a b:World} (h:Fr S a b) {p:Addr} (r:S p.block\/a.heap.size<=p.block) (v:Value):Fr S a (b.setCell p v):=
 ⟨h.os,h.tape,h.output,by simpa [World.setCell] using h.size,λk A u=>(Below.heap_setCell _ _ _ _ (by
  rintro rfl;rcases r with r|r
  ·exact u r
  ·omega)).trans (h.block k A u)⟩
theorem Fr.grown {S:Nat->Prop} {a b c:World} {row:Option Nat} (h:Fr S a b) (r:b.grownBy c row) (E:∀k,row=some k->S k\/a.heap.size<=k):Fr S a c:=
 ⟨r.os.trans h.os,r.tape.trans h.tape,r.output.trans h.output,AV h.size r.size,λk u A=>(r.block k (AP u h.size) (λe=>by
  rcases E k e.symm with B|B
  ·exact A B
  ·omega)).trans (h.block k u A)⟩
theorem Fr.cell {S:Nat->Prop} {a b:World} (h:Fr S a b) {p:Addr} (u:p.block<a.heap.size) (r:¬S p.block):b.cell? p=a.cell? p:=World.cell?_of_block (w:=a) (h.block p.block u r)
theorem Fr.frozen {S:Nat->Prop} {a b:World} (h:Fr S a b) {p:Addr} (u:p.block<a.heap.size) (r:¬S p.block):b.frozen? p=a.frozen? p:=World.frozen?_of_block (w:=a) (h.block p.block u r)
theorem lt_of_cell {w:World} {p:Addr} {v:Value} (h:w.cell? p=some v):p.block<w.heap.size:=by
 rcases BJ p.block w.heap.size with r|r;{exact r};{simp [World.cell?,CJ r] at h}
theorem lt_of_block {w:World} {k:Nat} {o:Obj} (h:w.heap[k]? =some o):k<w.heap.size:=by
 rcases BJ k w.heap.size with r|r;{exact r};{simp [CJ r] at h}
theorem Fr.cell_of {S:Nat->Prop} {a b:World} (h:Fr S a b) {p:Addr} {v:Value} (r:a.cell? p=some v) (u:¬S p.block):b.cell? p=some v:=by
 rw [h.cell (lt_of_cell r) u];exact r
theorem Fr.aB {S:Nat->Prop} {a b:World} (h:Fr S a b) {k:Nat} {o:Obj} (r:a.heap[k]? =some o) (u:¬S k):b.heap[k]? =some o:=by
 rw [h.block k (lt_of_block r) u];exact r
theorem Fr.no {S:Nat->Prop} {a b:World} (h:Fr S a b) (r:∀k,k<a.heap.size->¬S k):Fr No a b:=h.mono (λj u A=>r j u A)
theorem Fr.aY {S:Nat->Prop} {a b:World} (h:Fr No a b):Fr S a b:=h.mono (λ_ _ r=>r.elim)
theorem setCell_at {w:World} {b:Nat} {cs:Array Value} {t:TypeId} {r:Nat×Nat} (h:w.heap[b]? =some (.cells cs t r)) (j:Nat) (v:Value):
  (w.setCell ⟨b,j,none⟩ v).heap[b]? =some (.cells (cs.setIfInBounds j v) t r):=by
 simp [World.setCell,KP,h]
theorem Ac {w:World} {b k:Nat} {o:Obj} (h:w.heap[k]? =some o) (r:k≠b) (j:Nat) (v:Value):(w.setCell ⟨b,j,none⟩ v).heap[k]? =some o:=by
 rw [Below.heap_setCell _ _ _ _ r];exact h
theorem aA {w:World} {b:Nat} {cs:Array Value} {t:TypeId} {r:Nat×Nat} (h:w.heap[b]? =some (.cells cs t r)) (j:Nat):w.cell? ⟨b,j,none⟩=cs[j]? :=by
 simp [World.cell?,h]
theorem aU {w:World} {b:Nat} {cs:Array Value} {t:TypeId} (h:w.heap[b]? =some (.cells cs t (0,0))) (j:Nat):w.frozen? ⟨b,j,none⟩=false:=by
 simp [World.frozen?,h]
def I64 (x:Int):Prop:= -9223372036854775808<=x/\x<=9223372036854775807
theorem aQ (w:World) (o:Obj):(w.alloc o).heap[w.heap.size]? =some o:=(MapKept.heap_alloc w o).1
theorem dZ (w:World) (b j:Nat) (v:Value):Fr (· =b) w (w.setCell ⟨b,j,none⟩ v):=Fr.setCell (S:=(· =b)) (p:=⟨b,j,none⟩) (Fr.refl _) (.inl rfl) _
theorem Fr.setRow {S:Nat->Prop} {a b:World} (h:Fr S a b) {g:Nat} (r:S g\/a.heap.size<=g) (cs:Array Value):Fr S a (b.setRow g cs):=by
 refine ⟨h.os,h.tape,h.output,by simpa [World.setRow] using h.size,λk A u=> ?_⟩;rw [<-h.block k A u];simp only [World.setRow,KP];rw [AA (by
  rintro rfl;rcases r with r|r;{exact u r}
  ·omega)]
theorem aX {w:World} {b:Nat} {cs cs':Array Value} {t:TypeId} {r:Nat×Nat} (h:w.heap[b]? =some (.cells cs t r)):(w.setRow b cs').heap[b]? =some (.cells cs' t r):=by
 simp [World.setRow,KP,h]
theorem map_none {P:Program} {w:World} {d:TypeDesc} (A r u:TypeId) (B clock:Nat) (es:Array MapEntry) (k z:Value) (aa:P.underlying A=some (.map r u)) (hd:P.underlying r=some d) (V:MapKept.IsKey d k)
  (E:w.heap[B]? =some (.map es clock)) (J:Instr.findNow d k es.toList 0=some none) (ab:(zeroValue u).run P w=.ok z w) (ok:Bool):
  (Instr.lookup A (.map (some B)) k ok).run P w=.ok (if ok then .tuple #[z,.bool false] else z) w:=by
 have H:∀e,(Instr.checkKey e 10000 r k).run P w=.ok () w:=λe=>MapKept.run_checkKey hd V e 9999;simp [Instr.lookup,EC aa,EI E,H,MapKept.run_findKey hd J,ab]
instance:Coe Int Value:=⟨.int .i64⟩
instance:Coe Nat Value:=⟨λn=> .int .i64 n⟩
instance:Coe Bool Value:=⟨.bool⟩
instance:Coe ByteArray Value:=⟨.string⟩
instance:Coe World Nat:=⟨λw=>w.heap.size⟩
inductive QA|I (b o:Nat)
abbrev I:=QA.I
instance (b o:Nat):CoeDep QA (.I b o) Addr:=⟨⟨b,o,none⟩⟩
instance (b o:Nat):CoeDep (Option QA) (some (.I b o)) (Option Addr):=⟨some ⟨b,o,none⟩⟩
inductive Qv|Z (x:Int)|Y (b:Nat)|O (b l c:Nat)|nS|cE (x:Int)
abbrev Z:=Qv.Z
abbrev Y:=Qv.Y
abbrev O:=Qv.O
abbrev nS:=Qv.nS
abbrev cE:=Qv.cE
instance (x:Int):CoeDep Qv (.Z x) Value:=⟨.int .i64 x⟩
instance (b:Nat):CoeDep Qv (.Y b) Value:=⟨.pointer (some ⟨b,0,none⟩)⟩
instance (b l c:Nat):CoeDep Qv (.O b l c) Value:=⟨.slice (some ⟨b,0,none⟩) l c⟩
instance:CoeDep Qv .nS Value:=⟨.slice none 0 0⟩
instance (x:Int):CoeDep (Option Qv) (some (.Z x)) (Option Value):=⟨some (.int .i64 x)⟩
instance (b:Nat):CoeDep (Option Qv) (some (.Y b)) (Option Value):=⟨some (.pointer (some ⟨b,0,none⟩))⟩
instance (b l c:Nat):CoeDep (Option Qv) (some (.O b l c)) (Option Value):=⟨some (.slice (some ⟨b,0,none⟩) l c)⟩
instance:CoeDep (Option Qv) (some .nS) (Option Value):=⟨some (.slice none 0 0)⟩
instance (x:Int):CoeDep Qv (.cE x) (Array Value):=⟨#[.int .i64 x,.int .i64 0,.int .i64 0,.int .i64 0,.int .i64 0,.bool false,.slice none 0 0,.slice none 0 0]⟩
class kQ (P:Program) (ty:TypeId) (n:outParam Nat):Prop where
 und:∃d,P.underlying ty=some d/\d.isRow=true/\(match d with| .struct _| .array _ _=>true|_=>false)=true
 sz:(P.info? ty).map (·.size)=some n
instance:kQ prog 29 8:=⟨⟨_,underlying29,rfl,rfl⟩,by kernel_rfl⟩
instance:kQ prog 36 14:=⟨⟨_,underlying36,rfl,rfl⟩,by kernel_rfl⟩
instance:kQ prog 41 14:=⟨⟨_,underlying41,rfl,rfl⟩,by kernel_rfl⟩
instance:kQ prog 46 3:=⟨⟨_,underlying46,rfl,rfl⟩,by kernel_rfl⟩
instance:kQ prog 53 4:=⟨⟨_,underlying53,rfl,rfl⟩,by kernel_rfl⟩
instance:kQ prog 59 5:=⟨⟨_,underlying59,rfl,rfl⟩,by kernel_rfl⟩
instance:kQ prog 61 14:=⟨⟨_,underlying61,rfl,rfl⟩,by kernel_rfl⟩
instance:kQ prog 80 6:=⟨⟨_,underlying80,rfl,rfl⟩,by kernel_rfl⟩
instance:kQ prog 92 8:=⟨⟨_,underlying92,rfl,rfl⟩,by kernel_rfl⟩
instance:kQ prog 111 6:=⟨⟨_,underlying111,rfl,rfl⟩,by kernel_rfl⟩
instance:kQ prog 238 9:=⟨⟨_,underlying238,rfl,rfl⟩,by kernel_rfl⟩
instance:kQ prog 329 4:=⟨⟨_,underlying329,rfl,rfl⟩,by kernel_rfl⟩
instance:kQ prog 86 3:=⟨⟨_,underlying86,rfl,rfl⟩,by kernel_rfl⟩
instance:kQ prog 115 7:=⟨⟨_,underlying115,rfl,rfl⟩,by kernel_rfl⟩
instance:kQ prog 141 4:=⟨⟨_,underlying141,rfl,rfl⟩,by kernel_rfl⟩
instance:kQ prog 146 4:=⟨⟨_,underlying146,rfl,rfl⟩,by kernel_rfl⟩
instance:kQ prog 324 4:=⟨⟨_,underlying324,rfl,rfl⟩,by kernel_rfl⟩
instance:kQ prog 354 2:=⟨⟨_,underlying354,rfl,rfl⟩,by kernel_rfl⟩
instance:kQ prog 360 4:=⟨⟨_,underlying360,rfl,rfl⟩,by kernel_rfl⟩
section
variable {P:Program} {ops:Array Oper} {rest:List Oper} {o:Oper} {a:Act} {w:World} {Q:Exit->Act->World->Prop} {x y:Operand} {n b k:Nat}
theorem wL (r:TypeId) {cs:List Value} (E:w.rangeAt b k cs) (h:wpList P ops Q rest (a.put o.dst (.agg cs.toArray)) w)
  (H:o.guard=none:=by rfl) (V:o.op=.load r x:=by rfl) (ab:a.eval x=.pointer (some ⟨b,k,none⟩):=by rfl) (aa:kQ P r n:=by infer_instance) (J:cs.length=n:=by rfl):wpList P ops Q (o::rest) a w:=by
 obtain ⟨⟨d,u,A,_⟩,B⟩:=aa;exact EW H r x V b k ab cs d E u A (by rw [J];exact B) h
theorem wR (r:TypeId) {cs:Array Value} {t:TypeId} {fr:Nat×Nat} (H:w.heap[b]? =some (.cells cs t fr)) (h:wpList P ops Q rest (a.put o.dst (.agg cs)) w)
  (E:o.guard=none:=by rfl) (V:o.op=.load r x:=by rfl) (ab:a.eval x=.pointer (some ⟨b,0,none⟩):=by rfl) (aa:kQ P r n:=by infer_instance) (J:cs.size=n:=by rfl):wpList P ops Q (o::rest) a w:=by
 obtain ⟨⟨d,u,_,A⟩,B⟩:=aa;exact CO E r x V b ab t cs fr d H u (by cases d<;>exact A) (by rw [J];exact B) h
theorem wS (r:TypeId) {cs old:Array Value} {t:TypeId} (B:w.heap[b]? =some (.cells old t (0,0))) (h:wpList P ops Q rest (a.put o.dst undef) (w.setRow b cs))
  (A:o.guard=none:=by rfl) (J:o.op=.store r x y:=by rfl) (aa:a.eval x=.pointer (some ⟨b,0,none⟩):=by rfl) (ab:a.eval y=.agg cs:=by rfl) (V:kQ P r n:=by infer_instance) (H:cs.size=n:=by rfl)
  (E:old.size=cs.size:=by rfl) (u:cs.all (·.oneCell')=true:=by simp [Value.oneCell']):wpList P ops Q (o::rest) a w:=
 BQ A r x y J b cs aa ab t old B (by rw [H];exact V.sz) E u h
theorem bE {fn:Func} {R:Ending->World->Prop} {p:Tmp} {r t:TypeId} {cs:Array Value} {fr:Nat×Nat} (H:w.heap[b]? =some (.cells cs t fr)) (E:R (.returned (.agg cs)) w)
  (h:fn.results= #[.cell p r]:=by rfl) (V:a.tmps.getD p undef=.pointer (some ⟨b,0,none⟩):=by rfl) (aa:kQ P r n:=by infer_instance) (J:cs.size=n:=by rfl) (hd:a.defers= []:=by rfl):bodyPost P fn R .ret a w:=by
 obtain ⟨⟨d,u,_,A⟩,B⟩:=aa;exact AZ (BD h _ _ b t cs fr d V H u (by cases d<;>exact A) (by rw [J];exact B)) hd E
end
theorem fR {w:World} {b:Nat} {cs:Array Value}:Fr (λj=>j=b) w (w.setRow b cs):=Fr.setRow (S:=λj=>j=b) (Fr.refl _) (.inl rfl) _
theorem fA {α:Type} {x y z:α} (h:x=y) (e:y=z:=by exact BC some N):x=z:=h.trans e
theorem aC {A B:Prop} (k:B) (h:Hid B->A:=by
 intro k;go_wp2_with fail;exact k.o):A:=h (lH k)
theorem cq {P f a w R E W} (h:Calls P f a w λe v=>e=E/\v=W) (k:R E W):Calls P f a w R:=h.mono λ_ _ ⟨x,y⟩=>x▸y▸k
theorem cr {P f a w R} {E:World->Ending} {F:World->Prop} (h:Calls P f a w λe v=>e=E v/\F v) (k:∀v,F v->R (E v) v):Calls P f a w R:=h.mono λ_ v ⟨x,y⟩=>x▸k v y
open Go
section
variable {P:Program} {ops:Array Oper} {Q:Exit->Act->World->Prop} {md:Region.Mode} {S:World->Prop}
def nH (P:Program) (ops:Array Oper) (S:World->Prop) (o:Oper) (v:Value) (a:Act):Prop:=
 (Region.wanted o (yielded ops a.tmps)=true/\∀w,S w->(∃w',(execOp a.eval o).run P w=.ok (.value v) w'/\S w')\/∃f args w1,(execOp a.eval o).run P w=.ok (.enter f args) w1/\Calls P f args w1 (λe w'=>e=.returned v/\S w'))\/
 (Region.wanted o (yielded ops a.tmps)=false/\v=undef)
theorem nH.wpOp {i o v a} (J:ops[i]? =some o) (aa:nH P ops S o v a) {K w} (B:S w) (h:∀w',S w'->K (a.put o.dst v) w'):wpOp P ops Q i K a w:=by
 unfold Go.wpOp;simp only [J];rcases aa with ⟨A,V⟩|⟨A,rfl⟩;{simp only [A,IK];refine .inl ?_;rcases V w B with ⟨w',u,r⟩|⟨f,args,ad,u,E⟩;{simp only [Oper.wp,u,Oper.upon];exact h w' r};{simp only [Oper.wp,u,Oper.upon];refine Calls.mono E λe ab H=> ?_;obtain ⟨rfl,r⟩:=H;exact h ab r}};{simp only [A,DC,FP];exact h w B}
theorem nH.of_same {o v a r} (B:nH P ops S o v a) (u:execOp r.eval o=execOp a.eval o) (A:Region.wanted o (yielded ops r.tmps)=Region.wanted o (yielded ops a.tmps)):nH P ops S o v r:=by
 unfold nH at*;rw [u,A];exact B
theorem V8 {j r A v} (ah:ops[j]? =some A) (ag:r.apart ops A=true) (aj:∀cs b,r.op≠ .select cs b) (af:∀cs b,A.op≠ .select cs b) (ad:∀c a w,Q (.panic c) (a.put r.dst v) w->Q (.panic c) a w) {K a w} (B:nH P ops S r v a) (h:wpOp P ops Q j K (a.put r.dst v) w):
  wpOp P ops Q j (λaa w'=>nH P ops S r v aa/\K (aa.put r.dst v) w') a w:=by
 obtain ⟨J,E,ab⟩:=Oper.apart_spec ag;have keep:∀(a:Act),nH P ops S r v a->∀u,nH P ops S r v (a.put A.dst u):=λa B u=>
  B.of_same (LW r aj a A.dst u ab) (wanted_put r a A.dst u ab)
 have ak:∀d,nH P ops S r v {a with defers:=d::a.defers}:=λd=>B.of_same rfl rfl;unfold wpOp at*;simp only [ah] at*;rw [wanted_put A a r.dst v J] at h;split;{rename_i V;simp only [V,IK] at h;rcases h with h|⟨ae,ai⟩;(case inr=>exact .inr ⟨by unfold Oper.asks at*;rw [LW A af a r.dst v J] at ae;exact ae,ai⟩);refine .inl ?_;unfold Oper.wp at*;rw [LW A af a r.dst v J] at h;generalize (execOp a.eval A).run P w=al at*;(cases al with|ok n w'=>{(cases n<;>simp only [Oper.upon] at h ⊢);(case value u=>exact ⟨keep a B u,by rw [<-FI a v u E];exact h⟩);(case skip=>exact ⟨keep a B _,by rw [<-FI a v undef E];exact h⟩);(case defer d=>refine ⟨keep _ (ak d) _,?_⟩;rw [<-FI _ v undef E,<-Act.put_defers];exact h);(case enter f args=>refine Calls.mono h λe am H=> ?_;(cases e with|returned u=>exact ⟨keep a B u,by rw [<-FI a v u E];exact H⟩|panicked c=>exact ad _ _ _ H|outgrown=>exact H));case row row args=>exact Rows.mono h λu am H=>⟨keep a B u,by rw [<-FI a v u E];exact H⟩}|halt x w'=>{(cases x<;>simp only [Oper.upon] at h ⊢);case panic u=>exact ad _ _ _ h})};{rename_i V;simp only [V] at h;exact ⟨keep a B _,by rw [<-FI a v undef E];exact h⟩}
def Bg (P:Program) (md:Region.Mode) (ops:Array Oper) (Q:Exit->Act->World->Prop) (S:World->Prop):Nat->Array Bool->Act->Prop
 | 0,listed,a=>Region.ready md ops listed= []/\∀w,S w->Q .normal a w
 | fuel+1,listed,a=>
  (Region.ready md ops listed= []->∀w,S w->Q .normal a w)/\
  ∀i∈Region.ready md ops listed,∀w,S w->wpOp P ops Q i (λa' w'=>S w'/\Bg P md ops Q S fuel (listed.setIfInBounds i true) a') a w
theorem Pz:∀(r:Nat) (listed:Array Bool) (a:Act) (w:World),S w->Bg P md ops Q S r listed a->wpAny P md ops Q r listed a w
 | 0,_,_,w,hS,h=>⟨h.1,h.2 w hS⟩
 | r+1,_,_,w,hS,h=>⟨λE=>h.1 E w hS,λi B=>IM (λA w' u=>Pz r _ A w' u.1 u.2) (h.2 i B w hS)⟩
theorem aC0 {i B v} (ag:ops[i]? =some B) (am:∀(j:Nat) (o:Oper) cs b,ops[j]? =some o->o.op≠ .select cs b) (aq:∀c a w,Q (.panic c) (a.put B.dst v) w->Q (.panic c) a w):
  ∀(J:Nat) (listed:Array Bool) (a:Act),
   (∀j E,ops[j]? =some E->j≠i->listed.getD j true=false->(∀e∈E.after,Region.binds md e=true->e.on≠i)->B.apart ops E=true)->
   i∈Region.ready md ops listed->nH P ops S B v a->
   Bg P md ops Q S J (listed.setIfInBounds i true) (a.put B.dst v)->Bg P md ops Q S (J+1) listed a:=by
 intro J;induction J with
 | zero=>
  intro listed a _ A ab H;refine ⟨λh=>(by rw [h] at A;cases A),λj aa w V=> ?_⟩;by_cases r:j=i;{subst r;exact ab.wpOp ag V (λw' af=>⟨af,H⟩)};{have:=EX aa r;rw [H.1] at this;cases this}
 | succ J ih=>
  intro listed a aj A ab H;refine ⟨λh=>(by rw [h] at A;cases A),λj aa w V=> ?_⟩;by_cases r:j=i;{subst r;exact ab.wpOp ag V (λw' af=>⟨af,H⟩)}
  ·have u:=H.2 j (EX aa r) w V;obtain ⟨al,E,ah,ar⟩:=FC.1 aa;have bc:∀e∈E.after,Region.binds md e=true->e.on≠i:=λe av au aw=>by
    have u:=ar e av au;have ai:=(FC.1 A).1;rw [aw] at u;rcases BJ i listed.size with ad|ad;{simp [ad] at ai u;rw [ai] at u;cases u};{simp [CJ ad] at u}
   have ap:=V8 ah (aj j E ah r al bc) (λcs b=>am i B cs b ag) (λcs b=>am j E cs b ah) aq ab u;have ax:∀k ok,ops[k]? =some ok->k≠i->(listed.setIfInBounds j true).getD k true=false->
     (∀e∈ok.after,Region.binds md e=true->e.on≠i)->B.apart ops ok=true:=λk ok ay az an bb=>by
     refine aj k ok ay az ?_ bb;by_cases ak:j=k;{subst ak;exact al};{rw [IU true ak] at an;exact an}
   refine IM (λao w' ae=>⟨ae.2.1,ih (listed.setIfInBounds j true) ao ax (EX A (EM r)) ae.1 ?_⟩) ap;rw [DW _ _ r];exact ae.2.2
def pI (P:Program) (ops:Array Oper) (Q:Exit->Act->World->Prop) (S:World->Prop):List Oper->Act->Prop
 | [],a=>∀w,S w->Q .normal a w
 | o::rest,a=>∃v,nH P ops S o v a/\pI P ops Q S rest (a.put o.dst v)
theorem aEw {o rest a v} (u:Region.wanted o (yielded ops a.tmps)=true) (h:∀w,S w->(execOp a.eval o).run P w=.ok (.value v) w) (A:pI P ops Q S rest (a.put o.dst v)):pI P ops Q S (o::rest) a:=
 ⟨v,.inl ⟨u,λw r=> .inl ⟨w,h w r,r⟩⟩,A⟩
theorem aEZ {o rest a} (r:Region.wanted o (yielded ops a.tmps)=false) (u:pI P ops Q S rest (a.put o.dst undef)):pI P ops Q S (o::rest) a:=
 ⟨undef,.inr ⟨r,rfl⟩,u⟩
def pre (n k:Nat):Array Bool:=(Array.range n).map λi=>decide (i<k)
theorem Ti (n):pre n 0=Array.replicate n false:=by
 apply Array.ext;{simp [pre]};{intro i r u;simp [pre]}
theorem F5 (n k):(pre n k).setIfInBounds k true=pre n (k+1):=by
 apply Array.ext;{simp [pre]};{intro i u A;simp only [pre] at u A ⊢;rw [Array.getElem_setIfInBounds (U u)];by_cases h:k=i;{subst h;simp};{rw [AA h];simp only [Array.getElem_map,Array.getElem_range];by_cases r:i<k;{simp [r,Nat.lt_succ_of_lt r]};{simp [r];omega}}}
def yU (md:Region.Mode) (ops:Array Oper):Bool:=
 (List.range ops.size).all (λk=>(Region.ready md ops (pre ops.size k)).contains k&&Region.free md ops (pre ops.size k) k)&&(Region.ready md ops (pre ops.size ops.size)).isEmpty
theorem aAp (V:Region.noSelect ops=true) (u:yU md ops=true) (H:∀c (a:Act) d v w,Q (.panic c) (a.put d v) w->Q (.panic c) a w):
  ∀(r k:Nat) (a:Act),k+r=ops.size->pI P ops Q S (ops.toList.drop k) a->Bg P md ops Q S r (pre ops.size k) a:=by
 unfold yU at u;rw [BM,EY] at u;intro r;(induction r with|zero=>intro k a J h;(obtain rfl:k=ops.size:=by omega);rw [EJ D] at h;exact ⟨by simpa using u.2,h⟩|succ r ih=>intro k a J h;(have E:k<ops.toList.length:=by simp;omega);rw [DL E] at h;obtain ⟨v,aa,h⟩:=h;(have B:ops[k]? =some (ops.toList[k]):=by rw [<-CS];exact AC E);have A:=u.1 k (CG.2 X);rw [BM] at A;refine aC0 B (HY V) (λc a w h=>H c a _ _ w h) r (pre ops.size k) a (JH B A.2) (U A.1) aa ?_;rw [F5];exact ih (k+1) _ X h)
end
section
variable {P:Program} {ops:Array Oper} {Q:Exit->Act->World->Prop} {md:Region.Mode} {S:World->Prop} {T:Nat->Bool}
def reach (md:Region.Mode) (ops:Array Oper):Nat->Nat->Nat->Bool
 | 0,_,_=>false
 | f+1,j,i=>match ops[j]? with
  | none=>false
  | some o=>o.after.any λe=>Region.binds md e&&(e.on==i||reach md ops f e.on i)
def Closed (md:Region.Mode) (ops:Array Oper) (listed:Array Bool):Prop:=∀(j:Nat) o,ops[j]? =some o->listed.getD j false=true->∀e∈o.after,Region.binds md e=true->listed.getD e.on false=true
theorem Closed.set {listed} (h:Closed md ops listed) {j} (H:j∈Region.ready md ops listed):Closed md ops (listed.setIfInBounds j true):=by
 intro k o r J e A u;obtain ⟨aa,ab,V,E⟩:=FC.1 H;by_cases B:k=j;{subst B;rw [V] at r;cases r;exact getD_set_true (E e A u)};{(have:listed.getD k false=true:=by rwa [IU false (EM B)] at J);exact getD_set_true (h k o r this e A u)}
theorem Bz {listed:Array Bool} (h:Closed md ops listed):∀(f j i:Nat),(∀o,ops[j]? =some o->∀e∈o.after,Region.binds md e=true->listed.getD e.on false=true)->reach md ops f j i=true->listed.getD i false=true
 | 0,_,_,_,hr=>by simp [reach] at hr
 | f+1,j,i,hj,hr=>by
  unfold reach at hr;cases A:ops[j]? with
  | none=>rw [A] at hr;cases hr
  | some o=>
   rw [A] at hr;simp only [Array.any_eq_true'] at hr;obtain ⟨e,H,r⟩:=hr;rw [BM,JA] at r;have B:=hj o A e H r.1;rcases r.2 with u|u
   ·rw [<-JJ u];exact B
   ·exact Bz h f e.on i (λaa V e' J E=>h e.on aa V B e' J E) u
def wQ (P:Program) (md:Region.Mode) (ops:Array Oper) (Q:Exit->Act->World->Prop) (S:World->Prop) (T:Nat->Bool):Nat->Array Bool->Act->Prop
 | 0,listed,a=>Region.ready md ops listed= []/\∀w,S w->Q .normal a w
 | fuel+1,listed,a=>
  (Region.ready md ops listed= []->∀w,S w->Q .normal a w)/\
  ∀i∈Region.ready md ops listed,∀w,S w->wpOp P ops Q i (λa' w'=>if T i=true then wpAny P md ops Q fuel (listed.setIfInBounds i true) a' w' else S w'/\wQ P md ops Q S T fuel (listed.setIfInBounds i true) a') a w
theorem Kr:∀(r:Nat) (listed:Array Bool) (a:Act) (w:World),S w->wQ P md ops Q S T r listed a->wpAny P md ops Q r listed a w
 | 0,_,_,w,hS,h=>⟨h.1,h.2 w hS⟩
 | r+1,_,_,w,hS,h=>⟨λE=>h.1 E w hS,λi B=>IM (λA w' u=>by
   split at u
   ·exact u
   ·exact Kr r _ A w' u.1 u.2) (h.2 i B w hS)⟩
theorem aEz {i B v} (ab:ops[i]? =some B) (ai:∀(j:Nat) (o:Oper) cs b,ops[j]? =some o->o.op≠ .select cs b) (am:∀c a w,Q (.panic c) (a.put B.dst v) w->Q (.panic c) a w) (an:T i=false):
  ∀(H:Nat) (listed:Array Bool) (a:Act),
   (∀j E,ops[j]? =some E->j≠i->listed.getD j true=false->(∀e∈E.after,Region.binds md e=true->e.on≠i)->B.apart ops E=true)->
   i∈Region.ready md ops listed->Yields P ops B v a->
   wQ P md ops Q S T H (listed.setIfInBounds i true) (a.put B.dst v)->wQ P md ops Q S T (H+1) listed a:=by
 intro H;induction H with
 | zero=>
  intro listed a _ u ae J;refine ⟨λh=>(by rw [h] at u;cases u),λj ad w aa=> ?_⟩;by_cases r:j=i;{subst r;exact ae.wpOp ab (by rw [AA (by simp [an])];exact ⟨aa,J⟩)};{have:=EX ad r;rw [J.1] at this;cases this}
 | succ H ih=>
  intro listed a ao u ae J;refine ⟨λh=>(by rw [h] at u;cases u),λj ad w aa=> ?_⟩;by_cases r:j=i;{subst r;exact ae.wpOp ab (by rw [AA (by simp [an])];exact ⟨aa,J⟩)}
  ·have A:=J.2 j (EX ad r) w aa;obtain ⟨ar,E,ah,ax⟩:=FC.1 ad;have bf:∀e∈E.after,Region.binds md e=true->e.on≠i:=λe az ay bb=>by
    have A:=ax e az ay;have ak:=(FC.1 u).1;rw [bb] at A;rcases BJ i listed.size with af|af;{simp [af] at ak A;rw [ak] at A;cases A};{simp [CJ af] at A}
   have av:=wpOp_put ah (ao j E ah r ar bf) (λcs b=>ai i B cs b ab) (λcs b=>ai j E cs b ah) am ae A;have ap:∀k ok,ops[k]? =some ok->k≠i->(listed.setIfInBounds j true).getD k true=false->
     (∀e∈ok.after,Region.binds md e=true->e.on≠i)->B.apart ops ok=true:=λk ok bc bd au be=>by
     refine ao k ok bc bd ?_ be;by_cases aq:j=k;{subst aq;exact ar};{rw [IU true aq] at au;exact au}
   refine IM (λaj w' aw=> ?_) av;obtain ⟨al,V⟩:=aw;split at V;{rename_i ag;rw [AL ag];refine wpAny_first ab ai am H (listed.setIfInBounds j true) aj w' ap (EX u (EM r)) al ?_;rw [DW _ _ r];exact V};{rename_i ag;rw [AA ag];refine ⟨V.1,ih (listed.setIfInBounds j true) aj ap (EX u (EM r)) al ?_⟩;rw [DW _ _ r];exact V.2}
theorem Td {i E v} (am:ops[i]? =some E) (aw:∀(j:Nat) (o:Oper) cs b,ops[j]? =some o->o.op≠ .select cs b) (bc:∀c a w,Q (.panic c) (a.put E.dst v) w->Q (.panic c) a w) (an:T i=false) (f) (bd:∀t,T t=true->reach md ops f t i=true):
  ∀(aa:Nat) (listed:Array Bool) (a:Act),Closed md ops listed->
   (∀j H,ops[j]? =some H->j≠i->listed.getD j true=false->(∀e∈H.after,Region.binds md e=true->e.on≠i)->E.apart ops H=true)->
   i∈Region.ready md ops listed->nH P ops S E v a->
   wQ P md ops Q S T aa (listed.setIfInBounds i true) (a.put E.dst v)->wQ P md ops Q S T (aa+1) listed a:=by
 intro aa;induction aa with
 | zero=>
  intro listed a _ _ u ag V;refine ⟨λh=>(by rw [h] at u;cases u),λj ad w ae=> ?_⟩;by_cases r:j=i;{subst r;exact ag.wpOp am ae (λw' ai=>by rw [AA (by simp [an])];exact ⟨ai,V⟩)};{have:=EX ad r;rw [V.1] at this;cases this}
 | succ aa ih=>
  intro listed a ap aq u ag V;refine ⟨λh=>(by rw [h] at u;cases u),λj ad w ae=> ?_⟩;by_cases r:j=i;{subst r;exact ag.wpOp am ae (λw' ai=>by rw [AA (by simp [an])];exact ⟨ai,V⟩)}
  ·have B:=V.2 j (EX ad r) w ae;obtain ⟨au,H,af,ao⟩:=FC.1 ad;have aj:¬T j=true:=λaj=>by
    have J:=Bz ap f j i (λo av e al ak=>by rw [af] at av;cases av;exact ao e al ak) (bd j aj);have ab:=(FC.1 u).1;rcases BJ i listed.size with A|A;{simp [A] at ab J;rw [ab] at J;cases J};{simp [CJ A] at J}
   have bj:∀e∈H.after,Region.binds md e=true->e.on≠i:=λe al ak be=>by
    have B:=ao e al ak;have ab:=(FC.1 u).1;rw [be] at B;rcases BJ i listed.size with A|A;{simp [A] at ab B;rw [ab] at B;cases B};{simp [CJ A] at B}
   have az:=V8 af (aq j H af r au bj) (λcs b=>aw i E cs b am) (λcs b=>aw j H cs b af) bc ag B;have bf:∀k ok,ops[k]? =some ok->k≠i->(listed.setIfInBounds j true).getD k true=false->
     (∀e∈ok.after,Region.binds md e=true->e.on≠i)->E.apart ops ok=true:=λk ok bg bh ax bi=>by
     refine aq k ok bg bh ?_ bi;by_cases ar:j=k;{subst ar;exact au};{rw [IU true ar] at ax;exact ax}
   refine IM (λay w' J=> ?_) az;obtain ⟨bb,ah⟩:=J;rw [AA aj] at ah ⊢;refine ⟨ah.1,ih (listed.setIfInBounds j true) ay (ap.set ad) bf (EX u (EM r)) bb ?_⟩;rw [DW _ _ r];exact ah.2
def oV (md:Region.Mode) (ops:Array Oper):Array Bool->List Nat->Bool
 | listed, []=>(Region.ready md ops listed).isEmpty
 | listed,i::r=>(Region.ready md ops listed== [i])&&oV md ops (listed.setIfInBounds i true) r
def mX (md:Region.Mode) (ops:Array Oper) (L2:List Nat):Array Bool->List Nat->Bool
 | listed, []=>oV md ops listed L2
 | listed,i::r=>(Region.ready md ops listed).contains i&&Region.free md ops listed i&& !L2.contains i&&mX md ops L2 (listed.setIfInBounds i true) r
def rch (md:Region.Mode) (ops:Array Oper) (L2:List Nat) (i:Nat):Bool:=L2.all λt=>reach md ops ops.size t i
def Fh (P:Program) (md:Region.Mode) (ops:Array Oper) (Q:Exit->Act->World->Prop) (S:World->Prop) (L2:List Nat):List Nat->Act->Prop
 | [],a=>∀w,S w->wpList P ops Q (L2.filterMap λi=>ops[i]?) a w
 | i::r,a=>∃o v,ops[i]? =some o/\(Yields P ops o v a\/(rch md ops L2 i=true/\nH P ops S o v a))/\Fh P md ops Q S L2 r (a.put o.dst v)
theorem Bh:∀(L:List Nat) (u:Nat) (listed:Array Bool) (a:Act) (w:World),L.length=u->oV md ops listed L=true->wpList P ops Q (L.filterMap λi=>ops[i]?) a w->wpAny P md ops Q u listed a w
 | [],u,listed,a,w,hl,hok,h=>by
  subst hl;exact ⟨by simpa [oV] using hok,h⟩
 | i::r,u,listed,a,w,hl,hok,h=>by
  obtain ⟨f,rfl⟩:∃f,u=f+1:=⟨r.length,by simp at hl;omega⟩
  unfold oV at hok;rw [BM] at hok;have J:=JJ hok.1;refine ⟨λE=>(by rw [J] at E;cases E),λj A=> ?_⟩;have ad:=A;rw [J,BB] at A;subst A;obtain ⟨_,o,H,_⟩:=FC.1 ad;rw [DZ,H] at h;simp only [wpList] at h;unfold wpOp;rw [H];simp only;have V:=λaa w' ab=>Bh r f (listed.setIfInBounds j true) aa w' (by simp at hl;omega) hok.2 ab;split at h
  ·rename_i B
   rw [AL B];rcases h with h|h
   ·exact .inl (Oper.wp_mono V h)
   ·exact .inr h
  ·rename_i B
   rw [AA B];exact V _ _ h
theorem aA7 (aj:Region.noSelect ops=true) (ah:∀c (a:Act) d v w,Q (.panic c) (a.put d v) w->Q (.panic c) a w) (L2):
  ∀(J:List Nat) (A:Nat) (listed:Array Bool) (a:Act),J.length+L2.length=A->Closed md ops listed->mX md ops L2 listed J=true->Fh P md ops Q S L2 J a->wQ P md ops Q S (λi=>L2.contains i) A listed a:=by
 intro J;(induction J with|nil=>{intro A listed a H ab u h;have ae:∀w,S w->wpAny P md ops Q A listed a w:=λw E=>Bh L2 A listed a w (U H) u (h w E);(cases A with|zero=>have an:L2= []:=(U H);subst an;exact ⟨by simpa [mX,oV] using u,λw E=>(ae w E).2⟩|succ f=>refine ⟨λV w E=>(ae w E).1 V,λi B w E=>IM (λap w' ak=> ?_) ((ae w E).2 i B)⟩;(cases L2 with|nil=>simp at H|cons t r=>unfold mX oV at u;rw [BM] at u;rw [JJ u.1,BB] at B;rw [AL (by simp [B])];exact ak))}|cons i r ih=>{intro A listed a H ab u h;obtain ⟨f,rfl⟩:∃f,A=f+1:=⟨r.length+L2.length,by simp at H;omega⟩;unfold mX at u;simp only [BM,MO] at u;obtain ⟨⟨⟨al,af⟩,ag⟩,am⟩:=u;(have V:i∈Region.ready md ops listed:=by simpa using al);obtain ⟨o,v,B,aa,h⟩:=h;have ai:=ih f (listed.setIfInBounds i true) (a.put o.dst v) (by simp at H;omega) (ab.set V) am h;rcases aa with aa|⟨ad,aa⟩;{exact aEz B (HY aj) (λc a w h=>ah c a _ _ w h) ag f listed a (JH B af) V aa ai};{refine Td B (HY aj) (λc a w h=>ah c a _ _ w h) ag ops.size (λt ao=> ?_) f listed a ab (JH B af) V aa ai;unfold rch at ad;rw [EY] at ad;exact ad t (U ao)}})
theorem aDo {id a w} (J:P.follows .mixedOrders=true) (S r L2) (V:Region.noSelect ops=true) (H:r.length+L2.length=ops.size) (E:mX .any ops L2 (Array.replicate ops.size false) r=true) (A:∀c (a:Act) d v w,Q (.panic c) (a.put d v) w->Q (.panic c) a w) (B:S w.drew) (h:Fh P .any ops Q S L2 r a):(Code.region id ops true).wp P Q a w:=by
 refine wp_region_any J ?_;refine Kr _ _ _ _ B (aA7 V A L2 r ops.size _ a H (λj o aa u=> ?_) E h);rw [EF,IP] at u;split at u<;>cases u
def jY (P:Program) (md:Region.Mode) (ops:Array Oper) (Q:Exit->Act->World->Prop) (S:World->Prop) (L2:List Nat):Nat->List Oper->List Oper->Act->Prop
 | _, [],acc,a=>∀w,S w->wpList P ops Q acc.reverse a w
 | k,o::rest,acc,a=>if L2.contains k=true then jY P md ops Q S L2 (k+1) rest (o::acc) a else ∃v,(Yields P ops o v a\/(rch md ops L2 k=true/\nH P ops S o v a))/\jY P md ops Q S L2 (k+1) rest acc (a.put o.dst v)
theorem Oh {L2:List Nat} (A:L2=(List.range ops.size).filter λi=>L2.contains i):∀(u k:Nat) (acc:List Oper) (a:Act),k+u=ops.size->acc.reverse=((List.range k).filter λi=>L2.contains i).filterMap (λi=>ops[i]?)->
  jY P md ops Q S L2 k (ops.toList.drop k) acc a->Fh P md ops Q S L2 ((List.range' k u).filter λi=> !L2.contains i) a
 | 0,k,acc,a,hk,hacc,h=>by
  obtain rfl:k=ops.size:=by omega
  rw [EJ D] at h;intro w H;have:=h w H;rw [hacc,<-A] at this;exact this
 | u+1,k,acc,a,hk,hacc,h=>by
  have E:k<ops.toList.length:=by simp;omega
  have B:ops[k]? =some (ops.toList[k]):=by rw [<-CS];exact AC E
  rw [DL E] at h;unfold jY at h;rw [List.range'_succ,GL];split at h
  ·rename_i r
   rw [AA (by simp only [r];decide)];refine Oh A u (k+1) _ a X ?_ h;rw [DF,hacc,NH,EG,MQ];simp only [GL,r,IK,List.filter_nil,DZ,B,FU]
  ·rename_i r
   rw [AL (U r)];obtain ⟨v,J,h⟩:=h;refine ⟨_,v,B,J,Oh A u (k+1) acc _ X ?_ h⟩;rw [hacc,NH,EG,MQ];have:L2.contains k=false:=(U r)
   simp only [GL,this,List.filter_nil,FU,EN,DC,FP]
theorem qC {id a w} (H:P.follows .mixedOrders=true) (S L2) (J:Region.noSelect ops=true) (r:(L2==(List.range ops.size).filter λi=>L2.contains i)=true) (E:(((List.range' 0 ops.size).filter λi=> !L2.contains i).length+L2.length==ops.size)=true) (B:mX .any ops L2 (Array.replicate ops.size false) ((List.range' 0 ops.size).filter λi=> !L2.contains i)=true) (u:∀c (a:Act) d v w,Q (.panic c) (a.put d v) w->Q (.panic c) a w) (A:S w.drew) (h:jY P .any ops Q S L2 0 ops.toList [] a):(Code.region id ops true).wp P Q a w:=
 aDo H S _ L2 J (JJ E) B u A (Oh (JJ r) ops.size 0 [] a X D (U h))
variable {L2:List Nat} {k:Nat} {o:Oper} {rest acc:List Oper} {a:Act} {v:Value}
theorem lJ (r:L2.contains k=true) (h:jY P md ops Q S L2 (k+1) rest (o::acc) a):jY P md ops Q S L2 k (o::rest) acc a:=by
 unfold jY;rw [AL r];exact h
theorem kW (r:L2.contains k=false) (u:Region.wanted o (yielded ops a.tmps)=true) (h:∀w,(execOp a.eval o).run P w=.ok (.value v) w) (A:jY P md ops Q S L2 (k+1) rest acc (a.put o.dst v)):jY P md ops Q S L2 k (o::rest) acc a:=by
 unfold jY;rw [AA (by simp only [r];decide)];exact ⟨v,.inl (.inl ⟨u,h⟩),A⟩
theorem nV (r:L2.contains k=false) (u:Region.wanted o (yielded ops a.tmps)=false) (A:jY P md ops Q S L2 (k+1) rest acc (a.put o.dst undef)):jY P md ops Q S L2 k (o::rest) acc a:=by
 unfold jY;rw [AA (by simp only [r];decide)];exact ⟨undef,.inl (.inr ⟨u,rfl⟩),A⟩
theorem kE (A:L2.contains k=false) (u:rch md ops L2 k=true) (B:Region.wanted o (yielded ops a.tmps)=true) (h:∀w,S w->(execOp a.eval o).run P w=.ok (.value v) w) (E:jY P md ops Q S L2 (k+1) rest acc (a.put o.dst v)):jY P md ops Q S L2 k (o::rest) acc a:=by
 unfold jY;rw [AA (by simp only [A];decide)];exact ⟨v,.inr ⟨u,.inl ⟨B,λw r=> .inl ⟨w,h w r,r⟩⟩⟩,E⟩
theorem pW (f args) (B:L2.contains k=false) (u:rch md ops L2 k=true) (E:Region.wanted o (yielded ops a.tmps)=true) (h:∀w,(execOp a.eval o).run P w=.ok (.enter f args) w) (A:∀w,S w->Calls P f args w (λe w'=>e=.returned v/\S w')) (H:jY P md ops Q S L2 (k+1) rest acc (a.put o.dst v)):jY P md ops Q S L2 k (o::rest) acc a:=by
 unfold jY;rw [AA (by simp only [B];decide)];exact ⟨v,.inr ⟨u,.inl ⟨E,λw r=> .inr ⟨f,args,w,h w,A w r⟩⟩⟩,H⟩
end
section
variable {P:Program} {ops:Array Oper} {Q:Exit->Act->World->Prop} {md:Region.Mode} {S:World->Prop}
def edge (md:Region.Mode) (ops:Array Oper) (j i:Nat):Bool:=match ops[j]? with
 | none=>false
 | some o=>o.after.any λe=>Region.binds md e&&e.on==i
theorem Xy {f j i} (h:edge md ops j i=true):reach md ops (f+1) j i=true:=by
 unfold edge at h;unfold reach;split at h;{cases h};{rename_i o u;(try rw [u]);(try dsimp only);rw [Array.any_eq_true] at h ⊢;obtain ⟨k,r,h⟩:=h;rw [BM] at h;exact ⟨k,r,by rw [h.1,h.2];rfl⟩}
theorem O3:∀ {f t j i:Nat},reach md ops f t j=true->edge md ops j i=true->reach md ops (f+1) t i=true
 | 0,_,_,_,h,_=>by simp [reach] at h
 | f+1,t,j,i,h,he=>by
  unfold reach at h ⊢;split at h
  ·cases h
  ·rename_i o A
   try dsimp only
   rw [Array.any_eq_true] at h ⊢;obtain ⟨k,u,h⟩:=h;rw [BM,JA] at h;refine ⟨k,u,?_⟩;rw [BM,JA];refine ⟨h.1,.inr ?_⟩;rcases h.2 with r|r
   ·rw [JJ r];exact Xy he
   ·exact O3 r he
theorem U2:∀ {f t i:Nat},reach md ops f t i=true->reach md ops (f+1) t i=true
 | 0,_,_,h=>by simp [reach] at h
 | f+1,t,i,h=>by
  unfold reach at h ⊢;split at h
  ·cases h
  ·rename_i o A
   try dsimp only
   rw [Array.any_eq_true] at h ⊢;obtain ⟨k,u,h⟩:=h;rw [BM,JA] at h;refine ⟨k,u,?_⟩;rw [BM,JA];refine ⟨h.1,?_⟩;rcases h.2 with r|r
   ·exact .inl r
   ·exact .inr (U2 r)
theorem Jn {f g t i} (h:reach md ops f t i=true) (u:f<=g):reach md ops g t i=true:=by
 (induction g with|zero=>(obtain rfl:f=0:=by omega);exact h|succ g ih=>{rcases BJ g f with r|r;{(obtain rfl:f=g+1:=by omega);exact h};{exact U2 (ih r)}})
def qW (md:Region.Mode) (ops:Array Oper) (L2:List Nat):Bool:=L2.all λt=>decide (t<ops.size)&&(List.range t).all λi=>(List.range' (i+1) (t - i)).any λj=>edge md ops j i
theorem Xr {t} (h:((List.range t).all λi=>(List.range' (i+1) (t - i)).any λj=>edge md ops j i)=true):∀d i,t - i=d->i<t->reach md ops (t - i) t i=true:=by
 intro d;(induction d using Nat.strongRecOn with|ind d ih=>{intro i hd B;rw [EY] at h;have r:=h i (CG.2 B);rw [List.any_eq_true] at r;obtain ⟨j,E,A⟩:=r;rw [List.mem_range'_1] at E;rcases BJ j t with u|u;{exact Jn (O3 (ih (t - j) X j rfl u) A) X};{(obtain rfl:j=t:=by omega);exact Jn (f:=1) (Xy A) X}})
theorem uC {L2 k} (h:qW md ops L2=true) (u:(L2.all λt=>decide (k<t))=true):rch md ops L2 k=true:=by
 unfold qW at h;unfold rch;rw [EY] at h u ⊢;intro t A;have r:=h t A;rw [BM] at r;have B:t<ops.size:=by simpa using r.1
 exact Jn (Xr r.2 _ k rfl (by simpa using u t A)) X
structure Bq (ops:Array Oper) (L2:List Nat):Prop where
 sel:Region.noSelect ops=true
 row:(L2==(List.range ops.size).filter λi=>L2.contains i)=true
 len:(((List.range' 0 ops.size).filter λi=> !L2.contains i).length+L2.length==ops.size)=true
 ok:mX .any ops L2 (Array.replicate ops.size false) ((List.range' 0 ops.size).filter λi=> !L2.contains i)=true
 all:qW .any ops L2=true
theorem jA {id a w} (L2) (r:Region.noSelect ops=true) (u:(L2==(List.range ops.size).filter λi=>L2.contains i)=true) (A:(((List.range' 0 ops.size).filter λi=> !L2.contains i).length+L2.length==ops.size)=true) (B:mX .any ops L2 (Array.replicate ops.size false) ((List.range' 0 ops.size).filter λi=> !L2.contains i)=true) (E:qW .any ops L2=true) (h:Hid (Bq ops L2)->(Code.region id ops true).wp P Q a w):(Code.region id ops true).wp P Q a w:=h (lH ⟨r,u,A,B,E⟩)
theorem yG {id a w L2} (A:P.follows .mixedOrders=true) (ok:Hid (Bq ops L2)) (S) (r:∀c (a:Act) d v w,Q (.panic c) (a.put d v) w->Q (.panic c) a w) (u:S w.drew) (h:jY P .any ops Q S L2 0 ops.toList [] a):(Code.region id ops true).wp P Q a w:=
 qC A S L2 ok.o.sel ok.o.row ok.o.len ok.o.ok r u h
variable {L2:List Nat} {k:Nat} {o:Oper} {rest acc:List Oper} {a:Act} {v:Value}
theorem rO (ok:Hid (Bq ops L2)) (u:L2.contains k=false) (r:(L2.all λt=>decide (k<t))=true) (A:Region.wanted o (yielded ops a.tmps)=true) (h:∀w,S w->(execOp a.eval o).run P w=.ok (.value v) w) (B:jY P .any ops Q S L2 (k+1) rest acc (a.put o.dst v)):jY P .any ops Q S L2 k (o::rest) acc a:=
 kE u (uC ok.o.all r) A h B
end
section
variable {P:Program} {Q:Exit->Act->World->Prop} {a:Act} {w:World} {l:List Oper} {id:Nat}
theorem bU {ops V u} (L2) (k:wpList P ops Q V u w.drew) (ad:P.follows .mixedOrders=true) (A:Region.noSelect ops=true:=by kernel_rfl) (B:(L2==(List.range ops.size).filter λi=>L2.contains i)=true:=by kernel_rfl) (E:(((List.range' 0 ops.size).filter λi=> !L2.contains i).length+L2.length==ops.size)=true:=by kernel_rfl) (H:mX .any ops L2 (Array.replicate ops.size false) ((List.range' 0 ops.size).filter λi=> !L2.contains i)=true:=by kernel_rfl) (J:qW .any ops L2=true:=by kernel_rfl) (ab:∀c (a:Act) d v w,Q (.panic c) (a.put d v) w->Q (.panic c) a w:=by
   intro _ _ d _ _ h;cases d<;>exact h) (h:Hid (Bq ops L2)->Hid (wpList P ops Q V u w.drew)->jY P .any ops Q (λW=>W=w.drew) L2 0 ops.toList [] a:=by
   intro aa k;repeat (first
    | refine lJ R ?_
    | (refine kW (v:= ?_) R R ?_ ?_
       rotate_left 1
       (intro W;go_simp;(try with_reducible rfl))
       simp only [pT,aI,lsS]
       (try rw [D1.o])
       (try rw [D2.o])
       (try rw [D3.o])
       (try rw [D4.o]))
    | (refine nV R R ?_
       simp only [pT,aI,lsS])
    | (refine rO (v:= ?_) aa R R R ?_ ?_
       rotate_left 1
       (intro W r;subst r;go_simp;(try with_reducible rfl))
       simp only [pT,aI,lsS]
       (try rw [D1.o])
       (try rw [D2.o])
       (try rw [D3.o])
       (try rw [D4.o])))
   intro W r;subst r;simp only [DF,DT,DK,CP];exact k.o):(Code.region id ops true).wp P Q a w:=yG ad (lH ⟨A,B,E,H,J⟩) (λW=>W=w.drew) ab rfl (h (lH ⟨A,B,E,H,J⟩) (lH k))
end
