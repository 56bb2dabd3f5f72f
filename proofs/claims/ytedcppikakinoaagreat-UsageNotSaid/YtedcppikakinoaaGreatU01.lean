/- Part of a proof. -/
import Derived.Test.YtedcppikakinoaaGreatProg
import Derived.Deep.MidRow
import Derived.Lib.Hide
import Derived.OrdersHeld
import Derived.Tactics
import Derived.WalkKit
import Derived.WalkLawsBesides
import Derived.WalkSpells
set_option linter.unusedSimpArgs false
set_option linter.unusedVariables false
set_option linter.defProp false
set_option maxRecDepth 100000
namespace Go.RowKit
theorem Hid.o {p:Prop} (h:Hid p):p:=h
end Go.RowKit
namespace Go.Proofs.YtedcppikakinoaaGreat
open Go.Proofs.Tryz Go.RowKit
abbrev AA:=@if_neg
abbrev AB:=@List.length_append
abbrev AC:=@List.getElem?_eq_getElem
abbrev AL:=@if_pos
abbrev AO:=@List.length_singleton
abbrev AP:=@Nat.lt_of_lt_of_le
abbrev AQ:=@heap_alloc_new
abbrev AU:=@Nat.le_refl
abbrev AV:=@Nat.le_trans
abbrev AX:=@List.take_length
abbrev AY:=@List.getElem?_eq_some_iff
abbrev AZ:=@bodyPost_ret
abbrev BA:=@Nat.zero_le
abbrev BB:=@List.mem_singleton
abbrev BC:=@decide_eq_false
abbrev BD:=@congrArg
abbrev BF:=@List.getElem_mem
abbrev BG:=@IntKind.wrap_i64
abbrev BH:=@results_cell_row
abbrev BI:=@Classical.byContradiction
abbrev BJ:=@List.mem_cons_of_mem
abbrev BK:=@Nat.lt_or_ge
abbrev BL:=@List.mem_cons_self
abbrev BM:=@List.mem_append
abbrev BN:=@decide_eq_true
abbrev BO:=@Bool.and_eq_true
abbrev BP:=@Nat.zero_add
abbrev BQ:=@Int.natCast_nonneg
abbrev BR:=@wpList_store_row
abbrev BU:=@Nat.add_zero
abbrev BV:=@decide_eq_true_eq
abbrev BX:=@List.length_cons
abbrev BZ:=@List.length_take
abbrev CB:=@List.mem_cons
abbrev CE:=@Nat.le_succ
abbrev CG:=@List.length_map
abbrev CJ:=@List.mem_range
abbrev CO:=@Int.ofNat_lt
abbrev CP:=@Array.getElem?_eq_none
abbrev CQ:=@List.cons_append
abbrev CS:=@wpList_load_row
abbrev CU:=@beq_eq_false_iff_ne
abbrev CV:=@Array.getElem?_toList
abbrev CW:=@List.eq_nil_of_length_eq_zero
abbrev CX:=@List.reverse_cons
abbrev CY:=@Option.map_eq_some_iff
abbrev CZ:=@Bool.toNat_false
abbrev DC:=@List.nil_append
abbrev DF:=@List.mem_of_find?_eq_some
abbrev DI:=@Bool.toNat_true
abbrev DJ:=@List.take_add_one
abbrev DK:=@of_decide_eq_true
abbrev DL:=@List.reverse_nil
abbrev DN:=@List.drop_eq_getElem_cons
abbrev DR:=@Int.lt_irrefl
abbrev DT:=@Bool.false_eq_true
abbrev DU:=@List.flatMap_cons
abbrev DV:=@World.rangeAt_of_block
abbrev DW:=@List.filter_append
abbrev DX:=@List.mem_of_getElem?
abbrev DY:=@List.getElem?_map
abbrev DZ:=@Array.setIfInBounds_comm
abbrev EC:=@Option.isSome_iff_exists
abbrev ED:=@List.pairwise_cons
abbrev EE:=@List.filterMap_cons
abbrev EF:=@run_underlying
abbrev EG:=@Nat.mul_le_mul_right
abbrev EH:=@List.getElem?_cons_succ
abbrev EI:=@decide_eq_false_iff_not
abbrev EJ:=@Array.getD_eq_getD_getElem?
abbrev EK:=@List.append_nil
abbrev EL:=@List.getElem?_take
abbrev EM:=@info_parts
abbrev EN:=@MapKept.run_getObj_map
abbrev EO:=@List.drop_eq_nil_of_le
abbrev EP:=@Ne.symm
abbrev EQ:=@wpList_load_mid
abbrev ER:=@List.length_nil
abbrev ES:=@List.getElem?_cons_zero
abbrev ET:=@Nat.eq_zero_or_pos
abbrev EU:=@List.find?_eq_none
abbrev EW:=@List.map_cons
abbrev EX:=@List.flatMap_append
abbrev EY:=@ready_mono
abbrev EZ:=@List.length_set
abbrev FB:=@mem_ready
abbrev FC:=@List.mem_filter
abbrev FD:=@List.all_eq_true
abbrev FH:=@Int.toNat_natCast
abbrev FI:=@List.take_of_length_le
abbrev FK:=@Act.put_comm
abbrev FM:=@List.mem_map
abbrev FN:=@List.map_append
abbrev FO:=@List.take_succ_cons
abbrev FP:=@List.getD_eq_getElem?_getD
abbrev FQ:=@Option.some.injEq
abbrev FT:=@Array.getElem?_eq_getElem
abbrev FU:=@List.mem_of_mem_take
abbrev FV:=@List.mem_append_left
abbrev FW:=@List.filterMap_nil
abbrev FX:=@MapKept.run_setObj_map
abbrev FY:=@List.take_zero
abbrev FZ:=@Option.some.inj
abbrev GG:=@if_false
abbrev GH:=@List.take_succ_eq_append_getElem
abbrev GI:=@List.getElem?_eq_none
abbrev GK:=@List.getElem?_toArray
abbrev GL:=@List.length_eq_zero_iff
abbrev GM:=@List.filter_cons
abbrev GN:=@Tryz.underlying4
abbrev GR:=@rounds_succ
abbrev GU:=@List.flatMap_nil
abbrev GV:=@List.getElem?_append_left
abbrev GX:=@Prod.mk.injEq
abbrev GY:=@List.sum_cons
abbrev GZ:=@List.mem_iff_getElem?
abbrev HY:=@List.getElem?_drop
abbrev IA:=@Region.noSelect_spec
abbrev IB:=@List.length_drop
abbrev IC:=@List.getElem?_append_right
abbrev IE:=@bodyPost_end
abbrev IG:=@Nat.mul_one
abbrev II:=@List.cons.injEq
abbrev IJ:=@if_true
abbrev IK:=@List.length_filter_le
abbrev IL:=@UInt8.lt_iff_toNat_lt
abbrev IM:=@List.mem_append_right
abbrev IP:=@wpOp_mono
abbrev IQ:=@Array.getElem?_replicate
abbrev IR:=@Nat.shiftLeft_eq
abbrev IU:=@List.getElem?_take_of_lt
abbrev IV:=@of_decide_eq_false
abbrev IW:=@getD_set_ne
abbrev IX:=@Nat.pow_add
abbrev IY:=@Int.le_refl
abbrev IZ:=@wp_loop_rounds
abbrev JA:=@List.length_range
abbrev JB:=@List.append_assoc
abbrev JC:=@List.foldl_append
abbrev JD:=@Bool.or_eq_true
abbrev JE:=@Tryz.zeroValue4
abbrev JF:=@List.map_congr_left
abbrev JG:=@List.length_pos_iff
abbrev JH:=@Nat.succ_mul
abbrev JI:=@List.isPrefixOf_iff_prefix
abbrev JJ:=@Region.free_spec
abbrev JK:=@Tryz.underlying3
abbrev JL:=@eq_of_beq
abbrev JM:=@List.countP_le_length
abbrev JO:=@List.eq_nil_or_concat
abbrev JP:=@Option.toList_some
abbrev JQ:=@decide_eq_true_iff
abbrev JR:=@List.pairwise_iff_getElem
abbrev JS:=@Tryz.zeroValue3
abbrev JU:=@Nat.pow_le_pow_right
abbrev JV:=@List.nodup_cons
abbrev JW:=@bne_iff_ne
abbrev JX:=@List.pairwise_append
abbrev JY:=@List.getElem!_eq_getElem?_getD
abbrev JZ:=@Int.lt_trichotomy
abbrev KA:=@Option.bind_eq_some_iff
abbrev KC:=@Array.toList_modify
abbrev KD:=@List.countP_cons
abbrev KE:=@World.rangeAt_setCells_apart
abbrev KF:=@List.drop_length
abbrev KG:=@wpList_store_mid
abbrev KH:=@Bool.not_eq_true
abbrev KI:=@List.drop_zero
abbrev KJ:=@Tryz.sizeOf4
abbrev KN:=@Addr.add_lit
abbrev KO:=@Array.getElem?_modify
abbrev KP:=@Nat.two_pow_pos
abbrev KQ:=@Nat.div_lt_iff_lt_mul
abbrev KR:=@List.length_replicate
abbrev KT:=@List.find?_some
abbrev KU:=@List.concat_eq_append
abbrev KW:=@Array.getElem?_eq_some_iff
abbrev KX:=@Array.toList_push
abbrev KY:=@Value.slice.injEq
abbrev KZ:=@List.mem_or_eq_of_mem_set
abbrev LC:=@Tryz.isAgg4
abbrev LD:=@Tryz.sizeOf3
abbrev LG:=@Tryz.underlying5
abbrev LH:=@Tryz.underlying9
abbrev LJ:=@Tryz.underlying0
abbrev LK:=@Bool.eq_false_or_eq_true
abbrev LM:=@List.filter_eq_self
abbrev LP:=@List.drop_succ_cons
abbrev LQ:=@Array.getElem?_setIfInBounds_ne
abbrev LU:=@execOp_put
abbrev LW:=@Tryz.zeroValue9
abbrev LX:=@wpS_region
abbrev LY:=@Tryz.zeroValue0
abbrev LZ:=@Nat.min_eq_left
abbrev MB:=@List.countP_append
abbrev MC:=@Exit.noGoto_ret
abbrev MF:=@Bool.eq_iff_iff
abbrev MH:=@List.mem_filterMap
abbrev MI:=@Tryz.isAgg3
abbrev MJ:=@Maps.has_true_of_atKey
abbrev MK:=@List.getElem?_set_self
abbrev ML:=@Bool.not_eq_true'
abbrev MM:=@Nat.lt_trichotomy
abbrev MN:=@List.size_toArray
abbrev MO:=@List.filterMap_append
abbrev MP:=@Nat.le_of_lt
abbrev MQ:=@Nat.zero_mul
abbrev MR:=@List.foldl_nil
abbrev MS:=@List.mem_iff_getElem
abbrev MV:=@Array.getElem?_setIfInBounds_self_of_lt
abbrev MW:=@Array.getElem?_append_left
abbrev MX:=@List.exists_cons_of_ne_nil
abbrev MZ:=@leaves_cons
abbrev NC:=@Nat.add_mul
abbrev ND:=@List.getElem_of_mem
abbrev NE:=@Array.length_toList
abbrev NF:=@List.mergeSort_perm
abbrev NG:=@List.range_succ
abbrev NH:=@Tryz.zeroValue5
abbrev NI:=@List.foldl_cons
abbrev NJ:=@run_loadVar_row
abbrev NK:=@grownCap_le_maxLen
abbrev NL:=@List.filterMap_cons_none
abbrev NM:=@List.countP_cons_of_neg
abbrev NP:=@List.pairwise_mergeSort
abbrev NQ:=@List.filter_cons_of_pos
abbrev NR:=@List.filter_cons_of_neg
theorem X {p:Prop} (h:p:=by omega):p:=h
theorem R {p:Prop} (h:p:=by rfl):p:=h
theorem N {p:Prop} (h:p:=by kernel_rfl):p:=h
theorem G {p:Prop} (h:p:=by decide):p:=h
theorem D {p:Prop} (h:p:=by simp):p:=h
theorem U {p q:Prop} (h:p) (k:p→q:=by intro h;simpa using h):q:=k h
theorem lH {p:Prop} (h:p):Hid p:=Lib.hid h
theorem zq {α:Type _} {p q:α->Prop} (j:α) (_:p j) (e:q j):q j:=e
theorem pT {l:List Value} {r} {d:Nat} {v:Value}:Act.put ⟨l.toArray,r⟩ (some d) v=⟨(l.set d v).toArray,r⟩:=by simp only [Act.put,List.setIfInBounds_toArray]
theorem lsA {α:Type _} {l:List α} {i:Nat} {a:α}:l.toArray.setIfInBounds i a=(l.set i a).toArray:=List.setIfInBounds_toArray ..
theorem aJ {α:Type _} {x a:α} {xs:List α}:(x::xs).set 0 a=a::xs:=List.set_cons_zero
theorem lsS {α:Type _} {x a:α} {xs:List α} {n:Nat}:(x::xs).set (n+1) a=x::xs.set n a:=List.set_cons_succ
structure Fr (S:Nat->Prop) (w w':World):Prop where
 os:w'.os=w.os
 tape:w'.tape=w.tape
 output:w'.output=w.output
 size:w.heap.size<=w'.heap.size
 block:∀k,k<w.heap.size->¬S k->w'.heap[k]? =w.heap[k]?
def No (_:Nat):Prop:=False
theorem Fr.refl {S:Nat->Prop} (w:World):Fr S w w:=⟨rfl,rfl,rfl,AU _,λ_ _ _=>rfl⟩
theorem Fr.trans {S T:Nat->Prop} {a b c:World} (h:Fr S a b) (k:Fr T b c) (A:∀j,j<a.heap.size->T j->S j):Fr S a c:=
 ⟨k.os.trans h.os,k.tape.trans h.tape,k.output.trans h.output,AV h.size k.size,λj r u=>(k.block j (AP r h.size) (λB=>u (A j r B))).trans (h.block j r u)⟩
theorem Fr.mono {S T:Nat->Prop} {a b:World} (h:Fr S a b) (u:∀j,j<a.heap.size->S j->T j):Fr T a b:=
 ⟨h.os,h.tape,h.output,h.size,λj r A=>h.block j r (λB=>A (u j r B))⟩
theorem Fr.drew {S:Nat->Prop} {a b:World} (h:Fr S a b):Fr S a b.drew:=⟨h.os,h.tape,h.output,h.size,h.block⟩
theorem Fr.drewN {S:Nat->Prop} {a b:World} (h:Fr S a b) (n:Nat):Fr S a (b.drewN n):=⟨h.os,h.tape,h.output,h.size,h.block⟩
theorem Fr.of_below {S:Nat->Prop} {r:Nat} {a b:World} (h:Below r a b) (u:a.heap.size<=r):Fr S a b:=
 ⟨h.os,h.tape,h.output,h.size,λk A _=>h.block k (AP A u)⟩
theorem Fr.below {S:Nat->Prop} {r:Nat} {a b:World} (h:Fr S a b) (A:r<=a.heap.size) (B:∀k,k<r->¬S k):Below r a b:=
 ⟨h.os,h.tape,h.output,h.size,λk u=>h.block k (AP u A) (B k u)⟩
theorem Fr.alloc {S:Nat->Prop} {a b:World} (h:Fr S a b) (o:Obj):Fr S a (b.alloc o):=
 ⟨h.os,h.tape,h.output,AV h.size D,λk r u=>(Below.heap_alloc _ _ _ (AP r h.size)).trans (h.block k r u)⟩
theorem Fr.setCell {S:Nat->Prop} {a b:World} (h:Fr S a b) {p:Addr} (r:S p.block\/a.heap.size<=p.block) (v:Value):Fr S a (b.setCell p v):=
 ⟨h.os,h.tape,h.output,by simpa [World.setCell] using h.size,λk A u=>(Below.heap_setCell _ _ _ _ (by
  rintro rfl;rcases r with r|r
  ·exact u r
  ·omega)).trans (h.block k A u)⟩
theorem Fr.grown {S:Nat->Prop} {a b c:World} {row:Option Nat} (h:Fr S a b) (r:b.grownBy c row) (E:∀k,row=some k->S k\/a.heap.size<=k):Fr S a c:=
 ⟨r.os.trans h.os,r.tape.trans h.tape,r.output.trans h.output,AV h.size r.size,λk u A=>(r.block k (AP u h.size) (λe=>by
  rcases E k e.symm with B|B
  ·exact A B
  ·omega)).trans (h.block k u A)⟩
theorem Fr.cell {S:Nat->Prop} {a b:World} (h:Fr S a b) {p:Addr} (u:p.block<a.heap.size) (r:¬S p.block):b.cell? p=a.cell? p:=World.cell?_of_block (w:=a) (h.block p.block u r)
theorem Fr.frozen {S:Nat->Prop} {a b:World} (h:Fr S a b) {p:Addr} (u:p.block<a.heap.size) (r:¬S p.block):b.frozen? p=a.frozen? p:=World.frozen?_of_block (w:=a) (h.block p.block u r)
theorem lt_of_cell {w:World} {p:Addr} {v:Value} (h:w.cell? p=some v):p.block<w.heap.size:=by
 rcases BK p.block w.heap.size with r|r;{exact r};{simp [World.cell?,CP r] at h}
theorem lt_of_block {w:World} {k:Nat} {o:Obj} (h:w.heap[k]? =some o):k<w.heap.size:=by
 rcases BK k w.heap.size with r|r;{exact r};{simp [CP r] at h}
theorem Fr.cell_of {S:Nat->Prop} {a b:World} (h:Fr S a b) {p:Addr} {v:Value} (r:a.cell? p=some v) (u:¬S p.block):b.cell? p=some v:=by
 rw [h.cell (lt_of_cell r) u];exact r
theorem Fr.aB {S:Nat->Prop} {a b:World} (h:Fr S a b) {k:Nat} {o:Obj} (r:a.heap[k]? =some o) (u:¬S k):b.heap[k]? =some o:=by
 rw [h.block k (lt_of_block r) u];exact r
theorem Fr.no {S:Nat->Prop} {a b:World} (h:Fr S a b) (r:∀k,k<a.heap.size->¬S k):Fr No a b:=h.mono (λj u A=>r j u A)
theorem Fr.bC {S:Nat->Prop} {a b:World} (h:Fr No a b):Fr S a b:=h.mono (λ_ _ r=>r.elim)
theorem setCell_at {w:World} {b:Nat} {cs:Array Value} {t:TypeId} {r:Nat×Nat} (h:w.heap[b]? =some (.cells cs t r)) (j:Nat) (v:Value):
  (w.setCell ⟨b,j,none⟩ v).heap[b]? =some (.cells (cs.setIfInBounds j v) t r):=by
 simp [World.setCell,KO,h]
theorem zJ {w:World} {b k:Nat} {o:Obj} (h:w.heap[k]? =some o) (r:k≠b) (j:Nat) (v:Value):(w.setCell ⟨b,j,none⟩ v).heap[k]? =some o:=by
 rw [Below.heap_setCell _ _ _ _ r];exact h
theorem aA {w:World} {b:Nat} {cs:Array Value} {t:TypeId} {r:Nat×Nat} (h:w.heap[b]? =some (.cells cs t r)) (j:Nat):w.cell? ⟨b,j,none⟩=cs[j]? :=by
 simp [World.cell?,h]
theorem aU {w:World} {b:Nat} {cs:Array Value} {t:TypeId} (h:w.heap[b]? =some (.cells cs t (0,0))) (j:Nat):w.frozen? ⟨b,j,none⟩=false:=by
 simp [World.frozen?,h]
def I64 (x:Int):Prop:= -9223372036854775808<=x/\x<=9223372036854775807
theorem aT (w:World) (o:Obj):(w.alloc o).heap[w.heap.size]? =some o:=(MapKept.heap_alloc w o).1
theorem dZ (w:World) (b j:Nat) (v:Value):Fr (· =b) w (w.setCell ⟨b,j,none⟩ v):=Fr.setCell (S:=(· =b)) (p:=⟨b,j,none⟩) (Fr.refl _) (.inl rfl) _
theorem Fr.setRow {S:Nat->Prop} {a b:World} (h:Fr S a b) {g:Nat} (r:S g\/a.heap.size<=g) (cs:Array Value):Fr S a (b.setRow g cs):=by
 refine ⟨h.os,h.tape,h.output,by simpa [World.setRow] using h.size,λk A u=> ?_⟩;rw [<-h.block k A u];simp only [World.setRow,KO];rw [AA (by
  rintro rfl;rcases r with r|r;{exact u r}
  ·omega)]
theorem aW {w:World} {b:Nat} {cs cs':Array Value} {t:TypeId} {r:Nat×Nat} (h:w.heap[b]? =some (.cells cs t r)):(w.setRow b cs').heap[b]? =some (.cells cs' t r):=by
 simp [World.setRow,KO,h]
theorem map_none {P:Program} {w:World} {d:TypeDesc} (A r u:TypeId) (B clock:Nat) (es:Array MapEntry) (k z:Value) (aa:P.underlying A=some (.map r u)) (hd:P.underlying r=some d) (V:MapKept.IsKey d k)
  (E:w.heap[B]? =some (.map es clock)) (J:Instr.findNow d k es.toList 0=some none) (ab:(zeroValue u).run P w=.ok z w) (ok:Bool):
  (Instr.lookup A (.map (some B)) k ok).run P w=.ok (if ok then .tuple #[z,.bool false] else z) w:=by
 have H:∀e,(Instr.checkKey e 10000 r k).run P w=.ok () w:=λe=>MapKept.run_checkKey hd V e 9999;simp [Instr.lookup,EF aa,EN E,H,MapKept.run_findKey hd J,ab]
instance:Coe Int Value:=⟨.int .i64⟩
instance:Coe Nat Value:=⟨λn=> .int .i64 n⟩
instance:Coe Bool Value:=⟨.bool⟩
instance:Coe ByteArray Value:=⟨.string⟩
instance:Coe World Nat:=⟨λw=>w.heap.size⟩
inductive QA|I (b o:Nat)
abbrev I:=QA.I
instance (b o:Nat):CoeDep QA (.I b o) Addr:=⟨⟨b,o,none⟩⟩
instance (b o:Nat):CoeDep (Option QA) (some (.I b o)) (Option Addr):=⟨some ⟨b,o,none⟩⟩
inductive Qv|Z (x:Int)|Y (b:Nat)|O (b l c:Nat)|nS|cE (x:Int)
abbrev Z:=Qv.Z
abbrev Y:=Qv.Y
abbrev O:=Qv.O
abbrev nS:=Qv.nS
abbrev cE:=Qv.cE
instance (x:Int):CoeDep Qv (.Z x) Value:=⟨.int .i64 x⟩
instance (b:Nat):CoeDep Qv (.Y b) Value:=⟨.pointer (some ⟨b,0,none⟩)⟩
instance (b l c:Nat):CoeDep Qv (.O b l c) Value:=⟨.slice (some ⟨b,0,none⟩) l c⟩
instance:CoeDep Qv .nS Value:=⟨.slice none 0 0⟩
instance (x:Int):CoeDep (Option Qv) (some (.Z x)) (Option Value):=⟨some (.int .i64 x)⟩
instance (b:Nat):CoeDep (Option Qv) (some (.Y b)) (Option Value):=⟨some (.pointer (some ⟨b,0,none⟩))⟩
instance (b l c:Nat):CoeDep (Option Qv) (some (.O b l c)) (Option Value):=⟨some (.slice (some ⟨b,0,none⟩) l c)⟩
instance:CoeDep (Option Qv) (some .nS) (Option Value):=⟨some (.slice none 0 0)⟩
instance (x:Int):CoeDep Qv (.cE x) (Array Value):=⟨#[.int .i64 x,.int .i64 0,.int .i64 0,.int .i64 0,.int .i64 0,.bool false,.slice none 0 0,.slice none 0 0]⟩
open Go
section
variable {P:Program} {ops:Array Oper} {Q:Exit->Act->World->Prop} {md:Region.Mode} {S:World->Prop}
def nO (P:Program) (ops:Array Oper) (S:World->Prop) (o:Oper) (v:Value) (a:Act):Prop:=
 (Region.wanted o (yielded ops a.tmps)=true/\∀w,S w->(∃w',(execOp a.eval o).run P w=.ok (.value v) w'/\S w')\/∃f args w1,(execOp a.eval o).run P w=.ok (.enter f args) w1/\Calls P f args w1 (λe w'=>e=.returned v/\S w'))\/
 (Region.wanted o (yielded ops a.tmps)=false/\v=undef)
theorem nO.wpOp {i o v a} (J:ops[i]? =some o) (aa:nO P ops S o v a) {K w} (B:S w) (h:∀w',S w'->K (a.put o.dst v) w'):wpOp P ops Q i K a w:=by
 unfold Go.wpOp;simp only [J];rcases aa with ⟨A,V⟩|⟨A,rfl⟩;{simp only [A,IJ];refine .inl ?_;rcases V w B with ⟨w',u,r⟩|⟨f,args,ad,u,E⟩;{simp only [Oper.wp,u,Oper.upon];exact h w' r};{simp only [Oper.wp,u,Oper.upon];refine Calls.mono E λe ab H=> ?_;obtain ⟨rfl,r⟩:=H;exact h ab r}};{simp only [A,DT,GG];exact h w B}
theorem nO.of_same {o v a r} (B:nO P ops S o v a) (u:execOp r.eval o=execOp a.eval o) (A:Region.wanted o (yielded ops r.tmps)=Region.wanted o (yielded ops a.tmps)):nO P ops S o v r:=by
 unfold nO at*;rw [u,A];exact B
theorem Zk {j r A v} (ah:ops[j]? =some A) (ag:r.apart ops A=true) (aj:∀cs b,r.op≠ .select cs b) (af:∀cs b,A.op≠ .select cs b) (ad:∀c a w,Q (.panic c) (a.put r.dst v) w->Q (.panic c) a w) {K a w} (B:nO P ops S r v a) (h:wpOp P ops Q j K (a.put r.dst v) w):
  wpOp P ops Q j (λaa w'=>nO P ops S r v aa/\K (aa.put r.dst v) w') a w:=by
 obtain ⟨J,E,ab⟩:=Oper.apart_spec ag;have keep:∀(a:Act),nO P ops S r v a->∀u,nO P ops S r v (a.put A.dst u):=λa B u=>
  B.of_same (LU r aj a A.dst u ab) (wanted_put r a A.dst u ab)
 have ak:∀d,nO P ops S r v {a with defers:=d::a.defers}:=λd=>B.of_same rfl rfl;unfold wpOp at*;simp only [ah] at*;rw [wanted_put A a r.dst v J] at h;split;{rename_i V;simp only [V,IJ] at h;rcases h with h|⟨ae,ai⟩;(case inr=>exact .inr ⟨by unfold Oper.asks at*;rw [LU A af a r.dst v J] at ae;exact ae,ai⟩);refine .inl ?_;unfold Oper.wp at*;rw [LU A af a r.dst v J] at h;generalize (execOp a.eval A).run P w=al at*;(cases al with|ok n w'=>{(cases n<;>simp only [Oper.upon] at h ⊢);(case value u=>exact ⟨keep a B u,by rw [<-FK a v u E];exact h⟩);(case skip=>exact ⟨keep a B _,by rw [<-FK a v undef E];exact h⟩);(case defer d=>refine ⟨keep _ (ak d) _,?_⟩;rw [<-FK _ v undef E,<-Act.put_defers];exact h);(case enter f args=>refine Calls.mono h λe am H=> ?_;(cases e with|returned u=>exact ⟨keep a B u,by rw [<-FK a v u E];exact H⟩|panicked c=>exact ad _ _ _ H|outgrown=>exact H));case row row args=>exact Rows.mono h λu am H=>⟨keep a B u,by rw [<-FK a v u E];exact H⟩}|halt x w'=>{(cases x<;>simp only [Oper.upon] at h ⊢);case panic u=>exact ad _ _ _ h})};{rename_i V;simp only [V] at h;exact ⟨keep a B _,by rw [<-FK a v undef E];exact h⟩}
def Bo (P:Program) (md:Region.Mode) (ops:Array Oper) (Q:Exit->Act->World->Prop) (S:World->Prop):Nat->Array Bool->Act->Prop
 | 0,listed,a=>Region.ready md ops listed= []/\∀w,S w->Q .normal a w
 | fuel+1,listed,a=>
  (Region.ready md ops listed= []->∀w,S w->Q .normal a w)/\
  ∀i∈Region.ready md ops listed,∀w,S w->wpOp P ops Q i (λa' w'=>S w'/\Bo P md ops Q S fuel (listed.setIfInBounds i true) a') a w
theorem Yv:∀(r:Nat) (listed:Array Bool) (a:Act) (w:World),S w->Bo P md ops Q S r listed a->wpAny P md ops Q r listed a w
 | 0,_,_,w,hS,h=>⟨h.1,h.2 w hS⟩
 | r+1,_,_,w,hS,h=>⟨λE=>h.1 E w hS,λi B=>IP (λA w' u=>Yv r _ A w' u.1 u.2) (h.2 i B w hS)⟩
theorem aF4 {i B v} (ag:ops[i]? =some B) (am:∀(j:Nat) (o:Oper) cs b,ops[j]? =some o->o.op≠ .select cs b) (aq:∀c a w,Q (.panic c) (a.put B.dst v) w->Q (.panic c) a w):
  ∀(J:Nat) (listed:Array Bool) (a:Act),
   (∀j E,ops[j]? =some E->j≠i->listed.getD j true=false->(∀e∈E.after,Region.binds md e=true->e.on≠i)->B.apart ops E=true)->
   i∈Region.ready md ops listed->nO P ops S B v a->
   Bo P md ops Q S J (listed.setIfInBounds i true) (a.put B.dst v)->Bo P md ops Q S (J+1) listed a:=by
 intro J;induction J with
 | zero=>
  intro listed a _ A ab H;refine ⟨λh=>(by rw [h] at A;cases A),λj aa w V=> ?_⟩;by_cases r:j=i;{subst r;exact ab.wpOp ag V (λw' af=>⟨af,H⟩)};{have:=EY aa r;rw [H.1] at this;cases this}
 | succ J ih=>
  intro listed a aj A ab H;refine ⟨λh=>(by rw [h] at A;cases A),λj aa w V=> ?_⟩;by_cases r:j=i;{subst r;exact ab.wpOp ag V (λw' af=>⟨af,H⟩)}
  ·have u:=H.2 j (EY aa r) w V;obtain ⟨al,E,ah,ar⟩:=FB.1 aa;have bc:∀e∈E.after,Region.binds md e=true->e.on≠i:=λe av au aw=>by
    have u:=ar e av au;have ai:=(FB.1 A).1;rw [aw] at u;rcases BK i listed.size with ad|ad;{simp [ad] at ai u;rw [ai] at u;cases u};{simp [CP ad] at u}
   have ap:=Zk ah (aj j E ah r al bc) (λcs b=>am i B cs b ag) (λcs b=>am j E cs b ah) aq ab u;have ax:∀k ok,ops[k]? =some ok->k≠i->(listed.setIfInBounds j true).getD k true=false->
     (∀e∈ok.after,Region.binds md e=true->e.on≠i)->B.apart ops ok=true:=λk ok ay az an bb=>by
     refine aj k ok ay az ?_ bb;by_cases ak:j=k;{subst ak;exact al};{rw [IW true ak] at an;exact an}
   refine IP (λao w' ae=>⟨ae.2.1,ih (listed.setIfInBounds j true) ao ax (EY A (EP r)) ae.1 ?_⟩) ap;rw [DZ _ _ r];exact ae.2.2
def pR (P:Program) (ops:Array Oper) (Q:Exit->Act->World->Prop) (S:World->Prop):List Oper->Act->Prop
 | [],a=>∀w,S w->Q .normal a w
 | o::rest,a=>∃v,nO P ops S o v a/\pR P ops Q S rest (a.put o.dst v)
theorem aCr {o rest a v} (u:Region.wanted o (yielded ops a.tmps)=true) (h:∀w,S w->(execOp a.eval o).run P w=.ok (.value v) w) (A:pR P ops Q S rest (a.put o.dst v)):pR P ops Q S (o::rest) a:=
 ⟨v,.inl ⟨u,λw r=> .inl ⟨w,h w r,r⟩⟩,A⟩
theorem aD4 {o rest a} (r:Region.wanted o (yielded ops a.tmps)=false) (u:pR P ops Q S rest (a.put o.dst undef)):pR P ops Q S (o::rest) a:=
 ⟨undef,.inr ⟨r,rfl⟩,u⟩
def pre (n k:Nat):Array Bool:=(Array.range n).map λi=>decide (i<k)
theorem Vx (n):pre n 0=Array.replicate n false:=by
 apply Array.ext;{simp [pre]};{intro i r u;simp [pre]}
theorem Fv (n k):(pre n k).setIfInBounds k true=pre n (k+1):=by
 apply Array.ext;{simp [pre]};{intro i u A;simp only [pre] at u A ⊢;rw [Array.getElem_setIfInBounds (U u)];by_cases h:k=i;{subst h;simp};{rw [AA h];simp only [Array.getElem_map,Array.getElem_range];by_cases r:i<k;{simp [r,Nat.lt_succ_of_lt r]};{simp [r];omega}}}
def yX (md:Region.Mode) (ops:Array Oper):Bool:=
 (List.range ops.size).all (λk=>(Region.ready md ops (pre ops.size k)).contains k&&Region.free md ops (pre ops.size k) k)&&(Region.ready md ops (pre ops.size ops.size)).isEmpty
theorem aEc (V:Region.noSelect ops=true) (u:yX md ops=true) (H:∀c (a:Act) d v w,Q (.panic c) (a.put d v) w->Q (.panic c) a w):
  ∀(r k:Nat) (a:Act),k+r=ops.size->pR P ops Q S (ops.toList.drop k) a->Bo P md ops Q S r (pre ops.size k) a:=by
 unfold yX at u;rw [BO,FD] at u;intro r;(induction r with|zero=>intro k a J h;(obtain rfl:k=ops.size:=by omega);rw [EO D] at h;exact ⟨by simpa using u.2,h⟩|succ r ih=>intro k a J h;(have E:k<ops.toList.length:=by simp;omega);rw [DN E] at h;obtain ⟨v,aa,h⟩:=h;(have B:ops[k]? =some (ops.toList[k]):=by rw [<-CV];exact AC E);have A:=u.1 k (CJ.2 X);rw [BO] at A;refine aF4 B (IA V) (λc a w h=>H c a _ _ w h) r (pre ops.size k) a (JJ B A.2) (U A.1) aa ?_;rw [Fv];exact ih (k+1) _ X h)
end
section
variable {P:Program} {ops:Array Oper} {Q:Exit->Act->World->Prop} {md:Region.Mode} {S:World->Prop} {T:Nat->Bool}
def reach (md:Region.Mode) (ops:Array Oper):Nat->Nat->Nat->Bool
 | 0,_,_=>false
 | f+1,j,i=>match ops[j]? with
  | none=>false
  | some o=>o.after.any λe=>Region.binds md e&&(e.on==i||reach md ops f e.on i)
def Closed (md:Region.Mode) (ops:Array Oper) (listed:Array Bool):Prop:=∀(j:Nat) o,ops[j]? =some o->listed.getD j false=true->∀e∈o.after,Region.binds md e=true->listed.getD e.on false=true
theorem Closed.set {listed} (h:Closed md ops listed) {j} (H:j∈Region.ready md ops listed):Closed md ops (listed.setIfInBounds j true):=by
 intro k o r J e A u;obtain ⟨aa,ab,V,E⟩:=FB.1 H;by_cases B:k=j;{subst B;rw [V] at r;cases r;exact getD_set_true (E e A u)};{(have:listed.getD k false=true:=by rwa [IW false (EP B)] at J);exact getD_set_true (h k o r this e A u)}
theorem Bi {listed:Array Bool} (h:Closed md ops listed):∀(f j i:Nat),(∀o,ops[j]? =some o->∀e∈o.after,Region.binds md e=true->listed.getD e.on false=true)->reach md ops f j i=true->listed.getD i false=true
 | 0,_,_,_,hr=>by simp [reach] at hr
 | f+1,j,i,hj,hr=>by
  unfold reach at hr;cases A:ops[j]? with
  | none=>rw [A] at hr;cases hr
  | some o=>
   rw [A] at hr;simp only [Array.any_eq_true'] at hr;obtain ⟨e,H,r⟩:=hr;rw [BO,JD] at r;have B:=hj o A e H r.1;rcases r.2 with u|u
   ·rw [<-JL u];exact B
   ·exact Bi h f e.on i (λaa V e' J E=>h e.on aa V B e' J E) u
def wG (P:Program) (md:Region.Mode) (ops:Array Oper) (Q:Exit->Act->World->Prop) (S:World->Prop) (T:Nat->Bool):Nat->Array Bool->Act->Prop
 | 0,listed,a=>Region.ready md ops listed= []/\∀w,S w->Q .normal a w
 | fuel+1,listed,a=>
  (Region.ready md ops listed= []->∀w,S w->Q .normal a w)/\
  ∀i∈Region.ready md ops listed,∀w,S w->wpOp P ops Q i (λa' w'=>if T i=true then wpAny P md ops Q fuel (listed.setIfInBounds i true) a' w' else S w'/\wG P md ops Q S T fuel (listed.setIfInBounds i true) a') a w
theorem Jy:∀(r:Nat) (listed:Array Bool) (a:Act) (w:World),S w->wG P md ops Q S T r listed a->wpAny P md ops Q r listed a w
 | 0,_,_,w,hS,h=>⟨h.1,h.2 w hS⟩
 | r+1,_,_,w,hS,h=>⟨λE=>h.1 E w hS,λi B=>IP (λA w' u=>by
   split at u
   ·exact u
   ·exact Jy r _ A w' u.1 u.2) (h.2 i B w hS)⟩
theorem aBs {i B v} (ab:ops[i]? =some B) (ai:∀(j:Nat) (o:Oper) cs b,ops[j]? =some o->o.op≠ .select cs b) (am:∀c a w,Q (.panic c) (a.put B.dst v) w->Q (.panic c) a w) (an:T i=false):
  ∀(H:Nat) (listed:Array Bool) (a:Act),
   (∀j E,ops[j]? =some E->j≠i->listed.getD j true=false->(∀e∈E.after,Region.binds md e=true->e.on≠i)->B.apart ops E=true)->
   i∈Region.ready md ops listed->Yields P ops B v a->
   wG P md ops Q S T H (listed.setIfInBounds i true) (a.put B.dst v)->wG P md ops Q S T (H+1) listed a:=by
 intro H;induction H with
 | zero=>
  intro listed a _ u ae J;refine ⟨λh=>(by rw [h] at u;cases u),λj ad w aa=> ?_⟩;by_cases r:j=i;{subst r;exact ae.wpOp ab (by rw [AA (by simp [an])];exact ⟨aa,J⟩)};{have:=EY ad r;rw [J.1] at this;cases this}
 | succ H ih=>
  intro listed a ao u ae J;refine ⟨λh=>(by rw [h] at u;cases u),λj ad w aa=> ?_⟩;by_cases r:j=i;{subst r;exact ae.wpOp ab (by rw [AA (by simp [an])];exact ⟨aa,J⟩)}
  ·have A:=J.2 j (EY ad r) w aa;obtain ⟨ar,E,ah,ax⟩:=FB.1 ad;have bf:∀e∈E.after,Region.binds md e=true->e.on≠i:=λe az ay bb=>by
    have A:=ax e az ay;have ak:=(FB.1 u).1;rw [bb] at A;rcases BK i listed.size with af|af;{simp [af] at ak A;rw [ak] at A;cases A};{simp [CP af] at A}
   have av:=wpOp_put ah (ao j E ah r ar bf) (λcs b=>ai i B cs b ab) (λcs b=>ai j E cs b ah) am ae A;have ap:∀k ok,ops[k]? =some ok->k≠i->(listed.setIfInBounds j true).getD k true=false->
     (∀e∈ok.after,Region.binds md e=true->e.on≠i)->B.apart ops ok=true:=λk ok bc bd au be=>by
     refine ao k ok bc bd ?_ be;by_cases aq:j=k;{subst aq;exact ar};{rw [IW true aq] at au;exact au}
   refine IP (λaj w' aw=> ?_) av;obtain ⟨al,V⟩:=aw;split at V;{rename_i ag;rw [AL ag];refine wpAny_first ab ai am H (listed.setIfInBounds j true) aj w' ap (EY u (EP r)) al ?_;rw [DZ _ _ r];exact V};{rename_i ag;rw [AA ag];refine ⟨V.1,ih (listed.setIfInBounds j true) aj ap (EY u (EP r)) al ?_⟩;rw [DZ _ _ r];exact V.2}
theorem Y6 {i E v} (am:ops[i]? =some E) (aw:∀(j:Nat) (o:Oper) cs b,ops[j]? =some o->o.op≠ .select cs b) (bc:∀c a w,Q (.panic c) (a.put E.dst v) w->Q (.panic c) a w) (an:T i=false) (f) (bd:∀t,T t=true->reach md ops f t i=true):
  ∀(aa:Nat) (listed:Array Bool) (a:Act),Closed md ops listed->
   (∀j H,ops[j]? =some H->j≠i->listed.getD j true=false->(∀e∈H.after,Region.binds md e=true->e.on≠i)->E.apart ops H=true)->
   i∈Region.ready md ops listed->nO P ops S E v a->
   wG P md ops Q S T aa (listed.setIfInBounds i true) (a.put E.dst v)->wG P md ops Q S T (aa+1) listed a:=by
 intro aa;induction aa with
 | zero=>
  intro listed a _ _ u ag V;refine ⟨λh=>(by rw [h] at u;cases u),λj ad w ae=> ?_⟩;by_cases r:j=i;{subst r;exact ag.wpOp am ae (λw' ai=>by rw [AA (by simp [an])];exact ⟨ai,V⟩)};{have:=EY ad r;rw [V.1] at this;cases this}
 | succ aa ih=>
  intro listed a ap aq u ag V;refine ⟨λh=>(by rw [h] at u;cases u),λj ad w ae=> ?_⟩;by_cases r:j=i;{subst r;exact ag.wpOp am ae (λw' ai=>by rw [AA (by simp [an])];exact ⟨ai,V⟩)}
  ·have B:=V.2 j (EY ad r) w ae;obtain ⟨au,H,af,ao⟩:=FB.1 ad;have aj:¬T j=true:=λaj=>by
    have J:=Bi ap f j i (λo av e al ak=>by rw [af] at av;cases av;exact ao e al ak) (bd j aj);have ab:=(FB.1 u).1;rcases BK i listed.size with A|A;{simp [A] at ab J;rw [ab] at J;cases J};{simp [CP A] at J}
   have bj:∀e∈H.after,Region.binds md e=true->e.on≠i:=λe al ak be=>by
    have B:=ao e al ak;have ab:=(FB.1 u).1;rw [be] at B;rcases BK i listed.size with A|A;{simp [A] at ab B;rw [ab] at B;cases B};{simp [CP A] at B}
   have az:=Zk af (aq j H af r au bj) (λcs b=>aw i E cs b am) (λcs b=>aw j H cs b af) bc ag B;have bf:∀k ok,ops[k]? =some ok->k≠i->(listed.setIfInBounds j true).getD k true=false->
     (∀e∈ok.after,Region.binds md e=true->e.on≠i)->E.apart ops ok=true:=λk ok bg bh ax bi=>by
     refine aq k ok bg bh ?_ bi;by_cases ar:j=k;{subst ar;exact au};{rw [IW true ar] at ax;exact ax}
   refine IP (λay w' J=> ?_) az;obtain ⟨bb,ah⟩:=J;rw [AA aj] at ah ⊢;refine ⟨ah.1,ih (listed.setIfInBounds j true) ay (ap.set ad) bf (EY u (EP r)) bb ?_⟩;rw [DZ _ _ r];exact ah.2
def o6 (md:Region.Mode) (ops:Array Oper):Array Bool->List Nat->Bool
 | listed, []=>(Region.ready md ops listed).isEmpty
 | listed,i::r=>(Region.ready md ops listed== [i])&&o6 md ops (listed.setIfInBounds i true) r
def mX (md:Region.Mode) (ops:Array Oper) (L2:List Nat):Array Bool->List Nat->Bool
 | listed, []=>o6 md ops listed L2
 | listed,i::r=>(Region.ready md ops listed).contains i&&Region.free md ops listed i&& !L2.contains i&&mX md ops L2 (listed.setIfInBounds i true) r
def rch (md:Region.Mode) (ops:Array Oper) (L2:List Nat) (i:Nat):Bool:=L2.all λt=>reach md ops ops.size t i
def Fj (P:Program) (md:Region.Mode) (ops:Array Oper) (Q:Exit->Act->World->Prop) (S:World->Prop) (L2:List Nat):List Nat->Act->Prop
 | [],a=>∀w,S w->wpList P ops Q (L2.filterMap λi=>ops[i]?) a w
 | i::r,a=>∃o v,ops[i]? =some o/\(Yields P ops o v a\/(rch md ops L2 i=true/\nO P ops S o v a))/\Fj P md ops Q S L2 r (a.put o.dst v)
theorem Dv:∀(L:List Nat) (u:Nat) (listed:Array Bool) (a:Act) (w:World),L.length=u->o6 md ops listed L=true->wpList P ops Q (L.filterMap λi=>ops[i]?) a w->wpAny P md ops Q u listed a w
 | [],u,listed,a,w,hl,hok,h=>by
  subst hl;exact ⟨by simpa [o6] using hok,h⟩
 | i::r,u,listed,a,w,hl,hok,h=>by
  obtain ⟨f,rfl⟩:∃f,u=f+1:=⟨r.length,by simp at hl;omega⟩
  unfold o6 at hok;rw [BO] at hok;have J:=JL hok.1;refine ⟨λE=>(by rw [J] at E;cases E),λj A=> ?_⟩;have ad:=A;rw [J,BB] at A;subst A;obtain ⟨_,o,H,_⟩:=FB.1 ad;rw [EE,H] at h;simp only [wpList] at h;unfold wpOp;rw [H];simp only;have V:=λaa w' ab=>Dv r f (listed.setIfInBounds j true) aa w' (by simp at hl;omega) hok.2 ab;split at h
  ·rename_i B
   rw [AL B];rcases h with h|h
   ·exact .inl (Oper.wp_mono V h)
   ·exact .inr h
  ·rename_i B
   rw [AA B];exact V _ _ h
theorem aF9 (aj:Region.noSelect ops=true) (ah:∀c (a:Act) d v w,Q (.panic c) (a.put d v) w->Q (.panic c) a w) (L2):
  ∀(J:List Nat) (A:Nat) (listed:Array Bool) (a:Act),J.length+L2.length=A->Closed md ops listed->mX md ops L2 listed J=true->Fj P md ops Q S L2 J a->wG P md ops Q S (λi=>L2.contains i) A listed a:=by
 intro J;(induction J with|nil=>{intro A listed a H ab u h;have ae:∀w,S w->wpAny P md ops Q A listed a w:=λw E=>Dv L2 A listed a w (U H) u (h w E);(cases A with|zero=>have an:L2= []:=(U H);subst an;exact ⟨by simpa [mX,o6] using u,λw E=>(ae w E).2⟩|succ f=>refine ⟨λV w E=>(ae w E).1 V,λi B w E=>IP (λap w' ak=> ?_) ((ae w E).2 i B)⟩;(cases L2 with|nil=>simp at H|cons t r=>unfold mX o6 at u;rw [BO] at u;rw [JL u.1,BB] at B;rw [AL (by simp [B])];exact ak))}|cons i r ih=>{intro A listed a H ab u h;obtain ⟨f,rfl⟩:∃f,A=f+1:=⟨r.length+L2.length,by simp at H;omega⟩;unfold mX at u;simp only [BO,ML] at u;obtain ⟨⟨⟨al,af⟩,ag⟩,am⟩:=u;(have V:i∈Region.ready md ops listed:=by simpa using al);obtain ⟨o,v,B,aa,h⟩:=h;have ai:=ih f (listed.setIfInBounds i true) (a.put o.dst v) (by simp at H;omega) (ab.set V) am h;rcases aa with aa|⟨ad,aa⟩;{exact aBs B (IA aj) (λc a w h=>ah c a _ _ w h) ag f listed a (JJ B af) V aa ai};{refine Y6 B (IA aj) (λc a w h=>ah c a _ _ w h) ag ops.size (λt ao=> ?_) f listed a ab (JJ B af) V aa ai;unfold rch at ad;rw [FD] at ad;exact ad t (U ao)}})
theorem aF2 {id a w} (J:P.follows .mixedOrders=true) (S r L2) (V:Region.noSelect ops=true) (H:r.length+L2.length=ops.size) (E:mX .any ops L2 (Array.replicate ops.size false) r=true) (A:∀c (a:Act) d v w,Q (.panic c) (a.put d v) w->Q (.panic c) a w) (B:S w.drew) (h:Fj P .any ops Q S L2 r a):(Code.region id ops true).wp P Q a w:=by
 refine wp_region_any J ?_;refine Jy _ _ _ _ B (aF9 V A L2 r ops.size _ a H (λj o aa u=> ?_) E h);rw [EJ,IQ] at u;split at u<;>cases u
def kD (P:Program) (md:Region.Mode) (ops:Array Oper) (Q:Exit->Act->World->Prop) (S:World->Prop) (L2:List Nat):Nat->List Oper->List Oper->Act->Prop
 | _, [],acc,a=>∀w,S w->wpList P ops Q acc.reverse a w
 | k,o::rest,acc,a=>if L2.contains k=true then kD P md ops Q S L2 (k+1) rest (o::acc) a else ∃v,(Yields P ops o v a\/(rch md ops L2 k=true/\nO P ops S o v a))/\kD P md ops Q S L2 (k+1) rest acc (a.put o.dst v)
theorem Ju {L2:List Nat} (A:L2=(List.range ops.size).filter λi=>L2.contains i):∀(u k:Nat) (acc:List Oper) (a:Act),k+u=ops.size->acc.reverse=((List.range k).filter λi=>L2.contains i).filterMap (λi=>ops[i]?)->
  kD P md ops Q S L2 k (ops.toList.drop k) acc a->Fj P md ops Q S L2 ((List.range' k u).filter λi=> !L2.contains i) a
 | 0,k,acc,a,hk,hacc,h=>by
  obtain rfl:k=ops.size:=by omega
  rw [EO D] at h;intro w H;have:=h w H;rw [hacc,<-A] at this;exact this
 | u+1,k,acc,a,hk,hacc,h=>by
  have E:k<ops.toList.length:=by simp;omega
  have B:ops[k]? =some (ops.toList[k]):=by rw [<-CV];exact AC E
  rw [DN E] at h;unfold kD at h;rw [List.range'_succ,GM];split at h
  ·rename_i r
   rw [AA (by simp only [r];decide)];refine Ju A u (k+1) _ a X ?_ h;rw [CX,hacc,NG,DW,MO];simp only [GM,r,IJ,List.filter_nil,EE,B,FW]
  ·rename_i r
   rw [AL (U r)];obtain ⟨v,J,h⟩:=h;refine ⟨_,v,B,J,Ju A u (k+1) acc _ X ?_ h⟩;rw [hacc,NG,DW,MO];have:L2.contains k=false:=(U r)
   simp only [GM,this,List.filter_nil,FW,EK,DT,GG]
theorem qL {id a w} (H:P.follows .mixedOrders=true) (S L2) (J:Region.noSelect ops=true) (r:(L2==(List.range ops.size).filter λi=>L2.contains i)=true) (E:(((List.range' 0 ops.size).filter λi=> !L2.contains i).length+L2.length==ops.size)=true) (B:mX .any ops L2 (Array.replicate ops.size false) ((List.range' 0 ops.size).filter λi=> !L2.contains i)=true) (u:∀c (a:Act) d v w,Q (.panic c) (a.put d v) w->Q (.panic c) a w) (A:S w.drew) (h:kD P .any ops Q S L2 0 ops.toList [] a):(Code.region id ops true).wp P Q a w:=
 aF2 H S _ L2 J (JL E) B u A (Ju (JL r) ops.size 0 [] a X D (U h))
variable {L2:List Nat} {k:Nat} {o:Oper} {rest acc:List Oper} {a:Act} {v:Value}
theorem kR (r:L2.contains k=true) (h:kD P md ops Q S L2 (k+1) rest (o::acc) a):kD P md ops Q S L2 k (o::rest) acc a:=by
 unfold kD;rw [AL r];exact h
theorem kM (r:L2.contains k=false) (u:Region.wanted o (yielded ops a.tmps)=true) (h:∀w,(execOp a.eval o).run P w=.ok (.value v) w) (A:kD P md ops Q S L2 (k+1) rest acc (a.put o.dst v)):kD P md ops Q S L2 k (o::rest) acc a:=by
 unfold kD;rw [AA (by simp only [r];decide)];exact ⟨v,.inl (.inl ⟨u,h⟩),A⟩
theorem nK (r:L2.contains k=false) (u:Region.wanted o (yielded ops a.tmps)=false) (A:kD P md ops Q S L2 (k+1) rest acc (a.put o.dst undef)):kD P md ops Q S L2 k (o::rest) acc a:=by
 unfold kD;rw [AA (by simp only [r];decide)];exact ⟨undef,.inl (.inr ⟨u,rfl⟩),A⟩
theorem kL (A:L2.contains k=false) (u:rch md ops L2 k=true) (B:Region.wanted o (yielded ops a.tmps)=true) (h:∀w,S w->(execOp a.eval o).run P w=.ok (.value v) w) (E:kD P md ops Q S L2 (k+1) rest acc (a.put o.dst v)):kD P md ops Q S L2 k (o::rest) acc a:=by
 unfold kD;rw [AA (by simp only [A];decide)];exact ⟨v,.inr ⟨u,.inl ⟨B,λw r=> .inl ⟨w,h w r,r⟩⟩⟩,E⟩
theorem o9 (f args) (B:L2.contains k=false) (u:rch md ops L2 k=true) (E:Region.wanted o (yielded ops a.tmps)=true) (h:∀w,(execOp a.eval o).run P w=.ok (.enter f args) w) (A:∀w,S w->Calls P f args w (λe w'=>e=.returned v/\S w')) (H:kD P md ops Q S L2 (k+1) rest acc (a.put o.dst v)):kD P md ops Q S L2 k (o::rest) acc a:=by
 unfold kD;rw [AA (by simp only [B];decide)];exact ⟨v,.inr ⟨u,.inl ⟨E,λw r=> .inr ⟨f,args,w,h w,A w r⟩⟩⟩,H⟩
end
section
variable {P:Program} {ops:Array Oper} {Q:Exit->Act->World->Prop} {md:Region.Mode} {S:World->Prop}
def edge (md:Region.Mode) (ops:Array Oper) (j i:Nat):Bool:=match ops[j]? with
 | none=>false
 | some o=>o.after.any λe=>Region.binds md e&&e.on==i
theorem Vh {f j i} (h:edge md ops j i=true):reach md ops (f+1) j i=true:=by
 unfold edge at h;unfold reach;split at h;{cases h};{rename_i o u;(try rw [u]);(try dsimp only);rw [Array.any_eq_true] at h ⊢;obtain ⟨k,r,h⟩:=h;rw [BO] at h;exact ⟨k,r,by rw [h.1,h.2];rfl⟩}
theorem V3:∀ {f t j i:Nat},reach md ops f t j=true->edge md ops j i=true->reach md ops (f+1) t i=true
 | 0,_,_,_,h,_=>by simp [reach] at h
 | f+1,t,j,i,h,he=>by
  unfold reach at h ⊢;split at h
  ·cases h
  ·rename_i o A
   try dsimp only
   rw [Array.any_eq_true] at h ⊢;obtain ⟨k,u,h⟩:=h;rw [BO,JD] at h;refine ⟨k,u,?_⟩;rw [BO,JD];refine ⟨h.1,.inr ?_⟩;rcases h.2 with r|r
   ·rw [JL r];exact Vh he
   ·exact V3 r he
theorem Po:∀ {f t i:Nat},reach md ops f t i=true->reach md ops (f+1) t i=true
 | 0,_,_,h=>by simp [reach] at h
 | f+1,t,i,h=>by
  unfold reach at h ⊢;split at h
  ·cases h
  ·rename_i o A
   try dsimp only
   rw [Array.any_eq_true] at h ⊢;obtain ⟨k,u,h⟩:=h;rw [BO,JD] at h;refine ⟨k,u,?_⟩;rw [BO,JD];refine ⟨h.1,?_⟩;rcases h.2 with r|r
   ·exact .inl r
   ·exact .inr (Po r)
theorem N7 {f g t i} (h:reach md ops f t i=true) (u:f<=g):reach md ops g t i=true:=by
 (induction g with|zero=>(obtain rfl:f=0:=by omega);exact h|succ g ih=>{rcases BK g f with r|r;{(obtain rfl:f=g+1:=by omega);exact h};{exact Po (ih r)}})
def qR (md:Region.Mode) (ops:Array Oper) (L2:List Nat):Bool:=L2.all λt=>decide (t<ops.size)&&(List.range t).all λi=>(List.range' (i+1) (t - i)).any λj=>edge md ops j i
theorem Zg {t} (h:((List.range t).all λi=>(List.range' (i+1) (t - i)).any λj=>edge md ops j i)=true):∀d i,t - i=d->i<t->reach md ops (t - i) t i=true:=by
 intro d;(induction d using Nat.strongRecOn with|ind d ih=>{intro i hd B;rw [FD] at h;have r:=h i (CJ.2 B);rw [List.any_eq_true] at r;obtain ⟨j,E,A⟩:=r;rw [List.mem_range'_1] at E;rcases BK j t with u|u;{exact N7 (V3 (ih (t - j) X j rfl u) A) X};{(obtain rfl:j=t:=by omega);exact N7 (f:=1) (Vh A) X}})
theorem qY {L2 k} (h:qR md ops L2=true) (u:(L2.all λt=>decide (k<t))=true):rch md ops L2 k=true:=by
 unfold qR at h;unfold rch;rw [FD] at h u ⊢;intro t A;have r:=h t A;rw [BO] at r;have B:t<ops.size:=by simpa using r.1
 exact N7 (Zg r.2 _ k rfl (by simpa using u t A)) X
structure Ci (ops:Array Oper) (L2:List Nat):Prop where
 sel:Region.noSelect ops=true
 row:(L2==(List.range ops.size).filter λi=>L2.contains i)=true
 len:(((List.range' 0 ops.size).filter λi=> !L2.contains i).length+L2.length==ops.size)=true
 ok:mX .any ops L2 (Array.replicate ops.size false) ((List.range' 0 ops.size).filter λi=> !L2.contains i)=true
 all:qR .any ops L2=true
theorem iT {id a w} (L2) (r:Region.noSelect ops=true) (u:(L2==(List.range ops.size).filter λi=>L2.contains i)=true) (A:(((List.range' 0 ops.size).filter λi=> !L2.contains i).length+L2.length==ops.size)=true) (B:mX .any ops L2 (Array.replicate ops.size false) ((List.range' 0 ops.size).filter λi=> !L2.contains i)=true) (E:qR .any ops L2=true) (h:Hid (Ci ops L2)->(Code.region id ops true).wp P Q a w):(Code.region id ops true).wp P Q a w:=h (lH ⟨r,u,A,B,E⟩)
theorem uP {id a w L2} (A:P.follows .mixedOrders=true) (ok:Hid (Ci ops L2)) (S) (r:∀c (a:Act) d v w,Q (.panic c) (a.put d v) w->Q (.panic c) a w) (u:S w.drew) (h:kD P .any ops Q S L2 0 ops.toList [] a):(Code.region id ops true).wp P Q a w:=
 qL A S L2 ok.o.sel ok.o.row ok.o.len ok.o.ok r u h
variable {L2:List Nat} {k:Nat} {o:Oper} {rest acc:List Oper} {a:Act} {v:Value}
theorem qJ (ok:Hid (Ci ops L2)) (u:L2.contains k=false) (r:(L2.all λt=>decide (k<t))=true) (A:Region.wanted o (yielded ops a.tmps)=true) (h:∀w,S w->(execOp a.eval o).run P w=.ok (.value v) w) (B:kD P .any ops Q S L2 (k+1) rest acc (a.put o.dst v)):kD P .any ops Q S L2 k (o::rest) acc a:=
 kL u (qY ok.o.all r) A h B
end
section
variable {P:Program} {Q:Exit->Act->World->Prop} {a:Act} {w:World} {l:List Oper} {id:Nat}
theorem bJ {ops V u} (L2) (k:wpList P ops Q V u w.drew) (ad:P.follows .mixedOrders=true) (A:Region.noSelect ops=true:=by kernel_rfl) (B:(L2==(List.range ops.size).filter λi=>L2.contains i)=true:=by kernel_rfl) (E:(((List.range' 0 ops.size).filter λi=> !L2.contains i).length+L2.length==ops.size)=true:=by kernel_rfl) (H:mX .any ops L2 (Array.replicate ops.size false) ((List.range' 0 ops.size).filter λi=> !L2.contains i)=true:=by kernel_rfl) (J:qR .any ops L2=true:=by kernel_rfl) (ab:∀c (a:Act) d v w,Q (.panic c) (a.put d v) w->Q (.panic c) a w:=by
   intro _ _ d _ _ h;cases d<;>exact h) (h:Hid (Ci ops L2)->Hid (wpList P ops Q V u w.drew)->kD P .any ops Q (λW=>W=w.drew) L2 0 ops.toList [] a:=by
   intro aa k;repeat (first
    | refine kR R ?_
    | (refine kM (v:= ?_) R R ?_ ?_
       rotate_left 1
       (intro W;go_simp;(try with_reducible rfl))
       simp only [pT,aJ,lsS]
       (try rw [D1.o])
       (try rw [D2.o])
       (try rw [D3.o])
       (try rw [D4.o]))
    | (refine nK R R ?_
       simp only [pT,aJ,lsS])
    | (refine qJ (v:= ?_) aa R R R ?_ ?_
       rotate_left 1
       (intro W r;subst r;go_simp;(try with_reducible rfl))
       simp only [pT,aJ,lsS]
       (try rw [D1.o])
       (try rw [D2.o])
       (try rw [D3.o])
       (try rw [D4.o])))
   intro W r;subst r;simp only [CX,DL,DC,CQ];exact k.o):(Code.region id ops true).wp P Q a w:=uP ad (lH ⟨A,B,E,H,J⟩) (λW=>W=w.drew) ab rfl (h (lH ⟨A,B,E,H,J⟩) (lH k))
end
class kS (P:Program) (ty:TypeId) (n:outParam Nat):Prop where
 und:∃d,P.underlying ty=some d/\d.isRow=true/\(match d with| .struct _| .array _ _=>true|_=>false)=true
 sz:(P.info? ty).map (·.size)=some n
instance:kS prog 29 8:=⟨⟨_,underlying29,rfl,rfl⟩,by kernel_rfl⟩
instance:kS prog 36 14:=⟨⟨_,underlying36,rfl,rfl⟩,by kernel_rfl⟩
instance:kS prog 41 14:=⟨⟨_,underlying41,rfl,rfl⟩,by kernel_rfl⟩
instance:kS prog 46 3:=⟨⟨_,underlying46,rfl,rfl⟩,by kernel_rfl⟩
instance:kS prog 53 4:=⟨⟨_,underlying53,rfl,rfl⟩,by kernel_rfl⟩
instance:kS prog 59 5:=⟨⟨_,underlying59,rfl,rfl⟩,by kernel_rfl⟩
instance:kS prog 61 14:=⟨⟨_,underlying61,rfl,rfl⟩,by kernel_rfl⟩
instance:kS prog 80 6:=⟨⟨_,underlying80,rfl,rfl⟩,by kernel_rfl⟩
instance:kS prog 92 8:=⟨⟨_,underlying92,rfl,rfl⟩,by kernel_rfl⟩
instance:kS prog 111 6:=⟨⟨_,underlying111,rfl,rfl⟩,by kernel_rfl⟩
instance:kS prog 238 9:=⟨⟨_,underlying238,rfl,rfl⟩,by kernel_rfl⟩
instance:kS prog 329 4:=⟨⟨_,underlying329,rfl,rfl⟩,by kernel_rfl⟩
instance:kS prog 86 3:=⟨⟨_,underlying86,rfl,rfl⟩,by kernel_rfl⟩
instance:kS prog 115 7:=⟨⟨_,underlying115,rfl,rfl⟩,by kernel_rfl⟩
instance:kS prog 141 4:=⟨⟨_,underlying141,rfl,rfl⟩,by kernel_rfl⟩
instance:kS prog 146 4:=⟨⟨_,underlying146,rfl,rfl⟩,by kernel_rfl⟩
instance:kS prog 324 4:=⟨⟨_,underlying324,rfl,rfl⟩,by kernel_rfl⟩
instance:kS prog 354 2:=⟨⟨_,underlying354,rfl,rfl⟩,by kernel_rfl⟩
instance:kS prog 360 4:=⟨⟨_,underlying360,rfl,rfl⟩,by kernel_rfl⟩
section
variable {P:Program} {ops:Array Oper} {rest:List Oper} {o:Oper} {a:Act} {w:World} {Q:Exit->Act->World->Prop} {x y:Operand} {n b k:Nat}
theorem wL (r:TypeId) {cs:List Value} (E:w.rangeAt b k cs) (h:wpList P ops Q rest (a.put o.dst (.agg cs.toArray)) w)
  (H:o.guard=none:=by rfl) (V:o.op=.load r x:=by rfl) (ab:a.eval x=.pointer (some ⟨b,k,none⟩):=by rfl) (aa:kS P r n:=by infer_instance) (J:cs.length=n:=by rfl):wpList P ops Q (o::rest) a w:=by
 obtain ⟨⟨d,u,A,_⟩,B⟩:=aa;exact EQ H r x V b k ab cs d E u A (by rw [J];exact B) h
theorem wR (r:TypeId) {cs:Array Value} {t:TypeId} {fr:Nat×Nat} (H:w.heap[b]? =some (.cells cs t fr)) (h:wpList P ops Q rest (a.put o.dst (.agg cs)) w)
  (E:o.guard=none:=by rfl) (V:o.op=.load r x:=by rfl) (ab:a.eval x=.pointer (some ⟨b,0,none⟩):=by rfl) (aa:kS P r n:=by infer_instance) (J:cs.size=n:=by rfl):wpList P ops Q (o::rest) a w:=by
 obtain ⟨⟨d,u,_,A⟩,B⟩:=aa;exact CS E r x V b ab t cs fr d H u (by cases d<;>exact A) (by rw [J];exact B) h
theorem wS (r:TypeId) {cs old:Array Value} {t:TypeId} (B:w.heap[b]? =some (.cells old t (0,0))) (h:wpList P ops Q rest (a.put o.dst undef) (w.setRow b cs))
  (A:o.guard=none:=by rfl) (J:o.op=.store r x y:=by rfl) (aa:a.eval x=.pointer (some ⟨b,0,none⟩):=by rfl) (ab:a.eval y=.agg cs:=by rfl) (V:kS P r n:=by infer_instance) (H:cs.size=n:=by rfl)
  (E:old.size=cs.size:=by rfl) (u:cs.all (·.oneCell')=true:=by simp [Value.oneCell']):wpList P ops Q (o::rest) a w:=
 BR A r x y J b cs aa ab t old B (by rw [H];exact V.sz) E u h
theorem bE {fn:Func} {R:Ending->World->Prop} {p:Tmp} {r t:TypeId} {cs:Array Value} {fr:Nat×Nat} (H:w.heap[b]? =some (.cells cs t fr)) (E:R (.returned (.agg cs)) w)
  (h:fn.results= #[.cell p r]:=by rfl) (V:a.tmps.getD p undef=.pointer (some ⟨b,0,none⟩):=by rfl) (aa:kS P r n:=by infer_instance) (J:cs.size=n:=by rfl) (hd:a.defers= []:=by rfl):bodyPost P fn R .ret a w:=by
 obtain ⟨⟨d,u,_,A⟩,B⟩:=aa;exact AZ (BH h _ _ b t cs fr d V H u (by cases d<;>exact A) (by rw [J];exact B)) hd E
end
theorem fR {w:World} {b:Nat} {cs:Array Value}:Fr (λj=>j=b) w (w.setRow b cs):=Fr.setRow (S:=λj=>j=b) (Fr.refl _) (.inl rfl) _
theorem fA {α:Type} {x y z:α} (h:x=y) (e:y=z:=by exact BD some N):x=z:=h.trans e
theorem aC {A B:Prop} (k:B) (h:Hid B->A:=by
 intro k;go_wp2_with fail;exact k.o):A:=h (lH k)
theorem cq {P f a w R E W} (h:Calls P f a w λe v=>e=E/\v=W) (k:R E W):Calls P f a w R:=h.mono λ_ _ ⟨x,y⟩=>x▸y▸k
theorem cr {P f a w R} {E:World->Ending} {F:World->Prop} (h:Calls P f a w λe v=>e=E v/\F v) (k:∀v,F v->R (E v) v):Calls P f a w R:=h.mono λ_ v ⟨x,y⟩=>x▸k v y
