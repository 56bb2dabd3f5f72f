/- Part of the proof; the last text says what is proved. -/
import Derived.Test.YtlcojhddnpmgmaaGreatProg
import Derived.Lib.Hide
import Derived.Outline
import Derived.WalkKit
import Derived.WalkLawsBesides
import Derived.WalkSpells
set_option linter.unusedSimpArgs false
set_option linter.unusedVariables false
set_option maxRecDepth 100000
namespace Go.Proofs.YtlcojhddnpmgmaaGreat
open Go.RowKit
theorem lH {p:Prop} (h:p):Hid p:=Lib.hid h
theorem lsA {α:Type _} {l:List α} {i:Nat} {a:α}:l.toArray.setIfInBounds i a=(l.set i a).toArray:=List.setIfInBounds_toArray ..
theorem lsZ {α:Type _} {x a:α} {xs:List α}:(x::xs).set 0 a=a::xs:=List.set_cons_zero
theorem lsS {α:Type _} {x a:α} {xs:List α} {n:Nat}:(x::xs).set (n+1) a=x::xs.set n a:=List.set_cons_succ
structure Fr (S:Nat→Prop) (w w':World):Prop where
 os:w'.os=w.os
 tape:w'.tape=w.tape
 output:w'.output=w.output
 size:w.heap.size≤w'.heap.size
 block:∀k,k<w.heap.size→¬S k→w'.heap[k]? =w.heap[k]?
def No (_:Nat):Prop:=False
theorem Fr.refl {S:Nat→Prop} (w:World):Fr S w w:=⟨rfl,rfl,rfl,Nat.le_refl _,fun _ _ _=>rfl⟩
theorem Fr.trans {S T:Nat→Prop} {a b c:World} (h:Fr S a b) (k:Fr T b c) (hT:∀j,j<a.heap.size→T j→S j):Fr S a c:=
 ⟨k.os.trans h.os,k.tape.trans h.tape,k.output.trans h.output,Nat.le_trans h.size k.size,fun j hj hn=>(k.block j (Nat.lt_of_lt_of_le hj h.size) (fun ht=>hn (hT j hj ht))).trans (h.block j hj hn)⟩
theorem Fr.mono {S T:Nat→Prop} {a b:World} (h:Fr S a b) (hT:∀j,j<a.heap.size→S j→T j):Fr T a b:=
 ⟨h.os,h.tape,h.output,h.size,fun j hj hn=>h.block j hj (fun hs=>hn (hT j hj hs))⟩
theorem Fr.drew {S:Nat→Prop} {a b:World} (h:Fr S a b):Fr S a b.drew:=⟨h.os,h.tape,h.output,h.size,h.block⟩
theorem Fr.drewN {S:Nat→Prop} {a b:World} (h:Fr S a b) (n:Nat):Fr S a (b.drewN n):=⟨h.os,h.tape,h.output,h.size,h.block⟩
theorem Fr.of_below {S:Nat→Prop} {B:Nat} {a b:World} (h:Below B a b) (hB:a.heap.size≤B):Fr S a b:=
 ⟨h.os,h.tape,h.output,h.size,fun k hk _=>h.block k (Nat.lt_of_lt_of_le hk hB)⟩
theorem Fr.below {S:Nat→Prop} {B:Nat} {a b:World} (h:Fr S a b) (hB:B≤a.heap.size) (hS:∀k,k<B→¬S k):Below B a b:=
 ⟨h.os,h.tape,h.output,h.size,fun k hk=>h.block k (Nat.lt_of_lt_of_le hk hB) (hS k hk)⟩
theorem Fr.alloc {S:Nat→Prop} {a b:World} (h:Fr S a b) (o:Obj):Fr S a (b.alloc o):=
 ⟨h.os,h.tape,h.output,Nat.le_trans h.size (by simp),fun k hk hn=>(Below.heap_alloc _ _ _ (Nat.lt_of_lt_of_le hk h.size)).trans (h.block k hk hn)⟩
theorem Fr.setCell {S:Nat→Prop} {a b:World} (h:Fr S a b) {p:Addr} (hp:S p.block∨a.heap.size≤p.block) (v:Value):Fr S a (b.setCell p v):=
 ⟨h.os,h.tape,h.output,by simpa [World.setCell] using h.size,fun k hk hn=>(Below.heap_setCell _ _ _ _ (by
  rintro rfl;rcases hp with hp|hp
  ·exact hn hp
  ·omega)).trans (h.block k hk hn)⟩
theorem Fr.grown {S:Nat→Prop} {a b c:World} {row:Option Nat} (h:Fr S a b) (hg:b.grownBy c row) (hr:∀k,row=some k→S k∨a.heap.size≤k):Fr S a c:=
 ⟨hg.os.trans h.os,hg.tape.trans h.tape,hg.output.trans h.output,Nat.le_trans h.size hg.size,fun k hk hn=>(hg.block k (Nat.lt_of_lt_of_le hk h.size) (fun e=>by
  rcases hr k e.symm with hp|hp
  ·exact hn hp
  ·omega)).trans (h.block k hk hn)⟩
theorem Fr.cell {S:Nat→Prop} {a b:World} (h:Fr S a b) {p:Addr} (hp:p.block<a.heap.size) (hn:¬S p.block):b.cell? p=a.cell? p:=World.cell?_of_block (w:=a) (h.block p.block hp hn)
theorem Fr.frozen {S:Nat→Prop} {a b:World} (h:Fr S a b) {p:Addr} (hp:p.block<a.heap.size) (hn:¬S p.block):b.frozen? p=a.frozen? p:=World.frozen?_of_block (w:=a) (h.block p.block hp hn)
theorem lt_of_cell {w:World} {p:Addr} {v:Value} (h:w.cell? p=some v):p.block<w.heap.size:=by
 rcases Nat.lt_or_ge p.block w.heap.size with h1|h1
 ·exact h1
 ·simp [World.cell?,Array.getElem?_eq_none h1] at h
theorem lt_of_block {w:World} {k:Nat} {o:Obj} (h:w.heap[k]? =some o):k<w.heap.size:=by
 rcases Nat.lt_or_ge k w.heap.size with h1|h1
 ·exact h1
 ·simp [Array.getElem?_eq_none h1] at h
theorem Fr.cell_of {S:Nat→Prop} {a b:World} (h:Fr S a b) {p:Addr} {v:Value} (hc:a.cell? p=some v) (hn:¬S p.block):b.cell? p=some v:=by
 rw [h.cell (lt_of_cell hc) hn];exact hc
theorem Fr.block_of {S:Nat→Prop} {a b:World} (h:Fr S a b) {k:Nat} {o:Obj} (hc:a.heap[k]? =some o) (hn:¬S k):b.heap[k]? =some o:=by
 rw [h.block k (lt_of_block hc) hn];exact hc
theorem Fr.no {S:Nat→Prop} {a b:World} (h:Fr S a b) (hS:∀k,k<a.heap.size→¬S k):Fr No a b:=h.mono (fun j hj hs=>hS j hj hs)
theorem Fr.of_no {S:Nat→Prop} {a b:World} (h:Fr No a b):Fr S a b:=h.mono (fun _ _ hs=>hs.elim)
theorem setCell_at {w:World} {b:Nat} {cs:Array Value} {t:TypeId} {fz:Nat×Nat} (h:w.heap[b]? =some (.cells cs t fz)) (j:Nat) (v:Value):
  (w.setCell ⟨b,j,none⟩ v).heap[b]? =some (.cells (cs.setIfInBounds j v) t fz):=by
 simp [World.setCell,Array.getElem?_modify,h]
theorem setCell_off {w:World} {b k:Nat} {o:Obj} (h:w.heap[k]? =some o) (hne:k≠b) (j:Nat) (v:Value):(w.setCell ⟨b,j,none⟩ v).heap[k]? =some o:=by
 rw [Below.heap_setCell _ _ _ _ hne];exact h
theorem cell_at {w:World} {b:Nat} {cs:Array Value} {t:TypeId} {fz:Nat×Nat} (h:w.heap[b]? =some (.cells cs t fz)) (j:Nat):w.cell? ⟨b,j,none⟩=cs[j]? :=by
 simp [World.cell?,h]
theorem frozen_at {w:World} {b:Nat} {cs:Array Value} {t:TypeId} (h:w.heap[b]? =some (.cells cs t (0,0))) (j:Nat):w.frozen? ⟨b,j,none⟩=false:=by
 simp [World.frozen?,h]
def I64 (x:Int):Prop:= -9223372036854775808≤x∧x≤9223372036854775807
theorem new_at (w:World) (o:Obj):(w.alloc o).heap[w.heap.size]? =some o:=(MapKept.heap_alloc w o).1
theorem fr_set (w:World) (b j:Nat) (v:Value):Fr (· =b) w (w.setCell ⟨b,j,none⟩ v):=Fr.setCell (S:=(· =b)) (p:=⟨b,j,none⟩) (Fr.refl _) (.inl rfl) _
theorem Fr.setRow {S:Nat→Prop} {a b:World} (h:Fr S a b) {g:Nat} (hp:S g∨a.heap.size≤g) (cs:Array Value):Fr S a (b.setRow g cs):=by
 refine ⟨h.os,h.tape,h.output,by simpa [World.setRow] using h.size,fun k hk hn=> ?_⟩;rw [← h.block k hk hn];simp only [World.setRow,Array.getElem?_modify];rw [if_neg (by
  rintro rfl;rcases hp with hp|hp
  ·exact hn hp
  ·omega)]
theorem setRow_at {w:World} {b:Nat} {cs cs':Array Value} {t:TypeId} {fz:Nat×Nat} (h:w.heap[b]? =some (.cells cs t fz)):(w.setRow b cs').heap[b]? =some (.cells cs' t fz):=by
 simp [World.setRow,Array.getElem?_modify,h]
theorem once_new (w:World):Calls Tryz.prog 44 #[] w fun e w'=>e=.returned (.pointer (some ⟨w.heap.size,0,none⟩))∧w'=w.alloc (.cells #[.pointer none,.pointer none,.pointer none,.pointer none,.bool true] 152):=by
 go_enter Tryz.func44,Tryz.ntmps44
 go_wp2
 go_ret
 exact ⟨rfl,rfl⟩
theorem tokens_new (w:World):Calls Tryz.prog 46 #[] w fun e w'=>e=.returned (.pointer (some ⟨w.heap.size,0,none⟩))∧w'=w.alloc (.cells #[.bool true,.slice none 0 0] 155):=by
 go_enter Tryz.func46,Tryz.ntmps46
 go_wp2
 go_ret
 exact ⟨rfl,rfl⟩
theorem directory_ (n:Int) (s:ByteArray) (w:World):Calls Tryz.prog 81 #[.int .i64 n,.string s] w fun e w'=>e=.returned (.pointer (some ⟨w.heap.size+1,0,none⟩))∧w'=(w.alloc (.map #[] 0)).alloc (.cells #[.int .i64 n,.string s,.bool true,.map (some w.heap.size)] 141):=by
 have hmm:= @run_makeMap Tryz.prog;go_enter Tryz.func81,Tryz.ntmps81
 go_wp2
 go_ret
 exact ⟨rfl,rfl⟩
theorem heap_size_alloc (w:World) (o:Obj):(w.alloc o).heap.size=w.heap.size+1:=by simp
end Go.Proofs.YtlcojhddnpmgmaaGreat
