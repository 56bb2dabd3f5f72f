/- Part of a proof. -/
import Derived.Test.YtedcppikakinoaaGreatU01
import Derived.Test.YtedcppikakinoaaGreatU02
import Derived.Deep.RegionHeld3
import Derived.Outline
import Derived.Recover
set_option linter.unusedSimpArgs false
set_option linter.unusedVariables false
set_option maxRecDepth 100000
set_option maxHeartbeats 800000
namespace Go.Proofs.YtedcppikakinoaaGreat
open Go.Proofs.Tryz Go.RowKit
def fH (w:World) (v:Value) (bs:List UInt8) (b off c:Nat):Prop:=v=.slice (some (I b off)) bs.length c/\bs.length<=c/\b<w.heap.size/\∀j x,bs[j]? =some x->w.cell? (I b (off+j))=some (.int .u8 x.toNat)
theorem Ip {w base v bs} (h:w.ownsRow base 5 1 v bs.length (bs.map λx=> .int .u8 x.toNat)) (J:v≠ .slice none 0 0):
  ∃b c,fH w v bs b 0 c/\base<=b:=by
 obtain ⟨_,h⟩:=h;rcases h with ⟨rfl,u⟩|⟨g,cap,A,rfl,E,r,u,_,V,Q⟩;{exact absurd rfl J};{refine ⟨g,cap,⟨rfl,u,lt_of_block r,λj x H=> ?_⟩,E⟩;(have o:(bs.map λx:UInt8=>Value.int .u8 x.toNat)[j]? =some (.int .u8 x.toNat):=by simp [H]);rw [<-Q] at o;(have B:A.toList[j]? =some (.int .u8 x.toNat):=by{rw [EL] at o;split at o;{exact o};{cases o}});rw [BP,aA r];simpa using B}
theorem Az (v bs b off c w) (h:fH w v bs b off c) (aa:bs.length<=1000000):Calls prog 121 #[v] w λe w'=>∃r o u,e=.returned r/\fH w' r bs o 0 u/\w.heap.size<=o/\Fr No w w':=by
 obtain ⟨rfl,ab,ad,Q⟩:=h;refine (Tryz.bytes_Clone_at (I b off) bs.length c (bs.map λx=>(x.toNat:Int)) w D X (λi B=> ?_)).mono ?_;{(have A:(Addr.mk b off none).add i=(I b (off+i)):=by unfold Addr.add;split<;>simp_all);rw [A,Q i bs[i] (AC B)];simp [List.getD,B]};{rintro e w' ⟨r,rfl,E,V,J⟩;rw [List.map_map] at E;obtain ⟨o,u,H,A⟩:=Ip E V;exact ⟨r,o,u,rfl,H,A,Fr.of_below J (AU _)⟩}
theorem aA5 (w):(Instr.typeAssert .nilIface 20 262 true).run prog w=.ok (.tuple #[.agg #[Z 0],false]) w:=by kernel_rfl
set_option maxRecDepth 10000 in
theorem Yy (p w):
  CallsD prog 240 #[.pointer (some p)] .returning w λe r w'=>e=.returned (.tuple #[])/\r=.returning/\w'=w.alloc (.cells #[Z 0] 262):=by
 refine callsD_of_wpS func240 rfl λo cs hu=> ?_;apply wpS_seq;apply LX;simp [wpOpsS,go_sem,recoverD,hu,ntmps240,Exit.thenS,aA5,Array.replicate,List.replicate];apply wpS_seq;apply LX;simp [wpOpsS,go_sem,Exit.thenS];refine wpS_cond (t:=false) (by simp [Act.eval]) ?_;simp only [DT,GG];refine wpS_of_wp (wp_skip ?_);cases o
 simp_all [bodyPostS,results,results240]
def D5 (P:World->Prop) (w:World) (x:Ending) (w':World):Prop:=x=.returned (Z 0)/\∃w1,P w1/\Fr (λk=>k=w.heap.size) w1 w'
theorem aBy (J H P w) (A:Calls prog 243 #[Y J,Y H] (w.alloc (.cells #[Z 0] 25)) λx w'=>x=.returned (.tuple #[])/\P w'/\w'.heap[w.heap.size]? =some (.cells #[Z 0] 25 (0,0))):
  Calls prog 174 #[.func (Fn.func 243) #[] #[Y J,Y H]] w (D5 P w):=by
 have ae:∀(fn:Fn) (first cap:Array Value) (w:World),(Instr.makeFunc fn first cap).run prog w=.ok (.func fn first cap) w:=λ_ _ _ _=>rfl;have Q:=lH A;clear A;go_enter_defers func174,ntmps174;go_wp2_with fail;(with_reducible refine Q.o.mono ?_);rintro x r ⟨rfl,B,o⟩;have V:=lH B;have aa:=lH o;(have c1:r.cell? (I w 0)=some (Z 0):=by rw [aA o];rfl);have ag:=aU o 0;clear B o;go_wp2_with fail;refine MZ (f:=240) (args:= #[Y w.heap.size]) D (by simp [go_sem]) ?_;refine (Yy (I w 0) _).mono ?_;rintro e af u ⟨rfl,rfl,E⟩;(have ab:Fr (λk=>k=w.heap.size) r u:=by{rw [E];exact (Fr.setCell (S:=λk=>k=w.heap.size) (p:=(I w 0)) (Fr.refl r) (.inl rfl) _).alloc _});(have c5:u.cell? (I w 0)=some (Z 0):=by{rw [E];refine ((Fr.refl (S:=No) _).alloc _).cell_of ?_ id;rw [aA (setCell_at aa.o 0 _)];rfl});have ad:D5 P w (.returned (Z 0)) u:=⟨rfl,r,V,ab⟩;simp [Leaves,settle,results,results174,go_sem,c5];exact ad
theorem aE1 (J H P w) (A:Calls prog 175 #[Y J,Y H] (w.alloc (.cells #[Z 0] 25)) λx w'=>x=.returned (.tuple #[])/\P w'/\w'.heap[w.heap.size]? =some (.cells #[Z 0] 25 (0,0))):
  Calls prog 174 #[.func (Fn.func 175) #[] #[Y J,Y H]] w (D5 P w):=by
 have ae:∀(fn:Fn) (first cap:Array Value) (w:World),(Instr.makeFunc fn first cap).run prog w=.ok (.func fn first cap) w:=λ_ _ _ _=>rfl;have Q:=lH A;clear A;go_enter_defers func174,ntmps174;go_wp2_with fail;(with_reducible refine Q.o.mono ?_);rintro x r ⟨rfl,B,o⟩;have V:=lH B;have aa:=lH o;(have c1:r.cell? (I w 0)=some (Z 0):=by rw [aA o];rfl);have ag:=aU o 0;clear B o;go_wp2_with fail;refine MZ (f:=240) (args:= #[Y w.heap.size]) D (by simp [go_sem]) ?_;refine (Yy (I w 0) _).mono ?_;rintro e af u ⟨rfl,rfl,E⟩;(have ab:Fr (λk=>k=w.heap.size) r u:=by{rw [E];exact (Fr.setCell (S:=λk=>k=w.heap.size) (p:=(I w 0)) (Fr.refl r) (.inl rfl) _).alloc _});(have c5:u.cell? (I w 0)=some (Z 0):=by{rw [E];refine ((Fr.refl (S:=No) _).alloc _).cell_of ?_ id;rw [aA (setCell_at aa.o 0 _)];rfl});have ad:D5 P w (.returned (Z 0)) u:=⟨rfl,r,V,ab⟩;simp [Leaves,settle,results,results174,go_sem,c5];exact ad
