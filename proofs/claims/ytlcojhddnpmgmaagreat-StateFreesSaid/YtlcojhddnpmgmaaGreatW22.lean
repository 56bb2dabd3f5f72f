/- Part of the proof; the last text says what is proved. -/
import Derived.Test.YtlcojhddnpmgmaaGreatW18
set_option linter.unusedSimpArgs false
set_option linter.unusedVariables false
set_option maxRecDepth 100000
set_option maxHeartbeats 3200000
namespace Go.Proofs.YtlcojhddnpmgmaaGreat
open Go.RowKit
def inSize (x:Pt) (e:Int):Prop:=0≤x.a∧1≤x.z∧x.z≤e∧x.a≤e - x.z
instance (x:Pt) (e:Int):Decidable (inSize x e):=by unfold inSize;exact inferInstance
def insideOf (m:Stp→Option Int) (x:Pt):Bool:=match m (x.c,x.l,x.n) with
 | none=>false
 | some e=>decide (inSize x e)
theorem inside_ (b c:Nat) (m:Stp→Option Int) (x:Pt) (w:World) (h:MapAt encP w b c m) (hg:stpGood (x.c,x.l,x.n)) (hz:I64 x.z) (hm:∀y e,m y=some e→I64 e):
  Calls Tryz.prog 94 #[.map (some b),ptV x] w fun e w'=>e=.returned (.bool (insideOf m x))∧Fr No w w':=by
 have f0:Fr No w (w.alloc (.cells #[.int .i64 x.c,.int .i64 x.l,.int .i64 x.n,.int .i64 x.a,.int .i64 x.z] 59)):=(Fr.refl w).alloc _;have k0:=new_at w (.cells #[.int .i64 x.c,.int .i64 x.l,.int .i64 x.n,.int .i64 x.a,.int .i64 x.z] 59);have lk:=(h.fr f0 id).look (x.c,x.l,x.n) hg (t:=160) (e:=3) Tryz.underlying160 (z:=.int .i64 0) (by kernel_rfl) true;have HR:Hid ((w.alloc (.cells #[.int .i64 x.c,.int .i64 x.l,.int .i64 x.n,.int .i64 x.a,.int .i64 x.z] 59)).rangeAt w.heap.size 0 [.int .i64 x.c,.int .i64 x.l,.int .i64 x.n]):=lH (fun i u hi=>by
  rw [cell_at k0]
  match i,hi with
  | 0,hi=>exact hi
  | 1,hi=>exact hi
  | 2,hi=>exact hi)
 have F0:=lH f0;have c3:(w.alloc (.cells #[.int .i64 x.c,.int .i64 x.l,.int .i64 x.n,.int .i64 x.a,.int .i64 x.z] 59)).cell? ⟨w.heap.size,3,none⟩=some (.int .i64 x.a):=by rw [cell_at k0];rfl
 have c4:(w.alloc (.cells #[.int .i64 x.c,.int .i64 x.l,.int .i64 x.n,.int .i64 x.a,.int .i64 x.z] 59)).cell? ⟨w.heap.size,4,none⟩=some (.int .i64 x.z):=by rw [cell_at k0];rfl
 unfold insideOf;cases hmx:m (x.c,x.l,x.n) with
 | none=>
  rw [hmx] at lk;unfold encP stpV ptV at*;dsimp only at lk ⊢;clear k0 f0 h hmx;go_enter Tryz.func94,Tryz.ntmps94;go_wp2_with (refine wpList_load_mid (by rfl) 46 _ (by rfl) w.heap.size 0 (by rfl) [.int .i64 x.c,.int .i64 x.l,.int .i64 x.n] _ HR.out Tryz.underlying46 rfl Tryz.size46 ?_)
  go_ret
  exact ⟨rfl,F0.out⟩
 | some e=>
  have he:I64 e:=hm _ _ hmx;rw [hmx] at lk;unfold encP stpV ptV at*;dsimp only at lk ⊢;unfold I64 at he hz;clear k0 f0 h hmx hg hm;by_cases q1:0≤x.a
  ·by_cases q2:1≤x.z
   ·by_cases q3:x.z≤e
    ·have hw:wrap64 (e - x.z)=e - x.z:=by unfold wrap64;omega
     by_cases q4:x.a≤e - x.z
     ·have hv:decide (inSize x e)=true:=decide_eq_true ⟨q1,q2,q3,q4⟩;rw [hv];clear hv;go_enter Tryz.func94,Tryz.ntmps94;go_wp2_with (refine wpList_load_mid (by rfl) 46 _ (by rfl) w.heap.size 0 (by rfl) [.int .i64 x.c,.int .i64 x.l,.int .i64 x.n] _ HR.out Tryz.underlying46 rfl Tryz.size46 ?_)
      go_ret
      exact ⟨rfl,F0.out⟩
     ·have hv:decide (inSize x e)=false:=decide_eq_false (fun h=>q4 h.2.2.2);rw [hv];clear hv;go_enter Tryz.func94,Tryz.ntmps94;go_wp2_with (refine wpList_load_mid (by rfl) 46 _ (by rfl) w.heap.size 0 (by rfl) [.int .i64 x.c,.int .i64 x.l,.int .i64 x.n] _ HR.out Tryz.underlying46 rfl Tryz.size46 ?_)
      go_ret
      exact ⟨rfl,F0.out⟩
    ·have hv:decide (inSize x e)=false:=decide_eq_false (fun h=>q3 h.2.2.1);rw [hv];clear hv;go_enter Tryz.func94,Tryz.ntmps94;go_wp2_with (refine wpList_load_mid (by rfl) 46 _ (by rfl) w.heap.size 0 (by rfl) [.int .i64 x.c,.int .i64 x.l,.int .i64 x.n] _ HR.out Tryz.underlying46 rfl Tryz.size46 ?_)
     go_ret
     exact ⟨rfl,F0.out⟩
   ·have hv:decide (inSize x e)=false:=decide_eq_false (fun h=>q2 h.2.1);rw [hv];clear hv;go_enter Tryz.func94,Tryz.ntmps94;go_wp2_with (refine wpList_load_mid (by rfl) 46 _ (by rfl) w.heap.size 0 (by rfl) [.int .i64 x.c,.int .i64 x.l,.int .i64 x.n] _ HR.out Tryz.underlying46 rfl Tryz.size46 ?_)
    go_ret
    exact ⟨rfl,F0.out⟩
  ·have hv:decide (inSize x e)=false:=decide_eq_false (fun h=>q1 h.1);rw [hv];clear hv;go_enter Tryz.func94,Tryz.ntmps94;go_wp2_with (refine wpList_load_mid (by rfl) 46 _ (by rfl) w.heap.size 0 (by rfl) [.int .i64 x.c,.int .i64 x.l,.int .i64 x.n] _ HR.out Tryz.underlying46 rfl Tryz.size46 ?_)
   go_ret
   exact ⟨rfl,F0.out⟩
end Go.Proofs.YtlcojhddnpmgmaaGreat
