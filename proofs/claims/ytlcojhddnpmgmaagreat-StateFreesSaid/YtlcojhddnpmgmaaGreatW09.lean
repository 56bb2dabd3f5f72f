/- Part of the proof; the last text says what is proved. -/
import Derived.Test.YtlcojhddnpmgmaaGreatW08
import Derived.Shelf.Spec.SlicesInsertGrow
set_option linter.unusedSimpArgs false
set_option linter.unusedVariables false
set_option maxRecDepth 100000
set_option maxHeartbeats 3200000
namespace Go.Proofs.YtlcojhddnpmgmaaGreat
open Go.RowKit Go.Lib
def fileC (K i c:Nat):Prop:=c=K+3000+i∨c=K+4000+i
def GFile (w:World) (o:Nat→Nat) (K i p:Nat) (m:FMap) (w':World):Prop:=∃o',Step (fileC K i) w o w' o'∧FileAt w' o' K i p m
theorem GFile.later {w w1 w':World} {o:Nat→Nat} {K i p:Nat} {m:FMap} (hf:Fresh w o) (f:Fr No w w1) (h:GFile w1 o K i p m w'):GFile w o K i p m w':=by
 obtain ⟨o',s,t⟩:=h;exact ⟨o',((Step.no (C:=fun _=>False) hf f).mono (fun _ e=>e.elim)).trans s (fun _ e=>e),t⟩
def resizeL (L:List Pt) (n:Nat):List Pt:=if n≤L.length then L.take n else L++List.replicate (n - L.length) noPt
theorem zsize59:(Value.agg #[.int .i64 0,.int .i64 0,.int .i64 0,.int .i64 0,.int .i64 0]).cells.size=5:=rfl
def RezPost (w:World) (o:Nat→Nat) (K i p:Nat) (m:FMap) (e:Ending) (w':World):Prop:=e=.returned (.tuple #[])∧GFile w o K i p m w'
theorem FileAt.put {w w2:World} {o:Nat→Nat} {K i p b cap:Nat} {m:FMap} {cs:Array Value} {l:List Pt} {n:Nat} (h:o p=K+3000+i) (hk:w.heap[p]? =some (.cells cs 135 (0,0))) (hf:Fresh w o) (hb:o b=K+4000+i) (hi:i<1000)
  (f:Fr (fun j=>j=b∨j=p) w w2) (k2:w2.heap[p]? =some (.cells #[.bool true,.int .i64 n,.slice (some ⟨b,0,none⟩) l.length cap] 135 (0,0))) (hr:RowB ptC 5 59 w2 b cap l) (hm:cap≤maxLen):GFile w o K i p ⟨n,l⟩ w2:=
 ⟨o,⟨f.mono (fun j _ e=>by
  rcases e with rfl|rfl
  ·exact .inr hb
  ·exact .inl h),fun _ _=>rfl,fun j hj=>hf j (Nat.le_trans f.size hj)⟩,h,_,k2,.inr ⟨b,cap,rfl,hm,hb,hr⟩⟩
theorem FileAt.putNew {w w2:World} {o:Nat→Nat} {K i p b cap:Nat} {cs:Array Value} {l:List Pt} {n:Nat} (h:o p=K+3000+i) (hk:w.heap[p]? =some (.cells cs 135 (0,0))) (hf:Fresh w o) (hb:w.heap.size≤b)
  (f:Fr (fun j=>j=p) w w2) (k2:w2.heap[p]? =some (.cells #[.bool true,.int .i64 n,.slice (some ⟨b,0,none⟩) l.length cap] 135 (0,0))) (hr:RowB ptC 5 59 w2 b cap l) (hm:cap≤maxLen):GFile w o K i p ⟨n,l⟩ w2:=by
 have hlt:=lt_of_block hk;have hb2:=hr.lt;exact ⟨paint o b (K+4000+i),⟨f.mono (fun j _ e=> .inl (by rw [e];exact h)),fun j hj=>paint_other o _ (by omega),fun j hj=>by
  rw [paint_other o _ (by omega)];exact hf j (Nat.le_trans f.size hj)⟩,by rw [paint_other o _ (by omega)];exact h,_,k2,.inr ⟨b,cap,rfl,hm,paint_same _ _ _,hr⟩⟩
theorem FileAt.putNil {w w2:World} {o:Nat→Nat} {K i p:Nat} {cs:Array Value} {n:Nat} (h:o p=K+3000+i) (hk:w.heap[p]? =some (.cells cs 135 (0,0))) (hf:Fresh w o)
  (f:Fr (fun j=>j=p) w w2) (k2:w2.heap[p]? =some (.cells #[.bool true,.int .i64 n,.slice none 0 0] 135 (0,0))):GFile w o K i p ⟨n, []⟩ w2:=
 ⟨o,⟨f.mono (fun j _ e=> .inl (by rw [e];exact h)),fun _ _=>rfl,fun j hj=>hf j (Nat.le_trans f.size hj)⟩,h,_,k2,.inl ⟨rfl,rfl⟩⟩
theorem resize_ (o:Nat→Nat) (K i p:Nat) (m:FMap) (n:Nat) (w:World) (h:FileAt w o K i p m) (hf:Fresh w o) (hi:i<1000) (hn:n≤4096) (hl:m.l.length≤1000):
  Calls Tryz.prog 143 #[.pointer (some ⟨p,0,none⟩),.int .i64 n] w (RezPost w o K i p ⟨n,resizeL m.l (blocksN n)⟩):=by
 obtain ⟨h1,v,hk,hv⟩:=h;have HR:Hid (∀e w',e=.returned (.tuple #[])→GFile w o K i p ⟨n,resizeL m.l (blocksN n)⟩ w'→RezPost w o K i p ⟨n,resizeL m.l (blocksN n)⟩ e w'):=lH (fun e w' a b=>⟨a,b⟩);have hbn:blocksN n≤65:=by unfold blocksN;omega
 have c1:w.cell? ⟨p,1,none⟩=some (.int .i64 m.size):=by rw [cell_at hk];rfl
 have z1:w.frozen? ⟨p,1,none⟩=false:=frozen_at hk 1;have k1:=setCell_at hk 1 (.int .i64 n);have f1:Fr (· =p) w (w.setCell ⟨p,1,none⟩ (.int .i64 n)):=fr_set w p 1 _;have HN:=lH (fcount204_ n hn (w.setCell ⟨p,1,none⟩ (.int .i64 n)));have c2:(w.setCell ⟨p,1,none⟩ (.int .i64 n)).cell? ⟨p,2,none⟩=some v:=by rw [cell_at k1];rfl
 have z2:(w.setCell ⟨p,1,none⟩ (.int .i64 n)).frozen? ⟨p,2,none⟩=false:=frozen_at k1 2;have HF:=lH hf;have H1:=lH h1;have HK:=lH hk;have K1:=lH k1;have F1:=lH f1;generalize RezPost w o K i p ⟨n,resizeL m.l (blocksN n)⟩=Q at*;have HRL:Hid (resizeL m.l (blocksN n)=if blocksN n≤m.l.length then m.l.take (blocksN n) else m.l++List.replicate (blocksN n - m.l.length) noPt):=lH rfl;generalize resizeL m.l (blocksN n)=M at*;generalize blocksN n=q at*;generalize hw1:w.setCell ⟨p,1,none⟩ (.int .i64 n)=w1 at*;clear hk hf h1 k1 f1;by_cases hq:q≤m.l.length
 ·have HM:Hid (M=m.l.take q):=lH (by rw [HRL.out,if_pos hq]);rcases hv with ⟨rfl,hnil⟩|⟨b,cap,rfl,hm,hb,hr⟩
  ·have hq0:q=0:=by rw [hnil] at hq;simpa using hq
   subst hq0;have HFIN:Hid (GFile w o K i p ⟨n,M⟩ (w1.setCell ⟨p,2,none⟩ (.slice none 0 0))):=lH (by
    rw [HM.out,hnil];exact FileAt.putNil H1.out HK.out HF.out (F1.out.trans (fr_set w1 p 2 _) (fun _ _ e=>e)) (setCell_at K1.out 2 _))
   clear hnil;go_enter Tryz.func143,Tryz.ntmps143;go_wp2_with fail;refine HN.out.mono ?_;rintro e w2 ⟨rfl,rfl⟩;go_wp2_with fail;exact bodyPost_ret (v:=.tuple #[]) (by simp [results,Tryz.results143,go_sem]) rfl (HR.out _ _ rfl HFIN.out)
  ·have hlen:=hr.len;have hml:cap≤9223372036854775807:=hm;have hpb:p≠b:=(by intro e;have:=H1.out;rw [e,hb] at this;omega)
   have hlt:(m.l.take q).length=q:=(by rw [List.length_take];omega)
   have HFIN:Hid (GFile w o K i p ⟨n,M⟩ (w1.setCell ⟨p,2,none⟩ (.slice (some ⟨b,0,none⟩) q q))):=lH (by
    have F2:Fr (· =p) w (w1.setCell ⟨p,2,none⟩ (.slice (some ⟨b,0,none⟩) q q)):=F1.out.trans (fr_set w1 p 2 _) (fun _ _ e=>e);rw [HM.out];refine FileAt.put (cap:=q) (b:=b) (m:=m) H1.out HK.out HF.out hb hi (F2.mono (fun _ _ e=> .inr e)) ?_ ((hr.fr F2 (fun e=>hpb e.symm)).tight q (Nat.le_refl _) (by omega)) (by unfold maxLen;omega);have:=setCell_at K1.out 2 (.slice (some ⟨b,0,none⟩) q q);rw [hlt];exact this)
   have q1:(q:Int)≤(m.l.length:Int):=(by omega)
   have q2:(q:Int)≤(cap:Int):=(by omega)
   have q3:(0:Int)≤(q:Int):=(by omega)
   clear hr hb hm hlt;go_enter Tryz.func143,Tryz.ntmps143;go_wp2_with fail;refine HN.out.mono ?_;rintro e w2 ⟨rfl,rfl⟩;go_wp2_with fail;exact bodyPost_ret (v:=.tuple #[]) (by simp [results,Tryz.results143,go_sem]) rfl (HR.out _ _ rfl HFIN.out)
 ·have HM:Hid (M=m.l++List.replicate (q - m.l.length) noPt):=lH (by rw [HRL.out,if_neg hq]);have hkq:m.l.length+(q - m.l.length)=q:=by omega
  obtain ⟨i0,hi0,hz0,hz1,hz2⟩:=info_parts Tryz.info59;have hvd:PtVal w1.drew v m.l:=by
   rcases hv with h3|⟨b,cap,e,hm,hb,hr⟩
   ·exact .inl h3
   ·have hpb:p≠b:=by intro e;have:=H1.out;rw [e,hb] at this;omega
    exact .inr ⟨b,cap,e,hm,(hr.fr F1.out (fun e=>hpb e.symm)).fr (S:=No) ⟨rfl,rfl,rfl,Nat.le_refl _,fun _ _ _=>rfl⟩ id⟩
  obtain ⟨base,cap,rfl⟩:=hvd.slice;have hold:(Builtin.firstCells i0.size m.l.length (.slice base m.l.length m.l.length)).run Tryz.prog w1.drew.drew=.ok (m.l.flatMap ptC).toArray w1.drew.drew:=by
   rw [hz1];rcases hvd with ⟨he,hnil⟩|⟨b,cap',he,_,hb⟩
   ·simp only [Value.slice.injEq] at he;rw [he.1,hnil];exact run_firstCells_none w1.drew.drew 5 0 0 0
   ·cases he;have:=RowB.firstCells (P:=Tryz.prog) (w:=w1.drew.drew) (c:=ptC) ptC_len (hb.fr (S:=No) ⟨rfl,rfl,rfl,Nat.le_refl _,fun _ _ _=>rfl⟩ id) m.l.length m.l.length m.l.length (Nat.le_refl _);rwa [List.take_length] at this
  have h9:=fun ty=>Lib.run_append_grow_zeros w1.drew 77 3 ty 59 i0 _ .i64 .i64 Tryz.underlying77 Tryz.underlying3 hi0 hz0 base m.l.length m.l.length _ hold (q - m.l.length) (by omega) (by omega) (by omega) (by omega) (by rw [hz2];omega) (by rw [hz2,hkq];exact growslice_fits (by omega) (by omega));rw [hkq] at h9;have hge:=grownCap_ge w1.drew q m.l.length 59;have hle:=grownCap_le_maxLen w1.drew q m.l.length 59 (by unfold maxLen;omega);generalize grownCap w1.drew q m.l.length 59=G at*;obtain ⟨W2,hW2⟩:∃W2,W2=w1.drew.drew.alloc (.cells ((m.l.flatMap ptC).toArray++Builtin.zeroCells (Value.agg #[.int .i64 0,.int .i64 0,.int .i64 0,.int .i64 0,.int .i64 0]).cells (q - m.l.length)++Builtin.zeroCells (Value.agg #[.int .i64 0,.int .i64 0,.int .i64 0,.int .i64 0,.int .i64 0]).cells (G - q)) 59):=⟨_,rfl⟩
  have hrz:∀ty,(Builtin.append_ #[77,3] ty #[.slice base m.l.length m.l.length,.int .i64 ((q:Int) - (m.l.length:Int))]).run Tryz.prog w1.drew=.ok (.slice (some ⟨w1.heap.size,0,none⟩) q G) W2:=fun ty=>by
   have:=h9 ty;rw [show ((q - m.l.length:Nat):Int)=(q:Int) - (m.l.length:Int) by omega] at this;rw [hW2];exact this
  have FW:Fr No w1 W2:=hW2▸Fr.alloc (a:=w1) (b:=w1.drew.drew) ⟨rfl,rfl,rfl,Nat.le_refl _,fun _ _ _=>rfl⟩ _;have hML:M.length=q:=by rw [HM.out,List.length_append,List.length_replicate];exact hkq
  have hrow:RowB ptC 5 59 W2 w1.heap.size G M:=by
   refine RowB.of_block ptC_len (hW2▸new_at w1.drew.drew _) ?_ (by omega) (fun k u hk=> ?_)
   ·simp only [Array.size_append,List.size_toArray,flat_len ptC_len,Builtin.zeroCells,Array.size_map,Array.size_range,zsize59];omega
   ·have hz:(List.replicate (q - m.l.length) noPt).flatMap ptC=(Builtin.zeroCells (Value.agg #[.int .i64 0,.int .i64 0,.int .i64 0,.int .i64 0,.int .i64 0]).cells (q - m.l.length)).toList:=by
     rw [zero_cells _ 5 _ zsize59,flat_rep];rfl
    rw [HM.out,List.flatMap_append,hz] at hk;have hlt:=(List.getElem?_eq_some_iff.1 hk).1;rw [Array.getElem?_append_left (by simpa using hlt)];rw [← hk,← Array.getElem?_toList];simp
  have k2:=FW.block_of K1.out id;have z3:W2.frozen? ⟨p,2,none⟩=false:=frozen_at k2 2;have c3:W2.cell? ⟨p,2,none⟩=some (.slice base m.l.length cap):=by rw [cell_at k2];rfl
  have hsz1:=F1.out.size;have hpl:=lt_of_block HK.out;have HFIN:Hid (GFile w o K i p ⟨n,M⟩ (W2.setCell ⟨p,2,none⟩ (.slice (some ⟨w1.heap.size,0,none⟩) q G))):=lH (by
   have F2:Fr (· =p) w (W2.setCell ⟨p,2,none⟩ (.slice (some ⟨w1.heap.size,0,none⟩) q G)):=(F1.out.trans FW (fun _ _ e=>e.elim)).trans (fr_set W2 p 2 _) (fun _ _ e=>e);refine FileAt.putNew (cap:=G) (b:=w1.heap.size) H1.out HK.out HF.out hsz1 F2 ?_ (hrow.fr (fr_set W2 p 2 _) (by omega)) hle;rw [hML];exact setCell_at k2 2 _)
  have mixed:Tryz.prog.follows .mixedOrders=true:=by kernel_rfl
  have q1:¬(q:Int)≤(m.l.length:Int):=by omega
  clear hML hrow k2 hW2 FW h9 hold hkq hi0 hz0 hz1 hz2 hv hq hsz1 hpl;rcases hvd with ⟨he,hnil⟩|⟨b,cap',he,hmc,hb⟩
  ·simp only [Value.slice.injEq] at he;obtain ⟨rfl,hz,rfl⟩:=he;have HRZ:Hid (∀ty,(Builtin.append_ #[77,3] ty #[.slice none 0 0,.int .i64 (q:Int)]).run Tryz.prog w1.drew=.ok (.slice (some ⟨w1.heap.size,0,none⟩) q G) W2):=lH (fun ty=>by
    have:=hrz ty;rwa [hz,Int.natCast_zero,Int.sub_zero] at this)
   have HWQ:Hid (IntKind.i64.wrap (q:Int)=(q:Int)):=lH (by rw [IntKind.wrap_i64];omega);clear hrz;rw [hz] at*;clear hz hnil;go_enter Tryz.func143,Tryz.ntmps143;go_wp2_with fail;refine HN.out.mono ?_;rintro e w2 ⟨rfl,rfl⟩;go_wp2_with fail;refine wp_region_text mixed (fun W=>W=w2.drew) [23,24,25,26] (by kernel_rfl) (by kernel_rfl) (by kernel_rfl) (by kernel_rfl) (fun _ _ d _ _ h=>by cases d<;>exact h) rfl ?_;repeat (first
    | refine seqX_skip (by rfl) ?_
    | (refine seqX_val (v:= ?_) (by rfl) (by rfl) ?_ ?_
       rotate_left 1
       (intro W;go_simp;(try with_reducible rfl))
       simp only [Act.put,lsA,lsZ,lsS])
    | (refine seqX_valS (v:= ?_) (by rfl) (by kernel_rfl) (by rfl) ?_ ?_
       rotate_left 1
       (intro W hS;have c4:W.cell? ⟨p,2,none⟩=some (.slice none 0 0):=(by rw [hS];exact c2);go_simp;(try with_reducible rfl))
       simp only [Act.put,lsA,lsZ,lsS]))
   intro W hS;subst hS;simp only [List.reverse_cons,List.reverse_nil,List.nil_append,List.cons_append];refine Lib.wpList_append_run _ rfl (.tmp 43) (.tmp 50) 77 3 rfl (.slice none 0 0) (.int .i64 q) ?_ ?_ _ _ (HRZ.out _) ?_
   ·simp [Act.eval]
   ·simp [Act.eval,HWQ.out]
   go_wp2_with fail;exact bodyPost_end (v:=.tuple #[]) (by simp [results,Tryz.results143,go_sem]) rfl (HR.out _ _ rfl HFIN.out)
  ·have hlen:=hb.len;have hml:cap'≤9223372036854775807:=hmc;cases he;have q2:(m.l.length:Int)≤(cap:Int):=(by omega)
   have HWR:Hid (IntKind.i64.wrap ((q:Int) - (m.l.length:Int))=(q:Int) - (m.l.length:Int)):=lH (by rw [IntKind.wrap_i64];omega);clear hb hmc;go_enter Tryz.func143,Tryz.ntmps143;go_wp2_with fail;refine HN.out.mono ?_;rintro e w2 ⟨rfl,rfl⟩;go_wp2_with fail;refine wp_region_text mixed (fun W=>W=w2.drew) [23,24,25,26] (by kernel_rfl) (by kernel_rfl) (by kernel_rfl) (by kernel_rfl) (fun _ _ d _ _ h=>by cases d<;>exact h) rfl ?_;repeat (first
    | refine seqX_skip (by rfl) ?_
    | (refine seqX_val (v:= ?_) (by rfl) (by rfl) ?_ ?_
       rotate_left 1
       (intro W;go_simp;(try with_reducible rfl))
       simp only [Act.put,lsA,lsZ,lsS])
    | (refine seqX_valS (v:= ?_) (by rfl) (by kernel_rfl) (by rfl) ?_ ?_
       rotate_left 1
       (intro W hS;have c4:W.cell? ⟨p,2,none⟩=some (.slice (some ⟨b,0,none⟩) m.l.length cap):=(by rw [hS];exact c2);go_simp;(try with_reducible rfl))
       simp only [Act.put,lsA,lsZ,lsS]))
   intro W hS;subst hS;simp only [List.reverse_cons,List.reverse_nil,List.nil_append,List.cons_append];refine Lib.wpList_append_run _ rfl (.tmp 43) (.tmp 50) 77 3 rfl (.slice (some ⟨b,0,none⟩) m.l.length m.l.length) (.int .i64 ((q:Int) - (m.l.length:Int))) ?_ ?_ _ _ (hrz _) ?_
   ·simp [Act.eval]
   ·simp [Act.eval,HWR.out]
   go_wp2_with fail;exact bodyPost_end (v:=.tuple #[]) (by simp [results,Tryz.results143,go_sem]) rfl (HR.out _ _ rfl HFIN.out)
end Go.Proofs.YtlcojhddnpmgmaaGreat
