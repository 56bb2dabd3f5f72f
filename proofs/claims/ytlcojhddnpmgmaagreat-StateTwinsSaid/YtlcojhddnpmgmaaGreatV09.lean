/- Part of a proof. -/
import Derived.Test.YtlcojhddnpmgmaaGreatV08
import Derived.Shelf.Spec.SlicesInsertGrow
set_option linter.unusedSimpArgs false
set_option linter.unusedVariables false
set_option maxRecDepth 100000
set_option maxHeartbeats 3200000
namespace Go.Proofs.YtlcojhddnpmgmaaGreat
open Go.RowKit Go.Proofs.Tryz Go.Lib
def dN (K i c:Nat):Prop:=c=K+3000+i∨c=K+4000+i
def jM (w:World) (o:Nat→Nat) (K i p:Nat) (m:aG) (w':World):Prop:=∃o',Step (dN K i) w o w' o'∧eH w' o' K i p m
theorem jM.later {w w1 w':World} {o:Nat→Nat} {K i p:Nat} {m:aG} (hf:aP w o) (f:Fr No w w1) (h:jM w1 o K i p m w'):jM w o K i p m w':=by
 obtain ⟨o',s,t⟩:=h;exact ⟨o',((Step.no (C:=fun _=>False) hf f).mono (fun _ e=>e.elim)).trans s (fun _ e=>e),t⟩
def kT (L:List Pt) (n:Nat):List Pt:=if n≤L.length then L.take n else L++List.replicate (n - L.length) bH
theorem Nb:(Value.agg #[.int .i64 0,.int .i64 0,.int .i64 0,.int .i64 0,.int .i64 0]).cells.size=5:=rfl
def Eh (w:World) (o:Nat→Nat) (K i p:Nat) (m:aG) (e:Ending) (w':World):Prop:=e=.returned (.tuple #[])∧jM w o K i p m w'
theorem eH.put {w w2:World} {o:Nat→Nat} {K i p b cap:Nat} {m:aG} {cs:Array Value} {l:List Pt} {n:Nat} (h:o p=K+3000+i) (hk:w.heap[p]? =some (.cells cs 135 (0,0))) (hf:aP w o) (hb:o b=K+4000+i) (hi:i<1000)
  (f:Fr (fun j=>j=b∨j=p) w w2) (k2:w2.heap[p]? =some (.cells #[.bool true,.int .i64 n,.slice (some ⟨b,0,none⟩) l.length cap] 135 (0,0))) (hr:bP dB 5 59 w2 b cap l) (hm:cap≤maxLen):jM w o K i p ⟨n,l⟩ w2:=
 ⟨o,⟨f.mono (fun j _ e=>by
  rcases e with rfl|rfl
  ·exact .inr hb
  ·exact .inl h),fun _ _=>rfl,fun j hj=>hf j (Nat.le_trans f.size hj)⟩,h,_,k2,.inr ⟨b,cap,rfl,hm,hb,hr⟩⟩
theorem eH.Ba {w w2:World} {o:Nat→Nat} {K i p b cap:Nat} {cs:Array Value} {l:List Pt} {n:Nat} (h:o p=K+3000+i) (hk:w.heap[p]? =some (.cells cs 135 (0,0))) (hf:aP w o) (hb:w.heap.size≤b)
  (f:Fr (fun j=>j=p) w w2) (k2:w2.heap[p]? =some (.cells #[.bool true,.int .i64 n,.slice (some ⟨b,0,none⟩) l.length cap] 135 (0,0))) (hr:bP dB 5 59 w2 b cap l) (hm:cap≤maxLen):jM w o K i p ⟨n,l⟩ w2:=by
 have hlt:=lt_of_block hk;have hb2:=hr.lt;exact ⟨dH o b (K+4000+i),⟨f.mono (fun j _ e=> .inl (by rw [e];exact h)),fun j hj=>eU o _ (by omega),fun j hj=>by
  rw [eU o _ (by omega)];exact hf j (Nat.le_trans f.size hj)⟩,by rw [eU o _ (by omega)];exact h,_,k2,.inr ⟨b,cap,rfl,hm,jD _ _ _,hr⟩⟩
theorem eH.aBe {w w2:World} {o:Nat→Nat} {K i p:Nat} {cs:Array Value} {n:Nat} (h:o p=K+3000+i) (hk:w.heap[p]? =some (.cells cs 135 (0,0))) (hf:aP w o)
  (f:Fr (fun j=>j=p) w w2) (k2:w2.heap[p]? =some (.cells #[.bool true,.int .i64 n,.slice none 0 0] 135 (0,0))):jM w o K i p ⟨n, []⟩ w2:=
 ⟨o,⟨f.mono (fun j _ e=> .inl (by rw [e];exact h)),fun _ _=>rfl,fun j hj=>hf j (Nat.le_trans f.size hj)⟩,h,_,k2,.inl ⟨rfl,rfl⟩⟩
theorem Lm (o:Nat→Nat) (K i p:Nat) (m:aG) (n:Nat) (w:World) (h:eH w o K i p m) (hf:aP w o) (hi:i<1000) (hn:n≤4096) (hl:m.l.length≤1000):
  Calls prog 143 #[.pointer (some ⟨p,0,none⟩),.int .i64 n] w (Eh w o K i p ⟨n,kT m.l (dY n)⟩):=by
 obtain ⟨h1,v,hk,hv⟩:=h;have HR:Hid (∀e w',e=.returned (.tuple #[])→jM w o K i p ⟨n,kT m.l (dY n)⟩ w'→Eh w o K i p ⟨n,kT m.l (dY n)⟩ e w'):=lH (fun e w' a b=>⟨a,b⟩);have hbn:dY n≤65:=by unfold dY;omega
 have c1:w.cell? ⟨p,1,none⟩=some (.int .i64 m.size):=by rw [aA hk];rfl
 have z1:w.frozen? ⟨p,1,none⟩=false:=bU hk 1;have k1:=setCell_at hk 1 (.int .i64 n);have f1:Fr (· =p) w (w.setCell ⟨p,1,none⟩ (.int .i64 n)):=jQ w p 1 _;have HN:=lH (aAV n hn (w.setCell ⟨p,1,none⟩ (.int .i64 n)));have c2:(w.setCell ⟨p,1,none⟩ (.int .i64 n)).cell? ⟨p,2,none⟩=some v:=by rw [aA k1];rfl
 have z2:(w.setCell ⟨p,1,none⟩ (.int .i64 n)).frozen? ⟨p,2,none⟩=false:=bU k1 2;have HF:=lH hf;have H1:=lH h1;have HK:=lH hk;have K1:=lH k1;have F1:=lH f1;generalize Eh w o K i p ⟨n,kT m.l (dY n)⟩=Q at*;have HRL:Hid (kT m.l (dY n)=if dY n≤m.l.length then m.l.take (dY n) else m.l++List.replicate (dY n - m.l.length) bH):=lH rfl;generalize kT m.l (dY n)=M at*;generalize dY n=q at*;generalize hw1:w.setCell ⟨p,1,none⟩ (.int .i64 n)=w1 at*;clear hk hf h1 k1 f1;by_cases hq:q≤m.l.length
 ·have HM:Hid (M=m.l.take q):=lH (by rw [HRL.o,if_pos hq]);rcases hv with ⟨rfl,hnil⟩|⟨b,cap,rfl,hm,hb,hr⟩
  ·have hq0:q=0:=by rw [hnil] at hq;simpa using hq
   subst hq0;have HFIN:Hid (jM w o K i p ⟨n,M⟩ (w1.setCell ⟨p,2,none⟩ (.slice none 0 0))):=lH (by
    rw [HM.o,hnil];exact eH.aBe H1.o HK.o HF.o (F1.o.trans (jQ w1 p 2 _) kp) (setCell_at K1.o 2 _))
   clear hnil;go_enter func143,ntmps143;go_wp2_with fail;refine HN.o.mono ?_;rintro e w2 ⟨rfl,rfl⟩;go_wp2_with fail;exact bodyPost_ret (v:=.tuple #[]) (by simp [results,results143,go_sem]) rfl (HR.o _ _ rfl HFIN.o)
  ·have hlen:=hr.len;have hml:cap≤9223372036854775807:=hm;have hpb:p≠b:=(by intro e;have:=H1.o;rw [e,hb] at this;omega)
   have hlt:(m.l.take q).length=q:=(by rw [List.length_take];omega)
   have HFIN:Hid (jM w o K i p ⟨n,M⟩ (w1.setCell ⟨p,2,none⟩ (.slice (some ⟨b,0,none⟩) q q))):=lH (by
    have F2:Fr (· =p) w (w1.setCell ⟨p,2,none⟩ (.slice (some ⟨b,0,none⟩) q q)):=F1.o.trans (jQ w1 p 2 _) kp;rw [HM.o];refine eH.put (cap:=q) (b:=b) (m:=m) H1.o HK.o HF.o hb hi (F2.mono (fun _ _ e=> .inr e)) ?_ ((hr.fr F2 (fun e=>hpb e.symm)).tight q (Nat.le_refl _) (by omega)) (by unfold maxLen;omega);have:=setCell_at K1.o 2 (.slice (some ⟨b,0,none⟩) q q);rw [hlt];exact this)
   have q1:(q:Int)≤(m.l.length:Int):=(by omega)
   have q2:(q:Int)≤(cap:Int):=(by omega)
   have q3:(0:Int)≤(q:Int):=(by omega)
   clear hr hb hm hlt;go_enter func143,ntmps143;go_wp2_with fail;refine HN.o.mono ?_;rintro e w2 ⟨rfl,rfl⟩;go_wp2_with fail;exact bodyPost_ret (v:=.tuple #[]) (by simp [results,results143,go_sem]) rfl (HR.o _ _ rfl HFIN.o)
 ·have HM:Hid (M=m.l++List.replicate (q - m.l.length) bH):=lH (by rw [HRL.o,if_neg hq]);have hkq:m.l.length+(q - m.l.length)=q:=by omega
  obtain ⟨i0,hi0,hz0,hz1,hz2⟩:=info_parts Tryz.wL;have hvd:lW w1.drew v m.l:=by
   rcases hv with h3|⟨b,cap,e,hm,hb,hr⟩
   ·exact .inl h3
   ·have hpb:p≠b:=by intro e;have:=H1.o;rw [e,hb] at this;omega
    exact .inr ⟨b,cap,e,hm,(hr.fr F1.o (fun e=>hpb e.symm)).fr (S:=No) ⟨rfl,rfl,rfl,Nat.le_refl _,fun _ _ _=>rfl⟩ id⟩
  obtain ⟨base,cap,rfl⟩:=hvd.slice;have hold:(Builtin.firstCells i0.size m.l.length (.slice base m.l.length m.l.length)).run prog w1.drew.drew=.ok (m.l.flatMap dB).toArray w1.drew.drew:=by
   rw [hz1];rcases hvd with ⟨he,hnil⟩|⟨b,cap',he,_,hb⟩
   ·simp only [Value.slice.injEq] at he;rw [he.1,hnil];exact run_firstCells_none w1.drew.drew 5 0 0 0
   ·cases he;have:=bP.firstCells (P:=prog) (w:=w1.drew.drew) (c:=dB) qZ (hb.fr (S:=No) ⟨rfl,rfl,rfl,Nat.le_refl _,fun _ _ _=>rfl⟩ id) m.l.length m.l.length m.l.length (Nat.le_refl _);rwa [List.take_length] at this
  have h9:=fun ty=>Lib.run_append_grow_zeros w1.drew 77 3 ty 59 i0 _ .i64 .i64 underlying77 underlying3 hi0 hz0 base m.l.length m.l.length _ hold (q - m.l.length) (by omega) (by omega) (by omega) (by omega) (by rw [hz2];omega) (by rw [hz2,hkq];exact growslice_fits (by omega) (by omega));rw [hkq] at h9;have hge:=grownCap_ge w1.drew q m.l.length 59;have hle:=grownCap_le_maxLen w1.drew q m.l.length 59 (by unfold maxLen;omega);generalize grownCap w1.drew q m.l.length 59=G at*;obtain ⟨W2,hW2⟩:∃W2,W2=w1.drew.drew.alloc (.cells ((m.l.flatMap dB).toArray++Builtin.zeroCells (Value.agg #[.int .i64 0,.int .i64 0,.int .i64 0,.int .i64 0,.int .i64 0]).cells (q - m.l.length)++Builtin.zeroCells (Value.agg #[.int .i64 0,.int .i64 0,.int .i64 0,.int .i64 0,.int .i64 0]).cells (G - q)) 59):=⟨_,rfl⟩
  have hrz:∀ty,(Builtin.append_ #[77,3] ty #[.slice base m.l.length m.l.length,.int .i64 ((q:Int) - (m.l.length:Int))]).run prog w1.drew=.ok (.slice (some ⟨w1.heap.size,0,none⟩) q G) W2:=fun ty=>by
   have:=h9 ty;rw [show ((q - m.l.length:Nat):Int)=(q:Int) - (m.l.length:Int) by omega] at this;rw [hW2];exact this
  have FW:Fr No w1 W2:=hW2▸Fr.alloc (a:=w1) (b:=w1.drew.drew) ⟨rfl,rfl,rfl,Nat.le_refl _,fun _ _ _=>rfl⟩ _;have hML:M.length=q:=by rw [HM.o,List.length_append,List.length_replicate];exact hkq
  have hrow:bP dB 5 59 W2 w1.heap.size G M:=by
   refine bP.of_block qZ (hW2▸aO w1.drew.drew _) ?_ (by omega) (fun k u hk=> ?_)
   ·simp only [Array.size_append,List.size_toArray,lT qZ,Builtin.zeroCells,Array.size_map,Array.size_range,Nb];omega
   ·have hz:(List.replicate (q - m.l.length) bH).flatMap dB=(Builtin.zeroCells (Value.agg #[.int .i64 0,.int .i64 0,.int .i64 0,.int .i64 0,.int .i64 0]).cells (q - m.l.length)).toList:=by
     rw [Qv _ 5 _ Nb,Qs];rfl
    rw [HM.o,List.flatMap_append,hz] at hk;have hlt:=(List.getElem?_eq_some_iff.1 hk).1;rw [Array.getElem?_append_left (by simpa using hlt)];rw [← hk,← Array.getElem?_toList];simp
  have k2:=FW.aC K1.o id;have z3:W2.frozen? ⟨p,2,none⟩=false:=bU k2 2;have c3:W2.cell? ⟨p,2,none⟩=some (.slice base m.l.length cap):=by rw [aA k2];rfl
  have hsz1:=F1.o.size;have hpl:=lt_of_block HK.o;have HFIN:Hid (jM w o K i p ⟨n,M⟩ (W2.setCell ⟨p,2,none⟩ (.slice (some ⟨w1.heap.size,0,none⟩) q G))):=lH (by
   have F2:Fr (· =p) w (W2.setCell ⟨p,2,none⟩ (.slice (some ⟨w1.heap.size,0,none⟩) q G)):=(F1.o.trans FW (fun _ _ e=>e.elim)).trans (jQ W2 p 2 _) kp;refine eH.Ba (cap:=G) (b:=w1.heap.size) H1.o HK.o HF.o hsz1 F2 ?_ (hrow.fr (jQ W2 p 2 _) (by omega)) hle;rw [hML];exact setCell_at k2 2 _)
  have mixed:prog.follows .mixedOrders=true:=by kernel_rfl
  have q1:¬(q:Int)≤(m.l.length:Int):=by omega
  clear hML hrow k2 hW2 FW h9 hold hkq hi0 hz0 hz1 hz2 hv hq hsz1 hpl;rcases hvd with ⟨he,hnil⟩|⟨b,cap',he,hmc,hb⟩
  ·simp only [Value.slice.injEq] at he;obtain ⟨rfl,hz,rfl⟩:=he;have HRZ:Hid (∀ty,(Builtin.append_ #[77,3] ty #[.slice none 0 0,.int .i64 (q:Int)]).run prog w1.drew=.ok (.slice (some ⟨w1.heap.size,0,none⟩) q G) W2):=lH (fun ty=>by
    have:=hrz ty;rwa [hz,Int.natCast_zero,Int.sub_zero] at this)
   have HWQ:Hid (IntKind.i64.wrap (q:Int)=(q:Int)):=lH (by rw [IntKind.wrap_i64];omega);clear hrz;rw [hz] at*;clear hz hnil;go_enter func143,ntmps143;go_wp2_with fail;refine HN.o.mono ?_;rintro e w2 ⟨rfl,rfl⟩;go_wp2_with fail;refine gK mixed (fun W=>W=w2.drew) [23,24,25,26] (by kernel_rfl) (by kernel_rfl) (by kernel_rfl) (by kernel_rfl) (fun _ _ d _ _ h=>by cases d<;>exact h) rfl ?_;repeat (first
    | refine fM (by rfl) ?_
    | (refine fO (v:= ?_) (by rfl) (by rfl) ?_ ?_
       rotate_left 1
       (intro W;go_simp;(try with_reducible rfl))
       simp only [pT,aB,lsS])
    | (refine dM (v:= ?_) (by rfl) (by kernel_rfl) (by rfl) ?_ ?_
       rotate_left 1
       (intro W hS;have c4:W.cell? ⟨p,2,none⟩=some (.slice none 0 0):=(by rw [hS];exact c2);go_simp;(try with_reducible rfl))
       simp only [pT,aB,lsS]))
   intro W hS;subst hS;simp only [List.reverse_cons,List.reverse_nil,List.nil_append,List.cons_append];refine Lib.wpList_append_run _ rfl (.tmp 43) (.tmp 50) 77 3 rfl (.slice none 0 0) (.int .i64 q) ?_ ?_ _ _ (HRZ.o _) ?_
   ·simp [Act.eval]
   ·simp [Act.eval,HWQ.o]
   go_wp2_with fail;exact bodyPost_end (v:=.tuple #[]) (by simp [results,results143,go_sem]) rfl (HR.o _ _ rfl HFIN.o)
  ·have hlen:=hb.len;have hml:cap'≤9223372036854775807:=hmc;cases he;have q2:(m.l.length:Int)≤(cap:Int):=(by omega)
   have HWR:Hid (IntKind.i64.wrap ((q:Int) - (m.l.length:Int))=(q:Int) - (m.l.length:Int)):=lH (by rw [IntKind.wrap_i64];omega);clear hb hmc;go_enter func143,ntmps143;go_wp2_with fail;refine HN.o.mono ?_;rintro e w2 ⟨rfl,rfl⟩;go_wp2_with fail;refine gK mixed (fun W=>W=w2.drew) [23,24,25,26] (by kernel_rfl) (by kernel_rfl) (by kernel_rfl) (by kernel_rfl) (fun _ _ d _ _ h=>by cases d<;>exact h) rfl ?_;repeat (first
    | refine fM (by rfl) ?_
    | (refine fO (v:= ?_) (by rfl) (by rfl) ?_ ?_
       rotate_left 1
       (intro W;go_simp;(try with_reducible rfl))
       simp only [pT,aB,lsS])
    | (refine dM (v:= ?_) (by rfl) (by kernel_rfl) (by rfl) ?_ ?_
       rotate_left 1
       (intro W hS;have c4:W.cell? ⟨p,2,none⟩=some (.slice (some ⟨b,0,none⟩) m.l.length cap):=(by rw [hS];exact c2);go_simp;(try with_reducible rfl))
       simp only [pT,aB,lsS]))
   intro W hS;subst hS;simp only [List.reverse_cons,List.reverse_nil,List.nil_append,List.cons_append];refine Lib.wpList_append_run _ rfl (.tmp 43) (.tmp 50) 77 3 rfl (.slice (some ⟨b,0,none⟩) m.l.length m.l.length) (.int .i64 ((q:Int) - (m.l.length:Int))) ?_ ?_ _ _ (hrz _) ?_
   ·simp [Act.eval]
   ·simp [Act.eval,HWR.o]
   go_wp2_with fail;exact bodyPost_end (v:=.tuple #[]) (by simp [results,results143,go_sem]) rfl (HR.o _ _ rfl HFIN.o)
