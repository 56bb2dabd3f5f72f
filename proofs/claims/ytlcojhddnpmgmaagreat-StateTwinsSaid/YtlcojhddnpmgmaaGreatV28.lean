/- Part of a proof. -/
import Derived.Test.YtlcojhddnpmgmaaGreatV25
set_option linter.unusedSimpArgs false
set_option linter.unusedVariables false
set_option maxRecDepth 100000
set_option maxHeartbeats 3200000
namespace Go.Proofs.YtlcojhddnpmgmaaGreat
open Go.RowKit Go.Proofs.Tryz
def Jd (w:World) (o:Nat→Nat) (cl win:Nat) (W:Nat→Option gW) (i:Nat) (l s:Int) (bs:List UInt8) (e:Ending) (w':World):Prop:=
 e=.returned (.int .i64 0)∧(∃o',Step (· =cl) w o w' o'∧iE w' o' cl win (upd W i (some (l,s,bs))))∧Fr (fun k=>k=win) w w'
theorem J8 (o:Nat→Nat) (cl win:Nat) (W:Nat→Option gW) (i:Nat) (hi:i<4) (l s:Int) (bs:List UInt8) (b off c:Nat) (v:Value) (w:World) (h:iE w o cl win W) (hf:aP w o) (hv:dC w v bs b off c) (hb:bs.length≤1000000)
  (hlen:∀i life seq bs,W i=some (life,seq,bs)→bs.length≤1000000) (k1:(dX W i l s).1≠2) (k2:(dX W i l s).1≠1):
  Calls prog 113 #[.pointer (some ⟨win,0,none⟩),.agg #[.int .i64 i,.int .i64 l,.int .i64 s],v] w (Jd w o cl win W i l s bs):=by
 have f0:Fr No w (w.alloc (.cells #[.int .i64 i,.int .i64 l,.int .i64 s] 32)):=(Fr.refl w).alloc _;have c4:(w.alloc (.cells #[.int .i64 i,.int .i64 l,.int .i64 s] 32)).cell? ⟨win,4,none⟩=some (.bool true):=by
  obtain ⟨_,p,h2,_⟩:=h;rw [aA (f0.aC h2 id)];rfl
 have k0:=aO w (.cells #[.int .i64 i,.int .i64 l,.int .i64 s] 32);have HA:=lH (Ea o cl win W i l s _ (h.no hf f0) hlen);have a2:(dX W i l s).2=none:=by
  unfold dX at k2 ⊢;split at k2
  ·rename_i hm
   rw [if_pos hm];split
   ·rfl
   ·rename_i x life seq bs' hx
    rw [hx] at k2;dsimp only at k2;dsimp only;rw [if_neg k2]
  ·rename_i hm
   rw [if_neg hm]
 have t2:((dX W i l s).1==2)=false:=by simpa using k1
 have t1:((dX W i l s).1==1)=false:=by simpa using k2
 have lw:win<w.heap.size:=by
  obtain ⟨_,p,h2,_⟩:=h;exact lt_of_block h2
 generalize dX W i l s=A at*;have q1:(0:Int)≤(i:Int):=by omega
 have q2:(i:Int)<4:=by omega
 have q3:¬(i:Int)<0:=by omega
 have q4:¬(4:Int)≤(i:Int):=by omega
 have HW:=lH h;have HF:=lH hf;have HV:=lH hv;have HB:=lH hb;have HI:=lH hi;have A2:=lH a2;clear h hf hv hb hlen k1 k2 a2 hi;go_enter func113,ntmps113;go_wp2_with fail;with_reducible refine HA.o.mono ?_
 rintro e w1 ⟨f1,he⟩;rw [A2.o] at he;subst he;have K1:=f1.aC k0 id;have F1:Fr No w w1:=f0.trans f1 kp;have p0:w1.cell? ⟨w.heap.size,0,none⟩=some (.int .i64 i):=by rw [aA K1];rfl
 have p1:w1.cell? ⟨w.heap.size,1,none⟩=some (.int .i64 l):=by rw [aA K1];rfl
 have p2:w1.cell? ⟨w.heap.size,2,none⟩=some (.int .i64 s):=by rw [aA K1];rfl
 clear k0 K1 c4;go_wp2_with fail;obtain ⟨hv1,hv2,hv3,hv4⟩:=HV.o;have HV1:=lH (show dC w1.drew v bs b off c from ⟨hv1,hv2,Nat.lt_of_lt_of_le hv3 F1.size,fun j y hj=>F1.cell_of (hv4 j y hj) id⟩);clear hv1 hv2 hv3 hv4;have hlt:=F1.size;go_region_held3 (fun w'=>w'.cell? ⟨w.heap.size,0,none⟩=some (.int .i64 i)∧w'.cell? ⟨w.heap.size,1,none⟩=some (.int .i64 l)∧w'.cell? ⟨w.heap.size,2,none⟩=some (.int .i64 s)) (first|go_keep|(go_split_ands;refine ⟨?_,?_,?_⟩<;>exact f3.cell_of (by assumption) id))
  ((go_at_call 101;refine (yG _ bs b off c _ HV1.o HB.o).mono ?_;rintro e w3 ⟨v',b',c',rfl,⟨rfl,hsl⟩,hbb,f3⟩;have W3:=lH (HW.o.no HF.o (F1.drew.trans (f3.trans ((Fr.refl w3).alloc (.cells #[.int .i64 i,.int .i64 l,.int .i64 s,.slice (some ⟨b',0,none⟩) bs.length c'] 119)) kp) kp));have cw:∃z,(w3.alloc (.cells #[.int .i64 i,.int .i64 l,.int .i64 s,.slice (some ⟨b',0,none⟩) bs.length c'] 119)).cell? ⟨win,i,none⟩=some z:=W3.o.place i HI.o;obtain ⟨z,cw⟩:=cw;have zw:(w3.alloc (.cells #[.int .i64 i,.int .i64 l,.int .i64 s,.slice (some ⟨b',0,none⟩) bs.length c'] 119)).frozen? ⟨win,i,none⟩=false:=W3.o.frozen i;have hne:win≠w.heap.size:=by omega))
 all_goals
  go_wp2_with fail
  go_ret
  have F3:Fr No w w3:=F1.drew.trans f3 kp;have G3:Fr No w3 (w3.alloc (.cells #[.int .i64 i,.int .i64 l,.int .i64 s,.slice (some ⟨b',0,none⟩) bs.length c'] 119)):=(Fr.refl w3).alloc _;have h3:=F3.size;have hb1:w.heap.size≤b':=by have:=F1.size;simp at hbb;omega
  have hb3:=hsl.2.1;exact ⟨rfl,⟨_,HW.o.set HF.o (F3.trans G3 kp) i HI.o h3 hb1 (by omega) (aO w3 _) ⟨rfl,hsl.1,Nat.lt_of_lt_of_le hsl.2.1 G3.size,fun j y hj=>G3.cell_of (hsl.2.2 j y hj) id⟩ rfl⟩,(F3.trans G3 kp).bK.trans (jQ _ win i _) kp⟩
def Rp (w:World) (ev mv:Value) (es:List eF) (mp:List UInt8):Prop:=eQ w w.heap.size ev es∧fP w w.heap.size mv mp
def mV (w:World) (k:Nat):Prop:=∃cs t fz,w.heap[k]? =some (.cells cs t fz)∧t≠86∧∀(j:Nat) (x:Int),cs[j]? ≠some (.int .u8 x)
theorem Rp.fr {S:Nat→Prop} {w w':World} {ev mv:Value} {es:List eF} {mp:List UInt8} (h:Rp w ev mv es mp) (f:Fr S w w') (hS:∀k,S k→k<w.heap.size→mV w k):Rp w' ev mv es mp:=by
 obtain ⟨h1,h2⟩:=h;refine ⟨?_,?_⟩
 ·rcases h1 with h1|⟨b,off,c,e,a1,a2,a3,⟨cs',fz',a4⟩,a5⟩
  ·exact .inl h1
  ·have hne:¬S b:=fun hs=>by
    obtain ⟨cs,t,fz,hk,ht,_⟩:=hS b hs (lt_of_block a4);rw [a4] at hk;simp only [Option.some.injEq,Obj.cells.injEq] at hk;exact ht hk.2.1.symm
   exact .inr ⟨b,off,c,e,a1,Nat.lt_of_lt_of_le a3 f.size,Nat.lt_of_lt_of_le a3 f.size,⟨cs',fz',f.aC a4 hne⟩,fun j x hj i u hi=>f.cell_of (a5 j x hj i u hi) hne⟩
 ·rcases h2 with h2|⟨b,off,c,⟨e,a1,a2,a3⟩,a4⟩
  ·exact .inl h2
  ·refine .inr ⟨b,off,c,⟨e,a1,Nat.lt_of_lt_of_le a2 f.size,fun j x hj=> ?_⟩,Nat.lt_of_lt_of_le a2 f.size⟩;by_cases hs:S b
   ·obtain ⟨cs,t,fz,hk,_,hn⟩:=hS b hs a2;have:=a3 j x hj;rw [aA hk] at this;exact absurd this (hn _ _)
   ·exact f.cell_of (a3 j x hj) hs
theorem Rp.no {w w':World} {ev mv:Value} {es:List eF} {mp:List UInt8} (h:Rp w ev mv es mp) (f:Fr No w w'):Rp w' ev mv es mp:=h.fr f (fun _ e _=>e.elim)
theorem Rx (w:World):Rp w (.slice none 0 0) (.slice none 0 0) [] []:=⟨.inl ⟨rfl,rfl⟩,.inl ⟨rfl,rfl⟩⟩
theorem qE {w:World} {k:Nat} {fz:Nat×Nat} (h:w.heap[k]? =some (.cells #[.int .i64 0,.int .i64 0,.int .i64 0,.int .i64 0,.int .i64 0,.bool false,.slice none 0 0,.slice none 0 0] 29 fz)):mV w k:=
 ⟨_,29,_,h,by decide,zI bD (.slice none 0 0) (.slice none 0 0) (fun _ e=>by cases e) (fun _ e=>by cases e)⟩
theorem iE.nob {w:World} {o:Nat→Nat} {c win:Nat} {W:Nat→Option gW} (h:iE w o c win W):mV w win:=by
 obtain ⟨_,p,hk,hr⟩:=h;have hp:∀i,i<4→∀x:Int,p i≠ .int .u8 x:=fun i hi x e=>by
  have:=hr i hi;cases hW:W i with
  | none=>
   rw [hW] at this;have h2:p i=.pointer none:=this;rw [h2] at e;cases e
  | some y=>
   obtain ⟨l,q,bs⟩:=y;rw [hW] at this;obtain ⟨r,v,b,cc,h2,_⟩:=this;rw [h2] at e;cases e
 refine ⟨_,152,_,hk,by decide,fun j x e=> ?_⟩
 match j,e with
 | 0,e=>exact hp 0 (by decide) x (by simpa using e)
 | 1,e=>exact hp 1 (by decide) x (by simpa using e)
 | 2,e=>exact hp 2 (by decide) x (by simpa using e)
 | 3,e=>exact hp 3 (by decide) x (by simpa using e)
 | 4,e=>simp at e
 | (n+5),e=>simp at e
