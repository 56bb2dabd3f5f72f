/- Part of the proof; the last text says what is proved. -/
import Derived.Test.YtlcojhddnpmgmaaGreatW25
set_option linter.unusedSimpArgs false
set_option linter.unusedVariables false
set_option maxRecDepth 100000
set_option maxHeartbeats 3200000
namespace Go.Proofs.YtlcojhddnpmgmaaGreat
open Go.RowKit
def GDone2 (w:World) (o:Nat→Nat) (cl win:Nat) (W:Nat→Option WRow) (i:Nat) (l s:Int) (bs:List UInt8) (e:Ending) (w':World):Prop:=
 e=.returned (.int .i64 0)∧(∃o',Step (· =cl) w o w' o'∧WinAt w' o' cl win (upd W i (some (l,s,bs))))∧Fr (fun k=>k=win) w w'
theorem gdone2_ (o:Nat→Nat) (cl win:Nat) (W:Nat→Option WRow) (i:Nat) (hi:i<4) (l s:Int) (bs:List UInt8) (b off c:Nat) (v:Value) (w:World) (h:WinAt w o cl win W) (hf:Fresh w o) (hv:SlIs w v bs b off c) (hb:bs.length≤1000000)
  (hlen:∀i life seq bs,W i=some (life,seq,bs)→bs.length≤1000000) (k1:(askOf W i l s).1≠2) (k2:(askOf W i l s).1≠1):
  Calls Tryz.prog 113 #[.pointer (some ⟨win,0,none⟩),.agg #[.int .i64 i,.int .i64 l,.int .i64 s],v] w (GDone2 w o cl win W i l s bs):=by
 have f0:Fr No w (w.alloc (.cells #[.int .i64 i,.int .i64 l,.int .i64 s] 32)):=(Fr.refl w).alloc _;have c4:(w.alloc (.cells #[.int .i64 i,.int .i64 l,.int .i64 s] 32)).cell? ⟨win,4,none⟩=some (.bool true):=by
  obtain ⟨_,p,h2,_⟩:=h;rw [cell_at (f0.block_of h2 id)];rfl
 have k0:=new_at w (.cells #[.int .i64 i,.int .i64 l,.int .i64 s] 32);have HA:=lH (gask_ o cl win W i l s _ (h.no hf f0) hlen);have a2:(askOf W i l s).2=none:=by
  unfold askOf at k2 ⊢;split at k2
  ·rename_i hm
   rw [if_pos hm];split
   ·rfl
   ·rename_i x life seq bs' hx
    rw [hx] at k2;dsimp only at k2;dsimp only;rw [if_neg k2]
  ·rename_i hm
   rw [if_neg hm]
 have t2:((askOf W i l s).1==2)=false:=by simpa using k1
 have t1:((askOf W i l s).1==1)=false:=by simpa using k2
 have lw:win<w.heap.size:=by
  obtain ⟨_,p,h2,_⟩:=h;exact lt_of_block h2
 generalize askOf W i l s=A at*;have q1:(0:Int)≤(i:Int):=by omega
 have q2:(i:Int)<4:=by omega
 have q3:¬(i:Int)<0:=by omega
 have q4:¬(4:Int)≤(i:Int):=by omega
 have HW:=lH h;have HF:=lH hf;have HV:=lH hv;have HB:=lH hb;have HI:=lH hi;have A2:=lH a2;clear h hf hv hb hlen k1 k2 a2 hi;go_enter Tryz.func113,Tryz.ntmps113;go_wp2_with fail;with_reducible refine HA.out.mono ?_
 rintro e w1 ⟨f1,he⟩;rw [A2.out] at he;subst he;have K1:=f1.block_of k0 id;have F1:Fr No w w1:=f0.trans f1 (fun _ _ e=>e);have p0:w1.cell? ⟨w.heap.size,0,none⟩=some (.int .i64 i):=by rw [cell_at K1];rfl
 have p1:w1.cell? ⟨w.heap.size,1,none⟩=some (.int .i64 l):=by rw [cell_at K1];rfl
 have p2:w1.cell? ⟨w.heap.size,2,none⟩=some (.int .i64 s):=by rw [cell_at K1];rfl
 clear k0 K1 c4;go_wp2_with fail;obtain ⟨hv1,hv2,hv3,hv4⟩:=HV.out;have HV1:=lH (show SlIs w1.drew v bs b off c from ⟨hv1,hv2,Nat.lt_of_lt_of_le hv3 F1.size,fun j y hj=>F1.cell_of (hv4 j y hj) id⟩);clear hv1 hv2 hv3 hv4;have hlt:=F1.size;go_region_held3 (fun w'=>w'.cell? ⟨w.heap.size,0,none⟩=some (.int .i64 i)∧w'.cell? ⟨w.heap.size,1,none⟩=some (.int .i64 l)∧w'.cell? ⟨w.heap.size,2,none⟩=some (.int .i64 s)) (first|go_keep|(go_split_ands;refine ⟨?_,?_,?_⟩<;>exact f3.cell_of (by assumption) id))
  ((go_at_call 101;refine (clone_ _ bs b off c _ HV1.out HB.out).mono ?_;rintro e w3 ⟨v',b',c',rfl,⟨rfl,hsl⟩,hbb,f3⟩;have W3:=lH (HW.out.no HF.out (F1.drew.trans (f3.trans ((Fr.refl w3).alloc (.cells #[.int .i64 i,.int .i64 l,.int .i64 s,.slice (some ⟨b',0,none⟩) bs.length c'] 119)) (fun _ _ e=>e)) (fun _ _ e=>e)));have cw:∃z,(w3.alloc (.cells #[.int .i64 i,.int .i64 l,.int .i64 s,.slice (some ⟨b',0,none⟩) bs.length c'] 119)).cell? ⟨win,i,none⟩=some z:=W3.out.place i HI.out;obtain ⟨z,cw⟩:=cw;have zw:(w3.alloc (.cells #[.int .i64 i,.int .i64 l,.int .i64 s,.slice (some ⟨b',0,none⟩) bs.length c'] 119)).frozen? ⟨win,i,none⟩=false:=W3.out.frozen i;have hne:win≠w.heap.size:=by omega))
 all_goals
  go_wp2_with fail
  go_ret
  have F3:Fr No w w3:=F1.drew.trans f3 (fun _ _ e=>e);have G3:Fr No w3 (w3.alloc (.cells #[.int .i64 i,.int .i64 l,.int .i64 s,.slice (some ⟨b',0,none⟩) bs.length c'] 119)):=(Fr.refl w3).alloc _;have h3:=F3.size;have hb1:w.heap.size≤b':=by have:=F1.size;simp at hbb;omega
  have hb3:=hsl.2.1;exact ⟨rfl,⟨_,HW.out.set HF.out (F3.trans G3 (fun _ _ e=>e)) i HI.out h3 hb1 (by omega) (new_at w3 _) ⟨rfl,hsl.1,Nat.lt_of_lt_of_le hsl.2.1 G3.size,fun j y hj=>G3.cell_of (hsl.2.2 j y hj) id⟩ rfl⟩,(F3.trans G3 (fun _ _ e=>e)).of_no.trans (fr_set _ win i _) (fun _ _ e=>e)⟩
def Rp (w:World) (ev mv:Value) (es:List Ent) (mp:List UInt8):Prop:=EsB w w.heap.size ev es∧BsB w w.heap.size mv mp
def NoB (w:World) (k:Nat):Prop:=∃cs t fz,w.heap[k]? =some (.cells cs t fz)∧t≠86∧∀(j:Nat) (x:Int),cs[j]? ≠some (.int .u8 x)
theorem Rp.fr {S:Nat→Prop} {w w':World} {ev mv:Value} {es:List Ent} {mp:List UInt8} (h:Rp w ev mv es mp) (f:Fr S w w') (hS:∀k,S k→k<w.heap.size→NoB w k):Rp w' ev mv es mp:=by
 obtain ⟨h1,h2⟩:=h;refine ⟨?_,?_⟩
 ·rcases h1 with h1|⟨b,off,c,e,a1,a2,a3,⟨cs',fz',a4⟩,a5⟩
  ·exact .inl h1
  ·have hne:¬S b:=fun hs=>by
    obtain ⟨cs,t,fz,hk,ht,_⟩:=hS b hs (lt_of_block a4);rw [a4] at hk;simp only [Option.some.injEq,Obj.cells.injEq] at hk;exact ht hk.2.1.symm
   exact .inr ⟨b,off,c,e,a1,Nat.lt_of_lt_of_le a3 f.size,Nat.lt_of_lt_of_le a3 f.size,⟨cs',fz',f.block_of a4 hne⟩,fun j x hj i u hi=>f.cell_of (a5 j x hj i u hi) hne⟩
 ·rcases h2 with h2|⟨b,off,c,⟨e,a1,a2,a3⟩,a4⟩
  ·exact .inl h2
  ·refine .inr ⟨b,off,c,⟨e,a1,Nat.lt_of_lt_of_le a2 f.size,fun j x hj=> ?_⟩,Nat.lt_of_lt_of_le a2 f.size⟩;by_cases hs:S b
   ·obtain ⟨cs,t,fz,hk,_,hn⟩:=hS b hs a2;have:=a3 j x hj;rw [cell_at hk] at this;exact absurd this (hn _ _)
   ·exact f.cell_of (a3 j x hj) hs
theorem Rp.no {w w':World} {ev mv:Value} {es:List Ent} {mp:List UInt8} (h:Rp w ev mv es mp) (f:Fr No w w'):Rp w' ev mv es mp:=h.fr f (fun _ e _=>e.elim)
theorem rp_nil (w:World):Rp w (.slice none 0 0) (.slice none 0 0) [] []:=⟨.inl ⟨rfl,rfl⟩,.inl ⟨rfl,rfl⟩⟩
theorem nob_rep {w:World} {k:Nat} {fz:Nat×Nat} (h:w.heap[k]? =some (.cells #[.int .i64 0,.int .i64 0,.int .i64 0,.int .i64 0,.int .i64 0,.bool false,.slice none 0 0,.slice none 0 0] 29 fz)):NoB w k:=
 ⟨_,29,_,h,by decide,rep_no8 noRep (.slice none 0 0) (.slice none 0 0) (fun _ e=>by cases e) (fun _ e=>by cases e)⟩
theorem WinAt.nob {w:World} {o:Nat→Nat} {c win:Nat} {W:Nat→Option WRow} (h:WinAt w o c win W):NoB w win:=by
 obtain ⟨_,p,hk,hr⟩:=h;have hp:∀i,i<4→∀x:Int,p i≠ .int .u8 x:=fun i hi x e=>by
  have:=hr i hi;cases hW:W i with
  | none=>
   rw [hW] at this;have h2:p i=.pointer none:=this;rw [h2] at e;cases e
  | some y=>
   obtain ⟨l,q,bs⟩:=y;rw [hW] at this;obtain ⟨r,v,b,cc,h2,_⟩:=this;rw [h2] at e;cases e
 refine ⟨_,152,_,hk,by decide,fun j x e=> ?_⟩
 match j,e with
 | 0,e=>exact hp 0 (by decide) x (by simpa using e)
 | 1,e=>exact hp 1 (by decide) x (by simpa using e)
 | 2,e=>exact hp 2 (by decide) x (by simpa using e)
 | 3,e=>exact hp 3 (by decide) x (by simpa using e)
 | 4,e=>simp at e
 | (n+5),e=>simp at e
end Go.Proofs.YtlcojhddnpmgmaaGreat
