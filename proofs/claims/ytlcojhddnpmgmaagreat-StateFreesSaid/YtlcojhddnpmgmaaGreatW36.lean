/- Part of the proof; the last text says what is proved. -/
import Derived.Test.YtlcojhddnpmgmaaGreatW35
set_option linter.unusedSimpArgs false
set_option linter.unusedVariables false
set_option maxRecDepth 100000
set_option maxHeartbeats 6400000
namespace Go.Proofs.YtlcojhddnpmgmaaGreat
open Go.RowKit
def TrClonePost (w:World) (o:Nat→Nat) (K:Nat) (T:Tree) (e:Ending) (w':World):Prop:=∃t o',e=.returned (.pointer (some ⟨t,0,none⟩))∧Step (fun _=>False) w o w' o'∧TreeAt w' o' K t T
structure TrMid (w:World) (o:Nat→Nat) (T:Tree) (K t m0 r:Nat) (wr:World) (left:Int→Bool) (oj tp:Nat→Nat):Prop where
 step:Step (fun _=>False) w o wr oj
 ot:oj t=K+3
 om:oj m0=K+4
 orr:oj r=0
 bt:w.heap.size≤t
 bm:w.heap.size≤m0
 br:w.heap.size≤r
 cs:wr.heap[t]? =some (.cells #[.map (some m0)] 132 (0,0))
 map:∃c,c≤129∧MapAt encI wr m0 c (gone left (thm T tp))
 done:∀k x,T k=some x→left (k:Int)=false→ThingAt wr oj K k (tp k) x (kidN T k) (kidm T k)
theorem TrMid.steps {w:World} {o:Nat→Nat} {T:Tree} {K t m0 r:Nat} {wr w2:World} {left:Int→Bool} {oj oj2 tp:Nat→Nat} (h:TrMid w o T K t m0 r wr left oj tp) {C:Nat→Prop} (s:Step C wr oj w2 oj2) (s0:Step (fun _=>False) w o w2 oj2) (hC:∀c,C c→c=0) (hr:r<wr.heap.size):TrMid w o T K t m0 r w2 left oj2 tp where
 step:=s0
 ot:=(s.own h.cs).trans h.ot
 om:=by
  obtain ⟨c,_,hm⟩:=h.map;exact (s.old m0 hm.lt).trans h.om
 orr:=(s.old r hr).trans h.orr
 bt:=h.bt
 bm:=h.bm
 br:=h.br
 cs:=s.block h.cs (by rw [h.ot];intro e;have:=hC _ e;omega)
 map:=by
  obtain ⟨c,hc,hm⟩:=h.map;exact ⟨c,hc,hm.fr s.fr (by rw [h.om];intro e;have:=hC _ e;omega)⟩
 done:=fun k x hk hl=>(h.done k x hk hl).step s (by intro e;have:=hC _ e;omega) (by intro e;have:=hC _ e;omega)
theorem TrMid.put {w:World} {o:Nat→Nat} {T:Tree} {K t m0 r:Nat} {wr:World} {left:Int→Bool} {oj tp:Nat→Nat} (h:TrMid w o T K t m0 r wr left oj tp) {k:Nat} {x:Node} (hk:T k=some x) (hk8:k≤128) (hl:left (k:Int)=true) {yb:Nat} (hth:ThingAt wr oj K k yb x (kidN T k) (kidm T k))
  {c0:Nat} (hc0:∃c,c≤c0∧MapAt encI wr m0 c (gone left (thm T tp))) (hc1:c0<129):
  ∃w5,(Instr.mapUpdate 130 (.map (some m0)) (.int .i64 k) (.pointer (some ⟨yb,0,none⟩))).run Tryz.prog wr=.ok () w5∧TrMid w o T K t m0 r w5 (fun z=>left z&&decide (z≠(k:Int))) oj (fun j=>if j=k then yb else tp j)∧Fr (· =m0) wr w5∧∃c,c≤c0+1∧MapAt encI w5 m0 c (gone (fun z=>left z&&decide (z≠(k:Int))) (thm T (fun j=>if j=k then yb else tp j))):=by
 obtain ⟨c,hc,hm⟩:=hc0;obtain ⟨w5,hu,hm5,f5⟩:=hm.put (k:Int) yb (show I64 _ by unfold I64;omega) trivial (by omega) (t:=130) (e:=142) Tryz.underlying130;have e1:gone left (thm T tp) (k:Int)=none:=if_pos hl;rw [e1] at hm5;have hkk:thm T tp (k:Int)=some (tp k):=by simp [thm,hk]
 have e2:(fun z=>if z=(k:Int) then some yb else gone left (thm T tp) z)=gone (fun z=>left z&&decide (z≠(k:Int))) (thm T (fun j=>if j=k then yb else tp j)):=by
  funext z;unfold gone thm;by_cases hz:z=(k:Int)
  ·subst hz;simp [hk]
  ·by_cases h0:0≤z
   ·have:z.toNat≠k:=by omega
    simp [hz,h0,this]
   ·simp [hz,h0]
 rw [e2] at hm5;have s5:Step (fun c=>c=K+4) wr oj w5 oj:=⟨f5.mono (fun j _ e=>by rw [e];exact h.om),fun _ _=>rfl,fun j hj=>h.step.fresh j (Nat.le_trans f5.size hj)⟩
 refine ⟨w5,hu,⟨h.step.own_turn h.bm f5,h.ot,h.om,h.orr,h.bt,h.bm,h.br,s5.block h.cs (by rw [h.ot];omega),⟨_,?_,hm5⟩,fun j y hj hlj=> ?_⟩,f5,⟨_,?_,hm5⟩⟩
 ·simp only [Option.isSome_none,Bool.false_eq_true,if_false];omega
 ·by_cases e:j=k
  ·subst e;rw [hk] at hj;cases hj;rw [if_pos rfl];exact hth.step s5 (by omega) (by omega)
  ·rw [if_neg e];refine (h.done j y hj ?_).step s5 (by omega) (by omega);have:decide ((j:Int)≠(k:Int))=true:=decide_eq_true (by omega);rw [this,Bool.and_true] at hlj;exact hlj
 ·simp only [Option.isSome_none,Bool.false_eq_true,if_false];omega
theorem gone_thm (T:Tree) (tp tp':Nat→Nat):gone (fun x=>(thm T tp x).isSome) (thm T tp')=fun _=>none:=by
 funext z;unfold gone;by_cases h:(thm T tp z).isSome=true
 ·rw [if_pos h]
 ·rw [if_neg h];unfold thm at h ⊢;by_cases h0:0≤z
  ·rw [if_pos h0] at h ⊢;cases hT:T z.toNat with
   | none=>rfl
   | some y=>rw [hT] at h;exact absurd rfl h
  ·rw [if_neg h0]
theorem Tryz.size141:(Tryz.prog.info? 141).map (·.size)=some 4:=by kernel_rfl
theorem gtclone_ (o:Nat→Nat) (K K' t:Nat) (T:Tree) (w:World) (h:TreeAt w o K t T) (ok:TreeOk T) (hf:Fresh w o):Calls Tryz.prog 66 #[.pointer (some ⟨t,0,none⟩)] w (TrClonePost w o K' T):=by
 have hmm:= @run_makeMap Tryz.prog;have HMD:=lH (gtmade_ w o K t T h);have OK:=lH ok;have HF:=lH hf;have HQ:Hid (∀t' w' o',Step (fun _=>False) w o w' o'→TreeAt w' o' K' t' T→TrClonePost w o K' T (.returned (.pointer (some ⟨t',0,none⟩))) w'):=lH (fun t' w' o' s x=>⟨t',o',rfl,s,x⟩);generalize TrClonePost w o K' T=Q at*;have HH:=lH h;have hth:things T≤129:=by
  unfold things;exact Nat.le_trans List.countP_le_length (by simp)
 obtain ⟨mb,tp,_,kt,_,hum,hthg⟩:=h;have hmlt:=hum.lt;have hFA:Fr No w ((w.alloc (.map #[] 0)).alloc (.cells #[.map (some w.heap.size)] 132)):=((Fr.refl w).alloc _).alloc _;have c0:((w.alloc (.map #[] 0)).alloc (.cells #[.map (some w.heap.size)] 132)).cell? ⟨t,0,none⟩=some (.map (some mb)):=by rw [cell_at (hFA.block_of kt id)];rfl
 have kt':((w.alloc (.map #[] 0)).alloc (.cells #[.map (some w.heap.size)] 132)).heap[w.heap.size+1]? =some (.cells #[.map (some w.heap.size)] 132 (0,0)):=by
  simpa using new_at (w.alloc (.map #[] 0)) (.cells #[.map (some w.heap.size)] 132)
 have km':MapAt encI ((w.alloc (.map #[] 0)).alloc (.cells #[.map (some w.heap.size)] 132)) w.heap.size 0 (fun _=>none):=(MapAt.made encI w).fr ((Fr.refl (S:=No) _).alloc _) id;have hsA:((w.alloc (.map #[] 0)).alloc (.cells #[.map (some w.heap.size)] 132)).heap.size=w.heap.size+2:=by simp
 have humA:=hum.fr hFA id;obtain ⟨w2,hr,R2,f2,hs2⟩:=humA.range (t:=130) (e:=142) Tryz.underlying130;generalize hwA:(w.alloc (.map #[] 0)).alloc (.cells #[.map (some w.heap.size)] 132)=wA at*;rw [hsA] at hr R2 hs2;have FA2:=lH (hFA.trans f2 (fun _ _ e=>e));have LI:Hid (TrMid w o T K' (w.heap.size+1) w.heap.size (w.heap.size+2) w2 (fun x=>(thm T tp x).isSome) (paint (paint o (w.heap.size+1) (K'+3)) w.heap.size (K'+4)) (fun _=>0)):=lH
  ⟨(((Step.no HF.out FA2.out:Step (fun _=>False) w o w2 o).painted (b:=w.heap.size+1) (c:=K'+3) (by omega) (by omega)).painted (b:=w.heap.size) (c:=K'+4) (by omega) (by omega)),by rw [paint_other _ _ (by omega),paint_same],paint_same _ _ _,
   by rw [paint_other _ _ (by omega),paint_other _ _ (by omega)];exact HF.out _ (by omega),by omega,by omega,by omega,f2.block_of kt' id,⟨0,by omega,by
    rw [gone_thm];exact km'.fr f2 id⟩,fun k x hk hl=>by
    have:(thm T tp (k:Int)).isSome=true:=(by simp [thm,hk])
    rw [this] at hl;cases hl⟩
 have RR2:=lH R2;have HUM:=lH hum;have HTG:=lH hthg;clear hum hthg humA kt kt' km' R2 f2 hFA hf ok;subst hwA;go_enter Tryz.func66,Tryz.ntmps66;go_wp2_with fail;refine HMD.out.mono ?_;rintro e w1 ⟨rfl,hw⟩;have hw':=hw.symm;subst hw';go_wp2_with fail;go_loopw [] (fun wr=>∃(left:Int→Bool) (cnt:Nat) (oj tp':Nat→Nat),Hid (RangeAt encI wr mb (w.heap.size+2) (things T) (thm T tp) left cnt)∧Hid (TrMid w o T K' (w.heap.size+1) w.heap.size (w.heap.size+2) wr left oj tp')∧Hid (∃c,c+cnt≤129∧MapAt encI wr w.heap.size c (gone left (thm T tp')))∧w.heap.size+3≤wr.heap.size) (fun wr=>wr.rangeLeft mb (w.heap.size+2))
 case atStart=>
  refine ⟨_,_,_,_,RR2,LI,lH ?_,by omega⟩;obtain ⟨c,hc,hm⟩:=LI.out.map;have e:=gone_thm T tp (fun _=>0);rw [e] at hm;rcases hm.has_one (t:=130) (e:=142) Tryz.underlying130 with ⟨h0,_⟩|⟨_,x,y,h0⟩
  ·exact ⟨c,by omega,by rw [e];exact hm⟩
  ·cases h0
 case round=>
  obtain ⟨left,cnt,oj,tp',HRA,HMI,HCN,hsz⟩:=hrel;rcases HRA.out.next 0 with ⟨_,hno,hnx⟩|⟨x,y,w4,cnt',hms,hls,hnx,hra',hlt',f4,hs4,hen⟩
  ·have hfin:TreeAt wr oj K' (w.heap.size+1) T:=by
    obtain ⟨c,hc,hm⟩:=HMI.out.map;have hend:gone left (thm T tp')=thm T tp':=gone_end (E:=encI) (fun z u hz=>by
     unfold thm at hz;split at hz
     ·rename_i h0
      cases hT:T z.toNat with
      | none=>rw [hT] at hz;cases hz
      | some nd=>
       have:=OK.out.lt hT;show I64 z;unfold I64;omega
     ·cases hz) hno
    rw [hend] at hm;have hcc:=MapAt.count_eq (t:=130) (e:=142) Tryz.underlying130 _ _ HUM.out hm (fun z=>by
     unfold thm;split
     ·cases T z.toNat<;>rfl
     ·rfl)
    rw [← hcc] at hm;exact ⟨w.heap.size,tp',HMI.out.ot,HMI.out.cs,HMI.out.om,hm,fun k nd hk=>HMI.out.done k nd hk (hno k (by
     have:=OK.out.lt hk;show I64 (k:Int);unfold I64;omega))⟩
   have HFIN:=lH hfin;clear hno hfin;go_wp2_with fail;exact HQ.out _ _ _ HMI.out.step HFIN.out
  ·obtain ⟨k,nd,hk,rfl,rfl⟩:∃(k:Nat) (nd:Node),T k=some nd∧x=k∧y=tp k:=by
    unfold thm at hms;split at hms
    ·rename_i h0
     cases hT:T x.toNat with
     | none=>rw [hT] at hms;cases hms
     | some nd=>
      rw [hT] at hms;exact ⟨x.toNat,nd,hT,by omega,by cases hms;rfl⟩
    ·cases hms
   have hk8:=(OK.out.lt hk).2;have hrlt:=HRA.out.lt;have s4:Step (fun c=>c=0) wr oj w4 oj:=⟨f4.mono (fun j _ e=>by rw [e];exact HMI.out.orr),fun _ _=>rfl,fun j hj=>HMI.out.step.fresh j (Nat.le_trans f4.size hj)⟩
   have M4:=lH (HMI.out.steps s4 (HMI.out.step.own_turn HMI.out.br f4) (fun c e=>e) hrlt);have C4:Hid (∃c,c+cnt≤129∧MapAt encI w4 w.heap.size c (gone left (thm T tp'))):=lH (by
    obtain ⟨c,h1,h2⟩:=HCN.out;exact ⟨c,h1,h2.fr f4 (by omega)⟩)
   have R4:=lH hra';have HLE:Hid (wr.rangeLeft mb (w.heap.size+2)=cnt):=lH HRA.out.left_eq;have hnx':(Instr.next (.pointer (some ⟨w.heap.size+2,0,none⟩)) false 0).run Tryz.prog wr=.ok (.tuple #[.bool true,.int .i64 k,.pointer (some ⟨tp k,0,none⟩)]) w4:=hnx;have hen':(Instr.entry (.pointer (some ⟨w.heap.size+2,0,none⟩))).run Tryz.prog w4=.ok (.tuple #[.int .i64 k,.pointer (some ⟨tp k,0,none⟩)]) w4:=hen;have HTH:=lH (HTG.out k nd hk);have HK:=lH hk;have HLS:=lH hls;have p2:w4.cell? ⟨tp k,2,none⟩=some (.bool nd.dir):=by
    obtain ⟨vin,kx⟩:=(HTG.out k nd hk).cells;rw [cell_at (M4.out.step.fr.block_of kx (fun e=>e))];rfl
   have KC4:=lH M4.out.cs;have hlt4:=lt_of_block M4.out.cs;have HSZ4:Hid (w4.heap.size=wr.heap.size):=lH hs4;have hsz4:w.heap.size+3≤w4.heap.size:=(by omega)
   have HEND:Hid (∀(wE:World) (yb:Nat) (oE:Nat→Nat),Step (fun _=>False) w4 oj wE oE→Step (fun _=>False) w o wE oE→ThingAt wE oE K' k yb nd (kidN T k) (kidm T k)→Fr No w4 wE→∃w5,(Instr.mapUpdate 130 (.map (some w.heap.size)) (.int .i64 k) (.pointer (some ⟨yb,0,none⟩))).run Tryz.prog wE=.ok () w5∧Hid (∃(left:Int→Bool) (cnt:Nat) (oj tp':Nat→Nat),Hid (RangeAt encI w5 mb (w.heap.size+2) (things T) (thm T tp) left cnt)∧Hid (TrMid w o T K' (w.heap.size+1) w.heap.size (w.heap.size+2) w5 left oj tp')∧Hid (∃c,c+cnt≤129∧MapAt encI w5 w.heap.size c (gone left (thm T tp')))∧w.heap.size+3≤w5.heap.size)∧Hid (w5.rangeLeft mb (w.heap.size+2)<wr.rangeLeft mb (w.heap.size+2))):=lH (by
    intro wE yb oE sE sW hth fE;have ME:=M4.out.steps sE sW (fun c e=>e.elim) (by omega);obtain ⟨c,hc,hmE⟩:∃c,c+cnt≤129∧MapAt encI wE w.heap.size c (gone left (thm T tp')):=by
     obtain ⟨c,h1,h2⟩:=C4.out;exact ⟨c,h1,h2.fr fE id⟩
    obtain ⟨w5,hu,M5,f5,c5,hc5,hm5⟩:=ME.put HK.out hk8 HLS.out hth ⟨c,Nat.le_refl _,hmE⟩ (by omega);have RE:=(R4.out.fr fE id id).fr f5 (by omega) (by omega);have hz:=fE.size;have hz5:=f5.size;exact ⟨w5,hu,lH ⟨_,cnt',oE,_,lH RE,lH M5,lH ⟨c5,by omega,hm5⟩,by omega⟩,lH (by rw [RE.left_eq,HLE.out];exact hlt')⟩)
   clear hnx hen hra' f4 hms hls s4 HMI HCN HRA hs4 hlt';obtain ⟨up,nm,dir⟩:=nd;dsimp only at p2;cases dir with
   | false=>
    have kx:w.heap[tp k]? =some (.cells #[.int .i64 up,.string (ba nm),.bool false,.map none] 141 (0,0)):=HTH.out.2;have KX4:=lH (M4.out.step.fr.block_of kx (fun e=>e));have pA:∀o,(w4.alloc o).cell? ⟨tp k,2,none⟩=some (.bool false):=fun o=>((Fr.refl (S:=No) w4).alloc o).cell_of p2 id;have fE:Fr No w4 (w4.alloc (.cells #[.int .i64 up,.string (ba nm),.bool false,.map none] 141)):=(Fr.refl w4).alloc _;have kE:=new_at w4 (.cells #[.int .i64 up,.string (ba nm),.bool false,.map none] 141);have cE:(w4.alloc (.cells #[.int .i64 up,.string (ba nm),.bool false,.map none] 141)).cell? ⟨w.heap.size+1,0,none⟩=some (.map (some w.heap.size)):=(by rw [cell_at (fE.block_of KC4.out id)];rfl)
    obtain ⟨w5,hu,HREL,HME⟩:=HEND.out _ w4.heap.size (paint oj w4.heap.size (K'+1000+k)) ((Step.no (C:=fun _=>False) M4.out.step.fresh fE).painted (Nat.le_refl _) (lt_of_block kE)) ((M4.out.step.frNo fE).painted (by omega) (lt_of_block kE)) ⟨paint_same _ _ _,kE⟩ fE;clear kx fE kE;go_wp2_with (refine wpList_load_row rfl 141 (.tmp 26) rfl (tp k) rfl 141 _ (0,0) _ KX4.out Tryz.underlying141 rfl Tryz.size141 ?_);go_roundw
    case rel=>exact HREL.out
    case measure=>exact HME.out
   | true=>
    obtain ⟨ib,_,kx,hin⟩:∃ib,o ib=K+2000+k∧w.heap[tp k]? =some (.cells #[.int .i64 up,.string (ba nm),.bool true,.map (some ib)] 141 (0,0))∧MapAt encS w ib (kidN T k) (kidm T k):=HTH.out.2;have KX4:=lH (M4.out.step.fr.block_of kx (fun e=>e));have pA:∀o,(w4.alloc o).cell? ⟨tp k,2,none⟩=some (.bool true):=fun o=>((Fr.refl (S:=No) w4).alloc o).cell_of p2 id;have fE:Fr No w4 ((w4.alloc (.cells #[.int .i64 up,.string (ba nm),.bool true,.map (some (w4.heap.size+1))] 141)).alloc (.map #[] 0)):=((Fr.refl w4).alloc _).alloc _;have kE:((w4.alloc (.cells #[.int .i64 up,.string (ba nm),.bool true,.map (some (w4.heap.size+1))] 141)).alloc (.map #[] 0)).heap[w4.heap.size]? =some (.cells #[.int .i64 up,.string (ba nm),.bool true,.map (some (w4.heap.size+1))] 141 (0,0)):=((Fr.refl (S:=No) _).alloc _).block_of (new_at w4 _) id;have mE:MapAt encS ((w4.alloc (.cells #[.int .i64 up,.string (ba nm),.bool true,.map (some (w4.heap.size+1))] 141)).alloc (.map #[] 0)) (w4.heap.size+1) 0 (fun _=>none):=by
     have:=MapAt.made encS (w4.alloc (.cells #[.int .i64 up,.string (ba nm),.bool true,.map (some (w4.heap.size+1))] 141));rwa [heap_size_alloc] at this
    have hinE:=(hin.fr M4.out.step.fr (fun e=>e)).fr fE id;have hsE:((w4.alloc (.cells #[.int .i64 up,.string (ba nm),.bool true,.map (some (w4.heap.size+1))] 141)).alloc (.map #[] 0)).heap.size=w4.heap.size+2:=(by simp)
    have p3:((w4.alloc (.cells #[.int .i64 up,.string (ba nm),.bool true,.map (some (w4.heap.size+1))] 141)).alloc (.map #[] 0)).cell? ⟨tp k,3,none⟩=some (.map (some ib)):=(by rw [cell_at (fE.block_of KX4.out id)];rfl)
    have hilt:ib<w4.heap.size:=(hin.fr M4.out.step.fr (fun e=>e)).lt;obtain ⟨wi,hr2,R2,f2,hs2⟩:=hinE.range (t:=139) (e:=3) Tryz.underlying139;rw [hsE] at hr2 R2 hs2;have FI:=lH (fE.trans f2 (fun _ _ e=>e));have KI:=lH (f2.block_of kE id);have MI:Hid (MapAt encS wi (w4.heap.size+1) 0 (gone (fun x=>(kidm T k x).isSome) (kidm T k))):=lH (by rw [gone_start];exact mE.fr f2 id);have RI:=lH R2;have HIN:=lH hin;have HS2:=lH hs2;clear kx hin fE kE mE hinE hsE R2 f2 hs2;go_wp2_with (refine wpList_load_row rfl 141 (.tmp 26) rfl (tp k) rfl 141 _ (0,0) _ KX4.out Tryz.underlying141 rfl Tryz.size141 ?_);obtain ⟨wo,rfl⟩:∃wo:World,wo=wr:=⟨_,rfl⟩
    have hkn:kidN T k≤129:=by
     unfold kidN;exact Nat.le_trans List.countP_le_length (by simp)
    go_loopw [] (fun wr=>∃(left2:ByteArray→Bool) (cnt2:Nat),Hid (RangeAt encS wr ib (w4.heap.size+2) (kidN T k) (kidm T k) left2 cnt2)∧Hid (∃c2,c2+cnt2≤kidN T k∧MapAt encS wr (w4.heap.size+1) c2 (gone left2 (kidm T k)))∧Hid (wr.heap[w4.heap.size]? =some (.cells #[.int .i64 up,.string (ba nm),.bool true,.map (some (w4.heap.size+1))] 141 (0,0)))∧Hid (Fr No w4 wr)∧w4.heap.size+3≤wr.heap.size) (fun wr=>wr.rangeLeft ib (w4.heap.size+2))
    case atStart=>exact ⟨_,_,RI,lH ⟨0,by omega,MI.out⟩,KI,FI,by have:=HS2.out;omega⟩
    case round=>
     obtain ⟨left2,cnt2,HRB,HCB,HKB,HFB,hszb⟩:=hrel;rcases HRB.out.next 0 with ⟨_,hno2,hnx2⟩|⟨s,kk,w6,cnt3,hms2,hls2,hnx2,hra2,hlt2,f6,hs6,hen2⟩
     ·have mfin:MapAt encS wr (w4.heap.size+1) (kidN T k) (kidm T k):=by
       obtain ⟨c2,_,hm2⟩:=HCB.out;rw [gone_end (E:=encS) (fun z u hz=>(HIN.out.good hz).1) hno2] at hm2;rw [← MapAt.count_eq (t:=139) (e:=3) Tryz.underlying139 _ _ HIN.out hm2 (fun _=>rfl)] at hm2;exact hm2
      have hlb:=lt_of_block HKB.out;have hmb2:=mfin.lt;have cE:wr.cell? ⟨w.heap.size+1,0,none⟩=some (.map (some w.heap.size)):=(by rw [cell_at (HFB.out.block_of KC4.out id)];rfl)
      obtain ⟨w5,hu,HREL,HME⟩:=HEND.out wr w4.heap.size (paint (paint oj (w4.heap.size+1) (K'+2000+k)) w4.heap.size (K'+1000+k))
       (((Step.no (C:=fun _=>False) M4.out.step.fresh HFB.out).painted (b:=w4.heap.size+1) (c:=K'+2000+k) (by omega) hmb2).painted (Nat.le_refl _) hlb)
       (((M4.out.step.frNo HFB.out).painted (b:=w4.heap.size+1) (c:=K'+2000+k) (by omega) hmb2).painted (by omega) hlb)
       ⟨paint_same _ _ _,w4.heap.size+1,by rw [paint_other _ _ (by omega),paint_same],HKB.out,mfin⟩ HFB.out
      clear hno2 mfin;go_wp2_with fail;go_roundw
      case rel=>exact HREL.out
      case measure=>exact HME.out
     ·obtain ⟨c2,hc2,hm2⟩:=HCB.out;have hgs:=(HIN.out.good hms2).1;obtain ⟨w8,hu8,m8,f8⟩:=(hm2.fr f6 (by omega)).put s kk hgs trivial (by omega) (t:=139) (e:=3) Tryz.underlying139;have e8:gone left2 (kidm T k) s=none:=if_pos hls2;rw [e8,gone_next hms2 (kidm T k) hms2 (fun _ _=>rfl)] at m8;have k6:=f6.block_of HKB.out (by omega);have c3:w6.cell? ⟨w4.heap.size,3,none⟩=some (.map (some (w4.heap.size+1))):=(by rw [cell_at k6];rfl)
      have hnx2':(Instr.next (.pointer (some ⟨w4.heap.size+2,0,none⟩)) false 0).run Tryz.prog wr=.ok (.tuple #[.bool true,.string s,.int .i64 kk]) w6:=hnx2;have hen2':(Instr.entry (.pointer (some ⟨w4.heap.size+2,0,none⟩))).run Tryz.prog w6=.ok (.tuple #[.string s,.int .i64 kk]) w6:=hen2;have hu8':(Instr.mapUpdate 139 (.map (some (w4.heap.size+1))) (.string s) (.int .i64 kk)).run Tryz.prog w6=.ok () w8:=hu8;have R8:=lH (hra2.fr f8 (by omega) (by omega));have K8:=lH (f8.block_of k6 (by omega));have F8:Hid (Fr No w4 w8):=lH ((HFB.out.trans f6 (fun j hj e=>by omega)).trans f8 (fun j hj e=>by omega));have M8:=lH m8;have HLE2:Hid (wr.rangeLeft ib (w4.heap.size+2)=cnt2):=lH HRB.out.left_eq;have HLT2:=lH hlt2;have hs8:w4.heap.size+3≤w8.heap.size:=Nat.le_trans hszb (Nat.le_trans f6.size f8.size);simp only [Option.isSome_none,Bool.false_eq_true,if_false] at M8;clear hnx2 hen2 hu8 hra2 hlt2 f6 f8 hm2 m8 k6 hs6 hms2 hls2;go_wp2_with fail;go_roundw
      case rel=>exact ⟨_,cnt3,R8,lH ⟨c2+1,by have:=HLT2.out;omega,M8.out⟩,K8,F8,hs8⟩
      case measure=>
       rw [R8.out.left_eq,HLE2.out];exact HLT2.out
theorem gtree_ (o:Nat→Nat) (K K' n:Nat) (L:Plc) (S:St) (w:World) (h:StateAt w o K L S n) (ok:StOk S) (hf:Fresh w o):Calls Tryz.prog 31 #[.pointer (some ⟨L.s,0,none⟩)] w (TrClonePost w o K' S.T):=by
 have HMD:=lH (gmade_ o K n L S w h);have c9:w.cell? ⟨L.s,9,none⟩=some (.pointer (some ⟨L.tr,0,none⟩)):=h.cell 9;have H2:=lH (gtclone_ o K K' L.tr S.T w h.tree ok.tree hf);unfold TrClonePost at*;clear h hf;go_enter Tryz.func31,Tryz.ntmps31;go_wp2_with fail;refine HMD.out.mono ?_;rintro e w1 ⟨rfl,hw⟩;have hw':=hw.symm;subst hw';go_wp2_with fail;refine H2.out.mono ?_;rintro e w2 ⟨t',o',rfl,s',t2⟩;go_wp2_with fail
 go_ret
 exact ⟨t',o',rfl,s',t2⟩
def Pruned (T0 T:Tree):Prop:=∀k,T k=T0 k∨(T k=none∧∃x,T0 k=some x∧x.dir=false)
theorem Pruned.refl (T:Tree):Pruned T T:=fun _=> .inl rfl
theorem Pruned.sub {T0 T:Tree} (h:Pruned T0 T) {k:Nat} {x:Node} (hx:T k=some x):T0 k=some x:=by
 rcases h k with e|⟨e,_⟩
 ·rw [← e];exact hx
 ·rw [e] at hx;cases hx
theorem Pruned.dir {T0 T:Tree} (h:Pruned T0 T) {k:Nat} {x:Node} (hx:T0 k=some x) (hd:x.dir=true):T k=some x:=by
 rcases h k with e|⟨_,y,hy,hn⟩
 ·rw [e];exact hx
 ·rw [hx] at hy;cases hy;rw [hd] at hn;cases hn
theorem Pruned.trans {T0 T1 T2:Tree} (h:Pruned T0 T1) (g:Pruned T1 T2):Pruned T0 T2:=fun k=>by
 rcases g k with e|⟨e,x,hx,hd⟩
 ·rcases h k with e'|⟨e',h'⟩
  ·exact .inl (e.trans e')
  ·exact .inr ⟨e.trans e',h'⟩
 ·exact .inr ⟨e,x,h.sub hx,hd⟩
theorem Pruned.less {T0 T:Tree} (h:Pruned T0 T) {j:Nat} {x:Node} (hj:T j=some x) (hd:x.dir=false):Pruned T0 (shrunk T j):=fun k=>by
 by_cases e:k=j
 ·subst e;exact .inr ⟨upd_same _ _ _,x,h.sub hj,hd⟩
 ·unfold shrunk;rw [upd_other _ _ e];exact h k
theorem Pruned.kids {T0 T:Tree} (h:Pruned T0 T) (k:Nat):kidN T k≤kidN T0 k:=by
 unfold kidN;refine List.countP_mono_left (fun j _ hj=> ?_);cases hx:T j with
 | none=>rw [hx] at hj;cases hj
 | some x=>
  rw [hx] at hj;rw [h.sub hx];exact hj
theorem walk_dirs {T:Tree}:∀(ns:List (List UInt8)) (k j:Nat) (x:Node),walkOf T k ns=(0,j)→T j=some x→x.dir=true→∃y,T k=some y∧y.dir=true
 | [],k,j,x,h,hx,hd=>by
  simp only [walkOf,Prod.mk.injEq,true_and] at h;subst h;exact ⟨x,hx,hd⟩
 | s::r,k,j,x,h,hx,hd=>by
  simp only [walkOf] at h;cases hk:T k with
  | none=>rw [hk] at h;cases h
  | some y=>
   rw [hk] at h;dsimp only at h;split at h
   ·rename_i hy
    exact ⟨y,rfl,hy⟩
   ·cases h
theorem walk_pruned {T0 T:Tree} (ok:TreeOk T) (p:Pruned T0 T):∀(ns:List (List UInt8)) (k j:Nat) (x:Node),walkOf T0 k ns=(0,j)→T0 j=some x→x.dir=true→walkOf T k ns=(0,j)
 | [],k,j,x,h,hx,hd=>h
 | s::r,k,j,x,h,hx,hd=>by
  obtain ⟨y,hy,hyd⟩:=walk_dirs (s::r) k j x h hx hd;simp only [walkOf] at h ⊢;rw [hy] at h;rw [p.dir hy hyd];dsimp only at h ⊢;rw [if_pos hyd] at h ⊢;cases hj:kid T0 k s with
  | none=>rw [hj] at h;cases h
  | some i=>
   rw [hj] at h;dsimp only at h;obtain ⟨z,hz,hzd⟩:=walk_dirs r i j x h hx hd;obtain ⟨z',hz1,hz2,hz3⟩:=kid_some hj;rw [hz] at hz1;cases hz1;rw [kid_of ok (p.dir hz hzd) hz2 hz3];exact walk_pruned ok p r i j x h hx hd
def Entry (T:Tree) (l:List UInt8) (k:Nat):Prop:=∃ns:List (List UInt8),l=joinOf ns∧(∀s∈ns,okName s=true)∧ns.length≤9∧walkOf T 1 ns=(0,k)∧∃x,T k=some x∧x.dir=true
theorem splitR_long:∀(n:Nat) (ps:List (List UInt8)),(∀x∈ps,okName x=true)→n<ps.length→splitR n (Lib.joinTail [47] ps)=none
 | 0, [],_,hn=>by simp at hn
 | 0,x::r,_,_=>by
  have e:Lib.joinTail [47] (x::r)=47::(x++Lib.joinTail [47] r):=by simp [Lib.joinTail]
  rw [e];rfl
 | n+1, [],_,hn=>by simp at hn
 | n+1,x::r,h,hn=>by
  have hx:=okName_no x (h x (by simp));have e:Lib.joinTail [47] (x::r)=47::(x++Lib.joinTail [47] r):=by simp [Lib.joinTail]
  have a1:∀k,k<x.length→(x++Lib.joinTail [47] r)[k]? ≠some 47:=fun k hk=>by
   rw [List.getElem?_append_left hk];exact hx.1 k
  have a2:(x++Lib.joinTail [47] r)[x.length]? =some 47∨x.length=(x++Lib.joinTail [47] r).length:=by
   rcases r with _|⟨y,r⟩
   ·right;simp [Lib.joinTail]
   ·left;rw [List.getElem?_append_right (Nat.le_refl _)];simp [Lib.joinTail]
  have a3:okName ((x++Lib.joinTail [47] r).take x.length)=true:=by
   rw [List.take_left];exact h x (by simp)
  rw [e,split_step n _ x.length a1 a2 a3,List.drop_left,List.take_left,splitR_long n r (fun y hy=>h y (by simp [hy])) (by simp at hn;omega)];rfl
theorem joinOf_ne {ns:List (List UInt8)} (h:∀s∈ns,okName s=true) (h0:ns≠ []):joinOf ns≠ [47]∧joinOf ns≠ []:=by
 rcases ns with _|⟨x,r⟩
 ·exact absurd rfl h0
 ·have hx:=okName_no x (h x (by simp));have e:Lib.joinTail [47] (x::r)=47::(x++Lib.joinTail [47] r):=by simp [Lib.joinTail]
  rw [joinOf_cons,e];rcases x with _|⟨a,x⟩
  ·simp at hx
  ·simp
theorem pathOf_long (ps:List (List UInt8)) (h:∀x∈ps,okName x=true) (hn:8<ps.length):pathOf (joinOf ps)=none:=by
 have h0:ps≠ []:=fun e=>by rw [e] at hn;simp at hn
 obtain ⟨h1,h2⟩:=joinOf_ne h h0;unfold pathOf;rw [if_neg h1,if_neg h2];rcases ps with _|⟨x,r⟩
 ·exact absurd rfl h0
 ·rw [joinOf_cons];exact splitR_long 8 _ h hn
def subP (l nm:List UInt8):List UInt8:=if l= [47] then 47::nm else l++47::nm
theorem subP_join {ns:List (List UInt8)} (h:∀s∈ns,okName s=true) (nm:List UInt8):subP (joinOf ns) nm=joinOf (ns++ [nm]):=by
 unfold subP;rcases ns with _|⟨x,r⟩
 ·rw [if_pos (show joinOf []= [47] from rfl),List.nil_append,joinOf_cons];simp [Lib.joinTail]
 ·rw [if_neg (joinOf_ne h (by simp)).1,List.cons_append,joinOf_cons,joinOf_cons];simp [Lib.joinTail]
theorem joinOf_short {ns:List (List UInt8)} (h:∀s∈ns,okName s=true) (hn:ns.length≤10):(joinOf ns).length≤130:=by
 rcases ns with _|⟨x,r⟩
 ·decide
 ·rw [joinOf_cons];have:=joinTail_len (x::r) h;omega
theorem Entry.short {T:Tree} {l:List UInt8} {k:Nat} (h:Entry T l k):l.length≤130:=by
 obtain ⟨ns,rfl,h1,h2,_⟩:=h;exact joinOf_short h1 (by omega)
structure Listing (T0 T:Tree) (l:List UInt8) (k:Nat) (E:List Ent):Prop where
 ent:∀(i:Nat) (e:Ent),E[i]? =some e→∃(j:Nat) (x:Node),e=(ba x.name,((j:Nat):Int),x.dir)∧T j=some x∧x.up=k∧j≠1
 one:∀(i i':Nat) (e e':Ent),i≠i'→E[i]? =some e→E[i']? =some e'→e.2.1≠e'.2.1
 few:E.length≤kidN T k
 path:E≠ []→∃ns:List (List UInt8),l=joinOf ns∧(∀s∈ns,okName s=true)∧ns.length≤8∧walkOf T0 1 ns=(0,k)
theorem ents_all {T:Tree} (ok:TreeOk T) (k:Nat) (hk:∃x,T k=some x):(∀(i:Nat) (e:Ent),(entsOf T k)[i]? =some e→∃(j:Nat) (x:Node),e=(ba x.name,((j:Nat):Int),x.dir)∧T j=some x∧x.up=k∧j≠1)∧(∀(i i':Nat) (e e':Ent),i≠i'→(entsOf T k)[i]? =some e→(entsOf T k)[i']? =some e'→e.2.1≠e'.2.1)∧(entsOf T k).length≤kidN T k:=by
 have hent:∀s,s∈(dirNames T k).mergeSort nameLe→∃j x,entOf T k s=(ba x.name,((j:Nat):Int),x.dir)∧T j=some x∧x.up=k∧j≠1∧s=ba x.name:=fun s hs=>by
  have h1:s∈dirNames T k:=((List.mergeSort_perm _ _).mem_iff).1 hs;have h2:=(mem_dirNames ok k s).1 h1;unfold kidm at h2;cases hj:kid T k s.data.toList with
  | none=>rw [hj] at h2;cases h2
  | some j=>
   obtain ⟨x,hx,hu,hn⟩:=kid_some hj;have e:s=ba x.name:=(by rw [hn,ba_of])
   refine ⟨j,x,?_,hx,hu,fun e1=> ?_,e⟩
   ·unfold entOf;rw [hj,Option.getD_some,← e];unfold isDir;rw [hx]
   ·rw [e1,ok.root] at hx;cases hx;dsimp only at hu;obtain ⟨y,hy⟩:=hk;rw [← hu,ok.zero] at hy;cases hy
 have hget:∀(i:Nat) (e:Ent),(entsOf T k)[i]? =some e→∃s,((dirNames T k).mergeSort nameLe)[i]? =some s∧e=entOf T k s:=fun i e h=>by
  unfold entsOf at h;rw [List.getElem?_map] at h;cases hs:((dirNames T k).mergeSort nameLe)[i]? with
  | none=>rw [hs] at h;cases h
  | some s=>
   rw [hs] at h;exact ⟨s,rfl,(Option.some.inj h).symm⟩
 refine ⟨fun i e h=> ?_,fun i i' e e' hi h h' he=> ?_,?_⟩
 ·obtain ⟨s,hs,rfl⟩:=hget i e h;obtain ⟨j,x,a1,a2,a3,a4,_⟩:=hent s (List.mem_of_getElem? hs);exact ⟨j,x,a1,a2,a3,a4⟩
 ·obtain ⟨s,hs,rfl⟩:=hget i e h;obtain ⟨s',hs',rfl⟩:=hget i' e' h';obtain ⟨j,x,a1,a2,a3,a4,a5⟩:=hent s (List.mem_of_getElem? hs);obtain ⟨j',x',b1,b2,b3,b4,b5⟩:=hent s' (List.mem_of_getElem? hs');rw [a1,b1] at he;dsimp only at he;have ej:j=j':=by omega
  subst ej;rw [a2] at b2;cases b2;have es:s=s':=by rw [a5,b5]
  subst es;have hn:((dirNames T k).mergeSort nameLe).Nodup:=((List.mergeSort_perm _ _).nodup_iff).2 (nodup_dirNames ok k);obtain ⟨q,eq⟩:=List.getElem?_eq_some_iff.1 hs;obtain ⟨q',eq'⟩:=List.getElem?_eq_some_iff.1 hs';have hpw:=List.pairwise_iff_getElem.1 hn;rcases Nat.lt_or_gt_of_ne hi with hlt|hlt
  ·exact hpw i i' q q' hlt (eq.trans eq'.symm)
  ·exact hpw i' i q' q hlt (eq'.trans eq.symm)
 ·unfold entsOf;rw [List.length_map,List.length_mergeSort,length_dirNames];exact Nat.le_refl _
theorem list_entry {T0 T:Tree} (ok:TreeOk T) (pr:Pruned T0 T) {l:List UInt8} {k:Nat} (e:Entry T0 l k):Listing T0 T l k (listOf T l).2:=by
 obtain ⟨ns,rfl,h1,h2,h3,x,hx,hd⟩:=e;have nothing:Listing T0 T (joinOf ns) k []:=⟨fun i e h=>by simp at h,fun i i' e e' _ h=>by simp at h,Nat.zero_le _,fun h=>absurd rfl h⟩
 by_cases hn:ns.length≤8
 ·have hl:lookOf T (joinOf ns)=(0,k,true):=by
   unfold lookOf;rw [pathOf_join ns h1 hn];dsimp only;unfold seen;rw [walk_pruned ok pr ns 1 k x h3 hx hd];dsimp only;rw [if_pos rfl];unfold isDir;rw [pr.dir hx hd];dsimp only;rw [hd]
  have e2:(listOf T (joinOf ns)).2=entsOf T k:=by
   unfold listOf;rw [hl];dsimp only;rw [if_neg (by simp),if_neg (by simp)]
  rw [e2];obtain ⟨a1,a2,a3⟩:=ents_all ok k ⟨x,pr.dir hx hd⟩;exact ⟨a1,a2,a3,fun _=>⟨ns,rfl,h1,hn,h3⟩⟩
 ·have hl:lookOf T (joinOf ns)=(12,0,false):=by
   unfold lookOf;rw [pathOf_long ns h1 (by omega)]
  have e2:(listOf T (joinOf ns)).2= []:=by
   unfold listOf;rw [hl];dsimp only;rw [if_pos (by decide)]
  rw [e2];exact nothing
theorem entry_dir {T0 T:Tree} (ok:TreeOk T0) (pr:Pruned T0 T) {l:List UInt8} {k:Nat} {E:List Ent} (h:Listing T0 T l k E) (hk:∃x,T0 k=some x∧x.dir=true) {i:Nat} {e:Ent} (he:E[i]? =some e) (hd:e.2.2=true):Entry T0 (subP l e.1.data.toList) e.2.1.toNat:=by
 obtain ⟨ns,rfl,h1,h2,h3⟩:=h.path (fun e0=>by rw [e0] at he;simp at he);obtain ⟨j,x,rfl,a2,a3,a4⟩:=h.ent i e he;obtain ⟨y,hy,hyd⟩:=hk;dsimp only at hd;have hx0:=pr.sub a2;have hokn:=ok.name j x hx0 a4;have hall:∀s∈ns++ [x.name],okName s=true:=fun s hs=>by
  rcases List.mem_append.1 hs with hs|hs
  ·exact h1 s hs
  ·rw [List.mem_singleton.1 hs];exact hokn
 refine ⟨ns++ [x.name],?_,hall,by simp;omega,?_,x,?_,hd⟩
 ·dsimp only;rw [ba_list,subP_join h1]
 ·rw [walk_snoc,h3];dsimp only;rw [if_pos rfl];simp only [walkOf];rw [hy];dsimp only;rw [if_pos hyd,kid_of ok hx0 a3 rfl];rfl
 ·exact hx0
structure Inner (T1:Tree) (E:List Ent) (i:Nat) (T:Tree):Prop where
 pr:Pruned T1 T
 rest:∀(i':Nat) (e:Ent),i≤i'→E[i']? =some e→T e.2.1.toNat=T1 e.2.1.toNat
theorem look_file {T0 T1 T:Tree} (ok:TreeOk T) (pr:Pruned T0 T1) {l:List UInt8} {k:Nat} {E:List Ent} (h:Listing T0 T1 l k E) (hk:∃x,T0 k=some x∧x.dir=true) {i:Nat} (hi:Inner T1 E i T) {e:Ent} (he:E[i]? =some e) (hd:e.2.2=false):
  (lookOf T (subP l e.1.data.toList)=(12,0,false)∨lookOf T (subP l e.1.data.toList)=(0,e.2.1.toNat,false))∧e.2.1.toNat≠1∧∃x,T e.2.1.toNat=some x∧x.dir=false:=by
 obtain ⟨ns,rfl,h1,h2,h3⟩:=h.path (fun e0=>by rw [e0] at he;simp at he);have hr:=hi.rest i e (Nat.le_refl _) he;obtain ⟨j,x,rfl,a2,a3,a4⟩:=h.ent i e he;obtain ⟨y,hy,hyd⟩:=hk;dsimp only at hd hr ⊢;rw [Int.toNat_natCast] at hr ⊢;rw [a2] at hr;have hokn:=ok.name j x hr a4;have hall:∀s∈ns++ [x.name],okName s=true:=fun s hs=>by
  rcases List.mem_append.1 hs with hs|hs
  ·exact h1 s hs
  ·rw [List.mem_singleton.1 hs];exact hokn
 refine ⟨?_,a4,x,hr,hd⟩;rw [ba_list,subP_join h1];by_cases hn:(ns++ [x.name]).length≤8
 ·right;unfold lookOf;rw [pathOf_join _ hall hn];dsimp only;unfold seen;have hw:=walk_pruned ok (pr.trans hi.pr) ns 1 k y h3 hy hyd;have hk':=(pr.trans hi.pr).dir hy hyd;have hw2:walkOf T 1 (ns++ [x.name])=(0,j):=by
   rw [walk_snoc,hw];dsimp only;rw [if_pos rfl];simp only [walkOf];rw [hk'];dsimp only;rw [if_pos hyd,kid_of ok hr a3 rfl]
  rw [hw2];dsimp only;rw [if_pos rfl];unfold isDir;rw [hr];dsimp only;rw [hd]
 ·left;unfold lookOf;rw [pathOf_long _ hall (by omega)]
theorem Inner.skip {T1 T:Tree} {E:List Ent} {i:Nat} (h:Inner T1 E i T):Inner T1 E (i+1) T:=⟨h.pr,fun i' e hi he=>h.rest i' e (by omega) he⟩
theorem Inner.less {T0 T1 T:Tree} {l:List UInt8} {k:Nat} {E:List Ent} {i:Nat} (h:Inner T1 E i T) (hl:Listing T0 T1 l k E) {e:Ent} (he:E[i]? =some e) {x:Node} (hx:T e.2.1.toNat=some x) (hd:x.dir=false):Inner T1 E (i+1) (shrunk T e.2.1.toNat):=
 ⟨h.pr.less hx hd,fun i' e' hi he'=>by
  have hne:=hl.one i i' e e' (by omega) he he';obtain ⟨j,y,rfl,_⟩:=hl.ent i e he;obtain ⟨j',y',rfl,_⟩:=hl.ent i' e' he';unfold shrunk;rw [upd_other _ _ (by dsimp only at hne ⊢;omega)];exact h.rest i' _ (by omega) he'⟩
theorem did_remove {S:St} {r:Req} {x:RepS×St} {kd:Int} {j:Nat} (hd:Did S r [] [] x) (hk:r.kind=2) (hdir:r.dir=false) (hkd:kd=0∨kd=3) (ha:askOf S.W r.c r.l r.q=(kd,none)) (h1:j≠1) (hl:lookOf S.T r.path=(12,0,false)∨lookOf S.T r.path=(0,j,false)):
  (x.1.e=0∨x.1.e=8∨x.1.e=12)∧(x.2.T=S.T∨x.2.T=shrunk S.T j)∧∃bs,x.2.W r.c.toNat=some (r.l,r.q,bs):=by
 unfold Did at hd;rw [if_neg (by omega),if_neg (by omega),if_neg (by omega),if_neg (by omega),ha] at hd;dsimp only at hd;rw [if_neg (by omega),if_neg (by omega)] at hd;have hBT:(askB S r.c.toNat kd).T=S.T:=by unfold askB;split<;>rfl
 have hB:deedF r [] [] r.kind (askB S r.c.toNat kd)=removeD (askB S r.c.toNat kd) r:=by
  rw [hk];unfold deedF;rw [if_neg (by decide),if_pos rfl]
 rw [hB] at hd;generalize askB S r.c.toNat kd=B at*;refine ⟨?_,?_,?_⟩
 ·rw [hd];unfold tell askedS;dsimp only;unfold withSw;dsimp only;unfold triedOf removeD removeOf;rw [hBT];rcases hl with hl|hl
  ·rw [hl];simp [plainRep]
  ·rw [hl];by_cases hm:mayRemove B r
   ·simp [plainRep,hm,h1,hdir]
   ·simp [plainRep,hm]
 ·rw [hd];unfold tell askedS;dsimp only;rw [triedOf_st];unfold removeD removeS removedT removeOf;rw [hBT];rcases hl with hl|hl
  ·rw [hl];simp [hBT]
  ·rw [hl];by_cases hm:mayRemove B r
   ·simp [hm,h1,hdir]
   ·simp [hm,hBT]
 ·rw [hd];unfold tell askedS;dsimp only;rw [upd_same];exact ⟨_,rfl⟩
theorem Inner.did {S:St} {r:Req} {x:RepS×St} {kd:Int} {T0 T1:Tree} {l:List UInt8} {k:Nat} {E:List Ent} {i:Nat} {e:Ent} (ok:TreeOk S.T) (pr:Pruned T0 T1) (hL:Listing T0 T1 l k E) (hk:∃x,T0 k=some x∧x.dir=true) (hi:Inner T1 E i S.T) (he:E[i]? =some e) (hde:e.2.2=false)
  (hd:Did S r [] [] x) (hkind:r.kind=2) (hdir:r.dir=false) (hp:r.path=subP l e.1.data.toList) (hkd:kd=0∨kd=3) (ha:askOf S.W r.c r.l r.q=(kd,none)):
  (x.1.e=0∨x.1.e=8∨x.1.e=12)∧Inner T1 E (i+1) x.2.T∧∃bs,x.2.W r.c.toNat=some (r.l,r.q,bs):=by
 obtain ⟨h1,h2,y,hy,hyd⟩:=look_file ok pr hL hk hi he hde;rw [← hp] at h1;obtain ⟨a1,a2,a3⟩:=did_remove hd hkind hdir hkd ha h2 h1;refine ⟨a1,?_,a3⟩;rcases a2 with a2|a2
 ·rw [a2];exact hi.skip
 ·rw [a2];exact hi.less hL he hy hyd
def subsOf (l:List UInt8) (E:List Ent):List (List UInt8):=(E.filter fun e=>e.2.2).map fun e=>subP l e.1.data.toList
def dirsOf (E:List Ent):List Nat:=(E.filter fun e=>e.2.2).map fun e=>e.2.1.toNat
structure Queue (T0:Tree) (V:List Nat) (Q:List (List UInt8)) (ks:List Nat):Prop where
 nd:(V++ks).Nodup
 up:∀j∈V++ks,j=1∨∃x,T0 j=some x∧x.up∈V
 dir:∀j∈V++ks,∃x,T0 j=some x∧x.dir=true
 len:Q.length=ks.length
 ent:∀(i:Nat) (l:List UInt8) (k:Nat),Q[i]? =some l→ks[i]? =some k→Entry T0 l k
theorem Queue.start {T0:Tree} (ok:TreeOk T0):Queue T0 [] [[47]] [1] where
 nd:=by simp
 up j hj:=.inl (by simpa using hj)
 dir j hj:=by
  rw [show j=1 by simpa using hj];exact ⟨_,ok.root,rfl⟩
 len:=rfl
 ent i l k h1 h2:=by
  rcases i with _|i
  ·simp at h1 h2;subst h1 h2;exact ⟨[],rfl,fun s hs=>by simp at hs,by simp,rfl,_,ok.root,rfl⟩
  ·simp at h1
theorem Queue.next {T0 T:Tree} (ok:TreeOk T0) (pr:Pruned T0 T) {V:List Nat} {Q:List (List UInt8)} {ks:List Nat} {l:List UInt8} {k:Nat} {E:List Ent} (h:Queue T0 V (l::Q) (k::ks)) (hL:Listing T0 T l k E):Queue T0 (V++ [k]) (Q++subsOf l E) (ks++dirsOf E):=by
 have hkk:=h.dir k (by simp);have hkV:k ∉ V:=fun hm=>by
  have:=(List.nodup_append.1 h.nd).2.2 k hm k (by simp);exact this rfl
 have hE:∀j∈dirsOf E,j≠1∧∃x,T0 j=some x∧x.up=k∧x.dir=true:=fun j hj=>by
  unfold dirsOf at hj;obtain ⟨e,he,rfl⟩:=List.mem_map.1 hj;obtain ⟨he1,he2⟩:=List.mem_filter.1 he;obtain ⟨i,hi⟩:=List.getElem?_of_mem he1;obtain ⟨j,x,rfl,a2,a3,a4⟩:=hL.ent i e hi;exact ⟨by simpa using a4,x,by simpa using pr.sub a2,a3,he2⟩
 have hEn:(dirsOf E).Nodup:=by
  have hp:E.Pairwise (fun e e'=>e.2.1≠e'.2.1):=by
   rw [List.pairwise_iff_getElem];intro i i' hi hi' hlt;exact hL.one i i' _ _ (by omega) (List.getElem?_eq_getElem hi) (List.getElem?_eq_getElem hi')
  unfold dirsOf;rw [List.Nodup,List.pairwise_map];refine (hp.filter _).imp_of_mem (fun {e e'} he he' hne heq=>hne ?_);obtain ⟨i,hi⟩:=List.getElem?_of_mem (List.mem_filter.1 he).1;obtain ⟨i',hi'⟩:=List.getElem?_of_mem (List.mem_filter.1 he').1;obtain ⟨j,x,rfl,_⟩:=hL.ent i e hi;obtain ⟨j',x',rfl,_⟩:=hL.ent i' e' hi';dsimp only at heq ⊢;omega
 have hnew:∀j∈dirsOf E,j ∉ V++k::ks:=fun j hj hm=>by
  obtain ⟨b1,x,b2,b3,_⟩:=hE j hj;rcases h.up j hm with e|⟨y,c1,c2⟩
  ·exact b1 e
  ·rw [b2] at c1;cases c1;rw [b3] at c2;exact hkV c2
 have hperm:V++ [k]++(ks++dirsOf E)=(V++k::ks)++dirsOf E:=by simp
 refine ⟨?_,fun j hj=> ?_,fun j hj=> ?_,?_,fun i p q hp hq=> ?_⟩
 ·rw [hperm];exact List.nodup_append.2 ⟨h.nd,hEn,fun a ha b hb e=>hnew b hb (e▸ha)⟩
 ·rw [hperm] at hj;rcases List.mem_append.1 hj with hj|hj
  ·rcases h.up j hj with e|⟨y,c1,c2⟩
   ·exact .inl e
   ·exact .inr ⟨y,c1,List.mem_append_left _ c2⟩
  ·obtain ⟨_,x,b2,b3,_⟩:=hE j hj;exact .inr ⟨x,b2,by rw [b3];simp⟩
 ·rw [hperm] at hj;rcases List.mem_append.1 hj with hj|hj
  ·exact h.dir j hj
  ·obtain ⟨_,x,b2,_,b4⟩:=hE j hj;exact ⟨x,b2,b4⟩
 ·have:=h.len;simp only [List.length_cons] at this;simp only [List.length_append,subsOf,dirsOf,List.length_map];omega
 ·have hlen:Q.length=ks.length:=by
   have:=h.len;simp only [List.length_cons] at this;omega
  by_cases hi:i<Q.length
  ·rw [List.getElem?_append_left hi] at hp;rw [List.getElem?_append_left (by omega)] at hq;exact h.ent (i+1) p q (by simpa using hp) (by simpa using hq)
  ·rw [List.getElem?_append_right (by omega)] at hp;rw [List.getElem?_append_right (by omega)] at hq;rw [hlen] at hp;unfold subsOf at hp;unfold dirsOf at hq;rw [List.getElem?_map] at hp hq;cases he:(E.filter fun e=>e.2.2)[i - ks.length]? with
   | none=>rw [he] at hp;cases hp
   | some e=>
    rw [he] at hp hq;cases hp;cases hq;obtain ⟨he1,he2⟩:=List.mem_filter.1 (List.mem_of_getElem? he);obtain ⟨i',hi'⟩:=List.getElem?_of_mem he1;exact entry_dir ok pr hL hkk hi' he2
theorem Queue.few {T0:Tree} (ok:TreeOk T0) {V:List Nat} {Q:List (List UInt8)} {ks:List Nat} (h:Queue T0 V Q ks):V.length+ks.length≤129:=by
 have h1:(V++ks).length≤(List.range 129).length:=List.Nodup.length_le_of_subset h.nd (fun j hj=>by
  obtain ⟨x,hx,_⟩:=h.dir j hj;exact List.mem_range.2 (by have:=ok.lt hx;omega))
 simpa using h1
def kidSum (T:Tree) (V:List Nat):Nat:=(V.map (kidN T)).sum
theorem kidSum_snoc (T:Tree) (V:List Nat) (k:Nat):kidSum T (V++ [k])=kidSum T V+kidN T k:=by
 unfold kidSum;simp
theorem kidSum_le {T:Tree} {V:List Nat} (h:V.Nodup):kidSum T V≤129:=by
 have key:∀L:List Nat,(V.map fun d=>L.countP fun k=>match T k with|some x=>decide (x.up=d)|none=>false).sum≤L.length:=by
  intro L;induction L with
  | nil=>
   simp only [List.countP_nil,List.length_nil];clear h;induction V with
   | nil=>simp
   | cons a r ih=>simpa using ih
  | cons a r ih=>
   have h1:(V.map fun d=>(a::r).countP fun k=>match T k with|some x=>decide (x.up=d)|none=>false).sum=(V.map fun d=>r.countP fun k=>match T k with|some x=>decide (x.up=d)|none=>false).sum+(V.map fun d=>if (match T a with|some x=>decide (x.up=d)|none=>false)=true then 1 else 0).sum:=by
    clear ih h;induction V with
    | nil=>rfl
    | cons b s ih2=>
     simp only [List.map_cons,List.sum_cons,List.countP_cons] at ih2 ⊢;omega
   have h2:(V.map fun d=>if (match T a with|some x=>decide (x.up=d)|none=>false)=true then 1 else 0).sum≤1:=by
    clear ih h1;cases hx:T a with
    | none=>
     clear h;induction V with
     | nil=>simp
     | cons b s ih2=>simpa using ih2
    | some x=>
     dsimp only;have h3:∀V:List Nat,V.Nodup→(V.map fun d=>if decide (x.up=d)=true then 1 else 0).sum≤1∧(x.up ∉ V→(V.map fun d=>if decide (x.up=d)=true then 1 else 0).sum=0):=by
      intro V;induction V with
      | nil=>intro _;simp
      | cons b s ih2=>
       intro hn;obtain ⟨g1,g2⟩:=List.nodup_cons.1 hn;obtain ⟨i1,i2⟩:=ih2 g2;rw [List.map_cons,List.sum_cons];by_cases e:x.up=b
       ·rw [if_pos (by simpa using e)];have:=i2 (by rw [e];exact g1);exact ⟨by omega,fun hm=>absurd (by rw [e];simp) hm⟩
       ·rw [if_neg (by simpa using e)];exact ⟨by omega,fun hm=>by rw [i2 (fun hm2=>hm (List.mem_cons_of_mem _ hm2))]⟩
     exact (h3 V h).1
   rw [h1,List.length_cons];omega
 have:=key (List.range 129);rw [List.length_range] at this;exact this
def QRow (w:World) (o:Nat→Nat) (C:Nat) (v:Value) (Q:List (List UInt8)):Prop:=
 ∃ao cap,v=.slice ao Q.length cap∧Q.length≤cap∧cap≤maxLen∧(0<cap→∃b off cs,ao=some ⟨b,off,none⟩∧o b=C∧w.heap[b]? =some (.cells cs 9 (0,0))∧off+cap≤cs.size∧∀(j:Nat) (s:List UInt8),Q[j]? =some s→cs[off+j]? =some (.string (ba s)))
theorem QRow.step {D:Nat→Prop} {w w':World} {o o':Nat→Nat} {C:Nat} {v:Value} {Q:List (List UInt8)} (h:QRow w o C v Q) (s:Step D w o w' o') (hD:¬D C):QRow w' o' C v Q:=by
 obtain ⟨ao,cap,e,h1,h2,h3⟩:=h;refine ⟨ao,cap,e,h1,h2,fun hc=> ?_⟩;obtain ⟨b,off,cs,g1,g2,g3,g4,g5⟩:=h3 hc;exact ⟨b,off,cs,g1,(s.own g3).trans g2,s.block g3 (by rw [g2];exact hD),g4,g5⟩
theorem QRow.no {w w':World} {o:Nat→Nat} {C:Nat} {v:Value} {Q:List (List UInt8)} (h:QRow w o C v Q) (hf:Fresh w o) (f:Fr No w w'):QRow w' o C v Q:=h.step (Step.no (C:=fun _=>False) hf f) id
theorem QRow.shape {w:World} {o:Nat→Nat} {C:Nat} {v:Value} {Q:List (List UInt8)} (h:QRow w o C v Q):∃ao cap,v=.slice ao Q.length cap∧Q.length≤cap∧cap≤maxLen:=by
 obtain ⟨ao,cap,e,h1,h2,_⟩:=h;exact ⟨ao,cap,e,h1,h2⟩
theorem QRow.one (w:World) (o:Nat→Nat) (C:Nat) (s:List UInt8) (hf:Fresh w o):
  QRow (w.alloc (.cells #[.string (ba s)] 9)) (paint o w.heap.size C) C (.slice (some ⟨w.heap.size,0,none⟩) 1 1) [s]∧Step (fun _=>False) w o (w.alloc (.cells #[.string (ba s)] 9)) (paint o w.heap.size C):=by
 refine ⟨⟨_,1,rfl,Nat.le_refl _,by decide,fun _=>⟨_,0,_,rfl,paint_same _ _ _,new_at w _,Nat.le_refl _,fun j t h=> ?_⟩⟩,⟨((Fr.refl w).alloc _).of_no,fun k hk=>paint_other _ _ (by omega),fun k hk=> ?_⟩⟩
 ·rcases j with _|j
  ·simp at h;subst h;rfl
  ·simp at h
 ·have hs:(w.alloc (.cells #[.string (ba s)] 9)).heap.size=w.heap.size+1:=heap_size_alloc ..;rw [hs] at hk;rw [paint_other _ _ (by omega)];exact hf k (by omega)
theorem src_str (w:World) (vb:Nat) (p:List UInt8) (hv:w.heap[vb]? =some (.cells #[.string (ba p)] 9 (0,0))):Src Tryz.prog 1 82 (.slice (some ⟨vb,0,none⟩) 1 1) 1 [.string (ba p)] w:=
 Src.ofSlice (size:=1) w (e':=9) Tryz.underlying82 ⟨vb,0,none⟩ 1 1 [.string (ba p)] rfl (fun j u hj=>by
  rw [Addr.add_lit,cell_at hv,Nat.zero_add,← hj];show ([Value.string (ba p)]).toArray[j]? =_;simp) (by simp [Value.oneCell'])
theorem QRow.append {w:World} {o:Nat→Nat} {C:Nat} {v:Value} {Q:List (List UInt8)} (h:QRow w o C v Q) (hf:Fresh w o) (hbig:Q.length≤1000000) (p:List UInt8) (vb:Nat) (hv:w.heap[vb]? =some (.cells #[.string (ba p)] 9 (0,0))):
  ∃v' w' o',(∀ty,(Builtin.append_ #[82,82] ty #[v,.slice (some ⟨vb,0,none⟩) 1 1]).run Tryz.prog w=.ok v' w')∧QRow w' o' C v' (Q++ [p])∧Step (fun c=>c=C) w o w' o':=by
 obtain ⟨ao,cap,rfl,h1,h2,h3⟩:=h;obtain ⟨i0,hi,hz0,hz1,hz2⟩:=info_parts Tryz.info9;by_cases hroom:Q.length<cap
 ·obtain ⟨b,off,cs,rfl,g2,g3,g4,g5⟩:=h3 (by omega);have hrun:∀ty,(Builtin.append_ #[82,82] ty #[.slice (some ⟨b,off,none⟩) Q.length cap,.slice (some ⟨vb,0,none⟩) 1 1]).run Tryz.prog w=.ok (.slice (some ⟨b,off,none⟩) (Q.length+1) cap) (w.setCells b (off+Q.length) [.string (ba p)]):=fun ty=>by
   have:=run_append_room_src w 82 82 ty 9 i0 Tryz.underlying82 hi b off Q.length cap _ 1 [.string (ba p)] (by rw [hz1];exact src_str w vb p hv) hroom (fun j hj=>by
    rw [hz1,Nat.mul_one,cell_at g3,Array.getElem?_eq_getElem (by simp at hj;omega)];rfl) (fun j hj=>frozen_at g3 _)
   rwa [hz1,Nat.mul_one] at this
  have hw:w.setCells b (off+Q.length) [.string (ba p)]=w.setCell ⟨b,off+Q.length,none⟩ (.string (ba p)):=rfl;rw [hw] at hrun;have hb:=setCell_at g3 (off+Q.length) (.string (ba p));have hfr:Fr (fun k=>o k=C) w (w.setCell ⟨b,off+Q.length,none⟩ (.string (ba p))):=Fr.setCell (Fr.refl w) (.inl g2) _;refine ⟨_,_,o,hrun,⟨some ⟨b,off,none⟩,cap,by rw [List.length_append];rfl,by rw [List.length_append];exact hroom,h2,fun _=>⟨b,off,_,rfl,g2,hb,by rw [Array.size_setIfInBounds];exact g4,fun j s hj=> ?_⟩⟩,⟨hfr,fun _ _=>rfl,fun k hk=>hf k (Nat.le_trans hfr.size hk)⟩⟩;by_cases e:j=Q.length
  ·subst e;rw [List.getElem?_append_right (Nat.le_refl _),Nat.sub_self] at hj;cases hj;rw [Array.getElem?_setIfInBounds,if_pos rfl,if_pos (by omega)]
  ·have hlt:j<Q.length:=by
    have:=(List.getElem?_eq_some_iff.1 hj).1;rw [List.length_append,List.length_singleton] at this;omega
   rw [List.getElem?_append_left hlt] at hj;rw [Array.getElem?_setIfInBounds,if_neg (by omega)];exact g5 j s hj
 ·have hcap:cap=Q.length:=by omega
  have hold:(Builtin.firstCells i0.size Q.length (.slice ao Q.length cap)).run Tryz.prog w.drew=.ok (strs Q).toArray w.drew:=by
   rw [hz1];by_cases h0:0<cap
   ·obtain ⟨b,off,cs,rfl,g2,g3,g4,g5⟩:=h3 h0;refine run_firstCells_some w.drew 1 Q.length ⟨b,off,none⟩ Q.length cap (strs Q) (by simp [strs]) (fun j u hj=> ?_);rw [Addr.add_lit];show w.cell? ⟨b,off+j,none⟩=some u;rw [cell_at g3];unfold strs at hj;rw [List.getElem?_map] at hj;cases hq:Q[j]? with
    | none=>rw [hq] at hj;cases hj
    | some s=>
     rw [hq] at hj;cases hj;exact g5 j s hq
   ·have e0:Q= []:=List.eq_nil_of_length_eq_zero (by omega);subst e0;cases ao with
    | none=>exact run_firstCells_none w.drew 1 0 0 cap
    | some a'=>exact run_firstCells_some w.drew 1 0 a' 0 cap [] (by simp) (by intro _ _ h';simp at h')
  have hrun:∀ty,(Builtin.append_ #[82,82] ty #[.slice ao Q.length cap,.slice (some ⟨vb,0,none⟩) 1 1]).run Tryz.prog w=_:=fun ty=>
   run_append_grow_src w 82 82 ty 9 i0 _ Tryz.underlying82 hi hz0 ao Q.length cap _ hold _ 1 [.string (ba p)] (by rw [hz1];exact src_str w vb p hv) (by omega) (by omega) (by rw [hz2];exact growslice_fits (by omega) (by omega))
  have hge:=grownCap_ge w (Q.length+1) cap 9;have hle:=grownCap_le_maxLen w (Q.length+1) cap 9 (by unfold maxLen;omega);generalize grownCap w (Q.length+1) cap 9=G at*;have hfr:Fr No w (w.drew.alloc (.cells ((strs Q++ [Value.string (ba p)]).toArray++Builtin.zeroCells (Value.string ⟨#[]⟩).cells (G - (Q.length+1))) 9)):=(fr_drew_l (Fr.refl w.drew)).alloc _;have hnew:=new_at w.drew (.cells ((strs Q++ [Value.string (ba p)]).toArray++Builtin.zeroCells (Value.string ⟨#[]⟩).cells (G - (Q.length+1))) 9);have hsl:(strs Q).length=Q.length:=by simp [strs]
  refine ⟨_,_,paint o w.heap.size C,hrun,⟨some ⟨w.heap.size,0,none⟩,G,by rw [List.length_append];rfl,by rw [List.length_append];exact hge,hle,fun _=>⟨w.heap.size,0,_,rfl,paint_same _ _ _,hnew,?_,fun j s hj=> ?_⟩⟩,⟨hfr.of_no,fun k hk=>paint_other _ _ (by omega),fun k hk=> ?_⟩⟩
  ·have e1:(Value.string ⟨#[]⟩).cells.size=1:=rfl;rw [Array.size_append,List.size_toArray,List.length_append,hsl];simp only [Builtin.zeroCells,Array.size_map,Array.size_range,e1,List.length_singleton];omega
  ·have hlt:j<(Q++ [p]).length:=(List.getElem?_eq_some_iff.1 hj).1;rw [List.length_append,List.length_singleton] at hlt;rw [Nat.zero_add,Array.getElem?_append_left (by rw [List.size_toArray,List.length_append,hsl];exact hlt)];rw [show strs Q++ [Value.string (ba p)]=strs (Q++ [p]) by simp [strs]];rw [List.getElem?_toArray];unfold strs;rw [List.getElem?_map,hj];rfl
  ·have hs:=hfr.size;have hs2:(w.drew.alloc (.cells ((strs Q++ [Value.string (ba p)]).toArray++Builtin.zeroCells (Value.string ⟨#[]⟩).cells (G - (Q.length+1))) 9)).heap.size=w.heap.size+1:=heap_size_alloc ..;rw [hs2] at hk;rw [paint_other _ _ (by omega)];exact hf k (by omega)
theorem QRow.head {w:World} {o:Nat→Nat} {C:Nat} {ao:Option Addr} {n cap:Nat} {q:List UInt8} {Q:List (List UInt8)} (h:QRow w o C (.slice ao n cap) (q::Q)):n=Q.length+1∧Q.length+1≤cap∧cap≤maxLen∧∃b off,ao=some ⟨b,off,none⟩∧w.cell? ⟨b,off,none⟩=some (.string (ba q))∧(cap=1→QRow w o C (.slice (some ⟨b,off,none⟩) Q.length 0) Q)∧(cap≠1→QRow w o C (.slice (some ⟨b,off+1,none⟩) Q.length (cap - 1)) Q):=by
 obtain ⟨ao',cap',e,h1,h2,h3⟩:=h;cases e;rw [List.length_cons] at h1;obtain ⟨b,off,cs,g1,g2,g3,g4,g5⟩:=h3 (by omega);refine ⟨by simp,h1,h2,b,off,g1,by rw [cell_at g3];exact g5 0 q rfl,fun e=>⟨_,0,rfl,by omega,by omega,fun h0=>by omega⟩,fun e=>⟨_,cap - 1,rfl,by omega,by omega,fun _=>⟨b,off+1,cs,rfl,g2,g3,by omega,fun j s hj=> ?_⟩⟩⟩;have:=g5 (j+1) s (by simpa using hj);rwa [show off+1+j=off+(j+1) by omega]
def rootT:Tree:=fun k=>if k=1 then some ⟨0, [],true⟩ else none
def S0:St:=⟨0,0,0,fun _=>0,fun _=>none,rootT, [],fun _=>none,fun _=>none⟩
theorem rootT_some {k:Nat} {x:Node} (h:rootT k=some x):k=1∧x=⟨0, [],true⟩:=by
 unfold rootT at h;split at h
 ·rename_i e
  cases h;exact ⟨e,rfl⟩
 ·cases h
theorem rootT_ok:TreeOk rootT where
 root:=rfl
 zero:=rfl
 top:=fun k hk=>by unfold rootT;rw [if_neg (by omega)]
 up:=fun k x h hk=>absurd (rootT_some h).1 hk
 name:=fun k x h hk=>absurd (rootT_some h).1 hk
 one:=fun j k x y hj hk _ _=>by rw [(rootT_some hj).1,(rootT_some hk).1]
theorem rootT_things:things rootT=1:=by decide
theorem rootT_kidN:kidN rootT 1=0:=by decide
theorem rootT_kid (s:List UInt8):kid rootT 1 s=none:=by
 cases h:kid rootT 1 s with
 | none=>rfl
 | some k=>
  obtain ⟨x,h1,h2,_⟩:=kid_some h;rw [(rootT_some h1).2] at h2;cases h2
theorem S0_inv:StInv S0 0 where
 ok:=⟨rootT_ok,fun i m h=>by cases h⟩
 pts:=fun i m h=>by cases h
 dir:=fun k x h hd=>by
  have:=(rootT_some h).2;rw [this] at hd;cases hd
 tok:=fun x hx=>by cases hx
 small:=fun x hx=>by cases hx
 few:=Nat.le_refl _
 boots:=⟨Int.le_refl _,Int.le_refl _⟩
 swaps:=⟨Int.le_refl _,Int.le_refl _⟩
 clock:=⟨Int.le_refl _,Int.le_refl _⟩
 win:=fun i y h=>by cases h
def TreePost (w:World) (e:Ending) (w':World):Prop:=
 ∃tr th root rin:Nat,e=.returned (.pointer (some ⟨tr,0,none⟩))∧Fr No w w'∧w.heap.size≤th∧th<rin∧rin<root∧root<tr∧
  w'.heap[tr]? =some (.cells #[.map (some th)] 132 (0,0))∧MapAt encI w' th 1 (fun z=>if z=1 then some root else none)∧
  w'.heap[root]? =some (.cells #[.int .i64 0,.string ⟨#[]⟩,.bool true,.map (some rin)] 141 (0,0))∧MapAt encS w' rin 0 (fun _=>none)
theorem gtree_new (w:World):Calls Tryz.prog 45 #[] w (TreePost w):=by
 have hmm:= @run_makeMap Tryz.prog;go_enter Tryz.func45,Tryz.ntmps45;go_wp2_with fail;refine (directory_ _ _ _).mono ?_;rintro e w1 ⟨rfl,rfl⟩;have m0:=MapAt.made encI w;have F1:Fr No (w.alloc (.map #[] 0)) (((w.alloc (.map #[] 0)).alloc (.map #[] 0)).alloc (.cells #[.int .i64 0,.string ⟨#[]⟩,.bool true,.map (some (w.heap.size+1))] 141)):=((Fr.refl _).alloc _).alloc _;have m1:=MapAt.made encS (w.alloc (.map #[] 0));rw [show (w.alloc (.map #[] 0)).heap.size=w.heap.size+1 by simp] at m1;have F2:Fr No ((w.alloc (.map #[] 0)).alloc (.map #[] 0)) (((w.alloc (.map #[] 0)).alloc (.map #[] 0)).alloc (.cells #[.int .i64 0,.string ⟨#[]⟩,.bool true,.map (some (w.heap.size+1))] 141)):=(Fr.refl _).alloc _;have k2:(((w.alloc (.map #[] 0)).alloc (.map #[] 0)).alloc (.cells #[.int .i64 0,.string ⟨#[]⟩,.bool true,.map (some (w.heap.size+1))] 141)).heap[w.heap.size+1+1]? =some (.cells #[.int .i64 0,.string ⟨#[]⟩,.bool true,.map (some (w.heap.size+1))] 141 (0,0)):=by
  simpa using new_at ((w.alloc (.map #[] 0)).alloc (.map #[] 0)) (.cells #[.int .i64 0,.string ⟨#[]⟩,.bool true,.map (some (w.heap.size+1))] 141)
 have F:Fr No w (((w.alloc (.map #[] 0)).alloc (.map #[] 0)).alloc (.cells #[.int .i64 0,.string ⟨#[]⟩,.bool true,.map (some (w.heap.size+1))] 141)):=(((Fr.refl w).alloc _).alloc _).alloc _;have hsz:(((w.alloc (.map #[] 0)).alloc (.map #[] 0)).alloc (.cells #[.int .i64 0,.string ⟨#[]⟩,.bool true,.map (some (w.heap.size+1))] 141)).heap.size=w.heap.size+1+1+1:=by simp
 obtain ⟨w9,hu,m9,f9⟩:=(m0.fr F1 id).put (1:Int) (w.heap.size+1+1) (show I64 _ by unfold I64;omega) trivial (by omega) (t:=130) (e:=142) Tryz.underlying130;have hu':(Instr.mapUpdate 130 (.map (some w.heap.size)) (.int .i64 1) (.pointer (some ⟨w.heap.size+1+1,0,none⟩))).run Tryz.prog (((w.alloc (.map #[] 0)).alloc (.map #[] 0)).alloc (.cells #[.int .i64 0,.string ⟨#[]⟩,.bool true,.map (some (w.heap.size+1))] 141))=.ok () w9:=hu;have K2:=lH (f9.block_of k2 (by omega));have M9:=lH m9;have M1:=lH ((m1.fr F2 id).fr f9 (by omega));have F9:Fr No w w9:=F.trans f9 (fun j hj e=>by omega);have hs9:=f9.size;rw [hsz] at hs9;clear k2 m0 m1 hu m9;go_wp2_with fail
 go_ret
 have kt:=new_at w9 (.cells #[.map (some w.heap.size)] 132);have fz:Fr No w9 (w9.alloc (.cells #[.map (some w.heap.size)] 132)):=(Fr.refl w9).alloc _;exact ⟨w9.heap.size,w.heap.size,w.heap.size+1+1,w.heap.size+1,rfl,F9.trans fz (fun _ _ e=>e),Nat.le_refl _,by omega,by omega,by omega,kt,M9.out.fr fz id,fz.block_of K2.out id,M1.out.fr fz id⟩
def NewPost (w:World) (e:Ending) (w':World):Prop:=
 ∃(L:Plc) (o:Nat→Nat),e=.returned (.pointer (some ⟨L.s,0,none⟩))∧Step (fun _=>False) w (fun _=>0) w' o∧StateAt w' o 0 L S0 0
def ownNew (L:Plc) (th root rin:Nat):Nat→Nat:=fun k=>if k=L.win then 1 else if k=th then 4 else if k=rin then 2001 else if k=root then 1001 else if k=L.tr then 3 else if k=L.tk then 5 else if k=L.fl then 6 else if k=L.us then 7 else if k=L.s then 8 else 0
theorem gstate_new (w:World):Calls Tryz.prog 14 #[] w (NewPost w):=by
 have hmm:= @run_makeMap Tryz.prog;go_enter Tryz.func14,Tryz.ntmps14;go_wp2_with fail;refine (once_new _).mono ?_;rintro e w1 ⟨rfl,rfl⟩;go_wp2_with fail;refine (gtree_new _).mono ?_;rintro e w2 ⟨tr,th,root,rin,rfl,f2,hth,hr1,hr2,hr3,ktr,mth,kroot,mrin⟩;have KTR:=lH ktr;have KTH:=lH mth;have KRO:=lH kroot;have KRI:=lH mrin;have KW:=lH (f2.block_of (new_at w (.cells #[.pointer none,.pointer none,.pointer none,.pointer none,.bool true] 152)) id);have F2:Fr No w w2:=((Fr.refl w).alloc _).trans f2 (fun _ _ e=>e);have htr:=lt_of_block ktr;simp only [heap_size_alloc] at hth;clear ktr mth kroot mrin f2;go_wp2_with fail;refine (tokens_new _).mono ?_;rintro e w3 ⟨rfl,rfl⟩;have KT:=lH (new_at w2 (.cells #[.bool true,.slice none 0 0] 155));have MF:=lH (MapAt.made encI (w2.alloc (.cells #[.bool true,.slice none 0 0] 155)));have MU:=lH (MapAt.made encU ((w2.alloc (.cells #[.bool true,.slice none 0 0] 155)).alloc (.map #[] 0)));rw [show (w2.alloc (.cells #[.bool true,.slice none 0 0] 155)).heap.size=w2.heap.size+1 by simp] at MF;rw [show ((w2.alloc (.cells #[.bool true,.slice none 0 0] 155)).alloc (.map #[] 0)).heap.size=w2.heap.size+1+1 by simp] at MU;have e2:(((w2.alloc (.cells #[.bool true,.slice none 0 0] 155)).alloc (.map #[] 0)).alloc (.map #[] 0)).heap.size=w2.heap.size+1+1+1:=by simp
 have GU:Fr No (((w2.alloc (.cells #[.bool true,.slice none 0 0] 155)).alloc (.map #[] 0)).alloc (.map #[] 0)) ((((w2.alloc (.cells #[.bool true,.slice none 0 0] 155)).alloc (.map #[] 0)).alloc (.map #[] 0)).alloc (.cells #[.int .i64 0,.int .i64 0,.int .i64 0,.int .i64 0,.int .i64 0,.int .i64 0,.int .i64 0,.int .i64 0,.pointer (some ⟨w.heap.size,0,none⟩),.pointer (some ⟨tr,0,none⟩),.pointer (some ⟨w2.heap.size,0,none⟩),.map (some (w2.heap.size+1)),.map (some (w2.heap.size+1+1))] 104)):=(Fr.refl _).alloc _;have GF:Fr No ((w2.alloc (.cells #[.bool true,.slice none 0 0] 155)).alloc (.map #[] 0)) ((((w2.alloc (.cells #[.bool true,.slice none 0 0] 155)).alloc (.map #[] 0)).alloc (.map #[] 0)).alloc (.cells #[.int .i64 0,.int .i64 0,.int .i64 0,.int .i64 0,.int .i64 0,.int .i64 0,.int .i64 0,.int .i64 0,.pointer (some ⟨w.heap.size,0,none⟩),.pointer (some ⟨tr,0,none⟩),.pointer (some ⟨w2.heap.size,0,none⟩),.map (some (w2.heap.size+1)),.map (some (w2.heap.size+1+1))] 104)):=((Fr.refl _).alloc _).alloc _;have G1:Fr No (w2.alloc (.cells #[.bool true,.slice none 0 0] 155)) ((((w2.alloc (.cells #[.bool true,.slice none 0 0] 155)).alloc (.map #[] 0)).alloc (.map #[] 0)).alloc (.cells #[.int .i64 0,.int .i64 0,.int .i64 0,.int .i64 0,.int .i64 0,.int .i64 0,.int .i64 0,.int .i64 0,.pointer (some ⟨w.heap.size,0,none⟩),.pointer (some ⟨tr,0,none⟩),.pointer (some ⟨w2.heap.size,0,none⟩),.map (some (w2.heap.size+1)),.map (some (w2.heap.size+1+1))] 104)):=(((Fr.refl _).alloc _).alloc _).alloc _;have G0:Fr No w2 ((((w2.alloc (.cells #[.bool true,.slice none 0 0] 155)).alloc (.map #[] 0)).alloc (.map #[] 0)).alloc (.cells #[.int .i64 0,.int .i64 0,.int .i64 0,.int .i64 0,.int .i64 0,.int .i64 0,.int .i64 0,.int .i64 0,.pointer (some ⟨w.heap.size,0,none⟩),.pointer (some ⟨tr,0,none⟩),.pointer (some ⟨w2.heap.size,0,none⟩),.map (some (w2.heap.size+1)),.map (some (w2.heap.size+1+1))] 104)):=((((Fr.refl _).alloc _).alloc _).alloc _).alloc _
 have k1:=new_at (((w2.alloc (.cells #[.bool true,.slice none 0 0] 155)).alloc (.map #[] 0)).alloc (.map #[] 0)) (.cells #[.int .i64 0,.int .i64 0,.int .i64 0,.int .i64 0,.int .i64 0,.int .i64 0,.int .i64 0,.int .i64 0,.pointer (some ⟨w.heap.size,0,none⟩),.pointer (some ⟨tr,0,none⟩),.pointer (some ⟨w2.heap.size,0,none⟩),.map (some (w2.heap.size+1)),.map (some (w2.heap.size+1+1))] 104);rw [e2] at k1;have hszf:((((w2.alloc (.cells #[.bool true,.slice none 0 0] 155)).alloc (.map #[] 0)).alloc (.map #[] 0)).alloc (.cells #[.int .i64 0,.int .i64 0,.int .i64 0,.int .i64 0,.int .i64 0,.int .i64 0,.int .i64 0,.int .i64 0,.pointer (some ⟨w.heap.size,0,none⟩),.pointer (some ⟨tr,0,none⟩),.pointer (some ⟨w2.heap.size,0,none⟩),.map (some (w2.heap.size+1)),.map (some (w2.heap.size+1+1))] 104)).heap.size=w2.heap.size+1+1+1+1:=by simp
 go_wp2_with fail
 go_ret
 generalize hW:(((w2.alloc (.cells #[.bool true,.slice none 0 0] 155)).alloc (.map #[] 0)).alloc (.map #[] 0)).alloc (.cells #[.int .i64 0,.int .i64 0,.int .i64 0,.int .i64 0,.int .i64 0,.int .i64 0,.int .i64 0,.int .i64 0,.pointer (some ⟨w.heap.size,0,none⟩),.pointer (some ⟨tr,0,none⟩),.pointer (some ⟨w2.heap.size,0,none⟩),.map (some (w2.heap.size+1)),.map (some (w2.heap.size+1+1))] 104)=wF at*;have s2:=F2.size;refine ⟨⟨w2.heap.size+1+1+1,w.heap.size,tr,w2.heap.size,w2.heap.size+1,w2.heap.size+1+1⟩,ownNew ⟨w2.heap.size+1+1+1,w.heap.size,tr,w2.heap.size,w2.heap.size+1,w2.heap.size+1+1⟩ th root rin,rfl,⟨(F2.trans G0 (fun _ _ e=>e)).mono (fun _ _ e=>e.elim),fun k hk=> ?_,fun k hk=> ?_⟩,?_⟩
 ·unfold ownNew;dsimp only;repeat (first|rw [if_neg (by omega)])
 ·unfold ownNew;dsimp only;rw [hszf] at hk;repeat (first|rw [if_neg (by omega)])
 ·refine ⟨?_,k1,⟨?_,fun _=> .pointer none,G0.block_of KW.out id,fun _ _=>rfl⟩,⟨th,fun _=>root,?_,G0.block_of KTR.out id,?_,?_,?_⟩,⟨?_,.slice none 0 0,G1.block_of KT.out id,.inl ⟨rfl,rfl⟩⟩,⟨?_,fun _=>0,0,Nat.le_refl _,?_,fun i m h=>by cases h⟩,⟨?_,0,Nat.le_refl _,?_⟩⟩
  ·unfold ownNew;dsimp only;repeat (first|rw [if_pos rfl]|rw [if_neg (by omega)])
  ·unfold ownNew;dsimp only;repeat (first|rw [if_pos rfl]|rw [if_neg (by omega)])
  ·unfold ownNew;dsimp only;repeat (first|rw [if_pos rfl]|rw [if_neg (by omega)])
  ·unfold ownNew;dsimp only;repeat (first|rw [if_pos rfl]|rw [if_neg (by omega)])
  ·show MapAt encI wF th (things rootT) (thm rootT fun _=>root);rw [rootT_things];have e:thm rootT (fun _=>root)=fun z=>if z=1 then some root else none:=by
    funext z;unfold thm rootT;by_cases hz:z=1
    ·subst hz;rfl
    ·rw [if_neg hz];split
     ·rw [if_neg (by omega)];rfl
     ·rfl
   rw [e];exact KTH.out.fr G0 id
  ·intro k x hk;obtain ⟨rfl,rfl⟩:=rootT_some hk;refine ⟨?_,rin,?_,G0.block_of KRO.out id,?_⟩
   ·unfold ownNew;dsimp only;repeat (first|rw [if_pos rfl]|rw [if_neg (by omega)])
   ·unfold ownNew;dsimp only;repeat (first|rw [if_pos rfl]|rw [if_neg (by omega)])
   ·show MapAt encS wF rin (kidN rootT 1) (kidm rootT 1);rw [rootT_kidN];have e:kidm rootT 1=fun _=>none:=by
     funext s;unfold kidm;rw [rootT_kid];rfl
    rw [e];exact KRI.out.fr G0 id
  ·unfold ownNew;dsimp only;repeat (first|rw [if_pos rfl]|rw [if_neg (by omega)])
  ·unfold ownNew;dsimp only;repeat (first|rw [if_pos rfl]|rw [if_neg (by omega)])
  ·have e:filem S0.F (fun _=>0)=fun _=>none:=by
    funext z;unfold filem S0;split<;>rfl
   rw [e];exact MF.out.fr GF id
  ·unfold ownNew;dsimp only;repeat (first|rw [if_pos rfl]|rw [if_neg (by omega)])
  ·have e:usem S0.U=fun _=>none:=by funext z;rfl
   rw [e];exact MU.out.fr GU id
def fptrs (F:Nat→Option FMap) (k:Nat):List Pt:=match F k with
 | some m=>ptrs m
 | none=> []
theorem fptrs_short {F:Nat→Option FMap} (h:Short F) (hl:∀i m,F i=some m→MapLen m) (i:Nat):(fptrs F i).length≤64∧∀p∈fptrs F i,0≤p.z∧p.z≤64:=by
 unfold fptrs;cases hF:F i with
 | none=>exact ⟨Nat.zero_le _,fun p hp=>by cases hp⟩
 | some m=>exact ⟨ptrs_len (hl i m hF),ptrs_short h hF⟩
theorem nodup_sub:∀(l1 l2:List Stp),l1.Nodup→(∀x∈l1,x∈l2)→l1.length≤l2.length
 | [],_,_,_=>Nat.zero_le _
 | a::r,l2,hn,h=>by
  obtain ⟨h1,h2⟩:=List.nodup_cons.1 hn;have h3:=h a List.mem_cons_self;have h4:=nodup_sub r (l2.erase a) h2 (fun x hx=>(List.mem_erase_of_ne (fun e=>h1 (by rw [← e];exact hx))).2 (h x (List.mem_cons_of_mem _ hx)));rw [List.length_erase_of_mem h3] at h4;have:=List.length_pos_of_mem h3;rw [List.length_cons];omega
theorem sum_zero:∀l:List Nat,(l.map fun _=>(0:Int)).sum=0
 | []=>rfl
 | _::r=>by rw [List.map_cons,List.sum_cons,sum_zero r];rfl
theorem live_has {F:Nat→Option FMap} {x:Stp} (h:liveF F x≠0):∃i,i<129∧∃m,F i=some m∧∃p∈ptrs m,stpOf p=x:=by
 refine Classical.byContradiction (fun hno=>h ?_);have key:∀i,i∈List.range 129→(match F i with
  | some m=>if (fun _:Int=>false) (i:Int)=true then 0 else liveP (ptrs m) x
  | none=>0)=(0:Int):=fun i hi=>by
  cases hF:F i with
  | none=>rfl
  | some m=>
   dsimp only;rw [if_neg (by simp)];have hz:∀L:List Pt,(∀p∈L,stpOf p≠x)→liveP L x=0:=fun L=>by
    induction L with
    | nil=>exact fun _=>rfl
    | cons a r ih=>
     intro hL;have h1:=ih (fun p hp=>hL p (List.mem_cons_of_mem _ hp));unfold liveP at h1 ⊢;rw [List.map_cons,List.sum_cons,if_neg (hL a List.mem_cons_self),h1];rfl
   exact hz _ (fun p hp e=>hno ⟨i,List.mem_range.1 hi,m,hF,p,hp,e⟩)
 have e:=congrArg List.sum (List.map_congr_left (g:=fun _=>(0:Int)) key);unfold liveF liveD;exact e.trans (sum_zero _)
theorem held_good {S:St} (hp:PtsOk S.F) (h:InvLive S) {x:Stp} (hx:(S.U x).isSome=true):stpGood x:=by
 obtain ⟨u,hu⟩:=Option.isSome_iff_exists.1 hx;obtain ⟨h1,h2⟩:=h.live x u hu;rw [h1] at h2;obtain ⟨i,_,m,hF,p,hm,rfl⟩:=live_has h2;exact (may_good (hp i m hF p (ptrs_mem.1 hm).1)).1
theorem sum_le (l:List Nat) (f:Nat→Nat) (b:Nat) (h:∀i,f i≤b):(l.map f).sum≤b*l.length:=by
 induction l with
 | nil=>exact Nat.zero_le _
 | cons a r ih=>
  rw [List.map_cons,List.sum_cons,List.length_cons,Nat.mul_succ];have:=h a;omega
theorem live_few {S:St} (hp:PtsOk S.F) (hl:∀i m,S.F i=some m→MapLen m) (h:InvLive S) {ss:List Stp} (hn:ss.Nodup) (hm:∀x∈ss,(S.U x).isSome=true):ss.length≤8256:=by
 have h1:=nodup_sub ss ((List.range 129).flatMap fun i=>(fptrs S.F i).map stpOf) hn (fun x hx=>by
  obtain ⟨u,hu⟩:=Option.isSome_iff_exists.1 (hm x hx);obtain ⟨h1,h2⟩:=h.live x u hu;rw [h1] at h2;obtain ⟨i,hi,m,hF,p,hpm,rfl⟩:=live_has h2;refine List.mem_flatMap.2 ⟨i,List.mem_range.2 hi,List.mem_map.2 ⟨p,?_,rfl⟩⟩;unfold fptrs;rw [hF];exact hpm)
 rw [List.length_flatMap] at h1;have h2:=sum_le (List.range 129) (fun i=>((fptrs S.F i).map stpOf).length) 64 (fun i=>by
  rw [List.length_map];exact (fptrs_short hp.short hl i).1)
 rw [List.length_range] at h2;omega
theorem S0_live:InvLive S0:=⟨fun i m h=>(by cases h),fun i m h=>(by cases h),fun x u h=>(by cases h)⟩
def DeepPost (w:World) (F:Nat→Option FMap) (e:Ending) (w':World):Prop:=∃r:Nat,e=.returned (.int .i64 r)∧(r=0→∀i,F i=none)∧Fr No w w'
theorem gdeep_ (o:Nat→Nat) (n:Nat) (L:Plc) (S:St) (w:World) (h:StateAt w o 0 L S n) (ok:StOk S) (hf:Fresh w o) (ht:∀i m,S.F i=some m→(S.T i).isSome=true):
  Calls Tryz.prog 39 #[.pointer (some ⟨L.s,0,none⟩)] w (DeepPost w S.F):=by
 have HR:Hid (∀(r:Nat) e w',e=.returned (.int .i64 r)→(r=0→∀i,S.F i=none)→Fr No w w'→DeepPost w S.F e w'):=lH (fun r e w' he hr f=>⟨r,he,hr,f⟩);generalize hQ:DeepPost w S.F=Q at*;clear hQ;have HST:Hid (∀W,Fr No w W→StateAt W o 0 L S n):=lH (fun W f=>h.no ok hf f);have OK:=lH ok;have H31:=lH (gtree_ o 0 20000 n L S w h ok hf);unfold TrClonePost at H31;generalize hNN0:numsOf (fun k=>(S.T k).isSome)=NN at*;have HNN:Hid (∀k∈NN,k≤128):=lH (fun k hk=>by
  rw [← hNN0] at hk;unfold numsOf at hk;have:=List.mem_range.1 (List.mem_filter.1 hk).1;omega)
 have HNL:Hid (NN.length≤129):=lH (by
  rw [← hNN0];unfold numsOf;exact Nat.le_trans (List.length_filter_le _ _) (by simp))
 have HALL:Hid ((∀i∈NN,S.F i=none)→∀i,S.F i=none):=lH (fun hall i=>by
  cases hi:S.F i with
  | none=>rfl
  | some m=>
   rw [← hi];refine hall i ?_;rw [← hNN0];unfold numsOf;exact List.mem_filter.2 ⟨List.mem_range.2 (by have:=(ok.file i m hi).2.1;omega),ht i m hi⟩)
 have HNT:=lH hNN0;clear h ok hf ht hNN0;go_enter Tryz.func39,Tryz.ntmps39;go_wp2_with fail;refine H31.out.mono ?_;rintro e w11 ⟨t11,o11,rfl,s11,tr11⟩;have F11:Hid (Fr No w w11):=lH (s11.fr.mono (fun _ _ e=>e));have H32:=lH (gtinos_ o11 20000 t11 S.T w11 tr11 OK.out.tree);unfold NumsPost at H32;rw [HNT.out] at H32;clear H31 s11 tr11;go_wp2_with fail;refine H32.out.mono ?_;rintro e w12 ⟨v12,rfl,rn12,f12⟩;obtain ⟨a12,c12,hv12⟩:=rn12.shape;rw [List.length_map] at hv12;subst hv12;have F12:=lH (F11.out.trans f12 (fun _ _ e=>e));have HNR:Hid (∀W,Fr No w12 W→RowNew numC 1 3 W w11.heap.size (.slice a12 NN.length c12) (NN.map fun k:Nat=>(k:Int))):=lH (fun W f=>rn12.fr f (fun _ _ e=>e));have LI12:Hid (Fr No w12 w12):=lH (Fr.refl _);have LN0:Hid ((0:Nat)=0→∀i∈NN.take 0,S.F i=none):=lH (fun _ i hi=>by simp at hi);clear rn12 f12 H32 F11;go_wp2_with fail;go_loopw [3,5] (fun a b wr=>∃r k:Nat,a=.int .i64 r∧b=.int .i64 k∧r≤k∧k≤NN.length∧Hid (r=0→∀i∈NN.take k,S.F i=none)∧Hid (Fr No w12 wr)) (fun _ b _=>NN.length - (intOf b).toNat)
 case atStart=>exact ⟨0,0,rfl,rfl,Nat.le_refl _,Nat.zero_le _,lH (fun _=>LN0.out trivial),LI12⟩
 case round=>
  obtain ⟨w20,rfl⟩:∃w20:World,w20=wr:=⟨_,rfl⟩
  obtain ⟨r,k,rfl,rfl,hrk,hk,HLN,HFK⟩:=hrel;have hnl:=HNL.out;by_cases hlk:k<NN.length
  ·have q8:(k:Int)<(NN.length:Int):=by omega
   have q9:(0:Int)≤(k:Int):=(by omega)
   obtain ⟨bN,hbN,hmN,_,hrN⟩:=(HNR.out _ HFK.out).at (by rw [List.length_map];omega);subst hbN;have k1:=numC_at hrN hlk;have hlenN:=hrN.len;rw [List.length_map] at hlenN;have hmN':c12≤9223372036854775807:=hmN;have q10:(k:Int)<(c12:Int):=(by omega)
   have hiN:=HNN.out NN[k] (List.getElem_mem hlk);have HNX:Hid (∀i∈NN.take (k+1),i∈NN.take k∨i=NN[k]):=lH (fun i hi=>by
    rw [List.take_succ_eq_append_getElem hlk] at hi;rcases List.mem_append.1 hi with hi|hi
    ·exact .inl hi
    ·exact .inr (List.mem_singleton.1 hi))
   generalize NN[k]=iN at*;have HM:=lH (gmap_ o 0 _ L S iN w20 (HST.out _ (F12.out.trans HFK.out (fun _ _ e=>e))) OK.out (by omega));clear hrN hlenN;cases hFi:S.F iN with
   | none=>
    rw [hFi] at HM;unfold MapPost at HM;dsimp only at HM;have HLN2:Hid (r=0→∀i∈NN.take (k+1),S.F i=none):=lH (fun hr i hi=>by
     rcases HNX.out i hi with hi|rfl
     ·exact HLN.out hr i hi
     ·exact hFi)
    clear hFi HNX HLN;go_wp2_with fail;refine HM.out.mono ?_;rintro e wy ⟨rfl,rfl⟩;go_wp2_with fail;go_roundw
    case rel=>exact ⟨r,k+1,rfl,by go_num,by omega,hlk,HLN2,HFK⟩
    case measure=>simp [intOf];omega
   | some mF=>
    rw [hFi] at HM;unfold MapPost at HM;dsimp only at HM;unfold FilePost at HM;have HLN2:Hid (r+1=0→∀i∈NN.take (k+1),S.F i=none):=lH (fun hr=>by omega);clear hFi HNX HLN;go_wp2_with fail;refine HM.out.mono ?_;rintro e w26 ⟨p26,rfl,fr26,f26⟩;have F26:=lH (HFK.out.trans f26 (fun _ _ e=>e));have q11:IntKind.i64.wrap ((r:Int)+1)=(r:Int)+1:=(by rw [IntKind.wrap_i64];omega)
    clear fr26 f26 HM;go_wp2_with fail;go_roundw
    case rel=>exact ⟨r+1,k+1,by go_num,by go_num,by omega,hlk,HLN2,F26⟩
    case measure=>simp [intOf];omega
  ·obtain rfl:k=NN.length:=by omega
   have q8:¬(NN.length:Int)<(NN.length:Int):=(by omega)
   go_wp2_with fail;refine HR.out r _ _ rfl (fun hr=>HALL.out (fun i hi=>HLN.out hr i (by rw [List.take_length];exact hi))) (F12.out.trans HFK.out (fun _ _ e=>e))
theorem TokV.pf {w w':World} {p base:Nat} {s:PenS} {v:Value} {L:List Tok} (h:TokV w v L) (g:Pg w p base s) (f:Fr (Pf w p base) w w'):TokV w' v L:=by
 rcases h with h|⟨b,cap,e,hm,hr⟩
 ·exact .inl h
 ·exact .inr ⟨b,cap,e,hm,hr.pf g f (by decide) (by decide)⟩
end Go.Proofs.YtlcojhddnpmgmaaGreat
