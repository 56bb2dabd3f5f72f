/- Part of the proof; the last text says what is proved. -/
import Derived.Test.YtlcojhddnpmgmaaGreatR24
import Derived.Test.YtlcojhddnpmgmaaGreatR34
import Derived.ChangeArms
import Derived.Deep.Slices
import Derived.OpenShut
import Derived.ProofKit
set_option linter.unusedSimpArgs false
set_option linter.unusedVariables false
set_option maxRecDepth 100000
set_option maxHeartbeats 6400000
namespace Go.Proofs.YtlcojhddnpmgmaaGreat
open Go.RowKit
def TrClonePost (w:World) (o:Nat→Nat) (K:Nat) (T:Tree) (e:Ending) (w':World):Prop:=∃t o',e=.returned (.pointer (some ⟨t,0,none⟩))∧Step (fun _=>False) w o w' o'∧TreeAt w' o' K t T
structure TrMid (w:World) (o:Nat→Nat) (T:Tree) (K t m0 r:Nat) (wr:World) (left:Int→Bool) (oj tp:Nat→Nat):Prop where
 step:Step (fun _=>False) w o wr oj
 ot:oj t=K+3
 om:oj m0=K+4
 orr:oj r=0
 bt:w.heap.size≤t
 bm:w.heap.size≤m0
 br:w.heap.size≤r
 cs:wr.heap[t]? =some (.cells #[.map (some m0)] 132 (0,0))
 map:∃c,c≤129∧MapAt encI wr m0 c (gone left (thm T tp))
 done:∀k x,T k=some x→left (k:Int)=false→ThingAt wr oj K k (tp k) x (kidN T k) (kidm T k)
theorem TrMid.steps {w:World} {o:Nat→Nat} {T:Tree} {K t m0 r:Nat} {wr w2:World} {left:Int→Bool} {oj oj2 tp:Nat→Nat} (h:TrMid w o T K t m0 r wr left oj tp) {C:Nat→Prop} (s:Step C wr oj w2 oj2) (s0:Step (fun _=>False) w o w2 oj2) (hC:∀c,C c→c=0) (hr:r<wr.heap.size):TrMid w o T K t m0 r w2 left oj2 tp where
 step:=s0
 ot:=(s.own h.cs).trans h.ot
 om:=by
  obtain ⟨c,_,hm⟩:=h.map;exact (s.old m0 hm.lt).trans h.om
 orr:=(s.old r hr).trans h.orr
 bt:=h.bt
 bm:=h.bm
 br:=h.br
 cs:=s.block h.cs (by rw [h.ot];intro e;have:=hC _ e;omega)
 map:=by
  obtain ⟨c,hc,hm⟩:=h.map;exact ⟨c,hc,hm.fr s.fr (by rw [h.om];intro e;have:=hC _ e;omega)⟩
 done:=fun k x hk hl=>(h.done k x hk hl).step s (by intro e;have:=hC _ e;omega) (by intro e;have:=hC _ e;omega)
theorem TrMid.put {w:World} {o:Nat→Nat} {T:Tree} {K t m0 r:Nat} {wr:World} {left:Int→Bool} {oj tp:Nat→Nat} (h:TrMid w o T K t m0 r wr left oj tp) {k:Nat} {x:Node} (hk:T k=some x) (hk8:k≤128) (hl:left (k:Int)=true) {yb:Nat} (hth:ThingAt wr oj K k yb x (kidN T k) (kidm T k))
  {c0:Nat} (hc0:∃c,c≤c0∧MapAt encI wr m0 c (gone left (thm T tp))) (hc1:c0<129):
  ∃w5,(Instr.mapUpdate 130 (.map (some m0)) (.int .i64 k) (.pointer (some ⟨yb,0,none⟩))).run Tryz.prog wr=.ok () w5∧TrMid w o T K t m0 r w5 (fun z=>left z&&decide (z≠(k:Int))) oj (fun j=>if j=k then yb else tp j)∧Fr (· =m0) wr w5∧∃c,c≤c0+1∧MapAt encI w5 m0 c (gone (fun z=>left z&&decide (z≠(k:Int))) (thm T (fun j=>if j=k then yb else tp j))):=by
 obtain ⟨c,hc,hm⟩:=hc0;obtain ⟨w5,hu,hm5,f5⟩:=hm.put (k:Int) yb (show I64 _ by unfold I64;omega) trivial (by omega) (t:=130) (e:=142) Tryz.underlying130;have e1:gone left (thm T tp) (k:Int)=none:=if_pos hl;rw [e1] at hm5;have hkk:thm T tp (k:Int)=some (tp k):=by simp [thm,hk]
 have e2:(fun z=>if z=(k:Int) then some yb else gone left (thm T tp) z)=gone (fun z=>left z&&decide (z≠(k:Int))) (thm T (fun j=>if j=k then yb else tp j)):=by
  funext z;unfold gone thm;by_cases hz:z=(k:Int)
  ·subst hz;simp [hk]
  ·by_cases h0:0≤z
   ·have:z.toNat≠k:=by omega
    simp [hz,h0,this]
   ·simp [hz,h0]
 rw [e2] at hm5;have s5:Step (fun c=>c=K+4) wr oj w5 oj:=⟨f5.mono (fun j _ e=>by rw [e];exact h.om),fun _ _=>rfl,fun j hj=>h.step.fresh j (Nat.le_trans f5.size hj)⟩
 refine ⟨w5,hu,⟨h.step.own_turn h.bm f5,h.ot,h.om,h.orr,h.bt,h.bm,h.br,s5.block h.cs (by rw [h.ot];omega),⟨_,?_,hm5⟩,fun j y hj hlj=> ?_⟩,f5,⟨_,?_,hm5⟩⟩
 ·simp only [Option.isSome_none,Bool.false_eq_true,if_false];omega
 ·by_cases e:j=k
  ·subst e;rw [hk] at hj;cases hj;rw [if_pos rfl];exact hth.step s5 (by omega) (by omega)
  ·rw [if_neg e];refine (h.done j y hj ?_).step s5 (by omega) (by omega);have:decide ((j:Int)≠(k:Int))=true:=decide_eq_true (by omega);rw [this,Bool.and_true] at hlj;exact hlj
 ·simp only [Option.isSome_none,Bool.false_eq_true,if_false];omega
theorem gone_thm (T:Tree) (tp tp':Nat→Nat):gone (fun x=>(thm T tp x).isSome) (thm T tp')=fun _=>none:=by
 funext z;unfold gone;by_cases h:(thm T tp z).isSome=true
 ·rw [if_pos h]
 ·rw [if_neg h];unfold thm at h ⊢;by_cases h0:0≤z
  ·rw [if_pos h0] at h ⊢;cases hT:T z.toNat with
   | none=>rfl
   | some y=>rw [hT] at h;exact absurd rfl h
  ·rw [if_neg h0]
theorem Tryz.size141:(Tryz.prog.info? 141).map (·.size)=some 4:=by kernel_rfl
theorem gtclone_ (o:Nat→Nat) (K K' t:Nat) (T:Tree) (w:World) (h:TreeAt w o K t T) (ok:TreeOk T) (hf:Fresh w o):Calls Tryz.prog 66 #[.pointer (some ⟨t,0,none⟩)] w (TrClonePost w o K' T):=by
 have hmm:= @run_makeMap Tryz.prog;have HMD:=lH (gtmade_ w o K t T h);have OK:=lH ok;have HF:=lH hf;have HQ:Hid (∀t' w' o',Step (fun _=>False) w o w' o'→TreeAt w' o' K' t' T→TrClonePost w o K' T (.returned (.pointer (some ⟨t',0,none⟩))) w'):=lH (fun t' w' o' s x=>⟨t',o',rfl,s,x⟩);generalize TrClonePost w o K' T=Q at*;have HH:=lH h;have hth:things T≤129:=by
  unfold things;exact Nat.le_trans List.countP_le_length (by simp)
 obtain ⟨mb,tp,_,kt,_,hum,hthg⟩:=h;have hmlt:=hum.lt;have hFA:Fr No w ((w.alloc (.map #[] 0)).alloc (.cells #[.map (some w.heap.size)] 132)):=((Fr.refl w).alloc _).alloc _;have c0:((w.alloc (.map #[] 0)).alloc (.cells #[.map (some w.heap.size)] 132)).cell? ⟨t,0,none⟩=some (.map (some mb)):=by rw [cell_at (hFA.block_of kt id)];rfl
 have kt':((w.alloc (.map #[] 0)).alloc (.cells #[.map (some w.heap.size)] 132)).heap[w.heap.size+1]? =some (.cells #[.map (some w.heap.size)] 132 (0,0)):=by
  simpa using new_at (w.alloc (.map #[] 0)) (.cells #[.map (some w.heap.size)] 132)
 have km':MapAt encI ((w.alloc (.map #[] 0)).alloc (.cells #[.map (some w.heap.size)] 132)) w.heap.size 0 (fun _=>none):=(MapAt.made encI w).fr ((Fr.refl (S:=No) _).alloc _) id;have hsA:((w.alloc (.map #[] 0)).alloc (.cells #[.map (some w.heap.size)] 132)).heap.size=w.heap.size+2:=by simp
 have humA:=hum.fr hFA id;obtain ⟨w2,hr,R2,f2,hs2⟩:=humA.range (t:=130) (e:=142) Tryz.underlying130;generalize hwA:(w.alloc (.map #[] 0)).alloc (.cells #[.map (some w.heap.size)] 132)=wA at*;rw [hsA] at hr R2 hs2;have FA2:=lH (hFA.trans f2 (fun _ _ e=>e));have LI:Hid (TrMid w o T K' (w.heap.size+1) w.heap.size (w.heap.size+2) w2 (fun x=>(thm T tp x).isSome) (paint (paint o (w.heap.size+1) (K'+3)) w.heap.size (K'+4)) (fun _=>0)):=lH
  ⟨(((Step.no HF.out FA2.out:Step (fun _=>False) w o w2 o).painted (b:=w.heap.size+1) (c:=K'+3) (by omega) (by omega)).painted (b:=w.heap.size) (c:=K'+4) (by omega) (by omega)),by rw [paint_other _ _ (by omega),paint_same],paint_same _ _ _,
   by rw [paint_other _ _ (by omega),paint_other _ _ (by omega)];exact HF.out _ (by omega),by omega,by omega,by omega,f2.block_of kt' id,⟨0,by omega,by
    rw [gone_thm];exact km'.fr f2 id⟩,fun k x hk hl=>by
    have:(thm T tp (k:Int)).isSome=true:=(by simp [thm,hk])
    rw [this] at hl;cases hl⟩
 have RR2:=lH R2;have HUM:=lH hum;have HTG:=lH hthg;clear hum hthg humA kt kt' km' R2 f2 hFA hf ok;subst hwA;go_enter Tryz.func66,Tryz.ntmps66;go_wp2_with fail;refine HMD.out.mono ?_;rintro e w1 ⟨rfl,hw⟩;have hw':=hw.symm;subst hw';go_wp2_with fail;go_loopw [] (fun wr=>∃(left:Int→Bool) (cnt:Nat) (oj tp':Nat→Nat),Hid (RangeAt encI wr mb (w.heap.size+2) (things T) (thm T tp) left cnt)∧Hid (TrMid w o T K' (w.heap.size+1) w.heap.size (w.heap.size+2) wr left oj tp')∧Hid (∃c,c+cnt≤129∧MapAt encI wr w.heap.size c (gone left (thm T tp')))∧w.heap.size+3≤wr.heap.size) (fun wr=>wr.rangeLeft mb (w.heap.size+2))
 case atStart=>
  refine ⟨_,_,_,_,RR2,LI,lH ?_,by omega⟩;obtain ⟨c,hc,hm⟩:=LI.out.map;have e:=gone_thm T tp (fun _=>0);rw [e] at hm;rcases hm.has_one (t:=130) (e:=142) Tryz.underlying130 with ⟨h0,_⟩|⟨_,x,y,h0⟩
  ·exact ⟨c,by omega,by rw [e];exact hm⟩
  ·cases h0
 case round=>
  obtain ⟨left,cnt,oj,tp',HRA,HMI,HCN,hsz⟩:=hrel;rcases HRA.out.next 0 with ⟨_,hno,hnx⟩|⟨x,y,w4,cnt',hms,hls,hnx,hra',hlt',f4,hs4,hen⟩
  ·have hfin:TreeAt wr oj K' (w.heap.size+1) T:=by
    obtain ⟨c,hc,hm⟩:=HMI.out.map;have hend:gone left (thm T tp')=thm T tp':=gone_end (E:=encI) (fun z u hz=>by
     unfold thm at hz;split at hz
     ·rename_i h0
      cases hT:T z.toNat with
      | none=>rw [hT] at hz;cases hz
      | some nd=>
       have:=OK.out.lt hT;show I64 z;unfold I64;omega
     ·cases hz) hno
    rw [hend] at hm;have hcc:=MapAt.count_eq (t:=130) (e:=142) Tryz.underlying130 _ _ HUM.out hm (fun z=>by
     unfold thm;split
     ·cases T z.toNat<;>rfl
     ·rfl)
    rw [← hcc] at hm;exact ⟨w.heap.size,tp',HMI.out.ot,HMI.out.cs,HMI.out.om,hm,fun k nd hk=>HMI.out.done k nd hk (hno k (by
     have:=OK.out.lt hk;show I64 (k:Int);unfold I64;omega))⟩
   have HFIN:=lH hfin;clear hno hfin;go_wp2_with fail;exact HQ.out _ _ _ HMI.out.step HFIN.out
  ·obtain ⟨k,nd,hk,rfl,rfl⟩:∃(k:Nat) (nd:Node),T k=some nd∧x=k∧y=tp k:=by
    unfold thm at hms;split at hms
    ·rename_i h0
     cases hT:T x.toNat with
     | none=>rw [hT] at hms;cases hms
     | some nd=>
      rw [hT] at hms;exact ⟨x.toNat,nd,hT,by omega,by cases hms;rfl⟩
    ·cases hms
   have hk8:=(OK.out.lt hk).2;have hrlt:=HRA.out.lt;have s4:Step (fun c=>c=0) wr oj w4 oj:=⟨f4.mono (fun j _ e=>by rw [e];exact HMI.out.orr),fun _ _=>rfl,fun j hj=>HMI.out.step.fresh j (Nat.le_trans f4.size hj)⟩
   have M4:=lH (HMI.out.steps s4 (HMI.out.step.own_turn HMI.out.br f4) (fun c e=>e) hrlt);have C4:Hid (∃c,c+cnt≤129∧MapAt encI w4 w.heap.size c (gone left (thm T tp'))):=lH (by
    obtain ⟨c,h1,h2⟩:=HCN.out;exact ⟨c,h1,h2.fr f4 (by omega)⟩)
   have R4:=lH hra';have HLE:Hid (wr.rangeLeft mb (w.heap.size+2)=cnt):=lH HRA.out.left_eq;have hnx':(Instr.next (.pointer (some ⟨w.heap.size+2,0,none⟩)) false 0).run Tryz.prog wr=.ok (.tuple #[.bool true,.int .i64 k,.pointer (some ⟨tp k,0,none⟩)]) w4:=hnx;have hen':(Instr.entry (.pointer (some ⟨w.heap.size+2,0,none⟩))).run Tryz.prog w4=.ok (.tuple #[.int .i64 k,.pointer (some ⟨tp k,0,none⟩)]) w4:=hen;have HTH:=lH (HTG.out k nd hk);have HK:=lH hk;have HLS:=lH hls;have p2:w4.cell? ⟨tp k,2,none⟩=some (.bool nd.dir):=by
    obtain ⟨vin,kx⟩:=(HTG.out k nd hk).cells;rw [cell_at (M4.out.step.fr.block_of kx (fun e=>e))];rfl
   have KC4:=lH M4.out.cs;have hlt4:=lt_of_block M4.out.cs;have HSZ4:Hid (w4.heap.size=wr.heap.size):=lH hs4;have hsz4:w.heap.size+3≤w4.heap.size:=(by omega)
   have HEND:Hid (∀(wE:World) (yb:Nat) (oE:Nat→Nat),Step (fun _=>False) w4 oj wE oE→Step (fun _=>False) w o wE oE→ThingAt wE oE K' k yb nd (kidN T k) (kidm T k)→Fr No w4 wE→∃w5,(Instr.mapUpdate 130 (.map (some w.heap.size)) (.int .i64 k) (.pointer (some ⟨yb,0,none⟩))).run Tryz.prog wE=.ok () w5∧Hid (∃(left:Int→Bool) (cnt:Nat) (oj tp':Nat→Nat),Hid (RangeAt encI w5 mb (w.heap.size+2) (things T) (thm T tp) left cnt)∧Hid (TrMid w o T K' (w.heap.size+1) w.heap.size (w.heap.size+2) w5 left oj tp')∧Hid (∃c,c+cnt≤129∧MapAt encI w5 w.heap.size c (gone left (thm T tp')))∧w.heap.size+3≤w5.heap.size)∧Hid (w5.rangeLeft mb (w.heap.size+2)<wr.rangeLeft mb (w.heap.size+2))):=lH (by
    intro wE yb oE sE sW hth fE;have ME:=M4.out.steps sE sW (fun c e=>e.elim) (by omega);obtain ⟨c,hc,hmE⟩:∃c,c+cnt≤129∧MapAt encI wE w.heap.size c (gone left (thm T tp')):=by
     obtain ⟨c,h1,h2⟩:=C4.out;exact ⟨c,h1,h2.fr fE id⟩
    obtain ⟨w5,hu,M5,f5,c5,hc5,hm5⟩:=ME.put HK.out hk8 HLS.out hth ⟨c,Nat.le_refl _,hmE⟩ (by omega);have RE:=(R4.out.fr fE id id).fr f5 (by omega) (by omega);have hz:=fE.size;have hz5:=f5.size;exact ⟨w5,hu,lH ⟨_,cnt',oE,_,lH RE,lH M5,lH ⟨c5,by omega,hm5⟩,by omega⟩,lH (by rw [RE.left_eq,HLE.out];exact hlt')⟩)
   clear hnx hen hra' f4 hms hls s4 HMI HCN HRA hs4 hlt';obtain ⟨up,nm,dir⟩:=nd;dsimp only at p2;cases dir with
   | false=>
    have kx:w.heap[tp k]? =some (.cells #[.int .i64 up,.string (ba nm),.bool false,.map none] 141 (0,0)):=HTH.out.2;have KX4:=lH (M4.out.step.fr.block_of kx (fun e=>e));have pA:∀o,(w4.alloc o).cell? ⟨tp k,2,none⟩=some (.bool false):=fun o=>((Fr.refl (S:=No) w4).alloc o).cell_of p2 id;have fE:Fr No w4 (w4.alloc (.cells #[.int .i64 up,.string (ba nm),.bool false,.map none] 141)):=(Fr.refl w4).alloc _;have kE:=new_at w4 (.cells #[.int .i64 up,.string (ba nm),.bool false,.map none] 141);have cE:(w4.alloc (.cells #[.int .i64 up,.string (ba nm),.bool false,.map none] 141)).cell? ⟨w.heap.size+1,0,none⟩=some (.map (some w.heap.size)):=(by rw [cell_at (fE.block_of KC4.out id)];rfl)
    obtain ⟨w5,hu,HREL,HME⟩:=HEND.out _ w4.heap.size (paint oj w4.heap.size (K'+1000+k)) ((Step.no (C:=fun _=>False) M4.out.step.fresh fE).painted (Nat.le_refl _) (lt_of_block kE)) ((M4.out.step.frNo fE).painted (by omega) (lt_of_block kE)) ⟨paint_same _ _ _,kE⟩ fE;clear kx fE kE;go_wp2_with (refine wpList_load_row rfl 141 (.tmp 26) rfl (tp k) rfl 141 _ (0,0) _ KX4.out Tryz.underlying141 rfl Tryz.size141 ?_);go_roundw
    case rel=>exact HREL.out
    case measure=>exact HME.out
   | true=>
    obtain ⟨ib,_,kx,hin⟩:∃ib,o ib=K+2000+k∧w.heap[tp k]? =some (.cells #[.int .i64 up,.string (ba nm),.bool true,.map (some ib)] 141 (0,0))∧MapAt encS w ib (kidN T k) (kidm T k):=HTH.out.2;have KX4:=lH (M4.out.step.fr.block_of kx (fun e=>e));have pA:∀o,(w4.alloc o).cell? ⟨tp k,2,none⟩=some (.bool true):=fun o=>((Fr.refl (S:=No) w4).alloc o).cell_of p2 id;have fE:Fr No w4 ((w4.alloc (.cells #[.int .i64 up,.string (ba nm),.bool true,.map (some (w4.heap.size+1))] 141)).alloc (.map #[] 0)):=((Fr.refl w4).alloc _).alloc _;have kE:((w4.alloc (.cells #[.int .i64 up,.string (ba nm),.bool true,.map (some (w4.heap.size+1))] 141)).alloc (.map #[] 0)).heap[w4.heap.size]? =some (.cells #[.int .i64 up,.string (ba nm),.bool true,.map (some (w4.heap.size+1))] 141 (0,0)):=((Fr.refl (S:=No) _).alloc _).block_of (new_at w4 _) id;have mE:MapAt encS ((w4.alloc (.cells #[.int .i64 up,.string (ba nm),.bool true,.map (some (w4.heap.size+1))] 141)).alloc (.map #[] 0)) (w4.heap.size+1) 0 (fun _=>none):=by
     have:=MapAt.made encS (w4.alloc (.cells #[.int .i64 up,.string (ba nm),.bool true,.map (some (w4.heap.size+1))] 141));rwa [heap_size_alloc] at this
    have hinE:=(hin.fr M4.out.step.fr (fun e=>e)).fr fE id;have hsE:((w4.alloc (.cells #[.int .i64 up,.string (ba nm),.bool true,.map (some (w4.heap.size+1))] 141)).alloc (.map #[] 0)).heap.size=w4.heap.size+2:=(by simp)
    have p3:((w4.alloc (.cells #[.int .i64 up,.string (ba nm),.bool true,.map (some (w4.heap.size+1))] 141)).alloc (.map #[] 0)).cell? ⟨tp k,3,none⟩=some (.map (some ib)):=(by rw [cell_at (fE.block_of KX4.out id)];rfl)
    have hilt:ib<w4.heap.size:=(hin.fr M4.out.step.fr (fun e=>e)).lt;obtain ⟨wi,hr2,R2,f2,hs2⟩:=hinE.range (t:=139) (e:=3) Tryz.underlying139;rw [hsE] at hr2 R2 hs2;have FI:=lH (fE.trans f2 (fun _ _ e=>e));have KI:=lH (f2.block_of kE id);have MI:Hid (MapAt encS wi (w4.heap.size+1) 0 (gone (fun x=>(kidm T k x).isSome) (kidm T k))):=lH (by rw [gone_start];exact mE.fr f2 id);have RI:=lH R2;have HIN:=lH hin;have HS2:=lH hs2;clear kx hin fE kE mE hinE hsE R2 f2 hs2;go_wp2_with (refine wpList_load_row rfl 141 (.tmp 26) rfl (tp k) rfl 141 _ (0,0) _ KX4.out Tryz.underlying141 rfl Tryz.size141 ?_);obtain ⟨wo,rfl⟩:∃wo:World,wo=wr:=⟨_,rfl⟩
    have hkn:kidN T k≤129:=by
     unfold kidN;exact Nat.le_trans List.countP_le_length (by simp)
    go_loopw [] (fun wr=>∃(left2:ByteArray→Bool) (cnt2:Nat),Hid (RangeAt encS wr ib (w4.heap.size+2) (kidN T k) (kidm T k) left2 cnt2)∧Hid (∃c2,c2+cnt2≤kidN T k∧MapAt encS wr (w4.heap.size+1) c2 (gone left2 (kidm T k)))∧Hid (wr.heap[w4.heap.size]? =some (.cells #[.int .i64 up,.string (ba nm),.bool true,.map (some (w4.heap.size+1))] 141 (0,0)))∧Hid (Fr No w4 wr)∧w4.heap.size+3≤wr.heap.size) (fun wr=>wr.rangeLeft ib (w4.heap.size+2))
    case atStart=>exact ⟨_,_,RI,lH ⟨0,by omega,MI.out⟩,KI,FI,by have:=HS2.out;omega⟩
    case round=>
     obtain ⟨left2,cnt2,HRB,HCB,HKB,HFB,hszb⟩:=hrel;rcases HRB.out.next 0 with ⟨_,hno2,hnx2⟩|⟨s,kk,w6,cnt3,hms2,hls2,hnx2,hra2,hlt2,f6,hs6,hen2⟩
     ·have mfin:MapAt encS wr (w4.heap.size+1) (kidN T k) (kidm T k):=by
       obtain ⟨c2,_,hm2⟩:=HCB.out;rw [gone_end (E:=encS) (fun z u hz=>(HIN.out.good hz).1) hno2] at hm2;rw [← MapAt.count_eq (t:=139) (e:=3) Tryz.underlying139 _ _ HIN.out hm2 (fun _=>rfl)] at hm2;exact hm2
      have hlb:=lt_of_block HKB.out;have hmb2:=mfin.lt;have cE:wr.cell? ⟨w.heap.size+1,0,none⟩=some (.map (some w.heap.size)):=(by rw [cell_at (HFB.out.block_of KC4.out id)];rfl)
      obtain ⟨w5,hu,HREL,HME⟩:=HEND.out wr w4.heap.size (paint (paint oj (w4.heap.size+1) (K'+2000+k)) w4.heap.size (K'+1000+k))
       (((Step.no (C:=fun _=>False) M4.out.step.fresh HFB.out).painted (b:=w4.heap.size+1) (c:=K'+2000+k) (by omega) hmb2).painted (Nat.le_refl _) hlb)
       (((M4.out.step.frNo HFB.out).painted (b:=w4.heap.size+1) (c:=K'+2000+k) (by omega) hmb2).painted (by omega) hlb)
       ⟨paint_same _ _ _,w4.heap.size+1,by rw [paint_other _ _ (by omega),paint_same],HKB.out,mfin⟩ HFB.out
      clear hno2 mfin;go_wp2_with fail;go_roundw
      case rel=>exact HREL.out
      case measure=>exact HME.out
     ·obtain ⟨c2,hc2,hm2⟩:=HCB.out;have hgs:=(HIN.out.good hms2).1;obtain ⟨w8,hu8,m8,f8⟩:=(hm2.fr f6 (by omega)).put s kk hgs trivial (by omega) (t:=139) (e:=3) Tryz.underlying139;have e8:gone left2 (kidm T k) s=none:=if_pos hls2;rw [e8,gone_next hms2 (kidm T k) hms2 (fun _ _=>rfl)] at m8;have k6:=f6.block_of HKB.out (by omega);have c3:w6.cell? ⟨w4.heap.size,3,none⟩=some (.map (some (w4.heap.size+1))):=(by rw [cell_at k6];rfl)
      have hnx2':(Instr.next (.pointer (some ⟨w4.heap.size+2,0,none⟩)) false 0).run Tryz.prog wr=.ok (.tuple #[.bool true,.string s,.int .i64 kk]) w6:=hnx2;have hen2':(Instr.entry (.pointer (some ⟨w4.heap.size+2,0,none⟩))).run Tryz.prog w6=.ok (.tuple #[.string s,.int .i64 kk]) w6:=hen2;have hu8':(Instr.mapUpdate 139 (.map (some (w4.heap.size+1))) (.string s) (.int .i64 kk)).run Tryz.prog w6=.ok () w8:=hu8;have R8:=lH (hra2.fr f8 (by omega) (by omega));have K8:=lH (f8.block_of k6 (by omega));have F8:Hid (Fr No w4 w8):=lH ((HFB.out.trans f6 (fun j hj e=>by omega)).trans f8 (fun j hj e=>by omega));have M8:=lH m8;have HLE2:Hid (wr.rangeLeft ib (w4.heap.size+2)=cnt2):=lH HRB.out.left_eq;have HLT2:=lH hlt2;have hs8:w4.heap.size+3≤w8.heap.size:=Nat.le_trans hszb (Nat.le_trans f6.size f8.size);simp only [Option.isSome_none,Bool.false_eq_true,if_false] at M8;clear hnx2 hen2 hu8 hra2 hlt2 f6 f8 hm2 m8 k6 hs6 hms2 hls2;go_wp2_with fail;go_roundw
      case rel=>exact ⟨_,cnt3,R8,lH ⟨c2+1,by have:=HLT2.out;omega,M8.out⟩,K8,F8,hs8⟩
      case measure=>
       rw [R8.out.left_eq,HLE2.out];exact HLT2.out
theorem gtree_ (o:Nat→Nat) (K K' n:Nat) (L:Plc) (S:St) (w:World) (h:StateAt w o K L S n) (ok:StOk S) (hf:Fresh w o):Calls Tryz.prog 31 #[.pointer (some ⟨L.s,0,none⟩)] w (TrClonePost w o K' S.T):=by
 have HMD:=lH (gmade_ o K n L S w h);have c9:w.cell? ⟨L.s,9,none⟩=some (.pointer (some ⟨L.tr,0,none⟩)):=h.cell 9;have H2:=lH (gtclone_ o K K' L.tr S.T w h.tree ok.tree hf);unfold TrClonePost at*;clear h hf;go_enter Tryz.func31,Tryz.ntmps31;go_wp2_with fail;refine HMD.out.mono ?_;rintro e w1 ⟨rfl,hw⟩;have hw':=hw.symm;subst hw';go_wp2_with fail;refine H2.out.mono ?_;rintro e w2 ⟨t',o',rfl,s',t2⟩;go_wp2_with fail
 go_ret
 exact ⟨t',o',rfl,s',t2⟩
def cmpI (a b:Int):Int:=if a<b then -1 else if b<a then 1 else 0
def stpO (x y:Stp):Int:=if cmpI x.1 y.1≠0 then cmpI x.1 y.1 else if cmpI x.2.1 y.2.1≠0 then cmpI x.2.1 y.2.1 else cmpI x.2.2 y.2.2
theorem cmpI_neg {a b:Int}:cmpI a b<0↔a<b:=by unfold cmpI;split<;>(try split)<;>omega
theorem cmpI_zero {a b:Int}:cmpI a b=0↔a=b:=by unfold cmpI;split<;>(try split)<;>omega
theorem stpO_lt (x y:Stp):stpO x y<0↔(x.1<y.1∨x.1=y.1∧(x.2.1<y.2.1∨x.2.1=y.2.1∧x.2.2<y.2.2)):=by
 unfold stpO;have h1:= @cmpI_neg x.1 y.1;have h2:= @cmpI_zero x.1 y.1;have h3:= @cmpI_neg x.2.1 y.2.1;have h4:= @cmpI_zero x.2.1 y.2.1;have h5:= @cmpI_neg x.2.2 y.2.2;split
 ·omega
 ·split<;>omega
theorem stpO_swo:Go.Sort.SWO (ltOf stpO) where
 irrefl x:=by
  show decide (stpO x x<0)=false;rw [decide_eq_false_iff_not,stpO_lt];omega
 trans x y z h1 h2:=by
  have h1:decide (stpO x y<0)=true:=h1;have h2:decide (stpO y z<0)=true:=h2;show decide (stpO x z<0)=true;rw [decide_eq_true_eq,stpO_lt] at*;omega
 ntrans x y z h1 h2:=by
  have h1:decide (stpO x y<0)=false:=h1;have h2:decide (stpO y z<0)=false:=h2;show decide (stpO x z<0)=false;rw [decide_eq_false_iff_not,stpO_lt] at*;omega
theorem stpO_total (x y:Stp) (h1:ltOf stpO x y=false) (h2:ltOf stpO y x=false):x=y:=by
 have h1:decide (stpO x y<0)=false:=h1;have h2:decide (stpO y x<0)=false:=h2;rw [decide_eq_false_iff_not,stpO_lt] at*;obtain ⟨a,b,c⟩:=x;obtain ⟨a',b',c'⟩:=y;simp only [Prod.mk.injEq];dsimp only at h1 h2;omega
theorem nan_ (a:Int) (w:World):Calls Tryz.prog 174 #[.int .i64 a] w fun e w'=>e=.returned (.bool false)∧w'=w:=by
 go_enter Tryz.func174,Tryz.ntmps174;go_wp2_with fail
 go_ret
 exact ⟨by simp,rfl⟩
theorem cmp_ (a b:Int) (w:World):Calls Tryz.prog 121 #[.int .i64 a,.int .i64 b] w fun e w'=>e=.returned (.int .i64 (cmpI a b))∧w'=w:=by
 have H1:=lH (nan_ a w);have H2:=lH (nan_ b w);by_cases h1:a<b
 ·have e:cmpI a b= -1:=if_pos h1;rw [e];clear e;go_enter Tryz.func121,Tryz.ntmps121;go_wp2_with fail;refine H1.out.mono ?_;rintro e w1 ⟨rfl,hw⟩;subst hw;go_wp2_with fail;refine H2.out.mono ?_;rintro e w2 ⟨rfl,hw⟩;subst hw;go_wp2_with fail
  go_ret
  exact ⟨rfl,rfl⟩
 ·by_cases h2:b<a
  ·have e:cmpI a b=1:=(if_neg h1).trans (if_pos h2);rw [e];clear e;go_enter Tryz.func121,Tryz.ntmps121;go_wp2_with fail;refine H1.out.mono ?_;rintro e w1 ⟨rfl,hw⟩;subst hw;go_wp2_with fail;refine H2.out.mono ?_;rintro e w2 ⟨rfl,hw⟩;subst hw;go_wp2_with fail
   go_ret
   exact ⟨rfl,rfl⟩
  ·have e:cmpI a b=0:=(if_neg h1).trans (if_neg h2);rw [e];clear e;go_enter Tryz.func121,Tryz.ntmps121;go_wp2_with fail;refine H1.out.mono ?_;rintro e w1 ⟨rfl,hw⟩;subst hw;go_wp2_with fail;refine H2.out.mono ?_;rintro e w2 ⟨rfl,hw⟩;subst hw;go_wp2_with fail
   go_ret
   exact ⟨rfl,rfl⟩
def or3 (x y z:Int):Int:=if x≠0 then x else if y≠0 then y else z
theorem or3_ (b:Nat) (x y z:Int) (w:World) (c0:w.cell? ⟨b,0,none⟩=some (.int .i64 x)) (c1:w.cell? ⟨b,1,none⟩=some (.int .i64 y)) (c2:w.cell? ⟨b,2,none⟩=some (.int .i64 z)):
  Calls Tryz.prog 120 #[.slice (some ⟨b,0,none⟩) 3 3] w fun e w'=>e=.returned (.int .i64 (or3 x y z))∧w'=w:=by
 by_cases h1:x=0
 ·subst h1;by_cases h2:y=0
  ·subst h2;have e:or3 0 0 z=z:=(by simp [or3])
   rw [e];clear e;by_cases h3:z=0
   ·subst h3;go_enter Tryz.func120,Tryz.ntmps120;go_wp2_with fail;refine wp_loop_rounds 4 ?_;rw [rounds_succ];go_wp2_with fail;rw [rounds_succ];go_wp2_with fail;rw [rounds_succ];go_wp2_with fail;rw [rounds_succ];go_wp2_with fail
    go_ret
    exact ⟨rfl,rfl⟩
   ·have q:(z !=0)=true:=by simpa using h3
    clear h3;go_enter Tryz.func120,Tryz.ntmps120;go_wp2_with fail;refine wp_loop_rounds 4 ?_;rw [rounds_succ];go_wp2_with fail;rw [rounds_succ];go_wp2_with fail;rw [rounds_succ];go_wp2_with fail
    go_ret
    exact ⟨rfl,rfl⟩
  ·have e:or3 0 y z=y:=by simp [or3,h2]
   have q:(y !=0)=true:=(by simpa using h2)
   rw [e];clear e h2;go_enter Tryz.func120,Tryz.ntmps120;go_wp2_with fail;refine wp_loop_rounds 4 ?_;rw [rounds_succ];go_wp2_with fail;rw [rounds_succ];go_wp2_with fail
   go_ret
   exact ⟨rfl,rfl⟩
 ·have e:or3 x y z=x:=by simp [or3,h1]
  have q:(x !=0)=true:=by simpa using h1
  rw [e];clear e h1;go_enter Tryz.func120,Tryz.ntmps120;go_wp2_with fail;refine wp_loop_rounds 4 ?_;rw [rounds_succ];go_wp2_with fail
  go_ret
  exact ⟨rfl,rfl⟩
theorem or3_stp (x y:Stp):or3 (cmpI x.1 y.1) (cmpI x.2.1 y.2.1) (cmpI x.2.2 y.2.2)=stpO x y:=rfl
theorem order_ (x y:Stp) (w:World):Calls Tryz.prog 64 #[stpV x,stpV y] w fun e w'=>e=.returned (.int .i64 (stpO x y))∧w'=(((w.alloc (.cells #[.int .i64 x.1,.int .i64 x.2.1,.int .i64 x.2.2] 46)).alloc (.cells #[.int .i64 y.1,.int .i64 y.2.1,.int .i64 y.2.2] 46)).alloc (.cells #[.int .i64 (cmpI x.1 y.1),.int .i64 (cmpI x.2.1 y.2.1),.int .i64 (cmpI x.2.2 y.2.2)] 3)).drew:=by
 have mixed:Tryz.prog.follows .mixedOrders=true:=by kernel_rfl
 have f1:Fr No (w.alloc (.cells #[.int .i64 x.1,.int .i64 x.2.1,.int .i64 x.2.2] 46)) ((w.alloc (.cells #[.int .i64 x.1,.int .i64 x.2.1,.int .i64 x.2.2] 46)).alloc (.cells #[.int .i64 y.1,.int .i64 y.2.1,.int .i64 y.2.2] 46)):=(Fr.refl _).alloc _;have k0:=f1.block_of (new_at w (.cells #[.int .i64 x.1,.int .i64 x.2.1,.int .i64 x.2.2] 46)) id;have k1:=new_at (w.alloc (.cells #[.int .i64 x.1,.int .i64 x.2.1,.int .i64 x.2.2] 46)) (.cells #[.int .i64 y.1,.int .i64 y.2.1,.int .i64 y.2.2] 46);rw [show (w.alloc (.cells #[.int .i64 x.1,.int .i64 x.2.1,.int .i64 x.2.2] 46)).heap.size=w.heap.size+1 by simp] at k1;rw [← or3_stp];obtain ⟨xc,xl,xn⟩:=x;obtain ⟨yc,yl,yn⟩:=y;unfold stpV;dsimp only at k0 k1 ⊢;clear f1;go_enter Tryz.func64,Tryz.ntmps64;go_wp2_with fail;generalize hwA:(w.alloc (.cells #[.int .i64 xc,.int .i64 xl,.int .i64 xn] 46)).alloc (.cells #[.int .i64 yc,.int .i64 yl,.int .i64 yn] 46)=wA at*;have HWA:=lH hwA;clear hwA;generalize w.heap.size=b0 at*;have a0:wA.cell? ⟨b0,0,none⟩=some (.int .i64 xc):=by rw [cell_at k0];rfl
 have a1:wA.cell? ⟨b0,1,none⟩=some (.int .i64 xl):=by rw [cell_at k0];rfl
 have a2:wA.cell? ⟨b0,2,none⟩=some (.int .i64 xn):=by rw [cell_at k0];rfl
 have b0':wA.cell? ⟨b0+1,0,none⟩=some (.int .i64 yc):=by rw [cell_at k1];rfl
 have b1:wA.cell? ⟨b0+1,1,none⟩=some (.int .i64 yl):=by rw [cell_at k1];rfl
 have b2:wA.cell? ⟨b0+1,2,none⟩=some (.int .i64 yn):=by rw [cell_at k1];rfl
 clear k0 k1;refine wp_region_text mixed (fun W=>W=wA.drew) [15,16,17] (by kernel_rfl) (by kernel_rfl) (by kernel_rfl) (by kernel_rfl) (fun _ _ d _ _ h=>by cases d<;>exact h) rfl ?_;repeat (first
  | refine seqX_skip (by rfl) ?_
  | (refine seqX_val (v:= ?_) (by rfl) (by rfl) ?_ ?_
     rotate_left 1
     (intro W;go_simp;(try with_reducible rfl))
     simp only [Act.put,lsA,lsZ,lsS])
  | (refine seqX_call (v:=.int .i64 (cmpI xc yc)) 121 #[.int .i64 xc,.int .i64 yc] (by rfl) (by kernel_rfl) (by rfl) ?_ (fun w' hS=>(cmp_ _ _ _).mono (fun e w'' h=>⟨h.1,h.2.trans hS⟩)) ?_
     focus (intro W;go_simp;done)
     simp only [Act.put,lsA,lsZ,lsS])
  | (refine seqX_call (v:=.int .i64 (cmpI xl yl)) 121 #[.int .i64 xl,.int .i64 yl] (by rfl) (by kernel_rfl) (by rfl) ?_ (fun w' hS=>(cmp_ _ _ _).mono (fun e w'' h=>⟨h.1,h.2.trans hS⟩)) ?_
     focus (intro W;go_simp;done)
     simp only [Act.put,lsA,lsZ,lsS])
  | (refine seqX_call (v:=.int .i64 (cmpI xn yn)) 121 #[.int .i64 xn,.int .i64 yn] (by rfl) (by kernel_rfl) (by rfl) ?_ (fun w' hS=>(cmp_ _ _ _).mono (fun e w'' h=>⟨h.1,h.2.trans hS⟩)) ?_
     focus (intro W;go_simp;done)
     simp only [Act.put,lsA,lsZ,lsS])
  | (refine seqX_valS (v:= ?_) (by rfl) (by kernel_rfl) (by rfl) ?_ ?_
     rotate_left 1
     (intro W hS;have hS':W=wA.drew:=hS;subst hS';go_simp;(try with_reducible rfl))
     simp only [Act.put,lsA,lsZ,lsS]))
 intro W hS;obtain rfl:W=wA.drew:=hS;simp only [List.reverse_cons,List.reverse_nil,List.nil_append,List.cons_append];go_wp2_with fail;have k5:=new_at wA (.cells #[.int .i64 (cmpI xc yc),.int .i64 (cmpI xl yl),.int .i64 (cmpI xn yn)] 3);refine (or3_ _ (cmpI xc yc) (cmpI xl yl) (cmpI xn yn) _ ((Fr.refl (S:=No) _).drew.cell_of (by rw [cell_at k5];rfl) id) ((Fr.refl (S:=No) _).drew.cell_of (by rw [cell_at k5];rfl) id) ((Fr.refl (S:=No) _).drew.cell_of (by rw [cell_at k5];rfl) id)).mono ?_;rintro e w2 ⟨rfl,hw⟩;subst hw;go_wp2_with fail
 go_ret
 exact ⟨rfl,by rw [HWA.out]⟩
def useC (U:Stp→Option Us) (x:Stp):List Value:= [.int .i64 x.1,.int .i64 x.2.1,.int .i64 x.2.2,.int .i64 ((U x).getD (0,0,0)).1,.int .i64 ((U x).getD (0,0,0)).2.1,.int .i64 ((U x).getD (0,0,0)).2.2]
theorem useCmp_ (x y:Stp) (s1 l1 b1 s2 l2 b2:Int) (W:World):Calls Tryz.prog 63 #[.agg #[.int .i64 x.1,.int .i64 x.2.1,.int .i64 x.2.2,.int .i64 s1,.int .i64 l1,.int .i64 b1],.agg #[.int .i64 y.1,.int .i64 y.2.1,.int .i64 y.2.2,.int .i64 s2,.int .i64 l2,.int .i64 b2]] W fun e w'=>e=.returned (.int .i64 (stpO x y))∧∃q os',w'=Go.Sort.grow (W.drewN q) os':=by
 have HO:=fun W'=>order_ x y W';unfold stpV at HO;go_enter Tryz.func63,Tryz.ntmps63;go_wp2_with (go_at_call 64;refine (HO _).mono ?_;rintro e w' ⟨rfl,hw⟩;subst hw)
 go_ret
 exact ⟨rfl,1,_,by
  simp only [Go.Sort.alloc_eq_grow,Go.Sort.grow_grow];rfl⟩
end Go.Proofs.YtlcojhddnpmgmaaGreat
namespace Go.Proofs.YtlcojhddnpmgmaaGreat
open Go.RowKit Go.Sort Go.Shelf
theorem flatK_gen {α:Type} [Inhabited α] (c:α→List Value) (n:Nat) (hc:∀x,(c x).length=n) (hn:0<n) (ss:List α):flatK c n ss.toArray=(ss.flatMap c).toArray:=by
 have hlen:=flat_len hc ss;apply ext_get!
 ·rw [size_flatK];simp [hlen]
 ·intro t ht;rw [size_flatK] at ht;rw [get_flatK _ _ _ _ ht];have h1:t / n<ss.length:=by
   rw [List.size_toArray] at ht;exact (Nat.div_lt_iff_lt_mul hn).2 ht
  have h2:t % n<n:=Nat.mod_lt _ hn;have h3:ss[t / n]? =some ss[t / n]:=List.getElem?_eq_getElem h1;have h4:(c ss[t / n])[t % n]? =some ((c ss[t / n])[t % n]'(by rw [hc];exact h2)):=List.getElem?_eq_getElem _;have h5:=flat_get hc ss (t / n) _ h3 (t % n) _ h4;rw [show t / n*n+t % n=t by rw [Nat.mul_comm];exact Nat.div_add_mod t n] at h5;have e1:ss.toArray[t / n]! =ss[t / n]:=by simp [h1]
  rw [e1];rw [show ((ss.flatMap c).toArray)[t]! =((ss.flatMap c)[t]?).getD default by simp,h5];rw [Option.getD_some,List.getElem!_eq_getElem?_getD,h4];rfl
theorem holdsK_gen {α:Type} [Inhabited α] {c:α→List Value} {n:Nat} (hc:∀x,(c x).length=n) (hn:0<n) {t:TypeId} {w:World} {g:Nat} {ss:List α} {cur:Array Value} (hh:w.heap[g]? =some (.cells cur t (0,0))) (ht:cur.toList.take (ss.length*n)=ss.flatMap c):HoldsK c n w g 0 ss.toArray:=by
 intro j hj;rw [size_flatK] at hj;have hj':j<ss.length*n:=by simpa using hj
 refine ⟨?_,by simp [World.frozen?,hh]⟩;rw [flatK_gen c n hc hn];have hlen:=flat_len hc ss;have h1:(cur.toList.take (ss.length*n))[j]? =(ss.flatMap c)[j]? :=by rw [ht]
 rw [List.getElem?_take_of_lt hj'] at h1;simp only [World.cell?,hh,Nat.zero_add];simp only [Option.isSome_none,Bool.false_eq_true,if_false];rw [← Array.getElem?_toList,h1];rw [List.getElem?_eq_getElem (by omega)];simp [hlen,hj']
def stpLe (x y:Stp):Bool:= !(ltOf stpO y x)
theorem useC_len (U:Stp→Option Us) (x:Stp):(useC U x).length=6:=rfl
theorem useC_one (U:Stp→Option Us) (x:Stp):∀v∈useC U x,v.oneCell'=true:=fun v hv=>by
 simp only [useC,List.mem_cons,List.not_mem_nil,or_false] at hv;rcases hv with rfl|rfl|rfl|rfl|rfl|rfl<;>rfl
theorem sortU_ (U:Stp→Option Us) (ss:List Stp) (base:Nat) (v:Value) (w:World) (h:w.ownsRow base 80 6 v ss.length (ss.flatMap (useC U))) (hs:ss.length<10000000):
  Calls Tryz.prog 62 #[v,.func (.func 63) #[] #[]] w fun e w'=>e=.returned (.tuple #[])∧Fr (fun k=>base≤k) w w'∧RowNew (useC U) 6 80 w' base v (ss.mergeSort stpLe):=by
 rcases h.2 with ⟨rfl,h0⟩|⟨g,cap,cur,rfl,hb,hh,h1,h2,h3,h4⟩
 ·have hs0:=List.eq_nil_of_length_eq_zero h0;subst hs0;have hcon:=AnyF.slices_SortFunc_none (P:=Tryz.prog) (ρ:=Tryz.sortU_ren) {Tryz.sortU with} none 0 (.func (.func 63) #[] #[]) w;change Calls Tryz.prog 62 _ _ _ at hcon;refine hcon.mono ?_;rintro e w' ⟨rfl,rfl⟩;exact ⟨rfl,Fr.refl _,.inl ⟨rfl,by simp⟩⟩
 ·have hH:=holdsK_gen (useC_len U) (by omega) hh h4;have eg:∀args w,(callFunc 63 args).run Tryz.prog w=.ok (.enter 63 args) w:=enters_of Tryz.func63 (by kernel_rfl) rfl;have hcon:=AnyQ.slices_SortFunc_total Tryz.sortU 6 Tryz.isAgg80 Tryz.sizeOf80 (useC U) (useC_len U) (fun x v hv=>useC_one U x v hv) stpO stpO_swo 63 #[] g 0 cap ss.toArray w eg
   (fun m os dk _ x y=>useCmp_ x y _ _ _ _ _ _ _) hH (lt_of_block hh) (by simp;omega) stpO_total
  change Calls Tryz.prog 62 _ _ _ at hcon;rw [show ss.toArray.size=ss.length by simp,show ss.toArray.toList=ss by simp] at hcon;refine hcon.mono ?_;rintro e w' ⟨rfl,n,os,rfl⟩;have hl:(ss.mergeSort stpLe).length=ss.length:=List.length_mergeSort _;have hfin:HoldsK (useC U) 6 (sortWorldK (useC U) 6 w g 0 n (ss.mergeSort stpLe).toArray os) g 0 (ss.mergeSort stpLe).toArray:=by
   unfold sortWorldK;refine holdsK_grow _ _ _ _ _ _ _ ?_ (holdsK_putRowK _ _ _ _ _ _ _ (holdsK_ahead _ _ _ n _ _ _ hH) (by simp [hl]));unfold putRowK;simpa [Go.Sort.ahead] using lt_of_block hh
  refine ⟨rfl,(fr_sortedK _).mono (fun k _ e=>by rw [e];exact hb),.inr ⟨g,cap,by rw [hl],h2,hb,⟨⟨_,heap_sortedK _ hh,?_⟩,by rw [hl];exact h1,fun j x hj i u hu=> ?_⟩⟩⟩
  ·simp only [Go.Sort.putCells,Array.size_mapIdx];omega
  ·have hjl:j<(ss.mergeSort stpLe).length:=(List.getElem?_eq_some_iff.1 hj).1;have hi6:i<6:=(List.getElem?_eq_some_iff.1 hu).1;have hc:=(hfin.cell (i:=j) (c:=i) (by simpa using hjl) hi6).1;rw [Nat.zero_add] at hc;refine hc.trans ?_;have e1:(ss.mergeSort stpLe).toArray[j]! =x:=by
    rw [List.getElem?_eq_getElem hjl] at hj;cases hj;exact (getElem!_pos (ss.mergeSort stpLe).toArray j (by simpa using hjl)).trans rfl
   rw [e1,List.getElem!_eq_getElem?_getD,hu];rfl
def StripesPost (w:World) (U:Stp→Option Us) (e:Ending) (w':World):Prop:=
 ∃v ss,e=.returned v∧RowNew (useC U) 6 80 w' w.heap.size v ss∧ss.Nodup∧(∀x,x∈ss↔(U x).isSome=true)∧ss.Pairwise (fun x y=>stpLe x y=true)∧Fr No w w'
theorem stpLe_iff (x y:Stp):stpLe x y=true↔¬stpO y x<0:=by
 show (!decide (stpO y x<0))=true↔_;simp
theorem stp_sorted (ss:List Stp):(ss.mergeSort stpLe).Pairwise (fun x y=>stpLe x y=true):=
 List.pairwise_mergeSort (fun x y z h1 h2=>by rw [stpLe_iff,stpO_lt] at*;omega) (fun x y=>by
  rw [Bool.or_eq_true,stpLe_iff,stpLe_iff,stpO_lt,stpO_lt];omega) _
theorem Tryz.info80:(Tryz.prog.info? 80).map (fun i=>(i.zero,i.size,i.bytes))=some (some (.agg #[.int .i64 0,.int .i64 0,.int .i64 0,.int .i64 0,.int .i64 0,.int .i64 0]),6,48):=by kernel_rfl
theorem gstripes_ (o:Nat→Nat) (K n:Nat) (L:Plc) (S:St) (w:World) (h:StateAt w o K L S n) (hf:Fresh w o) (hn:n≤1000000):
  Calls Tryz.prog 27 #[.pointer (some ⟨L.s,0,none⟩)] w (StripesPost w S.U):=by
 have HMD:=lH (gmade_ o K n L S w h);have c12:w.cell? ⟨L.s,12,none⟩=some (.map (some L.us)):=h.cell 12;obtain ⟨_,cu,hcu,hum⟩:=h.uses;obtain ⟨w2,hr,R2,f2,hs2⟩:=hum.range (t:=101) (e:=80) Tryz.underlying101;have hult:L.us<w.heap.size:=hum.lt;have HUM:=lH hum;have HQ:Hid (∀v w' ss,RowNew (useC S.U) 6 80 w' w.heap.size v ss→ss.Nodup→(∀x,x∈ss↔(S.U x).isSome=true)→ss.Pairwise (fun x y=>stpLe x y=true)→Fr No w w'→StripesPost w S.U (.returned v) w'):=lH (fun v w' ss h1 h2 h3 h4 f=>⟨v,ss,rfl,h1,h2,h3,h4,f⟩);generalize StripesPost w S.U=Q at*;generalize S.U=U at*;have RR2:=lH R2;have F2:=lH f2;have hcu1:cu≤1000000:=Nat.le_trans hcu hn;obtain ⟨i0,hi,hz0,hz1,hz2⟩:=info_parts Tryz.info80;have HI:=lH hi;have HZ0:=lH hz0;have HZ1:=lH hz1;have HZ2:=lH hz2;have HS2:=lH hs2;clear hi hz0 hz1 hz2 h hf hum R2 f2 hs2 hcu hn;go_enter Tryz.func27,Tryz.ntmps27;go_wp2_with fail;refine HMD.out.mono ?_;rintro e w1 ⟨rfl,hw⟩;subst hw;go_wp2_with fail;go_loopw [3] (fun v wr=>∃(ss:List Stp) (left:Stp→Bool) (cnt:Nat),Hid (RangeAt encU wr L.us w1.heap.size cu (usem U) left cnt)∧Hid (∀s:Stp,stpGood s→(left s=true↔(U s).isSome=true∧s ∉ ss))∧Hid (wr.ownsRow (w1.heap.size+1) 80 6 v ss.length (ss.flatMap (useC U)))∧Hid ss.Nodup∧Hid (∀s∈ss,(U s).isSome=true)∧Hid (Fr No w1 wr)∧cnt+ss.length≤cu∧w1.heap.size+1≤wr.heap.size) (fun _ wr=>wr.rangeLeft L.us w1.heap.size)
 case atStart=>
  refine ⟨[],_,_,RR2,lH (fun s _=> ?_),lH ⟨rfl,.inl ⟨rfl,rfl⟩⟩,lH List.nodup_nil,lH (by simp),F2,by simp,by have:=HS2.out;omega⟩;unfold usem;cases U s<;>simp
 case round=>
  obtain ⟨ss,left,cnt,HRA,HLF,HOWN,HND,HIN,HFR,hcnt,hsz⟩:=hrel;obtain ⟨a,cc,rfl⟩:=HOWN.out.shape;rcases HRA.out.next 0 with ⟨_,hno,hnx⟩|⟨x,y,w4,cnt',hms,hls,hnx,hra',hlt',f4,hs4,hen⟩
  ·have hall:∀s,s∈ss↔(U s).isSome=true:=fun s=>⟨HIN.out s,fun h=>by
    obtain ⟨u0,hu0⟩:=Option.isSome_iff_exists.1 h;have hg:stpGood s:=(HUM.out.good (x:=s) (y:=(s,u0)) (by unfold usem;rw [hu0];rfl)).1;apply Classical.byContradiction;intro hn;have:=(HLF.out s hg).2 ⟨h,hn⟩;rw [hno s hg] at this;cases this⟩
   have HALL:=lH hall;clear hall hno;go_wp2_with fail;refine (sortU_ U ss (w1.heap.size+1) _ wr HOWN.out (by omega)).mono ?_;rintro e w6 ⟨rfl,f6,hes⟩;have hfin:Fr No w1 w6:=((HFR.out.of_no (S:=fun k=>w1.heap.size+1≤k)).trans f6 (fun j _ h=>h)).no (fun j hj h=>by omega);have hrow:RowNew (useC U) 6 80 w6 w1.heap.size (.slice a ss.length cc) (ss.mergeSort stpLe):=by
    rcases hes with h|⟨b,c,e,h1,h2,h3⟩
    ·exact .inl h
    ·exact .inr ⟨b,c,e,h1,by omega,h3⟩
   have H1:=lH hfin;have H2:=lH hrow;clear f6 hes hfin hrow;go_wp2_with fail;exact HQ.out _ _ _ H2.out ((List.mergeSort_perm ss stpLe).nodup_iff.2 HND.out) (fun x=>(List.mergeSort_perm ss stpLe).mem_iff.trans (HALL.out x)) (stp_sorted ss) H1.out
  ·obtain ⟨u,hu,rfl⟩:∃u,U x=some u∧y=(x,u):=by
    unfold usem at hms;cases h:U x with
    | none=>rw [h] at hms;cases hms
    | some u=>
     rw [h] at hms;cases hms;exact ⟨u,rfl,rfl⟩
   have hgx:stpGood x:=(HRA.out.map.good hms).1;obtain ⟨_,hnin⟩:=(HLF.out x hgx).1 hls;have F4:Hid (Fr No w1 w4):=lH (HFR.out.trans f4 (fun j hj e=>by omega));have O4:Hid (w4.ownsRow (w1.heap.size+1) 80 6 (.slice a ss.length cc) ss.length (ss.flatMap (useC U))):=lH (ownR_fr HOWN.out f4 (fun j hj e=>by have:=ownR_base HOWN.out j hj;omega));have R4:=lH hra';have hnx':(Instr.next (.pointer (some ⟨w1.heap.size,0,none⟩)) false 0).run Tryz.prog wr=.ok (.tuple #[.bool true,.agg #[.int .i64 x.1,.int .i64 x.2.1,.int .i64 x.2.2],.agg #[.int .i64 x.1,.int .i64 x.2.1,.int .i64 x.2.2,.int .i64 u.1,.int .i64 u.2.1,.int .i64 u.2.2]]) w4:=hnx;have hen':(Instr.entry (.pointer (some ⟨w1.heap.size,0,none⟩))).run Tryz.prog w4=.ok (.tuple #[.agg #[.int .i64 x.1,.int .i64 x.2.1,.int .i64 x.2.2],.agg #[.int .i64 x.1,.int .i64 x.2.1,.int .i64 x.2.2,.int .i64 u.1,.int .i64 u.2.1,.int .i64 u.2.2]]) w4:=hen;have HLE:Hid (wr.rangeLeft L.us w1.heap.size=cnt):=lH HRA.out.left_eq;have HLT:=lH hlt';have HN:Hid (∀s:Stp,stpGood s→((left s&&decide (s≠x))=true↔(U s).isSome=true∧s ∉ ss++ [x])):=lH (fun s hs=>by
    rw [Bool.and_eq_true,decide_eq_true_eq,HLF.out s hs,List.mem_append,List.mem_singleton];constructor
    ·rintro ⟨⟨h1,h2⟩,h3⟩;exact ⟨h1,fun h=>h.elim h2 h3⟩
    ·rintro ⟨h1,h2⟩;exact ⟨⟨h1,fun h=>h2 (.inl h)⟩,fun h=>h2 (.inr h)⟩)
   have HND2:Hid (ss++ [x]).Nodup:=lH (by
    rw [List.nodup_append];exact ⟨HND.out,by simp,fun a ha b hb e=>by
     rw [List.mem_singleton] at hb;subst hb;subst e;exact hnin ha⟩)
   have HIN2:Hid (∀s∈ss++ [x],(U s).isSome=true):=lH (fun s hs=>by
    rcases List.mem_append.1 hs with h|h
    ·exact HIN.out s h
    ·rw [List.mem_singleton] at h;rw [h,hu];rfl)
   have HUC:Hid (useC U x= [.int .i64 x.1,.int .i64 x.2.1,.int .i64 x.2.2,.int .i64 u.1,.int .i64 u.2.1,.int .i64 u.2.2]):=lH (by unfold useC;rw [hu];rfl);have hs4':w4.heap.size=wr.heap.size:=hs4;have RA:Hid (((w4.alloc (.cells #[.int .i64 x.1,.int .i64 x.2.1,.int .i64 x.2.2,.int .i64 u.1,.int .i64 u.2.1,.int .i64 u.2.2] 80)).rangeAt w4.heap.size 0 [.int .i64 x.1,.int .i64 x.2.1,.int .i64 x.2.2,.int .i64 u.1,.int .i64 u.2.1,.int .i64 u.2.2])):=lH (World.rangeAt_of_block (new_at w4 _) 0 6);have SZ:=lH hs4';clear hnx hen hra' f4 hs4 hms hls hlt' hnin hu hs4';go_wp2_with (first|(refine wpList_load_mid (by rfl) 80 _ (by rfl) w4.heap.size 0 (by rfl) [.int .i64 x.1,.int .i64 x.2.1,.int .i64 x.2.2,.int .i64 u.1,.int .i64 u.2.1,.int .i64 u.2.2] _ RA.out Tryz.underlying80 rfl Tryz.size80 ?_)|(at_builtin;(refine wpList_append_lies _ (by rfl) _ _ 65 (by rfl) (w1.heap.size+1) 80 i0 _ 6 48 Tryz.underlying65 HI.out HZ0.out HZ1.out HZ2.out rfl (by decide) (.slice a ss.length cc) ss.length (ss.flatMap (useC U)) (by rfl) ((O4.out.alloc _).alloc _) ⟨w4.heap.size+1,0,none⟩ 1 1 [.int .i64 x.1,.int .i64 x.2.1,.int .i64 x.2.2,.int .i64 u.1,.int .i64 u.2.1,.int .i64 u.2.2] (by rfl) (by rfl) ?d1 (by simp [Value.oneCell']) (by decide) (by unfold maxLen;omega) (by omega) ?d5 (w4.heap.size+1+1) ?d6 ?_)))
   case d1=>
    have h5:=World.news_of_block (cs:= #[.int .i64 x.1,.int .i64 x.2.1,.int .i64 x.2.2,.int .i64 u.1,.int .i64 u.2.1,.int .i64 u.2.2]) (t:=80) (fr:=(0,0)) (heap_alloc_new (w4.alloc (.cells #[.int .i64 x.1,.int .i64 x.2.1,.int .i64 x.2.2,.int .i64 u.1,.int .i64 u.2.1,.int .i64 u.2.2] 80)) _);rw [heap_size_alloc] at h5;exact h5
   case d5=>rw [heap_size_alloc,heap_size_alloc];have:=SZ.out;omega
   case d6=>simp
   intro gg cap wD hownD hgrow hat hgl;have HNL:Hid (Fr No w1 wD):=lH (((F4.out.alloc _).alloc _).grown hgrow (fun j hj=> .inr (by have:=ownR_base O4.out j hj;omega)));have HG4:Fr (fun k=>w1.heap.size+1≤k) w4 wD:=(((Fr.refl (S:=fun k=>w1.heap.size+1≤k) w4).alloc _).alloc _).grown hgrow (fun j hj=> .inl (ownR_base O4.out j hj));have RD:=lH (R4.out.fr HG4 (by omega) (by omega));have HOD:=lH hownD;have hsD:w1.heap.size+1≤wD.heap.size:=Nat.le_trans (by have:=SZ.out;omega) HG4.size;clear hownD hgrow hat hgl HG4;go_wp2_with fail;go_roundw
   case rel=>
    refine ⟨ss++ [x],_,cnt',RD,HN,lH ?_,HND2,HIN2,HNL,by rw [List.length_append,List.length_singleton];have:=HLT.out;omega,hsD⟩;have h9:=HOD.out;rw [List.flatMap_append,List.length_append];simp only [List.flatMap_cons,List.flatMap_nil,List.append_nil,List.length_singleton];rw [HUC.out];exact h9
   case measure=>
    rw [RD.out.left_eq,HLE.out];exact HLT.out
end Go.Proofs.YtlcojhddnpmgmaaGreat
namespace Go.Proofs.YtlcojhddnpmgmaaGreat
open Go.RowKit
theorem TokV.pf {w w':World} {p base:Nat} {s:PenS} {v:Value} {L:List Tok} (h:TokV w v L) (g:Pg w p base s) (f:Fr (Pf w p base) w w'):TokV w' v L:=by
 rcases h with h|⟨b,cap,e,hm,hr⟩
 ·exact .inl h
 ·exact .inr ⟨b,cap,e,hm,hr.pf g f (by decide) (by decide)⟩
def WentK (K:Nat) (w:World) (o:Nat→Nat) (L:Plc) (S:St) (n q:Nat) (r:Req) (st:List Sz) (dl:List Dl) (e:Ending) (w':World):Prop:=
 ∃(x:RepS×St) (o':Nat→Nat) (ev mv:Value),e=.returned (.agg (x.1.cells ev mv))∧ev.oneCell'=true∧mv.oneCell'=true∧Did S r st dl x∧StInv x.2 (q+2)∧Step (stateC K) w o w' o'∧StateAt w' o' K L x.2 (n+100)
theorem wentK (o:Nat→Nat) (K n q:Nat) (L:Plc) (S:St) (r:Req) (rv dv:Value) (st:List Sz) (dl:List Dl) (w:World) (h:StateAt w o K L S n) (inv:StInv S q) (hf:Fresh w o) (hr:RowsAt szC 4 w o rv st) (hd:RowsAt dlC 14 w o dv dl) (hs:smallR r st.length dl.length) (hg:∀s∈st,stpGood s.1) (hq:q≤90000) (hn:n≤400000):
  Calls Tryz.prog 15 #[.pointer (some ⟨L.s,0,none⟩),.agg (r.cells rv dv)] w (WentK K w o L S n q r st dl):=
 (gapply_ o K n q L S r rv dv st dl w h inv hf hr hd ⟨hs.1,hs.2.1,hs.2.2.1,hs.2.2.2,hg⟩ hq hn).mono (fun e w' p=>by
   obtain ⟨x,h1,h2,⟨o',s,t⟩,ev,mv,he,q1,q2⟩:=p;exact ⟨x,o',ev,mv,he,q1,q2,h1,h2,s,t⟩)
def HeldIn (F:Nat→Option FMap) (U:Stp→Option Us):Prop:=∀i m,F i=some m→∀p∈ptrs m,∃u,U (stpOf p)=some u∧p.a+p.z≤u.1
structure InvLive (S:St):Prop where
 tree:∀i m,S.F i=some m→∃x,S.T i=some x∧x.dir=false
 held:HeldIn S.F S.U
 live:∀x u,S.U x=some u→u.2.1=liveF S.F x∧u.2.1≠0
theorem ptrs_mem {m:FMap} {p:Pt}:p∈ptrs m↔p∈m.l∧p≠noPt:=by
 unfold ptrs;rw [List.mem_filter];simp
theorem ptr_pos {m:FMap} (h:∀p∈m.l,mayPt p) {p:Pt} (hp:p∈ptrs m):1≤p.z:=by
 obtain ⟨h1,h2⟩:=ptrs_mem.1 hp;rcases h p h1 with h3|h3
 ·exact absurd h3 h2
 ·omega
theorem liveP_nonneg {L:List Pt} (h:∀p∈L,0≤p.z) (x:Stp):0≤liveP L x:=by
 induction L with
 | nil=>exact Int.le_refl _
 | cons a r ih=>
  have h1:=ih (fun p hp=>h p (List.mem_cons_of_mem _ hp));have h2:=h a List.mem_cons_self;unfold liveP at h1 ⊢;rw [List.map_cons,List.sum_cons];split<;>omega
theorem liveP_pos {L:List Pt} (h:∀p∈L,1≤p.z) {p:Pt} (hp:p∈L):0<liveP L (stpOf p):=by
 induction L with
 | nil=>cases hp
 | cons a r ih=>
  have h1:=liveP_nonneg (L:=r) (fun q hq=>by have:=h q (List.mem_cons_of_mem _ hq);omega) (stpOf p);have h2:=h a List.mem_cons_self;rcases List.mem_cons.1 hp with rfl|hp
  ·unfold liveP at h1 ⊢;rw [List.map_cons,List.sum_cons,if_pos rfl];omega
  ·have h3:=ih (fun q hq=>h q (List.mem_cons_of_mem _ hq)) hp;unfold liveP at h3 ⊢;rw [List.map_cons,List.sum_cons];split<;>omega
theorem sum_ge {l:List Nat} {f:Nat→Int} (h:∀i∈l,0≤f i):0≤(l.map f).sum∧∀i∈l,f i≤(l.map f).sum:=by
 induction l with
 | nil=>exact ⟨Int.le_refl _,fun i hi=>by cases hi⟩
 | cons a r ih=>
  obtain ⟨h1,h2⟩:=ih (fun i hi=>h i (List.mem_cons_of_mem _ hi));have h3:=h a List.mem_cons_self;rw [List.map_cons,List.sum_cons];refine ⟨by omega,fun i hi=> ?_⟩;rcases List.mem_cons.1 hi with rfl|hi
  ·omega
  ·have:=h2 i hi;omega
theorem live_pos {F:Nat→Option FMap} (hp:PtsOk F) (hf:∀i m,F i=some m→1≤i∧i≤128∧MapLen m) {i:Nat} {m:FMap} (hi:F i=some m) {p:Pt} (hm:p∈ptrs m):0<liveF F (stpOf p):=by
 have h1:=liveP_pos (fun q hq=>ptr_pos (hp i m hi) hq) hm;have h2:=(sum_ge (l:=List.range 129) (f:=fun i=>match F i with
  | some m=>if (fun _:Int=>false) (i:Int)=true then 0 else liveP (ptrs m) (stpOf p)
  | none=>0) (fun j _=>by
   dsimp only;cases hj:F j with
   | none=>exact Int.le_refl _
   | some y=>
    dsimp only;rw [if_neg (by simp)];exact liveP_nonneg (fun q hq=>by have:=ptr_pos (hp j y hj) hq;omega) _)).2 i (List.mem_range.2 (by have:=hf i m hi;omega))
 dsimp only at h2;rw [hi] at h2;dsimp only at h2;rw [if_neg (by simp)] at h2;unfold liveF liveD;exact Int.lt_of_lt_of_le h1 h2
theorem live_same {F G:Nat→Option FMap} (h:∀i,(match F i with|some m=>ptrs m|none=> [])=(match G i with|some m=>ptrs m|none=> [])) (x:Stp):liveF F x=liveF G x:=by
 unfold liveF liveD;refine congrArg List.sum (List.map_congr_left (fun i _=> ?_));have hi:=h i;cases hF:F i with
 | none=>
  rw [hF] at hi;cases hG:G i with
  | none=>rfl
  | some y=>rw [hG] at hi;dsimp only at hi ⊢;rw [← hi];rfl
 | some z=>
  rw [hF] at hi;cases hG:G i with
  | none=>rw [hG] at hi;dsimp only at hi ⊢;rw [hi];rfl
  | some y=>rw [hG] at hi;dsimp only at hi ⊢;rw [hi]
theorem counted_live {F:Nat→Option FMap} {U:Stp→Option Us} (hp:PtsOk F) (hf:∀i m,F i=some m→1≤i∧i≤128∧MapLen m) (h:HeldIn F U):HeldIn F (countedU F U)∧∀x u,countedU F U x=some u→u.2.1=liveF F x∧u.2.1≠0:=by
 constructor
 ·intro i m hi p hm;obtain ⟨u,hu,hl⟩:=h i m hi p hm;have:=live_pos hp hf hi hm;unfold countedU;rw [hu];dsimp only;rw [if_neg (by omega)];exact ⟨_,rfl,hl⟩
 ·intro x u hu;unfold countedU at hu;split at hu
  ·cases hu
  ·split at hu
   ·cases hu
   ·rename_i h0
    cases hu;exact ⟨rfl,h0⟩
theorem addU_old (c:Int):∀(st:List Sz) (U:Stp→Option Us) (y:Stp),(∀s∈st,s.1≠y)→addU c st U y=U y
 | [],_,_,_=>rfl
 | s::r,U,y,h=>by
  have h1:=addU_old c r (fun z=>if z=s.1 then some (s.2,0,c) else U z) y (fun t ht=>h t (List.mem_cons_of_mem _ ht));refine h1.trans ?_;rw [if_neg (fun e=>h s List.mem_cons_self e.symm)]
theorem sizes_rel (S:St) (nx c l ck:Int):∀(st:List Sz) (m m':Stp→Option Int) (U:Stp→Option Us),(∀y z,m y=some z→∃b,U y=some (z,b))→sizesOf S nx c l st m=some m'→∀y z,m' y=some z→∃b,addU ck st U y=some (z,b)
 | [],m,m',U,h,e,y,z,hy=>by cases e;exact h y z hy
 | x::r,m,m',U,h,e,y,z,hy=>by
  unfold sizesOf at e;split at e
  ·refine sizes_rel S nx c l ck r _ m' (fun z=>if z=x.1 then some (x.2,0,ck) else U z) (fun y z hz=> ?_) e y z hy;split at hz
   ·cases hz;rw [if_pos (by assumption)];exact ⟨_,rfl⟩
   ·rw [if_neg (by assumption)];exact h y z hz
  ·cases e
theorem sizes_old (S:St) (nx c l:Int):∀(st:List Sz) (m m':Stp→Option Int),sizesOf S nx c l st m=some m'→∀s∈st,(S.U s.1).isSome=false
 | [],_,_,_,s,hs=>by cases hs
 | x::r,m,m',h,s,hs=>by
  unfold sizesOf at h;split at h
  ·rename_i hx
   rcases List.mem_cons.1 hs with rfl|hs
   ·exact hx.2.1
   ·exact sizes_old S nx c l r _ m' h s hs
  ·cases h
theorem stripes_rel {S:St} {sw nx:Int} {st:List Sz} {c l:Int} (h:(stripesE S sw nx st c l).1=0) (ck:Int):(∀s∈st,(S.U s.1).isSome=false)∧∀y z,(stripesE S sw nx st c l).2 y=some z→∃b,addU ck st S.U y=some (z,b):=by
 unfold stripesE at h ⊢;split at h
 ·cases h
 ·rename_i h1
  split at h
  ·cases h
  ·rename_i h2
   rw [if_neg h1,if_neg h2];split at h
   ·cases h
   ·rename_i m hm
    exact ⟨sizes_old S nx c l st _ m hm,sizes_rel S nx c l ck st noStp m S.U (fun y z hz=>by cases hz) hm⟩
theorem resizeL_mem {L:List Pt} {n:Nat} {p:Pt} (h:p∈resizeL L n):p∈L∨p=noPt:=by
 unfold resizeL at h;split at h
 ·exact .inl (List.mem_of_mem_take h)
 ·rcases List.mem_append.1 h with h|h
  ·exact .inl h
  ·exact .inr (List.mem_replicate.1 h).2
theorem applied_ptrs {m:FMap} {d:Dl} {p:Pt} (h:p∈ptrs (appliedM m d)):p∈ptrs m∨p=d.t:=by
 unfold appliedM at h;split at h
 ·obtain ⟨h1,h2⟩:=ptrs_mem.1 h;unfold doneM at h1;split at h1
  ·rcases List.mem_or_eq_of_mem_set h1 with h3|h3
   ·rcases resizeL_mem h3 with h4|h4
    ·exact .inl (ptrs_mem.2 ⟨h4,h2⟩)
    ·exact absurd h4 h2
   ·exact .inr h3
  ·split at h1
   ·rcases resizeL_mem h1 with h4|h4
    ·exact .inl (ptrs_mem.2 ⟨h4,h2⟩)
    ·exact absurd h4 h2
   ·rcases List.mem_or_eq_of_mem_set h1 with h3|h3
    ·exact .inl (ptrs_mem.2 ⟨h3,h2⟩)
    ·exact .inr h3
 ·exact .inl h
theorem folded_ptrs:∀(dl:List Dl) (m:FMap) (p:Pt),p∈ptrs (dl.foldl appliedM m)→p∈ptrs m∨∃d∈dl,p=d.t
 | [],_,_,h=> .inl h
 | d::r,m,p,h=>by
  rcases folded_ptrs r (appliedM m d) p h with h1|⟨e,he,h1⟩
  ·rcases applied_ptrs h1 with h2|h2
   ·exact .inl h2
   ·exact .inr ⟨d,List.mem_cons_self,h2⟩
  ·exact .inr ⟨e,List.mem_cons_of_mem _ he,h1⟩
theorem appliedF_ptrs:∀(dl:List Dl) (F:Nat→Option FMap) (i:Nat) (m:FMap),(dl.foldl appliedF F) i=some m→∃m0,F i=some m0∧∀p∈ptrs m,p∈ptrs m0∨∃d∈dl,p=d.t
 | [],_,_,m,h=>⟨m,h,fun _ hp=> .inl hp⟩
 | d::r,F,i,m,h=>by
  obtain ⟨m1,h1,h2⟩:=appliedF_ptrs r (appliedF F d) i m h;have key:∃m0,F i=some m0∧∀p∈ptrs m1,p∈ptrs m0∨p=d.t:=by
   unfold appliedF at h1;cases hy:F d.i.toNat with
   | some y=>
    rw [hy] at h1;dsimp only at h1;rcases updF_some h1 with ⟨e,e2⟩|h1
    ·rw [e];exact ⟨y,hy,fun p hp=>by rw [e2] at hp;exact applied_ptrs hp⟩
    ·exact ⟨m1,h1,fun _ hp=> .inl hp⟩
   | none=>
    rw [hy] at h1;exact ⟨m1,h1,fun _ hp=> .inl hp⟩
  obtain ⟨m0,h3,h4⟩:=key;refine ⟨m0,h3,fun p hp=> ?_⟩;rcases h2 p hp with h5|⟨e,he,h5⟩
  ·rcases h4 p h5 with h6|h6
   ·exact .inl h6
   ·exact .inr ⟨d,List.mem_cons_self,h6⟩
  ·exact .inr ⟨e,List.mem_cons_of_mem _ he,h5⟩
theorem held_add {S:St} {sw nx:Int} {st:List Sz} {c l:Int} (hs:(stripesE S sw nx st c l).1=0) (h:HeldIn S.F S.U) (ck:Int) {F':Nat→Option FMap}
  (hF:∀i m,F' i=some m→∀p∈ptrs m,(∃j m0,S.F j=some m0∧p∈ptrs m0)∨insideOf (stripesE S sw nx st c l).2 p=true):HeldIn F' (addU ck st S.U):=by
 obtain ⟨h1,h2⟩:=stripes_rel hs ck;intro i m hi p hp;rcases hF i m hi p hp with ⟨j,m0,hj,hm⟩|hin
 ·obtain ⟨u,hu,hl⟩:=h j m0 hj p hm;refine ⟨u,?_,hl⟩;rw [addU_old ck st S.U _ (fun s hs e=> ?_)]
  ·exact hu
  ·have:=h1 s hs;rw [e,hu] at this;cases this
 ·unfold insideOf at hin;split at hin
  ·cases hin
  ·rename_i e he
   obtain ⟨b,hb⟩:=h2 _ _ he;have hin:=of_decide_eq_true hin;obtain ⟨i1,i2,i3,i4⟩:=hin;exact ⟨_,hb,by dsimp only;omega⟩
theorem live_deed {B D:St} {q:Nat} {r:Req} {st:List Sz} {dl:List Dl} (inv:StInv B q) (ip:PtsOk D.F) (ik:∀i m,D.F i=some m→1≤i∧i≤128∧MapLen m) (h:InvLive B) (d:Deeds r st dl B D):InvLive D:=by
 cases d with
 | same=>exact h
 | move hk h0=>
  refine ⟨fun i m hi=> ?_,h.held,h.live⟩;obtain ⟨x,hx,hd⟩:=h.tree i m hi;dsimp only;unfold movedT;rw [if_pos h0];unfold moved;by_cases e:i=(lookOf B.T r.path).2.1
  ·subst e;refine ⟨_,upd_same _ _ _,?_⟩;have hl:(lookOf B.T r.path).1=0:=by
    unfold moveE at h0;split at h0
    ·rename_i a
     exact absurd h0 a
    ·rename_i a
     exact Classical.byContradiction a
   obtain ⟨y,hy,hyd⟩:=look_ok inv.ok.tree hl;rw [hx] at hy;cases hy;dsimp only;rw [← hyd];exact hd
  ·rw [upd_other _ _ e];exact ⟨x,hx,hd⟩
 | opens=>exact ⟨h.tree,h.held,h.live⟩
 | make hk h0=>
  have ha:=make_adds inv.ok.tree h0;have hf:=make_free h0;have hnone:B.F (free B.T)=none:=by
   cases hF:B.F (free B.T) with
   | none=>rfl
   | some m=>
    obtain ⟨x,hx,_⟩:=h.tree _ m hF;rw [ha.new] at hx;cases hx
  have hT:(makeS B r).T=upd B.T (free B.T) (some ⟨(placeOf B.T r.path).2.1,(placeOf B.T r.path).2.2,r.dir⟩):=by
   unfold makeS madeT grown;dsimp only;rw [if_pos h0]
  have hU:(makeS B r).U=B.U:=rfl;have hFF:(makeS B r).F=if r.dir=true then B.F else updF B.F (free B.T) (some noFile):=by
   unfold makeS;dsimp only;rw [hf]
  refine ⟨fun i m hi=> ?_,fun i m hi p hp=> ?_,fun x u hu=> ?_⟩
  ·rw [hT];rw [hFF] at hi;by_cases e:i=free B.T
   ·subst e;refine ⟨_,upd_same _ _ _,?_⟩;dsimp only;cases hd:r.dir with
    | false=>rfl
    | true=>
     rw [hd,if_pos rfl,hnone] at hi;cases hi
   ·rw [upd_other _ _ e];split at hi
    ·exact h.tree i m hi
    ·rw [updF_other _ _ e] at hi;exact h.tree i m hi
  ·rw [hU];rw [hFF] at hi;split at hi
   ·exact h.held i m hi p hp
   ·rcases updF_some hi with ⟨_,rfl⟩|hi
    ·cases hp
    ·exact h.held i m hi p hp
  ·rw [hU] at hu;have hl:liveF (makeS B r).F x=liveF B.F x:=live_same (fun i=>by
    rw [hFF];cases r.dir with
    | true=>rfl
    | false=>
     rw [if_neg (by simp)];by_cases e:i=free B.T
     ·subst e;rw [updF_same,hnone];rfl
     ·rw [updF_other _ _ e]) x
   rw [hl];exact h.live x u hu
 | remove hk h0 h1 h2=>
  have hi:(removeOf B.T r.path r.dir).2=(lookOf B.T r.path).2.1∧(r.dir=true→(lookOf B.T r.path).2.2=true):=by
   unfold removeOf at h2 ⊢;rw [if_neg (by simp [h0])] at h2 ⊢;split at h2
   ·cases h2
   ·rename_i a1
    rw [if_neg a1];split at h2
    ·cases h2
    ·rename_i a2
     rw [if_neg a2];split at h2
     ·cases h2
     ·rename_i a3
      rw [if_neg a3];split at h2
      ·cases h2
      ·rename_i a4
       rw [if_neg a4];refine ⟨rfl,fun hd=> ?_⟩;cases hl:(lookOf B.T r.path).2.2 with
       | true=>rfl
       | false=>exact absurd ⟨hd,hl⟩ a2
  obtain ⟨hi,_⟩:=hi;obtain ⟨y,hy,hyd⟩:=look_ok inv.ok.tree h0;cases hl:(lookOf B.T r.path).2.2 with
  | true=>
   have e:removeS B r={B with T:=shrunk B.T (lookOf B.T r.path).2.1}:=by
    unfold removeS removedT;rw [if_pos hl,if_pos h2,hi]
   rw [e];refine ⟨fun i m hm=> ?_,h.held,h.live⟩;obtain ⟨x,hx,hd⟩:=h.tree i m hm;dsimp only;unfold shrunk;rw [upd_other _ _ (fun e=> ?_)]
   ·exact ⟨x,hx,hd⟩
   ·rw [e,hy] at hx;cases hx;rw [hyd,hl] at hd;cases hd
  | false=>
   have e:removeS B r={B with T:=shrunk B.T (lookOf B.T r.path).2.1,F:=updF B.F (lookOf B.T r.path).2.1 none,U:=countedU (updF B.F (lookOf B.T r.path).2.1 none) B.U}:=by
    unfold removeS removedT;rw [if_neg (by simp [hl]),if_pos h2,hi]
   rw [e] at ip ik ⊢;dsimp only at ip ik;obtain ⟨c1,c2⟩:=counted_live (U:=B.U) ip ik (fun i m hm=>h.held i m (updF_sub hm));refine ⟨fun i m hm=> ?_,c1,c2⟩;dsimp only at hm ⊢;obtain ⟨x,hx,hd⟩:=h.tree i m (updF_sub hm);unfold shrunk;rw [upd_other _ _ (fun e=> ?_)]
   ·exact ⟨x,hx,hd⟩
   ·rw [e,updF_same] at hm;cases hm
 | commit x hk hx h1 h2 h3=>
  obtain ⟨i,m,h4,h5,h6⟩:=inv.tok x (List.mem_of_find?_eq_some hx);have hxi:x.i.toNat=i:=by omega
  have hF:(commitS B st dl r.c.toNat r.nx x.i.toNat).F=updF B.F i (some (dl.foldl appliedM m)):=by
   unfold commitS;dsimp only;rw [hxi,h6,Option.getD_some]
  have hU:(commitS B st dl r.c.toNat r.nx x.i.toNat).U=countedU (updF B.F i (some (dl.foldl appliedM m))) (addU B.clock st B.U):=by
   unfold commitS;dsimp only;rw [hxi,h6,Option.getD_some];rfl
  have hT:(commitS B st dl r.c.toNat r.nx x.i.toNat).T=B.T:=rfl;dsimp only at ip ik;rw [hF] at ip ik;have hh:=held_add h2 h.held B.clock (F':=updF B.F i (some (dl.foldl appliedM m))) (fun j y hj p hp=>by
   rcases updF_some hj with ⟨_,rfl⟩|hj
   ·rcases folded_ptrs dl m p hp with h7|⟨d,hd,rfl⟩
    ·exact .inl ⟨i,m,h6,h7⟩
    ·rcases (h3 d hd).2.2.2 with h8|h8
     ·exact absurd h8 (ptrs_mem.1 hp).2
     ·exact .inr h8
   ·exact .inl ⟨j,y,hj,hp⟩)
  obtain ⟨c1,c2⟩:=counted_live ip ik hh;refine ⟨fun j y hj=> ?_,?_,?_⟩
  ·dsimp only at hj ⊢;rw [hF] at hj;rw [hT];rcases updF_some hj with ⟨rfl,_⟩|hj
   ·exact h.tree j m h6
   ·exact h.tree j y hj
  ·dsimp only;rw [hF,hU];exact c1
  ·dsimp only;rw [hF,hU];exact c2
theorem askB_live {S:St} (h:InvLive S) (c:Nat) (kd:Int):InvLive (askB S c kd):=by
 unfold askB;split<;>exact ⟨h.tree,h.held,h.live⟩
theorem live_did {S:St} {q:Nat} {r:Req} {st:List Sz} {dl:List Dl} {x:RepS×St} (inv:StInv S q) (inv':StInv x.2 (q+2)) (h:InvLive S) (hd:Did S r st dl x):InvLive x.2:=by
 have t:=turns_all hd;generalize x.2=S' at*;cases t with
 | same=>exact h
 | boot=>exact ⟨h.tree,h.held,h.live⟩
 | swap=>exact ⟨h.tree,h.held,h.live⟩
 | moved hc h2 h3=>
  have ip:=inv'.pts;have ik:=inv'.ok.file;have hF:(movedS S st dl r.nx).F=dl.foldl appliedF S.F:=rfl;have hU:(movedS S st dl r.nx).U=countedU (dl.foldl appliedF S.F) (addU (S.clock+1) st S.U):=rfl;rw [hF] at ip ik;have hh:=held_add h2 h.held (S.clock+1) (F':=dl.foldl appliedF S.F) (fun j y hj p hp=>by
   obtain ⟨m0,h4,h5⟩:=appliedF_ptrs dl S.F j y hj;rcases h5 p hp with h6|⟨d,hd,rfl⟩
   ·exact .inl ⟨j,m0,h4,h6⟩
   ·exact .inr (h3 d hd).2.2)
  obtain ⟨c1,c2⟩:=counted_live ip ik hh;refine ⟨fun j y hj=> ?_,?_,?_⟩
  ·rw [hF] at hj;obtain ⟨m0,h4,_⟩:=appliedF_ptrs dl S.F j y hj;exact h.tree j m0 h4
  ·rw [hF,hU];exact c1
  ·rw [hF,hU];exact c2
 | asked kd bs D hm hk ha hdd=>
  have h1:=live_deed (D:=D) (inv.askB r.c.toNat kd) inv'.pts inv'.ok.file (askB_live h _ _) hdd;exact ⟨h1.tree,h1.held,h1.live⟩
def fptrs (F:Nat→Option FMap) (k:Nat):List Pt:=match F k with
 | some m=>ptrs m
 | none=> []
def liveK (F:Nat→Option FMap) (NN:List Nat) (k:Nat) (x:Stp):Int:=((NN.take k).map fun i=>liveP (fptrs F i) x).sum
theorem sum_filter (p:Nat→Bool) (f:Nat→Int):∀l:List Nat,((l.filter p).map f).sum=(l.map fun i=>if p i=true then f i else 0).sum
 | []=>rfl
 | a::r=>by
  have ih:=sum_filter p f r;rw [List.map_cons,List.sum_cons,← ih];by_cases h:p a=true
  ·rw [List.filter_cons_of_pos h,List.map_cons,List.sum_cons,if_pos h]
  ·rw [List.filter_cons_of_neg h,if_neg h,Int.zero_add]
theorem liveK_all {F:Nat→Option FMap} {T:Tree} (h:∀i m,F i=some m→(T i).isSome=true) (x:Stp) {n:Nat} (hn:(numsOf fun k=>(T k).isSome).length≤n):liveK F (numsOf fun k=>(T k).isSome) n x=liveF F x:=by
 unfold liveK;rw [List.take_of_length_le hn];unfold numsOf;rw [sum_filter];unfold liveF liveD;refine congrArg List.sum (List.map_congr_left (fun i _=> ?_));unfold fptrs;cases hF:F i with
 | none=>
  dsimp only;split
  ·exact liveP_nil x
  ·rfl
 | some m=>
  dsimp only;rw [if_pos (h i m hF),if_neg (by simp)]
theorem liveK_zero (F:Nat→Option FMap) (NN:List Nat) (x:Stp):liveK F NN 0 x=0:=rfl
theorem liveK_next (F:Nat→Option FMap) {NN:List Nat} {k:Nat} (hk:k<NN.length) (x:Stp):liveK F NN (k+1) x=liveK F NN k x+liveP (fptrs F NN[k]) x:=by
 unfold liveK;rw [List.take_succ_eq_append_getElem hk,List.map_append,List.sum_append_int];simp
theorem liveP_next {L:List Pt} {j:Nat} (hj:j<L.length) (x:Stp):liveP (L.take (j+1)) x=liveP (L.take j) x+if stpOf L[j]=x then L[j].z else 0:=by
 rw [List.take_succ_eq_append_getElem hj,liveP_snoc]
theorem fptrs_short {F:Nat→Option FMap} (h:Short F) (hl:∀i m,F i=some m→MapLen m) (i:Nat):(fptrs F i).length≤64∧∀p∈fptrs F i,0≤p.z∧p.z≤64:=by
 unfold fptrs;cases hF:F i with
 | none=>exact ⟨Nat.zero_le _,fun p hp=>by cases hp⟩
 | some m=>exact ⟨ptrs_len (hl i m hF),ptrs_short h hF⟩
theorem liveK_bound {F:Nat→Option FMap} (h:Short F) (hl:∀i m,F i=some m→MapLen m) (NN:List Nat) (k:Nat) (x:Stp):0≤liveK F NN k x∧liveK F NN k x≤4096*NN.length:=by
 unfold liveK;have h1:=sum_bound (l:=NN.take k) (f:=fun i=>liveP (fptrs F i) x) (b:=4096) (fun i _=>by
  obtain ⟨g1,g2⟩:=fptrs_short h hl i;have:=liveP_bound g2 x;omega)
 have h2:(NN.take k).length≤NN.length:=by rw [List.length_take];omega
 omega
theorem liveP_take {L:List Pt} (h:∀p∈L,0≤p.z∧p.z≤64) (hl:L.length≤64) (j:Nat) (x:Stp):0≤liveP (L.take j) x∧liveP (L.take j) x≤4096:=by
 have h1:=liveP_bound (L:=L.take j) (fun p hp=>h p (List.mem_of_mem_take hp)) x;have h2:(L.take j).length≤L.length:=by rw [List.length_take];omega
 omega
def seenAt (ss:List Stp) (x:Stp) (a:Nat) (v:Int):Prop:=(∀b:Nat,b<a→ss[b]? =some x→v=(b:Int))∧(v= -1∨∃b:Nat,b<a∧v=(b:Int)∧ss[b]? =some x)
theorem seenAt.zero (ss:List Stp) (x:Stp):seenAt ss x 0 (-1):=⟨fun b h=>absurd h (Nat.not_lt_zero b),.inl rfl⟩
theorem seenAt.hit {ss:List Stp} {x:Stp} {a:Nat} (hn:ss.Nodup) (h:ss[a]? =some x):seenAt ss x (a+1) a:=by
 refine ⟨fun b hb e=> ?_,.inr ⟨a,Nat.lt_succ_self a,rfl,h⟩⟩;obtain ⟨h1,e1⟩:=List.getElem?_eq_some_iff.1 h;obtain ⟨h2,e2⟩:=List.getElem?_eq_some_iff.1 e;have:=(List.getElem_inj hn).1 (e2.trans e1.symm);omega
theorem seenAt.miss {ss:List Stp} {x:Stp} {a:Nat} {v:Int} (h:seenAt ss x a v) (hne:ss[a]? ≠some x):seenAt ss x (a+1) v:=by
 refine ⟨fun b hb e=> ?_,?_⟩
 ·by_cases hba:b=a
  ·subst hba;exact absurd e hne
  ·exact h.1 b (by omega) e
 ·rcases h.2 with e|⟨b,h1,h2,h3⟩
  ·exact .inl e
  ·exact .inr ⟨b,by omega,h2,h3⟩
theorem seenAt.all {ss:List Stp} {x:Stp} {v:Int} (h:seenAt ss x ss.length v) (hx:x∈ss):∃b:Nat,b<ss.length∧v=(b:Int)∧ss[b]? =some x:=by
 obtain ⟨b,hb,e⟩:=List.mem_iff_getElem.1 hx;have he:ss[b]? =some x:=by rw [List.getElem?_eq_getElem hb,e]
 exact ⟨b,hb,h.1 b hb he,he⟩
theorem set_count {ss:List Stp} (hn:ss.Nodup) {b:Nat} {x:Stp} (hb:ss[b]? =some x) (g g':Stp→Int) (hx:∀y,y≠x→g' y=g y):(ss.map fun y=>Value.int .i64 (g y)).set b (.int .i64 (g' x))=ss.map fun y=>Value.int .i64 (g' y):=by
 obtain ⟨h1,e1⟩:=List.getElem?_eq_some_iff.1 hb;refine List.ext_getElem (by simp) (fun i h2 h3=> ?_);rw [List.getElem_map];by_cases hi:i=b
 ·subst hi;rw [List.getElem_set_self,e1]
 ·have h4:i<ss.length:=by simpa using h3
  have h5:g' ss[i]=g ss[i]:=hx _ (fun e=>hi ((List.getElem_inj hn).1 (e.trans e1.symm)));rw [List.getElem_set_ne (fun e=>hi e.symm),List.getElem_map,h5]
theorem nodup_sub:∀(l1 l2:List Stp),l1.Nodup→(∀x∈l1,x∈l2)→l1.length≤l2.length
 | [],_,_,_=>Nat.zero_le _
 | a::r,l2,hn,h=>by
  obtain ⟨h1,h2⟩:=List.nodup_cons.1 hn;have h3:=h a List.mem_cons_self;have h4:=nodup_sub r (l2.erase a) h2 (fun x hx=>(List.mem_erase_of_ne (fun e=>h1 (by rw [← e];exact hx))).2 (h x (List.mem_cons_of_mem _ hx)));rw [List.length_erase_of_mem h3] at h4;have:=List.length_pos_of_mem h3;rw [List.length_cons];omega
theorem sum_zero:∀l:List Nat,(l.map fun _=>(0:Int)).sum=0
 | []=>rfl
 | _::r=>by rw [List.map_cons,List.sum_cons,sum_zero r];rfl
theorem live_has {F:Nat→Option FMap} {x:Stp} (h:liveF F x≠0):∃i,i<129∧∃m,F i=some m∧∃p∈ptrs m,stpOf p=x:=by
 refine Classical.byContradiction (fun hno=>h ?_);have key:∀i,i∈List.range 129→(match F i with
  | some m=>if (fun _:Int=>false) (i:Int)=true then 0 else liveP (ptrs m) x
  | none=>0)=(0:Int):=fun i hi=>by
  cases hF:F i with
  | none=>rfl
  | some m=>
   dsimp only;rw [if_neg (by simp)];have hz:∀L:List Pt,(∀p∈L,stpOf p≠x)→liveP L x=0:=fun L=>by
    induction L with
    | nil=>exact fun _=>rfl
    | cons a r ih=>
     intro hL;have h1:=ih (fun p hp=>hL p (List.mem_cons_of_mem _ hp));unfold liveP at h1 ⊢;rw [List.map_cons,List.sum_cons,if_neg (hL a List.mem_cons_self),h1];rfl
   exact hz _ (fun p hp e=>hno ⟨i,List.mem_range.1 hi,m,hF,p,hp,e⟩)
 have e:=congrArg List.sum (List.map_congr_left (g:=fun _=>(0:Int)) key);unfold liveF liveD;exact e.trans (sum_zero _)
theorem held_good {S:St} (hp:PtsOk S.F) (h:InvLive S) {x:Stp} (hx:(S.U x).isSome=true):stpGood x:=by
 obtain ⟨u,hu⟩:=Option.isSome_iff_exists.1 hx;obtain ⟨h1,h2⟩:=h.live x u hu;rw [h1] at h2;obtain ⟨i,_,m,hF,p,hm,rfl⟩:=live_has h2;exact (may_good (hp i m hF p (ptrs_mem.1 hm).1)).1
theorem sum_le (l:List Nat) (f:Nat→Nat) (b:Nat) (h:∀i,f i≤b):(l.map f).sum≤b*l.length:=by
 induction l with
 | nil=>exact Nat.zero_le _
 | cons a r ih=>
  rw [List.map_cons,List.sum_cons,List.length_cons,Nat.mul_succ];have:=h a;omega
theorem live_few {S:St} (hp:PtsOk S.F) (hl:∀i m,S.F i=some m→MapLen m) (h:InvLive S) {ss:List Stp} (hn:ss.Nodup) (hm:∀x∈ss,(S.U x).isSome=true):ss.length≤8256:=by
 have h1:=nodup_sub ss ((List.range 129).flatMap fun i=>(fptrs S.F i).map stpOf) hn (fun x hx=>by
  obtain ⟨u,hu⟩:=Option.isSome_iff_exists.1 (hm x hx);obtain ⟨h1,h2⟩:=h.live x u hu;rw [h1] at h2;obtain ⟨i,hi,m,hF,p,hpm,rfl⟩:=live_has h2;refine List.mem_flatMap.2 ⟨i,List.mem_range.2 hi,List.mem_map.2 ⟨p,?_,rfl⟩⟩;unfold fptrs;rw [hF];exact hpm)
 rw [List.length_flatMap] at h1;have h2:=sum_le (List.range 129) (fun i=>((fptrs S.F i).map stpOf).length) 64 (fun i=>by
  rw [List.length_map];exact (fptrs_short hp.short hl i).1)
 rw [List.length_range] at h2;omega
theorem S0_live:InvLive S0:=⟨fun i m h=>(by cases h),fun i m h=>(by cases h),fun x u h=>(by cases h)⟩
end Go.Proofs.YtlcojhddnpmgmaaGreat
namespace Go.Proofs.YtlcojhddnpmgmaaGreat
open Go.ChangeShapes Go.WideShapes Go.RowKit Go.Deep
section
variable {H:Type} {enc:TypeId×Value→H} {W:World}
theorem Tryz.cells4:Tryz.prog.cellsOf 4=1:=by kernel_rfl
theorem Tryz.cells9:Tryz.prog.cellsOf 9=1:=by kernel_rfl
theorem Tryz.cells38:Tryz.prog.cellsOf 38=3:=by kernel_rfl
theorem Tryz.cells59:Tryz.prog.cellsOf 59=5:=by kernel_rfl
theorem Tryz.cells57:Tryz.prog.cellsOf 57=4:=by kernel_rfl
theorem Tryz.cells61:Tryz.prog.cellsOf 61=14:=by kernel_rfl
theorem Tryz.cells39:Tryz.prog.cellsOf 39=1:=by kernel_rfl
theorem Tryz.cells34:Tryz.prog.cellsOf 34=1:=by kernel_rfl
theorem Tryz.cells41:Tryz.prog.cellsOf 41=14:=by kernel_rfl
theorem fields_of {P:Program} {t:TypeId} {fs:Array Field} {fuel:Nat} {cs:List Value} {x:DataW H×List MemPlace} (ht:P.underlying t=some (.struct fs)) (h:DataW.trod enc P W 0 (fun _=>true) true fuel t cs=some x):
  cs.length=P.cellsOf t∧∃n,∀(i:Nat) (f:Field) (t':TypeId) (o k:Nat),fs[i]? =some f→f.type=t'→f.offset=o→P.cellsOf t'=k→∃y,DataW.trod enc P W 0 (fun _=>true) true n t' ((cs.drop o).take k)=some y:=by
 obtain ⟨xs,n,_,_,hc,hl,hf⟩:=DataW.trod_struct ht h;refine ⟨hc,n,fun i f t' o k hi e1 e2 e3=> ?_⟩;subst e1 e2 e3;have hlt:i<xs.length:=by
  rw [hl];exact (Array.getElem?_eq_some_iff.1 hi).1
 exact ⟨xs[i],by rw [hf i f hi,List.getElem?_eq_getElem hlt]⟩
theorem int_of {fuel:Nat} {c:Value} {y:DataW H×List MemPlace} (h:DataW.trod enc Tryz.prog W 0 (fun _=>true) true fuel 3 [c]=some y):∃n,c=.int .i64 n∧I64 n:=by
 obtain ⟨n,hc,_,hw⟩:=DataW.trod_int Tryz.underlying3 h;simp only [List.cons.injEq,and_true] at hc;exact ⟨n,hc,bounds_i64 hw⟩
theorem bool_of {fuel:Nat} {c:Value} {y:DataW H×List MemPlace} (h:DataW.trod enc Tryz.prog W 0 (fun _=>true) true fuel 4 [c]=some y):∃n,c=.bool n:=by
 obtain ⟨n,hc,_⟩:=DataW.trod_bool Tryz.underlying4 h;simp only [List.cons.injEq,and_true] at hc;exact ⟨n,hc⟩
theorem str_of {fuel:Nat} {c:Value} {y:DataW H×List MemPlace} (h:DataW.trod enc Tryz.prog W 0 (fun _=>true) true fuel 9 [c]=some y):∃l:List UInt8,c=.string (ba l):=by
 obtain ⟨s,hc,_,hw⟩:=DataW.trod_string Tryz.underlying9 h;simp only [List.cons.injEq,and_true] at hc;exact ⟨s.data.toList,by rw [hc,ba_of]⟩
theorem slot_of_add {w:World} {a:Addr} {v:Value} (h:w.cell? a=some v):a.spot=none:=by
 unfold World.cell? at h;split at h
 ·split at h
  ·cases h
  ·simpa using ‹¬a.spot.isSome=true›
 ·cases h
theorem lt_of_cell' {w:World} {a:Addr} {v:Value} (h:w.cell? a=some v):a.block<w.heap.size:=by
 unfold World.cell? at h;split at h
 ·rename_i e
  exact (Array.getElem?_eq_some_iff.1 e).1
 ·cases h
theorem rows_open {T ET:TypeId} {n:Nat} {α:Type} [Inhabited α] (c:α→List Value) (G:α→Prop) (hT:Tryz.prog.underlying T=some (.slice ET)) (hE:Tryz.prog.cellsOf ET=n) (hn:0<n) (hc:∀x,(c x).length=n)
  (hel:∀ {fuel:Nat} {cs:List Value} {y:DataW H×List MemPlace},DataW.trod enc Tryz.prog W 0 (fun _=>true) true fuel ET cs=some y→∃x,cs=c x∧G x) {fuel:Nat} {v:Value} {y:DataW H×List MemPlace}
  (h:DataW.trod enc Tryz.prog W 0 (fun _=>true) true fuel T [v]=some y):
  ∃(L:List α) (base:Option Addr) (cap:Nat),v=.slice base L.length cap∧(∀x∈L,G x)∧(L≠ []→∃b off,base=some ⟨b,off,none⟩∧b<W.heap.size∧∀(j:Nat) x,L[j]? =some x→W.rangeAt b (off+j*n) (c x)):=by
 rcases open_slice hT h with ⟨hcs,_⟩|⟨a,len,cap,m,k,D,Pl,hcs,_,hl,hm,hmm,_,hi⟩
 ·simp only [List.cons.injEq,and_true] at hcs;exact ⟨[],none,0,hcs,(fun _ h=>by cases h),fun h=>absurd rfl h⟩
 ·simp only [List.cons.injEq,and_true] at hcs;simp only [if_true] at hmm;subst hmm;rw [hE] at hi;obtain ⟨f,hF⟩:=choose_lt (α:=α) (n:=len) (p:=fun i x=>G x∧∀j u,(c x)[j]? =some u→W.cell? ((a.add (i*n)).add j)=some u) (fun i hlt=>by
   obtain ⟨cs',h1,h2⟩:=hi i (by omega);obtain ⟨x,rfl,hg⟩:=hel h2;obtain ⟨_,hlen,hcell⟩:=World.cells?_some h1;refine ⟨x,hg,fun j u hj=> ?_⟩;have hjn:j<n:=by
    rcases Nat.lt_or_ge j n with h|h
    ·exact h
    ·rw [List.getElem?_eq_none (by rw [hc];exact h)] at hj;cases hj
   rw [hcell j hjn,hj])
  refine ⟨(List.range len).map f,some a,m,by simpa using hcs,fun x hx=> ?_,fun hne=> ?_⟩
  ·obtain ⟨i,hi',rfl⟩:=List.mem_map.1 hx;exact (hF i (List.mem_range.1 hi')).1
  ·have h0:0<len:=by
    rcases Nat.eq_zero_or_pos len with h0|h0
    ·subst h0;simp at hne
    ·exact h0
   have hlen0:0<(c (f 0)).length:=(by rw [hc];exact hn)
   have c0:=(hF 0 h0).2 0 _ (List.getElem?_eq_getElem hlen0);have ha:=slot_of_add c0;have ha:a.spot=none:=(by simpa [Addr.add] using ha)
   have hblk:=lt_of_cell' c0;obtain ⟨b,off,s⟩:=a;simp only at ha;subst ha;refine ⟨b,off,rfl,by simpa [Addr.add] using hblk,fun j x hj=> ?_⟩;have hj2:j<len:=by
    rcases Nat.lt_or_ge j len with h|h
    ·exact h
    ·rw [List.getElem?_eq_none (by simp;omega)] at hj;cases hj
   have hx:x=f j:=by
    rw [List.getElem?_map,List.getElem?_range hj2] at hj;simpa using hj.symm
   subst hx;intro i u hu;have h2:((Addr.mk b off none).add (j*n)).add i=⟨b,off+j*n+i,none⟩:=by
    unfold Addr.add;split<;>split<;>simp_all
   have:=(hF j hj2).2 i u hu;rw [h2] at this;exact this
theorem stp_of {fuel:Nat} {cs:List Value} {y:DataW H×List MemPlace} (h:DataW.trod enc Tryz.prog W 0 (fun _=>true) true fuel 46 cs=some y):∃x:Stp,cs= [.int .i64 x.1,.int .i64 x.2.1,.int .i64 x.2.2]∧stpGood x:=by
 obtain ⟨hl,n,hf⟩:=fields_of Tryz.underlying46 h;rw [Tryz.cells46] at hl
 match cs,hl with
 | [c0,c1,c2],_=>
  obtain ⟨_,g0⟩:=hf 0 _ 3 0 1 rfl rfl rfl Tryz.cells3;obtain ⟨_,g1⟩:=hf 1 _ 3 1 1 rfl rfl rfl Tryz.cells3;obtain ⟨_,g2⟩:=hf 2 _ 3 2 1 rfl rfl rfl Tryz.cells3;obtain ⟨n0,rfl,i0⟩:=int_of g0;obtain ⟨n1,rfl,i1⟩:=int_of g1;obtain ⟨n2,rfl,i2⟩:=int_of g2;exact ⟨(n0,n1,n2),rfl,i0,i1,i2⟩
theorem sz_of {fuel:Nat} {cs:List Value} {y:DataW H×List MemPlace} (h:DataW.trod enc Tryz.prog W 0 (fun _=>true) true fuel 57 cs=some y):∃x:Sz,cs=szC x∧stpGood x.1:=by
 obtain ⟨hl,n,hf⟩:=fields_of Tryz.underlying57 h;rw [Tryz.cells57] at hl
 match cs,hl with
 | [c0,c1,c2,c3],_=>
  obtain ⟨_,g0⟩:=hf 0 _ 46 0 3 rfl rfl rfl Tryz.cells46;obtain ⟨_,g3⟩:=hf 1 _ 3 3 1 rfl rfl rfl Tryz.cells3;obtain ⟨x,e,hx⟩:=stp_of g0;obtain ⟨n3,rfl,_⟩:=int_of g3;simp only [List.drop_zero,List.take_succ_cons,List.take_zero,List.cons.injEq,and_true] at e;obtain ⟨rfl,rfl,rfl⟩:=e;exact ⟨(x,n3),rfl,hx⟩
theorem pt_of {fuel:Nat} {cs:List Value} {y:DataW H×List MemPlace} (h:DataW.trod enc Tryz.prog W 0 (fun _=>true) true fuel 59 cs=some y):∃x:Pt,cs=ptC x:=by
 obtain ⟨hl,n,hf⟩:=fields_of Tryz.underlying59 h;rw [Tryz.cells59] at hl
 match cs,hl with
 | [c0,c1,c2,c3,c4],_=>
  obtain ⟨_,g0⟩:=hf 0 _ 46 0 3 rfl rfl rfl Tryz.cells46;obtain ⟨_,g3⟩:=hf 1 _ 3 3 1 rfl rfl rfl Tryz.cells3;obtain ⟨_,g4⟩:=hf 2 _ 3 4 1 rfl rfl rfl Tryz.cells3;obtain ⟨x,e,hx⟩:=stp_of g0;obtain ⟨n3,rfl,_⟩:=int_of g3;obtain ⟨n4,rfl,_⟩:=int_of g4;simp only [List.drop_zero,List.take_succ_cons,List.take_zero,List.cons.injEq,and_true] at e;obtain ⟨rfl,rfl,rfl⟩:=e;exact ⟨⟨x.1,x.2.1,x.2.2,n3,n4⟩,rfl⟩
theorem dl_of {fuel:Nat} {cs:List Value} {y:DataW H×List MemPlace} (h:DataW.trod enc Tryz.prog W 0 (fun _=>true) true fuel 61 cs=some y):∃x:Dl,cs=dlC x:=by
 obtain ⟨hl,n,hf⟩:=fields_of Tryz.underlying61 h;rw [Tryz.cells61] at hl
 match cs,hl with
 | [c0,c1,c2,c3,c4,c5,c6,c7,c8,c9,c10,c11,c12,c13],_=>
  obtain ⟨_,g0⟩:=hf 0 _ 3 0 1 rfl rfl rfl Tryz.cells3;obtain ⟨_,g1⟩:=hf 1 _ 3 1 1 rfl rfl rfl Tryz.cells3;obtain ⟨_,g2⟩:=hf 2 _ 3 2 1 rfl rfl rfl Tryz.cells3;obtain ⟨_,g3⟩:=hf 3 _ 3 3 1 rfl rfl rfl Tryz.cells3;obtain ⟨_,g4⟩:=hf 4 _ 59 4 5 rfl rfl rfl Tryz.cells59;obtain ⟨_,g9⟩:=hf 5 _ 59 9 5 rfl rfl rfl Tryz.cells59;obtain ⟨n0,rfl,_⟩:=int_of g0;obtain ⟨n1,rfl,_⟩:=int_of g1;obtain ⟨n2,rfl,_⟩:=int_of g2;obtain ⟨n3,rfl,_⟩:=int_of g3;obtain ⟨t,e⟩:=pt_of g4;obtain ⟨o,e'⟩:=pt_of g9;simp only [ptC,List.drop_succ_cons,List.drop_zero,List.take_succ_cons,List.take_zero,List.cons.injEq,and_true] at e e';obtain ⟨rfl,rfl,rfl,rfl,rfl⟩:=e;obtain ⟨rfl,rfl,rfl,rfl,rfl⟩:=e';exact ⟨⟨n0,n1,n2,n3,t,o⟩,rfl⟩
theorem szs_of {fuel:Nat} {v:Value} {y:DataW H×List MemPlace} (h:DataW.trod enc Tryz.prog W 0 (fun _=>true) true fuel 39 [v]=some y):∃st:List Sz,RowsAt szC 4 W (fun _=>0) v st∧∀s∈st,stpGood s.1:=by
 obtain ⟨L,base,cap,e,hg,hr⟩:=rows_open (enc:=enc) (W:=W) szC (fun x=>stpGood x.1) Tryz.underlying39 Tryz.cells57 (by decide) szC_len sz_of h;exact ⟨L,⟨base,cap,e,fun hL=>by
  obtain ⟨b,off,e1,hb,hx⟩:=hr hL;exact ⟨b,off,e1,rfl,hb,hx⟩⟩,hg⟩
theorem dls_of {fuel:Nat} {v:Value} {y:DataW H×List MemPlace} (h:DataW.trod enc Tryz.prog W 0 (fun _=>true) true fuel 34 [v]=some y):∃dl:List Dl,RowsAt dlC 14 W (fun _=>0) v dl:=by
 obtain ⟨L,base,cap,e,_,hr⟩:=rows_open (enc:=enc) (W:=W) dlC (fun _=>True) Tryz.underlying34 Tryz.cells61 (by decide) (fun _=>rfl) (fun h=>by
  obtain ⟨x,hx⟩:=dl_of h;exact ⟨x,hx,trivial⟩) h
 exact ⟨L,⟨base,cap,e,fun hL=>by
  obtain ⟨b,off,e1,hb,hx⟩:=hr hL;exact ⟨b,off,e1,rfl,hb,hx⟩⟩⟩
abbrev RqV:=Rq×Value×Value
def RqV.cells (y:RqV):List Value:=(y.1.1.cells y.2.1 y.2.2).toList
def RqV.good (W:World) (y:RqV):Prop:=RowsAt szC 4 W (fun _=>0) y.2.1 y.1.2.1∧RowsAt dlC 14 W (fun _=>0) y.2.2 y.1.2.2∧∀s∈y.1.2.1,stpGood s.1
theorem rq_of {fuel:Nat} {cs:List Value} {y:DataW H×List MemPlace} (h:DataW.trod enc Tryz.prog W 0 (fun _=>true) true fuel 41 cs=some y):∃x:RqV,cs=x.cells∧x.good W:=by
 obtain ⟨hl,n,hf⟩:=fields_of Tryz.underlying41 h;rw [Tryz.cells41] at hl
 match cs,hl with
 | [c0,c1,c2,c3,c4,c5,c6,c7,c8,c9,c10,c11,c12,c13],_=>
  obtain ⟨_,gs⟩:=hf 0 _ 38 0 3 rfl rfl rfl Tryz.cells38;obtain ⟨_,g3⟩:=hf 1 _ 3 3 1 rfl rfl rfl Tryz.cells3;obtain ⟨_,g4⟩:=hf 2 _ 9 4 1 rfl rfl rfl Tryz.cells9;obtain ⟨_,g5⟩:=hf 3 _ 9 5 1 rfl rfl rfl Tryz.cells9;obtain ⟨_,g6⟩:=hf 4 _ 4 6 1 rfl rfl rfl Tryz.cells4;obtain ⟨_,g7⟩:=hf 5 _ 4 7 1 rfl rfl rfl Tryz.cells4;obtain ⟨_,g8⟩:=hf 6 _ 4 8 1 rfl rfl rfl Tryz.cells4;obtain ⟨_,g9⟩:=hf 7 _ 3 9 1 rfl rfl rfl Tryz.cells3;obtain ⟨_,g10⟩:=hf 8 _ 3 10 1 rfl rfl rfl Tryz.cells3;obtain ⟨_,g11⟩:=hf 9 _ 3 11 1 rfl rfl rfl Tryz.cells3;obtain ⟨_,g12⟩:=hf 10 _ 39 12 1 rfl rfl rfl Tryz.cells39;obtain ⟨_,g13⟩:=hf 11 _ 34 13 1 rfl rfl rfl Tryz.cells34;obtain ⟨_,m,hm⟩:=fields_of Tryz.underlying38 gs;obtain ⟨_,k0⟩:=hm 0 _ 3 0 1 rfl rfl rfl Tryz.cells3;obtain ⟨_,k1⟩:=hm 1 _ 3 1 1 rfl rfl rfl Tryz.cells3;obtain ⟨_,k2⟩:=hm 2 _ 3 2 1 rfl rfl rfl Tryz.cells3;obtain ⟨n0,rfl,_⟩:=int_of k0;obtain ⟨n1,rfl,_⟩:=int_of k1;obtain ⟨n2,rfl,_⟩:=int_of k2;obtain ⟨n3,rfl,_⟩:=int_of g3;obtain ⟨n4,rfl⟩:=str_of g4;obtain ⟨n5,rfl⟩:=str_of g5;obtain ⟨n6,rfl⟩:=bool_of g6;obtain ⟨n7,rfl⟩:=bool_of g7;obtain ⟨n8,rfl⟩:=bool_of g8;obtain ⟨n9,rfl,_⟩:=int_of g9;obtain ⟨n10,rfl,_⟩:=int_of g10;obtain ⟨n11,rfl,_⟩:=int_of g11;obtain ⟨st,hst,hgood⟩:=szs_of g12;obtain ⟨dl,hdl⟩:=dls_of g13;exact ⟨((⟨n0,n1,n2,n3,n4,n5,n6,n7,n8,n9,n10,n11⟩,st,dl),_,_),rfl,hst,hdl,hgood⟩
theorem rqs_of {b0:Nat} {v:Value} {d:DataW H} {p:List MemPlace} (hv:Value.okWide Tryz.prog W .any b0 44 v) (h:DataW.Trod enc Tryz.prog W 0 (fun _=>true) true 44 v d p):∃L:List Rq,RqsAt W (fun _=>0) v L∧∀y∈L,∀s∈y.2.1,stpGood s.1:=by
 obtain ⟨a',len',cap',rfl⟩:=okWide_slice Tryz.underlying44 hv;obtain ⟨fuel,hf⟩:=h
 haveI:Inhabited RqV:=⟨((⟨0,0,0,0, [], [],false,false,false,0,0,0⟩, [], []),.slice none 0 0,.slice none 0 0)⟩
 obtain ⟨L,base,cap,e,hg,hr⟩:=rows_open (enc:=enc) (W:=W) RqV.cells (RqV.good W) Tryz.underlying44 Tryz.cells41 (by decide) (fun _=>rfl) rq_of (v:=.slice a' len' cap') hf;refine ⟨L.map (·.1),⟨base,cap,by rw [List.length_map];exact e,fun hL=> ?_⟩,fun y hy s hs=> ?_⟩
 ·have hL':L≠ []:=fun h=>hL (by rw [h];rfl);obtain ⟨b,off,e1,hb,hx⟩:=hr hL';refine ⟨b,off,e1,rfl,hb,fun j y hj=> ?_⟩;rw [List.getElem?_map] at hj;cases hz:L[j]? with
  | none=>rw [hz] at hj;cases hj
  | some z=>
   rw [hz] at hj;cases hj;obtain ⟨g1,g2,_⟩:=hg z (List.mem_of_getElem? hz);exact ⟨z.2.1,z.2.2,hx j z hz,g1,g2⟩
 ·obtain ⟨z,hz,rfl⟩:=List.mem_map.1 hy;exact (hg z hz).2.2 s hs
end
end Go.Proofs.YtlcojhddnpmgmaaGreat
