/- Part of the proof; the last text says what is proved. -/
import Derived.Test.YtlcojhddnpmgmaaGreatW18
set_option linter.unusedSimpArgs false
set_option linter.unusedVariables false
set_option maxRecDepth 100000
set_option maxHeartbeats 3200000
namespace Go.Proofs.YtlcojhddnpmgmaaGreat
open Go.RowKit Go.Lib
theorem ins_ (v:Value) (vb i:Nat) (L:List Tok) (r:Tok) (w:World) (h:TokV w v L) (hv:w.heap[vb]? =some (.cells #[.int .i64 r.c,.int .i64 r.h,.int .i64 r.i,.bool r.wr] 53 (0,0))) (hbig:L.length≤1000000) (hi:i≤L.length) (hne:∀b l c,v=.slice (some ⟨b,0,none⟩) l c→vb≠b):
  Calls Tryz.prog 201 #[v,.int .i64 i,.slice (some ⟨vb,0,none⟩) 1 1] w (InsPost w v (L.take i++r::L.drop i)):=by
 rcases h with ⟨rfl,rfl⟩|⟨b,cap,rfl,hm,hb⟩
 ·have hi0:i=0:=by simpa using hi
  subst hi0;exact ins_end_grow none 0 vb [] r w (.inl ⟨rfl,rfl⟩) hv rfl (by simp)
 ·by_cases hroom:L.length<cap
  ·rcases Nat.lt_or_ge i L.length with hlt|hge
   ·exact ins_shift b cap vb i L r w hb hv hroom hm hlt (hne b _ _ rfl)
   ·obtain rfl:i=L.length:=by omega
    have:=ins_end_room b cap vb L r w hb hv hroom hm;rwa [List.take_length,List.drop_length]
  ·have hcap:cap=L.length:=by have:=hb.len;omega
   rcases Nat.lt_or_ge i L.length with hlt|hge
   ·exact ins_grow b cap vb i L r w hb hv hcap hbig hlt
   ·obtain rfl:i=L.length:=by omega
    have:=ins_end_grow (some ⟨b,0,none⟩) cap vb L r w (.inr ⟨b,cap,rfl,hm,hb⟩) hv hcap hbig;rwa [List.take_length,List.drop_length]
def agn (r x:Tok):Int:=if r.c=x.c then r.h - x.h else r.c - x.c
def small (x:Tok):Prop:=0≤x.c∧x.c<4∧0≤x.h∧x.h<4
theorem against_ (r x:Tok) (hr:small r) (hx:small x) (w:World):Calls Tryz.prog 200 #[.agg #[.int .i64 r.c,.int .i64 r.h,.int .i64 r.i,.bool r.wr],.agg #[.int .i64 x.c,.int .i64 x.h,.int .i64 x.i,.bool x.wr]] w fun e w'=>e=.returned (.int .i64 (agn r x))∧Fr No w w':=by
 obtain ⟨a1,a2,a3,a4⟩:=hr;obtain ⟨b1,b2,b3,b4⟩:=hx;by_cases h:r.c=x.c
 ·have e:agn r x=r.h - x.h:=if_pos h;rw [e];rw [h] at*;clear e h;go_enter Tryz.func200,Tryz.ntmps200
  go_wp2
  go_ret
  exact ⟨rfl,by repeat (first|exact Fr.refl _|apply Fr.alloc)⟩
 ·have e:agn r x=r.c - x.c:=if_neg h;rw [e];clear e;go_enter Tryz.func200,Tryz.ntmps200
  go_wp2
  go_ret
  exact ⟨rfl,by repeat (first|exact Fr.refl _|apply Fr.alloc)⟩
def freeH (L:List Tok) (c:Int):Nat:=((List.range 4).find? fun h:Nat=>(ofT L c h).isNone).getD 4
theorem freeH_is {L:List Tok} {c:Int} {h:Nat} (h4:h≤4) (hb:∀k:Nat,k<h→(ofT L c k).isSome=true) (hn:h<4→(ofT L c h).isNone=true):freeH L c=h:=by
 unfold freeH;rcases Nat.lt_or_ge h 4 with hlt|hge
 ·have:(List.range 4).find? (fun h:Nat=>(ofT L c h).isNone)=some h:=by
   have h1:(List.range 4)[h]? =some h:=(by rw [List.getElem?_range hlt])
   refine find_at (p:=fun h:Nat=>(ofT L c h).isNone) h1 (hn hlt) (fun y hy=> ?_);rw [List.take_range,List.mem_range] at hy;have:=hb y (by omega);simp only [Option.isNone_eq_false_iff];exact this
  rw [this];rfl
 ·have:(List.range 4).find? (fun h:Nat=>(ofT L c h).isNone)=none:=List.find?_eq_none.2 (fun y hy=>by
   have:=hb y (by have:=List.mem_range.1 hy;omega);simp only [Bool.not_eq_true,Option.isNone_eq_false_iff];exact this)
  rw [this];have:h=4:=by omega
  rw [this];rfl
def openOf (L:List Tok) (c i:Int) (wr:Bool):Int×Nat×List Tok:=
 if 4≤freeH L c then (5,0,L) else if L.any (fun x=>x.i==i&&(wr||x.wr)) then (8,0,L)
 else (0,freeH L c,L.takeWhile (fun x=>decide (0<agn ⟨c,freeH L c,i,wr⟩ x))++⟨c,freeH L c,i,wr⟩::L.dropWhile (fun x=>decide (0<agn ⟨c,freeH L c,i,wr⟩ x)))
def OpenPost (w:World) (o:Nat→Nat) (K k:Nat) (L:List Tok) (x:Int×Nat×List Tok) (e:Ending) (w':World):Prop:=
 e=.returned (.tuple #[.int .i64 x.2.1,.int .i64 x.1])∧GTok w o K k x.2.2 w'
theorem take_at {α:Type} (p:α→Bool) (L:List α) (j:Nat) (hj:j≤L.length) (h1:∀y∈L.take j,p y=true) (h2:∀y,L[j]? =some y→p y=false):L.takeWhile p=L.take j∧L.dropWhile p=L.drop j:=by
 induction L generalizing j with
 | nil=>simp
 | cons a r ih=>
  cases j with
  | zero=>
   have:=h2 a (by simp);simp [List.takeWhile_cons,List.dropWhile_cons,this]
  | succ j=>
   have ha:=h1 a (by simp);obtain ⟨e1,e2⟩:=ih j (by simpa using hj) (fun y hy=>h1 y (by simp [hy])) (fun y hy=>h2 y (by simpa using hy));simp [List.takeWhile_cons,List.dropWhile_cons,ha,e1,e2]
theorem tmay_ (c i:Int) (hc:0≤c∧c<4) (hi:2≤i∧i≤128) (w:World):Calls Tryz.prog 199 #[.int .i64 c,.int .i64 i] w fun e w'=>e=.returned (.bool true)∧w'=w:=by
 obtain ⟨h1,h2⟩:=hc;obtain ⟨h3,h4⟩:=hi;go_enter Tryz.func199,Tryz.ntmps199
 go_wp2
 go_ret
 exact ⟨rfl,rfl⟩
theorem TokensAt.putNew {w w1 w2:World} {o:Nat→Nat} {K k b cap:Nat} {M:List Tok} {v:Value} (h:o k=K+5) (hk:w.heap[k]? =some (.cells #[.bool true,v] 155 (0,0))) (hf:Fresh w o) (hb:w.heap.size≤b) (f:Fr No w w1) (hr:TokB w1 b cap M) (hm:cap≤maxLen)
  (e:w2=w1.setCell ⟨k,1,none⟩ (.slice (some ⟨b,0,none⟩) M.length cap)):GTok w o K k M w2:=by
 have hlt:=lt_of_block hk;have k1:=f.block_of hk id;have f2:Fr (· =k) w1 w2:=e▸fr_set w1 k 1 _;have F:Fr (· =k) w w2:=f.of_no.trans f2 (fun _ _ e=>e);have hb1:=hr.lt;have s:Step (tokC2 K) w o w2 (paint o b (K+9)):=⟨F.mono (fun j _ e=> .inl (by rw [e];exact h)),fun j hj=>paint_other o _ (by omega),fun j hj=>by
  have:=f2.size;rw [paint_other o _ (by omega)];exact hf j (Nat.le_trans F.size hj)⟩
 exact ⟨_,s,by rw [paint_other o _ (by omega)];exact h,_,e▸setCell_at k1 1 _,.inr ⟨b,cap,rfl,hm,paint_same _ _ _,hr.fr f2 (by omega)⟩⟩
theorem open_end {w W w8:World} {o:Nat→Nat} {K k:Nat} {L M:List Tok} {v:Value} {e:Ending} (hT:TokensAt w o K k L) (hv:w.heap[k]? =some (.cells #[.bool true,v] 155 (0,0))) (hf:Fresh w o) (F:Fr No w W) (h:InsPost W v M e w8):
  ∃b cap,e=.returned (.slice (some ⟨b,0,none⟩) M.length cap)∧(∃u,w8.cell? ⟨k,1,none⟩=some u)∧w8.frozen? ⟨k,1,none⟩=false∧GTok w o K k M (w8.setCell ⟨k,1,none⟩ (.slice (some ⟨b,0,none⟩) M.length cap)):=by
 obtain ⟨h1,v',hk,hvv⟩:=hT;rw [hv] at hk;simp only [Option.some.injEq,Obj.cells.injEq,Array.mk.injEq,List.cons.injEq,and_true,true_and] at hk;subst hk;obtain ⟨b,cap,rfl,hm,hr,hcase⟩:=h;rcases hcase with ⟨⟨l,c,rfl⟩,f⟩|⟨hlt,f⟩
 ·have hb:o b=K+9:=by
   rcases hvv with ⟨e,_⟩|⟨b2,cap2,e,_,hb,_⟩
   ·cases e
   ·cases e;exact hb
  have hne:k≠b:=by intro e;rw [e,hb] at h1;omega
  have F8:Fr (· =b) w w8:=F.of_no.trans f (fun _ _ e=>e);have k8:=F8.block_of hv hne;exact ⟨b,cap,rfl,⟨_,cell_at k8 1⟩,frozen_at k8 1,TokensAt.put h1 hv hf hb F8 hr hm rfl⟩
 ·have F8:Fr No w w8:=F.trans f (fun _ _ e=>e);have k8:=F8.block_of hv id;exact ⟨b,cap,rfl,⟨_,cell_at k8 1⟩,frozen_at k8 1,TokensAt.putNew h1 hv hf (Nat.le_trans F.size hlt) F8 hr hm rfl⟩
theorem open_ (o:Nat→Nat) (K k:Nat) (L:List Tok) (c i:Int) (bw:Bool) (w:World) (hT:TokensAt w o K k L) (hf:Fresh w o) (hc:0≤c∧c<4) (hi:2≤i∧i≤128) (hs:∀x∈L,small x) (hbig:L.length≤1000000):
  Calls Tryz.prog 136 #[.pointer (some ⟨k,0,none⟩),.int .i64 c,.int .i64 i,.bool bw] w (OpenPost w o K k L (openOf L c i bw)):=by
 have hmf:∀(fn:Fn) (first cap:Array Value) (w:World),(Instr.makeFunc fn first cap).run Tryz.prog w=.ok (.func fn first cap) w:=fun _ _ _ _=>rfl;obtain ⟨h1,v,hk,hv⟩:=hT;have HV:Hid (TokV w v L):=lH (by
  rcases hv with h3|⟨b,cap,e,hm,hb,hr⟩
  ·exact .inl h3
  ·exact .inr ⟨b,cap,e,hm,hr⟩)
 have HO:Hid (∀w' (h:Int),Fr No w w'→Calls Tryz.prog 138 #[.pointer (some ⟨k,0,none⟩),.int .i64 c,.int .i64 h] w' (OfPost w' (ofT L c h))):=lH (fun w' h f=>tof_ k v L c h w' (f.block_of hk id) (HV.out.fr f));have c0:w.cell? ⟨k,0,none⟩=some (.bool true):=by rw [cell_at hk];rfl
 have HK:=lH hk;have FF:=lH hf;have HX:Hid (openOf L c i bw=if 4≤freeH L c then (5,0,L) else if L.any (fun x=>x.i==i&&(bw||x.wr)) then (8,0,L) else (0,freeH L c,L.takeWhile (fun x=>decide (0<agn ⟨c,freeH L c,i,bw⟩ x))++⟨c,freeH L c,i,bw⟩::L.dropWhile (fun x=>decide (0<agn ⟨c,freeH L c,i,bw⟩ x)))):=lH rfl;have HQ:Hid (∀h e w',openOf L c i bw=(h,0,L)→e=.returned (.tuple #[.int .i64 0,.int .i64 h])→Fr No w w'→OpenPost w o K k L (openOf L c i bw) e w'):=lH (fun h e w' hx he f=>by
  rw [hx];exact ⟨he,o,Step.no hf f,TokensAt.no ⟨h1,v,hk,hv⟩ hf f⟩)
 have HR:Hid (∀e w' M (h:Nat),openOf L c i bw=(0,h,M)→e=.returned (.tuple #[.int .i64 h,.int .i64 0])→GTok w o K k M w'→OpenPost w o K k L (openOf L c i bw) e w'):=lH (fun e w' M h hx he g=>by
  rw [hx];exact ⟨he,g⟩)
 generalize OpenPost w o K k L (openOf L c i bw)=Q at*;generalize openOf L c i bw=X at*;have HS:=lH hs;have H1:=lH h1;have HVV:=lH hv;have HC:=lH hc;have HI:=lH hi;clear hk hf hs h1 hv hc hi;go_enter Tryz.func136,Tryz.ntmps136;go_wp2_with fail;refine (tmay_ c i HC.out HI.out w).mono ?_;rintro e w ⟨rfl,rfl⟩;go_wp2_with fail;refine (HO.out w 0 (Fr.refl _)).mono ?_;rintro e w2 ⟨rfl,f2⟩;unfold tokV;go_wp2_with fail;generalize hx0:(ofT L c 0).getD noTok=x0;have k2:=new_at w2 (.cells #[.int .i64 x0.c,.int .i64 x0.h,.int .i64 x0.i,.bool x0.wr] 53);have F2:=lH (f2.alloc (.cells #[.int .i64 x0.c,.int .i64 x0.h,.int .i64 x0.i,.bool x0.wr] 53));generalize hw3:w2.alloc (.cells #[.int .i64 x0.c,.int .i64 x0.h,.int .i64 x0.i,.bool x0.wr] 53)=w3 at*;have K2:=lH k2;clear hw3 f2 k2;generalize hsome:(ofT L c 0).isSome=sm0;have HSM:=lH hsome;clear hsome hx0;go_loopw [10,11,12] (fun a p tk wr'=>∃h g:Nat,a=.int .i64 h∧p=.pointer (some ⟨g,0,none⟩)∧tk=.bool (ofT L c h).isSome∧h≤4∧Hid (∀j:Nat,j<h→(ofT L c j).isSome=true)∧Hid (Fr No w wr')∧Hid (∃x:Tok,wr'.heap[g]? =some (.cells #[.int .i64 x.c,.int .i64 x.h,.int .i64 x.i,.bool x.wr] 53 (0,0)))) (fun a _ _ _=>4 - (intOf a).toNat)
 case atStart=>exact ⟨0,w2.heap.size,rfl,rfl,by rw [← HSM.out];rfl,by omega,lH (by omega),F2,lH ⟨x0,K2.out⟩⟩
 case round=>
  obtain ⟨h,g,rfl,rfl,rfl,hh4,HBEF,HFR,HCELL⟩:=hrel;cases htk:(ofT L c h).isSome with
  | true=>
   have hlt:h<4:=by
    apply Classical.byContradiction;intro hge;obtain ⟨x,hx⟩:=Option.isSome_iff_exists.1 htk;have hm:=List.mem_of_find?_eq_some hx;have hp:=List.find?_some hx;have:=HS.out x hm;simp only [Bool.and_eq_true,beq_iff_eq] at hp;have:=this.2.2.2;omega
   have HT:=lH htk;obtain ⟨x,hg⟩:=HCELL.out;have p0:wr.cell? ⟨g,0,none⟩=some (.int .i64 x.c):=(by rw [cell_at hg];rfl)
   have p1:wr.cell? ⟨g,1,none⟩=some (.int .i64 x.h):=(by rw [cell_at hg];rfl)
   have p2:wr.cell? ⟨g,2,none⟩=some (.int .i64 x.i):=(by rw [cell_at hg];rfl)
   have p3:wr.cell? ⟨g,3,none⟩=some (.bool x.wr):=(by rw [cell_at hg];rfl)
   clear hg htk;go_wp2_with fail;refine (HO.out _ ((h:Int)+1) (HFR.out.alloc _)).mono ?_;rintro e w5 ⟨rfl,f5⟩;unfold tokV;have HF5:=lH (((HFR.out.alloc _).trans f5 (fun _ _ e=>e)));have HC5:=lH (f5.block_of (new_at wr (.cells #[.int .i64 x.c,.int .i64 x.h,.int .i64 x.i,.bool x.wr] 53)) id);have HB5:Hid (∀j:Nat,j<h+1→(ofT L c j).isSome=true):=lH (fun j hj=>by
    rcases Nat.lt_or_ge j h with h1|h1
    ·exact HBEF.out j h1
    ·obtain rfl:j=h:=by omega
     exact HT.out)
   clear f5;go_wp2_with fail;go_roundw
   case rel=>exact ⟨h+1,wr.heap.size,by go_num,rfl,by rw [show ((h+1:Nat):Int)=(h:Int)+1 by omega],by omega,HB5,HF5,lH ⟨x,HC5.out⟩⟩
   case measure=>simp [intOf];omega
  | false=>
   have HFH:Hid (freeH L c=h):=lH (freeH_is hh4 HBEF.out (fun _=>by rw [← Option.not_isSome,htk];rfl));clear htk HBEF;by_cases h44:h=4
   ·subst h44;have HV:Hid (X=(5,0,L)):=lH (by rw [HX.out,if_pos (by rw [HFH.out];exact Nat.le_refl _)]);go_wp2_with fail;exact HQ.out 5 _ _ HV.out rfl HFR.out
   ·have hlt:h<4:=by omega
    have q4:¬(4:Int)≤(h:Int):=(by omega)
    have hk1:=HFR.out.block_of HK.out id;have c1:wr.cell? ⟨k,1,none⟩=some v:=(by rw [cell_at hk1];rfl)
    obtain ⟨base,cap,rfl⟩:∃base cap,v=.slice base L.length cap:=by
     rcases HV.out with ⟨e,hl⟩|⟨b,cap,e,_,_⟩
     ·exact ⟨none,0,by rw [e,hl];rfl⟩
     ·exact ⟨_,_,e⟩
    go_wp2_with fail;go_loopw [56] (fun a wr'=>∃j:Nat,a=.int .i64 j∧j≤L.length∧Hid (∀y∈L.take j,(y.i==i&&(bw||y.wr))=false)∧Hid (Fr No w wr')) (fun a _=>L.length - (intOf a).toNat)
    case atStart=>exact ⟨0,rfl,Nat.zero_le _,lH (by simp),HFR⟩
    case round=>
     obtain ⟨j,rfl,hj,HA,HF⟩:=hrel;by_cases hjl:j<L.length
     ·obtain ⟨b,hbase,hcap,HB⟩:∃b,base=some ⟨b,0,none⟩∧cap≤maxLen∧Hid (TokB w b cap L):=by
       rcases HV.out with ⟨_,rfl⟩|⟨b,cap',e,hm,hb⟩
       ·simp at hjl
       ·cases e;exact ⟨b,rfl,hm,lH hb⟩
      subst hbase;have hml:cap≤9223372036854775807:=hcap;have hlen:L.length≤cap:=HB.out.len;have q1:(j:Int)<(L.length:Int):=(by omega)
      have q2:(0:Int)≤(j:Int):=(by omega)
      have q3:(j:Int)<(cap:Int):=(by omega)
      have HR3:=lH ((HB.out.fr HF.out id).row j L[j] (List.getElem?_eq_getElem hjl));have HXJ:Hid (L[j]? =some L[j]):=lH (List.getElem?_eq_getElem hjl);generalize L[j]=x at*;have FA:=lH (HF.out.alloc (.cells #[.int .i64 x.c,.int .i64 x.h,.int .i64 x.i,.bool x.wr] 53));unfold tokC at HR3;cases hq:(x.i==i) with
      | false=>
       have HN:Hid (∀y∈L.take (j+1),(y.i==i&&(bw||y.wr))=false):=lH (take_none (p:=fun y=>y.i==i&&(bw||y.wr)) HXJ.out (by simp [hq]) HA.out);go_wp2_with (refine wpList_load_mid (by rfl) 53 _ (by rfl) b (j*4) (by rfl) [.int .i64 x.c,.int .i64 x.h,.int .i64 x.i,.bool x.wr] _ HR3.out Tryz.underlying53 rfl Tryz.size53 ?_);go_roundw
       case rel=>exact ⟨j+1,by go_num,hjl,HN,FA⟩
       case measure=>simp [intOf];omega
      | true=>
       cases hbx:(bw||x.wr) with
       | false=>
        have HN:Hid (∀y∈L.take (j+1),(y.i==i&&(bw||y.wr))=false):=lH (take_none (p:=fun y=>y.i==i&&(bw||y.wr)) HXJ.out (by simp [hbx]) HA.out);obtain ⟨rfl,hxw⟩:=Bool.or_eq_false_iff.1 hbx;rw [hxw] at FA;rw [hxw] at HR3;go_wp2_with (refine wpList_load_mid (by rfl) 53 _ (by rfl) b (j*4) (by rfl) [.int .i64 x.c,.int .i64 x.h,.int .i64 x.i,.bool false] _ HR3.out Tryz.underlying53 rfl Tryz.size53 ?_);go_roundw
        case rel=>exact ⟨j+1,by go_num,hjl,HN,FA⟩
        case measure=>simp [intOf];omega
       | true=>
        have HV8:Hid (X=(8,0,L)):=lH (by
         rw [HX.out,if_neg (by rw [HFH.out];omega),if_pos];rw [List.any_eq_true];exact ⟨x,List.mem_of_getElem? HXJ.out,by simp [hq,hbx]⟩)
        cases bw with
        | true=>
         go_wp2_with (refine wpList_load_mid (by rfl) 53 _ (by rfl) b (j*4) (by rfl) [.int .i64 x.c,.int .i64 x.h,.int .i64 x.i,.bool x.wr] _ HR3.out Tryz.underlying53 rfl Tryz.size53 ?_);exact HQ.out 8 _ _ HV8.out rfl FA.out
        | false=>
         have hxw:x.wr=true:=(by simpa using hbx)
         rw [hxw] at FA;rw [hxw] at HR3;go_wp2_with (refine wpList_load_mid (by rfl) 53 _ (by rfl) b (j*4) (by rfl) [.int .i64 x.c,.int .i64 x.h,.int .i64 x.i,.bool true] _ HR3.out Tryz.underlying53 rfl Tryz.size53 ?_);exact HQ.out 8 _ _ HV8.out rfl FA.out
     ·obtain rfl:j=L.length:=by omega
      have q1:¬(L.length:Int)<(L.length:Int):=(by omega)
      have HNB:Hid (X=(0,h,L.takeWhile (fun x=>decide (0<agn ⟨c,h,i,bw⟩ x))++⟨c,h,i,bw⟩::L.dropWhile (fun x=>decide (0<agn ⟨c,h,i,bw⟩ x)))):=lH (by
       rw [HX.out,HFH.out,if_neg (by omega),if_neg];rw [Bool.not_eq_true,List.any_eq_false];intro y hy;rw [HA.out y (by rw [List.take_length];exact hy)];simp)
      clear HX HA HFH;have hk4:=(HF.out.alloc (.cells #[.int .i64 c,.int .i64 h,.int .i64 i,.bool bw] 53)).block_of HK.out id;have c1:(wr.alloc (.cells #[.int .i64 c,.int .i64 h,.int .i64 i,.bool bw] 53)).cell? ⟨k,1,none⟩=some (.slice base L.length cap):=(by rw [cell_at hk4];rfl)
      go_wp2_with fail;have F4:=lH (HF.out.alloc (.cells #[.int .i64 c,.int .i64 h,.int .i64 i,.bool bw] 53));have HRB:=lH (new_at wr (.cells #[.int .i64 c,.int .i64 h,.int .i64 i,.bool bw] 53));have HRL:Hid (w.heap.size≤wr.heap.size):=lH HF.out.size;have HK4:=lH hk4;generalize wr.alloc (.cells #[.int .i64 c,.int .i64 h,.int .i64 i,.bool bw] 53)=w4 at*;generalize wr.heap.size=rb at*;have HSR:Hid (small ⟨c,h,i,bw⟩):=lH ⟨HC.out.1,HC.out.2,by dsimp only;omega,by dsimp only;omega⟩;clear hk4 HF HFR HCELL HSM F2 K2 HO;go_loopw [17] (fun a wr'=>∃j:Nat,a=.int .i64 j∧j≤L.length∧Hid (∀y∈L.take j,decide (0<agn ⟨c,h,i,bw⟩ y)=true)∧Hid (Fr No w4 wr')) (fun a _=>L.length - (intOf a).toNat)
      case atStart=>exact ⟨0,rfl,Nat.zero_le _,lH (by simp),lH (Fr.refl _)⟩
      case round=>
       obtain ⟨j,rfl,hj,HA,HF⟩:=hrel;have hk5:=HF.out.block_of HK4.out id;have c5:wr.cell? ⟨k,1,none⟩=some (.slice base L.length cap):=(by rw [cell_at hk5];rfl)
       by_cases hjl:j<L.length
       ·obtain ⟨b,hbase,hcap,HB⟩:∃b,base=some ⟨b,0,none⟩∧cap≤maxLen∧Hid (TokB w b cap L):=by
         rcases HV.out with ⟨_,rfl⟩|⟨b,cap',e,hm,hb⟩
         ·simp at hjl
         ·cases e;exact ⟨b,rfl,hm,lH hb⟩
        subst hbase;have hml:cap≤9223372036854775807:=hcap;have hlen:L.length≤cap:=HB.out.len;have q1:(j:Int)<(L.length:Int):=(by omega)
        have q2:(0:Int)≤(j:Int):=(by omega)
        have q3:(j:Int)<(cap:Int):=(by omega)
        have HR3:=lH ((HB.out.fr (F4.out.trans HF.out (fun _ _ e=>e)) id).row j L[j] (List.getElem?_eq_getElem hjl));have HXJ:Hid (L[j]? =some L[j]):=lH (List.getElem?_eq_getElem hjl);have HAG:=lH (against_ ⟨c,h,i,bw⟩ L[j] HSR.out (HS.out _ (List.getElem_mem _)) wr);generalize L[j]=x at*;unfold tokC at HR3;have p0:wr.cell? ⟨b,j*4,none⟩=some (.int .i64 x.c):=HR3.out 0 _ rfl;have p1:wr.cell? ⟨b,j*4+1,none⟩=some (.int .i64 x.h):=HR3.out 1 _ rfl;have p2:wr.cell? ⟨b,j*4+2,none⟩=some (.int .i64 x.i):=HR3.out 2 _ rfl;have p3:wr.cell? ⟨b,j*4+3,none⟩=some (.bool x.wr):=HR3.out 3 _ rfl;have hag:∀a:Int,agn ⟨c,h,i,bw⟩ x=a→(Hid (agn ⟨c,h,i,bw⟩ x=a)):=fun a e=>lH e;generalize hA:agn ⟨c,h,i,bw⟩ x=A at*;have HAA:=hag A rfl;clear hag;by_cases hpos:0<A
        ·have HN:Hid (∀y∈L.take (j+1),decide (0<agn ⟨c,h,i,bw⟩ y)=true):=lH (fun y hy=>by
          rw [List.take_add_one,HXJ.out] at hy;rcases List.mem_append.1 hy with h9|h9
          ·exact HA.out y h9
          ·simp at h9;subst h9;rw [hA];simpa using hpos)
         clear hA;go_wp2_with fail;refine HAG.out.mono ?_;rintro e w6 ⟨rfl,f6⟩;go_wp2_with fail;go_roundw
         case rel=>exact ⟨j+1,by go_num,hjl,HN,lH (HF.out.trans f6 (fun _ _ e=>e))⟩
         case measure=>simp [intOf];omega
        ·have HW:=lH (take_at (fun y=>decide (0<agn ⟨c,h,i,bw⟩ y)) L j hj HA.out (fun y hy=>by
          rw [HXJ.out] at hy;cases hy;rw [hA];simpa using hpos))
         clear hA;go_wp2_with fail;refine HAG.out.mono ?_;rintro e w6 ⟨rfl,f6⟩;go_wp2_with fail;have hk9:=(HF.out.trans f6 (fun _ _ e=>e)).block_of HK4.out id;have hr9:=(HF.out.trans f6 (fun _ _ e=>e)).block_of HRB.out id;have d1:w6.cell? ⟨k,1,none⟩=some (.slice (some ⟨b,0,none⟩) L.length cap):=(by rw [cell_at hk9];rfl)
         have d2:w6.cell? ⟨rb,0,none⟩=some (.int .i64 c):=(by rw [cell_at hr9];rfl)
         have d3:w6.cell? ⟨rb,1,none⟩=some (.int .i64 h):=(by rw [cell_at hr9];rfl)
         have d4:w6.cell? ⟨rb,2,none⟩=some (.int .i64 i):=(by rw [cell_at hr9];rfl)
         have d5:w6.cell? ⟨rb,3,none⟩=some (.bool bw):=(by rw [cell_at hr9];rfl)
         have d6:(w6.alloc (.cells #[.int .i64 c,.int .i64 h,.int .i64 i,.bool bw] 53)).cell? ⟨k,1,none⟩=some (.slice (some ⟨b,0,none⟩) L.length cap):=(by rw [cell_at (((Fr.refl (S:=No) w6).alloc _).block_of hk9 id)];rfl)
         have FWd:Fr No w w6.drew:=fr_drew_r (F4.out.trans (HF.out.trans f6 (fun _ _ e=>e)) (fun _ _ e=>e));have FW:Fr No w (w6.drew.alloc (.cells #[.int .i64 c,.int .i64 h,.int .i64 i,.bool bw] 53)):=FWd.alloc _;have HINS:=lH (ins_ (.slice (some ⟨b,0,none⟩) L.length cap) w6.drew.heap.size j L ⟨c,h,i,bw⟩ _ (HV.out.fr FW) (new_at w6.drew _) hbig hj (fun b l c' e=>by
          rcases HV.out with ⟨e2,_⟩|⟨b2,cap2,e2,_,hb2⟩
          ·rw [e2] at e;cases e
          ·rw [e2] at e;cases e;have h5:=hb2.lt;have h6:=FWd.size;omega))
         have HEND:=lH (fun e w8 M=>open_end (w8:=w8) (M:=M) (e:=e) ⟨H1.out,_,HK.out,HVV.out⟩ HK.out FF.out FW);have HXM:Hid (X=(0,h,L.take j++⟨c,h,i,bw⟩::L.drop j)):=lH (by rw [HNB.out,HW.out.1,HW.out.2]);clear hk9 hr9 FW FWd HNB HW;generalize L.take j++(⟨c,h,i,bw⟩:Tok)::L.drop j=M at*
         go_region_with (go_at_call 201;refine HINS.out.mono ?_;rintro e w8 h8;obtain ⟨b8,cap8,rfl,⟨u8,e1⟩,e2,e3⟩:=HEND.out _ _ _ h8;clear h8;have HG:=lH e3;clear e3)
         all_goals
          go_wp2_with fail;exact HR.out _ _ M h HXM.out rfl HG.out
       ·obtain rfl:j=L.length:=by omega
        have q1:¬(L.length:Int)<(L.length:Int):=(by omega)
        have HW:=lH (take_at (fun y=>decide (0<agn ⟨c,h,i,bw⟩ y)) L L.length hj HA.out (fun y hy=>by simp at hy));go_wp2_with fail;have hk9:=(HF.out).block_of HK4.out id;have hr9:=(HF.out).block_of HRB.out id;have d1:wr.cell? ⟨k,1,none⟩=some (.slice base L.length cap):=(by rw [cell_at hk9];rfl)
        have d2:wr.cell? ⟨rb,0,none⟩=some (.int .i64 c):=(by rw [cell_at hr9];rfl)
        have d3:wr.cell? ⟨rb,1,none⟩=some (.int .i64 h):=(by rw [cell_at hr9];rfl)
        have d4:wr.cell? ⟨rb,2,none⟩=some (.int .i64 i):=(by rw [cell_at hr9];rfl)
        have d5:wr.cell? ⟨rb,3,none⟩=some (.bool bw):=(by rw [cell_at hr9];rfl)
        have d6:(wr.alloc (.cells #[.int .i64 c,.int .i64 h,.int .i64 i,.bool bw] 53)).cell? ⟨k,1,none⟩=some (.slice base L.length cap):=(by rw [cell_at (((Fr.refl (S:=No) wr).alloc _).block_of hk9 id)];rfl)
        have FWd:Fr No w wr.drew:=fr_drew_r (F4.out.trans (HF.out) (fun _ _ e=>e));have FW:Fr No w (wr.drew.alloc (.cells #[.int .i64 c,.int .i64 h,.int .i64 i,.bool bw] 53)):=FWd.alloc _;have HINS:=lH (ins_ (.slice base L.length cap) wr.drew.heap.size L.length L ⟨c,h,i,bw⟩ _ (HV.out.fr FW) (new_at wr.drew _) hbig hj (fun b l c' e=>by
         rcases HV.out with ⟨e2,_⟩|⟨b2,cap2,e2,_,hb2⟩
         ·rw [e2] at e;cases e
         ·rw [e2] at e;cases e;have h5:=hb2.lt;have h6:=FWd.size;omega))
        have HEND:=lH (fun e w8 M=>open_end (w8:=w8) (M:=M) (e:=e) ⟨H1.out,_,HK.out,HVV.out⟩ HK.out FF.out FW);have HXM:Hid (X=(0,h,L.take L.length++⟨c,h,i,bw⟩::L.drop L.length)):=lH (by rw [HNB.out,HW.out.1,HW.out.2]);clear hk9 hr9 FW FWd HNB HW;generalize L.take L.length++(⟨c,h,i,bw⟩:Tok)::L.drop L.length=M at*

        go_region_with (go_at_call 201;refine HINS.out.mono ?_;rintro e w8 h8;obtain ⟨b8,cap8,rfl,⟨u8,e1⟩,e2,e3⟩:=HEND.out _ _ _ h8;clear h8;have HG:=lH e3;clear e3)
        all_goals
         go_wp2_with fail;exact HR.out _ _ M h HXM.out rfl HG.out
end Go.Proofs.YtlcojhddnpmgmaaGreat
