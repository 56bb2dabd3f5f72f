/- Part of the proof; the last text says what is proved. -/
import Derived.Test.YtlcojhddnpmgmaaGreatR35
set_option linter.unusedSimpArgs false
set_option linter.unusedVariables false
set_option maxRecDepth 100000
set_option maxHeartbeats 6400000
namespace Go.Proofs.YtlcojhddnpmgmaaGreat
open Go.RowKit
theorem eql46 (a b c a' b' c':Int) (w:World):(binOp .eql 46 (.agg #[.int .i64 a,.int .i64 b,.int .i64 c]) (.agg #[.int .i64 a',.int .i64 b',.int .i64 c'])).run Tryz.prog w=.ok (.bool (decide (((a,b,c):Stp)=(a',b',c')))) w:=by
 have u3:=Tryz.underlying3;have a3:=Tryz.isAgg3;have z3:=Tryz.sizeOf3;have hS:Tryz.prog.underlying 46=some (.struct (Tryz.prog.fieldsOf 46)):=by kernel_rfl
 have hp:Tryz.prog.stoodInHeld 46=false:=by kernel_rfl
 rw [run_eql_struct,show (10000:Nat)=9999+1 from rfl,run_equalIn_agg w 9999 46 _ _ hS hp];simp only [Program.fieldsOf,Tryz.underlying46,Prod.mk.injEq];go_simp;by_cases h1:a=a'<;>by_cases h2:b=b'<;>by_cases h3:c=c'<;>simp [h1,h2,h3]
theorem ptnew_at {w:World} {base:Nat} {a:Option Addr} {len cap:Nat} {L:List Pt} (h:PtNew w base (.slice a len cap) L) (h0:L≠ []):∃b,a=some ⟨b,0,none⟩∧cap≤maxLen∧base≤b∧RowB ptC 5 59 w b cap L:=by
 rcases h with ⟨_,rfl⟩|⟨b,cap',e,hm,hb,hr⟩
 ·exact absurd rfl h0
 ·cases e;exact ⟨b,rfl,hm,hb,hr⟩
def cntC (ss:List Stp) (g:Stp→Int):Array Value:=(ss.map fun y=>Value.int .i64 (g y)).toArray
theorem make70 (ss:List Stp) (g:Stp→Int) (hg:∀y,g y=0) (hl:ss.length≤100000) (W:World):(Instr.makeSlice 70 (.int .i64 (ss.length:Int)) (.int .i64 (ss.length:Int))).run Tryz.prog W=.ok (.slice (some ⟨W.heap.size,0,none⟩) ss.length ss.length) (W.alloc (.cells (cntC ss g) 3)):=by
 obtain ⟨i0,hi,hz0,hz1,hz2⟩:=info_parts Tryz.info3;have h:=run_makeSlice (P:=Tryz.prog) W 70 3 i0 _ Tryz.underlying70 hi hz0 .i64 .i64 (ss.length:Int) (ss.length:Int) (by omega) (Int.le_refl _) (by rw [hz1,Int.toNat_natCast];omega) (by rw [hz2];omega) (by omega);rw [h];simp only [Int.toNat_natCast];have e:madeCells (Value.int .i64 0).cells (ss.length*i0.size)=cntC ss g:=by
  apply Array.ext';unfold cntC;rw [hz1,Nat.mul_one];refine (toList_madeCells_one (.int .i64 0) ss.length).trans ?_;refine List.ext_getElem (by simp) (fun k h1 h2=> ?_);simp [hg]
 rw [e]
theorem cnt_at {w:World} {lb:Nat} {ss:List Stp} {g:Stp→Int} (h:w.heap[lb]? =some (.cells (cntC ss g) 3 (0,0))) {a:Nat} {y:Stp} (ha:ss[a]? =some y):w.cell? ⟨lb,a,none⟩=some (.int .i64 (g y)):=by
 rw [cell_at h];unfold cntC;simp [ha]
theorem cnt_set {ss:List Stp} (hn:ss.Nodup) {b:Nat} {x:Stp} (hb:ss[b]? =some x) (g g':Stp→Int) (hx:∀y,y≠x→g' y=g y):(cntC ss g).setIfInBounds b (.int .i64 (g' x))=cntC ss g':=by
 unfold cntC;rw [lsA,set_count hn hb g g' hx]
theorem cnt_same {ss:List Stp} {g g':Stp→Int} (h:∀y,g y=g' y):cntC ss g=cntC ss g':=by
 rw [show g=g' from funext h]
theorem stateLive_ (v1:Value) (L1:List Rq) (w:World) (h1:RqsAt w (fun _=>0) v1 L1) (g1:GoodRqs L1):
  Calls Tryz.prog 7 #[v1] w fun e w'=>e=.returned (.bool true)∧Fr No w w':=by
 have mixed:Tryz.prog.follows .mixedOrders=true:=by kernel_rfl
 obtain ⟨base1,cap1,rfl⟩:=h1.slice;generalize hQ:(fun (e:Ending) (w':World)=>e=.returned (.bool true)∧Fr No w w')=Q;have HQ:Hid (∀w',Fr No w w'→Q (.returned (.bool true)) w'):=lH (fun w' f=>by rw [← hQ];exact ⟨rfl,f⟩);clear hQ;have H1:=lH h1;have G1:=lH g1;clear h1 g1;go_enter Tryz.func7,Tryz.ntmps7;go_wp2_with fail;refine (gawake_ _).mono ?_;rintro e w1 ⟨rfl,f1⟩;have F1:=lH f1;have H11:=lH (H1.out.no (fresh0 _) f1);clear f1 H1;have HA1:=lH (gasks_ (fun _=>0) _ L1 80 w1 (fresh0 w1) H11.out (by omega));unfold BoolPost at HA1;cases hA:decide (L1.length≤80∧∀y∈L1,smallY y) with
 | false=>
  rw [hA] at HA1;clear hA;go_wp2_with fail;refine HA1.out.mono ?_;rintro e w2 ⟨rfl,f2⟩;have F2:=lH (F1.out.trans f2 (fun _ _ e=>e));clear f2;go_wp2_with fail;exact HQ.out _ F2.out
 | true=>
  rw [hA] at HA1;have SM1:=lH (of_decide_eq_true hA);clear hA;go_wp2_with fail;refine HA1.out.mono ?_;rintro e w2 ⟨rfl,f2⟩;have F2:=lH (F1.out.trans f2 (fun _ _ e=>e));have H12:=lH (H11.out.no (fresh0 _) f2);clear f2 H11 F1 HA1;go_wp2_with fail;refine (gstate_new _).mono ?_;rintro e w4 ⟨L,o4,rfl,s4,t4⟩;have F4:=lH (F2.out.trans (s4.fr.mono (fun _ _ e=>e)) (fun _ _ e=>e.elim));have HLE:Hid (∀k,k<w.heap.size→o4 k=0):=lH (fun k hk=>s4.old k (Nat.lt_of_lt_of_le hk F2.out.size));have H14:=lH (H12.out.step s4 id);have LI0:Hid (Lies w4 o4 L 0 InvLive w4):=lH ⟨o4,S0,Step.refl s4.fresh,t4,S0_inv,S0_live⟩;have nos:¬stateC 0 0:=by unfold stateC;omega
  have NOS:=lH nos;have HL80:=lH SM1.out.1;clear s4 t4 H12 F2 nos;go_wp2_with fail;go_loopw [4] (fun a wr=>∃j:Nat,a=.int .i64 j∧j≤L1.length∧Hid (Lies w4 o4 L j InvLive wr)) (fun a _=>L1.length - (intOf a).toNat)
  case atStart=>exact ⟨0,rfl,Nat.zero_le _,LI0⟩
  case round=>
   obtain ⟨j,rfl,hj,HLI⟩:=hrel;obtain ⟨oj,S,sj,tj,ij,pj⟩:=HLI.out;have SJ:=lH sj;have TJ:=lH tj;have IJ:=lH ij;have PJ:=lH pj;have hl80:=HL80.out;clear sj tj ij pj;by_cases hlt:j<L1.length
   ·have q1:(j:Int)<(L1.length:Int):=by omega
    have q3:(0:Int)≤(j:Int):=(by omega)
    have hne:L1≠ []:=by
     intro e;subst e;simp at hlt
    obtain ⟨b,off,rfl,ho,hbl,hrows⟩:=(H14.out.step SJ.out NOS.out).at hne;have hrq0:=hrows j L1[j] (List.getElem?_eq_getElem hlt);obtain ⟨rv,dv,hr1,hr2,hr3⟩:=hrq0;have HSM:=lH (SM1.out.2 L1[j] (List.getElem_mem hlt));have HGD:=lH (G1.out L1[j] (List.getElem_mem hlt));generalize L1[j]=y at*;obtain ⟨r,st,dl⟩:=y;dsimp only at hr1 hr2 hr3 HGD;unfold smallY at HSM;dsimp only at HSM;obtain ⟨bs,cs,rfl⟩:=hr2.slice;obtain ⟨bd,cd,rfl⟩:=hr3.slice;have HR1:=lH hr1;have HR3:=lH hr3;have HRQ:=lH (grequest_ oj r (.slice bs st.length cs) (.slice bd dl.length cd) st wr SJ.out.fresh hr2 ⟨_,_,_,rfl⟩ (by have:=HSM.out.2.2.1;omega));unfold ReqPost at HRQ;unfold Req.cells at HR1 HRQ;clear hrows ho hbl hr1 hr2 hr3;go_wp2_with (refine wpList_load_mid (by rfl) 41 _ (by rfl) b (off+j*14) (by rfl) [.int .i64 r.c,.int .i64 r.l,.int .i64 r.q,.int .i64 r.kind,.string (ba r.path),.string (ba r.to),.bool r.dir,.bool r.wr,.bool r.cl,.int .i64 r.h,.int .i64 r.nx,.int .i64 r.sw,.slice bs st.length cs,.slice bd dl.length cd] _ HR1.out Tryz.underlying41 rfl Tryz.size41 ?_);refine HRQ.out.mono ?_;rintro e wq ⟨rv',rfl,hrq,fq⟩;have TQ:=TJ.out.no IJ.out.ok SJ.out.fresh fq;have sq:Step (fun _=>False) wr oj wq oj:=Step.no SJ.out.fresh fq;have SQ:Hid (Step (stateC 0) w4 o4 wq oj):=lH (SJ.out.trans sq (fun _ e=>e.elim));have HW:=lH (wentK oj 0 (100*j) (2*j) L S r rv' _ st dl wq TQ IJ.out sq.fresh hrq (HR3.out.no SJ.out.fresh fq) HSM.out HGD.out (by omega) (by omega));unfold WentK at HW;unfold Req.cells at HW;clear TQ hrq fq sq HR3 HRQ TJ SJ HLI;go_wp2_with fail;refine HW.out.mono ?_;rintro e w7 ⟨x,o7,ev,mv,rfl,q1e,q2e,d7,i7,s7,t7⟩;have LV:=lH (live_did IJ.out i7 PJ.out d7);have S7:=lH (SQ.out.trans s7 (fun _ e=>e));have T7:Hid (StateAt w7 o7 0 L x.2 (100*(j+1))):=lH (by rwa [show 100*j+100=100*(j+1) by omega] at t7);have I7:Hid (StInv x.2 (2*(j+1))):=lH (by rwa [show 2*j+2=2*(j+1) by omega] at i7);clear d7 i7 s7 t7 HW SQ q1e q2e IJ PJ HSM HGD HR1;generalize x.2=S1 at*;have H27:=lH (gstripes_ o7 0 _ L S1 w7 T7.out S7.out.fresh (by omega));unfold StripesPost at H27;go_wp2_with fail;refine H27.out.mono ?_;rintro e w9 ⟨v9,ss,rfl,rn9,nd9,mem9,pw9,f9⟩;obtain ⟨a9,c9,hv9⟩:=rn9.shape;subst hv9;have RN9:=lH rn9;have ND:=lH nd9;have MEM:=lH mem9;have F9:=lH f9
    have hfew:=live_few I7.out.pts (fun i m hi=>(I7.out.ok.file i m hi).2.2) LV.out nd9 (fun y hy=>(mem9 y).1 hy);generalize hNN0:numsOf (fun k=>(S1.T k).isSome)=NN at*;have HNN:Hid (∀k∈NN,k≤128):=lH (fun k hk=>by
     rw [← hNN0] at hk;unfold numsOf at hk;have:=List.mem_range.1 (List.mem_filter.1 hk).1;omega)
    have HNL:Hid (NN.length≤129):=lH (by
     rw [← hNN0];unfold numsOf;exact Nat.le_trans (List.length_filter_le _ _) (by simp))
    have HALL:Hid (∀y n,NN.length≤n→liveK S1.F NN n y=liveF S1.F y):=lH (fun y n hn=>by
     rw [← hNN0] at hn ⊢;exact liveK_all (fun i m hi=>by
      obtain ⟨x,hx,_⟩:=LV.out.tree i m hi;rw [hx];rfl) y hn)
    have hmk:=make70 ss (liveK S1.F NN 0) (fun y=>liveK_zero S1.F NN y) (by omega);have HFEW:=lH hfew;have K10:=lH (new_at w9 (.cells (cntC ss (liveK S1.F NN 0)) 3));have F10:Hid (Fr No w9 (w9.alloc (.cells (cntC ss (liveK S1.F NN 0)) 3))):=lH ((Fr.refl _).alloc _);clear rn9 nd9 mem9 pw9 f9 H27 hfew;go_wp2_with fail;clear hmk;generalize w9.alloc (.cells (cntC ss (liveK S1.F NN 0)) 3)=w10 at*;have F10':=lH (F9.out.trans F10.out (fun _ _ e=>e));have H31:=lH (gtree_ o7 0 20000 _ L S1 w10 (T7.out.no I7.out.ok S7.out.fresh F10'.out) I7.out.ok (Step.no (C:=No) S7.out.fresh F10'.out).fresh);unfold TrClonePost at H31;refine H31.out.mono ?_;rintro e w11 ⟨t11,o11,rfl,s11,tr11⟩;have f11:Fr No w10 w11:=s11.fr.mono (fun _ _ e=>e);have K11:=lH (f11.block_of K10.out id);have F11:=lH (F10.out.trans f11 (fun _ _ e=>e));have H32:=lH (gtinos_ o11 20000 t11 S1.T w11 tr11 I7.out.ok.tree);unfold NumsPost at H32;rw [hNN0] at H32;clear H31 s11 tr11 f11 K10 F10 F10' hNN0;go_wp2_with fail;refine H32.out.mono ?_;rintro e w12 ⟨v12,rfl,rn12,f12⟩;obtain ⟨a12,c12,hv12⟩:=rn12.shape;rw [List.length_map] at hv12;subst hv12;have RN12:=lH rn12;have K12:=lH (f12.block_of K11.out id);have F12:=lH (F11.out.trans f12 (fun _ _ e=>e));have hl1:=lt_of_block K11.out;generalize hlb:w9.heap.size=lb at*;have HLB11:Hid (lb<w11.heap.size):=lH hl1;have HLB12:Hid (lb<w12.heap.size):=lH (lt_of_block K12.out)
    -- what the frame that turns the counts alone says
    have H9:Hid (∀W,Fr (fun j=>j=lb) w12 W→Fr No w9 W):=lH (fun W f=>F12.out.trans f (fun j hj e=>by omega));have H7:Hid (∀W,Fr (fun j=>j=lb) w12 W→Fr No w7 W):=lH (fun W f=>F9.out.trans (H9.out W f) (fun _ _ e=>e));have HSS:Hid (∀W,Fr (fun j=>j=lb) w12 W→RowNew (useC S1.U) 6 80 W w7.heap.size (.slice a9 ss.length c9) ss):=lH (fun W f=>RN9.out.fr (H9.out W f) (fun _ _ e=>e));have HNR:Hid (∀W,Fr (fun j=>j=lb) w12 W→RowNew numC 1 3 W w11.heap.size (.slice a12 NN.length c12) (NN.map fun k:Nat=>(k:Int))):=lH (fun W f=>RN12.out.fr f (fun j hj e=>by have:=HLB11.out;omega));have HST:Hid (∀W,Fr (fun j=>j=lb) w12 W→StateAt W o7 0 L S1 (100*(j+1))∧Fresh W o7∧Step (stateC 0) w4 o4 W o7):=lH (fun W f=>by
     have s:Step (fun _=>False) w7 o7 W o7:=Step.no S7.out.fresh (H7.out W f);exact ⟨T7.out.no I7.out.ok S7.out.fresh (H7.out W f),s.fresh,S7.out.trans s (fun _ e=>e.elim)⟩)
    have LI12:Hid (Fr (fun j=>j=lb) w12 w12):=lH (Fr.refl _);clear rn12 f12 H32 RN9 RN12 K11 F11 F12 F9 H9 hl1 hlb S7 T7;go_wp2_with fail;go_loopw [8] (fun a wr=>∃k:Nat,a=.int .i64 k∧k≤NN.length∧Hid (Fr (fun j=>j=lb) w12 wr)∧Hid (wr.heap[lb]? =some (.cells (cntC ss (liveK S1.F NN k)) 3 (0,0)))) (fun a _=>NN.length - (intOf a).toNat)
    case atStart=>exact ⟨0,rfl,Nat.zero_le _,LI12,K12⟩
    case round=>
     obtain ⟨w20,rfl⟩:∃w20:World,w20=wr:=⟨_,rfl⟩
     obtain ⟨k,rfl,hk,HFK,HCK⟩:=hrel;by_cases hlk:k<NN.length
     ·have q8:(k:Int)<(NN.length:Int):=by omega
      have q9:(0:Int)≤(k:Int):=(by omega)
      obtain ⟨bN,hbN,hmN,_,hrN⟩:=(HNR.out _ HFK.out).at (by rw [List.length_map];omega);subst hbN;have k1:=numC_at hrN hlk;have hlenN:=hrN.len;rw [List.length_map] at hlenN;have hmN':c12≤9223372036854775807:=hmN;have q10:(k:Int)<(c12:Int):=(by omega)
      have hiN:=HNN.out NN[k] (List.getElem_mem hlk);have HNX:=lH (fun y=>liveK_next S1.F hlk y);generalize NN[k]=iN at*;have HM:=lH (gmap_ o7 0 _ L S1 iN w20 (HST.out _ HFK.out).1 I7.out.ok (by omega));clear hrN hlenN;cases hFi:S1.F iN with
      | none=>
       rw [hFi] at HM;unfold MapPost at HM;dsimp only at HM;have HC2:Hid (w20.heap[lb]? =some (.cells (cntC ss (liveK S1.F NN (k+1))) 3 (0,0))):=lH (by
        have e:∀y,liveK S1.F NN (k+1) y=liveK S1.F NN k y:=fun y=>by
         have h0:fptrs S1.F iN= []:=(by unfold fptrs;rw [hFi])
         have h1:=HNX.out y;rw [h0,liveP_nil,Int.add_zero] at h1;exact h1
        rw [cnt_same e];exact HCK.out)
       clear hFi HNX;go_wp2_with fail;refine HM.out.mono ?_;rintro e wy ⟨rfl,rfl⟩;go_wp2_with fail;go_roundw
       case rel=>exact ⟨k+1,by go_num,hlk,HFK,HC2⟩
       case measure=>simp [intOf];omega
      | some mF=>
       rw [hFi] at HM;unfold MapPost at HM;dsimp only at HM;unfold FilePost at HM;have hfile:=I7.out.ok.file iN mF hFi;have HPT:Hid (∀p∈ptrs mF,mayPt p∧1≤p.z):=lH (fun p hp=>⟨I7.out.pts iN mF hFi p (ptrs_mem.1 hp).1,ptr_pos (I7.out.pts iN mF hFi) hp⟩);have HHD:Hid (∀p∈ptrs mF,∃u,S1.U (stpOf p)=some u∧p.a+p.z≤u.1):=lH (fun p hp=>LV.out.held iN mF hFi p hp);have HNX2:Hid (∀y,liveK S1.F NN (k+1) y=liveK S1.F NN k y+liveP (ptrs mF) y):=lH (fun y=>(HNX.out y).trans (by unfold fptrs;rw [hFi]));have HPL:=lH (ptrs_len hfile.2.2);have hlF:=hfile.2.2.few;have HBD:Hid (∀y,0≤liveK S1.F NN k y∧liveK S1.F NN k y≤1000000):=lH (fun y=>by
        have:=liveK_bound I7.out.pts.short (fun i m hi=>(I7.out.ok.file i m hi).2.2) NN k y;have:=HNL.out;omega)
       clear hFi HNX hfile;go_wp2_with fail;refine HM.out.mono ?_;rintro e w26 ⟨p26,rfl,fr26,f26⟩;have HP37:=lH (ptrs_ p26 mF w26 fr26 hlF);unfold PtrsPost at HP37;have HLB26:Hid (lb<w26.heap.size):=lH (Nat.lt_of_lt_of_le (Nat.lt_of_lt_of_le HLB12.out HFK.out.size) f26.size);have F26:=lH (HFK.out.trans f26 (fun _ _ e=>e.elim));have K26:=lH (f26.block_of HCK.out id);clear fr26 f26 HM;go_wp2_with fail;refine HP37.out.mono ?_;rintro e w27 ⟨v27,rfl,pn27,f27⟩;have PN27:=lH pn27;obtain ⟨a27,c27,hv27⟩:=pn27.val.slice;subst hv27;have F27:=lH (F26.out.trans f27 (fun _ _ e=>e.elim));have K27:=lH (f27.block_of K26.out id);generalize ptrs mF=PL at*;have LI27:Hid (Fr (fun j=>j=lb) w27 w27):=lH (Fr.refl _);have C27:Hid (w27.heap[lb]? =some (.cells (cntC ss fun y=>liveK S1.F NN k y+liveP (PL.take 0) y) 3 (0,0))):=lH (by
        rw [cnt_same (fun y=>show liveK S1.F NN k y+liveP (PL.take 0) y=liveK S1.F NN k y from Int.add_zero _)];exact K27.out)
       clear pn27 f27 HP37 F26 K26 K27;go_wp2_with fail;go_loopw [11] (fun a wr=>∃i:Nat,a=.int .i64 i∧i≤PL.length∧Hid (Fr (fun j=>j=lb) w27 wr)∧Hid (wr.heap[lb]? =some (.cells (cntC ss fun y=>liveK S1.F NN k y+liveP (PL.take i) y) 3 (0,0)))) (fun a _=>PL.length - (intOf a).toNat)
       case atStart=>exact ⟨0,rfl,Nat.zero_le _,LI27,C27⟩
       case round=>
        obtain ⟨w30,rfl⟩:∃w30:World,w30=wr:=⟨_,rfl⟩
        obtain ⟨i,rfl,hi,HFI,HCI⟩:=hrel;have F30:=lH (F27.out.trans HFI.out (fun _ _ e=>e));by_cases hli:i<PL.length
        ·have q11:(i:Int)<(PL.length:Int):=by omega
         have q12:(0:Int)≤(i:Int):=(by omega)
         have hPn:PL≠ []:=by
          intro e;subst e;simp at hli
         obtain ⟨bP,hbP,hmP,hgP,hrP⟩:=ptnew_at PN27.out hPn;subst hbP;have hneP:bP≠lb:=(by have:=HLB26.out;omega)
         have hPr:=(hrP.fr HFI.out hneP).row i PL[i] (List.getElem?_eq_getElem hli);have hlenP:=hrP.len;have hmP':c27≤9223372036854775807:=hmP;have q13:(i:Int)<(c27:Int):=(by omega)
         obtain ⟨hmp,hzp⟩:=HPT.out PL[i] (List.getElem_mem hli);obtain ⟨up,hup,hsz⟩:=HHD.out PL[i] (List.getElem_mem hli);have HTK:=lH (fun y=>liveP_next hli y);have HTB:=lH (fun y=>liveP_take (fun p hp=>(may_good (HPT.out p hp).1).2) HPL.out i y);have hin:stpOf PL[i]∈ss:=(MEM.out _).2 (by rw [hup];rfl);generalize PL[i]=X at*;have HIN:=lH hin;have HUP:=lH hup;have HSZ:=lH hsz;have HMP:=lH hmp;have HZP:=lH hzp;have hP0:w30.rangeAt bP (i*5) [.int .i64 X.c,.int .i64 X.l,.int .i64 X.n,.int .i64 X.a,.int .i64 X.z]:=hPr;have HP0:=lH hP0;have LI30:Hid (Fr No w30 w30):=lH (Fr.refl _);have SE0:=lH (seenAt.zero ss (stpOf X));clear hrP hPr hin hup hsz hmp hzp hPn hP0 hlenP;go_wp2_with fail;go_loopw [12,13] (fun a b wr=>∃(s:Nat) (v:Int),b=.int .i64 s∧a=.int .i64 v∧s≤ss.length∧Hid (seenAt ss (stpOf X) s v)∧Hid (Fr No w30 wr)) (fun _ b _=>ss.length - (intOf b).toNat)
         case atStart=>exact ⟨0, -1,rfl,rfl,Nat.zero_le _,SE0,LI30⟩
         case round=>
          obtain ⟨w40,rfl⟩:∃w40:World,w40=wr:=⟨_,rfl⟩
          obtain ⟨s,v,rfl,rfl,hs,HSE,HFS⟩:=hrel;have F40:=lH (F30.out.trans HFS.out (fun _ _ e=>e.elim));by_cases hls:s<ss.length
          ·have q14:(s:Int)<(ss.length:Int):=by omega
           have q15:(0:Int)≤(s:Int):=(by omega)
           obtain ⟨b9,hb9,hm9,_,hr9⟩:=(HSS.out _ F40.out).at (by omega);subst hb9;have hss:ss[s]? =some ss[s]:=List.getElem?_eq_getElem hls;have e9:=hr9.row s _ hss;have hlen9:=hr9.len;have hm9':c9≤9223372036854775807:=hm9;have q16:(s:Int)<(c9:Int):=(by omega)
           unfold useC at e9;have HHIT:Hid (ss[s]=stpOf X→seenAt ss (stpOf X) (s+1) s):=lH (fun e=>seenAt.hit ND.out (by rw [hss,e]));have HMIS:Hid (ss[s]≠stpOf X→seenAt ss (stpOf X) (s+1) v):=lH (fun e=>HSE.out.miss (by rw [hss];exact fun h=>e (Option.some.inj h)));generalize ss[s]=z at*;obtain ⟨z1,z2,z3⟩:=z;dsimp only at e9;have y0:w40.cell? ⟨b9,s*6,none⟩=some (.int .i64 z1):=e9 0 _ rfl;have y1:w40.cell? ⟨b9,s*6+1,none⟩=some (.int .i64 z2):=e9 1 _ rfl;have y2:w40.cell? ⟨b9,s*6+2,none⟩=some (.int .i64 z3):=e9 2 _ rfl;have x0:w40.cell? ⟨bP,i*5,none⟩=some (.int .i64 X.c):=HFS.out.cell_of (HP0.out 0 _ rfl) id;have x1:w40.cell? ⟨bP,i*5+1,none⟩=some (.int .i64 X.l):=HFS.out.cell_of (HP0.out 1 _ rfl) id;have x2:w40.cell? ⟨bP,i*5+2,none⟩=some (.int .i64 X.n):=HFS.out.cell_of (HP0.out 2 _ rfl) id;have e46:=fun W=>eql46 z1 z2 z3 X.c X.l X.n W;have e47:decide (((z1,z2,z3):Stp)=(X.c,X.l,X.n))=decide (((z1,z2,z3):Stp)=stpOf X):=rfl;rw [e47] at e46;have HD:=lH HFS.out.drew;clear hr9 e9 e47 hss hlen9;by_cases hzx:((z1,z2,z3):Stp)=stpOf X
           ·rw [decide_eq_true hzx] at e46;have SE:=lH (HHIT.out hzx);clear hzx HHIT HMIS;go_wp2_with fail;go_region_held3 (fun w'=>w'.cell? ⟨b9,s*6,none⟩=some (.int .i64 z1)∧w'.cell? ⟨b9,s*6+1,none⟩=some (.int .i64 z2)∧w'.cell? ⟨b9,s*6+2,none⟩=some (.int .i64 z3)∧w'.cell? ⟨bP,i*5,none⟩=some (.int .i64 X.c)∧w'.cell? ⟨bP,i*5+1,none⟩=some (.int .i64 X.l)∧w'.cell? ⟨bP,i*5+2,none⟩=some (.int .i64 X.n)) (go_keep) (fail);go_wp2_with fail;go_roundw
            case rel=>exact ⟨s+1,s,by go_num,rfl,hls,SE,HD⟩
            case measure=>simp [intOf];omega
           ·rw [decide_eq_false hzx] at e46;have SE:=lH (HMIS.out hzx);clear hzx HHIT HMIS;go_wp2_with fail;go_region_held3 (fun w'=>w'.cell? ⟨b9,s*6,none⟩=some (.int .i64 z1)∧w'.cell? ⟨b9,s*6+1,none⟩=some (.int .i64 z2)∧w'.cell? ⟨b9,s*6+2,none⟩=some (.int .i64 z3)∧w'.cell? ⟨bP,i*5,none⟩=some (.int .i64 X.c)∧w'.cell? ⟨bP,i*5+1,none⟩=some (.int .i64 X.l)∧w'.cell? ⟨bP,i*5+2,none⟩=some (.int .i64 X.n)) (go_keep) (fail);go_wp2_with fail;go_roundw
            case rel=>exact ⟨s+1,v,by go_num,rfl,hls,SE,HD⟩
            case measure=>simp [intOf];omega
          ·obtain rfl:s=ss.length:=by omega
           have q14:¬(ss.length:Int)<(ss.length:Int):=(by omega)
           obtain ⟨t,htl,rfl,hst⟩:=HSE.out.all HIN.out;obtain ⟨b9,hb9,hm9,_,hr9⟩:=(HSS.out _ F40.out).at (by omega);subst hb9;have e9:=hr9.row t _ hst;have hlen9:=hr9.len;have hm9':c9≤9223372036854775807:=hm9;have q16:(t:Int)<(c9:Int):=(by omega)
           have q17:(t:Int)<(ss.length:Int):=(by omega)
           have q18:¬(t:Int)<0:=(by omega)
           have q19:(0:Int)≤(t:Int):=(by omega)
           unfold useC at e9;rw [HUP.out,Option.getD_some] at e9;have P3:Hid (w40.cell? ⟨b9,t*6+3,none⟩=some (.int .i64 up.1)):=lH (e9 3 _ rfl);have PA:Hid (w40.cell? ⟨bP,i*5+3,none⟩=some (.int .i64 X.a)):=lH (HFS.out.cell_of (HP0.out 3 _ rfl) id);have PZ:Hid (w40.cell? ⟨bP,i*5+4,none⟩=some (.int .i64 X.z)):=lH (HFS.out.cell_of (HP0.out 4 _ rfl) id);have C40:=lH (HFS.out.block_of HCI.out id);have CL:=lH (cnt_at C40.out hst);have hbd1:=HBD.out (stpOf X);have hbd2:=HTB.out (stpOf X);have hmz:1≤X.z∧X.z≤64∧0≤X.a∧X.a≤5999:=by
            have h1:=HZP.out;rcases HMP.out with h2|h2
            ·rw [h2] at h1;exact absurd h1 (by decide)
            ·omega
           have q20:¬up.1<X.a+X.z:=(by have:=HSZ.out;omega)
           have q21:IntKind.i64.wrap (X.a+X.z)=X.a+X.z:=(by rw [IntKind.wrap_i64];omega)
           have q22:IntKind.i64.wrap (liveK S1.F NN k (stpOf X)+liveP (PL.take i) (stpOf X)+X.z)=liveK S1.F NN k (stpOf X)+liveP (PL.take i) (stpOf X)+X.z:=(by rw [IntKind.wrap_i64];omega)
           have C41:Hid ((w40.setCell ⟨lb,t,none⟩ (.int .i64 (liveK S1.F NN k (stpOf X)+liveP (PL.take i) (stpOf X)+X.z))).drew.drew.heap[lb]? =some (.cells (cntC ss fun y=>liveK S1.F NN k y+liveP (PL.take (i+1)) y) 3 (0,0))):=lH (by
            have h1:(w40.setCell ⟨lb,t,none⟩ (.int .i64 (liveK S1.F NN k (stpOf X)+liveP (PL.take i) (stpOf X)+X.z))).drew.drew.heap[lb]? =_:=setCell_at C40.out t (.int .i64 (liveK S1.F NN k (stpOf X)+liveP (PL.take i) (stpOf X)+X.z));rw [h1];have h2:=cnt_set ND.out hst (fun y=>liveK S1.F NN k y+liveP (PL.take i) y) (fun y=>liveK S1.F NN k y+liveP (PL.take (i+1)) y) (fun y hy=>by
             rw [HTK.out,if_neg (fun e=>hy e.symm),Int.add_zero])
            rw [← h2];rw [HTK.out,if_pos rfl,Int.add_assoc])
           have F41:Hid (Fr (fun j=>j=lb) w27 (w40.setCell ⟨lb,t,none⟩ (.int .i64 (liveK S1.F NN k (stpOf X)+liveP (PL.take i) (stpOf X)+X.z))).drew.drew):=lH (Fr.setCell (HFI.out.trans HFS.out (fun _ _ e=>e.elim)) (.inl rfl) _).drew.drew;have zf0:=frozen_at C40.out t;have zf:w40.drew.drew.frozen? ⟨lb,t,none⟩=false:=zf0;generalize liveK S1.F NN k (stpOf X)+liveP (PL.take i) (stpOf X)=g0 at*;clear hr9 e9 hlen9 hbd1 hbd2 hmz hst C40;go_upto_region 30 with fail
           refine wp_region_text mixed (fun W=>W=w40.drew) [20] (by kernel_rfl) (by kernel_rfl) (by kernel_rfl) (by kernel_rfl) (fun _ _ d _ _ h=>by cases d<;>exact h) rfl ?_;repeat (first
            | refine seqX_skip (by rfl) ?_
            | (refine seqX_val (v:= ?_) (by rfl) (by rfl) ?_ ?_
               rotate_left 1
               (intro W;go_simp;(try with_reducible rfl))
               simp only [Act.put,lsA,lsZ,lsS])
            | (refine seqX_no (by rfl) (by rfl) ?_
               simp only [Act.put,lsA,lsZ,lsS])
            | (refine seqX_valS (v:= ?_) (by rfl) (by kernel_rfl) (by rfl) ?_ ?_
               rotate_left 1
               (intro W hS;have e1:W.cell? ⟨b9,t*6+3,none⟩=some (.int .i64 up.1):=(by rw [hS];exact P3.out);have e2:W.cell? ⟨bP,i*5+3,none⟩=some (.int .i64 X.a):=(by rw [hS];exact PA.out);have e3:W.cell? ⟨bP,i*5+4,none⟩=some (.int .i64 X.z):=(by rw [hS];exact PZ.out);clear hS;go_simp;(try with_reducible rfl))
               simp only [Act.put,lsA,lsZ,lsS]))
           intro W hS;obtain rfl:W=w40.drew:=hS;simp only [List.reverse_cons,List.reverse_nil,List.nil_append,List.cons_append];go_upto_region 32 with fail
           refine wp_region_text mixed (fun W=>W=w40.drew.drew) [13] (by kernel_rfl) (by kernel_rfl) (by kernel_rfl) (by kernel_rfl) (fun _ _ d _ _ h=>by cases d<;>exact h) rfl ?_;repeat (first
            | refine seqX_skip (by rfl) ?_
            | (refine seqX_val (v:= ?_) (by rfl) (by rfl) ?_ ?_
               rotate_left 1
               (intro W;go_simp;(try with_reducible rfl))
               simp only [Act.put,lsA,lsZ,lsS])
            | (refine seqX_no (by rfl) (by rfl) ?_
               simp only [Act.put,lsA,lsZ,lsS])
            | (refine seqX_valS (v:= ?_) (by rfl) (by kernel_rfl) (by rfl) ?_ ?_
               rotate_left 1
               (intro W hS;have e1:W.cell? ⟨lb,t,none⟩=some (.int .i64 g0):=(by rw [hS];exact CL.out);have e3:W.cell? ⟨bP,i*5+4,none⟩=some (.int .i64 X.z):=(by rw [hS];exact PZ.out);clear hS;go_simp;(try with_reducible rfl))
               simp only [Act.put,lsA,lsZ,lsS]))
           intro W hS;obtain rfl:W=w40.drew.drew:=hS;simp only [List.reverse_cons,List.reverse_nil,List.nil_append,List.cons_append];have cl2:w40.drew.drew.cell? ⟨lb,t,none⟩=some (.int .i64 g0):=CL.out;go_wp2_with fail;generalize (w40.setCell ⟨lb,t,none⟩ (.int .i64 (g0+X.z))).drew.drew=w41 at*;go_roundw
           case rel=>exact ⟨i+1,by go_num,hli,F41,C41⟩
           case measure=>simp [intOf];omega
        ·obtain rfl:i=PL.length:=by omega
         have q11:¬(PL.length:Int)<(PL.length:Int):=(by omega)
         have HC2:Hid (w30.heap[lb]? =some (.cells (cntC ss (liveK S1.F NN (k+1))) 3 (0,0))):=lH (by
          have e:∀y,liveK S1.F NN (k+1) y=liveK S1.F NN k y+liveP (PL.take PL.length) y:=fun y=>by rw [HNX2.out y,List.take_length]
          rw [cnt_same e];exact HCI.out)
         go_wp2_with fail;go_roundw
         case rel=>exact ⟨k+1,by go_num,hlk,F30,HC2⟩
         case measure=>simp [intOf];omega
     ·obtain rfl:k=NN.length:=by omega
      have q8:¬(NN.length:Int)<(NN.length:Int):=(by omega)
      have CF:Hid (w20.heap[lb]? =some (.cells (cntC ss (liveF S1.F)) 3 (0,0))):=lH (by
       rw [← cnt_same (fun y=>HALL.out y _ (Nat.le_refl _))];exact HCK.out)
      have LI20:Hid (Fr No w20 w20):=lH (Fr.refl _);clear HCK;go_wp2_with fail;go_loopw [14] (fun a wr=>∃i:Nat,a=.int .i64 i∧i≤ss.length∧Hid (Fr No w20 wr)) (fun a _=>ss.length - (intOf a).toNat)
      case atStart=>exact ⟨0,rfl,Nat.zero_le _,LI20⟩
      case round=>
       obtain ⟨w50,rfl⟩:∃w50:World,w50=wr:=⟨_,rfl⟩
       obtain ⟨i,rfl,hi,HFI⟩:=hrel;have F50:=lH (HFK.out.trans HFI.out (fun _ _ e=>e.elim));by_cases hli:i<ss.length
       ·have q11:(i:Int)<(ss.length:Int):=by omega
        have q12:(0:Int)≤(i:Int):=(by omega)
        obtain ⟨b9,hb9,hm9,hg9,hr9⟩:=(HSS.out _ F50.out).at (by omega);subst hb9;have hss:ss[i]? =some ss[i]:=List.getElem?_eq_getElem hli;have e9:=hr9.row i _ hss;have hlen9:=hr9.len;have hm9':c9≤9223372036854775807:=hm9;have q13:(i:Int)<(c9:Int):=(by omega)
        have hU:(S1.U ss[i]).isSome=true:=(MEM.out _).1 (List.getElem_mem hli);have cl:=cnt_at (HFI.out.block_of CF.out id) hss;unfold useC at e9;generalize ss[i]=z at*;obtain ⟨u,hu⟩:=Option.isSome_iff_exists.1 hU;obtain ⟨hl1,hl2⟩:=LV.out.live z u hu;rw [hu,Option.getD_some] at e9;rw [← hl1] at cl;have hgd:=held_good I7.out.pts LV.out hU;have HHO:Hid (∀W,Fr No w50 W→Calls Tryz.prog 21 #[.pointer (some ⟨L.s,0,none⟩),stpV z] W fun e w'=>e=.returned (.bool true)∧Fr No W w'):=lH (fun W f=>by
         obtain ⟨h1,h2,_⟩:=HST.out _ (F50.out.trans f (fun _ _ e=>e.elim));have:=holds_ o7 0 _ L S1 z W h1 I7.out.ok h2 hgd;rwa [hU] at this)
        have HWA:Hid (∀W,Fr No w50 W→Calls Tryz.prog 20 #[.pointer (some ⟨L.s,0,none⟩),stpV z] W fun e w'=>e=.returned (.bool false)∧Fr No W w'):=lH (fun W f=>by
         obtain ⟨h1,h2,_⟩:=HST.out _ (F50.out.trans f (fun _ _ e=>e.elim));have h3:=gwaste_ o7 0 _ L S1 z W h1 I7.out.ok h2 hgd;unfold BoolPost at h3;have e:decide (wasteS S1 z)=false:=decide_eq_false (fun hw=>by
          have:=hw.2.2.1;rw [hU] at this;cases this)
         rwa [e] at h3)
        obtain ⟨z1,z2,z3⟩:=z;unfold stpV at HHO HWA;dsimp only at e9 HHO HWA;have y0:w50.cell? ⟨b9,i*6,none⟩=some (.int .i64 z1):=e9 0 _ rfl;have y1:w50.cell? ⟨b9,i*6+1,none⟩=some (.int .i64 z2):=e9 1 _ rfl;have y2:w50.cell? ⟨b9,i*6+2,none⟩=some (.int .i64 z3):=e9 2 _ rfl;have y4:w50.cell? ⟨b9,i*6+4,none⟩=some (.int .i64 u.2.1):=e9 4 _ rfl;generalize u.2.1=lv at*;have q14:(lv==0)=false:=(by simpa using hl2)
        have fz:Fr No w50 w50.drew:=(Fr.refl (S:=No) w50).drew;clear hr9 e9 hlen9 hss hU hu hl1 hl2 hgd;go_wp2_with fail;go_region_held3 (fun w'=>w'.cell? ⟨b9,i*6,none⟩=some (.int .i64 z1)∧w'.cell? ⟨b9,i*6+1,none⟩=some (.int .i64 z2)∧w'.cell? ⟨b9,i*6+2,none⟩=some (.int .i64 z3)∧w'.cell? ⟨b9,i*6+4,none⟩=some (.int .i64 lv)∧w'.cell? ⟨lb,i,none⟩=some (.int .i64 lv)) (first|go_keep|(go_split_ands;refine ⟨?_,?_,?_,?_,?_⟩<;>(first|exact f61.cell_of (by assumption) id|exact f60.cell_of (by assumption) id)))
         (first
         | (go_at_call 21;with_reducible refine (HHO.out _ fz).mono ?_;rintro e w60 ⟨rfl,f60⟩;have fz:=fz.trans f60 (fun _ _ e=>e))
         | (go_at_call 20;with_reducible refine (HWA.out _ fz).mono ?_;rintro e w61 ⟨rfl,f61⟩;have fz:=fz.trans f61 (fun _ _ e=>e)))
        all_goals
         have HD:=lH (HFI.out.trans fz (fun _ _ e=>e));go_wp2_with fail;go_roundw
         case rel=>exact ⟨i+1,by go_num,hli,HD⟩
         case measure=>simp [intOf];omega
       ·obtain rfl:i=ss.length:=by omega
        have q11:¬(ss.length:Int)<(ss.length:Int):=(by omega)
        have L8:Hid (Lies w4 o4 L (j+1) InvLive w50):=lH (by
         obtain ⟨h1,h2,h3⟩:=HST.out _ F50.out;exact ⟨o7,S1,h3,h1,I7.out,LV.out⟩)
        go_wp2_with fail;go_roundw
        case rel=>exact ⟨j+1,by go_num,hlt,L8⟩
        case measure=>simp [intOf];omega
   ·have q1:¬(j:Int)<(L1.length:Int):=by omega
    have FB:=lH (HLI.out.fr F4.out HLE.out);go_wp2_with fail;exact HQ.out _ FB.out
end Go.Proofs.YtlcojhddnpmgmaaGreat
