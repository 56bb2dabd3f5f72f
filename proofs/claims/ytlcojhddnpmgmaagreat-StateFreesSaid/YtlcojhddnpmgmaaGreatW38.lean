/- Part of the proof; the last text says what is proved. -/
import Derived.Test.YtlcojhddnpmgmaaGreatW37
import Derived.Deep.LoopGhost
set_option linter.unusedSimpArgs false
set_option linter.unusedVariables false
set_option maxRecDepth 100000
set_option maxHeartbeats 6400000
namespace Go.Proofs.YtlcojhddnpmgmaaGreat
open Go.RowKit
theorem eql46 (a b c a' b' c':Int) (w:World):(binOp .eql 46 (.agg #[.int .i64 a,.int .i64 b,.int .i64 c]) (.agg #[.int .i64 a',.int .i64 b',.int .i64 c'])).run Tryz.prog w=.ok (.bool (decide (((a,b,c):Stp)=(a',b',c')))) w:=by
 have u3:=Tryz.underlying3;have a3:=Tryz.isAgg3;have z3:=Tryz.sizeOf3;have hS:Tryz.prog.underlying 46=some (.struct (Tryz.prog.fieldsOf 46)):=by kernel_rfl
 have hp:Tryz.prog.stoodInHeld 46=false:=by kernel_rfl
 rw [run_eql_struct,show (10000:Nat)=9999+1 from rfl,run_equalIn_agg w 9999 46 _ _ hS hp];simp only [Program.fieldsOf,Tryz.underlying46,Prod.mk.injEq];go_simp;by_cases h1:a=a'<;>by_cases h2:b=b'<;>by_cases h3:c=c'<;>simp [h1,h2,h3]
theorem ptnew_at {w:World} {base:Nat} {a:Option Addr} {len cap:Nat} {L:List Pt} (h:PtNew w base (.slice a len cap) L) (h0:L≠ []):∃b,a=some ⟨b,0,none⟩∧cap≤maxLen∧base≤b∧RowB ptC 5 59 w b cap L:=by
 rcases h with ⟨_,rfl⟩|⟨b,cap',e,hm,hb,hr⟩
 ·exact absurd rfl h0
 ·cases e;exact ⟨b,rfl,hm,hb,hr⟩
theorem stateFrees_ (v1:Value) (L1:List Rq) (w:World) (h1:RqsAt w (fun _=>0) v1 L1) (g1:GoodRqs L1):
  Calls Tryz.prog 8 #[v1] w fun e w'=>e=.returned (.bool true)∧Fr No w w':=by
 have mixed:Tryz.prog.follows .mixedOrders=true:=by kernel_rfl
 obtain ⟨base1,cap1,rfl⟩:=h1.slice;generalize hQ:(fun (e:Ending) (w':World)=>e=.returned (.bool true)∧Fr No w w')=Q;have HQ:Hid (∀w',Fr No w w'→Q (.returned (.bool true)) w'):=lH (fun w' f=>by rw [← hQ];exact ⟨rfl,f⟩);clear hQ;have H1:=lH h1;have G1:=lH g1;clear h1 g1;go_enter Tryz.func8,Tryz.ntmps8;go_wp2_with fail;refine (gawake_ _).mono ?_;rintro e w1 ⟨rfl,f1⟩;have F1:=lH f1;have H11:=lH (H1.out.no (fresh0 _) f1);clear f1 H1;have HA1:=lH (gasks_ (fun _=>0) _ L1 60 w1 (fresh0 w1) H11.out (by omega));unfold BoolPost at HA1;cases hA:decide (L1.length≤60∧∀y∈L1,smallY y) with
 | false=>
  rw [hA] at HA1;clear hA;go_wp2_with fail;refine HA1.out.mono ?_;rintro e w2 ⟨rfl,f2⟩;have F2:=lH (F1.out.trans f2 (fun _ _ e=>e));clear f2;go_wp2_with fail;exact HQ.out _ F2.out
 | true=>
  rw [hA] at HA1;have SM1:=lH (of_decide_eq_true hA);clear hA;go_wp2_with fail;refine HA1.out.mono ?_;rintro e w2 ⟨rfl,f2⟩;have F2:=lH (F1.out.trans f2 (fun _ _ e=>e));have H12:=lH (H11.out.no (fresh0 _) f2);clear f2 H11 F1 HA1;go_wp2_with fail;refine (gstate_new _).mono ?_;rintro e w4 ⟨L,o4,rfl,s4,t4⟩;have F4:=lH (F2.out.trans (s4.fr.mono (fun _ _ e=>e)) (fun _ _ e=>e.elim));have HLE:Hid (∀k,k<w.heap.size→o4 k=0):=lH (fun k hk=>s4.old k (Nat.lt_of_lt_of_le hk F2.out.size));have H14:=lH (H12.out.step s4 id);have LI0:Hid (Lies w4 o4 L 0 InvF w4):=lH ⟨o4,S0,Step.refl s4.fresh,t4,S0_inv,S0_F⟩;have nos:¬stateC 0 0:=by unfold stateC;omega
  have NOS:=lH nos;have HL60:=lH SM1.out.1;clear s4 t4 H12 F2 nos;go_wp2_with fail;go_loopw [4] (fun a wr=>∃j:Nat,a=.int .i64 j∧j≤L1.length∧Hid (Lies w4 o4 L j InvF wr)) (fun a _=>L1.length - (intOf a).toNat)
  case atStart=>exact ⟨0,rfl,Nat.zero_le _,LI0⟩
  case round=>
   obtain ⟨j,rfl,hj,HLI⟩:=hrel;obtain ⟨oj,S,sj,tj,ij,pj⟩:=HLI.out;have SJ:=lH sj;have TJ:=lH tj;have IJ:=lH ij;have PJ:=lH pj;have hl60:=HL60.out;clear sj tj ij pj;by_cases hlt:j<L1.length
   ·have q1:(j:Int)<(L1.length:Int):=by omega
    have q3:(0:Int)≤(j:Int):=(by omega)
    have hne:L1≠ []:=by
     intro e;subst e;simp at hlt
    obtain ⟨b,off,rfl,ho,hbl,hrows⟩:=(H14.out.step SJ.out NOS.out).at hne;have hrq0:=hrows j L1[j] (List.getElem?_eq_getElem hlt);obtain ⟨rv,dv,hr1,hr2,hr3⟩:=hrq0;have HSM:=lH (SM1.out.2 L1[j] (List.getElem_mem hlt));have HGD:=lH (G1.out L1[j] (List.getElem_mem hlt));generalize L1[j]=y at*;obtain ⟨r,st,dl⟩:=y;dsimp only at hr1 hr2 hr3 HGD;unfold smallY at HSM;dsimp only at HSM;obtain ⟨bs,cs,rfl⟩:=hr2.slice;obtain ⟨bd,cd,rfl⟩:=hr3.slice;have HR1:=lH hr1;have HR3:=lH hr3;have HRQ:=lH (grequest_ oj r (.slice bs st.length cs) (.slice bd dl.length cd) st wr SJ.out.fresh hr2 ⟨_,_,_,rfl⟩ (by have:=HSM.out.2.2.1;omega));unfold ReqPost at HRQ;unfold Req.cells at HR1 HRQ;clear hrows ho hbl hr1 hr2 hr3;go_wp2_with (refine wpList_load_mid (by rfl) 41 _ (by rfl) b (off+j*14) (by rfl) [.int .i64 r.c,.int .i64 r.l,.int .i64 r.q,.int .i64 r.kind,.string (ba r.path),.string (ba r.to),.bool r.dir,.bool r.wr,.bool r.cl,.int .i64 r.h,.int .i64 r.nx,.int .i64 r.sw,.slice bs st.length cs,.slice bd dl.length cd] _ HR1.out Tryz.underlying41 rfl Tryz.size41 ?_);refine HRQ.out.mono ?_;rintro e wq ⟨rv',rfl,hrq,fq⟩;have TQ:=TJ.out.no IJ.out.ok SJ.out.fresh fq;have sq:Step (fun _=>False) wr oj wq oj:=Step.no SJ.out.fresh fq;have SQ:Hid (Step (stateC 0) w4 o4 wq oj):=lH (SJ.out.trans sq (fun _ e=>e.elim));have HW:=lH (wentK oj 0 (100*j) (2*j) L S r rv' _ st dl wq TQ IJ.out sq.fresh hrq (HR3.out.no SJ.out.fresh fq) HSM.out HGD.out (by omega) (by omega));unfold WentK at HW;unfold Req.cells at HW;clear TQ hrq fq sq HR3 HRQ;go_wp2_with fail;refine HW.out.mono ?_;rintro e w7 ⟨x,o7,ev,mv,rfl,q1e,q2e,d7,i7,s7,t7⟩;have i7a:=i7;have L8:Hid (Lies w4 o4 L (j+1) InvF w7):=lH ⟨o7,x.2,SQ.out.trans s7 (fun _ e=>e),by
     rwa [show 100*j+100=100*(j+1) by omega] at t7,by
     rwa [show 2*j+2=2*(j+1) by omega] at i7,PJ.out.did IJ.out i7a d7⟩
    clear d7 i7a i7 s7 t7 HW SQ q1e q2e;go_wp2_with fail;go_roundw
    case rel=>exact ⟨j+1,by go_num,hlt,L8⟩
    case measure=>simp [intOf];omega
   ·have q1:¬(j:Int)<(L1.length:Int):=by omega
    have LIr:Hid (Fr No wr wr):=lH (Fr.refl _);have hjl:j=L1.length:=(by omega)
    have HJ:Hid (j≤60):=lH (by omega);clear HLI H14 hjl;go_wp2_with fail;go_loopw [5] (fun a w5=>∃c:Nat,a=.int .i64 c∧c≤4∧w5=wr) (fun a _=>4 - (intOf a).toNat)
    case atStart=>exact ⟨0,rfl,by omega,rfl⟩
    case round=>
     obtain ⟨w0,hw0⟩:∃w0:World,w0=wr:=⟨_,rfl⟩
     obtain ⟨c,rfl,hc,rfl⟩:=hrel;clear hw0 w0;by_cases hc4:c<4
     ·have q2:(c:Int)<4:=by omega
      have q3:¬(c:Int)=4:=(by omega)
      have HLF:=lH (glifeS_ oj 0 _ L S (c:Int) wr TJ.out);have HL1:Hid (-1≤lifeS S (c:Int)):=lH (by
       unfold lifeS lifeOf;rw [if_neg (by omega),if_pos (by omega),Int.toNat_natCast];cases hW:S.W c with
       | none=>dsimp only;omega
       | some y=>
        have:=PJ.out.1 c y hW;obtain ⟨y1,y2⟩:=y;dsimp only at this ⊢;omega)
      generalize hl0:lifeS S (c:Int)=l0 at*;have HL0:=lH hl0;clear hl0;by_cases hmx:1048576≤l0
      ·go_wp2_with fail;refine HLF.out.mono ?_;rintro e wy ⟨rfl,rfl⟩;go_wp2_with fail;go_roundw
       case rel=>exact ⟨c+1,by go_num,by omega,trivial⟩
       case measure=>simp [intOf];omega
      ·have HLX:Hid (l0<1048576):=lH (by omega);have HC4:=lH hc4;have H27:=lH (gstripes_ oj 0 _ L S wr TJ.out SJ.out.fresh (by omega));unfold StripesPost at H27;go_wp2_with fail;refine HLF.out.mono ?_;rintro e wy ⟨rfl,rfl⟩;clear HLF LIr hc hc4;go_wp2_with fail;refine H27.out.mono ?_;rintro e w8 ⟨v8,ss,rfl,rn8,nd8,mem8,pw8,f8⟩;obtain ⟨a8,c8,hv8⟩:=rn8.shape;subst hv8;have S8:=lH (SJ.out.trans (Step.no (C:=fun _=>False) SJ.out.fresh f8) (fun _ e=>e.elim));have T8:=lH (TJ.out.no IJ.out.ok SJ.out.fresh f8);have HFW:Hid (∀k,wy.heap.size≤k→oj k=0):=lH (fun k hk=>SJ.out.fresh k hk);have HFB:Hid (∀W o,Step posC w8 oj W o→Fr No w W):=lH (fun W o s=>by
        have h1:Step posC w4 o4 W o:=(S8.out.mono (fun k e=>by unfold stateC at e;unfold posC;omega)).trans s (fun _ e=>e);refine F4.out.trans h1.fr (fun k hk e=> ?_);rw [HLE.out k hk] at e;unfold posC at e;omega)
       have HRN:Hid (∀W o,Step posC w8 oj W o→RowNew (useC S.U) 6 80 W wy.heap.size (.slice a8 ss.length c8) ss):=lH (fun W o s=>rn8.fr s.fr (fun k hk e=>by
        rw [HFW.out k hk] at e;unfold posC at e;omega))
       have HBE:Hid (∀x∈ss,behindS S x∧stpGood x):=lH (fun x hx=>⟨PJ.out.2.2 x ((mem8 x).1 hx),held_good IJ.out.pts PJ.out.2.1 ((mem8 x).1 hx)⟩);obtain ⟨qr,qs⟩:=QRow.one w8 oj 30000 [47] S8.out.fresh;have FB0:Hid (FrB w8 oj L c l0 (behindS S) j S.T (w8.alloc (.cells #[.string (ba [47])] 9)) (paint oj w8.heap.size 30000) S 0 (.slice (some ⟨w8.heap.size,0,none⟩) 1 1) [[47]]):=lH ⟨qs.mono (fun _ e=>e.elim),T8.out.step IJ.out.ok qs (fun _ _ e=>e),IJ.out,PJ.out,fun x h=>h,Stamp.zero HL0.out,qr,Pruned.refl _⟩;have QU0:=lH (Queue.start IJ.out.ok.tree);have OK0:Hid (TreeOk S.T):=lH IJ.out.ok.tree;have KS0:Hid (0≤kidSum S.T []):=lH (Nat.zero_le _);have hjj:=HJ.out;generalize behindS S=B0 at*;generalize S.T=T0 at*;clear rn8 nd8 mem8 pw8 f8 H27 qr qs S8 T8 SJ TJ IJ PJ HLE F4 HL0 SM1 G1 HFW HL60 NOS;go_wp2_with fail
       go_loopg [7,8] 129 (fun m a b wr=>∃(s:Nat) (V:List Nat) (Q1:List (List UInt8)) (ks:List Nat) (o:Nat→Nat) (S1:St),a=.int .i64 s∧Hid (FrB w8 oj L c l0 B0 j T0 wr o S1 s b Q1)∧Hid (Queue T0 V Q1 ks)∧Hid (s≤kidSum T0 V)∧Hid (m+V.length=129))
       case atStart=>exact ⟨0, [],_,_,_,_,rfl,FB0,QU0,KS0,lH rfl⟩
       case round=>
        obtain ⟨wo,rfl⟩:∃wo:World,wo=wr:=⟨_,rfl⟩
        obtain ⟨s,V,Q1,ks,o,S1,rfl,HFR,HQU,HKS,HM⟩:=hrel;cases Q1 with
        | nil=>
         obtain ⟨ao,cp,hu,hle,hmx⟩:=HFR.out.row.shape;subst hu;have HSB:Hid (s≤129):=lH (Nat.le_trans HKS.out (kidSum_le (List.nodup_append.1 HQU.out.nd).1));clear hle hmx HQU HM HKS OK0 KS0 QU0 FB0;have hjj:=HJ.out;have hsb:=HSB.out;have HKT:=lH (gtokens_ o 0 _ L S1 wo HFR.out.st (by have:=HFR.out.inv.few;omega));unfold RowPost at HKT;go_wp2_with fail;refine HKT.out.mono ?_;rintro e w16 ⟨v16,rfl,rn16,f16⟩;obtain ⟨a16,c16,hv16⟩:=rn16.shape;subst hv16;have F16:=lH f16;have H27b:=lH (gstripes_ o 0 _ L S1 w16 (HFR.out.no f16).st (HFR.out.no f16).step.fresh (by omega));unfold StripesPost at H27b;clear rn16 f16 HKT;go_wp2_with fail;refine H27b.out.mono ?_;rintro e w17 ⟨v17,s2,rfl,rn17,nd17,mem17,pw17,f17⟩;obtain ⟨a17,c17,hv17⟩:=rn17.shape;subst hv17;have F17:=lH (F16.out.trans f17 (fun _ _ e=>e));have FR17:=lH (HFR.out.no F17.out);have HSS:Hid (∀W,Fr No w17 W→RowNew (useC S1.U) 6 80 W w16.heap.size (.slice a17 s2.length c17) s2):=lH (fun W f=>rn17.fr f (fun _ _ e=>e));have HFX:Hid (∀W,Fr No w17 W→StateAt W o 0 L S1 (100*(j+s))∧Fresh W o∧Step posC w8 oj W o):=lH (fun W f=>⟨(FR17.out.no f).st,(FR17.out.no f).step.fresh,(FR17.out.no f).step⟩);have LV:Hid (InvLive S1):=lH HFR.out.f.2.1;have IOK:Hid (StOk S1):=lH HFR.out.inv.ok;have IPT:Hid (PtsOk S1.F):=lH HFR.out.inv.pts;have HBEH:Hid (∀x,B0 x→behindS S1 x):=lH HFR.out.beh;have hfew2:=live_few IPT.out (fun i m hi=>(IOK.out.file i m hi).2.2) LV.out nd17 (fun y hy=>(mem17 y).1 hy);have HFW2:=lH hfew2;generalize hNN0:numsOf (fun k=>(S1.T k).isSome)=NN at*;have HNN:Hid (∀k∈NN,k≤128):=lH (fun k hk=>by
          rw [← hNN0] at hk;unfold numsOf at hk;have:=List.mem_range.1 (List.mem_filter.1 hk).1;omega)
         have HNL:Hid (NN.length≤129):=lH (by
          rw [← hNN0];unfold numsOf;exact Nat.le_trans (List.length_filter_le _ _) (by simp))
         have HALL:Hid (∀x∈s2,∃p∈ptrsK S1.F NN NN.length,stpOf p=x):=lH (fun x hx=>by
          obtain ⟨u,hu⟩:=Option.isSome_iff_exists.1 ((mem17 x).1 hx);rw [← hNN0];exact ptrsK_all LV.out hu (Nat.le_refl _))
         have HNE:Hid ((∀i,S1.F i=none)→s2.length=0):=lH (fun hn=>by
          cases s2 with
          | nil=>rfl
          | cons x r=>
           obtain ⟨u,hu⟩:=Option.isSome_iff_exists.1 ((mem17 x).1 List.mem_cons_self);obtain ⟨h1,h2⟩:=LV.out.live x u hu;obtain ⟨i,m,_,_,hF,_⟩:=live_some (F:=S1.F) (x:=x) (by rw [← h1];exact h2);rw [hn i] at hF;cases hF)
         have HNT:=lH hNN0;have LI17:Hid (Fr No w17 w17):=lH (Fr.refl _);clear rn17 nd17 mem17 pw17 f17 H27b F16 F17 FR17 HFR hNN0 hfew2;go_wp2_with fail;go_loopw [18] (fun a wr=>∃i2:Nat,a=.int .i64 i2∧i2≤s2.length∧Hid (Fr No w17 wr)) (fun a _=>s2.length - (intOf a).toNat)
         case atStart=>exact ⟨0,rfl,Nat.zero_le _,LI17⟩
         case round=>
          obtain ⟨w18,rfl⟩:∃w18:World,w18=wr:=⟨_,rfl⟩
          obtain ⟨i2,rfl,hi2,HF2⟩:=hrel;have hfw2:=HFW2.out;by_cases hl2:i2<s2.length
          ·have q31:(i2:Int)<(s2.length:Int):=by omega
           have q32:(0:Int)≤(i2:Int):=(by omega)
           have HX:Hid (∃p∈ptrsK S1.F NN NN.length,stpOf p=s2[i2]):=lH (HALL.out _ (List.getElem_mem hl2));have HU2:Hid (s2[i2]? =some s2[i2]):=lH (List.getElem?_eq_getElem hl2);obtain ⟨⟨z1,z2,z3⟩,hzz⟩:∃z:Stp,s2[i2]=z:=⟨_,rfl⟩
           rw [hzz] at HX HU2;have H31:=lH (gtree_ o 0 20000 _ L S1 w18 (HFX.out _ HF2.out).1 IOK.out (HFX.out _ HF2.out).2.1);unfold TrClonePost at H31;clear hzz;go_wp2_with fail;refine H31.out.mono ?_;rintro e w21 ⟨t21,o21,rfl,s21,tr21⟩;have F21:Hid (Fr No w17 w21):=lH (HF2.out.trans (s21.fr.mono (fun _ _ e=>e)) (fun _ _ e=>e));have H32:=lH (gtinos_ o21 20000 t21 S1.T w21 tr21 IOK.out.tree);unfold NumsPost at H32;rw [HNT.out] at H32;clear H31 s21 tr21;go_wp2_with fail;refine H32.out.mono ?_;rintro e w22 ⟨v22,rfl,rn22,f22⟩;obtain ⟨a22,c22,hv22⟩:=rn22.shape;rw [List.length_map] at hv22;subst hv22;have F22:=lH (F21.out.trans f22 (fun _ _ e=>e));have HNR:Hid (∀W,Fr No w22 W→RowNew numC 1 3 W w21.heap.size (.slice a22 NN.length c22) (NN.map fun k:Nat=>(k:Int))):=lH (fun W f=>rn22.fr f (fun _ _ e=>e));have LI22:Hid (Fr No w22 w22):=lH (Fr.refl _);have OK22:Hid ((∃p∈ptrsK S1.F NN 0,stpOf p=(z1,z2,z3))→false=true):=lH (fun ⟨p,hp,_⟩=>by simp [ptrsK] at hp);clear rn22 f22 H32 F21;go_wp2_with fail;go_loopw [19,21] (fun a b wr=>∃(bv:Bool) (k:Nat),a=.bool bv∧b=.int .i64 k∧k≤NN.length∧Hid ((∃p∈ptrsK S1.F NN k,stpOf p=(z1,z2,z3))→bv=true)∧Hid (Fr No w22 wr)) (fun _ b _=>NN.length - (intOf b).toNat)
           case atStart=>exact ⟨false,0,rfl,rfl,Nat.zero_le _,OK22,LI22⟩
           case round=>
            obtain ⟨w23,rfl⟩:∃w23:World,w23=wr:=⟨_,rfl⟩
            obtain ⟨bv,k,rfl,rfl,hk,HBV,HFK⟩:=hrel;have hnl:=HNL.out;have F23:=lH (F22.out.trans HFK.out (fun _ _ e=>e));by_cases hlk:k<NN.length
            ·have q8:(k:Int)<(NN.length:Int):=by omega
             have q9:(0:Int)≤(k:Int):=(by omega)
             obtain ⟨bN,hbN,hmN,_,hrN⟩:=(HNR.out _ HFK.out).at (by rw [List.length_map];omega);subst hbN;have k1:=numC_at hrN hlk;have hlenN:=hrN.len;rw [List.length_map] at hlenN;have hmN':c22≤9223372036854775807:=hmN;have q10:(k:Int)<(c22:Int):=(by omega)
             have hiN:=HNN.out NN[k] (List.getElem_mem hlk);have HNX:=lH (ptrsK_next S1.F hlk);generalize NN[k]=iN at*;have HM:=lH (gmap_ o 0 _ L S1 iN w23 (HFX.out _ F23.out).1 IOK.out (by omega));clear hrN hlenN;cases hFi:S1.F iN with
             | none=>
              rw [hFi] at HM;unfold MapPost at HM;dsimp only at HM;have HB2:Hid ((∃p∈ptrsK S1.F NN (k+1),stpOf p=(z1,z2,z3))→bv=true):=lH (fun h=>by
               rw [HNX.out,show fptrs S1.F iN= [] by unfold fptrs;rw [hFi],List.append_nil] at h;exact HBV.out h)
              clear hFi HNX;go_wp2_with fail;refine HM.out.mono ?_;rintro e wy ⟨rfl,rfl⟩;go_wp2_with fail;go_roundw
              case rel=>exact ⟨bv,k+1,rfl,by go_num,hlk,HB2,HFK⟩
              case measure=>simp [intOf];omega
             | some mF=>
              rw [hFi] at HM;unfold MapPost at HM;dsimp only at HM;unfold FilePost at HM;have hfile:=IOK.out.file iN mF hFi;have HPL:=lH (ptrs_len hfile.2.2);have hlF:=hfile.2.2.few;have HNX2:Hid (ptrsK S1.F NN (k+1)=ptrsK S1.F NN k++ptrs mF):=lH (HNX.out.trans (by unfold fptrs;rw [hFi]));clear hFi HNX hfile;go_wp2_with fail;refine HM.out.mono ?_;rintro e w26 ⟨p26,rfl,fr26,f26⟩;have HP37:=lH (ptrs_ p26 mF w26 fr26 hlF);unfold PtrsPost at HP37;have F26:=lH (HFK.out.trans f26 (fun _ _ e=>e));clear fr26 f26 HM;go_wp2_with fail;refine HP37.out.mono ?_;rintro e w27 ⟨v27,rfl,pn27,f27⟩;have PN27:=lH pn27;obtain ⟨a27,c27,hv27⟩:=pn27.val.slice;subst hv27;have F27:=lH (F26.out.trans f27 (fun _ _ e=>e));generalize ptrs mF=PL at*;have LI27:Hid (Fr No w27 w27):=lH (Fr.refl _);have HB0:Hid ((∃p∈ptrsK S1.F NN k++PL.take 0,stpOf p=(z1,z2,z3))→bv=true):=lH (fun h=>by
               rw [List.take_zero,List.append_nil] at h;exact HBV.out h)
              have hpl:=HPL.out;clear pn27 f27 HP37 F26;go_wp2_with fail;go_loopw [19,24] (fun a b wr=>∃(bv:Bool) (i:Nat),a=.bool bv∧b=.int .i64 i∧i≤PL.length∧Hid ((∃p∈ptrsK S1.F NN k++PL.take i,stpOf p=(z1,z2,z3))→bv=true)∧Hid (Fr No w27 wr)) (fun _ b _=>PL.length - (intOf b).toNat)
              case atStart=>exact ⟨bv,0,rfl,rfl,Nat.zero_le _,HB0,LI27⟩
              case round=>
               obtain ⟨w30,rfl⟩:∃w30:World,w30=wr:=⟨_,rfl⟩
               obtain ⟨bw,i,rfl,rfl,hi,HBI,HFI⟩:=hrel;by_cases hli:i<PL.length
               ·have q11:(i:Int)<(PL.length:Int):=by omega
                have q12:(0:Int)≤(i:Int):=(by omega)
                have hPn:PL≠ []:=by
                 intro e;subst e;simp at hli
                obtain ⟨bP,hbP,hmP,hgP,hrP⟩:=ptnew_at PN27.out hPn;subst hbP;have hPr:=(hrP.fr HFI.out id).row i PL[i] (List.getElem?_eq_getElem hli);have hlenP:=hrP.len;have hmP':c27≤9223372036854775807:=hmP;have q13:(i:Int)<(c27:Int):=(by omega)
                have HTK:Hid (PL.take (i+1)=PL.take i++ [PL[i]]):=lH (List.take_succ_eq_append_getElem hli);generalize PL[i]=X at*;have F30:=lH ((F22.out.trans F27.out (fun _ _ e=>e)).trans HFI.out (fun _ _ e=>e));obtain ⟨b17,hb17,hm17,_,hr17⟩:=(HSS.out _ F30.out).at (by omega);subst hb17;have e17:=hr17.row i2 _ HU2.out;have hlen17:=hr17.len;have hm17':c17≤9223372036854775807:=hm17;have q14:(i2:Int)<(c17:Int):=(by omega)
                unfold useC at e17;dsimp only at e17;have hP0:w30.rangeAt bP (i*5) [.int .i64 X.c,.int .i64 X.l,.int .i64 X.n,.int .i64 X.a,.int .i64 X.z]:=hPr;have P0:Hid (w30.cell? ⟨bP,i*5,none⟩=some (.int .i64 X.c)):=lH (hP0 0 _ rfl);have P1:Hid (w30.cell? ⟨bP,i*5+1,none⟩=some (.int .i64 X.l)):=lH (hP0 1 _ rfl);have P2:Hid (w30.cell? ⟨bP,i*5+2,none⟩=some (.int .i64 X.n)):=lH (hP0 2 _ rfl);have D0:Hid (w30.cell? ⟨b17,i2*6,none⟩=some (.int .i64 z1)):=lH (e17 0 _ rfl);have D1:Hid (w30.cell? ⟨b17,i2*6+1,none⟩=some (.int .i64 z2)):=lH (e17 1 _ rfl);have D2:Hid (w30.cell? ⟨b17,i2*6+2,none⟩=some (.int .i64 z3)):=lH (e17 2 _ rfl);have e46:=fun W=>eql46 X.c X.l X.n z1 z2 z3 W;have HD:=lH HFI.out.drew;have HBN:Hid (∀b:Bool,(stpOf X=(z1,z2,z3)→b=true)→(bw=true→b=true)→(∃p∈ptrsK S1.F NN k++PL.take (i+1),stpOf p=(z1,z2,z3))→b=true):=lH (fun b h1 h2 h=>by
                 obtain ⟨p,hp,hpe⟩:=h;rw [HTK.out,← List.append_assoc] at hp;rcases List.mem_append.1 hp with hp|hp
                 ·exact h2 (HBI.out ⟨p,hp,hpe⟩)
                 ·rw [List.mem_singleton.1 hp] at hpe;exact h1 hpe)
                clear hrP hPr hP0 hPn hlenP hr17 e17 hlen17;cases bw with
                | true=>
                 have HB2:=lH (HBN.out true (fun _=>rfl) (fun _=>rfl));go_upto_region 56 with fail
                 refine wp_region_text mixed (fun W=>W=w30.drew) [14] (by kernel_rfl) (by kernel_rfl) (by kernel_rfl) (by kernel_rfl) (fun _ _ d _ _ h=>by cases d<;>exact h) rfl ?_;repeat (first
                  | refine seqX_skip (by rfl) ?_
                  | (refine seqX_val (v:= ?_) (by rfl) (by rfl) ?_ ?_
                     rotate_left 1
                     (intro W;go_simp;(try with_reducible rfl))
                     simp only [Act.put,lsA,lsZ,lsS])
                  | (refine seqX_no (by rfl) (by rfl) ?_
                     simp only [Act.put,lsA,lsZ,lsS]))
                 intro W hS;obtain rfl:W=w30.drew:=hS;simp only [List.reverse_cons,List.reverse_nil,List.nil_append,List.cons_append];go_wp2_with fail;go_roundw
                 case rel=>exact ⟨true,i+1,rfl,by go_num,hli,HB2,HD⟩
                 case measure=>simp [intOf];omega
                | false=>
                 have HB2:=lH (HBN.out (decide (((X.c,X.l,X.n):Stp)=(z1,z2,z3))) (fun h=>decide_eq_true h) (fun h=>by cases h));generalize decide (((X.c,X.l,X.n):Stp)=(z1,z2,z3))=bz at*;go_upto_region 56 with fail
                 refine wp_region_text mixed (fun W=>W=w30.drew) [14] (by kernel_rfl) (by kernel_rfl) (by kernel_rfl) (by kernel_rfl) (fun _ _ d _ _ h=>by cases d<;>exact h) rfl ?_;repeat (first
                  | refine seqX_skip (by rfl) ?_
                  | (refine seqX_val (v:= ?_) (by rfl) (by rfl) ?_ ?_
                     rotate_left 1
                     (intro W;go_simp;(try with_reducible rfl))
                     simp only [Act.put,lsA,lsZ,lsS])
                  | (refine seqX_no (by rfl) (by rfl) ?_
                     simp only [Act.put,lsA,lsZ,lsS])
                  | (refine seqX_valS (v:= ?_) (by rfl) (by kernel_rfl) (by rfl) ?_ ?_
                     rotate_left 1
                     (intro W hS;have e0:W.cell? ⟨bP,i*5,none⟩=some (.int .i64 X.c):=(by rw [hS];exact P0.out);have e1:W.cell? ⟨bP,i*5+1,none⟩=some (.int .i64 X.l):=(by rw [hS];exact P1.out);have e2:W.cell? ⟨bP,i*5+2,none⟩=some (.int .i64 X.n):=(by rw [hS];exact P2.out);have d0:W.cell? ⟨b17,i2*6,none⟩=some (.int .i64 z1):=(by rw [hS];exact D0.out);have d1:W.cell? ⟨b17,i2*6+1,none⟩=some (.int .i64 z2):=(by rw [hS];exact D1.out);have d2:W.cell? ⟨b17,i2*6+2,none⟩=some (.int .i64 z3):=(by rw [hS];exact D2.out);clear hS;go_simp;(try with_reducible rfl))
                     simp only [Act.put,lsA,lsZ,lsS]))
                 intro W hS;obtain rfl:W=w30.drew:=hS;simp only [List.reverse_cons,List.reverse_nil,List.nil_append,List.cons_append];go_wp2_with fail;go_roundw
                 case rel=>exact ⟨bz,i+1,rfl,by go_num,hli,HB2,HD⟩
                 case measure=>simp [intOf];omega
               ·obtain rfl:i=PL.length:=by omega
                have q11:¬(PL.length:Int)<(PL.length:Int):=(by omega)
                have HB2:Hid ((∃p∈ptrsK S1.F NN (k+1),stpOf p=(z1,z2,z3))→bw=true):=lH (fun h=>by
                 rw [HNX2.out] at h;have h2:=HBI.out;rw [List.take_length] at h2;exact h2 h)
                have HF3:=lH (F27.out.trans HFI.out (fun _ _ e=>e));go_wp2_with fail;go_roundw
                case rel=>exact ⟨bw,k+1,rfl,by go_num,hlk,HB2,HF3⟩
                case measure=>simp [intOf];omega
            ·obtain rfl:k=NN.length:=by omega
             have q8:¬(NN.length:Int)<(NN.length:Int):=(by omega)
             obtain rfl:bv=true:=HBV.out HX.out;go_wp2_with fail;go_roundw
             case rel=>exact ⟨i2+1,by go_num,hl2,F23⟩
             case measure=>simp [intOf];omega
          ·obtain rfl:i2=s2.length:=by omega
           have q31:¬(s2.length:Int)<(s2.length:Int):=(by omega)
           have HDP:Hid (∀W,Fr No w17 W→Calls Tryz.prog 39 #[.pointer (some ⟨L.s,0,none⟩)] W (DeepPost W S1.F)):=lH (fun W f=>gdeep_ o _ L S1 W (HFX.out W f).1 IOK.out (HFX.out W f).2.1 (fun i m hi=>by
            obtain ⟨x,hx,_⟩:=LV.out.tree i m hi;rw [hx];rfl))
           unfold DeepPost at HDP;by_cases hk0:S1.K.length=0;rotate_left;have q33:((S1.K.length:Int)==0)=false:=beq_eq_false_iff_ne.2 (by omega);go_upto_region 61 with fail
           try rw [q33]
           have HFE:=HF2;clear HDP hk0 HF2 q33;generalize w18=wE at*;rotate_left;have q33:((S1.K.length:Int)==0)=true:=(by rw [hk0];rfl)
           go_wp2_with fail;refine (HDP.out _ HF2.out).mono ?_;rintro e w40 ⟨r,rfl,hr,f40⟩;have HFE:=lH (HF2.out.trans f40 (fun _ _ e=>e));by_cases hr0:r=0;have q34:((r:Int)==0)=true:=(by rw [hr0];rfl)
           have q35:¬(0:Int)<(s2.length:Int):=(by have:=HNE.out (hr hr0);omega)
           have q36:Hid (decide (0<s2.length)=false):=lH (decide_eq_false (by have:=HNE.out (hr hr0);omega));clear hr HDP f40 HF2 hk0 hr0;go_upto_region 61 with fail
           try rw [q34]
           try rw [q33]
           try rw [q36.out]
           clear q33 q34 q35 q36;generalize w40=wE at*;rotate_left;have q34:((r:Int)==0)=false:=beq_eq_false_iff_ne.2 (by omega);clear hr HDP f40 HF2 hk0 hr0;go_upto_region 61 with fail
           try rw [q34]
           try rw [q33]
           clear q33 q34;generalize w40=wE at*;all_goals
            go_wp2_with fail;go_loopw [25] (fun a wr=>∃i3:Nat,a=.int .i64 i3∧i3≤ss.length∧Hid (Fr No w17 wr)) (fun a _=>ss.length - (intOf a).toNat)
            case atStart=>exact ⟨0,rfl,Nat.zero_le _,HFE⟩
            case round=>
             obtain ⟨w50,rfl⟩:∃w50:World,w50=wr:=⟨_,rfl⟩
             obtain ⟨i3,rfl,hi3,HF5⟩:=hrel;by_cases hl3:i3<ss.length
             ·have q41:(i3:Int)<(ss.length:Int):=by omega
              have q42:(0:Int)≤(i3:Int):=(by omega)
              obtain ⟨b9,hb9,hm9,_,hr9⟩:=(HRN.out _ _ (HFX.out _ HF5.out).2.2).at (by omega);subst hb9;have hss:ss[i3]? =some ss[i3]:=List.getElem?_eq_getElem hl3;have e9:=hr9.row i3 _ hss;have hlen9:=hr9.len;have hm9':c8≤9223372036854775807:=hm9;have q43:(i3:Int)<(c8:Int):=(by omega)
              obtain ⟨hbh,hgd⟩:=HBE.out ss[i3] (List.getElem_mem hl3);have hb1:=HBEH.out _ hbh;unfold useC at e9;generalize ss[i3]=z at*;have HHO:Hid (Calls Tryz.prog 21 #[.pointer (some ⟨L.s,0,none⟩),stpV z] w50 fun e w'=>e=.returned (.bool (S1.U z).isSome)∧Fr No w50 w'):=lH (holds_ o 0 _ L S1 z w50 (HFX.out _ HF5.out).1 IOK.out (HFX.out _ HF5.out).2.1 hgd);have HWA:Hid ((S1.U z).isSome=false→∀W,Fr No w50 W→Calls Tryz.prog 20 #[.pointer (some ⟨L.s,0,none⟩),stpV z] W fun e w'=>e=.returned (.bool true)∧Fr No W w'):=lH (fun hU W f=>by
               have f5:=HF5.out.trans f (fun _ _ e=>e);have h3:=gwaste_ o 0 _ L S1 z W (HFX.out _ f5).1 IOK.out (HFX.out _ f5).2.1 hgd;unfold BoolPost at h3;rwa [decide_eq_true (behind_waste hb1 hU)] at h3)
              cases hU:(S1.U z).isSome with
              | true=>
               rw [hU] at HHO;obtain ⟨z1,z2,z3⟩:=z;unfold stpV at HHO;dsimp only at e9 HHO;have y0:w50.cell? ⟨b9,i3*6,none⟩=some (.int .i64 z1):=e9 0 _ rfl;have y1:w50.cell? ⟨b9,i3*6+1,none⟩=some (.int .i64 z2):=e9 1 _ rfl;have y2:w50.cell? ⟨b9,i3*6+2,none⟩=some (.int .i64 z3):=e9 2 _ rfl;clear hr9 e9 hss hU HWA hgd hb1 hbh;go_wp2_with fail;refine HHO.out.mono ?_;rintro e w51 ⟨rfl,f51⟩;have HF6:=lH (HF5.out.trans f51 (fun _ _ e=>e));clear HHO;go_wp2_with fail;go_roundw
               case rel=>exact ⟨i3+1,by go_num,hl3,HF6⟩
               case measure=>simp [intOf];omega
              | false=>
               rw [hU] at HHO;have HW2:=lH (HWA.out hU);obtain ⟨z1,z2,z3⟩:=z;unfold stpV at HHO HW2;dsimp only at e9 HHO HW2;have y0:w50.cell? ⟨b9,i3*6,none⟩=some (.int .i64 z1):=e9 0 _ rfl;have y1:w50.cell? ⟨b9,i3*6+1,none⟩=some (.int .i64 z2):=e9 1 _ rfl;have y2:w50.cell? ⟨b9,i3*6+2,none⟩=some (.int .i64 z3):=e9 2 _ rfl;clear hr9 e9 hss hU HWA hgd hb1 hbh;go_wp2_with fail;refine HHO.out.mono ?_;rintro e w51 ⟨rfl,f51⟩;have y0':w51.cell? ⟨b9,i3*6,none⟩=some (.int .i64 z1):=f51.cell_of y0 id;have y1':w51.cell? ⟨b9,i3*6+1,none⟩=some (.int .i64 z2):=f51.cell_of y1 id;have y2':w51.cell? ⟨b9,i3*6+2,none⟩=some (.int .i64 z3):=f51.cell_of y2 id;have HF6:=lH (HF5.out.trans f51 (fun _ _ e=>e));have HW3:=lH (HW2.out _ f51);clear HHO HW2;go_wp2_with fail;refine HW3.out.mono ?_;rintro e w52 ⟨rfl,f52⟩;have HF7:=lH (HF6.out.trans f52 (fun _ _ e=>e));go_wp2_with fail;go_roundw
               case rel=>exact ⟨i3+1,by go_num,hl3,HF7⟩
               case measure=>simp [intOf];omega
             ·obtain rfl:i3=ss.length:=by omega
              have q41:¬(ss.length:Int)<(ss.length:Int):=(by omega)
              have HFN:=lH (HFB.out _ _ (HFX.out _ HF5.out).2.2);go_wp2_with fail;exact HQ.out _ HFN.out
        | cons l Q2=>
         obtain ⟨k,ks2,rfl⟩:∃k ks2,ks=k::ks2:=by
          have h:=HQU.out.len;cases ks with
          | nil=>simp at h
          | cons k ks2=>exact ⟨k,ks2,rfl⟩
         obtain ⟨ao,cp,hu,hle,hmx⟩:=HFR.out.row.shape;subst hu;obtain ⟨_,hcp,hcm,bq,off,rfl,hcell,ht1,ht2⟩:=HFR.out.row.head;have HEN:=lH (HQU.out.ent 0 l k rfl rfl);have HDK:=lH (HQU.out.dir k (by simp));have HT1:=lH ht1;have HT2:=lH ht2;obtain ⟨nq,hnq⟩:∃nq,nq=(l::Q2).length:=⟨_,rfl⟩
         have hn:nq=Q2.length+1:=hnq;rw [← hnq];have q1:(0:Int)<(nq:Int):=(by omega)
         have q2:(1:Int)≤(nq:Int):=(by omega)
         have q4:(nq:Int)≤(cp:Int):=(by omega)
         have q3:(1:Int)≤(cp:Int):=(by omega)
         have HNQ:=lH hn;clear ht1 ht2 hnq hle hmx hn;go_upto_region 22 with fail
         go_cut [8] (fun a wc=>Hid (QRow wc o 30000 a Q2)∧wc=wo)
         case first=>
          by_cases hc1:cp=1
          ·have HT:=lH (HT1.out hc1);have hn:=HNQ.out;have e0:Q2.length=0:=(by omega)
           rw [e0] at HT;subst hc1;clear e0;go_wp2_with fail;go_meet;exact ⟨HT,rfl⟩
          ·have HT:=lH (HT2.out hc1);have hn:=HNQ.out;go_wp2_with fail;go_meet;exact ⟨HT,rfl⟩
         case rest=>
          obtain ⟨HQR,hwc⟩:=hcut;have hwc':=hwc.symm;subst hwc';have FRT:=lH (HFR.out.tail HQR.out);have H31:=lH (gtree_ o 0 20000 _ L S1 wo FRT.out.st FRT.out.inv.ok FRT.out.step.fresh);unfold TrClonePost at H31;have HLL:=lH HEN.out.short;clear HFR HQR HT1 HT2 HNQ hcell q1 q2 q3 q4 hcp hcm;go_wp2_with fail;refine H31.out.mono ?_;rintro e w11 ⟨t11,o11,rfl,s11,tr11⟩;have F11:Hid (Fr No wo w11):=lH (s11.fr.mono (fun _ _ e=>e));have H38:=lH (glist_ o11 20000 t11 S1.T l w11 (by have:=HLL.out;omega) tr11 FRT.out.inv.ok.tree s11.fresh);unfold GList at H38;have HLI:=lH (list_entry FRT.out.inv.ok.tree FRT.out.pr HEN.out);generalize (listOf S1.T l).1=er at*;generalize (listOf S1.T l).2=E at*;clear H31 s11 tr11;go_wp2_with fail;refine H38.out.mono ?_;rintro e w12 ⟨v12,rfl,f12,eb12,lw12⟩;obtain ⟨a12,c12,hv12⟩:=ents_shape eb12;subst hv12;have F12:=lH (F11.out.trans f12 (fun _ _ e=>e));have FR12:=lH (FRT.out.no F12.out);have HEB:Hid (∀W o',Step posC w12 o W o'→EsB W w12.heap.size (.slice a12 E.length c12) E):=lH (fun W o' s=>eb12.kept lw12 (fun k hk=>FRT.out.step.fresh k (Nat.le_trans F11.out.size hk)) s (by unfold posC;omega));have ST0:Hid (Step posC w12 o w12 o):=lH (Step.refl FR12.out.step.fresh);have IN0:Hid (Inner S1.T E 0 S1.T):=lH ⟨Pruned.refl _,fun _ _ _ _=>rfl⟩;have HPR1:Hid (Pruned T0 S1.T):=lH FRT.out.pr;have HOK1:Hid (TreeOk S1.T):=lH FRT.out.inv.ok.tree;have HT0:Hid (Q2++subsOf l (E.take 0)=Q2):=lH (by simp [subsOf]);have HKI0:Hid (s≤kidSum T0 V+0):=lH HKS.out;have HEL:Hid (E.length≤129):=lH (Nat.le_trans HLI.out.few (Nat.le_trans List.countP_le_length (by rw [List.length_range];omega)));generalize hT1:S1.T=T1 at*;have HTE:=lH hT1;clear hT1 f12 eb12 lw12 F11 F12 H38 FRT;go_wp2_with fail;go_loopw [7,8,12] (fun a b d wr=>∃(s1 i:Nat) (o1:Nat→Nat) (S2:St),a=.int .i64 s1∧d=.int .i64 i∧i≤E.length∧Hid (FrB w8 oj L c l0 B0 j T0 wr o1 S2 s1 b (Q2++subsOf l (E.take i)))∧Hid (Step posC w12 o wr o1)∧Hid (Inner T1 E i S2.T)∧Hid (s1≤kidSum T0 V+i)) (fun _ _ d _=>E.length - (intOf d).toNat)
          case atStart=>exact ⟨s,0,o,S1,rfl,rfl,Nat.zero_le _,by rw [HT0.out];exact FR12,ST0,by rw [HTE.out];exact IN0,HKI0⟩
          case round=>
           obtain ⟨wi,rfl⟩:∃wi:World,wi=wr:=⟨_,rfl⟩
           obtain ⟨s1,i,o1,S2,rfl,rfl,hi,HFI,HST,HIN,HKI⟩:=hrel;have hel:=HEL.out;by_cases hli:i<E.length
           ·have q9:(i:Int)<(E.length:Int):=by omega
            have q10:(0:Int)≤(i:Int):=(by omega)
            obtain ⟨_,hcE,bE,offE,csE,fzE,rfl,hbE,hrE⟩:=ents_at (HEB.out _ _ HST.out) hli;have q11:(i:Int)<(c12:Int):=(by omega)
            have HTS:Hid (E[i].2.2=true→subsOf l (E.take (i+1))=subsOf l (E.take i)++ [subP l E[i].1.data.toList]):=lH (fun h=>take_subs hli h);have HTK:Hid (E[i].2.2=false→subsOf l (E.take (i+1))=subsOf l (E.take i)):=lH (fun h=>take_skip hli h);have HEI:Hid (E[i]? =some E[i]):=lH (List.getElem?_eq_getElem hli);obtain ⟨jn,xn,hen,hxn,hup,hj1⟩:=HLI.out.ent i _ HEI.out;have hokn:=(okName_no _ (HOK1.out.name jn xn hxn hj1)).2.2;rw [hen] at hrE HEI HTS HTK;dsimp only at hrE HTS HTK;rw [ba_list] at HTS;obtain ⟨xu,nl,xd⟩:=xn;dsimp only at hrE HEI HTS HTK hokn hxn;have HHX:Hid (T1 jn=some ⟨xu,nl,xd⟩∧xu=k):=lH ⟨hxn,hup⟩;have HLN:Hid (nl.length≤12):=lH hokn;have n0:wi.cell? ⟨bE,offE+i*3,none⟩=some (.string (ba nl)):=hrE 0 _ rfl;have n2:wi.cell? ⟨bE,offE+i*3+2,none⟩=some (.bool xd):=hrE 2 _ rfl;have N0:=lH n0;have N2:=lH n2;clear hen hxn hup hj1 hokn hrE hbE;have hLL:=HLL.out;have hLN:=HLN.out;have z1:(ba l).size=l.length:=ba_size l;have z2:(ba nl).size=nl.length:=ba_size nl
            go_upto_if 92 with fail
            go_cut [13] (fun a wc=>a=.string (ba (subP l nl))∧wc=wi)
            case first=>
             have z3:(⟨#[47]⟩:ByteArray).size=1:=rfl;go_wp2_with fail
             ·rename_i hx _
              have hl:l= [47]:=(by rw [ba_toList] at hx;simpa using hx)
              have HP:subP l nl=47::nl:=if_pos hl;go_meet;exact ⟨by rw [HP,show (47:UInt8)::nl= [47]++nl from rfl,← ba_app];rfl,rfl⟩
             ·rename_i hx _
              have hl:¬l= [47]:=(by rw [ba_toList] at hx;simpa using hx)
              have HP:ba (subP l nl)=ba l++⟨#[47]⟩++ba nl:=by
               rw [show subP l nl=l++ [47]++nl by unfold subP;rw [if_neg hl];simp];rw [← ba_app,← ba_app];rfl
              go_meet;exact ⟨by rw [HP],rfl⟩
            case rest=>
             obtain ⟨hu13,hwc⟩:=hcut;have hwc':=hwc.symm;subst hwc';subst hu13;have n2:=N2.out;have HHP:Hid (ba (subP l nl)=ba (subP l nl)):=lH rfl;have HQB:Hid ((Q2++subsOf l (E.take i)).length≤1000000):=lH (by
              have h1:=HQU.out.len;have h2:=HQU.out.few OK0.out;have h3:=HLI.out.few;have h4:kidN T1 k≤129:=Nat.le_trans List.countP_le_length (by rw [List.length_range];omega);have h5:(subsOf l (E.take i)).length≤E.length:=by
               unfold subsOf;rw [List.length_map];exact Nat.le_trans (List.length_filter_le _ _) (by rw [List.length_take];omega)
              rw [List.length_append];simp only [List.length_cons] at h1 h2;omega)
             have HKI2:Hid (s1≤kidSum T0 V+(i+1)):=lH (by have:=HKI.out;omega);clear n0 N0 z1 z2;cases xd with
             | true=>
              have HT2:Hid (subsOf l (E.take (i+1))=subsOf l (E.take i)++ [subP l nl]):=lH (HTS.out rfl);have ka:=new_at wi (.cells #[.string (ba (subP l nl))] 9);have fa:Fr No wi (wi.alloc (.cells #[.string (ba (subP l nl))] 9)):=(Fr.refl wi).alloc _;have HFA:=HFI.out.no fa;obtain ⟨v',w',o',hrun,hq',hs'⟩:=HFA.row.append HFA.step.fresh HQB.out (subP l nl) wi.heap.size ka;have FR2:=lH (HFA.queue hs' hq');rw [List.append_assoc,← HT2.out] at FR2;have ST2:Hid (Step posC w12 o w' o'):=lH ((HST.out.trans (Step.no (C:=fun _=>False) HST.out.fresh fa) (fun _ e=>e.elim)).trans hs' (fun _ e=>by unfold posC;omega));have IN2:=lH HIN.out.skip;clear HFA hq' hs' ka fa HTS HTK HFI HST HIN HKI N2 HQB;go_wp2_with (at_builtin;refine Lib.wpList_append_run _ rfl _ _ _ _ rfl _ _ rfl rfl _ _ (hrun _) ?_);go_roundw
              case rel=>exact ⟨s1,i+1,o',S2,rfl,by go_num,hli,FR2,ST2,IN2,HKI2⟩
              case measure=>simp [intOf];omega
             | false=>
              have HT2:Hid (subsOf l (E.take (i+1))=subsOf l (E.take i)):=lH (HTK.out rfl);have HPE:Hid (subP l nl=subP l nl):=lH rfl;have HPL:Hid ((subP l nl).length≤300):=lH (by
               unfold subP;split
               ·rw [List.length_cons];omega
               ·rw [List.length_append,List.length_cons];omega)
              obtain ⟨p,hp⟩:∃p,p=subP l nl:=⟨_,rfl⟩
              have HP:=lH hp;rw [← hp] at HPL;rw [← hp];have HSB:Hid (s1≤258):=lH (by
               have h1:=HKI.out;have h2:=kidSum_le (T:=T0) (List.nodup_append.1 HQU.out.nd).1;omega)
              have hsb:=HSB.out;have hlx:=HLX.out;have hc4:=HC4.out;have HLFE:Hid (lifeS S2 (c:Int)=if s1=0 then l0 else l0+1):=lH (HFI.out.stamp.life HC4.out);have HLV:Hid (-1≤l0):=HL1;have hlv:=HLV.out;have hbd:∀W:World,(Instr.build 41 #[(1,.int .i64 2),(2,.string (ba p))]).run Tryz.prog W=.ok (.agg #[.int .i64 0,.int .i64 0,.int .i64 0,.int .i64 2,.string (ba p),.string ⟨#[]⟩,.bool false,.bool false,.bool false,.int .i64 0,.int .i64 0,.int .i64 0,.slice none 0 0,.slice none 0 0]) W:=fun W=>by kernel_rfl
              clear hp HTS HTK N2 n2 HHP HQB;go_upto_region 33 with fail
              have kg:=new_at wi (.cells #[.int .i64 0,.int .i64 0,.int .i64 0,.int .i64 2,.string (ba p),.string ⟨#[]⟩,.bool false,.bool false,.bool false,.int .i64 0,.int .i64 0,.int .i64 0,.slice none 0 0,.slice none 0 0] 41);have fg:Fr No wi (wi.alloc (.cells #[.int .i64 0,.int .i64 0,.int .i64 0,.int .i64 2,.string (ba p),.string ⟨#[]⟩,.bool false,.bool false,.bool false,.int .i64 0,.int .i64 0,.int .i64 0,.slice none 0 0,.slice none 0 0] 41)):=(Fr.refl wi).alloc _;generalize wi.alloc (.cells #[.int .i64 0,.int .i64 0,.int .i64 0,.int .i64 2,.string (ba p),.string ⟨#[]⟩,.bool false,.bool false,.bool false,.int .i64 0,.int .i64 0,.int .i64 0,.slice none 0 0,.slice none 0 0] 41)=w21 at*;have HLF:=lH (glifeS_ o1 0 _ L S2 (c:Int) w21 (HFI.out.no fg).st);generalize hlz:lifeS S2 (c:Int)=lf at*;have g0:w21.cell? ⟨wi.heap.size,0,none⟩=some (.int .i64 0):=(by rw [cell_at kg];rfl)
              have g1:w21.cell? ⟨wi.heap.size,1,none⟩=some (.int .i64 0):=(by rw [cell_at kg];rfl)
              have g2:w21.cell? ⟨wi.heap.size,2,none⟩=some (.int .i64 0):=(by rw [cell_at kg];rfl)
              have gz:=fun j=>frozen_at kg j;have K3:=setCell_at (setCell_at (setCell_at kg 0 (.int .i64 (c:Int))) 1 (.int .i64 lf)) 2 (.int .i64 ((s1:Int)+1));have K4:=setCell_at K3 1 (.int .i64 (lf+1));have KG3:Hid ((((w21.setCell ⟨wi.heap.size,0,none⟩ (.int .i64 (c:Int))).setCell ⟨wi.heap.size,1,none⟩ (.int .i64 lf)).setCell ⟨wi.heap.size,2,none⟩ (.int .i64 ((s1:Int)+1))).heap[wi.heap.size]? =some (.cells #[.int .i64 (c:Int),.int .i64 lf,.int .i64 ((s1:Int)+1),.int .i64 2,.string (ba p),.string ⟨#[]⟩,.bool false,.bool false,.bool false,.int .i64 0,.int .i64 0,.int .i64 0,.slice none 0 0,.slice none 0 0] 41 (0,0))):=lH (by simpa using K3);have KG4:Hid (((((w21.setCell ⟨wi.heap.size,0,none⟩ (.int .i64 (c:Int))).setCell ⟨wi.heap.size,1,none⟩ (.int .i64 lf)).setCell ⟨wi.heap.size,2,none⟩ (.int .i64 ((s1:Int)+1))).setCell ⟨wi.heap.size,1,none⟩ (.int .i64 (lf+1))).heap[wi.heap.size]? =some (.cells #[.int .i64 (c:Int),.int .i64 (lf+1),.int .i64 ((s1:Int)+1),.int .i64 2,.string (ba p),.string ⟨#[]⟩,.bool false,.bool false,.bool false,.int .i64 0,.int .i64 0,.int .i64 0,.slice none 0 0,.slice none 0 0] 41 (0,0))):=lH (by simpa using K4);have FG3:Hid (Fr No wi (((w21.setCell ⟨wi.heap.size,0,none⟩ (.int .i64 (c:Int))).setCell ⟨wi.heap.size,1,none⟩ (.int .i64 lf)).setCell ⟨wi.heap.size,2,none⟩ (.int .i64 ((s1:Int)+1)))):=lH (Fr.setCell (Fr.setCell (Fr.setCell fg (.inr (Nat.le_refl _)) _) (.inr (Nat.le_refl _)) _) (.inr (Nat.le_refl _)) _);have FG4:Hid (Fr No wi ((((w21.setCell ⟨wi.heap.size,0,none⟩ (.int .i64 (c:Int))).setCell ⟨wi.heap.size,1,none⟩ (.int .i64 lf)).setCell ⟨wi.heap.size,2,none⟩ (.int .i64 ((s1:Int)+1))).setCell ⟨wi.heap.size,1,none⟩ (.int .i64 (lf+1)))):=lH (Fr.setCell FG3.out (.inr (Nat.le_refl _)) _);have q21:IntKind.i64.wrap ((s1:Int)+1)=(s1:Int)+1:=(by rw [IntKind.wrap_i64];omega)
              have q22:IntKind.i64.wrap (l0+1)=l0+1:=(by rw [IntKind.wrap_i64];omega)
              have HLZ:=lH hlz;clear kg fg hbd K3 K4 hlz;go_wp2_with fail;refine HLF.out.mono ?_;rintro e wy ⟨rfl,rfl⟩
              go_upto_if 124 with fail
              have hw:∃wz:World,wz=((wy.setCell ⟨wi.heap.size,0,none⟩ (.int .i64 (c:Int))).setCell ⟨wi.heap.size,1,none⟩ (.int .i64 lf)).setCell ⟨wi.heap.size,2,none⟩ (.int .i64 ((s1:Int)+1)):=⟨_,rfl⟩
              go_cut [] (fun wc=>Hid (wc.heap[wi.heap.size]? =some (.cells #[.int .i64 (c:Int),.int .i64 (l0+1),.int .i64 ((s1:Int)+1),.int .i64 2,.string (ba p),.string ⟨#[]⟩,.bool false,.bool false,.bool false,.int .i64 0,.int .i64 0,.int .i64 0,.slice none 0 0,.slice none 0 0] 41 (0,0)))∧Hid (Fr No wi wc))
              case first=>
               obtain ⟨wz,hwz⟩:=hw;rw [← hwz] at KG3 KG4 FG3 FG4 ⊢;have HL3:=lH (glifeS_ o1 0 _ L S2 (c:Int) wz (HFI.out.no FG3.out).st);rw [HLZ.out] at HL3;have k1:wz.cell? ⟨wi.heap.size,1,none⟩=some (.int .i64 lf):=(by rw [cell_at KG3.out];rfl)
               have kz:=fun j=>frozen_at KG3.out j;clear hwz g0 g1 g2 gz HLF;by_cases hs0:s1=0
               ·have e1:lf=l0:=by rw [HLFE.out,if_pos hs0]
                have q23:(((s1:Int)+1)==1)=true:=(by rw [hs0];rfl)
                rw [e1] at KG4 HL3 FG4 k1;clear HLFE e1 hs0;go_wp2_with fail;refine HL3.out.mono ?_;rintro e wy2 ⟨rfl,rfl⟩;go_wp2_with fail;go_meet;exact ⟨KG4,FG4⟩
               ·have e1:lf=l0+1:=by rw [HLFE.out,if_neg hs0]
                have q23:(((s1:Int)+1)==1)=false:=beq_eq_false_iff_ne.2 (by omega);rw [e1] at KG3;clear HLFE e1 hs0;go_wp2_with fail;go_meet;exact ⟨KG3,FG3⟩
              case rest=>
               obtain ⟨KR,FWC⟩:=hcut;obtain ⟨wb,rfl⟩:∃wb:World,wb=wc:=⟨_,rfl⟩
               clear hw KG3 KG4 FG3 FG4 g0 g1 g2 gz HLF HLFE HLZ q22;generalize wi.heap.size=g at*;have FRC:=lH (HFI.out.no FWC.out);have STC:Hid (Step posC w12 o wb o1):=lH (HST.out.trans (Step.no (C:=fun _=>False) HST.out.fresh FWC.out) (fun _ e=>e.elim));have RST:∀W o,RowsAt szC 4 W o (.slice none 0 0) []:=fun W o=>⟨none,0,rfl,fun h=>absurd rfl h⟩;have RDL:Hid (∀W o,RowsAt dlC 14 W o (.slice none 0 0) []):=lH (fun W o=>⟨none,0,rfl,fun h=>absurd rfl h⟩);have HRQ:=lH (grequest_ o1 ⟨(c:Int),l0+1,(s1:Int)+1,2,p, [],false,false,false,0,0,0⟩ (.slice none 0 0) (.slice none 0 0) [] wb FRC.out.step.fresh (RST _ _) ⟨_,_,_,rfl⟩ (by simp));unfold ReqPost Req.cells at HRQ;dsimp only at HRQ;clear RST HFI HST;go_wp2_with (refine wpList_load_row rfl 41 (.tmp 14) rfl g rfl 41 _ (0,0) _ KR.out Tryz.underlying41 rfl Tryz.size41 ?_);refine HRQ.out.mono ?_;rintro e wq ⟨rv',rfl,hrq,fq⟩;have FRQ:=lH (FRC.out.no fq);have STQ:Hid (Step posC w12 o wq o1):=lH (STC.out.trans (Step.no (C:=fun _=>False) STC.out.fresh fq) (fun _ e=>e.elim));have hjj:=HJ.out;have HW:=lH (wentK o1 0 (100*(j+s1)) (2*(j+s1)) L S2 ⟨(c:Int),l0+1,(s1:Int)+1,2,p, [],false,false,false,0,0,0⟩ rv' _ [] [] wq FRQ.out.st FRQ.out.inv FRQ.out.step.fresh hrq (RDL.out _ _) ⟨HPL.out,by simp,by simp,by simp⟩ (fun s hs=>by cases hs) (by omega) (by omega));unfold WentK Req.cells at HW;dsimp only at HW;clear hrq fq HRQ FRC STC KR FWC;go_wp2_with fail;refine HW.out.mono ?_;rintro e w7 ⟨x,o7,ev,mv,rfl,q1e,q2e,d7,i7,s7,t7⟩;obtain ⟨kd,hkd,hask⟩:=FRQ.out.stamp.ask HC4.out FRQ.out.f.1 HLX.out (by omega);obtain ⟨he,hin,bs1,hWs⟩:=Inner.did FRQ.out.inv.ok.tree HPR1.out HLI.out HDK.out HIN.out HEI.out rfl d7 rfl rfl (by dsimp only;rw [ba_list];exact HP.out) hkd hask;dsimp only at hWs;rw [Int.toNat_natCast] at hWs;have FR7:=lH (FRQ.out.did d7 s7 t7 i7 (HPR1.out.trans hin.pr) hWs);have ST7:Hid (Step posC w12 o w7 o7):=lH (STQ.out.trans s7 (fun k e=>by unfold stateC at e;unfold posC;omega));have IN7:=lH hin;have HE7:=lH he;have kz:=new_at w7 (.cells #[.int .i64 0,.int .i64 0,.int .i64 0,.int .i64 0,.int .i64 0,.bool false,.slice none 0 0,.slice none 0 0] 29);have K8:=lH (setRow_at (cs':=x.1.cells ev mv) kz);have KZ:=lH kz
               have F8:Hid (Fr No w7 ((w7.alloc (.cells #[.int .i64 0,.int .i64 0,.int .i64 0,.int .i64 0,.int .i64 0,.bool false,.slice none 0 0,.slice none 0 0] 29)).setRow w7.heap.size (x.1.cells ev mv))):=lH (Fr.setRow ((Fr.refl (S:=No) w7).alloc _) (.inr (Nat.le_refl _)) _);have HOC:=lH (RepS.cells_one (r:=x.1) q1e q2e);clear d7 i7 s7 t7 kz HW hkd hask he hin hWs FRQ STQ HIN q1e q2e;go_upto_region 38 with (refine wpList_store_row rfl 29 (.tmp 15) (.tmp 134) rfl w7.heap.size (x.1.cells ev mv) rfl rfl 29 _ KZ.out Tryz.size29 rfl HOC.out ?_)
               have z0:((w7.alloc (.cells #[.int .i64 0,.int .i64 0,.int .i64 0,.int .i64 0,.int .i64 0,.bool false,.slice none 0 0,.slice none 0 0] 29)).setRow w7.heap.size (x.1.cells ev mv)).cell? ⟨w7.heap.size,0,none⟩=some (.int .i64 x.1.e):=(by rw [cell_at K8.out];rfl)
               have FR8:=lH (FR7.out.no F8.out);have ST8:Hid (Step posC w12 o ((w7.alloc (.cells #[.int .i64 0,.int .i64 0,.int .i64 0,.int .i64 0,.int .i64 0,.bool false,.slice none 0 0,.slice none 0 0] 29)).setRow w7.heap.size (x.1.cells ev mv)) o7):=lH (ST7.out.trans (Step.no (C:=fun _=>False) ST7.out.fresh F8.out) (fun _ e=>e.elim));generalize (w7.alloc (.cells #[.int .i64 0,.int .i64 0,.int .i64 0,.int .i64 0,.int .i64 0,.bool false,.slice none 0 0,.slice none 0 0] 29)).setRow w7.heap.size (x.1.cells ev mv)=w8' at*;rw [← HT2.out] at FR8;have he7:=HE7.out;generalize x.1.e=er7 at*;generalize x.2=S7 at*;have HKI3:Hid (s1+1≤kidSum T0 V+(i+1)):=lH (by have:=HKI.out;omega);clear KZ K8 F8 HOC FR7 ST7 HE7;simp only [Act.put];rcases he7 with rfl|rfl|rfl;all_goals
                go_wp2_with fail;go_roundw
                case rel=>exact ⟨s1+1,i+1,o7,S7,by go_num,by go_num,hli,FR8,ST8,IN7,HKI3⟩
                case measure=>simp [intOf];omega
           ·obtain rfl:i=E.length:=by omega
            have q9:¬(E.length:Int)<(E.length:Int):=(by omega)
            have FRE:=HFI;rw [List.take_length] at FRE;have QUE:=lH (HQU.out.next OK0.out HPR1.out HLI.out);have KSE:Hid (s1≤kidSum T0 (V++ [k])):=lH (by
             have h1:=HKI.out;have h2:=HLI.out.few;have h3:=HPR1.out.kids k;rw [kidSum_snoc];omega)
            have hfew:=QUE.out.few OK0.out;have hm:=HM.out;have MSE:Hid (gk - 1+(V++ [k]).length=129):=lH (by
             rw [List.length_append,List.length_singleton] at hfew ⊢;omega)
            have hgk:gk - 1<gk:=by
             rw [List.length_append,List.length_singleton] at hfew;omega
            clear hfew hm;go_wp2_with fail
            go_roundg (gk - 1)
            case measure=>exact hgk
            case rel=>exact ⟨s1,V++ [k],_,_,o1,S2,rfl,FRE,QUE,KSE,MSE⟩
     ·obtain rfl:c=4:=by omega
      have FB:Hid (Fr No w wr):=lH (F4.out.trans SJ.out.fr (fun k hk e=>by
       rw [HLE.out k hk] at e;unfold stateC at e;omega))
      go_wp2_with fail;exact HQ.out _ FB.out
end Go.Proofs.YtlcojhddnpmgmaaGreat
