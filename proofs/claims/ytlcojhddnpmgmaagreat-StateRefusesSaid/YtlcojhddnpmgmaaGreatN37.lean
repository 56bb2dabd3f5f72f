/- Part of the proof; the last text says what is proved. -/
import Derived.Test.YtlcojhddnpmgmaaGreatN36
set_option linter.unusedSimpArgs false
set_option linter.unusedVariables false
set_option maxRecDepth 100000
set_option maxHeartbeats 6400000
namespace Go.Proofs.YtlcojhddnpmgmaaGreat
open Go.RowKit
def Went3 (w:World) (o:Nat→Nat) (L:Plc) (S:St) (n q:Nat) (r:Req) (st:List Sz) (dl:List Dl) (e:Ending) (w':World):Prop:=
 ∃(x:RepS×St) (o':Nat→Nat) (ev mv:Value),e=.returned (.agg (x.1.cells ev mv))∧ev.oneCell'=true∧mv.oneCell'=true∧Did S r st dl x∧StInv x.2 (q+2)∧Step (stateC 0) w o w' o'∧StateAt w' o' 0 L x.2 (n+100)
theorem went3 (o:Nat→Nat) (n q:Nat) (L:Plc) (S:St) (r:Req) (rv dv:Value) (st:List Sz) (dl:List Dl) (w:World) (h:StateAt w o 0 L S n) (inv:StInv S q) (hf:Fresh w o) (hr:RowsAt szC 4 w o rv st) (hd:RowsAt dlC 14 w o dv dl) (hs:smallR r st.length dl.length) (hg:∀s∈st,stpGood s.1) (hq:q≤90000) (hn:n≤400000):
  Calls Tryz.prog 15 #[.pointer (some ⟨L.s,0,none⟩),.agg (r.cells rv dv)] w (Went3 w o L S n q r st dl):=
 (gapply_ o 0 n q L S r rv dv st dl w h inv hf hr hd ⟨hs.1,hs.2.1,hs.2.2.1,hs.2.2.2,hg⟩ hq hn).mono (fun e w' p=>by
   obtain ⟨x,h1,h2,⟨o',s,t⟩,ev,mv,he,q1,q2⟩:=p;exact ⟨x,o',ev,mv,he,q1,q2,h1,h2,s,t⟩)
theorem treeB_len {T:Tree} (ok:TreeOk T):(treeB T).length≤3000:=by
 have hth:things T≤129:=by
  unfold things;exact Nat.le_trans List.countP_le_length (by simp)
 obtain ⟨ys,e,hn,_⟩:=tree_go ok (a:= []) (by simp only [List.length_nil];omega);unfold treeB;rw [e];simp only [List.nil_append];omega
theorem neq80 (a b c d e f:Int) (w:World):(binOp .neq 80 (.agg #[.int .i64 a,.int .i64 b,.int .i64 c,.int .i64 d,.int .i64 e,.int .i64 f]) (.agg #[.int .i64 a,.int .i64 b,.int .i64 c,.int .i64 d,.int .i64 e,.int .i64 f])).run Tryz.prog w=.ok (.bool false) w:=by
 have u3:=Tryz.underlying3;have a3:=Tryz.isAgg3;have z3:=Tryz.sizeOf3;have u46:=Tryz.underlying46;have a46:=Tryz.isAgg46;have z46:=Tryz.sizeOf46;have hS:Tryz.prog.underlying 80=some (.struct (Tryz.prog.fieldsOf 80)):=by kernel_rfl
 have hp:Tryz.prog.stoodInHeld 80=false:=by kernel_rfl
 rw [run_neq_struct,show (10000:Nat)=9999+1 from rfl,run_equalIn_agg w 9999 80 _ _ hS hp];simp only [Program.fieldsOf,Tryz.underlying80];go_simp
theorem RqIn.kind {w:World} {o:Nat→Nat} {b off:Nat} {y:Rq} (h:RqIn w o b off y):w.cell? ⟨b,off+3,none⟩=some (.int .i64 y.1.kind):=by
 obtain ⟨rv,dv,h1,_⟩:=h;exact h1 3 _ rfl
theorem same_self (v1 v2:Value) (x:List UInt8) (w:World) (h1:SlAt w v1 x) (h2:SlAt w v2 x) (hbig:x.length≤1000000):Calls Tryz.prog 28 #[v1,v2] w fun e w'=>e=.returned (.bool true)∧Fr No w w':=
 (gsame_ v1 v2 x x w h1 h2 hbig).mono (fun e w' p=>by
   unfold BoolPost at p;simpa using p)
def Later (w:World) (o:Nat→Nat) (w':World):Prop:=∃o',Step (fun _=>False) w o w' o'
theorem stripes_same {l1 l2:List Stp} (n1:l1.Nodup) (n2:l2.Nodup) (p1:l1.Pairwise (fun x y=>stpLe x y=true)) (p2:l2.Pairwise (fun x y=>stpLe x y=true)) (h:∀x,x∈l1↔x∈l2):l1=l2:=by
 refine sorted_eq (r:=fun x y:Stp=>x≠y∧stpLe x y=true) (fun x e=>e.1 rfl) (fun x y e f=> ?_) (n1.and p1) (n2.and p2) h;have h1:=e.2;have h2:=f.2;rw [stpLe_iff,stpO_lt] at h1 h2;apply e.1;obtain ⟨x1,x2,x3⟩:=x;obtain ⟨y1,y2,y3⟩:=y;simp only [Prod.mk.injEq] at h1 h2 ⊢;omega
theorem stateRefuses_ (v1:Value) (L1:List Rq) (w:World) (h1:RqsAt w (fun _=>0) v1 L1) (g1:GoodRqs L1):
  Calls Tryz.prog 9 #[v1] w fun e w'=>e=.returned (.bool true)∧Fr No w w':=by
 have mixed:Tryz.prog.follows .mixedOrders=true:=by kernel_rfl
 obtain ⟨base1,cap1,rfl⟩:=h1.slice;generalize hQ:(fun (e:Ending) (w':World)=>e=.returned (.bool true)∧Fr No w w')=Q;have HQ:Hid (∀w',Fr No w w'→Q (.returned (.bool true)) w'):=lH (fun w' f=>by rw [← hQ];exact ⟨rfl,f⟩);clear hQ;have H1:=lH h1;have G1:=lH g1;clear h1 g1;go_enter Tryz.func9,Tryz.ntmps9;go_wp2_with fail;refine (gawake_ _).mono ?_;rintro e w1 ⟨rfl,f1⟩;have F1:=lH f1;have H11:=lH (H1.out.no (fresh0 _) f1);clear f1 H1;have HA1:=lH (gasks_ (fun _=>0) _ L1 70 w1 (fresh0 w1) H11.out (by omega));unfold BoolPost at HA1;cases hA:decide (L1.length≤70∧∀y∈L1,smallY y) with
 | false=>
  rw [hA] at HA1;clear hA;go_wp2_with fail;refine HA1.out.mono ?_;rintro e w2 ⟨rfl,f2⟩;have F2:=lH (F1.out.trans f2 (fun _ _ e=>e));clear f2;go_wp2_with fail;exact HQ.out _ F2.out
 | true=>
  rw [hA] at HA1;have SM1:=lH (of_decide_eq_true hA);clear hA;go_wp2_with fail;refine HA1.out.mono ?_;rintro e w2 ⟨rfl,f2⟩;have F2:=lH (F1.out.trans f2 (fun _ _ e=>e));have H12:=lH (H11.out.no (fresh0 _) f2);clear f2 H11 F1 HA1;go_wp2_with fail;refine (gstate_new _).mono ?_;rintro e w4 ⟨L,o4,rfl,s4,t4⟩;have F4:=lH (F2.out.trans (s4.fr.mono (fun _ _ e=>e)) (fun _ _ e=>e.elim));have HLE:Hid (∀k,k<w.heap.size→o4 k=0):=lH (fun k hk=>s4.old k (Nat.lt_of_lt_of_le hk F2.out.size));have H14:=lH (H12.out.step s4 id);have LI0:Hid (Lies w4 o4 L 0 InvWin w4):=lH ⟨o4,S0,Step.refl s4.fresh,t4,S0_inv,fun i y h=>(by cases h)⟩;have nos:¬stateC 0 0:=by unfold stateC;omega
  have NOS:=lH nos;have HL70:=lH SM1.out.1;clear s4 t4 H12 F2 nos;go_wp2_with fail;go_loopw [4] (fun a wr=>∃j:Nat,a=.int .i64 j∧j≤L1.length∧Hid (Lies w4 o4 L j InvWin wr)) (fun a _=>L1.length - (intOf a).toNat)
  case atStart=>exact ⟨0,rfl,Nat.zero_le _,LI0⟩
  case round=>
   obtain ⟨j,rfl,hj,HLI⟩:=hrel;obtain ⟨oj,S,sj,tj,ij,pj⟩:=HLI.out;have SJ:=lH sj;have TJ:=lH tj;have IJ:=lH ij;have PJ:=lH pj;have hl70:=HL70.out;clear sj tj ij pj;by_cases hlt:j<L1.length
   ·have q1:(j:Int)<(L1.length:Int):=by omega
    have q3:(0:Int)≤(j:Int):=(by omega)
    have HCL:=lH (gclone_ oj 0 10000 (100*j) (2*j) L S wr TJ.out IJ.out PJ.out SJ.out.fresh (by omega) (by omega));unfold ClonePost at HCL;go_wp2_with fail;refine HCL.out.mono ?_;rintro e w5 ⟨L',o5,rfl,s5,t5⟩;have S5:=lH (SJ.out.trans s5 (fun _ e=>e.elim));have T5:=lH (TJ.out.step IJ.out.ok s5 (fun _ _ e=>e));have TC5:=lH t5;clear s5 t5 HCL TJ SJ HLI;have hne:L1≠ []:=by
     intro e;subst e;simp at hlt
    obtain ⟨b,off,rfl,ho,hbl,hrows⟩:=(H14.out.step S5.out NOS.out).at hne;have hrq0:=hrows j L1[j] (List.getElem?_eq_getElem hlt);obtain ⟨rv,dv,hr1,hr2,hr3⟩:=hrq0;have HSM:=lH (SM1.out.2 L1[j] (List.getElem_mem hlt));have HGD:=lH (G1.out L1[j] (List.getElem_mem hlt));have HO:=lH (show o5 b=0 from ho);generalize L1[j]=y at*;obtain ⟨r,st,dl⟩:=y;dsimp only at hr1 hr2 hr3 HGD;unfold smallY at HSM;dsimp only at HSM;obtain ⟨bs,cs,rfl⟩:=hr2.slice;obtain ⟨bd,cd,rfl⟩:=hr3.slice;have HR1:=lH hr1;have HR3:=lH hr3;have HRQ:=lH (grequest_ o5 r (.slice bs st.length cs) (.slice bd dl.length cd) st w5 S5.out.fresh hr2 ⟨_,_,_,rfl⟩ (by have:=HSM.out.2.2.1;omega));unfold ReqPost at HRQ;unfold Req.cells at HR1 HRQ;clear hrows ho hbl hr1 hr2 hr3;go_wp2_with (refine wpList_load_mid (by rfl) 41 _ (by rfl) b (off+j*14) (by rfl) [.int .i64 r.c,.int .i64 r.l,.int .i64 r.q,.int .i64 r.kind,.string (ba r.path),.string (ba r.to),.bool r.dir,.bool r.wr,.bool r.cl,.int .i64 r.h,.int .i64 r.nx,.int .i64 r.sw,.slice bs st.length cs,.slice bd dl.length cd] _ HR1.out Tryz.underlying41 rfl Tryz.size41 ?_);refine HRQ.out.mono ?_;rintro e wq ⟨rv',rfl,hrq,fq⟩;have TQ:=T5.out.no IJ.out.ok S5.out.fresh fq;have TCQ:=TC5.out.no IJ.out.ok S5.out.fresh fq;have sq:Step (fun _=>False) w5 o5 wq o5:=Step.no S5.out.fresh fq;have SQ:Hid (Step (stateC 0) w4 o4 wq o5):=lH (S5.out.trans sq (fun _ e=>e.elim));have RQ:Hid (wq.rangeAt b (off+j*14) [.int .i64 r.c,.int .i64 r.l,.int .i64 r.q,.int .i64 r.kind,.string (ba r.path),.string (ba r.to),.bool r.dir,.bool r.wr,.bool r.cl,.int .i64 r.h,.int .i64 r.nx,.int .i64 r.sw,.slice bs st.length cs,.slice bd dl.length cd]):=lH (fun a u hu=>fq.cell_of (HR1.out a u hu) id);have HW:=lH (went3 o5 (100*j) (2*j) L S r rv' _ st dl wq TQ IJ.out sq.fresh hrq (HR3.out.no S5.out.fresh fq) HSM.out HGD.out (by omega) (by omega));unfold Went3 at HW;unfold Req.cells at HW;have TCH:=lH TCQ;clear TQ hrq fq TCQ sq T5 TC5 HR3 HRQ;go_wp2_with fail;refine HW.out.mono ?_;rintro e w7 ⟨x,o7,ev,mv,rfl,q1e,q2e,d7,i7,s7,t7⟩;have S7:=lH (SQ.out.trans s7 (fun _ e=>e));have T7:=lH t7;have I7:=lH i7;have P7:=lH (PJ.out.turn (turns_all d7));have TC7:=lH (TCH.out.step IJ.out.ok s7 (fun c h1 h2=>by unfold stateC at h1 h2;omega));have HAL:=lH (refused_alike IJ.out d7)
    have kz:=new_at w7 (.cells #[.int .i64 0,.int .i64 0,.int .i64 0,.int .i64 0,.int .i64 0,.bool false,.slice none 0 0,.slice none 0 0] 29);have K8:=lH (setRow_at (cs':=x.1.cells ev mv) kz);have KZ:=lH kz;have F8:Hid (Fr No w7 ((w7.alloc (.cells #[.int .i64 0,.int .i64 0,.int .i64 0,.int .i64 0,.int .i64 0,.bool false,.slice none 0 0,.slice none 0 0] 29)).setRow w7.heap.size (x.1.cells ev mv))):=lH (Fr.setRow ((Fr.refl (S:=No) w7).alloc _) (.inr (Nat.le_refl _)) _);have HOC:=lH (RepS.cells_one (r:=x.1) q1e q2e);have RQ7:Hid (w7.cell? ⟨b,off+j*14+3,none⟩=some (.int .i64 r.kind)):=lH (s7.fr.cell_of (RQ.out 3 _ rfl) (by rw [HO.out];exact NOS.out));clear d7 i7 s7 t7 kz HW SQ PJ TCH RQ q1e q2e;go_upto_region 13 with (refine wpList_store_row rfl 29 (.tmp 6) (.tmp 37) rfl w7.heap.size (x.1.cells ev mv) rfl rfl 29 _ KZ.out Tryz.size29 rfl HOC.out ?_)
    have z0:((w7.alloc (.cells #[.int .i64 0,.int .i64 0,.int .i64 0,.int .i64 0,.int .i64 0,.bool false,.slice none 0 0,.slice none 0 0] 29)).setRow w7.heap.size (x.1.cells ev mv)).cell? ⟨w7.heap.size,0,none⟩=some (.int .i64 x.1.e):=(by rw [cell_at K8.out];rfl)
    have zk:=F8.out.cell_of RQ7.out id;have S8:=lH (Step.no (C:=fun _=>False) S7.out.fresh F8.out);have T8:=lH (T7.out.step I7.out.ok S8.out (fun _ _ e=>e));have TC8:=lH (TC7.out.step IJ.out.ok S8.out (fun _ _ e=>e));have SW8:=lH (S7.out.trans S8.out (fun _ e=>e.elim));generalize (w7.alloc (.cells #[.int .i64 0,.int .i64 0,.int .i64 0,.int .i64 0,.int .i64 0,.bool false,.slice none 0 0,.slice none 0 0] 29)).setRow w7.heap.size (x.1.cells ev mv)=w8 at*;clear S8 T7 TC7 S7 KZ K8 F8 HOC RQ7;simp only [Act.put];go_cut [7] (fun u wx=>u=.bool (decide (r.kind=4∨r.kind=5∨r.kind=8))∧wx=w8)
    case first=>
     by_cases k4:r.kind=4
     ·have e:decide (r.kind=4∨r.kind=5∨r.kind=8)=true:=decide_eq_true (.inl k4);have qk:(r.kind==4)=true:=(by simpa using k4)
      clear k4;go_wp2_with fail;go_meet;exact ⟨by rw [e],rfl⟩
     ·have qk4:(r.kind==4)=false:=by simpa using k4
      by_cases k5:r.kind=5
      ·have e:decide (r.kind=4∨r.kind=5∨r.kind=8)=true:=decide_eq_true (.inr (.inl k5));have qk:(r.kind==5)=true:=(by simpa using k5)
       clear k4 k5;go_wp2_with fail;go_meet;exact ⟨by rw [e],rfl⟩
      ·have qk5:(r.kind==5)=false:=by simpa using k5
       by_cases k8:r.kind=8
       ·have e:decide (r.kind=4∨r.kind=5∨r.kind=8)=true:=decide_eq_true (.inr (.inr k8));have qk:(r.kind==8)=true:=(by simpa using k8)
        clear k4 k5 k8;go_wp2_with fail;go_meet;exact ⟨by rw [e],rfl⟩
       ·have e:decide (r.kind=4∨r.kind=5∨r.kind=8)=false:=decide_eq_false (by rintro (h|h|h)<;>contradiction);have qk8:(r.kind==8)=false:=(by simpa using k8)
        clear k4 k5 k8;go_wp2_with fail;go_meet;exact ⟨by rw [e],rfl⟩
    case rest=>
     obtain ⟨rfl,rfl⟩:=hcut;obtain ⟨w8,rfl⟩:∃w8:World,w8=wc:=⟨_,rfl⟩
     generalize hask:decide (r.kind=4∨r.kind=5∨r.kind=8)=ask at*;have HAS:=lH hask;clear hask;by_cases hc:x.1.e=0∧ask=false
     ·obtain ⟨hE,rfl⟩:=hc;have qE:(x.1.e==0)=true:=(by rw [hE];rfl)
      have L8:Hid (Lies w4 o4 L (j+1) InvWin w8):=lH ⟨o7,x.2,SW8.out,by
       have:=T8.out;rwa [show 100*j+100=100*(j+1) by omega] at this,by
       have:=I7.out;rwa [show 2*j+2=2*(j+1) by omega] at this,P7.out⟩
      clear hE;go_wp2_with fail;go_roundw
      case rel=>exact ⟨j+1,by go_num,hlt,L8⟩
      case measure=>simp [intOf];omega
     ·obtain ⟨hT,hF,hU,hS,hB⟩:Alike x.2 S:=by
       by_cases hE:x.1.e=0
       ·have h1:ask=true:=by
         cases ask with
         | true=>rfl
         | false=>exact absurd ⟨hE,rfl⟩ hc
        exact HAL.out (.inr (of_decide_eq_true (HAS.out.trans h1)))
       ·exact HAL.out (.inl hE)
      have ZK:=lH zk;go_upto_region 14 with fail
      go_cut [66] (fun u wx=>u=.bool false∧wx=w8)
      case first=>
       by_cases hE:x.1.e=0
       ·have qE:(x.1.e==0)=true:=by rw [hE];rfl
        have h1:ask=true:=by
         cases ask with
         | true=>rfl
         | false=>exact absurd ⟨hE,rfl⟩ hc
        subst h1;clear hE;go_wp2_with fail;go_meet;exact ⟨rfl,rfl⟩
       ·have qE:(x.1.e==0)=false:=by simpa using hE
        clear hE;go_wp2_with fail;go_meet;exact ⟨rfl,rfl⟩
      case rest=>
       obtain ⟨rfl,rfl⟩:=hcut;obtain ⟨w8,rfl⟩:∃w8:World,w8=wc:=⟨_,rfl⟩
       have FR8:=lH SW8.out.fresh;have H31:=lH (gtree_ o7 0 20000 _ L x.2 w8 T8.out I7.out.ok FR8.out);unfold TrClonePost at H31;rw [hT] at H31;have HTT:=lH hT;have HFF:=lH hF;have HUU:=lH hU;have HSS:=lH hS;have HBB:=lH hB;clear hT hF hU hS hB hc z0 zk;go_upto_region 15 with fail
       go_cut [88] (fun u wx=>u=.bool false∧Hid (Later w8 o7 wx))
       case first=>
        go_wp2_with fail;refine H31.out.mono ?_;rintro e w9 ⟨t1,o9,rfl,s9,tr9⟩;have S9:=lH s9;have H33:=lH (gtbytes_ o9 20000 t1 S.T w9 tr9 IJ.out.ok.tree s9.fresh);unfold BytesPost at H33;clear s9 tr9 H31;go_wp2_with fail;refine H33.out.mono ?_;rintro e w10 ⟨v10,b10,c10,rfl,sl10,hb10,f10⟩;obtain rfl:=sl10.1;have S10:=lH (S9.out.frNo f10);have SL10:=lH sl10;have H31:=lH (gtree_ o9 10000 20000 _ L' S w10 (TC8.out.step IJ.out.ok S10.out (fun _ _ e=>e)) IJ.out.ok S10.out.fresh);unfold TrClonePost at H31;clear sl10 hb10 f10 H33;go_wp2_with fail;refine H31.out.mono ?_;rintro e w11 ⟨t2,o11,rfl,s11,tr11⟩;have S11:=lH (S10.out.trans s11 (fun _ e=>e));have SL11:=lH (SL10.out.fr s11.fr id);have H33:=lH (gtbytes_ o11 20000 t2 S.T w11 tr11 IJ.out.ok.tree s11.fresh);unfold BytesPost at H33;clear s11 tr11 H31;go_wp2_with fail;refine H33.out.mono ?_;rintro e w12 ⟨v12,b12,c12,rfl,sl12,hb12,f12⟩;obtain rfl:=sl12.1;have S12:=lH (S11.out.frNo f12);have H28:=lH (same_self _ _ (treeB S.T) w12 (SL11.out.fr f12 id).slAt sl12.slAt (Nat.le_trans (treeB_len IJ.out.ok.tree) (by omega)));clear sl12 hb12 f12 H33;go_wp2_with fail;refine H28.out.mono ?_;rintro e w13 ⟨rfl,f13⟩;have S13:=lH (S12.out.frNo f13);have T13:=lH (T8.out.step I7.out.ok S13.out (fun _ _ e=>e));have TC13:=lH (TC8.out.step IJ.out.ok S13.out (fun _ _ e=>e));have A1:=lH (gswaps_ o11 0 _ L x.2 w13 T13.out);have A2:=lH (gswaps_ o11 10000 _ L' S w13 TC13.out);have A3:=lH (gboots_ o11 0 _ L x.2 w13 T13.out);have A4:=lH (gboots_ o11 10000 _ L' S w13 TC13.out);rw [HSS.out] at A1;rw [HBB.out] at A3;go_wp2_with fail;refine A1.out.mono ?_;rintro e w14 ⟨rfl,rfl⟩;go_wp2_with fail;refine A2.out.mono ?_;rintro e w14 ⟨rfl,rfl⟩;go_wp2_with fail;refine A3.out.mono ?_;rintro e w14 ⟨rfl,rfl⟩;go_wp2_with fail;refine A4.out.mono ?_;rintro e w14 ⟨rfl,rfl⟩;go_wp2_with fail;go_meet;exact ⟨rfl,lH ⟨_,S13.out⟩⟩
       case rest=>
        obtain ⟨rfl,hcut⟩:=hcut;obtain ⟨o11,s13⟩:=hcut.out;obtain ⟨w13,rfl⟩:∃w13:World,w13=wc:=⟨_,rfl⟩
        have S13:=lH s13;clear s13 hcut H31;have H27:=lH (gstripes_ o11 0 _ L x.2 w13 (T8.out.step I7.out.ok S13.out (fun _ _ e=>e)) S13.out.fresh (by omega));unfold StripesPost at H27;rw [HUU.out] at H27;go_wp2_with fail;refine H27.out.mono ?_;rintro e w15 ⟨v15,ss,rfl,rn15,nd15,mem15,pw15,f15⟩;obtain ⟨a15,c15,hv15⟩:=rn15.shape;subst hv15;have S15:=lH (S13.out.frNo f15);have RN15:=lH rn15;have ND:=lH nd15;have MEM:=lH mem15;have PW:=lH pw15;have H27:=lH (gstripes_ o11 10000 _ L' S w15 (TC8.out.step IJ.out.ok S15.out (fun _ _ e=>e)) S15.out.fresh (by omega));unfold StripesPost at H27;clear rn15 nd15 mem15 pw15 f15;go_wp2_with fail;refine H27.out.mono ?_;rintro e w16 ⟨v16,ss2,rfl,rn16,nd16,mem16,pw16,f16⟩;obtain rfl:ss2=ss:=stripes_same nd16 ND.out pw16 PW.out (fun x=>(mem16 x).trans (MEM.out x).symm);obtain ⟨a16,c16,hv16⟩:=rn16.shape;subst hv16;have S16:=lH (S15.out.frNo f16);have R15:=lH (RN15.out.fr f16 (fun _ _ e=>e));have R16:=lH rn16;clear rn16 nd16 mem16 pw16 f16 H27 RN15 ND MEM PW;have LI16:Hid (Fr No w16 w16):=lH (Fr.refl _);go_wp2_with fail;go_loopw [10] (fun a wr=>∃k:Nat,a=.int .i64 k∧k≤ss2.length∧Hid (Fr No w16 wr)) (fun a _=>ss2.length - (intOf a).toNat)
        case atStart=>exact ⟨0,rfl,Nat.zero_le _,LI16⟩
        case round=>
         obtain ⟨k,rfl,hk,HFK⟩:=hrel;by_cases hlk:k<ss2.length
         ·have q5:(k:Int)<(ss2.length:Int):=by omega
          have q6:(0:Int)≤(k:Int):=(by omega)
          obtain ⟨b15,rfl,hm15,_,hr15⟩:=R15.out.at (by omega);obtain ⟨b16,rfl,hm16,_,hr16⟩:=R16.out.at (by omega);have hkk:ss2[k]? =some ss2[k]:=List.getElem?_eq_getElem hlk;have e15:wr.rangeAt b15 (k*6) _:=fun a u hu=>HFK.out.cell_of (hr15.row k _ hkk a u hu) id;have e16:wr.rangeAt b16 (k*6) _:=fun a u hu=>HFK.out.cell_of (hr16.row k _ hkk a u hu) id;have hlen15:=hr15.len;have hlen16:=hr16.len;have hm15':c15≤9223372036854775807:=hm15;have hm16':c16≤9223372036854775807:=hm16;unfold useC at e15 e16;generalize ss2[k].1=a1 at e15 e16;generalize ss2[k].2.1=a2 at e15 e16;generalize ss2[k].2.2=a3 at e15 e16;generalize ((S.U ss2[k]).getD (0,0,0)).1=a4 at e15 e16;generalize ((S.U ss2[k]).getD (0,0,0)).2.1=a5 at e15 e16;generalize ((S.U ss2[k]).getD (0,0,0)).2.2=a6 at e15 e16;have y150:wr.cell? ⟨b15,k*6,none⟩=_:=e15 0 _ rfl;have y151:=e15 1 _ rfl;have y152:=e15 2 _ rfl;have y153:=e15 3 _ rfl;have y154:=e15 4 _ rfl;have y155:=e15 5 _ rfl;have y160:wr.cell? ⟨b16,k*6,none⟩=_:=e16 0 _ rfl;have y161:=e16 1 _ rfl;have y162:=e16 2 _ rfl;have y163:=e16 3 _ rfl;have y164:=e16 4 _ rfl;have y165:=e16 5 _ rfl;have n80:=fun W=>neq80 a1 a2 a3 a4 a5 a6 W;clear hr15 hr16 e15 e16;go_wp2_with fail;go_region_held3 (fun w'=>w'.cell? ⟨b15,k*6,none⟩=some (.int .i64 a1)∧w'.cell? ⟨b15,k*6+1,none⟩=some (.int .i64 a2)∧w'.cell? ⟨b15,k*6+2,none⟩=some (.int .i64 a3)∧w'.cell? ⟨b15,k*6+3,none⟩=some (.int .i64 a4)∧w'.cell? ⟨b15,k*6+4,none⟩=some (.int .i64 a5)∧w'.cell? ⟨b15,k*6+5,none⟩=some (.int .i64 a6)∧w'.cell? ⟨b16,k*6,none⟩=some (.int .i64 a1)∧w'.cell? ⟨b16,k*6+1,none⟩=some (.int .i64 a2)∧w'.cell? ⟨b16,k*6+2,none⟩=some (.int .i64 a3)∧w'.cell? ⟨b16,k*6+3,none⟩=some (.int .i64 a4)∧w'.cell? ⟨b16,k*6+4,none⟩=some (.int .i64 a5)∧w'.cell? ⟨b16,k*6+5,none⟩=some (.int .i64 a6)) (go_keep) (fail);have HD:=lH HFK.out.drew;go_wp2_with fail;go_roundw
          case rel=>exact ⟨k+1,by go_num,hlk,HD⟩
          case measure=>simp [intOf];omega
         ·obtain rfl:k=ss2.length:=by omega
          have q7:¬(ss2.length:Int)<(ss2.length:Int):=(by omega)
          have SR:=lH (S16.out.frNo HFK.out);have H31:=lH (gtree_ o11 0 20000 _ L x.2 wr (T8.out.step I7.out.ok SR.out (fun _ _ e=>e)) I7.out.ok SR.out.fresh);unfold TrClonePost at H31;rw [HTT.out] at H31;go_wp2_with fail;refine H31.out.mono ?_;rintro e w17 ⟨t3,o17,rfl,s17,tr17⟩;have S17:=lH (SR.out.trans s17 (fun _ e=>e));have H32:=lH (gtinos_ o17 20000 t3 S.T w17 tr17 IJ.out.ok.tree);unfold NumsPost at H32;have HNN:Hid (∀k∈numsOf (fun k=>(S.T k).isSome),k≤1000000):=lH (fun k hk=>by
           unfold numsOf at hk;have:=List.mem_range.1 (List.mem_filter.1 hk).1;omega)
          generalize numsOf (fun k=>(S.T k).isSome)=NN at*;clear s17 tr17 H31 SR R15 R16;go_wp2_with fail;refine H32.out.mono ?_;rintro e w18 ⟨v18,rfl,rn18,f18⟩;obtain ⟨a18,c18,hv18⟩:=rn18.shape;rw [List.length_map] at hv18;subst hv18;have S18:=lH (S17.out.frNo f18);have R18:=lH rn18;have LI18:Hid (Fr No w18 w18):=lH (Fr.refl _);clear rn18 f18 H32 S17 S16;go_wp2_with fail;go_loopw [12] (fun a wr=>∃k:Nat,a=.int .i64 k∧k≤NN.length∧Hid (Fr No w18 wr)) (fun a _=>NN.length - (intOf a).toNat)
          case atStart=>exact ⟨0,rfl,Nat.zero_le _,LI18⟩
          case round=>
           obtain ⟨k,rfl,hk,HFK⟩:=hrel;by_cases hlk:k<NN.length
           ·have q8:(k:Int)<(NN.length:Int):=by omega
            have q9:(0:Int)≤(k:Int):=(by omega)
            obtain ⟨b18,rfl,hm18,_,hr18⟩:=R18.out.at (by rw [List.length_map];omega);have k1:=HFK.out.cell_of (numC_at hr18 hlk) id;have hlen18:=hr18.len;rw [List.length_map] at hlen18;have hm18':c18≤9223372036854775807:=hm18;have q10:(k:Int)<(c18:Int):=(by omega)
            have hi18:=HNN.out NN[k] (List.getElem_mem hlk);generalize NN[k]=iN at*;have SK:=lH (S18.out.frNo HFK.out);have HM1:Hid (∀W,Fr No wr W→Calls Tryz.prog 26 #[.pointer (some ⟨L.s,0,none⟩),.int .i64 iN] W (MapPost W (S.F iN))):=lH (fun W f=>by
             have s:=SK.out.frNo f;have:=gmap_ o17 0 _ L x.2 iN W (T8.out.step I7.out.ok s (fun _ _ e=>e)) I7.out.ok hi18;rwa [HFF.out] at this)
            have HM2:Hid (∀W,Fr No wr W→Calls Tryz.prog 26 #[.pointer (some ⟨L'.s,0,none⟩),.int .i64 iN] W (MapPost W (S.F iN))):=lH (fun W f=>by
             have s:=SK.out.frNo f;exact gmap_ o17 10000 _ L' S iN W (TC8.out.step IJ.out.ok s (fun _ _ e=>e)) IJ.out.ok hi18)
            have fz:Fr No wr wr.drew:=(Fr.refl (S:=No) wr).drew;have HEND:Hid (∀W,Fr No wr W→Fr No w18 W):=lH (fun W f=>HFK.out.trans f (fun _ _ e=>e));clear hr18;cases hFi:S.F iN with
            | none=>
             rw [hFi] at HM1 HM2;unfold MapPost at HM1 HM2;dsimp only at HM1 HM2;clear hFi;go_wp2_with fail;go_region_held3 (fun w'=>w'.cell? ⟨b18,k,none⟩=some (.int .i64 iN)) (first|go_keep|exact f26.cell_of (by assumption) id)
              (first
              | (go_at_call 26;with_reducible refine (HM1.out _ fz).mono ?_;rintro e w26 ⟨rfl,rfl⟩)
              | (go_at_call 26;with_reducible refine (HM2.out _ fz).mono ?_;rintro e w26 ⟨rfl,rfl⟩))
             all_goals
              have HF:=lH (HEND.out _ fz);go_wp2_with fail;go_roundw
              case rel=>exact ⟨k+1,by go_num,hlk,HF⟩
              case measure=>simp [intOf];omega
            | some mF=>
             rw [hFi] at HM1 HM2;unfold MapPost at HM1 HM2;dsimp only at HM1 HM2;unfold FilePost at HM1 HM2;have HFIT:=lH (map_fits (IJ.out.ok.file iN mF hFi).2.2 (IJ.out.pts iN mF hFi)).1;have HLEN:=lH (map_fits (IJ.out.ok.file iN mF hFi).2.2 (IJ.out.pts iN mF hFi)).2;have hbig:Hid ((mapB mF).length≤1000000):=lH (by have:=HLEN.out;omega);clear hFi;go_wp2_with fail;go_region_held3 (fun w'=>w'.cell? ⟨b18,k,none⟩=some (.int .i64 iN)) (first|go_keep|exact f26.cell_of (by assumption) id|exact f27.cell_of (by assumption) id)
              (first
              | (go_at_call 26;with_reducible refine (HM1.out _ fz).mono ?_;rintro e w26 ⟨p26,rfl,fr26,f26⟩;have fz:=fz.trans f26 (fun _ _ e=>e))
              | (go_at_call 26;with_reducible refine (HM2.out _ fz).mono ?_;rintro e w27 ⟨p27,rfl,fr27,f27⟩;have fz:=fz.trans f27 (fun _ _ e=>e);have fr26:=fr26.fr f27))
             all_goals
              have H25:=lH (gbytes_ p26 mF _ fr26 HFIT.out);unfold BytesPost at H25;go_wp2_with fail;refine H25.out.mono ?_;rintro e w28 ⟨v28,b28,c28,rfl,sl28,hb28,f28⟩;obtain rfl:=sl28.1;have fz:=fz.trans f28 (fun _ _ e=>e);have H25:=lH (gbytes_ p27 mF _ (fr27.fr f28) HFIT.out);unfold BytesPost at H25;go_wp2_with fail;refine H25.out.mono ?_;rintro e w29 ⟨v29,b29,c29,rfl,sl29,hb29,f29⟩;obtain rfl:=sl29.1;have fz:=fz.trans f29 (fun _ _ e=>e);have H28:=lH (same_self _ _ (mapB mF) w29 (sl28.fr f29 id).slAt sl29.slAt hbig.out);go_wp2_with fail;refine H28.out.mono ?_;rintro e w30 ⟨rfl,f30⟩;have fz:=fz.trans f30 (fun _ _ e=>e);have HF:=lH (HEND.out _ fz);go_wp2_with fail;go_roundw
              case rel=>exact ⟨k+1,by go_num,hlk,HF⟩
              case measure=>simp [intOf];omega
           ·obtain rfl:k=NN.length:=by omega
            have q9:¬(NN.length:Int)<(NN.length:Int):=(by omega)
            have s18:=S18.out.frNo HFK.out;have SW18:=lH (SW8.out.trans s18 (fun _ e=>e.elim));have T18:=lH (T8.out.step I7.out.ok s18 (fun _ _ e=>e));have L8:Hid (Lies w4 o4 L (j+1) InvWin wr):=lH ⟨o17,x.2,SW18.out,by
             have:=T18.out;rwa [show 100*j+100=100*(j+1) by omega] at this,by
             have:=I7.out;rwa [show 2*j+2=2*(j+1) by omega] at this,P7.out⟩
            clear s18;go_wp2_with fail;go_roundw
            case rel=>exact ⟨j+1,by go_num,hlt,L8⟩
            case measure=>simp [intOf];omega
   ·have q1:¬(j:Int)<(L1.length:Int):=by omega
    have FB:=lH (HLI.out.fr F4.out HLE.out);go_wp2_with fail;exact HQ.out _ FB.out
end Go.Proofs.YtlcojhddnpmgmaaGreat
