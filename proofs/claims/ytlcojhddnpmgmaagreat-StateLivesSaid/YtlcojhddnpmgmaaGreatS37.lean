/- Part of the proof; the last text says what is proved. -/
import Derived.Test.YtlcojhddnpmgmaaGreatS24
import Derived.Test.YtlcojhddnpmgmaaGreatS36
set_option linter.unusedSimpArgs false
set_option linter.unusedVariables false
set_option maxRecDepth 100000
set_option maxHeartbeats 6400000
namespace Go.Proofs.YtlcojhddnpmgmaaGreat
open Go.RowKit
theorem neq53 (a b c a' b' c':Int) (d d':Bool) (w:World):(binOp .neq 53 (.agg #[.int .i64 a,.int .i64 b,.int .i64 c,.bool d]) (.agg #[.int .i64 a',.int .i64 b',.int .i64 c',.bool d'])).run Tryz.prog w=.ok (.bool (!(a==a'&&b==b'&&c==c'&&d==d'))) w:=by
 have h:=eql53 a b c a' b' c' d d' w;rw [run_neq_struct];rw [run_eql_struct] at h;generalize (Op.equalIn 10000 53 (.agg #[.int .i64 a,.int .i64 b,.int .i64 c,.bool d]) (.agg #[.int .i64 a',.int .i64 b',.int .i64 c',.bool d'])).run Tryz.prog w=r at*;generalize (a==a'&&b==b'&&c==c'&&d==d')=x at*;cases r with
 | ok b w'=>
  have h2:Result.ok (Value.bool b) w'=Result.ok (Value.bool x) w:=h;cases h2;rfl
 | _=>cases h
theorem stripes_same {l1 l2:List Stp} (n1:l1.Nodup) (n2:l2.Nodup) (p1:l1.Pairwise (fun x y=>stpLe x y=true)) (p2:l2.Pairwise (fun x y=>stpLe x y=true)) (h:∀x,x∈l1↔x∈l2):l1=l2:=by
 refine sorted_eq (r:=fun x y:Stp=>x≠y∧stpLe x y=true) (fun x e=>e.1 rfl) (fun x y e f=> ?_) (n1.and p1) (n2.and p2) h;have h1:=e.2;have h2:=f.2;rw [stpLe_iff,stpO_lt] at h1 h2;apply e.1;obtain ⟨x1,x2,x3⟩:=x;obtain ⟨y1,y2,y3⟩:=y;simp only [Prod.mk.injEq] at h1 h2 ⊢;omega
theorem StpsOf.same {U:Stp→Option Us} {l1 l2:List Stp} (h:StpsOf U l1) (g:StpsOf U l2):l1=l2:=stripes_same h.1 g.1 h.2.2 g.2.2 (fun x=>(h.2.1 x).trans (g.2.1 x).symm)
theorem StInv.lens {S:St} {q:Nat} (h:StInv S q):∀i life seq bs,S.W i=some (life,seq,bs)→bs.length≤1000000:=fun i life seq bs hi=>by
 obtain ⟨rep,hk,_,_,e⟩:=h.win i _ hi;have e:bs=rep.bytes:=e;rw [e];have:=hk.len;omega
theorem stateLives_ (v1:Value) (L1:List Rq) (n:Nat) (w:World) (h1:RqsAt w (fun _=>0) v1 L1) (g1:GoodRqs L1) (hn:n<256):
  Calls Tryz.prog 10 #[v1,.int .u8 n] w fun e w'=>e=.returned (.bool true)∧Fr No w w':=by
 have mixed:Tryz.prog.follows .mixedOrders=true:=by kernel_rfl
 obtain ⟨base1,cap1,rfl⟩:=h1.slice;generalize hQ:(fun (e:Ending) (w':World)=>e=.returned (.bool true)∧Fr No w w')=Q;have HQ:Hid (∀w',Fr No w w'→Q (.returned (.bool true)) w'):=lH (fun w' f=>by rw [← hQ];exact ⟨rfl,f⟩);clear hQ;have H1:=lH h1;have G1:=lH g1;clear h1 g1;go_enter Tryz.func10,Tryz.ntmps10;go_wp2_with fail;refine (gawake_ _).mono ?_;rintro e w1 ⟨rfl,f1⟩;have F1:=lH f1;have H11:=lH (H1.out.no (fresh0 _) f1);clear f1 H1;have HA1:=lH (gasks_ (fun _=>0) _ L1 60 w1 (fresh0 w1) H11.out (by omega));unfold BoolPost at HA1;cases hA:decide (L1.length≤60∧∀y∈L1,smallY y) with
 | false=>
  rw [hA] at HA1;clear hA;go_wp2_with fail;refine HA1.out.mono ?_;rintro e w2 ⟨rfl,f2⟩;have F2:=lH (F1.out.trans f2 (fun _ _ e=>e));clear f2;go_wp2_with fail;exact HQ.out _ F2.out
 | true=>
  rw [hA] at HA1;have SM1:=lH (of_decide_eq_true hA);clear hA;go_wp2_with fail;refine HA1.out.mono ?_;rintro e w2 ⟨rfl,f2⟩;have F2:=lH (F1.out.trans f2 (fun _ _ e=>e));have H12:=lH (H11.out.no (fresh0 _) f2);clear f2 H11 F1 HA1;go_wp2_with fail;refine (gstate_new _).mono ?_;rintro e w4 ⟨L,o4,rfl,s4,t4⟩;have F4:=lH (F2.out.trans (s4.fr.mono (fun _ _ e=>e)) (fun _ _ e=>e.elim));have HLE:Hid (∀k,k<w.heap.size→o4 k=0):=lH (fun k hk=>s4.old k (Nat.lt_of_lt_of_le hk F2.out.size));have H14:=lH (H12.out.step s4 id);have LI0:Hid (Lies w4 o4 L 0 InvWin w4):=lH ⟨o4,S0,Step.refl s4.fresh,t4,S0_inv,fun i y h=>(by cases h)⟩;have nos:¬stateC 0 0:=by unfold stateC;omega
  have NOS:=lH nos;have HL60:=lH SM1.out.1;clear s4 t4 H12 F2 nos;go_wp2_with fail;go_loopw [6] (fun a wr=>∃j:Nat,a=.int .i64 j∧j≤L1.length∧Hid (Lies w4 o4 L j InvWin wr)) (fun a _=>L1.length - (intOf a).toNat)
  case atStart=>exact ⟨0,rfl,Nat.zero_le _,LI0⟩
  case round=>
   obtain ⟨j,rfl,hj,HLI⟩:=hrel;obtain ⟨oj,S,sj,tj,ij,pj⟩:=HLI.out;have SJ:=lH sj;have TJ:=lH tj;have IJ:=lH ij;have PJ:=lH pj;have hl60:=HL60.out;clear sj tj ij pj;by_cases hlt:j<L1.length
   ·have q1:(j:Int)<(L1.length:Int):=by omega
    have q3:(0:Int)≤(j:Int):=(by omega)
    have hne:L1≠ []:=by
     intro e;subst e;simp at hlt
    obtain ⟨b,off,rfl,ho,hbl,hrows⟩:=(H14.out.step SJ.out NOS.out).at hne;have hrq0:=hrows j L1[j] (List.getElem?_eq_getElem hlt);obtain ⟨rv,dv,hr1,hr2,hr3⟩:=hrq0;have HSM:=lH (SM1.out.2 L1[j] (List.getElem_mem hlt));have HGD:=lH (G1.out L1[j] (List.getElem_mem hlt));generalize L1[j]=y at*;obtain ⟨r,st,dl⟩:=y;dsimp only at hr1 hr2 hr3 HGD;unfold smallY at HSM;dsimp only at HSM;obtain ⟨bs,cs,rfl⟩:=hr2.slice;obtain ⟨bd,cd,rfl⟩:=hr3.slice;have HR1:=lH hr1;have HR3:=lH hr3;have HRQ:=lH (grequest_ oj r (.slice bs st.length cs) (.slice bd dl.length cd) st wr SJ.out.fresh hr2 ⟨_,_,_,rfl⟩ (by have:=HSM.out.2.2.1;omega));unfold ReqPost at HRQ;unfold Req.cells at HR1 HRQ;clear hrows ho hbl hr1 hr2 hr3;go_wp2_with (refine wpList_load_mid (by rfl) 41 _ (by rfl) b (off+j*14) (by rfl) [.int .i64 r.c,.int .i64 r.l,.int .i64 r.q,.int .i64 r.kind,.string (ba r.path),.string (ba r.to),.bool r.dir,.bool r.wr,.bool r.cl,.int .i64 r.h,.int .i64 r.nx,.int .i64 r.sw,.slice bs st.length cs,.slice bd dl.length cd] _ HR1.out Tryz.underlying41 rfl Tryz.size41 ?_);refine HRQ.out.mono ?_;rintro e wq ⟨rv',rfl,hrq,fq⟩;have TQ:=TJ.out.no IJ.out.ok SJ.out.fresh fq;have sq:Step (fun _=>False) wr oj wq oj:=Step.no SJ.out.fresh fq;have SQ:Hid (Step (stateC 0) w4 o4 wq oj):=lH (SJ.out.trans sq (fun _ e=>e.elim));have HW:=lH (wentK oj 0 (100*j) (2*j) L S r rv' _ st dl wq TQ IJ.out sq.fresh hrq (HR3.out.no SJ.out.fresh fq) HSM.out HGD.out (by omega) (by omega));unfold WentK at HW;unfold Req.cells at HW;clear TQ hrq fq sq HR3 HRQ;go_wp2_with fail;refine HW.out.mono ?_;rintro e w7 ⟨x,o7,ev,mv,rfl,q1e,q2e,d7,i7,s7,t7⟩;have L8:Hid (Lies w4 o4 L (j+1) InvWin w7):=lH ⟨o7,x.2,SQ.out.trans s7 (fun _ e=>e),by
     rwa [show 100*j+100=100*(j+1) by omega] at t7,by
     rwa [show 2*j+2=2*(j+1) by omega] at i7,PJ.out.turn (turns_all d7)⟩
    clear d7 i7 s7 t7 HW SQ q1e q2e;go_wp2_with fail;go_roundw
    case rel=>exact ⟨j+1,by go_num,hlt,L8⟩
    case measure=>simp [intOf];omega
   ·have q1:¬(j:Int)<(L1.length:Int):=by omega
    obtain ⟨c,hc4,hcn⟩:∃c:Nat,c<4∧(n:Int) % 4=(c:Int):=⟨n % 4,Nat.mod_lt _ (by decide),by omega⟩
    have htm:Int.tmod (n:Int) 4=(c:Int):=(by rw [Int.tmod_eq_emod_of_nonneg (by omega)];exact hcn)
    have HC4:=lH hc4;have HK22:=lH (gtokens_ oj 0 _ L S wr TJ.out (by have:=IJ.out.few;omega));unfold RowPost at HK22;have HFR:Hid (∀k,wr.heap.size≤k→oj k=0):=lH SJ.out.fresh;clear hc4 HLI H14;go_wp2_with fail;refine HK22.out.mono ?_;rintro e w8 ⟨v8,rfl,rn8,f8⟩;obtain ⟨a8,c8,hv8⟩:=rn8.shape;subst hv8;have RN8:=lH rn8;have S8:=lH (SJ.out.trans (Step.no (C:=fun _=>False) SJ.out.fresh f8) (fun _ e=>e.elim));have T8:=lH (TJ.out.no IJ.out.ok SJ.out.fresh f8);have HLF:=lH (glifeS_ oj 0 _ L S (c:Int) w8 T8.out);have HL1:Hid (-1≤lifeS S (c:Int)∧lifeS S (c:Int)≤1048576):=lH (by
     unfold lifeS lifeOf;rw [if_neg (by have:=HC4.out;omega),if_pos (by have:=HC4.out;omega),Int.toNat_natCast];cases hW:S.W c with
     | none=>dsimp only;omega
     | some y=>
      have:=PJ.out c y hW;obtain ⟨y1,y2⟩:=y;dsimp only at this ⊢;omega)
    have HLS:Hid (∀x,x=lifeS S (c:Int)→x=lifeS S (c:Int)):=lH (fun _ h=>h);generalize hl0:lifeS S (c:Int)=l0 at*;have HL0:=lH hl0;clear hl0 rn8 f8 HK22 SJ TJ HLS;have hl1:=HL1.out;by_cases hmx:1048576≤l0
    ·have FB:Hid (Fr No w w8):=lH (F4.out.trans S8.out.fr (fun k hk e=>by
      rw [HLE.out k hk] at e;unfold stateC at e;omega))
     go_wp2_with fail;refine HLF.out.mono ?_;rintro e wy ⟨rfl,rfl⟩;go_wp2_with fail;exact HQ.out _ FB.out
    ·have hwr:IntKind.i64.wrap (l0+1)=l0+1:=by rw [IntKind.wrap_i64];omega
     have hbd:∀W:World,(Instr.build 41 #[(1,.int .i64 4),(2,.string ⟨#[47]⟩)]).run Tryz.prog W=.ok (.agg #[.int .i64 0,.int .i64 0,.int .i64 0,.int .i64 4,.string ⟨#[47]⟩,.string ⟨#[]⟩,.bool false,.bool false,.bool false,.int .i64 0,.int .i64 0,.int .i64 0,.slice none 0 0,.slice none 0 0]) W:=fun W=>by kernel_rfl
     go_wp2_with fail;refine HLF.out.mono ?_;rintro e wy ⟨rfl,rfl⟩;go_upto_region 18 with fail
     have kg:=new_at wy (.cells #[.int .i64 0,.int .i64 0,.int .i64 0,.int .i64 4,.string ⟨#[47]⟩,.string ⟨#[]⟩,.bool false,.bool false,.bool false,.int .i64 0,.int .i64 0,.int .i64 0,.slice none 0 0,.slice none 0 0] 41);have fg:Fr No wy (wy.alloc (.cells #[.int .i64 0,.int .i64 0,.int .i64 0,.int .i64 4,.string ⟨#[47]⟩,.string ⟨#[]⟩,.bool false,.bool false,.bool false,.int .i64 0,.int .i64 0,.int .i64 0,.slice none 0 0,.slice none 0 0] 41)):=(Fr.refl wy).alloc _;have hgl:wy.heap.size<(wy.alloc (.cells #[.int .i64 0,.int .i64 0,.int .i64 0,.int .i64 4,.string ⟨#[47]⟩,.string ⟨#[]⟩,.bool false,.bool false,.bool false,.int .i64 0,.int .i64 0,.int .i64 0,.slice none 0 0,.slice none 0 0] 41)).heap.size:=(by rw [heap_size_alloc];omega)
     generalize wy.alloc (.cells #[.int .i64 0,.int .i64 0,.int .i64 0,.int .i64 4,.string ⟨#[47]⟩,.string ⟨#[]⟩,.bool false,.bool false,.bool false,.int .i64 0,.int .i64 0,.int .i64 0,.slice none 0 0,.slice none 0 0] 41)=w21 at*;have g0:w21.cell? ⟨wy.heap.size,0,none⟩=some (.int .i64 0):=(by rw [cell_at kg];rfl)
     have g1:w21.cell? ⟨wy.heap.size,1,none⟩=some (.int .i64 0):=(by rw [cell_at kg];rfl)
     have g2:w21.cell? ⟨wy.heap.size,2,none⟩=some (.int .i64 0):=(by rw [cell_at kg];rfl)
     have gz:=fun j=>frozen_at kg j;have KG:Hid ((((w21.setCell ⟨wy.heap.size,0,none⟩ (.int .i64 (c:Int))).setCell ⟨wy.heap.size,1,none⟩ (.int .i64 (l0+1))).setCell ⟨wy.heap.size,2,none⟩ (.int .i64 1)).heap[wy.heap.size]? =some (.cells #[.int .i64 (c:Int),.int .i64 (l0+1),.int .i64 1,.int .i64 4,.string ⟨#[47]⟩,.string ⟨#[]⟩,.bool false,.bool false,.bool false,.int .i64 0,.int .i64 0,.int .i64 0,.slice none 0 0,.slice none 0 0] 41 (0,0))):=lH (by
      have h1:=setCell_at (setCell_at (setCell_at kg 0 (.int .i64 (c:Int))) 1 (.int .i64 (l0+1))) 2 (.int .i64 1);simpa using h1)
     have FG:Hid (Fr No wy (((w21.setCell ⟨wy.heap.size,0,none⟩ (.int .i64 (c:Int))).setCell ⟨wy.heap.size,1,none⟩ (.int .i64 (l0+1))).setCell ⟨wy.heap.size,2,none⟩ (.int .i64 1))):=lH (Fr.setCell (Fr.setCell (Fr.setCell fg (.inr (Nat.le_refl _)) _) (.inr (Nat.le_refl _)) _) (.inr (Nat.le_refl _)) _);clear kg fg hbd;go_upto_region 19 with fail
     generalize ((w21.setCell ⟨wy.heap.size,0,none⟩ (.int .i64 (c:Int))).setCell ⟨wy.heap.size,1,none⟩ (.int .i64 (l0+1))).setCell ⟨wy.heap.size,2,none⟩ (.int .i64 1)=w22 at*;have HGF:Hid (oj wy.heap.size=0):=lH (S8.out.fresh _ (Nat.le_refl _));have HGWN:Hid (w.heap.size≤wy.heap.size):=lH (Nat.le_trans F4.out.size S8.out.fr.size);have hgl2:=lt_of_block KG.out;generalize wy.heap.size=g at*;clear g0 g1 g2 gz hgl;have S22:=lH (S8.out.trans (Step.no (C:=fun _=>False) S8.out.fresh FG.out) (fun _ e=>e.elim));have T22:=lH (T8.out.no IJ.out.ok S8.out.fresh FG.out);have RN22:=lH (RN8.out.fr FG.out (fun _ _ e=>e));have ZG:Hid (Zero w22 oj g (.cells #[.int .i64 (c:Int),.int .i64 (l0+1),.int .i64 1,.int .i64 4,.string ⟨#[47]⟩,.string ⟨#[]⟩,.bool false,.bool false,.bool false,.int .i64 0,.int .i64 0,.int .i64 0,.slice none 0 0,.slice none 0 0] 41 (0,0))):=lH ⟨KG.out,HGF.out⟩;have RST:∀W o,RowsAt szC 4 W o (.slice none 0 0) []:=fun W o=>⟨none,0,rfl,fun h=>absurd rfl h⟩;have RDL:∀W o,RowsAt dlC 14 W o (.slice none 0 0) []:=fun W o=>⟨none,0,rfl,fun h=>absurd rfl h⟩;have HRQ:=lH (grequest_ oj ⟨(c:Int),l0+1,1,4, [47], [],false,false,false,0,0,0⟩ (.slice none 0 0) (.slice none 0 0) [] w22 S22.out.fresh (RST _ _) ⟨_,_,_,rfl⟩ (by simp));unfold ReqPost Req.cells at HRQ;dsimp only at HRQ;have HRST:=lH RST;have HRDL:=lH RDL;clear S8 T8 RN8 FG RST RDL hgl2 HGF;go_wp2_with (refine wpList_load_row rfl 41 (.tmp 10) rfl g rfl 41 _ (0,0) _ KG.out Tryz.underlying41 rfl Tryz.size41 ?_);refine HRQ.out.mono ?_;rintro e wq ⟨rv',rfl,hrq,fq⟩;have TQ:=T22.out.no IJ.out.ok S22.out.fresh fq;have sq:Step (fun _=>False) w22 oj wq oj:=Step.no S22.out.fresh fq;have SQ:Hid (Step (stateC 0) w4 o4 wq oj):=lH (S22.out.trans sq (fun _ e=>e.elim));have HW:=lH (wentK oj 0 (100*j) (2*j) L S ⟨(c:Int),l0+1,1,4, [47], [],false,false,false,0,0,0⟩ rv' _ [] [] wq TQ IJ.out sq.fresh hrq (HRDL.out _ _) ⟨by simp,by simp,by simp,by simp⟩ (fun s hs=>by cases hs) (by omega) (by omega));unfold WentK Req.cells at HW;dsimp only at HW;have RNQ:=lH (RN22.out.fr fq (fun _ _ e=>e));have ZGQ:=lH (ZG.out.no fq);clear TQ hrq fq sq HRQ S22 T22 RN22 ZG KG;go_wp2_with fail;refine HW.out.mono ?_;rintro e w7 ⟨x,o7,ev,mv,rfl,q1e,q2e,d7,i7,s7,t7⟩
     obtain ⟨hKf,bs1,hWf⟩:=lives_first PJ.out d7 ⟨by dsimp only;omega,by dsimp only;have:=HC4.out;omega⟩ (by dsimp only;rw [HL0.out]) (by dsimp only;omega) rfl rfl;dsimp only at hKf hWf;have nosS:¬stateC 0 0:=NOS.out;have S7:=lH (SQ.out.trans s7 (fun _ e=>e));have T7:=lH t7;have I7:=lH i7;have ZG7:=lH (ZGQ.out.step s7 nosS);have R7:=lH (RNQ.out.fr s7.fr (fun k hk e=>by
      rw [HFR.out k hk] at e;exact NOS.out e))
     have HWF:=lH hWf;have HOLD:Hid (∀k,k<w.heap.size→o7 k=0):=lH (fun k hk=>(S7.out.old k (Nat.lt_of_lt_of_le hk F4.out.size)).trans (HLE.out k hk));have FW7:Hid (Fr No w w7):=lH (F4.out.trans S7.out.fr (fun k hk e=>by
      rw [HLE.out k hk] at e;exact NOS.out e))
     have HGW:Hid (w.heap.size≤g):=HGWN;have HK22:=lH (gtokens_ o7 0 _ L x.2 w7 t7 (by have:=i7.few;omega));unfold RowPost at HK22;rw [hKf] at HK22;clear d7 i7 s7 t7 HW SQ hKf hWf nosS ZGQ RNQ;go_wp2_with fail;refine HK22.out.mono ?_;rintro e w11 ⟨v11,rfl,rn11,f11⟩;obtain ⟨a11,c11,hv11⟩:=rn11.shape;subst hv11;have RN11:=lH rn11;have R11:=lH (R7.out.fr f11 (fun _ _ e=>e));have F11:=lH f11;have LI11:Hid (Fr No w11 w11):=lH (Fr.refl _);have HPB:Hid (∀y:Tok,(fun y:Tok=> !(y.c==(c:Int))) y= !(y.c==(c:Int))):=lH (fun _=>rfl);generalize (fun y:Tok=> !(y.c==(c:Int)))=P at*;have HPB:Hid (∀y:Tok,P y= !(y.c==(c:Int))):=HPB;generalize S.K=K0 at*;clear rn11 f11 HK22 R7;go_wp2_with fail;go_loopw [12,13] (fun a b wr=>∃i:Nat,b=.int .i64 i∧i≤K0.length∧a=.int .i64 (((K0.take i).filter P).length:Nat)∧Hid (Fr No w11 wr)) (fun _ b _=>K0.length - (intOf b).toNat)
     case atStart=>exact ⟨0,rfl,Nat.zero_le _,rfl,LI11⟩
     case round=>
      obtain ⟨w12,rfl⟩:∃w12:World,w12=wr:=⟨_,rfl⟩
      obtain ⟨i,rfl,hi,rfl,HFI⟩:=hrel;have hK0:K0.length≤9223372036854775807:=by
       rcases R11.out with ⟨e,h⟩|⟨b,cap,e,hm,_,hr⟩
       ·rw [h];simp
       ·exact Nat.le_trans hr.len hm
      by_cases hli:i<K0.length
      ·have q2:(i:Int)<(K0.length:Int):=by omega
       have q3:(0:Int)≤(i:Int):=(by omega)
       obtain ⟨b8,hb8,hm8,_,hr8⟩:=R11.out.at (by omega);subst hb8;have hrow8:=hr8.row i K0[i] (List.getElem?_eq_getElem hli);have hlen8:=hr8.len;have hm8':c8≤9223372036854775807:=hm8;have q4:(i:Int)<(c8:Int):=(by omega)
       have hnx:=filter_next P hli;have hft:=fun hp=>filter_take P hli hp;have hPx:=HPB.out K0[i];generalize K0[i]=X at*;have HFT:=lH hft;obtain ⟨xc,xh,xi,xw⟩:=X;unfold tokC at hrow8;dsimp only at hrow8 hPx;have y0:w12.cell? ⟨b8,i*4,none⟩=some (.int .i64 xc):=HFI.out.cell_of (hrow8 0 _ rfl) id;have y1:w12.cell? ⟨b8,i*4+1,none⟩=some (.int .i64 xh):=HFI.out.cell_of (hrow8 1 _ rfl) id;have y2:w12.cell? ⟨b8,i*4+2,none⟩=some (.int .i64 xi):=HFI.out.cell_of (hrow8 2 _ rfl) id;have y3:w12.cell? ⟨b8,i*4+3,none⟩=some (.bool xw):=HFI.out.cell_of (hrow8 3 _ rfl) id;have HNX:=lH hnx;clear hr8 hrow8 hft hnx hlen8;cases hp:P ⟨xc,xh,xi,xw⟩ with
       | false=>
        have q5:(xc !=(c:Int))=false:=by
         rw [hp] at hPx;simp only [bne];exact hPx.symm
        have HN2:Hid (((K0.take (i+1)).filter P).length=((K0.take i).filter P).length):=lH (by rw [HNX.out,hp];simp);clear hp hPx HFT HNX;go_wp2_with fail;go_roundw
        case rel=>exact ⟨i+1,by go_num,hli,by rw [HN2.out],HFI⟩
        case measure=>simp [intOf];omega
       | true=>
        have q5:(xc !=(c:Int))=true:=by
         rw [hp] at hPx;simp only [bne];exact hPx.symm
        have HN2:Hid (((K0.take (i+1)).filter P).length=((K0.take i).filter P).length+1):=lH (by rw [HNX.out,hp];simp);have hft2:=HFT.out hp;clear hp hPx HFT HNX;generalize ((K0.take i).filter P).length=nn at*;have hnl:=(List.getElem?_eq_some_iff.1 hft2).1;obtain ⟨bB,hbB,hmB,_,hrB⟩:=RN11.out.at (by omega);subst hbB;have hrowB:=hrB.row nn _ hft2;have hlenB:=hrB.len;have hmB':c11≤9223372036854775807:=hmB;have q6:(nn:Int)<(c11:Int):=(by omega)
        have q7:(nn:Int)<((K0.filter P).length:Int):=(by omega)
        have q8:¬((K0.filter P).length:Int)≤(nn:Int):=(by omega)
        have q9:(0:Int)≤(nn:Int):=(by omega)
        have q10:IntKind.i64.wrap ((nn:Int)+1)=(nn:Int)+1:=(by rw [IntKind.wrap_i64];omega)
        unfold tokC at hrowB;dsimp only at hrowB;have Z0:Hid (w12.cell? ⟨bB,nn*4,none⟩=some (.int .i64 xc)):=lH (HFI.out.cell_of (hrowB 0 _ rfl) id);have Z1:Hid (w12.cell? ⟨bB,nn*4+1,none⟩=some (.int .i64 xh)):=lH (HFI.out.cell_of (hrowB 1 _ rfl) id);have Z2:Hid (w12.cell? ⟨bB,nn*4+2,none⟩=some (.int .i64 xi)):=lH (HFI.out.cell_of (hrowB 2 _ rfl) id);have Z3:Hid (w12.cell? ⟨bB,nn*4+3,none⟩=some (.bool xw)):=lH (HFI.out.cell_of (hrowB 3 _ rfl) id);have Y0:=lH y0;have Y1:=lH y1;have Y2:=lH y2;have Y3:=lH y3;have e53:∀W,(binOp .neq 53 (.agg #[.int .i64 xc,.int .i64 xh,.int .i64 xi,.bool xw]) (.agg #[.int .i64 xc,.int .i64 xh,.int .i64 xi,.bool xw])).run Tryz.prog W=.ok (.bool false) W:=fun W=>by rw [neq53];simp
        have HD:=lH HFI.out.drew;have HNXT:Hid ((.int .i64 ((nn:Int)+1):Value)=.int .i64 (((K0.take (i+1)).filter P).length:Nat)):=lH (by rw [HN2.out];rfl);clear hft2 hrB hrowB hlenB HN2;go_upto_region 26 with fail
        refine wp_region_text mixed (fun W=>W=w12.drew) [14] (by kernel_rfl) (by kernel_rfl) (by kernel_rfl) (by kernel_rfl) (fun _ _ d _ _ h=>by cases d<;>exact h) rfl ?_;repeat (first
         | refine seqX_skip (by rfl) ?_
         | (refine seqX_val (v:= ?_) (by rfl) (by rfl) ?_ ?_
            rotate_left 1
            (intro W;go_simp;(try with_reducible rfl))
            simp only [Act.put,lsA,lsZ,lsS])
         | (refine seqX_no (by rfl) (by rfl) ?_
            simp only [Act.put,lsA,lsZ,lsS])
         | (refine seqX_valS (v:= ?_) (by rfl) (by kernel_rfl) (by rfl) ?_ ?_
            rotate_left 1
            (intro W hS;have e0:W.cell? ⟨b8,i*4,none⟩=some (.int .i64 xc):=(by rw [hS];exact Y0.out);have e1:W.cell? ⟨b8,i*4+1,none⟩=some (.int .i64 xh):=(by rw [hS];exact Y1.out);have e2:W.cell? ⟨b8,i*4+2,none⟩=some (.int .i64 xi):=(by rw [hS];exact Y2.out);have e3:W.cell? ⟨b8,i*4+3,none⟩=some (.bool xw):=(by rw [hS];exact Y3.out);have d0:W.cell? ⟨bB,nn*4,none⟩=some (.int .i64 xc):=(by rw [hS];exact Z0.out);have d1:W.cell? ⟨bB,nn*4+1,none⟩=some (.int .i64 xh):=(by rw [hS];exact Z1.out);have d2:W.cell? ⟨bB,nn*4+2,none⟩=some (.int .i64 xi):=(by rw [hS];exact Z2.out);have d3:W.cell? ⟨bB,nn*4+3,none⟩=some (.bool xw):=(by rw [hS];exact Z3.out);clear hS;go_simp;(try with_reducible rfl))
            simp only [Act.put,lsA,lsZ,lsS]))
        intro W hS;obtain rfl:W=w12.drew:=hS;simp only [List.reverse_cons,List.reverse_nil,List.nil_append,List.cons_append];clear y0 y1 y2 y3;go_wp2_with fail;go_roundw
        case rel=>exact ⟨i+1,by go_num,hli,HNXT.out,HD⟩
        case measure=>simp [intOf];omega
      ·obtain rfl:i=K0.length:=by omega
       have q2:¬(K0.length:Int)<(K0.length:Int):=(by omega)
       have q3:((K0.take K0.length).filter P).length=(K0.filter P).length:=(by rw [List.take_length])
       rw [q3];have F12:=lH (F11.out.trans HFI.out (fun _ _ e=>e));have FW12:=lH (FW7.out.trans F12.out (fun _ _ e=>e.elim));have T12:=lH (T7.out.no I7.out.ok S7.out.fresh F12.out);have HFS:Hid (Fresh w12 o7):=lH (fun k hk=>S7.out.fresh k (Nat.le_trans F12.out.size hk));have ZG12:=lH (ZG7.out.no F12.out);have HLF:=glifeS_ o7 0 _ L x.2 (c:Int) w12 T12.out;rw [lives_life ⟨by omega,by have:=HC4.out;omega⟩ HWF.out] at HLF;have HLF:=lH HLF;have HGL:Hid (g<w12.heap.size):=lH (lt_of_block ZG12.out.1);have HEN:=lH (gencodeS_ o7 0 _ L x.2 w12 T12.out I7.out.ok HFS.out (by omega) I7.out.lens);unfold EncPost at HEN;clear HFI F11 FW7 T7 ZG7 R11 RN11 LI11 S7;go_wp2_with fail;refine HLF.out.mono ?_;rintro e wz ⟨rfl,rfl⟩;go_wp2_with fail;refine HEN.out.mono ?_;rintro e w13 ⟨v13,ss,stp,rfl,sl13,f13,hl13,hb13⟩;have FW13:=lH (FW12.out.trans f13 (fun _ _ e=>e));have T13:=lH (T12.out.no I7.out.ok HFS.out f13);have HFS13:Hid (Fresh w13 o7):=lH (fun k hk=>HFS.out k (Nat.le_trans f13.size hk));have ZG13:=lH (ZG12.out.no f13);have SL13:=lH sl13;have HL13:=lH hl13;have HB13:=lH hb13;have STP:=lH stp;have g1:w13.cell? ⟨g,1,none⟩=some (.int .i64 (l0+1)):=(by rw [cell_at ZG13.out.1];rfl)
       have g2:w13.cell? ⟨g,2,none⟩=some (.int .i64 1):=(by rw [cell_at ZG13.out.1];rfl)
       have gz:=fun j=>frozen_at ZG13.out.1 j;have KG14:Hid (((w13.setCell ⟨g,1,none⟩ (.int .i64 l0)).setCell ⟨g,2,none⟩ (.int .i64 1073741824)).heap[g]? =some (.cells #[.int .i64 (c:Int),.int .i64 l0,.int .i64 1073741824,.int .i64 4,.string ⟨#[47]⟩,.string ⟨#[]⟩,.bool false,.bool false,.bool false,.int .i64 0,.int .i64 0,.int .i64 0,.slice none 0 0,.slice none 0 0] 41 (0,0))):=lH (by
        have h1:=setCell_at (setCell_at ZG13.out.1 1 (.int .i64 l0)) 2 (.int .i64 1073741824);simpa using h1)
       have FG14:Hid (Fr (fun j=>j=g) w13 ((w13.setCell ⟨g,1,none⟩ (.int .i64 l0)).setCell ⟨g,2,none⟩ (.int .i64 1073741824))):=lH ((fr_set w13 g 1 (.int .i64 l0)).trans (fr_set _ g 2 (.int .i64 1073741824)) (fun _ _ e=>e));clear stp sl13 f13 hl13 hb13 HEN HLF T12 FW12;go_upto_region 33 with fail
       generalize (w13.setCell ⟨g,1,none⟩ (.int .i64 l0)).setCell ⟨g,2,none⟩ (.int .i64 1073741824)=w14 at*;have S14:Step (fun c=>c=0) w13 o7 w14 o7:=⟨FG14.out.mono (fun j _ e=>by rw [e];exact ZG13.out.2),fun _ _=>rfl,fun k hk=>HFS13.out k (Nat.le_trans FG14.out.size hk)⟩
       have T14:=lH (T13.out.step I7.out.ok S14 (fun c h e=>by unfold stateC at h;omega));have SL14:=lH (SL13.out.fr FG14.out (fun a l c e h=>by
        have h1:=HB13.out a l c e;have h2:=HGL.out;omega))
       have FW14:=lH (FW13.out.trans FG14.out (fun k hk e=>by
        have:=HGW.out;omega))
       have HFS14:=lH S14.fresh;have HRQ:=lH (grequest_ o7 ⟨(c:Int),l0,1073741824,4, [47], [],false,false,false,0,0,0⟩ (.slice none 0 0) (.slice none 0 0) [] w14 S14.fresh (HRST.out _ _) ⟨_,_,_,rfl⟩ (by simp));unfold ReqPost Req.cells at HRQ;dsimp only at HRQ;clear g1 g2 gz S14 T13 SL13 FW13 FG14 ZG13;go_wp2_with (refine wpList_load_row rfl 41 (.tmp 10) rfl g rfl 41 _ (0,0) _ KG14.out Tryz.underlying41 rfl Tryz.size41 ?_);refine HRQ.out.mono ?_;rintro e w15 ⟨rv',rfl,hrq,f15⟩;have T15:=T14.out.no I7.out.ok HFS14.out f15;have hf15:Fresh w15 o7:=fun k hk=>HFS14.out k (Nat.le_trans f15.size hk);have SL15:=lH (SL14.out.no f15);have FW15:=lH (FW14.out.trans f15 (fun _ _ e=>e));have HW:=lH (wentK o7 0 (100*j+100) (2*j+2) L x.2 ⟨(c:Int),l0,1073741824,4, [47], [],false,false,false,0,0,0⟩ rv' _ [] [] w15 T15 I7.out hf15 hrq (HRDL.out _ _) ⟨by simp,by simp,by simp,by simp⟩ (fun s hs=>by cases hs) (by omega) (by omega));unfold WentK Req.cells at HW;dsimp only at HW;clear T15 hrq f15 hf15 HRQ T14 SL14 FW14 KG14;go_wp2_with fail;refine HW.out.mono ?_;rintro e w16 ⟨x2,o8,ev2,mv2,rfl,q1e,q2e,d8,i8,s8,t8⟩;obtain ⟨hE8,hS8⟩:=lives_elder d8 ⟨by dsimp only;omega,by dsimp only;have:=HC4.out;omega⟩ HWF.out (by dsimp only;omega) rfl;rw [hS8] at t8 i8;have SL16:=lH (SL15.out.fr s8.fr (fun a l c e h=>by
        rw [HFS.out _ (HB13.out a l c e)] at h;exact NOS.out h))
       have FW16:=lH (FW15.out.trans s8.fr (fun k hk e=>by
        rw [HOLD.out k hk] at e;exact NOS.out e))
       have T16:=lH t8;have HFS16:=lH s8.fresh;have HE8:=lH hE8;have kz:=new_at w16 (.cells #[.int .i64 0,.int .i64 0,.int .i64 0,.int .i64 0,.int .i64 0,.bool false,.slice none 0 0,.slice none 0 0] 29);have K8:=lH (setRow_at (cs':=x2.1.cells ev2 mv2) kz);have KZ:=lH kz;have F8:Hid (Fr No w16 ((w16.alloc (.cells #[.int .i64 0,.int .i64 0,.int .i64 0,.int .i64 0,.int .i64 0,.bool false,.slice none 0 0,.slice none 0 0] 29)).setRow w16.heap.size (x2.1.cells ev2 mv2))):=lH (Fr.setRow ((Fr.refl (S:=No) w16).alloc _) (.inr (Nat.le_refl _)) _);have HOC:=lH (RepS.cells_one (r:=x2.1) q1e q2e);clear d8 i8 s8 t8 kz HW q1e q2e hE8 hS8 SL15 FW15;go_upto_region 34 with (refine wpList_store_row rfl 29 (.tmp 16) (.tmp 121) rfl w16.heap.size (x2.1.cells ev2 mv2) rfl rfl 29 _ KZ.out Tryz.size29 rfl HOC.out ?_)
       have z0:((w16.alloc (.cells #[.int .i64 0,.int .i64 0,.int .i64 0,.int .i64 0,.int .i64 0,.bool false,.slice none 0 0,.slice none 0 0] 29)).setRow w16.heap.size (x2.1.cells ev2 mv2)).cell? ⟨w16.heap.size,0,none⟩=some (.int .i64 17):=(by rw [← HE8.out,cell_at K8.out];rfl)
       have Z0:=lH z0;have SL17:=lH (SL16.out.no F8.out);have FW17:=lH (FW16.out.trans F8.out (fun _ _ e=>e));have T17:=lH (T16.out.no I7.out.ok HFS16.out F8.out);have HFS17:Hid (Fresh _ o8):=lH (fun k hk=>HFS16.out k (Nat.le_trans F8.out.size hk));generalize (w16.alloc (.cells #[.int .i64 0,.int .i64 0,.int .i64 0,.int .i64 0,.int .i64 0,.bool false,.slice none 0 0,.slice none 0 0] 29)).setRow w16.heap.size (x2.1.cells ev2 mv2)=w17 at*;generalize w16.heap.size=b16 at*;clear z0 SL16 FW16 T16 HFS16 K8 KZ F8 HOC;have HEN:=lH (gencodeS_ o8 0 _ L x.2 w17 T17.out I7.out.ok HFS17.out (by omega) I7.out.lens);unfold EncPost at HEN;go_wp2_with fail;refine HEN.out.mono ?_;rintro e w18 ⟨v18,ss2,stp2,rfl,sl18,f18,hl18,hb18⟩;obtain rfl:=stp2.same STP.out;have HSA:=lH (same_self v13 v18 _ w18 (SL17.out.no f18) sl18 (by have:=HL13.out;omega));have FW18:=lH (FW17.out.trans f18 (fun _ _ e=>e));have z1:w18.cell? ⟨b16,0,none⟩=some (.int .i64 17):=f18.cell_of Z0.out id;clear stp2 sl18 f18 hl18 hb18 HEN;go_wp2_with fail;refine HSA.out.mono ?_;rintro e w19 ⟨rfl,f19⟩;have FW19:=lH (FW18.out.trans f19 (fun _ _ e=>e));go_wp2_with fail;exact HQ.out _ FW19.out
end Go.Proofs.YtlcojhddnpmgmaaGreat
