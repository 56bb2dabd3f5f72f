/- Part of the proof; the last text says what is proved. -/
import Derived.Test.YtlcojhddnpmgmaaGreatW11
set_option linter.unusedSimpArgs false
set_option linter.unusedVariables false
set_option maxRecDepth 100000
set_option maxHeartbeats 12800000
namespace Go.Proofs.YtlcojhddnpmgmaaGreat
open Go.RowKit
theorem apply_move (o:Nat→Nat) (K i p:Nat) (m:FMap) (d:Dl) (w:World) (h:FileAt w o K i p m) (hf:Fresh w o) (hi:i<1000) (hml0:MapLen m) (hd:mayDl d) (hc:canDl m d) (hk1:d.k=3):
  Calls Tryz.prog 96 #[.pointer (some ⟨p,0,none⟩),dlV d] w (ApplyPost w o K i p (doneM m d)):=by
 have hl:m.l.length≤1000:=by rw [hml0.2];have:=hml0.1;unfold blocksN;omega
 have f0:Fr No w (w.alloc (.cells (dlC d).toArray 61)):=(Fr.refl w).alloc _;have k0:DlAt (w.alloc (.cells (dlC d).toArray 61)) w.heap.size d:=new_at w _;have HCAN:=lH (can_ p m d _ (h.reads.fr f0) hl hd);rw [decide_eq_true hc] at HCAN;have HR:Hid (∀v b w',GFile w o K i p (doneM m d) w'→ApplyPost w o K i p (doneM m d) (.returned (.tuple #[v,.bool b])) w'):=lH (fun v b w' g=>⟨⟨v,b,rfl⟩,g⟩);generalize ApplyPost w o K i p (doneM m d)=Q at*;have F0:=lH f0;have H0:=lH h;have HF:=lH hf;obtain ⟨_,v,hk,_⟩:=id h;have hk0:=f0.block_of hk id;have HLEN:=lH hml0;have HD:=lH hd;have HC:=lH hc;have HK0:=lH k0;obtain ⟨i0,hi0,hz0,hz1,hz2⟩:=info_parts Tryz.info59;have HI0:=lH hi0;have HI1:=lH hz0;have HI2:=lH hz1;have HI3:=lH hz2;unfold CanPost at HCAN;unfold dlV at*;have c0:(w.alloc (.cells (dlC d).toArray 61)).cell? ⟨p,0,none⟩=some (.bool true):=by rw [cell_at hk0];rfl
 unfold dlC at HCAN F0 c0;have HKK:=lH hk1;clear hf hk hk0 f0 hd hc h k0 hi0 hz0 hz1 hz2 hk1;go_enter Tryz.func96,Tryz.ntmps96;go_wp2_with fail;refine HCAN.out.mono ?_;rintro e w1 ⟨rfl,f1⟩;have F1:=lH (F0.out.trans f1 (fun _ _ e=>e));have HK1:=lH (HK0.out.fr f1);obtain ⟨v,hk,hv⟩:=H0.out.reads.fr F1.out;have c2:w1.cell? ⟨p,2,none⟩=some v:=by rw [cell_at hk];rfl
 have HCL:=lH (clonePt_ v m.l w1 hv (by omega));clear c0 hk hv f1 HCAN;go_wp2_with fail;refine HCL.out.mono ?_;rintro e w2 ⟨vw,rfl,ho,f2⟩;have F2:=lH (F1.out.trans f2 (fun _ _ e=>e));have HW2:=lH ((own_pt ho).z (Step.no (C:=fun _=>False) HF.out F1.out).fresh);have HK2:=lH (HK1.out.fr f2);obtain ⟨x0,x1,x2,x3,x4,x5,x6,x7,x8,x9,x10,x11,x12,x13⟩:=HK2.out.cells;rw [HKK.out] at x0;have H2:=lH (H0.out.no HF.out F2.out);have HF2:=lH (Step.no (C:=fun _=>False) HF.out F2.out).fresh;clear ho f2 c2 HCL;have mixed:Tryz.prog.follows .mixedOrders=true:=by kernel_rfl
 have h3:=HD.out.2.2.1;obtain ⟨nb,hnb⟩:∃n:Nat,d.b=n:=⟨d.b.toNat,by omega⟩
 have hnlz:nb<m.l.length:=by
  rcases HC.out with ⟨h,_⟩|h|⟨_,h,_⟩
  ·have:=HKK.out;omega
  ·have:=HKK.out;omega
  ·omega
 have HDM:Hid (doneM m d=⟨m.size,m.l.set nb d.t⟩):=lH (by unfold doneM;rw [HKK.out,hnb];rfl);rw [hnb] at x2;obtain ⟨hp2,v',hk',_⟩:=id H2.out;obtain ⟨v'',hk'',hv'⟩:=H2.out.reads;have hvv:v'=v'':=by
  rw [hk'] at hk'';simpa using hk''
 subst hvv;have c1:w2.cell? ⟨p,2,none⟩=some v':=by rw [cell_at hk'];rfl
 have HCL2:=lH (clonePt_ v' m.l w2 hv' (by omega));have HK2p:=lH hk';have HP2:=lH hp2;obtain ⟨wb,wc,rfl⟩:=HW2.out.val.slice;clear hk' hk'' hv' hp2;go_wp2_with fail;refine HCL2.out.mono ?_;rintro e w25 ⟨vc,rfl,ho2,f25⟩;rcases own_pt ho2 with ⟨_,hnil⟩|⟨bb,bc,rfl,hbm,hbb,hbr⟩
 ·rw [hnil] at hnlz;simp at hnlz
 have k25:=f25.block_of HK2p.out id;have z25:w25.frozen? ⟨p,2,none⟩=false:=frozen_at k25 2;have c25:w25.cell? ⟨p,2,none⟩=some v':=by rw [cell_at k25];rfl
 have fs:Fr (· =p) w2 (w25.setCell ⟨p,2,none⟩ (.slice (some ⟨bb,0,none⟩) m.l.length bc)):=f25.of_no.trans (fr_set w25 p 2 _) (fun _ _ e=>e);have hpl:=lt_of_block HK2p.out;have HG:Hid (GFile w2 o K i p ⟨m.size,m.l⟩ (w25.setCell ⟨p,2,none⟩ (.slice (some ⟨bb,0,none⟩) m.l.length bc))):=lH
  (FileAt.putNew HP2.out HK2p.out HF2.out hbb fs (setCell_at k25 2 _) (hbr.fr (fr_set w25 p 2 _) (by omega)) hbm)
 obtain ⟨w30,hw30⟩:∃w30,w30=w25.setCell ⟨p,2,none⟩ (.slice (some ⟨bb,0,none⟩) m.l.length bc):=⟨_,rfl⟩
 rw [← hw30] at HG;obtain ⟨o3,s3,hf3⟩:=HG.out;have y:=(s3.block HK2.out (by rw [HF.out _ (Nat.le_refl _)];exact fileC_zero K i):DlAt w30 w.heap.size d)
 have s3':=s3;have HS3:Hid (Step (fileC K i) w o w30 o3):=lH (((Step.no (C:=fun _=>False) HF.out F2.out).mono (fun _ e=>e.elim)).trans s3' (fun _ e=>e));have HFR3:Hid (Fresh w30.drew o3):=lH s3.fresh;have HFR30:Hid (Fresh w30 o3):=lH s3.fresh;have hbx:o w.heap.size=0:=HF.out _ (Nat.le_refl _);have HK3b:Hid (DlAt w30 w.heap.size d):=lH (s3'.block HK2.out (by rw [hbx];exact fileC_zero K i));have HW3:Hid (PtZ w30 o3 (.slice wb m.l.length wc) m.l):=lH (HW2.out.step s3' (fileC_zero K i));obtain ⟨hp3,v3,hk3,hv3⟩:=hf3;dsimp only at hk3 hv3;rcases hv3 with ⟨_,hnil⟩|⟨b3,cap3,rfl,hm3,hb3,hr3⟩
 ·rw [hnil] at hnlz;simp at hnlz
 have hlen3:=hr3.len;have hml3:cap3≤9223372036854775807:=hm3;have d2:w30.cell? ⟨p,2,none⟩=some (.slice (some ⟨b3,0,none⟩) m.l.length cap3):=by rw [cell_at hk3];rfl
 have t1:(nb:Int)<(m.l.length:Int):=by omega
 have t2:(0:Int)≤(nb:Int):=by omega
 have t3:(nb:Int)<(cap3:Int):=by omega
 have HTH:Hid (w30.drew.there b3 (nb*5) 5):=lH (RowB.there (hr3.fr (S:=No) (w':=w30.drew) ⟨rfl,rfl,rfl,Nat.le_refl _,fun _ _ _=>rfl⟩ id) nb 5 (by omega));have HOC:Hid ((#[.int .i64 d.t.c,.int .i64 d.t.l,.int .i64 d.t.n,.int .i64 d.t.a,.int .i64 d.t.z]:Array Value).all (·.oneCell')=true):=lH (by simp [Value.oneCell']);have HR3:Hid (RowB ptC 5 59 w30.drew b3 cap3 m.l):=lH (hr3.fr (S:=No) (w':=w30.drew) ⟨rfl,rfl,rfl,Nat.le_refl _,fun _ _ _=>rfl⟩ id);have HP3:=lH hp3;have HK3:Hid (w30.drew.heap[p]? =some (.cells #[.bool true,.int .i64 m.size,.slice (some ⟨b3,0,none⟩) m.l.length cap3] 135 (0,0))):=lH hk3;have HB3:=lH hb3;obtain ⟨y0,y1,y2,y3,y4,y5,y6,y7,y8,y9,y10,y11,y12,y13⟩:=HK3b.out.cells;rw [hnb] at y2;clear hp3 hk3 hb3 hr3 s3 s3' x0 x1 x2 x3 x4 x5 x6 x7 x8 x9 x10 x11 x12 x13 c1 y fs k25 ho2 f25 HG HCL2 hbr;have HFA:Hid (∃o2,Step (fileC K i) w o (w30.drew.setCells b3 (nb*5) (ptC d.t)) o2∧FileAt (w30.drew.setCells b3 (nb*5) (ptC d.t)) o2 K i p (doneM m d)):=lH (by
  obtain ⟨o4,s4,hf4⟩:=FileAt.setAt (n:=0) (w:=w30.drew) HP3.out HK3.out HFR3.out HB3.out hi hm3 HR3.out nb hnlz d.t;exact ⟨o4,HS3.out.trans (Step.trans ((Step.no (C:=fun _=>False) (w:=w30) (w':=w30.drew) HFR30.out ⟨rfl,rfl,rfl,Nat.le_refl _,fun _ _ _=>rfl⟩).mono (D:=fileC K i) (fun _ e=>e.elim)) s4 (fun _ e=>e)) (fun _ e=>e),by rw [HDM.out];exact hf4⟩)
 have HWAS:Hid (PtVal (w30.drew.setCells b3 (nb*5) (ptC d.t)) (.slice wb m.l.length wc) m.l):=lH (by
  obtain ⟨o4,s4,hf4⟩:=FileAt.setAt (n:=0) (w:=w30.drew) HP3.out HK3.out HFR3.out HB3.out hi hm3 HR3.out nb hnlz d.t;exact (HW3.out.step (Step.trans ((Step.no (C:=fun _=>False) (w:=w30) (w':=w30.drew) HFR30.out ⟨rfl,rfl,rfl,Nat.le_refl _,fun _ _ _=>rfl⟩).mono (D:=fileC K i) (fun _ e=>e.elim)) s4 (fun _ e=>e)) (fileC_zero K i)).val)
 go_wp2_with fail;rw [← hw30];clear hw30;refine wp_region_text mixed (fun W=>W=w30.drew) [8,9] (by kernel_rfl) (by kernel_rfl) (by kernel_rfl) (by kernel_rfl) (fun _ _ d _ _ h=>by cases d<;>exact h) rfl ?_;repeat (first
  | refine seqX_skip (by rfl) ?_
  | (refine seqX_val (v:= ?_) (by rfl) (by rfl) ?_ ?_
     rotate_left 1
     (intro W;go_simp;(try with_reducible rfl))
     simp only [Act.put,lsA,lsZ,lsS])
  | (refine seqX_valS (v:= ?_) (by rfl) (by kernel_rfl) (by rfl) ?_ ?_
     rotate_left 1
     (intro W hS;subst hS;go_simp;(try with_reducible rfl))
     simp only [Act.put,lsA,lsZ,lsS]))
 intro W hS;subst hS;simp only [List.reverse_cons,List.reverse_nil,List.nil_append,List.cons_append];go_wp2_with (refine wpList_store_mid (by rfl) 59 (.tmp 76) (.tmp 75) (by rfl) b3 (nb*5) #[.int .i64 d.t.c,.int .i64 d.t.l,.int .i64 d.t.n,.int .i64 d.t.a,.int .i64 d.t.z] ?a1 ?a2 ?a3 Tryz.size59 ?a4 ?_)
 case a1=>rfl
 case a2=>rfl
 case a3=>exact HTH.out
 case a4=>exact HOC.out
 unfold ptC at HFA HWAS;generalize w30.drew.setCells b3 (nb*5) [.int .i64 d.t.c,.int .i64 d.t.l,.int .i64 d.t.n,.int .i64 d.t.a,.int .i64 d.t.z]=w3 at*;generalize doneM m d=m2 at*;clear y0 y1 y2 y3 y4 y5 y6 y7 y8 y9 y10 y11 y12 y13 d2 t1 t2 t3;have HFA0:=HFA.out;obtain ⟨o2,hs2,hf2⟩:=HFA0;have HFR:=lH hf2.reads;have HFIN:Hid (∀W,Fr No w3 W→GFile w o K i p m2 W):=lH (fun W f=>⟨o2,hs2.trans (Step.no (C:=fun _=>False) hs2.fresh f) (fun _ e=>e.elim),hf2.no hs2.fresh f⟩);clear hs2 hf2 HFA;have mixed:Tryz.prog.follows .mixedOrders=true:=by kernel_rfl
 go_loopw [7,79] (fun g a wr=>∃(j:Nat) (G:List Pt),a=.int .i64 j∧j≤m.l.length∧G.length≤j∧Hid (wr.ownsRow w3.heap.size 59 5 g G.length (G.flatMap ptC))∧Hid (Fr No w3 wr)) (fun _ a _=>m.l.length - (intOf a).toNat)
 case atStart=>exact ⟨0, [],rfl,Nat.zero_le _,Nat.le_refl _,lH ⟨rfl,.inl ⟨rfl,rfl⟩⟩,lH (Fr.refl _)⟩
 case round=>
  obtain ⟨j,G,rfl,hj,hGj,HO,HF⟩:=hrel;obtain ⟨ga,gc,rfl⟩:=HO.out.shape;by_cases hlt:j<m.l.length
  ·obtain ⟨wbb,rfl,hwm,hwr⟩:=(HWAS.out.fr HF.out).row (by omega);have HRR:=lH (hwr.row j m.l[j] (List.getElem?_eq_getElem hlt));have hlen:=hwr.len;have hml:wc≤9223372036854775807:=hwm;have q1:(j:Int)<(m.l.length:Int):=(by omega)
   have q2:(j:Int)<(wc:Int):=(by omega)
   have q3:(0:Int)≤(j:Int):=(by omega)
   generalize m.l[j]=x at*;unfold ptC at HRR;have fx:Fr No wr (wr.alloc (.cells #[.int .i64 x.c,.int .i64 x.l,.int .i64 x.n,.int .i64 x.a,.int .i64 x.z] 59)):=(Fr.refl wr).alloc _;have kx:=new_at wr (.cells #[.int .i64 x.c,.int .i64 x.l,.int .i64 x.n,.int .i64 x.a,.int .i64 x.z] 59);have HOX:=lH (own59_fr HO.out fx (fun _ _ e=>e));have HFX:=lH (HF.out.trans fx (fun _ _ e=>e));generalize hwx:wr.alloc (.cells #[.int .i64 x.c,.int .i64 x.l,.int .i64 x.n,.int .i64 x.a,.int .i64 x.z] 59)=wx at*;generalize htb:wr.heap.size=tb at*;obtain ⟨v2,hk2,hv2⟩:=HFR.out.fr HFX.out;obtain ⟨b2,c2,rfl⟩:=hv2.slice;have HFRX:=lH (HFR.out.fr HFX.out);have HZ:Hid (∀W,Calls Tryz.prog 71 #[ptV x] W fun e w'=>e=.returned (.bool (decide (x=noPt)))∧Fr No W w'):=lH (fun W=>zero_ 71 (.inl rfl) x W);have HA:Hid (∀W,Fr No wx W→Calls Tryz.prog 36 #[.pointer (some ⟨p,0,none⟩),.int .i64 j] W (AtPost W (atOf m2 j))):=lH (fun W f=>fat_ p m2 j W (HFRX.out.fr f));have HC1:Hid (∀W,Fr No wx W→Calls Tryz.prog 144 #[.slice b2 m2.l.length c2,ptV x] W (ContPt W (m2.l.any fun y=>decide (x=y)))):=lH (fun W f=>containsPt_ _ _ x W (hv2.fr f));have HC2:Hid (∀W,Fr No wx W→Calls Tryz.prog 144 #[.slice ga G.length gc,ptV x] W (ContPt W (G.any fun y=>decide (x=y)))):=lH (fun W f=>containsPt_ _ _ x W (own_pt (own59_fr HOX.out f (fun _ _ e=>e))).val);have HCE:Hid (∀W,Fr No wx W→W.cell? ⟨tb,0,none⟩=some (.int .i64 x.c)∧W.cell? ⟨tb,1,none⟩=some (.int .i64 x.l)∧W.cell? ⟨tb,2,none⟩=some (.int .i64 x.n)∧W.cell? ⟨tb,3,none⟩=some (.int .i64 x.a)∧W.cell? ⟨tb,4,none⟩=some (.int .i64 x.z)∧W.cell? ⟨p,2,none⟩=some (.slice b2 m2.l.length c2)):=lH (fun W f=>by
    have k:=f.block_of kx id;have k2:=f.block_of hk2 id;refine ⟨?_,?_,?_,?_,?_,?_⟩
    ·rw [cell_at k];rfl
    ·rw [cell_at k];rfl
    ·rw [cell_at k];rfl
    ·rw [cell_at k];rfl
    ·rw [cell_at k];rfl
    ·rw [cell_at k2];rfl)
   have hN:=fun w=>neq59 (atOf m2 j).c (atOf m2 j).l (atOf m2 j).n (atOf m2 j).a (atOf m2 j).z x.c x.l x.n x.a x.z w;have hNN:decide ((⟨(atOf m2 j).c,(atOf m2 j).l,(atOf m2 j).n,(atOf m2 j).a,(atOf m2 j).z⟩:Pt)=⟨x.c,x.l,x.n,x.a,x.z⟩)=decide (atOf m2 j=x):=rfl;simp only [hNN] at hN;clear hNN kx hk2 hv2 hwr hwm fx;unfold AtPost at HA;unfold ContPt at HC1 HC2;unfold ptV at HZ HA HC1 HC2;generalize decide (x=noPt)=z1 at*;generalize decide (atOf m2 j=x)=z2 at*;generalize (m2.l.any fun y=>decide (x=y))=z3 at*;generalize (G.any fun y=>decide (x=y))=z4 at*;generalize atOf m2 j=at_ at*;generalize m2.l=m2l at*;cases z1 with
   | true=>
    go_wp2_with (refine wpList_load_mid (by rfl) 59 _ (by rfl) wbb (j*5) (by rfl) [.int .i64 x.c,.int .i64 x.l,.int .i64 x.n,.int .i64 x.a,.int .i64 x.z] _ HRR.out Tryz.underlying59 rfl Tryz.size59 ?_);refine wp_region_seq mixed (fun W=>(W.cell? ⟨tb,0,none⟩=some (.int .i64 x.c)∧W.cell? ⟨tb,1,none⟩=some (.int .i64 x.l)∧W.cell? ⟨tb,2,none⟩=some (.int .i64 x.n)∧W.cell? ⟨tb,3,none⟩=some (.int .i64 x.a)∧W.cell? ⟨tb,4,none⟩=some (.int .i64 x.z)∧W.cell? ⟨p,2,none⟩=some (.slice b2 m2l.length c2))∧Hid (Fr No wx W)) (by kernel_rfl) (by kernel_rfl) (fun _ _ d _ _ h=>by cases d<;>exact h) ⟨HCE.out wx.drew (fr_dr (Fr.refl wx)),lH (fr_dr (Fr.refl wx))⟩ ?_;repeat (first
     | (refine seqA_no (by rfl) ?_;simp only [Act.put,lsA,lsZ,lsS])
     | (refine seqA_val (v:= ?_) (by rfl) ?_ ?_
        rotate_left 1
        (intro W hS;obtain ⟨⟨s0,s1,s2,s3,s4,s5⟩,_⟩:=hS;go_simp;(try with_reducible rfl))
        simp only [Act.put,lsA,lsZ,lsS]))
    refine seqA_call (v:=.bool true) 71 #[.agg #[.int .i64 x.c,.int .i64 x.l,.int .i64 x.n,.int .i64 x.a,.int .i64 x.z]] (by rfl) (fun W=>by go_simp) (fun W hS=>(HZ.out W).mono ?_) ?_
    ·rintro e w1 ⟨rfl,f1⟩;have f2:Fr No wx w1:=hS.2.out.trans f1 (fun _ _ e=>e);exact ⟨rfl,HCE.out w1 f2,lH f2⟩
    simp only [Act.put,lsA,lsZ,lsS];repeat (first
     | (refine seqA_no (by rfl) ?_;simp only [Act.put,lsA,lsZ,lsS])
     | (refine seqA_val (v:= ?_) (by rfl) ?_ ?_
        rotate_left 1
        (intro W hS;obtain ⟨⟨s0,s1,s2,s3,s4,s5⟩,_⟩:=hS;go_simp;(try with_reducible rfl))
        simp only [Act.put,lsA,lsZ,lsS]))
    intro W hS;have HFW:=lH (HFX.out.trans hS.2.out (fun _ _ e=>e));go_wp2_with fail;go_roundw
    case rel=>exact ⟨j+1,G,by go_num,hlt,by omega,lH (own59_fr HOX.out hS.2.out (fun _ _ e=>e)),HFW⟩
    case measure=>simp [intOf];omega
   | false=>
    cases z2 with
    | true=>
     go_wp2_with (refine wpList_load_mid (by rfl) 59 _ (by rfl) wbb (j*5) (by rfl) [.int .i64 x.c,.int .i64 x.l,.int .i64 x.n,.int .i64 x.a,.int .i64 x.z] _ HRR.out Tryz.underlying59 rfl Tryz.size59 ?_);refine wp_region_seq mixed (fun W=>(W.cell? ⟨tb,0,none⟩=some (.int .i64 x.c)∧W.cell? ⟨tb,1,none⟩=some (.int .i64 x.l)∧W.cell? ⟨tb,2,none⟩=some (.int .i64 x.n)∧W.cell? ⟨tb,3,none⟩=some (.int .i64 x.a)∧W.cell? ⟨tb,4,none⟩=some (.int .i64 x.z)∧W.cell? ⟨p,2,none⟩=some (.slice b2 m2l.length c2))∧Hid (Fr No wx W)) (by kernel_rfl) (by kernel_rfl) (fun _ _ d _ _ h=>by cases d<;>exact h) ⟨HCE.out wx.drew (fr_dr (Fr.refl wx)),lH (fr_dr (Fr.refl wx))⟩ ?_;repeat (first
      | (refine seqA_no (by rfl) ?_;simp only [Act.put,lsA,lsZ,lsS])
      | (refine seqA_val (v:= ?_) (by rfl) ?_ ?_
         rotate_left 1
         (intro W hS;obtain ⟨⟨s0,s1,s2,s3,s4,s5⟩,_⟩:=hS;go_simp;(try with_reducible rfl))
         simp only [Act.put,lsA,lsZ,lsS]))
     refine seqA_call (v:=.bool false) 71 #[.agg #[.int .i64 x.c,.int .i64 x.l,.int .i64 x.n,.int .i64 x.a,.int .i64 x.z]] (by rfl) (fun W=>by go_simp) (fun W hS=>(HZ.out W).mono ?_) ?_
     ·rintro e w1 ⟨rfl,f1⟩;have f2:Fr No wx w1:=hS.2.out.trans f1 (fun _ _ e=>e);exact ⟨rfl,HCE.out w1 f2,lH f2⟩
     simp only [Act.put,lsA,lsZ,lsS];repeat (first
      | (refine seqA_no (by rfl) ?_;simp only [Act.put,lsA,lsZ,lsS])
      | (refine seqA_val (v:= ?_) (by rfl) ?_ ?_
         rotate_left 1
         (intro W hS;obtain ⟨⟨s0,s1,s2,s3,s4,s5⟩,_⟩:=hS;go_simp;(try with_reducible rfl))
         simp only [Act.put,lsA,lsZ,lsS]))
     refine seqA_call (v:=.agg #[.int .i64 at_.c,.int .i64 at_.l,.int .i64 at_.n,.int .i64 at_.a,.int .i64 at_.z]) 36 #[.pointer (some ⟨p,0,none⟩),.int .i64 j] (by rfl) (fun W=>by go_simp) (fun W hS=>(HA.out W hS.2.out).mono ?_) ?_
     ·rintro e w1 ⟨rfl,f1⟩;have f2:Fr No wx w1:=hS.2.out.trans f1 (fun _ _ e=>e);exact ⟨rfl,HCE.out w1 f2,lH f2⟩
     simp only [Act.put,lsA,lsZ,lsS];repeat (first
      | (refine seqA_no (by rfl) ?_;simp only [Act.put,lsA,lsZ,lsS])
      | (refine seqA_val (v:= ?_) (by rfl) ?_ ?_
         rotate_left 1
         (intro W hS;obtain ⟨⟨s0,s1,s2,s3,s4,s5⟩,_⟩:=hS;go_simp;(try with_reducible rfl))
         simp only [Act.put,lsA,lsZ,lsS]))
     intro W hS;have HFW:=lH (HFX.out.trans hS.2.out (fun _ _ e=>e));go_wp2_with fail;go_roundw
     case rel=>exact ⟨j+1,G,by go_num,hlt,by omega,lH (own59_fr HOX.out hS.2.out (fun _ _ e=>e)),HFW⟩
     case measure=>simp [intOf];omega
    | false=>
     cases z3 with
     | true=>
      go_wp2_with (refine wpList_load_mid (by rfl) 59 _ (by rfl) wbb (j*5) (by rfl) [.int .i64 x.c,.int .i64 x.l,.int .i64 x.n,.int .i64 x.a,.int .i64 x.z] _ HRR.out Tryz.underlying59 rfl Tryz.size59 ?_);refine wp_region_seq mixed (fun W=>(W.cell? ⟨tb,0,none⟩=some (.int .i64 x.c)∧W.cell? ⟨tb,1,none⟩=some (.int .i64 x.l)∧W.cell? ⟨tb,2,none⟩=some (.int .i64 x.n)∧W.cell? ⟨tb,3,none⟩=some (.int .i64 x.a)∧W.cell? ⟨tb,4,none⟩=some (.int .i64 x.z)∧W.cell? ⟨p,2,none⟩=some (.slice b2 m2l.length c2))∧Hid (Fr No wx W)) (by kernel_rfl) (by kernel_rfl) (fun _ _ d _ _ h=>by cases d<;>exact h) ⟨HCE.out wx.drew (fr_dr (Fr.refl wx)),lH (fr_dr (Fr.refl wx))⟩ ?_;repeat (first
       | (refine seqA_no (by rfl) ?_;simp only [Act.put,lsA,lsZ,lsS])
       | (refine seqA_val (v:= ?_) (by rfl) ?_ ?_
          rotate_left 1
          (intro W hS;obtain ⟨⟨s0,s1,s2,s3,s4,s5⟩,_⟩:=hS;go_simp;(try with_reducible rfl))
          simp only [Act.put,lsA,lsZ,lsS]))
      refine seqA_call (v:=.bool false) 71 #[.agg #[.int .i64 x.c,.int .i64 x.l,.int .i64 x.n,.int .i64 x.a,.int .i64 x.z]] (by rfl) (fun W=>by go_simp) (fun W hS=>(HZ.out W).mono ?_) ?_
      ·rintro e w1 ⟨rfl,f1⟩;have f2:Fr No wx w1:=hS.2.out.trans f1 (fun _ _ e=>e);exact ⟨rfl,HCE.out w1 f2,lH f2⟩
      simp only [Act.put,lsA,lsZ,lsS];repeat (first
       | (refine seqA_no (by rfl) ?_;simp only [Act.put,lsA,lsZ,lsS])
       | (refine seqA_val (v:= ?_) (by rfl) ?_ ?_
          rotate_left 1
          (intro W hS;obtain ⟨⟨s0,s1,s2,s3,s4,s5⟩,_⟩:=hS;go_simp;(try with_reducible rfl))
          simp only [Act.put,lsA,lsZ,lsS]))
      refine seqA_call (v:=.agg #[.int .i64 at_.c,.int .i64 at_.l,.int .i64 at_.n,.int .i64 at_.a,.int .i64 at_.z]) 36 #[.pointer (some ⟨p,0,none⟩),.int .i64 j] (by rfl) (fun W=>by go_simp) (fun W hS=>(HA.out W hS.2.out).mono ?_) ?_
      ·rintro e w1 ⟨rfl,f1⟩;have f2:Fr No wx w1:=hS.2.out.trans f1 (fun _ _ e=>e);exact ⟨rfl,HCE.out w1 f2,lH f2⟩
      simp only [Act.put,lsA,lsZ,lsS];repeat (first
       | (refine seqA_no (by rfl) ?_;simp only [Act.put,lsA,lsZ,lsS])
       | (refine seqA_val (v:= ?_) (by rfl) ?_ ?_
          rotate_left 1
          (intro W hS;obtain ⟨⟨s0,s1,s2,s3,s4,s5⟩,_⟩:=hS;go_simp;(try with_reducible rfl))
          simp only [Act.put,lsA,lsZ,lsS]))
      refine seqA_call (v:=.bool true) 144 #[.slice b2 m2l.length c2,.agg #[.int .i64 x.c,.int .i64 x.l,.int .i64 x.n,.int .i64 x.a,.int .i64 x.z]] (by rfl) (fun W=>by go_simp) (fun W hS=>(HC1.out W hS.2.out).mono ?_) ?_
      ·rintro e w1 ⟨rfl,f1⟩;have f2:Fr No wx w1:=hS.2.out.trans f1 (fun _ _ e=>e);exact ⟨rfl,HCE.out w1 f2,lH f2⟩
      simp only [Act.put,lsA,lsZ,lsS];repeat (first
       | (refine seqA_no (by rfl) ?_;simp only [Act.put,lsA,lsZ,lsS])
       | (refine seqA_val (v:= ?_) (by rfl) ?_ ?_
          rotate_left 1
          (intro W hS;obtain ⟨⟨s0,s1,s2,s3,s4,s5⟩,_⟩:=hS;go_simp;(try with_reducible rfl))
          simp only [Act.put,lsA,lsZ,lsS]))
      intro W hS;have HFW:=lH (HFX.out.trans hS.2.out (fun _ _ e=>e));go_wp2_with fail;go_roundw
      case rel=>exact ⟨j+1,G,by go_num,hlt,by omega,lH (own59_fr HOX.out hS.2.out (fun _ _ e=>e)),HFW⟩
      case measure=>simp [intOf];omega
     | false=>
      cases z4 with
      | true=>
       go_wp2_with (refine wpList_load_mid (by rfl) 59 _ (by rfl) wbb (j*5) (by rfl) [.int .i64 x.c,.int .i64 x.l,.int .i64 x.n,.int .i64 x.a,.int .i64 x.z] _ HRR.out Tryz.underlying59 rfl Tryz.size59 ?_);refine wp_region_seq mixed (fun W=>(W.cell? ⟨tb,0,none⟩=some (.int .i64 x.c)∧W.cell? ⟨tb,1,none⟩=some (.int .i64 x.l)∧W.cell? ⟨tb,2,none⟩=some (.int .i64 x.n)∧W.cell? ⟨tb,3,none⟩=some (.int .i64 x.a)∧W.cell? ⟨tb,4,none⟩=some (.int .i64 x.z)∧W.cell? ⟨p,2,none⟩=some (.slice b2 m2l.length c2))∧Hid (Fr No wx W)) (by kernel_rfl) (by kernel_rfl) (fun _ _ d _ _ h=>by cases d<;>exact h) ⟨HCE.out wx.drew (fr_dr (Fr.refl wx)),lH (fr_dr (Fr.refl wx))⟩ ?_;repeat (first
        | (refine seqA_no (by rfl) ?_;simp only [Act.put,lsA,lsZ,lsS])
        | (refine seqA_val (v:= ?_) (by rfl) ?_ ?_
           rotate_left 1
           (intro W hS;obtain ⟨⟨s0,s1,s2,s3,s4,s5⟩,_⟩:=hS;go_simp;(try with_reducible rfl))
           simp only [Act.put,lsA,lsZ,lsS]))
       refine seqA_call (v:=.bool false) 71 #[.agg #[.int .i64 x.c,.int .i64 x.l,.int .i64 x.n,.int .i64 x.a,.int .i64 x.z]] (by rfl) (fun W=>by go_simp) (fun W hS=>(HZ.out W).mono ?_) ?_
       ·rintro e w1 ⟨rfl,f1⟩;have f2:Fr No wx w1:=hS.2.out.trans f1 (fun _ _ e=>e);exact ⟨rfl,HCE.out w1 f2,lH f2⟩
       simp only [Act.put,lsA,lsZ,lsS];repeat (first
        | (refine seqA_no (by rfl) ?_;simp only [Act.put,lsA,lsZ,lsS])
        | (refine seqA_val (v:= ?_) (by rfl) ?_ ?_
           rotate_left 1
           (intro W hS;obtain ⟨⟨s0,s1,s2,s3,s4,s5⟩,_⟩:=hS;go_simp;(try with_reducible rfl))
           simp only [Act.put,lsA,lsZ,lsS]))
       refine seqA_call (v:=.agg #[.int .i64 at_.c,.int .i64 at_.l,.int .i64 at_.n,.int .i64 at_.a,.int .i64 at_.z]) 36 #[.pointer (some ⟨p,0,none⟩),.int .i64 j] (by rfl) (fun W=>by go_simp) (fun W hS=>(HA.out W hS.2.out).mono ?_) ?_
       ·rintro e w1 ⟨rfl,f1⟩;have f2:Fr No wx w1:=hS.2.out.trans f1 (fun _ _ e=>e);exact ⟨rfl,HCE.out w1 f2,lH f2⟩
       simp only [Act.put,lsA,lsZ,lsS];repeat (first
        | (refine seqA_no (by rfl) ?_;simp only [Act.put,lsA,lsZ,lsS])
        | (refine seqA_val (v:= ?_) (by rfl) ?_ ?_
           rotate_left 1
           (intro W hS;obtain ⟨⟨s0,s1,s2,s3,s4,s5⟩,_⟩:=hS;go_simp;(try with_reducible rfl))
           simp only [Act.put,lsA,lsZ,lsS]))
       refine seqA_call (v:=.bool false) 144 #[.slice b2 m2l.length c2,.agg #[.int .i64 x.c,.int .i64 x.l,.int .i64 x.n,.int .i64 x.a,.int .i64 x.z]] (by rfl) (fun W=>by go_simp) (fun W hS=>(HC1.out W hS.2.out).mono ?_) ?_
       ·rintro e w1 ⟨rfl,f1⟩;have f2:Fr No wx w1:=hS.2.out.trans f1 (fun _ _ e=>e);exact ⟨rfl,HCE.out w1 f2,lH f2⟩
       simp only [Act.put,lsA,lsZ,lsS];repeat (first
        | (refine seqA_no (by rfl) ?_;simp only [Act.put,lsA,lsZ,lsS])
        | (refine seqA_val (v:= ?_) (by rfl) ?_ ?_
           rotate_left 1
           (intro W hS;obtain ⟨⟨s0,s1,s2,s3,s4,s5⟩,_⟩:=hS;go_simp;(try with_reducible rfl))
           simp only [Act.put,lsA,lsZ,lsS]))
       refine seqA_call (v:=.bool true) 144 #[.slice ga G.length gc,.agg #[.int .i64 x.c,.int .i64 x.l,.int .i64 x.n,.int .i64 x.a,.int .i64 x.z]] (by rfl) (fun W=>by go_simp) (fun W hS=>(HC2.out W hS.2.out).mono ?_) ?_
       ·rintro e w1 ⟨rfl,f1⟩;have f2:Fr No wx w1:=hS.2.out.trans f1 (fun _ _ e=>e);exact ⟨rfl,HCE.out w1 f2,lH f2⟩
       simp only [Act.put,lsA,lsZ,lsS];repeat (first
        | (refine seqA_no (by rfl) ?_;simp only [Act.put,lsA,lsZ,lsS])
        | (refine seqA_val (v:= ?_) (by rfl) ?_ ?_
           rotate_left 1
           (intro W hS;obtain ⟨⟨s0,s1,s2,s3,s4,s5⟩,_⟩:=hS;go_simp;(try with_reducible rfl))
           simp only [Act.put,lsA,lsZ,lsS]))
       intro W hS;have HFW:=lH (HFX.out.trans hS.2.out (fun _ _ e=>e));go_wp2_with fail;go_roundw
       case rel=>exact ⟨j+1,G,by go_num,hlt,by omega,lH (own59_fr HOX.out hS.2.out (fun _ _ e=>e)),HFW⟩
       case measure=>simp [intOf];omega
      | false=>
       go_wp2_with (refine wpList_load_mid (by rfl) 59 _ (by rfl) wbb (j*5) (by rfl) [.int .i64 x.c,.int .i64 x.l,.int .i64 x.n,.int .i64 x.a,.int .i64 x.z] _ HRR.out Tryz.underlying59 rfl Tryz.size59 ?_);refine wp_region_seq mixed (fun W=>(W.cell? ⟨tb,0,none⟩=some (.int .i64 x.c)∧W.cell? ⟨tb,1,none⟩=some (.int .i64 x.l)∧W.cell? ⟨tb,2,none⟩=some (.int .i64 x.n)∧W.cell? ⟨tb,3,none⟩=some (.int .i64 x.a)∧W.cell? ⟨tb,4,none⟩=some (.int .i64 x.z)∧W.cell? ⟨p,2,none⟩=some (.slice b2 m2l.length c2))∧Hid (Fr No wx W)) (by kernel_rfl) (by kernel_rfl) (fun _ _ d _ _ h=>by cases d<;>exact h) ⟨HCE.out wx.drew (fr_dr (Fr.refl wx)),lH (fr_dr (Fr.refl wx))⟩ ?_;repeat (first
        | (refine seqA_no (by rfl) ?_;simp only [Act.put,lsA,lsZ,lsS])
        | (refine seqA_val (v:= ?_) (by rfl) ?_ ?_
           rotate_left 1
           (intro W hS;obtain ⟨⟨s0,s1,s2,s3,s4,s5⟩,_⟩:=hS;go_simp;(try with_reducible rfl))
           simp only [Act.put,lsA,lsZ,lsS]))
       refine seqA_call (v:=.bool false) 71 #[.agg #[.int .i64 x.c,.int .i64 x.l,.int .i64 x.n,.int .i64 x.a,.int .i64 x.z]] (by rfl) (fun W=>by go_simp) (fun W hS=>(HZ.out W).mono ?_) ?_
       ·rintro e w1 ⟨rfl,f1⟩;have f2:Fr No wx w1:=hS.2.out.trans f1 (fun _ _ e=>e);exact ⟨rfl,HCE.out w1 f2,lH f2⟩
       simp only [Act.put,lsA,lsZ,lsS];repeat (first
        | (refine seqA_no (by rfl) ?_;simp only [Act.put,lsA,lsZ,lsS])
        | (refine seqA_val (v:= ?_) (by rfl) ?_ ?_
           rotate_left 1
           (intro W hS;obtain ⟨⟨s0,s1,s2,s3,s4,s5⟩,_⟩:=hS;go_simp;(try with_reducible rfl))
           simp only [Act.put,lsA,lsZ,lsS]))
       refine seqA_call (v:=.agg #[.int .i64 at_.c,.int .i64 at_.l,.int .i64 at_.n,.int .i64 at_.a,.int .i64 at_.z]) 36 #[.pointer (some ⟨p,0,none⟩),.int .i64 j] (by rfl) (fun W=>by go_simp) (fun W hS=>(HA.out W hS.2.out).mono ?_) ?_
       ·rintro e w1 ⟨rfl,f1⟩;have f2:Fr No wx w1:=hS.2.out.trans f1 (fun _ _ e=>e);exact ⟨rfl,HCE.out w1 f2,lH f2⟩
       simp only [Act.put,lsA,lsZ,lsS];repeat (first
        | (refine seqA_no (by rfl) ?_;simp only [Act.put,lsA,lsZ,lsS])
        | (refine seqA_val (v:= ?_) (by rfl) ?_ ?_
           rotate_left 1
           (intro W hS;obtain ⟨⟨s0,s1,s2,s3,s4,s5⟩,_⟩:=hS;go_simp;(try with_reducible rfl))
           simp only [Act.put,lsA,lsZ,lsS]))
       refine seqA_call (v:=.bool false) 144 #[.slice b2 m2l.length c2,.agg #[.int .i64 x.c,.int .i64 x.l,.int .i64 x.n,.int .i64 x.a,.int .i64 x.z]] (by rfl) (fun W=>by go_simp) (fun W hS=>(HC1.out W hS.2.out).mono ?_) ?_
       ·rintro e w1 ⟨rfl,f1⟩;have f2:Fr No wx w1:=hS.2.out.trans f1 (fun _ _ e=>e);exact ⟨rfl,HCE.out w1 f2,lH f2⟩
       simp only [Act.put,lsA,lsZ,lsS];repeat (first
        | (refine seqA_no (by rfl) ?_;simp only [Act.put,lsA,lsZ,lsS])
        | (refine seqA_val (v:= ?_) (by rfl) ?_ ?_
           rotate_left 1
           (intro W hS;obtain ⟨⟨s0,s1,s2,s3,s4,s5⟩,_⟩:=hS;go_simp;(try with_reducible rfl))
           simp only [Act.put,lsA,lsZ,lsS]))
       refine seqA_call (v:=.bool false) 144 #[.slice ga G.length gc,.agg #[.int .i64 x.c,.int .i64 x.l,.int .i64 x.n,.int .i64 x.a,.int .i64 x.z]] (by rfl) (fun W=>by go_simp) (fun W hS=>(HC2.out W hS.2.out).mono ?_) ?_
       ·rintro e w1 ⟨rfl,f1⟩;have f2:Fr No wx w1:=hS.2.out.trans f1 (fun _ _ e=>e);exact ⟨rfl,HCE.out w1 f2,lH f2⟩
       simp only [Act.put,lsA,lsZ,lsS];repeat (first
        | (refine seqA_no (by rfl) ?_;simp only [Act.put,lsA,lsZ,lsS])
        | (refine seqA_val (v:= ?_) (by rfl) ?_ ?_
           rotate_left 1
           (intro W hS;obtain ⟨⟨s0,s1,s2,s3,s4,s5⟩,_⟩:=hS;go_simp;(try with_reducible rfl))
           simp only [Act.put,lsA,lsZ,lsS]))
       intro W hS;have HFW:=lH (HFX.out.trans hS.2.out (fun _ _ e=>e));have HOW:=lH (own59_fr HOX.out hS.2.out (fun _ _ e=>e));have hszl:=HFW.out.size;obtain ⟨⟨s0,s1,s2,s3,s4,s5⟩,_⟩:=hS;go_wp2_with (at_builtin;(refine wpList_append_lies _ (by rfl) _ _ 77 (by rfl) w3.heap.size 59 i0 _ 5 40 Tryz.underlying77 HI0.out HI1.out HI2.out HI3.out rfl (by decide) (.slice ga G.length gc) G.length (G.flatMap ptC) (by rfl) (HOW.out.alloc _) ⟨W.heap.size,0,none⟩ 1 1 [.int .i64 x.c,.int .i64 x.l,.int .i64 x.n,.int .i64 x.a,.int .i64 x.z] (by rfl) (by rfl) ?d1 (by simp [Value.oneCell']) (by decide) (by unfold maxLen;omega) (by omega) ?d5 (W.heap.size+1) ?d6 ?_))
       case d1=>exact World.news_of_block (cs:= #[.int .i64 x.c,.int .i64 x.l,.int .i64 x.n,.int .i64 x.a,.int .i64 x.z]) (t:=59) (fr:=(0,0)) (heap_alloc_new W _)
       case d5=>rw [heap_size_alloc];omega
       case d6=>simp
       intro gg cap wD hownD hgrow hat hgl;have hnl:Fr No w3 wD:=by
        refine (HFW.out.alloc _).grown hgrow (fun j hj=> .inr ?_);exact own59_base HOW.out j hj
       have HNL:=lH hnl;have HOD:=lH hownD;clear hownD hgrow hat hgl hnl;go_wp2_with fail;go_roundw
       case rel=>
        refine ⟨j+1,G++ [x],by go_num,hlt,by rw [List.length_append,List.length_singleton];omega,lH ?_,HNL⟩;have h9:=HOD.out;rw [List.flatMap_append,List.length_append];simp only [List.flatMap_cons,List.flatMap_nil,List.append_nil,List.length_singleton];exact h9
       case measure=>simp [intOf];omega
  ·obtain rfl:j=m.l.length:=by omega
   have q1:¬(m.l.length:Int)<(m.l.length:Int):=(by omega)
   go_wp2_with fail;exact HR.out _ true _ (HFIN.out _ HF.out)
theorem apply_ (o:Nat→Nat) (K i p:Nat) (m:FMap) (d:Dl) (w:World) (h:FileAt w o K i p m) (hf:Fresh w o) (hi:i<1000) (hml0:MapLen m) (hd:mayDl d):
  Calls Tryz.prog 96 #[.pointer (some ⟨p,0,none⟩),dlV d] w (ApplyPost w o K i p (appliedM m d)):=by
 have hl:m.l.length≤1000:=by rw [hml0.2];have:=hml0.1;unfold blocksN;omega
 unfold appliedM;by_cases hc:canDl m d
 ·rw [if_pos hc];rcases hd.2.2.2.2.2.2.2.2 with ⟨hk,_⟩|⟨hk,_⟩|⟨hk,_⟩
  ·exact apply_put o K i p m d w h hf hi hml0 hd hc hk
  ·exact apply_cut o K i p m d w h hf hi hml0 hd hc hk
  ·exact apply_move o K i p m d w h hf hi hml0 hd hc hk
 ·rw [if_neg hc];exact apply_no o K i p m d w h hf hl hd hc
end Go.Proofs.YtlcojhddnpmgmaaGreat
