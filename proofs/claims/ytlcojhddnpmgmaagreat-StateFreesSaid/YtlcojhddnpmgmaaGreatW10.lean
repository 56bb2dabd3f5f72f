/- Part of the proof; the last text says what is proved. -/
import Derived.Test.YtlcojhddnpmgmaaGreatW06
import Derived.Test.YtlcojhddnpmgmaaGreatW09
set_option linter.unusedSimpArgs false
set_option linter.unusedVariables false
set_option maxRecDepth 100000
set_option maxHeartbeats 12800000
namespace Go.Proofs.YtlcojhddnpmgmaaGreat
open Go.RowKit
theorem neq59 (a b c d e a' b' c' d' e':Int) (w:World):(binOp .neq 59 (.agg #[.int .i64 a,.int .i64 b,.int .i64 c,.int .i64 d,.int .i64 e]) (.agg #[.int .i64 a',.int .i64 b',.int .i64 c',.int .i64 d',.int .i64 e'])).run Tryz.prog w=.ok (.bool (!decide ((⟨a,b,c,d,e⟩:Pt)=⟨a',b',c',d',e'⟩))) w:=by
 have h:=eql59 a b c d e a' b' c' d' e' w;rw [run_eql_struct] at h;rw [run_neq_struct];generalize (Op.equalIn 10000 59 (.agg #[.int .i64 a,.int .i64 b,.int .i64 c,.int .i64 d,.int .i64 e]) (.agg #[.int .i64 a',.int .i64 b',.int .i64 c',.int .i64 d',.int .i64 e'])).run Tryz.prog w=r at*;cases r with
 | ok b w'=>
  simp only [Result.andThen,Result.ok.injEq,Value.bool.injEq] at h ⊢;obtain ⟨rfl,rfl⟩:=h;exact ⟨rfl,rfl⟩
 | halt x w'=>simp [Result.andThen] at h
theorem can_ (p:Nat) (m:FMap) (d:Dl) (w:World) (h:FileR w p m) (hl:m.l.length≤1000) (hd:mayDl d):Calls Tryz.prog 142 #[.pointer (some ⟨p,0,none⟩),dlV d] w (CanPost w (decide (canDl m d))):=by
 obtain ⟨_,_,_,_,_,_,_,_,h9⟩:=id hd;rcases h9 with ⟨hk,_⟩|⟨hk,_⟩|⟨hk,_⟩
 ·have:decide (canDl m d)=decide (d.b*64<d.s):=by
   rw [decide_eq_decide];unfold canDl;rw [hk];simp
  rw [this];exact can_put p m d w hd hk
 ·have:decide (canDl m d)=true:=by
   rw [decide_eq_true_eq];exact .inr (.inl hk)
  rw [this];exact can_cut p d w hd hk
 ·exact can_move p m d w h hl hd hk
def doneM (m:FMap) (d:Dl):FMap:=
 if d.k=1 then ⟨max m.size d.s.toNat,(resizeL m.l (blocksN (max m.size d.s.toNat))).set d.b.toNat d.t⟩
 else if d.k=2 then ⟨d.s.toNat,resizeL m.l (blocksN d.s.toNat)⟩
 else ⟨m.size,m.l.set d.b.toNat d.t⟩
def appliedM (m:FMap) (d:Dl):FMap:=if canDl m d then doneM m d else m
def MapLen (m:FMap):Prop:=m.size≤4096∧m.l.length=blocksN m.size
theorem resizeL_len (L:List Pt) (n:Nat):(resizeL L n).length=n:=by
 unfold resizeL;split
 ·rw [List.length_take];omega
 ·rw [List.length_append,List.length_replicate];omega
def ApplyPost (w:World) (o:Nat→Nat) (K i p:Nat) (m:FMap) (e:Ending) (w':World):Prop:=(∃v b,e=.returned (.tuple #[v,.bool b]))∧GFile w o K i p m w'
theorem FileAt.setAt {w:World} {o:Nat→Nat} {K i p b cap:Nat} {n:Int} {l:List Pt} {size:Nat} (h:o p=K+3000+i) (hk:w.heap[p]? =some (.cells #[.bool true,.int .i64 size,.slice (some ⟨b,0,none⟩) l.length cap] 135 (0,0))) (hf:Fresh w o) (hb:o b=K+4000+i) (hi:i<1000) (hm:cap≤maxLen) (hr:RowB ptC 5 59 w b cap l) (j:Nat) (hj:j<l.length) (t:Pt):
  GFile w o K i p ⟨size,l.set j t⟩ (w.setCells b (j*5) (ptC t)):=by
 have hpb:p≠b:=by intro e;rw [e,hb] at h;omega
 have f:=setCells_fr b (ptC t) (j*5) w;exact ⟨o,⟨f.mono (fun k _ e=>by rw [e];exact .inr hb),fun _ _=>rfl,fun k hk=>hf k (Nat.le_trans f.size hk)⟩,h,_,f.block_of hk hpb,.inr ⟨b,cap,by rw [List.length_set],hm,hb,RowB.set (c:=ptC) ptC_len hr j hj t⟩⟩
def PtZ (w:World) (o:Nat→Nat) (v:Value) (L:List Pt):Prop:=(v=.slice none 0 0∧L= [])∨∃b cap,v=.slice (some ⟨b,0,none⟩) L.length cap∧cap≤maxLen∧o b=0∧RowB ptC 5 59 w b cap L
theorem PtNew.z {w w0:World} {o:Nat→Nat} {v:Value} {L:List Pt} (h:PtNew w w0.heap.size v L) (hf:Fresh w0 o):PtZ w o v L:=by
 rcases h with h|⟨b,cap,e,hm,hb,hr⟩
 ·exact .inl h
 ·exact .inr ⟨b,cap,e,hm,hf b hb,hr⟩
theorem PtZ.val {w:World} {o:Nat→Nat} {v:Value} {L:List Pt} (h:PtZ w o v L):PtVal w v L:=by
 rcases h with h|⟨b,cap,e,hm,_,hr⟩
 ·exact .inl h
 ·exact .inr ⟨b,cap,e,hm,hr⟩
theorem PtZ.step {C:Nat→Prop} {w w':World} {o o':Nat→Nat} {v:Value} {L:List Pt} (h:PtZ w o v L) (s:Step C w o w' o') (hc:¬C 0):PtZ w' o' v L:=by
 rcases h with h|⟨b,cap,e,hm,hb,hr⟩
 ·exact .inl h
 ·exact .inr ⟨b,cap,e,hm,(s.old b hr.lt).trans hb,hr.fr s.fr (by rw [hb];exact hc)⟩
theorem fileC_zero (K i:Nat):¬fileC K i 0:=by unfold fileC;omega
theorem apply_no (o:Nat→Nat) (K i p:Nat) (m:FMap) (d:Dl) (w:World) (h:FileAt w o K i p m) (hf:Fresh w o) (hl:m.l.length≤1000) (hd:mayDl d) (hc:¬canDl m d):
  Calls Tryz.prog 96 #[.pointer (some ⟨p,0,none⟩),dlV d] w (ApplyPost w o K i p m):=by
 have f0:Fr No w (w.alloc (.cells (dlC d).toArray 61)):=(Fr.refl w).alloc _;have HCAN:=lH (can_ p m d _ (h.reads.fr f0) hl hd);rw [decide_eq_false hc] at HCAN;have HR:Hid (∀e w',(∃v b,e=.returned (.tuple #[v,.bool b]))→Fr No w w'→ApplyPost w o K i p m e w'):=lH (fun e w' he f=>⟨he,o,Step.no hf f,h.no hf f⟩);generalize ApplyPost w o K i p m=Q at*;have F0:=lH f0;obtain ⟨_,v,hk,_⟩:=h;have hk0:=f0.block_of hk id;unfold CanPost at HCAN;unfold dlC at hk0 HCAN F0;unfold dlV at*;have c0:(w.alloc (.cells [.int .i64 d.k,.int .i64 d.i,.int .i64 d.b,.int .i64 d.s,.int .i64 d.t.c,.int .i64 d.t.l,.int .i64 d.t.n,.int .i64 d.t.a,.int .i64 d.t.z,.int .i64 d.o.c,.int .i64 d.o.l,.int .i64 d.o.n,.int .i64 d.o.a,.int .i64 d.o.z].toArray 61)).cell? ⟨p,0,none⟩=some (.bool true):=by rw [cell_at hk0];rfl
 clear hf hk hk0 f0 hd hc hl;go_enter Tryz.func96,Tryz.ntmps96;go_wp2_with fail;refine HCAN.out.mono ?_;rintro e w1 ⟨rfl,f1⟩;go_wp2_with fail;exact HR.out _ _ ⟨_,_,rfl⟩ (F0.out.trans f1 (fun _ _ e=>e))
theorem apply_cut (o:Nat→Nat) (K i p:Nat) (m:FMap) (d:Dl) (w:World) (h:FileAt w o K i p m) (hf:Fresh w o) (hi:i<1000) (hml0:MapLen m) (hd:mayDl d) (hc:canDl m d) (hk1:d.k=2):
  Calls Tryz.prog 96 #[.pointer (some ⟨p,0,none⟩),dlV d] w (ApplyPost w o K i p (doneM m d)):=by
 have hl:m.l.length≤1000:=by rw [hml0.2];have:=hml0.1;unfold blocksN;omega
 have f0:Fr No w (w.alloc (.cells (dlC d).toArray 61)):=(Fr.refl w).alloc _;have k0:DlAt (w.alloc (.cells (dlC d).toArray 61)) w.heap.size d:=new_at w _;have HCAN:=lH (can_ p m d _ (h.reads.fr f0) hl hd);rw [decide_eq_true hc] at HCAN;have HR:Hid (∀v b w',GFile w o K i p (doneM m d) w'→ApplyPost w o K i p (doneM m d) (.returned (.tuple #[v,.bool b])) w'):=lH (fun v b w' g=>⟨⟨v,b,rfl⟩,g⟩);generalize ApplyPost w o K i p (doneM m d)=Q at*;have F0:=lH f0;have H0:=lH h;have HF:=lH hf;obtain ⟨_,v,hk,_⟩:=id h;have hk0:=f0.block_of hk id;have HLEN:=lH hml0;have HD:=lH hd;have HC:=lH hc;have HK0:=lH k0;obtain ⟨i0,hi0,hz0,hz1,hz2⟩:=info_parts Tryz.info59;have HI0:=lH hi0;have HI1:=lH hz0;have HI2:=lH hz1;have HI3:=lH hz2;unfold CanPost at HCAN;unfold dlV at*;have c0:(w.alloc (.cells (dlC d).toArray 61)).cell? ⟨p,0,none⟩=some (.bool true):=by rw [cell_at hk0];rfl
 unfold dlC at HCAN F0 c0;have HKK:=lH hk1;clear hf hk hk0 f0 hd hc h k0 hi0 hz0 hz1 hz2 hk1;go_enter Tryz.func96,Tryz.ntmps96;go_wp2_with fail;refine HCAN.out.mono ?_;rintro e w1 ⟨rfl,f1⟩;have F1:=lH (F0.out.trans f1 (fun _ _ e=>e));have HK1:=lH (HK0.out.fr f1);obtain ⟨v,hk,hv⟩:=H0.out.reads.fr F1.out;have c2:w1.cell? ⟨p,2,none⟩=some v:=by rw [cell_at hk];rfl
 have HCL:=lH (clonePt_ v m.l w1 hv (by omega));clear c0 hk hv f1 HCAN;go_wp2_with fail;refine HCL.out.mono ?_;rintro e w2 ⟨vw,rfl,ho,f2⟩;have F2:=lH (F1.out.trans f2 (fun _ _ e=>e));have HW2:=lH ((own_pt ho).z (Step.no (C:=fun _=>False) HF.out F1.out).fresh);have HK2:=lH (HK1.out.fr f2);obtain ⟨x0,x1,x2,x3,x4,x5,x6,x7,x8,x9,x10,x11,x12,x13⟩:=HK2.out.cells;rw [HKK.out] at x0;have H2:=lH (H0.out.no HF.out F2.out);have HF2:=lH (Step.no (C:=fun _=>False) HF.out F2.out).fresh;clear ho f2 c2 HCL;have h5:=HD.out.2.2.2.2.1;have h6:=HD.out.2.2.2.2.2.1;obtain ⟨n,hn⟩:∃n:Nat,d.s=n:=⟨d.s.toNat,by omega⟩
 have hn2:n≤4096:=by omega
 have HDM:Hid (doneM m d=⟨n,resizeL m.l (blocksN n)⟩):=lH (by unfold doneM;rw [HKK.out,hn];rfl);rw [hn] at x3;have HRZ:=lH (resize_ o K i p m n w2 H2.out HF2.out hi hn2 hl);go_wp2_with fail;refine HRZ.out.mono ?_;rintro e w3 ⟨rfl,o3,s3,hf3⟩;have HFA:Hid (∃o2,Step (fileC K i) w o w3 o2∧FileAt w3 o2 K i p (doneM m d)):=lH ⟨o3,((Step.no (C:=fun _=>False) HF.out F2.out).mono (fun _ e=>e.elim)).trans s3 (fun _ e=>e),by rw [HDM.out];exact hf3⟩;have HWAS:Hid (PtVal w3 vw m.l):=lH (HW2.out.step s3 (fileC_zero K i)).val;obtain ⟨wb,wc,rfl⟩:=HWAS.out.slice;generalize doneM m d=m2 at*;clear s3 hf3 HRZ;go_wp2_with fail;have HFA0:=HFA.out;obtain ⟨o2,hs2,hf2⟩:=HFA0;have HFR:=lH hf2.reads;have HFIN:Hid (∀W,Fr No w3 W→GFile w o K i p m2 W):=lH (fun W f=>⟨o2,hs2.trans (Step.no (C:=fun _=>False) hs2.fresh f) (fun _ e=>e.elim),hf2.no hs2.fresh f⟩);clear hs2 hf2 HFA;have mixed:Tryz.prog.follows .mixedOrders=true:=by kernel_rfl
 go_loopw [7,79] (fun g a wr=>∃(j:Nat) (G:List Pt),a=.int .i64 j∧j≤m.l.length∧G.length≤j∧Hid (wr.ownsRow w3.heap.size 59 5 g G.length (G.flatMap ptC))∧Hid (Fr No w3 wr)) (fun _ a _=>m.l.length - (intOf a).toNat)
 case atStart=>exact ⟨0, [],rfl,Nat.zero_le _,Nat.le_refl _,lH ⟨rfl,.inl ⟨rfl,rfl⟩⟩,lH (Fr.refl _)⟩
 case round=>
  obtain ⟨j,G,rfl,hj,hGj,HO,HF⟩:=hrel;obtain ⟨ga,gc,rfl⟩:=HO.out.shape;by_cases hlt:j<m.l.length
  ·obtain ⟨wbb,rfl,hwm,hwr⟩:=(HWAS.out.fr HF.out).row (by omega);have HRR:=lH (hwr.row j m.l[j] (List.getElem?_eq_getElem hlt));have hlen:=hwr.len;have hml:wc≤9223372036854775807:=hwm;have q1:(j:Int)<(m.l.length:Int):=(by omega)
   have q2:(j:Int)<(wc:Int):=(by omega)
   have q3:(0:Int)≤(j:Int):=(by omega)
   generalize m.l[j]=x at*;unfold ptC at HRR;have fx:Fr No wr (wr.alloc (.cells #[.int .i64 x.c,.int .i64 x.l,.int .i64 x.n,.int .i64 x.a,.int .i64 x.z] 59)):=(Fr.refl wr).alloc _;have kx:=new_at wr (.cells #[.int .i64 x.c,.int .i64 x.l,.int .i64 x.n,.int .i64 x.a,.int .i64 x.z] 59);have HOX:=lH (own59_fr HO.out fx (fun _ _ e=>e));have HFX:=lH (HF.out.trans fx (fun _ _ e=>e));generalize hwx:wr.alloc (.cells #[.int .i64 x.c,.int .i64 x.l,.int .i64 x.n,.int .i64 x.a,.int .i64 x.z] 59)=wx at*;generalize htb:wr.heap.size=tb at*;obtain ⟨v2,hk2,hv2⟩:=HFR.out.fr HFX.out;obtain ⟨b2,c2,rfl⟩:=hv2.slice;have HFRX:=lH (HFR.out.fr HFX.out);have HZ:Hid (∀W,Calls Tryz.prog 71 #[ptV x] W fun e w'=>e=.returned (.bool (decide (x=noPt)))∧Fr No W w'):=lH (fun W=>zero_ 71 (.inl rfl) x W);have HA:Hid (∀W,Fr No wx W→Calls Tryz.prog 36 #[.pointer (some ⟨p,0,none⟩),.int .i64 j] W (AtPost W (atOf m2 j))):=lH (fun W f=>fat_ p m2 j W (HFRX.out.fr f));have HC1:Hid (∀W,Fr No wx W→Calls Tryz.prog 144 #[.slice b2 m2.l.length c2,ptV x] W (ContPt W (m2.l.any fun y=>decide (x=y)))):=lH (fun W f=>containsPt_ _ _ x W (hv2.fr f));have HC2:Hid (∀W,Fr No wx W→Calls Tryz.prog 144 #[.slice ga G.length gc,ptV x] W (ContPt W (G.any fun y=>decide (x=y)))):=lH (fun W f=>containsPt_ _ _ x W (own_pt (own59_fr HOX.out f (fun _ _ e=>e))).val);have HCE:Hid (∀W,Fr No wx W→W.cell? ⟨tb,0,none⟩=some (.int .i64 x.c)∧W.cell? ⟨tb,1,none⟩=some (.int .i64 x.l)∧W.cell? ⟨tb,2,none⟩=some (.int .i64 x.n)∧W.cell? ⟨tb,3,none⟩=some (.int .i64 x.a)∧W.cell? ⟨tb,4,none⟩=some (.int .i64 x.z)∧W.cell? ⟨p,2,none⟩=some (.slice b2 m2.l.length c2)):=lH (fun W f=>by
    have k:=f.block_of kx id;have k2:=f.block_of hk2 id;refine ⟨?_,?_,?_,?_,?_,?_⟩
    ·rw [cell_at k];rfl
    ·rw [cell_at k];rfl
    ·rw [cell_at k];rfl
    ·rw [cell_at k];rfl
    ·rw [cell_at k];rfl
    ·rw [cell_at k2];rfl)
   have hN:=fun w=>neq59 (atOf m2 j).c (atOf m2 j).l (atOf m2 j).n (atOf m2 j).a (atOf m2 j).z x.c x.l x.n x.a x.z w;have hNN:decide ((⟨(atOf m2 j).c,(atOf m2 j).l,(atOf m2 j).n,(atOf m2 j).a,(atOf m2 j).z⟩:Pt)=⟨x.c,x.l,x.n,x.a,x.z⟩)=decide (atOf m2 j=x):=rfl;simp only [hNN] at hN;clear hNN kx hk2 hv2 hwr hwm fx;unfold AtPost at HA;unfold ContPt at HC1 HC2;unfold ptV at HZ HA HC1 HC2;generalize decide (x=noPt)=z1 at*;generalize decide (atOf m2 j=x)=z2 at*;generalize (m2.l.any fun y=>decide (x=y))=z3 at*;generalize (G.any fun y=>decide (x=y))=z4 at*;generalize atOf m2 j=at_ at*;generalize m2.l=m2l at*;cases z1 with
   | true=>
    go_wp2_with (refine wpList_load_mid (by rfl) 59 _ (by rfl) wbb (j*5) (by rfl) [.int .i64 x.c,.int .i64 x.l,.int .i64 x.n,.int .i64 x.a,.int .i64 x.z] _ HRR.out Tryz.underlying59 rfl Tryz.size59 ?_);refine wp_region_seq mixed (fun W=>(W.cell? ⟨tb,0,none⟩=some (.int .i64 x.c)∧W.cell? ⟨tb,1,none⟩=some (.int .i64 x.l)∧W.cell? ⟨tb,2,none⟩=some (.int .i64 x.n)∧W.cell? ⟨tb,3,none⟩=some (.int .i64 x.a)∧W.cell? ⟨tb,4,none⟩=some (.int .i64 x.z)∧W.cell? ⟨p,2,none⟩=some (.slice b2 m2l.length c2))∧Hid (Fr No wx W)) (by kernel_rfl) (by kernel_rfl) (fun _ _ d _ _ h=>by cases d<;>exact h) ⟨HCE.out wx.drew (fr_dr (Fr.refl wx)),lH (fr_dr (Fr.refl wx))⟩ ?_;repeat (first
     | (refine seqA_no (by rfl) ?_;simp only [Act.put,lsA,lsZ,lsS])
     | (refine seqA_val (v:= ?_) (by rfl) ?_ ?_
        rotate_left 1
        (intro W hS;obtain ⟨⟨s0,s1,s2,s3,s4,s5⟩,_⟩:=hS;go_simp;(try with_reducible rfl))
        simp only [Act.put,lsA,lsZ,lsS]))
    refine seqA_call (v:=.bool true) 71 #[.agg #[.int .i64 x.c,.int .i64 x.l,.int .i64 x.n,.int .i64 x.a,.int .i64 x.z]] (by rfl) (fun W=>by go_simp) (fun W hS=>(HZ.out W).mono ?_) ?_
    ·rintro e w1 ⟨rfl,f1⟩;have f2:Fr No wx w1:=hS.2.out.trans f1 (fun _ _ e=>e);exact ⟨rfl,HCE.out w1 f2,lH f2⟩
    simp only [Act.put,lsA,lsZ,lsS];repeat (first
     | (refine seqA_no (by rfl) ?_;simp only [Act.put,lsA,lsZ,lsS])
     | (refine seqA_val (v:= ?_) (by rfl) ?_ ?_
        rotate_left 1
        (intro W hS;obtain ⟨⟨s0,s1,s2,s3,s4,s5⟩,_⟩:=hS;go_simp;(try with_reducible rfl))
        simp only [Act.put,lsA,lsZ,lsS]))
    intro W hS;have HFW:=lH (HFX.out.trans hS.2.out (fun _ _ e=>e));go_wp2_with fail;go_roundw
    case rel=>exact ⟨j+1,G,by go_num,hlt,by omega,lH (own59_fr HOX.out hS.2.out (fun _ _ e=>e)),HFW⟩
    case measure=>simp [intOf];omega
   | false=>
    cases z2 with
    | true=>
     go_wp2_with (refine wpList_load_mid (by rfl) 59 _ (by rfl) wbb (j*5) (by rfl) [.int .i64 x.c,.int .i64 x.l,.int .i64 x.n,.int .i64 x.a,.int .i64 x.z] _ HRR.out Tryz.underlying59 rfl Tryz.size59 ?_);refine wp_region_seq mixed (fun W=>(W.cell? ⟨tb,0,none⟩=some (.int .i64 x.c)∧W.cell? ⟨tb,1,none⟩=some (.int .i64 x.l)∧W.cell? ⟨tb,2,none⟩=some (.int .i64 x.n)∧W.cell? ⟨tb,3,none⟩=some (.int .i64 x.a)∧W.cell? ⟨tb,4,none⟩=some (.int .i64 x.z)∧W.cell? ⟨p,2,none⟩=some (.slice b2 m2l.length c2))∧Hid (Fr No wx W)) (by kernel_rfl) (by kernel_rfl) (fun _ _ d _ _ h=>by cases d<;>exact h) ⟨HCE.out wx.drew (fr_dr (Fr.refl wx)),lH (fr_dr (Fr.refl wx))⟩ ?_;repeat (first
      | (refine seqA_no (by rfl) ?_;simp only [Act.put,lsA,lsZ,lsS])
      | (refine seqA_val (v:= ?_) (by rfl) ?_ ?_
         rotate_left 1
         (intro W hS;obtain ⟨⟨s0,s1,s2,s3,s4,s5⟩,_⟩:=hS;go_simp;(try with_reducible rfl))
         simp only [Act.put,lsA,lsZ,lsS]))
     refine seqA_call (v:=.bool false) 71 #[.agg #[.int .i64 x.c,.int .i64 x.l,.int .i64 x.n,.int .i64 x.a,.int .i64 x.z]] (by rfl) (fun W=>by go_simp) (fun W hS=>(HZ.out W).mono ?_) ?_
     ·rintro e w1 ⟨rfl,f1⟩;have f2:Fr No wx w1:=hS.2.out.trans f1 (fun _ _ e=>e);exact ⟨rfl,HCE.out w1 f2,lH f2⟩
     simp only [Act.put,lsA,lsZ,lsS];repeat (first
      | (refine seqA_no (by rfl) ?_;simp only [Act.put,lsA,lsZ,lsS])
      | (refine seqA_val (v:= ?_) (by rfl) ?_ ?_
         rotate_left 1
         (intro W hS;obtain ⟨⟨s0,s1,s2,s3,s4,s5⟩,_⟩:=hS;go_simp;(try with_reducible rfl))
         simp only [Act.put,lsA,lsZ,lsS]))
     refine seqA_call (v:=.agg #[.int .i64 at_.c,.int .i64 at_.l,.int .i64 at_.n,.int .i64 at_.a,.int .i64 at_.z]) 36 #[.pointer (some ⟨p,0,none⟩),.int .i64 j] (by rfl) (fun W=>by go_simp) (fun W hS=>(HA.out W hS.2.out).mono ?_) ?_
     ·rintro e w1 ⟨rfl,f1⟩;have f2:Fr No wx w1:=hS.2.out.trans f1 (fun _ _ e=>e);exact ⟨rfl,HCE.out w1 f2,lH f2⟩
     simp only [Act.put,lsA,lsZ,lsS];repeat (first
      | (refine seqA_no (by rfl) ?_;simp only [Act.put,lsA,lsZ,lsS])
      | (refine seqA_val (v:= ?_) (by rfl) ?_ ?_
         rotate_left 1
         (intro W hS;obtain ⟨⟨s0,s1,s2,s3,s4,s5⟩,_⟩:=hS;go_simp;(try with_reducible rfl))
         simp only [Act.put,lsA,lsZ,lsS]))
     intro W hS;have HFW:=lH (HFX.out.trans hS.2.out (fun _ _ e=>e));go_wp2_with fail;go_roundw
     case rel=>exact ⟨j+1,G,by go_num,hlt,by omega,lH (own59_fr HOX.out hS.2.out (fun _ _ e=>e)),HFW⟩
     case measure=>simp [intOf];omega
    | false=>
     cases z3 with
     | true=>
      go_wp2_with (refine wpList_load_mid (by rfl) 59 _ (by rfl) wbb (j*5) (by rfl) [.int .i64 x.c,.int .i64 x.l,.int .i64 x.n,.int .i64 x.a,.int .i64 x.z] _ HRR.out Tryz.underlying59 rfl Tryz.size59 ?_);refine wp_region_seq mixed (fun W=>(W.cell? ⟨tb,0,none⟩=some (.int .i64 x.c)∧W.cell? ⟨tb,1,none⟩=some (.int .i64 x.l)∧W.cell? ⟨tb,2,none⟩=some (.int .i64 x.n)∧W.cell? ⟨tb,3,none⟩=some (.int .i64 x.a)∧W.cell? ⟨tb,4,none⟩=some (.int .i64 x.z)∧W.cell? ⟨p,2,none⟩=some (.slice b2 m2l.length c2))∧Hid (Fr No wx W)) (by kernel_rfl) (by kernel_rfl) (fun _ _ d _ _ h=>by cases d<;>exact h) ⟨HCE.out wx.drew (fr_dr (Fr.refl wx)),lH (fr_dr (Fr.refl wx))⟩ ?_;repeat (first
       | (refine seqA_no (by rfl) ?_;simp only [Act.put,lsA,lsZ,lsS])
       | (refine seqA_val (v:= ?_) (by rfl) ?_ ?_
          rotate_left 1
          (intro W hS;obtain ⟨⟨s0,s1,s2,s3,s4,s5⟩,_⟩:=hS;go_simp;(try with_reducible rfl))
          simp only [Act.put,lsA,lsZ,lsS]))
      refine seqA_call (v:=.bool false) 71 #[.agg #[.int .i64 x.c,.int .i64 x.l,.int .i64 x.n,.int .i64 x.a,.int .i64 x.z]] (by rfl) (fun W=>by go_simp) (fun W hS=>(HZ.out W).mono ?_) ?_
      ·rintro e w1 ⟨rfl,f1⟩;have f2:Fr No wx w1:=hS.2.out.trans f1 (fun _ _ e=>e);exact ⟨rfl,HCE.out w1 f2,lH f2⟩
      simp only [Act.put,lsA,lsZ,lsS];repeat (first
       | (refine seqA_no (by rfl) ?_;simp only [Act.put,lsA,lsZ,lsS])
       | (refine seqA_val (v:= ?_) (by rfl) ?_ ?_
          rotate_left 1
          (intro W hS;obtain ⟨⟨s0,s1,s2,s3,s4,s5⟩,_⟩:=hS;go_simp;(try with_reducible rfl))
          simp only [Act.put,lsA,lsZ,lsS]))
      refine seqA_call (v:=.agg #[.int .i64 at_.c,.int .i64 at_.l,.int .i64 at_.n,.int .i64 at_.a,.int .i64 at_.z]) 36 #[.pointer (some ⟨p,0,none⟩),.int .i64 j] (by rfl) (fun W=>by go_simp) (fun W hS=>(HA.out W hS.2.out).mono ?_) ?_
      ·rintro e w1 ⟨rfl,f1⟩;have f2:Fr No wx w1:=hS.2.out.trans f1 (fun _ _ e=>e);exact ⟨rfl,HCE.out w1 f2,lH f2⟩
      simp only [Act.put,lsA,lsZ,lsS];repeat (first
       | (refine seqA_no (by rfl) ?_;simp only [Act.put,lsA,lsZ,lsS])
       | (refine seqA_val (v:= ?_) (by rfl) ?_ ?_
          rotate_left 1
          (intro W hS;obtain ⟨⟨s0,s1,s2,s3,s4,s5⟩,_⟩:=hS;go_simp;(try with_reducible rfl))
          simp only [Act.put,lsA,lsZ,lsS]))
      refine seqA_call (v:=.bool true) 144 #[.slice b2 m2l.length c2,.agg #[.int .i64 x.c,.int .i64 x.l,.int .i64 x.n,.int .i64 x.a,.int .i64 x.z]] (by rfl) (fun W=>by go_simp) (fun W hS=>(HC1.out W hS.2.out).mono ?_) ?_
      ·rintro e w1 ⟨rfl,f1⟩;have f2:Fr No wx w1:=hS.2.out.trans f1 (fun _ _ e=>e);exact ⟨rfl,HCE.out w1 f2,lH f2⟩
      simp only [Act.put,lsA,lsZ,lsS];repeat (first
       | (refine seqA_no (by rfl) ?_;simp only [Act.put,lsA,lsZ,lsS])
       | (refine seqA_val (v:= ?_) (by rfl) ?_ ?_
          rotate_left 1
          (intro W hS;obtain ⟨⟨s0,s1,s2,s3,s4,s5⟩,_⟩:=hS;go_simp;(try with_reducible rfl))
          simp only [Act.put,lsA,lsZ,lsS]))
      intro W hS;have HFW:=lH (HFX.out.trans hS.2.out (fun _ _ e=>e));go_wp2_with fail;go_roundw
      case rel=>exact ⟨j+1,G,by go_num,hlt,by omega,lH (own59_fr HOX.out hS.2.out (fun _ _ e=>e)),HFW⟩
      case measure=>simp [intOf];omega
     | false=>
      cases z4 with
      | true=>
       go_wp2_with (refine wpList_load_mid (by rfl) 59 _ (by rfl) wbb (j*5) (by rfl) [.int .i64 x.c,.int .i64 x.l,.int .i64 x.n,.int .i64 x.a,.int .i64 x.z] _ HRR.out Tryz.underlying59 rfl Tryz.size59 ?_);refine wp_region_seq mixed (fun W=>(W.cell? ⟨tb,0,none⟩=some (.int .i64 x.c)∧W.cell? ⟨tb,1,none⟩=some (.int .i64 x.l)∧W.cell? ⟨tb,2,none⟩=some (.int .i64 x.n)∧W.cell? ⟨tb,3,none⟩=some (.int .i64 x.a)∧W.cell? ⟨tb,4,none⟩=some (.int .i64 x.z)∧W.cell? ⟨p,2,none⟩=some (.slice b2 m2l.length c2))∧Hid (Fr No wx W)) (by kernel_rfl) (by kernel_rfl) (fun _ _ d _ _ h=>by cases d<;>exact h) ⟨HCE.out wx.drew (fr_dr (Fr.refl wx)),lH (fr_dr (Fr.refl wx))⟩ ?_;repeat (first
        | (refine seqA_no (by rfl) ?_;simp only [Act.put,lsA,lsZ,lsS])
        | (refine seqA_val (v:= ?_) (by rfl) ?_ ?_
           rotate_left 1
           (intro W hS;obtain ⟨⟨s0,s1,s2,s3,s4,s5⟩,_⟩:=hS;go_simp;(try with_reducible rfl))
           simp only [Act.put,lsA,lsZ,lsS]))
       refine seqA_call (v:=.bool false) 71 #[.agg #[.int .i64 x.c,.int .i64 x.l,.int .i64 x.n,.int .i64 x.a,.int .i64 x.z]] (by rfl) (fun W=>by go_simp) (fun W hS=>(HZ.out W).mono ?_) ?_
       ·rintro e w1 ⟨rfl,f1⟩;have f2:Fr No wx w1:=hS.2.out.trans f1 (fun _ _ e=>e);exact ⟨rfl,HCE.out w1 f2,lH f2⟩
       simp only [Act.put,lsA,lsZ,lsS];repeat (first
        | (refine seqA_no (by rfl) ?_;simp only [Act.put,lsA,lsZ,lsS])
        | (refine seqA_val (v:= ?_) (by rfl) ?_ ?_
           rotate_left 1
           (intro W hS;obtain ⟨⟨s0,s1,s2,s3,s4,s5⟩,_⟩:=hS;go_simp;(try with_reducible rfl))
           simp only [Act.put,lsA,lsZ,lsS]))
       refine seqA_call (v:=.agg #[.int .i64 at_.c,.int .i64 at_.l,.int .i64 at_.n,.int .i64 at_.a,.int .i64 at_.z]) 36 #[.pointer (some ⟨p,0,none⟩),.int .i64 j] (by rfl) (fun W=>by go_simp) (fun W hS=>(HA.out W hS.2.out).mono ?_) ?_
       ·rintro e w1 ⟨rfl,f1⟩;have f2:Fr No wx w1:=hS.2.out.trans f1 (fun _ _ e=>e);exact ⟨rfl,HCE.out w1 f2,lH f2⟩
       simp only [Act.put,lsA,lsZ,lsS];repeat (first
        | (refine seqA_no (by rfl) ?_;simp only [Act.put,lsA,lsZ,lsS])
        | (refine seqA_val (v:= ?_) (by rfl) ?_ ?_
           rotate_left 1
           (intro W hS;obtain ⟨⟨s0,s1,s2,s3,s4,s5⟩,_⟩:=hS;go_simp;(try with_reducible rfl))
           simp only [Act.put,lsA,lsZ,lsS]))
       refine seqA_call (v:=.bool false) 144 #[.slice b2 m2l.length c2,.agg #[.int .i64 x.c,.int .i64 x.l,.int .i64 x.n,.int .i64 x.a,.int .i64 x.z]] (by rfl) (fun W=>by go_simp) (fun W hS=>(HC1.out W hS.2.out).mono ?_) ?_
       ·rintro e w1 ⟨rfl,f1⟩;have f2:Fr No wx w1:=hS.2.out.trans f1 (fun _ _ e=>e);exact ⟨rfl,HCE.out w1 f2,lH f2⟩
       simp only [Act.put,lsA,lsZ,lsS];repeat (first
        | (refine seqA_no (by rfl) ?_;simp only [Act.put,lsA,lsZ,lsS])
        | (refine seqA_val (v:= ?_) (by rfl) ?_ ?_
           rotate_left 1
           (intro W hS;obtain ⟨⟨s0,s1,s2,s3,s4,s5⟩,_⟩:=hS;go_simp;(try with_reducible rfl))
           simp only [Act.put,lsA,lsZ,lsS]))
       refine seqA_call (v:=.bool true) 144 #[.slice ga G.length gc,.agg #[.int .i64 x.c,.int .i64 x.l,.int .i64 x.n,.int .i64 x.a,.int .i64 x.z]] (by rfl) (fun W=>by go_simp) (fun W hS=>(HC2.out W hS.2.out).mono ?_) ?_
       ·rintro e w1 ⟨rfl,f1⟩;have f2:Fr No wx w1:=hS.2.out.trans f1 (fun _ _ e=>e);exact ⟨rfl,HCE.out w1 f2,lH f2⟩
       simp only [Act.put,lsA,lsZ,lsS];repeat (first
        | (refine seqA_no (by rfl) ?_;simp only [Act.put,lsA,lsZ,lsS])
        | (refine seqA_val (v:= ?_) (by rfl) ?_ ?_
           rotate_left 1
           (intro W hS;obtain ⟨⟨s0,s1,s2,s3,s4,s5⟩,_⟩:=hS;go_simp;(try with_reducible rfl))
           simp only [Act.put,lsA,lsZ,lsS]))
       intro W hS;have HFW:=lH (HFX.out.trans hS.2.out (fun _ _ e=>e));go_wp2_with fail;go_roundw
       case rel=>exact ⟨j+1,G,by go_num,hlt,by omega,lH (own59_fr HOX.out hS.2.out (fun _ _ e=>e)),HFW⟩
       case measure=>simp [intOf];omega
      | false=>
       go_wp2_with (refine wpList_load_mid (by rfl) 59 _ (by rfl) wbb (j*5) (by rfl) [.int .i64 x.c,.int .i64 x.l,.int .i64 x.n,.int .i64 x.a,.int .i64 x.z] _ HRR.out Tryz.underlying59 rfl Tryz.size59 ?_);refine wp_region_seq mixed (fun W=>(W.cell? ⟨tb,0,none⟩=some (.int .i64 x.c)∧W.cell? ⟨tb,1,none⟩=some (.int .i64 x.l)∧W.cell? ⟨tb,2,none⟩=some (.int .i64 x.n)∧W.cell? ⟨tb,3,none⟩=some (.int .i64 x.a)∧W.cell? ⟨tb,4,none⟩=some (.int .i64 x.z)∧W.cell? ⟨p,2,none⟩=some (.slice b2 m2l.length c2))∧Hid (Fr No wx W)) (by kernel_rfl) (by kernel_rfl) (fun _ _ d _ _ h=>by cases d<;>exact h) ⟨HCE.out wx.drew (fr_dr (Fr.refl wx)),lH (fr_dr (Fr.refl wx))⟩ ?_;repeat (first
        | (refine seqA_no (by rfl) ?_;simp only [Act.put,lsA,lsZ,lsS])
        | (refine seqA_val (v:= ?_) (by rfl) ?_ ?_
           rotate_left 1
           (intro W hS;obtain ⟨⟨s0,s1,s2,s3,s4,s5⟩,_⟩:=hS;go_simp;(try with_reducible rfl))
           simp only [Act.put,lsA,lsZ,lsS]))
       refine seqA_call (v:=.bool false) 71 #[.agg #[.int .i64 x.c,.int .i64 x.l,.int .i64 x.n,.int .i64 x.a,.int .i64 x.z]] (by rfl) (fun W=>by go_simp) (fun W hS=>(HZ.out W).mono ?_) ?_
       ·rintro e w1 ⟨rfl,f1⟩;have f2:Fr No wx w1:=hS.2.out.trans f1 (fun _ _ e=>e);exact ⟨rfl,HCE.out w1 f2,lH f2⟩
       simp only [Act.put,lsA,lsZ,lsS];repeat (first
        | (refine seqA_no (by rfl) ?_;simp only [Act.put,lsA,lsZ,lsS])
        | (refine seqA_val (v:= ?_) (by rfl) ?_ ?_
           rotate_left 1
           (intro W hS;obtain ⟨⟨s0,s1,s2,s3,s4,s5⟩,_⟩:=hS;go_simp;(try with_reducible rfl))
           simp only [Act.put,lsA,lsZ,lsS]))
       refine seqA_call (v:=.agg #[.int .i64 at_.c,.int .i64 at_.l,.int .i64 at_.n,.int .i64 at_.a,.int .i64 at_.z]) 36 #[.pointer (some ⟨p,0,none⟩),.int .i64 j] (by rfl) (fun W=>by go_simp) (fun W hS=>(HA.out W hS.2.out).mono ?_) ?_
       ·rintro e w1 ⟨rfl,f1⟩;have f2:Fr No wx w1:=hS.2.out.trans f1 (fun _ _ e=>e);exact ⟨rfl,HCE.out w1 f2,lH f2⟩
       simp only [Act.put,lsA,lsZ,lsS];repeat (first
        | (refine seqA_no (by rfl) ?_;simp only [Act.put,lsA,lsZ,lsS])
        | (refine seqA_val (v:= ?_) (by rfl) ?_ ?_
           rotate_left 1
           (intro W hS;obtain ⟨⟨s0,s1,s2,s3,s4,s5⟩,_⟩:=hS;go_simp;(try with_reducible rfl))
           simp only [Act.put,lsA,lsZ,lsS]))
       refine seqA_call (v:=.bool false) 144 #[.slice b2 m2l.length c2,.agg #[.int .i64 x.c,.int .i64 x.l,.int .i64 x.n,.int .i64 x.a,.int .i64 x.z]] (by rfl) (fun W=>by go_simp) (fun W hS=>(HC1.out W hS.2.out).mono ?_) ?_
       ·rintro e w1 ⟨rfl,f1⟩;have f2:Fr No wx w1:=hS.2.out.trans f1 (fun _ _ e=>e);exact ⟨rfl,HCE.out w1 f2,lH f2⟩
       simp only [Act.put,lsA,lsZ,lsS];repeat (first
        | (refine seqA_no (by rfl) ?_;simp only [Act.put,lsA,lsZ,lsS])
        | (refine seqA_val (v:= ?_) (by rfl) ?_ ?_
           rotate_left 1
           (intro W hS;obtain ⟨⟨s0,s1,s2,s3,s4,s5⟩,_⟩:=hS;go_simp;(try with_reducible rfl))
           simp only [Act.put,lsA,lsZ,lsS]))
       refine seqA_call (v:=.bool false) 144 #[.slice ga G.length gc,.agg #[.int .i64 x.c,.int .i64 x.l,.int .i64 x.n,.int .i64 x.a,.int .i64 x.z]] (by rfl) (fun W=>by go_simp) (fun W hS=>(HC2.out W hS.2.out).mono ?_) ?_
       ·rintro e w1 ⟨rfl,f1⟩;have f2:Fr No wx w1:=hS.2.out.trans f1 (fun _ _ e=>e);exact ⟨rfl,HCE.out w1 f2,lH f2⟩
       simp only [Act.put,lsA,lsZ,lsS];repeat (first
        | (refine seqA_no (by rfl) ?_;simp only [Act.put,lsA,lsZ,lsS])
        | (refine seqA_val (v:= ?_) (by rfl) ?_ ?_
           rotate_left 1
           (intro W hS;obtain ⟨⟨s0,s1,s2,s3,s4,s5⟩,_⟩:=hS;go_simp;(try with_reducible rfl))
           simp only [Act.put,lsA,lsZ,lsS]))
       intro W hS;have HFW:=lH (HFX.out.trans hS.2.out (fun _ _ e=>e));have HOW:=lH (own59_fr HOX.out hS.2.out (fun _ _ e=>e));have hszl:=HFW.out.size;obtain ⟨⟨s0,s1,s2,s3,s4,s5⟩,_⟩:=hS;go_wp2_with (at_builtin;(refine wpList_append_lies _ (by rfl) _ _ 77 (by rfl) w3.heap.size 59 i0 _ 5 40 Tryz.underlying77 HI0.out HI1.out HI2.out HI3.out rfl (by decide) (.slice ga G.length gc) G.length (G.flatMap ptC) (by rfl) (HOW.out.alloc _) ⟨W.heap.size,0,none⟩ 1 1 [.int .i64 x.c,.int .i64 x.l,.int .i64 x.n,.int .i64 x.a,.int .i64 x.z] (by rfl) (by rfl) ?d1 (by simp [Value.oneCell']) (by decide) (by unfold maxLen;omega) (by omega) ?d5 (W.heap.size+1) ?d6 ?_))
       case d1=>exact World.news_of_block (cs:= #[.int .i64 x.c,.int .i64 x.l,.int .i64 x.n,.int .i64 x.a,.int .i64 x.z]) (t:=59) (fr:=(0,0)) (heap_alloc_new W _)
       case d5=>rw [heap_size_alloc];omega
       case d6=>simp
       intro gg cap wD hownD hgrow hat hgl;have hnl:Fr No w3 wD:=by
        refine (HFW.out.alloc _).grown hgrow (fun j hj=> .inr ?_);exact own59_base HOW.out j hj
       have HNL:=lH hnl;have HOD:=lH hownD;clear hownD hgrow hat hgl hnl;go_wp2_with fail;go_roundw
       case rel=>
        refine ⟨j+1,G++ [x],by go_num,hlt,by rw [List.length_append,List.length_singleton];omega,lH ?_,HNL⟩;have h9:=HOD.out;rw [List.flatMap_append,List.length_append];simp only [List.flatMap_cons,List.flatMap_nil,List.append_nil,List.length_singleton];exact h9
       case measure=>simp [intOf];omega
  ·obtain rfl:j=m.l.length:=by omega
   have q1:¬(m.l.length:Int)<(m.l.length:Int):=(by omega)
   go_wp2_with fail;exact HR.out _ true _ (HFIN.out _ HF.out)
end Go.Proofs.YtlcojhddnpmgmaaGreat
