/- Part of a proof. -/
import Derived.Test.YtlcojhddnpmgmaaGreatV11
set_option linter.unusedSimpArgs false
set_option linter.unusedVariables false
set_option maxRecDepth 100000
set_option maxHeartbeats 12800000
namespace Go.Proofs.YtlcojhddnpmgmaaGreat
open Go.RowKit Go.Proofs.Tryz
theorem aAe (o:Nat→Nat) (K i p:Nat) (m:aG) (d:Dl) (w:World) (h:eH w o K i p m) (hf:aP w o) (hi:i<1000) (hml0:fU m) (hd:dU d) (hc:iR m d) (hk1:d.k=3):
  Calls prog 96 #[.pointer (some ⟨p,0,none⟩),iU d] w (nG w o K i p (iC m d)):=by
 have hl:m.l.length≤1000:=by rw [hml0.2];have:=hml0.1;unfold dY;omega
 have f0:Fr No w (w.alloc (.cells (dK d).toArray 61)):=(Fr.refl w).alloc _;have k0:bZ (w.alloc (.cells (dK d).toArray 61)) w.heap.size d:=aO w _;have HCAN:=lH (Bf p m d _ (h.reads.fr f0) hl hd);rw [decide_eq_true hc] at HCAN;have HR:Hid (∀v b w',jM w o K i p (iC m d) w'→nG w o K i p (iC m d) (.returned (.tuple #[v,.bool b])) w'):=lH (fun v b w' g=>⟨⟨v,b,rfl⟩,g⟩);generalize nG w o K i p (iC m d)=Q at*;have F0:=lH f0;have H0:=lH h;have HF:=lH hf;obtain ⟨_,v,hk,_⟩:=id h;have hk0:=f0.aC hk id;have HLEN:=lH hml0;have HD:=lH hd;have HC:=lH hc;have HK0:=lH k0;obtain ⟨i0,hi0,hz0,hz1,hz2⟩:=info_parts Tryz.wL;have HI0:=lH hi0;have HI1:=lH hz0;have HI2:=lH hz1;have HI3:=lH hz2;unfold mO at HCAN;unfold iU at*;have c0:(w.alloc (.cells (dK d).toArray 61)).cell? ⟨p,0,none⟩=some (.bool true):=by rw [aA hk0];rfl
 unfold dK at HCAN F0 c0;have HKK:=lH hk1;clear hf hk hk0 f0 hd hc h k0 hi0 hz0 hz1 hz2 hk1;go_enter func96,ntmps96;go_wp2_with fail;refine HCAN.o.mono ?_;rintro e w1 ⟨rfl,f1⟩;have F1:=lH (F0.o.trans f1 kp);have HK1:=lH (HK0.o.fr f1);obtain ⟨v,hk,hv⟩:=H0.o.reads.fr F1.o;have c2:w1.cell? ⟨p,2,none⟩=some v:=by rw [aA hk];rfl
 have HCL:=lH (xU v m.l w1 hv (by omega));clear c0 hk hv f1 HCAN;go_wp2_with fail;refine HCL.o.mono ?_;rintro e w2 ⟨vw,rfl,ho,f2⟩;have F2:=lH (F1.o.trans f2 kp);have HW2:=lH ((tK ho).z (Step.no (C:=fun _=>False) HF.o F1.o).fresh);have HK2:=lH (HK1.o.fr f2);obtain ⟨x0,x1,x2,x3,x4,x5,x6,x7,x8,x9,x10,x11,x12,x13⟩:=HK2.o.cells;rw [HKK.o] at x0;have H2:=lH (H0.o.no HF.o F2.o);have HF2:=lH (Step.no (C:=fun _=>False) HF.o F2.o).fresh;clear ho f2 c2 HCL;have mixed:prog.follows .mixedOrders=true:=by kernel_rfl
 have h3:=HD.o.2.2.1;obtain ⟨nb,hnb⟩:∃n:Nat,d.b=n:=⟨d.b.toNat,by omega⟩
 have hnlz:nb<m.l.length:=by
  rcases HC.o with ⟨h,_⟩|h|⟨_,h,_⟩
  ·have:=HKK.o;omega
  ·have:=HKK.o;omega
  ·omega
 have HDM:Hid (iC m d=⟨m.size,m.l.set nb d.t⟩):=lH (by unfold iC;rw [HKK.o,hnb];rfl);rw [hnb] at x2;obtain ⟨hp2,v',hk',_⟩:=id H2.o;obtain ⟨v'',hk'',hv'⟩:=H2.o.reads;have hvv:v'=v'':=by
  rw [hk'] at hk'';simpa using hk''
 subst hvv;have c1:w2.cell? ⟨p,2,none⟩=some v':=by rw [aA hk'];rfl
 have HCL2:=lH (xU v' m.l w2 hv' (by omega));have HK2p:=lH hk';have HP2:=lH hp2;obtain ⟨wb,wc,rfl⟩:=HW2.o.val.slice;clear hk' hk'' hv' hp2;go_wp2_with fail;refine HCL2.o.mono ?_;rintro e w25 ⟨vc,rfl,ho2,f25⟩;rcases tK ho2 with ⟨_,hnil⟩|⟨bb,bc,rfl,hbm,hbb,hbr⟩
 ·rw [hnil] at hnlz;simp at hnlz
 have k25:=f25.aC HK2p.o id;have z25:w25.frozen? ⟨p,2,none⟩=false:=bU k25 2;have c25:w25.cell? ⟨p,2,none⟩=some v':=by rw [aA k25];rfl
 have fs:Fr (· =p) w2 (w25.setCell ⟨p,2,none⟩ (.slice (some ⟨bb,0,none⟩) m.l.length bc)):=f25.bK.trans (jQ w25 p 2 _) kp;have hpl:=lt_of_block HK2p.o;have HG:Hid (jM w2 o K i p ⟨m.size,m.l⟩ (w25.setCell ⟨p,2,none⟩ (.slice (some ⟨bb,0,none⟩) m.l.length bc))):=lH
  (eH.Ba HP2.o HK2p.o HF2.o hbb fs (setCell_at k25 2 _) (hbr.fr (jQ w25 p 2 _) (by omega)) hbm)
 obtain ⟨w30,hw30⟩:∃w30,w30=w25.setCell ⟨p,2,none⟩ (.slice (some ⟨bb,0,none⟩) m.l.length bc):=⟨_,rfl⟩
 rw [← hw30] at HG;obtain ⟨o3,s3,hf3⟩:=HG.o;have y:=(s3.block HK2.o (by rw [HF.o _ (Nat.le_refl _)];exact sZ K i):bZ w30 w.heap.size d)
 have s3':=s3;have HS3:Hid (Step (dN K i) w o w30 o3):=lH (((Step.no (C:=fun _=>False) HF.o F2.o).mono (fun _ e=>e.elim)).trans s3' (fun _ e=>e));have HFR3:Hid (aP w30.drew o3):=lH s3.fresh;have HFR30:Hid (aP w30 o3):=lH s3.fresh;have hbx:o w.heap.size=0:=HF.o _ (Nat.le_refl _);have HK3b:Hid (bZ w30 w.heap.size d):=lH (s3'.block HK2.o (by rw [hbx];exact sZ K i));have HW3:Hid (tY w30 o3 (.slice wb m.l.length wc) m.l):=lH (HW2.o.step s3' (sZ K i));obtain ⟨hp3,v3,hk3,hv3⟩:=hf3;dsimp only at hk3 hv3;rcases hv3 with ⟨_,hnil⟩|⟨b3,cap3,rfl,hm3,hb3,hr3⟩
 ·rw [hnil] at hnlz;simp at hnlz
 have hlen3:=hr3.len;have hml3:cap3≤9223372036854775807:=hm3;have d2:w30.cell? ⟨p,2,none⟩=some (.slice (some ⟨b3,0,none⟩) m.l.length cap3):=by rw [aA hk3];rfl
 have t1:(nb:Int)<(m.l.length:Int):=by omega
 have t2:(0:Int)≤(nb:Int):=by omega
 have t3:(nb:Int)<(cap3:Int):=by omega
 have HTH:Hid (w30.drew.there b3 (nb*5) 5):=lH (bP.there (hr3.fr (S:=No) (w':=w30.drew) ⟨rfl,rfl,rfl,Nat.le_refl _,fun _ _ _=>rfl⟩ id) nb 5 (by omega));have HOC:Hid ((#[.int .i64 d.t.c,.int .i64 d.t.l,.int .i64 d.t.n,.int .i64 d.t.a,.int .i64 d.t.z]:Array Value).all (·.oneCell')=true):=lH (by simp [Value.oneCell']);have HR3:Hid (bP dB 5 59 w30.drew b3 cap3 m.l):=lH (hr3.fr (S:=No) (w':=w30.drew) ⟨rfl,rfl,rfl,Nat.le_refl _,fun _ _ _=>rfl⟩ id);have HP3:=lH hp3;have HK3:Hid (w30.drew.heap[p]? =some (.cells #[.bool true,.int .i64 m.size,.slice (some ⟨b3,0,none⟩) m.l.length cap3] 135 (0,0))):=lH hk3;have HB3:=lH hb3;obtain ⟨y0,y1,y2,y3,y4,y5,y6,y7,y8,y9,y10,y11,y12,y13⟩:=HK3b.o.cells;rw [hnb] at y2;clear hp3 hk3 hb3 hr3 s3 s3' x0 x1 x2 x3 x4 x5 x6 x7 x8 x9 x10 x11 x12 x13 c1 y fs k25 ho2 f25 HG HCL2 hbr;have HFA:Hid (∃o2,Step (dN K i) w o (w30.drew.setCells b3 (nb*5) (dB d.t)) o2∧eH (w30.drew.setCells b3 (nb*5) (dB d.t)) o2 K i p (iC m d)):=lH (by
  obtain ⟨o4,s4,hf4⟩:=eH.setAt (n:=0) (w:=w30.drew) HP3.o HK3.o HFR3.o HB3.o hi hm3 HR3.o nb hnlz d.t;exact ⟨o4,HS3.o.trans (Step.trans ((Step.no (C:=fun _=>False) (w:=w30) (w':=w30.drew) HFR30.o ⟨rfl,rfl,rfl,Nat.le_refl _,fun _ _ _=>rfl⟩).mono (D:=dN K i) (fun _ e=>e.elim)) s4 (fun _ e=>e)) (fun _ e=>e),by rw [HDM.o];exact hf4⟩)
 have HWAS:Hid (lW (w30.drew.setCells b3 (nb*5) (dB d.t)) (.slice wb m.l.length wc) m.l):=lH (by
  obtain ⟨o4,s4,hf4⟩:=eH.setAt (n:=0) (w:=w30.drew) HP3.o HK3.o HFR3.o HB3.o hi hm3 HR3.o nb hnlz d.t;exact (HW3.o.step (Step.trans ((Step.no (C:=fun _=>False) (w:=w30) (w':=w30.drew) HFR30.o ⟨rfl,rfl,rfl,Nat.le_refl _,fun _ _ _=>rfl⟩).mono (D:=dN K i) (fun _ e=>e.elim)) s4 (fun _ e=>e)) (sZ K i)).val)
 go_wp2_with fail;rw [← hw30];clear hw30;refine gK mixed (fun W=>W=w30.drew) [8,9] (by kernel_rfl) (by kernel_rfl) (by kernel_rfl) (by kernel_rfl) (fun _ _ d _ _ h=>by cases d<;>exact h) rfl ?_;repeat (first
  | refine fM (by rfl) ?_
  | (refine fO (v:= ?_) (by rfl) (by rfl) ?_ ?_
     rotate_left 1
     (intro W;go_simp;(try with_reducible rfl))
     simp only [pT,aB,lsS])
  | (refine dM (v:= ?_) (by rfl) (by kernel_rfl) (by rfl) ?_ ?_
     rotate_left 1
     (intro W hS;subst hS;go_simp;(try with_reducible rfl))
     simp only [pT,aB,lsS]))
 intro W hS;subst hS;simp only [List.reverse_cons,List.reverse_nil,List.nil_append,List.cons_append];go_wp2_with (refine wpList_store_mid (by rfl) 59 (.tmp 76) (.tmp 75) (by rfl) b3 (nb*5) #[.int .i64 d.t.c,.int .i64 d.t.l,.int .i64 d.t.n,.int .i64 d.t.a,.int .i64 d.t.z] ?a1 ?a2 ?a3 Tryz.iO ?a4 ?_)
 case a1=>rfl
 case a2=>rfl
 case a3=>exact HTH.o
 case a4=>exact HOC.o
 unfold dB at HFA HWAS;generalize w30.drew.setCells b3 (nb*5) [.int .i64 d.t.c,.int .i64 d.t.l,.int .i64 d.t.n,.int .i64 d.t.a,.int .i64 d.t.z]=w3 at*;generalize iC m d=m2 at*;clear y0 y1 y2 y3 y4 y5 y6 y7 y8 y9 y10 y11 y12 y13 d2 t1 t2 t3;have HFA0:=HFA.o;obtain ⟨o2,hs2,hf2⟩:=HFA0;have HFR:=lH hf2.reads;have HFIN:Hid (∀W,Fr No w3 W→jM w o K i p m2 W):=lH (fun W f=>⟨o2,hs2.trans (Step.no (C:=fun _=>False) hs2.fresh f) (fun _ e=>e.elim),hf2.no hs2.fresh f⟩);clear hs2 hf2 HFA;have mixed:prog.follows .mixedOrders=true:=by kernel_rfl
 go_loopw [7,79] (fun g a wr=>∃(j:Nat) (G:List Pt),a=.int .i64 j∧j≤m.l.length∧G.length≤j∧Hid (wr.ownsRow w3.heap.size 59 5 g G.length (G.flatMap dB))∧Hid (Fr No w3 wr)) (fun _ a _=>m.l.length - (intOf a).toNat)
 case atStart=>exact ⟨0, [],rfl,Nat.zero_le _,Nat.le_refl _,lH ⟨rfl,.inl ⟨rfl,rfl⟩⟩,lH (Fr.refl _)⟩
 case round=>
  obtain ⟨j,G,rfl,hj,hGj,HO,HF⟩:=hrel;obtain ⟨ga,gc,rfl⟩:=HO.o.shape;by_cases hlt:j<m.l.length
  ·obtain ⟨wbb,rfl,hwm,hwr⟩:=(HWAS.o.fr HF.o).row (by omega);have HRR:=lH (hwr.row j m.l[j] (List.getElem?_eq_getElem hlt));have hlen:=hwr.len;have hml:wc≤9223372036854775807:=hwm;have q1:(j:Int)<(m.l.length:Int):=(by omega)
   have q2:(j:Int)<(wc:Int):=(by omega)
   have q3:(0:Int)≤(j:Int):=(by omega)
   generalize m.l[j]=x at*;unfold dB at HRR;have fx:Fr No wr (wr.alloc (.cells #[.int .i64 x.c,.int .i64 x.l,.int .i64 x.n,.int .i64 x.a,.int .i64 x.z] 59)):=(Fr.refl wr).alloc _;have kx:=aO wr (.cells #[.int .i64 x.c,.int .i64 x.l,.int .i64 x.n,.int .i64 x.a,.int .i64 x.z] 59);have HOX:=lH (jI HO.o fx kp);have HFX:=lH (HF.o.trans fx kp);generalize hwx:wr.alloc (.cells #[.int .i64 x.c,.int .i64 x.l,.int .i64 x.n,.int .i64 x.a,.int .i64 x.z] 59)=wx at*;generalize htb:wr.heap.size=tb at*;obtain ⟨v2,hk2,hv2⟩:=HFR.o.fr HFX.o;obtain ⟨b2,c2,rfl⟩:=hv2.slice;have HFRX:=lH (HFR.o.fr HFX.o);have HZ:Hid (∀W,Calls prog 71 #[dL x] W fun e w'=>e=.returned (.bool (decide (x=bH)))∧Fr No W w'):=lH (fun W=>rQ 71 (.inl rfl) x W);have HA:Hid (∀W,Fr No wx W→Calls prog 36 #[.pointer (some ⟨p,0,none⟩),.int .i64 j] W (qH W (bG m2 j))):=lH (fun W f=>Cj p m2 j W (HFRX.o.fr f));have HC1:Hid (∀W,Fr No wx W→Calls prog 144 #[.slice b2 m2.l.length c2,dL x] W (qP W (m2.l.any fun y=>decide (x=y)))):=lH (fun W f=>wP _ _ x W (hv2.fr f));have HC2:Hid (∀W,Fr No wx W→Calls prog 144 #[.slice ga G.length gc,dL x] W (qP W (G.any fun y=>decide (x=y)))):=lH (fun W f=>wP _ _ x W (tK (jI HOX.o f kp)).val);have HCE:Hid (∀W,Fr No wx W→W.cell? ⟨tb,0,none⟩=some (.int .i64 x.c)∧W.cell? ⟨tb,1,none⟩=some (.int .i64 x.l)∧W.cell? ⟨tb,2,none⟩=some (.int .i64 x.n)∧W.cell? ⟨tb,3,none⟩=some (.int .i64 x.a)∧W.cell? ⟨tb,4,none⟩=some (.int .i64 x.z)∧W.cell? ⟨p,2,none⟩=some (.slice b2 m2.l.length c2)):=lH (fun W f=>by
    have k:=f.aC kx id;have k2:=f.aC hk2 id;refine ⟨?_,?_,?_,?_,?_,?_⟩
    ·rw [aA k];rfl
    ·rw [aA k];rfl
    ·rw [aA k];rfl
    ·rw [aA k];rfl
    ·rw [aA k];rfl
    ·rw [aA k2];rfl)
   have hN:=fun w=>Gt (bG m2 j).c (bG m2 j).l (bG m2 j).n (bG m2 j).a (bG m2 j).z x.c x.l x.n x.a x.z w;have hNN:decide ((⟨(bG m2 j).c,(bG m2 j).l,(bG m2 j).n,(bG m2 j).a,(bG m2 j).z⟩:Pt)=⟨x.c,x.l,x.n,x.a,x.z⟩)=decide (bG m2 j=x):=rfl;simp only [hNN] at hN;clear hNN kx hk2 hv2 hwr hwm fx;unfold qH at HA;unfold qP at HC1 HC2;unfold dL at HZ HA HC1 HC2;generalize decide (x=bH)=z1 at*;generalize decide (bG m2 j=x)=z2 at*;generalize (m2.l.any fun y=>decide (x=y))=z3 at*;generalize (G.any fun y=>decide (x=y))=z4 at*;generalize bG m2 j=at_ at*;generalize m2.l=m2l at*;cases z1 with
   | true=>
    go_wp2_with (refine wpList_load_mid (by rfl) 59 _ (by rfl) wbb (j*5) (by rfl) [.int .i64 x.c,.int .i64 x.l,.int .i64 x.n,.int .i64 x.a,.int .i64 x.z] _ HRR.o underlying59 rfl Tryz.iO ?_);refine jX mixed (fun W=>(W.cell? ⟨tb,0,none⟩=some (.int .i64 x.c)∧W.cell? ⟨tb,1,none⟩=some (.int .i64 x.l)∧W.cell? ⟨tb,2,none⟩=some (.int .i64 x.n)∧W.cell? ⟨tb,3,none⟩=some (.int .i64 x.a)∧W.cell? ⟨tb,4,none⟩=some (.int .i64 x.z)∧W.cell? ⟨p,2,none⟩=some (.slice b2 m2l.length c2))∧Hid (Fr No wx W)) (by kernel_rfl) (by kernel_rfl) (fun _ _ d _ _ h=>by cases d<;>exact h) ⟨HCE.o wx.drew (fF (Fr.refl wx)),lH (fF (Fr.refl wx))⟩ ?_;repeat (first
     | (refine aY (by rfl) ?_;simp only [pT,aB,lsS])
     | (refine aZ (v:= ?_) (by rfl) ?_ ?_
        rotate_left 1
        (intro W hS;obtain ⟨⟨s0,s1,s2,s3,s4,s5⟩,_⟩:=hS;go_simp;(try with_reducible rfl))
        simp only [pT,aB,lsS]))
    refine bM (v:=.bool true) 71 #[.agg #[.int .i64 x.c,.int .i64 x.l,.int .i64 x.n,.int .i64 x.a,.int .i64 x.z]] (by rfl) (fun W=>by go_simp) (fun W hS=>(HZ.o W).mono ?_) ?_
    ·rintro e w1 ⟨rfl,f1⟩;have f2:Fr No wx w1:=hS.2.o.trans f1 kp;exact ⟨rfl,HCE.o w1 f2,lH f2⟩
    simp only [pT,aB,lsS];repeat (first
     | (refine aY (by rfl) ?_;simp only [pT,aB,lsS])
     | (refine aZ (v:= ?_) (by rfl) ?_ ?_
        rotate_left 1
        (intro W hS;obtain ⟨⟨s0,s1,s2,s3,s4,s5⟩,_⟩:=hS;go_simp;(try with_reducible rfl))
        simp only [pT,aB,lsS]))
    intro W hS;have HFW:=lH (HFX.o.trans hS.2.o kp);go_wp2_with fail;go_roundw
    case rel=>exact ⟨j+1,G,by go_num,hlt,by omega,lH (jI HOX.o hS.2.o kp),HFW⟩
    case measure=>simp [intOf];omega
   | false=>
    cases z2 with
    | true=>
     go_wp2_with (refine wpList_load_mid (by rfl) 59 _ (by rfl) wbb (j*5) (by rfl) [.int .i64 x.c,.int .i64 x.l,.int .i64 x.n,.int .i64 x.a,.int .i64 x.z] _ HRR.o underlying59 rfl Tryz.iO ?_);refine jX mixed (fun W=>(W.cell? ⟨tb,0,none⟩=some (.int .i64 x.c)∧W.cell? ⟨tb,1,none⟩=some (.int .i64 x.l)∧W.cell? ⟨tb,2,none⟩=some (.int .i64 x.n)∧W.cell? ⟨tb,3,none⟩=some (.int .i64 x.a)∧W.cell? ⟨tb,4,none⟩=some (.int .i64 x.z)∧W.cell? ⟨p,2,none⟩=some (.slice b2 m2l.length c2))∧Hid (Fr No wx W)) (by kernel_rfl) (by kernel_rfl) (fun _ _ d _ _ h=>by cases d<;>exact h) ⟨HCE.o wx.drew (fF (Fr.refl wx)),lH (fF (Fr.refl wx))⟩ ?_;repeat (first
      | (refine aY (by rfl) ?_;simp only [pT,aB,lsS])
      | (refine aZ (v:= ?_) (by rfl) ?_ ?_
         rotate_left 1
         (intro W hS;obtain ⟨⟨s0,s1,s2,s3,s4,s5⟩,_⟩:=hS;go_simp;(try with_reducible rfl))
         simp only [pT,aB,lsS]))
     refine bM (v:=.bool false) 71 #[.agg #[.int .i64 x.c,.int .i64 x.l,.int .i64 x.n,.int .i64 x.a,.int .i64 x.z]] (by rfl) (fun W=>by go_simp) (fun W hS=>(HZ.o W).mono ?_) ?_
     ·rintro e w1 ⟨rfl,f1⟩;have f2:Fr No wx w1:=hS.2.o.trans f1 kp;exact ⟨rfl,HCE.o w1 f2,lH f2⟩
     simp only [pT,aB,lsS];repeat (first
      | (refine aY (by rfl) ?_;simp only [pT,aB,lsS])
      | (refine aZ (v:= ?_) (by rfl) ?_ ?_
         rotate_left 1
         (intro W hS;obtain ⟨⟨s0,s1,s2,s3,s4,s5⟩,_⟩:=hS;go_simp;(try with_reducible rfl))
         simp only [pT,aB,lsS]))
     refine bM (v:=.agg #[.int .i64 at_.c,.int .i64 at_.l,.int .i64 at_.n,.int .i64 at_.a,.int .i64 at_.z]) 36 #[.pointer (some ⟨p,0,none⟩),.int .i64 j] (by rfl) (fun W=>by go_simp) (fun W hS=>(HA.o W hS.2.o).mono ?_) ?_
     ·rintro e w1 ⟨rfl,f1⟩;have f2:Fr No wx w1:=hS.2.o.trans f1 kp;exact ⟨rfl,HCE.o w1 f2,lH f2⟩
     simp only [pT,aB,lsS];repeat (first
      | (refine aY (by rfl) ?_;simp only [pT,aB,lsS])
      | (refine aZ (v:= ?_) (by rfl) ?_ ?_
         rotate_left 1
         (intro W hS;obtain ⟨⟨s0,s1,s2,s3,s4,s5⟩,_⟩:=hS;go_simp;(try with_reducible rfl))
         simp only [pT,aB,lsS]))
     intro W hS;have HFW:=lH (HFX.o.trans hS.2.o kp);go_wp2_with fail;go_roundw
     case rel=>exact ⟨j+1,G,by go_num,hlt,by omega,lH (jI HOX.o hS.2.o kp),HFW⟩
     case measure=>simp [intOf];omega
    | false=>
     cases z3 with
     | true=>
      go_wp2_with (refine wpList_load_mid (by rfl) 59 _ (by rfl) wbb (j*5) (by rfl) [.int .i64 x.c,.int .i64 x.l,.int .i64 x.n,.int .i64 x.a,.int .i64 x.z] _ HRR.o underlying59 rfl Tryz.iO ?_);refine jX mixed (fun W=>(W.cell? ⟨tb,0,none⟩=some (.int .i64 x.c)∧W.cell? ⟨tb,1,none⟩=some (.int .i64 x.l)∧W.cell? ⟨tb,2,none⟩=some (.int .i64 x.n)∧W.cell? ⟨tb,3,none⟩=some (.int .i64 x.a)∧W.cell? ⟨tb,4,none⟩=some (.int .i64 x.z)∧W.cell? ⟨p,2,none⟩=some (.slice b2 m2l.length c2))∧Hid (Fr No wx W)) (by kernel_rfl) (by kernel_rfl) (fun _ _ d _ _ h=>by cases d<;>exact h) ⟨HCE.o wx.drew (fF (Fr.refl wx)),lH (fF (Fr.refl wx))⟩ ?_;repeat (first
       | (refine aY (by rfl) ?_;simp only [pT,aB,lsS])
       | (refine aZ (v:= ?_) (by rfl) ?_ ?_
          rotate_left 1
          (intro W hS;obtain ⟨⟨s0,s1,s2,s3,s4,s5⟩,_⟩:=hS;go_simp;(try with_reducible rfl))
          simp only [pT,aB,lsS]))
      refine bM (v:=.bool false) 71 #[.agg #[.int .i64 x.c,.int .i64 x.l,.int .i64 x.n,.int .i64 x.a,.int .i64 x.z]] (by rfl) (fun W=>by go_simp) (fun W hS=>(HZ.o W).mono ?_) ?_
      ·rintro e w1 ⟨rfl,f1⟩;have f2:Fr No wx w1:=hS.2.o.trans f1 kp;exact ⟨rfl,HCE.o w1 f2,lH f2⟩
      simp only [pT,aB,lsS];repeat (first
       | (refine aY (by rfl) ?_;simp only [pT,aB,lsS])
       | (refine aZ (v:= ?_) (by rfl) ?_ ?_
          rotate_left 1
          (intro W hS;obtain ⟨⟨s0,s1,s2,s3,s4,s5⟩,_⟩:=hS;go_simp;(try with_reducible rfl))
          simp only [pT,aB,lsS]))
      refine bM (v:=.agg #[.int .i64 at_.c,.int .i64 at_.l,.int .i64 at_.n,.int .i64 at_.a,.int .i64 at_.z]) 36 #[.pointer (some ⟨p,0,none⟩),.int .i64 j] (by rfl) (fun W=>by go_simp) (fun W hS=>(HA.o W hS.2.o).mono ?_) ?_
      ·rintro e w1 ⟨rfl,f1⟩;have f2:Fr No wx w1:=hS.2.o.trans f1 kp;exact ⟨rfl,HCE.o w1 f2,lH f2⟩
      simp only [pT,aB,lsS];repeat (first
       | (refine aY (by rfl) ?_;simp only [pT,aB,lsS])
       | (refine aZ (v:= ?_) (by rfl) ?_ ?_
          rotate_left 1
          (intro W hS;obtain ⟨⟨s0,s1,s2,s3,s4,s5⟩,_⟩:=hS;go_simp;(try with_reducible rfl))
          simp only [pT,aB,lsS]))
      refine bM (v:=.bool true) 144 #[.slice b2 m2l.length c2,.agg #[.int .i64 x.c,.int .i64 x.l,.int .i64 x.n,.int .i64 x.a,.int .i64 x.z]] (by rfl) (fun W=>by go_simp) (fun W hS=>(HC1.o W hS.2.o).mono ?_) ?_
      ·rintro e w1 ⟨rfl,f1⟩;have f2:Fr No wx w1:=hS.2.o.trans f1 kp;exact ⟨rfl,HCE.o w1 f2,lH f2⟩
      simp only [pT,aB,lsS];repeat (first
       | (refine aY (by rfl) ?_;simp only [pT,aB,lsS])
       | (refine aZ (v:= ?_) (by rfl) ?_ ?_
          rotate_left 1
          (intro W hS;obtain ⟨⟨s0,s1,s2,s3,s4,s5⟩,_⟩:=hS;go_simp;(try with_reducible rfl))
          simp only [pT,aB,lsS]))
      intro W hS;have HFW:=lH (HFX.o.trans hS.2.o kp);go_wp2_with fail;go_roundw
      case rel=>exact ⟨j+1,G,by go_num,hlt,by omega,lH (jI HOX.o hS.2.o kp),HFW⟩
      case measure=>simp [intOf];omega
     | false=>
      cases z4 with
      | true=>
       go_wp2_with (refine wpList_load_mid (by rfl) 59 _ (by rfl) wbb (j*5) (by rfl) [.int .i64 x.c,.int .i64 x.l,.int .i64 x.n,.int .i64 x.a,.int .i64 x.z] _ HRR.o underlying59 rfl Tryz.iO ?_);refine jX mixed (fun W=>(W.cell? ⟨tb,0,none⟩=some (.int .i64 x.c)∧W.cell? ⟨tb,1,none⟩=some (.int .i64 x.l)∧W.cell? ⟨tb,2,none⟩=some (.int .i64 x.n)∧W.cell? ⟨tb,3,none⟩=some (.int .i64 x.a)∧W.cell? ⟨tb,4,none⟩=some (.int .i64 x.z)∧W.cell? ⟨p,2,none⟩=some (.slice b2 m2l.length c2))∧Hid (Fr No wx W)) (by kernel_rfl) (by kernel_rfl) (fun _ _ d _ _ h=>by cases d<;>exact h) ⟨HCE.o wx.drew (fF (Fr.refl wx)),lH (fF (Fr.refl wx))⟩ ?_;repeat (first
        | (refine aY (by rfl) ?_;simp only [pT,aB,lsS])
        | (refine aZ (v:= ?_) (by rfl) ?_ ?_
           rotate_left 1
           (intro W hS;obtain ⟨⟨s0,s1,s2,s3,s4,s5⟩,_⟩:=hS;go_simp;(try with_reducible rfl))
           simp only [pT,aB,lsS]))
       refine bM (v:=.bool false) 71 #[.agg #[.int .i64 x.c,.int .i64 x.l,.int .i64 x.n,.int .i64 x.a,.int .i64 x.z]] (by rfl) (fun W=>by go_simp) (fun W hS=>(HZ.o W).mono ?_) ?_
       ·rintro e w1 ⟨rfl,f1⟩;have f2:Fr No wx w1:=hS.2.o.trans f1 kp;exact ⟨rfl,HCE.o w1 f2,lH f2⟩
       simp only [pT,aB,lsS];repeat (first
        | (refine aY (by rfl) ?_;simp only [pT,aB,lsS])
        | (refine aZ (v:= ?_) (by rfl) ?_ ?_
           rotate_left 1
           (intro W hS;obtain ⟨⟨s0,s1,s2,s3,s4,s5⟩,_⟩:=hS;go_simp;(try with_reducible rfl))
           simp only [pT,aB,lsS]))
       refine bM (v:=.agg #[.int .i64 at_.c,.int .i64 at_.l,.int .i64 at_.n,.int .i64 at_.a,.int .i64 at_.z]) 36 #[.pointer (some ⟨p,0,none⟩),.int .i64 j] (by rfl) (fun W=>by go_simp) (fun W hS=>(HA.o W hS.2.o).mono ?_) ?_
       ·rintro e w1 ⟨rfl,f1⟩;have f2:Fr No wx w1:=hS.2.o.trans f1 kp;exact ⟨rfl,HCE.o w1 f2,lH f2⟩
       simp only [pT,aB,lsS];repeat (first
        | (refine aY (by rfl) ?_;simp only [pT,aB,lsS])
        | (refine aZ (v:= ?_) (by rfl) ?_ ?_
           rotate_left 1
           (intro W hS;obtain ⟨⟨s0,s1,s2,s3,s4,s5⟩,_⟩:=hS;go_simp;(try with_reducible rfl))
           simp only [pT,aB,lsS]))
       refine bM (v:=.bool false) 144 #[.slice b2 m2l.length c2,.agg #[.int .i64 x.c,.int .i64 x.l,.int .i64 x.n,.int .i64 x.a,.int .i64 x.z]] (by rfl) (fun W=>by go_simp) (fun W hS=>(HC1.o W hS.2.o).mono ?_) ?_
       ·rintro e w1 ⟨rfl,f1⟩;have f2:Fr No wx w1:=hS.2.o.trans f1 kp;exact ⟨rfl,HCE.o w1 f2,lH f2⟩
       simp only [pT,aB,lsS];repeat (first
        | (refine aY (by rfl) ?_;simp only [pT,aB,lsS])
        | (refine aZ (v:= ?_) (by rfl) ?_ ?_
           rotate_left 1
           (intro W hS;obtain ⟨⟨s0,s1,s2,s3,s4,s5⟩,_⟩:=hS;go_simp;(try with_reducible rfl))
           simp only [pT,aB,lsS]))
       refine bM (v:=.bool true) 144 #[.slice ga G.length gc,.agg #[.int .i64 x.c,.int .i64 x.l,.int .i64 x.n,.int .i64 x.a,.int .i64 x.z]] (by rfl) (fun W=>by go_simp) (fun W hS=>(HC2.o W hS.2.o).mono ?_) ?_
       ·rintro e w1 ⟨rfl,f1⟩;have f2:Fr No wx w1:=hS.2.o.trans f1 kp;exact ⟨rfl,HCE.o w1 f2,lH f2⟩
       simp only [pT,aB,lsS];repeat (first
        | (refine aY (by rfl) ?_;simp only [pT,aB,lsS])
        | (refine aZ (v:= ?_) (by rfl) ?_ ?_
           rotate_left 1
           (intro W hS;obtain ⟨⟨s0,s1,s2,s3,s4,s5⟩,_⟩:=hS;go_simp;(try with_reducible rfl))
           simp only [pT,aB,lsS]))
       intro W hS;have HFW:=lH (HFX.o.trans hS.2.o kp);go_wp2_with fail;go_roundw
       case rel=>exact ⟨j+1,G,by go_num,hlt,by omega,lH (jI HOX.o hS.2.o kp),HFW⟩
       case measure=>simp [intOf];omega
      | false=>
       go_wp2_with (refine wpList_load_mid (by rfl) 59 _ (by rfl) wbb (j*5) (by rfl) [.int .i64 x.c,.int .i64 x.l,.int .i64 x.n,.int .i64 x.a,.int .i64 x.z] _ HRR.o underlying59 rfl Tryz.iO ?_);refine jX mixed (fun W=>(W.cell? ⟨tb,0,none⟩=some (.int .i64 x.c)∧W.cell? ⟨tb,1,none⟩=some (.int .i64 x.l)∧W.cell? ⟨tb,2,none⟩=some (.int .i64 x.n)∧W.cell? ⟨tb,3,none⟩=some (.int .i64 x.a)∧W.cell? ⟨tb,4,none⟩=some (.int .i64 x.z)∧W.cell? ⟨p,2,none⟩=some (.slice b2 m2l.length c2))∧Hid (Fr No wx W)) (by kernel_rfl) (by kernel_rfl) (fun _ _ d _ _ h=>by cases d<;>exact h) ⟨HCE.o wx.drew (fF (Fr.refl wx)),lH (fF (Fr.refl wx))⟩ ?_;repeat (first
        | (refine aY (by rfl) ?_;simp only [pT,aB,lsS])
        | (refine aZ (v:= ?_) (by rfl) ?_ ?_
           rotate_left 1
           (intro W hS;obtain ⟨⟨s0,s1,s2,s3,s4,s5⟩,_⟩:=hS;go_simp;(try with_reducible rfl))
           simp only [pT,aB,lsS]))
       refine bM (v:=.bool false) 71 #[.agg #[.int .i64 x.c,.int .i64 x.l,.int .i64 x.n,.int .i64 x.a,.int .i64 x.z]] (by rfl) (fun W=>by go_simp) (fun W hS=>(HZ.o W).mono ?_) ?_
       ·rintro e w1 ⟨rfl,f1⟩;have f2:Fr No wx w1:=hS.2.o.trans f1 kp;exact ⟨rfl,HCE.o w1 f2,lH f2⟩
       simp only [pT,aB,lsS];repeat (first
        | (refine aY (by rfl) ?_;simp only [pT,aB,lsS])
        | (refine aZ (v:= ?_) (by rfl) ?_ ?_
           rotate_left 1
           (intro W hS;obtain ⟨⟨s0,s1,s2,s3,s4,s5⟩,_⟩:=hS;go_simp;(try with_reducible rfl))
           simp only [pT,aB,lsS]))
       refine bM (v:=.agg #[.int .i64 at_.c,.int .i64 at_.l,.int .i64 at_.n,.int .i64 at_.a,.int .i64 at_.z]) 36 #[.pointer (some ⟨p,0,none⟩),.int .i64 j] (by rfl) (fun W=>by go_simp) (fun W hS=>(HA.o W hS.2.o).mono ?_) ?_
       ·rintro e w1 ⟨rfl,f1⟩;have f2:Fr No wx w1:=hS.2.o.trans f1 kp;exact ⟨rfl,HCE.o w1 f2,lH f2⟩
       simp only [pT,aB,lsS];repeat (first
        | (refine aY (by rfl) ?_;simp only [pT,aB,lsS])
        | (refine aZ (v:= ?_) (by rfl) ?_ ?_
           rotate_left 1
           (intro W hS;obtain ⟨⟨s0,s1,s2,s3,s4,s5⟩,_⟩:=hS;go_simp;(try with_reducible rfl))
           simp only [pT,aB,lsS]))
       refine bM (v:=.bool false) 144 #[.slice b2 m2l.length c2,.agg #[.int .i64 x.c,.int .i64 x.l,.int .i64 x.n,.int .i64 x.a,.int .i64 x.z]] (by rfl) (fun W=>by go_simp) (fun W hS=>(HC1.o W hS.2.o).mono ?_) ?_
       ·rintro e w1 ⟨rfl,f1⟩;have f2:Fr No wx w1:=hS.2.o.trans f1 kp;exact ⟨rfl,HCE.o w1 f2,lH f2⟩
       simp only [pT,aB,lsS];repeat (first
        | (refine aY (by rfl) ?_;simp only [pT,aB,lsS])
        | (refine aZ (v:= ?_) (by rfl) ?_ ?_
           rotate_left 1
           (intro W hS;obtain ⟨⟨s0,s1,s2,s3,s4,s5⟩,_⟩:=hS;go_simp;(try with_reducible rfl))
           simp only [pT,aB,lsS]))
       refine bM (v:=.bool false) 144 #[.slice ga G.length gc,.agg #[.int .i64 x.c,.int .i64 x.l,.int .i64 x.n,.int .i64 x.a,.int .i64 x.z]] (by rfl) (fun W=>by go_simp) (fun W hS=>(HC2.o W hS.2.o).mono ?_) ?_
       ·rintro e w1 ⟨rfl,f1⟩;have f2:Fr No wx w1:=hS.2.o.trans f1 kp;exact ⟨rfl,HCE.o w1 f2,lH f2⟩
       simp only [pT,aB,lsS];repeat (first
        | (refine aY (by rfl) ?_;simp only [pT,aB,lsS])
        | (refine aZ (v:= ?_) (by rfl) ?_ ?_
           rotate_left 1
           (intro W hS;obtain ⟨⟨s0,s1,s2,s3,s4,s5⟩,_⟩:=hS;go_simp;(try with_reducible rfl))
           simp only [pT,aB,lsS]))
       intro W hS;have HFW:=lH (HFX.o.trans hS.2.o kp);have HOW:=lH (jI HOX.o hS.2.o kp);have hszl:=HFW.o.size;obtain ⟨⟨s0,s1,s2,s3,s4,s5⟩,_⟩:=hS;go_wp2_with (at_builtin;(refine wpList_append_lies _ (by rfl) _ _ 77 (by rfl) w3.heap.size 59 i0 _ 5 40 underlying77 HI0.o HI1.o HI2.o HI3.o rfl (by decide) (.slice ga G.length gc) G.length (G.flatMap dB) (by rfl) (HOW.o.alloc _) ⟨W.heap.size,0,none⟩ 1 1 [.int .i64 x.c,.int .i64 x.l,.int .i64 x.n,.int .i64 x.a,.int .i64 x.z] (by rfl) (by rfl) ?d1 (by simp [Value.oneCell']) (by decide) (by unfold maxLen;omega) (by omega) ?d5 (W.heap.size+1) ?d6 ?_))
       case d1=>exact World.news_of_block (cs:= #[.int .i64 x.c,.int .i64 x.l,.int .i64 x.n,.int .i64 x.a,.int .i64 x.z]) (t:=59) (fr:=(0,0)) (heap_alloc_new W _)
       case d5=>rw [jR];omega
       case d6=>simp
       intro gg cap wD hownD hgrow hat hgl;have hnl:Fr No w3 wD:=by
        refine (HFW.o.alloc _).grown hgrow (fun j hj=> .inr ?_);exact yZ HOW.o j hj
       have HNL:=lH hnl;have HOD:=lH hownD;clear hownD hgrow hat hgl hnl;go_wp2_with fail;go_roundw
       case rel=>
        refine ⟨j+1,G++ [x],by go_num,hlt,by rw [List.length_append,List.length_singleton];omega,lH ?_,HNL⟩;have h9:=HOD.o;rw [List.flatMap_append,List.length_append];simp only [List.flatMap_cons,List.flatMap_nil,List.append_nil,List.length_singleton];exact h9
       case measure=>simp [intOf];omega
  ·obtain rfl:j=m.l.length:=by omega
   have q1:¬(m.l.length:Int)<(m.l.length:Int):=(by omega)
   go_wp2_with fail;exact HR.o _ true _ (HFIN.o _ HF.o)
theorem Oy (o:Nat→Nat) (K i p:Nat) (m:aG) (d:Dl) (w:World) (h:eH w o K i p m) (hf:aP w o) (hi:i<1000) (hml0:fU m) (hd:dU d):
  Calls prog 96 #[.pointer (some ⟨p,0,none⟩),iU d] w (nG w o K i p (dR m d)):=by
 have hl:m.l.length≤1000:=by rw [hml0.2];have:=hml0.1;unfold dY;omega
 unfold dR;by_cases hc:iR m d
 ·rw [if_pos hc];rcases hd.2.2.2.2.2.2.2.2 with ⟨hk,_⟩|⟨hk,_⟩|⟨hk,_⟩
  ·exact aCW o K i p m d w h hf hi hml0 hd hc hk
  ·exact X5 o K i p m d w h hf hi hml0 hd hc hk
  ·exact aAe o K i p m d w h hf hi hml0 hd hc hk
 ·rw [if_neg hc];exact aAN o K i p m d w h hf hl hd hc
