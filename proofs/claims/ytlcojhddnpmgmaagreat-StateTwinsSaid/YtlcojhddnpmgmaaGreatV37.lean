/- Part of a proof. -/
import Derived.Test.YtlcojhddnpmgmaaGreatV36
set_option linter.unusedSimpArgs false
set_option linter.unusedVariables false
set_option maxRecDepth 100000
set_option maxHeartbeats 6400000
namespace Go.Proofs.YtlcojhddnpmgmaaGreat
open Go.RowKit Go.Proofs.Tryz
def zG (w:World) (o:Nat→Nat) (K:Nat) (S:St) (n:Nat) (e:Ending) (w':World):Prop:=∃L o',e=.returned (.pointer (some ⟨L.s,0,none⟩))∧Step (fun _=>False) w o w' o'∧aK w' o' K L S n
theorem Tryz.aAX:(prog.info? 104).map (·.size)=some 13:=by kernel_rfl
theorem aCO (o:Nat→Nat) (K K' n q:Nat) (L:aT) (S:St) (w:World) (h:aK w o K L S n) (inv:bY S q) (iw:vH S) (hf:aP w o) (hn:n≤1000000) (hq:q≤1000000):Calls prog 30 #[.pointer (some ⟨L.s,0,none⟩)] w (zG w o K' S n):=by
 have mixed:prog.follows .mixedOrders=true:=by kernel_rfl
 have hmm:= @run_makeMap prog;have HMD:=lH (qY o K n L S w h);have HQ:Hid (∀(L':aT) w' o',Step (fun _=>False) w o w' o'→aK w' o' K' L' S n→zG w o K' S n (.returned (.pointer (some ⟨L'.s,0,none⟩))) w'):=lH (fun L' w' o' s t=>⟨L',o',rfl,s,t⟩);generalize zG w o K' S n=Q at*;have HS:=lH h;have INV:=lH inv;have IW:=lH iw;have HF:=lH hf;have KS:Hid (w.heap[L.s]? =some (.cells #[.int .i64 S.boots,.int .i64 S.swaps,.int .i64 S.clock,.int .i64 (S.next 0),.int .i64 (S.next 1),.int .i64 (S.next 2),.int .i64 (S.next 3),.int .i64 (S.next 4),.pointer (some ⟨L.win,0,none⟩),.pointer (some ⟨L.tr,0,none⟩),.pointer (some ⟨L.tk,0,none⟩),.map (some L.fl),.map (some L.us)] 104 (0,0))):=lH h.cs;have fA:Fr No w (w.alloc (.cells #[.int .i64 S.boots,.int .i64 S.swaps,.int .i64 S.clock,.int .i64 (S.next 0),.int .i64 (S.next 1),.int .i64 (S.next 2),.int .i64 (S.next 3),.int .i64 (S.next 4),.pointer (some ⟨L.win,0,none⟩),.pointer (some ⟨L.tr,0,none⟩),.pointer (some ⟨L.tk,0,none⟩),.map (some L.fl),.map (some L.us)] 104)):=(Fr.refl w).alloc _;have kA:=aO w (.cells #[.int .i64 S.boots,.int .i64 S.swaps,.int .i64 S.clock,.int .i64 (S.next 0),.int .i64 (S.next 1),.int .i64 (S.next 2),.int .i64 (S.next 3),.int .i64 (S.next 4),.pointer (some ⟨L.win,0,none⟩),.pointer (some ⟨L.tr,0,none⟩),.pointer (some ⟨L.tk,0,none⟩),.map (some L.fl),.map (some L.us)] 104);have c8:∀x,(w.alloc x).cell? ⟨L.s,8,none⟩=some (.pointer (some ⟨L.win,0,none⟩)):=fun x=>((Fr.refl (S:=No) w).alloc x).cell_of (h.cell 8) id;have FA:=lH fA;have KA:=lH kA;have HWR:=lH (Tn o (K+1) L.win S.W _ (h.win.no hf fA) (Step.no (C:=fun _=>False) hf fA).fresh inv.vP);unfold yQ at HWR;clear h inv iw hf fA kA;go_enter func30,ntmps30;go_wp2_with fail;refine HMD.o.mono ?_;rintro e w1 ⟨rfl,hw⟩;have hw':=hw.symm;subst hw';go_wp2_with (refine wpList_load_row rfl 104 (.tmp 12) rfl L.s rfl 104 _ (0,0) _ KS.o underlying104 rfl Tryz.aAX ?_);refine HWR.o.mono ?_;rintro e w2 ⟨v2,L2,rfl,hm2,hr2,hp2,f2⟩;have HLD:=lH (aCh o (K'+1) _ S.W L2 v2 w2 hr2 hp2 hm2 (Step.no (C:=fun _=>False) HF.o (FA.o.trans f2 kp)).fresh IW.o INV.o.vP);unfold Ac at HLD;have F2:=lH (FA.o.trans f2 kp);have K2:=lH (f2.aC KA.o id)
 obtain ⟨a2,cp2,hv2⟩:=hr2.shape;subst hv2;clear hm2 hr2 hp2 f2 c8;go_wp2_with fail;refine HLD.o.mono ?_;rintro e w3 ⟨win,o3,rfl,s3,t3⟩;have S3':=lH s3;have S3:=lH ((Step.no (C:=fun _=>False) HF.o F2.o).trans s3 (fun _ e=>e));have T3:=lH t3;have k3:=s3.block K2.o id;have x8:w3.cell? ⟨w.heap.size,8,none⟩=some (.pointer (some ⟨L.win,0,none⟩)):=by rw [aA k3];rfl
 have xz:=fun j=>bU k3 j;have K3:=lH (setCell_at k3 8 (.pointer (some ⟨win,0,none⟩)));clear s3 t3 k3;go_upto_region 5 with fail
 have f4:Fr (· =w.heap.size) w3 (w3.setCell ⟨w.heap.size,8,none⟩ (.pointer (some ⟨win,0,none⟩))):=jQ w3 w.heap.size 8 _;change Hid ((w3.setCell ⟨w.heap.size,8,none⟩ (.pointer (some ⟨win,0,none⟩))).heap[w.heap.size]? =some (.cells #[.int .i64 S.boots,.int .i64 S.swaps,.int .i64 S.clock,.int .i64 (S.next 0),.int .i64 (S.next 1),.int .i64 (S.next 2),.int .i64 (S.next 3),.int .i64 (S.next 4),.pointer (some ⟨win,0,none⟩),.pointer (some ⟨L.tr,0,none⟩),.pointer (some ⟨L.tk,0,none⟩),.map (some L.fl),.map (some L.us)] 104 (0,0))) at K3;have hown:o3 w.heap.size=0:=by
  have hlt:=lt_of_block K2.o;rw [S3'.o.old _ hlt];exact HF.o _ (Nat.le_refl _)
 have S4:Hid (Step (fun _=>False) w o (w3.setCell ⟨w.heap.size,8,none⟩ (.pointer (some ⟨win,0,none⟩))) o3):=lH (S3.o.tZ (Nat.le_refl _) f4);have T4:Hid (iE (w3.setCell ⟨w.heap.size,8,none⟩ (.pointer (some ⟨win,0,none⟩))) o3 (K'+1) win S.W):=lH (T3.o.step (C:=fun c=>c=0) ⟨f4.mono (fun j _ e=>by rw [e];exact hown),fun _ _=>rfl,S4.o.fresh⟩ (by omega) (by omega));have O4:=lH hown;have KE:=lH K3.o;generalize w3.setCell ⟨w.heap.size,8,none⟩ (.pointer (some ⟨win,0,none⟩))=w4 at*;clear f4 hown xz x8 T3 S3 S3' HLD;have H4:=lH (HS.o.step INV.o.ok S4.o kp);have x9:w4.cell? ⟨L.s,9,none⟩=some (.pointer (some ⟨L.tr,0,none⟩)):=H4.o.cell 9;have x10:w4.cell? ⟨L.s,10,none⟩=some (.pointer (some ⟨L.tk,0,none⟩)):=H4.o.cell 10;have SD:Hid (Step (fun _=>False) w4 o3 w4.drew o3):=lH (Step.no S4.o.fresh (Fr.refl _).drew);have H66:Hid (∀W oW,Step (fun _=>False) w4 o3 W oW→Calls prog 66 #[.pointer (some ⟨L.tr,0,none⟩)] W (yI W oW K' S.T)):=lH (fun W oW s=>aB1 oW K K' L.tr S.T W ((H4.o.step INV.o.ok s kp).tree) INV.o.ok.tree s.fresh);have H67:Hid (∀W oW,Step (fun _=>False) w4 o3 W oW→Calls prog 67 #[.pointer (some ⟨L.tk,0,none⟩)] W (Jf W oW K' S.K)):=lH (fun W oW s=>by
  obtain ⟨v,hk,hv⟩:=(H4.o.step INV.o.ok s kp).tok.jL;exact aAq oW K' L.tk S.K v W hk hv s.fresh (Nat.le_trans INV.o.few hq))
 unfold yI at H66;unfold Jf at H67;have y9:w4.cell? ⟨w.heap.size,9,none⟩=some (.pointer (some ⟨L.tr,0,none⟩)):=by rw [aA K3.o];rfl
 have y10:w4.cell? ⟨w.heap.size,10,none⟩=some (.pointer (some ⟨L.tk,0,none⟩)):=by rw [aA K3.o];rfl
 go_cut [] (fun wx=>∃tr tk o5,Hid (Step (fun _=>False) w o wx o5)∧Hid (iE wx o5 (K'+1) win S.W)∧Hid (bV wx o5 K' tr S.T)∧Hid (iM wx o5 K' tk S.K)∧Hid (wx.heap[w.heap.size]? =some (.cells #[.int .i64 S.boots,.int .i64 S.swaps,.int .i64 S.clock,.int .i64 (S.next 0),.int .i64 (S.next 1),.int .i64 (S.next 2),.int .i64 (S.next 3),.int .i64 (S.next 4),.pointer (some ⟨win,0,none⟩),.pointer (some ⟨tr,0,none⟩),.pointer (some ⟨tk,0,none⟩),.map (some L.fl),.map (some L.us)] 104 (0,0)))∧Hid (o5 w.heap.size=0))
 case first=>
  go_region_with (first
   | (go_at_call 66;(first|refine (H66.o _ o7 (SD.o.trans s7 (fun _ e=>e))).mono ?_|refine (H66.o _ o3 SD.o).mono ?_);rintro e w6 ⟨tr,o6,rfl,s6,t6⟩;have y9:=s6.fr.cell_of y9 id;have y10:=s6.fr.cell_of y10 id;have x9:=s6.fr.cell_of x9 id;have x10:=s6.fr.cell_of x10 id;have K3:=lH (s6.block K3.o id);have yz:=fun j=>bU K3.o j)
   | (go_at_call 67;(first|refine (H67.o _ o6 (SD.o.trans s6 (fun _ e=>e))).mono ?_|refine (H67.o _ o3 SD.o).mono ?_);rintro e w7 ⟨tk,o7,rfl,s7,t7⟩;have y9:=s7.fr.cell_of y9 id;have y10:=s7.fr.cell_of y10 id;have x9:=s7.fr.cell_of x9 id;have x10:=s7.fr.cell_of x10 id;have K3:=lH (s7.block K3.o id);have yz:=fun j=>bU K3.o j))
  all_goals
   have S7:=S4.o.trans ((SD.o.trans s6 (fun _ e=>e)).trans s7 (fun _ e=>e)) (fun _ e=>e);have t6':=t6.step INV.o.ok.tree s7 kp;have w7':=(T4.o.step (SD.o.trans s6 (fun _ e=>e)) id id).step s7 id id;have hs4:=S4.o.fr.size;have o7cb:o7 w.heap.size=0:=by
    have hlt4:=lt_of_block KE.o;have f6:=s6.fr.size;exact ((s7.old _ (Nat.lt_of_lt_of_le hlt4 f6)).trans (s6.old _ hlt4)).trans O4.o
   have fz:Fr (· =w.heap.size) w7 ((w7.setCell ⟨w.heap.size,9,none⟩ (.pointer (some ⟨tr,0,none⟩))).setCell ⟨w.heap.size,10,none⟩ (.pointer (some ⟨tk,0,none⟩))):=(jQ w7 w.heap.size 9 _).trans (jQ _ w.heap.size 10 _) kp;have SZ:=S7.tZ (Nat.le_refl _) fz;have sz:Step (fun c=>c=0) w7 o7 ((w7.setCell ⟨w.heap.size,9,none⟩ (.pointer (some ⟨tr,0,none⟩))).setCell ⟨w.heap.size,10,none⟩ (.pointer (some ⟨tk,0,none⟩))) o7:=⟨fz.mono (fun j _ e=>by rw [e];exact o7cb),fun _ _=>rfl,SZ.fresh⟩
   have r1:=lH (w7'.step sz (by omega) (by omega));have r2:=lH (t6'.step INV.o.ok.tree sz (fun c hc e=>by unfold bI at hc;omega));have r3:=lH (t7.step sz (by omega) (by omega));have r4:=lH (setCell_at (setCell_at K3.o 9 (.pointer (some ⟨tr,0,none⟩))) 10 (.pointer (some ⟨tk,0,none⟩)));have SZ':=lH SZ;have OZ:=lH o7cb;clear SZ sz fz o7cb w7' t6' S7 t7 s7 t6 s6;go_wp2_with fail;go_meet;exact ⟨tr,tk,o7,SZ',r1,r2,r3,r4,OZ⟩
 case rest=>
  obtain ⟨tr,tk,oa,SA,WA,TRA,TKA,KA2,OA⟩:=hcut;obtain ⟨wa,rfl⟩:∃wa:World,wa=wc:=⟨_,rfl⟩
  have x11:wa.cell? ⟨w.heap.size,11,none⟩=some (.map (some L.fl)):=by rw [aA KA2.o];rfl
  have x12:wa.cell? ⟨w.heap.size,12,none⟩=some (.map (some L.us)):=by rw [aA KA2.o];rfl
  have xz:=fun j=>bU KA2.o j;have hwa:=SA.o.fr.size;have hcb:=lt_of_block KA2.o;have fS:Fr (· =w.heap.size) wa ((wa.setCell ⟨w.heap.size,11,none⟩ (.map (some wa.heap.size))).setCell ⟨w.heap.size,12,none⟩ (.map (some (wa.heap.size+1)))):=(jQ wa w.heap.size 11 _).trans (jQ _ w.heap.size 12 _) kp;have kS:(((wa.setCell ⟨w.heap.size,11,none⟩ (.map (some wa.heap.size))).setCell ⟨w.heap.size,12,none⟩ (.map (some (wa.heap.size+1))))).heap[w.heap.size]? =some (.cells #[.int .i64 S.boots,.int .i64 S.swaps,.int .i64 S.clock,.int .i64 (S.next 0),.int .i64 (S.next 1),.int .i64 (S.next 2),.int .i64 (S.next 3),.int .i64 (S.next 4),.pointer (some ⟨win,0,none⟩),.pointer (some ⟨tr,0,none⟩),.pointer (some ⟨tk,0,none⟩),.map (some wa.heap.size),.map (some (wa.heap.size+1))] 104 (0,0)):=setCell_at (setCell_at KA2.o 11 _) 12 _;have hzS:(((wa.setCell ⟨w.heap.size,11,none⟩ (.map (some wa.heap.size))).setCell ⟨w.heap.size,12,none⟩ (.map (some (wa.heap.size+1))))).heap.size=wa.heap.size:=by simp
  have fB:Fr No ((wa.setCell ⟨w.heap.size,11,none⟩ (.map (some wa.heap.size))).setCell ⟨w.heap.size,12,none⟩ (.map (some (wa.heap.size+1)))) ((((wa.setCell ⟨w.heap.size,11,none⟩ (.map (some wa.heap.size))).setCell ⟨w.heap.size,12,none⟩ (.map (some (wa.heap.size+1)))).alloc (.map #[] 0)).alloc (.map #[] 0)):=((Fr.refl _).alloc _).alloc _;have m1:MapAt encI ((((wa.setCell ⟨w.heap.size,11,none⟩ (.map (some wa.heap.size))).setCell ⟨w.heap.size,12,none⟩ (.map (some (wa.heap.size+1)))).alloc (.map #[] 0)).alloc (.map #[] 0)) wa.heap.size 0 (fun _=>none):=by
   have:=(MapAt.made encI ((wa.setCell ⟨w.heap.size,11,none⟩ (.map (some wa.heap.size))).setCell ⟨w.heap.size,12,none⟩ (.map (some (wa.heap.size+1))))).fr ((Fr.refl (S:=No) _).alloc (.map #[] 0)) id;rwa [hzS] at this
  have m2:MapAt nC ((((wa.setCell ⟨w.heap.size,11,none⟩ (.map (some wa.heap.size))).setCell ⟨w.heap.size,12,none⟩ (.map (some (wa.heap.size+1)))).alloc (.map #[] 0)).alloc (.map #[] 0)) (wa.heap.size+1) 0 (fun _=>none):=by
   have:=MapAt.made nC (((wa.setCell ⟨w.heap.size,11,none⟩ (.map (some wa.heap.size))).setCell ⟨w.heap.size,12,none⟩ (.map (some (wa.heap.size+1)))).alloc (.map #[] 0));rwa [jR,hzS] at this
  have hzB:(((((wa.setCell ⟨w.heap.size,11,none⟩ (.map (some wa.heap.size))).setCell ⟨w.heap.size,12,none⟩ (.map (some (wa.heap.size+1)))).alloc (.map #[] 0)).alloc (.map #[] 0))).heap.size=wa.heap.size+2:=by simp
  have SS:=SA.o.tZ (Nat.le_refl _) fS;have sS:Step (fun c=>c=0) wa oa ((wa.setCell ⟨w.heap.size,11,none⟩ (.map (some wa.heap.size))).setCell ⟨w.heap.size,12,none⟩ (.map (some (wa.heap.size+1)))) oa:=⟨fS.mono (fun j _ e=>by rw [e];exact OA.o),fun _ _=>rfl,SS.fresh⟩
  have sB:Step (fun _=>False) ((wa.setCell ⟨w.heap.size,11,none⟩ (.map (some wa.heap.size))).setCell ⟨w.heap.size,12,none⟩ (.map (some (wa.heap.size+1)))) oa ((((wa.setCell ⟨w.heap.size,11,none⟩ (.map (some wa.heap.size))).setCell ⟨w.heap.size,12,none⟩ (.map (some (wa.heap.size+1)))).alloc (.map #[] 0)).alloc (.map #[] 0)) oa:=Step.no SS.fresh fB;have TWB:=(WA.o.step sS (by omega) (by omega)).step sB id id;have TTB:=(TRA.o.step INV.o.ok.tree sS (fun c hc e=>by unfold bI at hc;omega)).step INV.o.ok.tree sB kp;have TKB:=(TKA.o.step sS (by omega) (by omega)).step sB id id;have kB:=fB.aC kS id;have SB:=SS.Bo fB;have HB0:=HS.o.step INV.o.ok SB kp;obtain ⟨_,fp0,c0,hc0,hum0,hfl⟩:=HS.o.files;have hum:=hum0.fr SB.fr (fun e=>e);clear hum0;have hflt:=hum.lt;have cB11:((((wa.setCell ⟨w.heap.size,11,none⟩ (.map (some wa.heap.size))).setCell ⟨w.heap.size,12,none⟩ (.map (some (wa.heap.size+1)))).alloc (.map #[] 0)).alloc (.map #[] 0)).cell? ⟨L.s,11,none⟩=some (.map (some L.fl)):=HB0.cell 11;obtain ⟨w9,hr,R9,f9,hs9⟩:=hum.range (t:=100) (e:=63) underlying100;rw [hzB] at hr R9 hs9;have S9:=SB.Bo f9;have s9:Step (fun _=>False) ((((wa.setCell ⟨w.heap.size,11,none⟩ (.map (some wa.heap.size))).setCell ⟨w.heap.size,12,none⟩ (.map (some (wa.heap.size+1)))).alloc (.map #[] 0)).alloc (.map #[] 0)) oa w9 oa:=Step.no SB.fresh f9;have hoa:∀j,wa.heap.size≤j→oa j=0:=fun j hj=>SA.o.fresh j hj;have hfl2:L.fl<w.heap.size:=by
   obtain ⟨_,_,_,_,hm,_⟩:=HS.o.files;exact hm.lt
  have LI:Hid (rO w o S K' ⟨w.heap.size,win,tr,tk,wa.heap.size,wa.heap.size+1⟩ (wa.heap.size+2) w9 (fun x=>(cO S.F fp0 x).isSome) (dH (dH (dH oa (wa.heap.size+1) (K'+7)) wa.heap.size (K'+6)) w.heap.size (K'+8)) (fun _=>0)):=lH (by
   have sP:Step (fun _=>False) w o w9 (dH (dH (dH oa (wa.heap.size+1) (K'+7)) wa.heap.size (K'+6)) w.heap.size (K'+8)):=
    ((S9.lD (b:=wa.heap.size+1) (c:=K'+7) (by omega) (by omega)).lD (b:=wa.heap.size) (c:=K'+6) (by omega) (by omega)).lD (b:=w.heap.size) (c:=K'+8) (Nat.le_refl _) (by omega)
   have hP:∀j,j≠w.heap.size→j<wa.heap.size→dH (dH (dH oa (wa.heap.size+1) (K'+7)) wa.heap.size (K'+6)) w.heap.size (K'+8) j=oa j:=fun j h1 h2=>by
    rw [eU _ _ h1,eU _ _ (by omega),eU _ _ (by omega)]
   have cP:∀ {c:Nat} {b:Nat},oa b=c→c≠0→dH (dH (dH oa (wa.heap.size+1) (K'+7)) wa.heap.size (K'+6)) w.heap.size (K'+8) b=c:=fun {c b} e hc=>by
    rw [hP b (fun e'=>by rw [e',OA.o] at e;exact hc e.symm) (by
     rcases Nat.lt_or_ge b wa.heap.size with h|h
     ·exact h
     ·rw [hoa b h] at e;exact absurd e.symm hc),e]
   have W9:=TWB.step s9 id id;have T9:=TTB.step INV.o.ok.tree s9 kp;have K9:=TKB.step s9 id id;refine ⟨sP,?_,?_,?_,f9.aC kB id,jD _ _ _,?_,?_,?_,hwa,by dsimp only;omega,by omega,⟨0,?_⟩,m2.fr f9 id,fun i m hi hl=> ?_⟩
   ·obtain ⟨h1,p,h2,h3⟩:=W9;refine ⟨cP h1 (by omega),p,h2,fun i hi=> ?_⟩;have h4:=h3 i hi;cases hw:S.W i with
    | none=>rw [hw] at h4;exact h4
    | some y=>
     rw [hw] at h4;obtain ⟨life,seq,bs⟩:=y;obtain ⟨r,v,b,cc,e,h5,h6,h7,h8⟩:=h4;exact ⟨r,v,b,cc,e,cP h5 (by omega),h6,h7,cP h8 (by omega)⟩
   ·obtain ⟨mb,tp,h1,h2,h3,h4,h5⟩:=T9;refine ⟨mb,tp,cP h1 (by omega),h2,cP h3 (by omega),h4,fun k x hk=> ?_⟩;obtain ⟨g1,g2⟩:=h5 k x hk;refine ⟨cP g1 (by omega),?_⟩;cases hd:x.dir with
    | true=>
     rw [hd] at g2;obtain ⟨ib,g3,g4⟩:=g2;exact ⟨ib,cP g3 (by omega),g4⟩
    | false=>rw [hd] at g2;exact g2
   ·obtain ⟨h1,v,h2,h3⟩:=K9;refine ⟨cP h1 (by omega),v,h2,?_⟩;rcases h3 with h3|⟨b,cap,e,hm,hb,hr⟩
    ·exact .inl h3
    ·exact .inr ⟨b,cap,e,hm,cP hb (by omega),hr⟩
   ·dsimp only;rw [eU _ _ (by omega),jD]
   ·dsimp only;rw [eU _ _ (by omega),eU _ _ (by omega),jD]
   ·rw [eU _ _ (by omega),eU _ _ (by omega),eU _ _ (by omega)];exact hoa _ (by omega)
   ·rw [N7];exact m1.fr f9 id
   ·have:(cO S.F fp0 (i:Int)).isSome=true:=by simp [cO,hi]
    rw [this] at hl;cases hl)
  have RR:=lH R9;have HUM:=lH hum;have HFL:=lH hfl;have SBH:=lH SB;have FB9:=lH f9;clear SB f9 hfl hum R9 S9 s9 hoa HB0 kB TKB TTB TWB sB sS SS m2 m1 fB kS fS;have hcc:c0≤1000000:=Nat.le_trans hc0 hn;go_wp2_with fail;go_loopw [] (fun wr=>∃(left:Int→Bool) (cnt:Nat) (oj fp':Nat→Nat),Hid (fG encI wr L.fl (wa.heap.size+2) c0 (cO S.F fp0) left cnt)∧Hid (rO w o S K' ⟨w.heap.size,win,tr,tk,wa.heap.size,wa.heap.size+1⟩ (wa.heap.size+2) wr left oj fp')∧Hid (∃c,c+cnt≤c0∧MapAt encI wr wa.heap.size c (gone left (cO S.F fp')))∧wa.heap.size+3≤wr.heap.size) (fun wr=>wr.rangeLeft L.fl (wa.heap.size+2))
  case atStart=>
   refine ⟨_,_,_,_,RR,LI,lH ?_,by omega⟩;obtain ⟨c,hm⟩:=LI.o.map;have e:=N7 S.F fp0 (fun _=>0);dsimp only at hm;rw [e] at hm;rcases hm.uF (t:=100) (e:=63) underlying100 with ⟨h0,_⟩|⟨_,x,y,h0⟩
   ·exact ⟨c,by omega,by rw [e];exact hm⟩
   ·cases h0
  case round=>
   obtain ⟨left,cnt,oj,fp',HRA,HMI,HCN,hsz⟩:=hrel;have c11:wr.cell? ⟨w.heap.size,11,none⟩=some (.map (some wa.heap.size)):=(by rw [aA HMI.o.cs];rfl)
   rcases HRA.o.next 0 with ⟨_,hno,hnx⟩|⟨x,y,w4,cnt',hms,hls,hnx,hra',hlt',f4,hs4,hen⟩
   ·have hfin:jK wr oj K' wa.heap.size n S.F:=by
     obtain ⟨c,hm⟩:=HMI.o.map;dsimp only at hm;have hend:gone left (cO S.F fp')=cO S.F fp':=Ar (E:=encI) (fun z u hz=>by
      unfold cO at hz;split at hz
      ·rename_i h0
       cases hT:S.F z.toNat with
       | none=>rw [hT] at hz;cases hz
       | some nd=>
        have:=INV.o.ok.file _ _ hT;show I64 z;unfold I64;omega
      ·cases hz) hno
     rw [hend] at hm;have hcc2:=MapAt.count_eq (t:=100) (e:=63) underlying100 _ _ HUM.o hm (fun z=>by
      unfold cO;split
      ·cases S.F z.toNat<;>rfl
      ·rfl)
     rw [← hcc2] at hm;exact ⟨HMI.o.ofl,fp',c0,hc0,hm,fun i m hi=>HMI.o.done i m hi (hno i (by
      have:=INV.o.ok.file _ _ hi;show I64 (i:Int);unfold I64;omega))⟩
    have HFIN:=lH hfin;obtain ⟨wb,rfl⟩:∃wb:World,wb=wr:=⟨_,rfl⟩
    have hwb:=HMI.o.step.fr.size;obtain ⟨_,cu,hcu,humU⟩:=HS.o.uses;have hult:=humU.lt;have humb:=humU.fr HMI.o.step.fr (fun e=>e);obtain ⟨w10,hr10,R10,f10,hs10⟩:=humb.range (t:=101) (e:=80) underlying101;have b12:wb.cell? ⟨L.s,12,none⟩=some (.map (some L.us)):=(HS.o.step INV.o.ok HMI.o.step kp).cell 12;have HUU:=lH humU;have RU:=lH R10;have F10:Hid (Fr (· =wa.heap.size+1) wb w10):=lH f10.bK;have M10:Hid (MapAt nC w10 (wa.heap.size+1) 0 (gone (fun x=>(dV S.U x).isSome) (dV S.U))):=lH (by rw [O9];exact HMI.o.mu.fr f10 id);clear hno hfin humb humU R10 f10;go_wp2_with fail;go_loopw [] (fun wr=>∃(left2:Stp→Bool) (cnt2:Nat),Hid (fG nC wr L.us wb.heap.size cu (dV S.U) left2 cnt2)∧Hid (∃c2,c2+cnt2≤cu∧MapAt nC wr (wa.heap.size+1) c2 (gone left2 (dV S.U)))∧Hid (Fr (· =wa.heap.size+1) wb wr)∧wb.heap.size+1≤wr.heap.size) (fun wr=>wr.rangeLeft L.us wb.heap.size)
    case atStart=>exact ⟨_,_,RU,lH ⟨0,by omega,M10.o⟩,F10,by omega⟩
    case round=>
     obtain ⟨left2,cnt2,HRB,HCB,HFB,hszb⟩:=hrel;rcases HRB.o.next 0 with ⟨_,hno2,hnx2⟩|⟨s,u,w6,cnt3,hms2,hls2,hnx2,hra2,hlt2,f6,hs6,hen2⟩
     ·have hu:rU wr oj K' (wa.heap.size+1) n S.U:=by
       obtain ⟨c2,_,hm2⟩:=HCB.o;rw [Ar (E:=nC) (fun z v hz=>(HUU.o.good hz).1) hno2] at hm2;rw [← MapAt.count_eq (t:=101) (e:=80) underlying101 _ _ HUU.o hm2 (fun _=>rfl)] at hm2;exact ⟨HMI.o.ous,cu,hcu,hm2⟩
      have sF:Step (fun c=>c=K'+7) wb oj wr oj:=⟨HFB.o.mono (fun j _ e=>by rw [e];exact HMI.o.ous),fun _ _=>rfl,fun j hj=>HMI.o.step.fresh j (Nat.le_trans HFB.o.size hj)⟩
      have S1:=lH (HMI.o.step.tZ (b:=wa.heap.size+1) (by omega) HFB.o);have ST:Hid (aK wr oj K' ⟨w.heap.size,win,tr,tk,wa.heap.size,wa.heap.size+1⟩ S n):=lH
       ⟨HMI.o.os,sF.block HMI.o.cs (by rw [HMI.o.os];omega),HMI.o.win.step sF (by omega) (by omega),HMI.o.tree.step INV.o.ok.tree sF (fun c hc e=>by unfold bI at hc;omega),HMI.o.tok.step sF (by omega) (by omega),HFIN.o.step INV.o.ok.file sF (by omega) (fun i hi c hc e=>by unfold dN at hc;omega),hu⟩
      clear hno2 hu sF;go_wp2_with fail;exact HQ.o ⟨w.heap.size,win,tr,tk,wa.heap.size,wa.heap.size+1⟩ _ _ S1.o ST.o
     ·obtain ⟨c2,hc2,hm2⟩:=HCB.o;obtain ⟨v,hv,rfl⟩:∃v,S.U s=some v∧u=(s,v):=by
       unfold dV at hms2;cases h:S.U s with
       | none=>rw [h] at hms2;cases hms2
       | some v=>
        rw [h] at hms2;cases hms2;exact ⟨v,rfl,rfl⟩
      have hgs:=(HUU.o.good hms2).1;have fW:Fr No w6 ((w6.alloc (.cells #[.int .i64 s.1,.int .i64 s.2.1,.int .i64 s.2.2] 46)).alloc (.cells #[.int .i64 s.1,.int .i64 s.2.1,.int .i64 s.2.2,.int .i64 v.1,.int .i64 v.2.1,.int .i64 v.2.2] 80)):=((Fr.refl w6).alloc _).alloc _;have hs6':w6.heap.size=wr.heap.size:=hs6;obtain ⟨w8,hu8,m8,f8⟩:=((hm2.fr f6 (by omega)).fr fW id).put s (s,v) hgs trivial (by omega) (t:=101) (e:=80) underlying101;have e8:gone left2 (dV S.U) s=none:=if_pos hls2;rw [e8,Rj hms2 (dV S.U) hms2 (fun _ _=>rfl)] at m8;have FW8:Hid (Fr (· =wa.heap.size+1) wb w8):=lH (((HFB.o.trans f6 (fun j hj e=>by omega)).trans fW.bK kp).trans f8 kp);have R8:=lH ((hra2.fr fW id id).fr f8 (by omega) (by omega));have M8:=lH m8;simp only [Option.isSome_none,Bool.false_eq_true,if_false] at M8;have k1:Hid (World.rangeAt ((w6.alloc (.cells #[.int .i64 s.1,.int .i64 s.2.1,.int .i64 s.2.2] 46)).alloc (.cells #[.int .i64 s.1,.int .i64 s.2.1,.int .i64 s.2.2,.int .i64 v.1,.int .i64 v.2.1,.int .i64 v.2.2] 80)) w6.heap.size 0 [.int .i64 s.1,.int .i64 s.2.1,.int .i64 s.2.2]):=lH (World.rangeAt_of_block (((Fr.refl (S:=No) _).alloc _).aC (aO w6 _) id) 0 3);have k2:Hid (World.rangeAt ((w6.alloc (.cells #[.int .i64 s.1,.int .i64 s.2.1,.int .i64 s.2.2] 46)).alloc (.cells #[.int .i64 s.1,.int .i64 s.2.1,.int .i64 s.2.2,.int .i64 v.1,.int .i64 v.2.1,.int .i64 v.2.2] 80)) (w6.heap.size+1) 0 [.int .i64 s.1,.int .i64 s.2.1,.int .i64 s.2.2,.int .i64 v.1,.int .i64 v.2.1,.int .i64 v.2.2]):=lH (by
       have h5:=World.rangeAt_of_block (aO (w6.alloc (.cells #[.int .i64 s.1,.int .i64 s.2.1,.int .i64 s.2.2] 46)) (.cells #[.int .i64 s.1,.int .i64 s.2.1,.int .i64 s.2.2,.int .i64 v.1,.int .i64 v.2.1,.int .i64 v.2.2] 80)) 0 6;rw [jR] at h5;exact h5)
      have kcs:=(HFB.o.trans f6 (fun j hj e=>by omega):Fr (· =wa.heap.size+1) wb w6).aC HMI.o.cs (by dsimp only;omega);have c12:((w6.alloc (.cells #[.int .i64 s.1,.int .i64 s.2.1,.int .i64 s.2.2] 46)).alloc (.cells #[.int .i64 s.1,.int .i64 s.2.1,.int .i64 s.2.2,.int .i64 v.1,.int .i64 v.2.1,.int .i64 v.2.2] 80)).cell? ⟨w.heap.size,12,none⟩=some (.map (some (wa.heap.size+1))):=(by rw [aA (fW.aC kcs id)];rfl)
      have hnx2':(Instr.next (.pointer (some ⟨wb.heap.size,0,none⟩)) false 0).run prog wr=.ok (.tuple #[.bool true,.agg #[.int .i64 s.1,.int .i64 s.2.1,.int .i64 s.2.2],.agg #[.int .i64 s.1,.int .i64 s.2.1,.int .i64 s.2.2,.int .i64 v.1,.int .i64 v.2.1,.int .i64 v.2.2]]) w6:=hnx2;have hen2':(Instr.entry (.pointer (some ⟨wb.heap.size,0,none⟩))).run prog w6=.ok (.tuple #[.agg #[.int .i64 s.1,.int .i64 s.2.1,.int .i64 s.2.2],.agg #[.int .i64 s.1,.int .i64 s.2.1,.int .i64 s.2.2,.int .i64 v.1,.int .i64 v.2.1,.int .i64 v.2.2]]) w6:=hen2;have hu8':(Instr.mapUpdate 101 (.map (some (wa.heap.size+1))) (.agg #[.int .i64 s.1,.int .i64 s.2.1,.int .i64 s.2.2]) (.agg #[.int .i64 s.1,.int .i64 s.2.1,.int .i64 s.2.2,.int .i64 v.1,.int .i64 v.2.1,.int .i64 v.2.2])).run prog ((w6.alloc (.cells #[.int .i64 s.1,.int .i64 s.2.1,.int .i64 s.2.2] 46)).alloc (.cells #[.int .i64 s.1,.int .i64 s.2.1,.int .i64 s.2.2,.int .i64 v.1,.int .i64 v.2.1,.int .i64 v.2.2] 80))=.ok () w8:=hu8;have HLE2:Hid (wr.rangeLeft L.us wb.heap.size=cnt2):=lH HRB.o.left_eq;have HLT2:=lH hlt2;have hs8:wb.heap.size+1≤w8.heap.size:=Nat.le_trans hszb (Nat.le_trans f6.size (Nat.le_trans fW.size f8.size));clear hnx2 hen2 hu8 hra2 hlt2 f6 f8 hm2 m8 hs6 hs6' hms2 hls2 kcs fW hv e8;go_wp2_with (first|(refine wpList_load_mid (by rfl) 46 _ (by rfl) w6.heap.size 0 (by rfl) [.int .i64 s.1,.int .i64 s.2.1,.int .i64 s.2.2] _ k1.o underlying46 rfl Tryz.lJ ?_)|(refine wpList_load_mid (by rfl) 80 _ (by rfl) (w6.heap.size+1) 0 (by rfl) [.int .i64 s.1,.int .i64 s.2.1,.int .i64 s.2.2,.int .i64 v.1,.int .i64 v.2.1,.int .i64 v.2.2] _ k2.o underlying80 rfl Tryz.yJ ?_));go_roundw
      case rel=>exact ⟨_,cnt3,R8,lH ⟨c2+1,by have:=HLT2.o;omega,M8.o⟩,FW8,hs8⟩
      case measure=>
       rw [R8.o.left_eq,HLE2.o];exact HLT2.o
   ·obtain ⟨i,m,hi,rfl,rfl⟩:∃(i:Nat) (m:aG),S.F i=some m∧x=i∧y=fp0 i:=by
     unfold cO at hms;split at hms
     ·rename_i h0
      cases hT:S.F x.toNat with
      | none=>rw [hT] at hms;cases hms
      | some m=>
       rw [hT] at hms;exact ⟨x.toNat,m,hT,by omega,by cases hms;rfl⟩
     ·cases hms
    have hi8:=INV.o.ok.file i m hi;have hrlt:=HRA.o.lt;have s4:Step (fun c=>c=0) wr oj w4 oj:=⟨f4.mono (fun j _ e=>by rw [e];exact HMI.o.orr),fun _ _=>rfl,fun j hj=>HMI.o.step.fresh j (Nat.le_trans f4.size hj)⟩
    have M4:=HMI.o.steps INV.o.ok.tree s4 (HMI.o.step.tZ HMI.o.br f4) (fun c e=>e) hrlt;have SDR:Step (fun _=>False) w4 oj w4.drew oj:=Step.no M4.step.fresh (Fr.refl _).drew;have M4d:=lH (M4.steps INV.o.ok.tree SDR (M4.step.trans SDR (fun _ e=>e)) (fun c e=>e.elim) (Nat.lt_of_lt_of_le hrlt f4.size));have HFC:=lH (aCK (fp0 i) m w4.drew (((HFL.o i m hi).step M4d.o.step id id).reads) (Nat.le_trans hi8.2.2.few (by omega)));unfold Qb at HFC;have hsz4:wa.heap.size+3≤w4.heap.size:=Nat.le_trans hsz f4.size;have C4:Hid (∃c,c+cnt≤c0∧MapAt encI w4 wa.heap.size c (gone left (cO S.F fp'))):=lH (by
     obtain ⟨c,h1,h2⟩:=HCN.o;exact ⟨c,h1,h2.fr f4 (by omega)⟩)
    have R4:=lH hra';have HLE:Hid (wr.rangeLeft L.fl (wa.heap.size+2)=cnt):=lH HRA.o.left_eq;have hnx':(Instr.next (.pointer (some ⟨wa.heap.size+2,0,none⟩)) false 0).run prog wr=.ok (.tuple #[.bool true,.int .i64 i,.pointer (some ⟨fp0 i,0,none⟩)]) w4:=hnx;have hen':(Instr.entry (.pointer (some ⟨wa.heap.size+2,0,none⟩))).run prog w4=.ok (.tuple #[.int .i64 i,.pointer (some ⟨fp0 i,0,none⟩)]) w4:=hen;have d11:w4.cell? ⟨w.heap.size,11,none⟩=some (.map (some wa.heap.size)):=(by rw [aA M4.cs];rfl)
    have HI:=lH hi;have HI8:=lH hi8;have HLS:=lH hls;have HLT:=lH hlt';have HEND:Hid (∀(p:Nat) (W:World),Aa W w4.drew.heap.size p m→Fr No w4.drew W→∃w6,(Instr.mapUpdate 100 (.map (some wa.heap.size)) (.int .i64 i) (.pointer (some ⟨p,0,none⟩))).run prog W=.ok () w6∧Hid (∃(left:Int→Bool) (cnt:Nat) (oj fp':Nat→Nat),Hid (fG encI w6 L.fl (wa.heap.size+2) c0 (cO S.F fp0) left cnt)∧Hid (rO w o S K' ⟨w.heap.size,win,tr,tk,wa.heap.size,wa.heap.size+1⟩ (wa.heap.size+2) w6 left oj fp')∧Hid (∃c,c+cnt≤c0∧MapAt encI w6 wa.heap.size c (gone left (cO S.F fp')))∧wa.heap.size+3≤w6.heap.size)∧Hid (w6.rangeLeft L.fl (wa.heap.size+2)<wr.rangeLeft L.fl (wa.heap.size+2))):=lH (by
     intro p W hnew fW;have sW:Step (fun _=>False) w4.drew oj W oj:=Step.no M4d.o.step.fresh fW;obtain ⟨oE,sE,fa⟩:=hnew.at (K:=K') (i:=i) sW;have ME:=M4d.o.steps INV.o.ok.tree sE (M4d.o.step.trans sE (fun _ e=>e)) (fun c e=>e.elim) (by show wa.heap.size+2<w4.heap.size;omega);obtain ⟨c,hc,hmE⟩:∃c,c+cnt≤c0∧MapAt encI W wa.heap.size c (gone left (cO S.F fp')):=by
      obtain ⟨c,h1,h2⟩:=C4.o;exact ⟨c,h1,(h2.fr ((Fr.refl (S:=No) w4).drew) id).fr fW id⟩
     obtain ⟨w6,hu,M6,f6,hm6⟩:=ME.put INV.o.ok.tree HI.o HI8.o.2.1 HLS.o fa hmE (by omega);have RE:=((R4.o.fr ((Fr.refl (S:=No) w4).drew) id id).fr fW id id).fr f6 (by dsimp only;omega) (by dsimp only;omega);have hz:w4.heap.size≤W.heap.size:=fW.size;have hz6:=f6.size;have hlt:=HLT.o;exact ⟨w6,hu,lH ⟨_,cnt',oE,_,lH RE,lH M6,lH ⟨c+1,by omega,hm6⟩,by omega⟩,lH (by rw [RE.left_eq,HLE.o];exact hlt)⟩)
    clear hnx hen hra' f4 hms hls s4 HMI HCN HRA hs4 hlt' M4 SDR c11 hi hi8;go_wp2_with fail
    go_region_with (go_at_call 61;refine HFC.o.mono ?_;rintro e w5 ⟨p,rfl,hnew,f5⟩;obtain ⟨w6,hu6,HREL,HME⟩:=HEND.o p w5 hnew f5;have d11:=f5.cell_of d11 id)
    all_goals
     go_wp2_with fail;go_roundw
     case rel=>exact HREL.o
     case measure=>exact HME.o
def qI (s:aN) (x:Tok):aN:=dE (aI (aI (aI s x.c 1) x.h 1) x.i 2) [if x.wr then 1 else 0]
def qA (s:aN) (L:List Tok):aN:=L.foldl qI (aI s L.length 1)
theorem kG.pf {w w':World} {p base:Nat} {s:aN} {v:Value} {L:List Tok} (h:kG w v L) (g:Pg w p base s) (f:Fr (Pf w p base) w w'):kG w' v L:=by
 rcases h with h|⟨b,cap,e,hm,hr⟩
 ·exact .inl h
 ·exact .inr ⟨b,cap,e,hm,hr.pf g f (by decide) (by decide)⟩
theorem V4 (k p base:Nat) (L:List Tok) (v:Value) (s:aN) (w:World) (hk:w.heap[k]? =some (.cells #[.bool true,v] 155 (0,0))) (hv:kG w v L) (h:Pg w p base s):
  Calls prog 78 #[.pointer (some ⟨k,0,none⟩),.pointer (some ⟨p,0,none⟩)] w (mD w p base (qA s L)):=by
 have HR:Hid (∀e w',e=.returned (.tuple #[])→Pg w' p base (qA s L)→Fr (Pf w p base) w w'→mD w p base (qA s L) e w'):=lH (fun e w' a b c=>⟨a,b,c⟩);have hp:Hid (qA s L=L.foldl qI (aI s L.length 1)):=lH rfl;generalize hQ:mD w p base (qA s L)=Q at*;generalize qA s L=Z at*;clear hQ;obtain ⟨vb,vc,rfl⟩:∃vb vc,v=.slice vb L.length vc:=by
  rcases hv with ⟨rfl,rfl⟩|⟨b,cap,e,_⟩
  ·exact ⟨none,0,rfl⟩
  ·exact ⟨_,_,e⟩
 have c0:w.cell? ⟨k,0,none⟩=some (.bool true):=by rw [aA hk];rfl
 have c1:w.cell? ⟨k,1,none⟩=some (.slice vb L.length vc):=by rw [aA hk];rfl
 have HN:=lH (kQ p base 1 s L.length (by decide) (by decide) w h);have HG:=lH h;have HK:=lH hk;have HV:=lH hv;clear hk hv h;go_enter func78,ntmps78;go_wp2_with fail;refine HN.o.mono ?_;rintro e w1 ⟨rfl,g1,f1⟩;have k1:=jV HG.o f1 HK.o (by decide) (by decide);have c2:w1.cell? ⟨k,1,none⟩=some (.slice vb L.length vc):=by rw [aA k1];rfl
 have G1:=lH g1;have F1:=lH f1;have HV1:=lH (HV.o.pf HG.o f1);clear g1 f1 k1 c0 c1 HN;go_wp2_with fail;go_loopw [27] (fun a wr=>∃j:Nat,a=.int .i64 j∧j≤L.length∧Hid (Pg wr p base ((L.take j).foldl qI (aI s L.length 1)))∧Hid (Fr (Pf w1 p base) w1 wr)) (fun a _=>L.length - (intOf a).toNat)
 case atStart=>exact ⟨0,rfl,Nat.zero_le _,lH (by rw [List.take_zero,List.foldl_nil];exact G1.o),lH (Fr.refl _)⟩
 case round=>
  obtain ⟨j,rfl,hj,HGR,HFR⟩:=hrel;by_cases hlt:j<L.length
  ·rcases HV1.o with ⟨_,h0⟩|⟨b,cap,hv,hm,hr⟩
   ·rw [h0] at hlt;cases hlt
   cases hv;have hr2:=hr.pf G1.o HFR.o (by decide) (by decide);have HRR:=lH (hr2.row j L[j] (List.getElem?_eq_getElem hlt));have hlen:=hr.len;have hml:vc≤9223372036854775807:=hm;have q1:(j:Int)<(L.length:Int):=(by omega)
   have q2:(j:Int)<(vc:Int):=(by omega)
   have q3:(0:Int)≤(j:Int):=(by omega)
   have HTK:Hid (L.take (j+1)=L.take j++ [L[j]]):=lH (by rw [List.take_add_one,List.getElem?_eq_getElem hlt];rfl);generalize L[j]=x at*;have HST:Hid (∀s,qI s x=dE (aI (aI (aI s x.c 1) x.h 1) x.i 2) [if x.wr then 1 else 0]):=lH (fun _=>rfl);obtain ⟨xc,xh,xi,xw⟩:=x;unfold dA at HRR;dsimp only at HRR HST;have HE:Hid (∀w',Pg w' p base (qI ((L.take j).foldl qI (aI s L.length 1)) ⟨xc,xh,xi,xw⟩)→Pg w' p base ((L.take (j+1)).foldl qI (aI s L.length 1))):=lH (fun w' g=>by rw [HTK.o,List.foldl_append];exact g);generalize (L.take j).foldl qI (aI s L.length 1)=s0 at*;have fa:Fr No wr (wr.alloc (.cells #[.int .i64 xc,.int .i64 xh,.int .i64 xi,.bool xw] 53)):=(Fr.refl wr).alloc _;have ka:=aO wr (.cells #[.int .i64 xc,.int .i64 xh,.int .i64 xi,.bool xw] 53);have GA:=lH (HGR.o.no fa);have FA:Hid (Fr (Pf w1 p base) w1 (wr.alloc (.cells #[.int .i64 xc,.int .i64 xh,.int .i64 xi,.bool xw] 53))):=lH (cZ HFR.o fa.bK);have KA:=lH ka;clear hr hr2 hm fa ka;go_wp2_with (refine wpList_load_mid (by rfl) 53 _ (by rfl) b (j*4) (by rfl) [.int .i64 xc,.int .i64 xh,.int .i64 xi,.bool xw] _ HRR.o underlying53 rfl Tryz.jS ?_);refine (kQ p base 1 s0 xc (by decide) (by decide) _ GA.o).mono ?_;rintro e w4 ⟨rfl,g4,f4⟩;have k4:=jV GA.o f4 KA.o (by decide) (by decide);have p0:w4.cell? ⟨wr.heap.size,1,none⟩=some (.int .i64 xh):=(by rw [aA k4];rfl)
   have G4:=lH g4;have F4:=lH (cZ FA.o f4);have K4:=lH k4;clear g4 f4 k4;go_wp2_with fail;refine (kQ p base 1 _ xh (by decide) (by decide) _ G4.o).mono ?_;rintro e w5 ⟨rfl,g5,f5⟩;have k5:=jV G4.o f5 K4.o (by decide) (by decide);have p1:w5.cell? ⟨wr.heap.size,2,none⟩=some (.int .i64 xi):=(by rw [aA k5];rfl)
   have G5:=lH g5;have F5:=lH (cZ F4.o f5);have K5:=lH k5;clear g5 f5 k5 p0;go_wp2_with fail;refine (kQ p base 2 _ xi (by decide) (by decide) _ G5.o).mono ?_;rintro e w6 ⟨rfl,g6,f6⟩;have k6:=jV G5.o f6 K5.o (by decide) (by decide);have p2:w6.cell? ⟨wr.heap.size,3,none⟩=some (.bool xw):=(by rw [aA k6];rfl)
   have G6:=lH g6;have F6:=lH (cZ F5.o f6);clear g6 f6 k6 p1;go_wp2_with fail;refine (Dh p base _ xw _ G6.o).mono ?_;rintro e w7 ⟨rfl,g7,f7⟩;have HG7:=lH (HE.o w7 (by rw [HST.o];exact g7));have HF7:=lH (cZ F6.o f7);clear g7 f7 p2;go_wp2_with fail;go_roundw
   case rel=>exact ⟨j+1,by go_num,hlt,HG7,HF7⟩
   case measure=>simp [intOf];omega
  ·obtain rfl:j=L.length:=by omega
   have q1:¬(L.length:Int)<(L.length:Int):=(by omega)
   have HZ:Hid (Pg wr p base Z):=lH (by rw [hp.o];have:=HGR.o;rwa [List.take_length] at this);go_wp2_with fail;exact bodyPost_end (v:=.tuple #[]) (by simp [results,results78,go_sem]) rfl (HR.o _ _ rfl HZ.o (cZ F1.o HFR.o))
theorem Iu (v1 v2:Value) (x:List UInt8) (w:World) (h1:lC w v1 x) (h2:lC w v2 x) (hbig:x.length≤1000000):Calls prog 28 #[v1,v2] w fun e w'=>e=.returned (.bool true)∧Fr No w w':=
 (aCE v1 v2 x x w h1 h2 hbig).mono (fun e w' p=>by
   unfold kY at p;simpa using p)
theorem Oz {a b:Nat} (ha:a<256) (hb:b<256) (h:aQ 1 a=aQ 1 b):a=b:=by
 have:=congrArg (fun l=>l.map UInt8.toNat) h;simp [aQ,List.range_succ] at this;omega
theorem yR {a b:Nat} (ha:a<65536) (hb:b<65536) (h:aQ 2 a=aQ 2 b):a=b:=by
 have:=congrArg (fun l=>l.map UInt8.toNat) h;simp [aQ,List.range_succ] at this;omega
theorem V7 {a b:Nat} (ha:a<16777216) (hb:b<16777216) (h:aQ 3 a=aQ 3 b):a=b:=by
 have:=congrArg (fun l=>l.map UInt8.toNat) h;simp [aQ,List.range_succ] at this;omega
theorem rV {wd a b:Nat} {r s:List UInt8} (h:aQ wd a++r=aQ wd b++s):aQ wd a=aQ wd b∧r=s:=
 List.append_inj h (by rw [bT,bT])
theorem Jv {a b:Bool} (h:qV a=qV b):a=b:=by
 cases a<;>cases b<;>first|rfl|(exact absurd h (by decide))
theorem Yf {x y:eF} {r s:List UInt8} (hx:oU x) (hy:oU y) (h:iP x++r=iP y++s):x=y∧r=s:=by
 obtain ⟨xn,xi,xd⟩:=x;obtain ⟨yn,yi,yd⟩:=y;obtain ⟨x1,x2,x3⟩:=hx;obtain ⟨y1,y2,y3⟩:=hy;unfold iP at h;dsimp only at*;simp only [List.append_assoc] at h;obtain ⟨e1,h⟩:=rV h;have hl:=yR (by omega) (by omega) e1;obtain ⟨e2,h⟩:=List.append_inj h hl;obtain ⟨e3,h⟩:=rV h;have hi:=yR (by omega) (by omega) e3;simp only [List.cons_append,List.nil_append,List.cons.injEq] at h;obtain ⟨e4,h⟩:=h;have hn:xn=yn:=by
  obtain ⟨⟨a⟩⟩:=xn;obtain ⟨⟨b⟩⟩:=yn;have e2:a=b:=e2;rw [e2]
 have hi2:xi=yi:=by omega
 rw [hn,hi2,Jv e4];exact ⟨rfl,h⟩
theorem N9:∀(es fs:List eF) (r s:List UInt8),es.length=fs.length→(∀x∈es,oU x)→(∀x∈fs,oU x)→es.flatMap iP++r=fs.flatMap iP++s→es=fs∧r=s
 | [], [],r,s,_,_,_,h=>⟨rfl,h⟩
 | [],_::_,_,_,h,_,_,_=>by simp at h
 | _::_, [],_,_,h,_,_,_=>by simp at h
 | x::es,y::fs,r,s,hl,h1,h2,h=>by
  rw [List.flatMap_cons,List.flatMap_cons,List.append_assoc,List.append_assoc] at h;obtain ⟨e1,h⟩:=Yf (h1 x List.mem_cons_self) (h2 y List.mem_cons_self) h;obtain ⟨e2,h⟩:=N9 es fs r s (by simpa using hl) (fun z hz=>h1 z (List.mem_cons_of_mem _ hz)) (fun z hz=>h2 z (List.mem_cons_of_mem _ hz)) h;rw [e1,e2];exact ⟨rfl,h⟩
theorem aF.inj {a b:aF} (ha:a.ok) (hb:b.ok) (h:a.bytes=b.bytes):a=b:=by
 obtain ⟨fa,ea⟩:=ha.raw;obtain ⟨fb,eb⟩:=hb.raw;have la:=ha.2.1;have lb:=hb.2.1;rw [ea,eb] at h;unfold aF.xY aF.Dq at h;obtain ⟨a1,a2,a3,a4,a5,a6,a7⟩:=fa;obtain ⟨b1,b2,b3,b4,b5,b6,b7⟩:=fb;obtain ⟨e1,h⟩:=rV h;obtain ⟨e2,h⟩:=rV h;obtain ⟨e3,h⟩:=rV h;obtain ⟨e4,h⟩:=rV h;obtain ⟨e5,h⟩:=rV h;simp only [List.cons.injEq] at h;obtain ⟨e6,h⟩:=h;obtain ⟨e7,h⟩:=rV h;have n1:=Oz (by omega) (by omega) e1;have n2:=yR (by omega) (by omega) e2;have n3:=yR (by omega) (by omega) e3;have n4:=Oz (by omega) (by omega) e4;have n5:=V7 (by omega) (by omega) e5;have n6:=Jv e6;have n7:=yR (by omega) (by omega) e7;obtain ⟨n8,h⟩:=N9 _ _ _ _ n7 a6 b6 h;obtain ⟨_,n9⟩:=rV h;obtain ⟨ae,ai,az,ah,aw,ad,aes,am⟩:=a;obtain ⟨be,bi,bz,bh,bw,bd,bes,bm⟩:=b;dsimp only at*;have m1:ae=be:=by omega
 have m2:ai=bi:=by omega
 have m3:az=bz:=by omega
 have m4:ah=bh:=by omega
 have m5:aw=bw:=by omega
 rw [m1,m2,m3,m4,m5,n6,n8,n9]
def gG (Z:Nat→Prop) (w:World) (p base:Nat) (s:aN):Prop:=
 ∃v,w.heap[p]? =some (.cells #[v,.int .i64 s.2] 122 (0,0))∧w.ownsRow base 5 1 v s.1.length (dJ s.1)∧base≤w.heap.size∧s.1.length≤65536∧(∀k,v.ownBlock=some k→¬Z k)∧∀k,Z k→k<w.heap.size
def jH (Z:Nat→Prop) (w:World) (p base:Nat) (k:Nat):Prop:=k=p∨(base≤k∧¬Z k∧∃cur fz,w.heap[k]? =some (.cells cur 5 fz))
theorem gG.no {Z:Nat→Prop} {w w':World} {p base:Nat} {s:aN} (h:gG Z w p base s) (f:Fr No w w'):gG Z w' p base s:=by
 obtain ⟨v,hk,ho,hb,hl,hz,hy⟩:=h;refine ⟨v,f.aC hk id,⟨ho.1,?_⟩,Nat.le_trans hb f.size,hl,hz,fun k e=>Nat.lt_of_lt_of_le (hy k e) f.size⟩;rcases ho.2 with h2|⟨g,cap,cur,rfl,hb,hh,r⟩
 ·exact .inl h2
 ·exact .inr ⟨g,cap,cur,rfl,hb,f.aC hh id,r⟩
theorem gG.pg {Z:Nat→Prop} {w:World} {p base:Nat} {s:aN} (h:gG Z w p base s):Pg w p base s:=by
 obtain ⟨v,h1,h2,h3,h4,_⟩:=h;exact ⟨v,h1,h2,h3,h4⟩
theorem jH.pf {Z:Nat→Prop} {w:World} {p base k:Nat} (h:jH Z w p base k):Pf w p base k:=by
 rcases h with e|⟨h1,_,h2⟩
 ·exact .inl e
 ·exact .inr ⟨h1,h2⟩
theorem Pg.z {Z:Nat→Prop} {w w':World} {p base:Nat} {s:aN} (h:Pg w p base s) (f:Fr No w w') (hZ:∀k,Z k→w.heap.size≤k∧k<w'.heap.size):gG Z w' p base s:=by
 obtain ⟨v,hk,ho,hb,hl⟩:=h;refine ⟨v,f.aC hk id,⟨ho.1,?_⟩,Nat.le_trans hb f.size,hl,fun k e hz=> ?_,fun k e=>(hZ k e).2⟩
 ·rcases ho.2 with h2|⟨g,cap,cur,rfl,hb,hh,r⟩
  ·exact .inl h2
  ·exact .inr ⟨g,cap,cur,rfl,hb,f.aC hh id,r⟩
 ·rcases ho.2 with ⟨rfl,_⟩|⟨g,cap,cur,rfl,hb,hh,r⟩
  ·simp [Value.ownBlock] at e
  ·simp [Value.ownBlock] at e;subst e;have:=(hZ g hz).1;have:=lt_of_block hh;omega
theorem Fv {Z:Nat→Prop} {w w':World} {p base:Nat} (f:Fr No w w'):∀j,j<w.heap.size→jH Z w' p base j→jH Z w p base j:=by
 rintro j hj (e|⟨hb,hz,cur,fz,e⟩)
 ·exact .inl e
 ·exact .inr ⟨hb,hz,cur,fz,by rw [← f.block j hj id];exact e⟩
theorem yP {Z:Nat→Prop} {w w1 w2:World} {p base:Nat} (f:Fr (jH Z w p base) w w1) (g:Fr (jH Z w1 p base) w1 w2):Fr (jH Z w p base) w w2:=
 f.trans g (fun j hj e=>Classical.byContradiction fun hn=>hn (by
  rcases e with e|⟨hb,hz,cur,fz,e⟩
  ·exact .inl e
  ·exact .inr ⟨hb,hz,cur,fz,by rw [← f.block j hj hn];exact e⟩))
variable {Z:Nat→Prop}
theorem Dw (p base:Nat) (s:aN) (e:Int) (he:(e !=0)=true) (w:World) (h:gG Z w p base s):
  Calls prog 130 #[.pointer (some ⟨p,0,none⟩),.int .i64 e,.slice none 0 0] w fun x w'=>x=.returned (.tuple #[])∧gG Z w' p base (iG s e)∧Fr (jH Z w p base) w w':=by
 obtain ⟨bs,bad⟩:=s;obtain ⟨v,hk,hown,hb,hl,hz,hy⟩:=h;have cb:w.cell? ⟨p,1,none⟩=some (.int .i64 bad):=by rw [aA hk];rfl
 have z1:=bU hk 1;by_cases h0:bad=0
 ·subst h0;have HK:=lH hk;have HO:=lH hown;clear hk hown;go_enter func130,ntmps130;go_wp2_with fail
  go_end0
  have FS:Fr (fun k=>k=p) w (w.setCell ⟨p,1,none⟩ (.int .i64 e)):=Fr.setCell (S:=fun k=>k=p) (p:=⟨p,1,none⟩) (Fr.refl w) (.inl rfl) _;refine ⟨rfl,⟨v,?_,⟨HO.o.1,?_⟩,Nat.le_trans hb FS.size,hl,hz,fun k e=>Nat.lt_of_lt_of_le (hy k e) FS.size⟩,FS.mono (fun _ _ e=> .inl e)⟩
  ·simpa [iG] using setCell_at HK.o 1 (.int .i64 e)
  ·rcases HO.o.2 with h|⟨g',cp,cur,h1,h2,h3,h4⟩
   ·exact .inl h
   ·exact .inr ⟨g',cp,cur,h1,h2,vV h3 (fun e=>by have:=HK.o;rw [e,this] at h3;simp at h3) 1 _,h4⟩
 ·have t0:(bad !=0)=true:=by simpa using h0
  have HP:Hid (gG Z w p base (bs,bad)):=lH ⟨v,hk,hown,hb,hl,hz,hy⟩;have hf:iG (bs,bad) e=(bs,bad):=by simp [iG,h0]
  rw [hf];clear hk hown hf;go_enter func130,ntmps130;go_wp2_with fail
  go_end0
  exact ⟨rfl,HP.o,Fr.refl _⟩
theorem aAB (p base:Nat) (bs ys:List UInt8) (b off c:Nat) (w:World) (h:gG Z w p base (bs,0)) (hy:dC w (.slice (some ⟨b,off,none⟩) ys.length c) ys b off c) (h0:ys≠ []) (hl:bs.length+ys.length≤65536):
  Calls prog 130 #[.pointer (some ⟨p,0,none⟩),.int .i64 0,.slice (some ⟨b,off,none⟩) ys.length c] w fun e w'=>e=.returned (.tuple #[])∧gG Z w' p base (bs++ys,0)∧Fr (jH Z w p base) w w':=by
 obtain ⟨v,hk,hown,hb,_,hz,hzl⟩:=h;dsimp only at hk hown;obtain ⟨_,hyc,hyb,hyx⟩:=hy;obtain ⟨i0,hi0,hz0,hz1,hz2⟩:=info_parts Tryz.info5;have HI:=lH hi0;have HZ0:=lH hz0;have HZ1:=lH hz1;have HZ2:=lH hz2;clear hi0 hz0 hz1 hz2;have tag:∀k,v.ownBlock=some k→base≤k∧∃cur,w.heap[k]? =some (.cells cur 5 (0,0)):=by
  intro k hk;rcases hown.2 with ⟨rfl,_⟩|⟨g,cp,cur,rfl,hb,hh,_⟩
  ·simp [Value.ownBlock] at hk
  ·simp [Value.ownBlock] at hk;subst hk;exact ⟨hb,cur,hh⟩
 obtain ⟨a,c1,rfl⟩:∃a c1,v=.slice a bs.length c1:=by
  rcases hown.2 with ⟨rfl,hn⟩|⟨g,cp,cur,rfl,_⟩
  ·exact ⟨none,0,by rw [hn]⟩
  ·exact ⟨_,_,rfl⟩
 have c0:w.cell? ⟨p,0,none⟩=some (.slice a bs.length c1):=by rw [aA hk];rfl
 have cb:w.cell? ⟨p,1,none⟩=some (.int .i64 0):=by rw [aA hk];rfl
 have z0:=bU hk 0;have q1:¬(65536:Int) - (bs.length:Int)<(ys.length:Int):=by omega
 have hym:0<ys.length:=by cases ys with|nil=>exact absurd rfl h0|cons x r=>simp
 have HY:=lH hyx;have TAG:=lH tag;have HK:=lH hk;have HB:=lH hb;have HZN:=lH hz;have HZL:=lH hzl;have HLL:=lH hl;generalize hml:ys.length=m at*;have HM:=lH hml;generalize hnl:bs.length=n at*;have HN:=lH hnl;clear h0 hyx tag hk hb hml hnl hz hzl hl;go_enter func130,ntmps130;go_wp2_with (at_builtin;refine wpList_append_lies _ rfl _ _ 27 rfl base 5 i0 (.int .u8 0) 1 1 underlying27 HI.o HZ0.o HZ1.o HZ2.o rfl (by decide) (.slice a n c1) n (dJ bs) rfl hown ⟨b,off,none⟩ m c (dJ ys) rfl ?d0 ?d1 ?d2 hym (by unfold maxLen;omega) (by omega) HB.o w.heap.size rfl ?_)
 case d0=>rw [dJ,List.length_map,HM.o]
 case d1=>
  intro j u hj;simp only [dJ,List.getElem?_map,Option.map_eq_some_iff] at hj;obtain ⟨x,hx,rfl⟩:=hj;exact HY.o j x hx
 case d2=>
  intro u hu;obtain ⟨x,_,rfl⟩:=List.mem_map.1 hu;rfl
 intro g cap w2 hown2 hgrow hat hgl;have bn:(Value.slice a n c1).ownBlock≠some p:=fun e=>by
  obtain ⟨_,cur,hh⟩:=TAG.o p e;rw [HK.o] at hh;simp at hh
 have F2:Fr (fun k=>(Value.slice a n c1).ownBlock=some k) w w2:=(Fr.refl (S:=fun k=>(Value.slice a n c1).ownBlock=some k) w).grown hgrow (fun k hk=> .inl hk);have k2:w2.heap[p]? =some (.cells #[.slice a n c1,.int .i64 0] 122 (0,0)):=F2.aC HK.o bn;have c2:w2.cell? ⟨p,0,none⟩=some (.slice a n c1):=by rw [aA k2];rfl
 have z2:=bU k2 0;have K2:=lH k2;have HO:=lH hown2;have HF:=lH F2;have HAT:=lH hat;clear hgrow hat hgl k2 hown2 F2 hown bn;go_wp2_with fail
 go_end0
 refine ⟨rfl,⟨.slice (some ⟨g,0,none⟩) (n+m) cap,?_,?_,?_,?_,?_,?_⟩,?_⟩
 ·have:=setCell_at K2.o 0 (.slice (some ⟨g,0,none⟩) (n+m) cap);simpa using this
 ·rw [List.length_append,HN.o,HM.o];have e:dJ (bs++ys)=dJ bs++dJ ys:=by simp [dJ]
  rw [e];refine ⟨HO.o.1,?_⟩;rcases HO.o.2 with h|⟨g',cp,cur,h1,h2,h3,h4⟩
  ·exact .inl h
  ·exact .inr ⟨g',cp,cur,h1,h2,vV h3 (fun e=>by have:=K2.o;rw [e,this] at h3;simp at h3) 0 _,h4⟩
 ·exact Nat.le_trans HB.o (by simpa [World.setCell] using HF.o.size)
 ·rw [List.length_append,HN.o,HM.o];exact HLL.o
 ·intro k e hk;simp [Value.ownBlock] at e;subst e;rcases HAT.o with h|h
  ·exact HZN.o _ h hk
  ·have:=HZL.o _ hk;omega
 ·intro k hk;exact Nat.lt_of_lt_of_le (HZL.o k hk) (by simpa [World.setCell] using HF.o.size)
 ·refine Fr.setCell (HF.o.mono (fun k _ hk=> ?_)) (.inl (.inl rfl)) _;exact .inr ⟨(TAG.o k hk).1,HZN.o k hk,by obtain ⟨_,cur,h⟩:=TAG.o k hk;exact ⟨cur,_,h⟩⟩
theorem Hm (p base:Nat) (s:aN) (ys:List UInt8) (b off c:Nat) (w:World) (h:gG Z w p base s) (hy:dC w (.slice (some ⟨b,off,none⟩) ys.length c) ys b off c) (h0:ys≠ []) (hm:ys.length≤1000000):
  Calls prog 130 #[.pointer (some ⟨p,0,none⟩),.int .i64 0,.slice (some ⟨b,off,none⟩) ys.length c] w fun x w'=>x=.returned (.tuple #[])∧gG Z w' p base (dE s ys)∧Fr (jH Z w p base) w w':=by
 obtain ⟨bs,bad⟩:=s;by_cases hb:bad=0
 ·subst hb;by_cases hf:bs.length+ys.length≤65536
  ·refine (aAB p base bs ys b off c w h hy h0 hf).mono ?_;rintro x w' ⟨rfl,h1,h2⟩;have e:dE (bs,0) ys=(bs++ys,0):=(by simp [dE];omega)
   rw [e];exact ⟨rfl,h1,h2⟩
  ·have e:dE (bs,0) ys=(bs,3):=by simp [dE];omega
   rw [e];obtain ⟨v,hk,hown,hb,hl,hz,hzl⟩:=h;obtain ⟨a,c1,rfl⟩:∃a c1,v=.slice a bs.length c1:=by
    rcases hown.2 with ⟨rfl,hn⟩|⟨g,cp,cur,rfl,_⟩
    ·exact ⟨none,0,by rw [hn]⟩
    ·exact ⟨_,_,rfl⟩
   have c0:w.cell? ⟨p,0,none⟩=some (.slice a bs.length c1):=(by rw [aA hk];rfl)
   have cb:w.cell? ⟨p,1,none⟩=some (.int .i64 0):=(by rw [aA hk];rfl)
   have z1:=bU hk 1;have q1:(65536:Int) - (bs.length:Int)<(ys.length:Int):=(by omega)
   have HK:=lH hk;have HO:=lH hown;have HZN:=lH hz;have HZL:=lH hzl;clear hk hown hy hz hzl;generalize hml:ys.length=m at*;generalize hnl:bs.length=n at*;have HN:=lH hnl;clear hml hnl;go_enter func130,ntmps130;go_wp2_with fail
   go_end0
   have FS:Fr (fun k=>k=p) w (w.setCell ⟨p,1,none⟩ (.int .i64 3)):=Fr.setCell (S:=fun k=>k=p) (p:=⟨p,1,none⟩) (Fr.refl w) (.inl rfl) _;refine ⟨rfl,⟨_,by simpa using setCell_at HK.o 1 (.int .i64 3),⟨by simp [dJ],?_⟩,Nat.le_trans hb FS.size,by rw [HN.o];exact hl,HZN.o,fun k e=>Nat.lt_of_lt_of_le (HZL.o k e) FS.size⟩,FS.mono (fun _ _ e=> .inl e)⟩;rw [HN.o];rcases HO.o.2 with h|⟨g',cp,cur,h1,h2,h3,h4⟩
   ·exact .inl h
   ·exact .inr ⟨g',cp,cur,h1,h2,vV h3 (fun e=>by have:=HK.o;rw [e,this] at h3;simp at h3) 1 _,h4⟩
 ·have t0:(bad !=0)=true:=by simpa using hb
  have e:dE (bs,bad) ys=(bs,bad):=by simp [dE,hb]
  rw [e];have HP:=lH h;obtain ⟨v,hk,hown,hb,hl,hz,hzl⟩:=h;have cb:w.cell? ⟨p,1,none⟩=some (.int .i64 bad):=by rw [aA hk];rfl
  clear hk hown hy e;go_enter func130,ntmps130;go_wp2_with fail
  go_end0
  exact ⟨rfl,HP.o,Fr.refl _⟩
theorem Z7 (p base wd:Nat) (s:aN) (x:Nat) (h1:1≤wd) (h2:wd≤7) (hx:x<2 ^ (8*wd)) (w:World) (h:gG Z w p base s):
  Calls prog 76 #[.pointer (some ⟨p,0,none⟩),.int .i64 x,.int .i64 wd] w fun e w'=>e=.returned (.tuple #[])∧gG Z w' p base (dE s (aQ wd x))∧Fr (jH Z w p base) w w':=by
 have t1:(1:Int)≤(wd:Int):=by omega
 have t2:(wd:Int)≤7:=by omega
 have t3:¬(x:Int)<0:=by omega
 have t4:((x:Int) / 2 ^ (8*wd) !=0)=false:=by
  have:(x:Int) / 2 ^ (8*wd)=0:=by
   have e:((x:Int) / 2 ^ (8*wd))=((x / 2 ^ (8*wd):Nat):Int):=(by simp)
   rw [e,Nat.div_eq_of_lt hx];rfl
  simp [this]
 have HP:=lH h;have HX:=lH hx;obtain ⟨i0,hi,hz0,hz1,hz2⟩:=info_parts Tryz.info5;have HI:=lH hi;have HZ0:=lH hz0;have HZ1:=lH hz1;have HZ2:=lH hz2;clear hi hz0 hz1 hz2 h hx;have hown0:w.ownsRow w.heap.size 5 1 (.slice none 0 0) 0 []:=⟨rfl,.inl ⟨rfl,rfl⟩⟩
 go_enter func76,ntmps76;go_wp2_with (go_at_call 129;go_in);go_loopw [6,7] (fun b i wr=>∃m:Nat,i=.int .i64 ((m:Int) - 1)∧m≤wd∧wr.ownsRow w.heap.size 5 1 b (wd - m) (dJ ((aQ wd x).take (wd - m)))∧Fr No w wr) (fun _ i _=>(intOf i+1).toNat)
 case atStart=>
  refine ⟨wd,rfl,Nat.le_refl _,?_,Fr.refl _⟩;rw [Nat.sub_self];exact hown0
 case round=>
  obtain ⟨m,rfl,hm,hown,f2⟩:=hrel;clear hown0;rcases m with _|m
  ·rw [Nat.sub_zero,List.take_of_length_le (by rw [bT];exact Nat.le_refl _)] at hown;obtain ⟨g,cap,rfl,sl⟩:∃g cap,u6=.slice (some ⟨g,0,none⟩) wd cap∧dC wr (.slice (some ⟨g,0,none⟩) (aQ wd x).length cap) (aQ wd x) g 0 cap:=by
    rcases hown.2 with ⟨_,hn⟩|⟨g,cap,cur,rfl,_⟩
    ·exact absurd hn (by omega)
    ·exact ⟨g,cap,rfl,A8 hown (bT wd x).symm⟩
   have SL:=lH sl;have HB:=lH (Hm p base s (aQ wd x) g 0 cap wr (HP.o.no f2) SL.o (by intro e;have:=bT wd x;rw [e] at this;simp at this;omega) (by rw [bT];omega));rw [bT] at HB;clear sl hown;go_wp2_with fail;refine HB.o.mono ?_;rintro e w9 ⟨rfl,h9,f9⟩;have H9:=lH h9;clear h9;go_wp2_with fail
   go_end0
   exact ⟨rfl,H9.o,f2.bK.trans f9 (Fv f2)⟩
  ·rw [show (((m+1:Nat)):Int) - 1=(m:Int) by omega];have q0:(0:Int)≤(m:Int):=(by omega)
   have q1:IntKind.i64.wrap (8*(m:Int))=8*(m:Int):=IntWalk.i64_in _ (by omega);have q2:(0:Int)≤8*(m:Int):=(by omega)
   have q3:8*(m:Int)<64:=(by omega)
   have q4:(8*(m:Int)).toNat=8*m:=(by omega)
   go_wp2_with (at_builtin;refine wpList_append_lies _ rfl _ _ 27 rfl w.heap.size 5 i0 (.int .u8 0) 1 1 underlying27 HI.o HZ0.o HZ1.o HZ2.o rfl (by decide) u6 (wd - (m+1)) (dJ ((aQ wd x).take (wd - (m+1)))) rfl (hown.alloc _) ⟨wr.heap.size,0,none⟩ 1 1 [.int .u8 ((x:Int) / 2 ^ (8*m) % 256)] rfl rfl ?d1 ?d2 (by decide) (by unfold maxLen;omega) (by omega) ?d5 (wr.heap.size+1) ?d6 ?_)
   case d1=>exact World.news_of_block (cs:= #[.int .u8 ((x:Int) / 2 ^ (8*m) % 256)]) (t:=5) (fr:=(0,0)) (heap_alloc_new wr _)
   case d2=>simp [Value.oneCell']
   case d5=>have:=f2.size;simp;omega
   case d6=>simp
   intro g cap w1 hown1 hgrow1 hat1 hgl1;have F1:Fr No w w1:=f2.alloc _|>.grown hgrow1 (fun z hz=> .inr (Mc hown z hz))
   have HO1:Hid (w1.ownsRow w.heap.size 5 1 (.slice (some ⟨g,0,none⟩) (wd - (m+1)+1) cap) (wd - m) (dJ ((aQ wd x).take (wd - m)))):=lH (by
    rw [Gn wd x m hm,show wd - m=wd - (m+1)+1 by omega];have e:dJ ((aQ wd x).take (wd - (m+1))++ [UInt8.ofNat (x / 2 ^ (8*m) % 256)])=dJ ((aQ wd x).take (wd - (m+1)))++ [.int .u8 ((x:Int) / 2 ^ (8*m) % 256)]:=by
     simp [dJ]
    rw [e];exact hown1)
   clear hown1 hgrow1 hat1 hgl1 hown f2;go_wp2_with fail;go_roundw
   case rel=>
    exact ⟨m,rfl,by omega,HO1.o,F1⟩
   case measure=>simp [intOf]
theorem aA6 (p base wd:Nat) (s:aN) (x:Int) (h1:1≤wd) (h2:wd≤7) (hx:x<0) (w:World) (h:gG Z w p base s):
  Calls prog 76 #[.pointer (some ⟨p,0,none⟩),.int .i64 x,.int .i64 wd] w fun e w'=>e=.returned (.tuple #[])∧gG Z w' p base (iG s 1)∧Fr (jH Z w p base) w w':=by
 have t1:(1:Int)≤(wd:Int):=by omega
 have t2:(wd:Int)≤7:=by omega
 have HB:=lH (Dw p base s 1 rfl w h);go_enter func76,ntmps76;go_wp2_with (go_at_call 129;go_in);refine HB.o.mono ?_;rintro e w9 ⟨rfl,h9,f9⟩;have H9:=lH h9;clear h9;go_wp2_with fail;exact bodyPost_ret (v:=.tuple #[]) (by simp [results,results76,go_sem]) rfl ⟨rfl,H9.o,f9⟩
theorem aB4 (p base wd:Nat) (s:aN) (x:Nat) (h1:1≤wd) (h2:wd≤7) (hx:2 ^ (8*wd)≤x) (w:World) (h:gG Z w p base s):
  Calls prog 76 #[.pointer (some ⟨p,0,none⟩),.int .i64 x,.int .i64 wd] w fun e w'=>e=.returned (.tuple #[])∧gG Z w' p base (iG s 1)∧Fr (jH Z w p base) w w':=by
 have t1:(1:Int)≤(wd:Int):=by omega
 have t2:(wd:Int)≤7:=by omega
 have t3:¬(x:Int)<0:=by omega
 have t4:((x:Int) / 2 ^ (8*wd) !=0)=true:=by
  have e:((x:Int) / 2 ^ (8*wd))=((x / 2 ^ (8*wd):Nat):Int):=by simp
  rw [e];have:0<x / 2 ^ (8*wd):=Nat.div_pos hx (Nat.two_pow_pos _);simp;omega
 have HB:=lH (Dw p base s 1 rfl w h);clear hx;go_enter func76,ntmps76;go_wp2_with (go_at_call 129;go_in);refine HB.o.mono ?_;rintro e w9 ⟨rfl,h9,f9⟩;have H9:=lH h9;clear h9;go_wp2_with fail;exact bodyPost_ret (v:=.tuple #[]) (by simp [results,results76,go_sem]) rfl ⟨rfl,H9.o,f9⟩
theorem Cc (p base wd:Nat) (s:aN) (x:Int) (h1:1≤wd) (h2:wd≤7) (w:World) (h:gG Z w p base s):
  Calls prog 76 #[.pointer (some ⟨p,0,none⟩),.int .i64 x,.int .i64 wd] w fun e w'=>e=.returned (.tuple #[])∧gG Z w' p base (aI s x wd)∧Fr (jH Z w p base) w w':=by
 by_cases hx:x<0
 ·rw [show aI s x wd=iG s 1 by unfold aI;rw [if_neg (by omega)]];exact aA6 p base wd s x h1 h2 hx w h
 ·obtain ⟨n,rfl⟩:∃n:Nat,x=n:=⟨x.toNat,by omega⟩
  by_cases hl:n<2 ^ (8*wd)
  ·have e:aI s n wd=dE s (aQ wd n):=by
    unfold aI;rw [if_pos ⟨by omega,by exact_mod_cast hl⟩];simp
   rw [e];exact Z7 p base wd s n h1 h2 hl w h
  ·have e:aI s n wd=iG s 1:=by
    unfold aI;rw [if_neg (fun h=>hl (by exact_mod_cast h.2))]
   rw [e];exact aB4 p base wd s n h1 h2 (by omega) w h
theorem Px (p base:Nat) (s:aN) (v:Value) (hv:v=.slice none 0 0∨∃b off c,v=.slice (some ⟨b,off,none⟩) 0 c) (w:World) (h:gG Z w p base s):
  Calls prog 77 #[.pointer (some ⟨p,0,none⟩),v] w fun e w'=>e=.returned (.tuple #[])∧gG Z w' p base (dE s [0,0])∧Fr (jH Z w p base) w w':=by
 have HP:=lH h;clear h;have F0:Fr No w (w.alloc (.cells #[.int .u8 0,.int .u8 0] 5)):=(Fr.refl w).alloc _;have HB:=lH (Hm p base s [0,0] w.heap.size 0 2 (w.alloc (.cells #[.int .u8 0,.int .u8 0] 5)) (HP.o.no F0) (zN w [0,0]) (by simp) (by simp));rcases hv with rfl|⟨b,off,c,rfl⟩;all_goals
  go_enter func77,ntmps77;go_wp2_with fail;refine HB.o.mono ?_;rintro e w9 ⟨rfl,h9,f9⟩;have H9:=lH h9;clear h9;go_wp2_with fail
  go_end0
  exact ⟨rfl,H9.o,F0.bK.trans f9 (Fv F0)⟩
theorem V9 (p base:Nat) (s:aN) (ys:List UInt8) (b off c:Nat) (w:World) (hy:dC w (.slice (some ⟨b,off,none⟩) ys.length c) ys b off c) (h0:ys≠ []) (hm:ys.length≤65535) (h:gG Z w p base s):
  Calls prog 77 #[.pointer (some ⟨p,0,none⟩),.slice (some ⟨b,off,none⟩) ys.length c] w fun e w'=>e=.returned (.tuple #[])∧gG Z w' p base (dE s (aQ 2 ys.length++ys))∧Fr (jH Z w p base) w w':=by
 have HP:=lH h;obtain ⟨_,hyc,hyb,hyx⟩:=hy;obtain ⟨i0,hi0,hz0,hz1,hz2⟩:=info_parts Tryz.info5;have HI:=lH hi0;have HZ0:=lH hz0;have HZ1:=lH hz1;have HZ2:=lH hz2;have HY:=lH hyx;have H0:=lH h0;have hml0:0<ys.length:=by cases ys with|nil=>exact absurd rfl h0|cons x r=>simp
 clear hi0 hz0 hz1 hz2 h hyx h0;have q0:¬(65535:Int)<(ys.length:Int):=by omega
 generalize hml:ys.length=m at*;have HM:=lH hml;clear hml;have hown:(w.alloc (.cells #[.int .u8 ((m:Int) / 256),.int .u8 ((m:Int) % 256)] 5)).ownsRow w.heap.size 5 1 (.slice (some ⟨w.heap.size,0,none⟩) 2 2) 2 [.int .u8 ((m:Int) / 256),.int .u8 ((m:Int) % 256)]:=
  ⟨rfl,.inr ⟨w.heap.size,2,_,rfl,Nat.le_refl _,aO w _,Nat.le_refl _,by decide,rfl,rfl⟩⟩
 have f0:Fr No w (w.alloc (.cells #[.int .u8 ((m:Int) / 256),.int .u8 ((m:Int) % 256)] 5)):=(Fr.refl w).alloc _;have F0:=lH f0;go_enter func77,ntmps77;go_wp2_with (at_builtin;refine wpList_append_lies _ rfl _ _ 27 rfl w.heap.size 5 i0 (.int .u8 0) 1 1 underlying27 HI.o HZ0.o HZ1.o HZ2.o rfl (by decide) (.slice (some ⟨w.heap.size,0,none⟩) 2 2) 2 [.int .u8 ((m:Int) / 256),.int .u8 ((m:Int) % 256)] rfl hown ⟨b,off,none⟩ m c (dJ ys) rfl ?d0 ?d1 ?d2 hml0 (by unfold maxLen;omega) (by omega) ?d5 (w.heap.size+1) ?d6 ?_)
 case d0=>rw [dJ,List.length_map,HM.o]
 case d1=>
  intro j u hj;simp only [dJ,List.getElem?_map,Option.map_eq_some_iff] at hj;obtain ⟨x,hx,rfl⟩:=hj;exact HY.o j x hx
 case d2=>
  intro u hu;obtain ⟨x,_,rfl⟩:=List.mem_map.1 hu;rfl
 intro g cap w2 hown2 hgrow hat hgl;have F2:Fr No w w2:=f0.grown hgrow (fun z hz=>by simp [Value.ownBlock] at hz;exact .inr (by omega));have hnb:aQ 2 m= [UInt8.ofNat (m / 256 % 256),UInt8.ofNat (m % 256)]:=yN m;have hl2:(aQ 2 m++ys).length=2+m:=by rw [List.length_append,bT,HM.o]
 have SL:Hid (dC w2 (.slice (some ⟨g,0,none⟩) (aQ 2 m++ys).length cap) (aQ 2 m++ys) g 0 cap):=lH (by
  refine A8 (base:=w.heap.size) (n:=(aQ 2 m++ys).length) ?_ rfl;have e:dJ (aQ 2 m++ys)= [.int .u8 ((m:Int) / 256),.int .u8 ((m:Int) % 256)]++dJ ys:=by
   rw [hnb];simp [dJ];omega
  rw [hl2,e];exact hown2)
 have HB:=lH (Hm p base s (aQ 2 m++ys) g 0 cap w2 (HP.o.no F2) SL.o (by rw [hnb];simp) (by rw [hl2];omega));rw [hl2] at HB;clear hown hown2 hgrow hat hgl f0 hnb hl2 SL;go_wp2_with fail;refine HB.o.mono ?_;rintro e w9 ⟨rfl,h9,f9⟩;have H9:=lH h9;clear h9;go_wp2_with fail
 go_end0
 exact ⟨rfl,H9.o,F2.bK.trans f9 (Fv F2)⟩
theorem Zq (p base:Nat) (s:aN) (n:Nat) (b off c:Nat) (w:World) (hm:65535<n) (h:gG Z w p base s):
  Calls prog 77 #[.pointer (some ⟨p,0,none⟩),.slice (some ⟨b,off,none⟩) n c] w fun e w'=>e=.returned (.tuple #[])∧gG Z w' p base (iG s 3)∧Fr (jH Z w p base) w w':=by
 have q0:(65535:Int)<(n:Int):=by omega
 have HB:=lH (Dw p base s 3 rfl w h);clear h;go_enter func77,ntmps77;go_wp2_with fail;refine HB.o.mono ?_;rintro e w9 ⟨rfl,h9,f9⟩;have H9:=lH h9;clear h9;go_wp2_with fail;exact bodyPost_ret (v:=.tuple #[]) (by simp [results,results77,go_sem]) rfl ⟨rfl,H9.o,f9⟩
theorem aBb (p base:Nat) (s:aN) (v:Value) (ys:List UInt8) (w:World) (hy:Bs w v ys) (h:gG Z w p base s):
  Calls prog 77 #[.pointer (some ⟨p,0,none⟩),v] w fun e w'=>e=.returned (.tuple #[])∧gG Z w' p base (fK s ys)∧Fr (jH Z w p base) w w':=by
 rcases hy with ⟨rfl,rfl⟩|⟨b,off,c,rfl,sl⟩
 ·exact Px p base s _ (.inl rfl) w h
 ·by_cases h0:ys= []
  ·subst h0;exact Px p base s _ (.inr ⟨b,off,c,rfl⟩) w h
  ·by_cases hl:65535<ys.length
   ·rw [show fK s ys=iG s 3 by simp [fK,hl]];exact Zq p base s _ b off c w hl h
   ·rw [show fK s ys=dE s (aQ 2 ys.length++ys) by simp [fK,hl]];exact V9 p base s ys b off c w ⟨rfl,sl⟩ h0 (by omega) h
def iH (a b:Int):Int:=if a<b then -1 else if b<a then 1 else 0
def jY (x y:Stp):Int:=if iH x.1 y.1≠0 then iH x.1 y.1 else if iH x.2.1 y.2.1≠0 then iH x.2.1 y.2.1 else iH x.2.2 y.2.2
theorem Eb {a b:Int}:iH a b<0↔a<b:=by unfold iH;split<;>(try split)<;>omega
theorem Qy {a b:Int}:iH a b=0↔a=b:=by unfold iH;split<;>(try split)<;>omega
theorem uB (x y:Stp):jY x y<0↔(x.1<y.1∨x.1=y.1∧(x.2.1<y.2.1∨x.2.1=y.2.1∧x.2.2<y.2.2)):=by
 unfold jY;have h1:= @Eb x.1 y.1;have h2:= @Qy x.1 y.1;have h3:= @Eb x.2.1 y.2.1;have h4:= @Qy x.2.1 y.2.1;have h5:= @Eb x.2.2 y.2.2;split
 ·omega
 ·split<;>omega
theorem V6:Go.Sort.SWO (ltOf jY) where
 irrefl x:=by
  show decide (jY x x<0)=false;rw [decide_eq_false_iff_not,uB];omega
 trans x y z h1 h2:=by
  have h1:decide (jY x y<0)=true:=h1;have h2:decide (jY y z<0)=true:=h2;show decide (jY x z<0)=true;rw [decide_eq_true_eq,uB] at*;omega
 ntrans x y z h1 h2:=by
  have h1:decide (jY x y<0)=false:=h1;have h2:decide (jY y z<0)=false:=h2;show decide (jY x z<0)=false;rw [decide_eq_false_iff_not,uB] at*;omega
theorem Vr (x y:Stp) (h1:ltOf jY x y=false) (h2:ltOf jY y x=false):x=y:=by
 have h1:decide (jY x y<0)=false:=h1;have h2:decide (jY y x<0)=false:=h2;rw [decide_eq_false_iff_not,uB] at*;obtain ⟨a,b,c⟩:=x;obtain ⟨a',b',c'⟩:=y;simp only [Prod.mk.injEq];dsimp only at h1 h2;omega
theorem Pv (a:Int) (w:World):Calls prog 174 #[.int .i64 a] w fun e w'=>e=.returned (.bool false)∧w'=w:=by
 go_enter func174,ntmps174;go_wp2_with fail
 go_ret
 exact ⟨by simp,rfl⟩
theorem Jc (a b:Int) (w:World):Calls prog 121 #[.int .i64 a,.int .i64 b] w fun e w'=>e=.returned (.int .i64 (iH a b))∧w'=w:=by
 have H1:=lH (Pv a w);have H2:=lH (Pv b w);by_cases h1:a<b
 ·have e:iH a b= -1:=if_pos h1;rw [e];clear e;go_enter func121,ntmps121;go_wp2_with fail;refine H1.o.mono ?_;rintro e w1 ⟨rfl,hw⟩;subst hw;go_wp2_with fail;refine H2.o.mono ?_;rintro e w2 ⟨rfl,hw⟩;subst hw;go_wp2_with fail
  go_ret
  exact ⟨rfl,rfl⟩
 ·by_cases h2:b<a
  ·have e:iH a b=1:=(if_neg h1).trans (if_pos h2);rw [e];clear e;go_enter func121,ntmps121;go_wp2_with fail;refine H1.o.mono ?_;rintro e w1 ⟨rfl,hw⟩;subst hw;go_wp2_with fail;refine H2.o.mono ?_;rintro e w2 ⟨rfl,hw⟩;subst hw;go_wp2_with fail
   go_ret
   exact ⟨rfl,rfl⟩
  ·have e:iH a b=0:=(if_neg h1).trans (if_neg h2);rw [e];clear e;go_enter func121,ntmps121;go_wp2_with fail;refine H1.o.mono ?_;rintro e w1 ⟨rfl,hw⟩;subst hw;go_wp2_with fail;refine H2.o.mono ?_;rintro e w2 ⟨rfl,hw⟩;subst hw;go_wp2_with fail
   go_ret
   exact ⟨rfl,rfl⟩
def uJ (x y z:Int):Int:=if x≠0 then x else if y≠0 then y else z
theorem aDB (b:Nat) (x y z:Int) (w:World) (c0:w.cell? ⟨b,0,none⟩=some (.int .i64 x)) (c1:w.cell? ⟨b,1,none⟩=some (.int .i64 y)) (c2:w.cell? ⟨b,2,none⟩=some (.int .i64 z)):
  Calls prog 120 #[.slice (some ⟨b,0,none⟩) 3 3] w fun e w'=>e=.returned (.int .i64 (uJ x y z))∧w'=w:=by
 by_cases h1:x=0
 ·subst h1;by_cases h2:y=0
  ·subst h2;have e:uJ 0 0 z=z:=(by simp [uJ])
   rw [e];clear e;by_cases h3:z=0
   ·subst h3;go_enter func120,ntmps120;go_wp2_with fail;refine wp_loop_rounds 4 ?_;rw [rounds_succ];go_wp2_with fail;rw [rounds_succ];go_wp2_with fail;rw [rounds_succ];go_wp2_with fail;rw [rounds_succ];go_wp2_with fail
    go_ret
    exact ⟨rfl,rfl⟩
   ·have q:(z !=0)=true:=by simpa using h3
    clear h3;go_enter func120,ntmps120;go_wp2_with fail;refine wp_loop_rounds 4 ?_;rw [rounds_succ];go_wp2_with fail;rw [rounds_succ];go_wp2_with fail;rw [rounds_succ];go_wp2_with fail
    go_ret
    exact ⟨rfl,rfl⟩
  ·have e:uJ 0 y z=y:=by simp [uJ,h2]
   have q:(y !=0)=true:=(by simpa using h2)
   rw [e];clear e h2;go_enter func120,ntmps120;go_wp2_with fail;refine wp_loop_rounds 4 ?_;rw [rounds_succ];go_wp2_with fail;rw [rounds_succ];go_wp2_with fail
   go_ret
   exact ⟨rfl,rfl⟩
 ·have e:uJ x y z=x:=by simp [uJ,h1]
  have q:(x !=0)=true:=by simpa using h1
  rw [e];clear e h1;go_enter func120,ntmps120;go_wp2_with fail;refine wp_loop_rounds 4 ?_;rw [rounds_succ];go_wp2_with fail
  go_ret
  exact ⟨rfl,rfl⟩
theorem Zx (x y:Stp):uJ (iH x.1 y.1) (iH x.2.1 y.2.1) (iH x.2.2 y.2.2)=jY x y:=rfl
theorem aAA (x y:Stp) (w:World):Calls prog 64 #[jF x,jF y] w fun e w'=>e=.returned (.int .i64 (jY x y))∧w'=(((w.alloc (.cells #[.int .i64 x.1,.int .i64 x.2.1,.int .i64 x.2.2] 46)).alloc (.cells #[.int .i64 y.1,.int .i64 y.2.1,.int .i64 y.2.2] 46)).alloc (.cells #[.int .i64 (iH x.1 y.1),.int .i64 (iH x.2.1 y.2.1),.int .i64 (iH x.2.2 y.2.2)] 3)).drew:=by
 have mixed:prog.follows .mixedOrders=true:=by kernel_rfl
 have f1:Fr No (w.alloc (.cells #[.int .i64 x.1,.int .i64 x.2.1,.int .i64 x.2.2] 46)) ((w.alloc (.cells #[.int .i64 x.1,.int .i64 x.2.1,.int .i64 x.2.2] 46)).alloc (.cells #[.int .i64 y.1,.int .i64 y.2.1,.int .i64 y.2.2] 46)):=(Fr.refl _).alloc _;have k0:=f1.aC (aO w (.cells #[.int .i64 x.1,.int .i64 x.2.1,.int .i64 x.2.2] 46)) id;have k1:=aO (w.alloc (.cells #[.int .i64 x.1,.int .i64 x.2.1,.int .i64 x.2.2] 46)) (.cells #[.int .i64 y.1,.int .i64 y.2.1,.int .i64 y.2.2] 46);rw [show (w.alloc (.cells #[.int .i64 x.1,.int .i64 x.2.1,.int .i64 x.2.2] 46)).heap.size=w.heap.size+1 by simp] at k1;rw [← Zx];obtain ⟨xc,xl,xn⟩:=x;obtain ⟨yc,yl,yn⟩:=y;unfold jF;dsimp only at k0 k1 ⊢;clear f1;go_enter func64,ntmps64;go_wp2_with fail;generalize hwA:(w.alloc (.cells #[.int .i64 xc,.int .i64 xl,.int .i64 xn] 46)).alloc (.cells #[.int .i64 yc,.int .i64 yl,.int .i64 yn] 46)=wA at*;have HWA:=lH hwA;clear hwA;generalize w.heap.size=b0 at*;have a0:wA.cell? ⟨b0,0,none⟩=some (.int .i64 xc):=by rw [aA k0];rfl
 have a1:wA.cell? ⟨b0,1,none⟩=some (.int .i64 xl):=by rw [aA k0];rfl
 have a2:wA.cell? ⟨b0,2,none⟩=some (.int .i64 xn):=by rw [aA k0];rfl
 have b0':wA.cell? ⟨b0+1,0,none⟩=some (.int .i64 yc):=by rw [aA k1];rfl
 have b1:wA.cell? ⟨b0+1,1,none⟩=some (.int .i64 yl):=by rw [aA k1];rfl
 have b2:wA.cell? ⟨b0+1,2,none⟩=some (.int .i64 yn):=by rw [aA k1];rfl
 clear k0 k1;refine gK mixed (fun W=>W=wA.drew) [15,16,17] (by kernel_rfl) (by kernel_rfl) (by kernel_rfl) (by kernel_rfl) (fun _ _ d _ _ h=>by cases d<;>exact h) rfl ?_;repeat (first
  | refine fM (by rfl) ?_
  | (refine fO (v:= ?_) (by rfl) (by rfl) ?_ ?_
     rotate_left 1
     (intro W;go_simp;(try with_reducible rfl))
     simp only [Act.put,lsA,aB,lsS])
  | (refine uM (v:=.int .i64 (iH xc yc)) 121 #[.int .i64 xc,.int .i64 yc] (by rfl) (by kernel_rfl) (by rfl) ?_ (fun w' hS=>(Jc _ _ _).mono (fun e w'' h=>⟨h.1,h.2.trans hS⟩)) ?_
     focus (intro W;go_simp;done)
     simp only [Act.put,lsA,aB,lsS])
  | (refine uM (v:=.int .i64 (iH xl yl)) 121 #[.int .i64 xl,.int .i64 yl] (by rfl) (by kernel_rfl) (by rfl) ?_ (fun w' hS=>(Jc _ _ _).mono (fun e w'' h=>⟨h.1,h.2.trans hS⟩)) ?_
     focus (intro W;go_simp;done)
     simp only [Act.put,lsA,aB,lsS])
  | (refine uM (v:=.int .i64 (iH xn yn)) 121 #[.int .i64 xn,.int .i64 yn] (by rfl) (by kernel_rfl) (by rfl) ?_ (fun w' hS=>(Jc _ _ _).mono (fun e w'' h=>⟨h.1,h.2.trans hS⟩)) ?_
     focus (intro W;go_simp;done)
     simp only [Act.put,lsA,aB,lsS])
  | (refine dM (v:= ?_) (by rfl) (by kernel_rfl) (by rfl) ?_ ?_
     rotate_left 1
     (intro W hS;have hS':W=wA.drew:=hS;subst hS';go_simp;(try with_reducible rfl))
     simp only [Act.put,lsA,aB,lsS]))
 intro W hS;obtain rfl:W=wA.drew:=hS;simp only [List.reverse_cons,List.reverse_nil,List.nil_append,List.cons_append];go_wp2_with fail;have k5:=aO wA (.cells #[.int .i64 (iH xc yc),.int .i64 (iH xl yl),.int .i64 (iH xn yn)] 3);refine (aDB _ (iH xc yc) (iH xl yl) (iH xn yn) _ ((Fr.refl (S:=No) _).drew.cell_of (by rw [aA k5];rfl) id) ((Fr.refl (S:=No) _).drew.cell_of (by rw [aA k5];rfl) id) ((Fr.refl (S:=No) _).drew.cell_of (by rw [aA k5];rfl) id)).mono ?_;rintro e w2 ⟨rfl,hw⟩;subst hw;go_wp2_with fail
 go_ret
 exact ⟨rfl,by rw [HWA.o]⟩
def lS (U:Stp→Option Us) (x:Stp):List Value:= [.int .i64 x.1,.int .i64 x.2.1,.int .i64 x.2.2,.int .i64 ((U x).getD (0,0,0)).1,.int .i64 ((U x).getD (0,0,0)).2.1,.int .i64 ((U x).getD (0,0,0)).2.2]
theorem Zc (x y:Stp) (s1 l1 b1 s2 l2 b2:Int) (W:World):Calls prog 63 #[.agg #[.int .i64 x.1,.int .i64 x.2.1,.int .i64 x.2.2,.int .i64 s1,.int .i64 l1,.int .i64 b1],.agg #[.int .i64 y.1,.int .i64 y.2.1,.int .i64 y.2.2,.int .i64 s2,.int .i64 l2,.int .i64 b2]] W fun e w'=>e=.returned (.int .i64 (jY x y))∧∃q os',w'=Go.Sort.grow (W.drewN q) os':=by
 have HO:=fun W'=>aAA x y W';unfold jF at HO;go_enter func63,ntmps63;go_wp2_with (go_at_call 64;refine (HO _).mono ?_;rintro e w' ⟨rfl,hw⟩;subst hw)
 go_ret
 exact ⟨rfl,1,_,by
  simp only [Go.Sort.alloc_eq_grow,Go.Sort.grow_grow];rfl⟩
end Go.Proofs.YtlcojhddnpmgmaaGreat
namespace Go.Proofs.YtlcojhddnpmgmaaGreat
open Go.RowKit Go.Proofs.Tryz Go.Sort Go.Shelf
theorem aCD {α:Type} [Inhabited α] (c:α→List Value) (n:Nat) (hc:∀x,(c x).length=n) (hn:0<n) (ss:List α):flatK c n ss.toArray=(ss.flatMap c).toArray:=by
 have hlen:=lT hc ss;apply ext_get!
 ·rw [size_flatK];simp [hlen]
 ·intro t ht;rw [size_flatK] at ht;rw [get_flatK _ _ _ _ ht];have h1:t / n<ss.length:=by
   rw [List.size_toArray] at ht;exact (Nat.div_lt_iff_lt_mul hn).2 ht
  have h2:t % n<n:=Nat.mod_lt _ hn;have h3:ss[t / n]? =some ss[t / n]:=List.getElem?_eq_getElem h1;have h4:(c ss[t / n])[t % n]? =some ((c ss[t / n])[t % n]'(by rw [hc];exact h2)):=List.getElem?_eq_getElem _;have h5:=flat_get hc ss (t / n) _ h3 (t % n) _ h4;rw [show t / n*n+t % n=t by rw [Nat.mul_comm];exact Nat.div_add_mod t n] at h5;have e1:ss.toArray[t / n]! =ss[t / n]:=by simp [h1]
  rw [e1];rw [show ((ss.flatMap c).toArray)[t]! =((ss.flatMap c)[t]?).getD default by simp,h5];rw [Option.getD_some,List.getElem!_eq_getElem?_getD,h4];rfl
theorem aBG {α:Type} [Inhabited α] {c:α→List Value} {n:Nat} (hc:∀x,(c x).length=n) (hn:0<n) {t:TypeId} {w:World} {g:Nat} {ss:List α} {cur:Array Value} (hh:w.heap[g]? =some (.cells cur t (0,0))) (ht:cur.toList.take (ss.length*n)=ss.flatMap c):HoldsK c n w g 0 ss.toArray:=by
 intro j hj;rw [size_flatK] at hj;have hj':j<ss.length*n:=by simpa using hj
 refine ⟨?_,by simp [World.frozen?,hh]⟩;rw [aCD c n hc hn];have hlen:=lT hc ss;have h1:(cur.toList.take (ss.length*n))[j]? =(ss.flatMap c)[j]? :=by rw [ht]
 rw [List.getElem?_take_of_lt hj'] at h1;simp only [World.cell?,hh,Nat.zero_add];simp only [Option.isSome_none,Bool.false_eq_true,if_false];rw [← Array.getElem?_toList,h1];rw [List.getElem?_eq_getElem (by omega)];simp [hlen,hj']
def lK (x y:Stp):Bool:= !(ltOf jY y x)
theorem Kw (U:Stp→Option Us) (x:Stp):(lS U x).length=6:=rfl
theorem aC1 (U:Stp→Option Us) (x:Stp):∀v∈lS U x,v.oneCell'=true:=fun v hv=>by
 simp only [lS,List.mem_cons,List.not_mem_nil,or_false] at hv;rcases hv with rfl|rfl|rfl|rfl|rfl|rfl<;>rfl
theorem aCw (U:Stp→Option Us) (ss:List Stp) (base:Nat) (v:Value) (w:World) (h:w.ownsRow base 80 6 v ss.length (ss.flatMap (lS U))) (hs:ss.length<10000000):
  Calls prog 62 #[v,.func (.func 63) #[] #[]] w fun e w'=>e=.returned (.tuple #[])∧Fr (fun k=>base≤k) w w'∧iT (lS U) 6 80 w' base v (ss.mergeSort lK):=by
 rcases h.2 with ⟨rfl,h0⟩|⟨g,cap,cur,rfl,hb,hh,h1,h2,h3,h4⟩
 ·have hs0:=List.eq_nil_of_length_eq_zero h0;subst hs0;have hcon:=AnyF.slices_SortFunc_none (P:=prog) (ρ:=Tryz.Oi) {Tryz.Pi with} none 0 (.func (.func 63) #[] #[]) w;change Calls prog 62 _ _ _ at hcon;refine hcon.mono ?_;rintro e w' ⟨rfl,rfl⟩;exact ⟨rfl,Fr.refl _,.inl ⟨rfl,by simp⟩⟩
 ·have hH:=aBG (Kw U) (by omega) hh h4;have eg:∀args w,(callFunc 63 args).run prog w=.ok (.enter 63 args) w:=enters_of func63 (by kernel_rfl) rfl;have hcon:=AnyQ.slices_SortFunc_total Tryz.Pi 6 isAgg80 sizeOf80 (lS U) (Kw U) (fun x v hv=>aC1 U x v hv) jY V6 63 #[] g 0 cap ss.toArray w eg
   (fun m os dk _ x y=>Zc x y _ _ _ _ _ _ _) hH (lt_of_block hh) (by simp;omega) Vr
  change Calls prog 62 _ _ _ at hcon;rw [show ss.toArray.size=ss.length by simp,show ss.toArray.toList=ss by simp] at hcon;refine hcon.mono ?_;rintro e w' ⟨rfl,n,os,rfl⟩;have hl:(ss.mergeSort lK).length=ss.length:=List.length_mergeSort _;have hfin:HoldsK (lS U) 6 (sortWorldK (lS U) 6 w g 0 n (ss.mergeSort lK).toArray os) g 0 (ss.mergeSort lK).toArray:=by
   unfold sortWorldK;refine holdsK_grow _ _ _ _ _ _ _ ?_ (holdsK_putRowK _ _ _ _ _ _ _ (holdsK_ahead _ _ _ n _ _ _ hH) (by simp [hl]));unfold putRowK;simpa [Go.Sort.ahead] using lt_of_block hh
  refine ⟨rfl,(zZ _).mono (fun k _ e=>by rw [e];exact hb),.inr ⟨g,cap,by rw [hl],h2,hb,⟨⟨_,Ph _ hh,?_⟩,by rw [hl];exact h1,fun j x hj i u hu=> ?_⟩⟩⟩
  ·simp only [Go.Sort.putCells,Array.size_mapIdx];omega
  ·have hjl:j<(ss.mergeSort lK).length:=(List.getElem?_eq_some_iff.1 hj).1;have hi6:i<6:=(List.getElem?_eq_some_iff.1 hu).1;have hc:=(hfin.cell (i:=j) (c:=i) (by simpa using hjl) hi6).1;rw [Nat.zero_add] at hc;refine hc.trans ?_;have e1:(ss.mergeSort lK).toArray[j]! =x:=by
    rw [List.getElem?_eq_getElem hjl] at hj;cases hj;exact (getElem!_pos (ss.mergeSort lK).toArray j (by simpa using hjl)).trans rfl
   rw [e1,List.getElem!_eq_getElem?_getD,hu];rfl
def yY (w:World) (U:Stp→Option Us) (e:Ending) (w':World):Prop:=
 ∃v ss,e=.returned v∧iT (lS U) 6 80 w' w.heap.size v ss∧ss.Nodup∧(∀x,x∈ss↔(U x).isSome=true)∧ss.Pairwise (fun x y=>lK x y=true)∧Fr No w w'
theorem Be (x y:Stp):lK x y=true↔¬jY y x<0:=by
 show (!decide (jY y x<0))=true↔_;simp
theorem Xx (ss:List Stp):(ss.mergeSort lK).Pairwise (fun x y=>lK x y=true):=
 List.pairwise_mergeSort (fun x y z h1 h2=>by rw [Be,uB] at*;omega) (fun x y=>by
  rw [Bool.or_eq_true,Be,Be,uB,uB];omega) _
theorem Tryz.Wj:(prog.info? 80).map (fun i=>(i.zero,i.size,i.bytes))=some (some (.agg #[.int .i64 0,.int .i64 0,.int .i64 0,.int .i64 0,.int .i64 0,.int .i64 0]),6,48):=by kernel_rfl
theorem Ye (o:Nat→Nat) (K n:Nat) (L:aT) (S:St) (w:World) (h:aK w o K L S n) (hf:aP w o) (hn:n≤1000000):
  Calls prog 27 #[.pointer (some ⟨L.s,0,none⟩)] w (yY w S.U):=by
 have HMD:=lH (qY o K n L S w h);have c12:w.cell? ⟨L.s,12,none⟩=some (.map (some L.us)):=h.cell 12;obtain ⟨_,cu,hcu,hum⟩:=h.uses;obtain ⟨w2,hr,R2,f2,hs2⟩:=hum.range (t:=101) (e:=80) underlying101;have hult:L.us<w.heap.size:=hum.lt;have HUM:=lH hum;have HQ:Hid (∀v w' ss,iT (lS S.U) 6 80 w' w.heap.size v ss→ss.Nodup→(∀x,x∈ss↔(S.U x).isSome=true)→ss.Pairwise (fun x y=>lK x y=true)→Fr No w w'→yY w S.U (.returned v) w'):=lH (fun v w' ss h1 h2 h3 h4 f=>⟨v,ss,rfl,h1,h2,h3,h4,f⟩);generalize yY w S.U=Q at*;generalize S.U=U at*;have RR2:=lH R2;have F2:=lH f2;have hcu1:cu≤1000000:=Nat.le_trans hcu hn;obtain ⟨i0,hi,hz0,hz1,hz2⟩:=info_parts Tryz.Wj;have HI:=lH hi;have HZ0:=lH hz0;have HZ1:=lH hz1;have HZ2:=lH hz2;have HS2:=lH hs2;clear hi hz0 hz1 hz2 h hf hum R2 f2 hs2 hcu hn;go_enter func27,ntmps27;go_wp2_with fail;refine HMD.o.mono ?_;rintro e w1 ⟨rfl,hw⟩;subst hw;go_wp2_with fail;go_loopw [3] (fun v wr=>∃(ss:List Stp) (left:Stp→Bool) (cnt:Nat),Hid (fG nC wr L.us w1.heap.size cu (dV U) left cnt)∧Hid (∀s:Stp,iF s→(left s=true↔(U s).isSome=true∧s ∉ ss))∧Hid (wr.ownsRow (w1.heap.size+1) 80 6 v ss.length (ss.flatMap (lS U)))∧Hid ss.Nodup∧Hid (∀s∈ss,(U s).isSome=true)∧Hid (Fr No w1 wr)∧cnt+ss.length≤cu∧w1.heap.size+1≤wr.heap.size) (fun _ wr=>wr.rangeLeft L.us w1.heap.size)
 case atStart=>
  refine ⟨[],_,_,RR2,lH (fun s _=> ?_),lH ⟨rfl,.inl ⟨rfl,rfl⟩⟩,lH List.nodup_nil,lH (by simp),F2,by simp,by have:=HS2.o;omega⟩;unfold dV;cases U s<;>simp
 case round=>
  obtain ⟨ss,left,cnt,HRA,HLF,HOWN,HND,HIN,HFR,hcnt,hsz⟩:=hrel;obtain ⟨a,cc,rfl⟩:=HOWN.o.shape;rcases HRA.o.next 0 with ⟨_,hno,hnx⟩|⟨x,y,w4,cnt',hms,hls,hnx,hra',hlt',f4,hs4,hen⟩
  ·have hall:∀s,s∈ss↔(U s).isSome=true:=fun s=>⟨HIN.o s,fun h=>by
    obtain ⟨u0,hu0⟩:=Option.isSome_iff_exists.1 h;have hg:iF s:=(HUM.o.good (x:=s) (y:=(s,u0)) (by unfold dV;rw [hu0];rfl)).1;apply Classical.byContradiction;intro hn;have:=(HLF.o s hg).2 ⟨h,hn⟩;rw [hno s hg] at this;cases this⟩
   have HALL:=lH hall;clear hall hno;go_wp2_with fail;refine (aCw U ss (w1.heap.size+1) _ wr HOWN.o (by omega)).mono ?_;rintro e w6 ⟨rfl,f6,hes⟩;have hfin:Fr No w1 w6:=((HFR.o.bK (S:=fun k=>w1.heap.size+1≤k)).trans f6 (fun j _ h=>h)).no (fun j hj h=>by omega);have hrow:iT (lS U) 6 80 w6 w1.heap.size (.slice a ss.length cc) (ss.mergeSort lK):=by
    rcases hes with h|⟨b,c,e,h1,h2,h3⟩
    ·exact .inl h
    ·exact .inr ⟨b,c,e,h1,by omega,h3⟩
   have H1:=lH hfin;have H2:=lH hrow;clear f6 hes hfin hrow;go_wp2_with fail;exact HQ.o _ _ _ H2.o ((List.mergeSort_perm ss lK).nodup_iff.2 HND.o) (fun x=>(List.mergeSort_perm ss lK).mem_iff.trans (HALL.o x)) (Xx ss) H1.o
  ·obtain ⟨u,hu,rfl⟩:∃u,U x=some u∧y=(x,u):=by
    unfold dV at hms;cases h:U x with
    | none=>rw [h] at hms;cases hms
    | some u=>
     rw [h] at hms;cases hms;exact ⟨u,rfl,rfl⟩
   have hgx:iF x:=(HRA.o.map.good hms).1;obtain ⟨_,hnin⟩:=(HLF.o x hgx).1 hls;have F4:Hid (Fr No w1 w4):=lH (HFR.o.trans f4 (fun j hj e=>by omega));have O4:Hid (w4.ownsRow (w1.heap.size+1) 80 6 (.slice a ss.length cc) ss.length (ss.flatMap (lS U))):=lH (Bl HOWN.o f4 (fun j hj e=>by have:=qR HOWN.o j hj;omega));have R4:=lH hra';have hnx':(Instr.next (.pointer (some ⟨w1.heap.size,0,none⟩)) false 0).run prog wr=.ok (.tuple #[.bool true,.agg #[.int .i64 x.1,.int .i64 x.2.1,.int .i64 x.2.2],.agg #[.int .i64 x.1,.int .i64 x.2.1,.int .i64 x.2.2,.int .i64 u.1,.int .i64 u.2.1,.int .i64 u.2.2]]) w4:=hnx;have hen':(Instr.entry (.pointer (some ⟨w1.heap.size,0,none⟩))).run prog w4=.ok (.tuple #[.agg #[.int .i64 x.1,.int .i64 x.2.1,.int .i64 x.2.2],.agg #[.int .i64 x.1,.int .i64 x.2.1,.int .i64 x.2.2,.int .i64 u.1,.int .i64 u.2.1,.int .i64 u.2.2]]) w4:=hen;have HLE:Hid (wr.rangeLeft L.us w1.heap.size=cnt):=lH HRA.o.left_eq;have HLT:=lH hlt';have HN:Hid (∀s:Stp,iF s→((left s&&decide (s≠x))=true↔(U s).isSome=true∧s ∉ ss++ [x])):=lH (fun s hs=>by
    rw [Bool.and_eq_true,decide_eq_true_eq,HLF.o s hs,List.mem_append,List.mem_singleton];constructor
    ·rintro ⟨⟨h1,h2⟩,h3⟩;exact ⟨h1,fun h=>h.elim h2 h3⟩
    ·rintro ⟨h1,h2⟩;exact ⟨⟨h1,fun h=>h2 (.inl h)⟩,fun h=>h2 (.inr h)⟩)
   have HND2:Hid (ss++ [x]).Nodup:=lH (by
    rw [List.nodup_append];exact ⟨HND.o,by simp,fun a ha b hb e=>by
     rw [List.mem_singleton] at hb;subst hb;subst e;exact hnin ha⟩)
   have HIN2:Hid (∀s∈ss++ [x],(U s).isSome=true):=lH (fun s hs=>by
    rcases List.mem_append.1 hs with h|h
    ·exact HIN.o s h
    ·rw [List.mem_singleton] at h;rw [h,hu];rfl)
   have HUC:Hid (lS U x= [.int .i64 x.1,.int .i64 x.2.1,.int .i64 x.2.2,.int .i64 u.1,.int .i64 u.2.1,.int .i64 u.2.2]):=lH (by unfold lS;rw [hu];rfl);have hs4':w4.heap.size=wr.heap.size:=hs4;have RA:Hid (((w4.alloc (.cells #[.int .i64 x.1,.int .i64 x.2.1,.int .i64 x.2.2,.int .i64 u.1,.int .i64 u.2.1,.int .i64 u.2.2] 80)).rangeAt w4.heap.size 0 [.int .i64 x.1,.int .i64 x.2.1,.int .i64 x.2.2,.int .i64 u.1,.int .i64 u.2.1,.int .i64 u.2.2])):=lH (World.rangeAt_of_block (aO w4 _) 0 6);have SZ:=lH hs4';clear hnx hen hra' f4 hs4 hms hls hlt' hnin hu hs4';go_wp2_with (first|(refine wpList_load_mid (by rfl) 80 _ (by rfl) w4.heap.size 0 (by rfl) [.int .i64 x.1,.int .i64 x.2.1,.int .i64 x.2.2,.int .i64 u.1,.int .i64 u.2.1,.int .i64 u.2.2] _ RA.o underlying80 rfl Tryz.yJ ?_)|(at_builtin;(refine wpList_append_lies _ (by rfl) _ _ 65 (by rfl) (w1.heap.size+1) 80 i0 _ 6 48 underlying65 HI.o HZ0.o HZ1.o HZ2.o rfl (by decide) (.slice a ss.length cc) ss.length (ss.flatMap (lS U)) (by rfl) ((O4.o.alloc _).alloc _) ⟨w4.heap.size+1,0,none⟩ 1 1 [.int .i64 x.1,.int .i64 x.2.1,.int .i64 x.2.2,.int .i64 u.1,.int .i64 u.2.1,.int .i64 u.2.2] (by rfl) (by rfl) ?d1 (by simp [Value.oneCell']) (by decide) (by unfold maxLen;omega) (by omega) ?d5 (w4.heap.size+1+1) ?d6 ?_)))
   case d1=>
    have h5:=World.news_of_block (cs:= #[.int .i64 x.1,.int .i64 x.2.1,.int .i64 x.2.2,.int .i64 u.1,.int .i64 u.2.1,.int .i64 u.2.2]) (t:=80) (fr:=(0,0)) (heap_alloc_new (w4.alloc (.cells #[.int .i64 x.1,.int .i64 x.2.1,.int .i64 x.2.2,.int .i64 u.1,.int .i64 u.2.1,.int .i64 u.2.2] 80)) _);rw [jR] at h5;exact h5
   case d5=>rw [jR,jR];have:=SZ.o;omega
   case d6=>simp
   intro gg cap wD hownD hgrow hat hgl;have HNL:Hid (Fr No w1 wD):=lH (((F4.o.alloc _).alloc _).grown hgrow (fun j hj=> .inr (by have:=qR O4.o j hj;omega)));have HG4:Fr (fun k=>w1.heap.size+1≤k) w4 wD:=(((Fr.refl (S:=fun k=>w1.heap.size+1≤k) w4).alloc _).alloc _).grown hgrow (fun j hj=> .inl (qR O4.o j hj));have RD:=lH (R4.o.fr HG4 (by omega) (by omega));have HOD:=lH hownD;have hsD:w1.heap.size+1≤wD.heap.size:=Nat.le_trans (by have:=SZ.o;omega) HG4.size;clear hownD hgrow hat hgl HG4;go_wp2_with fail;go_roundw
   case rel=>
    refine ⟨ss++ [x],_,cnt',RD,HN,lH ?_,HND2,HIN2,HNL,by rw [List.length_append,List.length_singleton];have:=HLT.o;omega,hsD⟩;have h9:=HOD.o;rw [List.flatMap_append,List.length_append];simp only [List.flatMap_cons,List.flatMap_nil,List.append_nil,List.length_singleton];rw [HUC.o];exact h9
   case measure=>
    rw [RD.o.left_eq,HLE.o];exact HLT.o
end Go.Proofs.YtlcojhddnpmgmaaGreat
namespace Go.Proofs.YtlcojhddnpmgmaaGreat
open Go.RowKit Go.Proofs.Tryz
theorem Wi {x:aF×St} (h:x.1.ok):x.1.map.length≤1000000∧x.1.es.length≤4000:=by
 obtain ⟨f,_⟩:=h.raw;have:=f.map;exact ⟨by omega,h.2.1⟩
