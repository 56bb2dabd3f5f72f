/- Part of the proof; the last text says what is proved. -/
import Derived.Test.YtlcojhddnpmgmaaGreatN24
import Derived.Test.YtlcojhddnpmgmaaGreatP35
import Derived.ChangeArms
import Derived.Deep.Slices
import Derived.OpenShut
import Derived.ProofKit
set_option linter.unusedSimpArgs false
set_option linter.unusedVariables false
set_option maxRecDepth 100000
set_option maxHeartbeats 6400000
namespace Go.Proofs.YtlcojhddnpmgmaaGreat
open Go.RowKit
def ClonePost (w:World) (o:Nat→Nat) (K:Nat) (S:St) (n:Nat) (e:Ending) (w':World):Prop:=∃L o',e=.returned (.pointer (some ⟨L.s,0,none⟩))∧Step (fun _=>False) w o w' o'∧StateAt w' o' K L S n
theorem Tryz.size104:(Tryz.prog.info? 104).map (·.size)=some 13:=by kernel_rfl
theorem gclone_ (o:Nat→Nat) (K K' n q:Nat) (L:Plc) (S:St) (w:World) (h:StateAt w o K L S n) (inv:StInv S q) (iw:InvWin S) (hf:Fresh w o) (hn:n≤1000000) (hq:q≤1000000):Calls Tryz.prog 30 #[.pointer (some ⟨L.s,0,none⟩)] w (ClonePost w o K' S n):=by
 have mixed:Tryz.prog.follows .mixedOrders=true:=by kernel_rfl
 have hmm:= @run_makeMap Tryz.prog;have HMD:=lH (gmade_ o K n L S w h);have HQ:Hid (∀(L':Plc) w' o',Step (fun _=>False) w o w' o'→StateAt w' o' K' L' S n→ClonePost w o K' S n (.returned (.pointer (some ⟨L'.s,0,none⟩))) w'):=lH (fun L' w' o' s t=>⟨L',o',rfl,s,t⟩);generalize ClonePost w o K' S n=Q at*;have HS:=lH h;have INV:=lH inv;have IW:=lH iw;have HF:=lH hf;have KS:Hid (w.heap[L.s]? =some (.cells #[.int .i64 S.boots,.int .i64 S.swaps,.int .i64 S.clock,.int .i64 (S.next 0),.int .i64 (S.next 1),.int .i64 (S.next 2),.int .i64 (S.next 3),.int .i64 (S.next 4),.pointer (some ⟨L.win,0,none⟩),.pointer (some ⟨L.tr,0,none⟩),.pointer (some ⟨L.tk,0,none⟩),.map (some L.fl),.map (some L.us)] 104 (0,0))):=lH h.cs;have fA:Fr No w (w.alloc (.cells #[.int .i64 S.boots,.int .i64 S.swaps,.int .i64 S.clock,.int .i64 (S.next 0),.int .i64 (S.next 1),.int .i64 (S.next 2),.int .i64 (S.next 3),.int .i64 (S.next 4),.pointer (some ⟨L.win,0,none⟩),.pointer (some ⟨L.tr,0,none⟩),.pointer (some ⟨L.tk,0,none⟩),.map (some L.fl),.map (some L.us)] 104)):=(Fr.refl w).alloc _;have kA:=new_at w (.cells #[.int .i64 S.boots,.int .i64 S.swaps,.int .i64 S.clock,.int .i64 (S.next 0),.int .i64 (S.next 1),.int .i64 (S.next 2),.int .i64 (S.next 3),.int .i64 (S.next 4),.pointer (some ⟨L.win,0,none⟩),.pointer (some ⟨L.tr,0,none⟩),.pointer (some ⟨L.tk,0,none⟩),.map (some L.fl),.map (some L.us)] 104);have c8:∀x,(w.alloc x).cell? ⟨L.s,8,none⟩=some (.pointer (some ⟨L.win,0,none⟩)):=fun x=>((Fr.refl (S:=No) w).alloc x).cell_of (h.cell 8) id;have FA:=lH fA;have KA:=lH kA;have HWR:=lH (wrows_ o (K+1) L.win S.W _ (h.win.no hf fA) (Step.no (C:=fun _=>False) hf fA).fresh inv.winlen);unfold WRowsPost at HWR;clear h inv iw hf fA kA;go_enter Tryz.func30,Tryz.ntmps30;go_wp2_with fail;refine HMD.out.mono ?_;rintro e w1 ⟨rfl,hw⟩;have hw':=hw.symm;subst hw';go_wp2_with (refine wpList_load_row rfl 104 (.tmp 12) rfl L.s rfl 104 _ (0,0) _ KS.out Tryz.underlying104 rfl Tryz.size104 ?_);refine HWR.out.mono ?_;rintro e w2 ⟨v2,L2,rfl,hm2,hr2,hp2,f2⟩;have HLD:=lH (gload_ o (K'+1) _ S.W L2 v2 w2 hr2 hp2 hm2 (Step.no (C:=fun _=>False) HF.out (FA.out.trans f2 (fun _ _ e=>e))).fresh IW.out INV.out.winlen);unfold LoadPost at HLD;have F2:=lH (FA.out.trans f2 (fun _ _ e=>e));have K2:=lH (f2.block_of KA.out id)
 obtain ⟨a2,cp2,hv2⟩:=hr2.shape;subst hv2;clear hm2 hr2 hp2 f2 c8;go_wp2_with fail;refine HLD.out.mono ?_;rintro e w3 ⟨win,o3,rfl,s3,t3⟩;have S3':=lH s3;have S3:=lH ((Step.no (C:=fun _=>False) HF.out F2.out).trans s3 (fun _ e=>e));have T3:=lH t3;have k3:=s3.block K2.out id;have x8:w3.cell? ⟨w.heap.size,8,none⟩=some (.pointer (some ⟨L.win,0,none⟩)):=by rw [cell_at k3];rfl
 have xz:=fun j=>frozen_at k3 j;have K3:=lH (setCell_at k3 8 (.pointer (some ⟨win,0,none⟩)));clear s3 t3 k3;go_upto_region 5 with fail
 have f4:Fr (· =w.heap.size) w3 (w3.setCell ⟨w.heap.size,8,none⟩ (.pointer (some ⟨win,0,none⟩))):=fr_set w3 w.heap.size 8 _;change Hid ((w3.setCell ⟨w.heap.size,8,none⟩ (.pointer (some ⟨win,0,none⟩))).heap[w.heap.size]? =some (.cells #[.int .i64 S.boots,.int .i64 S.swaps,.int .i64 S.clock,.int .i64 (S.next 0),.int .i64 (S.next 1),.int .i64 (S.next 2),.int .i64 (S.next 3),.int .i64 (S.next 4),.pointer (some ⟨win,0,none⟩),.pointer (some ⟨L.tr,0,none⟩),.pointer (some ⟨L.tk,0,none⟩),.map (some L.fl),.map (some L.us)] 104 (0,0))) at K3;have hown:o3 w.heap.size=0:=by
  have hlt:=lt_of_block K2.out;rw [S3'.out.old _ hlt];exact HF.out _ (Nat.le_refl _)
 have S4:Hid (Step (fun _=>False) w o (w3.setCell ⟨w.heap.size,8,none⟩ (.pointer (some ⟨win,0,none⟩))) o3):=lH (S3.out.own_turn (Nat.le_refl _) f4);have T4:Hid (WinAt (w3.setCell ⟨w.heap.size,8,none⟩ (.pointer (some ⟨win,0,none⟩))) o3 (K'+1) win S.W):=lH (T3.out.step (C:=fun c=>c=0) ⟨f4.mono (fun j _ e=>by rw [e];exact hown),fun _ _=>rfl,S4.out.fresh⟩ (by omega) (by omega));have O4:=lH hown;have KE:=lH K3.out;generalize w3.setCell ⟨w.heap.size,8,none⟩ (.pointer (some ⟨win,0,none⟩))=w4 at*;clear f4 hown xz x8 T3 S3 S3' HLD;have H4:=lH (HS.out.step INV.out.ok S4.out (fun _ _ e=>e));have x9:w4.cell? ⟨L.s,9,none⟩=some (.pointer (some ⟨L.tr,0,none⟩)):=H4.out.cell 9;have x10:w4.cell? ⟨L.s,10,none⟩=some (.pointer (some ⟨L.tk,0,none⟩)):=H4.out.cell 10;have SD:Hid (Step (fun _=>False) w4 o3 w4.drew o3):=lH (Step.no S4.out.fresh (Fr.refl _).drew);have H66:Hid (∀W oW,Step (fun _=>False) w4 o3 W oW→Calls Tryz.prog 66 #[.pointer (some ⟨L.tr,0,none⟩)] W (TrClonePost W oW K' S.T)):=lH (fun W oW s=>gtclone_ oW K K' L.tr S.T W ((H4.out.step INV.out.ok s (fun _ _ e=>e)).tree) INV.out.ok.tree s.fresh);have H67:Hid (∀W oW,Step (fun _=>False) w4 o3 W oW→Calls Tryz.prog 67 #[.pointer (some ⟨L.tk,0,none⟩)] W (TkClonePost W oW K' S.K)):=lH (fun W oW s=>by
  obtain ⟨v,hk,hv⟩:=(H4.out.step INV.out.ok s (fun _ _ e=>e)).tok.tokV;exact tkclone_ oW K' L.tk S.K v W hk hv s.fresh (Nat.le_trans INV.out.few hq))
 unfold TrClonePost at H66;unfold TkClonePost at H67;have y9:w4.cell? ⟨w.heap.size,9,none⟩=some (.pointer (some ⟨L.tr,0,none⟩)):=by rw [cell_at K3.out];rfl
 have y10:w4.cell? ⟨w.heap.size,10,none⟩=some (.pointer (some ⟨L.tk,0,none⟩)):=by rw [cell_at K3.out];rfl
 go_cut [] (fun wx=>∃tr tk o5,Hid (Step (fun _=>False) w o wx o5)∧Hid (WinAt wx o5 (K'+1) win S.W)∧Hid (TreeAt wx o5 K' tr S.T)∧Hid (TokensAt wx o5 K' tk S.K)∧Hid (wx.heap[w.heap.size]? =some (.cells #[.int .i64 S.boots,.int .i64 S.swaps,.int .i64 S.clock,.int .i64 (S.next 0),.int .i64 (S.next 1),.int .i64 (S.next 2),.int .i64 (S.next 3),.int .i64 (S.next 4),.pointer (some ⟨win,0,none⟩),.pointer (some ⟨tr,0,none⟩),.pointer (some ⟨tk,0,none⟩),.map (some L.fl),.map (some L.us)] 104 (0,0)))∧Hid (o5 w.heap.size=0))
 case first=>
  go_region_with (first
   | (go_at_call 66;(first|refine (H66.out _ o7 (SD.out.trans s7 (fun _ e=>e))).mono ?_|refine (H66.out _ o3 SD.out).mono ?_);rintro e w6 ⟨tr,o6,rfl,s6,t6⟩;have y9:=s6.fr.cell_of y9 id;have y10:=s6.fr.cell_of y10 id;have x9:=s6.fr.cell_of x9 id;have x10:=s6.fr.cell_of x10 id;have K3:=lH (s6.block K3.out id);have yz:=fun j=>frozen_at K3.out j)
   | (go_at_call 67;(first|refine (H67.out _ o6 (SD.out.trans s6 (fun _ e=>e))).mono ?_|refine (H67.out _ o3 SD.out).mono ?_);rintro e w7 ⟨tk,o7,rfl,s7,t7⟩;have y9:=s7.fr.cell_of y9 id;have y10:=s7.fr.cell_of y10 id;have x9:=s7.fr.cell_of x9 id;have x10:=s7.fr.cell_of x10 id;have K3:=lH (s7.block K3.out id);have yz:=fun j=>frozen_at K3.out j))
  all_goals
   have S7:=S4.out.trans ((SD.out.trans s6 (fun _ e=>e)).trans s7 (fun _ e=>e)) (fun _ e=>e);have t6':=t6.step INV.out.ok.tree s7 (fun _ _ e=>e);have w7':=(T4.out.step (SD.out.trans s6 (fun _ e=>e)) id id).step s7 id id;have hs4:=S4.out.fr.size;have o7cb:o7 w.heap.size=0:=by
    have hlt4:=lt_of_block KE.out;have f6:=s6.fr.size;exact ((s7.old _ (Nat.lt_of_lt_of_le hlt4 f6)).trans (s6.old _ hlt4)).trans O4.out
   have fz:Fr (· =w.heap.size) w7 ((w7.setCell ⟨w.heap.size,9,none⟩ (.pointer (some ⟨tr,0,none⟩))).setCell ⟨w.heap.size,10,none⟩ (.pointer (some ⟨tk,0,none⟩))):=(fr_set w7 w.heap.size 9 _).trans (fr_set _ w.heap.size 10 _) (fun _ _ e=>e);have SZ:=S7.own_turn (Nat.le_refl _) fz;have sz:Step (fun c=>c=0) w7 o7 ((w7.setCell ⟨w.heap.size,9,none⟩ (.pointer (some ⟨tr,0,none⟩))).setCell ⟨w.heap.size,10,none⟩ (.pointer (some ⟨tk,0,none⟩))) o7:=⟨fz.mono (fun j _ e=>by rw [e];exact o7cb),fun _ _=>rfl,SZ.fresh⟩
   have r1:=lH (w7'.step sz (by omega) (by omega));have r2:=lH (t6'.step INV.out.ok.tree sz (fun c hc e=>by unfold treeC at hc;omega));have r3:=lH (t7.step sz (by omega) (by omega));have r4:=lH (setCell_at (setCell_at K3.out 9 (.pointer (some ⟨tr,0,none⟩))) 10 (.pointer (some ⟨tk,0,none⟩)));have SZ':=lH SZ;have OZ:=lH o7cb;clear SZ sz fz o7cb w7' t6' S7 t7 s7 t6 s6;go_wp2_with fail;go_meet;exact ⟨tr,tk,o7,SZ',r1,r2,r3,r4,OZ⟩
 case rest=>
  obtain ⟨tr,tk,oa,SA,WA,TRA,TKA,KA2,OA⟩:=hcut;obtain ⟨wa,rfl⟩:∃wa:World,wa=wc:=⟨_,rfl⟩
  have x11:wa.cell? ⟨w.heap.size,11,none⟩=some (.map (some L.fl)):=by rw [cell_at KA2.out];rfl
  have x12:wa.cell? ⟨w.heap.size,12,none⟩=some (.map (some L.us)):=by rw [cell_at KA2.out];rfl
  have xz:=fun j=>frozen_at KA2.out j;have hwa:=SA.out.fr.size;have hcb:=lt_of_block KA2.out;have fS:Fr (· =w.heap.size) wa ((wa.setCell ⟨w.heap.size,11,none⟩ (.map (some wa.heap.size))).setCell ⟨w.heap.size,12,none⟩ (.map (some (wa.heap.size+1)))):=(fr_set wa w.heap.size 11 _).trans (fr_set _ w.heap.size 12 _) (fun _ _ e=>e);have kS:(((wa.setCell ⟨w.heap.size,11,none⟩ (.map (some wa.heap.size))).setCell ⟨w.heap.size,12,none⟩ (.map (some (wa.heap.size+1))))).heap[w.heap.size]? =some (.cells #[.int .i64 S.boots,.int .i64 S.swaps,.int .i64 S.clock,.int .i64 (S.next 0),.int .i64 (S.next 1),.int .i64 (S.next 2),.int .i64 (S.next 3),.int .i64 (S.next 4),.pointer (some ⟨win,0,none⟩),.pointer (some ⟨tr,0,none⟩),.pointer (some ⟨tk,0,none⟩),.map (some wa.heap.size),.map (some (wa.heap.size+1))] 104 (0,0)):=setCell_at (setCell_at KA2.out 11 _) 12 _;have hzS:(((wa.setCell ⟨w.heap.size,11,none⟩ (.map (some wa.heap.size))).setCell ⟨w.heap.size,12,none⟩ (.map (some (wa.heap.size+1))))).heap.size=wa.heap.size:=by simp
  have fB:Fr No ((wa.setCell ⟨w.heap.size,11,none⟩ (.map (some wa.heap.size))).setCell ⟨w.heap.size,12,none⟩ (.map (some (wa.heap.size+1)))) ((((wa.setCell ⟨w.heap.size,11,none⟩ (.map (some wa.heap.size))).setCell ⟨w.heap.size,12,none⟩ (.map (some (wa.heap.size+1)))).alloc (.map #[] 0)).alloc (.map #[] 0)):=((Fr.refl _).alloc _).alloc _;have m1:MapAt encI ((((wa.setCell ⟨w.heap.size,11,none⟩ (.map (some wa.heap.size))).setCell ⟨w.heap.size,12,none⟩ (.map (some (wa.heap.size+1)))).alloc (.map #[] 0)).alloc (.map #[] 0)) wa.heap.size 0 (fun _=>none):=by
   have:=(MapAt.made encI ((wa.setCell ⟨w.heap.size,11,none⟩ (.map (some wa.heap.size))).setCell ⟨w.heap.size,12,none⟩ (.map (some (wa.heap.size+1))))).fr ((Fr.refl (S:=No) _).alloc (.map #[] 0)) id;rwa [hzS] at this
  have m2:MapAt encU ((((wa.setCell ⟨w.heap.size,11,none⟩ (.map (some wa.heap.size))).setCell ⟨w.heap.size,12,none⟩ (.map (some (wa.heap.size+1)))).alloc (.map #[] 0)).alloc (.map #[] 0)) (wa.heap.size+1) 0 (fun _=>none):=by
   have:=MapAt.made encU (((wa.setCell ⟨w.heap.size,11,none⟩ (.map (some wa.heap.size))).setCell ⟨w.heap.size,12,none⟩ (.map (some (wa.heap.size+1)))).alloc (.map #[] 0));rwa [heap_size_alloc,hzS] at this
  have hzB:(((((wa.setCell ⟨w.heap.size,11,none⟩ (.map (some wa.heap.size))).setCell ⟨w.heap.size,12,none⟩ (.map (some (wa.heap.size+1)))).alloc (.map #[] 0)).alloc (.map #[] 0))).heap.size=wa.heap.size+2:=by simp
  have SS:=SA.out.own_turn (Nat.le_refl _) fS;have sS:Step (fun c=>c=0) wa oa ((wa.setCell ⟨w.heap.size,11,none⟩ (.map (some wa.heap.size))).setCell ⟨w.heap.size,12,none⟩ (.map (some (wa.heap.size+1)))) oa:=⟨fS.mono (fun j _ e=>by rw [e];exact OA.out),fun _ _=>rfl,SS.fresh⟩
  have sB:Step (fun _=>False) ((wa.setCell ⟨w.heap.size,11,none⟩ (.map (some wa.heap.size))).setCell ⟨w.heap.size,12,none⟩ (.map (some (wa.heap.size+1)))) oa ((((wa.setCell ⟨w.heap.size,11,none⟩ (.map (some wa.heap.size))).setCell ⟨w.heap.size,12,none⟩ (.map (some (wa.heap.size+1)))).alloc (.map #[] 0)).alloc (.map #[] 0)) oa:=Step.no SS.fresh fB;have TWB:=(WA.out.step sS (by omega) (by omega)).step sB id id;have TTB:=(TRA.out.step INV.out.ok.tree sS (fun c hc e=>by unfold treeC at hc;omega)).step INV.out.ok.tree sB (fun _ _ e=>e);have TKB:=(TKA.out.step sS (by omega) (by omega)).step sB id id;have kB:=fB.block_of kS id;have SB:=SS.frNo fB;have HB0:=HS.out.step INV.out.ok SB (fun _ _ e=>e);obtain ⟨_,fp0,c0,hc0,hum0,hfl⟩:=HS.out.files;have hum:=hum0.fr SB.fr (fun e=>e);clear hum0;have hflt:=hum.lt;have cB11:((((wa.setCell ⟨w.heap.size,11,none⟩ (.map (some wa.heap.size))).setCell ⟨w.heap.size,12,none⟩ (.map (some (wa.heap.size+1)))).alloc (.map #[] 0)).alloc (.map #[] 0)).cell? ⟨L.s,11,none⟩=some (.map (some L.fl)):=HB0.cell 11;obtain ⟨w9,hr,R9,f9,hs9⟩:=hum.range (t:=100) (e:=63) Tryz.underlying100;rw [hzB] at hr R9 hs9;have S9:=SB.frNo f9;have s9:Step (fun _=>False) ((((wa.setCell ⟨w.heap.size,11,none⟩ (.map (some wa.heap.size))).setCell ⟨w.heap.size,12,none⟩ (.map (some (wa.heap.size+1)))).alloc (.map #[] 0)).alloc (.map #[] 0)) oa w9 oa:=Step.no SB.fresh f9;have hoa:∀j,wa.heap.size≤j→oa j=0:=fun j hj=>SA.out.fresh j hj;have hfl2:L.fl<w.heap.size:=by
   obtain ⟨_,_,_,_,hm,_⟩:=HS.out.files;exact hm.lt
  have LI:Hid (ClMid w o S K' ⟨w.heap.size,win,tr,tk,wa.heap.size,wa.heap.size+1⟩ (wa.heap.size+2) w9 (fun x=>(filem S.F fp0 x).isSome) (paint (paint (paint oa (wa.heap.size+1) (K'+7)) wa.heap.size (K'+6)) w.heap.size (K'+8)) (fun _=>0)):=lH (by
   have sP:Step (fun _=>False) w o w9 (paint (paint (paint oa (wa.heap.size+1) (K'+7)) wa.heap.size (K'+6)) w.heap.size (K'+8)):=
    ((S9.painted (b:=wa.heap.size+1) (c:=K'+7) (by omega) (by omega)).painted (b:=wa.heap.size) (c:=K'+6) (by omega) (by omega)).painted (b:=w.heap.size) (c:=K'+8) (Nat.le_refl _) (by omega)
   have hP:∀j,j≠w.heap.size→j<wa.heap.size→paint (paint (paint oa (wa.heap.size+1) (K'+7)) wa.heap.size (K'+6)) w.heap.size (K'+8) j=oa j:=fun j h1 h2=>by
    rw [paint_other _ _ h1,paint_other _ _ (by omega),paint_other _ _ (by omega)]
   have cP:∀ {c:Nat} {b:Nat},oa b=c→c≠0→paint (paint (paint oa (wa.heap.size+1) (K'+7)) wa.heap.size (K'+6)) w.heap.size (K'+8) b=c:=fun {c b} e hc=>by
    rw [hP b (fun e'=>by rw [e',OA.out] at e;exact hc e.symm) (by
     rcases Nat.lt_or_ge b wa.heap.size with h|h
     ·exact h
     ·rw [hoa b h] at e;exact absurd e.symm hc),e]
   have W9:=TWB.step s9 id id;have T9:=TTB.step INV.out.ok.tree s9 (fun _ _ e=>e);have K9:=TKB.step s9 id id;refine ⟨sP,?_,?_,?_,f9.block_of kB id,paint_same _ _ _,?_,?_,?_,hwa,by dsimp only;omega,by omega,⟨0,?_⟩,m2.fr f9 id,fun i m hi hl=> ?_⟩
   ·obtain ⟨h1,p,h2,h3⟩:=W9;refine ⟨cP h1 (by omega),p,h2,fun i hi=> ?_⟩;have h4:=h3 i hi;cases hw:S.W i with
    | none=>rw [hw] at h4;exact h4
    | some y=>
     rw [hw] at h4;obtain ⟨life,seq,bs⟩:=y;obtain ⟨r,v,b,cc,e,h5,h6,h7,h8⟩:=h4;exact ⟨r,v,b,cc,e,cP h5 (by omega),h6,h7,cP h8 (by omega)⟩
   ·obtain ⟨mb,tp,h1,h2,h3,h4,h5⟩:=T9;refine ⟨mb,tp,cP h1 (by omega),h2,cP h3 (by omega),h4,fun k x hk=> ?_⟩;obtain ⟨g1,g2⟩:=h5 k x hk;refine ⟨cP g1 (by omega),?_⟩;cases hd:x.dir with
    | true=>
     rw [hd] at g2;obtain ⟨ib,g3,g4⟩:=g2;exact ⟨ib,cP g3 (by omega),g4⟩
    | false=>rw [hd] at g2;exact g2
   ·obtain ⟨h1,v,h2,h3⟩:=K9;refine ⟨cP h1 (by omega),v,h2,?_⟩;rcases h3 with h3|⟨b,cap,e,hm,hb,hr⟩
    ·exact .inl h3
    ·exact .inr ⟨b,cap,e,hm,cP hb (by omega),hr⟩
   ·dsimp only;rw [paint_other _ _ (by omega),paint_same]
   ·dsimp only;rw [paint_other _ _ (by omega),paint_other _ _ (by omega),paint_same]
   ·rw [paint_other _ _ (by omega),paint_other _ _ (by omega),paint_other _ _ (by omega)];exact hoa _ (by omega)
   ·rw [gone_filem];exact m1.fr f9 id
   ·have:(filem S.F fp0 (i:Int)).isSome=true:=by simp [filem,hi]
    rw [this] at hl;cases hl)
  have RR:=lH R9;have HUM:=lH hum;have HFL:=lH hfl;have SBH:=lH SB;have FB9:=lH f9;clear SB f9 hfl hum R9 S9 s9 hoa HB0 kB TKB TTB TWB sB sS SS m2 m1 fB kS fS;have hcc:c0≤1000000:=Nat.le_trans hc0 hn;go_wp2_with fail;go_loopw [] (fun wr=>∃(left:Int→Bool) (cnt:Nat) (oj fp':Nat→Nat),Hid (RangeAt encI wr L.fl (wa.heap.size+2) c0 (filem S.F fp0) left cnt)∧Hid (ClMid w o S K' ⟨w.heap.size,win,tr,tk,wa.heap.size,wa.heap.size+1⟩ (wa.heap.size+2) wr left oj fp')∧Hid (∃c,c+cnt≤c0∧MapAt encI wr wa.heap.size c (gone left (filem S.F fp')))∧wa.heap.size+3≤wr.heap.size) (fun wr=>wr.rangeLeft L.fl (wa.heap.size+2))
  case atStart=>
   refine ⟨_,_,_,_,RR,LI,lH ?_,by omega⟩;obtain ⟨c,hm⟩:=LI.out.map;have e:=gone_filem S.F fp0 (fun _=>0);dsimp only at hm;rw [e] at hm;rcases hm.has_one (t:=100) (e:=63) Tryz.underlying100 with ⟨h0,_⟩|⟨_,x,y,h0⟩
   ·exact ⟨c,by omega,by rw [e];exact hm⟩
   ·cases h0
  case round=>
   obtain ⟨left,cnt,oj,fp',HRA,HMI,HCN,hsz⟩:=hrel;have c11:wr.cell? ⟨w.heap.size,11,none⟩=some (.map (some wa.heap.size)):=(by rw [cell_at HMI.out.cs];rfl)
   rcases HRA.out.next 0 with ⟨_,hno,hnx⟩|⟨x,y,w4,cnt',hms,hls,hnx,hra',hlt',f4,hs4,hen⟩
   ·have hfin:FilesAt wr oj K' wa.heap.size n S.F:=by
     obtain ⟨c,hm⟩:=HMI.out.map;dsimp only at hm;have hend:gone left (filem S.F fp')=filem S.F fp':=gone_end (E:=encI) (fun z u hz=>by
      unfold filem at hz;split at hz
      ·rename_i h0
       cases hT:S.F z.toNat with
       | none=>rw [hT] at hz;cases hz
       | some nd=>
        have:=INV.out.ok.file _ _ hT;show I64 z;unfold I64;omega
      ·cases hz) hno
     rw [hend] at hm;have hcc2:=MapAt.count_eq (t:=100) (e:=63) Tryz.underlying100 _ _ HUM.out hm (fun z=>by
      unfold filem;split
      ·cases S.F z.toNat<;>rfl
      ·rfl)
     rw [← hcc2] at hm;exact ⟨HMI.out.ofl,fp',c0,hc0,hm,fun i m hi=>HMI.out.done i m hi (hno i (by
      have:=INV.out.ok.file _ _ hi;show I64 (i:Int);unfold I64;omega))⟩
    have HFIN:=lH hfin;obtain ⟨wb,rfl⟩:∃wb:World,wb=wr:=⟨_,rfl⟩
    have hwb:=HMI.out.step.fr.size;obtain ⟨_,cu,hcu,humU⟩:=HS.out.uses;have hult:=humU.lt;have humb:=humU.fr HMI.out.step.fr (fun e=>e);obtain ⟨w10,hr10,R10,f10,hs10⟩:=humb.range (t:=101) (e:=80) Tryz.underlying101;have b12:wb.cell? ⟨L.s,12,none⟩=some (.map (some L.us)):=(HS.out.step INV.out.ok HMI.out.step (fun _ _ e=>e)).cell 12;have HUU:=lH humU;have RU:=lH R10;have F10:Hid (Fr (· =wa.heap.size+1) wb w10):=lH f10.of_no;have M10:Hid (MapAt encU w10 (wa.heap.size+1) 0 (gone (fun x=>(usem S.U x).isSome) (usem S.U))):=lH (by rw [gone_start];exact HMI.out.mu.fr f10 id);clear hno hfin humb humU R10 f10;go_wp2_with fail;go_loopw [] (fun wr=>∃(left2:Stp→Bool) (cnt2:Nat),Hid (RangeAt encU wr L.us wb.heap.size cu (usem S.U) left2 cnt2)∧Hid (∃c2,c2+cnt2≤cu∧MapAt encU wr (wa.heap.size+1) c2 (gone left2 (usem S.U)))∧Hid (Fr (· =wa.heap.size+1) wb wr)∧wb.heap.size+1≤wr.heap.size) (fun wr=>wr.rangeLeft L.us wb.heap.size)
    case atStart=>exact ⟨_,_,RU,lH ⟨0,by omega,M10.out⟩,F10,by omega⟩
    case round=>
     obtain ⟨left2,cnt2,HRB,HCB,HFB,hszb⟩:=hrel;rcases HRB.out.next 0 with ⟨_,hno2,hnx2⟩|⟨s,u,w6,cnt3,hms2,hls2,hnx2,hra2,hlt2,f6,hs6,hen2⟩
     ·have hu:UsesAt wr oj K' (wa.heap.size+1) n S.U:=by
       obtain ⟨c2,_,hm2⟩:=HCB.out;rw [gone_end (E:=encU) (fun z v hz=>(HUU.out.good hz).1) hno2] at hm2;rw [← MapAt.count_eq (t:=101) (e:=80) Tryz.underlying101 _ _ HUU.out hm2 (fun _=>rfl)] at hm2;exact ⟨HMI.out.ous,cu,hcu,hm2⟩
      have sF:Step (fun c=>c=K'+7) wb oj wr oj:=⟨HFB.out.mono (fun j _ e=>by rw [e];exact HMI.out.ous),fun _ _=>rfl,fun j hj=>HMI.out.step.fresh j (Nat.le_trans HFB.out.size hj)⟩
      have S1:=lH (HMI.out.step.own_turn (b:=wa.heap.size+1) (by omega) HFB.out);have ST:Hid (StateAt wr oj K' ⟨w.heap.size,win,tr,tk,wa.heap.size,wa.heap.size+1⟩ S n):=lH
       ⟨HMI.out.os,sF.block HMI.out.cs (by rw [HMI.out.os];omega),HMI.out.win.step sF (by omega) (by omega),HMI.out.tree.step INV.out.ok.tree sF (fun c hc e=>by unfold treeC at hc;omega),HMI.out.tok.step sF (by omega) (by omega),HFIN.out.step INV.out.ok.file sF (by omega) (fun i hi c hc e=>by unfold fileC at hc;omega),hu⟩
      clear hno2 hu sF;go_wp2_with fail;exact HQ.out ⟨w.heap.size,win,tr,tk,wa.heap.size,wa.heap.size+1⟩ _ _ S1.out ST.out
     ·obtain ⟨c2,hc2,hm2⟩:=HCB.out;obtain ⟨v,hv,rfl⟩:∃v,S.U s=some v∧u=(s,v):=by
       unfold usem at hms2;cases h:S.U s with
       | none=>rw [h] at hms2;cases hms2
       | some v=>
        rw [h] at hms2;cases hms2;exact ⟨v,rfl,rfl⟩
      have hgs:=(HUU.out.good hms2).1;have fW:Fr No w6 ((w6.alloc (.cells #[.int .i64 s.1,.int .i64 s.2.1,.int .i64 s.2.2] 46)).alloc (.cells #[.int .i64 s.1,.int .i64 s.2.1,.int .i64 s.2.2,.int .i64 v.1,.int .i64 v.2.1,.int .i64 v.2.2] 80)):=((Fr.refl w6).alloc _).alloc _;have hs6':w6.heap.size=wr.heap.size:=hs6;obtain ⟨w8,hu8,m8,f8⟩:=((hm2.fr f6 (by omega)).fr fW id).put s (s,v) hgs trivial (by omega) (t:=101) (e:=80) Tryz.underlying101;have e8:gone left2 (usem S.U) s=none:=if_pos hls2;rw [e8,gone_next hms2 (usem S.U) hms2 (fun _ _=>rfl)] at m8;have FW8:Hid (Fr (· =wa.heap.size+1) wb w8):=lH (((HFB.out.trans f6 (fun j hj e=>by omega)).trans fW.of_no (fun _ _ e=>e)).trans f8 (fun _ _ e=>e));have R8:=lH ((hra2.fr fW id id).fr f8 (by omega) (by omega));have M8:=lH m8;simp only [Option.isSome_none,Bool.false_eq_true,if_false] at M8;have k1:Hid (World.rangeAt ((w6.alloc (.cells #[.int .i64 s.1,.int .i64 s.2.1,.int .i64 s.2.2] 46)).alloc (.cells #[.int .i64 s.1,.int .i64 s.2.1,.int .i64 s.2.2,.int .i64 v.1,.int .i64 v.2.1,.int .i64 v.2.2] 80)) w6.heap.size 0 [.int .i64 s.1,.int .i64 s.2.1,.int .i64 s.2.2]):=lH (World.rangeAt_of_block (((Fr.refl (S:=No) _).alloc _).block_of (new_at w6 _) id) 0 3);have k2:Hid (World.rangeAt ((w6.alloc (.cells #[.int .i64 s.1,.int .i64 s.2.1,.int .i64 s.2.2] 46)).alloc (.cells #[.int .i64 s.1,.int .i64 s.2.1,.int .i64 s.2.2,.int .i64 v.1,.int .i64 v.2.1,.int .i64 v.2.2] 80)) (w6.heap.size+1) 0 [.int .i64 s.1,.int .i64 s.2.1,.int .i64 s.2.2,.int .i64 v.1,.int .i64 v.2.1,.int .i64 v.2.2]):=lH (by
       have h5:=World.rangeAt_of_block (new_at (w6.alloc (.cells #[.int .i64 s.1,.int .i64 s.2.1,.int .i64 s.2.2] 46)) (.cells #[.int .i64 s.1,.int .i64 s.2.1,.int .i64 s.2.2,.int .i64 v.1,.int .i64 v.2.1,.int .i64 v.2.2] 80)) 0 6;rw [heap_size_alloc] at h5;exact h5)
      have kcs:=(HFB.out.trans f6 (fun j hj e=>by omega):Fr (· =wa.heap.size+1) wb w6).block_of HMI.out.cs (by dsimp only;omega);have c12:((w6.alloc (.cells #[.int .i64 s.1,.int .i64 s.2.1,.int .i64 s.2.2] 46)).alloc (.cells #[.int .i64 s.1,.int .i64 s.2.1,.int .i64 s.2.2,.int .i64 v.1,.int .i64 v.2.1,.int .i64 v.2.2] 80)).cell? ⟨w.heap.size,12,none⟩=some (.map (some (wa.heap.size+1))):=(by rw [cell_at (fW.block_of kcs id)];rfl)
      have hnx2':(Instr.next (.pointer (some ⟨wb.heap.size,0,none⟩)) false 0).run Tryz.prog wr=.ok (.tuple #[.bool true,.agg #[.int .i64 s.1,.int .i64 s.2.1,.int .i64 s.2.2],.agg #[.int .i64 s.1,.int .i64 s.2.1,.int .i64 s.2.2,.int .i64 v.1,.int .i64 v.2.1,.int .i64 v.2.2]]) w6:=hnx2;have hen2':(Instr.entry (.pointer (some ⟨wb.heap.size,0,none⟩))).run Tryz.prog w6=.ok (.tuple #[.agg #[.int .i64 s.1,.int .i64 s.2.1,.int .i64 s.2.2],.agg #[.int .i64 s.1,.int .i64 s.2.1,.int .i64 s.2.2,.int .i64 v.1,.int .i64 v.2.1,.int .i64 v.2.2]]) w6:=hen2;have hu8':(Instr.mapUpdate 101 (.map (some (wa.heap.size+1))) (.agg #[.int .i64 s.1,.int .i64 s.2.1,.int .i64 s.2.2]) (.agg #[.int .i64 s.1,.int .i64 s.2.1,.int .i64 s.2.2,.int .i64 v.1,.int .i64 v.2.1,.int .i64 v.2.2])).run Tryz.prog ((w6.alloc (.cells #[.int .i64 s.1,.int .i64 s.2.1,.int .i64 s.2.2] 46)).alloc (.cells #[.int .i64 s.1,.int .i64 s.2.1,.int .i64 s.2.2,.int .i64 v.1,.int .i64 v.2.1,.int .i64 v.2.2] 80))=.ok () w8:=hu8;have HLE2:Hid (wr.rangeLeft L.us wb.heap.size=cnt2):=lH HRB.out.left_eq;have HLT2:=lH hlt2;have hs8:wb.heap.size+1≤w8.heap.size:=Nat.le_trans hszb (Nat.le_trans f6.size (Nat.le_trans fW.size f8.size));clear hnx2 hen2 hu8 hra2 hlt2 f6 f8 hm2 m8 hs6 hs6' hms2 hls2 kcs fW hv e8;go_wp2_with (first|(refine wpList_load_mid (by rfl) 46 _ (by rfl) w6.heap.size 0 (by rfl) [.int .i64 s.1,.int .i64 s.2.1,.int .i64 s.2.2] _ k1.out Tryz.underlying46 rfl Tryz.size46 ?_)|(refine wpList_load_mid (by rfl) 80 _ (by rfl) (w6.heap.size+1) 0 (by rfl) [.int .i64 s.1,.int .i64 s.2.1,.int .i64 s.2.2,.int .i64 v.1,.int .i64 v.2.1,.int .i64 v.2.2] _ k2.out Tryz.underlying80 rfl Tryz.size80 ?_));go_roundw
      case rel=>exact ⟨_,cnt3,R8,lH ⟨c2+1,by have:=HLT2.out;omega,M8.out⟩,FW8,hs8⟩
      case measure=>
       rw [R8.out.left_eq,HLE2.out];exact HLT2.out
   ·obtain ⟨i,m,hi,rfl,rfl⟩:∃(i:Nat) (m:FMap),S.F i=some m∧x=i∧y=fp0 i:=by
     unfold filem at hms;split at hms
     ·rename_i h0
      cases hT:S.F x.toNat with
      | none=>rw [hT] at hms;cases hms
      | some m=>
       rw [hT] at hms;exact ⟨x.toNat,m,hT,by omega,by cases hms;rfl⟩
     ·cases hms
    have hi8:=INV.out.ok.file i m hi;have hrlt:=HRA.out.lt;have s4:Step (fun c=>c=0) wr oj w4 oj:=⟨f4.mono (fun j _ e=>by rw [e];exact HMI.out.orr),fun _ _=>rfl,fun j hj=>HMI.out.step.fresh j (Nat.le_trans f4.size hj)⟩
    have M4:=HMI.out.steps INV.out.ok.tree s4 (HMI.out.step.own_turn HMI.out.br f4) (fun c e=>e) hrlt;have SDR:Step (fun _=>False) w4 oj w4.drew oj:=Step.no M4.step.fresh (Fr.refl _).drew;have M4d:=lH (M4.steps INV.out.ok.tree SDR (M4.step.trans SDR (fun _ e=>e)) (fun c e=>e.elim) (Nat.lt_of_lt_of_le hrlt f4.size));have HFC:=lH (fclone2_ (fp0 i) m w4.drew (((HFL.out i m hi).step M4d.out.step id id).reads) (Nat.le_trans hi8.2.2.few (by omega)));unfold FileNewPost at HFC;have hsz4:wa.heap.size+3≤w4.heap.size:=Nat.le_trans hsz f4.size;have C4:Hid (∃c,c+cnt≤c0∧MapAt encI w4 wa.heap.size c (gone left (filem S.F fp'))):=lH (by
     obtain ⟨c,h1,h2⟩:=HCN.out;exact ⟨c,h1,h2.fr f4 (by omega)⟩)
    have R4:=lH hra';have HLE:Hid (wr.rangeLeft L.fl (wa.heap.size+2)=cnt):=lH HRA.out.left_eq;have hnx':(Instr.next (.pointer (some ⟨wa.heap.size+2,0,none⟩)) false 0).run Tryz.prog wr=.ok (.tuple #[.bool true,.int .i64 i,.pointer (some ⟨fp0 i,0,none⟩)]) w4:=hnx;have hen':(Instr.entry (.pointer (some ⟨wa.heap.size+2,0,none⟩))).run Tryz.prog w4=.ok (.tuple #[.int .i64 i,.pointer (some ⟨fp0 i,0,none⟩)]) w4:=hen;have d11:w4.cell? ⟨w.heap.size,11,none⟩=some (.map (some wa.heap.size)):=(by rw [cell_at M4.cs];rfl)
    have HI:=lH hi;have HI8:=lH hi8;have HLS:=lH hls;have HLT:=lH hlt';have HEND:Hid (∀(p:Nat) (W:World),FileNew W w4.drew.heap.size p m→Fr No w4.drew W→∃w6,(Instr.mapUpdate 100 (.map (some wa.heap.size)) (.int .i64 i) (.pointer (some ⟨p,0,none⟩))).run Tryz.prog W=.ok () w6∧Hid (∃(left:Int→Bool) (cnt:Nat) (oj fp':Nat→Nat),Hid (RangeAt encI w6 L.fl (wa.heap.size+2) c0 (filem S.F fp0) left cnt)∧Hid (ClMid w o S K' ⟨w.heap.size,win,tr,tk,wa.heap.size,wa.heap.size+1⟩ (wa.heap.size+2) w6 left oj fp')∧Hid (∃c,c+cnt≤c0∧MapAt encI w6 wa.heap.size c (gone left (filem S.F fp')))∧wa.heap.size+3≤w6.heap.size)∧Hid (w6.rangeLeft L.fl (wa.heap.size+2)<wr.rangeLeft L.fl (wa.heap.size+2))):=lH (by
     intro p W hnew fW;have sW:Step (fun _=>False) w4.drew oj W oj:=Step.no M4d.out.step.fresh fW;obtain ⟨oE,sE,fa⟩:=hnew.at (K:=K') (i:=i) sW;have ME:=M4d.out.steps INV.out.ok.tree sE (M4d.out.step.trans sE (fun _ e=>e)) (fun c e=>e.elim) (by show wa.heap.size+2<w4.heap.size;omega);obtain ⟨c,hc,hmE⟩:∃c,c+cnt≤c0∧MapAt encI W wa.heap.size c (gone left (filem S.F fp')):=by
      obtain ⟨c,h1,h2⟩:=C4.out;exact ⟨c,h1,(h2.fr ((Fr.refl (S:=No) w4).drew) id).fr fW id⟩
     obtain ⟨w6,hu,M6,f6,hm6⟩:=ME.put INV.out.ok.tree HI.out HI8.out.2.1 HLS.out fa hmE (by omega);have RE:=((R4.out.fr ((Fr.refl (S:=No) w4).drew) id id).fr fW id id).fr f6 (by dsimp only;omega) (by dsimp only;omega);have hz:w4.heap.size≤W.heap.size:=fW.size;have hz6:=f6.size;have hlt:=HLT.out;exact ⟨w6,hu,lH ⟨_,cnt',oE,_,lH RE,lH M6,lH ⟨c+1,by omega,hm6⟩,by omega⟩,lH (by rw [RE.left_eq,HLE.out];exact hlt)⟩)
    clear hnx hen hra' f4 hms hls s4 HMI HCN HRA hs4 hlt' M4 SDR c11 hi hi8;go_wp2_with fail
    go_region_with (go_at_call 61;refine HFC.out.mono ?_;rintro e w5 ⟨p,rfl,hnew,f5⟩;obtain ⟨w6,hu6,HREL,HME⟩:=HEND.out p w5 hnew f5;have d11:=f5.cell_of d11 id)
    all_goals
     go_wp2_with fail;go_roundw
     case rel=>exact HREL.out
     case measure=>exact HME.out
theorem penThing_go {T:Tree} (ok:TreeOk T) {k:Nat} (hk:k≤128) {a:List UInt8} (h:a.length+19≤65536):∃ys,penThing T (a,0) k=(a++ys,0)∧ys.length≤19:=by
 unfold penThing;by_cases h1:k=1
 ·rw [if_pos h1];exact ⟨[],by simp,by simp⟩
 ·rw [if_neg h1];cases hx:T k with
  | none=>exact ⟨[],by simp,by simp⟩
  | some x=>
   obtain ⟨y,hy,_⟩:=ok.up k x hx h1;have hup:=ok.lt hy;have hnm:=ok.name k x hx h1;have h12:x.name.length≤12:=by
    unfold okName at hnm;simp only [Bool.and_eq_true,decide_eq_true_eq] at hnm;omega
   dsimp only;rw [ba_list,penNum_go (wd:=2) (by simp;omega) (by omega),penNum_go (wd:=2) (by simp;omega) (by simp only [List.length_append,numB_length];omega),penRaw_go (by simp only [List.length_append,numB_length];omega) (by omega),
    penPut_go (by simp only [List.length_append,numB_length,List.length_cons,List.length_nil];omega)]
   refine ⟨_,by simp only [List.append_assoc];rfl,?_⟩;simp only [List.length_append,numB_length,List.length_cons,List.length_nil];omega
theorem penThings_go {T:Tree} (ok:TreeOk T):∀(L:List Nat) (a:List UInt8),(∀k∈L,k≤128)→a.length+19*L.length≤65536→∃ys,L.foldl (penThing T) (a,0)=(a++ys,0)∧ys.length≤19*L.length
 | [],a,_,_=>⟨[],by simp,by simp⟩
 | k::r,a,hk,h=>by
  rw [List.length_cons] at h;obtain ⟨y1,e1,n1⟩:=penThing_go ok (hk k (by simp)) (a:=a) (by omega);obtain ⟨y2,e2,n2⟩:=penThings_go ok r (a++y1) (fun y hy=>hk y (by simp [hy])) (by rw [List.length_append];omega);exact ⟨y1++y2,by rw [List.foldl_cons,e1,e2,List.append_assoc],by rw [List.length_append,List.length_cons];omega⟩
def treeB (T:Tree):List UInt8:=(penTree ([],0) T).1
theorem inosT_len (T:Tree):(inosT T).length=things T:=by
 unfold inosT numsOf things;exact (List.countP_eq_length_filter).symm
theorem tree_go {T:Tree} (ok:TreeOk T) {a:List UInt8} (h:a.length+2+19*things T≤65536):∃ys,penTree (a,0) T=(a++ys,0)∧ys.length≤2+19*things T∧ys≠ []:=by
 have hth:1≤things T∧things T≤129:=by
  unfold things;refine ⟨List.countP_pos_iff.2 ⟨1,by simp,by rw [ok.root];rfl⟩,Nat.le_trans List.countP_le_length (by simp)⟩
 have hl:=inosT_len T;unfold penTree;rw [penNum_go (wd:=2) (by simp;omega) (by omega)];obtain ⟨ys,e,hn⟩:=penThings_go ok (inosT T) (a++numB 2 ((things T:Int) - 1).toNat) (fun k hk=>by
  have h1:=(List.mem_filter.1 hk).1;rw [List.mem_range] at h1;omega) (by simp only [List.length_append,numB_length];omega)
 rw [e];refine ⟨numB 2 ((things T:Int) - 1).toNat++ys,by rw [List.append_assoc],by simp only [List.length_append,numB_length];omega,fun e=> ?_⟩;have:=congrArg List.length e;simp only [List.length_append,numB_length,List.length_nil] at this;omega
theorem tree_fits {T:Tree} (ok:TreeOk T):penTree ([],0) T=(treeB T,0)∧treeB T≠ []:=by
 have hth:things T≤129:=by
  unfold things;exact Nat.le_trans List.countP_le_length (by simp)
 obtain ⟨ys,e,hn,h0⟩:=tree_go ok (a:= []) (by simp only [List.length_nil];omega);unfold treeB;rw [e];exact ⟨rfl,h0⟩
theorem gtbytes_ (o:Nat→Nat) (K t:Nat) (T:Tree) (w:World) (h:TreeAt w o K t T) (ok:TreeOk T) (hf:Fresh w o):Calls Tryz.prog 33 #[.pointer (some ⟨t,0,none⟩)] w (BytesPost w (treeB T)):=by
 have f0:Fr No w (w.alloc (.cells #[.slice none 0 0,.int .i64 0] 122)):=(Fr.refl w).alloc _;have F0:=lH f0;have HW:=lH (gtwrite_ o K t w.heap.size (w.heap.size+1) T ([],0) _ (fun w' f=>h.no ok hf (f0.trans f (fun j hj e=>by rcases e with e|⟨e,_⟩<;>omega))) ok (pg_new w));have hb1:∀w':World,(Instr.build 122 #[]).run Tryz.prog w'=.ok (.agg #[.slice none 0 0,.int .i64 0]) w':=fun w'=>by kernel_rfl
 have FIT:=lH (tree_fits ok);unfold PenPost at HW;clear h hf f0;go_enter Tryz.func33,Tryz.ntmps33;go_wp2_with fail;refine HW.out.mono ?_;rintro e w2 ⟨rfl,pg,f2⟩;have F2:Hid (Fr No w w2):=lH (F0.out.trans f2 (fun j hj e=>by rcases e with e|⟨e,_⟩<;>omega));have HB:=lH (pbytes_ok w.heap.size (w.heap.size+1) (treeB T) w2 (by rw [FIT.out.1] at pg;exact pg) FIT.out.2);clear pg f2;go_wp2_with fail;refine HB.out.mono ?_;rintro e w3 ⟨v,b,c,rfl,hs,hb,f3⟩;obtain rfl:=hs.1;have HS:=lH hs;clear hs;go_wp2_with fail
 go_ret
 exact ⟨_,b,c,rfl,HS.out,Nat.le_trans F2.out.size hb,F2.out.trans f3 (fun _ _ e=>e)⟩
theorem TokV.pf {w w':World} {p base:Nat} {s:PenS} {v:Value} {L:List Tok} (h:TokV w v L) (g:Pg w p base s) (f:Fr (Pf w p base) w w'):TokV w' v L:=by
 rcases h with h|⟨b,cap,e,hm,hr⟩
 ·exact .inl h
 ·exact .inr ⟨b,cap,e,hm,hr.pf g f (by decide) (by decide)⟩
theorem gtree_ (o:Nat→Nat) (K K' n:Nat) (L:Plc) (S:St) (w:World) (h:StateAt w o K L S n) (ok:StOk S) (hf:Fresh w o):Calls Tryz.prog 31 #[.pointer (some ⟨L.s,0,none⟩)] w (TrClonePost w o K' S.T):=by
 have HMD:=lH (gmade_ o K n L S w h);have c9:w.cell? ⟨L.s,9,none⟩=some (.pointer (some ⟨L.tr,0,none⟩)):=h.cell 9;have H2:=lH (gtclone_ o K K' L.tr S.T w h.tree ok.tree hf);unfold TrClonePost at*;clear h hf;go_enter Tryz.func31,Tryz.ntmps31;go_wp2_with fail;refine HMD.out.mono ?_;rintro e w1 ⟨rfl,hw⟩;have hw':=hw.symm;subst hw';go_wp2_with fail;refine H2.out.mono ?_;rintro e w2 ⟨t',o',rfl,s',t2⟩;go_wp2_with fail
 go_ret
 exact ⟨t',o',rfl,s',t2⟩
def posC (c:Nat):Prop:=0<c
def WentK (K:Nat) (w:World) (o:Nat→Nat) (L:Plc) (S:St) (n q:Nat) (r:Req) (st:List Sz) (dl:List Dl) (e:Ending) (w':World):Prop:=
 ∃(x:RepS×St) (o':Nat→Nat) (ev mv:Value),e=.returned (.agg (x.1.cells ev mv))∧ev.oneCell'=true∧mv.oneCell'=true∧Did S r st dl x∧StInv x.2 (q+2)∧Step (stateC K) w o w' o'∧StateAt w' o' K L x.2 (n+100)
theorem wentK (o:Nat→Nat) (K n q:Nat) (L:Plc) (S:St) (r:Req) (rv dv:Value) (st:List Sz) (dl:List Dl) (w:World) (h:StateAt w o K L S n) (inv:StInv S q) (hf:Fresh w o) (hr:RowsAt szC 4 w o rv st) (hd:RowsAt dlC 14 w o dv dl) (hs:smallR r st.length dl.length) (hg:∀s∈st,stpGood s.1) (hq:q≤90000) (hn:n≤400000):
  Calls Tryz.prog 15 #[.pointer (some ⟨L.s,0,none⟩),.agg (r.cells rv dv)] w (WentK K w o L S n q r st dl):=
 (gapply_ o K n q L S r rv dv st dl w h inv hf hr hd ⟨hs.1,hs.2.1,hs.2.2.1,hs.2.2.2,hg⟩ hq hn).mono (fun e w' p=>by
   obtain ⟨x,h1,h2,⟨o',s,t⟩,ev,mv,he,q1,q2⟩:=p;exact ⟨x,o',ev,mv,he,q1,q2,h1,h2,s,t⟩)
theorem treeB_len {T:Tree} (ok:TreeOk T):(treeB T).length≤3000:=by
 have hth:things T≤129:=by
  unfold things;exact Nat.le_trans List.countP_le_length (by simp)
 obtain ⟨ys,e,hn,_⟩:=tree_go ok (a:= []) (by simp only [List.length_nil];omega);unfold treeB;rw [e];simp only [List.nil_append];omega
theorem same_self (v1 v2:Value) (x:List UInt8) (w:World) (h1:SlAt w v1 x) (h2:SlAt w v2 x) (hbig:x.length≤1000000):Calls Tryz.prog 28 #[v1,v2] w fun e w'=>e=.returned (.bool true)∧Fr No w w':=
 (gsame_ v1 v2 x x w h1 h2 hbig).mono (fun e w' p=>by
   unfold BoolPost at p;simpa using p)
structure MovedTo (dl:List Dl) (i:Nat) (m m':FMap):Prop where
 size:m'.size=m.size
 len:m'.l.length=m.l.length
 at':∀k:Nat,atOf m' k=atOf m k∨(atOf m' k).z=(atOf m k).z∧∃d∈dl,d.i=(i:Int)∧d.b=(k:Int)∧d.t=atOf m' k
theorem MovedTo.refl (dl:List Dl) (i:Nat) (m:FMap):MovedTo dl i m m:=⟨rfl,rfl,fun _=> .inl rfl⟩
theorem MovedTo.trans {d1 d2:List Dl} {i:Nat} {m m1 m2:FMap} (h1:MovedTo d1 i m m1) (h2:MovedTo d2 i m1 m2):MovedTo (d1++d2) i m m2:=by
 refine ⟨h2.size.trans h1.size,h2.len.trans h1.len,fun k=> ?_⟩;rcases h2.at' k with e2|⟨z2,d,hd,e⟩
 ·rcases h1.at' k with e1|⟨z1,d,hd,e⟩
  ·exact .inl (e2.trans e1)
  ·rw [← e2] at z1 e;exact .inr ⟨z1,d,List.mem_append.2 (.inl hd),e⟩
 ·refine .inr ⟨?_,d,List.mem_append.2 (.inr hd),e⟩;rcases h1.at' k with e1|⟨z1,_⟩
  ·rw [z2,e1]
  ·exact z2.trans z1
theorem applied_moved {m:FMap} {d:Dl} {i:Nat} (hi:d.i=(i:Int)) (hm:mayDl d) (hk:d.k=3):MovedTo [d] i m (appliedM m d):=by
 unfold appliedM;split
 ·rename_i hc
  have hb:=hm.2.2.1;have hc:d.b<m.l.length∧d.o≠noPt∧atOf m d.b=d.o∧d.t≠noPt∧d.t.z=d.o.z:=by
   rcases hc with h|h|h
   ·omega
   ·omega
   ·exact h.2
  obtain ⟨c1,_,c3,_,c5⟩:=hc;unfold doneM;rw [if_neg (by omega),if_neg (by omega)];refine ⟨rfl,List.length_set,fun k=> ?_⟩;by_cases hkb:d.b=(k:Int)
  ·right;have e1:atOf ⟨m.size,m.l.set d.b.toNat d.t⟩ (k:Int)=d.t:=by
    unfold atOf;rw [if_pos (by omega)];dsimp only;rw [hkb,List.getElem?_set_self (by omega)];rfl
   rw [e1];refine ⟨?_,d,List.mem_singleton.2 rfl,hi,hkb,rfl⟩;rw [← hkb,c3];exact c5
  ·left;unfold atOf;rw [if_pos (by omega),if_pos (by omega)];dsimp only;rw [List.getElem?_set_ne (by omega)]
 ·exact MovedTo.refl _ _ _
theorem applied_all:∀(dl:List Dl) (F:Nat→Option FMap),(∀d∈dl,mayDl d∧d.k=3)→∀i:Nat,(F i=none→(dl.foldl appliedF F) i=none)∧∀m,F i=some m→∃m',(dl.foldl appliedF F) i=some m'∧MovedTo dl i m m'
 | [],F,_,i=>⟨fun h=>h,fun m h=>⟨m,h,MovedTo.refl _ _ _⟩⟩
 | d::r,F,h,i=>by
  obtain ⟨h1,h2⟩:=applied_all r (appliedF F d) (fun x hx=>h x (List.mem_cons_of_mem _ hx)) i;obtain ⟨hm,hk⟩:=h d List.mem_cons_self;have hd0:=hm.1;rw [List.foldl_cons];by_cases hi:d.i=(i:Int)
  ·have ht:d.i.toNat=i:=by omega
   have e:appliedF F d i=match F i with|some m=>some (appliedM m d)|none=>none:=by
    unfold appliedF;rw [ht];cases hF:F i with
    | none=>exact hF
    | some m=>dsimp only;unfold updF;rw [if_pos rfl]
   constructor
   ·intro hF;rw [hF] at e;exact h1 e
   ·intro m hF;rw [hF] at e;obtain ⟨m',e2,mv⟩:=h2 _ e;exact ⟨m',e2,(applied_moved hi hm hk).trans mv⟩
  ·have e:appliedF F d i=F i:=by
    unfold appliedF;cases F d.i.toNat with
    | some m=>dsimp only;unfold updF;rw [if_neg (by omega)]
    | none=>rfl
   rw [e] at h1 h2;refine ⟨h1,fun m hF=> ?_⟩;obtain ⟨m',e2,mv⟩:=h2 m hF;exact ⟨m',e2,(MovedTo.refl [d] i m).trans mv⟩
structure StMoves (S:St) (dl:List Dl) (e:Int) (S':St):Prop where
 T:S'.T=S.T
 K:S'.K=S.K
 none:∀i:Nat,S.F i=none→S'.F i=none
 some:∀(i:Nat) m,S.F i=some m→∃m',S'.F i=some m'∧MovedTo dl i m m'∧(e=0∨m'=m)
theorem StMoves.refl (S:St) (dl:List Dl) (e:Int):StMoves S dl e S:=⟨rfl,rfl,fun _ h=>h,fun _ m h=>⟨m,h,MovedTo.refl _ _ _,.inr rfl⟩⟩
theorem moves_law {S:St} {r:Req} {st:List Sz} {dl:List Dl} {x:RepS×St} (hd:Did S r st dl x) (hk:r.kind=9):StMoves S dl x.1.e x.2:=by
 unfold Did at hd;rw [if_neg (by omega),if_neg (by omega),if_pos hk] at hd;rw [hd];unfold movedD;split
 ·exact StMoves.refl _ _ _
 ·split
  ·rename_i h
   have:(tell (triedOf ((stripesE S r.sw r.nx st 4 S.boots).1,noRep,S))).2=S:=by
    show (triedOf _).2=S;rw [triedOf_st]
   rw [this];exact StMoves.refl _ _ _
  ·split
   ·exact StMoves.refl _ _ _
   ·rename_i h
    have h:=Classical.byContradiction h;have ha:=applied_all dl S.F (fun d hd=>⟨(h d hd).1,(h d hd).2.1⟩);refine ⟨rfl,rfl,fun i hi=>(ha i).1 hi,fun i m hi=> ?_⟩;obtain ⟨m',e,mv⟩:=(ha i).2 m hi;exact ⟨m',e,mv,.inl rfl⟩
end Go.Proofs.YtlcojhddnpmgmaaGreat
namespace Go.Proofs.YtlcojhddnpmgmaaGreat
open Go.ChangeShapes Go.WideShapes Go.RowKit Go.Deep
section
variable {H:Type} {enc:TypeId×Value→H} {W:World}
theorem Tryz.cells4:Tryz.prog.cellsOf 4=1:=by kernel_rfl
theorem Tryz.cells9:Tryz.prog.cellsOf 9=1:=by kernel_rfl
theorem Tryz.cells38:Tryz.prog.cellsOf 38=3:=by kernel_rfl
theorem Tryz.cells59:Tryz.prog.cellsOf 59=5:=by kernel_rfl
theorem Tryz.cells57:Tryz.prog.cellsOf 57=4:=by kernel_rfl
theorem Tryz.cells61:Tryz.prog.cellsOf 61=14:=by kernel_rfl
theorem Tryz.cells39:Tryz.prog.cellsOf 39=1:=by kernel_rfl
theorem Tryz.cells34:Tryz.prog.cellsOf 34=1:=by kernel_rfl
theorem Tryz.cells41:Tryz.prog.cellsOf 41=14:=by kernel_rfl
theorem fields_of {P:Program} {t:TypeId} {fs:Array Field} {fuel:Nat} {cs:List Value} {x:DataW H×List MemPlace} (ht:P.underlying t=some (.struct fs)) (h:DataW.trod enc P W 0 (fun _=>true) true fuel t cs=some x):
  cs.length=P.cellsOf t∧∃n,∀(i:Nat) (f:Field) (t':TypeId) (o k:Nat),fs[i]? =some f→f.type=t'→f.offset=o→P.cellsOf t'=k→∃y,DataW.trod enc P W 0 (fun _=>true) true n t' ((cs.drop o).take k)=some y:=by
 obtain ⟨xs,n,_,_,hc,hl,hf⟩:=DataW.trod_struct ht h;refine ⟨hc,n,fun i f t' o k hi e1 e2 e3=> ?_⟩;subst e1 e2 e3;have hlt:i<xs.length:=by
  rw [hl];exact (Array.getElem?_eq_some_iff.1 hi).1
 exact ⟨xs[i],by rw [hf i f hi,List.getElem?_eq_getElem hlt]⟩
theorem int_of {fuel:Nat} {c:Value} {y:DataW H×List MemPlace} (h:DataW.trod enc Tryz.prog W 0 (fun _=>true) true fuel 3 [c]=some y):∃n,c=.int .i64 n∧I64 n:=by
 obtain ⟨n,hc,_,hw⟩:=DataW.trod_int Tryz.underlying3 h;simp only [List.cons.injEq,and_true] at hc;exact ⟨n,hc,bounds_i64 hw⟩
theorem bool_of {fuel:Nat} {c:Value} {y:DataW H×List MemPlace} (h:DataW.trod enc Tryz.prog W 0 (fun _=>true) true fuel 4 [c]=some y):∃n,c=.bool n:=by
 obtain ⟨n,hc,_⟩:=DataW.trod_bool Tryz.underlying4 h;simp only [List.cons.injEq,and_true] at hc;exact ⟨n,hc⟩
theorem str_of {fuel:Nat} {c:Value} {y:DataW H×List MemPlace} (h:DataW.trod enc Tryz.prog W 0 (fun _=>true) true fuel 9 [c]=some y):∃l:List UInt8,c=.string (ba l):=by
 obtain ⟨s,hc,_,hw⟩:=DataW.trod_string Tryz.underlying9 h;simp only [List.cons.injEq,and_true] at hc;exact ⟨s.data.toList,by rw [hc,ba_of]⟩
theorem slot_of_add {w:World} {a:Addr} {v:Value} (h:w.cell? a=some v):a.spot=none:=by
 unfold World.cell? at h;split at h
 ·split at h
  ·cases h
  ·simpa using ‹¬a.spot.isSome=true›
 ·cases h
theorem lt_of_cell' {w:World} {a:Addr} {v:Value} (h:w.cell? a=some v):a.block<w.heap.size:=by
 unfold World.cell? at h;split at h
 ·rename_i e
  exact (Array.getElem?_eq_some_iff.1 e).1
 ·cases h
theorem rows_open {T ET:TypeId} {n:Nat} {α:Type} [Inhabited α] (c:α→List Value) (G:α→Prop) (hT:Tryz.prog.underlying T=some (.slice ET)) (hE:Tryz.prog.cellsOf ET=n) (hn:0<n) (hc:∀x,(c x).length=n)
  (hel:∀ {fuel:Nat} {cs:List Value} {y:DataW H×List MemPlace},DataW.trod enc Tryz.prog W 0 (fun _=>true) true fuel ET cs=some y→∃x,cs=c x∧G x) {fuel:Nat} {v:Value} {y:DataW H×List MemPlace}
  (h:DataW.trod enc Tryz.prog W 0 (fun _=>true) true fuel T [v]=some y):
  ∃(L:List α) (base:Option Addr) (cap:Nat),v=.slice base L.length cap∧(∀x∈L,G x)∧(L≠ []→∃b off,base=some ⟨b,off,none⟩∧b<W.heap.size∧∀(j:Nat) x,L[j]? =some x→W.rangeAt b (off+j*n) (c x)):=by
 rcases open_slice hT h with ⟨hcs,_⟩|⟨a,len,cap,m,k,D,Pl,hcs,_,hl,hm,hmm,_,hi⟩
 ·simp only [List.cons.injEq,and_true] at hcs;exact ⟨[],none,0,hcs,(fun _ h=>by cases h),fun h=>absurd rfl h⟩
 ·simp only [List.cons.injEq,and_true] at hcs;simp only [if_true] at hmm;subst hmm;rw [hE] at hi;obtain ⟨f,hF⟩:=choose_lt (α:=α) (n:=len) (p:=fun i x=>G x∧∀j u,(c x)[j]? =some u→W.cell? ((a.add (i*n)).add j)=some u) (fun i hlt=>by
   obtain ⟨cs',h1,h2⟩:=hi i (by omega);obtain ⟨x,rfl,hg⟩:=hel h2;obtain ⟨_,hlen,hcell⟩:=World.cells?_some h1;refine ⟨x,hg,fun j u hj=> ?_⟩;have hjn:j<n:=by
    rcases Nat.lt_or_ge j n with h|h
    ·exact h
    ·rw [List.getElem?_eq_none (by rw [hc];exact h)] at hj;cases hj
   rw [hcell j hjn,hj])
  refine ⟨(List.range len).map f,some a,m,by simpa using hcs,fun x hx=> ?_,fun hne=> ?_⟩
  ·obtain ⟨i,hi',rfl⟩:=List.mem_map.1 hx;exact (hF i (List.mem_range.1 hi')).1
  ·have h0:0<len:=by
    rcases Nat.eq_zero_or_pos len with h0|h0
    ·subst h0;simp at hne
    ·exact h0
   have hlen0:0<(c (f 0)).length:=(by rw [hc];exact hn)
   have c0:=(hF 0 h0).2 0 _ (List.getElem?_eq_getElem hlen0);have ha:=slot_of_add c0;have ha:a.spot=none:=(by simpa [Addr.add] using ha)
   have hblk:=lt_of_cell' c0;obtain ⟨b,off,s⟩:=a;simp only at ha;subst ha;refine ⟨b,off,rfl,by simpa [Addr.add] using hblk,fun j x hj=> ?_⟩;have hj2:j<len:=by
    rcases Nat.lt_or_ge j len with h|h
    ·exact h
    ·rw [List.getElem?_eq_none (by simp;omega)] at hj;cases hj
   have hx:x=f j:=by
    rw [List.getElem?_map,List.getElem?_range hj2] at hj;simpa using hj.symm
   subst hx;intro i u hu;have h2:((Addr.mk b off none).add (j*n)).add i=⟨b,off+j*n+i,none⟩:=by
    unfold Addr.add;split<;>split<;>simp_all
   have:=(hF j hj2).2 i u hu;rw [h2] at this;exact this
theorem stp_of {fuel:Nat} {cs:List Value} {y:DataW H×List MemPlace} (h:DataW.trod enc Tryz.prog W 0 (fun _=>true) true fuel 46 cs=some y):∃x:Stp,cs= [.int .i64 x.1,.int .i64 x.2.1,.int .i64 x.2.2]∧stpGood x:=by
 obtain ⟨hl,n,hf⟩:=fields_of Tryz.underlying46 h;rw [Tryz.cells46] at hl
 match cs,hl with
 | [c0,c1,c2],_=>
  obtain ⟨_,g0⟩:=hf 0 _ 3 0 1 rfl rfl rfl Tryz.cells3;obtain ⟨_,g1⟩:=hf 1 _ 3 1 1 rfl rfl rfl Tryz.cells3;obtain ⟨_,g2⟩:=hf 2 _ 3 2 1 rfl rfl rfl Tryz.cells3;obtain ⟨n0,rfl,i0⟩:=int_of g0;obtain ⟨n1,rfl,i1⟩:=int_of g1;obtain ⟨n2,rfl,i2⟩:=int_of g2;exact ⟨(n0,n1,n2),rfl,i0,i1,i2⟩
theorem sz_of {fuel:Nat} {cs:List Value} {y:DataW H×List MemPlace} (h:DataW.trod enc Tryz.prog W 0 (fun _=>true) true fuel 57 cs=some y):∃x:Sz,cs=szC x∧stpGood x.1:=by
 obtain ⟨hl,n,hf⟩:=fields_of Tryz.underlying57 h;rw [Tryz.cells57] at hl
 match cs,hl with
 | [c0,c1,c2,c3],_=>
  obtain ⟨_,g0⟩:=hf 0 _ 46 0 3 rfl rfl rfl Tryz.cells46;obtain ⟨_,g3⟩:=hf 1 _ 3 3 1 rfl rfl rfl Tryz.cells3;obtain ⟨x,e,hx⟩:=stp_of g0;obtain ⟨n3,rfl,_⟩:=int_of g3;simp only [List.drop_zero,List.take_succ_cons,List.take_zero,List.cons.injEq,and_true] at e;obtain ⟨rfl,rfl,rfl⟩:=e;exact ⟨(x,n3),rfl,hx⟩
theorem pt_of {fuel:Nat} {cs:List Value} {y:DataW H×List MemPlace} (h:DataW.trod enc Tryz.prog W 0 (fun _=>true) true fuel 59 cs=some y):∃x:Pt,cs=ptC x:=by
 obtain ⟨hl,n,hf⟩:=fields_of Tryz.underlying59 h;rw [Tryz.cells59] at hl
 match cs,hl with
 | [c0,c1,c2,c3,c4],_=>
  obtain ⟨_,g0⟩:=hf 0 _ 46 0 3 rfl rfl rfl Tryz.cells46;obtain ⟨_,g3⟩:=hf 1 _ 3 3 1 rfl rfl rfl Tryz.cells3;obtain ⟨_,g4⟩:=hf 2 _ 3 4 1 rfl rfl rfl Tryz.cells3;obtain ⟨x,e,hx⟩:=stp_of g0;obtain ⟨n3,rfl,_⟩:=int_of g3;obtain ⟨n4,rfl,_⟩:=int_of g4;simp only [List.drop_zero,List.take_succ_cons,List.take_zero,List.cons.injEq,and_true] at e;obtain ⟨rfl,rfl,rfl⟩:=e;exact ⟨⟨x.1,x.2.1,x.2.2,n3,n4⟩,rfl⟩
theorem dl_of {fuel:Nat} {cs:List Value} {y:DataW H×List MemPlace} (h:DataW.trod enc Tryz.prog W 0 (fun _=>true) true fuel 61 cs=some y):∃x:Dl,cs=dlC x:=by
 obtain ⟨hl,n,hf⟩:=fields_of Tryz.underlying61 h;rw [Tryz.cells61] at hl
 match cs,hl with
 | [c0,c1,c2,c3,c4,c5,c6,c7,c8,c9,c10,c11,c12,c13],_=>
  obtain ⟨_,g0⟩:=hf 0 _ 3 0 1 rfl rfl rfl Tryz.cells3;obtain ⟨_,g1⟩:=hf 1 _ 3 1 1 rfl rfl rfl Tryz.cells3;obtain ⟨_,g2⟩:=hf 2 _ 3 2 1 rfl rfl rfl Tryz.cells3;obtain ⟨_,g3⟩:=hf 3 _ 3 3 1 rfl rfl rfl Tryz.cells3;obtain ⟨_,g4⟩:=hf 4 _ 59 4 5 rfl rfl rfl Tryz.cells59;obtain ⟨_,g9⟩:=hf 5 _ 59 9 5 rfl rfl rfl Tryz.cells59;obtain ⟨n0,rfl,_⟩:=int_of g0;obtain ⟨n1,rfl,_⟩:=int_of g1;obtain ⟨n2,rfl,_⟩:=int_of g2;obtain ⟨n3,rfl,_⟩:=int_of g3;obtain ⟨t,e⟩:=pt_of g4;obtain ⟨o,e'⟩:=pt_of g9;simp only [ptC,List.drop_succ_cons,List.drop_zero,List.take_succ_cons,List.take_zero,List.cons.injEq,and_true] at e e';obtain ⟨rfl,rfl,rfl,rfl,rfl⟩:=e;obtain ⟨rfl,rfl,rfl,rfl,rfl⟩:=e';exact ⟨⟨n0,n1,n2,n3,t,o⟩,rfl⟩
theorem szs_of {fuel:Nat} {v:Value} {y:DataW H×List MemPlace} (h:DataW.trod enc Tryz.prog W 0 (fun _=>true) true fuel 39 [v]=some y):∃st:List Sz,RowsAt szC 4 W (fun _=>0) v st∧∀s∈st,stpGood s.1:=by
 obtain ⟨L,base,cap,e,hg,hr⟩:=rows_open (enc:=enc) (W:=W) szC (fun x=>stpGood x.1) Tryz.underlying39 Tryz.cells57 (by decide) szC_len sz_of h;exact ⟨L,⟨base,cap,e,fun hL=>by
  obtain ⟨b,off,e1,hb,hx⟩:=hr hL;exact ⟨b,off,e1,rfl,hb,hx⟩⟩,hg⟩
theorem dls_of {fuel:Nat} {v:Value} {y:DataW H×List MemPlace} (h:DataW.trod enc Tryz.prog W 0 (fun _=>true) true fuel 34 [v]=some y):∃dl:List Dl,RowsAt dlC 14 W (fun _=>0) v dl:=by
 obtain ⟨L,base,cap,e,_,hr⟩:=rows_open (enc:=enc) (W:=W) dlC (fun _=>True) Tryz.underlying34 Tryz.cells61 (by decide) (fun _=>rfl) (fun h=>by
  obtain ⟨x,hx⟩:=dl_of h;exact ⟨x,hx,trivial⟩) h
 exact ⟨L,⟨base,cap,e,fun hL=>by
  obtain ⟨b,off,e1,hb,hx⟩:=hr hL;exact ⟨b,off,e1,rfl,hb,hx⟩⟩⟩
abbrev RqV:=Rq×Value×Value
def RqV.cells (y:RqV):List Value:=(y.1.1.cells y.2.1 y.2.2).toList
def RqV.good (W:World) (y:RqV):Prop:=RowsAt szC 4 W (fun _=>0) y.2.1 y.1.2.1∧RowsAt dlC 14 W (fun _=>0) y.2.2 y.1.2.2∧∀s∈y.1.2.1,stpGood s.1
theorem rq_of {fuel:Nat} {cs:List Value} {y:DataW H×List MemPlace} (h:DataW.trod enc Tryz.prog W 0 (fun _=>true) true fuel 41 cs=some y):∃x:RqV,cs=x.cells∧x.good W:=by
 obtain ⟨hl,n,hf⟩:=fields_of Tryz.underlying41 h;rw [Tryz.cells41] at hl
 match cs,hl with
 | [c0,c1,c2,c3,c4,c5,c6,c7,c8,c9,c10,c11,c12,c13],_=>
  obtain ⟨_,gs⟩:=hf 0 _ 38 0 3 rfl rfl rfl Tryz.cells38;obtain ⟨_,g3⟩:=hf 1 _ 3 3 1 rfl rfl rfl Tryz.cells3;obtain ⟨_,g4⟩:=hf 2 _ 9 4 1 rfl rfl rfl Tryz.cells9;obtain ⟨_,g5⟩:=hf 3 _ 9 5 1 rfl rfl rfl Tryz.cells9;obtain ⟨_,g6⟩:=hf 4 _ 4 6 1 rfl rfl rfl Tryz.cells4;obtain ⟨_,g7⟩:=hf 5 _ 4 7 1 rfl rfl rfl Tryz.cells4;obtain ⟨_,g8⟩:=hf 6 _ 4 8 1 rfl rfl rfl Tryz.cells4;obtain ⟨_,g9⟩:=hf 7 _ 3 9 1 rfl rfl rfl Tryz.cells3;obtain ⟨_,g10⟩:=hf 8 _ 3 10 1 rfl rfl rfl Tryz.cells3;obtain ⟨_,g11⟩:=hf 9 _ 3 11 1 rfl rfl rfl Tryz.cells3;obtain ⟨_,g12⟩:=hf 10 _ 39 12 1 rfl rfl rfl Tryz.cells39;obtain ⟨_,g13⟩:=hf 11 _ 34 13 1 rfl rfl rfl Tryz.cells34;obtain ⟨_,m,hm⟩:=fields_of Tryz.underlying38 gs;obtain ⟨_,k0⟩:=hm 0 _ 3 0 1 rfl rfl rfl Tryz.cells3;obtain ⟨_,k1⟩:=hm 1 _ 3 1 1 rfl rfl rfl Tryz.cells3;obtain ⟨_,k2⟩:=hm 2 _ 3 2 1 rfl rfl rfl Tryz.cells3;obtain ⟨n0,rfl,_⟩:=int_of k0;obtain ⟨n1,rfl,_⟩:=int_of k1;obtain ⟨n2,rfl,_⟩:=int_of k2;obtain ⟨n3,rfl,_⟩:=int_of g3;obtain ⟨n4,rfl⟩:=str_of g4;obtain ⟨n5,rfl⟩:=str_of g5;obtain ⟨n6,rfl⟩:=bool_of g6;obtain ⟨n7,rfl⟩:=bool_of g7;obtain ⟨n8,rfl⟩:=bool_of g8;obtain ⟨n9,rfl,_⟩:=int_of g9;obtain ⟨n10,rfl,_⟩:=int_of g10;obtain ⟨n11,rfl,_⟩:=int_of g11;obtain ⟨st,hst,hgood⟩:=szs_of g12;obtain ⟨dl,hdl⟩:=dls_of g13;exact ⟨((⟨n0,n1,n2,n3,n4,n5,n6,n7,n8,n9,n10,n11⟩,st,dl),_,_),rfl,hst,hdl,hgood⟩
theorem rqs_of {b0:Nat} {v:Value} {d:DataW H} {p:List MemPlace} (hv:Value.okWide Tryz.prog W .any b0 44 v) (h:DataW.Trod enc Tryz.prog W 0 (fun _=>true) true 44 v d p):∃L:List Rq,RqsAt W (fun _=>0) v L∧∀y∈L,∀s∈y.2.1,stpGood s.1:=by
 obtain ⟨a',len',cap',rfl⟩:=okWide_slice Tryz.underlying44 hv;obtain ⟨fuel,hf⟩:=h
 haveI:Inhabited RqV:=⟨((⟨0,0,0,0, [], [],false,false,false,0,0,0⟩, [], []),.slice none 0 0,.slice none 0 0)⟩
 obtain ⟨L,base,cap,e,hg,hr⟩:=rows_open (enc:=enc) (W:=W) RqV.cells (RqV.good W) Tryz.underlying44 Tryz.cells41 (by decide) (fun _=>rfl) rq_of (v:=.slice a' len' cap') hf;refine ⟨L.map (·.1),⟨base,cap,by rw [List.length_map];exact e,fun hL=> ?_⟩,fun y hy s hs=> ?_⟩
 ·have hL':L≠ []:=fun h=>hL (by rw [h];rfl);obtain ⟨b,off,e1,hb,hx⟩:=hr hL';refine ⟨b,off,e1,rfl,hb,fun j y hj=> ?_⟩;rw [List.getElem?_map] at hj;cases hz:L[j]? with
  | none=>rw [hz] at hj;cases hj
  | some z=>
   rw [hz] at hj;cases hj;obtain ⟨g1,g2,_⟩:=hg z (List.mem_of_getElem? hz);exact ⟨z.2.1,z.2.2,hx j z hz,g1,g2⟩
 ·obtain ⟨z,hz,rfl⟩:=List.mem_map.1 hy;exact (hg z hz).2.2 s hs
end
end Go.Proofs.YtlcojhddnpmgmaaGreat
