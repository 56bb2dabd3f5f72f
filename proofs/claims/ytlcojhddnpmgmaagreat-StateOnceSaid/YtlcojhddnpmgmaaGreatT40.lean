/- Part of the proof; the last text says what is proved. -/
import Derived.Test.YtlcojhddnpmgmaaGreatT37
import Derived.Test.YtlcojhddnpmgmaaGreatT38
import Derived.Test.YtlcojhddnpmgmaaGreatT39
set_option linter.unusedSimpArgs false
set_option linter.unusedVariables false
set_option maxRecDepth 100000
set_option maxHeartbeats 6400000
namespace Go.Proofs.YtlcojhddnpmgmaaGreat
open Go.RowKit
def u8C (x:UInt8):List Value:= [.int .u8 x.toNat]
def WentR (C:Nat→Prop) (K:Nat) (w:World) (o:Nat→Nat) (L:Plc) (S:St) (n q:Nat) (r:Req) (st:List Sz) (dl:List Dl) (e:Ending) (w':World):Prop:=
 ∃(x:RepS×St) (o':Nat→Nat) (ev mv:Value),e=.returned (.agg (x.1.cells ev mv))∧(∃a l c,ev=.slice a l c)∧(∃a l c,mv=.slice a l c)∧Rp w' ev mv x.1.es x.1.map∧Did S r st dl x∧StInv x.2 q∧Step C w o w' o'∧StateAt w' o' K L x.2 n
theorem Rp.shape {w:World} {ev mv:Value} {es:List Ent} {mp:List UInt8} (h:Rp w ev mv es mp):(∃a l c,ev=.slice a l c)∧∃a l c,mv=.slice a l c:=by
 refine ⟨h.1.shape,?_⟩;rcases h.2 with ⟨e,_⟩|⟨b,off,c,⟨e,_⟩,_⟩
 ·exact ⟨_,_,_,e⟩
 ·exact ⟨_,_,_,e⟩
theorem wentR (o:Nat→Nat) (K n q:Nat) (L:Plc) (S:St) (r:Req) (rv dv:Value) (st:List Sz) (dl:List Dl) (w:World) (h:StateAt w o K L S n) (inv:StInv S q) (hf:Fresh w o) (hr:RowsAt szC 4 w o rv st) (hd:RowsAt dlC 14 w o dv dl) (hs:smallR r st.length dl.length) (hg:∀s∈st,stpGood s.1) (hq:q≤90000) (hn:n≤400000):
  Calls Tryz.prog 15 #[.pointer (some ⟨L.s,0,none⟩),.agg (r.cells rv dv)] w (WentR (stateC K) K w o L S (n+100) (q+2) r st dl):=
 (gapply_ o K n q L S r rv dv st dl w h inv hf hr hd ⟨hs.1,hs.2.1,hs.2.2.1,hs.2.2.2,hg⟩ hq hn).mono (fun e w' p=>by
   obtain ⟨x,h1,h2,⟨o',s,t⟩,ev,mv,he,_,_,hrp⟩:=p;exact ⟨x,o',ev,mv,he,hrp.shape.1,hrp.shape.2,hrp,h1,h2,s,t⟩)
theorem wentQ (o:Nat→Nat) (K n q:Nat) (L:Plc) (S:St) (r:Req) (rv dv:Value) (st:List Sz) (dl:List Dl) (w:World) (h:StateAt w o K L S n) (inv:StInv S q) (hf:Fresh w o) (hqt:Quiet S r):
  Calls Tryz.prog 15 #[.pointer (some ⟨L.s,0,none⟩),.agg (r.cells rv dv)] w fun e w'=>∃(x:RepS×St) (ev mv:Value),e=.returned (.agg (x.1.cells ev mv))∧(∃a l c,ev=.slice a l c)∧(∃a l c,mv=.slice a l c)∧Rp w' ev mv x.1.es x.1.map∧Did S r st dl x∧x.2=S∧Fr No w w':=
 (gquiet_ o K n q L S r rv dv st dl w h inv hf hqt).mono (fun e w' p=>by
   obtain ⟨x,h1,h2,⟨o',s,t⟩,ev,mv,he,_,_,hrp⟩:=p;exact ⟨x,ev,mv,he,hrp.shape.1,hrp.shape.2,hrp,h1,h2,s.fr.mono (fun _ _ e=>e)⟩)
theorem quiet_after {S:St} {r:Req} {st:List Sz} {dl:List Dl} {x:RepS×St} (hd:Did S r st dl x) (hk:r.kind<9):Quiet x.2 r:=by
 by_cases hkk:1≤r.kind∧r.kind≤8
 ·refine .inr ⟨hkk,?_⟩;unfold Did at hd;rw [if_neg (by omega),if_neg (by omega),if_neg (by omega),if_neg (fun h=>h hkk)] at hd;by_cases ha1:(askOf S.W r.c r.l r.q).1=1
  ·rw [if_pos ha1] at hd;rw [hd.1];exact .inl ha1
  ·rw [if_neg ha1] at hd;by_cases ha2:(askOf S.W r.c r.l r.q).1=2
   ·rw [if_pos ha2] at hd;have:x.2=S:=(by rw [hd];rfl)
    rw [this];exact .inr ha2
   ·rw [if_neg ha2] at hd;by_cases hm:mayP r.c r.l r.q
    ·generalize (askOf S.W r.c r.l r.q).1=kd at*;have hW1:∃bs,x.2.W r.c.toNat=some (r.l,r.q,bs):=by
      rw [hd];unfold tell askedS;dsimp only;rw [upd_same];exact ⟨_,rfl⟩
     obtain ⟨bs,hW1⟩:=hW1;left;unfold askOf;unfold mayP at hm;rw [if_pos (by omega),hW1];dsimp only;rw [kind_self]
    ·have:askOf S.W r.c r.l r.q=(2,none):=if_neg hm;rw [this] at ha2;exact absurd rfl ha2
 ·exact .inl ⟨hkk,by omega,by omega,by omega⟩
theorem quiet_again {S:St} {r:Req} (hk:r.kind<9) (h:r.l<lifeS S r.c∨r.l=lifeS S r.c∧r.q≤lastQ S.W r.c):Quiet S r:=by
 by_cases hkk:1≤r.kind∧r.kind≤8
 ·refine .inr ⟨hkk,?_⟩;by_cases hm:mayP r.c r.l r.q
  ·have hm':=hm;unfold mayP at hm';have hls:lifeS S r.c=match S.W r.c.toNat with|none=> -1|some (life,_,_)=>life:=by
    unfold lifeS lifeOf;rw [if_neg (by omega),if_pos (by omega)];cases S.W r.c.toNat<;>rfl
   have ha:askOf S.W r.c r.l r.q=match S.W r.c.toNat with
    | none=>(3,none)
    | some (life,seq,bs)=>(kindOf r.l r.q life seq,if kindOf r.l r.q life seq=1 then some bs else none):=if_pos hm
   cases hW:S.W r.c.toNat with
   | none=>
    rw [hW] at hls;dsimp only at hls;omega
   | some y=>
    obtain ⟨life,seq,bs⟩:=y;rw [hW] at hls ha;dsimp only at hls ha;have hlq:lastQ S.W r.c=seq:=by
     have h1:=lastW_some (W:=S.W) (c:=r.c.toNat) (by omega) hW;rw [Int.toNat_of_nonneg hm'.1] at h1;unfold lastQ;rw [h1]
    rw [hls,hlq] at h;rw [ha];dsimp only;unfold kindOf;by_cases h1:r.l<life∨r.l=life∧r.q<seq
    ·rw [if_pos h1];exact .inr rfl
    ·rw [if_neg h1,if_neg (by omega),if_pos (by omega)];exact .inl rfl
  ·have ha:askOf S.W r.c r.l r.q=(2,none):=if_neg hm;rw [ha];exact .inr rfl
 ·exact .inl ⟨hkk,by omega,by omega,by omega⟩
theorem StpsOf.same' {U:Stp→Option Us} {l1 l2:List Stp} (h:StpsOf U l1) (g:StpsOf U l2):l1=l2:=by
 refine sorted_eq (r:=fun x y:Stp=>x≠y∧stpLe x y=true) (fun x e=>e.1 rfl) (fun x y e f=> ?_) (h.1.and h.2.2) (g.1.and g.2.2) (fun x=>(h.2.1 x).trans (g.2.1 x).symm);have h1:=e.2;have h2:=f.2;rw [stpLe_iff,stpO_lt] at h1 h2;apply e.1;obtain ⟨x1,x2,x3⟩:=x;obtain ⟨y1,y2,y3⟩:=y;simp only [Prod.mk.injEq] at h1 h2 ⊢;omega
theorem StInv.lens' {S:St} {q:Nat} (h:StInv S q):∀i life seq bs,S.W i=some (life,seq,bs)→bs.length≤1000000:=fun i life seq bs hi=>by
 obtain ⟨rep,hk,_,_,e⟩:=h.win i _ hi;have e:bs=rep.bytes:=e;rw [e];have:=hk.len;omega
theorem last_q {w w':World} {W:Nat→Option WRow} {c:Int} {e:Ending} (h:LastPost w (lastW W c) e w'):∃v,e=.returned (.tuple #[v,.int .i64 (lastQ W c)])∧Fr No w w':=by
 obtain ⟨f,h⟩:=h;unfold lastQ;cases hl:lastW W c with
 | none=>rw [hl] at h;exact ⟨_,h,f⟩
 | some y=>
  rw [hl] at h;obtain ⟨v,h,_⟩:=h;exact ⟨v,h,f⟩
def LiesM (w:World) (o:Nat→Nat) (L:Plc) (m:Nat) (w':World):Prop:=∃j,j≤m∧Lies w o L j InvWin w'
theorem stateOnce_ (v1:Value) (L1:List Rq) (v2:Value) (A:List UInt8) (w:World) (h1:RqsAt w (fun _=>0) v1 L1) (g1:GoodRqs L1) (h2:RowsAt u8C 1 w (fun _=>0) v2 A):
  Calls Tryz.prog 11 #[v1,v2] w fun e w'=>e=.returned (.bool true)∧Fr No w w':=by
 have mixed:Tryz.prog.follows .mixedOrders=true:=by kernel_rfl
 obtain ⟨base1,cap1,rfl⟩:=h1.slice;obtain ⟨base2,cap2,rfl⟩:=h2.slice;generalize hQ:(fun (e:Ending) (w':World)=>e=.returned (.bool true)∧Fr No w w')=Q;have HQ:Hid (∀w',Fr No w w'→Q (.returned (.bool true)) w'):=lH (fun w' f=>by rw [← hQ];exact ⟨rfl,f⟩);clear hQ;have H1:=lH h1;have H2:=lH h2;have G1:=lH g1;clear h1 g1 h2;go_enter Tryz.func11,Tryz.ntmps11;go_wp2_with fail;refine (gawake_ _).mono ?_;rintro e w1 ⟨rfl,f1⟩;have F1:=lH f1;have H11:=lH (H1.out.no (fresh0 _) f1);have H21:=lH (H2.out.no (fresh0 _) f1);clear f1 H1 H2;have HA1:=lH (gasks_ (fun _=>0) _ L1 60 w1 (fresh0 w1) H11.out (by omega));unfold BoolPost at HA1;cases hA:decide (L1.length≤60∧∀y∈L1,smallY y) with
 | false=>
  rw [hA] at HA1;clear hA;go_wp2_with fail;refine HA1.out.mono ?_;rintro e w2 ⟨rfl,f2⟩;have F2:=lH (F1.out.trans f2 (fun _ _ e=>e));clear f2;go_wp2_with fail;exact HQ.out _ F2.out
 | true=>
  rw [hA] at HA1;have SM1:=lH (of_decide_eq_true hA);clear hA;by_cases hA100:100<A.length
  ·have q1:(100:Int)<(A.length:Int):=by omega
   go_wp2_with fail;refine HA1.out.mono ?_;rintro e w2 ⟨rfl,f2⟩;have F2:=lH (F1.out.trans f2 (fun _ _ e=>e));clear f2;go_wp2_with fail;exact HQ.out _ F2.out
  ·have q1:¬(100:Int)<(A.length:Int):=by omega
   go_wp2_with fail;refine HA1.out.mono ?_;rintro e w2 ⟨rfl,f2⟩;have F2:=lH (F1.out.trans f2 (fun _ _ e=>e));have H12:=lH (H11.out.no (fresh0 _) f2);have H22:=lH (H21.out.no (fresh0 _) f2);clear f2 H11 F1 HA1 H21;go_wp2_with fail;refine (gstate_new _).mono ?_;rintro e w4 ⟨L,o4,rfl,s4,t4⟩;have F4:=lH (F2.out.trans (s4.fr.mono (fun _ _ e=>e)) (fun _ _ e=>e.elim));have HLE:Hid (∀k,k<w.heap.size→o4 k=0):=lH (fun k hk=>s4.old k (Nat.lt_of_lt_of_le hk F2.out.size));have H14:=lH (H12.out.step s4 id);have H24:=lH (H22.out.step s4 id);have LI0:Hid (LiesM w4 o4 L (3*0) w4):=lH ⟨0,Nat.le_refl _,o4,S0,Step.refl s4.fresh,t4,S0_inv,fun i y h=>(by cases h)⟩;have nos:¬stateC 0 0:=(by unfold stateC;omega)
   have NOS:=lH nos;have HL60:=lH SM1.out.1;clear s4 t4 H12 H22 F2 nos q1;go_wp2_with fail;go_loopw [6] (fun a wr=>∃i:Nat,a=.int .i64 i∧i≤L1.length∧Hid (LiesM w4 o4 L (3*i) wr)) (fun a _=>L1.length - (intOf a).toNat)
   case atStart=>exact ⟨0,rfl,Nat.zero_le _,LI0⟩
   case round=>
    obtain ⟨i,rfl,hi,HLI⟩:=hrel;obtain ⟨j,hj3,oj,S,sj,tj,ij,pj⟩:=HLI.out;have SJ:=lH sj;have TJ:=lH tj;have IJ:=lH ij;have PJ:=lH pj;have hl60:=HL60.out;clear sj tj ij pj;by_cases hlt:i<L1.length
    ·have q1:(i:Int)<(L1.length:Int):=by omega
     have q3:(0:Int)≤(i:Int):=(by omega)
     have hne:L1≠ []:=by
      intro e;subst e;simp at hlt
     have HRQS:=H14.out.step SJ.out NOS.out;obtain ⟨b,off,hbase,ho,hbl,hrows⟩:=HRQS.at hne;subst hbase;have HROWS:=lH hrows;have hrq0:=hrows i L1[i] (List.getElem?_eq_getElem hlt);obtain ⟨rv,dv,hr1,hr2,hr3⟩:=hrq0;have HSM:=lH (SM1.out.2 L1[i] (List.getElem_mem hlt));have HGD:=lH (G1.out L1[i] (List.getElem_mem hlt));have HO:=lH (show oj b=0 from ho);generalize L1[i]=y at*;obtain ⟨r,st,dl⟩:=y;dsimp only at hr1 hr2 hr3 HGD;unfold smallY at HSM;dsimp only at HSM;obtain ⟨bs,cs,rfl⟩:=hr2.slice;obtain ⟨bd,cd,rfl⟩:=hr3.slice;have HR1:=lH hr1;have HR2:=lH hr2;have HR3:=lH hr3;have hkc:wr.cell? ⟨b,off+i*14+3,none⟩=some (.int .i64 r.kind):=hr1 3 _ rfl;unfold Req.cells at HR1;clear hrows ho hr1 hr2 hr3 HRQS;by_cases hk9:9≤r.kind
     ·have L8:Hid (LiesM w4 o4 L (3*(i+1)) wr):=lH (by
       obtain ⟨j,h,hl⟩:=HLI.out;exact ⟨j,by omega,hl⟩)
      go_wp2_with fail;go_roundw
      case rel=>exact ⟨i+1,by go_num,hlt,L8⟩
      case measure=>simp [intOf];omega
     ·have HRQ:=lH (grequest_ oj r (.slice bs st.length cs) (.slice bd dl.length cd) st wr SJ.out.fresh HR2.out ⟨_,_,_,rfl⟩ (by have:=HSM.out.2.2.1;omega));unfold ReqPost Req.cells at HRQ;clear HLI;go_wp2_with (refine wpList_load_mid (by rfl) 41 _ (by rfl) b (off+i*14) (by rfl) [.int .i64 r.c,.int .i64 r.l,.int .i64 r.q,.int .i64 r.kind,.string (ba r.path),.string (ba r.to),.bool r.dir,.bool r.wr,.bool r.cl,.int .i64 r.h,.int .i64 r.nx,.int .i64 r.sw,.slice bs st.length cs,.slice bd dl.length cd] _ HR1.out Tryz.underlying41 rfl Tryz.size41 ?_);refine HRQ.out.mono ?_;rintro e wq ⟨rv',rfl,hrq,fq⟩;have TQ:=TJ.out.no IJ.out.ok SJ.out.fresh fq;have sq:Step (fun _=>False) wr oj wq oj:=Step.no SJ.out.fresh fq;have SQ:Hid (Step (stateC 0) w4 o4 wq oj):=lH (SJ.out.trans sq (fun _ e=>e.elim));have HW:=lH (wentR oj 0 (100*j) (2*j) L S r rv' _ st dl wq TQ IJ.out sq.fresh hrq (HR3.out.no SJ.out.fresh fq) HSM.out HGD.out (by omega) (by omega));unfold WentR Req.cells at HW;have HR1Q:Hid (wq.rangeAt b (off+i*14) [.int .i64 r.c,.int .i64 r.l,.int .i64 r.q,.int .i64 r.kind,.string (ba r.path),.string (ba r.to),.bool r.dir,.bool r.wr,.bool r.cl,.int .i64 r.h,.int .i64 r.nx,.int .i64 r.sw,.slice bs st.length cs,.slice bd dl.length cd]):=lH (fun a u hu=>fq.cell_of (HR1.out a u hu) id);have HR2Q:=lH (HR2.out.no SJ.out.fresh fq);have HR3Q:=lH (HR3.out.no SJ.out.fresh fq);clear TQ hrq fq sq HRQ TJ SJ HR1 HR2 HR3 hkc;go_wp2_with fail;refine HW.out.mono ?_;rintro e w7 ⟨x,o7,ev,mv,rfl,she,shm,hrp,d7,i7,s7,t7⟩;obtain ⟨ea,el,ec,rfl⟩:=she;obtain ⟨ma,ml,mc,rfl⟩:=shm;have S7:=lH (SQ.out.trans s7 (fun _ e=>e));have T7:=lH t7;have I7:=lH i7;have RP7:=lH hrp;have D7:=lH d7;have P7:=lH (PJ.out.turn (turns_all d7));have HR17:Hid (w7.rangeAt b (off+i*14) [.int .i64 r.c,.int .i64 r.l,.int .i64 r.q,.int .i64 r.kind,.string (ba r.path),.string (ba r.to),.bool r.dir,.bool r.wr,.bool r.cl,.int .i64 r.h,.int .i64 r.nx,.int .i64 r.sw,.slice bs st.length cs,.slice bd dl.length cd]):=lH (fun a u hu=>s7.fr.cell_of (HR1Q.out a u hu) (by rw [HO.out];exact NOS.out));have HR27:=lH (HR2Q.out.step s7 NOS.out);have HR37:=lH (HR3Q.out.step s7 NOS.out);have kz:=new_at w7 (.cells #[.int .i64 0,.int .i64 0,.int .i64 0,.int .i64 0,.int .i64 0,.bool false,.slice none 0 0,.slice none 0 0] 29)
      have K8:=lH (setRow_at (cs':=x.1.cells (.slice ea el ec) (.slice ma ml mc)) kz);have KZ:=lH kz;have F8:Hid (Fr No w7 ((w7.alloc (.cells #[.int .i64 0,.int .i64 0,.int .i64 0,.int .i64 0,.int .i64 0,.bool false,.slice none 0 0,.slice none 0 0] 29)).setRow w7.heap.size (x.1.cells (.slice ea el ec) (.slice ma ml mc)))):=lH (Fr.setRow ((Fr.refl (S:=No) w7).alloc _) (.inr (Nat.le_refl _)) _);have HOC:=lH (RepS.cells_one (r:=x.1) (ev:=.slice ea el ec) (mv:=.slice ma ml mc) rfl rfl);clear hrp d7 i7 s7 t7 kz HW SQ HR1Q HR2Q HR3Q;go_upto_region 13 with (refine wpList_store_row rfl 29 (.tmp 7) (.tmp 48) rfl w7.heap.size (x.1.cells (.slice ea el ec) (.slice ma ml mc)) rfl rfl 29 _ KZ.out Tryz.size29 rfl HOC.out ?_)
      have S8:=lH (Step.no (C:=fun _=>False) S7.out.fresh F8.out);have T8:=lH (T7.out.no I7.out.ok S7.out.fresh F8.out);have SW8:=lH (S7.out.trans S8.out (fun _ e=>e.elim));have RP8:=lH (RP7.out.no F8.out);have HR18:Hid (((w7.alloc (.cells #[.int .i64 0,.int .i64 0,.int .i64 0,.int .i64 0,.int .i64 0,.bool false,.slice none 0 0,.slice none 0 0] 29)).setRow w7.heap.size (x.1.cells (.slice ea el ec) (.slice ma ml mc))).rangeAt b (off+i*14) [.int .i64 r.c,.int .i64 r.l,.int .i64 r.q,.int .i64 r.kind,.string (ba r.path),.string (ba r.to),.bool r.dir,.bool r.wr,.bool r.cl,.int .i64 r.h,.int .i64 r.nx,.int .i64 r.sw,.slice bs st.length cs,.slice bd dl.length cd]):=lH (fun a u hu=>F8.out.cell_of (HR17.out a u hu) id);have HR28:=lH (HR27.out.no S7.out.fresh F8.out);have HR38:=lH (HR37.out.no S7.out.fresh F8.out);generalize (w7.alloc (.cells #[.int .i64 0,.int .i64 0,.int .i64 0,.int .i64 0,.int .i64 0,.bool false,.slice none 0 0,.slice none 0 0] 29)).setRow w7.heap.size (x.1.cells (.slice ea el ec) (.slice ma ml mc))=w8 at*;generalize w7.heap.size=b7 at*;obtain ⟨X1,S1⟩:=x;dsimp only at*;clear S8 T7 S7 KZ F8 HOC RP7 HR17 HR27 HR37
      -- everything from here on leaves the state alone
      have HEN:=lH (gencodeS_ o7 0 _ L S1 w8 T8.out I7.out.ok SW8.out.fresh (by omega) I7.out.lens');unfold EncPost at HEN;go_wp2_with fail;refine HEN.out.mono ?_;rintro e w9 ⟨v9,ss,stp,rfl,sl9,f9,hl9,_⟩;have F9:=lH f9;have SL9:=lH sl9;have HL9:=lH hl9;have STP:=lH stp;have HRQ:=lH (grequest_ o7 r (.slice bs st.length cs) (.slice bd dl.length cd) st w9 (Step.no (C:=fun _=>False) SW8.out.fresh f9).fresh (HR28.out.no SW8.out.fresh f9) ⟨_,_,_,rfl⟩ (by have:=HSM.out.2.2.1;omega));unfold ReqPost Req.cells at HRQ;have HR19:Hid (w9.rangeAt b (off+i*14) [.int .i64 r.c,.int .i64 r.l,.int .i64 r.q,.int .i64 r.kind,.string (ba r.path),.string (ba r.to),.bool r.dir,.bool r.wr,.bool r.cl,.int .i64 r.h,.int .i64 r.nx,.int .i64 r.sw,.slice bs st.length cs,.slice bd dl.length cd]):=lH (fun a u hu=>f9.cell_of (HR18.out a u hu) id);clear stp sl9 f9 hl9 HEN;go_wp2_with (refine wpList_load_mid (by rfl) 41 _ (by rfl) b (off+i*14) (by rfl) [.int .i64 r.c,.int .i64 r.l,.int .i64 r.q,.int .i64 r.kind,.string (ba r.path),.string (ba r.to),.bool r.dir,.bool r.wr,.bool r.cl,.int .i64 r.h,.int .i64 r.nx,.int .i64 r.sw,.slice bs st.length cs,.slice bd dl.length cd] _ HR19.out Tryz.underlying41 rfl Tryz.size41 ?_);refine HRQ.out.mono ?_;rintro e wq ⟨rv',rfl,hrq,fq⟩;have FQ:=lH (F9.out.trans fq (fun _ _ e=>e));have SLq:=lH (SL9.out.no fq);have HW:=lH (wentQ o7 0 _ _ L S1 r rv' (.slice bd dl.length cd) st dl wq (T8.out.no I7.out.ok SW8.out.fresh FQ.out) I7.out (Step.no (C:=fun _=>False) SW8.out.fresh FQ.out).fresh (quiet_after D7.out (by omega)));unfold Req.cells at HW;clear hrq fq HRQ HR19;go_wp2_with fail;refine HW.out.mono ?_;rintro e w10 ⟨x2,ev2,mv2,rfl,she,shm,hrp2,d10,hS2,f10⟩;obtain ⟨ea2,el2,ec2,rfl⟩:=she;obtain ⟨ma2,ml2,mc2,rfl⟩:=shm;have HON:=lH (once_same IJ.out (by omega) D7.out d10 (by omega)).2;dsimp only at HON;obtain ⟨X2,S2⟩:=x2;dsimp only at*;have F10:=lH (FQ.out.trans f10 (fun _ _ e=>e));have SL10:=lH (SLq.out.no f10);have RP10:=lH hrp2;have kz:=new_at w10 (.cells #[.int .i64 0,.int .i64 0,.int .i64 0,.int .i64 0,.int .i64 0,.bool false,.slice none 0 0,.slice none 0 0] 29);have K11:=lH (setRow_at (cs':=X2.cells (.slice ea2 el2 ec2) (.slice ma2 ml2 mc2)) kz);have KZ:=lH kz
      have F11:Hid (Fr No w10 ((w10.alloc (.cells #[.int .i64 0,.int .i64 0,.int .i64 0,.int .i64 0,.int .i64 0,.bool false,.slice none 0 0,.slice none 0 0] 29)).setRow w10.heap.size (X2.cells (.slice ea2 el2 ec2) (.slice ma2 ml2 mc2)))):=lH (Fr.setRow ((Fr.refl (S:=No) w10).alloc _) (.inr (Nat.le_refl _)) _);have HOC:=lH (RepS.cells_one (r:=X2) (ev:=.slice ea2 el2 ec2) (mv:=.slice ma2 ml2 mc2) rfl rfl);clear hrp2 d10 hS2 f10 HW FQ kz;go_upto_region 15 with (refine wpList_store_row rfl 29 (.tmp 10) (.tmp 60) rfl w10.heap.size (X2.cells (.slice ea2 el2 ec2) (.slice ma2 ml2 mc2)) rfl rfl 29 _ KZ.out Tryz.size29 rfl HOC.out ?_)
      have RP11:=lH (RP10.out.no F11.out);have F11':=lH (F10.out.trans F11.out (fun _ _ e=>e));have SL11:=lH (SL10.out.no F11.out);generalize (w10.alloc (.cells #[.int .i64 0,.int .i64 0,.int .i64 0,.int .i64 0,.int .i64 0,.bool false,.slice none 0 0,.slice none 0 0] 29)).setRow w10.heap.size (X2.cells (.slice ea2 el2 ec2) (.slice ma2 ml2 mc2))=w11 at*;generalize w10.heap.size=b10 at*;clear KZ HOC RP10 F10 F11;have HEN:=lH (gencodeS_ o7 0 _ L S1 w11 (T8.out.no I7.out.ok SW8.out.fresh F11'.out) I7.out.ok (Step.no (C:=fun _=>False) SW8.out.fresh F11'.out).fresh (by omega) I7.out.lens');unfold EncPost at HEN;go_wp2_with fail;refine HEN.out.mono ?_;rintro e w12 ⟨v12,ss2,stp2,rfl,sl12,f12,hl12,_⟩;obtain rfl:=stp2.same' STP.out;have F12:=lH (F11'.out.trans f12 (fun _ _ e=>e));have SL12:=lH sl12;have K8':Hid (w12.heap[b7]? =some (.cells (X1.cells (.slice ea el ec) (.slice ma ml mc)) 29 (0,0))):=lH (F12.out.block_of K8.out id);have K11':=lH (f12.block_of K11.out id);have RPA:=lH (RP8.out.no F12.out);have RPB:=lH (RP11.out.no f12);have SLA:=lH (SL11.out.no f12);clear stp2 sl12 f12 hl12 HEN K8 K11 RP8 RP11 F11' SL11 SL10 SLq SL9;have HSA:Hid (∀W,Fr No w12 W→Calls Tryz.prog 28 #[v9,v12] W fun e w'=>e=.returned (.bool true)∧Fr No w12 w'):=lH (fun W f=>(same_self v9 v12 _ W (SLA.out.no f) (SL12.out.no f) (by have:=HL9.out;omega)).mono (fun e w' p=>⟨p.1,f.trans p.2 (fun _ _ e=>e)⟩));have HSD1:Hid (∀W,Fr No w12 W→Calls Tryz.prog 43 #[.agg (X1.cells (.slice ea el ec) (.slice ma ml mc))] W fun e w'=>e=.returned (.agg (X1.cells (.slice ea el ec) (.slice ma ml mc)))∧Fr No w12 w'):=lH (fun W f=>(said_ X1 _ _ ⟨_,_,_,rfl⟩ ⟨_,_,_,rfl⟩ W).mono (fun e w' p=>⟨p.1,f.trans p.2 (fun _ _ e=>e)⟩));have HSD2:Hid (∀W,Fr No w12 W→Calls Tryz.prog 43 #[.agg (X2.cells (.slice ea2 el2 ec2) (.slice ma2 ml2 mc2))] W fun e w'=>e=.returned (.agg (X2.cells (.slice ea2 el2 ec2) (.slice ma2 ml2 mc2)))∧Fr No w12 w'):=lH (fun W f=>(said_ X2 _ _ ⟨_,_,_,rfl⟩ ⟨_,_,_,rfl⟩ W).mono (fun e w' p=>⟨p.1,f.trans p.2 (fun _ _ e=>e)⟩));have HSR:Hid (X1.e≠17→∀W,Fr No w12 W→Calls Tryz.prog 42 #[.agg (X1.cells (.slice ea el ec) (.slice ma ml mc)),.agg (X2.cells (.slice ea2 el2 ec2) (.slice ma2 ml2 mc2))] W fun e w'=>e=.returned (.bool true)∧Fr No w12 w'):=lH (fun he W f=>by
       obtain ⟨e1,e2,e3⟩:=HON.out he;have hb:=RPB.out.no f;rw [e1] at hb ⊢;exact (sameReply_ X1 _ _ _ _ W (RPA.out.no f) hb e2 e3).mono (fun e w' p=>⟨p.1,f.trans p.2 (fun _ _ e=>e)⟩))
      have KA:Hid (∀W,Fr No w12 W→W.heap[b7]? =some (.cells (X1.cells (.slice ea el ec) (.slice ma ml mc)) 29 (0,0))):=lH (fun W f=>f.block_of K8'.out id);have KB:Hid (∀W,Fr No w12 W→W.heap[b10]? =some (.cells (X2.cells (.slice ea2 el2 ec2) (.slice ma2 ml2 mc2)) 29 (0,0))):=lH (fun W f=>f.block_of K11'.out id);unfold RepS.cells at HSD1 HSD2 HSR KA KB;clear HON RPA RPB K8' K11' SL12;go_upto_region 16 with fail
      go_cut [82] (fun u wc=>u=.bool false∧Hid (Fr No w12 wc))
      case first=>
       by_cases he:X1.e=17
       ·have qe:(X1.e !=17)=false:=by rw [he];rfl
        refine wp_region_text mixed (fun W=>Fr No w12 W) [16] (by kernel_rfl) (by kernel_rfl) (by kernel_rfl) (by kernel_rfl) (fun _ _ d _ _ h=>by cases d<;>exact h) (Fr.refl _).drew ?_;repeat (first
         | refine seqX_skip (by rfl) ?_
         | (refine seqX_val (v:= ?_) (by rfl) (by rfl) ?_ ?_
            rotate_left 1
            (intro W;go_simp;(try with_reducible rfl))
            simp only [Act.put,lsA,lsZ,lsS])
         | (refine seqX_no (by rfl) (by rfl) ?_
            simp only [Act.put,lsA,lsZ,lsS])
         | (refine seqX_call (v:=.bool true) 28 #[v9,v12] (by rfl) (by kernel_rfl) (by rfl) ?_ (fun W hS=>HSA.out W hS) ?_
            focus (intro W;go_simp;done)
            simp only [Act.put,lsA,lsZ,lsS])
         | (refine seqX_valS (v:= ?_) (by rfl) (by kernel_rfl) (by rfl) ?_ ?_
            rotate_left 1
            (intro W hS;have a0:W.cell? ⟨b7,0,none⟩=some (.int .i64 X1.e):=(cell_at (KA.out W hS) 0);clear hS;go_simp;(try with_reducible rfl))
            simp only [Act.put,lsA,lsZ,lsS]))
        intro w13 hS;have HF13:=lH hS;simp only [List.reverse_cons,List.reverse_nil,List.nil_append,List.cons_append];go_wp2_with fail;go_meet;exact ⟨rfl,HF13⟩
       ·have qe:(X1.e !=17)=true:=by simpa using he
        have HSR2:=lH (HSR.out he);clear he HSR;refine wp_region_text mixed (fun W=>Fr No w12 W) [16] (by kernel_rfl) (by kernel_rfl) (by kernel_rfl) (by kernel_rfl) (fun _ _ d _ _ h=>by cases d<;>exact h) (Fr.refl _).drew ?_;repeat (first
         | refine seqX_skip (by rfl) ?_
         | (refine seqX_val (v:= ?_) (by rfl) (by rfl) ?_ ?_
            rotate_left 1
            (intro W;go_simp;(try with_reducible rfl))
            simp only [Act.put,lsA,lsZ,lsS])
         | (refine seqX_no (by rfl) (by rfl) ?_
            simp only [Act.put,lsA,lsZ,lsS])
         | (refine seqX_call (v:=.bool true) 28 #[v9,v12] (by rfl) (by kernel_rfl) (by rfl) ?_ (fun W hS=>HSA.out W hS) ?_
            focus (intro W;go_simp;done)
            simp only [Act.put,lsA,lsZ,lsS])
         | (refine seqX_call (v:=.agg #[.int .i64 X1.e,.int .i64 X1.ino,.int .i64 X1.size,.int .i64 X1.handle,.int .i64 X1.swaps,.bool X1.dir,.slice ea el ec,.slice ma ml mc]) 43 #[.agg #[.int .i64 X1.e,.int .i64 X1.ino,.int .i64 X1.size,.int .i64 X1.handle,.int .i64 X1.swaps,.bool X1.dir,.slice ea el ec,.slice ma ml mc]] (by rfl) (by kernel_rfl) (by rfl) ?_ (fun W hS=>HSD1.out W hS) ?_
            focus (intro W;go_simp;done)
            simp only [Act.put,lsA,lsZ,lsS])
         | (refine seqX_call (v:=.agg #[.int .i64 X2.e,.int .i64 X2.ino,.int .i64 X2.size,.int .i64 X2.handle,.int .i64 X2.swaps,.bool X2.dir,.slice ea2 el2 ec2,.slice ma2 ml2 mc2]) 43 #[.agg #[.int .i64 X2.e,.int .i64 X2.ino,.int .i64 X2.size,.int .i64 X2.handle,.int .i64 X2.swaps,.bool X2.dir,.slice ea2 el2 ec2,.slice ma2 ml2 mc2]] (by rfl) (by kernel_rfl) (by rfl) ?_ (fun W hS=>HSD2.out W hS) ?_
            focus (intro W;go_simp;done)
            simp only [Act.put,lsA,lsZ,lsS])
         | (refine seqX_call (v:=.bool true) 42 #[.agg #[.int .i64 X1.e,.int .i64 X1.ino,.int .i64 X1.size,.int .i64 X1.handle,.int .i64 X1.swaps,.bool X1.dir,.slice ea el ec,.slice ma ml mc],.agg #[.int .i64 X2.e,.int .i64 X2.ino,.int .i64 X2.size,.int .i64 X2.handle,.int .i64 X2.swaps,.bool X2.dir,.slice ea2 el2 ec2,.slice ma2 ml2 mc2]] (by rfl) (by kernel_rfl) (by rfl) ?_ (fun W hS=>HSR2.out W hS) ?_
            focus (intro W;go_simp;done)
            simp only [Act.put,lsA,lsZ,lsS])
         | (refine seqX_valS (v:= ?_) (by rfl) (by kernel_rfl) (by rfl) ?_ ?_
            rotate_left 1
            (intro W hS;have a0:W.cell? ⟨b7,0,none⟩=some (.int .i64 X1.e):=(cell_at (KA.out W hS) 0);have a1:W.cell? ⟨b7,1,none⟩=some (.int .i64 X1.ino):=(cell_at (KA.out W hS) 1);have a2:W.cell? ⟨b7,2,none⟩=some (.int .i64 X1.size):=(cell_at (KA.out W hS) 2);have a3:W.cell? ⟨b7,3,none⟩=some (.int .i64 X1.handle):=(cell_at (KA.out W hS) 3);have a4:W.cell? ⟨b7,4,none⟩=some (.int .i64 X1.swaps):=(cell_at (KA.out W hS) 4);have a5:W.cell? ⟨b7,5,none⟩=some (.bool X1.dir):=(cell_at (KA.out W hS) 5);have a6:W.cell? ⟨b7,6,none⟩=some (.slice ea el ec):=(cell_at (KA.out W hS) 6);have a7:W.cell? ⟨b7,7,none⟩=some (.slice ma ml mc):=(cell_at (KA.out W hS) 7);have d0:W.cell? ⟨b10,0,none⟩=some (.int .i64 X2.e):=(cell_at (KB.out W hS) 0);have d1:W.cell? ⟨b10,1,none⟩=some (.int .i64 X2.ino):=(cell_at (KB.out W hS) 1);have d2:W.cell? ⟨b10,2,none⟩=some (.int .i64 X2.size):=(cell_at (KB.out W hS) 2);have d3:W.cell? ⟨b10,3,none⟩=some (.int .i64 X2.handle):=(cell_at (KB.out W hS) 3);have d4:W.cell? ⟨b10,4,none⟩=some (.int .i64 X2.swaps):=(cell_at (KB.out W hS) 4);have d5:W.cell? ⟨b10,5,none⟩=some (.bool X2.dir):=(cell_at (KB.out W hS) 5);have d6:W.cell? ⟨b10,6,none⟩=some (.slice ea2 el2 ec2):=(cell_at (KB.out W hS) 6);have d7:W.cell? ⟨b10,7,none⟩=some (.slice ma2 ml2 mc2):=(cell_at (KB.out W hS) 7);clear hS;go_simp;(try with_reducible rfl))
            simp only [Act.put,lsA,lsZ,lsS]))
        intro w13 hS;have HF13:=lH hS;simp only [List.reverse_cons,List.reverse_nil,List.nil_append,List.cons_append];go_wp2_with fail;go_meet;exact ⟨rfl,HF13⟩
      case rest=>
       obtain ⟨rfl,hcut⟩:=hcut;obtain ⟨w13,rfl⟩:∃w13:World,w13=wc:=⟨_,rfl⟩
       have F13:=lH (F12.out.trans hcut.out (fun _ _ e=>e));have SL13:=lH (SLA.out.no hcut.out);clear hcut HSA HSD1 HSD2 HSR KA KB SLA;have HLN:Hid (∀W,Fr No w8 W→LiesM w4 o4 L (3*(i+1)) W):=lH (fun W f=>by
        have s:Step (fun _=>False) w8 o7 W o7:=Step.no SW8.out.fresh f;refine ⟨j+1,by omega,o7,S1,SW8.out.trans s (fun _ e=>e.elim),?_,?_,P7.out⟩
        ·have:=T8.out.no I7.out.ok SW8.out.fresh f;rwa [show 100*j+100=100*(j+1) by omega] at this
        ·have:=I7.out;rwa [show 2*j+2=2*(j+1) by omega] at this)
       by_cases hiA:i<A.length
       ·have q4:(i:Int)<(A.length:Int):=by omega
        have S13:=lH (SW8.out.trans (Step.no (C:=fun _=>False) SW8.out.fresh F13.out) (fun _ e=>e.elim));have hneA:A≠ []:=by
         intro e;subst e;simp at hiA
        obtain ⟨bA,offA,hbA,_,_,hrowsA⟩:=(H24.out.step S13.out NOS.out).at hneA;subst hbA;have ra:=hrowsA i A[i] (List.getElem?_eq_getElem hiA);generalize A[i]=a at*;have y0:w13.cell? ⟨bA,offA+i,none⟩=some (.int .u8 a.toNat):=by
         have:=ra 0 _ rfl;simpa using this
        obtain ⟨m,hm,hmr⟩:∃m:Nat,m<i+1∧(a.toNat:Int) % ((i:Int)+1)=(m:Int):=⟨a.toNat % (i+1),Nat.mod_lt _ (Nat.succ_pos _),by rw [show ((i:Int)+1)=((i+1:Nat):Int) by omega];first|rfl|exact (Int.natCast_emod _ _).symm|omega⟩
        have hmt:Int.tmod (a.toNat:Int) ((i:Int)+1)=(m:Int):=(by rw [Int.tmod_eq_emod_of_nonneg (by omega)];exact hmr)
        have ha256:a.toNat<256:=a.toNat_lt;have hml:m<L1.length:=(by omega)
        have q5:(m:Int)<(L1.length:Int):=(by omega)
        have q6:(0:Int)≤(m:Int):=(by omega)
        have q7:IntKind.i64.wrap ((i:Int)+1)=(i:Int)+1:=(by rw [IntKind.wrap_i64];omega)
        have q8:¬((i:Int)+1=0):=(by omega)
        have q9:(((i:Int)+1)==0)=false:=(by simp;omega)
        obtain ⟨b',off',hb',_,_,hrows'⟩:=(H14.out.step S13.out NOS.out).at hne;cases hb';have hrq1:=hrows' m L1[m] (List.getElem?_eq_getElem hml);obtain ⟨rv2,dv2,hr1,hr2,hr3⟩:=hrq1;have HSM2:=lH (SM1.out.2 L1[m] (List.getElem_mem hml));generalize L1[m]=y2 at*;obtain ⟨r2,st2,dl2⟩:=y2;dsimp only at hr1 hr2 hr3;unfold smallY at HSM2;dsimp only at HSM2;obtain ⟨bs2,cs2,rfl⟩:=hr2.slice;obtain ⟨bd2,cd2,rfl⟩:=hr3.slice;have HR1:=lH hr1;have HR2:=lH hr2;have HR3:=lH hr3;unfold Req.cells at HR1;have KC:=lH (new_at w13 (.cells #[.int .i64 0,.int .i64 0,.int .i64 0,.int .i64 0,.string ⟨#[]⟩,.string ⟨#[]⟩,.bool false,.bool false,.bool false,.int .i64 0,.int .i64 0,.int .i64 0,.slice none 0 0,.slice none 0 0] 41));have HOC:Hid ((#[.int .i64 r2.c,.int .i64 r2.l,.int .i64 r2.q,.int .i64 r2.kind,.string (ba r2.path),.string (ba r2.to),.bool r2.dir,.bool r2.wr,.bool r2.cl,.int .i64 r2.h,.int .i64 r2.nx,.int .i64 r2.sw,.slice bs2 st2.length cs2,.slice bd2 dl2.length cd2]:Array Value).all (·.oneCell')=true):=lH (by simp [Value.oneCell']);have KC2:=lH (setRow_at (cs':= #[.int .i64 r2.c,.int .i64 r2.l,.int .i64 r2.q,.int .i64 r2.kind,.string (ba r2.path),.string (ba r2.to),.bool r2.dir,.bool r2.wr,.bool r2.cl,.int .i64 r2.h,.int .i64 r2.nx,.int .i64 r2.sw,.slice bs2 st2.length cs2,.slice bd2 dl2.length cd2]) KC.out);have FC:Hid (Fr No w13 ((w13.alloc (.cells #[.int .i64 0,.int .i64 0,.int .i64 0,.int .i64 0,.string ⟨#[]⟩,.string ⟨#[]⟩,.bool false,.bool false,.bool false,.int .i64 0,.int .i64 0,.int .i64 0,.slice none 0 0,.slice none 0 0] 41)).setRow w13.heap.size #[.int .i64 r2.c,.int .i64 r2.l,.int .i64 r2.q,.int .i64 r2.kind,.string (ba r2.path),.string (ba r2.to),.bool r2.dir,.bool r2.wr,.bool r2.cl,.int .i64 r2.h,.int .i64 r2.nx,.int .i64 r2.sw,.slice bs2 st2.length cs2,.slice bd2 dl2.length cd2])):=lH (Fr.setRow ((Fr.refl (S:=No) w13).alloc _) (.inr (Nat.le_refl _)) _);clear hrowsA ra hrows' hr1 hr2 hr3 hneA;go_upto_region 20 with (first
         | (refine wpList_load_mid (by rfl) 41 _ (by rfl) b (off+m*14) (by rfl) [.int .i64 r2.c,.int .i64 r2.l,.int .i64 r2.q,.int .i64 r2.kind,.string (ba r2.path),.string (ba r2.to),.bool r2.dir,.bool r2.wr,.bool r2.cl,.int .i64 r2.h,.int .i64 r2.nx,.int .i64 r2.sw,.slice bs2 st2.length cs2,.slice bd2 dl2.length cd2] _ HR1.out Tryz.underlying41 rfl Tryz.size41 ?_)
         | (refine wpList_store_row rfl 41 (.tmp 13) (.tmp 97) rfl w13.heap.size #[.int .i64 r2.c,.int .i64 r2.l,.int .i64 r2.q,.int .i64 r2.kind,.string (ba r2.path),.string (ba r2.to),.bool r2.dir,.bool r2.wr,.bool r2.cl,.int .i64 r2.h,.int .i64 r2.nx,.int .i64 r2.sw,.slice bs2 st2.length cs2,.slice bd2 dl2.length cd2] rfl rfl 41 _ KC.out Tryz.size41 rfl HOC.out ?_))
        have F14:=lH (F13.out.trans FC.out (fun _ _ e=>e));have SL14:=lH (SL13.out.no FC.out);have HR24:=lH (HR2.out.no S13.out.fresh FC.out);generalize (w13.alloc (.cells #[.int .i64 0,.int .i64 0,.int .i64 0,.int .i64 0,.string ⟨#[]⟩,.string ⟨#[]⟩,.bool false,.bool false,.bool false,.int .i64 0,.int .i64 0,.int .i64 0,.slice none 0 0,.slice none 0 0] 41)).setRow w13.heap.size #[.int .i64 r2.c,.int .i64 r2.l,.int .i64 r2.q,.int .i64 r2.kind,.string (ba r2.path),.string (ba r2.to),.bool r2.dir,.bool r2.wr,.bool r2.cl,.int .i64 r2.h,.int .i64 r2.nx,.int .i64 r2.sw,.slice bs2 st2.length cs2,.slice bd2 dl2.length cd2]=w14 at*;generalize w13.heap.size=b13 at*;clear KC HOC FC HR1 HR2 HR3 y0 hmr hmt q7 q8 q9;have T14:=lH (T8.out.no I7.out.ok SW8.out.fresh F14.out);have HFS:Hid (Fresh w14 o7):=lH (fun k hk=>SW8.out.fresh k (Nat.le_trans F14.out.size hk));have c0:w14.cell? ⟨b13,0,none⟩=some (.int .i64 r2.c):=cell_at KC2.out 0;have HLF:=lH (glifeS_ o7 0 _ L S1 r2.c w14 T14.out);go_wp2_with fail;refine HLF.out.mono ?_;rintro e wz ⟨rfl,rfl⟩;have HLA:=lH (glast_ o7 0 _ L S1 r2.c wz T14.out HFS.out I7.out.lens');clear HLF;go_wp2_with fail;refine HLA.out.mono ?_;rintro e w15 hla;obtain ⟨vl,rfl,f15⟩:=last_q hla;have F15:=lH (F14.out.trans f15 (fun _ _ e=>e));have SL15:=lH (SL14.out.no f15);have K15:=lH (f15.block_of KC2.out id);have HR25:=lH (HR24.out.no HFS.out f15);generalize hlf:lifeS S1 r2.c=lf at*;generalize hlq:lastQ S1.W r2.c=lq at*;have HLFQ:Hid (r2.l<lf∨r2.l=lf∧r2.q≤lq→r2.kind<9→Quiet S1 r2):=lH (fun h hk=>quiet_again hk (by rw [hlf,hlq];exact h));have c1:w15.cell? ⟨b13,1,none⟩=some (.int .i64 r2.l):=cell_at K15.out 1;have c2:w15.cell? ⟨b13,2,none⟩=some (.int .i64 r2.q):=cell_at K15.out 2;have c3:w15.cell? ⟨b13,3,none⟩=some (.int .i64 r2.kind):=cell_at K15.out 3;clear hla f15 c0 HLA KC2 SL14 HR24 hlf hlq;go_upto_region 22 with fail
        go_cut [134] (fun u wx=>u=.bool (decide (r2.kind<9∧(r2.l<lf∨r2.l=lf∧r2.q≤lq)))∧wx=w15)
        case first=>
         by_cases k9:r2.kind<9
         ·by_cases k1:r2.l<lf
          ·have e:decide (r2.kind<9∧(r2.l<lf∨r2.l=lf∧r2.q≤lq))=true:=decide_eq_true ⟨k9,.inl k1⟩;go_wp2_with fail;go_meet;exact ⟨by rw [e],rfl⟩
          ·by_cases k2:r2.l=lf
           ·have qk2:(r2.l==lf)=true:=by simpa using k2
            by_cases k3:r2.q≤lq
            ·have e:decide (r2.kind<9∧(r2.l<lf∨r2.l=lf∧r2.q≤lq))=true:=decide_eq_true ⟨k9,.inr ⟨k2,k3⟩⟩;clear k2;go_wp2_with fail;go_meet;exact ⟨by rw [e],rfl⟩
            ·have e:decide (r2.kind<9∧(r2.l<lf∨r2.l=lf∧r2.q≤lq))=false:=decide_eq_false (by rintro ⟨_,h|h⟩<;>omega);clear k2;go_wp2_with fail;go_meet;exact ⟨by rw [e],rfl⟩
           ·have e:decide (r2.kind<9∧(r2.l<lf∨r2.l=lf∧r2.q≤lq))=false:=decide_eq_false (by rintro ⟨_,h|h⟩<;>omega);have qk2:(r2.l==lf)=false:=(by simpa using k2)
            clear k2;go_wp2_with fail;go_meet;exact ⟨by rw [e],rfl⟩
         ·have e:decide (r2.kind<9∧(r2.l<lf∨r2.l=lf∧r2.q≤lq))=false:=decide_eq_false (fun h=>k9 h.1);go_wp2_with fail;go_meet;exact ⟨by rw [e],rfl⟩
        case rest=>
         obtain ⟨rfl,rfl⟩:=hcut;obtain ⟨w15,rfl⟩:∃w15:World,w15=wc:=⟨_,rfl⟩
         cases hdc:decide (r2.kind<9∧(r2.l<lf∨r2.l=lf∧r2.q≤lq)) with
         | false=>
          have L8:=lH (HLN.out _ F15.out);clear hdc;go_wp2_with fail;go_roundw
          case rel=>exact ⟨i+1,by go_num,hlt,L8⟩
          case measure=>simp [intOf];omega
         | true=>
          have hdc:=of_decide_eq_true hdc;have HQT:=lH (HLFQ.out hdc.2 hdc.1);have HK9:=lH hdc.1;have HRQ:=lH (grequest_ o7 r2 (.slice bs2 st2.length cs2) (.slice bd2 dl2.length cd2) st2 w15 (Step.no (C:=fun _=>False) SW8.out.fresh F15.out).fresh HR25.out ⟨_,_,_,rfl⟩ (by have:=HSM2.out.2.2.1;omega));unfold ReqPost Req.cells at HRQ;clear hdc;go_wp2_with (refine wpList_load_row rfl 41 (.tmp 13) rfl b13 rfl 41 _ (0,0) _ K15.out Tryz.underlying41 rfl Tryz.size41 ?_);refine HRQ.out.mono ?_;rintro e wq ⟨rv3,rfl,hrq,fq⟩;have FQ:=lH (F15.out.trans fq (fun _ _ e=>e));have SLq:=lH (SL15.out.no fq);have HW:=lH (wentQ o7 0 _ _ L S1 r2 rv3 (.slice bd2 dl2.length cd2) st2 dl2 wq (T8.out.no I7.out.ok SW8.out.fresh FQ.out) I7.out (Step.no (C:=fun _=>False) SW8.out.fresh FQ.out).fresh HQT.out);unfold Req.cells at HW;clear hrq fq HRQ SL15;go_wp2_with fail;refine HW.out.mono ?_;rintro e w16 ⟨x3,ev3,mv3,rfl,_,_,_,_,_,f16⟩;have F16:=lH (FQ.out.trans f16 (fun _ _ e=>e));have SL16:=lH (SLq.out.no f16);have HEN:=lH (gencodeS_ o7 0 _ L S1 w16 (T8.out.no I7.out.ok SW8.out.fresh F16.out) I7.out.ok (Step.no (C:=fun _=>False) SW8.out.fresh F16.out).fresh (by omega) I7.out.lens');unfold EncPost at HEN;clear f16 HW FQ SLq;go_wp2_with fail;refine HEN.out.mono ?_;rintro e w17 ⟨v17,ss3,stp3,rfl,sl17,f17,hl17,_⟩;obtain rfl:=stp3.same' STP.out;have HS3:=lH (same_self v9 v17 _ w17 (SL16.out.no f17) sl17 (by have:=HL9.out;omega));have F17:=lH (F16.out.trans f17 (fun _ _ e=>e));clear stp3 sl17 f17 hl17 HEN;go_wp2_with fail;refine HS3.out.mono ?_;rintro e w18 ⟨rfl,f18⟩;have L8:=lH (HLN.out _ (F17.out.trans f18 (fun _ _ e=>e)));go_wp2_with fail;go_roundw
          case rel=>exact ⟨i+1,by go_num,hlt,L8⟩
          case measure=>simp [intOf];omega
       ·have q4:¬(i:Int)<(A.length:Int):=by omega
        have L8:=lH (HLN.out _ F13.out);go_wp2_with fail;go_roundw
        case rel=>exact ⟨i+1,by go_num,hlt,L8⟩
        case measure=>simp [intOf];omega
    ·have q1:¬(i:Int)<(L1.length:Int):=by omega
     have FB:Hid (Fr No w wr):=lH (by
      obtain ⟨_,_,hl⟩:=HLI.out;exact hl.fr F4.out HLE.out)
     go_wp2_with fail;exact HQ.out _ FB.out
end Go.Proofs.YtlcojhddnpmgmaaGreat
