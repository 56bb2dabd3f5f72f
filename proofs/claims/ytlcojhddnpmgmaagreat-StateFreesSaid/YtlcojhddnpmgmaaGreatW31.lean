/- Part of the proof; the last text says what is proved. -/
import Derived.Test.YtlcojhddnpmgmaaGreatW12
import Derived.Test.YtlcojhddnpmgmaaGreatW26
import Derived.Test.YtlcojhddnpmgmaaGreatW27
set_option linter.unusedSimpArgs false
set_option linter.unusedVariables false
set_option maxRecDepth 100000
set_option maxHeartbeats 25600000
namespace Go.Proofs.YtlcojhddnpmgmaaGreat
open Go.RowKit
theorem apply_nil (d:Dl) (w:World):Calls Tryz.prog 96 #[.pointer none,dlV d] w fun e w'=>(∃v b,e=.returned (.tuple #[v,.bool b]))∧Fr No w w':=by
 have F0:=lH ((Fr.refl (S:=No) w).alloc (.cells (dlC d).toArray 61));unfold dlC at F0;unfold dlV;generalize hQ:(fun (e:Ending) (w':World)=>(∃v b,e=.returned (.tuple #[v,.bool b]))∧Fr No w w')=Q;have HR2:Hid (∀e w',(∃v b,e=.returned (.tuple #[v,.bool b]))→Fr No w w'→Q e w'):=lH (fun e w' he f=>by rw [← hQ];exact ⟨he,f⟩);clear hQ;go_enter Tryz.func96,Tryz.ntmps96;go_wp2_with fail;exact HR2.out _ _ ⟨_,_,rfl⟩ F0.out
def filesC (K c:Nat):Prop:=∃i,i≤128∧fileC K i c
theorem FilesAt.nothing {w:World} {o:Nat→Nat} {K fl n:Nat} {F:Nat→Option FMap} (h:FilesAt w o K fl n F) {i:Nat} (hi:i≤128) (hF:F i=none):
  ∀w',Fr No w w'→(Instr.lookup 100 (.map (some fl)) (.int .i64 i) false).run Tryz.prog w'=.ok (.pointer none) w':=fun w' f=>by
 obtain ⟨fp,hlk,_⟩:=h.look i (by omega);have:=hlk w' f;unfold fileV at this;rw [hF] at this;exact this
theorem dmoved_ (o:Nat→Nat) (K n:Nat) (L:Plc) (S:St) (r:Req) (rv dv:Value) (st:List Sz) (dl:List Dl) (w:World) (h:StateAt w o K L S n) (ok:StOk S) (pts:PtsOk S.F) (hf:Fresh w o) (hr:RowsAt szC 4 w o rv st) (hd:RowsAt dlC 14 w o dv dl) (hg:∀x∈st,stpGood x.1) (hclk:0≤S.clock∧S.clock≤1000000) (hls:st.length≤1000) (hld:dl.length≤1000) (hn:n≤900000):
  Calls Tryz.prog 52 #[.pointer (some ⟨L.s,0,none⟩),.agg (r.cells rv dv)] w (Deed w o K L (n+st.length) (movedD S r st dl)):=by
 have mixed:Tryz.prog.follows .mixedOrders=true:=by kernel_rfl
 obtain ⟨bs,cs,rfl⟩:=hr.slice;obtain ⟨bd,cd,rfl⟩:=hd.slice;obtain ⟨f0,k0,k1,H0,G0⟩:=begun h ok hf r (.slice bs st.length cs) (.slice bd dl.length cd);have F0:=lH f0;have RS:=lH (hr.no hf f0);have RD:=lH (hd.no hf f0);have HST:Hid (∀w',Fr No (deedW w r (.slice bs st.length cs) (.slice bd dl.length cd)) w'→Calls Tryz.prog 92 #[.pointer (some ⟨L.s,0,none⟩),.agg (r.cells (.slice bs st.length cs) (.slice bd dl.length cd)),.int .i64 4,.int .i64 S.boots] w' (StrPost w' st.length (stripesE S r.sw r.nx st 4 S.boots))):=
  lH (fun w' f=>stripes_ o K n L S r _ _ st 4 S.boots w' (H0.no ok G0 f) ok (Step.no (C:=fun _=>False) G0 f).fresh (RS.out.no G0 f) hg (by omega) (by omega))
 have HADD:Hid (∀w',Fr No (deedW w r (.slice bs st.length cs) (.slice bd dl.length cd)) w'→Calls Tryz.prog 95 #[.pointer (some ⟨L.s,0,none⟩),.agg (r.cells (.slice bs st.length cs) (.slice bd dl.length cd)),.int .i64 4] (w'.setCell ⟨L.s,2,none⟩ (.int .i64 (S.clock+1))) (AddPost (w'.setCell ⟨L.s,2,none⟩ (.int .i64 (S.clock+1))) o K L (n+st.length) (addS {S with clock:=S.clock+1} st 4 r.nx))):=
  lH (fun w' f=>by
   obtain ⟨s2,t2⟩:=(H0.no ok G0 f).set (S':={S with clock:=S.clock+1}) ok (Step.no (C:=fun _=>False) G0 f).fresh 2 (.int .i64 (S.clock+1)) (by simp [stC]) rfl rfl rfl rfl rfl;exact add_ o K n L {S with clock:=S.clock+1} r _ _ st 4 _ t2 ⟨ok.tree,ok.file⟩ s2.fresh ((RS.out.no G0 f).step s2 (by omega)) hg (by omega) (by omega) (by omega))
 have HSM:Hid (∀y e,(stripesE S r.sw r.nx st 4 S.boots).2 y=some e→1≤e∧e≤6000):=lH (stripes_small S r.sw r.nx st 4 S.boots);have HR:Hid (∀c,c≠0→movedD S r st dl=(c,noRep,S)→∀e w',e=.panicked (refC c)→Fr No w w'→Deed w o K L (n+st.length) (movedD S r st dl) e w'):=lH (fun c hne hE e w' he f=>by
  rw [hE];exact Deed.no (h.more (Nat.le_add_right _ _)) ok hf hne he f)
 have HQ:Hid (∀S',movedD S r st dl=(0,plainRep 0 0 0 0 0 false,S')→StOk S'→∀e w' w'' w3 o',e=.returned (plainV 0 0 0 0 0 false)→Fr No w w'→w.heap.size+1<w'.heap.size→Step (stateC K) w' o w'' o'→StateAt w'' o' K L S' (n+st.length)→Fr (fun j=>j=w.heap.size+1) w'' w3→Deed w o K L (n+st.length) (movedD S r st dl) e w3):=lH (fun S' hE ok' e w' w'' w3 o' he f hs s t g=>by
  rw [hE];exact Deed.yes hf f s (fun _ e=>e) (by omega) hs g ok' t he (RepAt.plain _ _ _ _ _ _ _))
 have hCD:movedD S r st dl=if ¬(r.c=4∧r.l=S.boots) then (17,noRep,S)
   else if (stripesE S r.sw r.nx st 4 S.boots).1≠0 then ((stripesE S r.sw r.nx st 4 S.boots).1,noRep,S)
   else if ¬(∀d∈dl,mvOk (stripesE S r.sw r.nx st 4 S.boots).2 d) then (4,noRep,S)
   else (0,plainRep 0 0 0 0 0 false,movedS S st dl r.nx):=rfl
 generalize movedD S r st dl=CD at*;generalize hQQ:Deed w o K L (n+st.length) CD=Q at*;clear hQQ;generalize hE0:stripesE S r.sw r.nx st 4 S.boots=E at*;clear hE0;have HC1:Hid (¬(r.c=4∧r.l=S.boots)→CD=(17,noRep,S)):=lH (fun h1=>by rw [hCD,if_pos h1]);have HC2:Hid (r.c=4∧r.l=S.boots→E.1≠0→CD=(E.1,noRep,S)):=lH (fun h1 h2=>by rw [hCD,if_neg (fun hq=>hq h1),if_pos h2]);have HC3:Hid (r.c=4∧r.l=S.boots→E.1=0→¬(∀d∈dl,mvOk E.2 d)→CD=(4,noRep,S)):=lH (fun h1 h2 h3=>by rw [hCD,if_neg (fun hq=>hq h1),if_neg (by simp [h2]),if_pos h3]);have HC4:Hid (r.c=4∧r.l=S.boots→E.1=0→(∀d∈dl,mvOk E.2 d)→CD=(0,plainRep 0 0 0 0 0 false,movedS S st dl r.nx)):=lH (fun h1 h2 h3=>by rw [hCD,if_neg (fun hq=>hq h1),if_neg (by simp [h2]),if_neg (fun hq=>hq h3)]);clear hCD;have HH:=lH H0;have HG0:=lH G0;have HOK:=lH ok;have HLS:=lH hls;have HLD:=lH hld;have HNN:=lH hn;have HPT:=lH pts;have HO0:Hid (o w.heap.size=0∧o (w.heap.size+1)=0):=lH ⟨hf _ (Nat.le_refl _),hf _ (Nat.le_succ _)⟩;have hw1:IntKind.i64.wrap (S.clock+1)=S.clock+1:=by rw [IntKind.wrap_i64];omega
 clear H0 G0 f0 h ok hf pts hr hd hg hls hld hn RS;unfold deedW Req.cells noRep RepS.cells at*;go_enter Tryz.func52,Tryz.ntmps52;go_upto_region 1 with fail
 generalize (w.alloc (.cells #[.int .i64 r.c,.int .i64 r.l,.int .i64 r.q,.int .i64 r.kind,.string (ba r.path),.string (ba r.to),.bool r.dir,.bool r.wr,.bool r.cl,.int .i64 r.h,.int .i64 r.nx,.int .i64 r.sw,.slice bs st.length cs,.slice bd dl.length cd] 36)).alloc (.cells #[.int .i64 0,.int .i64 0,.int .i64 0,.int .i64 0,.int .i64 0,.bool false,.slice none 0 0,.slice none 0 0] 29)=w0 at*;have B1:=lH (lt_of_block k1);generalize hb0:w.heap.size=b0 at*;have fz:Fr No w0 w0.drew:=(Fr.refl _).drew;have ZQ:Hid (Zero w0 o b0 (.cells #[.int .i64 r.c,.int .i64 r.l,.int .i64 r.q,.int .i64 r.kind,.string (ba r.path),.string (ba r.to),.bool r.dir,.bool r.wr,.bool r.cl,.int .i64 r.h,.int .i64 r.nx,.int .i64 r.sw,.slice bs st.length cs,.slice bd dl.length cd] 36 (0,0))):=lH ⟨k0,HO0.out.1⟩;have ZP:Hid (Zero w0 o (b0+1) (.cells #[.int .i64 0,.int .i64 0,.int .i64 0,.int .i64 0,.int .i64 0,.bool false,.slice none 0 0,.slice none 0 0] 29 (0,0))):=lH ⟨k1,HO0.out.2⟩;have C0:Hid (w0.drew.cell? ⟨L.s,0,none⟩=some (.int .i64 S.boots)):=lH (fz.cell_of (HH.out.cell 0) id);have D0:Hid (w0.drew.cell? ⟨b0,0,none⟩=some (.int .i64 r.c)):=lH (by rw [cell_at (ZQ.out.no fz).1];rfl);have D1:Hid (w0.drew.cell? ⟨b0,1,none⟩=some (.int .i64 r.l)):=lH (by rw [cell_at (ZQ.out.no fz).1];rfl);have FZ:=lH fz;clear k0 k1 fz;cases hA:(r.c==4) with
 | false=>
  have HX:Hid (CD=(17,noRep,S)):=lH (HC1.out (fun h=>by rw [h.1] at hA;simp at hA));refine wp_region_text mixed (fun W=>W=w0.drew) [14] (by kernel_rfl) (by kernel_rfl) (by kernel_rfl) (by kernel_rfl) (fun _ _ d _ _ h=>by cases d<;>exact h) rfl ?_;repeat (first
   | refine seqX_skip (by rfl) ?_
   | (refine seqX_val (v:= ?_) (by rfl) (by rfl) ?_ ?_
      rotate_left 1
      (intro W;go_simp;(try with_reducible rfl))
      simp only [Act.put,lsA,lsZ,lsS])
   | (refine seqX_no (by rfl) (by rfl) ?_
      simp only [Act.put,lsA,lsZ,lsS])
   | (refine seqX_valS (v:= ?_) (by rfl) (by kernel_rfl) (by rfl) ?_ ?_
      rotate_left 1
      (intro W hS;have e0:W.cell? ⟨b0,0,none⟩=some (.int .i64 r.c):=(by rw [hS];exact D0.out);have e1:W.cell? ⟨b0,1,none⟩=some (.int .i64 r.l):=(by rw [hS];exact D1.out);have e2:W.cell? ⟨L.s,0,none⟩=some (.int .i64 S.boots):=(by rw [hS];exact C0.out);clear hS;go_simp;(try with_reducible rfl))
      simp only [Act.put,lsA,lsZ,lsS]))
  intro W hS;obtain rfl:W=w0.drew:=hS;simp only [List.reverse_cons,List.reverse_nil,List.nil_append,List.cons_append];go_wp2_with fail;refine (must_no _ _).mono ?_;rintro e wz ⟨rfl,rfl⟩;go_wp2_with fail;exact ⟨rfl,HR.out 17 (by decide) HX.out _ _ rfl (F0.out.trans (Fr.refl (S:=No) w0).drew (fun _ _ e=>e))⟩
 | true=>
  cases hB:(r.l==S.boots) with
  | false=>
   have HX:Hid (CD=(17,noRep,S)):=lH (HC1.out (fun h=>by rw [h.2] at hB;simp at hB));refine wp_region_text mixed (fun W=>W=w0.drew) [14] (by kernel_rfl) (by kernel_rfl) (by kernel_rfl) (by kernel_rfl) (fun _ _ d _ _ h=>by cases d<;>exact h) rfl ?_;repeat (first
    | refine seqX_skip (by rfl) ?_
    | (refine seqX_val (v:= ?_) (by rfl) (by rfl) ?_ ?_
       rotate_left 1
       (intro W;go_simp;(try with_reducible rfl))
       simp only [Act.put,lsA,lsZ,lsS])
    | (refine seqX_no (by rfl) (by rfl) ?_
       simp only [Act.put,lsA,lsZ,lsS])
    | (refine seqX_valS (v:= ?_) (by rfl) (by kernel_rfl) (by rfl) ?_ ?_
       rotate_left 1
       (intro W hS;have e0:W.cell? ⟨b0,0,none⟩=some (.int .i64 r.c):=(by rw [hS];exact D0.out);have e1:W.cell? ⟨b0,1,none⟩=some (.int .i64 r.l):=(by rw [hS];exact D1.out);have e2:W.cell? ⟨L.s,0,none⟩=some (.int .i64 S.boots):=(by rw [hS];exact C0.out);clear hS;go_simp;(try with_reducible rfl))
       simp only [Act.put,lsA,lsZ,lsS]))
   intro W hS;obtain rfl:W=w0.drew:=hS;simp only [List.reverse_cons,List.reverse_nil,List.nil_append,List.cons_append];go_wp2_with fail;refine (must_no _ _).mono ?_;rintro e wz ⟨rfl,rfl⟩;go_wp2_with fail;exact ⟨rfl,HR.out 17 (by decide) HX.out _ _ rfl (F0.out.trans (Fr.refl (S:=No) w0).drew (fun _ _ e=>e))⟩
  | true=>
   have HNW:Hid (r.c=4∧r.l=S.boots):=lH ⟨by simpa using hA,by simpa using hB⟩;refine wp_region_text mixed (fun W=>W=w0.drew) [14] (by kernel_rfl) (by kernel_rfl) (by kernel_rfl) (by kernel_rfl) (fun _ _ d _ _ h=>by cases d<;>exact h) rfl ?_;repeat (first
    | refine seqX_skip (by rfl) ?_
    | (refine seqX_val (v:= ?_) (by rfl) (by rfl) ?_ ?_
       rotate_left 1
       (intro W;go_simp;(try with_reducible rfl))
       simp only [Act.put,lsA,lsZ,lsS])
    | (refine seqX_no (by rfl) (by rfl) ?_
       simp only [Act.put,lsA,lsZ,lsS])
    | (refine seqX_valS (v:= ?_) (by rfl) (by kernel_rfl) (by rfl) ?_ ?_
       rotate_left 1
       (intro W hS;have e0:W.cell? ⟨b0,0,none⟩=some (.int .i64 r.c):=(by rw [hS];exact D0.out);have e1:W.cell? ⟨b0,1,none⟩=some (.int .i64 r.l):=(by rw [hS];exact D1.out);have e2:W.cell? ⟨L.s,0,none⟩=some (.int .i64 S.boots):=(by rw [hS];exact C0.out);clear hS;go_simp;(try with_reducible rfl))
       simp only [Act.put,lsA,lsZ,lsS]))
   intro W hS;obtain rfl:W=w0.drew:=hS;simp only [List.reverse_cons,List.reverse_nil,List.nil_append,List.cons_append];go_wp2_with fail;refine (must_yes _ _).mono ?_;rintro e wz ⟨rfl,rfl⟩;go_upto_region 2 with fail
   generalize w0.drew=wa at*;have FA:=FZ;have fz:Fr No wa wa.drew:=(Fr.refl _).drew;have FAD:=lH (FA.out.trans fz (fun _ _ e=>e));have C0a:Hid (wa.drew.cell? ⟨L.s,0,none⟩=some (.int .i64 S.boots)):=lH (fz.cell_of C0.out id);have RQ:Hid (wa.drew.rangeAt b0 0 [.int .i64 r.c,.int .i64 r.l,.int .i64 r.q,.int .i64 r.kind,.string (ba r.path),.string (ba r.to),.bool r.dir,.bool r.wr,.bool r.cl,.int .i64 r.h,.int .i64 r.nx,.int .i64 r.sw,.slice bs st.length cs,.slice bd dl.length cd]):=lH (World.rangeAt_of_block (ZQ.out.no FAD.out).1 0 14);have HSC:=lH (HST.out wa.drew FAD.out);unfold StrPost at HSC;clear HST fz hA hB D0 D1 C0;refine wp_region_text mixed (fun W=>W=wa.drew) [6,7] (by kernel_rfl) (by kernel_rfl) (by kernel_rfl) (by kernel_rfl) (fun _ _ d _ _ h=>by cases d<;>exact h) rfl ?_;repeat (first
    | refine seqX_skip (by rfl) ?_
    | (refine seqX_val (v:= ?_) (by rfl) (by rfl) ?_ ?_
       rotate_left 1
       (intro W;go_simp;(try with_reducible rfl))
       simp only [Act.put,lsA,lsZ,lsS])
    | (refine seqX_no (by rfl) (by rfl) ?_
       simp only [Act.put,lsA,lsZ,lsS])
    | (refine seqX_valS (v:=.agg #[.int .i64 r.c,.int .i64 r.l,.int .i64 r.q,.int .i64 r.kind,.string (ba r.path),.string (ba r.to),.bool r.dir,.bool r.wr,.bool r.cl,.int .i64 r.h,.int .i64 r.nx,.int .i64 r.sw,.slice bs st.length cs,.slice bd dl.length cd]) (by rfl) (by kernel_rfl) (by rfl) (fun W hS=>exec_load_mid 36 (.tmp 3) (by rfl) b0 0 (by rfl) [.int .i64 r.c,.int .i64 r.l,.int .i64 r.q,.int .i64 r.kind,.string (ba r.path),.string (ba r.to),.bool r.dir,.bool r.wr,.bool r.cl,.int .i64 r.h,.int .i64 r.nx,.int .i64 r.sw,.slice bs st.length cs,.slice bd dl.length cd] _ (by rw [hS];exact RQ.out) Tryz.underlying36 rfl Tryz.size36) ?_
       simp only [Act.put,lsA,lsZ,lsS])
    | (refine seqX_valS (v:= ?_) (by rfl) (by kernel_rfl) (by rfl) ?_ ?_
       rotate_left 1
       (intro W hS;have e0:W.cell? ⟨L.s,0,none⟩=some (.int .i64 S.boots):=(by rw [hS];exact C0a.out);clear hS;go_simp;(try with_reducible rfl))
       simp only [Act.put,lsA,lsZ,lsS]))
   intro W hS;obtain rfl:W=wa.drew:=hS;simp only [List.reverse_cons,List.reverse_nil,List.nil_append,List.cons_append];go_wp2_with fail;refine HSC.out.mono ?_;rintro e wS ⟨fS,he⟩;by_cases hx0:E.1=0
   ·rw [if_pos hx0] at he;obtain ⟨mb,mc,rfl,hmp,hmb,hmc⟩:=he;have HE0:=lH hx0;have HMPT:=lH hmp;have FS:=lH (FAD.out.trans fS (fun _ _ e=>e));have ZQs:=lH (ZQ.out.no FS.out);have s13:wS.cell? ⟨b0,13,none⟩=some (.slice bd dl.length cd):=(by rw [cell_at ZQs.out.1];rfl)
    clear hx0 hmp hmb hmc fS HSC;go_wp2_with fail;go_loopw [35] (fun a wr=>∃j:Nat,a=.int .i64 j∧j≤dl.length∧Hid (∀d∈dl.take j,mvOk E.2 d)∧Hid (Fr No wS wr)) (fun a _=>dl.length - (intOf a).toNat)
    case atStart=>exact ⟨0,rfl,Nat.zero_le _,lH (by simp),lH (Fr.refl _)⟩
    case round=>
     obtain ⟨j,rfl,hj,HDJ,HF⟩:=hrel;have FW:=lH (FS.out.trans HF.out (fun _ _ e=>e));by_cases hlt:j<dl.length
     ·have hne:dl≠ []:=by
       intro e;subst e;simp at hlt
      obtain ⟨b,off,rfl,ho,hbl,hrows⟩:=(RD.out.no HG0.out FW.out).at hne;have HRR:=lH (hrows j dl[j] (List.getElem?_eq_getElem hlt));have HDX:Hid (mvOk E.2 dl[j]→∀z∈dl.take (j+1),mvOk E.2 z):=lH (fun hd z hz=>by
       rw [List.take_add_one,List.getElem?_eq_getElem hlt,Option.toList_some] at hz;rcases List.mem_append.1 hz with hz|hz
       ·exact HDJ.out z hz
       ·rw [List.mem_singleton.1 hz];exact hd)
      have HDN:Hid (¬mvOk E.2 dl[j]→CD=(4,noRep,S)):=lH (fun hn=>HC3.out HNW.out HE0.out (fun h=>hn (h _ (List.getElem_mem hlt))));have q1:(j:Int)<(dl.length:Int):=(by omega)
      have q3:(0:Int)≤(j:Int):=(by omega)
      have hbig:dl.length≤1000:=HLD.out;generalize dl[j]=d at*;unfold dlC at HRR;have FX:=lH ((Fr.refl (S:=No) wr).alloc (.cells #[.int .i64 d.k,.int .i64 d.i,.int .i64 d.b,.int .i64 d.s,.int .i64 d.t.c,.int .i64 d.t.l,.int .i64 d.t.n,.int .i64 d.t.a,.int .i64 d.t.z,.int .i64 d.o.c,.int .i64 d.o.l,.int .i64 d.o.n,.int .i64 d.o.a,.int .i64 d.o.z] 61));have KX:=lH (new_at wr (.cells #[.int .i64 d.k,.int .i64 d.i,.int .i64 d.b,.int .i64 d.s,.int .i64 d.t.c,.int .i64 d.t.l,.int .i64 d.t.n,.int .i64 d.t.a,.int .i64 d.t.z,.int .i64 d.o.c,.int .i64 d.o.l,.int .i64 d.o.n,.int .i64 d.o.a,.int .i64 d.o.z] 61));clear hrows ho hbl s13;go_upto_region 6 with (refine wpList_load_mid (by rfl) 61 _ (by rfl) b (off+j*14) (by rfl) [.int .i64 d.k,.int .i64 d.i,.int .i64 d.b,.int .i64 d.s,.int .i64 d.t.c,.int .i64 d.t.l,.int .i64 d.t.n,.int .i64 d.t.a,.int .i64 d.t.z,.int .i64 d.o.c,.int .i64 d.o.l,.int .i64 d.o.n,.int .i64 d.o.a,.int .i64 d.o.z] _ HRR.out Tryz.underlying61 rfl Tryz.size61 ?_)
      generalize wr.alloc (.cells #[.int .i64 d.k,.int .i64 d.i,.int .i64 d.b,.int .i64 d.s,.int .i64 d.t.c,.int .i64 d.t.l,.int .i64 d.t.n,.int .i64 d.t.a,.int .i64 d.t.z,.int .i64 d.o.c,.int .i64 d.o.l,.int .i64 d.o.n,.int .i64 d.o.a,.int .i64 d.o.z] 61)=wX at*;generalize wr.heap.size=tX at*;have HDM:=lH (dmay_ d wX);unfold DMayPost dlV at HDM;cases hm1:decide (mayDl d) with
      | false=>
       rw [hm1] at HDM;have HX:=lH (HDN.out (fun h=>by rw [decide_eq_false_iff_not] at hm1;exact hm1 h.1));clear hm1;go_wp2_with (refine wpList_load_row rfl 61 (.tmp 7) rfl tX rfl 61 _ (0,0) _ KX.out Tryz.underlying61 rfl Tryz.size61 ?_);refine HDM.out.mono ?_;rintro e w3 ⟨rfl,f3⟩;have F3:=lH (FX.out.trans f3 (fun _ _ e=>e));have k3:=f3.block_of KX.out id;have p0:w3.cell? ⟨tX,0,none⟩=some (.int .i64 d.k):=(by rw [cell_at k3];rfl)
       have p4:w3.cell? ⟨tX,4,none⟩=some (.int .i64 d.t.c):=(by rw [cell_at k3];rfl)
       have p5:w3.cell? ⟨tX,5,none⟩=some (.int .i64 d.t.l):=(by rw [cell_at k3];rfl)
       have p6:w3.cell? ⟨tX,6,none⟩=some (.int .i64 d.t.n):=(by rw [cell_at k3];rfl)
       have p7:w3.cell? ⟨tX,7,none⟩=some (.int .i64 d.t.a):=(by rw [cell_at k3];rfl)
       have p8:w3.cell? ⟨tX,8,none⟩=some (.int .i64 d.t.z):=(by rw [cell_at k3];rfl)
       clear k3 f3;go_wp2_with fail;refine (must_no _ _).mono ?_;rintro e wz ⟨rfl,rfl⟩;go_wp2_with fail;exact ⟨rfl,HR.out 4 (by decide) HX.out _ _ rfl (F0.out.trans (FW.out.trans F3.out (fun _ _ e=>e)) (fun _ _ e=>e))⟩
      | true=>
       rw [hm1] at HDM;have HMD:Hid (mayDl d):=lH (of_decide_eq_true hm1);have HPT3:Hid (mayPt d.t):=lH HMD.out.2.2.2.2.2.2.1;clear hm1;cases h2:(d.k==3) with
       | false=>
        have HX:=lH (HDN.out (fun h=>by rw [h.2.1] at h2;simp at h2));go_wp2_with (refine wpList_load_row rfl 61 (.tmp 7) rfl tX rfl 61 _ (0,0) _ KX.out Tryz.underlying61 rfl Tryz.size61 ?_);refine HDM.out.mono ?_;rintro e w3 ⟨rfl,f3⟩;have F3:=lH (FX.out.trans f3 (fun _ _ e=>e));have k3:=f3.block_of KX.out id;have p0:w3.cell? ⟨tX,0,none⟩=some (.int .i64 d.k):=(by rw [cell_at k3];rfl)
        have p4:w3.cell? ⟨tX,4,none⟩=some (.int .i64 d.t.c):=(by rw [cell_at k3];rfl)
        have p5:w3.cell? ⟨tX,5,none⟩=some (.int .i64 d.t.l):=(by rw [cell_at k3];rfl)
        have p6:w3.cell? ⟨tX,6,none⟩=some (.int .i64 d.t.n):=(by rw [cell_at k3];rfl)
        have p7:w3.cell? ⟨tX,7,none⟩=some (.int .i64 d.t.a):=(by rw [cell_at k3];rfl)
        have p8:w3.cell? ⟨tX,8,none⟩=some (.int .i64 d.t.z):=(by rw [cell_at k3];rfl)
        clear k3 f3;go_wp2_with fail;refine (must_no _ _).mono ?_;rintro e wz ⟨rfl,rfl⟩;go_wp2_with fail;exact ⟨rfl,HR.out 4 (by decide) HX.out _ _ rfl (F0.out.trans (FW.out.trans F3.out (fun _ _ e=>e)) (fun _ _ e=>e))⟩
       | true=>
        have HK3:Hid (d.k=3):=lH (by simpa using h2);cases h4:insideOf E.2 d.t with
        | true=>
         have HDO:Hid (mvOk E.2 d):=lH ⟨HMD.out,HK3.out,h4⟩;go_wp2_with (refine wpList_load_row rfl 61 (.tmp 7) rfl tX rfl 61 _ (0,0) _ KX.out Tryz.underlying61 rfl Tryz.size61 ?_);refine HDM.out.mono ?_;rintro e w3 ⟨rfl,f3⟩;have F3:=lH (FX.out.trans f3 (fun _ _ e=>e));have k3:=f3.block_of KX.out id;have p0:w3.cell? ⟨tX,0,none⟩=some (.int .i64 d.k):=(by rw [cell_at k3];rfl)
         have p4:w3.cell? ⟨tX,4,none⟩=some (.int .i64 d.t.c):=(by rw [cell_at k3];rfl)
         have p5:w3.cell? ⟨tX,5,none⟩=some (.int .i64 d.t.l):=(by rw [cell_at k3];rfl)
         have p6:w3.cell? ⟨tX,6,none⟩=some (.int .i64 d.t.n):=(by rw [cell_at k3];rfl)
         have p7:w3.cell? ⟨tX,7,none⟩=some (.int .i64 d.t.a):=(by rw [cell_at k3];rfl)
         have p8:w3.cell? ⟨tX,8,none⟩=some (.int .i64 d.t.z):=(by rw [cell_at k3];rfl)
         have HIN:=lH (inside_ mb mc E.2 d.t w3 (HMPT.out.fr (HF.out.trans F3.out (fun _ _ e=>e)) id) (may_good HPT3.out).1 (show I64 _ by have:=(may_good HPT3.out).2;unfold I64;omega) (fun y e hy=>by have:=HSM.out y e hy;unfold I64;omega));unfold ptV at HIN;rw [h4] at HIN;have F38:=lH f3;clear k3 f3 h4;go_wp2_with fail;refine HIN.out.mono ?_;rintro e w4 ⟨rfl,f4⟩;have F4:=lH (F3.out.trans f4 (fun _ _ e=>e));have F48:=lH (F38.out.trans f4 (fun _ _ e=>e));clear f4;go_wp2_with fail;refine (must_yes _ _).mono ?_;rintro e wz ⟨rfl,rfl⟩;go_wp2_with fail;go_roundw
         case rel=>exact ⟨j+1,by go_num,hlt,lH (HDX.out HDO.out),lH (HF.out.trans (FX.out.trans F48.out (fun _ _ e=>e)) (fun _ _ e=>e))⟩
         case measure=>simp [intOf];omega
        | false=>
         have HX:=lH (HDN.out (fun h=>by rw [h.2.2] at h4;cases h4));go_wp2_with (refine wpList_load_row rfl 61 (.tmp 7) rfl tX rfl 61 _ (0,0) _ KX.out Tryz.underlying61 rfl Tryz.size61 ?_);refine HDM.out.mono ?_;rintro e w3 ⟨rfl,f3⟩;have F3:=lH (FX.out.trans f3 (fun _ _ e=>e));have k3:=f3.block_of KX.out id;have p0:w3.cell? ⟨tX,0,none⟩=some (.int .i64 d.k):=(by rw [cell_at k3];rfl)
         have p4:w3.cell? ⟨tX,4,none⟩=some (.int .i64 d.t.c):=(by rw [cell_at k3];rfl)
         have p5:w3.cell? ⟨tX,5,none⟩=some (.int .i64 d.t.l):=(by rw [cell_at k3];rfl)
         have p6:w3.cell? ⟨tX,6,none⟩=some (.int .i64 d.t.n):=(by rw [cell_at k3];rfl)
         have p7:w3.cell? ⟨tX,7,none⟩=some (.int .i64 d.t.a):=(by rw [cell_at k3];rfl)
         have p8:w3.cell? ⟨tX,8,none⟩=some (.int .i64 d.t.z):=(by rw [cell_at k3];rfl)
         have HIN:=lH (inside_ mb mc E.2 d.t w3 (HMPT.out.fr (HF.out.trans F3.out (fun _ _ e=>e)) id) (may_good HPT3.out).1 (show I64 _ by have:=(may_good HPT3.out).2;unfold I64;omega) (fun y e hy=>by have:=HSM.out y e hy;unfold I64;omega));unfold ptV at HIN;rw [h4] at HIN;have F38:=lH f3;clear k3 f3 h4;go_wp2_with fail;refine HIN.out.mono ?_;rintro e w4 ⟨rfl,f4⟩;have F4:=lH (F3.out.trans f4 (fun _ _ e=>e));have F48:=lH (F38.out.trans f4 (fun _ _ e=>e));clear f4;go_wp2_with fail;refine (must_no _ _).mono ?_;rintro e wz ⟨rfl,rfl⟩;go_wp2_with fail;exact ⟨rfl,HR.out 4 (by decide) HX.out _ _ rfl (F0.out.trans (FW.out.trans F4.out (fun _ _ e=>e)) (fun _ _ e=>e))⟩
     ·have hjl:j=dl.length:=by omega
      have HALL:Hid (∀d∈dl,mvOk E.2 d):=lH (by have:=HDJ.out;rw [hjl,List.take_length] at this;exact this);have q1:¬(j:Int)<(dl.length:Int):=(by omega)
      obtain ⟨wb,rfl⟩:∃wb:World,wb=wr:=⟨_,rfl⟩
      have HCDE:=lH (HC4.out HNW.out HE0.out HALL.out);have HA:=lH (HADD.out wb FW.out);unfold AddPost at HA;have hTB:=HH.out.no HOK.out HG0.out FW.out;have c2:wb.cell? ⟨L.s,2,none⟩=some (.int .i64 S.clock):=hTB.cell 2;have z2:wb.frozen? ⟨L.s,2,none⟩=false:=frozen_at hTB.cs 2;obtain ⟨sC,tC⟩:=hTB.set (S':={S with clock:=S.clock+1}) HOK.out (Step.no (C:=fun _=>False) HG0.out FW.out).fresh 2 (.int .i64 (S.clock+1)) (by simp [stC]) rfl rfl rfl rfl rfl;have SC:Hid (Step (stateC K) w0 o (wb.setCell ⟨L.s,2,none⟩ (.int .i64 (S.clock+1))) o):=lH (((Step.no (C:=fun _=>False) HG0.out FW.out).mono (fun _ e=>e.elim)).trans (sC.mono (fun c e=>by unfold stateC;omega)) (fun _ e=>e));have ZQb:=lH ((ZQ.out.no FW.out).step sC (by omega));have ZPb:=lH ((ZP.out.no FW.out).step sC (by omega));have RDb:=lH ((RD.out.no HG0.out FW.out).step sC (by omega));clear hjl s13 HDJ HC1 HC2 HC3 HC4 HADD hTB sC tC;go_wp2_with (refine wpList_load_row rfl 36 (.tmp 3) rfl b0 rfl 36 _ (0,0) _ ZQb.out.1 Tryz.underlying36 rfl Tryz.size36 ?_);refine HA.out.mono ?_;rintro e wA ⟨rfl,oA,sA,tA⟩;have SA:Hid (Step (stateC K) w0 o wA oA):=lH (SC.out.trans (sA.mono (fun c e=>by unfold stateC;omega)) (fun _ e=>e));have TA:=lH tA;have ZQA:=lH (ZQb.out.step sA (by omega));have ZPA:=lH (ZPb.out.step sA (by omega));have RDA:=lH (RDb.out.step sA (by omega));have OKA:Hid (StOk (addS {S with clock:=S.clock+1} st 4 r.nx)):=lH ⟨HOK.out.tree,HOK.out.file⟩;have a13:wA.cell? ⟨b0,13,none⟩=some (.slice bd dl.length cd):=(by rw [cell_at ZQA.out.1];rfl)
      have HFA:=lH sA.fresh;clear sA tA HA c2 z2;go_wp2_with fail;go_loopw [67] (fun a wr=>∃(j:Nat) (oj:Nat→Nat),a=.int .i64 j∧j≤dl.length∧Hid (Step (filesC K) wA oA wr oj)∧Hid (StateAt wr oj K L {addS {S with clock:=S.clock+1} st 4 r.nx with F:=(dl.take j).foldl appliedF S.F} (n+st.length))) (fun a _=>dl.length - (intOf a).toNat)
      case atStart=>exact ⟨0,oA,rfl,Nat.zero_le _,lH (Step.refl HFA.out),TA⟩
      case round=>
       obtain ⟨j,oj,rfl,hj,HSJ,HTJ⟩:=hrel;have n0:¬filesC K 0:=(by unfold filesC fileC;rintro ⟨i,_,h⟩;omega)
       have hmv:∀d∈dl.take j,mayDl d:=fun d hd=>(HALL.out d (List.mem_of_mem_take hd)).1;have HMJ:=lH (appliedFs_ok (dl.take j) S.F hmv HOK.out.file HPT.out);have OKJ:Hid (StOk {addS {S with clock:=S.clock+1} st 4 r.nx with F:=(dl.take j).foldl appliedF S.F}):=lH ⟨HOK.out.tree,HMJ.out.1⟩;clear hmv;by_cases hlt:j<dl.length
       ·have hne:dl≠ []:=by
         intro e;subst e;simp at hlt
        obtain ⟨b,off,rfl,ho,hbl,hrows⟩:=(RDA.out.step HSJ.out n0).at hne;have HRR:=lH (hrows j dl[j] (List.getElem?_eq_getElem hlt));have HDO:Hid (mvOk E.2 dl[j]):=lH (HALL.out _ (List.getElem_mem hlt));have HTK:Hid ((dl.take (j+1)).foldl appliedF S.F=appliedF ((dl.take j).foldl appliedF S.F) dl[j]):=lH (by
         rw [List.take_add_one,List.getElem?_eq_getElem hlt,Option.toList_some,List.foldl_append];rfl)
        have q1:(j:Int)<(dl.length:Int):=(by omega)
        have q3:(0:Int)≤(j:Int):=(by omega)
        have hbig:dl.length≤1000:=HLD.out;generalize dl[j]=d at*;unfold dlC at HRR;generalize (dl.take j).foldl appliedF S.F=Fj at*;have FX:=lH ((Fr.refl (S:=No) wr).alloc (.cells #[.int .i64 d.k,.int .i64 d.i,.int .i64 d.b,.int .i64 d.s,.int .i64 d.t.c,.int .i64 d.t.l,.int .i64 d.t.n,.int .i64 d.t.a,.int .i64 d.t.z,.int .i64 d.o.c,.int .i64 d.o.l,.int .i64 d.o.n,.int .i64 d.o.a,.int .i64 d.o.z] 61));have KX:=lH (new_at wr (.cells #[.int .i64 d.k,.int .i64 d.i,.int .i64 d.b,.int .i64 d.s,.int .i64 d.t.c,.int .i64 d.t.l,.int .i64 d.t.n,.int .i64 d.t.a,.int .i64 d.t.z,.int .i64 d.o.c,.int .i64 d.o.l,.int .i64 d.o.n,.int .i64 d.o.a,.int .i64 d.o.z] 61));clear hrows ho hbl a13 hne;go_upto_region 13 with (refine wpList_load_mid (by rfl) 61 _ (by rfl) b (off+j*14) (by rfl) [.int .i64 d.k,.int .i64 d.i,.int .i64 d.b,.int .i64 d.s,.int .i64 d.t.c,.int .i64 d.t.l,.int .i64 d.t.n,.int .i64 d.t.a,.int .i64 d.t.z,.int .i64 d.o.c,.int .i64 d.o.l,.int .i64 d.o.n,.int .i64 d.o.a,.int .i64 d.o.z] _ HRR.out Tryz.underlying61 rfl Tryz.size61 ?_)
        generalize wr.alloc (.cells #[.int .i64 d.k,.int .i64 d.i,.int .i64 d.b,.int .i64 d.s,.int .i64 d.t.c,.int .i64 d.t.l,.int .i64 d.t.n,.int .i64 d.t.a,.int .i64 d.t.z,.int .i64 d.o.c,.int .i64 d.o.l,.int .i64 d.o.n,.int .i64 d.o.a,.int .i64 d.o.z] 61)=wX at*;generalize wr.heap.size=tX at*;have FD:Fr No wr wX.drew:=FX.out.trans (Fr.refl _).drew (fun _ _ e=>e);have hfj:=HSJ.out.fresh;have STX:=HTJ.out.no OKJ.out hfj FD;have hfd:Fresh wX.drew oj:=(Step.no (C:=fun _=>False) hfj FD).fresh;have hdi:=HDO.out.1;obtain ⟨i,hi⟩:∃i:Nat,d.i=(i:Int):=⟨d.i.toNat,by have:=hdi.1;omega⟩
        have hi128:i≤128:=(by have:=hdi.2.1;omega)
        have kD:=(Fr.refl (S:=No) wX).drew.block_of KX.out id;have RX:Hid (wX.drew.rangeAt tX 0 [.int .i64 d.k,.int .i64 d.i,.int .i64 d.b,.int .i64 d.s,.int .i64 d.t.c,.int .i64 d.t.l,.int .i64 d.t.n,.int .i64 d.t.a,.int .i64 d.t.z,.int .i64 d.o.c,.int .i64 d.o.l,.int .i64 d.o.n,.int .i64 d.o.a,.int .i64 d.o.z]):=lH (World.rangeAt_of_block kD 0 14);have C11:Hid (wX.drew.cell? ⟨L.s,11,none⟩=some (.map (some L.fl))):=lH (STX.cell 11);have G2:Hid (wX.drew.cell? ⟨tX,1,none⟩=some (.int .i64 d.i)):=lH (by rw [cell_at kD];rfl);have HSTX:=lH STX;have HFD:=lH FD;have HFJ:=lH hfj;have HHI:=lH hi;cases hFi:Fj i with
        | none=>
         have HLK:Hid ((Instr.lookup 100 (.map (some L.fl)) (.int .i64 d.i) false).run Tryz.prog wX.drew=.ok (.pointer none) wX.drew):=lH (by rw [hi];exact STX.files.nothing hi128 hFi _ (Fr.refl _));have HAP:=lH (apply_nil d wX.drew);unfold dlV at HAP;have HTF:Hid (appliedF Fj d=Fj):=lH (by unfold appliedF;rw [hi,Int.toNat_natCast,hFi]);clear FD hfj STX hfd kD hdi hi hFi hi128;refine wp_region_text mixed (fun W=>W=wX.drew) [8] (by kernel_rfl) (by kernel_rfl) (by kernel_rfl) (by kernel_rfl) (fun _ _ d _ _ h=>by cases d<;>exact h) rfl ?_;repeat (first
          | refine seqX_skip (by rfl) ?_
          | (refine seqX_val (v:= ?_) (by rfl) (by rfl) ?_ ?_
             rotate_left 1
             (intro W;go_simp;(try with_reducible rfl))
             simp only [Act.put,lsA,lsZ,lsS])
          | (refine seqX_no (by rfl) (by rfl) ?_
             simp only [Act.put,lsA,lsZ,lsS])
          | (refine seqX_valS (v:=.agg #[.int .i64 d.k,.int .i64 d.i,.int .i64 d.b,.int .i64 d.s,.int .i64 d.t.c,.int .i64 d.t.l,.int .i64 d.t.n,.int .i64 d.t.a,.int .i64 d.t.z,.int .i64 d.o.c,.int .i64 d.o.l,.int .i64 d.o.n,.int .i64 d.o.a,.int .i64 d.o.z]) (by rfl) (by kernel_rfl) (by rfl) (fun W hS=>exec_load_mid 61 (.tmp 9) (by rfl) tX 0 (by rfl) [.int .i64 d.k,.int .i64 d.i,.int .i64 d.b,.int .i64 d.s,.int .i64 d.t.c,.int .i64 d.t.l,.int .i64 d.t.n,.int .i64 d.t.a,.int .i64 d.t.z,.int .i64 d.o.c,.int .i64 d.o.l,.int .i64 d.o.n,.int .i64 d.o.a,.int .i64 d.o.z] _ (by rw [hS];exact RX.out) Tryz.underlying61 rfl Tryz.size61) ?_
             simp only [Act.put,lsA,lsZ,lsS])
          | (refine seqX_valS (v:= ?_) (by rfl) (by kernel_rfl) (by rfl) ?_ ?_
             rotate_left 1
             (intro W hS;have e0:W.cell? ⟨L.s,11,none⟩=some (.map (some L.fl)):=(by rw [hS];exact C11.out);have e1:W.cell? ⟨tX,1,none⟩=some (.int .i64 d.i):=(by rw [hS];exact G2.out);have e2:(Instr.lookup 100 (.map (some L.fl)) (.int .i64 d.i) false).run Tryz.prog W=.ok (.pointer none) W:=(by rw [hS];exact HLK.out);clear hS;go_simp;(try with_reducible rfl))
             simp only [Act.put,lsA,lsZ,lsS]))
         intro W hS;obtain rfl:W=wX.drew:=hS;simp only [List.reverse_cons,List.reverse_nil,List.nil_append,List.cons_append];go_wp2_with fail;refine HAP.out.mono ?_;rintro e w5 ⟨⟨v5,b5,rfl⟩,f5⟩;have F5:=lH (HFD.out.trans f5 (fun _ _ e=>e));clear f5;go_wp2_with fail;go_roundw
         case rel=>exact ⟨j+1,oj,by go_num,hlt,lH (HSJ.out.trans ((Step.no (C:=fun _=>False) HFJ.out F5.out).mono (fun _ e=>e.elim)) (fun _ e=>e)),by rw [HTK.out,HTF.out];exact lH (HTJ.out.no OKJ.out HFJ.out F5.out)⟩
         case measure=>simp [intOf];omega
        | some mj=>
         obtain ⟨p,hlk,hfa,hback⟩:=STX.files.turn OKJ.out.file (i:=i) (m:=mj) hFi;have HLK:Hid ((Instr.lookup 100 (.map (some L.fl)) (.int .i64 d.i) false).run Tryz.prog wX.drew=.ok (.pointer (some ⟨p,0,none⟩)) wX.drew):=lH (by rw [hi];exact hlk _ (Fr.refl _));have HAP:=lH (apply_ oj K i p mj d wX.drew hfa hfd (by omega) (HMJ.out.1 i mj hFi).2.2 hdi);unfold ApplyPost GFile dlV at HAP;have HBACK:=lH hback;have HTF:Hid (appliedF Fj d=updF Fj i (some (appliedM mj d))):=lH (by unfold appliedF;rw [hi,Int.toNat_natCast,hFi]);have HI8:=lH hi128;clear FD hfj STX hfd hlk hfa hback kD hdi hi hFi hi128;refine wp_region_text mixed (fun W=>W=wX.drew) [8] (by kernel_rfl) (by kernel_rfl) (by kernel_rfl) (by kernel_rfl) (fun _ _ d _ _ h=>by cases d<;>exact h) rfl ?_;repeat (first
          | refine seqX_skip (by rfl) ?_
          | (refine seqX_val (v:= ?_) (by rfl) (by rfl) ?_ ?_
             rotate_left 1
             (intro W;go_simp;(try with_reducible rfl))
             simp only [Act.put,lsA,lsZ,lsS])
          | (refine seqX_no (by rfl) (by rfl) ?_
             simp only [Act.put,lsA,lsZ,lsS])
          | (refine seqX_valS (v:=.agg #[.int .i64 d.k,.int .i64 d.i,.int .i64 d.b,.int .i64 d.s,.int .i64 d.t.c,.int .i64 d.t.l,.int .i64 d.t.n,.int .i64 d.t.a,.int .i64 d.t.z,.int .i64 d.o.c,.int .i64 d.o.l,.int .i64 d.o.n,.int .i64 d.o.a,.int .i64 d.o.z]) (by rfl) (by kernel_rfl) (by rfl) (fun W hS=>exec_load_mid 61 (.tmp 9) (by rfl) tX 0 (by rfl) [.int .i64 d.k,.int .i64 d.i,.int .i64 d.b,.int .i64 d.s,.int .i64 d.t.c,.int .i64 d.t.l,.int .i64 d.t.n,.int .i64 d.t.a,.int .i64 d.t.z,.int .i64 d.o.c,.int .i64 d.o.l,.int .i64 d.o.n,.int .i64 d.o.a,.int .i64 d.o.z] _ (by rw [hS];exact RX.out) Tryz.underlying61 rfl Tryz.size61) ?_
             simp only [Act.put,lsA,lsZ,lsS])
          | (refine seqX_valS (v:= ?_) (by rfl) (by kernel_rfl) (by rfl) ?_ ?_
             rotate_left 1
             (intro W hS;have e0:W.cell? ⟨L.s,11,none⟩=some (.map (some L.fl)):=(by rw [hS];exact C11.out);have e1:W.cell? ⟨tX,1,none⟩=some (.int .i64 d.i):=(by rw [hS];exact G2.out);have e2:(Instr.lookup 100 (.map (some L.fl)) (.int .i64 d.i) false).run Tryz.prog W=.ok (.pointer (some ⟨p,0,none⟩)) W:=(by rw [hS];exact HLK.out);clear hS;go_simp;(try with_reducible rfl))
             simp only [Act.put,lsA,lsZ,lsS]))
         intro W hS;obtain rfl:W=wX.drew:=hS;simp only [List.reverse_cons,List.reverse_nil,List.nil_append,List.cons_append];go_wp2_with fail;refine HAP.out.mono ?_;rintro e w5 ⟨⟨v5,b5,rfl⟩,o5,s5,t5⟩;have HS5:Hid (Step (filesC K) wA oA w5 o5):=lH (HSJ.out.trans (((Step.no (C:=fun _=>False) HFJ.out HFD.out).mono (fun _ e=>e.elim)).trans (s5.mono (fun c e=>⟨i,HI8.out,e⟩)) (fun _ e=>e)) (fun _ e=>e));have HT5:Hid (StateAt w5 o5 K L {addS {S with clock:=S.clock+1} st 4 r.nx with F:=appliedF Fj d} (n+st.length)):=lH (by
          rw [HTF.out];exact HSTX.out.newFile HI8.out OKJ.out s5 (HBACK.out w5 o5 _ s5 t5))
         clear s5 t5;go_wp2_with fail;go_roundw
         case rel=>exact ⟨j+1,o5,by go_num,hlt,HS5,by rw [HTK.out];exact HT5⟩
         case measure=>simp [intOf];omega
       ·have hjl:j=dl.length:=by omega
        have q1:¬(j:Int)<(dl.length:Int):=(by omega)
        rw [hjl,List.take_length] at HMJ OKJ HTJ;obtain ⟨wq,rfl⟩:∃wq:World,wq=wr:=⟨_,rfl⟩
        have ZPq:=lH (ZPA.out.step HSJ.out n0);have SQ:Hid (Step (stateC K) w0 o wq oj):=lH (SA.out.trans (HSJ.out.mono (fun c e=>by obtain ⟨i,h1,h2⟩:=e;unfold fileC at h2;unfold stateC;omega)) (fun _ e=>e));have HCT:=lH (scount_ oj K (n+st.length) L _ wq HTJ.out OKJ.out HMJ.out.2.1 HSJ.out.fresh (by have:=HNN.out;have:=HLS.out;omega));unfold CountPost at HCT;clear hjl a13;go_wp2_with fail;refine HCT.out.mono ?_;rintro e wk ⟨rfl,ok1,sk,tk⟩;have ZPk:=lH (ZPq.out.step sk (by omega));have SK:Hid (Step (stateC K) w0 o wk ok1):=lH (SQ.out.trans (sk.mono (fun c e=>by unfold stateC;omega)) (fun _ e=>e));have TK:=lH tk;have hbd:∀w':World,(Instr.build 29 #[]).run Tryz.prog w'=.ok (.agg #[.int .i64 0,.int .i64 0,.int .i64 0,.int .i64 0,.int .i64 0,.bool false,.slice none 0 0,.slice none 0 0]) w':=fun w'=>by kernel_rfl
        have HOC:=lH (show (#[.int .i64 0,.int .i64 0,.int .i64 0,.int .i64 0,.int .i64 0,.bool false,.slice none 0 0,.slice none 0 0]:Array Value).all (·.oneCell')=true from by simp [Value.oneCell']);clear sk tk;go_wp2_with (refine wpList_store_row rfl 29 (.tmp 4) (.tmp 83) rfl (b0+1) #[.int .i64 0,.int .i64 0,.int .i64 0,.int .i64 0,.int .i64 0,.bool false,.slice none 0 0,.slice none 0 0] rfl rfl 29 _ ZPk.out.1 Tryz.size29 rfl HOC.out ?_);have KF:=setRow_at (cs':= #[.int .i64 0,.int .i64 0,.int .i64 0,.int .i64 0,.int .i64 0,.bool false,.slice none 0 0,.slice none 0 0]) ZPk.out.1;exact bodyPost_ret (v:=plainV 0 0 0 0 0 false) (results_cell_row rfl _ _ (b0+1) 29 _ (0,0) _ rfl KF Tryz.underlying29 rfl Tryz.size29) rfl
         (HQ.out _ HCDE.out ⟨OKJ.out.tree,OKJ.out.file⟩ _ w0 wk _ ok1 rfl F0.out B1.out SK.out TK.out (Fr.setRow (S:=fun j=>j=b0+1) (Fr.refl _) (.inl rfl) _))
   ·rw [if_neg hx0] at he;subst he;have HX:=lH (HC2.out HNW.out hx0);have FS:=lH (FAD.out.trans fS (fun _ _ e=>e));have HNE:=lH hx0;clear fS hx0;go_wp2_with fail;exact ⟨rfl,HR.out _ HNE.out HX.out _ _ rfl (F0.out.trans FS.out (fun _ _ e=>e))⟩
end Go.Proofs.YtlcojhddnpmgmaaGreat
