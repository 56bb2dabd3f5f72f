/- Part of the proof; the last text says what is proved. -/
import Derived.Test.YtlcojhddnpmgmaaGreatW12
import Derived.Test.YtlcojhddnpmgmaaGreatW26
import Derived.Test.YtlcojhddnpmgmaaGreatW27
set_option linter.unusedSimpArgs false
set_option linter.unusedVariables false
set_option maxRecDepth 100000
set_option maxHeartbeats 25600000
namespace Go.Proofs.YtlcojhddnpmgmaaGreat
open Go.RowKit
theorem dcommit_ (o:Nat→Nat) (K n:Nat) (L:Plc) (S:St) (r:Req) (rv dv:Value) (st:List Sz) (dl:List Dl) (w:World) (h:StateAt w o K L S n) (ok:StOk S) (fit:StFits S) (pts:PtsOk S.F) (hf:Fresh w o) (hr:RowsAt szC 4 w o rv st) (hd:RowsAt dlC 14 w o dv dl) (hg:∀x∈st,stpGood x.1) (hc:0≤r.c∧r.c<4) (hls:st.length≤1000) (hld:dl.length≤1000) (hn:n≤900000):
  Calls Tryz.prog 88 #[.pointer (some ⟨L.s,0,none⟩),.agg (r.cells rv dv)] w (Deed w o K L (n+st.length) (commitD S r st dl)):=by
 have mixed:Tryz.prog.follows .mixedOrders=true:=by kernel_rfl
 obtain ⟨bs,cs,rfl⟩:=hr.slice;obtain ⟨bd,cd,rfl⟩:=hd.slice;obtain ⟨f0,k0,k1,H0,G0⟩:=begun h ok hf r (.slice bs st.length cs) (.slice bd dl.length cd);have F0:=lH f0;have RS:=hr.no hf f0;have RD:=lH (hd.no hf f0);obtain ⟨cn,hcn⟩:∃cn:Nat,r.c=(cn:Int):=⟨r.c.toNat,by omega⟩
 have hcn4:cn<4:=by omega
 have HL:Hid (∀w',Fr No (deedW w r (.slice bs st.length cs) (.slice bd dl.length cd)) w'→Calls Tryz.prog 138 #[.pointer (some ⟨L.tk,0,none⟩),.int .i64 r.c,.int .i64 r.h] w' fun e w''=>e=.returned (.tuple #[tokV ((ofT S.K r.c r.h).getD noTok),.bool (ofT S.K r.c r.h).isSome])∧Fr No w' w''):=
  lH (fun w' f=>by
   obtain ⟨v,h1,h2⟩:=tokV_at (H0.no ok G0 f).tok;exact tof_ L.tk v S.K r.c r.h w' h1 h2)
 have HST:Hid (∀w',Fr No (deedW w r (.slice bs st.length cs) (.slice bd dl.length cd)) w'→Calls Tryz.prog 92 #[.pointer (some ⟨L.s,0,none⟩),.agg (r.cells (.slice bs st.length cs) (.slice bd dl.length cd)),.int .i64 cn,.int .i64 r.l] w' (StrPost w' st.length (stripesE S r.sw r.nx st cn r.l))):=
  lH (fun w' f=>stripes_ o K n L S r _ _ st cn r.l w' (H0.no ok G0 f) ok (Step.no (C:=fun _=>False) G0 f).fresh (RS.no G0 f) hg (by omega) (by omega))
 have HADD:Hid (∀w',Fr No (deedW w r (.slice bs st.length cs) (.slice bd dl.length cd)) w'→Calls Tryz.prog 95 #[.pointer (some ⟨L.s,0,none⟩),.agg (r.cells (.slice bs st.length cs) (.slice bd dl.length cd)),.int .i64 cn] w' (AddPost w' o K L (n+st.length) (addS S st cn r.nx))):=
  lH (fun w' f=>add_ o K n L S r _ _ st cn w' (H0.no ok G0 f) ok (Step.no (C:=fun _=>False) G0 f).fresh (RS.no G0 f) hg (by omega) (by omega) (by omega))
 have HTOK:Hid (∀x,ofT S.K r.c r.h=some x→∃i m,x.i=((i:Nat):Int)∧1≤i∧i≤128∧S.F i=some m∧MapLen m∧∀p∈m.l,mayPt p):=lH (fun x hx=>by
  obtain ⟨i,m,h1,h2,h3⟩:=fit.tok x (List.mem_of_find?_eq_some hx);have h4:=ok.file i m h3;exact ⟨i,m,h1,h4.1,h4.2.1,h3,h4.2.2,pts i m h3⟩)
 have HSM:Hid (∀y e,(stripesE S r.sw r.nx st cn r.l).2 y=some e→1≤e∧e≤6000):=lH (stripes_small S r.sw r.nx st cn r.l);have HR:Hid (∀c,c≠0→commitD S r st dl=(c,noRep,S)→∀e w',e=.panicked (refC c)→Fr No w w'→Deed w o K L (n+st.length) (commitD S r st dl) e w'):=lH (fun c hne hE e w' he f=>by
  rw [hE];exact Deed.no (h.more (Nat.le_add_right _ _)) ok hf hne he f)
 have HQ:Hid (∀i z S',commitD S r st dl=(0,plainRep 0 i z 0 0 false,S')→StOk S'→∀e w' w'' w3 o',e=.returned (plainV 0 i z 0 0 false)→Fr No w w'→w.heap.size+1<w'.heap.size→Step (stateC K) w' o w'' o'→StateAt w'' o' K L S' (n+st.length)→Fr (fun j=>j=w.heap.size+1) w'' w3→Deed w o K L (n+st.length) (commitD S r st dl) e w3):=lH (fun i z S' hE ok' e w' w'' w3 o' he f hs s t g=>by
  rw [hE];exact Deed.yes hf f s (fun _ e=>e) (by omega) hs g ok' t he (RepAt.plain _ _ _ _ _ _ _))
 have hCD:commitD S r st dl=match ofT S.K r.c r.h with
  | none=>(13,noRep,S)
  | some x=>
   if x.wr=false∧¬(dl= []∧st= []) then (10,noRep,S)
   else if (stripesE S r.sw r.nx st cn r.l).1≠0 then ((stripesE S r.sw r.nx st cn r.l).1,noRep,S)
   else if ¬(∀d∈dl,dlOk (stripesE S r.sw r.nx st cn r.l).2 x.i d) then (4,noRep,S)
   else (0,plainRep 0 x.i (dl.foldl appliedM ((S.F x.i.toNat).getD noFile)).size 0 0 false,{commitS S st dl cn r.nx x.i.toNat with K:=closedK r.cl S.K x}):=by
  unfold commitD;rw [hcn];rfl
 generalize commitD S r st dl=CD at*;generalize hQQ:Deed w o K L (n+st.length) CD=Q at*;clear hQQ;generalize hE0:stripesE S r.sw r.nx st cn r.l=E at*;clear hE0;have HX0:ofT S.K r.c r.h=ofT S.K r.c r.h:=rfl;generalize hX:ofT S.K r.c r.h=X at*;have HXE:=lH hX;clear HX0 hX;have HC0:Hid (X=none→CD=(13,noRep,S)):=lH (fun hx=>by rw [hCD,hx]);have HC1:Hid (∀x,X=some x→(x.wr=false∧¬(dl= []∧st= []))→CD=(10,noRep,S)):=lH (fun x hx h1=>by rw [hCD,hx];dsimp only;rw [if_pos h1]);have HC2:Hid (∀x,X=some x→¬(x.wr=false∧¬(dl= []∧st= []))→E.1≠0→CD=(E.1,noRep,S)):=lH (fun x hx h1 h2=>by rw [hCD,hx];dsimp only;rw [if_neg h1,if_pos h2]);have HC3:Hid (∀x,X=some x→¬(x.wr=false∧¬(dl= []∧st= []))→E.1=0→¬(∀d∈dl,dlOk E.2 x.i d)→CD=(4,noRep,S)):=lH (fun x hx h1 h2 h3=>by rw [hCD,hx];dsimp only;rw [if_neg h1,if_neg (by simp [h2]),if_pos h3]);have HC4:Hid (∀x,X=some x→¬(x.wr=false∧¬(dl= []∧st= []))→E.1=0→(∀d∈dl,dlOk E.2 x.i d)→CD=(0,plainRep 0 x.i (dl.foldl appliedM ((S.F x.i.toNat).getD noFile)).size 0 0 false,{commitS S st dl cn r.nx x.i.toNat with K:=closedK r.cl S.K x})):=lH (fun x hx h1 h2 h3=>by rw [hCD,hx];dsimp only;rw [if_neg h1,if_neg (by simp [h2]),if_neg (fun hq=>hq h3)]);clear hCD;have HH:=lH H0;have HG0:=lH G0;have HOK:=lH ok;have HLS:=lH hls;have HLD:=lH hld;have HNN:=lH hn;have HPT:=lH pts;have HO0:Hid (o w.heap.size=0∧o (w.heap.size+1)=0):=lH ⟨hf _ (Nat.le_refl _),hf _ (Nat.le_succ _)⟩;clear H0 G0 f0 h ok hf fit pts hr hd hg hls hld hn RS;unfold deedW Req.cells noRep RepS.cells at*;unfold tokV at HL;generalize r.c=rc at*;subst hcn;go_enter Tryz.func88,Tryz.ntmps88;go_wp2_with fail;generalize (w.alloc (.cells #[.int .i64 cn,.int .i64 r.l,.int .i64 r.q,.int .i64 r.kind,.string (ba r.path),.string (ba r.to),.bool r.dir,.bool r.wr,.bool r.cl,.int .i64 r.h,.int .i64 r.nx,.int .i64 r.sw,.slice bs st.length cs,.slice bd dl.length cd] 36)).alloc (.cells #[.int .i64 0,.int .i64 0,.int .i64 0,.int .i64 0,.int .i64 0,.bool false,.slice none 0 0,.slice none 0 0] 29)=w0 at*;have B1:=lH (lt_of_block k1);generalize hb0:w.heap.size=b0 at*;have c10:w0.cell? ⟨L.s,10,none⟩=some (.pointer (some ⟨L.tk,0,none⟩)):=HH.out.cell 10
 have d0:w0.cell? ⟨b0,0,none⟩=some (.int .i64 cn):=by rw [cell_at k0];rfl
 have d9:w0.cell? ⟨b0,9,none⟩=some (.int .i64 r.h):=by rw [cell_at k0];rfl
 have ZQ:Hid (Zero w0 o b0 (.cells #[.int .i64 cn,.int .i64 r.l,.int .i64 r.q,.int .i64 r.kind,.string (ba r.path),.string (ba r.to),.bool r.dir,.bool r.wr,.bool r.cl,.int .i64 r.h,.int .i64 r.nx,.int .i64 r.sw,.slice bs st.length cs,.slice bd dl.length cd] 36 (0,0))):=lH ⟨k0,HO0.out.1⟩;have ZP:Hid (Zero w0 o (b0+1) (.cells #[.int .i64 0,.int .i64 0,.int .i64 0,.int .i64 0,.int .i64 0,.bool false,.slice none 0 0,.slice none 0 0] 29 (0,0))):=lH ⟨k1,HO0.out.2⟩;clear k0 k1;refine wp_region_born mixed (bornS w0) 13 [14,15] (by kernel_rfl) (by kernel_rfl) (by kernel_rfl) (by kernel_rfl) (fun _ _ d _ _ h=>by cases d<;>exact h) ⟨(Fr.refl _).drew,.inl (by rfl)⟩ ?_;repeat (first
  | refine seqXB_skip (by rfl) ?_
  | (refine seqXB_val (v:= ?_) (by rfl) (fun a v w=>bornS_put w0 _ (by decide) a v w) (by rfl) ?_ ?_
     rotate_left 1
     (intro W;go_simp;(try with_reducible rfl))
     simp only [Act.put,lsA,lsZ,lsS])
  | (refine seqXB_valS (v:= ?_) (by rfl) (fun a v w=>bornS_put w0 _ (by decide) a v w) (by kernel_rfl) (by rfl) ?_ ?_
     rotate_left 1
     (intro W hS;obtain ⟨_,fS,_⟩:=hS;have e1:=fS.cell_of c10 id;have e2:=fS.cell_of d0 id;have e3:=fS.cell_of d9 id;go_simp;(try with_reducible rfl))
     simp only [Act.put,lsA,lsZ,lsS]))
 refine seqXB_call (v:=.tuple #[.agg #[.int .i64 (X.getD noTok).c,.int .i64 (X.getD noTok).h,.int .i64 (X.getD noTok).i,.bool (X.getD noTok).wr],.bool X.isSome]) 138 #[.pointer (some ⟨L.tk,0,none⟩),.int .i64 cn,.int .i64 r.h] (by rfl) (fun a v w=>bornS_put w0 _ (by decide) a v w) (by kernel_rfl) (by rfl) (fun W=>by go_simp) (fun w' hS=>(HL.out w' hS.choose_spec.1).mono (fun e w'' h=>⟨h.1,fun b hb=>bornS_keep h.2 b hb⟩)) ?_;simp only [Act.put,lsA,lsZ,lsS];repeat (first
  | refine seqXB_skip (by rfl) ?_
  | (refine seqXB_val (v:= ?_) (by rfl) (fun a v w=>bornS_put w0 _ (by decide) a v w) (by rfl) ?_ ?_
     rotate_left 1
     (intro W;go_simp;(try with_reducible rfl))
     simp only [Act.put,lsA,lsZ,lsS]))
 unfold seqXB;refine bornEnd_val (by rfl) (by rfl) ?_;intro W hS;refine ⟨.pointer (some ⟨W.heap.size,0,none⟩),W.alloc (.cells #[.int .i64 0,.int .i64 0,.int .i64 0,.bool false] 53),by go_simp,?_,?_⟩
 ·exact ⟨hS.1.alloc _,.inr ⟨W.heap.size,by rfl,hS.1.size,new_at W _⟩⟩
 ·intro W2 hS2;obtain ⟨f2,h2⟩:=hS2;have hk2:W2.heap[W.heap.size]? =some (.cells #[.int .i64 0,.int .i64 0,.int .i64 0,.bool false] 53 (0,0)):=by
   rcases h2 with h2|⟨g,e,_,hk⟩
   ·exact absurd (show Value.pointer (some ⟨W.heap.size,0,none⟩)=undef from h2) (by intro h;cases h)
   ·have e':Value.pointer (some ⟨W.heap.size,0,none⟩)=.pointer (some ⟨g,0,none⟩):=e;cases e';exact hk
  have KG:=lH hk2;have F2:=lH f2;have HGW:Hid (w0.heap.size≤W.heap.size):=lH hS.1.size;clear h2 hk2 f2 hS;simp only [List.filterMap_cons,List.filterMap_nil,List.getElem?_toArray,List.getElem?_cons_succ,List.getElem?_cons_zero,Act.put,lsA,lsZ,lsS];have HOC:=lH (show (#[.int .i64 (X.getD noTok).c,.int .i64 (X.getD noTok).h,.int .i64 (X.getD noTok).i,.bool (X.getD noTok).wr]:Array Value).all (·.oneCell')=true from by simp [Value.oneCell']);generalize W.heap.size=tG at*;refine wpList_store_row rfl 53 (.tmp 5) (.tmp 23) rfl tG #[.int .i64 (X.getD noTok).c,.int .i64 (X.getD noTok).h,.int .i64 (X.getD noTok).i,.bool (X.getD noTok).wr] rfl rfl 53 _ KG.out Tryz.size53 rfl HOC.out ?_;go_wp2_with fail;have K2:=setRow_at (cs':= #[.int .i64 (X.getD noTok).c,.int .i64 (X.getD noTok).h,.int .i64 (X.getD noTok).i,.bool (X.getD noTok).wr]) KG.out;have FR:Hid (Fr No w0 (W2.setRow tG #[.int .i64 (X.getD noTok).c,.int .i64 (X.getD noTok).h,.int .i64 (X.getD noTok).i,.bool (X.getD noTok).wr])):=lH (Fr.setRow F2.out (.inr HGW.out) _);have ZG:Hid (Zero (W2.setRow tG #[.int .i64 (X.getD noTok).c,.int .i64 (X.getD noTok).h,.int .i64 (X.getD noTok).i,.bool (X.getD noTok).wr]) o tG (.cells #[.int .i64 (X.getD noTok).c,.int .i64 (X.getD noTok).h,.int .i64 (X.getD noTok).i,.bool (X.getD noTok).wr] 53 (0,0))):=lH ⟨K2,HG0.out _ HGW.out⟩;clear K2 c10 d0 d9 KG F2 HOC HL;generalize W2.setRow tG #[.int .i64 (X.getD noTok).c,.int .i64 (X.getD noTok).h,.int .i64 (X.getD noTok).i,.bool (X.getD noTok).wr]=wR at*;cases X with
  | none=>
   go_wp2_with fail;refine (must_no _ _).mono ?_;rintro e w2 ⟨rfl,rfl⟩;go_wp2_with fail;exact ⟨rfl,HR.out 13 (by decide) (HC0.out trivial) _ _ rfl (F0.out.trans FR.out (fun _ _ e=>e))⟩
  | some x=>
   obtain ⟨i,m,hxi,hi1,hi2,hm,hml,hmp⟩:=HTOK.out x rfl;obtain ⟨xc,xh,xi,xw⟩:=x;dsimp only at hxi;subst hxi;dsimp only [Option.getD_some] at ZG ⊢;have HM:=lH hm;have HML:=lH hml;have HMP:=lH hmp;have HC1':Hid (xw=false∧¬(dl= []∧st= [])→CD=(10,noRep,S)):=lH (fun h=>HC1.out _ rfl h);have HC2':Hid (¬(xw=false∧¬(dl= []∧st= []))→E.1≠0→CD=(E.1,noRep,S)):=lH (fun h1 h2=>HC2.out _ rfl h1 h2);have HC3':Hid (¬(xw=false∧¬(dl= []∧st= []))→E.1=0→¬(∀d∈dl,dlOk E.2 i d)→CD=(4,noRep,S)):=lH (fun h1 h2 h3=>HC3.out _ rfl h1 h2 h3);have HC4':Hid (¬(xw=false∧¬(dl= []∧st= []))→E.1=0→(∀d∈dl,dlOk E.2 i d)→CD=(0,plainRep 0 i (dl.foldl appliedM m).size 0 0 false,{commitS S st dl cn r.nx i with K:=closedK r.cl S.K ⟨xc,xh,i,xw⟩})):=lH (fun h1 h2 h3=>by
    have:=HC4.out _ rfl h1 h2 h3;rw [Int.toNat_natCast,HM.out,Option.getD_some] at this;exact this)
   clear hm hml hmp HC0 HC1 HC2 HC3 HC4 HTOK;have cg3:wR.cell? ⟨tG,3,none⟩=some (.bool xw):=(by rw [cell_at ZG.out.1];rfl)
   go_wp2_with fail;refine (must_yes _ _).mono ?_;rintro e w2 ⟨rfl,rfl⟩;obtain ⟨wR,rfl⟩:∃wR:World,wR=w2:=⟨_,rfl⟩
   go_upto_region 3 with fail
   go_cut [] (fun wx=>Hid (Fr No wR wx)∧Hid (¬(xw=false∧¬(dl= []∧st= []))))
   case first=>
    cases xw with
    | true=>
     go_wp2_with fail;refine (must_yes _ _).mono ?_;rintro e w3 ⟨rfl,rfl⟩;go_wp2_with fail;go_meet;exact ⟨lH (Fr.refl _),lH (fun h=>by cases h.1)⟩
    | false=>
     have q12:wR.cell? ⟨b0,12,none⟩=some (.slice bs st.length cs):=(by rw [cell_at (ZQ.out.no FR.out).1];rfl)
     have q13:wR.cell? ⟨b0,13,none⟩=some (.slice bd dl.length cd):=(by rw [cell_at (ZQ.out.no FR.out).1];rfl)
     have hw:IntKind.i64.wrap ((dl.length:Int)+(st.length:Int))=(dl.length:Int)+(st.length:Int):=(by have:=HLS.out;have:=HLD.out;rw [IntKind.wrap_i64];omega)
     cases hz:(((dl.length:Int)+(st.length:Int))==0) with
     | true=>
      have HZ:Hid (dl= []∧st= []):=lH (by
       have:(dl.length:Int)+(st.length:Int)=0:=(by simpa using hz)
       exact ⟨List.length_eq_zero_iff.1 (by omega),List.length_eq_zero_iff.1 (by omega)⟩)
      go_wp2_with fail;refine (must_yes _ _).mono ?_;rintro e w3 ⟨rfl,rfl⟩;go_wp2_with fail;go_meet;exact ⟨lH (Fr.refl _),lH (fun h=>h.2 HZ.out)⟩
     | false=>
      have HX:Hid (CD=(10,noRep,S)):=lH (HC1'.out ⟨rfl,fun h=>by
       rw [h.1,h.2] at hz;simp at hz⟩)
      go_wp2_with fail;refine (must_no _ _).mono ?_;rintro e w3 ⟨rfl,rfl⟩;go_wp2_with fail;exact ⟨rfl,HR.out 10 (by decide) HX.out _ _ rfl (F0.out.trans FR.out (fun _ _ e=>e))⟩
   case rest=>
    obtain ⟨FC,HNW⟩:=hcut;obtain ⟨wa,rfl⟩:∃wa:World,wa=wc:=⟨_,rfl⟩
    have FA:=lH (FR.out.trans FC.out (fun _ _ e=>e));have ZQa:=lH (ZQ.out.no FA.out);have ZGa:=lH (ZG.out.no FC.out);have a0:wa.cell? ⟨b0,0,none⟩=some (.int .i64 cn):=(by rw [cell_at ZQa.out.1];rfl)
    have a1:wa.cell? ⟨b0,1,none⟩=some (.int .i64 r.l):=(by rw [cell_at ZQa.out.1];rfl)
    have HSC:=lH (HST.out wa FA.out);unfold StrPost at HSC;clear HST cg3;go_wp2_with (refine wpList_load_row rfl 36 (.tmp 3) rfl b0 rfl 36 _ (0,0) _ ZQa.out.1 Tryz.underlying36 rfl Tryz.size36 ?_);refine HSC.out.mono ?_;rintro e wS ⟨fS,he⟩;by_cases hx0:E.1=0
    ·rw [if_pos hx0] at he;obtain ⟨mb,mc,rfl,hmp,hmb,hmc⟩:=he;have HE0:=lH hx0;have HMPT:=lH hmp;have FS:=lH (FA.out.trans fS (fun _ _ e=>e));have ZGs:=lH (ZGa.out.no fS);have ZQs:=lH (ZQ.out.no FS.out);have s13:wS.cell? ⟨b0,13,none⟩=some (.slice bd dl.length cd):=(by rw [cell_at ZQs.out.1];rfl)
     clear hx0 hmp hmb hmc fS a0 a1 HSC;go_wp2_with fail;go_loopw [52] (fun a wr=>∃j:Nat,a=.int .i64 j∧j≤dl.length∧Hid (∀d∈dl.take j,dlOk E.2 i d)∧Hid (Fr No wS wr)) (fun a _=>dl.length - (intOf a).toNat)
     case atStart=>exact ⟨0,rfl,Nat.zero_le _,lH (by simp),lH (Fr.refl _)⟩
     case round=>
      obtain ⟨j,rfl,hj,HDJ,HF⟩:=hrel;have FW:=lH (FS.out.trans HF.out (fun _ _ e=>e));by_cases hlt:j<dl.length
      ·have hne:dl≠ []:=by
        intro e;subst e;simp at hlt
       obtain ⟨b,off,rfl,ho,hbl,hrows⟩:=(RD.out.no HG0.out FW.out).at hne;have HRR:=lH (hrows j dl[j] (List.getElem?_eq_getElem hlt));have HDX:Hid (dlOk E.2 i dl[j]→∀z∈dl.take (j+1),dlOk E.2 i z):=lH (fun hd z hz=>by
        rw [List.take_add_one,List.getElem?_eq_getElem hlt,Option.toList_some] at hz;rcases List.mem_append.1 hz with hz|hz
        ·exact HDJ.out z hz
        ·rw [List.mem_singleton.1 hz];exact hd)
       have HDN:Hid (¬dlOk E.2 i dl[j]→CD=(4,noRep,S)):=lH (fun hn=>HC3'.out HNW.out HE0.out (fun h=>hn (h _ (List.getElem_mem hlt))));have q1:(j:Int)<(dl.length:Int):=(by omega)
       have q3:(0:Int)≤(j:Int):=(by omega)
       have hbig:dl.length≤1000:=HLD.out;generalize dl[j]=d at*;unfold dlC at HRR;have FX:=lH ((Fr.refl (S:=No) wr).alloc (.cells #[.int .i64 d.k,.int .i64 d.i,.int .i64 d.b,.int .i64 d.s,.int .i64 d.t.c,.int .i64 d.t.l,.int .i64 d.t.n,.int .i64 d.t.a,.int .i64 d.t.z,.int .i64 d.o.c,.int .i64 d.o.l,.int .i64 d.o.n,.int .i64 d.o.a,.int .i64 d.o.z] 61));have KX:=lH (new_at wr (.cells #[.int .i64 d.k,.int .i64 d.i,.int .i64 d.b,.int .i64 d.s,.int .i64 d.t.c,.int .i64 d.t.l,.int .i64 d.t.n,.int .i64 d.t.a,.int .i64 d.t.z,.int .i64 d.o.c,.int .i64 d.o.l,.int .i64 d.o.n,.int .i64 d.o.a,.int .i64 d.o.z] 61));clear hrows ho hbl s13;go_upto_region 8 with (refine wpList_load_mid (by rfl) 61 _ (by rfl) b (off+j*14) (by rfl) [.int .i64 d.k,.int .i64 d.i,.int .i64 d.b,.int .i64 d.s,.int .i64 d.t.c,.int .i64 d.t.l,.int .i64 d.t.n,.int .i64 d.t.a,.int .i64 d.t.z,.int .i64 d.o.c,.int .i64 d.o.l,.int .i64 d.o.n,.int .i64 d.o.a,.int .i64 d.o.z] _ HRR.out Tryz.underlying61 rfl Tryz.size61 ?_)
       generalize wr.alloc (.cells #[.int .i64 d.k,.int .i64 d.i,.int .i64 d.b,.int .i64 d.s,.int .i64 d.t.c,.int .i64 d.t.l,.int .i64 d.t.n,.int .i64 d.t.a,.int .i64 d.t.z,.int .i64 d.o.c,.int .i64 d.o.l,.int .i64 d.o.n,.int .i64 d.o.a,.int .i64 d.o.z] 61)=wX at*;generalize wr.heap.size=tX at*
       ·skip
        have HDM:=lH (dmay_ d wX);unfold DMayPost dlV at HDM;cases hm1:decide (mayDl d) with
        | false=>
         rw [hm1] at HDM;have HX:=lH (HDN.out (fun h=>by rw [decide_eq_false_iff_not] at hm1;exact hm1 h.1));clear hm1;go_wp2_with (refine wpList_load_row rfl 61 (.tmp 9) rfl tX rfl 61 _ (0,0) _ KX.out Tryz.underlying61 rfl Tryz.size61 ?_);refine HDM.out.mono ?_;rintro e w3 ⟨rfl,f3⟩;have F3:=lH (FX.out.trans f3 (fun _ _ e=>e));clear f3;go_wp2_with fail;refine (must_no _ _).mono ?_;rintro e wz ⟨rfl,rfl⟩;go_wp2_with fail;exact ⟨rfl,HR.out 4 (by decide) HX.out _ _ rfl (F0.out.trans (FW.out.trans F3.out (fun _ _ e=>e)) (fun _ _ e=>e))⟩
        | true=>
         rw [hm1] at HDM;have HMD:Hid (mayDl d):=lH (of_decide_eq_true hm1);clear hm1;cases h1:(d.i==(i:Int)) with
         | false=>
          have HX:=lH (HDN.out (fun h=>by rw [h.2.1] at h1;simp at h1));go_wp2_with (refine wpList_load_row rfl 61 (.tmp 9) rfl tX rfl 61 _ (0,0) _ KX.out Tryz.underlying61 rfl Tryz.size61 ?_);refine HDM.out.mono ?_;rintro e w3 ⟨rfl,f3⟩;have F3:=lH (FX.out.trans f3 (fun _ _ e=>e));have k3:=f3.block_of KX.out id;have p0:w3.cell? ⟨tX,0,none⟩=some (.int .i64 d.k):=(by rw [cell_at k3];rfl)
          have p1:w3.cell? ⟨tX,1,none⟩=some (.int .i64 d.i):=(by rw [cell_at k3];rfl)
          have p4:w3.cell? ⟨tX,4,none⟩=some (.int .i64 d.t.c):=(by rw [cell_at k3];rfl)
          have p5:w3.cell? ⟨tX,5,none⟩=some (.int .i64 d.t.l):=(by rw [cell_at k3];rfl)
          have p6:w3.cell? ⟨tX,6,none⟩=some (.int .i64 d.t.n):=(by rw [cell_at k3];rfl)
          have p7:w3.cell? ⟨tX,7,none⟩=some (.int .i64 d.t.a):=(by rw [cell_at k3];rfl)
          have p8:w3.cell? ⟨tX,8,none⟩=some (.int .i64 d.t.z):=(by rw [cell_at k3];rfl)
          have g2:w3.cell? ⟨tG,2,none⟩=some (.int .i64 i):=(by rw [cell_at (ZGs.out.no (HF.out.trans F3.out (fun _ _ e=>e))).1];rfl)
          clear k3 f3;go_wp2_with fail;refine (must_no _ _).mono ?_;rintro e wz ⟨rfl,rfl⟩;go_wp2_with fail;exact ⟨rfl,HR.out 4 (by decide) HX.out _ _ rfl (F0.out.trans (FW.out.trans F3.out (fun _ _ e=>e)) (fun _ _ e=>e))⟩
         | true=>
          have HI1:Hid (d.i=(i:Int)):=lH (by simpa using h1);cases h2:(d.k !=3) with
          | false=>
           have HX:=lH (HDN.out (fun h=>h.2.2.1 (by simpa using h2)));go_wp2_with (refine wpList_load_row rfl 61 (.tmp 9) rfl tX rfl 61 _ (0,0) _ KX.out Tryz.underlying61 rfl Tryz.size61 ?_);refine HDM.out.mono ?_;rintro e w3 ⟨rfl,f3⟩;have F3:=lH (FX.out.trans f3 (fun _ _ e=>e));have k3:=f3.block_of KX.out id;have p0:w3.cell? ⟨tX,0,none⟩=some (.int .i64 d.k):=(by rw [cell_at k3];rfl)
           have p1:w3.cell? ⟨tX,1,none⟩=some (.int .i64 d.i):=(by rw [cell_at k3];rfl)
           have p4:w3.cell? ⟨tX,4,none⟩=some (.int .i64 d.t.c):=(by rw [cell_at k3];rfl)
           have p5:w3.cell? ⟨tX,5,none⟩=some (.int .i64 d.t.l):=(by rw [cell_at k3];rfl)
           have p6:w3.cell? ⟨tX,6,none⟩=some (.int .i64 d.t.n):=(by rw [cell_at k3];rfl)
           have p7:w3.cell? ⟨tX,7,none⟩=some (.int .i64 d.t.a):=(by rw [cell_at k3];rfl)
           have p8:w3.cell? ⟨tX,8,none⟩=some (.int .i64 d.t.z):=(by rw [cell_at k3];rfl)
           have g2:w3.cell? ⟨tG,2,none⟩=some (.int .i64 i):=(by rw [cell_at (ZGs.out.no (HF.out.trans F3.out (fun _ _ e=>e))).1];rfl)
           clear k3 f3;go_wp2_with fail;refine (must_no _ _).mono ?_;rintro e wz ⟨rfl,rfl⟩;go_wp2_with fail;exact ⟨rfl,HR.out 4 (by decide) HX.out _ _ rfl (F0.out.trans (FW.out.trans F3.out (fun _ _ e=>e)) (fun _ _ e=>e))⟩
          | true=>
           have HK3:Hid (d.k≠3):=lH (by simpa using h2);have hb59:∀w':World,(Instr.build 59 #[]).run Tryz.prog w'=.ok (.agg #[.int .i64 0,.int .i64 0,.int .i64 0,.int .i64 0,.int .i64 0]) w':=fun w'=>by kernel_rfl
           cases h3:decide (d.t=noPt) with
           | true=>
            have HDO:Hid (dlOk E.2 i d):=lH ⟨HMD.out,HI1.out,HK3.out,.inl (of_decide_eq_true h3)⟩;go_wp2_with (refine wpList_load_row rfl 61 (.tmp 9) rfl tX rfl 61 _ (0,0) _ KX.out Tryz.underlying61 rfl Tryz.size61 ?_);refine HDM.out.mono ?_;rintro e w3 ⟨rfl,f3⟩;have F3:=lH (FX.out.trans f3 (fun _ _ e=>e));have k3:=f3.block_of KX.out id;have p0:w3.cell? ⟨tX,0,none⟩=some (.int .i64 d.k):=(by rw [cell_at k3];rfl)
            have p1:w3.cell? ⟨tX,1,none⟩=some (.int .i64 d.i):=(by rw [cell_at k3];rfl)
            have p4:w3.cell? ⟨tX,4,none⟩=some (.int .i64 d.t.c):=(by rw [cell_at k3];rfl)
            have p5:w3.cell? ⟨tX,5,none⟩=some (.int .i64 d.t.l):=(by rw [cell_at k3];rfl)
            have p6:w3.cell? ⟨tX,6,none⟩=some (.int .i64 d.t.n):=(by rw [cell_at k3];rfl)
            have p7:w3.cell? ⟨tX,7,none⟩=some (.int .i64 d.t.a):=(by rw [cell_at k3];rfl)
            have p8:w3.cell? ⟨tX,8,none⟩=some (.int .i64 d.t.z):=(by rw [cell_at k3];rfl)
            have g2:w3.cell? ⟨tG,2,none⟩=some (.int .i64 i):=(by rw [cell_at (ZGs.out.no (HF.out.trans F3.out (fun _ _ e=>e))).1];rfl)
            have HTP:Hid (d.t=noPt):=lH (of_decide_eq_true h3);have F38:=lH f3;clear k3 f3 h3;go_wp2_with (rw [pt_if,if_pos HTP.out]);refine (must_yes _ _).mono ?_;rintro e wz ⟨rfl,rfl⟩;go_wp2_with fail;go_roundw
            case rel=>exact ⟨j+1,by go_num,hlt,lH (HDX.out HDO.out),lH (HF.out.trans (FX.out.trans F38.out (fun _ _ e=>e)) (fun _ _ e=>e))⟩
            case measure=>simp [intOf];omega
           | false=>
            have HPT3:Hid (mayPt d.t):=lH HMD.out.2.2.2.2.2.2.1;cases h4:insideOf E.2 d.t with
            | true=>
             have HDO:Hid (dlOk E.2 i d):=lH ⟨HMD.out,HI1.out,HK3.out,.inr h4⟩;go_wp2_with (refine wpList_load_row rfl 61 (.tmp 9) rfl tX rfl 61 _ (0,0) _ KX.out Tryz.underlying61 rfl Tryz.size61 ?_);refine HDM.out.mono ?_;rintro e w3 ⟨rfl,f3⟩;have F3:=lH (FX.out.trans f3 (fun _ _ e=>e));have k3:=f3.block_of KX.out id;have p0:w3.cell? ⟨tX,0,none⟩=some (.int .i64 d.k):=(by rw [cell_at k3];rfl)
             have p1:w3.cell? ⟨tX,1,none⟩=some (.int .i64 d.i):=(by rw [cell_at k3];rfl)
             have p4:w3.cell? ⟨tX,4,none⟩=some (.int .i64 d.t.c):=(by rw [cell_at k3];rfl)
             have p5:w3.cell? ⟨tX,5,none⟩=some (.int .i64 d.t.l):=(by rw [cell_at k3];rfl)
             have p6:w3.cell? ⟨tX,6,none⟩=some (.int .i64 d.t.n):=(by rw [cell_at k3];rfl)
             have p7:w3.cell? ⟨tX,7,none⟩=some (.int .i64 d.t.a):=(by rw [cell_at k3];rfl)
             have p8:w3.cell? ⟨tX,8,none⟩=some (.int .i64 d.t.z):=(by rw [cell_at k3];rfl)
             have g2:w3.cell? ⟨tG,2,none⟩=some (.int .i64 i):=(by rw [cell_at (ZGs.out.no (HF.out.trans F3.out (fun _ _ e=>e))).1];rfl)
             have HTP:Hid (¬d.t=noPt):=lH (of_decide_eq_false h3);have HIN:=lH (inside_ mb mc E.2 d.t w3 (HMPT.out.fr (HF.out.trans F3.out (fun _ _ e=>e)) id) (may_good HPT3.out).1 (show I64 _ by have:=(may_good HPT3.out).2;unfold I64;omega) (fun y e hy=>by have:=HSM.out y e hy;unfold I64;omega));unfold ptV at HIN;rw [h4] at HIN;have F38:=lH f3;clear k3 f3 h3 h4;go_wp2_with (rw [pt_if,if_neg HTP.out]);refine HIN.out.mono ?_;rintro e w4 ⟨rfl,f4⟩;have F48:=lH (F38.out.trans f4 (fun _ _ e=>e));clear f4;go_wp2_with fail;refine (must_yes _ _).mono ?_;rintro e wz ⟨rfl,rfl⟩;go_wp2_with fail;go_roundw
             case rel=>exact ⟨j+1,by go_num,hlt,lH (HDX.out HDO.out),lH (HF.out.trans (FX.out.trans F48.out (fun _ _ e=>e)) (fun _ _ e=>e))⟩
             case measure=>simp [intOf];omega
            | false=>
             have HX:=lH (HDN.out (fun h=>by
              rcases h.2.2.2 with h|h
              ·rw [decide_eq_false_iff_not] at h3;exact h3 h
              ·rw [h4] at h;cases h))
             go_wp2_with (refine wpList_load_row rfl 61 (.tmp 9) rfl tX rfl 61 _ (0,0) _ KX.out Tryz.underlying61 rfl Tryz.size61 ?_);refine HDM.out.mono ?_;rintro e w3 ⟨rfl,f3⟩;have F3:=lH (FX.out.trans f3 (fun _ _ e=>e));have k3:=f3.block_of KX.out id;have p0:w3.cell? ⟨tX,0,none⟩=some (.int .i64 d.k):=(by rw [cell_at k3];rfl)
             have p1:w3.cell? ⟨tX,1,none⟩=some (.int .i64 d.i):=(by rw [cell_at k3];rfl)
             have p4:w3.cell? ⟨tX,4,none⟩=some (.int .i64 d.t.c):=(by rw [cell_at k3];rfl)
             have p5:w3.cell? ⟨tX,5,none⟩=some (.int .i64 d.t.l):=(by rw [cell_at k3];rfl)
             have p6:w3.cell? ⟨tX,6,none⟩=some (.int .i64 d.t.n):=(by rw [cell_at k3];rfl)
             have p7:w3.cell? ⟨tX,7,none⟩=some (.int .i64 d.t.a):=(by rw [cell_at k3];rfl)
             have p8:w3.cell? ⟨tX,8,none⟩=some (.int .i64 d.t.z):=(by rw [cell_at k3];rfl)
             have g2:w3.cell? ⟨tG,2,none⟩=some (.int .i64 i):=(by rw [cell_at (ZGs.out.no (HF.out.trans F3.out (fun _ _ e=>e))).1];rfl)
             have HTP:Hid (¬d.t=noPt):=lH (of_decide_eq_false h3);have HIN:=lH (inside_ mb mc E.2 d.t w3 (HMPT.out.fr (HF.out.trans F3.out (fun _ _ e=>e)) id) (may_good HPT3.out).1 (show I64 _ by have:=(may_good HPT3.out).2;unfold I64;omega) (fun y e hy=>by have:=HSM.out y e hy;unfold I64;omega));unfold ptV at HIN;rw [h4] at HIN;clear k3 f3 h3 h4;go_wp2_with (rw [pt_if,if_neg HTP.out]);refine HIN.out.mono ?_;rintro e w4 ⟨rfl,f4⟩;have F4:=lH (F3.out.trans f4 (fun _ _ e=>e));clear f4;go_wp2_with fail;refine (must_no _ _).mono ?_;rintro e wz ⟨rfl,rfl⟩;go_wp2_with fail;exact ⟨rfl,HR.out 4 (by decide) HX.out _ _ rfl (F0.out.trans (FW.out.trans F4.out (fun _ _ e=>e)) (fun _ _ e=>e))⟩
      ·have hjl:j=dl.length:=by omega
       have HALL:Hid (∀d∈dl,dlOk E.2 i d):=lH (by have:=HDJ.out;rw [hjl,List.take_length] at this;exact this);have q1:¬(j:Int)<(dl.length:Int):=(by omega)
       obtain ⟨wb,rfl⟩:∃wb:World,wb=wr:=⟨_,rfl⟩
       have ZQb:=lH (ZQ.out.no FW.out);have b00:wb.cell? ⟨b0,0,none⟩=some (.int .i64 cn):=(by rw [cell_at ZQb.out.1];rfl)
       have HA:=lH (HADD.out wb FW.out);unfold AddPost at HA;have HCDE:=lH (HC4'.out HNW.out HE0.out HALL.out);clear hjl s13 HDJ HC1' HC2' HC3' HC4' HADD;go_wp2_with (refine wpList_load_row rfl 36 (.tmp 3) rfl b0 rfl 36 _ (0,0) _ ZQb.out.1 Tryz.underlying36 rfl Tryz.size36 ?_);refine HA.out.mono ?_;rintro e wA ⟨rfl,oA,sA,tA⟩;have SA:Hid (Step (stateC K) w0 o wA oA):=lH (((Step.no (C:=fun _=>False) HG0.out FW.out).mono (fun _ e=>e.elim)).trans (sA.mono (fun c e=>by unfold stateC;omega)) (fun _ e=>e));have TA:=lH tA;have ZQA:=lH (ZQb.out.step sA (by omega));have ZGA:=lH ((ZGs.out.no HF.out).step sA (by omega));have ZPA:=lH ((ZP.out.no FW.out).step sA (by omega));have RDA:=lH ((RD.out.no HG0.out FW.out).step sA (by omega));have OKA:=lH (HOK.out.addS st cn r.nx);have a13:wA.cell? ⟨b0,13,none⟩=some (.slice bd dl.length cd):=(by rw [cell_at ZQA.out.1];rfl)
       have HFA:=lH sA.fresh;clear sA tA b00 HA;go_wp2_with fail;go_loopw [93] (fun a wr=>∃(j:Nat) (oj:Nat→Nat),a=.int .i64 j∧j≤dl.length∧Hid (Step (fileC K i) wA oA wr oj)∧Hid (StateAt wr oj K L {addS S st cn r.nx with F:=updF S.F i (some ((dl.take j).foldl appliedM m))} (n+st.length))) (fun a _=>dl.length - (intOf a).toNat)
       case atStart=>exact ⟨0,oA,rfl,Nat.zero_le _,lH (Step.refl HFA.out),lH (by rw [List.take_zero,List.foldl_nil,updF_id HM.out];exact TA.out)⟩
       case round=>
        obtain ⟨j,oj,rfl,hj,HSJ,HTJ⟩:=hrel;have n0:¬fileC K i 0:=(by unfold fileC;omega)
        have HMJ:Hid (MapLen ((dl.take j).foldl appliedM m)∧∀p∈((dl.take j).foldl appliedM m).l,mayPt p):=lH (folded_ok (fun d hd=>HALL.out d (List.mem_of_mem_take hd)) HML.out HMP.out);have OKJ:Hid (StOk {addS S st cn r.nx with F:=updF S.F i (some ((dl.take j).foldl appliedM m))}):=lH (OKA.out.newFile ⟨hi1,hi2⟩ HMJ.out.1);by_cases hlt:j<dl.length
        ·have hne:dl≠ []:=by
          intro e;subst e;simp at hlt
         obtain ⟨b,off,rfl,ho,hbl,hrows⟩:=(RDA.out.step HSJ.out n0).at hne;have HRR:=lH (hrows j dl[j] (List.getElem?_eq_getElem hlt));have HDO:Hid (dlOk E.2 i dl[j]):=lH (HALL.out _ (List.getElem_mem hlt));have HTK:Hid ((dl.take (j+1)).foldl appliedM m=appliedM ((dl.take j).foldl appliedM m) dl[j]):=lH (by
          rw [List.take_add_one,List.getElem?_eq_getElem hlt,Option.toList_some,List.foldl_append];rfl)
         have q1:(j:Int)<(dl.length:Int):=(by omega)
         have q3:(0:Int)≤(j:Int):=(by omega)
         have hbig:dl.length≤1000:=HLD.out;generalize dl[j]=d at*;unfold dlC at HRR;generalize (dl.take j).foldl appliedM m=mj at*;have FX:=lH ((Fr.refl (S:=No) wr).alloc (.cells #[.int .i64 d.k,.int .i64 d.i,.int .i64 d.b,.int .i64 d.s,.int .i64 d.t.c,.int .i64 d.t.l,.int .i64 d.t.n,.int .i64 d.t.a,.int .i64 d.t.z,.int .i64 d.o.c,.int .i64 d.o.l,.int .i64 d.o.n,.int .i64 d.o.a,.int .i64 d.o.z] 61));have KX:=lH (new_at wr (.cells #[.int .i64 d.k,.int .i64 d.i,.int .i64 d.b,.int .i64 d.s,.int .i64 d.t.c,.int .i64 d.t.l,.int .i64 d.t.n,.int .i64 d.t.a,.int .i64 d.t.z,.int .i64 d.o.c,.int .i64 d.o.l,.int .i64 d.o.n,.int .i64 d.o.a,.int .i64 d.o.z] 61));clear hrows ho hbl a13 hne;go_upto_region 14 with (refine wpList_load_mid (by rfl) 61 _ (by rfl) b (off+j*14) (by rfl) [.int .i64 d.k,.int .i64 d.i,.int .i64 d.b,.int .i64 d.s,.int .i64 d.t.c,.int .i64 d.t.l,.int .i64 d.t.n,.int .i64 d.t.a,.int .i64 d.t.z,.int .i64 d.o.c,.int .i64 d.o.l,.int .i64 d.o.n,.int .i64 d.o.a,.int .i64 d.o.z] _ HRR.out Tryz.underlying61 rfl Tryz.size61 ?_)
         generalize wr.alloc (.cells #[.int .i64 d.k,.int .i64 d.i,.int .i64 d.b,.int .i64 d.s,.int .i64 d.t.c,.int .i64 d.t.l,.int .i64 d.t.n,.int .i64 d.t.a,.int .i64 d.t.z,.int .i64 d.o.c,.int .i64 d.o.l,.int .i64 d.o.n,.int .i64 d.o.a,.int .i64 d.o.z] 61)=wX at*;generalize wr.heap.size=tX at*;have FD:Fr No wr wX.drew:=FX.out.trans (Fr.refl _).drew (fun _ _ e=>e);have hfj:=HSJ.out.fresh;have STX:=HTJ.out.no OKJ.out hfj FD;have hfd:Fresh wX.drew oj:=(Step.no (C:=fun _=>False) hfj FD).fresh;obtain ⟨p,hlk,hfa,hback⟩:=STX.files.turn OKJ.out.file (i:=i) (m:=mj) (updF_same _ _ _);have HLK:=lH (hlk _ (Fr.refl _));have HAP:=lH (apply_ oj K i p mj d wX.drew hfa hfd (by omega) HMJ.out.1 HDO.out.1);unfold ApplyPost GFile dlV at HAP;have HBACK:=lH hback;have HSTX:=lH STX;have HFD:=lH FD;have HFJ:=lH hfj;have kD:=(Fr.refl (S:=No) wX).drew.block_of KX.out id;have RX:Hid (wX.drew.rangeAt tX 0 [.int .i64 d.k,.int .i64 d.i,.int .i64 d.b,.int .i64 d.s,.int .i64 d.t.c,.int .i64 d.t.l,.int .i64 d.t.n,.int .i64 d.t.a,.int .i64 d.t.z,.int .i64 d.o.c,.int .i64 d.o.l,.int .i64 d.o.n,.int .i64 d.o.a,.int .i64 d.o.z]):=lH (World.rangeAt_of_block kD 0 14);have C11:Hid (wX.drew.cell? ⟨L.s,11,none⟩=some (.map (some L.fl))):=lH (STX.cell 11);have G2:Hid (wX.drew.cell? ⟨tG,2,none⟩=some (.int .i64 i)):=lH (by rw [cell_at ((ZGA.out.step HSJ.out n0).no FD).1];rfl);clear FD hfj STX hfd hlk hfa hback kD;refine wp_region_text mixed (fun W=>W=wX.drew) [8] (by kernel_rfl) (by kernel_rfl) (by kernel_rfl) (by kernel_rfl) (fun _ _ d _ _ h=>by cases d<;>exact h) rfl ?_;repeat (first
          | refine seqX_skip (by rfl) ?_
          | (refine seqX_val (v:= ?_) (by rfl) (by rfl) ?_ ?_
             rotate_left 1
             (intro W;go_simp;(try with_reducible rfl))
             simp only [Act.put,lsA,lsZ,lsS])
          | (refine seqX_no (by rfl) (by rfl) ?_
             simp only [Act.put,lsA,lsZ,lsS])
          | (refine seqX_valS (v:=.agg #[.int .i64 d.k,.int .i64 d.i,.int .i64 d.b,.int .i64 d.s,.int .i64 d.t.c,.int .i64 d.t.l,.int .i64 d.t.n,.int .i64 d.t.a,.int .i64 d.t.z,.int .i64 d.o.c,.int .i64 d.o.l,.int .i64 d.o.n,.int .i64 d.o.a,.int .i64 d.o.z]) (by rfl) (by kernel_rfl) (by rfl) (fun W hS=>exec_load_mid 61 (.tmp 11) (by rfl) tX 0 (by rfl) [.int .i64 d.k,.int .i64 d.i,.int .i64 d.b,.int .i64 d.s,.int .i64 d.t.c,.int .i64 d.t.l,.int .i64 d.t.n,.int .i64 d.t.a,.int .i64 d.t.z,.int .i64 d.o.c,.int .i64 d.o.l,.int .i64 d.o.n,.int .i64 d.o.a,.int .i64 d.o.z] _ (by rw [hS];exact RX.out) Tryz.underlying61 rfl Tryz.size61) ?_
             simp only [Act.put,lsA,lsZ,lsS])
          | (refine seqX_valS (v:= ?_) (by rfl) (by kernel_rfl) (by rfl) ?_ ?_
             rotate_left 1
             (intro W hS;have e0:W.cell? ⟨L.s,11,none⟩=some (.map (some L.fl)):=(by rw [hS];exact C11.out);have e1:W.cell? ⟨tG,2,none⟩=some (.int .i64 i):=(by rw [hS];exact G2.out);have e2:(Instr.lookup 100 (.map (some L.fl)) (.int .i64 i) false).run Tryz.prog W=.ok (.pointer (some ⟨p,0,none⟩)) W:=(by rw [hS];exact HLK.out);clear hS;go_simp;(try with_reducible rfl))
             simp only [Act.put,lsA,lsZ,lsS]))
         intro W hS;obtain rfl:W=wX.drew:=hS;simp only [List.reverse_cons,List.reverse_nil,List.nil_append,List.cons_append];go_wp2_with fail;refine HAP.out.mono ?_;rintro e w5 ⟨⟨v5,b5,rfl⟩,o5,s5,t5⟩;have HS5:Hid (Step (fileC K i) wA oA w5 o5):=lH (HSJ.out.trans (((Step.no (C:=fun _=>False) HFJ.out HFD.out).mono (fun _ e=>e.elim)).trans s5 (fun _ e=>e)) (fun _ e=>e));have HT5:Hid (StateAt w5 o5 K L {addS S st cn r.nx with F:=updF S.F i (some (appliedM mj d))} (n+st.length)):=lH (by
          have:=HSTX.out.newFile hi2 OKJ.out s5 (HBACK.out w5 o5 _ s5 t5);rw [updF_upd] at this;exact this)
         clear s5 t5;go_wp2_with fail;go_roundw
         case rel=>exact ⟨j+1,o5,by go_num,hlt,HS5,by rw [HTK.out];exact HT5⟩
         case measure=>simp [intOf];omega
        ·have hjl:j=dl.length:=by omega
         have q1:¬(j:Int)<(dl.length:Int):=(by omega)
         rw [hjl,List.take_length] at HMJ OKJ HTJ;obtain ⟨wq,rfl⟩:∃wq:World,wq=wr:=⟨_,rfl⟩
         obtain ⟨mq,hmq⟩:∃mq,dl.foldl appliedM m=mq:=⟨_,rfl⟩
         have HMQ:=lH hmq;rw [hmq] at HMJ OKJ HTJ HCDE;clear hmq;have ZQq:=lH (ZQA.out.step HSJ.out n0);have ZGq:=lH (ZGA.out.step HSJ.out n0);have ZPq:=lH (ZPA.out.step HSJ.out n0);have SQ:Hid (Step (stateC K) w0 o wq oj):=lH (SA.out.trans (HSJ.out.mono (fun c e=>by unfold fileC at e;unfold stateC;omega)) (fun _ e=>e));have HCT:=lH (scount_ oj K (n+st.length) L _ wq HTJ.out OKJ.out (HPT.out.put i HMJ.out.2) HSJ.out.fresh (by have:=HNN.out;have:=HLS.out;omega));unfold CountPost at HCT;clear hjl a13;go_wp2_with fail;refine HCT.out.mono ?_;rintro e wk ⟨rfl,ok1,sk,tk⟩;have ZQk:=lH (ZQq.out.step sk (by omega));have ZGk:=lH (ZGq.out.step sk (by omega));have ZPk:=lH (ZPq.out.step sk (by omega));have SK:Hid (Step (stateC K) w0 o wk ok1):=lH (SQ.out.trans (sk.mono (fun c e=>by unfold stateC;omega)) (fun _ e=>e));have TK:=lH tk;have OKK:Hid (StOk {addS S st cn r.nx with F:=updF S.F i (some mq),U:=countedU (updF S.F i (some mq)) (addS S st cn r.nx).U}):=lH (OKJ.out.newU _);have k8:wk.cell? ⟨b0,8,none⟩=some (.bool r.cl):=(by rw [cell_at ZQk.out.1];rfl)
         have hbd:∀w':World,(Instr.build 29 #[(1,.int .i64 i),(2,.int .i64 mq.size)]).run Tryz.prog w'=.ok (.agg #[.int .i64 0,.int .i64 i,.int .i64 mq.size,.int .i64 0,.int .i64 0,.bool false,.slice none 0 0,.slice none 0 0]) w':=fun w'=>by kernel_rfl
         have HBD:=lH hbd;have HOC:=lH (show (#[.int .i64 0,.int .i64 i,.int .i64 mq.size,.int .i64 0,.int .i64 0,.bool false,.slice none 0 0,.slice none 0 0]:Array Value).all (·.oneCell')=true from by simp [Value.oneCell']);have HQF:Hid (∀ow wx w3 e,StateAt wx ow K L {addS S st cn r.nx with F:=updF S.F i (some mq),U:=countedU (updF S.F i (some mq)) (addS S st cn r.nx).U,K:=closedK r.cl S.K ⟨xc,xh,i,xw⟩} (n+st.length)→Step (stateC K) w0 o wx ow→e=.returned (plainV 0 i mq.size 0 0 false)→Fr (fun j=>j=b0+1) wx w3→Q e w3):=lH (fun ow wx w3 e t s he g=>by
          refine HQ.out i mq.size _ HCDE.out ?_ e w0 wx w3 ow he F0.out B1.out s ?_ g
          ·exact ⟨OKK.out.tree,by unfold commitS;rw [HM.out,Option.getD_some,HMQ.out];exact OKK.out.file⟩
          ·unfold commitS;rw [HM.out,Option.getD_some,HMQ.out];exact t)
         clear sk tk hbd;cases hcl:r.cl with
         | true=>
          rw [hcl] at k8;have k0:wk.cell? ⟨b0,0,none⟩=some (.int .i64 cn):=(by rw [cell_at ZQk.out.1];rfl)
          have k9:wk.cell? ⟨b0,9,none⟩=some (.int .i64 r.h):=(by rw [cell_at ZQk.out.1];rfl)
          have k10:wk.cell? ⟨L.s,10,none⟩=some (.pointer (some ⟨L.tk,0,none⟩)):=TK.out.cell 10;have fk:Fr No wk wk.drew:=(Fr.refl _).drew;have HCLO:=lH (close_ ok1 K L.tk S.K cn r.h wk.drew (TK.out.no OKK.out SK.out.fresh fk).tok (Step.no (C:=fun _=>False) SK.out.fresh fk).fresh);rw [HXE.out] at HCLO;unfold ClosePost GTok at HCLO;dsimp only at HCLO;have NT0:Hid (¬tokC2 K (ok1 b0)):=lH (by rw [ZQk.out.2];unfold tokC2;omega);have NTS:Hid (¬tokC2 K (ok1 L.s)):=lH (by rw [TK.out.own];unfold tokC2;omega);clear fk;go_wp2_with fail;go_region_held3 (fun w'=>w'.cell? ⟨L.s,10,none⟩=some (.pointer (some ⟨L.tk,0,none⟩))∧w'.cell? ⟨b0,0,none⟩=some (.int .i64 cn)∧w'.cell? ⟨b0,9,none⟩=some (.int .i64 r.h)) (first|go_keep|(go_split_ands;refine ⟨?_,?_,?_⟩<;>exact s6.fr.cell_of (by assumption) (by first|exact NTS.out|exact NT0.out)))
           ((go_at_call 139;refine HCLO.out.mono ?_;rintro e wz ⟨rfl,oz,s6,t6⟩))
          have fk:Fr No wk wk.drew:=(Fr.refl _).drew;have TZ:Hid (StateAt wz oz K L {addS S st cn r.nx with F:=updF S.F i (some mq),U:=countedU (updF S.F i (some mq)) (addS S st cn r.nx).U,K:=closedK r.cl S.K ⟨xc,xh,i,xw⟩} (n+st.length)):=lH (by
           have:=(TK.out.no OKK.out SK.out.fresh fk).newToks OKK.out s6 t6;unfold closedK;rw [if_pos hcl];exact this)
          have SZ:Hid (Step (stateC K) w0 o wz oz):=lH (SK.out.trans (((Step.no (C:=fun _=>False) SK.out.fresh fk).mono (fun _ e=>e.elim)).trans (s6.mono (fun _ e=>tokC2_state e)) (fun _ e=>e)) (fun _ e=>e));have ZGz:=lH ((ZGk.out.no fk).step s6 (by unfold tokC2;omega));have ZPz:=lH ((ZPk.out.no fk).step s6 (by unfold tokC2;omega));clear s6 t6 fk k0 k8 k9 k10;try go_wp2_with fail
          have OKZ:Hid (StOk {addS S st cn r.nx with F:=updF S.F i (some mq),U:=countedU (updF S.F i (some mq)) (addS S st cn r.nx).U,K:=closedK r.cl S.K ⟨xc,xh,i,xw⟩}):=lH ⟨OKK.out.tree,OKK.out.file⟩;have fz:Fr No wz wz.drew:=(Fr.refl _).drew;have tzd:=TZ.out.no OKZ.out SZ.out.fresh fz;obtain ⟨p,hlk,hfa,_⟩:=tzd.files.turn OKZ.out.file (i:=i) (m:=mq) (updF_same _ _ _);have HLK:=lH (hlk _ (Fr.refl _));have HSZ:=lH (fsize_ p mq wz.drew hfa.reads);have C11:Hid (wz.drew.cell? ⟨L.s,11,none⟩=some (.map (some L.fl))):=lH (tzd.cell 11);have G2:Hid (wz.drew.cell? ⟨tG,2,none⟩=some (.int .i64 i)):=lH (by rw [cell_at (ZGz.out.no fz).1];rfl);have KK:=lH (ZPz.out.no fz).1;clear tzd hlk hfa fz;refine wp_region_text mixed (fun W=>W=wz.drew) [11] (by kernel_rfl) (by kernel_rfl) (by kernel_rfl) (by kernel_rfl) (fun _ _ d _ _ h=>by cases d<;>exact h) rfl ?_;repeat (first
           | refine seqX_skip (by rfl) ?_
           | (refine seqX_val (v:= ?_) (by rfl) (by rfl) ?_ ?_
              rotate_left 1
              (intro W;have hv0:=HBD.out W;go_simp;(try with_reducible rfl))
              simp only [Act.put,lsA,lsZ,lsS])
           | (refine seqX_no (by rfl) (by rfl) ?_
              simp only [Act.put,lsA,lsZ,lsS])
           | (refine seqX_valS (v:= ?_) (by rfl) (by kernel_rfl) (by rfl) ?_ ?_
              rotate_left 1
              (intro W hS;have e0:W.cell? ⟨L.s,11,none⟩=some (.map (some L.fl)):=(by rw [hS];exact C11.out);have e1:W.cell? ⟨tG,2,none⟩=some (.int .i64 i):=(by rw [hS];exact G2.out);have e2:(Instr.lookup 100 (.map (some L.fl)) (.int .i64 i) false).run Tryz.prog W=.ok (.pointer (some ⟨p,0,none⟩)) W:=(by rw [hS];exact HLK.out);clear hS;go_simp;(try with_reducible rfl))
              simp only [Act.put,lsA,lsZ,lsS]))
          refine seqX_call (v:=.int .i64 mq.size) 34 #[.pointer (some ⟨p,0,none⟩)] (by rfl) (by kernel_rfl) (by rfl) (fun W=>by go_simp) (fun w' hS=>by subst hS;exact HSZ.out.mono (fun e w'' h=>⟨h.1,h.2⟩)) ?_;simp only [Act.put,lsA,lsZ,lsS];repeat (first
           | refine seqX_skip (by rfl) ?_
           | (refine seqX_val (v:= ?_) (by rfl) (by rfl) ?_ ?_
              rotate_left 1
              (intro W;have hv0:=HBD.out W;go_simp;(try with_reducible rfl))
              simp only [Act.put,lsA,lsZ,lsS])
           | (refine seqX_no (by rfl) (by rfl) ?_
              simp only [Act.put,lsA,lsZ,lsS])
           | (refine seqX_valS (v:= ?_) (by rfl) (by kernel_rfl) (by rfl) ?_ ?_
              rotate_left 1
              (intro W hS;have e0:W.cell? ⟨L.s,11,none⟩=some (.map (some L.fl)):=(by rw [hS];exact C11.out);have e1:W.cell? ⟨tG,2,none⟩=some (.int .i64 i):=(by rw [hS];exact G2.out);have e2:(Instr.lookup 100 (.map (some L.fl)) (.int .i64 i) false).run Tryz.prog W=.ok (.pointer (some ⟨p,0,none⟩)) W:=(by rw [hS];exact HLK.out);clear hS;go_simp;(try with_reducible rfl))
              simp only [Act.put,lsA,lsZ,lsS]))
          intro W hS;obtain rfl:W=wz.drew:=hS;simp only [List.reverse_cons,List.reverse_nil,List.nil_append,List.cons_append];go_wp2_with (refine wpList_store_row rfl 29 (.tmp 4) (.tmp 131) rfl (b0+1) #[.int .i64 0,.int .i64 i,.int .i64 mq.size,.int .i64 0,.int .i64 0,.bool false,.slice none 0 0,.slice none 0 0] rfl rfl 29 _ KK.out Tryz.size29 rfl HOC.out ?_);have KF:=setRow_at (cs':= #[.int .i64 0,.int .i64 i,.int .i64 mq.size,.int .i64 0,.int .i64 0,.bool false,.slice none 0 0,.slice none 0 0]) KK.out;exact bodyPost_ret (v:=plainV 0 i mq.size 0 0 false) (results_cell_row rfl _ _ (b0+1) 29 _ (0,0) _ rfl KF Tryz.underlying29 rfl Tryz.size29) rfl
           (HQF.out _ _ _ _ TZ.out SZ.out rfl (((Fr.refl (S:=fun j=>j=b0+1) wz).drew).trans (Fr.setRow (S:=fun j=>j=b0+1) (Fr.refl _) (.inl rfl) _) (fun _ _ e=>e)))
         | false=>
          have TZ:Hid (StateAt wk ok1 K L {addS S st cn r.nx with F:=updF S.F i (some mq),U:=countedU (updF S.F i (some mq)) (addS S st cn r.nx).U,K:=closedK r.cl S.K ⟨xc,xh,i,xw⟩} (n+st.length)):=lH (by rw [hcl];exact TK.out);have SZ:=SK;have ZGz:=ZGk;have ZPz:=ZPk;rw [hcl] at k8;go_wp2_with fail;obtain ⟨wz,rfl⟩:∃wz:World,wz=wk:=⟨_,rfl⟩
          obtain ⟨oz,rfl⟩:∃oz:Nat→Nat,oz=ok1:=⟨_,rfl⟩
          have OKZ:Hid (StOk {addS S st cn r.nx with F:=updF S.F i (some mq),U:=countedU (updF S.F i (some mq)) (addS S st cn r.nx).U,K:=closedK r.cl S.K ⟨xc,xh,i,xw⟩}):=lH ⟨OKK.out.tree,OKK.out.file⟩;have fz:Fr No wz wz.drew:=(Fr.refl _).drew;have tzd:=TZ.out.no OKZ.out SZ.out.fresh fz;obtain ⟨p,hlk,hfa,_⟩:=tzd.files.turn OKZ.out.file (i:=i) (m:=mq) (updF_same _ _ _);have HLK:=lH (hlk _ (Fr.refl _));have HSZ:=lH (fsize_ p mq wz.drew hfa.reads);have C11:Hid (wz.drew.cell? ⟨L.s,11,none⟩=some (.map (some L.fl))):=lH (tzd.cell 11);have G2:Hid (wz.drew.cell? ⟨tG,2,none⟩=some (.int .i64 i)):=lH (by rw [cell_at (ZGz.out.no fz).1];rfl);have KK:=lH (ZPz.out.no fz).1;clear tzd hlk hfa fz;refine wp_region_text mixed (fun W=>W=wz.drew) [11] (by kernel_rfl) (by kernel_rfl) (by kernel_rfl) (by kernel_rfl) (fun _ _ d _ _ h=>by cases d<;>exact h) rfl ?_;repeat (first
           | refine seqX_skip (by rfl) ?_
           | (refine seqX_val (v:= ?_) (by rfl) (by rfl) ?_ ?_
              rotate_left 1
              (intro W;have hv0:=HBD.out W;go_simp;(try with_reducible rfl))
              simp only [Act.put,lsA,lsZ,lsS])
           | (refine seqX_no (by rfl) (by rfl) ?_
              simp only [Act.put,lsA,lsZ,lsS])
           | (refine seqX_valS (v:= ?_) (by rfl) (by kernel_rfl) (by rfl) ?_ ?_
              rotate_left 1
              (intro W hS;have e0:W.cell? ⟨L.s,11,none⟩=some (.map (some L.fl)):=(by rw [hS];exact C11.out);have e1:W.cell? ⟨tG,2,none⟩=some (.int .i64 i):=(by rw [hS];exact G2.out);have e2:(Instr.lookup 100 (.map (some L.fl)) (.int .i64 i) false).run Tryz.prog W=.ok (.pointer (some ⟨p,0,none⟩)) W:=(by rw [hS];exact HLK.out);clear hS;go_simp;(try with_reducible rfl))
              simp only [Act.put,lsA,lsZ,lsS]))
          refine seqX_call (v:=.int .i64 mq.size) 34 #[.pointer (some ⟨p,0,none⟩)] (by rfl) (by kernel_rfl) (by rfl) (fun W=>by go_simp) (fun w' hS=>by subst hS;exact HSZ.out.mono (fun e w'' h=>⟨h.1,h.2⟩)) ?_;simp only [Act.put,lsA,lsZ,lsS];repeat (first
           | refine seqX_skip (by rfl) ?_
           | (refine seqX_val (v:= ?_) (by rfl) (by rfl) ?_ ?_
              rotate_left 1
              (intro W;have hv0:=HBD.out W;go_simp;(try with_reducible rfl))
              simp only [Act.put,lsA,lsZ,lsS])
           | (refine seqX_no (by rfl) (by rfl) ?_
              simp only [Act.put,lsA,lsZ,lsS])
           | (refine seqX_valS (v:= ?_) (by rfl) (by kernel_rfl) (by rfl) ?_ ?_
              rotate_left 1
              (intro W hS;have e0:W.cell? ⟨L.s,11,none⟩=some (.map (some L.fl)):=(by rw [hS];exact C11.out);have e1:W.cell? ⟨tG,2,none⟩=some (.int .i64 i):=(by rw [hS];exact G2.out);have e2:(Instr.lookup 100 (.map (some L.fl)) (.int .i64 i) false).run Tryz.prog W=.ok (.pointer (some ⟨p,0,none⟩)) W:=(by rw [hS];exact HLK.out);clear hS;go_simp;(try with_reducible rfl))
              simp only [Act.put,lsA,lsZ,lsS]))
          intro W hS;obtain rfl:W=wz.drew:=hS;simp only [List.reverse_cons,List.reverse_nil,List.nil_append,List.cons_append];go_wp2_with (refine wpList_store_row rfl 29 (.tmp 4) (.tmp 131) rfl (b0+1) #[.int .i64 0,.int .i64 i,.int .i64 mq.size,.int .i64 0,.int .i64 0,.bool false,.slice none 0 0,.slice none 0 0] rfl rfl 29 _ KK.out Tryz.size29 rfl HOC.out ?_);have KF:=setRow_at (cs':= #[.int .i64 0,.int .i64 i,.int .i64 mq.size,.int .i64 0,.int .i64 0,.bool false,.slice none 0 0,.slice none 0 0]) KK.out;exact bodyPost_ret (v:=plainV 0 i mq.size 0 0 false) (results_cell_row rfl _ _ (b0+1) 29 _ (0,0) _ rfl KF Tryz.underlying29 rfl Tryz.size29) rfl
           (HQF.out _ _ _ _ TZ.out SZ.out rfl (((Fr.refl (S:=fun j=>j=b0+1) wz).drew).trans (Fr.setRow (S:=fun j=>j=b0+1) (Fr.refl _) (.inl rfl) _) (fun _ _ e=>e)))
    ·rw [if_neg hx0] at he;subst he;have HX:=lH (HC2'.out HNW.out hx0);have FS:=lH (FA.out.trans fS (fun _ _ e=>e));have HNE:=lH hx0;clear fS hx0;go_wp2_with fail;exact ⟨rfl,HR.out _ HNE.out HX.out _ _ rfl (F0.out.trans FS.out (fun _ _ e=>e))⟩
end Go.Proofs.YtlcojhddnpmgmaaGreat
