/- Part of the proof; the last text says what is proved. -/
import Derived.Test.YtlcojhddnpmgmaaGreatW20
import Derived.Deep.DeepCutAuto
set_option linter.unusedSimpArgs false
set_option linter.unusedVariables false
set_option maxRecDepth 100000
set_option maxHeartbeats 6400000
namespace Go.Proofs.YtlcojhddnpmgmaaGreat
open Go.RowKit
def RowsAt {α:Type} (c:α→List Value) (n:Nat) (w:World) (o:Nat→Nat) (v:Value) (L:List α):Prop:=
 ∃base cap,v=.slice base L.length cap∧(L≠ []→∃b off,base=some ⟨b,off,none⟩∧o b=0∧b<w.heap.size∧∀(j:Nat) x,L[j]? =some x→w.rangeAt b (off+j*n) (c x))
theorem RowsAt.step {α:Type} {c:α→List Value} {n:Nat} {C:Nat→Prop} {w w':World} {o o':Nat→Nat} {v:Value} {L:List α} (h:RowsAt c n w o v L) (s:Step C w o w' o') (h0:¬C 0):RowsAt c n w' o' v L:=by
 obtain ⟨base,cap,e,h1⟩:=h;refine ⟨base,cap,e,fun hL=> ?_⟩;obtain ⟨b,off,e1,e2,e3,e4⟩:=h1 hL;exact ⟨b,off,e1,(s.old b e3).trans e2,Nat.lt_of_lt_of_le e3 s.fr.size,fun j x hj i u hu=>s.fr.cell_of (e4 j x hj i u hu) (by rw [e2];exact h0)⟩
theorem RowsAt.no {α:Type} {c:α→List Value} {n:Nat} {w w':World} {o:Nat→Nat} {v:Value} {L:List α} (h:RowsAt c n w o v L) (hf:Fresh w o) (f:Fr No w w'):RowsAt c n w' o v L:=h.step (Step.no (C:=fun _=>False) hf f) id
theorem RowsAt.at {α:Type} {c:α→List Value} {n:Nat} {w:World} {o:Nat→Nat} {base:Option Addr} {cap:Nat} {L:List α} (h:RowsAt c n w o (.slice base L.length cap) L) (hL:L≠ []):∃b off,base=some ⟨b,off,none⟩∧o b=0∧b<w.heap.size∧∀(j:Nat) x,L[j]? =some x→w.rangeAt b (off+j*n) (c x):=by
 obtain ⟨base',cap',e,h1⟩:=h;cases e;exact h1 hL
theorem RowsAt.slice {α:Type} {c:α→List Value} {n:Nat} {w:World} {o:Nat→Nat} {v:Value} {L:List α} (h:RowsAt c n w o v L):∃base cap,v=.slice base L.length cap:=by
 obtain ⟨base,cap,e,_⟩:=h;exact ⟨base,cap,e⟩
def noStp:Stp→Option Int:=fun _=>none
abbrev Sz:=Stp×Int
def szC (x:Sz):List Value:= [.int .i64 x.1.1,.int .i64 x.1.2.1,.int .i64 x.1.2.2,.int .i64 x.2]
def szOk (S:St) (nx c l:Int) (m:Stp→Option Int) (x:Sz):Prop:=
 (m x.1).isSome=false∧(S.U x.1).isSome=false∧(x.1.1==c)=true∧(x.1.2.1==l)=true∧S.next c.toNat≤x.1.2.2∧x.1.2.2<nx∧1≤x.2∧x.2≤6000
instance (S:St) (nx c l:Int) (m:Stp→Option Int) (x:Sz):Decidable (szOk S nx c l m x):=by unfold szOk;exact inferInstance
def sizesOf (S:St) (nx c l:Int):List Sz→(Stp→Option Int)→Option (Stp→Option Int)
 | [],m=>some m
 | x::L,m=>if szOk S nx c l m x then sizesOf S nx c l L (fun z=>if z=x.1 then some x.2 else m z) else none
def stripesE (S:St) (sw nx:Int) (st:List Sz) (c l:Int):Int×(Stp→Option Int):=
 if st≠ []∧sw≠S.swaps then (15,noStp) else if ¬(S.next c.toNat≤nx∧nx≤1073741825) then (4,noStp) else match sizesOf S nx c l st noStp with
  | none=>(4,noStp)
  | some m=>(0,m)
def StrPost (w:World) (k:Nat) (x:Int×(Stp→Option Int)) (e:Ending) (w':World):Prop:=
 Fr No w w'∧if x.1=0 then ∃b c,e=.returned (.map (some b))∧MapAt encP w' b c x.2∧w.heap.size≤b∧c≤k else e=.panicked (refC x.1)
theorem Tryz.size114:(Tryz.prog.info? 114).map (·.size)=some 4:=by kernel_rfl
theorem next_cell {w:World} {o:Nat→Nat} {K n:Nat} {L:Plc} {S:St} (h:StateAt w o K L S n) (k:Nat) (hk:k<5):w.cell? ⟨L.s,3+k,none⟩=some (.int .i64 (S.next k)):=by
 rw [h.cell]
 match k,hk with
 | 0,_=>rfl
 | 1,_=>rfl
 | 2,_=>rfl
 | 3,_=>rfl
 | 4,_=>rfl
theorem stripes_ (o:Nat→Nat) (K n:Nat) (L:Plc) (S:St) (r:Req) (rv dv:Value) (st:List Sz) (k:Nat) (l:Int) (w:World) (h:StateAt w o K L S n) (ok:StOk S) (hf:Fresh w o) (hr:RowsAt szC 4 w o rv st) (hg:∀x∈st,stpGood x.1) (hk:k<5) (hlen:st.length≤1000000):
  Calls Tryz.prog 92 #[.pointer (some ⟨L.s,0,none⟩),.agg (r.cells rv dv),.int .i64 k,.int .i64 l] w (StrPost w st.length (stripesE S r.sw r.nx st k l)):=by
 have mixed:Tryz.prog.follows .mixedOrders=true:=by kernel_rfl
 obtain ⟨base,cap,rfl⟩:=hr.slice;have f0:Fr No w (w.alloc (.cells (r.cells (.slice base st.length cap) dv) 36)):=(Fr.refl w).alloc _;have k0:=new_at w (.cells (r.cells (.slice base st.length cap) dv) 36);have F0:=lH f0;have H0:=lH (h.no ok hf f0);have R0:=lH (hr.no hf f0);have G0:Hid (Fresh _ o):=lH (Step.no (C:=fun _=>False) hf f0).fresh;have OK:=lH ok;have HG:=lH hg;have HLN:=lH hlen;have hq1:(0:Int)≤(k:Int):=by omega
 have hq2:(k:Int)<5:=by omega
 have hq3:¬(k:Int)<0:=by omega
 have hq4:¬(5:Int)≤(k:Int):=by omega
 have HE:stripesE S r.sw r.nx st k l=if st≠ []∧r.sw≠S.swaps then ((15:Int),noStp) else if ¬(S.next k≤r.nx∧r.nx≤1073741825) then (4,noStp) else match sizesOf S r.nx k l st noStp with
  | none=>(4,noStp)
  | some m=>(0,m):=rfl
 generalize stripesE S r.sw r.nx st k l=X at*;have HR:Hid (∀c,c≠0→X=(c,noStp)→∀e w',e=.panicked (refC c)→Fr No w w'→StrPost w st.length X e w'):=lH (fun c hc hX e w' he f=>by
  subst hX;exact ⟨f,by rw [if_neg hc];exact he⟩)
 have HQ:Hid (∀m,X=(0,m)→∀b c e w',e=.returned (.map (some b))→MapAt encP w' b c m→w.heap.size≤b→c≤st.length→Fr No w w'→StrPost w st.length X e w'):=lH (fun m hX b c e w' he hm hb hc f=>by
  subst hX;exact ⟨f,by rw [if_pos rfl];exact ⟨b,c,he,hm,hb,hc⟩⟩)
 generalize StrPost w st.length X=Q at*;have c1:=H0.out.cell 1;have cn:=next_cell H0.out k hk;clear h ok hf hr hg f0 hlen;unfold Req.cells at*;have d8:(w.alloc (.cells #[.int .i64 r.c,.int .i64 r.l,.int .i64 r.q,.int .i64 r.kind,.string (ba r.path),.string (ba r.to),.bool r.dir,.bool r.wr,.bool r.cl,.int .i64 r.h,.int .i64 r.nx,.int .i64 r.sw,.slice base st.length cap,dv] 36)).cell? ⟨w.heap.size,10,none⟩=some (.int .i64 r.nx):=by rw [cell_at k0];rfl
 have d9:(w.alloc (.cells #[.int .i64 r.c,.int .i64 r.l,.int .i64 r.q,.int .i64 r.kind,.string (ba r.path),.string (ba r.to),.bool r.dir,.bool r.wr,.bool r.cl,.int .i64 r.h,.int .i64 r.nx,.int .i64 r.sw,.slice base st.length cap,dv] 36)).cell? ⟨w.heap.size,11,none⟩=some (.int .i64 r.sw):=by rw [cell_at k0];rfl
 have d10:(w.alloc (.cells #[.int .i64 r.c,.int .i64 r.l,.int .i64 r.q,.int .i64 r.kind,.string (ba r.path),.string (ba r.to),.bool r.dir,.bool r.wr,.bool r.cl,.int .i64 r.h,.int .i64 r.nx,.int .i64 r.sw,.slice base st.length cap,dv] 36)).cell? ⟨w.heap.size,12,none⟩=some (.slice base st.length cap):=by rw [cell_at k0];rfl
 have hc1:(w.alloc (.cells #[.int .i64 r.c,.int .i64 r.l,.int .i64 r.q,.int .i64 r.kind,.string (ba r.path),.string (ba r.to),.bool r.dir,.bool r.wr,.bool r.cl,.int .i64 r.h,.int .i64 r.nx,.int .i64 r.sw,.slice base st.length cap,dv] 36)).cell? ⟨L.s,1,none⟩=some (.int .i64 S.swaps):=c1;clear c1;have F01:=lH (Fr.refl (S:=No) w);go_enter Tryz.func92,Tryz.ntmps92;go_upto_region 1 with fail
 generalize (w.alloc (.cells #[.int .i64 r.c,.int .i64 r.l,.int .i64 r.q,.int .i64 r.kind,.string (ba r.path),.string (ba r.to),.bool r.dir,.bool r.wr,.bool r.cl,.int .i64 r.h,.int .i64 r.nx,.int .i64 r.sw,.slice base st.length cap,dv] 36))=w0 at*;have HB0:Hid (w.heap.size<w0.heap.size):=lH (lt_of_block k0);generalize hb0:w.heap.size=b0 at*;have D8:=lH d8;have D9:=lH d9;have D10:=lH d10;have C1:=lH hc1;have CN:=lH cn;have HEE:=lH HE;clear k0 d8 d9 d10 hc1 cn HE F01;go_cut [] (fun wx=>Hid (Fr No w0 wx)∧Hid (¬(st≠ []∧r.sw≠S.swaps)))
 case first=>
  cases hE:(((st.length:Nat):Int)==0) with
  | true=>
   have HN:Hid (st= []):=lH (by
    have:st.length=0:=(by simpa using hE)
    exact List.length_eq_zero_iff.1 this)
   refine wp_region_text mixed (fun W=>W=w0.drew) [13] (by kernel_rfl) (by kernel_rfl) (by kernel_rfl) (by kernel_rfl) (fun _ _ d _ _ h=>by cases d<;>exact h) rfl ?_;repeat (first
    | refine seqX_skip (by rfl) ?_
    | (refine seqX_val (v:= ?_) (by rfl) (by rfl) ?_ ?_
       rotate_left 1
       (intro W;go_simp;(try with_reducible rfl))
       simp only [Act.put,lsA,lsZ,lsS])
    | (refine seqX_no (by rfl) (by rfl) ?_
       simp only [Act.put,lsA,lsZ,lsS])
    | (refine seqX_valS (v:= ?_) (by rfl) (by kernel_rfl) (by rfl) ?_ ?_
       rotate_left 1
       (intro W hS;have e0:W.cell? ⟨b0,12,none⟩=some (.slice base st.length cap):=(by rw [hS];exact D10.out);clear hS;go_simp;(try with_reducible rfl))
       simp only [Act.put,lsA,lsZ,lsS]))
   intro W hS;obtain rfl:W=w0.drew:=hS;simp only [List.reverse_cons,List.reverse_nil,List.nil_append,List.cons_append];go_wp2_with fail;refine (must_yes _ _).mono ?_;rintro e w2 ⟨rfl,rfl⟩;go_wp2_with fail;go_meet;exact ⟨lH (Fr.refl _).drew,lH (fun h=>h.1 HN.out)⟩
  | false=>
   have HNE:Hid (st≠ []):=lH (by
    intro e;subst e;cases hE)
   cases hS2:(r.sw==S.swaps) with
   | true=>
    have HSW:Hid (r.sw=S.swaps):=lH (by simpa using hS2);refine wp_region_text mixed (fun W=>W=w0.drew) [13] (by kernel_rfl) (by kernel_rfl) (by kernel_rfl) (by kernel_rfl) (fun _ _ d _ _ h=>by cases d<;>exact h) rfl ?_;repeat (first
     | refine seqX_skip (by rfl) ?_
     | (refine seqX_val (v:= ?_) (by rfl) (by rfl) ?_ ?_
        rotate_left 1
        (intro W;go_simp;(try with_reducible rfl))
        simp only [Act.put,lsA,lsZ,lsS])
     | (refine seqX_no (by rfl) (by rfl) ?_
        simp only [Act.put,lsA,lsZ,lsS])
     | (refine seqX_valS (v:= ?_) (by rfl) (by kernel_rfl) (by rfl) ?_ ?_
        rotate_left 1
        (intro W hS;have e0:W.cell? ⟨b0,12,none⟩=some (.slice base st.length cap):=(by rw [hS];exact D10.out);have e1:W.cell? ⟨b0,11,none⟩=some (.int .i64 r.sw):=(by rw [hS];exact D9.out);have e2:W.cell? ⟨L.s,1,none⟩=some (.int .i64 S.swaps):=(by rw [hS];exact C1.out);clear hS;go_simp;(try with_reducible rfl))
        simp only [Act.put,lsA,lsZ,lsS]))
    intro W hS;obtain rfl:W=w0.drew:=hS;simp only [List.reverse_cons,List.reverse_nil,List.nil_append,List.cons_append];go_wp2_with fail;refine (must_yes _ _).mono ?_;rintro e w2 ⟨rfl,rfl⟩;go_wp2_with fail;go_meet;exact ⟨lH (Fr.refl _).drew,lH (fun h=>h.2 HSW.out)⟩
   | false=>
    have HSW:Hid (r.sw≠S.swaps):=lH (by simpa using hS2);have HX:Hid (X=(15,noStp)):=lH (by rw [HEE.out,if_pos ⟨HNE.out,HSW.out⟩]);refine wp_region_text mixed (fun W=>W=w0.drew) [13] (by kernel_rfl) (by kernel_rfl) (by kernel_rfl) (by kernel_rfl) (fun _ _ d _ _ h=>by cases d<;>exact h) rfl ?_;repeat (first
     | refine seqX_skip (by rfl) ?_
     | (refine seqX_val (v:= ?_) (by rfl) (by rfl) ?_ ?_
        rotate_left 1
        (intro W;go_simp;(try with_reducible rfl))
        simp only [Act.put,lsA,lsZ,lsS])
     | (refine seqX_no (by rfl) (by rfl) ?_
        simp only [Act.put,lsA,lsZ,lsS])
     | (refine seqX_valS (v:= ?_) (by rfl) (by kernel_rfl) (by rfl) ?_ ?_
        rotate_left 1
        (intro W hS;have e0:W.cell? ⟨b0,12,none⟩=some (.slice base st.length cap):=(by rw [hS];exact D10.out);have e1:W.cell? ⟨b0,11,none⟩=some (.int .i64 r.sw):=(by rw [hS];exact D9.out);have e2:W.cell? ⟨L.s,1,none⟩=some (.int .i64 S.swaps):=(by rw [hS];exact C1.out);clear hS;go_simp;(try with_reducible rfl))
        simp only [Act.put,lsA,lsZ,lsS]))
    intro W hS;obtain rfl:W=w0.drew:=hS;simp only [List.reverse_cons,List.reverse_nil,List.nil_append,List.cons_append];go_wp2_with fail;refine (must_no _ _).mono ?_;rintro e w2 ⟨rfl,rfl⟩;go_wp2_with fail;exact ⟨rfl,HR.out 15 (by decide) HX.out _ _ rfl (F0.out.trans (Fr.refl _).drew (fun _ _ e=>e))⟩
 case rest=>
  obtain ⟨F1,HC1⟩:=hcut;obtain ⟨wa,rfl⟩:∃wa:World,wa=wc:=⟨_,rfl⟩
  have D8':=lH (F1.out.cell_of D8.out id);have CN':=lH (F1.out.cell_of CN.out id);go_upto_region 2 with fail
  go_cut [] (fun wx=>Hid (Fr No w0 wx)∧Hid (S.next k≤r.nx∧r.nx≤1073741825))
  case first=>
   by_cases q1:S.next k≤r.nx
   ·by_cases q2:r.nx≤1073741825
    ·have HC:=lH (And.intro q1 q2);refine wp_region_text mixed (fun W=>W=wa.drew) [14] (by kernel_rfl) (by kernel_rfl) (by kernel_rfl) (by kernel_rfl) (fun _ _ d _ _ h=>by cases d<;>exact h) rfl ?_;repeat (first
      | refine seqX_skip (by rfl) ?_
      | (refine seqX_val (v:= ?_) (by rfl) (by rfl) ?_ ?_
         rotate_left 1
         (intro W;go_simp;(try with_reducible rfl))
         simp only [Act.put,lsA,lsZ,lsS])
      | (refine seqX_no (by rfl) (by rfl) ?_
         simp only [Act.put,lsA,lsZ,lsS])
      | (refine seqX_valS (v:= ?_) (by rfl) (by kernel_rfl) (by rfl) ?_ ?_
         rotate_left 1
         (intro W hS;have e0:W.cell? ⟨b0,10,none⟩=some (.int .i64 r.nx):=(by rw [hS];exact D8'.out);have e1:W.cell? ⟨L.s,3+k,none⟩=some (.int .i64 (S.next k)):=(by rw [hS];exact CN'.out);clear hS;go_simp;(try with_reducible rfl))
         simp only [Act.put,lsA,lsZ,lsS]))
     intro W hS;obtain rfl:W=wa.drew:=hS;simp only [List.reverse_cons,List.reverse_nil,List.nil_append,List.cons_append];go_wp2_with fail;refine (must_yes _ _).mono ?_;rintro e w2 ⟨rfl,rfl⟩;go_wp2_with fail;go_meet;exact ⟨lH (F1.out.trans (Fr.refl _).drew (fun _ _ e=>e)),HC⟩
    ·have q3:¬r.nx<1073741826:=by omega
     have HX:Hid (X=(4,noStp)):=lH (by rw [HEE.out,if_neg HC1.out,if_pos (fun h=>q2 h.2)]);refine wp_region_text mixed (fun W=>W=wa.drew) [14] (by kernel_rfl) (by kernel_rfl) (by kernel_rfl) (by kernel_rfl) (fun _ _ d _ _ h=>by cases d<;>exact h) rfl ?_;repeat (first
      | refine seqX_skip (by rfl) ?_
      | (refine seqX_val (v:= ?_) (by rfl) (by rfl) ?_ ?_
         rotate_left 1
         (intro W;go_simp;(try with_reducible rfl))
         simp only [Act.put,lsA,lsZ,lsS])
      | (refine seqX_no (by rfl) (by rfl) ?_
         simp only [Act.put,lsA,lsZ,lsS])
      | (refine seqX_valS (v:= ?_) (by rfl) (by kernel_rfl) (by rfl) ?_ ?_
         rotate_left 1
         (intro W hS;have e0:W.cell? ⟨b0,10,none⟩=some (.int .i64 r.nx):=(by rw [hS];exact D8'.out);have e1:W.cell? ⟨L.s,3+k,none⟩=some (.int .i64 (S.next k)):=(by rw [hS];exact CN'.out);clear hS;go_simp;(try with_reducible rfl))
         simp only [Act.put,lsA,lsZ,lsS]))
     intro W hS;obtain rfl:W=wa.drew:=hS;simp only [List.reverse_cons,List.reverse_nil,List.nil_append,List.cons_append];go_wp2_with fail;refine (must_no _ _).mono ?_;rintro e w2 ⟨rfl,rfl⟩;go_wp2_with fail;exact ⟨rfl,HR.out 4 (by decide) HX.out _ _ rfl (F0.out.trans (F1.out.trans (Fr.refl _).drew (fun _ _ e=>e)) (fun _ _ e=>e))⟩
   ·have HX:Hid (X=(4,noStp)):=lH (by rw [HEE.out,if_neg HC1.out,if_pos (fun h=>q1 h.1)]);refine wp_region_text mixed (fun W=>W=wa.drew) [14] (by kernel_rfl) (by kernel_rfl) (by kernel_rfl) (by kernel_rfl) (fun _ _ d _ _ h=>by cases d<;>exact h) rfl ?_;repeat (first
     | refine seqX_skip (by rfl) ?_
     | (refine seqX_val (v:= ?_) (by rfl) (by rfl) ?_ ?_
        rotate_left 1
        (intro W;go_simp;(try with_reducible rfl))
        simp only [Act.put,lsA,lsZ,lsS])
     | (refine seqX_no (by rfl) (by rfl) ?_
        simp only [Act.put,lsA,lsZ,lsS])
     | (refine seqX_valS (v:= ?_) (by rfl) (by kernel_rfl) (by rfl) ?_ ?_
        rotate_left 1
        (intro W hS;have e0:W.cell? ⟨b0,10,none⟩=some (.int .i64 r.nx):=(by rw [hS];exact D8'.out);have e1:W.cell? ⟨L.s,3+k,none⟩=some (.int .i64 (S.next k)):=(by rw [hS];exact CN'.out);clear hS;go_simp;(try with_reducible rfl))
        simp only [Act.put,lsA,lsZ,lsS]))
    intro W hS;obtain rfl:W=wa.drew:=hS;simp only [List.reverse_cons,List.reverse_nil,List.nil_append,List.cons_append];go_wp2_with fail;refine (must_no _ _).mono ?_;rintro e w2 ⟨rfl,rfl⟩;go_wp2_with fail;exact ⟨rfl,HR.out 4 (by decide) HX.out _ _ rfl (F0.out.trans (F1.out.trans (Fr.refl _).drew (fun _ _ e=>e)) (fun _ _ e=>e))⟩
  case rest=>
   obtain ⟨F2,HC2⟩:=hcut;obtain ⟨wb,rfl⟩:∃wb:World,wb=wc:=⟨_,rfl⟩
   have hmk:(Instr.makeMap 160 none).run Tryz.prog wb=.ok (.map (some wb.heap.size)) (wb.alloc (.map #[] 0)):=(by kernel_rfl)
   have d10:(wb.alloc (.map #[] 0)).cell? ⟨b0,12,none⟩=some (.slice base st.length cap):=(F2.out.alloc _).cell_of D10.out id;have HM0:=lH (MapAt.made encP wb);have F3:=lH (F2.out.alloc (.map #[] 0));have HXS:Hid (X=match sizesOf S r.nx k l st noStp with
    | none=>(4,noStp)
    | some m=>(0,m)):=lH (by rw [HEE.out,if_neg HC1.out,if_neg (fun h=>h HC2.out)])
   have HMW:Hid (w0.heap.size≤wb.heap.size):=lH F2.out.size;have HBW:Hid (b0≤wb.heap.size):=lH (by have:=F2.out.size;have:=HB0.out;omega);go_wp2_with fail;generalize wb.heap.size=mb at*;go_loopw [47] (fun a wr=>∃(j:Nat) (m:Stp→Option Int) (c:Nat),a=.int .i64 j∧j≤st.length∧Hid (sizesOf S r.nx k l st noStp=sizesOf S r.nx k l (st.drop j) m)∧Hid (MapAt encP wr mb c m)∧c≤j∧Hid (Fr No w0 wr)) (fun a _=>st.length - (intOf a).toNat)
   case atStart=>exact ⟨0,_,0,rfl,Nat.zero_le _,lH rfl,HM0,Nat.le_refl _,F3⟩
   case round=>
    obtain ⟨j,m,c,rfl,hj,HS,HMP,hcj,HF⟩:=hrel;by_cases hlt:j<st.length
    ·have hne:st≠ []:=by
      intro e;subst e;simp at hlt
     obtain ⟨b,off,rfl,ho,hbl,hrows⟩:=(R0.out.no G0.out HF.out).at hne;have HRR:=lH (hrows j st[j] (List.getElem?_eq_getElem hlt));have hgx:=HG.out st[j] (List.getElem_mem hlt);have HSX:Hid (sizesOf S r.nx k l st noStp=if szOk S r.nx k l m st[j] then sizesOf S r.nx k l (st.drop (j+1)) (fun z=>if z=st[j].1 then some st[j].2 else m z) else none):=lH (by
      rw [HS.out,List.drop_eq_getElem_cons hlt];rfl)
     have q1:(j:Int)<(st.length:Int):=(by omega)
     have q3:(0:Int)≤(j:Int):=(by omega)
     generalize st[j]=x at*;have HXF:Hid (¬szOk S r.nx k l m x→X=(4,noStp)):=lH (fun h=>by rw [HXS.out,HSX.out,if_neg h]);unfold szC at HRR;have fX:Fr No wr (wr.alloc (.cells #[.int .i64 x.1.1,.int .i64 x.1.2.1,.int .i64 x.1.2.2,.int .i64 x.2] 114)):=(Fr.refl wr).alloc _;have kX:=new_at wr (.cells #[.int .i64 x.1.1,.int .i64 x.1.2.1,.int .i64 x.1.2.2,.int .i64 x.2] 114);obtain ⟨vv,hvv⟩:∃vv,∀W,Fr No wr W→(Instr.lookup 160 (.map (some mb)) (.agg #[.int .i64 x.1.1,.int .i64 x.1.2.1,.int .i64 x.1.2.2]) true).run Tryz.prog W=.ok (.tuple #[vv,.bool (m x.1).isSome]) W:=by
      have h1:=fun W (f:Fr No wr W)=>(HMP.out.fr f id).look x.1 hgx (t:=160) (e:=3) Tryz.underlying160 (z:=.int .i64 0) (by kernel_rfl) true;cases hmx:m x.1 with
      | none=>
       rw [hmx] at h1;exact ⟨_,h1⟩
      | some y=>
       rw [hmx] at h1;exact ⟨_,h1⟩
     have lk:=hvv _ fX;have RX:=lH (World.rangeAt_of_block kX 0 3);have RX:Hid ((wr.alloc (.cells #[.int .i64 x.1.1,.int .i64 x.1.2.1,.int .i64 x.1.2.2,.int .i64 x.2] 114)).rangeAt wr.heap.size 0 [.int .i64 x.1.1,.int .i64 x.1.2.1,.int .i64 x.1.2.2]):=RX;have KX:=lH kX;have FX:=lH (HF.out.trans fX (fun _ _ e=>e));have FWX:=lH fX;have HGX:=lH hgx;clear hrows hvv kX fX hgx;go_upto_region 8 with (first
      | (refine wpList_load_mid (by rfl) 114 _ (by rfl) b (off+j*4) (by rfl) [.int .i64 x.1.1,.int .i64 x.1.2.1,.int .i64 x.1.2.2,.int .i64 x.2] _ HRR.out Tryz.underlying114 rfl Tryz.size114 ?_)
      | (refine wpList_load_mid (by rfl) 46 _ (by rfl) wr.heap.size 0 (by rfl) [.int .i64 x.1.1,.int .i64 x.1.2.1,.int .i64 x.1.2.2] _ RX.out Tryz.underlying46 rfl Tryz.size46 ?_))
     generalize wr.alloc (.cells #[.int .i64 x.1.1,.int .i64 x.1.2.1,.int .i64 x.1.2.2,.int .i64 x.2] 114)=wX at*;have HTX:Hid (mb<wr.heap.size):=lH HMP.out.lt;generalize wr.heap.size=tX at*;have HLD:=lH (holds_ o K n L S x.1 wX (H0.out.no OK.out G0.out FX.out) OK.out (Step.no (C:=fun _=>False) G0.out FX.out).fresh HGX.out);unfold stpV at HLD;generalize hb1:(m x.1).isSome=b1 at*;generalize hb2:(S.U x.1).isSome=b2 at*;have HB1:=lH hb1;have HB2:=lH hb2;clear lk hb1 hb2;go_cut [] (fun wx=>Hid (Fr No wX wx)∧Hid (b1=false∧b2=false∧(x.1.1==(k:Int))=true∧(x.1.2.1==l)=true))
     case first=>
      cases b1 with
      | true=>
       have HX:=lH (HXF.out (fun h=>by have:=h.1;rw [HB1.out] at this;cases this));go_wp2_with fail;refine (must_no _ _).mono ?_;rintro e w3 ⟨rfl,rfl⟩;go_wp2_with fail;exact ⟨rfl,HR.out 4 (by decide) HX.out _ _ rfl (F0.out.trans (FX.out) (fun _ _ e=>e))⟩
      | false=>
       cases b2 with
       | true=>
        have HX:=lH (HXF.out (fun h=>by have:=h.2.1;rw [HB2.out] at this;cases this));have o0:wX.cell? ⟨tX,0,none⟩=some (.int .i64 x.1.1):=(by rw [cell_at KX.out];rfl)
        have o1:wX.cell? ⟨tX,1,none⟩=some (.int .i64 x.1.2.1):=(by rw [cell_at KX.out];rfl)
        have o2:wX.cell? ⟨tX,2,none⟩=some (.int .i64 x.1.2.2):=(by rw [cell_at KX.out];rfl)
        go_wp2_with fail;refine HLD.out.mono ?_;rintro e w2 ⟨rfl,f2⟩;have k2:=f2.block_of KX.out id;have p0:w2.cell? ⟨tX,0,none⟩=some (.int .i64 x.1.1):=(by rw [cell_at k2];rfl)
        have p1:w2.cell? ⟨tX,1,none⟩=some (.int .i64 x.1.2.1):=(by rw [cell_at k2];rfl)
        have F2X:=lH f2;clear k2 f2;go_wp2_with fail;refine (must_no _ _).mono ?_;rintro e w3 ⟨rfl,rfl⟩;go_wp2_with fail;exact ⟨rfl,HR.out 4 (by decide) HX.out _ _ rfl (F0.out.trans (FX.out.trans F2X.out (fun _ _ e=>e)) (fun _ _ e=>e))⟩
       | false=>
        cases hb3:(x.1.1==(k:Int)) with
        | false=>
         have HX:=lH (HXF.out (fun h=>by have:=h.2.2.1;rw [hb3] at this;cases this));have o0:wX.cell? ⟨tX,0,none⟩=some (.int .i64 x.1.1):=(by rw [cell_at KX.out];rfl)
         have o1:wX.cell? ⟨tX,1,none⟩=some (.int .i64 x.1.2.1):=(by rw [cell_at KX.out];rfl)
         have o2:wX.cell? ⟨tX,2,none⟩=some (.int .i64 x.1.2.2):=(by rw [cell_at KX.out];rfl)
         go_wp2_with fail;refine HLD.out.mono ?_;rintro e w2 ⟨rfl,f2⟩;have k2:=f2.block_of KX.out id;have p0:w2.cell? ⟨tX,0,none⟩=some (.int .i64 x.1.1):=(by rw [cell_at k2];rfl)
         have p1:w2.cell? ⟨tX,1,none⟩=some (.int .i64 x.1.2.1):=(by rw [cell_at k2];rfl)
         have F2X:=lH f2;clear k2 f2;go_wp2_with fail;refine (must_no _ _).mono ?_;rintro e w3 ⟨rfl,rfl⟩;go_wp2_with fail;exact ⟨rfl,HR.out 4 (by decide) HX.out _ _ rfl (F0.out.trans (FX.out.trans F2X.out (fun _ _ e=>e)) (fun _ _ e=>e))⟩
        | true=>
         cases hb4:(x.1.2.1==l) with
         | false=>
          have HX:=lH (HXF.out (fun h=>by have:=h.2.2.2.1;rw [hb4] at this;cases this));have o0:wX.cell? ⟨tX,0,none⟩=some (.int .i64 x.1.1):=(by rw [cell_at KX.out];rfl)
          have o1:wX.cell? ⟨tX,1,none⟩=some (.int .i64 x.1.2.1):=(by rw [cell_at KX.out];rfl)
          have o2:wX.cell? ⟨tX,2,none⟩=some (.int .i64 x.1.2.2):=(by rw [cell_at KX.out];rfl)
          go_wp2_with fail;refine HLD.out.mono ?_;rintro e w2 ⟨rfl,f2⟩;have k2:=f2.block_of KX.out id;have p0:w2.cell? ⟨tX,0,none⟩=some (.int .i64 x.1.1):=(by rw [cell_at k2];rfl)
          have p1:w2.cell? ⟨tX,1,none⟩=some (.int .i64 x.1.2.1):=(by rw [cell_at k2];rfl)
          have F2X:=lH f2;clear k2 f2;go_wp2_with fail;refine (must_no _ _).mono ?_;rintro e w3 ⟨rfl,rfl⟩;go_wp2_with fail;exact ⟨rfl,HR.out 4 (by decide) HX.out _ _ rfl (F0.out.trans (FX.out.trans F2X.out (fun _ _ e=>e)) (fun _ _ e=>e))⟩
         | true=>
          have HB34:=lH (And.intro hb3 hb4);have o0:wX.cell? ⟨tX,0,none⟩=some (.int .i64 x.1.1):=(by rw [cell_at KX.out];rfl)
          have o1:wX.cell? ⟨tX,1,none⟩=some (.int .i64 x.1.2.1):=(by rw [cell_at KX.out];rfl)
          have o2:wX.cell? ⟨tX,2,none⟩=some (.int .i64 x.1.2.2):=(by rw [cell_at KX.out];rfl)
          go_wp2_with fail;refine HLD.out.mono ?_;rintro e w2 ⟨rfl,f2⟩;have k2:=f2.block_of KX.out id;have p0:w2.cell? ⟨tX,0,none⟩=some (.int .i64 x.1.1):=(by rw [cell_at k2];rfl)
          have p1:w2.cell? ⟨tX,1,none⟩=some (.int .i64 x.1.2.1):=(by rw [cell_at k2];rfl)
          have F2X:=lH f2;clear k2 f2;go_wp2_with fail;refine (must_yes _ _).mono ?_;rintro e w3 ⟨rfl,rfl⟩;go_wp2_with fail;go_meet;exact ⟨F2X,lH ⟨trivial,trivial,HB34.out.1,HB34.out.2⟩⟩
     case rest=>
      obtain ⟨F8,HC8⟩:=hcut;obtain ⟨wd,rfl⟩:∃wd:World,wd=wc:=⟨_,rfl⟩
      have K8:=lH (F8.out.block_of KX.out id);have P2:Hid (wd.cell? ⟨tX,2,none⟩=some (.int .i64 x.1.2.2)):=lH (by rw [cell_at K8.out];rfl);have P3:Hid (wd.cell? ⟨tX,3,none⟩=some (.int .i64 x.2)):=lH (by rw [cell_at K8.out];rfl);have PN:=lH (F8.out.cell_of (FX.out.cell_of CN.out id) id);have PX:=lH (F8.out.cell_of (FX.out.cell_of D8.out id) id);go_upto_region 9 with fail
      go_cut [] (fun wx=>Hid (Fr No wd wx)∧Hid (S.next k≤x.1.2.2∧x.1.2.2<r.nx∧1≤x.2∧x.2≤6000))
      case first=>
       by_cases q5:S.next k≤x.1.2.2
       ·by_cases q6:x.1.2.2<r.nx
        ·by_cases q7:1≤x.2
         ·by_cases q8:x.2≤6000
          ·have HC:=lH (And.intro q5 (And.intro q6 (And.intro q7 q8)));refine wp_region_text mixed (fun W=>W=wd.drew) [28] (by kernel_rfl) (by kernel_rfl) (by kernel_rfl) (by kernel_rfl) (fun _ _ d _ _ h=>by cases d<;>exact h) rfl ?_;repeat (first
            | refine seqX_skip (by rfl) ?_
            | (refine seqX_val (v:= ?_) (by rfl) (by rfl) ?_ ?_
               rotate_left 1
               (intro W;go_simp;(try with_reducible rfl))
               simp only [Act.put,lsA,lsZ,lsS])
            | (refine seqX_no (by rfl) (by rfl) ?_
               simp only [Act.put,lsA,lsZ,lsS])
            | (refine seqX_valS (v:= ?_) (by rfl) (by kernel_rfl) (by rfl) ?_ ?_
               rotate_left 1
               (intro W hS;have e0:W.cell? ⟨tX,2,none⟩=some (.int .i64 x.1.2.2):=(by rw [hS];exact P2.out);have e1:W.cell? ⟨tX,3,none⟩=some (.int .i64 x.2):=(by rw [hS];exact P3.out);have e2:W.cell? ⟨L.s,3+k,none⟩=some (.int .i64 (S.next k)):=(by rw [hS];exact PN.out);have e3:W.cell? ⟨b0,10,none⟩=some (.int .i64 r.nx):=(by rw [hS];exact PX.out);clear hS;go_simp;(try with_reducible rfl))
               simp only [Act.put,lsA,lsZ,lsS]))
           intro W hS;obtain rfl:W=wd.drew:=hS;simp only [List.reverse_cons,List.reverse_nil,List.nil_append,List.cons_append];go_wp2_with fail;refine (must_yes _ _).mono ?_;rintro e w2 ⟨rfl,rfl⟩;go_wp2_with fail;go_meet;exact ⟨lH (Fr.refl _).drew,HC⟩
          ·have HX:=lH (HXF.out (fun h=>q8 h.2.2.2.2.2.2.2));have q9:¬x.2<6001:=(by omega)
           refine wp_region_text mixed (fun W=>W=wd.drew) [28] (by kernel_rfl) (by kernel_rfl) (by kernel_rfl) (by kernel_rfl) (fun _ _ d _ _ h=>by cases d<;>exact h) rfl ?_;repeat (first
            | refine seqX_skip (by rfl) ?_
            | (refine seqX_val (v:= ?_) (by rfl) (by rfl) ?_ ?_
               rotate_left 1
               (intro W;go_simp;(try with_reducible rfl))
               simp only [Act.put,lsA,lsZ,lsS])
            | (refine seqX_no (by rfl) (by rfl) ?_
               simp only [Act.put,lsA,lsZ,lsS])
            | (refine seqX_valS (v:= ?_) (by rfl) (by kernel_rfl) (by rfl) ?_ ?_
               rotate_left 1
               (intro W hS;have e0:W.cell? ⟨tX,2,none⟩=some (.int .i64 x.1.2.2):=(by rw [hS];exact P2.out);have e1:W.cell? ⟨tX,3,none⟩=some (.int .i64 x.2):=(by rw [hS];exact P3.out);have e2:W.cell? ⟨L.s,3+k,none⟩=some (.int .i64 (S.next k)):=(by rw [hS];exact PN.out);have e3:W.cell? ⟨b0,10,none⟩=some (.int .i64 r.nx):=(by rw [hS];exact PX.out);clear hS;go_simp;(try with_reducible rfl))
               simp only [Act.put,lsA,lsZ,lsS]))
           intro W hS;obtain rfl:W=wd.drew:=hS;simp only [List.reverse_cons,List.reverse_nil,List.nil_append,List.cons_append];go_wp2_with fail;refine (must_no _ _).mono ?_;rintro e w3 ⟨rfl,rfl⟩;go_wp2_with fail;exact ⟨rfl,HR.out 4 (by decide) HX.out _ _ rfl (F0.out.trans (FX.out.trans (F8.out.trans (Fr.refl _).drew (fun _ _ e=>e)) (fun _ _ e=>e)) (fun _ _ e=>e))⟩
         ·have HX:=lH (HXF.out (fun h=>q7 h.2.2.2.2.2.2.1));have q9:x.2<1:=(by omega)
          refine wp_region_text mixed (fun W=>W=wd.drew) [28] (by kernel_rfl) (by kernel_rfl) (by kernel_rfl) (by kernel_rfl) (fun _ _ d _ _ h=>by cases d<;>exact h) rfl ?_;repeat (first
           | refine seqX_skip (by rfl) ?_
           | (refine seqX_val (v:= ?_) (by rfl) (by rfl) ?_ ?_
              rotate_left 1
              (intro W;go_simp;(try with_reducible rfl))
              simp only [Act.put,lsA,lsZ,lsS])
           | (refine seqX_no (by rfl) (by rfl) ?_
              simp only [Act.put,lsA,lsZ,lsS])
           | (refine seqX_valS (v:= ?_) (by rfl) (by kernel_rfl) (by rfl) ?_ ?_
              rotate_left 1
              (intro W hS;have e0:W.cell? ⟨tX,2,none⟩=some (.int .i64 x.1.2.2):=(by rw [hS];exact P2.out);have e1:W.cell? ⟨tX,3,none⟩=some (.int .i64 x.2):=(by rw [hS];exact P3.out);have e2:W.cell? ⟨L.s,3+k,none⟩=some (.int .i64 (S.next k)):=(by rw [hS];exact PN.out);have e3:W.cell? ⟨b0,10,none⟩=some (.int .i64 r.nx):=(by rw [hS];exact PX.out);clear hS;go_simp;(try with_reducible rfl))
              simp only [Act.put,lsA,lsZ,lsS]))
          intro W hS;obtain rfl:W=wd.drew:=hS;simp only [List.reverse_cons,List.reverse_nil,List.nil_append,List.cons_append];go_wp2_with fail;refine (must_no _ _).mono ?_;rintro e w3 ⟨rfl,rfl⟩;go_wp2_with fail;exact ⟨rfl,HR.out 4 (by decide) HX.out _ _ rfl (F0.out.trans (FX.out.trans (F8.out.trans (Fr.refl _).drew (fun _ _ e=>e)) (fun _ _ e=>e)) (fun _ _ e=>e))⟩
        ·have HX:=lH (HXF.out (fun h=>q6 h.2.2.2.2.2.1));refine wp_region_text mixed (fun W=>W=wd.drew) [28] (by kernel_rfl) (by kernel_rfl) (by kernel_rfl) (by kernel_rfl) (fun _ _ d _ _ h=>by cases d<;>exact h) rfl ?_;repeat (first
          | refine seqX_skip (by rfl) ?_
          | (refine seqX_val (v:= ?_) (by rfl) (by rfl) ?_ ?_
             rotate_left 1
             (intro W;go_simp;(try with_reducible rfl))
             simp only [Act.put,lsA,lsZ,lsS])
          | (refine seqX_no (by rfl) (by rfl) ?_
             simp only [Act.put,lsA,lsZ,lsS])
          | (refine seqX_valS (v:= ?_) (by rfl) (by kernel_rfl) (by rfl) ?_ ?_
             rotate_left 1
             (intro W hS;have e0:W.cell? ⟨tX,2,none⟩=some (.int .i64 x.1.2.2):=(by rw [hS];exact P2.out);have e1:W.cell? ⟨tX,3,none⟩=some (.int .i64 x.2):=(by rw [hS];exact P3.out);have e2:W.cell? ⟨L.s,3+k,none⟩=some (.int .i64 (S.next k)):=(by rw [hS];exact PN.out);have e3:W.cell? ⟨b0,10,none⟩=some (.int .i64 r.nx):=(by rw [hS];exact PX.out);clear hS;go_simp;(try with_reducible rfl))
             simp only [Act.put,lsA,lsZ,lsS]))
         intro W hS;obtain rfl:W=wd.drew:=hS;simp only [List.reverse_cons,List.reverse_nil,List.nil_append,List.cons_append];go_wp2_with fail;refine (must_no _ _).mono ?_;rintro e w3 ⟨rfl,rfl⟩;go_wp2_with fail;exact ⟨rfl,HR.out 4 (by decide) HX.out _ _ rfl (F0.out.trans (FX.out.trans (F8.out.trans (Fr.refl _).drew (fun _ _ e=>e)) (fun _ _ e=>e)) (fun _ _ e=>e))⟩
       ·have HX:=lH (HXF.out (fun h=>q5 h.2.2.2.2.1));refine wp_region_text mixed (fun W=>W=wd.drew) [28] (by kernel_rfl) (by kernel_rfl) (by kernel_rfl) (by kernel_rfl) (fun _ _ d _ _ h=>by cases d<;>exact h) rfl ?_;repeat (first
         | refine seqX_skip (by rfl) ?_
         | (refine seqX_val (v:= ?_) (by rfl) (by rfl) ?_ ?_
            rotate_left 1
            (intro W;go_simp;(try with_reducible rfl))
            simp only [Act.put,lsA,lsZ,lsS])
         | (refine seqX_no (by rfl) (by rfl) ?_
            simp only [Act.put,lsA,lsZ,lsS])
         | (refine seqX_valS (v:= ?_) (by rfl) (by kernel_rfl) (by rfl) ?_ ?_
            rotate_left 1
            (intro W hS;have e0:W.cell? ⟨tX,2,none⟩=some (.int .i64 x.1.2.2):=(by rw [hS];exact P2.out);have e1:W.cell? ⟨tX,3,none⟩=some (.int .i64 x.2):=(by rw [hS];exact P3.out);have e2:W.cell? ⟨L.s,3+k,none⟩=some (.int .i64 (S.next k)):=(by rw [hS];exact PN.out);have e3:W.cell? ⟨b0,10,none⟩=some (.int .i64 r.nx):=(by rw [hS];exact PX.out);clear hS;go_simp;(try with_reducible rfl))
            simp only [Act.put,lsA,lsZ,lsS]))
        intro W hS;obtain rfl:W=wd.drew:=hS;simp only [List.reverse_cons,List.reverse_nil,List.nil_append,List.cons_append];go_wp2_with fail;refine (must_no _ _).mono ?_;rintro e w3 ⟨rfl,rfl⟩;go_wp2_with fail;exact ⟨rfl,HR.out 4 (by decide) HX.out _ _ rfl (F0.out.trans (FX.out.trans (F8.out.trans (Fr.refl _).drew (fun _ _ e=>e)) (fun _ _ e=>e)) (fun _ _ e=>e))⟩
      case rest=>
       obtain ⟨F9,HC9⟩:=hcut;have f9:Fr No wX wc:=F8.out.trans F9.out (fun _ _ e=>e);have k9:=f9.block_of KX.out id;have p3:wc.cell? ⟨tX,3,none⟩=some (.int .i64 x.2):=(by rw [cell_at k9];rfl)
       have R9:Hid (wc.rangeAt tX 0 [.int .i64 x.1.1,.int .i64 x.1.2.1,.int .i64 x.1.2.2]):=lH (World.rangeAt_of_block k9 0 3);have fAll:Fr No wr wc:=FWX.out.trans f9 (fun _ _ e=>e);have hcb:c<4611686018427387904:=(by have:=HLN.out;omega)
       obtain ⟨wE,hput,hmE,fE⟩:=(HMP.out.fr fAll id).put x.1 x.2 HGX.out trivial hcb (t:=160) (e:=3) Tryz.underlying160;have hput':(Instr.mapUpdate 160 (.map (some mb)) (.agg #[.int .i64 x.1.1,.int .i64 x.1.2.1,.int .i64 x.1.2.2]) (.int .i64 x.2)).run Tryz.prog wc=.ok () wE:=hput;have HOKX:Hid (szOk S r.nx k l m x):=lH ⟨by rw [HB1.out];exact HC8.out.1,by rw [HB2.out];exact HC8.out.2.1,HC8.out.2.2.1,HC8.out.2.2.2,HC9.out⟩;have HSE:Hid (sizesOf S r.nx k l st noStp=sizesOf S r.nx k l (st.drop (j+1)) (fun z=>if z=x.1 then some x.2 else m z)):=lH (by rw [HSX.out,if_pos HOKX.out]);obtain ⟨c',hc'⟩:∃c',(if (m x.1).isSome then c else c+1)=c':=⟨_,rfl⟩
       rw [hc'] at hmE;have hcle:c'≤c+1:=(by rw [← hc'];split<;>omega)
       have HME:=lH hmE;have HFE:Hid (Fr No w0 wE):=lH ((HF.out.trans fAll (fun _ _ e=>e)).trans fE (fun k hk e=>by have:=HMW.out;omega));have hbig:st.length≤1000000:=HLN.out;clear hput f9 k9 fAll hmE fE hc';go_wp2_with (refine wpList_load_mid (by rfl) 46 _ (by rfl) tX 0 (by rfl) [.int .i64 x.1.1,.int .i64 x.1.2.1,.int .i64 x.1.2.2] _ R9.out Tryz.underlying46 rfl Tryz.size46 ?_);go_roundw
       case rel=>exact ⟨j+1,_,c',by go_num,hlt,HSE,HME,by omega,HFE⟩
       case measure=>simp [intOf];omega
    ·have hjl:j=st.length:=by omega
     have q1:¬(j:Int)<(st.length:Int):=(by omega)
     have HX:Hid (X=(0,m)):=lH (by
      rw [HXS.out,HS.out,hjl,List.drop_length];rfl)
     have HCJ:Hid (c≤st.length):=lH (by omega);clear hjl;go_wp2_with fail;exact HQ.out m HX.out mb c _ _ rfl HMP.out HBW.out HCJ.out (F0.out.trans HF.out (fun _ _ e=>e))
end Go.Proofs.YtlcojhddnpmgmaaGreat
