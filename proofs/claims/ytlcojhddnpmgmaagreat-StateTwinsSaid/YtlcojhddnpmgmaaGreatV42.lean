/- Part of a proof. -/
import Derived.Test.YtlcojhddnpmgmaaGreatV38
import Derived.Test.YtlcojhddnpmgmaaGreatV41
set_option linter.unusedSimpArgs false
set_option linter.unusedVariables false
set_option maxRecDepth 100000
set_option maxHeartbeats 6400000
namespace Go.Proofs.YtlcojhddnpmgmaaGreat
open Go.RowKit Go.Proofs.Tryz
theorem aCk (v1 v2:Value) (L1 L2:List Rq) (w:World) (h1:nZ w (fun _=>0) v1 L1) (g1:Qx L1) (h2:nZ w (fun _=>0) v2 L2) (g2:Qx L2):
  Calls prog 12 #[v1,v2] w fun e w'=>e=.returned (.bool true)∧Fr No w w':=by
 have mixed:prog.follows .mixedOrders=true:=by kernel_rfl
 obtain ⟨base1,cap1,rfl⟩:=h1.slice;obtain ⟨base2,cap2,rfl⟩:=h2.slice;generalize hQ:(fun (e:Ending) (w':World)=>e=.returned (.bool true)∧Fr No w w')=Q;have HQ:Hid (∀w',Fr No w w'→Q (.returned (.bool true)) w'):=lH (fun w' f=>by rw [← hQ];exact ⟨rfl,f⟩);clear hQ;have H1:=lH h1;have H2:=lH h2;have G1:=lH g1;have G2:=lH g2;clear h1 g1 h2 g2;go_enter func12,ntmps12;go_wp2_with fail;refine (Y0 _).mono ?_;rintro e w1 ⟨rfl,f1⟩;have F1:=lH f1;have H11:=lH (H1.o.no (fresh0 _) f1);have H21:=lH (H2.o.no (fresh0 _) f1);clear f1 H1 H2;have HA1:=lH (Ru (fun _=>0) _ L1 50 w1 (fresh0 w1) H11.o (by omega));unfold kY at HA1;cases hA:decide (L1.length≤50∧∀y∈L1,kJ y) with
 | false=>
  rw [hA] at HA1;clear hA;go_wp2_with fail;refine HA1.o.mono ?_;rintro e w2 ⟨rfl,f2⟩;have F2:=lH (F1.o.trans f2 kp);clear f2;go_wp2_with fail;exact HQ.o _ F2.o
 | true=>
  rw [hA] at HA1;have SM1:=lH (of_decide_eq_true hA);clear hA;go_wp2_with fail;refine HA1.o.mono ?_;rintro e w2 ⟨rfl,f2⟩;have F2:=lH (F1.o.trans f2 kp);have H12:=lH (H11.o.no (fresh0 _) f2);have H22:=lH (H21.o.no (fresh0 _) f2);clear f2 H11 F1 HA1 H21;have HA2:=lH (Ru (fun _=>0) _ L2 30 w2 (fresh0 w2) H22.o (by omega));unfold kY at HA2;cases hA:decide (L2.length≤30∧∀y∈L2,kJ y) with
  | false=>
   rw [hA] at HA2;clear hA;go_wp2_with fail;refine HA2.o.mono ?_;rintro e w3 ⟨rfl,f3⟩;have F3:=lH (F2.o.trans f3 kp);clear f3;go_wp2_with fail;exact HQ.o _ F3.o
  | true=>
   rw [hA] at HA2;have SM2:=lH (of_decide_eq_true hA);clear hA;go_wp2_with fail;refine HA2.o.mono ?_;rintro e w3 ⟨rfl,f3⟩;have F3:=lH (F2.o.trans f3 kp);have H13:=lH (H12.o.no (fresh0 _) f3);have H23:=lH (H22.o.no (fresh0 _) f3);clear f3 H12 F2 HA2 H22;go_wp2_with fail;refine (Um 0 (fun _=>0) _ (fresh0 _)).mono ?_;rintro e w4 ⟨Ls,o4,rfl,s4,t4⟩;go_wp2_with fail;refine (Um 5000 o4 _ s4.fresh).mono ?_;rintro e w5 ⟨Lt,o5,rfl,s5,t5⟩;have S45:Step (fun _=>False) w3 (fun _=>0) w5 o5:=s4.trans s5 (fun _ e=>e);have F5:=lH (F3.o.trans (S45.fr.mono kp) (fun _ _ e=>e.elim));have HLE:Hid (∀k,k<w.heap.size→o5 k=0):=lH (fun k hk=>S45.old k (Nat.lt_of_lt_of_le hk F3.o.size));have H15:=lH (H13.o.step S45 id);have H25:=lH (H23.o.step S45 id);have LI0:Hid (Em w5 o5 Ls Lt 0 w5):=lH ⟨o5,S0,Step.refl S45.fresh,t4.step uS.ok s5 kp,t5,aBE⟩;have nos:¬both 0:=(by unfold both aH;omega)
   have NOS:=lH nos;have HL50:=lH SM1.o.1;have HL30:=lH SM2.o.1;clear s4 t4 s5 t5 S45 H13 H23 F3 nos;go_wp2_with fail;go_loopw [7] (fun a wr=>∃i:Nat,a=.int .i64 i∧i≤L1.length∧Hid (Em w5 o5 Ls Lt i wr)) (fun a _=>L1.length - (intOf a).toNat)
   case atStart=>exact ⟨0,rfl,Nat.zero_le _,LI0⟩
   case round=>
    obtain ⟨i,rfl,hi,HLI⟩:=hrel;obtain ⟨oi,S,si,ts,tt,gd⟩:=HLI.o;have SI:=lH si;have TS:=lH ts;have TT:=lH tt;have GD:=lH gd;have hl50:=HL50.o;clear si ts tt gd HLI;by_cases hlt:i<L1.length
    ·have q1:(i:Int)<(L1.length:Int):=by omega
     have q3:(0:Int)≤(i:Int):=(by omega)
     have hne:L1≠ []:=by
      intro e;subst e;simp at hlt
     have HRQS:=H15.o.step SI.o NOS.o;obtain ⟨b,off,hbase,ho,hbl,hrows⟩:=HRQS.at hne;subst hbase;have hrq0:=hrows i L1[i] (List.getElem?_eq_getElem hlt);obtain ⟨rv,dv,hr1,hr2,hr3⟩:=hrq0;have HSM:=lH (SM1.o.2 L1[i] (List.getElem_mem hlt));have HGD:=lH (G1.o L1[i] (List.getElem_mem hlt));have HO:=lH (show oi b=0 from ho);generalize L1[i]=y at*;obtain ⟨r,st,dl⟩:=y;dsimp only at hr1 hr2 hr3 HGD;unfold kJ at HSM;dsimp only at HSM;obtain ⟨bs,cs,rfl⟩:=hr2.slice;obtain ⟨bd,cd,rfl⟩:=hr3.slice;have HR1:=lH hr1;have HR2:=lH hr2;have HR3:=lH hr3;unfold aJ.cells at HR1;clear hrows ho hr1 hr2 hr3 HRQS;go_wp2_with fail
     rename_i K hKK
     refine wp_region_any (by kernel_rfl) ?_;refine Nu (TwI (fun v8 v9 v41 v42 v43 v44 v45 v46 v47 v48 v49 v50 v51 v52 v53 v54=>⟨#[.slice (some ⟨b,off,none⟩) L1.length cap1,.slice base2 L2.length cap2,undef,undef,u4,.pointer (some ⟨Ls.s,0,none⟩),.pointer (some ⟨Lt.s,0,none⟩),.int .i64 i,v8,v9,undef,undef,undef,undef,undef,undef,undef,.bool true,.bool false,.slice (some ⟨b,off,none⟩) L1.length cap1,.bool true,.bool false,.bool false,.slice base2 L2.length cap2,.bool true,.bool false,.bool false,.pointer (some ⟨Ls.s,0,none⟩),.pointer (some ⟨Lt.s,0,none⟩),.pointer (some ⟨Ls.s,0,none⟩),.bool false,.bool false,.pointer (some ⟨Lt.s,0,none⟩),.bool false,.bool false,.int .i64 i,.slice (some ⟨b,off,none⟩) L1.length cap1,.int .i64 L1.length,.bool true,u39,u40,v41,v42,v43,v44,v45,v46,v47,v48,v49,v50,v51,v52,v53,v54,u55,u56,u57,u58,u59,u60,undef,undef,undef,undef,undef,undef,undef,undef,undef,undef,undef,undef,undef,undef,undef,undef,undef,undef,undef,undef,undef,undef,undef,undef,undef,undef,undef,undef,undef,undef,undef,undef,undef,undef,undef,undef,undef,undef,undef,undef,undef,undef,undef,undef,undef,undef,undef,undef,undef,undef,undef,undef,undef,undef,undef,undef,undef,undef,undef,undef,undef,undef,undef], []⟩) Ls Lt wr oi S i r (.slice bd dl.length cd) st dl (.slice (some ⟨b,off,none⟩) L1.length cap1) (.pointer (some ⟨b,off+i*14,none⟩)) (.agg #[.int .i64 r.c,.int .i64 r.l,.int .i64 r.q,.int .i64 r.kind,.string (ba r.path),.string (ba r.to),.bool r.dir,.bool r.wr,.bool r.cl,.int .i64 r.h,.int .i64 r.nx,.int .i64 r.sw,.slice bs st.length cs,.slice bd dl.length cd])) ?step ?done _ _ _ _ ?start
     case start=>
      have f:Fr No wr wr.drew:=(Fr.refl wr).drew;have s:Step (fun _=>False) wr oi wr.drew oi:=Step.no SI.o.fresh f;exact ⟨false,false,false,false,false,false,false,false,false,false,false,false,false,false,false,false,false,false,_,_,_,_,_,_,_,_,_,_,_,_,_,_,_,_,oi,rfl,rfl,rfl,{fr:=f.bK,old:=fun _ _=>rfl,fs:=s.fresh,m0:=(fun e=>nomatch e),m1:=(fun e=>nomatch e),m2:=(fun e=>nomatch e),m3:=(fun e=>nomatch e),m4:=(fun e=>nomatch e),m5:=(fun e=>nomatch e),m6:=(fun e=>nomatch e),s0:=fun _=>TS.o.no GD.o.inv.ok SI.o.fresh f,m7:=(fun e=>nomatch e),m8:=(fun e=>nomatch e),m9:=(fun e=>nomatch e),m10:=(fun e=>nomatch e),m11:=(fun e=>nomatch e),m12:=(fun e=>nomatch e),m13:=(fun e=>nomatch e),t0:=fun _=>TT.o.no GD.o.inv.ok SI.o.fresh f,g14:=(fun e=>nomatch e),g15:=(fun e=>nomatch e),ne:=(fun e=>nomatch e),o16:=(fun e=>nomatch e),o17:=(fun e=>nomatch e),o12:=(fun e=>nomatch e),o13:=(fun e=>nomatch e)}⟩
     case done=>
      rintro n listed a w ⟨b0,b1,b2,b3,b4,b5,b6,b7,b8,b9,b10,b11,b12,b13,b14,b15,b16,b17,v8,v9,v41,v42,v43,v44,v45,v46,v47,v48,v49,v50,v51,v52,v53,v54,o,hn,rfl,rfl,h⟩ hr;clear hn;have hno:=List.eq_nil_iff_forall_not_mem.1 hr;obtain rfl:b0=true:=by
       rcases Bool.eq_false_or_eq_true b0 with e|e
       ·exact e
       ·exfalso;subst e;refine absurd ?_ (hno 0);refine mem_ready.2 ⟨rfl,_,rfl,?_⟩;intro e he hb;exact absurd he (by simp)
      obtain rfl:b1=true:=by
       rcases Bool.eq_false_or_eq_true b1 with e|e
       ·exact e
       ·exfalso;subst e;refine absurd ?_ (hno 1);refine mem_ready.2 ⟨rfl,_,rfl,?_⟩;intro e he hb;exact absurd he (by simp)
      obtain rfl:b2=true:=by
       rcases Bool.eq_false_or_eq_true b2 with e|e
       ·exact e
       ·exfalso;subst e;refine absurd ?_ (hno 2);refine mem_ready.2 ⟨rfl,_,rfl,?_⟩;intro e he hb;exact absurd he (by simp)
      obtain rfl:b3=true:=by
       rcases Bool.eq_false_or_eq_true b3 with e|e
       ·exact e
       ·exfalso;subst e;refine absurd ?_ (hno 3);refine mem_ready.2 ⟨rfl,_,rfl,?_⟩;intro e he hb;simp at he;rcases he with rfl|rfl;all_goals first|rfl|exact absurd hb (by decide)
      obtain rfl:b4=true:=by
       rcases Bool.eq_false_or_eq_true b4 with e|e
       ·exact e
       ·exfalso;subst e;refine absurd ?_ (hno 4);refine mem_ready.2 ⟨rfl,_,rfl,?_⟩;intro e he hb;simp at he;subst he;all_goals first|rfl|exact absurd hb (by decide)
      obtain rfl:b5=true:=by
       rcases Bool.eq_false_or_eq_true b5 with e|e
       ·exact e
       ·exfalso;subst e;refine absurd ?_ (hno 5);refine mem_ready.2 ⟨rfl,_,rfl,?_⟩;intro e he hb;simp at he;subst he;all_goals first|rfl|exact absurd hb (by decide)
      obtain rfl:b6=true:=by
       rcases Bool.eq_false_or_eq_true b6 with e|e
       ·exact e
       ·exfalso;subst e;refine absurd ?_ (hno 6);refine mem_ready.2 ⟨rfl,_,rfl,?_⟩;intro e he hb;simp at he;rcases he with rfl|rfl|rfl;all_goals first|rfl|exact absurd hb (by decide)
      obtain rfl:b7=true:=by
       rcases Bool.eq_false_or_eq_true b7 with e|e
       ·exact e
       ·exfalso;subst e;refine absurd ?_ (hno 7);refine mem_ready.2 ⟨rfl,_,rfl,?_⟩;intro e he hb;exact absurd he (by simp)
      obtain rfl:b8=true:=by
       rcases Bool.eq_false_or_eq_true b8 with e|e
       ·exact e
       ·exfalso;subst e;refine absurd ?_ (hno 8);refine mem_ready.2 ⟨rfl,_,rfl,?_⟩;intro e he hb;exact absurd he (by simp)
      obtain rfl:b9=true:=by
       rcases Bool.eq_false_or_eq_true b9 with e|e
       ·exact e
       ·exfalso;subst e;refine absurd ?_ (hno 9);refine mem_ready.2 ⟨rfl,_,rfl,?_⟩;intro e he hb;exact absurd he (by simp)
      obtain rfl:b10=true:=by
       rcases Bool.eq_false_or_eq_true b10 with e|e
       ·exact e
       ·exfalso;subst e;refine absurd ?_ (hno 10);refine mem_ready.2 ⟨rfl,_,rfl,?_⟩;intro e he hb;simp at he;rcases he with rfl|rfl;all_goals first|rfl|exact absurd hb (by decide)
      obtain rfl:b11=true:=by
       rcases Bool.eq_false_or_eq_true b11 with e|e
       ·exact e
       ·exfalso;subst e;refine absurd ?_ (hno 11);refine mem_ready.2 ⟨rfl,_,rfl,?_⟩;intro e he hb;simp at he;subst he;all_goals first|rfl|exact absurd hb (by decide)
      obtain rfl:b12=true:=by
       rcases Bool.eq_false_or_eq_true b12 with e|e
       ·exact e
       ·exfalso;subst e;refine absurd ?_ (hno 12);refine mem_ready.2 ⟨rfl,_,rfl,?_⟩;intro e he hb;simp at he;rcases he with rfl|rfl;all_goals first|rfl|exact absurd hb (by decide)
      obtain rfl:b13=true:=by
       rcases Bool.eq_false_or_eq_true b13 with e|e
       ·exact e
       ·exfalso;subst e;refine absurd ?_ (hno 13);refine mem_ready.2 ⟨rfl,_,rfl,?_⟩;intro e he hb;simp at he;rcases he with rfl|rfl|rfl;all_goals first|rfl|exact absurd hb (by decide)
      obtain rfl:b14=true:=by
       rcases Bool.eq_false_or_eq_true b14 with e|e
       ·exact e
       ·exfalso;subst e;refine absurd ?_ (hno 14);refine mem_ready.2 ⟨rfl,_,rfl,?_⟩;intro e he hb;exact absurd he (by simp)
      obtain rfl:b15=true:=by
       rcases Bool.eq_false_or_eq_true b15 with e|e
       ·exact e
       ·exfalso;subst e;refine absurd ?_ (hno 15);refine mem_ready.2 ⟨rfl,_,rfl,?_⟩;intro e he hb;exact absurd he (by simp)
      obtain rfl:b16=true:=by
       rcases Bool.eq_false_or_eq_true b16 with e|e
       ·exact e
       ·exfalso;subst e;refine absurd ?_ (hno 16);refine mem_ready.2 ⟨rfl,_,rfl,?_⟩;intro e he hb;simp at he;rcases he with rfl|rfl|rfl|rfl|rfl|rfl|rfl|rfl|rfl|rfl|rfl|rfl|rfl|rfl|rfl|rfl|rfl|rfl|rfl;all_goals first|rfl|exact absurd hb (by decide)
      obtain rfl:b17=true:=by
       rcases Bool.eq_false_or_eq_true b17 with e|e
       ·exact e
       ·exfalso;subst e;refine absurd ?_ (hno 17);refine mem_ready.2 ⟨rfl,_,rfl,?_⟩;intro e he hb;simp at he;rcases he with rfl|rfl|rfl|rfl|rfl|rfl|rfl|rfl|rfl|rfl|rfl|rfl|rfl|rfl|rfl|rfl|rfl|rfl|rfl|rfl;all_goals first|rfl|exact absurd hb (by decide)
      clear hr hno;obtain ⟨x,ev,mv,e47,fa1,fa2,rpa,da,inva,ta⟩:=h.m6 rfl;obtain ⟨y,ev2,mv2,e54,fb1,fb2,rpb,db,_,tb⟩:=h.m13 rfl;obtain rfl:=Ns da db;obtain ⟨ga,x0,ev0,mv0,rfl,_,hga,_,_,hda⟩:=h.g14 rfl;obtain ⟨gb,x1,ev1,mv1,rfl,_,hgb,_,_,hdb⟩:=h.g15 rfl;have ca:x0.cells ev0 mv0=x.1.cells ev mv:=Value.agg.inj ((hda rfl).symm.trans e47);have cb:x1.cells ev1 mv1=x.1.cells ev2 mv2:=Value.agg.inj ((hdb rfl).symm.trans e54);have ka:=hga.1;have kb:=hgb.1;rw [ca] at ka;rw [cb] at kb;subst e47 e54;obtain ⟨ea,el,ec,rfl,_⟩:=fa1;obtain ⟨ma,ml,mc,rfl,_⟩:=fa2;obtain ⟨ea2,el2,ec2,rfl,_⟩:=fb1;obtain ⟨ma2,ml2,mc2,rfl,_⟩:=fb2;have KA0:=lH ka;have KB0:=lH kb;have GN:Hid (Good x.2 (i+1)):=lH (GD.o.did da inva);have few:=Zk GD.o.inv da;have SWW:Hid (Step both w5 o5 w o):=lH (SI.o.trans ⟨h.fr,h.old,h.fs⟩ (fun _ e=>e));have HLN:Hid (∀W,Fr No w W→Em w5 o5 Ls Lt (i+1) W):=lH (fun W f=>by
       have s:Step (fun _=>False) w o W o:=Step.no SWW.o.fresh f;refine ⟨o,x.2,SWW.o.trans s (fun _ e=>e.elim),?_,?_,GN.o⟩
       ·have:=ta.no inva.ok SWW.o.fresh f;rwa [show 100*i+100=100*(i+1) by omega] at this
       ·have:=tb.no inva.ok SWW.o.fresh f;rwa [show 100*i+100=100*(i+1) by omega] at this)
      have HSD1:Hid (∀W,Fr No w W→Calls prog 43 #[.agg (x.1.cells (.slice ea el ec) (.slice ma ml mc))] W fun e w'=>e=.returned (.agg (x.1.cells (.slice ea el ec) (.slice ma ml mc)))∧Fr No w w'):=lH (fun W f=>(O5 x.1 _ _ ⟨_,_,_,rfl⟩ ⟨_,_,_,rfl⟩ W).mono (fun e w' p=>⟨p.1,f.trans p.2 kp⟩));have HSD2:Hid (∀W,Fr No w W→Calls prog 43 #[.agg (x.1.cells (.slice ea2 el2 ec2) (.slice ma2 ml2 mc2))] W fun e w'=>e=.returned (.agg (x.1.cells (.slice ea2 el2 ec2) (.slice ma2 ml2 mc2)))∧Fr No w w'):=lH (fun W f=>(O5 x.1 _ _ ⟨_,_,_,rfl⟩ ⟨_,_,_,rfl⟩ W).mono (fun e w' p=>⟨p.1,f.trans p.2 kp⟩));have HSR:Hid (∀W,Fr No w W→Calls prog 42 #[.agg (x.1.cells (.slice ea el ec) (.slice ma ml mc)),.agg (x.1.cells (.slice ea2 el2 ec2) (.slice ma2 ml2 mc2))] W fun e w'=>e=.returned (.bool true)∧Fr No w w'):=lH (fun W f=>(Vy x.1 _ _ _ _ W (rpa.no f) (rpb.no f) few.1 few.2).mono (fun e w' p=>⟨p.1,f.trans p.2 kp⟩));have KA:Hid (∀W,Fr No w W→W.heap[ga]? =some (.cells (x.1.cells (.slice ea el ec) (.slice ma ml mc)) 29 (0,0))):=lH (fun W f=>f.aC KA0.o id);have KB:Hid (∀W,Fr No w W→W.heap[gb]? =some (.cells (x.1.cells (.slice ea2 el2 ec2) (.slice ma2 ml2 mc2)) 29 (0,0))):=lH (fun W f=>f.aC KB0.o id);generalize x.1=X1 at*;unfold aF.cells at HSD1 HSD2 HSR KA KB;clear h da db rpa rpb ta tb inva ca cb ka kb hga hgb hda hdb KA0 KB0 few;show K _ _;refine hKK _ _ ?_;clear hKK;dsimp only;unfold aF.cells;go_upto_region 12 with fail
      refine gK mixed (fun W=>Fr No w W) [5] (by kernel_rfl) (by kernel_rfl) (by kernel_rfl) (by kernel_rfl) (fun _ _ d _ _ h=>by cases d<;>exact h) (Fr.refl _).drew ?_;repeat (first
       | refine fM (by rfl) ?_
       | (refine fO (v:= ?_) (by rfl) (by rfl) ?_ ?_
          rotate_left 1
          (intro W;go_simp;(try with_reducible rfl))
          simp only [Act.put,lsA,aB,lsS])
       | (refine iQ (by rfl) (by rfl) ?_
          simp only [Act.put,lsA,aB,lsS])
       | (refine uM (v:=.agg #[.int .i64 X1.e,.int .i64 X1.ino,.int .i64 X1.size,.int .i64 X1.handle,.int .i64 X1.swaps,.bool X1.dir,.slice ea el ec,.slice ma ml mc]) 43 #[.agg #[.int .i64 X1.e,.int .i64 X1.ino,.int .i64 X1.size,.int .i64 X1.handle,.int .i64 X1.swaps,.bool X1.dir,.slice ea el ec,.slice ma ml mc]] (by rfl) (by kernel_rfl) (by rfl) ?_ (fun W hS=>HSD1.o W hS) ?_
          focus (intro W;go_simp;done)
          simp only [Act.put,lsA,aB,lsS])
       | (refine uM (v:=.agg #[.int .i64 X1.e,.int .i64 X1.ino,.int .i64 X1.size,.int .i64 X1.handle,.int .i64 X1.swaps,.bool X1.dir,.slice ea2 el2 ec2,.slice ma2 ml2 mc2]) 43 #[.agg #[.int .i64 X1.e,.int .i64 X1.ino,.int .i64 X1.size,.int .i64 X1.handle,.int .i64 X1.swaps,.bool X1.dir,.slice ea2 el2 ec2,.slice ma2 ml2 mc2]] (by rfl) (by kernel_rfl) (by rfl) ?_ (fun W hS=>HSD2.o W hS) ?_
          focus (intro W;go_simp;done)
          simp only [Act.put,lsA,aB,lsS])
       | (refine uM (v:=.bool true) 42 #[.agg #[.int .i64 X1.e,.int .i64 X1.ino,.int .i64 X1.size,.int .i64 X1.handle,.int .i64 X1.swaps,.bool X1.dir,.slice ea el ec,.slice ma ml mc],.agg #[.int .i64 X1.e,.int .i64 X1.ino,.int .i64 X1.size,.int .i64 X1.handle,.int .i64 X1.swaps,.bool X1.dir,.slice ea2 el2 ec2,.slice ma2 ml2 mc2]] (by rfl) (by kernel_rfl) (by rfl) ?_ (fun W hS=>HSR.o W hS) ?_
          focus (intro W;go_simp;done)
          simp only [Act.put,lsA,aB,lsS])
       | (refine dM (v:= ?_) (by rfl) (by kernel_rfl) (by rfl) ?_ ?_
          rotate_left 1
          (intro W hS;have a0:W.cell? ⟨ga,0,none⟩=some (.int .i64 X1.e):=(aA (KA.o W hS) 0);have a1:W.cell? ⟨ga,1,none⟩=some (.int .i64 X1.ino):=(aA (KA.o W hS) 1);have a2:W.cell? ⟨ga,2,none⟩=some (.int .i64 X1.size):=(aA (KA.o W hS) 2);have a3:W.cell? ⟨ga,3,none⟩=some (.int .i64 X1.handle):=(aA (KA.o W hS) 3);have a4:W.cell? ⟨ga,4,none⟩=some (.int .i64 X1.swaps):=(aA (KA.o W hS) 4);have a5:W.cell? ⟨ga,5,none⟩=some (.bool X1.dir):=(aA (KA.o W hS) 5);have a6:W.cell? ⟨ga,6,none⟩=some (.slice ea el ec):=(aA (KA.o W hS) 6);have a7:W.cell? ⟨ga,7,none⟩=some (.slice ma ml mc):=(aA (KA.o W hS) 7);have d0:W.cell? ⟨gb,0,none⟩=some (.int .i64 X1.e):=(aA (KB.o W hS) 0);have d1:W.cell? ⟨gb,1,none⟩=some (.int .i64 X1.ino):=(aA (KB.o W hS) 1);have d2:W.cell? ⟨gb,2,none⟩=some (.int .i64 X1.size):=(aA (KB.o W hS) 2);have d3:W.cell? ⟨gb,3,none⟩=some (.int .i64 X1.handle):=(aA (KB.o W hS) 3);have d4:W.cell? ⟨gb,4,none⟩=some (.int .i64 X1.swaps):=(aA (KB.o W hS) 4);have d5:W.cell? ⟨gb,5,none⟩=some (.bool X1.dir):=(aA (KB.o W hS) 5);have d6:W.cell? ⟨gb,6,none⟩=some (.slice ea2 el2 ec2):=(aA (KB.o W hS) 6);have d7:W.cell? ⟨gb,7,none⟩=some (.slice ma2 ml2 mc2):=(aA (KB.o W hS) 7);clear hS;go_simp;(try with_reducible rfl))
          simp only [Act.put,lsA,aB,lsS]))
      intro w13 hS;have HF13:=lH hS;simp only [List.reverse_cons,List.reverse_nil,List.nil_append,List.cons_append];go_wp2_with fail;go_roundw
      case rel=>exact ⟨i+1,by go_num,hlt,lH (HLN.o _ HF13.o)⟩
      case measure=>simp [intOf];omega
     case step=>
      clear hKK;rintro n listed a w ⟨b0,b1,b2,b3,b4,b5,b6,b7,b8,b9,b10,b11,b12,b13,b14,b15,b16,b17,v8,v9,v41,v42,v43,v44,v45,v46,v47,v48,v49,v50,v51,v52,v53,v54,o,hn,rfl,rfl,h⟩ i0 hi0;have hr:=mem_ready.1 hi0;clear hi0;obtain ⟨h0,o0,ho0,hd0⟩:=hr;have sw:Step both wr oi w o:=⟨h.fr,h.old,h.fs⟩
      match i0,h0,ho0,hd0 with
      | 0,h0,ho0,hd0=>
       obtain rfl:b0=false:=h0;obtain rfl:=Option.some.inj ho0;refine ⟨n - 1,by subst hn;simp [Bool.toNat]<;>omega,?_⟩;clear h0 ho0 hd0;refine wpOp_step rfl (fun K2 hK=> ?_);rw [if_pos (show Region.wanted _ _=true from rfl)];go_simp;exact hK _ _ ⟨true,_,_,_,_,_,_,_,_,_,_,_,_,_,_,_,_,_,_,_,.pointer (some ⟨Ls.s,0,none⟩),_,_,_,_,_,_,_,_,_,_,_,_,_,o,by subst hn;simp [Bool.toNat]<;>omega,rfl,rfl,{h with m0:=fun _=>rfl}⟩
      | 1,h0,ho0,hd0=>
       obtain rfl:b1=false:=h0;obtain rfl:=Option.some.inj ho0;refine ⟨n - 1,by subst hn;simp [Bool.toNat]<;>omega,?_⟩;clear h0 ho0 hd0;refine wpOp_step rfl (fun K2 hK=> ?_);rw [if_pos (show Region.wanted _ _=true from rfl)];go_simp;exact hK _ _ ⟨_,true,_,_,_,_,_,_,_,_,_,_,_,_,_,_,_,_,_,_,_,.slice (some ⟨b,off,none⟩) L1.length cap1,_,_,_,_,_,_,_,_,_,_,_,_,o,by subst hn;simp [Bool.toNat]<;>omega,rfl,rfl,{h with m1:=fun _=>rfl}⟩
      | 2,h0,ho0,hd0=>
       obtain rfl:b2=false:=h0;obtain rfl:=Option.some.inj ho0;refine ⟨n - 1,by subst hn;simp [Bool.toNat]<;>omega,?_⟩;clear h0 ho0 hd0;refine wpOp_step rfl (fun K2 hK=> ?_);rw [if_pos (show Region.wanted _ _=true from rfl)];go_simp;exact hK _ _ ⟨_,_,true,_,_,_,_,_,_,_,_,_,_,_,_,_,_,_,_,_,_,_,.int .i64 i,_,_,_,_,_,_,_,_,_,_,_,o,by subst hn;simp [Bool.toNat]<;>omega,rfl,rfl,{h with m2:=fun _=>rfl}⟩
      | 3,h0,ho0,hd0=>
       obtain rfl:b3=false:=h0;obtain rfl:=Option.some.inj ho0;have d1:b1=true:=hd0 ⟨1,Ground.data⟩ (by simp) rfl;have d2:b2=true:=hd0 ⟨2,Ground.data⟩ (by simp) rfl;refine ⟨n - 1,by subst hn;simp [Bool.toNat]<;>omega,?_⟩;clear h0 ho0 hd0;refine wpOp_step rfl (fun K2 hK=> ?_);rw [if_pos (show Region.wanted _ _=true from rfl)];obtain rfl:=h.m1 d1;obtain rfl:=h.m2 d2;go_simp;exact hK _ _ ⟨_,_,_,true,_,_,_,_,_,_,_,_,_,_,_,_,_,_,_,_,_,_,_,.pointer (some ⟨b,off+i*14,none⟩),_,_,_,_,_,_,_,_,_,_,o,by subst hn;simp [Bool.toNat]<;>omega,rfl,rfl,{h with m3:=fun _=>rfl}⟩
      | 4,h0,ho0,hd0=>
       obtain rfl:b4=false:=h0;obtain rfl:=Option.some.inj ho0;have d3:b3=true:=hd0 ⟨3,Ground.data⟩ (by simp) rfl;refine ⟨n - 1,by subst hn;simp [Bool.toNat]<;>omega,?_⟩;clear h0 ho0 hd0;refine wpOp_step rfl (fun K2 hK=> ?_);rw [if_pos (show Region.wanted _ _=true from rfl)];obtain rfl:=h.m3 d3;have hrw:w.rangeAt b (off+i*14) [.int .i64 r.c,.int .i64 r.l,.int .i64 r.q,.int .i64 r.kind,.string (ba r.path),.string (ba r.to),.bool r.dir,.bool r.wr,.bool r.cl,.int .i64 r.h,.int .i64 r.nx,.int .i64 r.sw,.slice bs st.length cs,.slice bd dl.length cd]:=fun a u hu=>sw.fr.cell_of (HR1.o a u hu) (by rw [HO.o];exact NOS.o);refine wp_load_mid 41 _ rfl b (off+i*14) rfl [.int .i64 r.c,.int .i64 r.l,.int .i64 r.q,.int .i64 r.kind,.string (ba r.path),.string (ba r.to),.bool r.dir,.bool r.wr,.bool r.cl,.int .i64 r.h,.int .i64 r.nx,.int .i64 r.sw,.slice bs st.length cs,.slice bd dl.length cd] _ hrw underlying41 rfl Tryz.rP ?_;exact hK _ _ ⟨_,_,_,_,true,_,_,_,_,_,_,_,_,_,_,_,_,_,_,_,_,_,_,_,.agg #[.int .i64 r.c,.int .i64 r.l,.int .i64 r.q,.int .i64 r.kind,.string (ba r.path),.string (ba r.to),.bool r.dir,.bool r.wr,.bool r.cl,.int .i64 r.h,.int .i64 r.nx,.int .i64 r.sw,.slice bs st.length cs,.slice bd dl.length cd],_,_,_,_,_,_,_,_,_,o,by subst hn;simp [Bool.toNat]<;>omega,rfl,rfl,{h with m4:=fun _=>rfl}⟩
      | 5,h0,ho0,hd0=>
       obtain rfl:b5=false:=h0;obtain rfl:=Option.some.inj ho0;have d4:b4=true:=hd0 ⟨4,Ground.data⟩ (by simp) rfl;refine ⟨n - 1,by subst hn;simp [Bool.toNat]<;>omega,?_⟩;clear h0 ho0 hd0;refine wpOp_step rfl (fun K2 hK=> ?_);rw [if_pos (show Region.wanted _ _=true from rfl)];obtain rfl:=h.m4 d4;have hq:=Ae o r (.slice bs st.length cs) (.slice bd dl.length cd) st w h.fs (HR2.o.step sw NOS.o) ⟨_,_,_,rfl⟩ (by have:=HSM.o.2.2.1;omega);unfold uX aJ.cells at hq;go_simp;refine hq.mono ?_;rintro e w' ⟨rv',rfl,hrq,f⟩;have h':=h.no GD.o.inv.ok f;exact hK _ _ ⟨_,_,_,_,_,true,_,_,_,_,_,_,_,_,_,_,_,_,_,_,_,_,_,_,_,_,_,_,_,_,_,_,_,_,o,by subst hn;simp [Bool.toNat]<;>omega,rfl,rfl,{h' with m5:=fun _ _=>⟨rv',rfl,hrq⟩}⟩
      | 6,h0,ho0,hd0=>
       obtain rfl:b6=false:=h0;obtain rfl:=Option.some.inj ho0;have d0:b0=true:=hd0 ⟨0,Ground.data⟩ (by simp) rfl;have d5:b5=true:=hd0 ⟨5,Ground.data⟩ (by simp) rfl;refine ⟨n - 1,by subst hn;simp [Bool.toNat]<;>omega,?_⟩;clear h0 ho0 hd0;refine wpOp_step rfl (fun K2 hK=> ?_);rw [if_pos (show Region.wanted _ _=true from rfl)];obtain rfl:=h.m0 d0;obtain ⟨rv,rfl,hrq⟩:=h.m5 d5 rfl;obtain rfl:b16=false:=by
        rcases Bool.eq_false_or_eq_true b16 with e|e
        ·exact absurd (h.o16 e).2 (by simp)
        ·exact e
       obtain rfl:b12=false:=by
        rcases Bool.eq_false_or_eq_true b12 with e|e
        ·exact absurd (h.o12 e) (by simp)
        ·exact e
       obtain rfl:b13=false:=by
        rcases Bool.eq_false_or_eq_true b13 with e|e
        ·exact absurd (h.o13 e) (by simp)
        ·exact e
       have hw:=Df o 0 (100*i) (2*i) Ls S r rv (.slice bd dl.length cd) st dl w (h.s0 rfl) GD.o.inv h.fs hrq (HR3.o.step sw NOS.o) HSM.o HGD.o (by omega) (by omega);unfold aJ.cells at hw;go_simp;refine hw.mono ?_;rintro e w' hwl;obtain ⟨v,o',rfl,s,rn,xr,ev,mv,rfl⟩:=Qj (K':=5000) hwl (fun c h=>by unfold aH at*;omega);have hbo:∀c,aH 0 c→both c:=fun c e=> .inl e;have hz:¬aH 0 0:=(by unfold aH;omega)
       exact hK _ _ ⟨_,_,_,_,_,_,true,_,_,_,_,_,_,_,_,_,_,_,_,_,_,_,_,_,_,_,.agg (aF.cells xr ev mv),_,_,_,_,_,_,_,o',by subst hn;simp [Bool.toNat]<;>omega,rfl,rfl,{h with fr:=h.fr.trans s.fr (fun j hj e=>by rw [h.old j hj] at e;exact hbo _ e),old:=fun k hk=>(s.old k (Nat.lt_of_lt_of_le hk h.fr.size)).trans (h.old k hk),fs:=s.fresh,m5:=(fun _ e=>nomatch e),m6:=fun _=>rn,s0:=(fun e=>nomatch e),m12:=(fun e=>nomatch e),m13:=(fun e=>nomatch e),t0:=fun _=>(h.t0 rfl).step GD.o.inv.ok s (fun c h e=>by unfold aH at*;omega),g14:=fun e=>((h.g14 e).any _).step s hz,g15:=fun e=>(h.g15 e).step s hz,o16:=(fun e=>nomatch e),o12:=fun _=>rfl}⟩
      | 7,h0,ho0,hd0=>
       obtain rfl:b7=false:=h0;obtain rfl:=Option.some.inj ho0;refine ⟨n - 1,by subst hn;simp [Bool.toNat]<;>omega,?_⟩;clear h0 ho0 hd0;refine wpOp_step rfl (fun K2 hK=> ?_);rw [if_pos (show Region.wanted _ _=true from rfl)];go_simp;exact hK _ _ ⟨_,_,_,_,_,_,_,true,_,_,_,_,_,_,_,_,_,_,_,_,_,_,_,_,_,_,_,.pointer (some ⟨Lt.s,0,none⟩),_,_,_,_,_,_,o,by subst hn;simp [Bool.toNat]<;>omega,rfl,rfl,{h with m7:=fun _=>rfl}⟩
      | 8,h0,ho0,hd0=>
       obtain rfl:b8=false:=h0;obtain rfl:=Option.some.inj ho0;refine ⟨n - 1,by subst hn;simp [Bool.toNat]<;>omega,?_⟩;clear h0 ho0 hd0;refine wpOp_step rfl (fun K2 hK=> ?_);rw [if_pos (show Region.wanted _ _=true from rfl)];go_simp;exact hK _ _ ⟨_,_,_,_,_,_,_,_,true,_,_,_,_,_,_,_,_,_,_,_,_,_,_,_,_,_,_,_,.slice (some ⟨b,off,none⟩) L1.length cap1,_,_,_,_,_,o,by subst hn;simp [Bool.toNat]<;>omega,rfl,rfl,{h with m8:=fun _=>rfl}⟩
      | 9,h0,ho0,hd0=>
       obtain rfl:b9=false:=h0;obtain rfl:=Option.some.inj ho0;refine ⟨n - 1,by subst hn;simp [Bool.toNat]<;>omega,?_⟩;clear h0 ho0 hd0;refine wpOp_step rfl (fun K2 hK=> ?_);rw [if_pos (show Region.wanted _ _=true from rfl)];go_simp;exact hK _ _ ⟨_,_,_,_,_,_,_,_,_,true,_,_,_,_,_,_,_,_,_,_,_,_,_,_,_,_,_,_,_,.int .i64 i,_,_,_,_,o,by subst hn;simp [Bool.toNat]<;>omega,rfl,rfl,{h with m9:=fun _=>rfl}⟩
      | 10,h0,ho0,hd0=>
       obtain rfl:b10=false:=h0;obtain rfl:=Option.some.inj ho0;have d8:b8=true:=hd0 ⟨8,Ground.data⟩ (by simp) rfl;have d9:b9=true:=hd0 ⟨9,Ground.data⟩ (by simp) rfl;refine ⟨n - 1,by subst hn;simp [Bool.toNat]<;>omega,?_⟩;clear h0 ho0 hd0;refine wpOp_step rfl (fun K2 hK=> ?_);rw [if_pos (show Region.wanted _ _=true from rfl)];obtain rfl:=h.m8 d8;obtain rfl:=h.m9 d9;go_simp;exact hK _ _ ⟨_,_,_,_,_,_,_,_,_,_,true,_,_,_,_,_,_,_,_,_,_,_,_,_,_,_,_,_,_,_,.pointer (some ⟨b,off+i*14,none⟩),_,_,_,o,by subst hn;simp [Bool.toNat]<;>omega,rfl,rfl,{h with m10:=fun _=>rfl}⟩
      | 11,h0,ho0,hd0=>
       obtain rfl:b11=false:=h0;obtain rfl:=Option.some.inj ho0;have d10:b10=true:=hd0 ⟨10,Ground.data⟩ (by simp) rfl;refine ⟨n - 1,by subst hn;simp [Bool.toNat]<;>omega,?_⟩;clear h0 ho0 hd0;refine wpOp_step rfl (fun K2 hK=> ?_);rw [if_pos (show Region.wanted _ _=true from rfl)];obtain rfl:=h.m10 d10;have hrw:w.rangeAt b (off+i*14) [.int .i64 r.c,.int .i64 r.l,.int .i64 r.q,.int .i64 r.kind,.string (ba r.path),.string (ba r.to),.bool r.dir,.bool r.wr,.bool r.cl,.int .i64 r.h,.int .i64 r.nx,.int .i64 r.sw,.slice bs st.length cs,.slice bd dl.length cd]:=fun a u hu=>sw.fr.cell_of (HR1.o a u hu) (by rw [HO.o];exact NOS.o);refine wp_load_mid 41 _ rfl b (off+i*14) rfl [.int .i64 r.c,.int .i64 r.l,.int .i64 r.q,.int .i64 r.kind,.string (ba r.path),.string (ba r.to),.bool r.dir,.bool r.wr,.bool r.cl,.int .i64 r.h,.int .i64 r.nx,.int .i64 r.sw,.slice bs st.length cs,.slice bd dl.length cd] _ hrw underlying41 rfl Tryz.rP ?_;exact hK _ _ ⟨_,_,_,_,_,_,_,_,_,_,_,true,_,_,_,_,_,_,_,_,_,_,_,_,_,_,_,_,_,_,_,.agg #[.int .i64 r.c,.int .i64 r.l,.int .i64 r.q,.int .i64 r.kind,.string (ba r.path),.string (ba r.to),.bool r.dir,.bool r.wr,.bool r.cl,.int .i64 r.h,.int .i64 r.nx,.int .i64 r.sw,.slice bs st.length cs,.slice bd dl.length cd],_,_,o,by subst hn;simp [Bool.toNat]<;>omega,rfl,rfl,{h with m11:=fun _=>rfl}⟩
      | 12,h0,ho0,hd0=>
       obtain rfl:b12=false:=h0;obtain rfl:=Option.some.inj ho0;have d11:b11=true:=hd0 ⟨11,Ground.data⟩ (by simp) rfl;have d6:b6=true:=hd0 ⟨6,Ground.chain⟩ (by simp) rfl;refine ⟨n - 1,by subst hn;simp [Bool.toNat]<;>omega,?_⟩;clear h0 ho0 hd0;refine wpOp_step rfl (fun K2 hK=> ?_);rw [if_pos (show Region.wanted _ _=true from rfl)];obtain rfl:=h.m11 d11;have hq:=Ae o r (.slice bs st.length cs) (.slice bd dl.length cd) st w h.fs (HR2.o.step sw NOS.o) ⟨_,_,_,rfl⟩ (by have:=HSM.o.2.2.1;omega);unfold uX aJ.cells at hq;go_simp;refine hq.mono ?_;rintro e w' ⟨rv',rfl,hrq,f⟩;have h':=h.no GD.o.inv.ok f;exact hK _ _ ⟨_,_,_,_,_,_,_,_,_,_,_,_,true,_,_,_,_,_,_,_,_,_,_,_,_,_,_,_,_,_,_,_,_,_,o,by subst hn;simp [Bool.toNat]<;>omega,rfl,rfl,{h' with m12:=fun _ _=>⟨rv',rfl,hrq⟩,o12:=fun _=>d6,o13:=fun _=>rfl}⟩
      | 13,h0,ho0,hd0=>
       obtain rfl:b13=false:=h0;obtain rfl:=Option.some.inj ho0;have d7:b7=true:=hd0 ⟨7,Ground.data⟩ (by simp) rfl;have d12:b12=true:=hd0 ⟨12,Ground.data⟩ (by simp) rfl;refine ⟨n - 1,by subst hn;simp [Bool.toNat]<;>omega,?_⟩;clear h0 ho0 hd0;refine wpOp_step rfl (fun K2 hK=> ?_);rw [if_pos (show Region.wanted _ _=true from rfl)];obtain rfl:=h.m7 d7;obtain ⟨rv,rfl,hrq⟩:=h.m12 d12 rfl;obtain rfl:b6=true:=h.o12 d12;obtain rfl:b17=false:=by
        rcases Bool.eq_false_or_eq_true b17 with e|e
        ·exact absurd (h.o17 e).2 (by simp)
        ·exact e
       have hw:=Df o 5000 (100*i) (2*i) Lt S r rv (.slice bd dl.length cd) st dl w (h.t0 rfl) GD.o.inv h.fs hrq (HR3.o.step sw NOS.o) HSM.o HGD.o (by omega) (by omega);unfold aJ.cells at hw;go_simp;refine hw.mono ?_;rintro e w' hwl;obtain ⟨v,o',rfl,s,rn,xr,ev,mv,rfl⟩:=Qj (K':=0) hwl (fun c h=>by unfold aH at*;omega);have hbo:∀c,aH 5000 c→both c:=fun c e=> .inr e;have hz:¬aH 5000 0:=(by unfold aH;omega)
       exact hK _ _ ⟨_,_,_,_,_,_,_,_,_,_,_,_,_,true,_,_,_,_,_,_,_,_,_,_,_,_,_,_,_,_,_,_,_,.agg (aF.cells xr ev mv),o',by subst hn;simp [Bool.toNat]<;>omega,rfl,rfl,{h with fr:=h.fr.trans s.fr (fun j hj e=>by rw [h.old j hj] at e;exact hbo _ e),old:=fun k hk=>(s.old k (Nat.lt_of_lt_of_le hk h.fr.size)).trans (h.old k hk),fs:=s.fresh,m5:=(fun _ e=>nomatch e),m6:=fun _=>(h.m6 rfl).other s (fun c h e=>by unfold aH at*;omega),s0:=(fun e=>nomatch e),m12:=(fun _ e=>nomatch e),m13:=fun _=>rn,t0:=(fun e=>nomatch e),g14:=fun e=>(h.g14 e).step s hz,g15:=fun e=>((h.g15 e).any _).step s hz,o17:=(fun e=>nomatch e),o13:=fun _=>d12}⟩
      | 14,h0,ho0,hd0=>
       obtain rfl:b14=false:=h0;obtain rfl:=Option.some.inj ho0;refine ⟨n - 1,by subst hn;simp [Bool.toNat]<;>omega,?_⟩;clear h0 ho0 hd0;refine wpOp_step rfl (fun K2 hK=> ?_);rw [if_pos (show Region.wanted _ _=true from rfl)];obtain rfl:b16=false:=by
        rcases Bool.eq_false_or_eq_true b16 with e|e
        ·exact absurd (h.o16 e).1 (by simp)
        ·exact e
       go_simp;have f:Fr No w (w.alloc (.cells #[.int .i64 0,.int .i64 0,.int .i64 0,.int .i64 0,.int .i64 0,.bool false,.slice none 0 0,.slice none 0 0] 29)):=(Fr.refl w).alloc _;have h':=h.no GD.o.inv.ok f;exact hK _ _ ⟨_,_,_,_,_,_,_,_,_,_,_,_,_,_,true,_,_,_,.pointer (some ⟨w.heap.size,0,none⟩),_,_,_,_,_,_,_,_,_,_,_,_,_,_,_,o,by subst hn;simp [Bool.toNat]<;>omega,rfl,rfl,{h' with g14:=fun _=>⟨w.heap.size,bD,.slice none 0 0,.slice none 0 0,rfl,h.fr.size,⟨aO w _,h.fs _ (Nat.le_refl _)⟩,(fun z e=>nomatch e),(fun z e=>nomatch e),(fun e=>nomatch e)⟩,ne:=fun _ e=>by (obtain ⟨g,x,ev,mv,e1,e2,e3,_⟩:=h.g15 e;have:=lt_of_block e3.1;intro e4;rw [e1] at e4;simp only [Value.pointer.injEq,Option.some.injEq,Addr.mk.injEq] at e4;omega),o16:=(fun e=>nomatch e)}⟩
      | 15,h0,ho0,hd0=>
       obtain rfl:b15=false:=h0;obtain rfl:=Option.some.inj ho0;refine ⟨n - 1,by subst hn;simp [Bool.toNat]<;>omega,?_⟩;clear h0 ho0 hd0;refine wpOp_step rfl (fun K2 hK=> ?_);rw [if_pos (show Region.wanted _ _=true from rfl)];obtain rfl:b17=false:=by
        rcases Bool.eq_false_or_eq_true b17 with e|e
        ·exact absurd (h.o17 e).1 (by simp)
        ·exact e
       go_simp;have f:Fr No w (w.alloc (.cells #[.int .i64 0,.int .i64 0,.int .i64 0,.int .i64 0,.int .i64 0,.bool false,.slice none 0 0,.slice none 0 0] 29)):=(Fr.refl w).alloc _;have h':=h.no GD.o.inv.ok f;exact hK _ _ ⟨_,_,_,_,_,_,_,_,_,_,_,_,_,_,_,true,_,_,_,.pointer (some ⟨w.heap.size,0,none⟩),_,_,_,_,_,_,_,_,_,_,_,_,_,_,o,by subst hn;simp [Bool.toNat]<;>omega,rfl,rfl,{h' with g15:=fun _=>⟨w.heap.size,bD,.slice none 0 0,.slice none 0 0,rfl,h.fr.size,⟨aO w _,h.fs _ (Nat.le_refl _)⟩,(fun z e=>nomatch e),(fun z e=>nomatch e),(fun e=>nomatch e)⟩,ne:=fun e _=>by (obtain ⟨g,x,ev,mv,e1,e2,e3,_⟩:=h.g14 e;have:=lt_of_block e3.1;intro e4;rw [e1] at e4;simp only [Value.pointer.injEq,Option.some.injEq,Addr.mk.injEq] at e4;omega),o17:=(fun e=>nomatch e)}⟩
      | 16,h0,ho0,hd0=>
       obtain rfl:b16=false:=h0;obtain rfl:=Option.some.inj ho0;have d14:b14=true:=hd0 ⟨14,Ground.data⟩ (by simp) rfl;have d6:b6=true:=hd0 ⟨6,Ground.data⟩ (by simp) rfl;have d13:b13=true:=hd0 ⟨13,Ground.chain⟩ (by simp) rfl;refine ⟨n - 1,by subst hn;simp [Bool.toNat]<;>omega,?_⟩;clear h0 ho0 hd0;refine wpOp_step rfl (fun K2 hK=> ?_);rw [if_pos (show Region.wanted _ _=true from rfl)];obtain rfl:=d6;obtain rfl:=d13;obtain ⟨x,ev,mv,e47,f1,f2,rp,hdid,inv,t⟩:=h.m6 rfl;obtain ⟨ea,el,ec,rfl,_⟩:=f1;obtain ⟨ma,ml,mc,rfl,_⟩:=f2;subst e47;obtain ⟨g,x0,ev0,mv0,rfl,hlt,hg,n1,n2,_⟩:=h.g14 d14;have f:Fr (fun k=>k=g) w (w.setRow g (x.1.cells (.slice ea el ec) (.slice ma ml mc))):=Fr.setRow (S:=fun k=>k=g) (Fr.refl w) (.inl rfl) _;have s:Step (fun c=>c=0) w o (w.setRow g (x.1.cells (.slice ea el ec) (.slice ma ml mc))) o:=⟨f.mono (fun k _ e=>by rw [e];exact hg.2),fun _ _=>rfl,fun k hk=>h.fs k (Nat.le_trans f.size hk)⟩
       have hnb:mV w g:=⟨_,29,_,hg.1,by decide,zI x0 ev0 mv0 n1 n2⟩
       have q1:=h.fr.trans f (fun j hj e=>by omega);refine wp_store_row 29 (.tmp 8) (.tmp 47) rfl g (x.1.cells (.slice ea el ec) (.slice ma ml mc)) rfl rfl 29 _ hg.1 Tryz.size29 (by simp [aF.cells]) (aF.cells_one rfl rfl) ?_;exact hK _ _ ⟨_,_,_,_,_,_,_,_,_,_,_,_,_,_,_,_,true,_,_,_,_,_,_,_,_,_,_,_,_,_,_,_,_,_,o,by subst hn;simp [Bool.toNat]<;>omega,rfl,rfl,{h with fr:=q1,fs:=s.fresh,m5:=(fun _ e=>nomatch e),m6:=fun _=>(h.m6 rfl).store s f hnb,s0:=(fun e=>nomatch e),m12:=(fun _ e=>nomatch e),m13:=fun _=>(h.m13 rfl).store s f hnb,t0:=(fun e=>nomatch e),g14:=fun _=>⟨g,x.1,_,_,rfl,hlt,⟨dS hg.1,hg.2⟩,(fun z e=>nomatch e),(fun z e=>nomatch e),fun _=>rfl⟩,g15:=fun e=>by (obtain ⟨g',x',ev',mv',rfl,e2,e3,e4⟩:=h.g15 e;have:=h.ne d14 e;exact ⟨g',x',ev',mv',rfl,e2,⟨f.aC e3.1 (by intro e';rw [e'] at this;exact this rfl),e3.2⟩,e4⟩),o16:=fun _=>⟨d14,rfl⟩}⟩
      | 17,h0,ho0,hd0=>
       obtain rfl:b17=false:=h0;obtain rfl:=Option.some.inj ho0;have d15:b15=true:=hd0 ⟨15,Ground.data⟩ (by simp) rfl;have d6:b6=true:=hd0 ⟨6,Ground.phase⟩ (by simp) rfl;have d13:b13=true:=hd0 ⟨13,Ground.data⟩ (by simp) rfl;refine ⟨n - 1,by subst hn;simp [Bool.toNat]<;>omega,?_⟩;clear h0 ho0 hd0;refine wpOp_step rfl (fun K2 hK=> ?_);rw [if_pos (show Region.wanted _ _=true from rfl)];obtain rfl:=d6;obtain rfl:=d13;obtain ⟨x,ev,mv,e47,f1,f2,rp,hdid,inv,t⟩:=h.m13 rfl;obtain ⟨ea,el,ec,rfl,_⟩:=f1;obtain ⟨ma,ml,mc,rfl,_⟩:=f2;subst e47;obtain ⟨g,x0,ev0,mv0,rfl,hlt,hg,n1,n2,_⟩:=h.g15 d15;have f:Fr (fun k=>k=g) w (w.setRow g (x.1.cells (.slice ea el ec) (.slice ma ml mc))):=Fr.setRow (S:=fun k=>k=g) (Fr.refl w) (.inl rfl) _;have s:Step (fun c=>c=0) w o (w.setRow g (x.1.cells (.slice ea el ec) (.slice ma ml mc))) o:=⟨f.mono (fun k _ e=>by rw [e];exact hg.2),fun _ _=>rfl,fun k hk=>h.fs k (Nat.le_trans f.size hk)⟩
       have hnb:mV w g:=⟨_,29,_,hg.1,by decide,zI x0 ev0 mv0 n1 n2⟩
       have q1:=h.fr.trans f (fun j hj e=>by omega);refine wp_store_row 29 (.tmp 9) (.tmp 54) rfl g (x.1.cells (.slice ea el ec) (.slice ma ml mc)) rfl rfl 29 _ hg.1 Tryz.size29 (by simp [aF.cells]) (aF.cells_one rfl rfl) ?_;exact hK _ _ ⟨_,_,_,_,_,_,_,_,_,_,_,_,_,_,_,_,_,true,_,_,_,_,_,_,_,_,_,_,_,_,_,_,_,_,o,by subst hn;simp [Bool.toNat]<;>omega,rfl,rfl,{h with fr:=q1,fs:=s.fresh,m5:=(fun _ e=>nomatch e),m6:=fun _=>(h.m6 rfl).store s f hnb,s0:=(fun e=>nomatch e),m12:=(fun _ e=>nomatch e),m13:=fun _=>(h.m13 rfl).store s f hnb,t0:=(fun e=>nomatch e),g15:=fun _=>⟨g,x.1,_,_,rfl,hlt,⟨dS hg.1,hg.2⟩,(fun z e=>nomatch e),(fun z e=>nomatch e),fun _=>rfl⟩,g14:=fun e=>by (obtain ⟨g',x',ev',mv',rfl,e2,e3,e4⟩:=h.g14 e;have:=h.ne e d15;exact ⟨g',x',ev',mv',rfl,e2,⟨f.aC e3.1 (by intro e';rw [e'] at this;exact this rfl),e3.2⟩,e4⟩),o17:=fun _=>⟨d15,rfl⟩}⟩
      | k+18,h0,ho0,hd0=>exact absurd ho0 (by simp)
    ·have q1:¬(i:Int)<(L1.length:Int):=by omega
     have HCL:=lH (aCO oi 0 10000 (100*i) (2*i) Ls S wr TS.o GD.o.inv GD.o.win SI.o.fresh (by omega) (by omega));unfold zG at HCL;go_wp2_with fail;refine HCL.o.mono ?_;rintro e w8 ⟨Lc,o8,rfl,s8,t8⟩;have TS8:=lH (TS.o.step GD.o.inv.ok s8 kp);have TT8:=lH (TT.o.step GD.o.inv.ok s8 kp);have TC8:=lH t8;have F8:Hid (Fr No w w8):=lH (by
      have a:=F5.o.bK (S:=fun k=>both (o5 k))|>.trans SI.o.fr kp
      have b:=a.no (fun k hk e=>by rw [HLE.o k hk] at e;unfold both aH at e;omega);exact b.trans (s8.fr.mono kp) (fun _ _ e=>e.elim))
     have HL8:Hid (∀k,k<w.heap.size→o8 k=0):=lH (fun k hk=>by
      have h5:=Nat.lt_of_lt_of_le hk F5.o.size;rw [s8.old k (Nat.lt_of_lt_of_le h5 SI.o.fr.size),SI.o.old k h5];exact HLE.o k hk)
     have HKa:=lH ((H25.o.step SI.o NOS.o).step s8 id);have LJa:Hid (xI 0 w8 o8 Ls L2 S i 0 w8):=lH ⟨o8,S,Step.refl s8.fresh,TS8.o,Run.zero,GD.o.inv,GD.o.win⟩;clear s8 t8 HCL TS TT SI;go_wp2_with fail;go_loopw [11] (fun a wr=>∃j:Nat,a=.int .i64 j∧j≤L2.length∧Hid (xI 0 w8 o8 Ls L2 S i j wr)) (fun a _=>L2.length - (intOf a).toNat)
     case atStart=>exact ⟨0,rfl,Nat.zero_le _,LJa⟩
     case round=>
      obtain ⟨j,rfl,hj,HLJ⟩:=hrel;obtain ⟨oj,T,sj,tj,rj,ij,pj⟩:=HLJ.o;have SJ:=lH sj;have TJ:=lH tj;have RJ:=lH rj;have IJ:=lH ij;have PJ:=lH pj;have hl30:=HL30.o;have hl50':=HL50.o;clear sj tj rj ij pj HLJ;by_cases hlt2:j<L2.length
      ·have q5:(j:Int)<(L2.length:Int):=by omega
       have q6:(0:Int)≤(j:Int):=(by omega)
       have hne2:L2≠ []:=by
        intro e;subst e;simp at hlt2
       have nz:¬aH 0 0:=(by unfold aH;omega)
       have NZ:=lH nz;have HRQS:=HKa.o.step SJ.o nz;obtain ⟨b,off,hbase,ho,hbl,hrows⟩:=HRQS.at hne2;subst hbase;have hrq0:=hrows j L2[j] (List.getElem?_eq_getElem hlt2);have HY:Hid (L2[j]? =some L2[j]):=lH (List.getElem?_eq_getElem hlt2);obtain ⟨rv,dv,hr1,hr2,hr3⟩:=hrq0;have HSM:=lH (SM2.o.2 L2[j] (List.getElem_mem hlt2));have HGD:=lH (G2.o L2[j] (List.getElem_mem hlt2));generalize L2[j]=y at*;obtain ⟨r,st,dl⟩:=y;dsimp only at hr1 hr2 hr3 HGD;unfold kJ at HSM;dsimp only at HSM;obtain ⟨bs,cs,rfl⟩:=hr2.slice;obtain ⟨bd,cd,rfl⟩:=hr3.slice;have HR1:=lH hr1;have HR2:=lH hr2;have HR3:=lH hr3;unfold aJ.cells at HR1;clear hrows ho hr1 hr2 hr3 HRQS;have HRQ:=lH (Ae oj r (.slice bs st.length cs) (.slice bd dl.length cd) st wr SJ.o.fresh HR2.o ⟨_,_,_,rfl⟩ (by have:=HSM.o.2.2.1;omega));unfold uX aJ.cells at HRQ;go_wp2_with (refine wpList_load_mid (by rfl) 41 _ (by rfl) b (off+j*14) (by rfl) [.int .i64 r.c,.int .i64 r.l,.int .i64 r.q,.int .i64 r.kind,.string (ba r.path),.string (ba r.to),.bool r.dir,.bool r.wr,.bool r.cl,.int .i64 r.h,.int .i64 r.nx,.int .i64 r.sw,.slice bs st.length cs,.slice bd dl.length cd] _ HR1.o underlying41 rfl Tryz.rP ?_);refine HRQ.o.mono ?_;rintro e wq ⟨rv',rfl,hrq,fq⟩;have TQ:=TJ.o.no IJ.o.ok SJ.o.fresh fq;have sq:Step (fun _=>False) wr oj wq oj:=Step.no SJ.o.fresh fq;have SQ:Hid (Step (aH 0) w8 o8 wq oj):=lH (SJ.o.trans sq (fun _ e=>e.elim));have HW:=lH (Df oj 0 (100*(i+j)) (2*(i+j)) Ls T r rv' _ st dl wq TQ IJ.o sq.fresh hrq (HR3.o.no SJ.o.fresh fq) HSM.o HGD.o (by omega) (by omega));unfold Dj aJ.cells at HW;clear TQ hrq fq sq HRQ TJ SJ HR1 HR2 HR3;go_wp2_with fail;refine HW.o.mono ?_;rintro e w9 ⟨x,o9,ev,mv,rfl,_,_,_,d9,i9,s9,t9,_,_,_⟩;have LN:Hid (xI 0 w8 o8 Ls L2 S i (j+1) w9):=lH ⟨o9,x.2,SQ.o.trans s9 (fun _ e=>e),by rw [show 100*(i+(j+1))=100*(i+j)+100 by omega];exact t9,Run.succ RJ.o HY.o d9,by rw [show 2*(i+(j+1))=2*(i+j)+2 by omega];exact i9,PJ.o.turn (vZ d9)⟩;clear d9 i9 s9 t9 HW SQ;go_wp2_with fail;go_roundw
       case rel=>exact ⟨j+1,by go_num,hlt2,LN⟩
       case measure=>simp [intOf];omega
      ·have q5:¬(j:Int)<(L2.length:Int):=by omega
       obtain rfl:j=L2.length:=(by omega)
       have TCJ:=lH (TC8.o.step GD.o.inv.ok SJ.o (fun c h e=>by unfold aH at*;omega));have TTJ:=lH (TT8.o.step GD.o.inv.ok SJ.o (fun c h e=>by unfold aH at*;omega));have HEN:=lH (Ai oj 10000 _ Lc S wr TCJ.o GD.o.inv.ok SJ.o.fresh (by omega) GD.o.inv.lens');unfold uZ at HEN;go_wp2_with fail;refine HEN.o.mono ?_;rintro e w10 ⟨v10,ss,stp,rfl,sl10,f10,hl10,_⟩;have HE0:=aCa GD.o.inv GD.o.win GD.o.live GD.o.fit (by omega) (by omega) stp;rw [HE0];have HEN2:=lH (Ai oj 5000 _ Lt S w10 (TTJ.o.no GD.o.inv.ok SJ.o.fresh f10) GD.o.inv.ok (Step.no (C:=fun _=>False) SJ.o.fresh f10).fresh (by omega) GD.o.inv.lens');unfold uZ at HEN2;have STP:=lH stp;have SL10:=lH sl10;have F10:=lH f10;clear stp sl10 f10 HEN;go_wp2_with fail;refine HEN2.o.mono ?_;rintro e w11 ⟨v11,ss2,stp2,rfl,sl11,f11,hl11,_⟩;obtain rfl:=stp2.same' STP.o;rw [HE0];have HS:=lH (Iu v10 v11 _ w11 (SL10.o.no f11) sl11 (by omega));have F11:=lH (F10.o.trans f11 kp);clear stp2 sl11 f11 HEN2;go_wp2_with fail;refine HS.o.mono ?_;rintro e w12 ⟨rfl,f12⟩;have F12:=lH (F11.o.trans f12 kp);clear f12 HS;have S12:Hid (Step (aH 0) w8 o8 w12 oj):=lH (SJ.o.trans (Step.no (C:=fun _=>False) SJ.o.fresh F12.o) (fun _ e=>e.elim));have TS12:=lH (TJ.o.no IJ.o.ok SJ.o.fresh F12.o);have TC12:=lH (TCJ.o.no GD.o.inv.ok SJ.o.fresh F12.o);obtain ⟨oq,hoq⟩:∃oq,oq=oj:=⟨_,rfl⟩
       rw [← hoq] at S12 TS12 TC12;have HKb:=lH (HKa.o.step S12.o (by unfold aH;omega));have RUN:=RJ;have TOK:=IJ;have TWN:=PJ;have LJb:Hid (xI 10000 w12 oq Lc L2 S i 0 w12):=lH ⟨oq,S,Step.refl S12.o.fresh,TC12.o,Run.zero,GD.o.inv,GD.o.win⟩;clear TCJ TTJ SJ TJ RJ IJ PJ q5;go_wp2_with fail;go_loopw [16] (fun a wr=>∃j:Nat,a=.int .i64 j∧j≤L2.length∧Hid (xI 10000 w12 oq Lc L2 S i j wr)) (fun a _=>L2.length - (intOf a).toNat)
       case atStart=>exact ⟨0,rfl,Nat.zero_le _,LJb⟩
       case round=>
        obtain ⟨j,rfl,hj,HLJ⟩:=hrel;obtain ⟨oj,T,sj,tj,rj,ij,pj⟩:=HLJ.o;have SJ:=lH sj;have TJ:=lH tj;have RJ:=lH rj;have IJ:=lH ij;have PJ:=lH pj;have hl30:=HL30.o;have hl50':=HL50.o;clear sj tj rj ij pj HLJ;by_cases hlt2:j<L2.length
        ·have q5:(j:Int)<(L2.length:Int):=by omega
         have q6:(0:Int)≤(j:Int):=(by omega)
         have hne2:L2≠ []:=by
          intro e;subst e;simp at hlt2
         have nz:¬aH 10000 0:=(by unfold aH;omega)
         have NZ:=lH nz;have HRQS:=HKb.o.step SJ.o nz;obtain ⟨b,off,hbase,ho,hbl,hrows⟩:=HRQS.at hne2;subst hbase;have hrq0:=hrows j L2[j] (List.getElem?_eq_getElem hlt2);have HY:Hid (L2[j]? =some L2[j]):=lH (List.getElem?_eq_getElem hlt2);obtain ⟨rv,dv,hr1,hr2,hr3⟩:=hrq0;have HSM:=lH (SM2.o.2 L2[j] (List.getElem_mem hlt2));have HGD:=lH (G2.o L2[j] (List.getElem_mem hlt2));generalize L2[j]=y at*;obtain ⟨r,st,dl⟩:=y;dsimp only at hr1 hr2 hr3 HGD;unfold kJ at HSM;dsimp only at HSM;obtain ⟨bs,cs,rfl⟩:=hr2.slice;obtain ⟨bd,cd,rfl⟩:=hr3.slice;have HR1:=lH hr1;have HR2:=lH hr2;have HR3:=lH hr3;unfold aJ.cells at HR1;clear hrows ho hr1 hr2 hr3 HRQS;have HRQ:=lH (Ae oj r (.slice bs st.length cs) (.slice bd dl.length cd) st wr SJ.o.fresh HR2.o ⟨_,_,_,rfl⟩ (by have:=HSM.o.2.2.1;omega));unfold uX aJ.cells at HRQ;go_wp2_with (refine wpList_load_mid (by rfl) 41 _ (by rfl) b (off+j*14) (by rfl) [.int .i64 r.c,.int .i64 r.l,.int .i64 r.q,.int .i64 r.kind,.string (ba r.path),.string (ba r.to),.bool r.dir,.bool r.wr,.bool r.cl,.int .i64 r.h,.int .i64 r.nx,.int .i64 r.sw,.slice bs st.length cs,.slice bd dl.length cd] _ HR1.o underlying41 rfl Tryz.rP ?_);refine HRQ.o.mono ?_;rintro e wq ⟨rv',rfl,hrq,fq⟩;have TQ:=TJ.o.no IJ.o.ok SJ.o.fresh fq;have sq:Step (fun _=>False) wr oj wq oj:=Step.no SJ.o.fresh fq;have SQ:Hid (Step (aH 10000) w12 oq wq oj):=lH (SJ.o.trans sq (fun _ e=>e.elim));have HW:=lH (Df oj 10000 (100*(i+j)) (2*(i+j)) Lc T r rv' _ st dl wq TQ IJ.o sq.fresh hrq (HR3.o.no SJ.o.fresh fq) HSM.o HGD.o (by omega) (by omega));unfold Dj aJ.cells at HW;clear TQ hrq fq sq HRQ TJ SJ HR1 HR2 HR3;go_wp2_with fail;refine HW.o.mono ?_;rintro e w9 ⟨x,o9,ev,mv,rfl,_,_,_,d9,i9,s9,t9,_,_,_⟩;have LN:Hid (xI 10000 w12 oq Lc L2 S i (j+1) w9):=lH ⟨o9,x.2,SQ.o.trans s9 (fun _ e=>e),by rw [show 100*(i+(j+1))=100*(i+j)+100 by omega];exact t9,Run.succ RJ.o HY.o d9,by rw [show 2*(i+(j+1))=2*(i+j)+2 by omega];exact i9,PJ.o.turn (vZ d9)⟩;clear d9 i9 s9 t9 HW SQ;go_wp2_with fail;go_roundw
         case rel=>exact ⟨j+1,by go_num,hlt2,LN⟩
         case measure=>simp [intOf];omega
        ·have q5:¬(j:Int)<(L2.length:Int):=by omega
         obtain rfl:j=L2.length:=(by omega)
         have hTT:=Vs RJ.o RUN.o;subst hTT;have TSJ:=lH (TS12.o.step IJ.o.ok SJ.o (fun c h e=>by unfold aH at*;omega));have HEN:=lH (Ai _ 10000 _ Lc _ wr TJ.o IJ.o.ok SJ.o.fresh (by omega) IJ.o.lens');unfold uZ at HEN;go_wp2_with fail;refine HEN.o.mono ?_;rintro e w13 ⟨v13,ss3,stp3,rfl,sl13,f13,hl13,_⟩;have HEN2:=lH (Ai _ 0 _ Ls _ w13 (TSJ.o.no IJ.o.ok SJ.o.fresh f13) IJ.o.ok (Step.no (C:=fun _=>False) SJ.o.fresh f13).fresh (by omega) IJ.o.lens');unfold uZ at HEN2;have STP3:=lH stp3;have SL13:=lH sl13;have F13:=lH f13;clear stp3 sl13 f13 HEN;go_wp2_with fail;refine HEN2.o.mono ?_;rintro e w14 ⟨v14,ss4,stp4,rfl,sl14,f14,hl14,_⟩;obtain rfl:=stp4.same' STP3.o;have HS:=lH (Iu v13 v14 _ w14 (SL13.o.no f14) sl14 (by omega));have F14:=lH (F13.o.trans f14 kp);clear stp4 sl14 f14 HEN2;go_wp2_with fail;refine HS.o.mono ?_;rintro e w15 ⟨rfl,f15⟩;have FE:Hid (Fr No w w15):=lH (by
          have a:=F8.o.bK (S:=fun k=>aH 0 (o8 k))|>.trans S12.o.fr kp
          have b:=a.no (fun k hk e=>by rw [HL8.o k hk] at e;unfold aH at e;omega);have c:=(b.bK (S:=fun k=>aH 10000 (oq k))).trans SJ.o.fr kp;have d:=c.no (fun k hk e=>by rw [S12.o.old k (Nat.lt_of_lt_of_le hk F8.o.size),HL8.o k hk] at e;unfold aH at e;omega);exact d.trans (F14.o.trans f15 kp) kp)
         go_wp2_with fail;exact HQ.o _ FE.o
