/- Part of the proof; the last text says what is proved. -/
import Derived.Test.YtlcojhddnpmgmaaGreatW16
import Derived.Test.YtlcojhddnpmgmaaGreatW24
import Derived.Test.YtlcojhddnpmgmaaGreatW36
import Derived.ChangeArms
import Derived.Deep.Slices
import Derived.OpenShut
import Derived.ProofKit
set_option linter.unusedSimpArgs false
set_option linter.unusedVariables false
set_option maxRecDepth 100000
set_option maxHeartbeats 3200000
namespace Go.Proofs.YtlcojhddnpmgmaaGreat
open Go.RowKit
def rq (n:Int):Req:=⟨0,0,n,1, [47,102], [],false,false,false,0,0,0⟩
theorem rq_cells (n:Int):(rq n).cells (.slice none 0 0) (.slice none 0 0)=req n 1 ⟨#[47,102]⟩:=rfl
def X1:RepS×St:=askedS (triedOf (deedF (rq 1) [] [] 1 (askB S0 0 3))) 0 (rq 1)
def S1:St:=X1.2
theorem X1_rep:X1.1=⟨0,2,0,0,0,false, [], []⟩:=by rfl
theorem X1_ok:X1.1.ok:=by rw [X1_rep];exact plain_ok (by omega) (by omega) (by omega) (by omega) (by omega)
theorem S1_inv:StInv S1 2:=(asked_inv (fine_all (S0_inv.askB 0 3) (rq 1) [] [] 1 ⟨by decide,by decide⟩) (by omega) 0 (rq 1)).more (by omega)
theorem S1_row:S1.W 0=some (0,1,X1.1.bytes):=by rfl
theorem did1 {x:RepS×St} (h:Did S0 (rq 1) [] [] x):x=X1:=by
 unfold Did at h;rw [if_neg (show ¬(rq 1).kind=10 by decide),if_neg (show ¬(rq 1).kind=11 by decide),if_neg (show ¬(rq 1).kind=9 by decide),if_neg (show ¬¬(1≤(rq 1).kind∧(rq 1).kind≤8) by decide)] at h;rw [show askOf S0.W (rq 1).c (rq 1).l (rq 1).q=(3,none) by rfl,if_neg (by decide),if_neg (by decide)] at h;exact h
theorem bytes_ino {r:RepS} (hr:r.ok) (h:r.bytes=X1.1.bytes):r.ino=2:=by
 obtain ⟨f1,e1⟩:=hr.raw;obtain ⟨_,e2⟩:=X1_ok.raw;rw [e1,e2] at h;unfold RepS.rawB at h;have hl:(numB 1 r.e.toNat).length=(numB 1 X1.1.e.toNat).length:=by rw [numB_length,numB_length]
 have h2:=(List.append_inj h hl).2;have hl2:(numB 2 r.ino.toNat).length=(numB 2 X1.1.ino.toNat).length:=by rw [numB_length,numB_length]
 have h3:=(List.append_inj h2 hl2).1;rw [X1_rep,numB2,numB2] at h3;simp only [List.cons.injEq,and_true] at h3;have a:=congrArg UInt8.toNat h3.1;have b:=congrArg UInt8.toNat h3.2;have hi:=f1.ino;simp at a b;omega
theorem did2 {x:RepS×St} (h:Did S1 (rq 1) [] [] x):x.2=S1∧x.1.ino=2:=by
 unfold Did at h;rw [if_neg (show ¬(rq 1).kind=10 by decide),if_neg (show ¬(rq 1).kind=11 by decide),if_neg (show ¬(rq 1).kind=9 by decide),if_neg (show ¬¬(1≤(rq 1).kind∧(rq 1).kind≤8) by decide)] at h;have ha:askOf S1.W (rq 1).c (rq 1).l (rq 1).q=(1,some X1.1.bytes):=by
  unfold askOf;rw [if_pos (by decide),show S1.W (rq 1).c.toNat=some (0,1,X1.1.bytes) from S1_row];rfl
 rw [ha,if_pos rfl] at h;exact ⟨h.1,bytes_ino h.2.2 (by have:=h.2.1;simpa using this.symm)⟩
theorem did3 {x:RepS×St} (h:Did S1 (rq 2) [] [] x):x.1.e=7:=by
 unfold Did at h;rw [if_neg (show ¬(rq 2).kind=10 by decide),if_neg (show ¬(rq 2).kind=11 by decide),if_neg (show ¬(rq 2).kind=9 by decide),if_neg (show ¬¬(1≤(rq 2).kind∧(rq 2).kind≤8) by decide)] at h;have ha:askOf S1.W (rq 2).c (rq 2).l (rq 2).q=(0,none):=by
  unfold askOf;rw [if_pos (by decide),show S1.W (rq 2).c.toNat=some (0,1,X1.1.bytes) from S1_row];rfl
 rw [ha,if_neg (by decide),if_neg (by decide)] at h;rw [h];rfl
theorem rq_small (n:Int):Small (rq n) [] []:=⟨(show ([47,102]:List UInt8).length≤300 by decide),(show ([]:List UInt8).length≤300 by decide),by decide,by decide,fun _ h=>by cases h⟩
theorem nil_rows {α:Type} (c:α→List Value) (n:Nat) (w:World) (o:Nat→Nat):RowsAt c n w o (.slice none 0 0) []:=⟨none,0,rfl,fun h=>absurd rfl h⟩
def Made3 (w:World) (o:Nat→Nat) (L:Plc) (S:St) (n:Nat) (m:Int) (e:Ending) (w':World):Prop:=
 ∃(x:RepS×St) (o':Nat→Nat) (ev mv:Value),e=.returned (.agg (x.1.cells ev mv))∧ev.oneCell'=true∧mv.oneCell'=true∧Did S (rq m) [] [] x∧Step (stateC 0) w o w' o'∧StateAt w' o' 0 L x.2 (n+100)
theorem made2 (o:Nat→Nat) (n q:Nat) (m:Int) (L:Plc) (S:St) (w:World) (h:StateAt w o 0 L S n) (inv:StInv S q) (hf:Fresh w o) (hq:q≤90000) (hn:n≤400000):
  Calls Tryz.prog 15 #[.pointer (some ⟨L.s,0,none⟩),.agg (req m 1 ⟨#[47,102]⟩)] w (Made3 w o L S n m):=by
 rw [← rq_cells];exact (gapply_ o 0 n q L S (rq m) _ _ [] [] w h inv hf (nil_rows _ _ _ _) (nil_rows _ _ _ _) (rq_small m) hq hn).mono (fun e w' p=>by
  obtain ⟨x,h1,_,⟨o',s,t⟩,ev,mv,he,a,b,_⟩:=p;exact ⟨x,o',ev,mv,he,a,b,h1,s,t⟩)
theorem wpAny_inv {P:Program} {md:Region.Mode} {ops:Array Oper} {Q:Exit→Act→World→Prop} (Inv:Nat→Array Bool→Act→World→Prop)
  (hs:∀n listed a w,Inv n listed a w→∀i∈Region.ready md ops listed,∃m,n=m+1∧wpOp P ops Q i (Inv m (listed.setIfInBounds i true)) a w)
  (hd:∀n listed a w,Inv n listed a w→Region.ready md ops listed= []→Q .normal a w):
  ∀n listed a w,Inv n listed a w→wpAny P md ops Q n listed a w:=by
 intro n;induction n with
 | zero=>
  intro listed a w h;have hr:Region.ready md ops listed= []:=by
   rcases hc:Region.ready md ops listed with _|⟨i,l⟩
   ·rfl
   ·obtain ⟨m,hm,_⟩:=hs 0 listed a w h i (by rw [hc];simp);omega
  exact ⟨hr,hd 0 listed a w h hr⟩
 | succ n ih=>
  intro listed a w h;refine ⟨fun hr=>hd _ listed a w h hr,fun i hi=> ?_⟩;obtain ⟨m,hm,h1⟩:=hs (n+1) listed a w h i hi;obtain rfl:n=m:=by omega
  exact wpOp_mono (fun a w hk=>ih _ a w hk) h1
structure Aw (L:Plc) (w1:World) (o1:Nat→Nat) (b0 b1 b2 b3 b4 b5 b6 b7 b8 b9 b10 b11:Bool) (v3 v4 v12 v13 v14 v15 v16 v17 v18 v19:Value) (o:Nat→Nat) (w:World):Prop where
 fr:Fr (fun k=>stateC 0 (o1 k)) w1 w
 old:∀k,k<w1.heap.size→o k=o1 k
 fs:Fresh w o
 rb:Zero w o w1.heap.size (.cells (req 1 1 ⟨#[47,102]⟩) 41 (0,0))
 m0:b0=true→v12=.pointer (some ⟨L.s,0,none⟩)
 m1:b1=true→v13=.agg (req 1 1 ⟨#[47,102]⟩)
 m2:b2=true→v14=.agg (req 1 1 ⟨#[47,102]⟩)
 m3:b3=true→∃ev mv,v15=.agg (X1.1.cells ev mv)∧ev.oneCell'=true∧mv.oneCell'=true
 m4:b4=true→v16=.pointer (some ⟨L.s,0,none⟩)
 m5:b5=true→v17=.agg (req 1 1 ⟨#[47,102]⟩)
 m6:b6=true→v18=.agg (req 1 1 ⟨#[47,102]⟩)
 m7:b7=true→∃(r:RepS) (ev mv:Value),v19=.agg (r.cells ev mv)∧r.ino=2∧ev.oneCell'=true∧mv.oneCell'=true
 s0:b3=false→StateAt w o 0 L S0 0
 s1:b3=true→∃n,n≤100+b7.toNat*100∧StateAt w o 0 L S1 n
 g8:b8=true→∃g cs,v3=.pointer (some ⟨g,0,none⟩)∧w1.heap.size<g∧Zero w o g (.cells cs 29 (0,0))∧cs.size=8∧(b10=true→v15=.agg cs)
 g9:b9=true→∃g cs,v4=.pointer (some ⟨g,0,none⟩)∧w1.heap.size<g∧Zero w o g (.cells cs 29 (0,0))∧cs.size=8∧(b11=true→v19=.agg cs)
 ne:b8=true→b9=true→v3≠v4
 o10:b10=true→b8=true
 o11:b11=true→b9=true
 o6:b6=true→b3=true
 o3:b10=true→b3=true
 o7:b11=true→b7=true
 o73:b7=true→b3=true
section
variable {L:Plc} {w1 w w':World} {o1 o o':Nat→Nat} {b0 b1 b2 b3 b4 b5 b6 b7 b8 b9 b10 b11:Bool} {v3 v4 v12 v13 v14 v15 v16 v17 v18 v19:Value}
theorem Aw.step (h:Aw L w1 o1 b0 b1 b2 b3 b4 b5 b6 b7 b8 b9 b10 b11 v3 v4 v12 v13 v14 v15 v16 v17 v18 v19 o w) (s:Step (fun c=>c=0) w o w' o') (hz:∀b x,Zero w o b x→(b=w1.heap.size∨(∃cs,x=.cells cs 29 (0,0)))→Zero w' o' b x) (hfr:Fr (fun k=>w1.heap.size≤k) w w'):Aw L w1 o1 b0 b1 b2 b3 b4 b5 b6 b7 b8 b9 b10 b11 v3 v4 v12 v13 v14 v15 v16 v17 v18 v19 o' w':=
 {h with
  fr:=h.fr.trans hfr (fun j hj e=>by omega)
  old:=fun k hk=>(s.old k (Nat.lt_of_lt_of_le hk h.fr.size)).trans (h.old k hk)
  fs:=s.fresh
  rb:=hz _ _ h.rb (.inl rfl)
  s0:=fun e=>(h.s0 e).step S0_inv.ok s (fun c h e=>by unfold stateC at h;omega)
  s1:=fun e=>by
   obtain ⟨n,hn,t⟩:=h.s1 e;exact ⟨n,hn,t.step S1_inv.ok s (fun c h e=>by unfold stateC at h;omega)⟩
  g8:=fun e=>by
   obtain ⟨g,cs,e1,e2,e3,e4⟩:=h.g8 e;exact ⟨g,cs,e1,e2,hz _ _ e3 (.inr ⟨cs,rfl⟩),e4⟩
  g9:=fun e=>by
   obtain ⟨g,cs,e1,e2,e3,e4⟩:=h.g9 e;exact ⟨g,cs,e1,e2,hz _ _ e3 (.inr ⟨cs,rfl⟩),e4⟩}
theorem Aw.no (h:Aw L w1 o1 b0 b1 b2 b3 b4 b5 b6 b7 b8 b9 b10 b11 v3 v4 v12 v13 v14 v15 v16 v17 v18 v19 o w) (f:Fr No w w'):Aw L w1 o1 b0 b1 b2 b3 b4 b5 b6 b7 b8 b9 b10 b11 v3 v4 v12 v13 v14 v15 v16 v17 v18 v19 o w':=
 h.step ((Step.no (C:=fun _=>False) h.fs f).mono (fun _ e=>e.elim)) (fun _ _ z _=>z.no f) f.of_no
end
def AwI (L:Plc) (w1:World) (o1:Nat→Nat) (n:Nat) (listed:Array Bool) (a:Act) (w:World):Prop:=
 ∃b0 b1 b2 b3 b4 b5 b6 b7 b8 b9 b10 b11:Bool,∃v3 v4 v12 v13 v14 v15 v16 v17 v18 v19:Value,∃o:Nat→Nat,n=(!b0).toNat+(!b1).toNat+(!b2).toNat+(!b3).toNat+(!b4).toNat+(!b5).toNat+(!b6).toNat+(!b7).toNat+(!b8).toNat+(!b9).toNat+(!b10).toNat+(!b11).toNat∧listed= #[b0,b1,b2,b3,b4,b5,b6,b7,b8,b9,b10,b11]∧
  a=⟨#[.bool false,.pointer (some ⟨L.s,0,none⟩),.pointer (some ⟨w1.heap.size,0,none⟩),v3,v4,undef,.pointer (some ⟨L.s,0,none⟩),.pointer (some ⟨L.s,0,none⟩),.bool false,.agg (req 0 1 ⟨#[47,102]⟩),.pointer (some ⟨w1.heap.size,0,none⟩),.pointer (some ⟨w1.heap.size,2,none⟩),v12,v13,v14,v15,v16,v17,v18,v19,undef,undef,undef,undef,undef,undef,undef,undef,undef,undef,undef,undef,undef,undef,undef,undef,undef,undef,undef], []⟩∧
  Aw L w1 o1 b0 b1 b2 b3 b4 b5 b6 b7 b8 b9 b10 b11 v3 v4 v12 v13 v14 v15 v16 v17 v18 v19 o w
theorem gawake_ (w0:World):Calls Tryz.prog 13 #[] w0 fun e w'=>e=.returned (.bool true)∧Fr No w0 w':=by
 go_enter Tryz.func13,Tryz.ntmps13;go_wp2_with fail;refine (gstate_new _).mono ?_;rintro e w1 ⟨L,o1,rfl,sn,tn⟩;have SN:=lH sn;have TN:=lH tn;clear sn tn;go_wp2_with fail
 rename_i K hKK
 refine wp_region_any (by kernel_rfl) ?_;refine wpAny_inv (AwI L w1 o1) ?step ?done _ _ _ _ ?start
 case start=>
  have f:Fr No w1 (w1.alloc (.cells (req 1 1 ⟨#[47,102]⟩) 41)).drew:=((Fr.refl w1).alloc _).drew;have s:=(Step.no (C:=fun _=>False) SN.out.fresh f)
  exact ⟨false,false,false,false,false,false,false,false,false,false,false,false,undef,undef,undef,undef,undef,undef,undef,undef,undef,undef,o1,rfl,rfl,rfl,{fr:=f.of_no,old:=fun _ _=>rfl,fs:=s.fresh,rb:=⟨new_at w1 (.cells (req 1 1 ⟨#[47,102]⟩) 41),SN.out.fresh _ (Nat.le_refl _)⟩,m0:=(fun e=>nomatch e),m1:=(fun e=>nomatch e),m2:=(fun e=>nomatch e),m3:=(fun e=>nomatch e),m4:=(fun e=>nomatch e),m5:=(fun e=>nomatch e),m6:=(fun e=>nomatch e),m7:=(fun e=>nomatch e),s0:=fun _=>TN.out.no S0_inv.ok SN.out.fresh f,s1:=(fun e=>nomatch e),g8:=(fun e=>nomatch e),g9:=(fun e=>nomatch e),ne:=(fun e=>nomatch e),o10:=(fun e=>nomatch e),o11:=(fun e=>nomatch e),o6:=(fun e=>nomatch e),o3:=(fun e=>nomatch e),o7:=(fun e=>nomatch e),o73:=(fun e=>nomatch e)}⟩
 case done=>
  rintro n listed a w ⟨b0,b1,b2,b3,b4,b5,b6,b7,b8,b9,b10,b11,v3,v4,v12,v13,v14,v15,v16,v17,v18,v19,o,hn,rfl,rfl,h⟩ hr;clear hn;have hno:=List.eq_nil_iff_forall_not_mem.1 hr;obtain rfl:b0=true:=by
   rcases Bool.eq_false_or_eq_true b0 with e|e
   ·exact e
   ·exfalso;subst e;refine absurd ?_ (hno 0);refine mem_ready.2 ⟨rfl,_,rfl,?_⟩;intro e he hb;exact absurd he (by simp)
  obtain rfl:b1=true:=by
   rcases Bool.eq_false_or_eq_true b1 with e|e
   ·exact e
   ·exfalso;subst e;refine absurd ?_ (hno 1);refine mem_ready.2 ⟨rfl,_,rfl,?_⟩;intro e he hb;exact absurd he (by simp)
  obtain rfl:b2=true:=by
   rcases Bool.eq_false_or_eq_true b2 with e|e
   ·exact e
   ·exfalso;subst e;refine absurd ?_ (hno 2);refine mem_ready.2 ⟨rfl,_,rfl,?_⟩;intro e he hb;simp at he;subst he;all_goals first|rfl|exact absurd hb (by decide)
  obtain rfl:b3=true:=by
   rcases Bool.eq_false_or_eq_true b3 with e|e
   ·exact e
   ·exfalso;subst e;refine absurd ?_ (hno 3);refine mem_ready.2 ⟨rfl,_,rfl,?_⟩;intro e he hb;simp at he;rcases he with rfl|rfl|rfl;all_goals first|rfl|exact absurd hb (by decide)
  obtain rfl:b4=true:=by
   rcases Bool.eq_false_or_eq_true b4 with e|e
   ·exact e
   ·exfalso;subst e;refine absurd ?_ (hno 4);refine mem_ready.2 ⟨rfl,_,rfl,?_⟩;intro e he hb;exact absurd he (by simp)
  obtain rfl:b5=true:=by
   rcases Bool.eq_false_or_eq_true b5 with e|e
   ·exact e
   ·exfalso;subst e;refine absurd ?_ (hno 5);refine mem_ready.2 ⟨rfl,_,rfl,?_⟩;intro e he hb;exact absurd he (by simp)
  obtain rfl:b6=true:=by
   rcases Bool.eq_false_or_eq_true b6 with e|e
   ·exact e
   ·exfalso;subst e;refine absurd ?_ (hno 6);refine mem_ready.2 ⟨rfl,_,rfl,?_⟩;intro e he hb;simp at he;rcases he with rfl|rfl;all_goals first|rfl|exact absurd hb (by decide)
  obtain rfl:b7=true:=by
   rcases Bool.eq_false_or_eq_true b7 with e|e
   ·exact e
   ·exfalso;subst e;refine absurd ?_ (hno 7);refine mem_ready.2 ⟨rfl,_,rfl,?_⟩;intro e he hb;simp at he;rcases he with rfl|rfl|rfl;all_goals first|rfl|exact absurd hb (by decide)
  obtain rfl:b8=true:=by
   rcases Bool.eq_false_or_eq_true b8 with e|e
   ·exact e
   ·exfalso;subst e;refine absurd ?_ (hno 8);refine mem_ready.2 ⟨rfl,_,rfl,?_⟩;intro e he hb;exact absurd he (by simp)
  obtain rfl:b9=true:=by
   rcases Bool.eq_false_or_eq_true b9 with e|e
   ·exact e
   ·exfalso;subst e;refine absurd ?_ (hno 9);refine mem_ready.2 ⟨rfl,_,rfl,?_⟩;intro e he hb;exact absurd he (by simp)
  obtain rfl:b10=true:=by
   rcases Bool.eq_false_or_eq_true b10 with e|e
   ·exact e
   ·exfalso;subst e;refine absurd ?_ (hno 10);refine mem_ready.2 ⟨rfl,_,rfl,?_⟩;intro e he hb;simp at he;rcases he with rfl|rfl|rfl|rfl|rfl|rfl|rfl|rfl|rfl|rfl|rfl|rfl|rfl;all_goals first|rfl|exact absurd hb (by decide)
  obtain rfl:b11=true:=by
   rcases Bool.eq_false_or_eq_true b11 with e|e
   ·exact e
   ·exfalso;subst e;refine absurd ?_ (hno 11);refine mem_ready.2 ⟨rfl,_,rfl,?_⟩;intro e he hb;simp at he;rcases he with rfl|rfl|rfl|rfl|rfl|rfl|rfl|rfl|rfl|rfl|rfl|rfl|rfl|rfl;all_goals first|rfl|exact absurd hb (by decide)
  obtain ⟨n1,hn1,t1⟩:=h.s1 rfl;obtain ⟨ev,mv,e15,ho1,ho2⟩:=h.m3 rfl;obtain ⟨rr,ev',mv',e19,hino,ho3,ho4⟩:=h.m7 rfl;obtain ⟨g,cs,rfl,hg1,hg2,_,hg3⟩:=h.g8 rfl;obtain ⟨g',cs',rfl,hg1',hg2',_,hg3'⟩:=h.g9 rfl;have e1:=(hg3 rfl).symm.trans e15;have e2:=(hg3' rfl).symm.trans e19;cases e1;cases e2;clear hr hno hg3 hg3' e15 e19;show K _ _;refine hKK _ _ ?_;clear hKK;have fs:Fr (fun k=>k=w1.heap.size) w (w.setCell ⟨w1.heap.size,2,none⟩ (.int .i64 2)):=Fr.setCell (S:=fun k=>k=w1.heap.size) (p:=⟨w1.heap.size,2,none⟩) (Fr.refl _) (.inl rfl) _;have ss:Step (fun c=>c=0) w o (w.setCell ⟨w1.heap.size,2,none⟩ (.int .i64 2)) o:=⟨fs.mono (fun k _ e=>by rw [e];exact h.rb.2),fun _ _=>rfl,fun k hk=>h.fs k (Nat.le_trans fs.size hk)⟩
  have TS:=lH (t1.step S1_inv.ok ss (fun c h e=>by unfold stateC at h;omega));have c2:w.cell? ⟨w1.heap.size,2,none⟩=some (.int .i64 1):=by rw [cell_at h.rb.1];rfl
  have z2:=frozen_at h.rb.1 2;have RS:Hid ((w.setCell ⟨w1.heap.size,2,none⟩ (.int .i64 2)).heap[w1.heap.size]? =some (.cells (req 2 1 ⟨#[47,102]⟩) 41 (0,0))):=lH (by simpa [req] using setCell_at h.rb.1 2 (.int .i64 2));have F2:=lH (h.fr.trans fs (fun j hj e=>by omega));have ZA:Hid (Zero (w.setCell ⟨w1.heap.size,2,none⟩ (.int .i64 2)) o g (.cells (X1.1.cells ev mv) 29 (0,0))):=lH ⟨fs.block_of hg2.1 (by omega),hg2.2⟩;have ZB:Hid (Zero (w.setCell ⟨w1.heap.size,2,none⟩ (.int .i64 2)) o g' (.cells (rr.cells ev' mv') 29 (0,0))):=lH ⟨fs.block_of hg2'.1 (by omega),hg2'.2⟩;have FSS:=lH ss.fresh;have OLD:=lH h.old;have HSZ:=lH (show w1.heap.size≤(w.setCell ⟨w1.heap.size,2,none⟩ (.int .i64 2)).heap.size from F2.out.size);clear h hg2 hg2' t1 ss fs;go_wp2_with (refine wpList_load_row rfl 41 (.tmp 2) rfl w1.heap.size rfl 41 _ (0,0) _ RS.out Tryz.underlying41 rfl Tryz.size41 ?_);refine (request_ 2 1 _ _).mono ?_;rintro e w3 ⟨rfl,f3⟩;have T3:=TS.out.no S1_inv.ok FSS.out f3;have FS3:Fresh w3 o:=(Step.no (C:=fun _=>False) FSS.out f3).fresh;have HT:=lH (made2 o n1 2 2 L S1 w3 T3 S1_inv FS3 (by omega) (by simp [Bool.toNat] at hn1;omega));have ZA3:=lH (ZA.out.no f3);have ZB3:=lH (ZB.out.no f3);have F3:=lH (F2.out.trans f3 (fun _ _ e=>e.elim));have OLD3:Hid (∀k,k<w1.heap.size→o k=o1 k):=OLD;clear c2 z2 f3 T3 FS3 TS FSS RS HSZ;generalize w.setCell ⟨w1.heap.size,2,none⟩ (.int .i64 2)=ws at*;unfold Made3 at HT;unfold RepS.cells at HT ZA3 ZB3;go_wp2_with fail;with_reducible refine HT.out.mono ?_
  rintro e w4 ⟨x,o4,ev4,mv4,rfl,q1,q2,hd,s4,t4⟩;have he7:=lH (did3 hd);obtain ⟨x1,x2⟩:=x;dsimp only at he7;have f5:Fr No w4 ((w4.alloc (.cells (rep 0 0) 29)).setRow w4.heap.size (x1.cells ev4 mv4)):=Fr.setRow ((Fr.refl w4).alloc _) (.inr (Nat.le_refl _)) _;have k5:=setRow_at (cs':=x1.cells ev4 mv4) (new_at w4 (.cells (rep 0 0) 29));have HOC:=lH (RepS.cells_one (r:=x1) q1 q2);have ca:((w4.alloc (.cells (rep 0 0) 29)).setRow w4.heap.size (x1.cells ev4 mv4)).cell? ⟨g,1,none⟩=some (.int .i64 2):=by
   rw [cell_at (f5.block_of ((ZA3.out.step s4 (by unfold stateC;omega)).1) id)];show some (Value.int .i64 X1.1.ino)=_;rw [X1_rep]
  have cb:((w4.alloc (.cells (rep 0 0) 29)).setRow w4.heap.size (x1.cells ev4 mv4)).cell? ⟨g',1,none⟩=some (.int .i64 2):=by
   rw [cell_at (f5.block_of ((ZB3.out.step s4 (by unfold stateC;omega)).1) id)];show some (Value.int .i64 rr.ino)=_;rw [hino]
  have cc:((w4.alloc (.cells (rep 0 0) 29)).setRow w4.heap.size (x1.cells ev4 mv4)).cell? ⟨w4.heap.size,0,none⟩=some (.int .i64 7):=by
   rw [cell_at k5];show some (Value.int .i64 x1.e)=_;rw [he7.out]
  have FZ:Hid (Fr No w0 ((w4.alloc (.cells (rep 0 0) 29)).setRow w4.heap.size (x1.cells ev4 mv4))):=lH (by
   have fa:Fr (fun k=>stateC 0 (o1 k)) w1 w4:=F3.out.trans s4.fr (fun j hj e=>by rw [OLD3.out j hj] at e;exact e);have fb:=fa.trans f5 (fun _ _ e=>e.elim);have hz:∀k,k<w0.heap.size→o1 k=0:=fun k hk=>SN.out.old k hk;exact (SN.out.fr.mono (fun _ _ e=>e):Fr No w0 w1).trans fb (fun k hk e=>by rw [hz k hk] at e;unfold stateC at e;omega))
  have KN:=lH (new_at w4 (.cells (rep 0 0) 29));clear s4 t4 f5 k5 HT hd;unfold rep RepS.cells at*;go_wp2_with (refine wpList_store_row rfl 29 (.tmp 5) (.tmp 25) rfl w4.heap.size #[.int .i64 x1.e,.int .i64 x1.ino,.int .i64 x1.size,.int .i64 x1.handle,.int .i64 x1.swaps,.bool x1.dir,ev4,mv4] rfl rfl 29 _ KN.out Tryz.size29 rfl HOC.out ?_)
  go_ret
  exact ⟨rfl,FZ.out⟩
 case step=>
  clear hKK;rintro n listed a w ⟨b0,b1,b2,b3,b4,b5,b6,b7,b8,b9,b10,b11,v3,v4,v12,v13,v14,v15,v16,v17,v18,v19,o,hn,rfl,rfl,h⟩ i hi;have hr:=mem_ready.1 hi;clear hi;obtain ⟨h0,o,ho,hd⟩:=hr
  match i,h0,ho,hd with

  | 0,h0,ho,hd=>
   obtain rfl:b0=false:=h0;obtain rfl:=Option.some.inj ho;refine ⟨n - 1,by subst hn;simp [Bool.toNat]<;>omega,?_⟩;clear h0 ho hd;refine wpOp_step rfl (fun K hK=> ?_);rw [if_pos (show Region.wanted _ _=true from rfl)];go_simp;exact hK _ _ ⟨true,b1,b2,b3,b4,b5,b6,b7,b8,b9,b10,b11,v3,v4,.pointer (some ⟨L.s,0,none⟩),v13,v14,v15,v16,v17,v18,v19,o,by subst hn;simp [Bool.toNat]<;>omega,rfl,rfl,{h with m0:=fun _=>rfl}⟩
  | 1,h0,ho,hd=>
   obtain rfl:b1=false:=h0;obtain rfl:=Option.some.inj ho;refine ⟨n - 1,by subst hn;simp [Bool.toNat]<;>omega,?_⟩;clear h0 ho hd;refine wpOp_step rfl (fun K hK=> ?_);rw [if_pos (show Region.wanted _ _=true from rfl)];refine wp_load_row 41 (.tmp 2) rfl w1.heap.size rfl 41 _ (0,0) _ h.rb.1 Tryz.underlying41 rfl Tryz.size41 ?_;exact hK _ _ ⟨b0,true,b2,b3,b4,b5,b6,b7,b8,b9,b10,b11,v3,v4,v12,.agg (req 1 1 ⟨#[47,102]⟩),v14,v15,v16,v17,v18,v19,o,by subst hn;simp [Bool.toNat]<;>omega,rfl,rfl,{h with m1:=fun _=>rfl}⟩
  | 2,h0,ho,hd=>
   obtain rfl:b2=false:=h0;obtain rfl:=Option.some.inj ho;have d1:b1=true:=hd ⟨1,Ground.data⟩ (by simp) rfl;refine ⟨n - 1,by subst hn;simp [Bool.toNat]<;>omega,?_⟩;clear h0 ho hd;refine wpOp_step rfl (fun K hK=> ?_);rw [if_pos (show Region.wanted _ _=true from rfl)];obtain rfl:=h.m1 d1;go_simp;refine (request_ 1 1 _ w).mono ?_;rintro e w' ⟨rfl,f⟩;have h':=h.no f;exact hK _ _ ⟨_,_,true,_,_,_,_,_,_,_,_,_,_,_,_,_,.agg (req 1 1 ⟨#[47,102]⟩),_,_,_,_,_,o,by subst hn;simp [Bool.toNat]<;>omega,rfl,rfl,{h' with m2:=fun _=>rfl}⟩
  | 3,h0,ho,hd=>
   obtain rfl:b3=false:=h0;obtain rfl:=Option.some.inj ho;have d0:b0=true:=hd ⟨0,Ground.data⟩ (by simp) rfl;have d2:b2=true:=hd ⟨2,Ground.data⟩ (by simp) rfl;refine ⟨n - 1,by subst hn;simp [Bool.toNat]<;>omega,?_⟩;clear h0 ho hd;refine wpOp_step rfl (fun K hK=> ?_);rw [if_pos (show Region.wanted _ _=true from rfl)];obtain rfl:=h.m0 d0;obtain rfl:=h.m2 d2;go_simp;refine (made2 o 0 0 1 L S0 w (h.s0 rfl) S0_inv h.fs (by omega) (by omega)).mono ?_;rintro e w' ⟨x,o',ev,mv,rfl,q1,q2,hd,s,t⟩;obtain rfl:=did1 hd;have hz:∀b x,Zero w o b x→Zero w' o' b x:=fun b x z=>z.step s (by unfold stateC;omega);exact hK _ _ ⟨_,_,_,true,_,_,_,_,_,_,_,_,_,_,_,_,_,.agg (X1.1.cells ev mv),_,_,_,_,o',by subst hn;simp [Bool.toNat]<;>omega,rfl,rfl,{h with fr:=h.fr.trans s.fr (fun j hj e=>by rw [h.old j hj] at e;exact e),old:=fun k hk=>(s.old k (Nat.lt_of_lt_of_le hk h.fr.size)).trans (h.old k hk),fs:=s.fresh,rb:=hz _ _ h.rb,m3:=fun _=>⟨ev,mv,rfl,q1,q2⟩,o3:=fun _=>rfl,s0:=fun e=>(by cases e),s1:=fun _=>⟨100,by omega,t⟩,g8:=fun e=>by (obtain ⟨g,cs,e1,e2,e3,e5,e6⟩:=h.g8 e;exact ⟨g,cs,e1,e2,hz _ _ e3,e5,fun e=>nomatch h.o3 e⟩),g9:=fun e=>by (obtain ⟨g,cs,e1,e2,e3,e5,e6⟩:=h.g9 e;exact ⟨g,cs,e1,e2,hz _ _ e3,e5,e6⟩),o6:=fun _=>rfl,o73:=fun _=>rfl}⟩
  | 4,h0,ho,hd=>
   obtain rfl:b4=false:=h0;obtain rfl:=Option.some.inj ho;refine ⟨n - 1,by subst hn;simp [Bool.toNat]<;>omega,?_⟩;clear h0 ho hd;refine wpOp_step rfl (fun K hK=> ?_);rw [if_pos (show Region.wanted _ _=true from rfl)];go_simp;exact hK _ _ ⟨b0,b1,b2,b3,true,b5,b6,b7,b8,b9,b10,b11,v3,v4,v12,v13,v14,v15,.pointer (some ⟨L.s,0,none⟩),v17,v18,v19,o,by subst hn;simp [Bool.toNat]<;>omega,rfl,rfl,{h with m4:=fun _=>rfl}⟩
  | 5,h0,ho,hd=>
   obtain rfl:b5=false:=h0;obtain rfl:=Option.some.inj ho;refine ⟨n - 1,by subst hn;simp [Bool.toNat]<;>omega,?_⟩;clear h0 ho hd;refine wpOp_step rfl (fun K hK=> ?_);rw [if_pos (show Region.wanted _ _=true from rfl)];refine wp_load_row 41 (.tmp 2) rfl w1.heap.size rfl 41 _ (0,0) _ h.rb.1 Tryz.underlying41 rfl Tryz.size41 ?_;exact hK _ _ ⟨b0,b1,b2,b3,b4,true,b6,b7,b8,b9,b10,b11,v3,v4,v12,v13,v14,v15,v16,.agg (req 1 1 ⟨#[47,102]⟩),v18,v19,o,by subst hn;simp [Bool.toNat]<;>omega,rfl,rfl,{h with m5:=fun _=>rfl}⟩
  | 6,h0,ho,hd=>
   obtain rfl:b6=false:=h0;obtain rfl:=Option.some.inj ho;have d5:b5=true:=hd ⟨5,Ground.data⟩ (by simp) rfl;have d3:b3=true:=hd ⟨3,Ground.chain⟩ (by simp) rfl;refine ⟨n - 1,by subst hn;simp [Bool.toNat]<;>omega,?_⟩;clear h0 ho hd;refine wpOp_step rfl (fun K hK=> ?_);rw [if_pos (show Region.wanted _ _=true from rfl)];obtain rfl:=h.m5 d5;go_simp;refine (request_ 1 1 _ w).mono ?_;rintro e w' ⟨rfl,f⟩;have h':=h.no f;exact hK _ _ ⟨_,_,_,_,_,_,true,_,_,_,_,_,_,_,_,_,_,_,_,_,.agg (req 1 1 ⟨#[47,102]⟩),_,o,by subst hn;simp [Bool.toNat]<;>omega,rfl,rfl,{h' with m6:=fun _=>rfl,o6:=fun _=>d3}⟩
  | 7,h0,ho,hd=>
   obtain rfl:b7=false:=h0;obtain rfl:=Option.some.inj ho;have d4:b4=true:=hd ⟨4,Ground.data⟩ (by simp) rfl;have d6:b6=true:=hd ⟨6,Ground.data⟩ (by simp) rfl;refine ⟨n - 1,by subst hn;simp [Bool.toNat]<;>omega,?_⟩;clear h0 ho hd;refine wpOp_step rfl (fun K hK=> ?_);rw [if_pos (show Region.wanted _ _=true from rfl)];obtain rfl:b3=true:=h.o6 d6;obtain rfl:=h.m4 d4;obtain rfl:=h.m6 d6;obtain ⟨n1,hn1,t1⟩:=h.s1 rfl;go_simp;refine (made2 o n1 2 1 L S1 w t1 S1_inv h.fs (by omega) (by simp [Bool.toNat] at hn1;omega)).mono ?_;rintro e w' ⟨x,o',ev,mv,rfl,q1,q2,hd,s,t⟩;obtain ⟨hS,hino⟩:=did2 hd;rw [hS] at t;have hz:∀b x,Zero w o b x→Zero w' o' b x:=fun b x z=>z.step s (by unfold stateC;omega);exact hK _ _ ⟨_,_,_,_,_,_,_,true,_,_,_,_,_,_,_,_,_,_,_,_,_,.agg (x.1.cells ev mv),o',by subst hn;simp [Bool.toNat]<;>omega,rfl,rfl,{h with fr:=h.fr.trans s.fr (fun j hj e=>by rw [h.old j hj] at e;exact e),old:=fun k hk=>(s.old k (Nat.lt_of_lt_of_le hk h.fr.size)).trans (h.old k hk),fs:=s.fresh,rb:=hz _ _ h.rb,s0:=fun e=>(by cases e),s1:=fun _=>⟨n1+100,by simp [Bool.toNat] at hn1 ⊢;omega,t⟩,o7:=fun _=>rfl,m7:=fun _=>⟨x.1,ev,mv,rfl,hino,q1,q2⟩,g8:=fun e=>by (obtain ⟨g,cs,e1,e2,e3,e5,e6⟩:=h.g8 e;exact ⟨g,cs,e1,e2,hz _ _ e3,e5,e6⟩),g9:=fun e=>by (obtain ⟨g,cs,e1,e2,e3,e5,e6⟩:=h.g9 e;exact ⟨g,cs,e1,e2,hz _ _ e3,e5,fun e=>nomatch h.o7 e⟩),o73:=fun _=>rfl}⟩
  | 8,h0,ho,hd=>
   obtain rfl:b8=false:=h0;obtain rfl:=Option.some.inj ho;refine ⟨n - 1,by subst hn;simp [Bool.toNat]<;>omega,?_⟩;clear h0 ho hd;refine wpOp_step rfl (fun K hK=> ?_);rw [if_pos (show Region.wanted _ _=true from rfl)];go_simp;have f:Fr No w (w.alloc (.cells (rep 0 0) 29)):=(Fr.refl w).alloc _;have h':=h.no f;exact hK _ _ ⟨_,_,_,_,_,_,_,_,true,_,_,_,.pointer (some ⟨w.heap.size,0,none⟩),_,_,_,_,_,_,_,_,_,o,by subst hn;simp [Bool.toNat]<;>omega,rfl,rfl,{h' with g8:=fun _=>⟨w.heap.size,rep 0 0,rfl,lt_of_block h.rb.1,⟨new_at w _,h.fs _ (Nat.le_refl _)⟩,rfl,fun e=>nomatch h.o10 e⟩,ne:=fun _ e=>by (obtain ⟨g,cs,e1,e2,e3,_⟩:=h.g9 e;have:=lt_of_block e3.1;intro e';rw [e1] at e';simp at e'<;>omega),o10:=fun _=>rfl}⟩
  | 9,h0,ho,hd=>
   obtain rfl:b9=false:=h0;obtain rfl:=Option.some.inj ho;refine ⟨n - 1,by subst hn;simp [Bool.toNat]<;>omega,?_⟩;clear h0 ho hd;refine wpOp_step rfl (fun K hK=> ?_);rw [if_pos (show Region.wanted _ _=true from rfl)];go_simp;have f:Fr No w (w.alloc (.cells (rep 0 0) 29)):=(Fr.refl w).alloc _;have h':=h.no f;exact hK _ _ ⟨_,_,_,_,_,_,_,_,_,true,_,_,_,.pointer (some ⟨w.heap.size,0,none⟩),_,_,_,_,_,_,_,_,o,by subst hn;simp [Bool.toNat]<;>omega,rfl,rfl,{h' with g9:=fun _=>⟨w.heap.size,rep 0 0,rfl,lt_of_block h.rb.1,⟨new_at w _,h.fs _ (Nat.le_refl _)⟩,rfl,fun e=>nomatch h.o11 e⟩,ne:=fun e _=>by (obtain ⟨g,cs,e1,e2,e3,_⟩:=h.g8 e;have:=lt_of_block e3.1;intro e';rw [e1] at e';simp at e'<;>omega),o11:=fun _=>rfl}⟩
  | 10,h0,ho,hd=>
   obtain rfl:b10=false:=h0;obtain rfl:=Option.some.inj ho;have d8:b8=true:=hd ⟨8,Ground.data⟩ (by simp) rfl;have d3:b3=true:=hd ⟨3,Ground.data⟩ (by simp) rfl;have d9:b9=true:=hd ⟨9,Ground.phase⟩ (by simp) rfl;have d7:b7=true:=hd ⟨7,Ground.chain⟩ (by simp) rfl;refine ⟨n - 1,by subst hn;simp [Bool.toNat]<;>omega,?_⟩;clear h0 ho hd;refine wpOp_step rfl (fun K hK=> ?_);rw [if_pos (show Region.wanted _ _=true from rfl)];obtain rfl:=d3;obtain ⟨ev,mv,rfl,ho1,ho2⟩:=h.m3 rfl;obtain ⟨g,cs,rfl,hlt,hg,hz8,_⟩:=h.g8 d8;have f:Fr (fun k=>k=g) w (w.setRow g (X1.1.cells ev mv)):=Fr.setRow (S:=fun k=>k=g) (Fr.refl w) (.inl rfl) _;have s:Step (fun c=>c=0) w o (w.setRow g (X1.1.cells ev mv)) o:=⟨f.mono (fun k _ e=>by rw [e];exact hg.2),fun _ _=>rfl,fun k hk=>h.fs k (Nat.le_trans f.size hk)⟩
   have hzo:∀b x,b≠g→Zero w o b x→Zero (w.setRow g (X1.1.cells ev mv)) o b x:=fun b x hb z=>⟨f.block_of z.1 hb,z.2⟩;have q1:=h.fr.trans f (fun j hj e=>by omega);have q2:=hzo _ _ (by omega) h.rb;obtain ⟨n1,hn1,t1⟩:=h.s1 rfl;have t2:=t1.step S1_inv.ok s (fun c h e=>by unfold stateC at h;omega);refine wp_store_row 29 (.tmp 3) (.tmp 15) rfl g (X1.1.cells ev mv) rfl rfl 29 cs hg.1 Tryz.size29 (by simp [RepS.cells,hz8]) (RepS.cells_one ho1 ho2) ?_;exact hK _ _ ⟨_,_,_,_,_,_,_,_,_,_,true,_,_,_,_,_,_,_,_,_,_,_,o,by subst hn;simp [Bool.toNat]<;>omega,rfl,rfl,{h with fr:=q1,fs:=s.fresh,rb:=q2,s0:=fun e=>(by cases e),s1:=fun _=>⟨n1,hn1,t2⟩,g8:=fun _=>⟨g,X1.1.cells ev mv,rfl,hlt,⟨setRow_at hg.1,hg.2⟩,rfl,fun _=>rfl⟩,g9:=fun e=>by (obtain ⟨g',cs',rfl,e2,e3,e4⟩:=h.g9 e;have:=h.ne d8 e;exact ⟨g',cs',rfl,e2,hzo _ _ (by intro e';rw [e'] at this;exact this rfl) e3,e4⟩),o10:=fun _=>d8,o3:=fun _=>rfl}⟩
  | 11,h0,ho,hd=>
   obtain rfl:b11=false:=h0;obtain rfl:=Option.some.inj ho;have d9:b9=true:=hd ⟨9,Ground.data⟩ (by simp) rfl;have d7:b7=true:=hd ⟨7,Ground.data⟩ (by simp) rfl;have d10:b10=true:=hd ⟨10,Ground.chain⟩ (by simp) rfl;have d3:b3=true:=hd ⟨3,Ground.phase⟩ (by simp) rfl;refine ⟨n - 1,by subst hn;simp [Bool.toNat]<;>omega,?_⟩;clear h0 ho hd;refine wpOp_step rfl (fun K hK=> ?_);rw [if_pos (show Region.wanted _ _=true from rfl)];obtain rfl:=d3;obtain ⟨rr,ev,mv,rfl,hino,ho1,ho2⟩:=h.m7 d7;obtain ⟨g,cs,rfl,hlt,hg,hz8,_⟩:=h.g9 d9;have f:Fr (fun k=>k=g) w (w.setRow g (rr.cells ev mv)):=Fr.setRow (S:=fun k=>k=g) (Fr.refl w) (.inl rfl) _;have s:Step (fun c=>c=0) w o (w.setRow g (rr.cells ev mv)) o:=⟨f.mono (fun k _ e=>by rw [e];exact hg.2),fun _ _=>rfl,fun k hk=>h.fs k (Nat.le_trans f.size hk)⟩
   have hzo:∀b x,b≠g→Zero w o b x→Zero (w.setRow g (rr.cells ev mv)) o b x:=fun b x hb z=>⟨f.block_of z.1 hb,z.2⟩;have q1:=h.fr.trans f (fun j hj e=>by omega);have q2:=hzo _ _ (by omega) h.rb;obtain ⟨n1,hn1,t1⟩:=h.s1 rfl;have t2:=t1.step S1_inv.ok s (fun c h e=>by unfold stateC at h;omega);refine wp_store_row 29 (.tmp 4) (.tmp 19) rfl g (rr.cells ev mv) rfl rfl 29 cs hg.1 Tryz.size29 (by simp [RepS.cells,hz8]) (RepS.cells_one ho1 ho2) ?_;exact hK _ _ ⟨_,_,_,_,_,_,_,_,_,_,_,true,_,_,_,_,_,_,_,_,_,_,o,by subst hn;simp [Bool.toNat]<;>omega,rfl,rfl,{h with fr:=q1,fs:=s.fresh,rb:=q2,s0:=fun e=>(by cases e),s1:=fun _=>⟨n1,hn1,t2⟩,g9:=fun _=>⟨g,rr.cells ev mv,rfl,hlt,⟨setRow_at hg.1,hg.2⟩,rfl,fun _=>rfl⟩,g8:=fun e=>by (obtain ⟨g',cs',rfl,e2,e3,e4⟩:=h.g8 e;have:=h.ne e d9;exact ⟨g',cs',rfl,e2,hzo _ _ (by intro e';rw [e'] at this;exact this rfl) e3,e4⟩),o11:=fun _=>d9,o7:=fun _=>d7}⟩
  | k+12,h0,ho,hd=>exact absurd ho (by simp)
def posC (c:Nat):Prop:=0<c
def WentK (K:Nat) (w:World) (o:Nat→Nat) (L:Plc) (S:St) (n q:Nat) (r:Req) (st:List Sz) (dl:List Dl) (e:Ending) (w':World):Prop:=
 ∃(x:RepS×St) (o':Nat→Nat) (ev mv:Value),e=.returned (.agg (x.1.cells ev mv))∧ev.oneCell'=true∧mv.oneCell'=true∧Did S r st dl x∧StInv x.2 (q+2)∧Step (stateC K) w o w' o'∧StateAt w' o' K L x.2 (n+100)
theorem wentK (o:Nat→Nat) (K n q:Nat) (L:Plc) (S:St) (r:Req) (rv dv:Value) (st:List Sz) (dl:List Dl) (w:World) (h:StateAt w o K L S n) (inv:StInv S q) (hf:Fresh w o) (hr:RowsAt szC 4 w o rv st) (hd:RowsAt dlC 14 w o dv dl) (hs:smallR r st.length dl.length) (hg:∀s∈st,stpGood s.1) (hq:q≤90000) (hn:n≤400000):
  Calls Tryz.prog 15 #[.pointer (some ⟨L.s,0,none⟩),.agg (r.cells rv dv)] w (WentK K w o L S n q r st dl):=
 (gapply_ o K n q L S r rv dv st dl w h inv hf hr hd ⟨hs.1,hs.2.1,hs.2.2.1,hs.2.2.2,hg⟩ hq hn).mono (fun e w' p=>by
   obtain ⟨x,h1,h2,⟨o',s,t⟩,ev,mv,he,q1,q2,_⟩:=p;exact ⟨x,o',ev,mv,he,q1,q2,h1,h2,s,t⟩)
def GoodRqs (L:List Rq):Prop:=∀y∈L,∀s∈y.2.1,stpGood s.1
theorem fresh0 (w:World):Fresh w (fun _=>0):=fun _ _=>rfl
def Lies (w:World) (o:Nat→Nat) (L:Plc) (j:Nat) (p:St→Prop) (w':World):Prop:=
 ∃o' S,Step (stateC 0) w o w' o'∧StateAt w' o' 0 L S (100*j)∧StInv S (2*j)∧p S
theorem Lies.fr {w w' w0:World} {o:Nat→Nat} {L:Plc} {j:Nat} {p:St→Prop} (h:Lies w o L j p w') (f:Fr No w0 w) (h0:∀k,k<w0.heap.size→o k=0):Fr No w0 w':=by
 obtain ⟨_,_,s,_⟩:=h;exact f.trans s.fr (fun k hk e=>by
  rw [h0 k hk] at e;unfold stateC at e;omega)
def InvF (S:St):Prop:=InvWin S∧InvLive S∧InvBeh S
theorem S0_F:InvF S0:=⟨fun i y h=>(by cases h),S0_live,fun x h=>(by cases h)⟩
theorem InvF.did {S:St} {q:Nat} {r:Req} {st:List Sz} {dl:List Dl} {x:RepS×St} (h:InvF S) (inv:StInv S q) (inv':StInv x.2 (q+2)) (hd:Did S r st dl x):InvF x.2:=
 ⟨h.1.turn (turns_all hd),live_did inv inv' h.2.1 hd,(behind_turn (turns_all hd)).2 h.2.2⟩
def Stamp (S:St) (c:Nat) (l0:Int) (seq:Nat):Prop:=(seq=0∧lifeS S (c:Int)=l0)∨(0<seq∧∃bs,S.W c=some (l0+1,(seq:Int),bs))
theorem Stamp.zero {S:St} {c:Nat} {l0:Int} (h:lifeS S (c:Int)=l0):Stamp S c l0 0:=.inl ⟨rfl,h⟩
theorem Stamp.life {S:St} {c:Nat} {l0:Int} {seq:Nat} (hc:c<4) (h:Stamp S c l0 seq):lifeS S (c:Int)=if seq=0 then l0 else l0+1:=by
 rcases h with ⟨rfl,h⟩|⟨h0,bs,h⟩
 ·rw [if_pos rfl];exact h
 ·rw [if_neg (by omega)];exact lifeS_some hc h
theorem Stamp.ask {S:St} {c:Nat} {l0:Int} {seq:Nat} (hc:c<4) (iw:InvWin S) (h0:l0<1048576) (hs:seq<1000000) (h:Stamp S c l0 seq):∃kd:Int,(kd=0∨kd=3)∧askOf S.W (c:Int) (l0+1) ((seq:Int)+1)=(kd,none):=by
 rcases h with ⟨rfl,h⟩|⟨hp,bs,h⟩
 ·refine ⟨3,.inr rfl,?_⟩;have hls:lifeS S (c:Int)=match S.W c with|none=> -1|some (life,_,_)=>life:=by
   unfold lifeS lifeOf;rw [if_neg (by omega),if_pos (by omega),Int.toNat_natCast];cases S.W c<;>rfl
  rw [hls] at h;unfold askOf;rw [Int.toNat_natCast];cases hW:S.W c with
  | none=>
   rw [hW] at h;dsimp only at h;rw [if_pos (by omega)]
  | some y=>
   have:=iw c y hW;obtain ⟨life,sq,bs⟩:=y;rw [hW] at h;dsimp only at h this ⊢;rw [if_pos (by omega)];have hkd:kindOf (l0+1) (((0:Nat):Int)+1) life sq=3:=by
    unfold kindOf;rw [if_neg (by omega),if_pos (by omega)]
   rw [hkd];rfl
 ·exact ⟨0,.inl rfl,ask_next iw h (by dsimp only;omega)⟩
structure FrB (w8:World) (oj:Nat→Nat) (L:Plc) (c:Nat) (l0:Int) (B0:Stp→Prop) (q0:Nat) (T0:Tree) (wr:World) (o:Nat→Nat) (S:St) (seq:Nat) (qv:Value) (Q:List (List UInt8)):Prop where
 step:Step posC w8 oj wr o
 st:StateAt wr o 0 L S (100*(q0+seq))
 inv:StInv S (2*(q0+seq))
 f:InvF S
 beh:∀x,B0 x→behindS S x
 stamp:Stamp S c l0 seq
 row:QRow wr o 30000 qv Q
 pr:Pruned T0 S.T
section
variable {w8:World} {oj:Nat→Nat} {L:Plc} {c:Nat} {l0:Int} {B0:Stp→Prop} {q0:Nat} {T0:Tree} {wr w':World} {o o':Nat→Nat} {S:St} {seq:Nat} {qv:Value} {Q:List (List UInt8)}
theorem FrB.no (h:FrB w8 oj L c l0 B0 q0 T0 wr o S seq qv Q) (f:Fr No wr w'):FrB w8 oj L c l0 B0 q0 T0 w' o S seq qv Q where
 step:=h.step.trans (Step.no (C:=fun _=>False) h.step.fresh f) (fun _ e=>e.elim)
 st:=h.st.no h.inv.ok h.step.fresh f
 inv:=h.inv
 f:=h.f
 beh:=h.beh
 stamp:=h.stamp
 row:=h.row.no h.step.fresh f
 pr:=h.pr
theorem FrB.queue {v':Value} {Q':List (List UInt8)} (h:FrB w8 oj L c l0 B0 q0 T0 wr o S seq qv Q) (s:Step (fun k=>k=30000) wr o w' o') (r:QRow w' o' 30000 v' Q'):FrB w8 oj L c l0 B0 q0 T0 w' o' S seq v' Q' where
 step:=h.step.trans s (fun _ e=>by unfold posC;omega)
 st:=h.st.step h.inv.ok s (fun k hk e=>by unfold stateC at hk;omega)
 inv:=h.inv
 f:=h.f
 beh:=h.beh
 stamp:=h.stamp
 row:=r
 pr:=h.pr
theorem FrB.tail {v':Value} {Q':List (List UInt8)} (h:FrB w8 oj L c l0 B0 q0 T0 wr o S seq qv Q) (r:QRow wr o 30000 v' Q'):FrB w8 oj L c l0 B0 q0 T0 wr o S seq v' Q':=
 h.queue (Step.refl h.step.fresh) r
theorem FrB.did {r:Req} {x:RepS×St} {bs:List UInt8} (h:FrB w8 oj L c l0 B0 q0 T0 wr o S seq qv Q) (hd:Did S r [] [] x) (s:Step (stateC 0) wr o w' o') (t:StateAt w' o' 0 L x.2 (100*(q0+seq)+100)) (i:StInv x.2 (2*(q0+seq)+2)) (hp:Pruned T0 x.2.T) (hW:x.2.W c=some (l0+1,(seq:Int)+1,bs)):FrB w8 oj L c l0 B0 q0 T0 w' o' x.2 (seq+1) qv Q where
 step:=h.step.trans s (fun k e=>by unfold stateC at e;unfold posC;omega)
 st:=by rwa [show 100*(q0+seq)+100=100*(q0+(seq+1)) by omega] at t
 inv:=by rwa [show 2*(q0+seq)+2=2*(q0+(seq+1)) by omega] at i
 f:=h.f.did h.inv i hd
 beh y hy:=(behind_turn (turns_all hd)).1 y (h.beh y hy)
 stamp:=.inr ⟨by omega,bs,by rw [hW];simp⟩
 row:=h.row.step s (by unfold stateC;omega)
 pr:=hp
end
theorem ba_app (a b:List UInt8):ba a++ba b=ba (a++b):=by
 rw [← ba_of (ba a++ba b)];congr 1
theorem take_subs {l:List UInt8} {E:List Ent} {i:Nat} (hi:i<E.length) (hd:E[i].2.2=true):subsOf l (E.take (i+1))=subsOf l (E.take i)++ [subP l E[i].1.data.toList]:=by
 unfold subsOf;rw [List.take_succ_eq_append_getElem hi,List.filter_append,List.map_append,List.filter_cons_of_pos (by simpa using hd)];rfl
theorem take_skip {l:List UInt8} {E:List Ent} {i:Nat} (hi:i<E.length) (hd:E[i].2.2=false):subsOf l (E.take (i+1))=subsOf l (E.take i):=by
 unfold subsOf;rw [List.take_succ_eq_append_getElem hi,List.filter_append,List.map_append,List.filter_cons_of_neg (by simpa using hd)];simp
theorem ents_at {w:World} {B:Nat} {a:Option Addr} {n cp:Nat} {E:List Ent} (h:EsB w B (.slice a n cp) E) {i:Nat} (hi:i<E.length):n=E.length∧n≤cp∧∃b off cs fz,a=some ⟨b,off,none⟩∧w.heap[b]? =some (.cells cs 86 fz)∧w.rangeAt b (off+i*3) [.string E[i].1,.int .i64 E[i].2.1,.bool E[i].2.2]:=by
 rcases h with ⟨_,e⟩|⟨b,off,c,e,h1,_,_,⟨cs,fz,h3⟩,h4⟩
 ·subst e;simp at hi
 ·cases e;exact ⟨rfl,h1,b,off,cs,fz,rfl,h3,h4 i _ (List.getElem?_eq_getElem hi)⟩
theorem ents_shape {w:World} {B:Nat} {v:Value} {E:List Ent} (h:EsB w B v E):∃a cp,v=.slice a E.length cp:=by
 rcases h with ⟨rfl,rfl⟩|⟨b,off,c,rfl,_⟩
 ·exact ⟨none,0,rfl⟩
 ·exact ⟨_,_,rfl⟩
theorem EsB.kept {w w':World} {o o':Nat→Nat} {D:Nat→Prop} {B n:Nat} {v:Value} {E:List Ent} (h:EsB w B v E) (hl:Low n v) (ho:∀k,n≤k→o k=0) (s:Step D w o w' o') (hD:¬D 0):EsB w' B v E:=by
 rcases h with h|⟨b,off,c,e,h1,hb,h2,⟨cs,fz,h3⟩,h4⟩
 ·exact .inl h
 ·subst e;have hn:¬D (o b):=by
   rw [ho b (hl _ _ _ rfl)];exact hD
  exact .inr ⟨b,off,c,rfl,h1,hb,Nat.lt_of_lt_of_le h2 s.fr.size,⟨cs,fz,s.block h3 hn⟩,fun j x hj i u hi=>s.fr.cell_of (h4 j x hj i u hi) hn⟩
theorem live_some {F:Nat→Option FMap} {x:Stp} (h:liveF F x≠0):∃i m p,i<129∧F i=some m∧p∈ptrs m∧stpOf p=x:=by
 apply Classical.byContradiction;intro hn;apply h;unfold liveF liveD;have hP:∀L:List Pt,(∀p∈L,stpOf p≠x)→liveP L x=0:=by
  intro L hL;induction L with
  | nil=>rfl
  | cons a r ih=>
   have h1:=ih (fun p hp=>hL p (List.mem_cons_of_mem _ hp));have h2:=hL a List.mem_cons_self;unfold liveP at h1 ⊢;rw [List.map_cons,List.sum_cons,h1,if_neg h2];rfl
 have hS:∀(L:List Nat) (f:Nat→Int),(∀i∈L,f i=0)→(L.map f).sum=0:=by
  intro L f hL;induction L with
  | nil=>rfl
  | cons a r ih=>
   rw [List.map_cons,List.sum_cons,hL a List.mem_cons_self,ih (fun i hi=>hL i (List.mem_cons_of_mem _ hi))];rfl
 refine hS _ _ (fun i hi=> ?_);dsimp only;cases hF:F i with
 | none=>rfl
 | some m=>
  dsimp only;rw [if_neg (by simp)];exact hP _ (fun p hp e=>hn ⟨i,m,p,List.mem_range.1 hi,hF,hp,e⟩)
def ptrsK (F:Nat→Option FMap) (NN:List Nat) (k:Nat):List Pt:=(NN.take k).flatMap (fptrs F)
theorem ptrsK_next (F:Nat→Option FMap) {NN:List Nat} {k:Nat} (hk:k<NN.length):ptrsK F NN (k+1)=ptrsK F NN k++fptrs F NN[k]:=by
 unfold ptrsK;rw [List.take_succ_eq_append_getElem hk,List.flatMap_append];simp
theorem ptrsK_all {S:St} (lv:InvLive S) {x:Stp} {u:Us} (hu:S.U x=some u) {n:Nat} (hn:(numsOf fun k=>(S.T k).isSome).length≤n):∃p∈ptrsK S.F (numsOf fun k=>(S.T k).isSome) n,stpOf p=x:=by
 obtain ⟨h1,h2⟩:=lv.live x u hu;obtain ⟨i,m,p,hi,hF,hp,e⟩:=live_some (F:=S.F) (x:=x) (by rw [← h1];exact h2);refine ⟨p,?_,e⟩;unfold ptrsK;rw [List.take_of_length_le hn];refine List.mem_flatMap.2 ⟨i,?_,by unfold fptrs;rw [hF];exact hp⟩;unfold numsOf;obtain ⟨y,hy,_⟩:=lv.tree i m hF;exact List.mem_filter.2 ⟨List.mem_range.2 hi,by rw [hy];rfl⟩
def cmpI (a b:Int):Int:=if a<b then -1 else if b<a then 1 else 0
def stpO (x y:Stp):Int:=if cmpI x.1 y.1≠0 then cmpI x.1 y.1 else if cmpI x.2.1 y.2.1≠0 then cmpI x.2.1 y.2.1 else cmpI x.2.2 y.2.2
theorem cmpI_neg {a b:Int}:cmpI a b<0↔a<b:=by unfold cmpI;split<;>(try split)<;>omega
theorem cmpI_zero {a b:Int}:cmpI a b=0↔a=b:=by unfold cmpI;split<;>(try split)<;>omega
theorem stpO_lt (x y:Stp):stpO x y<0↔(x.1<y.1∨x.1=y.1∧(x.2.1<y.2.1∨x.2.1=y.2.1∧x.2.2<y.2.2)):=by
 unfold stpO;have h1:= @cmpI_neg x.1 y.1;have h2:= @cmpI_zero x.1 y.1;have h3:= @cmpI_neg x.2.1 y.2.1;have h4:= @cmpI_zero x.2.1 y.2.1;have h5:= @cmpI_neg x.2.2 y.2.2;split
 ·omega
 ·split<;>omega
theorem stpO_swo:Go.Sort.SWO (ltOf stpO) where
 irrefl x:=by
  show decide (stpO x x<0)=false;rw [decide_eq_false_iff_not,stpO_lt];omega
 trans x y z h1 h2:=by
  have h1:decide (stpO x y<0)=true:=h1;have h2:decide (stpO y z<0)=true:=h2;show decide (stpO x z<0)=true;rw [decide_eq_true_eq,stpO_lt] at*;omega
 ntrans x y z h1 h2:=by
  have h1:decide (stpO x y<0)=false:=h1;have h2:decide (stpO y z<0)=false:=h2;show decide (stpO x z<0)=false;rw [decide_eq_false_iff_not,stpO_lt] at*;omega
theorem stpO_total (x y:Stp) (h1:ltOf stpO x y=false) (h2:ltOf stpO y x=false):x=y:=by
 have h1:decide (stpO x y<0)=false:=h1;have h2:decide (stpO y x<0)=false:=h2;rw [decide_eq_false_iff_not,stpO_lt] at*;obtain ⟨a,b,c⟩:=x;obtain ⟨a',b',c'⟩:=y;simp only [Prod.mk.injEq];dsimp only at h1 h2;omega
theorem nan_ (a:Int) (w:World):Calls Tryz.prog 174 #[.int .i64 a] w fun e w'=>e=.returned (.bool false)∧w'=w:=by
 go_enter Tryz.func174,Tryz.ntmps174;go_wp2_with fail
 go_ret
 exact ⟨by simp,rfl⟩
theorem cmp_ (a b:Int) (w:World):Calls Tryz.prog 121 #[.int .i64 a,.int .i64 b] w fun e w'=>e=.returned (.int .i64 (cmpI a b))∧w'=w:=by
 have H1:=lH (nan_ a w);have H2:=lH (nan_ b w);by_cases h1:a<b
 ·have e:cmpI a b= -1:=if_pos h1;rw [e];clear e;go_enter Tryz.func121,Tryz.ntmps121;go_wp2_with fail;refine H1.out.mono ?_;rintro e w1 ⟨rfl,hw⟩;subst hw;go_wp2_with fail;refine H2.out.mono ?_;rintro e w2 ⟨rfl,hw⟩;subst hw;go_wp2_with fail
  go_ret
  exact ⟨rfl,rfl⟩
 ·by_cases h2:b<a
  ·have e:cmpI a b=1:=(if_neg h1).trans (if_pos h2);rw [e];clear e;go_enter Tryz.func121,Tryz.ntmps121;go_wp2_with fail;refine H1.out.mono ?_;rintro e w1 ⟨rfl,hw⟩;subst hw;go_wp2_with fail;refine H2.out.mono ?_;rintro e w2 ⟨rfl,hw⟩;subst hw;go_wp2_with fail
   go_ret
   exact ⟨rfl,rfl⟩
  ·have e:cmpI a b=0:=(if_neg h1).trans (if_neg h2);rw [e];clear e;go_enter Tryz.func121,Tryz.ntmps121;go_wp2_with fail;refine H1.out.mono ?_;rintro e w1 ⟨rfl,hw⟩;subst hw;go_wp2_with fail;refine H2.out.mono ?_;rintro e w2 ⟨rfl,hw⟩;subst hw;go_wp2_with fail
   go_ret
   exact ⟨rfl,rfl⟩
def or3 (x y z:Int):Int:=if x≠0 then x else if y≠0 then y else z
theorem or3_ (b:Nat) (x y z:Int) (w:World) (c0:w.cell? ⟨b,0,none⟩=some (.int .i64 x)) (c1:w.cell? ⟨b,1,none⟩=some (.int .i64 y)) (c2:w.cell? ⟨b,2,none⟩=some (.int .i64 z)):
  Calls Tryz.prog 120 #[.slice (some ⟨b,0,none⟩) 3 3] w fun e w'=>e=.returned (.int .i64 (or3 x y z))∧w'=w:=by
 by_cases h1:x=0
 ·subst h1;by_cases h2:y=0
  ·subst h2;have e:or3 0 0 z=z:=(by simp [or3])
   rw [e];clear e;by_cases h3:z=0
   ·subst h3;go_enter Tryz.func120,Tryz.ntmps120;go_wp2_with fail;refine wp_loop_rounds 4 ?_;rw [rounds_succ];go_wp2_with fail;rw [rounds_succ];go_wp2_with fail;rw [rounds_succ];go_wp2_with fail;rw [rounds_succ];go_wp2_with fail
    go_ret
    exact ⟨rfl,rfl⟩
   ·have q:(z !=0)=true:=by simpa using h3
    clear h3;go_enter Tryz.func120,Tryz.ntmps120;go_wp2_with fail;refine wp_loop_rounds 4 ?_;rw [rounds_succ];go_wp2_with fail;rw [rounds_succ];go_wp2_with fail;rw [rounds_succ];go_wp2_with fail
    go_ret
    exact ⟨rfl,rfl⟩
  ·have e:or3 0 y z=y:=by simp [or3,h2]
   have q:(y !=0)=true:=(by simpa using h2)
   rw [e];clear e h2;go_enter Tryz.func120,Tryz.ntmps120;go_wp2_with fail;refine wp_loop_rounds 4 ?_;rw [rounds_succ];go_wp2_with fail;rw [rounds_succ];go_wp2_with fail
   go_ret
   exact ⟨rfl,rfl⟩
 ·have e:or3 x y z=x:=by simp [or3,h1]
  have q:(x !=0)=true:=by simpa using h1
  rw [e];clear e h1;go_enter Tryz.func120,Tryz.ntmps120;go_wp2_with fail;refine wp_loop_rounds 4 ?_;rw [rounds_succ];go_wp2_with fail
  go_ret
  exact ⟨rfl,rfl⟩
theorem or3_stp (x y:Stp):or3 (cmpI x.1 y.1) (cmpI x.2.1 y.2.1) (cmpI x.2.2 y.2.2)=stpO x y:=rfl
theorem order_ (x y:Stp) (w:World):Calls Tryz.prog 64 #[stpV x,stpV y] w fun e w'=>e=.returned (.int .i64 (stpO x y))∧w'=(((w.alloc (.cells #[.int .i64 x.1,.int .i64 x.2.1,.int .i64 x.2.2] 46)).alloc (.cells #[.int .i64 y.1,.int .i64 y.2.1,.int .i64 y.2.2] 46)).alloc (.cells #[.int .i64 (cmpI x.1 y.1),.int .i64 (cmpI x.2.1 y.2.1),.int .i64 (cmpI x.2.2 y.2.2)] 3)).drew:=by
 have mixed:Tryz.prog.follows .mixedOrders=true:=by kernel_rfl
 have f1:Fr No (w.alloc (.cells #[.int .i64 x.1,.int .i64 x.2.1,.int .i64 x.2.2] 46)) ((w.alloc (.cells #[.int .i64 x.1,.int .i64 x.2.1,.int .i64 x.2.2] 46)).alloc (.cells #[.int .i64 y.1,.int .i64 y.2.1,.int .i64 y.2.2] 46)):=(Fr.refl _).alloc _;have k0:=f1.block_of (new_at w (.cells #[.int .i64 x.1,.int .i64 x.2.1,.int .i64 x.2.2] 46)) id;have k1:=new_at (w.alloc (.cells #[.int .i64 x.1,.int .i64 x.2.1,.int .i64 x.2.2] 46)) (.cells #[.int .i64 y.1,.int .i64 y.2.1,.int .i64 y.2.2] 46);rw [show (w.alloc (.cells #[.int .i64 x.1,.int .i64 x.2.1,.int .i64 x.2.2] 46)).heap.size=w.heap.size+1 by simp] at k1;rw [← or3_stp];obtain ⟨xc,xl,xn⟩:=x;obtain ⟨yc,yl,yn⟩:=y;unfold stpV;dsimp only at k0 k1 ⊢;clear f1;go_enter Tryz.func64,Tryz.ntmps64;go_wp2_with fail;generalize hwA:(w.alloc (.cells #[.int .i64 xc,.int .i64 xl,.int .i64 xn] 46)).alloc (.cells #[.int .i64 yc,.int .i64 yl,.int .i64 yn] 46)=wA at*;have HWA:=lH hwA;clear hwA;generalize w.heap.size=b0 at*;have a0:wA.cell? ⟨b0,0,none⟩=some (.int .i64 xc):=by rw [cell_at k0];rfl
 have a1:wA.cell? ⟨b0,1,none⟩=some (.int .i64 xl):=by rw [cell_at k0];rfl
 have a2:wA.cell? ⟨b0,2,none⟩=some (.int .i64 xn):=by rw [cell_at k0];rfl
 have b0':wA.cell? ⟨b0+1,0,none⟩=some (.int .i64 yc):=by rw [cell_at k1];rfl
 have b1:wA.cell? ⟨b0+1,1,none⟩=some (.int .i64 yl):=by rw [cell_at k1];rfl
 have b2:wA.cell? ⟨b0+1,2,none⟩=some (.int .i64 yn):=by rw [cell_at k1];rfl
 clear k0 k1;refine wp_region_text mixed (fun W=>W=wA.drew) [15,16,17] (by kernel_rfl) (by kernel_rfl) (by kernel_rfl) (by kernel_rfl) (fun _ _ d _ _ h=>by cases d<;>exact h) rfl ?_;repeat (first
  | refine seqX_skip (by rfl) ?_
  | (refine seqX_val (v:= ?_) (by rfl) (by rfl) ?_ ?_
     rotate_left 1
     (intro W;go_simp;(try with_reducible rfl))
     simp only [Act.put,lsA,lsZ,lsS])
  | (refine seqX_call (v:=.int .i64 (cmpI xc yc)) 121 #[.int .i64 xc,.int .i64 yc] (by rfl) (by kernel_rfl) (by rfl) ?_ (fun w' hS=>(cmp_ _ _ _).mono (fun e w'' h=>⟨h.1,h.2.trans hS⟩)) ?_
     focus (intro W;go_simp;done)
     simp only [Act.put,lsA,lsZ,lsS])
  | (refine seqX_call (v:=.int .i64 (cmpI xl yl)) 121 #[.int .i64 xl,.int .i64 yl] (by rfl) (by kernel_rfl) (by rfl) ?_ (fun w' hS=>(cmp_ _ _ _).mono (fun e w'' h=>⟨h.1,h.2.trans hS⟩)) ?_
     focus (intro W;go_simp;done)
     simp only [Act.put,lsA,lsZ,lsS])
  | (refine seqX_call (v:=.int .i64 (cmpI xn yn)) 121 #[.int .i64 xn,.int .i64 yn] (by rfl) (by kernel_rfl) (by rfl) ?_ (fun w' hS=>(cmp_ _ _ _).mono (fun e w'' h=>⟨h.1,h.2.trans hS⟩)) ?_
     focus (intro W;go_simp;done)
     simp only [Act.put,lsA,lsZ,lsS])
  | (refine seqX_valS (v:= ?_) (by rfl) (by kernel_rfl) (by rfl) ?_ ?_
     rotate_left 1
     (intro W hS;have hS':W=wA.drew:=hS;subst hS';go_simp;(try with_reducible rfl))
     simp only [Act.put,lsA,lsZ,lsS]))
 intro W hS;obtain rfl:W=wA.drew:=hS;simp only [List.reverse_cons,List.reverse_nil,List.nil_append,List.cons_append];go_wp2_with fail;have k5:=new_at wA (.cells #[.int .i64 (cmpI xc yc),.int .i64 (cmpI xl yl),.int .i64 (cmpI xn yn)] 3);refine (or3_ _ (cmpI xc yc) (cmpI xl yl) (cmpI xn yn) _ ((Fr.refl (S:=No) _).drew.cell_of (by rw [cell_at k5];rfl) id) ((Fr.refl (S:=No) _).drew.cell_of (by rw [cell_at k5];rfl) id) ((Fr.refl (S:=No) _).drew.cell_of (by rw [cell_at k5];rfl) id)).mono ?_;rintro e w2 ⟨rfl,hw⟩;subst hw;go_wp2_with fail
 go_ret
 exact ⟨rfl,by rw [HWA.out]⟩
def useC (U:Stp→Option Us) (x:Stp):List Value:= [.int .i64 x.1,.int .i64 x.2.1,.int .i64 x.2.2,.int .i64 ((U x).getD (0,0,0)).1,.int .i64 ((U x).getD (0,0,0)).2.1,.int .i64 ((U x).getD (0,0,0)).2.2]
theorem useCmp_ (x y:Stp) (s1 l1 b1 s2 l2 b2:Int) (W:World):Calls Tryz.prog 63 #[.agg #[.int .i64 x.1,.int .i64 x.2.1,.int .i64 x.2.2,.int .i64 s1,.int .i64 l1,.int .i64 b1],.agg #[.int .i64 y.1,.int .i64 y.2.1,.int .i64 y.2.2,.int .i64 s2,.int .i64 l2,.int .i64 b2]] W fun e w'=>e=.returned (.int .i64 (stpO x y))∧∃q os',w'=Go.Sort.grow (W.drewN q) os':=by
 have HO:=fun W'=>order_ x y W';unfold stpV at HO;go_enter Tryz.func63,Tryz.ntmps63;go_wp2_with (go_at_call 64;refine (HO _).mono ?_;rintro e w' ⟨rfl,hw⟩;subst hw)
 go_ret
 exact ⟨rfl,1,_,by
  simp only [Go.Sort.alloc_eq_grow,Go.Sort.grow_grow];rfl⟩
end Go.Proofs.YtlcojhddnpmgmaaGreat
namespace Go.Proofs.YtlcojhddnpmgmaaGreat
open Go.RowKit Go.Sort Go.Shelf
theorem flatK_gen {α:Type} [Inhabited α] (c:α→List Value) (n:Nat) (hc:∀x,(c x).length=n) (hn:0<n) (ss:List α):flatK c n ss.toArray=(ss.flatMap c).toArray:=by
 have hlen:=flat_len hc ss;apply ext_get!
 ·rw [size_flatK];simp [hlen]
 ·intro t ht;rw [size_flatK] at ht;rw [get_flatK _ _ _ _ ht];have h1:t / n<ss.length:=by
   rw [List.size_toArray] at ht;exact (Nat.div_lt_iff_lt_mul hn).2 ht
  have h2:t % n<n:=Nat.mod_lt _ hn;have h3:ss[t / n]? =some ss[t / n]:=List.getElem?_eq_getElem h1;have h4:(c ss[t / n])[t % n]? =some ((c ss[t / n])[t % n]'(by rw [hc];exact h2)):=List.getElem?_eq_getElem _;have h5:=flat_get hc ss (t / n) _ h3 (t % n) _ h4;rw [show t / n*n+t % n=t by rw [Nat.mul_comm];exact Nat.div_add_mod t n] at h5;have e1:ss.toArray[t / n]! =ss[t / n]:=by simp [h1]
  rw [e1];rw [show ((ss.flatMap c).toArray)[t]! =((ss.flatMap c)[t]?).getD default by simp,h5];rw [Option.getD_some,List.getElem!_eq_getElem?_getD,h4];rfl
theorem holdsK_gen {α:Type} [Inhabited α] {c:α→List Value} {n:Nat} (hc:∀x,(c x).length=n) (hn:0<n) {t:TypeId} {w:World} {g:Nat} {ss:List α} {cur:Array Value} (hh:w.heap[g]? =some (.cells cur t (0,0))) (ht:cur.toList.take (ss.length*n)=ss.flatMap c):HoldsK c n w g 0 ss.toArray:=by
 intro j hj;rw [size_flatK] at hj;have hj':j<ss.length*n:=by simpa using hj
 refine ⟨?_,by simp [World.frozen?,hh]⟩;rw [flatK_gen c n hc hn];have hlen:=flat_len hc ss;have h1:(cur.toList.take (ss.length*n))[j]? =(ss.flatMap c)[j]? :=by rw [ht]
 rw [List.getElem?_take_of_lt hj'] at h1;simp only [World.cell?,hh,Nat.zero_add];simp only [Option.isSome_none,Bool.false_eq_true,if_false];rw [← Array.getElem?_toList,h1];rw [List.getElem?_eq_getElem (by omega)];simp [hlen,hj']
def stpLe (x y:Stp):Bool:= !(ltOf stpO y x)
theorem useC_len (U:Stp→Option Us) (x:Stp):(useC U x).length=6:=rfl
theorem useC_one (U:Stp→Option Us) (x:Stp):∀v∈useC U x,v.oneCell'=true:=fun v hv=>by
 simp only [useC,List.mem_cons,List.not_mem_nil,or_false] at hv;rcases hv with rfl|rfl|rfl|rfl|rfl|rfl<;>rfl
theorem sortU_ (U:Stp→Option Us) (ss:List Stp) (base:Nat) (v:Value) (w:World) (h:w.ownsRow base 80 6 v ss.length (ss.flatMap (useC U))) (hs:ss.length<10000000):
  Calls Tryz.prog 62 #[v,.func (.func 63) #[] #[]] w fun e w'=>e=.returned (.tuple #[])∧Fr (fun k=>base≤k) w w'∧RowNew (useC U) 6 80 w' base v (ss.mergeSort stpLe):=by
 rcases h.2 with ⟨rfl,h0⟩|⟨g,cap,cur,rfl,hb,hh,h1,h2,h3,h4⟩
 ·have hs0:=List.eq_nil_of_length_eq_zero h0;subst hs0;have hcon:=AnyF.slices_SortFunc_none (P:=Tryz.prog) (ρ:=Tryz.sortU_ren) {Tryz.sortU with} none 0 (.func (.func 63) #[] #[]) w;change Calls Tryz.prog 62 _ _ _ at hcon;refine hcon.mono ?_;rintro e w' ⟨rfl,rfl⟩;exact ⟨rfl,Fr.refl _,.inl ⟨rfl,by simp⟩⟩
 ·have hH:=holdsK_gen (useC_len U) (by omega) hh h4;have eg:∀args w,(callFunc 63 args).run Tryz.prog w=.ok (.enter 63 args) w:=enters_of Tryz.func63 (by kernel_rfl) rfl;have hcon:=AnyQ.slices_SortFunc_total Tryz.sortU 6 Tryz.isAgg80 Tryz.sizeOf80 (useC U) (useC_len U) (fun x v hv=>useC_one U x v hv) stpO stpO_swo 63 #[] g 0 cap ss.toArray w eg
   (fun m os dk _ x y=>useCmp_ x y _ _ _ _ _ _ _) hH (lt_of_block hh) (by simp;omega) stpO_total
  change Calls Tryz.prog 62 _ _ _ at hcon;rw [show ss.toArray.size=ss.length by simp,show ss.toArray.toList=ss by simp] at hcon;refine hcon.mono ?_;rintro e w' ⟨rfl,n,os,rfl⟩;have hl:(ss.mergeSort stpLe).length=ss.length:=List.length_mergeSort _;have hfin:HoldsK (useC U) 6 (sortWorldK (useC U) 6 w g 0 n (ss.mergeSort stpLe).toArray os) g 0 (ss.mergeSort stpLe).toArray:=by
   unfold sortWorldK;refine holdsK_grow _ _ _ _ _ _ _ ?_ (holdsK_putRowK _ _ _ _ _ _ _ (holdsK_ahead _ _ _ n _ _ _ hH) (by simp [hl]));unfold putRowK;simpa [Go.Sort.ahead] using lt_of_block hh
  refine ⟨rfl,(fr_sortedK _).mono (fun k _ e=>by rw [e];exact hb),.inr ⟨g,cap,by rw [hl],h2,hb,⟨⟨_,heap_sortedK _ hh,?_⟩,by rw [hl];exact h1,fun j x hj i u hu=> ?_⟩⟩⟩
  ·simp only [Go.Sort.putCells,Array.size_mapIdx];omega
  ·have hjl:j<(ss.mergeSort stpLe).length:=(List.getElem?_eq_some_iff.1 hj).1;have hi6:i<6:=(List.getElem?_eq_some_iff.1 hu).1;have hc:=(hfin.cell (i:=j) (c:=i) (by simpa using hjl) hi6).1;rw [Nat.zero_add] at hc;refine hc.trans ?_;have e1:(ss.mergeSort stpLe).toArray[j]! =x:=by
    rw [List.getElem?_eq_getElem hjl] at hj;cases hj;exact (getElem!_pos (ss.mergeSort stpLe).toArray j (by simpa using hjl)).trans rfl
   rw [e1,List.getElem!_eq_getElem?_getD,hu];rfl
def StripesPost (w:World) (U:Stp→Option Us) (e:Ending) (w':World):Prop:=
 ∃v ss,e=.returned v∧RowNew (useC U) 6 80 w' w.heap.size v ss∧ss.Nodup∧(∀x,x∈ss↔(U x).isSome=true)∧ss.Pairwise (fun x y=>stpLe x y=true)∧Fr No w w'
theorem stpLe_iff (x y:Stp):stpLe x y=true↔¬stpO y x<0:=by
 show (!decide (stpO y x<0))=true↔_;simp
theorem stp_sorted (ss:List Stp):(ss.mergeSort stpLe).Pairwise (fun x y=>stpLe x y=true):=
 List.pairwise_mergeSort (fun x y z h1 h2=>by rw [stpLe_iff,stpO_lt] at*;omega) (fun x y=>by
  rw [Bool.or_eq_true,stpLe_iff,stpLe_iff,stpO_lt,stpO_lt];omega) _
theorem Tryz.info80:(Tryz.prog.info? 80).map (fun i=>(i.zero,i.size,i.bytes))=some (some (.agg #[.int .i64 0,.int .i64 0,.int .i64 0,.int .i64 0,.int .i64 0,.int .i64 0]),6,48):=by kernel_rfl
theorem gstripes_ (o:Nat→Nat) (K n:Nat) (L:Plc) (S:St) (w:World) (h:StateAt w o K L S n) (hf:Fresh w o) (hn:n≤1000000):
  Calls Tryz.prog 27 #[.pointer (some ⟨L.s,0,none⟩)] w (StripesPost w S.U):=by
 have HMD:=lH (gmade_ o K n L S w h);have c12:w.cell? ⟨L.s,12,none⟩=some (.map (some L.us)):=h.cell 12;obtain ⟨_,cu,hcu,hum⟩:=h.uses;obtain ⟨w2,hr,R2,f2,hs2⟩:=hum.range (t:=101) (e:=80) Tryz.underlying101;have hult:L.us<w.heap.size:=hum.lt;have HUM:=lH hum;have HQ:Hid (∀v w' ss,RowNew (useC S.U) 6 80 w' w.heap.size v ss→ss.Nodup→(∀x,x∈ss↔(S.U x).isSome=true)→ss.Pairwise (fun x y=>stpLe x y=true)→Fr No w w'→StripesPost w S.U (.returned v) w'):=lH (fun v w' ss h1 h2 h3 h4 f=>⟨v,ss,rfl,h1,h2,h3,h4,f⟩);generalize StripesPost w S.U=Q at*;generalize S.U=U at*;have RR2:=lH R2;have F2:=lH f2;have hcu1:cu≤1000000:=Nat.le_trans hcu hn;obtain ⟨i0,hi,hz0,hz1,hz2⟩:=info_parts Tryz.info80;have HI:=lH hi;have HZ0:=lH hz0;have HZ1:=lH hz1;have HZ2:=lH hz2;have HS2:=lH hs2;clear hi hz0 hz1 hz2 h hf hum R2 f2 hs2 hcu hn;go_enter Tryz.func27,Tryz.ntmps27;go_wp2_with fail;refine HMD.out.mono ?_;rintro e w1 ⟨rfl,hw⟩;subst hw;go_wp2_with fail;go_loopw [3] (fun v wr=>∃(ss:List Stp) (left:Stp→Bool) (cnt:Nat),Hid (RangeAt encU wr L.us w1.heap.size cu (usem U) left cnt)∧Hid (∀s:Stp,stpGood s→(left s=true↔(U s).isSome=true∧s ∉ ss))∧Hid (wr.ownsRow (w1.heap.size+1) 80 6 v ss.length (ss.flatMap (useC U)))∧Hid ss.Nodup∧Hid (∀s∈ss,(U s).isSome=true)∧Hid (Fr No w1 wr)∧cnt+ss.length≤cu∧w1.heap.size+1≤wr.heap.size) (fun _ wr=>wr.rangeLeft L.us w1.heap.size)
 case atStart=>
  refine ⟨[],_,_,RR2,lH (fun s _=> ?_),lH ⟨rfl,.inl ⟨rfl,rfl⟩⟩,lH List.nodup_nil,lH (by simp),F2,by simp,by have:=HS2.out;omega⟩;unfold usem;cases U s<;>simp
 case round=>
  obtain ⟨ss,left,cnt,HRA,HLF,HOWN,HND,HIN,HFR,hcnt,hsz⟩:=hrel;obtain ⟨a,cc,rfl⟩:=HOWN.out.shape;rcases HRA.out.next 0 with ⟨_,hno,hnx⟩|⟨x,y,w4,cnt',hms,hls,hnx,hra',hlt',f4,hs4,hen⟩
  ·have hall:∀s,s∈ss↔(U s).isSome=true:=fun s=>⟨HIN.out s,fun h=>by
    obtain ⟨u0,hu0⟩:=Option.isSome_iff_exists.1 h;have hg:stpGood s:=(HUM.out.good (x:=s) (y:=(s,u0)) (by unfold usem;rw [hu0];rfl)).1;apply Classical.byContradiction;intro hn;have:=(HLF.out s hg).2 ⟨h,hn⟩;rw [hno s hg] at this;cases this⟩
   have HALL:=lH hall;clear hall hno;go_wp2_with fail;refine (sortU_ U ss (w1.heap.size+1) _ wr HOWN.out (by omega)).mono ?_;rintro e w6 ⟨rfl,f6,hes⟩;have hfin:Fr No w1 w6:=((HFR.out.of_no (S:=fun k=>w1.heap.size+1≤k)).trans f6 (fun j _ h=>h)).no (fun j hj h=>by omega);have hrow:RowNew (useC U) 6 80 w6 w1.heap.size (.slice a ss.length cc) (ss.mergeSort stpLe):=by
    rcases hes with h|⟨b,c,e,h1,h2,h3⟩
    ·exact .inl h
    ·exact .inr ⟨b,c,e,h1,by omega,h3⟩
   have H1:=lH hfin;have H2:=lH hrow;clear f6 hes hfin hrow;go_wp2_with fail;exact HQ.out _ _ _ H2.out ((List.mergeSort_perm ss stpLe).nodup_iff.2 HND.out) (fun x=>(List.mergeSort_perm ss stpLe).mem_iff.trans (HALL.out x)) (stp_sorted ss) H1.out
  ·obtain ⟨u,hu,rfl⟩:∃u,U x=some u∧y=(x,u):=by
    unfold usem at hms;cases h:U x with
    | none=>rw [h] at hms;cases hms
    | some u=>
     rw [h] at hms;cases hms;exact ⟨u,rfl,rfl⟩
   have hgx:stpGood x:=(HRA.out.map.good hms).1;obtain ⟨_,hnin⟩:=(HLF.out x hgx).1 hls;have F4:Hid (Fr No w1 w4):=lH (HFR.out.trans f4 (fun j hj e=>by omega));have O4:Hid (w4.ownsRow (w1.heap.size+1) 80 6 (.slice a ss.length cc) ss.length (ss.flatMap (useC U))):=lH (ownR_fr HOWN.out f4 (fun j hj e=>by have:=ownR_base HOWN.out j hj;omega));have R4:=lH hra';have hnx':(Instr.next (.pointer (some ⟨w1.heap.size,0,none⟩)) false 0).run Tryz.prog wr=.ok (.tuple #[.bool true,.agg #[.int .i64 x.1,.int .i64 x.2.1,.int .i64 x.2.2],.agg #[.int .i64 x.1,.int .i64 x.2.1,.int .i64 x.2.2,.int .i64 u.1,.int .i64 u.2.1,.int .i64 u.2.2]]) w4:=hnx;have hen':(Instr.entry (.pointer (some ⟨w1.heap.size,0,none⟩))).run Tryz.prog w4=.ok (.tuple #[.agg #[.int .i64 x.1,.int .i64 x.2.1,.int .i64 x.2.2],.agg #[.int .i64 x.1,.int .i64 x.2.1,.int .i64 x.2.2,.int .i64 u.1,.int .i64 u.2.1,.int .i64 u.2.2]]) w4:=hen;have HLE:Hid (wr.rangeLeft L.us w1.heap.size=cnt):=lH HRA.out.left_eq;have HLT:=lH hlt';have HN:Hid (∀s:Stp,stpGood s→((left s&&decide (s≠x))=true↔(U s).isSome=true∧s ∉ ss++ [x])):=lH (fun s hs=>by
    rw [Bool.and_eq_true,decide_eq_true_eq,HLF.out s hs,List.mem_append,List.mem_singleton];constructor
    ·rintro ⟨⟨h1,h2⟩,h3⟩;exact ⟨h1,fun h=>h.elim h2 h3⟩
    ·rintro ⟨h1,h2⟩;exact ⟨⟨h1,fun h=>h2 (.inl h)⟩,fun h=>h2 (.inr h)⟩)
   have HND2:Hid (ss++ [x]).Nodup:=lH (by
    rw [List.nodup_append];exact ⟨HND.out,by simp,fun a ha b hb e=>by
     rw [List.mem_singleton] at hb;subst hb;subst e;exact hnin ha⟩)
   have HIN2:Hid (∀s∈ss++ [x],(U s).isSome=true):=lH (fun s hs=>by
    rcases List.mem_append.1 hs with h|h
    ·exact HIN.out s h
    ·rw [List.mem_singleton] at h;rw [h,hu];rfl)
   have HUC:Hid (useC U x= [.int .i64 x.1,.int .i64 x.2.1,.int .i64 x.2.2,.int .i64 u.1,.int .i64 u.2.1,.int .i64 u.2.2]):=lH (by unfold useC;rw [hu];rfl);have hs4':w4.heap.size=wr.heap.size:=hs4;have RA:Hid (((w4.alloc (.cells #[.int .i64 x.1,.int .i64 x.2.1,.int .i64 x.2.2,.int .i64 u.1,.int .i64 u.2.1,.int .i64 u.2.2] 80)).rangeAt w4.heap.size 0 [.int .i64 x.1,.int .i64 x.2.1,.int .i64 x.2.2,.int .i64 u.1,.int .i64 u.2.1,.int .i64 u.2.2])):=lH (World.rangeAt_of_block (new_at w4 _) 0 6);have SZ:=lH hs4';clear hnx hen hra' f4 hs4 hms hls hlt' hnin hu hs4';go_wp2_with (first|(refine wpList_load_mid (by rfl) 80 _ (by rfl) w4.heap.size 0 (by rfl) [.int .i64 x.1,.int .i64 x.2.1,.int .i64 x.2.2,.int .i64 u.1,.int .i64 u.2.1,.int .i64 u.2.2] _ RA.out Tryz.underlying80 rfl Tryz.size80 ?_)|(at_builtin;(refine wpList_append_lies _ (by rfl) _ _ 65 (by rfl) (w1.heap.size+1) 80 i0 _ 6 48 Tryz.underlying65 HI.out HZ0.out HZ1.out HZ2.out rfl (by decide) (.slice a ss.length cc) ss.length (ss.flatMap (useC U)) (by rfl) ((O4.out.alloc _).alloc _) ⟨w4.heap.size+1,0,none⟩ 1 1 [.int .i64 x.1,.int .i64 x.2.1,.int .i64 x.2.2,.int .i64 u.1,.int .i64 u.2.1,.int .i64 u.2.2] (by rfl) (by rfl) ?d1 (by simp [Value.oneCell']) (by decide) (by unfold maxLen;omega) (by omega) ?d5 (w4.heap.size+1+1) ?d6 ?_)))
   case d1=>
    have h5:=World.news_of_block (cs:= #[.int .i64 x.1,.int .i64 x.2.1,.int .i64 x.2.2,.int .i64 u.1,.int .i64 u.2.1,.int .i64 u.2.2]) (t:=80) (fr:=(0,0)) (heap_alloc_new (w4.alloc (.cells #[.int .i64 x.1,.int .i64 x.2.1,.int .i64 x.2.2,.int .i64 u.1,.int .i64 u.2.1,.int .i64 u.2.2] 80)) _);rw [heap_size_alloc] at h5;exact h5
   case d5=>rw [heap_size_alloc,heap_size_alloc];have:=SZ.out;omega
   case d6=>simp
   intro gg cap wD hownD hgrow hat hgl;have HNL:Hid (Fr No w1 wD):=lH (((F4.out.alloc _).alloc _).grown hgrow (fun j hj=> .inr (by have:=ownR_base O4.out j hj;omega)));have HG4:Fr (fun k=>w1.heap.size+1≤k) w4 wD:=(((Fr.refl (S:=fun k=>w1.heap.size+1≤k) w4).alloc _).alloc _).grown hgrow (fun j hj=> .inl (ownR_base O4.out j hj));have RD:=lH (R4.out.fr HG4 (by omega) (by omega));have HOD:=lH hownD;have hsD:w1.heap.size+1≤wD.heap.size:=Nat.le_trans (by have:=SZ.out;omega) HG4.size;clear hownD hgrow hat hgl HG4;go_wp2_with fail;go_roundw
   case rel=>
    refine ⟨ss++ [x],_,cnt',RD,HN,lH ?_,HND2,HIN2,HNL,by rw [List.length_append,List.length_singleton];have:=HLT.out;omega,hsD⟩;have h9:=HOD.out;rw [List.flatMap_append,List.length_append];simp only [List.flatMap_cons,List.flatMap_nil,List.append_nil,List.length_singleton];rw [HUC.out];exact h9
   case measure=>
    rw [RD.out.left_eq,HLE.out];exact HLT.out
end Go.Proofs.YtlcojhddnpmgmaaGreat
namespace Go.Proofs.YtlcojhddnpmgmaaGreat
open Go.ChangeShapes Go.WideShapes Go.RowKit Go.Deep
section
variable {H:Type} {enc:TypeId×Value→H} {W:World}
theorem Tryz.cells4:Tryz.prog.cellsOf 4=1:=by kernel_rfl
theorem Tryz.cells9:Tryz.prog.cellsOf 9=1:=by kernel_rfl
theorem Tryz.cells38:Tryz.prog.cellsOf 38=3:=by kernel_rfl
theorem Tryz.cells59:Tryz.prog.cellsOf 59=5:=by kernel_rfl
theorem Tryz.cells57:Tryz.prog.cellsOf 57=4:=by kernel_rfl
theorem Tryz.cells61:Tryz.prog.cellsOf 61=14:=by kernel_rfl
theorem Tryz.cells39:Tryz.prog.cellsOf 39=1:=by kernel_rfl
theorem Tryz.cells34:Tryz.prog.cellsOf 34=1:=by kernel_rfl
theorem Tryz.cells41:Tryz.prog.cellsOf 41=14:=by kernel_rfl
theorem fields_of {P:Program} {t:TypeId} {fs:Array Field} {fuel:Nat} {cs:List Value} {x:DataW H×List MemPlace} (ht:P.underlying t=some (.struct fs)) (h:DataW.trod enc P W 0 (fun _=>true) true fuel t cs=some x):
  cs.length=P.cellsOf t∧∃n,∀(i:Nat) (f:Field) (t':TypeId) (o k:Nat),fs[i]? =some f→f.type=t'→f.offset=o→P.cellsOf t'=k→∃y,DataW.trod enc P W 0 (fun _=>true) true n t' ((cs.drop o).take k)=some y:=by
 obtain ⟨xs,n,_,_,hc,hl,hf⟩:=DataW.trod_struct ht h;refine ⟨hc,n,fun i f t' o k hi e1 e2 e3=> ?_⟩;subst e1 e2 e3;have hlt:i<xs.length:=by
  rw [hl];exact (Array.getElem?_eq_some_iff.1 hi).1
 exact ⟨xs[i],by rw [hf i f hi,List.getElem?_eq_getElem hlt]⟩
theorem int_of {fuel:Nat} {c:Value} {y:DataW H×List MemPlace} (h:DataW.trod enc Tryz.prog W 0 (fun _=>true) true fuel 3 [c]=some y):∃n,c=.int .i64 n∧I64 n:=by
 obtain ⟨n,hc,_,hw⟩:=DataW.trod_int Tryz.underlying3 h;simp only [List.cons.injEq,and_true] at hc;exact ⟨n,hc,bounds_i64 hw⟩
theorem bool_of {fuel:Nat} {c:Value} {y:DataW H×List MemPlace} (h:DataW.trod enc Tryz.prog W 0 (fun _=>true) true fuel 4 [c]=some y):∃n,c=.bool n:=by
 obtain ⟨n,hc,_⟩:=DataW.trod_bool Tryz.underlying4 h;simp only [List.cons.injEq,and_true] at hc;exact ⟨n,hc⟩
theorem str_of {fuel:Nat} {c:Value} {y:DataW H×List MemPlace} (h:DataW.trod enc Tryz.prog W 0 (fun _=>true) true fuel 9 [c]=some y):∃l:List UInt8,c=.string (ba l):=by
 obtain ⟨s,hc,_,hw⟩:=DataW.trod_string Tryz.underlying9 h;simp only [List.cons.injEq,and_true] at hc;exact ⟨s.data.toList,by rw [hc,ba_of]⟩
theorem slot_of_add {w:World} {a:Addr} {v:Value} (h:w.cell? a=some v):a.spot=none:=by
 unfold World.cell? at h;split at h
 ·split at h
  ·cases h
  ·simpa using ‹¬a.spot.isSome=true›
 ·cases h
theorem lt_of_cell' {w:World} {a:Addr} {v:Value} (h:w.cell? a=some v):a.block<w.heap.size:=by
 unfold World.cell? at h;split at h
 ·rename_i e
  exact (Array.getElem?_eq_some_iff.1 e).1
 ·cases h
theorem rows_open {T ET:TypeId} {n:Nat} {α:Type} [Inhabited α] (c:α→List Value) (G:α→Prop) (hT:Tryz.prog.underlying T=some (.slice ET)) (hE:Tryz.prog.cellsOf ET=n) (hn:0<n) (hc:∀x,(c x).length=n)
  (hel:∀ {fuel:Nat} {cs:List Value} {y:DataW H×List MemPlace},DataW.trod enc Tryz.prog W 0 (fun _=>true) true fuel ET cs=some y→∃x,cs=c x∧G x) {fuel:Nat} {v:Value} {y:DataW H×List MemPlace}
  (h:DataW.trod enc Tryz.prog W 0 (fun _=>true) true fuel T [v]=some y):
  ∃(L:List α) (base:Option Addr) (cap:Nat),v=.slice base L.length cap∧(∀x∈L,G x)∧(L≠ []→∃b off,base=some ⟨b,off,none⟩∧b<W.heap.size∧∀(j:Nat) x,L[j]? =some x→W.rangeAt b (off+j*n) (c x)):=by
 rcases open_slice hT h with ⟨hcs,_⟩|⟨a,len,cap,m,k,D,Pl,hcs,_,hl,hm,hmm,_,hi⟩
 ·simp only [List.cons.injEq,and_true] at hcs;exact ⟨[],none,0,hcs,(fun _ h=>by cases h),fun h=>absurd rfl h⟩
 ·simp only [List.cons.injEq,and_true] at hcs;simp only [if_true] at hmm;subst hmm;rw [hE] at hi;obtain ⟨f,hF⟩:=choose_lt (α:=α) (n:=len) (p:=fun i x=>G x∧∀j u,(c x)[j]? =some u→W.cell? ((a.add (i*n)).add j)=some u) (fun i hlt=>by
   obtain ⟨cs',h1,h2⟩:=hi i (by omega);obtain ⟨x,rfl,hg⟩:=hel h2;obtain ⟨_,hlen,hcell⟩:=World.cells?_some h1;refine ⟨x,hg,fun j u hj=> ?_⟩;have hjn:j<n:=by
    rcases Nat.lt_or_ge j n with h|h
    ·exact h
    ·rw [List.getElem?_eq_none (by rw [hc];exact h)] at hj;cases hj
   rw [hcell j hjn,hj])
  refine ⟨(List.range len).map f,some a,m,by simpa using hcs,fun x hx=> ?_,fun hne=> ?_⟩
  ·obtain ⟨i,hi',rfl⟩:=List.mem_map.1 hx;exact (hF i (List.mem_range.1 hi')).1
  ·have h0:0<len:=by
    rcases Nat.eq_zero_or_pos len with h0|h0
    ·subst h0;simp at hne
    ·exact h0
   have hlen0:0<(c (f 0)).length:=(by rw [hc];exact hn)
   have c0:=(hF 0 h0).2 0 _ (List.getElem?_eq_getElem hlen0);have ha:=slot_of_add c0;have ha:a.spot=none:=(by simpa [Addr.add] using ha)
   have hblk:=lt_of_cell' c0;obtain ⟨b,off,s⟩:=a;simp only at ha;subst ha;refine ⟨b,off,rfl,by simpa [Addr.add] using hblk,fun j x hj=> ?_⟩;have hj2:j<len:=by
    rcases Nat.lt_or_ge j len with h|h
    ·exact h
    ·rw [List.getElem?_eq_none (by simp;omega)] at hj;cases hj
   have hx:x=f j:=by
    rw [List.getElem?_map,List.getElem?_range hj2] at hj;simpa using hj.symm
   subst hx;intro i u hu;have h2:((Addr.mk b off none).add (j*n)).add i=⟨b,off+j*n+i,none⟩:=by
    unfold Addr.add;split<;>split<;>simp_all
   have:=(hF j hj2).2 i u hu;rw [h2] at this;exact this
theorem stp_of {fuel:Nat} {cs:List Value} {y:DataW H×List MemPlace} (h:DataW.trod enc Tryz.prog W 0 (fun _=>true) true fuel 46 cs=some y):∃x:Stp,cs= [.int .i64 x.1,.int .i64 x.2.1,.int .i64 x.2.2]∧stpGood x:=by
 obtain ⟨hl,n,hf⟩:=fields_of Tryz.underlying46 h;rw [Tryz.cells46] at hl
 match cs,hl with
 | [c0,c1,c2],_=>
  obtain ⟨_,g0⟩:=hf 0 _ 3 0 1 rfl rfl rfl Tryz.cells3;obtain ⟨_,g1⟩:=hf 1 _ 3 1 1 rfl rfl rfl Tryz.cells3;obtain ⟨_,g2⟩:=hf 2 _ 3 2 1 rfl rfl rfl Tryz.cells3;obtain ⟨n0,rfl,i0⟩:=int_of g0;obtain ⟨n1,rfl,i1⟩:=int_of g1;obtain ⟨n2,rfl,i2⟩:=int_of g2;exact ⟨(n0,n1,n2),rfl,i0,i1,i2⟩
theorem sz_of {fuel:Nat} {cs:List Value} {y:DataW H×List MemPlace} (h:DataW.trod enc Tryz.prog W 0 (fun _=>true) true fuel 57 cs=some y):∃x:Sz,cs=szC x∧stpGood x.1:=by
 obtain ⟨hl,n,hf⟩:=fields_of Tryz.underlying57 h;rw [Tryz.cells57] at hl
 match cs,hl with
 | [c0,c1,c2,c3],_=>
  obtain ⟨_,g0⟩:=hf 0 _ 46 0 3 rfl rfl rfl Tryz.cells46;obtain ⟨_,g3⟩:=hf 1 _ 3 3 1 rfl rfl rfl Tryz.cells3;obtain ⟨x,e,hx⟩:=stp_of g0;obtain ⟨n3,rfl,_⟩:=int_of g3;simp only [List.drop_zero,List.take_succ_cons,List.take_zero,List.cons.injEq,and_true] at e;obtain ⟨rfl,rfl,rfl⟩:=e;exact ⟨(x,n3),rfl,hx⟩
theorem pt_of {fuel:Nat} {cs:List Value} {y:DataW H×List MemPlace} (h:DataW.trod enc Tryz.prog W 0 (fun _=>true) true fuel 59 cs=some y):∃x:Pt,cs=ptC x:=by
 obtain ⟨hl,n,hf⟩:=fields_of Tryz.underlying59 h;rw [Tryz.cells59] at hl
 match cs,hl with
 | [c0,c1,c2,c3,c4],_=>
  obtain ⟨_,g0⟩:=hf 0 _ 46 0 3 rfl rfl rfl Tryz.cells46;obtain ⟨_,g3⟩:=hf 1 _ 3 3 1 rfl rfl rfl Tryz.cells3;obtain ⟨_,g4⟩:=hf 2 _ 3 4 1 rfl rfl rfl Tryz.cells3;obtain ⟨x,e,hx⟩:=stp_of g0;obtain ⟨n3,rfl,_⟩:=int_of g3;obtain ⟨n4,rfl,_⟩:=int_of g4;simp only [List.drop_zero,List.take_succ_cons,List.take_zero,List.cons.injEq,and_true] at e;obtain ⟨rfl,rfl,rfl⟩:=e;exact ⟨⟨x.1,x.2.1,x.2.2,n3,n4⟩,rfl⟩
theorem dl_of {fuel:Nat} {cs:List Value} {y:DataW H×List MemPlace} (h:DataW.trod enc Tryz.prog W 0 (fun _=>true) true fuel 61 cs=some y):∃x:Dl,cs=dlC x:=by
 obtain ⟨hl,n,hf⟩:=fields_of Tryz.underlying61 h;rw [Tryz.cells61] at hl
 match cs,hl with
 | [c0,c1,c2,c3,c4,c5,c6,c7,c8,c9,c10,c11,c12,c13],_=>
  obtain ⟨_,g0⟩:=hf 0 _ 3 0 1 rfl rfl rfl Tryz.cells3;obtain ⟨_,g1⟩:=hf 1 _ 3 1 1 rfl rfl rfl Tryz.cells3;obtain ⟨_,g2⟩:=hf 2 _ 3 2 1 rfl rfl rfl Tryz.cells3;obtain ⟨_,g3⟩:=hf 3 _ 3 3 1 rfl rfl rfl Tryz.cells3;obtain ⟨_,g4⟩:=hf 4 _ 59 4 5 rfl rfl rfl Tryz.cells59;obtain ⟨_,g9⟩:=hf 5 _ 59 9 5 rfl rfl rfl Tryz.cells59;obtain ⟨n0,rfl,_⟩:=int_of g0;obtain ⟨n1,rfl,_⟩:=int_of g1;obtain ⟨n2,rfl,_⟩:=int_of g2;obtain ⟨n3,rfl,_⟩:=int_of g3;obtain ⟨t,e⟩:=pt_of g4;obtain ⟨o,e'⟩:=pt_of g9;simp only [ptC,List.drop_succ_cons,List.drop_zero,List.take_succ_cons,List.take_zero,List.cons.injEq,and_true] at e e';obtain ⟨rfl,rfl,rfl,rfl,rfl⟩:=e;obtain ⟨rfl,rfl,rfl,rfl,rfl⟩:=e';exact ⟨⟨n0,n1,n2,n3,t,o⟩,rfl⟩
theorem szs_of {fuel:Nat} {v:Value} {y:DataW H×List MemPlace} (h:DataW.trod enc Tryz.prog W 0 (fun _=>true) true fuel 39 [v]=some y):∃st:List Sz,RowsAt szC 4 W (fun _=>0) v st∧∀s∈st,stpGood s.1:=by
 obtain ⟨L,base,cap,e,hg,hr⟩:=rows_open (enc:=enc) (W:=W) szC (fun x=>stpGood x.1) Tryz.underlying39 Tryz.cells57 (by decide) szC_len sz_of h;exact ⟨L,⟨base,cap,e,fun hL=>by
  obtain ⟨b,off,e1,hb,hx⟩:=hr hL;exact ⟨b,off,e1,rfl,hb,hx⟩⟩,hg⟩
theorem dls_of {fuel:Nat} {v:Value} {y:DataW H×List MemPlace} (h:DataW.trod enc Tryz.prog W 0 (fun _=>true) true fuel 34 [v]=some y):∃dl:List Dl,RowsAt dlC 14 W (fun _=>0) v dl:=by
 obtain ⟨L,base,cap,e,_,hr⟩:=rows_open (enc:=enc) (W:=W) dlC (fun _=>True) Tryz.underlying34 Tryz.cells61 (by decide) (fun _=>rfl) (fun h=>by
  obtain ⟨x,hx⟩:=dl_of h;exact ⟨x,hx,trivial⟩) h
 exact ⟨L,⟨base,cap,e,fun hL=>by
  obtain ⟨b,off,e1,hb,hx⟩:=hr hL;exact ⟨b,off,e1,rfl,hb,hx⟩⟩⟩
abbrev RqV:=Rq×Value×Value
def RqV.cells (y:RqV):List Value:=(y.1.1.cells y.2.1 y.2.2).toList
def RqV.good (W:World) (y:RqV):Prop:=RowsAt szC 4 W (fun _=>0) y.2.1 y.1.2.1∧RowsAt dlC 14 W (fun _=>0) y.2.2 y.1.2.2∧∀s∈y.1.2.1,stpGood s.1
theorem rq_of {fuel:Nat} {cs:List Value} {y:DataW H×List MemPlace} (h:DataW.trod enc Tryz.prog W 0 (fun _=>true) true fuel 41 cs=some y):∃x:RqV,cs=x.cells∧x.good W:=by
 obtain ⟨hl,n,hf⟩:=fields_of Tryz.underlying41 h;rw [Tryz.cells41] at hl
 match cs,hl with
 | [c0,c1,c2,c3,c4,c5,c6,c7,c8,c9,c10,c11,c12,c13],_=>
  obtain ⟨_,gs⟩:=hf 0 _ 38 0 3 rfl rfl rfl Tryz.cells38;obtain ⟨_,g3⟩:=hf 1 _ 3 3 1 rfl rfl rfl Tryz.cells3;obtain ⟨_,g4⟩:=hf 2 _ 9 4 1 rfl rfl rfl Tryz.cells9;obtain ⟨_,g5⟩:=hf 3 _ 9 5 1 rfl rfl rfl Tryz.cells9;obtain ⟨_,g6⟩:=hf 4 _ 4 6 1 rfl rfl rfl Tryz.cells4;obtain ⟨_,g7⟩:=hf 5 _ 4 7 1 rfl rfl rfl Tryz.cells4;obtain ⟨_,g8⟩:=hf 6 _ 4 8 1 rfl rfl rfl Tryz.cells4;obtain ⟨_,g9⟩:=hf 7 _ 3 9 1 rfl rfl rfl Tryz.cells3;obtain ⟨_,g10⟩:=hf 8 _ 3 10 1 rfl rfl rfl Tryz.cells3;obtain ⟨_,g11⟩:=hf 9 _ 3 11 1 rfl rfl rfl Tryz.cells3;obtain ⟨_,g12⟩:=hf 10 _ 39 12 1 rfl rfl rfl Tryz.cells39;obtain ⟨_,g13⟩:=hf 11 _ 34 13 1 rfl rfl rfl Tryz.cells34;obtain ⟨_,m,hm⟩:=fields_of Tryz.underlying38 gs;obtain ⟨_,k0⟩:=hm 0 _ 3 0 1 rfl rfl rfl Tryz.cells3;obtain ⟨_,k1⟩:=hm 1 _ 3 1 1 rfl rfl rfl Tryz.cells3;obtain ⟨_,k2⟩:=hm 2 _ 3 2 1 rfl rfl rfl Tryz.cells3;obtain ⟨n0,rfl,_⟩:=int_of k0;obtain ⟨n1,rfl,_⟩:=int_of k1;obtain ⟨n2,rfl,_⟩:=int_of k2;obtain ⟨n3,rfl,_⟩:=int_of g3;obtain ⟨n4,rfl⟩:=str_of g4;obtain ⟨n5,rfl⟩:=str_of g5;obtain ⟨n6,rfl⟩:=bool_of g6;obtain ⟨n7,rfl⟩:=bool_of g7;obtain ⟨n8,rfl⟩:=bool_of g8;obtain ⟨n9,rfl,_⟩:=int_of g9;obtain ⟨n10,rfl,_⟩:=int_of g10;obtain ⟨n11,rfl,_⟩:=int_of g11;obtain ⟨st,hst,hgood⟩:=szs_of g12;obtain ⟨dl,hdl⟩:=dls_of g13;exact ⟨((⟨n0,n1,n2,n3,n4,n5,n6,n7,n8,n9,n10,n11⟩,st,dl),_,_),rfl,hst,hdl,hgood⟩
theorem rqs_of {b0:Nat} {v:Value} {d:DataW H} {p:List MemPlace} (hv:Value.okWide Tryz.prog W .any b0 44 v) (h:DataW.Trod enc Tryz.prog W 0 (fun _=>true) true 44 v d p):∃L:List Rq,RqsAt W (fun _=>0) v L∧∀y∈L,∀s∈y.2.1,stpGood s.1:=by
 obtain ⟨a',len',cap',rfl⟩:=okWide_slice Tryz.underlying44 hv;obtain ⟨fuel,hf⟩:=h
 haveI:Inhabited RqV:=⟨((⟨0,0,0,0, [], [],false,false,false,0,0,0⟩, [], []),.slice none 0 0,.slice none 0 0)⟩
 obtain ⟨L,base,cap,e,hg,hr⟩:=rows_open (enc:=enc) (W:=W) RqV.cells (RqV.good W) Tryz.underlying44 Tryz.cells41 (by decide) (fun _=>rfl) rq_of (v:=.slice a' len' cap') hf;refine ⟨L.map (·.1),⟨base,cap,by rw [List.length_map];exact e,fun hL=> ?_⟩,fun y hy s hs=> ?_⟩
 ·have hL':L≠ []:=fun h=>hL (by rw [h];rfl);obtain ⟨b,off,e1,hb,hx⟩:=hr hL';refine ⟨b,off,e1,rfl,hb,fun j y hj=> ?_⟩;rw [List.getElem?_map] at hj;cases hz:L[j]? with
  | none=>rw [hz] at hj;cases hj
  | some z=>
   rw [hz] at hj;cases hj;obtain ⟨g1,g2,_⟩:=hg z (List.mem_of_getElem? hz);exact ⟨z.2.1,z.2.2,hx j z hz,g1,g2⟩
 ·obtain ⟨z,hz,rfl⟩:=List.mem_map.1 hy;exact (hg z hz).2.2 s hs
end
end Go.Proofs.YtlcojhddnpmgmaaGreat
