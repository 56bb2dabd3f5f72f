/- Part of the proof; the last text says what is proved. -/
import Derived.Test.YtlcojhddnpmgmaaGreatW08
import Derived.Deep.RegionWith
import Derived.Laws.Rows
import Derived.Laws.Tables
import Derived.Lib.ConvBytes
import Derived.OwnWalk
import Derived.Recover
set_option linter.unusedSimpArgs false
set_option linter.unusedVariables false
set_option maxRecDepth 100000
set_option maxHeartbeats 3200000
namespace Go.Proofs.YtlcojhddnpmgmaaGreat
open Go.RowKit
theorem directory2_ (n:Int) (s:ByteArray) (w:World):Calls Tryz.prog 81 #[.int .i64 n,.string s] w fun e w'=>e=.returned (.pointer (some ⟨w.heap.size+1,0,none⟩))∧w'=(w.alloc (.map #[] 0)).alloc (.cells #[.int .i64 n,.string s,.bool true,.map (some w.heap.size)] 141):=by
 have hmm:= @run_makeMap Tryz.prog;go_enter Tryz.func81,Tryz.ntmps81
 go_wp2
 go_ret
 exact ⟨rfl,rfl⟩
theorem seen_ok {T:Tree} (ht:TreeOk T) {ps:List (List UInt8)} (h:(seen T ps).1=0):∃x,T (seen T ps).2.1=some x∧x.dir=(seen T ps).2.2:=by
 unfold seen at h ⊢;by_cases h0:(walkOf T 1 ps).1=0
 ·rw [if_pos h0] at h ⊢;rcases walk_at ht (e:=(walkOf T 1 ps).1) (j:=(walkOf T 1 ps).2) ⟨_,ht.root⟩ rfl with ⟨_,x,hx⟩|⟨h1,_⟩
  ·exact ⟨x,hx,by simp [isDir,hx]⟩
  ·exact absurd h0 h1
 ·rw [if_neg h0] at h;exact absurd h h0
theorem place_ok {T:Tree} (ht:TreeOk T) {l:List UInt8} (h:(placeOf T l).1=0):(∃y,T (placeOf T l).2.1=some y∧y.dir=true)∧okName (placeOf T l).2.2=true:=by
 unfold placeOf at h ⊢;split at h
 ·cases h
 ·cases h
 ·rename_i p ps hp
  have hok:=(pathOf_ok l _ hp).1;unfold stands at h ⊢;by_cases h0:(seen T (p::ps).dropLast).1=0
  ·rw [if_pos h0] at h ⊢;obtain ⟨x,hx,hd⟩:=seen_ok ht h0;cases hs:(seen T (p::ps).dropLast).2.2 with
   | true=>
    rw [hs] at hd;exact ⟨⟨x,hx,hd⟩,hok _ (List.getLast_mem _)⟩
   | false=>
    rw [hs] at h;cases h
  ·rw [if_neg h0] at h;exact absurd h h0
def makeOf (T:Tree) (l:List UInt8):Int×Nat:=
 if l= [47] then (7,0) else if (placeOf T l).1≠0 then ((placeOf T l).1,0) else if (kid T (placeOf T l).2.1 (placeOf T l).2.2).isSome=true then (7,0) else if 128≤things T then (5,0) else (0,free T)
def madeT (T:Tree) (l:List UInt8) (b:Bool):Tree:=if (makeOf T l).1=0 then grown T (free T) (placeOf T l).2.1 (placeOf T l).2.2 b else T
theorem make_adds {T:Tree} (ht:TreeOk T) {l:List UInt8} (h:(makeOf T l).1=0):Adds T (free T) (placeOf T l).2.1 (placeOf T l).2.2:=by
 unfold makeOf at h;split at h
 ·cases h
 ·split at h
  ·rename_i h1;exact absurd h h1
  ·rename_i h1
   split at h
   ·cases h
   ·rename_i h2
    split at h
    ·cases h
    ·rename_i h3
     obtain ⟨f1,f2,f3,_⟩:=free_is ht (by omega);have h1':(placeOf T l).1=0:=Decidable.not_not.1 h1;obtain ⟨p1,p2⟩:=place_ok ht h1';exact ⟨ht,f1,f2,f3,p1,p2,by simpa using h2⟩
theorem madeT_ok {T:Tree} (ht:TreeOk T) (l:List UInt8) (b:Bool):TreeOk (madeT T l b):=by
 unfold madeT;split
 ·rename_i h;exact (make_adds ht h).grown_ok
 ·exact ht
def GMake (w:World) (o:Nat→Nat) (K t:Nat) (T:Tree) (l:List UInt8) (b:Bool) (e:Ending) (w':World):Prop:=
 e=.returned (.tuple #[.int .i64 (makeOf T l).2,.int .i64 (makeOf T l).1])∧∃o',Step (treeC K) w o w' o'∧TreeAt w' o' K t (madeT T l b)
theorem gmake_ (o:Nat→Nat) (K t:Nat) (T:Tree) (l:List UInt8) (b:Bool) (w:World) (hl:l.length≤1000000) (h:TreeAt w o K t T) (ht:TreeOk T) (hf:Fresh w o):
  Calls Tryz.prog 131 #[.pointer (some ⟨t,0,none⟩),.string (ba l),.bool b] w (GMake w o K t T l b):=by
 have HH:=lH h;have HT:=lH ht;have HF:=lH hf;by_cases h1:l= [47]
 ·have hm:makeOf T l=(7,0):=if_pos h1;have HR:Hid (∀e w',e=.returned (.tuple #[.int .i64 0,.int .i64 7])→Fr No w w'→GMake w o K t T l b e w'):=lH (fun e w' he f=>⟨by rw [he,hm];rfl,o,Step.no hf f,by
   have:madeT T l b=T:=(by unfold madeT;rw [hm];rfl)
   rw [this];exact h.no ht hf f⟩)
  have q1:((ba l).toList== [47])=true:=by rw [ba_toList,h1];rfl
  clear h ht hf h1 hl hm;generalize GMake w o K t T l b=Q at*;go_enter Tryz.func131,Tryz.ntmps131;go_wp2_with fail;refine (gtmade_ _ o K t T HH.out).mono ?_;rintro e w1 ⟨rfl,rfl⟩;go_wp2_with fail;exact HR.out _ _ rfl (Fr.refl _)
 ·have q1:((ba l).toList== [47])=false:=by rw [ba_toList];simpa using h1
  have HP:=lH (gplace_ o K t T l w hl h ht hf);have hm:makeOf T l=if (placeOf T l).1≠0 then ((placeOf T l).1,0) else if (kid T (placeOf T l).2.1 (placeOf T l).2.2).isSome=true then (7,0) else if 128≤things T then (5,0) else (0,free T):=if_neg h1
  have HA:=lH (make_adds (l:=l) ht);have HM:Hid (madeT T l b=if (makeOf T l).1=0 then grown T (free T) (placeOf T l).2.1 (placeOf T l).2.2 b else T):=lH rfl;have hpo:=place_ok (l:=l) ht;generalize placeOf T l=P at*;obtain ⟨er,at_,last⟩:=P;have HR:Hid (∀er',er'≠0→makeOf T l=(er',0)→∀e w',e=.returned (.tuple #[.int .i64 0,.int .i64 er'])→Fr No w w'→GMake w o K t T l b e w'):=lH (fun er' hne hm e w' he f=>⟨by rw [he,hm];rfl,o,Step.no hf f,by
   have:madeT T l b=T:=(by unfold madeT;rw [hm,if_neg hne])
   rw [this];exact h.no ht hf f⟩)
  have HQ:Hid (∀i e w',makeOf T l=(0,i)→e=.returned (.tuple #[.int .i64 i,.int .i64 0])→(∃o',Step (treeC K) w o w' o'∧TreeAt w' o' K t (madeT T l b))→GMake w o K t T l b e w'):=lH (fun i e w' hm he hx=>⟨by rw [he,hm],hx⟩);generalize hQ:GMake w o K t T l b=Q at*;clear hQ;clear h h1 hl hf;by_cases he:er=0
  ·subst he;obtain ⟨⟨y,hy,hyd⟩,hlast⟩:=hpo rfl;rw [if_neg (by simp)] at hm;dsimp only at hm hy hlast HA HM;have HL:=lH hlast;have HY:=lH hy;have HYD:=lH hyd;cases hk:kid T at_ last with
   | some j=>
    rw [hk] at hm;have HV:Hid (makeOf T l=(7,0)):=lH hm;have HK:=lH hk;clear hk hm hpo ht hy hyd hlast;go_enter Tryz.func131,Tryz.ntmps131;go_wp2_with fail;refine (gtmade_ _ o K t T HH.out).mono ?_;rintro e w1 ⟨rfl,rfl⟩;go_wp2_with fail;refine HP.out.mono ?_;rintro e w2 ⟨rfl,f2⟩;obtain ⟨mb,tp,RR⟩:=(HH.out.no HT.out HF.out f2).reads HT.out;have R:=RR w2 (Fr.refl _);have c0:=R.ct;have hl:=R.look at_ y HY.out;obtain ⟨ib,ci,hi⟩:=R.kids at_ y HY.out HYD.out;have hkk:=hi last HL.out;rw [HK.out] at hkk;clear R RR hi;go_wp2_with fail;exact HR.out 7 (by decide) HV.out _ _ rfl f2
   | none=>
    rw [hk] at hm;simp only [Option.isSome_none,Bool.false_eq_true,if_false] at hm;have HK:=lH hk;by_cases hfull:128≤things T
    ·have HV:Hid (makeOf T l=(5,0)):=lH (by rw [hm,if_pos hfull]);have q2:(128:Int)≤(things T:Int):=(by omega)
     clear hk hm hpo ht hy hyd hlast hfull;go_enter Tryz.func131,Tryz.ntmps131;go_wp2_with fail;refine (gtmade_ _ o K t T HH.out).mono ?_;rintro e w1 ⟨rfl,rfl⟩;go_wp2_with fail;refine HP.out.mono ?_;rintro e w2 ⟨rfl,f2⟩;obtain ⟨mb,tp,h2,h3,h4,h5,h6⟩:=HH.out.no HT.out HF.out f2;have hlen:=fun ty=>h5.len (t:=130) (e:=142) Tryz.underlying130 ty;obtain ⟨mb',tp',RR⟩:=(HH.out.no HT.out HF.out f2).reads HT.out;have R:=RR w2 (Fr.refl _);have c0:=R.ct;obtain rfl:mb'=mb:=by
      have:=(cell_at h3 0).symm.trans c0;simp at this;exact this.symm
     have hl:=R.look at_ y HY.out;obtain ⟨ib,ci,hi⟩:=R.kids at_ y HY.out HYD.out;have hkk:=hi last HL.out;rw [HK.out] at hkk;clear R RR hi h2 h3 h4 h5 h6;go_wp2_with fail;exact HR.out 5 (by decide) HV.out _ _ rfl f2
    ·have hV:makeOf T l=(0,free T):=by rw [hm,if_neg hfull]
     have HV:=lH hV;have HAA:=lH (HA.out (by rw [hV]));have HMM:Hid (madeT T l b=grown T (free T) at_ last b):=lH (by rw [HM.out,hV];rfl);have HFR:=lH (free_is ht (by omega));have q2:¬(128:Int)≤(things T:Int):=(by omega)
     have hth:things T<128:=(by omega)
     have hkn:kidN T at_<1000:=Nat.lt_of_le_of_lt (List.countP_le_length) (by rw [List.length_range];omega);have hat:=ht.lt hy;clear hk hm hpo ht hy hyd hlast hfull hV HA HM;go_enter Tryz.func131,Tryz.ntmps131;go_wp2_with fail;refine (gtmade_ _ o K t T HH.out).mono ?_;rintro e w1 ⟨rfl,rfl⟩;go_wp2_with fail;refine HP.out.mono ?_;rintro e w2 ⟨rfl,f2⟩;have hf2:Fresh w2 o:=fun k hk=>HF.out k (Nat.le_trans f2.size hk);obtain ⟨mb,tp,h2,h3,h4,h5,h6⟩:=HH.out.no HT.out HF.out f2;obtain ⟨ib,i1,i2,i3,i4⟩:=TreeAt.dir (h6 at_ y HY.out) HYD.out;have hlen:=fun ty=>h5.len (t:=130) (e:=142) Tryz.underlying130 ty;have c0:w2.cell? ⟨t,0,none⟩=some (.map (some mb)):=(by rw [cell_at h3];rfl)
     have c3:w2.cell? ⟨tp at_,3,none⟩=some (.map (some ib)):=(by rw [cell_at i2];rfl)
     have hl:=h5.look (at_:Int) (by unfold encI I64;dsimp only;omega) (t:=130) (e:=142) Tryz.underlying130 (z:=.pointer none) (by kernel_rfl) false;rw [show thm T tp (at_:Int)=some (tp at_) by simp [thm,HY.out]] at hl;have hlj:∀j:Nat,j≤128→(Instr.lookup 130 (.map (some mb)) (.int .i64 j) false).run Tryz.prog w2=.ok (match thm T tp j with|some p=> .pointer (some ⟨p,0,none⟩)|none=> .pointer none) w2:=fun j hj=>by
      have:=h5.look (j:Int) (by unfold encI I64;dsimp only;omega) (t:=130) (e:=142) Tryz.underlying130 (z:=.pointer none) (by kernel_rfl) false;cases hz:thm T tp j<;>rw [hz] at this<;>exact this
     have HLJ:=lH hlj;have hkk:=i3.look (ba last) (show (ba last).size≤maxLen by rw [ba_size];have:=(okName_no last HL.out).2.2;unfold maxLen;omega) (t:=139) (e:=3) Tryz.underlying139 (z:=.int .i64 0) (by kernel_rfl) true;rw [show kidm T at_ (ba last)=none by simp [kidm,ba_list,HK.out]] at hkk;have hl':(Instr.lookup 130 (.map (some mb)) (.int .i64 at_) false).run Tryz.prog w2=.ok (.pointer (some ⟨tp at_,0,none⟩)) w2:=hl;have hkk':(Instr.lookup 139 (.map (some ib)) (.string (ba last)) true).run Tryz.prog w2=.ok (.tuple #[.int .i64 0,.bool false]) w2:=hkk;have H3:=lH h3;have H5:=lH h5;have H6:=lH h6;have I2:=lH i2;have I3:=lH i3;clear hl hkk h3 h5 h6 i2 i3 hlj;go_wp2_with fail;go_loopw [13] (fun a wr=>∃j:Nat,a=.int .i64 j∧2≤j∧j≤free T∧wr=w2) (fun a _=>free T - (intOf a).toNat)
     case atStart=>exact ⟨2,rfl,Nat.le_refl _,HFR.out.1,rfl⟩
     case round=>
      obtain ⟨j,rfl,hj2,hjf,rfl⟩:=hrel;have hf128:=HFR.out.2.1;have hlj:=HLJ.out j (by omega);by_cases hlt:j<free T
      ·obtain ⟨x,hx⟩:=Option.ne_none_iff_exists'.1 (HFR.out.2.2.2 j hj2 hlt);rw [show thm T tp (j:Int)=some (tp j) by simp [thm,hx]] at hlj;dsimp only at hlj;clear hx;go_wp2_with fail;go_roundw
       case rel=>exact ⟨j+1,by go_num,by omega,by omega,trivial⟩
       case measure=>simp [intOf];omega
      ·obtain rfl:j=free T:=by omega
       rw [show thm T tp ((free T:Nat):Int)=none by simp [thm,HFR.out.2.2.1]] at hlj;dsimp only at hlj;generalize hfr:free T=fr at*;have hfr2:2≤fr:=(by omega)
       have HA2:Hid (Adds T fr at_ last):=lH HAA.out;have fa:Fr No wr (wr.alloc (.cells #[.int .i64 at_,.string (ba last),.bool false,.map none] 141)):=(Fr.refl wr).alloc _;have hne:mb≠ib:=by
        rintro rfl;omega
       have hnai:(at_:Int)≠(fr:Int):=(by have:=HA2.out.ne;omega)
       have e1:thm T tp (fr:Int)=none:=(by simp [thm,HA2.out.new])
       have e2:kidm T at_ (ba last)=none:=(by simp [kidm,ba_list,HK.out])
       have e3:thm T tp (at_:Int)=some (tp at_):=(by simp [thm,HY.out])
       cases b with
       | false=>
        have HPUT:=lH (gput_ t mb (tp at_) ib wr.heap.size (things T) (kidN T at_) at_ fr last (thm T tp) (kidm T at_) (wr.alloc (.cells #[.int .i64 at_,.string (ba last),.bool false,.map none] 141))
         (fa.block_of H3.out id) (H5.out.fr fa id) (by unfold I64;omega) (by unfold I64;omega) (by omega) hkn hnai e3 (fa.block_of I2.out id) rfl (I3.out.fr fa id) hne (new_at wr _) rfl HL.out)
        clear fa hne hnai hfr;go_wp2_with fail;refine HPUT.out.mono ?_;rintro e w5 ⟨rfl,f5,m1,m2⟩;rw [e1] at m1;rw [e2] at m2;have hg:=TreeAt.grow (b:=false) (jb:=0) HA2.out hf2 h2 H3.out h4 H5.out H6.out HY.out HYD.out i1 I2.out (((Fr.refl (S:=No) wr).alloc _).of_no.trans f5 (fun _ _ e=>e)) m1 m2 (Nat.le_refl _) (by simp)
         (show _=_ from f5.block_of (new_at wr _) (by
           have:=H5.out.lt;have:=I3.out.lt;omega)) (by simp) (by have:=f5.size;simp at this;omega)
        clear m1 m2 e1 e2 e3 c0 c3 hlj hl' hkk';go_wp2_with fail;refine HQ.out fr _ _ HV.out rfl ?_;rw [HMM.out];exact ⟨_,(Step.no HF.out f2).trans (hg.1.mono (D:=treeC K) (fun c hc=>by
         rcases hc with rfl|rfl
         ·exact .inr (.inl rfl)
         ·exact .inr (.inr (by omega)))) (fun _ e=>e),hg.2⟩
       | true=>
        have fb:Fr No wr ((wr.alloc (.cells #[.int .i64 at_,.string (ba last),.bool false,.map none] 141)).alloc (.map #[] 0)):=fa.alloc _;have fc:Fr No wr (((wr.alloc (.cells #[.int .i64 at_,.string (ba last),.bool false,.map none] 141)).alloc (.map #[] 0)).alloc (.cells #[.int .i64 at_,.string (ba last),.bool true,.map (some (wr.heap.size+1))] 141)):=fb.alloc _;have kx:(((wr.alloc (.cells #[.int .i64 at_,.string (ba last),.bool false,.map none] 141)).alloc (.map #[] 0)).alloc (.cells #[.int .i64 at_,.string (ba last),.bool true,.map (some (wr.heap.size+1))] 141)).heap[wr.heap.size+1+1]? =some (.cells #[.int .i64 at_,.string (ba last),.bool true,.map (some (wr.heap.size+1))] 141 (0,0)):=by
         simpa using new_at ((wr.alloc (.cells #[.int .i64 at_,.string (ba last),.bool false,.map none] 141)).alloc (.map #[] 0)) (.cells #[.int .i64 at_,.string (ba last),.bool true,.map (some (wr.heap.size+1))] 141)
        have km:MapAt encS (((wr.alloc (.cells #[.int .i64 at_,.string (ba last),.bool false,.map none] 141)).alloc (.map #[] 0)).alloc (.cells #[.int .i64 at_,.string (ba last),.bool true,.map (some (wr.heap.size+1))] 141)) (wr.heap.size+1) 0 (fun _=>none):=by
         have h1:=MapAt.made encS (wr.alloc (.cells #[.int .i64 at_,.string (ba last),.bool false,.map none] 141));rw [show (wr.alloc (.cells #[.int .i64 at_,.string (ba last),.bool false,.map none] 141)).heap.size=wr.heap.size+1 by simp] at h1;exact h1.fr ((Fr.refl (S:=No) _).alloc _) id
        have HPUT:=lH (gput_ t mb (tp at_) ib (wr.heap.size+1+1) (things T) (kidN T at_) at_ fr last (thm T tp) (kidm T at_) _
         (fc.block_of H3.out id) (H5.out.fr fc id) (by unfold I64;omega) (by unfold I64;omega) (by omega) hkn hnai e3 (fc.block_of I2.out id) rfl (I3.out.fr fc id) hne kx rfl HL.out)
        have hsz:=(((Fr.refl (S:=No) wr).alloc (.cells #[.int .i64 at_,.string (ba last),.bool false,.map none] 141)).alloc (.map #[] 0)).size;have KX:=lH kx;have KM:=lH km;have FC:=lH fc;have hszc:Hid ((((wr.alloc (.cells #[.int .i64 at_,.string (ba last),.bool false,.map none] 141)).alloc (.map #[] 0)).alloc (.cells #[.int .i64 at_,.string (ba last),.bool true,.map (some (wr.heap.size+1))] 141)).heap.size=wr.heap.size+1+1+1):=lH (by simp);clear fa fb fc kx km hnai hfr hsz;go_wp2_with fail;refine (directory2_ _ _ _).mono ?_;rintro e w4 ⟨rfl,rfl⟩;rw [show (wr.alloc (.cells #[.int .i64 at_,.string (ba last),.bool false,.map none] 141)).heap.size=wr.heap.size+1 by simp];go_wp2_with fail;refine HPUT.out.mono ?_;rintro e w5 ⟨rfl,f5,m1,m2⟩;rw [e1] at m1;rw [e2] at m2;have hmb:=H5.out.lt;have hib:=I3.out.lt;have hs5:=f5.size;rw [hszc.out] at hs5;have hg:=TreeAt.grow (b:=true) (jb:=wr.heap.size+1) HA2.out hf2 h2 H3.out h4 H5.out H6.out HY.out HYD.out i1 I2.out (FC.out.of_no.trans f5 (fun _ _ e=>e)) m1 m2 (p:=wr.heap.size+1+1) (by omega) (fun _=>by omega)
         (show _∧_∧_ from ⟨f5.block_of KX.out (by omega),KM.out.fr f5 (by omega),by omega⟩) (fun _=>by omega) (by omega)
        clear m1 m2 e1 e2 e3 c0 c3 hlj hl' hkk' hne;go_wp2_with fail;refine HQ.out fr _ _ HV.out rfl ?_;rw [HMM.out];exact ⟨_,(Step.no HF.out f2).trans (hg.1.mono (D:=treeC K) (fun c hc=>by
         rcases hc with rfl|rfl
         ·exact .inr (.inl rfl)
         ·exact .inr (.inr (by omega)))) (fun _ e=>e),hg.2⟩
  ·have HV:Hid (makeOf T l=(er,0)):=lH (by rw [hm,if_pos he]);have HN:=lH he;have q2:(er==0)=false:=(by simpa using he)
   clear he hm hpo ht;go_enter Tryz.func131,Tryz.ntmps131;go_wp2_with fail;refine (gtmade_ _ o K t T HH.out).mono ?_;rintro e w1 ⟨rfl,rfl⟩;go_wp2_with fail;refine HP.out.mono ?_;rintro e w2 ⟨rfl,f2⟩;go_wp2_with fail;exact HR.out er HN.out HV.out _ _ rfl f2
def shrunk (T:Tree) (i:Nat):Tree:=upd T i none
structure Subs (T:Tree) (i:Nat) (x:Node):Prop where
 ok:TreeOk T
 is:T i=some x
 ne:i≠1
 bare:x.dir=true→kidN T i=0
section
variable {T:Tree} {i:Nat} {x:Node}
theorem Subs.up (h:Subs T i x) {k:Nat} {z:Node} (hk:T k=some z):z.up≠i:=by
 have hl:=h.ok.lt h.is;intro e;by_cases h1:k=1
 ·subst h1;rw [h.ok.root] at hk;cases hk;dsimp only at e;omega
 ·obtain ⟨y,hy,hd⟩:=h.ok.up k z hk h1;rw [e,h.is] at hy;cases hy;have h0:=List.countP_eq_zero.1 (h.bare hd) k (List.mem_range.2 (by have:=h.ok.lt hk;omega));simp [hk,e] at h0
theorem Subs.shrunk_ok (h:Subs T i x):TreeOk (shrunk T i) where
 root:=by rw [shrunk,upd_other _ _ (Ne.symm h.ne)];exact h.ok.root
 zero:=by rw [shrunk,upd_other _ _ (by have:=h.ok.lt h.is;omega)];exact h.ok.zero
 top k hk:=by rw [shrunk,upd_other _ _ (by have:=h.ok.lt h.is;omega)];exact h.ok.top k hk
 up k z hk h1:=by
  by_cases e:k=i
  ·subst e;rw [shrunk,upd_same] at hk;cases hk
  ·rw [shrunk,upd_other _ _ e] at hk;obtain ⟨y,hy,hd⟩:=h.ok.up k z hk h1;exact ⟨y,by rw [shrunk,upd_other _ _ (h.up hk)];exact hy,hd⟩
 name k z hk h1:=by
  by_cases e:k=i
  ·subst e;rw [shrunk,upd_same] at hk;cases hk
  ·rw [shrunk,upd_other _ _ e] at hk;exact h.ok.name k z hk h1
 one j k y z hj hk h1 h2:=by
  by_cases ej:j=i
  ·subst ej;rw [shrunk,upd_same] at hj;cases hj
  ·by_cases ek:k=i
   ·subst ek;rw [shrunk,upd_same] at hk;cases hk
   ·rw [shrunk,upd_other _ _ ej] at hj;rw [shrunk,upd_other _ _ ek] at hk;exact h.ok.one j k y z hj hk h1 h2
theorem shrunk_kid (h:Subs T i x) (e:Nat) (z:List UInt8):kid (shrunk T i) e z=if e=x.up∧z=x.name then none else kid T e z:=by
 apply Option.ext;intro k;rw [kid_iff h.shrunk_ok];by_cases hc:e=x.up∧z=x.name
 ·obtain ⟨rfl,rfl⟩:=hc;rw [if_pos ⟨rfl,rfl⟩];constructor
  ·rintro ⟨b',hb⟩;by_cases ek:k=i
   ·subst ek;rw [shrunk,upd_same] at hb;cases hb
   ·rw [shrunk,upd_other _ _ ek] at hb;exact absurd (h.ok.one k i _ x hb h.is rfl rfl) ek
  ·intro hk;cases hk
 ·rw [if_neg hc,kid_iff h.ok];constructor
  ·rintro ⟨b',hb⟩;by_cases ek:k=i
   ·subst ek;rw [shrunk,upd_same] at hb;cases hb
   ·rw [shrunk,upd_other _ _ ek] at hb;exact ⟨b',hb⟩
  ·rintro ⟨b',hb⟩;refine ⟨b',?_⟩;rw [shrunk,upd_other]
   ·exact hb
   ·rintro rfl;rw [h.is] at hb;cases hb;exact hc ⟨rfl,rfl⟩
theorem shrunk_kidN (h:Subs T i x) (e:Nat):kidN T e=if e=x.up then kidN (shrunk T i) e+1 else kidN (shrunk T i) e:=by
 by_cases hc:e=x.up
 ·subst hc;rw [if_pos rfl];refine countP_up _ _ i 129 (by have:=h.ok.lt h.is;omega) (fun k hk=> ?_) ?_ ?_
  ·simp only [shrunk,upd_other _ _ hk]
  ·simp [shrunk,upd_same]
  ·simp [h.is]
 ·rw [if_neg hc];refine countP_same _ _ _ (fun k _=> ?_);by_cases ek:k=i
  ·subst ek;simp [shrunk,upd_same,h.is,Ne.symm hc]
  ·simp only [shrunk,upd_other _ _ ek]
theorem shrunk_things (h:Subs T i x):things T=things (shrunk T i)+1:=by
 refine countP_up _ _ i 129 (by have:=h.ok.lt h.is;omega) (fun k hk=> ?_) ?_ ?_
 ·simp only [shrunk,upd_other _ _ hk]
 ·simp [shrunk,upd_same]
 ·simp [h.is]
theorem thm_shrunk (T:Tree) (i:Nat) (tp:Nat→Nat):thm (shrunk T i) tp=fun z=>if z=(i:Int) then none else thm T tp z:=by
 funext z;by_cases hz:z=(i:Int)
 ·subst hz;simp [thm,shrunk,upd_same]
 ·rw [if_neg hz];unfold thm;by_cases h0:0≤z
  ·rw [if_pos h0,if_pos h0,shrunk,upd_other];omega
  ·rw [if_neg h0,if_neg h0]
theorem kidm_shrunk (h:Subs T i x):kidm (shrunk T i) x.up=fun z=>if z=ba x.name then none else kidm T x.up z:=by
 funext z;unfold kidm;rw [shrunk_kid h];by_cases hz:z=ba x.name
 ·subst hz;simp [ba_list]
 ·rw [if_neg hz,if_neg];rintro ⟨_,e⟩;exact hz (by rw [← e,ba_of])
end
theorem TreeAt.shrink {w w':World} {o:Nat→Nat} {K t mb i ib:Nat} {tp:Nat→Nat} {T:Tree} {x y:Node} (h:Subs T i x) (hf:Fresh w o)
  (ot:o t=K+3) (kt:w.heap[t]? =some (.cells #[.map (some mb)] 132 (0,0))) (om:o mb=K+4) (hm:mb<w.heap.size) (hth:∀k x,T k=some x→ThingAt w o K k (tp k) x (kidN T k) (kidm T k))
  (hy:T x.up=some y) (hyd:y.dir=true) (oi:o ib=K+2000+x.up) (kd:w.heap[tp x.up]? =some (.cells #[.int .i64 y.up,.string (ba y.name),.bool true,.map (some ib)] 141 (0,0)))
  (f:Fr (fun j=>j=mb∨j=ib) w w') (M1:MapAt encI w' mb (things T - 1) (fun z=>if z=(i:Int) then none else thm T tp z)) (M2:MapAt encS w' ib (kidN T x.up - 1) (fun z=>if z=ba x.name then none else kidm T x.up z)):
  Step (fun c=>c=K+4∨c=K+2000+x.up) w o w' o∧TreeAt w' o K t (shrunk T i):=by
 have hs:Step (fun c=>c=K+4∨c=K+2000+x.up) w o w' o:=by
  refine ⟨f.mono (fun k _ e=> ?_),fun _ _=>rfl,fun k hk=>hf k (Nat.le_trans f.size hk)⟩;rcases e with rfl|rfl
  ·exact .inl om
  ·exact .inr oi
 refine ⟨hs,mb,tp,ot,hs.block kt (by rw [ot];omega),om,?_,fun k z hk=> ?_⟩
 ·rw [thm_shrunk,show things (shrunk T i)=things T - 1 by rw [shrunk_things h];rfl];exact M1
 ·by_cases ek:k=i
  ·subst ek;rw [shrunk,upd_same] at hk;cases hk
  ·rw [shrunk,upd_other _ _ ek] at hk;have hk1:=h.ok.lt hk;by_cases ed:k=x.up
   ·subst ed;rw [hy] at hk;cases hk;have h1:=(hth x.up y hy).1;have e1:kidN (shrunk T i) x.up=kidN T x.up - 1:=(by rw [shrunk_kidN h x.up,if_pos rfl];rfl)
    rw [e1,kidm_shrunk h];obtain ⟨up,name,dir⟩:=y;dsimp only at hyd;subst hyd;exact ⟨h1,ib,oi,hs.block kd (by rw [h1];omega),M2⟩
   ·have e1:kidN (shrunk T i) k=kidN T k:=by rw [shrunk_kidN h k,if_neg ed]
    have e2:kidm (shrunk T i) k=kidm T k:=by
     funext z;unfold kidm;rw [shrunk_kid h,if_neg (fun e=>ed e.1)]
    rw [e1,e2];exact (hth k z hk).step hs (by omega) (by omega)
def removeOf (T:Tree) (l:List UInt8) (b:Bool):Int×Nat:=
 if (lookOf T l).1≠0 then ((lookOf T l).1,0) else if (lookOf T l).2.1=1 then (8,0) else if b=true∧(lookOf T l).2.2=false then (10,0) else if b=false∧(lookOf T l).2.2=true then (9,0)
 else if (lookOf T l).2.2=true∧0<kidN T (lookOf T l).2.1 then (11,0) else (0,(lookOf T l).2.1)
def removedT (T:Tree) (l:List UInt8) (b:Bool):Tree:=if (removeOf T l b).1=0 then shrunk T (removeOf T l b).2 else T
theorem look_ok {T:Tree} (ht:TreeOk T) {l:List UInt8} (h:(lookOf T l).1=0):∃x,T (lookOf T l).2.1=some x∧x.dir=(lookOf T l).2.2:=by
 unfold lookOf at h ⊢;split at h
 ·cases h
 ·exact seen_ok ht h
def GRemove (w:World) (o:Nat→Nat) (K t:Nat) (T:Tree) (l:List UInt8) (b:Bool) (e:Ending) (w':World):Prop:=
 e=.returned (.tuple #[.int .i64 (removeOf T l b).2,.int .i64 (removeOf T l b).1])∧∃o',Step (treeC K) w o w' o'∧TreeAt w' o' K t (removedT T l b)
theorem gremove_ (o:Nat→Nat) (K t:Nat) (T:Tree) (l:List UInt8) (b:Bool) (w:World) (hl:l.length≤1000000) (h:TreeAt w o K t T) (ht:TreeOk T) (hf:Fresh w o):
  Calls Tryz.prog 134 #[.pointer (some ⟨t,0,none⟩),.string (ba l),.bool b] w (GRemove w o K t T l b):=by
 have HH:=lH h;have HT:=lH ht;have HF:=lH hf;have HP:=lH (glook_ o K t T l w hl h ht hf);have hm:removeOf T l b=if (lookOf T l).1≠0 then ((lookOf T l).1,0) else if (lookOf T l).2.1=1 then (8,0) else if b=true∧(lookOf T l).2.2=false then (10,0) else if b=false∧(lookOf T l).2.2=true then (9,0)
  else if (lookOf T l).2.2=true∧0<kidN T (lookOf T l).2.1 then (11,0) else (0,(lookOf T l).2.1):=rfl
 have hlk:=look_ok (l:=l) ht;generalize lookOf T l=P at*;obtain ⟨er,k,is⟩:=P;have HR:Hid (∀er',er'≠0→removeOf T l b=(er',0)→∀e w',e=.returned (.tuple #[.int .i64 0,.int .i64 er'])→Fr No w w'→GRemove w o K t T l b e w'):=lH (fun er' hne hm e w' he f=>⟨by rw [he,hm];rfl,o,Step.no hf f,by
  have:removedT T l b=T:=by unfold removedT;rw [hm,if_neg hne]
  rw [this];exact h.no ht hf f⟩)
 have HQ:Hid (∀i e w',removeOf T l b=(0,i)→e=.returned (.tuple #[.int .i64 i,.int .i64 0])→(∃o',Step (treeC K) w o w' o'∧TreeAt w' o' K t (removedT T l b))→GRemove w o K t T l b e w'):=lH (fun i e w' hm he hx=>⟨by rw [he,hm],hx⟩);generalize hQ:GRemove w o K t T l b=Q at*;clear hQ h hl hf;dsimp only at hm hlk HP;by_cases he:er=0
 ·subst he;obtain ⟨x,hx,hxd⟩:=hlk rfl;rw [if_neg (by simp)] at hm;by_cases hk1:k=1
  ·subst hk1;have HV:Hid (removeOf T l b=(8,0)):=lH (by rw [hm,if_pos rfl]);clear hm hlk hx hxd ht;go_enter Tryz.func134,Tryz.ntmps134;go_wp2_with fail;refine HP.out.mono ?_;rintro e w2 ⟨rfl,f2⟩;go_wp2_with fail;exact HR.out 8 (by decide) HV.out _ _ rfl f2
  ·rw [if_neg hk1] at hm;have q1:((k:Int)==1)=false:=(by rw [beq_eq_false_iff_ne];omega)
   by_cases hbi:b=is
   ·subst hbi;rw [if_neg (by rintro ⟨h1,h2⟩;rw [h1] at h2;cases h2),if_neg (by rintro ⟨h1,h2⟩;rw [h1] at h2;cases h2)] at hm;by_cases hkn:b=true∧0<kidN T k
    ·obtain ⟨rfl,hkn⟩:=hkn;have HV:Hid (removeOf T l true=(11,0)):=lH (by rw [hm,if_pos ⟨rfl,hkn⟩]);have q2:(0:Int)<(kidN T k:Int):=(by omega)
     have HX:=lH hx;have hk2:=ht.lt hx;clear hm hlk hx ht hkn;go_enter Tryz.func134,Tryz.ntmps134;go_wp2_with fail;refine HP.out.mono ?_;rintro e w2 ⟨rfl,f2⟩;obtain ⟨mb,tp,h2,h3,h4,h5,h6⟩:=HH.out.no HT.out HF.out f2;obtain ⟨ib,i1,i2,i3,i4⟩:=TreeAt.dir (h6 k x HX.out) hxd;have hlen:=fun ty=>i3.len (t:=139) (e:=3) Tryz.underlying139 ty;have c0:w2.cell? ⟨t,0,none⟩=some (.map (some mb)):=(by rw [cell_at h3];rfl)
     have c3:w2.cell? ⟨tp k,3,none⟩=some (.map (some ib)):=(by rw [cell_at i2];rfl)
     have hl:=h5.look (k:Int) (by unfold encI I64;dsimp only;omega) (t:=130) (e:=142) Tryz.underlying130 (z:=.pointer none) (by kernel_rfl) false;rw [show thm T tp (k:Int)=some (tp k) by simp [thm,HX.out]] at hl;have hl':(Instr.lookup 130 (.map (some mb)) (.int .i64 k) false).run Tryz.prog w2=.ok (.pointer (some ⟨tp k,0,none⟩)) w2:=hl;clear h2 h3 h4 h5 h6 i1 i2 i3 i4 hl hxd;go_wp2_with fail;exact HR.out 11 (by decide) HV.out _ _ rfl f2
    ·rw [if_neg hkn] at hm;have hsub:Subs T k x:=⟨ht,hx,hk1,fun h=>by
      have:b=true:=(by rw [← hxd];exact h)
      rcases Nat.eq_zero_or_pos (kidN T k) with h0|h0
      ·exact h0
      ·exact absurd ⟨this,h0⟩ hkn⟩
     obtain ⟨y,hy,hyd⟩:=ht.up k x hx hk1;have HV:=lH hm;have HX:=lH hx;have HY:=lH hy;have HYD:=lH hyd;have HS:=lH hsub;have hk2:=ht.lt hx;have hu2:=ht.lt hy;have hnm:=ht.name k x hx hk1;have HNM:=lH hnm;have hth:things T≤129:=Nat.le_trans List.countP_le_length (by rw [List.length_range];omega);have HTM:Hid (removedT T l b=shrunk T k):=lH (by unfold removedT;rw [hm];rfl);have HK0:Hid (b=true→kidN T k=0):=lH (fun e=>by
      rcases Nat.eq_zero_or_pos (kidN T k) with h0|h0
      ·exact h0
      ·exact absurd ⟨e,h0⟩ hkn)
     have HXD:=lH hxd;clear hm hlk hx hy hyd hsub hnm hkn ht hxd;go_enter Tryz.func134,Tryz.ntmps134;cases b with
     | false=>
      go_wp2_with fail;refine HP.out.mono ?_;rintro e w2 ⟨rfl,f2⟩;obtain ⟨mb,tp,h2,h3,h4,h5,h6⟩:=HH.out.no HT.out HF.out f2;have hkc:w2.heap[tp k]? =some (.cells #[.int .i64 x.up,.string (ba x.name),.bool false,.map none] 141 (0,0)):=by
       obtain ⟨up,name,dir⟩:=x;have e:dir=false:=HXD.out;subst e;exact (h6 k _ HX.out).2
      obtain ⟨ib,i1,i2,i3,i4⟩:=TreeAt.dir (h6 x.up y HY.out) HYD.out;have c0:w2.cell? ⟨t,0,none⟩=some (.map (some mb)):=(by rw [cell_at h3];rfl)
      have c3:w2.cell? ⟨tp k,3,none⟩=some (.map none):=(by rw [cell_at hkc];rfl)
      have c1:w2.cell? ⟨tp k,1,none⟩=some (.string (ba x.name)):=(by rw [cell_at hkc];rfl)
      have c2:w2.cell? ⟨tp k,0,none⟩=some (.int .i64 x.up):=(by rw [cell_at hkc];rfl)
      have c4:w2.cell? ⟨tp x.up,3,none⟩=some (.map (some ib)):=(by rw [cell_at i2];rfl)
      have hl:=h5.look (k:Int) (by unfold encI I64;dsimp only;omega) (t:=130) (e:=142) Tryz.underlying130 (z:=.pointer none) (by kernel_rfl) false;rw [show thm T tp (k:Int)=some (tp k) by simp [thm,HX.out]] at hl;have hl':(Instr.lookup 130 (.map (some mb)) (.int .i64 k) false).run Tryz.prog w2=.ok (.pointer (some ⟨tp k,0,none⟩)) w2:=hl;have hm:=(h5.fr (Fr.refl (S:=No) w2).drew id).look (x.up:Int) (by unfold encI I64;dsimp only;omega) (t:=130) (e:=142) Tryz.underlying130 (z:=.pointer none) (by kernel_rfl) false;rw [show thm T tp (x.up:Int)=some (tp x.up) by simp [thm,HY.out]] at hm;have hm':(Instr.lookup 130 (.map (some mb)) (.int .i64 x.up) false).run Tryz.prog w2.drew=.ok (.pointer (some ⟨tp x.up,0,none⟩)) w2.drew:=hm;obtain ⟨w4,hd1,md1,fd1⟩:=(i3.fr (Fr.refl (S:=No) w2).drew id).del (ba x.name) (show (ba x.name).size≤maxLen by rw [ba_size];have:=(okName_no _ HNM.out).2.2;unfold maxLen;omega) (t:=139) (e:=3) Tryz.underlying139 0;have g1:Fr (· =ib) w2 w4:=(Fr.refl w2).drew.trans fd1 (fun _ _ e=>e);have hne:mb≠ib:=by
       rintro rfl;omega
      obtain ⟨w5,hd2,md2,fd2⟩:=(h5.fr g1 hne).del (k:Int) (by unfold encI I64;dsimp only;omega) (t:=130) (e:=142) Tryz.underlying130 0;have e1:kidm T x.up (ba x.name)=some (k:Int):=by
       have:=kid_of HT.out HX.out rfl rfl;simp [kidm,ba_list,this]
      have e2:thm T tp (k:Int)=some (tp k):=(by simp [thm,HX.out])
      rw [e1] at md1;rw [e2] at md2;have md3:=md1.fr fd2 (Ne.symm hne);have c5:w4.cell? ⟨t,0,none⟩=some (.map (some mb)):=(by rw [cell_at (g1.block_of h3 (i3.ne h3))];rfl)
      have hg:=TreeAt.shrink HS.out (fun k hk=>HF.out k (Nat.le_trans f2.size hk)) h2 h3 h4 h5.lt h6 HY.out HYD.out i1 i2 ((g1.mono (fun _ _ e=> .inr e)).trans (fd2.mono (fun _ _ e=> .inl e)) (fun _ _ e=>e)) md2 md3;have HG:=lH hg;have hd1':(Builtin.delete_ #[139,9] 0 #[.map (some ib),.string (ba x.name)]).run Tryz.prog w2.drew=.ok (.tuple #[]) w4:=hd1;have hd2':(Builtin.delete_ #[130,3] 0 #[.map (some mb),.int .i64 k]).run Tryz.prog w4=.ok (.tuple #[]) w5:=hd2;clear hl hm h3 h5 h6 i1 i2 i3 i4 hkc h2 h4 hg md1 md2 md3 hd1 hd2 fd1 fd2 g1 hne e1 e2;go_wp2_with fail
      go_region
      all_goals
       go_wp2_with fail;refine HQ.out k _ _ HV.out rfl ?_;rw [HTM.out];exact ⟨_,(Step.no HF.out f2).trans (HG.out.1.mono (D:=treeC K) (fun c hc=>by
        rcases hc with rfl|rfl
        ·exact .inr (.inl rfl)
        ·exact .inr (.inr (by omega)))) (fun _ e=>e),HG.out.2⟩
     | true=>
      go_wp2_with fail;refine HP.out.mono ?_;rintro e w2 ⟨rfl,f2⟩;obtain ⟨mb,tp,h2,h3,h4,h5,h6⟩:=HH.out.no HT.out HF.out f2;obtain ⟨jb,j1,hkc,j3,j4⟩:=TreeAt.dir (h6 k x HX.out) HXD.out;have hlen:=fun ty=>j3.len (t:=139) (e:=3) Tryz.underlying139 ty;rw [HK0.out trivial] at hlen;obtain ⟨ib,i1,i2,i3,i4⟩:=TreeAt.dir (h6 x.up y HY.out) HYD.out;have c0:w2.cell? ⟨t,0,none⟩=some (.map (some mb)):=(by rw [cell_at h3];rfl)
      have c3:w2.cell? ⟨tp k,3,none⟩=some (.map (some jb)):=(by rw [cell_at hkc];rfl)
      have c1:w2.cell? ⟨tp k,1,none⟩=some (.string (ba x.name)):=(by rw [cell_at hkc];rfl)
      have c2:w2.cell? ⟨tp k,0,none⟩=some (.int .i64 x.up):=(by rw [cell_at hkc];rfl)
      have c4:w2.cell? ⟨tp x.up,3,none⟩=some (.map (some ib)):=(by rw [cell_at i2];rfl)
      have hl:=h5.look (k:Int) (by unfold encI I64;dsimp only;omega) (t:=130) (e:=142) Tryz.underlying130 (z:=.pointer none) (by kernel_rfl) false;rw [show thm T tp (k:Int)=some (tp k) by simp [thm,HX.out]] at hl;have hl':(Instr.lookup 130 (.map (some mb)) (.int .i64 k) false).run Tryz.prog w2=.ok (.pointer (some ⟨tp k,0,none⟩)) w2:=hl;have hm:=(h5.fr (Fr.refl (S:=No) w2).drew id).look (x.up:Int) (by unfold encI I64;dsimp only;omega) (t:=130) (e:=142) Tryz.underlying130 (z:=.pointer none) (by kernel_rfl) false;rw [show thm T tp (x.up:Int)=some (tp x.up) by simp [thm,HY.out]] at hm;have hm':(Instr.lookup 130 (.map (some mb)) (.int .i64 x.up) false).run Tryz.prog w2.drew=.ok (.pointer (some ⟨tp x.up,0,none⟩)) w2.drew:=hm;obtain ⟨w4,hd1,md1,fd1⟩:=(i3.fr (Fr.refl (S:=No) w2).drew id).del (ba x.name) (show (ba x.name).size≤maxLen by rw [ba_size];have:=(okName_no _ HNM.out).2.2;unfold maxLen;omega) (t:=139) (e:=3) Tryz.underlying139 0;have g1:Fr (· =ib) w2 w4:=(Fr.refl w2).drew.trans fd1 (fun _ _ e=>e);have hne:mb≠ib:=by
       rintro rfl;omega
      obtain ⟨w5,hd2,md2,fd2⟩:=(h5.fr g1 hne).del (k:Int) (by unfold encI I64;dsimp only;omega) (t:=130) (e:=142) Tryz.underlying130 0;have e1:kidm T x.up (ba x.name)=some (k:Int):=by
       have:=kid_of HT.out HX.out rfl rfl;simp [kidm,ba_list,this]
      have e2:thm T tp (k:Int)=some (tp k):=(by simp [thm,HX.out])
      rw [e1] at md1;rw [e2] at md2;have md3:=md1.fr fd2 (Ne.symm hne);have c5:w4.cell? ⟨t,0,none⟩=some (.map (some mb)):=(by rw [cell_at (g1.block_of h3 (i3.ne h3))];rfl)
      have hg:=TreeAt.shrink HS.out (fun k hk=>HF.out k (Nat.le_trans f2.size hk)) h2 h3 h4 h5.lt h6 HY.out HYD.out i1 i2 ((g1.mono (fun _ _ e=> .inr e)).trans (fd2.mono (fun _ _ e=> .inl e)) (fun _ _ e=>e)) md2 md3;have HG:=lH hg;have hd1':(Builtin.delete_ #[139,9] 0 #[.map (some ib),.string (ba x.name)]).run Tryz.prog w2.drew=.ok (.tuple #[]) w4:=hd1;have hd2':(Builtin.delete_ #[130,3] 0 #[.map (some mb),.int .i64 k]).run Tryz.prog w4=.ok (.tuple #[]) w5:=hd2;clear j1 j3 j4 hl hm h3 h5 h6 i1 i2 i3 i4 hkc h2 h4 hg md1 md2 md3 hd1 hd2 fd1 fd2 g1 hne e1 e2;go_wp2_with fail
      go_region
      all_goals
       go_wp2_with fail;refine HQ.out k _ _ HV.out rfl ?_;rw [HTM.out];exact ⟨_,(Step.no HF.out f2).trans (HG.out.1.mono (D:=treeC K) (fun c hc=>by
        rcases hc with rfl|rfl
        ·exact .inr (.inl rfl)
        ·exact .inr (.inr (by omega)))) (fun _ e=>e),HG.out.2⟩
   ·have hV:∃er',er'≠0∧removeOf T l b=(er',0)∧er'=if b then 10 else 9:=by
     cases b<;>cases is
     ·exact absurd rfl hbi
     ·exact ⟨9,by decide,by rw [hm];rfl,rfl⟩
     ·exact ⟨10,by decide,by rw [hm];rfl,rfl⟩
     ·exact absurd rfl hbi
    have HV:=lH hV;clear hV hm hlk hx hxd ht;cases b<;>cases is
    ·exact absurd rfl hbi
    ·clear hbi;go_enter Tryz.func134,Tryz.ntmps134;go_wp2_with fail;refine HP.out.mono ?_;rintro e w2 ⟨rfl,f2⟩;go_wp2_with fail;obtain ⟨er',h1,h2,h3⟩:=HV.out;exact HR.out er' h1 h2 _ _ (by rw [h3];rfl) f2
    ·clear hbi;go_enter Tryz.func134,Tryz.ntmps134;go_wp2_with fail;refine HP.out.mono ?_;rintro e w2 ⟨rfl,f2⟩;go_wp2_with fail;obtain ⟨er',h1,h2,h3⟩:=HV.out;exact HR.out er' h1 h2 _ _ (by rw [h3];rfl) f2
    ·exact absurd rfl hbi
 ·have HV:Hid (removeOf T l b=(er,0)):=lH (by rw [hm,if_pos he]);have HN:=lH he;have q2:(er==0)=false:=by simpa using he
  clear he hm hlk ht;go_enter Tryz.func134,Tryz.ntmps134;go_wp2_with fail;refine HP.out.mono ?_;rintro e w2 ⟨rfl,f2⟩;go_wp2_with fail;exact HR.out er HN.out HV.out _ _ rfl f2
theorem walk_cons (T:Tree) (k:Nat) (p:List UInt8):(∃c:Int,c≠0∧∀r,walkOf T k (p::r)=(c,0))∨∃j,∀r,walkOf T k (p::r)=walkOf T j r:=by
 cases hk:T k with
 | none=>exact .inl ⟨14,by decide,fun r=>by simp [walkOf,hk]⟩
 | some x=>
  by_cases hd:x.dir=true
  ·cases hj:kid T k p with
   | none=>exact .inl ⟨6,by decide,fun r=>by simp [walkOf,hk,hd,hj]⟩
   | some j=>exact .inr ⟨j,fun r=>by simp [walkOf,hk,hd,hj]⟩
  ·exact .inl ⟨10,by decide,fun r=>by simp [walkOf,hk,hd]⟩
theorem walk_snoc {T:Tree} (ps:List (List UInt8)) (s:List UInt8) (k:Nat):walkOf T k (ps++ [s])=if (walkOf T k ps).1=0 then walkOf T (walkOf T k ps).2 [s] else walkOf T k ps:=by
 induction ps generalizing k with
 | nil=>rfl
 | cons p r ih=>
  rw [List.cons_append];rcases walk_cons T k p with ⟨c,hc,h⟩|⟨j,h⟩
  ·rw [h,h];simp only;rw [if_neg hc]
  ·rw [h,h,ih]
theorem walk_one {T:Tree} {d:Nat} {s:List UInt8} {k:Nat} (h:walkOf T d [s]=(0,k)):kid T d s=some k∧∃x,T d=some x∧x.dir=true:=by
 simp only [walkOf] at h;cases hd:T d with
 | none=>rw [hd] at h;cases h
 | some x=>
  rw [hd] at h;simp only at h;by_cases hx:x.dir=true
  ·rw [if_pos hx] at h;cases hj:kid T d s with
   | none=>rw [hj] at h;cases h
   | some j=>
    rw [hj] at h;simp only [Prod.mk.injEq,true_and] at h;subst h;exact ⟨rfl,x,rfl,hx⟩
  ·rw [if_neg hx] at h;cases h
theorem walk_last {T:Tree} {ps:List (List UInt8)} {s:List UInt8} {k:Nat} (h:walkOf T 1 (ps++ [s])=(0,k)):∃d,walkOf T 1 ps=(0,d)∧kid T d s=some k∧∃x,T d=some x∧x.dir=true:=by
 rw [walk_snoc] at h;by_cases h0:(walkOf T 1 ps).1=0
 ·rw [if_pos h0] at h;obtain ⟨h1,h2⟩:=walk_one h;refine ⟨(walkOf T 1 ps).2,?_,h1,h2⟩;rw [← h0]
 ·rw [if_neg h0] at h;rw [h] at h0;exact absurd rfl h0
theorem walk_unique {T:Tree} (ht:TreeOk T) (n:Nat) (ps qs:List (List UInt8)) (k:Nat) (hn:ps.length≤n) (hp:walkOf T 1 ps=(0,k)) (hq:walkOf T 1 qs=(0,k)):ps=qs:=by
 have hroot:∀(rs:List (List UInt8)) s,walkOf T 1 (rs++ [s])≠(0,1):=fun rs s h=>by
  obtain ⟨d,_,h2,x,hx,_⟩:=walk_last h;obtain ⟨b,hb⟩:=(kid_iff ht).1 h2;rw [ht.root] at hb;cases hb;rw [ht.zero] at hx;cases hx
 induction n generalizing ps qs k with
 | zero=>
  obtain rfl:=List.eq_nil_of_length_eq_zero (Nat.le_zero.1 hn);simp only [walkOf,Prod.mk.injEq,true_and] at hp;subst hp;rcases List.eq_nil_or_concat qs with rfl|⟨rs,s,rfl⟩
  ·rfl
  ·rw [List.concat_eq_append] at hq;exact absurd hq (hroot rs s)
 | succ n ih=>
  rcases List.eq_nil_or_concat ps with rfl|⟨rs,s,rfl⟩
  ·simp only [walkOf,Prod.mk.injEq,true_and] at hp;subst hp;rcases List.eq_nil_or_concat qs with rfl|⟨rs,s,rfl⟩
   ·rfl
   ·rw [List.concat_eq_append] at hq;exact absurd hq (hroot rs s)
  ·rw [List.concat_eq_append] at hp hn ⊢;obtain ⟨d,h1,h2,_⟩:=walk_last hp;rcases List.eq_nil_or_concat qs with rfl|⟨rs',s',rfl⟩
   ·simp only [walkOf,Prod.mk.injEq,true_and] at hq;subst hq;exact absurd hp (hroot rs s)
   ·rw [List.concat_eq_append] at hq ⊢;obtain ⟨d',h1',h2',_⟩:=walk_last hq;obtain ⟨b,hb⟩:=(kid_iff ht).1 h2;obtain ⟨b',hb'⟩:=(kid_iff ht).1 h2';rw [hb] at hb';cases hb';rw [ih rs rs' d (by simp at hn;omega) h1 h1']
def moved (T:Tree) (i d:Nat) (s:List UInt8) (b:Bool):Tree:=upd T i (some ⟨d,s,b⟩)
structure Moves (T:Tree) (i:Nat) (x:Node) (d:Nat) (s:List UInt8):Prop where
 ok:TreeOk T
 is:T i=some x
 ne:i≠1
 une:x.up≠i
 dir:∃y,T d=some y∧y.dir=true
 dne:d≠i
 name:okName s=true
 none:kid T d s=none
section
variable {T:Tree} {i d:Nat} {s:List UInt8} {x:Node}
theorem moved_ok (h:Moves T i x d s):TreeOk (moved T i d s x.dir) where
 root:=by rw [moved,upd_other _ _ (Ne.symm h.ne)];exact h.ok.root
 zero:=by rw [moved,upd_other _ _ (by have:=h.ok.lt h.is;omega)];exact h.ok.zero
 top k hk:=by rw [moved,upd_other _ _ (by have:=h.ok.lt h.is;omega)];exact h.ok.top k hk
 up k z hk h1:=by
  by_cases e:k=i
  ·subst e;rw [moved,upd_same] at hk;cases hk;obtain ⟨y,hy,hd⟩:=h.dir;exact ⟨y,by rw [moved,upd_other _ _ h.dne];exact hy,hd⟩
  ·rw [moved,upd_other _ _ e] at hk;obtain ⟨y,hy,hd⟩:=h.ok.up k z hk h1;by_cases e2:z.up=i
   ·rw [e2,h.is] at hy;cases hy;exact ⟨⟨d,s,x.dir⟩,by rw [e2,moved,upd_same],hd⟩
   ·exact ⟨y,by rw [moved,upd_other _ _ e2];exact hy,hd⟩
 name k z hk h1:=by
  by_cases e:k=i
  ·subst e;rw [moved,upd_same] at hk;cases hk;exact h.name
  ·rw [moved,upd_other _ _ e] at hk;exact h.ok.name k z hk h1
 one j k y z hj hk h1 h2:=by
  have hno:∀k z,T k=some z→¬(z.up=d∧z.name=s):=fun k z hz=>kid_none h.none k (by have:=h.ok.lt hz;omega) z hz;by_cases ej:j=i<;>by_cases ek:k=i
  ·rw [ej,ek]
  ·subst ej;rw [moved,upd_same] at hj;rw [moved,upd_other _ _ ek] at hk;cases hj;exact absurd ⟨h1.symm,h2.symm⟩ (hno k z hk)
  ·subst ek;rw [moved,upd_same] at hk;rw [moved,upd_other _ _ ej] at hj;cases hk;exact absurd ⟨h1,h2⟩ (hno j y hj)
  ·rw [moved,upd_other _ _ ej] at hj;rw [moved,upd_other _ _ ek] at hk;exact h.ok.one j k y z hj hk h1 h2
theorem moved_kid (h:Moves T i x d s) (e:Nat) (z:List UInt8):kid (moved T i d s x.dir) e z=if e=d∧z=s then some i else if e=x.up∧z=x.name then none else kid T e z:=by
 apply Option.ext;intro k;rw [kid_iff (moved_ok h)];by_cases hc:e=d∧z=s
 ·obtain ⟨rfl,rfl⟩:=hc;rw [if_pos ⟨rfl,rfl⟩];constructor
  ·rintro ⟨b',hb⟩;by_cases ek:k=i
   ·rw [ek]
   ·rw [moved,upd_other _ _ ek] at hb;have:=(kid_iff h.ok).2 ⟨b',hb⟩;rw [h.none] at this;cases this
  ·intro hk;cases hk;exact ⟨x.dir,upd_same _ _ _⟩
 ·rw [if_neg hc];by_cases hu:e=x.up∧z=x.name
  ·obtain ⟨rfl,rfl⟩:=hu;rw [if_pos ⟨rfl,rfl⟩];constructor
   ·rintro ⟨b',hb⟩;by_cases ek:k=i
    ·subst ek;rw [moved,upd_same] at hb;cases hb;exact absurd ⟨rfl,rfl⟩ hc
    ·rw [moved,upd_other _ _ ek] at hb;exact absurd (h.ok.one k i _ x hb h.is rfl rfl) ek
   ·intro hk;cases hk
  ·rw [if_neg hu,kid_iff h.ok];constructor
   ·rintro ⟨b',hb⟩;by_cases ek:k=i
    ·subst ek;rw [moved,upd_same] at hb;cases hb;exact absurd ⟨rfl,rfl⟩ hc
    ·rw [moved,upd_other _ _ ek] at hb;exact ⟨b',hb⟩
   ·rintro ⟨b',hb⟩;refine ⟨b',?_⟩;rw [moved,upd_other]
    ·exact hb
    ·rintro rfl;rw [h.is] at hb;cases hb;exact hu ⟨rfl,rfl⟩
theorem upd_kidN (T:Tree) (i:Nat) (hi:i<129) (z:Node) (e:Nat):kidN (upd T i (some z)) e=(if e=z.up then 1 else 0)+kidN (shrunk T i) e:=by
 by_cases hc:e=z.up
 ·subst hc;rw [if_pos rfl,Nat.add_comm];refine countP_up _ _ i 129 hi (fun k hk=> ?_) ?_ ?_
  ·simp only [shrunk,upd_other _ _ hk]
  ·simp [shrunk,upd_same]
  ·simp [upd_same]
 ·rw [if_neg hc,Nat.zero_add];refine countP_same _ _ _ (fun k _=> ?_);by_cases ek:k=i
  ·subst ek;simp [shrunk,upd_same,Ne.symm hc]
  ·simp only [shrunk,upd_other _ _ ek]
theorem upd_id {T:Tree} {i:Nat} {x:Node} (h:T i=some x):upd T i (some x)=T:=by
 funext k;by_cases e:k=i
 ·rw [e,upd_same,h]
 ·rw [upd_other _ _ e]
theorem moved_kidN (h:Moves T i x d s) (e:Nat):kidN (moved T i d s x.dir) e+(if e=x.up then 1 else 0)=kidN T e+(if e=d then 1 else 0):=by
 have hi:i<129:=by have:=h.ok.lt h.is;omega
 have h1:=upd_kidN T i hi x e;have h2:=upd_kidN T i hi ⟨d,s,x.dir⟩ e;rw [upd_id h.is] at h1;unfold moved;dsimp only at h2;omega
theorem moved_things (h:Moves T i x d s):things (moved T i d s x.dir)=things T:=countP_same _ _ _ (fun k _=>by
 by_cases ek:k=i
 ·subst ek;simp [moved,upd_same,h.is]
 ·simp only [moved,upd_other _ _ ek])
theorem thm_moved (h:Moves T i x d s) (tp:Nat→Nat):thm (moved T i d s x.dir) tp=thm T tp:=by
 funext z;unfold thm;by_cases h0:0≤z
 ·rw [if_pos h0,if_pos h0];by_cases e:z.toNat=i
  ·rw [e,moved,upd_same,h.is];rfl
  ·rw [moved,upd_other _ _ e]
 ·rw [if_neg h0,if_neg h0]
end
theorem TreeAt.moves {w w':World} {o:Nat→Nat} {K t mb i d iu id:Nat} {tp:Nat→Nat} {T:Tree} {s:List UInt8} {x y u:Node} (h:Moves T i x d s) (hf:Fresh w o)
  (ot:o t=K+3) (kt:w.heap[t]? =some (.cells #[.map (some mb)] 132 (0,0))) (om:o mb=K+4) (hth:∀k x,T k=some x→ThingAt w o K k (tp k) x (kidN T k) (kidm T k))
  (hy:T d=some y) (hyd:y.dir=true) (oi:o id=K+2000+d) (kd:w.heap[tp d]? =some (.cells #[.int .i64 y.up,.string (ba y.name),.bool true,.map (some id)] 141 (0,0)))
  (hu:T x.up=some u) (hud:u.dir=true) (ou:o iu=K+2000+x.up) (ku:w.heap[tp x.up]? =some (.cells #[.int .i64 u.up,.string (ba u.name),.bool true,.map (some iu)] 141 (0,0)))
  (f:Fr (fun j=>j=mb∨j=iu∨j=id∨j=tp i) w w') (M1:MapAt encI w' mb (things T) (thm T tp))
  (kx:∀im,w.heap[tp i]? =some (.cells #[.int .i64 x.up,.string (ba x.name),.bool x.dir,.map im] 141 (0,0))→w'.heap[tp i]? =some (.cells #[.int .i64 d,.string (ba s),.bool x.dir,.map im] 141 (0,0)))
  (Mu:x.up≠d→MapAt encS w' iu (kidN T x.up - 1) (fun z=>if z=ba x.name then none else kidm T x.up z))
  (Md:MapAt encS w' id (if x.up=d then kidN T d else kidN T d+1) (fun z=>if z=ba s then some (i:Int) else if x.up=d∧z=ba x.name then none else kidm T d z)):
  Step (fun c=>c=K+4∨c=K+2000+x.up∨c=K+2000+d∨c=K+1000+i) w o w' o∧TreeAt w' o K t (moved T i d s x.dir):=by
 have oti:=(hth i x h.is).1;have hs:Step (fun c=>c=K+4∨c=K+2000+x.up∨c=K+2000+d∨c=K+1000+i) w o w' o:=by
  refine ⟨f.mono (fun k _ e=> ?_),fun _ _=>rfl,fun k hk=>hf k (Nat.le_trans f.size hk)⟩;rcases e with rfl|rfl|rfl|rfl
  ·exact .inl om
  ·exact .inr (.inl ou)
  ·exact .inr (.inr (.inl oi))
  ·exact .inr (.inr (.inr oti))
 have hi1:=h.ok.lt h.is;have hd1:=h.ok.lt hy;have hu1:=h.ok.lt hu;have hdne:=h.dne;have hune:=h.une;refine ⟨hs,mb,tp,ot,hs.block kt (by rw [ot];omega),om,?_,fun k z hk=> ?_⟩
 ·rw [thm_moved h,moved_things h];exact M1
 ·have hN:=moved_kidN h k;by_cases ek:k=i
  ·subst ek;rw [moved,upd_same] at hk;cases hk;have e1:kidN (moved T k d s x.dir) k=kidN T k:=by
    rw [if_neg (Ne.symm h.une),if_neg (Ne.symm h.dne)] at hN;omega
   have e2:kidm (moved T k d s x.dir) k=kidm T k:=by
    funext z;unfold kidm;rw [moved_kid h,if_neg (fun e=>h.dne e.1.symm),if_neg (fun e=>h.une e.1.symm)]
   rw [e1,e2];have hx:=hth k x h.is;obtain ⟨up,name,dir⟩:=x;cases dir with
   | false=>
    obtain ⟨h1,h2⟩:=hx;exact ⟨h1,kx _ h2⟩
   | true=>
    obtain ⟨h1,jb,h2,h3,h4⟩:=hx;refine ⟨h1,jb,h2,kx _ h3,h4.fr f ?_⟩;dsimp only at ou oti hune ⊢;rintro (rfl|rfl|rfl|e)
    ·omega
    ·omega
    ·omega
    ·exact (h4.ne h3) e.symm
  ·rw [moved,upd_other _ _ ek] at hk;have hk1:=h.ok.lt hk;by_cases ed:k=d
   ·subst ed;rw [hy] at hk;cases hk;have h1:=(hth k y hy).1;have e1:kidN (moved T i k s x.dir) k=if x.up=k then kidN T k else kidN T k+1:=by
     rw [if_pos rfl] at hN;by_cases hxk:x.up=k
     ·rw [if_pos hxk.symm] at hN;rw [if_pos hxk];omega
     ·rw [if_neg (Ne.symm hxk)] at hN;rw [if_neg hxk];omega
    have e2:kidm (moved T i k s x.dir) k=fun z=>if z=ba s then some (i:Int) else if x.up=k∧z=ba x.name then none else kidm T k z:=by
     funext z;unfold kidm;rw [moved_kid h];by_cases hz:z=ba s
     ·subst hz;simp [ba_list]
     ·rw [if_neg hz,if_neg (fun e=>hz (by rw [← e.2,ba_of]))];by_cases hz2:x.up=k∧z=ba x.name
      ·rw [if_pos hz2,if_pos ⟨hz2.1.symm,by rw [hz2.2,ba_list]⟩];rfl
      ·rw [if_neg hz2,if_neg (fun e=>hz2 ⟨e.1.symm,by rw [← e.2,ba_of]⟩)]
    rw [e1,e2];obtain ⟨up,name,dir⟩:=y;dsimp only at hyd;subst hyd;exact ⟨h1,id,oi,hs.block kd (by rw [h1];omega),Md⟩
   ·by_cases eu:k=x.up
    ·have hxd:x.up≠d:=fun e=>ed (eu.trans e);have Mu':=Mu hxd;subst eu;rw [hu] at hk;cases hk;have h1:=(hth x.up u hu).1;have e1:kidN (moved T i d s x.dir) x.up=kidN T x.up - 1:=by
      rw [if_pos rfl,if_neg hxd] at hN;omega
     have e2:kidm (moved T i d s x.dir) x.up=fun z=>if z=ba x.name then none else kidm T x.up z:=by
      funext z;unfold kidm;rw [moved_kid h,if_neg (fun e=>hxd e.1)];by_cases hz:z=ba x.name
      ·subst hz;rw [if_pos rfl,if_pos ⟨rfl,by rw [ba_list]⟩];rfl
      ·rw [if_neg hz,if_neg (fun e=>hz (by rw [← e.2,ba_of]))]
     rw [e1,e2];obtain ⟨up,name,dir⟩:=u;dsimp only at hud;subst hud;exact ⟨h1,iu,ou,hs.block ku (by rw [h1];omega),Mu'⟩
    ·have e1:kidN (moved T i d s x.dir) k=kidN T k:=by
      rw [if_neg eu,if_neg ed] at hN;omega
     have e2:kidm (moved T i d s x.dir) k=kidm T k:=by
      funext z;unfold kidm;rw [moved_kid h,if_neg (fun e=>ed e.1),if_neg (fun e=>eu e.1)]
     rw [e1,e2];exact (hth k z hk).step hs (by omega) (by omega)
def u8s (bs:List UInt8):List Value:=bs.map fun x=> .int .u8 x.toNat
def Pn (w:World) (p base:Nat) (bs:List UInt8):Prop:=
 ∃v,w.heap[p]? =some (.cells #[v,.int .i64 0] 122 (0,0))∧w.ownsRow base 5 1 v bs.length (u8s bs)∧base≤w.heap.size
def Pf (w:World) (p base:Nat) (k:Nat):Prop:=k=p∨(base≤k∧∃cur fz,w.heap[k]? =some (.cells cur 5 fz))
theorem Tryz.info5:(Tryz.prog.info? 5).map (fun i=>(i.zero,i.size,i.bytes))=some (some (.int .u8 0),1,1):=by kernel_rfl
theorem Pn.no {w w':World} {p base:Nat} {bs:List UInt8} (h:Pn w p base bs) (f:Fr No w w'):Pn w' p base bs:=by
 obtain ⟨v,hk,ho,hb⟩:=h;refine ⟨v,f.block_of hk id,⟨ho.1,?_⟩,Nat.le_trans hb f.size⟩;rcases ho.2 with h2|⟨g,cap,cur,rfl,hb,hh,r⟩
 ·exact .inl h2
 ·exact .inr ⟨g,cap,cur,rfl,hb,f.block_of hh id,r⟩
theorem pf_of {w w':World} {p base k:Nat} {cs:Array Value} {t:TypeId} {fz:Nat×Nat} (f:Fr (Pf w p base) w w') (hk:w.heap[k]? =some (.cells cs t fz)) (ht:t≠5) (hn:k≠p):w'.heap[k]? =some (.cells cs t fz):=by
 refine f.block_of hk ?_;rintro (e|⟨_,cur,fz',e⟩)
 ·exact hn e
 ·rw [hk] at e;simp at e;exact ht e.2.1
theorem own1_base {w:World} {base n:Nat} {v:Value} {xs:List Value} (h:w.ownsRow base 5 1 v n xs):∀k,v.ownBlock=some k→base≤k:=by
 intro k hk;rcases h.2 with ⟨rfl,_⟩|⟨g,cp,cur,rfl,hb,hh,_⟩
 ·simp [Value.ownBlock] at hk
 ·simp [Value.ownBlock] at hk;subst hk;exact hb
theorem own1_is {w:World} {base g cap n:Nat} {zs:List UInt8} (h:w.ownsRow base 5 1 (.slice (some ⟨g,0,none⟩) n cap) n (u8s zs)) (hn:n=zs.length):SlIs w (.slice (some ⟨g,0,none⟩) zs.length cap) zs g 0 cap:=by
 subst hn;obtain ⟨b,c,h1,_⟩:=slAt_own (bs:=zs) h (by simp);obtain ⟨he,r⟩:=h1;simp only [Value.slice.injEq,Option.some.injEq,Addr.mk.injEq] at he;obtain ⟨⟨rfl,_⟩,_,rfl⟩:=he;exact ⟨rfl,r⟩
theorem pf_back {w w':World} {p base:Nat} (f:Fr No w w'):∀j,j<w.heap.size→Pf w' p base j→Pf w p base j:=by
 rintro j hj (e|⟨hb,cur,fz,e⟩)
 ·exact .inl e
 ·exact .inr ⟨hb,cur,fz,by rw [← f.block j hj id];exact e⟩
abbrev PenS:=List UInt8×Int
def penPut (s:PenS) (ys:List UInt8):PenS:=if s.2≠0 then s else if 65536<s.1.length+ys.length then (s.1,3) else (s.1++ys,0)
def penFail (s:PenS) (e:Int):PenS:=if s.2≠0 then s else (s.1,e)
def Pg (w:World) (p base:Nat) (s:PenS):Prop:=
 ∃v,w.heap[p]? =some (.cells #[v,.int .i64 s.2] 122 (0,0))∧w.ownsRow base 5 1 v s.1.length (u8s s.1)∧base≤w.heap.size∧s.1.length≤65536
theorem Pg.pn {w:World} {p base:Nat} {bs:List UInt8} (h:Pg w p base (bs,0)):Pn w p base bs:=by
 obtain ⟨v,h1,h2,h3,_⟩:=h;exact ⟨v,h1,h2,h3⟩
theorem Pg.of {w:World} {p base:Nat} {bs:List UInt8} (h:Pn w p base bs) (hl:bs.length≤65536):Pg w p base (bs,0):=by
 obtain ⟨v,h1,h2,h3⟩:=h;exact ⟨v,h1,h2,h3,hl⟩
theorem Pg.no {w w':World} {p base:Nat} {s:PenS} (h:Pg w p base s) (f:Fr No w w'):Pg w' p base s:=by
 obtain ⟨v,hk,ho,hb,hl⟩:=h;refine ⟨v,f.block_of hk id,⟨ho.1,?_⟩,Nat.le_trans hb f.size,hl⟩;rcases ho.2 with h2|⟨g,cap,cur,rfl,hb,hh,r⟩
 ·exact .inl h2
 ·exact .inr ⟨g,cap,cur,rfl,hb,f.block_of hh id,r⟩
theorem put_fail (p base:Nat) (s:PenS) (e:Int) (he:(e !=0)=true) (w:World) (h:Pg w p base s):
  Calls Tryz.prog 130 #[.pointer (some ⟨p,0,none⟩),.int .i64 e,.slice none 0 0] w fun x w'=>x=.returned (.tuple #[])∧Pg w' p base (penFail s e)∧Fr (Pf w p base) w w':=by
 obtain ⟨bs,bad⟩:=s;obtain ⟨v,hk,hown,hb,hl⟩:=h;have cb:w.cell? ⟨p,1,none⟩=some (.int .i64 bad):=by rw [cell_at hk];rfl
 have z1:=frozen_at hk 1;by_cases h0:bad=0
 ·subst h0;have HK:=lH hk;have HO:=lH hown;clear hk hown;go_enter Tryz.func130,Tryz.ntmps130;go_wp2_with fail
  go_end0
  have FS:Fr (fun k=>k=p) w (w.setCell ⟨p,1,none⟩ (.int .i64 e)):=Fr.setCell (S:=fun k=>k=p) (p:=⟨p,1,none⟩) (Fr.refl w) (.inl rfl) _;refine ⟨rfl,⟨v,?_,⟨HO.out.1,?_⟩,Nat.le_trans hb FS.size,hl⟩,FS.mono (fun _ _ e=> .inl e)⟩
  ·simpa [penFail] using setCell_at HK.out 1 (.int .i64 e)
  ·rcases HO.out.2 with h|⟨g',cp,cur,h1,h2,h3,h4⟩
   ·exact .inl h
   ·exact .inr ⟨g',cp,cur,h1,h2,setCell_off h3 (fun e=>by have:=HK.out;rw [e,this] at h3;simp at h3) 1 _,h4⟩
 ·have t0:(bad !=0)=true:=by simpa using h0
  have HP:Hid (Pg w p base (bs,bad)):=lH ⟨v,hk,hown,hb,hl⟩;have hf:penFail (bs,bad) e=(bs,bad):=by simp [penFail,h0]
  rw [hf];clear hk hown hf;go_enter Tryz.func130,Tryz.ntmps130;go_wp2_with fail
  go_end0
  exact ⟨rfl,HP.out,Fr.refl _⟩
theorem put_fits (p base:Nat) (bs ys:List UInt8) (b off c:Nat) (w:World) (h:Pn w p base bs) (hy:SlIs w (.slice (some ⟨b,off,none⟩) ys.length c) ys b off c) (h0:ys≠ []) (hl:bs.length+ys.length≤65536):
  Calls Tryz.prog 130 #[.pointer (some ⟨p,0,none⟩),.int .i64 0,.slice (some ⟨b,off,none⟩) ys.length c] w fun e w'=>e=.returned (.tuple #[])∧Pn w' p base (bs++ys)∧Fr (Pf w p base) w w':=by
 obtain ⟨v,hk,hown,hb⟩:=h;obtain ⟨_,hyc,hyb,hyx⟩:=hy;obtain ⟨i0,hi0,hz0,hz1,hz2⟩:=info_parts Tryz.info5;have HI:=lH hi0;have HZ0:=lH hz0;have HZ1:=lH hz1;have HZ2:=lH hz2;clear hi0 hz0 hz1 hz2;have tag:∀k,v.ownBlock=some k→base≤k∧∃cur,w.heap[k]? =some (.cells cur 5 (0,0)):=by
  intro k hk;rcases hown.2 with ⟨rfl,_⟩|⟨g,cp,cur,rfl,hb,hh,_⟩
  ·simp [Value.ownBlock] at hk
  ·simp [Value.ownBlock] at hk;subst hk;exact ⟨hb,cur,hh⟩
 obtain ⟨a,c1,rfl⟩:∃a c1,v=.slice a bs.length c1:=by
  rcases hown.2 with ⟨rfl,hn⟩|⟨g,cp,cur,rfl,_⟩
  ·exact ⟨none,0,by rw [hn]⟩
  ·exact ⟨_,_,rfl⟩
 have c0:w.cell? ⟨p,0,none⟩=some (.slice a bs.length c1):=by rw [cell_at hk];rfl
 have cb:w.cell? ⟨p,1,none⟩=some (.int .i64 0):=by rw [cell_at hk];rfl
 have z0:=frozen_at hk 0;have q1:¬(65536:Int) - (bs.length:Int)<(ys.length:Int):=by omega
 have hym:0<ys.length:=by cases ys with|nil=>exact absurd rfl h0|cons x r=>simp
 have HY:=lH hyx;have TAG:=lH tag;have HK:=lH hk;have HB:=lH hb;generalize hml:ys.length=m at*;have HM:=lH hml;generalize hnl:bs.length=n at*;have HN:=lH hnl;clear h0 hyx tag hk hb hml hnl;go_enter Tryz.func130,Tryz.ntmps130;go_wp2_with (at_builtin;refine wpList_append_lies _ rfl _ _ 27 rfl base 5 i0 (.int .u8 0) 1 1 Tryz.underlying27 HI.out HZ0.out HZ1.out HZ2.out rfl (by decide) (.slice a n c1) n (u8s bs) rfl hown ⟨b,off,none⟩ m c (u8s ys) rfl ?d0 ?d1 ?d2 hym (by unfold maxLen;omega) (by omega) HB.out w.heap.size rfl ?_)
 case d0=>rw [u8s,List.length_map,HM.out]
 case d1=>
  intro j u hj;simp only [u8s,List.getElem?_map,Option.map_eq_some_iff] at hj;obtain ⟨x,hx,rfl⟩:=hj;exact HY.out j x hx
 case d2=>
  intro u hu;obtain ⟨x,_,rfl⟩:=List.mem_map.1 hu;rfl
 intro g cap w2 hown2 hgrow hat hgl;have bn:(Value.slice a n c1).ownBlock≠some p:=fun e=>by
  obtain ⟨_,cur,hh⟩:=TAG.out p e;rw [HK.out] at hh;simp at hh
 have F2:Fr (fun k=>(Value.slice a n c1).ownBlock=some k) w w2:=(Fr.refl (S:=fun k=>(Value.slice a n c1).ownBlock=some k) w).grown hgrow (fun k hk=> .inl hk);have k2:w2.heap[p]? =some (.cells #[.slice a n c1,.int .i64 0] 122 (0,0)):=F2.block_of HK.out bn;have c2:w2.cell? ⟨p,0,none⟩=some (.slice a n c1):=by rw [cell_at k2];rfl
 have z2:=frozen_at k2 0;have K2:=lH k2;have HO:=lH hown2;have HF:=lH F2;clear hgrow hat hgl k2 hown2 F2 hown bn;go_wp2_with fail
 go_end0
 refine ⟨rfl,⟨.slice (some ⟨g,0,none⟩) (n+m) cap,?_,?_,?_⟩,?_⟩
 ·have:=setCell_at K2.out 0 (.slice (some ⟨g,0,none⟩) (n+m) cap);simpa using this
 ·rw [List.length_append,HN.out,HM.out];have e:u8s (bs++ys)=u8s bs++u8s ys:=by simp [u8s]
  rw [e];refine ⟨HO.out.1,?_⟩;rcases HO.out.2 with h|⟨g',cp,cur,h1,h2,h3,h4⟩
  ·exact .inl h
  ·exact .inr ⟨g',cp,cur,h1,h2,setCell_off h3 (fun e=>by have:=K2.out;rw [e,this] at h3;simp at h3) 0 _,h4⟩
 ·exact Nat.le_trans HB.out (by simpa [World.setCell] using HF.out.size)
 ·refine Fr.setCell (HF.out.mono (fun k _ hk=> ?_)) (.inl (.inl rfl)) _;exact .inr ⟨(TAG.out k hk).1,by obtain ⟨_,cur,h⟩:=TAG.out k hk;exact ⟨cur,_,h⟩⟩
theorem put_bytes (p base:Nat) (s:PenS) (ys:List UInt8) (b off c:Nat) (w:World) (h:Pg w p base s) (hy:SlIs w (.slice (some ⟨b,off,none⟩) ys.length c) ys b off c) (h0:ys≠ []) (hm:ys.length≤1000000):
  Calls Tryz.prog 130 #[.pointer (some ⟨p,0,none⟩),.int .i64 0,.slice (some ⟨b,off,none⟩) ys.length c] w fun x w'=>x=.returned (.tuple #[])∧Pg w' p base (penPut s ys)∧Fr (Pf w p base) w w':=by
 obtain ⟨bs,bad⟩:=s;by_cases hb:bad=0
 ·subst hb;by_cases hf:bs.length+ys.length≤65536
  ·refine (put_fits p base bs ys b off c w h.pn hy h0 hf).mono ?_;rintro x w' ⟨rfl,h1,h2⟩;have e:penPut (bs,0) ys=(bs++ys,0):=(by simp [penPut];omega)
   rw [e];exact ⟨rfl,Pg.of h1 (by simpa using hf),h2⟩
  ·have e:penPut (bs,0) ys=(bs,3):=by simp [penPut];omega
   rw [e];obtain ⟨v,hk,hown,hb,hl⟩:=h;obtain ⟨a,c1,rfl⟩:∃a c1,v=.slice a bs.length c1:=by
    rcases hown.2 with ⟨rfl,hn⟩|⟨g,cp,cur,rfl,_⟩
    ·exact ⟨none,0,by rw [hn]⟩
    ·exact ⟨_,_,rfl⟩
   have c0:w.cell? ⟨p,0,none⟩=some (.slice a bs.length c1):=(by rw [cell_at hk];rfl)
   have cb:w.cell? ⟨p,1,none⟩=some (.int .i64 0):=(by rw [cell_at hk];rfl)
   have z1:=frozen_at hk 1;have q1:(65536:Int) - (bs.length:Int)<(ys.length:Int):=(by omega)
   have HK:=lH hk;have HO:=lH hown;clear hk hown hy;generalize hml:ys.length=m at*;generalize hnl:bs.length=n at*;have HN:=lH hnl;clear hml hnl;go_enter Tryz.func130,Tryz.ntmps130;go_wp2_with fail
   go_end0
   have FS:Fr (fun k=>k=p) w (w.setCell ⟨p,1,none⟩ (.int .i64 3)):=Fr.setCell (S:=fun k=>k=p) (p:=⟨p,1,none⟩) (Fr.refl w) (.inl rfl) _;refine ⟨rfl,⟨_,by simpa using setCell_at HK.out 1 (.int .i64 3),⟨by simp [u8s],?_⟩,Nat.le_trans hb FS.size,by rw [HN.out];exact hl⟩,FS.mono (fun _ _ e=> .inl e)⟩;rw [HN.out];rcases HO.out.2 with h|⟨g',cp,cur,h1,h2,h3,h4⟩
   ·exact .inl h
   ·exact .inr ⟨g',cp,cur,h1,h2,setCell_off h3 (fun e=>by have:=HK.out;rw [e,this] at h3;simp at h3) 1 _,h4⟩
 ·have t0:(bad !=0)=true:=by simpa using hb
  have e:penPut (bs,bad) ys=(bs,bad):=by simp [penPut,hb]
  rw [e];have HP:=lH h;obtain ⟨v,hk,hown,hb,hl⟩:=h;have cb:w.cell? ⟨p,1,none⟩=some (.int .i64 bad):=by rw [cell_at hk];rfl
  clear hk hown hy e;go_enter Tryz.func130,Tryz.ntmps130;go_wp2_with fail
  go_end0
  exact ⟨rfl,HP.out,Fr.refl _⟩
def numB (wd x:Nat):List UInt8:=(List.range wd).map fun j=>UInt8.ofNat (x / 2 ^ (8*(wd - 1 - j)) % 256)
theorem numB_length (wd x:Nat):(numB wd x).length=wd:=by simp [numB]
theorem numB_step (wd x m:Nat) (hm:m+1≤wd):(numB wd x).take (wd - m)=(numB wd x).take (wd - (m+1))++ [UInt8.ofNat (x / 2 ^ (8*m) % 256)]:=by
 have e:wd - m=wd - (m+1)+1:=by omega
 have hl:wd - (m+1)<(numB wd x).length:=by rw [numB_length];omega
 rw [e,List.take_succ_eq_append_getElem hl];congr 2;simp [numB];congr 4;omega
def penNum (s:PenS) (x:Int) (wd:Nat):PenS:=if 0≤x∧x<2 ^ (8*wd) then penPut s (numB wd x.toNat) else penFail s 1
theorem num_ok (p base wd:Nat) (s:PenS) (x:Nat) (h1:1≤wd) (h2:wd≤7) (hx:x<2 ^ (8*wd)) (w:World) (h:Pg w p base s):
  Calls Tryz.prog 76 #[.pointer (some ⟨p,0,none⟩),.int .i64 x,.int .i64 wd] w fun e w'=>e=.returned (.tuple #[])∧Pg w' p base (penPut s (numB wd x))∧Fr (Pf w p base) w w':=by
 have t1:(1:Int)≤(wd:Int):=by omega
 have t2:(wd:Int)≤7:=by omega
 have t3:¬(x:Int)<0:=by omega
 have t4:((x:Int) / 2 ^ (8*wd) !=0)=false:=by
  have:(x:Int) / 2 ^ (8*wd)=0:=by
   have e:((x:Int) / 2 ^ (8*wd))=((x / 2 ^ (8*wd):Nat):Int):=(by simp)
   rw [e,Nat.div_eq_of_lt hx];rfl
  simp [this]
 have HP:=lH h;have HX:=lH hx;obtain ⟨i0,hi,hz0,hz1,hz2⟩:=info_parts Tryz.info5;have HI:=lH hi;have HZ0:=lH hz0;have HZ1:=lH hz1;have HZ2:=lH hz2;clear hi hz0 hz1 hz2 h hx;have hown0:w.ownsRow w.heap.size 5 1 (.slice none 0 0) 0 []:=⟨rfl,.inl ⟨rfl,rfl⟩⟩
 go_enter Tryz.func76,Tryz.ntmps76;go_wp2_with (go_at_call 129;go_in);go_loopw [6,7] (fun b i wr=>∃m:Nat,i=.int .i64 ((m:Int) - 1)∧m≤wd∧wr.ownsRow w.heap.size 5 1 b (wd - m) (u8s ((numB wd x).take (wd - m)))∧Fr No w wr) (fun _ i _=>(intOf i+1).toNat)
 case atStart=>
  refine ⟨wd,rfl,Nat.le_refl _,?_,Fr.refl _⟩;rw [Nat.sub_self];exact hown0
 case round=>
  obtain ⟨m,rfl,hm,hown,f2⟩:=hrel;clear hown0;rcases m with _|m
  ·rw [Nat.sub_zero,List.take_of_length_le (by rw [numB_length];exact Nat.le_refl _)] at hown;obtain ⟨g,cap,rfl,sl⟩:∃g cap,u6=.slice (some ⟨g,0,none⟩) wd cap∧SlIs wr (.slice (some ⟨g,0,none⟩) (numB wd x).length cap) (numB wd x) g 0 cap:=by
    rcases hown.2 with ⟨_,hn⟩|⟨g,cap,cur,rfl,_⟩
    ·exact absurd hn (by omega)
    ·exact ⟨g,cap,rfl,own1_is hown (numB_length wd x).symm⟩
   have SL:=lH sl;have HB:=lH (put_bytes p base s (numB wd x) g 0 cap wr (HP.out.no f2) SL.out (by intro e;have:=numB_length wd x;rw [e] at this;simp at this;omega) (by rw [numB_length];omega));rw [numB_length] at HB;clear sl hown;go_wp2_with fail;refine HB.out.mono ?_;rintro e w9 ⟨rfl,h9,f9⟩;have H9:=lH h9;clear h9;go_wp2_with fail
   go_end0
   exact ⟨rfl,H9.out,f2.of_no.trans f9 (pf_back f2)⟩
  ·rw [show (((m+1:Nat)):Int) - 1=(m:Int) by omega];have q0:(0:Int)≤(m:Int):=(by omega)
   have q1:IntKind.i64.wrap (8*(m:Int))=8*(m:Int):=IntWalk.i64_in _ (by omega);have q2:(0:Int)≤8*(m:Int):=(by omega)
   have q3:8*(m:Int)<64:=(by omega)
   have q4:(8*(m:Int)).toNat=8*m:=(by omega)
   go_wp2_with (at_builtin;refine wpList_append_lies _ rfl _ _ 27 rfl w.heap.size 5 i0 (.int .u8 0) 1 1 Tryz.underlying27 HI.out HZ0.out HZ1.out HZ2.out rfl (by decide) u6 (wd - (m+1)) (u8s ((numB wd x).take (wd - (m+1)))) rfl (hown.alloc _) ⟨wr.heap.size,0,none⟩ 1 1 [.int .u8 ((x:Int) / 2 ^ (8*m) % 256)] rfl rfl ?d1 ?d2 (by decide) (by unfold maxLen;omega) (by omega) ?d5 (wr.heap.size+1) ?d6 ?_)
   case d1=>exact World.news_of_block (cs:= #[.int .u8 ((x:Int) / 2 ^ (8*m) % 256)]) (t:=5) (fr:=(0,0)) (heap_alloc_new wr _)
   case d2=>simp [Value.oneCell']
   case d5=>have:=f2.size;simp;omega
   case d6=>simp
   intro g cap w1 hown1 hgrow1 hat1 hgl1;have F1:Fr No w w1:=f2.alloc _|>.grown hgrow1 (fun z hz=> .inr (own1_base hown z hz))
   have HO1:Hid (w1.ownsRow w.heap.size 5 1 (.slice (some ⟨g,0,none⟩) (wd - (m+1)+1) cap) (wd - m) (u8s ((numB wd x).take (wd - m)))):=lH (by
    rw [numB_step wd x m hm,show wd - m=wd - (m+1)+1 by omega];have e:u8s ((numB wd x).take (wd - (m+1))++ [UInt8.ofNat (x / 2 ^ (8*m) % 256)])=u8s ((numB wd x).take (wd - (m+1)))++ [.int .u8 ((x:Int) / 2 ^ (8*m) % 256)]:=by
     simp [u8s]
    rw [e];exact hown1)
   clear hown1 hgrow1 hat1 hgl1 hown f2;go_wp2_with fail;go_roundw
   case rel=>
    exact ⟨m,rfl,by omega,HO1.out,F1⟩
   case measure=>simp [intOf]
theorem num_low (p base wd:Nat) (s:PenS) (x:Int) (h1:1≤wd) (h2:wd≤7) (hx:x<0) (w:World) (h:Pg w p base s):
  Calls Tryz.prog 76 #[.pointer (some ⟨p,0,none⟩),.int .i64 x,.int .i64 wd] w fun e w'=>e=.returned (.tuple #[])∧Pg w' p base (penFail s 1)∧Fr (Pf w p base) w w':=by
 have t1:(1:Int)≤(wd:Int):=by omega
 have t2:(wd:Int)≤7:=by omega
 have HB:=lH (put_fail p base s 1 rfl w h);go_enter Tryz.func76,Tryz.ntmps76;go_wp2_with (go_at_call 129;go_in);refine HB.out.mono ?_;rintro e w9 ⟨rfl,h9,f9⟩;have H9:=lH h9;clear h9;go_wp2_with fail;exact bodyPost_ret (v:=.tuple #[]) (by simp [results,Tryz.results76,go_sem]) rfl ⟨rfl,H9.out,f9⟩
theorem num_high (p base wd:Nat) (s:PenS) (x:Nat) (h1:1≤wd) (h2:wd≤7) (hx:2 ^ (8*wd)≤x) (w:World) (h:Pg w p base s):
  Calls Tryz.prog 76 #[.pointer (some ⟨p,0,none⟩),.int .i64 x,.int .i64 wd] w fun e w'=>e=.returned (.tuple #[])∧Pg w' p base (penFail s 1)∧Fr (Pf w p base) w w':=by
 have t1:(1:Int)≤(wd:Int):=by omega
 have t2:(wd:Int)≤7:=by omega
 have t3:¬(x:Int)<0:=by omega
 have t4:((x:Int) / 2 ^ (8*wd) !=0)=true:=by
  have e:((x:Int) / 2 ^ (8*wd))=((x / 2 ^ (8*wd):Nat):Int):=by simp
  rw [e];have:0<x / 2 ^ (8*wd):=Nat.div_pos hx (Nat.two_pow_pos _);simp;omega
 have HB:=lH (put_fail p base s 1 rfl w h);clear hx;go_enter Tryz.func76,Tryz.ntmps76;go_wp2_with (go_at_call 129;go_in);refine HB.out.mono ?_;rintro e w9 ⟨rfl,h9,f9⟩;have H9:=lH h9;clear h9;go_wp2_with fail;exact bodyPost_ret (v:=.tuple #[]) (by simp [results,Tryz.results76,go_sem]) rfl ⟨rfl,H9.out,f9⟩
theorem num_ (p base wd:Nat) (s:PenS) (x:Int) (h1:1≤wd) (h2:wd≤7) (w:World) (h:Pg w p base s):
  Calls Tryz.prog 76 #[.pointer (some ⟨p,0,none⟩),.int .i64 x,.int .i64 wd] w fun e w'=>e=.returned (.tuple #[])∧Pg w' p base (penNum s x wd)∧Fr (Pf w p base) w w':=by
 by_cases hx:x<0
 ·rw [show penNum s x wd=penFail s 1 by unfold penNum;rw [if_neg (by omega)]];exact num_low p base wd s x h1 h2 hx w h
 ·obtain ⟨n,rfl⟩:∃n:Nat,x=n:=⟨x.toNat,by omega⟩
  by_cases hl:n<2 ^ (8*wd)
  ·have e:penNum s n wd=penPut s (numB wd n):=by
    unfold penNum;rw [if_pos ⟨by omega,by exact_mod_cast hl⟩];simp
   rw [e];exact num_ok p base wd s n h1 h2 hl w h
  ·have e:penNum s n wd=penFail s 1:=by
    unfold penNum;rw [if_neg (fun h=>hl (by exact_mod_cast h.2))]
   rw [e];exact num_high p base wd s n h1 h2 (by omega) w h
theorem is_new (w:World) (zs:List UInt8):SlIs (w.alloc (.cells (u8s zs).toArray 5)) (.slice (some ⟨w.heap.size,0,none⟩) zs.length zs.length) zs w.heap.size 0 zs.length:=
 ⟨rfl,Nat.le_refl _,by simp,fun j x hj=>by
  rw [Nat.zero_add,cell_at (new_at w _)];simp [u8s,hj]⟩
def penRaw (s:PenS) (ys:List UInt8):PenS:=if 65535<ys.length then penFail s 3 else penPut s (numB 2 ys.length++ys)
def Bs (w:World) (v:Value) (ys:List UInt8):Prop:=(v=.slice none 0 0∧ys= [])∨∃b off c,SlIs w v ys b off c
theorem Bs.no {w w':World} {v:Value} {ys:List UInt8} (h:Bs w v ys) (f:Fr No w w'):Bs w' v ys:=by
 rcases h with h|⟨b,off,c,e,h1,h2,h3⟩
 ·exact .inl h
 ·exact .inr ⟨b,off,c,e,h1,Nat.lt_of_lt_of_le h2 f.size,fun j x hj=>f.cell_of (h3 j x hj) id⟩
theorem numB2 (n:Nat):numB 2 n= [UInt8.ofNat (n / 256 % 256),UInt8.ofNat (n % 256)]:=by simp [numB,List.range_succ]
theorem raw_none (p base:Nat) (s:PenS) (v:Value) (hv:v=.slice none 0 0∨∃b off c,v=.slice (some ⟨b,off,none⟩) 0 c) (w:World) (h:Pg w p base s):
  Calls Tryz.prog 77 #[.pointer (some ⟨p,0,none⟩),v] w fun e w'=>e=.returned (.tuple #[])∧Pg w' p base (penPut s [0,0])∧Fr (Pf w p base) w w':=by
 have HP:=lH h;clear h;have F0:Fr No w (w.alloc (.cells #[.int .u8 0,.int .u8 0] 5)):=(Fr.refl w).alloc _;have HB:=lH (put_bytes p base s [0,0] w.heap.size 0 2 (w.alloc (.cells #[.int .u8 0,.int .u8 0] 5)) (HP.out.no F0) (is_new w [0,0]) (by simp) (by simp));rcases hv with rfl|⟨b,off,c,rfl⟩;all_goals
  go_enter Tryz.func77,Tryz.ntmps77;go_wp2_with fail;refine HB.out.mono ?_;rintro e w9 ⟨rfl,h9,f9⟩;have H9:=lH h9;clear h9;go_wp2_with fail
  go_end0
  exact ⟨rfl,H9.out,F0.of_no.trans f9 (pf_back F0)⟩
theorem raw_some (p base:Nat) (s:PenS) (ys:List UInt8) (b off c:Nat) (w:World) (hy:SlIs w (.slice (some ⟨b,off,none⟩) ys.length c) ys b off c) (h0:ys≠ []) (hm:ys.length≤65535) (h:Pg w p base s):
  Calls Tryz.prog 77 #[.pointer (some ⟨p,0,none⟩),.slice (some ⟨b,off,none⟩) ys.length c] w fun e w'=>e=.returned (.tuple #[])∧Pg w' p base (penPut s (numB 2 ys.length++ys))∧Fr (Pf w p base) w w':=by
 have HP:=lH h;obtain ⟨_,hyc,hyb,hyx⟩:=hy;obtain ⟨i0,hi0,hz0,hz1,hz2⟩:=info_parts Tryz.info5;have HI:=lH hi0;have HZ0:=lH hz0;have HZ1:=lH hz1;have HZ2:=lH hz2;have HY:=lH hyx;have H0:=lH h0;have hml0:0<ys.length:=by cases ys with|nil=>exact absurd rfl h0|cons x r=>simp
 clear hi0 hz0 hz1 hz2 h hyx h0;have q0:¬(65535:Int)<(ys.length:Int):=by omega
 generalize hml:ys.length=m at*;have HM:=lH hml;clear hml;have hown:(w.alloc (.cells #[.int .u8 ((m:Int) / 256),.int .u8 ((m:Int) % 256)] 5)).ownsRow w.heap.size 5 1 (.slice (some ⟨w.heap.size,0,none⟩) 2 2) 2 [.int .u8 ((m:Int) / 256),.int .u8 ((m:Int) % 256)]:=
  ⟨rfl,.inr ⟨w.heap.size,2,_,rfl,Nat.le_refl _,new_at w _,Nat.le_refl _,by decide,rfl,rfl⟩⟩
 have f0:Fr No w (w.alloc (.cells #[.int .u8 ((m:Int) / 256),.int .u8 ((m:Int) % 256)] 5)):=(Fr.refl w).alloc _;have F0:=lH f0;go_enter Tryz.func77,Tryz.ntmps77;go_wp2_with (at_builtin;refine wpList_append_lies _ rfl _ _ 27 rfl w.heap.size 5 i0 (.int .u8 0) 1 1 Tryz.underlying27 HI.out HZ0.out HZ1.out HZ2.out rfl (by decide) (.slice (some ⟨w.heap.size,0,none⟩) 2 2) 2 [.int .u8 ((m:Int) / 256),.int .u8 ((m:Int) % 256)] rfl hown ⟨b,off,none⟩ m c (u8s ys) rfl ?d0 ?d1 ?d2 hml0 (by unfold maxLen;omega) (by omega) ?d5 (w.heap.size+1) ?d6 ?_)
 case d0=>rw [u8s,List.length_map,HM.out]
 case d1=>
  intro j u hj;simp only [u8s,List.getElem?_map,Option.map_eq_some_iff] at hj;obtain ⟨x,hx,rfl⟩:=hj;exact HY.out j x hx
 case d2=>
  intro u hu;obtain ⟨x,_,rfl⟩:=List.mem_map.1 hu;rfl
 intro g cap w2 hown2 hgrow hat hgl;have F2:Fr No w w2:=f0.grown hgrow (fun z hz=>by simp [Value.ownBlock] at hz;exact .inr (by omega));have hnb:numB 2 m= [UInt8.ofNat (m / 256 % 256),UInt8.ofNat (m % 256)]:=numB2 m;have hl2:(numB 2 m++ys).length=2+m:=by rw [List.length_append,numB_length,HM.out]
 have SL:Hid (SlIs w2 (.slice (some ⟨g,0,none⟩) (numB 2 m++ys).length cap) (numB 2 m++ys) g 0 cap):=lH (by
  refine own1_is (base:=w.heap.size) (n:=(numB 2 m++ys).length) ?_ rfl;have e:u8s (numB 2 m++ys)= [.int .u8 ((m:Int) / 256),.int .u8 ((m:Int) % 256)]++u8s ys:=by
   rw [hnb];simp [u8s];omega
  rw [hl2,e];exact hown2)
 have HB:=lH (put_bytes p base s (numB 2 m++ys) g 0 cap w2 (HP.out.no F2) SL.out (by rw [hnb];simp) (by rw [hl2];omega));rw [hl2] at HB;clear hown hown2 hgrow hat hgl f0 hnb hl2 SL;go_wp2_with fail;refine HB.out.mono ?_;rintro e w9 ⟨rfl,h9,f9⟩;have H9:=lH h9;clear h9;go_wp2_with fail
 go_end0
 exact ⟨rfl,H9.out,F2.of_no.trans f9 (pf_back F2)⟩
theorem raw_long (p base:Nat) (s:PenS) (n:Nat) (b off c:Nat) (w:World) (hm:65535<n) (h:Pg w p base s):
  Calls Tryz.prog 77 #[.pointer (some ⟨p,0,none⟩),.slice (some ⟨b,off,none⟩) n c] w fun e w'=>e=.returned (.tuple #[])∧Pg w' p base (penFail s 3)∧Fr (Pf w p base) w w':=by
 have q0:(65535:Int)<(n:Int):=by omega
 have HB:=lH (put_fail p base s 3 rfl w h);clear h;go_enter Tryz.func77,Tryz.ntmps77;go_wp2_with fail;refine HB.out.mono ?_;rintro e w9 ⟨rfl,h9,f9⟩;have H9:=lH h9;clear h9;go_wp2_with fail;exact bodyPost_ret (v:=.tuple #[]) (by simp [results,Tryz.results77,go_sem]) rfl ⟨rfl,H9.out,f9⟩
theorem raw_ (p base:Nat) (s:PenS) (v:Value) (ys:List UInt8) (w:World) (hy:Bs w v ys) (h:Pg w p base s):
  Calls Tryz.prog 77 #[.pointer (some ⟨p,0,none⟩),v] w fun e w'=>e=.returned (.tuple #[])∧Pg w' p base (penRaw s ys)∧Fr (Pf w p base) w w':=by
 rcases hy with ⟨rfl,rfl⟩|⟨b,off,c,rfl,sl⟩
 ·exact raw_none p base s _ (.inl rfl) w h
 ·by_cases h0:ys= []
  ·subst h0;exact raw_none p base s _ (.inr ⟨b,off,c,rfl⟩) w h
  ·by_cases hl:65535<ys.length
   ·rw [show penRaw s ys=penFail s 3 by simp [penRaw,hl]];exact raw_long p base s _ b off c w hl h
   ·rw [show penRaw s ys=penPut s (numB 2 ys.length++ys) by simp [penRaw,hl]];exact raw_some p base s ys b off c w ⟨rfl,sl⟩ h0 (by omega) h
theorem pbool_ (p base:Nat) (s:PenS) (x:Bool) (w:World) (h:Pg w p base s):
  Calls Tryz.prog 124 #[.pointer (some ⟨p,0,none⟩),.bool x] w fun e w'=>e=.returned (.tuple #[])∧Pg w' p base (penPut s [if x then 1 else 0])∧Fr (Pf w p base) w w':=by
 have HP:=lH h;clear h;cases x
 ·have F0:Fr No w (w.alloc (.cells #[.int .u8 0] 5)):=(Fr.refl w).alloc _;go_enter Tryz.func124,Tryz.ntmps124;go_wp2_with fail;refine (put_bytes p base s [0] w.heap.size 0 1 (w.alloc (.cells #[.int .u8 0] 5)) (HP.out.no F0) (is_new w [0]) (by simp) (by simp)).mono ?_;rintro e w9 ⟨rfl,h9,f9⟩;have H9:=lH h9;clear h9;go_wp2_with fail
  go_end0
  exact ⟨rfl,H9.out,F0.of_no.trans f9 (pf_back F0)⟩
 ·have F0:Fr No w (w.alloc (.cells #[.int .u8 1] 5)):=(Fr.refl w).alloc _;go_enter Tryz.func124,Tryz.ntmps124;go_wp2_with fail;refine (put_bytes p base s [1] w.heap.size 0 1 (w.alloc (.cells #[.int .u8 1] 5)) (HP.out.no F0) (is_new w [1]) (by simp) (by simp)).mono ?_;rintro e w9 ⟨rfl,h9,f9⟩;have H9:=lH h9;clear h9;go_wp2_with fail;exact bodyPost_ret (v:=.tuple #[]) (by simp [results,Tryz.results124,go_sem]) rfl ⟨rfl,H9.out,F0.of_no.trans f9 (pf_back F0)⟩
theorem conv_ (w:World) (s:ByteArray):(convert 9 27 (.string s)).run Tryz.prog w=.ok (.slice (some ⟨w.heap.size,0,none⟩) s.size (grownCap w s.size 0 5)) (Lib.bytesWorld w 5 s):=
 Lib.run_convert_string_bytes w 9 27 5 s Tryz.underlying9 Tryz.underlying27 Tryz.underlying5
theorem conv_fr (w:World) (s:ByteArray):Fr No w (Lib.bytesWorld w 5 s):=
 ⟨rfl,rfl,rfl,by rw [Lib.bytesWorld_size];omega,fun j hj _=>Lib.bytesWorld_at_old w 5 s j hj⟩
theorem conv_sl (w:World) (s:ByteArray) (hs:s.size≤1000000):SlIs (Lib.bytesWorld w 5 s) (.slice (some ⟨w.heap.size,0,none⟩) s.size (grownCap w s.size 0 5)) s.data.toList w.heap.size 0 (grownCap w s.size 0 5):=
 ⟨rfl,grownCap_ge w s.size 0 5,by rw [Lib.bytesWorld_size];omega,fun j x hj=>by
  have hl:j<s.size:=(List.getElem?_eq_some_iff.1 hj).1;rw [Nat.zero_add,Lib.bytesWorld_cell w 5 s j hl];have:s.data.toList.getD j 0=x:=by simp [List.getD,hj]
  rw [this]⟩
theorem text_ (p base:Nat) (s:PenS) (x:ByteArray) (hx:x.size≤1000000) (w:World) (h:Pg w p base s):
  Calls Tryz.prog 123 #[.pointer (some ⟨p,0,none⟩),.string x] w fun e w'=>e=.returned (.tuple #[])∧Pg w' p base (penRaw s x.data.toList)∧Fr (Pf w p base) w w':=by
 have HP:=lH h;clear h;have hconv:=conv_ w x;have f0:=conv_fr w x;have HB:=lH (raw_ p base s _ x.data.toList _ (.inr ⟨w.heap.size,0,grownCap w x.size 0 5,conv_sl w x hx⟩) (HP.out.no f0));go_enter Tryz.func123,Tryz.ntmps123;go_wp2_with fail;refine HB.out.mono ?_;rintro e w9 ⟨rfl,h9,f9⟩;have H9:=lH h9;clear h9;go_wp2_with fail
 go_end0
 exact ⟨rfl,H9.out,f0.of_no.trans f9 (pf_back f0)⟩
theorem pbytes_ok (p base:Nat) (bs:List UInt8) (w:World) (h:Pg w p base (bs,0)) (h0:bs≠ []):
  Calls Tryz.prog 60 #[.pointer (some ⟨p,0,none⟩)] w fun e w'=>∃v b c,e=.returned (.tuple #[v,.int .i64 0])∧SlIs w' v bs b 0 c∧w.heap.size≤b∧Fr No w w':=by
 obtain ⟨v,hk,hown,hb,hl⟩:=h;have hne:v≠ .slice none 0 0:=by
  rintro rfl;rcases hown.2 with ⟨_,hn⟩|⟨g,cap,cur,hv,_⟩
  ·exact h0 (List.eq_nil_of_length_eq_zero hn)
  ·cases hv
 obtain ⟨g,c1,his,_⟩:=slAt_own hown hne;have c0:w.cell? ⟨p,0,none⟩=some v:=by rw [cell_at hk];rfl
 have cb:w.cell? ⟨p,1,none⟩=some (.int .i64 0):=by rw [cell_at hk];rfl
 have HS:=lH his;have hl':bs.length≤65536:=hl;clear hk hown hb hne h0 his hl;go_enter Tryz.func60,Tryz.ntmps60;go_wp2_with fail;refine (clone_ v bs g 0 c1 _ HS.out (by omega)).mono ?_;rintro e w4 ⟨v',b',c',rfl,hsl,hbb,f4⟩;go_wp2_with fail
 go_ret2
 exact ⟨v',b',c',rfl,hsl,hbb,f4⟩
def refC (e:Int):List PanicEntry:= [{v:=.iface 157 (.agg #[.int .i64 e]),recovered:=false}]
def req (n kind:Int) (path:ByteArray):Array Value:= #[.int .i64 0,.int .i64 0,.int .i64 n,.int .i64 kind,.string path,.string ⟨#[]⟩,.bool false,.bool false,.bool false,.int .i64 0,.int .i64 0,.int .i64 0,.slice none 0 0,.slice none 0 0]
def rep (e n:Int):Array Value:= #[.int .i64 e,.int .i64 n,.int .i64 0,.int .i64 0,.int .i64 0,.bool false,.slice none 0 0,.slice none 0 0]
theorem must_yes (e:Int) (w:World):Calls Tryz.prog 91 #[.bool true,.int .i64 e] w fun e w'=>e=.returned (.tuple #[])∧w'=w:=by
 go_enter Tryz.func91,Tryz.ntmps91
 go_wp2
 go_end0
 exact ⟨rfl,rfl⟩
theorem must_no (x:Int) (w:World):Calls Tryz.prog 91 #[.bool false,.int .i64 x] w fun e w'=>e=.panicked (refC x)∧w'=w:=by
 go_enter Tryz.func91,Tryz.ntmps91
 go_wp2
 exact ⟨rfl,rfl,rfl⟩
theorem Tryz.size29:(Tryz.prog.info? 29).map (·.size)=some 8:=by kernel_rfl
theorem ta_ref (x:Int) (w:World):(Instr.typeAssert (.iface 157 (.agg #[.int .i64 x])) 20 157 true).run Tryz.prog w=.ok (.tuple #[.agg #[.int .i64 x],.bool true]) w:=by kernel_rfl
theorem ta_nil (w:World):(Instr.typeAssert .nilIface 20 157 true).run Tryz.prog w=.ok (.tuple #[.agg #[.int .i64 0],.bool false]) w:=by kernel_rfl
set_option maxRecDepth 10000 in
theorem catch_idle (p:Addr) (w:World):
  CallsD Tryz.prog 90 #[.pointer (some p)] .returning w fun e u' w'=>e=.returned (.tuple #[])∧u'=.returning∧w'=w.alloc (.cells #[.int .i64 0] 157):=by
 refine callsD_of_wpS Tryz.func90 rfl fun c₀ cs hu=> ?_;apply wpS_seq;apply wpS_region;simp [wpOpsS,go_sem,recoverD,hu,Tryz.ntmps90,Exit.thenS,ta_nil,Array.replicate,List.replicate];apply wpS_seq;apply wpS_region;simp [wpOpsS,go_sem,Exit.thenS];refine wpS_cond (t:=false) (by simp [Act.eval]) ?_;simp only [Bool.false_eq_true,if_false];refine wpS_of_wp (wp_skip ?_);cases c₀
 simp_all [bodyPostS,results,Tryz.results90]
set_option maxRecDepth 10000 in
theorem catch_ref (b:Nat) (x:Int) (w:World) (old:Array Value) (hk:w.heap[b]? =some (.cells old 29 (0,0))) (ho:old.size=8):
  CallsD Tryz.prog 90 #[.pointer (some ⟨b,0,none⟩)] (.panicking (refC x)) w fun e u' w'=>
   e=.returned (.tuple #[])∧u'=.panicking [{v:=.iface 157 (.agg #[.int .i64 x]),recovered:=true}]∧Fr (· =b) w w'∧w'.heap[b]? =some (.cells (rep x 0) 29 (0,0)):=by
 refine callsD_of_wpS Tryz.func90 rfl fun c₀ cs hu=> ?_;unfold refC at hu;apply wpS_seq;apply wpS_region;simp [wpOpsS,go_sem,recoverD,hu,Tryz.ntmps90,Exit.thenS,ta_ref,Array.replicate,List.replicate];apply wpS_seq;apply wpS_region;simp [wpOpsS,go_sem,Exit.thenS];refine wpS_cond (t:=true) (by simp [Act.eval]) ?_;simp only [if_true];apply wpS_region;have h0:(w.alloc (.cells #[.int .i64 x] 157)).heap[b]? =some (.cells old 29 (0,0)):=((Fr.refl (S:=No) w).alloc _).block_of hk id;have hst:=run_storeVar_row (P:=Tryz.prog) (w.alloc (.cells #[.int .i64 x] 157)) b 29 29 old (rep x 0) h0 Tryz.size29 (by simpa [rep] using ho) (by simp [rep,Value.oneCell']);have hc:(w.alloc (.cells #[.int .i64 x] 157)).cell? ⟨w.heap.size,0,none⟩=some (.int .i64 x):=by rw [cell_at (new_at w _)];rfl
 have hb:(Instr.build 29 #[(0,.int .i64 x)]).run Tryz.prog (w.alloc (.cells #[.int .i64 x] 157))=.ok (.agg (rep x 0)) (w.alloc (.cells #[.int .i64 x] 157)):=by kernel_rfl
 have K:=lH (setRow_at (cs':=rep x 0) h0);have F:=lH (Fr.setRow (S:=fun k=>k=b) ((Fr.refl w).alloc (.cells #[.int .i64 x] 157)) (.inl rfl) (rep x 0));clear h0;unfold rep at*;simp [go_sem] at hst;simp [wpOpsS,go_sem,hc,hb,bodyPostS,results,Tryz.results90];rw [hst];simp [go_sem];exact ⟨F.out,K.out⟩
theorem rows8 {w:World} {b:Nat} {t:TypeId} {a0 a1 a2 a3 a4 a5 a6 a7:Value} (h:w.heap[b]? =some (.cells #[a0,a1,a2,a3,a4,a5,a6,a7] t (0,0))):
  w.cell? ⟨b,0,none⟩=some a0∧w.cell? ⟨b,1,none⟩=some a1∧w.cell? ⟨b,2,none⟩=some a2∧w.cell? ⟨b,3,none⟩=some a3∧w.cell? ⟨b,4,none⟩=some a4∧w.cell? ⟨b,5,none⟩=some a5∧w.cell? ⟨b,6,none⟩=some a6∧w.cell? ⟨b,7,none⟩=some a7:=by
 refine ⟨?_,?_,?_,?_,?_,?_,?_,?_⟩<;>(rw [cell_at h];rfl)
theorem pf_trans {w w1 w2:World} {p base:Nat} (f:Fr (Pf w p base) w w1) (g:Fr (Pf w1 p base) w1 w2):Fr (Pf w p base) w w2:=
 f.trans g (fun j hj e=>Classical.byContradiction fun hn=>hn (by
  rcases e with e|⟨hb,cur,fz,e⟩
  ·exact .inl e
  ·exact .inr ⟨hb,cur,fz,by rw [← f.block j hj hn];exact e⟩))
theorem nmust_yes (e:Int) (w:World):Calls Tryz.prog 106 #[.bool true,.int .i64 e] w fun e w'=>e=.returned (.tuple #[])∧w'=w:=by
 go_enter Tryz.func106,Tryz.ntmps106
 go_wp2
 go_end0
 exact ⟨rfl,rfl⟩
end Go.Proofs.YtlcojhddnpmgmaaGreat
