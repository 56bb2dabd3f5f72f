/- Part of the proof; the last text says what is proved. -/
import Derived.Test.YtlcojhddnpmgmaaGreatS34
set_option linter.unusedSimpArgs false
set_option linter.unusedVariables false
set_option maxRecDepth 100000
set_option maxHeartbeats 3200000
namespace Go.Proofs.YtlcojhddnpmgmaaGreat
open Go.RowKit Go.Sort Go.Shelf
theorem sorted_eq {α:Type} {r:α→α→Prop} (irr:∀x,¬r x x) (asy:∀x y,r x y→¬r y x):∀ {l1 l2:List α},l1.Pairwise r→l2.Pairwise r→(∀x,x∈l1↔x∈l2)→l1=l2
 | [],l2,_,_,h=>by
  cases l2 with
  | nil=>rfl
  | cons b t=>exact absurd ((h b).2 (by simp)) (by simp)
 | a::t, [],_,_,h=>absurd ((h a).1 (by simp)) (by simp)
 | a::t,b::s,h1,h2,h=>by
  rw [List.pairwise_cons] at h1 h2;have e:a=b:=by
   rcases List.mem_cons.1 ((h a).1 (by simp)) with e|ha
   ·exact e
   ·rcases List.mem_cons.1 ((h b).2 (by simp)) with e|hb
    ·exact e.symm
    ·exact absurd (h1.1 b hb) (asy _ _ (h2.1 a ha))
  subst e;rw [sorted_eq irr asy h1.2 h2.2 (fun x=>⟨fun hx=> ?_,fun hx=> ?_⟩)]
  ·rcases List.mem_cons.1 ((h x).1 (List.mem_cons_of_mem _ hx)) with e|h3
   ·subst e;exact absurd (h1.1 _ hx) (irr _)
   ·exact h3
  ·rcases List.mem_cons.1 ((h x).2 (List.mem_cons_of_mem _ hx)) with e|h3
   ·subst e;exact absurd (h2.1 _ hx) (irr _)
   ·exact h3
def numsOf (p:Nat→Bool):List Nat:=(List.range 129).filter p
theorem numsOf_mem {p:Nat→Bool} (hp:∀k,p k=true→k<129) (k:Nat):k∈numsOf p↔p k=true:=by
 unfold numsOf;rw [List.mem_filter,List.mem_range];exact ⟨fun h=>h.2,fun h=>⟨hp k h,h⟩⟩
theorem range_sorted:∀n,(List.range n).Pairwise (· < ·)
 | 0=>List.Pairwise.nil
 | n+1=>by
  rw [List.range_succ,List.pairwise_append];exact ⟨range_sorted n,by simp,fun a ha b hb=>by rw [List.mem_range] at ha;rw [List.mem_singleton] at hb;omega⟩
theorem nums_sort {ss:List Int} {p:Nat→Bool} (hp:∀k,p k=true→k<129) (hn:ss.Nodup) (h:∀x,x∈ss↔∃k:Nat,x=k∧p k=true):ss.mergeSort (fun x y=>decide (x≤y))=(numsOf p).map (fun k:Nat=>(k:Int)):=by
 refine sorted_eq (r:=fun a b:Int=>a<b) (fun x=>by omega) (fun x y=>by omega) ?_ ?_ (fun x=> ?_)
 ·have h1:=List.pairwise_mergeSort (le:=fun x y:Int=>decide (x≤y)) (fun a b c h1 h2=>by simp only [decide_eq_true_eq] at*;omega) (fun a b=>by simp only [Bool.or_eq_true,decide_eq_true_eq];omega) ss;have h2:=(List.mergeSort_perm ss (fun x y=>decide (x≤y))).nodup_iff.2 hn;refine List.Pairwise.imp₂ (fun a b h3 h4=> ?_) h1 h2;simp only [decide_eq_true_eq] at h3;omega
 ·rw [List.pairwise_map];unfold numsOf;exact (List.Pairwise.filter _ (range_sorted 129)).imp (fun h=>by omega)
 ·rw [(List.mergeSort_perm ss _).mem_iff,h x,List.mem_map];exact ⟨fun ⟨k,e,hk⟩=>⟨k,(numsOf_mem hp k).2 hk,e.symm⟩,fun ⟨k,hk,e⟩=>⟨k,e.symm,(numsOf_mem hp k).1 hk⟩⟩
def numC (i:Int):List Value:= [.int .i64 i]
theorem numC_len (i:Int):(numC i).length=1:=rfl
theorem fr_sorted {α:Type} [Inhabited α] (enc:α→Value) {w:World} {g n:Nat} {os:Array Obj} (F:Array α):Fr (· =g) w (Go.Sort.grow (Go.Sort.putRow enc (Go.Sort.ahead w n) g 0 F) os):=by
 refine ⟨rfl,rfl,rfl,by simp,fun k hk hne=> ?_⟩;rw [Go.Sort.heap_grow_old _ _ (by simpa using hk)];have:g≠k:=fun e=>hne e.symm;simp [Go.Sort.putRow,Go.Sort.mapBlock,Go.Sort.ahead,Array.getElem?_modify,this]
theorem heap_sorted {α:Type} [Inhabited α] (enc:α→Value) {w:World} {g n:Nat} {os:Array Obj} {cur:Array Value} {e:TypeId} {fr:Nat×Nat} (F:Array α) (hb:w.heap[g]? =some (.cells cur e fr)):
  (Go.Sort.grow (Go.Sort.putRow enc (Go.Sort.ahead w n) g 0 F) os).heap[g]? =some (.cells (Go.Sort.putCells enc 0 F cur) e fr):=by
 have hg:g<w.heap.size:=(Array.getElem?_eq_some_iff.1 hb).1;rw [Go.Sort.heap_grow_old _ _ (by simpa using hg)];simp [Go.Sort.putRow,Go.Sort.mapBlock,Go.Sort.ahead,Array.getElem?_modify,hb,Go.Sort.onCells]
theorem sortI_ (ss:List Int) (base:Nat) (v:Value) (w:World) (h:w.ownsRow base 3 1 v ss.length (ss.flatMap numC)) (hs:ss.length<10000000):
  Calls Tryz.prog 69 #[v] w fun e w'=>e=.returned (.tuple #[])∧Fr (fun k=>base≤k) w w'∧RowNew numC 1 3 w' base v (ss.mergeSort fun x y=>decide (x≤y)):=by
 rcases h.2 with ⟨rfl,h0⟩|⟨g,cap,cur,rfl,hb,hh,h1,h2,h3,h4⟩
 ·have hs0:=List.eq_nil_of_length_eq_zero h0;subst hs0;refine (Tryz.slices_Sort_int_none none 0 w).mono ?_;rintro e w' ⟨rfl,rfl⟩;exact ⟨rfl,Fr.refl _,.inl ⟨rfl,by simp⟩⟩
 ·have hcell:∀j (hj:j<ss.length),cur[j]? =some (.int .i64 ss[j]):=fun j hj=>by
   have h5:=congrArg (fun l=>l[j]?) h4;simp only [Nat.mul_one] at h5;rw [List.getElem?_take_of_lt hj,Array.getElem?_toList] at h5;rw [h5];have h6:=flat_get numC_len ss j _ (List.getElem?_eq_getElem hj) 0 (.int .i64 ss[j]) rfl;simpa using h6
  have hH:Holds (Value.int .i64) w g 0 ss.toArray:=fun j hj=>by
   have hj':j<ss.length:=(by simpa using hj)
   refine ⟨?_,by simp [World.frozen?,hh]⟩;rw [Nat.zero_add,cell_at hh,hcell j hj'];simp [hj']
  refine (Tryz.slices_Sort_int g 0 cap ss w hH (lt_of_block hh) (by omega)).mono ?_;rintro e w' ⟨rfl,n,os,rfl⟩;have hl:(ss.mergeSort fun x y=>decide (x≤y)).length=ss.length:=List.length_mergeSort _;generalize (ss.mergeSort fun x y=>decide (x≤y))=zs at*;have hfin:Holds (Value.int .i64) (grow (putRow (Value.int .i64) (Sort.ahead w n) g 0 zs.toArray) os) g 0 zs.toArray:=
   holds_grow _ _ _ _ _ _ (by simpa [putRow,mapBlock,Go.Sort.ahead] using lt_of_block hh) (holds_putRow _ _ _ _ _ _ (holds_ahead _ _ n _ _ _ hH) (by simp [hl]))
  refine ⟨rfl,(fr_sorted _ _).mono (fun k _ e=>by rw [e];exact hb),.inr ⟨g,cap,by rw [hl],h2,hb,⟨⟨_,heap_sorted _ _ hh,?_⟩,by rw [hl];exact h1,fun j x hj i u hu=> ?_⟩⟩⟩
  ·simp only [Go.Sort.putCells,Array.size_mapIdx];omega
  ·have hjl:j<zs.length:=(List.getElem?_eq_some_iff.1 hj).1;obtain rfl:i=0:=(by have:=(List.getElem?_eq_some_iff.1 hu).1;rw [numC_len] at this;omega)
   have hc:=(hfin j (by simpa using hjl)).1;rw [Nat.zero_add] at hc;rw [Nat.mul_one,Nat.add_zero];refine hc.trans ?_;have e1:zs.toArray[j]! =x:=by
    rw [List.getElem?_eq_getElem hjl] at hj;cases hj;exact (getElem!_pos zs.toArray j (by simpa using hjl)).trans rfl
   rw [e1];cases hu;rfl
def NumsPost (w:World) (l:List Nat) (e:Ending) (w':World):Prop:=∃v,e=.returned v∧RowNew numC 1 3 w' w.heap.size v (l.map fun k:Nat=>(k:Int))∧Fr No w w'
theorem Tryz.info3:(Tryz.prog.info? 3).map (fun i=>(i.zero,i.size,i.bytes))=some (some (.int .i64 0),1,8):=by kernel_rfl
theorem gtinos_ (o:Nat→Nat) (K t:Nat) (T:Tree) (w:World) (h:TreeAt w o K t T) (ok:TreeOk T):Calls Tryz.prog 32 #[.pointer (some ⟨t,0,none⟩)] w (NumsPost w (numsOf fun k=>(T k).isSome)):=by
 have HMD:=lH (gtmade_ w o K t T h);obtain ⟨mb,tp,_,kt,_,hum,_⟩:=h;have c0:w.cell? ⟨t,0,none⟩=some (.map (some mb)):=by rw [cell_at kt];rfl
 have hcu:things T≤129:=by
  unfold things;exact Nat.le_trans List.countP_le_length (by simp)
 have HP:Hid (∀x:Int,(thm T tp x).isSome=true↔∃k:Nat,x=k∧(T k).isSome=true):=lH (fun x=>by
  unfold thm;constructor
  ·intro h;split at h
   ·exact ⟨x.toNat,by omega,by simpa using h⟩
   ·cases h
  ·rintro ⟨k,rfl,hk⟩;rw [if_pos (by omega),Int.toNat_natCast];simpa using hk)
 have HL:Hid (∀k,(T k).isSome=true→k<129):=lH (fun k hk=>by
  obtain ⟨x,hx⟩:=Option.isSome_iff_exists.1 hk;have:=ok.lt hx;omega)
 generalize hcc:things T=cu at*;clear hcc kt;have HQ:Hid (∀(v:Value) (w':World) (ss:List Int),RowNew numC 1 3 w' w.heap.size v (ss.mergeSort fun x y=>decide (x≤y))→ss.Nodup→(∀x,x∈ss↔(thm T tp x).isSome=true)→Fr No w w'→NumsPost w (numsOf (fun k=>(T k).isSome)) (.returned v) w'):=lH (fun v w' ss h1 h2 h3 f=>⟨v,rfl,by
  rw [← nums_sort HL.out h2 (fun x=>(h3 x).trans (HP.out x))];exact h1,f⟩)
 generalize NumsPost w (numsOf (fun k=>(T k).isSome))=Q at*;obtain ⟨w2,hr,R2,f2,hs2⟩:=hum.range (t:=130) (e:=142) Tryz.underlying130;have hult:mb<w.heap.size:=hum.lt;have HUM:=lH hum;generalize thm T tp=U at*;have RR2:=lH R2;have F2:=lH f2;obtain ⟨i0,hi,hz0,hz1,hz2⟩:=info_parts Tryz.info3;have HI:=lH hi;have HZ0:=lH hz0;have HZ1:=lH hz1;have HZ2:=lH hz2;have HS2:=lH hs2;clear hi hz0 hz1 hz2 ok hum R2 f2 hs2;go_enter Tryz.func32,Tryz.ntmps32;go_wp2_with fail;refine HMD.out.mono ?_;rintro e w1 ⟨rfl,hw⟩;have hw':=hw.symm;subst hw';go_wp2_with fail;go_loopw [3] (fun v wr=>∃(ss:List Int) (left:Int→Bool) (cnt:Nat),Hid (RangeAt encI wr mb w.heap.size cu U left cnt)∧Hid (∀s:Int,I64 s→(left s=true↔(U s).isSome=true∧s ∉ ss))∧Hid (wr.ownsRow (w.heap.size+1) 3 1 v ss.length (ss.flatMap numC))∧Hid ss.Nodup∧Hid (∀s∈ss,(U s).isSome=true)∧Hid (Fr No w wr)∧cnt+ss.length≤cu∧w.heap.size+1≤wr.heap.size) (fun _ wr=>wr.rangeLeft mb w.heap.size)
 case atStart=>
  refine ⟨[],_,_,RR2,lH (fun s _=> ?_),lH ⟨rfl,.inl ⟨rfl,rfl⟩⟩,lH List.nodup_nil,lH (by simp),F2,by simp,by have:=HS2.out;omega⟩;simp
 case round=>
  obtain ⟨ss,left,cnt,HRA,HLF,HOWN,HND,HIN,HFR,hcnt,hsz⟩:=hrel;obtain ⟨a,cc,rfl⟩:=HOWN.out.shape;rcases HRA.out.next 0 with ⟨_,hno,hnx⟩|⟨x,y,w4,cnt',hms,hls,hnx,hra',hlt',f4,hs4,hen⟩
  ·have hall:∀s,s∈ss↔(U s).isSome=true:=fun s=>⟨HIN.out s,fun h=>by
    obtain ⟨u0,hu0⟩:=Option.isSome_iff_exists.1 h;have hg:I64 s:=(HUM.out.good hu0).1;apply Classical.byContradiction;intro hn;have:=(HLF.out s hg).2 ⟨h,hn⟩;rw [hno s hg] at this;cases this⟩
   have HALL:=lH hall;clear hall hno;go_wp2_with fail;refine (sortI_ ss (w.heap.size+1) _ wr HOWN.out (by omega)).mono ?_;rintro e w6 ⟨rfl,f6,hes⟩;have hfin:Fr No w w6:=((HFR.out.of_no (S:=fun k=>w.heap.size+1≤k)).trans f6 (fun j _ h=>h)).no (fun j hj h=>by omega);have hrow:RowNew numC 1 3 w6 w.heap.size (.slice a ss.length cc) (ss.mergeSort fun x y=>decide (x≤y)):=by
    rcases hes with h|⟨b,c,e,h1,h2,h3⟩
    ·exact .inl h
    ·exact .inr ⟨b,c,e,h1,by omega,h3⟩
   have H1:=lH hfin;have H2:=lH hrow;clear f6 hes hfin hrow;go_wp2_with fail;exact HQ.out _ _ _ H2.out HND.out HALL.out H1.out
  ·have hgx:I64 x:=(HRA.out.map.good hms).1;obtain ⟨_,hnin⟩:=(HLF.out x hgx).1 hls;have hux:(U x).isSome=true:=(by rw [hms];rfl)
   have F4:Hid (Fr No w w4):=lH (HFR.out.trans f4 (fun j hj e=>by omega));have O4:Hid (w4.ownsRow (w.heap.size+1) 3 1 (.slice a ss.length cc) ss.length (ss.flatMap numC)):=lH (ownR_fr HOWN.out f4 (fun j hj e=>by have:=ownR_base HOWN.out j hj;omega));have R4:=lH hra';have hnx':(Instr.next (.pointer (some ⟨w.heap.size,0,none⟩)) false 0).run Tryz.prog wr=.ok (.tuple #[.bool true,.int .i64 x,.pointer (some ⟨y,0,none⟩)]) w4:=hnx;have hen':(Instr.entry (.pointer (some ⟨w.heap.size,0,none⟩))).run Tryz.prog w4=.ok (.tuple #[.int .i64 x,.pointer (some ⟨y,0,none⟩)]) w4:=hen;have HLE:Hid (wr.rangeLeft mb w.heap.size=cnt):=lH HRA.out.left_eq;have HLT:=lH hlt';have HN:Hid (∀s:Int,I64 s→((left s&&decide (s≠x))=true↔(U s).isSome=true∧s ∉ ss++ [x])):=lH (fun s hs=>by
    rw [Bool.and_eq_true,decide_eq_true_eq,HLF.out s hs,List.mem_append,List.mem_singleton];constructor
    ·rintro ⟨⟨h1,h2⟩,h3⟩;exact ⟨h1,fun h=>h.elim h2 h3⟩
    ·rintro ⟨h1,h2⟩;exact ⟨⟨h1,fun h=>h2 (.inl h)⟩,fun h=>h2 (.inr h)⟩)
   have HND2:Hid (ss++ [x]).Nodup:=lH (by
    rw [List.nodup_append];exact ⟨HND.out,by simp,fun a ha b hb e=>by
     rw [List.mem_singleton] at hb;subst hb;subst e;exact hnin ha⟩)
   have HIN2:Hid (∀s∈ss++ [x],(U s).isSome=true):=lH (fun s hs=>by
    rcases List.mem_append.1 hs with h|h
    ·exact HIN.out s h
    ·rw [List.mem_singleton] at h;rw [h];exact hux)
   have hs4':w4.heap.size=wr.heap.size:=hs4;have SZ:=lH hs4';clear hnx hen hra' f4 hs4 hms hls hlt' hnin hux hs4' hgx;go_wp2_with (at_builtin;(refine wpList_append_lies _ (by rfl) _ _ 70 (by rfl) (w.heap.size+1) 3 i0 _ 1 8 Tryz.underlying70 HI.out HZ0.out HZ1.out HZ2.out rfl (by decide) (.slice a ss.length cc) ss.length (ss.flatMap numC) (by rfl) (O4.out.alloc _) ⟨w4.heap.size,0,none⟩ 1 1 [.int .i64 x] (by rfl) (by rfl) ?d1 (by simp [Value.oneCell']) (by decide) (by unfold maxLen;omega) (by omega) ?d5 (w4.heap.size+1) ?d6 ?_))
   case d1=>exact World.news_of_block (cs:= #[.int .i64 x]) (t:=3) (fr:=(0,0)) (heap_alloc_new w4 _)
   case d5=>rw [heap_size_alloc];have:=SZ.out;omega
   case d6=>simp
   intro gg cap wD hownD hgrow hat hgl;have HNL:Hid (Fr No w wD):=lH ((F4.out.alloc _).grown hgrow (fun j hj=> .inr (by have:=ownR_base O4.out j hj;omega)));have HG4:Fr (fun k=>w.heap.size+1≤k) w4 wD:=((Fr.refl (S:=fun k=>w.heap.size+1≤k) w4).alloc _).grown hgrow (fun j hj=> .inl (ownR_base O4.out j hj));have RD:=lH (R4.out.fr HG4 (by omega) (by omega));have HOD:=lH hownD;have hsD:w.heap.size+1≤wD.heap.size:=Nat.le_trans (by have:=SZ.out;omega) HG4.size;clear hownD hgrow hat hgl HG4;go_wp2_with fail;go_roundw
   case rel=>
    refine ⟨ss++ [x],_,cnt',RD,HN,lH ?_,HND2,HIN2,HNL,by rw [List.length_append,List.length_singleton];have:=HLT.out;omega,hsD⟩;have h9:=HOD.out;rw [List.flatMap_append,List.length_append];simp only [List.flatMap_cons,List.flatMap_nil,List.append_nil,List.length_singleton];exact h9
   case measure=>
    rw [RD.out.left_eq,HLE.out];exact HLT.out
theorem ginos_ (o:Nat→Nat) (K n:Nat) (L:Plc) (S:St) (w:World) (h:StateAt w o K L S n) (ok:StOk S) (hn:n≤1000000):Calls Tryz.prog 79 #[.pointer (some ⟨L.s,0,none⟩)] w (NumsPost w (numsOf fun k=>(S.F k).isSome)):=by
 have c11:w.cell? ⟨L.s,11,none⟩=some (.map (some L.fl)):=h.cell 11;obtain ⟨_,fp,cu,hcu0,hum,_⟩:=h.files;have HP:Hid (∀x:Int,(filem S.F fp x).isSome=true↔∃k:Nat,x=k∧(S.F k).isSome=true):=lH (fun x=>by
  unfold filem;constructor
  ·intro h;split at h
   ·exact ⟨x.toNat,by omega,by simpa using h⟩
   ·cases h
  ·rintro ⟨k,rfl,hk⟩;rw [if_pos (by omega),Int.toNat_natCast];simpa using hk)
 have HL:Hid (∀k,(S.F k).isSome=true→k<129):=lH (fun k hk=>by
  obtain ⟨x,hx⟩:=Option.isSome_iff_exists.1 hk;have:=ok.file k x hx;omega)
 have hcu:cu≤1000000:=Nat.le_trans hcu0 hn;clear hcu0 hn;generalize hmb:L.fl=mb at*;clear hmb;have HQ:Hid (∀(v:Value) (w':World) (ss:List Int),RowNew numC 1 3 w' w.heap.size v (ss.mergeSort fun x y=>decide (x≤y))→ss.Nodup→(∀x,x∈ss↔(filem S.F fp x).isSome=true)→Fr No w w'→NumsPost w (numsOf (fun k=>(S.F k).isSome)) (.returned v) w'):=lH (fun v w' ss h1 h2 h3 f=>⟨v,rfl,by
  rw [← nums_sort HL.out h2 (fun x=>(h3 x).trans (HP.out x))];exact h1,f⟩)
 generalize NumsPost w (numsOf (fun k=>(S.F k).isSome))=Q at*;obtain ⟨w2,hr,R2,f2,hs2⟩:=hum.range (t:=100) (e:=63) Tryz.underlying100;have hult:mb<w.heap.size:=hum.lt;have HUM:=lH hum;generalize filem S.F fp=U at*;have RR2:=lH R2;have F2:=lH f2;obtain ⟨i0,hi,hz0,hz1,hz2⟩:=info_parts Tryz.info3;have HI:=lH hi;have HZ0:=lH hz0;have HZ1:=lH hz1;have HZ2:=lH hz2;have HS2:=lH hs2;clear hi hz0 hz1 hz2 h ok hum R2 f2 hs2;go_enter Tryz.func79,Tryz.ntmps79;go_wp2_with fail;go_loopw [3] (fun v wr=>∃(ss:List Int) (left:Int→Bool) (cnt:Nat),Hid (RangeAt encI wr mb w.heap.size cu U left cnt)∧Hid (∀s:Int,I64 s→(left s=true↔(U s).isSome=true∧s ∉ ss))∧Hid (wr.ownsRow (w.heap.size+1) 3 1 v ss.length (ss.flatMap numC))∧Hid ss.Nodup∧Hid (∀s∈ss,(U s).isSome=true)∧Hid (Fr No w wr)∧cnt+ss.length≤cu∧w.heap.size+1≤wr.heap.size) (fun _ wr=>wr.rangeLeft mb w.heap.size)
 case atStart=>
  refine ⟨[],_,_,RR2,lH (fun s _=> ?_),lH ⟨rfl,.inl ⟨rfl,rfl⟩⟩,lH List.nodup_nil,lH (by simp),F2,by simp,by have:=HS2.out;omega⟩;simp
 case round=>
  obtain ⟨ss,left,cnt,HRA,HLF,HOWN,HND,HIN,HFR,hcnt,hsz⟩:=hrel;obtain ⟨a,cc,rfl⟩:=HOWN.out.shape;rcases HRA.out.next 0 with ⟨_,hno,hnx⟩|⟨x,y,w4,cnt',hms,hls,hnx,hra',hlt',f4,hs4,hen⟩
  ·have hall:∀s,s∈ss↔(U s).isSome=true:=fun s=>⟨HIN.out s,fun h=>by
    obtain ⟨u0,hu0⟩:=Option.isSome_iff_exists.1 h;have hg:I64 s:=(HUM.out.good hu0).1;apply Classical.byContradiction;intro hn;have:=(HLF.out s hg).2 ⟨h,hn⟩;rw [hno s hg] at this;cases this⟩
   have HALL:=lH hall;clear hall hno;go_wp2_with fail;refine (sortI_ ss (w.heap.size+1) _ wr HOWN.out (by omega)).mono ?_;rintro e w6 ⟨rfl,f6,hes⟩;have hfin:Fr No w w6:=((HFR.out.of_no (S:=fun k=>w.heap.size+1≤k)).trans f6 (fun j _ h=>h)).no (fun j hj h=>by omega);have hrow:RowNew numC 1 3 w6 w.heap.size (.slice a ss.length cc) (ss.mergeSort fun x y=>decide (x≤y)):=by
    rcases hes with h|⟨b,c,e,h1,h2,h3⟩
    ·exact .inl h
    ·exact .inr ⟨b,c,e,h1,by omega,h3⟩
   have H1:=lH hfin;have H2:=lH hrow;clear f6 hes hfin hrow;go_wp2_with fail;exact HQ.out _ _ _ H2.out HND.out HALL.out H1.out
  ·have hgx:I64 x:=(HRA.out.map.good hms).1;obtain ⟨_,hnin⟩:=(HLF.out x hgx).1 hls;have hux:(U x).isSome=true:=(by rw [hms];rfl)
   have F4:Hid (Fr No w w4):=lH (HFR.out.trans f4 (fun j hj e=>by omega));have O4:Hid (w4.ownsRow (w.heap.size+1) 3 1 (.slice a ss.length cc) ss.length (ss.flatMap numC)):=lH (ownR_fr HOWN.out f4 (fun j hj e=>by have:=ownR_base HOWN.out j hj;omega));have R4:=lH hra';have hnx':(Instr.next (.pointer (some ⟨w.heap.size,0,none⟩)) false 0).run Tryz.prog wr=.ok (.tuple #[.bool true,.int .i64 x,.pointer (some ⟨y,0,none⟩)]) w4:=hnx;have hen':(Instr.entry (.pointer (some ⟨w.heap.size,0,none⟩))).run Tryz.prog w4=.ok (.tuple #[.int .i64 x,.pointer (some ⟨y,0,none⟩)]) w4:=hen;have HLE:Hid (wr.rangeLeft mb w.heap.size=cnt):=lH HRA.out.left_eq;have HLT:=lH hlt';have HN:Hid (∀s:Int,I64 s→((left s&&decide (s≠x))=true↔(U s).isSome=true∧s ∉ ss++ [x])):=lH (fun s hs=>by
    rw [Bool.and_eq_true,decide_eq_true_eq,HLF.out s hs,List.mem_append,List.mem_singleton];constructor
    ·rintro ⟨⟨h1,h2⟩,h3⟩;exact ⟨h1,fun h=>h.elim h2 h3⟩
    ·rintro ⟨h1,h2⟩;exact ⟨⟨h1,fun h=>h2 (.inl h)⟩,fun h=>h2 (.inr h)⟩)
   have HND2:Hid (ss++ [x]).Nodup:=lH (by
    rw [List.nodup_append];exact ⟨HND.out,by simp,fun a ha b hb e=>by
     rw [List.mem_singleton] at hb;subst hb;subst e;exact hnin ha⟩)
   have HIN2:Hid (∀s∈ss++ [x],(U s).isSome=true):=lH (fun s hs=>by
    rcases List.mem_append.1 hs with h|h
    ·exact HIN.out s h
    ·rw [List.mem_singleton] at h;rw [h];exact hux)
   have hs4':w4.heap.size=wr.heap.size:=hs4;have SZ:=lH hs4';clear hnx hen hra' f4 hs4 hms hls hlt' hnin hux hs4' hgx;go_wp2_with (at_builtin;(refine wpList_append_lies _ (by rfl) _ _ 70 (by rfl) (w.heap.size+1) 3 i0 _ 1 8 Tryz.underlying70 HI.out HZ0.out HZ1.out HZ2.out rfl (by decide) (.slice a ss.length cc) ss.length (ss.flatMap numC) (by rfl) (O4.out.alloc _) ⟨w4.heap.size,0,none⟩ 1 1 [.int .i64 x] (by rfl) (by rfl) ?d1 (by simp [Value.oneCell']) (by decide) (by unfold maxLen;omega) (by omega) ?d5 (w4.heap.size+1) ?d6 ?_))
   case d1=>exact World.news_of_block (cs:= #[.int .i64 x]) (t:=3) (fr:=(0,0)) (heap_alloc_new w4 _)
   case d5=>rw [heap_size_alloc];have:=SZ.out;omega
   case d6=>simp
   intro gg cap wD hownD hgrow hat hgl;have HNL:Hid (Fr No w wD):=lH ((F4.out.alloc _).grown hgrow (fun j hj=> .inr (by have:=ownR_base O4.out j hj;omega)));have HG4:Fr (fun k=>w.heap.size+1≤k) w4 wD:=((Fr.refl (S:=fun k=>w.heap.size+1≤k) w4).alloc _).grown hgrow (fun j hj=> .inl (ownR_base O4.out j hj));have RD:=lH (R4.out.fr HG4 (by omega) (by omega));have HOD:=lH hownD;have hsD:w.heap.size+1≤wD.heap.size:=Nat.le_trans (by have:=SZ.out;omega) HG4.size;clear hownD hgrow hat hgl HG4;go_wp2_with fail;go_roundw
   case rel=>
    refine ⟨ss++ [x],_,cnt',RD,HN,lH ?_,HND2,HIN2,HNL,by rw [List.length_append,List.length_singleton];have:=HLT.out;omega,hsD⟩;have h9:=HOD.out;rw [List.flatMap_append,List.length_append];simp only [List.flatMap_cons,List.flatMap_nil,List.append_nil,List.length_singleton];exact h9
   case measure=>
    rw [RD.out.left_eq,HLE.out];exact HLT.out
end Go.Proofs.YtlcojhddnpmgmaaGreat
namespace Go.Proofs.YtlcojhddnpmgmaaGreat
open Go.RowKit
theorem SlAt.slice {w:World} {v:Value} {bs:List UInt8} (h:SlAt w v bs):∃a c,v=.slice a bs.length c:=by
 rcases h with ⟨rfl,a,c,rfl⟩|⟨b,off,c,rfl,_⟩
 ·exact ⟨a,c,rfl⟩
 ·exact ⟨_,c,rfl⟩
theorem SlAt.at {w:World} {a:Option Addr} {c:Nat} {bs:List UInt8} (h:SlAt w (.slice a bs.length c) bs) {j:Nat} (hj:j<bs.length):∃b off,a=some ⟨b,off,none⟩∧w.cell? ⟨b,off+j,none⟩=some (.int .u8 bs[j].toNat):=by
 rcases h with ⟨rfl,_⟩|⟨b,off,c',e,_,_,hc⟩
 ·exact absurd hj (Nat.not_lt_zero _)
 ·cases e;exact ⟨b,off,rfl,hc j _ (List.getElem?_eq_getElem hj)⟩
theorem SlIs.slAt {w:World} {v:Value} {bs:List UInt8} {b off c:Nat} (h:SlIs w v bs b off c):SlAt w v bs:=.inr ⟨b,off,c,h.1,h.2.1,h.2.2.1,h.2.2.2⟩
theorem gsame_ (v1 v2:Value) (x y:List UInt8) (w:World) (h1:SlAt w v1 x) (h2:SlAt w v2 y) (hbig:x.length≤1000000):Calls Tryz.prog 28 #[v1,v2] w (BoolPost w (x=y)):=by
 have mixed:Tryz.prog.follows .mixedOrders=true:=by kernel_rfl
 obtain ⟨a1,c1,rfl⟩:=h1.slice;obtain ⟨a2,c2,rfl⟩:=h2.slice;have HQ:Hid (∀b w',(b=true↔x=y)→Fr No w w'→BoolPost w (x=y) (.returned (.bool b)) w'):=lH (fun b w' hb f=>BoolPost.mk b _ _ hb rfl f);generalize BoolPost w (x=y)=Q at*;have H1:=lH h1;have H2:=lH h2;clear h1 h2;by_cases hl:x.length=y.length
 ·have q0:((x.length:Int) !=(y.length:Int))=false:=by rw [hl];simp
  have HL:=lH hl;clear hl;go_enter Tryz.func28,Tryz.ntmps28;go_wp2_with fail;go_loopw [5] (fun a wr=>∃j:Nat,a=.int .i64 j∧j≤x.length∧Hid (x.take j=y.take j)∧Hid (Fr No w wr)) (fun a _=>x.length - (intOf a).toNat)
  case atStart=>exact ⟨0,rfl,Nat.zero_le _,lH rfl,lH (Fr.refl _)⟩
  case round=>
   obtain ⟨j,rfl,hj,HT,HF⟩:=hrel;by_cases hlt:j<x.length
   ·have hlt2:j<y.length:=by rw [← HL.out];exact hlt
    obtain ⟨b1,o1,rfl,k1⟩:=(H1.out.no HF.out).at hlt;obtain ⟨b2,o2,rfl,k2⟩:=(H2.out.no HF.out).at (j:=j) hlt2;have q1:(j:Int)<(x.length:Int):=(by omega)
    have q2:(j:Int)<(y.length:Int):=(by omega)
    have q3:(0:Int)≤(j:Int):=(by omega)
    have HN:Hid (x[j].toNat=y[j].toNat→x.take (j+1)=y.take (j+1)):=lH (fun e=>by
     rw [List.take_succ_eq_append_getElem hlt,List.take_succ_eq_append_getElem hlt2,HT.out,UInt8.toNat_inj.1 e])
    have HX:Hid (x=y→x[j].toNat=y[j].toNat):=lH (fun e=>by subst e;rfl);generalize x[j].toNat=u at*;generalize y[j].toNat=v at*;by_cases e:u=v
    ·have HN':=lH (HN.out e);subst e;go_wp2_with fail
     go_region
     all_goals
      go_wp2_with fail;go_roundw
      case rel=>exact ⟨j+1,by go_num,hlt,HN',lH (HF.out.drew)⟩
      case measure=>simp [intOf];omega
    ·have q4:((u:Int) !=(v:Int))=true:=by simp only [bne_iff_ne,ne_eq];omega
     have HE:Hid (¬x=y):=lH (fun h=>e (HX.out h));go_wp2_with fail
     go_region
     all_goals
      go_wp2_with fail;exact HQ.out false _ (by simp [HE.out]) HF.out.drew
   ·obtain rfl:j=x.length:=by omega
    have q1:¬(x.length:Int)<(x.length:Int):=(by omega)
    have HE:Hid (x=y):=lH (by
     have h:=HT.out;rw [List.take_length,HL.out,List.take_length] at h;exact h)
    go_wp2_with fail;exact HQ.out true _ (by simp [HE.out]) HF.out
 ·have q0:((x.length:Int) !=(y.length:Int))=true:=by simp only [bne_iff_ne,ne_eq];omega
  have HE:Hid (¬x=y):=lH (fun h=>hl (by rw [h]));go_enter Tryz.func28,Tryz.ntmps28;go_wp2_with fail;exact HQ.out false _ (by simp [HE.out]) (Fr.refl _)
def penThing (T:Tree) (s:PenS) (k:Nat):PenS:=if k=1 then s else match T k with
 | none=>s
 | some x=>penPut (penRaw (penNum (penNum s k 2) x.up 2) (ba x.name).data.toList) [if x.dir then 1 else 0]
def inosT (T:Tree):List Nat:=numsOf fun k=>(T k).isSome
def penTree (s:PenS) (T:Tree):PenS:=(inosT T).foldl (penThing T) (penNum s ((things T:Int) - 1) 2)
theorem ThingAt.cells {w:World} {o:Nat→Nat} {K k p n:Nat} {x:Node} {m:ByteArray→Option Int} (h:ThingAt w o K k p x n m):∃v,w.heap[p]? =some (.cells #[.int .i64 x.up,.string (ba x.name),.bool x.dir,v] 141 (0,0)):=by
 obtain ⟨up,name,dir⟩:=x;have:=h.2;cases dir with
 | false=>exact ⟨_,this⟩
 | true=>
  obtain ⟨ib,_,e,_⟩:=this;exact ⟨_,e⟩
theorem numC_at {w:World} {b cap:Nat} {L:List Nat} (h:RowB numC 1 3 w b cap (L.map fun k:Nat=>(k:Int))) {j:Nat} (hj:j<L.length):w.cell? ⟨b,j,none⟩=some (.int .i64 ((L[j]:Nat):Int)):=by
 have:=h.row j ((L[j]:Nat):Int) (by rw [List.getElem?_map,List.getElem?_eq_getElem hj];rfl) 0 _ rfl;simpa using this
theorem gtwrite_ (o:Nat→Nat) (K t p base:Nat) (T:Tree) (s:PenS) (w:World) (hT:∀w',Fr (Pf w p base) w w'→TreeAt w' o K t T) (ok:TreeOk T) (h:Pg w p base s):
  Calls Tryz.prog 70 #[.pointer (some ⟨t,0,none⟩),.pointer (some ⟨p,0,none⟩)] w (PenPost w p base (penTree s T)):=by
 have HR:Hid (∀e w',e=.returned (.tuple #[])→Pg w' p base (penTree s T)→Fr (Pf w p base) w w'→PenPost w p base (penTree s T) e w'):=lH (fun e w' a b c=>⟨a,b,c⟩);have hp:Hid (penTree s T=(inosT T).foldl (penThing T) (penNum s ((things T:Int) - 1) 2)):=lH rfl;have h0:=hT w (Fr.refl _);have hth:1≤things T∧things T≤129:=by
  unfold things;refine ⟨?_,Nat.le_trans List.countP_le_length (by simp)⟩;exact List.countP_pos_iff.2 ⟨1,by simp,by rw [ok.root];rfl⟩
 generalize hQ:PenPost w p base (penTree s T)=Q at*;generalize penTree s T=Z at*;clear hQ;have HT:=lH hT;have OK:=lH ok;have HMD:=lH (gtmade_ w o K t T h0);obtain ⟨mb,tp,_,kt,_,hum,_⟩:=h0;have c0:w.cell? ⟨t,0,none⟩=some (.map (some mb)):=by rw [cell_at kt];rfl
 have hlen:=fun ty=>hum.len (t:=130) (e:=142) Tryz.underlying130 ty;have HN:=lH (num_ p base 2 s ((things T:Int) - 1) (by decide) (by decide) w h);have hwr:IntKind.i64.wrap ((things T:Int) - 1)=(things T:Int) - 1:=by rw [IntKind.wrap_i64];omega
 generalize hcc:things T=cu at*;have HG:=lH h;clear hT ok hum kt hcc h;go_enter Tryz.func70,Tryz.ntmps70;go_wp2_with fail;refine HMD.out.mono ?_;rintro e w1 ⟨rfl,hw⟩;subst hw;go_wp2_with fail;refine HN.out.mono ?_;rintro e w2 ⟨rfl,g2,f2⟩;have F2:=lH f2;have G2:=lH g2;have HIN:=lH (gtinos_ o K t T w2 (HT.out w2 f2) OK.out);clear f2 g2 c0 hlen;go_wp2_with fail;refine HIN.out.mono ?_;rintro e w3 ⟨v,rfl,hrow,f3⟩;change RowNew numC 1 3 w3 w2.heap.size v ((inosT T).map fun k:Nat=>(k:Int)) at hrow;obtain ⟨a,cap,hv⟩:=hrow.shape;rw [List.length_map] at hv;subst hv;have HROW:=lH hrow;have G3:=lH (G2.out.no f3);have F3:=lH (pf_trans F2.out f3.of_no);change Hid (RowNew numC 1 3 w3 w2.heap.size (.slice a (inosT T).length cap) ((inosT T).map fun k:Nat=>(k:Int))) at HROW;have HIS:Hid (∀k∈inosT T,∃x,T k=some x∧k≤128):=lH (fun k hk=>by
  have h1:=(List.mem_filter.1 hk).2;obtain ⟨x,hx⟩:=Option.isSome_iff_exists.1 h1;exact ⟨x,hx,(OK.out.lt hx).2⟩)
 generalize inosT T=L at*;clear hrow f3 HIN HN;go_wp2_with fail;go_loopw [21] (fun u wr=>∃j:Nat,u=.int .i64 j∧j≤L.length∧Hid (Pg wr p base ((L.take j).foldl (penThing T) (penNum s ((cu:Int) - 1) 2)))∧Hid (Fr (Pf w3 p base) w3 wr)) (fun u _=>L.length - (intOf u).toNat)
 case atStart=>exact ⟨0,rfl,Nat.zero_le _,lH (by rw [List.take_zero,List.foldl_nil];exact G3.out),lH (Fr.refl _)⟩
 case round=>
  obtain ⟨j,rfl,hj,HGR,HFR⟩:=hrel;by_cases hlt:j<L.length
  ·obtain ⟨b,rfl,hm,_,hr⟩:=HROW.out.at (by rw [List.length_map];omega);have hr2:=hr.pf G3.out HFR.out (by decide) (by decide);have k1:=numC_at hr2 hlt;have hl2:=hr.len;rw [List.length_map] at hl2;have hml:cap≤9223372036854775807:=hm;have q1:(j:Int)<(L.length:Int):=(by omega)
   have q2:(j:Int)<(cap:Int):=(by omega)
   have q3:(0:Int)≤(j:Int):=(by omega)
   have HTK:Hid (L.take (j+1)=L.take j++ [L[j]]):=lH (by rw [List.take_add_one,List.getElem?_eq_getElem hlt];rfl);obtain ⟨x,hx,hk128⟩:=HIS.out L[j] (List.getElem_mem hlt);generalize L[j]=k at*;have HX:=lH hx;obtain ⟨mb2,tp2,_,kt2,_,hum2,hth2⟩:=HT.out wr (pf_trans F3.out HFR.out);have c0:wr.cell? ⟨t,0,none⟩=some (.map (some mb2)):=(by rw [cell_at kt2];rfl)
   have hlk:=hum2.look (k:Int) (show I64 _ by unfold I64;omega) (t:=130) (e:=142) Tryz.underlying130 (z:=.pointer none) (by kernel_rfl) false;rw [show thm T tp2 (k:Int)=some (tp2 k) by simp [thm,hx]] at hlk;have hlk':(Instr.lookup 130 (.map (some mb2)) (.int .i64 k) false).run Tryz.prog wr=.ok (.pointer (some ⟨tp2 k,0,none⟩)) wr:=hlk;obtain ⟨vin,kx⟩:=(hth2 k x hx).cells;have KX:=lH kx;have HNM:Hid (k≠1→(ba x.name).size≤1000000):=lH (fun h1=>by
    rw [ba_size];have:=(okName_no x.name (OK.out.name k x hx h1)).2.2;omega)
   clear hr hr2 hm kt2 hum2 hth2 hlk kx hx;by_cases h1:k=1
   ·subst h1;have HG3:Hid (Pg wr p base ((L.take (j+1)).foldl (penThing T) (penNum s ((cu:Int) - 1) 2))):=lH (by
     rw [HTK.out,List.foldl_append];exact HGR.out)
    go_wp2_with fail;go_roundw
    case rel=>exact ⟨j+1,by go_num,hlt,HG3,HFR⟩
    case measure=>simp [intOf];omega
   ·have q4:((k:Int)==1)=false:=by rw [beq_eq_false_iff_ne];omega
    have HST:Hid (∀s,penThing T s k=penPut (penRaw (penNum (penNum s k 2) x.up 2) (ba x.name).data.toList) [if x.dir then 1 else 0]):=lH (fun s=>by
     unfold penThing;rw [if_neg h1,HX.out])
    have HNM':=lH (HNM.out h1);obtain ⟨up,nm,dir⟩:=x;dsimp only at KX HST HNM';have HE:Hid (∀w',Pg w' p base (penThing T ((L.take j).foldl (penThing T) (penNum s ((cu:Int) - 1) 2)) k)→Pg w' p base ((L.take (j+1)).foldl (penThing T) (penNum s ((cu:Int) - 1) 2))):=lH (fun w' g=>by rw [HTK.out,List.foldl_append];exact g);generalize (L.take j).foldl (penThing T) (penNum s ((cu:Int) - 1) 2)=s0 at*;go_wp2_with fail;refine (num_ p base 2 s0 k (by decide) (by decide) _ HGR.out).mono ?_;rintro e w4 ⟨rfl,g4,f4⟩;have k4:=pf_keeps HGR.out f4 KX.out (by decide) (by decide);have p0:w4.cell? ⟨tp2 k,0,none⟩=some (.int .i64 up):=(by rw [cell_at k4];rfl)
    have G4:=lH g4;have F4:=lH (pf_trans HFR.out f4);have K4:=lH k4;clear g4 f4 k4 k1 c0 hlk';go_wp2_with fail;refine (num_ p base 2 _ up (by decide) (by decide) _ G4.out).mono ?_;rintro e w5 ⟨rfl,g5,f5⟩;have k5:=pf_keeps G4.out f5 K4.out (by decide) (by decide);have p1:w5.cell? ⟨tp2 k,1,none⟩=some (.string (ba nm)):=(by rw [cell_at k5];rfl)
    have G5:=lH g5;have F5:=lH (pf_trans F4.out f5);have K5:=lH k5;clear g5 f5 k5 p0;go_wp2_with fail;refine (text_ p base _ (ba nm) HNM'.out _ G5.out).mono ?_;rintro e w6 ⟨rfl,g6,f6⟩;have k6:=pf_keeps G5.out f6 K5.out (by decide) (by decide);have p2:w6.cell? ⟨tp2 k,2,none⟩=some (.bool dir):=(by rw [cell_at k6];rfl)
    have G6:=lH g6;have F6:=lH (pf_trans F5.out f6);clear g6 f6 k6 p1;go_wp2_with fail;refine (pbool_ p base _ dir _ G6.out).mono ?_;rintro e w7 ⟨rfl,g7,f7⟩;have HG7:=lH (HE.out w7 (by rw [HST.out];exact g7));have HF7:=lH (pf_trans F6.out f7);clear g7 f7 p2;go_wp2_with fail;go_roundw
    case rel=>exact ⟨j+1,by go_num,hlt,HG7,HF7⟩
    case measure=>simp [intOf];omega
  ·obtain rfl:j=L.length:=by omega
   have q1:¬(L.length:Int)<(L.length:Int):=(by omega)
   have HZ:Hid (Pg wr p base Z):=lH (by rw [hp.out];have:=HGR.out;rwa [List.take_length] at this);go_wp2_with fail;exact bodyPost_end (v:=.tuple #[]) (by simp [results,Tryz.results70,go_sem]) rfl (HR.out _ _ rfl HZ.out (pf_trans F3.out HFR.out))
theorem asks_alone (B:St) (r:Req) (st:List Sz) (dl:List Dl) (k:Int) (hk:k=4∨k=5∨k=8):(deedF r st dl k B).2.2=B:=by
 unfold deedF;rcases hk with rfl|rfl|rfl
 ·show (lookD B r).2.2=B;unfold lookD;split<;>rfl
 ·show (listD B r).2.2=B;unfold listD;split<;>rfl
 ·show (mapD B r).2.2=B;unfold mapD;split<;>rfl
theorem lives_first {S:St} {r:Req} {st:List Sz} {dl:List Dl} {x:RepS×St} (iw:InvWin S) (hd:Did S r st dl x) (hc:0≤r.c∧r.c<4) (hl:r.l=lifeS S r.c+1) (hl2:r.l≤1048576) (hq:r.q=1) (hk:r.kind=4):
  x.2.K=S.K.filter (fun y=> !(y.c==r.c))∧∃bs,x.2.W r.c.toNat=some (r.l,1,bs):=by
 have hcc:((r.c.toNat:Nat):Int)=r.c:=Int.toNat_of_nonneg hc.1;have hls:lifeS S r.c=match S.W r.c.toNat with|none=> -1|some (life,_,_)=>life:=by
  unfold lifeS lifeOf;rw [if_neg (by omega),if_pos hc];cases S.W r.c.toNat<;>rfl
 have hl0:0≤r.l:=by
  rw [hls] at hl;cases hW:S.W r.c.toNat with
  | none=>rw [hW] at hl;dsimp only at hl;omega
  | some y=>
   have:=iw _ y hW;rw [hW] at hl;obtain ⟨y1,y2⟩:=y;dsimp only at hl this;omega
 have ha:askOf S.W r.c r.l r.q=(3,none):=by
  unfold askOf;rw [if_pos ⟨hc.1,hc.2,hl0,hl2,by omega,by omega⟩];cases hW:S.W r.c.toNat with
  | none=>rfl
  | some y=>
   obtain ⟨life,seq,bs⟩:=y;rw [hW] at hls;dsimp only at hls ⊢;have hkd:kindOf r.l r.q life seq=3:=by
    unfold kindOf;rw [if_neg (by omega),if_pos (by omega)]
   rw [hkd];rfl
 unfold Did at hd;rw [if_neg (by omega),if_neg (by omega),if_neg (by omega),if_neg (by omega),ha] at hd;dsimp only at hd;rw [if_neg (by decide),if_neg (by decide)] at hd;have hB:(deedF r st dl r.kind (askB S r.c.toNat 3)).2.2=askB S r.c.toNat 3:=asks_alone _ r st dl r.kind (.inl hk);have h1:x.2={askB S r.c.toNat 3 with W:=(tell (askedS (triedOf (deedF r st dl r.kind (askB S r.c.toNat 3))) r.c.toNat r)).2.W}:=by
  rw [hd];unfold tell askedS;dsimp only;rw [triedOf_st,hB]
 constructor
 ·rw [h1];show (askB S r.c.toNat 3).K=_;unfold askB;rw [if_pos rfl,hcc]
 ·rw [hd];unfold tell askedS;dsimp only;rw [upd_same,hq];exact ⟨_,rfl⟩
theorem lives_life {S:St} {c l q:Int} {bs:List UInt8} (hc:0≤c∧c<4) (h:S.W c.toNat=some (l,q,bs)):lifeS S c=l:=by
 unfold lifeS lifeOf;rw [if_neg (by omega),if_pos hc,h]
theorem lives_elder {S:St} {r:Req} {st:List Sz} {dl:List Dl} {x:RepS×St} (hd:Did S r st dl x) (hc:0≤r.c∧r.c<4) {l q:Int} {bs:List UInt8} (hW:S.W r.c.toNat=some (l,q,bs)) (hl:r.l<l) (hk:r.kind=4):x.1.e=17∧x.2=S:=by
 have ha:(askOf S.W r.c r.l r.q).1=2:=by
  unfold askOf;split
  ·rw [hW];dsimp only;unfold kindOf;rw [if_pos (.inl hl)]
  ·rfl
 unfold Did at hd;rw [if_neg (by omega),if_neg (by omega),if_neg (by omega),if_neg (by omega),if_neg (by omega),if_pos ha] at hd;rw [hd];exact ⟨rfl,rfl⟩
theorem filter_take (p:Tok→Bool) {L:List Tok} {i:Nat} (hi:i<L.length) (hp:p L[i]=true):(L.filter p)[((L.take i).filter p).length]? =some L[i]:=by
 have h1:L.filter p=(L.take i).filter p++(L[i]::(L.drop (i+1)).filter p):=by
  have h2:L=L.take i++(L[i]::L.drop (i+1)):=by
   rw [← List.drop_eq_getElem_cons hi,List.take_append_drop]
  have h3:=congrArg (List.filter p) h2;rw [List.filter_append,List.filter_cons_of_pos hp] at h3;exact h3
 rw [h1,List.getElem?_append_right (Nat.le_refl _),Nat.sub_self];rfl
theorem filter_next (p:Tok→Bool) {L:List Tok} {i:Nat} (hi:i<L.length):((L.take (i+1)).filter p).length=((L.take i).filter p).length+if p L[i]=true then 1 else 0:=by
 rw [List.take_succ_eq_append_getElem hi,List.filter_append,List.length_append];by_cases hp:p L[i]=true
 ·rw [if_pos hp,List.filter_cons_of_pos hp];rfl
 ·rw [if_neg hp,List.filter_cons_of_neg hp];rfl
def PgZ (Z:Nat→Prop) (w:World) (p base:Nat) (s:PenS):Prop:=
 ∃v,w.heap[p]? =some (.cells #[v,.int .i64 s.2] 122 (0,0))∧w.ownsRow base 5 1 v s.1.length (u8s s.1)∧base≤w.heap.size∧s.1.length≤65536∧(∀k,v.ownBlock=some k→¬Z k)∧∀k,Z k→k<w.heap.size
def PfZ (Z:Nat→Prop) (w:World) (p base:Nat) (k:Nat):Prop:=k=p∨(base≤k∧¬Z k∧∃cur fz,w.heap[k]? =some (.cells cur 5 fz))
theorem PgZ.no {Z:Nat→Prop} {w w':World} {p base:Nat} {s:PenS} (h:PgZ Z w p base s) (f:Fr No w w'):PgZ Z w' p base s:=by
 obtain ⟨v,hk,ho,hb,hl,hz,hy⟩:=h;refine ⟨v,f.block_of hk id,⟨ho.1,?_⟩,Nat.le_trans hb f.size,hl,hz,fun k e=>Nat.lt_of_lt_of_le (hy k e) f.size⟩;rcases ho.2 with h2|⟨g,cap,cur,rfl,hb,hh,r⟩
 ·exact .inl h2
 ·exact .inr ⟨g,cap,cur,rfl,hb,f.block_of hh id,r⟩
theorem PgZ.pg {Z:Nat→Prop} {w:World} {p base:Nat} {s:PenS} (h:PgZ Z w p base s):Pg w p base s:=by
 obtain ⟨v,h1,h2,h3,h4,_⟩:=h;exact ⟨v,h1,h2,h3,h4⟩
theorem PfZ.pf {Z:Nat→Prop} {w:World} {p base k:Nat} (h:PfZ Z w p base k):Pf w p base k:=by
 rcases h with e|⟨h1,_,h2⟩
 ·exact .inl e
 ·exact .inr ⟨h1,h2⟩
theorem Pg.z {Z:Nat→Prop} {w w':World} {p base:Nat} {s:PenS} (h:Pg w p base s) (f:Fr No w w') (hZ:∀k,Z k→w.heap.size≤k∧k<w'.heap.size):PgZ Z w' p base s:=by
 obtain ⟨v,hk,ho,hb,hl⟩:=h;refine ⟨v,f.block_of hk id,⟨ho.1,?_⟩,Nat.le_trans hb f.size,hl,fun k e hz=> ?_,fun k e=>(hZ k e).2⟩
 ·rcases ho.2 with h2|⟨g,cap,cur,rfl,hb,hh,r⟩
  ·exact .inl h2
  ·exact .inr ⟨g,cap,cur,rfl,hb,f.block_of hh id,r⟩
 ·rcases ho.2 with ⟨rfl,_⟩|⟨g,cap,cur,rfl,hb,hh,r⟩
  ·simp [Value.ownBlock] at e
  ·simp [Value.ownBlock] at e;subst e;have:=(hZ g hz).1;have:=lt_of_block hh;omega
theorem pfz_back {Z:Nat→Prop} {w w':World} {p base:Nat} (f:Fr No w w'):∀j,j<w.heap.size→PfZ Z w' p base j→PfZ Z w p base j:=by
 rintro j hj (e|⟨hb,hz,cur,fz,e⟩)
 ·exact .inl e
 ·exact .inr ⟨hb,hz,cur,fz,by rw [← f.block j hj id];exact e⟩
theorem pfz_trans {Z:Nat→Prop} {w w1 w2:World} {p base:Nat} (f:Fr (PfZ Z w p base) w w1) (g:Fr (PfZ Z w1 p base) w1 w2):Fr (PfZ Z w p base) w w2:=
 f.trans g (fun j hj e=>Classical.byContradiction fun hn=>hn (by
  rcases e with e|⟨hb,hz,cur,fz,e⟩
  ·exact .inl e
  ·exact .inr ⟨hb,hz,cur,fz,by rw [← f.block j hj hn];exact e⟩))
variable {Z:Nat→Prop}
theorem put_failZ (p base:Nat) (s:PenS) (e:Int) (he:(e !=0)=true) (w:World) (h:PgZ Z w p base s):
  Calls Tryz.prog 130 #[.pointer (some ⟨p,0,none⟩),.int .i64 e,.slice none 0 0] w fun x w'=>x=.returned (.tuple #[])∧PgZ Z w' p base (penFail s e)∧Fr (PfZ Z w p base) w w':=by
 obtain ⟨bs,bad⟩:=s;obtain ⟨v,hk,hown,hb,hl,hz,hy⟩:=h;have cb:w.cell? ⟨p,1,none⟩=some (.int .i64 bad):=by rw [cell_at hk];rfl
 have z1:=frozen_at hk 1;by_cases h0:bad=0
 ·subst h0;have HK:=lH hk;have HO:=lH hown;clear hk hown;go_enter Tryz.func130,Tryz.ntmps130;go_wp2_with fail
  go_end0
  have FS:Fr (fun k=>k=p) w (w.setCell ⟨p,1,none⟩ (.int .i64 e)):=Fr.setCell (S:=fun k=>k=p) (p:=⟨p,1,none⟩) (Fr.refl w) (.inl rfl) _;refine ⟨rfl,⟨v,?_,⟨HO.out.1,?_⟩,Nat.le_trans hb FS.size,hl,hz,fun k e=>Nat.lt_of_lt_of_le (hy k e) FS.size⟩,FS.mono (fun _ _ e=> .inl e)⟩
  ·simpa [penFail] using setCell_at HK.out 1 (.int .i64 e)
  ·rcases HO.out.2 with h|⟨g',cp,cur,h1,h2,h3,h4⟩
   ·exact .inl h
   ·exact .inr ⟨g',cp,cur,h1,h2,setCell_off h3 (fun e=>by have:=HK.out;rw [e,this] at h3;simp at h3) 1 _,h4⟩
 ·have t0:(bad !=0)=true:=by simpa using h0
  have HP:Hid (PgZ Z w p base (bs,bad)):=lH ⟨v,hk,hown,hb,hl,hz,hy⟩;have hf:penFail (bs,bad) e=(bs,bad):=by simp [penFail,h0]
  rw [hf];clear hk hown hf;go_enter Tryz.func130,Tryz.ntmps130;go_wp2_with fail
  go_end0
  exact ⟨rfl,HP.out,Fr.refl _⟩
theorem put_fitsZ (p base:Nat) (bs ys:List UInt8) (b off c:Nat) (w:World) (h:PgZ Z w p base (bs,0)) (hy:SlIs w (.slice (some ⟨b,off,none⟩) ys.length c) ys b off c) (h0:ys≠ []) (hl:bs.length+ys.length≤65536):
  Calls Tryz.prog 130 #[.pointer (some ⟨p,0,none⟩),.int .i64 0,.slice (some ⟨b,off,none⟩) ys.length c] w fun e w'=>e=.returned (.tuple #[])∧PgZ Z w' p base (bs++ys,0)∧Fr (PfZ Z w p base) w w':=by
 obtain ⟨v,hk,hown,hb,_,hz,hzl⟩:=h;dsimp only at hk hown;obtain ⟨_,hyc,hyb,hyx⟩:=hy;obtain ⟨i0,hi0,hz0,hz1,hz2⟩:=info_parts Tryz.info5;have HI:=lH hi0;have HZ0:=lH hz0;have HZ1:=lH hz1;have HZ2:=lH hz2;clear hi0 hz0 hz1 hz2;have tag:∀k,v.ownBlock=some k→base≤k∧∃cur,w.heap[k]? =some (.cells cur 5 (0,0)):=by
  intro k hk;rcases hown.2 with ⟨rfl,_⟩|⟨g,cp,cur,rfl,hb,hh,_⟩
  ·simp [Value.ownBlock] at hk
  ·simp [Value.ownBlock] at hk;subst hk;exact ⟨hb,cur,hh⟩
 obtain ⟨a,c1,rfl⟩:∃a c1,v=.slice a bs.length c1:=by
  rcases hown.2 with ⟨rfl,hn⟩|⟨g,cp,cur,rfl,_⟩
  ·exact ⟨none,0,by rw [hn]⟩
  ·exact ⟨_,_,rfl⟩
 have c0:w.cell? ⟨p,0,none⟩=some (.slice a bs.length c1):=by rw [cell_at hk];rfl
 have cb:w.cell? ⟨p,1,none⟩=some (.int .i64 0):=by rw [cell_at hk];rfl
 have z0:=frozen_at hk 0;have q1:¬(65536:Int) - (bs.length:Int)<(ys.length:Int):=by omega
 have hym:0<ys.length:=by cases ys with|nil=>exact absurd rfl h0|cons x r=>simp
 have HY:=lH hyx;have TAG:=lH tag;have HK:=lH hk;have HB:=lH hb;have HZN:=lH hz;have HZL:=lH hzl;have HLL:=lH hl;generalize hml:ys.length=m at*;have HM:=lH hml;generalize hnl:bs.length=n at*;have HN:=lH hnl;clear h0 hyx tag hk hb hml hnl hz hzl hl;go_enter Tryz.func130,Tryz.ntmps130;go_wp2_with (at_builtin;refine wpList_append_lies _ rfl _ _ 27 rfl base 5 i0 (.int .u8 0) 1 1 Tryz.underlying27 HI.out HZ0.out HZ1.out HZ2.out rfl (by decide) (.slice a n c1) n (u8s bs) rfl hown ⟨b,off,none⟩ m c (u8s ys) rfl ?d0 ?d1 ?d2 hym (by unfold maxLen;omega) (by omega) HB.out w.heap.size rfl ?_)
 case d0=>rw [u8s,List.length_map,HM.out]
 case d1=>
  intro j u hj;simp only [u8s,List.getElem?_map,Option.map_eq_some_iff] at hj;obtain ⟨x,hx,rfl⟩:=hj;exact HY.out j x hx
 case d2=>
  intro u hu;obtain ⟨x,_,rfl⟩:=List.mem_map.1 hu;rfl
 intro g cap w2 hown2 hgrow hat hgl;have bn:(Value.slice a n c1).ownBlock≠some p:=fun e=>by
  obtain ⟨_,cur,hh⟩:=TAG.out p e;rw [HK.out] at hh;simp at hh
 have F2:Fr (fun k=>(Value.slice a n c1).ownBlock=some k) w w2:=(Fr.refl (S:=fun k=>(Value.slice a n c1).ownBlock=some k) w).grown hgrow (fun k hk=> .inl hk);have k2:w2.heap[p]? =some (.cells #[.slice a n c1,.int .i64 0] 122 (0,0)):=F2.block_of HK.out bn;have c2:w2.cell? ⟨p,0,none⟩=some (.slice a n c1):=by rw [cell_at k2];rfl
 have z2:=frozen_at k2 0;have K2:=lH k2;have HO:=lH hown2;have HF:=lH F2;have HAT:=lH hat;clear hgrow hat hgl k2 hown2 F2 hown bn;go_wp2_with fail
 go_end0
 refine ⟨rfl,⟨.slice (some ⟨g,0,none⟩) (n+m) cap,?_,?_,?_,?_,?_,?_⟩,?_⟩
 ·have:=setCell_at K2.out 0 (.slice (some ⟨g,0,none⟩) (n+m) cap);simpa using this
 ·rw [List.length_append,HN.out,HM.out];have e:u8s (bs++ys)=u8s bs++u8s ys:=by simp [u8s]
  rw [e];refine ⟨HO.out.1,?_⟩;rcases HO.out.2 with h|⟨g',cp,cur,h1,h2,h3,h4⟩
  ·exact .inl h
  ·exact .inr ⟨g',cp,cur,h1,h2,setCell_off h3 (fun e=>by have:=K2.out;rw [e,this] at h3;simp at h3) 0 _,h4⟩
 ·exact Nat.le_trans HB.out (by simpa [World.setCell] using HF.out.size)
 ·rw [List.length_append,HN.out,HM.out];exact HLL.out
 ·intro k e hk;simp [Value.ownBlock] at e;subst e;rcases HAT.out with h|h
  ·exact HZN.out _ h hk
  ·have:=HZL.out _ hk;omega
 ·intro k hk;exact Nat.lt_of_lt_of_le (HZL.out k hk) (by simpa [World.setCell] using HF.out.size)
 ·refine Fr.setCell (HF.out.mono (fun k _ hk=> ?_)) (.inl (.inl rfl)) _;exact .inr ⟨(TAG.out k hk).1,HZN.out k hk,by obtain ⟨_,cur,h⟩:=TAG.out k hk;exact ⟨cur,_,h⟩⟩
theorem put_bytesZ (p base:Nat) (s:PenS) (ys:List UInt8) (b off c:Nat) (w:World) (h:PgZ Z w p base s) (hy:SlIs w (.slice (some ⟨b,off,none⟩) ys.length c) ys b off c) (h0:ys≠ []) (hm:ys.length≤1000000):
  Calls Tryz.prog 130 #[.pointer (some ⟨p,0,none⟩),.int .i64 0,.slice (some ⟨b,off,none⟩) ys.length c] w fun x w'=>x=.returned (.tuple #[])∧PgZ Z w' p base (penPut s ys)∧Fr (PfZ Z w p base) w w':=by
 obtain ⟨bs,bad⟩:=s;by_cases hb:bad=0
 ·subst hb;by_cases hf:bs.length+ys.length≤65536
  ·refine (put_fitsZ p base bs ys b off c w h hy h0 hf).mono ?_;rintro x w' ⟨rfl,h1,h2⟩;have e:penPut (bs,0) ys=(bs++ys,0):=(by simp [penPut];omega)
   rw [e];exact ⟨rfl,h1,h2⟩
  ·have e:penPut (bs,0) ys=(bs,3):=by simp [penPut];omega
   rw [e];obtain ⟨v,hk,hown,hb,hl,hz,hzl⟩:=h;obtain ⟨a,c1,rfl⟩:∃a c1,v=.slice a bs.length c1:=by
    rcases hown.2 with ⟨rfl,hn⟩|⟨g,cp,cur,rfl,_⟩
    ·exact ⟨none,0,by rw [hn]⟩
    ·exact ⟨_,_,rfl⟩
   have c0:w.cell? ⟨p,0,none⟩=some (.slice a bs.length c1):=(by rw [cell_at hk];rfl)
   have cb:w.cell? ⟨p,1,none⟩=some (.int .i64 0):=(by rw [cell_at hk];rfl)
   have z1:=frozen_at hk 1;have q1:(65536:Int) - (bs.length:Int)<(ys.length:Int):=(by omega)
   have HK:=lH hk;have HO:=lH hown;have HZN:=lH hz;have HZL:=lH hzl;clear hk hown hy hz hzl;generalize hml:ys.length=m at*;generalize hnl:bs.length=n at*;have HN:=lH hnl;clear hml hnl;go_enter Tryz.func130,Tryz.ntmps130;go_wp2_with fail
   go_end0
   have FS:Fr (fun k=>k=p) w (w.setCell ⟨p,1,none⟩ (.int .i64 3)):=Fr.setCell (S:=fun k=>k=p) (p:=⟨p,1,none⟩) (Fr.refl w) (.inl rfl) _;refine ⟨rfl,⟨_,by simpa using setCell_at HK.out 1 (.int .i64 3),⟨by simp [u8s],?_⟩,Nat.le_trans hb FS.size,by rw [HN.out];exact hl,HZN.out,fun k e=>Nat.lt_of_lt_of_le (HZL.out k e) FS.size⟩,FS.mono (fun _ _ e=> .inl e)⟩;rw [HN.out];rcases HO.out.2 with h|⟨g',cp,cur,h1,h2,h3,h4⟩
   ·exact .inl h
   ·exact .inr ⟨g',cp,cur,h1,h2,setCell_off h3 (fun e=>by have:=HK.out;rw [e,this] at h3;simp at h3) 1 _,h4⟩
 ·have t0:(bad !=0)=true:=by simpa using hb
  have e:penPut (bs,bad) ys=(bs,bad):=by simp [penPut,hb]
  rw [e];have HP:=lH h;obtain ⟨v,hk,hown,hb,hl,hz,hzl⟩:=h;have cb:w.cell? ⟨p,1,none⟩=some (.int .i64 bad):=by rw [cell_at hk];rfl
  clear hk hown hy e;go_enter Tryz.func130,Tryz.ntmps130;go_wp2_with fail
  go_end0
  exact ⟨rfl,HP.out,Fr.refl _⟩
theorem num_okZ (p base wd:Nat) (s:PenS) (x:Nat) (h1:1≤wd) (h2:wd≤7) (hx:x<2 ^ (8*wd)) (w:World) (h:PgZ Z w p base s):
  Calls Tryz.prog 76 #[.pointer (some ⟨p,0,none⟩),.int .i64 x,.int .i64 wd] w fun e w'=>e=.returned (.tuple #[])∧PgZ Z w' p base (penPut s (numB wd x))∧Fr (PfZ Z w p base) w w':=by
 have t1:(1:Int)≤(wd:Int):=by omega
 have t2:(wd:Int)≤7:=by omega
 have t3:¬(x:Int)<0:=by omega
 have t4:((x:Int) / 2 ^ (8*wd) !=0)=false:=by
  have:(x:Int) / 2 ^ (8*wd)=0:=by
   have e:((x:Int) / 2 ^ (8*wd))=((x / 2 ^ (8*wd):Nat):Int):=(by simp)
   rw [e,Nat.div_eq_of_lt hx];rfl
  simp [this]
 have HP:=lH h;have HX:=lH hx;obtain ⟨i0,hi,hz0,hz1,hz2⟩:=info_parts Tryz.info5;have HI:=lH hi;have HZ0:=lH hz0;have HZ1:=lH hz1;have HZ2:=lH hz2;clear hi hz0 hz1 hz2 h hx;have hown0:w.ownsRow w.heap.size 5 1 (.slice none 0 0) 0 []:=⟨rfl,.inl ⟨rfl,rfl⟩⟩
 go_enter Tryz.func76,Tryz.ntmps76;go_wp2_with (go_at_call 129;go_in);go_loopw [6,7] (fun b i wr=>∃m:Nat,i=.int .i64 ((m:Int) - 1)∧m≤wd∧wr.ownsRow w.heap.size 5 1 b (wd - m) (u8s ((numB wd x).take (wd - m)))∧Fr No w wr) (fun _ i _=>(intOf i+1).toNat)
 case atStart=>
  refine ⟨wd,rfl,Nat.le_refl _,?_,Fr.refl _⟩;rw [Nat.sub_self];exact hown0
 case round=>
  obtain ⟨m,rfl,hm,hown,f2⟩:=hrel;clear hown0;rcases m with _|m
  ·rw [Nat.sub_zero,List.take_of_length_le (by rw [numB_length];exact Nat.le_refl _)] at hown;obtain ⟨g,cap,rfl,sl⟩:∃g cap,u6=.slice (some ⟨g,0,none⟩) wd cap∧SlIs wr (.slice (some ⟨g,0,none⟩) (numB wd x).length cap) (numB wd x) g 0 cap:=by
    rcases hown.2 with ⟨_,hn⟩|⟨g,cap,cur,rfl,_⟩
    ·exact absurd hn (by omega)
    ·exact ⟨g,cap,rfl,own1_is hown (numB_length wd x).symm⟩
   have SL:=lH sl;have HB:=lH (put_bytesZ p base s (numB wd x) g 0 cap wr (HP.out.no f2) SL.out (by intro e;have:=numB_length wd x;rw [e] at this;simp at this;omega) (by rw [numB_length];omega));rw [numB_length] at HB;clear sl hown;go_wp2_with fail;refine HB.out.mono ?_;rintro e w9 ⟨rfl,h9,f9⟩;have H9:=lH h9;clear h9;go_wp2_with fail
   go_end0
   exact ⟨rfl,H9.out,f2.of_no.trans f9 (pfz_back f2)⟩
  ·rw [show (((m+1:Nat)):Int) - 1=(m:Int) by omega];have q0:(0:Int)≤(m:Int):=(by omega)
   have q1:IntKind.i64.wrap (8*(m:Int))=8*(m:Int):=IntWalk.i64_in _ (by omega);have q2:(0:Int)≤8*(m:Int):=(by omega)
   have q3:8*(m:Int)<64:=(by omega)
   have q4:(8*(m:Int)).toNat=8*m:=(by omega)
   go_wp2_with (at_builtin;refine wpList_append_lies _ rfl _ _ 27 rfl w.heap.size 5 i0 (.int .u8 0) 1 1 Tryz.underlying27 HI.out HZ0.out HZ1.out HZ2.out rfl (by decide) u6 (wd - (m+1)) (u8s ((numB wd x).take (wd - (m+1)))) rfl (hown.alloc _) ⟨wr.heap.size,0,none⟩ 1 1 [.int .u8 ((x:Int) / 2 ^ (8*m) % 256)] rfl rfl ?d1 ?d2 (by decide) (by unfold maxLen;omega) (by omega) ?d5 (wr.heap.size+1) ?d6 ?_)
   case d1=>exact World.news_of_block (cs:= #[.int .u8 ((x:Int) / 2 ^ (8*m) % 256)]) (t:=5) (fr:=(0,0)) (heap_alloc_new wr _)
   case d2=>simp [Value.oneCell']
   case d5=>have:=f2.size;simp;omega
   case d6=>simp
   intro g cap w1 hown1 hgrow1 hat1 hgl1;have F1:Fr No w w1:=f2.alloc _|>.grown hgrow1 (fun z hz=> .inr (own1_base hown z hz))
   have HO1:Hid (w1.ownsRow w.heap.size 5 1 (.slice (some ⟨g,0,none⟩) (wd - (m+1)+1) cap) (wd - m) (u8s ((numB wd x).take (wd - m)))):=lH (by
    rw [numB_step wd x m hm,show wd - m=wd - (m+1)+1 by omega];have e:u8s ((numB wd x).take (wd - (m+1))++ [UInt8.ofNat (x / 2 ^ (8*m) % 256)])=u8s ((numB wd x).take (wd - (m+1)))++ [.int .u8 ((x:Int) / 2 ^ (8*m) % 256)]:=by
     simp [u8s]
    rw [e];exact hown1)
   clear hown1 hgrow1 hat1 hgl1 hown f2;go_wp2_with fail;go_roundw
   case rel=>
    exact ⟨m,rfl,by omega,HO1.out,F1⟩
   case measure=>simp [intOf]
theorem num_lowZ (p base wd:Nat) (s:PenS) (x:Int) (h1:1≤wd) (h2:wd≤7) (hx:x<0) (w:World) (h:PgZ Z w p base s):
  Calls Tryz.prog 76 #[.pointer (some ⟨p,0,none⟩),.int .i64 x,.int .i64 wd] w fun e w'=>e=.returned (.tuple #[])∧PgZ Z w' p base (penFail s 1)∧Fr (PfZ Z w p base) w w':=by
 have t1:(1:Int)≤(wd:Int):=by omega
 have t2:(wd:Int)≤7:=by omega
 have HB:=lH (put_failZ p base s 1 rfl w h);go_enter Tryz.func76,Tryz.ntmps76;go_wp2_with (go_at_call 129;go_in);refine HB.out.mono ?_;rintro e w9 ⟨rfl,h9,f9⟩;have H9:=lH h9;clear h9;go_wp2_with fail;exact bodyPost_ret (v:=.tuple #[]) (by simp [results,Tryz.results76,go_sem]) rfl ⟨rfl,H9.out,f9⟩
theorem num_highZ (p base wd:Nat) (s:PenS) (x:Nat) (h1:1≤wd) (h2:wd≤7) (hx:2 ^ (8*wd)≤x) (w:World) (h:PgZ Z w p base s):
  Calls Tryz.prog 76 #[.pointer (some ⟨p,0,none⟩),.int .i64 x,.int .i64 wd] w fun e w'=>e=.returned (.tuple #[])∧PgZ Z w' p base (penFail s 1)∧Fr (PfZ Z w p base) w w':=by
 have t1:(1:Int)≤(wd:Int):=by omega
 have t2:(wd:Int)≤7:=by omega
 have t3:¬(x:Int)<0:=by omega
 have t4:((x:Int) / 2 ^ (8*wd) !=0)=true:=by
  have e:((x:Int) / 2 ^ (8*wd))=((x / 2 ^ (8*wd):Nat):Int):=by simp
  rw [e];have:0<x / 2 ^ (8*wd):=Nat.div_pos hx (Nat.two_pow_pos _);simp;omega
 have HB:=lH (put_failZ p base s 1 rfl w h);clear hx;go_enter Tryz.func76,Tryz.ntmps76;go_wp2_with (go_at_call 129;go_in);refine HB.out.mono ?_;rintro e w9 ⟨rfl,h9,f9⟩;have H9:=lH h9;clear h9;go_wp2_with fail;exact bodyPost_ret (v:=.tuple #[]) (by simp [results,Tryz.results76,go_sem]) rfl ⟨rfl,H9.out,f9⟩
theorem num_Z (p base wd:Nat) (s:PenS) (x:Int) (h1:1≤wd) (h2:wd≤7) (w:World) (h:PgZ Z w p base s):
  Calls Tryz.prog 76 #[.pointer (some ⟨p,0,none⟩),.int .i64 x,.int .i64 wd] w fun e w'=>e=.returned (.tuple #[])∧PgZ Z w' p base (penNum s x wd)∧Fr (PfZ Z w p base) w w':=by
 by_cases hx:x<0
 ·rw [show penNum s x wd=penFail s 1 by unfold penNum;rw [if_neg (by omega)]];exact num_lowZ p base wd s x h1 h2 hx w h
 ·obtain ⟨n,rfl⟩:∃n:Nat,x=n:=⟨x.toNat,by omega⟩
  by_cases hl:n<2 ^ (8*wd)
  ·have e:penNum s n wd=penPut s (numB wd n):=by
    unfold penNum;rw [if_pos ⟨by omega,by exact_mod_cast hl⟩];simp
   rw [e];exact num_okZ p base wd s n h1 h2 hl w h
  ·have e:penNum s n wd=penFail s 1:=by
    unfold penNum;rw [if_neg (fun h=>hl (by exact_mod_cast h.2))]
   rw [e];exact num_highZ p base wd s n h1 h2 (by omega) w h
theorem raw_noneZ (p base:Nat) (s:PenS) (v:Value) (hv:v=.slice none 0 0∨∃b off c,v=.slice (some ⟨b,off,none⟩) 0 c) (w:World) (h:PgZ Z w p base s):
  Calls Tryz.prog 77 #[.pointer (some ⟨p,0,none⟩),v] w fun e w'=>e=.returned (.tuple #[])∧PgZ Z w' p base (penPut s [0,0])∧Fr (PfZ Z w p base) w w':=by
 have HP:=lH h;clear h;have F0:Fr No w (w.alloc (.cells #[.int .u8 0,.int .u8 0] 5)):=(Fr.refl w).alloc _;have HB:=lH (put_bytesZ p base s [0,0] w.heap.size 0 2 (w.alloc (.cells #[.int .u8 0,.int .u8 0] 5)) (HP.out.no F0) (is_new w [0,0]) (by simp) (by simp));rcases hv with rfl|⟨b,off,c,rfl⟩;all_goals
  go_enter Tryz.func77,Tryz.ntmps77;go_wp2_with fail;refine HB.out.mono ?_;rintro e w9 ⟨rfl,h9,f9⟩;have H9:=lH h9;clear h9;go_wp2_with fail
  go_end0
  exact ⟨rfl,H9.out,F0.of_no.trans f9 (pfz_back F0)⟩
theorem raw_someZ (p base:Nat) (s:PenS) (ys:List UInt8) (b off c:Nat) (w:World) (hy:SlIs w (.slice (some ⟨b,off,none⟩) ys.length c) ys b off c) (h0:ys≠ []) (hm:ys.length≤65535) (h:PgZ Z w p base s):
  Calls Tryz.prog 77 #[.pointer (some ⟨p,0,none⟩),.slice (some ⟨b,off,none⟩) ys.length c] w fun e w'=>e=.returned (.tuple #[])∧PgZ Z w' p base (penPut s (numB 2 ys.length++ys))∧Fr (PfZ Z w p base) w w':=by
 have HP:=lH h;obtain ⟨_,hyc,hyb,hyx⟩:=hy;obtain ⟨i0,hi0,hz0,hz1,hz2⟩:=info_parts Tryz.info5;have HI:=lH hi0;have HZ0:=lH hz0;have HZ1:=lH hz1;have HZ2:=lH hz2;have HY:=lH hyx;have H0:=lH h0;have hml0:0<ys.length:=by cases ys with|nil=>exact absurd rfl h0|cons x r=>simp
 clear hi0 hz0 hz1 hz2 h hyx h0;have q0:¬(65535:Int)<(ys.length:Int):=by omega
 generalize hml:ys.length=m at*;have HM:=lH hml;clear hml;have hown:(w.alloc (.cells #[.int .u8 ((m:Int) / 256),.int .u8 ((m:Int) % 256)] 5)).ownsRow w.heap.size 5 1 (.slice (some ⟨w.heap.size,0,none⟩) 2 2) 2 [.int .u8 ((m:Int) / 256),.int .u8 ((m:Int) % 256)]:=
  ⟨rfl,.inr ⟨w.heap.size,2,_,rfl,Nat.le_refl _,new_at w _,Nat.le_refl _,by decide,rfl,rfl⟩⟩
 have f0:Fr No w (w.alloc (.cells #[.int .u8 ((m:Int) / 256),.int .u8 ((m:Int) % 256)] 5)):=(Fr.refl w).alloc _;have F0:=lH f0;go_enter Tryz.func77,Tryz.ntmps77;go_wp2_with (at_builtin;refine wpList_append_lies _ rfl _ _ 27 rfl w.heap.size 5 i0 (.int .u8 0) 1 1 Tryz.underlying27 HI.out HZ0.out HZ1.out HZ2.out rfl (by decide) (.slice (some ⟨w.heap.size,0,none⟩) 2 2) 2 [.int .u8 ((m:Int) / 256),.int .u8 ((m:Int) % 256)] rfl hown ⟨b,off,none⟩ m c (u8s ys) rfl ?d0 ?d1 ?d2 hml0 (by unfold maxLen;omega) (by omega) ?d5 (w.heap.size+1) ?d6 ?_)
 case d0=>rw [u8s,List.length_map,HM.out]
 case d1=>
  intro j u hj;simp only [u8s,List.getElem?_map,Option.map_eq_some_iff] at hj;obtain ⟨x,hx,rfl⟩:=hj;exact HY.out j x hx
 case d2=>
  intro u hu;obtain ⟨x,_,rfl⟩:=List.mem_map.1 hu;rfl
 intro g cap w2 hown2 hgrow hat hgl;have F2:Fr No w w2:=f0.grown hgrow (fun z hz=>by simp [Value.ownBlock] at hz;exact .inr (by omega));have hnb:numB 2 m= [UInt8.ofNat (m / 256 % 256),UInt8.ofNat (m % 256)]:=numB2 m;have hl2:(numB 2 m++ys).length=2+m:=by rw [List.length_append,numB_length,HM.out]
 have SL:Hid (SlIs w2 (.slice (some ⟨g,0,none⟩) (numB 2 m++ys).length cap) (numB 2 m++ys) g 0 cap):=lH (by
  refine own1_is (base:=w.heap.size) (n:=(numB 2 m++ys).length) ?_ rfl;have e:u8s (numB 2 m++ys)= [.int .u8 ((m:Int) / 256),.int .u8 ((m:Int) % 256)]++u8s ys:=by
   rw [hnb];simp [u8s];omega
  rw [hl2,e];exact hown2)
 have HB:=lH (put_bytesZ p base s (numB 2 m++ys) g 0 cap w2 (HP.out.no F2) SL.out (by rw [hnb];simp) (by rw [hl2];omega));rw [hl2] at HB;clear hown hown2 hgrow hat hgl f0 hnb hl2 SL;go_wp2_with fail;refine HB.out.mono ?_;rintro e w9 ⟨rfl,h9,f9⟩;have H9:=lH h9;clear h9;go_wp2_with fail
 go_end0
 exact ⟨rfl,H9.out,F2.of_no.trans f9 (pfz_back F2)⟩
theorem raw_longZ (p base:Nat) (s:PenS) (n:Nat) (b off c:Nat) (w:World) (hm:65535<n) (h:PgZ Z w p base s):
  Calls Tryz.prog 77 #[.pointer (some ⟨p,0,none⟩),.slice (some ⟨b,off,none⟩) n c] w fun e w'=>e=.returned (.tuple #[])∧PgZ Z w' p base (penFail s 3)∧Fr (PfZ Z w p base) w w':=by
 have q0:(65535:Int)<(n:Int):=by omega
 have HB:=lH (put_failZ p base s 3 rfl w h);clear h;go_enter Tryz.func77,Tryz.ntmps77;go_wp2_with fail;refine HB.out.mono ?_;rintro e w9 ⟨rfl,h9,f9⟩;have H9:=lH h9;clear h9;go_wp2_with fail;exact bodyPost_ret (v:=.tuple #[]) (by simp [results,Tryz.results77,go_sem]) rfl ⟨rfl,H9.out,f9⟩
theorem raw_Z (p base:Nat) (s:PenS) (v:Value) (ys:List UInt8) (w:World) (hy:Bs w v ys) (h:PgZ Z w p base s):
  Calls Tryz.prog 77 #[.pointer (some ⟨p,0,none⟩),v] w fun e w'=>e=.returned (.tuple #[])∧PgZ Z w' p base (penRaw s ys)∧Fr (PfZ Z w p base) w w':=by
 rcases hy with ⟨rfl,rfl⟩|⟨b,off,c,rfl,sl⟩
 ·exact raw_noneZ p base s _ (.inl rfl) w h
 ·by_cases h0:ys= []
  ·subst h0;exact raw_noneZ p base s _ (.inr ⟨b,off,c,rfl⟩) w h
  ·by_cases hl:65535<ys.length
   ·rw [show penRaw s ys=penFail s 3 by simp [penRaw,hl]];exact raw_longZ p base s _ b off c w hl h
   ·rw [show penRaw s ys=penPut s (numB 2 ys.length++ys) by simp [penRaw,hl]];exact raw_someZ p base s ys b off c w ⟨rfl,sl⟩ h0 (by omega) h
def penTok (s:PenS) (x:Tok):PenS:=penPut (penNum (penNum (penNum s x.c 1) x.h 1) x.i 2) [if x.wr then 1 else 0]
def penToks (s:PenS) (L:List Tok):PenS:=L.foldl penTok (penNum s L.length 1)
theorem TokV.pf {w w':World} {p base:Nat} {s:PenS} {v:Value} {L:List Tok} (h:TokV w v L) (g:Pg w p base s) (f:Fr (Pf w p base) w w'):TokV w' v L:=by
 rcases h with h|⟨b,cap,e,hm,hr⟩
 ·exact .inl h
 ·exact .inr ⟨b,cap,e,hm,hr.pf g f (by decide) (by decide)⟩
theorem tkwrite_ (k p base:Nat) (L:List Tok) (v:Value) (s:PenS) (w:World) (hk:w.heap[k]? =some (.cells #[.bool true,v] 155 (0,0))) (hv:TokV w v L) (h:Pg w p base s):
  Calls Tryz.prog 78 #[.pointer (some ⟨k,0,none⟩),.pointer (some ⟨p,0,none⟩)] w (PenPost w p base (penToks s L)):=by
 have HR:Hid (∀e w',e=.returned (.tuple #[])→Pg w' p base (penToks s L)→Fr (Pf w p base) w w'→PenPost w p base (penToks s L) e w'):=lH (fun e w' a b c=>⟨a,b,c⟩);have hp:Hid (penToks s L=L.foldl penTok (penNum s L.length 1)):=lH rfl;generalize hQ:PenPost w p base (penToks s L)=Q at*;generalize penToks s L=Z at*;clear hQ;obtain ⟨vb,vc,rfl⟩:∃vb vc,v=.slice vb L.length vc:=by
  rcases hv with ⟨rfl,rfl⟩|⟨b,cap,e,_⟩
  ·exact ⟨none,0,rfl⟩
  ·exact ⟨_,_,e⟩
 have c0:w.cell? ⟨k,0,none⟩=some (.bool true):=by rw [cell_at hk];rfl
 have c1:w.cell? ⟨k,1,none⟩=some (.slice vb L.length vc):=by rw [cell_at hk];rfl
 have HN:=lH (num_ p base 1 s L.length (by decide) (by decide) w h);have HG:=lH h;have HK:=lH hk;have HV:=lH hv;clear hk hv h;go_enter Tryz.func78,Tryz.ntmps78;go_wp2_with fail;refine HN.out.mono ?_;rintro e w1 ⟨rfl,g1,f1⟩;have k1:=pf_keeps HG.out f1 HK.out (by decide) (by decide);have c2:w1.cell? ⟨k,1,none⟩=some (.slice vb L.length vc):=by rw [cell_at k1];rfl
 have G1:=lH g1;have F1:=lH f1;have HV1:=lH (HV.out.pf HG.out f1);clear g1 f1 k1 c0 c1 HN;go_wp2_with fail;go_loopw [27] (fun a wr=>∃j:Nat,a=.int .i64 j∧j≤L.length∧Hid (Pg wr p base ((L.take j).foldl penTok (penNum s L.length 1)))∧Hid (Fr (Pf w1 p base) w1 wr)) (fun a _=>L.length - (intOf a).toNat)
 case atStart=>exact ⟨0,rfl,Nat.zero_le _,lH (by rw [List.take_zero,List.foldl_nil];exact G1.out),lH (Fr.refl _)⟩
 case round=>
  obtain ⟨j,rfl,hj,HGR,HFR⟩:=hrel;by_cases hlt:j<L.length
  ·rcases HV1.out with ⟨_,h0⟩|⟨b,cap,hv,hm,hr⟩
   ·rw [h0] at hlt;cases hlt
   cases hv;have hr2:=hr.pf G1.out HFR.out (by decide) (by decide);have HRR:=lH (hr2.row j L[j] (List.getElem?_eq_getElem hlt));have hlen:=hr.len;have hml:vc≤9223372036854775807:=hm;have q1:(j:Int)<(L.length:Int):=(by omega)
   have q2:(j:Int)<(vc:Int):=(by omega)
   have q3:(0:Int)≤(j:Int):=(by omega)
   have HTK:Hid (L.take (j+1)=L.take j++ [L[j]]):=lH (by rw [List.take_add_one,List.getElem?_eq_getElem hlt];rfl);generalize L[j]=x at*;have HST:Hid (∀s,penTok s x=penPut (penNum (penNum (penNum s x.c 1) x.h 1) x.i 2) [if x.wr then 1 else 0]):=lH (fun _=>rfl);obtain ⟨xc,xh,xi,xw⟩:=x;unfold tokC at HRR;dsimp only at HRR HST;have HE:Hid (∀w',Pg w' p base (penTok ((L.take j).foldl penTok (penNum s L.length 1)) ⟨xc,xh,xi,xw⟩)→Pg w' p base ((L.take (j+1)).foldl penTok (penNum s L.length 1))):=lH (fun w' g=>by rw [HTK.out,List.foldl_append];exact g);generalize (L.take j).foldl penTok (penNum s L.length 1)=s0 at*;have fa:Fr No wr (wr.alloc (.cells #[.int .i64 xc,.int .i64 xh,.int .i64 xi,.bool xw] 53)):=(Fr.refl wr).alloc _;have ka:=new_at wr (.cells #[.int .i64 xc,.int .i64 xh,.int .i64 xi,.bool xw] 53);have GA:=lH (HGR.out.no fa);have FA:Hid (Fr (Pf w1 p base) w1 (wr.alloc (.cells #[.int .i64 xc,.int .i64 xh,.int .i64 xi,.bool xw] 53))):=lH (pf_trans HFR.out fa.of_no);have KA:=lH ka;clear hr hr2 hm fa ka;go_wp2_with (refine wpList_load_mid (by rfl) 53 _ (by rfl) b (j*4) (by rfl) [.int .i64 xc,.int .i64 xh,.int .i64 xi,.bool xw] _ HRR.out Tryz.underlying53 rfl Tryz.size53 ?_);refine (num_ p base 1 s0 xc (by decide) (by decide) _ GA.out).mono ?_;rintro e w4 ⟨rfl,g4,f4⟩;have k4:=pf_keeps GA.out f4 KA.out (by decide) (by decide);have p0:w4.cell? ⟨wr.heap.size,1,none⟩=some (.int .i64 xh):=(by rw [cell_at k4];rfl)
   have G4:=lH g4;have F4:=lH (pf_trans FA.out f4);have K4:=lH k4;clear g4 f4 k4;go_wp2_with fail;refine (num_ p base 1 _ xh (by decide) (by decide) _ G4.out).mono ?_;rintro e w5 ⟨rfl,g5,f5⟩;have k5:=pf_keeps G4.out f5 K4.out (by decide) (by decide);have p1:w5.cell? ⟨wr.heap.size,2,none⟩=some (.int .i64 xi):=(by rw [cell_at k5];rfl)
   have G5:=lH g5;have F5:=lH (pf_trans F4.out f5);have K5:=lH k5;clear g5 f5 k5 p0;go_wp2_with fail;refine (num_ p base 2 _ xi (by decide) (by decide) _ G5.out).mono ?_;rintro e w6 ⟨rfl,g6,f6⟩;have k6:=pf_keeps G5.out f6 K5.out (by decide) (by decide);have p2:w6.cell? ⟨wr.heap.size,3,none⟩=some (.bool xw):=(by rw [cell_at k6];rfl)
   have G6:=lH g6;have F6:=lH (pf_trans F5.out f6);clear g6 f6 k6 p1;go_wp2_with fail;refine (pbool_ p base _ xw _ G6.out).mono ?_;rintro e w7 ⟨rfl,g7,f7⟩;have HG7:=lH (HE.out w7 (by rw [HST.out];exact g7));have HF7:=lH (pf_trans F6.out f7);clear g7 f7 p2;go_wp2_with fail;go_roundw
   case rel=>exact ⟨j+1,by go_num,hlt,HG7,HF7⟩
   case measure=>simp [intOf];omega
  ·obtain rfl:j=L.length:=by omega
   have q1:¬(L.length:Int)<(L.length:Int):=(by omega)
   have HZ:Hid (Pg wr p base Z):=lH (by rw [hp.out];have:=HGR.out;rwa [List.take_length] at this);go_wp2_with fail;exact bodyPost_end (v:=.tuple #[]) (by simp [results,Tryz.results78,go_sem]) rfl (HR.out _ _ rfl HZ.out (pf_trans F1.out HFR.out))
def cmpI (a b:Int):Int:=if a<b then -1 else if b<a then 1 else 0
def stpO (x y:Stp):Int:=if cmpI x.1 y.1≠0 then cmpI x.1 y.1 else if cmpI x.2.1 y.2.1≠0 then cmpI x.2.1 y.2.1 else cmpI x.2.2 y.2.2
theorem cmpI_neg {a b:Int}:cmpI a b<0↔a<b:=by unfold cmpI;split<;>(try split)<;>omega
theorem cmpI_zero {a b:Int}:cmpI a b=0↔a=b:=by unfold cmpI;split<;>(try split)<;>omega
theorem stpO_lt (x y:Stp):stpO x y<0↔(x.1<y.1∨x.1=y.1∧(x.2.1<y.2.1∨x.2.1=y.2.1∧x.2.2<y.2.2)):=by
 unfold stpO;have h1:= @cmpI_neg x.1 y.1;have h2:= @cmpI_zero x.1 y.1;have h3:= @cmpI_neg x.2.1 y.2.1;have h4:= @cmpI_zero x.2.1 y.2.1;have h5:= @cmpI_neg x.2.2 y.2.2;split
 ·omega
 ·split<;>omega
theorem stpO_swo:Go.Sort.SWO (ltOf stpO) where
 irrefl x:=by
  show decide (stpO x x<0)=false;rw [decide_eq_false_iff_not,stpO_lt];omega
 trans x y z h1 h2:=by
  have h1:decide (stpO x y<0)=true:=h1;have h2:decide (stpO y z<0)=true:=h2;show decide (stpO x z<0)=true;rw [decide_eq_true_eq,stpO_lt] at*;omega
 ntrans x y z h1 h2:=by
  have h1:decide (stpO x y<0)=false:=h1;have h2:decide (stpO y z<0)=false:=h2;show decide (stpO x z<0)=false;rw [decide_eq_false_iff_not,stpO_lt] at*;omega
theorem stpO_total (x y:Stp) (h1:ltOf stpO x y=false) (h2:ltOf stpO y x=false):x=y:=by
 have h1:decide (stpO x y<0)=false:=h1;have h2:decide (stpO y x<0)=false:=h2;rw [decide_eq_false_iff_not,stpO_lt] at*;obtain ⟨a,b,c⟩:=x;obtain ⟨a',b',c'⟩:=y;simp only [Prod.mk.injEq];dsimp only at h1 h2;omega
theorem nan_ (a:Int) (w:World):Calls Tryz.prog 174 #[.int .i64 a] w fun e w'=>e=.returned (.bool false)∧w'=w:=by
 go_enter Tryz.func174,Tryz.ntmps174;go_wp2_with fail
 go_ret
 exact ⟨by simp,rfl⟩
theorem cmp_ (a b:Int) (w:World):Calls Tryz.prog 121 #[.int .i64 a,.int .i64 b] w fun e w'=>e=.returned (.int .i64 (cmpI a b))∧w'=w:=by
 have H1:=lH (nan_ a w);have H2:=lH (nan_ b w);by_cases h1:a<b
 ·have e:cmpI a b= -1:=if_pos h1;rw [e];clear e;go_enter Tryz.func121,Tryz.ntmps121;go_wp2_with fail;refine H1.out.mono ?_;rintro e w1 ⟨rfl,hw⟩;subst hw;go_wp2_with fail;refine H2.out.mono ?_;rintro e w2 ⟨rfl,hw⟩;subst hw;go_wp2_with fail
  go_ret
  exact ⟨rfl,rfl⟩
 ·by_cases h2:b<a
  ·have e:cmpI a b=1:=(if_neg h1).trans (if_pos h2);rw [e];clear e;go_enter Tryz.func121,Tryz.ntmps121;go_wp2_with fail;refine H1.out.mono ?_;rintro e w1 ⟨rfl,hw⟩;subst hw;go_wp2_with fail;refine H2.out.mono ?_;rintro e w2 ⟨rfl,hw⟩;subst hw;go_wp2_with fail
   go_ret
   exact ⟨rfl,rfl⟩
  ·have e:cmpI a b=0:=(if_neg h1).trans (if_neg h2);rw [e];clear e;go_enter Tryz.func121,Tryz.ntmps121;go_wp2_with fail;refine H1.out.mono ?_;rintro e w1 ⟨rfl,hw⟩;subst hw;go_wp2_with fail;refine H2.out.mono ?_;rintro e w2 ⟨rfl,hw⟩;subst hw;go_wp2_with fail
   go_ret
   exact ⟨rfl,rfl⟩
def or3 (x y z:Int):Int:=if x≠0 then x else if y≠0 then y else z
theorem or3_ (b:Nat) (x y z:Int) (w:World) (c0:w.cell? ⟨b,0,none⟩=some (.int .i64 x)) (c1:w.cell? ⟨b,1,none⟩=some (.int .i64 y)) (c2:w.cell? ⟨b,2,none⟩=some (.int .i64 z)):
  Calls Tryz.prog 120 #[.slice (some ⟨b,0,none⟩) 3 3] w fun e w'=>e=.returned (.int .i64 (or3 x y z))∧w'=w:=by
 by_cases h1:x=0
 ·subst h1;by_cases h2:y=0
  ·subst h2;have e:or3 0 0 z=z:=(by simp [or3])
   rw [e];clear e;by_cases h3:z=0
   ·subst h3;go_enter Tryz.func120,Tryz.ntmps120;go_wp2_with fail;refine wp_loop_rounds 4 ?_;rw [rounds_succ];go_wp2_with fail;rw [rounds_succ];go_wp2_with fail;rw [rounds_succ];go_wp2_with fail;rw [rounds_succ];go_wp2_with fail
    go_ret
    exact ⟨rfl,rfl⟩
   ·have q:(z !=0)=true:=by simpa using h3
    clear h3;go_enter Tryz.func120,Tryz.ntmps120;go_wp2_with fail;refine wp_loop_rounds 4 ?_;rw [rounds_succ];go_wp2_with fail;rw [rounds_succ];go_wp2_with fail;rw [rounds_succ];go_wp2_with fail
    go_ret
    exact ⟨rfl,rfl⟩
  ·have e:or3 0 y z=y:=by simp [or3,h2]
   have q:(y !=0)=true:=(by simpa using h2)
   rw [e];clear e h2;go_enter Tryz.func120,Tryz.ntmps120;go_wp2_with fail;refine wp_loop_rounds 4 ?_;rw [rounds_succ];go_wp2_with fail;rw [rounds_succ];go_wp2_with fail
   go_ret
   exact ⟨rfl,rfl⟩
 ·have e:or3 x y z=x:=by simp [or3,h1]
  have q:(x !=0)=true:=by simpa using h1
  rw [e];clear e h1;go_enter Tryz.func120,Tryz.ntmps120;go_wp2_with fail;refine wp_loop_rounds 4 ?_;rw [rounds_succ];go_wp2_with fail
  go_ret
  exact ⟨rfl,rfl⟩
theorem or3_stp (x y:Stp):or3 (cmpI x.1 y.1) (cmpI x.2.1 y.2.1) (cmpI x.2.2 y.2.2)=stpO x y:=rfl
theorem order_ (x y:Stp) (w:World):Calls Tryz.prog 64 #[stpV x,stpV y] w fun e w'=>e=.returned (.int .i64 (stpO x y))∧w'=(((w.alloc (.cells #[.int .i64 x.1,.int .i64 x.2.1,.int .i64 x.2.2] 46)).alloc (.cells #[.int .i64 y.1,.int .i64 y.2.1,.int .i64 y.2.2] 46)).alloc (.cells #[.int .i64 (cmpI x.1 y.1),.int .i64 (cmpI x.2.1 y.2.1),.int .i64 (cmpI x.2.2 y.2.2)] 3)).drew:=by
 have mixed:Tryz.prog.follows .mixedOrders=true:=by kernel_rfl
 have f1:Fr No (w.alloc (.cells #[.int .i64 x.1,.int .i64 x.2.1,.int .i64 x.2.2] 46)) ((w.alloc (.cells #[.int .i64 x.1,.int .i64 x.2.1,.int .i64 x.2.2] 46)).alloc (.cells #[.int .i64 y.1,.int .i64 y.2.1,.int .i64 y.2.2] 46)):=(Fr.refl _).alloc _;have k0:=f1.block_of (new_at w (.cells #[.int .i64 x.1,.int .i64 x.2.1,.int .i64 x.2.2] 46)) id;have k1:=new_at (w.alloc (.cells #[.int .i64 x.1,.int .i64 x.2.1,.int .i64 x.2.2] 46)) (.cells #[.int .i64 y.1,.int .i64 y.2.1,.int .i64 y.2.2] 46);rw [show (w.alloc (.cells #[.int .i64 x.1,.int .i64 x.2.1,.int .i64 x.2.2] 46)).heap.size=w.heap.size+1 by simp] at k1;rw [← or3_stp];obtain ⟨xc,xl,xn⟩:=x;obtain ⟨yc,yl,yn⟩:=y;unfold stpV;dsimp only at k0 k1 ⊢;clear f1;go_enter Tryz.func64,Tryz.ntmps64;go_wp2_with fail;generalize hwA:(w.alloc (.cells #[.int .i64 xc,.int .i64 xl,.int .i64 xn] 46)).alloc (.cells #[.int .i64 yc,.int .i64 yl,.int .i64 yn] 46)=wA at*;have HWA:=lH hwA;clear hwA;generalize w.heap.size=b0 at*;have a0:wA.cell? ⟨b0,0,none⟩=some (.int .i64 xc):=by rw [cell_at k0];rfl
 have a1:wA.cell? ⟨b0,1,none⟩=some (.int .i64 xl):=by rw [cell_at k0];rfl
 have a2:wA.cell? ⟨b0,2,none⟩=some (.int .i64 xn):=by rw [cell_at k0];rfl
 have b0':wA.cell? ⟨b0+1,0,none⟩=some (.int .i64 yc):=by rw [cell_at k1];rfl
 have b1:wA.cell? ⟨b0+1,1,none⟩=some (.int .i64 yl):=by rw [cell_at k1];rfl
 have b2:wA.cell? ⟨b0+1,2,none⟩=some (.int .i64 yn):=by rw [cell_at k1];rfl
 clear k0 k1;refine wp_region_text mixed (fun W=>W=wA.drew) [15,16,17] (by kernel_rfl) (by kernel_rfl) (by kernel_rfl) (by kernel_rfl) (fun _ _ d _ _ h=>by cases d<;>exact h) rfl ?_;repeat (first
  | refine seqX_skip (by rfl) ?_
  | (refine seqX_val (v:= ?_) (by rfl) (by rfl) ?_ ?_
     rotate_left 1
     (intro W;go_simp;(try with_reducible rfl))
     simp only [Act.put,lsA,lsZ,lsS])
  | (refine seqX_call (v:=.int .i64 (cmpI xc yc)) 121 #[.int .i64 xc,.int .i64 yc] (by rfl) (by kernel_rfl) (by rfl) ?_ (fun w' hS=>(cmp_ _ _ _).mono (fun e w'' h=>⟨h.1,h.2.trans hS⟩)) ?_
     focus (intro W;go_simp;done)
     simp only [Act.put,lsA,lsZ,lsS])
  | (refine seqX_call (v:=.int .i64 (cmpI xl yl)) 121 #[.int .i64 xl,.int .i64 yl] (by rfl) (by kernel_rfl) (by rfl) ?_ (fun w' hS=>(cmp_ _ _ _).mono (fun e w'' h=>⟨h.1,h.2.trans hS⟩)) ?_
     focus (intro W;go_simp;done)
     simp only [Act.put,lsA,lsZ,lsS])
  | (refine seqX_call (v:=.int .i64 (cmpI xn yn)) 121 #[.int .i64 xn,.int .i64 yn] (by rfl) (by kernel_rfl) (by rfl) ?_ (fun w' hS=>(cmp_ _ _ _).mono (fun e w'' h=>⟨h.1,h.2.trans hS⟩)) ?_
     focus (intro W;go_simp;done)
     simp only [Act.put,lsA,lsZ,lsS])
  | (refine seqX_valS (v:= ?_) (by rfl) (by kernel_rfl) (by rfl) ?_ ?_
     rotate_left 1
     (intro W hS;have hS':W=wA.drew:=hS;subst hS';go_simp;(try with_reducible rfl))
     simp only [Act.put,lsA,lsZ,lsS]))
 intro W hS;obtain rfl:W=wA.drew:=hS;simp only [List.reverse_cons,List.reverse_nil,List.nil_append,List.cons_append];go_wp2_with fail;have k5:=new_at wA (.cells #[.int .i64 (cmpI xc yc),.int .i64 (cmpI xl yl),.int .i64 (cmpI xn yn)] 3);refine (or3_ _ (cmpI xc yc) (cmpI xl yl) (cmpI xn yn) _ ((Fr.refl (S:=No) _).drew.cell_of (by rw [cell_at k5];rfl) id) ((Fr.refl (S:=No) _).drew.cell_of (by rw [cell_at k5];rfl) id) ((Fr.refl (S:=No) _).drew.cell_of (by rw [cell_at k5];rfl) id)).mono ?_;rintro e w2 ⟨rfl,hw⟩;subst hw;go_wp2_with fail
 go_ret
 exact ⟨rfl,by rw [HWA.out]⟩
def useC (U:Stp→Option Us) (x:Stp):List Value:= [.int .i64 x.1,.int .i64 x.2.1,.int .i64 x.2.2,.int .i64 ((U x).getD (0,0,0)).1,.int .i64 ((U x).getD (0,0,0)).2.1,.int .i64 ((U x).getD (0,0,0)).2.2]
theorem useCmp_ (x y:Stp) (s1 l1 b1 s2 l2 b2:Int) (W:World):Calls Tryz.prog 63 #[.agg #[.int .i64 x.1,.int .i64 x.2.1,.int .i64 x.2.2,.int .i64 s1,.int .i64 l1,.int .i64 b1],.agg #[.int .i64 y.1,.int .i64 y.2.1,.int .i64 y.2.2,.int .i64 s2,.int .i64 l2,.int .i64 b2]] W fun e w'=>e=.returned (.int .i64 (stpO x y))∧∃q os',w'=Go.Sort.grow (W.drewN q) os':=by
 have HO:=fun W'=>order_ x y W';unfold stpV at HO;go_enter Tryz.func63,Tryz.ntmps63;go_wp2_with (go_at_call 64;refine (HO _).mono ?_;rintro e w' ⟨rfl,hw⟩;subst hw)
 go_ret
 exact ⟨rfl,1,_,by
  simp only [Go.Sort.alloc_eq_grow,Go.Sort.grow_grow];rfl⟩
end Go.Proofs.YtlcojhddnpmgmaaGreat
namespace Go.Proofs.YtlcojhddnpmgmaaGreat
open Go.RowKit Go.Sort Go.Shelf
theorem flatK_gen {α:Type} [Inhabited α] (c:α→List Value) (n:Nat) (hc:∀x,(c x).length=n) (hn:0<n) (ss:List α):flatK c n ss.toArray=(ss.flatMap c).toArray:=by
 have hlen:=flat_len hc ss;apply ext_get!
 ·rw [size_flatK];simp [hlen]
 ·intro t ht;rw [size_flatK] at ht;rw [get_flatK _ _ _ _ ht];have h1:t / n<ss.length:=by
   rw [List.size_toArray] at ht;exact (Nat.div_lt_iff_lt_mul hn).2 ht
  have h2:t % n<n:=Nat.mod_lt _ hn;have h3:ss[t / n]? =some ss[t / n]:=List.getElem?_eq_getElem h1;have h4:(c ss[t / n])[t % n]? =some ((c ss[t / n])[t % n]'(by rw [hc];exact h2)):=List.getElem?_eq_getElem _;have h5:=flat_get hc ss (t / n) _ h3 (t % n) _ h4;rw [show t / n*n+t % n=t by rw [Nat.mul_comm];exact Nat.div_add_mod t n] at h5;have e1:ss.toArray[t / n]! =ss[t / n]:=by simp [h1]
  rw [e1];rw [show ((ss.flatMap c).toArray)[t]! =((ss.flatMap c)[t]?).getD default by simp,h5];rw [Option.getD_some,List.getElem!_eq_getElem?_getD,h4];rfl
theorem holdsK_gen {α:Type} [Inhabited α] {c:α→List Value} {n:Nat} (hc:∀x,(c x).length=n) (hn:0<n) {t:TypeId} {w:World} {g:Nat} {ss:List α} {cur:Array Value} (hh:w.heap[g]? =some (.cells cur t (0,0))) (ht:cur.toList.take (ss.length*n)=ss.flatMap c):HoldsK c n w g 0 ss.toArray:=by
 intro j hj;rw [size_flatK] at hj;have hj':j<ss.length*n:=by simpa using hj
 refine ⟨?_,by simp [World.frozen?,hh]⟩;rw [flatK_gen c n hc hn];have hlen:=flat_len hc ss;have h1:(cur.toList.take (ss.length*n))[j]? =(ss.flatMap c)[j]? :=by rw [ht]
 rw [List.getElem?_take_of_lt hj'] at h1;simp only [World.cell?,hh,Nat.zero_add];simp only [Option.isSome_none,Bool.false_eq_true,if_false];rw [← Array.getElem?_toList,h1];rw [List.getElem?_eq_getElem (by omega)];simp [hlen,hj']
def stpLe (x y:Stp):Bool:= !(ltOf stpO y x)
theorem useC_len (U:Stp→Option Us) (x:Stp):(useC U x).length=6:=rfl
theorem useC_one (U:Stp→Option Us) (x:Stp):∀v∈useC U x,v.oneCell'=true:=fun v hv=>by
 simp only [useC,List.mem_cons,List.not_mem_nil,or_false] at hv;rcases hv with rfl|rfl|rfl|rfl|rfl|rfl<;>rfl
theorem sortU_ (U:Stp→Option Us) (ss:List Stp) (base:Nat) (v:Value) (w:World) (h:w.ownsRow base 80 6 v ss.length (ss.flatMap (useC U))) (hs:ss.length<10000000):
  Calls Tryz.prog 62 #[v,.func (.func 63) #[] #[]] w fun e w'=>e=.returned (.tuple #[])∧Fr (fun k=>base≤k) w w'∧RowNew (useC U) 6 80 w' base v (ss.mergeSort stpLe):=by
 rcases h.2 with ⟨rfl,h0⟩|⟨g,cap,cur,rfl,hb,hh,h1,h2,h3,h4⟩
 ·have hs0:=List.eq_nil_of_length_eq_zero h0;subst hs0;have hcon:=AnyF.slices_SortFunc_none (P:=Tryz.prog) (ρ:=Tryz.sortU_ren) {Tryz.sortU with} none 0 (.func (.func 63) #[] #[]) w;change Calls Tryz.prog 62 _ _ _ at hcon;refine hcon.mono ?_;rintro e w' ⟨rfl,rfl⟩;exact ⟨rfl,Fr.refl _,.inl ⟨rfl,by simp⟩⟩
 ·have hH:=holdsK_gen (useC_len U) (by omega) hh h4;have eg:∀args w,(callFunc 63 args).run Tryz.prog w=.ok (.enter 63 args) w:=enters_of Tryz.func63 (by kernel_rfl) rfl;have hcon:=AnyQ.slices_SortFunc_total Tryz.sortU 6 Tryz.isAgg80 Tryz.sizeOf80 (useC U) (useC_len U) (fun x v hv=>useC_one U x v hv) stpO stpO_swo 63 #[] g 0 cap ss.toArray w eg
   (fun m os dk _ x y=>useCmp_ x y _ _ _ _ _ _ _) hH (lt_of_block hh) (by simp;omega) stpO_total
  change Calls Tryz.prog 62 _ _ _ at hcon;rw [show ss.toArray.size=ss.length by simp,show ss.toArray.toList=ss by simp] at hcon;refine hcon.mono ?_;rintro e w' ⟨rfl,n,os,rfl⟩;have hl:(ss.mergeSort stpLe).length=ss.length:=List.length_mergeSort _;have hfin:HoldsK (useC U) 6 (sortWorldK (useC U) 6 w g 0 n (ss.mergeSort stpLe).toArray os) g 0 (ss.mergeSort stpLe).toArray:=by
   unfold sortWorldK;refine holdsK_grow _ _ _ _ _ _ _ ?_ (holdsK_putRowK _ _ _ _ _ _ _ (holdsK_ahead _ _ _ n _ _ _ hH) (by simp [hl]));unfold putRowK;simpa [Go.Sort.ahead] using lt_of_block hh
  refine ⟨rfl,(fr_sortedK _).mono (fun k _ e=>by rw [e];exact hb),.inr ⟨g,cap,by rw [hl],h2,hb,⟨⟨_,heap_sortedK _ hh,?_⟩,by rw [hl];exact h1,fun j x hj i u hu=> ?_⟩⟩⟩
  ·simp only [Go.Sort.putCells,Array.size_mapIdx];omega
  ·have hjl:j<(ss.mergeSort stpLe).length:=(List.getElem?_eq_some_iff.1 hj).1;have hi6:i<6:=(List.getElem?_eq_some_iff.1 hu).1;have hc:=(hfin.cell (i:=j) (c:=i) (by simpa using hjl) hi6).1;rw [Nat.zero_add] at hc;refine hc.trans ?_;have e1:(ss.mergeSort stpLe).toArray[j]! =x:=by
    rw [List.getElem?_eq_getElem hjl] at hj;cases hj;exact (getElem!_pos (ss.mergeSort stpLe).toArray j (by simpa using hjl)).trans rfl
   rw [e1,List.getElem!_eq_getElem?_getD,hu];rfl
def StripesPost (w:World) (U:Stp→Option Us) (e:Ending) (w':World):Prop:=
 ∃v ss,e=.returned v∧RowNew (useC U) 6 80 w' w.heap.size v ss∧ss.Nodup∧(∀x,x∈ss↔(U x).isSome=true)∧ss.Pairwise (fun x y=>stpLe x y=true)∧Fr No w w'
theorem stpLe_iff (x y:Stp):stpLe x y=true↔¬stpO y x<0:=by
 show (!decide (stpO y x<0))=true↔_;simp
theorem stp_sorted (ss:List Stp):(ss.mergeSort stpLe).Pairwise (fun x y=>stpLe x y=true):=
 List.pairwise_mergeSort (fun x y z h1 h2=>by rw [stpLe_iff,stpO_lt] at*;omega) (fun x y=>by
  rw [Bool.or_eq_true,stpLe_iff,stpLe_iff,stpO_lt,stpO_lt];omega) _
theorem Tryz.info80:(Tryz.prog.info? 80).map (fun i=>(i.zero,i.size,i.bytes))=some (some (.agg #[.int .i64 0,.int .i64 0,.int .i64 0,.int .i64 0,.int .i64 0,.int .i64 0]),6,48):=by kernel_rfl
theorem gstripes_ (o:Nat→Nat) (K n:Nat) (L:Plc) (S:St) (w:World) (h:StateAt w o K L S n) (hf:Fresh w o) (hn:n≤1000000):
  Calls Tryz.prog 27 #[.pointer (some ⟨L.s,0,none⟩)] w (StripesPost w S.U):=by
 have HMD:=lH (gmade_ o K n L S w h);have c12:w.cell? ⟨L.s,12,none⟩=some (.map (some L.us)):=h.cell 12;obtain ⟨_,cu,hcu,hum⟩:=h.uses;obtain ⟨w2,hr,R2,f2,hs2⟩:=hum.range (t:=101) (e:=80) Tryz.underlying101;have hult:L.us<w.heap.size:=hum.lt;have HUM:=lH hum;have HQ:Hid (∀v w' ss,RowNew (useC S.U) 6 80 w' w.heap.size v ss→ss.Nodup→(∀x,x∈ss↔(S.U x).isSome=true)→ss.Pairwise (fun x y=>stpLe x y=true)→Fr No w w'→StripesPost w S.U (.returned v) w'):=lH (fun v w' ss h1 h2 h3 h4 f=>⟨v,ss,rfl,h1,h2,h3,h4,f⟩);generalize StripesPost w S.U=Q at*;generalize S.U=U at*;have RR2:=lH R2;have F2:=lH f2;have hcu1:cu≤1000000:=Nat.le_trans hcu hn;obtain ⟨i0,hi,hz0,hz1,hz2⟩:=info_parts Tryz.info80;have HI:=lH hi;have HZ0:=lH hz0;have HZ1:=lH hz1;have HZ2:=lH hz2;have HS2:=lH hs2;clear hi hz0 hz1 hz2 h hf hum R2 f2 hs2 hcu hn;go_enter Tryz.func27,Tryz.ntmps27;go_wp2_with fail;refine HMD.out.mono ?_;rintro e w1 ⟨rfl,hw⟩;subst hw;go_wp2_with fail;go_loopw [3] (fun v wr=>∃(ss:List Stp) (left:Stp→Bool) (cnt:Nat),Hid (RangeAt encU wr L.us w1.heap.size cu (usem U) left cnt)∧Hid (∀s:Stp,stpGood s→(left s=true↔(U s).isSome=true∧s ∉ ss))∧Hid (wr.ownsRow (w1.heap.size+1) 80 6 v ss.length (ss.flatMap (useC U)))∧Hid ss.Nodup∧Hid (∀s∈ss,(U s).isSome=true)∧Hid (Fr No w1 wr)∧cnt+ss.length≤cu∧w1.heap.size+1≤wr.heap.size) (fun _ wr=>wr.rangeLeft L.us w1.heap.size)
 case atStart=>
  refine ⟨[],_,_,RR2,lH (fun s _=> ?_),lH ⟨rfl,.inl ⟨rfl,rfl⟩⟩,lH List.nodup_nil,lH (by simp),F2,by simp,by have:=HS2.out;omega⟩;unfold usem;cases U s<;>simp
 case round=>
  obtain ⟨ss,left,cnt,HRA,HLF,HOWN,HND,HIN,HFR,hcnt,hsz⟩:=hrel;obtain ⟨a,cc,rfl⟩:=HOWN.out.shape;rcases HRA.out.next 0 with ⟨_,hno,hnx⟩|⟨x,y,w4,cnt',hms,hls,hnx,hra',hlt',f4,hs4,hen⟩
  ·have hall:∀s,s∈ss↔(U s).isSome=true:=fun s=>⟨HIN.out s,fun h=>by
    obtain ⟨u0,hu0⟩:=Option.isSome_iff_exists.1 h;have hg:stpGood s:=(HUM.out.good (x:=s) (y:=(s,u0)) (by unfold usem;rw [hu0];rfl)).1;apply Classical.byContradiction;intro hn;have:=(HLF.out s hg).2 ⟨h,hn⟩;rw [hno s hg] at this;cases this⟩
   have HALL:=lH hall;clear hall hno;go_wp2_with fail;refine (sortU_ U ss (w1.heap.size+1) _ wr HOWN.out (by omega)).mono ?_;rintro e w6 ⟨rfl,f6,hes⟩;have hfin:Fr No w1 w6:=((HFR.out.of_no (S:=fun k=>w1.heap.size+1≤k)).trans f6 (fun j _ h=>h)).no (fun j hj h=>by omega);have hrow:RowNew (useC U) 6 80 w6 w1.heap.size (.slice a ss.length cc) (ss.mergeSort stpLe):=by
    rcases hes with h|⟨b,c,e,h1,h2,h3⟩
    ·exact .inl h
    ·exact .inr ⟨b,c,e,h1,by omega,h3⟩
   have H1:=lH hfin;have H2:=lH hrow;clear f6 hes hfin hrow;go_wp2_with fail;exact HQ.out _ _ _ H2.out ((List.mergeSort_perm ss stpLe).nodup_iff.2 HND.out) (fun x=>(List.mergeSort_perm ss stpLe).mem_iff.trans (HALL.out x)) (stp_sorted ss) H1.out
  ·obtain ⟨u,hu,rfl⟩:∃u,U x=some u∧y=(x,u):=by
    unfold usem at hms;cases h:U x with
    | none=>rw [h] at hms;cases hms
    | some u=>
     rw [h] at hms;cases hms;exact ⟨u,rfl,rfl⟩
   have hgx:stpGood x:=(HRA.out.map.good hms).1;obtain ⟨_,hnin⟩:=(HLF.out x hgx).1 hls;have F4:Hid (Fr No w1 w4):=lH (HFR.out.trans f4 (fun j hj e=>by omega));have O4:Hid (w4.ownsRow (w1.heap.size+1) 80 6 (.slice a ss.length cc) ss.length (ss.flatMap (useC U))):=lH (ownR_fr HOWN.out f4 (fun j hj e=>by have:=ownR_base HOWN.out j hj;omega));have R4:=lH hra';have hnx':(Instr.next (.pointer (some ⟨w1.heap.size,0,none⟩)) false 0).run Tryz.prog wr=.ok (.tuple #[.bool true,.agg #[.int .i64 x.1,.int .i64 x.2.1,.int .i64 x.2.2],.agg #[.int .i64 x.1,.int .i64 x.2.1,.int .i64 x.2.2,.int .i64 u.1,.int .i64 u.2.1,.int .i64 u.2.2]]) w4:=hnx;have hen':(Instr.entry (.pointer (some ⟨w1.heap.size,0,none⟩))).run Tryz.prog w4=.ok (.tuple #[.agg #[.int .i64 x.1,.int .i64 x.2.1,.int .i64 x.2.2],.agg #[.int .i64 x.1,.int .i64 x.2.1,.int .i64 x.2.2,.int .i64 u.1,.int .i64 u.2.1,.int .i64 u.2.2]]) w4:=hen;have HLE:Hid (wr.rangeLeft L.us w1.heap.size=cnt):=lH HRA.out.left_eq;have HLT:=lH hlt';have HN:Hid (∀s:Stp,stpGood s→((left s&&decide (s≠x))=true↔(U s).isSome=true∧s ∉ ss++ [x])):=lH (fun s hs=>by
    rw [Bool.and_eq_true,decide_eq_true_eq,HLF.out s hs,List.mem_append,List.mem_singleton];constructor
    ·rintro ⟨⟨h1,h2⟩,h3⟩;exact ⟨h1,fun h=>h.elim h2 h3⟩
    ·rintro ⟨h1,h2⟩;exact ⟨⟨h1,fun h=>h2 (.inl h)⟩,fun h=>h2 (.inr h)⟩)
   have HND2:Hid (ss++ [x]).Nodup:=lH (by
    rw [List.nodup_append];exact ⟨HND.out,by simp,fun a ha b hb e=>by
     rw [List.mem_singleton] at hb;subst hb;subst e;exact hnin ha⟩)
   have HIN2:Hid (∀s∈ss++ [x],(U s).isSome=true):=lH (fun s hs=>by
    rcases List.mem_append.1 hs with h|h
    ·exact HIN.out s h
    ·rw [List.mem_singleton] at h;rw [h,hu];rfl)
   have HUC:Hid (useC U x= [.int .i64 x.1,.int .i64 x.2.1,.int .i64 x.2.2,.int .i64 u.1,.int .i64 u.2.1,.int .i64 u.2.2]):=lH (by unfold useC;rw [hu];rfl);have hs4':w4.heap.size=wr.heap.size:=hs4;have RA:Hid (((w4.alloc (.cells #[.int .i64 x.1,.int .i64 x.2.1,.int .i64 x.2.2,.int .i64 u.1,.int .i64 u.2.1,.int .i64 u.2.2] 80)).rangeAt w4.heap.size 0 [.int .i64 x.1,.int .i64 x.2.1,.int .i64 x.2.2,.int .i64 u.1,.int .i64 u.2.1,.int .i64 u.2.2])):=lH (World.rangeAt_of_block (new_at w4 _) 0 6);have SZ:=lH hs4';clear hnx hen hra' f4 hs4 hms hls hlt' hnin hu hs4';go_wp2_with (first|(refine wpList_load_mid (by rfl) 80 _ (by rfl) w4.heap.size 0 (by rfl) [.int .i64 x.1,.int .i64 x.2.1,.int .i64 x.2.2,.int .i64 u.1,.int .i64 u.2.1,.int .i64 u.2.2] _ RA.out Tryz.underlying80 rfl Tryz.size80 ?_)|(at_builtin;(refine wpList_append_lies _ (by rfl) _ _ 65 (by rfl) (w1.heap.size+1) 80 i0 _ 6 48 Tryz.underlying65 HI.out HZ0.out HZ1.out HZ2.out rfl (by decide) (.slice a ss.length cc) ss.length (ss.flatMap (useC U)) (by rfl) ((O4.out.alloc _).alloc _) ⟨w4.heap.size+1,0,none⟩ 1 1 [.int .i64 x.1,.int .i64 x.2.1,.int .i64 x.2.2,.int .i64 u.1,.int .i64 u.2.1,.int .i64 u.2.2] (by rfl) (by rfl) ?d1 (by simp [Value.oneCell']) (by decide) (by unfold maxLen;omega) (by omega) ?d5 (w4.heap.size+1+1) ?d6 ?_)))
   case d1=>
    have h5:=World.news_of_block (cs:= #[.int .i64 x.1,.int .i64 x.2.1,.int .i64 x.2.2,.int .i64 u.1,.int .i64 u.2.1,.int .i64 u.2.2]) (t:=80) (fr:=(0,0)) (heap_alloc_new (w4.alloc (.cells #[.int .i64 x.1,.int .i64 x.2.1,.int .i64 x.2.2,.int .i64 u.1,.int .i64 u.2.1,.int .i64 u.2.2] 80)) _);rw [heap_size_alloc] at h5;exact h5
   case d5=>rw [heap_size_alloc,heap_size_alloc];have:=SZ.out;omega
   case d6=>simp
   intro gg cap wD hownD hgrow hat hgl;have HNL:Hid (Fr No w1 wD):=lH (((F4.out.alloc _).alloc _).grown hgrow (fun j hj=> .inr (by have:=ownR_base O4.out j hj;omega)));have HG4:Fr (fun k=>w1.heap.size+1≤k) w4 wD:=(((Fr.refl (S:=fun k=>w1.heap.size+1≤k) w4).alloc _).alloc _).grown hgrow (fun j hj=> .inl (ownR_base O4.out j hj));have RD:=lH (R4.out.fr HG4 (by omega) (by omega));have HOD:=lH hownD;have hsD:w1.heap.size+1≤wD.heap.size:=Nat.le_trans (by have:=SZ.out;omega) HG4.size;clear hownD hgrow hat hgl HG4;go_wp2_with fail;go_roundw
   case rel=>
    refine ⟨ss++ [x],_,cnt',RD,HN,lH ?_,HND2,HIN2,HNL,by rw [List.length_append,List.length_singleton];have:=HLT.out;omega,hsD⟩;have h9:=HOD.out;rw [List.flatMap_append,List.length_append];simp only [List.flatMap_cons,List.flatMap_nil,List.append_nil,List.length_singleton];rw [HUC.out];exact h9
   case measure=>
    rw [RD.out.left_eq,HLE.out];exact HLT.out
end Go.Proofs.YtlcojhddnpmgmaaGreat
namespace Go.Proofs.YtlcojhddnpmgmaaGreat
open Go.RowKit
def WentK (K:Nat) (w:World) (o:Nat→Nat) (L:Plc) (S:St) (n q:Nat) (r:Req) (st:List Sz) (dl:List Dl) (e:Ending) (w':World):Prop:=
 ∃(x:RepS×St) (o':Nat→Nat) (ev mv:Value),e=.returned (.agg (x.1.cells ev mv))∧ev.oneCell'=true∧mv.oneCell'=true∧Did S r st dl x∧StInv x.2 (q+2)∧Step (stateC K) w o w' o'∧StateAt w' o' K L x.2 (n+100)
theorem wentK (o:Nat→Nat) (K n q:Nat) (L:Plc) (S:St) (r:Req) (rv dv:Value) (st:List Sz) (dl:List Dl) (w:World) (h:StateAt w o K L S n) (inv:StInv S q) (hf:Fresh w o) (hr:RowsAt szC 4 w o rv st) (hd:RowsAt dlC 14 w o dv dl) (hs:smallR r st.length dl.length) (hg:∀s∈st,stpGood s.1) (hq:q≤90000) (hn:n≤400000):
  Calls Tryz.prog 15 #[.pointer (some ⟨L.s,0,none⟩),.agg (r.cells rv dv)] w (WentK K w o L S n q r st dl):=
 (gapply_ o K n q L S r rv dv st dl w h inv hf hr hd ⟨hs.1,hs.2.1,hs.2.2.1,hs.2.2.2,hg⟩ hq hn).mono (fun e w' p=>by
   obtain ⟨x,h1,h2,⟨o',s,t⟩,ev,mv,he,q1,q2⟩:=p;exact ⟨x,o',ev,mv,he,q1,q2,h1,h2,s,t⟩)
theorem same_self (v1 v2:Value) (x:List UInt8) (w:World) (h1:SlAt w v1 x) (h2:SlAt w v2 x) (hbig:x.length≤1000000):Calls Tryz.prog 28 #[v1,v2] w fun e w'=>e=.returned (.bool true)∧Fr No w w':=
 (gsame_ v1 v2 x x w h1 h2 hbig).mono (fun e w' p=>by
   unfold BoolPost at p;simpa using p)
end Go.Proofs.YtlcojhddnpmgmaaGreat
