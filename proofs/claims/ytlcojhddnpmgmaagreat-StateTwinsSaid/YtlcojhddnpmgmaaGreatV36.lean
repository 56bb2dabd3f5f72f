/- Part of a proof. -/
import Derived.Test.YtlcojhddnpmgmaaGreatV35
set_option linter.unusedSimpArgs false
set_option linter.unusedVariables false
set_option maxRecDepth 100000
set_option maxHeartbeats 6400000
namespace Go.Proofs.YtlcojhddnpmgmaaGreat
open Go.RowKit Go.Proofs.Tryz Go.Sort Go.Shelf
theorem Ec {α:Type} {r:α→α→Prop} (irr:∀x,¬r x x) (asy:∀x y,r x y→¬r y x):∀ {l1 l2:List α},l1.Pairwise r→l2.Pairwise r→(∀x,x∈l1↔x∈l2)→l1=l2
 | [],l2,_,_,h=>by
  cases l2 with
  | nil=>rfl
  | cons b t=>exact absurd ((h b).2 (by simp)) (by simp)
 | a::t, [],_,_,h=>absurd ((h a).1 (by simp)) (by simp)
 | a::t,b::s,h1,h2,h=>by
  rw [List.pairwise_cons] at h1 h2;have e:a=b:=by
   rcases List.mem_cons.1 ((h a).1 (by simp)) with e|ha
   ·exact e
   ·rcases List.mem_cons.1 ((h b).2 (by simp)) with e|hb
    ·exact e.symm
    ·exact absurd (h1.1 b hb) (asy _ _ (h2.1 a ha))
  subst e;rw [Ec irr asy h1.2 h2.2 (fun x=>⟨fun hx=> ?_,fun hx=> ?_⟩)]
  ·rcases List.mem_cons.1 ((h x).1 (List.mem_cons_of_mem _ hx)) with e|h3
   ·subst e;exact absurd (h1.1 _ hx) (irr _)
   ·exact h3
  ·rcases List.mem_cons.1 ((h x).2 (List.mem_cons_of_mem _ hx)) with e|h3
   ·subst e;exact absurd (h2.1 _ hx) (irr _)
   ·exact h3
def numsOf (p:Nat→Bool):List Nat:=(List.range 129).filter p
theorem Dt {p:Nat→Bool} (hp:∀k,p k=true→k<129) (k:Nat):k∈numsOf p↔p k=true:=by
 unfold numsOf;rw [List.mem_filter,List.mem_range];exact ⟨fun h=>h.2,fun h=>⟨hp k h,h⟩⟩
theorem Hq:∀n,(List.range n).Pairwise (· < ·)
 | 0=>List.Pairwise.nil
 | n+1=>by
  rw [List.range_succ,List.pairwise_append];exact ⟨Hq n,by simp,fun a ha b hb=>by rw [List.mem_range] at ha;rw [List.mem_singleton] at hb;omega⟩
theorem Jh {ss:List Int} {p:Nat→Bool} (hp:∀k,p k=true→k<129) (hn:ss.Nodup) (h:∀x,x∈ss↔∃k:Nat,x=k∧p k=true):ss.mergeSort (fun x y=>decide (x≤y))=(numsOf p).map (fun k:Nat=>(k:Int)):=by
 refine Ec (r:=fun a b:Int=>a<b) (fun x=>by omega) (fun x y=>by omega) ?_ ?_ (fun x=> ?_)
 ·have h1:=List.pairwise_mergeSort (le:=fun x y:Int=>decide (x≤y)) (fun a b c h1 h2=>by simp only [decide_eq_true_eq] at*;omega) (fun a b=>by simp only [Bool.or_eq_true,decide_eq_true_eq];omega) ss;have h2:=(List.mergeSort_perm ss (fun x y=>decide (x≤y))).nodup_iff.2 hn;refine List.Pairwise.imp₂ (fun a b h3 h4=> ?_) h1 h2;simp only [decide_eq_true_eq] at h3;omega
 ·rw [List.pairwise_map];unfold numsOf;exact (List.Pairwise.filter _ (Hq 129)).imp (fun h=>by omega)
 ·rw [(List.mergeSort_perm ss _).mem_iff,h x,List.mem_map];exact ⟨fun ⟨k,e,hk⟩=>⟨k,(Dt hp k).2 hk,e.symm⟩,fun ⟨k,hk,e⟩=>⟨k,e.symm,(Dt hp k).1 hk⟩⟩
def lG (i:Int):List Value:= [.int .i64 i]
theorem J5 (i:Int):(lG i).length=1:=rfl
theorem aC6 {α:Type} [Inhabited α] (enc:α→Value) {w:World} {g n:Nat} {os:Array Obj} (F:Array α):Fr (· =g) w (Go.Sort.grow (Go.Sort.putRow enc (Go.Sort.ahead w n) g 0 F) os):=by
 refine ⟨rfl,rfl,rfl,by simp,fun k hk hne=> ?_⟩;rw [Go.Sort.heap_grow_old _ _ (by simpa using hk)];have:g≠k:=fun e=>hne e.symm;simp [Go.Sort.putRow,Go.Sort.mapBlock,Go.Sort.ahead,Array.getElem?_modify,this]
theorem heap_sorted {α:Type} [Inhabited α] (enc:α→Value) {w:World} {g n:Nat} {os:Array Obj} {cur:Array Value} {e:TypeId} {fr:Nat×Nat} (F:Array α) (hb:w.heap[g]? =some (.cells cur e fr)):
  (Go.Sort.grow (Go.Sort.putRow enc (Go.Sort.ahead w n) g 0 F) os).heap[g]? =some (.cells (Go.Sort.putCells enc 0 F cur) e fr):=by
 have hg:g<w.heap.size:=(Array.getElem?_eq_some_iff.1 hb).1;rw [Go.Sort.heap_grow_old _ _ (by simpa using hg)];simp [Go.Sort.putRow,Go.Sort.mapBlock,Go.Sort.ahead,Array.getElem?_modify,hb,Go.Sort.onCells]
theorem Sj (ss:List Int) (base:Nat) (v:Value) (w:World) (h:w.ownsRow base 3 1 v ss.length (ss.flatMap lG)) (hs:ss.length<10000000):
  Calls prog 69 #[v] w fun e w'=>e=.returned (.tuple #[])∧Fr (fun k=>base≤k) w w'∧iT lG 1 3 w' base v (ss.mergeSort fun x y=>decide (x≤y)):=by
 rcases h.2 with ⟨rfl,h0⟩|⟨g,cap,cur,rfl,hb,hh,h1,h2,h3,h4⟩
 ·have hs0:=List.eq_nil_of_length_eq_zero h0;subst hs0;refine (Tryz.slices_Sort_int_none none 0 w).mono ?_;rintro e w' ⟨rfl,rfl⟩;exact ⟨rfl,Fr.refl _,.inl ⟨rfl,by simp⟩⟩
 ·have hcell:∀j (hj:j<ss.length),cur[j]? =some (.int .i64 ss[j]):=fun j hj=>by
   have h5:=congrArg (fun l=>l[j]?) h4;simp only [Nat.mul_one] at h5;rw [List.getElem?_take_of_lt hj,Array.getElem?_toList] at h5;rw [h5];have h6:=flat_get J5 ss j _ (List.getElem?_eq_getElem hj) 0 (.int .i64 ss[j]) rfl;simpa using h6
  have hH:Holds (Value.int .i64) w g 0 ss.toArray:=fun j hj=>by
   have hj':j<ss.length:=(by simpa using hj)
   refine ⟨?_,by simp [World.frozen?,hh]⟩;rw [Nat.zero_add,aA hh,hcell j hj'];simp [hj']
  refine (Tryz.slices_Sort_int g 0 cap ss w hH (lt_of_block hh) (by omega)).mono ?_;rintro e w' ⟨rfl,n,os,rfl⟩;have hl:(ss.mergeSort fun x y=>decide (x≤y)).length=ss.length:=List.length_mergeSort _;generalize (ss.mergeSort fun x y=>decide (x≤y))=zs at*;have hfin:Holds (Value.int .i64) (grow (putRow (Value.int .i64) (Sort.ahead w n) g 0 zs.toArray) os) g 0 zs.toArray:=
   holds_grow _ _ _ _ _ _ (by simpa [putRow,mapBlock,Go.Sort.ahead] using lt_of_block hh) (holds_putRow _ _ _ _ _ _ (holds_ahead _ _ n _ _ _ hH) (by simp [hl]))
  refine ⟨rfl,(aC6 _ _).mono (fun k _ e=>by rw [e];exact hb),.inr ⟨g,cap,by rw [hl],h2,hb,⟨⟨_,heap_sorted _ _ hh,?_⟩,by rw [hl];exact h1,fun j x hj i u hu=> ?_⟩⟩⟩
  ·simp only [Go.Sort.putCells,Array.size_mapIdx];omega
  ·have hjl:j<zs.length:=(List.getElem?_eq_some_iff.1 hj).1;obtain rfl:i=0:=(by have:=(List.getElem?_eq_some_iff.1 hu).1;rw [J5] at this;omega)
   have hc:=(hfin j (by simpa using hjl)).1;rw [Nat.zero_add] at hc;rw [Nat.mul_one,Nat.add_zero];refine hc.trans ?_;have e1:zs.toArray[j]! =x:=by
    rw [List.getElem?_eq_getElem hjl] at hj;cases hj;exact (getElem!_pos zs.toArray j (by simpa using hjl)).trans rfl
   rw [e1];cases hu;rfl
def uU (w:World) (l:List Nat) (e:Ending) (w':World):Prop:=∃v,e=.returned v∧iT lG 1 3 w' w.heap.size v (l.map fun k:Nat=>(k:Int))∧Fr No w w'
theorem Tryz.info3:(prog.info? 3).map (fun i=>(i.zero,i.size,i.bytes))=some (some (.int .i64 0),1,8):=by kernel_rfl
theorem aBv (o:Nat→Nat) (K t:Nat) (T:Tree) (w:World) (h:bV w o K t T) (ok:dD T):Calls prog 32 #[.pointer (some ⟨t,0,none⟩)] w (uU w (numsOf fun k=>(T k).isSome)):=by
 have HMD:=lH (qM w o K t T h);obtain ⟨mb,tp,_,kt,_,hum,_⟩:=h;have c0:w.cell? ⟨t,0,none⟩=some (.map (some mb)):=by rw [aA kt];rfl
 have hcu:things T≤129:=by
  unfold things;exact Nat.le_trans List.countP_le_length (by simp)
 have HP:Hid (∀x:Int,(aS T tp x).isSome=true↔∃k:Nat,x=k∧(T k).isSome=true):=lH (fun x=>by
  unfold aS;constructor
  ·intro h;split at h
   ·exact ⟨x.toNat,by omega,by simpa using h⟩
   ·cases h
  ·rintro ⟨k,rfl,hk⟩;rw [if_pos (by omega),Int.toNat_natCast];simpa using hk)
 have HL:Hid (∀k,(T k).isSome=true→k<129):=lH (fun k hk=>by
  obtain ⟨x,hx⟩:=Option.isSome_iff_exists.1 hk;have:=ok.lt hx;omega)
 generalize hcc:things T=cu at*;clear hcc kt;have HQ:Hid (∀(v:Value) (w':World) (ss:List Int),iT lG 1 3 w' w.heap.size v (ss.mergeSort fun x y=>decide (x≤y))→ss.Nodup→(∀x,x∈ss↔(aS T tp x).isSome=true)→Fr No w w'→uU w (numsOf (fun k=>(T k).isSome)) (.returned v) w'):=lH (fun v w' ss h1 h2 h3 f=>⟨v,rfl,by
  rw [← Jh HL.o h2 (fun x=>(h3 x).trans (HP.o x))];exact h1,f⟩)
 generalize uU w (numsOf (fun k=>(T k).isSome))=Q at*;obtain ⟨w2,hr,R2,f2,hs2⟩:=hum.range (t:=130) (e:=142) underlying130;have hult:mb<w.heap.size:=hum.lt;have HUM:=lH hum;generalize aS T tp=U at*;have RR2:=lH R2;have F2:=lH f2;obtain ⟨i0,hi,hz0,hz1,hz2⟩:=info_parts Tryz.info3;have HI:=lH hi;have HZ0:=lH hz0;have HZ1:=lH hz1;have HZ2:=lH hz2;have HS2:=lH hs2;clear hi hz0 hz1 hz2 ok hum R2 f2 hs2;go_enter func32,ntmps32;go_wp2_with fail;refine HMD.o.mono ?_;rintro e w1 ⟨rfl,hw⟩;have hw':=hw.symm;subst hw';go_wp2_with fail;go_loopw [3] (fun v wr=>∃(ss:List Int) (left:Int→Bool) (cnt:Nat),Hid (fG encI wr mb w.heap.size cu U left cnt)∧Hid (∀s:Int,I64 s→(left s=true↔(U s).isSome=true∧s ∉ ss))∧Hid (wr.ownsRow (w.heap.size+1) 3 1 v ss.length (ss.flatMap lG))∧Hid ss.Nodup∧Hid (∀s∈ss,(U s).isSome=true)∧Hid (Fr No w wr)∧cnt+ss.length≤cu∧w.heap.size+1≤wr.heap.size) (fun _ wr=>wr.rangeLeft mb w.heap.size)
 case atStart=>
  refine ⟨[],_,_,RR2,lH (fun s _=> ?_),lH ⟨rfl,.inl ⟨rfl,rfl⟩⟩,lH List.nodup_nil,lH (by simp),F2,by simp,by have:=HS2.o;omega⟩;simp
 case round=>
  obtain ⟨ss,left,cnt,HRA,HLF,HOWN,HND,HIN,HFR,hcnt,hsz⟩:=hrel;obtain ⟨a,cc,rfl⟩:=HOWN.o.shape;rcases HRA.o.next 0 with ⟨_,hno,hnx⟩|⟨x,y,w4,cnt',hms,hls,hnx,hra',hlt',f4,hs4,hen⟩
  ·have hall:∀s,s∈ss↔(U s).isSome=true:=fun s=>⟨HIN.o s,fun h=>by
    obtain ⟨u0,hu0⟩:=Option.isSome_iff_exists.1 h;have hg:I64 s:=(HUM.o.good hu0).1;apply Classical.byContradiction;intro hn;have:=(HLF.o s hg).2 ⟨h,hn⟩;rw [hno s hg] at this;cases this⟩
   have HALL:=lH hall;clear hall hno;go_wp2_with fail;refine (Sj ss (w.heap.size+1) _ wr HOWN.o (by omega)).mono ?_;rintro e w6 ⟨rfl,f6,hes⟩;have hfin:Fr No w w6:=((HFR.o.bK (S:=fun k=>w.heap.size+1≤k)).trans f6 (fun j _ h=>h)).no (fun j hj h=>by omega);have hrow:iT lG 1 3 w6 w.heap.size (.slice a ss.length cc) (ss.mergeSort fun x y=>decide (x≤y)):=by
    rcases hes with h|⟨b,c,e,h1,h2,h3⟩
    ·exact .inl h
    ·exact .inr ⟨b,c,e,h1,by omega,h3⟩
   have H1:=lH hfin;have H2:=lH hrow;clear f6 hes hfin hrow;go_wp2_with fail;exact HQ.o _ _ _ H2.o HND.o HALL.o H1.o
  ·have hgx:I64 x:=(HRA.o.map.good hms).1;obtain ⟨_,hnin⟩:=(HLF.o x hgx).1 hls;have hux:(U x).isSome=true:=(by rw [hms];rfl)
   have F4:Hid (Fr No w w4):=lH (HFR.o.trans f4 (fun j hj e=>by omega));have O4:Hid (w4.ownsRow (w.heap.size+1) 3 1 (.slice a ss.length cc) ss.length (ss.flatMap lG)):=lH (Bl HOWN.o f4 (fun j hj e=>by have:=qR HOWN.o j hj;omega));have R4:=lH hra';have hnx':(Instr.next (.pointer (some ⟨w.heap.size,0,none⟩)) false 0).run prog wr=.ok (.tuple #[.bool true,.int .i64 x,.pointer (some ⟨y,0,none⟩)]) w4:=hnx;have hen':(Instr.entry (.pointer (some ⟨w.heap.size,0,none⟩))).run prog w4=.ok (.tuple #[.int .i64 x,.pointer (some ⟨y,0,none⟩)]) w4:=hen;have HLE:Hid (wr.rangeLeft mb w.heap.size=cnt):=lH HRA.o.left_eq;have HLT:=lH hlt';have HN:Hid (∀s:Int,I64 s→((left s&&decide (s≠x))=true↔(U s).isSome=true∧s ∉ ss++ [x])):=lH (fun s hs=>by
    rw [Bool.and_eq_true,decide_eq_true_eq,HLF.o s hs,List.mem_append,List.mem_singleton];constructor
    ·rintro ⟨⟨h1,h2⟩,h3⟩;exact ⟨h1,fun h=>h.elim h2 h3⟩
    ·rintro ⟨h1,h2⟩;exact ⟨⟨h1,fun h=>h2 (.inl h)⟩,fun h=>h2 (.inr h)⟩)
   have HND2:Hid (ss++ [x]).Nodup:=lH (by
    rw [List.nodup_append];exact ⟨HND.o,by simp,fun a ha b hb e=>by
     rw [List.mem_singleton] at hb;subst hb;subst e;exact hnin ha⟩)
   have HIN2:Hid (∀s∈ss++ [x],(U s).isSome=true):=lH (fun s hs=>by
    rcases List.mem_append.1 hs with h|h
    ·exact HIN.o s h
    ·rw [List.mem_singleton] at h;rw [h];exact hux)
   have hs4':w4.heap.size=wr.heap.size:=hs4;have SZ:=lH hs4';clear hnx hen hra' f4 hs4 hms hls hlt' hnin hux hs4' hgx;go_wp2_with (at_builtin;(refine wpList_append_lies _ (by rfl) _ _ 70 (by rfl) (w.heap.size+1) 3 i0 _ 1 8 underlying70 HI.o HZ0.o HZ1.o HZ2.o rfl (by decide) (.slice a ss.length cc) ss.length (ss.flatMap lG) (by rfl) (O4.o.alloc _) ⟨w4.heap.size,0,none⟩ 1 1 [.int .i64 x] (by rfl) (by rfl) ?d1 (by simp [Value.oneCell']) (by decide) (by unfold maxLen;omega) (by omega) ?d5 (w4.heap.size+1) ?d6 ?_))
   case d1=>exact World.news_of_block (cs:= #[.int .i64 x]) (t:=3) (fr:=(0,0)) (heap_alloc_new w4 _)
   case d5=>rw [jR];have:=SZ.o;omega
   case d6=>simp
   intro gg cap wD hownD hgrow hat hgl;have HNL:Hid (Fr No w wD):=lH ((F4.o.alloc _).grown hgrow (fun j hj=> .inr (by have:=qR O4.o j hj;omega)));have HG4:Fr (fun k=>w.heap.size+1≤k) w4 wD:=((Fr.refl (S:=fun k=>w.heap.size+1≤k) w4).alloc _).grown hgrow (fun j hj=> .inl (qR O4.o j hj));have RD:=lH (R4.o.fr HG4 (by omega) (by omega));have HOD:=lH hownD;have hsD:w.heap.size+1≤wD.heap.size:=Nat.le_trans (by have:=SZ.o;omega) HG4.size;clear hownD hgrow hat hgl HG4;go_wp2_with fail;go_roundw
   case rel=>
    refine ⟨ss++ [x],_,cnt',RD,HN,lH ?_,HND2,HIN2,HNL,by rw [List.length_append,List.length_singleton];have:=HLT.o;omega,hsD⟩;have h9:=HOD.o;rw [List.flatMap_append,List.length_append];simp only [List.flatMap_cons,List.flatMap_nil,List.append_nil,List.length_singleton];exact h9
   case measure=>
    rw [RD.o.left_eq,HLE.o];exact HLT.o
theorem Wn (o:Nat→Nat) (K n:Nat) (L:aT) (S:St) (w:World) (h:aK w o K L S n) (ok:aU S) (hn:n≤1000000):Calls prog 79 #[.pointer (some ⟨L.s,0,none⟩)] w (uU w (numsOf fun k=>(S.F k).isSome)):=by
 have c11:w.cell? ⟨L.s,11,none⟩=some (.map (some L.fl)):=h.cell 11;obtain ⟨_,fp,cu,hcu0,hum,_⟩:=h.files;have HP:Hid (∀x:Int,(cO S.F fp x).isSome=true↔∃k:Nat,x=k∧(S.F k).isSome=true):=lH (fun x=>by
  unfold cO;constructor
  ·intro h;split at h
   ·exact ⟨x.toNat,by omega,by simpa using h⟩
   ·cases h
  ·rintro ⟨k,rfl,hk⟩;rw [if_pos (by omega),Int.toNat_natCast];simpa using hk)
 have HL:Hid (∀k,(S.F k).isSome=true→k<129):=lH (fun k hk=>by
  obtain ⟨x,hx⟩:=Option.isSome_iff_exists.1 hk;have:=ok.file k x hx;omega)
 have hcu:cu≤1000000:=Nat.le_trans hcu0 hn;clear hcu0 hn;generalize hmb:L.fl=mb at*;clear hmb;have HQ:Hid (∀(v:Value) (w':World) (ss:List Int),iT lG 1 3 w' w.heap.size v (ss.mergeSort fun x y=>decide (x≤y))→ss.Nodup→(∀x,x∈ss↔(cO S.F fp x).isSome=true)→Fr No w w'→uU w (numsOf (fun k=>(S.F k).isSome)) (.returned v) w'):=lH (fun v w' ss h1 h2 h3 f=>⟨v,rfl,by
  rw [← Jh HL.o h2 (fun x=>(h3 x).trans (HP.o x))];exact h1,f⟩)
 generalize uU w (numsOf (fun k=>(S.F k).isSome))=Q at*;obtain ⟨w2,hr,R2,f2,hs2⟩:=hum.range (t:=100) (e:=63) underlying100;have hult:mb<w.heap.size:=hum.lt;have HUM:=lH hum;generalize cO S.F fp=U at*;have RR2:=lH R2;have F2:=lH f2;obtain ⟨i0,hi,hz0,hz1,hz2⟩:=info_parts Tryz.info3;have HI:=lH hi;have HZ0:=lH hz0;have HZ1:=lH hz1;have HZ2:=lH hz2;have HS2:=lH hs2;clear hi hz0 hz1 hz2 h ok hum R2 f2 hs2;go_enter func79,ntmps79;go_wp2_with fail;go_loopw [3] (fun v wr=>∃(ss:List Int) (left:Int→Bool) (cnt:Nat),Hid (fG encI wr mb w.heap.size cu U left cnt)∧Hid (∀s:Int,I64 s→(left s=true↔(U s).isSome=true∧s ∉ ss))∧Hid (wr.ownsRow (w.heap.size+1) 3 1 v ss.length (ss.flatMap lG))∧Hid ss.Nodup∧Hid (∀s∈ss,(U s).isSome=true)∧Hid (Fr No w wr)∧cnt+ss.length≤cu∧w.heap.size+1≤wr.heap.size) (fun _ wr=>wr.rangeLeft mb w.heap.size)
 case atStart=>
  refine ⟨[],_,_,RR2,lH (fun s _=> ?_),lH ⟨rfl,.inl ⟨rfl,rfl⟩⟩,lH List.nodup_nil,lH (by simp),F2,by simp,by have:=HS2.o;omega⟩;simp
 case round=>
  obtain ⟨ss,left,cnt,HRA,HLF,HOWN,HND,HIN,HFR,hcnt,hsz⟩:=hrel;obtain ⟨a,cc,rfl⟩:=HOWN.o.shape;rcases HRA.o.next 0 with ⟨_,hno,hnx⟩|⟨x,y,w4,cnt',hms,hls,hnx,hra',hlt',f4,hs4,hen⟩
  ·have hall:∀s,s∈ss↔(U s).isSome=true:=fun s=>⟨HIN.o s,fun h=>by
    obtain ⟨u0,hu0⟩:=Option.isSome_iff_exists.1 h;have hg:I64 s:=(HUM.o.good hu0).1;apply Classical.byContradiction;intro hn;have:=(HLF.o s hg).2 ⟨h,hn⟩;rw [hno s hg] at this;cases this⟩
   have HALL:=lH hall;clear hall hno;go_wp2_with fail;refine (Sj ss (w.heap.size+1) _ wr HOWN.o (by omega)).mono ?_;rintro e w6 ⟨rfl,f6,hes⟩;have hfin:Fr No w w6:=((HFR.o.bK (S:=fun k=>w.heap.size+1≤k)).trans f6 (fun j _ h=>h)).no (fun j hj h=>by omega);have hrow:iT lG 1 3 w6 w.heap.size (.slice a ss.length cc) (ss.mergeSort fun x y=>decide (x≤y)):=by
    rcases hes with h|⟨b,c,e,h1,h2,h3⟩
    ·exact .inl h
    ·exact .inr ⟨b,c,e,h1,by omega,h3⟩
   have H1:=lH hfin;have H2:=lH hrow;clear f6 hes hfin hrow;go_wp2_with fail;exact HQ.o _ _ _ H2.o HND.o HALL.o H1.o
  ·have hgx:I64 x:=(HRA.o.map.good hms).1;obtain ⟨_,hnin⟩:=(HLF.o x hgx).1 hls;have hux:(U x).isSome=true:=(by rw [hms];rfl)
   have F4:Hid (Fr No w w4):=lH (HFR.o.trans f4 (fun j hj e=>by omega));have O4:Hid (w4.ownsRow (w.heap.size+1) 3 1 (.slice a ss.length cc) ss.length (ss.flatMap lG)):=lH (Bl HOWN.o f4 (fun j hj e=>by have:=qR HOWN.o j hj;omega));have R4:=lH hra';have hnx':(Instr.next (.pointer (some ⟨w.heap.size,0,none⟩)) false 0).run prog wr=.ok (.tuple #[.bool true,.int .i64 x,.pointer (some ⟨y,0,none⟩)]) w4:=hnx;have hen':(Instr.entry (.pointer (some ⟨w.heap.size,0,none⟩))).run prog w4=.ok (.tuple #[.int .i64 x,.pointer (some ⟨y,0,none⟩)]) w4:=hen;have HLE:Hid (wr.rangeLeft mb w.heap.size=cnt):=lH HRA.o.left_eq;have HLT:=lH hlt';have HN:Hid (∀s:Int,I64 s→((left s&&decide (s≠x))=true↔(U s).isSome=true∧s ∉ ss++ [x])):=lH (fun s hs=>by
    rw [Bool.and_eq_true,decide_eq_true_eq,HLF.o s hs,List.mem_append,List.mem_singleton];constructor
    ·rintro ⟨⟨h1,h2⟩,h3⟩;exact ⟨h1,fun h=>h.elim h2 h3⟩
    ·rintro ⟨h1,h2⟩;exact ⟨⟨h1,fun h=>h2 (.inl h)⟩,fun h=>h2 (.inr h)⟩)
   have HND2:Hid (ss++ [x]).Nodup:=lH (by
    rw [List.nodup_append];exact ⟨HND.o,by simp,fun a ha b hb e=>by
     rw [List.mem_singleton] at hb;subst hb;subst e;exact hnin ha⟩)
   have HIN2:Hid (∀s∈ss++ [x],(U s).isSome=true):=lH (fun s hs=>by
    rcases List.mem_append.1 hs with h|h
    ·exact HIN.o s h
    ·rw [List.mem_singleton] at h;rw [h];exact hux)
   have hs4':w4.heap.size=wr.heap.size:=hs4;have SZ:=lH hs4';clear hnx hen hra' f4 hs4 hms hls hlt' hnin hux hs4' hgx;go_wp2_with (at_builtin;(refine wpList_append_lies _ (by rfl) _ _ 70 (by rfl) (w.heap.size+1) 3 i0 _ 1 8 underlying70 HI.o HZ0.o HZ1.o HZ2.o rfl (by decide) (.slice a ss.length cc) ss.length (ss.flatMap lG) (by rfl) (O4.o.alloc _) ⟨w4.heap.size,0,none⟩ 1 1 [.int .i64 x] (by rfl) (by rfl) ?d1 (by simp [Value.oneCell']) (by decide) (by unfold maxLen;omega) (by omega) ?d5 (w4.heap.size+1) ?d6 ?_))
   case d1=>exact World.news_of_block (cs:= #[.int .i64 x]) (t:=3) (fr:=(0,0)) (heap_alloc_new w4 _)
   case d5=>rw [jR];have:=SZ.o;omega
   case d6=>simp
   intro gg cap wD hownD hgrow hat hgl;have HNL:Hid (Fr No w wD):=lH ((F4.o.alloc _).grown hgrow (fun j hj=> .inr (by have:=qR O4.o j hj;omega)));have HG4:Fr (fun k=>w.heap.size+1≤k) w4 wD:=((Fr.refl (S:=fun k=>w.heap.size+1≤k) w4).alloc _).grown hgrow (fun j hj=> .inl (qR O4.o j hj));have RD:=lH (R4.o.fr HG4 (by omega) (by omega));have HOD:=lH hownD;have hsD:w.heap.size+1≤wD.heap.size:=Nat.le_trans (by have:=SZ.o;omega) HG4.size;clear hownD hgrow hat hgl HG4;go_wp2_with fail;go_roundw
   case rel=>
    refine ⟨ss++ [x],_,cnt',RD,HN,lH ?_,HND2,HIN2,HNL,by rw [List.length_append,List.length_singleton];have:=HLT.o;omega,hsD⟩;have h9:=HOD.o;rw [List.flatMap_append,List.length_append];simp only [List.flatMap_cons,List.flatMap_nil,List.append_nil,List.length_singleton];exact h9
   case measure=>
    rw [RD.o.left_eq,HLE.o];exact HLT.o
end Go.Proofs.YtlcojhddnpmgmaaGreat
namespace Go.Proofs.YtlcojhddnpmgmaaGreat
open Go.RowKit Go.Proofs.Tryz
theorem lC.slice {w:World} {v:Value} {bs:List UInt8} (h:lC w v bs):∃a c,v=.slice a bs.length c:=by
 rcases h with ⟨rfl,a,c,rfl⟩|⟨b,off,c,rfl,_⟩
 ·exact ⟨a,c,rfl⟩
 ·exact ⟨_,c,rfl⟩
theorem lC.at {w:World} {a:Option Addr} {c:Nat} {bs:List UInt8} (h:lC w (.slice a bs.length c) bs) {j:Nat} (hj:j<bs.length):∃b off,a=some ⟨b,off,none⟩∧w.cell? ⟨b,off+j,none⟩=some (.int .u8 bs[j].toNat):=by
 rcases h with ⟨rfl,_⟩|⟨b,off,c',e,_,_,hc⟩
 ·exact absurd hj (Nat.not_lt_zero _)
 ·cases e;exact ⟨b,off,rfl,hc j _ (List.getElem?_eq_getElem hj)⟩
theorem dC.yV {w:World} {v:Value} {bs:List UInt8} {b off c:Nat} (h:dC w v bs b off c):lC w v bs:=.inr ⟨b,off,c,h.1,h.2.1,h.2.2.1,h.2.2.2⟩
theorem aCE (v1 v2:Value) (x y:List UInt8) (w:World) (h1:lC w v1 x) (h2:lC w v2 y) (hbig:x.length≤1000000):Calls prog 28 #[v1,v2] w (kY w (x=y)):=by
 have mixed:prog.follows .mixedOrders=true:=by kernel_rfl
 obtain ⟨a1,c1,rfl⟩:=h1.slice;obtain ⟨a2,c2,rfl⟩:=h2.slice;have HQ:Hid (∀b w',(b=true↔x=y)→Fr No w w'→kY w (x=y) (.returned (.bool b)) w'):=lH (fun b w' hb f=>kY.mk b _ _ hb rfl f);generalize kY w (x=y)=Q at*;have H1:=lH h1;have H2:=lH h2;clear h1 h2;by_cases hl:x.length=y.length
 ·have q0:((x.length:Int) !=(y.length:Int))=false:=by rw [hl];simp
  have HL:=lH hl;clear hl;go_enter func28,ntmps28;go_wp2_with fail;go_loopw [5] (fun a wr=>∃j:Nat,a=.int .i64 j∧j≤x.length∧Hid (x.take j=y.take j)∧Hid (Fr No w wr)) (fun a _=>x.length - (intOf a).toNat)
  case atStart=>exact ⟨0,rfl,Nat.zero_le _,lH rfl,lH (Fr.refl _)⟩
  case round=>
   obtain ⟨j,rfl,hj,HT,HF⟩:=hrel;by_cases hlt:j<x.length
   ·have hlt2:j<y.length:=by rw [← HL.o];exact hlt
    obtain ⟨b1,o1,rfl,k1⟩:=(H1.o.no HF.o).at hlt;obtain ⟨b2,o2,rfl,k2⟩:=(H2.o.no HF.o).at (j:=j) hlt2;have q1:(j:Int)<(x.length:Int):=(by omega)
    have q2:(j:Int)<(y.length:Int):=(by omega)
    have q3:(0:Int)≤(j:Int):=(by omega)
    have HN:Hid (x[j].toNat=y[j].toNat→x.take (j+1)=y.take (j+1)):=lH (fun e=>by
     rw [List.take_succ_eq_append_getElem hlt,List.take_succ_eq_append_getElem hlt2,HT.o,UInt8.toNat_inj.1 e])
    have HX:Hid (x=y→x[j].toNat=y[j].toNat):=lH (fun e=>by subst e;rfl);generalize x[j].toNat=u at*;generalize y[j].toNat=v at*;by_cases e:u=v
    ·have HN':=lH (HN.o e);subst e;go_wp2_with fail
     go_region
     all_goals
      go_wp2_with fail;go_roundw
      case rel=>exact ⟨j+1,by go_num,hlt,HN',lH (HF.o.drew)⟩
      case measure=>simp [intOf];omega
    ·have q4:((u:Int) !=(v:Int))=true:=by simp only [bne_iff_ne,ne_eq];omega
     have HE:Hid (¬x=y):=lH (fun h=>e (HX.o h));go_wp2_with fail
     go_region
     all_goals
      go_wp2_with fail;exact HQ.o false _ (by simp [HE.o]) HF.o.drew
   ·obtain rfl:j=x.length:=by omega
    have q1:¬(x.length:Int)<(x.length:Int):=(by omega)
    have HE:Hid (x=y):=lH (by
     have h:=HT.o;rw [List.take_length,HL.o,List.take_length] at h;exact h)
    go_wp2_with fail;exact HQ.o true _ (by simp [HE.o]) HF.o
 ·have q0:((x.length:Int) !=(y.length:Int))=true:=by simp only [bne_iff_ne,ne_eq];omega
  have HE:Hid (¬x=y):=lH (fun h=>hl (by rw [h]));go_enter func28,ntmps28;go_wp2_with fail;exact HQ.o false _ (by simp [HE.o]) (Fr.refl _)
def nI (T:Tree) (s:aN) (k:Nat):aN:=if k=1 then s else match T k with
 | none=>s
 | some x=>dE (fK (aI (aI s k 2) x.up 2) (ba x.name).data.toList) [if x.dir then 1 else 0]
def qQ (T:Tree):List Nat:=numsOf fun k=>(T k).isSome
def pR (s:aN) (T:Tree):aN:=(qQ T).foldl (nI T) (aI s ((things T:Int) - 1) 2)
theorem nX.cells {w:World} {o:Nat→Nat} {K k p n:Nat} {x:Node} {m:ByteArray→Option Int} (h:nX w o K k p x n m):∃v,w.heap[p]? =some (.cells #[.int .i64 x.up,.string (ba x.name),.bool x.dir,v] 141 (0,0)):=by
 obtain ⟨up,name,dir⟩:=x;have:=h.2;cases dir with
 | false=>exact ⟨_,this⟩
 | true=>
  obtain ⟨ib,_,e,_⟩:=this;exact ⟨_,e⟩
theorem Nc {w:World} {b cap:Nat} {L:List Nat} (h:bP lG 1 3 w b cap (L.map fun k:Nat=>(k:Int))) {j:Nat} (hj:j<L.length):w.cell? ⟨b,j,none⟩=some (.int .i64 ((L[j]:Nat):Int)):=by
 have:=h.row j ((L[j]:Nat):Int) (by rw [List.getElem?_map,List.getElem?_eq_getElem hj];rfl) 0 _ rfl;simpa using this
theorem Vh (o:Nat→Nat) (K t p base:Nat) (T:Tree) (s:aN) (w:World) (hT:∀w',Fr (Pf w p base) w w'→bV w' o K t T) (ok:dD T) (h:Pg w p base s):
  Calls prog 70 #[.pointer (some ⟨t,0,none⟩),.pointer (some ⟨p,0,none⟩)] w (mD w p base (pR s T)):=by
 have HR:Hid (∀e w',e=.returned (.tuple #[])→Pg w' p base (pR s T)→Fr (Pf w p base) w w'→mD w p base (pR s T) e w'):=lH (fun e w' a b c=>⟨a,b,c⟩);have hp:Hid (pR s T=(qQ T).foldl (nI T) (aI s ((things T:Int) - 1) 2)):=lH rfl;have h0:=hT w (Fr.refl _);have hth:1≤things T∧things T≤129:=by
  unfold things;refine ⟨?_,Nat.le_trans List.countP_le_length (by simp)⟩;exact List.countP_pos_iff.2 ⟨1,by simp,by rw [ok.root];rfl⟩
 generalize hQ:mD w p base (pR s T)=Q at*;generalize pR s T=Z at*;clear hQ;have HT:=lH hT;have OK:=lH ok;have HMD:=lH (qM w o K t T h0);obtain ⟨mb,tp,_,kt,_,hum,_⟩:=h0;have c0:w.cell? ⟨t,0,none⟩=some (.map (some mb)):=by rw [aA kt];rfl
 have hlen:=fun ty=>hum.len (t:=130) (e:=142) underlying130 ty;have HN:=lH (kQ p base 2 s ((things T:Int) - 1) (by decide) (by decide) w h);have hwr:IntKind.i64.wrap ((things T:Int) - 1)=(things T:Int) - 1:=by rw [IntKind.wrap_i64];omega
 generalize hcc:things T=cu at*;have HG:=lH h;clear hT ok hum kt hcc h;go_enter func70,ntmps70;go_wp2_with fail;refine HMD.o.mono ?_;rintro e w1 ⟨rfl,hw⟩;subst hw;go_wp2_with fail;refine HN.o.mono ?_;rintro e w2 ⟨rfl,g2,f2⟩;have F2:=lH f2;have G2:=lH g2;have HIN:=lH (aBv o K t T w2 (HT.o w2 f2) OK.o);clear f2 g2 c0 hlen;go_wp2_with fail;refine HIN.o.mono ?_;rintro e w3 ⟨v,rfl,hrow,f3⟩;change iT lG 1 3 w3 w2.heap.size v ((qQ T).map fun k:Nat=>(k:Int)) at hrow;obtain ⟨a,cap,hv⟩:=hrow.shape;rw [List.length_map] at hv;subst hv;have HROW:=lH hrow;have G3:=lH (G2.o.no f3);have F3:=lH (cZ F2.o f3.bK);change Hid (iT lG 1 3 w3 w2.heap.size (.slice a (qQ T).length cap) ((qQ T).map fun k:Nat=>(k:Int))) at HROW;have HIS:Hid (∀k∈qQ T,∃x,T k=some x∧k≤128):=lH (fun k hk=>by
  have h1:=(List.mem_filter.1 hk).2;obtain ⟨x,hx⟩:=Option.isSome_iff_exists.1 h1;exact ⟨x,hx,(OK.o.lt hx).2⟩)
 generalize qQ T=L at*;clear hrow f3 HIN HN;go_wp2_with fail;go_loopw [21] (fun u wr=>∃j:Nat,u=.int .i64 j∧j≤L.length∧Hid (Pg wr p base ((L.take j).foldl (nI T) (aI s ((cu:Int) - 1) 2)))∧Hid (Fr (Pf w3 p base) w3 wr)) (fun u _=>L.length - (intOf u).toNat)
 case atStart=>exact ⟨0,rfl,Nat.zero_le _,lH (by rw [List.take_zero,List.foldl_nil];exact G3.o),lH (Fr.refl _)⟩
 case round=>
  obtain ⟨j,rfl,hj,HGR,HFR⟩:=hrel;by_cases hlt:j<L.length
  ·obtain ⟨b,rfl,hm,_,hr⟩:=HROW.o.at (by rw [List.length_map];omega);have hr2:=hr.pf G3.o HFR.o (by decide) (by decide);have k1:=Nc hr2 hlt;have hl2:=hr.len;rw [List.length_map] at hl2;have hml:cap≤9223372036854775807:=hm;have q1:(j:Int)<(L.length:Int):=(by omega)
   have q2:(j:Int)<(cap:Int):=(by omega)
   have q3:(0:Int)≤(j:Int):=(by omega)
   have HTK:Hid (L.take (j+1)=L.take j++ [L[j]]):=lH (by rw [List.take_add_one,List.getElem?_eq_getElem hlt];rfl);obtain ⟨x,hx,hk128⟩:=HIS.o L[j] (List.getElem_mem hlt);generalize L[j]=k at*;have HX:=lH hx;obtain ⟨mb2,tp2,_,kt2,_,hum2,hth2⟩:=HT.o wr (cZ F3.o HFR.o);have c0:wr.cell? ⟨t,0,none⟩=some (.map (some mb2)):=(by rw [aA kt2];rfl)
   have hlk:=hum2.look (k:Int) (show I64 _ by unfold I64;omega) (t:=130) (e:=142) underlying130 (z:=.pointer none) (by kernel_rfl) false;rw [show aS T tp2 (k:Int)=some (tp2 k) by simp [aS,hx]] at hlk;have hlk':(Instr.lookup 130 (.map (some mb2)) (.int .i64 k) false).run prog wr=.ok (.pointer (some ⟨tp2 k,0,none⟩)) wr:=hlk;obtain ⟨vin,kx⟩:=(hth2 k x hx).cells;have KX:=lH kx;have HNM:Hid (k≠1→(ba x.name).size≤1000000):=lH (fun h1=>by
    rw [lL];have:=(qB x.name (OK.o.name k x hx h1)).2.2;omega)
   clear hr hr2 hm kt2 hum2 hth2 hlk kx hx;by_cases h1:k=1
   ·subst h1;have HG3:Hid (Pg wr p base ((L.take (j+1)).foldl (nI T) (aI s ((cu:Int) - 1) 2))):=lH (by
     rw [HTK.o,List.foldl_append];exact HGR.o)
    go_wp2_with fail;go_roundw
    case rel=>exact ⟨j+1,by go_num,hlt,HG3,HFR⟩
    case measure=>simp [intOf];omega
   ·have q4:((k:Int)==1)=false:=by rw [beq_eq_false_iff_ne];omega
    have HST:Hid (∀s,nI T s k=dE (fK (aI (aI s k 2) x.up 2) (ba x.name).data.toList) [if x.dir then 1 else 0]):=lH (fun s=>by
     unfold nI;rw [if_neg h1,HX.o])
    have HNM':=lH (HNM.o h1);obtain ⟨up,nm,dir⟩:=x;dsimp only at KX HST HNM';have HE:Hid (∀w',Pg w' p base (nI T ((L.take j).foldl (nI T) (aI s ((cu:Int) - 1) 2)) k)→Pg w' p base ((L.take (j+1)).foldl (nI T) (aI s ((cu:Int) - 1) 2))):=lH (fun w' g=>by rw [HTK.o,List.foldl_append];exact g);generalize (L.take j).foldl (nI T) (aI s ((cu:Int) - 1) 2)=s0 at*;go_wp2_with fail;refine (kQ p base 2 s0 k (by decide) (by decide) _ HGR.o).mono ?_;rintro e w4 ⟨rfl,g4,f4⟩;have k4:=jV HGR.o f4 KX.o (by decide) (by decide);have p0:w4.cell? ⟨tp2 k,0,none⟩=some (.int .i64 up):=(by rw [aA k4];rfl)
    have G4:=lH g4;have F4:=lH (cZ HFR.o f4);have K4:=lH k4;clear g4 f4 k4 k1 c0 hlk';go_wp2_with fail;refine (kQ p base 2 _ up (by decide) (by decide) _ G4.o).mono ?_;rintro e w5 ⟨rfl,g5,f5⟩;have k5:=jV G4.o f5 K4.o (by decide) (by decide);have p1:w5.cell? ⟨tp2 k,1,none⟩=some (.string (ba nm)):=(by rw [aA k5];rfl)
    have G5:=lH g5;have F5:=lH (cZ F4.o f5);have K5:=lH k5;clear g5 f5 k5 p0;go_wp2_with fail;refine (Tc p base _ (ba nm) HNM'.o _ G5.o).mono ?_;rintro e w6 ⟨rfl,g6,f6⟩;have k6:=jV G5.o f6 K5.o (by decide) (by decide);have p2:w6.cell? ⟨tp2 k,2,none⟩=some (.bool dir):=(by rw [aA k6];rfl)
    have G6:=lH g6;have F6:=lH (cZ F5.o f6);clear g6 f6 k6 p1;go_wp2_with fail;refine (Dh p base _ dir _ G6.o).mono ?_;rintro e w7 ⟨rfl,g7,f7⟩;have HG7:=lH (HE.o w7 (by rw [HST.o];exact g7));have HF7:=lH (cZ F6.o f7);clear g7 f7 p2;go_wp2_with fail;go_roundw
    case rel=>exact ⟨j+1,by go_num,hlt,HG7,HF7⟩
    case measure=>simp [intOf];omega
  ·obtain rfl:j=L.length:=by omega
   have q1:¬(L.length:Int)<(L.length:Int):=(by omega)
   have HZ:Hid (Pg wr p base Z):=lH (by rw [hp.o];have:=HGR.o;rwa [List.take_length] at this);go_wp2_with fail;exact bodyPost_end (v:=.tuple #[]) (by simp [results,results70,go_sem]) rfl (HR.o _ _ rfl HZ.o (cZ F3.o HFR.o))
def yI (w:World) (o:Nat→Nat) (K:Nat) (T:Tree) (e:Ending) (w':World):Prop:=∃t o',e=.returned (.pointer (some ⟨t,0,none⟩))∧Step (fun _=>False) w o w' o'∧bV w' o' K t T
structure rJ (w:World) (o:Nat→Nat) (T:Tree) (K t m0 r:Nat) (wr:World) (left:Int→Bool) (oj tp:Nat→Nat):Prop where
 step:Step (fun _=>False) w o wr oj
 ot:oj t=K+3
 om:oj m0=K+4
 orr:oj r=0
 bt:w.heap.size≤t
 bm:w.heap.size≤m0
 br:w.heap.size≤r
 cs:wr.heap[t]? =some (.cells #[.map (some m0)] 132 (0,0))
 map:∃c,c≤129∧MapAt encI wr m0 c (gone left (aS T tp))
 done:∀k x,T k=some x→left (k:Int)=false→nX wr oj K k (tp k) x (aV T k) (aW T k)
theorem rJ.steps {w:World} {o:Nat→Nat} {T:Tree} {K t m0 r:Nat} {wr w2:World} {left:Int→Bool} {oj oj2 tp:Nat→Nat} (h:rJ w o T K t m0 r wr left oj tp) {C:Nat→Prop} (s:Step C wr oj w2 oj2) (s0:Step (fun _=>False) w o w2 oj2) (hC:∀c,C c→c=0) (hr:r<wr.heap.size):rJ w o T K t m0 r w2 left oj2 tp where
 step:=s0
 ot:=(s.own h.cs).trans h.ot
 om:=by
  obtain ⟨c,_,hm⟩:=h.map;exact (s.old m0 hm.lt).trans h.om
 orr:=(s.old r hr).trans h.orr
 bt:=h.bt
 bm:=h.bm
 br:=h.br
 cs:=s.block h.cs (by rw [h.ot];intro e;have:=hC _ e;omega)
 map:=by
  obtain ⟨c,hc,hm⟩:=h.map;exact ⟨c,hc,hm.fr s.fr (by rw [h.om];intro e;have:=hC _ e;omega)⟩
 done:=fun k x hk hl=>(h.done k x hk hl).step s (by intro e;have:=hC _ e;omega) (by intro e;have:=hC _ e;omega)
theorem rJ.put {w:World} {o:Nat→Nat} {T:Tree} {K t m0 r:Nat} {wr:World} {left:Int→Bool} {oj tp:Nat→Nat} (h:rJ w o T K t m0 r wr left oj tp) {k:Nat} {x:Node} (hk:T k=some x) (hk8:k≤128) (hl:left (k:Int)=true) {yb:Nat} (hth:nX wr oj K k yb x (aV T k) (aW T k))
  {c0:Nat} (hc0:∃c,c≤c0∧MapAt encI wr m0 c (gone left (aS T tp))) (hc1:c0<129):
  ∃w5,(Instr.mapUpdate 130 (.map (some m0)) (.int .i64 k) (.pointer (some ⟨yb,0,none⟩))).run prog wr=.ok () w5∧rJ w o T K t m0 r w5 (fun z=>left z&&decide (z≠(k:Int))) oj (fun j=>if j=k then yb else tp j)∧Fr (· =m0) wr w5∧∃c,c≤c0+1∧MapAt encI w5 m0 c (gone (fun z=>left z&&decide (z≠(k:Int))) (aS T (fun j=>if j=k then yb else tp j))):=by
 obtain ⟨c,hc,hm⟩:=hc0;obtain ⟨w5,hu,hm5,f5⟩:=hm.put (k:Int) yb (show I64 _ by unfold I64;omega) trivial (by omega) (t:=130) (e:=142) underlying130;have e1:gone left (aS T tp) (k:Int)=none:=if_pos hl;rw [e1] at hm5;have hkk:aS T tp (k:Int)=some (tp k):=by simp [aS,hk]
 have e2:(fun z=>if z=(k:Int) then some yb else gone left (aS T tp) z)=gone (fun z=>left z&&decide (z≠(k:Int))) (aS T (fun j=>if j=k then yb else tp j)):=by
  funext z;unfold gone aS;by_cases hz:z=(k:Int)
  ·subst hz;simp [hk]
  ·by_cases h0:0≤z
   ·have:z.toNat≠k:=by omega
    simp [hz,h0,this]
   ·simp [hz,h0]
 rw [e2] at hm5;have s5:Step (fun c=>c=K+4) wr oj w5 oj:=⟨f5.mono (fun j _ e=>by rw [e];exact h.om),fun _ _=>rfl,fun j hj=>h.step.fresh j (Nat.le_trans f5.size hj)⟩
 refine ⟨w5,hu,⟨h.step.tZ h.bm f5,h.ot,h.om,h.orr,h.bt,h.bm,h.br,s5.block h.cs (by rw [h.ot];omega),⟨_,?_,hm5⟩,fun j y hj hlj=> ?_⟩,f5,⟨_,?_,hm5⟩⟩
 ·simp only [Option.isSome_none,Bool.false_eq_true,if_false];omega
 ·by_cases e:j=k
  ·subst e;rw [hk] at hj;cases hj;rw [if_pos rfl];exact hth.step s5 (by omega) (by omega)
  ·rw [if_neg e];refine (h.done j y hj ?_).step s5 (by omega) (by omega);have:decide ((j:Int)≠(k:Int))=true:=decide_eq_true (by omega);rw [this,Bool.and_true] at hlj;exact hlj
 ·simp only [Option.isSome_none,Bool.false_eq_true,if_false];omega
theorem Jj (T:Tree) (tp tp':Nat→Nat):gone (fun x=>(aS T tp x).isSome) (aS T tp')=fun _=>none:=by
 funext z;unfold gone;by_cases h:(aS T tp z).isSome=true
 ·rw [if_pos h]
 ·rw [if_neg h];unfold aS at h ⊢;by_cases h0:0≤z
  ·rw [if_pos h0] at h ⊢;cases hT:T z.toNat with
   | none=>rfl
   | some y=>rw [hT] at h;exact absurd rfl h
  ·rw [if_neg h0]
theorem Tryz.Rw:(prog.info? 141).map (·.size)=some 4:=by kernel_rfl
theorem aB1 (o:Nat→Nat) (K K' t:Nat) (T:Tree) (w:World) (h:bV w o K t T) (ok:dD T) (hf:aP w o):Calls prog 66 #[.pointer (some ⟨t,0,none⟩)] w (yI w o K' T):=by
 have hmm:= @run_makeMap prog;have HMD:=lH (qM w o K t T h);have OK:=lH ok;have HF:=lH hf;have HQ:Hid (∀t' w' o',Step (fun _=>False) w o w' o'→bV w' o' K' t' T→yI w o K' T (.returned (.pointer (some ⟨t',0,none⟩))) w'):=lH (fun t' w' o' s x=>⟨t',o',rfl,s,x⟩);generalize yI w o K' T=Q at*;have HH:=lH h;have hth:things T≤129:=by
  unfold things;exact Nat.le_trans List.countP_le_length (by simp)
 obtain ⟨mb,tp,_,kt,_,hum,hthg⟩:=h;have hmlt:=hum.lt;have hFA:Fr No w ((w.alloc (.map #[] 0)).alloc (.cells #[.map (some w.heap.size)] 132)):=((Fr.refl w).alloc _).alloc _;have c0:((w.alloc (.map #[] 0)).alloc (.cells #[.map (some w.heap.size)] 132)).cell? ⟨t,0,none⟩=some (.map (some mb)):=by rw [aA (hFA.aC kt id)];rfl
 have kt':((w.alloc (.map #[] 0)).alloc (.cells #[.map (some w.heap.size)] 132)).heap[w.heap.size+1]? =some (.cells #[.map (some w.heap.size)] 132 (0,0)):=by
  simpa using aO (w.alloc (.map #[] 0)) (.cells #[.map (some w.heap.size)] 132)
 have km':MapAt encI ((w.alloc (.map #[] 0)).alloc (.cells #[.map (some w.heap.size)] 132)) w.heap.size 0 (fun _=>none):=(MapAt.made encI w).fr ((Fr.refl (S:=No) _).alloc _) id;have hsA:((w.alloc (.map #[] 0)).alloc (.cells #[.map (some w.heap.size)] 132)).heap.size=w.heap.size+2:=by simp
 have humA:=hum.fr hFA id;obtain ⟨w2,hr,R2,f2,hs2⟩:=humA.range (t:=130) (e:=142) underlying130;generalize hwA:(w.alloc (.map #[] 0)).alloc (.cells #[.map (some w.heap.size)] 132)=wA at*;rw [hsA] at hr R2 hs2;have FA2:=lH (hFA.trans f2 kp);have LI:Hid (rJ w o T K' (w.heap.size+1) w.heap.size (w.heap.size+2) w2 (fun x=>(aS T tp x).isSome) (dH (dH o (w.heap.size+1) (K'+3)) w.heap.size (K'+4)) (fun _=>0)):=lH
  ⟨(((Step.no HF.o FA2.o:Step (fun _=>False) w o w2 o).lD (b:=w.heap.size+1) (c:=K'+3) (by omega) (by omega)).lD (b:=w.heap.size) (c:=K'+4) (by omega) (by omega)),by rw [eU _ _ (by omega),jD],jD _ _ _,
   by rw [eU _ _ (by omega),eU _ _ (by omega)];exact HF.o _ (by omega),by omega,by omega,by omega,f2.aC kt' id,⟨0,by omega,by
    rw [Jj];exact km'.fr f2 id⟩,fun k x hk hl=>by
    have:(aS T tp (k:Int)).isSome=true:=(by simp [aS,hk])
    rw [this] at hl;cases hl⟩
 have RR2:=lH R2;have HUM:=lH hum;have HTG:=lH hthg;clear hum hthg humA kt kt' km' R2 f2 hFA hf ok;subst hwA;go_enter func66,ntmps66;go_wp2_with fail;refine HMD.o.mono ?_;rintro e w1 ⟨rfl,hw⟩;have hw':=hw.symm;subst hw';go_wp2_with fail;go_loopw [] (fun wr=>∃(left:Int→Bool) (cnt:Nat) (oj tp':Nat→Nat),Hid (fG encI wr mb (w.heap.size+2) (things T) (aS T tp) left cnt)∧Hid (rJ w o T K' (w.heap.size+1) w.heap.size (w.heap.size+2) wr left oj tp')∧Hid (∃c,c+cnt≤129∧MapAt encI wr w.heap.size c (gone left (aS T tp')))∧w.heap.size+3≤wr.heap.size) (fun wr=>wr.rangeLeft mb (w.heap.size+2))
 case atStart=>
  refine ⟨_,_,_,_,RR2,LI,lH ?_,by omega⟩;obtain ⟨c,hc,hm⟩:=LI.o.map;have e:=Jj T tp (fun _=>0);rw [e] at hm;rcases hm.uF (t:=130) (e:=142) underlying130 with ⟨h0,_⟩|⟨_,x,y,h0⟩
  ·exact ⟨c,by omega,by rw [e];exact hm⟩
  ·cases h0
 case round=>
  obtain ⟨left,cnt,oj,tp',HRA,HMI,HCN,hsz⟩:=hrel;rcases HRA.o.next 0 with ⟨_,hno,hnx⟩|⟨x,y,w4,cnt',hms,hls,hnx,hra',hlt',f4,hs4,hen⟩
  ·have hfin:bV wr oj K' (w.heap.size+1) T:=by
    obtain ⟨c,hc,hm⟩:=HMI.o.map;have hend:gone left (aS T tp')=aS T tp':=Ar (E:=encI) (fun z u hz=>by
     unfold aS at hz;split at hz
     ·rename_i h0
      cases hT:T z.toNat with
      | none=>rw [hT] at hz;cases hz
      | some nd=>
       have:=OK.o.lt hT;show I64 z;unfold I64;omega
     ·cases hz) hno
    rw [hend] at hm;have hcc:=MapAt.count_eq (t:=130) (e:=142) underlying130 _ _ HUM.o hm (fun z=>by
     unfold aS;split
     ·cases T z.toNat<;>rfl
     ·rfl)
    rw [← hcc] at hm;exact ⟨w.heap.size,tp',HMI.o.ot,HMI.o.cs,HMI.o.om,hm,fun k nd hk=>HMI.o.done k nd hk (hno k (by
     have:=OK.o.lt hk;show I64 (k:Int);unfold I64;omega))⟩
   have HFIN:=lH hfin;clear hno hfin;go_wp2_with fail;exact HQ.o _ _ _ HMI.o.step HFIN.o
  ·obtain ⟨k,nd,hk,rfl,rfl⟩:∃(k:Nat) (nd:Node),T k=some nd∧x=k∧y=tp k:=by
    unfold aS at hms;split at hms
    ·rename_i h0
     cases hT:T x.toNat with
     | none=>rw [hT] at hms;cases hms
     | some nd=>
      rw [hT] at hms;exact ⟨x.toNat,nd,hT,by omega,by cases hms;rfl⟩
    ·cases hms
   have hk8:=(OK.o.lt hk).2;have hrlt:=HRA.o.lt;have s4:Step (fun c=>c=0) wr oj w4 oj:=⟨f4.mono (fun j _ e=>by rw [e];exact HMI.o.orr),fun _ _=>rfl,fun j hj=>HMI.o.step.fresh j (Nat.le_trans f4.size hj)⟩
   have M4:=lH (HMI.o.steps s4 (HMI.o.step.tZ HMI.o.br f4) (fun c e=>e) hrlt);have C4:Hid (∃c,c+cnt≤129∧MapAt encI w4 w.heap.size c (gone left (aS T tp'))):=lH (by
    obtain ⟨c,h1,h2⟩:=HCN.o;exact ⟨c,h1,h2.fr f4 (by omega)⟩)
   have R4:=lH hra';have HLE:Hid (wr.rangeLeft mb (w.heap.size+2)=cnt):=lH HRA.o.left_eq;have hnx':(Instr.next (.pointer (some ⟨w.heap.size+2,0,none⟩)) false 0).run prog wr=.ok (.tuple #[.bool true,.int .i64 k,.pointer (some ⟨tp k,0,none⟩)]) w4:=hnx;have hen':(Instr.entry (.pointer (some ⟨w.heap.size+2,0,none⟩))).run prog w4=.ok (.tuple #[.int .i64 k,.pointer (some ⟨tp k,0,none⟩)]) w4:=hen;have HTH:=lH (HTG.o k nd hk);have HK:=lH hk;have HLS:=lH hls;have p2:w4.cell? ⟨tp k,2,none⟩=some (.bool nd.dir):=by
    obtain ⟨vin,kx⟩:=(HTG.o k nd hk).cells;rw [aA (M4.o.step.fr.aC kx (fun e=>e))];rfl
   have KC4:=lH M4.o.cs;have hlt4:=lt_of_block M4.o.cs;have HSZ4:Hid (w4.heap.size=wr.heap.size):=lH hs4;have hsz4:w.heap.size+3≤w4.heap.size:=(by omega)
   have HEND:Hid (∀(wE:World) (yb:Nat) (oE:Nat→Nat),Step (fun _=>False) w4 oj wE oE→Step (fun _=>False) w o wE oE→nX wE oE K' k yb nd (aV T k) (aW T k)→Fr No w4 wE→∃w5,(Instr.mapUpdate 130 (.map (some w.heap.size)) (.int .i64 k) (.pointer (some ⟨yb,0,none⟩))).run prog wE=.ok () w5∧Hid (∃(left:Int→Bool) (cnt:Nat) (oj tp':Nat→Nat),Hid (fG encI w5 mb (w.heap.size+2) (things T) (aS T tp) left cnt)∧Hid (rJ w o T K' (w.heap.size+1) w.heap.size (w.heap.size+2) w5 left oj tp')∧Hid (∃c,c+cnt≤129∧MapAt encI w5 w.heap.size c (gone left (aS T tp')))∧w.heap.size+3≤w5.heap.size)∧Hid (w5.rangeLeft mb (w.heap.size+2)<wr.rangeLeft mb (w.heap.size+2))):=lH (by
    intro wE yb oE sE sW hth fE;have ME:=M4.o.steps sE sW (fun c e=>e.elim) (by omega);obtain ⟨c,hc,hmE⟩:∃c,c+cnt≤129∧MapAt encI wE w.heap.size c (gone left (aS T tp')):=by
     obtain ⟨c,h1,h2⟩:=C4.o;exact ⟨c,h1,h2.fr fE id⟩
    obtain ⟨w5,hu,M5,f5,c5,hc5,hm5⟩:=ME.put HK.o hk8 HLS.o hth ⟨c,Nat.le_refl _,hmE⟩ (by omega);have RE:=(R4.o.fr fE id id).fr f5 (by omega) (by omega);have hz:=fE.size;have hz5:=f5.size;exact ⟨w5,hu,lH ⟨_,cnt',oE,_,lH RE,lH M5,lH ⟨c5,by omega,hm5⟩,by omega⟩,lH (by rw [RE.left_eq,HLE.o];exact hlt')⟩)
   clear hnx hen hra' f4 hms hls s4 HMI HCN HRA hs4 hlt';obtain ⟨up,nm,dir⟩:=nd;dsimp only at p2;cases dir with
   | false=>
    have kx:w.heap[tp k]? =some (.cells #[.int .i64 up,.string (ba nm),.bool false,.map none] 141 (0,0)):=HTH.o.2;have KX4:=lH (M4.o.step.fr.aC kx (fun e=>e));have pA:∀o,(w4.alloc o).cell? ⟨tp k,2,none⟩=some (.bool false):=fun o=>((Fr.refl (S:=No) w4).alloc o).cell_of p2 id;have fE:Fr No w4 (w4.alloc (.cells #[.int .i64 up,.string (ba nm),.bool false,.map none] 141)):=(Fr.refl w4).alloc _;have kE:=aO w4 (.cells #[.int .i64 up,.string (ba nm),.bool false,.map none] 141);have cE:(w4.alloc (.cells #[.int .i64 up,.string (ba nm),.bool false,.map none] 141)).cell? ⟨w.heap.size+1,0,none⟩=some (.map (some w.heap.size)):=(by rw [aA (fE.aC KC4.o id)];rfl)
    obtain ⟨w5,hu,HREL,HME⟩:=HEND.o _ w4.heap.size (dH oj w4.heap.size (K'+1000+k)) ((Step.no (C:=fun _=>False) M4.o.step.fresh fE).lD (Nat.le_refl _) (lt_of_block kE)) ((M4.o.step.Bo fE).lD (by omega) (lt_of_block kE)) ⟨jD _ _ _,kE⟩ fE;clear kx fE kE;go_wp2_with (refine wpList_load_row rfl 141 (.tmp 26) rfl (tp k) rfl 141 _ (0,0) _ KX4.o underlying141 rfl Tryz.Rw ?_);go_roundw
    case rel=>exact HREL.o
    case measure=>exact HME.o
   | true=>
    obtain ⟨ib,_,kx,hin⟩:∃ib,o ib=K+2000+k∧w.heap[tp k]? =some (.cells #[.int .i64 up,.string (ba nm),.bool true,.map (some ib)] 141 (0,0))∧MapAt encS w ib (aV T k) (aW T k):=HTH.o.2;have KX4:=lH (M4.o.step.fr.aC kx (fun e=>e));have pA:∀o,(w4.alloc o).cell? ⟨tp k,2,none⟩=some (.bool true):=fun o=>((Fr.refl (S:=No) w4).alloc o).cell_of p2 id;have fE:Fr No w4 ((w4.alloc (.cells #[.int .i64 up,.string (ba nm),.bool true,.map (some (w4.heap.size+1))] 141)).alloc (.map #[] 0)):=((Fr.refl w4).alloc _).alloc _;have kE:((w4.alloc (.cells #[.int .i64 up,.string (ba nm),.bool true,.map (some (w4.heap.size+1))] 141)).alloc (.map #[] 0)).heap[w4.heap.size]? =some (.cells #[.int .i64 up,.string (ba nm),.bool true,.map (some (w4.heap.size+1))] 141 (0,0)):=((Fr.refl (S:=No) _).alloc _).aC (aO w4 _) id;have mE:MapAt encS ((w4.alloc (.cells #[.int .i64 up,.string (ba nm),.bool true,.map (some (w4.heap.size+1))] 141)).alloc (.map #[] 0)) (w4.heap.size+1) 0 (fun _=>none):=by
     have:=MapAt.made encS (w4.alloc (.cells #[.int .i64 up,.string (ba nm),.bool true,.map (some (w4.heap.size+1))] 141));rwa [jR] at this
    have hinE:=(hin.fr M4.o.step.fr (fun e=>e)).fr fE id;have hsE:((w4.alloc (.cells #[.int .i64 up,.string (ba nm),.bool true,.map (some (w4.heap.size+1))] 141)).alloc (.map #[] 0)).heap.size=w4.heap.size+2:=(by simp)
    have p3:((w4.alloc (.cells #[.int .i64 up,.string (ba nm),.bool true,.map (some (w4.heap.size+1))] 141)).alloc (.map #[] 0)).cell? ⟨tp k,3,none⟩=some (.map (some ib)):=(by rw [aA (fE.aC KX4.o id)];rfl)
    have hilt:ib<w4.heap.size:=(hin.fr M4.o.step.fr (fun e=>e)).lt;obtain ⟨wi,hr2,R2,f2,hs2⟩:=hinE.range (t:=139) (e:=3) underlying139;rw [hsE] at hr2 R2 hs2;have FI:=lH (fE.trans f2 kp);have KI:=lH (f2.aC kE id);have MI:Hid (MapAt encS wi (w4.heap.size+1) 0 (gone (fun x=>(aW T k x).isSome) (aW T k))):=lH (by rw [O9];exact mE.fr f2 id);have RI:=lH R2;have HIN:=lH hin;have HS2:=lH hs2;clear kx hin fE kE mE hinE hsE R2 f2 hs2;go_wp2_with (refine wpList_load_row rfl 141 (.tmp 26) rfl (tp k) rfl 141 _ (0,0) _ KX4.o underlying141 rfl Tryz.Rw ?_);obtain ⟨wo,rfl⟩:∃wo:World,wo=wr:=⟨_,rfl⟩
    have hkn:aV T k≤129:=by
     unfold aV;exact Nat.le_trans List.countP_le_length (by simp)
    go_loopw [] (fun wr=>∃(left2:ByteArray→Bool) (cnt2:Nat),Hid (fG encS wr ib (w4.heap.size+2) (aV T k) (aW T k) left2 cnt2)∧Hid (∃c2,c2+cnt2≤aV T k∧MapAt encS wr (w4.heap.size+1) c2 (gone left2 (aW T k)))∧Hid (wr.heap[w4.heap.size]? =some (.cells #[.int .i64 up,.string (ba nm),.bool true,.map (some (w4.heap.size+1))] 141 (0,0)))∧Hid (Fr No w4 wr)∧w4.heap.size+3≤wr.heap.size) (fun wr=>wr.rangeLeft ib (w4.heap.size+2))
    case atStart=>exact ⟨_,_,RI,lH ⟨0,by omega,MI.o⟩,KI,FI,by have:=HS2.o;omega⟩
    case round=>
     obtain ⟨left2,cnt2,HRB,HCB,HKB,HFB,hszb⟩:=hrel;rcases HRB.o.next 0 with ⟨_,hno2,hnx2⟩|⟨s,kk,w6,cnt3,hms2,hls2,hnx2,hra2,hlt2,f6,hs6,hen2⟩
     ·have mfin:MapAt encS wr (w4.heap.size+1) (aV T k) (aW T k):=by
       obtain ⟨c2,_,hm2⟩:=HCB.o;rw [Ar (E:=encS) (fun z u hz=>(HIN.o.good hz).1) hno2] at hm2;rw [← MapAt.count_eq (t:=139) (e:=3) underlying139 _ _ HIN.o hm2 (fun _=>rfl)] at hm2;exact hm2
      have hlb:=lt_of_block HKB.o;have hmb2:=mfin.lt;have cE:wr.cell? ⟨w.heap.size+1,0,none⟩=some (.map (some w.heap.size)):=(by rw [aA (HFB.o.aC KC4.o id)];rfl)
      obtain ⟨w5,hu,HREL,HME⟩:=HEND.o wr w4.heap.size (dH (dH oj (w4.heap.size+1) (K'+2000+k)) w4.heap.size (K'+1000+k))
       (((Step.no (C:=fun _=>False) M4.o.step.fresh HFB.o).lD (b:=w4.heap.size+1) (c:=K'+2000+k) (by omega) hmb2).lD (Nat.le_refl _) hlb)
       (((M4.o.step.Bo HFB.o).lD (b:=w4.heap.size+1) (c:=K'+2000+k) (by omega) hmb2).lD (by omega) hlb)
       ⟨jD _ _ _,w4.heap.size+1,by rw [eU _ _ (by omega),jD],HKB.o,mfin⟩ HFB.o
      clear hno2 mfin;go_wp2_with fail;go_roundw
      case rel=>exact HREL.o
      case measure=>exact HME.o
     ·obtain ⟨c2,hc2,hm2⟩:=HCB.o;have hgs:=(HIN.o.good hms2).1;obtain ⟨w8,hu8,m8,f8⟩:=(hm2.fr f6 (by omega)).put s kk hgs trivial (by omega) (t:=139) (e:=3) underlying139;have e8:gone left2 (aW T k) s=none:=if_pos hls2;rw [e8,Rj hms2 (aW T k) hms2 (fun _ _=>rfl)] at m8;have k6:=f6.aC HKB.o (by omega);have c3:w6.cell? ⟨w4.heap.size,3,none⟩=some (.map (some (w4.heap.size+1))):=(by rw [aA k6];rfl)
      have hnx2':(Instr.next (.pointer (some ⟨w4.heap.size+2,0,none⟩)) false 0).run prog wr=.ok (.tuple #[.bool true,.string s,.int .i64 kk]) w6:=hnx2;have hen2':(Instr.entry (.pointer (some ⟨w4.heap.size+2,0,none⟩))).run prog w6=.ok (.tuple #[.string s,.int .i64 kk]) w6:=hen2;have hu8':(Instr.mapUpdate 139 (.map (some (w4.heap.size+1))) (.string s) (.int .i64 kk)).run prog w6=.ok () w8:=hu8;have R8:=lH (hra2.fr f8 (by omega) (by omega));have K8:=lH (f8.aC k6 (by omega));have F8:Hid (Fr No w4 w8):=lH ((HFB.o.trans f6 (fun j hj e=>by omega)).trans f8 (fun j hj e=>by omega));have M8:=lH m8;have HLE2:Hid (wr.rangeLeft ib (w4.heap.size+2)=cnt2):=lH HRB.o.left_eq;have HLT2:=lH hlt2;have hs8:w4.heap.size+3≤w8.heap.size:=Nat.le_trans hszb (Nat.le_trans f6.size f8.size);simp only [Option.isSome_none,Bool.false_eq_true,if_false] at M8;clear hnx2 hen2 hu8 hra2 hlt2 f6 f8 hm2 m8 k6 hs6 hms2 hls2;go_wp2_with fail;go_roundw
      case rel=>exact ⟨_,cnt3,R8,lH ⟨c2+1,by have:=HLT2.o;omega,M8.o⟩,K8,F8,hs8⟩
      case measure=>
       rw [R8.o.left_eq,HLE2.o];exact HLT2.o
inductive Deeds (r:aJ) (st:List Sz) (dl:List Dl) (B:St):St→Prop
 | same:Deeds r st dl B B
 | make:r.kind=1→(dP B.T r.path).1=0→Deeds r st dl B (kL B r)
 | remove:r.kind=2→(lookOf B.T r.path).1=0→mayRemove B r→(dO B.T r.path r.dir).1=0→Deeds r st dl B (kM B r)
 | move:r.kind=3→iL B.T r.path r.to=0→Deeds r st dl B {B with T:=lQ B.T r.path r.to}
 | opens:r.kind=6→(lookOf B.T r.path).1=0→(lookOf B.T r.path).2.2=false→(fV B.K r.c (lookOf B.T r.path).2.1 r.wr).1=0→Deeds r st dl B {B with K:=(fV B.K r.c (lookOf B.T r.path).2.1 r.wr).2.2}
 | commit (x:Tok):r.kind=7→fH B.K r.c r.h=some x→¬(x.wr=false∧¬(dl= []∧st= []))→(eX B r.sw r.nx st r.c r.l).1=0→(∀d∈dl,kP (eX B r.sw r.nx st r.c r.l).2 x.i d)→
   Deeds r st dl B {nJ B st dl r.c.toNat r.nx x.i.toNat with K:=mZ r.cl B.K x}
theorem Ue (B:St) (r:aJ) (st:List Sz) (dl:List Dl) (hk:1≤r.kind∧r.kind≤8):Deeds r st dl B (iY r st dl r.kind B).2.2∧((iY r st dl r.kind B).1≠0→(iY r st dl r.kind B).2.2=B):=by
 unfold iY;split
 ·rename_i h
  unfold pI;split
  ·rename_i h1
   exact ⟨.make h h1,fun e=>absurd rfl e⟩
  ·exact ⟨.same,fun _=>rfl⟩
 ·split
  ·rename_i h
   unfold mJ;split
   ·exact ⟨.same,fun _=>rfl⟩
   ·rename_i h1
    split
    ·exact ⟨.same,fun _=>rfl⟩
    ·rename_i h2
     split
     ·exact ⟨.same,fun _=>rfl⟩
     ·rename_i h3
      exact ⟨.remove h (Classical.byContradiction h1) (Classical.byContradiction h2) (Classical.byContradiction h3),fun e=>absurd rfl e⟩
  ·split
   ·rename_i h
    unfold pM;split
    ·rename_i h1
     exact ⟨.move h h1,fun e=>absurd rfl e⟩
    ·exact ⟨.same,fun _=>rfl⟩
   ·split
    ·unfold pG;split<;>exact ⟨.same,fun _=>rfl⟩
    ·split
     ·unfold oP;split<;>exact ⟨.same,fun _=>rfl⟩
     ·split
      ·rename_i h
       unfold mG;split
       ·exact ⟨.same,fun _=>rfl⟩
       ·rename_i h1
        split
        ·exact ⟨.same,fun _=>rfl⟩
        ·rename_i h2
         split
         ·exact ⟨.same,fun _=>rfl⟩
         ·rename_i h3
          exact ⟨.opens h (Classical.byContradiction h1) (by simpa using h2) (Classical.byContradiction h3),fun e=>absurd rfl e⟩
      ·split
       ·rename_i h
        unfold nS;split
        ·exact ⟨.same,fun _=>rfl⟩
        ·rename_i x hx
         split
         ·exact ⟨.same,fun _=>rfl⟩
         ·rename_i h1
          split
          ·exact ⟨.same,fun _=>rfl⟩
          ·rename_i h2
           split
           ·exact ⟨.same,fun _=>rfl⟩
           ·rename_i h3
            exact ⟨.commit x h hx h1 (Classical.byContradiction h2) (Classical.byContradiction h3),fun e=>absurd rfl e⟩
       ·unfold mapD;split<;>exact ⟨.same,fun _=>rfl⟩
inductive Turns (S:St) (r:aJ) (st:List Sz) (dl:List Dl):St→Prop
 | same:Turns S r st dl S
 | boot:Turns S r st dl (rF S)
 | swap:Turns S r st dl (pY S)
 | moved:r.c=4∧r.l=S.boots→(eX S r.sw r.nx st 4 S.boots).1=0→(∀d∈dl,nM (eX S r.sw r.nx st 4 S.boots).2 d)→Turns S r st dl (rH S st dl r.nx)
 | asked (kd:Int) (bs:List UInt8) (D:St):xH r.c r.l r.q→kd=0∨kd=3→dX S.W r.c r.l r.q=(kd,none)→Deeds r st dl (eG S r.c.toNat kd) D→Turns S r st dl {D with W:=upd S.W r.c.toNat (some (r.l,r.q,bs))}
theorem Xu (S:St) (c:Nat) (kind:Int):(eG S c kind).W=S.W:=by unfold eG;split<;>rfl
theorem vZ {S:St} {r:aJ} {st:List Sz} {dl:List Dl} {x:aF×St} (hd:gQ S r st dl x):Turns S r st dl x.2:=by
 unfold gQ at hd;split at hd
 ·rw [hd];show Turns S r st dl (dG (lU S r)).2;rw [lI];unfold lU;split
  ·exact .boot
  ·exact .same
 ·split at hd
  ·rw [hd];show Turns S r st dl (dG (lX S r)).2;rw [lI];unfold lX;split
   ·exact .swap
   ·exact .same
  ·split at hd
   ·rw [hd];show Turns S r st dl (dG (lF S r st dl)).2;rw [lI];unfold lF;split
    ·exact .same
    ·rename_i h1
     split
     ·exact .same
     ·rename_i h2
      split
      ·exact .same
      ·rename_i h3
       exact .moved (Classical.byContradiction h1) (Classical.byContradiction h2) (Classical.byContradiction h3)
   ·split at hd
    ·rw [hd];exact .same
    ·rename_i hk
     split at hd
     ·rw [hd.1];exact .same
     ·split at hd
      ·rw [hd];exact .same
      ·rename_i hk1 hk2
       rcases ask_cases S.W r.c r.l r.q with ha|⟨hc,ha⟩
       ·rw [ha] at hk2;exact absurd rfl hk2
       ·have hm:xH r.c r.l r.q:=by
         by_cases hm:xH r.c r.l r.q
         ·exact hm
         ·have:dX S.W r.c r.l r.q=(2,none):=if_neg hm;rw [this] at hk2;exact absurd rfl hk2
        have he:∃kd:Int,(kd=0∨kd=3)∧dX S.W r.c r.l r.q=(kd,none):=by
         rcases ha with ha|ha|ha|⟨y,_,ha⟩
         ·exact ⟨3,.inr rfl,ha⟩
         ·rw [ha] at hk2;exact absurd rfl hk2
         ·exact ⟨0,.inl rfl,ha⟩
         ·rw [ha] at hk1;exact absurd rfl hk1
        obtain ⟨kd,hkd,ha⟩:=he;rw [ha] at hd;rw [hd];have h1:=(Ue (eG S r.c.toNat kd) r st dl (Classical.byContradiction hk)).1;have h2:=Turns.asked (bs:=(dW (dG (iY r st dl r.kind (eG S r.c.toNat kd))).1 (dG (iY r st dl r.kind (eG S r.c.toNat kd))).2.swaps).bytes) kd _ hm hkd ha h1;have h3:(tell (qO (dG (iY r st dl r.kind (eG S r.c.toNat kd))) r.c.toNat r)).2={(iY r st dl r.kind (eG S r.c.toNat kd)).2.2 with W:=upd S.W r.c.toNat (some (r.l,r.q,(dW (dG (iY r st dl r.kind (eG S r.c.toNat kd))).1 (dG (iY r st dl r.kind (eG S r.c.toNat kd))).2.swaps).bytes))}:=by
         unfold tell qO;dsimp only;rw [lI,Nr,Xu]
        rw [h3];exact h2
def vH (S:St):Prop:=∀i y,S.W i=some y→i<4∧0≤y.1∧y.1≤1048576∧1≤y.2.1∧y.2.1≤1073741824
theorem aBM {r:aJ} {st:List Sz} {dl:List Dl} {B D:St} (h:Deeds r st dl B D):D.W=B.W:=by
 cases h with
 | same=>rfl
 | make=>unfold kL;split<;>rfl
 | remove=>unfold kM;split<;>rfl
 | move=>rfl
 | opens=>rfl
 | commit=>rfl
theorem vH.turn {S S':St} {r:aJ} {st:List Sz} {dl:List Dl} (h:vH S) (t:Turns S r st dl S'):vH S':=by
 cases t with
 | same=>exact h
 | boot=>exact h
 | swap=>exact h
 | moved=>exact h
 | asked kd bs D hm hk ha hd=>
  intro i y hy;dsimp only at hy;unfold upd at hy;split at hy
  ·rename_i e
   cases hy;obtain ⟨h1,h2,h3⟩:=hm;exact ⟨by omega,h3⟩
  ·exact h i y hy
theorem Tryz.Uf:(prog.info? 119).map (·.size)=some 4:=by kernel_rfl
def qU (L:List Wr):Nat→Option gW:=L.foldl (fun W x=>upd W x.c.toNat (some (x.l,x.q,x.bs))) (fun _=>none)
theorem Qn (L:List Wr) (x:Wr):qU (L++ [x])=upd (qU L) x.c.toNat (some (x.l,x.q,x.bs)):=by
 unfold qU;rw [List.foldl_append];rfl
theorem Py {W:Nat→Option gW} {n:Nat} {z:Int×Int×Int×List UInt8}:z∈gX W n↔∃(i:Nat) (y:gW),i<n∧W i=some y∧z=((i:Int),y.1,y.2.1,y.2.2):=by
 unfold gX;rw [List.mem_filterMap];constructor
 ·rintro ⟨i,hi,e⟩;rw [List.mem_range] at hi;cases hw:W i with
  | none=>rw [hw] at e;cases e
  | some u=>
   rw [hw] at e;exact ⟨i,u,hi,hw,(Option.some.inj e).symm⟩
 ·rintro ⟨i,y,hi,hw,rfl⟩;exact ⟨i,List.mem_range.2 hi,by rw [hw];rfl⟩
theorem Io (W:Nat→Option gW):∀n,(gX W n).Pairwise fun x y=>x.1<y.1
 | 0=>List.Pairwise.nil
 | n+1=>by
  cases hw:W n with
  | none=>rw [Hz hw];exact Io W n
  | some y=>
   rw [Hl hw,List.pairwise_append];refine ⟨Io W n,by simp,fun a ha b hb=> ?_⟩;obtain ⟨i,_,hi,_,rfl⟩:=Py.1 ha;rw [List.mem_singleton] at hb;subst hb;dsimp only;omega
theorem D5 {W:Nat→Option gW} (iw:∀i y,W i=some y→i<4):∀n,n≤4→∀L:List Wr,L.map kV=gX W n→qU L=fun i=>if i<n then W i else none
 | 0,_,L,h=>by
  have:L= []:=by simpa [gX] using h
  subst this;funext i;simp [qU]
 | n+1,hn,L,h=>by
  cases hw:W n with
  | none=>
   rw [Hz hw] at h;rw [D5 iw n (by omega) L h];funext i;by_cases e:i=n
   ·subst e;simp [hw]
   ·have:(i<n)=(i<n+1):=by apply propext;omega
    simp only [this]
  | some y=>
   rw [Hl hw] at h;obtain ⟨L',l2,rfl,h1,h2⟩:=List.map_eq_append_iff.1 h;obtain ⟨x,rfl,h3⟩:∃x,l2= [x]∧kV x=((n:Int),y.1,y.2.1,y.2.2):=by
    cases l2 with
    | nil=>simp at h2
    | cons x r=>
     simp only [List.map_cons,List.cons.injEq] at h2;have hr:r= []:=(by simpa using h2.2)
     exact ⟨x,by rw [hr],h2.1⟩
   rw [Qn,D5 iw n (by omega) L' h1];unfold kV at h3;simp only [Prod.mk.injEq] at h3;obtain ⟨e1,e2,e3,e4⟩:=h3;funext i;unfold upd;rw [e1,Int.toNat_natCast];by_cases e:i=n
   ·subst e;simp [hw,e2,e3,e4]
   ·have:(i<n)=(i<n+1):=by apply propext;omega
    simp only [this,if_neg e]
def Ac (w:World) (o:Nat→Nat) (cl:Nat) (W:Nat→Option gW) (e:Ending) (w':World):Prop:=∃win o',e=.returned (.tuple #[.pointer (some ⟨win,0,none⟩),.int .i64 0])∧Step (fun _=>False) w o w' o'∧iE w' o' cl win W
theorem oK.sl {w:World} {base:Nat} {v:Value} {bs:List UInt8} (h:oK w base v bs):∃b c,dC w v bs b 0 c:=by
 obtain ⟨b,c,h,_⟩:=h;exact ⟨b,c,h⟩
theorem aCh (o:Nat→Nat) (cl base:Nat) (W:Nat→Option gW) (LL:List Wr) (v:Value) (w:World) (hrow:iT vG 4 119 w base v LL) (hrep:xE w base LL) (hm:LL.map kV=gX W 4) (hf:aP w o) (iw:∀i y,W i=some y→i<4∧0≤y.1∧y.1≤1048576∧1≤y.2.1∧y.2.1≤1073741824) (hlen:∀i life seq bs,W i=some (life,seq,bs)→bs.length≤1000000):
  Calls prog 65 #[v] w (Ac w o cl W):=by
 have mixed:prog.follows .mixedOrders=true:=by kernel_rfl
 obtain ⟨bs0,cap,rfl⟩:=hrow.shape;have HQ:Hid (∀win w' o',Step (fun _=>False) w o w' o'→iE w' o' cl win W→Ac w o cl W (.returned (.tuple #[.pointer (some ⟨win,0,none⟩),.int .i64 0])) w'):=lH (fun win w' o' s x=>⟨win,o',rfl,s,x⟩);generalize Ac w o cl W=Q at*;have HW:Hid (qU LL=W):=lH (by
  rw [D5 (fun i y h=>(iw i y h).1) 4 (by omega) LL hm];funext i;by_cases h:i<4
  ·rw [if_pos h]
  ·rw [if_neg h];cases hw:W i with
   | none=>rfl
   | some y=>exact absurd (iw i y hw).1 h)
 have hmem:∀x∈LL,∃i:Nat,i<4∧x.c=i∧0≤x.l∧x.l≤1048576∧1≤x.q∧x.q≤1073741824∧x.bs.length≤1000000:=fun x hx=>by
  have h1:kV x∈gX W 4:=by rw [← hm];exact List.mem_map_of_mem hx
  obtain ⟨i,y,hi,hw,e⟩:=Py.1 h1;have h2:=iw i y hw;obtain ⟨yl,yq,yb⟩:=y;have h3:=hlen i yl yq yb hw;unfold kV at e;simp only [Prod.mk.injEq] at e;obtain ⟨e1,e2,e3,e4⟩:=e;dsimp only at h2;rw [e4];exact ⟨i,hi,e1,by omega,by omega,by omega,by omega,h3⟩
 have hsort:LL.Pairwise fun x y=>x.c<y.c:=by
  have:=Io W 4;rw [← hm,List.pairwise_map] at this;exact this
 have HME:=lH hmem;have HSO:=lH hsort;have HRW:=lH hrow;have HRP:=lH hrep;have HF:=lH hf;have fA:Fr No w (w.alloc (.cells #[.pointer none,.pointer none,.pointer none,.pointer none,.bool true] 152)):=(Fr.refl w).alloc _;have kA:=aO w (.cells #[.pointer none,.pointer none,.pointer none,.pointer none,.bool true] 152);generalize hwA:w.alloc (.cells #[.pointer none,.pointer none,.pointer none,.pointer none,.bool true] 152)=wA at*;have LI:Hid (Step (fun _=>False) w o wA (dH o w.heap.size cl)∧iE wA (dH o w.heap.size cl) cl w.heap.size (qU (LL.take 0))):=lH
  ⟨(Step.no hf fA:Step (fun _=>False) w o wA o).lD (Nat.le_refl _) (lt_of_block kA),jD _ _ _,fun _=> .pointer none,kA,fun _ _=>rfl⟩
 have FA:=lH fA;have HN0:Hid (∀x∈LL, -1<x.c):=lH (fun x hx=>by
  obtain ⟨i,_,h,_⟩:=hmem x hx;omega)
 clear hrow hrep hm hf iw hlen hmem hsort kA fA;go_enter func65,ntmps65;go_wp2_with fail;refine (Ll _).mono ?_;rintro e w1 ⟨rfl,hw⟩;rw [hwA] at hw;subst hw;clear hwA;go_wp2_with fail;go_loopw [5,11] (fun u a wr=>∃(j:Nat) (lst:Int) (oj:Nat→Nat),u=.int .i64 lst∧a=.int .i64 j∧j≤LL.length∧Hid (∀x∈LL.drop j,lst<x.c)∧Hid (Step (fun _=>False) w o wr oj)∧Hid (iE wr oj cl w.heap.size (qU (LL.take j)))) (fun _ a _=>LL.length - (intOf a).toNat)
 case atStart=>exact ⟨0, -1,_,rfl,rfl,Nat.zero_le _,HN0,lH LI.o.1,lH LI.o.2⟩
 case round=>
  obtain ⟨j,lst,oj,rfl,rfl,hj,HLS,HS,HWN⟩:=hrel;by_cases hlt:j<LL.length
  ·obtain ⟨b,rfl,hmx,_,hr⟩:=HRW.o.at (by omega);have hr2:=hr.fr HS.o.fr (fun e=>e);have hrange:=hr2.row j LL[j] (List.getElem?_eq_getElem hlt);obtain ⟨i,hi4,hxi,g1,g2,g3,g4,g5⟩:=HME.o LL[j] (List.getElem_mem hlt);have hlx:lst<LL[j].c:=HLS.o LL[j] (by rw [List.drop_eq_getElem_cons hlt];exact List.mem_cons_self ..);have HLN:Hid (∀x∈LL.drop (j+1),LL[j].c<x.c):=lH (by
    have:=HSO.o.drop (i:=j);rw [List.drop_eq_getElem_cons hlt,List.pairwise_cons] at this;exact this.1)
   have HTK:Hid (qU (LL.take (j+1))=upd (qU (LL.take j)) LL[j].c.toNat (some (LL[j].l,LL[j].q,LL[j].bs))):=lH (by
    rw [List.take_succ_eq_append_getElem hlt,Qn])
   obtain ⟨b1,c1,hs1⟩:=(HRP.o LL[j] (List.getElem_mem hlt)).sl;have hs2:=hs1.fr HS.o.fr (fun e=>e);have q1:(j:Int)<(LL.length:Int):=(by omega)
   have q2:(0:Int)≤(j:Int):=(by omega)
   have hlen:=hr.len;have q3:(j:Int)<(cap:Int):=(by omega)
   have hml:cap≤9223372036854775807:=hmx;generalize LL[j]=x at*;obtain ⟨xc,xl,xq,xv,xbs⟩:=x;dsimp only at hxi g1 g2 g3 g4 g5 hlx hs1 hs2 HLN HTK;subst hxi;rw [Int.toNat_natCast] at HTK;have hxv:xv=.slice (some ⟨b1,0,none⟩) xbs.length c1:=hs1.1;subst hxv;have HR1:Hid (wr.rangeAt b (j*4) [.int .i64 i,.int .i64 xl,.int .i64 xq,.slice (some ⟨b1,0,none⟩) xbs.length c1]):=lH hrange;have HS2:=lH hs2;have q5:¬(i:Int)≤lst:=(by omega)
   have q6:(i:Int)<4:=(by omega)
   have q7:(0:Int)≤(i:Int):=(by omega)
   have fa:Fr No wr (wr.alloc (.cells #[.int .i64 i,.int .i64 xl,.int .i64 xq,.slice (some ⟨b1,0,none⟩) xbs.length c1] 119)):=(Fr.refl wr).alloc _;have ka:=aO wr (.cells #[.int .i64 i,.int .i64 xl,.int .i64 xq,.slice (some ⟨b1,0,none⟩) xbs.length c1] 119);have KA:=lH ka;have FA2:=lH fa;have HMY:=lH (Gw i xl xq ⟨by omega,by omega,g1,g2,g3,g4⟩);clear hs1 hs2 hr hr2 hrange hmx fa ka;go_wp2_with (refine wpList_load_mid (by rfl) 119 _ (by rfl) b (j*4) (by rfl) [.int .i64 i,.int .i64 xl,.int .i64 xq,.slice (some ⟨b1,0,none⟩) xbs.length c1] _ HR1.o underlying119 rfl Tryz.Uf ?_);refine (HMY.o _).mono ?_;rintro e w3 ⟨rfl,f3⟩;have F3:=lH (FA2.o.trans f3 kp);have K3:=lH (f3.aC KA.o id);have k3:=f3.aC KA.o id;have r0:w3.cell? ⟨wr.heap.size,0,none⟩=some (.int .i64 i):=(by rw [aA k3];rfl)
   have r3:w3.cell? ⟨wr.heap.size,3,none⟩=some (.slice (some ⟨b1,0,none⟩) xbs.length c1):=(by rw [aA k3];rfl)
   have RA:Hid (∀w',Fr No w3 w'→w'.rangeAt wr.heap.size 0 [.int .i64 i,.int .i64 xl,.int .i64 xq]):=lH (fun w' f=>World.rangeAt_of_block (f.aC k3 id) 0 3);have r1:w3.cell? ⟨wr.heap.size,1,none⟩=some (.int .i64 xl):=(by rw [aA k3];rfl)
   have r2:w3.cell? ⟨wr.heap.size,2,none⟩=some (.int .i64 xq):=(by rw [aA k3];rfl)
   have HN3:=lH (HWN.o.no HS.o.fresh F3.o);obtain ⟨z,pz⟩:=HN3.o.place i hi4;have pf:=HN3.o.frozen i;obtain ⟨_,p3,kw3,_⟩:=HN3.o;have KW3:=lH kw3;clear kw3;have HC:=lH (Tq (.slice (some ⟨b1,0,none⟩) xbs.length c1) xbs b1 0 c1 w3.drew (HS2.o.fr (F3.o.drew) id) g5);have HBD:∀(W:World) (b' c':Nat),(Instr.build 119 #[(0,.agg #[.int .i64 i,.int .i64 xl,.int .i64 xq]),(1,.slice (some ⟨b',0,none⟩) xbs.length c')]).run prog W=.ok (.agg #[.int .i64 i,.int .i64 xl,.int .i64 xq,.slice (some ⟨b',0,none⟩) xbs.length c']) W:=fun W b' c'=>by kernel_rfl
   clear f3 k3;go_wp2_with fail
   go_region_with (go_at_call 101;refine HC.o.mono ?_;rintro e w4 ⟨v',rfl,⟨b4,c4,hs4,hb4,cs4,hk4⟩,f4⟩;obtain rfl:=hs4.1;have y0:=f4.cell_of r0 id;have y3:=f4.cell_of r1 id;have y4:=f4.cell_of r2 id;have y5:∀o,(w4.alloc o).cell? ⟨wr.heap.size,0,none⟩=some (.int .i64 i):=(fun o=>(f4.alloc o).cell_of r0 id);have y1:∀o,(w4.alloc o).cell? ⟨w.heap.size,i,none⟩=some z:=(fun o=>(f4.alloc o).cell_of pz id);have y2:∀o,(w4.alloc o).frozen? ⟨w.heap.size,i,none⟩=false:=(fun o=>bU ((f4.alloc o).aC KW3.o id) i))
   all_goals
    clear y0 y1 y2 y3 y4 y5;have fa:=(f4.alloc (.cells #[.int .i64 i,.int .i64 xl,.int .i64 xq,.slice (some ⟨b4,0,none⟩) xbs.length c4] 119))
    have F4:Fr No wr (w4.alloc (.cells #[.int .i64 i,.int .i64 xl,.int .i64 xq,.slice (some ⟨b4,0,none⟩) xbs.length c4] 119)):=(F3.o.drew).trans fa kp;have hw4:wr.heap.size≤w4.heap.size:=(F3.o.drew.trans f4 kp).size;have hb4':wr.heap.size≤b4:=Nat.le_trans F3.o.size hb4;have hbl:=hs4.2.2.1;obtain ⟨s5,wn5⟩:=HWN.o.set HS.o.fresh F4 i hi4 (l:=xl) (s:=xq) (bs:=xbs) (r:=w4.heap.size) (b:=b4) (cc:=c4) (v:=.slice (some ⟨b4,0,none⟩) xbs.length c4) hw4 hb4' (by omega) (aO w4 _) (hs4.fr ((Fr.refl (S:=No) w4).alloc _) id) rfl;have hws:=HS.o.fr.size;have S5:Hid (Step (fun _=>False) w o _ _):=lH ⟨HS.o.fr.trans (F4.bK.trans (jQ _ w.heap.size i (.pointer (some ⟨w4.heap.size,0,none⟩))) kp) (fun j hj (e:j=w.heap.size)=>by omega),fun k hk=>(s5.old k (by omega)).trans (HS.o.old k hk),s5.fresh⟩;have W5:=lH wn5;rw [← HTK.o] at W5;clear s5 wn5 fa F4;go_wp2_with fail;go_roundw
    case rel=>exact ⟨j+1,i,_,rfl,by go_num,hlt,HLN,S5,W5⟩
    case measure=>simp [intOf];omega
  ·obtain rfl:j=LL.length:=by omega
   have q1:¬(LL.length:Int)<(LL.length:Int):=(by omega)
   have HFIN:Hid (iE wr oj cl w.heap.size W):=lH (by have:=HWN.o;rwa [List.take_length,HW.o] at this);go_wp2_with fail;exact HQ.o _ _ _ HS.o HFIN.o
def Aa (w:World) (base p:Nat) (m:aG):Prop:=base≤p∧∃v,w.heap[p]? =some (.cells #[.bool true,.int .i64 m.size,v] 135 (0,0))∧iT dB 5 59 w base v m.l
theorem Aa.at {w w0:World} {o:Nat→Nat} {p K i:Nat} {m:aG} (h:Aa w w0.heap.size p m) (s:Step (fun _=>False) w0 o w o):∃o',Step (fun _=>False) w0 o w o'∧eH w o' K i p m:=by
 obtain ⟨hp,v,hk,hr⟩:=h;have hlt:=lt_of_block hk;rcases hr with ⟨e,hl⟩|⟨b,cap,e,hm,hb,hr⟩
 ·exact ⟨_,s.lD hp hlt,jD _ _ _,v,hk,.inl ⟨e,hl⟩⟩
 ·have hne:b≠p:=by
   rintro rfl;obtain ⟨⟨cur,h1,_⟩,_⟩:=hr;rw [hk] at h1;simp only [Option.some.injEq,Obj.cells.injEq] at h1;exact absurd h1.2.1 (by decide)
  refine ⟨_,(s.lD (c:=K+4000+i) hb hr.lt).lD hp hlt,jD _ _ _,v,hk,.inr ⟨b,cap,e,hm,?_,hr⟩⟩;rw [eU _ _ hne,jD]
def Qb (w:World) (m:aG) (e:Ending) (w':World):Prop:=∃p,e=.returned (.pointer (some ⟨p,0,none⟩))∧Aa w' w.heap.size p m∧Fr No w w'
theorem aCK (p:Nat) (m:aG) (w:World) (h:lY w p m) (hl:m.l.length≤1000000):Calls prog 61 #[.pointer (some ⟨p,0,none⟩)] w (Qb w m):=by
 obtain ⟨v,hk,hv⟩:=h;have c0:w.cell? ⟨p,0,none⟩=some (.bool true):=by rw [aA hk];rfl
 have c1:w.cell? ⟨p,1,none⟩=some (.int .i64 m.size):=by rw [aA hk];rfl
 have c2:w.cell? ⟨p,2,none⟩=some v:=by rw [aA hk];rfl
 have HC:=lH (xU v m.l w.drew (hv.fr (Fr.refl w).drew) hl);obtain ⟨base,cap,rfl⟩:=hv.slice;have hbd:∀(w':World) (b:Option Addr) (c l:Nat),(Instr.build 135 #[(0,.bool true),(1,.int .i64 m.size),(2,.slice b l c)]).run prog w'=.ok (.agg #[.bool true,.int .i64 m.size,.slice b l c]) w':=fun w' b c l=>by kernel_rfl
 have F0:=lH ((Fr.refl (S:=No) w).drew);clear hk hv;go_enter func61,ntmps61;go_wp2_with fail;go_region_held3 (fun w'=>w'.cell? ⟨p,0,none⟩=some (.bool true)∧w'.cell? ⟨p,1,none⟩=some (.int .i64 m.size)∧w'.cell? ⟨p,2,none⟩=some (.slice base m.l.length cap)) (first|go_keep|(go_split_ands;refine ⟨?_,?_,?_⟩<;>exact f1.cell_of (by assumption) id))
  ((go_at_call 117;refine HC.o.mono ?_;rintro e w1 ⟨v',rfl,o1,f1⟩;obtain ⟨b1,l1,e1⟩:=(Dk qZ o1).shape;subst e1))
 have hb:=hbd w1 b1 l1 m.l.length;go_wp2_with fail
 go_ret
 exact ⟨_,rfl,⟨(F0.o.trans f1 kp).size,_,aO _ _,(Dk qZ o1).fr ((Fr.refl (S:=No) _).alloc _) (fun _ _=>id)⟩,(F0.o.trans f1 kp).alloc _⟩
structure rO (w:World) (o:Nat→Nat) (S:St) (K:Nat) (L:aT) (r:Nat) (wr:World) (left:Int→Bool) (oj fp:Nat→Nat):Prop where
 step:Step (fun _=>False) w o wr oj
 win:iE wr oj (K+1) L.win S.W
 tree:bV wr oj K L.tr S.T
 tok:iM wr oj K L.tk S.K
 cs:wr.heap[L.s]? =some (.cells (kC L S) 104 (0,0))
 os:oj L.s=K+8
 ofl:oj L.fl=K+6
 ous:oj L.us=K+7
 orr:oj r=0
 bf:w.heap.size≤L.fl
 bu:w.heap.size≤L.us
 br:w.heap.size≤r
 map:∃c,MapAt encI wr L.fl c (gone left (cO S.F fp))
 mu:MapAt nC wr L.us 0 (fun _=>none)
 done:∀i m,S.F i=some m→left (i:Int)=false→eH wr oj K i (fp i) m
theorem rO.steps {w:World} {o:Nat→Nat} {S:St} {K r:Nat} {L:aT} {wr w2:World} {left:Int→Bool} {oj oj2 fp:Nat→Nat} (h:rO w o S K L r wr left oj fp) (ok:dD S.T) {C:Nat→Prop} (s:Step C wr oj w2 oj2) (s0:Step (fun _=>False) w o w2 oj2) (hC:∀c,C c→c=0) (hr:r<wr.heap.size):rO w o S K L r w2 left oj2 fp where
 step:=s0
 win:=h.win.step s (by intro e;have:=hC _ e;omega) (by intro e;have:=hC _ e;omega)
 tree:=h.tree.step ok s (fun c hc e=>by have:=hC _ e;unfold bI at hc;omega)
 tok:=h.tok.step s (by intro e;have:=hC _ e;omega) (by intro e;have:=hC _ e;omega)
 cs:=s.block h.cs (by rw [h.os];intro e;have:=hC _ e;omega)
 os:=(s.own h.cs).trans h.os
 ofl:=by
  obtain ⟨c,hm⟩:=h.map;exact (s.old _ hm.lt).trans h.ofl
 ous:=(s.old _ h.mu.lt).trans h.ous
 orr:=(s.old r hr).trans h.orr
 bf:=h.bf
 bu:=h.bu
 br:=h.br
 map:=by
  obtain ⟨c,hm⟩:=h.map;exact ⟨c,hm.fr s.fr (by rw [h.ofl];intro e;have:=hC _ e;omega)⟩
 mu:=h.mu.fr s.fr (by rw [h.ous];intro e;have:=hC _ e;omega)
 done:=fun i m hi hl=>(h.done i m hi hl).step s (by intro e;have:=hC _ e;omega) (by intro e;have:=hC _ e;omega)
theorem rO.put {w:World} {o:Nat→Nat} {S:St} {K r:Nat} {L:aT} {wr:World} {left:Int→Bool} {oj fp:Nat→Nat} (h:rO w o S K L r wr left oj fp) (ok:dD S.T) {i:Nat} {m:aG} (hi:S.F i=some m) (hi8:i≤128) (hl:left (i:Int)=true) {p:Nat} (hth:eH wr oj K i p m)
  {c0:Nat} (hc0:MapAt encI wr L.fl c0 (gone left (cO S.F fp))) (hc1:c0≤1000000):
  ∃w5,(Instr.mapUpdate 100 (.map (some L.fl)) (.int .i64 i) (.pointer (some ⟨p,0,none⟩))).run prog wr=.ok () w5∧rO w o S K L r w5 (fun z=>left z&&decide (z≠(i:Int))) oj (fun j=>if j=i then p else fp j)∧Fr (· =L.fl) wr w5∧MapAt encI w5 L.fl (c0+1) (gone (fun z=>left z&&decide (z≠(i:Int))) (cO S.F (fun j=>if j=i then p else fp j))):=by
 obtain ⟨w5,hu,hm5,f5⟩:=hc0.put (i:Int) p (show I64 _ by unfold I64;omega) trivial (by omega) (t:=100) (e:=63) underlying100;have e1:gone left (cO S.F fp) (i:Int)=none:=if_pos hl;rw [e1] at hm5;simp only [Option.isSome_none,Bool.false_eq_true,if_false] at hm5;have e2:(fun z=>if z=(i:Int) then some p else gone left (cO S.F fp) z)=gone (fun z=>left z&&decide (z≠(i:Int))) (cO S.F (fun j=>if j=i then p else fp j)):=by
  funext z;unfold gone cO;by_cases hz:z=(i:Int)
  ·subst hz;simp [hi]
  ·by_cases h0:0≤z
   ·have:z.toNat≠i:=by omega
    simp [hz,h0,this]
   ·simp [hz,h0]
 rw [e2] at hm5;have s5:Step (fun c=>c=K+6) wr oj w5 oj:=⟨f5.mono (fun j _ e=>by rw [e];exact h.ofl),fun _ _=>rfl,fun j hj=>h.step.fresh j (Nat.le_trans f5.size hj)⟩
 refine ⟨w5,hu,⟨h.step.tZ h.bf f5,h.win.step s5 (by omega) (by omega),h.tree.step ok s5 (fun c hc e=>by unfold bI at hc;omega),h.tok.step s5 (by omega) (by omega),s5.block h.cs (by rw [h.os];omega),h.os,h.ofl,h.ous,h.orr,h.bf,h.bu,h.br,⟨_,hm5⟩,h.mu.fr s5.fr (by rw [h.ous];omega),fun j y hj hlj=> ?_⟩,f5,hm5⟩;by_cases e:j=i
 ·subst e;rw [hi] at hj;cases hj;rw [if_pos rfl];exact hth.step s5 (by omega) (by omega)
 ·rw [if_neg e];refine (h.done j y hj ?_).step s5 (by omega) (by omega);have:decide ((j:Int)≠(i:Int))=true:=decide_eq_true (by omega);rw [this,Bool.and_true] at hlj;exact hlj
theorem N7 (F:Nat→Option aG) (fp fp':Nat→Nat):gone (fun x=>(cO F fp x).isSome) (cO F fp')=fun _=>none:=by
 funext z;unfold gone;by_cases h:(cO F fp z).isSome=true
 ·rw [if_pos h]
 ·rw [if_neg h];unfold cO at h ⊢;by_cases h0:0≤z
  ·rw [if_pos h0] at h ⊢;cases hT:F z.toNat with
   | none=>rfl
   | some y=>rw [hT] at h;exact absurd rfl h
  ·rw [if_neg h0]
