/- Part of a proof. -/
import Derived.Test.YtlcojhddnpmgmaaGreatV10
import Derived.Test.YtlcojhddnpmgmaaGreatV17
set_option linter.unusedSimpArgs false
set_option linter.unusedVariables false
set_option maxRecDepth 100000
set_option maxHeartbeats 6400000
namespace Go.Proofs.YtlcojhddnpmgmaaGreat
open Go.RowKit
theorem zW:∀a b:List UInt8,Lib.compareBytes b a= - Lib.compareBytes a b
 | [], []=>rfl
 | [],_::_=>rfl
 | _::_, []=>rfl
 | a::xs,b::ys=>by
  simp only [Lib.compareBytes];have ih:=zW xs ys;by_cases h1:a<b
  ·have h2:¬b<a:=by rw [UInt8.lt_iff_toNat_lt] at*;omega
   simp [h1,h2]
  ·by_cases h2:b<a
   ·simp [h1,h2]
   ·simp [h1,h2,ih]
theorem Ht:∀a b:List UInt8,Lib.compareBytes a b=0→a=b
 | [], [],_=>rfl
 | [],_::_,h=>by simp [Lib.compareBytes] at h
 | _::_, [],h=>by simp [Lib.compareBytes] at h
 | a::xs,b::ys,h=>by
  simp only [Lib.compareBytes] at h;by_cases h1:a<b
  ·simp [h1] at h
  ·by_cases h2:b<a
   ·simp [h1,h2] at h
   ·simp only [h1,h2,if_false] at h;have e:a=b:=by
     apply UInt8.toNat_inj.1;rw [UInt8.lt_iff_toNat_lt] at h1 h2;omega
    rw [e,Ht xs ys h]
theorem Gl:∀a b c:List UInt8,Lib.compareBytes a b<0→Lib.compareBytes b c<0→Lib.compareBytes a c<0
 | [],b, [],h1,h2=>by
  cases b with
  | nil=>exact h1
  | cons x b=>simp [Lib.compareBytes] at h2
 | [],_,_::_,_,_=>by simp [Lib.compareBytes]
 | _::_, [],_,h1,_=>by simp [Lib.compareBytes] at h1
 | _::_,_::_, [],_,h2=>by simp [Lib.compareBytes] at h2
 | a::xs,b::ys,c::zs,h1,h2=>by
  simp only [Lib.compareBytes] at*;by_cases x1:a<b
  ·by_cases x2:b<c
   ·have:a<c:=by rw [UInt8.lt_iff_toNat_lt] at*;omega
    simp [this]
   ·by_cases x3:c<b
    ·simp [x2,x3] at h2
    ·have:a<c:=by rw [UInt8.lt_iff_toNat_lt] at*;omega
     simp [this]
  ·by_cases y1:b<a
   ·simp [x1,y1] at h1
   ·by_cases x2:b<c
    ·have:a<c:=by rw [UInt8.lt_iff_toNat_lt] at*;omega
     simp [this]
    ·by_cases x3:c<b
     ·simp [x2,x3] at h2
     ·have n1:¬a<c:=by rw [UInt8.lt_iff_toNat_lt] at*;omega
      have n2:¬c<a:=(by rw [UInt8.lt_iff_toNat_lt] at*;omega)
      simp only [n1,n2,x1,y1,x2,x3,if_false] at*;exact Gl xs ys zs h1 h2
def nR (x y:ByteArray):Int:=Lib.compareBytes x.data.toList y.data.toList
theorem Bz (x y:ByteArray):ltOf nR x y=decide (nR x y<0):=rfl
theorem Cf:Go.Sort.SWO (ltOf nR) where
 irrefl x:=by
  have:=zW x.data.toList x.data.toList;rw [Bz,decide_eq_false_iff_not];unfold nR;omega
 trans x y z h1 h2:=by
  rw [Bz,decide_eq_true_eq] at*;exact Gl _ _ _ h1 h2
 ntrans x y z h1 h2:=by
  rw [Bz,decide_eq_false_iff_not] at*;intro h3;unfold nR at*;have n1:=zW x.data.toList y.data.toList;rcases Int.lt_or_gt_of_ne (a:=Lib.compareBytes x.data.toList y.data.toList) (b:=0) (fun e=>by
   rw [Ht _ _ e] at h3;exact h2 h3) with h|h
  ·exact h1 h
  ·exact h2 (Gl _ _ _ (by omega) h3)
theorem Uo (x y:ByteArray) (h1:ltOf nR x y=false) (h2:ltOf nR y x=false):x=y:=by
 rw [Bz,decide_eq_false_iff_not] at*;unfold nR at*;have n1:=zW x.data.toList y.data.toList;have:=Ht x.data.toList y.data.toList (by omega);rw [← qN x,← qN y,this]
def oI (T:Tree) (d:Nat):List ByteArray:=(List.range 129).filterMap fun k=>match T k with|some x=>if x.up=d then some (ba x.name) else none|none=>none
def jO (x y:ByteArray):Bool:= !(ltOf nR y x)
def jB (T:Tree) (d:Nat) (s:ByteArray):eF:=(s,(((kid T d s.data.toList).getD 0:Nat):Int),isDir T ((kid T d s.data.toList).getD 0))
def uK (T:Tree) (d:Nat):List eF:=((oI T d).mergeSort jO).map (jB T d)
theorem zX {T:Tree} (ht:dD T) (d:Nat) (s:ByteArray):s∈oI T d↔(aW T d s).isSome=true:=by
 unfold oI aW;rw [List.mem_filterMap];constructor
 ·rintro ⟨k,_,hs⟩;cases hx:T k with
  | none=>rw [hx] at hs;cases hs
  | some x=>
   rw [hx] at hs;dsimp only at hs;split at hs
   ·rename_i hu
    cases hs;rw [jW,yX ht hx hu rfl];rfl
   ·cases hs
 ·intro h;cases hk:kid T d s.data.toList with
  | none=>rw [hk] at h;cases h
  | some k=>
   obtain ⟨x,hx,hu,hn⟩:=uI hk;refine ⟨k,List.mem_range.2 (by have:=ht.lt hx;omega),?_⟩;rw [hx];dsimp only;rw [if_pos hu,hn,qN]
theorem Y6 {α β:Type} (f:α→Option β) (l:List α) (h:l.Nodup) (hi:∀a∈l,∀b∈l,∀y,f a=some y→f b=some y→a=b):(l.filterMap f).Nodup:=by
 induction l with
 | nil=>simp
 | cons a l ih=>
  have h2:=ih (List.nodup_cons.1 h).2 (fun a ha b hb=>hi a (List.mem_cons_of_mem _ ha) b (List.mem_cons_of_mem _ hb));cases hf:f a with
  | none=>rw [List.filterMap_cons_none hf];exact h2
  | some y=>
   rw [List.filterMap_cons_some hf,List.nodup_cons];refine ⟨fun hm=> ?_,h2⟩;obtain ⟨b,hb,hfb⟩:=List.mem_filterMap.1 hm;have:=hi a (List.mem_cons_self ..) b (List.mem_cons_of_mem _ hb) y hf hfb;subst this;exact (List.nodup_cons.1 h).1 hb
theorem Zm {T:Tree} (ht:dD T) (d:Nat):(oI T d).Nodup:=by
 refine Y6 _ _ List.nodup_range (fun j _ k _ y hj hk=> ?_);cases hx:T j with
 | none=>rw [hx] at hj;cases hj
 | some x=>
  cases hz:T k with
  | none=>rw [hz] at hk;cases hk
  | some z=>
   rw [hx] at hj;rw [hz] at hk;dsimp only at hj hk;split at hj
   ·split at hk
    ·cases hj
     rename_i h1 h2
     have e:z.name=x.name:=aDM (Option.some.inj hk);exact ht.one j k x z hx hz (by rw [h1,h2]) e.symm
    ·cases hk
   ·cases hj
theorem aAZ (T:Tree) (d:Nat):(oI T d).length=aV T d:=by
 unfold oI aV;induction List.range 129 with
 | nil=>rfl
 | cons k l ih=>
  cases hx:T k with
  | none=>rw [List.filterMap_cons_none (by rw [hx]),List.countP_cons_of_neg (by simp [hx]),ih]
  | some x=>
   by_cases hu:x.up=d
   ·rw [List.filterMap_cons_some (b:=ba x.name) (by rw [hx];simp [hu]),List.countP_cons_of_pos (by simp [hx,hu]),List.length_cons,ih]
   ·rw [List.filterMap_cons_none (by rw [hx];simp [hu]),List.countP_cons_of_neg (by simp [hx,hu]),ih]
theorem aCx {T:Tree} (ht:dD T) (d:Nat) (ss:List ByteArray) (hn:ss.Nodup) (hm:∀s,s∈ss↔(aW T d s).isSome=true):ss.mergeSort jO=(oI T d).mergeSort jO:=by
 have hp:ss.Perm (oI T d):=(List.perm_ext_iff_of_nodup hn (Zm ht d)).2 (fun s=>by rw [hm,zX ht]);have tr:∀a b c,jO a b=true→jO b c=true→jO a c=true:=fun a b c h1 h2=>by
  unfold jO at*;simp only [Bool.not_eq_true'] at*;exact Cf.ntrans _ _ _ h2 h1
 have to:∀a b,(jO a b||jO b a)=true:=fun a b=>by
  unfold jO;cases h1:ltOf nR b a with
  | false=>simp
  | true=>
   cases h2:ltOf nR a b with
   | false=>simp
   | true=>
    have:=Cf.trans _ _ _ h1 h2;rw [Cf.irrefl] at this;cases this
 refine List.Perm.eq_of_pairwise (le:=fun x y=>jO x y=true) (fun a b _ _ h1 h2=> ?_) (List.pairwise_mergeSort tr to _) (List.pairwise_mergeSort tr to _) (((List.mergeSort_perm _ _).trans hp).trans (List.mergeSort_perm _ _).symm);unfold jO at h1 h2;simp only [Bool.not_eq_true'] at h1 h2;exact Uo _ _ h2 h1
theorem aAr (x y:eF) (W:World):Calls Tryz.prog 74 #[.agg #[.string x.1,.int .i64 x.2.1,.bool x.2.2],.agg #[.string y.1,.int .i64 y.2.1,.bool y.2.2]] W fun e w'=>e=.returned (.int .i64 (nR x.1 y.1))∧∃q os',w'=Go.Sort.grow (W.drewN q) os':=by
 have hcon:=fun W'=>Tryz.strings_Compare x.1 y.1 W';change ∀W',Calls Tryz.prog 75 _ _ _ at hcon;unfold nR;generalize Lib.compareBytes x.1.data.toList y.1.data.toList=r at hcon ⊢;go_enter Tryz.func74,Tryz.ntmps74;go_wp2_with (go_at_call 75;refine (hcon _).mono ?_;rintro e w' ⟨rfl,rfl⟩)
 go_ret
 exact ⟨rfl,0,_,by rw [Go.Sort.alloc_eq_grow,Go.Sort.alloc_eq_grow,Go.Sort.grow_grow];rfl⟩
end Go.Proofs.YtlcojhddnpmgmaaGreat
namespace Go.Proofs.YtlcojhddnpmgmaaGreat
open Go.RowKit Go.Sort Go.Shelf
def sG (T:Tree) (d:Nat) (s:ByteArray):List Value:=iZ (jB T d s)
theorem aCI (T:Tree) (d:Nat) (ss:List ByteArray):flatK (sG T d) 3 ss.toArray=((ss.map (jB T d)).flatMap iZ).toArray:=by
 have hlen:∀l:List eF,(l.flatMap iZ).length=l.length*3:=fun l=>by
  induction l with
  | nil=>rfl
  | cons a l ih=>rw [List.flatMap_cons,List.length_append,ih,yC,List.length_cons];omega
 apply ext_get!
 ·rw [size_flatK];simp [hlen]
 ·intro t ht;rw [size_flatK] at ht;rw [get_flatK _ _ _ _ ht];have h1:t / 3<ss.length:=by simp at ht;omega
  have h2:t % 3<3:=Nat.mod_lt _ (by decide);have h3:(ss.map (jB T d))[t / 3]? =some (jB T d ss[t / 3]):=by rw [List.getElem?_map,List.getElem?_eq_getElem h1];rfl
  have h4:(iZ (jB T d ss[t / 3]))[t % 3]? =some ((iZ (jB T d ss[t / 3]))[t % 3]'(by rw [yC];exact h2)):=List.getElem?_eq_getElem _;have h5:=Iy _ (t / 3) (t % 3) _ _ h3 h4;rw [show t / 3*3+t % 3=t by omega] at h5;have e1:ss.toArray[t / 3]! =ss[t / 3]:=by simp [h1]
  rw [e1];unfold sG;rw [show ((List.flatMap iZ (ss.map (jB T d))).toArray)[t]! =((List.flatMap iZ (ss.map (jB T d)))[t]?).getD default by simp,h5];rw [Option.getD_some,List.getElem!_eq_getElem?_getD,h4];rfl
theorem Vz {w:World} {base g cap n:Nat} {T:Tree} {d:Nat} {ss:List ByteArray} {cur:Array Value} (hn:n=ss.length) (hh:w.heap[g]? =some (.cells cur 86 (0,0))) (ht:cur.toList.take (n*3)=(ss.map (jB T d)).flatMap iZ):HoldsK (sG T d) 3 w g 0 ss.toArray:=by
 intro j hj;rw [size_flatK] at hj;have hj':j<n*3:=by simp at hj;omega
 refine ⟨?_,by simp [World.frozen?,hh]⟩;rw [aCI];have h1:(cur.toList.take (n*3))[j]? =((ss.map (jB T d)).flatMap iZ)[j]? :=by rw [ht]
 rw [List.getElem?_take_of_lt hj'] at h1;simp only [World.cell?,hh,Nat.zero_add];simp only [Option.isSome_none,Bool.false_eq_true,if_false];rw [← Array.getElem?_toList,h1];have hlen:((ss.map (jB T d)).flatMap iZ).length=n*3:=by
  rw [← ht,List.length_take];have:n*3≤cur.toList.length:=by
   rcases Nat.lt_or_ge cur.toList.length (n*3) with h|h
   ·exfalso;have h2:∀l:List eF,(l.flatMap iZ).length=l.length*3:=fun l=>by
     induction l with
     | nil=>rfl
     | cons a l ih=>rw [List.flatMap_cons,List.length_append,ih,yC,List.length_cons];omega
    have h3:=congrArg List.length ht;rw [List.length_take,h2,List.length_map] at h3;omega
   ·exact h
  omega
 rw [List.getElem?_eq_getElem (by omega)];simp [hlen,hj']
theorem Ph {w:World} {g n:Nat} {os:Array Obj} {cur:Array Value} {e:TypeId} {fr:Nat×Nat} (F:Array Value) (hb:w.heap[g]? =some (.cells cur e fr)):
  (Go.Sort.grow (Go.Sort.putRow id (Go.Sort.ahead w n) g 0 F) os).heap[g]? =some (.cells (Go.Sort.putCells id 0 F cur) e fr):=by
 have hg:g<w.heap.size:=(Array.getElem?_eq_some_iff.1 hb).1;rw [Go.Sort.heap_grow_old _ _ (by simpa using hg)];simp [Go.Sort.putRow,Go.Sort.mapBlock,Go.Sort.ahead,Array.getElem?_modify,hb,Go.Sort.onCells]
theorem zZ {w:World} {g n:Nat} {os:Array Obj} (F:Array Value):Fr (· =g) w (Go.Sort.grow (Go.Sort.putRow id (Go.Sort.ahead w n) g 0 F) os):=by
 refine ⟨rfl,rfl,rfl,by simp,fun k hk hne=> ?_⟩;rw [Go.Sort.heap_grow_old _ _ (by simpa using hk)];have:g≠k:=fun e=>hne e.symm;simp [Go.Sort.putRow,Go.Sort.mapBlock,Go.Sort.ahead,Array.getElem?_modify,this]
theorem Zb (T:Tree) (d:Nat) (ss:List ByteArray) (base:Nat) (v:Value) (w:World) (h:w.ownsRow base 86 3 v ss.length ((ss.map (jB T d)).flatMap iZ)) (hs:ss.length<1000):
  Calls Tryz.prog 73 #[v,.func (.func 74) #[] #[]] w fun e w'=>e=.returned (.tuple #[])∧Fr (fun k=>base≤k) w w'∧eQ w' w'.heap.size v ((ss.mergeSort jO).map (jB T d)):=by
 rcases h.2 with ⟨rfl,h0⟩|⟨g,cap,cur,rfl,hb,hh,h1,h2,h3,h4⟩
 ·have hs0:=List.eq_nil_of_length_eq_zero h0;subst hs0;have hcon:=AnyF.slices_SortFunc_none (P:=Tryz.prog) (ρ:=Tryz.Qz) {Tryz.Qw with} none 0 (.func (.func 74) #[] #[]) w;change Calls Tryz.prog 73 _ _ _ at hcon;refine hcon.mono ?_;rintro e w' ⟨rfl,rfl⟩;exact ⟨rfl,Fr.refl _,.inl ⟨rfl,by simp⟩⟩
 ·have hH:=Vz (T:=T) (d:=d) (ss:=ss) (base:=base) (cap:=cap) rfl hh h4;have eg:∀args w,(callFunc 74 args).run Tryz.prog w=.ok (.enter 74 args) w:=enters_of Tryz.func74 (by kernel_rfl) rfl;have hcon:=AnyQ.slices_SortFunc_total Tryz.Qw 3 Tryz.isAgg86 Tryz.sizeOf86 (sG T d) (fun _=>rfl) (fun x v hv=>by simp [sG,iZ] at hv;rcases hv with rfl|rfl|rfl<;>rfl) nR Cf 74 #[] g 0 cap ss.toArray w eg
   (fun m os dk _ x y=>aAr (jB T d x) (jB T d y) _) hH (lt_of_block hh) (by simp;omega) Uo
  change Calls Tryz.prog 73 _ _ _ at hcon;rw [show ss.toArray.size=ss.length by simp,show ss.toArray.toList=ss by simp] at hcon;refine hcon.mono ?_;rintro e w' ⟨rfl,n,os,rfl⟩;have hl:(ss.mergeSort jO).length=ss.length:=List.length_mergeSort _;have hfin:HoldsK (sG T d) 3 (sortWorldK (sG T d) 3 w g 0 n (ss.mergeSort jO).toArray os) g 0 (ss.mergeSort jO).toArray:=by
   unfold sortWorldK;refine holdsK_grow _ _ _ _ _ _ _ ?_ (holdsK_putRowK _ _ _ _ _ _ _ (holdsK_ahead _ _ _ n _ _ _ hH) (by simp [hl]));unfold putRowK;simpa [Go.Sort.ahead] using lt_of_block hh
  refine ⟨rfl,(zZ _).mono (fun k _ e=>by rw [e];exact hb),.inr ⟨g,0,cap,by rw [List.length_map,hl],by rw [List.length_map,hl];omega,?_,?_,⟨_,_,Ph _ hh⟩,fun j x hj i u hu=> ?_⟩⟩
  ·exact Nat.lt_of_lt_of_le (lt_of_block hh) (zZ (w:=w) (g:=g) (n:=n) (os:=os) _).size
  ·exact Nat.lt_of_lt_of_le (lt_of_block hh) (zZ (w:=w) (g:=g) (n:=n) (os:=os) _).size
  ·have hjl:j<(ss.mergeSort jO).length:=by
    have:=(List.getElem?_eq_some_iff.1 hj).1;simpa using this
   have hi3:i<3:=(List.getElem?_eq_some_iff.1 hu).1;have hc:=(hfin.cell (i:=j) (c:=i) (by simpa using hjl) hi3).1;refine hc.trans ?_;rw [List.getElem?_map,List.getElem?_eq_getElem hjl] at hj;simp only [Option.map_some,Option.some.injEq] at hj;have e1:(ss.mergeSort jO).toArray[j]! =(ss.mergeSort jO)[j]:=(getElem!_pos (ss.mergeSort jO).toArray j (by simpa using hjl)).trans rfl;rw [e1];unfold sG;rw [hj];have hu':(iZ x)[i]? =some u:=hu;rw [List.getElem!_eq_getElem?_getD,hu'];rfl
end Go.Proofs.YtlcojhddnpmgmaaGreat
namespace Go.Proofs.YtlcojhddnpmgmaaGreat
open Go.RowKit
def listOf (T:Tree) (l:List UInt8):Int×List eF:=if (lookOf T l).1≠0 then ((lookOf T l).1, []) else if (lookOf T l).2.2=false then (10, []) else (0,uK T (lookOf T l).2.1)
def wU (w:World) (x:Int×List eF) (e:Ending) (w':World):Prop:=∃v,e=.returned (.tuple #[v,.int .i64 x.1])∧Fr No w w'∧eQ w' w'.heap.size v x.2∧Low w.heap.size v
def U1 (v:Value):Nat:=match v with| .slice _ l _=>l|_=>0
theorem X7 (o:Nat→Nat) (K t:Nat) (T:Tree) (l:List UInt8) (w:World) (hl:l.length≤1000000) (h:bV w o K t T) (ht:dD T) (hf:aP w o):
  Calls Tryz.prog 38 #[.pointer (some ⟨t,0,none⟩),.string (ba l)] w (wU w (listOf T l)):=by
 have HH:=lH h;have HT:=lH ht;have HF:=lH hf;have HP:=lH (vK o K t T l w hl h ht hf);have hm:listOf T l=if (lookOf T l).1≠0 then ((lookOf T l).1, []) else if (lookOf T l).2.2=false then (10, []) else (0,uK T (lookOf T l).2.1):=rfl
 have hlk:=look_ok (l:=l) ht;generalize lookOf T l=P at*;obtain ⟨er,k,is⟩:=P;generalize listOf T l=X at*;have HR:Hid (∀er',X=(er', [])→∀e w',e=.returned (.tuple #[.slice none 0 0,.int .i64 er'])→Fr No w w'→wU w X e w'):=lH (fun er' hx e w' he f=>⟨.slice none 0 0,by rw [he,hx],f,by rw [hx];exact .inl ⟨rfl,rfl⟩,Low.nil _⟩);have HQ:Hid (∀v e w',e=.returned (.tuple #[v,.int .i64 0])→Fr No w w'→eQ w' w'.heap.size v (uK T k)→Low w.heap.size v→X=(0,uK T k)→wU w X e w'):=lH (fun v e w' he f hb hw hx=>⟨v,by rw [he,hx],f,by rw [hx];exact hb,hw⟩);generalize wU w X=Q at*;clear h hl hf;dsimp only at hm hlk HP;by_cases he:er=0
 ·subst he;obtain ⟨x,hx,hxd⟩:=hlk rfl;rw [if_neg (by simp)] at hm;cases is with
  | false=>
   have HV:Hid (X=(10, [])):=lH hm;clear hm hlk hx hxd ht;go_enter Tryz.func38,Tryz.ntmps38;go_wp2_with fail;refine HP.o.mono ?_;rintro e w2 ⟨rfl,f2⟩;go_wp2_with fail;exact HR.o 10 HV.o _ _ rfl f2
  | true=>
   rw [if_neg (by simp)] at hm;have HV:=lH hm;have HX:=lH hx;have HXD:=lH hxd;have hk2:=ht.lt hx;have hkn:aV T k≤129:=Nat.le_trans List.countP_le_length (by rw [List.length_range];omega);have HDN:Hid ((oI T k).length=aV T k):=lH (aAZ T k);obtain ⟨i0,hi,hz0,hz1,hz2⟩:=info_parts Tryz.U4;have HI:=lH hi;have HZ0:=lH hz0;have HZ1:=lH hz1;have HZ2:=lH hz2;clear hi hz0 hz1 hz2 hm hlk hx hxd ht;go_enter Tryz.func38,Tryz.ntmps38;go_wp2_with fail;refine HP.o.mono ?_;rintro e w2 ⟨rfl,f2⟩;obtain ⟨mb,tp,h2,h3,h4,h5,h6⟩:=HH.o.no HT.o HF.o f2;obtain ⟨ib,i1,i2,i3,i4⟩:=bV.dir (h6 k x HX.o) HXD.o;have c0:w2.cell? ⟨t,0,none⟩=some (.map (some mb)):=(by rw [aA h3];rfl)
   have c3:w2.cell? ⟨tp k,3,none⟩=some (.map (some ib)):=(by rw [aA i2];rfl)
   have l1:=h5.look (k:Int) (by unfold encI I64;dsimp only;omega) (t:=130) (e:=142) Tryz.underlying130 (z:=.pointer none) (by kernel_rfl) false;rw [show aS T tp (k:Int)=some (tp k) by simp [aS,HX.o]] at l1;have l1':(Instr.lookup 130 (.map (some mb)) (.int .i64 k) false).run Tryz.prog w2=.ok (.pointer (some ⟨tp k,0,none⟩)) w2:=l1;obtain ⟨w3,hr,R3,f3,hs3⟩:=i3.range (t:=139) (e:=3) Tryz.underlying139;have H5:=lH h5;have H6:=lH h6;have H3:=lH h3;have RR3:=lH R3;have F3:=lH f3;have hhlt:=i3.lt;clear l1 h5 h6 h3 i1 i2 i3 i4 h2 h4 R3 f3;go_wp2_with fail;go_loopw [9] (fun v wr=>∃ss:List ByteArray,Hid (∃left cnt,fG encS wr ib w2.heap.size (aV T k) (aW T k) left cnt∧∀s:ByteArray,s.size≤maxLen→(left s=true↔(aW T k s).isSome=true∧s ∉ ss))∧Hid (wr.ownsRow (w2.heap.size+1) 86 3 v ss.length ((ss.map (jB T k)).flatMap iZ))∧Hid ss.Nodup∧Hid (∀s∈ss,(aW T k s).isSome=true)∧Hid (Fr No w2 wr)∧w2.heap.size+1≤wr.heap.size)
    (fun v _=>aV T k - U1 v)
   case atStart=>exact ⟨[],lH ⟨_,_,RR3.o,fun s _=>by simp⟩,lH ⟨rfl,.inl ⟨rfl,rfl⟩⟩,lH List.nodup_nil,lH (by simp),F3,by omega⟩
   case round=>
    obtain ⟨ss,HRA,HOWN,HND,HIN,HFR,hsz⟩:=hrel;obtain ⟨a,cc,rfl⟩:=HOWN.o.shape;obtain ⟨left,cnt,hra,hleft⟩:=HRA.o;rcases hra.next 0 with ⟨_,hno,hnx⟩|⟨s,y,w4,cnt',hms,hls,hnx,hra',_,f4,hs4,hen⟩
    ·have hall:∀s,s∈ss↔(aW T k s).isSome=true:=fun s=>⟨HIN.o s,fun h=>by
      obtain ⟨y,hy⟩:=Option.isSome_iff_exists.1 h;have hg:s.size≤maxLen:=(hra.map.good hy).1;apply Classical.byContradiction;intro hn;have:=(hleft s hg).2 ⟨h,hn⟩;rw [hno s hg] at this;cases this⟩
     have HALL:Hid (ss.mergeSort jO=(oI T k).mergeSort jO):=lH (aCx HT.o k ss HND.o hall);have hle:ss.length≤aV T k:=by
      rw [← HDN.o];exact List.Nodup.length_le_of_subset HND.o (fun s hs=>(zX HT.o k s).2 (HIN.o s hs))
     clear hall hno hleft hra HRA;go_wp2_with fail;have hf22:=f2;refine (Zb T k ss (w2.heap.size+1) _ wr HOWN.o (by omega)).mono ?_;rintro e w6 ⟨rfl,f6,hes⟩;rw [HALL.o] at hes;have hlow:=(Low.row HOWN.o).le (Nat.le_trans f2.size (Nat.le_succ _));have hfin:Fr No w w6:=f2.trans (((HFR.o.bK (S:=fun k=>w2.heap.size≤k)).trans f6 (fun j _ h=>by omega)).no (fun j hj h=>by omega)) kp;go_wp2_with fail;exact HQ.o _ _ _ rfl hfin hes hlow HV.o
    ·obtain ⟨hkk,hnin⟩:=(hleft s (hra.map.good hms).1).1 hls;have hsz0:s.size≤maxLen:=(hra.map.good hms).1;obtain ⟨kk,hkid,rfl⟩:∃kk,kid T k s.data.toList=some kk∧y=(kk:Int):=by
      cases h1:kid T k s.data.toList with
      | none=>simp [aW,h1] at hms
      | some kk=>
       simp [aW,h1] at hms;exact ⟨kk,rfl,hms.symm⟩
     obtain ⟨z,hz,_⟩:=uI hkid;have hkk2:=HT.o.lt hz;have F4:Fr No w2 w4:=HFR.o.trans f4 (fun j hj e=>by omega);have O4:w4.ownsRow (w2.heap.size+1) 86 3 (.slice a ss.length cc) ss.length ((ss.map (jB T k)).flatMap iZ):=sK HOWN.o f4 (fun j e h=>by omega);have d0:w4.cell? ⟨t,0,none⟩=some (.map (some mb)):=(by rw [aA (F4.aC H3.o id)];rfl)
     have dd:w4.cell? ⟨tp kk,2,none⟩=some (.bool (isDir T kk)):=by
      have h7:=(H6.o kk z hz).2;have h8:isDir T kk=z.dir:=(by simp [isDir,hz])
      rw [h8];obtain ⟨up,name,dir⟩:=z;cases dir with
      | false=>rw [aA (F4.aC h7 id)];rfl
      | true=>
       obtain ⟨jb,_,h9,_⟩:=h7;rw [aA (F4.aC h9 id)];rfl
     have l2:=(H5.o.fr F4 id).look (kk:Int) (by unfold encI I64;dsimp only;omega) (t:=130) (e:=142) Tryz.underlying130 (z:=.pointer none) (by kernel_rfl) false;rw [show aS T tp (kk:Int)=some (tp kk) by simp [aS,hz]] at l2;have l2':(Instr.lookup 130 (.map (some mb)) (.int .i64 kk) false).run Tryz.prog w4=.ok (.pointer (some ⟨tp kk,0,none⟩)) w4:=l2;have hnx':(Instr.next (.pointer (some ⟨w2.heap.size,0,none⟩)) false 0).run Tryz.prog wr=.ok (.tuple #[.bool true,.string s,.int .i64 kk]) w4:=hnx;have hen':(Instr.entry (.pointer (some ⟨w2.heap.size,0,none⟩))).run Tryz.prog w4=.ok (.tuple #[.string s,.int .i64 kk]) w4:=hen;have hee:Hid (jB T k s=(s,(kk:Int),isDir T kk)):=lH (by unfold jB;rw [hkid];rfl);have hlt:ss.length<aV T k:=by
      have h9:(s::ss).length≤(oI T k).length:=List.Nodup.length_le_of_subset (List.nodup_cons.2 ⟨hnin,HND.o⟩) (fun z hz=>by
       rcases List.mem_cons.1 hz with rfl|hz
       ·exact (zX HT.o k _).2 hkk
       ·exact (zX HT.o k _).2 (HIN.o z hz))
      rw [HDN.o,List.length_cons] at h9;omega
     have HRA2:Hid (∃left cnt,fG encS w4 ib w2.heap.size (aV T k) (aW T k) left cnt∧∀z:ByteArray,z.size≤maxLen→(left z=true↔(aW T k z).isSome=true∧z ∉ ss++ [s])):=lH ⟨_,_,hra',fun z hzz=>by
      have:=hleft z hzz;simp only [Bool.and_eq_true,decide_eq_true_eq,this,List.mem_append,List.mem_singleton,not_or,and_assoc]⟩
     have HND2:Hid (ss++ [s]).Nodup:=lH (by
      rw [List.nodup_append];exact ⟨HND.o,by simp,fun a ha b hb=>by
       rw [List.mem_singleton] at hb;subst hb;rintro rfl;exact hnin ha⟩)
     have HIN2:Hid (∀z∈ss++ [s],(aW T k z).isSome=true):=lH (fun z hz=>by
      rcases List.mem_append.1 hz with h|h
      ·exact HIN.o z h
      ·rw [List.mem_singleton] at h;subst h;exact hkk)
     have HS4:=lH hs4;have HO4:=lH O4;have hsz4:w2.heap.size+1≤w4.heap.size:=(by omega)
     have HF4:=lH F4;clear hs4 hsz l2 hnx hen hra hra' hleft hls hms hkk hnin hkid hz HRA HOWN HND HIN HFR O4 F4 f4;generalize isDir T kk=di at*;go_wp2_with (at_builtin;(refine wpList_append_lies _ (by rfl) _ _ 26 (by rfl) (w2.heap.size+1) 86 i0 _ 3 32 Tryz.underlying26 HI.o HZ0.o HZ1.o HZ2.o rfl (by decide) (.slice a ss.length cc) ss.length ((ss.map (jB T k)).flatMap iZ) (by rfl) (HO4.o.alloc _) ⟨w4.heap.size,0,none⟩ 1 1 [.string s,.int .i64 kk,.bool di] (by rfl) (by rfl) ?d1 (by simp [Value.oneCell']) (by decide) (by unfold maxLen;omega) (by omega) ?d5 (w4.heap.size+1) ?d6 ?_))
     case d1=>exact World.news_of_block (cs:= #[.string s,.int .i64 kk,.bool di]) (t:=86) (fr:=(0,0)) (heap_alloc_new w4 _)
     case d5=>rw [jR];omega
     case d6=>simp
     intro gg cap wD hownD hgrow hat hgl;have hnl:Fr No w2 wD:=by
      refine (HF4.o.alloc _).grown hgrow (fun j hj=> .inr ?_);have:=Ez HO4.o j hj;omega
     have hra9:Hid (∃left cnt,fG encS wD ib w2.heap.size (aV T k) (aW T k) left cnt∧∀z:ByteArray,z.size≤maxLen→(left z=true↔(aW T k z).isSome=true∧z ∉ ss++ [s])):=lH (by
      obtain ⟨lf,ct,h1,h2⟩:=HRA2.o;have fD:Fr (fun j=>w2.heap.size+1≤j) w4 wD:=((Fr.refl w4).alloc _).grown hgrow (fun j hj=> .inl (Ez HO4.o j hj));exact ⟨lf,ct,h1.fr fD (by omega) (by omega),h2⟩)
     have hszD:w2.heap.size+1≤wD.heap.size:=(by have:=hgrow.size;rw [jR] at this;omega)
     have HNL:=lH hnl;have HOD:=lH hownD;clear hownD hgrow hat hgl hnl;go_wp2_with fail;go_roundw
     case rel=>
      refine ⟨ss++ [s],hra9,lH ?_,HND2,HIN2,HNL,hszD⟩;have h9:=HOD.o;rw [List.map_append,List.flatMap_append,List.length_append];simp only [List.map_cons,List.map_nil,List.flatMap_cons,List.flatMap_nil,List.append_nil,hee.o];exact h9
     case measure=>simp [U1];omega
 ·have HV:Hid (X=(er, [])):=lH (by rw [hm,if_pos he]);have q2:(er==0)=false:=by simpa using he
  clear he hm hlk ht;go_enter Tryz.func38,Tryz.ntmps38;go_wp2_with fail;refine HP.o.mono ?_;rintro e w2 ⟨rfl,f2⟩;go_wp2_with fail;exact HR.o er HV.o _ _ rfl f2
def Pred (g:Nat) (lb:Array Value) (p:Tok→Bool) (S:Nat→Prop) (w:World):Prop:=∀W,Fr S w W→∀x,Calls Tryz.prog g (#[jL x]++lb) W fun e w'=>e=.returned (.bool (p x))∧Fr No W w'
def Found (w:World) (L:List Tok) (p:Tok→Bool) (e:Ending) (w':World):Prop:=
 Fr No w w'∧((e=.returned (.int .i64 (-1))∧∀x∈L,p x=false)∨∃(i:Nat) (x:Tok),e=.returned (.int .i64 i)∧L[i]? =some x∧p x=true∧∀y∈L.take i,p y=false)
theorem Q9 (g:Nat) (lb:Array Value) (eg:∀args w,(callFunc g args).run Tryz.prog w=.ok (.enter g args) w) (p:Tok→Bool) (b cap:Nat) (L:List Tok) (w:World) (h:mW w b cap L) (hp:Pred g lb p No w) (hbig:cap≤maxLen):
  Calls Tryz.prog 208 #[.slice (some ⟨b,0,none⟩) L.length cap,.func (.func g) #[] lb] w (Found w L p):=by
 have HH:=lH h;have HP:=lH hp;have hlen:L.length≤cap:=h.len;have hml:cap≤9223372036854775807:=hbig;have HQ:Hid (∀e w',Fr No w w'→((e=.returned (.int .i64 (-1))∧∀x∈L,p x=false)∨∃(i:Nat) (x:Tok),e=.returned (.int .i64 i)∧L[i]? =some x∧p x=true∧∀y∈L.take i,p y=false)→Found w L p e w'):=lH (fun e w' f h=>⟨f,h⟩);generalize Found w L p=Q at*;clear h hp hbig;go_enter Tryz.func208,Tryz.ntmps208;go_wp2_with fail;go_loopw [8] (fun i wr=>∃j:Nat,i=.int .i64 j∧j≤L.length∧Hid (∀y∈L.take j,p y=false)∧Hid (Fr No w wr)) (fun i _=>L.length - (intOf i).toNat)
 case atStart=>exact ⟨0,rfl,Nat.zero_le _,lH (by simp),lH (Fr.refl _)⟩
 case round=>
  obtain ⟨j,rfl,hj,HA,HF⟩:=hrel;by_cases hlt:j<L.length
  ·have q1:(j:Int)<(L.length:Int):=by omega
   have q2:(0:Int)≤(j:Int):=(by omega)
   have q3:(j:Int)<(cap:Int):=(by omega)
   have HR:=(HH.o.fr HF.o id).row j L[j] (List.getElem?_eq_getElem hlt);have HX:Hid (L[j]? =some L[j]):=lH (List.getElem?_eq_getElem hlt);have HC:=lH (HP.o wr HF.o L[j]);have HTK:Hid (L.take (j+1)=L.take j++ [L[j]]):=lH (by rw [List.take_add_one,List.getElem?_eq_getElem hlt];rfl);generalize L[j]=x at*;have HRR:=lH HR;clear HR;cases hq:p x with
   | true=>
    rw [hq] at HC;have HPX:=lH hq;clear hq;go_wp2_with (first|(refine wpList_load_mid (by rfl) 53 _ (by rfl) b (j*4) (by rfl) (dA x) _ HRR.o Tryz.underlying53 rfl Tryz.jS ?_)|(go_at_fn g;refine HC.o.mono ?_;rintro e w' ⟨rfl,f'⟩));refine HQ.o _ _ (HF.o.trans f' kp) (.inr ⟨j,x,rfl,HX.o,HPX.o,HA.o⟩)
   | false=>
    rw [hq] at HC;have HPX:=lH hq;clear hq;go_wp2_with (first|(refine wpList_load_mid (by rfl) 53 _ (by rfl) b (j*4) (by rfl) (dA x) _ HRR.o Tryz.underlying53 rfl Tryz.jS ?_)|(go_at_fn g;refine HC.o.mono ?_;rintro e w' ⟨rfl,f'⟩));go_roundw
    case rel=>
     refine ⟨j+1,by go_num,hlt,lH (fun y hy=> ?_),lH (HF.o.trans f' kp)⟩;rw [HTK.o] at hy;rcases List.mem_append.1 hy with h|h
     ·exact HA.o y h
     ·rw [List.mem_singleton] at h;subst h;exact HPX.o
    case measure=>simp [intOf];omega
  ·obtain rfl:j=L.length:=by omega
   have q1:¬(L.length:Int)<(L.length:Int):=(by omega)
   go_wp2_with fail;exact HQ.o _ _ HF.o (.inl ⟨rfl,fun x hx=>HA.o x (by rw [List.take_length];exact hx)⟩)
theorem Wv (fv:Value) (w:World):Calls Tryz.prog 208 #[.slice none 0 0,fv] w fun e w'=>e=.returned (.int .i64 (-1))∧w'=w:=by
 go_enter Tryz.func208,Tryz.ntmps208;go_wp2_with fail;refine wp_loop_rounds 1 ?_;rw [rounds_succ];go_wp2_with fail
 go_ret
 exact ⟨rfl,rfl⟩
theorem Yg (g:Nat) (lb:Array Value) (eg:∀args w,(callFunc g args).run Tryz.prog w=.ok (.enter g args) w) (p:Tok→Bool) (v:Value) (L:List Tok) (w:World) (h:kG w v L) (hp:Pred g lb p No w):
  Calls Tryz.prog 196 #[v,.func (.func g) #[] lb] w fun e w'=>e=.returned (.bool (L.any p))∧Fr No w w':=by
 rcases h with ⟨rfl,rfl⟩|⟨b,cap,rfl,hm,hb⟩
 ·go_enter Tryz.func196,Tryz.ntmps196;go_wp2_with (go_at_call 208;refine (Wv _ _).mono ?_;rintro e w' ⟨rfl,rfl⟩)
  go_ret
  exact ⟨rfl,Fr.refl _⟩
 ·have HI:=lH (Q9 g lb eg p b cap L w hb hp hm);clear hb hp hm;generalize hr:L.any p=r;have HR:=lH hr;clear hr;go_enter Tryz.func196,Tryz.ntmps196;go_wp2_with fail;refine HI.o.mono ?_;rintro e w' ⟨f1,⟨rfl,h⟩|⟨i,x,rfl,h1,h2,_⟩⟩
  ·have hv:Hid (r=false):=lH (by rw [← HR.o];simpa using h);clear h;go_wp2_with fail
   go_ret
   exact ⟨by rw [hv.o];rfl,f1⟩
  ·have hv:Hid (r=true):=lH (by rw [← HR.o];rw [List.any_eq_true];exact ⟨x,List.mem_of_getElem? h1,h2⟩);have q:(0:Int)≤(i:Int):=(by omega)
   clear h1 h2;go_wp2_with fail
   go_ret
   exact ⟨by rw [hv.o];rfl,f1⟩
def iM (w:World) (o:Nat→Nat) (K k:Nat) (L:List Tok):Prop:=
 o k=K+5∧∃v,w.heap[k]? =some (.cells #[.bool true,v] 155 (0,0))∧((v=.slice none 0 0∧L= [])∨∃b cap,v=.slice (some ⟨b,0,none⟩) L.length cap∧cap≤maxLen∧o b=K+9∧mW w b cap L)
theorem iM.step {C:Nat→Prop} {w w':World} {o o':Nat→Nat} {K k:Nat} {L:List Tok} (h:iM w o K k L) (s:Step C w o w' o') (h5:¬C (K+5)) (h9:¬C (K+9)):iM w' o' K k L:=by
 obtain ⟨h1,v,h2,h3⟩:=h;refine ⟨(s.own h2).trans h1,v,s.block h2 (by rw [h1];exact h5),?_⟩;rcases h3 with h3|⟨b,cap,e,hm,hb,hr⟩
 ·exact .inl h3
 ·exact .inr ⟨b,cap,e,hm,(s.old b hr.lt).trans hb,hr.fr s.fr (by rw [hb];exact h9)⟩
theorem iM.no {w w':World} {o:Nat→Nat} {K k:Nat} {L:List Tok} (h:iM w o K k L) (hf:aP w o) (f:Fr No w w'):iM w' o K k L:=h.step (Step.no (C:=fun _=>False) hf f) id id
theorem iM.jL {w:World} {o:Nat→Nat} {K k:Nat} {L:List Tok} (h:iM w o K k L):∃v,w.heap[k]? =some (.cells #[.bool true,v] 155 (0,0))∧kG w v L:=by
 obtain ⟨h1,v,h2,h3⟩:=h;refine ⟨v,h2,?_⟩;rcases h3 with h3|⟨b,cap,e,hm,hb,hr⟩
 ·exact .inl h3
 ·exact .inr ⟨b,cap,e,hm,hr⟩
theorem kG.fr {w w':World} {v:Value} {L:List Tok} (h:kG w v L) (f:Fr No w w'):kG w' v L:=by
 rcases h with h|⟨b,cap,e,hm,hr⟩
 ·exact .inl h
 ·exact .inr ⟨b,cap,e,hm,hr.fr f id⟩
theorem Ah (k:Nat) (v:Value) (w:World) (h:w.heap[k]? =some (.cells #[.bool true,v] 155 (0,0))):Calls Tryz.prog 115 #[.pointer (some ⟨k,0,none⟩)] w fun e w'=>e=.returned v∧w'=w:=by
 have c1:w.cell? ⟨k,1,none⟩=some v:=by rw [aA h];rfl
 clear h;go_enter Tryz.func115,Tryz.ntmps115
 go_wp2
 go_ret
 exact ⟨rfl,rfl⟩
theorem Gu (tmps:Array Value) (w:World) (g:Nat) (cs:Array Value) (fr:Nat×Nat) (v3:Value) (hp:tmps.getD 6 undef=.pointer (some ⟨g,0,none⟩)) (h3:tmps.getD 7 undef=v3)
  (hg:w.heap[g]? =some (.cells cs 53 fr)) (hc:cs.size=4):(results Tryz.f138 tmps).run Tryz.prog w=.ok (.tuple #[.agg cs,v3]) w:=by
 have hl:=run_loadVar_row (P:=Tryz.prog) w g 53 53 cs fr _ hg Tryz.underlying53 rfl (by rw [Tryz.jS,hc]);have h2':tmps[6]?.getD undef=.pointer (some ⟨g,0,none⟩):=by simpa using hp
 have h3':tmps[7]?.getD undef=v3:=by simpa using h3
 simp [results,Tryz.results138,asAddr,h2',h3',hl]
def fH (L:List Tok) (c h:Int):Option Tok:=L.find? fun x=>x.c==c&&x.h==h
def bJ:Tok:=⟨0,0,0,false⟩
def zB (w:World) (x:Option Tok) (e:Ending) (w':World):Prop:=e=.returned (.tuple #[jL (x.getD bJ),.bool x.isSome])∧Fr No w w'
theorem O8 {α:Type} {p:α→Bool} {L:List α} {j:Nat} {x:α} (hj:L[j]? =some x) (hx:p x=true) (hb:∀y∈L.take j,p y=false):L.find? p=some x:=by
 obtain ⟨hlt,rfl⟩:=List.getElem?_eq_some_iff.1 hj;have h0:L.find? p=(L.take j++L.drop j).find? p:=by rw [List.take_append_drop]
 rw [h0,List.find?_append,List.find?_eq_none.2 (fun y hy=>by rw [hb y hy];simp),List.drop_eq_getElem_cons hlt,List.find?_cons_of_pos hx];rfl
theorem Bj {α:Type} {p:α→Bool} {L:List α} {j:Nat} {x:α} (hj:L[j]? =some x) (hx:p x=false) (hb:∀y∈L.take j,p y=false):∀y∈L.take (j+1),p y=false:=fun y hy=>by
 rw [List.take_add_one,hj] at hy;rcases List.mem_append.1 hy with h|h
 ·exact hb y h
 ·simp at h;subst h;exact hx
theorem Ci (k:Nat) (v:Value) (L:List Tok) (c h:Int) (w:World) (hk:w.heap[k]? =some (.cells #[.bool true,v] 155 (0,0))) (hv:kG w v L):
  Calls Tryz.prog 138 #[.pointer (some ⟨k,0,none⟩),.int .i64 c,.int .i64 h] w (zB w (fH L c h)):=by
 have HQ:Hid (∀x e w',L.find? (fun x=>x.c==c&&x.h==h)=x→e=.returned (.tuple #[jL (x.getD bJ),.bool x.isSome])→Fr No w w'→zB w (fH L c h) e w'):=lH (fun x e w' hx he f=>by subst hx;exact ⟨he,f⟩);generalize zB w (fH L c h)=Q at*;have f0:Fr No w (w.alloc (.cells #[.int .i64 0,.int .i64 0,.int .i64 0,.bool false] 53)):=(Fr.refl w).alloc _;have k0:=aO w (.cells #[.int .i64 0,.int .i64 0,.int .i64 0,.bool false] 53);have HK:=lH (f0.aC hk id);have K0:=lH k0;have F0:=lH f0;clear hk f0 k0;rcases hv with ⟨rfl,rfl⟩|⟨b,cap,rfl,hm,hb⟩
 ·go_enter Tryz.func138,Tryz.ntmps138;go_wp2_with fail;refine (Ah k _ _ HK.o).mono ?_;rintro e w1 ⟨rfl,rfl⟩;go_wp2_with fail;refine wp_loop_rounds 1 ?_;rw [rounds_succ];go_wp2_with fail;have hk1:=K0.o;exact bodyPost_ret (Gu _ _ w.heap.size _ (0,0) (.bool false) rfl rfl hk1 rfl) rfl (HQ.o none _ _ rfl rfl F0.o)
 ·have hml:cap≤9223372036854775807:=hm;have hlen:L.length≤cap:=hb.len;have HB:=lH (hb.fr F0.o id);clear hb hm;go_enter Tryz.func138,Tryz.ntmps138;go_wp2_with fail;refine (Ah k _ _ HK.o).mono ?_;rintro e w1 ⟨rfl,rfl⟩;go_wp2_with fail;generalize hw0:w.alloc (.cells #[.int .i64 0,.int .i64 0,.int .i64 0,.bool false] 53)=w0 at*;clear hw0;go_loopw [13] (fun i wr=>∃j:Nat,i=.int .i64 j∧j≤L.length∧Hid (∀y∈L.take j,(y.c==c&&y.h==h)=false)∧Hid (Fr No w0 wr)) (fun i _=>L.length - (intOf i).toNat)
  case atStart=>exact ⟨0,rfl,Nat.zero_le _,lH (by simp),lH (Fr.refl _)⟩
  case round=>
   obtain ⟨j,rfl,hj,HA,HF⟩:=hrel;by_cases hlt:j<L.length
   ·have q1:(j:Int)<(L.length:Int):=by omega
    have q2:(0:Int)≤(j:Int):=(by omega)
    have q3:(j:Int)<(cap:Int):=(by omega)
    have HR:=lH ((HB.o.fr HF.o id).row j L[j] (List.getElem?_eq_getElem hlt));have HX:Hid (L[j]? =some L[j]):=lH (List.getElem?_eq_getElem hlt);have HK1:=lH (HF.o.aC K0.o id);generalize L[j]=x at*;have fa:Fr No w0 (wr.alloc (.cells #[.int .i64 x.c,.int .i64 x.h,.int .i64 x.i,.bool x.wr] 53)):=HF.o.alloc _;have FA:=lH fa;have HK2:=lH (fa.aC K0.o id);clear fa;cases hq:(x.c==c) with
    | false=>
     have HN:Hid (∀y∈L.take (j+1),(y.c==c&&y.h==h)=false):=lH (Bj (p:=fun y=>y.c==c&&y.h==h) HX.o (by simp [hq]) HA.o);go_wp2_with (refine wpList_load_mid (by rfl) 53 _ (by rfl) b (j*4) (by rfl) [.int .i64 x.c,.int .i64 x.h,.int .i64 x.i,.bool x.wr] _ HR.o Tryz.underlying53 rfl Tryz.jS ?_);go_roundw
     case rel=>exact ⟨j+1,by go_num,hlt,HN,FA⟩
     case measure=>simp [intOf];omega
    | true=>
     cases hq2:(x.h==h) with
     | false=>
      have HN:Hid (∀y∈L.take (j+1),(y.c==c&&y.h==h)=false):=lH (Bj (p:=fun y=>y.c==c&&y.h==h) HX.o (by simp [hq,hq2]) HA.o);go_wp2_with (refine wpList_load_mid (by rfl) 53 _ (by rfl) b (j*4) (by rfl) [.int .i64 x.c,.int .i64 x.h,.int .i64 x.i,.bool x.wr] _ HR.o Tryz.underlying53 rfl Tryz.jS ?_);go_roundw
      case rel=>exact ⟨j+1,by go_num,hlt,HN,FA⟩
      case measure=>simp [intOf];omega
     | true=>
      have HN:Hid (L.find? (fun x=>x.c==c&&x.h==h)=some x):=lH (O8 (p:=fun y=>y.c==c&&y.h==h) HX.o (by simp [hq,hq2]) HA.o);have HOC:=lH (show (#[.int .i64 x.c,.int .i64 x.h,.int .i64 x.i,.bool x.wr]:Array Value).all (·.oneCell')=true from by simp [Value.oneCell']);go_wp2_with (first|(refine wpList_load_mid (by rfl) 53 _ (by rfl) b (j*4) (by rfl) [.int .i64 x.c,.int .i64 x.h,.int .i64 x.i,.bool x.wr] _ HR.o Tryz.underlying53 rfl Tryz.jS ?_)|(refine wpList_store_row rfl 53 (.tmp 6) _ rfl w.heap.size #[.int .i64 x.c,.int .i64 x.h,.int .i64 x.i,.bool x.wr] rfl rfl 53 _ HK2.o Tryz.jS rfl HOC.o ?_));have hk3:=dS (cs':= #[.int .i64 x.c,.int .i64 x.h,.int .i64 x.i,.bool x.wr]) HK2.o;have fs:Fr No w ((wr.alloc (.cells #[.int .i64 x.c,.int .i64 x.h,.int .i64 x.i,.bool x.wr] 53)).setRow w.heap.size #[.int .i64 x.c,.int .i64 x.h,.int .i64 x.i,.bool x.wr]):=Fr.setRow (F0.o.trans FA.o kp) (.inr (Nat.le_refl _)) _;exact bodyPost_ret (Gu _ _ w.heap.size _ (0,0) (.bool true) rfl rfl hk3 rfl) rfl (HQ.o (some x) _ _ HN.o rfl fs)
   ·obtain rfl:j=L.length:=by omega
    have q1:¬(L.length:Int)<(L.length:Int):=(by omega)
    have HN:Hid (L.find? (fun x=>x.c==c&&x.h==h)=none):=lH (List.find?_eq_none.2 (fun y hy=>by rw [HA.o y (by rw [List.take_length];exact hy)];simp));have HK1:=lH (HF.o.aC K0.o id);have HOC:=lH (show (#[.int .i64 0,.int .i64 0,.int .i64 0,.bool false]:Array Value).all (·.oneCell')=true from by simp [Value.oneCell']);go_wp2_with (refine wpList_store_row rfl 53 (.tmp 6) _ rfl w.heap.size #[.int .i64 0,.int .i64 0,.int .i64 0,.bool false] rfl rfl 53 _ HK1.o Tryz.jS rfl HOC.o ?_);have hk3:=dS (cs':= #[.int .i64 0,.int .i64 0,.int .i64 0,.bool false]) HK1.o;have fs:Fr No w (wr.setRow w.heap.size #[.int .i64 0,.int .i64 0,.int .i64 0,.bool false]):=Fr.setRow (F0.o.trans HF.o kp) (.inr (Nat.le_refl _)) _;exact bodyPost_ret (Gu _ _ w.heap.size _ (0,0) (.bool false) rfl rfl hk3 rfl) rfl (HQ.o none _ _ HN.o rfl fs)
def Ho (w:World) (b cap:Nat) (L:List Tok) (e:Ending) (w':World):Prop:=e=.returned (.slice (some ⟨b,0,none⟩) L.length cap)∧mW w' b cap L∧Fr (· =b) w w'
theorem Me (g:Nat) (lb:Array Value) (eg:∀args w,(callFunc g args).run Tryz.prog w=.ok (.enter g args) w) (p:Tok→Bool) (b cap:Nat) (L:List Tok) (w:World) (h:mW w b cap L) (hp:Pred g lb p (· =b) w) (hbig:cap≤maxLen):
  Calls Tryz.prog 160 #[.slice (some ⟨b,0,none⟩) L.length cap,.func (.func g) #[] lb] w (Ho w b cap (L.filter fun x=> !p x)):=by
 have HI:=lH (Q9 g lb eg p b cap L w h (fun W f=>hp W f.bK) hbig);have HH:=lH h;have HP:=lH hp;have hlen:L.length≤cap:=h.len;have hml:cap≤9223372036854775807:=hbig;have HQ:Hid (∀M e w',M=L.filter (fun x=> !p x)→e=.returned (.slice (some ⟨b,0,none⟩) M.length cap)→mW w' b cap M→Fr (· =b) w w'→Ho w b cap (L.filter fun x=> !p x) e w'):=lH (fun M e w' hM h1 h2 h3=>by subst hM;exact ⟨h1,h2,h3⟩);generalize Ho w b cap (L.filter fun x=> !p x)=Q at*;clear h hp hbig;go_enter Tryz.func160,Tryz.ntmps160;go_wp2_with fail;refine HI.o.mono ?_;rintro e w1 ⟨f1,⟨rfl,hno⟩|⟨i0,x0,rfl,hx0,hpx0,hbef⟩⟩
 ·have HM:Hid (L=L.filter (fun x=> !p x)):=lH (List.filter_eq_self.2 (fun x hx=>by rw [hno x hx];rfl)).symm;clear hno;go_wp2_with fail;exact HQ.o L _ _ HM.o rfl (HH.o.fr f1 id) f1.bK
 ·have hi0:i0<L.length:=(List.getElem?_eq_some_iff.1 hx0).1;have HST:Hid (L.take i0=(L.take (i0+1)).filter (fun x=> !p x)):=lH (by
   rw [List.take_add_one,hx0,List.filter_append,List.filter_eq_self.2 (fun x hx=>by rw [hbef x hx];rfl)];simp [hpx0])
  have q0:((i0:Int)== -1)=false:=by rw [beq_eq_false_iff_ne];omega
  clear hx0 hpx0 hbef;go_wp2_with fail;go_loopw [5,6] (fun a c wr=>∃(i j:Nat) (M:List Tok),a=.int .i64 i∧c=.int .i64 j∧i<j∧j≤L.length∧Hid (M.length=L.length∧M.take i=(L.take j).filter (fun x=> !p x)∧M.drop j=L.drop j)∧Hid (mW wr b cap M)∧Hid (Fr (· =b) w wr)) (fun _ c _=>L.length - (intOf c).toNat)
  case atStart=>exact ⟨i0,i0+1,L,rfl,by go_num,by omega,hi0,lH ⟨rfl,HST.o,rfl⟩,lH (HH.o.fr f1 id),lH f1.bK⟩
  case round=>
   obtain ⟨i,j,M,rfl,rfl,hij,hjl,HM,HB,HF⟩:=hrel;by_cases hlt:j<L.length
   ·obtain ⟨hml2,hmt,hmd⟩:=HM.o;have q1:(j:Int)<(L.length:Int):=(by omega)
    have q2:(0:Int)≤(j:Int):=(by omega)
    have q3:(j:Int)<(cap:Int):=(by omega)
    have q4:(0:Int)≤(i:Int):=(by omega)
    have q5:(i:Int)<(L.length:Int):=(by omega)
    have q6:(i:Int)<(cap:Int):=(by omega)
    have hMj:M[j]? =some L[j]:=by
     have:=congrArg (fun l=>l[0]?) hmd;simpa [List.getElem?_drop,List.getElem?_eq_getElem hlt] using this
    have HR:=HB.o.row j L[j] hMj;have HTK:Hid (L.take (j+1)=L.take j++ [L[j]]):=lH (by rw [List.take_add_one,List.getElem?_eq_getElem hlt];rfl);have HDR:Hid (M.drop (j+1)=L.drop (j+1)):=lH (by
     have:=congrArg (List.drop 1) hmd;rwa [List.drop_drop,List.drop_drop] at this)
    have HPW:Hid (∀W x,Fr No (wr.alloc (.cells #[.int .i64 L[j].c,.int .i64 L[j].h,.int .i64 L[j].i,.bool L[j].wr] 53)) W→Calls Tryz.prog g (#[jL x]++lb) W fun e w'=>e=.returned (.bool (p x))∧Fr No W w'):=lH (fun W x f=>HP.o W ((HF.o.alloc _).trans f (fun _ _ e=>e.elim)) x);generalize L[j]=x at*;have HRR:=lH HR;have HC:=lH (HPW.o _ x (Fr.refl _));have fa:Fr No wr (wr.alloc (.cells #[.int .i64 x.c,.int .i64 x.h,.int .i64 x.i,.bool x.wr] 53)):=(Fr.refl wr).alloc _;have hb1:b<wr.heap.size:=HB.o.lt;have HNB:Hid ((wr.alloc (.cells #[.int .i64 x.c,.int .i64 x.h,.int .i64 x.i,.bool x.wr] 53)).heap[wr.heap.size]? =some (.cells #[.int .i64 x.c,.int .i64 x.h,.int .i64 x.i,.bool x.wr] 53 (0,0))):=lH (aO wr _);have HFA:=lH fa;clear HR hMj hml2 hmt hmd fa;cases hq:p x with
    | true=>
     rw [hq] at HC;have HPX:=lH hq;clear hq;go_wp2_with (first|(refine wpList_load_mid (by rfl) 53 _ (by rfl) b (j*4) (by rfl) [.int .i64 x.c,.int .i64 x.h,.int .i64 x.i,.bool x.wr] _ HRR.o Tryz.underlying53 rfl Tryz.jS ?_)|(go_at_fn g;refine HC.o.mono ?_;rintro e w' ⟨rfl,f'⟩));go_roundw
     case rel=>
      refine ⟨i,j+1,M,rfl,by go_num,by omega,hlt,lH ⟨HM.o.1,?_,HDR.o⟩,lH ((HB.o.fr HFA.o id).fr f' id),lH ((HF.o.trans HFA.o.bK kp).trans f'.bK kp)⟩;rw [HTK.o,List.filter_append,HM.o.2.1];simp [HPX.o]
     case measure=>simp [intOf];omega
    | false=>
     rw [hq] at HC;have HPX:=lH hq;clear hq;go_wp2_with (refine wpList_load_mid (by rfl) 53 _ (by rfl) b (j*4) (by rfl) [.int .i64 x.c,.int .i64 x.h,.int .i64 x.i,.bool x.wr] _ HRR.o Tryz.underlying53 rfl Tryz.jS ?_);refine HC.o.mono ?_;rintro e w' ⟨rfl,f'⟩;have kn:=f'.aC HNB.o id;have p0:w'.cell? ⟨wr.heap.size,0,none⟩=some (.int .i64 x.c):=(by rw [aA kn];rfl)
     have p1:w'.cell? ⟨wr.heap.size,1,none⟩=some (.int .i64 x.h):=(by rw [aA kn];rfl)
     have p2:w'.cell? ⟨wr.heap.size,2,none⟩=some (.int .i64 x.i):=(by rw [aA kn];rfl)
     have p3:w'.cell? ⟨wr.heap.size,3,none⟩=some (.bool x.wr):=(by rw [aA kn];rfl)
     clear kn;have HST:Hid (w'.there b (i*4) 4):=lH (((HB.o.fr HFA.o id).fr f' id).there i 4 (by omega));have HOC:Hid ((#[.int .i64 x.c,.int .i64 x.h,.int .i64 x.i,.bool x.wr]:Array Value).all (·.oneCell')=true):=lH (by simp [Value.oneCell']);go_wp2_with (refine wpList_store_mid (by rfl) 53 (.tmp 33) (.tmp 32) (by rfl) b (i*4) #[.int .i64 x.c,.int .i64 x.h,.int .i64 x.i,.bool x.wr] ?a1 ?a2 ?a3 Tryz.jS ?a4 ?_)
     case a1=>rfl
     case a2=>rfl
     case a3=>exact HST.o
     case a4=>exact HOC.o
     have hmi:i<M.length:=(by have:=HM.o.1;omega)
     have HB2:=lH (bP.set (c:=dA) (fun _=>rfl) ((HB.o.fr HFA.o id).fr f' id) i hmi x);have HF2:=lH (((HF.o.trans HFA.o.bK kp).trans f'.bK kp).trans (rG b (dA x) (i*4) w') kp);go_roundw
     case rel=>
      refine ⟨i+1,j+1,M.set i x,by go_num,by go_num,by omega,hlt,lH ⟨by rw [List.length_set];exact HM.o.1,?_,?_⟩,HB2,HF2⟩
      ·rw [HTK.o,List.filter_append,← HM.o.2.1,List.take_add_one,List.getElem?_set_self (by have:=HM.o.1;omega),List.take_set_of_le (Nat.le_refl _)];simp [HPX.o]
      ·rw [List.drop_set_of_lt (by omega)];exact HDR.o
     case measure=>simp [intOf];omega
   ·obtain rfl:j=L.length:=by omega
    obtain ⟨hml2,hmt,hmd⟩:=HM.o;have HTT:Hid (M.take i=L.filter (fun x=> !p x)):=lH (by rw [hmt,List.take_length]);have q1:¬(L.length:Int)<(L.length:Int):=(by omega)
    have q4:(0:Int)≤(i:Int):=(by omega)
    have q5:(i:Int)≤(L.length:Int):=(by omega)
    have q6:(i:Int)≤(cap:Int):=(by omega)
    have q7:(L.length:Int)≤(cap:Int):=(by omega)
    obtain ⟨vs,hvs,hcl⟩:=Yw wr 0 b (i*4) (L.length - i) (cap - i) (HB.o.there i _ (by omega)) (by omega);clear hml2 hmt hmd;go_wp2_with fail;refine HQ.o (L.filter (fun x=> !p x)) _ _ rfl ?_ ?_ (HF.o.trans (rG b vs (i*4) wr) kp)
    ·have:(L.filter (fun x=> !p x)).length=i:=by rw [← HTT.o,List.length_take];have:=HM.o.1;omega
     rw [this]
    ·obtain ⟨⟨cur,h1,h2⟩,h3,h4⟩:=HB.o;obtain ⟨cur',h5,h6⟩:=zC b vs (i*4) wr cur 53 (0,0) h1;refine ⟨⟨cur',h5,by omega⟩,Nat.le_trans (List.length_filter_le _ _) hlen,fun j x hj=> ?_⟩;rw [← HTT.o,List.getElem?_take] at hj;split at hj
     ·rename_i hji
      refine World.rangeAt_setCells_apart (h4 j x hj) b _ _ (.inr (.inl ?_));have l1:(dA x).length=4:=rfl;omega
     ·cases hj
theorem aAE (a b c a' b' c':Int) (d d':Bool) (w:World):(binOp .eql 53 (.agg #[.int .i64 a,.int .i64 b,.int .i64 c,.bool d]) (.agg #[.int .i64 a',.int .i64 b',.int .i64 c',.bool d'])).run Tryz.prog w=.ok (.bool (a==a'&&b==b'&&c==c'&&d==d')) w:=by
 have u3:=Tryz.underlying3;have a3:=Tryz.isAgg3;have z3:=Tryz.sizeOf3;have u4:=Tryz.underlying4;have a4:=Tryz.isAgg4;have z4:=Tryz.sizeOf4;have hS:Tryz.prog.underlying 53=some (.struct (Tryz.prog.fieldsOf 53)):=by kernel_rfl
 have hp:Tryz.prog.stoodInHeld 53=false:=by kernel_rfl
 rw [run_eql_struct,show (10000:Nat)=9999+1 from rfl,run_equalIn_agg w 9999 53 _ _ hS hp];simp only [Program.fieldsOf,Tryz.underlying53];go_simp;by_cases h1:a=a'<;>by_cases h2:b=b'<;>by_cases h3:c=c'<;>cases d<;>cases d'<;>simp [h1,h2,h3]
theorem Zd (p:Nat) (i:Int) (S:Nat→Prop) (w:World) (h:w.heap[p]? =some (.cells #[.int .i64 i] 3 (0,0))) (hS:¬S p):Pred 197 #[.pointer (some ⟨p,0,none⟩)] (fun x=>x.i==i) S w:=fun W f x=>by
 have fa:Fr No W (W.alloc (.cells #[.int .i64 x.c,.int .i64 x.h,.int .i64 x.i,.bool x.wr] 53)):=(Fr.refl W).alloc _;have c0:(W.alloc (.cells #[.int .i64 x.c,.int .i64 x.h,.int .i64 x.i,.bool x.wr] 53)).cell? ⟨p,0,none⟩=some (.int .i64 i):=by rw [aA (fa.aC (f.aC h hS) id)];rfl
 show Calls Tryz.prog 197 #[.agg #[.int .i64 x.c,.int .i64 x.h,.int .i64 x.i,.bool x.wr],.pointer (some ⟨p,0,none⟩)] W fun e w'=>e=.returned (.bool (x.i==i))∧Fr No W w'
 obtain ⟨r,hr⟩:∃r,(x.i==i)=r:=⟨_,rfl⟩
 rw [hr];clear f h hS fa;go_enter Tryz.func197,Tryz.ntmps197
 go_wp2
 go_ret
 exact ⟨rfl,(Fr.refl W).alloc _⟩
theorem aCN (p:Nat) (i:Int) (S:Nat→Prop) (w:World) (h:w.heap[p]? =some (.cells #[.int .i64 i] 3 (0,0))) (hS:¬S p):Pred 161 #[.pointer (some ⟨p,0,none⟩)] (fun x=>x.c==i) S w:=fun W f x=>by
 have fa:Fr No W (W.alloc (.cells #[.int .i64 x.c,.int .i64 x.h,.int .i64 x.i,.bool x.wr] 53)):=(Fr.refl W).alloc _;have c0:(W.alloc (.cells #[.int .i64 x.c,.int .i64 x.h,.int .i64 x.i,.bool x.wr] 53)).cell? ⟨p,0,none⟩=some (.int .i64 i):=by rw [aA (fa.aC (f.aC h hS) id)];rfl
 show Calls Tryz.prog 161 #[.agg #[.int .i64 x.c,.int .i64 x.h,.int .i64 x.i,.bool x.wr],.pointer (some ⟨p,0,none⟩)] W fun e w'=>e=.returned (.bool (x.c==i))∧Fr No W w'
 obtain ⟨r,hr⟩:∃r,(x.c==i)=r:=⟨_,rfl⟩
 rw [hr];clear f h hS fa;go_enter Tryz.func161,Tryz.ntmps161
 go_wp2
 go_ret
 exact ⟨rfl,(Fr.refl W).alloc _⟩
theorem aAs (p:Nat) (y:Tok) (S:Nat→Prop) (w:World) (h:w.heap[p]? =some (.cells #[.int .i64 y.c,.int .i64 y.h,.int .i64 y.i,.bool y.wr] 53 (0,0))) (hS:¬S p):Pred 202 #[.pointer (some ⟨p,0,none⟩)] (fun x=>decide (x=y)) S w:=fun W f x=>by
 have fa:Fr No W (W.alloc (.cells #[.int .i64 x.c,.int .i64 x.h,.int .i64 x.i,.bool x.wr] 53)):=(Fr.refl W).alloc _;have hk:=fa.aC (f.aC h hS) id;have c0:(W.alloc (.cells #[.int .i64 x.c,.int .i64 x.h,.int .i64 x.i,.bool x.wr] 53)).cell? ⟨p,0,none⟩=some (.int .i64 y.c):=by rw [aA hk];rfl
 have c1:(W.alloc (.cells #[.int .i64 x.c,.int .i64 x.h,.int .i64 x.i,.bool x.wr] 53)).cell? ⟨p,1,none⟩=some (.int .i64 y.h):=by rw [aA hk];rfl
 have c2:(W.alloc (.cells #[.int .i64 x.c,.int .i64 x.h,.int .i64 x.i,.bool x.wr] 53)).cell? ⟨p,2,none⟩=some (.int .i64 y.i):=by rw [aA hk];rfl
 have c3:(W.alloc (.cells #[.int .i64 x.c,.int .i64 x.h,.int .i64 x.i,.bool x.wr] 53)).cell? ⟨p,3,none⟩=some (.bool y.wr):=by rw [aA hk];rfl
 have he:=aAE x.c x.h x.i y.c y.h y.i x.wr y.wr;have hd:Hid (decide (x=y)=(x.c==y.c&&x.h==y.h&&x.i==y.i&&x.wr==y.wr)):=lH (by
  obtain ⟨a,b,c,d⟩:=x;obtain ⟨a',b',c',d'⟩:=y;simp only [Tok.mk.injEq];by_cases h1:a=a'<;>by_cases h2:b=b'<;>by_cases h3:c=c'<;>by_cases h4:d=d'<;>simp [h1,h2,h3,h4])
 show Calls Tryz.prog 202 #[.agg #[.int .i64 x.c,.int .i64 x.h,.int .i64 x.i,.bool x.wr],.pointer (some ⟨p,0,none⟩)] W fun e w'=>e=.returned (.bool (decide (x=y)))∧Fr No W w'
 rw [hd.o];generalize (x.c==y.c&&x.h==y.h&&x.i==y.i&&x.wr==y.wr)=r at*;clear f h hS hk fa;go_enter Tryz.func202,Tryz.ntmps202
 go_wp2
 go_ret
 exact ⟨rfl,(Fr.refl W).alloc _⟩
theorem Wx (args:Array Value) (w:World):(callFunc 197 args).run Tryz.prog w=.ok (.enter 197 args) w:=enters_of Tryz.func197 (by kernel_rfl) rfl args w
theorem Y4 (args:Array Value) (w:World):(callFunc 161 args).run Tryz.prog w=.ok (.enter 161 args) w:=enters_of Tryz.func161 (by kernel_rfl) rfl args w
theorem aBk (args:Array Value) (w:World):(callFunc 202 args).run Tryz.prog w=.ok (.enter 202 args) w:=enters_of Tryz.func202 (by kernel_rfl) rfl args w
theorem aBm (k:Nat) (v:Value) (L:List Tok) (i:Int) (w:World) (hk:w.heap[k]? =some (.cells #[.bool true,v] 155 (0,0))) (hv:kG w v L):
  Calls Tryz.prog 133 #[.pointer (some ⟨k,0,none⟩),.int .i64 i] w fun e w'=>e=.returned (.bool (L.any fun x=>x.i==i))∧Fr No w w':=by
 have hmf:∀(fn:Fn) (first cap:Array Value) (w:World),(Instr.makeFunc fn first cap).run Tryz.prog w=.ok (.func fn first cap) w:=fun _ _ _ _=>rfl;have f0:Fr No w (w.alloc (.cells #[.int .i64 i] 3)):=(Fr.refl w).alloc _;have HA:=lH (Yg 197 #[.pointer (some ⟨w.heap.size,0,none⟩)] Wx (fun x=>x.i==i) v L _ (hv.fr f0) (Zd w.heap.size i No _ (aO w _) id));have HR:=lH (Ah k v _ (f0.aC hk id));have F0:=lH f0;generalize (L.any fun x=>x.i==i)=r at*;clear hk hv f0;go_enter Tryz.func133,Tryz.ntmps133;go_wp2_with fail;refine HR.o.mono ?_;rintro e w1 ⟨rfl,rfl⟩;go_wp2_with fail;refine HA.o.mono ?_;rintro e w2 ⟨rfl,f2⟩;go_wp2_with fail
 go_ret
 exact ⟨rfl,F0.o.trans f2 kp⟩
def fQ (K c:Nat):Prop:=c=K+5∨c=K+9
def mP (w:World) (o:Nat→Nat) (K k:Nat) (L:List Tok) (w':World):Prop:=∃o',Step (fQ K) w o w' o'∧iM w' o' K k L
theorem iM.put {w w1 w2:World} {o:Nat→Nat} {K k b cap:Nat} {M:List Tok} {v:Value} (h:o k=K+5) (hk:w.heap[k]? =some (.cells #[.bool true,v] 155 (0,0))) (hf:aP w o) (hb:o b=K+9) (f:Fr (· =b) w w1) (hr:mW w1 b cap M) (hm:cap≤maxLen)
  (e:w2=w1.setCell ⟨k,1,none⟩ (.slice (some ⟨b,0,none⟩) M.length cap)):mP w o K k M w2:=by
 have hne:k≠b:=by intro e;rw [e,hb] at h;omega
 have k1:=f.aC hk hne;have f2:Fr (· =k) w1 w2:=e▸jQ w1 k 1 _;have F:Fr (fun j=>j=b∨j=k) w w2:=(f.mono (fun _ _ e=> .inl e)).trans f2 (fun _ _ e=> .inr e);have s:Step (fQ K) w o w2 o:=⟨F.mono (fun j _ e=>by
  rcases e with rfl|rfl
  ·exact .inr hb
  ·exact .inl h),fun _ _=>rfl,fun j hj=>hf j (Nat.le_trans F.size hj)⟩
 refine ⟨o,s,h,_,e▸setCell_at k1 1 _,.inr ⟨b,cap,rfl,hm,hb,hr.fr f2 (fun e=>hne e.symm)⟩⟩
def Dn (w:World) (o:Nat→Nat) (K k:Nat) (M:List Tok) (e:Ending) (w':World):Prop:=(∃n,e=.returned (.int .i64 n))∧mP w o K k M w'
theorem mP.later {w w1 w':World} {o:Nat→Nat} {K k:Nat} {M:List Tok} (hf:aP w o) (f:Fr No w w1) (h:mP w1 o K k M w'):mP w o K k M w':=by
 obtain ⟨o',s,t⟩:=h;exact ⟨o',((Step.no (C:=fun _=>False) hf f).mono (fun _ e=>e.elim)).trans s (fun _ e=>e),t⟩
theorem aDF (o:Nat→Nat) (K k:Nat) (L:List Tok) (c:Int) (w:World) (h:iM w o K k L) (hf:aP w o):
  Calls Tryz.prog 111 #[.pointer (some ⟨k,0,none⟩),.int .i64 c] w (Dn w o K k (L.filter fun x=> !(x.c==c))):=by
 have hmf:∀(fn:Fn) (first cap:Array Value) (w:World),(Instr.makeFunc fn first cap).run Tryz.prog w=.ok (.func fn first cap) w:=fun _ _ _ _=>rfl;have f0:Fr No w (w.alloc (.cells #[.int .i64 c] 3)):=(Fr.refl w).alloc _;have H0:=lH (h.no hf f0);have FF:Hid (aP (w.alloc (.cells #[.int .i64 c] 3)) o):=lH (Step.no (C:=fun _=>False) hf f0).fresh;obtain ⟨h1,v,hk,hv⟩:=h;have HR:=lH (Ah k v _ (f0.aC hk id));have hkk:=f0.aC hk id;have c1:(w.alloc (.cells #[.int .i64 c] 3)).cell? ⟨k,1,none⟩=some v:=by rw [aA hkk];rfl
 have K0:=lH (aO w (.cells #[.int .i64 c] 3));have HQ2:Hid (∀e w',(∃n,e=.returned (.int .i64 n))→mP (w.alloc (.cells #[.int .i64 c] 3)) o K k (L.filter fun x=> !(x.c==c)) w'→Dn w o K k (L.filter fun x=> !(x.c==c)) e w'):=lH (fun e w' he g=>⟨he,g.later hf f0⟩);generalize Dn w o K k (L.filter fun x=> !(x.c==c))=Q at*;have H1:=lH h1;have HKK:=lH hkk;by_cases hL:L= []
 ·subst hL;have HZ:Hid (∀e w',e=.returned (.int .i64 0)→w'=w.alloc (.cells #[.int .i64 c] 3)→Q e w'):=lH (fun e w' he hw=>by subst hw;exact HQ2.o e _ ⟨0,he⟩ ⟨o,Step.refl FF.o,H0.o⟩);have hlen:∃a cap,v=.slice a 0 cap:=by
   rcases hv with ⟨rfl,_⟩|⟨b,cap,rfl,_⟩
   ·exact ⟨_,_,rfl⟩
   ·exact ⟨_,_,rfl⟩
  obtain ⟨a,cap,rfl⟩:=hlen;clear h1 hk hv hkk f0;go_enter Tryz.func111,Tryz.ntmps111;go_wp2_with fail;refine HR.o.mono ?_;rintro e w1 ⟨rfl,rfl⟩;go_wp2_with fail;exact HZ.o _ _ rfl rfl
 ·rcases hv with ⟨_,rfl⟩|⟨b,cap,rfl,hm,hb,hr⟩
  ·exact absurd rfl hL
  ·have hn:0<L.length:=List.length_pos_iff.2 hL;have q1:((L.length:Int)==0)=false:=(by rw [beq_eq_false_iff_ne];omega)
   have hlt:=hr.lt;have HD:=lH (Me 161 #[.pointer (some ⟨w.heap.size,0,none⟩)] Y4 (fun x=>x.c==c) b cap L _ (hr.fr f0 id) (aCN w.heap.size c (· =b) _ (aO w _) (by omega)) hm);have HB:=lH hb;have HM:=lH hm;have hnkb:k≠b:=(by intro e;rw [e,hb] at h1;omega)
   generalize hMM:(L.filter fun x=> !(x.c==c))=M at*;clear h1 hk hkk f0 hr hb hm hL hMM;go_enter Tryz.func111,Tryz.ntmps111;go_wp2_with fail;refine HR.o.mono ?_;rintro e w1 ⟨rfl,rfl⟩;go_wp2_with fail;refine HD.o.mono ?_;rintro e w2 ⟨rfl,hr2,f2⟩;have HR2:=lH hr2;have F2:=lH f2;have hk2:=f2.aC HKK.o hnkb;have d1:w2.cell? ⟨k,1,none⟩=some (.slice (some ⟨b,0,none⟩) L.length cap):=(by rw [aA hk2];rfl)
   have d2:w2.frozen? ⟨k,1,none⟩=false:=bU hk2 1;have d3:(w2.setCell ⟨k,1,none⟩ (.slice (some ⟨b,0,none⟩) M.length cap)).cell? ⟨k,1,none⟩=some (.slice (some ⟨b,0,none⟩) M.length cap):=(by rw [aA (setCell_at hk2 1 _)];rfl)
   clear hr2 f2 hk2;go_wp2_with fail;exact HQ2.o _ _ ⟨_,rfl⟩ (iM.put H1.o HKK.o FF.o HB.o F2.o HR2.o HM.o rfl)
def vU (w:World) (o:Nat→Nat) (K k:Nat) (L:List Tok) (x:Option Tok) (e:Ending) (w':World):Prop:=match x with
 | none=>e=.returned (.int .i64 13)∧Fr No w w'
 | some r=>e=.returned (.int .i64 0)∧mP w o K k (L.filter fun x=> !decide (x=r)) w'
theorem close_ (o:Nat→Nat) (K k:Nat) (L:List Tok) (c h:Int) (w:World) (hT:iM w o K k L) (hf:aP w o):
  Calls Tryz.prog 139 #[.pointer (some ⟨k,0,none⟩),.int .i64 c,.int .i64 h] w (vU w o K k L (fH L c h)):=by
 have hmf:∀(fn:Fn) (first cap:Array Value) (w:World),(Instr.makeFunc fn first cap).run Tryz.prog w=.ok (.func fn first cap) w:=fun _ _ _ _=>rfl;obtain ⟨h1,v,hk,hv⟩:=hT;have HO:=lH (Ci k v L c h w hk (by
  rcases hv with h3|⟨b,cap,e,hm,hb,hr⟩
  ·exact .inl h3
  ·exact .inr ⟨b,cap,e,hm,hr⟩))
 have c0:w.cell? ⟨k,0,none⟩=some (.bool true):=by rw [aA hk];rfl
 have hmem:∀r,fH L c h=some r→r∈L:=fun r hr=>List.mem_of_find?_eq_some hr;generalize fH L c h=x at*;have HK:=lH hk;have FF:=lH hf;cases x with
 | none=>
  have HQ:Hid (∀e w',e=.returned (.int .i64 13)→Fr No w w'→vU w o K k L none e w'):=lH (fun e w' a b=>⟨a,b⟩);generalize vU w o K k L none=Q at*;clear h1 hk hv hf hmem;go_enter Tryz.func139,Tryz.ntmps139;go_wp2_with fail;refine HO.o.mono ?_;rintro e w1 ⟨rfl,f1⟩;unfold bJ jL;dsimp only [Option.getD,Option.isSome];go_wp2_with fail;exact HQ.o _ _ rfl (f1.alloc _)
 | some r=>
  rcases hv with ⟨_,rfl⟩|⟨b,cap,rfl,hm,hb,hr⟩
  ·exact absurd (hmem r rfl) (by simp)
  ·have HQ:Hid (∀e w',e=.returned (.int .i64 0)→mP w o K k (L.filter fun x=> !decide (x=r)) w'→vU w o K k L (some r) e w'):=lH (fun e w' a b=>⟨a,b⟩);generalize vU w o K k L (some r)=Q at*;have HR:=lH hr;have HB:=lH hb;have HM:=lH hm;have H1:=lH h1;have hnkb:k≠b:=(by intro e;rw [e,hb] at h1;omega)
   have hlt:=hr.lt;clear h1 hk hf hmem hm hb hr;go_enter Tryz.func139,Tryz.ntmps139;go_wp2_with fail;refine HO.o.mono ?_;rintro e w1 ⟨rfl,f1⟩;unfold jL;dsimp only [Option.getD,Option.isSome];have f2:Fr No w (w1.alloc (.cells #[.int .i64 r.c,.int .i64 r.h,.int .i64 r.i,.bool r.wr] 53)):=f1.alloc _;have hk2:=f2.aC HK.o id;have c1:(w1.alloc (.cells #[.int .i64 r.c,.int .i64 r.h,.int .i64 r.i,.bool r.wr] 53)).cell? ⟨k,1,none⟩=some (.slice (some ⟨b,0,none⟩) L.length cap):=(by rw [aA hk2];rfl)
   have hsz:=f1.size;have HD:=lH (Me 202 #[.pointer (some ⟨w1.heap.size,0,none⟩)] aBk (fun x=>decide (x=r)) b cap L _ (HR.o.fr f2 id) (aAs w1.heap.size r (· =b) _ (aO w1 _) (by omega)) HM.o);have F2:=lH f2;have HK2:=lH hk2;generalize hMM:(L.filter fun x=> !decide (x=r))=M at*;clear f1 f2 hk2 hMM;go_wp2_with fail;refine HD.o.mono ?_;rintro e w3 ⟨rfl,hr3,f3⟩;have HR3:=lH hr3;have F3:=lH f3;have hk3:=f3.aC HK2.o hnkb;have d2:w3.frozen? ⟨k,1,none⟩=false:=bU hk3 1;have d1:w3.cell? ⟨k,1,none⟩=some (.slice (some ⟨b,0,none⟩) L.length cap):=(by rw [aA hk3];rfl)
   clear hr3 f3 hk3;go_wp2_with fail;exact HQ.o _ _ rfl (mP.later FF.o F2.o (iM.put H1.o HK2.o (Step.no (C:=fun _=>False) FF.o F2.o).fresh HB.o F3.o HR3.o HM.o rfl))
end Go.Proofs.YtlcojhddnpmgmaaGreat
namespace Go.Proofs.YtlcojhddnpmgmaaGreat
open Go.RowKit Go.Lib
theorem Tryz.zS:(Tryz.prog.info? 53).map (fun i=>(i.zero,i.size,i.bytes))=some (some (.agg #[.int .i64 0,.int .i64 0,.int .i64 0,.bool false]),4,32):=by kernel_rfl
def nV (w:World) (v:Value) (M:List Tok) (e:Ending) (w':World):Prop:=
 ∃b cap,e=.returned (.slice (some ⟨b,0,none⟩) M.length cap)∧cap≤maxLen∧mW w' b cap M∧(((∃l c,v=.slice (some ⟨b,0,none⟩) l c)∧Fr (· =b) w w')∨(w.heap.size≤b∧Fr No w w'))
theorem jG (x:Tok):(dA x).length=4:=rfl
theorem Ha (L:List Tok):∀u∈L.flatMap dA,u.oneCell'=true:=fun u hu=>by
 obtain ⟨x,_,hx⟩:=List.mem_flatMap.1 hu;simp only [dA,List.mem_cons,List.not_mem_nil,or_false] at hx;rcases hx with rfl|rfl|rfl|rfl<;>rfl
theorem I9 {S:Nat→Prop} {w w':World} (f:Fr S w w'):Fr S w w'.drew:=⟨f.os,f.tape,f.output,f.size,f.block⟩
theorem Ee {S:Nat→Prop} {w w':World} (f:Fr S w.drew w'):Fr S w w':=⟨f.os,f.tape,f.output,f.size,f.block⟩
theorem aC9 (b cap vb:Nat) (L:List Tok) (r:Tok) (w:World) (h:mW w b cap L) (hv:w.heap[vb]? =some (.cells #[.int .i64 r.c,.int .i64 r.h,.int .i64 r.i,.bool r.wr] 53 (0,0))) (hroom:L.length<cap) (hm:cap≤maxLen):
  Calls Tryz.prog 201 #[.slice (some ⟨b,0,none⟩) L.length cap,.int .i64 L.length,.slice (some ⟨vb,0,none⟩) 1 1] w (nV w (.slice (some ⟨b,0,none⟩) L.length cap) (L++ [r])):=by
 have hsp:=bP.splice (c:=dA) jG h L.length [r] (Nat.le_refl _) hroom;rw [List.take_length,List.drop_eq_nil_of_le (by simp),List.append_nil,List.flatMap_cons,List.flatMap_nil,List.append_nil] at hsp;have HR:Hid (∀e w',e=.returned (.slice (some ⟨b,0,none⟩) (L.length+1) cap)→w'=w.setCells b (L.length*4) (dA r)→nV w (.slice (some ⟨b,0,none⟩) L.length cap) (L++ [r]) e w'):=lH (fun e w' he hw=>by
  subst hw;exact ⟨b,cap,by rw [he,List.length_append];rfl,hm,hsp,.inl ⟨⟨_,_,rfl⟩,rG b _ _ w⟩⟩)
 generalize nV w (.slice (some ⟨b,0,none⟩) L.length cap) (L++ [r])=Q at*;obtain ⟨i0,hi,hz0,hz1,hz2⟩:=info_parts Tryz.zS;have hth:=h.there L.length 4 (by omega);have hsrc:Src Tryz.prog i0.size 50 (.slice (some ⟨vb,0,none⟩) 1 1) 1 (dA r) w:=by
  rw [hz1];refine Src.ofSlice (size:=4) w (e':=53) Tryz.underlying50 ⟨vb,0,none⟩ 1 1 (dA r) rfl (fun j u hj=> ?_) (by simp [dA,Value.oneCell']);rw [Addr.add_lit,aA hv,Nat.zero_add,← hj];show (dA r).toArray[j]? =_;simp
 have hrun:∀ty,(Builtin.append_ #[50,50] ty #[.slice (some ⟨b,0,none⟩) L.length cap,.slice (some ⟨vb,0,none⟩) 1 1]).run Tryz.prog w=.ok (.slice (some ⟨b,0,none⟩) (L.length+1) cap) (w.setCells b (L.length*4) (dA r)):=fun ty=>by
  have:=run_append_room_src w 50 50 ty 53 i0 Tryz.underlying50 hi b 0 L.length cap _ 1 (dA r) hsrc hroom (fun j hj=>by rw [hz1,Nat.zero_add];exact (hth j hj).1) (fun j hj=>by rw [hz1,Nat.zero_add];exact (hth j hj).2);rwa [hz1,Nat.zero_add] at this
 have q2:(L.length:Int)≤(cap:Int):=by omega
 have q3:(0:Int)≤(L.length:Int):=by omega
 clear hsp h hv hth hsrc hz0 hz1 hz2 hi;go_enter Tryz.func201,Tryz.ntmps201;go_wp2_with (at_builtin;refine Lib.wpList_append_run _ rfl _ _ _ _ rfl _ _ rfl rfl _ _ (hrun _) ?_);exact HR.o _ _ rfl rfl
theorem aAj (w:World) (vb:Nat) (r:Tok) (hv:w.heap[vb]? =some (.cells #[.int .i64 r.c,.int .i64 r.h,.int .i64 r.i,.bool r.wr] 53 (0,0))):Src Tryz.prog 4 50 (.slice (some ⟨vb,0,none⟩) 1 1) 1 (dA r) w:=
 Src.ofSlice (size:=4) w (e':=53) Tryz.underlying50 ⟨vb,0,none⟩ 1 1 (dA r) rfl (fun j u hj=>by
  rw [Addr.add_lit,aA hv,Nat.zero_add,← hj];show (dA r).toArray[j]? =_;simp) (by simp [dA,Value.oneCell'])
theorem Iq:(Value.agg #[.int .i64 0,.int .i64 0,.int .i64 0,.bool false]).cells.size=4:=rfl
theorem Vb {α:Type} {c:α→List Value} {n:Nat} {t:TypeId} (hn:∀x,(c x).length=n) (w:World) (L:List α) (z:Array Value) (hz:z.size=n) (cap:Nat) (hl:L.length≤cap):
  bP c n t (w.alloc (.cells ((L.flatMap c).toArray++Builtin.zeroCells z (cap - L.length)) t)) w.heap.size cap L:=by
 refine bP.of_block hn (aO w _) ?_ hl (fun k u hk=> ?_)
 ·rw [Array.size_append,List.size_toArray,lT hn];simp only [Builtin.zeroCells,Array.size_map,Array.size_range,hz];rw [← Nat.add_mul,show L.length+(cap - L.length)=cap by omega];exact Nat.le_refl _
 ·rw [Array.getElem?_append_left (by rw [List.size_toArray];exact (List.getElem?_eq_some_iff.1 hk).1)];simpa using hk
theorem Rf (base:Option Addr) (cap vb:Nat) (L:List Tok) (r:Tok) (w:World) (h:kG w (.slice base L.length cap) L) (hv:w.heap[vb]? =some (.cells #[.int .i64 r.c,.int .i64 r.h,.int .i64 r.i,.bool r.wr] 53 (0,0))) (hroom:cap=L.length) (hbig:L.length≤1000000):
  Calls Tryz.prog 201 #[.slice base L.length cap,.int .i64 L.length,.slice (some ⟨vb,0,none⟩) 1 1] w (nV w (.slice base L.length cap) (L++ [r])):=by
 obtain ⟨i0,hi,hz0,hz1,hz2⟩:=info_parts Tryz.zS;have hold:(Builtin.firstCells i0.size L.length (.slice base L.length cap)).run Tryz.prog w.drew=.ok (L.flatMap dA).toArray w.drew:=by
  rw [hz1];rcases h with ⟨he,rfl⟩|⟨b,cap',he,_,hb⟩
  ·simp only [List.length_nil] at he ⊢;cases he;exact run_firstCells_none w.drew 4 0 0 0
  ·cases he;have:=bP.firstCells (P:=Tryz.prog) (w:=w.drew) (c:=dA) jG (hb.fr (S:=No) ⟨rfl,rfl,rfl,Nat.le_refl _,fun _ _ _=>rfl⟩ id) L.length L.length cap (Nat.le_refl _);rwa [List.take_length] at this
 have hrun:∀ty,(Builtin.append_ #[50,50] ty #[.slice base L.length cap,.slice (some ⟨vb,0,none⟩) 1 1]).run Tryz.prog w=_:=fun ty=>
  run_append_grow_src w 50 50 ty 53 i0 _ Tryz.underlying50 hi hz0 base L.length cap _ hold _ 1 (dA r) (by rw [hz1];exact aAj w vb r hv) (by omega) (by omega) (by rw [hz2];exact growslice_fits (by omega) (by omega))
 have hge:=grownCap_ge w (L.length+1) cap 53;have hle:=grownCap_le_maxLen w (L.length+1) cap 53 (by unfold maxLen;omega);generalize grownCap w (L.length+1) cap 53=G at*;have hnew:=Vb (c:=dA) (t:=53) jG w.drew (L++ [r]) (Value.agg #[.int .i64 0,.int .i64 0,.int .i64 0,.bool false]).cells Iq G (by rw [List.length_append];exact hge);rw [List.flatMap_append,List.flatMap_cons,List.flatMap_nil,List.append_nil,List.length_append] at hnew;have HR:Hid (∀e w',e=.returned (.slice (some ⟨w.heap.size,0,none⟩) (L.length+1) G)→w'=w.drew.alloc (.cells ((L.flatMap dA++dA r).toArray++Builtin.zeroCells (Value.agg #[.int .i64 0,.int .i64 0,.int .i64 0,.bool false]).cells (G - (L.length+1))) 53)→nV w (.slice base L.length cap) (L++ [r]) e w'):=lH (fun e w' he hw=>by
  subst hw;exact ⟨w.heap.size,G,by rw [he,List.length_append];rfl,hle,hnew,.inr ⟨Nat.le_refl _,(Ee (Fr.refl w.drew)).alloc _⟩⟩)
 generalize nV w (.slice base L.length cap) (L++ [r])=Q at*;have q2:(L.length:Int)≤(cap:Int):=by omega
 have q3:(0:Int)≤(L.length:Int):=by omega
 clear hnew hv hold hz0 hz1 hz2 hi hge hle;obtain ⟨W2,hW2⟩:∃W2,W2=w.drew.alloc (.cells ((L.flatMap dA++dA r).toArray++Builtin.zeroCells (Value.agg #[.int .i64 0,.int .i64 0,.int .i64 0,.bool false]).cells (G - (L.length+1))) 53):=⟨_,rfl⟩
 rw [← hW2] at hrun HR;rcases h with ⟨he,rfl⟩|⟨b,cap',he,_,_⟩
 ·simp only [List.length_nil] at he ⊢;cases he;simp only [List.length_nil,Nat.zero_add] at hrun HR;clear hW2 hroom q2 q3 hbig;go_enter Tryz.func201,Tryz.ntmps201;go_wp2_with (at_builtin;refine Lib.wpList_append_run _ rfl _ _ _ _ rfl _ _ rfl rfl _ _ (hrun _) ?_);exact HR.o _ _ rfl rfl
 ·cases he;clear hW2 hroom;go_enter Tryz.func201,Tryz.ntmps201;go_wp2_with (at_builtin;refine Lib.wpList_append_run _ rfl _ _ _ _ rfl _ _ rfl rfl _ _ (hrun _) ?_);all_goals exact HR.o _ _ rfl rfl
theorem Xt {α:Type} (L:List α) (i:Nat) (r:α) (hi:i<L.length):((L.take (i+1)++L.drop i).take i++ [r]++(L.take (i+1)++L.drop i).drop (i+1))=L.take i++r::L.drop i:=by
 have h1:(L.take (i+1)).length=i+1:=by rw [List.length_take];omega
 rw [List.take_append_of_le_length (by omega),List.take_take,Nat.min_eq_left (by omega),List.drop_append,h1,Nat.sub_self,List.drop_zero,List.drop_eq_nil_of_le (by omega)];simp
theorem aBf (b cap vb i:Nat) (L:List Tok) (r:Tok) (w:World) (h:mW w b cap L) (hv:w.heap[vb]? =some (.cells #[.int .i64 r.c,.int .i64 r.h,.int .i64 r.i,.bool r.wr] 53 (0,0))) (hroom:L.length<cap) (hm:cap≤maxLen) (hi:i<L.length) (hne:vb≠b):
  Calls Tryz.prog 201 #[.slice (some ⟨b,0,none⟩) L.length cap,.int .i64 i,.slice (some ⟨vb,0,none⟩) 1 1] w (nV w (.slice (some ⟨b,0,none⟩) L.length cap) (L.take i++r::L.drop i)):=by
 have hdl:(L.drop i).length=L.length - i:=List.length_drop;have s1:=bP.splice (c:=dA) (n:=4) jG (h.fr (S:=No) (w':=w.drew) ⟨rfl,rfl,rfl,Nat.le_refl _,fun _ _ _=>rfl⟩ id) (i+1) (L.drop i) (by omega) (by omega);have hnil:L.drop (i+1+(L.drop i).length)= []:=List.drop_eq_nil_of_le (by omega);rw [hnil,List.append_nil] at s1;have hl1:(L.take (i+1)++L.drop i).length=L.length+1:=by rw [List.length_append,List.length_take,hdl];omega
 have s2:=bP.splice (c:=dA) (n:=4) jG s1 i [r] (by omega) (by rw [List.length_singleton];omega);rw [List.length_singleton,Xt L i r hi] at s2;rw [List.flatMap_cons,List.flatMap_nil,List.append_nil] at s2;have hml:(L.take i++r::L.drop i).length=L.length+1:=by rw [List.length_append,List.length_cons,List.length_take,hdl];omega
 obtain ⟨W1,hW1⟩:∃W1,W1=w.drew.setCells b ((i+1)*4) ((L.drop i).flatMap dA):=⟨_,rfl⟩
 have F1:Fr (· =b) w W1:=hW1▸Ee (rG b _ _ w.drew);rw [← hW1] at s1 s2;have HR:Hid (∀e w',e=.returned (.slice (some ⟨b,0,none⟩) (L.length+1) cap)→w'=W1.setCells b (i*4) (dA r)→nV w (.slice (some ⟨b,0,none⟩) L.length cap) (L.take i++r::L.drop i) e w'):=lH (fun e w' he hw=>by
  subst hw;exact ⟨b,cap,by rw [he,hml],hm,s2,.inl ⟨⟨_,_,rfl⟩,F1.trans (rG b _ _ W1) kp⟩⟩)
 generalize nV w (.slice (some ⟨b,0,none⟩) L.length cap) (L.take i++r::L.drop i)=Q at*;have hth:=h.there 0 (cap*4) (by omega);have hcp1:∀ty dc sc,(Builtin.copy_ #[50,50] ty #[.slice (some ⟨b,(i+1)*4,none⟩) (L.length - i) dc,.slice (some ⟨b,i*4,none⟩) (L.length+1 - i) sc]).run Tryz.prog w.drew=.ok (goInt (Nat.min (L.length+1 - i) (L.length - i))) W1:=fun ty dc sc=>by
  rw [hW1];refine zU w.drew 50 50 ty 53 b ((i+1)*4) _ dc ⟨b,i*4,none⟩ _ sc 4 _ Tryz.underlying50 Tryz.jS (by rw [lT jG,hdl];simp only [Nat.min_def];split<;>omega) (fun j u hj=> ?_) (fun j hj=> ?_) (fun j hj=> ?_) (Ha _)
  ·rw [Addr.add_lit];exact h.part jG i j u hj
  ·rw [lT jG,hdl] at hj;have:=(hth ((i+1)*4+j) (by omega)).1;rwa [Nat.zero_mul,Nat.zero_add] at this
  ·rw [lT jG,hdl] at hj;have:=(hth ((i+1)*4+j) (by omega)).2;rwa [Nat.zero_mul,Nat.zero_add] at this
 have hv1:W1.heap[vb]? =some (.cells #[.int .i64 r.c,.int .i64 r.h,.int .i64 r.i,.bool r.wr] 53 (0,0)):=F1.aC hv hne;have hth1:=s1.there i 4 (by omega);have hcp2:∀ty dc,(Builtin.copy_ #[50,50] ty #[.slice (some ⟨b,i*4,none⟩) (L.length+1 - i) dc,.slice (some ⟨vb,0,none⟩) 1 1]).run Tryz.prog W1=.ok (goInt 1) (W1.setCells b (i*4) (dA r)):=fun ty dc=>by
  have:=zU (P:=Tryz.prog) W1 50 50 ty 53 b (i*4) (L.length+1 - i) dc ⟨vb,0,none⟩ 1 1 4 (dA r) Tryz.underlying50 Tryz.jS (by rw [jG];simp only [Nat.min_def];split<;>omega) (fun j u hj=>by
   rw [Addr.add_lit,Nat.zero_add,aA hv1,← hj];show (dA r).toArray[j]? =_;simp) (fun j hj=>(hth1 j hj).1) (fun j hj=>(hth1 j hj).2) (by simp [dA,Value.oneCell'])
  rwa [show Nat.min 1 (L.length+1 - i)=1 by simp only [Nat.min_def];split<;>omega] at this
 have hov:∀lb cb,(callFunc 223 #[.slice (some ⟨vb,0,none⟩) 1 1,.slice (some ⟨b,(i+1)*4,none⟩) lb cb]).run Tryz.prog w=.ok (.value (.bool false)) w:=fun lb cb=>by
  obtain ⟨⟨cur,hb1,hb2⟩,_,_⟩:=h;rw [run_callFunc_extern Tryz.func223 (by kernel_rfl) (by kernel_rfl) (by kernel_rfl) (e:=Extern.SlicesOverlaps.overlaps #[50,50] #[4]) (by kernel_rfl),
   Lib.run_overlaps_apart w 50 4 53 Tryz.underlying50 4 Tryz.sizeOf53 ⟨vb,0,none⟩ ⟨b,(i+1)*4,none⟩ 1 1 lb cb hne 53 53 4 cur.size (by simp [World.shape?,hv]) (by simp [World.shape?,hb1]) (by omega) (bU hv _) (bU hv _)]
  rfl
 have mixed:Tryz.prog.follows .mixedOrders=true:=by kernel_rfl
 have hml63:cap≤9223372036854775807:=hm;have hw1:IntKind.i64.wrap ((i:Int)+1)=(i:Int)+1:=by rw [IntKind.wrap_i64];omega
 have hz2:¬((i:Int)=(L.length:Int)):=by omega
 have hb1:(0:Int)≤(i:Int)+1:=by omega
 have hin:i≤L.length:=by omega
 have htn:((i:Int)+1).toNat=i+1:=by omega
 have hb2:¬(cap=i+1):=by omega
 have hb3:(i:Int)≤(L.length:Int)+1:=by omega
 have hb4:¬(cap=i):=by omega
 have hb5:¬((cap:Int)<(L.length:Int)+1):=by omega
 clear hth hth1 hv1 s1 s2 hml hl1 hdl h hv hnil F1 hW1;go_enter Tryz.func201,Tryz.ntmps201;go_wp2_with (simp only [hov])
 go_region_law_o (refine step_copy_runI rfl _ _ 50 50 rfl (.slice (some ⟨b,(i+1)*4,none⟩) (L.length - i) (cap - (i+1))) (.slice (some ⟨b,i*4,none⟩) (L.length+1 - i) (cap - i)) (by simp [Act.eval,Act.put]) (by simp [Act.eval,Act.put]) (hcp1 _ _ _) ?_)
 go_wp2_with (at_builtin;refine wpList_copy_runI _ rfl _ _ 50 50 rfl _ _ rfl rfl (hcp2 _ _) ?_);exact HR.o _ _ rfl rfl
theorem aCU (b cap vb i:Nat) (L:List Tok) (r:Tok) (w:World) (h:mW w b cap L) (hv:w.heap[vb]? =some (.cells #[.int .i64 r.c,.int .i64 r.h,.int .i64 r.i,.bool r.wr] 53 (0,0))) (hroom:cap=L.length) (hbig:L.length≤1000000) (hi:i<L.length):
  Calls Tryz.prog 201 #[.slice (some ⟨b,0,none⟩) L.length cap,.int .i64 i,.slice (some ⟨vb,0,none⟩) 1 1] w (nV w (.slice (some ⟨b,0,none⟩) L.length cap) (L.take i++r::L.drop i)):=by
 have hdl:(L.drop i).length=L.length - i:=List.length_drop;have htl:(L.take i).length=i:=by rw [List.length_take];omega
 obtain ⟨i0,hi0,hz0,hz1,hz2⟩:=info_parts Tryz.zS;have hold:(Builtin.firstCells i0.size i (.slice (some ⟨b,0,none⟩) i cap)).run Tryz.prog w.drew=.ok ((L.take i).flatMap dA).toArray w.drew:=by
  rw [hz1];exact bP.firstCells (P:=Tryz.prog) (w:=w.drew) (c:=dA) jG (h.fr (S:=No) ⟨rfl,rfl,rfl,Nat.le_refl _,fun _ _ _=>rfl⟩ id) i i cap (by omega)
 have hik:i+(L.length+1 - i)=L.length+1:=by omega
 have h9:=fun ty=>Lib.run_append_grow_zeros w 50 3 ty 53 i0 _ .i64 .i64 Tryz.underlying50 Tryz.underlying3 hi0 hz0 (some ⟨b,0,none⟩) i cap _ hold (L.length+1 - i) (by omega) (by omega) (by omega) (by omega) (by rw [hz2];omega) (by rw [hz2,hik];exact growslice_fits (by omega) (by omega));rw [hik] at h9;have hge:=grownCap_ge w (L.length+1) cap 53;have hle:=grownCap_le_maxLen w (L.length+1) cap 53 (by unfold maxLen;omega);generalize grownCap w (L.length+1) cap 53=G at*;obtain ⟨W1,hW1⟩:∃W1,W1=w.drew.alloc (.cells (((L.take i).flatMap dA).toArray++Builtin.zeroCells (Value.agg #[.int .i64 0,.int .i64 0,.int .i64 0,.bool false]).cells (L.length+1 - i)++Builtin.zeroCells (Value.agg #[.int .i64 0,.int .i64 0,.int .i64 0,.bool false]).cells (G - (L.length+1))) 53):=⟨_,rfl⟩
 have hrz:∀ty,(Builtin.append_ #[50,3] ty #[.slice (some ⟨b,0,none⟩) i cap,.int .i64 ((L.length:Int)+1 - (i:Int))]).run Tryz.prog w=.ok (.slice (some ⟨w.heap.size,0,none⟩) (L.length+1) G) W1:=fun ty=>by
  have:=h9 ty;rw [show ((L.length+1 - i:Nat):Int)=(L.length:Int)+1 - (i:Int) by omega] at this;rw [hW1];exact this
 clear h9;have F1:Fr No w W1:=hW1▸(Ee (Fr.refl w.drew)).alloc _;have s0:mW W1 w.heap.size G (L.take i++List.replicate (L.length+1 - i) bJ):=by
  have hl:(L.take i++List.replicate (L.length+1 - i) bJ).length=L.length+1:=by rw [List.length_append,htl,List.length_replicate];omega
  refine bP.of_block jG (hW1▸aO w.drew _) ?_ (by omega) (fun k u hk=> ?_)
  ·simp only [Array.size_append,List.size_toArray,lT jG,htl,Builtin.zeroCells,Array.size_map,Array.size_range,Iq];omega
  ·have hz:(List.replicate (L.length+1 - i) bJ).flatMap dA=(Builtin.zeroCells (Value.agg #[.int .i64 0,.int .i64 0,.int .i64 0,.bool false]).cells (L.length+1 - i)).toList:=by
    rw [Qv _ 4 _ Iq,Qs];rfl
   rw [List.flatMap_append,hz] at hk;have hlt:=(List.getElem?_eq_some_iff.1 hk).1;rw [Array.getElem?_append_left (by simpa using hlt)];rw [← hk,← Array.getElem?_toList];simp
 have s1:=bP.splice (c:=dA) (n:=4) jG s0 i [r] (by rw [List.length_append];omega) (by rw [List.length_singleton];omega);have e1:(L.take i++List.replicate (L.length+1 - i) bJ).take i++ [r]++(L.take i++List.replicate (L.length+1 - i) bJ).drop (i+ [r].length)=L.take i++r::List.replicate (L.length - i) bJ:=by
  rw [List.take_append_of_le_length (by omega),List.take_take,Nat.min_self,List.length_singleton,List.drop_append,htl,List.drop_eq_nil_of_le (by omega),List.nil_append,List.drop_replicate,List.append_assoc,List.singleton_append,show L.length+1 - i - (i+1 - i)=L.length - i by omega]
 rw [e1,List.flatMap_cons,List.flatMap_nil,List.append_nil] at s1;obtain ⟨W2,hW2⟩:∃W2,W2=W1.setCells w.heap.size (i*4) (dA r):=⟨_,rfl⟩
 have F2:Fr No w W2:=hW2▸(F1.bK.trans (rG w.heap.size _ _ W1) kp).no (fun j hj e=>by omega);rw [← hW2] at s1;have hl1:(L.take i++r::List.replicate (L.length - i) bJ).length=L.length+1:=by rw [List.length_append,List.length_cons,List.length_replicate,htl];omega
 have s2:=bP.splice (c:=dA) (n:=4) jG (s1.fr (S:=No) (w':=W2.drew) ⟨rfl,rfl,rfl,Nat.le_refl _,fun _ _ _=>rfl⟩ id) (i+1) (L.drop i) (by omega) (by omega);have e2:(L.take i++r::List.replicate (L.length - i) bJ).take (i+1)++L.drop i++(L.take i++r::List.replicate (L.length - i) bJ).drop (i+1+(L.drop i).length)=L.take i++r::L.drop i:=by
  have h5:(L.take i++r::List.replicate (L.length - i) bJ).drop (i+1+(L.drop i).length)= []:=List.drop_eq_nil_of_le (by omega);have h6:(L.take i++r::List.replicate (L.length - i) bJ).take (i+1)=L.take i++ [r]:=by
   rw [List.take_append,htl,List.take_of_length_le (by omega),show i+1 - i=1 by omega];rfl
  rw [h5,h6,List.append_nil,List.append_assoc,List.singleton_append]
 rw [e2] at s2;have hml:(L.take i++r::L.drop i).length=L.length+1:=by rw [List.length_append,List.length_cons,htl,hdl];omega
 have HR:Hid (∀e w',e=.returned (.slice (some ⟨w.heap.size,0,none⟩) (L.length+1) G)→w'=W2.drew.setCells w.heap.size ((i+1)*4) ((L.drop i).flatMap dA)→nV w (.slice (some ⟨b,0,none⟩) L.length cap) (L.take i++r::L.drop i) e w'):=lH (fun e w' he hw=>by
  subst hw;exact ⟨w.heap.size,G,by rw [he,hml],hle,s2,.inr ⟨Nat.le_refl _,((I9 F2).bK.trans (rG w.heap.size _ _ W2.drew) kp).no (fun j hj e=>by omega)⟩⟩)
 generalize nV w (.slice (some ⟨b,0,none⟩) L.length cap) (L.take i++r::L.drop i)=Q at*;have hth0:=s0.there i 4 (by omega);have hth1:=s1.there (i+1) ((L.length - i)*4) (by omega);have hv1:W1.heap[vb]? =some (.cells #[.int .i64 r.c,.int .i64 r.h,.int .i64 r.i,.bool r.wr] 53 (0,0)):=F1.aC hv id;have hcpA:∀ty dc,(Builtin.copy_ #[50,50] ty #[.slice (some ⟨w.heap.size,i*4,none⟩) (L.length+1 - i) dc,.slice (some ⟨vb,0,none⟩) 1 1]).run Tryz.prog W1=.ok (goInt 1) W2:=fun ty dc=>by
  have:=zU (P:=Tryz.prog) W1 50 50 ty 53 w.heap.size (i*4) (L.length+1 - i) dc ⟨vb,0,none⟩ 1 1 4 (dA r) Tryz.underlying50 Tryz.jS (by rw [jG];simp only [Nat.min_def];split<;>omega) (fun j u hj=>by
   rw [Addr.add_lit,Nat.zero_add,aA hv1,← hj];show (dA r).toArray[j]? =_;simp) (fun j hj=>(hth0 j hj).1) (fun j hj=>(hth0 j hj).2) (by simp [dA,Value.oneCell'])
  rw [show Nat.min 1 (L.length+1 - i)=1 by simp only [Nat.min_def];split<;>omega,← hW2] at this;exact this
 have hb2:=h.fr F2 id;have hcpB:∀ty dc sc,(Builtin.copy_ #[50,50] ty #[.slice (some ⟨w.heap.size,(i+1)*4,none⟩) (L.length - i) dc,.slice (some ⟨b,i*4,none⟩) (L.length - i) sc]).run Tryz.prog W2.drew=.ok (goInt (Nat.min (L.length - i) (L.length - i))) (W2.drew.setCells w.heap.size ((i+1)*4) ((L.drop i).flatMap dA)):=fun ty dc sc=>by
  refine zU W2.drew 50 50 ty 53 w.heap.size ((i+1)*4) _ dc ⟨b,i*4,none⟩ _ sc 4 _ Tryz.underlying50 Tryz.jS (by rw [lT jG,hdl];simp only [Nat.min_def];split<;>omega) (fun j u hj=> ?_) (fun j hj=> ?_) (fun j hj=> ?_) (Ha _)
  ·rw [Addr.add_lit];exact hb2.part jG i j u hj
  ·rw [lT jG,hdl] at hj;exact (hth1 j hj).1
  ·rw [lT jG,hdl] at hj;exact (hth1 j hj).2
 have mixed:Tryz.prog.follows .mixedOrders=true:=by kernel_rfl
 have hG63:G≤9223372036854775807:=hle;have hw1:IntKind.i64.wrap ((i:Int)+1)=(i:Int)+1:=by rw [IntKind.wrap_i64];omega
 have hz2':¬((i:Int)=(L.length:Int)):=by omega
 have hb1:(0:Int)≤(i:Int)+1:=by omega
 have hin:i≤L.length:=by omega
 have htn:((i:Int)+1).toNat=i+1:=by omega
 have hb3:(i:Int)≤(L.length:Int):=by omega
 have hb5:(cap:Int)<(L.length:Int)+1:=by omega
 have hb6:¬(G=i):=by omega
 have hb7:¬(G=i+1):=by omega
 have hb8:¬(cap=i):=by omega
 have hb9:(i:Int)≤(cap:Int):=by omega
 clear hth0 hth1 hv1 s0 s1 s2 hml hl1 hdl htl h hv F1 F2 hW1 hW2 e1 e2 hb2 hold hi0 hz0 hz1 hz2 hik hroom;go_enter Tryz.func201,Tryz.ntmps201;go_wp2_with (first
  | (at_builtin;refine Lib.wpList_append_run _ rfl _ _ _ _ rfl _ _ rfl rfl _ _ (hrz _) ?_)
  | (at_builtin;refine wpList_copy_runI _ rfl _ _ 50 50 rfl _ _ rfl rfl (hcpA _ _) ?_))
 go_region_law_o (refine step_copy_runI rfl _ _ 50 50 rfl (.slice (some ⟨w.heap.size,(i+1)*4,none⟩) (L.length - i) (G - (i+1))) (.slice (some ⟨b,i*4,none⟩) (L.length - i) (cap - i)) (by simp [Act.eval,Act.put]) (by simp [Act.eval,Act.put]) (hcpB _ _ _) ?_)
 go_wp2_with fail;exact HR.o _ _ rfl rfl
end Go.Proofs.YtlcojhddnpmgmaaGreat
namespace Go.Proofs.YtlcojhddnpmgmaaGreat
open Go.RowKit
structure St where
 boots:Int
 swaps:Int
 clock:Int
 next:Nat→Int
 W:Nat→Option gW
 T:Tree
 K:List Tok
 F:Nat→Option aG
 U:Stp→Option Us
structure aT where
 s:Nat
 win:Nat
 tr:Nat
 tk:Nat
 fl:Nat
 us:Nat
def kC (L:aT) (S:St):Array Value:= #[.int .i64 S.boots,.int .i64 S.swaps,.int .i64 S.clock,.int .i64 (S.next 0),.int .i64 (S.next 1),.int .i64 (S.next 2),.int .i64 (S.next 3),.int .i64 (S.next 4),
 .pointer (some ⟨L.win,0,none⟩),.pointer (some ⟨L.tr,0,none⟩),.pointer (some ⟨L.tk,0,none⟩),.map (some L.fl),.map (some L.us)]
def cO (F:Nat→Option aG) (fp:Nat→Nat):Int→Option Nat:=fun i=>if 0≤i then (F i.toNat).map (fun _=>fp i.toNat) else none
def dV (U:Stp→Option Us):Stp→Option (Stp×Us):=fun x=>(U x).map (fun y=>(x,y))
def jK (w:World) (o:Nat→Nat) (K fl n:Nat) (F:Nat→Option aG):Prop:=
 o fl=K+6∧∃fp c,c≤n∧MapAt encI w fl c (cO F fp)∧∀i m,F i=some m→eH w o K i (fp i) m
def rU (w:World) (o:Nat→Nat) (K us n:Nat) (U:Stp→Option Us):Prop:=
 o us=K+7∧∃c,c≤n∧MapAt nC w us c (dV U)
structure aK (w:World) (o:Nat→Nat) (K:Nat) (L:aT) (S:St) (n:Nat):Prop where
 own:o L.s=K+8
 cs:w.heap[L.s]? =some (.cells (kC L S) 104 (0,0))
 win:iE w o (K+1) L.win S.W
 tree:bV w o K L.tr S.T
 tok:iM w o K L.tk S.K
 files:jK w o K L.fl n S.F
 uses:rU w o K L.us n S.U
structure aU (S:St):Prop where
 tree:dD S.T
 file:∀i m,S.F i=some m→1≤i∧i≤128∧fU m
def aH (K c:Nat):Prop:=K<c∧c<K+5000
theorem jK.step {C:Nat→Prop} {w w':World} {o o':Nat→Nat} {K fl n:Nat} {F:Nat→Option aG} (h:jK w o K fl n F) (hk:∀i m,F i=some m→1≤i∧i≤128∧fU m) (s:Step C w o w' o') (hm:¬C (K+6)) (hc:∀i,i≤128→∀c,dN K i c→¬C c):jK w' o' K fl n F:=by
 obtain ⟨h1,fp,c,h2,h3,h4⟩:=h;obtain ⟨e1,e2⟩:=h3.step s (by rw [h1];exact hm);exact ⟨e2.trans h1,fp,c,h2,e1,fun i m hi=>(h4 i m hi).step s (hc i (hk i m hi).2.1 _ (.inl rfl)) (hc i (hk i m hi).2.1 _ (.inr rfl))⟩
theorem rU.step {C:Nat→Prop} {w w':World} {o o':Nat→Nat} {K us n:Nat} {U:Stp→Option Us} (h:rU w o K us n U) (s:Step C w o w' o') (hm:¬C (K+7)):rU w' o' K us n U:=by
 obtain ⟨h1,c,h2,h3⟩:=h;obtain ⟨e1,e2⟩:=h3.step s (by rw [h1];exact hm);exact ⟨e2.trans h1,c,h2,e1⟩
theorem aK.step {C:Nat→Prop} {w w':World} {o o':Nat→Nat} {K n:Nat} {L:aT} {S:St} (h:aK w o K L S n) (ok:aU S) (s:Step C w o w' o') (hc:∀c,aH K c→¬C c):aK w' o' K L S n where
 own:=(s.own h.cs).trans h.own
 cs:=s.block h.cs (by rw [h.own];exact hc _ (by unfold aH;omega))
 win:=h.win.step s (hc _ (by unfold aH;omega)) (hc _ (by unfold aH;omega))
 tree:=h.tree.step ok.tree s (fun c e=>hc c (by unfold aH;unfold bI at e;omega))
 tok:=h.tok.step s (hc _ (by unfold aH;omega)) (hc _ (by unfold aH;omega))
 files:=h.files.step ok.file s (hc _ (by unfold aH;omega)) (fun i hi c e=>hc c (by unfold aH;unfold dN at e;omega))
 uses:=h.uses.step s (hc _ (by unfold aH;omega))
theorem aK.no {w w':World} {o:Nat→Nat} {K n:Nat} {L:aT} {S:St} (h:aK w o K L S n) (ok:aU S) (hf:aP w o) (f:Fr No w w'):aK w' o K L S n:=
 h.step ok (Step.no (C:=fun _=>False) hf f) kp
theorem aK.more {w:World} {o:Nat→Nat} {K n n':Nat} {L:aT} {S:St} (h:aK w o K L S n) (hn:n≤n'):aK w o K L S n':=by
 obtain ⟨h1,h2,h3,h4,h5,⟨f1,fp,c,f2,f3⟩,⟨u1,d,u2,u3⟩⟩:=h;exact ⟨h1,h2,h3,h4,h5,⟨f1,fp,c,Nat.le_trans f2 hn,f3⟩,⟨u1,d,Nat.le_trans u2 hn,u3⟩⟩
theorem aK.oQ {w w':World} {o o':Nat→Nat} {K n:Nat} {L:aT} {S:St} {T':Tree} (h:aK w o K L S n) (ok:aU S) (s:Step (bI K) w o w' o') (t:bV w' o' K L.tr T'):aK w' o' K L {S with T:=T'} n where
 own:=(s.own h.cs).trans h.own
 cs:=s.block h.cs (by rw [h.own];unfold bI;omega)
 win:=h.win.step s (by unfold bI;omega) (by unfold bI;omega)
 tree:=t
 tok:=h.tok.step s (by unfold bI;omega) (by unfold bI;omega)
 files:=h.files.step ok.file s (by unfold bI;omega) (fun i hi c e=>by unfold dN at e;unfold bI;omega)
 uses:=h.uses.step s (by unfold bI;omega)
theorem aK.yO {w w':World} {o o':Nat→Nat} {K n:Nat} {L:aT} {S:St} {K':List Tok} (h:aK w o K L S n) (ok:aU S) (s:Step (fQ K) w o w' o') (t:iM w' o' K L.tk K'):aK w' o' K L {S with K:=K'} n where
 own:=(s.own h.cs).trans h.own
 cs:=s.block h.cs (by rw [h.own];unfold fQ;omega)
 win:=h.win.step s (by unfold fQ;omega) (by unfold fQ;omega)
 tree:=h.tree.step ok.tree s (fun c e=>by unfold bI at e;unfold fQ;omega)
 tok:=t
 files:=h.files.step ok.file s (by unfold fQ;omega) (fun i hi c e=>by unfold dN at e;unfold fQ;omega)
 uses:=h.uses.step s (by unfold fQ;omega)
theorem aK.cell {w:World} {o:Nat→Nat} {K n:Nat} {L:aT} {S:St} (h:aK w o K L S n) (j:Nat):w.cell? ⟨L.s,j,none⟩=(kC L S)[j]? :=by rw [aA h.cs]
structure aJ where
 c:Int
 l:Int
 q:Int
 kind:Int
 path:List UInt8
 to:List UInt8
 dir:Bool
 wr:Bool
 cl:Bool
 h:Int
 nx:Int
 sw:Int
def aJ.cells (r:aJ) (rv dv:Value):Array Value:= #[.int .i64 r.c,.int .i64 r.l,.int .i64 r.q,.int .i64 r.kind,.string (ba r.path),.string (ba r.to),.bool r.dir,.bool r.wr,.bool r.cl,.int .i64 r.h,.int .i64 r.nx,.int .i64 r.sw,rv,dv]
def bD:aF:=⟨0,0,0,0,0,false, [], []⟩
def kW (n:Nat) (w:World) (v:Value) (r:aF):Prop:=∃ev mv,v=.agg (r.cells ev mv)∧eQ w w.heap.size ev r.es∧fP w w.heap.size mv r.map∧Low n ev∧Low n mv
def aX (w:World) (o:Nat→Nat) (K:Nat) (L:aT) (n:Nat) (x:Int×aF×St) (e:Ending) (w':World):Prop:=
 (∃o',Step (aH K) w o w' o'∧aK w' o' K L x.2.2 n)∧if x.1=0 then ∃v,e=.returned v∧kW w.heap.size w' v x.2.1 else e=.panicked (iW x.1)
end Go.Proofs.YtlcojhddnpmgmaaGreat
namespace Go.Proofs.YtlcojhddnpmgmaaGreat
open Go Go.RowKit
section
variable {P:Program} {ops:Array Oper} {Q:Exit→Act→World→Prop} {md:Region.Mode} {S:Act→World→Prop}
variable {L2:List Nat} {k j:Nat} {o:Oper} {rest:List Oper} {a:Act} {v:Value}
theorem wY (hk:(k::L2).contains j=true) (h:jZ P md ops Q S k L2 (j+1) rest a):jZ P md ops Q S k L2 j (o::rest) a:=by
 unfold jZ;rw [if_pos hk];exact h
theorem xC (hk:(k::L2).contains j=false) (hSp:∀(a:Act) v w,S (a.put o.dst v) w↔S a w) (hw:Region.wanted o (yielded ops a.tmps)=true) (h:∀w,(execOp a.eval o).run P w=.ok (.value v) w) (r:jZ P md ops Q S k L2 (j+1) rest (a.put o.dst v)):jZ P md ops Q S k L2 j (o::rest) a:=by
 unfold jZ;rw [if_neg (by simp only [hk];decide)];exact ⟨v,hSp,.inl (.inl ⟨hw,h⟩),r⟩
theorem vX (hk:(k::L2).contains j=false) (hSp:∀(a:Act) v w,S (a.put o.dst v) w↔S a w) (hc:rch md ops L2 j=true) (hw:Region.wanted o (yielded ops a.tmps)=true) (h:∀w,(∃b,S b w)→(execOp a.eval o).run P w=.ok (.value v) w) (r:jZ P md ops Q S k L2 (j+1) rest (a.put o.dst v)):jZ P md ops Q S k L2 j (o::rest) a:=by
 unfold jZ;rw [if_neg (by simp only [hk];decide)];exact ⟨v,hSp,.inr ⟨hc,.inl ⟨hw,fun w hS=> .inl ⟨w,h w hS,fun _ h=>h⟩⟩⟩,r⟩
theorem Na (f:Nat) (args:Array Value) (hk:(k::L2).contains j=false) (hSp:∀(a:Act) v w,S (a.put o.dst v) w↔S a w) (hc:rch md ops L2 j=true) (hw:Region.wanted o (yielded ops a.tmps)=true) (h:∀w,(execOp a.eval o).run P w=.ok (.enter f args) w)
  (hcall:∀w,(∃b,S b w)→Calls P f args w (fun e w'=>e=.returned v∧∀b,S b w→S b w')) (r:jZ P md ops Q S k L2 (j+1) rest (a.put o.dst v)):jZ P md ops Q S k L2 j (o::rest) a:=by
 unfold jZ;rw [if_neg (by simp only [hk];decide)];exact ⟨v,hSp,.inr ⟨hc,.inl ⟨hw,fun w hS=> .inr ⟨f,args,w,h w,hcall w hS⟩⟩⟩,r⟩
theorem Gz (hi:ops[k]? =some o) (hw:Region.wanted o (yielded ops a.tmps)=true)
  (h:∀w,S a w→∃v w',(execOp a.eval o).run P w=.ok (.value v) w'∧S (a.put o.dst v) w'∧∀w'',S (a.put o.dst v) w''→wpList P ops Q (L2.filterMap fun i=>ops[i]?) (a.put o.dst v) w''):zV P ops Q S k L2 a:=by
 intro w hS;obtain ⟨v,w',hr,h1,h2⟩:=h w hS;unfold wpOp;simp only [hi,hw,if_true];refine .inl ?_;simp only [Oper.wp,hr,Oper.upon];exact ⟨h1,h2⟩
end
