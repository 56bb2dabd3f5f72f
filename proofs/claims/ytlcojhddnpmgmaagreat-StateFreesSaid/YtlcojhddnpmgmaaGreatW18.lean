/- Part of the proof; the last text says what is proved. -/
import Derived.Test.YtlcojhddnpmgmaaGreatW10
import Derived.Test.YtlcojhddnpmgmaaGreatW17
set_option linter.unusedSimpArgs false
set_option linter.unusedVariables false
set_option maxRecDepth 100000
set_option maxHeartbeats 6400000
namespace Go.Proofs.YtlcojhddnpmgmaaGreat
open Go.RowKit
theorem cb_neg:∀a b:List UInt8,Lib.compareBytes b a= - Lib.compareBytes a b
 | [], []=>rfl
 | [],_::_=>rfl
 | _::_, []=>rfl
 | a::xs,b::ys=>by
  simp only [Lib.compareBytes];have ih:=cb_neg xs ys;by_cases h1:a<b
  ·have h2:¬b<a:=by rw [UInt8.lt_iff_toNat_lt] at*;omega
   simp [h1,h2]
  ·by_cases h2:b<a
   ·simp [h1,h2]
   ·simp [h1,h2,ih]
theorem cb_zero:∀a b:List UInt8,Lib.compareBytes a b=0→a=b
 | [], [],_=>rfl
 | [],_::_,h=>by simp [Lib.compareBytes] at h
 | _::_, [],h=>by simp [Lib.compareBytes] at h
 | a::xs,b::ys,h=>by
  simp only [Lib.compareBytes] at h;by_cases h1:a<b
  ·simp [h1] at h
  ·by_cases h2:b<a
   ·simp [h1,h2] at h
   ·simp only [h1,h2,if_false] at h;have e:a=b:=by
     apply UInt8.toNat_inj.1;rw [UInt8.lt_iff_toNat_lt] at h1 h2;omega
    rw [e,cb_zero xs ys h]
theorem cb_trans:∀a b c:List UInt8,Lib.compareBytes a b<0→Lib.compareBytes b c<0→Lib.compareBytes a c<0
 | [],b, [],h1,h2=>by
  cases b with
  | nil=>exact h1
  | cons x b=>simp [Lib.compareBytes] at h2
 | [],_,_::_,_,_=>by simp [Lib.compareBytes]
 | _::_, [],_,h1,_=>by simp [Lib.compareBytes] at h1
 | _::_,_::_, [],_,h2=>by simp [Lib.compareBytes] at h2
 | a::xs,b::ys,c::zs,h1,h2=>by
  simp only [Lib.compareBytes] at*;by_cases x1:a<b
  ·by_cases x2:b<c
   ·have:a<c:=by rw [UInt8.lt_iff_toNat_lt] at*;omega
    simp [this]
   ·by_cases x3:c<b
    ·simp [x2,x3] at h2
    ·have:a<c:=by rw [UInt8.lt_iff_toNat_lt] at*;omega
     simp [this]
  ·by_cases y1:b<a
   ·simp [x1,y1] at h1
   ·by_cases x2:b<c
    ·have:a<c:=by rw [UInt8.lt_iff_toNat_lt] at*;omega
     simp [this]
    ·by_cases x3:c<b
     ·simp [x2,x3] at h2
     ·have n1:¬a<c:=by rw [UInt8.lt_iff_toNat_lt] at*;omega
      have n2:¬c<a:=(by rw [UInt8.lt_iff_toNat_lt] at*;omega)
      simp only [n1,n2,x1,y1,x2,x3,if_false] at*;exact cb_trans xs ys zs h1 h2
def nameC (x y:ByteArray):Int:=Lib.compareBytes x.data.toList y.data.toList
theorem nameC_lt (x y:ByteArray):ltOf nameC x y=decide (nameC x y<0):=rfl
theorem nameC_swo:Go.Sort.SWO (ltOf nameC) where
 irrefl x:=by
  have:=cb_neg x.data.toList x.data.toList;rw [nameC_lt,decide_eq_false_iff_not];unfold nameC;omega
 trans x y z h1 h2:=by
  rw [nameC_lt,decide_eq_true_eq] at*;exact cb_trans _ _ _ h1 h2
 ntrans x y z h1 h2:=by
  rw [nameC_lt,decide_eq_false_iff_not] at*;intro h3;unfold nameC at*;have n1:=cb_neg x.data.toList y.data.toList;rcases Int.lt_or_gt_of_ne (a:=Lib.compareBytes x.data.toList y.data.toList) (b:=0) (fun e=>by
   rw [cb_zero _ _ e] at h3;exact h2 h3) with h|h
  ·exact h1 h
  ·exact h2 (cb_trans _ _ _ (by omega) h3)
theorem nameC_total (x y:ByteArray) (h1:ltOf nameC x y=false) (h2:ltOf nameC y x=false):x=y:=by
 rw [nameC_lt,decide_eq_false_iff_not] at*;unfold nameC at*;have n1:=cb_neg x.data.toList y.data.toList;have:=cb_zero x.data.toList y.data.toList (by omega);rw [← ba_of x,← ba_of y,this]
def dirNames (T:Tree) (d:Nat):List ByteArray:=(List.range 129).filterMap fun k=>match T k with|some x=>if x.up=d then some (ba x.name) else none|none=>none
def nameLe (x y:ByteArray):Bool:= !(ltOf nameC y x)
def entOf (T:Tree) (d:Nat) (s:ByteArray):Ent:=(s,(((kid T d s.data.toList).getD 0:Nat):Int),isDir T ((kid T d s.data.toList).getD 0))
def entsOf (T:Tree) (d:Nat):List Ent:=((dirNames T d).mergeSort nameLe).map (entOf T d)
theorem mem_dirNames {T:Tree} (ht:TreeOk T) (d:Nat) (s:ByteArray):s∈dirNames T d↔(kidm T d s).isSome=true:=by
 unfold dirNames kidm;rw [List.mem_filterMap];constructor
 ·rintro ⟨k,_,hs⟩;cases hx:T k with
  | none=>rw [hx] at hs;cases hs
  | some x=>
   rw [hx] at hs;dsimp only at hs;split at hs
   ·rename_i hu
    cases hs;rw [ba_list,kid_of ht hx hu rfl];rfl
   ·cases hs
 ·intro h;cases hk:kid T d s.data.toList with
  | none=>rw [hk] at h;cases h
  | some k=>
   obtain ⟨x,hx,hu,hn⟩:=kid_some hk;refine ⟨k,List.mem_range.2 (by have:=ht.lt hx;omega),?_⟩;rw [hx];dsimp only;rw [if_pos hu,hn,ba_of]
theorem filterMap_nodup {α β:Type} (f:α→Option β) (l:List α) (h:l.Nodup) (hi:∀a∈l,∀b∈l,∀y,f a=some y→f b=some y→a=b):(l.filterMap f).Nodup:=by
 induction l with
 | nil=>simp
 | cons a l ih=>
  have h2:=ih (List.nodup_cons.1 h).2 (fun a ha b hb=>hi a (List.mem_cons_of_mem _ ha) b (List.mem_cons_of_mem _ hb));cases hf:f a with
  | none=>rw [List.filterMap_cons_none hf];exact h2
  | some y=>
   rw [List.filterMap_cons_some hf,List.nodup_cons];refine ⟨fun hm=> ?_,h2⟩;obtain ⟨b,hb,hfb⟩:=List.mem_filterMap.1 hm;have:=hi a (List.mem_cons_self ..) b (List.mem_cons_of_mem _ hb) y hf hfb;subst this;exact (List.nodup_cons.1 h).1 hb
theorem nodup_dirNames {T:Tree} (ht:TreeOk T) (d:Nat):(dirNames T d).Nodup:=by
 refine filterMap_nodup _ _ List.nodup_range (fun j _ k _ y hj hk=> ?_);cases hx:T j with
 | none=>rw [hx] at hj;cases hj
 | some x=>
  cases hz:T k with
  | none=>rw [hz] at hk;cases hk
  | some z=>
   rw [hx] at hj;rw [hz] at hk;dsimp only at hj hk;split at hj
   ·split at hk
    ·cases hj
     rename_i h1 h2
     have e:z.name=x.name:=ba_inj (Option.some.inj hk);exact ht.one j k x z hx hz (by rw [h1,h2]) e.symm
    ·cases hk
   ·cases hj
theorem length_dirNames (T:Tree) (d:Nat):(dirNames T d).length=kidN T d:=by
 unfold dirNames kidN;induction List.range 129 with
 | nil=>rfl
 | cons k l ih=>
  cases hx:T k with
  | none=>rw [List.filterMap_cons_none (by rw [hx]),List.countP_cons_of_neg (by simp [hx]),ih]
  | some x=>
   by_cases hu:x.up=d
   ·rw [List.filterMap_cons_some (b:=ba x.name) (by rw [hx];simp [hu]),List.countP_cons_of_pos (by simp [hx,hu]),List.length_cons,ih]
   ·rw [List.filterMap_cons_none (by rw [hx];simp [hu]),List.countP_cons_of_neg (by simp [hx,hu]),ih]
theorem sort_met {T:Tree} (ht:TreeOk T) (d:Nat) (ss:List ByteArray) (hn:ss.Nodup) (hm:∀s,s∈ss↔(kidm T d s).isSome=true):ss.mergeSort nameLe=(dirNames T d).mergeSort nameLe:=by
 have hp:ss.Perm (dirNames T d):=(List.perm_ext_iff_of_nodup hn (nodup_dirNames ht d)).2 (fun s=>by rw [hm,mem_dirNames ht]);have tr:∀a b c,nameLe a b=true→nameLe b c=true→nameLe a c=true:=fun a b c h1 h2=>by
  unfold nameLe at*;simp only [Bool.not_eq_true'] at*;exact nameC_swo.ntrans _ _ _ h2 h1
 have to:∀a b,(nameLe a b||nameLe b a)=true:=fun a b=>by
  unfold nameLe;cases h1:ltOf nameC b a with
  | false=>simp
  | true=>
   cases h2:ltOf nameC a b with
   | false=>simp
   | true=>
    have:=nameC_swo.trans _ _ _ h1 h2;rw [nameC_swo.irrefl] at this;cases this
 refine List.Perm.eq_of_pairwise (le:=fun x y=>nameLe x y=true) (fun a b _ _ h1 h2=> ?_) (List.pairwise_mergeSort tr to _) (List.pairwise_mergeSort tr to _) (((List.mergeSort_perm _ _).trans hp).trans (List.mergeSort_perm _ _).symm);unfold nameLe at h1 h2;simp only [Bool.not_eq_true'] at h1 h2;exact nameC_total _ _ h2 h1
theorem entCmp_ (x y:Ent) (W:World):Calls Tryz.prog 74 #[.agg #[.string x.1,.int .i64 x.2.1,.bool x.2.2],.agg #[.string y.1,.int .i64 y.2.1,.bool y.2.2]] W fun e w'=>e=.returned (.int .i64 (nameC x.1 y.1))∧∃q os',w'=Go.Sort.grow (W.drewN q) os':=by
 have hcon:=fun W'=>Tryz.strings_Compare x.1 y.1 W';change ∀W',Calls Tryz.prog 75 _ _ _ at hcon;unfold nameC;generalize Lib.compareBytes x.1.data.toList y.1.data.toList=r at hcon ⊢;go_enter Tryz.func74,Tryz.ntmps74;go_wp2_with (go_at_call 75;refine (hcon _).mono ?_;rintro e w' ⟨rfl,rfl⟩)
 go_ret
 exact ⟨rfl,0,_,by rw [Go.Sort.alloc_eq_grow,Go.Sort.alloc_eq_grow,Go.Sort.grow_grow];rfl⟩
end Go.Proofs.YtlcojhddnpmgmaaGreat
namespace Go.Proofs.YtlcojhddnpmgmaaGreat
open Go.RowKit Go.Sort Go.Shelf
def encN (T:Tree) (d:Nat) (s:ByteArray):List Value:=entC (entOf T d s)
theorem flatK_ent (T:Tree) (d:Nat) (ss:List ByteArray):flatK (encN T d) 3 ss.toArray=((ss.map (entOf T d)).flatMap entC).toArray:=by
 have hlen:∀l:List Ent,(l.flatMap entC).length=l.length*3:=fun l=>by
  induction l with
  | nil=>rfl
  | cons a l ih=>rw [List.flatMap_cons,List.length_append,ih,entC_length,List.length_cons];omega
 apply ext_get!
 ·rw [size_flatK];simp [hlen]
 ·intro t ht;rw [size_flatK] at ht;rw [get_flatK _ _ _ _ ht];have h1:t / 3<ss.length:=by simp at ht;omega
  have h2:t % 3<3:=Nat.mod_lt _ (by decide);have h3:(ss.map (entOf T d))[t / 3]? =some (entOf T d ss[t / 3]):=by rw [List.getElem?_map,List.getElem?_eq_getElem h1];rfl
  have h4:(entC (entOf T d ss[t / 3]))[t % 3]? =some ((entC (entOf T d ss[t / 3]))[t % 3]'(by rw [entC_length];exact h2)):=List.getElem?_eq_getElem _;have h5:=ent_get _ (t / 3) (t % 3) _ _ h3 h4;rw [show t / 3*3+t % 3=t by omega] at h5;have e1:ss.toArray[t / 3]! =ss[t / 3]:=by simp [h1]
  rw [e1];unfold encN;rw [show ((List.flatMap entC (ss.map (entOf T d))).toArray)[t]! =((List.flatMap entC (ss.map (entOf T d)))[t]?).getD default by simp,h5];rw [Option.getD_some,List.getElem!_eq_getElem?_getD,h4];rfl
theorem holdsK_own {w:World} {base g cap n:Nat} {T:Tree} {d:Nat} {ss:List ByteArray} {cur:Array Value} (hn:n=ss.length) (hh:w.heap[g]? =some (.cells cur 86 (0,0))) (ht:cur.toList.take (n*3)=(ss.map (entOf T d)).flatMap entC):HoldsK (encN T d) 3 w g 0 ss.toArray:=by
 intro j hj;rw [size_flatK] at hj;have hj':j<n*3:=by simp at hj;omega
 refine ⟨?_,by simp [World.frozen?,hh]⟩;rw [flatK_ent];have h1:(cur.toList.take (n*3))[j]? =((ss.map (entOf T d)).flatMap entC)[j]? :=by rw [ht]
 rw [List.getElem?_take_of_lt hj'] at h1;simp only [World.cell?,hh,Nat.zero_add];simp only [Option.isSome_none,Bool.false_eq_true,if_false];rw [← Array.getElem?_toList,h1];have hlen:((ss.map (entOf T d)).flatMap entC).length=n*3:=by
  rw [← ht,List.length_take];have:n*3≤cur.toList.length:=by
   rcases Nat.lt_or_ge cur.toList.length (n*3) with h|h
   ·exfalso;have h2:∀l:List Ent,(l.flatMap entC).length=l.length*3:=fun l=>by
     induction l with
     | nil=>rfl
     | cons a l ih=>rw [List.flatMap_cons,List.length_append,ih,entC_length,List.length_cons];omega
    have h3:=congrArg List.length ht;rw [List.length_take,h2,List.length_map] at h3;omega
   ·exact h
  omega
 rw [List.getElem?_eq_getElem (by omega)];simp [hlen,hj']
theorem heap_sortedK {w:World} {g n:Nat} {os:Array Obj} {cur:Array Value} {e:TypeId} {fr:Nat×Nat} (F:Array Value) (hb:w.heap[g]? =some (.cells cur e fr)):
  (Go.Sort.grow (Go.Sort.putRow id (Go.Sort.ahead w n) g 0 F) os).heap[g]? =some (.cells (Go.Sort.putCells id 0 F cur) e fr):=by
 have hg:g<w.heap.size:=(Array.getElem?_eq_some_iff.1 hb).1;rw [Go.Sort.heap_grow_old _ _ (by simpa using hg)];simp [Go.Sort.putRow,Go.Sort.mapBlock,Go.Sort.ahead,Array.getElem?_modify,hb,Go.Sort.onCells]
theorem fr_sortedK {w:World} {g n:Nat} {os:Array Obj} (F:Array Value):Fr (· =g) w (Go.Sort.grow (Go.Sort.putRow id (Go.Sort.ahead w n) g 0 F) os):=by
 refine ⟨rfl,rfl,rfl,by simp,fun k hk hne=> ?_⟩;rw [Go.Sort.heap_grow_old _ _ (by simpa using hk)];have:g≠k:=fun e=>hne e.symm;simp [Go.Sort.putRow,Go.Sort.mapBlock,Go.Sort.ahead,Array.getElem?_modify,this]
theorem sortE_ (T:Tree) (d:Nat) (ss:List ByteArray) (base:Nat) (v:Value) (w:World) (h:w.ownsRow base 86 3 v ss.length ((ss.map (entOf T d)).flatMap entC)) (hs:ss.length<1000):
  Calls Tryz.prog 73 #[v,.func (.func 74) #[] #[]] w fun e w'=>e=.returned (.tuple #[])∧Fr (fun k=>base≤k) w w'∧EsB w' w'.heap.size v ((ss.mergeSort nameLe).map (entOf T d)):=by
 rcases h.2 with ⟨rfl,h0⟩|⟨g,cap,cur,rfl,hb,hh,h1,h2,h3,h4⟩
 ·have hs0:=List.eq_nil_of_length_eq_zero h0;subst hs0;have hcon:=AnyF.slices_SortFunc_none (P:=Tryz.prog) (ρ:=Tryz.sortE_ren) {Tryz.sortE with} none 0 (.func (.func 74) #[] #[]) w;change Calls Tryz.prog 73 _ _ _ at hcon;refine hcon.mono ?_;rintro e w' ⟨rfl,rfl⟩;exact ⟨rfl,Fr.refl _,.inl ⟨rfl,by simp⟩⟩
 ·have hH:=holdsK_own (T:=T) (d:=d) (ss:=ss) (base:=base) (cap:=cap) rfl hh h4;have eg:∀args w,(callFunc 74 args).run Tryz.prog w=.ok (.enter 74 args) w:=enters_of Tryz.func74 (by kernel_rfl) rfl;have hcon:=AnyQ.slices_SortFunc_total Tryz.sortE 3 Tryz.isAgg86 Tryz.sizeOf86 (encN T d) (fun _=>rfl) (fun x v hv=>by simp [encN,entC] at hv;rcases hv with rfl|rfl|rfl<;>rfl) nameC nameC_swo 74 #[] g 0 cap ss.toArray w eg
   (fun m os dk _ x y=>entCmp_ (entOf T d x) (entOf T d y) _) hH (lt_of_block hh) (by simp;omega) nameC_total
  change Calls Tryz.prog 73 _ _ _ at hcon;rw [show ss.toArray.size=ss.length by simp,show ss.toArray.toList=ss by simp] at hcon;refine hcon.mono ?_;rintro e w' ⟨rfl,n,os,rfl⟩;have hl:(ss.mergeSort nameLe).length=ss.length:=List.length_mergeSort _;have hfin:HoldsK (encN T d) 3 (sortWorldK (encN T d) 3 w g 0 n (ss.mergeSort nameLe).toArray os) g 0 (ss.mergeSort nameLe).toArray:=by
   unfold sortWorldK;refine holdsK_grow _ _ _ _ _ _ _ ?_ (holdsK_putRowK _ _ _ _ _ _ _ (holdsK_ahead _ _ _ n _ _ _ hH) (by simp [hl]));unfold putRowK;simpa [Go.Sort.ahead] using lt_of_block hh
  refine ⟨rfl,(fr_sortedK _).mono (fun k _ e=>by rw [e];exact hb),.inr ⟨g,0,cap,by rw [List.length_map,hl],by rw [List.length_map,hl];omega,?_,?_,⟨_,_,heap_sortedK _ hh⟩,fun j x hj i u hu=> ?_⟩⟩
  ·exact Nat.lt_of_lt_of_le (lt_of_block hh) (fr_sortedK (w:=w) (g:=g) (n:=n) (os:=os) _).size
  ·exact Nat.lt_of_lt_of_le (lt_of_block hh) (fr_sortedK (w:=w) (g:=g) (n:=n) (os:=os) _).size
  ·have hjl:j<(ss.mergeSort nameLe).length:=by
    have:=(List.getElem?_eq_some_iff.1 hj).1;simpa using this
   have hi3:i<3:=(List.getElem?_eq_some_iff.1 hu).1;have hc:=(hfin.cell (i:=j) (c:=i) (by simpa using hjl) hi3).1;refine hc.trans ?_;rw [List.getElem?_map,List.getElem?_eq_getElem hjl] at hj;simp only [Option.map_some,Option.some.injEq] at hj;have e1:(ss.mergeSort nameLe).toArray[j]! =(ss.mergeSort nameLe)[j]:=(getElem!_pos (ss.mergeSort nameLe).toArray j (by simpa using hjl)).trans rfl;rw [e1];unfold encN;rw [hj];have hu':(entC x)[i]? =some u:=hu;rw [List.getElem!_eq_getElem?_getD,hu'];rfl
end Go.Proofs.YtlcojhddnpmgmaaGreat
namespace Go.Proofs.YtlcojhddnpmgmaaGreat
open Go.RowKit
def listOf (T:Tree) (l:List UInt8):Int×List Ent:=if (lookOf T l).1≠0 then ((lookOf T l).1, []) else if (lookOf T l).2.2=false then (10, []) else (0,entsOf T (lookOf T l).2.1)
def GList (w:World) (x:Int×List Ent) (e:Ending) (w':World):Prop:=∃v,e=.returned (.tuple #[v,.int .i64 x.1])∧Fr No w w'∧EsB w' w'.heap.size v x.2∧Low w.heap.size v
def slLen (v:Value):Nat:=match v with| .slice _ l _=>l|_=>0
theorem glist_ (o:Nat→Nat) (K t:Nat) (T:Tree) (l:List UInt8) (w:World) (hl:l.length≤1000000) (h:TreeAt w o K t T) (ht:TreeOk T) (hf:Fresh w o):
  Calls Tryz.prog 38 #[.pointer (some ⟨t,0,none⟩),.string (ba l)] w (GList w (listOf T l)):=by
 have HH:=lH h;have HT:=lH ht;have HF:=lH hf;have HP:=lH (glook_ o K t T l w hl h ht hf);have hm:listOf T l=if (lookOf T l).1≠0 then ((lookOf T l).1, []) else if (lookOf T l).2.2=false then (10, []) else (0,entsOf T (lookOf T l).2.1):=rfl
 have hlk:=look_ok (l:=l) ht;generalize lookOf T l=P at*;obtain ⟨er,k,is⟩:=P;generalize listOf T l=X at*;have HR:Hid (∀er',X=(er', [])→∀e w',e=.returned (.tuple #[.slice none 0 0,.int .i64 er'])→Fr No w w'→GList w X e w'):=lH (fun er' hx e w' he f=>⟨.slice none 0 0,by rw [he,hx],f,by rw [hx];exact .inl ⟨rfl,rfl⟩,Low.nil _⟩);have HQ:Hid (∀v e w',e=.returned (.tuple #[v,.int .i64 0])→Fr No w w'→EsB w' w'.heap.size v (entsOf T k)→Low w.heap.size v→X=(0,entsOf T k)→GList w X e w'):=lH (fun v e w' he f hb hw hx=>⟨v,by rw [he,hx],f,by rw [hx];exact hb,hw⟩);generalize GList w X=Q at*;clear h hl hf;dsimp only at hm hlk HP;by_cases he:er=0
 ·subst he;obtain ⟨x,hx,hxd⟩:=hlk rfl;rw [if_neg (by simp)] at hm;cases is with
  | false=>
   have HV:Hid (X=(10, [])):=lH hm;clear hm hlk hx hxd ht;go_enter Tryz.func38,Tryz.ntmps38;go_wp2_with fail;refine HP.out.mono ?_;rintro e w2 ⟨rfl,f2⟩;go_wp2_with fail;exact HR.out 10 HV.out _ _ rfl f2
  | true=>
   rw [if_neg (by simp)] at hm;have HV:=lH hm;have HX:=lH hx;have HXD:=lH hxd;have hk2:=ht.lt hx;have hkn:kidN T k≤129:=Nat.le_trans List.countP_le_length (by rw [List.length_range];omega);have HDN:Hid ((dirNames T k).length=kidN T k):=lH (length_dirNames T k);obtain ⟨i0,hi,hz0,hz1,hz2⟩:=info_parts Tryz.info86;have HI:=lH hi;have HZ0:=lH hz0;have HZ1:=lH hz1;have HZ2:=lH hz2;clear hi hz0 hz1 hz2 hm hlk hx hxd ht;go_enter Tryz.func38,Tryz.ntmps38;go_wp2_with fail;refine HP.out.mono ?_;rintro e w2 ⟨rfl,f2⟩;obtain ⟨mb,tp,h2,h3,h4,h5,h6⟩:=HH.out.no HT.out HF.out f2;obtain ⟨ib,i1,i2,i3,i4⟩:=TreeAt.dir (h6 k x HX.out) HXD.out;have c0:w2.cell? ⟨t,0,none⟩=some (.map (some mb)):=(by rw [cell_at h3];rfl)
   have c3:w2.cell? ⟨tp k,3,none⟩=some (.map (some ib)):=(by rw [cell_at i2];rfl)
   have l1:=h5.look (k:Int) (by unfold encI I64;dsimp only;omega) (t:=130) (e:=142) Tryz.underlying130 (z:=.pointer none) (by kernel_rfl) false;rw [show thm T tp (k:Int)=some (tp k) by simp [thm,HX.out]] at l1;have l1':(Instr.lookup 130 (.map (some mb)) (.int .i64 k) false).run Tryz.prog w2=.ok (.pointer (some ⟨tp k,0,none⟩)) w2:=l1;obtain ⟨w3,hr,R3,f3,hs3⟩:=i3.range (t:=139) (e:=3) Tryz.underlying139;have H5:=lH h5;have H6:=lH h6;have H3:=lH h3;have RR3:=lH R3;have F3:=lH f3;have hhlt:=i3.lt;clear l1 h5 h6 h3 i1 i2 i3 i4 h2 h4 R3 f3;go_wp2_with fail;go_loopw [9] (fun v wr=>∃ss:List ByteArray,Hid (∃left cnt,RangeAt encS wr ib w2.heap.size (kidN T k) (kidm T k) left cnt∧∀s:ByteArray,s.size≤maxLen→(left s=true↔(kidm T k s).isSome=true∧s ∉ ss))∧Hid (wr.ownsRow (w2.heap.size+1) 86 3 v ss.length ((ss.map (entOf T k)).flatMap entC))∧Hid ss.Nodup∧Hid (∀s∈ss,(kidm T k s).isSome=true)∧Hid (Fr No w2 wr)∧w2.heap.size+1≤wr.heap.size)
    (fun v _=>kidN T k - slLen v)
   case atStart=>exact ⟨[],lH ⟨_,_,RR3.out,fun s _=>by simp⟩,lH ⟨rfl,.inl ⟨rfl,rfl⟩⟩,lH List.nodup_nil,lH (by simp),F3,by omega⟩
   case round=>
    obtain ⟨ss,HRA,HOWN,HND,HIN,HFR,hsz⟩:=hrel;obtain ⟨a,cc,rfl⟩:=HOWN.out.shape;obtain ⟨left,cnt,hra,hleft⟩:=HRA.out;rcases hra.next 0 with ⟨_,hno,hnx⟩|⟨s,y,w4,cnt',hms,hls,hnx,hra',_,f4,hs4,hen⟩
    ·have hall:∀s,s∈ss↔(kidm T k s).isSome=true:=fun s=>⟨HIN.out s,fun h=>by
      obtain ⟨y,hy⟩:=Option.isSome_iff_exists.1 h;have hg:s.size≤maxLen:=(hra.map.good hy).1;apply Classical.byContradiction;intro hn;have:=(hleft s hg).2 ⟨h,hn⟩;rw [hno s hg] at this;cases this⟩
     have HALL:Hid (ss.mergeSort nameLe=(dirNames T k).mergeSort nameLe):=lH (sort_met HT.out k ss HND.out hall);have hle:ss.length≤kidN T k:=by
      rw [← HDN.out];exact List.Nodup.length_le_of_subset HND.out (fun s hs=>(mem_dirNames HT.out k s).2 (HIN.out s hs))
     clear hall hno hleft hra HRA;go_wp2_with fail;have hf22:=f2;refine (sortE_ T k ss (w2.heap.size+1) _ wr HOWN.out (by omega)).mono ?_;rintro e w6 ⟨rfl,f6,hes⟩;rw [HALL.out] at hes;have hlow:=(Low.row HOWN.out).le (Nat.le_trans f2.size (Nat.le_succ _));have hfin:Fr No w w6:=f2.trans (((HFR.out.of_no (S:=fun k=>w2.heap.size≤k)).trans f6 (fun j _ h=>by omega)).no (fun j hj h=>by omega)) (fun _ _ e=>e);go_wp2_with fail;exact HQ.out _ _ _ rfl hfin hes hlow HV.out
    ·obtain ⟨hkk,hnin⟩:=(hleft s (hra.map.good hms).1).1 hls;have hsz0:s.size≤maxLen:=(hra.map.good hms).1;obtain ⟨kk,hkid,rfl⟩:∃kk,kid T k s.data.toList=some kk∧y=(kk:Int):=by
      cases h1:kid T k s.data.toList with
      | none=>simp [kidm,h1] at hms
      | some kk=>
       simp [kidm,h1] at hms;exact ⟨kk,rfl,hms.symm⟩
     obtain ⟨z,hz,_⟩:=kid_some hkid;have hkk2:=HT.out.lt hz;have F4:Fr No w2 w4:=HFR.out.trans f4 (fun j hj e=>by omega);have O4:w4.ownsRow (w2.heap.size+1) 86 3 (.slice a ss.length cc) ss.length ((ss.map (entOf T k)).flatMap entC):=own86_fr HOWN.out f4 (fun j e h=>by omega);have d0:w4.cell? ⟨t,0,none⟩=some (.map (some mb)):=(by rw [cell_at (F4.block_of H3.out id)];rfl)
     have dd:w4.cell? ⟨tp kk,2,none⟩=some (.bool (isDir T kk)):=by
      have h7:=(H6.out kk z hz).2;have h8:isDir T kk=z.dir:=(by simp [isDir,hz])
      rw [h8];obtain ⟨up,name,dir⟩:=z;cases dir with
      | false=>rw [cell_at (F4.block_of h7 id)];rfl
      | true=>
       obtain ⟨jb,_,h9,_⟩:=h7;rw [cell_at (F4.block_of h9 id)];rfl
     have l2:=(H5.out.fr F4 id).look (kk:Int) (by unfold encI I64;dsimp only;omega) (t:=130) (e:=142) Tryz.underlying130 (z:=.pointer none) (by kernel_rfl) false;rw [show thm T tp (kk:Int)=some (tp kk) by simp [thm,hz]] at l2;have l2':(Instr.lookup 130 (.map (some mb)) (.int .i64 kk) false).run Tryz.prog w4=.ok (.pointer (some ⟨tp kk,0,none⟩)) w4:=l2;have hnx':(Instr.next (.pointer (some ⟨w2.heap.size,0,none⟩)) false 0).run Tryz.prog wr=.ok (.tuple #[.bool true,.string s,.int .i64 kk]) w4:=hnx;have hen':(Instr.entry (.pointer (some ⟨w2.heap.size,0,none⟩))).run Tryz.prog w4=.ok (.tuple #[.string s,.int .i64 kk]) w4:=hen;have hee:Hid (entOf T k s=(s,(kk:Int),isDir T kk)):=lH (by unfold entOf;rw [hkid];rfl);have hlt:ss.length<kidN T k:=by
      have h9:(s::ss).length≤(dirNames T k).length:=List.Nodup.length_le_of_subset (List.nodup_cons.2 ⟨hnin,HND.out⟩) (fun z hz=>by
       rcases List.mem_cons.1 hz with rfl|hz
       ·exact (mem_dirNames HT.out k _).2 hkk
       ·exact (mem_dirNames HT.out k _).2 (HIN.out z hz))
      rw [HDN.out,List.length_cons] at h9;omega
     have HRA2:Hid (∃left cnt,RangeAt encS w4 ib w2.heap.size (kidN T k) (kidm T k) left cnt∧∀z:ByteArray,z.size≤maxLen→(left z=true↔(kidm T k z).isSome=true∧z ∉ ss++ [s])):=lH ⟨_,_,hra',fun z hzz=>by
      have:=hleft z hzz;simp only [Bool.and_eq_true,decide_eq_true_eq,this,List.mem_append,List.mem_singleton,not_or,and_assoc]⟩
     have HND2:Hid (ss++ [s]).Nodup:=lH (by
      rw [List.nodup_append];exact ⟨HND.out,by simp,fun a ha b hb=>by
       rw [List.mem_singleton] at hb;subst hb;rintro rfl;exact hnin ha⟩)
     have HIN2:Hid (∀z∈ss++ [s],(kidm T k z).isSome=true):=lH (fun z hz=>by
      rcases List.mem_append.1 hz with h|h
      ·exact HIN.out z h
      ·rw [List.mem_singleton] at h;subst h;exact hkk)
     have HS4:=lH hs4;have HO4:=lH O4;have hsz4:w2.heap.size+1≤w4.heap.size:=(by omega)
     have HF4:=lH F4;clear hs4 hsz l2 hnx hen hra hra' hleft hls hms hkk hnin hkid hz HRA HOWN HND HIN HFR O4 F4 f4;generalize isDir T kk=di at*;go_wp2_with (at_builtin;(refine wpList_append_lies _ (by rfl) _ _ 26 (by rfl) (w2.heap.size+1) 86 i0 _ 3 32 Tryz.underlying26 HI.out HZ0.out HZ1.out HZ2.out rfl (by decide) (.slice a ss.length cc) ss.length ((ss.map (entOf T k)).flatMap entC) (by rfl) (HO4.out.alloc _) ⟨w4.heap.size,0,none⟩ 1 1 [.string s,.int .i64 kk,.bool di] (by rfl) (by rfl) ?d1 (by simp [Value.oneCell']) (by decide) (by unfold maxLen;omega) (by omega) ?d5 (w4.heap.size+1) ?d6 ?_))
     case d1=>exact World.news_of_block (cs:= #[.string s,.int .i64 kk,.bool di]) (t:=86) (fr:=(0,0)) (heap_alloc_new w4 _)
     case d5=>rw [heap_size_alloc];omega
     case d6=>simp
     intro gg cap wD hownD hgrow hat hgl;have hnl:Fr No w2 wD:=by
      refine (HF4.out.alloc _).grown hgrow (fun j hj=> .inr ?_);have:=own86_base HO4.out j hj;omega
     have hra9:Hid (∃left cnt,RangeAt encS wD ib w2.heap.size (kidN T k) (kidm T k) left cnt∧∀z:ByteArray,z.size≤maxLen→(left z=true↔(kidm T k z).isSome=true∧z ∉ ss++ [s])):=lH (by
      obtain ⟨lf,ct,h1,h2⟩:=HRA2.out;have fD:Fr (fun j=>w2.heap.size+1≤j) w4 wD:=((Fr.refl w4).alloc _).grown hgrow (fun j hj=> .inl (own86_base HO4.out j hj));exact ⟨lf,ct,h1.fr fD (by omega) (by omega),h2⟩)
     have hszD:w2.heap.size+1≤wD.heap.size:=(by have:=hgrow.size;rw [heap_size_alloc] at this;omega)
     have HNL:=lH hnl;have HOD:=lH hownD;clear hownD hgrow hat hgl hnl;go_wp2_with fail;go_roundw
     case rel=>
      refine ⟨ss++ [s],hra9,lH ?_,HND2,HIN2,HNL,hszD⟩;have h9:=HOD.out;rw [List.map_append,List.flatMap_append,List.length_append];simp only [List.map_cons,List.map_nil,List.flatMap_cons,List.flatMap_nil,List.append_nil,hee.out];exact h9
     case measure=>simp [slLen];omega
 ·have HV:Hid (X=(er, [])):=lH (by rw [hm,if_pos he]);have q2:(er==0)=false:=by simpa using he
  clear he hm hlk ht;go_enter Tryz.func38,Tryz.ntmps38;go_wp2_with fail;refine HP.out.mono ?_;rintro e w2 ⟨rfl,f2⟩;go_wp2_with fail;exact HR.out er HV.out _ _ rfl f2
def Pred (g:Nat) (lb:Array Value) (p:Tok→Bool) (S:Nat→Prop) (w:World):Prop:=∀W,Fr S w W→∀x,Calls Tryz.prog g (#[tokV x]++lb) W fun e w'=>e=.returned (.bool (p x))∧Fr No W w'
def Found (w:World) (L:List Tok) (p:Tok→Bool) (e:Ending) (w':World):Prop:=
 Fr No w w'∧((e=.returned (.int .i64 (-1))∧∀x∈L,p x=false)∨∃(i:Nat) (x:Tok),e=.returned (.int .i64 i)∧L[i]? =some x∧p x=true∧∀y∈L.take i,p y=false)
theorem idx_ (g:Nat) (lb:Array Value) (eg:∀args w,(callFunc g args).run Tryz.prog w=.ok (.enter g args) w) (p:Tok→Bool) (b cap:Nat) (L:List Tok) (w:World) (h:TokB w b cap L) (hp:Pred g lb p No w) (hbig:cap≤maxLen):
  Calls Tryz.prog 208 #[.slice (some ⟨b,0,none⟩) L.length cap,.func (.func g) #[] lb] w (Found w L p):=by
 have HH:=lH h;have HP:=lH hp;have hlen:L.length≤cap:=h.len;have hml:cap≤9223372036854775807:=hbig;have HQ:Hid (∀e w',Fr No w w'→((e=.returned (.int .i64 (-1))∧∀x∈L,p x=false)∨∃(i:Nat) (x:Tok),e=.returned (.int .i64 i)∧L[i]? =some x∧p x=true∧∀y∈L.take i,p y=false)→Found w L p e w'):=lH (fun e w' f h=>⟨f,h⟩);generalize Found w L p=Q at*;clear h hp hbig;go_enter Tryz.func208,Tryz.ntmps208;go_wp2_with fail;go_loopw [8] (fun i wr=>∃j:Nat,i=.int .i64 j∧j≤L.length∧Hid (∀y∈L.take j,p y=false)∧Hid (Fr No w wr)) (fun i _=>L.length - (intOf i).toNat)
 case atStart=>exact ⟨0,rfl,Nat.zero_le _,lH (by simp),lH (Fr.refl _)⟩
 case round=>
  obtain ⟨j,rfl,hj,HA,HF⟩:=hrel;by_cases hlt:j<L.length
  ·have q1:(j:Int)<(L.length:Int):=by omega
   have q2:(0:Int)≤(j:Int):=(by omega)
   have q3:(j:Int)<(cap:Int):=(by omega)
   have HR:=(HH.out.fr HF.out id).row j L[j] (List.getElem?_eq_getElem hlt);have HX:Hid (L[j]? =some L[j]):=lH (List.getElem?_eq_getElem hlt);have HC:=lH (HP.out wr HF.out L[j]);have HTK:Hid (L.take (j+1)=L.take j++ [L[j]]):=lH (by rw [List.take_add_one,List.getElem?_eq_getElem hlt];rfl);generalize L[j]=x at*;have HRR:=lH HR;clear HR;cases hq:p x with
   | true=>
    rw [hq] at HC;have HPX:=lH hq;clear hq;go_wp2_with (first|(refine wpList_load_mid (by rfl) 53 _ (by rfl) b (j*4) (by rfl) (tokC x) _ HRR.out Tryz.underlying53 rfl Tryz.size53 ?_)|(go_at_fn g;refine HC.out.mono ?_;rintro e w' ⟨rfl,f'⟩));refine HQ.out _ _ (HF.out.trans f' (fun _ _ e=>e)) (.inr ⟨j,x,rfl,HX.out,HPX.out,HA.out⟩)
   | false=>
    rw [hq] at HC;have HPX:=lH hq;clear hq;go_wp2_with (first|(refine wpList_load_mid (by rfl) 53 _ (by rfl) b (j*4) (by rfl) (tokC x) _ HRR.out Tryz.underlying53 rfl Tryz.size53 ?_)|(go_at_fn g;refine HC.out.mono ?_;rintro e w' ⟨rfl,f'⟩));go_roundw
    case rel=>
     refine ⟨j+1,by go_num,hlt,lH (fun y hy=> ?_),lH (HF.out.trans f' (fun _ _ e=>e))⟩;rw [HTK.out] at hy;rcases List.mem_append.1 hy with h|h
     ·exact HA.out y h
     ·rw [List.mem_singleton] at h;subst h;exact HPX.out
    case measure=>simp [intOf];omega
  ·obtain rfl:j=L.length:=by omega
   have q1:¬(L.length:Int)<(L.length:Int):=(by omega)
   go_wp2_with fail;exact HQ.out _ _ HF.out (.inl ⟨rfl,fun x hx=>HA.out x (by rw [List.take_length];exact hx)⟩)
theorem idx_nil (fv:Value) (w:World):Calls Tryz.prog 208 #[.slice none 0 0,fv] w fun e w'=>e=.returned (.int .i64 (-1))∧w'=w:=by
 go_enter Tryz.func208,Tryz.ntmps208;go_wp2_with fail;refine wp_loop_rounds 1 ?_;rw [rounds_succ];go_wp2_with fail
 go_ret
 exact ⟨rfl,rfl⟩
theorem any_ (g:Nat) (lb:Array Value) (eg:∀args w,(callFunc g args).run Tryz.prog w=.ok (.enter g args) w) (p:Tok→Bool) (v:Value) (L:List Tok) (w:World) (h:TokV w v L) (hp:Pred g lb p No w):
  Calls Tryz.prog 196 #[v,.func (.func g) #[] lb] w fun e w'=>e=.returned (.bool (L.any p))∧Fr No w w':=by
 rcases h with ⟨rfl,rfl⟩|⟨b,cap,rfl,hm,hb⟩
 ·go_enter Tryz.func196,Tryz.ntmps196;go_wp2_with (go_at_call 208;refine (idx_nil _ _).mono ?_;rintro e w' ⟨rfl,rfl⟩)
  go_ret
  exact ⟨rfl,Fr.refl _⟩
 ·have HI:=lH (idx_ g lb eg p b cap L w hb hp hm);clear hb hp hm;generalize hr:L.any p=r;have HR:=lH hr;clear hr;go_enter Tryz.func196,Tryz.ntmps196;go_wp2_with fail;refine HI.out.mono ?_;rintro e w' ⟨f1,⟨rfl,h⟩|⟨i,x,rfl,h1,h2,_⟩⟩
  ·have hv:Hid (r=false):=lH (by rw [← HR.out];simpa using h);clear h;go_wp2_with fail
   go_ret
   exact ⟨by rw [hv.out];rfl,f1⟩
  ·have hv:Hid (r=true):=lH (by rw [← HR.out];rw [List.any_eq_true];exact ⟨x,List.mem_of_getElem? h1,h2⟩);have q:(0:Int)≤(i:Int):=(by omega)
   clear h1 h2;go_wp2_with fail
   go_ret
   exact ⟨by rw [hv.out];rfl,f1⟩
def TokensAt (w:World) (o:Nat→Nat) (K k:Nat) (L:List Tok):Prop:=
 o k=K+5∧∃v,w.heap[k]? =some (.cells #[.bool true,v] 155 (0,0))∧((v=.slice none 0 0∧L= [])∨∃b cap,v=.slice (some ⟨b,0,none⟩) L.length cap∧cap≤maxLen∧o b=K+9∧TokB w b cap L)
theorem TokensAt.step {C:Nat→Prop} {w w':World} {o o':Nat→Nat} {K k:Nat} {L:List Tok} (h:TokensAt w o K k L) (s:Step C w o w' o') (h5:¬C (K+5)) (h9:¬C (K+9)):TokensAt w' o' K k L:=by
 obtain ⟨h1,v,h2,h3⟩:=h;refine ⟨(s.own h2).trans h1,v,s.block h2 (by rw [h1];exact h5),?_⟩;rcases h3 with h3|⟨b,cap,e,hm,hb,hr⟩
 ·exact .inl h3
 ·exact .inr ⟨b,cap,e,hm,(s.old b hr.lt).trans hb,hr.fr s.fr (by rw [hb];exact h9)⟩
theorem TokensAt.no {w w':World} {o:Nat→Nat} {K k:Nat} {L:List Tok} (h:TokensAt w o K k L) (hf:Fresh w o) (f:Fr No w w'):TokensAt w' o K k L:=h.step (Step.no (C:=fun _=>False) hf f) id id
theorem TokensAt.tokV {w:World} {o:Nat→Nat} {K k:Nat} {L:List Tok} (h:TokensAt w o K k L):∃v,w.heap[k]? =some (.cells #[.bool true,v] 155 (0,0))∧TokV w v L:=by
 obtain ⟨h1,v,h2,h3⟩:=h;refine ⟨v,h2,?_⟩;rcases h3 with h3|⟨b,cap,e,hm,hb,hr⟩
 ·exact .inl h3
 ·exact .inr ⟨b,cap,e,hm,hr⟩
theorem TokV.fr {w w':World} {v:Value} {L:List Tok} (h:TokV w v L) (f:Fr No w w'):TokV w' v L:=by
 rcases h with h|⟨b,cap,e,hm,hr⟩
 ·exact .inl h
 ·exact .inr ⟨b,cap,e,hm,hr.fr f id⟩
theorem rows_ (k:Nat) (v:Value) (w:World) (h:w.heap[k]? =some (.cells #[.bool true,v] 155 (0,0))):Calls Tryz.prog 115 #[.pointer (some ⟨k,0,none⟩)] w fun e w'=>e=.returned v∧w'=w:=by
 have c1:w.cell? ⟨k,1,none⟩=some v:=by rw [cell_at h];rfl
 clear h;go_enter Tryz.func115,Tryz.ntmps115
 go_wp2
 go_ret
 exact ⟨rfl,rfl⟩
theorem results138_ (tmps:Array Value) (w:World) (g:Nat) (cs:Array Value) (fr:Nat×Nat) (v3:Value) (hp:tmps.getD 6 undef=.pointer (some ⟨g,0,none⟩)) (h3:tmps.getD 7 undef=v3)
  (hg:w.heap[g]? =some (.cells cs 53 fr)) (hc:cs.size=4):(results Tryz.f138 tmps).run Tryz.prog w=.ok (.tuple #[.agg cs,v3]) w:=by
 have hl:=run_loadVar_row (P:=Tryz.prog) w g 53 53 cs fr _ hg Tryz.underlying53 rfl (by rw [Tryz.size53,hc]);have h2':tmps[6]?.getD undef=.pointer (some ⟨g,0,none⟩):=by simpa using hp
 have h3':tmps[7]?.getD undef=v3:=by simpa using h3
 simp [results,Tryz.results138,asAddr,h2',h3',hl]
def ofT (L:List Tok) (c h:Int):Option Tok:=L.find? fun x=>x.c==c&&x.h==h
def noTok:Tok:=⟨0,0,0,false⟩
def OfPost (w:World) (x:Option Tok) (e:Ending) (w':World):Prop:=e=.returned (.tuple #[tokV (x.getD noTok),.bool x.isSome])∧Fr No w w'
theorem find_at {α:Type} {p:α→Bool} {L:List α} {j:Nat} {x:α} (hj:L[j]? =some x) (hx:p x=true) (hb:∀y∈L.take j,p y=false):L.find? p=some x:=by
 obtain ⟨hlt,rfl⟩:=List.getElem?_eq_some_iff.1 hj;have h0:L.find? p=(L.take j++L.drop j).find? p:=by rw [List.take_append_drop]
 rw [h0,List.find?_append,List.find?_eq_none.2 (fun y hy=>by rw [hb y hy];simp),List.drop_eq_getElem_cons hlt,List.find?_cons_of_pos hx];rfl
theorem take_none {α:Type} {p:α→Bool} {L:List α} {j:Nat} {x:α} (hj:L[j]? =some x) (hx:p x=false) (hb:∀y∈L.take j,p y=false):∀y∈L.take (j+1),p y=false:=fun y hy=>by
 rw [List.take_add_one,hj] at hy;rcases List.mem_append.1 hy with h|h
 ·exact hb y h
 ·simp at h;subst h;exact hx
theorem tof_ (k:Nat) (v:Value) (L:List Tok) (c h:Int) (w:World) (hk:w.heap[k]? =some (.cells #[.bool true,v] 155 (0,0))) (hv:TokV w v L):
  Calls Tryz.prog 138 #[.pointer (some ⟨k,0,none⟩),.int .i64 c,.int .i64 h] w (OfPost w (ofT L c h)):=by
 have HQ:Hid (∀x e w',L.find? (fun x=>x.c==c&&x.h==h)=x→e=.returned (.tuple #[tokV (x.getD noTok),.bool x.isSome])→Fr No w w'→OfPost w (ofT L c h) e w'):=lH (fun x e w' hx he f=>by subst hx;exact ⟨he,f⟩);generalize OfPost w (ofT L c h)=Q at*;have f0:Fr No w (w.alloc (.cells #[.int .i64 0,.int .i64 0,.int .i64 0,.bool false] 53)):=(Fr.refl w).alloc _;have k0:=new_at w (.cells #[.int .i64 0,.int .i64 0,.int .i64 0,.bool false] 53);have HK:=lH (f0.block_of hk id);have K0:=lH k0;have F0:=lH f0;clear hk f0 k0;rcases hv with ⟨rfl,rfl⟩|⟨b,cap,rfl,hm,hb⟩
 ·go_enter Tryz.func138,Tryz.ntmps138;go_wp2_with fail;refine (rows_ k _ _ HK.out).mono ?_;rintro e w1 ⟨rfl,rfl⟩;go_wp2_with fail;refine wp_loop_rounds 1 ?_;rw [rounds_succ];go_wp2_with fail;have hk1:=K0.out;exact bodyPost_ret (results138_ _ _ w.heap.size _ (0,0) (.bool false) rfl rfl hk1 rfl) rfl (HQ.out none _ _ rfl rfl F0.out)
 ·have hml:cap≤9223372036854775807:=hm;have hlen:L.length≤cap:=hb.len;have HB:=lH (hb.fr F0.out id);clear hb hm;go_enter Tryz.func138,Tryz.ntmps138;go_wp2_with fail;refine (rows_ k _ _ HK.out).mono ?_;rintro e w1 ⟨rfl,rfl⟩;go_wp2_with fail;generalize hw0:w.alloc (.cells #[.int .i64 0,.int .i64 0,.int .i64 0,.bool false] 53)=w0 at*;clear hw0;go_loopw [13] (fun i wr=>∃j:Nat,i=.int .i64 j∧j≤L.length∧Hid (∀y∈L.take j,(y.c==c&&y.h==h)=false)∧Hid (Fr No w0 wr)) (fun i _=>L.length - (intOf i).toNat)
  case atStart=>exact ⟨0,rfl,Nat.zero_le _,lH (by simp),lH (Fr.refl _)⟩
  case round=>
   obtain ⟨j,rfl,hj,HA,HF⟩:=hrel;by_cases hlt:j<L.length
   ·have q1:(j:Int)<(L.length:Int):=by omega
    have q2:(0:Int)≤(j:Int):=(by omega)
    have q3:(j:Int)<(cap:Int):=(by omega)
    have HR:=lH ((HB.out.fr HF.out id).row j L[j] (List.getElem?_eq_getElem hlt));have HX:Hid (L[j]? =some L[j]):=lH (List.getElem?_eq_getElem hlt);have HK1:=lH (HF.out.block_of K0.out id);generalize L[j]=x at*;have fa:Fr No w0 (wr.alloc (.cells #[.int .i64 x.c,.int .i64 x.h,.int .i64 x.i,.bool x.wr] 53)):=HF.out.alloc _;have FA:=lH fa;have HK2:=lH (fa.block_of K0.out id);clear fa;cases hq:(x.c==c) with
    | false=>
     have HN:Hid (∀y∈L.take (j+1),(y.c==c&&y.h==h)=false):=lH (take_none (p:=fun y=>y.c==c&&y.h==h) HX.out (by simp [hq]) HA.out);go_wp2_with (refine wpList_load_mid (by rfl) 53 _ (by rfl) b (j*4) (by rfl) [.int .i64 x.c,.int .i64 x.h,.int .i64 x.i,.bool x.wr] _ HR.out Tryz.underlying53 rfl Tryz.size53 ?_);go_roundw
     case rel=>exact ⟨j+1,by go_num,hlt,HN,FA⟩
     case measure=>simp [intOf];omega
    | true=>
     cases hq2:(x.h==h) with
     | false=>
      have HN:Hid (∀y∈L.take (j+1),(y.c==c&&y.h==h)=false):=lH (take_none (p:=fun y=>y.c==c&&y.h==h) HX.out (by simp [hq,hq2]) HA.out);go_wp2_with (refine wpList_load_mid (by rfl) 53 _ (by rfl) b (j*4) (by rfl) [.int .i64 x.c,.int .i64 x.h,.int .i64 x.i,.bool x.wr] _ HR.out Tryz.underlying53 rfl Tryz.size53 ?_);go_roundw
      case rel=>exact ⟨j+1,by go_num,hlt,HN,FA⟩
      case measure=>simp [intOf];omega
     | true=>
      have HN:Hid (L.find? (fun x=>x.c==c&&x.h==h)=some x):=lH (find_at (p:=fun y=>y.c==c&&y.h==h) HX.out (by simp [hq,hq2]) HA.out);have HOC:=lH (show (#[.int .i64 x.c,.int .i64 x.h,.int .i64 x.i,.bool x.wr]:Array Value).all (·.oneCell')=true from by simp [Value.oneCell']);go_wp2_with (first|(refine wpList_load_mid (by rfl) 53 _ (by rfl) b (j*4) (by rfl) [.int .i64 x.c,.int .i64 x.h,.int .i64 x.i,.bool x.wr] _ HR.out Tryz.underlying53 rfl Tryz.size53 ?_)|(refine wpList_store_row rfl 53 (.tmp 6) _ rfl w.heap.size #[.int .i64 x.c,.int .i64 x.h,.int .i64 x.i,.bool x.wr] rfl rfl 53 _ HK2.out Tryz.size53 rfl HOC.out ?_));have hk3:=setRow_at (cs':= #[.int .i64 x.c,.int .i64 x.h,.int .i64 x.i,.bool x.wr]) HK2.out;have fs:Fr No w ((wr.alloc (.cells #[.int .i64 x.c,.int .i64 x.h,.int .i64 x.i,.bool x.wr] 53)).setRow w.heap.size #[.int .i64 x.c,.int .i64 x.h,.int .i64 x.i,.bool x.wr]):=Fr.setRow (F0.out.trans FA.out (fun _ _ e=>e)) (.inr (Nat.le_refl _)) _;exact bodyPost_ret (results138_ _ _ w.heap.size _ (0,0) (.bool true) rfl rfl hk3 rfl) rfl (HQ.out (some x) _ _ HN.out rfl fs)
   ·obtain rfl:j=L.length:=by omega
    have q1:¬(L.length:Int)<(L.length:Int):=(by omega)
    have HN:Hid (L.find? (fun x=>x.c==c&&x.h==h)=none):=lH (List.find?_eq_none.2 (fun y hy=>by rw [HA.out y (by rw [List.take_length];exact hy)];simp));have HK1:=lH (HF.out.block_of K0.out id);have HOC:=lH (show (#[.int .i64 0,.int .i64 0,.int .i64 0,.bool false]:Array Value).all (·.oneCell')=true from by simp [Value.oneCell']);go_wp2_with (refine wpList_store_row rfl 53 (.tmp 6) _ rfl w.heap.size #[.int .i64 0,.int .i64 0,.int .i64 0,.bool false] rfl rfl 53 _ HK1.out Tryz.size53 rfl HOC.out ?_);have hk3:=setRow_at (cs':= #[.int .i64 0,.int .i64 0,.int .i64 0,.bool false]) HK1.out;have fs:Fr No w (wr.setRow w.heap.size #[.int .i64 0,.int .i64 0,.int .i64 0,.bool false]):=Fr.setRow (F0.out.trans HF.out (fun _ _ e=>e)) (.inr (Nat.le_refl _)) _;exact bodyPost_ret (results138_ _ _ w.heap.size _ (0,0) (.bool false) rfl rfl hk3 rfl) rfl (HQ.out none _ _ HN.out rfl fs)
def Deleted (w:World) (b cap:Nat) (L:List Tok) (e:Ending) (w':World):Prop:=e=.returned (.slice (some ⟨b,0,none⟩) L.length cap)∧TokB w' b cap L∧Fr (· =b) w w'
theorem del_ (g:Nat) (lb:Array Value) (eg:∀args w,(callFunc g args).run Tryz.prog w=.ok (.enter g args) w) (p:Tok→Bool) (b cap:Nat) (L:List Tok) (w:World) (h:TokB w b cap L) (hp:Pred g lb p (· =b) w) (hbig:cap≤maxLen):
  Calls Tryz.prog 160 #[.slice (some ⟨b,0,none⟩) L.length cap,.func (.func g) #[] lb] w (Deleted w b cap (L.filter fun x=> !p x)):=by
 have HI:=lH (idx_ g lb eg p b cap L w h (fun W f=>hp W f.of_no) hbig);have HH:=lH h;have HP:=lH hp;have hlen:L.length≤cap:=h.len;have hml:cap≤9223372036854775807:=hbig;have HQ:Hid (∀M e w',M=L.filter (fun x=> !p x)→e=.returned (.slice (some ⟨b,0,none⟩) M.length cap)→TokB w' b cap M→Fr (· =b) w w'→Deleted w b cap (L.filter fun x=> !p x) e w'):=lH (fun M e w' hM h1 h2 h3=>by subst hM;exact ⟨h1,h2,h3⟩);generalize Deleted w b cap (L.filter fun x=> !p x)=Q at*;clear h hp hbig;go_enter Tryz.func160,Tryz.ntmps160;go_wp2_with fail;refine HI.out.mono ?_;rintro e w1 ⟨f1,⟨rfl,hno⟩|⟨i0,x0,rfl,hx0,hpx0,hbef⟩⟩
 ·have HM:Hid (L=L.filter (fun x=> !p x)):=lH (List.filter_eq_self.2 (fun x hx=>by rw [hno x hx];rfl)).symm;clear hno;go_wp2_with fail;exact HQ.out L _ _ HM.out rfl (HH.out.fr f1 id) f1.of_no
 ·have hi0:i0<L.length:=(List.getElem?_eq_some_iff.1 hx0).1;have HST:Hid (L.take i0=(L.take (i0+1)).filter (fun x=> !p x)):=lH (by
   rw [List.take_add_one,hx0,List.filter_append,List.filter_eq_self.2 (fun x hx=>by rw [hbef x hx];rfl)];simp [hpx0])
  have q0:((i0:Int)== -1)=false:=by rw [beq_eq_false_iff_ne];omega
  clear hx0 hpx0 hbef;go_wp2_with fail;go_loopw [5,6] (fun a c wr=>∃(i j:Nat) (M:List Tok),a=.int .i64 i∧c=.int .i64 j∧i<j∧j≤L.length∧Hid (M.length=L.length∧M.take i=(L.take j).filter (fun x=> !p x)∧M.drop j=L.drop j)∧Hid (TokB wr b cap M)∧Hid (Fr (· =b) w wr)) (fun _ c _=>L.length - (intOf c).toNat)
  case atStart=>exact ⟨i0,i0+1,L,rfl,by go_num,by omega,hi0,lH ⟨rfl,HST.out,rfl⟩,lH (HH.out.fr f1 id),lH f1.of_no⟩
  case round=>
   obtain ⟨i,j,M,rfl,rfl,hij,hjl,HM,HB,HF⟩:=hrel;by_cases hlt:j<L.length
   ·obtain ⟨hml2,hmt,hmd⟩:=HM.out;have q1:(j:Int)<(L.length:Int):=(by omega)
    have q2:(0:Int)≤(j:Int):=(by omega)
    have q3:(j:Int)<(cap:Int):=(by omega)
    have q4:(0:Int)≤(i:Int):=(by omega)
    have q5:(i:Int)<(L.length:Int):=(by omega)
    have q6:(i:Int)<(cap:Int):=(by omega)
    have hMj:M[j]? =some L[j]:=by
     have:=congrArg (fun l=>l[0]?) hmd;simpa [List.getElem?_drop,List.getElem?_eq_getElem hlt] using this
    have HR:=HB.out.row j L[j] hMj;have HTK:Hid (L.take (j+1)=L.take j++ [L[j]]):=lH (by rw [List.take_add_one,List.getElem?_eq_getElem hlt];rfl);have HDR:Hid (M.drop (j+1)=L.drop (j+1)):=lH (by
     have:=congrArg (List.drop 1) hmd;rwa [List.drop_drop,List.drop_drop] at this)
    have HPW:Hid (∀W x,Fr No (wr.alloc (.cells #[.int .i64 L[j].c,.int .i64 L[j].h,.int .i64 L[j].i,.bool L[j].wr] 53)) W→Calls Tryz.prog g (#[tokV x]++lb) W fun e w'=>e=.returned (.bool (p x))∧Fr No W w'):=lH (fun W x f=>HP.out W ((HF.out.alloc _).trans f (fun _ _ e=>e.elim)) x);generalize L[j]=x at*;have HRR:=lH HR;have HC:=lH (HPW.out _ x (Fr.refl _));have fa:Fr No wr (wr.alloc (.cells #[.int .i64 x.c,.int .i64 x.h,.int .i64 x.i,.bool x.wr] 53)):=(Fr.refl wr).alloc _;have hb1:b<wr.heap.size:=HB.out.lt;have HNB:Hid ((wr.alloc (.cells #[.int .i64 x.c,.int .i64 x.h,.int .i64 x.i,.bool x.wr] 53)).heap[wr.heap.size]? =some (.cells #[.int .i64 x.c,.int .i64 x.h,.int .i64 x.i,.bool x.wr] 53 (0,0))):=lH (new_at wr _);have HFA:=lH fa;clear HR hMj hml2 hmt hmd fa;cases hq:p x with
    | true=>
     rw [hq] at HC;have HPX:=lH hq;clear hq;go_wp2_with (first|(refine wpList_load_mid (by rfl) 53 _ (by rfl) b (j*4) (by rfl) [.int .i64 x.c,.int .i64 x.h,.int .i64 x.i,.bool x.wr] _ HRR.out Tryz.underlying53 rfl Tryz.size53 ?_)|(go_at_fn g;refine HC.out.mono ?_;rintro e w' ⟨rfl,f'⟩));go_roundw
     case rel=>
      refine ⟨i,j+1,M,rfl,by go_num,by omega,hlt,lH ⟨HM.out.1,?_,HDR.out⟩,lH ((HB.out.fr HFA.out id).fr f' id),lH ((HF.out.trans HFA.out.of_no (fun _ _ e=>e)).trans f'.of_no (fun _ _ e=>e))⟩;rw [HTK.out,List.filter_append,HM.out.2.1];simp [HPX.out]
     case measure=>simp [intOf];omega
    | false=>
     rw [hq] at HC;have HPX:=lH hq;clear hq;go_wp2_with (refine wpList_load_mid (by rfl) 53 _ (by rfl) b (j*4) (by rfl) [.int .i64 x.c,.int .i64 x.h,.int .i64 x.i,.bool x.wr] _ HRR.out Tryz.underlying53 rfl Tryz.size53 ?_);refine HC.out.mono ?_;rintro e w' ⟨rfl,f'⟩;have kn:=f'.block_of HNB.out id;have p0:w'.cell? ⟨wr.heap.size,0,none⟩=some (.int .i64 x.c):=(by rw [cell_at kn];rfl)
     have p1:w'.cell? ⟨wr.heap.size,1,none⟩=some (.int .i64 x.h):=(by rw [cell_at kn];rfl)
     have p2:w'.cell? ⟨wr.heap.size,2,none⟩=some (.int .i64 x.i):=(by rw [cell_at kn];rfl)
     have p3:w'.cell? ⟨wr.heap.size,3,none⟩=some (.bool x.wr):=(by rw [cell_at kn];rfl)
     clear kn;have HST:Hid (w'.there b (i*4) 4):=lH (((HB.out.fr HFA.out id).fr f' id).there i 4 (by omega));have HOC:Hid ((#[.int .i64 x.c,.int .i64 x.h,.int .i64 x.i,.bool x.wr]:Array Value).all (·.oneCell')=true):=lH (by simp [Value.oneCell']);go_wp2_with (refine wpList_store_mid (by rfl) 53 (.tmp 33) (.tmp 32) (by rfl) b (i*4) #[.int .i64 x.c,.int .i64 x.h,.int .i64 x.i,.bool x.wr] ?a1 ?a2 ?a3 Tryz.size53 ?a4 ?_)
     case a1=>rfl
     case a2=>rfl
     case a3=>exact HST.out
     case a4=>exact HOC.out
     have hmi:i<M.length:=(by have:=HM.out.1;omega)
     have HB2:=lH (RowB.set (c:=tokC) (fun _=>rfl) ((HB.out.fr HFA.out id).fr f' id) i hmi x);have HF2:=lH (((HF.out.trans HFA.out.of_no (fun _ _ e=>e)).trans f'.of_no (fun _ _ e=>e)).trans (setCells_fr b (tokC x) (i*4) w') (fun _ _ e=>e));go_roundw
     case rel=>
      refine ⟨i+1,j+1,M.set i x,by go_num,by go_num,by omega,hlt,lH ⟨by rw [List.length_set];exact HM.out.1,?_,?_⟩,HB2,HF2⟩
      ·rw [HTK.out,List.filter_append,← HM.out.2.1,List.take_add_one,List.getElem?_set_self (by have:=HM.out.1;omega),List.take_set_of_le (Nat.le_refl _)];simp [HPX.out]
      ·rw [List.drop_set_of_lt (by omega)];exact HDR.out
     case measure=>simp [intOf];omega
   ·obtain rfl:j=L.length:=by omega
    obtain ⟨hml2,hmt,hmd⟩:=HM.out;have HTT:Hid (M.take i=L.filter (fun x=> !p x)):=lH (by rw [hmt,List.take_length]);have q1:¬(L.length:Int)<(L.length:Int):=(by omega)
    have q4:(0:Int)≤(i:Int):=(by omega)
    have q5:(i:Int)≤(L.length:Int):=(by omega)
    have q6:(i:Int)≤(cap:Int):=(by omega)
    have q7:(L.length:Int)≤(cap:Int):=(by omega)
    obtain ⟨vs,hvs,hcl⟩:=run_clear4 wr 0 b (i*4) (L.length - i) (cap - i) (HB.out.there i _ (by omega)) (by omega);clear hml2 hmt hmd;go_wp2_with fail;refine HQ.out (L.filter (fun x=> !p x)) _ _ rfl ?_ ?_ (HF.out.trans (setCells_fr b vs (i*4) wr) (fun _ _ e=>e))
    ·have:(L.filter (fun x=> !p x)).length=i:=by rw [← HTT.out,List.length_take];have:=HM.out.1;omega
     rw [this]
    ·obtain ⟨⟨cur,h1,h2⟩,h3,h4⟩:=HB.out;obtain ⟨cur',h5,h6⟩:=setCells_blk b vs (i*4) wr cur 53 (0,0) h1;refine ⟨⟨cur',h5,by omega⟩,Nat.le_trans (List.length_filter_le _ _) hlen,fun j x hj=> ?_⟩;rw [← HTT.out,List.getElem?_take] at hj;split at hj
     ·rename_i hji
      refine World.rangeAt_setCells_apart (h4 j x hj) b _ _ (.inr (.inl ?_));have l1:(tokC x).length=4:=rfl;omega
     ·cases hj
theorem eql53 (a b c a' b' c':Int) (d d':Bool) (w:World):(binOp .eql 53 (.agg #[.int .i64 a,.int .i64 b,.int .i64 c,.bool d]) (.agg #[.int .i64 a',.int .i64 b',.int .i64 c',.bool d'])).run Tryz.prog w=.ok (.bool (a==a'&&b==b'&&c==c'&&d==d')) w:=by
 have u3:=Tryz.underlying3;have a3:=Tryz.isAgg3;have z3:=Tryz.sizeOf3;have u4:=Tryz.underlying4;have a4:=Tryz.isAgg4;have z4:=Tryz.sizeOf4;have hS:Tryz.prog.underlying 53=some (.struct (Tryz.prog.fieldsOf 53)):=by kernel_rfl
 have hp:Tryz.prog.stoodInHeld 53=false:=by kernel_rfl
 rw [run_eql_struct,show (10000:Nat)=9999+1 from rfl,run_equalIn_agg w 9999 53 _ _ hS hp];simp only [Program.fieldsOf,Tryz.underlying53];go_simp;by_cases h1:a=a'<;>by_cases h2:b=b'<;>by_cases h3:c=c'<;>cases d<;>cases d'<;>simp [h1,h2,h3]
theorem pred197 (p:Nat) (i:Int) (S:Nat→Prop) (w:World) (h:w.heap[p]? =some (.cells #[.int .i64 i] 3 (0,0))) (hS:¬S p):Pred 197 #[.pointer (some ⟨p,0,none⟩)] (fun x=>x.i==i) S w:=fun W f x=>by
 have fa:Fr No W (W.alloc (.cells #[.int .i64 x.c,.int .i64 x.h,.int .i64 x.i,.bool x.wr] 53)):=(Fr.refl W).alloc _;have c0:(W.alloc (.cells #[.int .i64 x.c,.int .i64 x.h,.int .i64 x.i,.bool x.wr] 53)).cell? ⟨p,0,none⟩=some (.int .i64 i):=by rw [cell_at (fa.block_of (f.block_of h hS) id)];rfl
 show Calls Tryz.prog 197 #[.agg #[.int .i64 x.c,.int .i64 x.h,.int .i64 x.i,.bool x.wr],.pointer (some ⟨p,0,none⟩)] W fun e w'=>e=.returned (.bool (x.i==i))∧Fr No W w'
 obtain ⟨r,hr⟩:∃r,(x.i==i)=r:=⟨_,rfl⟩
 rw [hr];clear f h hS fa;go_enter Tryz.func197,Tryz.ntmps197
 go_wp2
 go_ret
 exact ⟨rfl,(Fr.refl W).alloc _⟩
theorem pred161 (p:Nat) (i:Int) (S:Nat→Prop) (w:World) (h:w.heap[p]? =some (.cells #[.int .i64 i] 3 (0,0))) (hS:¬S p):Pred 161 #[.pointer (some ⟨p,0,none⟩)] (fun x=>x.c==i) S w:=fun W f x=>by
 have fa:Fr No W (W.alloc (.cells #[.int .i64 x.c,.int .i64 x.h,.int .i64 x.i,.bool x.wr] 53)):=(Fr.refl W).alloc _;have c0:(W.alloc (.cells #[.int .i64 x.c,.int .i64 x.h,.int .i64 x.i,.bool x.wr] 53)).cell? ⟨p,0,none⟩=some (.int .i64 i):=by rw [cell_at (fa.block_of (f.block_of h hS) id)];rfl
 show Calls Tryz.prog 161 #[.agg #[.int .i64 x.c,.int .i64 x.h,.int .i64 x.i,.bool x.wr],.pointer (some ⟨p,0,none⟩)] W fun e w'=>e=.returned (.bool (x.c==i))∧Fr No W w'
 obtain ⟨r,hr⟩:∃r,(x.c==i)=r:=⟨_,rfl⟩
 rw [hr];clear f h hS fa;go_enter Tryz.func161,Tryz.ntmps161
 go_wp2
 go_ret
 exact ⟨rfl,(Fr.refl W).alloc _⟩
theorem pred202 (p:Nat) (y:Tok) (S:Nat→Prop) (w:World) (h:w.heap[p]? =some (.cells #[.int .i64 y.c,.int .i64 y.h,.int .i64 y.i,.bool y.wr] 53 (0,0))) (hS:¬S p):Pred 202 #[.pointer (some ⟨p,0,none⟩)] (fun x=>decide (x=y)) S w:=fun W f x=>by
 have fa:Fr No W (W.alloc (.cells #[.int .i64 x.c,.int .i64 x.h,.int .i64 x.i,.bool x.wr] 53)):=(Fr.refl W).alloc _;have hk:=fa.block_of (f.block_of h hS) id;have c0:(W.alloc (.cells #[.int .i64 x.c,.int .i64 x.h,.int .i64 x.i,.bool x.wr] 53)).cell? ⟨p,0,none⟩=some (.int .i64 y.c):=by rw [cell_at hk];rfl
 have c1:(W.alloc (.cells #[.int .i64 x.c,.int .i64 x.h,.int .i64 x.i,.bool x.wr] 53)).cell? ⟨p,1,none⟩=some (.int .i64 y.h):=by rw [cell_at hk];rfl
 have c2:(W.alloc (.cells #[.int .i64 x.c,.int .i64 x.h,.int .i64 x.i,.bool x.wr] 53)).cell? ⟨p,2,none⟩=some (.int .i64 y.i):=by rw [cell_at hk];rfl
 have c3:(W.alloc (.cells #[.int .i64 x.c,.int .i64 x.h,.int .i64 x.i,.bool x.wr] 53)).cell? ⟨p,3,none⟩=some (.bool y.wr):=by rw [cell_at hk];rfl
 have he:=eql53 x.c x.h x.i y.c y.h y.i x.wr y.wr;have hd:Hid (decide (x=y)=(x.c==y.c&&x.h==y.h&&x.i==y.i&&x.wr==y.wr)):=lH (by
  obtain ⟨a,b,c,d⟩:=x;obtain ⟨a',b',c',d'⟩:=y;simp only [Tok.mk.injEq];by_cases h1:a=a'<;>by_cases h2:b=b'<;>by_cases h3:c=c'<;>by_cases h4:d=d'<;>simp [h1,h2,h3,h4])
 show Calls Tryz.prog 202 #[.agg #[.int .i64 x.c,.int .i64 x.h,.int .i64 x.i,.bool x.wr],.pointer (some ⟨p,0,none⟩)] W fun e w'=>e=.returned (.bool (decide (x=y)))∧Fr No W w'
 rw [hd.out];generalize (x.c==y.c&&x.h==y.h&&x.i==y.i&&x.wr==y.wr)=r at*;clear f h hS hk fa;go_enter Tryz.func202,Tryz.ntmps202
 go_wp2
 go_ret
 exact ⟨rfl,(Fr.refl W).alloc _⟩
theorem eg197 (args:Array Value) (w:World):(callFunc 197 args).run Tryz.prog w=.ok (.enter 197 args) w:=enters_of Tryz.func197 (by kernel_rfl) rfl args w
theorem eg161 (args:Array Value) (w:World):(callFunc 161 args).run Tryz.prog w=.ok (.enter 161 args) w:=enters_of Tryz.func161 (by kernel_rfl) rfl args w
theorem eg202 (args:Array Value) (w:World):(callFunc 202 args).run Tryz.prog w=.ok (.enter 202 args) w:=enters_of Tryz.func202 (by kernel_rfl) rfl args w
theorem busy_ (k:Nat) (v:Value) (L:List Tok) (i:Int) (w:World) (hk:w.heap[k]? =some (.cells #[.bool true,v] 155 (0,0))) (hv:TokV w v L):
  Calls Tryz.prog 133 #[.pointer (some ⟨k,0,none⟩),.int .i64 i] w fun e w'=>e=.returned (.bool (L.any fun x=>x.i==i))∧Fr No w w':=by
 have hmf:∀(fn:Fn) (first cap:Array Value) (w:World),(Instr.makeFunc fn first cap).run Tryz.prog w=.ok (.func fn first cap) w:=fun _ _ _ _=>rfl;have f0:Fr No w (w.alloc (.cells #[.int .i64 i] 3)):=(Fr.refl w).alloc _;have HA:=lH (any_ 197 #[.pointer (some ⟨w.heap.size,0,none⟩)] eg197 (fun x=>x.i==i) v L _ (hv.fr f0) (pred197 w.heap.size i No _ (new_at w _) id));have HR:=lH (rows_ k v _ (f0.block_of hk id));have F0:=lH f0;generalize (L.any fun x=>x.i==i)=r at*;clear hk hv f0;go_enter Tryz.func133,Tryz.ntmps133;go_wp2_with fail;refine HR.out.mono ?_;rintro e w1 ⟨rfl,rfl⟩;go_wp2_with fail;refine HA.out.mono ?_;rintro e w2 ⟨rfl,f2⟩;go_wp2_with fail
 go_ret
 exact ⟨rfl,F0.out.trans f2 (fun _ _ e=>e)⟩
def tokC2 (K c:Nat):Prop:=c=K+5∨c=K+9
def GTok (w:World) (o:Nat→Nat) (K k:Nat) (L:List Tok) (w':World):Prop:=∃o',Step (tokC2 K) w o w' o'∧TokensAt w' o' K k L
theorem TokensAt.put {w w1 w2:World} {o:Nat→Nat} {K k b cap:Nat} {M:List Tok} {v:Value} (h:o k=K+5) (hk:w.heap[k]? =some (.cells #[.bool true,v] 155 (0,0))) (hf:Fresh w o) (hb:o b=K+9) (f:Fr (· =b) w w1) (hr:TokB w1 b cap M) (hm:cap≤maxLen)
  (e:w2=w1.setCell ⟨k,1,none⟩ (.slice (some ⟨b,0,none⟩) M.length cap)):GTok w o K k M w2:=by
 have hne:k≠b:=by intro e;rw [e,hb] at h;omega
 have k1:=f.block_of hk hne;have f2:Fr (· =k) w1 w2:=e▸fr_set w1 k 1 _;have F:Fr (fun j=>j=b∨j=k) w w2:=(f.mono (fun _ _ e=> .inl e)).trans f2 (fun _ _ e=> .inr e);have s:Step (tokC2 K) w o w2 o:=⟨F.mono (fun j _ e=>by
  rcases e with rfl|rfl
  ·exact .inr hb
  ·exact .inl h),fun _ _=>rfl,fun j hj=>hf j (Nat.le_trans F.size hj)⟩
 refine ⟨o,s,h,_,e▸setCell_at k1 1 _,.inr ⟨b,cap,rfl,hm,hb,hr.fr f2 (fun e=>hne e.symm)⟩⟩
def DropPost (w:World) (o:Nat→Nat) (K k:Nat) (M:List Tok) (e:Ending) (w':World):Prop:=(∃n,e=.returned (.int .i64 n))∧GTok w o K k M w'
theorem GTok.later {w w1 w':World} {o:Nat→Nat} {K k:Nat} {M:List Tok} (hf:Fresh w o) (f:Fr No w w1) (h:GTok w1 o K k M w'):GTok w o K k M w':=by
 obtain ⟨o',s,t⟩:=h;exact ⟨o',((Step.no (C:=fun _=>False) hf f).mono (fun _ e=>e.elim)).trans s (fun _ e=>e),t⟩
theorem drop_ (o:Nat→Nat) (K k:Nat) (L:List Tok) (c:Int) (w:World) (h:TokensAt w o K k L) (hf:Fresh w o):
  Calls Tryz.prog 111 #[.pointer (some ⟨k,0,none⟩),.int .i64 c] w (DropPost w o K k (L.filter fun x=> !(x.c==c))):=by
 have hmf:∀(fn:Fn) (first cap:Array Value) (w:World),(Instr.makeFunc fn first cap).run Tryz.prog w=.ok (.func fn first cap) w:=fun _ _ _ _=>rfl;have f0:Fr No w (w.alloc (.cells #[.int .i64 c] 3)):=(Fr.refl w).alloc _;have H0:=lH (h.no hf f0);have FF:Hid (Fresh (w.alloc (.cells #[.int .i64 c] 3)) o):=lH (Step.no (C:=fun _=>False) hf f0).fresh;obtain ⟨h1,v,hk,hv⟩:=h;have HR:=lH (rows_ k v _ (f0.block_of hk id));have hkk:=f0.block_of hk id;have c1:(w.alloc (.cells #[.int .i64 c] 3)).cell? ⟨k,1,none⟩=some v:=by rw [cell_at hkk];rfl
 have K0:=lH (new_at w (.cells #[.int .i64 c] 3));have HQ2:Hid (∀e w',(∃n,e=.returned (.int .i64 n))→GTok (w.alloc (.cells #[.int .i64 c] 3)) o K k (L.filter fun x=> !(x.c==c)) w'→DropPost w o K k (L.filter fun x=> !(x.c==c)) e w'):=lH (fun e w' he g=>⟨he,g.later hf f0⟩);generalize DropPost w o K k (L.filter fun x=> !(x.c==c))=Q at*;have H1:=lH h1;have HKK:=lH hkk;by_cases hL:L= []
 ·subst hL;have HZ:Hid (∀e w',e=.returned (.int .i64 0)→w'=w.alloc (.cells #[.int .i64 c] 3)→Q e w'):=lH (fun e w' he hw=>by subst hw;exact HQ2.out e _ ⟨0,he⟩ ⟨o,Step.refl FF.out,H0.out⟩);have hlen:∃a cap,v=.slice a 0 cap:=by
   rcases hv with ⟨rfl,_⟩|⟨b,cap,rfl,_⟩
   ·exact ⟨_,_,rfl⟩
   ·exact ⟨_,_,rfl⟩
  obtain ⟨a,cap,rfl⟩:=hlen;clear h1 hk hv hkk f0;go_enter Tryz.func111,Tryz.ntmps111;go_wp2_with fail;refine HR.out.mono ?_;rintro e w1 ⟨rfl,rfl⟩;go_wp2_with fail;exact HZ.out _ _ rfl rfl
 ·rcases hv with ⟨_,rfl⟩|⟨b,cap,rfl,hm,hb,hr⟩
  ·exact absurd rfl hL
  ·have hn:0<L.length:=List.length_pos_iff.2 hL;have q1:((L.length:Int)==0)=false:=(by rw [beq_eq_false_iff_ne];omega)
   have hlt:=hr.lt;have HD:=lH (del_ 161 #[.pointer (some ⟨w.heap.size,0,none⟩)] eg161 (fun x=>x.c==c) b cap L _ (hr.fr f0 id) (pred161 w.heap.size c (· =b) _ (new_at w _) (by omega)) hm);have HB:=lH hb;have HM:=lH hm;have hnkb:k≠b:=(by intro e;rw [e,hb] at h1;omega)
   generalize hMM:(L.filter fun x=> !(x.c==c))=M at*;clear h1 hk hkk f0 hr hb hm hL hMM;go_enter Tryz.func111,Tryz.ntmps111;go_wp2_with fail;refine HR.out.mono ?_;rintro e w1 ⟨rfl,rfl⟩;go_wp2_with fail;refine HD.out.mono ?_;rintro e w2 ⟨rfl,hr2,f2⟩;have HR2:=lH hr2;have F2:=lH f2;have hk2:=f2.block_of HKK.out hnkb;have d1:w2.cell? ⟨k,1,none⟩=some (.slice (some ⟨b,0,none⟩) L.length cap):=(by rw [cell_at hk2];rfl)
   have d2:w2.frozen? ⟨k,1,none⟩=false:=frozen_at hk2 1;have d3:(w2.setCell ⟨k,1,none⟩ (.slice (some ⟨b,0,none⟩) M.length cap)).cell? ⟨k,1,none⟩=some (.slice (some ⟨b,0,none⟩) M.length cap):=(by rw [cell_at (setCell_at hk2 1 _)];rfl)
   clear hr2 f2 hk2;go_wp2_with fail;exact HQ2.out _ _ ⟨_,rfl⟩ (TokensAt.put H1.out HKK.out FF.out HB.out F2.out HR2.out HM.out rfl)
def ClosePost (w:World) (o:Nat→Nat) (K k:Nat) (L:List Tok) (x:Option Tok) (e:Ending) (w':World):Prop:=match x with
 | none=>e=.returned (.int .i64 13)∧Fr No w w'
 | some r=>e=.returned (.int .i64 0)∧GTok w o K k (L.filter fun x=> !decide (x=r)) w'
theorem close_ (o:Nat→Nat) (K k:Nat) (L:List Tok) (c h:Int) (w:World) (hT:TokensAt w o K k L) (hf:Fresh w o):
  Calls Tryz.prog 139 #[.pointer (some ⟨k,0,none⟩),.int .i64 c,.int .i64 h] w (ClosePost w o K k L (ofT L c h)):=by
 have hmf:∀(fn:Fn) (first cap:Array Value) (w:World),(Instr.makeFunc fn first cap).run Tryz.prog w=.ok (.func fn first cap) w:=fun _ _ _ _=>rfl;obtain ⟨h1,v,hk,hv⟩:=hT;have HO:=lH (tof_ k v L c h w hk (by
  rcases hv with h3|⟨b,cap,e,hm,hb,hr⟩
  ·exact .inl h3
  ·exact .inr ⟨b,cap,e,hm,hr⟩))
 have c0:w.cell? ⟨k,0,none⟩=some (.bool true):=by rw [cell_at hk];rfl
 have hmem:∀r,ofT L c h=some r→r∈L:=fun r hr=>List.mem_of_find?_eq_some hr;generalize ofT L c h=x at*;have HK:=lH hk;have FF:=lH hf;cases x with
 | none=>
  have HQ:Hid (∀e w',e=.returned (.int .i64 13)→Fr No w w'→ClosePost w o K k L none e w'):=lH (fun e w' a b=>⟨a,b⟩);generalize ClosePost w o K k L none=Q at*;clear h1 hk hv hf hmem;go_enter Tryz.func139,Tryz.ntmps139;go_wp2_with fail;refine HO.out.mono ?_;rintro e w1 ⟨rfl,f1⟩;unfold noTok tokV;dsimp only [Option.getD,Option.isSome];go_wp2_with fail;exact HQ.out _ _ rfl (f1.alloc _)
 | some r=>
  rcases hv with ⟨_,rfl⟩|⟨b,cap,rfl,hm,hb,hr⟩
  ·exact absurd (hmem r rfl) (by simp)
  ·have HQ:Hid (∀e w',e=.returned (.int .i64 0)→GTok w o K k (L.filter fun x=> !decide (x=r)) w'→ClosePost w o K k L (some r) e w'):=lH (fun e w' a b=>⟨a,b⟩);generalize ClosePost w o K k L (some r)=Q at*;have HR:=lH hr;have HB:=lH hb;have HM:=lH hm;have H1:=lH h1;have hnkb:k≠b:=(by intro e;rw [e,hb] at h1;omega)
   have hlt:=hr.lt;clear h1 hk hf hmem hm hb hr;go_enter Tryz.func139,Tryz.ntmps139;go_wp2_with fail;refine HO.out.mono ?_;rintro e w1 ⟨rfl,f1⟩;unfold tokV;dsimp only [Option.getD,Option.isSome];have f2:Fr No w (w1.alloc (.cells #[.int .i64 r.c,.int .i64 r.h,.int .i64 r.i,.bool r.wr] 53)):=f1.alloc _;have hk2:=f2.block_of HK.out id;have c1:(w1.alloc (.cells #[.int .i64 r.c,.int .i64 r.h,.int .i64 r.i,.bool r.wr] 53)).cell? ⟨k,1,none⟩=some (.slice (some ⟨b,0,none⟩) L.length cap):=(by rw [cell_at hk2];rfl)
   have hsz:=f1.size;have HD:=lH (del_ 202 #[.pointer (some ⟨w1.heap.size,0,none⟩)] eg202 (fun x=>decide (x=r)) b cap L _ (HR.out.fr f2 id) (pred202 w1.heap.size r (· =b) _ (new_at w1 _) (by omega)) HM.out);have F2:=lH f2;have HK2:=lH hk2;generalize hMM:(L.filter fun x=> !decide (x=r))=M at*;clear f1 f2 hk2 hMM;go_wp2_with fail;refine HD.out.mono ?_;rintro e w3 ⟨rfl,hr3,f3⟩;have HR3:=lH hr3;have F3:=lH f3;have hk3:=f3.block_of HK2.out hnkb;have d2:w3.frozen? ⟨k,1,none⟩=false:=frozen_at hk3 1;have d1:w3.cell? ⟨k,1,none⟩=some (.slice (some ⟨b,0,none⟩) L.length cap):=(by rw [cell_at hk3];rfl)
   clear hr3 f3 hk3;go_wp2_with fail;exact HQ.out _ _ rfl (GTok.later FF.out F2.out (TokensAt.put H1.out HK2.out (Step.no (C:=fun _=>False) FF.out F2.out).fresh HB.out F3.out HR3.out HM.out rfl))
end Go.Proofs.YtlcojhddnpmgmaaGreat
namespace Go.Proofs.YtlcojhddnpmgmaaGreat
open Go.RowKit Go.Lib
theorem Tryz.info53:(Tryz.prog.info? 53).map (fun i=>(i.zero,i.size,i.bytes))=some (some (.agg #[.int .i64 0,.int .i64 0,.int .i64 0,.bool false]),4,32):=by kernel_rfl
def InsPost (w:World) (v:Value) (M:List Tok) (e:Ending) (w':World):Prop:=
 ∃b cap,e=.returned (.slice (some ⟨b,0,none⟩) M.length cap)∧cap≤maxLen∧TokB w' b cap M∧(((∃l c,v=.slice (some ⟨b,0,none⟩) l c)∧Fr (· =b) w w')∨(w.heap.size≤b∧Fr No w w'))
theorem tokC_len (x:Tok):(tokC x).length=4:=rfl
theorem tokC_one (L:List Tok):∀u∈L.flatMap tokC,u.oneCell'=true:=fun u hu=>by
 obtain ⟨x,_,hx⟩:=List.mem_flatMap.1 hu;simp only [tokC,List.mem_cons,List.not_mem_nil,or_false] at hx;rcases hx with rfl|rfl|rfl|rfl<;>rfl
theorem fr_drew_r {S:Nat→Prop} {w w':World} (f:Fr S w w'):Fr S w w'.drew:=⟨f.os,f.tape,f.output,f.size,f.block⟩
theorem fr_drew_l {S:Nat→Prop} {w w':World} (f:Fr S w.drew w'):Fr S w w':=⟨f.os,f.tape,f.output,f.size,f.block⟩
theorem ins_end_room (b cap vb:Nat) (L:List Tok) (r:Tok) (w:World) (h:TokB w b cap L) (hv:w.heap[vb]? =some (.cells #[.int .i64 r.c,.int .i64 r.h,.int .i64 r.i,.bool r.wr] 53 (0,0))) (hroom:L.length<cap) (hm:cap≤maxLen):
  Calls Tryz.prog 201 #[.slice (some ⟨b,0,none⟩) L.length cap,.int .i64 L.length,.slice (some ⟨vb,0,none⟩) 1 1] w (InsPost w (.slice (some ⟨b,0,none⟩) L.length cap) (L++ [r])):=by
 have hsp:=RowB.splice (c:=tokC) tokC_len h L.length [r] (Nat.le_refl _) hroom;rw [List.take_length,List.drop_eq_nil_of_le (by simp),List.append_nil,List.flatMap_cons,List.flatMap_nil,List.append_nil] at hsp;have HR:Hid (∀e w',e=.returned (.slice (some ⟨b,0,none⟩) (L.length+1) cap)→w'=w.setCells b (L.length*4) (tokC r)→InsPost w (.slice (some ⟨b,0,none⟩) L.length cap) (L++ [r]) e w'):=lH (fun e w' he hw=>by
  subst hw;exact ⟨b,cap,by rw [he,List.length_append];rfl,hm,hsp,.inl ⟨⟨_,_,rfl⟩,setCells_fr b _ _ w⟩⟩)
 generalize InsPost w (.slice (some ⟨b,0,none⟩) L.length cap) (L++ [r])=Q at*;obtain ⟨i0,hi,hz0,hz1,hz2⟩:=info_parts Tryz.info53;have hth:=h.there L.length 4 (by omega);have hsrc:Src Tryz.prog i0.size 50 (.slice (some ⟨vb,0,none⟩) 1 1) 1 (tokC r) w:=by
  rw [hz1];refine Src.ofSlice (size:=4) w (e':=53) Tryz.underlying50 ⟨vb,0,none⟩ 1 1 (tokC r) rfl (fun j u hj=> ?_) (by simp [tokC,Value.oneCell']);rw [Addr.add_lit,cell_at hv,Nat.zero_add,← hj];show (tokC r).toArray[j]? =_;simp
 have hrun:∀ty,(Builtin.append_ #[50,50] ty #[.slice (some ⟨b,0,none⟩) L.length cap,.slice (some ⟨vb,0,none⟩) 1 1]).run Tryz.prog w=.ok (.slice (some ⟨b,0,none⟩) (L.length+1) cap) (w.setCells b (L.length*4) (tokC r)):=fun ty=>by
  have:=run_append_room_src w 50 50 ty 53 i0 Tryz.underlying50 hi b 0 L.length cap _ 1 (tokC r) hsrc hroom (fun j hj=>by rw [hz1,Nat.zero_add];exact (hth j hj).1) (fun j hj=>by rw [hz1,Nat.zero_add];exact (hth j hj).2);rwa [hz1,Nat.zero_add] at this
 have q2:(L.length:Int)≤(cap:Int):=by omega
 have q3:(0:Int)≤(L.length:Int):=by omega
 clear hsp h hv hth hsrc hz0 hz1 hz2 hi;go_enter Tryz.func201,Tryz.ntmps201;go_wp2_with (at_builtin;refine Lib.wpList_append_run _ rfl _ _ _ _ rfl _ _ rfl rfl _ _ (hrun _) ?_);exact HR.out _ _ rfl rfl
theorem src_tok (w:World) (vb:Nat) (r:Tok) (hv:w.heap[vb]? =some (.cells #[.int .i64 r.c,.int .i64 r.h,.int .i64 r.i,.bool r.wr] 53 (0,0))):Src Tryz.prog 4 50 (.slice (some ⟨vb,0,none⟩) 1 1) 1 (tokC r) w:=
 Src.ofSlice (size:=4) w (e':=53) Tryz.underlying50 ⟨vb,0,none⟩ 1 1 (tokC r) rfl (fun j u hj=>by
  rw [Addr.add_lit,cell_at hv,Nat.zero_add,← hj];show (tokC r).toArray[j]? =_;simp) (by simp [tokC,Value.oneCell'])
theorem zsize53:(Value.agg #[.int .i64 0,.int .i64 0,.int .i64 0,.bool false]).cells.size=4:=rfl
theorem own_new {α:Type} {c:α→List Value} {n:Nat} {t:TypeId} (hn:∀x,(c x).length=n) (w:World) (L:List α) (z:Array Value) (hz:z.size=n) (cap:Nat) (hl:L.length≤cap):
  RowB c n t (w.alloc (.cells ((L.flatMap c).toArray++Builtin.zeroCells z (cap - L.length)) t)) w.heap.size cap L:=by
 refine RowB.of_block hn (new_at w _) ?_ hl (fun k u hk=> ?_)
 ·rw [Array.size_append,List.size_toArray,flat_len hn];simp only [Builtin.zeroCells,Array.size_map,Array.size_range,hz];rw [← Nat.add_mul,show L.length+(cap - L.length)=cap by omega];exact Nat.le_refl _
 ·rw [Array.getElem?_append_left (by rw [List.size_toArray];exact (List.getElem?_eq_some_iff.1 hk).1)];simpa using hk
theorem ins_end_grow (base:Option Addr) (cap vb:Nat) (L:List Tok) (r:Tok) (w:World) (h:TokV w (.slice base L.length cap) L) (hv:w.heap[vb]? =some (.cells #[.int .i64 r.c,.int .i64 r.h,.int .i64 r.i,.bool r.wr] 53 (0,0))) (hroom:cap=L.length) (hbig:L.length≤1000000):
  Calls Tryz.prog 201 #[.slice base L.length cap,.int .i64 L.length,.slice (some ⟨vb,0,none⟩) 1 1] w (InsPost w (.slice base L.length cap) (L++ [r])):=by
 obtain ⟨i0,hi,hz0,hz1,hz2⟩:=info_parts Tryz.info53;have hold:(Builtin.firstCells i0.size L.length (.slice base L.length cap)).run Tryz.prog w.drew=.ok (L.flatMap tokC).toArray w.drew:=by
  rw [hz1];rcases h with ⟨he,rfl⟩|⟨b,cap',he,_,hb⟩
  ·simp only [List.length_nil] at he ⊢;cases he;exact run_firstCells_none w.drew 4 0 0 0
  ·cases he;have:=RowB.firstCells (P:=Tryz.prog) (w:=w.drew) (c:=tokC) tokC_len (hb.fr (S:=No) ⟨rfl,rfl,rfl,Nat.le_refl _,fun _ _ _=>rfl⟩ id) L.length L.length cap (Nat.le_refl _);rwa [List.take_length] at this
 have hrun:∀ty,(Builtin.append_ #[50,50] ty #[.slice base L.length cap,.slice (some ⟨vb,0,none⟩) 1 1]).run Tryz.prog w=_:=fun ty=>
  run_append_grow_src w 50 50 ty 53 i0 _ Tryz.underlying50 hi hz0 base L.length cap _ hold _ 1 (tokC r) (by rw [hz1];exact src_tok w vb r hv) (by omega) (by omega) (by rw [hz2];exact growslice_fits (by omega) (by omega))
 have hge:=grownCap_ge w (L.length+1) cap 53;have hle:=grownCap_le_maxLen w (L.length+1) cap 53 (by unfold maxLen;omega);generalize grownCap w (L.length+1) cap 53=G at*;have hnew:=own_new (c:=tokC) (t:=53) tokC_len w.drew (L++ [r]) (Value.agg #[.int .i64 0,.int .i64 0,.int .i64 0,.bool false]).cells zsize53 G (by rw [List.length_append];exact hge);rw [List.flatMap_append,List.flatMap_cons,List.flatMap_nil,List.append_nil,List.length_append] at hnew;have HR:Hid (∀e w',e=.returned (.slice (some ⟨w.heap.size,0,none⟩) (L.length+1) G)→w'=w.drew.alloc (.cells ((L.flatMap tokC++tokC r).toArray++Builtin.zeroCells (Value.agg #[.int .i64 0,.int .i64 0,.int .i64 0,.bool false]).cells (G - (L.length+1))) 53)→InsPost w (.slice base L.length cap) (L++ [r]) e w'):=lH (fun e w' he hw=>by
  subst hw;exact ⟨w.heap.size,G,by rw [he,List.length_append];rfl,hle,hnew,.inr ⟨Nat.le_refl _,(fr_drew_l (Fr.refl w.drew)).alloc _⟩⟩)
 generalize InsPost w (.slice base L.length cap) (L++ [r])=Q at*;have q2:(L.length:Int)≤(cap:Int):=by omega
 have q3:(0:Int)≤(L.length:Int):=by omega
 clear hnew hv hold hz0 hz1 hz2 hi hge hle;obtain ⟨W2,hW2⟩:∃W2,W2=w.drew.alloc (.cells ((L.flatMap tokC++tokC r).toArray++Builtin.zeroCells (Value.agg #[.int .i64 0,.int .i64 0,.int .i64 0,.bool false]).cells (G - (L.length+1))) 53):=⟨_,rfl⟩
 rw [← hW2] at hrun HR;rcases h with ⟨he,rfl⟩|⟨b,cap',he,_,_⟩
 ·simp only [List.length_nil] at he ⊢;cases he;simp only [List.length_nil,Nat.zero_add] at hrun HR;clear hW2 hroom q2 q3 hbig;go_enter Tryz.func201,Tryz.ntmps201;go_wp2_with (at_builtin;refine Lib.wpList_append_run _ rfl _ _ _ _ rfl _ _ rfl rfl _ _ (hrun _) ?_);exact HR.out _ _ rfl rfl
 ·cases he;clear hW2 hroom;go_enter Tryz.func201,Tryz.ntmps201;go_wp2_with (at_builtin;refine Lib.wpList_append_run _ rfl _ _ _ _ rfl _ _ rfl rfl _ _ (hrun _) ?_);all_goals exact HR.out _ _ rfl rfl
theorem row_split {α:Type} (L:List α) (i:Nat) (r:α) (hi:i<L.length):((L.take (i+1)++L.drop i).take i++ [r]++(L.take (i+1)++L.drop i).drop (i+1))=L.take i++r::L.drop i:=by
 have h1:(L.take (i+1)).length=i+1:=by rw [List.length_take];omega
 rw [List.take_append_of_le_length (by omega),List.take_take,Nat.min_eq_left (by omega),List.drop_append,h1,Nat.sub_self,List.drop_zero,List.drop_eq_nil_of_le (by omega)];simp
theorem ins_shift (b cap vb i:Nat) (L:List Tok) (r:Tok) (w:World) (h:TokB w b cap L) (hv:w.heap[vb]? =some (.cells #[.int .i64 r.c,.int .i64 r.h,.int .i64 r.i,.bool r.wr] 53 (0,0))) (hroom:L.length<cap) (hm:cap≤maxLen) (hi:i<L.length) (hne:vb≠b):
  Calls Tryz.prog 201 #[.slice (some ⟨b,0,none⟩) L.length cap,.int .i64 i,.slice (some ⟨vb,0,none⟩) 1 1] w (InsPost w (.slice (some ⟨b,0,none⟩) L.length cap) (L.take i++r::L.drop i)):=by
 have hdl:(L.drop i).length=L.length - i:=List.length_drop;have s1:=RowB.splice (c:=tokC) (n:=4) tokC_len (h.fr (S:=No) (w':=w.drew) ⟨rfl,rfl,rfl,Nat.le_refl _,fun _ _ _=>rfl⟩ id) (i+1) (L.drop i) (by omega) (by omega);have hnil:L.drop (i+1+(L.drop i).length)= []:=List.drop_eq_nil_of_le (by omega);rw [hnil,List.append_nil] at s1;have hl1:(L.take (i+1)++L.drop i).length=L.length+1:=by rw [List.length_append,List.length_take,hdl];omega
 have s2:=RowB.splice (c:=tokC) (n:=4) tokC_len s1 i [r] (by omega) (by rw [List.length_singleton];omega);rw [List.length_singleton,row_split L i r hi] at s2;rw [List.flatMap_cons,List.flatMap_nil,List.append_nil] at s2;have hml:(L.take i++r::L.drop i).length=L.length+1:=by rw [List.length_append,List.length_cons,List.length_take,hdl];omega
 obtain ⟨W1,hW1⟩:∃W1,W1=w.drew.setCells b ((i+1)*4) ((L.drop i).flatMap tokC):=⟨_,rfl⟩
 have F1:Fr (· =b) w W1:=hW1▸fr_drew_l (setCells_fr b _ _ w.drew);rw [← hW1] at s1 s2;have HR:Hid (∀e w',e=.returned (.slice (some ⟨b,0,none⟩) (L.length+1) cap)→w'=W1.setCells b (i*4) (tokC r)→InsPost w (.slice (some ⟨b,0,none⟩) L.length cap) (L.take i++r::L.drop i) e w'):=lH (fun e w' he hw=>by
  subst hw;exact ⟨b,cap,by rw [he,hml],hm,s2,.inl ⟨⟨_,_,rfl⟩,F1.trans (setCells_fr b _ _ W1) (fun _ _ e=>e)⟩⟩)
 generalize InsPost w (.slice (some ⟨b,0,none⟩) L.length cap) (L.take i++r::L.drop i)=Q at*;have hth:=h.there 0 (cap*4) (by omega);have hcp1:∀ty dc sc,(Builtin.copy_ #[50,50] ty #[.slice (some ⟨b,(i+1)*4,none⟩) (L.length - i) dc,.slice (some ⟨b,i*4,none⟩) (L.length+1 - i) sc]).run Tryz.prog w.drew=.ok (goInt (Nat.min (L.length+1 - i) (L.length - i))) W1:=fun ty dc sc=>by
  rw [hW1];refine run_copy_rows w.drew 50 50 ty 53 b ((i+1)*4) _ dc ⟨b,i*4,none⟩ _ sc 4 _ Tryz.underlying50 Tryz.size53 (by rw [flat_len tokC_len,hdl];simp only [Nat.min_def];split<;>omega) (fun j u hj=> ?_) (fun j hj=> ?_) (fun j hj=> ?_) (tokC_one _)
  ·rw [Addr.add_lit];exact h.part tokC_len i j u hj
  ·rw [flat_len tokC_len,hdl] at hj;have:=(hth ((i+1)*4+j) (by omega)).1;rwa [Nat.zero_mul,Nat.zero_add] at this
  ·rw [flat_len tokC_len,hdl] at hj;have:=(hth ((i+1)*4+j) (by omega)).2;rwa [Nat.zero_mul,Nat.zero_add] at this
 have hv1:W1.heap[vb]? =some (.cells #[.int .i64 r.c,.int .i64 r.h,.int .i64 r.i,.bool r.wr] 53 (0,0)):=F1.block_of hv hne;have hth1:=s1.there i 4 (by omega);have hcp2:∀ty dc,(Builtin.copy_ #[50,50] ty #[.slice (some ⟨b,i*4,none⟩) (L.length+1 - i) dc,.slice (some ⟨vb,0,none⟩) 1 1]).run Tryz.prog W1=.ok (goInt 1) (W1.setCells b (i*4) (tokC r)):=fun ty dc=>by
  have:=run_copy_rows (P:=Tryz.prog) W1 50 50 ty 53 b (i*4) (L.length+1 - i) dc ⟨vb,0,none⟩ 1 1 4 (tokC r) Tryz.underlying50 Tryz.size53 (by rw [tokC_len];simp only [Nat.min_def];split<;>omega) (fun j u hj=>by
   rw [Addr.add_lit,Nat.zero_add,cell_at hv1,← hj];show (tokC r).toArray[j]? =_;simp) (fun j hj=>(hth1 j hj).1) (fun j hj=>(hth1 j hj).2) (by simp [tokC,Value.oneCell'])
  rwa [show Nat.min 1 (L.length+1 - i)=1 by simp only [Nat.min_def];split<;>omega] at this
 have hov:∀lb cb,(callFunc 223 #[.slice (some ⟨vb,0,none⟩) 1 1,.slice (some ⟨b,(i+1)*4,none⟩) lb cb]).run Tryz.prog w=.ok (.value (.bool false)) w:=fun lb cb=>by
  obtain ⟨⟨cur,hb1,hb2⟩,_,_⟩:=h;rw [run_callFunc_extern Tryz.func223 (by kernel_rfl) (by kernel_rfl) (by kernel_rfl) (e:=Extern.SlicesOverlaps.overlaps #[50,50] #[4]) (by kernel_rfl),
   Lib.run_overlaps_apart w 50 4 53 Tryz.underlying50 4 Tryz.sizeOf53 ⟨vb,0,none⟩ ⟨b,(i+1)*4,none⟩ 1 1 lb cb hne 53 53 4 cur.size (by simp [World.shape?,hv]) (by simp [World.shape?,hb1]) (by omega) (frozen_at hv _) (frozen_at hv _)]
  rfl
 have mixed:Tryz.prog.follows .mixedOrders=true:=by kernel_rfl
 have hml63:cap≤9223372036854775807:=hm;have hw1:IntKind.i64.wrap ((i:Int)+1)=(i:Int)+1:=by rw [IntKind.wrap_i64];omega
 have hz2:¬((i:Int)=(L.length:Int)):=by omega
 have hb1:(0:Int)≤(i:Int)+1:=by omega
 have hin:i≤L.length:=by omega
 have htn:((i:Int)+1).toNat=i+1:=by omega
 have hb2:¬(cap=i+1):=by omega
 have hb3:(i:Int)≤(L.length:Int)+1:=by omega
 have hb4:¬(cap=i):=by omega
 have hb5:¬((cap:Int)<(L.length:Int)+1):=by omega
 clear hth hth1 hv1 s1 s2 hml hl1 hdl h hv hnil F1 hW1;go_enter Tryz.func201,Tryz.ntmps201;go_wp2_with (simp only [hov])
 go_region_law_o (refine step_copy_runI rfl _ _ 50 50 rfl (.slice (some ⟨b,(i+1)*4,none⟩) (L.length - i) (cap - (i+1))) (.slice (some ⟨b,i*4,none⟩) (L.length+1 - i) (cap - i)) (by simp [Act.eval,Act.put]) (by simp [Act.eval,Act.put]) (hcp1 _ _ _) ?_)
 go_wp2_with (at_builtin;refine wpList_copy_runI _ rfl _ _ 50 50 rfl _ _ rfl rfl (hcp2 _ _) ?_);exact HR.out _ _ rfl rfl
theorem ins_grow (b cap vb i:Nat) (L:List Tok) (r:Tok) (w:World) (h:TokB w b cap L) (hv:w.heap[vb]? =some (.cells #[.int .i64 r.c,.int .i64 r.h,.int .i64 r.i,.bool r.wr] 53 (0,0))) (hroom:cap=L.length) (hbig:L.length≤1000000) (hi:i<L.length):
  Calls Tryz.prog 201 #[.slice (some ⟨b,0,none⟩) L.length cap,.int .i64 i,.slice (some ⟨vb,0,none⟩) 1 1] w (InsPost w (.slice (some ⟨b,0,none⟩) L.length cap) (L.take i++r::L.drop i)):=by
 have hdl:(L.drop i).length=L.length - i:=List.length_drop;have htl:(L.take i).length=i:=by rw [List.length_take];omega
 obtain ⟨i0,hi0,hz0,hz1,hz2⟩:=info_parts Tryz.info53;have hold:(Builtin.firstCells i0.size i (.slice (some ⟨b,0,none⟩) i cap)).run Tryz.prog w.drew=.ok ((L.take i).flatMap tokC).toArray w.drew:=by
  rw [hz1];exact RowB.firstCells (P:=Tryz.prog) (w:=w.drew) (c:=tokC) tokC_len (h.fr (S:=No) ⟨rfl,rfl,rfl,Nat.le_refl _,fun _ _ _=>rfl⟩ id) i i cap (by omega)
 have hik:i+(L.length+1 - i)=L.length+1:=by omega
 have h9:=fun ty=>Lib.run_append_grow_zeros w 50 3 ty 53 i0 _ .i64 .i64 Tryz.underlying50 Tryz.underlying3 hi0 hz0 (some ⟨b,0,none⟩) i cap _ hold (L.length+1 - i) (by omega) (by omega) (by omega) (by omega) (by rw [hz2];omega) (by rw [hz2,hik];exact growslice_fits (by omega) (by omega));rw [hik] at h9;have hge:=grownCap_ge w (L.length+1) cap 53;have hle:=grownCap_le_maxLen w (L.length+1) cap 53 (by unfold maxLen;omega);generalize grownCap w (L.length+1) cap 53=G at*;obtain ⟨W1,hW1⟩:∃W1,W1=w.drew.alloc (.cells (((L.take i).flatMap tokC).toArray++Builtin.zeroCells (Value.agg #[.int .i64 0,.int .i64 0,.int .i64 0,.bool false]).cells (L.length+1 - i)++Builtin.zeroCells (Value.agg #[.int .i64 0,.int .i64 0,.int .i64 0,.bool false]).cells (G - (L.length+1))) 53):=⟨_,rfl⟩
 have hrz:∀ty,(Builtin.append_ #[50,3] ty #[.slice (some ⟨b,0,none⟩) i cap,.int .i64 ((L.length:Int)+1 - (i:Int))]).run Tryz.prog w=.ok (.slice (some ⟨w.heap.size,0,none⟩) (L.length+1) G) W1:=fun ty=>by
  have:=h9 ty;rw [show ((L.length+1 - i:Nat):Int)=(L.length:Int)+1 - (i:Int) by omega] at this;rw [hW1];exact this
 clear h9;have F1:Fr No w W1:=hW1▸(fr_drew_l (Fr.refl w.drew)).alloc _;have s0:TokB W1 w.heap.size G (L.take i++List.replicate (L.length+1 - i) noTok):=by
  have hl:(L.take i++List.replicate (L.length+1 - i) noTok).length=L.length+1:=by rw [List.length_append,htl,List.length_replicate];omega
  refine RowB.of_block tokC_len (hW1▸new_at w.drew _) ?_ (by omega) (fun k u hk=> ?_)
  ·simp only [Array.size_append,List.size_toArray,flat_len tokC_len,htl,Builtin.zeroCells,Array.size_map,Array.size_range,zsize53];omega
  ·have hz:(List.replicate (L.length+1 - i) noTok).flatMap tokC=(Builtin.zeroCells (Value.agg #[.int .i64 0,.int .i64 0,.int .i64 0,.bool false]).cells (L.length+1 - i)).toList:=by
    rw [zero_cells _ 4 _ zsize53,flat_rep];rfl
   rw [List.flatMap_append,hz] at hk;have hlt:=(List.getElem?_eq_some_iff.1 hk).1;rw [Array.getElem?_append_left (by simpa using hlt)];rw [← hk,← Array.getElem?_toList];simp
 have s1:=RowB.splice (c:=tokC) (n:=4) tokC_len s0 i [r] (by rw [List.length_append];omega) (by rw [List.length_singleton];omega);have e1:(L.take i++List.replicate (L.length+1 - i) noTok).take i++ [r]++(L.take i++List.replicate (L.length+1 - i) noTok).drop (i+ [r].length)=L.take i++r::List.replicate (L.length - i) noTok:=by
  rw [List.take_append_of_le_length (by omega),List.take_take,Nat.min_self,List.length_singleton,List.drop_append,htl,List.drop_eq_nil_of_le (by omega),List.nil_append,List.drop_replicate,List.append_assoc,List.singleton_append,show L.length+1 - i - (i+1 - i)=L.length - i by omega]
 rw [e1,List.flatMap_cons,List.flatMap_nil,List.append_nil] at s1;obtain ⟨W2,hW2⟩:∃W2,W2=W1.setCells w.heap.size (i*4) (tokC r):=⟨_,rfl⟩
 have F2:Fr No w W2:=hW2▸(F1.of_no.trans (setCells_fr w.heap.size _ _ W1) (fun _ _ e=>e)).no (fun j hj e=>by omega);rw [← hW2] at s1;have hl1:(L.take i++r::List.replicate (L.length - i) noTok).length=L.length+1:=by rw [List.length_append,List.length_cons,List.length_replicate,htl];omega
 have s2:=RowB.splice (c:=tokC) (n:=4) tokC_len (s1.fr (S:=No) (w':=W2.drew) ⟨rfl,rfl,rfl,Nat.le_refl _,fun _ _ _=>rfl⟩ id) (i+1) (L.drop i) (by omega) (by omega);have e2:(L.take i++r::List.replicate (L.length - i) noTok).take (i+1)++L.drop i++(L.take i++r::List.replicate (L.length - i) noTok).drop (i+1+(L.drop i).length)=L.take i++r::L.drop i:=by
  have h5:(L.take i++r::List.replicate (L.length - i) noTok).drop (i+1+(L.drop i).length)= []:=List.drop_eq_nil_of_le (by omega);have h6:(L.take i++r::List.replicate (L.length - i) noTok).take (i+1)=L.take i++ [r]:=by
   rw [List.take_append,htl,List.take_of_length_le (by omega),show i+1 - i=1 by omega];rfl
  rw [h5,h6,List.append_nil,List.append_assoc,List.singleton_append]
 rw [e2] at s2;have hml:(L.take i++r::L.drop i).length=L.length+1:=by rw [List.length_append,List.length_cons,htl,hdl];omega
 have HR:Hid (∀e w',e=.returned (.slice (some ⟨w.heap.size,0,none⟩) (L.length+1) G)→w'=W2.drew.setCells w.heap.size ((i+1)*4) ((L.drop i).flatMap tokC)→InsPost w (.slice (some ⟨b,0,none⟩) L.length cap) (L.take i++r::L.drop i) e w'):=lH (fun e w' he hw=>by
  subst hw;exact ⟨w.heap.size,G,by rw [he,hml],hle,s2,.inr ⟨Nat.le_refl _,((fr_drew_r F2).of_no.trans (setCells_fr w.heap.size _ _ W2.drew) (fun _ _ e=>e)).no (fun j hj e=>by omega)⟩⟩)
 generalize InsPost w (.slice (some ⟨b,0,none⟩) L.length cap) (L.take i++r::L.drop i)=Q at*;have hth0:=s0.there i 4 (by omega);have hth1:=s1.there (i+1) ((L.length - i)*4) (by omega);have hv1:W1.heap[vb]? =some (.cells #[.int .i64 r.c,.int .i64 r.h,.int .i64 r.i,.bool r.wr] 53 (0,0)):=F1.block_of hv id;have hcpA:∀ty dc,(Builtin.copy_ #[50,50] ty #[.slice (some ⟨w.heap.size,i*4,none⟩) (L.length+1 - i) dc,.slice (some ⟨vb,0,none⟩) 1 1]).run Tryz.prog W1=.ok (goInt 1) W2:=fun ty dc=>by
  have:=run_copy_rows (P:=Tryz.prog) W1 50 50 ty 53 w.heap.size (i*4) (L.length+1 - i) dc ⟨vb,0,none⟩ 1 1 4 (tokC r) Tryz.underlying50 Tryz.size53 (by rw [tokC_len];simp only [Nat.min_def];split<;>omega) (fun j u hj=>by
   rw [Addr.add_lit,Nat.zero_add,cell_at hv1,← hj];show (tokC r).toArray[j]? =_;simp) (fun j hj=>(hth0 j hj).1) (fun j hj=>(hth0 j hj).2) (by simp [tokC,Value.oneCell'])
  rw [show Nat.min 1 (L.length+1 - i)=1 by simp only [Nat.min_def];split<;>omega,← hW2] at this;exact this
 have hb2:=h.fr F2 id;have hcpB:∀ty dc sc,(Builtin.copy_ #[50,50] ty #[.slice (some ⟨w.heap.size,(i+1)*4,none⟩) (L.length - i) dc,.slice (some ⟨b,i*4,none⟩) (L.length - i) sc]).run Tryz.prog W2.drew=.ok (goInt (Nat.min (L.length - i) (L.length - i))) (W2.drew.setCells w.heap.size ((i+1)*4) ((L.drop i).flatMap tokC)):=fun ty dc sc=>by
  refine run_copy_rows W2.drew 50 50 ty 53 w.heap.size ((i+1)*4) _ dc ⟨b,i*4,none⟩ _ sc 4 _ Tryz.underlying50 Tryz.size53 (by rw [flat_len tokC_len,hdl];simp only [Nat.min_def];split<;>omega) (fun j u hj=> ?_) (fun j hj=> ?_) (fun j hj=> ?_) (tokC_one _)
  ·rw [Addr.add_lit];exact hb2.part tokC_len i j u hj
  ·rw [flat_len tokC_len,hdl] at hj;exact (hth1 j hj).1
  ·rw [flat_len tokC_len,hdl] at hj;exact (hth1 j hj).2
 have mixed:Tryz.prog.follows .mixedOrders=true:=by kernel_rfl
 have hG63:G≤9223372036854775807:=hle;have hw1:IntKind.i64.wrap ((i:Int)+1)=(i:Int)+1:=by rw [IntKind.wrap_i64];omega
 have hz2':¬((i:Int)=(L.length:Int)):=by omega
 have hb1:(0:Int)≤(i:Int)+1:=by omega
 have hin:i≤L.length:=by omega
 have htn:((i:Int)+1).toNat=i+1:=by omega
 have hb3:(i:Int)≤(L.length:Int):=by omega
 have hb5:(cap:Int)<(L.length:Int)+1:=by omega
 have hb6:¬(G=i):=by omega
 have hb7:¬(G=i+1):=by omega
 have hb8:¬(cap=i):=by omega
 have hb9:(i:Int)≤(cap:Int):=by omega
 clear hth0 hth1 hv1 s0 s1 s2 hml hl1 hdl htl h hv F1 F2 hW1 hW2 e1 e2 hb2 hold hi0 hz0 hz1 hz2 hik hroom;go_enter Tryz.func201,Tryz.ntmps201;go_wp2_with (first
  | (at_builtin;refine Lib.wpList_append_run _ rfl _ _ _ _ rfl _ _ rfl rfl _ _ (hrz _) ?_)
  | (at_builtin;refine wpList_copy_runI _ rfl _ _ 50 50 rfl _ _ rfl rfl (hcpA _ _) ?_))
 go_region_law_o (refine step_copy_runI rfl _ _ 50 50 rfl (.slice (some ⟨w.heap.size,(i+1)*4,none⟩) (L.length - i) (G - (i+1))) (.slice (some ⟨b,i*4,none⟩) (L.length - i) (cap - i)) (by simp [Act.eval,Act.put]) (by simp [Act.eval,Act.put]) (hcpB _ _ _) ?_)
 go_wp2_with fail;exact HR.out _ _ rfl rfl
end Go.Proofs.YtlcojhddnpmgmaaGreat
namespace Go.Proofs.YtlcojhddnpmgmaaGreat
open Go.RowKit
structure St where
 boots:Int
 swaps:Int
 clock:Int
 next:Nat→Int
 W:Nat→Option WRow
 T:Tree
 K:List Tok
 F:Nat→Option FMap
 U:Stp→Option Us
structure Plc where
 s:Nat
 win:Nat
 tr:Nat
 tk:Nat
 fl:Nat
 us:Nat
def stC (L:Plc) (S:St):Array Value:= #[.int .i64 S.boots,.int .i64 S.swaps,.int .i64 S.clock,.int .i64 (S.next 0),.int .i64 (S.next 1),.int .i64 (S.next 2),.int .i64 (S.next 3),.int .i64 (S.next 4),
 .pointer (some ⟨L.win,0,none⟩),.pointer (some ⟨L.tr,0,none⟩),.pointer (some ⟨L.tk,0,none⟩),.map (some L.fl),.map (some L.us)]
def filem (F:Nat→Option FMap) (fp:Nat→Nat):Int→Option Nat:=fun i=>if 0≤i then (F i.toNat).map (fun _=>fp i.toNat) else none
def usem (U:Stp→Option Us):Stp→Option (Stp×Us):=fun x=>(U x).map (fun y=>(x,y))
def FilesAt (w:World) (o:Nat→Nat) (K fl n:Nat) (F:Nat→Option FMap):Prop:=
 o fl=K+6∧∃fp c,c≤n∧MapAt encI w fl c (filem F fp)∧∀i m,F i=some m→FileAt w o K i (fp i) m
def UsesAt (w:World) (o:Nat→Nat) (K us n:Nat) (U:Stp→Option Us):Prop:=
 o us=K+7∧∃c,c≤n∧MapAt encU w us c (usem U)
structure StateAt (w:World) (o:Nat→Nat) (K:Nat) (L:Plc) (S:St) (n:Nat):Prop where
 own:o L.s=K+8
 cs:w.heap[L.s]? =some (.cells (stC L S) 104 (0,0))
 win:WinAt w o (K+1) L.win S.W
 tree:TreeAt w o K L.tr S.T
 tok:TokensAt w o K L.tk S.K
 files:FilesAt w o K L.fl n S.F
 uses:UsesAt w o K L.us n S.U
structure StOk (S:St):Prop where
 tree:TreeOk S.T
 file:∀i m,S.F i=some m→1≤i∧i≤128∧MapLen m
def stateC (K c:Nat):Prop:=K<c∧c<K+5000
theorem FilesAt.step {C:Nat→Prop} {w w':World} {o o':Nat→Nat} {K fl n:Nat} {F:Nat→Option FMap} (h:FilesAt w o K fl n F) (hk:∀i m,F i=some m→1≤i∧i≤128∧MapLen m) (s:Step C w o w' o') (hm:¬C (K+6)) (hc:∀i,i≤128→∀c,fileC K i c→¬C c):FilesAt w' o' K fl n F:=by
 obtain ⟨h1,fp,c,h2,h3,h4⟩:=h;obtain ⟨e1,e2⟩:=h3.step s (by rw [h1];exact hm);exact ⟨e2.trans h1,fp,c,h2,e1,fun i m hi=>(h4 i m hi).step s (hc i (hk i m hi).2.1 _ (.inl rfl)) (hc i (hk i m hi).2.1 _ (.inr rfl))⟩
theorem UsesAt.step {C:Nat→Prop} {w w':World} {o o':Nat→Nat} {K us n:Nat} {U:Stp→Option Us} (h:UsesAt w o K us n U) (s:Step C w o w' o') (hm:¬C (K+7)):UsesAt w' o' K us n U:=by
 obtain ⟨h1,c,h2,h3⟩:=h;obtain ⟨e1,e2⟩:=h3.step s (by rw [h1];exact hm);exact ⟨e2.trans h1,c,h2,e1⟩
theorem StateAt.step {C:Nat→Prop} {w w':World} {o o':Nat→Nat} {K n:Nat} {L:Plc} {S:St} (h:StateAt w o K L S n) (ok:StOk S) (s:Step C w o w' o') (hc:∀c,stateC K c→¬C c):StateAt w' o' K L S n where
 own:=(s.own h.cs).trans h.own
 cs:=s.block h.cs (by rw [h.own];exact hc _ (by unfold stateC;omega))
 win:=h.win.step s (hc _ (by unfold stateC;omega)) (hc _ (by unfold stateC;omega))
 tree:=h.tree.step ok.tree s (fun c e=>hc c (by unfold stateC;unfold treeC at e;omega))
 tok:=h.tok.step s (hc _ (by unfold stateC;omega)) (hc _ (by unfold stateC;omega))
 files:=h.files.step ok.file s (hc _ (by unfold stateC;omega)) (fun i hi c e=>hc c (by unfold stateC;unfold fileC at e;omega))
 uses:=h.uses.step s (hc _ (by unfold stateC;omega))
theorem StateAt.no {w w':World} {o:Nat→Nat} {K n:Nat} {L:Plc} {S:St} (h:StateAt w o K L S n) (ok:StOk S) (hf:Fresh w o) (f:Fr No w w'):StateAt w' o K L S n:=
 h.step ok (Step.no (C:=fun _=>False) hf f) (fun _ _ e=>e)
theorem StateAt.more {w:World} {o:Nat→Nat} {K n n':Nat} {L:Plc} {S:St} (h:StateAt w o K L S n) (hn:n≤n'):StateAt w o K L S n':=by
 obtain ⟨h1,h2,h3,h4,h5,⟨f1,fp,c,f2,f3⟩,⟨u1,d,u2,u3⟩⟩:=h;exact ⟨h1,h2,h3,h4,h5,⟨f1,fp,c,Nat.le_trans f2 hn,f3⟩,⟨u1,d,Nat.le_trans u2 hn,u3⟩⟩
theorem StateAt.newTree {w w':World} {o o':Nat→Nat} {K n:Nat} {L:Plc} {S:St} {T':Tree} (h:StateAt w o K L S n) (ok:StOk S) (s:Step (treeC K) w o w' o') (t:TreeAt w' o' K L.tr T'):StateAt w' o' K L {S with T:=T'} n where
 own:=(s.own h.cs).trans h.own
 cs:=s.block h.cs (by rw [h.own];unfold treeC;omega)
 win:=h.win.step s (by unfold treeC;omega) (by unfold treeC;omega)
 tree:=t
 tok:=h.tok.step s (by unfold treeC;omega) (by unfold treeC;omega)
 files:=h.files.step ok.file s (by unfold treeC;omega) (fun i hi c e=>by unfold fileC at e;unfold treeC;omega)
 uses:=h.uses.step s (by unfold treeC;omega)
theorem StateAt.newToks {w w':World} {o o':Nat→Nat} {K n:Nat} {L:Plc} {S:St} {K':List Tok} (h:StateAt w o K L S n) (ok:StOk S) (s:Step (tokC2 K) w o w' o') (t:TokensAt w' o' K L.tk K'):StateAt w' o' K L {S with K:=K'} n where
 own:=(s.own h.cs).trans h.own
 cs:=s.block h.cs (by rw [h.own];unfold tokC2;omega)
 win:=h.win.step s (by unfold tokC2;omega) (by unfold tokC2;omega)
 tree:=h.tree.step ok.tree s (fun c e=>by unfold treeC at e;unfold tokC2;omega)
 tok:=t
 files:=h.files.step ok.file s (by unfold tokC2;omega) (fun i hi c e=>by unfold fileC at e;unfold tokC2;omega)
 uses:=h.uses.step s (by unfold tokC2;omega)
theorem StateAt.cell {w:World} {o:Nat→Nat} {K n:Nat} {L:Plc} {S:St} (h:StateAt w o K L S n) (j:Nat):w.cell? ⟨L.s,j,none⟩=(stC L S)[j]? :=by rw [cell_at h.cs]
structure Req where
 c:Int
 l:Int
 q:Int
 kind:Int
 path:List UInt8
 to:List UInt8
 dir:Bool
 wr:Bool
 cl:Bool
 h:Int
 nx:Int
 sw:Int
def Req.cells (r:Req) (rv dv:Value):Array Value:= #[.int .i64 r.c,.int .i64 r.l,.int .i64 r.q,.int .i64 r.kind,.string (ba r.path),.string (ba r.to),.bool r.dir,.bool r.wr,.bool r.cl,.int .i64 r.h,.int .i64 r.nx,.int .i64 r.sw,rv,dv]
def noRep:RepS:=⟨0,0,0,0,0,false, [], []⟩
def RepAt (n:Nat) (w:World) (v:Value) (r:RepS):Prop:=∃ev mv,v=.agg (r.cells ev mv)∧EsB w w.heap.size ev r.es∧BsB w w.heap.size mv r.map∧Low n ev∧Low n mv
def Deed (w:World) (o:Nat→Nat) (K:Nat) (L:Plc) (n:Nat) (x:Int×RepS×St) (e:Ending) (w':World):Prop:=
 (∃o',Step (stateC K) w o w' o'∧StateAt w' o' K L x.2.2 n)∧if x.1=0 then ∃v,e=.returned v∧RepAt w.heap.size w' v x.2.1 else e=.panicked (refC x.1)
end Go.Proofs.YtlcojhddnpmgmaaGreat
namespace Go.Proofs.YtlcojhddnpmgmaaGreat
open Go Go.RowKit
section
variable {P:Program} {ops:Array Oper} {Q:Exit→Act→World→Prop} {md:Region.Mode} {S:Act→World→Prop}
variable {L2:List Nat} {k j:Nat} {o:Oper} {rest:List Oper} {a:Act} {v:Value}
theorem seqXB_skip (hk:(k::L2).contains j=true) (h:seqXB P md ops Q S k L2 (j+1) rest a):seqXB P md ops Q S k L2 j (o::rest) a:=by
 unfold seqXB;rw [if_pos hk];exact h
theorem seqXB_val (hk:(k::L2).contains j=false) (hSp:∀(a:Act) v w,S (a.put o.dst v) w↔S a w) (hw:Region.wanted o (yielded ops a.tmps)=true) (h:∀w,(execOp a.eval o).run P w=.ok (.value v) w) (r:seqXB P md ops Q S k L2 (j+1) rest (a.put o.dst v)):seqXB P md ops Q S k L2 j (o::rest) a:=by
 unfold seqXB;rw [if_neg (by simp only [hk];decide)];exact ⟨v,hSp,.inl (.inl ⟨hw,h⟩),r⟩
theorem seqXB_valS (hk:(k::L2).contains j=false) (hSp:∀(a:Act) v w,S (a.put o.dst v) w↔S a w) (hc:rch md ops L2 j=true) (hw:Region.wanted o (yielded ops a.tmps)=true) (h:∀w,(∃b,S b w)→(execOp a.eval o).run P w=.ok (.value v) w) (r:seqXB P md ops Q S k L2 (j+1) rest (a.put o.dst v)):seqXB P md ops Q S k L2 j (o::rest) a:=by
 unfold seqXB;rw [if_neg (by simp only [hk];decide)];exact ⟨v,hSp,.inr ⟨hc,.inl ⟨hw,fun w hS=> .inl ⟨w,h w hS,fun _ h=>h⟩⟩⟩,r⟩
theorem seqXB_call (f:Nat) (args:Array Value) (hk:(k::L2).contains j=false) (hSp:∀(a:Act) v w,S (a.put o.dst v) w↔S a w) (hc:rch md ops L2 j=true) (hw:Region.wanted o (yielded ops a.tmps)=true) (h:∀w,(execOp a.eval o).run P w=.ok (.enter f args) w)
  (hcall:∀w,(∃b,S b w)→Calls P f args w (fun e w'=>e=.returned v∧∀b,S b w→S b w')) (r:seqXB P md ops Q S k L2 (j+1) rest (a.put o.dst v)):seqXB P md ops Q S k L2 j (o::rest) a:=by
 unfold seqXB;rw [if_neg (by simp only [hk];decide)];exact ⟨v,hSp,.inr ⟨hc,.inl ⟨hw,fun w hS=> .inr ⟨f,args,w,h w,hcall w hS⟩⟩⟩,r⟩
theorem bornEnd_val (hi:ops[k]? =some o) (hw:Region.wanted o (yielded ops a.tmps)=true)
  (h:∀w,S a w→∃v w',(execOp a.eval o).run P w=.ok (.value v) w'∧S (a.put o.dst v) w'∧∀w'',S (a.put o.dst v) w''→wpList P ops Q (L2.filterMap fun i=>ops[i]?) (a.put o.dst v) w''):bornEnd P ops Q S k L2 a:=by
 intro w hS;obtain ⟨v,w',hr,h1,h2⟩:=h w hS;unfold wpOp;simp only [hi,hw,if_true];refine .inl ?_;simp only [Oper.wp,hr,Oper.upon];exact ⟨h1,h2⟩
end
end Go.Proofs.YtlcojhddnpmgmaaGreat
