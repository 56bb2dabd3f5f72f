/- Part of the proof; the last text says what is proved. -/
import Derived.Test.YtlcojhddnpmgmaaGreatW05
import Derived.Test.YtlcojhddnpmgmaaGreatW07
import Derived.DeepKeys4
import Derived.Maps.OwnSet
import Derived.Maps.RangeWalk
import Derived.Tactics
set_option linter.unusedSimpArgs false
set_option linter.unusedVariables false
set_option maxRecDepth 100000
set_option maxHeartbeats 1600000
namespace Go.Proofs.YtlcojhddnpmgmaaGreat
open Go Go.RowKit
section
variable {P:Program} {ops:Array Oper} {Q:Exit→Act→World→Prop} {md:Region.Mode} {S:World→Prop} {T:Nat→Bool}
def reach (md:Region.Mode) (ops:Array Oper):Nat→Nat→Nat→Bool
 | 0,_,_=>false
 | f+1,j,i=>match ops[j]? with
  | none=>false
  | some o=>o.after.any fun e=>Region.binds md e&&(e.on==i||reach md ops f e.on i)
def Closed (md:Region.Mode) (ops:Array Oper) (listed:Array Bool):Prop:=∀(j:Nat) o,ops[j]? =some o→listed.getD j false=true→∀e∈o.after,Region.binds md e=true→listed.getD e.on false=true
theorem Closed.set {listed:Array Bool} (h:Closed md ops listed) {j:Nat} (hj:j∈Region.ready md ops listed):Closed md ops (listed.setIfInBounds j true):=by
 intro k o hk hl e he hb;obtain ⟨h0,oj,hoj,hall⟩:=mem_ready.1 hj;by_cases hkj:k=j
 ·subst hkj;rw [hoj] at hk;cases hk;exact getD_set_true (hall e he hb)
 ·have:listed.getD k false=true:=by rwa [getD_set_ne false (Ne.symm hkj)] at hl
  exact getD_set_true (h k o hk this e he hb)
theorem reach_listed {listed:Array Bool} (h:Closed md ops listed):∀(f j i:Nat),(∀o,ops[j]? =some o→∀e∈o.after,Region.binds md e=true→listed.getD e.on false=true)→reach md ops f j i=true→listed.getD i false=true
 | 0,_,_,_,hr=>by simp [reach] at hr
 | f+1,j,i,hj,hr=>by
  unfold reach at hr;cases ho:ops[j]? with
  | none=>rw [ho] at hr;cases hr
  | some o=>
   rw [ho] at hr;simp only [Array.any_eq_true'] at hr;obtain ⟨e,he,h2⟩:=hr;rw [Bool.and_eq_true,Bool.or_eq_true] at h2;have hl:=hj o ho e he h2.1;rcases h2.2 with h3|h3
   ·rw [← eq_of_beq h3];exact hl
   ·exact reach_listed h f e.on i (fun o' ho' e' he' hb'=>h e.on o' ho' hl e' he' hb') h3
def wpAnyM (P:Program) (md:Region.Mode) (ops:Array Oper) (Q:Exit→Act→World→Prop) (S:World→Prop) (T:Nat→Bool):Nat→Array Bool→Act→Prop
 | 0,listed,a=>Region.ready md ops listed= []∧∀w,S w→Q .normal a w
 | fuel+1,listed,a=>
  (Region.ready md ops listed= []→∀w,S w→Q .normal a w)∧
  ∀i∈Region.ready md ops listed,∀w,S w→wpOp P ops Q i (fun a' w'=>if T i=true then wpAny P md ops Q fuel (listed.setIfInBounds i true) a' w' else S w'∧wpAnyM P md ops Q S T fuel (listed.setIfInBounds i true) a') a w
theorem wpAny_of_mix:∀(fuel:Nat) (listed:Array Bool) (a:Act) (w:World),S w→wpAnyM P md ops Q S T fuel listed a→wpAny P md ops Q fuel listed a w
 | 0,_,_,w,hS,h=>⟨h.1,h.2 w hS⟩
 | fuel+1,_,_,w,hS,h=>⟨fun hr=>h.1 hr w hS,fun i hi=>wpOp_mono (fun a' w' h'=>by
   split at h'
   ·exact h'
   ·exact wpAny_of_mix fuel _ a' w' h'.1 h'.2) (h.2 i hi w hS)⟩
theorem wpAnyM_firstW {i:Nat} {oi:Oper} {v:Value} (hi:ops[i]? =some oi) (hsel:∀(j:Nat) (o:Oper) cs b,ops[j]? =some o→o.op≠ .select cs b)
  (hQ:∀c a w,Q (.panic c) (a.put oi.dst v) w→Q (.panic c) a w) (hT:T i=false):
  ∀(fuel:Nat) (listed:Array Bool) (a:Act),
   (∀j oj,ops[j]? =some oj→j≠i→listed.getD j true=false→(∀e∈oj.after,Region.binds md e=true→e.on≠i)→oi.apart ops oj=true)→
   i∈Region.ready md ops listed→Yields P ops oi v a→
   wpAnyM P md ops Q S T fuel (listed.setIfInBounds i true) (a.put oi.dst v)→wpAnyM P md ops Q S T (fuel+1) listed a:=by
 intro fuel;induction fuel with
 | zero=>
  intro listed a _ hr hy H;refine ⟨fun h=>(by rw [h] at hr;cases hr),fun j hj w hS=> ?_⟩;by_cases hji:j=i
  ·subst hji;exact hy.wpOp hi (by rw [if_neg (by simp [hT])];exact ⟨hS,H⟩)
  ·have:=ready_mono hj hji;rw [H.1] at this;cases this
 | succ fuel ih=>
  intro listed a hfree hr hy H;refine ⟨fun h=>(by rw [h] at hr;cases hr),fun j hj w hS=> ?_⟩;by_cases hji:j=i
  ·subst hji;exact hy.wpOp hi (by rw [if_neg (by simp [hT])];exact ⟨hS,H⟩)
  ·have h1:=H.2 j (ready_mono hj hji) w hS;obtain ⟨hjun,oj,hoj,hall⟩:=mem_ready.1 hj;have hnot:∀e∈oj.after,Region.binds md e=true→e.on≠i:=fun e he hb heq=>by
    have h1:=hall e he hb;have h0:=(mem_ready.1 hr).1;rw [heq] at h1;rcases Nat.lt_or_ge i listed.size with h'|h'
    ·simp [h'] at h0 h1;rw [h0] at h1;cases h1
    ·simp [Array.getElem?_eq_none h'] at h1
   have h2:=wpOp_put hoj (hfree j oj hoj hji hjun hnot) (fun cs b=>hsel i oi cs b hi) (fun cs b=>hsel j oj cs b hoj) hQ hy h1;have hfree':∀k ok,ops[k]? =some ok→k≠i→(listed.setIfInBounds j true).getD k true=false→
     (∀e∈ok.after,Region.binds md e=true→e.on≠i)→oi.apart ops ok=true:=fun k ok hk hki hun hno=>by
    refine hfree k ok hk hki ?_ hno;by_cases hjk:j=k
    ·subst hjk;exact hjun
    ·rw [getD_set_ne true hjk] at hun;exact hun
   refine wpOp_mono (fun a' w' h3=> ?_) h2;obtain ⟨h4,h5⟩:=h3;split at h5
   ·rename_i hTj
    rw [if_pos hTj];refine wpAny_first hi hsel hQ fuel (listed.setIfInBounds j true) a' w' hfree' (ready_mono hr (Ne.symm hji)) h4 ?_;rw [Array.setIfInBounds_comm _ _ hji];exact h5
   ·rename_i hTj
    rw [if_neg hTj];refine ⟨h5.1,ih (listed.setIfInBounds j true) a' hfree' (ready_mono hr (Ne.symm hji)) h4 ?_⟩;rw [Array.setIfInBounds_comm _ _ hji];exact h5.2
theorem wpAnyM_firstS {i:Nat} {oi:Oper} {v:Value} (hi:ops[i]? =some oi) (hsel:∀(j:Nat) (o:Oper) cs b,ops[j]? =some o→o.op≠ .select cs b)
  (hQ:∀c a w,Q (.panic c) (a.put oi.dst v) w→Q (.panic c) a w) (hT:T i=false) (f:Nat) (hR:∀t,T t=true→reach md ops f t i=true):
  ∀(fuel:Nat) (listed:Array Bool) (a:Act),Closed md ops listed→
   (∀j oj,ops[j]? =some oj→j≠i→listed.getD j true=false→(∀e∈oj.after,Region.binds md e=true→e.on≠i)→oi.apart ops oj=true)→
   i∈Region.ready md ops listed→YieldsS P ops S oi v a→
   wpAnyM P md ops Q S T fuel (listed.setIfInBounds i true) (a.put oi.dst v)→wpAnyM P md ops Q S T (fuel+1) listed a:=by
 intro fuel;induction fuel with
 | zero=>
  intro listed a _ _ hr hy H;refine ⟨fun h=>(by rw [h] at hr;cases hr),fun j hj w hS=> ?_⟩;by_cases hji:j=i
  ·subst hji;exact hy.wpOp hi hS (fun w' hS'=>by rw [if_neg (by simp [hT])];exact ⟨hS',H⟩)
  ·have:=ready_mono hj hji;rw [H.1] at this;cases this
 | succ fuel ih=>
  intro listed a hcl hfree hr hy H;refine ⟨fun h=>(by rw [h] at hr;cases hr),fun j hj w hS=> ?_⟩;by_cases hji:j=i
  ·subst hji;exact hy.wpOp hi hS (fun w' hS'=>by rw [if_neg (by simp [hT])];exact ⟨hS',H⟩)
  ·have h1:=H.2 j (ready_mono hj hji) w hS;obtain ⟨hjun,oj,hoj,hall⟩:=mem_ready.1 hj;have hTj:¬T j=true:=fun hTj=>by
    have h3:=reach_listed hcl f j i (fun o ho e he hb=>by rw [hoj] at ho;cases ho;exact hall e he hb) (hR j hTj);have h0:=(mem_ready.1 hr).1;rcases Nat.lt_or_ge i listed.size with h'|h'
    ·simp [h'] at h0 h3;rw [h0] at h3;cases h3
    ·simp [Array.getElem?_eq_none h'] at h3
   have hnot:∀e∈oj.after,Region.binds md e=true→e.on≠i:=fun e he hb heq=>by
    have h1:=hall e he hb;have h0:=(mem_ready.1 hr).1;rw [heq] at h1;rcases Nat.lt_or_ge i listed.size with h'|h'
    ·simp [h'] at h0 h1;rw [h0] at h1;cases h1
    ·simp [Array.getElem?_eq_none h'] at h1
   have h2:=wpOp_putS hoj (hfree j oj hoj hji hjun hnot) (fun cs b=>hsel i oi cs b hi) (fun cs b=>hsel j oj cs b hoj) hQ hy h1;have hfree':∀k ok,ops[k]? =some ok→k≠i→(listed.setIfInBounds j true).getD k true=false→
     (∀e∈ok.after,Region.binds md e=true→e.on≠i)→oi.apart ops ok=true:=fun k ok hk hki hun hno=>by
    refine hfree k ok hk hki ?_ hno;by_cases hjk:j=k
    ·subst hjk;exact hjun
    ·rw [getD_set_ne true hjk] at hun;exact hun
   refine wpOp_mono (fun a' w' h3=> ?_) h2;obtain ⟨h4,h5⟩:=h3;rw [if_neg hTj] at h5 ⊢;refine ⟨h5.1,ih (listed.setIfInBounds j true) a' (hcl.set hj) hfree' (ready_mono hr (Ne.symm hji)) h4 ?_⟩;rw [Array.setIfInBounds_comm _ _ hji];exact h5.2
def okP2 (md:Region.Mode) (ops:Array Oper):Array Bool→List Nat→Bool
 | listed, []=>(Region.ready md ops listed).isEmpty
 | listed,i::r=>(Region.ready md ops listed== [i])&&okP2 md ops (listed.setIfInBounds i true) r
def okP1 (md:Region.Mode) (ops:Array Oper) (L2:List Nat):Array Bool→List Nat→Bool
 | listed, []=>okP2 md ops listed L2
 | listed,i::r=>(Region.ready md ops listed).contains i&&Region.free md ops listed i&& !L2.contains i&&okP1 md ops L2 (listed.setIfInBounds i true) r
def rch (md:Region.Mode) (ops:Array Oper) (L2:List Nat) (i:Nat):Bool:=L2.all fun t=>reach md ops ops.size t i
def seqM (P:Program) (md:Region.Mode) (ops:Array Oper) (Q:Exit→Act→World→Prop) (S:World→Prop) (L2:List Nat):List Nat→Act→Prop
 | [],a=>∀w,S w→wpList P ops Q (L2.filterMap fun i=>ops[i]?) a w
 | i::r,a=>∃o v,ops[i]? =some o∧(Yields P ops o v a∨(rch md ops L2 i=true∧YieldsS P ops S o v a))∧seqM P md ops Q S L2 r (a.put o.dst v)
theorem wpAny_list:∀(L:List Nat) (fuel:Nat) (listed:Array Bool) (a:Act) (w:World),L.length=fuel→okP2 md ops listed L=true→wpList P ops Q (L.filterMap fun i=>ops[i]?) a w→wpAny P md ops Q fuel listed a w
 | [],fuel,listed,a,w,hl,hok,h=>by
  subst hl;exact ⟨by simpa [okP2] using hok,h⟩
 | i::r,fuel,listed,a,w,hl,hok,h=>by
  obtain ⟨f,rfl⟩:∃f,fuel=f+1:=⟨r.length,by simp at hl;omega⟩
  unfold okP2 at hok;rw [Bool.and_eq_true] at hok;have hrd:=eq_of_beq hok.1;refine ⟨fun h0=>(by rw [hrd] at h0;cases h0),fun j hj=> ?_⟩;have hj':=hj;rw [hrd,List.mem_singleton] at hj;subst hj;obtain ⟨_,o,ho,_⟩:=mem_ready.1 hj';rw [List.filterMap_cons,ho] at h;simp only [wpList] at h;unfold wpOp;rw [ho];simp only;have ih:=fun a' w' h'=>wpAny_list r f (listed.setIfInBounds j true) a' w' (by simp at hl;omega) hok.2 h';split at h
  ·rename_i hw
   rw [if_pos hw];rcases h with h|h
   ·exact .inl (Oper.wp_mono ih h)
   ·exact .inr h
  ·rename_i hw
   rw [if_neg hw];exact ih _ _ h
theorem wpAnyM_seq (hs:Region.noSelect ops=true) (hQ:∀c (a:Act) d v w,Q (.panic c) (a.put d v) w→Q (.panic c) a w) (L2:List Nat):
  ∀(L1:List Nat) (fuel:Nat) (listed:Array Bool) (a:Act),L1.length+L2.length=fuel→Closed md ops listed→okP1 md ops L2 listed L1=true→seqM P md ops Q S L2 L1 a→wpAnyM P md ops Q S (fun i=>L2.contains i) fuel listed a:=by
 intro L1;induction L1 with
 | nil=>
  intro fuel listed a hl hcl hok h;have hx:∀w,S w→wpAny P md ops Q fuel listed a w:=fun w hS=>wpAny_list L2 fuel listed a w (by simpa using hl) hok (h w hS);cases fuel with
  | zero=>
   have hl2:L2= []:=(by simpa using hl)
   subst hl2;exact ⟨by simpa [okP1,okP2] using hok,fun w hS=>(hx w hS).2⟩
  | succ f=>
   refine ⟨fun hr w hS=>(hx w hS).1 hr,fun i hi w hS=>wpOp_mono (fun a' w' h'=> ?_) ((hx w hS).2 i hi)⟩;cases L2 with
   | nil=>simp at hl
   | cons t r=>
    unfold okP1 okP2 at hok;rw [Bool.and_eq_true] at hok;rw [eq_of_beq hok.1,List.mem_singleton] at hi;rw [if_pos (by simp [hi])];exact h'
 | cons i r ih=>
  intro fuel listed a hl hcl hok h;obtain ⟨f,rfl⟩:∃f,fuel=f+1:=⟨r.length+L2.length,by simp at hl;omega⟩
  unfold okP1 at hok;simp only [Bool.and_eq_true,Bool.not_eq_true'] at hok;obtain ⟨⟨⟨h1,h2⟩,h3⟩,h4⟩:=hok;have hr:i∈Region.ready md ops listed:=by simpa using h1
  obtain ⟨o,v,hi,hy,h⟩:=h;have hrest:=ih f (listed.setIfInBounds i true) (a.put o.dst v) (by simp at hl;omega) (hcl.set hr) h4 h;rcases hy with hy|⟨hrc,hy⟩
  ·exact wpAnyM_firstW hi (Region.noSelect_spec hs) (fun c a w h=>hQ c a _ _ w h) h3 f listed a (Region.free_spec hi h2) hr hy hrest
  ·refine wpAnyM_firstS hi (Region.noSelect_spec hs) (fun c a w h=>hQ c a _ _ w h) h3 ops.size (fun t ht=> ?_) f listed a hcl (Region.free_spec hi h2) hr hy hrest;unfold rch at hrc;rw [List.all_eq_true] at hrc;exact hrc t (by simpa using ht)
theorem wp_region_mix {id:Nat} {a:Act} {w:World} (hm:P.follows .mixedOrders=true) (S:World→Prop) (L1 L2:List Nat) (hs:Region.noSelect ops=true) (hlen:L1.length+L2.length=ops.size) (hf:okP1 .any ops L2 (Array.replicate ops.size false) L1=true)
  (hQ:∀c (a:Act) d v w,Q (.panic c) (a.put d v) w→Q (.panic c) a w) (hS:S w.drew)
  (h:seqM P .any ops Q S L2 L1 a):(Code.region id ops true).wp P Q a w:=by
 refine wp_region_any hm ?_;refine wpAny_of_mix _ _ _ _ hS (wpAnyM_seq hs hQ L2 L1 ops.size _ a hlen (fun j o hj hl=> ?_) hf h);rw [Array.getD_eq_getD_getElem?,Array.getElem?_replicate] at hl;split at hl<;>cases hl
def seqX (P:Program) (md:Region.Mode) (ops:Array Oper) (Q:Exit→Act→World→Prop) (S:World→Prop) (L2:List Nat):Nat→List Oper→List Oper→Act→Prop
 | _, [],acc,a=>∀w,S w→wpList P ops Q acc.reverse a w
 | k,o::rest,acc,a=>if L2.contains k=true then seqX P md ops Q S L2 (k+1) rest (o::acc) a else ∃v,(Yields P ops o v a∨(rch md ops L2 k=true∧YieldsS P ops S o v a))∧seqX P md ops Q S L2 (k+1) rest acc (a.put o.dst v)
theorem seqM_of_text {L2:List Nat} (hL:L2=(List.range ops.size).filter fun i=>L2.contains i):∀(r k:Nat) (acc:List Oper) (a:Act),k+r=ops.size→acc.reverse=((List.range k).filter fun i=>L2.contains i).filterMap (fun i=>ops[i]?)→
  seqX P md ops Q S L2 k (ops.toList.drop k) acc a→seqM P md ops Q S L2 ((List.range' k r).filter fun i=> !L2.contains i) a
 | 0,k,acc,a,hk,hacc,h=>by
  obtain rfl:k=ops.size:=by omega
  rw [List.drop_eq_nil_of_le (by simp)] at h;intro w hS;have:=h w hS;rw [hacc,← hL] at this;exact this
 | r+1,k,acc,a,hk,hacc,h=>by
  have hlt:k<ops.toList.length:=by simp;omega
  have hi:ops[k]? =some (ops.toList[k]):=by rw [← Array.getElem?_toList];exact List.getElem?_eq_getElem hlt
  rw [List.drop_eq_getElem_cons hlt] at h;unfold seqX at h;rw [List.range'_succ,List.filter_cons];split at h
  ·rename_i hc
   rw [if_neg (by simp only [hc];decide)];refine seqM_of_text hL r (k+1) _ a (by omega) ?_ h;rw [List.reverse_cons,hacc,List.range_succ,List.filter_append,List.filterMap_append];simp only [List.filter_cons,hc,if_true,List.filter_nil,List.filterMap_cons,hi,List.filterMap_nil]
  ·rename_i hc
   rw [if_pos (by simpa using hc)];obtain ⟨v,hy,h⟩:=h;refine ⟨_,v,hi,hy,seqM_of_text hL r (k+1) acc _ (by omega) ?_ h⟩;rw [hacc,List.range_succ,List.filter_append,List.filterMap_append];have:L2.contains k=false:=(by simpa using hc)
   simp only [List.filter_cons,this,List.filter_nil,List.filterMap_nil,List.append_nil,Bool.false_eq_true,if_false]
theorem wp_region_text {id:Nat} {a:Act} {w:World} (hm:P.follows .mixedOrders=true) (S:World→Prop) (L2:List Nat) (hs:Region.noSelect ops=true) (hL:(L2==(List.range ops.size).filter fun i=>L2.contains i)=true)
  (hlen:(((List.range' 0 ops.size).filter fun i=> !L2.contains i).length+L2.length==ops.size)=true) (hf:okP1 .any ops L2 (Array.replicate ops.size false) ((List.range' 0 ops.size).filter fun i=> !L2.contains i)=true)
  (hQ:∀c (a:Act) d v w,Q (.panic c) (a.put d v) w→Q (.panic c) a w) (hS:S w.drew)
  (h:seqX P .any ops Q S L2 0 ops.toList [] a):(Code.region id ops true).wp P Q a w:=
 wp_region_mix hm S _ L2 hs (eq_of_beq hlen) hf hQ hS (seqM_of_text (eq_of_beq hL) ops.size 0 [] a (by omega) (by simp) (by simpa using h))
variable {L2:List Nat} {k:Nat} {o:Oper} {rest acc:List Oper} {a:Act} {v:Value}
theorem seqX_skip (hk:L2.contains k=true) (h:seqX P md ops Q S L2 (k+1) rest (o::acc) a):seqX P md ops Q S L2 k (o::rest) acc a:=by
 unfold seqX;rw [if_pos hk];exact h
theorem seqX_val (hk:L2.contains k=false) (hw:Region.wanted o (yielded ops a.tmps)=true) (h:∀w,(execOp a.eval o).run P w=.ok (.value v) w) (r:seqX P md ops Q S L2 (k+1) rest acc (a.put o.dst v)):seqX P md ops Q S L2 k (o::rest) acc a:=by
 unfold seqX;rw [if_neg (by simp only [hk];decide)];exact ⟨v,.inl (.inl ⟨hw,h⟩),r⟩
theorem seqX_no (hk:L2.contains k=false) (hw:Region.wanted o (yielded ops a.tmps)=false) (r:seqX P md ops Q S L2 (k+1) rest acc (a.put o.dst undef)):seqX P md ops Q S L2 k (o::rest) acc a:=by
 unfold seqX;rw [if_neg (by simp only [hk];decide)];exact ⟨undef,.inl (.inr ⟨hw,rfl⟩),r⟩
theorem seqX_valS (hk:L2.contains k=false) (hc:rch md ops L2 k=true) (hw:Region.wanted o (yielded ops a.tmps)=true) (h:∀w,S w→(execOp a.eval o).run P w=.ok (.value v) w) (r:seqX P md ops Q S L2 (k+1) rest acc (a.put o.dst v)):seqX P md ops Q S L2 k (o::rest) acc a:=by
 unfold seqX;rw [if_neg (by simp only [hk];decide)];exact ⟨v,.inr ⟨hc,.inl ⟨hw,fun w hS=> .inl ⟨w,h w hS,hS⟩⟩⟩,r⟩
theorem seqX_call (f:Nat) (args:Array Value) (hk:L2.contains k=false) (hc:rch md ops L2 k=true) (hw:Region.wanted o (yielded ops a.tmps)=true) (h:∀w,(execOp a.eval o).run P w=.ok (.enter f args) w) (hcall:∀w,S w→Calls P f args w (fun e w'=>e=.returned v∧S w')) (r:seqX P md ops Q S L2 (k+1) rest acc (a.put o.dst v)):seqX P md ops Q S L2 k (o::rest) acc a:=by
 unfold seqX;rw [if_neg (by simp only [hk];decide)];exact ⟨v,.inr ⟨hc,.inl ⟨hw,fun w hS=> .inr ⟨f,args,w,h w,hcall w hS⟩⟩⟩,r⟩
end
end Go.Proofs.YtlcojhddnpmgmaaGreat
namespace Go.Proofs.YtlcojhddnpmgmaaGreat
open Go.RowKit
def joinOf (ps:List (List UInt8)):List UInt8:=47::Lib.join ps [47]
theorem joinOf_cons (x:List UInt8) (r:List (List UInt8)):joinOf (x::r)=Lib.joinTail [47] (x::r):=by
 rw [joinOf,Lib.join_cons];simp [Lib.joinTail]
theorem okName_no (x:List UInt8) (h:okName x=true):(∀k:Nat,x[k]? ≠some 47)∧1≤x.length∧x.length≤12:=by
 simp only [okName,Bool.and_eq_true,decide_eq_true_eq] at h;obtain ⟨⟨⟨⟨⟨h1,h2⟩,_⟩,_⟩,_⟩,h6⟩:=h;have:=Lib.indexByte_ge x 47;exact ⟨fun k=>Lib.indexByte_none (by omega) k,h1,h2⟩
theorem joinTail_len (ps:List (List UInt8)) (h:∀x∈ps,okName x=true):(Lib.joinTail [47] ps).length≤13*ps.length:=by
 induction ps with
 | nil=>simp [Lib.joinTail]
 | cons x r ih=>
  have h1:=(okName_no x (h x (by simp))).2.2;have h2:=ih (fun y hy=>h y (by simp [hy]));simp only [Lib.joinTail,List.map_cons,List.flatten_cons,List.length_append,List.length_cons,List.length_nil] at h2 ⊢;omega
theorem splitR_join (ps:List (List UInt8)) (n:Nat) (h:∀x∈ps,okName x=true) (hn:ps.length≤n):splitR n (Lib.joinTail [47] ps)=some ps:=by
 induction ps generalizing n with
 | nil=>simp [Lib.joinTail,splitR]
 | cons x r ih=>
  obtain ⟨n,rfl⟩:∃m,n=m+1:=⟨n - 1,by simp at hn;omega⟩
  have hx:=okName_no x (h x (by simp));have e:Lib.joinTail [47] (x::r)=47::(x++Lib.joinTail [47] r):=by simp [Lib.joinTail]
  have a1:∀k,k<x.length→(x++Lib.joinTail [47] r)[k]? ≠some 47:=fun k hk=>by
   rw [List.getElem?_append_left hk];exact hx.1 k
  have a2:(x++Lib.joinTail [47] r)[x.length]? =some 47∨x.length=(x++Lib.joinTail [47] r).length:=by
   rcases r with _|⟨y,r⟩
   ·right;simp [Lib.joinTail]
   ·left;rw [List.getElem?_append_right (Nat.le_refl _)];simp [Lib.joinTail]
  have a3:okName ((x++Lib.joinTail [47] r).take x.length)=true:=by
   rw [List.take_left];exact h x (by simp)
  rw [e,split_step n _ x.length a1 a2 a3,List.drop_left,List.take_left,ih n (fun y hy=>h y (by simp [hy])) (by simp at hn;omega)];rfl
theorem pathOf_join (ps:List (List UInt8)) (h:∀x∈ps,okName x=true) (hn:ps.length≤8):pathOf (joinOf ps)=some ps:=by
 rcases ps with _|⟨x,r⟩
 ·rfl
 ·have hx:=okName_no x (h x (by simp));have e:Lib.joinTail [47] (x::r)=47::(x++Lib.joinTail [47] r):=by simp [Lib.joinTail]
  rw [joinOf_cons,pathOf,if_neg,if_neg,splitR_join _ _ h hn]
  ·rw [e];simp
  ·rw [e];rcases x with _|⟨a,x⟩
   ·simp at hx
   ·simp
theorem joinOf_len (ps:List (List UInt8)) (h:∀x∈ps,okName x=true) (hn:ps.length≤8):(joinOf ps).length≤104:=by
 rcases ps with _|⟨x,r⟩
 ·decide
 ·rw [joinOf_cons];have:=joinTail_len _ h;omega
theorem splitR_ok (n:Nat) (l:List UInt8) (ps:List (List UInt8)) (h:splitR n l=some ps):(∀x∈ps,okName x=true)∧ps.length≤n:=by
 induction n generalizing l ps with
 | zero=>
  rcases l with _|⟨c,t⟩
  ·simp [splitR] at h;subst h;simp
  ·simp [splitR] at h
 | succ n ih=>
  rcases l with _|⟨c,t⟩
  ·simp [splitR] at h;subst h;simp
  ·rw [splitR] at h;split at h
   ·rename_i hc
    obtain ⟨qs,h1,rfl⟩:=Option.map_eq_some_iff.1 h;obtain ⟨h2,h3⟩:=ih _ _ h1;exact ⟨fun x hx=>by
     rcases List.mem_cons.1 hx with rfl|hx
     ·exact hc.2
     ·exact h2 x hx,by simp;omega⟩
   ·cases h
theorem pathOf_ok (l:List UInt8) (ps:List (List UInt8)) (h:pathOf l=some ps):(∀x∈ps,okName x=true)∧ps.length≤8:=by
 unfold pathOf at h;split at h
 ·cases h;simp
 ·split at h
  ·cases h
  ·exact splitR_ok 8 l ps h
theorem ownsRow_cells {w:World} {base n:Nat} {v:Value} {ps:List (List UInt8)} (h:w.ownsRow base 9 1 v n (strs ps)) (hn:n=ps.length) (hp:ps≠ []):
  ∃g c,v=.slice (some ⟨g,0,none⟩) ps.length c∧ps.length≤c∧base≤g∧g<w.heap.size∧∀(j:Nat) x,(ps.map ba)[j]? =some x→w.cell? ⟨g,0+j,none⟩=some (.string x):=by
 subst hn;rcases h.2 with ⟨rfl,h0⟩|⟨g,cap,cur,rfl,hg,hh,hn,_,hs,ht⟩
 ·exact absurd (List.eq_nil_of_length_eq_zero h0) hp
 ·refine ⟨g,cap,rfl,hn,hg,lt_of_block hh,fun j x hj=> ?_⟩;have h1:(strs ps)[j]? =some (.string x):=by
   simp only [strs,List.getElem?_map,Option.map_eq_some_iff] at hj ⊢;obtain ⟨p,hp,rfl⟩:=hj;exact ⟨p,hp,rfl⟩
  rw [← ht] at h1;have h2:cur.toList[j]? =some (.string x):=by
   rw [List.getElem?_take] at h1;split at h1
   ·exact h1
   ·cases h1
  rw [Nat.zero_add,cell_at hh];simpa using h2
theorem gjoin_ (g c k:Nat) (ps:List (List UInt8)) (w:World) (hk:k=ps.length) (hcells:∀(j:Nat) x,(ps.map ba)[j]? =some x→w.cell? ⟨g,0+j,none⟩=some (.string x)) (hg:g<w.heap.size) (hc:ps.length≤c) (hp:∀x∈ps,okName x=true) (h8:ps.length≤8):
  Calls Tryz.prog 229 #[.slice (some ⟨g,0,none⟩) k c] w fun e w'=>e=.returned (.string (ba (joinOf ps)))∧Fr No w w':=by
 subst hk;have hjl:(Lib.join ps [47]).length≤104:=by
  have:=joinOf_len ps hp h8;simp [joinOf] at this;omega
 have hmm:(ps.map ba).map (·.data.toList)=ps:=by
  rw [List.map_map]
  conv=>rhs;rw [← List.map_id ps]
  apply List.map_congr_left;intro x _;exact ba_list x
 have e47:(⟨#[47]⟩:ByteArray).data.toList= [47]:=rfl;have HJ:=lH (Tryz.strings_Join g 0 c (ps.map ba) ⟨#[47]⟩ w hcells hg (by rw [List.length_map];omega) (by rw [List.length_map];exact hc) (by rw [hmm,e47];omega));have hz:(ps.map ba).length=ps.length:=List.length_map ..;rw [hmm,hz,e47] at HJ;have hadd:(⟨#[47]⟩:ByteArray)++⟨(Lib.join ps [47]).toArray⟩=ba (joinOf ps):=by
  apply ByteArray.ext;simp [ba,joinOf]
 have hsz:¬(9223372036854775807<(⟨#[47]⟩:ByteArray).size+(⟨(Lib.join ps [47]).toArray⟩:ByteArray).size):=by
  have:(⟨(Lib.join ps [47]).toArray⟩:ByteArray).size=(Lib.join ps [47]).length:=by simp [ByteArray.size]
  rw [this];have:(⟨#[47]⟩:ByteArray).size=1:=rfl;omega
 clear hcells hp h8 hmm e47 hz hjl hg hc;generalize (Lib.join ps [47]).toArray=J at*;generalize ps.length=n at*;go_enter Tryz.func229,Tryz.ntmps229;go_wp2_with fail;refine HJ.out.mono ?_;rintro e w' ⟨rfl,hb⟩;go_wp2_with fail
 go_ret
 exact ⟨rfl,Fr.of_below hb (Nat.le_refl _)⟩
def ParentPost (w:World) (l:List UInt8) (e:Ending) (w':World):Prop:=
 Fr No w w'∧match pathOf l with
  | none=>e=.returned (.tuple #[.string ⟨#[]⟩,.string ⟨#[]⟩,.int .i64 12])
  | some []=>e=.returned (.tuple #[.string ⟨#[]⟩,.string ⟨#[]⟩,.int .i64 1])
  | some (p::ps)=>e=.returned (.tuple #[.string (ba (joinOf (p::ps).dropLast)),.string (ba ((p::ps).getLast (by simp))),.int .i64 0])
theorem gparent_ (l:List UInt8) (w:World) (hl:l.length≤1000000):Calls Tryz.prog 222 #[.string (ba l)] w (ParentPost w l):=by
 have HS:=lH (gsplit_ l w hl);have HOK:=lH (pathOf_ok l);clear hl;unfold ParentPost;unfold SplitPost at HS;generalize pathOf l=P at*;rcases P with _|_|⟨p,ps⟩
 ·go_enter Tryz.func222,Tryz.ntmps222;go_wp2_with fail;refine HS.out.mono ?_;rintro e w1 ⟨f1,rfl⟩;go_wp2_with fail;exact bodyPost_ret (v:=.tuple #[.string ⟨#[]⟩,.string ⟨#[]⟩,.int .i64 12]) (by simp [results,Tryz.results222,go_sem]) rfl ⟨f1,rfl⟩
 ·go_enter Tryz.func222,Tryz.ntmps222;go_wp2_with fail;refine HS.out.mono ?_;rintro e w1 ⟨f1,v,rfl,hown⟩;obtain ⟨a,cap,rfl⟩:=hown.shape;go_wp2_with fail;exact bodyPost_ret (v:=.tuple #[.string ⟨#[]⟩,.string ⟨#[]⟩,.int .i64 1]) (by simp [results,Tryz.results222,go_sem]) rfl ⟨f1,rfl⟩
 ·obtain ⟨ho,h8⟩:=HOK.out (p::ps) rfl;have HO:=lH ho;clear ho;go_enter Tryz.func222,Tryz.ntmps222;go_wp2_with fail;refine HS.out.mono ?_;rintro e w1 ⟨f1,v,rfl,hown⟩;obtain ⟨g,c,rfl,hc,_,hg,hcells⟩:=ownsRow_cells hown rfl (by simp);have hn:(p::ps).length=ps.length+1:=rfl;rw [hn] at hc h8 ⊢;have hd:ps.length=(p::ps).dropLast.length:=by simp
  have HJ:=lH (gjoin_ g c ps.length (p::ps).dropLast w1.drew hd (fun j x hj=>hcells j x (by
   rw [List.map_dropLast] at hj;simp only [List.getElem?_dropLast] at hj;split at hj
   ·exact hj
   ·cases hj)) hg (by omega) (fun x hx=>HO.out x (List.dropLast_subset _ hx)) (by omega))
  have hlast:w1.cell? ⟨g,ps.length,none⟩=some (.string (ba ((p::ps).getLast (by simp)))):=by
   have:=hcells ps.length (ba ((p::ps).getLast (by simp))) (by
    rw [List.getElem?_map,List.getLast_eq_getElem];simp)
   rw [Nat.zero_add] at this;exact this
  have HL:=lH hlast;clear hcells hown hd hn;generalize hDD:(p::ps).dropLast=D at*;generalize hTT:(p::ps).getLast (by simp)=T at*;have HD:=lH hDD;have HT:=lH hTT;clear hDD hTT;generalize hnn:ps.length=n at*;clear hnn;have q1:(0:Int)≤(n:Int):=by omega
  have q2:(n:Int)≤(c:Int):=by omega
  have q3:(n:Int)+1≤(c:Int):=by omega
  have q4:((n+1:Nat):Int) - 1=n:=by omega
  have q5:(n:Int)<(n:Int)+1:=by omega
  go_wp2_with fail;go_region_held3 (fun w'=>w'.cell? ⟨g,n,none⟩=some (.string (ba T))) (first|go_keep|exact f3.cell_of (by assumption) id)
   ((go_at_call 229;refine HJ.out.mono ?_;rintro e w3 ⟨rfl,f3⟩))
  all_goals
   go_wp2_with fail
   go_ret3
   refine ⟨f1.drew.trans f3 (fun _ _ e=>e),?_⟩;rw [← HD.out,← HT.out];rfl
theorem prefix_all {k l:List (List UInt8)} (hk:k.length≤l.length) (h:∀i,i<k.length→k[i]? =l[i]?):k.isPrefixOf l=true:=by
 rw [List.isPrefixOf_iff_prefix,List.prefix_iff_eq_take];apply List.ext_getElem?;intro i;rw [List.getElem?_take];split
 ·rename_i hi;exact h i hi
 ·rename_i hi;exact List.getElem?_eq_none (by omega)
theorem prefix_not {k l:List (List UInt8)} {i:Nat} (hi:i<k.length) (h:k[i]? ≠l[i]?):k.isPrefixOf l=false:=by
 rw [← Bool.not_eq_true,List.isPrefixOf_iff_prefix,List.prefix_iff_eq_take];intro e;apply h;rw [e] at hi
 conv=>lhs;rw [e]
 rw [List.getElem?_take,if_pos];simp at hi;omega
theorem gwithin_ (a b:List UInt8) (l k:List (List UInt8)) (w:World) (ha:a.length≤1000000) (hb:b.length≤1000000) (hl:pathOf a=some l) (hk:pathOf b=some k):
  Calls Tryz.prog 198 #[.string (ba a),.string (ba b)] w fun e w'=>e=.returned (.bool (k.isPrefixOf l))∧Fr No w w':=by
 have h1:∀w,Calls Tryz.prog 125 #[.string (ba a)] w fun e w'=>Fr No w w'∧∃v,e=.returned (.tuple #[v,.int .i64 0])∧w'.ownsRow w.heap.size 9 1 v l.length (strs l):=fun w=>(gsplit_ a w ha).mono (fun e w' h=>by unfold SplitPost at h;rw [hl] at h;exact h);have h2:∀w,Calls Tryz.prog 125 #[.string (ba b)] w fun e w'=>Fr No w w'∧∃v,e=.returned (.tuple #[v,.int .i64 0])∧w'.ownsRow w.heap.size 9 1 v k.length (strs k):=fun w=>(gsplit_ b w hb).mono (fun e w' h=>by unfold SplitPost at h;rw [hk] at h;exact h);have hl8:=(pathOf_ok a l hl).2;have hk8:=(pathOf_ok b k hk).2;have H1:=lH h1;have H2:=lH h2;clear h1 h2 hl hk ha hb;by_cases hgt:l.length<k.length
 ·have HR:Hid (k.isPrefixOf l=false):=lH (by
   rw [← Bool.not_eq_true,List.isPrefixOf_iff_prefix];intro h;have:=h.length_le;omega)
  have q1:(l.length:Int)<(k.length:Int):=by omega
  go_enter Tryz.func198,Tryz.ntmps198;go_wp2_with fail;refine (H1.out _).mono ?_;rintro e w1 ⟨f1,v1,rfl,o1⟩;obtain ⟨a1,c1,rfl⟩:=o1.shape;clear o1;go_wp2_with fail;refine (H2.out _).mono ?_;rintro e w2 ⟨f2,v2,rfl,o2⟩;obtain ⟨a2,c2,rfl⟩:=o2.shape;clear o2;go_wp2_with fail
  go_ret
  exact ⟨by rw [HR.out];rfl,f1.trans f2 (fun _ _ e=>e)⟩
 ·have q1:¬(l.length:Int)<(k.length:Int):=by omega
  rcases hk0:k with _|⟨k0,kt⟩
  ·subst hk0;go_enter Tryz.func198,Tryz.ntmps198;go_wp2_with fail;refine (H1.out _).mono ?_;rintro e w1 ⟨f1,v1,rfl,o1⟩;obtain ⟨a1,c1,rfl⟩:=o1.shape;clear o1;go_wp2_with fail;refine (H2.out _).mono ?_;rintro e w2 ⟨f2,v2,rfl,o2⟩;obtain ⟨a2,c2,rfl⟩:=o2.shape;clear o2;go_wp2_with fail;refine wp_loop_rounds 1 ?_;rw [rounds_succ];go_wp2_with fail
   go_ret
   exact ⟨rfl,f1.trans f2 (fun _ _ e=>e)⟩
  ·have hkn:k≠ []:=by rw [hk0];simp
   rw [← hk0];clear hk0;have hln:l≠ []:=by
    rintro rfl;have:=List.length_pos_iff.2 hkn;have h0:([]:List (List UInt8)).length=0:=rfl;omega
   have HKN:=lH hkn;have HLN:=lH hln;clear hkn hln;go_enter Tryz.func198,Tryz.ntmps198;go_wp2_with fail;refine (H1.out _).mono ?_;rintro e w1 ⟨f1,v1,rfl,o1⟩;obtain ⟨g1,c1,rfl,hc1,_,_,hcs1⟩:=ownsRow_cells o1 rfl HLN.out;have HC1:=lH hcs1;clear o1 hcs1;go_wp2_with fail;refine (H2.out _).mono ?_;rintro e w2 ⟨f2,v2,rfl,o2⟩;obtain ⟨g2,c2,rfl,hc2,_,_,hcs2⟩:=ownsRow_cells o2 rfl HKN.out;have HC2:=lH hcs2;clear o2 hcs2;go_wp2_with fail;go_loopw [36] (fun i wr=>∃j:Nat,i=.int .i64 j∧j≤k.length∧Hid (∀i,i<j→k[i]? =l[i]?)∧wr=w2) (fun i _=>k.length - (intOf i).toNat)
   case atStart=>exact ⟨0,rfl,Nat.zero_le _,lH (fun i hi=>by omega),rfl⟩
   case round=>
    obtain ⟨j,rfl,hj,HE,rfl⟩:=hrel;by_cases hlt:j<k.length
    ·have q2:(j:Int)<(k.length:Int):=by omega
     have q3:(0:Int)≤(j:Int):=(by omega)
     have q4:(j:Int)<(l.length:Int):=(by omega)
     have e1:wr.cell? ⟨g1,j,none⟩=some (.string (ba (l[j]'(by omega)))):=by
      have:=f2.cell_of (HC1.out j (ba (l[j]'(by omega))) (by rw [List.getElem?_map,List.getElem?_eq_getElem (by omega)];rfl)) id;rw [Nat.zero_add] at this;exact this
     have e2:wr.cell? ⟨g2,j,none⟩=some (.string (ba (k[j]'(by omega)))):=by
      have:=HC2.out j (ba (k[j]'(by omega))) (by rw [List.getElem?_map,List.getElem?_eq_getElem (by omega)];rfl);rw [Nat.zero_add] at this;exact this
     have hel:k[j]? =some (k[j]'(by omega)):=List.getElem?_eq_getElem _;have hel2:l[j]? =some (l[j]'(by omega)):=List.getElem?_eq_getElem _;generalize l[j]'(by omega)=x at*;generalize k[j]'(by omega)=y at*;have EL:=lH hel;have EL2:=lH hel2;clear hel hel2;by_cases hxy:x=y
     ·have q5:((ba x).toList==(ba y).toList)=true:=by rw [hxy];simp
      have HE2:Hid (∀i,i<j+1→k[i]? =l[i]?):=lH (fun i hi=>by
       by_cases e:i=j
       ·rw [e,EL.out,EL2.out,hxy]
       ·exact HE.out i (by omega))
      clear hxy;go_wp2_with fail;go_roundw
      case rel=>exact ⟨j+1,by go_num,hlt,HE2,trivial⟩
      case measure=>simp [intOf];omega
     ·have q5:((ba x).toList==(ba y).toList)=false:=by
       rw [beq_eq_false_iff_ne,ba_toList,ba_toList];exact hxy
      have HR:Hid (k.isPrefixOf l=false):=lH (prefix_not hlt (by rw [EL.out,EL2.out];exact fun e=>hxy (Option.some.inj e).symm));clear hxy;go_wp2_with fail
      go_ret
      exact ⟨by rw [HR.out];rfl,f1.trans f2 (fun _ _ e=>e)⟩
    ·obtain rfl:j=k.length:=by omega
     have HR:Hid (k.isPrefixOf l=true):=lH (prefix_all (by omega) HE.out);have q2:¬(k.length:Int)<(k.length:Int):=(by omega)
     go_wp2_with fail
     go_ret
     exact ⟨by rw [HR.out];rfl,f1.trans f2 (fun _ _ e=>e)⟩
open Go.WideElems (Fit rd rg pl rd_val)
structure Enc (K V:Type) where
 k:TypeId
 law:Go.Maps.Keyed Tryz.prog k
 ek:K→Value
 lk:K→Lit
 good:K→Prop
 key:∀x,good x→keyOf Tryz.prog k (ek x)=some (lk x)
 inv:∀v l,keyOf Tryz.prog k v=some l→∃x,good x∧v=ek x∧l=lk x
 einj:∀x y,ek x=ek y→x=y
 R:Value→Option (DataW Unit×List MemPlace)
 ev:V→Value
 dv:V→DataW Unit
 fine:V→Prop
 read:∀y,fine y→R (ev y)=some (dv y, [])
 rinv:∀v z,R v=some z→∃y,fine y∧v=ev y∧z=(dv y, [])
 dinj:∀y z,dv y=dv z→y=z
theorem Enc.linj {K V:Type} (E:Enc K V) {x y:K} (hx:E.good x) (hy:E.good y) (h:E.lk x=E.lk y):x=y:=
 E.einj _ _ (E.law.inj (E.key x hx) (h▸E.key y hy))
variable {K V:Type} {E:Enc K V} {w w':World} {b c:Nat} {m:K→Option V}
structure Tells (E:Enc K V) (D:DataW Unit) (m:K→Option V):Prop where
 tidy:Maps.Tidy D
 some:∀x y,m x=some y→E.good x∧E.fine y∧Maps.has D (E.lk x)=true∧∀zd,D.atKey (E.lk x) zd=E.dv y
 none:∀x,E.good x→m x=none→Maps.has D (E.lk x)=false
def MapAt (E:Enc K V) (w:World) (b c:Nat) (m:K→Option V):Prop:=∃D,w.ownsMap Tryz.prog E.k E.R b c D∧Maps.size D=c∧Tells E D m
theorem owns_tight {P:Program} {k:TypeId} {R:Value→Option (DataW Unit×List MemPlace)} {n:Nat} {D:DataW Unit} (h:w.ownsMap P k R b n D):w.ownsMap P k R b (Maps.size D) D:=by
 obtain ⟨es,clock,hb,F,hs,rfl⟩:=h;exact ⟨es,clock,hb,F,by simp [Maps.size,length_read],rfl⟩
theorem MapAt.fr {S:Nat→Prop} (h:MapAt E w b c m) (f:Fr S w w') (hb:¬S b):MapAt E w' b c m:=by
 obtain ⟨D,⟨es,clock,hk,F,hs,hD⟩,hz,ht⟩:=h;exact ⟨D,⟨es,clock,f.block_of hk hb,F,hs,hD⟩,hz,ht⟩
theorem MapAt.lt (h:MapAt E w b c m):b<w.heap.size:=by
 obtain ⟨D,ho,_⟩:=h;exact ho.lt
theorem MapAt.made (E:Enc K V) (w:World):MapAt E (w.alloc (.map #[] 0)) w.heap.size 0 (fun _=>none):=
 ⟨.map [],World.ownsMap_made w _ _ _,rfl,⟨Maps.tidy_empty,fun _ _ h=>(nomatch h),fun _ _ _=>rfl⟩⟩
theorem MapAt.good (h:MapAt E w b c m) {x:K} {y:V} (hx:m x=some y):E.good x∧E.fine y:=by
 obtain ⟨D,_,_,t⟩:=h;obtain ⟨h1,h2,_⟩:=t.some x y hx;exact ⟨h1,h2⟩
theorem MapAt.look (h:MapAt E w b c m) (x:K) (hx:E.good x) {t e:TypeId} (ht:Tryz.prog.underlying t=some (.map E.k e)) {z:Value} (hz:(zeroValue e).run Tryz.prog w=.ok z w) (ok:Bool):
  (Instr.lookup t (.map (some b)) (E.ek x) ok).run Tryz.prog w=.ok (match m x with
    | some y=>if ok then .tuple #[E.ev y,.bool true] else E.ev y
    | none=>if ok then .tuple #[z,.bool false] else z) w:=by
 obtain ⟨D,⟨es,clock,hk,F,hs,rfl⟩,hc,T⟩:=h;rcases Maps.fit_look ok E.law ht hz hk F (E.key x hx) with ⟨hrun,_,hat⟩|⟨e0,y,_,_,hrun,hR,hat,_⟩
 ·cases hm:m x with
  | none=>exact hrun
  | some y=>
   obtain ⟨_,_,hh,_⟩:=T.some x y hm;rw [Maps.has_false_of_atKey hat] at hh;cases hh
 ·cases hm:m x with
  | none=>
   have:=T.none x hx hm;rw [Maps.has_true_of_atKey hat] at this;cases this
  | some y'=>
   obtain ⟨_,_,_,h4⟩:=T.some x y' hm;obtain ⟨y2,_,e1,e2⟩:=E.rinv _ _ hR;have h5:=(hat (.map [])).symm.trans (h4 (.map []));rw [e2] at h5;obtain rfl:=E.dinj _ _ h5;rw [e1] at hrun;exact hrun
theorem isKeyLit (E:Enc K V) {x:K} (hx:E.good x):WideAt.IsKeyLit (E.lk x):=E.law.key (E.key x hx)
theorem MapAt.put [DecidableEq K] (h:MapAt E w b c m) (x:K) (y:V) (hx:E.good x) (hy:E.fine y) (hc:c<4611686018427387904) {t e:TypeId} (ht:Tryz.prog.underlying t=some (.map E.k e)):
  ∃w',(Instr.mapUpdate t (.map (some b)) (E.ek x) (E.ev y)).run Tryz.prog w=.ok () w'∧MapAt E w' b (if (m x).isSome then c else c+1) (fun z=>if z=x then some y else m z)∧Fr (· =b) w w':=by
 obtain ⟨D,ho,hz,T⟩:=h;obtain ⟨w',hrun,ho',hg⟩:=ho.update E.law ht (by unfold maxLen;omega) (E.key x hx) (E.read y hy);refine ⟨w',hrun,⟨D.put (E.lk x) (E.dv y),?_,?_,T.tidy.put (isKeyLit E hx) _,?_,?_⟩,⟨hg.os,hg.tape,hg.output,hg.size,fun k hk hn=>hg.block k hk (fun e=>hn (Option.some.inj e))⟩⟩
 ·have:=owns_tight ho';rw [Maps.size_put T.tidy] at this;cases hm:m x with
  | none=>rw [T.none x hx hm,hz] at this;simpa using this
  | some y0=>rw [(T.some x y0 hm).2.2.1,hz] at this;simpa using this
 ·rw [Maps.size_put T.tidy];cases hm:m x with
  | none=>rw [T.none x hx hm,hz];simp
  | some y0=>rw [(T.some x y0 hm).2.2.1,hz];simp
 ·intro x' y' h';by_cases e:x'=x
  ·subst e;simp at h';subst h';exact ⟨hx,hy,Maps.has_put_same T.tidy.isMap (isKeyLit E hx) _,fun zd=>Maps.atKey_put_same T.tidy.isMap (isKeyLit E hx) _ _⟩
  ·simp [e] at h';obtain ⟨h1,h2,h3,h4⟩:=T.some x' y' h';have hne:E.lk x'≠E.lk x:=fun e'=>e (E.linj h1 hx e');exact ⟨h1,h2,by rw [Maps.has_put_other hne];exact h3,fun zd=>by rw [Maps.atKey_put_other hne];exact h4 zd⟩
 ·intro x' hx' h';by_cases e:x'=x
  ·simp [e] at h'
  ·simp [e] at h';rw [Maps.has_put_other (fun e'=>e (E.linj hx' hx e'))];exact T.none x' hx' h'
theorem MapAt.del [DecidableEq K] (h:MapAt E w b c m) (x:K) (hx:E.good x) {t e:TypeId} (ht:Tryz.prog.underlying t=some (.map E.k e)) (ty:TypeId):
  ∃w',(Builtin.delete_ #[t,E.k] ty #[.map (some b),E.ek x]).run Tryz.prog w=.ok (.tuple #[]) w'∧MapAt E w' b (if (m x).isSome then c - 1 else c) (fun z=>if z=x then none else m z)∧Fr (· =b) w w':=by
 obtain ⟨D,ho,hz,T⟩:=h;obtain ⟨w',hrun,ho',ht'⟩:=ho.drop E.law ht (E.key x hx) ty;have hg:=ht'.grown;have hsz:=Maps.size_del (k:=E.lk x) T.tidy;refine ⟨w',hrun,⟨D.del (E.lk x),?_,?_,T.tidy.del _,?_,?_⟩,⟨hg.os,hg.tape,hg.output,hg.size,fun k hk hn=>hg.block k hk (fun e=>hn (Option.some.inj e))⟩⟩
 ·have:=owns_tight ho';cases hm:m x with
  | none=>rw [T.none x hx hm,hz] at hsz;simp at hsz;rw [hsz] at this;simpa using this
  | some y0=>rw [(T.some x y0 hm).2.2.1,hz] at hsz;simp at hsz;rw [show Maps.size (D.del (E.lk x))=c - 1 by omega] at this;simpa using this
 ·cases hm:m x with
  | none=>rw [T.none x hx hm,hz] at hsz;simpa using hsz
  | some y0=>rw [(T.some x y0 hm).2.2.1,hz] at hsz;simp at hsz ⊢;omega
 ·intro x' y' h';by_cases e:x'=x
  ·simp [e] at h'
  ·simp [e] at h';obtain ⟨h1,h2,h3,h4⟩:=T.some x' y' h';have hne:E.lk x'≠E.lk x:=fun e'=>e (E.linj h1 hx e');exact ⟨h1,h2,by rw [Maps.has_del_other hne];exact h3,fun zd=>by rw [Maps.atKey_del_other hne];exact h4 zd⟩
 ·intro x' hx' h';by_cases e:x'=x
  ·subst e;exact Maps.has_del_same
  ·simp [e] at h';rw [Maps.has_del_other (fun e'=>e (E.linj hx' hx e'))];exact T.none x' hx' h'
theorem MapAt.len (h:MapAt E w b c m) {t e:TypeId} (ht:Tryz.prog.underlying t=some (.map E.k e)) (ty:TypeId):(Builtin.len_ #[t] ty #[.map (some b)]).run Tryz.prog w=.ok (.int .i64 c) w:=by
 obtain ⟨D,ho,hz,T⟩:=h;have:=ho.len ht ty;rw [hz] at this;exact this
def RangeAt (E:Enc K V) (w:World) (b r c:Nat) (m:K→Option V) (left:K→Bool) (cnt:Nat):Prop:=
 ∃D lf,w.ranges Tryz.prog E.k E.R b r c D lf cnt∧Maps.size D=c∧Tells E D m∧∀x,E.good x→lf (E.lk x)=left x
theorem RangeAt.map {r:Nat} {left:K→Bool} {cnt:Nat} (h:RangeAt E w b r c m left cnt):MapAt E w b c m:=by
 obtain ⟨D,lf,h1,h2,h3,_⟩:=h;exact ⟨D,h1.owns,h2,h3⟩
theorem RangeAt.fr {S:Nat→Prop} {r:Nat} {left:K→Bool} {cnt:Nat} (h:RangeAt E w b r c m left cnt) (f:Fr S w w') (hb:¬S b) (hr:¬S r):RangeAt E w' b r c m left cnt:=by
 obtain ⟨D,lf,⟨es,clock,since,seen,c0,e1,e2,e3,e4,e5,e6⟩,h2⟩:=h;exact ⟨D,lf,⟨es,clock,since,seen,c0,f.block_of e1 hb,e2,e3,e4,f.block_of e5 hr,e6⟩,h2⟩
theorem RangeAt.lt {r:Nat} {left:K→Bool} {cnt:Nat} (h:RangeAt E w b r c m left cnt):r<w.heap.size:=by
 obtain ⟨D,lf,h1,_⟩:=h;exact h1.lt
theorem RangeAt.ne {r:Nat} {left:K→Bool} {cnt:Nat} (h:RangeAt E w b r c m left cnt):r≠b:=by
 obtain ⟨D,lf,h1,_⟩:=h;exact h1.ne
theorem MapAt.range (h:MapAt E w b c m) {t e:TypeId} (ht:Tryz.prog.underlying t=some (.map E.k e)):
  ∃w',(Instr.range t (.map (some b))).run Tryz.prog w=.ok (.pointer (some ⟨w.heap.size,0,none⟩)) w'∧RangeAt E w' b w.heap.size c m (fun x=>(m x).isSome) c∧Fr No w w'∧w'.heap.size=w.heap.size+1:=by
 obtain ⟨D,ho,hz,T⟩:=h;obtain ⟨w',hrun,hr,hg,hs⟩:=ho.range E.law ht;rw [hz] at hr;refine ⟨w',hrun,⟨D,_,hr,hz,T,fun x hx=> ?_⟩,⟨hg.os,hg.tape,hg.output,hg.size,fun k hk _=>hg.block k hk (by simp)⟩,hs⟩;cases hm:m x with
 | none=>rw [T.none x hx hm];simp [hm]
 | some y=>rw [(T.some x y hm).2.2.1];simp [hm]
theorem RangeAt.next [DecidableEq K] {r:Nat} {left:K→Bool} {cnt:Nat} (h:RangeAt E w b r c m left cnt) (ty:TypeId):
  (cnt=0∧(∀x,E.good x→left x=false)∧(Instr.next (.pointer (some ⟨r,0,none⟩)) false ty).run Tryz.prog w=.ok (.tuple #[.bool false]) w)∨
  ∃x y w' cnt',m x=some y∧left x=true∧(Instr.next (.pointer (some ⟨r,0,none⟩)) false ty).run Tryz.prog w=.ok (.tuple #[.bool true,E.ek x,E.ev y]) w'∧
   RangeAt E w' b r c m (fun z=>left z&&decide (z≠x)) cnt'∧cnt'<cnt∧Fr (· =r) w w'∧w'.heap.size=w.heap.size∧(Instr.entry (.pointer (some ⟨r,0,none⟩))).run Tryz.prog w'=.ok (.tuple #[E.ek x,E.ev y]) w':=by
 obtain ⟨D,lf,h1,hz,T,hl⟩:=h;rcases h1.next E.law ty with ⟨h0,hno,hrun⟩|⟨key,v,kl,y,w',cnt',hkey,hlk,hv,hat,hrun,hrg,hlt,hg,hs,hen⟩
 ·exact .inl ⟨h0,fun x hx=>by rw [← hl x hx];exact hno _,hrun⟩
 ·obtain ⟨x,hx,rfl,rfl⟩:=E.inv _ _ hkey;obtain ⟨y0,hy,rfl,rfl⟩:=E.rinv _ _ hv;have hm:m x=some y0:=by
   cases hm:m x with
   | none=>
    have:=T.none x hx hm;rw [Maps.has_true_of_atKey hat] at this;cases this
   | some y1=>
    have h5:=(hat (.map [])).symm.trans ((T.some x y1 hm).2.2.2 (.map []));rw [E.dinj _ _ h5]
  refine .inr ⟨x,y0,w',cnt',hm,by rw [← hl x hx];exact hlk,hrun,⟨D,_,hrg,hz,T,fun z hz'=> ?_⟩,hlt,⟨hg.os,hg.tape,hg.output,hg.size,fun k hk hn=>hg.block k hk (fun e=>hn (Option.some.inj e))⟩,hs,hen⟩;rw [hl z hz'];by_cases e:z=x
  ·subst e;simp [WideAt.sameKey_self (isKeyLit E hx)]
  ·simp [e,Maps.sameKey_ne (fun e'=>e (E.linj hz' hx e'))]
theorem Tryz.laidOut:laidOutB Tryz.prog=true:=by kernel_rfl
theorem Tryz.keyType46:Tryz.prog.keyType 46=true:=by kernel_rfl
theorem Tryz.keyTypeAt46:Tryz.prog.keyTypeAt 2 46=true:=by kernel_rfl
theorem Tryz.cells46:Tryz.prog.cellsOf 46=3:=by kernel_rfl
theorem Tryz.cells3:Tryz.prog.cellsOf 3=1:=by kernel_rfl
theorem Tryz.row46:(46:TypeId)<Tryz.prog.types.size:=of_decide_eq_true (by kernel_rfl)
theorem Tryz.wide46:(match Tryz.prog.underlying 46 with|some (.array _ _)|some (.struct _)=>true|_=>false)=true:=by rw [Tryz.underlying46]
set_option maxRecDepth 1000000 in
theorem Tryz.law46:WideMaps.KeyLaw Tryz.prog 46:=deep_law_laid Tryz.laidOut (m:=2) (by omega) Tryz.row46 Tryz.keyTypeAt46 Tryz.wide46
abbrev Stp:=Int×Int×Int
def stpV (x:Stp):Value:=.agg #[.int .i64 x.1,.int .i64 x.2.1,.int .i64 x.2.2]
def stpL (x:Stp):Lit:=.string (keyBytes [.int .i64 x.1,.int .i64 x.2.1,.int .i64 x.2.2])
def stpGood (x:Stp):Prop:=I64 x.1∧I64 x.2.1∧I64 x.2.2
theorem wf_i64 (x:Int):(Lit.int .i64 x).wf=true↔I64 x:=by
 have h1:IntKind.i64.min= -9223372036854775808:=by decide
 simp [Lit.wf,I64,h1]
theorem int3 (v:Value) (ls:List Lit) (n:Nat):Tryz.prog.keyLits (n+1) 3 [v]=some ls↔∃x,I64 x∧v=.int .i64 x∧ls= [.int .i64 x]:=by
 have h3:=Tryz.underlying3;unfold Program.keyLits;rw [h3];cases v<;>simp
 rename_i k a
 constructor
 ·rintro ⟨⟨rfl,h⟩,rfl⟩;exact ⟨a,(wf_i64 a).1 h,⟨rfl,rfl⟩,rfl⟩
 ·rintro ⟨x,h,⟨rfl,rfl⟩,rfl⟩;exact ⟨⟨rfl,(wf_i64 _).2 h⟩,rfl⟩
theorem keyLits46 (a b c:Value) (ls:List Lit) (n:Nat):Tryz.prog.keyLits (n+2) 46 [a,b,c]=some ls↔∃x,stpGood x∧a=.int .i64 x.1∧b=.int .i64 x.2.1∧c=.int .i64 x.2.2∧ls= [.int .i64 x.1,.int .i64 x.2.1,.int .i64 x.2.2]:=by
 have h:=Tryz.underlying46;unfold Program.keyLits;rw [h];simp [Tryz.cells46,Tryz.cells3];have yes:∀x,I64 x→Tryz.prog.keyLits (n+1) 3 [.int .i64 x]=some [.int .i64 x]:=fun x hx=>(int3 _ _ n).2 ⟨x,hx,rfl,rfl⟩;constructor
 ·intro hb;obtain ⟨la,h1,h2⟩:=Option.bind_eq_some_iff.1 hb;obtain ⟨x,hx,rfl,rfl⟩:=(int3 _ _ n).1 h1;simp only [Function.comp,Option.map_eq_some_iff] at h2;obtain ⟨lz,h3,rfl⟩:=h2;obtain ⟨lb,h4,h5⟩:=Option.bind_eq_some_iff.1 h3;obtain ⟨lc,h6,h7⟩:=Option.bind_eq_some_iff.1 h4;obtain ⟨y,hy,rfl,rfl⟩:=(int3 _ _ n).1 h6;obtain ⟨ld,h8,h9⟩:=Option.bind_eq_some_iff.1 h7;obtain ⟨le,h10,h11⟩:=Option.bind_eq_some_iff.1 h8;obtain ⟨z,hz,rfl,rfl⟩:=(int3 _ _ n).1 h10;cases h11;cases h9;cases h5;exact ⟨x,y,z,⟨hx,hy,hz⟩,rfl,rfl,rfl,rfl⟩
 ·rintro ⟨x,y,z,⟨hx,hy,hz⟩,rfl,rfl,rfl,rfl⟩;simp [yes x hx,yes y hy,yes z hz]
set_option maxRecDepth 1000000 in
theorem keyOf46 (v:Value) (l:Lit):keyOf Tryz.prog 46 v=some l↔∃x,stpGood x∧v=stpV x∧l=stpL x:=by
 have h:=Tryz.underlying46;obtain ⟨n,hn⟩:∃n,Tryz.prog.types.size+1=n+2:=⟨Tryz.prog.types.size - 1,by have:(46:Nat)<Tryz.prog.types.size:=Tryz.row46;omega⟩
 unfold keyOf;rw [h,Tryz.keyType46,hn];simp;constructor
 ·rintro ⟨hf,ls,hl,rfl⟩;cases v with
  | agg cs=>
   simp [Value.formed,h,Tryz.cells46] at hf;rcases cs with ⟨cs⟩
   match cs,hf with
   | [a,b,c],_=>
    obtain ⟨x,hx,rfl,rfl,rfl,rfl⟩:=(keyLits46 a b c ls n).1 hl;exact ⟨x.1,x.2.1,x.2.2,hx,rfl,rfl⟩
  | _=>simp [Value.formed,h] at hf
 ·rintro ⟨a,b,c,hx,rfl,rfl⟩;exact ⟨by simp [Value.formed,h,stpV,Tryz.cells46],_,(keyLits46 _ _ _ _ n).2 ⟨(a,b,c),hx,rfl,rfl,rfl,rfl⟩,rfl⟩
theorem keyOf3 (v:Value) (l:Lit):keyOf Tryz.prog 3 v=some l↔∃x,I64 x∧v=.int .i64 x∧l=.int .i64 x:=by
 have h:=Tryz.underlying3;unfold keyOf;rw [h];unfold mapKey;rw [h];cases v<;>simp
 rename_i k a
 constructor
 ·rintro ⟨⟨rfl,h⟩,rfl⟩;exact ⟨a,(wf_i64 a).1 h,⟨rfl,rfl⟩,rfl⟩
 ·rintro ⟨x,h,⟨rfl,rfl⟩,rfl⟩;exact ⟨⟨rfl,(wf_i64 _).2 h⟩,rfl⟩
theorem keyOf9 (v:Value) (l:Lit):keyOf Tryz.prog 9 v=some l↔∃s:ByteArray,s.size≤maxLen∧v=.string s∧l=.string s.data.toList:=by
 have h:=Tryz.underlying9;unfold keyOf;rw [h];unfold mapKey;rw [h];cases v<;>simp
 constructor
 ·rintro ⟨h,rfl⟩;exact ⟨_,h,rfl,rfl⟩
 ·rintro ⟨s,h,rfl,rfl⟩;exact ⟨h,rfl⟩
def ptrR (v:Value):Option (DataW Unit×List MemPlace):=match v with
 | .pointer (some ⟨b,0,none⟩)=>some (.lit (.int .i64 b), [])
 | _=>none
def intR (v:Value):Option (DataW Unit×List MemPlace):=match v with
 | .int .i64 x=>some (.lit (.int .i64 x), [])
 | _=>none
abbrev Us:=Int×Int×Int
def useV (x:Stp×Us):Value:=.agg #[.int .i64 x.1.1,.int .i64 x.1.2.1,.int .i64 x.1.2.2,.int .i64 x.2.1,.int .i64 x.2.2.1,.int .i64 x.2.2.2]
def useD (x:Stp×Us):DataW Unit:=.agg [.lit (.int .i64 x.1.1),.lit (.int .i64 x.1.2.1),.lit (.int .i64 x.1.2.2),.lit (.int .i64 x.2.1),.lit (.int .i64 x.2.2.1),.lit (.int .i64 x.2.2.2)]
def useR (v:Value):Option (DataW Unit×List MemPlace):=match v with
 | .agg ⟨[.int .i64 a,.int .i64 b,.int .i64 c,.int .i64 d,.int .i64 e,.int .i64 f]⟩=>some (useD ((a,b,c),(d,e,f)), [])
 | _=>none
theorem ptrR_inv (v:Value) (z:DataW Unit×List MemPlace) (h:ptrR v=some z):∃b:Nat,True∧v=.pointer (some ⟨b,0,none⟩)∧z=(.lit (.int .i64 b), []):=by
 unfold ptrR at h;split at h
 ·cases h;exact ⟨_,trivial,rfl,rfl⟩
 ·cases h
theorem intR_inv (v:Value) (z:DataW Unit×List MemPlace) (h:intR v=some z):∃x:Int,True∧v=.int .i64 x∧z=(.lit (.int .i64 x), []):=by
 unfold intR at h;split at h
 ·cases h;exact ⟨_,trivial,rfl,rfl⟩
 ·cases h
theorem useR_inv (v:Value) (z:DataW Unit×List MemPlace) (h:useR v=some z):∃x,True∧v=useV x∧z=(useD x, []):=by
 unfold useR at h;split at h
 ·cases h;exact ⟨((_,_,_),(_,_,_)),trivial,rfl,rfl⟩
 ·cases h
def encI:Enc Int Nat where
 k:=3
 law:=Maps.int_keyed Tryz.underlying3
 ek x:=.int .i64 x
 lk x:=.int .i64 x
 good:=I64
 key x hx:=(keyOf3 _ _).2 ⟨x,hx,rfl,rfl⟩
 inv v l h:=(keyOf3 v l).1 h
 einj x y h:=by cases h;rfl
 R:=ptrR
 ev b:=.pointer (some ⟨b,0,none⟩)
 dv b:=.lit (.int .i64 b)
 fine _:=True
 read _ _:=rfl
 rinv:=ptrR_inv
 dinj y z h:=by
  have h':(y:Int)=(z:Int):=by simpa using h
  omega
def encS:Enc ByteArray Int where
 k:=9
 law:=Maps.string_keyed Tryz.underlying9
 ek s:=.string s
 lk s:=.string s.data.toList
 good s:=s.size≤maxLen
 key s hs:=(keyOf9 _ _).2 ⟨s,hs,rfl,rfl⟩
 inv v l h:=(keyOf9 v l).1 h
 einj x y h:=by cases h;rfl
 R:=intR
 ev x:=.int .i64 x
 dv x:=.lit (.int .i64 x)
 fine _:=True
 read _ _:=rfl
 rinv:=intR_inv
 dinj y z h:=by simpa using h
def encP:Enc Stp Int where
 k:=46
 law:=Maps.Keyed.of_law Tryz.law46
 ek:=stpV
 lk:=stpL
 good:=stpGood
 key x hx:=(keyOf46 _ _).2 ⟨x,hx,rfl,rfl⟩
 inv v l h:=(keyOf46 v l).1 h
 einj x y h:=by
  obtain ⟨a,b,c⟩:=x;obtain ⟨d,e,f⟩:=y;simpa [stpV] using h
 R:=intR
 ev x:=.int .i64 x
 dv x:=.lit (.int .i64 x)
 fine _:=True
 read _ _:=rfl
 rinv:=intR_inv
 dinj y z h:=by simpa using h
def encU:Enc Stp (Stp×Us) where
 k:=46
 law:=Maps.Keyed.of_law Tryz.law46
 ek:=stpV
 lk:=stpL
 good:=stpGood
 key x hx:=(keyOf46 _ _).2 ⟨x,hx,rfl,rfl⟩
 inv v l h:=(keyOf46 v l).1 h
 einj x y h:=by
  obtain ⟨a,b,c⟩:=x;obtain ⟨d,e,f⟩:=y;simpa [stpV] using h
 R:=useR
 ev:=useV
 dv:=useD
 fine _:=True
 read _ _:=rfl
 rinv:=useR_inv
 dinj y z h:=by
  obtain ⟨⟨a,b,c⟩,d,e,f⟩:=y;obtain ⟨⟨a',b',c'⟩,d',e',f'⟩:=z;simpa [useD,and_assoc] using h
structure Node where
 up:Nat
 name:List UInt8
 dir:Bool
deriving DecidableEq
abbrev Tree:=Nat→Option Node
def kid (T:Tree) (d:Nat) (s:List UInt8):Option Nat:=(List.range 129).find? fun k=>match T k with|some x=>decide (x.up=d∧x.name=s)|none=>false
def kidN (T:Tree) (d:Nat):Nat:=(List.range 129).countP fun k=>match T k with|some x=>decide (x.up=d)|none=>false
def things (T:Tree):Nat:=(List.range 129).countP fun k=>(T k).isSome
structure TreeOk (T:Tree):Prop where
 root:T 1=some ⟨0, [],true⟩
 zero:T 0=none
 top:∀k,129≤k→T k=none
 up:∀k x,T k=some x→k≠1→∃y,T x.up=some y∧y.dir=true
 name:∀k x,T k=some x→k≠1→okName x.name=true
 one:∀j k x y,T j=some x→T k=some y→x.up=y.up→x.name=y.name→j=k
theorem TreeOk.lt {T:Tree} (h:TreeOk T) {k:Nat} {x:Node} (hk:T k=some x):1≤k∧k≤128:=by
 constructor
 ·rcases k with _|k
  ·rw [h.zero] at hk;cases hk
  ·omega
 ·rcases Nat.lt_or_ge k 129 with h1|h1
  ·omega
  ·rw [h.top k h1] at hk;cases hk
theorem kid_some {T:Tree} {d k:Nat} {s:List UInt8} (h:kid T d s=some k):∃x,T k=some x∧x.up=d∧x.name=s:=by
 have:=List.find?_some h;split at this
 ·rename_i x hx
  exact ⟨x,hx,by simpa using this⟩
 ·cases this
theorem kid_of {T:Tree} (ht:TreeOk T) {d k:Nat} {s:List UInt8} {x:Node} (hk:T k=some x) (hd:x.up=d) (hs:x.name=s):kid T d s=some k:=by
 cases hj:kid T d s with
 | none=>
  have:=List.find?_eq_none.1 hj k (List.mem_range.2 (by have:=ht.lt hk;omega));simp [hk,hd,hs] at this
 | some j=>
  obtain ⟨y,h1,h2,h3⟩:=kid_some hj;rw [ht.one j k y x h1 hk (by rw [h2,hd]) (by rw [h3,hs])]
theorem kid_none {T:Tree} {d:Nat} {s:List UInt8} (h:kid T d s=none) (k:Nat) (hk:k<129) (x:Node) (hx:T k=some x):¬(x.up=d∧x.name=s):=by
 have:=List.find?_eq_none.1 h k (List.mem_range.2 hk);simpa [hx] using this
def thm (T:Tree) (tp:Nat→Nat):Int→Option Nat:=fun i=>if 0≤i then (T i.toNat).map (fun _=>tp i.toNat) else none
def kidm (T:Tree) (d:Nat):ByteArray→Option Int:=fun s=>(kid T d s.data.toList).map (fun k=>(k:Int))
def ThingAt (w:World) (o:Nat→Nat) (K k p:Nat) (x:Node) (n:Nat) (m:ByteArray→Option Int):Prop:=
 o p=K+1000+k∧match x.dir with
  | true=>∃ib,o ib=K+2000+k∧w.heap[p]? =some (.cells #[.int .i64 x.up,.string (ba x.name),.bool true,.map (some ib)] 141 (0,0))∧MapAt encS w ib n m
  | false=>w.heap[p]? =some (.cells #[.int .i64 x.up,.string (ba x.name),.bool false,.map none] 141 (0,0))
def TreeAt (w:World) (o:Nat→Nat) (K t:Nat) (T:Tree):Prop:=
 ∃mb tp,o t=K+3∧w.heap[t]? =some (.cells #[.map (some mb)] 132 (0,0))∧o mb=K+4∧MapAt encI w mb (things T) (thm T tp)∧∀k x,T k=some x→ThingAt w o K k (tp k) x (kidN T k) (kidm T k)
theorem MapAt.step {Q V:Type} {E:Enc Q V} {C:Nat→Prop} {w w':World} {o o':Nat→Nat} {b c:Nat} {m:Q→Option V} (h:MapAt E w b c m) (s:Step C w o w' o') (hc:¬C (o b)):MapAt E w' b c m∧o' b=o b:=⟨h.fr s.fr hc,s.old b h.lt⟩
theorem ThingAt.step {C:Nat→Prop} {w w':World} {o o':Nat→Nat} {K k p n:Nat} {x:Node} {m:ByteArray→Option Int} (h:ThingAt w o K k p x n m) (s:Step C w o w' o') (h1:¬C (K+1000+k)) (h2:¬C (K+2000+k)):ThingAt w' o' K k p x n m:=by
 obtain ⟨up,name,dir⟩:=x;obtain ⟨a,b⟩:=h;cases dir with
 | false=>
  exact ⟨(s.own b).trans a,s.block b (by rw [a];exact h1)⟩
 | true=>
  obtain ⟨ib,c,d,e⟩:=b;obtain ⟨e1,e2⟩:=e.step s (by rw [c];exact h2);exact ⟨(s.own d).trans a,ib,e2.trans c,s.block d (by rw [a];exact h1),e1⟩
def treeC (K c:Nat):Prop:=c=K+3∨c=K+4∨K+1000≤c∧c<K+3000
theorem TreeAt.step {C:Nat→Prop} {w w':World} {o o':Nat→Nat} {K t:Nat} {T:Tree} (h:TreeAt w o K t T) (ht:TreeOk T) (s:Step C w o w' o') (hc:∀c,treeC K c→¬C c):TreeAt w' o' K t T:=by
 obtain ⟨mb,tp,h1,h2,h3,h4,h5⟩:=h;obtain ⟨e1,e2⟩:=h4.step s (by rw [h3];exact hc _ (.inr (.inl rfl)));refine ⟨mb,tp,(s.own h2).trans h1,s.block h2 (by rw [h1];exact hc _ (.inl rfl)),e2.trans h3,e1,fun k x hk=>(h5 k x hk).step s ?_ ?_⟩
 ·have:=ht.lt hk;exact hc _ (.inr (.inr (by omega)))
 ·have:=ht.lt hk;exact hc _ (.inr (.inr (by omega)))
theorem TreeAt.no {w w':World} {o:Nat→Nat} {K t:Nat} {T:Tree} (h:TreeAt w o K t T) (ht:TreeOk T) (hf:Fresh w o) (f:Fr No w w'):TreeAt w' o K t T:=
 h.step ht (Step.no (C:=fun _=>False) hf f) (fun _ _ e=>e)
structure TreeR (w:World) (t mb:Nat) (tp:Nat→Nat) (T:Tree):Prop where
 ct:w.cell? ⟨t,0,none⟩=some (.map (some mb))
 look:∀k x,T k=some x→(Instr.lookup 130 (.map (some mb)) (.int .i64 k) false).run Tryz.prog w=.ok (.pointer (some ⟨tp k,0,none⟩)) w
 dir:∀k x,T k=some x→w.cell? ⟨tp k,2,none⟩=some (.bool x.dir)
 kids:∀k x,T k=some x→x.dir=true→∃ib,w.cell? ⟨tp k,3,none⟩=some (.map (some ib))∧∀s:List UInt8,okName s=true→(Instr.lookup 139 (.map (some ib)) (.string (ba s)) true).run Tryz.prog w=.ok (match kid T k s with|some j=> .tuple #[.int .i64 j,.bool true]|none=> .tuple #[.int .i64 0,.bool false]) w
theorem TreeAt.reads {w:World} {o:Nat→Nat} {K t:Nat} {T:Tree} (h:TreeAt w o K t T) (ht:TreeOk T):∃mb tp,∀w',Fr No w w'→TreeR w' t mb tp T:=by
 obtain ⟨mb,tp,h1,h2,h3,h4,h5⟩:=h;refine ⟨mb,tp,fun w' f=>⟨by rw [cell_at (f.block_of h2 id)];rfl,fun k x hk=> ?_,fun k x hk=> ?_,fun k x hk hd=> ?_⟩⟩
 ·have:=(h4.fr f id).look (k:Int) (show I64 _ by have:=ht.lt hk;unfold I64;omega) (t:=130) (e:=142) Tryz.underlying130 (z:=.pointer none) (by kernel_rfl) false;rw [show thm T tp (k:Int)=some (tp k) by simp [thm,hk]] at this;exact this
 ·obtain ⟨up,name,dir⟩:=x;have:=(h5 k _ hk).2;cases dir with
  | false=>rw [cell_at (f.block_of this id)];rfl
  | true=>
   obtain ⟨ib,_,e,_⟩:=this;rw [cell_at (f.block_of e id)];rfl
 ·obtain ⟨up,name,dir⟩:=x;have h6:=(h5 k _ hk).2;dsimp only at hd;subst hd;obtain ⟨ib,_,e,m⟩:=h6;refine ⟨ib,by rw [cell_at (f.block_of e id)];rfl,fun s hs=> ?_⟩;have h7:=(m.fr f id).look (ba s) (show (ba s).size≤maxLen by rw [ba_size];have:=(okName_no s hs).2.2;unfold maxLen;omega) (t:=139) (e:=3) Tryz.underlying139 (z:=.int .i64 0) (by kernel_rfl) true;rw [show kidm T k (ba s)=(kid T k s).map (fun j=>(j:Int)) by simp [kidm,ba_list]] at h7;cases hj:kid T k s with
  | none=>rw [hj] at h7;exact h7
  | some j=>rw [hj] at h7;exact h7
theorem gtmade_ (w:World) (o:Nat→Nat) (K t:Nat) (T:Tree) (h:TreeAt w o K t T):Calls Tryz.prog 68 #[.pointer (some ⟨t,0,none⟩)] w fun e w'=>e=.returned (.bool true)∧w'=w:=by
 obtain ⟨mb,tp,h1,h2,_⟩:=h;have c0:w.cell? ⟨t,0,none⟩=some (.map (some mb)):=by rw [cell_at h2];rfl
 have hmn:=run_neq_map_nil w 130 3 142 (some mb) Tryz.underlying130;clear h1 h2;go_enter Tryz.func68,Tryz.ntmps68
 go_wp2
 go_ret
 exact ⟨rfl,rfl⟩
def walkOf (T:Tree):Nat→List (List UInt8)→Int×Nat
 | k, []=>(0,k)
 | k,s::r=>match T k with
  | none=>(14,0)
  | some x=>if x.dir=true then (match kid T k s with|some j=>walkOf T j r|none=>(6,0)) else (10,0)
theorem walk_at {T:Tree} (ht:TreeOk T) {k:Nat} {ps:List (List UInt8)} {e:Int} {j:Nat} (hk:∃x,T k=some x) (h:walkOf T k ps=(e,j)):e=0∧(∃x,T j=some x)∨e≠0∧j=0:=by
 induction ps generalizing k with
 | nil=>
  simp only [walkOf,Prod.mk.injEq] at h;obtain ⟨rfl,rfl⟩:=h;exact .inl ⟨rfl,hk⟩
 | cons s r ih=>
  obtain ⟨x,hx⟩:=hk;simp only [walkOf,hx] at h;split at h
  ·split at h
   ·rename_i j' hj
    obtain ⟨y,hy,_⟩:=kid_some hj;exact ih ⟨y,hy⟩ h
   ·simp only [Prod.mk.injEq] at h;obtain ⟨rfl,rfl⟩:=h;exact .inr ⟨by decide,rfl⟩
  ·simp only [Prod.mk.injEq] at h;obtain ⟨rfl,rfl⟩:=h;exact .inr ⟨by decide,rfl⟩
theorem gwalk_ (t mb:Nat) (tp:Nat→Nat) (T:Tree) (w:World) (R:TreeR w t mb tp T) (ht:TreeOk T) (v:Value) (n:Nat) (ps:List (List UInt8)) (base:Nat) (hv:w.ownsRow base 9 1 v n (strs ps)) (hn:n=ps.length) (hok:∀x∈ps,okName x=true) (h8:ps.length≤8):
  Calls Tryz.prog 126 #[.pointer (some ⟨t,0,none⟩),v] w fun e w'=>e=.returned (.tuple #[.int .i64 (walkOf T 1 ps).2,.int .i64 (walkOf T 1 ps).1])∧w'=w:=by
 subst hn;have HR:=lH R;have HT:=lH ht;have HO:=lH hok;have c0:=R.ct;clear R ht hok;rcases hps:ps with _|⟨p0,pr⟩
 ·subst hps;obtain ⟨a,c,rfl⟩:=hv.shape;clear hv;go_enter Tryz.func126,Tryz.ntmps126;go_wp2_with fail;refine wp_loop_rounds 1 ?_;rw [rounds_succ];go_wp2_with fail
  go_ret2
  exact ⟨rfl,rfl⟩
 ·rw [← hps];obtain ⟨g,c,rfl,hc,_,_,hcs⟩:=ownsRow_cells hv rfl (by rw [hps];simp);have HC:=lH hcs;clear hv hcs hps;generalize hW:walkOf T 1 ps=W at*;have HW:=lH hW;clear hW;go_enter Tryz.func126,Tryz.ntmps126;go_wp2_with fail;go_loopw [6,14] (fun a i wr=>∃(k j:Nat),a=.int .i64 k∧i=.int .i64 j∧j≤ps.length∧Hid (walkOf T k (ps.drop j)=W)∧Hid (∃x,T k=some x)∧wr=w) (fun _ i _=>ps.length - (intOf i).toNat)
  case atStart=>exact ⟨1,0,rfl,rfl,Nat.zero_le _,lH HW.out,lH ⟨_,HT.out.root⟩,rfl⟩
  case round=>
   obtain ⟨k,j,rfl,rfl,hj,HWk,HX,rfl⟩:=hrel;by_cases hlt:j<ps.length
   ·have q2:(j:Int)<(ps.length:Int):=by omega
    have q3:(0:Int)≤(j:Int):=(by omega)
    have q4:(j:Int)<(c:Int):=(by omega)
    have e1:wr.cell? ⟨g,j,none⟩=some (.string (ba (ps[j]'hlt))):=by
     have:=HC.out j (ba (ps[j]'hlt)) (by rw [List.getElem?_map,List.getElem?_eq_getElem hlt];rfl);rw [Nat.zero_add] at this;exact this
    have hs:=HO.out (ps[j]'hlt) (List.getElem_mem _);have hwk:=HWk.out;rw [List.drop_eq_getElem_cons hlt] at hwk;generalize ps[j]'hlt=s at*;obtain ⟨x,hx⟩:=HX.out;have hl:=HR.out.look k x hx;have hd:=HR.out.dir k x hx;simp only [walkOf,hx] at hwk;by_cases hdir:x.dir=true
    ·rw [if_pos hdir] at hwk;obtain ⟨ib,hi,hkk⟩:=HR.out.kids k x hx hdir;have hlk:=hkk s hs;rw [hdir] at hd;clear hdir hkk hs;cases hj2:kid T k s with
     | none=>
      rw [hj2] at hwk hlk;have HV:Hid ((6,0)=W):=lH hwk;clear hwk hx hj2;go_wp2_with fail
      go_ret2
      rw [← HV.out];exact ⟨rfl,rfl⟩
     | some k'=>
      rw [hj2] at hwk hlk;have HV:Hid (walkOf T k' (ps.drop (j+1))=W):=lH hwk;have HX2:Hid (∃x,T k'=some x):=lH (by
       obtain ⟨y,hy,_⟩:=kid_some hj2;exact ⟨y,hy⟩)
      clear hwk hx hj2;go_wp2_with fail;go_roundw
      case rel=>exact ⟨k',j+1,rfl,by go_num,hlt,HV,HX2,trivial⟩
      case measure=>simp [intOf];omega
    ·rw [if_neg hdir] at hwk;have HV:Hid ((10,0)=W):=lH hwk;rw [Bool.not_eq_true] at hdir;rw [hdir] at hd;clear hwk hx hdir hs;go_wp2_with fail
     go_ret2
     rw [← HV.out];exact ⟨rfl,rfl⟩
   ·obtain rfl:j=ps.length:=by omega
    have q2:¬(ps.length:Int)<(ps.length:Int):=(by omega)
    have HV:Hid ((0,k)=W):=lH (by
     have:=HWk.out;rw [List.drop_length] at this;exact this)
    go_wp2_with fail
    go_ret2
    rw [← HV.out];exact ⟨rfl,rfl⟩
def isDir (T:Tree) (k:Nat):Bool:=match T k with|some x=>x.dir|none=>false
def seen (T:Tree) (ps:List (List UInt8)):Int×Nat×Bool:=if (walkOf T 1 ps).1=0 then (0,(walkOf T 1 ps).2,isDir T (walkOf T 1 ps).2) else ((walkOf T 1 ps).1,0,false)
def lookOf (T:Tree) (l:List UInt8):Int×Nat×Bool:=match pathOf l with
 | none=>(12,0,false)
 | some ps=>seen T ps
theorem glook_ (o:Nat→Nat) (K t:Nat) (T:Tree) (l:List UInt8) (w:World) (hl:l.length≤1000000) (h:TreeAt w o K t T) (ht:TreeOk T) (hf:Fresh w o):
  Calls Tryz.prog 72 #[.pointer (some ⟨t,0,none⟩),.string (ba l)] w fun e w'=>e=.returned (.tuple #[.int .i64 (lookOf T l).2.1,.bool (lookOf T l).2.2,.int .i64 (lookOf T l).1])∧Fr No w w':=by
 have HS:=lH (gsplit_ l w hl);have HOK:=lH (pathOf_ok l);have HH:=lH h;have HT:=lH ht;have HF:=lH hf;have hA:lookOf T l=match pathOf l with|none=>(12,0,false)|some ps=>seen T ps:=rfl
 clear hl h ht hf;unfold SplitPost at HS;generalize lookOf T l=A at*;generalize pathOf l=P at*;rcases P with _|ps
 ·dsimp only at hA;have HA:=lH hA;clear hA;go_enter Tryz.func72,Tryz.ntmps72;go_wp2_with fail;refine (gtmade_ _ o K t T HH.out).mono ?_;rintro e w1 ⟨rfl,rfl⟩;go_wp2_with fail;refine HS.out.mono ?_;rintro e w1 ⟨f1,rfl⟩;go_wp2_with fail
  go_ret3
  rw [HA.out];exact ⟨rfl,f1⟩
 ·obtain ⟨ho,h8⟩:=HOK.out ps rfl;have HO:=lH ho;clear ho;dsimp only at hA;have HA:=lH hA;clear hA;go_enter Tryz.func72,Tryz.ntmps72;go_wp2_with fail;refine (gtmade_ _ o K t T HH.out).mono ?_;rintro e w1 ⟨rfl,rfl⟩;go_wp2_with fail;refine HS.out.mono ?_;rintro e w2 ⟨f1,v,rfl,hown⟩;have H2:=HH.out.no HT.out HF.out f1;obtain ⟨mb,tp,RR⟩:=H2.reads HT.out;have R:=RR w2 (Fr.refl _);have R':=RR w2.drew (Fr.refl _).drew;obtain ⟨a,c,rfl⟩:=hown.shape;have HW:=lH (gwalk_ t mb tp T w2 R HT.out _ _ ps _ hown rfl HO.out h8);have HR:=lH R;have HR':=lH R';clear H2 hown R R' RR;generalize hW:walkOf T 1 ps=W at*;have HA2:Hid (A=if W.1=0 then (0,W.2,isDir T W.2) else (W.1,0,false)):=lH (by rw [HA.out,← hW];rfl);have HWW:=lH hW;clear hW;obtain ⟨er,k⟩:=W;go_wp2_with fail;refine HW.out.mono ?_;rintro e w3 ⟨rfl,rfl⟩;rcases walk_at HT.out ⟨_,HT.out.root⟩ HWW.out with ⟨rfl,x,hx⟩|⟨hne,rfl⟩
  ·have hd:Hid (A=(0,k,x.dir)):=lH (by rw [HA2.out];simp [isDir,hx]);have c0:=HR.out.ct;have hl:=HR.out.look k x hx;have hc:=HR.out.dir k x hx;have hl':=HR'.out.look k x hx;clear hx;go_wp2_with fail
   go_region
   all_goals
    go_wp2_with fail
    go_ret3
    rw [hd.out];exact ⟨rfl,f1.drewN 1⟩
  ·have hd:Hid (A=(er,0,false)):=lH (by rw [HA2.out,if_neg hne]);have q:(er==0)=false:=(by simpa using hne)
   clear hne;go_wp2_with fail
   go_ret3
   rw [hd.out];exact ⟨rfl,f1⟩
def stands (T:Tree) (ps:List (List UInt8)) (last:List UInt8):Int×Nat×List UInt8:=
 if (seen T ps).1=0 then (if (seen T ps).2.2 then (0,(seen T ps).2.1,last) else (10,0, [])) else ((seen T ps).1,0, [])
def placeOf (T:Tree) (l:List UInt8):Int×Nat×List UInt8:=match pathOf l with
 | none=>(12,0, [])
 | some []=>(1,0, [])
 | some (p::ps)=>stands T (p::ps).dropLast ((p::ps).getLast (by simp))
theorem gplace_ (o:Nat→Nat) (K t:Nat) (T:Tree) (l:List UInt8) (w:World) (hl:l.length≤1000000) (h:TreeAt w o K t T) (ht:TreeOk T) (hf:Fresh w o):
  Calls Tryz.prog 194 #[.pointer (some ⟨t,0,none⟩),.string (ba l)] w fun e w'=>e=.returned (.tuple #[.int .i64 (placeOf T l).2.1,.string (ba (placeOf T l).2.2),.int .i64 (placeOf T l).1])∧Fr No w w':=by
 have HS:=lH (gparent_ l w hl);have HOK:=lH (pathOf_ok l);have HH:=lH h;have HT:=lH ht;have HF:=lH hf;have hA:placeOf T l=match pathOf l with
  | none=>(12,0, [])
  | some []=>(1,0, [])
  | some (p::ps)=>stands T (p::ps).dropLast ((p::ps).getLast (by simp)):=rfl
 clear hl h ht hf;unfold ParentPost at HS;generalize placeOf T l=A at*;generalize pathOf l=P at*;rcases P with _|_|⟨p,ps⟩
 ·dsimp only at hA;have HA:=lH hA;clear hA;go_enter Tryz.func194,Tryz.ntmps194;go_wp2_with fail;refine HS.out.mono ?_;rintro e w1 ⟨f1,rfl⟩;go_wp2_with fail
  go_ret3
  rw [HA.out];exact ⟨rfl,f1⟩
 ·dsimp only at hA;have HA:=lH hA;clear hA;go_enter Tryz.func194,Tryz.ntmps194;go_wp2_with fail;refine HS.out.mono ?_;rintro e w1 ⟨f1,rfl⟩;go_wp2_with fail
  go_ret3
  rw [HA.out];exact ⟨rfl,f1⟩
 ·obtain ⟨ho,h8⟩:=HOK.out (p::ps) rfl;dsimp only at hA HS;have ho2:∀x∈(p::ps).dropLast,okName x=true:=fun x hx=>ho x (List.dropLast_subset _ hx);have h82:(p::ps).dropLast.length≤8:=by rw [List.length_dropLast];omega
  generalize (p::ps).dropLast=D at*;generalize (p::ps).getLast (by simp)=L at*;have hlk:lookOf T (joinOf D)=seen T D:=by rw [lookOf,pathOf_join D ho2 h82]
  have hjl:=joinOf_len D ho2 h82;clear ho ho2 h82 h8;rw [stands,← hlk] at hA;have HJ:∀w,TreeAt w o K t T→Fresh w o→_:=fun w h1 h2=>glook_ o K t T (joinOf D) w (by omega) h1 HT.out h2;generalize lookOf T (joinOf D)=B at*;obtain ⟨er,k,d⟩:=B;have HA:=lH hA;have HJJ:=lH HJ;clear hA hlk hjl HJ;generalize joinOf D=J at*;go_enter Tryz.func194,Tryz.ntmps194;go_wp2_with fail;refine HS.out.mono ?_;rintro e w1 ⟨f1,rfl⟩;go_wp2_with fail;refine (HJJ.out _ (HH.out.no HT.out HF.out f1) (fun k hk=>HF.out k (Nat.le_trans f1.size hk))).mono ?_;rintro e w2 ⟨rfl,f2⟩;by_cases he:er=0
  ·subst he;cases d with
   | true=>
    have HV:Hid (A=(0,k,L)):=lH (by rw [HA.out];rfl);go_wp2_with fail
    go_ret3
    rw [HV.out];exact ⟨rfl,f1.trans f2 (fun _ _ e=>e)⟩
   | false=>
    have HV:Hid (A=(10,0, [])):=lH (by rw [HA.out];rfl);go_wp2_with fail
    go_ret3
    rw [HV.out];exact ⟨rfl,f1.trans f2 (fun _ _ e=>e)⟩
  ·have HV:Hid (A=(er,0, [])):=lH (by rw [HA.out,if_neg he]);have q:(er==0)=false:=(by simpa using he)
   clear he;go_wp2_with fail
   go_ret3
   rw [HV.out];exact ⟨rfl,f1.trans f2 (fun _ _ e=>e)⟩
theorem MapAt.is {Q V:Type} {E:Enc Q V} {w:World} {b c:Nat} {m:Q→Option V} (h:MapAt E w b c m):∃es clock,w.heap[b]? =some (.map es clock):=by
 obtain ⟨D,⟨es,clock,hk,_⟩,_⟩:=h;exact ⟨es,clock,hk⟩
theorem MapAt.ne {Q V:Type} {E:Enc Q V} {w:World} {b c a:Nat} {m:Q→Option V} (h:MapAt E w b c m) {cs:Array Value} {t:TypeId} {fz:Nat×Nat} (ha:w.heap[a]? =some (.cells cs t fz)):a≠b:=by
 obtain ⟨es,clock,hk⟩:=h.is;rintro rfl;rw [ha] at hk;cases hk
def GPut (w:World) (mb ib c n:Nat) (ino:Int) (xb:Nat) (s:ByteArray) (m:Int→Option Nat) (k:ByteArray→Option Int) (e:Ending) (w':World):Prop:=
 e=.returned (.tuple #[])∧Fr (fun j=>j=mb∨j=ib) w w'∧
   MapAt encI w' mb (if (m ino).isSome then c else c+1) (fun z=>if z=ino then some xb else m z)∧MapAt encS w' ib (if (k s).isSome then n else n+1) (fun z=>if z=s then some ino else k z)
theorem gput_ (t mb q ib xb c n:Nat) (at_ ino:Int) (nm:List UInt8) (m:Int→Option Nat) (k:ByteArray→Option Int) (w:World) (ct:w.heap[t]? =some (.cells #[.map (some mb)] 132 (0,0))) (M1:MapAt encI w mb c m) (hi:I64 ino) (ha:I64 at_) (hc:c<1000) (hn:n<1000)
  (hne:at_≠ino) (hq:m at_=some q) {cs:Array Value} {fq:Nat×Nat} (kq:w.heap[q]? =some (.cells cs 141 fq)) (kq3:cs[3]? =some (.map (some ib))) (M2:MapAt encS w ib n k) (hmi:mb≠ib) {xs:Array Value} {fx:Nat×Nat} (kx:w.heap[xb]? =some (.cells xs 141 fx)) (kx1:xs[1]? =some (.string (ba nm))) (hnm:okName nm=true):
  Calls Tryz.prog 195 #[.pointer (some ⟨t,0,none⟩),.int .i64 at_,.int .i64 ino,.pointer (some ⟨xb,0,none⟩)] w (GPut w mb ib c n ino xb (ba nm) m k):=by
 have c0:w.cell? ⟨t,0,none⟩=some (.map (some mb)):=by rw [cell_at ct];rfl
 obtain ⟨w1,hu1,m1,f1⟩:=M1.put ino xb hi trivial (by omega) (t:=130) (e:=142) Tryz.underlying130;have n1:=M1.ne ct;have n2:=M1.ne kq;have n3:=M1.ne kx;have g1:Fr (· =mb) w w1.drew:=f1.drew;have d0:w1.drew.cell? ⟨t,0,none⟩=some (.map (some mb)):=by rw [cell_at (g1.block_of ct n1)];rfl
 have m1':MapAt encI w1.drew mb _ _:=m1.fr (Fr.refl (S:=No) w1).drew id;have hl2:=m1'.look at_ ha (t:=130) (e:=142) Tryz.underlying130 (z:=.pointer none) (by kernel_rfl) false;simp only [if_neg hne,hq] at hl2;have dq:w1.drew.cell? ⟨q,3,none⟩=some (.map (some ib)):=by rw [cell_at (g1.block_of kq n2)];exact kq3
 have dx:w1.drew.cell? ⟨xb,1,none⟩=some (.string (ba nm)):=by rw [cell_at (g1.block_of kx n3)];exact kx1
 have m2:MapAt encS w1.drew ib n k:=M2.fr g1 (Ne.symm hmi);obtain ⟨w2,hu2,m3,f2⟩:=m2.put (ba nm) ino (show (ba nm).size≤maxLen by rw [ba_size];have:=(okName_no nm hnm).2.2;unfold maxLen;omega) trivial (by omega) (t:=139) (e:=3) Tryz.underlying139;have F:Hid (Fr (fun j=>j=mb∨j=ib) w w2):=lH ((g1.mono (fun _ _ e=> .inl e)).trans (f2.mono (fun _ _ e=> .inr e)) (fun _ _ e=>e));have R1:=lH (m1'.fr f2 hmi);have R2:=lH m3;have hu1':(Instr.mapUpdate 130 (.map (some mb)) (.int .i64 ino) (.pointer (some ⟨xb,0,none⟩))).run Tryz.prog w=.ok () w1:=hu1;have hu2':(Instr.mapUpdate 139 (.map (some ib)) (.string (ba nm)) (.int .i64 ino)).run Tryz.prog w1.drew=.ok () w2:=hu2;have hl2':(Instr.lookup 130 (.map (some mb)) (.int .i64 at_) false).run Tryz.prog w1.drew=.ok (.pointer (some ⟨q,0,none⟩)) w1.drew:=hl2;clear hu1 hu2 hl2 m1 m1' m2 m3 f1 f2 g1 M1 M2 ct kq kq3 kx kx1 n1 n2 n3 hq hne hi ha hc hn hnm hmi;go_enter Tryz.func195,Tryz.ntmps195;go_wp2_with fail
 go_region
 all_goals
  go_wp2_with fail
  go_end0
  exact ⟨rfl,F.out,R1.out,R2.out⟩
theorem countP_up (p q:Nat→Bool) (i n:Nat) (hi:i<n) (h:∀k,k≠i→q k=p k) (hp:p i=false) (hq:q i=true):(List.range n).countP q=(List.range n).countP p+1:=by
 induction n with
 | zero=>omega
 | succ n ih=>
  rw [List.range_succ,List.countP_append,List.countP_append];by_cases e:i=n
  ·subst e;have:(List.range i).countP q=(List.range i).countP p:=List.countP_congr (fun k hk=>by rw [h k (by have:=List.mem_range.1 hk;omega)]);simp [this,hp,hq]
  ·have:=ih (by omega);simp [this,h n (Ne.symm e)];omega
theorem countP_same (p q:Nat→Bool) (n:Nat) (h:∀k,k<n→q k=p k):(List.range n).countP q=(List.range n).countP p:=
 List.countP_congr (fun k hk=>by rw [h k (List.mem_range.1 hk)])
def free (T:Tree):Nat:=((List.range 129).find? fun k=>decide (2≤k)&&(T k).isNone).getD 0
theorem free_is {T:Tree} (ht:TreeOk T) (h:things T<128):2≤free T∧free T≤128∧T (free T)=none∧∀k,2≤k→k<free T→T k≠none:=by
 cases hj:(List.range 129).find? fun k=>decide (2≤k)&&(T k).isNone with
 | none=>
  exfalso;have hall:=List.find?_eq_none.1 hj;have h1:things T=(List.range 129).countP fun k=>decide (k≠0):=countP_same _ _ _ (fun k hk=>by
   by_cases e:k=0
   ·subst e;simp [ht.zero]
   ·by_cases e1:k=1
    ·subst e1;simp [ht.root]
    ·have:=hall k (List.mem_range.2 hk);have h2:2≤k:=(by omega)
     simp [h2] at this;simp [this,e,Option.isSome_iff_ne_none])
  have h2:((List.range 129).countP fun k=>decide (k≠0))=128:=by kernel_rfl
  omega
 | some j=>
  have e:free T=j:=by simp [free,hj]
  rw [e];have h1:=List.find?_some hj;simp only [Bool.and_eq_true,decide_eq_true_eq,Option.isNone_iff_eq_none] at h1;have h2:=List.mem_range.1 (List.mem_of_find?_eq_some hj);refine ⟨h1.1,by omega,h1.2,fun k hk hlt hn=> ?_⟩;obtain ⟨_,us,vs,he,hno⟩:=List.find?_eq_some_iff_append.1 hj;have hkm:k∈us:=by
   have hk129:k∈List.range 129:=List.mem_range.2 (by omega);rw [he] at hk129;rcases List.mem_append.1 hk129 with h|h
   ·exact h
   ·exfalso;have hs:(List.range 129).Pairwise (· < ·):=List.pairwise_lt_range;rw [he] at hs;have h4:=(List.pairwise_append.1 hs).2.1;rcases List.mem_cons.1 h with rfl|h
    ·omega
    ·have:=(List.pairwise_cons.1 h4).1 k h;omega
  have:=hno k hkm;simp [hk,hn] at this
theorem kid_iff {T:Tree} (ht:TreeOk T) {d k:Nat} {s:List UInt8}:kid T d s=some k↔∃b,T k=some ⟨d,s,b⟩:=by
 constructor
 ·intro h;obtain ⟨⟨u,n,b⟩,h1,h2,h3⟩:=kid_some h;dsimp only at h2 h3;exact ⟨b,by rw [h1,h2,h3]⟩
 ·rintro ⟨b,h⟩;exact kid_of ht h rfl rfl
def grown (T:Tree) (i d:Nat) (s:List UInt8) (b:Bool):Tree:=upd T i (some ⟨d,s,b⟩)
structure Adds (T:Tree) (i d:Nat) (s:List UInt8):Prop where
 ok:TreeOk T
 two:2≤i
 most:i≤128
 new:T i=none
 dir:∃y,T d=some y∧y.dir=true
 name:okName s=true
 none:kid T d s=none
section
variable {T:Tree} {i d:Nat} {s:List UInt8} {b:Bool}
theorem Adds.up (h:Adds T i d s) {k:Nat} {x:Node} (hk:T k=some x):x.up≠i:=by
 have h2:=h.two;intro e;by_cases h1:k=1
 ·subst h1;rw [h.ok.root] at hk;cases hk;dsimp only at e;omega
 ·obtain ⟨y,hy,_⟩:=h.ok.up k x hk h1;rw [e,h.new] at hy;cases hy
theorem Adds.ne (h:Adds T i d s):d≠i:=by
 rintro rfl;obtain ⟨y,hy,_⟩:=h.dir;rw [h.new] at hy;cases hy
theorem Adds.grown_ok (h:Adds T i d s):TreeOk (grown T i d s b) where
 root:=by rw [grown,upd_other _ _ (by have:=h.two;omega)];exact h.ok.root
 zero:=by rw [grown,upd_other _ _ (by have:=h.two;omega)];exact h.ok.zero
 top k hk:=by rw [grown,upd_other _ _ (by have:=h.most;omega)];exact h.ok.top k hk
 up k x hk h1:=by
  by_cases e:k=i
  ·subst e;rw [grown,upd_same] at hk;cases hk;obtain ⟨y,hy,hd⟩:=h.dir;exact ⟨y,by rw [grown,upd_other _ _ h.ne];exact hy,hd⟩
  ·rw [grown,upd_other _ _ e] at hk;obtain ⟨y,hy,hd⟩:=h.ok.up k x hk h1;exact ⟨y,by rw [grown,upd_other _ _ (h.up hk)];exact hy,hd⟩
 name k x hk h1:=by
  by_cases e:k=i
  ·subst e;rw [grown,upd_same] at hk;cases hk;exact h.name
  ·rw [grown,upd_other _ _ e] at hk;exact h.ok.name k x hk h1
 one j k x y hj hk h1 h2:=by
  have hno:∀k z,T k=some z→¬(z.up=d∧z.name=s):=fun k z hz=>kid_none h.none k (by have:=h.ok.lt hz;omega) z hz;by_cases ej:j=i<;>by_cases ek:k=i
  ·rw [ej,ek]
  ·subst ej;rw [grown,upd_same] at hj;rw [grown,upd_other _ _ ek] at hk;cases hj;exact absurd ⟨h1.symm,h2.symm⟩ (hno k y hk)
  ·subst ek;rw [grown,upd_same] at hk;rw [grown,upd_other _ _ ej] at hj;cases hk;exact absurd ⟨h1,h2⟩ (hno j x hj)
  ·rw [grown,upd_other _ _ ej] at hj;rw [grown,upd_other _ _ ek] at hk;exact h.ok.one j k x y hj hk h1 h2
theorem Adds.kid (h:Adds T i d s) (e:Nat) (z:List UInt8):kid (grown T i d s b) e z=if e=d∧z=s then some i else kid T e z:=by
 apply Option.ext;intro k;rw [kid_iff h.grown_ok];by_cases hc:e=d∧z=s
 ·obtain ⟨rfl,rfl⟩:=hc;rw [if_pos ⟨rfl,rfl⟩];constructor
  ·rintro ⟨b',hb⟩;by_cases ek:k=i
   ·rw [ek]
   ·rw [grown,upd_other _ _ ek] at hb;have:=(kid_iff h.ok).2 ⟨b',hb⟩;rw [h.none] at this;cases this
  ·intro hk;cases hk;exact ⟨b,upd_same _ _ _⟩
 ·rw [if_neg hc,kid_iff h.ok];constructor
  ·rintro ⟨b',hb⟩;by_cases ek:k=i
   ·subst ek;rw [grown,upd_same] at hb;cases hb;exact absurd ⟨rfl,rfl⟩ hc
   ·rw [grown,upd_other _ _ ek] at hb;exact ⟨b',hb⟩
  ·rintro ⟨b',hb⟩;refine ⟨b',?_⟩;rw [grown,upd_other]
   ·exact hb
   ·rintro rfl;rw [h.new] at hb;cases hb
theorem Adds.kidN (h:Adds T i d s) (e:Nat):kidN (grown T i d s b) e=if e=d then kidN T e+1 else kidN T e:=by
 by_cases hc:e=d
 ·subst hc;rw [if_pos rfl];refine countP_up _ _ i 129 (by have:=h.most;omega) (fun k hk=> ?_) ?_ ?_
  ·simp only [grown,upd_other _ _ hk]
  ·simp [h.new]
  ·simp [grown,upd_same]
 ·rw [if_neg hc];refine countP_same _ _ _ (fun k _=> ?_);by_cases ek:k=i
  ·subst ek;simp [grown,upd_same,h.new,Ne.symm hc]
  ·simp only [grown,upd_other _ _ ek]
theorem Adds.things (h:Adds T i d s):things (grown T i d s b)=things T+1:=by
 refine countP_up _ _ i 129 (by have:=h.most;omega) (fun k hk=> ?_) ?_ ?_
 ·simp only [grown,upd_other _ _ hk]
 ·simp [h.new]
 ·simp [grown,upd_same]
theorem grown_own (h:Adds T i d s):kidN (grown T i d s b) i=0∧∀z,YtlcojhddnpmgmaaGreat.kid (grown T i d s b) i z=none:=by
 have hz:∀z,YtlcojhddnpmgmaaGreat.kid T i z=none:=fun z=>by
  cases hk:YtlcojhddnpmgmaaGreat.kid T i z with
  | none=>rfl
  | some k=>
   obtain ⟨x,hx,hu,_⟩:=kid_some hk;exact absurd hu (h.up hx)
 refine ⟨?_,fun z=>by rw [h.kid,if_neg (fun e=>h.ne e.1.symm),hz]⟩;rw [h.kidN,if_neg (Ne.symm h.ne)];refine List.countP_eq_zero.2 (fun k hk=> ?_);cases hx:T k with
 | none=>simp
 | some x=>simpa using h.up hx
end
theorem TreeAt.dir {w:World} {o:Nat→Nat} {K:Nat} {k p n:Nat} {x:Node} {m:ByteArray→Option Int} (h:ThingAt w o K k p x n m) (hd:x.dir=true):
  ∃ib,o ib=K+2000+k∧w.heap[p]? =some (.cells #[.int .i64 x.up,.string (ba x.name),.bool true,.map (some ib)] 141 (0,0))∧MapAt encS w ib n m∧o p=K+1000+k:=by
 obtain ⟨up,name,dir⟩:=x;dsimp only at hd;subst hd;obtain ⟨h1,ib,h2,h3,h4⟩:=h;exact ⟨ib,h2,h3,h4,h1⟩
def NewAt (w:World) (p ib d:Nat) (s:List UInt8) (b:Bool):Prop:=match b with
 | true=>w.heap[p]? =some (.cells #[.int .i64 d,.string (ba s),.bool true,.map (some ib)] 141 (0,0))∧MapAt encS w ib 0 (fun _=>none)∧p≠ib
 | false=>w.heap[p]? =some (.cells #[.int .i64 d,.string (ba s),.bool false,.map none] 141 (0,0))
def newO (o:Nat→Nat) (K i p ib:Nat) (b:Bool):Nat→Nat:=match b with
 | true=>paint (paint o p (K+1000+i)) ib (K+2000+i)
 | false=>paint o p (K+1000+i)
theorem thm_grown (T:Tree) (i d:Nat) (s:List UInt8) (b:Bool) (tp:Nat→Nat) (p:Nat):thm (grown T i d s b) (upd tp i p)=fun z=>if z=(i:Int) then some p else thm T tp z:=by
 funext z;by_cases hz:z=(i:Int)
 ·subst hz;simp [thm,grown,upd_same]
 ·rw [if_neg hz];unfold thm;by_cases h0:0≤z
  ·rw [if_pos h0,if_pos h0,grown,upd_other,upd_other]
   ·omega
   ·omega
  ·rw [if_neg h0,if_neg h0]
theorem kidm_grown {T:Tree} {i d:Nat} {s:List UInt8} {b:Bool} (h:Adds T i d s):kidm (grown T i d s b) d=fun z=>if z=ba s then some (i:Int) else kidm T d z:=by
 funext z;unfold kidm;rw [h.kid];by_cases hz:z=ba s
 ·subst hz;simp [ba_list]
 ·rw [if_neg hz,if_neg];rintro ⟨_,e⟩;exact hz (by rw [← e,ba_of])
theorem TreeAt.grow {w w':World} {o:Nat→Nat} {K t mb i d p ib jb:Nat} {tp:Nat→Nat} {T:Tree} {s:List UInt8} {b:Bool} {y:Node} (h:Adds T i d s) (hf:Fresh w o)
  (ot:o t=K+3) (kt:w.heap[t]? =some (.cells #[.map (some mb)] 132 (0,0))) (om:o mb=K+4) (M:MapAt encI w mb (YtlcojhddnpmgmaaGreat.things T) (thm T tp)) (hth:∀k x,T k=some x→ThingAt w o K k (tp k) x (YtlcojhddnpmgmaaGreat.kidN T k) (kidm T k))
  (hy:T d=some y) (hyd:y.dir=true) (oi:o ib=K+2000+d) (kd:w.heap[tp d]? =some (.cells #[.int .i64 y.up,.string (ba y.name),.bool true,.map (some ib)] 141 (0,0)))
  (f:Fr (fun j=>j=mb∨j=ib) w w') (M1:MapAt encI w' mb (YtlcojhddnpmgmaaGreat.things T+1) (fun z=>if z=(i:Int) then some p else thm T tp z)) (M2:MapAt encS w' ib (YtlcojhddnpmgmaaGreat.kidN T d+1) (fun z=>if z=ba s then some (i:Int) else kidm T d z))
  (hp:w.heap.size≤p) (hj:b=true→w.heap.size≤jb) (N:NewAt w' p jb d s b) (hjb:b=true→jb<w'.heap.size) (hpl:p<w'.heap.size):
  Step (fun c=>c=K+4∨c=K+2000+d) w o w' (newO o K i p jb b)∧TreeAt w' (newO o K i p jb b) K t (grown T i d s b):=by
 have hold:∀k,k<w.heap.size→newO o K i p jb b k=o k:=fun k hk=>by
  cases b with
  | false=>exact paint_other _ _ (by omega)
  | true=>
   have:=hj rfl;show paint (paint o p _) jb _ k=_;rw [paint_other _ _ (by omega),paint_other _ _ (by omega)]
 have hs:Step (fun c=>c=K+4∨c=K+2000+d) w o w' (newO o K i p jb b):=by
  refine ⟨f.mono (fun k _ e=> ?_),hold,fun k hk=> ?_⟩
  ·rcases e with rfl|rfl
   ·exact .inl om
   ·exact .inr oi
  ·have h0:=hf k (Nat.le_trans f.size hk);cases b with
   | false=>rw [show newO o K i p jb false=paint o p (K+1000+i) from rfl,paint_other _ _ (by omega)];exact h0
   | true=>
    have:=hjb rfl;rw [show newO o K i p jb true=paint (paint o p (K+1000+i)) jb (K+2000+i) from rfl,paint_other _ _ (by omega),paint_other _ _ (by omega)];exact h0
 refine ⟨hs,mb,upd tp i p,(hs.own kt).trans ot,hs.block kt (by rw [ot];omega),(hs.old mb M.lt).trans om,?_,fun k x hk=> ?_⟩
 ·rw [thm_grown,h.things];exact M1
 ·by_cases ek:k=i
  ·subst ek;rw [grown,upd_same] at hk;cases hk;rw [upd_same];obtain ⟨e1,e2⟩:=grown_own h (b:=b);have e3:kidm (grown T k d s b) k=fun _=>none:=by
    funext z;unfold kidm;rw [e2];rfl
   rw [e1,e3];cases b with
   | false=>exact ⟨paint_same _ _ _,N⟩
   | true=>
    obtain ⟨n1,n2,n3⟩:=N;exact ⟨by show paint (paint o p _) jb _ p=_;rw [paint_other _ _ n3,paint_same],jb,paint_same _ _ _,n1,n2⟩
  ·rw [grown,upd_other _ _ ek] at hk;rw [upd_other _ _ ek];have hk1:=h.ok.lt hk;by_cases ed:k=d
   ·subst ed;rw [hy] at hk;cases hk;have h1:=(hth k y hy).1;rw [h.kidN,if_pos rfl,kidm_grown h];have e:ThingAt w' (newO o K i p jb b) K k (tp k) y (YtlcojhddnpmgmaaGreat.kidN T k+1) (fun z=>if z=ba s then some (i:Int) else kidm T k z):=by
     obtain ⟨up,name,dir⟩:=y;dsimp only at hyd;subst hyd;exact ⟨(hs.own kd).trans h1,ib,(hs.old ib (by
      rcases Nat.lt_or_ge ib w.heap.size with h|h
      ·exact h
      ·have:=hf ib h;omega)).trans oi,hs.block kd (by rw [h1];omega),M2⟩
    exact e
   ·rw [h.kidN,if_neg ed];have e:kidm (grown T i d s b) k=kidm T k:=by
     funext z;unfold kidm;rw [h.kid,if_neg (fun e=>ed e.1)]
    rw [e];exact (hth k x hk).step hs (by omega) (by omega)
end Go.Proofs.YtlcojhddnpmgmaaGreat
