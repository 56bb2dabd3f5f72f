/- Part of the proof; the last text says what is proved. -/
import Derived.Test.YtlcojhddnpmgmaaGreatW03
import Derived.Test.YtlcojhddnpmgmaaGreatW04
import Derived.BigQuiet
import Derived.Deep.AppendLies
import Derived.Deep.AppendSrc
import Derived.Deep.MidRow
import Derived.Deep.QuietTactic
import Derived.Laws.IdiomCopy
import Derived.Laws.StructEq
import Derived.Lib.AppendZerosOnto
import Derived.Lib.SliceRun
import Derived.OrdersHeld
import Derived.Shelf.SlicesE.Kit
set_option linter.unusedSimpArgs false
set_option linter.unusedVariables false
set_option maxRecDepth 100000
set_option maxHeartbeats 3200000
namespace Go.Proofs.YtlcojhddnpmgmaaGreat
open Go.RowKit
theorem slAt_own {w:World} {base:Nat} {v:Value} {bs:List UInt8} (h:w.ownsRow base 5 1 v bs.length (bs.map fun x=> .int .u8 x.toNat)) (hne:v≠ .slice none 0 0):
  ∃b c,SlIs w v bs b 0 c∧base≤b:=by
 obtain ⟨_,h⟩:=h;rcases h with ⟨rfl,hn⟩|⟨g,cap,cur,rfl,hg,hh,hn,_,hs,ht⟩
 ·exact absurd rfl hne
 ·refine ⟨g,cap,⟨rfl,hn,lt_of_block hh,fun j x hj=> ?_⟩,hg⟩;have h1:(bs.map fun x:UInt8=>Value.int .u8 x.toNat)[j]? =some (.int .u8 x.toNat):=by simp [hj]
  rw [← ht] at h1;have h2:cur.toList[j]? =some (.int .u8 x.toNat):=by
   rw [List.getElem?_take] at h1;split at h1
   ·exact h1
   ·cases h1
  rw [Nat.zero_add,cell_at hh];simpa using h2
theorem clone_ (v:Value) (bs:List UInt8) (b off c:Nat) (w:World) (h:SlIs w v bs b off c) (hb:bs.length≤1000000):Calls Tryz.prog 101 #[v] w fun e w'=>∃v' b' c',e=.returned v'∧SlIs w' v' bs b' 0 c'∧w.heap.size≤b'∧Fr No w w':=by
 obtain ⟨rfl,hl,hlt,hc⟩:=h;refine (Tryz.bytes_Clone_at ⟨b,off,none⟩ bs.length c (bs.map fun x=>(x.toNat:Int)) w (by simp) (by omega) (fun i hi=> ?_)).mono ?_
 ·have h2:(Addr.mk b off none).add i=⟨b,off+i,none⟩:=by unfold Addr.add;split<;>simp_all
  rw [h2,hc i bs[i] (List.getElem?_eq_getElem hi)];simp [List.getD,hi]
 ·rintro e w' ⟨v',rfl,hown,hne,hbl⟩;rw [List.map_map] at hown;obtain ⟨b',c',h1,h2⟩:=slAt_own hown hne;exact ⟨v',b',c',rfl,h1,h2,Fr.of_below hbl (Nat.le_refl _)⟩
def mayP (c l s:Int):Prop:=0≤c∧c<4∧0≤l∧l≤1048576∧1≤s∧s≤1073741824
theorem gmay_yes (c l s:Int) (h:mayP c l s) (w:World):Calls Tryz.prog 98 #[.agg #[.int .i64 c,.int .i64 l,.int .i64 s]] w fun e w'=>e=.returned (.bool true)∧Fr No w w':=by
 obtain ⟨h1,h2,h3,h4,h5,h6⟩:=h;go_enter Tryz.func98,Tryz.ntmps98
 go_wp2
 go_ret
 exact ⟨rfl,(Fr.refl w).alloc _⟩
theorem gmay_no (c l s:Int) (h:¬mayP c l s) (w:World):Calls Tryz.prog 98 #[.agg #[.int .i64 c,.int .i64 l,.int .i64 s]] w fun e w'=>e=.returned (.bool false)∧Fr No w w':=by
 by_cases h1:0≤c
 ·by_cases h2:c<4
  ·by_cases h3:0≤l
   ·by_cases h4:l≤1048576
    ·by_cases h5:1≤s
     ·have h6:¬s≤1073741824:=fun h6=>h ⟨h1,h2,h3,h4,h5,h6⟩;clear h;go_enter Tryz.func98,Tryz.ntmps98
      go_wp2
      go_ret
      exact ⟨rfl,(Fr.refl w).alloc _⟩
     ·clear h;go_enter Tryz.func98,Tryz.ntmps98
      go_wp2
      go_ret
      exact ⟨rfl,(Fr.refl w).alloc _⟩
    ·clear h;go_enter Tryz.func98,Tryz.ntmps98
     go_wp2
     go_ret
     exact ⟨rfl,(Fr.refl w).alloc _⟩
   ·clear h;go_enter Tryz.func98,Tryz.ntmps98
    go_wp2
    go_ret
    exact ⟨rfl,(Fr.refl w).alloc _⟩
  ·clear h;go_enter Tryz.func98,Tryz.ntmps98
   go_wp2
   go_ret
   exact ⟨rfl,(Fr.refl w).alloc _⟩
 ·clear h;go_enter Tryz.func98,Tryz.ntmps98
  go_wp2
  go_ret
  exact ⟨rfl,(Fr.refl w).alloc _⟩
def kindOf (l s l' s':Int):Int:=if l<l'∨l=l'∧s<s' then 2 else if l'<l then 3 else if s=s' then 1 else 0
theorem gkind_ (c l s l' s':Int) (w:World):Calls Tryz.prog 100 #[.agg #[.int .i64 c,.int .i64 l,.int .i64 s],.agg #[.int .i64 c,.int .i64 l',.int .i64 s']] w fun e w'=>e=.returned (.int .i64 (kindOf l s l' s'))∧Fr No w w':=by
 rcases Int.lt_trichotomy l l' with h|h|h
 ·have e:kindOf l s l' s'=2:=by simp [kindOf,h]
  rw [e];clear e;go_enter Tryz.func100,Tryz.ntmps100
  go_wp2
  go_ret
  exact ⟨rfl,by repeat (first|exact Fr.refl _|apply Fr.alloc)⟩
 ·subst h;rcases Int.lt_trichotomy s s' with h2|h2|h2
  ·have e:kindOf l s l s'=2:=by simp [kindOf,h2]
   have t1:¬l<l:=(by omega)
   rw [e];clear e;go_enter Tryz.func100,Tryz.ntmps100
   go_wp2
   go_ret
   exact ⟨rfl,by repeat (first|exact Fr.refl _|apply Fr.alloc)⟩
  ·subst h2;have e:kindOf l s l s=1:=(by simp [kindOf])
   have t1:¬l<l:=(by omega)
   have t2:¬s<s:=(by omega)
   rw [e];clear e;go_enter Tryz.func100,Tryz.ntmps100
   go_wp2
   go_ret
   exact ⟨rfl,by repeat (first|exact Fr.refl _|apply Fr.alloc)⟩
  ·have e:kindOf l s l s'=0:=by
    unfold kindOf;rw [if_neg (by omega),if_neg (by omega),if_neg (by omega)]
   have t1:¬l<l:=(by omega)
   have t2:¬s<s':=(by omega)
   have t3:(s==s')=false:=(by simp;omega)
   rw [e];clear e;go_enter Tryz.func100,Tryz.ntmps100
   go_wp2
   go_ret
   exact ⟨rfl,by repeat (first|exact Fr.refl _|apply Fr.alloc)⟩
 ·have e:kindOf l s l' s'=3:=by
   unfold kindOf;rw [if_neg (by omega),if_pos h]
  have t1:¬l<l':=by omega
  have t3:(l==l')=false:=by simp;omega
  rw [e];clear e;go_enter Tryz.func100,Tryz.ntmps100
  go_wp2
  go_ret
  exact ⟨rfl,by repeat (first|exact Fr.refl _|apply Fr.alloc)⟩
def Fresh (w:World) (o:Nat→Nat):Prop:=∀k,w.heap.size≤k→o k=0
structure Step (C:Nat→Prop) (w:World) (o:Nat→Nat) (w':World) (o':Nat→Nat):Prop where
 fr:Fr (fun k=>C (o k)) w w'
 old:∀k,k<w.heap.size→o' k=o k
 fresh:Fresh w' o'
theorem Step.refl {C:Nat→Prop} {w:World} {o:Nat→Nat} (h:Fresh w o):Step C w o w o:=⟨Fr.refl w,fun _ _=>rfl,h⟩
theorem Step.no {C:Nat→Prop} {w w':World} {o:Nat→Nat} (h:Fresh w o) (f:Fr No w w'):Step C w o w' o:=
 ⟨f.of_no,fun _ _=>rfl,fun k hk=>h k (Nat.le_trans f.size hk)⟩
theorem Step.trans {C D:Nat→Prop} {w w1 w2:World} {o o1 o2:Nat→Nat} (h:Step C w o w1 o1) (g:Step D w1 o1 w2 o2) (hc:∀c,D c→C c):Step C w o w2 o2:=
 ⟨h.fr.trans g.fr (fun j hj e=>by rw [h.old j hj] at e;exact hc _ e),fun k hk=>(g.old k (Nat.lt_of_lt_of_le hk h.fr.size)).trans (h.old k hk),g.fresh⟩
theorem Step.mono {C D:Nat→Prop} {w w':World} {o o':Nat→Nat} (h:Step C w o w' o') (hc:∀c,C c→D c):Step D w o w' o':=⟨h.fr.mono (fun _ _ e=>hc _ e),h.old,h.fresh⟩
theorem Step.block {C:Nat→Prop} {w w':World} {o o':Nat→Nat} (s:Step C w o w' o') {k:Nat} {x:Obj} (hk:w.heap[k]? =some x) (hc:¬C (o k)):w'.heap[k]? =some x:=s.fr.block_of hk hc
theorem Step.own {C:Nat→Prop} {w w':World} {o o':Nat→Nat} (s:Step C w o w' o') {k:Nat} {x:Obj} (hk:w.heap[k]? =some x):o' k=o k:=s.old k (lt_of_block hk)
theorem Step.sl {C:Nat→Prop} {w w':World} {o o':Nat→Nat} (s:Step C w o w' o') {v:Value} {bs:List UInt8} {b off c:Nat} (h:SlIs w v bs b off c) (hc:¬C (o b)):SlIs w' v bs b off c∧o' b=o b:=
 ⟨⟨h.1,h.2.1,Nat.lt_of_lt_of_le h.2.2.1 s.fr.size,fun j x hj=>s.fr.cell_of (h.2.2.2 j x hj) hc⟩,s.old b h.2.2.1⟩
def paint (o:Nat→Nat) (b c:Nat):Nat→Nat:=fun k=>if k=b then c else o k
theorem paint_same (o:Nat→Nat) (b c:Nat):paint o b c b=c:=by simp [paint]
theorem paint_other (o:Nat→Nat) {b k:Nat} (c:Nat) (h:k≠b):paint o b c k=o k:=by simp [paint,h]
abbrev WRow:=Int×Int×List UInt8
def rowAt (w:World) (o:Nat→Nat) (c:Nat) (i:Nat) (p:Value):Option WRow→Prop
 | none=>p=.pointer none
 | some (life,seq,bs)=>∃r v b cc,p=.pointer (some ⟨r,0,none⟩)∧o r=c∧w.heap[r]? =some (.cells #[.int .i64 i,.int .i64 life,.int .i64 seq,v] 119 (0,0))∧SlIs w v bs b 0 cc∧o b=c
def WinAt (w:World) (o:Nat→Nat) (c win:Nat) (W:Nat→Option WRow):Prop:=
 o win=c∧∃p:Nat→Value,w.heap[win]? =some (.cells #[p 0,p 1,p 2,p 3,.bool true] 152 (0,0))∧∀i,i<4→rowAt w o (c+1) i (p i) (W i)
theorem rowAt.step {C:Nat→Prop} {w w':World} {o o':Nat→Nat} {c i:Nat} {p:Value} {x:Option WRow} (h:rowAt w o c i p x) (s:Step C w o w' o') (hc:¬C c):rowAt w' o' c i p x:=by
 rcases x with _|⟨life,seq,bs⟩
 ·exact h
 ·obtain ⟨r,v,b,cc,e,h1,h2,h3,h4⟩:=h;obtain ⟨s1,s2⟩:=s.sl h3 (by rw [h4];exact hc);exact ⟨r,v,b,cc,e,(s.own h2).trans h1,s.block h2 (by rw [h1];exact hc),s1,s2.trans h4⟩
theorem WinAt.step {C:Nat→Prop} {w w':World} {o o':Nat→Nat} {c win:Nat} {W:Nat→Option WRow} (h:WinAt w o c win W) (s:Step C w o w' o') (hc:¬C c) (hd:¬C (c+1)):WinAt w' o' c win W:=by
 obtain ⟨h1,p,h2,h3⟩:=h;exact ⟨(s.own h2).trans h1,p,s.block h2 (by rw [h1];exact hc),fun i hi=>(h3 i hi).step s hd⟩
theorem WinAt.no {w w':World} {o:Nat→Nat} {c win:Nat} {W:Nat→Option WRow} (h:WinAt w o c win W) (hf:Fresh w o) (f:Fr No w w'):WinAt w' o c win W:=h.step (Step.no (C:=fun _=>False) hf f) id id
theorem grow_ (win i:Nat) (hi:i<4) (p:Nat→Value) (w:World) (hw:w.heap[win]? =some (.cells #[p 0,p 1,p 2,p 3,.bool true] 152 (0,0))):Calls Tryz.prog 99 #[.pointer (some ⟨win,0,none⟩),.int .i64 i] w fun e w'=>e=.returned (p i)∧w'=w:=by
 have c0:w.cell? ⟨win,i,none⟩=some (p i):=by
  rw [cell_at hw]
  match i,hi with
  | 0,_=>rfl
  | 1,_=>rfl
  | 2,_=>rfl
  | 3,_=>rfl
 have q1:(0:Int)≤(i:Int):=by omega
 have q2:(i:Int)<4:=by omega
 have q3:¬(i:Int)<0:=by omega
 have q4:¬(4:Int)≤(i:Int):=by omega
 clear hw;go_enter Tryz.func99,Tryz.ntmps99
 go_wp2
 go_ret
 exact ⟨rfl,rfl⟩
def askOf (W:Nat→Option WRow) (c l s:Int):Int×Option (List UInt8):=
 if 0≤c∧c<4∧0≤l∧l≤1048576∧1≤s∧s≤1073741824 then
  match W c.toNat with
  | none=>(3,none)
  | some (life,seq,bs)=>(kindOf l s life seq,if kindOf l s life seq=1 then some bs else none)
 else (2,none)
def AskPost (w:World) (x:Int×Option (List UInt8)) (e:Ending) (w':World):Prop:=
 Fr No w w'∧match x.2 with
  | none=>e=.returned (.tuple #[.int .i64 x.1,.slice none 0 0])
  | some bs=>∃v b c,e=.returned (.tuple #[.int .i64 x.1,v])∧SlIs w' v bs b 0 c∧w.heap.size≤b
theorem gask_ (o:Nat→Nat) (cl win:Nat) (W:Nat→Option WRow) (c l s:Int) (w:World) (h:WinAt w o cl win W) (hlen:∀i life seq bs,W i=some (life,seq,bs)→bs.length≤1000000):
  Calls Tryz.prog 53 #[.pointer (some ⟨win,0,none⟩),.agg #[.int .i64 c,.int .i64 l,.int .i64 s]] w (AskPost w (askOf W c l s)):=by
 obtain ⟨_,p,hw,hr⟩:=h;have f0:Fr No w (w.alloc (.cells #[.int .i64 c,.int .i64 l,.int .i64 s] 32)):=(Fr.refl w).alloc _;have c4:(w.alloc (.cells #[.int .i64 c,.int .i64 l,.int .i64 s] 32)).cell? ⟨win,4,none⟩=some (.bool true):=by rw [cell_at (f0.block_of hw id)];rfl
 have k0:=new_at w (.cells #[.int .i64 c,.int .i64 l,.int .i64 s] 32);by_cases hm:mayP c l s
 ·have hA:askOf W c l s=match W c.toNat with
   | none=>(3,none)
   | some (life,seq,bs)=>(kindOf l s life seq,if kindOf l s life seq=1 then some bs else none):=if_pos hm
  generalize askOf W c l s=A at*;obtain ⟨i,rfl⟩:∃i:Nat,c=i:=⟨c.toNat,by have:=hm.1;omega⟩
  have hi:i<4:=by have:=hm.2.1;omega
  rw [show ((i:Int)).toNat=i by omega] at hA;have hri:=hr i hi;have HM:=lH hm;have HW:=lH hw;clear hr hm hw;rcases hwi:W i with _|⟨life,seq,bs⟩
  ·rw [hwi] at hri hA;have HP:Hid (p i=.pointer none):=lH hri;have HA:Hid (A=(3,none)):=lH hA;clear hri hwi hA;go_enter Tryz.func53,Tryz.ntmps53;go_wp2_with fail;refine (gmay_yes _ _ _ HM.out _).mono ?_;rintro e w1 ⟨rfl,f1⟩;have F1:Fr No w w1:=f0.trans f1 (fun _ _ e=>e);have p0:w1.cell? ⟨w.heap.size,0,none⟩=some (.int .i64 i):=(by rw [cell_at (f1.block_of k0 id)];rfl)
   clear k0;go_wp2_with fail;refine (grow_ win i hi p _ (F1.block_of HW.out id)).mono ?_;rintro e w2 ⟨rfl,rfl⟩;rw [HP.out];go_wp2_with fail;exact bodyPost_ret (v:=.tuple #[.int .i64 3,.slice none 0 0]) (by simp [results,Tryz.results53,go_sem]) rfl (by rw [HA.out];exact ⟨F1,rfl⟩)
  ·rw [hwi] at hri hA;dsimp only at hA;have HA:=lH hA;obtain ⟨r,v,b,cc,hp,_,hk,hs,_⟩:=hri;have hl:=hlen i life seq bs hwi;have HP:=lH hp;have HR:=lH hk;have HS:=lH hs;clear hp hk hs hwi hlen hA;go_enter Tryz.func53,Tryz.ntmps53;go_wp2_with fail;refine (gmay_yes _ _ _ HM.out _).mono ?_;rintro e w1 ⟨rfl,f1⟩;have p0:w1.cell? ⟨w.heap.size,0,none⟩=some (.int .i64 i):=(by rw [cell_at (f1.block_of k0 id)];rfl)
   have p1:w1.cell? ⟨w.heap.size,1,none⟩=some (.int .i64 l):=(by rw [cell_at (f1.block_of k0 id)];rfl)
   have p2:w1.cell? ⟨w.heap.size,2,none⟩=some (.int .i64 s):=(by rw [cell_at (f1.block_of k0 id)];rfl)
   have F1:Fr No w w1:=f0.trans f1 (fun _ _ e=>e);have hr1:=F1.block_of HR.out id;have q0:w1.cell? ⟨r,0,none⟩=some (.int .i64 i):=(by rw [cell_at hr1];rfl)
   have q1:w1.cell? ⟨r,1,none⟩=some (.int .i64 life):=(by rw [cell_at hr1];rfl)
   have q2:w1.cell? ⟨r,2,none⟩=some (.int .i64 seq):=(by rw [cell_at hr1];rfl)
   clear k0 hr1;go_wp2_with fail;refine (grow_ win i hi p _ (F1.block_of HW.out id)).mono ?_;rintro e w2 ⟨rfl,rfl⟩;rw [HP.out];have HK:=lH (gkind_ i l s life seq w2.drew);generalize kindOf l s life seq=kk at*;go_wp2_with fail;go_region_held3 (fun w'=>w'.cell? ⟨w.heap.size,0,none⟩=some (.int .i64 i)∧w'.cell? ⟨w.heap.size,1,none⟩=some (.int .i64 l)∧w'.cell? ⟨w.heap.size,2,none⟩=some (.int .i64 s)∧w'.cell? ⟨r,0,none⟩=some (.int .i64 i)∧w'.cell? ⟨r,1,none⟩=some (.int .i64 life)∧w'.cell? ⟨r,2,none⟩=some (.int .i64 seq)) (first|go_keep|(go_split_ands;refine ⟨?_,?_,?_,?_,?_,?_⟩<;>exact f3.cell_of (by assumption) id))
    ((go_at_call 100;refine HK.out.mono ?_;rintro e w3 ⟨rfl,f3⟩))
   have F3:Fr No w w3:=F1.drew.trans f3 (fun _ _ e=>e);have r3:w3.cell? ⟨r,3,none⟩=some v:=(by rw [cell_at (F3.block_of HR.out id)];rfl)
   clear p0 p1 p2 q0 q1 q2;by_cases hk1:kk=1
   ·subst hk1;go_wp2_with fail;refine (clone_ v bs b 0 cc _ ⟨HS.out.1,HS.out.2.1,Nat.lt_of_lt_of_le HS.out.2.2.1 F3.size,fun j x hj=>F3.cell_of (HS.out.2.2.2 j x hj) id⟩ hl).mono ?_;rintro e w4 ⟨v',b',c',rfl,hsl,hbb,f4⟩;go_wp2_with fail
    go_ret2
    rw [HA.out];exact ⟨F3.trans f4 (fun _ _ e=>e),v',b',c',rfl,hsl,Nat.le_trans F3.size hbb⟩
   ·have t1:(kk==1)=false:=by simpa using hk1
    go_wp2_with fail;exact bodyPost_ret (v:=.tuple #[.int .i64 kk,.slice none 0 0]) (by simp [results,Tryz.results53,go_sem]) rfl (by rw [HA.out,if_neg hk1];exact ⟨F3,rfl⟩)
 ·have hA:askOf W c l s=(2,none):=if_neg hm;rw [hA];have HM:=lH hm;clear hm hA hr hw hlen;go_enter Tryz.func53,Tryz.ntmps53;go_wp2_with fail;refine (gmay_no _ _ _ HM.out _).mono ?_;rintro e w1 ⟨rfl,f1⟩;go_wp2_with fail;exact bodyPost_ret (v:=.tuple #[.int .i64 2,.slice none 0 0]) (by simp [results,Tryz.results53,go_sem]) rfl ⟨f0.trans f1 (fun _ _ e=>e),rfl⟩
def upd {α:Type} (W:Nat→α) (i:Nat) (x:α):Nat→α:=fun k=>if k=i then x else W k
theorem upd_same {α:Type} (W:Nat→α) (i:Nat) (x:α):upd W i x i=x:=by simp [upd]
theorem upd_other {α:Type} (W:Nat→α) {i k:Nat} (x:α) (h:k≠i):upd W i x k=W k:=by simp [upd,h]
theorem win_set {α:Type} (p:Nat→α) (a:α) (i:Nat) (hi:i<4) (z:α):(#[p 0,p 1,p 2,p 3,a]:Array α).setIfInBounds i z= #[upd p i z 0,upd p i z 1,upd p i z 2,upd p i z 3,a]:=by
 match i,hi with
 | 0,_=>simp [upd]
 | 1,_=>simp [upd]
 | 2,_=>simp [upd]
 | 3,_=>simp [upd]
theorem WinAt.place {w:World} {o:Nat→Nat} {cl win:Nat} {W:Nat→Option WRow} (h:WinAt w o cl win W) (i:Nat) (hi:i<4):∃z,w.cell? ⟨win,i,none⟩=some z:=by
 obtain ⟨_,p,h2,_⟩:=h;rw [cell_at h2]
 match i,hi with
 | 0,_=>exact ⟨_,rfl⟩
 | 1,_=>exact ⟨_,rfl⟩
 | 2,_=>exact ⟨_,rfl⟩
 | 3,_=>exact ⟨_,rfl⟩
theorem WinAt.frozen {w:World} {o:Nat→Nat} {cl win:Nat} {W:Nat→Option WRow} (h:WinAt w o cl win W) (i:Nat):w.frozen? ⟨win,i,none⟩=false:=by
 obtain ⟨_,p,h2,_⟩:=h;exact frozen_at h2 i
theorem WinAt.set {w w1 w2:World} {o:Nat→Nat} {cl win:Nat} {W:Nat→Option WRow} (h:WinAt w o cl win W) (hf:Fresh w o) (f1:Fr No w w1) (i:Nat) (hi:i<4) {l s:Int} {bs:List UInt8} {r b cc:Nat} {v:Value}
  (hr:w.heap.size≤r) (hb:w.heap.size≤b) (hrb:r≠b) (kr:w1.heap[r]? =some (.cells #[.int .i64 i,.int .i64 l,.int .i64 s,v] 119 (0,0))) (kv:SlIs w1 v bs b 0 cc) (e:w2=w1.setCell ⟨win,i,none⟩ (.pointer (some ⟨r,0,none⟩))):
  Step (· =cl) w o w2 (paint (paint o r (cl+1)) b (cl+1))∧WinAt w2 (paint (paint o r (cl+1)) b (cl+1)) cl win (upd W i (some (l,s,bs))):=by
 obtain ⟨h1,p,h2,h3⟩:=h;have hlt:=lt_of_block h2;have f2:Fr (· =win) w1 w2:=e▸fr_set w1 win i _;have F:Fr (· =win) w w2:=f1.of_no.trans f2 (fun _ _ e=>e);have hs:Step (· =cl) w o w2 (paint (paint o r (cl+1)) b (cl+1)):=by
  refine ⟨F.mono (fun k _ e=>by rw [e];exact h1),fun k hk=> ?_,fun k hk=> ?_⟩
  ·rw [paint_other _ _ (by omega),paint_other _ _ (by omega)]
  ·have g1:=lt_of_block kr;have g2:=kv.2.2.1;have g3:=f2.size;rw [paint_other _ _ (by omega),paint_other _ _ (by omega)];exact hf k (Nat.le_trans F.size hk)
 refine ⟨hs,(hs.old win hlt).trans h1,upd p i (.pointer (some ⟨r,0,none⟩)),?_,fun k hk=> ?_⟩
 ·rw [e,← win_set _ _ i hi];exact setCell_at (f1.block_of h2 id) i _
 ·by_cases hki:k=i
  ·subst hki;rw [upd_same,upd_same];refine ⟨r,v,b,cc,rfl,by rw [paint_other _ _ hrb,paint_same],?_,⟨kv.1,kv.2.1,Nat.lt_of_lt_of_le kv.2.2.1 f2.size,fun j x hj=>f2.cell_of (kv.2.2.2 j x hj) (by dsimp only;omega)⟩,paint_same _ _ _⟩;exact f2.block_of kr (by omega)
  ·rw [upd_other _ _ hki,upd_other _ _ hki];exact (h3 k hk).step hs (by omega)
theorem grow_no (win:Nat) (c:Int) (hc:¬(0≤c∧c<4)) (w:World):Calls Tryz.prog 99 #[.pointer (some ⟨win,0,none⟩),.int .i64 c] w fun e w'=>e=.returned (.pointer none)∧w'=w:=by
 by_cases h:c<0
 ·clear hc;go_enter Tryz.func99,Tryz.ntmps99
  go_wp2
  go_ret
  exact ⟨rfl,rfl⟩
 ·have h4:4≤c:=by omega
  clear hc;go_enter Tryz.func99,Tryz.ntmps99
  go_wp2
  go_ret
  exact ⟨rfl,rfl⟩
def lifeOf (W:Nat→Option WRow) (c:Int):Int:=if 0≤c∧c<4 then (match W c.toNat with|none=> -1|some (life,_,_)=>life) else -1
theorem glife_ (o:Nat→Nat) (cl win:Nat) (W:Nat→Option WRow) (c:Int) (w:World) (h:WinAt w o cl win W):Calls Tryz.prog 56 #[.pointer (some ⟨win,0,none⟩),.int .i64 c] w fun e w'=>e=.returned (.int .i64 (lifeOf W c))∧w'=w:=by
 obtain ⟨_,p,hw,hr⟩:=h;have c4:w.cell? ⟨win,4,none⟩=some (.bool true):=by rw [cell_at hw];rfl
 by_cases hc:0≤c∧c<4
 ·have hL:lifeOf W c=match W c.toNat with|none=> -1|some (life,_,_)=>life:=if_pos hc
  obtain ⟨i,rfl⟩:∃i:Nat,c=i:=⟨c.toNat,by omega⟩
  have hi:i<4:=by omega
  rw [show ((i:Int)).toNat=i by omega] at hL;have hri:=hr i hi;have HW:=lH hw;clear hw hr hc;generalize lifeOf W i=A at*;rcases hwi:W i with _|⟨life,seq,bs⟩
  ·rw [hwi] at hri hL;have HP:Hid (p i=.pointer none):=lH hri;have HA:Hid (A= -1):=lH hL;clear hri hwi hL;go_enter Tryz.func56,Tryz.ntmps56;go_wp2_with fail;refine (grow_ win i hi p _ HW.out).mono ?_;rintro e w' ⟨rfl,rfl⟩;rw [HP.out];go_wp2_with fail
   go_ret
   exact ⟨by rw [HA.out];rfl,rfl⟩
  ·rw [hwi] at hri hL;obtain ⟨r,v,b,cc,hp,_,hk,_,_⟩:=hri;have HP:=lH hp;have HA:Hid (A=life):=lH hL;have q1:w.cell? ⟨r,1,none⟩=some (.int .i64 life):=(by rw [cell_at hk];rfl)
   clear hp hk hwi hL;go_enter Tryz.func56,Tryz.ntmps56;go_wp2_with fail;refine (grow_ win i hi p _ HW.out).mono ?_;rintro e w' ⟨rfl,rfl⟩;rw [HP.out];go_wp2_with fail
   go_ret
   exact ⟨by rw [HA.out];rfl,rfl⟩
 ·have HA:Hid (lifeOf W c= -1):=lH (if_neg hc);have HC:=lH hc;clear hc hw hr;generalize lifeOf W c=A at*;go_enter Tryz.func56,Tryz.ntmps56;go_wp2_with fail;refine (grow_no win c HC.out _).mono ?_;rintro e w' ⟨rfl,rfl⟩;go_wp2_with fail
  go_ret
  exact ⟨by rw [HA.out];rfl,rfl⟩
structure Tok where
 c:Int
 h:Int
 i:Int
 wr:Bool
deriving DecidableEq,Inhabited
def tokC (x:Tok):List Value:= [.int .i64 x.c,.int .i64 x.h,.int .i64 x.i,.bool x.wr]
def tokV (x:Tok):Value:=.agg #[.int .i64 x.c,.int .i64 x.h,.int .i64 x.i,.bool x.wr]
structure RowB {α:Type} (c:α→List Value) (n:Nat) (t:TypeId) (w:World) (b cap:Nat) (L:List α):Prop where
 blk:∃cur,w.heap[b]? =some (.cells cur t (0,0))∧cap*n≤cur.size
 len:L.length≤cap
 row:∀(j:Nat) x,L[j]? =some x→w.rangeAt b (j*n) (c x)
abbrev TokB:=RowB tokC 4 53
def TokV (w:World) (v:Value) (L:List Tok):Prop:=(v=.slice none 0 0∧L= [])∨∃b cap,v=.slice (some ⟨b,0,none⟩) L.length cap∧cap≤maxLen∧TokB w b cap L
section
variable {α:Type} {c:α→List Value} {n:Nat} {t:TypeId}
theorem RowB.fr {S:Nat→Prop} {w w':World} {b cap:Nat} {L:List α} (h:RowB c n t w b cap L) (f:Fr S w w') (hb:¬S b):RowB c n t w' b cap L:=by
 obtain ⟨⟨cur,h1,h2⟩,h3,h4⟩:=h;exact ⟨⟨cur,f.block_of h1 hb,h2⟩,h3,fun j x hj i u hu=>f.cell_of (h4 j x hj i u hu) hb⟩
theorem RowB.lt {w:World} {b cap:Nat} {L:List α} (h:RowB c n t w b cap L):b<w.heap.size:=by
 obtain ⟨⟨cur,h1,h2⟩,h3,h4⟩:=h;exact lt_of_block h1
end
theorem Tryz.size53:(Tryz.prog.info? 53).map (·.size)=some 4:=by kernel_rfl
theorem setCells_fr (b:Nat):∀(vs:List Value) (o:Nat) (w:World),Fr (· =b) w (w.setCells b o vs)
 | [],_,w=>Fr.refl w
 | v::r,o,w=>(fr_set w b o v).trans (setCells_fr b r (o+1) _) (fun _ _ e=>e)
theorem setCells_blk (b:Nat):∀(vs:List Value) (o:Nat) (w:World) (cur:Array Value) (t:TypeId) (fz:Nat×Nat),w.heap[b]? =some (.cells cur t fz)→∃cur',(w.setCells b o vs).heap[b]? =some (.cells cur' t fz)∧cur'.size=cur.size
 | [],_,w,cur,t,fz,h=>⟨cur,h,rfl⟩
 | v::r,o,w,cur,t,fz,h=>by
  obtain ⟨cur',h1,h2⟩:=setCells_blk b r (o+1) _ _ t fz (setCell_at h o v);exact ⟨cur',h1,by rw [h2];simp⟩
section
variable {α:Type} {c:α→List Value} {n:Nat} {t:TypeId}
theorem RowB.there {w:World} {b cap:Nat} {L:List α} (h:RowB c n t w b cap L) (j m:Nat) (hj:j*n+m≤cap*n):w.there b (j*n) m:=fun i hi=>by
 obtain ⟨⟨cur,h1,h2⟩,h3,h4⟩:=h;refine ⟨?_,frozen_at h1 _⟩;rw [cell_at h1,Array.getElem?_eq_getElem (by omega)];rfl
theorem RowB.set {w:World} {b cap:Nat} {L:List α} (hn:∀x,(c x).length=n) (h:RowB c n t w b cap L) (j:Nat) (hj:j<L.length) (x:α):RowB c n t (w.setCells b (j*n) (c x)) b cap (L.set j x):=by
 have hc:=h.len;have hjn:(j+1)*n≤cap*n:=Nat.mul_le_mul_right n (by omega);have hj1:(j+1)*n=j*n+n:=Nat.succ_mul j n;have ht:=h.there j n (by omega);obtain ⟨⟨cur,h1,h2⟩,h3,h4⟩:=h;obtain ⟨cur',h5,h6⟩:=setCells_blk b (c x) (j*n) w cur t (0,0) h1;refine ⟨⟨cur',h5,by omega⟩,by rw [List.length_set];exact h3,fun i y hi=> ?_⟩;by_cases e:i=j
 ·subst e;rw [List.getElem?_set_self hj] at hi;cases hi;exact World.rangeAt_setCells_same w b (i*n) (c x) (by rw [hn];exact ht)
 ·rw [List.getElem?_set_ne (Ne.symm e)] at hi;refine World.rangeAt_setCells_apart (h4 i y hi) b _ _ (.inr ?_);rw [hn,hn];rcases Nat.lt_or_ge i j with hlt|hge
  ·exact .inl (by have:(i+1)*n≤j*n:=Nat.mul_le_mul_right n hlt;rw [Nat.succ_mul] at this;exact this)
  ·exact .inr (by have:(j+1)*n≤i*n:=Nat.mul_le_mul_right n (by omega);rw [Nat.succ_mul] at this;exact this)
end
theorem run_clear4 (w:World) (ty:TypeId) (b o n c:Nat) (hc:w.there b o (n*4)) (hn:0<n):∃vs:List Value,vs.length=n*4∧(Builtin.clear_ #[50] ty #[.slice (some ⟨b,o,none⟩) n c]).run Tryz.prog w=.ok (.tuple #[]) (w.setCells b o vs):=by
 have hz:∀w,(zeroValue 53).run Tryz.prog w=.ok (tokV ⟨0,0,0,false⟩) w:=fun w=>by kernel_rfl
 refine ⟨(Builtin.zeroCells (tokV ⟨0,0,0,false⟩).cells n).toList,by simp [Builtin.zeroCells,tokV,Value.cells],?_⟩;have hst:=run_storeCells_cells (P:=Tryz.prog) b o (Builtin.zeroCells (tokV ⟨0,0,0,false⟩).cells n).toList 0 w (fun j hj=>(hc j (by simpa [Builtin.zeroCells,tokV,Value.cells] using hj)).1) (fun j hj=>(hc j (by simpa [Builtin.zeroCells,tokV,Value.cells] using hj)).2) (by
  intro v hv;simp only [Builtin.zeroCells,tokV,Value.cells,Array.toList_map,List.mem_map] at hv;obtain ⟨i,_,rfl⟩:=hv;have:i % 4=0∨i % 4=1∨i % 4=2∨i % 4=3:=by omega
  rcases this with h|h|h|h<;>simp [h,Value.oneCell'])
 simp only [Nat.add_zero] at hst;obtain ⟨m,rfl⟩:∃m,n=m+1:=⟨n - 1,by omega⟩
 simp [Builtin.clear_,run_underlying Tryz.underlying50,hz,hst]
section
variable {α:Type} {c:α→List Value} {n:Nat} {t:TypeId}
theorem flat_len (hn:∀x,(c x).length=n) (L:List α):(L.flatMap c).length=L.length*n:=by
 induction L with
 | nil=>simp
 | cons x r ih=>rw [List.flatMap_cons,List.length_append,ih,hn,List.length_cons,Nat.succ_mul,Nat.add_comm]
theorem flat_get (hn:∀x,(c x).length=n):∀(L:List α) (j:Nat) (x:α),L[j]? =some x→∀(i:Nat) (u:Value),(c x)[i]? =some u→(L.flatMap c)[j*n+i]? =some u
 | [],j,x,h,_,_,_=>by simp at h
 | y::r,0,x,h,i,u,hu=>by
  simp only [List.getElem?_cons_zero,Option.some.injEq] at h;subst h;rw [List.flatMap_cons,Nat.zero_mul,Nat.zero_add,List.getElem?_append_left (List.getElem?_eq_some_iff.1 hu).1];exact hu
 | y::r,j+1,x,h,i,u,hu=>by
  rw [List.getElem?_cons_succ] at h;rw [List.flatMap_cons,List.getElem?_append_right (by rw [hn,Nat.succ_mul];omega),hn,Nat.succ_mul,show j*n+n+i - n=j*n+i by omega];exact flat_get hn r j x h i u hu
theorem flat_at (hn:∀x,(c x).length=n) (L:List α) (k:Nat) (u:Value) (h:(L.flatMap c)[k]? =some u):∃j x i,L[j]? =some x∧(c x)[i]? =some u∧k=j*n+i∧i<n:=by
 have hk:k<L.length*n:=by rw [← flat_len hn L];exact (List.getElem?_eq_some_iff.1 h).1
 have hn0:0<n:=by
  rcases Nat.eq_zero_or_pos n with e|e
  ·rw [e,Nat.mul_zero] at hk;omega
  ·exact e
 have hj:k / n<L.length:=(Nat.div_lt_iff_lt_mul hn0).2 hk;have hi:k % n<n:=Nat.mod_lt _ hn0;have hdm:k=k / n*n+k % n:=by rw [Nat.mul_comm];exact (Nat.div_add_mod k n).symm
 refine ⟨k / n,L[k / n],k % n,List.getElem?_eq_getElem hj,?_,hdm,hi⟩;have h2:(c (L[k / n]))[k % n]? =some ((c (L[k / n]))[k % n]'(by rw [hn];exact hi)):=List.getElem?_eq_getElem _;have h3:=flat_get hn L (k / n) _ (List.getElem?_eq_getElem hj) (k % n) _ h2;rw [← hdm,h] at h3;rw [h2,h3]
theorem RowB.cells {w:World} {b cap:Nat} {L:List α} (hn:∀x,(c x).length=n) (h:RowB c n t w b cap L) (k:Nat) (u:Value) (hk:(L.flatMap c)[k]? =some u):w.cell? ⟨b,k,none⟩=some u:=by
 obtain ⟨j,x,i,h1,h2,rfl,_⟩:=flat_at hn L k u hk;exact h.row j x h1 i u h2
theorem RowB.part {w:World} {b cap:Nat} {L:List α} (hn:∀x,(c x).length=n) (h:RowB c n t w b cap L) (d:Nat) (k:Nat) (u:Value) (hk:((L.drop d).flatMap c)[k]? =some u):w.cell? ⟨b,d*n+k,none⟩=some u:=by
 obtain ⟨j,x,i,h1,h2,rfl,_⟩:=flat_at hn _ k u hk;rw [List.getElem?_drop] at h1;have:=h.row (d+j) x h1 i u h2;rwa [Nat.add_mul,Nat.add_assoc] at this
theorem RowB.of_block {w:World} {b cap:Nat} {L:List α} (hn:∀x,(c x).length=n) {cur:Array Value} (hb:w.heap[b]? =some (.cells cur t (0,0))) (hs:cap*n≤cur.size) (hl:L.length≤cap) (hc:∀(k:Nat) (u:Value),(L.flatMap c)[k]? =some u→cur[k]? =some u):RowB c n t w b cap L:=
 ⟨⟨cur,hb,hs⟩,hl,fun j x hj i u hu=>by
  rw [cell_at hb];exact hc _ _ (flat_get hn L j x hj i u hu)⟩
theorem RowB.tight {w:World} {b cap cap':Nat} {L:List α} (h:RowB c n t w b cap L) (k:Nat) (hk:k≤cap') (hc:cap'≤cap):RowB c n t w b cap' (L.take k):=by
 obtain ⟨⟨cur,h1,h2⟩,h3,h4⟩:=h;refine ⟨⟨cur,h1,Nat.le_trans (Nat.mul_le_mul_right n hc) h2⟩,Nat.le_trans (List.length_take_le _ _) hk,fun j x hj=>h4 j x ?_⟩;rw [List.getElem?_take] at hj;split at hj
 ·exact hj
 ·cases hj
theorem RowB.splice {w:World} {b cap:Nat} {L:List α} (hn:∀x,(c x).length=n) (h:RowB c n t w b cap L) (i:Nat) (N:List α) (hi:i≤L.length) (hr:i+N.length≤cap):
  RowB c n t (w.setCells b (i*n) (N.flatMap c)) b cap (L.take i++N++L.drop (i+N.length)):=by
 have hfl:=flat_len hn N;have hbn:i*n+N.length*n≤cap*n:=by rw [← Nat.add_mul];exact Nat.mul_le_mul_right n hr
 have ht:=h.there i (N.length*n) hbn;obtain ⟨⟨cur,h1,h2⟩,h3,h4⟩:=h;obtain ⟨cur',h5,h6⟩:=setCells_blk b (N.flatMap c) (i*n) w cur t (0,0) h1;have hlt:(L.take i).length=i:=by rw [List.length_take];omega
 refine ⟨⟨cur',h5,by omega⟩,?_,fun j x hj=> ?_⟩
 ·rw [List.length_append,List.length_append,hlt,List.length_drop];omega
 ·by_cases h7:j<i
  ·rw [List.append_assoc,List.getElem?_append_left (by omega),List.getElem?_take,if_pos h7] at hj;refine World.rangeAt_setCells_apart (h4 j x hj) b _ _ (.inr (.inl ?_));rw [hn];have:=Nat.mul_le_mul_right n (show j+1≤i from h7);rwa [Nat.succ_mul] at this
  ·by_cases h8:j<i+N.length
   ·rw [List.append_assoc,List.getElem?_append_right (by omega),hlt,List.getElem?_append_left (by omega)] at hj;have hr:=World.rangeAt_setCells_same w b (i*n) (N.flatMap c) (by rw [hfl];exact ht);intro q u hu;have h9:=hr _ u (flat_get hn N (j - i) x hj q u hu);rwa [show i*n+((j - i)*n+q)=j*n+q by
     rw [← Nat.add_assoc,← Nat.add_mul,show i+(j - i)=j by omega]] at h9
   ·rw [List.getElem?_append_right (by rw [List.length_append,hlt];omega),List.length_append,hlt,List.getElem?_drop,show i+N.length+(j - (i+N.length))=j by omega] at hj;refine World.rangeAt_setCells_apart (h4 j x hj) b _ _ (.inr (.inr ?_));rw [hfl,← Nat.add_mul];exact Nat.mul_le_mul_right n (by omega)
theorem RowB.firstCells {P:Program} {w:World} {b cap:Nat} {L:List α} (hn:∀x,(c x).length=n) (h:RowB c n t w b cap L) (i l cap':Nat) (hi:i≤L.length):(Builtin.firstCells n i (.slice (some ⟨b,0,none⟩) l cap')).run P w=.ok ((L.take i).flatMap c).toArray w:=
 run_firstCells_some w n i ⟨b,0,none⟩ l cap' _ (by rw [flat_len hn,List.length_take,Nat.min_eq_left hi]) (fun j u hj=>by
  rw [Addr.add_lit,Nat.zero_add];obtain ⟨q,x,r,h1,h2,rfl,_⟩:=flat_at hn _ j u hj;rw [List.getElem?_take] at h1;split at h1
  ·exact h.row q x h1 r u h2
  ·cases h1)
end
theorem run_copy_rows {P:Program} (w:World) (dT sT ty elem:TypeId) (b o dLen dCap:Nat) (a:Addr) (sLen sCap n:Nat) (cs:List Value)
  (hu:P.underlying dT=some (.slice elem)) (hs:(P.info? elem).map (·.size)=some n) (hn:cs.length=Nat.min sLen dLen*n)
  (hsrc:∀j v,cs[j]? =some v→w.cell? (a.add j)=some v) (hc:∀j,j<cs.length→(w.cell? ⟨b,o+j,none⟩).isSome=true) (hf:∀j,j<cs.length→w.frozen? ⟨b,o+j,none⟩=false) (h1:∀v∈cs,v.oneCell'=true):
  (Builtin.copy_ #[dT,sT] ty #[.slice (some ⟨b,o,none⟩) dLen dCap,.slice (some a) sLen sCap]).run P w=.ok (goInt (Nat.min sLen dLen)) (w.setCells b o cs):=by
 have hl:=run_loadCells_list (P:=P) w a cs hsrc;have hst:=run_storeCells_cells (P:=P) b o cs 0 w (by simpa using hc) (by simpa using hf) h1;cases hq:P.info? elem with
 | none=>simp [hq] at hs
 | some i=>
  have hi:i.size=n:=by simpa [hq] using hs
  rw [hn] at hl;simp [Builtin.copy_,run_underlying hu,Builtin.lenOf,Builtin.firstCells,sizeOf,typeInfo,hq,hi,hl,hst]
theorem zero_cells (z:Array Value) (n k:Nat) (hz:z.size=n):(Builtin.zeroCells z k).toList=(List.replicate k ()).flatMap (fun _=>z.toList):=by
 have hn:∀x:Unit,((fun _=>z.toList) x).length=n:=fun _=>by simpa using hz
 apply List.ext_getElem?;intro q;have hl1:(Builtin.zeroCells z k).toList.length=k*n:=by simp [Builtin.zeroCells,hz]
 have hl2:=flat_len hn (List.replicate k ());rw [List.length_replicate] at hl2;by_cases hq:q<k*n
 ·have hn0:0<n:=by
   rcases Nat.eq_zero_or_pos n with e|e
   ·rw [e,Nat.mul_zero] at hq;omega
   ·exact e
  have hi:q % n<n:=Nat.mod_lt _ hn0;have hj:q / n<k:=(Nat.div_lt_iff_lt_mul hn0).2 hq;have hu:z.toList[q % n]? =some (z.toList[q % n]'(by simpa [hz] using hi)):=List.getElem?_eq_getElem _;have h3:=flat_get hn (List.replicate k ()) (q / n) () (by rw [List.getElem?_replicate,if_pos hj]) (q % n) _ hu;rw [show q / n*n+q % n=q by rw [Nat.mul_comm];exact Nat.div_add_mod q n] at h3;rw [h3];simp only [Builtin.zeroCells,Array.toList_map,Array.toList_range,List.getElem?_map,hz];rw [List.getElem?_range hq];simp [hz,hi]
 ·rw [List.getElem?_eq_none (by omega),List.getElem?_eq_none (by omega)]
theorem flat_rep {α:Type} {c:α→List Value} (z:α) (k:Nat):(List.replicate k z).flatMap c=(List.replicate k ()).flatMap (fun _=>c z):=by
 induction k with
 | zero=>rfl
 | succ k ih=>simp only [List.replicate_succ,List.flatMap_cons,ih]
structure Pt where
 c:Int
 l:Int
 n:Int
 a:Int
 z:Int
deriving DecidableEq,Inhabited
def ptC (x:Pt):List Value:= [.int .i64 x.c,.int .i64 x.l,.int .i64 x.n,.int .i64 x.a,.int .i64 x.z]
def ptV (x:Pt):Value:=.agg #[.int .i64 x.c,.int .i64 x.l,.int .i64 x.n,.int .i64 x.a,.int .i64 x.z]
def noPt:Pt:=⟨0,0,0,0,0⟩
theorem ptC_len (x:Pt):(ptC x).length=5:=rfl
theorem ptC_one (L:List Pt):∀u∈L.flatMap ptC,u.oneCell'=true:=fun u hu=>by
 obtain ⟨x,_,hx⟩:=List.mem_flatMap.1 hu;simp only [ptC,List.mem_cons,List.not_mem_nil,or_false] at hx;rcases hx with rfl|rfl|rfl|rfl|rfl<;>rfl
theorem Tryz.size59:(Tryz.prog.info? 59).map (·.size)=some 5:=by kernel_rfl
theorem Tryz.info59:(Tryz.prog.info? 59).map (fun i=>(i.zero,i.size,i.bytes))=some (some (.agg #[.int .i64 0,.int .i64 0,.int .i64 0,.int .i64 0,.int .i64 0]),5,40):=by kernel_rfl
theorem eql59 (a b c d e a' b' c' d' e':Int) (w:World):(binOp .eql 59 (.agg #[.int .i64 a,.int .i64 b,.int .i64 c,.int .i64 d,.int .i64 e]) (.agg #[.int .i64 a',.int .i64 b',.int .i64 c',.int .i64 d',.int .i64 e'])).run Tryz.prog w=.ok (.bool (decide ((⟨a,b,c,d,e⟩:Pt)=⟨a',b',c',d',e'⟩))) w:=by
 have u3:=Tryz.underlying3;have a3:=Tryz.isAgg3;have z3:=Tryz.sizeOf3;have u46:=Tryz.underlying46;have a46:=Tryz.isAgg46;have z46:=Tryz.sizeOf46;have hS:Tryz.prog.underlying 59=some (.struct (Tryz.prog.fieldsOf 59)):=by kernel_rfl
 have hp:Tryz.prog.stoodInHeld 59=false:=by kernel_rfl
 rw [run_eql_struct,show (10000:Nat)=9999+1 from rfl,run_equalIn_agg w 9999 59 _ _ hS hp];simp only [Program.fieldsOf,Tryz.underlying59,Pt.mk.injEq];go_simp;by_cases h1:a=a'<;>by_cases h2:b=b'<;>by_cases h3:c=c'<;>by_cases h4:d=d'<;>by_cases h5:e=e'<;>simp [h1,h2,h3,h4,h5]
theorem zero_ (f:Nat) (hf:f=71∨f=141) (x:Pt) (w:World):Calls Tryz.prog f #[ptV x] w fun e w'=>e=.returned (.bool (decide (x=noPt)))∧Fr No w w':=by
 have he:=eql59 x.c x.l x.n x.a x.z 0 0 0 0 0;have hd:(decide ((⟨x.c,x.l,x.n,x.a,x.z⟩:Pt)=⟨0,0,0,0,0⟩))=decide (x=noPt):=rfl;simp only [hd] at he;generalize decide (x=noPt)=r at*;clear hd;unfold ptV;rcases hf with rfl|rfl
 ·go_enter Tryz.func71,Tryz.ntmps71
  go_wp2
  go_ret
  exact ⟨rfl,(Fr.refl w).alloc _⟩
 ·go_enter Tryz.func141,Tryz.ntmps141
  go_wp2
  go_ret
  exact ⟨rfl,(Fr.refl w).alloc _⟩
theorem within_ (x m:Int) (w:World):Calls Tryz.prog 203 #[.int .i64 x,.int .i64 m] w fun e w'=>e=.returned (.bool (decide (0≤x)&&decide (x≤m)))∧w'=w:=by
 by_cases h1:0≤x
 ·by_cases h2:x≤m
  ·have e:(decide (0≤x)&&decide (x≤m))=true:=by simp [h1,h2]
   rw [e];clear e;go_enter Tryz.func203,Tryz.ntmps203
   go_wp2
   go_ret
   exact ⟨rfl,rfl⟩
  ·have e:(decide (0≤x)&&decide (x≤m))=false:=by simp only [h1,h2];rfl
   rw [e];clear e;go_enter Tryz.func203,Tryz.ntmps203
   go_wp2
   go_ret
   exact ⟨rfl,rfl⟩
 ·have e:(decide (0≤x)&&decide (x≤m))=false:=by simp only [h1];rfl
  rw [e];clear e;go_enter Tryz.func203,Tryz.ntmps203
  go_wp2
  go_ret
  exact ⟨rfl,rfl⟩
def mayPt (x:Pt):Prop:=x=noPt∨(0≤x.c∧x.c≤4∧0≤x.l∧x.l≤1048576∧0≤x.n∧x.n≤1073741824∧0≤x.a∧x.a≤5999∧1≤x.z∧x.z≤64∧x.a≤6000 - x.z)
instance (x:Pt):Decidable (mayPt x):=by unfold mayPt;infer_instance
def MayPost (w:World) (x:Pt) (e:Ending) (w':World):Prop:=e=.returned (.bool (decide (mayPt x)))∧Fr No w w'
theorem bmay_ (x:Pt) (w:World):Calls Tryz.prog 140 #[ptV x] w (MayPost w x):=by
 have f0:Fr No w (w.alloc (.cells #[.int .i64 x.c,.int .i64 x.l,.int .i64 x.n,.int .i64 x.a,.int .i64 x.z] 59)):=(Fr.refl w).alloc _;have k0:=new_at w (.cells #[.int .i64 x.c,.int .i64 x.l,.int .i64 x.n,.int .i64 x.a,.int .i64 x.z] 59);have HQ2:Hid (∀(r:Bool) e w',(r=true↔mayPt x)→e=.returned (.bool r)→Fr No w w'→MayPost w x e w'):=lH (fun r e w' h he f=>by
  have:decide (mayPt x)=r:=by
   cases r
   ·rw [decide_eq_false_iff_not];intro hx;cases h.2 hx
   ·rw [decide_eq_true_eq];exact h.1 rfl
  exact ⟨by rw [this];exact he,f⟩)
 generalize MayPost w x=Q at*;have HZ:=lH (zero_ 71 (.inl rfl) x (w.alloc (.cells #[.int .i64 x.c,.int .i64 x.l,.int .i64 x.n,.int .i64 x.a,.int .i64 x.z] 59)));have F0:=lH f0;have K0:=lH k0;clear f0 k0;unfold ptV at*;cases hz:decide (x=noPt) with
 | true=>
  have HV:Hid (mayPt x):=lH (.inl (by simpa using hz));rw [hz] at HZ;clear hz;go_enter Tryz.func140,Tryz.ntmps140;go_wp2_with fail;refine HZ.out.mono ?_;rintro e w1 ⟨rfl,f1⟩;go_wp2_with fail;exact HQ2.out true _ _ (by simp [HV.out]) rfl (F0.out.trans f1 (fun _ _ e=>e))
 | false=>
  rw [hz] at HZ;have HN:Hid (x≠noPt):=lH (by simpa using hz);clear hz;go_enter Tryz.func140,Tryz.ntmps140;go_wp2_with fail;refine HZ.out.mono ?_;rintro e w1 ⟨rfl,f1⟩;have k1:=f1.block_of K0.out id;have p0:w1.cell? ⟨w.heap.size,0,none⟩=some (.int .i64 x.c):=by rw [cell_at k1];rfl
  have p1:w1.cell? ⟨w.heap.size,1,none⟩=some (.int .i64 x.l):=by rw [cell_at k1];rfl
  have p2:w1.cell? ⟨w.heap.size,2,none⟩=some (.int .i64 x.n):=by rw [cell_at k1];rfl
  have p3:w1.cell? ⟨w.heap.size,3,none⟩=some (.int .i64 x.a):=by rw [cell_at k1];rfl
  have p4:w1.cell? ⟨w.heap.size,4,none⟩=some (.int .i64 x.z):=by rw [cell_at k1];rfl
  have F1:=lH (F0.out.trans f1 (fun _ _ e=>e));have hw1:=within_ x.c 4 w1;have hw2:=within_ x.l 1048576 w1;have hw3:=within_ x.n 1073741824 w1;have hw4:=within_ x.a 5999 w1;have HW1:=lH hw1;have HW2:=lH hw2;have HW3:=lH hw3;have HW4:=lH hw4;clear k1 f1 HZ hw1 hw2 hw3 hw4;generalize hb1:(decide (0≤x.c)&&decide (x.c≤4))=b1 at*;generalize hb2:(decide (0≤x.l)&&decide (x.l≤1048576))=b2 at*;generalize hb3:(decide (0≤x.n)&&decide (x.n≤1073741824))=b3 at*;generalize hb4:(decide (0≤x.a)&&decide (x.a≤5999))=b4 at*;have HB:Hid (mayPt x↔b1=true∧b2=true∧b3=true∧b4=true∧1≤x.z∧x.z≤64∧x.a≤6000 - x.z):=lH (by
   rw [← hb1,← hb2,← hb3,← hb4];simp only [mayPt,HN.out,false_or,Bool.and_eq_true,decide_eq_true_eq,and_assoc])
  clear hb1 hb2 hb3 hb4;cases b1 with
  | false=>
   go_wp2_with fail;refine HW1.out.mono ?_;rintro e w2 ⟨rfl,rfl⟩;go_wp2_with fail;exact HQ2.out false _ _ (by simp [HB.out]) rfl F1.out
  | true=>
   cases b2 with
   | false=>
    go_wp2_with fail;refine HW1.out.mono ?_;rintro e w2 ⟨rfl,rfl⟩;go_wp2_with fail;refine HW2.out.mono ?_;rintro e w2 ⟨rfl,rfl⟩;go_wp2_with fail;exact HQ2.out false _ _ (by simp [HB.out]) rfl F1.out
   | true=>
    cases b3 with
    | false=>
     go_wp2_with fail;refine HW1.out.mono ?_;rintro e w2 ⟨rfl,rfl⟩;go_wp2_with fail;refine HW2.out.mono ?_;rintro e w2 ⟨rfl,rfl⟩;go_wp2_with fail;refine HW3.out.mono ?_;rintro e w2 ⟨rfl,rfl⟩;go_wp2_with fail;exact HQ2.out false _ _ (by simp [HB.out]) rfl F1.out
    | true=>
     cases b4 with
     | false=>
      go_wp2_with fail;refine HW1.out.mono ?_;rintro e w2 ⟨rfl,rfl⟩;go_wp2_with fail;refine HW2.out.mono ?_;rintro e w2 ⟨rfl,rfl⟩;go_wp2_with fail;refine HW3.out.mono ?_;rintro e w2 ⟨rfl,rfl⟩;go_wp2_with fail;refine HW4.out.mono ?_;rintro e w2 ⟨rfl,rfl⟩;go_wp2_with fail;exact HQ2.out false _ _ (by simp [HB.out]) rfl F1.out
     | true=>
      by_cases g1:1≤x.z
      ·by_cases g2:x.z≤64
       ·by_cases g3:x.a≤6000 - x.z
        ·have HV:Hid (mayPt x):=lH (HB.out.2 ⟨rfl,rfl,rfl,rfl,g1,g2,g3⟩);go_wp2_with fail;refine HW1.out.mono ?_;rintro e w2 ⟨rfl,rfl⟩;go_wp2_with fail;refine HW2.out.mono ?_;rintro e w2 ⟨rfl,rfl⟩;go_wp2_with fail;refine HW3.out.mono ?_;rintro e w2 ⟨rfl,rfl⟩;go_wp2_with fail;refine HW4.out.mono ?_;rintro e w2 ⟨rfl,rfl⟩;go_wp2_with fail;exact HQ2.out true _ _ (by simp [HV.out]) rfl F1.out
        ·have HV:Hid (¬mayPt x):=lH (fun h=>g3 (HB.out.1 h).2.2.2.2.2.2);go_wp2_with fail;refine HW1.out.mono ?_;rintro e w2 ⟨rfl,rfl⟩;go_wp2_with fail;refine HW2.out.mono ?_;rintro e w2 ⟨rfl,rfl⟩;go_wp2_with fail;refine HW3.out.mono ?_;rintro e w2 ⟨rfl,rfl⟩;go_wp2_with fail;refine HW4.out.mono ?_;rintro e w2 ⟨rfl,rfl⟩;go_wp2_with fail;exact HQ2.out (decide (x.a≤6000 - x.z)) _ _ (by rw [decide_eq_true_eq];exact ⟨fun h=>by omega,fun h=>absurd h HV.out⟩) rfl F1.out
       ·have HV:Hid (¬mayPt x):=lH (fun h=>g2 (HB.out.1 h).2.2.2.2.2.1);go_wp2_with fail;refine HW1.out.mono ?_;rintro e w2 ⟨rfl,rfl⟩;go_wp2_with fail;refine HW2.out.mono ?_;rintro e w2 ⟨rfl,rfl⟩;go_wp2_with fail;refine HW3.out.mono ?_;rintro e w2 ⟨rfl,rfl⟩;go_wp2_with fail;refine HW4.out.mono ?_;rintro e w2 ⟨rfl,rfl⟩;go_wp2_with fail;exact HQ2.out false _ _ (by simp [HV.out]) rfl F1.out
      ·have HV:Hid (¬mayPt x):=lH (fun h=>g1 (HB.out.1 h).2.2.2.2.1);go_wp2_with fail;refine HW1.out.mono ?_;rintro e w2 ⟨rfl,rfl⟩;go_wp2_with fail;refine HW2.out.mono ?_;rintro e w2 ⟨rfl,rfl⟩;go_wp2_with fail;refine HW3.out.mono ?_;rintro e w2 ⟨rfl,rfl⟩;go_wp2_with fail;refine HW4.out.mono ?_;rintro e w2 ⟨rfl,rfl⟩;go_wp2_with fail;exact HQ2.out false _ _ (by simp [HV.out]) rfl F1.out
structure FMap where
 size:Nat
 l:List Pt
deriving DecidableEq,Inhabited
def PtVal (w:World) (v:Value) (L:List Pt):Prop:=(v=.slice none 0 0∧L= [])∨∃b cap,v=.slice (some ⟨b,0,none⟩) L.length cap∧cap≤maxLen∧RowB ptC 5 59 w b cap L
def FileR (w:World) (p:Nat) (m:FMap):Prop:=∃v,w.heap[p]? =some (.cells #[.bool true,.int .i64 m.size,v] 135 (0,0))∧PtVal w v m.l
def FileAt (w:World) (o:Nat→Nat) (K i p:Nat) (m:FMap):Prop:=
 o p=K+3000+i∧∃v,w.heap[p]? =some (.cells #[.bool true,.int .i64 m.size,v] 135 (0,0))∧((v=.slice none 0 0∧m.l= [])∨∃b cap,v=.slice (some ⟨b,0,none⟩) m.l.length cap∧cap≤maxLen∧o b=K+4000+i∧RowB ptC 5 59 w b cap m.l)
theorem FileAt.step {C:Nat→Prop} {w w':World} {o o':Nat→Nat} {K i p:Nat} {m:FMap} (h:FileAt w o K i p m) (s:Step C w o w' o') (h5:¬C (K+3000+i)) (h9:¬C (K+4000+i)):FileAt w' o' K i p m:=by
 obtain ⟨h1,v,h2,h3⟩:=h;refine ⟨(s.own h2).trans h1,v,s.block h2 (by rw [h1];exact h5),?_⟩;rcases h3 with h3|⟨b,cap,e,hm,hb,hr⟩
 ·exact .inl h3
 ·exact .inr ⟨b,cap,e,hm,(s.old b hr.lt).trans hb,hr.fr s.fr (by rw [hb];exact h9)⟩
theorem FileAt.no {w w':World} {o:Nat→Nat} {K i p:Nat} {m:FMap} (h:FileAt w o K i p m) (hf:Fresh w o) (f:Fr No w w'):FileAt w' o K i p m:=h.step (Step.no (C:=fun _=>False) hf f) id id
theorem FileAt.reads {w:World} {o:Nat→Nat} {K i p:Nat} {m:FMap} (h:FileAt w o K i p m):FileR w p m:=by
 obtain ⟨h1,v,h2,h3⟩:=h;refine ⟨v,h2,?_⟩;rcases h3 with h3|⟨b,cap,e,hm,hb,hr⟩
 ·exact .inl h3
 ·exact .inr ⟨b,cap,e,hm,hr⟩
theorem PtVal.fr {w w':World} {v:Value} {L:List Pt} (h:PtVal w v L) (f:Fr No w w'):PtVal w' v L:=by
 rcases h with h|⟨b,cap,e,hm,hr⟩
 ·exact .inl h
 ·exact .inr ⟨b,cap,e,hm,hr.fr f id⟩
theorem FileR.fr {w w':World} {p:Nat} {m:FMap} (h:FileR w p m) (f:Fr No w w'):FileR w' p m:=by
 obtain ⟨v,h1,h2⟩:=h;exact ⟨v,f.block_of h1 id,h2.fr f⟩
theorem PtVal.slice {w:World} {v:Value} {L:List Pt} (h:PtVal w v L):∃base cap,v=.slice base L.length cap:=by
 rcases h with ⟨e,hl⟩|⟨b,cap,e,_,_⟩
 ·exact ⟨none,0,by rw [e,hl];rfl⟩
 ·exact ⟨_,_,e⟩
theorem PtVal.row {w:World} {base:Option Addr} {cap:Nat} {L:List Pt} (h:PtVal w (.slice base L.length cap) L) (hl:0<L.length):∃b,base=some ⟨b,0,none⟩∧cap≤maxLen∧RowB ptC 5 59 w b cap L:=by
 rcases h with ⟨_,rfl⟩|⟨b,cap',e,hm,hb⟩
 ·simp at hl
 ·cases e;exact ⟨b,rfl,hm,hb⟩
theorem fnew_ (w:World):Calls Tryz.prog 132 #[] w fun e w'=>e=.returned (.pointer (some ⟨w.heap.size,0,none⟩))∧w'=w.alloc (.cells #[.bool true,.int .i64 0,.slice none 0 0] 135):=by
 have hb:(Instr.build 135 #[(0,.bool true)]).run Tryz.prog w=.ok (.agg #[.bool true,.int .i64 0,.slice none 0 0]) w:=by kernel_rfl
 go_enter Tryz.func132,Tryz.ntmps132
 go_wp2
 go_ret
 exact ⟨rfl,rfl⟩
theorem fsize_nil (w:World):Calls Tryz.prog 34 #[.pointer none] w fun e w'=>e=.returned (.int .i64 0)∧w'=w:=by
 go_enter Tryz.func34,Tryz.ntmps34
 go_wp2
 go_ret
 exact ⟨rfl,rfl⟩
theorem fsize_ (p:Nat) (m:FMap) (w:World) (h:FileR w p m):Calls Tryz.prog 34 #[.pointer (some ⟨p,0,none⟩)] w fun e w'=>e=.returned (.int .i64 m.size)∧w'=w:=by
 obtain ⟨v,hk,_⟩:=h;have c1:w.cell? ⟨p,1,none⟩=some (.int .i64 m.size):=by rw [cell_at hk];rfl
 clear hk;go_enter Tryz.func34,Tryz.ntmps34
 go_wp2
 go_ret
 exact ⟨rfl,rfl⟩
theorem fcount_ (p:Nat) (m:FMap) (w:World) (h:FileR w p m):Calls Tryz.prog 35 #[.pointer (some ⟨p,0,none⟩)] w fun e w'=>e=.returned (.int .i64 m.l.length)∧w'=w:=by
 obtain ⟨v,hk,hv⟩:=h;obtain ⟨base,cap,rfl⟩:=hv.slice;have c1:w.cell? ⟨p,2,none⟩=some (.slice base m.l.length cap):=by rw [cell_at hk];rfl
 clear hk hv;go_enter Tryz.func35,Tryz.ntmps35
 go_wp2
 go_ret
 exact ⟨rfl,rfl⟩
def atOf (m:FMap) (i:Int):Pt:=if 0≤i then (m.l[i.toNat]?).getD noPt else noPt
def AtPost (w:World) (x:Pt) (e:Ending) (w':World):Prop:=e=.returned (ptV x)∧Fr No w w'
theorem fat_ (p:Nat) (m:FMap) (i:Int) (w:World) (h:FileR w p m):Calls Tryz.prog 36 #[.pointer (some ⟨p,0,none⟩),.int .i64 i] w (AtPost w (atOf m i)):=by
 have f0:Fr No w (w.alloc (.cells #[.int .i64 0,.int .i64 0,.int .i64 0,.int .i64 0,.int .i64 0] 59)):=(Fr.refl w).alloc _;have K0:=lH (new_at w (.cells #[.int .i64 0,.int .i64 0,.int .i64 0,.int .i64 0,.int .i64 0] 59));have HC:=lH (fcount_ p m _ (h.fr f0));have HOC:∀x:Pt,Hid ((#[.int .i64 x.c,.int .i64 x.l,.int .i64 x.n,.int .i64 x.a,.int .i64 x.z]:Array Value).all (·.oneCell')=true):=fun x=>lH (by simp [Value.oneCell']);have HO:=lH HOC;have HR:Hid (∀x e w',atOf m i=x→e=.returned (ptV x)→Fr No w w'→AtPost w (atOf m i) e w'):=lH (fun x e w' hx he f=>by subst hx;exact ⟨he,f⟩);generalize hQ:AtPost w (atOf m i)=Q at*;clear hQ HOC;have F0:=lH f0;by_cases hi:0≤i
 ·obtain ⟨j,rfl⟩:∃j:Nat,i=j:=⟨i.toNat,by omega⟩
  have hat:atOf m j=(m.l[j]?).getD noPt:=by unfold atOf;rw [if_pos hi];rfl
  by_cases hj:j<m.l.length
  ·obtain ⟨v,hk,hv⟩:=h.fr f0;obtain ⟨base,cap,rfl⟩:=hv.slice;obtain ⟨b,rfl,hm,hr⟩:=hv.row (by omega);have HRR:=lH (hr.row j m.l[j] (List.getElem?_eq_getElem hj));have HX:Hid (atOf m j=m.l[j]):=lH (by rw [hat,List.getElem?_eq_getElem hj];rfl);have hlen:=hr.len;have hml:cap≤9223372036854775807:=hm;have q1:¬(m.l.length:Int)≤(j:Int):=(by omega)
   have q2:(j:Int)<(m.l.length:Int):=(by omega)
   have q3:(j:Int)<(cap:Int):=(by omega)
   have c2:(w.alloc (.cells #[.int .i64 0,.int .i64 0,.int .i64 0,.int .i64 0,.int .i64 0] 59)).cell? ⟨p,2,none⟩=some (.slice (some ⟨b,0,none⟩) m.l.length cap):=(by rw [cell_at hk];rfl)
   generalize m.l[j]=x at*;unfold ptC at HRR;clear hk hv hr h hat f0 hlen hm;go_enter Tryz.func36,Tryz.ntmps36;go_wp2_with fail;refine HC.out.mono ?_;rintro e w1 ⟨rfl,rfl⟩;go_wp2_with (first|(refine wpList_load_mid (by rfl) 59 _ (by rfl) b (j*5) (by rfl) [.int .i64 x.c,.int .i64 x.l,.int .i64 x.n,.int .i64 x.a,.int .i64 x.z] _ HRR.out Tryz.underlying59 rfl Tryz.size59 ?_)|(refine wpList_store_row rfl 59 (.tmp 4) _ rfl w.heap.size #[.int .i64 x.c,.int .i64 x.l,.int .i64 x.n,.int .i64 x.a,.int .i64 x.z] rfl rfl 59 _ K0.out Tryz.size59 rfl (HO.out x).out ?_));have hk3:=setRow_at (cs':= #[.int .i64 x.c,.int .i64 x.l,.int .i64 x.n,.int .i64 x.a,.int .i64 x.z]) K0.out;have fs:Fr No w ((w.alloc (.cells #[.int .i64 0,.int .i64 0,.int .i64 0,.int .i64 0,.int .i64 0] 59)).setRow w.heap.size #[.int .i64 x.c,.int .i64 x.l,.int .i64 x.n,.int .i64 x.a,.int .i64 x.z]):=Fr.setRow F0.out (.inr (Nat.le_refl _)) _;exact bodyPost_ret (v:=ptV x) (results_cell_row rfl _ _ w.heap.size 59 _ (0,0) _ rfl hk3 Tryz.underlying59 rfl Tryz.size59) rfl (HR.out x _ _ HX.out rfl fs)
  ·have HX:Hid (atOf m j=noPt):=lH (by rw [hat,List.getElem?_eq_none (by omega)];rfl);have q1:(m.l.length:Int)≤(j:Int):=(by omega)
   clear h hat f0;go_enter Tryz.func36,Tryz.ntmps36;go_wp2_with fail;refine HC.out.mono ?_;rintro e w1 ⟨rfl,rfl⟩;go_wp2_with fail;exact bodyPost_ret (v:=ptV noPt) (results_cell_row rfl _ _ w.heap.size 59 _ (0,0) _ rfl K0.out Tryz.underlying59 rfl Tryz.size59) rfl (HR.out noPt _ _ HX.out rfl F0.out)
 ·have HX:Hid (atOf m i=noPt):=lH (by unfold atOf;rw [if_neg hi]);clear h f0;go_enter Tryz.func36,Tryz.ntmps36;go_wp2_with fail;exact bodyPost_ret (v:=ptV noPt) (results_cell_row rfl _ _ w.heap.size 59 _ (0,0) _ rfl K0.out Tryz.underlying59 rfl Tryz.size59) rfl (HR.out noPt _ _ HX.out rfl F0.out)
def blocksN (n:Nat):Nat:=(n+63) / 64
theorem fcount204_ (n:Nat) (hn:n≤4096) (w:World):Calls Tryz.prog 204 #[.int .i64 n] w fun e w'=>e=.returned (.int .i64 (blocksN n))∧w'=w:=by
 have h1:Int.tdiv ((n:Int)+64 - 1) 64=((blocksN n:Nat):Int):=by rw [Int.tdiv_eq_ediv_of_nonneg (by omega)];unfold blocksN;omega
 have h2:wrap64 ((blocksN n:Nat):Int)=(blocksN n:Nat):=by unfold wrap64 blocksN;omega
 go_enter Tryz.func204,Tryz.ntmps204
 go_wp2
 go_ret
 exact ⟨congrArg (fun x=>Ending.returned (.int .i64 x)) h2,rfl⟩
def PtNew (w:World) (base:Nat) (v:Value) (L:List Pt):Prop:=(v=.slice none 0 0∧L= [])∨∃b cap,v=.slice (some ⟨b,0,none⟩) L.length cap∧cap≤maxLen∧base≤b∧RowB ptC 5 59 w b cap L
theorem PtNew.val {w:World} {base:Nat} {v:Value} {L:List Pt} (h:PtNew w base v L):PtVal w v L:=by
 rcases h with h|⟨b,cap,e,hm,_,hr⟩
 ·exact .inl h
 ·exact .inr ⟨b,cap,e,hm,hr⟩
theorem own_pt {w:World} {base:Nat} {v:Value} {L:List Pt} (h:w.ownsRow base 59 5 v L.length (L.flatMap ptC)):PtNew w base v L:=by
 obtain ⟨_,⟨rfl,h0⟩|⟨g,cap,cur,rfl,hg,hb,hn,hc,hs,ht⟩⟩:=h
 ·exact .inl ⟨rfl,List.length_eq_zero_iff.1 h0⟩
 ·refine .inr ⟨g,cap,rfl,hc,hg,RowB.of_block ptC_len hb (Nat.le_of_eq hs.symm) hn (fun k u hk=> ?_)⟩;rw [← ht,List.getElem?_take] at hk;split at hk
  ·simpa using hk
  ·cases hk
def ClonePt (w:World) (L:List Pt) (e:Ending) (w':World):Prop:=∃v,e=.returned v∧w'.ownsRow w.heap.size 59 5 v L.length (L.flatMap ptC)∧Fr No w w'
theorem fr_of_below {w w':World} (h:Below w.heap.size w w'):Fr No w w':=⟨h.os,h.tape,h.output,h.size,fun k hk _=>h.block k hk⟩
theorem clonePt_ (v:Value) (L:List Pt) (w:World) (h:PtVal w v L) (hl:L.length≤1000000):Calls Tryz.prog 117 #[v] w (ClonePt w L):=by
 rcases h with ⟨rfl,rfl⟩|⟨b,cap,rfl,hm,hr⟩
 ·refine (AnyE.slices_Clone_nil Tryz.cloneP 0 0 w).mono ?_;rintro e w' ⟨rfl,rfl⟩;exact ⟨_,rfl,⟨rfl,.inl ⟨rfl,rfl⟩⟩,Fr.refl _⟩
 ·obtain ⟨i0,hi,hz0,hz1,hz2⟩:=info_parts Tryz.info59;refine (AnyE.slices_Clone Tryz.cloneP i0 _ 5 40 hi hz0 hz1 hz2 rfl (by decide) Tryz.sizeOf59 b 0 L.length cap (L.flatMap ptC) w (flat_len ptC_len L) (by unfold maxLen;omega) (by omega) (fun j u hj=> ?_) (ptC_one L)).mono ?_
  ·rw [Nat.zero_add];exact hr.cells ptC_len j u hj
  ·rintro e w' ⟨v',rfl,ho,_,hb⟩;exact ⟨v',rfl,ho,fr_of_below hb⟩
theorem eqlAt59:EqlAt Tryz.prog 59 (fun x=> .agg (ptC x).toArray) (fun x y=>decide (x=y)):=
 ⟨fun x y w=>eql59 x.c x.l x.n x.a x.z y.c y.l y.n y.a y.z w,GuardAt.agg _ (by kernel_rfl)⟩
theorem idxp_nil (x:Pt) (w:World):Calls Tryz.prog 205 #[.slice none 0 0,.agg #[.int .i64 x.c,.int .i64 x.l,.int .i64 x.n,.int .i64 x.a,.int .i64 x.z]] w fun e w'=>e=.returned (.int .i64 (-1))∧Fr No w w':=by
 go_enter Tryz.func205,Tryz.ntmps205;go_wp2_with fail;refine wp_loop_rounds 1 ?_;rw [rounds_succ];go_wp2_with fail
 go_ret
 exact ⟨rfl,(Fr.refl w).alloc _⟩
theorem contp_nil (x:Pt) (w:World):Calls Tryz.prog 144 #[.slice none 0 0,.agg #[.int .i64 x.c,.int .i64 x.l,.int .i64 x.n,.int .i64 x.a,.int .i64 x.z]] w fun e w'=>e=.returned (.bool false)∧Fr No w w':=by
 go_enter Tryz.func144,Tryz.ntmps144;go_wp2_with fail;refine (idxp_nil x _).mono ?_;rintro e w1 ⟨rfl,f1⟩;go_wp2_with fail
 go_ret
 exact ⟨rfl,((Fr.refl w).alloc _).trans f1 (fun _ _ e=>e)⟩
def ContPt (w:World) (b:Bool) (e:Ending) (w':World):Prop:=e=.returned (.bool b)∧Fr No w w'
theorem containsPt_ (v:Value) (L:List Pt) (x:Pt) (w:World) (h:PtVal w v L):Calls Tryz.prog 144 #[v,ptV x] w (ContPt w (L.any fun y=>decide (x=y))):=by
 rcases h with ⟨rfl,rfl⟩|⟨b,cap,rfl,hm,hr⟩
 ·refine (contp_nil x w).mono ?_;rintro e w' ⟨rfl,f⟩;exact ⟨rfl,f⟩
 ·have hml:L.length≤9223372036854775807:=Nat.le_trans hr.len hm;refine (AnyQ.slices_Contains Tryz.containsP 5 Tryz.isAgg59 Tryz.sizeOf59 ptC ptC_len _ eqlAt59 b 0 L.length cap L x w (Nat.le_refl _) hml (fun j hj i u hu=> ?_)).mono ?_
  ·have:=hr.row j L[j] (List.getElem?_eq_getElem hj) i u (by rwa [getElem!_pos L j hj] at hu);rwa [Nat.zero_add]
  ·rintro e w' ⟨rfl,hb⟩;rw [List.take_length];exact ⟨rfl,fr_of_below hb⟩
theorem Tryz.info9:(Tryz.prog.info? 9).map (fun i=>(i.zero,i.size,i.bytes))=some (some (.string ⟨#[]⟩),1,16):=by kernel_rfl
def ba (l:List UInt8):ByteArray:=⟨l.toArray⟩
theorem ba_list (l:List UInt8):(ba l).data.toList=l:=by simp [ba]
theorem ba_size (l:List UInt8):(ba l).size=l.length:=by simp [ba,ByteArray.size]
theorem ba_of (s:ByteArray):ba s.data.toList=s:=by
 obtain ⟨⟨l⟩⟩:=s;rfl
theorem ba_inj {l k:List UInt8} (h:ba l=ba k):l=k:=by
 have:=congrArg (fun s:ByteArray=>s.data.toList) h;simpa [ba_list] using this
theorem ba_toList (l:List UInt8):(ba l).toList=l:=by rw [ByteArray.toList_eq,ba_list]
def okName (l:List UInt8):Bool:=decide (1≤l.length)&&decide (l.length≤12)&&decide (l≠ [46])&&decide (l≠ [46,46])&&decide (Lib.indexByte l 0<0)&&decide (Lib.indexByte l 47<0)
theorem gmayn_ (l:List UInt8) (w:World):Calls Tryz.prog 184 #[.string (ba l)] w fun e w'=>e=.returned (.bool (okName l))∧w'=w:=by
 have hsz:=ba_size l;have hl:=ba_list l;by_cases h1:l.length<1
 ·have q:((ba l).size:Int)<1:=by omega
  have ho:okName l=false:=by simp [okName];omega
  have HO:=lH ho;clear hsz hl h1 ho;go_enter Tryz.func184,Tryz.ntmps184;go_wp2_with fail
  go_ret
  exact ⟨by rw [HO.out];rfl,rfl⟩
 ·by_cases h2:12<l.length
  ·have q:¬((ba l).size:Int)<1:=by omega
   have q2:(12:Int)<((ba l).size:Int):=(by omega)
   have ho:okName l=false:=(by simp [okName];intros;omega)
   have HO:=lH ho;clear hsz hl h1 ho;go_enter Tryz.func184,Tryz.ntmps184;go_wp2_with fail
   go_ret
   exact ⟨by rw [HO.out];rfl,rfl⟩
  ·have q:¬((ba l).size:Int)<1:=by omega
   have q2:¬(12:Int)<((ba l).size:Int):=(by omega)
   by_cases h3:l= [46]
   ·have q3:ba l=⟨#[46]⟩:=by rw [h3];rfl
    have ho:okName l=false:=(by simp [okName,h3])
    have HO:=lH ho;clear hsz hl h1 h2 ho h3;go_enter Tryz.func184,Tryz.ntmps184;go_wp2_with fail
    go_ret
    exact ⟨by rw [HO.out];rfl,rfl⟩
   ·by_cases h4:l= [46,46]
    ·have q3:ba l=⟨#[46,46]⟩:=by rw [h4];rfl
     have ho:okName l=false:=(by simp [okName,h4])
     have HO:=lH ho;clear hsz hl h1 h2 ho h3 h4;go_enter Tryz.func184,Tryz.ntmps184;go_wp2_with fail
     go_ret
     exact ⟨by rw [HO.out];rfl,rfl⟩
    ·have q3:((ba l).toList== [46])=false:=by rw [ba_toList];simpa using h3
     have q4:((ba l).toList== [46,46])=false:=(by rw [ba_toList];simpa using h4)
     have ho:okName l=(decide (Lib.indexByte l 0<0)&&decide (Lib.indexByte l 47<0)):=by
      have a1:1≤l.length:=(by omega)
      have a2:l.length≤12:=(by omega)
      simp [okName,h3,h4,a1,a2]
     have e0:(Int.toNat 0).toUInt8=0:=rfl;have e47:(Int.toNat 47).toUInt8=47:=rfl;by_cases h5:Lib.indexByte l 0<0
     ·have HO:Hid (okName l=decide (Lib.indexByte l 47<0)):=lH (by rw [ho];simp [h5]);clear hsz h1 h2 ho h3 h4;go_enter Tryz.func184,Tryz.ntmps184;go_wp2_with (go_at_call 218;refine (Tryz.strings_IndexByte _ _ _).mono ?_;rintro e w' ⟨rfl,rfl⟩)
      go_ret
      exact ⟨by rw [HO.out];rfl,rfl⟩
     ·have HO:Hid (okName l=false):=lH (by rw [ho];simp [h5]);clear hsz h1 h2 ho h3 h4;go_enter Tryz.func184,Tryz.ntmps184;go_wp2_with (go_at_call 218;refine (Tryz.strings_IndexByte _ _ _).mono ?_;rintro e w' ⟨rfl,rfl⟩)
      go_ret
      exact ⟨by rw [HO.out];rfl,rfl⟩
def splitR:Nat→List UInt8→Option (List (List UInt8))
 | _, []=>some []
 | 0,_::_=>none
 | n+1,c::t=>if c=47∧okName (t.takeWhile (· ≠47))=true then (splitR n (t.dropWhile (· ≠47))).map (t.takeWhile (· ≠47):: ·) else none
def pathOf (l:List UInt8):Option (List (List UInt8)):=if l= [47] then some [] else if l= [] then none else splitR 8 l
def strs (ps:List (List UInt8)):List Value:=ps.map fun p=> .string (ba p)
theorem ba_extract (l:List UInt8) (a b:Nat):(ba l).extract a b=ba ((l.drop a).take (b - a)):=by
 rw [← ba_of ((ba l).extract a b),Lib.extract_data,ba_list]
theorem ba_tail (c:UInt8) (t:List UInt8):(ba (c::t)).extract 1 (ba (c::t)).size=ba t:=by
 rw [ba_extract,ba_size];simp
theorem while_at (t:List UInt8) (j:Nat) (h:∀k,k<j→t[k]? ≠some 47) (hj:t[j]? =some 47∨j=t.length):t.takeWhile (· ≠47)=t.take j∧t.dropWhile (· ≠47)=t.drop j:=by
 induction t generalizing j with
 | nil=>rcases hj with h|rfl<;>simp_all
 | cons x t ih=>
  rcases j with _|j
  ·rcases hj with h|h
   ·simp at h;simp [h]
   ·simp at h
  ·have hx:x≠47:=by have:=h 0 (by omega);simpa using this
   have:=ih j (fun k hk=>by have:=h (k+1) (by omega);simpa using this) (by simpa using hj);simp only [ne_eq,decide_not] at this ⊢;simp [hx,this]
theorem split_step (n:Nat) (t:List UInt8) (j:Nat) (h:∀k,k<j→t[k]? ≠some 47) (hj:t[j]? =some 47∨j=t.length) (hok:okName (t.take j)=true):splitR (n+1) (47::t)=(splitR n (t.drop j)).map (t.take j:: ·):=by
 obtain ⟨h1,h2⟩:=while_at t j h hj;rw [splitR,h1,h2,if_pos ⟨rfl,hok⟩]
theorem split_stop (n:Nat) (t:List UInt8) (j:Nat) (h:∀k,k<j→t[k]? ≠some 47) (hj:t[j]? =some 47∨j=t.length) (hok:okName (t.take j)=false):splitR (n+1) (47::t)=none:=by
 obtain ⟨h1,h2⟩:=while_at t j h hj;rw [splitR,h1,if_neg (by simp [hok])]
def SplitPost (w:World) (l:List UInt8) (e:Ending) (w':World):Prop:=
 Fr No w w'∧match pathOf l with
  | none=>e=.returned (.tuple #[.slice none 0 0,.int .i64 12])
  | some ps=>∃v,e=.returned (.tuple #[v,.int .i64 0])∧w'.ownsRow w.heap.size 9 1 v ps.length (strs ps)
theorem _root_.Go.World.ownsRow.shape {w:World} {b t k n:Nat} {v:Value} {xs:List Value} (h:w.ownsRow b t k v n xs):∃a cap,v=.slice a n cap:=by
 rcases h.2 with ⟨rfl,rfl⟩|⟨g,cap,cur,rfl,_⟩
 ·exact ⟨none,0,rfl⟩
 ·exact ⟨_,_,rfl⟩
theorem gsplit_ (l:List UInt8) (w:World) (hl:l.length≤1000000):Calls Tryz.prog 125 #[.string (ba l)] w (SplitPost w l):=by
 obtain ⟨i0,hi0,hz0,hz1,hz2⟩:=info_parts Tryz.info9;have HI:=lH hi0;have HZ0:=lH hz0;have HZ1:=lH hz1;have HZ2:=lH hz2;clear hi0 hz0 hz1 hz2;by_cases h1:l= [47]
 ·subst h1;have HP:Hid (pathOf [47]=some []):=lH rfl;have q:((ba [47]).toList== [47])=true:=by rw [ba_toList];rfl
  go_enter Tryz.func125,Tryz.ntmps125;go_wp2_with fail
  go_step3
  go_wp2
  rw [Exit.noGoto_ret]
  go_ret2
  unfold SplitPost;rw [HP.out];exact ⟨Fr.refl _,_,rfl,⟨rfl,.inl ⟨rfl,rfl⟩⟩⟩
 ·have q1:((ba l).toList== [47])=false:=by rw [ba_toList];simpa using h1
  by_cases h2:l= []
  ·subst h2;have HP:Hid (pathOf []=none):=lH rfl;have q2:¬(0:Int)<((ba []).size:Int):=(by decide)
   go_enter Tryz.func125,Tryz.ntmps125;go_wp2_with fail
   go_step3
   go_wp2_with fail
   go_step3
   go_wp2_with fail;refine wp_loop_rounds 1 ?_;rw [rounds_succ];go_wp2_with fail;rw [Exit.noGoto_ret]
   go_ret2
   unfold SplitPost;rw [HP.out];exact ⟨Fr.refl _,rfl⟩
  ·have HL1:=lH h1;have HL2:=lH h2;clear h1 h2;go_enter Tryz.func125,Tryz.ntmps125;go_wp2_with fail
   go_step3
   go_wp2_with fail
   go_step3
   go_wp2_with fail;go_loopw [4,5] (fun v r wr=>∃(ps:List (List UInt8)) (L:List UInt8),r=.string (ba L)∧ps.length≤8∧Hid (pathOf l=(splitR (8 - ps.length) L).map (ps++ ·))∧Hid (L= []→ps≠ [])∧L.length≤1000000∧wr.ownsRow w.heap.size 9 1 v ps.length (strs ps)∧Fr No w wr)
    (fun _ r _=>(match r with| .string s=>s.size|_=>0))
   case atStart=>exact ⟨[],l,rfl,by simp,lH (by unfold pathOf;rw [if_neg HL1.out,if_neg HL2.out];simp),lH (fun e=>absurd e HL2.out),hl,⟨rfl,.inl ⟨rfl,rfl⟩⟩,Fr.refl _⟩
   case round=>
    obtain ⟨ps,L,rfl,hps,HP,HN,hL,hown,fr⟩:=hrel;obtain ⟨a,cap,rfl⟩:=hown.shape;rcases L with _|⟨c,t⟩
    ·have q2:¬(0:Int)<((ba []).size:Int):=by decide
     have hne:=HN.out rfl;have q3:((ps.length:Int)==0)=false:=by
      rcases ps with _|⟨p,ps⟩
      ·exact absurd rfl hne
      ·simp;omega
     have HP2:Hid (pathOf l=some ps):=lH (by rw [HP.out];simp [splitR]);clear hne;go_wp2_with fail
     go_ret2
     unfold SplitPost;rw [HP2.out];exact ⟨fr,_,rfl,hown⟩
    ·have q2:(0:Int)<((ba (c::t)).size:Int):=by rw [ba_size,List.length_cons];omega
     have q0:(0:Int)≤((ba (c::t)).size:Int):=(by omega)
     have qs:(1:Int)≤((ba (c::t)).size:Int):=(by omega)
     have h0:0<(ba (c::t)).size:=(by omega)
     by_cases hc:c=47∧ps.length<8
     ·obtain ⟨rfl,hc8⟩:=hc;have q3:(((ba (47::t))[0].toNat:Int) !=47)=false:=rfl;have q4:((ps.length:Int)==8)=false:=(by simp;omega)
      have hx:(ba (47::t)).extract 1 (ba (47::t)).size=ba t:=ba_tail _ _;obtain ⟨wo,rfl⟩:∃wo:World,wo=wr:=⟨wr,rfl⟩
      have HT:=lH (ba_size t);go_wp2_with fail;go_loopw [4,5,25] (fun v r i wr=>v=.slice a ps.length cap∧r=.string (ba t)∧∃j:Nat,i=.int .i64 j∧j≤t.length∧Hid (∀k,k<j→t[k]? ≠some 47)∧wr=wo) (fun _ _ i _=>t.length - (intOf i).toNat)
      case atStart=>exact ⟨rfl,rfl,0,rfl,Nat.zero_le _,lH (fun k hk=>by omega),rfl⟩
      case round=>
       obtain ⟨rfl,rfl,j,rfl,hj,HK,rfl⟩:=hrel;have htl:t.length≤1000000:=(by simp only [List.length_cons] at hL;omega)
       by_cases hlt:j<t.length
       ·have HR:=HT.out;have q5:(0:Int)≤(j:Int):=(by omega)
        have q6:(j:Int)<((ba t).size:Int):=(by omega)
        have q7:(j:Int)≤((ba t).size:Int):=(by omega)
        have q8:j<(ba t).size:=(by omega)
        by_cases hx2:t[j]=47
        ·have q9:(((ba t)[j].toNat:Int) !=47)=false:=by
          have:(ba t)[j]=t[j]:=rfl;rw [this,hx2];rfl
         have hy:(ba t).extract 0 j=ba (t.take j):=(by rw [ba_extract];simp)
         have hz:(ba t).extract j (ba t).size=ba (t.drop j):=(by rw [ba_extract,ba_size,List.take_of_length_le (by simp)])
         have HJ:=lH hx2;clear HR hx hx2;go_wp2_with fail;refine (gmayn_ _ _).mono ?_;rintro e w1 ⟨rfl,rfl⟩;have HX:Hid (t[j]? =some 47∨j=t.length):=lH (.inl (by rw [List.getElem?_eq_getElem hlt];exact congrArg some HJ.out));have hpl:8 - ps.length=7 - ps.length+1:=(by omega)
         rcases hok:okName (t.take j) with _|_
         ·have HP2:Hid (pathOf l=none):=lH (by rw [HP.out,hpl,split_stop _ t j HK.out HX.out hok];rfl);clear hok hpl;go_wp2_with fail;rw [Exit.noGoto_ret]
          go_ret2
          unfold SplitPost;rw [HP2.out];exact ⟨fr,rfl⟩
         ·have HP2:Hid (pathOf l=(splitR (8 - (ps++ [t.take j]).length) (t.drop j)).map ((ps++ [t.take j])++ ·)):=lH (by
           rw [HP.out,hpl,split_step _ t j HK.out HX.out hok,Option.map_map,show 8 - (ps++ [t.take j]).length=7 - ps.length by rw [List.length_append,List.length_singleton];omega];congr 1;funext x;simp)
          clear hok hpl;go_wp2_with (at_builtin;(refine wpList_append_own _ rfl _ _ 82 rfl w.heap.size 9 i0 (.string ⟨#[]⟩) 1 16 Tryz.underlying82 HI.out HZ0.out HZ1.out HZ2.out rfl (by decide) _ _ _ rfl (hown.alloc _) ⟨w1.heap.size,0,none⟩ 1 1 [.string (ba (t.take j))] rfl rfl ?c1 ?c2 ?c3 ?c4 ?c5 ?_))
          case c1=>
           intro k u hk;cases k with
           | zero=>simp at hk;subst hk;exact World.cell?_alloc_at _ _ _ _ rfl
           | succ k=>simp at hk
          case c2=>first|rfl|(intro u hu;simp at hu;subst hu;rfl)
          case c3=>unfold maxLen;omega
          case c4=>omega
          case c5=>simp;have:=fr.size;omega
          intro v' w3 hown' hgrow _;have f3:Fr No w w3:=by
           refine (fr.alloc _).grown hgrow ?_;intro k hk;exact .inr (hown.lt _ hk).1
          clear hgrow;go_wp2_with fail;refine ⟨⟨ps++ [t.take j],t.drop j,rfl,by simp;omega,HP2,lH (fun _=>by simp),by simp only [List.length_drop];simp only [List.length_cons] at hL;omega,?_,f3⟩,?_⟩
          ·rw [List.length_append,strs,List.map_append];exact hown'
          ·simp only [ba_size,List.length_drop,List.length_cons];omega
        ·have q9:(((ba t)[j].toNat:Int) !=47)=true:=by
          have:(ba t)[j]=t[j]:=rfl;rw [this,bne_iff_ne];intro e;exact hx2 (UInt8.toNat_inj.1 (by have h:(47:UInt8).toNat=47:=rfl;omega))
         have HK2:Hid (∀k,k<j+1→t[k]? ≠some 47):=lH (fun k hk=>by
          by_cases e:k=j
          ·subst e;rw [List.getElem?_eq_getElem hlt];exact fun e=>hx2 (Option.some.inj e)
          ·exact HK.out k (by omega))
         clear HR hx hx2;go_wp2_with fail;go_roundw
         case rel=>exact ⟨rfl,rfl,j+1,by go_num,hlt,HK2,trivial⟩
         case measure=>simp [intOf];omega
       ·obtain rfl:j=t.length:=by omega
        have HR:=HT.out;have q6:¬(t.length:Int)<((ba t).size:Int):=(by omega)
        have hpl:8 - ps.length=7 - ps.length+1:=(by omega)
        have hta:t.take t.length=t:=List.take_of_length_le (Nat.le_refl _);clear hx HR;go_wp2_with fail;refine (gmayn_ _ _).mono ?_;rintro e w1 ⟨rfl,rfl⟩;rcases hok:okName t with _|_
        ·have HP2:Hid (pathOf l=none):=lH (by rw [HP.out,hpl,split_stop _ t t.length HK.out (.inr rfl) (by rw [hta];exact hok)];rfl);clear hok hpl hta;go_wp2_with fail;rw [Exit.noGoto_ret]
         go_ret2
         unfold SplitPost;rw [HP2.out];exact ⟨fr,rfl⟩
        ·have HP2:Hid (pathOf l=(splitR (8 - (ps++ [t]).length) []).map ((ps++ [t])++ ·)):=lH (by
          rw [HP.out,hpl,split_step _ t t.length HK.out (.inr rfl) (by rw [hta];exact hok),Option.map_map,show 8 - (ps++ [t]).length=7 - ps.length by rw [List.length_append,List.length_singleton];omega,hta,List.drop_length];congr 1;funext x;simp)
         clear hok hpl hta;go_wp2_with (at_builtin;refine wpList_append_own _ rfl _ _ 82 rfl w.heap.size 9 i0 (.string ⟨#[]⟩) 1 16 Tryz.underlying82 HI.out HZ0.out HZ1.out HZ2.out rfl (by decide) _ _ _ rfl (hown.alloc _) ⟨w1.heap.size,0,none⟩ 1 1 [.string (ba t)] rfl rfl ?c1 ?c2 ?c3 ?c4 ?c5 ?_)
         case c1=>
          intro k u hk;cases k with
          | zero=>simp at hk;subst hk;exact World.cell?_alloc_at _ _ _ _ rfl
          | succ k=>simp at hk
         case c2=>first|rfl|(intro u hu;simp at hu;subst hu;rfl)
         case c3=>unfold maxLen;omega
         case c4=>omega
         case c5=>simp;have:=fr.size;omega
         intro v' w3 hown' hgrow _;have f3:Fr No w w3:=by
          refine (fr.alloc _).grown hgrow ?_;intro k hk;exact .inr (hown.lt _ hk).1
         clear hgrow;go_wp2_with fail;refine ⟨⟨ps++ [t], [],rfl,by simp;omega,HP2,lH (fun _=>by simp),by simp,?_,f3⟩,?_⟩
         ·rw [List.length_append,strs,List.map_append];exact hown'
         ·have:(⟨#[]⟩:ByteArray).size=0:=rfl;simp only [ba_size,List.length_cons,this];omega
     ·have HP2:Hid (pathOf l=none):=lH (by
       rw [HP.out];rcases hn:8 - ps.length with _|n
       ·simp [splitR]
       ·rw [splitR,if_neg (by rintro ⟨h,_⟩;exact hc ⟨h,by omega⟩)];rfl)
      by_cases hc2:c=47
      ·subst hc2;have q3:(((ba (47::t))[0].toNat:Int) !=47)=false:=rfl;have q4:((ps.length:Int)==8)=true:=by
        have:¬ps.length<8:=fun h=>hc ⟨rfl,h⟩;rw [beq_iff_eq];omega
       clear hc;go_wp2_with fail;rw [Exit.noGoto_ret]
       go_ret2
       unfold SplitPost;rw [HP2.out];exact ⟨fr,rfl⟩
      ·have q3:(((ba (c::t))[0].toNat:Int) !=47)=true:=by
        have:(ba (c::t))[0]=c:=rfl;rw [this,bne_iff_ne];intro e;exact hc2 (UInt8.toNat_inj.1 (by have h:(47:UInt8).toNat=47:=rfl;omega))
       clear hc hc2;go_wp2_with fail;rw [Exit.noGoto_ret]
       go_ret2
       unfold SplitPost;rw [HP2.out];exact ⟨fr,rfl⟩
theorem own59_base {w:World} {base:Nat} {v:Value} {n:Nat} {xs:List Value} (h:w.ownsRow base 59 5 v n xs) (j:Nat) (hj:v.ownBlock=some j):base≤j:=by
 obtain ⟨_,⟨rfl,_⟩|⟨g,cap,cur,rfl,hg,_⟩⟩:=h
 ·cases hj
 ·cases hj;exact hg
theorem own59_fr {S:Nat→Prop} {w w':World} {base:Nat} {v:Value} {n:Nat} {xs:List Value} (h:w.ownsRow base 59 5 v n xs) (f:Fr S w w') (hS:∀j,v.ownBlock=some j→¬S j):w'.ownsRow base 59 5 v n xs:=by
 obtain ⟨h1,h2|⟨g,cap,cur,rfl,hg,hb,h3⟩⟩:=h
 ·exact ⟨h1,.inl h2⟩
 ·exact ⟨h1,.inr ⟨g,cap,cur,rfl,hg,f.block_of hb (hS g rfl),h3⟩⟩
def ptrs (m:FMap):List Pt:=m.l.filter fun x=> !decide (x=noPt)
def PtrsPost (w:World) (L:List Pt) (e:Ending) (w':World):Prop:=∃v,e=.returned v∧PtNew w' w.heap.size v L∧Fr No w w'
theorem ptrs_ (p:Nat) (m:FMap) (w:World) (h:FileR w p m) (hl:m.l.length≤1000):Calls Tryz.prog 37 #[.pointer (some ⟨p,0,none⟩)] w (PtrsPost w (ptrs m)):=by
 have HC:=lH (fcount_ p m w h);have HH:=lH h;have HR:Hid (∀v w' L,L=ptrs m→w'.ownsRow w.heap.size 59 5 v L.length (L.flatMap ptC)→Fr No w w'→PtrsPost w (ptrs m) (.returned v) w'):=lH (fun v w' L hL ho f=>by
  subst hL;exact ⟨v,rfl,own_pt ho,f⟩)
 generalize PtrsPost w (ptrs m)=Q at*;obtain ⟨i0,hi,hz0,hz1,hz2⟩:=info_parts Tryz.info59;have HI:=lH hi;have HZ0:=lH hz0;have HZ1:=lH hz1;have HZ2:=lH hz2;clear hi hz0 hz1 hz2 h;go_enter Tryz.func37,Tryz.ntmps37;go_wp2_with fail;refine HC.out.mono ?_;rintro e w1 ⟨rfl,hw⟩;subst hw;go_wp2_with fail;go_loopw [3,7] (fun s a wr=>∃(j:Nat) (L:List Pt),a=.int .i64 j∧j≤m.l.length∧Hid (L=(m.l.take j).filter fun x=> !decide (x=noPt))∧L.length≤j∧Hid (wr.ownsRow w1.heap.size 59 5 s L.length (L.flatMap ptC))∧Hid (Fr No w1 wr)) (fun _ a _=>m.l.length - (intOf a).toNat)
 case atStart=>exact ⟨0, [],rfl,Nat.zero_le _,lH (by simp),Nat.le_refl _,lH ⟨rfl,.inl ⟨rfl,rfl⟩⟩,lH (Fr.refl _)⟩
 case round=>
  obtain ⟨j,L,rfl,hj,HL,hLj,HO,HF⟩:=hrel;obtain ⟨a,cc,rfl⟩:=HO.out.shape;by_cases hlt:j<m.l.length
  ·obtain ⟨v,hk,hv⟩:=HH.out.fr HF.out;obtain ⟨base,cap,rfl⟩:=hv.slice;obtain ⟨b,rfl,hm,hr⟩:=hv.row (by omega);have HRR:=lH (hr.row j m.l[j] (List.getElem?_eq_getElem hlt));have hlen:=hr.len;have hml:cap≤9223372036854775807:=hm;have q1:(j:Int)<(m.l.length:Int):=(by omega)
   have q2:(j:Int)<(cap:Int):=(by omega)
   have q3:(0:Int)≤(j:Int):=(by omega)
   have c2:wr.cell? ⟨p,2,none⟩=some (.slice (some ⟨b,0,none⟩) m.l.length cap):=(by rw [cell_at hk];rfl)
   have HTK:Hid (m.l.take (j+1)=m.l.take j++ [m.l[j]]):=lH (by rw [List.take_add_one,List.getElem?_eq_getElem hlt];rfl);have HXJ:Hid (m.l[j]? =some m.l[j]):=lH (List.getElem?_eq_getElem hlt);have HK:=lH hk;have HRW:=lH hr;generalize m.l[j]=x at*;unfold ptC at HRR;have HZ:=lH (zero_ 71 (.inl rfl) x wr);unfold ptV at HZ;clear hk hv hr hm;cases hz:decide (x=noPt) with
   | true=>
    rw [hz] at HZ;have HN:Hid (L=(m.l.take (j+1)).filter fun x=> !decide (x=noPt)):=lH (by rw [HTK.out,List.filter_append,← HL.out];simp only [List.filter_cons,hz];simp);clear hz;go_wp2_with (refine wpList_load_mid (by rfl) 59 _ (by rfl) b (j*5) (by rfl) [.int .i64 x.c,.int .i64 x.l,.int .i64 x.n,.int .i64 x.a,.int .i64 x.z] _ HRR.out Tryz.underlying59 rfl Tryz.size59 ?_);refine HZ.out.mono ?_;rintro e w2 ⟨rfl,f2⟩;go_wp2_with fail;go_roundw
    case rel=>exact ⟨j+1,L,by go_num,hlt,HN,by omega,lH (own59_fr HO.out f2 (fun _ _ e=>e)),lH (HF.out.trans f2 (fun _ _ e=>e))⟩
    case measure=>simp [intOf];omega
   | false=>
    rw [hz] at HZ;have HN:Hid (L++ [x]=(m.l.take (j+1)).filter fun x=> !decide (x=noPt)):=lH (by rw [HTK.out,List.filter_append,← HL.out];simp only [List.filter_cons,hz];simp);clear hz;go_wp2_with (refine wpList_load_mid (by rfl) 59 _ (by rfl) b (j*5) (by rfl) [.int .i64 x.c,.int .i64 x.l,.int .i64 x.n,.int .i64 x.a,.int .i64 x.z] _ HRR.out Tryz.underlying59 rfl Tryz.size59 ?_);refine HZ.out.mono ?_;rintro e w2 ⟨rfl,f2⟩;have c3:w2.cell? ⟨p,2,none⟩=some (.slice (some ⟨b,0,none⟩) m.l.length cap):=(by rw [cell_at (f2.block_of HK.out id)];rfl)
    have HR2:=lH ((HRW.out.fr f2 id).row j x HXJ.out);have HO2:=lH (own59_fr HO.out f2 (fun _ _ e=>e));have HF2:=lH (HF.out.trans f2 (fun _ _ e=>e));have hszl:=HF2.out.size;unfold ptC at HR2;go_wp2_with (first|(refine wpList_load_mid (by rfl) 59 _ (by rfl) b (j*5) (by rfl) [.int .i64 x.c,.int .i64 x.l,.int .i64 x.n,.int .i64 x.a,.int .i64 x.z] _ HR2.out Tryz.underlying59 rfl Tryz.size59 ?_)|(at_builtin;(refine wpList_append_lies _ (by rfl) _ _ 77 (by rfl) w1.heap.size 59 i0 _ 5 40 Tryz.underlying77 HI.out HZ0.out HZ1.out HZ2.out rfl (by decide) (.slice a L.length cc) L.length (L.flatMap ptC) (by rfl) (HO2.out.alloc _) ⟨w2.heap.size,0,none⟩ 1 1 [.int .i64 x.c,.int .i64 x.l,.int .i64 x.n,.int .i64 x.a,.int .i64 x.z] (by rfl) (by rfl) ?d1 (by simp [Value.oneCell']) (by decide) (by unfold maxLen;omega) (by omega) ?d5 (w2.heap.size+1) ?d6 ?_)))
    case d1=>exact World.news_of_block (cs:= #[.int .i64 x.c,.int .i64 x.l,.int .i64 x.n,.int .i64 x.a,.int .i64 x.z]) (t:=59) (fr:=(0,0)) (heap_alloc_new w2 _)
    case d5=>rw [heap_size_alloc];omega
    case d6=>simp
    intro gg cap wD hownD hgrow hat hgl;have hnl:Fr No w1 wD:=by
     refine (HF2.out.alloc _).grown hgrow (fun j hj=> .inr ?_);exact own59_base HO2.out j hj
    have HNL:=lH hnl;have HOD:=lH hownD;clear hownD hgrow hat hgl hnl;go_wp2_with fail;go_roundw
    case rel=>
     refine ⟨j+1,L++ [x],by go_num,hlt,HN,by rw [List.length_append,List.length_singleton];omega,lH ?_,HNL⟩;have h9:=HOD.out;rw [List.flatMap_append,List.length_append];simp only [List.flatMap_cons,List.flatMap_nil,List.append_nil,List.length_singleton];exact h9
    case measure=>simp [intOf];omega
  ·obtain rfl:j=m.l.length:=by omega
   have q1:¬(m.l.length:Int)<(m.l.length:Int):=(by omega)
   have HLL:Hid (L=ptrs m):=lH (by rw [HL.out,List.take_length];rfl);go_wp2_with fail;exact HR.out _ _ L HLL.out HO.out HF.out
end Go.Proofs.YtlcojhddnpmgmaaGreat
namespace Go.Proofs.YtlcojhddnpmgmaaGreat
open Go Go.RowKit
section
variable {P:Program} {ops:Array Oper} {Q:Exit→Act→World→Prop} {md:Region.Mode} {S:World→Prop}
def YieldsS (P:Program) (ops:Array Oper) (S:World→Prop) (o:Oper) (v:Value) (a:Act):Prop:=
 (Region.wanted o (yielded ops a.tmps)=true∧∀w,S w→(∃w',(execOp a.eval o).run P w=.ok (.value v) w'∧S w')∨∃f args w1,(execOp a.eval o).run P w=.ok (.enter f args) w1∧Calls P f args w1 (fun e w'=>e=.returned v∧S w'))∨
 (Region.wanted o (yielded ops a.tmps)=false∧v=undef)
theorem YieldsS.wpOp {i:Nat} {o:Oper} {v:Value} {a:Act} (hi:ops[i]? =some o) (hy:YieldsS P ops S o v a)
  {K:Act→World→Prop} {w:World} (hS:S w) (h:∀w',S w'→K (a.put o.dst v) w'):wpOp P ops Q i K a w:=by
 unfold Go.wpOp;simp only [hi];rcases hy with ⟨hw,hv⟩|⟨hw,rfl⟩
 ·simp only [hw,if_true];refine .inl ?_;rcases hv w hS with ⟨w',hr,hS'⟩|⟨f,args,w1,hr,hc⟩
  ·simp only [Oper.wp,hr,Oper.upon];exact h w' hS'
  ·simp only [Oper.wp,hr,Oper.upon];refine Calls.mono hc fun e w'' he=> ?_;obtain ⟨rfl,hS'⟩:=he;exact h w'' hS'
 ·simp only [hw,Bool.false_eq_true,if_false];exact h w hS
theorem YieldsS.of_same {o:Oper} {v:Value} {a a':Act} (hy:YieldsS P ops S o v a) (he:execOp a'.eval o=execOp a.eval o)
  (hw:Region.wanted o (yielded ops a'.tmps)=Region.wanted o (yielded ops a.tmps)):YieldsS P ops S o v a':=by
 unfold YieldsS at*;rw [he,hw];exact hy
theorem wpOp_putS {j:Nat} {oi oj:Oper} {v:Value} (hj:ops[j]? =some oj) (hap:oi.apart ops oj=true)
  (hsi:∀cs b,oi.op≠ .select cs b) (hsj:∀cs b,oj.op≠ .select cs b)
  (hQ:∀c a w,Q (.panic c) (a.put oi.dst v) w→Q (.panic c) a w) {K:Act→World→Prop} {a:Act} {w:World}
  (hy:YieldsS P ops S oi v a) (h:wpOp P ops Q j K (a.put oi.dst v) w):
  wpOp P ops Q j (fun a' w'=>YieldsS P ops S oi v a'∧K (a'.put oi.dst v) w') a w:=by
 obtain ⟨h1,h2,h3⟩:=Oper.apart_spec hap;have keep:∀(a:Act),YieldsS P ops S oi v a→∀u,YieldsS P ops S oi v (a.put oj.dst u):=fun a hy u=>
  hy.of_same (execOp_put oi hsi a oj.dst u h3) (wanted_put oi a oj.dst u h3)
 have keepD:∀d,YieldsS P ops S oi v {a with defers:=d::a.defers}:=fun d=>hy.of_same rfl rfl;unfold wpOp at*;simp only [hj] at*;rw [wanted_put oj a oi.dst v h1] at h;split
 ·rename_i hw
  simp only [hw,if_true] at h;rcases h with h|⟨hasks,hlets⟩
  case inr=>exact .inr ⟨by unfold Oper.asks at*;rw [execOp_put oj hsj a oi.dst v h1] at hasks;exact hasks,hlets⟩
  refine .inl ?_;unfold Oper.wp at*;rw [execOp_put oj hsj a oi.dst v h1] at h;generalize (execOp a.eval oj).run P w=r at*;cases r with
  | ok n w'=>
   cases n<;>simp only [Oper.upon] at h ⊢
   case value u=>exact ⟨keep a hy u,by rw [← Act.put_comm a v u h2];exact h⟩
   case skip=>exact ⟨keep a hy _,by rw [← Act.put_comm a v undef h2];exact h⟩
   case defer d=>
    refine ⟨keep _ (keepD d) _,?_⟩;rw [← Act.put_comm _ v undef h2,← Act.put_defers];exact h
   case enter f args=>
    refine Calls.mono h fun e w'' he=> ?_;cases e with
    | returned u=>exact ⟨keep a hy u,by rw [← Act.put_comm a v u h2];exact he⟩
    | panicked c=>exact hQ _ _ _ he
    | outgrown=>exact he
   case row row args=>exact Rows.mono h fun u w'' he=>⟨keep a hy u,by rw [← Act.put_comm a v u h2];exact he⟩
  | halt x w'=>
   cases x<;>simp only [Oper.upon] at h ⊢
   case panic u=>exact hQ _ _ _ h
 ·rename_i hw
  simp only [hw] at h;exact ⟨keep a hy _,by rw [← Act.put_comm a v undef h2];exact h⟩
def wpAnyA (P:Program) (md:Region.Mode) (ops:Array Oper) (Q:Exit→Act→World→Prop) (S:World→Prop):Nat→Array Bool→Act→Prop
 | 0,listed,a=>Region.ready md ops listed= []∧∀w,S w→Q .normal a w
 | fuel+1,listed,a=>
  (Region.ready md ops listed= []→∀w,S w→Q .normal a w)∧
  ∀i∈Region.ready md ops listed,∀w,S w→wpOp P ops Q i (fun a' w'=>S w'∧wpAnyA P md ops Q S fuel (listed.setIfInBounds i true) a') a w
theorem wpAny_of_all:∀(fuel:Nat) (listed:Array Bool) (a:Act) (w:World),S w→wpAnyA P md ops Q S fuel listed a→wpAny P md ops Q fuel listed a w
 | 0,_,_,w,hS,h=>⟨h.1,h.2 w hS⟩
 | fuel+1,_,_,w,hS,h=>⟨fun hr=>h.1 hr w hS,fun i hi=>wpOp_mono (fun a' w' h'=>wpAny_of_all fuel _ a' w' h'.1 h'.2) (h.2 i hi w hS)⟩
theorem wpAnyA_first {i:Nat} {oi:Oper} {v:Value} (hi:ops[i]? =some oi) (hsel:∀(j:Nat) (o:Oper) cs b,ops[j]? =some o→o.op≠ .select cs b)
  (hQ:∀c a w,Q (.panic c) (a.put oi.dst v) w→Q (.panic c) a w):
  ∀(fuel:Nat) (listed:Array Bool) (a:Act),
   (∀j oj,ops[j]? =some oj→j≠i→listed.getD j true=false→(∀e∈oj.after,Region.binds md e=true→e.on≠i)→oi.apart ops oj=true)→
   i∈Region.ready md ops listed→YieldsS P ops S oi v a→
   wpAnyA P md ops Q S fuel (listed.setIfInBounds i true) (a.put oi.dst v)→wpAnyA P md ops Q S (fuel+1) listed a:=by
 intro fuel;induction fuel with
 | zero=>
  intro listed a _ hr hy H;refine ⟨fun h=>(by rw [h] at hr;cases hr),fun j hj w hS=> ?_⟩;by_cases hji:j=i
  ·subst hji;exact hy.wpOp hi hS (fun w' hS'=>⟨hS',H⟩)
  ·have:=ready_mono hj hji;rw [H.1] at this;cases this
 | succ fuel ih=>
  intro listed a hfree hr hy H;refine ⟨fun h=>(by rw [h] at hr;cases hr),fun j hj w hS=> ?_⟩;by_cases hji:j=i
  ·subst hji;exact hy.wpOp hi hS (fun w' hS'=>⟨hS',H⟩)
  ·have h1:=H.2 j (ready_mono hj hji) w hS;obtain ⟨hjun,oj,hoj,hall⟩:=mem_ready.1 hj;have hnot:∀e∈oj.after,Region.binds md e=true→e.on≠i:=fun e he hb heq=>by
    have h1:=hall e he hb;have h0:=(mem_ready.1 hr).1;rw [heq] at h1;rcases Nat.lt_or_ge i listed.size with h'|h'
    ·simp [h'] at h0 h1;rw [h0] at h1;cases h1
    ·simp [Array.getElem?_eq_none h'] at h1
   have h2:=wpOp_putS hoj (hfree j oj hoj hji hjun hnot) (fun cs b=>hsel i oi cs b hi) (fun cs b=>hsel j oj cs b hoj) hQ hy h1;have hfree':∀k ok,ops[k]? =some ok→k≠i→(listed.setIfInBounds j true).getD k true=false→
     (∀e∈ok.after,Region.binds md e=true→e.on≠i)→oi.apart ops ok=true:=fun k ok hk hki hun hno=>by
    refine hfree k ok hk hki ?_ hno;by_cases hjk:j=k
    ·subst hjk;exact hjun
    ·rw [getD_set_ne true hjk] at hun;exact hun
   refine wpOp_mono (fun a' w' h3=>⟨h3.2.1,ih (listed.setIfInBounds j true) a' hfree' (ready_mono hr (Ne.symm hji)) h3.1 ?_⟩) h2;rw [Array.setIfInBounds_comm _ _ hji];exact h3.2.2
theorem fr_dr {T:Nat→Prop} {w w':World} (f:Fr T w w'):Fr T w w'.drew:=⟨f.os,f.tape,f.output,f.size,f.block⟩
def seqA (P:Program) (ops:Array Oper) (Q:Exit→Act→World→Prop) (S:World→Prop):List Oper→Act→Prop
 | [],a=>∀w,S w→Q .normal a w
 | o::rest,a=>∃v,YieldsS P ops S o v a∧seqA P ops Q S rest (a.put o.dst v)
theorem seqA_val {o:Oper} {rest:List Oper} {a:Act} {v:Value} (hw:Region.wanted o (yielded ops a.tmps)=true) (h:∀w,S w→(execOp a.eval o).run P w=.ok (.value v) w) (r:seqA P ops Q S rest (a.put o.dst v)):seqA P ops Q S (o::rest) a:=
 ⟨v,.inl ⟨hw,fun w hS=> .inl ⟨w,h w hS,hS⟩⟩,r⟩
theorem seqA_no {o:Oper} {rest:List Oper} {a:Act} (hw:Region.wanted o (yielded ops a.tmps)=false) (r:seqA P ops Q S rest (a.put o.dst undef)):seqA P ops Q S (o::rest) a:=
 ⟨undef,.inr ⟨hw,rfl⟩,r⟩
theorem seqA_call {o:Oper} {rest:List Oper} {a:Act} {v:Value} (f:Nat) (args:Array Value) (hw:Region.wanted o (yielded ops a.tmps)=true) (h:∀w,(execOp a.eval o).run P w=.ok (.enter f args) w) (hc:∀w,S w→Calls P f args w (fun e w'=>e=.returned v∧S w')) (r:seqA P ops Q S rest (a.put o.dst v)):seqA P ops Q S (o::rest) a:=
 ⟨v,.inl ⟨hw,fun w hS=> .inr ⟨f,args,w,h w,hc w hS⟩⟩,r⟩
def pre (n k:Nat):Array Bool:=(Array.range n).map fun i=>decide (i<k)
theorem pre_zero (n:Nat):pre n 0=Array.replicate n false:=by
 apply Array.ext
 ·simp [pre]
 ·intro i h1 h2;simp [pre]
theorem pre_succ (n k:Nat):(pre n k).setIfInBounds k true=pre n (k+1):=by
 apply Array.ext
 ·simp [pre]
 ·intro i h1 h2;simp only [pre] at h1 h2 ⊢;rw [Array.getElem_setIfInBounds (by simpa using h1)];by_cases h:k=i
  ·subst h;simp
  ·rw [if_neg h];simp only [Array.getElem_map,Array.getElem_range];by_cases h3:i<k
   ·simp [h3,Nat.lt_succ_of_lt h3]
   ·simp [h3];omega
def inText (md:Region.Mode) (ops:Array Oper):Bool:=
 (List.range ops.size).all (fun k=>(Region.ready md ops (pre ops.size k)).contains k&&Region.free md ops (pre ops.size k) k)&&(Region.ready md ops (pre ops.size ops.size)).isEmpty
theorem wpAnyA_seq (hs:Region.noSelect ops=true) (hf:inText md ops=true) (hQ:∀c (a:Act) d v w,Q (.panic c) (a.put d v) w→Q (.panic c) a w):
  ∀(r k:Nat) (a:Act),k+r=ops.size→seqA P ops Q S (ops.toList.drop k) a→wpAnyA P md ops Q S r (pre ops.size k) a:=by
 unfold inText at hf;rw [Bool.and_eq_true,List.all_eq_true] at hf;intro r;induction r with
 | zero=>
  intro k a hk h;obtain rfl:k=ops.size:=by omega
  rw [List.drop_eq_nil_of_le (by simp)] at h;exact ⟨by simpa using hf.2,h⟩
 | succ r ih=>
  intro k a hk h;have hlt:k<ops.toList.length:=by simp;omega
  rw [List.drop_eq_getElem_cons hlt] at h;obtain ⟨v,hy,h⟩:=h;have hi:ops[k]? =some (ops.toList[k]):=by rw [← Array.getElem?_toList];exact List.getElem?_eq_getElem hlt
  have hck:=hf.1 k (List.mem_range.2 (by omega));rw [Bool.and_eq_true] at hck;refine wpAnyA_first hi (Region.noSelect_spec hs) (fun c a w h=>hQ c a _ _ w h) r (pre ops.size k) a (Region.free_spec hi hck.2) (by simpa using hck.1) hy ?_;rw [pre_succ];exact ih (k+1) _ (by omega) h
theorem wp_region_seq {id:Nat} {a:Act} {w:World} (hm:P.follows .mixedOrders=true) (S:World→Prop) (hs:Region.noSelect ops=true) (hf:inText .any ops=true) (hQ:∀c (a:Act) d v w,Q (.panic c) (a.put d v) w→Q (.panic c) a w) (hS:S w.drew)
  (h:seqA P ops Q S ops.toList a):(Code.region id ops true).wp P Q a w:=by
 refine wp_region_any hm ?_;rw [← pre_zero];exact wpAny_of_all _ _ _ _ hS (wpAnyA_seq hs hf hQ ops.size 0 a (by omega) (by simpa using h))
end
end Go.Proofs.YtlcojhddnpmgmaaGreat
