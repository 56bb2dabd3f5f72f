/- Part of the proof; the last text says what is proved. -/
import Derived.Test.YtlcojhddnpmgmaaGreatT24
import Derived.Test.YtlcojhddnpmgmaaGreatT36
import Derived.ChangeArms
import Derived.Deep.Slices
import Derived.OpenShut
import Derived.ProofKit
set_option linter.unusedSimpArgs false
set_option linter.unusedVariables false
set_option maxRecDepth 100000
namespace Go.Proofs.YtlcojhddnpmgmaaGreat
open Go.RowKit
theorem lastW_some {W:Nat→Option WRow} {c:Nat} {y:WRow} (hc:c<4) (h:W c=some y):lastW W (c:Int)=some ((c:Int),y.1,y.2.1,y.2.2):=by
 unfold lastW;have key:∀n,c<n→(wrOf W n).find? (fun y=>y.1==(c:Int))=some ((c:Int),y.1,y.2.1,y.2.2):=by
  intro n;induction n with
  | zero=>intro h;omega
  | succ n ih=>
   intro hn;by_cases e:c=n
   ·subst e;rw [wrOf_some h,List.find?_append];have:(wrOf W c).find? (fun y=>y.1==(c:Int))=none:=by
     rw [List.find?_eq_none];intro z hz;unfold wrOf at hz;obtain ⟨i,hi,e⟩:=List.mem_filterMap.1 hz;rw [List.mem_range] at hi;cases hw:W i with
     | none=>rw [hw] at e;cases e
     | some u=>
      rw [hw] at e;cases e;simp only [beq_iff_eq];omega
    rw [this];simp
   ·have h1:=ih (by omega);cases hw:W n with
    | none=>rw [wrOf_none hw];exact h1
    | some u=>rw [wrOf_some hw,List.find?_append,h1];rfl
 exact key 4 hc
theorem did_sizes {x:RepS×St} (h:x.1.ok):x.1.map.length≤1000000∧x.1.es.length≤4000:=by
 obtain ⟨f,_⟩:=h.raw;have:=f.map;exact ⟨by omega,h.2.1⟩
theorem kind_self (l q:Int):kindOf l q l q=1:=by
 unfold kindOf;rw [if_neg (by omega),if_neg (by omega),if_pos rfl]
theorem once_same {S:St} {q:Nat} {r:Req} {st:List Sz} {dl:List Dl} {x1 x2:RepS×St} (inv:StInv S q) (hq:q≤90000) (h1:Did S r st dl x1) (h2:Did x1.2 r st dl x2) (hk:r.kind<9):x2.2=x1.2∧(x1.1.e≠17→x2.1=x1.1∧x1.1.map.length≤1000000∧x1.1.es.length≤4000):=by
 unfold Did at h1 h2;rw [if_neg (by omega),if_neg (by omega),if_neg (by omega)] at h1 h2;by_cases hkk:1≤r.kind∧r.kind≤8
 ·rw [if_neg (fun h=>h hkk)] at h1 h2;by_cases ha1:(askOf S.W r.c r.l r.q).1=1
  ·rw [if_pos ha1] at h1;obtain ⟨e1,e2,e3⟩:=h1;rw [e1,if_pos ha1] at h2;obtain ⟨f1,f2,f3⟩:=h2;refine ⟨f1.trans e1.symm,fun _=>⟨RepS.inj f3 e3 ?_,did_sizes e3⟩⟩;have:=f2.symm.trans e2;simpa using this
  ·rw [if_neg ha1] at h1;by_cases ha2:(askOf S.W r.c r.l r.q).1=2
   ·rw [if_pos ha2] at h1;have e1:x1.2=S:=(by rw [h1];rfl)
    rw [e1,if_neg ha1,if_pos ha2] at h2;exact ⟨by rw [h2,e1];rfl,fun he=>absurd (by rw [h1];rfl) he⟩
   ·rw [if_neg ha2] at h1;rcases ask_cases S.W r.c r.l r.q with ha|⟨hc,ha⟩
    ·rw [ha] at ha2;exact absurd rfl ha2
    ·have hm:mayP r.c r.l r.q:=by
      by_cases hm:mayP r.c r.l r.q
      ·exact hm
      ·have:askOf S.W r.c r.l r.q=(2,none):=if_neg hm;rw [this] at ha2;exact absurd rfl ha2
     generalize (askOf S.W r.c r.l r.q).1=kd at*;have hF:=fine_all (inv.askB r.c.toNat kd) r st dl r.kind hc;have hsx:=hF.inv.swaps;have hok:=(tried_rep (s:=(triedOf (deedF r st dl r.kind (askB S r.c.toNat kd))).2.swaps) hF (by rw [triedOf_st];omega)).1;have hW1:x1.2.W r.c.toNat=some (r.l,r.q,x1.1.bytes):=by
      rw [h1];unfold tell askedS;dsimp only;rw [upd_same];rfl
     have hok1:x1.1.ok:=by
      rw [h1];exact hok
     have ha3:askOf x1.2.W r.c r.l r.q=(1,some x1.1.bytes):=by
      unfold askOf;have hm':=hm;unfold mayP at hm';rw [if_pos (by omega),hW1];dsimp only;rw [kind_self,if_pos rfl]
     rw [ha3,if_pos rfl] at h2;obtain ⟨f1,f2,f3⟩:=h2;exact ⟨f1,fun _=>⟨RepS.inj f3 hok1 (by simpa using f2.symm),did_sizes hok1⟩⟩
 ·rw [if_pos hkk] at h1 h2;have e1:x1.2=S:=by rw [h1];rfl
  rw [e1] at h2;rw [h1,h2];exact ⟨rfl,fun _=>⟨rfl,Nat.zero_le _,Nat.zero_le _⟩⟩
def lastQ (W:Nat→Option WRow) (c:Int):Int:=match lastW W c with
 | none=>0
 | some y=>y.2.2.1
end Go.Proofs.YtlcojhddnpmgmaaGreat
namespace Go.Proofs.YtlcojhddnpmgmaaGreat
open Go.ChangeShapes Go.WideShapes Go.RowKit Go.Deep
section
variable {H:Type} {enc:TypeId×Value→H} {W:World}
theorem Tryz.cells4:Tryz.prog.cellsOf 4=1:=by kernel_rfl
theorem Tryz.cells9:Tryz.prog.cellsOf 9=1:=by kernel_rfl
theorem Tryz.cells38:Tryz.prog.cellsOf 38=3:=by kernel_rfl
theorem Tryz.cells59:Tryz.prog.cellsOf 59=5:=by kernel_rfl
theorem Tryz.cells57:Tryz.prog.cellsOf 57=4:=by kernel_rfl
theorem Tryz.cells61:Tryz.prog.cellsOf 61=14:=by kernel_rfl
theorem Tryz.cells39:Tryz.prog.cellsOf 39=1:=by kernel_rfl
theorem Tryz.cells34:Tryz.prog.cellsOf 34=1:=by kernel_rfl
theorem Tryz.cells41:Tryz.prog.cellsOf 41=14:=by kernel_rfl
theorem fields_of {P:Program} {t:TypeId} {fs:Array Field} {fuel:Nat} {cs:List Value} {x:DataW H×List MemPlace} (ht:P.underlying t=some (.struct fs)) (h:DataW.trod enc P W 0 (fun _=>true) true fuel t cs=some x):
  cs.length=P.cellsOf t∧∃n,∀(i:Nat) (f:Field) (t':TypeId) (o k:Nat),fs[i]? =some f→f.type=t'→f.offset=o→P.cellsOf t'=k→∃y,DataW.trod enc P W 0 (fun _=>true) true n t' ((cs.drop o).take k)=some y:=by
 obtain ⟨xs,n,_,_,hc,hl,hf⟩:=DataW.trod_struct ht h;refine ⟨hc,n,fun i f t' o k hi e1 e2 e3=> ?_⟩;subst e1 e2 e3;have hlt:i<xs.length:=by
  rw [hl];exact (Array.getElem?_eq_some_iff.1 hi).1
 exact ⟨xs[i],by rw [hf i f hi,List.getElem?_eq_getElem hlt]⟩
theorem int_of {fuel:Nat} {c:Value} {y:DataW H×List MemPlace} (h:DataW.trod enc Tryz.prog W 0 (fun _=>true) true fuel 3 [c]=some y):∃n,c=.int .i64 n∧I64 n:=by
 obtain ⟨n,hc,_,hw⟩:=DataW.trod_int Tryz.underlying3 h;simp only [List.cons.injEq,and_true] at hc;exact ⟨n,hc,bounds_i64 hw⟩
theorem bool_of {fuel:Nat} {c:Value} {y:DataW H×List MemPlace} (h:DataW.trod enc Tryz.prog W 0 (fun _=>true) true fuel 4 [c]=some y):∃n,c=.bool n:=by
 obtain ⟨n,hc,_⟩:=DataW.trod_bool Tryz.underlying4 h;simp only [List.cons.injEq,and_true] at hc;exact ⟨n,hc⟩
theorem str_of {fuel:Nat} {c:Value} {y:DataW H×List MemPlace} (h:DataW.trod enc Tryz.prog W 0 (fun _=>true) true fuel 9 [c]=some y):∃l:List UInt8,c=.string (ba l):=by
 obtain ⟨s,hc,_,hw⟩:=DataW.trod_string Tryz.underlying9 h;simp only [List.cons.injEq,and_true] at hc;exact ⟨s.data.toList,by rw [hc,ba_of]⟩
theorem slot_of_add {w:World} {a:Addr} {v:Value} (h:w.cell? a=some v):a.spot=none:=by
 unfold World.cell? at h;split at h
 ·split at h
  ·cases h
  ·simpa using ‹¬a.spot.isSome=true›
 ·cases h
theorem lt_of_cell' {w:World} {a:Addr} {v:Value} (h:w.cell? a=some v):a.block<w.heap.size:=by
 unfold World.cell? at h;split at h
 ·rename_i e
  exact (Array.getElem?_eq_some_iff.1 e).1
 ·cases h
theorem rows_open {T ET:TypeId} {n:Nat} {α:Type} [Inhabited α] (c:α→List Value) (G:α→Prop) (hT:Tryz.prog.underlying T=some (.slice ET)) (hE:Tryz.prog.cellsOf ET=n) (hn:0<n) (hc:∀x,(c x).length=n)
  (hel:∀ {fuel:Nat} {cs:List Value} {y:DataW H×List MemPlace},DataW.trod enc Tryz.prog W 0 (fun _=>true) true fuel ET cs=some y→∃x,cs=c x∧G x) {fuel:Nat} {v:Value} {y:DataW H×List MemPlace}
  (h:DataW.trod enc Tryz.prog W 0 (fun _=>true) true fuel T [v]=some y):
  ∃(L:List α) (base:Option Addr) (cap:Nat),v=.slice base L.length cap∧(∀x∈L,G x)∧(L≠ []→∃b off,base=some ⟨b,off,none⟩∧b<W.heap.size∧∀(j:Nat) x,L[j]? =some x→W.rangeAt b (off+j*n) (c x)):=by
 rcases open_slice hT h with ⟨hcs,_⟩|⟨a,len,cap,m,k,D,Pl,hcs,_,hl,hm,hmm,_,hi⟩
 ·simp only [List.cons.injEq,and_true] at hcs;exact ⟨[],none,0,hcs,(fun _ h=>by cases h),fun h=>absurd rfl h⟩
 ·simp only [List.cons.injEq,and_true] at hcs;simp only [if_true] at hmm;subst hmm;rw [hE] at hi;obtain ⟨f,hF⟩:=choose_lt (α:=α) (n:=len) (p:=fun i x=>G x∧∀j u,(c x)[j]? =some u→W.cell? ((a.add (i*n)).add j)=some u) (fun i hlt=>by
   obtain ⟨cs',h1,h2⟩:=hi i (by omega);obtain ⟨x,rfl,hg⟩:=hel h2;obtain ⟨_,hlen,hcell⟩:=World.cells?_some h1;refine ⟨x,hg,fun j u hj=> ?_⟩;have hjn:j<n:=by
    rcases Nat.lt_or_ge j n with h|h
    ·exact h
    ·rw [List.getElem?_eq_none (by rw [hc];exact h)] at hj;cases hj
   rw [hcell j hjn,hj])
  refine ⟨(List.range len).map f,some a,m,by simpa using hcs,fun x hx=> ?_,fun hne=> ?_⟩
  ·obtain ⟨i,hi',rfl⟩:=List.mem_map.1 hx;exact (hF i (List.mem_range.1 hi')).1
  ·have h0:0<len:=by
    rcases Nat.eq_zero_or_pos len with h0|h0
    ·subst h0;simp at hne
    ·exact h0
   have hlen0:0<(c (f 0)).length:=(by rw [hc];exact hn)
   have c0:=(hF 0 h0).2 0 _ (List.getElem?_eq_getElem hlen0);have ha:=slot_of_add c0;have ha:a.spot=none:=(by simpa [Addr.add] using ha)
   have hblk:=lt_of_cell' c0;obtain ⟨b,off,s⟩:=a;simp only at ha;subst ha;refine ⟨b,off,rfl,by simpa [Addr.add] using hblk,fun j x hj=> ?_⟩;have hj2:j<len:=by
    rcases Nat.lt_or_ge j len with h|h
    ·exact h
    ·rw [List.getElem?_eq_none (by simp;omega)] at hj;cases hj
   have hx:x=f j:=by
    rw [List.getElem?_map,List.getElem?_range hj2] at hj;simpa using hj.symm
   subst hx;intro i u hu;have h2:((Addr.mk b off none).add (j*n)).add i=⟨b,off+j*n+i,none⟩:=by
    unfold Addr.add;split<;>split<;>simp_all
   have:=(hF j hj2).2 i u hu;rw [h2] at this;exact this
theorem stp_of {fuel:Nat} {cs:List Value} {y:DataW H×List MemPlace} (h:DataW.trod enc Tryz.prog W 0 (fun _=>true) true fuel 46 cs=some y):∃x:Stp,cs= [.int .i64 x.1,.int .i64 x.2.1,.int .i64 x.2.2]∧stpGood x:=by
 obtain ⟨hl,n,hf⟩:=fields_of Tryz.underlying46 h;rw [Tryz.cells46] at hl
 match cs,hl with
 | [c0,c1,c2],_=>
  obtain ⟨_,g0⟩:=hf 0 _ 3 0 1 rfl rfl rfl Tryz.cells3;obtain ⟨_,g1⟩:=hf 1 _ 3 1 1 rfl rfl rfl Tryz.cells3;obtain ⟨_,g2⟩:=hf 2 _ 3 2 1 rfl rfl rfl Tryz.cells3;obtain ⟨n0,rfl,i0⟩:=int_of g0;obtain ⟨n1,rfl,i1⟩:=int_of g1;obtain ⟨n2,rfl,i2⟩:=int_of g2;exact ⟨(n0,n1,n2),rfl,i0,i1,i2⟩
theorem sz_of {fuel:Nat} {cs:List Value} {y:DataW H×List MemPlace} (h:DataW.trod enc Tryz.prog W 0 (fun _=>true) true fuel 57 cs=some y):∃x:Sz,cs=szC x∧stpGood x.1:=by
 obtain ⟨hl,n,hf⟩:=fields_of Tryz.underlying57 h;rw [Tryz.cells57] at hl
 match cs,hl with
 | [c0,c1,c2,c3],_=>
  obtain ⟨_,g0⟩:=hf 0 _ 46 0 3 rfl rfl rfl Tryz.cells46;obtain ⟨_,g3⟩:=hf 1 _ 3 3 1 rfl rfl rfl Tryz.cells3;obtain ⟨x,e,hx⟩:=stp_of g0;obtain ⟨n3,rfl,_⟩:=int_of g3;simp only [List.drop_zero,List.take_succ_cons,List.take_zero,List.cons.injEq,and_true] at e;obtain ⟨rfl,rfl,rfl⟩:=e;exact ⟨(x,n3),rfl,hx⟩
theorem pt_of {fuel:Nat} {cs:List Value} {y:DataW H×List MemPlace} (h:DataW.trod enc Tryz.prog W 0 (fun _=>true) true fuel 59 cs=some y):∃x:Pt,cs=ptC x:=by
 obtain ⟨hl,n,hf⟩:=fields_of Tryz.underlying59 h;rw [Tryz.cells59] at hl
 match cs,hl with
 | [c0,c1,c2,c3,c4],_=>
  obtain ⟨_,g0⟩:=hf 0 _ 46 0 3 rfl rfl rfl Tryz.cells46;obtain ⟨_,g3⟩:=hf 1 _ 3 3 1 rfl rfl rfl Tryz.cells3;obtain ⟨_,g4⟩:=hf 2 _ 3 4 1 rfl rfl rfl Tryz.cells3;obtain ⟨x,e,hx⟩:=stp_of g0;obtain ⟨n3,rfl,_⟩:=int_of g3;obtain ⟨n4,rfl,_⟩:=int_of g4;simp only [List.drop_zero,List.take_succ_cons,List.take_zero,List.cons.injEq,and_true] at e;obtain ⟨rfl,rfl,rfl⟩:=e;exact ⟨⟨x.1,x.2.1,x.2.2,n3,n4⟩,rfl⟩
theorem dl_of {fuel:Nat} {cs:List Value} {y:DataW H×List MemPlace} (h:DataW.trod enc Tryz.prog W 0 (fun _=>true) true fuel 61 cs=some y):∃x:Dl,cs=dlC x:=by
 obtain ⟨hl,n,hf⟩:=fields_of Tryz.underlying61 h;rw [Tryz.cells61] at hl
 match cs,hl with
 | [c0,c1,c2,c3,c4,c5,c6,c7,c8,c9,c10,c11,c12,c13],_=>
  obtain ⟨_,g0⟩:=hf 0 _ 3 0 1 rfl rfl rfl Tryz.cells3;obtain ⟨_,g1⟩:=hf 1 _ 3 1 1 rfl rfl rfl Tryz.cells3;obtain ⟨_,g2⟩:=hf 2 _ 3 2 1 rfl rfl rfl Tryz.cells3;obtain ⟨_,g3⟩:=hf 3 _ 3 3 1 rfl rfl rfl Tryz.cells3;obtain ⟨_,g4⟩:=hf 4 _ 59 4 5 rfl rfl rfl Tryz.cells59;obtain ⟨_,g9⟩:=hf 5 _ 59 9 5 rfl rfl rfl Tryz.cells59;obtain ⟨n0,rfl,_⟩:=int_of g0;obtain ⟨n1,rfl,_⟩:=int_of g1;obtain ⟨n2,rfl,_⟩:=int_of g2;obtain ⟨n3,rfl,_⟩:=int_of g3;obtain ⟨t,e⟩:=pt_of g4;obtain ⟨o,e'⟩:=pt_of g9;simp only [ptC,List.drop_succ_cons,List.drop_zero,List.take_succ_cons,List.take_zero,List.cons.injEq,and_true] at e e';obtain ⟨rfl,rfl,rfl,rfl,rfl⟩:=e;obtain ⟨rfl,rfl,rfl,rfl,rfl⟩:=e';exact ⟨⟨n0,n1,n2,n3,t,o⟩,rfl⟩
theorem szs_of {fuel:Nat} {v:Value} {y:DataW H×List MemPlace} (h:DataW.trod enc Tryz.prog W 0 (fun _=>true) true fuel 39 [v]=some y):∃st:List Sz,RowsAt szC 4 W (fun _=>0) v st∧∀s∈st,stpGood s.1:=by
 obtain ⟨L,base,cap,e,hg,hr⟩:=rows_open (enc:=enc) (W:=W) szC (fun x=>stpGood x.1) Tryz.underlying39 Tryz.cells57 (by decide) szC_len sz_of h;exact ⟨L,⟨base,cap,e,fun hL=>by
  obtain ⟨b,off,e1,hb,hx⟩:=hr hL;exact ⟨b,off,e1,rfl,hb,hx⟩⟩,hg⟩
theorem dls_of {fuel:Nat} {v:Value} {y:DataW H×List MemPlace} (h:DataW.trod enc Tryz.prog W 0 (fun _=>true) true fuel 34 [v]=some y):∃dl:List Dl,RowsAt dlC 14 W (fun _=>0) v dl:=by
 obtain ⟨L,base,cap,e,_,hr⟩:=rows_open (enc:=enc) (W:=W) dlC (fun _=>True) Tryz.underlying34 Tryz.cells61 (by decide) (fun _=>rfl) (fun h=>by
  obtain ⟨x,hx⟩:=dl_of h;exact ⟨x,hx,trivial⟩) h
 exact ⟨L,⟨base,cap,e,fun hL=>by
  obtain ⟨b,off,e1,hb,hx⟩:=hr hL;exact ⟨b,off,e1,rfl,hb,hx⟩⟩⟩
abbrev RqV:=Rq×Value×Value
def RqV.cells (y:RqV):List Value:=(y.1.1.cells y.2.1 y.2.2).toList
def RqV.good (W:World) (y:RqV):Prop:=RowsAt szC 4 W (fun _=>0) y.2.1 y.1.2.1∧RowsAt dlC 14 W (fun _=>0) y.2.2 y.1.2.2∧∀s∈y.1.2.1,stpGood s.1
theorem rq_of {fuel:Nat} {cs:List Value} {y:DataW H×List MemPlace} (h:DataW.trod enc Tryz.prog W 0 (fun _=>true) true fuel 41 cs=some y):∃x:RqV,cs=x.cells∧x.good W:=by
 obtain ⟨hl,n,hf⟩:=fields_of Tryz.underlying41 h;rw [Tryz.cells41] at hl
 match cs,hl with
 | [c0,c1,c2,c3,c4,c5,c6,c7,c8,c9,c10,c11,c12,c13],_=>
  obtain ⟨_,gs⟩:=hf 0 _ 38 0 3 rfl rfl rfl Tryz.cells38;obtain ⟨_,g3⟩:=hf 1 _ 3 3 1 rfl rfl rfl Tryz.cells3;obtain ⟨_,g4⟩:=hf 2 _ 9 4 1 rfl rfl rfl Tryz.cells9;obtain ⟨_,g5⟩:=hf 3 _ 9 5 1 rfl rfl rfl Tryz.cells9;obtain ⟨_,g6⟩:=hf 4 _ 4 6 1 rfl rfl rfl Tryz.cells4;obtain ⟨_,g7⟩:=hf 5 _ 4 7 1 rfl rfl rfl Tryz.cells4;obtain ⟨_,g8⟩:=hf 6 _ 4 8 1 rfl rfl rfl Tryz.cells4;obtain ⟨_,g9⟩:=hf 7 _ 3 9 1 rfl rfl rfl Tryz.cells3;obtain ⟨_,g10⟩:=hf 8 _ 3 10 1 rfl rfl rfl Tryz.cells3;obtain ⟨_,g11⟩:=hf 9 _ 3 11 1 rfl rfl rfl Tryz.cells3;obtain ⟨_,g12⟩:=hf 10 _ 39 12 1 rfl rfl rfl Tryz.cells39;obtain ⟨_,g13⟩:=hf 11 _ 34 13 1 rfl rfl rfl Tryz.cells34;obtain ⟨_,m,hm⟩:=fields_of Tryz.underlying38 gs;obtain ⟨_,k0⟩:=hm 0 _ 3 0 1 rfl rfl rfl Tryz.cells3;obtain ⟨_,k1⟩:=hm 1 _ 3 1 1 rfl rfl rfl Tryz.cells3;obtain ⟨_,k2⟩:=hm 2 _ 3 2 1 rfl rfl rfl Tryz.cells3;obtain ⟨n0,rfl,_⟩:=int_of k0;obtain ⟨n1,rfl,_⟩:=int_of k1;obtain ⟨n2,rfl,_⟩:=int_of k2;obtain ⟨n3,rfl,_⟩:=int_of g3;obtain ⟨n4,rfl⟩:=str_of g4;obtain ⟨n5,rfl⟩:=str_of g5;obtain ⟨n6,rfl⟩:=bool_of g6;obtain ⟨n7,rfl⟩:=bool_of g7;obtain ⟨n8,rfl⟩:=bool_of g8;obtain ⟨n9,rfl,_⟩:=int_of g9;obtain ⟨n10,rfl,_⟩:=int_of g10;obtain ⟨n11,rfl,_⟩:=int_of g11;obtain ⟨st,hst,hgood⟩:=szs_of g12;obtain ⟨dl,hdl⟩:=dls_of g13;exact ⟨((⟨n0,n1,n2,n3,n4,n5,n6,n7,n8,n9,n10,n11⟩,st,dl),_,_),rfl,hst,hdl,hgood⟩
theorem rqs_of {b0:Nat} {v:Value} {d:DataW H} {p:List MemPlace} (hv:Value.okWide Tryz.prog W .any b0 44 v) (h:DataW.Trod enc Tryz.prog W 0 (fun _=>true) true 44 v d p):∃L:List Rq,RqsAt W (fun _=>0) v L∧∀y∈L,∀s∈y.2.1,stpGood s.1:=by
 obtain ⟨a',len',cap',rfl⟩:=okWide_slice Tryz.underlying44 hv;obtain ⟨fuel,hf⟩:=h
 haveI:Inhabited RqV:=⟨((⟨0,0,0,0, [], [],false,false,false,0,0,0⟩, [], []),.slice none 0 0,.slice none 0 0)⟩
 obtain ⟨L,base,cap,e,hg,hr⟩:=rows_open (enc:=enc) (W:=W) RqV.cells (RqV.good W) Tryz.underlying44 Tryz.cells41 (by decide) (fun _=>rfl) rq_of (v:=.slice a' len' cap') hf;refine ⟨L.map (·.1),⟨base,cap,by rw [List.length_map];exact e,fun hL=> ?_⟩,fun y hy s hs=> ?_⟩
 ·have hL':L≠ []:=fun h=>hL (by rw [h];rfl);obtain ⟨b,off,e1,hb,hx⟩:=hr hL';refine ⟨b,off,e1,rfl,hb,fun j y hj=> ?_⟩;rw [List.getElem?_map] at hj;cases hz:L[j]? with
  | none=>rw [hz] at hj;cases hj
  | some z=>
   rw [hz] at hj;cases hj;obtain ⟨g1,g2,_⟩:=hg z (List.mem_of_getElem? hz);exact ⟨z.2.1,z.2.2,hx j z hz,g1,g2⟩
 ·obtain ⟨z,hz,rfl⟩:=List.mem_map.1 hy;exact (hg z hz).2.2 s hs
end
end Go.Proofs.YtlcojhddnpmgmaaGreat
