/- Part of the proof; the last text says what is proved. -/
import Derived.Test.YtlcojhddnpmgmaaGreatW23
set_option linter.unusedSimpArgs false
set_option linter.unusedVariables false
set_option maxRecDepth 100000
set_option maxHeartbeats 3200000
namespace Go.Proofs.YtlcojhddnpmgmaaGreat
open Go.RowKit
theorem penPut_go {a ys:List UInt8} (h:a.length+ys.length≤65536):penPut (a,0) ys=(a++ys,0):=by
 unfold penPut;rw [if_neg (by simp),if_neg (by dsimp only;omega)]
theorem penNum_go {a:List UInt8} {x:Int} {wd:Nat} (hx:0≤x∧x<2 ^ (8*wd)) (h:a.length+wd≤65536):penNum (a,0) x wd=(a++numB wd x.toNat,0):=by
 unfold penNum;rw [if_pos hx,penPut_go (by rw [numB_length];exact h)]
theorem penRaw_go {a ys:List UInt8} (h:a.length+2+ys.length≤65536) (hl:ys.length≤65535):penRaw (a,0) ys=(a++(numB 2 ys.length++ys),0):=by
 unfold penRaw;rw [if_neg (by omega),penPut_go (by rw [List.length_append,numB_length];omega)]
theorem entB_len (x:Ent):(entB x).length=x.1.data.toList.length+5:=by
 unfold entB;simp [numB_length];omega
theorem penEnt_go {a:List UInt8} {x:Ent} (hx:entOk x) (h:a.length+(entB x).length≤65536):penEnt (a,0) x=(a++entB x,0):=by
 obtain ⟨h1,h2,h3⟩:=hx;rw [entB_len] at h;unfold penEnt;rw [penRaw_go (by omega) h1,penNum_go ⟨h2,by simpa using h3⟩ (by simp only [List.length_append,numB_length];omega),penPut_go (by simp only [List.length_append,numB_length,List.length_cons,List.length_nil];omega)];simp [entB,bitB]
theorem penEnts_go:∀(es:List Ent) (a:List UInt8),(∀x∈es,entOk x)→a.length+(es.flatMap entB).length≤65536→es.foldl penEnt (a,0)=(a++es.flatMap entB,0)
 | [],a,_,_=>by simp
 | x::r,a,hx,h=>by
  rw [List.flatMap_cons,List.length_append] at h;rw [List.foldl_cons,penEnt_go (hx x (by simp)) (by omega),penEnts_go r _ (fun y hy=>hx y (by simp [hy])) (by rw [List.length_append];omega),List.flatMap_cons,List.append_assoc]
theorem RepS.ok_of {r:RepS} (h:r.Fits) (hes:r.es.length≤4000) (hs:∀x∈r.es,x.1.size≤1000000) (hl:14+(r.es.flatMap entB).length+r.map.length≤65536):r.ok:=by
 obtain ⟨h1,h2,h3,h4,h5,h6,h7⟩:=h;refine ⟨?_,hes,hs⟩;unfold penRep penHead;rw [penNum_go (wd:=1) (by simpa using h1) (by simp),penNum_go (wd:=2) (by simpa using h2) (by simp [numB_length]),penNum_go (wd:=2) (by simpa using h3) (by simp [numB_length]),penNum_go (wd:=1) (by simpa using h4) (by simp [numB_length]),penNum_go (wd:=3) (by simpa using h5) (by simp [numB_length]),
  penPut_go (by simp [numB_length]),penNum_go (wd:=2) ⟨by omega,by simp;omega⟩ (by simp [numB_length]),penEnts_go _ _ h6 (by simp only [List.length_append,numB_length,List.length_cons,List.length_nil];omega),penRaw_go (by simp only [List.length_append,numB_length,List.length_cons,List.length_nil];omega) h7]
theorem RepS.ok.len {r:RepS} (h:r.ok):r.bytes.length≤65536+65537:=by
 obtain ⟨_,e⟩:=h.raw;have h0:=h.1;unfold RepS.bytes penRep at*;obtain ⟨h1,h2,e1⟩:=penRaw_ok h0;rw [e1];simp only [List.length_append,numB_length];obtain ⟨h3,h4,e2⟩:=penEnts_ok h1;have:∀ {s:PenS} {ys:List UInt8},(penPut s ys).2=0→s.2=0→(penPut s ys).1.length≤65536:=by
  intro s ys hp hs;unfold penPut at*;rw [if_neg (by simp [hs])] at*;split at hp
  ·cases hp
  ·rename_i hn
   rw [if_neg hn];simp only [List.length_append];omega
 have h8:(penRaw (r.es.foldl penEnt (penHead ([],0) r)) r.map).1.length≤65536:=by
  have e5:penRaw (r.es.foldl penEnt (penHead ([],0) r)) r.map=penPut (r.es.foldl penEnt (penHead ([],0) r)) (numB 2 r.map.length++r.map):=by
   unfold penRaw;rw [if_neg (by omega)]
  rw [e5];exact this (by rw [← e5];exact h0) h1
 rw [e1] at h8;simp only [List.length_append,numB_length] at h8;omega
theorem ptB_go {a:List UInt8} {x:Pt} (hx:mayPt x) (h:a.length+11≤65536):∃ys,penPtr (a,0) x=(a++ys,0)∧ys.length=11:=by
 have hb:(0≤x.c∧x.c<256)∧(0≤x.l∧x.l<16777216)∧(0≤x.n∧x.n<4294967296)∧(0≤x.a∧x.a<65536)∧(0≤x.z∧x.z<256):=by
  rcases hx with rfl|hx
  ·simp [noPt]
  ·omega
 obtain ⟨h1,h2,h3,h4,h5⟩:=hb;unfold penPtr;rw [penNum_go (wd:=1) (by simpa using h1) (by omega),penNum_go (wd:=3) (by simpa using h2) (by simp only [List.length_append,numB_length];omega),penNum_go (wd:=4) (by simpa using h3) (by simp only [List.length_append,numB_length];omega),
  penNum_go (wd:=2) (by simpa using h4) (by simp only [List.length_append,numB_length];omega),penNum_go (wd:=1) (by simpa using h5) (by simp only [List.length_append,numB_length];omega)]
 exact ⟨_,by simp only [List.append_assoc];rfl,by simp [numB_length]⟩
theorem ptsB_go:∀(l:List Pt) (a:List UInt8),(∀x∈l,mayPt x)→a.length+11*l.length≤65536→∃ys,l.foldl penPtr (a,0)=(a++ys,0)∧ys.length=11*l.length
 | [],a,_,_=>⟨[],by simp,rfl⟩
 | x::r,a,hx,h=>by
  rw [List.length_cons] at h;obtain ⟨y1,e1,n1⟩:=ptB_go (hx x (by simp)) (a:=a) (by omega);obtain ⟨y2,e2,n2⟩:=ptsB_go r (a++y1) (fun y hy=>hx y (by simp [hy])) (by rw [List.length_append];omega);exact ⟨y1++y2,by rw [List.foldl_cons,e1,e2,List.append_assoc],by rw [List.length_append,List.length_cons];omega⟩
theorem map_fits {m:FMap} (hl:MapLen m) (hp:∀x∈m.l,mayPt x):MapFits m∧(mapB m).length≤1000:=by
 obtain ⟨h1,h2⟩:=hl;have hb:m.l.length≤64:=by rw [h2];unfold blocksN;omega
 obtain ⟨ys,e,n⟩:=ptsB_go m.l (([]:List UInt8)++numB 2 (m.size:Int).toNat) hp (by simp only [List.length_append,numB_length,List.length_nil];omega);have e0:penMap ([],0) m=(([]:List UInt8)++numB 2 (m.size:Int).toNat++ys,0):=by
  unfold penMap;rw [penNum_go (wd:=2) ⟨by omega,by simp;omega⟩ (by simp),e]
 unfold MapFits mapB;rw [e0];refine ⟨⟨rfl,?_⟩,?_⟩
 ·intro h;have:=congrArg List.length h;simp only [List.length_append,numB_length,List.length_nil] at this;omega
 ·simp only [List.length_append,numB_length,List.length_nil];omega
theorem plain_ok {e i z h s:Int} {d:Bool} (he:0≤e∧e<256) (hi:0≤i∧i<65536) (hz:0≤z∧z<65536) (hh:0≤h∧h<256) (hs:0≤s∧s<16777216):RepS.ok ⟨e,i,z,h,s,d, [], []⟩:=
 RepS.ok_of ⟨he,hi,hz,hh,hs,by simp,by simp⟩ (by simp) (by simp) (by simp)
theorem mapRep_ok {i:Nat} {m:FMap} {h s:Int} (hi:i≤128) (hl:MapLen m) (hp:∀x∈m.l,mayPt x) (hh:0≤h∧h<256) (hs:0≤s∧s<16777216):RepS.ok {mapRep i m h with swaps:=s}:=by
 have hb:=(map_fits hl hp).2;have hm:=hl.1;refine RepS.ok_of ⟨by simp [mapRep],by simp only [mapRep];omega,by simp only [mapRep];omega,by simpa only [mapRep] using hh,hs,by simp [mapRep],by simp only [mapRep];omega⟩ (by simp [mapRep]) (by simp [mapRep]) ?_;simp only [mapRep,List.flatMap_nil,List.length_nil];omega
theorem kid_lt (T:Tree) (d:Nat) (s:List UInt8):(kid T d s).getD 0<129:=by
 cases h:kid T d s with
 | none=>simp
 | some k=>
  unfold kid at h;have:=List.mem_of_find?_eq_some h;simpa using this
theorem flatMap_most {α:Type} (f:α→List UInt8) (m:Nat):∀l:List α,(∀x∈l,(f x).length≤m)→(l.flatMap f).length≤m*l.length
 | [],_=>by simp
 | x::r,h=>by
  have h1:=h x (by simp);have h2:=flatMap_most f m r (fun y hy=>h y (by simp [hy]));rw [List.flatMap_cons,List.length_append,List.length_cons,Nat.mul_succ];omega
theorem ents_ok {T:Tree} (ht:TreeOk T) (d:Nat):(entsOf T d).length≤129∧∀x∈entsOf T d,entOk x∧x.1.data.toList.length≤12:=by
 constructor
 ·unfold entsOf;rw [List.length_map,List.length_mergeSort];unfold dirNames;exact Nat.le_trans (List.length_filterMap_le _ _) (by simp)
 ·intro x hx;unfold entsOf at hx;obtain ⟨s,hs,rfl⟩:=List.mem_map.1 hx;have hs:=List.mem_mergeSort.1 hs;unfold dirNames at hs;obtain ⟨k,_,hk⟩:=List.mem_filterMap.1 hs;have hn:s.data.toList.length≤12:=by
   cases hT:T k with
   | none=>rw [hT] at hk;cases hk
   | some y=>
    rw [hT] at hk;dsimp only at hk;split at hk
    ·cases hk;rw [ba_list];by_cases h1:k=1
     ·subst h1;rw [ht.root] at hT;cases hT;simp
     ·have:=ht.name k y hT h1;unfold okName at this;simp only [Bool.and_eq_true,decide_eq_true_eq] at this;exact this.1.1.1.1.2
    ·cases hk
  have hkid:=kid_lt T d s.data.toList;exact ⟨⟨by unfold entOf;dsimp only;omega,by unfold entOf;dsimp only;omega,by unfold entOf;dsimp only;omega⟩,hn⟩
theorem listRep_ok {T:Tree} (ht:TreeOk T) (l:List UInt8) {s:Int} (hs:0≤s∧s<16777216):RepS.ok ⟨0,0,0,0,s,false,(listOf T l).2, []⟩:=by
 have hL:(listOf T l).2.length≤129∧∀x∈(listOf T l).2,entOk x∧x.1.data.toList.length≤12:=by
  unfold listOf;split
  ·simp
  ·split
   ·simp
   ·exact ents_ok ht _
 obtain ⟨h1,h2⟩:=hL;have h3:=flatMap_most entB 17 (listOf T l).2 (fun x hx=>by rw [entB_len];have:=(h2 x hx).2;omega);exact RepS.ok_of ⟨by dsimp only;omega,by dsimp only;omega,by dsimp only;omega,by dsimp only;omega,hs,fun x hx=>(h2 x hx).1,by dsimp only [List.length_nil];omega⟩ (by dsimp only;omega) (fun x hx=>by
  have:=(h2 x hx).2;have e:x.1.size=x.1.data.toList.length:=by rw [Array.length_toList];rfl
  rw [e];omega) (by simp only [List.length_nil];omega)
theorem Tryz.size61:(Tryz.prog.info? 61).map (·.size)=some 14:=by kernel_rfl
def Zero (w:World) (o:Nat→Nat) (b:Nat) (x:Obj):Prop:=w.heap[b]? =some x∧o b=0
theorem Zero.step {C:Nat→Prop} {w w':World} {o o':Nat→Nat} {b:Nat} {x:Obj} (h:Zero w o b x) (s:Step C w o w' o') (hc:¬C 0):Zero w' o' b x:=
 ⟨s.fr.block_of h.1 (by rw [h.2];exact hc),(s.old b (lt_of_block h.1)).trans h.2⟩
theorem Zero.no {w w':World} {o:Nat→Nat} {b:Nat} {x:Obj} (h:Zero w o b x) (f:Fr No w w'):Zero w' o b x:=⟨f.block_of h.1 id,h.2⟩
theorem sizes_small (S:St) (nx c l:Int):∀(st:List Sz) (m m':Stp→Option Int),sizesOf S nx c l st m=some m'→(∀y e,m y=some e→1≤e∧e≤6000)→∀y e,m' y=some e→1≤e∧e≤6000
 | [],m,m',h,hm=>by
  unfold sizesOf at h;cases h;exact hm
 | x::r,m,m',h,hm=>by
  unfold sizesOf at h;split at h
  ·rename_i hx
   obtain ⟨_,_,_,_,_,_,h1,h2⟩:=hx;refine sizes_small S nx c l r _ m' h (fun y e hy=> ?_);split at hy
   ·cases hy;exact ⟨h1,h2⟩
   ·exact hm y e hy
  ·cases h
theorem stripes_small (S:St) (sw nx:Int) (st:List Sz) (c l:Int) (y:Stp) (e:Int) (h:(stripesE S sw nx st c l).2 y=some e):1≤e∧e≤6000:=by
 unfold stripesE at h;split at h
 ·cases h
 ·split at h
  ·cases h
  ·split at h
   ·cases h
   ·rename_i m hm
    exact sizes_small S nx c l st _ m hm (fun _ _ h=>by cases h) y e h
theorem pt_if {α:Type} (x:Pt) (a b:α):(if x.c=0 then if x.l=0 then if x.n=0 then if x.a=0 then if x.z=0 then a else b else b else b else b else b)=if x=noPt then a else b:=by
 obtain ⟨c,l,n,a',z⟩:=x;dsimp only;by_cases h:(⟨c,l,n,a',z⟩:Pt)=noPt
 ·rw [if_pos h];cases h;rfl
 ·rw [if_neg h];by_cases h1:c=0
  ·by_cases h2:l=0
   ·by_cases h3:n=0
    ·by_cases h4:a'=0
     ·by_cases h5:z=0
      ·exact absurd (by rw [h1,h2,h3,h4,h5];rfl) h
      ·rw [if_pos h1,if_pos h2,if_pos h3,if_pos h4,if_neg h5]
     ·rw [if_pos h1,if_pos h2,if_pos h3,if_neg h4]
    ·rw [if_pos h1,if_pos h2,if_neg h3]
   ·rw [if_pos h1,if_neg h2]
  ·rw [if_neg h1]
theorem FilesAt.turn {w:World} {o:Nat→Nat} {K fl n:Nat} {F:Nat→Option FMap} (h:FilesAt w o K fl n F) (hk:∀i m,F i=some m→1≤i∧i≤128∧MapLen m) {i:Nat} {m:FMap} (hi:F i=some m):
  ∃p,(∀w',Fr No w w'→(Instr.lookup 100 (.map (some fl)) (.int .i64 i) false).run Tryz.prog w'=.ok (.pointer (some ⟨p,0,none⟩)) w')∧FileAt w o K i p m∧
   ∀w' o' m',Step (fileC K i) w o w' o'→FileAt w' o' K i p m'→FilesAt w' o' K fl n (updF F i (some m')):=by
 obtain ⟨h1,fp,c,h2,h3,h4⟩:=h;have hb:=hk i m hi;refine ⟨fp i,fun w' f=> ?_,h4 i m hi,fun w' o' m' s t=> ?_⟩
 ·have:=(h3.fr f id).look (i:Int) (show I64 _ by unfold I64;omega) (t:=100) (e:=63) Tryz.underlying100 (z:=.pointer none) (by kernel_rfl) false;have e:filem F fp (i:Int)=some (fp i):=by unfold filem;rw [if_pos (by omega),Int.toNat_natCast,hi];rfl
  rw [e] at this;exact this
 ·obtain ⟨e1,e2⟩:=h3.step s (by rw [h1];unfold fileC;omega);refine ⟨e2.trans h1,fp,c,h2,?_,fun j y hj=> ?_⟩
  ·have e:filem (updF F i (some m')) fp=filem F fp:=by
    funext z;unfold filem updF;by_cases hz:0≤z
    ·rw [if_pos hz,if_pos hz];by_cases hzi:z.toNat=i
     ·rw [if_pos hzi,hzi,hi];rfl
     ·rw [if_neg hzi]
    ·rw [if_neg hz,if_neg hz]
   rw [e];exact e1
  ·unfold updF at hj;by_cases hji:j=i
   ·rw [if_pos hji] at hj;cases hj;rw [hji];exact t
   ·rw [if_neg hji] at hj;have hbj:=hk j y hj;exact (h4 j y hj).step s (by unfold fileC;omega) (by unfold fileC;omega)
theorem StateAt.newFile {w w':World} {o o':Nat→Nat} {K n i:Nat} {L:Plc} {S:St} {F':Nat→Option FMap} (h:StateAt w o K L S n) (hi:i≤128) (ok:StOk S) (s:Step (fileC K i) w o w' o') (t:FilesAt w' o' K L.fl n F'):StateAt w' o' K L {S with F:=F'} n where
 own:=(s.own h.cs).trans h.own
 cs:=s.block h.cs (by rw [h.own];unfold fileC;omega)
 win:=h.win.step s (by unfold fileC;omega) (by unfold fileC;omega)
 tree:=h.tree.step ok.tree s (fun c e=>by unfold treeC at e;unfold fileC;omega)
 tok:=h.tok.step s (by unfold fileC;omega) (by unfold fileC;omega)
 files:=t
 uses:=h.uses.step s (by unfold fileC;omega)
theorem updF_id {F:Nat→Option FMap} {i:Nat} {m:FMap} (h:F i=some m):updF F i (some m)=F:=by
 funext j;unfold updF;split
 ·rename_i e
  rw [e,h]
 ·rfl
theorem updF_upd (F:Nat→Option FMap) (i:Nat) (x y:Option FMap):updF (updF F i x) i y=updF F i y:=by
 funext j;unfold updF;split<;>rfl
theorem results54_ (tmps:Array Value) (w:World) (g:Nat) (cs:Array Value) (fr:Nat×Nat) (v3:Value) (hp:tmps.getD 2 undef=.pointer (some ⟨g,0,none⟩)) (h3:tmps.getD 3 undef=v3)
  (hg:w.heap[g]? =some (.cells cs 29 fr)) (hc:cs.size=8):(results Tryz.f54 tmps).run Tryz.prog w=.ok (.tuple #[.agg cs,v3]) w:=by
 have hl:=run_loadVar_row (P:=Tryz.prog) w g 29 29 cs fr _ hg Tryz.underlying29 rfl (by rw [Tryz.size29,hc]);have h2':tmps[2]?.getD undef=.pointer (some ⟨g,0,none⟩):=by simpa using hp
 have h3':tmps[3]?.getD undef=v3:=by simpa using h3
 simp [results,Tryz.results54,asAddr,h2',h3',hl]
theorem EsB.fr {S:Nat→Prop} {w w':World} {B:Nat} {v:Value} {es:List Ent} (h:EsB w B v es) (f:Fr S w w') (hS:∀k,S k→(∃cs fz,w.heap[k]? =some (.cells cs 86 fz))→False):EsB w' B v es:=by
 rcases h with h|⟨b,off,c,e,h1,hb,h2,⟨cs,fz,h3⟩,h4⟩
 ·exact .inl h
 ·have hn:¬S b:=fun hs=>hS b hs ⟨cs,fz,h3⟩;exact .inr ⟨b,off,c,e,h1,hb,Nat.lt_of_lt_of_le h2 f.size,⟨cs,fz,f.block_of h3 hn⟩,fun j x hj i u hi=>f.cell_of (h4 j x hj i u hi) hn⟩
theorem BsB.fr {S:Nat→Prop} {w w':World} {B:Nat} {v:Value} {ys:List UInt8} (h:BsB w B v ys) (f:Fr S w w') (hS:∀k,S k→B≤k):BsB w' B v ys:=by
 rcases h with h|⟨b,off,c,⟨e,h1,h2,h3⟩,hb⟩
 ·exact .inl h
 ·exact .inr ⟨b,off,c,⟨e,h1,Nat.lt_of_lt_of_le h2 f.size,fun j x hj=>f.cell_of (h3 j x hj) (fun hs=>by have:=hS _ hs;dsimp only at this;omega)⟩,hb⟩
theorem BsB.shape {w:World} {B:Nat} {v:Value} {ys:List UInt8} (h:BsB w B v ys):∃a l c,v=.slice a l c:=by
 rcases h with ⟨h,_⟩|⟨b,off,c,⟨e,_⟩,_⟩
 ·exact ⟨_,_,_,h⟩
 ·exact ⟨_,_,_,e⟩
theorem bs25 {w w':World} {B g:Nat} {v:Value} {ys:List UInt8} {x:Int} {fz:Nat×Nat} (h:BsB w B v ys) (f:Fr (fun k=>k=g) w w') (hg:w.heap[g]? =some (.cells #[.int .i64 x] 25 fz)):BsB w' B v ys:=by
 rcases h with h|⟨b,off,c,⟨e,h1,h2,h3⟩,hb⟩
 ·exact .inl h
 ·by_cases hy:ys= []
  ·subst hy;exact .inr ⟨b,off,c,⟨e,h1,Nat.lt_of_lt_of_le h2 f.size,fun j x hj=>by simp at hj⟩,hb⟩
  ·refine .inr ⟨b,off,c,⟨e,h1,Nat.lt_of_lt_of_le h2 f.size,fun j y hj=>f.cell_of (h3 j y hj) ?_⟩,hb⟩;dsimp only;rintro rfl;have:=h3 j y hj;rw [cell_at hg] at this;rcases hk:off+j with _|n
   ·rw [hk] at this;simp at this
   ·rw [hk] at this;simp at this
theorem bs29 {w w':World} {B g:Nat} {v:Value} {ys:List UInt8} {fz:Nat×Nat} (h:BsB w B v ys) (f:Fr (fun k=>k=g) w w') (hg:w.heap[g]? =some (.cells #[.int .i64 0,.int .i64 0,.int .i64 0,.int .i64 0,.int .i64 0,.bool false,.slice none 0 0,.slice none 0 0] 29 fz)):BsB w' B v ys:=by
 rcases h with h|⟨b,off,c,⟨e,h1,h2,h3⟩,hb⟩
 ·exact .inl h
 ·refine .inr ⟨b,off,c,⟨e,h1,Nat.lt_of_lt_of_le h2 f.size,fun j y hj=>f.cell_of (h3 j y hj) ?_⟩,hb⟩;dsimp only;rintro rfl;have:=h3 j y hj;rw [cell_at hg] at this;rcases hk:off+j with _|_|_|_|_|_|_|_|n<;>rw [hk] at this<;>simp at this
def Red (rb:Nat) (r:RepS) (w w':World):Prop:=∃ev mv B,B≤w'.heap.size∧EsB w' B ev r.es∧BsB w' B mv r.map∧w'.heap[rb]? =some (.cells (r.cells ev mv) 29 (0,0))∧Fr (fun k=>k=rb) w w'∧Low w.heap.size ev∧Low w.heap.size mv
def zeroRep:Array Value:= #[.int .i64 0,.int .i64 0,.int .i64 0,.int .i64 0,.int .i64 0,.bool false,.slice none 0 0,.slice none 0 0]
theorem gread1_ (p q rb:Nat) (v:Value) (r:RepS) (hok:r.ok) (h18:r.e≤18) (b off c:Nat) (w:World) (hp:w.heap[p]? =some (.cells #[v] 27 (0,0))) (hq:w.heap[q]? =some (.cells #[.func (Fn.func 103) #[] #[.pointer (some ⟨rb,0,none⟩)]] 172 (0,0)))
  (hr:w.heap[rb]? =some (.cells zeroRep 29 (0,0))) (h:SlIs w v r.bytes b off c) (hlen:r.bytes.length≤1000000):
  Calls Tryz.prog 150 #[.pointer (some ⟨p,0,none⟩),.pointer (some ⟨q,0,none⟩)] w fun x w'=>x=.returned (.tuple #[])∧Red rb r w w':=by
 have c1:w.cell? ⟨p,0,none⟩=some v:=by rw [cell_at hp];rfl
 have c2:w.cell? ⟨q,0,none⟩=some (.func (Fn.func 103) #[] #[.pointer (some ⟨rb,0,none⟩)]):=by rw [cell_at hq];rfl
 have hrb:=lt_of_block hr;have HR:=lH hr;have HN:=lH (neweye_ v r.bytes b off c w h hlen);obtain ⟨hfit,hraw⟩:=hok.raw;have FIT:=lH hfit;have RAW:=lH hraw;have OK:=lH hok;have H18:=lH h18;clear hp hq hr h hfit hraw hok h18;go_enter Tryz.func150,Tryz.ntmps150;go_wp2_with fail;refine HN.out.mono ?_;rintro x w1 ⟨e,b1,c1',rfl,e1,s1,hbe,hle,hlb,f1⟩;have c2':=f1.cell_of c2 id;have er1:Er w1 e b1 r.bytes:=⟨0,c1',e1,s1.2.1,hbe,s1.2.2.1,s1.2.2.2⟩
 obtain ⟨en,hen⟩:∃n:Nat,r.e=n:=⟨r.e.toNat,by have:=FIT.out.e;omega⟩
 obtain ⟨io,hio⟩:∃n:Nat,r.ino=n:=⟨r.ino.toNat,by have:=FIT.out.ino;omega⟩
 obtain ⟨sz,hsz⟩:∃n:Nat,r.size=n:=⟨r.size.toNat,by have:=FIT.out.size;omega⟩
 obtain ⟨hd,hhd⟩:∃n:Nat,r.handle=n:=⟨r.handle.toNat,by have:=FIT.out.handle;omega⟩
 obtain ⟨sw,hsw⟩:∃n:Nat,r.swaps=n:=⟨r.swaps.toNat,by have:=FIT.out.swaps;omega⟩
 have hb:r.bytes=numB 1 en++(numB 2 io++(numB 2 sz++(numB 1 hd++(numB 3 sw++(bitB r.dir::(numB 2 r.es.length++(r.es.flatMap entB++(numB 2 r.map.length++r.map)))))))):=by
  rw [RAW.out,RepS.rawB,RepS.tailB,hen,hio,hsz,hhd,hsw];simp
 rw [hb] at er1;have HS:=lH (grsteps_ e b1 rb en io sz hd sw r.dir r.es r.map (by have:=H18.out;omega) (by have:=FIT.out.ino;omega) (by have:=FIT.out.size;omega) (by have:=FIT.out.handle;omega) (by have:=FIT.out.swaps;omega) OK.out.2.1 FIT.out.es FIT.out.map w1 ⟨er1,f1.block_of HR.out id,by omega,by omega,Fr.refl _⟩);have F1:=lH f1;clear c1 e1 s1 f1 er1 c2 hb;go_wp2_with fail;refine HS.out.mono ?_;rintro x w2 ⟨rfl,ev,mv,B,hB,he,hm,g2,k2,f2,lw1,lw2⟩;have LW:=lH (And.intro (lw1.le F1.out.size) (lw2.le F1.out.size));clear lw1 lw2;have HE:=lH he;have HM:=lH hm;have K2:=lH k2;have F2:=lH ((F1.out.of_no (S:=fun k=>k=rb)).trans f2 (fun j hj h=>by rcases h with h|h;omega;exact h));obtain ⟨o2,c2,g2,_⟩:=g2;have G2:=lH g2;clear he hm k2 f2 g2 HS;go_wp2_with fail;refine (eend_ e b1 o2 c2 w2 G2.out).mono ?_;rintro x w3 ⟨rfl,f3⟩;have F3:=lH f3;clear f3;go_wp2_with fail;refine (eend_ e b1 o2 c2 w3 (F3.out.block_of G2.out id)).mono ?_;rintro x w4 ⟨rfl,f4⟩;have F4:Hid (Fr No w2 w4):=lH (F3.out.trans f4 (fun _ _ e=>e));clear f4;go_wp2_with fail;refine (nmust_yes 0 w4).mono ?_;rintro x w5 ⟨rfl,rfl⟩;go_wp2_with fail;have hcs:r.cells ev mv= #[.int .i64 en,.int .i64 io,.int .i64 sz,.int .i64 hd,.int .i64 sw,.bool r.dir,ev,mv]:=by rw [RepS.cells,hen,hio,hsz,hhd,hsw]
 exact bodyPost_end (v:=.tuple #[]) (by simp [results,Tryz.results150,go_sem]) rfl ⟨rfl,ev,mv,B,Nat.le_trans hB F4.out.size,HE.out.no F4.out,HM.out.no F4.out,by rw [hcs];exact F4.out.block_of K2.out id,F2.out.trans F4.out (fun _ _ e=>e.elim),LW.out⟩
theorem gread_ (rb:Nat) (v:Value) (r:RepS) (hok:r.ok) (h18:r.e≤18) (hlen:r.bytes.length≤1000000) (b off c:Nat) (w:World) (h:SlIs w v r.bytes b off c) (hr:w.heap[rb]? =some (.cells zeroRep 29 (0,0))):
  Calls Tryz.prog 102 #[v,.func (Fn.func 103) #[] #[.pointer (some ⟨rb,0,none⟩)]] w fun x w'=>x=.returned (.int .i64 0)∧Red rb r w w':=by
 have hmf:∀(fn:Fn) (first cap:Array Value) (w:World),(Instr.makeFunc fn first cap).run Tryz.prog w=.ok (.func fn first cap) w:=fun _ _ _ _=>rfl;obtain ⟨rfl,sl⟩:=h;generalize hn:r.bytes.length=n at*;have HN:=lH hn;clear hn;have F0:Fr No w ((w.alloc (.cells #[.slice (some ⟨b,off,none⟩) n c] 27)).alloc (.cells #[.func (Fn.func 103) #[] #[.pointer (some ⟨rb,0,none⟩)]] 172)):=((Fr.refl w).alloc _).alloc _;have kp:((w.alloc (.cells #[.slice (some ⟨b,off,none⟩) n c] 27)).alloc (.cells #[.func (Fn.func 103) #[] #[.pointer (some ⟨rb,0,none⟩)]] 172)).heap[w.heap.size]? =some (.cells #[.slice (some ⟨b,off,none⟩) n c] 27 (0,0)):=((Fr.refl (S:=No) _).alloc _).block_of (new_at w _) id;have kq:((w.alloc (.cells #[.slice (some ⟨b,off,none⟩) n c] 27)).alloc (.cells #[.func (Fn.func 103) #[] #[.pointer (some ⟨rb,0,none⟩)]] 172)).heap[w.heap.size+1]? =some (.cells #[.func (Fn.func 103) #[] #[.pointer (some ⟨rb,0,none⟩)]] 172 (0,0)):=by simpa using new_at (w.alloc (.cells #[.slice (some ⟨b,off,none⟩) n c] 27)) (.cells #[.func (Fn.func 103) #[] #[.pointer (some ⟨rb,0,none⟩)]] 172)
 have hrb:=lt_of_block hr;have HR:=lH hr;have SL:=lH sl;have KP:=lH kp;have KQ:=lH kq;have OK:=lH hok;have H18:=lH h18;clear hr sl kp kq hok h18;have hsz:((w.alloc (.cells #[.slice (some ⟨b,off,none⟩) n c] 27)).alloc (.cells #[.func (Fn.func 103) #[] #[.pointer (some ⟨rb,0,none⟩)]] 172)).heap.size=w.heap.size+1+1:=by simp
 have HSZ:=lH hsz;clear hsz;go_enter Tryz.func102,Tryz.ntmps102;go_wp2_with fail;generalize ((w.alloc (.cells #[.slice (some ⟨b,off,none⟩) n c] 27)).alloc (.cells #[.func (Fn.func 103) #[] #[.pointer (some ⟨rb,0,none⟩)]] 172))=w0 at*;have fg:Fr No w0 (w0.alloc (.cells #[.int .i64 0] 25)):=(Fr.refl w0).alloc _;have FG:Fr No w (w0.alloc (.cells #[.int .i64 0] 25)):=F0.trans fg (fun _ _ e=>e);refine (guard150 w.heap.size (w.heap.size+1) (fun w1=>Red rb r (w0.alloc (.cells #[.int .i64 0] 25)) w1) w0 ?_).mono ?_
 ·refine (gread1_ w.heap.size (w.heap.size+1) rb _ r OK.out H18.out b off c _ (fg.block_of KP.out id) (fg.block_of KQ.out id) (FG.block_of HR.out id) ⟨by rw [HN.out],by rw [HN.out];exact SL.out.1,Nat.lt_of_lt_of_le SL.out.2.1 FG.size,fun j y hj=>FG.cell_of (SL.out.2.2 j y hj) id⟩ (by rw [HN.out];exact hlen)).mono ?_;rintro x w1 ⟨rfl,hw⟩;have e0:=HSZ.out;have hw2:=hw;obtain ⟨ev,mv,B,hB,he,hm,k1,f1,_⟩:=hw2;exact ⟨rfl,hw,f1.block_of (new_at w0 _) (by omega)⟩
 ·rintro x w2 ⟨rfl,w1,⟨ev,mv,B,hB,he,hm,k1,f1,lw1,lw2⟩,f2⟩;have e0:=HSZ.out;have k2:=f2.block_of k1 (by omega);have FX:Fr (fun k=>k=rb) w w2:=((FG.of_no (S:=fun k=>k=rb)).trans f1 (fun j hj e=>e)).trans f2 (fun j hj e=>by omega);have kz:=f1.block_of (new_at w0 (.cells #[.int .i64 0] 25)) (by omega);have WX:Hid (Red rb r w w2):=lH ⟨ev,mv,B,Nat.le_trans hB f2.size,he.fr f2 (fun k hk ⟨cs,fz,h⟩=>by subst hk;rw [kz] at h;simp at h),bs25 hm f2 kz,k2,FX,lw1.le FG.size,lw2.le FG.size⟩;clear he hm k1 f1 f2 k2 kz;go_wp2_with fail
  go_ret
  exact ⟨rfl,WX.out⟩
theorem gdecode_ (v:Value) (r:RepS) (hok:r.ok) (h18:r.e≤18) (hlen:r.bytes.length≤1000000) (b off c:Nat) (w:World) (h:SlIs w v r.bytes b off c):
  Calls Tryz.prog 54 #[v] w fun x w'=>∃ev mv,x=.returned (.tuple #[.agg (r.cells ev mv),.int .i64 0])∧EsB w' w'.heap.size ev r.es∧BsB w' w'.heap.size mv r.map∧Fr No w w'∧Low w.heap.size ev∧Low w.heap.size mv:=by
 have hmf:∀(fn:Fn) (first cap:Array Value) (w:World),(Instr.makeFunc fn first cap).run Tryz.prog w=.ok (.func fn first cap) w:=fun _ _ _ _=>rfl;obtain ⟨rfl,sl⟩:=h;have F0:Fr No w ((w.alloc (.cells zeroRep 29)).alloc (.cells zeroRep 29)):=((Fr.refl w).alloc _).alloc _;have k0:((w.alloc (.cells zeroRep 29)).alloc (.cells zeroRep 29)).heap[w.heap.size]? =some (.cells zeroRep 29 (0,0)):=((Fr.refl (S:=No) _).alloc _).block_of (new_at w _) id;have k1:((w.alloc (.cells zeroRep 29)).alloc (.cells zeroRep 29)).heap[w.heap.size+1]? =some (.cells zeroRep 29 (0,0)):=by simpa using new_at (w.alloc (.cells zeroRep 29)) (.cells zeroRep 29)
 have HR:=lH (gread_ (w.heap.size+1) _ r hok h18 hlen b off c _ ⟨rfl,sl.1,Nat.lt_of_lt_of_le sl.2.1 F0.size,fun j y hj=>F0.cell_of (sl.2.2 j y hj) id⟩ k1);have K0:=lH k0;clear k0 k1 sl hok h18 hlen;unfold zeroRep at*;go_enter Tryz.func54,Tryz.ntmps54;go_wp2_with fail;with_reducible refine HR.out.mono ?_
 rintro x w2 ⟨rfl,ev,mv,B,hB,he,hm,k1,f1,lw1,lw2⟩;obtain ⟨ea,el,ec,rfl⟩:=he.shape;obtain ⟨ma,ml,mc,rfl⟩:=hm.shape;have LW:=lH (And.intro (lw1.le F0.size) (lw2.le F0.size));clear lw1 lw2;have HE:=lH he;have HM:=lH hm;unfold RepS.cells at*;have K1:=lH k1;have K2:=lH (f1.block_of K0.out (by omega));have FX:Hid (Fr No w w2):=lH ((F0.of_no.trans f1 (fun _ _ e=>e)).no (fun k hk=>by omega));have HOC:=lH (show (#[.int .i64 r.e,.int .i64 r.ino,.int .i64 r.size,.int .i64 r.handle,.int .i64 r.swaps,.bool r.dir,.slice ea el ec,.slice ma ml mc]:Array Value).all (·.oneCell')=true from by simp [Value.oneCell']);clear he hm k1 f1 HR F0 K0;go_wp2_with (first|(refine wpList_load_row rfl 29 (.tmp 4) rfl (w.heap.size+1) rfl 29 _ (0,0) _ K1.out Tryz.underlying29 rfl Tryz.size29 ?_)|(refine wpList_store_row rfl 29 (.tmp 2) (.tmp 13) rfl w.heap.size #[.int .i64 r.e,.int .i64 r.ino,.int .i64 r.size,.int .i64 r.handle,.int .i64 r.swaps,.bool r.dir,.slice ea el ec,.slice ma ml mc] rfl rfl 29 _ K2.out Tryz.size29 rfl HOC.out ?_));all_goals
  have KF:=setRow_at (cs':= #[.int .i64 r.e,.int .i64 r.ino,.int .i64 r.size,.int .i64 r.handle,.int .i64 r.swaps,.bool r.dir,.slice ea el ec,.slice ma ml mc]) K2.out;have FF:=FX.out.setRow (g:=w.heap.size) (.inr (Nat.le_refl _)) #[.int .i64 r.e,.int .i64 r.ino,.int .i64 r.size,.int .i64 r.handle,.int .i64 r.swaps,.bool r.dir,.slice ea el ec,.slice ma ml mc];have FR:Fr (fun k=>k=w.heap.size) w2 (w2.setRow w.heap.size #[.int .i64 r.e,.int .i64 r.ino,.int .i64 r.size,.int .i64 r.handle,.int .i64 r.swaps,.bool r.dir,.slice ea el ec,.slice ma ml mc]):=Fr.setRow (S:=fun k=>k=w.heap.size) (Fr.refl w2) (.inl rfl) _;have HE2:=(HE.out.fr FR (fun k hk ⟨cs,fz,h⟩=>by subst hk;rw [K2.out] at h;simp at h)).le (Nat.le_trans hB FR.size);have HM2:=(bs29 HM.out FR K2.out).le (Nat.le_trans hB FR.size);generalize w2.setRow w.heap.size #[.int .i64 r.e,.int .i64 r.ino,.int .i64 r.size,.int .i64 r.handle,.int .i64 r.swaps,.bool r.dir,.slice ea el ec,.slice ma ml mc]=w3 at*;exact bodyPost_ret (results54_ _ _ w.heap.size _ (0,0) (.int .i64 0) rfl rfl KF rfl) rfl ⟨_,_,rfl,HE2,HM2,FF,LW.out⟩
def openD (S:St) (r:Req):Int×RepS×St:=
 if (lookOf S.T r.path).1≠0 then ((lookOf S.T r.path).1,noRep,S)
 else if (lookOf S.T r.path).2.2=true then (9,noRep,S)
 else if (openOf S.K r.c (lookOf S.T r.path).2.1 r.wr).1≠0 then ((openOf S.K r.c (lookOf S.T r.path).2.1 r.wr).1,noRep,S)
 else (0,mapRep (lookOf S.T r.path).2.1 ((S.F (lookOf S.T r.path).2.1).getD noFile) (openOf S.K r.c (lookOf S.T r.path).2.1 r.wr).2.1,{S with K:=(openOf S.K r.c (lookOf S.T r.path).2.1 r.wr).2.2})
theorem open_same {L:List Tok} {c i:Int} {b:Bool} (h:(openOf L c i b).1≠0):(openOf L c i b).2.2=L:=by
 unfold openOf at h ⊢;split
 ·rfl
 ·split
  ·rfl
  ·rename_i h1 h2
   rw [if_neg h1,if_neg h2] at h;exact absurd rfl h
theorem StOk.newToks {S:St} (ok:StOk S) (K':List Tok):StOk {S with K:=K'}:=⟨ok.tree,ok.file⟩
theorem dopen_ (o:Nat→Nat) (K n:Nat) (L:Plc) (S:St) (r:Req) (rv dv:Value) (w:World) (h:StateAt w o K L S n) (ok:StOk S) (fit:StFits S) (hf:Fresh w o) (hl:r.path.length≤1000000) (hc:0≤r.c∧r.c<4):
  Calls Tryz.prog 87 #[.pointer (some ⟨L.s,0,none⟩),.agg (r.cells rv dv)] w (Deed w o K L n (openD S r)):=by
 obtain ⟨f0,k0,k1,H0,G0⟩:=begun h ok hf r rv dv;have F0:=lH f0;have HL:Hid (∀w',Fr No (deedW w r rv dv) w'→Calls Tryz.prog 72 #[.pointer (some ⟨L.tr,0,none⟩),.string (ba r.path)] w' fun e w''=>e=.returned (.tuple #[.int .i64 (lookOf S.T r.path).2.1,.bool (lookOf S.T r.path).2.2,.int .i64 (lookOf S.T r.path).1])∧Fr No w' w''):=
  lH (fun w' f=>glook_ o K L.tr S.T r.path w' hl ((H0.no ok G0 f).tree) ok.tree (Step.no (C:=fun _=>False) G0 f).fresh)
 have HFL:Hid ((lookOf S.T r.path).1=0→(lookOf S.T r.path).2.2=false→2≤(lookOf S.T r.path).2.1∧(lookOf S.T r.path).2.1≤128∧∃m,S.F (lookOf S.T r.path).2.1=some m):=lH (fun h0 h1=>by
  obtain ⟨x,hx,hd⟩:=look_ok ok.tree h0;obtain ⟨m,hm⟩:=fit.dir _ x hx (by rw [hd,h1]);have h2:=ok.tree.lt hx;have h3:(lookOf S.T r.path).2.1≠1:=by
   intro e;rw [e,ok.tree.root] at hx;cases hx;rw [h1] at hd;cases hd
  exact ⟨by omega,h2.2,m,hm⟩)
 have HO:Hid (∀i:Nat,2≤i∧i≤128→∀w',Fr No (deedW w r rv dv) w'→Calls Tryz.prog 136 #[.pointer (some ⟨L.tk,0,none⟩),.int .i64 r.c,.int .i64 i,.bool r.wr] w' (OpenPost w' o K L.tk S.K (openOf S.K r.c i r.wr))):=lH (fun i hi w' f=>
  open_ o K L.tk S.K r.c i r.wr w' ((H0.no ok G0 f).tok) (Step.no (C:=fun _=>False) G0 f).fresh hc (by omega) fit.small fit.few)
 have HS:Hid (∀w' w'' o' K',Fr No (deedW w r rv dv) w'→Step (tokC2 K) w' o w'' o'→TokensAt w'' o' K L.tk K'→StateAt w'' o' K L {S with K:=K'} n):=lH (fun w' w'' o' K' f s t=>(H0.no ok G0 f).newToks ok s t);have HM:Hid (∀(i:Nat) m w' o' K',i≤128→S.F i=some m→StateAt w' o' K L {S with K:=K'} n→Calls Tryz.prog 137 #[.pointer (some ⟨L.s,0,none⟩),.int .i64 i] w' (MappedPost w' i m)):=lH (fun i m w' o' K' hi hm t=>
  mapped_ o' K n L {S with K:=K'} i m w' t (by omega) hm (fit.fit i m hm))
 have HR:Hid ((lookOf S.T r.path).1≠0→∀e w',e=.panicked (refC (lookOf S.T r.path).1)→Fr No w w'→Deed w o K L n (openD S r) e w'):=lH (fun hne e w' he f=>by
  unfold openD;rw [if_pos hne];exact Deed.no h ok hf hne he f)
 have HR2:Hid ((lookOf S.T r.path).1=0→(lookOf S.T r.path).2.2=true→∀e w',e=.panicked (refC 9)→Fr No w w'→Deed w o K L n (openD S r) e w'):=lH (fun h0 h1 e w' he f=>by
  unfold openD;rw [if_neg (by simp [h0]),if_pos h1];exact Deed.no h ok hf (by decide) he f)
 have HR3:Hid ((lookOf S.T r.path).1=0→(lookOf S.T r.path).2.2=false→(openOf S.K r.c (lookOf S.T r.path).2.1 r.wr).1≠0→∀e w' w'' o',e=.panicked (refC (openOf S.K r.c (lookOf S.T r.path).2.1 r.wr).1)→Fr No w w'→Step (tokC2 K) w' o w'' o'→StateAt w'' o' K L {S with K:=(openOf S.K r.c (lookOf S.T r.path).2.1 r.wr).2.2} n→Deed w o K L n (openD S r) e w''):=lH (fun h0 h1 hne e w' w'' o' he f s t=>by
  unfold openD;rw [if_neg (by simp [h0]),if_neg (by simp [h1]),if_pos hne];rw [open_same hne] at t;exact Deed.no' hf f s (fun _ e=>tokC2_state e) t hne he)
 have HQ:Hid ((lookOf S.T r.path).1=0→(lookOf S.T r.path).2.2=false→(openOf S.K r.c (lookOf S.T r.path).2.1 r.wr).1=0→∀m,S.F (lookOf S.T r.path).2.1=some m→∀v b c e w' w'' w3 o',
   e=.returned (.agg #[.int .i64 0,.int .i64 (lookOf S.T r.path).2.1,.int .i64 m.size,.int .i64 (openOf S.K r.c (lookOf S.T r.path).2.1 r.wr).2.1,.int .i64 0,.bool false,.slice none 0 0,v])→Fr No w w'→w.heap.size+1<w'.heap.size→Step (tokC2 K) w' o w'' o'→
   StateAt w'' o' K L {S with K:=(openOf S.K r.c (lookOf S.T r.path).2.1 r.wr).2.2} n→SlIs w3 v (mapB m) b 0 c→w.heap.size≤b→Fr (fun j=>j=w.heap.size+1) w'' w3→Deed w o K L n (openD S r) e w3):=lH (fun h0 h1 h2 m hm v b c e w' w'' w3 o' he f hs s t hv hb g=>by
  unfold openD;rw [if_neg (by simp [h0]),if_neg (by simp [h1]),if_neg (by simp [h2]),hm];dsimp only [Option.getD_some];exact Deed.yes hf f s (fun _ e=>tokC2_state e) (by omega) hs g (ok.newToks _) t he ⟨_,_,rfl,.inl ⟨rfl,rfl⟩,.inr ⟨b,0,c,hv,hv.2.2.1⟩,Low.nil _,Low.at hv.1 hb⟩)
 generalize hQ:Deed w o K L n (openD S r)=Q at*;clear hQ;have NS:Hid (¬tokC2 K (o L.s)):=lH (by rw [h.own];unfold tokC2;omega);have NB:Hid (¬tokC2 K (o w.heap.size)):=lH (by rw [hf _ (Nat.le_refl _)];unfold tokC2;omega);have NR:Hid (¬tokC2 K (o (w.heap.size+1))):=lH (by rw [hf _ (Nat.le_succ _)];unfold tokC2;omega);have HH:=lH H0;have HG:=lH G0;clear H0 G0 f0 h ok hf hl fit hc;generalize lookOf S.T r.path=X at*;obtain ⟨er,i,d⟩:=X;dsimp only at HL HFL HR HR2 HR3 HQ;unfold OpenPost GTok at HO;unfold deedW Req.cells noRep RepS.cells at*;go_enter Tryz.func87,Tryz.ntmps87;go_wp2_with fail;generalize (w.alloc (.cells #[.int .i64 r.c,.int .i64 r.l,.int .i64 r.q,.int .i64 r.kind,.string (ba r.path),.string (ba r.to),.bool r.dir,.bool r.wr,.bool r.cl,.int .i64 r.h,.int .i64 r.nx,.int .i64 r.sw,rv,dv] 36)).alloc (.cells #[.int .i64 0,.int .i64 0,.int .i64 0,.int .i64 0,.int .i64 0,.bool false,.slice none 0 0,.slice none 0 0] 29)=w0 at*;have B1:=lH (lt_of_block k1);generalize hb0:w.heap.size=b0 at*;have c9:w0.cell? ⟨L.s,9,none⟩=some (.pointer (some ⟨L.tr,0,none⟩)):=HH.out.cell 9;have c10:w0.cell? ⟨L.s,10,none⟩=some (.pointer (some ⟨L.tk,0,none⟩)):=HH.out.cell 10;have d0:w0.cell? ⟨b0,0,none⟩=some (.int .i64 r.c):=by rw [cell_at k0];rfl
 have d4:w0.cell? ⟨b0,4,none⟩=some (.string (ba r.path)):=by rw [cell_at k0];rfl
 have d7:w0.cell? ⟨b0,7,none⟩=some (.bool r.wr):=by rw [cell_at k0];rfl
 have K1:=lH k1;have C10:=lH c10;have D0:=lH d0;have D7:=lH d7;clear k0 k1 c10 d0 d7;go_region_held3 (fun w'=>w'.cell? ⟨L.s,9,none⟩=some (.pointer (some ⟨L.tr,0,none⟩))∧w'.cell? ⟨b0,4,none⟩=some (.string (ba r.path))) (first|go_keep|(go_split_ands;refine ⟨?_,?_⟩<;>exact f1.cell_of (by assumption) id))
  ((go_at_call 72;refine (HL.out _ (Fr.refl _).drew).mono ?_;rintro e w1 ⟨rfl,f1⟩))
 have F1:=lH ((Fr.refl w0).drew.trans f1 (fun _ _ e=>e));clear f1 c9 d4;cases hx:(er==0) with
 | false=>
  have hne:er≠0:=by simpa using hx
  go_wp2_with fail;refine (must_no _ _).mono ?_;rintro e w2 ⟨rfl,rfl⟩;go_wp2_with fail;exact ⟨rfl,HR.out hne _ _ rfl (F0.out.trans F1.out (fun _ _ e=>e))⟩
 | true=>
  obtain rfl:er=0:=by simpa using hx
  clear hx;cases d with
  | true=>
   go_wp2_with fail;refine (must_yes _ _).mono ?_;rintro e w2 ⟨rfl,rfl⟩;go_wp2_with fail;refine (must_no _ _).mono ?_;rintro e w2 ⟨rfl,rfl⟩;go_wp2_with fail;exact ⟨rfl,HR2.out trivial trivial _ _ rfl (F0.out.trans F1.out (fun _ _ e=>e))⟩
  | false=>
   obtain ⟨hi2,hi3,m,hm⟩:=HFL.out rfl rfl;have HOi:=lH (HO.out i ⟨hi2,hi3⟩);have HR3':=lH (HR3.out rfl rfl);have HQ':=lH (HQ.out rfl rfl);have HMI:=lH (fun w' o' K'=>HM.out i m w' o' K' hi3 hm);have HMM:=lH hm;clear HR HR2 HR3 HQ hm;clear HO HFL HL;generalize openOf S.K r.c i r.wr=Y at*;obtain ⟨ey,hy,K'⟩:=Y;dsimp only at HOi HR3' HQ';go_wp2_with fail;refine (must_yes _ _).mono ?_;rintro e w2 ⟨rfl,rfl⟩;go_wp2_with fail;refine (must_yes _ _).mono ?_;rintro e w2 ⟨rfl,rfl⟩;go_wp2_with fail;have c10:w2.cell? ⟨L.s,10,none⟩=some (.pointer (some ⟨L.tk,0,none⟩)):=F1.out.cell_of C10.out id;have d0:w2.cell? ⟨b0,0,none⟩=some (.int .i64 r.c):=F1.out.cell_of D0.out id;have d7:w2.cell? ⟨b0,7,none⟩=some (.bool r.wr):=F1.out.cell_of D7.out id;have FD:=lH (F1.out.trans (Fr.refl w2).drew (fun _ _ e=>e));go_region_held3 (fun w'=>w'.cell? ⟨L.s,10,none⟩=some (.pointer (some ⟨L.tk,0,none⟩))∧w'.cell? ⟨b0,0,none⟩=some (.int .i64 r.c)∧w'.cell? ⟨b0,7,none⟩=some (.bool r.wr)) (first|go_keep|(go_split_ands;refine ⟨?_,?_,?_⟩<;>exact s3.fr.cell_of (by assumption) (by first|exact NS.out|exact NB.out)))
    ((go_at_call 136;refine (HOi.out _ FD.out).mono ?_;rintro e w3 ⟨rfl,o',s3,t3⟩))
   have ST3:=lH (HS.out _ _ _ _ FD.out s3 t3);have S3:=lH s3;have FF:=lH (F0.out.trans FD.out (fun _ _ e=>e));have SZ:Hid (b0+1<w2.drew.heap.size):=lH (by have:=FD.out.size;have:=B1.out;omega);have K3:=lH (s3.fr.block_of (FD.out.block_of K1.out id) NR.out);clear s3 t3 c10 d0 d7;cases hx:(ey==0) with
   | false=>
    have hne:ey≠0:=(by simpa using hx)
    have HX:=lH (HR3'.out hne _ _ _ _ rfl FF.out S3.out ST3.out);go_wp2_with fail;refine (must_no _ _).mono ?_;rintro e w4 ⟨rfl,rfl⟩;go_wp2_with fail;exact ⟨rfl,HX.out⟩
   | true=>
    obtain rfl:ey=0:=(by simpa using hx)
    clear hx;have HCC:=lH (HMI.out _ _ _ ST3.out);go_wp2_with fail;refine (must_yes _ _).mono ?_;rintro e w4 ⟨rfl,rfl⟩;go_wp2_with fail;refine HCC.out.mono ?_;rintro e w5 ⟨v,b,c,rfl,f5,sl,hb⟩;obtain rfl:=sl.1;have F5:=lH f5;have K5:=lH (f5.block_of K3.out id);have SL:=lH sl;have HBB:Hid (b0+1<b):=lH (by have:=S3.out.fr.size;have:=SZ.out;omega);have F6:=lH ((f5.alloc (.cells #[.int .i64 0,.int .i64 i,.int .i64 m.size,.int .i64 hy,.int .i64 0,.bool false,.slice none 0 0,.slice (some ⟨b,0,none⟩) (mapB m).length c] 29)));have K6:=lH (F6.out.block_of K3.out id);have HO2:=lH (show (#[.int .i64 0,.int .i64 i,.int .i64 m.size,.int .i64 hy,.int .i64 0,.bool false,.slice none 0 0,.slice (some ⟨b,0,none⟩) (mapB m).length c]:Array Value).all (·.oneCell')=true from by simp [Value.oneCell']);clear f5 sl hb;go_wp2_with (refine wpList_store_row rfl 29 (.tmp 4) (.tmp 51) rfl (b0+1) #[.int .i64 0,.int .i64 i,.int .i64 m.size,.int .i64 hy,.int .i64 0,.bool false,.slice none 0 0,.slice (some ⟨b,0,none⟩) (mapB m).length c] rfl rfl 29 _ K6.out Tryz.size29 rfl HO2.out ?_);have KF:=setRow_at (cs':= #[.int .i64 0,.int .i64 i,.int .i64 m.size,.int .i64 hy,.int .i64 0,.bool false,.slice none 0 0,.slice (some ⟨b,0,none⟩) (mapB m).length c]) K6.out;generalize hw6:w5.alloc (.cells #[.int .i64 0,.int .i64 i,.int .i64 m.size,.int .i64 hy,.int .i64 0,.bool false,.slice none 0 0,.slice (some ⟨b,0,none⟩) (mapB m).length c] 29)=w6 at*;have FS:Fr (fun j=>j=b0+1) w6 (w6.setRow (b0+1) #[.int .i64 0,.int .i64 i,.int .i64 m.size,.int .i64 hy,.int .i64 0,.bool false,.slice none 0 0,.slice (some ⟨b,0,none⟩) (mapB m).length c]):=Fr.setRow (S:=fun j=>j=b0+1) (Fr.refl _) (.inl rfl) _;have hne:b≠b0+1:=(by have:=HBB.out;omega)
    have S6:SlIs w6 (.slice (some ⟨b,0,none⟩) (mapB m).length c) (mapB m) b 0 c:=by
     have f6:Fr No w5 w6:=(by rw [← hw6];exact (Fr.refl _).alloc _)
     exact ⟨SL.out.1,SL.out.2.1,Nat.lt_of_lt_of_le SL.out.2.2.1 f6.size,fun j y hj=>f6.cell_of (SL.out.2.2.2 j y hj) id⟩
    exact bodyPost_ret (v:=.agg #[.int .i64 0,.int .i64 i,.int .i64 m.size,.int .i64 hy,.int .i64 0,.bool false,.slice none 0 0,.slice (some ⟨b,0,none⟩) (mapB m).length c]) (results_cell_row rfl _ _ (b0+1) 29 _ (0,0) _ rfl KF Tryz.underlying29 rfl Tryz.size29) rfl
     (HQ'.out trivial m HMM.out _ b c _ _ _ _ _ rfl FF.out SZ.out S3.out ST3.out ⟨S6.1,S6.2.1,Nat.lt_of_lt_of_le S6.2.2.1 FS.size,fun j y hj=>FS.cell_of (S6.2.2.2 j y hj) hne⟩ (by have:=HBB.out;omega) (F6.out.of_no.trans FS (fun _ _ e=>e)))
structure StInv (S:St) (q:Nat):Prop where
 ok:StOk S
 pts:PtsOk S.F
 dir:∀k x,S.T k=some x→x.dir=false→∃m,S.F k=some m
 tok:∀x∈S.K,∃i m,x.i=((i:Nat):Int)∧i≤128∧S.F i=some m
 small:∀x∈S.K,small x
 few:S.K.length≤q
 boots:0≤S.boots∧S.boots≤q
 swaps:0≤S.swaps∧S.swaps≤q
 clock:0≤S.clock∧S.clock≤q
 win:∀i y,S.W i=some y→∃rep:RepS,rep.ok∧0≤rep.e∧rep.e≤18∧y.2.2=rep.bytes
theorem StInv.more {S:St} {q q':Nat} (h:StInv S q) (hq:q≤q'):StInv S q':=
 ⟨h.ok,h.pts,h.dir,h.tok,h.small,Nat.le_trans h.few hq,⟨h.boots.1,by have:=h.boots.2;omega⟩,⟨h.swaps.1,by have:=h.swaps.2;omega⟩,⟨h.clock.1,by have:=h.clock.2;omega⟩,h.win⟩
theorem StInv.fits {S:St} {q:Nat} (h:StInv S q) (hq:q≤1000000):StFits S:=
 ⟨h.tok,fun i m hi=>(map_fits (h.ok.file i m hi).2.2 (h.pts i m hi)).1,h.dir,h.small,Nat.le_trans h.few hq⟩
structure Fine (q:Nat) (x:Int×RepS×St):Prop where
 code:0≤x.1∧x.1≤18
 rep:x.1=0→x.2.1.e=0∧∀s:Int,0≤s∧s<16777216→RepS.ok {x.2.1 with swaps:=s}
 inv:StInv x.2.2 q
theorem Fine.no {S:St} {q:Nat} (h:StInv S q) {c:Int} (h0:c≠0) (hc:0≤c∧c≤18) (r:RepS):Fine q (c,r,S):=⟨hc,fun e=>absurd e h0,h⟩
theorem Fine.plain {S:St} {q:Nat} (h:StInv S q) {i z k:Int} {d:Bool} (hi:0≤i∧i<65536) (hz:0≤z∧z<65536) (hh:0≤k∧k<256):Fine q (0,plainRep 0 i z k 0 d,S):=
 ⟨by dsimp only;omega,fun _=>⟨rfl,fun _ hs=>plain_ok (e:=0) (by omega) hi hz hh hs⟩,h⟩
theorem walk_code (T:Tree):∀(ps:List (List UInt8)) (k:Nat),0≤(walkOf T k ps).1∧(walkOf T k ps).1≤18
 | [],k=>by simp [walkOf]
 | s::r,k=>by
  unfold walkOf;split
  ·simp
  ·split
   ·split
    ·exact walk_code T r _
    ·simp
   ·simp
theorem seen_code (T:Tree) (ps:List (List UInt8)):0≤(seen T ps).1∧(seen T ps).1≤18:=by
 unfold seen;split
 ·simp
 ·exact walk_code T ps 1
theorem look_code (T:Tree) (l:List UInt8):0≤(lookOf T l).1∧(lookOf T l).1≤18:=by
 unfold lookOf;split
 ·simp
 ·exact seen_code T _
theorem place_code (T:Tree) (l:List UInt8):0≤(placeOf T l).1∧(placeOf T l).1≤18:=by
 unfold placeOf;split
 ·simp
 ·simp
 ·unfold stands;split
  ·split<;>simp
  ·exact seen_code T _
theorem make_code (T:Tree) (l:List UInt8):0≤(makeOf T l).1∧(makeOf T l).1≤18:=by
 unfold makeOf;split
 ·simp
 ·split
  ·exact place_code T l
  ·split
   ·simp
   ·split<;>simp
theorem remove_code (T:Tree) (l:List UInt8) (b:Bool):0≤(removeOf T l b).1∧(removeOf T l b).1≤18:=by
 unfold removeOf;split
 ·exact look_code T l
 ·split
  ·simp
  ·split
   ·simp
   ·split
    ·simp
    ·split<;>simp
theorem move_code (T:Tree) (p q:List UInt8):0≤moveE T p q∧moveE T p q≤18:=by
 unfold moveE;split
 ·exact look_code T p
 ·split
  ·simp
  ·split
   ·simp
   ·split
    ·simp
    ·split
     ·simp
     ·split
      ·exact place_code T q
      ·split<;>simp
theorem list_code (T:Tree) (l:List UInt8):0≤(listOf T l).1∧(listOf T l).1≤18:=by
 unfold listOf;split
 ·exact look_code T l
 ·split<;>simp
theorem open_code (L:List Tok) (c i:Int) (b:Bool):0≤(openOf L c i b).1∧(openOf L c i b).1≤18:=by
 unfold openOf;split
 ·simp
 ·split<;>simp
theorem stripes_code (S:St) (sw nx:Int) (st:List Sz) (c l:Int):0≤(stripesE S sw nx st c l).1∧(stripesE S sw nx st c l).1≤18:=by
 unfold stripesE;split
 ·simp
 ·split
  ·simp
  ·split<;>simp
theorem make_free {T:Tree} {l:List UInt8} (h:(makeOf T l).1=0):(makeOf T l).2=free T:=by
 unfold makeOf at h ⊢;split at h
 ·cases h
 ·split at h
  ·rename_i h1
   exact absurd h h1
  ·split at h
   ·cases h
   ·split at h
    ·cases h
    ·rename_i h1 h2 h3 h4
     rw [if_neg h1,if_neg h2,if_neg h3,if_neg h4]
theorem updF_other (F:Nat→Option FMap) {i j:Nat} (x:Option FMap) (h:j≠i):updF F i x j=F j:=by simp [updF,h]
theorem updF_is {F:Nat→Option FMap} {i j:Nat} {m y:FMap} (h:F j=some y):∃z,updF F i (some m) j=some z:=by
 unfold updF;split
 ·exact ⟨_,rfl⟩
 ·exact ⟨_,h⟩
theorem fine_make {S:St} {q:Nat} (h:StInv S q) (r:Req):Fine q (makeD S r):=by
 unfold makeD;split
 ·rename_i h0
  have ha:=make_adds h.ok.tree h0;have hf:=make_free h0;have hi:=make_num h.ok.tree h0;refine Fine.plain ⟨makeS_ok h.ok h0,?_,?_,?_,h.small,h.few,h.boots,h.swaps,h.clock,h.win⟩ (by omega) (by omega) (by omega)
  ·unfold makeS;dsimp only;split
   ·exact h.pts
   ·exact h.pts.put _ (by simp [noFile])
  ·intro k x hk hd;unfold makeS madeT grown at hk;unfold makeS;dsimp only at hk ⊢;rw [if_pos h0] at hk;by_cases e:k=free S.T
   ·subst e;rw [upd_same] at hk;cases hk;dsimp only at hd;rw [hd,if_neg (by simp),hf];exact ⟨_,updF_same _ _ _⟩
   ·rw [upd_other _ _ e] at hk;obtain ⟨m,hm⟩:=h.dir k x hk hd;split
    ·exact ⟨m,hm⟩
    ·exact updF_is hm
  ·intro x hx;obtain ⟨i,m,h1,h2,h3⟩:=h.tok x hx;unfold makeS;dsimp only;split
   ·exact ⟨i,m,h1,h2,h3⟩
   ·obtain ⟨z,hz⟩:=updF_is (i:=(makeOf S.T r.path).2) (m:=noFile) h3;exact ⟨i,z,h1,h2,hz⟩
 ·rename_i h0
  exact Fine.no h h0 (make_code _ _) _
theorem fine_remove {S:St} {q:Nat} (h:StInv S q) (r:Req):Fine q (removeD S r):=by
 unfold removeD;split
 ·rename_i h0
  exact Fine.no h h0 (look_code _ _) _
 ·rename_i h0
  split
  ·exact Fine.no h (by decide) (by omega) _
  ·rename_i h1
   split
   ·rename_i h2
    exact Fine.no h h2 (remove_code _ _ _) _
   ·rename_i h2
    have h0:(lookOf S.T r.path).1=0:=Classical.byContradiction h0;have h1:mayRemove S r:=Classical.byContradiction h1;have h2:(removeOf S.T r.path r.dir).1=0:=Classical.byContradiction h2;have hn:=(remove_num h.ok.tree h2).1;have hi:(removeOf S.T r.path r.dir).2=(lookOf S.T r.path).2.1∧(r.dir=true→(lookOf S.T r.path).2.2=true):=by
     unfold removeOf at h2 ⊢;rw [if_neg (by simp [h0])] at h2 ⊢;split at h2
     ·cases h2
     ·rename_i a1
      rw [if_neg a1];split at h2
      ·cases h2
      ·rename_i a2
       rw [if_neg a2];split at h2
       ·cases h2
       ·rename_i a3
        rw [if_neg a3];split at h2
        ·cases h2
        ·rename_i a4
         rw [if_neg a4];refine ⟨rfl,fun hd=> ?_⟩;cases hl:(lookOf S.T r.path).2.2 with
         | true=>rfl
         | false=>exact absurd ⟨hd,hl⟩ a2
    obtain ⟨hi,hd⟩:=hi;have hT:(removeS S r).T=shrunk S.T (lookOf S.T r.path).2.1:=by
     unfold removeS;split<;>(dsimp only;unfold removedT;rw [if_pos h2,hi])
    refine Fine.plain ?_ (by omega) (by omega) (by omega);have hok:TreeOk (shrunk S.T (lookOf S.T r.path).2.1):=by
     have:=removedT_ok h.ok.tree r.path r.dir;unfold removedT at this;rw [if_pos h2,hi] at this;exact this
    cases hl:(lookOf S.T r.path).2.2 with
    | true=>
     have e:removeS S r={S with T:=shrunk S.T (lookOf S.T r.path).2.1}:=by
      unfold removeS removedT;rw [if_pos hl,if_pos h2,hi]
     rw [e];refine ⟨⟨hok,h.ok.file⟩,h.pts,fun k x hk hx=> ?_,h.tok,h.small,h.few,h.boots,h.swaps,h.clock,h.win⟩;dsimp only at hk;unfold shrunk at hk;by_cases ek:k=(lookOf S.T r.path).2.1
     ·rw [ek,upd_same] at hk;cases hk
     ·rw [upd_other _ _ ek] at hk;exact h.dir k x hk hx
    | false=>
     have hb:(S.K.any fun x=>x.i==(lookOf S.T r.path).2.1)=false:=by
      rcases h1 with h1|h1|h1
      ·rw [hl] at h1;cases h1
      ·rw [hd h1] at hl;cases hl
      ·exact h1
     have e:removeS S r={S with T:=shrunk S.T (lookOf S.T r.path).2.1,F:=updF S.F (lookOf S.T r.path).2.1 none,U:=countedU (updF S.F (lookOf S.T r.path).2.1 none) S.U}:=by
      unfold removeS removedT;rw [if_neg (by simp [hl]),if_pos h2,hi]
     rw [e];refine ⟨⟨hok,fun i m hm=>h.ok.file i m (updF_sub hm)⟩,h.pts.less _,fun k x hk hx=> ?_,fun x hx=> ?_,h.small,h.few,h.boots,h.swaps,h.clock,h.win⟩
     ·dsimp only at hk;unfold shrunk at hk;by_cases ek:k=(lookOf S.T r.path).2.1
      ·rw [ek,upd_same] at hk;cases hk
      ·rw [upd_other _ _ ek] at hk;obtain ⟨m,hm⟩:=h.dir k x hk hx;exact ⟨m,by dsimp only;rw [updF_other _ _ ek];exact hm⟩
     ·obtain ⟨i,m,a1,a2,a3⟩:=h.tok x hx;refine ⟨i,m,a1,a2,?_⟩;dsimp only;rw [updF_other _ _ (fun ei=> ?_)]
      ·exact a3
      ·have:=List.any_eq_false.1 hb x hx;rw [a1,ei] at this;simp at this
theorem fine_move {S:St} {q:Nat} (h:StInv S q) (r:Req):Fine q (moveD S r):=by
 unfold moveD;split
 ·rename_i h0
  refine Fine.plain (S:={S with T:=movedT S.T r.path r.to}) ⟨⟨movedT_ok h.ok.tree _ _,h.ok.file⟩,h.pts,fun k x hk hx=> ?_,h.tok,h.small,h.few,h.boots,h.swaps,h.clock,h.win⟩ (by omega) (by omega) (by omega);dsimp only at hk ⊢;unfold movedT at hk;rw [if_pos h0] at hk;unfold moved at hk;by_cases ek:k=(lookOf S.T r.path).2.1
  ·rw [ek,upd_same] at hk;cases hk;dsimp only at hx;have hl:(lookOf S.T r.path).1=0:=by
    unfold moveE at h0;split at h0
    ·rename_i a
     exact absurd h0 a
    ·rename_i a
     exact Classical.byContradiction a
   obtain ⟨y,hy,hd⟩:=look_ok h.ok.tree hl;rw [ek];exact h.dir _ y hy (by rw [hd];exact hx)
  ·rw [upd_other _ _ ek] at hk;exact h.dir k x hk hx
 ·rename_i h0
  exact Fine.no h h0 (move_code _ _ _) _
theorem size_in {F:Nat→Option FMap} (h:∀i m,F i=some m→1≤i∧i≤128∧MapLen m) (i:Nat):0≤sizeIn F i∧sizeIn F i<65536:=by
 unfold sizeIn;cases hi:F i with
 | none=>simp
 | some m=>
  have:=(h i m hi).2.2.1;dsimp only;omega
theorem fine_look {S:St} {q:Nat} (h:StInv S q) (r:Req):Fine q (lookD S r):=by
 unfold lookD;split
 ·rename_i h0
  have h1:=look_lt h.ok.tree h0;exact ⟨by dsimp only;omega,fun _=>⟨rfl,fun s hs=>plain_ok (e:=0) (i:=(lookOf S.T r.path).2.1) (h:=0) (by omega) (by omega) (size_in h.ok.file _) (by omega) hs⟩,h⟩
 ·rename_i h0
  exact Fine.no h h0 (look_code _ _) _
theorem fine_list {S:St} {q:Nat} (h:StInv S q) (r:Req):Fine q (listD S r):=by
 unfold listD;split
 ·exact ⟨by dsimp only;omega,fun _=>⟨rfl,fun s hs=>listRep_ok h.ok.tree _ hs⟩,h⟩
 ·rename_i h0
  exact Fine.no h h0 (list_code _ _) _
theorem fine_map {S:St} {q:Nat} (h:StInv S q) (r:Req):Fine q (mapD S r):=by
 unfold mapD;split
 ·exact Fine.no h (by decide) (by omega) _
 ·rename_i x hx
  obtain ⟨i,m,h1,h2,h3⟩:=h.tok x (List.mem_of_find?_eq_some hx);rw [h1,Int.toNat_natCast,h3];exact ⟨by dsimp only;omega,fun _=>⟨rfl,fun s hs=>mapRep_ok h2 (h.ok.file i m h3).2.2 (h.pts i m h3) (by omega) hs⟩,h⟩
theorem fine_open {S:St} {q:Nat} (h:StInv S q) (r:Req) (hc:0≤r.c∧r.c<4):Fine (q+1) (openD S r):=by
 have h':=h.more (Nat.le_succ q);unfold openD;split
 ·rename_i h0
  exact Fine.no h' h0 (look_code _ _) _
 ·rename_i h0
  split
  ·exact Fine.no h' (by decide) (by omega) _
  ·rename_i h1
   split
   ·rename_i h2
    exact Fine.no h' h2 (open_code _ _ _ _) _
   ·rename_i h2
    have h0:(lookOf S.T r.path).1=0:=Classical.byContradiction h0;have h2:(openOf S.K r.c (lookOf S.T r.path).2.1 r.wr).1=0:=Classical.byContradiction h2;obtain ⟨y,hy,hd⟩:=look_ok h.ok.tree h0;have hl:=h.ok.tree.lt hy;obtain ⟨m,hm⟩:=h.dir _ y hy (by rw [hd];simpa using h1);rw [hm,Option.getD_some];have hfree:freeH S.K r.c<4∧(openOf S.K r.c (lookOf S.T r.path).2.1 r.wr).2.1=freeH S.K r.c∧(∀x∈(openOf S.K r.c (lookOf S.T r.path).2.1 r.wr).2.2,x=⟨r.c,freeH S.K r.c,(lookOf S.T r.path).2.1,r.wr⟩∨x∈S.K)∧(openOf S.K r.c (lookOf S.T r.path).2.1 r.wr).2.2.length=S.K.length+1:=by
     unfold openOf at h2 ⊢;split at h2
     ·cases h2
     ·rename_i a1
      rw [if_neg a1];split at h2
      ·cases h2
      ·rename_i a2
       rw [if_neg a2];refine ⟨by omega,rfl,fun x hx=> ?_,?_⟩
       ·dsimp only at hx;rcases List.mem_append.1 hx with hx|hx
        ·exact .inr (List.takeWhile_subset _ hx)
        ·rcases List.mem_cons.1 hx with hx|hx
         ·exact .inl hx
         ·exact .inr (List.dropWhile_subset _ hx)
       ·dsimp only;rw [List.length_append,List.length_cons];have:=congrArg List.length (List.takeWhile_append_dropWhile (p:=fun x=>decide (0<agn ⟨r.c,freeH S.K r.c,(lookOf S.T r.path).2.1,r.wr⟩ x)) (l:=S.K));rw [List.length_append] at this;omega
    obtain ⟨g1,g2,g3,g4⟩:=hfree;refine ⟨by dsimp only;omega,fun _=>⟨rfl,fun s hs=>mapRep_ok hl.2 (h.ok.file _ m hm).2.2 (h.pts _ m hm) (by rw [g2];omega) hs⟩,⟨h.ok.tree,h.ok.file⟩,h.pts,h.dir,fun x hx=> ?_,fun x hx=> ?_,?_,h'.boots,h'.swaps,h'.clock,h.win⟩
    ·rcases g3 x hx with rfl|hx
     ·exact ⟨_,m,rfl,hl.2,hm⟩
     ·exact h.tok x hx
    ·rcases g3 x hx with rfl|hx
     ·exact ⟨hc.1,hc.2,by dsimp only;omega,by dsimp only;omega⟩
     ·exact h.small x hx
    ·dsimp only;rw [g4];have:=h.few;omega
theorem fine_commit {S:St} {q:Nat} (h:StInv S q) (r:Req) (st:List Sz) (dl:List Dl):Fine q (commitD S r st dl):=by
 unfold commitD;split
 ·exact Fine.no h (by decide) (by omega) _
 ·rename_i x hx
  split
  ·exact Fine.no h (by decide) (by omega) _
  ·split
   ·rename_i h2
    exact Fine.no h h2 (stripes_code _ _ _ _ _ _) _
   ·split
    ·exact Fine.no h (by decide) (by omega) _
    ·rename_i h3
     have h3:=Classical.byContradiction h3;have hxm:=List.mem_of_find?_eq_some hx;obtain ⟨i,m,h4,h5,h6⟩:=h.tok x hxm;have hi:=(h.ok.file i m h6)
     obtain ⟨g1,g2⟩:=folded_ok h3 hi.2.2 (h.pts i m h6);rw [h4,Int.toNat_natCast,h6,Option.getD_some];have hk:∀y∈closedK r.cl S.K x,y∈S.K:=fun y hy=>by
      unfold closedK at hy;split at hy
      ·exact (List.mem_filter.1 hy).1
      ·exact hy
     have hkl:(closedK r.cl S.K x).length≤S.K.length:=by
      unfold closedK;split
      ·exact List.length_filter_le _ _
      ·exact Nat.le_refl _
     have hg:=g1.1;refine Fine.plain ?_ (by omega) (by omega) (by omega);unfold commitS;rw [h6,Option.getD_some];refine ⟨⟨h.ok.tree,(h.ok.newFile ⟨hi.1,h5⟩ g1).file⟩,h.pts.put i g2,fun k y hk hd=> ?_,fun y hy=> ?_,fun y hy=>h.small y (hk y hy),Nat.le_trans hkl h.few,h.boots,h.swaps,h.clock,h.win⟩
     ·obtain ⟨z,hz⟩:=h.dir k y hk hd;exact updF_is hz
     ·obtain ⟨j,z,a1,a2,a3⟩:=h.tok y (hk y hy);obtain ⟨u,hu⟩:=updF_is (i:=i) (m:=dl.foldl appliedM m) a3;exact ⟨j,u,a1,a2,hu⟩
theorem fine_boot {S:St} {q:Nat} (h:StInv S q) (r:Req):Fine (q+1) (bootD S r):=by
 unfold bootD;split
 ·have h1:=h.boots;have h2:=h.swaps;have h3:=h.clock;exact Fine.plain (S:=bootS S) ⟨⟨h.ok.tree,h.ok.file⟩,h.pts,h.dir,h.tok,h.small,Nat.le_succ_of_le h.few,by unfold bootS;dsimp only;omega,by unfold bootS;dsimp only;omega,by unfold bootS;dsimp only;omega,h.win⟩ (by omega) (by omega) (by omega)
 ·exact Fine.no (h.more (Nat.le_succ q)) (by decide) (by omega) _
theorem fine_swap {S:St} {q:Nat} (h:StInv S q) (r:Req):Fine (q+1) (swapD S r):=by
 unfold swapD;split
 ·have h1:=h.boots;have h2:=h.swaps;have h3:=h.clock;exact Fine.plain (S:=swapS S) ⟨⟨h.ok.tree,h.ok.file⟩,h.pts,h.dir,h.tok,h.small,Nat.le_succ_of_le h.few,by unfold swapS;dsimp only;omega,by unfold swapS;dsimp only;omega,by unfold swapS;dsimp only;omega,h.win⟩ (by omega) (by omega) (by omega)
 ·exact Fine.no (h.more (Nat.le_succ q)) (by decide) (by omega) _
theorem appliedF_ok {F:Nat→Option FMap} {d:Dl} (hd:mayDl d) (hF:∀i m,F i=some m→1≤i∧i≤128∧MapLen m) (hp:PtsOk F):
  (∀i m,appliedF F d i=some m→1≤i∧i≤128∧MapLen m)∧PtsOk (appliedF F d)∧∀i m,F i=some m→∃z,appliedF F d i=some z:=by
 unfold appliedF;cases hm:F d.i.toNat with
 | none=>exact ⟨hF,hp,fun i m hi=>⟨m,hi⟩⟩
 | some m0=>
  have h0:=hF _ m0 hm;refine ⟨fun i m hi=> ?_,hp.put _ (applied_pts (hp _ m0 hm) hd),fun i m hi=>updF_is hi⟩;rcases updF_some hi with ⟨rfl,rfl⟩|hi
  ·exact ⟨h0.1,h0.2.1,applied_len h0.2.2 hd⟩
  ·exact hF i m hi
theorem appliedFs_ok:∀(dl:List Dl) (F:Nat→Option FMap),(∀d∈dl,mayDl d)→(∀i m,F i=some m→1≤i∧i≤128∧MapLen m)→PtsOk F→
  (∀i m,dl.foldl appliedF F i=some m→1≤i∧i≤128∧MapLen m)∧PtsOk (dl.foldl appliedF F)∧∀i m,F i=some m→∃z,dl.foldl appliedF F i=some z
 | [],F,_,hF,hp=>⟨hF,hp,fun i m hi=>⟨m,hi⟩⟩
 | d::r,F,hd,hF,hp=>by
  obtain ⟨a1,a2,a3⟩:=appliedF_ok (hd d (by simp)) hF hp;obtain ⟨b1,b2,b3⟩:=appliedFs_ok r (appliedF F d) (fun x hx=>hd x (by simp [hx])) a1 a2;refine ⟨b1,b2,fun i m hi=> ?_⟩;obtain ⟨z,hz⟩:=a3 i m hi;exact b3 i z hz
theorem fine_moved {S:St} {q:Nat} (h:StInv S q) (r:Req) (st:List Sz) (dl:List Dl):Fine (q+1) (movedD S r st dl):=by
 have h':=h.more (Nat.le_succ q);unfold movedD;split
 ·exact Fine.no h' (by decide) (by omega) _
 ·split
  ·rename_i h2
   exact Fine.no h' h2 (stripes_code _ _ _ _ _ _) _
  ·split
   ·exact Fine.no h' (by decide) (by omega) _
   ·rename_i h3
    have h3:=Classical.byContradiction h3;obtain ⟨a1,a2,a3⟩:=appliedFs_ok dl S.F (fun d hd=>(h3 d hd).1) h.ok.file h.pts;have hcl:=h.clock;refine Fine.plain (S:=movedS S st dl r.nx) ⟨⟨h.ok.tree,a1⟩,a2,fun k y hk hd=> ?_,fun y hy=> ?_,h.small,h'.few,h'.boots,h'.swaps,?_,h.win⟩ (by omega) (by omega) (by omega)
    ·obtain ⟨z,hz⟩:=h.dir k y hk hd;exact a3 k z hz
    ·obtain ⟨j,z,b1,b2,b3⟩:=h.tok y hy;obtain ⟨u,hu⟩:=a3 j z b3;exact ⟨j,u,b1,b2,hu⟩
    ·unfold movedS addS;dsimp only;omega
theorem dremove_ (o:Nat→Nat) (K n:Nat) (L:Plc) (S:St) (r:Req) (rv dv:Value) (w:World) (h:StateAt w o K L S n) (ok:StOk S) (pts:PtsOk S.F) (hf:Fresh w o) (hl:r.path.length≤1000000) (hn:n≤1000000):
  Calls Tryz.prog 83 #[.pointer (some ⟨L.s,0,none⟩),.agg (r.cells rv dv)] w (Deed w o K L n (removeD S r)):=by
 obtain ⟨f0,k0,k1,H0,G0⟩:=begun h ok hf r rv dv;have F0:=lH f0;have HL:Hid (∀w',Fr No (deedW w r rv dv) w'→Calls Tryz.prog 72 #[.pointer (some ⟨L.tr,0,none⟩),.string (ba r.path)] w' fun e w''=>e=.returned (.tuple #[.int .i64 (lookOf S.T r.path).2.1,.bool (lookOf S.T r.path).2.2,.int .i64 (lookOf S.T r.path).1])∧Fr No w' w''):=
  lH (fun w' f=>glook_ o K L.tr S.T r.path w' hl ((H0.no ok G0 f).tree) ok.tree (Step.no (C:=fun _=>False) G0 f).fresh)
 have HB:Hid (∀i:Nat,∀w',Fr No (deedW w r rv dv) w'→Calls Tryz.prog 133 #[.pointer (some ⟨L.tk,0,none⟩),.int .i64 i] w' fun e w''=>e=.returned (.bool (S.K.any fun x=>x.i==i))∧Fr No w' w''):=lH (fun i w' f=>by
  obtain ⟨v,h1,h2⟩:=tokV_at (H0.no ok G0 f).tok;exact busy_ L.tk v S.K i w' h1 h2)
 have HRM:Hid (∀w',Fr No (deedW w r rv dv) w'→Calls Tryz.prog 134 #[.pointer (some ⟨L.tr,0,none⟩),.string (ba r.path),.bool r.dir] w' (GRemove w' o K L.tr S.T r.path r.dir)):=
  lH (fun w' f=>gremove_ o K L.tr S.T r.path r.dir w' hl ((H0.no ok G0 f).tree) ok.tree (Step.no (C:=fun _=>False) G0 f).fresh)
 have HT:Hid (∀w' w1 o1,Fr No (deedW w r rv dv) w'→Step (treeC K) w' o w1 o1→TreeAt w1 o1 K L.tr (removedT S.T r.path r.dir)→StateAt w1 o1 K L {S with T:=removedT S.T r.path r.dir} n∧StOk {S with T:=removedT S.T r.path r.dir}):=
  lH (fun w' w1 o1 f s t=>⟨(H0.no ok G0 f).newTree ok s t,ok.newTree (removedT_ok ok.tree _ _)⟩)
 have HE:Hid ((removeOf S.T r.path r.dir).1≠0→removedT S.T r.path r.dir=S.T):=lH (fun hne=>if_neg hne);have HNUM:Hid ((removeOf S.T r.path r.dir).1=0→(removeOf S.T r.path r.dir).2≤128):=lH (fun h0=>(remove_num ok.tree h0).1);have HR:Hid ((lookOf S.T r.path).1≠0→∀e w',e=.panicked (refC (lookOf S.T r.path).1)→Fr No w w'→Deed w o K L n (removeD S r) e w'):=lH (fun hne e w' he f=>by
  unfold removeD;rw [if_pos hne];exact Deed.no h ok hf hne he f)
 have HR2:Hid ((lookOf S.T r.path).1=0→¬mayRemove S r→∀e w',e=.panicked (refC 8)→Fr No w w'→Deed w o K L n (removeD S r) e w'):=lH (fun h0 h1 e w' he f=>by
  unfold removeD;rw [if_neg (by simp [h0]),if_pos h1];exact Deed.no h ok hf (by decide) he f)
 have HR3:Hid ((lookOf S.T r.path).1=0→mayRemove S r→(removeOf S.T r.path r.dir).1≠0→∀e w' w'' o',e=.panicked (refC (removeOf S.T r.path r.dir).1)→Fr No w w'→Step (treeC K) w' o w'' o'→StateAt w'' o' K L S n→Deed w o K L n (removeD S r) e w''):=lH (fun h0 h1 hne e w' w'' o' he f s t=>by
  unfold removeD;rw [if_neg (by simp [h0]),if_neg (fun h=>h h1),if_pos hne];exact Deed.no' hf f s (fun _ e=>treeC_state e) t hne he)
 have HOK3:StOk (removeS S r):=by
  unfold removeS;split
  ·exact ok.newTree (removedT_ok ok.tree _ _)
  ·exact ((ok.newTree (removedT_ok ok.tree _ _)).less _).newU _
 have HQ:Hid ((lookOf S.T r.path).1=0→mayRemove S r→(removeOf S.T r.path r.dir).1=0→∀e w' w'' w3 o',e=.returned (plainV 0 (removeOf S.T r.path r.dir).2 0 0 0 false)→Fr No w w'→w.heap.size+1<w'.heap.size→Step (fun c=>treeC K c∨c=K+6∨c=K+7) w' o w'' o'→StateAt w'' o' K L (removeS S r) n→Fr (fun j=>j=w.heap.size+1) w'' w3→Deed w o K L n (removeD S r) e w3):=lH (fun h0 h1 h2 e w' w'' w3 o' he f hs s t g=>by
  unfold removeD;rw [if_neg (by simp [h0]),if_neg (fun h=>h h1),if_neg (by simp [h2])];exact Deed.yes hf f s (fun c e=>by rcases e with e|e|e;exact treeC_state e;all_goals (unfold stateC;omega)) (by omega) hs g HOK3 t he (RepAt.plain _ _ _ _ _ _ _))
 have HMR:Hid (mayRemove S r↔((lookOf S.T r.path).2.2=true∨r.dir=true∨(S.K.any fun x=>x.i==(lookOf S.T r.path).2.1)=false)):=lH Iff.rfl;generalize mayRemove S r=MR at*;generalize hQ:Deed w o K L n (removeD S r)=Q at*;clear hQ;have HRS:Hid (removeS S r=if (lookOf S.T r.path).2.2=true then {S with T:=removedT S.T r.path r.dir} else {S with T:=removedT S.T r.path r.dir,F:=updF S.F (removeOf S.T r.path r.dir).2 none,U:=countedU (updF S.F (removeOf S.T r.path r.dir).2 none) S.U}):=lH rfl;generalize removeS S r=SR at*;have NS:Hid (¬treeC K (o L.s)):=lH (by rw [h.own];unfold treeC;omega);have NB:Hid (¬treeC K (o w.heap.size)):=lH (by rw [hf _ (Nat.le_refl _)];unfold treeC;omega);have NR:Hid (¬treeC K (o (w.heap.size+1))):=lH (by rw [hf _ (Nat.le_succ _)];unfold treeC;omega);have OB:Hid (o (w.heap.size+1)=0):=lH (hf _ (Nat.le_succ _));have HH:=lH H0;have HG:=lH G0;have HN:=lH hn;have HPT:=lH pts;clear H0 G0 f0 h ok hf hl hn pts HOK3;unfold GRemove at HRM;generalize lookOf S.T r.path=X at*;obtain ⟨er,i,d⟩:=X;dsimp only at HL HR HR2 HR3 HQ HMR HRS;generalize removeOf S.T r.path r.dir=Y at*;obtain ⟨ey,iy⟩:=Y;dsimp only at HRM HNUM HE HR3 HQ HRS;generalize removedT S.T r.path r.dir=T' at*;unfold deedW Req.cells noRep RepS.cells at*;generalize hrd:r.dir=rd at*;go_enter Tryz.func83,Tryz.ntmps83;go_wp2_with fail;generalize (w.alloc (.cells #[.int .i64 r.c,.int .i64 r.l,.int .i64 r.q,.int .i64 r.kind,.string (ba r.path),.string (ba r.to),.bool rd,.bool r.wr,.bool r.cl,.int .i64 r.h,.int .i64 r.nx,.int .i64 r.sw,rv,dv] 36)).alloc (.cells #[.int .i64 0,.int .i64 0,.int .i64 0,.int .i64 0,.int .i64 0,.bool false,.slice none 0 0,.slice none 0 0] 29)=w0 at*;have B1:=lH (lt_of_block k1);generalize hb0:w.heap.size=b0 at*;have c9:w0.cell? ⟨L.s,9,none⟩=some (.pointer (some ⟨L.tr,0,none⟩)):=HH.out.cell 9;have d4:w0.cell? ⟨b0,4,none⟩=some (.string (ba r.path)):=by rw [cell_at k0];rfl
 have D6:Hid (w0.cell? ⟨b0,6,none⟩=some (.bool rd)):=lH (by rw [cell_at k0];rfl);have C9:=lH c9;have D4:=lH d4;have K1:=lH k1;clear k0 k1;go_region_held3 (fun w'=>w'.cell? ⟨L.s,9,none⟩=some (.pointer (some ⟨L.tr,0,none⟩))∧w'.cell? ⟨b0,4,none⟩=some (.string (ba r.path))) (first|go_keep|(go_split_ands;refine ⟨?_,?_⟩<;>exact f1.cell_of (by assumption) id))
  ((go_at_call 72;refine (HL.out _ (Fr.refl _).drew).mono ?_;rintro e w1 ⟨rfl,f1⟩))
 have F1:=lH ((Fr.refl w0).drew.trans f1 (fun _ _ e=>e));clear f1 c9 d4;cases hx:(er==0) with
 | false=>
  have hne:er≠0:=by simpa using hx
  go_wp2_with fail;refine (must_no _ _).mono ?_;rintro e w2 ⟨rfl,rfl⟩;go_wp2_with fail;exact ⟨rfl,HR.out hne _ _ rfl (F0.out.trans F1.out (fun _ _ e=>e))⟩
 | true=>
  obtain rfl:er=0:=by simpa using hx
  clear hx HR;go_wp2_with fail;refine (must_yes _ _).mono ?_;rintro e w2 ⟨rfl,rfl⟩;obtain ⟨w1,rfl⟩:∃w1:World,w1=w2:=⟨_,rfl⟩
  go_upto_region 3 with fail
  go_cut [] (fun wx=>Hid (Fr No w0 wx)∧Hid MR)
  case first=>
   cases d with
   | true=>
    go_wp2_with fail;refine (must_yes _ _).mono ?_;rintro e w3 ⟨rfl,rfl⟩;go_wp2_with fail;go_meet;exact ⟨F1,lH (HMR.out.2 (by simp))⟩
   | false=>
    cases rd with
    | true=>
     have d6:w1.cell? ⟨b0,6,none⟩=some (.bool true):=F1.out.cell_of D6.out id;go_wp2_with fail;refine (must_yes _ _).mono ?_;rintro e w3 ⟨rfl,rfl⟩;go_wp2_with fail;go_meet;exact ⟨F1,lH (HMR.out.2 (by simp))⟩
    | false=>
     have d6:w1.cell? ⟨b0,6,none⟩=some (.bool false):=F1.out.cell_of D6.out id;have c10:w1.cell? ⟨L.s,10,none⟩=some (.pointer (some ⟨L.tk,0,none⟩)):=F1.out.cell_of (HH.out.cell 10) id;have HBU:=lH (HB.out i w1 F1.out);cases hb:(S.K.any fun x=>x.i==(i:Int)) with
     | true=>
      rw [hb] at HBU;have hne:¬MR:=fun h=>by
       rcases HMR.out.1 h with h|h|h
       ·cases h
       ·cases h
       ·rw [hb] at h;cases h
      have HNE:=lH hne;clear hne hb;go_wp2_with fail;refine HBU.out.mono ?_;rintro e w3 ⟨rfl,f3⟩;have F3:=lH (F1.out.trans f3 (fun _ _ e=>e));clear f3;go_wp2_with fail;refine (must_no _ _).mono ?_;rintro e w4 ⟨rfl,rfl⟩;go_wp2_with fail;exact ⟨rfl,HR2.out trivial HNE.out _ _ rfl (F0.out.trans F3.out (fun _ _ e=>e))⟩
     | false=>
      rw [hb] at HBU;have HM2:=lH (HMR.out.2 (by simp only [hb];simp));clear hb;go_wp2_with fail;refine HBU.out.mono ?_;rintro e w3 ⟨rfl,f3⟩;have F3:=lH (F1.out.trans f3 (fun _ _ e=>e));clear f3;go_wp2_with fail;refine (must_yes _ _).mono ?_;rintro e w4 ⟨rfl,rfl⟩;go_wp2_with fail;go_meet;exact ⟨F3,HM2⟩
  case rest=>
   obtain ⟨FC,HM⟩:=hcut;obtain ⟨wa,rfl⟩:∃wa:World,wa=wc:=⟨_,rfl⟩
   have c9:wa.cell? ⟨L.s,9,none⟩=some (.pointer (some ⟨L.tr,0,none⟩)):=FC.out.cell_of C9.out id;have d4:wa.cell? ⟨b0,4,none⟩=some (.string (ba r.path)):=FC.out.cell_of D4.out id;have d6:wa.cell? ⟨b0,6,none⟩=some (.bool rd):=FC.out.cell_of D6.out id;have FD:=lH (FC.out.trans (Fr.refl wa).drew (fun _ _ e=>e));have HRC:=lH (HRM.out wa.drew FD.out);go_upto_region 4 with fail
   go_region_held3 (fun w'=>w'.cell? ⟨L.s,9,none⟩=some (.pointer (some ⟨L.tr,0,none⟩))∧w'.cell? ⟨b0,4,none⟩=some (.string (ba r.path))∧w'.cell? ⟨b0,6,none⟩=some (.bool rd)) (first|go_keep|(go_split_ands;refine ⟨?_,?_,?_⟩<;>exact s1.fr.cell_of (by assumption) (by first|exact NS.out|exact NB.out)))
    ((go_at_call 134;refine HRC.out.mono ?_;rintro e w4 ⟨rfl,o1,s1,t1⟩))
   have SZ:Hid (b0+1<wa.drew.heap.size):=lH (Nat.lt_of_lt_of_le B1.out FD.out.size);have FF:=lH (F0.out.trans FD.out (fun _ _ e=>e));obtain ⟨st1,ok1⟩:=HT.out wa.drew w4 o1 FD.out s1 t1;have ST1:=lH st1;have OK1:=lH ok1;have S1:=lH s1;have KK:=lH (s1.fr.block_of (FD.out.block_of K1.out id) NR.out);clear st1 ok1 s1 t1 c9 d4 d6;cases hx:(ey==0) with
   | false=>
    have hne:ey≠0:=(by simpa using hx)
    have HX:=lH (HR3.out (by simp) HM.out hne _ _ _ _ rfl FF.out S1.out (by have:=ST1.out;rw [HE.out hne] at this;exact this));go_wp2_with fail;refine (must_no _ _).mono ?_;rintro e w5 ⟨rfl,rfl⟩;go_wp2_with fail;exact ⟨rfl,HX.out⟩
   | true=>
    obtain rfl:ey=0:=(by simpa using hx)
    clear hx;have hi:iy≤128:=HNUM.out rfl;have HI:=lH hi;have hbd:∀w':World,(Instr.build 29 #[(1,.int .i64 iy)]).run Tryz.prog w'=.ok (.agg #[.int .i64 0,.int .i64 iy,.int .i64 0,.int .i64 0,.int .i64 0,.bool false,.slice none 0 0,.slice none 0 0]) w':=fun w'=>by kernel_rfl
    have HOC:=lH (show (#[.int .i64 0,.int .i64 iy,.int .i64 0,.int .i64 0,.int .i64 0,.bool false,.slice none 0 0,.slice none 0 0]:Array Value).all (·.oneCell')=true from by simp [Value.oneCell']);cases d with
    | true=>
     have HX:=lH (fun e w3 he g=>HQ.out (by simp) HM.out (by simp) e _ _ w3 _ he FF.out SZ.out (S1.out.mono (fun _ h=> .inl h)) (by rw [HRS.out,if_pos rfl];exact ST1.out) g);go_wp2_with fail;refine (must_yes _ _).mono ?_;rintro e w5 ⟨rfl,rfl⟩;go_wp2_with (refine wpList_store_row rfl 29 (.tmp 4) (.tmp 64) rfl (b0+1) #[.int .i64 0,.int .i64 iy,.int .i64 0,.int .i64 0,.int .i64 0,.bool false,.slice none 0 0,.slice none 0 0] rfl rfl 29 _ KK.out Tryz.size29 rfl HOC.out ?_);have KF:=setRow_at (cs':= #[.int .i64 0,.int .i64 iy,.int .i64 0,.int .i64 0,.int .i64 0,.bool false,.slice none 0 0,.slice none 0 0]) KK.out;exact bodyPost_ret (v:=plainV 0 iy 0 0 0 false) (results_cell_row rfl _ _ (b0+1) 29 _ (0,0) _ rfl KF Tryz.underlying29 rfl Tryz.size29) rfl
      (HX.out _ _ rfl (Fr.setRow (S:=fun j=>j=b0+1) (Fr.refl _) (.inl rfl) _))
    | false=>
     have c11:w4.cell? ⟨L.s,11,none⟩=some (.map (some L.fl)):=ST1.out.cell 11;obtain ⟨w5,hdel,g5,s5,F5⟩:=FilesAt.del ST1.out.files S1.out.fresh iy (by omega);have HDEL:=lH hdel;have F5f:Hid (Fresh w5 o1):=lH s5.fresh;have OK5:=lH (OK1.out.less iy);have ST5:=lH (ST1.out.newFiles (Nat.le_refl n) OK1.out s5 F5);have S5:Hid (Step (fun c=>treeC K c∨c=K+6∨c=K+7) wa.drew o w5 o1):=lH ((S1.out.mono (fun _ h=>Or.inl h)).trans (s5.mono (fun _ h=>Or.inr (Or.inl h))) (fun _ e=>e));have NR5:Hid (b0+1≠L.fl):=lH (fun e=>by
      have a:=S1.out.old _ SZ.out;have b:=ST1.out.files.1;rw [OB.out,e,b] at a;omega)
     have K5:=lH (g5.block_of KK.out NR5.out);have HCT:=lH (scount_ o1 K n L _ w5 ST5.out OK5.out (HPT.out.less iy) F5f.out HN.out);unfold CountPost at HCT;clear g5 s5 F5 hdel;have hdel:=HDEL.out;go_wp2_with fail;refine (must_yes _ _).mono ?_;rintro e w6 ⟨rfl,rfl⟩;go_wp2_with fail;refine HCT.out.mono ?_;rintro e w7 ⟨rfl,o7,s7,t7⟩;have S7:Hid (Step (fun c=>treeC K c∨c=K+6∨c=K+7) wa.drew o w7 o7):=lH (S5.out.trans (s7.mono (fun _ h=>Or.inr (Or.inr h))) (fun _ e=>e));have K7:=lH (s7.fr.block_of K5.out (by
      intro e;have a:=S1.out.old _ SZ.out;rw [OB.out,e] at a;omega))
     have HX:=lH (fun e w3 he g=>HQ.out (by simp) HM.out (by simp) e _ _ w3 _ he FF.out SZ.out S7.out (by rw [HRS.out,if_neg (by decide)];exact t7) g);clear s7 t7;go_wp2_with (refine wpList_store_row rfl 29 (.tmp 4) (.tmp 64) rfl (b0+1) #[.int .i64 0,.int .i64 iy,.int .i64 0,.int .i64 0,.int .i64 0,.bool false,.slice none 0 0,.slice none 0 0] rfl rfl 29 _ K7.out Tryz.size29 rfl HOC.out ?_);have KF:=setRow_at (cs':= #[.int .i64 0,.int .i64 iy,.int .i64 0,.int .i64 0,.int .i64 0,.bool false,.slice none 0 0,.slice none 0 0]) K7.out;exact bodyPost_ret (v:=plainV 0 iy 0 0 0 false) (results_cell_row rfl _ _ (b0+1) 29 _ (0,0) _ rfl KF Tryz.underlying29 rfl Tryz.size29) rfl
      (HX.out _ _ rfl (Fr.setRow (S:=fun j=>j=b0+1) (Fr.refl _) (.inl rfl) _))
end Go.Proofs.YtlcojhddnpmgmaaGreat
