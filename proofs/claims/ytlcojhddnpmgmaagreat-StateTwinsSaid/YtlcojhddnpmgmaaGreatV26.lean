/- Part of a proof. -/
import Derived.Test.YtlcojhddnpmgmaaGreatV23
set_option linter.unusedSimpArgs false
set_option linter.unusedVariables false
set_option maxRecDepth 100000
set_option maxHeartbeats 3200000
namespace Go.Proofs.YtlcojhddnpmgmaaGreat
open Go.RowKit Go.Proofs.Tryz
theorem Bq {a ys:List UInt8} (h:a.length+ys.length≤65536):dE (a,0) ys=(a++ys,0):=by
 unfold dE;rw [if_neg (by simp),if_neg (by dsimp only;omega)]
theorem oC {a:List UInt8} {x:Int} {wd:Nat} (hx:0≤x∧x<2 ^ (8*wd)) (h:a.length+wd≤65536):aI (a,0) x wd=(a++aQ wd x.toNat,0):=by
 unfold aI;rw [if_pos hx,Bq (by rw [bT];exact h)]
theorem J6 {a ys:List UInt8} (h:a.length+2+ys.length≤65536) (hl:ys.length≤65535):fK (a,0) ys=(a++(aQ 2 ys.length++ys),0):=by
 unfold fK;rw [if_neg (by omega),Bq (by rw [List.length_append,bT];omega)]
theorem Nk (x:eF):(iP x).length=x.1.data.toList.length+5:=by
 unfold iP;simp [bT];omega
theorem Xj {a:List UInt8} {x:eF} (hx:oU x) (h:a.length+(iP x).length≤65536):mX (a,0) x=(a++iP x,0):=by
 obtain ⟨h1,h2,h3⟩:=hx;rw [Nk] at h;unfold mX;rw [J6 (by omega) h1,oC ⟨h2,by simpa using h3⟩ (by simp only [List.length_append,bT];omega),Bq (by simp only [List.length_append,bT,List.length_cons,List.length_nil];omega)];simp [iP,qV]
theorem Rl:∀(es:List eF) (a:List UInt8),(∀x∈es,oU x)→a.length+(es.flatMap iP).length≤65536→es.foldl mX (a,0)=(a++es.flatMap iP,0)
 | [],a,_,_=>by simp
 | x::r,a,hx,h=>by
  rw [List.flatMap_cons,List.length_append] at h;rw [List.foldl_cons,Xj (hx x (by simp)) (by omega),Rl r _ (fun y hy=>hx y (by simp [hy])) (by rw [List.length_append];omega),List.flatMap_cons,List.append_assoc]
theorem aF.Fp {r:aF} (h:r.Fits) (hes:r.es.length≤4000) (hs:∀x∈r.es,x.1.size≤1000000) (hl:14+(r.es.flatMap iP).length+r.map.length≤65536):r.ok:=by
 obtain ⟨h1,h2,h3,h4,h5,h6,h7⟩:=h;refine ⟨?_,hes,hs⟩;unfold qC wZ;rw [oC (wd:=1) (by simpa using h1) (by simp),oC (wd:=2) (by simpa using h2) (by simp [bT]),oC (wd:=2) (by simpa using h3) (by simp [bT]),oC (wd:=1) (by simpa using h4) (by simp [bT]),oC (wd:=3) (by simpa using h5) (by simp [bT]),
  Bq (by simp [bT]),oC (wd:=2) ⟨by omega,by simp;omega⟩ (by simp [bT]),Rl _ _ h6 (by simp only [List.length_append,bT,List.length_cons,List.length_nil];omega),J6 (by simp only [List.length_append,bT,List.length_cons,List.length_nil];omega) h7]
theorem aF.ok.len {r:aF} (h:r.ok):r.bytes.length≤65536+65537:=by
 obtain ⟨_,e⟩:=h.raw;have h0:=h.1;unfold aF.bytes qC at*;obtain ⟨h1,h2,e1⟩:=Ef h0;rw [e1];simp only [List.length_append,bT];obtain ⟨h3,h4,e2⟩:=Je h1;have:∀ {s:aN} {ys:List UInt8},(dE s ys).2=0→s.2=0→(dE s ys).1.length≤65536:=by
  intro s ys hp hs;unfold dE at*;rw [if_neg (by simp [hs])] at*;split at hp
  ·cases hp
  ·rename_i hn
   rw [if_neg hn];simp only [List.length_append];omega
 have h8:(fK (r.es.foldl mX (wZ ([],0) r)) r.map).1.length≤65536:=by
  have e5:fK (r.es.foldl mX (wZ ([],0) r)) r.map=dE (r.es.foldl mX (wZ ([],0) r)) (aQ 2 r.map.length++r.map):=by
   unfold fK;rw [if_neg (by omega)]
  rw [e5];exact this (by rw [← e5];exact h0) h1
 rw [e1] at h8;simp only [List.length_append,bT] at h8;omega
theorem aCl {a:List UInt8} {x:Pt} (hx:dI x) (h:a.length+11≤65536):∃ys,mY (a,0) x=(a++ys,0)∧ys.length=11:=by
 have hb:(0≤x.c∧x.c<256)∧(0≤x.l∧x.l<16777216)∧(0≤x.n∧x.n<4294967296)∧(0≤x.a∧x.a<65536)∧(0≤x.z∧x.z<256):=by
  rcases hx with rfl|hx
  ·simp [bH]
  ·omega
 obtain ⟨h1,h2,h3,h4,h5⟩:=hb;unfold mY;rw [oC (wd:=1) (by simpa using h1) (by omega),oC (wd:=3) (by simpa using h2) (by simp only [List.length_append,bT];omega),oC (wd:=4) (by simpa using h3) (by simp only [List.length_append,bT];omega),
  oC (wd:=2) (by simpa using h4) (by simp only [List.length_append,bT];omega),oC (wd:=1) (by simpa using h5) (by simp only [List.length_append,bT];omega)]
 exact ⟨_,by simp only [List.append_assoc];rfl,by simp [bT]⟩
theorem Lp:∀(l:List Pt) (a:List UInt8),(∀x∈l,dI x)→a.length+11*l.length≤65536→∃ys,l.foldl mY (a,0)=(a++ys,0)∧ys.length=11*l.length
 | [],a,_,_=>⟨[],by simp,rfl⟩
 | x::r,a,hx,h=>by
  rw [List.length_cons] at h;obtain ⟨y1,e1,n1⟩:=aCl (hx x (by simp)) (a:=a) (by omega);obtain ⟨y2,e2,n2⟩:=Lp r (a++y1) (fun y hy=>hx y (by simp [hy])) (by rw [List.length_append];omega);exact ⟨y1++y2,by rw [List.foldl_cons,e1,e2,List.append_assoc],by rw [List.length_append,List.length_cons];omega⟩
theorem Bd {m:aG} (hl:fU m) (hp:∀x∈m.l,dI x):zO m∧(iI m).length≤1000:=by
 obtain ⟨h1,h2⟩:=hl;have hb:m.l.length≤64:=by rw [h2];unfold dY;omega
 obtain ⟨ys,e,n⟩:=Lp m.l (([]:List UInt8)++aQ 2 (m.size:Int).toNat) hp (by simp only [List.length_append,bT,List.length_nil];omega);have e0:mM ([],0) m=(([]:List UInt8)++aQ 2 (m.size:Int).toNat++ys,0):=by
  unfold mM;rw [oC (wd:=2) ⟨by omega,by simp;omega⟩ (by simp),e]
 unfold zO iI;rw [e0];refine ⟨⟨rfl,?_⟩,?_⟩
 ·intro h;have:=congrArg List.length h;simp only [List.length_append,bT,List.length_nil] at this;omega
 ·simp only [List.length_append,bT,List.length_nil];omega
theorem Bi {e i z h s:Int} {d:Bool} (he:0≤e∧e<256) (hi:0≤i∧i<65536) (hz:0≤z∧z<65536) (hh:0≤h∧h<256) (hs:0≤s∧s<16777216):aF.ok ⟨e,i,z,h,s,d, [], []⟩:=
 aF.Fp ⟨he,hi,hz,hh,hs,by simp,by simp⟩ (by simp) (by simp) (by simp)
theorem Ou {i:Nat} {m:aG} {h s:Int} (hi:i≤128) (hl:fU m) (hp:∀x∈m.l,dI x) (hh:0≤h∧h<256) (hs:0≤s∧s<16777216):aF.ok {oL i m h with swaps:=s}:=by
 have hb:=(Bd hl hp).2;have hm:=hl.1;refine aF.Fp ⟨by simp [oL],by simp only [oL];omega,by simp only [oL];omega,by simpa only [oL] using hh,hs,by simp [oL],by simp only [oL];omega⟩ (by simp [oL]) (by simp [oL]) ?_;simp only [oL,List.flatMap_nil,List.length_nil];omega
theorem aBn (T:Tree) (d:Nat) (s:List UInt8):(kid T d s).getD 0<129:=by
 cases h:kid T d s with
 | none=>simp
 | some k=>
  unfold kid at h;have:=List.mem_of_find?_eq_some h;simpa using this
theorem Ju {α:Type} (f:α→List UInt8) (m:Nat):∀l:List α,(∀x∈l,(f x).length≤m)→(l.flatMap f).length≤m*l.length
 | [],_=>by simp
 | x::r,h=>by
  have h1:=h x (by simp);have h2:=Ju f m r (fun y hy=>h y (by simp [hy]));rw [List.flatMap_cons,List.length_append,List.length_cons,Nat.mul_succ];omega
theorem Hr {T:Tree} (ht:dD T) (d:Nat):(uK T d).length≤129∧∀x∈uK T d,oU x∧x.1.data.toList.length≤12:=by
 constructor
 ·unfold uK;rw [List.length_map,List.length_mergeSort];unfold oI;exact Nat.le_trans (List.length_filterMap_le _ _) (by simp)
 ·intro x hx;unfold uK at hx;obtain ⟨s,hs,rfl⟩:=List.mem_map.1 hx;have hs:=List.mem_mergeSort.1 hs;unfold oI at hs;obtain ⟨k,_,hk⟩:=List.mem_filterMap.1 hs;have hn:s.data.toList.length≤12:=by
   cases hT:T k with
   | none=>rw [hT] at hk;cases hk
   | some y=>
    rw [hT] at hk;dsimp only at hk;split at hk
    ·cases hk;rw [jW];by_cases h1:k=1
     ·subst h1;rw [ht.root] at hT;cases hT;simp
     ·have:=ht.name k y hT h1;unfold dZ at this;simp only [Bool.and_eq_true,decide_eq_true_eq] at this;exact this.1.1.1.1.2
    ·cases hk
  have hkid:=aBn T d s.data.toList;exact ⟨⟨by unfold jB;dsimp only;omega,by unfold jB;dsimp only;omega,by unfold jB;dsimp only;omega⟩,hn⟩
theorem X8 {T:Tree} (ht:dD T) (l:List UInt8) {s:Int} (hs:0≤s∧s<16777216):aF.ok ⟨0,0,0,0,s,false,(listOf T l).2, []⟩:=by
 have hL:(listOf T l).2.length≤129∧∀x∈(listOf T l).2,oU x∧x.1.data.toList.length≤12:=by
  unfold listOf;split
  ·simp
  ·split
   ·simp
   ·exact Hr ht _
 obtain ⟨h1,h2⟩:=hL;have h3:=Ju iP 17 (listOf T l).2 (fun x hx=>by rw [Nk];have:=(h2 x hx).2;omega);exact aF.Fp ⟨by dsimp only;omega,by dsimp only;omega,by dsimp only;omega,by dsimp only;omega,hs,fun x hx=>(h2 x hx).1,by dsimp only [List.length_nil];omega⟩ (by dsimp only;omega) (fun x hx=>by
  have:=(h2 x hx).2;have e:x.1.size=x.1.data.toList.length:=by rw [Array.length_toList];rfl
  rw [e];omega) (by simp only [List.length_nil];omega)
theorem Tryz.lM:(prog.info? 61).map (·.size)=some 14:=by kernel_rfl
def Zero (w:World) (o:Nat→Nat) (b:Nat) (x:Obj):Prop:=w.heap[b]? =some x∧o b=0
theorem Zero.step {C:Nat→Prop} {w w':World} {o o':Nat→Nat} {b:Nat} {x:Obj} (h:Zero w o b x) (s:Step C w o w' o') (hc:¬C 0):Zero w' o' b x:=
 ⟨s.fr.aC h.1 (by rw [h.2];exact hc),(s.old b (lt_of_block h.1)).trans h.2⟩
theorem Zero.no {w w':World} {o:Nat→Nat} {b:Nat} {x:Obj} (h:Zero w o b x) (f:Fr No w w'):Zero w' o b x:=⟨f.aC h.1 id,h.2⟩
theorem Qq (S:St) (nx c l:Int):∀(st:List Sz) (m m':Stp→Option Int),kR S nx c l st m=some m'→(∀y e,m y=some e→1≤e∧e≤6000)→∀y e,m' y=some e→1≤e∧e≤6000
 | [],m,m',h,hm=>by
  unfold kR at h;cases h;exact hm
 | x::r,m,m',h,hm=>by
  unfold kR at h;split at h
  ·rename_i hx
   obtain ⟨_,_,_,_,_,_,h1,h2⟩:=hx;refine Qq S nx c l r _ m' h (fun y e hy=> ?_);split at hy
   ·cases hy;exact ⟨h1,h2⟩
   ·exact hm y e hy
  ·cases h
theorem Po (S:St) (sw nx:Int) (st:List Sz) (c l:Int) (y:Stp) (e:Int) (h:(eX S sw nx st c l).2 y=some e):1≤e∧e≤6000:=by
 unfold eX at h;split at h
 ·cases h
 ·split at h
  ·cases h
  ·split at h
   ·cases h
   ·rename_i m hm
    exact Qq S nx c l st _ m hm (fun _ _ h=>by cases h) y e h
theorem Gf {α:Type} (x:Pt) (a b:α):(if x.c=0 then if x.l=0 then if x.n=0 then if x.a=0 then if x.z=0 then a else b else b else b else b else b)=if x=bH then a else b:=by
 obtain ⟨c,l,n,a',z⟩:=x;dsimp only;by_cases h:(⟨c,l,n,a',z⟩:Pt)=bH
 ·rw [if_pos h];cases h;rfl
 ·rw [if_neg h];by_cases h1:c=0
  ·by_cases h2:l=0
   ·by_cases h3:n=0
    ·by_cases h4:a'=0
     ·by_cases h5:z=0
      ·exact absurd (by rw [h1,h2,h3,h4,h5];rfl) h
      ·rw [if_pos h1,if_pos h2,if_pos h3,if_pos h4,if_neg h5]
     ·rw [if_pos h1,if_pos h2,if_pos h3,if_neg h4]
    ·rw [if_pos h1,if_pos h2,if_neg h3]
   ·rw [if_pos h1,if_neg h2]
  ·rw [if_neg h1]
theorem jK.turn {w:World} {o:Nat→Nat} {K fl n:Nat} {F:Nat→Option aG} (h:jK w o K fl n F) (hk:∀i m,F i=some m→1≤i∧i≤128∧fU m) {i:Nat} {m:aG} (hi:F i=some m):
  ∃p,(∀w',Fr No w w'→(Instr.lookup 100 (.map (some fl)) (.int .i64 i) false).run prog w'=.ok (.pointer (some ⟨p,0,none⟩)) w')∧eH w o K i p m∧
   ∀w' o' m',Step (dN K i) w o w' o'→eH w' o' K i p m'→jK w' o' K fl n (bC F i (some m')):=by
 obtain ⟨h1,fp,c,h2,h3,h4⟩:=h;have hb:=hk i m hi;refine ⟨fp i,fun w' f=> ?_,h4 i m hi,fun w' o' m' s t=> ?_⟩
 ·have:=(h3.fr f id).look (i:Int) (show I64 _ by unfold I64;omega) (t:=100) (e:=63) underlying100 (z:=.pointer none) (by kernel_rfl) false;have e:cO F fp (i:Int)=some (fp i):=by unfold cO;rw [if_pos (by omega),Int.toNat_natCast,hi];rfl
  rw [e] at this;exact this
 ·obtain ⟨e1,e2⟩:=h3.step s (by rw [h1];unfold dN;omega);refine ⟨e2.trans h1,fp,c,h2,?_,fun j y hj=> ?_⟩
  ·have e:cO (bC F i (some m')) fp=cO F fp:=by
    funext z;unfold cO bC;by_cases hz:0≤z
    ·rw [if_pos hz,if_pos hz];by_cases hzi:z.toNat=i
     ·rw [if_pos hzi,hzi,hi];rfl
     ·rw [if_neg hzi]
    ·rw [if_neg hz,if_neg hz]
   rw [e];exact e1
  ·unfold bC at hj;by_cases hji:j=i
   ·rw [if_pos hji] at hj;cases hj;rw [hji];exact t
   ·rw [if_neg hji] at hj;have hbj:=hk j y hj;exact (h4 j y hj).step s (by unfold dN;omega) (by unfold dN;omega)
theorem aK.xG {w w':World} {o o':Nat→Nat} {K n i:Nat} {L:aT} {S:St} {F':Nat→Option aG} (h:aK w o K L S n) (hi:i≤128) (ok:aU S) (s:Step (dN K i) w o w' o') (t:jK w' o' K L.fl n F'):aK w' o' K L {S with F:=F'} n where
 own:=(s.own h.cs).trans h.own
 cs:=s.block h.cs (by rw [h.own];unfold dN;omega)
 win:=h.win.step s (by unfold dN;omega) (by unfold dN;omega)
 tree:=h.tree.step ok.tree s (fun c e=>by unfold bI at e;unfold dN;omega)
 tok:=h.tok.step s (by unfold dN;omega) (by unfold dN;omega)
 files:=t
 uses:=h.uses.step s (by unfold dN;omega)
theorem aBU {F:Nat→Option aG} {i:Nat} {m:aG} (h:F i=some m):bC F i (some m)=F:=by
 funext j;unfold bC;split
 ·rename_i e
  rw [e,h]
 ·rfl
theorem Vg (F:Nat→Option aG) (i:Nat) (x y:Option aG):bC (bC F i x) i y=bC F i y:=by
 funext j;unfold bC;split<;>rfl
theorem aCJ (tmps:Array Value) (w:World) (g:Nat) (cs:Array Value) (fr:Nat×Nat) (v3:Value) (hp:tmps.getD 2 undef=.pointer (some ⟨g,0,none⟩)) (h3:tmps.getD 3 undef=v3)
  (hg:w.heap[g]? =some (.cells cs 29 fr)) (hc:cs.size=8):(results Tryz.f54 tmps).run prog w=.ok (.tuple #[.agg cs,v3]) w:=by
 have hl:=run_loadVar_row (P:=prog) w g 29 29 cs fr _ hg underlying29 rfl (by rw [Tryz.size29,hc]);have h2':tmps[2]?.getD undef=.pointer (some ⟨g,0,none⟩):=by simpa using hp
 have h3':tmps[3]?.getD undef=v3:=by simpa using h3
 simp [results,results54,asAddr,h2',h3',hl]
theorem eQ.fr {S:Nat→Prop} {w w':World} {B:Nat} {v:Value} {es:List eF} (h:eQ w B v es) (f:Fr S w w') (hS:∀k,S k→(∃cs fz,w.heap[k]? =some (.cells cs 86 fz))→False):eQ w' B v es:=by
 rcases h with h|⟨b,off,c,e,h1,hb,h2,⟨cs,fz,h3⟩,h4⟩
 ·exact .inl h
 ·have hn:¬S b:=fun hs=>hS b hs ⟨cs,fz,h3⟩;exact .inr ⟨b,off,c,e,h1,hb,Nat.lt_of_lt_of_le h2 f.size,⟨cs,fz,f.aC h3 hn⟩,fun j x hj i u hi=>f.cell_of (h4 j x hj i u hi) hn⟩
theorem fP.fr {S:Nat→Prop} {w w':World} {B:Nat} {v:Value} {ys:List UInt8} (h:fP w B v ys) (f:Fr S w w') (hS:∀k,S k→B≤k):fP w' B v ys:=by
 rcases h with h|⟨b,off,c,⟨e,h1,h2,h3⟩,hb⟩
 ·exact .inl h
 ·exact .inr ⟨b,off,c,⟨e,h1,Nat.lt_of_lt_of_le h2 f.size,fun j x hj=>f.cell_of (h3 j x hj) (fun hs=>by have:=hS _ hs;dsimp only at this;omega)⟩,hb⟩
theorem fP.shape {w:World} {B:Nat} {v:Value} {ys:List UInt8} (h:fP w B v ys):∃a l c,v=.slice a l c:=by
 rcases h with ⟨h,_⟩|⟨b,off,c,⟨e,_⟩,_⟩
 ·exact ⟨_,_,_,h⟩
 ·exact ⟨_,_,_,e⟩
theorem Xz {w w':World} {B g:Nat} {v:Value} {ys:List UInt8} {x:Int} {fz:Nat×Nat} (h:fP w B v ys) (f:Fr (fun k=>k=g) w w') (hg:w.heap[g]? =some (.cells #[.int .i64 x] 25 fz)):fP w' B v ys:=by
 rcases h with h|⟨b,off,c,⟨e,h1,h2,h3⟩,hb⟩
 ·exact .inl h
 ·by_cases hy:ys= []
  ·subst hy;exact .inr ⟨b,off,c,⟨e,h1,Nat.lt_of_lt_of_le h2 f.size,fun j x hj=>by simp at hj⟩,hb⟩
  ·refine .inr ⟨b,off,c,⟨e,h1,Nat.lt_of_lt_of_le h2 f.size,fun j y hj=>f.cell_of (h3 j y hj) ?_⟩,hb⟩;dsimp only;rintro rfl;have:=h3 j y hj;rw [aA hg] at this;rcases hk:off+j with _|n
   ·rw [hk] at this;simp at this
   ·rw [hk] at this;simp at this
theorem Xk {w w':World} {B g:Nat} {v:Value} {ys:List UInt8} {fz:Nat×Nat} (h:fP w B v ys) (f:Fr (fun k=>k=g) w w') (hg:w.heap[g]? =some (.cells #[.int .i64 0,.int .i64 0,.int .i64 0,.int .i64 0,.int .i64 0,.bool false,.slice none 0 0,.slice none 0 0] 29 fz)):fP w' B v ys:=by
 rcases h with h|⟨b,off,c,⟨e,h1,h2,h3⟩,hb⟩
 ·exact .inl h
 ·refine .inr ⟨b,off,c,⟨e,h1,Nat.lt_of_lt_of_le h2 f.size,fun j y hj=>f.cell_of (h3 j y hj) ?_⟩,hb⟩;dsimp only;rintro rfl;have:=h3 j y hj;rw [aA hg] at this;rcases hk:off+j with _|_|_|_|_|_|_|_|n<;>rw [hk] at this<;>simp at this
def Red (rb:Nat) (r:aF) (w w':World):Prop:=∃ev mv B,B≤w'.heap.size∧eQ w' B ev r.es∧fP w' B mv r.map∧w'.heap[rb]? =some (.cells (r.cells ev mv) 29 (0,0))∧Fr (fun k=>k=rb) w w'∧Low w.heap.size ev∧Low w.heap.size mv
def oH:Array Value:= #[.int .i64 0,.int .i64 0,.int .i64 0,.int .i64 0,.int .i64 0,.bool false,.slice none 0 0,.slice none 0 0]
theorem aCC (p q rb:Nat) (v:Value) (r:aF) (hok:r.ok) (h18:r.e≤18) (b off c:Nat) (w:World) (hp:w.heap[p]? =some (.cells #[v] 27 (0,0))) (hq:w.heap[q]? =some (.cells #[.func (Fn.func 103) #[] #[.pointer (some ⟨rb,0,none⟩)]] 172 (0,0)))
  (hr:w.heap[rb]? =some (.cells oH 29 (0,0))) (h:dC w v r.bytes b off c) (hlen:r.bytes.length≤1000000):
  Calls prog 150 #[.pointer (some ⟨p,0,none⟩),.pointer (some ⟨q,0,none⟩)] w fun x w'=>x=.returned (.tuple #[])∧Red rb r w w':=by
 have c1:w.cell? ⟨p,0,none⟩=some v:=by rw [aA hp];rfl
 have c2:w.cell? ⟨q,0,none⟩=some (.func (Fn.func 103) #[] #[.pointer (some ⟨rb,0,none⟩)]):=by rw [aA hq];rfl
 have hrb:=lt_of_block hr;have HR:=lH hr;have HN:=lH (aBh v r.bytes b off c w h hlen);obtain ⟨hfit,hraw⟩:=hok.raw;have FIT:=lH hfit;have RAW:=lH hraw;have OK:=lH hok;have H18:=lH h18;clear hp hq hr h hfit hraw hok h18;go_enter func150,ntmps150;go_wp2_with fail;refine HN.o.mono ?_;rintro x w1 ⟨e,b1,c1',rfl,e1,s1,hbe,hle,hlb,f1⟩;have c2':=f1.cell_of c2 id;have er1:Er w1 e b1 r.bytes:=⟨0,c1',e1,s1.2.1,hbe,s1.2.2.1,s1.2.2.2⟩
 obtain ⟨en,hen⟩:∃n:Nat,r.e=n:=⟨r.e.toNat,by have:=FIT.o.e;omega⟩
 obtain ⟨io,hio⟩:∃n:Nat,r.ino=n:=⟨r.ino.toNat,by have:=FIT.o.ino;omega⟩
 obtain ⟨sz,hsz⟩:∃n:Nat,r.size=n:=⟨r.size.toNat,by have:=FIT.o.size;omega⟩
 obtain ⟨hd,hhd⟩:∃n:Nat,r.handle=n:=⟨r.handle.toNat,by have:=FIT.o.handle;omega⟩
 obtain ⟨sw,hsw⟩:∃n:Nat,r.swaps=n:=⟨r.swaps.toNat,by have:=FIT.o.swaps;omega⟩
 have hb:r.bytes=aQ 1 en++(aQ 2 io++(aQ 2 sz++(aQ 1 hd++(aQ 3 sw++(qV r.dir::(aQ 2 r.es.length++(r.es.flatMap iP++(aQ 2 r.map.length++r.map)))))))):=by
  rw [RAW.o,aF.xY,aF.Dq,hen,hio,hsz,hhd,hsw];simp
 rw [hb] at er1;have HS:=lH (aDE e b1 rb en io sz hd sw r.dir r.es r.map (by have:=H18.o;omega) (by have:=FIT.o.ino;omega) (by have:=FIT.o.size;omega) (by have:=FIT.o.handle;omega) (by have:=FIT.o.swaps;omega) OK.o.2.1 FIT.o.es FIT.o.map w1 ⟨er1,f1.aC HR.o id,by omega,by omega,Fr.refl _⟩);have F1:=lH f1;clear c1 e1 s1 f1 er1 c2 hb;go_wp2_with fail;refine HS.o.mono ?_;rintro x w2 ⟨rfl,ev,mv,B,hB,he,hm,g2,k2,f2,lw1,lw2⟩;have LW:=lH (And.intro (lw1.le F1.o.size) (lw2.le F1.o.size));clear lw1 lw2;have HE:=lH he;have HM:=lH hm;have K2:=lH k2;have F2:=lH ((F1.o.bK (S:=fun k=>k=rb)).trans f2 (fun j hj h=>by rcases h with h|h;omega;exact h));obtain ⟨o2,c2,g2,_⟩:=g2;have G2:=lH g2;clear he hm k2 f2 g2 HS;go_wp2_with fail;refine (J3 e b1 o2 c2 w2 G2.o).mono ?_;rintro x w3 ⟨rfl,f3⟩;have F3:=lH f3;clear f3;go_wp2_with fail;refine (J3 e b1 o2 c2 w3 (F3.o.aC G2.o id)).mono ?_;rintro x w4 ⟨rfl,f4⟩;have F4:Hid (Fr No w2 w4):=lH (F3.o.trans f4 kp);clear f4;go_wp2_with fail;refine (xJ 0 w4).mono ?_;rintro x w5 ⟨rfl,rfl⟩;go_wp2_with fail;have hcs:r.cells ev mv= #[.int .i64 en,.int .i64 io,.int .i64 sz,.int .i64 hd,.int .i64 sw,.bool r.dir,ev,mv]:=by rw [aF.cells,hen,hio,hsz,hhd,hsw]
 exact bodyPost_end (v:=.tuple #[]) (by simp [results,results150,go_sem]) rfl ⟨rfl,ev,mv,B,Nat.le_trans hB F4.o.size,HE.o.no F4.o,HM.o.no F4.o,by rw [hcs];exact F4.o.aC K2.o id,F2.o.trans F4.o (fun _ _ e=>e.elim),LW.o⟩
theorem aB2 (rb:Nat) (v:Value) (r:aF) (hok:r.ok) (h18:r.e≤18) (hlen:r.bytes.length≤1000000) (b off c:Nat) (w:World) (h:dC w v r.bytes b off c) (hr:w.heap[rb]? =some (.cells oH 29 (0,0))):
  Calls prog 102 #[v,.func (Fn.func 103) #[] #[.pointer (some ⟨rb,0,none⟩)]] w fun x w'=>x=.returned (.int .i64 0)∧Red rb r w w':=by
 have hmf:∀(fn:Fn) (first cap:Array Value) (w:World),(Instr.makeFunc fn first cap).run prog w=.ok (.func fn first cap) w:=fun _ _ _ _=>rfl;obtain ⟨rfl,sl⟩:=h;generalize hn:r.bytes.length=n at*;have HN:=lH hn;clear hn;have F0:Fr No w ((w.alloc (.cells #[.slice (some ⟨b,off,none⟩) n c] 27)).alloc (.cells #[.func (Fn.func 103) #[] #[.pointer (some ⟨rb,0,none⟩)]] 172)):=((Fr.refl w).alloc _).alloc _;have kp:((w.alloc (.cells #[.slice (some ⟨b,off,none⟩) n c] 27)).alloc (.cells #[.func (Fn.func 103) #[] #[.pointer (some ⟨rb,0,none⟩)]] 172)).heap[w.heap.size]? =some (.cells #[.slice (some ⟨b,off,none⟩) n c] 27 (0,0)):=((Fr.refl (S:=No) _).alloc _).aC (aO w _) id;have kq:((w.alloc (.cells #[.slice (some ⟨b,off,none⟩) n c] 27)).alloc (.cells #[.func (Fn.func 103) #[] #[.pointer (some ⟨rb,0,none⟩)]] 172)).heap[w.heap.size+1]? =some (.cells #[.func (Fn.func 103) #[] #[.pointer (some ⟨rb,0,none⟩)]] 172 (0,0)):=by simpa using aO (w.alloc (.cells #[.slice (some ⟨b,off,none⟩) n c] 27)) (.cells #[.func (Fn.func 103) #[] #[.pointer (some ⟨rb,0,none⟩)]] 172)
 have hrb:=lt_of_block hr;have HR:=lH hr;have SL:=lH sl;have KP:=lH kp;have KQ:=lH kq;have OK:=lH hok;have H18:=lH h18;clear hr sl kp kq hok h18;have hsz:((w.alloc (.cells #[.slice (some ⟨b,off,none⟩) n c] 27)).alloc (.cells #[.func (Fn.func 103) #[] #[.pointer (some ⟨rb,0,none⟩)]] 172)).heap.size=w.heap.size+1+1:=by simp
 have HSZ:=lH hsz;clear hsz;go_enter func102,ntmps102;go_wp2_with fail;generalize ((w.alloc (.cells #[.slice (some ⟨b,off,none⟩) n c] 27)).alloc (.cells #[.func (Fn.func 103) #[] #[.pointer (some ⟨rb,0,none⟩)]] 172))=w0 at*;have fg:Fr No w0 (w0.alloc (.cells #[.int .i64 0] 25)):=(Fr.refl w0).alloc _;have FG:Fr No w (w0.alloc (.cells #[.int .i64 0] 25)):=F0.trans fg kp;refine (V8 w.heap.size (w.heap.size+1) (fun w1=>Red rb r (w0.alloc (.cells #[.int .i64 0] 25)) w1) w0 ?_).mono ?_
 ·refine (aCC w.heap.size (w.heap.size+1) rb _ r OK.o H18.o b off c _ (fg.aC KP.o id) (fg.aC KQ.o id) (FG.aC HR.o id) ⟨by rw [HN.o],by rw [HN.o];exact SL.o.1,Nat.lt_of_lt_of_le SL.o.2.1 FG.size,fun j y hj=>FG.cell_of (SL.o.2.2 j y hj) id⟩ (by rw [HN.o];exact hlen)).mono ?_;rintro x w1 ⟨rfl,hw⟩;have e0:=HSZ.o;have hw2:=hw;obtain ⟨ev,mv,B,hB,he,hm,k1,f1,_⟩:=hw2;exact ⟨rfl,hw,f1.aC (aO w0 _) (by omega)⟩
 ·rintro x w2 ⟨rfl,w1,⟨ev,mv,B,hB,he,hm,k1,f1,lw1,lw2⟩,f2⟩;have e0:=HSZ.o;have k2:=f2.aC k1 (by omega);have FX:Fr (fun k=>k=rb) w w2:=((FG.bK (S:=fun k=>k=rb)).trans f1 (fun j hj e=>e)).trans f2 (fun j hj e=>by omega);have kz:=f1.aC (aO w0 (.cells #[.int .i64 0] 25)) (by omega);have WX:Hid (Red rb r w w2):=lH ⟨ev,mv,B,Nat.le_trans hB f2.size,he.fr f2 (fun k hk ⟨cs,fz,h⟩=>by subst hk;rw [kz] at h;simp at h),Xz hm f2 kz,k2,FX,lw1.le FG.size,lw2.le FG.size⟩;clear he hm k1 f1 f2 k2 kz;go_wp2_with fail
  go_ret
  exact ⟨rfl,WX.o⟩
theorem Xo (v:Value) (r:aF) (hok:r.ok) (h18:r.e≤18) (hlen:r.bytes.length≤1000000) (b off c:Nat) (w:World) (h:dC w v r.bytes b off c):
  Calls prog 54 #[v] w fun x w'=>∃ev mv,x=.returned (.tuple #[.agg (r.cells ev mv),.int .i64 0])∧eQ w' w'.heap.size ev r.es∧fP w' w'.heap.size mv r.map∧Fr No w w'∧Low w.heap.size ev∧Low w.heap.size mv:=by
 have hmf:∀(fn:Fn) (first cap:Array Value) (w:World),(Instr.makeFunc fn first cap).run prog w=.ok (.func fn first cap) w:=fun _ _ _ _=>rfl;obtain ⟨rfl,sl⟩:=h;have F0:Fr No w ((w.alloc (.cells oH 29)).alloc (.cells oH 29)):=((Fr.refl w).alloc _).alloc _;have k0:((w.alloc (.cells oH 29)).alloc (.cells oH 29)).heap[w.heap.size]? =some (.cells oH 29 (0,0)):=((Fr.refl (S:=No) _).alloc _).aC (aO w _) id;have k1:((w.alloc (.cells oH 29)).alloc (.cells oH 29)).heap[w.heap.size+1]? =some (.cells oH 29 (0,0)):=by simpa using aO (w.alloc (.cells oH 29)) (.cells oH 29)
 have HR:=lH (aB2 (w.heap.size+1) _ r hok h18 hlen b off c _ ⟨rfl,sl.1,Nat.lt_of_lt_of_le sl.2.1 F0.size,fun j y hj=>F0.cell_of (sl.2.2 j y hj) id⟩ k1);have K0:=lH k0;clear k0 k1 sl hok h18 hlen;unfold oH at*;go_enter func54,ntmps54;go_wp2_with fail;with_reducible refine HR.o.mono ?_
 rintro x w2 ⟨rfl,ev,mv,B,hB,he,hm,k1,f1,lw1,lw2⟩;obtain ⟨ea,el,ec,rfl⟩:=he.shape;obtain ⟨ma,ml,mc,rfl⟩:=hm.shape;have LW:=lH (And.intro (lw1.le F0.size) (lw2.le F0.size));clear lw1 lw2;have HE:=lH he;have HM:=lH hm;unfold aF.cells at*;have K1:=lH k1;have K2:=lH (f1.aC K0.o (by omega));have FX:Hid (Fr No w w2):=lH ((F0.bK.trans f1 kp).no (fun k hk=>by omega));have HOC:=lH (show (#[.int .i64 r.e,.int .i64 r.ino,.int .i64 r.size,.int .i64 r.handle,.int .i64 r.swaps,.bool r.dir,.slice ea el ec,.slice ma ml mc]:Array Value).all (·.oneCell')=true from by simp [Value.oneCell']);clear he hm k1 f1 HR F0 K0;go_wp2_with (first|(refine wpList_load_row rfl 29 (.tmp 4) rfl (w.heap.size+1) rfl 29 _ (0,0) _ K1.o underlying29 rfl Tryz.size29 ?_)|(refine wpList_store_row rfl 29 (.tmp 2) (.tmp 13) rfl w.heap.size #[.int .i64 r.e,.int .i64 r.ino,.int .i64 r.size,.int .i64 r.handle,.int .i64 r.swaps,.bool r.dir,.slice ea el ec,.slice ma ml mc] rfl rfl 29 _ K2.o Tryz.size29 rfl HOC.o ?_));all_goals
  have KF:=dS (cs':= #[.int .i64 r.e,.int .i64 r.ino,.int .i64 r.size,.int .i64 r.handle,.int .i64 r.swaps,.bool r.dir,.slice ea el ec,.slice ma ml mc]) K2.o;have FF:=FX.o.setRow (g:=w.heap.size) (.inr (Nat.le_refl _)) #[.int .i64 r.e,.int .i64 r.ino,.int .i64 r.size,.int .i64 r.handle,.int .i64 r.swaps,.bool r.dir,.slice ea el ec,.slice ma ml mc];have FR:Fr (fun k=>k=w.heap.size) w2 (w2.setRow w.heap.size #[.int .i64 r.e,.int .i64 r.ino,.int .i64 r.size,.int .i64 r.handle,.int .i64 r.swaps,.bool r.dir,.slice ea el ec,.slice ma ml mc]):=Fr.setRow (S:=fun k=>k=w.heap.size) (Fr.refl w2) (.inl rfl) _;have HE2:=(HE.o.fr FR (fun k hk ⟨cs,fz,h⟩=>by subst hk;rw [K2.o] at h;simp at h)).le (Nat.le_trans hB FR.size);have HM2:=(Xk HM.o FR K2.o).le (Nat.le_trans hB FR.size);generalize w2.setRow w.heap.size #[.int .i64 r.e,.int .i64 r.ino,.int .i64 r.size,.int .i64 r.handle,.int .i64 r.swaps,.bool r.dir,.slice ea el ec,.slice ma ml mc]=w3 at*;exact bodyPost_ret (aCJ _ _ w.heap.size _ (0,0) (.int .i64 0) rfl rfl KF rfl) rfl ⟨_,_,rfl,HE2,HM2,FF,LW.o⟩
def mG (S:St) (r:aJ):Int×aF×St:=
 if (lookOf S.T r.path).1≠0 then ((lookOf S.T r.path).1,bD,S)
 else if (lookOf S.T r.path).2.2=true then (9,bD,S)
 else if (fV S.K r.c (lookOf S.T r.path).2.1 r.wr).1≠0 then ((fV S.K r.c (lookOf S.T r.path).2.1 r.wr).1,bD,S)
 else (0,oL (lookOf S.T r.path).2.1 ((S.F (lookOf S.T r.path).2.1).getD gZ) (fV S.K r.c (lookOf S.T r.path).2.1 r.wr).2.1,{S with K:=(fV S.K r.c (lookOf S.T r.path).2.1 r.wr).2.2})
theorem Ze {L:List Tok} {c i:Int} {b:Bool} (h:(fV L c i b).1≠0):(fV L c i b).2.2=L:=by
 unfold fV at h ⊢;split
 ·rfl
 ·split
  ·rfl
  ·rename_i h1 h2
   rw [if_neg h1,if_neg h2] at h;exact absurd rfl h
theorem aU.yO {S:St} (ok:aU S) (K':List Tok):aU {S with K:=K'}:=⟨ok.tree,ok.file⟩
theorem aCq (o:Nat→Nat) (K n:Nat) (L:aT) (S:St) (r:aJ) (rv dv:Value) (w:World) (h:aK w o K L S n) (ok:aU S) (fit:zK S) (hf:aP w o) (hl:r.path.length≤1000000) (hc:0≤r.c∧r.c<4):
  Calls prog 87 #[.pointer (some ⟨L.s,0,none⟩),.agg (r.cells rv dv)] w (aX w o K L n (mG S r)):=by
 obtain ⟨f0,k0,k1,H0,G0⟩:=begun h ok hf r rv dv;have F0:=lH f0;have HL:Hid (∀w',Fr No (bQ w r rv dv) w'→Calls prog 72 #[.pointer (some ⟨L.tr,0,none⟩),.string (ba r.path)] w' fun e w''=>e=.returned (.tuple #[.int .i64 (lookOf S.T r.path).2.1,.bool (lookOf S.T r.path).2.2,.int .i64 (lookOf S.T r.path).1])∧Fr No w' w''):=
  lH (fun w' f=>vK o K L.tr S.T r.path w' hl ((H0.no ok G0 f).tree) ok.tree (Step.no (C:=fun _=>False) G0 f).fresh)
 have HFL:Hid ((lookOf S.T r.path).1=0→(lookOf S.T r.path).2.2=false→2≤(lookOf S.T r.path).2.1∧(lookOf S.T r.path).2.1≤128∧∃m,S.F (lookOf S.T r.path).2.1=some m):=lH (fun h0 h1=>by
  obtain ⟨x,hx,hd⟩:=look_ok ok.tree h0;obtain ⟨m,hm⟩:=fit.dir _ x hx (by rw [hd,h1]);have h2:=ok.tree.lt hx;have h3:(lookOf S.T r.path).2.1≠1:=by
   intro e;rw [e,ok.tree.root] at hx;cases hx;rw [h1] at hd;cases hd
  exact ⟨by omega,h2.2,m,hm⟩)
 have HO:Hid (∀i:Nat,2≤i∧i≤128→∀w',Fr No (bQ w r rv dv) w'→Calls prog 136 #[.pointer (some ⟨L.tk,0,none⟩),.int .i64 r.c,.int .i64 i,.bool r.wr] w' (xR w' o K L.tk S.K (fV S.K r.c i r.wr))):=lH (fun i hi w' f=>
  open_ o K L.tk S.K r.c i r.wr w' ((H0.no ok G0 f).tok) (Step.no (C:=fun _=>False) G0 f).fresh hc (by omega) fit.small fit.few)
 have HS:Hid (∀w' w'' o' K',Fr No (bQ w r rv dv) w'→Step (fQ K) w' o w'' o'→iM w'' o' K L.tk K'→aK w'' o' K L {S with K:=K'} n):=lH (fun w' w'' o' K' f s t=>(H0.no ok G0 f).yO ok s t);have HM:Hid (∀(i:Nat) m w' o' K',i≤128→S.F i=some m→aK w' o' K L {S with K:=K'} n→Calls prog 137 #[.pointer (some ⟨L.s,0,none⟩),.int .i64 i] w' (Gv w' i m)):=lH (fun i m w' o' K' hi hm t=>
  Lu o' K n L {S with K:=K'} i m w' t (by omega) hm (fit.fit i m hm))
 have HR:Hid ((lookOf S.T r.path).1≠0→∀e w',e=.panicked (iW (lookOf S.T r.path).1)→Fr No w w'→aX w o K L n (mG S r) e w'):=lH (fun hne e w' he f=>by
  unfold mG;rw [if_pos hne];exact aX.no h ok hf hne he f)
 have HR2:Hid ((lookOf S.T r.path).1=0→(lookOf S.T r.path).2.2=true→∀e w',e=.panicked (iW 9)→Fr No w w'→aX w o K L n (mG S r) e w'):=lH (fun h0 h1 e w' he f=>by
  unfold mG;rw [if_neg (by simp [h0]),if_pos h1];exact aX.no h ok hf (by decide) he f)
 have HR3:Hid ((lookOf S.T r.path).1=0→(lookOf S.T r.path).2.2=false→(fV S.K r.c (lookOf S.T r.path).2.1 r.wr).1≠0→∀e w' w'' o',e=.panicked (iW (fV S.K r.c (lookOf S.T r.path).2.1 r.wr).1)→Fr No w w'→Step (fQ K) w' o w'' o'→aK w'' o' K L {S with K:=(fV S.K r.c (lookOf S.T r.path).2.1 r.wr).2.2} n→aX w o K L n (mG S r) e w''):=lH (fun h0 h1 hne e w' w'' o' he f s t=>by
  unfold mG;rw [if_neg (by simp [h0]),if_neg (by simp [h1]),if_pos hne];rw [Ze hne] at t;exact aX.no' hf f s (fun _ e=>Ap e) t hne he)
 have HQ:Hid ((lookOf S.T r.path).1=0→(lookOf S.T r.path).2.2=false→(fV S.K r.c (lookOf S.T r.path).2.1 r.wr).1=0→∀m,S.F (lookOf S.T r.path).2.1=some m→∀v b c e w' w'' w3 o',
   e=.returned (.agg #[.int .i64 0,.int .i64 (lookOf S.T r.path).2.1,.int .i64 m.size,.int .i64 (fV S.K r.c (lookOf S.T r.path).2.1 r.wr).2.1,.int .i64 0,.bool false,.slice none 0 0,v])→Fr No w w'→w.heap.size+1<w'.heap.size→Step (fQ K) w' o w'' o'→
   aK w'' o' K L {S with K:=(fV S.K r.c (lookOf S.T r.path).2.1 r.wr).2.2} n→dC w3 v (iI m) b 0 c→w.heap.size≤b→Fr (fun j=>j=w.heap.size+1) w'' w3→aX w o K L n (mG S r) e w3):=lH (fun h0 h1 h2 m hm v b c e w' w'' w3 o' he f hs s t hv hb g=>by
  unfold mG;rw [if_neg (by simp [h0]),if_neg (by simp [h1]),if_neg (by simp [h2]),hm];dsimp only [Option.getD_some];exact aX.yes hf f s (fun _ e=>Ap e) (by omega) hs g (ok.yO _) t he ⟨_,_,rfl,.inl ⟨rfl,rfl⟩,.inr ⟨b,0,c,hv,hv.2.2.1⟩,Low.nil _,Low.at hv.1 hb⟩)
 generalize hQ:aX w o K L n (mG S r)=Q at*;clear hQ;have NS:Hid (¬fQ K (o L.s)):=lH (by rw [h.own];unfold fQ;omega);have NB:Hid (¬fQ K (o w.heap.size)):=lH (by rw [hf _ (Nat.le_refl _)];unfold fQ;omega);have NR:Hid (¬fQ K (o (w.heap.size+1))):=lH (by rw [hf _ (Nat.le_succ _)];unfold fQ;omega);have HH:=lH H0;have HG:=lH G0;clear H0 G0 f0 h ok hf hl fit hc;generalize lookOf S.T r.path=X at*;obtain ⟨er,i,d⟩:=X;dsimp only at HL HFL HR HR2 HR3 HQ;unfold xR mP at HO;unfold bQ aJ.cells bD aF.cells at*;go_enter func87,ntmps87;go_wp2_with fail;generalize (w.alloc (.cells #[.int .i64 r.c,.int .i64 r.l,.int .i64 r.q,.int .i64 r.kind,.string (ba r.path),.string (ba r.to),.bool r.dir,.bool r.wr,.bool r.cl,.int .i64 r.h,.int .i64 r.nx,.int .i64 r.sw,rv,dv] 36)).alloc (.cells #[.int .i64 0,.int .i64 0,.int .i64 0,.int .i64 0,.int .i64 0,.bool false,.slice none 0 0,.slice none 0 0] 29)=w0 at*;have B1:=lH (lt_of_block k1);generalize hb0:w.heap.size=b0 at*;have c9:w0.cell? ⟨L.s,9,none⟩=some (.pointer (some ⟨L.tr,0,none⟩)):=HH.o.cell 9;have c10:w0.cell? ⟨L.s,10,none⟩=some (.pointer (some ⟨L.tk,0,none⟩)):=HH.o.cell 10;have d0:w0.cell? ⟨b0,0,none⟩=some (.int .i64 r.c):=by rw [aA k0];rfl
 have d4:w0.cell? ⟨b0,4,none⟩=some (.string (ba r.path)):=by rw [aA k0];rfl
 have d7:w0.cell? ⟨b0,7,none⟩=some (.bool r.wr):=by rw [aA k0];rfl
 have K1:=lH k1;have C10:=lH c10;have D0:=lH d0;have D7:=lH d7;clear k0 k1 c10 d0 d7;go_region_held3 (fun w'=>w'.cell? ⟨L.s,9,none⟩=some (.pointer (some ⟨L.tr,0,none⟩))∧w'.cell? ⟨b0,4,none⟩=some (.string (ba r.path))) (first|go_keep|(go_split_ands;refine ⟨?_,?_⟩<;>exact f1.cell_of (by assumption) id))
  ((go_at_call 72;refine (HL.o _ (Fr.refl _).drew).mono ?_;rintro e w1 ⟨rfl,f1⟩))
 have F1:=lH ((Fr.refl w0).drew.trans f1 kp);clear f1 c9 d4;cases hx:(er==0) with
 | false=>
  have hne:er≠0:=by simpa using hx
  go_wp2_with fail;refine (fJ _ _).mono ?_;rintro e w2 ⟨rfl,rfl⟩;go_wp2_with fail;exact ⟨rfl,HR.o hne _ _ rfl (F0.o.trans F1.o kp)⟩
 | true=>
  obtain rfl:er=0:=by simpa using hx
  clear hx;cases d with
  | true=>
   go_wp2_with fail;refine (gU _ _).mono ?_;rintro e w2 ⟨rfl,rfl⟩;go_wp2_with fail;refine (fJ _ _).mono ?_;rintro e w2 ⟨rfl,rfl⟩;go_wp2_with fail;exact ⟨rfl,HR2.o trivial trivial _ _ rfl (F0.o.trans F1.o kp)⟩
  | false=>
   obtain ⟨hi2,hi3,m,hm⟩:=HFL.o rfl rfl;have HOi:=lH (HO.o i ⟨hi2,hi3⟩);have HR3':=lH (HR3.o rfl rfl);have HQ':=lH (HQ.o rfl rfl);have HMI:=lH (fun w' o' K'=>HM.o i m w' o' K' hi3 hm);have HMM:=lH hm;clear HR HR2 HR3 HQ hm;clear HO HFL HL;generalize fV S.K r.c i r.wr=Y at*;obtain ⟨ey,hy,K'⟩:=Y;dsimp only at HOi HR3' HQ';go_wp2_with fail;refine (gU _ _).mono ?_;rintro e w2 ⟨rfl,rfl⟩;go_wp2_with fail;refine (gU _ _).mono ?_;rintro e w2 ⟨rfl,rfl⟩;go_wp2_with fail;have c10:w2.cell? ⟨L.s,10,none⟩=some (.pointer (some ⟨L.tk,0,none⟩)):=F1.o.cell_of C10.o id;have d0:w2.cell? ⟨b0,0,none⟩=some (.int .i64 r.c):=F1.o.cell_of D0.o id;have d7:w2.cell? ⟨b0,7,none⟩=some (.bool r.wr):=F1.o.cell_of D7.o id;have FD:=lH (F1.o.trans (Fr.refl w2).drew kp);go_region_held3 (fun w'=>w'.cell? ⟨L.s,10,none⟩=some (.pointer (some ⟨L.tk,0,none⟩))∧w'.cell? ⟨b0,0,none⟩=some (.int .i64 r.c)∧w'.cell? ⟨b0,7,none⟩=some (.bool r.wr)) (first|go_keep|(go_split_ands;refine ⟨?_,?_,?_⟩<;>exact s3.fr.cell_of (by assumption) (by first|exact NS.o|exact NB.o)))
    ((go_at_call 136;refine (HOi.o _ FD.o).mono ?_;rintro e w3 ⟨rfl,o',s3,t3⟩))
   have ST3:=lH (HS.o _ _ _ _ FD.o s3 t3);have S3:=lH s3;have FF:=lH (F0.o.trans FD.o kp);have SZ:Hid (b0+1<w2.drew.heap.size):=lH (by have:=FD.o.size;have:=B1.o;omega);have K3:=lH (s3.fr.aC (FD.o.aC K1.o id) NR.o);clear s3 t3 c10 d0 d7;cases hx:(ey==0) with
   | false=>
    have hne:ey≠0:=(by simpa using hx)
    have HX:=lH (HR3'.o hne _ _ _ _ rfl FF.o S3.o ST3.o);go_wp2_with fail;refine (fJ _ _).mono ?_;rintro e w4 ⟨rfl,rfl⟩;go_wp2_with fail;exact ⟨rfl,HX.o⟩
   | true=>
    obtain rfl:ey=0:=(by simpa using hx)
    clear hx;have HCC:=lH (HMI.o _ _ _ ST3.o);go_wp2_with fail;refine (gU _ _).mono ?_;rintro e w4 ⟨rfl,rfl⟩;go_wp2_with fail;refine HCC.o.mono ?_;rintro e w5 ⟨v,b,c,rfl,f5,sl,hb⟩;obtain rfl:=sl.1;have F5:=lH f5;have K5:=lH (f5.aC K3.o id);have SL:=lH sl;have HBB:Hid (b0+1<b):=lH (by have:=S3.o.fr.size;have:=SZ.o;omega);have F6:=lH ((f5.alloc (.cells #[.int .i64 0,.int .i64 i,.int .i64 m.size,.int .i64 hy,.int .i64 0,.bool false,.slice none 0 0,.slice (some ⟨b,0,none⟩) (iI m).length c] 29)));have K6:=lH (F6.o.aC K3.o id);have HO2:=lH (show (#[.int .i64 0,.int .i64 i,.int .i64 m.size,.int .i64 hy,.int .i64 0,.bool false,.slice none 0 0,.slice (some ⟨b,0,none⟩) (iI m).length c]:Array Value).all (·.oneCell')=true from by simp [Value.oneCell']);clear f5 sl hb;go_wp2_with (refine wpList_store_row rfl 29 (.tmp 4) (.tmp 51) rfl (b0+1) #[.int .i64 0,.int .i64 i,.int .i64 m.size,.int .i64 hy,.int .i64 0,.bool false,.slice none 0 0,.slice (some ⟨b,0,none⟩) (iI m).length c] rfl rfl 29 _ K6.o Tryz.size29 rfl HO2.o ?_);have KF:=dS (cs':= #[.int .i64 0,.int .i64 i,.int .i64 m.size,.int .i64 hy,.int .i64 0,.bool false,.slice none 0 0,.slice (some ⟨b,0,none⟩) (iI m).length c]) K6.o;generalize hw6:w5.alloc (.cells #[.int .i64 0,.int .i64 i,.int .i64 m.size,.int .i64 hy,.int .i64 0,.bool false,.slice none 0 0,.slice (some ⟨b,0,none⟩) (iI m).length c] 29)=w6 at*;have FS:Fr (fun j=>j=b0+1) w6 (w6.setRow (b0+1) #[.int .i64 0,.int .i64 i,.int .i64 m.size,.int .i64 hy,.int .i64 0,.bool false,.slice none 0 0,.slice (some ⟨b,0,none⟩) (iI m).length c]):=Fr.setRow (S:=fun j=>j=b0+1) (Fr.refl _) (.inl rfl) _;have hne:b≠b0+1:=(by have:=HBB.o;omega)
    have S6:dC w6 (.slice (some ⟨b,0,none⟩) (iI m).length c) (iI m) b 0 c:=by
     have f6:Fr No w5 w6:=(by rw [← hw6];exact (Fr.refl _).alloc _)
     exact ⟨SL.o.1,SL.o.2.1,Nat.lt_of_lt_of_le SL.o.2.2.1 f6.size,fun j y hj=>f6.cell_of (SL.o.2.2.2 j y hj) id⟩
    exact bodyPost_ret (v:=.agg #[.int .i64 0,.int .i64 i,.int .i64 m.size,.int .i64 hy,.int .i64 0,.bool false,.slice none 0 0,.slice (some ⟨b,0,none⟩) (iI m).length c]) (results_cell_row rfl _ _ (b0+1) 29 _ (0,0) _ rfl KF underlying29 rfl Tryz.size29) rfl
     (HQ'.o trivial m HMM.o _ b c _ _ _ _ _ rfl FF.o SZ.o S3.o ST3.o ⟨S6.1,S6.2.1,Nat.lt_of_lt_of_le S6.2.2.1 FS.size,fun j y hj=>FS.cell_of (S6.2.2.2 j y hj) hne⟩ (by have:=HBB.o;omega) (F6.o.bK.trans FS kp))
structure bY (S:St) (q:Nat):Prop where
 ok:aU S
 pts:jP S.F
 dir:∀k x,S.T k=some x→x.dir=false→∃m,S.F k=some m
 tok:∀x∈S.K,∃i m,x.i=((i:Nat):Int)∧i≤128∧S.F i=some m
 small:∀x∈S.K,small x
 few:S.K.length≤q
 boots:0≤S.boots∧S.boots≤q
 swaps:0≤S.swaps∧S.swaps≤q
 clock:0≤S.clock∧S.clock≤q
 win:∀i y,S.W i=some y→∃rep:aF,rep.ok∧0≤rep.e∧rep.e≤18∧y.2.2=rep.bytes
theorem bY.more {S:St} {q q':Nat} (h:bY S q) (hq:q≤q'):bY S q':=
 ⟨h.ok,h.pts,h.dir,h.tok,h.small,Nat.le_trans h.few hq,⟨h.boots.1,by have:=h.boots.2;omega⟩,⟨h.swaps.1,by have:=h.swaps.2;omega⟩,⟨h.clock.1,by have:=h.clock.2;omega⟩,h.win⟩
theorem bY.fits {S:St} {q:Nat} (h:bY S q) (hq:q≤1000000):zK S:=
 ⟨h.tok,fun i m hi=>(Bd (h.ok.file i m hi).2.2 (h.pts i m hi)).1,h.dir,h.small,Nat.le_trans h.few hq⟩
structure Fine (q:Nat) (x:Int×aF×St):Prop where
 code:0≤x.1∧x.1≤18
 rep:x.1=0→x.2.1.e=0∧∀s:Int,0≤s∧s<16777216→aF.ok {x.2.1 with swaps:=s}
 inv:bY x.2.2 q
theorem Fine.no {S:St} {q:Nat} (h:bY S q) {c:Int} (h0:c≠0) (hc:0≤c∧c≤18) (r:aF):Fine q (c,r,S):=⟨hc,fun e=>absurd e h0,h⟩
theorem Fine.plain {S:St} {q:Nat} (h:bY S q) {i z k:Int} {d:Bool} (hi:0≤i∧i<65536) (hz:0≤z∧z<65536) (hh:0≤k∧k<256):Fine q (0,gV 0 i z k 0 d,S):=
 ⟨by dsimp only;omega,fun _=>⟨rfl,fun _ hs=>Bi (e:=0) (by omega) hi hz hh hs⟩,h⟩
theorem Ur (T:Tree):∀(ps:List (List UInt8)) (k:Nat),0≤(dF T k ps).1∧(dF T k ps).1≤18
 | [],k=>by simp [dF]
 | s::r,k=>by
  unfold dF;split
  ·simp
  ·split
   ·split
    ·exact Ur T r _
    ·simp
   ·simp
theorem Rt (T:Tree) (ps:List (List UInt8)):0≤(seen T ps).1∧(seen T ps).1≤18:=by
 unfold seen;split
 ·simp
 ·exact Ur T ps 1
theorem wM (T:Tree) (l:List UInt8):0≤(lookOf T l).1∧(lookOf T l).1≤18:=by
 unfold lookOf;split
 ·simp
 ·exact Rt T _
theorem Kz (T:Tree) (l:List UInt8):0≤(placeOf T l).1∧(placeOf T l).1≤18:=by
 unfold placeOf;split
 ·simp
 ·simp
 ·unfold stands;split
  ·split<;>simp
  ·exact Rt T _
theorem Y3 (T:Tree) (l:List UInt8):0≤(dP T l).1∧(dP T l).1≤18:=by
 unfold dP;split
 ·simp
 ·split
  ·exact Kz T l
  ·split
   ·simp
   ·split<;>simp
theorem aBC (T:Tree) (l:List UInt8) (b:Bool):0≤(dO T l b).1∧(dO T l b).1≤18:=by
 unfold dO;split
 ·exact wM T l
 ·split
  ·simp
  ·split
   ·simp
   ·split
    ·simp
    ·split<;>simp
theorem aBz (T:Tree) (p q:List UInt8):0≤iL T p q∧iL T p q≤18:=by
 unfold iL;split
 ·exact wM T p
 ·split
  ·simp
  ·split
   ·simp
   ·split
    ·simp
    ·split
     ·simp
     ·split
      ·exact Kz T q
      ·split<;>simp
theorem Zh (T:Tree) (l:List UInt8):0≤(listOf T l).1∧(listOf T l).1≤18:=by
 unfold listOf;split
 ·exact wM T l
 ·split<;>simp
theorem Yi (L:List Tok) (c i:Int) (b:Bool):0≤(fV L c i b).1∧(fV L c i b).1≤18:=by
 unfold fV;split
 ·simp
 ·split<;>simp
theorem Ub (S:St) (sw nx:Int) (st:List Sz) (c l:Int):0≤(eX S sw nx st c l).1∧(eX S sw nx st c l).1≤18:=by
 unfold eX;split
 ·simp
 ·split
  ·simp
  ·split<;>simp
theorem L6 {T:Tree} {l:List UInt8} (h:(dP T l).1=0):(dP T l).2=free T:=by
 unfold dP at h ⊢;split at h
 ·cases h
 ·split at h
  ·rename_i h1
   exact absurd h h1
  ·split at h
   ·cases h
   ·split at h
    ·cases h
    ·rename_i h1 h2 h3 h4
     rw [if_neg h1,if_neg h2,if_neg h3,if_neg h4]
theorem tJ (F:Nat→Option aG) {i j:Nat} (x:Option aG) (h:j≠i):bC F i x j=F j:=by simp [bC,h]
theorem xX {F:Nat→Option aG} {i j:Nat} {m y:aG} (h:F j=some y):∃z,bC F i (some m) j=some z:=by
 unfold bC;split
 ·exact ⟨_,rfl⟩
 ·exact ⟨_,h⟩
theorem Yt {S:St} {q:Nat} (h:bY S q) (r:aJ):Fine q (pI S r):=by
 unfold pI;split
 ·rename_i h0
  have ha:=yF h.ok.tree h0;have hf:=L6 h0;have hi:=Fz h.ok.tree h0;refine Fine.plain ⟨Ji h.ok h0,?_,?_,?_,h.small,h.few,h.boots,h.swaps,h.clock,h.win⟩ (by omega) (by omega) (by omega)
  ·unfold kL;dsimp only;split
   ·exact h.pts
   ·exact h.pts.put _ (by simp [gZ])
  ·intro k x hk hd;unfold kL kK grown at hk;unfold kL;dsimp only at hk ⊢;rw [if_pos h0] at hk;by_cases e:k=free S.T
   ·subst e;rw [upd_same] at hk;cases hk;dsimp only at hd;rw [hd,if_neg (by simp),hf];exact ⟨_,vW _ _ _⟩
   ·rw [bF _ _ e] at hk;obtain ⟨m,hm⟩:=h.dir k x hk hd;split
    ·exact ⟨m,hm⟩
    ·exact xX hm
  ·intro x hx;obtain ⟨i,m,h1,h2,h3⟩:=h.tok x hx;unfold kL;dsimp only;split
   ·exact ⟨i,m,h1,h2,h3⟩
   ·obtain ⟨z,hz⟩:=xX (i:=(dP S.T r.path).2) (m:=gZ) h3;exact ⟨i,z,h1,h2,hz⟩
 ·rename_i h0
  exact Fine.no h h0 (Y3 _ _) _
theorem aCV {S:St} {q:Nat} (h:bY S q) (r:aJ):Fine q (mJ S r):=by
 unfold mJ;split
 ·rename_i h0
  exact Fine.no h h0 (wM _ _) _
 ·rename_i h0
  split
  ·exact Fine.no h (by decide) (by omega) _
  ·rename_i h1
   split
   ·rename_i h2
    exact Fine.no h h2 (aBC _ _ _) _
   ·rename_i h2
    have h0:(lookOf S.T r.path).1=0:=Classical.byContradiction h0;have h1:mayRemove S r:=Classical.byContradiction h1;have h2:(dO S.T r.path r.dir).1=0:=Classical.byContradiction h2;have hn:=(Hw h.ok.tree h2).1;have hi:(dO S.T r.path r.dir).2=(lookOf S.T r.path).2.1∧(r.dir=true→(lookOf S.T r.path).2.2=true):=by
     unfold dO at h2 ⊢;rw [if_neg (by simp [h0])] at h2 ⊢;split at h2
     ·cases h2
     ·rename_i a1
      rw [if_neg a1];split at h2
      ·cases h2
      ·rename_i a2
       rw [if_neg a2];split at h2
       ·cases h2
       ·rename_i a3
        rw [if_neg a3];split at h2
        ·cases h2
        ·rename_i a4
         rw [if_neg a4];refine ⟨rfl,fun hd=> ?_⟩;cases hl:(lookOf S.T r.path).2.2 with
         | true=>rfl
         | false=>exact absurd ⟨hd,hl⟩ a2
    obtain ⟨hi,hd⟩:=hi;have hT:(kM S r).T=bW S.T (lookOf S.T r.path).2.1:=by
     unfold kM;split<;>(dsimp only;unfold jJ;rw [if_pos h2,hi])
    refine Fine.plain ?_ (by omega) (by omega) (by omega);have hok:dD (bW S.T (lookOf S.T r.path).2.1):=by
     have:=zM h.ok.tree r.path r.dir;unfold jJ at this;rw [if_pos h2,hi] at this;exact this
    cases hl:(lookOf S.T r.path).2.2 with
    | true=>
     have e:kM S r={S with T:=bW S.T (lookOf S.T r.path).2.1}:=by
      unfold kM jJ;rw [if_pos hl,if_pos h2,hi]
     rw [e];refine ⟨⟨hok,h.ok.file⟩,h.pts,fun k x hk hx=> ?_,h.tok,h.small,h.few,h.boots,h.swaps,h.clock,h.win⟩;dsimp only at hk;unfold bW at hk;by_cases ek:k=(lookOf S.T r.path).2.1
     ·rw [ek,upd_same] at hk;cases hk
     ·rw [bF _ _ ek] at hk;exact h.dir k x hk hx
    | false=>
     have hb:(S.K.any fun x=>x.i==(lookOf S.T r.path).2.1)=false:=by
      rcases h1 with h1|h1|h1
      ·rw [hl] at h1;cases h1
      ·rw [hd h1] at hl;cases hl
      ·exact h1
     have e:kM S r={S with T:=bW S.T (lookOf S.T r.path).2.1,F:=bC S.F (lookOf S.T r.path).2.1 none,U:=iD (bC S.F (lookOf S.T r.path).2.1 none) S.U}:=by
      unfold kM jJ;rw [if_neg (by simp [hl]),if_pos h2,hi]
     rw [e];refine ⟨⟨hok,fun i m hm=>h.ok.file i m (yS hm)⟩,h.pts.less _,fun k x hk hx=> ?_,fun x hx=> ?_,h.small,h.few,h.boots,h.swaps,h.clock,h.win⟩
     ·dsimp only at hk;unfold bW at hk;by_cases ek:k=(lookOf S.T r.path).2.1
      ·rw [ek,upd_same] at hk;cases hk
      ·rw [bF _ _ ek] at hk;obtain ⟨m,hm⟩:=h.dir k x hk hx;exact ⟨m,by dsimp only;rw [tJ _ _ ek];exact hm⟩
     ·obtain ⟨i,m,a1,a2,a3⟩:=h.tok x hx;refine ⟨i,m,a1,a2,?_⟩;dsimp only;rw [tJ _ _ (fun ei=> ?_)]
      ·exact a3
      ·have:=List.any_eq_false.1 hb x hx;rw [a1,ei] at this;simp at this
theorem aBT {S:St} {q:Nat} (h:bY S q) (r:aJ):Fine q (pM S r):=by
 unfold pM;split
 ·rename_i h0
  refine Fine.plain (S:={S with T:=lQ S.T r.path r.to}) ⟨⟨Kr h.ok.tree _ _,h.ok.file⟩,h.pts,fun k x hk hx=> ?_,h.tok,h.small,h.few,h.boots,h.swaps,h.clock,h.win⟩ (by omega) (by omega) (by omega);dsimp only at hk ⊢;unfold lQ at hk;rw [if_pos h0] at hk;unfold moved at hk;by_cases ek:k=(lookOf S.T r.path).2.1
  ·rw [ek,upd_same] at hk;cases hk;dsimp only at hx;have hl:(lookOf S.T r.path).1=0:=by
    unfold iL at h0;split at h0
    ·rename_i a
     exact absurd h0 a
    ·rename_i a
     exact Classical.byContradiction a
   obtain ⟨y,hy,hd⟩:=look_ok h.ok.tree hl;rw [ek];exact h.dir _ y hy (by rw [hd];exact hx)
  ·rw [bF _ _ ek] at hk;exact h.dir k x hk hx
 ·rename_i h0
  exact Fine.no h h0 (aBz _ _ _) _
theorem aBr {F:Nat→Option aG} (h:∀i m,F i=some m→1≤i∧i≤128∧fU m) (i:Nat):0≤qK F i∧qK F i<65536:=by
 unfold qK;cases hi:F i with
 | none=>simp
 | some m=>
  have:=(h i m hi).2.2.1;dsimp only;omega
theorem Vq {S:St} {q:Nat} (h:bY S q) (r:aJ):Fine q (pG S r):=by
 unfold pG;split
 ·rename_i h0
  have h1:=Ig h.ok.tree h0;exact ⟨by dsimp only;omega,fun _=>⟨rfl,fun s hs=>Bi (e:=0) (i:=(lookOf S.T r.path).2.1) (h:=0) (by omega) (by omega) (aBr h.ok.file _) (by omega) hs⟩,h⟩
 ·rename_i h0
  exact Fine.no h h0 (wM _ _) _
theorem aAD {S:St} {q:Nat} (h:bY S q) (r:aJ):Fine q (oP S r):=by
 unfold oP;split
 ·exact ⟨by dsimp only;omega,fun _=>⟨rfl,fun s hs=>X8 h.ok.tree _ hs⟩,h⟩
 ·rename_i h0
  exact Fine.no h h0 (Zh _ _) _
theorem aA9 {S:St} {q:Nat} (h:bY S q) (r:aJ):Fine q (mapD S r):=by
 unfold mapD;split
 ·exact Fine.no h (by decide) (by omega) _
 ·rename_i x hx
  obtain ⟨i,m,h1,h2,h3⟩:=h.tok x (List.mem_of_find?_eq_some hx);rw [h1,Int.toNat_natCast,h3];exact ⟨by dsimp only;omega,fun _=>⟨rfl,fun s hs=>Ou h2 (h.ok.file i m h3).2.2 (h.pts i m h3) (by omega) hs⟩,h⟩
theorem Yy {S:St} {q:Nat} (h:bY S q) (r:aJ) (hc:0≤r.c∧r.c<4):Fine (q+1) (mG S r):=by
 have h':=h.more (Nat.le_succ q);unfold mG;split
 ·rename_i h0
  exact Fine.no h' h0 (wM _ _) _
 ·rename_i h0
  split
  ·exact Fine.no h' (by decide) (by omega) _
  ·rename_i h1
   split
   ·rename_i h2
    exact Fine.no h' h2 (Yi _ _ _ _) _
   ·rename_i h2
    have h0:(lookOf S.T r.path).1=0:=Classical.byContradiction h0;have h2:(fV S.K r.c (lookOf S.T r.path).2.1 r.wr).1=0:=Classical.byContradiction h2;obtain ⟨y,hy,hd⟩:=look_ok h.ok.tree h0;have hl:=h.ok.tree.lt hy;obtain ⟨m,hm⟩:=h.dir _ y hy (by rw [hd];simpa using h1);rw [hm,Option.getD_some];have hfree:lV S.K r.c<4∧(fV S.K r.c (lookOf S.T r.path).2.1 r.wr).2.1=lV S.K r.c∧(∀x∈(fV S.K r.c (lookOf S.T r.path).2.1 r.wr).2.2,x=⟨r.c,lV S.K r.c,(lookOf S.T r.path).2.1,r.wr⟩∨x∈S.K)∧(fV S.K r.c (lookOf S.T r.path).2.1 r.wr).2.2.length=S.K.length+1:=by
     unfold fV at h2 ⊢;split at h2
     ·cases h2
     ·rename_i a1
      rw [if_neg a1];split at h2
      ·cases h2
      ·rename_i a2
       rw [if_neg a2];refine ⟨by omega,rfl,fun x hx=> ?_,?_⟩
       ·dsimp only at hx;rcases List.mem_append.1 hx with hx|hx
        ·exact .inr (List.takeWhile_subset _ hx)
        ·rcases List.mem_cons.1 hx with hx|hx
         ·exact .inl hx
         ·exact .inr (List.dropWhile_subset _ hx)
       ·dsimp only;rw [List.length_append,List.length_cons];have:=congrArg List.length (List.takeWhile_append_dropWhile (p:=fun x=>decide (0<l9 ⟨r.c,lV S.K r.c,(lookOf S.T r.path).2.1,r.wr⟩ x)) (l:=S.K));rw [List.length_append] at this;omega
    obtain ⟨g1,g2,g3,g4⟩:=hfree;refine ⟨by dsimp only;omega,fun _=>⟨rfl,fun s hs=>Ou hl.2 (h.ok.file _ m hm).2.2 (h.pts _ m hm) (by rw [g2];omega) hs⟩,⟨h.ok.tree,h.ok.file⟩,h.pts,h.dir,fun x hx=> ?_,fun x hx=> ?_,?_,h'.boots,h'.swaps,h'.clock,h.win⟩
    ·rcases g3 x hx with rfl|hx
     ·exact ⟨_,m,rfl,hl.2,hm⟩
     ·exact h.tok x hx
    ·rcases g3 x hx with rfl|hx
     ·exact ⟨hc.1,hc.2,by dsimp only;omega,by dsimp only;omega⟩
     ·exact h.small x hx
    ·dsimp only;rw [g4];have:=h.few;omega
theorem Y9 {S:St} {q:Nat} (h:bY S q) (r:aJ) (st:List Sz) (dl:List Dl):Fine q (nS S r st dl):=by
 unfold nS;split
 ·exact Fine.no h (by decide) (by omega) _
 ·rename_i x hx
  split
  ·exact Fine.no h (by decide) (by omega) _
  ·split
   ·rename_i h2
    exact Fine.no h h2 (Ub _ _ _ _ _ _) _
   ·split
    ·exact Fine.no h (by decide) (by omega) _
    ·rename_i h3
     have h3:=Classical.byContradiction h3;have hxm:=List.mem_of_find?_eq_some hx;obtain ⟨i,m,h4,h5,h6⟩:=h.tok x hxm;have hi:=(h.ok.file i m h6)
     obtain ⟨g1,g2⟩:=Qd h3 hi.2.2 (h.pts i m h6);rw [h4,Int.toNat_natCast,h6,Option.getD_some];have hk:∀y∈mZ r.cl S.K x,y∈S.K:=fun y hy=>by
      unfold mZ at hy;split at hy
      ·exact (List.mem_filter.1 hy).1
      ·exact hy
     have hkl:(mZ r.cl S.K x).length≤S.K.length:=by
      unfold mZ;split
      ·exact List.length_filter_le _ _
      ·exact Nat.le_refl _
     have hg:=g1.1;refine Fine.plain ?_ (by omega) (by omega) (by omega);unfold nJ;rw [h6,Option.getD_some];refine ⟨⟨h.ok.tree,(h.ok.xG ⟨hi.1,h5⟩ g1).file⟩,h.pts.put i g2,fun k y hk hd=> ?_,fun y hy=> ?_,fun y hy=>h.small y (hk y hy),Nat.le_trans hkl h.few,h.boots,h.swaps,h.clock,h.win⟩
     ·obtain ⟨z,hz⟩:=h.dir k y hk hd;exact xX hz
     ·obtain ⟨j,z,a1,a2,a3⟩:=h.tok y (hk y hy);obtain ⟨u,hu⟩:=xX (i:=i) (m:=dl.foldl dR m) a3;exact ⟨j,u,a1,a2,hu⟩
theorem aCX {S:St} {q:Nat} (h:bY S q) (r:aJ):Fine (q+1) (lU S r):=by
 unfold lU;split
 ·have h1:=h.boots;have h2:=h.swaps;have h3:=h.clock;exact Fine.plain (S:=rF S) ⟨⟨h.ok.tree,h.ok.file⟩,h.pts,h.dir,h.tok,h.small,Nat.le_succ_of_le h.few,by unfold rF;dsimp only;omega,by unfold rF;dsimp only;omega,by unfold rF;dsimp only;omega,h.win⟩ (by omega) (by omega) (by omega)
 ·exact Fine.no (h.more (Nat.le_succ q)) (by decide) (by omega) _
theorem aCu {S:St} {q:Nat} (h:bY S q) (r:aJ):Fine (q+1) (lX S r):=by
 unfold lX;split
 ·have h1:=h.boots;have h2:=h.swaps;have h3:=h.clock;exact Fine.plain (S:=pY S) ⟨⟨h.ok.tree,h.ok.file⟩,h.pts,h.dir,h.tok,h.small,Nat.le_succ_of_le h.few,by unfold pY;dsimp only;omega,by unfold pY;dsimp only;omega,by unfold pY;dsimp only;omega,h.win⟩ (by omega) (by omega) (by omega)
 ·exact Fine.no (h.more (Nat.le_succ q)) (by decide) (by omega) _
theorem Wh {F:Nat→Option aG} {d:Dl} (hd:dU d) (hF:∀i m,F i=some m→1≤i∧i≤128∧fU m) (hp:jP F):
  (∀i m,gI F d i=some m→1≤i∧i≤128∧fU m)∧jP (gI F d)∧∀i m,F i=some m→∃z,gI F d i=some z:=by
 unfold gI;cases hm:F d.i.toNat with
 | none=>exact ⟨hF,hp,fun i m hi=>⟨m,hi⟩⟩
 | some m0=>
  have h0:=hF _ m0 hm;refine ⟨fun i m hi=> ?_,hp.put _ (Ut (hp _ m0 hm) hd),fun i m hi=>xX hi⟩;rcases wO hi with ⟨rfl,rfl⟩|hi
  ·exact ⟨h0.1,h0.2.1,Q5 h0.2.2 hd⟩
  ·exact hF i m hi
theorem Ew:∀(dl:List Dl) (F:Nat→Option aG),(∀d∈dl,dU d)→(∀i m,F i=some m→1≤i∧i≤128∧fU m)→jP F→
  (∀i m,dl.foldl gI F i=some m→1≤i∧i≤128∧fU m)∧jP (dl.foldl gI F)∧∀i m,F i=some m→∃z,dl.foldl gI F i=some z
 | [],F,_,hF,hp=>⟨hF,hp,fun i m hi=>⟨m,hi⟩⟩
 | d::r,F,hd,hF,hp=>by
  obtain ⟨a1,a2,a3⟩:=Wh (hd d (by simp)) hF hp;obtain ⟨b1,b2,b3⟩:=Ew r (gI F d) (fun x hx=>hd x (by simp [hx])) a1 a2;refine ⟨b1,b2,fun i m hi=> ?_⟩;obtain ⟨z,hz⟩:=a3 i m hi;exact b3 i z hz
theorem aAa {S:St} {q:Nat} (h:bY S q) (r:aJ) (st:List Sz) (dl:List Dl):Fine (q+1) (lF S r st dl):=by
 have h':=h.more (Nat.le_succ q);unfold lF;split
 ·exact Fine.no h' (by decide) (by omega) _
 ·split
  ·rename_i h2
   exact Fine.no h' h2 (Ub _ _ _ _ _ _) _
  ·split
   ·exact Fine.no h' (by decide) (by omega) _
   ·rename_i h3
    have h3:=Classical.byContradiction h3;obtain ⟨a1,a2,a3⟩:=Ew dl S.F (fun d hd=>(h3 d hd).1) h.ok.file h.pts;have hcl:=h.clock;refine Fine.plain (S:=rH S st dl r.nx) ⟨⟨h.ok.tree,a1⟩,a2,fun k y hk hd=> ?_,fun y hy=> ?_,h.small,h'.few,h'.boots,h'.swaps,?_,h.win⟩ (by omega) (by omega) (by omega)
    ·obtain ⟨z,hz⟩:=h.dir k y hk hd;exact a3 k z hz
    ·obtain ⟨j,z,b1,b2,b3⟩:=h.tok y hy;obtain ⟨u,hu⟩:=a3 j z b3;exact ⟨j,u,b1,b2,hu⟩
    ·unfold rH eY;dsimp only;omega
theorem aA8 (o:Nat→Nat) (K n:Nat) (L:aT) (S:St) (r:aJ) (rv dv:Value) (w:World) (h:aK w o K L S n) (ok:aU S) (pts:jP S.F) (hf:aP w o) (hl:r.path.length≤1000000) (hn:n≤1000000):
  Calls prog 83 #[.pointer (some ⟨L.s,0,none⟩),.agg (r.cells rv dv)] w (aX w o K L n (mJ S r)):=by
 obtain ⟨f0,k0,k1,H0,G0⟩:=begun h ok hf r rv dv;have F0:=lH f0;have HL:Hid (∀w',Fr No (bQ w r rv dv) w'→Calls prog 72 #[.pointer (some ⟨L.tr,0,none⟩),.string (ba r.path)] w' fun e w''=>e=.returned (.tuple #[.int .i64 (lookOf S.T r.path).2.1,.bool (lookOf S.T r.path).2.2,.int .i64 (lookOf S.T r.path).1])∧Fr No w' w''):=
  lH (fun w' f=>vK o K L.tr S.T r.path w' hl ((H0.no ok G0 f).tree) ok.tree (Step.no (C:=fun _=>False) G0 f).fresh)
 have HB:Hid (∀i:Nat,∀w',Fr No (bQ w r rv dv) w'→Calls prog 133 #[.pointer (some ⟨L.tk,0,none⟩),.int .i64 i] w' fun e w''=>e=.returned (.bool (S.K.any fun x=>x.i==i))∧Fr No w' w''):=lH (fun i w' f=>by
  obtain ⟨v,h1,h2⟩:=Ik (H0.no ok G0 f).tok;exact aBm L.tk v S.K i w' h1 h2)
 have HRM:Hid (∀w',Fr No (bQ w r rv dv) w'→Calls prog 134 #[.pointer (some ⟨L.tr,0,none⟩),.string (ba r.path),.bool r.dir] w' (wK w' o K L.tr S.T r.path r.dir)):=
  lH (fun w' f=>aAM o K L.tr S.T r.path r.dir w' hl ((H0.no ok G0 f).tree) ok.tree (Step.no (C:=fun _=>False) G0 f).fresh)
 have HT:Hid (∀w' w1 o1,Fr No (bQ w r rv dv) w'→Step (bI K) w' o w1 o1→bV w1 o1 K L.tr (jJ S.T r.path r.dir)→aK w1 o1 K L {S with T:=jJ S.T r.path r.dir} n∧aU {S with T:=jJ S.T r.path r.dir}):=
  lH (fun w' w1 o1 f s t=>⟨(H0.no ok G0 f).oQ ok s t,ok.oQ (zM ok.tree _ _)⟩)
 have HE:Hid ((dO S.T r.path r.dir).1≠0→jJ S.T r.path r.dir=S.T):=lH (fun hne=>if_neg hne);have HNUM:Hid ((dO S.T r.path r.dir).1=0→(dO S.T r.path r.dir).2≤128):=lH (fun h0=>(Hw ok.tree h0).1);have HR:Hid ((lookOf S.T r.path).1≠0→∀e w',e=.panicked (iW (lookOf S.T r.path).1)→Fr No w w'→aX w o K L n (mJ S r) e w'):=lH (fun hne e w' he f=>by
  unfold mJ;rw [if_pos hne];exact aX.no h ok hf hne he f)
 have HR2:Hid ((lookOf S.T r.path).1=0→¬mayRemove S r→∀e w',e=.panicked (iW 8)→Fr No w w'→aX w o K L n (mJ S r) e w'):=lH (fun h0 h1 e w' he f=>by
  unfold mJ;rw [if_neg (by simp [h0]),if_pos h1];exact aX.no h ok hf (by decide) he f)
 have HR3:Hid ((lookOf S.T r.path).1=0→mayRemove S r→(dO S.T r.path r.dir).1≠0→∀e w' w'' o',e=.panicked (iW (dO S.T r.path r.dir).1)→Fr No w w'→Step (bI K) w' o w'' o'→aK w'' o' K L S n→aX w o K L n (mJ S r) e w''):=lH (fun h0 h1 hne e w' w'' o' he f s t=>by
  unfold mJ;rw [if_neg (by simp [h0]),if_neg (fun h=>h h1),if_pos hne];exact aX.no' hf f s (fun _ e=>wW e) t hne he)
 have HOK3:aU (kM S r):=by
  unfold kM;split
  ·exact ok.oQ (zM ok.tree _ _)
  ·exact ((ok.oQ (zM ok.tree _ _)).less _).Nh _
 have HQ:Hid ((lookOf S.T r.path).1=0→mayRemove S r→(dO S.T r.path r.dir).1=0→∀e w' w'' w3 o',e=.returned (jU 0 (dO S.T r.path r.dir).2 0 0 0 false)→Fr No w w'→w.heap.size+1<w'.heap.size→Step (fun c=>bI K c∨c=K+6∨c=K+7) w' o w'' o'→aK w'' o' K L (kM S r) n→Fr (fun j=>j=w.heap.size+1) w'' w3→aX w o K L n (mJ S r) e w3):=lH (fun h0 h1 h2 e w' w'' w3 o' he f hs s t g=>by
  unfold mJ;rw [if_neg (by simp [h0]),if_neg (fun h=>h h1),if_neg (by simp [h2])];exact aX.yes hf f s (fun c e=>by rcases e with e|e|e;exact wW e;all_goals (unfold aH;omega)) (by omega) hs g HOK3 t he (kW.plain _ _ _ _ _ _ _))
 have HMR:Hid (mayRemove S r↔((lookOf S.T r.path).2.2=true∨r.dir=true∨(S.K.any fun x=>x.i==(lookOf S.T r.path).2.1)=false)):=lH Iff.rfl;generalize mayRemove S r=MR at*;generalize hQ:aX w o K L n (mJ S r)=Q at*;clear hQ;have HRS:Hid (kM S r=if (lookOf S.T r.path).2.2=true then {S with T:=jJ S.T r.path r.dir} else {S with T:=jJ S.T r.path r.dir,F:=bC S.F (dO S.T r.path r.dir).2 none,U:=iD (bC S.F (dO S.T r.path r.dir).2 none) S.U}):=lH rfl;generalize kM S r=SR at*;have NS:Hid (¬bI K (o L.s)):=lH (by rw [h.own];unfold bI;omega);have NB:Hid (¬bI K (o w.heap.size)):=lH (by rw [hf _ (Nat.le_refl _)];unfold bI;omega);have NR:Hid (¬bI K (o (w.heap.size+1))):=lH (by rw [hf _ (Nat.le_succ _)];unfold bI;omega);have OB:Hid (o (w.heap.size+1)=0):=lH (hf _ (Nat.le_succ _));have HH:=lH H0;have HG:=lH G0;have HN:=lH hn;have HPT:=lH pts;clear H0 G0 f0 h ok hf hl hn pts HOK3;unfold wK at HRM;generalize lookOf S.T r.path=X at*;obtain ⟨er,i,d⟩:=X;dsimp only at HL HR HR2 HR3 HQ HMR HRS;generalize dO S.T r.path r.dir=Y at*;obtain ⟨ey,iy⟩:=Y;dsimp only at HRM HNUM HE HR3 HQ HRS;generalize jJ S.T r.path r.dir=T' at*;unfold bQ aJ.cells bD aF.cells at*;generalize hrd:r.dir=rd at*;go_enter func83,ntmps83;go_wp2_with fail;generalize (w.alloc (.cells #[.int .i64 r.c,.int .i64 r.l,.int .i64 r.q,.int .i64 r.kind,.string (ba r.path),.string (ba r.to),.bool rd,.bool r.wr,.bool r.cl,.int .i64 r.h,.int .i64 r.nx,.int .i64 r.sw,rv,dv] 36)).alloc (.cells #[.int .i64 0,.int .i64 0,.int .i64 0,.int .i64 0,.int .i64 0,.bool false,.slice none 0 0,.slice none 0 0] 29)=w0 at*;have B1:=lH (lt_of_block k1);generalize hb0:w.heap.size=b0 at*;have c9:w0.cell? ⟨L.s,9,none⟩=some (.pointer (some ⟨L.tr,0,none⟩)):=HH.o.cell 9;have d4:w0.cell? ⟨b0,4,none⟩=some (.string (ba r.path)):=by rw [aA k0];rfl
 have D6:Hid (w0.cell? ⟨b0,6,none⟩=some (.bool rd)):=lH (by rw [aA k0];rfl);have C9:=lH c9;have D4:=lH d4;have K1:=lH k1;clear k0 k1;go_region_held3 (fun w'=>w'.cell? ⟨L.s,9,none⟩=some (.pointer (some ⟨L.tr,0,none⟩))∧w'.cell? ⟨b0,4,none⟩=some (.string (ba r.path))) (first|go_keep|(go_split_ands;refine ⟨?_,?_⟩<;>exact f1.cell_of (by assumption) id))
  ((go_at_call 72;refine (HL.o _ (Fr.refl _).drew).mono ?_;rintro e w1 ⟨rfl,f1⟩))
 have F1:=lH ((Fr.refl w0).drew.trans f1 kp);clear f1 c9 d4;cases hx:(er==0) with
 | false=>
  have hne:er≠0:=by simpa using hx
  go_wp2_with fail;refine (fJ _ _).mono ?_;rintro e w2 ⟨rfl,rfl⟩;go_wp2_with fail;exact ⟨rfl,HR.o hne _ _ rfl (F0.o.trans F1.o kp)⟩
 | true=>
  obtain rfl:er=0:=by simpa using hx
  clear hx HR;go_wp2_with fail;refine (gU _ _).mono ?_;rintro e w2 ⟨rfl,rfl⟩;obtain ⟨w1,rfl⟩:∃w1:World,w1=w2:=⟨_,rfl⟩
  go_upto_region 3 with fail
  go_cut [] (fun wx=>Hid (Fr No w0 wx)∧Hid MR)
  case first=>
   cases d with
   | true=>
    go_wp2_with fail;refine (gU _ _).mono ?_;rintro e w3 ⟨rfl,rfl⟩;go_wp2_with fail;go_meet;exact ⟨F1,lH (HMR.o.2 (by simp))⟩
   | false=>
    cases rd with
    | true=>
     have d6:w1.cell? ⟨b0,6,none⟩=some (.bool true):=F1.o.cell_of D6.o id;go_wp2_with fail;refine (gU _ _).mono ?_;rintro e w3 ⟨rfl,rfl⟩;go_wp2_with fail;go_meet;exact ⟨F1,lH (HMR.o.2 (by simp))⟩
    | false=>
     have d6:w1.cell? ⟨b0,6,none⟩=some (.bool false):=F1.o.cell_of D6.o id;have c10:w1.cell? ⟨L.s,10,none⟩=some (.pointer (some ⟨L.tk,0,none⟩)):=F1.o.cell_of (HH.o.cell 10) id;have HBU:=lH (HB.o i w1 F1.o);cases hb:(S.K.any fun x=>x.i==(i:Int)) with
     | true=>
      rw [hb] at HBU;have hne:¬MR:=fun h=>by
       rcases HMR.o.1 h with h|h|h
       ·cases h
       ·cases h
       ·rw [hb] at h;cases h
      have HNE:=lH hne;clear hne hb;go_wp2_with fail;refine HBU.o.mono ?_;rintro e w3 ⟨rfl,f3⟩;have F3:=lH (F1.o.trans f3 kp);clear f3;go_wp2_with fail;refine (fJ _ _).mono ?_;rintro e w4 ⟨rfl,rfl⟩;go_wp2_with fail;exact ⟨rfl,HR2.o trivial HNE.o _ _ rfl (F0.o.trans F3.o kp)⟩
     | false=>
      rw [hb] at HBU;have HM2:=lH (HMR.o.2 (by simp only [hb];simp));clear hb;go_wp2_with fail;refine HBU.o.mono ?_;rintro e w3 ⟨rfl,f3⟩;have F3:=lH (F1.o.trans f3 kp);clear f3;go_wp2_with fail;refine (gU _ _).mono ?_;rintro e w4 ⟨rfl,rfl⟩;go_wp2_with fail;go_meet;exact ⟨F3,HM2⟩
  case rest=>
   obtain ⟨FC,HM⟩:=hcut;obtain ⟨wa,rfl⟩:∃wa:World,wa=wc:=⟨_,rfl⟩
   have c9:wa.cell? ⟨L.s,9,none⟩=some (.pointer (some ⟨L.tr,0,none⟩)):=FC.o.cell_of C9.o id;have d4:wa.cell? ⟨b0,4,none⟩=some (.string (ba r.path)):=FC.o.cell_of D4.o id;have d6:wa.cell? ⟨b0,6,none⟩=some (.bool rd):=FC.o.cell_of D6.o id;have FD:=lH (FC.o.trans (Fr.refl wa).drew kp);have HRC:=lH (HRM.o wa.drew FD.o);go_upto_region 4 with fail
   go_region_held3 (fun w'=>w'.cell? ⟨L.s,9,none⟩=some (.pointer (some ⟨L.tr,0,none⟩))∧w'.cell? ⟨b0,4,none⟩=some (.string (ba r.path))∧w'.cell? ⟨b0,6,none⟩=some (.bool rd)) (first|go_keep|(go_split_ands;refine ⟨?_,?_,?_⟩<;>exact s1.fr.cell_of (by assumption) (by first|exact NS.o|exact NB.o)))
    ((go_at_call 134;refine HRC.o.mono ?_;rintro e w4 ⟨rfl,o1,s1,t1⟩))
   have SZ:Hid (b0+1<wa.drew.heap.size):=lH (Nat.lt_of_lt_of_le B1.o FD.o.size);have FF:=lH (F0.o.trans FD.o kp);obtain ⟨st1,ok1⟩:=HT.o wa.drew w4 o1 FD.o s1 t1;have ST1:=lH st1;have OK1:=lH ok1;have S1:=lH s1;have KK:=lH (s1.fr.aC (FD.o.aC K1.o id) NR.o);clear st1 ok1 s1 t1 c9 d4 d6;cases hx:(ey==0) with
   | false=>
    have hne:ey≠0:=(by simpa using hx)
    have HX:=lH (HR3.o (by simp) HM.o hne _ _ _ _ rfl FF.o S1.o (by have:=ST1.o;rw [HE.o hne] at this;exact this));go_wp2_with fail;refine (fJ _ _).mono ?_;rintro e w5 ⟨rfl,rfl⟩;go_wp2_with fail;exact ⟨rfl,HX.o⟩
   | true=>
    obtain rfl:ey=0:=(by simpa using hx)
    clear hx;have hi:iy≤128:=HNUM.o rfl;have HI:=lH hi;have hbd:∀w':World,(Instr.build 29 #[(1,.int .i64 iy)]).run prog w'=.ok (.agg #[.int .i64 0,.int .i64 iy,.int .i64 0,.int .i64 0,.int .i64 0,.bool false,.slice none 0 0,.slice none 0 0]) w':=fun w'=>by kernel_rfl
    have HOC:=lH (show (#[.int .i64 0,.int .i64 iy,.int .i64 0,.int .i64 0,.int .i64 0,.bool false,.slice none 0 0,.slice none 0 0]:Array Value).all (·.oneCell')=true from by simp [Value.oneCell']);cases d with
    | true=>
     have HX:=lH (fun e w3 he g=>HQ.o (by simp) HM.o (by simp) e _ _ w3 _ he FF.o SZ.o (S1.o.mono (fun _ h=> .inl h)) (by rw [HRS.o,if_pos rfl];exact ST1.o) g);go_wp2_with fail;refine (gU _ _).mono ?_;rintro e w5 ⟨rfl,rfl⟩;go_wp2_with (refine wpList_store_row rfl 29 (.tmp 4) (.tmp 64) rfl (b0+1) #[.int .i64 0,.int .i64 iy,.int .i64 0,.int .i64 0,.int .i64 0,.bool false,.slice none 0 0,.slice none 0 0] rfl rfl 29 _ KK.o Tryz.size29 rfl HOC.o ?_);have KF:=dS (cs':= #[.int .i64 0,.int .i64 iy,.int .i64 0,.int .i64 0,.int .i64 0,.bool false,.slice none 0 0,.slice none 0 0]) KK.o;exact bodyPost_ret (v:=jU 0 iy 0 0 0 false) (results_cell_row rfl _ _ (b0+1) 29 _ (0,0) _ rfl KF underlying29 rfl Tryz.size29) rfl
      (HX.o _ _ rfl (Fr.setRow (S:=fun j=>j=b0+1) (Fr.refl _) (.inl rfl) _))
    | false=>
     have c11:w4.cell? ⟨L.s,11,none⟩=some (.map (some L.fl)):=ST1.o.cell 11;obtain ⟨w5,hdel,g5,s5,F5⟩:=jK.del ST1.o.files S1.o.fresh iy (by omega);have HDEL:=lH hdel;have F5f:Hid (aP w5 o1):=lH s5.fresh;have OK5:=lH (OK1.o.less iy);have ST5:=lH (ST1.o.Tu (Nat.le_refl n) OK1.o s5 F5);have S5:Hid (Step (fun c=>bI K c∨c=K+6∨c=K+7) wa.drew o w5 o1):=lH ((S1.o.mono (fun _ h=>Or.inl h)).trans (s5.mono (fun _ h=>Or.inr (Or.inl h))) (fun _ e=>e));have NR5:Hid (b0+1≠L.fl):=lH (fun e=>by
      have a:=S1.o.old _ SZ.o;have b:=ST1.o.files.1;rw [OB.o,e,b] at a;omega)
     have K5:=lH (g5.aC KK.o NR5.o);have HCT:=lH (En o1 K n L _ w5 ST5.o OK5.o (HPT.o.less iy) F5f.o HN.o);unfold xM at HCT;clear g5 s5 F5 hdel;have hdel:=HDEL.o;go_wp2_with fail;refine (gU _ _).mono ?_;rintro e w6 ⟨rfl,rfl⟩;go_wp2_with fail;refine HCT.o.mono ?_;rintro e w7 ⟨rfl,o7,s7,t7⟩;have S7:Hid (Step (fun c=>bI K c∨c=K+6∨c=K+7) wa.drew o w7 o7):=lH (S5.o.trans (s7.mono (fun _ h=>Or.inr (Or.inr h))) (fun _ e=>e));have K7:=lH (s7.fr.aC K5.o (by
      intro e;have a:=S1.o.old _ SZ.o;rw [OB.o,e] at a;omega))
     have HX:=lH (fun e w3 he g=>HQ.o (by simp) HM.o (by simp) e _ _ w3 _ he FF.o SZ.o S7.o (by rw [HRS.o,if_neg (by decide)];exact t7) g);clear s7 t7;go_wp2_with (refine wpList_store_row rfl 29 (.tmp 4) (.tmp 64) rfl (b0+1) #[.int .i64 0,.int .i64 iy,.int .i64 0,.int .i64 0,.int .i64 0,.bool false,.slice none 0 0,.slice none 0 0] rfl rfl 29 _ K7.o Tryz.size29 rfl HOC.o ?_);have KF:=dS (cs':= #[.int .i64 0,.int .i64 iy,.int .i64 0,.int .i64 0,.int .i64 0,.bool false,.slice none 0 0,.slice none 0 0]) K7.o;exact bodyPost_ret (v:=jU 0 iy 0 0 0 false) (results_cell_row rfl _ _ (b0+1) 29 _ (0,0) _ rfl KF underlying29 rfl Tryz.size29) rfl
      (HX.o _ _ rfl (Fr.setRow (S:=fun j=>j=b0+1) (Fr.refl _) (.inl rfl) _))
