/- Part of a proof. -/
import Derived.Test.YtlcojhddnpmgmaaGreatV37
set_option linter.unusedSimpArgs false
set_option linter.unusedVariables false
set_option maxRecDepth 100000
set_option maxHeartbeats 6400000
namespace Go.Proofs.YtlcojhddnpmgmaaGreat
open Go.RowKit Go.Proofs.Tryz
def oJ (s:aN) (y:Int×Int×Int×List UInt8):aN:=fK (aI (aI (aI s y.1 1) y.2.1 3) y.2.2.1 4) y.2.2.2
def qW (F:Nat→Option aG) (s:aN) (i:Nat):aN:=mM (aI s i 2) ((F i).getD gZ)
def pF (U:Stp→Option Us) (s:aN) (x:Stp):aN:=aI (aI (aI (aI (aI s x.1 1) x.2.1 3) x.2.2 4) ((U x).getD (0,0,0)).1 2) ((U x).getD (0,0,0)).2.2 6
def rM (S:St) (i:Nat):aN:=(List.range i).foldl (fun s k=>aI s (S.next k) 4) (aI (aI (aI ([],0) S.boots 3) S.swaps 3) S.clock 6)
def iV (S:St):List Nat:=numsOf fun k=>(S.F k).isSome
def qJ (S:St):aN:=(gX S.W 4).foldl oJ (aI (rM S 5) (gX S.W 4).length 1)
def xP (S:St):aN:=(iV S).foldl (qW S.F) (aI (qA (pR (qJ S) S.T) S.K) (iV S).length 2)
def nK (S:St) (ss:List Stp):aN:=ss.foldl (pF S.U) (aI (xP S) ss.length 2)
def vJ (U:Stp→Option Us) (ss:List Stp):Prop:=ss.Nodup∧(∀x,x∈ss↔(U x).isSome=true)∧ss.Pairwise (fun x y=>lK x y=true)
def sU (s:aN):List UInt8:=if s.2=0 then s.1 else []
def uZ (w:World) (S:St) (e:Ending) (w':World):Prop:=
 ∃v ss,vJ S.U ss∧e=.returned (.tuple #[v,.int .i64 (nK S ss).2])∧lC w' v (sU (nK S ss))∧Fr No w w'∧(sU (nK S ss)).length≤65536∧∀a l c,v=.slice (some a) l c→w.heap.size≤a.block
def Ext (s s':aN):Prop:=s'.2=0→s.2=0∧s.1.length≤s'.1.length
theorem Ext.refl (s:aN):Ext s s:=fun h=>⟨h,Nat.le_refl _⟩
theorem Ext.trans {s t u:aN} (h:Ext s t) (g:Ext t u):Ext s u:=fun e=>by
 obtain ⟨g1,g2⟩:=g e;obtain ⟨h1,h2⟩:=h g1;exact ⟨h1,Nat.le_trans h2 g2⟩
theorem zF (s:aN) (ys:List UInt8):Ext s (dE s ys):=fun e=>by
 unfold dE at e ⊢;split at e
 ·rename_i h;exact absurd e h
 ·rename_i h
  rw [if_neg h];split at e
  ·cases e
  ·rename_i h2
   rw [if_neg h2];exact ⟨Classical.byContradiction h,by simp⟩
theorem Sv (s:aN) (x:Int) (hx:x≠0):Ext s (iG s x):=fun e=>by
 unfold iG at e;split at e
 ·rename_i h;exact absurd e h
 ·exact absurd e hx
theorem iJ (s:aN) (x:Int) (wd:Nat):Ext s (aI s x wd):=by
 unfold aI;split
 ·exact zF _ _
 ·exact Sv _ _ (by decide)
theorem Ox (s:aN) (ys:List UInt8):Ext s (fK s ys):=by
 unfold fK;split
 ·exact Sv _ _ (by decide)
 ·exact zF _ _
theorem uD {α:Type} {f:aN→α→aN} (hf:∀s x,Ext s (f s x)):∀(l:List α) (s:aN),Ext s (l.foldl f s)
 | [],s=>Ext.refl s
 | x::r,s=>(hf s x).trans (uD hf r (f s x))
theorem aAo (s:aN) (m:aG):Ext s (mM s m):=by
 unfold mM;refine (iJ s _ 2).trans (uD (fun s x=> ?_) _ _);unfold mY;exact ((((iJ _ _ _).trans (iJ _ _ _)).trans (iJ _ _ _)).trans (iJ _ _ _)).trans (iJ _ _ _)
theorem aAS (T:Tree) (s:aN) (k:Nat):Ext s (nI T s k):=by
 unfold nI;split
 ·exact Ext.refl s
 ·cases T k with
  | none=>exact Ext.refl s
  | some x=>exact (((iJ _ _ _).trans (iJ _ _ _)).trans (Ox _ _)).trans (zF _ _)
theorem Wy (s:aN) (x:Tok):Ext s (qI s x):=(((iJ _ _ _).trans (iJ _ _ _)).trans (iJ _ _ _)).trans (zF _ _)
theorem X0 (s:aN) (y:Int×Int×Int×List UInt8):Ext s (oJ s y):=(((iJ _ _ _).trans (iJ _ _ _)).trans (iJ _ _ _)).trans (Ox _ _)
theorem Vo (U:Stp→Option Us) (s:aN) (x:Stp):Ext s (pF U s x):=((((iJ _ _ _).trans (iJ _ _ _)).trans (iJ _ _ _)).trans (iJ _ _ _)).trans (iJ _ _ _)
theorem aC2 (S:St) (ss:List Stp) (h:(nK S ss).2=0):(nK S ss).1≠ []:=by
 have h1:Ext (aI ([],0) S.boots 3) (nK S ss):=by
  refine Ext.trans ?_ ((iJ _ _ _).trans (uD (Vo S.U) ss _));unfold xP;refine Ext.trans ?_ ((iJ _ _ _).trans (uD (fun s i=>(iJ _ _ _).trans (aAo _ _)) _ _));unfold qA pR qJ rM;refine Ext.trans ?_ ((iJ _ _ _).trans (uD Wy _ _));refine Ext.trans ?_ ((iJ _ _ _).trans (uD (aAS S.T) _ _));refine Ext.trans ?_ ((iJ _ _ _).trans (uD X0 _ _));exact ((iJ _ _ _).trans (iJ _ _ _)).trans (uD (fun s k=>iJ _ _ _) _ _)
 obtain ⟨h2,h3⟩:=h1 h;intro e;rw [e,List.length_nil] at h3;unfold aI at h2 h3;split at h2
 ·rename_i hb
  rw [if_pos hb] at h3;unfold dE at h3;rw [if_neg (by simp),if_neg (by rw [bT];simp)] at h3;rw [List.nil_append,bT] at h3;omega
 ·cases h2
section
variable {K V:Type} [DecidableEq K] {E:Enc K V} {t e:TypeId}
theorem MapAt.Iw (ht:prog.underlying t=some (.map E.k e)):∀(l:List K) {w:World} {b c:Nat} {m:K→Option V},MapAt E w b c m→l.Nodup→(∀x,x∈l↔(m x).isSome=true)→c=l.length
 | [],w,b,c,m,h,_,hl=>by
  rcases h.uF ht with ⟨h0,_⟩|⟨_,x,y,hm⟩
  ·exact h0
  ·exact absurd ((hl x).2 (by rw [hm];rfl)) (by simp)
 | x::r,w,b,c,m,h,hn,hl=>by
  obtain ⟨y,hm⟩:=Option.isSome_iff_exists.1 ((hl x).1 List.mem_cons_self);rcases h.uF ht with ⟨_,h0⟩|⟨hp,_⟩
  ·rw [h0 x] at hm;cases hm
  ·obtain ⟨_,_,d1,_⟩:=h.del x (h.good hm).1 ht 0;rw [hm] at d1;obtain ⟨n1,n2⟩:=List.nodup_cons.1 hn;have:=MapAt.Iw ht r d1 n2 (fun z=>by
    by_cases hz:z=x
    ·subst hz;simp [n1]
    ·have:=hl z;simp only [List.mem_cons,hz,false_or] at this;simp [hz,this])
   simp only [Option.isSome_some,if_true] at this;rw [List.length_cons];omega
end
theorem U5 {S:St} (ok:aU S) {w:World} {b c:Nat} {fp:Nat→Nat} (h:MapAt encI w b c (cO S.F fp)):c=(iV S).length:=by
 have h1:=h.Iw underlying100 ((iV S).map fun k:Nat=>(k:Int)) (by
  unfold List.Nodup;rw [List.pairwise_map];unfold iV numsOf;exact ((Hq 129).filter _).imp (fun h e=>by omega)) (fun x=>by
  have hp:∀k,(S.F k).isSome=true→k<129:=fun k hk=>by
   obtain ⟨m,hm⟩:=Option.isSome_iff_exists.1 hk;have:=ok.file k m hm;omega
  rw [List.mem_map];unfold cO iV;constructor
  ·rintro ⟨k,hk,rfl⟩;have:=(Dt hp k).1 hk;simp [this]
  ·intro hx;split at hx
   ·refine ⟨x.toNat,(Dt hp _).2 (by simpa using hx),by omega⟩
   ·cases hx)
 rw [h1,List.length_map]
theorem aAg {U:Stp→Option Us} {w:World} {b c:Nat} (h:MapAt nC w b c (dV U)) {ss:List Stp} (hn:ss.Nodup) (hm:∀x,x∈ss↔(U x).isSome=true):c=ss.length:=
 h.Iw underlying101 ss hn (fun x=>by
  rw [hm x];unfold dV;simp)
theorem Xy (w:World):lC w (.slice none 0 0) []:=.inl ⟨rfl,none,0,rfl⟩
theorem P6 (p base:Nat) (s:aN) (x:Int) (w:World) (h:Pg w p base s):Calls prog 76 #[.pointer (some ⟨p,0,none⟩),.int .i64 x,.int .i64 4] w fun e w'=>e=.returned (.tuple #[])∧Pg w' p base (aI s x 4)∧Fr (Pf w p base) w w':=kQ p base 4 s x (by decide) (by decide) w h
theorem Oq (p base:Nat) (s:aN) (x:Int) (w:World) (h:Pg w p base s):Calls prog 76 #[.pointer (some ⟨p,0,none⟩),.int .i64 x,.int .i64 6] w fun e w'=>e=.returned (.tuple #[])∧Pg w' p base (aI s x 6)∧Fr (Pf w p base) w w':=kQ p base 6 s x (by decide) (by decide) w h
theorem Tryz.aCR:(prog.info? 102).map (·.size)=some 5:=by kernel_rfl
theorem aCB (f:Nat→Int) (W:World):(Instr.index 102 (.agg #[.int .i64 (f 0),.int .i64 (f 1),.int .i64 (f 2),.int .i64 (f 3),.int .i64 (f 4)]) (.int .i64 ((0:Nat):Int))).run prog W=.ok (.int .i64 (f 0)) W:=by kernel_rfl
theorem aCv (f:Nat→Int) (W:World):(Instr.index 102 (.agg #[.int .i64 (f 0),.int .i64 (f 1),.int .i64 (f 2),.int .i64 (f 3),.int .i64 (f 4)]) (.int .i64 ((1:Nat):Int))).run prog W=.ok (.int .i64 (f 1)) W:=by kernel_rfl
theorem Xl (f:Nat→Int) (W:World):(Instr.index 102 (.agg #[.int .i64 (f 0),.int .i64 (f 1),.int .i64 (f 2),.int .i64 (f 3),.int .i64 (f 4)]) (.int .i64 ((2:Nat):Int))).run prog W=.ok (.int .i64 (f 2)) W:=by kernel_rfl
theorem aAY (f:Nat→Int) (W:World):(Instr.index 102 (.agg #[.int .i64 (f 0),.int .i64 (f 1),.int .i64 (f 2),.int .i64 (f 3),.int .i64 (f 4)]) (.int .i64 ((3:Nat):Int))).run prog W=.ok (.int .i64 (f 3)) W:=by kernel_rfl
theorem aAP (f:Nat→Int) (W:World):(Instr.index 102 (.agg #[.int .i64 (f 0),.int .i64 (f 1),.int .i64 (f 2),.int .i64 (f 3),.int .i64 (f 4)]) (.int .i64 ((4:Nat):Int))).run prog W=.ok (.int .i64 (f 4)) W:=by kernel_rfl
theorem aBX (f:Nat→Int) (i:Nat) (hi:i<5) (W:World):(Instr.index 102 (.agg #[.int .i64 (f 0),.int .i64 (f 1),.int .i64 (f 2),.int .i64 (f 3),.int .i64 (f 4)]) (.int .i64 (i:Int))).run prog W=.ok (.int .i64 (f i)) W:=by
 have h:i=0∨i=1∨i=2∨i=3∨i=4:=by omega
 rcases h with rfl|rfl|rfl|rfl|rfl
 ·exact aCB f W
 ·exact aCv f W
 ·exact Xl f W
 ·exact aAY f W
 ·exact aAP f W
theorem Ai (o:Nat→Nat) (K n:Nat) (L:aT) (S:St) (w:World) (h:aK w o K L S n) (ok:aU S) (hf:aP w o) (hn:n≤1000000) (hlen:∀i life seq bs,S.W i=some (life,seq,bs)→bs.length≤1000000):Calls prog 41 #[.pointer (some ⟨L.s,0,none⟩)] w (uZ w S):=by
 have HMD:=lH (qY o K n L S w h);have HR:Hid (∀v ss e w',vJ S.U ss→e=.returned (.tuple #[v,.int .i64 (nK S ss).2])→lC w' v (sU (nK S ss))→Fr No w w'→(sU (nK S ss)).length≤65536→(∀a l c,v=.slice (some a) l c→w.heap.size≤a.block)→uZ w S e w'):=lH (fun v ss e w' a b c d f g=>⟨v,ss,a,b,c,d,f,g⟩);generalize hQ:uZ w S=Q at*;clear hQ;have hb1:∀w':World,(Instr.build 122 #[]).run prog w'=.ok (.agg #[.slice none 0 0,.int .i64 0]) w':=fun w'=>by kernel_rfl
 have f0:Fr No w (w.alloc (.cells #[.slice none 0 0,.int .i64 0] 122)):=(Fr.refl w).alloc _;have G0:=lH (Gx w);have FNO:Hid (∀W,Fr (Pf (w.alloc (.cells #[.slice none 0 0,.int .i64 0] 122)) w.heap.size (w.heap.size+1)) (w.alloc (.cells #[.slice none 0 0,.int .i64 0] 122)) W→Fr No w W):=lH (fun W f=>f0.trans f (fun j hj e=>by rcases e with e|⟨e,_⟩<;>omega));have HT:Hid (∀W,Fr (Pf (w.alloc (.cells #[.slice none 0 0,.int .i64 0] 122)) w.heap.size (w.heap.size+1)) (w.alloc (.cells #[.slice none 0 0,.int .i64 0] 122)) W→aK W o K L S n∧aP W o):=lH (fun W f=>⟨h.no ok hf (FNO.o W f),fun k hk=>hf k (Nat.le_trans (FNO.o W f).size hk)⟩);have HLEN:=lH hlen;go_enter func41,ntmps41;go_wp2_with fail;refine HMD.o.mono ?_;rintro e w1 ⟨rfl,hw1⟩;have hw1':=hw1.symm;subst hw1';have T0:=(HT.o _ (Fr.refl _)).1;have c0:(w.alloc (.cells #[.slice none 0 0,.int .i64 0] 122)).cell? ⟨L.s,0,none⟩=some (.int .i64 S.boots):=T0.cell 0;clear h hf f0 hlen T0 HMD;go_upto_region 4 with fail
 generalize hp0:w.heap.size=p at*;generalize w.alloc (.cells #[.slice none 0 0,.int .i64 0] 122)=w0 at*;clear hp0 hb1;generalize hbase:p+1=base at*;go_wp2_with fail;refine (Ag p base _ _ _ G0.o).mono ?_;rintro e w2 ⟨rfl,g2,f2⟩;have G2:=lH g2;have F2:=lH f2;have c1:w2.cell? ⟨L.s,1,none⟩=some (.int .i64 S.swaps):=(HT.o _ f2).1.cell 1;clear g2 f2 c0 G0;go_wp2_with fail;refine (Ag p base _ _ _ G2.o).mono ?_;rintro e w3 ⟨rfl,g3,f3⟩;have G3:=lH g3;have F3:=lH (cZ F2.o f3);have c2:w3.cell? ⟨L.s,2,none⟩=some (.int .i64 S.clock):=(HT.o _ F3.o).1.cell 2;clear g3 f3 c1 G2 F2;go_wp2_with fail;refine (Oq p base _ _ _ G3.o).mono ?_;rintro e w4 ⟨rfl,g4,f4⟩;have G4:Hid (Pg w4 p base (rM S 0)):=lH g4;have F4:=lH (cZ F3.o f4);have HNXT:Hid (∀i,rM S (i+1)=aI (rM S i) (S.next i) 4):=lH (fun i=>by unfold rM;rw [List.range_succ,List.foldl_append];rfl);have HN5:Hid (w4.rangeAt L.s 3 [.int .i64 (S.next 0),.int .i64 (S.next 1),.int .i64 (S.next 2),.int .i64 (S.next 3),.int .i64 (S.next 4)]):=lH (fun a u hu=>by
  have hT:=(HT.o _ F4.o).1;have ha:a<5:=by
   have:=(List.getElem?_eq_some_iff.1 hu).1;simpa using this
  have hx:a=0∨a=1∨a=2∨a=3∨a=4:=by omega
  rcases hx with rfl|rfl|rfl|rfl|rfl<;>cases hu
  ·exact hT.cell 3
  ·exact hT.cell 4
  ·exact hT.cell 5
  ·exact hT.cell 6
  ·exact hT.cell 7)
 have hix:=fun (i:Nat) (hi:i<5) (W:World)=>aBX S.next i hi W;have HIX:=lH hix;clear g4 f4 c2 G3 F3 hix;have HPW:Hid (qJ S=(gX S.W 4).foldl oJ (aI (rM S 5) (gX S.W 4).length 1)):=lH rfl;generalize rM S=PN at*;go_wp2_with (refine wpList_load_mid (by rfl) 102 _ (by rfl) L.s 3 (by rfl) [.int .i64 (S.next 0),.int .i64 (S.next 1),.int .i64 (S.next 2),.int .i64 (S.next 3),.int .i64 (S.next 4)] _ HN5.o underlying102 rfl Tryz.aCR ?_);go_loopw [41] (fun a wr=>∃i:Nat,a=.int .i64 i∧i≤5∧Hid (Pg wr p base (PN i))∧Hid (Fr (Pf w0 p base) w0 wr)) (fun a _=>5 - (intOf a).toNat)
 case atStart=>exact ⟨0,rfl,Nat.zero_le _,G4,F4⟩
 case round=>
  obtain ⟨w5,rfl⟩:∃w5:World,w5=wr:=⟨_,rfl⟩
  obtain ⟨i,rfl,hi,HG,HF⟩:=hrel;by_cases hlt:i<5
  ·have q1:(i:Int)<5:=by omega
   have hx:=HIX.o i hlt;have HNX:=HNXT.o i;generalize S.next i=ni at*;go_wp2_with fail;refine (P6 p base _ _ _ HG.o).mono ?_;rintro e w6 ⟨rfl,g6,f6⟩;have G6:Hid (Pg w6 p base (PN (i+1))):=lH (by rw [HNX];exact g6);have F6:=lH (cZ HF.o f6);clear g6 f6;go_wp2_with fail;go_roundw
   case rel=>exact ⟨i+1,by go_num,hlt,G6,F6⟩
   case measure=>simp [intOf];omega
  ·obtain rfl:i=5:=by omega
   have q1:¬(5:Int)<5:=(by omega)
   have T5:=(HT.o _ HF.o).1;have c8:w5.cell? ⟨L.s,8,none⟩=some (.pointer (some ⟨L.win,0,none⟩)):=T5.cell 8;have HWR:=lH (Tn o (K+1) L.win S.W w5 T5.win (HT.o _ HF.o).2 HLEN.o);unfold yQ at HWR;clear T5 G4 F4 HN5 HIX HLEN;go_wp2_with fail;refine HWR.o.mono ?_;rintro e w7 ⟨v7,Lr,rfl,hmap,rn7,rp7,f7⟩;obtain ⟨a7,c7,hv7⟩:=rn7.shape;subst hv7;have HMAP:=lH hmap;have RN7:=lH rn7;have RP7:=lH rp7;obtain ⟨Z,hZ⟩:∃Z:Nat→Prop,Z=fun k=>w5.heap.size≤k∧k<w7.heap.size:=⟨_,rfl⟩
   have g7:gG Z w7 p base (PN 5):=HG.o.z f7 (fun k hk=>by rw [hZ] at hk;exact hk);have G7:=lH g7;have F7:=lH (HF.o.trans f7 (fun _ _ e=>e.elim));have HBP:Hid (p<w5.heap.size):=lH (by
    obtain ⟨c,hc⟩:=HG.o.is;exact lt_of_block hc)
   -- a reply stays what it is
   have HREP:Hid (∀W,Fr (jH Z w7 p base) w7 W→∀x∈Lr,∃b n c,x.v=.slice (some ⟨b,0,none⟩) n c∧Bs W x.v x.bs):=lH (fun W f x hx=>by
    obtain ⟨b,c,hs,hb,_⟩:=RP7.o x hx;have hlt:=hs.2.2.1;have hs2:=hs.fr f (fun e=>by
     rcases e with e|⟨_,e,_⟩
     ·have:=HBP.o;omega
     ·apply e;rw [hZ];exact ⟨hb,hlt⟩)
    exact ⟨b,_,c,hs.1,.inr ⟨b,0,c,hs2⟩⟩)
   have LEN:Hid ((gX S.W 4).length=Lr.length):=lH (by rw [← hmap,List.length_map]);have HN13:=lH (Cc p base 1 _ (Lr.length:Int) (by decide) (by decide) w7 g7);clear hmap rn7 rp7 f7 g7 HWR HF HG HBP RP7 c8;go_wp2_with fail;refine HN13.o.mono ?_;rintro e w8 ⟨rfl,g8,f8⟩;have G8:=lH g8;have F8:=lH (cZ F7.o (f8.mono (fun _ _ e=>e.pf)));have E8:Hid (Fr (jH Z w7 p base) w7 w8):=lH f8;clear g8 f8 HN13;generalize hs8:aI (PN 5) (Lr.length:Int) 1=s8 at*;have HS8:Hid (qJ S=(gX S.W 4).foldl oJ (aI (PN 5) (gX S.W 4).length 1)):=HPW;have HQ8:=lH hs8;clear hs8;go_wp2_with fail;go_loopw [59] (fun a wr=>∃i:Nat,a=.int .i64 i∧i≤Lr.length∧Hid (gG Z wr p base ((Lr.take i).foldl (fun s x=>oJ s (kV x)) s8))∧Hid (Fr (jH Z w7 p base) w7 wr)) (fun a _=>Lr.length - (intOf a).toNat)
   case atStart=>exact ⟨0,rfl,Nat.zero_le _,G8,E8⟩
   case round=>
    obtain ⟨w9,rfl⟩:∃w9:World,w9=wr:=⟨_,rfl⟩
    obtain ⟨i,rfl,hi,HG,HF⟩:=hrel;by_cases hlt:i<Lr.length
    ·have q2:(i:Int)<(Lr.length:Int):=by omega
     have q3:(0:Int)≤(i:Int):=(by omega)
     obtain ⟨bR,hbR,hmR,_,hrR⟩:=RN7.o.at (by omega);subst hbR;have hr2:=hrR.pf G7.o.pg (HF.o.mono (fun _ _ e=>e.pf)) (by decide) (by decide);have HRR:=lH (hr2.row i Lr[i] (List.getElem?_eq_getElem hlt));have hlenR:=hr2.len;have hmR':c7≤9223372036854775807:=hmR;have q4:(i:Int)<(c7:Int):=(by omega)
     have hxm:=List.getElem_mem hlt;have HTK:Hid (Lr.take (i+1)=Lr.take i++ [Lr[i]]):=lH (List.take_succ_eq_append_getElem hlt);obtain ⟨bb,nb,cb,hxv,_⟩:=HREP.o w9 HF.o _ hxm;have HXM:Hid (∀W,Fr (jH Z w7 p base) w7 W→Bs W Lr[i].v Lr[i].bs):=lH (fun W f=>(HREP.o W f _ hxm).choose_spec.choose_spec.choose_spec.2);generalize Lr[i]=x at*;have HST:Hid (∀s,oJ s (kV x)=fK (aI (aI (aI s x.c 1) x.l 3) x.q 4) x.bs):=lH (fun _=>rfl);obtain ⟨xc,xl,xq,xv,xb⟩:=x;dsimp only at hxv HXM HST;subst hxv;unfold vG at HRR;dsimp only at HRR;have HE:Hid (∀W,gG Z W p base (oJ ((Lr.take i).foldl (fun s x=>oJ s (kV x)) s8) (kV ⟨xc,xl,xq,.slice (some ⟨bb,0,none⟩) nb cb,xb⟩))→gG Z W p base ((Lr.take (i+1)).foldl (fun s x=>oJ s (kV x)) s8)):=lH (fun W g=>by rw [HTK.o,List.foldl_append];exact g);generalize (Lr.take i).foldl (fun s x=>oJ s (kV x)) s8=s0 at*;have fa:Fr No w9 (w9.alloc (.cells #[.int .i64 xc,.int .i64 xl,.int .i64 xq,.slice (some ⟨bb,0,none⟩) nb cb] 119)):=(Fr.refl w9).alloc _;have ka:=aO w9 (.cells #[.int .i64 xc,.int .i64 xl,.int .i64 xq,.slice (some ⟨bb,0,none⟩) nb cb] 119);have GA:=lH (HG.o.no fa);have FA:=lH (yP HF.o (fa.mono (T:=jH Z w9 p base) (fun _ _ e=>e.elim)));have KA:=lH ka;clear hrR hr2 hmR fa ka hxm hlenR;go_wp2_with (refine wpList_load_mid (by rfl) 119 _ (by rfl) bR (i*4) (by rfl) [.int .i64 xc,.int .i64 xl,.int .i64 xq,.slice (some ⟨bb,0,none⟩) nb cb] _ HRR.o underlying119 rfl Tryz.Uf ?_);refine (Cc p base 1 s0 xc (by decide) (by decide) _ GA.o).mono ?_;rintro e w10 ⟨rfl,g10,f10⟩;have k10:=jV GA.o.pg (f10.mono (fun _ _ e=>e.pf)) KA.o (by decide) (by decide);have p0:w10.cell? ⟨w9.heap.size,1,none⟩=some (.int .i64 xl):=(by rw [aA k10];rfl)
     have G10:=lH g10;have F10:=lH (yP FA.o f10);have K10:=lH k10;clear g10 f10 k10;go_wp2_with fail;refine (Cc p base 3 _ xl (by decide) (by decide) _ G10.o).mono ?_;rintro e w11 ⟨rfl,g11,f11⟩;have k11:=jV G10.o.pg (f11.mono (fun _ _ e=>e.pf)) K10.o (by decide) (by decide);have p1:w11.cell? ⟨w9.heap.size,2,none⟩=some (.int .i64 xq):=(by rw [aA k11];rfl)
     have G11:=lH g11;have F11:=lH (yP F10.o f11);have K11:=lH k11;clear g11 f11 k11 p0;go_wp2_with fail;refine (Cc p base 4 _ xq (by decide) (by decide) _ G11.o).mono ?_;rintro e w12 ⟨rfl,g12,f12⟩;have k12:=jV G11.o.pg (f12.mono (fun _ _ e=>e.pf)) K11.o (by decide) (by decide);have p2:w12.cell? ⟨w9.heap.size,3,none⟩=some (.slice (some ⟨bb,0,none⟩) nb cb):=(by rw [aA k12];rfl)
     have G12:=lH g12;have F12:=lH (yP F11.o f12);clear g12 f12 k12 p1;go_wp2_with fail;refine (aBb p base _ _ xb _ (HXM.o _ F12.o) G12.o).mono ?_;rintro e w13 ⟨rfl,g13,f13⟩;have G13:=lH (HE.o w13 (by rw [HST.o];exact g13));have F13:=lH (yP F12.o f13);clear g13 f13 p2;go_wp2_with fail;go_roundw
     case rel=>exact ⟨i+1,by go_num,hlt,G13,F13⟩
     case measure=>simp [intOf];omega
    ·obtain rfl:i=Lr.length:=by omega
     have q2:¬(Lr.length:Int)<(Lr.length:Int):=(by omega)
     have G14:Hid (Pg w9 p base (qJ S)):=lH (by
      have h1:=HG.o.pg;rw [List.take_length] at h1;have h2:qJ S=Lr.foldl (fun s x=>oJ s (kV x)) s8:=by
       rw [HS8.o,LEN.o,HQ8.o,← HMAP.o,List.foldl_map]
      rw [h2];exact h1)
     have F14:=lH (cZ F7.o (HF.o.mono (fun _ _ e=>e.pf)));clear HG HF HREP LEN HMAP HS8 RN7 G7 F7 G8 F8 E8;have T14:=(HT.o _ F14.o).1;have c9:w9.cell? ⟨L.s,9,none⟩=some (.pointer (some ⟨L.tr,0,none⟩)):=T14.cell 9;have HTW:=lH (Vh o K L.tr p base S.T _ w9 (fun W f=>(HT.o _ (cZ F14.o f)).1.tree) ok.tree G14.o);unfold mD at HTW;clear T14;go_wp2_with fail;refine HTW.o.mono ?_;rintro e w15 ⟨rfl,g15,f15⟩;have G15:=lH g15;have F15:=lH (cZ F14.o f15);have T15:=(HT.o _ F15.o).1;have c10:w15.cell? ⟨L.s,10,none⟩=some (.pointer (some ⟨L.tk,0,none⟩)):=T15.cell 10;obtain ⟨vt,hkt,hvt⟩:=T15.tok.jL;have HKW:=lH (V4 L.tk p base S.K vt _ w15 hkt hvt g15);unfold mD at HKW;clear g15 f15 T15 hkt hvt HTW c9 G14 F14;go_wp2_with fail;refine HKW.o.mono ?_;rintro e w16 ⟨rfl,g16,f16⟩;have G16:=lH g16;have F16:=lH (cZ F15.o f16);have T16:=(HT.o _ F16.o).1;have c11:w16.cell? ⟨L.s,11,none⟩=some (.map (some L.fl)):=T16.cell 11;have hlen:(Builtin.len_ #[100] 3 #[.map (some L.fl)]).run prog w16=.ok (.int .i64 ((iV S).length:Int)) w16:=by
      obtain ⟨_,fp,cu,_,hum,_⟩:=T16.files;have h1:=hum.len underlying100 3;rw [U5 ok hum] at h1;exact h1
     have HN24:=lH (sV p base _ ((iV S).length:Int) w16 g16);have HNN:Hid (∀k∈iV S,k≤128):=lH (fun k hk=>by
      unfold iV numsOf at hk;have:=List.mem_range.1 (List.mem_filter.1 hk).1;omega)
     clear g16 f16 T16 HKW c10 G15 F15;go_wp2_with fail;refine HN24.o.mono ?_;rintro e w17 ⟨rfl,g17,f17⟩;have G17:=lH g17;have F17:=lH (cZ F16.o f17);have HIN:=lH (Wn o K n L S w17 (HT.o _ F17.o).1 ok hn);unfold uU at HIN;have HMID:Hid (xP S=(iV S).foldl (qW S.F) (aI (qA (pR (qJ S) S.T) S.K) (iV S).length 2)):=lH rfl;change Hid (Calls prog 79 _ w17 fun e w'=>∃v,e=.returned v∧iT lG 1 3 w' w17.heap.size v ((iV S).map fun k:Nat=>(k:Int))∧Fr No w17 w') at HIN;generalize hpm:xP S=PM at*;have HPM:=lH hpm;clear hpm;generalize aI (qA (pR (qJ S) S.T) S.K) (iV S).length 2=s17 at*;have HFN:Hid (∀k∈iV S,∃m,S.F k=some m):=lH (fun k hk=>by
      unfold iV numsOf at hk;exact Option.isSome_iff_exists.1 (List.mem_filter.1 hk).2)
     generalize iV S=NN at*;clear g17 f17 HN24 hlen c11 G16 F16;go_wp2_with fail;refine HIN.o.mono ?_;rintro e w18 ⟨v18,rfl,rn18,f18⟩;obtain ⟨a18,c18,hv18⟩:=rn18.shape;rw [List.length_map] at hv18;subst hv18;have RN18:=lH rn18;have F18:=lH (F17.o.trans f18 (fun _ _ e=>e.elim));have G18:=lH (G17.o.no f18);have LI18:Hid (Fr (Pf w18 p base) w18 w18):=lH (Fr.refl _);clear rn18 f18 HIN G17 F17;go_wp2_with fail;go_loopw [105] (fun a wr=>∃i:Nat,a=.int .i64 i∧i≤NN.length∧Hid (Pg wr p base ((NN.take i).foldl (qW S.F) s17))∧Hid (Fr (Pf w18 p base) w18 wr)) (fun a _=>NN.length - (intOf a).toNat)
     case atStart=>exact ⟨0,rfl,Nat.zero_le _,G18,LI18⟩
     case round=>
      obtain ⟨w20,rfl⟩:∃w20:World,w20=wr:=⟨_,rfl⟩
      obtain ⟨i,rfl,hi,HG,HF⟩:=hrel;by_cases hlt:i<NN.length
      ·have q3:(i:Int)<(NN.length:Int):=by omega
       have q4:(0:Int)≤(i:Int):=(by omega)
       obtain ⟨bR,hbR,hmR,_,hrR⟩:=RN18.o.at (by rw [List.length_map];omega);subst hbR;have hr2:=hrR.pf G18.o HF.o (by decide) (by decide);have k1:=Nc hr2 hlt;have hlenR:=hr2.len;rw [List.length_map] at hlenR;have hmR':c18≤9223372036854775807:=hmR;have q5:(i:Int)<(c18:Int):=(by omega)
       have hiN:=HNN.o NN[i] (List.getElem_mem hlt);obtain ⟨m,hm⟩:=HFN.o NN[i] (List.getElem_mem hlt);have HTK:Hid (NN.take (i+1)=NN.take i++ [NN[i]]):=lH (List.take_succ_eq_append_getElem hlt);generalize NN[i]=iN at*;have HST:Hid (∀s,qW S.F s iN=mM (aI s iN 2) m):=lH (fun s=>by unfold qW;rw [hm];rfl);have HE:Hid (∀W,Pg W p base (qW S.F ((NN.take i).foldl (qW S.F) s17) iN)→Pg W p base ((NN.take (i+1)).foldl (qW S.F) s17)):=lH (fun W g=>by rw [HTK.o,List.foldl_append];exact g);generalize (NN.take i).foldl (qW S.F) s17=s0 at*;have HM:=lH hm;clear hrR hr2 hmR hlenR hm;go_wp2_with fail;refine (sV p base s0 (iN:Int) _ HG.o).mono ?_;rintro e w21 ⟨rfl,g21,f21⟩;have G21:=lH g21;have F21:=lH (cZ HF.o f21);have T21:=(HT.o _ (cZ F18.o F21.o)).1;have c11:w21.cell? ⟨L.s,11,none⟩=some (.map (some L.fl)):=T21.cell 11;obtain ⟨fp,lk,lf⟩:=T21.files.look iN (by omega);have hl1:=lk w21 (Fr.refl _);have hv:rX S.F fp iN=.pointer (some ⟨fp iN,0,none⟩):=(by unfold rX;rw [HM.o])
       rw [hv] at hl1;have HFW:=lH (Kv (fp iN) p base _ m w21 g21 (lf m HM.o).reads);unfold mD at HFW;clear g21 f21 T21 lk lf hv k1;go_wp2_with fail;refine HFW.o.mono ?_;rintro e w22 ⟨rfl,g22,f22⟩;have G22:=lH (HE.o w22 (by rw [HST.o];exact g22));have F22:=lH (cZ F21.o f22);clear g22 f22 hl1 c11;go_wp2_with fail;go_roundw
       case rel=>exact ⟨i+1,by go_num,hlt,G22,F22⟩
       case measure=>simp [intOf];omega
      ·obtain rfl:i=NN.length:=by omega
       have q3:¬(NN.length:Int)<(NN.length:Int):=(by omega)
       have G23:Hid (Pg w20 p base PM):=lH (by
        have h1:=HG.o;rw [List.take_length] at h1;rw [HMID.o];exact h1)
       have F23:=lH (cZ F18.o HF.o);clear HG HF HMID RN18 G18 F18 LI18 HNN HFN;have T23:=(HT.o _ F23.o).1;have c12:w20.cell? ⟨L.s,12,none⟩=some (.map (some L.us)):=T23.cell 12;obtain ⟨_,cu,hcu,hum⟩:=T23.uses;have hlen:=hum.len underlying101 3;have HUM:=lH (fun (ss:List Stp) (h1:ss.Nodup) (h2:∀x,x∈ss↔(S.U x).isSome=true)=>aAg hum h1 h2);have HN31:=lH (sV p base _ (cu:Int) w20 G23.o);clear T23 hum hcu;go_wp2_with fail;refine HN31.o.mono ?_;rintro e w24 ⟨rfl,g24,f24⟩;have G24:=lH g24;have F24:=lH (cZ F23.o f24);have HSP:=lH (Ye o K n L S w24 (HT.o _ F24.o).1 (HT.o _ F24.o).2 hn);unfold yY at HSP;clear g24 f24 c12 hlen HN31 G23 F23;go_wp2_with fail;refine HSP.o.mono ?_;rintro e w25 ⟨v25,ss,rfl,rn25,nd25,mem25,pw25,f25⟩;obtain ⟨a25,c25,hv25⟩:=rn25.shape;subst hv25;obtain rfl:cu=ss.length:=HUM.o ss nd25 mem25;have STP:Hid (vJ S.U ss):=lH ⟨nd25,mem25,pw25⟩;have RN25:=lH rn25;have F25:=lH (F24.o.trans f25 (fun _ _ e=>e.elim));have G25:=lH (G24.o.no f25);have LI25:Hid (Fr (Pf w25 p base) w25 w25):=lH (Fr.refl _);have HEND:Hid (nK S ss=ss.foldl (pF S.U) (aI PM ss.length 2)):=lH (by unfold nK;rw [HPM.o]);have HNE:=lH (aC2 S ss);generalize hpe:nK S ss=PE at*;have HPE:=lH hpe;clear hpe;generalize aI PM ss.length 2=s25 at*;clear rn25 nd25 mem25 pw25 f25 HSP HUM G24 F24;go_wp2_with fail;go_loopw [131] (fun a wr=>∃i:Nat,a=.int .i64 i∧i≤ss.length∧Hid (Pg wr p base ((ss.take i).foldl (pF S.U) s25))∧Hid (Fr (Pf w25 p base) w25 wr)) (fun a _=>ss.length - (intOf a).toNat)
       case atStart=>exact ⟨0,rfl,Nat.zero_le _,G25,LI25⟩
       case round=>
        obtain ⟨w30,rfl⟩:∃w30:World,w30=wr:=⟨_,rfl⟩
        obtain ⟨i,rfl,hi,HG,HF⟩:=hrel;by_cases hlt:i<ss.length
        ·have q4:(i:Int)<(ss.length:Int):=by omega
         have q5:(0:Int)≤(i:Int):=(by omega)
         obtain ⟨bR,hbR,hmR,_,hrR⟩:=RN25.o.at (by omega);subst hbR;have hr2:=hrR.pf G25.o HF.o (by decide) (by decide);have hrow:=hr2.row i ss[i] (List.getElem?_eq_getElem hlt);have hlenR:=hr2.len;have hmR':c25≤9223372036854775807:=hmR;have q6:(i:Int)<(c25:Int):=(by omega)
         have HTK:Hid (ss.take (i+1)=ss.take i++ [ss[i]]):=lH (List.take_succ_eq_append_getElem hlt);generalize ss[i]=x at*;have HST:Hid (∀s,pF S.U s x=aI (aI (aI (aI (aI s x.1 1) x.2.1 3) x.2.2 4) ((S.U x).getD (0,0,0)).1 2) ((S.U x).getD (0,0,0)).2.2 6):=lH (fun _=>rfl);have HE:Hid (∀W,Pg W p base (pF S.U ((ss.take i).foldl (pF S.U) s25) x)→Pg W p base ((ss.take (i+1)).foldl (pF S.U) s25)):=lH (fun W g=>by rw [HTK.o,List.foldl_append];exact g);generalize (ss.take i).foldl (pF S.U) s25=s0 at*;unfold lS at hrow;generalize x.1=x1 at hrow HST;generalize x.2.1=x2 at hrow HST;generalize x.2.2=x3 at hrow HST;generalize ((S.U x).getD (0,0,0)).1=x4 at hrow HST;generalize ((S.U x).getD (0,0,0)).2.1=x5 at hrow HST;generalize ((S.U x).getD (0,0,0)).2.2=x6 at hrow HST;have HRR:=lH hrow;have fa:Fr No w30 (w30.alloc (.cells #[.int .i64 x1,.int .i64 x2,.int .i64 x3,.int .i64 x4,.int .i64 x5,.int .i64 x6] 80)):=(Fr.refl w30).alloc _;have ka:=aO w30 (.cells #[.int .i64 x1,.int .i64 x2,.int .i64 x3,.int .i64 x4,.int .i64 x5,.int .i64 x6] 80);have GA:=lH (HG.o.no fa);have FA:=lH (cZ HF.o fa.bK);have KA:=lH ka;clear hrR hr2 hmR fa ka hrow hlenR;go_wp2_with (refine wpList_load_mid (by rfl) 80 _ (by rfl) bR (i*6) (by rfl) [.int .i64 x1,.int .i64 x2,.int .i64 x3,.int .i64 x4,.int .i64 x5,.int .i64 x6] _ HRR.o underlying80 rfl Tryz.yJ ?_);refine (kQ p base 1 s0 x1 (by decide) (by decide) _ GA.o).mono ?_;rintro e w31 ⟨rfl,g31,f31⟩;have k31:=jV GA.o f31 KA.o (by decide) (by decide);have p0:w31.cell? ⟨w30.heap.size,1,none⟩=some (.int .i64 x2):=(by rw [aA k31];rfl)
         have G31:=lH g31;have F31:=lH (cZ FA.o f31);have K31:=lH k31;clear g31 f31 k31;go_wp2_with fail;refine (Ag p base _ x2 _ G31.o).mono ?_;rintro e w32 ⟨rfl,g32,f32⟩;have k32:=jV G31.o f32 K31.o (by decide) (by decide);have p1:w32.cell? ⟨w30.heap.size,2,none⟩=some (.int .i64 x3):=(by rw [aA k32];rfl)
         have G32:=lH g32;have F32:=lH (cZ F31.o f32);have K32:=lH k32;clear g32 f32 k32 p0;go_wp2_with fail;refine (P6 p base _ x3 _ G32.o).mono ?_;rintro e w33 ⟨rfl,g33,f33⟩;have k33:=jV G32.o f33 K32.o (by decide) (by decide);have p2:w33.cell? ⟨w30.heap.size,3,none⟩=some (.int .i64 x4):=(by rw [aA k33];rfl)
         have G33:=lH g33;have F33:=lH (cZ F32.o f33);have K33:=lH k33;clear g33 f33 k33 p1;go_wp2_with fail;refine (sV p base _ x4 _ G33.o).mono ?_;rintro e w34 ⟨rfl,g34,f34⟩;have k34:=jV G33.o f34 K33.o (by decide) (by decide);have p3:w34.cell? ⟨w30.heap.size,5,none⟩=some (.int .i64 x6):=(by rw [aA k34];rfl)
         have G34:=lH g34;have F34:=lH (cZ F33.o f34);clear g34 f34 k34 p2;go_wp2_with fail;refine (Oq p base _ x6 _ G34.o).mono ?_;rintro e w35 ⟨rfl,g35,f35⟩;have G35:=lH (HE.o w35 (by rw [HST.o];exact g35));have F35:=lH (cZ F34.o f35);clear g35 f35 p3;go_wp2_with fail;go_roundw
         case rel=>exact ⟨i+1,by go_num,hlt,G35,F35⟩
         case measure=>simp [intOf];omega
        ·obtain rfl:i=ss.length:=by omega
         have q4:¬(ss.length:Int)<(ss.length:Int):=(by omega)
         have G36:Hid (Pg w30 p base PE):=lH (by
          have h1:=HG.o;rw [List.take_length] at h1;rw [HEND.o];exact h1)
         have F36:=lH (FNO.o _ (cZ F25.o HF.o));clear HG HF HEND RN25 G25 F25 LI25;have HPL:Hid (p≤w30.heap.size):=lH (by obtain ⟨c,hc⟩:=G36.o.is;exact Nat.le_of_lt (lt_of_block hc));obtain ⟨bs,bad⟩:=PE;have HLN:Hid (bs.length≤65536):=lH (by obtain ⟨_,_,_,_,h⟩:=G36.o;exact h);by_cases h0:bad=0
         ·subst h0;have HB:=lH (Ic p base bs w30 G36.o (HNE.o rfl));go_wp2_with fail;refine HB.o.mono ?_;rintro e w37 ⟨v,b,c,rfl,hs,hb,f37⟩;have HEN:=lH (HR.o v ss (.returned (.tuple #[v,.int .i64 0])) w37 STP.o (by rw [HPE.o]) (by unfold sU;rw [HPE.o,if_pos rfl];exact hs.yV) (F36.o.trans f37 kp) (by unfold sU;rw [HPE.o,if_pos rfl];exact HLN.o) (fun a l c' e=>by rw [hs.1] at e;cases e;exact Nat.le_trans HPL.o hb));clear hs hb f37;go_wp2_with fail

          exact HEN.o
         ·have t0:(bad !=0)=true:=by simpa using h0
          have HB:=lH (aCA p base (bs,bad) w30 G36.o t0);go_wp2_with fail;refine HB.o.mono ?_;rintro e w37 ⟨rfl,f37⟩;have HEN:=lH (HR.o (.slice none 0 0) ss (.returned (.tuple #[.slice none 0 0,.int .i64 bad])) w37 STP.o (by rw [HPE.o]) (by unfold sU;rw [HPE.o,if_neg h0];exact Xy w37) (F36.o.trans f37 kp) (by unfold sU;rw [HPE.o,if_neg h0];exact Nat.zero_le _) (fun a l c' e=>by cases e));clear f37;go_wp2_with fail

          exact HEN.o
