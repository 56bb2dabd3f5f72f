/- Part of the proof; the last text says what is proved. -/
import Derived.Test.YtlcojhddnpmgmaaGreatT36
set_option linter.unusedSimpArgs false
set_option linter.unusedVariables false
set_option maxRecDepth 100000
set_option maxHeartbeats 6400000
namespace Go.Proofs.YtlcojhddnpmgmaaGreat
open Go.RowKit
def penWr (s:PenS) (y:Int×Int×Int×List UInt8):PenS:=penRaw (penNum (penNum (penNum s y.1 1) y.2.1 3) y.2.2.1 4) y.2.2.2
def penFile (F:Nat→Option FMap) (s:PenS) (i:Nat):PenS:=penMap (penNum s i 2) ((F i).getD noFile)
def penUse (U:Stp→Option Us) (s:PenS) (x:Stp):PenS:=penNum (penNum (penNum (penNum (penNum s x.1 1) x.2.1 3) x.2.2 4) ((U x).getD (0,0,0)).1 2) ((U x).getD (0,0,0)).2.2 6
def penNext (S:St) (i:Nat):PenS:=(List.range i).foldl (fun s k=>penNum s (S.next k) 4) (penNum (penNum (penNum ([],0) S.boots 3) S.swaps 3) S.clock 6)
def filesN (S:St):List Nat:=numsOf fun k=>(S.F k).isSome
def penWin (S:St):PenS:=(wrOf S.W 4).foldl penWr (penNum (penNext S 5) (wrOf S.W 4).length 1)
def penMid (S:St):PenS:=(filesN S).foldl (penFile S.F) (penNum (penToks (penTree (penWin S) S.T) S.K) (filesN S).length 2)
def penState (S:St) (ss:List Stp):PenS:=ss.foldl (penUse S.U) (penNum (penMid S) ss.length 2)
def StpsOf (U:Stp→Option Us) (ss:List Stp):Prop:=ss.Nodup∧(∀x,x∈ss↔(U x).isSome=true)∧ss.Pairwise (fun x y=>stpLe x y=true)
def encB (s:PenS):List UInt8:=if s.2=0 then s.1 else []
def EncPost (w:World) (S:St) (e:Ending) (w':World):Prop:=
 ∃v ss,StpsOf S.U ss∧e=.returned (.tuple #[v,.int .i64 (penState S ss).2])∧SlAt w' v (encB (penState S ss))∧Fr No w w'∧(encB (penState S ss)).length≤65536∧∀a l c,v=.slice (some a) l c→w.heap.size≤a.block
def Ext (s s':PenS):Prop:=s'.2=0→s.2=0∧s.1.length≤s'.1.length
theorem Ext.refl (s:PenS):Ext s s:=fun h=>⟨h,Nat.le_refl _⟩
theorem Ext.trans {s t u:PenS} (h:Ext s t) (g:Ext t u):Ext s u:=fun e=>by
 obtain ⟨g1,g2⟩:=g e;obtain ⟨h1,h2⟩:=h g1;exact ⟨h1,Nat.le_trans h2 g2⟩
theorem ext_put (s:PenS) (ys:List UInt8):Ext s (penPut s ys):=fun e=>by
 unfold penPut at e ⊢;split at e
 ·rename_i h;exact absurd e h
 ·rename_i h
  rw [if_neg h];split at e
  ·cases e
  ·rename_i h2
   rw [if_neg h2];exact ⟨Classical.byContradiction h,by simp⟩
theorem ext_fail (s:PenS) (x:Int) (hx:x≠0):Ext s (penFail s x):=fun e=>by
 unfold penFail at e;split at e
 ·rename_i h;exact absurd e h
 ·exact absurd e hx
theorem ext_num (s:PenS) (x:Int) (wd:Nat):Ext s (penNum s x wd):=by
 unfold penNum;split
 ·exact ext_put _ _
 ·exact ext_fail _ _ (by decide)
theorem ext_raw (s:PenS) (ys:List UInt8):Ext s (penRaw s ys):=by
 unfold penRaw;split
 ·exact ext_fail _ _ (by decide)
 ·exact ext_put _ _
theorem ext_fold {α:Type} {f:PenS→α→PenS} (hf:∀s x,Ext s (f s x)):∀(l:List α) (s:PenS),Ext s (l.foldl f s)
 | [],s=>Ext.refl s
 | x::r,s=>(hf s x).trans (ext_fold hf r (f s x))
theorem ext_map (s:PenS) (m:FMap):Ext s (penMap s m):=by
 unfold penMap;refine (ext_num s _ 2).trans (ext_fold (fun s x=> ?_) _ _);unfold penPtr;exact ((((ext_num _ _ _).trans (ext_num _ _ _)).trans (ext_num _ _ _)).trans (ext_num _ _ _)).trans (ext_num _ _ _)
theorem ext_thing (T:Tree) (s:PenS) (k:Nat):Ext s (penThing T s k):=by
 unfold penThing;split
 ·exact Ext.refl s
 ·cases T k with
  | none=>exact Ext.refl s
  | some x=>exact (((ext_num _ _ _).trans (ext_num _ _ _)).trans (ext_raw _ _)).trans (ext_put _ _)
theorem ext_tok (s:PenS) (x:Tok):Ext s (penTok s x):=(((ext_num _ _ _).trans (ext_num _ _ _)).trans (ext_num _ _ _)).trans (ext_put _ _)
theorem ext_wr (s:PenS) (y:Int×Int×Int×List UInt8):Ext s (penWr s y):=(((ext_num _ _ _).trans (ext_num _ _ _)).trans (ext_num _ _ _)).trans (ext_raw _ _)
theorem ext_use (U:Stp→Option Us) (s:PenS) (x:Stp):Ext s (penUse U s x):=((((ext_num _ _ _).trans (ext_num _ _ _)).trans (ext_num _ _ _)).trans (ext_num _ _ _)).trans (ext_num _ _ _)
theorem penState_ne (S:St) (ss:List Stp) (h:(penState S ss).2=0):(penState S ss).1≠ []:=by
 have h1:Ext (penNum ([],0) S.boots 3) (penState S ss):=by
  refine Ext.trans ?_ ((ext_num _ _ _).trans (ext_fold (ext_use S.U) ss _));unfold penMid;refine Ext.trans ?_ ((ext_num _ _ _).trans (ext_fold (fun s i=>(ext_num _ _ _).trans (ext_map _ _)) _ _));unfold penToks penTree penWin penNext;refine Ext.trans ?_ ((ext_num _ _ _).trans (ext_fold ext_tok _ _));refine Ext.trans ?_ ((ext_num _ _ _).trans (ext_fold (ext_thing S.T) _ _));refine Ext.trans ?_ ((ext_num _ _ _).trans (ext_fold ext_wr _ _));exact ((ext_num _ _ _).trans (ext_num _ _ _)).trans (ext_fold (fun s k=>ext_num _ _ _) _ _)
 obtain ⟨h2,h3⟩:=h1 h;intro e;rw [e,List.length_nil] at h3;unfold penNum at h2 h3;split at h2
 ·rename_i hb
  rw [if_pos hb] at h3;unfold penPut at h3;rw [if_neg (by simp),if_neg (by rw [numB_length];simp)] at h3;rw [List.nil_append,numB_length] at h3;omega
 ·cases h2
section
variable {K V:Type} [DecidableEq K] {E:Enc K V} {t e:TypeId}
theorem MapAt.count_list (ht:Tryz.prog.underlying t=some (.map E.k e)):∀(l:List K) {w:World} {b c:Nat} {m:K→Option V},MapAt E w b c m→l.Nodup→(∀x,x∈l↔(m x).isSome=true)→c=l.length
 | [],w,b,c,m,h,_,hl=>by
  rcases h.has_one ht with ⟨h0,_⟩|⟨_,x,y,hm⟩
  ·exact h0
  ·exact absurd ((hl x).2 (by rw [hm];rfl)) (by simp)
 | x::r,w,b,c,m,h,hn,hl=>by
  obtain ⟨y,hm⟩:=Option.isSome_iff_exists.1 ((hl x).1 List.mem_cons_self);rcases h.has_one ht with ⟨_,h0⟩|⟨hp,_⟩
  ·rw [h0 x] at hm;cases hm
  ·obtain ⟨_,_,d1,_⟩:=h.del x (h.good hm).1 ht 0;rw [hm] at d1;obtain ⟨n1,n2⟩:=List.nodup_cons.1 hn;have:=MapAt.count_list ht r d1 n2 (fun z=>by
    by_cases hz:z=x
    ·subst hz;simp [n1]
    ·have:=hl z;simp only [List.mem_cons,hz,false_or] at this;simp [hz,this])
   simp only [Option.isSome_some,if_true] at this;rw [List.length_cons];omega
end
theorem files_count {S:St} (ok:StOk S) {w:World} {b c:Nat} {fp:Nat→Nat} (h:MapAt encI w b c (filem S.F fp)):c=(filesN S).length:=by
 have h1:=h.count_list Tryz.underlying100 ((filesN S).map fun k:Nat=>(k:Int)) (by
  unfold List.Nodup;rw [List.pairwise_map];unfold filesN numsOf;exact ((range_sorted 129).filter _).imp (fun h e=>by omega)) (fun x=>by
  have hp:∀k,(S.F k).isSome=true→k<129:=fun k hk=>by
   obtain ⟨m,hm⟩:=Option.isSome_iff_exists.1 hk;have:=ok.file k m hm;omega
  rw [List.mem_map];unfold filem filesN;constructor
  ·rintro ⟨k,hk,rfl⟩;have:=(numsOf_mem hp k).1 hk;simp [this]
  ·intro hx;split at hx
   ·refine ⟨x.toNat,(numsOf_mem hp _).2 (by simpa using hx),by omega⟩
   ·cases hx)
 rw [h1,List.length_map]
theorem uses_count {U:Stp→Option Us} {w:World} {b c:Nat} (h:MapAt encU w b c (usem U)) {ss:List Stp} (hn:ss.Nodup) (hm:∀x,x∈ss↔(U x).isSome=true):c=ss.length:=
 h.count_list Tryz.underlying101 ss hn (fun x=>by
  rw [hm x];unfold usem;simp)
theorem slAt_nil (w:World):SlAt w (.slice none 0 0) []:=.inl ⟨rfl,none,0,rfl⟩
theorem num_w4 (p base:Nat) (s:PenS) (x:Int) (w:World) (h:Pg w p base s):Calls Tryz.prog 76 #[.pointer (some ⟨p,0,none⟩),.int .i64 x,.int .i64 4] w fun e w'=>e=.returned (.tuple #[])∧Pg w' p base (penNum s x 4)∧Fr (Pf w p base) w w':=num_ p base 4 s x (by decide) (by decide) w h
theorem num_w6 (p base:Nat) (s:PenS) (x:Int) (w:World) (h:Pg w p base s):Calls Tryz.prog 76 #[.pointer (some ⟨p,0,none⟩),.int .i64 x,.int .i64 6] w fun e w'=>e=.returned (.tuple #[])∧Pg w' p base (penNum s x 6)∧Fr (Pf w p base) w w':=num_ p base 6 s x (by decide) (by decide) w h
theorem Tryz.size102:(Tryz.prog.info? 102).map (·.size)=some 5:=by kernel_rfl
theorem index102_0 (f:Nat→Int) (W:World):(Instr.index 102 (.agg #[.int .i64 (f 0),.int .i64 (f 1),.int .i64 (f 2),.int .i64 (f 3),.int .i64 (f 4)]) (.int .i64 ((0:Nat):Int))).run Tryz.prog W=.ok (.int .i64 (f 0)) W:=by kernel_rfl
theorem index102_1 (f:Nat→Int) (W:World):(Instr.index 102 (.agg #[.int .i64 (f 0),.int .i64 (f 1),.int .i64 (f 2),.int .i64 (f 3),.int .i64 (f 4)]) (.int .i64 ((1:Nat):Int))).run Tryz.prog W=.ok (.int .i64 (f 1)) W:=by kernel_rfl
theorem index102_2 (f:Nat→Int) (W:World):(Instr.index 102 (.agg #[.int .i64 (f 0),.int .i64 (f 1),.int .i64 (f 2),.int .i64 (f 3),.int .i64 (f 4)]) (.int .i64 ((2:Nat):Int))).run Tryz.prog W=.ok (.int .i64 (f 2)) W:=by kernel_rfl
theorem index102_3 (f:Nat→Int) (W:World):(Instr.index 102 (.agg #[.int .i64 (f 0),.int .i64 (f 1),.int .i64 (f 2),.int .i64 (f 3),.int .i64 (f 4)]) (.int .i64 ((3:Nat):Int))).run Tryz.prog W=.ok (.int .i64 (f 3)) W:=by kernel_rfl
theorem index102_4 (f:Nat→Int) (W:World):(Instr.index 102 (.agg #[.int .i64 (f 0),.int .i64 (f 1),.int .i64 (f 2),.int .i64 (f 3),.int .i64 (f 4)]) (.int .i64 ((4:Nat):Int))).run Tryz.prog W=.ok (.int .i64 (f 4)) W:=by kernel_rfl
theorem index102 (f:Nat→Int) (i:Nat) (hi:i<5) (W:World):(Instr.index 102 (.agg #[.int .i64 (f 0),.int .i64 (f 1),.int .i64 (f 2),.int .i64 (f 3),.int .i64 (f 4)]) (.int .i64 (i:Int))).run Tryz.prog W=.ok (.int .i64 (f i)) W:=by
 have h:i=0∨i=1∨i=2∨i=3∨i=4:=by omega
 rcases h with rfl|rfl|rfl|rfl|rfl
 ·exact index102_0 f W
 ·exact index102_1 f W
 ·exact index102_2 f W
 ·exact index102_3 f W
 ·exact index102_4 f W
theorem gencodeS_ (o:Nat→Nat) (K n:Nat) (L:Plc) (S:St) (w:World) (h:StateAt w o K L S n) (ok:StOk S) (hf:Fresh w o) (hn:n≤1000000) (hlen:∀i life seq bs,S.W i=some (life,seq,bs)→bs.length≤1000000):Calls Tryz.prog 41 #[.pointer (some ⟨L.s,0,none⟩)] w (EncPost w S):=by
 have HMD:=lH (gmade_ o K n L S w h);have HR:Hid (∀v ss e w',StpsOf S.U ss→e=.returned (.tuple #[v,.int .i64 (penState S ss).2])→SlAt w' v (encB (penState S ss))→Fr No w w'→(encB (penState S ss)).length≤65536→(∀a l c,v=.slice (some a) l c→w.heap.size≤a.block)→EncPost w S e w'):=lH (fun v ss e w' a b c d f g=>⟨v,ss,a,b,c,d,f,g⟩);generalize hQ:EncPost w S=Q at*;clear hQ;have hb1:∀w':World,(Instr.build 122 #[]).run Tryz.prog w'=.ok (.agg #[.slice none 0 0,.int .i64 0]) w':=fun w'=>by kernel_rfl
 have f0:Fr No w (w.alloc (.cells #[.slice none 0 0,.int .i64 0] 122)):=(Fr.refl w).alloc _;have G0:=lH (pg_new w);have FNO:Hid (∀W,Fr (Pf (w.alloc (.cells #[.slice none 0 0,.int .i64 0] 122)) w.heap.size (w.heap.size+1)) (w.alloc (.cells #[.slice none 0 0,.int .i64 0] 122)) W→Fr No w W):=lH (fun W f=>f0.trans f (fun j hj e=>by rcases e with e|⟨e,_⟩<;>omega));have HT:Hid (∀W,Fr (Pf (w.alloc (.cells #[.slice none 0 0,.int .i64 0] 122)) w.heap.size (w.heap.size+1)) (w.alloc (.cells #[.slice none 0 0,.int .i64 0] 122)) W→StateAt W o K L S n∧Fresh W o):=lH (fun W f=>⟨h.no ok hf (FNO.out W f),fun k hk=>hf k (Nat.le_trans (FNO.out W f).size hk)⟩);have HLEN:=lH hlen;go_enter Tryz.func41,Tryz.ntmps41;go_wp2_with fail;refine HMD.out.mono ?_;rintro e w1 ⟨rfl,hw1⟩;have hw1':=hw1.symm;subst hw1';have T0:=(HT.out _ (Fr.refl _)).1;have c0:(w.alloc (.cells #[.slice none 0 0,.int .i64 0] 122)).cell? ⟨L.s,0,none⟩=some (.int .i64 S.boots):=T0.cell 0;clear h hf f0 hlen T0 HMD;go_upto_region 4 with fail
 generalize hp0:w.heap.size=p at*;generalize w.alloc (.cells #[.slice none 0 0,.int .i64 0] 122)=w0 at*;clear hp0 hb1;generalize hbase:p+1=base at*;go_wp2_with fail;refine (num_w3 p base _ _ _ G0.out).mono ?_;rintro e w2 ⟨rfl,g2,f2⟩;have G2:=lH g2;have F2:=lH f2;have c1:w2.cell? ⟨L.s,1,none⟩=some (.int .i64 S.swaps):=(HT.out _ f2).1.cell 1;clear g2 f2 c0 G0;go_wp2_with fail;refine (num_w3 p base _ _ _ G2.out).mono ?_;rintro e w3 ⟨rfl,g3,f3⟩;have G3:=lH g3;have F3:=lH (pf_trans F2.out f3);have c2:w3.cell? ⟨L.s,2,none⟩=some (.int .i64 S.clock):=(HT.out _ F3.out).1.cell 2;clear g3 f3 c1 G2 F2;go_wp2_with fail;refine (num_w6 p base _ _ _ G3.out).mono ?_;rintro e w4 ⟨rfl,g4,f4⟩;have G4:Hid (Pg w4 p base (penNext S 0)):=lH g4;have F4:=lH (pf_trans F3.out f4);have HNXT:Hid (∀i,penNext S (i+1)=penNum (penNext S i) (S.next i) 4):=lH (fun i=>by unfold penNext;rw [List.range_succ,List.foldl_append];rfl);have HN5:Hid (w4.rangeAt L.s 3 [.int .i64 (S.next 0),.int .i64 (S.next 1),.int .i64 (S.next 2),.int .i64 (S.next 3),.int .i64 (S.next 4)]):=lH (fun a u hu=>by
  have hT:=(HT.out _ F4.out).1;have ha:a<5:=by
   have:=(List.getElem?_eq_some_iff.1 hu).1;simpa using this
  have hx:a=0∨a=1∨a=2∨a=3∨a=4:=by omega
  rcases hx with rfl|rfl|rfl|rfl|rfl<;>cases hu
  ·exact hT.cell 3
  ·exact hT.cell 4
  ·exact hT.cell 5
  ·exact hT.cell 6
  ·exact hT.cell 7)
 have hix:=fun (i:Nat) (hi:i<5) (W:World)=>index102 S.next i hi W;have HIX:=lH hix;clear g4 f4 c2 G3 F3 hix;have HPW:Hid (penWin S=(wrOf S.W 4).foldl penWr (penNum (penNext S 5) (wrOf S.W 4).length 1)):=lH rfl;generalize penNext S=PN at*;go_wp2_with (refine wpList_load_mid (by rfl) 102 _ (by rfl) L.s 3 (by rfl) [.int .i64 (S.next 0),.int .i64 (S.next 1),.int .i64 (S.next 2),.int .i64 (S.next 3),.int .i64 (S.next 4)] _ HN5.out Tryz.underlying102 rfl Tryz.size102 ?_);go_loopw [41] (fun a wr=>∃i:Nat,a=.int .i64 i∧i≤5∧Hid (Pg wr p base (PN i))∧Hid (Fr (Pf w0 p base) w0 wr)) (fun a _=>5 - (intOf a).toNat)
 case atStart=>exact ⟨0,rfl,Nat.zero_le _,G4,F4⟩
 case round=>
  obtain ⟨w5,rfl⟩:∃w5:World,w5=wr:=⟨_,rfl⟩
  obtain ⟨i,rfl,hi,HG,HF⟩:=hrel;by_cases hlt:i<5
  ·have q1:(i:Int)<5:=by omega
   have hx:=HIX.out i hlt;have HNX:=HNXT.out i;generalize S.next i=ni at*;go_wp2_with fail;refine (num_w4 p base _ _ _ HG.out).mono ?_;rintro e w6 ⟨rfl,g6,f6⟩;have G6:Hid (Pg w6 p base (PN (i+1))):=lH (by rw [HNX];exact g6);have F6:=lH (pf_trans HF.out f6);clear g6 f6;go_wp2_with fail;go_roundw
   case rel=>exact ⟨i+1,by go_num,hlt,G6,F6⟩
   case measure=>simp [intOf];omega
  ·obtain rfl:i=5:=by omega
   have q1:¬(5:Int)<5:=(by omega)
   have T5:=(HT.out _ HF.out).1;have c8:w5.cell? ⟨L.s,8,none⟩=some (.pointer (some ⟨L.win,0,none⟩)):=T5.cell 8;have HWR:=lH (wrows_ o (K+1) L.win S.W w5 T5.win (HT.out _ HF.out).2 HLEN.out);unfold WRowsPost at HWR;clear T5 G4 F4 HN5 HIX HLEN;go_wp2_with fail;refine HWR.out.mono ?_;rintro e w7 ⟨v7,Lr,rfl,hmap,rn7,rp7,f7⟩;obtain ⟨a7,c7,hv7⟩:=rn7.shape;subst hv7;have HMAP:=lH hmap;have RN7:=lH rn7;have RP7:=lH rp7;obtain ⟨Z,hZ⟩:∃Z:Nat→Prop,Z=fun k=>w5.heap.size≤k∧k<w7.heap.size:=⟨_,rfl⟩
   have g7:PgZ Z w7 p base (PN 5):=HG.out.z f7 (fun k hk=>by rw [hZ] at hk;exact hk);have G7:=lH g7;have F7:=lH (HF.out.trans f7 (fun _ _ e=>e.elim));have HBP:Hid (p<w5.heap.size):=lH (by
    obtain ⟨c,hc⟩:=HG.out.is;exact lt_of_block hc)
   -- a reply stays what it is
   have HREP:Hid (∀W,Fr (PfZ Z w7 p base) w7 W→∀x∈Lr,∃b n c,x.v=.slice (some ⟨b,0,none⟩) n c∧Bs W x.v x.bs):=lH (fun W f x hx=>by
    obtain ⟨b,c,hs,hb,_⟩:=RP7.out x hx;have hlt:=hs.2.2.1;have hs2:=hs.fr f (fun e=>by
     rcases e with e|⟨_,e,_⟩
     ·have:=HBP.out;omega
     ·apply e;rw [hZ];exact ⟨hb,hlt⟩)
    exact ⟨b,_,c,hs.1,.inr ⟨b,0,c,hs2⟩⟩)
   have LEN:Hid ((wrOf S.W 4).length=Lr.length):=lH (by rw [← hmap,List.length_map]);have HN13:=lH (num_Z p base 1 _ (Lr.length:Int) (by decide) (by decide) w7 g7);clear hmap rn7 rp7 f7 g7 HWR HF HG HBP RP7 c8;go_wp2_with fail;refine HN13.out.mono ?_;rintro e w8 ⟨rfl,g8,f8⟩;have G8:=lH g8;have F8:=lH (pf_trans F7.out (f8.mono (fun _ _ e=>e.pf)));have E8:Hid (Fr (PfZ Z w7 p base) w7 w8):=lH f8;clear g8 f8 HN13;generalize hs8:penNum (PN 5) (Lr.length:Int) 1=s8 at*;have HS8:Hid (penWin S=(wrOf S.W 4).foldl penWr (penNum (PN 5) (wrOf S.W 4).length 1)):=HPW;have HQ8:=lH hs8;clear hs8;go_wp2_with fail;go_loopw [59] (fun a wr=>∃i:Nat,a=.int .i64 i∧i≤Lr.length∧Hid (PgZ Z wr p base ((Lr.take i).foldl (fun s x=>penWr s (wrP x)) s8))∧Hid (Fr (PfZ Z w7 p base) w7 wr)) (fun a _=>Lr.length - (intOf a).toNat)
   case atStart=>exact ⟨0,rfl,Nat.zero_le _,G8,E8⟩
   case round=>
    obtain ⟨w9,rfl⟩:∃w9:World,w9=wr:=⟨_,rfl⟩
    obtain ⟨i,rfl,hi,HG,HF⟩:=hrel;by_cases hlt:i<Lr.length
    ·have q2:(i:Int)<(Lr.length:Int):=by omega
     have q3:(0:Int)≤(i:Int):=(by omega)
     obtain ⟨bR,hbR,hmR,_,hrR⟩:=RN7.out.at (by omega);subst hbR;have hr2:=hrR.pf G7.out.pg (HF.out.mono (fun _ _ e=>e.pf)) (by decide) (by decide);have HRR:=lH (hr2.row i Lr[i] (List.getElem?_eq_getElem hlt));have hlenR:=hr2.len;have hmR':c7≤9223372036854775807:=hmR;have q4:(i:Int)<(c7:Int):=(by omega)
     have hxm:=List.getElem_mem hlt;have HTK:Hid (Lr.take (i+1)=Lr.take i++ [Lr[i]]):=lH (List.take_succ_eq_append_getElem hlt);obtain ⟨bb,nb,cb,hxv,_⟩:=HREP.out w9 HF.out _ hxm;have HXM:Hid (∀W,Fr (PfZ Z w7 p base) w7 W→Bs W Lr[i].v Lr[i].bs):=lH (fun W f=>(HREP.out W f _ hxm).choose_spec.choose_spec.choose_spec.2);generalize Lr[i]=x at*;have HST:Hid (∀s,penWr s (wrP x)=penRaw (penNum (penNum (penNum s x.c 1) x.l 3) x.q 4) x.bs):=lH (fun _=>rfl);obtain ⟨xc,xl,xq,xv,xb⟩:=x;dsimp only at hxv HXM HST;subst hxv;unfold wrC at HRR;dsimp only at HRR;have HE:Hid (∀W,PgZ Z W p base (penWr ((Lr.take i).foldl (fun s x=>penWr s (wrP x)) s8) (wrP ⟨xc,xl,xq,.slice (some ⟨bb,0,none⟩) nb cb,xb⟩))→PgZ Z W p base ((Lr.take (i+1)).foldl (fun s x=>penWr s (wrP x)) s8)):=lH (fun W g=>by rw [HTK.out,List.foldl_append];exact g);generalize (Lr.take i).foldl (fun s x=>penWr s (wrP x)) s8=s0 at*;have fa:Fr No w9 (w9.alloc (.cells #[.int .i64 xc,.int .i64 xl,.int .i64 xq,.slice (some ⟨bb,0,none⟩) nb cb] 119)):=(Fr.refl w9).alloc _;have ka:=new_at w9 (.cells #[.int .i64 xc,.int .i64 xl,.int .i64 xq,.slice (some ⟨bb,0,none⟩) nb cb] 119);have GA:=lH (HG.out.no fa);have FA:=lH (pfz_trans HF.out (fa.mono (T:=PfZ Z w9 p base) (fun _ _ e=>e.elim)));have KA:=lH ka;clear hrR hr2 hmR fa ka hxm hlenR;go_wp2_with (refine wpList_load_mid (by rfl) 119 _ (by rfl) bR (i*4) (by rfl) [.int .i64 xc,.int .i64 xl,.int .i64 xq,.slice (some ⟨bb,0,none⟩) nb cb] _ HRR.out Tryz.underlying119 rfl Tryz.size119 ?_);refine (num_Z p base 1 s0 xc (by decide) (by decide) _ GA.out).mono ?_;rintro e w10 ⟨rfl,g10,f10⟩;have k10:=pf_keeps GA.out.pg (f10.mono (fun _ _ e=>e.pf)) KA.out (by decide) (by decide);have p0:w10.cell? ⟨w9.heap.size,1,none⟩=some (.int .i64 xl):=(by rw [cell_at k10];rfl)
     have G10:=lH g10;have F10:=lH (pfz_trans FA.out f10);have K10:=lH k10;clear g10 f10 k10;go_wp2_with fail;refine (num_Z p base 3 _ xl (by decide) (by decide) _ G10.out).mono ?_;rintro e w11 ⟨rfl,g11,f11⟩;have k11:=pf_keeps G10.out.pg (f11.mono (fun _ _ e=>e.pf)) K10.out (by decide) (by decide);have p1:w11.cell? ⟨w9.heap.size,2,none⟩=some (.int .i64 xq):=(by rw [cell_at k11];rfl)
     have G11:=lH g11;have F11:=lH (pfz_trans F10.out f11);have K11:=lH k11;clear g11 f11 k11 p0;go_wp2_with fail;refine (num_Z p base 4 _ xq (by decide) (by decide) _ G11.out).mono ?_;rintro e w12 ⟨rfl,g12,f12⟩;have k12:=pf_keeps G11.out.pg (f12.mono (fun _ _ e=>e.pf)) K11.out (by decide) (by decide);have p2:w12.cell? ⟨w9.heap.size,3,none⟩=some (.slice (some ⟨bb,0,none⟩) nb cb):=(by rw [cell_at k12];rfl)
     have G12:=lH g12;have F12:=lH (pfz_trans F11.out f12);clear g12 f12 k12 p1;go_wp2_with fail;refine (raw_Z p base _ _ xb _ (HXM.out _ F12.out) G12.out).mono ?_;rintro e w13 ⟨rfl,g13,f13⟩;have G13:=lH (HE.out w13 (by rw [HST.out];exact g13));have F13:=lH (pfz_trans F12.out f13);clear g13 f13 p2;go_wp2_with fail;go_roundw
     case rel=>exact ⟨i+1,by go_num,hlt,G13,F13⟩
     case measure=>simp [intOf];omega
    ·obtain rfl:i=Lr.length:=by omega
     have q2:¬(Lr.length:Int)<(Lr.length:Int):=(by omega)
     have G14:Hid (Pg w9 p base (penWin S)):=lH (by
      have h1:=HG.out.pg;rw [List.take_length] at h1;have h2:penWin S=Lr.foldl (fun s x=>penWr s (wrP x)) s8:=by
       rw [HS8.out,LEN.out,HQ8.out,← HMAP.out,List.foldl_map]
      rw [h2];exact h1)
     have F14:=lH (pf_trans F7.out (HF.out.mono (fun _ _ e=>e.pf)));clear HG HF HREP LEN HMAP HS8 RN7 G7 F7 G8 F8 E8;have T14:=(HT.out _ F14.out).1;have c9:w9.cell? ⟨L.s,9,none⟩=some (.pointer (some ⟨L.tr,0,none⟩)):=T14.cell 9;have HTW:=lH (gtwrite_ o K L.tr p base S.T _ w9 (fun W f=>(HT.out _ (pf_trans F14.out f)).1.tree) ok.tree G14.out);unfold PenPost at HTW;clear T14;go_wp2_with fail;refine HTW.out.mono ?_;rintro e w15 ⟨rfl,g15,f15⟩;have G15:=lH g15;have F15:=lH (pf_trans F14.out f15);have T15:=(HT.out _ F15.out).1;have c10:w15.cell? ⟨L.s,10,none⟩=some (.pointer (some ⟨L.tk,0,none⟩)):=T15.cell 10;obtain ⟨vt,hkt,hvt⟩:=T15.tok.tokV;have HKW:=lH (tkwrite_ L.tk p base S.K vt _ w15 hkt hvt g15);unfold PenPost at HKW;clear g15 f15 T15 hkt hvt HTW c9 G14 F14;go_wp2_with fail;refine HKW.out.mono ?_;rintro e w16 ⟨rfl,g16,f16⟩;have G16:=lH g16;have F16:=lH (pf_trans F15.out f16);have T16:=(HT.out _ F16.out).1;have c11:w16.cell? ⟨L.s,11,none⟩=some (.map (some L.fl)):=T16.cell 11;have hlen:(Builtin.len_ #[100] 3 #[.map (some L.fl)]).run Tryz.prog w16=.ok (.int .i64 ((filesN S).length:Int)) w16:=by
      obtain ⟨_,fp,cu,_,hum,_⟩:=T16.files;have h1:=hum.len Tryz.underlying100 3;rw [files_count ok hum] at h1;exact h1
     have HN24:=lH (num_w2 p base _ ((filesN S).length:Int) w16 g16);have HNN:Hid (∀k∈filesN S,k≤128):=lH (fun k hk=>by
      unfold filesN numsOf at hk;have:=List.mem_range.1 (List.mem_filter.1 hk).1;omega)
     clear g16 f16 T16 HKW c10 G15 F15;go_wp2_with fail;refine HN24.out.mono ?_;rintro e w17 ⟨rfl,g17,f17⟩;have G17:=lH g17;have F17:=lH (pf_trans F16.out f17);have HIN:=lH (ginos_ o K n L S w17 (HT.out _ F17.out).1 ok hn);unfold NumsPost at HIN;have HMID:Hid (penMid S=(filesN S).foldl (penFile S.F) (penNum (penToks (penTree (penWin S) S.T) S.K) (filesN S).length 2)):=lH rfl;change Hid (Calls Tryz.prog 79 _ w17 fun e w'=>∃v,e=.returned v∧RowNew numC 1 3 w' w17.heap.size v ((filesN S).map fun k:Nat=>(k:Int))∧Fr No w17 w') at HIN;generalize hpm:penMid S=PM at*;have HPM:=lH hpm;clear hpm;generalize penNum (penToks (penTree (penWin S) S.T) S.K) (filesN S).length 2=s17 at*;have HFN:Hid (∀k∈filesN S,∃m,S.F k=some m):=lH (fun k hk=>by
      unfold filesN numsOf at hk;exact Option.isSome_iff_exists.1 (List.mem_filter.1 hk).2)
     generalize filesN S=NN at*;clear g17 f17 HN24 hlen c11 G16 F16;go_wp2_with fail;refine HIN.out.mono ?_;rintro e w18 ⟨v18,rfl,rn18,f18⟩;obtain ⟨a18,c18,hv18⟩:=rn18.shape;rw [List.length_map] at hv18;subst hv18;have RN18:=lH rn18;have F18:=lH (F17.out.trans f18 (fun _ _ e=>e.elim));have G18:=lH (G17.out.no f18);have LI18:Hid (Fr (Pf w18 p base) w18 w18):=lH (Fr.refl _);clear rn18 f18 HIN G17 F17;go_wp2_with fail;go_loopw [105] (fun a wr=>∃i:Nat,a=.int .i64 i∧i≤NN.length∧Hid (Pg wr p base ((NN.take i).foldl (penFile S.F) s17))∧Hid (Fr (Pf w18 p base) w18 wr)) (fun a _=>NN.length - (intOf a).toNat)
     case atStart=>exact ⟨0,rfl,Nat.zero_le _,G18,LI18⟩
     case round=>
      obtain ⟨w20,rfl⟩:∃w20:World,w20=wr:=⟨_,rfl⟩
      obtain ⟨i,rfl,hi,HG,HF⟩:=hrel;by_cases hlt:i<NN.length
      ·have q3:(i:Int)<(NN.length:Int):=by omega
       have q4:(0:Int)≤(i:Int):=(by omega)
       obtain ⟨bR,hbR,hmR,_,hrR⟩:=RN18.out.at (by rw [List.length_map];omega);subst hbR;have hr2:=hrR.pf G18.out HF.out (by decide) (by decide);have k1:=numC_at hr2 hlt;have hlenR:=hr2.len;rw [List.length_map] at hlenR;have hmR':c18≤9223372036854775807:=hmR;have q5:(i:Int)<(c18:Int):=(by omega)
       have hiN:=HNN.out NN[i] (List.getElem_mem hlt);obtain ⟨m,hm⟩:=HFN.out NN[i] (List.getElem_mem hlt);have HTK:Hid (NN.take (i+1)=NN.take i++ [NN[i]]):=lH (List.take_succ_eq_append_getElem hlt);generalize NN[i]=iN at*;have HST:Hid (∀s,penFile S.F s iN=penMap (penNum s iN 2) m):=lH (fun s=>by unfold penFile;rw [hm];rfl);have HE:Hid (∀W,Pg W p base (penFile S.F ((NN.take i).foldl (penFile S.F) s17) iN)→Pg W p base ((NN.take (i+1)).foldl (penFile S.F) s17)):=lH (fun W g=>by rw [HTK.out,List.foldl_append];exact g);generalize (NN.take i).foldl (penFile S.F) s17=s0 at*;have HM:=lH hm;clear hrR hr2 hmR hlenR hm;go_wp2_with fail;refine (num_w2 p base s0 (iN:Int) _ HG.out).mono ?_;rintro e w21 ⟨rfl,g21,f21⟩;have G21:=lH g21;have F21:=lH (pf_trans HF.out f21);have T21:=(HT.out _ (pf_trans F18.out F21.out)).1;have c11:w21.cell? ⟨L.s,11,none⟩=some (.map (some L.fl)):=T21.cell 11;obtain ⟨fp,lk,lf⟩:=T21.files.look iN (by omega);have hl1:=lk w21 (Fr.refl _);have hv:fileV S.F fp iN=.pointer (some ⟨fp iN,0,none⟩):=(by unfold fileV;rw [HM.out])
       rw [hv] at hl1;have HFW:=lH (fwrite_ (fp iN) p base _ m w21 g21 (lf m HM.out).reads);unfold PenPost at HFW;clear g21 f21 T21 lk lf hv k1;go_wp2_with fail;refine HFW.out.mono ?_;rintro e w22 ⟨rfl,g22,f22⟩;have G22:=lH (HE.out w22 (by rw [HST.out];exact g22));have F22:=lH (pf_trans F21.out f22);clear g22 f22 hl1 c11;go_wp2_with fail;go_roundw
       case rel=>exact ⟨i+1,by go_num,hlt,G22,F22⟩
       case measure=>simp [intOf];omega
      ·obtain rfl:i=NN.length:=by omega
       have q3:¬(NN.length:Int)<(NN.length:Int):=(by omega)
       have G23:Hid (Pg w20 p base PM):=lH (by
        have h1:=HG.out;rw [List.take_length] at h1;rw [HMID.out];exact h1)
       have F23:=lH (pf_trans F18.out HF.out);clear HG HF HMID RN18 G18 F18 LI18 HNN HFN;have T23:=(HT.out _ F23.out).1;have c12:w20.cell? ⟨L.s,12,none⟩=some (.map (some L.us)):=T23.cell 12;obtain ⟨_,cu,hcu,hum⟩:=T23.uses;have hlen:=hum.len Tryz.underlying101 3;have HUM:=lH (fun (ss:List Stp) (h1:ss.Nodup) (h2:∀x,x∈ss↔(S.U x).isSome=true)=>uses_count hum h1 h2);have HN31:=lH (num_w2 p base _ (cu:Int) w20 G23.out);clear T23 hum hcu;go_wp2_with fail;refine HN31.out.mono ?_;rintro e w24 ⟨rfl,g24,f24⟩;have G24:=lH g24;have F24:=lH (pf_trans F23.out f24);have HSP:=lH (gstripes_ o K n L S w24 (HT.out _ F24.out).1 (HT.out _ F24.out).2 hn);unfold StripesPost at HSP;clear g24 f24 c12 hlen HN31 G23 F23;go_wp2_with fail;refine HSP.out.mono ?_;rintro e w25 ⟨v25,ss,rfl,rn25,nd25,mem25,pw25,f25⟩;obtain ⟨a25,c25,hv25⟩:=rn25.shape;subst hv25;obtain rfl:cu=ss.length:=HUM.out ss nd25 mem25;have STP:Hid (StpsOf S.U ss):=lH ⟨nd25,mem25,pw25⟩;have RN25:=lH rn25;have F25:=lH (F24.out.trans f25 (fun _ _ e=>e.elim));have G25:=lH (G24.out.no f25);have LI25:Hid (Fr (Pf w25 p base) w25 w25):=lH (Fr.refl _);have HEND:Hid (penState S ss=ss.foldl (penUse S.U) (penNum PM ss.length 2)):=lH (by unfold penState;rw [HPM.out]);have HNE:=lH (penState_ne S ss);generalize hpe:penState S ss=PE at*;have HPE:=lH hpe;clear hpe;generalize penNum PM ss.length 2=s25 at*;clear rn25 nd25 mem25 pw25 f25 HSP HUM G24 F24;go_wp2_with fail;go_loopw [131] (fun a wr=>∃i:Nat,a=.int .i64 i∧i≤ss.length∧Hid (Pg wr p base ((ss.take i).foldl (penUse S.U) s25))∧Hid (Fr (Pf w25 p base) w25 wr)) (fun a _=>ss.length - (intOf a).toNat)
       case atStart=>exact ⟨0,rfl,Nat.zero_le _,G25,LI25⟩
       case round=>
        obtain ⟨w30,rfl⟩:∃w30:World,w30=wr:=⟨_,rfl⟩
        obtain ⟨i,rfl,hi,HG,HF⟩:=hrel;by_cases hlt:i<ss.length
        ·have q4:(i:Int)<(ss.length:Int):=by omega
         have q5:(0:Int)≤(i:Int):=(by omega)
         obtain ⟨bR,hbR,hmR,_,hrR⟩:=RN25.out.at (by omega);subst hbR;have hr2:=hrR.pf G25.out HF.out (by decide) (by decide);have hrow:=hr2.row i ss[i] (List.getElem?_eq_getElem hlt);have hlenR:=hr2.len;have hmR':c25≤9223372036854775807:=hmR;have q6:(i:Int)<(c25:Int):=(by omega)
         have HTK:Hid (ss.take (i+1)=ss.take i++ [ss[i]]):=lH (List.take_succ_eq_append_getElem hlt);generalize ss[i]=x at*;have HST:Hid (∀s,penUse S.U s x=penNum (penNum (penNum (penNum (penNum s x.1 1) x.2.1 3) x.2.2 4) ((S.U x).getD (0,0,0)).1 2) ((S.U x).getD (0,0,0)).2.2 6):=lH (fun _=>rfl);have HE:Hid (∀W,Pg W p base (penUse S.U ((ss.take i).foldl (penUse S.U) s25) x)→Pg W p base ((ss.take (i+1)).foldl (penUse S.U) s25)):=lH (fun W g=>by rw [HTK.out,List.foldl_append];exact g);generalize (ss.take i).foldl (penUse S.U) s25=s0 at*;unfold useC at hrow;generalize x.1=x1 at hrow HST;generalize x.2.1=x2 at hrow HST;generalize x.2.2=x3 at hrow HST;generalize ((S.U x).getD (0,0,0)).1=x4 at hrow HST;generalize ((S.U x).getD (0,0,0)).2.1=x5 at hrow HST;generalize ((S.U x).getD (0,0,0)).2.2=x6 at hrow HST;have HRR:=lH hrow;have fa:Fr No w30 (w30.alloc (.cells #[.int .i64 x1,.int .i64 x2,.int .i64 x3,.int .i64 x4,.int .i64 x5,.int .i64 x6] 80)):=(Fr.refl w30).alloc _;have ka:=new_at w30 (.cells #[.int .i64 x1,.int .i64 x2,.int .i64 x3,.int .i64 x4,.int .i64 x5,.int .i64 x6] 80);have GA:=lH (HG.out.no fa);have FA:=lH (pf_trans HF.out fa.of_no);have KA:=lH ka;clear hrR hr2 hmR fa ka hrow hlenR;go_wp2_with (refine wpList_load_mid (by rfl) 80 _ (by rfl) bR (i*6) (by rfl) [.int .i64 x1,.int .i64 x2,.int .i64 x3,.int .i64 x4,.int .i64 x5,.int .i64 x6] _ HRR.out Tryz.underlying80 rfl Tryz.size80 ?_);refine (num_ p base 1 s0 x1 (by decide) (by decide) _ GA.out).mono ?_;rintro e w31 ⟨rfl,g31,f31⟩;have k31:=pf_keeps GA.out f31 KA.out (by decide) (by decide);have p0:w31.cell? ⟨w30.heap.size,1,none⟩=some (.int .i64 x2):=(by rw [cell_at k31];rfl)
         have G31:=lH g31;have F31:=lH (pf_trans FA.out f31);have K31:=lH k31;clear g31 f31 k31;go_wp2_with fail;refine (num_w3 p base _ x2 _ G31.out).mono ?_;rintro e w32 ⟨rfl,g32,f32⟩;have k32:=pf_keeps G31.out f32 K31.out (by decide) (by decide);have p1:w32.cell? ⟨w30.heap.size,2,none⟩=some (.int .i64 x3):=(by rw [cell_at k32];rfl)
         have G32:=lH g32;have F32:=lH (pf_trans F31.out f32);have K32:=lH k32;clear g32 f32 k32 p0;go_wp2_with fail;refine (num_w4 p base _ x3 _ G32.out).mono ?_;rintro e w33 ⟨rfl,g33,f33⟩;have k33:=pf_keeps G32.out f33 K32.out (by decide) (by decide);have p2:w33.cell? ⟨w30.heap.size,3,none⟩=some (.int .i64 x4):=(by rw [cell_at k33];rfl)
         have G33:=lH g33;have F33:=lH (pf_trans F32.out f33);have K33:=lH k33;clear g33 f33 k33 p1;go_wp2_with fail;refine (num_w2 p base _ x4 _ G33.out).mono ?_;rintro e w34 ⟨rfl,g34,f34⟩;have k34:=pf_keeps G33.out f34 K33.out (by decide) (by decide);have p3:w34.cell? ⟨w30.heap.size,5,none⟩=some (.int .i64 x6):=(by rw [cell_at k34];rfl)
         have G34:=lH g34;have F34:=lH (pf_trans F33.out f34);clear g34 f34 k34 p2;go_wp2_with fail;refine (num_w6 p base _ x6 _ G34.out).mono ?_;rintro e w35 ⟨rfl,g35,f35⟩;have G35:=lH (HE.out w35 (by rw [HST.out];exact g35));have F35:=lH (pf_trans F34.out f35);clear g35 f35 p3;go_wp2_with fail;go_roundw
         case rel=>exact ⟨i+1,by go_num,hlt,G35,F35⟩
         case measure=>simp [intOf];omega
        ·obtain rfl:i=ss.length:=by omega
         have q4:¬(ss.length:Int)<(ss.length:Int):=(by omega)
         have G36:Hid (Pg w30 p base PE):=lH (by
          have h1:=HG.out;rw [List.take_length] at h1;rw [HEND.out];exact h1)
         have F36:=lH (FNO.out _ (pf_trans F25.out HF.out));clear HG HF HEND RN25 G25 F25 LI25;have HPL:Hid (p≤w30.heap.size):=lH (by obtain ⟨c,hc⟩:=G36.out.is;exact Nat.le_of_lt (lt_of_block hc));obtain ⟨bs,bad⟩:=PE;have HLN:Hid (bs.length≤65536):=lH (by obtain ⟨_,_,_,_,h⟩:=G36.out;exact h);by_cases h0:bad=0
         ·subst h0;have HB:=lH (pbytes_ok p base bs w30 G36.out (HNE.out rfl));go_wp2_with fail;refine HB.out.mono ?_;rintro e w37 ⟨v,b,c,rfl,hs,hb,f37⟩;have HEN:=lH (HR.out v ss (.returned (.tuple #[v,.int .i64 0])) w37 STP.out (by rw [HPE.out]) (by unfold encB;rw [HPE.out,if_pos rfl];exact hs.slAt) (F36.out.trans f37 (fun _ _ e=>e)) (by unfold encB;rw [HPE.out,if_pos rfl];exact HLN.out) (fun a l c' e=>by rw [hs.1] at e;cases e;exact Nat.le_trans HPL.out hb));clear hs hb f37;go_wp2_with fail

          exact HEN.out
         ·have t0:(bad !=0)=true:=by simpa using h0
          have HB:=lH (pbytes_bad p base (bs,bad) w30 G36.out t0);go_wp2_with fail;refine HB.out.mono ?_;rintro e w37 ⟨rfl,f37⟩;have HEN:=lH (HR.out (.slice none 0 0) ss (.returned (.tuple #[.slice none 0 0,.int .i64 bad])) w37 STP.out (by rw [HPE.out]) (by unfold encB;rw [HPE.out,if_neg h0];exact slAt_nil w37) (F36.out.trans f37 (fun _ _ e=>e)) (by unfold encB;rw [HPE.out,if_neg h0];exact Nat.zero_le _) (fun a l c' e=>by cases e));clear f37;go_wp2_with fail

          exact HEN.out
end Go.Proofs.YtlcojhddnpmgmaaGreat
