/- Part of the proof; the last text says what is proved. -/
import Derived.Test.YtlcojhddnpmgmaaGreatW13
import Derived.Laws.BitsAllLaws
import Derived.Laws.BytesString
set_option linter.unusedSimpArgs false
set_option linter.unusedVariables false
set_option maxRecDepth 100000
set_option maxHeartbeats 3200000
namespace Go.Proofs.YtlcojhddnpmgmaaGreat
open Go.RowKit
abbrev Ent:=ByteArray×Int×Bool
structure RepS where
 e:Int
 ino:Int
 size:Int
 handle:Int
 swaps:Int
 dir:Bool
 es:List Ent
 map:List UInt8
def RepS.cells (r:RepS) (ev mv:Value):Array Value:= #[.int .i64 r.e,.int .i64 r.ino,.int .i64 r.size,.int .i64 r.handle,.int .i64 r.swaps,.bool r.dir,ev,mv]
def BsB (w:World) (B:Nat) (v:Value) (ys:List UInt8):Prop:=(v=.slice none 0 0∧ys= [])∨∃b off c,SlIs w v ys b off c∧b<B
def EsB (w:World) (B:Nat) (v:Value) (es:List Ent):Prop:=(v=.slice none 0 0∧es= [])∨
 ∃b off c,v=.slice (some ⟨b,off,none⟩) es.length c∧es.length≤c∧b<B∧b<w.heap.size∧(∃cs fz,w.heap[b]? =some (.cells cs 86 fz))∧
  ∀(j:Nat) x,es[j]? =some x→w.rangeAt b (off+j*3) [.string x.1,.int .i64 x.2.1,.bool x.2.2]
theorem BsB.bs {w:World} {B:Nat} {v:Value} {ys:List UInt8} (h:BsB w B v ys):Bs w v ys:=by
 rcases h with h|⟨b,off,c,h,_⟩
 ·exact .inl h
 ·exact .inr ⟨b,off,c,h⟩
theorem BsB.no {w w':World} {B:Nat} {v:Value} {ys:List UInt8} (h:BsB w B v ys) (f:Fr No w w'):BsB w' B v ys:=by
 rcases h with h|⟨b,off,c,⟨e,h1,h2,h3⟩,hb⟩
 ·exact .inl h
 ·exact .inr ⟨b,off,c,⟨e,h1,Nat.lt_of_lt_of_le h2 f.size,fun j x hj=>f.cell_of (h3 j x hj) id⟩,hb⟩
theorem EsB.no {w w':World} {B:Nat} {v:Value} {es:List Ent} (h:EsB w B v es) (f:Fr No w w'):EsB w' B v es:=by
 rcases h with h|⟨b,off,c,e,h1,hb,h2,⟨cs,fz,h3⟩,h4⟩
 ·exact .inl h
 ·exact .inr ⟨b,off,c,e,h1,hb,Nat.lt_of_lt_of_le h2 f.size,⟨cs,fz,f.block_of h3 id⟩,fun j x hj i u hi=>f.cell_of (h4 j x hj i u hi) id⟩
theorem BsB.pf {w w':World} {B p base:Nat} {v:Value} {ys:List UInt8} (h:BsB w B v ys) (hB:B≤base) (hp:B≤p) (f:Fr (Pf w p base) w w'):BsB w' B v ys:=by
 rcases h with h|⟨b,off,c,⟨e,h1,h2,h3⟩,hb⟩
 ·exact .inl h
 ·refine .inr ⟨b,off,c,⟨e,h1,Nat.lt_of_lt_of_le h2 f.size,fun j x hj=>f.cell_of (h3 j x hj) ?_⟩,hb⟩;rintro (e|⟨e,_⟩)
  ·dsimp only at e;omega
  ·dsimp only at e;omega
theorem EsB.pf {w w':World} {B p base:Nat} {v:Value} {es:List Ent} (h:EsB w B v es) (hB:B≤base) (hp:B≤p) (f:Fr (Pf w p base) w w'):EsB w' B v es:=by
 rcases h with h|⟨b,off,c,e,h1,hb,h2,⟨cs,fz,h3⟩,h4⟩
 ·exact .inl h
 ·have hn:¬Pf w p base b:=by rintro (e|⟨e,_⟩)<;>omega
  exact .inr ⟨b,off,c,e,h1,hb,Nat.lt_of_lt_of_le h2 f.size,⟨cs,fz,f.block_of h3 hn⟩,fun j x hj i u hi=>f.cell_of (h4 j x hj i u hi) hn⟩
theorem num_w1 (p base:Nat) (s:PenS) (x:Int) (w:World) (h:Pg w p base s):Calls Tryz.prog 76 #[.pointer (some ⟨p,0,none⟩),.int .i64 x,.int .i64 1] w fun e w'=>e=.returned (.tuple #[])∧Pg w' p base (penNum s x 1)∧Fr (Pf w p base) w w':=num_ p base 1 s x (by decide) (by decide) w h
theorem num_w2 (p base:Nat) (s:PenS) (x:Int) (w:World) (h:Pg w p base s):Calls Tryz.prog 76 #[.pointer (some ⟨p,0,none⟩),.int .i64 x,.int .i64 2] w fun e w'=>e=.returned (.tuple #[])∧Pg w' p base (penNum s x 2)∧Fr (Pf w p base) w w':=num_ p base 2 s x (by decide) (by decide) w h
theorem num_w3 (p base:Nat) (s:PenS) (x:Int) (w:World) (h:Pg w p base s):Calls Tryz.prog 76 #[.pointer (some ⟨p,0,none⟩),.int .i64 x,.int .i64 3] w fun e w'=>e=.returned (.tuple #[])∧Pg w' p base (penNum s x 3)∧Fr (Pf w p base) w w':=num_ p base 3 s x (by decide) (by decide) w h
theorem Tryz.size86:(Tryz.prog.info? 86).map (·.size)=some 3:=by kernel_rfl
def penEnt (s:PenS) (x:Ent):PenS:=penPut (penNum (penRaw s x.1.data.toList) x.2.1 2) [if x.2.2 then 1 else 0]
def penHead (s:PenS) (r:RepS):PenS:=penNum (penPut (penNum (penNum (penNum (penNum (penNum s r.e 1) r.ino 2) r.size 2) r.handle 1) r.swaps 3) [if r.dir then 1 else 0]) r.es.length 2
def penRep (s:PenS) (r:RepS):PenS:=penRaw (r.es.foldl penEnt (penHead s r)) r.map
theorem esteps_ (p base rb B:Nat) (s:PenS) (r:RepS) (ev mv:Value) (hes:r.es.length≤4000) (hnm:∀x∈r.es,x.1.size≤1000000) (w:World) (h:Pg w p base s) (hr:w.heap[rb]? =some (.cells (r.cells ev mv) 29 (0,0))) (hne:rb≠p) (hB:B≤base) (hp:B≤p) (he:EsB w B ev r.es) (hm:BsB w B mv r.map):
  Calls Tryz.prog 163 #[.pointer (some ⟨p,0,none⟩),.pointer (some ⟨rb,0,none⟩)] w fun x w'=>x=.returned (.tuple #[])∧Pg w' p base (penRep s r)∧Fr (Pf w p base) w w':=by
 obtain ⟨e,ino,size,handle,swaps,dir,es,mp⟩:=r;unfold RepS.cells at hr;dsimp only at hes hnm hr he hm;have H0:=lH h;have R0:=lH hr;have E0:=lH he;have M0:=lH hm;have HN:=lH hnm;have F0:Fr (Pf w p base) w w:=Fr.refl w;obtain ⟨n,c,a,hev⟩:∃n c a,ev=.slice a n c∧n=es.length:=by
  rcases he with ⟨e,e2⟩|⟨b,off,c,e,_⟩
  ·exact ⟨0,0,none,e,by rw [e2];rfl⟩
  ·exact ⟨_,c,_,e,rfl⟩
 obtain ⟨rfl,hnl⟩:=hev;have q0:(n:Int)≤4000:=by omega
 have HNL:=lH hnl;clear hnl;obtain ⟨c0,c1,c2,c3,c4,c5,c6,c7⟩:=rows8 hr;clear h hr he hm hnm hes;go_enter Tryz.func163,Tryz.ntmps163;go_wp2_with fail;refine (nmust_yes _ _).mono ?_;rintro e' w' ⟨rfl,rfl⟩;go_wp2_with fail;refine (num_w1 p base (s) e _ H0.out).mono ?_;rintro e' w1 ⟨rfl,h1,f1⟩;have H1:=lH h1;have F1:=pf_trans F0 f1;have R1:=lH (pf_of f1 R0.out (by decide) hne);have E1:=lH (E0.out.pf hB hp f1);have M1:=lH (M0.out.pf hB hp f1);clear h1 f1 c0 c1 c2 c3 c4 c5 c6 c7;obtain ⟨c0,c1,c2,c3,c4,c5,c6,c7⟩:=rows8 R1.out;go_wp2_with fail;refine (num_w2 p base (penNum s e 1) ino _ H1.out).mono ?_;rintro e' w2 ⟨rfl,h2,f2⟩;have H2:=lH h2;have F2:=pf_trans F1 f2;have R2:=lH (pf_of f2 R1.out (by decide) hne);have E2:=lH (E1.out.pf hB hp f2);have M2:=lH (M1.out.pf hB hp f2);clear h2 f2 c0 c1 c2 c3 c4 c5 c6 c7;obtain ⟨c0,c1,c2,c3,c4,c5,c6,c7⟩:=rows8 R2.out;go_wp2_with fail;refine (num_w2 p base (penNum (penNum s e 1) ino 2) size _ H2.out).mono ?_;rintro e' w3 ⟨rfl,h3,f3⟩;have H3:=lH h3;have F3:=pf_trans F2 f3;have R3:=lH (pf_of f3 R2.out (by decide) hne);have E3:=lH (E2.out.pf hB hp f3);have M3:=lH (M2.out.pf hB hp f3);clear h3 f3 c0 c1 c2 c3 c4 c5 c6 c7;obtain ⟨c0,c1,c2,c3,c4,c5,c6,c7⟩:=rows8 R3.out;go_wp2_with fail;refine (num_w1 p base (penNum (penNum (penNum s e 1) ino 2) size 2) handle _ H3.out).mono ?_;rintro e' w4 ⟨rfl,h4,f4⟩;have H4:=lH h4;have F4:=pf_trans F3 f4;have R4:=lH (pf_of f4 R3.out (by decide) hne);have E4:=lH (E3.out.pf hB hp f4);have M4:=lH (M3.out.pf hB hp f4);clear h4 f4 c0 c1 c2 c3 c4 c5 c6 c7;obtain ⟨c0,c1,c2,c3,c4,c5,c6,c7⟩:=rows8 R4.out;go_wp2_with fail;refine (num_w3 p base (penNum (penNum (penNum (penNum s e 1) ino 2) size 2) handle 1) swaps _ H4.out).mono ?_;rintro e' w5 ⟨rfl,h5,f5⟩;have H5:=lH h5;have F5:=pf_trans F4 f5;have R5:=lH (pf_of f5 R4.out (by decide) hne);have E5:=lH (E4.out.pf hB hp f5);have M5:=lH (M4.out.pf hB hp f5);clear h5 f5 c0 c1 c2 c3 c4 c5 c6 c7;obtain ⟨c0,c1,c2,c3,c4,c5,c6,c7⟩:=rows8 R5.out;go_wp2_with fail;refine (pbool_ p base (penNum (penNum (penNum (penNum (penNum s e 1) ino 2) size 2) handle 1) swaps 3) dir _ H5.out).mono ?_;rintro e' w6 ⟨rfl,h6,f6⟩;have H6:=lH h6;have F6:=pf_trans F5 f6;have R6:=lH (pf_of f6 R5.out (by decide) hne);have E6:=lH (E5.out.pf hB hp f6);have M6:=lH (M5.out.pf hB hp f6);clear h6 f6 c0 c1 c2 c3 c4 c5 c6 c7
 obtain ⟨c0,c1,c2,c3,c4,c5,c6,c7⟩:=rows8 R6.out;go_wp2_with fail;refine (num_w2 p base (penPut (penNum (penNum (penNum (penNum (penNum s e 1) ino 2) size 2) handle 1) swaps 3) [if dir then 1 else 0]) (n:Int) _ H6.out).mono ?_;rintro e' w7 ⟨rfl,h7,f7⟩;have H7:=lH h7;have F7:=pf_trans F6 f7;have R7:=lH (pf_of f7 R6.out (by decide) hne);have E7:=lH (E6.out.pf hB hp f7);have M7:=lH (M6.out.pf hB hp f7);clear h7 f7 c0 c1 c2 c3 c4 c5 c6 c7;obtain ⟨c0,c1,c2,c3,c4,c5,c6,c7⟩:=rows8 R7.out;go_wp2_with fail;have HF7:=lH F7;clear c0 c1 c2 c3 c4 c5 c6 c7 F0 F1 F2 F3 F4 F5 F6 F7 H0 H1 H2 H3 H4 H5 H6 R0 R1 R2 R3 R4 R5 R6 E0 E1 E2 E3 E4 E5 E6 M0 M1 M2 M3 M4 M5 M6;generalize hs7:penNum (penPut (penNum (penNum (penNum (penNum (penNum s e 1) ino 2) size 2) handle 1) swaps 3) [if dir then 1 else 0]) n 2=s7 at*;have HS7:=lH hs7;clear hs7;go_loopw [42] (fun i wr=>∃j:Nat,i=.int .i64 j∧j≤n∧Hid (Pg wr p base ((es.take j).foldl penEnt s7))∧Hid (Fr (Pf w7 p base) w7 wr)∧Hid (wr.heap[rb]? =some (.cells #[.int .i64 e,.int .i64 ino,.int .i64 size,.int .i64 handle,.int .i64 swaps,.bool dir,.slice a n c,mv] 29 (0,0)))∧Hid (EsB wr B (.slice a n c) es)∧Hid (BsB wr B mv mp)) (fun i _=>n - (intOf i).toNat)
 case atStart=>exact ⟨0,rfl,Nat.zero_le _,H7,lH (Fr.refl _),R7,E7,M7⟩
 case round=>
  obtain ⟨j,rfl,hj,HP,FF,RR,EE,MM⟩:=hrel;by_cases hlt:j<n
  ·have hx:es[j]? =some (es[j]'(by have:=HNL.out;omega)):=List.getElem?_eq_getElem _;generalize es[j]'(by have:=HNL.out;omega)=x at hx;obtain ⟨nm,io,di⟩:=x;have EC:=EE.out;rcases EC with ⟨e0,_⟩|⟨b,off,c',e0,hq3,hq4,hbw,⟨cs,fz,hk⟩,hc⟩
   ·simp at e0;omega
   ·simp only [Value.slice.injEq] at e0;obtain ⟨rfl,hq1,hq2⟩:=e0;clear hq1 hq2;have HD:=lH (hc j _ hx);have q1:(0:Int)≤(j:Int):=(by omega)
    have q2:(j:Int)<(n:Int):=(by omega)
    have HX:=lH hx;have hsz:=HN.out _ (List.mem_of_getElem? hx);dsimp only at hsz;clear hc hk hx hq3 hq4 hbw;go_wp2_with (refine wpList_load_mid rfl 86 (.tmp 44) rfl b (off+j*3) rfl [.string nm,.int .i64 io,.bool di] _ HD.out Tryz.underlying86 rfl Tryz.size86 ?_);have hpl:p<wr.heap.size:=(by obtain ⟨v,hk,_⟩:=HP.out;exact lt_of_block hk)
    have fa:Fr No wr (wr.alloc (.cells #[.string nm,.int .i64 io,.bool di] 86)):=(Fr.refl wr).alloc _;have ka:=new_at wr (.cells #[.string nm,.int .i64 io,.bool di] 86);have KA:=lH ka;have RA:=lH (fa.block_of RR.out id);have EA:=lH (EE.out.no fa);have MA:=lH (MM.out.no fa);have GA:Hid (Fr (Pf w7 p base) w7 (wr.alloc (.cells #[.string nm,.int .i64 io,.bool di] 86))):=lH (FF.out.trans fa (fun _ _ e=>e.elim));have HA:=lH (text_ p base _ nm hsz _ (HP.out.no fa));clear ka fa RR EE MM FF HP;generalize hwz:wr.heap.size=z at*;generalize (wr.alloc (.cells #[.string nm,.int .i64 io,.bool di] 86))=wa at*;clear hwz;refine HA.out.mono ?_;rintro e' w8 ⟨rfl,h8,f8⟩;have H8:=lH h8;have K8:=lH (pf_of f8 KA.out (by decide) (by omega));have R8:=lH (pf_of f8 RA.out (by decide) hne);have E8:=lH (EA.out.pf hB hp f8);have M8:=lH (MA.out.pf hB hp f8);have G8:=lH (pf_trans GA.out f8);clear h8 f8 HA;have x1:w8.cell? ⟨z,1,none⟩=some (.int .i64 io):=(by rw [cell_at K8.out];rfl)
    go_wp2_with fail;refine (num_w2 p base _ io _ H8.out).mono ?_;rintro e' w9 ⟨rfl,h9,f9⟩;have H9:=lH h9;have K9:=lH (pf_of f9 K8.out (by decide) (by omega));have R9:=lH (pf_of f9 R8.out (by decide) hne);have E9:=lH (E8.out.pf hB hp f9);have M9:=lH (M8.out.pf hB hp f9);have G9:=lH (pf_trans G8.out f9);clear h9 f9 x1;have x2:w9.cell? ⟨z,2,none⟩=some (.bool di):=(by rw [cell_at K9.out];rfl)
    go_wp2_with fail;refine (pbool_ p base _ di _ H9.out).mono ?_;rintro e' w10 ⟨rfl,h10,f10⟩;have H10:=lH h10;have R10:=lH (pf_of f10 R9.out (by decide) hne);have E10:=lH (E9.out.pf hB hp f10);have M10:=lH (M9.out.pf hB hp f10);have G10:=lH (pf_trans G9.out f10);clear h10 f10 x2;go_wp2_with fail;go_roundw
    case rel=>
     refine ⟨j+1,by go_num,by omega,lH ?_,G10,R10,E10,M10⟩;have hjl:j<es.length:=(by have:=HNL.out;omega)
     rw [List.take_succ_eq_append_getElem hjl,List.foldl_append];have hxj:es[j]=(nm,io,di):=by
      have:=HX.out;rw [List.getElem?_eq_getElem hjl] at this;exact Option.some.inj this
     rw [hxj];exact H10.out
    case measure=>simp [intOf];omega
  ·obtain rfl:j=n:=by omega
   have c7:wr.cell? ⟨rb,7,none⟩=some mv:=(by rw [cell_at RR.out];rfl)
   go_wp2_with fail;refine (raw_ p base _ mv mp _ MM.out.bs HP.out).mono ?_;rintro e' w8 ⟨rfl,h8,f8⟩;have H8:=lH h8;have G8:=lH (pf_trans (pf_trans HF7.out FF.out) f8);clear h8 f8;go_wp2_with fail
   go_end0
   refine ⟨rfl,?_,G8.out⟩;have:=H8.out;rw [List.take_of_length_le (by have:=HNL.out;omega),← HS7.out,HNL.out] at this;exact this
theorem tan_nil (w:World):(Instr.typeAssert .nilIface 20 216 true).run Tryz.prog w=.ok (.tuple #[.agg #[.int .i64 0],.bool false]) w:=by kernel_rfl
set_option maxRecDepth 10000 in
theorem ncatch_idle (p:Addr) (w:World):
  CallsD Tryz.prog 206 #[.pointer (some p)] .returning w fun e u' w'=>e=.returned (.tuple #[])∧u'=.returning∧w'=w.alloc (.cells #[.int .i64 0] 216):=by
 refine callsD_of_wpS Tryz.func206 rfl fun c₀ cs hu=> ?_;apply wpS_seq;apply wpS_region;simp [wpOpsS,go_sem,recoverD,hu,Tryz.ntmps206,Exit.thenS,tan_nil,Array.replicate,List.replicate];apply wpS_seq;apply wpS_region;simp [wpOpsS,go_sem,Exit.thenS];refine wpS_cond (t:=false) (by simp [Act.eval]) ?_;simp only [Bool.false_eq_true,if_false];refine wpS_of_wp (wp_skip ?_);cases c₀
 simp_all [bodyPostS,results,Tryz.results206]
def GuardPost (P:World→Prop) (w:World) (x:Ending) (w':World):Prop:=x=.returned (.int .i64 0)∧∃w1,P w1∧Fr (fun k=>k=w.heap.size) w1 w'
theorem guard209 (sb ob:Nat) (P:World→Prop) (w:World)
  (hc:Calls Tryz.prog 209 #[.pointer (some ⟨sb,0,none⟩),.pointer (some ⟨ob,0,none⟩)] (w.alloc (.cells #[.int .i64 0] 25)) fun x w'=>x=.returned (.tuple #[])∧P w'∧w'.heap[w.heap.size]? =some (.cells #[.int .i64 0] 25 (0,0))):
  Calls Tryz.prog 149 #[.func (Fn.func 209) #[] #[.pointer (some ⟨sb,0,none⟩),.pointer (some ⟨ob,0,none⟩)]] w (GuardPost P w):=by
 have hmf:∀(fn:Fn) (first cap:Array Value) (w:World),(Instr.makeFunc fn first cap).run Tryz.prog w=.ok (.func fn first cap) w:=fun _ _ _ _=>rfl;have HC:=lH hc;clear hc
 go_enter_defers Tryz.func149,Tryz.ntmps149
 go_wp2_with fail;with_reducible refine HC.out.mono ?_
 rintro x w1 ⟨rfl,hp,k1⟩;have HP:=lH hp;have K1:=lH k1;have c1:w1.cell? ⟨w.heap.size,0,none⟩=some (.int .i64 0):=by rw [cell_at k1];rfl
 have z1:=frozen_at k1 0;clear hp k1;go_wp2_with fail;refine leaves_cons (f:=206) (args:= #[.pointer (some ⟨w.heap.size,0,none⟩)]) (by simp) (by simp [go_sem]) ?_;refine (ncatch_idle ⟨w.heap.size,0,none⟩ _).mono ?_;rintro e u' w5 ⟨rfl,rfl,hw5⟩;have f5:Fr (fun k=>k=w.heap.size) w1 w5:=by
  rw [hw5];exact (Fr.setCell (S:=fun k=>k=w.heap.size) (p:=⟨w.heap.size,0,none⟩) (Fr.refl w1) (.inl rfl) _).alloc _
 have c5:w5.cell? ⟨w.heap.size,0,none⟩=some (.int .i64 0):=by
  rw [hw5];refine ((Fr.refl (S:=No) _).alloc _).cell_of ?_ id;rw [cell_at (setCell_at K1.out 0 _)];rfl
 have post:GuardPost P w (.returned (.int .i64 0)) w5:=⟨rfl,w1,HP.out,f5⟩
 simp [Leaves,settle,results,Tryz.results149,go_sem,c5];exact post
theorem guard150 (sb ob:Nat) (P:World→Prop) (w:World)
  (hc:Calls Tryz.prog 150 #[.pointer (some ⟨sb,0,none⟩),.pointer (some ⟨ob,0,none⟩)] (w.alloc (.cells #[.int .i64 0] 25)) fun x w'=>x=.returned (.tuple #[])∧P w'∧w'.heap[w.heap.size]? =some (.cells #[.int .i64 0] 25 (0,0))):
  Calls Tryz.prog 149 #[.func (Fn.func 150) #[] #[.pointer (some ⟨sb,0,none⟩),.pointer (some ⟨ob,0,none⟩)]] w (GuardPost P w):=by
 have hmf:∀(fn:Fn) (first cap:Array Value) (w:World),(Instr.makeFunc fn first cap).run Tryz.prog w=.ok (.func fn first cap) w:=fun _ _ _ _=>rfl;have HC:=lH hc;clear hc
 go_enter_defers Tryz.func149,Tryz.ntmps149
 go_wp2_with fail;with_reducible refine HC.out.mono ?_
 rintro x w1 ⟨rfl,hp,k1⟩;have HP:=lH hp;have K1:=lH k1;have c1:w1.cell? ⟨w.heap.size,0,none⟩=some (.int .i64 0):=by rw [cell_at k1];rfl
 have z1:=frozen_at k1 0;clear hp k1;go_wp2_with fail;refine leaves_cons (f:=206) (args:= #[.pointer (some ⟨w.heap.size,0,none⟩)]) (by simp) (by simp [go_sem]) ?_;refine (ncatch_idle ⟨w.heap.size,0,none⟩ _).mono ?_;rintro e u' w5 ⟨rfl,rfl,hw5⟩;have f5:Fr (fun k=>k=w.heap.size) w1 w5:=by
  rw [hw5];exact (Fr.setCell (S:=fun k=>k=w.heap.size) (p:=⟨w.heap.size,0,none⟩) (Fr.refl w1) (.inl rfl) _).alloc _
 have c5:w5.cell? ⟨w.heap.size,0,none⟩=some (.int .i64 0):=by
  rw [hw5];refine ((Fr.refl (S:=No) _).alloc _).cell_of ?_ id;rw [cell_at (setCell_at K1.out 0 _)];rfl
 have post:GuardPost P w (.returned (.int .i64 0)) w5:=⟨rfl,w1,HP.out,f5⟩
 simp [Leaves,settle,results,Tryz.results149,go_sem,c5];exact post
theorem BsB.le {w:World} {B C:Nat} {v:Value} {ys:List UInt8} (h:BsB w B v ys) (hc:B≤C):BsB w C v ys:=by
 rcases h with h|⟨b,off,c,h,hb⟩
 ·exact .inl h
 ·exact .inr ⟨b,off,c,h,Nat.lt_of_lt_of_le hb hc⟩
theorem EsB.le {w:World} {B C:Nat} {v:Value} {es:List Ent} (h:EsB w B v es) (hc:B≤C):EsB w C v es:=by
 rcases h with h|⟨b,off,c,e,h1,hb,h2⟩
 ·exact .inl h
 ·exact .inr ⟨b,off,c,e,h1,Nat.lt_of_lt_of_le hb hc,h2⟩
def RepS.ok (r:RepS):Prop:=(penRep ([],0) r).2=0∧r.es.length≤4000∧∀x∈r.es,x.1.size≤1000000
def RepS.bytes (r:RepS):List UInt8:=(penRep ([],0) r).1
theorem penRaw_some (s:PenS) (ys:List UInt8) (h:(penRaw s ys).2=0):(penRaw s ys).1≠ []:=by
 unfold penRaw penFail penPut at*;split at h
 ·split at h
  ·contradiction
  ·simp at h
 ·split at h
  ·contradiction
  ·split at h
   ·simp at h
   ·rename_i h1 h2 h3
    rw [if_neg h1,if_neg h2,if_neg h3];simp [numB2]
theorem RepS.ok.some {r:RepS} (h:r.ok):r.bytes≠ []:=penRaw_some _ _ h.1
theorem pg_new (w:World):Pg (w.alloc (.cells #[.slice none 0 0,.int .i64 0] 122)) w.heap.size (w.heap.size+1) ([],0):=
 ⟨.slice none 0 0,new_at w _,⟨rfl,.inl ⟨rfl,rfl⟩⟩,by simp,by simp⟩
theorem RepS.ok.pg {r:RepS} (h:r.ok) {w:World} {p base:Nat} (hp:Pg w p base (penRep ([],0) r)):Pg w p base (r.bytes,0):=by
 have e:penRep ([],0) r=(r.bytes,0):=by
  rw [show (r.bytes,(0:Int))=((penRep ([],0) r).1,(penRep ([],0) r).2) by rw [h.1];rfl]
 rw [e] at hp;exact hp
theorem gwritten1_ (sb ob rb:Nat) (r:RepS) (ev mv:Value) (hok:r.ok) (w:World) (hs:w.heap[sb]? =some (.cells #[.func (Fn.func 163) #[] #[.pointer (some ⟨rb,0,none⟩)]] 123 (0,0))) (ho:w.heap[ob]? =some (.cells #[.slice none 0 0] 27 (0,0)))
  (hr:w.heap[rb]? =some (.cells (r.cells ev mv) 29 (0,0))) (he:EsB w w.heap.size ev r.es) (hm:BsB w w.heap.size mv r.map):
  Calls Tryz.prog 209 #[.pointer (some ⟨sb,0,none⟩),.pointer (some ⟨ob,0,none⟩)] w fun x w'=>∃v b c,x=.returned (.tuple #[])∧w'.heap[ob]? =some (.cells #[v] 27 (0,0))∧SlIs w' v r.bytes b 0 c∧w.heap.size≤b∧Fr (fun k=>k=ob) w w':=by
 have F0:Fr No w (w.alloc (.cells #[.slice none 0 0,.int .i64 0] 122)):=(Fr.refl w).alloc _;have HP:=lH (pg_new w);have l1:=lt_of_block hs;have l2:=lt_of_block ho;have l3:=lt_of_block hr;have cs:(w.alloc (.cells #[.slice none 0 0,.int .i64 0] 122)).cell? ⟨sb,0,none⟩=some (.func (Fn.func 163) #[] #[.pointer (some ⟨rb,0,none⟩)]):=by rw [cell_at (F0.block_of hs id)];rfl
 have HO:=lH (F0.block_of ho id);have HW:=lH (esteps_ w.heap.size (w.heap.size+1) rb w.heap.size ([],0) r ev mv hok.2.1 hok.2.2 _ HP.out (F0.block_of hr id) (by omega) (by omega) (Nat.le_refl _) (he.no F0) (hm.no F0));have OK:=lH hok;clear hs ho hr he hm hok;go_enter Tryz.func209,Tryz.ntmps209;go_wp2_with fail;refine HW.out.mono ?_;rintro x w1 ⟨rfl,h1,f1⟩;have H1:=lH (OK.out.pg h1);have HF1:=lH f1;clear h1 f1 cs;go_wp2_with fail;refine (pbytes_ok _ _ _ _ H1.out OK.out.some).mono ?_;rintro x w2 ⟨v,b,c,rfl,hsl,hb,f2⟩;have HS:=lH hsl;have hsz:=HF1.out.size;have ko:=f2.block_of (pf_of HF1.out HO.out (by decide) (by omega)) id;have KO:=lH ko;clear hsl;go_wp2_with fail;refine (nmust_yes _ _).mono ?_;rintro x w3 ⟨rfl,rfl⟩;have co:w3.cell? ⟨ob,0,none⟩=some (.slice none 0 0):=by rw [cell_at KO.out];rfl
 have zo:=frozen_at KO.out 0;obtain ⟨rfl,hl2,hlt2,hc2⟩:=HS.out;simp at hsz;have FX:Fr No w w3:=(F0.of_no.trans (HF1.out) (fun j hj e=>by
  rcases e with e|⟨e,_⟩<;>omega)).trans f2 (fun _ _ e=>e)
 have HC2:=lH hc2;clear ko hc2;go_wp2_with fail
 go_end0
 have FS:Fr (fun k=>k=ob) w3 (w3.setCell ⟨ob,0,none⟩ (.slice (some ⟨b,0,none⟩) r.bytes.length c)):=Fr.setCell (S:=fun k=>k=ob) (p:=⟨ob,0,none⟩) (Fr.refl w3) (.inl rfl) _;refine ⟨_,b,c,rfl,by simpa using setCell_at KO.out 0 (.slice (some ⟨b,0,none⟩) r.bytes.length c),⟨rfl,hl2,Nat.lt_of_lt_of_le hlt2 FS.size,fun j y hj=>FS.cell_of (HC2.out j y hj) (by dsimp only;omega)⟩,by omega,FX.of_no.trans FS (fun _ _ e=>e)⟩
theorem gwritten_ (rb:Nat) (r:RepS) (ev mv:Value) (hok:r.ok) (w:World) (hr:w.heap[rb]? =some (.cells (r.cells ev mv) 29 (0,0))) (he:EsB w w.heap.size ev r.es) (hm:BsB w w.heap.size mv r.map):
  Calls Tryz.prog 162 #[.func (Fn.func 163) #[] #[.pointer (some ⟨rb,0,none⟩)]] w fun x w'=>∃v b c,x=.returned (.tuple #[v,.int .i64 0])∧SlIs w' v r.bytes b 0 c∧w.heap.size≤b∧Fr No w w':=by
 have hmf:∀(fn:Fn) (first cap:Array Value) (w:World),(Instr.makeFunc fn first cap).run Tryz.prog w=.ok (.func fn first cap) w:=fun _ _ _ _=>rfl;have F0:Fr No w ((w.alloc (.cells #[.func (Fn.func 163) #[] #[.pointer (some ⟨rb,0,none⟩)]] 123)).alloc (.cells #[.slice none 0 0] 27)):=((Fr.refl w).alloc _).alloc _;have ks:((w.alloc (.cells #[.func (Fn.func 163) #[] #[.pointer (some ⟨rb,0,none⟩)]] 123)).alloc (.cells #[.slice none 0 0] 27)).heap[w.heap.size]? =some (.cells #[.func (Fn.func 163) #[] #[.pointer (some ⟨rb,0,none⟩)]] 123 (0,0)):=((Fr.refl (S:=No) _).alloc _).block_of (new_at w _) id;have ko:((w.alloc (.cells #[.func (Fn.func 163) #[] #[.pointer (some ⟨rb,0,none⟩)]] 123)).alloc (.cells #[.slice none 0 0] 27)).heap[w.heap.size+1]? =some (.cells #[.slice none 0 0] 27 (0,0)):=by simpa using new_at (w.alloc (.cells #[.func (Fn.func 163) #[] #[.pointer (some ⟨rb,0,none⟩)]] 123)) (.cells #[.slice none 0 0] 27)
 have hsz:((w.alloc (.cells #[.func (Fn.func 163) #[] #[.pointer (some ⟨rb,0,none⟩)]] 123)).alloc (.cells #[.slice none 0 0] 27)).heap.size=w.heap.size+1+1:=by simp
 have HR:=lH (F0.block_of hr id);have HE:=lH (he.no F0);have HM:=lH (hm.no F0);have OK:=lH hok;have KS:=lH ks;have KO:=lH ko;clear hr ks ko he hm hok;go_enter Tryz.func162,Tryz.ntmps162;go_wp2_with fail;generalize ((w.alloc (.cells #[.func (Fn.func 163) #[] #[.pointer (some ⟨rb,0,none⟩)]] 123)).alloc (.cells #[.slice none 0 0] 27))=w0 at*;have HSZ:=lH hsz;clear hsz;have fg:Fr No w0 (w0.alloc (.cells #[.int .i64 0] 25)):=(Fr.refl w0).alloc _;refine (guard209 w.heap.size (w.heap.size+1) (fun w1=>∃v b c,w1.heap[w.heap.size+1]? =some (.cells #[v] 27 (0,0))∧SlIs w1 v r.bytes b 0 c∧w.heap.size+1+1+1≤b∧Fr (fun k=>k=w.heap.size+1) w0 w1) w0 ?_).mono ?_
 ·have hB:w.heap.size≤(w0.alloc (.cells #[.int .i64 0] 25)).heap.size:=by have:=HSZ.out;simp;omega
  refine (gwritten1_ w.heap.size (w.heap.size+1) rb r ev mv OK.out _ (fg.block_of KS.out id) (fg.block_of KO.out id) (fg.block_of HR.out id) ((HE.out.no fg).le hB) ((HM.out.no fg).le hB)).mono ?_;rintro x w1 ⟨v,b,c,rfl,k1,hs,hb,f1⟩;have e0:=HSZ.out;refine ⟨rfl,⟨v,b,c,k1,hs,by simp at hb;omega,fg.of_no.trans f1 (fun _ _ e=>e)⟩,f1.block_of (new_at w0 _) (by omega)⟩
 ·rintro x w2 ⟨rfl,w1,⟨v,b,c,k1,hs,hb,f1⟩,f2⟩;have e0:=HSZ.out;have k2:=f2.block_of k1 (by omega);have co:w2.cell? ⟨w.heap.size+1,0,none⟩=some v:=by rw [cell_at k2];rfl
  have FX:Fr No w w2:=(F0.of_no.trans f1 (fun j hj e=>by omega)).trans f2 (fun j hj e=>by omega);have HS:Hid (SlIs w2 v r.bytes b 0 c):=lH ⟨hs.1,hs.2.1,Nat.lt_of_lt_of_le hs.2.2.1 f2.size,fun j y hj=>f2.cell_of (hs.2.2.2 j y hj) (by dsimp only;omega)⟩;clear k1 hs f1 f2 k2;go_wp2_with fail
  go_ret2
  exact ⟨v,b,c,rfl,HS.out,by omega,FX⟩
theorem gencode_ (r:RepS) (ev mv:Value) (hok:r.ok) (w:World) (he:EsB w w.heap.size ev r.es) (hm:BsB w w.heap.size mv r.map):
  Calls Tryz.prog 112 #[.agg (r.cells ev mv)] w fun x w'=>∃v b c,x=.returned (.tuple #[v,.int .i64 0])∧SlIs w' v r.bytes b 0 c∧w.heap.size≤b∧Fr No w w':=by
 have hmf:∀(fn:Fn) (first cap:Array Value) (w:World),(Instr.makeFunc fn first cap).run Tryz.prog w=.ok (.func fn first cap) w:=fun _ _ _ _=>rfl;have F0:Fr No w (w.alloc (.cells (r.cells ev mv) 29)):=(Fr.refl w).alloc _;have hB:w.heap.size≤(w.alloc (.cells (r.cells ev mv) 29)).heap.size:=by simp
 have HW:=lH (gwritten_ w.heap.size r ev mv hok _ (new_at w (.cells (r.cells ev mv) 29)) ((he.no F0).le hB) ((hm.no F0).le hB));clear he hm hok;unfold RepS.cells at*;go_enter Tryz.func112,Tryz.ntmps112;go_wp2_with fail;with_reducible refine HW.out.mono ?_
 rintro x w1 ⟨v,b,c,rfl,hs,hb,f1⟩;have HS:=lH hs;simp at hb;clear hs;go_wp2_with fail
 go_ret2
 exact ⟨v,b,c,rfl,HS.out,by omega,F0.trans f1 (fun _ _ e=>e)⟩
theorem penPut_ok {s:PenS} {ys:List UInt8} (h:(penPut s ys).2=0):s.2=0∧penPut s ys=(s.1++ys,0):=by
 unfold penPut at*;split at h
 ·contradiction
 ·rename_i h1
  have h1:s.2=0:=Classical.byContradiction h1;split at h
  ·simp at h
  ·rename_i h2
   rw [if_neg (by simp [h1]),if_neg h2];exact ⟨h1,rfl⟩
theorem penFail_ok {s:PenS} {e:Int} (he:e≠0) (h:(penFail s e).2=0):False:=by
 unfold penFail at h;split at h
 ·contradiction
 ·exact he h
theorem penNum_ok {s:PenS} {x:Int} {wd:Nat} (h:(penNum s x wd).2=0):s.2=0∧(0≤x∧x<2 ^ (8*wd))∧penNum s x wd=(s.1++numB wd x.toNat,0):=by
 unfold penNum at*;split at h
 ·rename_i hx
  obtain ⟨h1,h2⟩:=penPut_ok h;rw [if_pos hx];exact ⟨h1,hx,h2⟩
 ·exact (penFail_ok (by decide) h).elim
theorem penRaw_ok {s:PenS} {ys:List UInt8} (h:(penRaw s ys).2=0):s.2=0∧ys.length≤65535∧penRaw s ys=(s.1++(numB 2 ys.length++ys),0):=by
 unfold penRaw at*;split at h
 ·exact (penFail_ok (by decide) h).elim
 ·rename_i hl
  obtain ⟨h1,h2⟩:=penPut_ok h;rw [if_neg hl];exact ⟨h1,by omega,h2⟩
def bitB (x:Bool):UInt8:=if x then 1 else 0
def entB (x:Ent):List UInt8:=numB 2 x.1.data.toList.length++x.1.data.toList++(numB 2 x.2.1.toNat++ [bitB x.2.2])
def entOk (x:Ent):Prop:=x.1.data.toList.length≤65535∧0≤x.2.1∧x.2.1<65536
theorem penEnt_ok {s:PenS} {x:Ent} (h:(penEnt s x).2=0):s.2=0∧entOk x∧penEnt s x=(s.1++entB x,0):=by
 unfold penEnt at*;obtain ⟨h1,e1⟩:=penPut_ok h;obtain ⟨h2,hx,e2⟩:=penNum_ok h1;obtain ⟨h3,hl,e3⟩:=penRaw_ok h2;refine ⟨h3,⟨hl,hx.1,hx.2⟩,?_⟩;rw [e1,e2,e3];simp [entB,bitB]
theorem penEnts_ok:∀ {es:List Ent} {s:PenS},(es.foldl penEnt s).2=0→s.2=0∧(∀x∈es,entOk x)∧es.foldl penEnt s=(s.1++es.flatMap entB,0)
 | [],s,h=>⟨h,by simp,by
  have:s=(s.1,s.2):=rfl;simp only [List.foldl_nil] at h;simp only [List.foldl_nil,List.flatMap_nil,List.append_nil];rw [this,h]⟩
 | x::r,s,h=>by
  obtain ⟨h1,h2,e1⟩:=penEnts_ok (es:=r) (s:=penEnt s x) h;obtain ⟨h3,h4,e2⟩:=penEnt_ok h1;refine ⟨h3,?_,?_⟩
  ·intro y hy;rcases List.mem_cons.1 hy with rfl|hy
   ·exact h4
   ·exact h2 y hy
  ·rw [List.foldl_cons,e1,e2];simp
structure RepS.Fits (r:RepS):Prop where
 e:0≤r.e∧r.e<256
 ino:0≤r.ino∧r.ino<65536
 size:0≤r.size∧r.size<65536
 handle:0≤r.handle∧r.handle<256
 swaps:0≤r.swaps∧r.swaps<16777216
 es:∀x∈r.es,entOk x
 map:r.map.length≤65535
def RepS.tailB (r:RepS):List UInt8:=r.es.flatMap entB++(numB 2 r.map.length++r.map)
def RepS.rawB (r:RepS):List UInt8:=numB 1 r.e.toNat++(numB 2 r.ino.toNat++(numB 2 r.size.toNat++(numB 1 r.handle.toNat++(numB 3 r.swaps.toNat++(bitB r.dir::(numB 2 r.es.length++r.tailB))))))
theorem RepS.ok.raw {r:RepS} (h:r.ok):r.Fits∧r.bytes=r.rawB:=by
 obtain ⟨h0,_,_⟩:=h;unfold RepS.bytes;unfold penRep penHead at*;obtain ⟨h1,hm,e1⟩:=penRaw_ok h0;obtain ⟨h2,hes,e2⟩:=penEnts_ok h1;obtain ⟨h3,hn,e3⟩:=penNum_ok h2;obtain ⟨h4,e4⟩:=penPut_ok h3;obtain ⟨h5,hs,e5⟩:=penNum_ok h4;obtain ⟨h6,hh,e6⟩:=penNum_ok h5;obtain ⟨h7,hz,e7⟩:=penNum_ok h6;obtain ⟨h8,hi,e8⟩:=penNum_ok h7;obtain ⟨h9,he,e9⟩:=penNum_ok h8;refine ⟨⟨he,hi,hz,hh,hs,hes,hm⟩,?_⟩;rw [e1,e2,e3,e4,e5,e6,e7,e8,e9];simp [RepS.rawB,RepS.tailB,bitB]
theorem Tryz.size36:(Tryz.prog.info? 36).map (·.size)=some 14:=by kernel_rfl
def Ey (w:World) (e b off l c:Nat):Prop:=w.heap[e]? =some (.cells #[.bool true,.slice (some ⟨b,off,none⟩) l c,.int .i64 0] 253 (0,0))
theorem take_ (e b off l c n:Nat) (w:World) (he:Ey w e b off l c) (hl:l≤c) (hn:n≤l):
  Calls Tryz.prog 158 #[.pointer (some ⟨e,0,none⟩),.int .i64 n] w fun x w'=>x=.returned (.slice (some ⟨b,off,none⟩) n n)∧(∃off' c',Ey w' e b off' (l - n) c'∧l - n≤c'∧(l - n=0∨off'=off+n))∧Fr (fun k=>k=e) w w':=by
 have c1:w.cell? ⟨e,1,none⟩=some (.slice (some ⟨b,off,none⟩) l c):=by rw [cell_at he];rfl
 have z1:=frozen_at he 1;have HE:=lH he;have t2:(decide ((l:Int)<(n:Int)))=false:=by simp;omega
 clear he;go_enter Tryz.func158,Tryz.ntmps158;go_wp2_with fail
 ·refine bodyPost_ret (v:=.slice (some ⟨b,off,none⟩) n n) (by simp [results,Tryz.results158,go_sem]) rfl ⟨rfl,⟨off,0,by simpa [Ey] using setCell_at HE.out 1 (.slice (some ⟨b,off,none⟩) (l - n) 0),by omega,.inl (by omega)⟩,Fr.setCell (S:=fun k=>k=e) (p:=⟨e,1,none⟩) (Fr.refl w) (.inl rfl) _⟩
 ·refine bodyPost_ret (v:=.slice (some ⟨b,off,none⟩) n n) (by simp [results,Tryz.results158,go_sem]) rfl ⟨rfl,⟨off+n,c - n,by simpa [Ey] using setCell_at HE.out 1 (.slice (some ⟨b,off+n,none⟩) (l - n) (c - n)),by omega,.inr rfl⟩,Fr.setCell (S:=fun k=>k=e) (p:=⟨e,1,none⟩) (Fr.refl w) (.inl rfl) _⟩
theorem tae_nil (w:World):(Instr.typeAssert .nilIface 20 214 true).run Tryz.prog w=.ok (.tuple #[.agg #[.int .i64 0],.bool false]) w:=by kernel_rfl
set_option maxRecDepth 10000 in
theorem ecatch_idle (p q:Value) (w:World):
  CallsD Tryz.prog 207 #[p,q] .returning w fun e u' w'=>e=.returned (.tuple #[])∧u'=.returning∧w'=w.alloc (.cells #[.int .i64 0] 214):=by
 refine callsD_of_wpS Tryz.func207 rfl fun c₀ cs hu=> ?_;apply wpS_seq;apply wpS_region;simp [wpOpsS,go_sem,recoverD,hu,Tryz.ntmps207,Exit.thenS,tae_nil,Array.replicate,List.replicate];apply wpS_seq;apply wpS_region;simp [wpOpsS,go_sem,Exit.thenS];refine wpS_cond (t:=false) (by simp [Act.eval]) ?_;simp only [Bool.false_eq_true,if_false];refine wpS_of_wp (wp_skip ?_);cases c₀
 simp_all [bodyPostS,results,Tryz.results207]
theorem eread154 (e b off l c a2 a3 a4:Nat) (w:World) (he:Ey w e b off l c) (P:World→Prop)
  (hc:Calls Tryz.prog 154 #[.pointer (some ⟨a2,0,none⟩),.pointer (some ⟨a3,0,none⟩),.pointer (some ⟨a4,0,none⟩)] ((w.alloc (.cells #[.pointer (some ⟨e,0,none⟩)] 171)).alloc (.cells #[.slice (some ⟨b,off,none⟩) l c] 27)) fun x w'=>x=.returned (.tuple #[])∧P w'):
  Calls Tryz.prog 153 #[.pointer (some ⟨e,0,none⟩),.func (Fn.func 154) #[] #[.pointer (some ⟨a2,0,none⟩),.pointer (some ⟨a3,0,none⟩),.pointer (some ⟨a4,0,none⟩)]] w fun x w'=>x=.returned (.tuple #[])∧∃w1,P w1∧Fr No w1 w':=by
 have hmf:∀(fn:Fn) (first cap:Array Value) (w:World),(Instr.makeFunc fn first cap).run Tryz.prog w=.ok (.func fn first cap) w:=fun _ _ _ _=>rfl;have f0:Fr No w (w.alloc (.cells #[.pointer (some ⟨e,0,none⟩)] 171)):=(Fr.refl w).alloc _;have c0:(w.alloc (.cells #[.pointer (some ⟨e,0,none⟩)] 171)).cell? ⟨e,0,none⟩=some (.bool true):=f0.cell_of (by rw [cell_at he];rfl) id;have c1:(w.alloc (.cells #[.pointer (some ⟨e,0,none⟩)] 171)).cell? ⟨e,1,none⟩=some (.slice (some ⟨b,off,none⟩) l c):=f0.cell_of (by rw [cell_at he];rfl) id;have c2:(w.alloc (.cells #[.pointer (some ⟨e,0,none⟩)] 171)).cell? ⟨e,2,none⟩=some (.int .i64 0):=f0.cell_of (by rw [cell_at he];rfl) id;have HC:=lH hc;clear hc f0 he
 go_enter_defers Tryz.func153,Tryz.ntmps153
 go_wp2_with fail;with_reducible refine HC.out.mono ?_
 rintro x w1 ⟨rfl,hp⟩;have HP:=lH hp;clear hp;go_wp2_with fail;refine leaves_cons (f:=207) (args:= #[.pointer (some ⟨w.heap.size+1,0,none⟩),.pointer (some ⟨w.heap.size,0,none⟩)]) (by simp) (by simp [go_sem]) ?_;refine (ecatch_idle _ _ _).mono ?_;rintro e' u' w5 ⟨rfl,rfl,hw5⟩;have f5:Fr No w1 w5:=by rw [hw5];exact (Fr.refl w1).alloc _
 simp [Leaves,settle,results,Tryz.results153,go_sem];exact ⟨w1,HP.out,f5⟩
theorem eread157 (e b off l c a2 a3:Nat) (w:World) (he:Ey w e b off l c) (P:World→Prop)
  (hc:Calls Tryz.prog 157 #[.pointer (some ⟨a2,0,none⟩),.pointer (some ⟨a3,0,none⟩)] ((w.alloc (.cells #[.pointer (some ⟨e,0,none⟩)] 171)).alloc (.cells #[.slice (some ⟨b,off,none⟩) l c] 27)) fun x w'=>x=.returned (.tuple #[])∧P w'):
  Calls Tryz.prog 153 #[.pointer (some ⟨e,0,none⟩),.func (Fn.func 157) #[] #[.pointer (some ⟨a2,0,none⟩),.pointer (some ⟨a3,0,none⟩)]] w fun x w'=>x=.returned (.tuple #[])∧∃w1,P w1∧Fr No w1 w':=by
 have hmf:∀(fn:Fn) (first cap:Array Value) (w:World),(Instr.makeFunc fn first cap).run Tryz.prog w=.ok (.func fn first cap) w:=fun _ _ _ _=>rfl;have f0:Fr No w (w.alloc (.cells #[.pointer (some ⟨e,0,none⟩)] 171)):=(Fr.refl w).alloc _;have c0:(w.alloc (.cells #[.pointer (some ⟨e,0,none⟩)] 171)).cell? ⟨e,0,none⟩=some (.bool true):=f0.cell_of (by rw [cell_at he];rfl) id;have c1:(w.alloc (.cells #[.pointer (some ⟨e,0,none⟩)] 171)).cell? ⟨e,1,none⟩=some (.slice (some ⟨b,off,none⟩) l c):=f0.cell_of (by rw [cell_at he];rfl) id;have c2:(w.alloc (.cells #[.pointer (some ⟨e,0,none⟩)] 171)).cell? ⟨e,2,none⟩=some (.int .i64 0):=f0.cell_of (by rw [cell_at he];rfl) id;have HC:=lH hc;clear hc f0 he
 go_enter_defers Tryz.func153,Tryz.ntmps153
 go_wp2_with fail;with_reducible refine HC.out.mono ?_
 rintro x w1 ⟨rfl,hp⟩;have HP:=lH hp;clear hp;go_wp2_with fail;refine leaves_cons (f:=207) (args:= #[.pointer (some ⟨w.heap.size+1,0,none⟩),.pointer (some ⟨w.heap.size,0,none⟩)]) (by simp) (by simp [go_sem]) ?_;refine (ecatch_idle _ _ _).mono ?_;rintro e' u' w5 ⟨rfl,rfl,hw5⟩;have f5:Fr No w1 w5:=by rw [hw5];exact (Fr.refl w1).alloc _
 simp [Leaves,settle,results,Tryz.results153,go_sem];exact ⟨w1,HP.out,f5⟩
theorem eread159 (e b off l c a2 a3 a4:Nat) (w:World) (he:Ey w e b off l c) (P:World→Prop)
  (hc:Calls Tryz.prog 159 #[.pointer (some ⟨a2,0,none⟩),.pointer (some ⟨a3,0,none⟩),.pointer (some ⟨a4,0,none⟩)] ((w.alloc (.cells #[.pointer (some ⟨e,0,none⟩)] 171)).alloc (.cells #[.slice (some ⟨b,off,none⟩) l c] 27)) fun x w'=>x=.returned (.tuple #[])∧P w'):
  Calls Tryz.prog 153 #[.pointer (some ⟨e,0,none⟩),.func (Fn.func 159) #[] #[.pointer (some ⟨a2,0,none⟩),.pointer (some ⟨a3,0,none⟩),.pointer (some ⟨a4,0,none⟩)]] w fun x w'=>x=.returned (.tuple #[])∧∃w1,P w1∧Fr No w1 w':=by
 have hmf:∀(fn:Fn) (first cap:Array Value) (w:World),(Instr.makeFunc fn first cap).run Tryz.prog w=.ok (.func fn first cap) w:=fun _ _ _ _=>rfl;have f0:Fr No w (w.alloc (.cells #[.pointer (some ⟨e,0,none⟩)] 171)):=(Fr.refl w).alloc _;have c0:(w.alloc (.cells #[.pointer (some ⟨e,0,none⟩)] 171)).cell? ⟨e,0,none⟩=some (.bool true):=f0.cell_of (by rw [cell_at he];rfl) id;have c1:(w.alloc (.cells #[.pointer (some ⟨e,0,none⟩)] 171)).cell? ⟨e,1,none⟩=some (.slice (some ⟨b,off,none⟩) l c):=f0.cell_of (by rw [cell_at he];rfl) id;have c2:(w.alloc (.cells #[.pointer (some ⟨e,0,none⟩)] 171)).cell? ⟨e,2,none⟩=some (.int .i64 0):=f0.cell_of (by rw [cell_at he];rfl) id;have HC:=lH hc;clear hc f0 he
 go_enter_defers Tryz.func153,Tryz.ntmps153
 go_wp2_with fail;with_reducible refine HC.out.mono ?_
 rintro x w1 ⟨rfl,hp⟩;have HP:=lH hp;clear hp;go_wp2_with fail;refine leaves_cons (f:=207) (args:= #[.pointer (some ⟨w.heap.size+1,0,none⟩),.pointer (some ⟨w.heap.size,0,none⟩)]) (by simp) (by simp [go_sem]) ?_;refine (ecatch_idle _ _ _).mono ?_;rintro e' u' w5 ⟨rfl,rfl,hw5⟩;have f5:Fr No w1 w5:=by rw [hw5];exact (Fr.refl w1).alloc _
 simp [Leaves,settle,results,Tryz.results153,go_sem];exact ⟨w1,HP.out,f5⟩
theorem i64_or_nat (a b:Nat) (ha:a<9223372036854775808) (hb:b<9223372036854775808):bits .or .i64 (a:Int) (b:Int)=((a|||b:Nat):Int):=by
 have hx:a|||b<2 ^ 63:=Nat.or_lt_two_pow (by omega) (by omega)
 show IntKind.i64.wrap ((BitVec.ofInt 64 (a:Int)|||BitVec.ofInt 64 (b:Int)).toNat:Int)=_;rw [BitVec.toNat_or,ofInt_u64 a (by omega),ofInt_u64 b (by omega)];exact IntWalk.i64_in _ (by omega)
theorem or_byte (a c:Nat) (ha:a<36028797018963968) (hc:c<256):bits .or .i64 ((a:Int)*256) (c:Int)=((a*256+c:Nat):Int):=by
 rw [show (a:Int)*256=((a*256:Nat):Int) by omega,i64_or_nat _ _ (by omega) (by omega)];congr 1;rw [show a*256=a<<<8 by rw [Nat.shiftLeft_eq],← Nat.shiftLeft_add_eq_or_of_lt (by omega)]
def valB (a:Nat) (ys:List UInt8):Nat:=ys.foldl (fun a c=>a*256+c.toNat) a
theorem valB_lt (ys:List UInt8):valB 0 ys<2 ^ (8*ys.length):=by
 suffices h:∀(ys:List UInt8) (a n:Nat),a<2 ^ n→valB a ys<2 ^ (n+8*ys.length) by simpa using h ys 0 0 (by simp)
 intro ys;induction ys with
 | nil=>intro a n h;simpa [valB] using h
 | cons y r ih=>
  intro a n h;have hy:=y.toNat_lt;have h1:a*256+y.toNat<2 ^ (n+8):=by
   rw [Nat.pow_add];have:(2:Nat) ^ 8=256:=rfl;rw [this];omega
  have:=ih _ _ h1;show valB (a*256+y.toNat) r<_;rw [List.length_cons,show n+8*(r.length+1)=n+8+8*r.length by omega];exact this
theorem valB_append (a:Nat) (xs ys:List UInt8):valB a (xs++ys)=valB (valB a xs) ys:=by simp [valB,List.foldl_append]
theorem valB_numB (wd x:Nat) (hx:x<2 ^ (8*wd)):valB 0 (numB wd x)=x:=by
 suffices h:∀m,m≤wd→valB 0 ((numB wd x).take (wd - m))=x / 2 ^ (8*m) by
  have:=h 0 (Nat.zero_le _);rw [Nat.sub_zero,List.take_of_length_le (by rw [numB_length];exact Nat.le_refl _)] at this;simpa using this
 intro m;induction hk:wd - m generalizing m with
 | zero=>
  intro hm;have:m=wd:=by omega
  subst this;simp [valB,Nat.div_eq_of_lt hx]
 | succ k ih=>
  intro hm;have hm1:m+1≤wd:=by omega
  have e:=numB_step wd x m hm1;have ihm:=ih (m+1) (by omega) hm1;rw [hk] at e;rw [show wd - (m+1)=k by omega] at e;rw [e,valB_append,ihm];simp only [valB,List.foldl_cons,List.foldl_nil];have h1:(UInt8.ofNat (x / 2 ^ (8*m) % 256)).toNat=x / 2 ^ (8*m) % 256:=by simp
  rw [h1,show 8*(m+1)=8*m+8 by omega,Nat.pow_add,← Nat.div_div_eq_div_mul];have:(2:Nat) ^ 8=256:=rfl;rw [this];omega
def Er (w:World) (e b:Nat) (rest:List UInt8):Prop:=
 ∃off c,Ey w e b off rest.length c∧rest.length≤c∧b≠e∧b<w.heap.size∧∀(j:Nat) x,rest[j]? =some x→w.cell? ⟨b,off+j,none⟩=some (.int .u8 x.toNat)
theorem Er.fr {S:Nat→Prop} {w w':World} {e b:Nat} {rest:List UInt8} (h:Er w e b rest) (f:Fr S w w') (he:¬S e) (hb:¬S b):Er w' e b rest:=by
 obtain ⟨off,c,h1,h2,h3,h4,h5⟩:=h;exact ⟨off,c,f.block_of h1 he,h2,h3,Nat.lt_of_lt_of_le h4 f.size,fun j x hj=>f.cell_of (h5 j x hj) hb⟩
theorem Er.no {w w':World} {e b:Nat} {rest:List UInt8} (h:Er w e b rest) (f:Fr No w w'):Er w' e b rest:=h.fr f id id
theorem gtake_ (e b:Nat) (ys rest:List UInt8) (w:World) (h:Er w e b (ys++rest)):
  Calls Tryz.prog 158 #[.pointer (some ⟨e,0,none⟩),.int .i64 ys.length] w fun x w'=>∃off,x=.returned (.slice (some ⟨b,off,none⟩) ys.length ys.length)∧(∀(j:Nat) x,ys[j]? =some x→w'.cell? ⟨b,off+j,none⟩=some (.int .u8 x.toNat))∧Er w' e b rest∧Fr (fun k=>k=e) w w':=by
 obtain ⟨off,c,h1,h2,h3,h4,h5⟩:=h;refine (take_ e b off _ c ys.length w h1 h2 (by simp)).mono ?_;rintro x w' ⟨rfl,⟨off',c',h6,h7,h8⟩,f⟩;have hl:(ys++rest).length - ys.length=rest.length:=by simp
 rw [hl] at h6 h7 h8;refine ⟨off,rfl,fun j x hj=>f.cell_of (h5 j x (by rw [List.getElem?_append_left (List.getElem?_eq_some_iff.1 hj).1];exact hj)) h3,⟨off',c',h6,h7,h3,Nat.lt_of_lt_of_le h4 f.size,fun j x hj=> ?_⟩,f⟩;rcases h8 with h8|h8
 ·rw [List.eq_nil_of_length_eq_zero h8] at hj;simp at hj
 ·rw [h8,Nat.add_assoc];exact f.cell_of (h5 (ys.length+j) x (by rw [List.getElem?_append_right (by omega),Nat.add_sub_cancel_left];exact hj)) h3
theorem gnumber_ (e b:Nat) (ys rest:List UInt8) (hy:ys.length≤7) (w:World) (h:Er w e b (ys++rest)):
  Calls Tryz.prog 155 #[.pointer (some ⟨e,0,none⟩),.int .i64 ys.length] w fun x w'=>x=.returned (.int .i64 (valB 0 ys))∧Er w' e b rest∧Fr (fun k=>k=e) w w':=by
 have HT:=lH (gtake_ e b ys rest w h);clear h;go_enter Tryz.func155,Tryz.ntmps155;go_wp2_with fail;refine HT.out.mono ?_;rintro x w1 ⟨off,rfl,hc,he,f1⟩;have HC:=lH hc;have HE:=lH he;have F1:=lH f1;clear hc he f1 HT;generalize hn:ys.length=n at*;have HN:=lH hn;clear hn;go_wp2_with fail;go_loopw [5,12] (fun a i wr=>∃j:Nat,i=.int .i64 j∧j≤n∧a=.int .i64 (valB 0 (ys.take j):Nat)∧wr=w1) (fun _ i _=>n - (intOf i).toNat)
 case atStart=>exact ⟨0,rfl,Nat.zero_le _,rfl,rfl⟩
 case round=>
  obtain ⟨j,rfl,hj,rfl,rfl⟩:=hrel;by_cases hlt:j<n
  ·have hjl:j<ys.length:=by have:=HN.out;omega
   have hx:ys[j]? =some ys[j]:=List.getElem?_eq_getElem hjl;have hb:=valB_lt (ys.take j);rw [List.length_take,Nat.min_eq_left (by omega)] at hb;have hb2:(2:Nat) ^ (8*j)≤2 ^ 48:=Nat.pow_le_pow_right (by decide) (by omega);have hv:valB 0 (ys.take (j+1))=valB 0 (ys.take j)*256+ys[j].toNat:=by
    rw [List.take_succ_eq_append_getElem hjl,valB_append];rfl
   have HV:=lH hv;have hlt2:=(ys[j]).toNat_lt;generalize hya:ys[j].toNat=y at*;have cj:wr.cell? ⟨b,off+j,none⟩=some (.int .u8 y):=(by rw [HC.out j _ hx,hya])
   generalize valB 0 (ys.take j)=a at*;have ha:a≤281474976710655:=by
    have:(2:Nat) ^ 48=281474976710656:=rfl;omega
   have HOR:=or_byte a y (by omega) (by omega);have q1:(0:Int)≤(j:Int):=(by omega)
   have q2:(j:Int)<(n:Int):=(by omega)
   have q3:(0:Int)≤(a:Int):=(by omega)
   have q4:(a:Int)≤281474976710655:=(by omega)
   have q5:(0:Int)≤(y:Int):=(by omega)
   have q6:(y:Int)≤255:=(by omega)
   have HL:=lH hjl;clear hx hb hb2 hv hya hlt2 ha hjl;go_wp2_with fail;go_roundw
   case rel=>
    exact ⟨j+1,by go_num,by omega,by rw [HV.out];simp,trivial⟩
   case measure=>simp [intOf];omega
  ·obtain rfl:j=n:=by omega
   go_wp2_with fail;have e:ys.take j=ys:=List.take_of_length_le (by have:=HN.out;omega);refine bodyPost_ret (v:=.int .i64 (valB 0 (ys.take j):Nat)) (by simp [results,Tryz.results155,go_sem]) rfl ⟨by rw [e],HE.out,F1.out⟩
theorem efail_ (e b off l c:Nat) (w:World) (he:Ey w e b off l c):Calls Tryz.prog 156 #[.pointer (some ⟨e,0,none⟩)] w fun x w'=>x=.returned (.int .i64 0)∧Fr No w w':=by
 have c0:w.cell? ⟨e,0,none⟩=some (.bool true):=by rw [cell_at he];rfl
 have c2:w.cell? ⟨e,2,none⟩=some (.int .i64 0):=by rw [cell_at he];rfl
 clear he;go_enter Tryz.func156,Tryz.ntmps156;go_wp2_with fail;exact bodyPost_ret (v:=.int .i64 0) (by simp [results,Tryz.results156,go_sem]) rfl ⟨rfl,Fr.refl _⟩
theorem eend_ (e b off c:Nat) (w:World) (he:Ey w e b off 0 c):Calls Tryz.prog 152 #[.pointer (some ⟨e,0,none⟩)] w fun x w'=>x=.returned (.int .i64 0)∧Fr No w w':=by
 have HE:=lH he;clear he;go_enter Tryz.func152,Tryz.ntmps152;go_wp2_with fail;refine (efail_ e b off 0 c w HE.out).mono ?_;rintro x w1 ⟨rfl,f1⟩;have c1:w1.cell? ⟨e,1,none⟩=some (.slice (some ⟨b,off,none⟩) 0 c):=f1.cell_of (by rw [cell_at HE.out];rfl) id;have F1:=lH f1;clear f1;go_wp2_with fail;exact bodyPost_ret (v:=.int .i64 0) (by simp [results,Tryz.results152,go_sem]) rfl ⟨rfl,F1.out⟩
theorem neweye_ (v:Value) (bs:List UInt8) (b off c:Nat) (w:World) (h:SlIs w v bs b off c) (hb:bs.length≤1000000):
  Calls Tryz.prog 151 #[v] w fun x w'=>∃e b' c',x=.returned (.pointer (some ⟨e,0,none⟩))∧Ey w' e b' 0 bs.length c'∧SlIs w' (.slice (some ⟨b',0,none⟩) bs.length c') bs b' 0 c'∧b'≠e∧w.heap.size≤e∧w.heap.size≤b'∧Fr No w w':=by
 have hv:=h.1;have HC:=lH (clone_ v bs b off c w h hb);subst hv;clear h;go_enter Tryz.func151,Tryz.ntmps151;go_wp2_with fail;refine HC.out.mono ?_;rintro x w1 ⟨v',b',c',rfl,⟨rfl,sl⟩,hb',f1⟩;have SL:=lH sl;have F1:=lH f1;have lb:=sl.2.1;clear sl f1;go_wp2_with fail;have FA:Fr No w1 (w1.alloc (.cells #[.bool true,.slice (some ⟨b',0,none⟩) bs.length c',.int .i64 0] 253)):=(Fr.refl w1).alloc _;exact bodyPost_ret (v:=.pointer (some ⟨w1.heap.size,0,none⟩)) (by simp [results,Tryz.results151,go_sem]) rfl ⟨_,b',c',rfl,new_at w1 _,⟨rfl,SL.out.1,Nat.lt_of_lt_of_le SL.out.2.1 FA.size,fun j x hj=>FA.cell_of (SL.out.2.2 j x hj) id⟩,by omega,F1.out.size,hb',F1.out.trans FA (fun _ _ e=>e)⟩
theorem going_ (e b off l c:Nat) (w:World) (he:Ey w e b off l c):Calls Tryz.prog 105 #[.pointer (some ⟨e,0,none⟩)] w fun x w'=>x=.returned (.tuple #[])∧Fr No w w':=by
 have HE:=lH he;clear he;go_enter Tryz.func105,Tryz.ntmps105;go_wp2_with fail;refine (efail_ e b off l c w HE.out).mono ?_;rintro x w1 ⟨rfl,f1⟩;have F1:=lH f1;clear f1;go_wp2_with fail;refine (efail_ e b off l c w1 (F1.out.block_of HE.out id)).mono ?_;rintro x w2 ⟨rfl,f2⟩;have F2:=lH (F1.out.trans f2 (fun _ _ e=>e));clear f2;go_wp2_with fail;refine (nmust_yes 0 w2).mono ?_;rintro x w3 ⟨rfl,rfl⟩;go_wp2_with fail;exact bodyPost_end (v:=.tuple #[]) (by simp [results,Tryz.results105,go_sem]) rfl ⟨rfl,F2.out⟩
theorem Er.ey {w:World} {e b:Nat} {rest:List UInt8} (h:Er w e b rest):e<w.heap.size∧∃cs,w.heap[e]? =some (.cells cs 253 (0,0)):=by
 obtain ⟨off,c,h1,_⟩:=h;exact ⟨lt_of_block h1,_,h1⟩
theorem ne_eye {w:World} {e r:Nat} {cs cs':Array Value} {t:TypeId} {fz:Nat×Nat} (he:w.heap[e]? =some (.cells cs' 253 (0,0))) (hr:w.heap[r]? =some (.cells cs t fz)) (ht:t≠253):r≠e:=by
 intro e';rw [e',he] at hr;simp at hr;exact ht hr.2.1.symm
theorem gstep_ (e b p q r:Nat) (ys rest:List UInt8) (h1:1≤ys.length) (h2:ys.length≤7) (w:World) (he:Er w e b (ys++rest)) (kp:w.heap[p]? =some (.cells #[.int .i64 ys.length] 3 (0,0))) (kq:w.heap[q]? =some (.cells #[.pointer (some ⟨e,0,none⟩)] 171 (0,0))) (kr:w.heap[r]? =some (.cells #[.int .i64 0] 3 (0,0))) (hbr:b≠r):
  Calls Tryz.prog 154 #[.pointer (some ⟨p,0,none⟩),.pointer (some ⟨q,0,none⟩),.pointer (some ⟨r,0,none⟩)] w fun x w'=>x=.returned (.tuple #[])∧w'.heap[r]? =some (.cells #[.int .i64 (valB 0 ys)] 3 (0,0))∧Er w' e b rest∧Fr (fun k=>k=e∨k=r) w w':=by
 have c1:w.cell? ⟨p,0,none⟩=some (.int .i64 ys.length):=by rw [cell_at kp];rfl
 have c2:w.cell? ⟨q,0,none⟩=some (.pointer (some ⟨e,0,none⟩)):=by rw [cell_at kq];rfl
 have z3:=frozen_at kr 0;have HN:=lH (gnumber_ e b ys rest h2 w he);have KR:=lH kr;obtain ⟨_,cs,hE⟩:=he.ey;have hre:r≠e:=ne_eye hE kr (by decide);have t1:(1:Int)≤(ys.length:Int):=by omega
 have t2:(ys.length:Int)≤7:=by omega
 clear he kp kq kr hE;generalize hn:ys.length=n at*;clear hn;go_enter Tryz.func154,Tryz.ntmps154;go_wp2_with (go_at_call 129;go_in);refine HN.out.mono ?_;rintro x w1 ⟨rfl,h9,f1⟩;have H9:=lH h9;have k2:=f1.block_of KR.out hre;have K2:=lH k2;have z4:=frozen_at k2 0;have c4:w1.cell? ⟨r,0,none⟩=some (.int .i64 0):=by rw [cell_at k2];rfl
 have F1:=lH f1;clear h9 k2 z3;go_wp2_with fail;have FS:Fr (fun k=>k=r) w1 (w1.setCell ⟨r,0,none⟩ (.int .i64 (valB 0 ys))):=Fr.setCell (S:=fun k=>k=r) (p:=⟨r,0,none⟩) (Fr.refl w1) (.inl rfl) _;exact bodyPost_end (v:=.tuple #[]) (by simp [results,Tryz.results154,go_sem]) rfl ⟨rfl,by simpa using setCell_at K2.out 0 (.int .i64 (valB 0 ys)),H9.out.fr FS (fun e'=>hre e'.symm) hbr,(F1.out.mono (fun _ _ e=> .inl e)).trans FS (fun _ _ e=> .inr e)⟩
theorem genum_ (e b:Nat) (ys rest:List UInt8) (h1:1≤ys.length) (h2:ys.length≤7) (w:World) (he:Er w e b (ys++rest)):
  Calls Tryz.prog 104 #[.pointer (some ⟨e,0,none⟩),.int .i64 ys.length] w fun x w'=>x=.returned (.int .i64 (valB 0 ys))∧Er w' e b rest∧Fr (fun k=>k=e) w w':=by
 have hmf:∀(fn:Fn) (first cap:Array Value) (w:World),(Instr.makeFunc fn first cap).run Tryz.prog w=.ok (.func fn first cap) w:=fun _ _ _ _=>rfl;obtain ⟨off,c,hey,hlc,hbe,hbl,hby⟩:=id he;obtain ⟨w3,hw3⟩:∃w3,w3=((w.alloc (.cells #[.pointer (some ⟨e,0,none⟩)] 171)).alloc (.cells #[.int .i64 ys.length] 3)).alloc (.cells #[.int .i64 0] 3):=⟨_,rfl⟩
 obtain ⟨w5,hw5⟩:∃w5,w5=(w3.alloc (.cells #[.pointer (some ⟨e,0,none⟩)] 171)).alloc (.cells #[.slice (some ⟨b,off,none⟩) (ys++rest).length c] 27):=⟨_,rfl⟩
 have f3:Fr No w w3:=by rw [hw3];exact (((Fr.refl w).alloc _).alloc _).alloc _
 have f35:Fr No w3 w5:=by rw [hw5];exact ((Fr.refl w3).alloc _).alloc _
 have f5:Fr No w w5:=f3.trans f35 (fun _ _ e=>e);have kq:w3.heap[w.heap.size]? =some (.cells #[.pointer (some ⟨e,0,none⟩)] 171 (0,0)):=by rw [hw3];exact ((Fr.refl (S:=No) _).alloc _|>.alloc _).block_of (new_at w _) id
 have kp:w3.heap[w.heap.size+1]? =some (.cells #[.int .i64 ys.length] 3 (0,0)):=by
  rw [hw3];have:=((Fr.refl (S:=No) _).alloc (.cells #[.int .i64 0] 3)).block_of (new_at (w.alloc (.cells #[.pointer (some ⟨e,0,none⟩)] 171)) (.cells #[.int .i64 ys.length] 3)) id;simpa using this
 have kr:w3.heap[w.heap.size+1+1]? =some (.cells #[.int .i64 0] 3 (0,0)):=by
  rw [hw3];have:=new_at ((w.alloc (.cells #[.pointer (some ⟨e,0,none⟩)] 171)).alloc (.cells #[.int .i64 ys.length] 3)) (.cells #[.int .i64 0] 3);simpa using this
 have hs:=gstep_ e b (w.heap.size+1) w.heap.size (w.heap.size+1+1) ys rest h1 h2 w5 (he.no f5) (f35.block_of kp id) (f35.block_of kq id) (f35.block_of kr id) (by omega);rw [hw5] at hs;have le:=lt_of_block hey;have HR:=lH (eread154 e b off (ys++rest).length c (w.heap.size+1) w.heap.size (w.heap.size+1+1) w3 (f3.block_of hey id) _ hs);rw [← hw5] at HR;have F5:=lH f5;clear hs f35 kq kp kr f3 f5 he hey hby hlc;rw [hw3] at HR;go_enter Tryz.func104,Tryz.ntmps104;go_wp2_with fail;with_reducible refine HR.out.mono ?_
 rintro x w7 ⟨rfl,w6,⟨k6,h6,f6⟩,f7⟩;have c7:w7.cell? ⟨w.heap.size+1+1,0,none⟩=some (.int .i64 (valB 0 ys)):=f7.cell_of (by rw [cell_at k6];rfl) id;have G1:=lH (h6.no f7);have F7:=lH ((F5.out.of_no (S:=fun k=>k=e)).trans (f6.trans f7 (fun _ _ e=>e.elim)) (fun k hk e=>by rcases e with e|e;exact e;omega));clear k6 f6 f7 h6;go_wp2_with fail;exact bodyPost_ret (v:=.int .i64 (valB 0 ys)) (by simp [results,Tryz.results104,go_sem,c7]) rfl ⟨rfl,G1.out,F7.out⟩
theorem gstepb_ (e b q r:Nat) (x:Bool) (rest:List UInt8) (w:World) (he:Er w e b ((if x then 1 else 0)::rest)) (kq:w.heap[q]? =some (.cells #[.pointer (some ⟨e,0,none⟩)] 171 (0,0))) (kr:w.heap[r]? =some (.cells #[.bool false] 4 (0,0))) (hbr:b≠r):
  Calls Tryz.prog 157 #[.pointer (some ⟨q,0,none⟩),.pointer (some ⟨r,0,none⟩)] w fun y w'=>y=.returned (.tuple #[])∧w'.heap[r]? =some (.cells #[.bool x] 4 (0,0))∧Er w' e b rest∧Fr (fun k=>k=e∨k=r) w w':=by
 have c2:w.cell? ⟨q,0,none⟩=some (.pointer (some ⟨e,0,none⟩)):=by rw [cell_at kq];rfl
 have HN:=lH (gtake_ e b [if x then 1 else 0] rest w he);have KR:=lH kr;obtain ⟨_,cs,hE⟩:=he.ey;have hre:r≠e:=ne_eye hE kr (by decide);clear he kq kr hE;cases x;all_goals
  go_enter Tryz.func157,Tryz.ntmps157;go_wp2_with fail;refine HN.out.mono ?_;rintro y w1 ⟨off,rfl,hc,h9,f1⟩;have H9:=lH h9;have k2:=f1.block_of KR.out hre;have K2:=lH k2;have z4:=frozen_at k2 0;have c4:w1.cell? ⟨r,0,none⟩=some (.bool false):=by rw [cell_at k2];rfl
  have d0:=hc 0 _ rfl;rw [Nat.add_zero] at d0;have F1:=lH f1;clear h9 k2 hc f1;simp at d0;go_wp2_with fail
 ·have FS:Fr (fun k=>k=r) w1 (w1.setCell ⟨r,0,none⟩ (.bool false)):=Fr.setCell (S:=fun k=>k=r) (p:=⟨r,0,none⟩) (Fr.refl w1) (.inl rfl) _;exact bodyPost_end (v:=.tuple #[]) (by simp [results,Tryz.results157,go_sem]) rfl ⟨rfl,by simpa using setCell_at K2.out 0 (.bool false),H9.out.fr FS (fun e'=>hre e'.symm) hbr,(F1.out.mono (fun _ _ e=> .inl e)).trans FS (fun _ _ e=> .inr e)⟩
 ·have FS:Fr (fun k=>k=r) w1 (w1.setCell ⟨r,0,none⟩ (.bool true)):=Fr.setCell (S:=fun k=>k=r) (p:=⟨r,0,none⟩) (Fr.refl w1) (.inl rfl) _;exact bodyPost_end (v:=.tuple #[]) (by simp [results,Tryz.results157,go_sem]) rfl ⟨rfl,by simpa using setCell_at K2.out 0 (.bool true),H9.out.fr FS (fun e'=>hre e'.symm) hbr,(F1.out.mono (fun _ _ e=> .inl e)).trans FS (fun _ _ e=> .inr e)⟩
theorem gebool_ (e b:Nat) (x:Bool) (rest:List UInt8) (w:World) (he:Er w e b ((if x then 1 else 0)::rest)):
  Calls Tryz.prog 107 #[.pointer (some ⟨e,0,none⟩)] w fun y w'=>y=.returned (.bool x)∧Er w' e b rest∧Fr (fun k=>k=e) w w':=by
 have hmf:∀(fn:Fn) (first cap:Array Value) (w:World),(Instr.makeFunc fn first cap).run Tryz.prog w=.ok (.func fn first cap) w:=fun _ _ _ _=>rfl;obtain ⟨off,c,hey,hlc,hbe,hbl,hby⟩:=id he;obtain ⟨w3,hw3⟩:∃w3,w3=(w.alloc (.cells #[.pointer (some ⟨e,0,none⟩)] 171)).alloc (.cells #[.bool false] 4):=⟨_,rfl⟩
 obtain ⟨w5,hw5⟩:∃w5,w5=(w3.alloc (.cells #[.pointer (some ⟨e,0,none⟩)] 171)).alloc (.cells #[.slice (some ⟨b,off,none⟩) ((if x then 1 else 0)::rest:List UInt8).length c] 27):=⟨_,rfl⟩
 have f3:Fr No w w3:=by rw [hw3];exact ((Fr.refl w).alloc _).alloc _
 have f35:Fr No w3 w5:=by rw [hw5];exact ((Fr.refl w3).alloc _).alloc _
 have f5:Fr No w w5:=f3.trans f35 (fun _ _ e=>e);have kq:w3.heap[w.heap.size]? =some (.cells #[.pointer (some ⟨e,0,none⟩)] 171 (0,0)):=by rw [hw3];exact ((Fr.refl (S:=No) _).alloc _).block_of (new_at w _) id
 have kr:w3.heap[w.heap.size+1]? =some (.cells #[.bool false] 4 (0,0)):=by
  rw [hw3];have:=new_at (w.alloc (.cells #[.pointer (some ⟨e,0,none⟩)] 171)) (.cells #[.bool false] 4);simpa using this
 have hs:=gstepb_ e b w.heap.size (w.heap.size+1) x rest w5 (he.no f5) (f35.block_of kq id) (f35.block_of kr id) (by omega);rw [hw5] at hs;have le:=lt_of_block hey;have HR:=lH (eread157 e b off _ c w.heap.size (w.heap.size+1) w3 (f3.block_of hey id) _ hs);rw [← hw5] at HR;have F5:=lH f5;clear hs f35 kq kr f3 f5 he hey hby hlc;rw [hw3] at HR;go_enter Tryz.func107,Tryz.ntmps107;go_wp2_with fail;with_reducible refine HR.out.mono ?_
 rintro y w7 ⟨rfl,w6,⟨k6,h6,f6⟩,f7⟩;have c7:w7.cell? ⟨w.heap.size+1,0,none⟩=some (.bool x):=f7.cell_of (by rw [cell_at k6];rfl) id;have G1:=lH (h6.no f7);have F7:=lH ((F5.out.of_no (S:=fun k=>k=e)).trans (f6.trans f7 (fun _ _ e=>e.elim)) (fun k hk e=>by rcases e with e|e;exact e;omega));clear k6 f6 f7 h6;go_wp2_with fail;exact bodyPost_ret (v:=.bool x) (by simp [results,Tryz.results107,go_sem,c7]) rfl ⟨rfl,G1.out,F7.out⟩
theorem gstepr_ (e b p q r:Nat) (m:Int) (ys rest:List UInt8) (hm:(ys.length:Int)≤m) (hl:ys.length≤65535) (w:World) (he:Er w e b (numB 2 ys.length++(ys++rest))) (kp:w.heap[p]? =some (.cells #[.int .i64 m] 3 (0,0))) (kq:w.heap[q]? =some (.cells #[.pointer (some ⟨e,0,none⟩)] 171 (0,0))) (kr:w.heap[r]? =some (.cells #[.slice none 0 0] 27 (0,0))) (hbr:b≠r):
  Calls Tryz.prog 159 #[.pointer (some ⟨p,0,none⟩),.pointer (some ⟨q,0,none⟩),.pointer (some ⟨r,0,none⟩)] w fun x w'=>x=.returned (.tuple #[])∧(∃b' c',w'.heap[r]? =some (.cells #[.slice (some ⟨b',0,none⟩) ys.length c'] 27 (0,0))∧SlIs w' (.slice (some ⟨b',0,none⟩) ys.length c') ys b' 0 c'∧w.heap.size≤b')∧Er w' e b rest∧Fr (fun k=>k=e∨k=r) w w':=by
 have c1:w.cell? ⟨p,0,none⟩=some (.int .i64 m):=by rw [cell_at kp];rfl
 have c2:w.cell? ⟨q,0,none⟩=some (.pointer (some ⟨e,0,none⟩)):=by rw [cell_at kq];rfl
 have t1:decide (m<0)=false:=by simp;omega
 have t2:decide (m<(ys.length:Int))=false:=by simp;omega
 have hn:=gnumber_ e b (numB 2 ys.length) (ys++rest) (by rw [numB_length];decide) w he;rw [numB_length,valB_numB 2 ys.length (by show ys.length<65536;omega)] at hn;have HN:=lH hn;have KR:=lH kr;obtain ⟨hel,cs,hE⟩:=he.ey;have hre:r≠e:=ne_eye hE kr (by decide);have hpe:p≠e:=ne_eye hE kp (by decide);have hqe:q≠e:=ne_eye hE kq (by decide);have lr:=lt_of_block kr;clear he kp kq kr hE hn;generalize hnn:ys.length=n at*;have HNN:=lH hnn;clear hnn;go_enter Tryz.func159,Tryz.ntmps159;go_wp2_with fail;refine HN.out.mono ?_;rintro x w1 ⟨rfl,e1,f1⟩;have ht:=gtake_ e b ys rest w1 e1;rw [HNN.out] at ht;have HT:=lH ht;have F1:=lH f1;have c1:w1.cell? ⟨p,0,none⟩=some (.int .i64 m):=f1.cell_of c1 hpe;have c2:w1.cell? ⟨q,0,none⟩=some (.pointer (some ⟨e,0,none⟩)):=f1.cell_of c2 hqe;clear e1 f1 HN ht;go_wp2_with fail;refine HT.out.mono ?_;rintro x w2 ⟨off,rfl,hc,e2,f2⟩;have E2:=lH e2;have F2:=lH (F1.out.trans f2 (fun _ _ e=>e));have hcl:=clone_ (.slice (some ⟨b,off,none⟩) n n) ys b off n w2 ⟨by rw [HNN.out],by have:=HNN.out;omega,by obtain ⟨_,_,_,_,_,h,_⟩:=e2;exact h,hc⟩ (by have:=HNN.out;omega);have HCL:=lH hcl;clear e2 f2 hc hcl;go_wp2_with fail;refine HCL.out.mono ?_;rintro x w4 ⟨v',b',c4',rfl,sl,hb',f4⟩;obtain ⟨rfl,sl2⟩:=sl;have SL:=lH sl2;have F4:=lH f4;have k4:=f4.block_of (F2.out.block_of KR.out hre) id;have z4:=frozen_at k4 0;have c4:w4.cell? ⟨r,0,none⟩=some (.slice none 0 0):=by rw [cell_at k4];rfl
 have K4:=lH k4;have hz:=F2.out.size;clear sl2 f4 k4;rw [HNN.out];go_wp2_with fail;have FS:Fr (fun k=>k=r) w4 (w4.setCell ⟨r,0,none⟩ (.slice (some ⟨b',0,none⟩) n c4')):=Fr.setCell (S:=fun k=>k=r) (p:=⟨r,0,none⟩) (Fr.refl w4) (.inl rfl) _;refine bodyPost_end (v:=.tuple #[]) (by simp [results,Tryz.results159,go_sem]) rfl ⟨rfl,⟨b',c4',by simpa using setCell_at K4.out 0 (.slice (some ⟨b',0,none⟩) n c4'),⟨by rw [HNN.out],SL.out.1,Nat.lt_of_lt_of_le SL.out.2.1 FS.size,fun j y hj=>FS.cell_of (SL.out.2.2 j y hj) (by dsimp only;omega)⟩,by omega⟩,(E2.out.no F4.out).fr FS (fun e'=>hre e'.symm) hbr,((F2.out.trans F4.out (fun _ _ e=>e.elim)).mono (fun _ _ e=> .inl e)).trans FS (fun _ _ e=> .inr e)⟩
theorem geraw_ (e b:Nat) (m:Int) (ys rest:List UInt8) (hm:(ys.length:Int)≤m) (hl:ys.length≤65535) (w:World) (he:Er w e b (numB 2 ys.length++(ys++rest))):
  Calls Tryz.prog 110 #[.pointer (some ⟨e,0,none⟩),.int .i64 m] w fun x w'=>∃b' c',x=.returned (.slice (some ⟨b',0,none⟩) ys.length c')∧SlIs w' (.slice (some ⟨b',0,none⟩) ys.length c') ys b' 0 c'∧w.heap.size≤b'∧Er w' e b rest∧Fr (fun k=>k=e) w w':=by
 have hmf:∀(fn:Fn) (first cap:Array Value) (w:World),(Instr.makeFunc fn first cap).run Tryz.prog w=.ok (.func fn first cap) w:=fun _ _ _ _=>rfl;obtain ⟨off,c,hey,hlc,hbe,hbl,hby⟩:=id he;obtain ⟨w3,hw3⟩:∃w3,w3=((w.alloc (.cells #[.pointer (some ⟨e,0,none⟩)] 171)).alloc (.cells #[.int .i64 m] 3)).alloc (.cells #[.slice none 0 0] 27):=⟨_,rfl⟩
 obtain ⟨w5,hw5⟩:∃w5,w5=(w3.alloc (.cells #[.pointer (some ⟨e,0,none⟩)] 171)).alloc (.cells #[.slice (some ⟨b,off,none⟩) (numB 2 ys.length++(ys++rest)).length c] 27):=⟨_,rfl⟩
 have f3:Fr No w w3:=by rw [hw3];exact (((Fr.refl w).alloc _).alloc _).alloc _
 have f35:Fr No w3 w5:=by rw [hw5];exact ((Fr.refl w3).alloc _).alloc _
 have f5:Fr No w w5:=f3.trans f35 (fun _ _ e=>e);have kq:w3.heap[w.heap.size]? =some (.cells #[.pointer (some ⟨e,0,none⟩)] 171 (0,0)):=by rw [hw3];exact ((Fr.refl (S:=No) _).alloc _|>.alloc _).block_of (new_at w _) id
 have kp:w3.heap[w.heap.size+1]? =some (.cells #[.int .i64 m] 3 (0,0)):=by
  rw [hw3];have:=((Fr.refl (S:=No) _).alloc (.cells #[.slice none 0 0] 27)).block_of (new_at (w.alloc (.cells #[.pointer (some ⟨e,0,none⟩)] 171)) (.cells #[.int .i64 m] 3)) id;simpa using this
 have kr:w3.heap[w.heap.size+1+1]? =some (.cells #[.slice none 0 0] 27 (0,0)):=by
  rw [hw3];have:=new_at ((w.alloc (.cells #[.pointer (some ⟨e,0,none⟩)] 171)).alloc (.cells #[.int .i64 m] 3)) (.cells #[.slice none 0 0] 27);simpa using this
 have hs:=gstepr_ e b (w.heap.size+1) w.heap.size (w.heap.size+1+1) m ys rest hm hl w5 (he.no f5) (f35.block_of kp id) (f35.block_of kq id) (f35.block_of kr id) (by omega);rw [hw5] at hs;have le:=lt_of_block hey;have HR:=lH (eread159 e b off _ c (w.heap.size+1) w.heap.size (w.heap.size+1+1) w3 (f3.block_of hey id) _ hs);rw [← hw5] at HR;have F5:=lH f5;clear hs f35 kq kp kr f3 f5 he hey hby hlc;rw [hw3] at HR;go_enter Tryz.func110,Tryz.ntmps110;go_wp2_with fail;with_reducible refine HR.out.mono ?_
 rintro x w7 ⟨rfl,w6,⟨⟨b',c',k6,sl,hbb⟩,h6,f6⟩,f7⟩;have c7:w7.cell? ⟨w.heap.size+1+1,0,none⟩=some (.slice (some ⟨b',0,none⟩) ys.length c'):=f7.cell_of (by rw [cell_at k6];rfl) id;have G1:=lH (h6.no f7);have F7:=lH ((F5.out.of_no (S:=fun k=>k=e)).trans (f6.trans f7 (fun _ _ e=>e.elim)) (fun k hk e=>by rcases e with e|e;exact e;omega));have SL:Hid (SlIs w7 (.slice (some ⟨b',0,none⟩) ys.length c') ys b' 0 c'):=lH ⟨rfl,sl.2.1,Nat.lt_of_lt_of_le sl.2.2.1 f7.size,fun j y hj=>f7.cell_of (sl.2.2.2 j y hj) id⟩;have hb2:w.heap.size≤b':=Nat.le_trans F5.out.size hbb;clear k6 f6 f7 h6 sl hbb;go_wp2_with fail;exact bodyPost_ret (v:=.slice (some ⟨b',0,none⟩) ys.length c') (by simp [results,Tryz.results110,go_sem,c7]) rfl ⟨b',c',rfl,SL.out,hb2,G1.out,F7.out⟩
theorem str_ (w:World) (b c:Nat) (ys:List UInt8) (h:SlIs w (.slice (some ⟨b,0,none⟩) ys.length c) ys b 0 c) (hc:ys.length≤65535):(convert 27 9 (.slice (some ⟨b,0,none⟩) ys.length c)).run Tryz.prog w=.ok (.string ⟨ys.toArray⟩) w:=by
 have hl:(loadCells ⟨b,0,none⟩ ys.length).run Tryz.prog w=.ok ((ys.map fun x=>(x.toNat:Int)).map (Value.int .u8)).toArray w:=by
  have:=run_loadCells_list (P:=Tryz.prog) w ⟨b,0,none⟩ ((ys.map fun x=>(x.toNat:Int)).map (Value.int .u8)) (fun j v hv=>by
   rw [Addr.add_mid];simp only [List.getElem?_map,Option.map_eq_some_iff] at hv;obtain ⟨x,⟨y,hy,rfl⟩,rfl⟩:=hv;exact h.2.2.2 j y hy)
  simpa using this
 rw [run_convert_bytes_string w 27 9 5 _ _ _ Tryz.underlying27 Tryz.underlying5 Tryz.underlying9,run_bytesToString w _ _ _ _ hl];congr 2;have:∀(ys:List UInt8) (a:ByteArray),(ys.map fun x=>(x.toNat:Int)).foldl (fun r n=>r.push (UInt8.ofNat n.toNat)) a=⟨a.data++ys.toArray⟩:=by
  intro ys;induction ys with
  | nil=>intro a;simp
  | cons y r ih=>
   intro a;simp only [List.map_cons,List.foldl_cons];rw [ih];simp [ByteArray.push]
 rw [this];exact congrArg (fun a=>(⟨a⟩:ByteArray)) (Array.empty_append (xs:=ys.toArray))
theorem getext_ (e b:Nat) (m:Int) (ys rest:List UInt8) (hm:(ys.length:Int)≤m) (hl:ys.length≤65535) (w:World) (he:Er w e b (numB 2 ys.length++(ys++rest))):
  Calls Tryz.prog 109 #[.pointer (some ⟨e,0,none⟩),.int .i64 m] w fun x w'=>x=.returned (.string ⟨ys.toArray⟩)∧Er w' e b rest∧Fr (fun k=>k=e) w w':=by
 have HR:=lH (geraw_ e b m ys rest hm hl w he);clear he;go_enter Tryz.func109,Tryz.ntmps109;go_wp2_with fail;refine HR.out.mono ?_;rintro x w1 ⟨b',c',rfl,sl,hb,e1,f1⟩;have hs:=str_ w1 b' c' ys sl hl;have E1:=lH e1;have F1:=lH f1;clear sl e1 f1 HR;go_wp2_with fail;exact bodyPost_ret (v:=.string ⟨ys.toArray⟩) (by simp [results,Tryz.results109,go_sem]) rfl ⟨rfl,E1.out,F1.out⟩
end Go.Proofs.YtlcojhddnpmgmaaGreat
namespace Go.Proofs.YtlcojhddnpmgmaaGreat
open Go Go.RowKit
section
variable {P:Program} {ops:Array Oper} {Q:Exit→Act→World→Prop} {md:Region.Mode} {S:Act→World→Prop} {T:Nat→Bool}
def YieldsB (P:Program) (ops:Array Oper) (S:Act→World→Prop) (o:Oper) (v:Value) (a:Act):Prop:=
 (Region.wanted o (yielded ops a.tmps)=true∧∀w,(∃b,S b w)→(∃w',(execOp a.eval o).run P w=.ok (.value v) w'∧∀b,S b w→S b w')∨∃f args w1,(execOp a.eval o).run P w=.ok (.enter f args) w1∧Calls P f args w1 (fun e w'=>e=.returned v∧∀b,S b w→S b w'))∨
 (Region.wanted o (yielded ops a.tmps)=false∧v=undef)
theorem YieldsB.wpOp {i:Nat} {o:Oper} {v:Value} {a:Act} (hi:ops[i]? =some o) (hy:YieldsB P ops S o v a)
  {K:Act→World→Prop} {w:World} (hS:S a w) (h:∀w',S a w'→K (a.put o.dst v) w'):wpOp P ops Q i K a w:=by
 unfold Go.wpOp;simp only [hi];rcases hy with ⟨hw,hv⟩|⟨hw,rfl⟩
 ·simp only [hw,if_true];refine .inl ?_;rcases hv w ⟨a,hS⟩ with ⟨w',hr,hS'⟩|⟨f,args,w1,hr,hc⟩
  ·simp only [Oper.wp,hr,Oper.upon];exact h w' (hS' a hS)
  ·simp only [Oper.wp,hr,Oper.upon];refine Calls.mono hc fun e w'' he=> ?_;obtain ⟨rfl,hS'⟩:=he;exact h w'' (hS' a hS)
 ·simp only [hw,Bool.false_eq_true,if_false];exact h w hS
theorem YieldsB.of_same {o:Oper} {v:Value} {a a':Act} (hy:YieldsB P ops S o v a) (he:execOp a'.eval o=execOp a.eval o)
  (hw:Region.wanted o (yielded ops a'.tmps)=Region.wanted o (yielded ops a.tmps)):YieldsB P ops S o v a':=by
 unfold YieldsB at*;rw [he,hw];exact hy
theorem wpOp_putB {j:Nat} {oi oj:Oper} {v:Value} (hj:ops[j]? =some oj) (hap:oi.apart ops oj=true)
  (hsi:∀cs b,oi.op≠ .select cs b) (hsj:∀cs b,oj.op≠ .select cs b)
  (hQ:∀c a w,Q (.panic c) (a.put oi.dst v) w→Q (.panic c) a w) {K:Act→World→Prop} {a:Act} {w:World}
  (hy:YieldsB P ops S oi v a) (h:wpOp P ops Q j K (a.put oi.dst v) w):
  wpOp P ops Q j (fun a' w'=>YieldsB P ops S oi v a'∧K (a'.put oi.dst v) w') a w:=by
 obtain ⟨h1,h2,h3⟩:=Oper.apart_spec hap;have keep:∀(a:Act),YieldsB P ops S oi v a→∀u,YieldsB P ops S oi v (a.put oj.dst u):=fun a hy u=>
  hy.of_same (execOp_put oi hsi a oj.dst u h3) (wanted_put oi a oj.dst u h3)
 have keepD:∀d,YieldsB P ops S oi v {a with defers:=d::a.defers}:=fun d=>hy.of_same rfl rfl;unfold wpOp at*;simp only [hj] at*;rw [wanted_put oj a oi.dst v h1] at h;split
 ·rename_i hw
  simp only [hw,if_true] at h;rcases h with h|⟨hasks,hlets⟩
  case inr=>exact .inr ⟨by unfold Oper.asks at*;rw [execOp_put oj hsj a oi.dst v h1] at hasks;exact hasks,hlets⟩
  refine .inl ?_;unfold Oper.wp at*;rw [execOp_put oj hsj a oi.dst v h1] at h;generalize (execOp a.eval oj).run P w=r at*;cases r with
  | ok n w'=>
   cases n<;>simp only [Oper.upon] at h ⊢
   case value u=>exact ⟨keep a hy u,by rw [← Act.put_comm a v u h2];exact h⟩
   case skip=>exact ⟨keep a hy _,by rw [← Act.put_comm a v undef h2];exact h⟩
   case defer d=>
    refine ⟨keep _ (keepD d) _,?_⟩;rw [← Act.put_comm _ v undef h2,← Act.put_defers];exact h
   case enter f args=>
    refine Calls.mono h fun e w'' he=> ?_;cases e with
    | returned u=>exact ⟨keep a hy u,by rw [← Act.put_comm a v u h2];exact he⟩
    | panicked c=>exact hQ _ _ _ he
    | outgrown=>exact he
   case row row args=>exact Rows.mono h fun u w'' he=>⟨keep a hy u,by rw [← Act.put_comm a v u h2];exact he⟩
  | halt x w'=>
   cases x<;>simp only [Oper.upon] at h ⊢
   case panic u=>exact hQ _ _ _ h
 ·rename_i hw
  simp only [hw] at h;exact ⟨keep a hy _,by rw [← Act.put_comm a v undef h2];exact h⟩
def wpAnyB (P:Program) (md:Region.Mode) (ops:Array Oper) (Q:Exit→Act→World→Prop) (S:Act→World→Prop) (T:Nat→Bool):Nat→Array Bool→Act→Prop
 | 0,listed,a=>Region.ready md ops listed= []∧∀w,S a w→Q .normal a w
 | fuel+1,listed,a=>
  (Region.ready md ops listed= []→∀w,S a w→Q .normal a w)∧
  ∀i∈Region.ready md ops listed,∀w,S a w→wpOp P ops Q i (fun a' w'=>if T i=true then wpAny P md ops Q fuel (listed.setIfInBounds i true) a' w' else S a' w'∧wpAnyB P md ops Q S T fuel (listed.setIfInBounds i true) a') a w
theorem wpAny_of_born:∀(fuel:Nat) (listed:Array Bool) (a:Act) (w:World),S a w→wpAnyB P md ops Q S T fuel listed a→wpAny P md ops Q fuel listed a w
 | 0,_,_,w,hS,h=>⟨h.1,h.2 w hS⟩
 | fuel+1,_,_,w,hS,h=>⟨fun hr=>h.1 hr w hS,fun i hi=>wpOp_mono (fun a' w' h'=>by
   split at h'
   ·exact h'
   ·exact wpAny_of_born fuel _ a' w' h'.1 h'.2) (h.2 i hi w hS)⟩
theorem wpAnyB_firstW {i:Nat} {oi:Oper} {v:Value} (hi:ops[i]? =some oi) (hsel:∀(j:Nat) (o:Oper) cs b,ops[j]? =some o→o.op≠ .select cs b)
  (hQ:∀c a w,Q (.panic c) (a.put oi.dst v) w→Q (.panic c) a w) (hT:T i=false) (hSp:∀(a:Act) v w,S (a.put oi.dst v) w↔S a w):
  ∀(fuel:Nat) (listed:Array Bool) (a:Act),
   (∀j oj,ops[j]? =some oj→j≠i→listed.getD j true=false→(∀e∈oj.after,Region.binds md e=true→e.on≠i)→oi.apart ops oj=true)→
   i∈Region.ready md ops listed→Yields P ops oi v a→
   wpAnyB P md ops Q S T fuel (listed.setIfInBounds i true) (a.put oi.dst v)→wpAnyB P md ops Q S T (fuel+1) listed a:=by
 intro fuel;induction fuel with
 | zero=>
  intro listed a _ hr hy H;refine ⟨fun h=>(by rw [h] at hr;cases hr),fun j hj w hS=> ?_⟩;by_cases hji:j=i
  ·subst hji;exact hy.wpOp hi (by rw [if_neg (by simp [hT])];exact ⟨(hSp _ _ _).2 hS,H⟩)
  ·have:=ready_mono hj hji;rw [H.1] at this;cases this
 | succ fuel ih=>
  intro listed a hfree hr hy H;refine ⟨fun h=>(by rw [h] at hr;cases hr),fun j hj w hS=> ?_⟩;by_cases hji:j=i
  ·subst hji;exact hy.wpOp hi (by rw [if_neg (by simp [hT])];exact ⟨(hSp _ _ _).2 hS,H⟩)
  ·have h1:=H.2 j (ready_mono hj hji) w ((hSp _ _ _).2 hS);obtain ⟨hjun,oj,hoj,hall⟩:=mem_ready.1 hj;have hnot:∀e∈oj.after,Region.binds md e=true→e.on≠i:=fun e he hb heq=>by
    have h1:=hall e he hb;have h0:=(mem_ready.1 hr).1;rw [heq] at h1;rcases Nat.lt_or_ge i listed.size with h'|h'
    ·simp [h'] at h0 h1;rw [h0] at h1;cases h1
    ·simp [Array.getElem?_eq_none h'] at h1
   have h2:=wpOp_put hoj (hfree j oj hoj hji hjun hnot) (fun cs b=>hsel i oi cs b hi) (fun cs b=>hsel j oj cs b hoj) hQ hy h1;have hfree':∀k ok,ops[k]? =some ok→k≠i→(listed.setIfInBounds j true).getD k true=false→
     (∀e∈ok.after,Region.binds md e=true→e.on≠i)→oi.apart ops ok=true:=fun k ok hk hki hun hno=>by
    refine hfree k ok hk hki ?_ hno;by_cases hjk:j=k
    ·subst hjk;exact hjun
    ·rw [getD_set_ne true hjk] at hun;exact hun
   refine wpOp_mono (fun a' w' h3=> ?_) h2;obtain ⟨h4,h5⟩:=h3;split at h5
   ·rename_i hTj
    rw [if_pos hTj];refine wpAny_first hi hsel hQ fuel (listed.setIfInBounds j true) a' w' hfree' (ready_mono hr (Ne.symm hji)) h4 ?_;rw [Array.setIfInBounds_comm _ _ hji];exact h5
   ·rename_i hTj
    rw [if_neg hTj];refine ⟨(hSp _ _ _).1 h5.1,ih (listed.setIfInBounds j true) a' hfree' (ready_mono hr (Ne.symm hji)) h4 ?_⟩;rw [Array.setIfInBounds_comm _ _ hji];exact h5.2
theorem wpAnyB_firstS {i:Nat} {oi:Oper} {v:Value} (hi:ops[i]? =some oi) (hsel:∀(j:Nat) (o:Oper) cs b,ops[j]? =some o→o.op≠ .select cs b)
  (hQ:∀c a w,Q (.panic c) (a.put oi.dst v) w→Q (.panic c) a w) (hT:T i=false) (hSp:∀(a:Act) v w,S (a.put oi.dst v) w↔S a w) (f:Nat) (hR:∀t,T t=true→reach md ops f t i=true):
  ∀(fuel:Nat) (listed:Array Bool) (a:Act),Closed md ops listed→
   (∀j oj,ops[j]? =some oj→j≠i→listed.getD j true=false→(∀e∈oj.after,Region.binds md e=true→e.on≠i)→oi.apart ops oj=true)→
   i∈Region.ready md ops listed→YieldsB P ops S oi v a→
   wpAnyB P md ops Q S T fuel (listed.setIfInBounds i true) (a.put oi.dst v)→wpAnyB P md ops Q S T (fuel+1) listed a:=by
 intro fuel;induction fuel with
 | zero=>
  intro listed a _ _ hr hy H;refine ⟨fun h=>(by rw [h] at hr;cases hr),fun j hj w hS=> ?_⟩;by_cases hji:j=i
  ·subst hji;exact hy.wpOp hi hS (fun w' hS'=>by rw [if_neg (by simp [hT])];exact ⟨(hSp _ _ _).2 hS',H⟩)
  ·have:=ready_mono hj hji;rw [H.1] at this;cases this
 | succ fuel ih=>
  intro listed a hcl hfree hr hy H;refine ⟨fun h=>(by rw [h] at hr;cases hr),fun j hj w hS=> ?_⟩;by_cases hji:j=i
  ·subst hji;exact hy.wpOp hi hS (fun w' hS'=>by rw [if_neg (by simp [hT])];exact ⟨(hSp _ _ _).2 hS',H⟩)
  ·have h1:=H.2 j (ready_mono hj hji) w ((hSp _ _ _).2 hS);obtain ⟨hjun,oj,hoj,hall⟩:=mem_ready.1 hj;have hTj:¬T j=true:=fun hTj=>by
    have h3:=reach_listed hcl f j i (fun o ho e he hb=>by rw [hoj] at ho;cases ho;exact hall e he hb) (hR j hTj);have h0:=(mem_ready.1 hr).1;rcases Nat.lt_or_ge i listed.size with h'|h'
    ·simp [h'] at h0 h3;rw [h0] at h3;cases h3
    ·simp [Array.getElem?_eq_none h'] at h3
   have hnot:∀e∈oj.after,Region.binds md e=true→e.on≠i:=fun e he hb heq=>by
    have h1:=hall e he hb;have h0:=(mem_ready.1 hr).1;rw [heq] at h1;rcases Nat.lt_or_ge i listed.size with h'|h'
    ·simp [h'] at h0 h1;rw [h0] at h1;cases h1
    ·simp [Array.getElem?_eq_none h'] at h1
   have h2:=wpOp_putB hoj (hfree j oj hoj hji hjun hnot) (fun cs b=>hsel i oi cs b hi) (fun cs b=>hsel j oj cs b hoj) hQ hy h1;have hfree':∀k ok,ops[k]? =some ok→k≠i→(listed.setIfInBounds j true).getD k true=false→
     (∀e∈ok.after,Region.binds md e=true→e.on≠i)→oi.apart ops ok=true:=fun k ok hk hki hun hno=>by
    refine hfree k ok hk hki ?_ hno;by_cases hjk:j=k
    ·subst hjk;exact hjun
    ·rw [getD_set_ne true hjk] at hun;exact hun
   refine wpOp_mono (fun a' w' h3=> ?_) h2;obtain ⟨h4,h5⟩:=h3;rw [if_neg hTj] at h5 ⊢;refine ⟨(hSp _ _ _).1 h5.1,ih (listed.setIfInBounds j true) a' (hcl.set hj) hfree' (ready_mono hr (Ne.symm hji)) h4 ?_⟩;rw [Array.setIfInBounds_comm _ _ hji];exact h5.2
def bornEnd (P:Program) (ops:Array Oper) (Q:Exit→Act→World→Prop) (S:Act→World→Prop) (k:Nat) (L2:List Nat) (a:Act):Prop:=
 ∀w,S a w→wpOp P ops Q k (fun a' w'=>S a' w'∧∀w'',S a' w''→wpList P ops Q (L2.filterMap fun i=>ops[i]?) a' w'') a w
def seqB (P:Program) (md:Region.Mode) (ops:Array Oper) (Q:Exit→Act→World→Prop) (S:Act→World→Prop) (k:Nat) (L2:List Nat):List Nat→Act→Prop
 | [],a=>bornEnd P ops Q S k L2 a
 | i::r,a=>∃o v,ops[i]? =some o∧(∀(a:Act) v w,S (a.put o.dst v) w↔S a w)∧(Yields P ops o v a∨(rch md ops L2 i=true∧YieldsB P ops S o v a))∧seqB P md ops Q S k L2 r (a.put o.dst v)
theorem wpAnyB_nil (L2:List Nat) (fuel:Nat) (listed:Array Bool) (a:Act) (hl:L2.length=fuel) (hok:okP2 md ops listed L2=true) (h:∀w,S a w→wpList P ops Q (L2.filterMap fun i=>ops[i]?) a w):wpAnyB P md ops Q S (fun i=>L2.contains i) fuel listed a:=by
 have hx:∀w,S a w→wpAny P md ops Q fuel listed a w:=fun w hS=>wpAny_list L2 fuel listed a w hl hok (h w hS);cases fuel with
 | zero=>
  have hl2:L2= []:=by simpa using hl
  subst hl2;exact ⟨by simpa [okP2] using hok,fun w hS=>(hx w hS).2⟩
 | succ f=>
  refine ⟨fun hr w hS=>(hx w hS).1 hr,fun i hi w hS=>wpOp_mono (fun a' w' h'=> ?_) ((hx w hS).2 i hi)⟩;cases L2 with
  | nil=>simp at hl
  | cons t r=>
   unfold okP2 at hok;rw [Bool.and_eq_true] at hok;rw [eq_of_beq hok.1,List.mem_singleton] at hi;rw [if_pos (by simp [hi])];exact h'
theorem wpAnyB_seq (hs:Region.noSelect ops=true) (hQ:∀c (a:Act) d v w,Q (.panic c) (a.put d v) w→Q (.panic c) a w) (k:Nat) (L2:List Nat) (hk:L2.contains k=false):
  ∀(L1:List Nat) (fuel:Nat) (listed:Array Bool) (a:Act),L1.length+(L2.length+1)=fuel→Closed md ops listed→okP1 md ops (k::L2) listed L1=true→seqB P md ops Q S k L2 L1 a→wpAnyB P md ops Q S (fun i=>L2.contains i) fuel listed a:=by
 intro L1;induction L1 with
 | nil=>
  intro fuel listed a hl hcl hok h;obtain rfl:fuel=L2.length+1:=by simpa using hl.symm
  unfold okP1 okP2 at hok;rw [Bool.and_eq_true] at hok;have hrd:=eq_of_beq hok.1;refine ⟨fun h0=>(by rw [hrd] at h0;cases h0),fun i hi w hS=> ?_⟩;rw [hrd,List.mem_singleton] at hi;subst hi;refine wpOp_mono (fun a' w' h'=> ?_) (h w hS);rw [if_neg (by simp only [hk];decide)];exact ⟨h'.1,wpAnyB_nil L2 _ _ a' rfl hok.2 h'.2⟩
 | cons i r ih=>
  intro fuel listed a hl hcl hok h;obtain ⟨f,rfl⟩:∃f,fuel=f+1:=⟨r.length+(L2.length+1),by simp at hl;omega⟩
  unfold okP1 at hok;simp only [Bool.and_eq_true,Bool.not_eq_true'] at hok;obtain ⟨⟨⟨h1,h2⟩,h3⟩,h4⟩:=hok;have hr:i∈Region.ready md ops listed:=by simpa using h1
  have h3':L2.contains i=false:=by
   rw [List.contains_cons,Bool.or_eq_false_iff] at h3;exact h3.2
  obtain ⟨o,v,hi,hSp,hy,h⟩:=h;have hrest:=ih f (listed.setIfInBounds i true) (a.put o.dst v) (by simp at hl;omega) (hcl.set hr) h4 h;rcases hy with hy|⟨hrc,hy⟩
  ·exact wpAnyB_firstW hi (Region.noSelect_spec hs) (fun c a w h=>hQ c a _ _ w h) h3' hSp f listed a (Region.free_spec hi h2) hr hy hrest
  ·refine wpAnyB_firstS hi (Region.noSelect_spec hs) (fun c a w h=>hQ c a _ _ w h) h3' hSp ops.size (fun t ht=> ?_) f listed a hcl (Region.free_spec hi h2) hr hy hrest;unfold rch at hrc;rw [List.all_eq_true] at hrc;exact hrc t (by simpa using ht)
def seqXB (P:Program) (md:Region.Mode) (ops:Array Oper) (Q:Exit→Act→World→Prop) (S:Act→World→Prop) (k:Nat) (L2:List Nat):Nat→List Oper→Act→Prop
 | _, [],a=>bornEnd P ops Q S k L2 a
 | j,o::rest,a=>if (k::L2).contains j=true then seqXB P md ops Q S k L2 (j+1) rest a else ∃v,(∀(a:Act) v w,S (a.put o.dst v) w↔S a w)∧(Yields P ops o v a∨(rch md ops L2 j=true∧YieldsB P ops S o v a))∧seqXB P md ops Q S k L2 (j+1) rest (a.put o.dst v)
theorem seqB_of_text {k:Nat} {L2:List Nat}:∀(r j:Nat) (a:Act),j+r=ops.size→seqXB P md ops Q S k L2 j (ops.toList.drop j) a→seqB P md ops Q S k L2 ((List.range' j r).filter fun i=> !(k::L2).contains i) a
 | 0,j,a,hj,h=>by
  obtain rfl:j=ops.size:=by omega
  rw [List.drop_eq_nil_of_le (by simp)] at h;exact h
 | r+1,j,a,hj,h=>by
  have hlt:j<ops.toList.length:=by simp;omega
  have hi:ops[j]? =some (ops.toList[j]):=by rw [← Array.getElem?_toList];exact List.getElem?_eq_getElem hlt
  rw [List.drop_eq_getElem_cons hlt] at h;unfold seqXB at h;rw [List.range'_succ,List.filter_cons];split at h
  ·rename_i hc
   rw [if_neg (by simp only [hc];decide)];exact seqB_of_text r (j+1) a (by omega) h
  ·rename_i hc
   rw [if_pos (by simpa using hc)];obtain ⟨v,hSp,hy,h⟩:=h;exact ⟨_,v,hi,hSp,hy,seqB_of_text r (j+1) _ (by omega) h⟩
theorem wp_region_born {id:Nat} {a:Act} {w:World} (hm:P.follows .mixedOrders=true) (S:Act→World→Prop) (k:Nat) (L2:List Nat) (hs:Region.noSelect ops=true) (hk:L2.contains k=false)
  (hlen:(((List.range' 0 ops.size).filter fun i=> !(k::L2).contains i).length+(L2.length+1)==ops.size)=true) (hf:okP1 .any ops (k::L2) (Array.replicate ops.size false) ((List.range' 0 ops.size).filter fun i=> !(k::L2).contains i)=true)
  (hQ:∀c (a:Act) d v w,Q (.panic c) (a.put d v) w→Q (.panic c) a w) (hS:S a w.drew)
  (h:seqXB P .any ops Q S k L2 0 ops.toList a):(Code.region id ops true).wp P Q a w:=by
 refine wp_region_any hm ?_;refine wpAny_of_born _ _ _ _ hS (wpAnyB_seq hs hQ k L2 hk _ ops.size _ a (eq_of_beq hlen) (fun j o hj hl=> ?_) hf (seqB_of_text ops.size 0 a (by omega) (by simpa using h)));rw [Array.getD_eq_getD_getElem?,Array.getElem?_replicate] at hl;split at hl<;>cases hl
end
end Go.Proofs.YtlcojhddnpmgmaaGreat
