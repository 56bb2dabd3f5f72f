/- Part of the proof; the last text says what is proved. -/
import Derived.Test.YtlcojhddnpmgmaaGreatW05
set_option linter.unusedSimpArgs false
set_option linter.unusedVariables false
set_option maxRecDepth 100000
set_option maxHeartbeats 12800000
namespace Go.Proofs.YtlcojhddnpmgmaaGreat
open Go.RowKit
structure Dl where
 k:Int
 i:Int
 b:Int
 s:Int
 t:Pt
 o:Pt
deriving DecidableEq,Inhabited
def dlC (d:Dl):List Value:= [.int .i64 d.k,.int .i64 d.i,.int .i64 d.b,.int .i64 d.s,.int .i64 d.t.c,.int .i64 d.t.l,.int .i64 d.t.n,.int .i64 d.t.a,.int .i64 d.t.z,.int .i64 d.o.c,.int .i64 d.o.l,.int .i64 d.o.n,.int .i64 d.o.a,.int .i64 d.o.z]
def dlV (d:Dl):Value:=.agg #[.int .i64 d.k,.int .i64 d.i,.int .i64 d.b,.int .i64 d.s,.int .i64 d.t.c,.int .i64 d.t.l,.int .i64 d.t.n,.int .i64 d.t.a,.int .i64 d.t.z,.int .i64 d.o.c,.int .i64 d.o.l,.int .i64 d.o.n,.int .i64 d.o.a,.int .i64 d.o.z]
def mayDl (d:Dl):Prop:=2≤d.i∧d.i≤128∧0≤d.b∧d.b<64∧0≤d.s∧d.s≤4096∧mayPt d.t∧mayPt d.o∧
 ((d.k=1∧d.o=noPt)∨(d.k=2∧d.o=noPt∧d.t=noPt∧d.b=0)∨(d.k=3∧d.s=0))
instance (d:Dl):Decidable (mayDl d):=by unfold mayDl;infer_instance
def canDl (m:FMap) (d:Dl):Prop:=(d.k=1∧d.b*64<d.s)∨d.k=2∨(d.k=3∧d.b<m.l.length∧d.o≠noPt∧atOf m d.b=d.o∧d.t≠noPt∧d.t.z=d.o.z)
instance (m:FMap) (d:Dl):Decidable (canDl m d):=by unfold canDl;infer_instance
def DlAt (w:World) (b:Nat) (d:Dl):Prop:=w.heap[b]? =some (.cells (dlC d).toArray 61 (0,0))
theorem DlAt.fr {w w':World} {b:Nat} {d:Dl} (h:DlAt w b d) (f:Fr No w w'):DlAt w' b d:=f.block_of h id
theorem DlAt.cells {w:World} {b:Nat} {d:Dl} (h:DlAt w b d):w.cell? ⟨b,0,none⟩=some (.int .i64 d.k)∧w.cell? ⟨b,1,none⟩=some (.int .i64 d.i)∧w.cell? ⟨b,2,none⟩=some (.int .i64 d.b)∧w.cell? ⟨b,3,none⟩=some (.int .i64 d.s)∧
  w.cell? ⟨b,4,none⟩=some (.int .i64 d.t.c)∧w.cell? ⟨b,5,none⟩=some (.int .i64 d.t.l)∧w.cell? ⟨b,6,none⟩=some (.int .i64 d.t.n)∧w.cell? ⟨b,7,none⟩=some (.int .i64 d.t.a)∧w.cell? ⟨b,8,none⟩=some (.int .i64 d.t.z)∧
  w.cell? ⟨b,9,none⟩=some (.int .i64 d.o.c)∧w.cell? ⟨b,10,none⟩=some (.int .i64 d.o.l)∧w.cell? ⟨b,11,none⟩=some (.int .i64 d.o.n)∧w.cell? ⟨b,12,none⟩=some (.int .i64 d.o.a)∧w.cell? ⟨b,13,none⟩=some (.int .i64 d.o.z):=by
 refine ⟨?_,?_,?_,?_,?_,?_,?_,?_,?_,?_,?_,?_,?_,?_⟩<;>(rw [cell_at h];rfl)
def CanPost (w:World) (b:Bool) (e:Ending) (w':World):Prop:=e=.returned (.bool b)∧Fr No w w'
theorem can_put (p:Nat) (m:FMap) (d:Dl) (w:World) (hd:mayDl d) (hk:d.k=1):Calls Tryz.prog 142 #[.pointer (some ⟨p,0,none⟩),dlV d] w (CanPost w (decide (d.b*64<d.s))):=by
 have f0:Fr No w (w.alloc (.cells (dlC d).toArray 61)):=(Fr.refl w).alloc _;have k0:DlAt (w.alloc (.cells (dlC d).toArray 61)) w.heap.size d:=new_at w _;obtain ⟨h1,h2,h3,h4,h5,h6,h7,h8,h9⟩:=hd;have HM:=lH (bmay_ d.t (w.alloc (.cells (dlC d).toArray 61)));have H7:Hid (decide (mayPt d.t)=true):=lH (by rw [decide_eq_true_eq];exact h7);have F0:=lH f0;unfold ptV dlC at HM;unfold dlV;unfold dlC at F0;obtain ⟨p0,p1,p2,p3,p4,p5,p6,p7,p8,p9,p10,p11,p12,p13⟩:=k0.cells;unfold MayPost at HM;rw [H7.out] at HM;by_cases hlt:d.b*64<d.s
 ·have e:decide (d.b*64<d.s)=true:=by simpa using hlt
  rw [e];have HR:Hid (∀e w',e=.returned (.bool true)→Fr No w w'→CanPost w true e w'):=lH (fun e w' a b=>⟨a,b⟩);generalize CanPost w true=Q at*;clear f0 k0 h7 h8 h9 e p0 p1 p2 p3 p4 p5 p6 p7 p8 p9 p10 p11 p12 p13;rw [hk] at*;go_enter Tryz.func142,Tryz.ntmps142;go_wp2_with fail;refine HM.out.mono ?_;rintro e w1 ⟨rfl,f1⟩;go_wp2_with fail;exact HR.out _ _ rfl (F0.out.trans f1 (fun _ _ e=>e))
 ·have e:decide (d.b*64<d.s)=false:=by simpa using hlt
  rw [e];have HR:Hid (∀e w',e=.returned (.bool false)→Fr No w w'→CanPost w false e w'):=lH (fun e w' a b=>⟨a,b⟩);generalize CanPost w false=Q at*;clear f0 k0 h7 h8 h9 e p0 p1 p2 p3 p4 p5 p6 p7 p8 p9 p10 p11 p12 p13 HM;rw [hk] at*;go_enter Tryz.func142,Tryz.ntmps142;go_wp2_with fail;exact HR.out _ _ rfl F0.out
theorem can_cut (p:Nat) (d:Dl) (w:World) (hd:mayDl d) (hk:d.k=2):Calls Tryz.prog 142 #[.pointer (some ⟨p,0,none⟩),dlV d] w (CanPost w true):=by
 have f0:Fr No w (w.alloc (.cells (dlC d).toArray 61)):=(Fr.refl w).alloc _;obtain ⟨h1,h2,h3,h4,h5,h6,h7,h8,h9⟩:=hd;have HM:=lH (within_ d.s 4096 (w.alloc (.cells (dlC d).toArray 61)));have e:(decide (0≤d.s)&&decide (d.s≤4096))=true:=by simp [h5,h6]
 rw [e] at HM;have F0:=lH f0;unfold dlC at HM F0;unfold dlV;have HR:Hid (∀e w',e=.returned (.bool true)→Fr No w w'→CanPost w true e w'):=lH (fun e w' a b=>⟨a,b⟩);generalize CanPost w true=Q at*;clear f0 h7 h8 h9 e;rw [hk] at*;go_enter Tryz.func142,Tryz.ntmps142;go_wp2_with fail;refine HM.out.mono ?_;rintro e w1 ⟨rfl,rfl⟩;go_wp2_with fail;exact HR.out _ _ rfl F0.out
theorem can_move (p:Nat) (m:FMap) (d:Dl) (w:World) (h:FileR w p m) (hl:m.l.length≤1000) (hd:mayDl d) (hk:d.k=3):
  Calls Tryz.prog 142 #[.pointer (some ⟨p,0,none⟩),dlV d] w (CanPost w (decide (canDl m d))):=by
 have f0:Fr No w (w.alloc (.cells (dlC d).toArray 61)):=(Fr.refl w).alloc _;have k0:DlAt (w.alloc (.cells (dlC d).toArray 61)) w.heap.size d:=new_at w _;obtain ⟨h1,h2,h3,h4,h5,h6,h7,h8,h9⟩:=hd;have H7:decide (mayPt d.t)=true:=by rw [decide_eq_true_eq];exact h7
 have HB:Hid (decide (canDl m d)=(decide (d.b<m.l.length)&&(!decide (d.o=noPt))&&decide (atOf m d.b=d.o)&&(!decide (d.t=noPt))&&(d.t.z==d.o.z))):=lH (by
  have hiff:canDl m d↔d.b<m.l.length∧d.o≠noPt∧atOf m d.b=d.o∧d.t≠noPt∧d.t.z=d.o.z:=by
   unfold canDl;rw [hk];simp
  rw [Bool.eq_iff_iff,decide_eq_true_eq,hiff];simp [and_assoc])
 have HC:Hid (∀W,Fr No w W→Calls Tryz.prog 35 #[.pointer (some ⟨p,0,none⟩)] W fun e w'=>e=.returned (.int .i64 m.l.length)∧w'=W):=lH (fun W f=>fcount_ p m W (h.fr f));have HA:Hid (∀W,Fr No w W→Calls Tryz.prog 36 #[.pointer (some ⟨p,0,none⟩),.int .i64 d.b] W (AtPost W (atOf m d.b))):=lH (fun W f=>fat_ p m d.b W (h.fr f));have HZo:Hid (∀W,Calls Tryz.prog 71 #[ptV d.o] W fun e w'=>e=.returned (.bool (decide (d.o=noPt)))∧Fr No W w'):=lH (fun W=>zero_ 71 (.inl rfl) d.o W);have HZt:Hid (∀W,Calls Tryz.prog 71 #[ptV d.t] W fun e w'=>e=.returned (.bool (decide (d.t=noPt)))∧Fr No W w'):=lH (fun W=>zero_ 71 (.inl rfl) d.t W);have HM:Hid (∀W,Calls Tryz.prog 140 #[ptV d.t] W fun e w'=>e=.returned (.bool true)∧Fr No W w'):=lH (fun W=>by
  have:=bmay_ d.t W;unfold MayPost at this;rw [H7] at this;exact this)
 have hE:=fun w=>eql59 (atOf m d.b).c (atOf m d.b).l (atOf m d.b).n (atOf m d.b).a (atOf m d.b).z d.o.c d.o.l d.o.n d.o.a d.o.z w;have hEE:decide ((⟨(atOf m d.b).c,(atOf m d.b).l,(atOf m d.b).n,(atOf m d.b).a,(atOf m d.b).z⟩:Pt)=⟨d.o.c,d.o.l,d.o.n,d.o.a,d.o.z⟩)=decide (atOf m d.b=d.o):=rfl;simp only [hEE] at hE;clear hEE;have HR:Hid (∀b e w',decide (canDl m d)=b→e=.returned (.bool b)→Fr No w w'→CanPost w (decide (canDl m d)) e w'):=lH (fun b e w' h a f=>by subst h;exact ⟨a,f⟩);generalize CanPost w (decide (canDl m d))=Q at*;unfold AtPost at HA;generalize atOf m d.b=at_ at*;generalize hb3:decide (d.o=noPt)=b3 at*;generalize hb4:decide (at_=d.o)=b4 at*;generalize hb5:decide (d.t=noPt)=b5 at*;generalize hb7:(d.t.z==d.o.z)=b7 at*;have F0:=lH f0;have HCE:Hid (∀W,Fr No (w.alloc (.cells (dlC d).toArray 61)) W→_):=lH (fun W f=>(k0.fr f).cells);unfold ptV at*;unfold dlV;unfold dlC at F0 HCE;have mixed:Tryz.prog.follows .mixedOrders=true:=by kernel_rfl
 clear hb3 hb4 hb5 f0 k0 h h7 h8 h9 H7 h1 h2 h5 h6;rw [hk] at*;generalize hwA:w.alloc (.cells #[.int .i64 3,.int .i64 d.i,.int .i64 d.b,.int .i64 d.s,.int .i64 d.t.c,.int .i64 d.t.l,.int .i64 d.t.n,.int .i64 d.t.a,.int .i64 d.t.z,.int .i64 d.o.c,.int .i64 d.o.l,.int .i64 d.o.n,.int .i64 d.o.a,.int .i64 d.o.z] 61)=wA at*;obtain ⟨p0,p1,p2,p3,p4,p5,p6,p7,p8,p9,p10,p11,p12,p13⟩:=HCE.out wA (Fr.refl _);by_cases hb2:d.b<m.l.length
 ·have q2:(decide (d.b<(m.l.length:Int)))=true:=by simpa using hb2
  cases b3 with
  | true=>
   have HV:Hid (decide (canDl m d)=false):=lH (by rw [HB.out];simp);clear hb2;go_enter Tryz.func142,Tryz.ntmps142;go_wp2_with fail;refine wp_region_seq mixed (fun W=>(W.cell? ⟨w.heap.size,0,none⟩=some (.int .i64 3)∧W.cell? ⟨w.heap.size,1,none⟩=some (.int .i64 d.i)∧W.cell? ⟨w.heap.size,2,none⟩=some (.int .i64 d.b)∧W.cell? ⟨w.heap.size,3,none⟩=some (.int .i64 d.s)∧
    W.cell? ⟨w.heap.size,4,none⟩=some (.int .i64 d.t.c)∧W.cell? ⟨w.heap.size,5,none⟩=some (.int .i64 d.t.l)∧W.cell? ⟨w.heap.size,6,none⟩=some (.int .i64 d.t.n)∧W.cell? ⟨w.heap.size,7,none⟩=some (.int .i64 d.t.a)∧W.cell? ⟨w.heap.size,8,none⟩=some (.int .i64 d.t.z)∧
    W.cell? ⟨w.heap.size,9,none⟩=some (.int .i64 d.o.c)∧W.cell? ⟨w.heap.size,10,none⟩=some (.int .i64 d.o.l)∧W.cell? ⟨w.heap.size,11,none⟩=some (.int .i64 d.o.n)∧W.cell? ⟨w.heap.size,12,none⟩=some (.int .i64 d.o.a)∧W.cell? ⟨w.heap.size,13,none⟩=some (.int .i64 d.o.z))∧Hid (Fr No wA W)) (by kernel_rfl) (by kernel_rfl) (fun _ _ d _ _ h=>by cases d<;>exact h) ⟨⟨p0,p1,p2,p3,p4,p5,p6,p7,p8,p9,p10,p11,p12,p13⟩,lH (fr_dr (Fr.refl wA))⟩ ?_
   clear p0 p1 p2 p3 p4 p5 p6 p7 p8 p9 p10 p11 p12 p13;repeat (first
    | (refine seqA_no (by rfl) ?_;simp only [Act.put,lsA,lsZ,lsS])
    | (refine seqA_val (v:= ?_) (by rfl) ?_ ?_
       rotate_left 1
       (intro W hS;obtain ⟨⟨p0,p1,p2,p3,p4,p5,p6,p7,p8,p9,p10,p11,p12,p13⟩,_⟩:=hS;go_simp;(try with_reducible rfl))
       simp only [Act.put,lsA,lsZ,lsS]))
   refine seqA_call (v:=.int .i64 m.l.length) 35 #[.pointer (some ⟨p,0,none⟩)] (by rfl) (fun W=>by go_simp) (fun W hS=>(HC.out W (F0.out.trans hS.2.out (fun _ _ e=>e))).mono ?_) ?_
   ·rintro e w1 ⟨rfl,rfl⟩;exact ⟨rfl,hS⟩
   simp only [Act.put,lsA,lsZ,lsS];repeat (first
    | (refine seqA_no (by rfl) ?_;simp only [Act.put,lsA,lsZ,lsS])
    | (refine seqA_val (v:= ?_) (by rfl) ?_ ?_
       rotate_left 1
       (intro W hS;obtain ⟨⟨p0,p1,p2,p3,p4,p5,p6,p7,p8,p9,p10,p11,p12,p13⟩,_⟩:=hS;go_simp;(try with_reducible rfl))
       simp only [Act.put,lsA,lsZ,lsS]))
   refine seqA_call (v:=.bool true) 71 #[.agg #[.int .i64 d.o.c,.int .i64 d.o.l,.int .i64 d.o.n,.int .i64 d.o.a,.int .i64 d.o.z]] (by rfl) (fun W=>by go_simp) (fun W hS=>(HZo.out W).mono ?_) ?_
   ·rintro e w1 ⟨rfl,f1⟩;have f2:Fr No wA w1:=hS.2.out.trans f1 (fun _ _ e=>e);exact ⟨rfl,HCE.out w1 f2,lH f2⟩
   simp only [Act.put,lsA,lsZ,lsS];repeat (first
    | (refine seqA_no (by rfl) ?_;simp only [Act.put,lsA,lsZ,lsS])
    | (refine seqA_val (v:= ?_) (by rfl) ?_ ?_
       rotate_left 1
       (intro W hS;obtain ⟨⟨p0,p1,p2,p3,p4,p5,p6,p7,p8,p9,p10,p11,p12,p13⟩,_⟩:=hS;go_simp;(try with_reducible rfl))
       simp only [Act.put,lsA,lsZ,lsS]))
   intro W hS;go_wp2_with fail;exact HR.out false _ _ HV.out rfl (F0.out.trans hS.2.out (fun _ _ e=>e))
  | false=>
   cases b4 with
   | false=>
    have HV:Hid (decide (canDl m d)=false):=lH (by rw [HB.out];simp);clear hb2;go_enter Tryz.func142,Tryz.ntmps142;go_wp2_with fail;refine wp_region_seq mixed (fun W=>(W.cell? ⟨w.heap.size,0,none⟩=some (.int .i64 3)∧W.cell? ⟨w.heap.size,1,none⟩=some (.int .i64 d.i)∧W.cell? ⟨w.heap.size,2,none⟩=some (.int .i64 d.b)∧W.cell? ⟨w.heap.size,3,none⟩=some (.int .i64 d.s)∧
     W.cell? ⟨w.heap.size,4,none⟩=some (.int .i64 d.t.c)∧W.cell? ⟨w.heap.size,5,none⟩=some (.int .i64 d.t.l)∧W.cell? ⟨w.heap.size,6,none⟩=some (.int .i64 d.t.n)∧W.cell? ⟨w.heap.size,7,none⟩=some (.int .i64 d.t.a)∧W.cell? ⟨w.heap.size,8,none⟩=some (.int .i64 d.t.z)∧
     W.cell? ⟨w.heap.size,9,none⟩=some (.int .i64 d.o.c)∧W.cell? ⟨w.heap.size,10,none⟩=some (.int .i64 d.o.l)∧W.cell? ⟨w.heap.size,11,none⟩=some (.int .i64 d.o.n)∧W.cell? ⟨w.heap.size,12,none⟩=some (.int .i64 d.o.a)∧W.cell? ⟨w.heap.size,13,none⟩=some (.int .i64 d.o.z))∧Hid (Fr No wA W)) (by kernel_rfl) (by kernel_rfl) (fun _ _ d _ _ h=>by cases d<;>exact h) ⟨⟨p0,p1,p2,p3,p4,p5,p6,p7,p8,p9,p10,p11,p12,p13⟩,lH (fr_dr (Fr.refl wA))⟩ ?_
    clear p0 p1 p2 p3 p4 p5 p6 p7 p8 p9 p10 p11 p12 p13;repeat (first
     | (refine seqA_no (by rfl) ?_;simp only [Act.put,lsA,lsZ,lsS])
     | (refine seqA_val (v:= ?_) (by rfl) ?_ ?_
        rotate_left 1
        (intro W hS;obtain ⟨⟨p0,p1,p2,p3,p4,p5,p6,p7,p8,p9,p10,p11,p12,p13⟩,_⟩:=hS;go_simp;(try with_reducible rfl))
        simp only [Act.put,lsA,lsZ,lsS]))
    refine seqA_call (v:=.int .i64 m.l.length) 35 #[.pointer (some ⟨p,0,none⟩)] (by rfl) (fun W=>by go_simp) (fun W hS=>(HC.out W (F0.out.trans hS.2.out (fun _ _ e=>e))).mono ?_) ?_
    ·rintro e w1 ⟨rfl,rfl⟩;exact ⟨rfl,hS⟩
    simp only [Act.put,lsA,lsZ,lsS];repeat (first
     | (refine seqA_no (by rfl) ?_;simp only [Act.put,lsA,lsZ,lsS])
     | (refine seqA_val (v:= ?_) (by rfl) ?_ ?_
        rotate_left 1
        (intro W hS;obtain ⟨⟨p0,p1,p2,p3,p4,p5,p6,p7,p8,p9,p10,p11,p12,p13⟩,_⟩:=hS;go_simp;(try with_reducible rfl))
        simp only [Act.put,lsA,lsZ,lsS]))
    refine seqA_call (v:=.bool false) 71 #[.agg #[.int .i64 d.o.c,.int .i64 d.o.l,.int .i64 d.o.n,.int .i64 d.o.a,.int .i64 d.o.z]] (by rfl) (fun W=>by go_simp) (fun W hS=>(HZo.out W).mono ?_) ?_
    ·rintro e w1 ⟨rfl,f1⟩;have f2:Fr No wA w1:=hS.2.out.trans f1 (fun _ _ e=>e);exact ⟨rfl,HCE.out w1 f2,lH f2⟩
    simp only [Act.put,lsA,lsZ,lsS];repeat (first
     | (refine seqA_no (by rfl) ?_;simp only [Act.put,lsA,lsZ,lsS])
     | (refine seqA_val (v:= ?_) (by rfl) ?_ ?_
        rotate_left 1
        (intro W hS;obtain ⟨⟨p0,p1,p2,p3,p4,p5,p6,p7,p8,p9,p10,p11,p12,p13⟩,_⟩:=hS;go_simp;(try with_reducible rfl))
        simp only [Act.put,lsA,lsZ,lsS]))
    refine seqA_call (v:=.agg #[.int .i64 at_.c,.int .i64 at_.l,.int .i64 at_.n,.int .i64 at_.a,.int .i64 at_.z]) 36 #[.pointer (some ⟨p,0,none⟩),.int .i64 d.b] (by rfl) (fun W=>by go_simp) (fun W hS=>(HA.out W (F0.out.trans hS.2.out (fun _ _ e=>e))).mono ?_) ?_
    ·rintro e w1 ⟨rfl,f1⟩;have f2:Fr No wA w1:=hS.2.out.trans f1 (fun _ _ e=>e);exact ⟨rfl,HCE.out w1 f2,lH f2⟩
    simp only [Act.put,lsA,lsZ,lsS];repeat (first
     | (refine seqA_no (by rfl) ?_;simp only [Act.put,lsA,lsZ,lsS])
     | (refine seqA_val (v:= ?_) (by rfl) ?_ ?_
        rotate_left 1
        (intro W hS;obtain ⟨⟨p0,p1,p2,p3,p4,p5,p6,p7,p8,p9,p10,p11,p12,p13⟩,_⟩:=hS;go_simp;(try with_reducible rfl))
        simp only [Act.put,lsA,lsZ,lsS]))
    intro W hS;go_wp2_with fail;exact HR.out false _ _ HV.out rfl (F0.out.trans hS.2.out (fun _ _ e=>e))
   | true=>
    cases b5 with
    | true=>
     have HV:Hid (decide (canDl m d)=false):=lH (by rw [HB.out];simp);clear hb2;go_enter Tryz.func142,Tryz.ntmps142;go_wp2_with fail;refine wp_region_seq mixed (fun W=>(W.cell? ⟨w.heap.size,0,none⟩=some (.int .i64 3)∧W.cell? ⟨w.heap.size,1,none⟩=some (.int .i64 d.i)∧W.cell? ⟨w.heap.size,2,none⟩=some (.int .i64 d.b)∧W.cell? ⟨w.heap.size,3,none⟩=some (.int .i64 d.s)∧
      W.cell? ⟨w.heap.size,4,none⟩=some (.int .i64 d.t.c)∧W.cell? ⟨w.heap.size,5,none⟩=some (.int .i64 d.t.l)∧W.cell? ⟨w.heap.size,6,none⟩=some (.int .i64 d.t.n)∧W.cell? ⟨w.heap.size,7,none⟩=some (.int .i64 d.t.a)∧W.cell? ⟨w.heap.size,8,none⟩=some (.int .i64 d.t.z)∧
      W.cell? ⟨w.heap.size,9,none⟩=some (.int .i64 d.o.c)∧W.cell? ⟨w.heap.size,10,none⟩=some (.int .i64 d.o.l)∧W.cell? ⟨w.heap.size,11,none⟩=some (.int .i64 d.o.n)∧W.cell? ⟨w.heap.size,12,none⟩=some (.int .i64 d.o.a)∧W.cell? ⟨w.heap.size,13,none⟩=some (.int .i64 d.o.z))∧Hid (Fr No wA W)) (by kernel_rfl) (by kernel_rfl) (fun _ _ d _ _ h=>by cases d<;>exact h) ⟨⟨p0,p1,p2,p3,p4,p5,p6,p7,p8,p9,p10,p11,p12,p13⟩,lH (fr_dr (Fr.refl wA))⟩ ?_
     clear p0 p1 p2 p3 p4 p5 p6 p7 p8 p9 p10 p11 p12 p13;repeat (first
      | (refine seqA_no (by rfl) ?_;simp only [Act.put,lsA,lsZ,lsS])
      | (refine seqA_val (v:= ?_) (by rfl) ?_ ?_
         rotate_left 1
         (intro W hS;obtain ⟨⟨p0,p1,p2,p3,p4,p5,p6,p7,p8,p9,p10,p11,p12,p13⟩,_⟩:=hS;go_simp;(try with_reducible rfl))
         simp only [Act.put,lsA,lsZ,lsS]))
     refine seqA_call (v:=.int .i64 m.l.length) 35 #[.pointer (some ⟨p,0,none⟩)] (by rfl) (fun W=>by go_simp) (fun W hS=>(HC.out W (F0.out.trans hS.2.out (fun _ _ e=>e))).mono ?_) ?_
     ·rintro e w1 ⟨rfl,rfl⟩;exact ⟨rfl,hS⟩
     simp only [Act.put,lsA,lsZ,lsS];repeat (first
      | (refine seqA_no (by rfl) ?_;simp only [Act.put,lsA,lsZ,lsS])
      | (refine seqA_val (v:= ?_) (by rfl) ?_ ?_
         rotate_left 1
         (intro W hS;obtain ⟨⟨p0,p1,p2,p3,p4,p5,p6,p7,p8,p9,p10,p11,p12,p13⟩,_⟩:=hS;go_simp;(try with_reducible rfl))
         simp only [Act.put,lsA,lsZ,lsS]))
     refine seqA_call (v:=.bool false) 71 #[.agg #[.int .i64 d.o.c,.int .i64 d.o.l,.int .i64 d.o.n,.int .i64 d.o.a,.int .i64 d.o.z]] (by rfl) (fun W=>by go_simp) (fun W hS=>(HZo.out W).mono ?_) ?_
     ·rintro e w1 ⟨rfl,f1⟩;have f2:Fr No wA w1:=hS.2.out.trans f1 (fun _ _ e=>e);exact ⟨rfl,HCE.out w1 f2,lH f2⟩
     simp only [Act.put,lsA,lsZ,lsS];repeat (first
      | (refine seqA_no (by rfl) ?_;simp only [Act.put,lsA,lsZ,lsS])
      | (refine seqA_val (v:= ?_) (by rfl) ?_ ?_
         rotate_left 1
         (intro W hS;obtain ⟨⟨p0,p1,p2,p3,p4,p5,p6,p7,p8,p9,p10,p11,p12,p13⟩,_⟩:=hS;go_simp;(try with_reducible rfl))
         simp only [Act.put,lsA,lsZ,lsS]))
     refine seqA_call (v:=.agg #[.int .i64 at_.c,.int .i64 at_.l,.int .i64 at_.n,.int .i64 at_.a,.int .i64 at_.z]) 36 #[.pointer (some ⟨p,0,none⟩),.int .i64 d.b] (by rfl) (fun W=>by go_simp) (fun W hS=>(HA.out W (F0.out.trans hS.2.out (fun _ _ e=>e))).mono ?_) ?_
     ·rintro e w1 ⟨rfl,f1⟩;have f2:Fr No wA w1:=hS.2.out.trans f1 (fun _ _ e=>e);exact ⟨rfl,HCE.out w1 f2,lH f2⟩
     simp only [Act.put,lsA,lsZ,lsS];repeat (first
      | (refine seqA_no (by rfl) ?_;simp only [Act.put,lsA,lsZ,lsS])
      | (refine seqA_val (v:= ?_) (by rfl) ?_ ?_
         rotate_left 1
         (intro W hS;obtain ⟨⟨p0,p1,p2,p3,p4,p5,p6,p7,p8,p9,p10,p11,p12,p13⟩,_⟩:=hS;go_simp;(try with_reducible rfl))
         simp only [Act.put,lsA,lsZ,lsS]))
     refine seqA_call (v:=.bool true) 71 #[.agg #[.int .i64 d.t.c,.int .i64 d.t.l,.int .i64 d.t.n,.int .i64 d.t.a,.int .i64 d.t.z]] (by rfl) (fun W=>by go_simp) (fun W hS=>(HZt.out W).mono ?_) ?_
     ·rintro e w1 ⟨rfl,f1⟩;have f2:Fr No wA w1:=hS.2.out.trans f1 (fun _ _ e=>e);exact ⟨rfl,HCE.out w1 f2,lH f2⟩
     simp only [Act.put,lsA,lsZ,lsS];repeat (first
      | (refine seqA_no (by rfl) ?_;simp only [Act.put,lsA,lsZ,lsS])
      | (refine seqA_val (v:= ?_) (by rfl) ?_ ?_
         rotate_left 1
         (intro W hS;obtain ⟨⟨p0,p1,p2,p3,p4,p5,p6,p7,p8,p9,p10,p11,p12,p13⟩,_⟩:=hS;go_simp;(try with_reducible rfl))
         simp only [Act.put,lsA,lsZ,lsS]))
     intro W hS;go_wp2_with fail;exact HR.out false _ _ HV.out rfl (F0.out.trans hS.2.out (fun _ _ e=>e))
    | false=>
     cases b7 with
     | false=>
      have HV:Hid (decide (canDl m d)=false):=lH (by rw [HB.out];simp);clear hb2;go_enter Tryz.func142,Tryz.ntmps142;go_wp2_with fail;refine wp_region_seq mixed (fun W=>(W.cell? ⟨w.heap.size,0,none⟩=some (.int .i64 3)∧W.cell? ⟨w.heap.size,1,none⟩=some (.int .i64 d.i)∧W.cell? ⟨w.heap.size,2,none⟩=some (.int .i64 d.b)∧W.cell? ⟨w.heap.size,3,none⟩=some (.int .i64 d.s)∧
       W.cell? ⟨w.heap.size,4,none⟩=some (.int .i64 d.t.c)∧W.cell? ⟨w.heap.size,5,none⟩=some (.int .i64 d.t.l)∧W.cell? ⟨w.heap.size,6,none⟩=some (.int .i64 d.t.n)∧W.cell? ⟨w.heap.size,7,none⟩=some (.int .i64 d.t.a)∧W.cell? ⟨w.heap.size,8,none⟩=some (.int .i64 d.t.z)∧
       W.cell? ⟨w.heap.size,9,none⟩=some (.int .i64 d.o.c)∧W.cell? ⟨w.heap.size,10,none⟩=some (.int .i64 d.o.l)∧W.cell? ⟨w.heap.size,11,none⟩=some (.int .i64 d.o.n)∧W.cell? ⟨w.heap.size,12,none⟩=some (.int .i64 d.o.a)∧W.cell? ⟨w.heap.size,13,none⟩=some (.int .i64 d.o.z))∧Hid (Fr No wA W)) (by kernel_rfl) (by kernel_rfl) (fun _ _ d _ _ h=>by cases d<;>exact h) ⟨⟨p0,p1,p2,p3,p4,p5,p6,p7,p8,p9,p10,p11,p12,p13⟩,lH (fr_dr (Fr.refl wA))⟩ ?_
      clear p0 p1 p2 p3 p4 p5 p6 p7 p8 p9 p10 p11 p12 p13;repeat (first
       | (refine seqA_no (by rfl) ?_;simp only [Act.put,lsA,lsZ,lsS])
       | (refine seqA_val (v:= ?_) (by rfl) ?_ ?_
          rotate_left 1
          (intro W hS;obtain ⟨⟨p0,p1,p2,p3,p4,p5,p6,p7,p8,p9,p10,p11,p12,p13⟩,_⟩:=hS;go_simp;(try with_reducible rfl))
          simp only [Act.put,lsA,lsZ,lsS]))
      refine seqA_call (v:=.int .i64 m.l.length) 35 #[.pointer (some ⟨p,0,none⟩)] (by rfl) (fun W=>by go_simp) (fun W hS=>(HC.out W (F0.out.trans hS.2.out (fun _ _ e=>e))).mono ?_) ?_
      ·rintro e w1 ⟨rfl,rfl⟩;exact ⟨rfl,hS⟩
      simp only [Act.put,lsA,lsZ,lsS];repeat (first
       | (refine seqA_no (by rfl) ?_;simp only [Act.put,lsA,lsZ,lsS])
       | (refine seqA_val (v:= ?_) (by rfl) ?_ ?_
          rotate_left 1
          (intro W hS;obtain ⟨⟨p0,p1,p2,p3,p4,p5,p6,p7,p8,p9,p10,p11,p12,p13⟩,_⟩:=hS;go_simp;(try with_reducible rfl))
          simp only [Act.put,lsA,lsZ,lsS]))
      refine seqA_call (v:=.bool false) 71 #[.agg #[.int .i64 d.o.c,.int .i64 d.o.l,.int .i64 d.o.n,.int .i64 d.o.a,.int .i64 d.o.z]] (by rfl) (fun W=>by go_simp) (fun W hS=>(HZo.out W).mono ?_) ?_
      ·rintro e w1 ⟨rfl,f1⟩;have f2:Fr No wA w1:=hS.2.out.trans f1 (fun _ _ e=>e);exact ⟨rfl,HCE.out w1 f2,lH f2⟩
      simp only [Act.put,lsA,lsZ,lsS];repeat (first
       | (refine seqA_no (by rfl) ?_;simp only [Act.put,lsA,lsZ,lsS])
       | (refine seqA_val (v:= ?_) (by rfl) ?_ ?_
          rotate_left 1
          (intro W hS;obtain ⟨⟨p0,p1,p2,p3,p4,p5,p6,p7,p8,p9,p10,p11,p12,p13⟩,_⟩:=hS;go_simp;(try with_reducible rfl))
          simp only [Act.put,lsA,lsZ,lsS]))
      refine seqA_call (v:=.agg #[.int .i64 at_.c,.int .i64 at_.l,.int .i64 at_.n,.int .i64 at_.a,.int .i64 at_.z]) 36 #[.pointer (some ⟨p,0,none⟩),.int .i64 d.b] (by rfl) (fun W=>by go_simp) (fun W hS=>(HA.out W (F0.out.trans hS.2.out (fun _ _ e=>e))).mono ?_) ?_
      ·rintro e w1 ⟨rfl,f1⟩;have f2:Fr No wA w1:=hS.2.out.trans f1 (fun _ _ e=>e);exact ⟨rfl,HCE.out w1 f2,lH f2⟩
      simp only [Act.put,lsA,lsZ,lsS];repeat (first
       | (refine seqA_no (by rfl) ?_;simp only [Act.put,lsA,lsZ,lsS])
       | (refine seqA_val (v:= ?_) (by rfl) ?_ ?_
          rotate_left 1
          (intro W hS;obtain ⟨⟨p0,p1,p2,p3,p4,p5,p6,p7,p8,p9,p10,p11,p12,p13⟩,_⟩:=hS;go_simp;(try with_reducible rfl))
          simp only [Act.put,lsA,lsZ,lsS]))
      refine seqA_call (v:=.bool false) 71 #[.agg #[.int .i64 d.t.c,.int .i64 d.t.l,.int .i64 d.t.n,.int .i64 d.t.a,.int .i64 d.t.z]] (by rfl) (fun W=>by go_simp) (fun W hS=>(HZt.out W).mono ?_) ?_
      ·rintro e w1 ⟨rfl,f1⟩;have f2:Fr No wA w1:=hS.2.out.trans f1 (fun _ _ e=>e);exact ⟨rfl,HCE.out w1 f2,lH f2⟩
      simp only [Act.put,lsA,lsZ,lsS];repeat (first
       | (refine seqA_no (by rfl) ?_;simp only [Act.put,lsA,lsZ,lsS])
       | (refine seqA_val (v:= ?_) (by rfl) ?_ ?_
          rotate_left 1
          (intro W hS;obtain ⟨⟨p0,p1,p2,p3,p4,p5,p6,p7,p8,p9,p10,p11,p12,p13⟩,_⟩:=hS;go_simp;(try with_reducible rfl))
          simp only [Act.put,lsA,lsZ,lsS]))
      refine seqA_call (v:=.bool true) 140 #[.agg #[.int .i64 d.t.c,.int .i64 d.t.l,.int .i64 d.t.n,.int .i64 d.t.a,.int .i64 d.t.z]] (by rfl) (fun W=>by go_simp) (fun W hS=>(HM.out W).mono ?_) ?_
      ·rintro e w1 ⟨rfl,f1⟩;have f2:Fr No wA w1:=hS.2.out.trans f1 (fun _ _ e=>e);exact ⟨rfl,HCE.out w1 f2,lH f2⟩
      simp only [Act.put,lsA,lsZ,lsS];repeat (first
       | (refine seqA_no (by rfl) ?_;simp only [Act.put,lsA,lsZ,lsS])
       | (refine seqA_val (v:= ?_) (by rfl) ?_ ?_
          rotate_left 1
          (intro W hS;obtain ⟨⟨p0,p1,p2,p3,p4,p5,p6,p7,p8,p9,p10,p11,p12,p13⟩,_⟩:=hS;go_simp;(try with_reducible rfl))
          simp only [Act.put,lsA,lsZ,lsS]))
      intro W hS;go_wp2_with fail;exact HR.out false _ _ HV.out rfl (F0.out.trans hS.2.out (fun _ _ e=>e))
     | true=>
      have HV:Hid (decide (canDl m d)=true):=lH (by rw [HB.out];simp [hb2]);clear hb2;go_enter Tryz.func142,Tryz.ntmps142;go_wp2_with fail;refine wp_region_seq mixed (fun W=>(W.cell? ⟨w.heap.size,0,none⟩=some (.int .i64 3)∧W.cell? ⟨w.heap.size,1,none⟩=some (.int .i64 d.i)∧W.cell? ⟨w.heap.size,2,none⟩=some (.int .i64 d.b)∧W.cell? ⟨w.heap.size,3,none⟩=some (.int .i64 d.s)∧
       W.cell? ⟨w.heap.size,4,none⟩=some (.int .i64 d.t.c)∧W.cell? ⟨w.heap.size,5,none⟩=some (.int .i64 d.t.l)∧W.cell? ⟨w.heap.size,6,none⟩=some (.int .i64 d.t.n)∧W.cell? ⟨w.heap.size,7,none⟩=some (.int .i64 d.t.a)∧W.cell? ⟨w.heap.size,8,none⟩=some (.int .i64 d.t.z)∧
       W.cell? ⟨w.heap.size,9,none⟩=some (.int .i64 d.o.c)∧W.cell? ⟨w.heap.size,10,none⟩=some (.int .i64 d.o.l)∧W.cell? ⟨w.heap.size,11,none⟩=some (.int .i64 d.o.n)∧W.cell? ⟨w.heap.size,12,none⟩=some (.int .i64 d.o.a)∧W.cell? ⟨w.heap.size,13,none⟩=some (.int .i64 d.o.z))∧Hid (Fr No wA W)) (by kernel_rfl) (by kernel_rfl) (fun _ _ d _ _ h=>by cases d<;>exact h) ⟨⟨p0,p1,p2,p3,p4,p5,p6,p7,p8,p9,p10,p11,p12,p13⟩,lH (fr_dr (Fr.refl wA))⟩ ?_
      clear p0 p1 p2 p3 p4 p5 p6 p7 p8 p9 p10 p11 p12 p13;repeat (first
       | (refine seqA_no (by rfl) ?_;simp only [Act.put,lsA,lsZ,lsS])
       | (refine seqA_val (v:= ?_) (by rfl) ?_ ?_
          rotate_left 1
          (intro W hS;obtain ⟨⟨p0,p1,p2,p3,p4,p5,p6,p7,p8,p9,p10,p11,p12,p13⟩,_⟩:=hS;go_simp;(try with_reducible rfl))
          simp only [Act.put,lsA,lsZ,lsS]))
      refine seqA_call (v:=.int .i64 m.l.length) 35 #[.pointer (some ⟨p,0,none⟩)] (by rfl) (fun W=>by go_simp) (fun W hS=>(HC.out W (F0.out.trans hS.2.out (fun _ _ e=>e))).mono ?_) ?_
      ·rintro e w1 ⟨rfl,rfl⟩;exact ⟨rfl,hS⟩
      simp only [Act.put,lsA,lsZ,lsS];repeat (first
       | (refine seqA_no (by rfl) ?_;simp only [Act.put,lsA,lsZ,lsS])
       | (refine seqA_val (v:= ?_) (by rfl) ?_ ?_
          rotate_left 1
          (intro W hS;obtain ⟨⟨p0,p1,p2,p3,p4,p5,p6,p7,p8,p9,p10,p11,p12,p13⟩,_⟩:=hS;go_simp;(try with_reducible rfl))
          simp only [Act.put,lsA,lsZ,lsS]))
      refine seqA_call (v:=.bool false) 71 #[.agg #[.int .i64 d.o.c,.int .i64 d.o.l,.int .i64 d.o.n,.int .i64 d.o.a,.int .i64 d.o.z]] (by rfl) (fun W=>by go_simp) (fun W hS=>(HZo.out W).mono ?_) ?_
      ·rintro e w1 ⟨rfl,f1⟩;have f2:Fr No wA w1:=hS.2.out.trans f1 (fun _ _ e=>e);exact ⟨rfl,HCE.out w1 f2,lH f2⟩
      simp only [Act.put,lsA,lsZ,lsS];repeat (first
       | (refine seqA_no (by rfl) ?_;simp only [Act.put,lsA,lsZ,lsS])
       | (refine seqA_val (v:= ?_) (by rfl) ?_ ?_
          rotate_left 1
          (intro W hS;obtain ⟨⟨p0,p1,p2,p3,p4,p5,p6,p7,p8,p9,p10,p11,p12,p13⟩,_⟩:=hS;go_simp;(try with_reducible rfl))
          simp only [Act.put,lsA,lsZ,lsS]))
      refine seqA_call (v:=.agg #[.int .i64 at_.c,.int .i64 at_.l,.int .i64 at_.n,.int .i64 at_.a,.int .i64 at_.z]) 36 #[.pointer (some ⟨p,0,none⟩),.int .i64 d.b] (by rfl) (fun W=>by go_simp) (fun W hS=>(HA.out W (F0.out.trans hS.2.out (fun _ _ e=>e))).mono ?_) ?_
      ·rintro e w1 ⟨rfl,f1⟩;have f2:Fr No wA w1:=hS.2.out.trans f1 (fun _ _ e=>e);exact ⟨rfl,HCE.out w1 f2,lH f2⟩
      simp only [Act.put,lsA,lsZ,lsS];repeat (first
       | (refine seqA_no (by rfl) ?_;simp only [Act.put,lsA,lsZ,lsS])
       | (refine seqA_val (v:= ?_) (by rfl) ?_ ?_
          rotate_left 1
          (intro W hS;obtain ⟨⟨p0,p1,p2,p3,p4,p5,p6,p7,p8,p9,p10,p11,p12,p13⟩,_⟩:=hS;go_simp;(try with_reducible rfl))
          simp only [Act.put,lsA,lsZ,lsS]))
      refine seqA_call (v:=.bool false) 71 #[.agg #[.int .i64 d.t.c,.int .i64 d.t.l,.int .i64 d.t.n,.int .i64 d.t.a,.int .i64 d.t.z]] (by rfl) (fun W=>by go_simp) (fun W hS=>(HZt.out W).mono ?_) ?_
      ·rintro e w1 ⟨rfl,f1⟩;have f2:Fr No wA w1:=hS.2.out.trans f1 (fun _ _ e=>e);exact ⟨rfl,HCE.out w1 f2,lH f2⟩
      simp only [Act.put,lsA,lsZ,lsS];repeat (first
       | (refine seqA_no (by rfl) ?_;simp only [Act.put,lsA,lsZ,lsS])
       | (refine seqA_val (v:= ?_) (by rfl) ?_ ?_
          rotate_left 1
          (intro W hS;obtain ⟨⟨p0,p1,p2,p3,p4,p5,p6,p7,p8,p9,p10,p11,p12,p13⟩,_⟩:=hS;go_simp;(try with_reducible rfl))
          simp only [Act.put,lsA,lsZ,lsS]))
      refine seqA_call (v:=.bool true) 140 #[.agg #[.int .i64 d.t.c,.int .i64 d.t.l,.int .i64 d.t.n,.int .i64 d.t.a,.int .i64 d.t.z]] (by rfl) (fun W=>by go_simp) (fun W hS=>(HM.out W).mono ?_) ?_
      ·rintro e w1 ⟨rfl,f1⟩;have f2:Fr No wA w1:=hS.2.out.trans f1 (fun _ _ e=>e);exact ⟨rfl,HCE.out w1 f2,lH f2⟩
      simp only [Act.put,lsA,lsZ,lsS];repeat (first
       | (refine seqA_no (by rfl) ?_;simp only [Act.put,lsA,lsZ,lsS])
       | (refine seqA_val (v:= ?_) (by rfl) ?_ ?_
          rotate_left 1
          (intro W hS;obtain ⟨⟨p0,p1,p2,p3,p4,p5,p6,p7,p8,p9,p10,p11,p12,p13⟩,_⟩:=hS;go_simp;(try with_reducible rfl))
          simp only [Act.put,lsA,lsZ,lsS]))
      intro W hS;go_wp2_with fail;exact HR.out true _ _ HV.out rfl (F0.out.trans hS.2.out (fun _ _ e=>e))
 ·have HV:Hid (decide (canDl m d)=false):=lH (by rw [HB.out];simp [hb2]);have q2:(decide (d.b<(m.l.length:Int)))=false:=by simpa using hb2
  clear hb2;go_enter Tryz.func142,Tryz.ntmps142;go_wp2_with fail;refine wp_region_seq mixed (fun W=>(W.cell? ⟨w.heap.size,0,none⟩=some (.int .i64 3)∧W.cell? ⟨w.heap.size,1,none⟩=some (.int .i64 d.i)∧W.cell? ⟨w.heap.size,2,none⟩=some (.int .i64 d.b)∧W.cell? ⟨w.heap.size,3,none⟩=some (.int .i64 d.s)∧
   W.cell? ⟨w.heap.size,4,none⟩=some (.int .i64 d.t.c)∧W.cell? ⟨w.heap.size,5,none⟩=some (.int .i64 d.t.l)∧W.cell? ⟨w.heap.size,6,none⟩=some (.int .i64 d.t.n)∧W.cell? ⟨w.heap.size,7,none⟩=some (.int .i64 d.t.a)∧W.cell? ⟨w.heap.size,8,none⟩=some (.int .i64 d.t.z)∧
   W.cell? ⟨w.heap.size,9,none⟩=some (.int .i64 d.o.c)∧W.cell? ⟨w.heap.size,10,none⟩=some (.int .i64 d.o.l)∧W.cell? ⟨w.heap.size,11,none⟩=some (.int .i64 d.o.n)∧W.cell? ⟨w.heap.size,12,none⟩=some (.int .i64 d.o.a)∧W.cell? ⟨w.heap.size,13,none⟩=some (.int .i64 d.o.z))∧Hid (Fr No wA W)) (by kernel_rfl) (by kernel_rfl) (fun _ _ d _ _ h=>by cases d<;>exact h) ⟨⟨p0,p1,p2,p3,p4,p5,p6,p7,p8,p9,p10,p11,p12,p13⟩,lH (fr_dr (Fr.refl wA))⟩ ?_
  clear p0 p1 p2 p3 p4 p5 p6 p7 p8 p9 p10 p11 p12 p13;repeat (first
   | (refine seqA_no (by rfl) ?_;simp only [Act.put,lsA,lsZ,lsS])
   | (refine seqA_val (v:= ?_) (by rfl) ?_ ?_
      rotate_left 1
      (intro W hS;obtain ⟨⟨p0,p1,p2,p3,p4,p5,p6,p7,p8,p9,p10,p11,p12,p13⟩,_⟩:=hS;go_simp;(try with_reducible rfl))
      simp only [Act.put,lsA,lsZ,lsS]))
  refine seqA_call (v:=.int .i64 m.l.length) 35 #[.pointer (some ⟨p,0,none⟩)] (by rfl) (fun W=>by go_simp) (fun W hS=>(HC.out W (F0.out.trans hS.2.out (fun _ _ e=>e))).mono ?_) ?_
  ·rintro e w1 ⟨rfl,rfl⟩;exact ⟨rfl,hS⟩
  simp only [Act.put,lsA,lsZ,lsS];repeat (first
   | (refine seqA_no (by rfl) ?_;simp only [Act.put,lsA,lsZ,lsS])
   | (refine seqA_val (v:= ?_) (by rfl) ?_ ?_
      rotate_left 1
      (intro W hS;obtain ⟨⟨p0,p1,p2,p3,p4,p5,p6,p7,p8,p9,p10,p11,p12,p13⟩,_⟩:=hS;go_simp;(try with_reducible rfl))
      simp only [Act.put,lsA,lsZ,lsS]))
  intro W hS;go_wp2_with fail;exact HR.out false _ _ HV.out rfl (F0.out.trans hS.2.out (fun _ _ e=>e))
end Go.Proofs.YtlcojhddnpmgmaaGreat
