/- Part of the proof; the last text says what is proved. -/
import Derived.Test.YtlcojhddnpmgmaaGreatW21
import Derived.Test.YtlcojhddnpmgmaaGreatW22
set_option linter.unusedSimpArgs false
set_option linter.unusedVariables false
set_option maxRecDepth 100000
set_option maxHeartbeats 6400000
namespace Go.Proofs.YtlcojhddnpmgmaaGreat
open Go.RowKit
theorem RangeAt.left_eq {K V:Type} {E:Enc K V} {w:World} {b r c:Nat} {m:K→Option V} {left:K→Bool} {cnt:Nat} (h:RangeAt E w b r c m left cnt):w.rangeLeft b r=cnt:=by
 obtain ⟨D,lf,h1,_⟩:=h;exact h1.left_eq
theorem StateAt.newUses {w w':World} {o o':Nat→Nat} {K n n':Nat} {L:Plc} {S:St} {U':Stp→Option Us} (h:StateAt w o K L S n) (hn:n≤n') (ok:StOk S) (s:Step (fun c=>c=K+7) w o w' o') (t:UsesAt w' o' K L.us n' U'):StateAt w' o' K L {S with U:=U'} n' where
 own:=(s.own h.cs).trans h.own
 cs:=s.block h.cs (by rw [h.own];omega)
 win:=h.win.step s (by omega) (by omega)
 tree:=h.tree.step ok.tree s (fun c e=>by unfold treeC at e;omega)
 tok:=h.tok.step s (by omega) (by omega)
 files:=(h.more hn).files.step ok.file s (by omega) (fun i hi c e=>by unfold fileC at e;omega)
 uses:=t
def CountPost (w:World) (o:Nat→Nat) (K:Nat) (L:Plc) (S:St) (n:Nat) (e:Ending) (w':World):Prop:=
 e=.returned (.tuple #[])∧∃o',Step (fun c=>c=K+7) w o w' o'∧StateAt w' o' K L {S with U:=countedU S.F S.U} n
def LiveAt (w:World) (lb c:Nat) (g:Stp→Int):Prop:=∃m c',c'≤c∧MapAt encP w lb c' m∧∀x,(m x).getD 0=g x
theorem LiveAt.fr {S:Nat→Prop} {w w':World} {lb c:Nat} {g:Stp→Int} (h:LiveAt w lb c g) (f:Fr S w w') (hb:¬S lb):LiveAt w' lb c g:=by
 obtain ⟨m,c',hc,h1,h2⟩:=h;exact ⟨m,c',hc,h1.fr f hb,h2⟩
theorem LiveAt.look {w:World} {lb c:Nat} {g:Stp→Int} (h:LiveAt w lb c g) (x:Stp) (hx:stpGood x):(Instr.lookup 160 (.map (some lb)) (stpV x) false).run Tryz.prog w=.ok (.int .i64 (g x)) w:=by
 obtain ⟨m,c',hc,h1,h2⟩:=h;have:=h1.look x hx (t:=160) (e:=3) Tryz.underlying160 (z:=.int .i64 0) (by kernel_rfl) false;rw [← h2 x];cases hm:m x with
 | none=>rw [hm] at this;exact this
 | some y=>rw [hm] at this;exact this
theorem LiveAt.entry {w:World} {lb c:Nat} {g:Stp→Int} (h:LiveAt w lb c g) (x:Stp) (hx:stpGood x) (hc:c<4611686018427387904):
  ∃st w1,(Instr.mapEntry 160 (.map (some lb)) (stpV x)).run Tryz.prog w=.ok (.tuple #[.int .i64 (g x),goInt st]) w1∧(Instr.mapEntry 160 (.map (some lb)) (stpV x)).run Tryz.prog w1=.ok (.tuple #[.int .i64 (g x),goInt st]) w1∧Fr (· =lb) w w1∧LiveAt w1 lb (c+1) g∧
   ∀y:Int,∃w2,(Instr.entryStore 160 (.map (some lb)) (goInt st) (.int .i64 y)).run Tryz.prog w1=.ok () w2∧Fr (· =lb) w1 w2∧LiveAt w2 lb (c+1) (fun z=>if z=x then y else g z):=by
 obtain ⟨m,c',hc',h1,h2⟩:=h;obtain ⟨st,w1,E⟩:=h1.entry x hx (by omega) (t:=160) (e:=3) Tryz.underlying160 (z0:=0) trivial (fun u=>by kernel_rfl);have hle:(if (m x).isSome then c' else c'+1)≤c+1:=by split<;>omega
 rw [h2 x] at E;refine ⟨st,w1,E.run,E.again,E.fr,⟨_,_,hle,E.map1,fun z=> ?_⟩,fun y=> ?_⟩
 ·by_cases e:z=x
  ·rw [if_pos e,e];rfl
  ·rw [if_neg e];exact h2 z
 ·obtain ⟨w2,hr,hm,f,_⟩:=E.store y trivial;refine ⟨w2,hr,f,_,_,hle,hm,fun z=> ?_⟩;by_cases e:z=x
  ·show _=if z=x then y else g z
   rw [if_pos e,if_pos e];rfl
  ·show _=if z=x then y else g z
   rw [if_neg e,if_neg e];exact h2 z
structure InnerAt (o:Nat→Nat) (K:Nat) (L:Plc) (F:Nat→Option FMap) (fp:Nat→Nat) (w wr:World) (lb rb c:Nat) (left:Int→Bool) (cnt cf:Nat) (g:Stp→Int):Prop where
 fr:Fr No w wr
 live:LiveAt wr lb c g
 rng:RangeAt encI wr L.fl rb cf (filem F fp) left cnt
theorem InnerAt.step {o:Nat→Nat} {K:Nat} {L:Plc} {F:Nat→Option FMap} {fp:Nat→Nat} {w wr w':World} {lb rb c cnt cf:Nat} {left:Int→Bool} {g:Stp→Int} (h:InnerAt o K L F fp w wr lb rb c left cnt cf g) (f:Fr No wr w'):InnerAt o K L F fp w w' lb rb c left cnt cf g:=
 ⟨h.fr.trans f (fun _ _ e=>e),h.live.fr f id,h.rng.fr f id id⟩
theorem PtNew.fr {S:Nat→Prop} {w w':World} {base:Nat} {v:Value} {L:List Pt} (h:PtNew w base v L) (f:Fr S w w') (hS:∀j,base≤j→¬S j):PtNew w' base v L:=by
 rcases h with h|⟨b,cap,e,hm,hb,hr⟩
 ·exact .inl h
 ·exact .inr ⟨b,cap,e,hm,hb,hr.fr f (hS b hb)⟩
theorem wpList_entryStore {ops:Array Oper} {rest:List Oper} {op:Oper} {a:Act} {w w':World} {Q:Exit→Act→World→Prop} (hgd:op.guard=none) (t:TypeId) (m s x:Operand) (ho:op.op=.entryStore t m s x)
  (hr:(Instr.entryStore t (a.eval m) (a.eval s) (a.eval x)).run Tryz.prog w=.ok () w') (h:wpList Tryz.prog ops Q rest (a.put op.dst undef) w'):wpList Tryz.prog ops Q (op::rest) a w:=
 wpList_plain hgd fun K hK=>by
  unfold Oper.wp execOp;simp only [ho,Sem.run_bind,hr,Result.andThen_ok,Sem.run_pure,Oper.upon,Sem.run_map];exact hK _ _ h
structure UsedAt (L:Plc) (F:Nat→Option FMap) (U:Stp→Option Us) (w wr:World) (lb rb c cl cu:Nat) (left:Stp→Bool) (cnt:Nat):Prop where
 fr:Fr (· =L.us) w wr
 live:LiveAt wr lb cl (liveF F)
 le:c≤cu
 rng:∃m,RangeAt encU wr L.us rb c m left cnt∧∀z,m z=if left z=true then usem U z else usem (countedU F U) z
theorem scount_ (o:Nat→Nat) (K n:Nat) (L:Plc) (S:St) (w:World) (h:StateAt w o K L S n) (ok:StOk S) (pts:PtsOk S.F) (hf:Fresh w o) (hn:n≤1000000):
  Calls Tryz.prog 97 #[.pointer (some ⟨L.s,0,none⟩)] w (CountPost w o K L S n):=by
 have mixed:Tryz.prog.follows .mixedOrders=true:=by kernel_rfl
 have HH:=lH h;have HOK:=lH ok;have HF:=lH hf;have HP:=lH pts;have HSH:=lH pts.short;obtain ⟨hfo,fp,cf,hcf,hfm,hfl⟩:=h.files;have HFM:=lH hfm;have HFL:=lH hfl;have HML:Hid (∀i m,S.F i=some m→MapLen m):=lH (fun i m hi=>(ok.file i m hi).2.2);have HIL:Hid (∀i m,S.F i=some m→1≤i∧i≤128):=lH (fun i m hi=>⟨(ok.file i m hi).1,(ok.file i m hi).2.1⟩);have f0:Fr No w (w.alloc (.map #[] 0)):=(Fr.refl w).alloc _;obtain ⟨w2,hr,R2,f2,hs2⟩:=(hfm.fr f0 id).range (t:=100) (e:=63) Tryz.underlying100;have hlt:L.fl<w.heap.size:=hfm.lt;have hne:L.fl≠w.heap.size:=by omega
 have F2:Fr No w w2:=f0.trans f2 (fun _ _ e=>e);have hsA:(w.alloc (.map #[] 0)).heap.size=w.heap.size+1:=by simp
 have HI:Hid (InnerAt o K L S.F fp w w2 w.heap.size (w.heap.size+1) 0 (fun x=>(filem S.F fp x).isSome) cf cf (liveD S.F (fun x=>(filem S.F fp x).isSome))):=lH ⟨F2,by
  refine LiveAt.fr (w:=w.alloc (.map #[] 0)) ⟨_,0,Nat.le_refl _,MapAt.made encP w,fun x=> ?_⟩ f2 id;rw [liveD_start (fun i m hi=>by unfold filem;rw [if_pos (by omega),Int.toNat_natCast,hi];rfl)];rfl,by rw [← hsA];exact R2⟩
 have HQ:Hid (∀e w' o',e=.returned (.tuple #[])→Step (fun c=>c=K+7) w o w' o'→StateAt w' o' K L {S with U:=countedU S.F S.U} n→CountPost w o K L S n e w'):=lH (fun e w' o' he s t=>⟨he,o',s,t⟩);generalize hQQ:CountPost w o K L S n=Q at*;clear hQQ;have c11:(w.alloc (.map #[] 0)).cell? ⟨L.s,11,none⟩=some (.map (some L.fl)):=f0.cell_of (h.cell 11) id;rw [hsA] at hr;have hsz2:w2.heap.size=w.heap.size+2:=by rw [hs2,hsA]
 have hcf1:cf≤1000000:=Nat.le_trans hcf hn;clear h ok pts hf hfo hcf hfm hfl f0 R2 f2 hs2 hsA F2;have hmk:(Instr.makeMap 160 none).run Tryz.prog w=.ok (.map (some w.heap.size)) (w.alloc (.map #[] 0)):=by kernel_rfl
 go_enter Tryz.func97,Tryz.ntmps97;go_wp2_with fail;generalize hlb:w.heap.size=lb at*;go_loopw [] (fun wr=>∃(left:Int→Bool) (cnt c:Nat),Hid (InnerAt o K L S.F fp w wr lb (lb+1) c left cnt cf (liveD S.F left))∧c+64*cnt≤64*cf) (fun wr=>wr.rangeLeft L.fl (lb+1))
 case atStart=>exact ⟨_,_,_,HI,by omega⟩
 case round=>
  obtain ⟨left,cnt,c,HIN,hcc⟩:=hrel;rcases HIN.out.rng.next 0 with ⟨_,hno,hnx⟩|⟨x,y,w4,cnt',hms,hls,hnx,hra',hlt',f4,hs4,hen⟩
  ·have HLV:Hid (LiveAt wr lb c (liveF S.F)):=lH (by
    have e:liveF S.F=liveD S.F left:=by
     funext z;exact (liveD_end (fun i hi=>hno (i:Int) (by show I64 _;unfold I64;omega)) z).symm
    rw [e];exact HIN.out.live)
   obtain ⟨wo,hwo⟩:∃wo:World,wo=wr:=⟨_,rfl⟩
   have hfo:Fr No w wo:=hwo▸HIN.out.fr;obtain ⟨huo,cu,hcu,hum⟩:=HH.out.uses;obtain ⟨w6,hr6,R6,f6,hs6⟩:=(hum.fr hfo id).range (t:=101) (e:=80) Tryz.underlying101;have hult:L.us<w.heap.size:=hum.lt;have c12:wr.cell? ⟨L.s,12,none⟩=some (.map (some L.us)):=HIN.out.fr.cell_of (HH.out.cell 12) id;have hszo:lb≤wo.heap.size:=hlb▸hfo.size;have hlbo:lb<wo.heap.size:=(by rw [hwo];have:=HIN.out.rng.lt;omega)
   have U0:Hid (UsedAt L S.F S.U w w6 lb wo.heap.size cu c cu (fun x=>(usem S.U x).isSome) cu):=lH ⟨(hfo.trans f6 (fun _ _ e=>e)).of_no,(hwo▸HLV.out).fr f6 id,Nat.le_refl _,_,R6,fun z=>by
    cases hz:usem S.U z with
    | some y=>rfl
    | none=>
     have:S.U z=none:=by
      unfold usem at hz;cases h:S.U z with
      | none=>rfl
      | some u=>rw [h] at hz;cases hz
     simp [usem,countedU,this]⟩
   have HUO:=lH huo;have HUM:=lH hum;have HCU:=lH hcu;subst hwo;clear huo hcu hum hno HIN hcc R6 f6 hs6 hr hmk hfo;go_wp2_with fail;generalize hrb:wo.heap.size=rb at*;go_loopw [] (fun wr=>∃(left:Stp→Bool) (cnt c':Nat),Hid (UsedAt L S.F S.U w wr lb rb c' c cu left cnt)) (fun wr=>wr.rangeLeft L.us rb)
   case atStart=>exact ⟨_,_,_,U0⟩
   case round=>
    obtain ⟨left2,cnt2,c2,HU⟩:=hrel;obtain ⟨mU,hra,hmU⟩:=HU.out.rng;rcases hra.next 0 with ⟨_,hno,hnx⟩|⟨x,y,w7,cnt',hms,hls,hnx,hra',hlt',f7,hs7,hen⟩
    ·have HST:=lH (show Step (fun c=>c=K+7) w o wr o from ⟨HU.out.fr.mono (fun j _ e=>by rw [e];exact HUO.out),fun _ _=>rfl,fun k hk=>HF.out k (Nat.le_trans HU.out.fr.size hk)⟩);have HEND:Hid (StateAt wr o K L {S with U:=countedU S.F S.U} n):=lH (HH.out.newUses (Nat.le_refl _) HOK.out HST.out ⟨HUO.out,c2,Nat.le_trans HU.out.le HCU.out,by
      have e:mU=usem (countedU S.F S.U):=by
       funext z;rw [hmU z];by_cases hl:left2 z=true
       ·rw [if_pos hl];cases hz:usem S.U z with
        | some y=>
         have:=hno z (HUM.out.good hz).1;rw [hl] at this;cases this
        | none=>
         have:S.U z=none:=by
          unfold usem at hz;cases h:S.U z with
          | none=>rfl
          | some u=>rw [h] at hz;cases hz
         simp [usem,countedU,this]
       ·rw [if_neg hl]
      rw [← e];exact hra.map⟩)
     clear hra hmU hno;go_wp2_with fail;exact bodyPost_end (v:=.tuple #[]) (by simp [results,Tryz.results97,go_sem]) rfl (HQ.out _ _ _ rfl HST.out HEND.out)
    ·obtain ⟨u,hu,rfl⟩:∃u,S.U x=some u∧y=(x,u):=by
      rw [hmU x,if_pos hls] at hms;unfold usem at hms;cases h:S.U x with
      | none=>rw [h] at hms;cases hms
      | some u=>
       rw [h] at hms;cases hms;exact ⟨u,rfl,rfl⟩
     have hgx:stpGood x:=(hra.map.good hms).1;have HR7:=lH hra';have L7:=HU.out.live.fr f7 (show ¬lb=rb by omega);obtain ⟨v,hv⟩:∃v,liveF S.F x=v:=⟨_,rfl⟩
     have HV:=lH hv;have LK:Hid (∀W,Fr No w7 W→(Instr.lookup 160 (.map (some lb)) (stpV x) false).run Tryz.prog W=.ok (.int .i64 v) W):=lH (fun W f=>by
      rw [← hv];exact (L7.fr f id).look x hgx)
     have f9:Fr No w7 ((w7.alloc (.cells #[.int .i64 x.1,.int .i64 x.2.1,.int .i64 x.2.2] 46)).alloc (.cells #[.int .i64 x.1,.int .i64 x.2.1,.int .i64 x.2.2,.int .i64 u.1,.int .i64 u.2.1,.int .i64 u.2.2] 80)):=((Fr.refl _).alloc _).alloc _;have lk9:=LK.out _ f9;have RA:Hid (((w7.alloc (.cells #[.int .i64 x.1,.int .i64 x.2.1,.int .i64 x.2.2] 46)).alloc (.cells #[.int .i64 x.1,.int .i64 x.2.1,.int .i64 x.2.2,.int .i64 u.1,.int .i64 u.2.1,.int .i64 u.2.2] 80)).rangeAt w7.heap.size 0 [.int .i64 x.1,.int .i64 x.2.1,.int .i64 x.2.2]):=lH (World.rangeAt_of_block (((Fr.refl (S:=No) _).alloc _).block_of (new_at w7 _) id) 0 3);have F7:=lH (HU.out.fr.trans f7 (fun j hj e=>by omega));have hnx':(Instr.next (.pointer (some ⟨rb,0,none⟩)) false 0).run Tryz.prog wr=.ok (.tuple #[.bool true,.agg #[.int .i64 x.1,.int .i64 x.2.1,.int .i64 x.2.2],.agg #[.int .i64 x.1,.int .i64 x.2.1,.int .i64 x.2.2,.int .i64 u.1,.int .i64 u.2.1,.int .i64 u.2.2]]) w7:=hnx;have hen':(Instr.entry (.pointer (some ⟨rb,0,none⟩))).run Tryz.prog w7=.ok (.tuple #[.agg #[.int .i64 x.1,.int .i64 x.2.1,.int .i64 x.2.2],.agg #[.int .i64 x.1,.int .i64 x.2.1,.int .i64 x.2.2,.int .i64 u.1,.int .i64 u.2.1,.int .i64 u.2.2]]) w7:=hen;have HLT:=lH hlt';have HLE:Hid (wr.rangeLeft L.us rb=cnt2):=lH hra.left_eq;have HMU:=lH hmU;have HMX:Hid ((mU x).isSome=true):=lH (by rw [hms];rfl);have HUX:Hid (countedU S.F S.U x=if v=0 then none else some (u.1,v,u.2.2)):=lH (by unfold countedU;rw [hu];dsimp only;rw [hv]);have L7':=lH L7;unfold stpV at lk9 LK;clear hnx hen hra' hra f7 hs7 hms hls hlt' hmU hv L7 f9;go_wp2_with (refine wpList_load_mid (by rfl) 46 _ (by rfl) w7.heap.size 0 (by rfl) [.int .i64 x.1,.int .i64 x.2.1,.int .i64 x.2.2] _ RA.out Tryz.underlying46 rfl Tryz.size46 ?_);have fB:Fr No w7 ((w7.alloc (.cells #[.int .i64 x.1,.int .i64 x.2.1,.int .i64 x.2.2] 46)).alloc (.cells #[.int .i64 x.1,.int .i64 x.2.1,.int .i64 x.2.2,.int .i64 u.1,.int .i64 v,.int .i64 u.2.2] 80)):=((Fr.refl _).alloc _).alloc _;have kA:((w7.alloc (.cells #[.int .i64 x.1,.int .i64 x.2.1,.int .i64 x.2.2] 46)).alloc (.cells #[.int .i64 x.1,.int .i64 x.2.1,.int .i64 x.2.2,.int .i64 u.1,.int .i64 v,.int .i64 u.2.2] 80)).heap[w7.heap.size]? =some (.cells #[.int .i64 x.1,.int .i64 x.2.1,.int .i64 x.2.2] 46 (0,0)):=((Fr.refl (S:=No) _).alloc _).block_of (new_at w7 _) id
     have kB:((w7.alloc (.cells #[.int .i64 x.1,.int .i64 x.2.1,.int .i64 x.2.2] 46)).alloc (.cells #[.int .i64 x.1,.int .i64 x.2.1,.int .i64 x.2.2,.int .i64 u.1,.int .i64 v,.int .i64 u.2.2] 80)).heap[w7.heap.size+1]? =some (.cells #[.int .i64 x.1,.int .i64 x.2.1,.int .i64 x.2.2,.int .i64 u.1,.int .i64 v,.int .i64 u.2.2] 80 (0,0)):=by
      have:=new_at (w7.alloc (.cells #[.int .i64 x.1,.int .i64 x.2.1,.int .i64 x.2.2] 46)) (.cells #[.int .i64 x.1,.int .i64 x.2.1,.int .i64 x.2.2,.int .i64 u.1,.int .i64 v,.int .i64 u.2.2] 80);simpa using this
     generalize (w7.alloc (.cells #[.int .i64 x.1,.int .i64 x.2.1,.int .i64 x.2.2] 46)).alloc (.cells #[.int .i64 x.1,.int .i64 x.2.1,.int .i64 x.2.2,.int .i64 u.1,.int .i64 v,.int .i64 u.2.2] 80)=wB at*;have fD:Fr No w7 wB.drew:=fB.trans (Fr.refl _).drew (fun _ _ e=>e);have hus7:L.us<w7.heap.size:=(by have:=F7.out.size;omega)
     obtain ⟨w10,hput,R10,f10⟩:=(HR7.out.fr fD id id).putThere x (x,(u.1,v,u.2.2)) hgx HMX.out trivial (by have:=HU.out.le;have:=HCU.out;omega) (t:=101) (e:=80) Tryz.underlying101 (zv:=.agg #[.int .i64 0,.int .i64 0,.int .i64 0,.int .i64 0,.int .i64 0,.int .i64 0]) (by kernel_rfl);have hput':(Instr.mapUpdate 101 (.map (some L.us)) (.agg #[.int .i64 x.1,.int .i64 x.2.1,.int .i64 x.2.2]) (.agg #[.int .i64 x.1,.int .i64 x.2.1,.int .i64 x.2.2,.int .i64 u.1,.int .i64 v,.int .i64 u.2.2])).run Tryz.prog wB.drew=.ok () w10:=hput;have HPUT:=lH hput';have F10:Hid (Fr (· =L.us) w w10):=lH (F7.out.trans (fD.of_no.trans f10 (fun _ _ e=>e)) (fun _ _ e=>e));have d12:wB.drew.cell? ⟨L.s,12,none⟩=some (.map (some L.us)):=by
      have h1:=F7.out.cell_of (HH.out.cell 12) (show ¬L.s=L.us from fun e=>by
       have a:=HH.out.own;rw [e,HUO.out] at a;omega)
      exact fD.cell_of h1 id
     have L10:Hid (LiveAt w10 lb c (liveF S.F)):=lH ((L7'.out.fr fD id).fr f10 (show ¬lb=L.us by omega));have kA':=(Fr.refl (S:=No) wB).drew.block_of kA id;have kB':=(Fr.refl (S:=No) wB).drew.block_of kB id;have RA2:Hid (wB.drew.rangeAt w7.heap.size 0 [.int .i64 x.1,.int .i64 x.2.1,.int .i64 x.2.2]):=lH (World.rangeAt_of_block kA' 0 3);have RB2:Hid (wB.drew.rangeAt (w7.heap.size+1) 0 [.int .i64 x.1,.int .i64 x.2.1,.int .i64 x.2.2,.int .i64 u.1,.int .i64 v,.int .i64 u.2.2]):=lH (World.rangeAt_of_block kB' 0 6);have kA10:=f10.block_of kA' (by omega);have e4:w10.cell? ⟨w7.heap.size+1,4,none⟩=some (.int .i64 v):=(by rw [cell_at (f10.block_of kB' (by omega))];rfl)
     have R10H:=lH R10;have D12:=lH d12;clear fB kA kB fD hput hput' f10 R10 d12 kA' kB';refine wp_region_text mixed (fun W=>W=wB.drew) [6] (by kernel_rfl) (by kernel_rfl) (by kernel_rfl) (by kernel_rfl) (fun _ _ d _ _ h=>by cases d<;>exact h) rfl ?_;repeat (first
      | refine seqX_skip (by rfl) ?_
      | (refine seqX_val (v:= ?_) (by rfl) (by rfl) ?_ ?_
         rotate_left 1
         (intro W;go_simp;(try with_reducible rfl))
         simp only [Act.put,lsA,lsZ,lsS])
      | (refine seqX_valS (v:=.agg #[.int .i64 x.1,.int .i64 x.2.1,.int .i64 x.2.2]) (by rfl) (by kernel_rfl) (by rfl) (fun W hS=>exec_load_mid 46 (.tmp 7) (by rfl) w7.heap.size 0 (by rfl) [.int .i64 x.1,.int .i64 x.2.1,.int .i64 x.2.2] _ (by rw [hS];exact RA2.out) Tryz.underlying46 rfl Tryz.size46) ?_
         simp only [Act.put,lsA,lsZ,lsS])
      | (refine seqX_valS (v:=.agg #[.int .i64 x.1,.int .i64 x.2.1,.int .i64 x.2.2,.int .i64 u.1,.int .i64 v,.int .i64 u.2.2]) (by rfl) (by kernel_rfl) (by rfl) (fun W hS=>exec_load_mid 80 (.tmp 8) (by rfl) (w7.heap.size+1) 0 (by rfl) [.int .i64 x.1,.int .i64 x.2.1,.int .i64 x.2.2,.int .i64 u.1,.int .i64 v,.int .i64 u.2.2] _ (by rw [hS];exact RB2.out) Tryz.underlying80 rfl Tryz.size80) ?_
         simp only [Act.put,lsA,lsZ,lsS])
      | (refine seqX_valS (v:= ?_) (by rfl) (by kernel_rfl) (by rfl) ?_ ?_
         rotate_left 1
         (intro W hS;have e1:W.cell? ⟨L.s,12,none⟩=some (.map (some L.us)):=(by rw [hS];exact D12.out);clear hS;go_simp;(try with_reducible rfl))
         simp only [Act.put,lsA,lsZ,lsS]))
     intro W hS;obtain rfl:W=wB.drew:=hS;simp only [List.reverse_cons,List.reverse_nil,List.nil_append,List.cons_append];have hpu:=HPUT.out;cases hv0:(v==0) with
     | false=>
      have hvn:v≠0:=(by simpa using hv0)
      go_wp2_with fail;refine ⟨⟨fun z=>left2 z&&decide (z≠x),cnt',c2,lH ⟨F10.out,L10.out,HU.out.le,_,R10H.out,fun z=> ?_⟩⟩,?_⟩
      ·by_cases e:z=x
       ·subst e;simp only [ne_eq,not_true_eq_false,decide_false,Bool.and_false,if_true,Bool.false_eq_true,if_false];unfold usem;rw [HUX.out,if_neg hvn];rfl
       ·simp only [e,if_false,ne_eq,not_false_eq_true,decide_true,Bool.and_true];exact HMU.out z
      ·rw [R10H.out.left_eq,HLE.out];exact HLT.out
     | true=>
      obtain rfl:v=0:=(by simpa using hv0)
      obtain ⟨w11,cnt3,hdel,R11,hle3,f11⟩:=(R10H.out.fr (Fr.refl (S:=No) w10).drew id id).delThere x hgx (t:=101) (e:=80) Tryz.underlying101 0;have hdel':(Builtin.delete_ #[101,46] 0 #[.map (some L.us),.agg #[.int .i64 x.1,.int .i64 x.2.1,.int .i64 x.2.2]]).run Tryz.prog w10.drew=.ok (.tuple #[]) w11:=hdel;have HDEL:=lH hdel';have kA11:=(Fr.refl (S:=No) w10).drew.block_of kA10 id;have RA3:Hid (w10.drew.rangeAt w7.heap.size 0 [.int .i64 x.1,.int .i64 x.2.1,.int .i64 x.2.2]):=lH (World.rangeAt_of_block kA11 0 3);have D13:Hid (w10.drew.cell? ⟨L.s,12,none⟩=some (.map (some L.us))):=lH ((Fr.refl (S:=No) w10).drew.cell_of (F10.out.cell_of (HH.out.cell 12) (show ¬L.s=L.us from fun e=>by
       have a:=HH.out.own;rw [e,HUO.out] at a;omega)) id)
      have F11:Hid (Fr (· =L.us) w w11):=lH (F10.out.trans ((Fr.refl (S:=No) w10).drew.of_no.trans f11 (fun _ _ e=>e)) (fun _ _ e=>e));have L11:Hid (LiveAt w11 lb c (liveF S.F)):=lH ((L10.out.fr (Fr.refl (S:=No) w10).drew id).fr f11 (show ¬lb=L.us by omega));have R11H:=lH R11;have HLE3:=lH hle3;clear hdel hdel' R11 hle3 f11 kA11;go_wp2_with fail;refine wp_region_text mixed (fun W=>W=w10.drew) [5] (by kernel_rfl) (by kernel_rfl) (by kernel_rfl) (by kernel_rfl) (fun _ _ d _ _ h=>by cases d<;>exact h) rfl ?_;repeat (first
       | refine seqX_skip (by rfl) ?_
       | (refine seqX_val (v:= ?_) (by rfl) (by rfl) ?_ ?_
          rotate_left 1
          (intro W;go_simp;(try with_reducible rfl))
          simp only [Act.put,lsA,lsZ,lsS])
       | (refine seqX_valS (v:=.agg #[.int .i64 x.1,.int .i64 x.2.1,.int .i64 x.2.2]) (by rfl) (by kernel_rfl) (by rfl) (fun W hS=>exec_load_mid 46 (.tmp 7) (by rfl) w7.heap.size 0 (by rfl) [.int .i64 x.1,.int .i64 x.2.1,.int .i64 x.2.2] _ (by rw [hS];exact RA3.out) Tryz.underlying46 rfl Tryz.size46) ?_
          simp only [Act.put,lsA,lsZ,lsS])
       | (refine seqX_valS (v:= ?_) (by rfl) (by kernel_rfl) (by rfl) ?_ ?_
          rotate_left 1
          (intro W hS;have e1:W.cell? ⟨L.s,12,none⟩=some (.map (some L.us)):=(by rw [hS];exact D13.out);clear hS;go_simp;(try with_reducible rfl))
          simp only [Act.put,lsA,lsZ,lsS]))
      intro W hS;obtain rfl:W=w10.drew:=hS;simp only [List.reverse_cons,List.reverse_nil,List.nil_append,List.cons_append];have hdd:=HDEL.out;go_wp2_with fail;refine ⟨⟨fun z=>(left2 z&&decide (z≠x))&&decide (z≠x),cnt3,_,lH ⟨F11.out,L11.out,?_,_,R11H.out,fun z=> ?_⟩⟩,?_⟩
      ·have hle:∀b:Bool,(if b=true then c2 - 1 else c2)≤c2:=fun b=>by cases b<;>simp
       exact Nat.le_trans (hle _) HU.out.le
      ·by_cases e:z=x
       ·subst e;simp only [ne_eq,not_true_eq_false,decide_false,Bool.and_false,if_true,Bool.false_eq_true,if_false];unfold usem;rw [HUX.out];rfl
       ·simp only [e,if_false,ne_eq,not_false_eq_true,decide_true,Bool.and_true];exact HMU.out z
      ·rw [R11H.out.left_eq,HLE.out];have:=HLT.out;have:=HLE3.out;omega
  ·obtain ⟨i,m,him,rfl,rfl⟩:∃(i:Nat) (m:FMap),S.F i=some m∧x=(i:Int)∧y=fp i:=by
    unfold filem at hms;split at hms
    ·cases hF:S.F x.toNat with
     | none=>rw [hF] at hms;cases hms
     | some m=>
      rw [hF] at hms;cases hms;exact ⟨x.toNat,m,hF,by omega,rfl⟩
    ·cases hms
   have hib:=HIL.out i m him;have F4:Fr No w w4:=HIN.out.fr.trans f4 (fun j hj e=>by omega);have IN4:Hid (InnerAt o K L S.F fp w w4 lb (lb+1) c (fun z=>left z&&decide (z≠(i:Int))) cnt' cf (liveD S.F left)):=lH ⟨F4,HIN.out.live.fr f4 (by omega),hra'⟩;have HPT:=lH (ptrs_ (fp i) m w4 ((HFL.out i m him).reads.fr F4) (by have:=(HML.out i m him).2;have:=(HML.out i m him).1;unfold blocksN at*;omega));obtain ⟨g',hg'⟩:∃g',liveD S.F (fun z=>left z&&decide (z≠(i:Int)))=g':=⟨_,rfl⟩
   have HG':=lH hg';have HLD:Hid (∀x,g' x=liveD S.F left x+liveP (ptrs m) x):=lH (fun x=>by rw [← hg'];exact liveD_next him (by omega) hls x);have HBD:Hid (∀x,0≤liveD S.F left x∧liveD S.F left x≤528384):=lH (fun x=>liveD_bound HSH.out HML.out left x);have HPL:Hid ((ptrs m).length≤64):=lH (ptrs_len (HML.out i m him));have HPM:Hid (∀p∈ptrs m,mayPt p):=lH (fun p hp=>HP.out i m him p (List.mem_filter.1 hp).1);have hnx':(Instr.next (.pointer (some ⟨lb+1,0,none⟩)) false 0).run Tryz.prog wr=.ok (.tuple #[.bool true,.int .i64 i,.pointer (some ⟨fp i,0,none⟩)]) w4:=hnx;have hen':(Instr.entry (.pointer (some ⟨lb+1,0,none⟩))).run Tryz.prog w4=.ok (.tuple #[.int .i64 i,.pointer (some ⟨fp i,0,none⟩)]) w4:=hen;have hLQ:Hid (wr.rangeLeft L.fl (lb+1)=cnt):=lH HIN.out.rng.left_eq;clear hnx hen hra' f4 hs4 hms hls hmk hr c11 F4 hg';generalize ptrs m=P at*;generalize liveD S.F left=g at*;go_wp2_with fail;refine HPT.out.mono ?_;rintro e w5 ⟨v,rfl,pn,f5⟩;obtain ⟨base,cap,rfl⟩:=pn.val.slice;have IN5:=lH (IN4.out.step f5);have PN5:=lH pn;have hlb4:lb+1<w4.heap.size:=IN4.out.rng.lt;have PN5:Hid (PtNew w5 (lb+1) (.slice base P.length cap) P):=lH (by
    rcases PN5.out with h|⟨b,c',e,hm,hb,hr⟩
    ·exact .inl h
    ·exact .inr ⟨b,c',e,hm,by omega,hr⟩)
   clear pn f5;go_wp2_with fail;go_loopw [22] (fun a wr=>∃j:Nat,a=.int .i64 j∧j≤P.length∧Hid (InnerAt o K L S.F fp w wr lb (lb+1) (c+j) (fun z=>left z&&decide (z≠(i:Int))) cnt' cf (fun x=>g x+liveP (P.take j) x))∧Hid (PtNew wr (lb+1) (.slice base P.length cap) P)) (fun a _=>P.length - (intOf a).toNat)
   case atStart=>
    refine ⟨0,rfl,Nat.zero_le _,lH ?_,PN5⟩;have e:(fun x=>g x+liveP (P.take 0) x)=g:=by
     funext x;simp [liveP]
    rw [e];exact IN5.out
   case round=>
    obtain ⟨j,rfl,hj,HI6,HP6⟩:=hrel;by_cases hlt6:j<P.length
    ·obtain ⟨b,rfl,hm,hrw⟩:=HP6.out.val.row (by omega);have HRR:=lH (hrw.row j P[j] (List.getElem?_eq_getElem hlt6));have hlen:=hrw.len;have hml:cap≤9223372036854775807:=hm;have q1:(j:Int)<(P.length:Int):=(by omega)
     have q2:(j:Int)<(cap:Int):=(by omega)
     have q3:(0:Int)≤(j:Int):=(by omega)
     have HTK:Hid (∀z,g z+liveP (P.take (j+1)) z=g z+liveP (P.take j) z+if stpOf P[j]=z then P[j].z else 0):=lH (fun z=>by
      rw [List.take_add_one,List.getElem?_eq_getElem hlt6,Option.toList_some,liveP_snoc];omega)
     obtain ⟨hgd,hz0,hz64⟩:=may_good (HPM.out P[j] (List.getElem_mem hlt6));have HBJ:=HBD.out (stpOf P[j]);have HLB:=liveP_bound (L:=P.take j) (fun p hp=>(may_good (HPM.out p (List.mem_of_mem_take hp))).2) (stpOf P[j]);rw [List.length_take] at HLB;have hjm:min j P.length=j:=(by omega)
     rw [hjm] at HLB;generalize P[j]=x at*;obtain ⟨y,hy⟩:∃y,g (stpOf x)+liveP (P.take j) (stpOf x)=y:=⟨_,rfl⟩
     have f6:Fr No wr (wr.alloc (.cells #[.int .i64 x.c,.int .i64 x.l,.int .i64 x.n,.int .i64 x.a,.int .i64 x.z] 59)):=(Fr.refl wr).alloc _;have k6:=new_at wr (.cells #[.int .i64 x.c,.int .i64 x.l,.int .i64 x.n,.int .i64 x.a,.int .i64 x.z] 59);have I7:=HI6.out.step (f6.trans (Fr.refl _).drew (fun _ _ e=>e));have P7:=HP6.out.fr (f6.trans (Fr.refl _).drew (fun _ _ e=>e)) (fun _ _ e=>e);have hcnt:c+j<4611686018427387904:=by
      have:=HPL.out;have:=hcf1;omega
     obtain ⟨st,wE1,hme,hma,fme,Lv1,hst⟩:=I7.live.entry (stpOf x) hgd hcnt;rw [hy] at hme hma;obtain ⟨wE2,hst2,fst,Lv2⟩:=hst (y+x.z);have hw:wrap64 (y+x.z)=y+x.z:=by
      have:=HPL.out;unfold wrap64;omega
     have lk0:=I7.live.look (stpOf x) hgd;have lk1:=Lv1.look (stpOf x) hgd;rw [hy] at lk0 lk1;have IE2:Hid (InnerAt o K L S.F fp w wE2 lb (lb+1) (c+(j+1)) (fun z=>left z&&decide (z≠(i:Int))) cnt' cf (fun z=>g z+liveP (P.take (j+1)) z)):=lH ⟨I7.fr.trans (fme.trans fst (fun _ _ e=>e)) (fun k hk e=>by omega),by
      have e:(fun z=>g z+liveP (P.take (j+1)) z)=(fun z=>if z=stpOf x then y+x.z else g z+liveP (P.take j) z):=by
       funext z;rw [HTK.out z];by_cases e:z=stpOf x
       ·subst e;rw [if_pos rfl,if_pos rfl,hy]
       ·rw [if_neg e,if_neg (fun h=>e h.symm)];omega
      rw [e];exact Lv2,I7.rng.fr (fme.trans fst (fun _ _ e=>e)) hne (by omega)⟩
     have PE2:Hid (PtNew wE2 (lb+1) (.slice (some ⟨b,0,none⟩) P.length cap) P):=lH (P7.fr (fme.trans fst (fun _ _ e=>e)) (fun k hk e=>by omega));have k7:=(Fr.refl (S:=No) _).drew.block_of k6 id;have hlt7:wr.heap.size≠lb:=(by have:=HI6.out.rng.lt;omega)
     have FS:Hid (∀(d:Bool) W,(if d=true then W=wE1 else W=(wr.alloc (.cells #[.int .i64 x.c,.int .i64 x.l,.int .i64 x.n,.int .i64 x.a,.int .i64 x.z] 59)).drew)→W.rangeAt wr.heap.size 0 [.int .i64 x.c,.int .i64 x.l,.int .i64 x.n]∧W.cell? ⟨wr.heap.size,4,none⟩=some (.int .i64 x.z)∧(Instr.lookup 160 (.map (some lb)) (stpV (stpOf x)) false).run Tryz.prog W=.ok (.int .i64 y) W):=lH (fun d W hS=>by
      cases d with
      | true=>
       obtain rfl:W=wE1:=hS;have k8:=fme.block_of k7 hlt7;exact ⟨World.rangeAt_of_block k8 0 3,by rw [cell_at k8];rfl,lk1⟩
      | false=>
       obtain rfl:W=_:=hS;exact ⟨World.rangeAt_of_block k7 0 3,by rw [cell_at k7];rfl,lk0⟩)
     have HME:=lH hme;have HST2:=lH hst2;have HWW:=lH hw;have HWI:Hid (IntKind.i64.wrap (y+x.z)=y+x.z):=lH (by rw [IntKind.wrap_i64];have:=HPL.out;omega);unfold ptC at HRR;unfold stpV stpOf at FS HME;clear hrw hm f6 I7 P7 hst hme hma fme Lv1 hst2 fst Lv2 lk0 lk1 k7 k6 HI6 hw;go_wp2_with (refine wpList_load_mid (by rfl) 59 _ (by rfl) b (j*5) (by rfl) [.int .i64 x.c,.int .i64 x.l,.int .i64 x.n,.int .i64 x.a,.int .i64 x.z] _ HRR.out Tryz.underlying59 rfl Tryz.size59 ?_);generalize wr.alloc (.cells #[.int .i64 x.c,.int .i64 x.l,.int .i64 x.n,.int .i64 x.a,.int .i64 x.z] 59)=wE at*;generalize wr.heap.size=gE at*;refine wp_region_turn mixed (fun d W=>if d=true then W=wE1 else W=wE.drew) 7 [7,8,9] [9] (by kernel_rfl) (by kernel_rfl) (by kernel_rfl) (by kernel_rfl) (fun _ _ d _ _ h=>by cases d<;>exact h) rfl ?_;repeat (first
      | refine seqXF_skip (by rfl) ?_
      | (refine seqXF_val (v:= ?_) (by rfl) (by rfl) ?_ ?_
         rotate_left 1
         (intro W;have hw:=HWW.out;go_simp;(try with_reducible rfl))
         simp only [Act.put,lsA,lsZ,lsS])
      | (refine seqXF_valS (v:=.agg #[.int .i64 x.c,.int .i64 x.l,.int .i64 x.n]) (by rfl) (by kernel_rfl) (by rfl) (fun d W hS=>exec_load_mid 46 (.tmp 27) (by rfl) gE 0 (by rfl) [.int .i64 x.c,.int .i64 x.l,.int .i64 x.n] _ (FS.out d W hS).1 Tryz.underlying46 rfl Tryz.size46) ?_
         simp only [Act.put,lsA,lsZ,lsS])
      | (refine seqXF_valS (v:= ?_) (by rfl) (by kernel_rfl) (by rfl) ?_ ?_
         rotate_left 1
         (intro d W hS;have e1:=(FS.out d W hS).2.1;have e2:=(FS.out d W hS).2.2;go_simp;(try with_reducible rfl))
         simp only [Act.put,lsA,lsZ,lsS]))
     unfold seqXF;refine endF_val (v:=.tuple #[.int .i64 y,goInt st]) (by rfl) (by rfl) (by rfl) (fun W hS=>⟨wE1,by obtain rfl:W=wE.drew:=hS;have hme:=HME.out;go_simp,rfl⟩) ?_;simp only [Act.put,lsA,lsZ,lsS];refine endF_val (v:=goInt st) (by rfl) (by rfl) (by rfl) (fun W hS=>⟨W,by go_simp,hS⟩) ?_;simp only [Act.put,lsA,lsZ,lsS];refine endF_list (by rfl) (by rfl) ?_;intro W hS;obtain rfl:W=wE1:=hS;simp only [List.filterMap_cons,List.filterMap_nil,List.getElem?_toArray,List.getElem?_cons_succ,List.getElem?_cons_zero,List.getElem_toArray,List.getElem_cons_succ,List.getElem_cons_zero,Act.put,lsA,lsZ,lsS];refine wpList_entryStore rfl 160 (.tmp 26) (.tmp 34) (.tmp 32) rfl (w':=wE2) (by show (Instr.entryStore 160 (.map (some lb)) (.int .i64 st) (.int .i64 (IntKind.i64.wrap (y+x.z)))).run Tryz.prog W=.ok () wE2;rw [show IntKind.i64.wrap (y+x.z)=y+x.z from HWI.out];exact HST2.out) ?_;go_wp2_with fail;refine ⟨⟨j+1,by go_num,hlt6,IE2,PE2⟩,?_⟩;simp [intOf];omega
    ·obtain rfl:j=P.length:=by omega
     have q1:¬(P.length:Int)<(P.length:Int):=(by omega)
     go_wp2_with fail;refine ⟨⟨fun z=>left z&&decide (z≠(i:Int)),cnt',c+P.length,lH ?_,?_⟩,?_⟩
     ·have e:(fun x=>g x+liveP (P.take P.length) x)=liveD S.F (fun z=>left z&&decide (z≠(i:Int))):=by
       funext x;rw [HG'.out,HLD.out x,List.take_length]
      have:=HI6.out;rw [e] at this;exact this
     ·have:=HPL.out;omega
     ·rw [HI6.out.rng.left_eq,hLQ.out];exact hlt'
theorem StateAt.set {w:World} {o:Nat→Nat} {K n:Nat} {L:Plc} {S S':St} (h:StateAt w o K L S n) (ok:StOk S) (hf:Fresh w o) (j:Nat) (v:Value) (hS:stC L S'=(stC L S).setIfInBounds j v) (hW:S'.W=S.W) (hT:S'.T=S.T) (hK:S'.K=S.K) (hF:S'.F=S.F) (hU:S'.U=S.U):
  Step (fun c=>c=K+8) w o (w.setCell ⟨L.s,j,none⟩ v) o∧StateAt (w.setCell ⟨L.s,j,none⟩ v) o K L S' n:=by
 have f:Fr (· =L.s) w (w.setCell ⟨L.s,j,none⟩ v):=fr_set w L.s j v;have s:Step (fun c=>c=K+8) w o (w.setCell ⟨L.s,j,none⟩ v) o:=⟨f.mono (fun k _ e=>by rw [e];exact h.own),fun _ _=>rfl,fun k hk=>hf k (Nat.le_trans f.size hk)⟩
 refine ⟨s,⟨h.own,by rw [hS];exact setCell_at h.cs j v,?_,?_,?_,?_,?_⟩⟩
 ·rw [hW];exact h.win.step s (by omega) (by omega)
 ·rw [hT];exact h.tree.step ok.tree s (fun c e=>by unfold treeC at e;omega)
 ·rw [hK];exact h.tok.step s (by omega) (by omega)
 ·rw [hF];exact h.files.step ok.file s (by omega) (fun i hi c e=>by unfold fileC at e;omega)
 ·rw [hU];exact h.uses.step s (by omega)
def updN (f:Nat→Int) (k:Nat) (v:Int):Nat→Int:=fun i=>if i=k then v else f i
theorem stC_next (L:Plc) (S:St) (k:Nat) (hk:k<5) (v:Int):stC L {S with next:=updN S.next k v}=(stC L S).setIfInBounds (3+k) (.int .i64 v):=by
 match k,hk with
 | 0,_=>simp [stC,updN]
 | 1,_=>simp [stC,updN]
 | 2,_=>simp [stC,updN]
 | 3,_=>simp [stC,updN]
 | 4,_=>simp [stC,updN]
def addU (clock:Int) (st:List Sz) (U:Stp→Option Us):Stp→Option Us:=st.foldl (fun U x=>fun z=>if z=x.1 then some (x.2,0,clock) else U z) U
def addS (S:St) (st:List Sz) (k:Nat) (nx:Int):St:={S with U:=addU S.clock st S.U,next:=updN S.next k nx}
theorem addU_snoc (c:Int) (st:List Sz) (x:Sz) (U:Stp→Option Us):addU c (st++ [x]) U=fun z=>if z=x.1 then some (x.2,0,c) else addU c st U z:=by
 simp [addU]
def AddPost (w:World) (o:Nat→Nat) (K:Nat) (L:Plc) (n:Nat) (S':St) (e:Ending) (w':World):Prop:=e=.returned (.tuple #[])∧∃o',Step (fun c=>c=K+7∨c=K+8) w o w' o'∧StateAt w' o' K L S' n
theorem StOk.addS {S:St} (ok:StOk S) (st:List Sz) (k:Nat) (nx:Int):StOk (addS S st k nx):=⟨ok.tree,ok.file⟩
theorem add_ (o:Nat→Nat) (K n:Nat) (L:Plc) (S:St) (r:Req) (rv dv:Value) (st:List Sz) (k:Nat) (w:World) (h:StateAt w o K L S n) (ok:StOk S) (hf:Fresh w o) (hr:RowsAt szC 4 w o rv st) (hg:∀x∈st,stpGood x.1) (hk:k<5) (hlen:st.length≤1000000) (hn:n≤1000000000):
  Calls Tryz.prog 95 #[.pointer (some ⟨L.s,0,none⟩),.agg (r.cells rv dv),.int .i64 k] w (AddPost w o K L (n+st.length) (addS S st k r.nx)):=by
 have mixed:Tryz.prog.follows .mixedOrders=true:=by kernel_rfl
 obtain ⟨base,cap,rfl⟩:=hr.slice;have f0:Fr No w (w.alloc (.cells (r.cells (.slice base st.length cap) dv) 36)):=(Fr.refl w).alloc _;have k0:=new_at w (.cells (r.cells (.slice base st.length cap) dv) 36);have F0:=lH f0;have H0:=lH (h.no ok hf f0);have R0:=lH (hr.no hf f0);have G0:Hid (Fresh _ o):=lH (Step.no (C:=fun _=>False) hf f0).fresh;have OK:=lH ok;have HG:=lH hg;have HLN:=lH hlen;have HN:=lH hn;have hq1:(0:Int)≤(k:Int):=by omega
 have hq2:(k:Int)<5:=by omega
 have hq3:¬(k:Int)<0:=by omega
 have hq4:¬(5:Int)≤(k:Int):=by omega
 obtain ⟨huo,cu,hcu,hum⟩:=H0.out.uses;have HUO:=lH huo;have HUM:=lH hum;have HCU:=lH hcu;have HSO:=lH H0.out.own;have HF0:=lH hf;have HQ:Hid (∀e w' o',e=.returned (.tuple #[])→Step (fun c=>c=K+7∨c=K+8) w o w' o'→StateAt w' o' K L (addS S st k r.nx) (n+st.length)→AddPost w o K L (n+st.length) (addS S st k r.nx) e w'):=lH (fun e w' o' he s t=>⟨he,o',s,t⟩);generalize hQQ:AddPost w o K L (n+st.length) (addS S st k r.nx)=Q at*;clear hQQ h ok hf hr hg f0 hlen huo hcu hum hn;unfold Req.cells at*;have hsl:(w.alloc (.cells #[.int .i64 r.c,.int .i64 r.l,.int .i64 r.q,.int .i64 r.kind,.string (ba r.path),.string (ba r.to),.bool r.dir,.bool r.wr,.bool r.cl,.int .i64 r.h,.int .i64 r.nx,.int .i64 r.sw,.slice base st.length cap,dv] 36)).cell? ⟨w.heap.size,12,none⟩=some (.slice base st.length cap):=by rw [cell_at k0];rfl
 have D10:Hid ((w.alloc (.cells #[.int .i64 r.c,.int .i64 r.l,.int .i64 r.q,.int .i64 r.kind,.string (ba r.path),.string (ba r.to),.bool r.dir,.bool r.wr,.bool r.cl,.int .i64 r.h,.int .i64 r.nx,.int .i64 r.sw,.slice base st.length cap,dv] 36)).cell? ⟨w.heap.size,10,none⟩=some (.int .i64 r.nx)):=lH (by rw [cell_at k0];rfl);go_enter Tryz.func95,Tryz.ntmps95;go_wp2_with fail;generalize (w.alloc (.cells #[.int .i64 r.c,.int .i64 r.l,.int .i64 r.q,.int .i64 r.kind,.string (ba r.path),.string (ba r.to),.bool r.dir,.bool r.wr,.bool r.cl,.int .i64 r.h,.int .i64 r.nx,.int .i64 r.sw,.slice base st.length cap,dv] 36))=w0 at*;have HB0:Hid (w.heap.size<w0.heap.size):=lH (lt_of_block k0);have HBW:Hid (o w.heap.size=0):=lH (HF0.out _ (Nat.le_refl _));generalize hb0:w.heap.size=b0 at*;clear k0 hsl;have HUE:Hid (∀z,usem (addU S.clock [] S.U) z=usem S.U z):=lH (fun _=>rfl);go_loopw [11] (fun a wr=>∃(j c:Nat),a=.int .i64 j∧j≤st.length∧Hid (MapAt encU wr L.us c (usem (addU S.clock (st.take j) S.U)))∧c≤cu+j∧Hid (Fr (· =L.us) w0 wr)) (fun a _=>st.length - (intOf a).toNat)
 case atStart=>exact ⟨0,cu,rfl,Nat.zero_le _,HUM,by omega,lH (Fr.refl _)⟩
 case round=>
  obtain ⟨j,c,rfl,hj,HM,hcj,HF⟩:=hrel;have HSTEP:Hid (Step (fun c=>c=K+7) w0 o wr o):=lH ⟨HF.out.mono (fun i _ e=>by rw [e];exact HUO.out),fun _ _=>rfl,fun i hi=>G0.out i (Nat.le_trans HF.out.size hi)⟩;by_cases hlt:j<st.length
  ·have hne:st≠ []:=by
    intro e;subst e;simp at hlt
   obtain ⟨b,off,rfl,ho,hbl,hrows⟩:=(R0.out.step HSTEP.out (by omega)).at hne;have HRR:=lH (hrows j st[j] (List.getElem?_eq_getElem hlt));have hgx:=HG.out st[j] (List.getElem_mem hlt);have HTK:Hid (addU S.clock (st.take (j+1)) S.U=fun z=>if z=st[j].1 then some (st[j].2,0,S.clock) else addU S.clock (st.take j) S.U z):=lH (by
    rw [List.take_add_one,List.getElem?_eq_getElem hlt,Option.toList_some,addU_snoc])
   have q1:(j:Int)<(st.length:Int):=(by omega)
   have q3:(0:Int)≤(j:Int):=(by omega)
   generalize st[j]=x at*;unfold szC at HRR;have fX:Fr No wr (wr.alloc (.cells #[.int .i64 x.1.1,.int .i64 x.1.2.1,.int .i64 x.1.2.2,.int .i64 x.2] 114)):=(Fr.refl wr).alloc _;have kX:=new_at wr (.cells #[.int .i64 x.1.1,.int .i64 x.1.2.1,.int .i64 x.1.2.2,.int .i64 x.2] 114);have HTX:Hid (L.us<wr.heap.size):=lH HM.out.lt;have KX:=lH kX;have FX:=lH fX;have HGX:=lH hgx;clear hrows kX fX hgx;go_upto_region 4 with (refine wpList_load_mid (by rfl) 114 _ (by rfl) b (off+j*4) (by rfl) [.int .i64 x.1.1,.int .i64 x.1.2.1,.int .i64 x.1.2.2,.int .i64 x.2] _ HRR.out Tryz.underlying114 rfl Tryz.size114 ?_)
   generalize wr.alloc (.cells #[.int .i64 x.1.1,.int .i64 x.1.2.1,.int .i64 x.1.2.2,.int .i64 x.2] 114)=wX at*;generalize wr.heap.size=tX at*;have fD:Fr No wr wX.drew:=FX.out.trans (Fr.refl _).drew (fun _ _ e=>e);have hcb:c<4611686018427387904:=(by have:=HLN.out;have:=HCU.out;have:=HN.out;omega)
   obtain ⟨wE,hput,hmE,fE⟩:=(HM.out.fr fD id).put x.1 (x.1,(x.2,0,S.clock)) HGX.out trivial hcb (t:=101) (e:=80) Tryz.underlying101;have hput':(Instr.mapUpdate 101 (.map (some L.us)) (.agg #[.int .i64 x.1.1,.int .i64 x.1.2.1,.int .i64 x.1.2.2]) (.agg #[.int .i64 x.1.1,.int .i64 x.1.2.1,.int .i64 x.1.2.2,.int .i64 x.2,.int .i64 0,.int .i64 S.clock])).run Tryz.prog wX.drew=.ok () wE:=hput;have HPUT:=lH hput';obtain ⟨c',hc'⟩:∃c',(if (usem (addU S.clock (st.take j) S.U) x.1).isSome then c else c+1)=c':=⟨_,rfl⟩
   rw [hc'] at hmE;have hcle:c'≤c+1:=(by rw [← hc'];split<;>omega)
   have HME:Hid (MapAt encU wE L.us c' (usem (addU S.clock (st.take (j+1)) S.U))):=lH (by
    have e:usem (addU S.clock (st.take (j+1)) S.U)=fun z=>if z=x.1 then some (x.1,(x.2,0,S.clock)) else usem (addU S.clock (st.take j) S.U) z:=by
     funext z;unfold usem;rw [HTK.out];by_cases e:z=x.1
     ·subst e;simp
     ·simp [e]
    rw [e];exact hmE)
   have HFE:Hid (Fr (· =L.us) w0 wE):=lH (HF.out.trans (fD.of_no.trans fE (fun _ _ e=>e)) (fun _ _ e=>e));have kD:=(Fr.refl (S:=No) wX).drew.block_of KX.out id;have RX:Hid (wX.drew.rangeAt tX 0 [.int .i64 x.1.1,.int .i64 x.1.2.1,.int .i64 x.1.2.2]):=lH (World.rangeAt_of_block kD 0 3);have P3:Hid (wX.drew.cell? ⟨tX,3,none⟩=some (.int .i64 x.2)):=lH (by rw [cell_at kD];rfl);have HNE:Hid (L.s≠L.us):=lH (fun e=>by have a:=HSO.out;rw [e,HUO.out] at a;omega);have C2:Hid (wX.drew.cell? ⟨L.s,2,none⟩=some (.int .i64 S.clock)):=lH (fD.cell_of (HF.out.cell_of (H0.out.cell 2) HNE.out) id);have C12:Hid (wX.drew.cell? ⟨L.s,12,none⟩=some (.map (some L.us))):=lH (fD.cell_of (HF.out.cell_of (H0.out.cell 12) HNE.out) id);have hbd:∀W:World,(Instr.build 80 #[(0,.agg #[.int .i64 x.1.1,.int .i64 x.1.2.1,.int .i64 x.1.2.2]),(1,.int .i64 x.2),(3,.int .i64 S.clock)]).run Tryz.prog W=.ok (.agg #[.int .i64 x.1.1,.int .i64 x.1.2.1,.int .i64 x.1.2.2,.int .i64 x.2,.int .i64 0,.int .i64 S.clock]) W:=fun W=>by kernel_rfl
   have HBD:=lH hbd;have hbig:st.length≤1000000:=HLN.out;clear fD hput hput' hmE fE hc' kD hbd;refine wp_region_text mixed (fun W=>W=wX.drew) [15] (by kernel_rfl) (by kernel_rfl) (by kernel_rfl) (by kernel_rfl) (fun _ _ d _ _ h=>by cases d<;>exact h) rfl ?_;repeat (first
    | refine seqX_skip (by rfl) ?_
    | (refine seqX_val (v:= ?_) (by rfl) (by rfl) ?_ ?_
       rotate_left 1
       (intro W;have hv0:=HBD.out W;go_simp;(try with_reducible rfl))
       simp only [Act.put,lsA,lsZ,lsS])
    | (refine seqX_no (by rfl) (by rfl) ?_
       simp only [Act.put,lsA,lsZ,lsS])
    | (refine seqX_valS (v:=.agg #[.int .i64 x.1.1,.int .i64 x.1.2.1,.int .i64 x.1.2.2]) (by rfl) (by kernel_rfl) (by rfl) (fun W hS=>exec_load_mid 46 (.tmp 19) (by rfl) tX 0 (by rfl) [.int .i64 x.1.1,.int .i64 x.1.2.1,.int .i64 x.1.2.2] _ (by rw [hS];exact RX.out) Tryz.underlying46 rfl Tryz.size46) ?_
       simp only [Act.put,lsA,lsZ,lsS])
    | (refine seqX_valS (v:=.agg #[.int .i64 x.1.1,.int .i64 x.1.2.1,.int .i64 x.1.2.2]) (by rfl) (by kernel_rfl) (by rfl) (fun W hS=>exec_load_mid 46 (.tmp 21) (by rfl) tX 0 (by rfl) [.int .i64 x.1.1,.int .i64 x.1.2.1,.int .i64 x.1.2.2] _ (by rw [hS];exact RX.out) Tryz.underlying46 rfl Tryz.size46) ?_
       simp only [Act.put,lsA,lsZ,lsS])
    | (refine seqX_valS (v:= ?_) (by rfl) (by kernel_rfl) (by rfl) ?_ ?_
       rotate_left 1
       (intro W hS;have e0:W.cell? ⟨tX,3,none⟩=some (.int .i64 x.2):=(by rw [hS];exact P3.out);have e1:W.cell? ⟨L.s,2,none⟩=some (.int .i64 S.clock):=(by rw [hS];exact C2.out);have e2:W.cell? ⟨L.s,12,none⟩=some (.map (some L.us)):=(by rw [hS];exact C12.out);clear hS;go_simp;(try with_reducible rfl))
       simp only [Act.put,lsA,lsZ,lsS]))
   intro W hS;obtain rfl:W=wX.drew:=hS;simp only [List.reverse_cons,List.reverse_nil,List.nil_append,List.cons_append];have hpu:=HPUT.out;go_wp2_with fail;go_roundw
   case rel=>exact ⟨j+1,c',by go_num,hlt,HME,by omega,HFE⟩
   case measure=>simp [intOf];omega
  ·have hjl:j=st.length:=by omega
   have q1:¬(j:Int)<(st.length:Int):=(by omega)
   have HM2:Hid (MapAt encU wr L.us c (usem (addU S.clock st S.U))):=lH (by have:=HM.out;rw [hjl,List.take_length] at this;exact this);have HST:Hid (StateAt wr o K L {S with U:=addU S.clock st S.U} (n+st.length)):=lH (H0.out.newUses (by omega) OK.out HSTEP.out ⟨HUO.out,c,by have:=HCU.out;omega,HM2.out⟩);have HNE:Hid (L.s≠L.us):=lH (fun e=>by have a:=HSO.out;rw [e,HUO.out] at a;omega);have e10:wr.cell? ⟨b0,10,none⟩=some (.int .i64 r.nx):=HF.out.cell_of D10.out (fun e=>by have e2:b0=L.us:=e;have a:=HBW.out;rw [e2,HUO.out] at a;omega);have E10:=lH ((Fr.refl (S:=No) wr).drew.cell_of e10 id);have hfr:Fresh wr o:=HSTEP.out.fresh;have ok2:StOk {S with U:=addU S.clock st S.U}:=⟨OK.out.tree,OK.out.file⟩
   have hsd:=HST.out.no ok2 hfr (Fr.refl (S:=No) wr).drew;have hfd:Fresh wr.drew o:=(Step.no (C:=fun _=>False) hfr (Fr.refl (S:=No) wr).drew).fresh;obtain ⟨sN,tN⟩:=hsd.set (S':=addS S st k r.nx) ok2 hfd (3+k) (.int .i64 r.nx) (stC_next L {S with U:=addU S.clock st S.U} k hk r.nx) rfl rfl rfl rfl rfl;have EN:Hid (∃u,wr.drew.cell? ⟨L.s,3+k,none⟩=some u):=lH ⟨_,next_cell hsd k hk⟩;have EF:Hid (wr.drew.frozen? ⟨L.s,3+k,none⟩=false):=lH (frozen_at hsd.cs _);have TN:=lH tN;have SN:Hid (Step (fun c=>c=K+7∨c=K+8) w o (wr.drew.setCell ⟨L.s,3+k,none⟩ (.int .i64 r.nx)) o):=lH ((((Step.no (C:=fun _=>False) HF0.out F0.out).mono (fun _ e=>e.elim)).trans (HSTEP.out.mono (fun _ e=>Or.inl e)) (fun _ e=>e)).trans (((Step.no (C:=fun _=>False) hfr (Fr.refl (S:=No) wr).drew).mono (fun _ e=>e.elim)).trans (sN.mono (fun _ e=>Or.inr e)) (fun _ e=>e)) (fun _ e=>e));clear hjl e10 hfr ok2 hsd hfd sN tN;go_wp2_with fail;refine wp_region_text mixed (fun W=>W=wr.drew) [7] (by kernel_rfl) (by kernel_rfl) (by kernel_rfl) (by kernel_rfl) (fun _ _ d _ _ h=>by cases d<;>exact h) rfl ?_;repeat (first
    | refine seqX_skip (by rfl) ?_
    | (refine seqX_val (v:= ?_) (by rfl) (by rfl) ?_ ?_
       rotate_left 1
       (intro W;go_simp;(try with_reducible rfl))
       simp only [Act.put,lsA,lsZ,lsS])
    | (refine seqX_no (by rfl) (by rfl) ?_
       simp only [Act.put,lsA,lsZ,lsS])
    | (refine seqX_valS (v:= ?_) (by rfl) (by kernel_rfl) (by rfl) ?_ ?_
       rotate_left 1
       (intro W hS;have e0:W.cell? ⟨b0,10,none⟩=some (.int .i64 r.nx):=(by rw [hS];exact E10.out);clear hS;go_simp;(try with_reducible rfl))
       simp only [Act.put,lsA,lsZ,lsS]))
   intro W hS;obtain rfl:W=wr.drew:=hS;simp only [List.reverse_cons,List.reverse_nil,List.nil_append,List.cons_append];obtain ⟨u,hu⟩:=EN.out;have hfz:=EF.out;go_wp2_with fail;exact bodyPost_end (v:=.tuple #[]) (by simp [results,Tryz.results95,go_sem]) rfl (HQ.out _ _ _ rfl SN.out TN.out)
theorem make_num {T:Tree} (ht:TreeOk T) {l:List UInt8} (h:(makeOf T l).1=0):1≤(makeOf T l).2∧(makeOf T l).2≤128:=by
 have a:=make_adds ht h;have e:(makeOf T l).2=free T:=by
  unfold makeOf at h ⊢;split at h
  ·cases h
  ·split at h
   ·rename_i h1
    exact absurd h h1
   ·split at h
    ·cases h
    ·split at h
     ·cases h
     ·rename_i h1 h2 h3 h4
      rw [if_neg h1,if_neg h2,if_neg h3,if_neg h4]
 rw [e];exact ⟨by have:=a.two;omega,a.most⟩
def makeS (S:St) (r:Req):St:={S with T:=madeT S.T r.path r.dir,F:=if r.dir=true then S.F else updF S.F (makeOf S.T r.path).2 (some noFile)}
def makeD (S:St) (r:Req):Int×RepS×St:=
 if (makeOf S.T r.path).1=0 then (0,plainRep 0 (makeOf S.T r.path).2 0 0 0 false,makeS S r) else ((makeOf S.T r.path).1,noRep,S)
theorem makeS_ok {S:St} (ok:StOk S) {r:Req} (h:(makeOf S.T r.path).1=0):StOk (makeS S r):=by
 unfold makeS;cases r.dir with
 | true=>exact ok.newTree (madeT_ok ok.tree r.path true)
 | false=>exact StOk.newFile (S:={S with T:=madeT S.T r.path false}) (ok.newTree (madeT_ok ok.tree r.path false)) (make_num ok.tree h) noFile_len
theorem Deed.no' {C:Nat→Prop} {w w' w'':World} {o o':Nat→Nat} {K n:Nat} {L:Plc} {S:St} {x:Int} {r:RepS} {e:Ending} (hf:Fresh w o) (f:Fr No w w') (s:Step C w' o w'' o') (hC:∀c,C c→stateC K c) (t:StateAt w'' o' K L S n) (hx:x≠0) (he:e=.panicked (refC x)):Deed w o K L n (x,r,S) e w'':=
 ⟨⟨o',(((Step.no (C:=fun _=>False) hf f).mono (fun _ e=>e.elim)).trans s (fun _ e=>e)).mono hC,t⟩,by rw [if_neg hx];exact he⟩
theorem fnew' (w:World):Calls Tryz.prog 132 #[] w fun e w'=>e=.returned (.pointer (some ⟨w.heap.size,0,none⟩))∧Hid (w'=freshW w):=(fnew_ w).mono (fun _ _ h=>⟨h.1,lH h.2⟩)
theorem dmake_ (o:Nat→Nat) (K n:Nat) (L:Plc) (S:St) (r:Req) (rv dv:Value) (w:World) (h:StateAt w o K L S n) (ok:StOk S) (hf:Fresh w o) (hl:r.path.length≤1000000) (hn:n<4611686018427387904):
  Calls Tryz.prog 82 #[.pointer (some ⟨L.s,0,none⟩),.agg (r.cells rv dv)] w (Deed w o K L (n+1) (makeD S r)):=by
 obtain ⟨f0,k0,k1,H0,G0⟩:=begun h ok hf r rv dv;have F0:=lH f0;have HL:Hid (∀w',Fr No (deedW w r rv dv) w'→Calls Tryz.prog 131 #[.pointer (some ⟨L.tr,0,none⟩),.string (ba r.path),.bool r.dir] w' (GMake w' o K L.tr S.T r.path r.dir)):=
  lH (fun w' f=>gmake_ o K L.tr S.T r.path r.dir w' hl ((H0.no ok G0 f).tree) ok.tree (Step.no (C:=fun _=>False) G0 f).fresh)
 have HT:Hid (∀w1 o1,Step (treeC K) (deedW w r rv dv).drew o w1 o1→TreeAt w1 o1 K L.tr (madeT S.T r.path r.dir)→StateAt w1 o1 K L {S with T:=madeT S.T r.path r.dir} n∧StOk {S with T:=madeT S.T r.path r.dir}):=
  lH (fun w1 o1 s t=>⟨(H0.no ok G0 (Fr.refl _).drew).newTree ok s t,ok.newTree (madeT_ok ok.tree _ _)⟩)
 have HE:Hid ((makeOf S.T r.path).1≠0→madeT S.T r.path r.dir=S.T):=lH (fun hne=>if_neg hne);have HR:Hid ((makeOf S.T r.path).1≠0→∀e w' w'' o',e=.panicked (refC (makeOf S.T r.path).1)→Fr No w w'→Step (treeC K) w' o w'' o'→StateAt w'' o' K L S n→Deed w o K L (n+1) (makeD S r) e w''):=lH (fun hne e w' w'' o' he f s t=>by
  unfold makeD;rw [if_neg hne];exact Deed.no' hf f s (fun _ e=>treeC_state e) (t.more (Nat.le_succ n)) hne he)
 have HQ:Hid ((makeOf S.T r.path).1=0→∀e w' w'' w3 o',e=.returned (plainV 0 (makeOf S.T r.path).2 0 0 0 false)→Fr No w w'→w.heap.size+1<w'.heap.size→Step (fun c=>treeC K c∨c=K+6) w' o w'' o'→StateAt w'' o' K L (makeS S r) (n+1)→Fr (fun j=>j=w.heap.size+1) w'' w3→Deed w o K L (n+1) (makeD S r) e w3):=lH (fun h0 e w' w'' w3 o' he f hs s t g=>by
  unfold makeD;rw [if_pos h0];exact Deed.yes hf f s (fun c e=>by rcases e with e|e;exact treeC_state e;unfold stateC;omega) (by omega) hs g (makeS_ok ok h0) t he (RepAt.plain _ _ _ _ _ _ _))
 generalize hQ:Deed w o K L (n+1) (makeD S r)=Q at*;clear hQ;have HMS:Hid (makeS S r={S with T:=madeT S.T r.path r.dir,F:=if r.dir=true then S.F else updF S.F (makeOf S.T r.path).2 (some noFile)}):=lH rfl;generalize makeS S r=SM at*;have HNUM:=lH (fun h0=>make_num ok.tree (l:=r.path) h0);have NS:Hid (¬treeC K (o L.s)):=lH (by rw [h.own];unfold treeC;omega);have NB:Hid (¬treeC K (o w.heap.size)):=lH (by rw [hf _ (Nat.le_refl _)];unfold treeC;omega);have NR:Hid (¬treeC K (o (w.heap.size+1))):=lH (by rw [hf _ (Nat.le_succ _)];unfold treeC;omega);have OB:Hid (o (w.heap.size+1)=0):=lH (hf _ (Nat.le_succ _));have HH:=lH H0;have HN:=lH hn;clear H0 G0 f0 h ok hf hl hn;unfold GMake at HL;generalize makeOf S.T r.path=X at*;obtain ⟨er,i⟩:=X;dsimp only at HL HR HQ HNUM HE HMS;generalize madeT S.T r.path r.dir=T' at*;unfold deedW Req.cells noRep RepS.cells at*;generalize hrd:r.dir=rd at*;go_enter Tryz.func82,Tryz.ntmps82;go_wp2_with fail;generalize (w.alloc (.cells #[.int .i64 r.c,.int .i64 r.l,.int .i64 r.q,.int .i64 r.kind,.string (ba r.path),.string (ba r.to),.bool rd,.bool r.wr,.bool r.cl,.int .i64 r.h,.int .i64 r.nx,.int .i64 r.sw,rv,dv] 36)).alloc (.cells #[.int .i64 0,.int .i64 0,.int .i64 0,.int .i64 0,.int .i64 0,.bool false,.slice none 0 0,.slice none 0 0] 29)=w0 at*;have B1:=lH (lt_of_block k1);generalize hb0:w.heap.size=b0 at*;have c9:w0.cell? ⟨L.s,9,none⟩=some (.pointer (some ⟨L.tr,0,none⟩)):=HH.out.cell 9;have d4:w0.cell? ⟨b0,4,none⟩=some (.string (ba r.path)):=by rw [cell_at k0];rfl
 have d6:w0.cell? ⟨b0,6,none⟩=some (.bool rd):=by rw [cell_at k0];rfl
 have K1:=lH k1;clear k0 k1;go_region_held3 (fun w'=>w'.cell? ⟨L.s,9,none⟩=some (.pointer (some ⟨L.tr,0,none⟩))∧w'.cell? ⟨b0,4,none⟩=some (.string (ba r.path))∧w'.cell? ⟨b0,6,none⟩=some (.bool rd)) (first|go_keep|(go_split_ands;refine ⟨?_,?_,?_⟩<;>exact s1.fr.cell_of (by assumption) (by first|exact NS.out|exact NB.out)))
  ((go_at_call 131;refine (HL.out _ (Fr.refl _).drew).mono ?_;rintro e w1 ⟨rfl,o1,s1,t1⟩))
 have SZ:Hid (b0+1<w0.drew.heap.size):=lH (by simpa using B1.out);have FF:=lH (F0.out.trans (Fr.refl w0).drew (fun _ _ e=>e));obtain ⟨st1,ok1⟩:=HT.out w1 o1 s1 t1;have ST1:=lH st1;have OK1:=lH ok1;have S1:=lH s1;have KK:=lH (s1.fr.block_of ((Fr.refl (S:=No) w0).drew.block_of K1.out id) NR.out);clear st1 ok1 s1 t1 c9 d4;cases hx:(er==0) with
 | false=>
  have hne:er≠0:=by simpa using hx
  have HX:=lH (HR.out hne _ _ _ _ rfl FF.out S1.out (by have:=ST1.out;rw [HE.out hne] at this;exact this));go_wp2_with fail;refine (must_no _ _).mono ?_;rintro e w2 ⟨rfl,rfl⟩;go_wp2_with fail;exact ⟨rfl,HX.out⟩
 | true=>
  obtain rfl:er=0:=by simpa using hx
  clear hx;have hi:1≤i∧i≤128:=HNUM.out rfl;have hbd:∀w':World,(Instr.build 29 #[(1,.int .i64 i)]).run Tryz.prog w'=.ok (.agg #[.int .i64 0,.int .i64 i,.int .i64 0,.int .i64 0,.int .i64 0,.bool false,.slice none 0 0,.slice none 0 0]) w':=fun w'=>by kernel_rfl
  have HOC:=lH (show (#[.int .i64 0,.int .i64 i,.int .i64 0,.int .i64 0,.int .i64 0,.bool false,.slice none 0 0,.slice none 0 0]:Array Value).all (·.oneCell')=true from by simp [Value.oneCell']);have D6:w1.cell? ⟨b0,6,none⟩=some (.bool rd):=S1.out.fr.cell_of d6 NB.out;cases rd with
  | true=>
   have HX:=lH (fun e w3 he g=>HQ.out rfl e _ _ w3 _ he FF.out SZ.out (S1.out.mono (fun _ h=> .inl h)) (by rw [HMS.out,if_pos rfl];exact ST1.out.more (Nat.le_succ n)) g);go_wp2_with fail;refine (must_yes _ _).mono ?_;rintro e w2 ⟨rfl,rfl⟩;go_wp2_with (refine wpList_store_row rfl 29 (.tmp 4) (.tmp 33) rfl (b0+1) #[.int .i64 0,.int .i64 i,.int .i64 0,.int .i64 0,.int .i64 0,.bool false,.slice none 0 0,.slice none 0 0] rfl rfl 29 _ KK.out Tryz.size29 rfl HOC.out ?_);have KF:=setRow_at (cs':= #[.int .i64 0,.int .i64 i,.int .i64 0,.int .i64 0,.int .i64 0,.bool false,.slice none 0 0,.slice none 0 0]) KK.out;exact bodyPost_ret (v:=plainV 0 i 0 0 0 false) (results_cell_row rfl _ _ (b0+1) 29 _ (0,0) _ rfl KF Tryz.underlying29 rfl Tryz.size29) rfl
    (HX.out _ _ rfl (Fr.setRow (S:=fun j=>j=b0+1) (Fr.refl _) (.inl rfl) _))
  | false=>
   have c11:w1.cell? ⟨L.s,11,none⟩=some (.map (some L.fl)):=ST1.out.cell 11;go_wp2_with fail;refine (must_yes _ _).mono ?_;rintro e w2 ⟨rfl,rfl⟩;go_wp2_with fail;have STD:=lH (ST1.out.no OK1.out S1.out.fresh (Fr.refl w2).drew);have FD:Hid (Fresh w2.drew o1):=lH (Step.no (C:=fun _=>False) S1.out.fresh (Fr.refl w2).drew).fresh;have NF:Hid (L.s≠L.fl):=lH (by
    intro e;have a:=STD.out.own;have b:=STD.out.files.1;rw [e] at a;omega)
   go_region_held3 (fun w'=>w'.cell? ⟨L.s,11,none⟩=some (.map (some L.fl))) (first|go_keep|exact f5.cell_of (by assumption) id|exact g6.cell_of (by assumption) NF.out)
    ((go_at_call 132;refine (fnew' _).mono ?_;rintro e w5 ⟨rfl,h5⟩;have f5:Fr No w2.drew w5:=(by rw [h5.out];exact (Fr.refl _).alloc _);obtain ⟨w6,hu,g6,s6,F6⟩:=FilesAt.make STD.out.files FD.out i (by omega) HN.out;rw [← h5.out] at hu g6;have hu2:(Instr.mapUpdate 100 (.map (some L.fl)) (.int .i64 i) (.pointer (some ⟨w2.heap.size,0,none⟩))).run Tryz.prog w5=.ok () w6:=(by simpa using hu)))
   have SS:Hid (Step (fun c=>treeC K c∨c=K+6) w0.drew o w6 (paint o1 w2.drew.heap.size (K+3000+i))):=lH ((S1.out.mono (fun _ h=> .inl h)).trans (((Step.no (C:=fun _=>False) S1.out.fresh (Fr.refl w2).drew).mono (fun _ e=>e.elim)).trans (s6.mono (fun _ h=>Or.inr h)) (fun _ e=>e)) (fun _ e=>e));have ST6:=STD.out.newFiles (Nat.le_succ n) OK1.out s6 F6;have K6:=lH (g6.block_of (f5.block_of ((Fr.refl (S:=No) w2).drew.block_of KK.out id) id) (by
    intro e;have a:=S1.out.old _ SZ.out;have b:=STD.out.files.1;rw [OB.out,e,b] at a;omega))
   have HX:=lH (fun e w3 he g=>HQ.out trivial e _ _ w3 _ he FF.out SZ.out SS.out (by rw [HMS.out,if_neg (by decide)];exact ST6) g);clear hu hu2 g6 s6 F6 f5 ST6;go_wp2_with (refine wpList_store_row rfl 29 (.tmp 4) (.tmp 33) rfl (b0+1) #[.int .i64 0,.int .i64 i,.int .i64 0,.int .i64 0,.int .i64 0,.bool false,.slice none 0 0,.slice none 0 0] rfl rfl 29 _ K6.out Tryz.size29 rfl HOC.out ?_);have KF:=setRow_at (cs':= #[.int .i64 0,.int .i64 i,.int .i64 0,.int .i64 0,.int .i64 0,.bool false,.slice none 0 0,.slice none 0 0]) K6.out;exact bodyPost_ret (v:=plainV 0 i 0 0 0 false) (results_cell_row rfl _ _ (b0+1) 29 _ (0,0) _ rfl KF Tryz.underlying29 rfl Tryz.size29) rfl
    (HX.out _ _ rfl (Fr.setRow (S:=fun j=>j=b0+1) (Fr.refl _) (.inl rfl) _))
def penPtr (s:PenS) (x:Pt):PenS:=penNum (penNum (penNum (penNum (penNum s x.c 1) x.l 3) x.n 4) x.a 2) x.z 1
def penMap (s:PenS) (m:FMap):PenS:=m.l.foldl penPtr (penNum s m.size 2)
theorem Pg.is {w:World} {p base:Nat} {s:PenS} (h:Pg w p base s):∃cs,w.heap[p]? =some (.cells cs 122 (0,0)):=by
 obtain ⟨v,hk,_⟩:=h;exact ⟨_,hk⟩
theorem pf_keeps {w w':World} {p base k:Nat} {s:PenS} {cs:Array Value} {t:TypeId} {fz:Nat×Nat} (h:Pg w p base s) (f:Fr (Pf w p base) w w') (hk:w.heap[k]? =some (.cells cs t fz)) (h5:t≠5) (h122:t≠122):w'.heap[k]? =some (.cells cs t fz):=
 pf_of f hk h5 (fun e=>by
  obtain ⟨c2,h2⟩:=h.is;rw [e,h2] at hk;simp only [Option.some.injEq,Obj.cells.injEq] at hk;exact h122 hk.2.1.symm)
theorem RowB.pf {α:Type} {c:α→List Value} {n:Nat} {t:TypeId} {w w':World} {p base b cap:Nat} {s:PenS} {L:List α} (h:RowB c n t w b cap L) (g:Pg w p base s) (f:Fr (Pf w p base) w w') (h5:t≠5) (h122:t≠122):RowB c n t w' b cap L:=by
 obtain ⟨⟨cur,h1,h2⟩,h3,h4⟩:=h;have h6:=pf_keeps g f h1 h5 h122;exact ⟨⟨cur,h6,h2⟩,h3,fun j x hj i u hu=>by
  have:=h4 j x hj i u hu;rw [cell_at h1] at this;rw [cell_at h6];exact this⟩
theorem FileR.pf {w w':World} {p base k:Nat} {s:PenS} {m:FMap} (h:FileR w k m) (g:Pg w p base s) (f:Fr (Pf w p base) w w'):FileR w' k m:=by
 obtain ⟨v,h1,h2⟩:=h;refine ⟨v,pf_keeps g f h1 (by decide) (by decide),?_⟩;rcases h2 with h2|⟨b,cap,e,hm,hr⟩
 ·exact .inl h2
 ·exact .inr ⟨b,cap,e,hm,hr.pf g f (by decide) (by decide)⟩
def PenPost (w:World) (p base:Nat) (s:PenS) (e:Ending) (w':World):Prop:=e=.returned (.tuple #[])∧Pg w' p base s∧Fr (Pf w p base) w w'
theorem putptr_ (p base:Nat) (s:PenS) (x:Pt) (w:World) (h:Pg w p base s):Calls Tryz.prog 116 #[.pointer (some ⟨p,0,none⟩),ptV x] w (PenPost w p base (penPtr s x)):=by
 have f0:Fr No w (w.alloc (.cells #[.int .i64 x.c,.int .i64 x.l,.int .i64 x.n,.int .i64 x.a,.int .i64 x.z] 59)):=(Fr.refl w).alloc _;have k0:=new_at w (.cells #[.int .i64 x.c,.int .i64 x.l,.int .i64 x.n,.int .i64 x.a,.int .i64 x.z] 59);have HR:Hid (∀e w',e=.returned (.tuple #[])→Pg w' p base (penPtr s x)→Fr (Pf w p base) w w'→PenPost w p base (penPtr s x) e w'):=lH (fun e w' a b c=>⟨a,b,c⟩);have hp:Hid (penPtr s x=penNum (penNum (penNum (penNum (penNum s x.c 1) x.l 3) x.n 4) x.a 2) x.z 1):=lH rfl;generalize hQ:PenPost w p base (penPtr s x)=Q at*;clear hQ;have G0:=lH (h.no f0);have F0:Hid (Fr (Pf w p base) w (w.alloc (.cells #[.int .i64 x.c,.int .i64 x.l,.int .i64 x.n,.int .i64 x.a,.int .i64 x.z] 59))):=lH f0.of_no;have K0:=lH k0;generalize hw0:w.alloc (.cells #[.int .i64 x.c,.int .i64 x.l,.int .i64 x.n,.int .i64 x.a,.int .i64 x.z] 59)=w0 at*;generalize hb0:w.heap.size=b0 at*;have p0:w0.cell? ⟨b0,0,none⟩=some (.int .i64 x.c):=by rw [cell_at k0];rfl
 clear f0 k0 h;unfold ptV;go_enter Tryz.func116,Tryz.ntmps116;go_wp2_with fail;refine (num_ p base 1 s x.c (by decide) (by decide) _ G0.out).mono ?_;rintro e w1 ⟨rfl,g1,f1⟩;have k1:=pf_keeps G0.out f1 K0.out (by decide) (by decide);have F1:=lH (pf_trans F0.out f1);have G1:=lH g1;have K1:=lH k1;have p1:w1.cell? ⟨b0,1,none⟩=some (.int .i64 x.l):=by rw [cell_at k1];rfl
 clear g1 f1 k1;go_wp2_with fail;refine (num_ p base 3 _ x.l (by decide) (by decide) _ G1.out).mono ?_;rintro e w2 ⟨rfl,g2,f2⟩;have k2:=pf_keeps G1.out f2 K1.out (by decide) (by decide);have F2:=lH (pf_trans F1.out f2);have G2:=lH g2;have K2:=lH k2;have p2:w2.cell? ⟨b0,2,none⟩=some (.int .i64 x.n):=by rw [cell_at k2];rfl
 clear g2 f2 k2;go_wp2_with fail;refine (num_ p base 4 _ x.n (by decide) (by decide) _ G2.out).mono ?_;rintro e w3 ⟨rfl,g3,f3⟩;have k3:=pf_keeps G2.out f3 K2.out (by decide) (by decide);have F3:=lH (pf_trans F2.out f3);have G3:=lH g3;have K3:=lH k3;have p3:w3.cell? ⟨b0,3,none⟩=some (.int .i64 x.a):=by rw [cell_at k3];rfl
 clear g3 f3 k3;go_wp2_with fail;refine (num_ p base 2 _ x.a (by decide) (by decide) _ G3.out).mono ?_;rintro e w4 ⟨rfl,g4,f4⟩;have k4:=pf_keeps G3.out f4 K3.out (by decide) (by decide);have F4:=lH (pf_trans F3.out f4);have G4:=lH g4;have p4:w4.cell? ⟨b0,4,none⟩=some (.int .i64 x.z):=by rw [cell_at k4];rfl
 clear g4 f4 k4;go_wp2_with fail;refine (num_ p base 1 _ x.z (by decide) (by decide) _ G4.out).mono ?_;rintro e w5 ⟨rfl,g5,f5⟩;have F5:=lH (pf_trans F4.out f5);have G5:=lH g5;clear g5 f5;go_wp2_with fail;exact bodyPost_end (v:=.tuple #[]) (by simp [results,Tryz.results116,go_sem]) rfl (HR.out _ _ rfl (by rw [hp.out];exact G5.out) F5.out)
theorem fwrite_ (k p base:Nat) (s:PenS) (m:FMap) (w:World) (h:Pg w p base s) (hf:FileR w k m):Calls Tryz.prog 59 #[.pointer (some ⟨k,0,none⟩),.pointer (some ⟨p,0,none⟩)] w (PenPost w p base (penMap s m)):=by
 have HR:Hid (∀e w',e=.returned (.tuple #[])→Pg w' p base (penMap s m)→Fr (Pf w p base) w w'→PenPost w p base (penMap s m) e w'):=lH (fun e w' a b c=>⟨a,b,c⟩);have hp:Hid (penMap s m=m.l.foldl penPtr (penNum s m.size 2)):=lH rfl;generalize hQ:PenPost w p base (penMap s m)=Q at*;generalize penMap s m=Z at*;clear hQ;have HF:=lH hf;obtain ⟨v,hk,hv⟩:=hf;obtain ⟨vb,vc,rfl⟩:=hv.slice;have c0:w.cell? ⟨k,0,none⟩=some (.bool true):=by rw [cell_at hk];rfl
 have c1:w.cell? ⟨k,1,none⟩=some (.int .i64 m.size):=by rw [cell_at hk];rfl
 have HN:=lH (num_ p base 2 s m.size (by decide) (by decide) w h);have HG:=lH h;have HK:=lH hk;clear hk hv h;go_enter Tryz.func59,Tryz.ntmps59;go_wp2_with fail;refine HN.out.mono ?_;rintro e w1 ⟨rfl,g1,f1⟩;have k1:=pf_keeps HG.out f1 HK.out (by decide) (by decide);have c2:w1.cell? ⟨k,2,none⟩=some (.slice vb m.l.length vc):=by rw [cell_at k1];rfl
 have G1:=lH g1;have F1:=lH f1;have HF1:=lH (HF.out.pf HG.out f1);have HV1:Hid (PtVal w1 (.slice vb m.l.length vc) m.l):=lH (by
  obtain ⟨v2,h2,h3⟩:=HF1.out;rw [k1] at h2;simp only [Option.some.injEq,Obj.cells.injEq,Array.mk.injEq,List.cons.injEq,and_true,true_and] at h2;rw [h2];exact h3)
 clear g1 f1 k1 c0 c1 HN;go_wp2_with fail;go_loopw [26] (fun a wr=>∃j:Nat,a=.int .i64 j∧j≤m.l.length∧Hid (Pg wr p base ((m.l.take j).foldl penPtr (penNum s m.size 2)))∧Hid (Fr (Pf w1 p base) w1 wr)) (fun a _=>m.l.length - (intOf a).toNat)
 case atStart=>exact ⟨0,rfl,Nat.zero_le _,lH (by rw [List.take_zero,List.foldl_nil];exact G1.out),lH (Fr.refl _)⟩
 case round=>
  obtain ⟨j,rfl,hj,HGR,HFR⟩:=hrel;by_cases hlt:j<m.l.length
  ·obtain ⟨b,rfl,hm,hr⟩:=HV1.out.row (by omega);have hr2:=hr.pf G1.out HFR.out (by decide) (by decide);have HRR:=lH (hr2.row j m.l[j] (List.getElem?_eq_getElem hlt));have hlen:=hr.len;have hml:vc≤9223372036854775807:=hm;have q1:(j:Int)<(m.l.length:Int):=(by omega)
   have q2:(j:Int)<(vc:Int):=(by omega)
   have q3:(0:Int)≤(j:Int):=(by omega)
   have HTK:Hid (m.l.take (j+1)=m.l.take j++ [m.l[j]]):=lH (by rw [List.take_add_one,List.getElem?_eq_getElem hlt];rfl);generalize m.l[j]=x at*;unfold ptC at HRR;have HP:=lH (putptr_ p base _ x _ (HGR.out.no ((Fr.refl wr).alloc (.cells #[.int .i64 x.c,.int .i64 x.l,.int .i64 x.n,.int .i64 x.a,.int .i64 x.z] 59))));unfold ptV PenPost at HP;have fa:Fr No wr (wr.alloc (.cells #[.int .i64 x.c,.int .i64 x.l,.int .i64 x.n,.int .i64 x.a,.int .i64 x.z] 59)):=(Fr.refl wr).alloc _;have FA:=lH fa;clear hr hr2 hm fa;go_wp2_with (refine wpList_load_mid (by rfl) 59 _ (by rfl) b (j*5) (by rfl) [.int .i64 x.c,.int .i64 x.l,.int .i64 x.n,.int .i64 x.a,.int .i64 x.z] _ HRR.out Tryz.underlying59 rfl Tryz.size59 ?_);refine HP.out.mono ?_;rintro e w3 ⟨rfl,g3,f3⟩;have HG3:Hid (Pg w3 p base ((m.l.take (j+1)).foldl penPtr (penNum s m.size 2))):=lH (by rw [HTK.out,List.foldl_append];exact g3);have HF3:=lH (pf_trans (pf_trans HFR.out FA.out.of_no) f3);clear g3 f3 HP;go_wp2_with fail;go_roundw
   case rel=>exact ⟨j+1,by go_num,hlt,HG3,HF3⟩
   case measure=>simp [intOf];omega
  ·obtain rfl:j=m.l.length:=by omega
   have q1:¬(m.l.length:Int)<(m.l.length:Int):=(by omega)
   have HZ:Hid (Pg wr p base Z):=lH (by rw [hp.out];have:=HGR.out;rwa [List.take_length] at this);go_wp2_with fail;exact bodyPost_end (v:=.tuple #[]) (by simp [results,Tryz.results59,go_sem]) rfl (HR.out _ _ rfl HZ.out (pf_trans F1.out HFR.out))
def mapB (m:FMap):List UInt8:=(penMap ([],0) m).1
def MapFits (m:FMap):Prop:=(penMap ([],0) m).2=0∧mapB m≠ []
def mapRep (i:Nat) (m:FMap) (h:Int):RepS:=⟨0,i,m.size,h,0,false, [],mapB m⟩
def MappedPost (w:World) (i:Nat) (m:FMap) (e:Ending) (w':World):Prop:=
 ∃v b c,e=.returned (.agg #[.int .i64 0,.int .i64 i,.int .i64 m.size,.int .i64 0,.int .i64 0,.bool false,.slice none 0 0,v])∧Fr No w w'∧SlIs w' v (mapB m) b 0 c∧w.heap.size≤b
theorem mapped_ (o:Nat→Nat) (K n:Nat) (L:Plc) (S:St) (i:Nat) (m:FMap) (w:World) (h:StateAt w o K L S n) (hi:i≤1000000) (hm:S.F i=some m) (hfit:MapFits m):
  Calls Tryz.prog 137 #[.pointer (some ⟨L.s,0,none⟩),.int .i64 i] w (MappedPost w i m):=by
 have fA:Fr No w (w.alloc (.cells #[.int .i64 0,.int .i64 0,.int .i64 0,.int .i64 0,.int .i64 0,.bool false,.slice none 0 0,.slice none 0 0] 29)):=(Fr.refl w).alloc _;have f0:Fr No w ((w.alloc (.cells #[.int .i64 0,.int .i64 0,.int .i64 0,.int .i64 0,.int .i64 0,.bool false,.slice none 0 0,.slice none 0 0] 29)).alloc (.cells #[.slice none 0 0,.int .i64 0] 122)):=fA.alloc _;have HP:=pg_new (w.alloc (.cells #[.int .i64 0,.int .i64 0,.int .i64 0,.int .i64 0,.int .i64 0,.bool false,.slice none 0 0,.slice none 0 0] 29));rw [show (w.alloc (.cells #[.int .i64 0,.int .i64 0,.int .i64 0,.int .i64 0,.int .i64 0,.bool false,.slice none 0 0,.slice none 0 0] 29)).heap.size=w.heap.size+1 by simp] at HP;have k0:((w.alloc (.cells #[.int .i64 0,.int .i64 0,.int .i64 0,.int .i64 0,.int .i64 0,.bool false,.slice none 0 0,.slice none 0 0] 29)).alloc (.cells #[.slice none 0 0,.int .i64 0] 122)).heap[w.heap.size]? =some (.cells #[.int .i64 0,.int .i64 0,.int .i64 0,.int .i64 0,.int .i64 0,.bool false,.slice none 0 0,.slice none 0 0] 29 (0,0)):=
  ((Fr.refl (S:=No) _).alloc _).block_of (new_at w _) id
 have F0:=lH f0;obtain ⟨fp,lk,lf⟩:=h.files.look i hi;have LK:=lH lk;have c11:w.cell? ⟨L.s,11,none⟩=some (.map (some L.fl)):=h.cell 11;have C11:=lH c11;have hv:fileV S.F fp i=.pointer (some ⟨fp i,0,none⟩):=by unfold fileV;rw [hm]
 have hl1:=lk _ f0;rw [hv] at hl1;have HV:=lH hv;have FR:Hid (FileR w (fp i) m):=lH (lf m hm).reads;have FIT:=lH hfit;have c11':((w.alloc (.cells #[.int .i64 0,.int .i64 0,.int .i64 0,.int .i64 0,.int .i64 0,.bool false,.slice none 0 0,.slice none 0 0] 29)).alloc (.cells #[.slice none 0 0,.int .i64 0] 122)).cell? ⟨L.s,11,none⟩=some (.map (some L.fl)):=f0.cell_of c11 id;have HW:=lH (fwrite_ (fp i) (w.heap.size+1) (w.heap.size+1+1) ([],0) m _ HP (FR.out.fr f0));have hb1:∀w':World,(Instr.build 122 #[]).run Tryz.prog w'=.ok (.agg #[.slice none 0 0,.int .i64 0]) w':=fun w'=>by kernel_rfl
 have hbd:∀(w':World) (b c l:Nat),(Instr.build 29 #[(1,.int .i64 i),(2,.int .i64 m.size),(7,.slice (some ⟨b,0,none⟩) l c)]).run Tryz.prog w'=.ok (.agg #[.int .i64 0,.int .i64 i,.int .i64 m.size,.int .i64 0,.int .i64 0,.bool false,.slice none 0 0,.slice (some ⟨b,0,none⟩) l c]) w':=fun w' b c l=>by kernel_rfl
 have HOC:=lH (show ∀b c l:Nat,(#[.int .i64 0,.int .i64 i,.int .i64 m.size,.int .i64 0,.int .i64 0,.bool false,.slice none 0 0,.slice (some ⟨b,0,none⟩) l c]:Array Value).all (·.oneCell')=true from fun b c l=>by simp [Value.oneCell']);clear fA f0 HP h hm hfit lk lf c11 hv;unfold PenPost at HW;have K0:=lH k0;clear k0;go_enter Tryz.func137,Tryz.ntmps137;go_wp2_with fail;refine HW.out.mono ?_;rintro e w2 ⟨rfl,pg,f2⟩;have F02:Fr No w w2:=F0.out.trans f2 (fun j hj e=>by rcases e with e|⟨e,_⟩<;>omega);have K2:=lH (f2.block_of K0.out (by rintro (e|⟨e,_⟩)<;>omega));have HB:=lH (pbytes_ok (w.heap.size+1) (w.heap.size+1+1) (mapB m) w2 (by
  have e:penMap ([],0) m=(mapB m,0):=Prod.ext rfl FIT.out.1;rw [e] at pg;exact pg) FIT.out.2)
 have F2:=lH F02;clear pg f2 F02 hl1 c11';go_wp2_with fail;refine HB.out.mono ?_;rintro e w3 ⟨v,b,c,rfl,hs,hb,f3⟩;obtain rfl:=hs.1;have F3:=lH (F2.out.trans f3 (fun _ _ e=>e));have K3:=lH (f3.block_of K2.out id);have SL:=lH hs;have hb':=lH (Nat.le_trans F2.out.size hb);have hlt:Hid (w.heap.size<b):=lH (Nat.lt_of_lt_of_le (lt_of_block K2.out) hb);clear hs f3 hb;have c3:w3.cell? ⟨L.s,11,none⟩=some (.map (some L.fl)):=F3.out.cell_of C11.out id;have hl3:=LK.out _ F3.out;rw [HV.out] at hl3;have HZ:=lH (fsize_ (fp i) m w3 (FR.out.fr F3.out));go_wp2_with fail;refine HZ.out.mono ?_;rintro e w4 ⟨rfl,rfl⟩;have hbd':=hbd w4 b c (mapB m).length;go_wp2_with (refine wpList_store_row rfl 29 (.tmp 4) (.tmp 32) rfl w.heap.size #[.int .i64 0,.int .i64 i,.int .i64 m.size,.int .i64 0,.int .i64 0,.bool false,.slice none 0 0,.slice (some ⟨b,0,none⟩) (mapB m).length c] rfl rfl 29 _ K3.out Tryz.size29 rfl (HOC.out _ _ _) ?_);have KF:=setRow_at (cs':= #[.int .i64 0,.int .i64 i,.int .i64 m.size,.int .i64 0,.int .i64 0,.bool false,.slice none 0 0,.slice (some ⟨b,0,none⟩) (mapB m).length c]) K3.out;have FS:Fr (fun j=>j=w.heap.size) w4 (w4.setRow w.heap.size #[.int .i64 0,.int .i64 i,.int .i64 m.size,.int .i64 0,.int .i64 0,.bool false,.slice none 0 0,.slice (some ⟨b,0,none⟩) (mapB m).length c]):=Fr.setRow (S:=fun j=>j=w.heap.size) (Fr.refl _) (.inl rfl) _;have hbne:b≠w.heap.size:=by
  have:=hlt.out;omega
 exact bodyPost_ret (v:=.agg #[.int .i64 0,.int .i64 i,.int .i64 m.size,.int .i64 0,.int .i64 0,.bool false,.slice none 0 0,.slice (some ⟨b,0,none⟩) (mapB m).length c]) (results_cell_row rfl _ _ w.heap.size 29 _ (0,0) _ rfl KF Tryz.underlying29 rfl Tryz.size29) rfl
  ⟨_,b,c,rfl,F3.out.trans FS (fun j hj e=>by omega),⟨SL.out.1,SL.out.2.1,Nat.lt_of_lt_of_le SL.out.2.2.1 FS.size,fun j y hj=>FS.cell_of (SL.out.2.2.2 j y hj) hbne⟩,hb'.out⟩
structure StFits (S:St):Prop where
 tok:∀x∈S.K,∃i m,x.i=((i:Nat):Int)∧i≤128∧S.F i=some m
 fit:∀i m,S.F i=some m→MapFits m
 dir:∀k x,S.T k=some x→x.dir=false→∃m,S.F k=some m
 small:∀x∈S.K,small x
 few:S.K.length≤1000000
def mapD (S:St) (r:Req):Int×RepS×St:=match ofT S.K r.c r.h with
 | none=>(13,noRep,S)
 | some x=>(0,mapRep x.i.toNat ((S.F x.i.toNat).getD noFile) 0,S)
theorem tokV_at {w:World} {o:Nat→Nat} {K k:Nat} {L:List Tok} (h:TokensAt w o K k L):∃v,w.heap[k]? =some (.cells #[.bool true,v] 155 (0,0))∧TokV w v L:=by
 obtain ⟨_,v,h1,h2⟩:=h;refine ⟨v,h1,?_⟩;rcases h2 with h2|⟨b,cap,e,hm,_,hr⟩
 ·exact .inl h2
 ·exact .inr ⟨b,cap,e,hm,hr⟩
def bornS (w0:World) (a:Act) (w:World):Prop:=
 Fr No w0 w∧(a.tmps.getD 5 undef=undef∨∃g,a.tmps.getD 5 undef=.pointer (some ⟨g,0,none⟩)∧w0.heap.size≤g∧w.heap[g]? =some (.cells #[.int .i64 0,.int .i64 0,.int .i64 0,.bool false] 53 (0,0)))
theorem bornS_put (w0:World) (d:Nat) (hd:d≠5) (a:Act) (v:Value) (w:World):bornS w0 (a.put (some d) v) w↔bornS w0 a w:=by
 have e:(a.put (some d) v).tmps.getD 5 undef=a.tmps.getD 5 undef:=by
  simp [Act.put,Array.getElem?_setIfInBounds,hd]
 unfold bornS;rw [e]
theorem bornS_keep {w0 w w':World} (f:Fr No w w') (a:Act) (h:bornS w0 a w):bornS w0 a w':=by
 obtain ⟨h1,h2⟩:=h;refine ⟨h1.trans f (fun _ _ e=>e),?_⟩;rcases h2 with h2|⟨g,e,hg,hk⟩
 ·exact .inl h2
 ·exact .inr ⟨g,e,hg,f.block_of hk id⟩
theorem dmap_ (o:Nat→Nat) (K n:Nat) (L:Plc) (S:St) (r:Req) (rv dv:Value) (w:World) (h:StateAt w o K L S n) (ok:StOk S) (fit:StFits S) (hf:Fresh w o):
  Calls Tryz.prog 89 #[.pointer (some ⟨L.s,0,none⟩),.agg (r.cells rv dv)] w (Deed w o K L n (mapD S r)):=by
 have mixed:Tryz.prog.follows .mixedOrders=true:=by kernel_rfl
 obtain ⟨f0,k0,k1,H0,G0⟩:=begun h ok hf r rv dv;have F0:=lH f0;have HL:Hid (∀w',Fr No (deedW w r rv dv) w'→Calls Tryz.prog 138 #[.pointer (some ⟨L.tk,0,none⟩),.int .i64 r.c,.int .i64 r.h] w' fun e w''=>e=.returned (.tuple #[tokV ((ofT S.K r.c r.h).getD noTok),.bool (ofT S.K r.c r.h).isSome])∧Fr No w' w''):=
  lH (fun w' f=>by
   obtain ⟨v,h1,h2⟩:=tokV_at (H0.no ok G0 f).tok;exact tof_ L.tk v S.K r.c r.h w' h1 h2)
 have HM:Hid (∀x,ofT S.K r.c r.h=some x→∃i m,x.i=((i:Nat):Int)∧S.F i=some m∧∀w',Fr No (deedW w r rv dv) w'→Calls Tryz.prog 137 #[.pointer (some ⟨L.s,0,none⟩),.int .i64 i] w' (MappedPost w' i m)):=
  lH (fun x hx=>by
   obtain ⟨i,m,h1,h2,h3⟩:=fit.tok x (List.mem_of_find?_eq_some hx);exact ⟨i,m,h1,h3,fun w' f=>mapped_ o K n L S i m w' (H0.no ok G0 f) (by omega) h3 (fit.fit i m h3)⟩)
 have HR:Hid (ofT S.K r.c r.h=none→∀e w',e=.panicked (refC 13)→Fr No w w'→Deed w o K L n (mapD S r) e w'):=lH (fun hne e w' he f=>by
  unfold mapD;rw [hne];exact Deed.no h ok hf (by decide) he f)
 have HQ:Hid (∀x i m,ofT S.K r.c r.h=some x→x.i=((i:Nat):Int)→S.F i=some m→∀v b c e w' w3,e=.returned (.agg #[.int .i64 0,.int .i64 i,.int .i64 m.size,.int .i64 0,.int .i64 0,.bool false,.slice none 0 0,v])→Fr No w w'→w.heap.size+1<w'.heap.size→SlIs w3 v (mapB m) b 0 c→w.heap.size≤b→Fr (fun j=>j=w.heap.size+1) w' w3→Deed w o K L n (mapD S r) e w3):=lH (fun x i m hx hi hm v b c e w' w3 he f hs hv hb g=>by
  unfold mapD;rw [hx];dsimp only;rw [hi,Int.toNat_natCast,hm];exact Deed.yes (C:=fun _=>False) hf f (Step.refl (Step.no (C:=fun _=>False) hf f).fresh) (fun _ e=>e.elim) (by omega) hs g ok (h.no ok hf f) he ⟨_,_,rfl,.inl ⟨rfl,rfl⟩,.inr ⟨b,0,c,hv,hv.2.2.1⟩,Low.nil _,Low.at hv.1 hb⟩)
 generalize hQ:Deed w o K L n (mapD S r)=Q at*;clear hQ;have HH:=lH H0;clear H0 G0 f0 h ok hf fit;generalize ofT S.K r.c r.h=X at*;unfold deedW Req.cells noRep RepS.cells at*;unfold tokV at HL;go_enter Tryz.func89,Tryz.ntmps89;go_wp2_with fail;generalize (w.alloc (.cells #[.int .i64 r.c,.int .i64 r.l,.int .i64 r.q,.int .i64 r.kind,.string (ba r.path),.string (ba r.to),.bool r.dir,.bool r.wr,.bool r.cl,.int .i64 r.h,.int .i64 r.nx,.int .i64 r.sw,rv,dv] 36)).alloc (.cells #[.int .i64 0,.int .i64 0,.int .i64 0,.int .i64 0,.int .i64 0,.bool false,.slice none 0 0,.slice none 0 0] 29)=w0 at*;have B1:=lH (lt_of_block k1);generalize hb0:w.heap.size=b0 at*;have c10:w0.cell? ⟨L.s,10,none⟩=some (.pointer (some ⟨L.tk,0,none⟩)):=HH.out.cell 10;have d0:w0.cell? ⟨b0,0,none⟩=some (.int .i64 r.c):=by rw [cell_at k0];rfl
 have d9:w0.cell? ⟨b0,9,none⟩=some (.int .i64 r.h):=by rw [cell_at k0];rfl
 have K1:=lH k1;clear k0 k1;refine wp_region_born mixed (bornS w0) 13 [14,15] (by kernel_rfl) (by kernel_rfl) (by kernel_rfl) (by kernel_rfl) (fun _ _ d _ _ h=>by cases d<;>exact h) ⟨(Fr.refl _).drew,.inl (by rfl)⟩ ?_;repeat (first
  | refine seqXB_skip (by rfl) ?_
  | (refine seqXB_val (v:= ?_) (by rfl) (fun a v w=>bornS_put w0 _ (by decide) a v w) (by rfl) ?_ ?_
     rotate_left 1
     (intro W;go_simp;(try with_reducible rfl))
     simp only [Act.put,lsA,lsZ,lsS])
  | (refine seqXB_valS (v:= ?_) (by rfl) (fun a v w=>bornS_put w0 _ (by decide) a v w) (by kernel_rfl) (by rfl) ?_ ?_
     rotate_left 1
     (intro W hS;obtain ⟨_,fS,_⟩:=hS;have e1:=fS.cell_of c10 id;have e2:=fS.cell_of d0 id;have e3:=fS.cell_of d9 id;go_simp;(try with_reducible rfl))
     simp only [Act.put,lsA,lsZ,lsS]))
 refine seqXB_call (v:=.tuple #[.agg #[.int .i64 (X.getD noTok).c,.int .i64 (X.getD noTok).h,.int .i64 (X.getD noTok).i,.bool (X.getD noTok).wr],.bool X.isSome]) 138 #[.pointer (some ⟨L.tk,0,none⟩),.int .i64 r.c,.int .i64 r.h] (by rfl) (fun a v w=>bornS_put w0 _ (by decide) a v w) (by kernel_rfl) (by rfl) (fun W=>by go_simp) (fun w' hS=>(HL.out w' hS.choose_spec.1).mono (fun e w'' h=>⟨h.1,fun b hb=>bornS_keep h.2 b hb⟩)) ?_;simp only [Act.put,lsA,lsZ,lsS];repeat (first
  | refine seqXB_skip (by rfl) ?_
  | (refine seqXB_val (v:= ?_) (by rfl) (fun a v w=>bornS_put w0 _ (by decide) a v w) (by rfl) ?_ ?_
     rotate_left 1
     (intro W;go_simp;(try with_reducible rfl))
     simp only [Act.put,lsA,lsZ,lsS]))
 unfold seqXB;refine bornEnd_val (by rfl) (by rfl) ?_;intro W hS;refine ⟨.pointer (some ⟨W.heap.size,0,none⟩),W.alloc (.cells #[.int .i64 0,.int .i64 0,.int .i64 0,.bool false] 53),by go_simp,?_,?_⟩
 ·exact ⟨hS.1.alloc _,.inr ⟨W.heap.size,by rfl,hS.1.size,new_at W _⟩⟩
 ·intro W2 hS2;obtain ⟨f2,h2⟩:=hS2;have hk2:W2.heap[W.heap.size]? =some (.cells #[.int .i64 0,.int .i64 0,.int .i64 0,.bool false] 53 (0,0)):=by
   rcases h2 with h2|⟨g,e,_,hk⟩
   ·exact absurd (show Value.pointer (some ⟨W.heap.size,0,none⟩)=undef from h2) (by intro h;cases h)
   ·have e':Value.pointer (some ⟨W.heap.size,0,none⟩)=.pointer (some ⟨g,0,none⟩):=e;cases e';exact hk
  have KG:=lH hk2;have F2:=lH f2;clear h2 hk2 f2;simp only [List.filterMap_cons,List.filterMap_nil,List.getElem?_toArray,List.getElem?_cons_succ,List.getElem?_cons_zero,Act.put,lsA,lsZ,lsS];have HOC:=lH (show (#[.int .i64 (X.getD noTok).c,.int .i64 (X.getD noTok).h,.int .i64 (X.getD noTok).i,.bool (X.getD noTok).wr]:Array Value).all (·.oneCell')=true from by simp [Value.oneCell']);refine wpList_store_row rfl 53 (.tmp 5) (.tmp 18) rfl W.heap.size #[.int .i64 (X.getD noTok).c,.int .i64 (X.getD noTok).h,.int .i64 (X.getD noTok).i,.bool (X.getD noTok).wr] rfl rfl 53 _ KG.out Tryz.size53 rfl HOC.out ?_;go_wp2_with fail;have HG:Hid (w0.heap.size≤W.heap.size):=lH hS.1.size;have K2:=setRow_at (cs':= #[.int .i64 (X.getD noTok).c,.int .i64 (X.getD noTok).h,.int .i64 (X.getD noTok).i,.bool (X.getD noTok).wr]) KG.out;cases X with
  | none=>
   have FE:=lH (F2.out);go_wp2_with fail;refine (must_no _ _).mono ?_;rintro e w2 ⟨rfl,rfl⟩;go_wp2_with fail;refine ⟨rfl,HR.out trivial _ _ rfl (F0.out.trans (Fr.setRow F2.out (.inr HG.out) _) (fun _ _ e=>e))⟩
  | some x=>
   obtain ⟨i,m,hxi,hm,HC⟩:=HM.out x rfl;obtain ⟨xc,xh,xi,xw⟩:=x;dsimp only at hxi;subst hxi;dsimp only [Option.getD_some] at K2 KG HOC ⊢;have FW:Hid (Fr No w0 (W2.setRow W.heap.size #[.int .i64 xc,.int .i64 xh,.int .i64 i,.bool xw])):=lH (Fr.setRow F2.out (.inr HG.out) _);have cg:(W2.setRow W.heap.size #[.int .i64 xc,.int .i64 xh,.int .i64 i,.bool xw]).cell? ⟨W.heap.size,2,none⟩=some (.int .i64 i):=(by rw [cell_at K2];rfl)
   have HCC:=lH (HC _ FW.out);go_wp2_with fail;refine (must_yes _ _).mono ?_;rintro e w2 ⟨rfl,rfl⟩;go_wp2_with fail;refine HCC.out.mono ?_;rintro e w3 ⟨v,b,c,rfl,f3,sl,hb⟩;obtain rfl:=sl.1;have F3:=lH (FW.out.trans f3 (fun _ _ e=>e));have K3:=lH (F3.out.block_of K1.out id);have SL:=lH sl;have HBB:Hid (b0+1<b):=lH (Nat.lt_of_lt_of_le (Nat.lt_of_lt_of_le B1.out FW.out.size) hb);clear f3 sl hb;have HO2:=lH (show (#[.int .i64 0,.int .i64 i,.int .i64 m.size,.int .i64 0,.int .i64 0,.bool false,.slice none 0 0,.slice (some ⟨b,0,none⟩) (mapB m).length c]:Array Value).all (·.oneCell')=true from by simp [Value.oneCell']);go_wp2_with (refine wpList_store_row rfl 29 (.tmp 4) (.tmp 25) rfl (b0+1) #[.int .i64 0,.int .i64 i,.int .i64 m.size,.int .i64 0,.int .i64 0,.bool false,.slice none 0 0,.slice (some ⟨b,0,none⟩) (mapB m).length c] rfl rfl 29 _ K3.out Tryz.size29 rfl HO2.out ?_);have KF:=setRow_at (cs':= #[.int .i64 0,.int .i64 i,.int .i64 m.size,.int .i64 0,.int .i64 0,.bool false,.slice none 0 0,.slice (some ⟨b,0,none⟩) (mapB m).length c]) K3.out;have FS:Fr (fun j=>j=b0+1) w3 (w3.setRow (b0+1) #[.int .i64 0,.int .i64 i,.int .i64 m.size,.int .i64 0,.int .i64 0,.bool false,.slice none 0 0,.slice (some ⟨b,0,none⟩) (mapB m).length c]):=Fr.setRow (S:=fun j=>j=b0+1) (Fr.refl _) (.inl rfl) _;have hne:b≠b0+1:=(by have:=HBB.out;omega)
   exact bodyPost_ret (v:=.agg #[.int .i64 0,.int .i64 i,.int .i64 m.size,.int .i64 0,.int .i64 0,.bool false,.slice none 0 0,.slice (some ⟨b,0,none⟩) (mapB m).length c]) (results_cell_row rfl _ _ (b0+1) 29 _ (0,0) _ rfl KF Tryz.underlying29 rfl Tryz.size29) rfl
    (HQ.out _ i m rfl rfl hm _ b c _ _ _ rfl (F0.out.trans F3.out (fun _ _ e=>e)) (lt_of_block K3.out) ⟨SL.out.1,SL.out.2.1,Nat.lt_of_lt_of_le SL.out.2.2.1 FS.size,fun j y hj=>FS.cell_of (SL.out.2.2.2 j y hj) hne⟩ (by have:=HBB.out;omega) FS)
theorem FilesAt.del {w:World} {o:Nat→Nat} {K fl n:Nat} {F:Nat→Option FMap} (h:FilesAt w o K fl n F) (hf:Fresh w o) (i:Nat) (hi:i≤1000000):
  ∃w',(Builtin.delete_ #[100,3] 0 #[.map (some fl),.int .i64 i]).run Tryz.prog w=.ok (.tuple #[]) w'∧Fr (fun k=>k=fl) w w'∧Step (fun c=>c=K+6) w o w' o∧FilesAt w' o K fl n (updF F i none):=by
 obtain ⟨h1,fp,c,hc,hm,hfl⟩:=h;obtain ⟨w',hrun,hma,g⟩:=hm.del (i:Int) (show I64 _ by unfold I64;omega) (t:=100) (e:=63) Tryz.underlying100 0;have s:Step (fun c=>c=K+6) w o w' o:=⟨g.mono (fun j _ e=>by rw [e];exact h1),fun _ _=>rfl,fun k hk=>hf k (Nat.le_trans g.size hk)⟩
 refine ⟨w',hrun,g,s,h1,fp,(if (filem F fp i).isSome then c - 1 else c),?_,?_,fun j m hj=> ?_⟩
 ·split<;>omega
 ·have e:(fun z:Int=>if z=(i:Int) then none else filem F fp z)=filem (updF F i none) fp:=by
   funext z;unfold filem updF;by_cases hz:z=i
   ·subst hz;simp
   ·by_cases h0:0≤z
    ·have:z.toNat≠i:=by omega
     simp [hz,h0,this]
    ·simp [hz,h0]
  rw [← e];exact hma
 ·unfold updF at hj;by_cases hji:j=i
  ·rw [if_pos hji] at hj;cases hj
  ·rw [if_neg hji] at hj;exact (hfl j m hj).step s (by omega) (by omega)
def removeS (S:St) (r:Req):St:=
 if (lookOf S.T r.path).2.2=true then {S with T:=removedT S.T r.path r.dir}
 else {S with T:=removedT S.T r.path r.dir,F:=updF S.F (removeOf S.T r.path r.dir).2 none,U:=countedU (updF S.F (removeOf S.T r.path r.dir).2 none) S.U}
def mayRemove (S:St) (r:Req):Prop:=(lookOf S.T r.path).2.2=true∨r.dir=true∨(S.K.any fun x=>x.i==(lookOf S.T r.path).2.1)=false
instance (S:St) (r:Req):Decidable (mayRemove S r):=by unfold mayRemove;exact inferInstance
def removeD (S:St) (r:Req):Int×RepS×St:=
 if (lookOf S.T r.path).1≠0 then ((lookOf S.T r.path).1,noRep,S)
 else if ¬mayRemove S r then (8,noRep,S)
 else if (removeOf S.T r.path r.dir).1≠0 then ((removeOf S.T r.path r.dir).1,noRep,S)
 else (0,plainRep 0 (removeOf S.T r.path r.dir).2 0 0 0 false,removeS S r)
theorem remove_num {T:Tree} (ht:TreeOk T) {l:List UInt8} {b:Bool} (h:(removeOf T l b).1=0):(removeOf T l b).2≤128∧(lookOf T l).1=0:=by
 unfold removeOf at h ⊢;split
 ·rename_i h1
  rw [if_pos h1] at h;exact absurd h h1
 ·rename_i h1
  have h0:(lookOf T l).1=0:=by simpa using h1
  refine ⟨?_,h0⟩;split
  ·exact Nat.zero_le _
  ·split
   ·exact Nat.zero_le _
   ·split
    ·exact Nat.zero_le _
    ·split
     ·exact Nat.zero_le _
     ·exact look_lt ht h0
theorem removedT_ok {T:Tree} (ht:TreeOk T) (l:List UInt8) (b:Bool):TreeOk (removedT T l b):=by
 unfold removedT;split
 ·rename_i h
  obtain ⟨_,h0⟩:=remove_num ht h;obtain ⟨x,hx,hd⟩:=look_ok ht h0;unfold removeOf at h ⊢;rw [if_neg (by simp [h0])] at h ⊢;split at h
  ·cases h
  ·rename_i h1
   rw [if_neg h1];split at h
   ·cases h
   ·rename_i h2
    rw [if_neg h2];split at h
    ·cases h
    ·rename_i h3
     rw [if_neg h3];split at h
     ·cases h
     ·rename_i h4
      rw [if_neg h4];have hk:x.dir=true→kidN T (lookOf T l).2.1=0:=fun hdd=>by
       have:¬0<kidN T (lookOf T l).2.1:=fun hk=>h4 ⟨by rw [← hd];exact hdd,hk⟩;omega
      exact Subs.shrunk_ok (x:=x) ⟨ht,hx,h1,hk⟩
 ·exact ht
theorem updF_same (F:Nat→Option FMap) (i:Nat) (x:Option FMap):updF F i x i=x:=by simp [updF]
theorem updF_sub {F:Nat→Option FMap} {i j:Nat} {m:FMap} (h:updF F i none j=some m):F j=some m:=by
 unfold updF at h;split at h
 ·cases h
 ·exact h
theorem updF_some {F:Nat→Option FMap} {i j:Nat} {m y:FMap} (h:updF F i (some m) j=some y):j=i∧y=m∨F j=some y:=by
 unfold updF at h;split at h
 ·rename_i e
  cases h;exact .inl ⟨e,rfl⟩
 ·exact .inr h
theorem PtsOk.put {F:Nat→Option FMap} (h:PtsOk F) (i:Nat) {m:FMap} (hm:∀p∈m.l,mayPt p):PtsOk (updF F i (some m)):=fun j y hj=>by
 rcases updF_some hj with ⟨_,rfl⟩|hj
 ·exact hm
 ·exact h j y hj
theorem PtsOk.less {F:Nat→Option FMap} (h:PtsOk F) (i:Nat):PtsOk (updF F i none):=fun j m hj=>h j m (updF_sub hj)
theorem StOk.less {S:St} (ok:StOk S) (i:Nat):StOk {S with F:=updF S.F i none}:=⟨ok.tree,fun j m hj=>ok.file j m (updF_sub hj)⟩
theorem StOk.newU {S:St} (ok:StOk S) (U':Stp→Option Us):StOk {S with U:=U'}:=⟨ok.tree,ok.file⟩
def dlOk (m:Stp→Option Int) (i:Int) (d:Dl):Prop:=mayDl d∧d.i=i∧d.k≠3∧(d.t=noPt∨insideOf m d.t=true)
instance (m:Stp→Option Int) (i:Int) (d:Dl):Decidable (dlOk m i d):=by unfold dlOk;exact inferInstance
def mvOk (m:Stp→Option Int) (d:Dl):Prop:=mayDl d∧d.k=3∧insideOf m d.t=true
instance (m:Stp→Option Int) (d:Dl):Decidable (mvOk m d):=by unfold mvOk;exact inferInstance
def appliedF (F:Nat→Option FMap) (d:Dl):Nat→Option FMap:=match F d.i.toNat with
 | some m=>updF F d.i.toNat (some (appliedM m d))
 | none=>F
def commitS (S:St) (st:List Sz) (dl:List Dl) (c:Nat) (nx:Int) (i:Nat):St:=
 {addS S st c nx with F:=updF S.F i (some (dl.foldl appliedM ((S.F i).getD noFile))),U:=countedU (updF S.F i (some (dl.foldl appliedM ((S.F i).getD noFile)))) (addS S st c nx).U}
def closedK (b:Bool) (L:List Tok) (x:Tok):List Tok:=if b=true then L.filter fun y=> !decide (y=x) else L
def commitD (S:St) (r:Req) (st:List Sz) (dl:List Dl):Int×RepS×St:=match ofT S.K r.c r.h with
 | none=>(13,noRep,S)
 | some x=>
  if x.wr=false∧¬(dl= []∧st= []) then (10,noRep,S)
  else if (stripesE S r.sw r.nx st r.c r.l).1≠0 then ((stripesE S r.sw r.nx st r.c r.l).1,noRep,S)
  else if ¬(∀d∈dl,dlOk (stripesE S r.sw r.nx st r.c r.l).2 x.i d) then (4,noRep,S)
  else (0,plainRep 0 x.i (dl.foldl appliedM ((S.F x.i.toNat).getD noFile)).size 0 0 false,{commitS S st dl r.c.toNat r.nx x.i.toNat with K:=closedK r.cl S.K x})
def movedS (S:St) (st:List Sz) (dl:List Dl) (nx:Int):St:=
 {addS {S with clock:=S.clock+1} st 4 nx with F:=dl.foldl appliedF S.F,U:=countedU (dl.foldl appliedF S.F) (addS {S with clock:=S.clock+1} st 4 nx).U}
def movedD (S:St) (r:Req) (st:List Sz) (dl:List Dl):Int×RepS×St:=
 if ¬(r.c=4∧r.l=S.boots) then (17,noRep,S)
 else if (stripesE S r.sw r.nx st 4 S.boots).1≠0 then ((stripesE S r.sw r.nx st 4 S.boots).1,noRep,S)
 else if ¬(∀d∈dl,mvOk (stripesE S r.sw r.nx st 4 S.boots).2 d) then (4,noRep,S)
 else (0,plainRep 0 0 0 0 0 false,movedS S st dl r.nx)
def bootS (S:St):St:={S with boots:=S.boots+1,clock:=S.clock+1,next:=updN S.next 4 0}
def bootD (S:St) (r:Req):Int×RepS×St:=if r.c=4 then (0,plainRep 0 0 0 0 0 false,bootS S) else (17,noRep,S)
def swapS (S:St):St:={S with swaps:=S.swaps+1,clock:=S.clock+1}
def swapD (S:St) (r:Req):Int×RepS×St:=if r.c=4 then (0,plainRep 0 0 0 0 0 false,swapS S) else (17,noRep,S)
theorem applied_len {m:FMap} {d:Dl} (hl:MapLen m) (hd:mayDl d):MapLen (appliedM m d):=by
 obtain ⟨h1,h2⟩:=hl;obtain ⟨d1,d2,d3,d4,d5,d6,d7,d8,d9⟩:=hd;unfold appliedM doneM;split
 ·rename_i hc
  split
  ·refine ⟨by dsimp only;omega,?_⟩;dsimp only;rw [List.length_set,resizeL_len]
  ·split
   ·exact ⟨by dsimp only;omega,by dsimp only;rw [resizeL_len]⟩
   ·exact ⟨h1,by dsimp only;rw [List.length_set];exact h2⟩
 ·exact ⟨h1,h2⟩
theorem applied_pts {m:FMap} {d:Dl} (hl:∀p∈m.l,mayPt p) (hd:mayDl d):∀p∈(appliedM m d).l,mayPt p:=by
 have ht:mayPt d.t:=hd.2.2.2.2.2.2.1;have hr:∀n,∀p∈resizeL m.l n,mayPt p:=fun n p hp=>by
  unfold resizeL at hp;split at hp
  ·exact hl p (List.mem_of_mem_take hp)
  ·rcases List.mem_append.1 hp with hp|hp
   ·exact hl p hp
   ·rw [(List.mem_replicate.1 hp).2];exact .inl rfl
 have hs:∀(l:List Pt) (j:Nat),(∀p∈l,mayPt p)→∀p∈l.set j d.t,mayPt p:=fun l j h p hp=>by
  rcases List.mem_or_eq_of_mem_set hp with hp|rfl
  ·exact h p hp
  ·exact ht
 unfold appliedM doneM;split
 ·split
  ·exact hs _ _ (hr _)
  ·split
   ·exact hr _
   ·exact hs _ _ hl
 ·exact hl
theorem folded_ok' {i:Int} {M:Stp→Option Int}:∀(dl:List Dl) (m:FMap),(∀d∈dl,dlOk M i d)→MapLen m→(∀p∈m.l,mayPt p)→MapLen (dl.foldl appliedM m)∧∀p∈(dl.foldl appliedM m).l,mayPt p
 | [],_,_,hl,hp=>⟨hl,hp⟩
 | d::r,m,h,hl,hp=>folded_ok' r (appliedM m d) (fun x hx=>h x (by simp [hx])) (applied_len hl (h d (by simp)).1) (applied_pts hp (h d (by simp)).1)
theorem folded_ok {i:Int} {M:Stp→Option Int} {dl:List Dl} (h:∀d∈dl,dlOk M i d) {m:FMap} (hl:MapLen m) (hp:∀p∈m.l,mayPt p):MapLen (dl.foldl appliedM m)∧∀p∈(dl.foldl appliedM m).l,mayPt p:=folded_ok' dl m h hl hp
end Go.Proofs.YtlcojhddnpmgmaaGreat
