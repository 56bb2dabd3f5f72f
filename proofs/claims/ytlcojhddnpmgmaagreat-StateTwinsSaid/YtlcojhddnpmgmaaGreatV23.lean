/- Part of a proof. -/
import Derived.Test.YtlcojhddnpmgmaaGreatV21
import Derived.Test.YtlcojhddnpmgmaaGreatV22
set_option linter.unusedSimpArgs false
set_option linter.unusedVariables false
set_option maxRecDepth 100000
set_option maxHeartbeats 6400000
namespace Go.Proofs.YtlcojhddnpmgmaaGreat
open Go.RowKit Go.Proofs.Tryz
theorem fG.left_eq {K V:Type} {E:Enc K V} {w:World} {b r c:Nat} {m:K→Option V} {left:K→Bool} {cnt:Nat} (h:fG E w b r c m left cnt):w.rangeLeft b r=cnt:=by
 obtain ⟨D,lf,h1,_⟩:=h;exact h1.left_eq
theorem aK.Qi {w w':World} {o o':Nat→Nat} {K n n':Nat} {L:aT} {S:St} {U':Stp→Option Us} (h:aK w o K L S n) (hn:n≤n') (ok:aU S) (s:Step (fun c=>c=K+7) w o w' o') (t:rU w' o' K L.us n' U'):aK w' o' K L {S with U:=U'} n' where
 own:=(s.own h.cs).trans h.own
 cs:=s.block h.cs (by rw [h.own];omega)
 win:=h.win.step s (by omega) (by omega)
 tree:=h.tree.step ok.tree s (fun c e=>by unfold bI at e;omega)
 tok:=h.tok.step s (by omega) (by omega)
 files:=(h.more hn).files.step ok.file s (by omega) (fun i hi c e=>by unfold dN at e;omega)
 uses:=t
def xM (w:World) (o:Nat→Nat) (K:Nat) (L:aT) (S:St) (n:Nat) (e:Ending) (w':World):Prop:=
 e=.returned (.tuple #[])∧∃o',Step (fun c=>c=K+7) w o w' o'∧aK w' o' K L {S with U:=iD S.F S.U} n
def nH (w:World) (lb c:Nat) (g:Stp→Int):Prop:=∃m c',c'≤c∧MapAt sD w lb c' m∧∀x,(m x).getD 0=g x
theorem nH.fr {S:Nat→Prop} {w w':World} {lb c:Nat} {g:Stp→Int} (h:nH w lb c g) (f:Fr S w w') (hb:¬S lb):nH w' lb c g:=by
 obtain ⟨m,c',hc,h1,h2⟩:=h;exact ⟨m,c',hc,h1.fr f hb,h2⟩
theorem nH.look {w:World} {lb c:Nat} {g:Stp→Int} (h:nH w lb c g) (x:Stp) (hx:iF x):(Instr.lookup 160 (.map (some lb)) (jF x) false).run prog w=.ok (.int .i64 (g x)) w:=by
 obtain ⟨m,c',hc,h1,h2⟩:=h;have:=h1.look x hx (t:=160) (e:=3) underlying160 (z:=.int .i64 0) (by kernel_rfl) false;rw [← h2 x];cases hm:m x with
 | none=>rw [hm] at this;exact this
 | some y=>rw [hm] at this;exact this
theorem nH.entry {w:World} {lb c:Nat} {g:Stp→Int} (h:nH w lb c g) (x:Stp) (hx:iF x) (hc:c<4611686018427387904):
  ∃st w1,(Instr.mapEntry 160 (.map (some lb)) (jF x)).run prog w=.ok (.tuple #[.int .i64 (g x),goInt st]) w1∧(Instr.mapEntry 160 (.map (some lb)) (jF x)).run prog w1=.ok (.tuple #[.int .i64 (g x),goInt st]) w1∧Fr (· =lb) w w1∧nH w1 lb (c+1) g∧
   ∀y:Int,∃w2,(Instr.entryStore 160 (.map (some lb)) (goInt st) (.int .i64 y)).run prog w1=.ok () w2∧Fr (· =lb) w1 w2∧nH w2 lb (c+1) (fun z=>if z=x then y else g z):=by
 obtain ⟨m,c',hc',h1,h2⟩:=h;obtain ⟨st,w1,E⟩:=h1.entry x hx (by omega) (t:=160) (e:=3) underlying160 (z0:=0) trivial (fun u=>by kernel_rfl);have hle:(if (m x).isSome then c' else c'+1)≤c+1:=by split<;>omega
 rw [h2 x] at E;refine ⟨st,w1,E.run,E.again,E.fr,⟨_,_,hle,E.map1,fun z=> ?_⟩,fun y=> ?_⟩
 ·by_cases e:z=x
  ·rw [if_pos e,e];rfl
  ·rw [if_neg e];exact h2 z
 ·obtain ⟨w2,hr,hm,f,_⟩:=E.store y trivial;refine ⟨w2,hr,f,_,_,hle,hm,fun z=> ?_⟩;by_cases e:z=x
  ·show _=if z=x then y else g z
   rw [if_pos e,if_pos e];rfl
  ·show _=if z=x then y else g z
   rw [if_neg e,if_neg e];exact h2 z
structure uH (o:Nat→Nat) (K:Nat) (L:aT) (F:Nat→Option aG) (fp:Nat→Nat) (w wr:World) (lb rb c:Nat) (left:Int→Bool) (cnt cf:Nat) (g:Stp→Int):Prop where
 fr:Fr No w wr
 live:nH wr lb c g
 rng:fG encI wr L.fl rb cf (cO F fp) left cnt
theorem uH.step {o:Nat→Nat} {K:Nat} {L:aT} {F:Nat→Option aG} {fp:Nat→Nat} {w wr w':World} {lb rb c cnt cf:Nat} {left:Int→Bool} {g:Stp→Int} (h:uH o K L F fp w wr lb rb c left cnt cf g) (f:Fr No wr w'):uH o K L F fp w w' lb rb c left cnt cf g:=
 ⟨h.fr.trans f kp,h.live.fr f id,h.rng.fr f id id⟩
theorem oV.fr {S:Nat→Prop} {w w':World} {base:Nat} {v:Value} {L:List Pt} (h:oV w base v L) (f:Fr S w w') (hS:∀j,base≤j→¬S j):oV w' base v L:=by
 rcases h with h|⟨b,cap,e,hm,hb,hr⟩
 ·exact .inl h
 ·exact .inr ⟨b,cap,e,hm,hb,hr.fr f (hS b hb)⟩
theorem aCf {ops:Array Oper} {rest:List Oper} {op:Oper} {a:Act} {w w':World} {Q:Exit→Act→World→Prop} (hgd:op.guard=none) (t:TypeId) (m s x:Operand) (ho:op.op=.entryStore t m s x)
  (hr:(Instr.entryStore t (a.eval m) (a.eval s) (a.eval x)).run prog w=.ok () w') (h:wpList prog ops Q rest (a.put op.dst undef) w'):wpList prog ops Q (op::rest) a w:=
 wpList_plain hgd fun K hK=>by
  unfold Oper.wp execOp;simp only [ho,Sem.run_bind,hr,Result.andThen_ok,Sem.run_pure,Oper.upon,Sem.run_map];exact hK _ _ h
structure Jp (L:aT) (F:Nat→Option aG) (U:Stp→Option Us) (w wr:World) (lb rb c cl cu:Nat) (left:Stp→Bool) (cnt:Nat):Prop where
 fr:Fr (· =L.us) w wr
 live:nH wr lb cl (jT F)
 le:c≤cu
 rng:∃m,fG nC wr L.us rb c m left cnt∧∀z,m z=if left z=true then dV U z else dV (iD F U) z
theorem En (o:Nat→Nat) (K n:Nat) (L:aT) (S:St) (w:World) (h:aK w o K L S n) (ok:aU S) (pts:jP S.F) (hf:aP w o) (hn:n≤1000000):
  Calls prog 97 #[.pointer (some ⟨L.s,0,none⟩)] w (xM w o K L S n):=by
 have mixed:prog.follows .mixedOrders=true:=by kernel_rfl
 have HH:=lH h;have HOK:=lH ok;have HF:=lH hf;have HP:=lH pts;have HSH:=lH pts.short;obtain ⟨hfo,fp,cf,hcf,hfm,hfl⟩:=h.files;have HFM:=lH hfm;have HFL:=lH hfl;have HML:Hid (∀i m,S.F i=some m→fU m):=lH (fun i m hi=>(ok.file i m hi).2.2);have HIL:Hid (∀i m,S.F i=some m→1≤i∧i≤128):=lH (fun i m hi=>⟨(ok.file i m hi).1,(ok.file i m hi).2.1⟩);have f0:Fr No w (w.alloc (.map #[] 0)):=(Fr.refl w).alloc _;obtain ⟨w2,hr,R2,f2,hs2⟩:=(hfm.fr f0 id).range (t:=100) (e:=63) underlying100;have hlt:L.fl<w.heap.size:=hfm.lt;have hne:L.fl≠w.heap.size:=by omega
 have F2:Fr No w w2:=f0.trans f2 kp;have hsA:(w.alloc (.map #[] 0)).heap.size=w.heap.size+1:=by simp
 have HI:Hid (uH o K L S.F fp w w2 w.heap.size (w.heap.size+1) 0 (fun x=>(cO S.F fp x).isSome) cf cf (jC S.F (fun x=>(cO S.F fp x).isSome))):=lH ⟨F2,by
  refine nH.fr (w:=w.alloc (.map #[] 0)) ⟨_,0,Nat.le_refl _,MapAt.made sD w,fun x=> ?_⟩ f2 id;rw [aBN (fun i m hi=>by unfold cO;rw [if_pos (by omega),Int.toNat_natCast,hi];rfl)];rfl,by rw [← hsA];exact R2⟩
 have HQ:Hid (∀e w' o',e=.returned (.tuple #[])→Step (fun c=>c=K+7) w o w' o'→aK w' o' K L {S with U:=iD S.F S.U} n→xM w o K L S n e w'):=lH (fun e w' o' he s t=>⟨he,o',s,t⟩);generalize hQQ:xM w o K L S n=Q at*;clear hQQ;have c11:(w.alloc (.map #[] 0)).cell? ⟨L.s,11,none⟩=some (.map (some L.fl)):=f0.cell_of (h.cell 11) id;rw [hsA] at hr;have hsz2:w2.heap.size=w.heap.size+2:=by rw [hs2,hsA]
 have hcf1:cf≤1000000:=Nat.le_trans hcf hn;clear h ok pts hf hfo hcf hfm hfl f0 R2 f2 hs2 hsA F2;have hmk:(Instr.makeMap 160 none).run prog w=.ok (.map (some w.heap.size)) (w.alloc (.map #[] 0)):=by kernel_rfl
 go_enter func97,ntmps97;go_wp2_with fail;generalize hlb:w.heap.size=lb at*;go_loopw [] (fun wr=>∃(left:Int→Bool) (cnt c:Nat),Hid (uH o K L S.F fp w wr lb (lb+1) c left cnt cf (jC S.F left))∧c+64*cnt≤64*cf) (fun wr=>wr.rangeLeft L.fl (lb+1))
 case atStart=>exact ⟨_,_,_,HI,by omega⟩
 case round=>
  obtain ⟨left,cnt,c,HIN,hcc⟩:=hrel;rcases HIN.o.rng.next 0 with ⟨_,hno,hnx⟩|⟨x,y,w4,cnt',hms,hls,hnx,hra',hlt',f4,hs4,hen⟩
  ·have HLV:Hid (nH wr lb c (jT S.F)):=lH (by
    have e:jT S.F=jC S.F left:=by
     funext z;exact (Vj (fun i hi=>hno (i:Int) (by show I64 _;unfold I64;omega)) z).symm
    rw [e];exact HIN.o.live)
   obtain ⟨wo,hwo⟩:∃wo:World,wo=wr:=⟨_,rfl⟩
   have hfo:Fr No w wo:=hwo▸HIN.o.fr;obtain ⟨huo,cu,hcu,hum⟩:=HH.o.uses;obtain ⟨w6,hr6,R6,f6,hs6⟩:=(hum.fr hfo id).range (t:=101) (e:=80) underlying101;have hult:L.us<w.heap.size:=hum.lt;have c12:wr.cell? ⟨L.s,12,none⟩=some (.map (some L.us)):=HIN.o.fr.cell_of (HH.o.cell 12) id;have hszo:lb≤wo.heap.size:=hlb▸hfo.size;have hlbo:lb<wo.heap.size:=(by rw [hwo];have:=HIN.o.rng.lt;omega)
   have U0:Hid (Jp L S.F S.U w w6 lb wo.heap.size cu c cu (fun x=>(dV S.U x).isSome) cu):=lH ⟨(hfo.trans f6 kp).bK,(hwo▸HLV.o).fr f6 id,Nat.le_refl _,_,R6,fun z=>by
    cases hz:dV S.U z with
    | some y=>rfl
    | none=>
     have:S.U z=none:=by
      unfold dV at hz;cases h:S.U z with
      | none=>rfl
      | some u=>rw [h] at hz;cases hz
     simp [dV,iD,this]⟩
   have HUO:=lH huo;have HUM:=lH hum;have HCU:=lH hcu;subst hwo;clear huo hcu hum hno HIN hcc R6 f6 hs6 hr hmk hfo;go_wp2_with fail;generalize hrb:wo.heap.size=rb at*;go_loopw [] (fun wr=>∃(left:Stp→Bool) (cnt c':Nat),Hid (Jp L S.F S.U w wr lb rb c' c cu left cnt)) (fun wr=>wr.rangeLeft L.us rb)
   case atStart=>exact ⟨_,_,_,U0⟩
   case round=>
    obtain ⟨left2,cnt2,c2,HU⟩:=hrel;obtain ⟨mU,hra,hmU⟩:=HU.o.rng;rcases hra.next 0 with ⟨_,hno,hnx⟩|⟨x,y,w7,cnt',hms,hls,hnx,hra',hlt',f7,hs7,hen⟩
    ·have HST:=lH (show Step (fun c=>c=K+7) w o wr o from ⟨HU.o.fr.mono (fun j _ e=>by rw [e];exact HUO.o),fun _ _=>rfl,fun k hk=>HF.o k (Nat.le_trans HU.o.fr.size hk)⟩);have HEND:Hid (aK wr o K L {S with U:=iD S.F S.U} n):=lH (HH.o.Qi (Nat.le_refl _) HOK.o HST.o ⟨HUO.o,c2,Nat.le_trans HU.o.le HCU.o,by
      have e:mU=dV (iD S.F S.U):=by
       funext z;rw [hmU z];by_cases hl:left2 z=true
       ·rw [if_pos hl];cases hz:dV S.U z with
        | some y=>
         have:=hno z (HUM.o.good hz).1;rw [hl] at this;cases this
        | none=>
         have:S.U z=none:=by
          unfold dV at hz;cases h:S.U z with
          | none=>rfl
          | some u=>rw [h] at hz;cases hz
         simp [dV,iD,this]
       ·rw [if_neg hl]
      rw [← e];exact hra.map⟩)
     clear hra hmU hno;go_wp2_with fail;exact bodyPost_end (v:=.tuple #[]) (by simp [results,results97,go_sem]) rfl (HQ.o _ _ _ rfl HST.o HEND.o)
    ·obtain ⟨u,hu,rfl⟩:∃u,S.U x=some u∧y=(x,u):=by
      rw [hmU x,if_pos hls] at hms;unfold dV at hms;cases h:S.U x with
      | none=>rw [h] at hms;cases hms
      | some u=>
       rw [h] at hms;cases hms;exact ⟨u,rfl,rfl⟩
     have hgx:iF x:=(hra.map.good hms).1;have HR7:=lH hra';have L7:=HU.o.live.fr f7 (show ¬lb=rb by omega);obtain ⟨v,hv⟩:∃v,jT S.F x=v:=⟨_,rfl⟩
     have HV:=lH hv;have LK:Hid (∀W,Fr No w7 W→(Instr.lookup 160 (.map (some lb)) (jF x) false).run prog W=.ok (.int .i64 v) W):=lH (fun W f=>by
      rw [← hv];exact (L7.fr f id).look x hgx)
     have f9:Fr No w7 ((w7.alloc (.cells #[.int .i64 x.1,.int .i64 x.2.1,.int .i64 x.2.2] 46)).alloc (.cells #[.int .i64 x.1,.int .i64 x.2.1,.int .i64 x.2.2,.int .i64 u.1,.int .i64 u.2.1,.int .i64 u.2.2] 80)):=((Fr.refl _).alloc _).alloc _;have lk9:=LK.o _ f9;have RA:Hid (((w7.alloc (.cells #[.int .i64 x.1,.int .i64 x.2.1,.int .i64 x.2.2] 46)).alloc (.cells #[.int .i64 x.1,.int .i64 x.2.1,.int .i64 x.2.2,.int .i64 u.1,.int .i64 u.2.1,.int .i64 u.2.2] 80)).rangeAt w7.heap.size 0 [.int .i64 x.1,.int .i64 x.2.1,.int .i64 x.2.2]):=lH (World.rangeAt_of_block (((Fr.refl (S:=No) _).alloc _).aC (aO w7 _) id) 0 3);have F7:=lH (HU.o.fr.trans f7 (fun j hj e=>by omega));have hnx':(Instr.next (.pointer (some ⟨rb,0,none⟩)) false 0).run prog wr=.ok (.tuple #[.bool true,.agg #[.int .i64 x.1,.int .i64 x.2.1,.int .i64 x.2.2],.agg #[.int .i64 x.1,.int .i64 x.2.1,.int .i64 x.2.2,.int .i64 u.1,.int .i64 u.2.1,.int .i64 u.2.2]]) w7:=hnx;have hen':(Instr.entry (.pointer (some ⟨rb,0,none⟩))).run prog w7=.ok (.tuple #[.agg #[.int .i64 x.1,.int .i64 x.2.1,.int .i64 x.2.2],.agg #[.int .i64 x.1,.int .i64 x.2.1,.int .i64 x.2.2,.int .i64 u.1,.int .i64 u.2.1,.int .i64 u.2.2]]) w7:=hen;have HLT:=lH hlt';have HLE:Hid (wr.rangeLeft L.us rb=cnt2):=lH hra.left_eq;have HMU:=lH hmU;have HMX:Hid ((mU x).isSome=true):=lH (by rw [hms];rfl);have HUX:Hid (iD S.F S.U x=if v=0 then none else some (u.1,v,u.2.2)):=lH (by unfold iD;rw [hu];dsimp only;rw [hv]);have L7':=lH L7;unfold jF at lk9 LK;clear hnx hen hra' hra f7 hs7 hms hls hlt' hmU hv L7 f9;go_wp2_with (refine wpList_load_mid (by rfl) 46 _ (by rfl) w7.heap.size 0 (by rfl) [.int .i64 x.1,.int .i64 x.2.1,.int .i64 x.2.2] _ RA.o underlying46 rfl Tryz.lJ ?_);have fB:Fr No w7 ((w7.alloc (.cells #[.int .i64 x.1,.int .i64 x.2.1,.int .i64 x.2.2] 46)).alloc (.cells #[.int .i64 x.1,.int .i64 x.2.1,.int .i64 x.2.2,.int .i64 u.1,.int .i64 v,.int .i64 u.2.2] 80)):=((Fr.refl _).alloc _).alloc _;have kA:((w7.alloc (.cells #[.int .i64 x.1,.int .i64 x.2.1,.int .i64 x.2.2] 46)).alloc (.cells #[.int .i64 x.1,.int .i64 x.2.1,.int .i64 x.2.2,.int .i64 u.1,.int .i64 v,.int .i64 u.2.2] 80)).heap[w7.heap.size]? =some (.cells #[.int .i64 x.1,.int .i64 x.2.1,.int .i64 x.2.2] 46 (0,0)):=((Fr.refl (S:=No) _).alloc _).aC (aO w7 _) id
     have kB:((w7.alloc (.cells #[.int .i64 x.1,.int .i64 x.2.1,.int .i64 x.2.2] 46)).alloc (.cells #[.int .i64 x.1,.int .i64 x.2.1,.int .i64 x.2.2,.int .i64 u.1,.int .i64 v,.int .i64 u.2.2] 80)).heap[w7.heap.size+1]? =some (.cells #[.int .i64 x.1,.int .i64 x.2.1,.int .i64 x.2.2,.int .i64 u.1,.int .i64 v,.int .i64 u.2.2] 80 (0,0)):=by
      have:=aO (w7.alloc (.cells #[.int .i64 x.1,.int .i64 x.2.1,.int .i64 x.2.2] 46)) (.cells #[.int .i64 x.1,.int .i64 x.2.1,.int .i64 x.2.2,.int .i64 u.1,.int .i64 v,.int .i64 u.2.2] 80);simpa using this
     generalize (w7.alloc (.cells #[.int .i64 x.1,.int .i64 x.2.1,.int .i64 x.2.2] 46)).alloc (.cells #[.int .i64 x.1,.int .i64 x.2.1,.int .i64 x.2.2,.int .i64 u.1,.int .i64 v,.int .i64 u.2.2] 80)=wB at*;have fD:Fr No w7 wB.drew:=fB.trans (Fr.refl _).drew kp;have hus7:L.us<w7.heap.size:=(by have:=F7.o.size;omega)
     obtain ⟨w10,hput,R10,f10⟩:=(HR7.o.fr fD id id).aBc x (x,(u.1,v,u.2.2)) hgx HMX.o trivial (by have:=HU.o.le;have:=HCU.o;omega) (t:=101) (e:=80) underlying101 (zv:=.agg #[.int .i64 0,.int .i64 0,.int .i64 0,.int .i64 0,.int .i64 0,.int .i64 0]) (by kernel_rfl);have hput':(Instr.mapUpdate 101 (.map (some L.us)) (.agg #[.int .i64 x.1,.int .i64 x.2.1,.int .i64 x.2.2]) (.agg #[.int .i64 x.1,.int .i64 x.2.1,.int .i64 x.2.2,.int .i64 u.1,.int .i64 v,.int .i64 u.2.2])).run prog wB.drew=.ok () w10:=hput;have HPUT:=lH hput';have F10:Hid (Fr (· =L.us) w w10):=lH (F7.o.trans (fD.bK.trans f10 kp) kp);have d12:wB.drew.cell? ⟨L.s,12,none⟩=some (.map (some L.us)):=by
      have h1:=F7.o.cell_of (HH.o.cell 12) (show ¬L.s=L.us from fun e=>by
       have a:=HH.o.own;rw [e,HUO.o] at a;omega)
      exact fD.cell_of h1 id
     have L10:Hid (nH w10 lb c (jT S.F)):=lH ((L7'.o.fr fD id).fr f10 (show ¬lb=L.us by omega));have kA':=(Fr.refl (S:=No) wB).drew.aC kA id;have kB':=(Fr.refl (S:=No) wB).drew.aC kB id;have RA2:Hid (wB.drew.rangeAt w7.heap.size 0 [.int .i64 x.1,.int .i64 x.2.1,.int .i64 x.2.2]):=lH (World.rangeAt_of_block kA' 0 3);have RB2:Hid (wB.drew.rangeAt (w7.heap.size+1) 0 [.int .i64 x.1,.int .i64 x.2.1,.int .i64 x.2.2,.int .i64 u.1,.int .i64 v,.int .i64 u.2.2]):=lH (World.rangeAt_of_block kB' 0 6);have kA10:=f10.aC kA' (by omega);have e4:w10.cell? ⟨w7.heap.size+1,4,none⟩=some (.int .i64 v):=(by rw [aA (f10.aC kB' (by omega))];rfl)
     have R10H:=lH R10;have D12:=lH d12;clear fB kA kB fD hput hput' f10 R10 d12 kA' kB';refine gK mixed (fun W=>W=wB.drew) [6] (by kernel_rfl) (by kernel_rfl) (by kernel_rfl) (by kernel_rfl) (fun _ _ d _ _ h=>by cases d<;>exact h) rfl ?_;repeat (first
      | refine fM (by rfl) ?_
      | (refine fO (v:= ?_) (by rfl) (by rfl) ?_ ?_
         rotate_left 1
         (intro W;go_simp;(try with_reducible rfl))
         simp only [Act.put,lsA,aB,lsS])
      | (refine dM (v:=.agg #[.int .i64 x.1,.int .i64 x.2.1,.int .i64 x.2.2]) (by rfl) (by kernel_rfl) (by rfl) (fun W hS=>oG 46 (.tmp 7) (by rfl) w7.heap.size 0 (by rfl) [.int .i64 x.1,.int .i64 x.2.1,.int .i64 x.2.2] _ (by rw [hS];exact RA2.o) underlying46 rfl Tryz.lJ) ?_
         simp only [Act.put,lsA,aB,lsS])
      | (refine dM (v:=.agg #[.int .i64 x.1,.int .i64 x.2.1,.int .i64 x.2.2,.int .i64 u.1,.int .i64 v,.int .i64 u.2.2]) (by rfl) (by kernel_rfl) (by rfl) (fun W hS=>oG 80 (.tmp 8) (by rfl) (w7.heap.size+1) 0 (by rfl) [.int .i64 x.1,.int .i64 x.2.1,.int .i64 x.2.2,.int .i64 u.1,.int .i64 v,.int .i64 u.2.2] _ (by rw [hS];exact RB2.o) underlying80 rfl Tryz.yJ) ?_
         simp only [Act.put,lsA,aB,lsS])
      | (refine dM (v:= ?_) (by rfl) (by kernel_rfl) (by rfl) ?_ ?_
         rotate_left 1
         (intro W hS;have e1:W.cell? ⟨L.s,12,none⟩=some (.map (some L.us)):=(by rw [hS];exact D12.o);clear hS;go_simp;(try with_reducible rfl))
         simp only [Act.put,lsA,aB,lsS]))
     intro W hS;obtain rfl:W=wB.drew:=hS;simp only [List.reverse_cons,List.reverse_nil,List.nil_append,List.cons_append];have hpu:=HPUT.o;cases hv0:(v==0) with
     | false=>
      have hvn:v≠0:=(by simpa using hv0)
      go_wp2_with fail;refine ⟨⟨fun z=>left2 z&&decide (z≠x),cnt',c2,lH ⟨F10.o,L10.o,HU.o.le,_,R10H.o,fun z=> ?_⟩⟩,?_⟩
      ·by_cases e:z=x
       ·subst e;simp only [ne_eq,not_true_eq_false,decide_false,Bool.and_false,if_true,Bool.false_eq_true,if_false];unfold dV;rw [HUX.o,if_neg hvn];rfl
       ·simp only [e,if_false,ne_eq,not_false_eq_true,decide_true,Bool.and_true];exact HMU.o z
      ·rw [R10H.o.left_eq,HLE.o];exact HLT.o
     | true=>
      obtain rfl:v=0:=(by simpa using hv0)
      obtain ⟨w11,cnt3,hdel,R11,hle3,f11⟩:=(R10H.o.fr (Fr.refl (S:=No) w10).drew id id).Ym x hgx (t:=101) (e:=80) underlying101 0;have hdel':(Builtin.delete_ #[101,46] 0 #[.map (some L.us),.agg #[.int .i64 x.1,.int .i64 x.2.1,.int .i64 x.2.2]]).run prog w10.drew=.ok (.tuple #[]) w11:=hdel;have HDEL:=lH hdel';have kA11:=(Fr.refl (S:=No) w10).drew.aC kA10 id;have RA3:Hid (w10.drew.rangeAt w7.heap.size 0 [.int .i64 x.1,.int .i64 x.2.1,.int .i64 x.2.2]):=lH (World.rangeAt_of_block kA11 0 3);have D13:Hid (w10.drew.cell? ⟨L.s,12,none⟩=some (.map (some L.us))):=lH ((Fr.refl (S:=No) w10).drew.cell_of (F10.o.cell_of (HH.o.cell 12) (show ¬L.s=L.us from fun e=>by
       have a:=HH.o.own;rw [e,HUO.o] at a;omega)) id)
      have F11:Hid (Fr (· =L.us) w w11):=lH (F10.o.trans ((Fr.refl (S:=No) w10).drew.bK.trans f11 kp) kp);have L11:Hid (nH w11 lb c (jT S.F)):=lH ((L10.o.fr (Fr.refl (S:=No) w10).drew id).fr f11 (show ¬lb=L.us by omega));have R11H:=lH R11;have HLE3:=lH hle3;clear hdel hdel' R11 hle3 f11 kA11;go_wp2_with fail;refine gK mixed (fun W=>W=w10.drew) [5] (by kernel_rfl) (by kernel_rfl) (by kernel_rfl) (by kernel_rfl) (fun _ _ d _ _ h=>by cases d<;>exact h) rfl ?_;repeat (first
       | refine fM (by rfl) ?_
       | (refine fO (v:= ?_) (by rfl) (by rfl) ?_ ?_
          rotate_left 1
          (intro W;go_simp;(try with_reducible rfl))
          simp only [Act.put,lsA,aB,lsS])
       | (refine dM (v:=.agg #[.int .i64 x.1,.int .i64 x.2.1,.int .i64 x.2.2]) (by rfl) (by kernel_rfl) (by rfl) (fun W hS=>oG 46 (.tmp 7) (by rfl) w7.heap.size 0 (by rfl) [.int .i64 x.1,.int .i64 x.2.1,.int .i64 x.2.2] _ (by rw [hS];exact RA3.o) underlying46 rfl Tryz.lJ) ?_
          simp only [Act.put,lsA,aB,lsS])
       | (refine dM (v:= ?_) (by rfl) (by kernel_rfl) (by rfl) ?_ ?_
          rotate_left 1
          (intro W hS;have e1:W.cell? ⟨L.s,12,none⟩=some (.map (some L.us)):=(by rw [hS];exact D13.o);clear hS;go_simp;(try with_reducible rfl))
          simp only [Act.put,lsA,aB,lsS]))
      intro W hS;obtain rfl:W=w10.drew:=hS;simp only [List.reverse_cons,List.reverse_nil,List.nil_append,List.cons_append];have hdd:=HDEL.o;go_wp2_with fail;refine ⟨⟨fun z=>(left2 z&&decide (z≠x))&&decide (z≠x),cnt3,_,lH ⟨F11.o,L11.o,?_,_,R11H.o,fun z=> ?_⟩⟩,?_⟩
      ·have hle:∀b:Bool,(if b=true then c2 - 1 else c2)≤c2:=fun b=>by cases b<;>simp
       exact Nat.le_trans (hle _) HU.o.le
      ·by_cases e:z=x
       ·subst e;simp only [ne_eq,not_true_eq_false,decide_false,Bool.and_false,if_true,Bool.false_eq_true,if_false];unfold dV;rw [HUX.o];rfl
       ·simp only [e,if_false,ne_eq,not_false_eq_true,decide_true,Bool.and_true];exact HMU.o z
      ·rw [R11H.o.left_eq,HLE.o];have:=HLT.o;have:=HLE3.o;omega
  ·obtain ⟨i,m,him,rfl,rfl⟩:∃(i:Nat) (m:aG),S.F i=some m∧x=(i:Int)∧y=fp i:=by
    unfold cO at hms;split at hms
    ·cases hF:S.F x.toNat with
     | none=>rw [hF] at hms;cases hms
     | some m=>
      rw [hF] at hms;cases hms;exact ⟨x.toNat,m,hF,by omega,rfl⟩
    ·cases hms
   have hib:=HIL.o i m him;have F4:Fr No w w4:=HIN.o.fr.trans f4 (fun j hj e=>by omega);have IN4:Hid (uH o K L S.F fp w w4 lb (lb+1) c (fun z=>left z&&decide (z≠(i:Int))) cnt' cf (jC S.F left)):=lH ⟨F4,HIN.o.live.fr f4 (by omega),hra'⟩;have HPT:=lH (aAG (fp i) m w4 ((HFL.o i m him).reads.fr F4) (by have:=(HML.o i m him).2;have:=(HML.o i m him).1;unfold dY at*;omega));obtain ⟨g',hg'⟩:∃g',jC S.F (fun z=>left z&&decide (z≠(i:Int)))=g':=⟨_,rfl⟩
   have HG':=lH hg';have HLD:Hid (∀x,g' x=jC S.F left x+fZ (ptrs m) x):=lH (fun x=>by rw [← hg'];exact aCY him (by omega) hls x);have HBD:Hid (∀x,0≤jC S.F left x∧jC S.F left x≤528384):=lH (fun x=>aCr HSH.o HML.o left x);have HPL:Hid ((ptrs m).length≤64):=lH (Gs (HML.o i m him));have HPM:Hid (∀p∈ptrs m,dI p):=lH (fun p hp=>HP.o i m him p (List.mem_filter.1 hp).1);have hnx':(Instr.next (.pointer (some ⟨lb+1,0,none⟩)) false 0).run prog wr=.ok (.tuple #[.bool true,.int .i64 i,.pointer (some ⟨fp i,0,none⟩)]) w4:=hnx;have hen':(Instr.entry (.pointer (some ⟨lb+1,0,none⟩))).run prog w4=.ok (.tuple #[.int .i64 i,.pointer (some ⟨fp i,0,none⟩)]) w4:=hen;have hLQ:Hid (wr.rangeLeft L.fl (lb+1)=cnt):=lH HIN.o.rng.left_eq;clear hnx hen hra' f4 hs4 hms hls hmk hr c11 F4 hg';generalize ptrs m=P at*;generalize jC S.F left=g at*;go_wp2_with fail;refine HPT.o.mono ?_;rintro e w5 ⟨v,rfl,pn,f5⟩;obtain ⟨base,cap,rfl⟩:=pn.val.slice;have IN5:=lH (IN4.o.step f5);have PN5:=lH pn;have hlb4:lb+1<w4.heap.size:=IN4.o.rng.lt;have PN5:Hid (oV w5 (lb+1) (.slice base P.length cap) P):=lH (by
    rcases PN5.o with h|⟨b,c',e,hm,hb,hr⟩
    ·exact .inl h
    ·exact .inr ⟨b,c',e,hm,by omega,hr⟩)
   clear pn f5;go_wp2_with fail;go_loopw [22] (fun a wr=>∃j:Nat,a=.int .i64 j∧j≤P.length∧Hid (uH o K L S.F fp w wr lb (lb+1) (c+j) (fun z=>left z&&decide (z≠(i:Int))) cnt' cf (fun x=>g x+fZ (P.take j) x))∧Hid (oV wr (lb+1) (.slice base P.length cap) P)) (fun a _=>P.length - (intOf a).toNat)
   case atStart=>
    refine ⟨0,rfl,Nat.zero_le _,lH ?_,PN5⟩;have e:(fun x=>g x+fZ (P.take 0) x)=g:=by
     funext x;simp [fZ]
    rw [e];exact IN5.o
   case round=>
    obtain ⟨j,rfl,hj,HI6,HP6⟩:=hrel;by_cases hlt6:j<P.length
    ·obtain ⟨b,rfl,hm,hrw⟩:=HP6.o.val.row (by omega);have HRR:=lH (hrw.row j P[j] (List.getElem?_eq_getElem hlt6));have hlen:=hrw.len;have hml:cap≤9223372036854775807:=hm;have q1:(j:Int)<(P.length:Int):=(by omega)
     have q2:(j:Int)<(cap:Int):=(by omega)
     have q3:(0:Int)≤(j:Int):=(by omega)
     have HTK:Hid (∀z,g z+fZ (P.take (j+1)) z=g z+fZ (P.take j) z+if iK P[j]=z then P[j].z else 0):=lH (fun z=>by
      rw [List.take_add_one,List.getElem?_eq_getElem hlt6,Option.toList_some,aAW];omega)
     obtain ⟨hgd,hz0,hz64⟩:=pW (HPM.o P[j] (List.getElem_mem hlt6));have HBJ:=HBD.o (iK P[j]);have HLB:=Om (L:=P.take j) (fun p hp=>(pW (HPM.o p (List.mem_of_mem_take hp))).2) (iK P[j]);rw [List.length_take] at HLB;have hjm:min j P.length=j:=(by omega)
     rw [hjm] at HLB;generalize P[j]=x at*;obtain ⟨y,hy⟩:∃y,g (iK x)+fZ (P.take j) (iK x)=y:=⟨_,rfl⟩
     have f6:Fr No wr (wr.alloc (.cells #[.int .i64 x.c,.int .i64 x.l,.int .i64 x.n,.int .i64 x.a,.int .i64 x.z] 59)):=(Fr.refl wr).alloc _;have k6:=aO wr (.cells #[.int .i64 x.c,.int .i64 x.l,.int .i64 x.n,.int .i64 x.a,.int .i64 x.z] 59);have I7:=HI6.o.step (f6.trans (Fr.refl _).drew kp);have P7:=HP6.o.fr (f6.trans (Fr.refl _).drew kp) kp;have hcnt:c+j<4611686018427387904:=by
      have:=HPL.o;have:=hcf1;omega
     obtain ⟨st,wE1,hme,hma,fme,Lv1,hst⟩:=I7.live.entry (iK x) hgd hcnt;rw [hy] at hme hma;obtain ⟨wE2,hst2,fst,Lv2⟩:=hst (y+x.z);have hw:wrap64 (y+x.z)=y+x.z:=by
      have:=HPL.o;unfold wrap64;omega
     have lk0:=I7.live.look (iK x) hgd;have lk1:=Lv1.look (iK x) hgd;rw [hy] at lk0 lk1;have IE2:Hid (uH o K L S.F fp w wE2 lb (lb+1) (c+(j+1)) (fun z=>left z&&decide (z≠(i:Int))) cnt' cf (fun z=>g z+fZ (P.take (j+1)) z)):=lH ⟨I7.fr.trans (fme.trans fst kp) (fun k hk e=>by omega),by
      have e:(fun z=>g z+fZ (P.take (j+1)) z)=(fun z=>if z=iK x then y+x.z else g z+fZ (P.take j) z):=by
       funext z;rw [HTK.o z];by_cases e:z=iK x
       ·subst e;rw [if_pos rfl,if_pos rfl,hy]
       ·rw [if_neg e,if_neg (fun h=>e h.symm)];omega
      rw [e];exact Lv2,I7.rng.fr (fme.trans fst kp) hne (by omega)⟩
     have PE2:Hid (oV wE2 (lb+1) (.slice (some ⟨b,0,none⟩) P.length cap) P):=lH (P7.fr (fme.trans fst kp) (fun k hk e=>by omega));have k7:=(Fr.refl (S:=No) _).drew.aC k6 id;have hlt7:wr.heap.size≠lb:=(by have:=HI6.o.rng.lt;omega)
     have FS:Hid (∀(d:Bool) W,(if d=true then W=wE1 else W=(wr.alloc (.cells #[.int .i64 x.c,.int .i64 x.l,.int .i64 x.n,.int .i64 x.a,.int .i64 x.z] 59)).drew)→W.rangeAt wr.heap.size 0 [.int .i64 x.c,.int .i64 x.l,.int .i64 x.n]∧W.cell? ⟨wr.heap.size,4,none⟩=some (.int .i64 x.z)∧(Instr.lookup 160 (.map (some lb)) (jF (iK x)) false).run prog W=.ok (.int .i64 y) W):=lH (fun d W hS=>by
      cases d with
      | true=>
       obtain rfl:W=wE1:=hS;have k8:=fme.aC k7 hlt7;exact ⟨World.rangeAt_of_block k8 0 3,by rw [aA k8];rfl,lk1⟩
      | false=>
       obtain rfl:W=_:=hS;exact ⟨World.rangeAt_of_block k7 0 3,by rw [aA k7];rfl,lk0⟩)
     have HME:=lH hme;have HST2:=lH hst2;have HWW:=lH hw;have HWI:Hid (IntKind.i64.wrap (y+x.z)=y+x.z):=lH (by rw [IntKind.wrap_i64];have:=HPL.o;omega);unfold dB at HRR;unfold jF iK at FS HME;clear hrw hm f6 I7 P7 hst hme hma fme Lv1 hst2 fst Lv2 lk0 lk1 k7 k6 HI6 hw;go_wp2_with (refine wpList_load_mid (by rfl) 59 _ (by rfl) b (j*5) (by rfl) [.int .i64 x.c,.int .i64 x.l,.int .i64 x.n,.int .i64 x.a,.int .i64 x.z] _ HRR.o underlying59 rfl Tryz.iO ?_);generalize wr.alloc (.cells #[.int .i64 x.c,.int .i64 x.l,.int .i64 x.n,.int .i64 x.a,.int .i64 x.z] 59)=wE at*;generalize wr.heap.size=gE at*;refine Oh mixed (fun d W=>if d=true then W=wE1 else W=wE.drew) 7 [7,8,9] [9] (by kernel_rfl) (by kernel_rfl) (by kernel_rfl) (by kernel_rfl) (fun _ _ d _ _ h=>by cases d<;>exact h) rfl ?_;repeat (first
      | refine Sl (by rfl) ?_
      | (refine Tj (v:= ?_) (by rfl) (by rfl) ?_ ?_
         rotate_left 1
         (intro W;have hw:=HWW.o;go_simp;(try with_reducible rfl))
         simp only [Act.put,lsA,aB,lsS])
      | (refine zT (v:=.agg #[.int .i64 x.c,.int .i64 x.l,.int .i64 x.n]) (by rfl) (by kernel_rfl) (by rfl) (fun d W hS=>oG 46 (.tmp 27) (by rfl) gE 0 (by rfl) [.int .i64 x.c,.int .i64 x.l,.int .i64 x.n] _ (FS.o d W hS).1 underlying46 rfl Tryz.lJ) ?_
         simp only [Act.put,lsA,aB,lsS])
      | (refine zT (v:= ?_) (by rfl) (by kernel_rfl) (by rfl) ?_ ?_
         rotate_left 1
         (intro d W hS;have e1:=(FS.o d W hS).2.1;have e2:=(FS.o d W hS).2.2;go_simp;(try with_reducible rfl))
         simp only [Act.put,lsA,aB,lsS]))
     unfold mQ;refine Ff (v:=.tuple #[.int .i64 y,goInt st]) (by rfl) (by rfl) (by rfl) (fun W hS=>⟨wE1,by obtain rfl:W=wE.drew:=hS;have hme:=HME.o;go_simp,rfl⟩) ?_;simp only [Act.put,lsA,aB,lsS];refine Ff (v:=goInt st) (by rfl) (by rfl) (by rfl) (fun W hS=>⟨W,by go_simp,hS⟩) ?_;simp only [Act.put,lsA,aB,lsS];refine O6 (by rfl) (by rfl) ?_;intro W hS;obtain rfl:W=wE1:=hS;simp only [List.filterMap_cons,List.filterMap_nil,List.getElem?_toArray,List.getElem?_cons_succ,List.getElem?_cons_zero,List.getElem_toArray,List.getElem_cons_succ,List.getElem_cons_zero,Act.put,lsA,aB,lsS];refine aCf rfl 160 (.tmp 26) (.tmp 34) (.tmp 32) rfl (w':=wE2) (by show (Instr.entryStore 160 (.map (some lb)) (.int .i64 st) (.int .i64 (IntKind.i64.wrap (y+x.z)))).run prog W=.ok () wE2;rw [show IntKind.i64.wrap (y+x.z)=y+x.z from HWI.o];exact HST2.o) ?_;go_wp2_with fail;refine ⟨⟨j+1,by go_num,hlt6,IE2,PE2⟩,?_⟩;simp [intOf];omega
    ·obtain rfl:j=P.length:=by omega
     have q1:¬(P.length:Int)<(P.length:Int):=(by omega)
     go_wp2_with fail;refine ⟨⟨fun z=>left z&&decide (z≠(i:Int)),cnt',c+P.length,lH ?_,?_⟩,?_⟩
     ·have e:(fun x=>g x+fZ (P.take P.length) x)=jC S.F (fun z=>left z&&decide (z≠(i:Int))):=by
       funext x;rw [HG'.o,HLD.o x,List.take_length]
      have:=HI6.o;rw [e] at this;exact this
     ·have:=HPL.o;omega
     ·rw [HI6.o.rng.left_eq,hLQ.o];exact hlt'
theorem aK.set {w:World} {o:Nat→Nat} {K n:Nat} {L:aT} {S S':St} (h:aK w o K L S n) (ok:aU S) (hf:aP w o) (j:Nat) (v:Value) (hS:kC L S'=(kC L S).setIfInBounds j v) (hW:S'.W=S.W) (hT:S'.T=S.T) (hK:S'.K=S.K) (hF:S'.F=S.F) (hU:S'.U=S.U):
  Step (fun c=>c=K+8) w o (w.setCell ⟨L.s,j,none⟩ v) o∧aK (w.setCell ⟨L.s,j,none⟩ v) o K L S' n:=by
 have f:Fr (· =L.s) w (w.setCell ⟨L.s,j,none⟩ v):=jQ w L.s j v;have s:Step (fun c=>c=K+8) w o (w.setCell ⟨L.s,j,none⟩ v) o:=⟨f.mono (fun k _ e=>by rw [e];exact h.own),fun _ _=>rfl,fun k hk=>hf k (Nat.le_trans f.size hk)⟩
 refine ⟨s,⟨h.own,by rw [hS];exact setCell_at h.cs j v,?_,?_,?_,?_,?_⟩⟩
 ·rw [hW];exact h.win.step s (by omega) (by omega)
 ·rw [hT];exact h.tree.step ok.tree s (fun c e=>by unfold bI at e;omega)
 ·rw [hK];exact h.tok.step s (by omega) (by omega)
 ·rw [hF];exact h.files.step ok.file s (by omega) (fun i hi c e=>by unfold dN at e;omega)
 ·rw [hU];exact h.uses.step s (by omega)
def nY (f:Nat→Int) (k:Nat) (v:Int):Nat→Int:=fun i=>if i=k then v else f i
theorem Ed (L:aT) (S:St) (k:Nat) (hk:k<5) (v:Int):kC L {S with next:=nY S.next k v}=(kC L S).setIfInBounds (3+k) (.int .i64 v):=by
 match k,hk with
 | 0,_=>simp [kC,nY]
 | 1,_=>simp [kC,nY]
 | 2,_=>simp [kC,nY]
 | 3,_=>simp [kC,nY]
 | 4,_=>simp [kC,nY]
def jA (clock:Int) (st:List Sz) (U:Stp→Option Us):Stp→Option Us:=st.foldl (fun U x=>fun z=>if z=x.1 then some (x.2,0,clock) else U z) U
def eY (S:St) (st:List Sz) (k:Nat) (nx:Int):St:={S with U:=jA S.clock st S.U,next:=nY S.next k nx}
theorem We (c:Int) (st:List Sz) (x:Sz) (U:Stp→Option Us):jA c (st++ [x]) U=fun z=>if z=x.1 then some (x.2,0,c) else jA c st U z:=by
 simp [jA]
def vS (w:World) (o:Nat→Nat) (K:Nat) (L:aT) (n:Nat) (S':St) (e:Ending) (w':World):Prop:=e=.returned (.tuple #[])∧∃o',Step (fun c=>c=K+7∨c=K+8) w o w' o'∧aK w' o' K L S' n
theorem aU.eY {S:St} (ok:aU S) (st:List Sz) (k:Nat) (nx:Int):aU (eY S st k nx):=⟨ok.tree,ok.file⟩
theorem Uy (o:Nat→Nat) (K n:Nat) (L:aT) (S:St) (r:aJ) (rv dv:Value) (st:List Sz) (k:Nat) (w:World) (h:aK w o K L S n) (ok:aU S) (hf:aP w o) (hr:eP gJ 4 w o rv st) (hg:∀x∈st,iF x.1) (hk:k<5) (hlen:st.length≤1000000) (hn:n≤1000000000):
  Calls prog 95 #[.pointer (some ⟨L.s,0,none⟩),.agg (r.cells rv dv),.int .i64 k] w (vS w o K L (n+st.length) (eY S st k r.nx)):=by
 have mixed:prog.follows .mixedOrders=true:=by kernel_rfl
 obtain ⟨base,cap,rfl⟩:=hr.slice;have f0:Fr No w (w.alloc (.cells (r.cells (.slice base st.length cap) dv) 36)):=(Fr.refl w).alloc _;have k0:=aO w (.cells (r.cells (.slice base st.length cap) dv) 36);have F0:=lH f0;have H0:=lH (h.no ok hf f0);have R0:=lH (hr.no hf f0);have G0:Hid (aP _ o):=lH (Step.no (C:=fun _=>False) hf f0).fresh;have OK:=lH ok;have HG:=lH hg;have HLN:=lH hlen;have HN:=lH hn;have hq1:(0:Int)≤(k:Int):=by omega
 have hq2:(k:Int)<5:=by omega
 have hq3:¬(k:Int)<0:=by omega
 have hq4:¬(5:Int)≤(k:Int):=by omega
 obtain ⟨huo,cu,hcu,hum⟩:=H0.o.uses;have HUO:=lH huo;have HUM:=lH hum;have HCU:=lH hcu;have HSO:=lH H0.o.own;have HF0:=lH hf;have HQ:Hid (∀e w' o',e=.returned (.tuple #[])→Step (fun c=>c=K+7∨c=K+8) w o w' o'→aK w' o' K L (eY S st k r.nx) (n+st.length)→vS w o K L (n+st.length) (eY S st k r.nx) e w'):=lH (fun e w' o' he s t=>⟨he,o',s,t⟩);generalize hQQ:vS w o K L (n+st.length) (eY S st k r.nx)=Q at*;clear hQQ h ok hf hr hg f0 hlen huo hcu hum hn;unfold aJ.cells at*;have hsl:(w.alloc (.cells #[.int .i64 r.c,.int .i64 r.l,.int .i64 r.q,.int .i64 r.kind,.string (ba r.path),.string (ba r.to),.bool r.dir,.bool r.wr,.bool r.cl,.int .i64 r.h,.int .i64 r.nx,.int .i64 r.sw,.slice base st.length cap,dv] 36)).cell? ⟨w.heap.size,12,none⟩=some (.slice base st.length cap):=by rw [aA k0];rfl
 have D10:Hid ((w.alloc (.cells #[.int .i64 r.c,.int .i64 r.l,.int .i64 r.q,.int .i64 r.kind,.string (ba r.path),.string (ba r.to),.bool r.dir,.bool r.wr,.bool r.cl,.int .i64 r.h,.int .i64 r.nx,.int .i64 r.sw,.slice base st.length cap,dv] 36)).cell? ⟨w.heap.size,10,none⟩=some (.int .i64 r.nx)):=lH (by rw [aA k0];rfl);go_enter func95,ntmps95;go_wp2_with fail;generalize (w.alloc (.cells #[.int .i64 r.c,.int .i64 r.l,.int .i64 r.q,.int .i64 r.kind,.string (ba r.path),.string (ba r.to),.bool r.dir,.bool r.wr,.bool r.cl,.int .i64 r.h,.int .i64 r.nx,.int .i64 r.sw,.slice base st.length cap,dv] 36))=w0 at*;have HB0:Hid (w.heap.size<w0.heap.size):=lH (lt_of_block k0);have HBW:Hid (o w.heap.size=0):=lH (HF0.o _ (Nat.le_refl _));generalize hb0:w.heap.size=b0 at*;clear k0 hsl;have HUE:Hid (∀z,dV (jA S.clock [] S.U) z=dV S.U z):=lH (fun _=>rfl);go_loopw [11] (fun a wr=>∃(j c:Nat),a=.int .i64 j∧j≤st.length∧Hid (MapAt nC wr L.us c (dV (jA S.clock (st.take j) S.U)))∧c≤cu+j∧Hid (Fr (· =L.us) w0 wr)) (fun a _=>st.length - (intOf a).toNat)
 case atStart=>exact ⟨0,cu,rfl,Nat.zero_le _,HUM,by omega,lH (Fr.refl _)⟩
 case round=>
  obtain ⟨j,c,rfl,hj,HM,hcj,HF⟩:=hrel;have HSTEP:Hid (Step (fun c=>c=K+7) w0 o wr o):=lH ⟨HF.o.mono (fun i _ e=>by rw [e];exact HUO.o),fun _ _=>rfl,fun i hi=>G0.o i (Nat.le_trans HF.o.size hi)⟩;by_cases hlt:j<st.length
  ·have hne:st≠ []:=by
    intro e;subst e;simp at hlt
   obtain ⟨b,off,rfl,ho,hbl,hrows⟩:=(R0.o.step HSTEP.o (by omega)).at hne;have HRR:=lH (hrows j st[j] (List.getElem?_eq_getElem hlt));have hgx:=HG.o st[j] (List.getElem_mem hlt);have HTK:Hid (jA S.clock (st.take (j+1)) S.U=fun z=>if z=st[j].1 then some (st[j].2,0,S.clock) else jA S.clock (st.take j) S.U z):=lH (by
    rw [List.take_add_one,List.getElem?_eq_getElem hlt,Option.toList_some,We])
   have q1:(j:Int)<(st.length:Int):=(by omega)
   have q3:(0:Int)≤(j:Int):=(by omega)
   generalize st[j]=x at*;unfold gJ at HRR;have fX:Fr No wr (wr.alloc (.cells #[.int .i64 x.1.1,.int .i64 x.1.2.1,.int .i64 x.1.2.2,.int .i64 x.2] 114)):=(Fr.refl wr).alloc _;have kX:=aO wr (.cells #[.int .i64 x.1.1,.int .i64 x.1.2.1,.int .i64 x.1.2.2,.int .i64 x.2] 114);have HTX:Hid (L.us<wr.heap.size):=lH HM.o.lt;have KX:=lH kX;have FX:=lH fX;have HGX:=lH hgx;clear hrows kX fX hgx;go_upto_region 4 with (refine wpList_load_mid (by rfl) 114 _ (by rfl) b (off+j*4) (by rfl) [.int .i64 x.1.1,.int .i64 x.1.2.1,.int .i64 x.1.2.2,.int .i64 x.2] _ HRR.o underlying114 rfl Tryz.Ku ?_)
   generalize wr.alloc (.cells #[.int .i64 x.1.1,.int .i64 x.1.2.1,.int .i64 x.1.2.2,.int .i64 x.2] 114)=wX at*;generalize wr.heap.size=tX at*;have fD:Fr No wr wX.drew:=FX.o.trans (Fr.refl _).drew kp;have hcb:c<4611686018427387904:=(by have:=HLN.o;have:=HCU.o;have:=HN.o;omega)
   obtain ⟨wE,hput,hmE,fE⟩:=(HM.o.fr fD id).put x.1 (x.1,(x.2,0,S.clock)) HGX.o trivial hcb (t:=101) (e:=80) underlying101;have hput':(Instr.mapUpdate 101 (.map (some L.us)) (.agg #[.int .i64 x.1.1,.int .i64 x.1.2.1,.int .i64 x.1.2.2]) (.agg #[.int .i64 x.1.1,.int .i64 x.1.2.1,.int .i64 x.1.2.2,.int .i64 x.2,.int .i64 0,.int .i64 S.clock])).run prog wX.drew=.ok () wE:=hput;have HPUT:=lH hput';obtain ⟨c',hc'⟩:∃c',(if (dV (jA S.clock (st.take j) S.U) x.1).isSome then c else c+1)=c':=⟨_,rfl⟩
   rw [hc'] at hmE;have hcle:c'≤c+1:=(by rw [← hc'];split<;>omega)
   have HME:Hid (MapAt nC wE L.us c' (dV (jA S.clock (st.take (j+1)) S.U))):=lH (by
    have e:dV (jA S.clock (st.take (j+1)) S.U)=fun z=>if z=x.1 then some (x.1,(x.2,0,S.clock)) else dV (jA S.clock (st.take j) S.U) z:=by
     funext z;unfold dV;rw [HTK.o];by_cases e:z=x.1
     ·subst e;simp
     ·simp [e]
    rw [e];exact hmE)
   have HFE:Hid (Fr (· =L.us) w0 wE):=lH (HF.o.trans (fD.bK.trans fE kp) kp);have kD:=(Fr.refl (S:=No) wX).drew.aC KX.o id;have RX:Hid (wX.drew.rangeAt tX 0 [.int .i64 x.1.1,.int .i64 x.1.2.1,.int .i64 x.1.2.2]):=lH (World.rangeAt_of_block kD 0 3);have P3:Hid (wX.drew.cell? ⟨tX,3,none⟩=some (.int .i64 x.2)):=lH (by rw [aA kD];rfl);have HNE:Hid (L.s≠L.us):=lH (fun e=>by have a:=HSO.o;rw [e,HUO.o] at a;omega);have C2:Hid (wX.drew.cell? ⟨L.s,2,none⟩=some (.int .i64 S.clock)):=lH (fD.cell_of (HF.o.cell_of (H0.o.cell 2) HNE.o) id);have C12:Hid (wX.drew.cell? ⟨L.s,12,none⟩=some (.map (some L.us))):=lH (fD.cell_of (HF.o.cell_of (H0.o.cell 12) HNE.o) id);have hbd:∀W:World,(Instr.build 80 #[(0,.agg #[.int .i64 x.1.1,.int .i64 x.1.2.1,.int .i64 x.1.2.2]),(1,.int .i64 x.2),(3,.int .i64 S.clock)]).run prog W=.ok (.agg #[.int .i64 x.1.1,.int .i64 x.1.2.1,.int .i64 x.1.2.2,.int .i64 x.2,.int .i64 0,.int .i64 S.clock]) W:=fun W=>by kernel_rfl
   have HBD:=lH hbd;have hbig:st.length≤1000000:=HLN.o;clear fD hput hput' hmE fE hc' kD hbd;refine gK mixed (fun W=>W=wX.drew) [15] (by kernel_rfl) (by kernel_rfl) (by kernel_rfl) (by kernel_rfl) (fun _ _ d _ _ h=>by cases d<;>exact h) rfl ?_;repeat (first
    | refine fM (by rfl) ?_
    | (refine fO (v:= ?_) (by rfl) (by rfl) ?_ ?_
       rotate_left 1
       (intro W;have hv0:=HBD.o W;go_simp;(try with_reducible rfl))
       simp only [Act.put,lsA,aB,lsS])
    | (refine iQ (by rfl) (by rfl) ?_
       simp only [Act.put,lsA,aB,lsS])
    | (refine dM (v:=.agg #[.int .i64 x.1.1,.int .i64 x.1.2.1,.int .i64 x.1.2.2]) (by rfl) (by kernel_rfl) (by rfl) (fun W hS=>oG 46 (.tmp 19) (by rfl) tX 0 (by rfl) [.int .i64 x.1.1,.int .i64 x.1.2.1,.int .i64 x.1.2.2] _ (by rw [hS];exact RX.o) underlying46 rfl Tryz.lJ) ?_
       simp only [Act.put,lsA,aB,lsS])
    | (refine dM (v:=.agg #[.int .i64 x.1.1,.int .i64 x.1.2.1,.int .i64 x.1.2.2]) (by rfl) (by kernel_rfl) (by rfl) (fun W hS=>oG 46 (.tmp 21) (by rfl) tX 0 (by rfl) [.int .i64 x.1.1,.int .i64 x.1.2.1,.int .i64 x.1.2.2] _ (by rw [hS];exact RX.o) underlying46 rfl Tryz.lJ) ?_
       simp only [Act.put,lsA,aB,lsS])
    | (refine dM (v:= ?_) (by rfl) (by kernel_rfl) (by rfl) ?_ ?_
       rotate_left 1
       (intro W hS;have e0:W.cell? ⟨tX,3,none⟩=some (.int .i64 x.2):=(by rw [hS];exact P3.o);have e1:W.cell? ⟨L.s,2,none⟩=some (.int .i64 S.clock):=(by rw [hS];exact C2.o);have e2:W.cell? ⟨L.s,12,none⟩=some (.map (some L.us)):=(by rw [hS];exact C12.o);clear hS;go_simp;(try with_reducible rfl))
       simp only [Act.put,lsA,aB,lsS]))
   intro W hS;obtain rfl:W=wX.drew:=hS;simp only [List.reverse_cons,List.reverse_nil,List.nil_append,List.cons_append];have hpu:=HPUT.o;go_wp2_with fail;go_roundw
   case rel=>exact ⟨j+1,c',by go_num,hlt,HME,by omega,HFE⟩
   case measure=>simp [intOf];omega
  ·have hjl:j=st.length:=by omega
   have q1:¬(j:Int)<(st.length:Int):=(by omega)
   have HM2:Hid (MapAt nC wr L.us c (dV (jA S.clock st S.U))):=lH (by have:=HM.o;rw [hjl,List.take_length] at this;exact this);have HST:Hid (aK wr o K L {S with U:=jA S.clock st S.U} (n+st.length)):=lH (H0.o.Qi (by omega) OK.o HSTEP.o ⟨HUO.o,c,by have:=HCU.o;omega,HM2.o⟩);have HNE:Hid (L.s≠L.us):=lH (fun e=>by have a:=HSO.o;rw [e,HUO.o] at a;omega);have e10:wr.cell? ⟨b0,10,none⟩=some (.int .i64 r.nx):=HF.o.cell_of D10.o (fun e=>by have e2:b0=L.us:=e;have a:=HBW.o;rw [e2,HUO.o] at a;omega);have E10:=lH ((Fr.refl (S:=No) wr).drew.cell_of e10 id);have hfr:aP wr o:=HSTEP.o.fresh;have ok2:aU {S with U:=jA S.clock st S.U}:=⟨OK.o.tree,OK.o.file⟩
   have hsd:=HST.o.no ok2 hfr (Fr.refl (S:=No) wr).drew;have hfd:aP wr.drew o:=(Step.no (C:=fun _=>False) hfr (Fr.refl (S:=No) wr).drew).fresh;obtain ⟨sN,tN⟩:=hsd.set (S':=eY S st k r.nx) ok2 hfd (3+k) (.int .i64 r.nx) (Ed L {S with U:=jA S.clock st S.U} k hk r.nx) rfl rfl rfl rfl rfl;have EN:Hid (∃u,wr.drew.cell? ⟨L.s,3+k,none⟩=some u):=lH ⟨_,next_cell hsd k hk⟩;have EF:Hid (wr.drew.frozen? ⟨L.s,3+k,none⟩=false):=lH (bU hsd.cs _);have TN:=lH tN;have SN:Hid (Step (fun c=>c=K+7∨c=K+8) w o (wr.drew.setCell ⟨L.s,3+k,none⟩ (.int .i64 r.nx)) o):=lH ((((Step.no (C:=fun _=>False) HF0.o F0.o).mono (fun _ e=>e.elim)).trans (HSTEP.o.mono (fun _ e=>Or.inl e)) (fun _ e=>e)).trans (((Step.no (C:=fun _=>False) hfr (Fr.refl (S:=No) wr).drew).mono (fun _ e=>e.elim)).trans (sN.mono (fun _ e=>Or.inr e)) (fun _ e=>e)) (fun _ e=>e));clear hjl e10 hfr ok2 hsd hfd sN tN;go_wp2_with fail;refine gK mixed (fun W=>W=wr.drew) [7] (by kernel_rfl) (by kernel_rfl) (by kernel_rfl) (by kernel_rfl) (fun _ _ d _ _ h=>by cases d<;>exact h) rfl ?_;repeat (first
    | refine fM (by rfl) ?_
    | (refine fO (v:= ?_) (by rfl) (by rfl) ?_ ?_
       rotate_left 1
       (intro W;go_simp;(try with_reducible rfl))
       simp only [Act.put,lsA,aB,lsS])
    | (refine iQ (by rfl) (by rfl) ?_
       simp only [Act.put,lsA,aB,lsS])
    | (refine dM (v:= ?_) (by rfl) (by kernel_rfl) (by rfl) ?_ ?_
       rotate_left 1
       (intro W hS;have e0:W.cell? ⟨b0,10,none⟩=some (.int .i64 r.nx):=(by rw [hS];exact E10.o);clear hS;go_simp;(try with_reducible rfl))
       simp only [Act.put,lsA,aB,lsS]))
   intro W hS;obtain rfl:W=wr.drew:=hS;simp only [List.reverse_cons,List.reverse_nil,List.nil_append,List.cons_append];obtain ⟨u,hu⟩:=EN.o;have hfz:=EF.o;go_wp2_with fail;exact bodyPost_end (v:=.tuple #[]) (by simp [results,results95,go_sem]) rfl (HQ.o _ _ _ rfl SN.o TN.o)
theorem Fz {T:Tree} (ht:dD T) {l:List UInt8} (h:(dP T l).1=0):1≤(dP T l).2∧(dP T l).2≤128:=by
 have a:=yF ht h;have e:(dP T l).2=free T:=by
  unfold dP at h ⊢;split at h
  ·cases h
  ·split at h
   ·rename_i h1
    exact absurd h h1
   ·split at h
    ·cases h
    ·split at h
     ·cases h
     ·rename_i h1 h2 h3 h4
      rw [if_neg h1,if_neg h2,if_neg h3,if_neg h4]
 rw [e];exact ⟨by have:=a.two;omega,a.most⟩
def kL (S:St) (r:aJ):St:={S with T:=kK S.T r.path r.dir,F:=if r.dir=true then S.F else bC S.F (dP S.T r.path).2 (some gZ)}
def pI (S:St) (r:aJ):Int×aF×St:=
 if (dP S.T r.path).1=0 then (0,gV 0 (dP S.T r.path).2 0 0 0 false,kL S r) else ((dP S.T r.path).1,bD,S)
theorem Ji {S:St} (ok:aU S) {r:aJ} (h:(dP S.T r.path).1=0):aU (kL S r):=by
 unfold kL;cases r.dir with
 | true=>exact ok.oQ (Hu ok.tree r.path true)
 | false=>exact aU.xG (S:={S with T:=kK S.T r.path false}) (ok.oQ (Hu ok.tree r.path false)) (Fz ok.tree h) Q3
theorem aX.no' {C:Nat→Prop} {w w' w'':World} {o o':Nat→Nat} {K n:Nat} {L:aT} {S:St} {x:Int} {r:aF} {e:Ending} (hf:aP w o) (f:Fr No w w') (s:Step C w' o w'' o') (hC:∀c,C c→aH K c) (t:aK w'' o' K L S n) (hx:x≠0) (he:e=.panicked (iW x)):aX w o K L n (x,r,S) e w'':=
 ⟨⟨o',(((Step.no (C:=fun _=>False) hf f).mono (fun _ e=>e.elim)).trans s (fun _ e=>e)).mono hC,t⟩,by rw [if_neg hx];exact he⟩
theorem aA0 (w:World):Calls prog 132 #[] w fun e w'=>e=.returned (.pointer (some ⟨w.heap.size,0,none⟩))∧Hid (w'=tV w):=(aA4 w).mono (fun _ _ h=>⟨h.1,lH h.2⟩)
theorem aCc (o:Nat→Nat) (K n:Nat) (L:aT) (S:St) (r:aJ) (rv dv:Value) (w:World) (h:aK w o K L S n) (ok:aU S) (hf:aP w o) (hl:r.path.length≤1000000) (hn:n<4611686018427387904):
  Calls prog 82 #[.pointer (some ⟨L.s,0,none⟩),.agg (r.cells rv dv)] w (aX w o K L (n+1) (pI S r)):=by
 obtain ⟨f0,k0,k1,H0,G0⟩:=begun h ok hf r rv dv;have F0:=lH f0;have HL:Hid (∀w',Fr No (bQ w r rv dv) w'→Calls prog 131 #[.pointer (some ⟨L.tr,0,none⟩),.string (ba r.path),.bool r.dir] w' (sO w' o K L.tr S.T r.path r.dir)):=
  lH (fun w' f=>aBu o K L.tr S.T r.path r.dir w' hl ((H0.no ok G0 f).tree) ok.tree (Step.no (C:=fun _=>False) G0 f).fresh)
 have HT:Hid (∀w1 o1,Step (bI K) (bQ w r rv dv).drew o w1 o1→bV w1 o1 K L.tr (kK S.T r.path r.dir)→aK w1 o1 K L {S with T:=kK S.T r.path r.dir} n∧aU {S with T:=kK S.T r.path r.dir}):=
  lH (fun w1 o1 s t=>⟨(H0.no ok G0 (Fr.refl _).drew).oQ ok s t,ok.oQ (Hu ok.tree _ _)⟩)
 have HE:Hid ((dP S.T r.path).1≠0→kK S.T r.path r.dir=S.T):=lH (fun hne=>if_neg hne);have HR:Hid ((dP S.T r.path).1≠0→∀e w' w'' o',e=.panicked (iW (dP S.T r.path).1)→Fr No w w'→Step (bI K) w' o w'' o'→aK w'' o' K L S n→aX w o K L (n+1) (pI S r) e w''):=lH (fun hne e w' w'' o' he f s t=>by
  unfold pI;rw [if_neg hne];exact aX.no' hf f s (fun _ e=>wW e) (t.more (Nat.le_succ n)) hne he)
 have HQ:Hid ((dP S.T r.path).1=0→∀e w' w'' w3 o',e=.returned (jU 0 (dP S.T r.path).2 0 0 0 false)→Fr No w w'→w.heap.size+1<w'.heap.size→Step (fun c=>bI K c∨c=K+6) w' o w'' o'→aK w'' o' K L (kL S r) (n+1)→Fr (fun j=>j=w.heap.size+1) w'' w3→aX w o K L (n+1) (pI S r) e w3):=lH (fun h0 e w' w'' w3 o' he f hs s t g=>by
  unfold pI;rw [if_pos h0];exact aX.yes hf f s (fun c e=>by rcases e with e|e;exact wW e;unfold aH;omega) (by omega) hs g (Ji ok h0) t he (kW.plain _ _ _ _ _ _ _))
 generalize hQ:aX w o K L (n+1) (pI S r)=Q at*;clear hQ;have HMS:Hid (kL S r={S with T:=kK S.T r.path r.dir,F:=if r.dir=true then S.F else bC S.F (dP S.T r.path).2 (some gZ)}):=lH rfl;generalize kL S r=SM at*;have HNUM:=lH (fun h0=>Fz ok.tree (l:=r.path) h0);have NS:Hid (¬bI K (o L.s)):=lH (by rw [h.own];unfold bI;omega);have NB:Hid (¬bI K (o w.heap.size)):=lH (by rw [hf _ (Nat.le_refl _)];unfold bI;omega);have NR:Hid (¬bI K (o (w.heap.size+1))):=lH (by rw [hf _ (Nat.le_succ _)];unfold bI;omega);have OB:Hid (o (w.heap.size+1)=0):=lH (hf _ (Nat.le_succ _));have HH:=lH H0;have HN:=lH hn;clear H0 G0 f0 h ok hf hl hn;unfold sO at HL;generalize dP S.T r.path=X at*;obtain ⟨er,i⟩:=X;dsimp only at HL HR HQ HNUM HE HMS;generalize kK S.T r.path r.dir=T' at*;unfold bQ aJ.cells bD aF.cells at*;generalize hrd:r.dir=rd at*;go_enter func82,ntmps82;go_wp2_with fail;generalize (w.alloc (.cells #[.int .i64 r.c,.int .i64 r.l,.int .i64 r.q,.int .i64 r.kind,.string (ba r.path),.string (ba r.to),.bool rd,.bool r.wr,.bool r.cl,.int .i64 r.h,.int .i64 r.nx,.int .i64 r.sw,rv,dv] 36)).alloc (.cells #[.int .i64 0,.int .i64 0,.int .i64 0,.int .i64 0,.int .i64 0,.bool false,.slice none 0 0,.slice none 0 0] 29)=w0 at*;have B1:=lH (lt_of_block k1);generalize hb0:w.heap.size=b0 at*;have c9:w0.cell? ⟨L.s,9,none⟩=some (.pointer (some ⟨L.tr,0,none⟩)):=HH.o.cell 9;have d4:w0.cell? ⟨b0,4,none⟩=some (.string (ba r.path)):=by rw [aA k0];rfl
 have d6:w0.cell? ⟨b0,6,none⟩=some (.bool rd):=by rw [aA k0];rfl
 have K1:=lH k1;clear k0 k1;go_region_held3 (fun w'=>w'.cell? ⟨L.s,9,none⟩=some (.pointer (some ⟨L.tr,0,none⟩))∧w'.cell? ⟨b0,4,none⟩=some (.string (ba r.path))∧w'.cell? ⟨b0,6,none⟩=some (.bool rd)) (first|go_keep|(go_split_ands;refine ⟨?_,?_,?_⟩<;>exact s1.fr.cell_of (by assumption) (by first|exact NS.o|exact NB.o)))
  ((go_at_call 131;refine (HL.o _ (Fr.refl _).drew).mono ?_;rintro e w1 ⟨rfl,o1,s1,t1⟩))
 have SZ:Hid (b0+1<w0.drew.heap.size):=lH (by simpa using B1.o);have FF:=lH (F0.o.trans (Fr.refl w0).drew kp);obtain ⟨st1,ok1⟩:=HT.o w1 o1 s1 t1;have ST1:=lH st1;have OK1:=lH ok1;have S1:=lH s1;have KK:=lH (s1.fr.aC ((Fr.refl (S:=No) w0).drew.aC K1.o id) NR.o);clear st1 ok1 s1 t1 c9 d4;cases hx:(er==0) with
 | false=>
  have hne:er≠0:=by simpa using hx
  have HX:=lH (HR.o hne _ _ _ _ rfl FF.o S1.o (by have:=ST1.o;rw [HE.o hne] at this;exact this));go_wp2_with fail;refine (fJ _ _).mono ?_;rintro e w2 ⟨rfl,rfl⟩;go_wp2_with fail;exact ⟨rfl,HX.o⟩
 | true=>
  obtain rfl:er=0:=by simpa using hx
  clear hx;have hi:1≤i∧i≤128:=HNUM.o rfl;have hbd:∀w':World,(Instr.build 29 #[(1,.int .i64 i)]).run prog w'=.ok (.agg #[.int .i64 0,.int .i64 i,.int .i64 0,.int .i64 0,.int .i64 0,.bool false,.slice none 0 0,.slice none 0 0]) w':=fun w'=>by kernel_rfl
  have HOC:=lH (show (#[.int .i64 0,.int .i64 i,.int .i64 0,.int .i64 0,.int .i64 0,.bool false,.slice none 0 0,.slice none 0 0]:Array Value).all (·.oneCell')=true from by simp [Value.oneCell']);have D6:w1.cell? ⟨b0,6,none⟩=some (.bool rd):=S1.o.fr.cell_of d6 NB.o;cases rd with
  | true=>
   have HX:=lH (fun e w3 he g=>HQ.o rfl e _ _ w3 _ he FF.o SZ.o (S1.o.mono (fun _ h=> .inl h)) (by rw [HMS.o,if_pos rfl];exact ST1.o.more (Nat.le_succ n)) g);go_wp2_with fail;refine (gU _ _).mono ?_;rintro e w2 ⟨rfl,rfl⟩;go_wp2_with (refine wpList_store_row rfl 29 (.tmp 4) (.tmp 33) rfl (b0+1) #[.int .i64 0,.int .i64 i,.int .i64 0,.int .i64 0,.int .i64 0,.bool false,.slice none 0 0,.slice none 0 0] rfl rfl 29 _ KK.o Tryz.size29 rfl HOC.o ?_);have KF:=dS (cs':= #[.int .i64 0,.int .i64 i,.int .i64 0,.int .i64 0,.int .i64 0,.bool false,.slice none 0 0,.slice none 0 0]) KK.o;exact bodyPost_ret (v:=jU 0 i 0 0 0 false) (results_cell_row rfl _ _ (b0+1) 29 _ (0,0) _ rfl KF underlying29 rfl Tryz.size29) rfl
    (HX.o _ _ rfl (Fr.setRow (S:=fun j=>j=b0+1) (Fr.refl _) (.inl rfl) _))
  | false=>
   have c11:w1.cell? ⟨L.s,11,none⟩=some (.map (some L.fl)):=ST1.o.cell 11;go_wp2_with fail;refine (gU _ _).mono ?_;rintro e w2 ⟨rfl,rfl⟩;go_wp2_with fail;have STD:=lH (ST1.o.no OK1.o S1.o.fresh (Fr.refl w2).drew);have FD:Hid (aP w2.drew o1):=lH (Step.no (C:=fun _=>False) S1.o.fresh (Fr.refl w2).drew).fresh;have NF:Hid (L.s≠L.fl):=lH (by
    intro e;have a:=STD.o.own;have b:=STD.o.files.1;rw [e] at a;omega)
   go_region_held3 (fun w'=>w'.cell? ⟨L.s,11,none⟩=some (.map (some L.fl))) (first|go_keep|exact f5.cell_of (by assumption) id|exact g6.cell_of (by assumption) NF.o)
    ((go_at_call 132;refine (aA0 _).mono ?_;rintro e w5 ⟨rfl,h5⟩;have f5:Fr No w2.drew w5:=(by rw [h5.o];exact (Fr.refl _).alloc _);obtain ⟨w6,hu,g6,s6,F6⟩:=jK.make STD.o.files FD.o i (by omega) HN.o;rw [← h5.o] at hu g6;have hu2:(Instr.mapUpdate 100 (.map (some L.fl)) (.int .i64 i) (.pointer (some ⟨w2.heap.size,0,none⟩))).run prog w5=.ok () w6:=(by simpa using hu)))
   have SS:Hid (Step (fun c=>bI K c∨c=K+6) w0.drew o w6 (dH o1 w2.drew.heap.size (K+3000+i))):=lH ((S1.o.mono (fun _ h=> .inl h)).trans (((Step.no (C:=fun _=>False) S1.o.fresh (Fr.refl w2).drew).mono (fun _ e=>e.elim)).trans (s6.mono (fun _ h=>Or.inr h)) (fun _ e=>e)) (fun _ e=>e));have ST6:=STD.o.Tu (Nat.le_succ n) OK1.o s6 F6;have K6:=lH (g6.aC (f5.aC ((Fr.refl (S:=No) w2).drew.aC KK.o id) id) (by
    intro e;have a:=S1.o.old _ SZ.o;have b:=STD.o.files.1;rw [OB.o,e,b] at a;omega))
   have HX:=lH (fun e w3 he g=>HQ.o trivial e _ _ w3 _ he FF.o SZ.o SS.o (by rw [HMS.o,if_neg (by decide)];exact ST6) g);clear hu hu2 g6 s6 F6 f5 ST6;go_wp2_with (refine wpList_store_row rfl 29 (.tmp 4) (.tmp 33) rfl (b0+1) #[.int .i64 0,.int .i64 i,.int .i64 0,.int .i64 0,.int .i64 0,.bool false,.slice none 0 0,.slice none 0 0] rfl rfl 29 _ K6.o Tryz.size29 rfl HOC.o ?_);have KF:=dS (cs':= #[.int .i64 0,.int .i64 i,.int .i64 0,.int .i64 0,.int .i64 0,.bool false,.slice none 0 0,.slice none 0 0]) K6.o;exact bodyPost_ret (v:=jU 0 i 0 0 0 false) (results_cell_row rfl _ _ (b0+1) 29 _ (0,0) _ rfl KF underlying29 rfl Tryz.size29) rfl
    (HX.o _ _ rfl (Fr.setRow (S:=fun j=>j=b0+1) (Fr.refl _) (.inl rfl) _))
def mY (s:aN) (x:Pt):aN:=aI (aI (aI (aI (aI s x.c 1) x.l 3) x.n 4) x.a 2) x.z 1
def mM (s:aN) (m:aG):aN:=m.l.foldl mY (aI s m.size 2)
theorem Pg.is {w:World} {p base:Nat} {s:aN} (h:Pg w p base s):∃cs,w.heap[p]? =some (.cells cs 122 (0,0)):=by
 obtain ⟨v,hk,_⟩:=h;exact ⟨_,hk⟩
theorem jV {w w':World} {p base k:Nat} {s:aN} {cs:Array Value} {t:TypeId} {fz:Nat×Nat} (h:Pg w p base s) (f:Fr (Pf w p base) w w') (hk:w.heap[k]? =some (.cells cs t fz)) (h5:t≠5) (h122:t≠122):w'.heap[k]? =some (.cells cs t fz):=
 nU f hk h5 (fun e=>by
  obtain ⟨c2,h2⟩:=h.is;rw [e,h2] at hk;simp only [Option.some.injEq,Obj.cells.injEq] at hk;exact h122 hk.2.1.symm)
theorem bP.pf {α:Type} {c:α→List Value} {n:Nat} {t:TypeId} {w w':World} {p base b cap:Nat} {s:aN} {L:List α} (h:bP c n t w b cap L) (g:Pg w p base s) (f:Fr (Pf w p base) w w') (h5:t≠5) (h122:t≠122):bP c n t w' b cap L:=by
 obtain ⟨⟨cur,h1,h2⟩,h3,h4⟩:=h;have h6:=jV g f h1 h5 h122;exact ⟨⟨cur,h6,h2⟩,h3,fun j x hj i u hu=>by
  have:=h4 j x hj i u hu;rw [aA h1] at this;rw [aA h6];exact this⟩
theorem lY.pf {w w':World} {p base k:Nat} {s:aN} {m:aG} (h:lY w k m) (g:Pg w p base s) (f:Fr (Pf w p base) w w'):lY w' k m:=by
 obtain ⟨v,h1,h2⟩:=h;refine ⟨v,jV g f h1 (by decide) (by decide),?_⟩;rcases h2 with h2|⟨b,cap,e,hm,hr⟩
 ·exact .inl h2
 ·exact .inr ⟨b,cap,e,hm,hr.pf g f (by decide) (by decide)⟩
def mD (w:World) (p base:Nat) (s:aN) (e:Ending) (w':World):Prop:=e=.returned (.tuple #[])∧Pg w' p base s∧Fr (Pf w p base) w w'
theorem Vk (p base:Nat) (s:aN) (x:Pt) (w:World) (h:Pg w p base s):Calls prog 116 #[.pointer (some ⟨p,0,none⟩),dL x] w (mD w p base (mY s x)):=by
 have f0:Fr No w (w.alloc (.cells #[.int .i64 x.c,.int .i64 x.l,.int .i64 x.n,.int .i64 x.a,.int .i64 x.z] 59)):=(Fr.refl w).alloc _;have k0:=aO w (.cells #[.int .i64 x.c,.int .i64 x.l,.int .i64 x.n,.int .i64 x.a,.int .i64 x.z] 59);have HR:Hid (∀e w',e=.returned (.tuple #[])→Pg w' p base (mY s x)→Fr (Pf w p base) w w'→mD w p base (mY s x) e w'):=lH (fun e w' a b c=>⟨a,b,c⟩);have hp:Hid (mY s x=aI (aI (aI (aI (aI s x.c 1) x.l 3) x.n 4) x.a 2) x.z 1):=lH rfl;generalize hQ:mD w p base (mY s x)=Q at*;clear hQ;have G0:=lH (h.no f0);have F0:Hid (Fr (Pf w p base) w (w.alloc (.cells #[.int .i64 x.c,.int .i64 x.l,.int .i64 x.n,.int .i64 x.a,.int .i64 x.z] 59))):=lH f0.bK;have K0:=lH k0;generalize hw0:w.alloc (.cells #[.int .i64 x.c,.int .i64 x.l,.int .i64 x.n,.int .i64 x.a,.int .i64 x.z] 59)=w0 at*;generalize hb0:w.heap.size=b0 at*;have p0:w0.cell? ⟨b0,0,none⟩=some (.int .i64 x.c):=by rw [aA k0];rfl
 clear f0 k0 h;unfold dL;go_enter func116,ntmps116;go_wp2_with fail;refine (kQ p base 1 s x.c (by decide) (by decide) _ G0.o).mono ?_;rintro e w1 ⟨rfl,g1,f1⟩;have k1:=jV G0.o f1 K0.o (by decide) (by decide);have F1:=lH (cZ F0.o f1);have G1:=lH g1;have K1:=lH k1;have p1:w1.cell? ⟨b0,1,none⟩=some (.int .i64 x.l):=by rw [aA k1];rfl
 clear g1 f1 k1;go_wp2_with fail;refine (kQ p base 3 _ x.l (by decide) (by decide) _ G1.o).mono ?_;rintro e w2 ⟨rfl,g2,f2⟩;have k2:=jV G1.o f2 K1.o (by decide) (by decide);have F2:=lH (cZ F1.o f2);have G2:=lH g2;have K2:=lH k2;have p2:w2.cell? ⟨b0,2,none⟩=some (.int .i64 x.n):=by rw [aA k2];rfl
 clear g2 f2 k2;go_wp2_with fail;refine (kQ p base 4 _ x.n (by decide) (by decide) _ G2.o).mono ?_;rintro e w3 ⟨rfl,g3,f3⟩;have k3:=jV G2.o f3 K2.o (by decide) (by decide);have F3:=lH (cZ F2.o f3);have G3:=lH g3;have K3:=lH k3;have p3:w3.cell? ⟨b0,3,none⟩=some (.int .i64 x.a):=by rw [aA k3];rfl
 clear g3 f3 k3;go_wp2_with fail;refine (kQ p base 2 _ x.a (by decide) (by decide) _ G3.o).mono ?_;rintro e w4 ⟨rfl,g4,f4⟩;have k4:=jV G3.o f4 K3.o (by decide) (by decide);have F4:=lH (cZ F3.o f4);have G4:=lH g4;have p4:w4.cell? ⟨b0,4,none⟩=some (.int .i64 x.z):=by rw [aA k4];rfl
 clear g4 f4 k4;go_wp2_with fail;refine (kQ p base 1 _ x.z (by decide) (by decide) _ G4.o).mono ?_;rintro e w5 ⟨rfl,g5,f5⟩;have F5:=lH (cZ F4.o f5);have G5:=lH g5;clear g5 f5;go_wp2_with fail;exact bodyPost_end (v:=.tuple #[]) (by simp [results,results116,go_sem]) rfl (HR.o _ _ rfl (by rw [hp.o];exact G5.o) F5.o)
theorem Kv (k p base:Nat) (s:aN) (m:aG) (w:World) (h:Pg w p base s) (hf:lY w k m):Calls prog 59 #[.pointer (some ⟨k,0,none⟩),.pointer (some ⟨p,0,none⟩)] w (mD w p base (mM s m)):=by
 have HR:Hid (∀e w',e=.returned (.tuple #[])→Pg w' p base (mM s m)→Fr (Pf w p base) w w'→mD w p base (mM s m) e w'):=lH (fun e w' a b c=>⟨a,b,c⟩);have hp:Hid (mM s m=m.l.foldl mY (aI s m.size 2)):=lH rfl;generalize hQ:mD w p base (mM s m)=Q at*;generalize mM s m=Z at*;clear hQ;have HF:=lH hf;obtain ⟨v,hk,hv⟩:=hf;obtain ⟨vb,vc,rfl⟩:=hv.slice;have c0:w.cell? ⟨k,0,none⟩=some (.bool true):=by rw [aA hk];rfl
 have c1:w.cell? ⟨k,1,none⟩=some (.int .i64 m.size):=by rw [aA hk];rfl
 have HN:=lH (kQ p base 2 s m.size (by decide) (by decide) w h);have HG:=lH h;have HK:=lH hk;clear hk hv h;go_enter func59,ntmps59;go_wp2_with fail;refine HN.o.mono ?_;rintro e w1 ⟨rfl,g1,f1⟩;have k1:=jV HG.o f1 HK.o (by decide) (by decide);have c2:w1.cell? ⟨k,2,none⟩=some (.slice vb m.l.length vc):=by rw [aA k1];rfl
 have G1:=lH g1;have F1:=lH f1;have HF1:=lH (HF.o.pf HG.o f1);have HV1:Hid (lW w1 (.slice vb m.l.length vc) m.l):=lH (by
  obtain ⟨v2,h2,h3⟩:=HF1.o;rw [k1] at h2;simp only [Option.some.injEq,Obj.cells.injEq,Array.mk.injEq,List.cons.injEq,and_true,true_and] at h2;rw [h2];exact h3)
 clear g1 f1 k1 c0 c1 HN;go_wp2_with fail;go_loopw [26] (fun a wr=>∃j:Nat,a=.int .i64 j∧j≤m.l.length∧Hid (Pg wr p base ((m.l.take j).foldl mY (aI s m.size 2)))∧Hid (Fr (Pf w1 p base) w1 wr)) (fun a _=>m.l.length - (intOf a).toNat)
 case atStart=>exact ⟨0,rfl,Nat.zero_le _,lH (by rw [List.take_zero,List.foldl_nil];exact G1.o),lH (Fr.refl _)⟩
 case round=>
  obtain ⟨j,rfl,hj,HGR,HFR⟩:=hrel;by_cases hlt:j<m.l.length
  ·obtain ⟨b,rfl,hm,hr⟩:=HV1.o.row (by omega);have hr2:=hr.pf G1.o HFR.o (by decide) (by decide);have HRR:=lH (hr2.row j m.l[j] (List.getElem?_eq_getElem hlt));have hlen:=hr.len;have hml:vc≤9223372036854775807:=hm;have q1:(j:Int)<(m.l.length:Int):=(by omega)
   have q2:(j:Int)<(vc:Int):=(by omega)
   have q3:(0:Int)≤(j:Int):=(by omega)
   have HTK:Hid (m.l.take (j+1)=m.l.take j++ [m.l[j]]):=lH (by rw [List.take_add_one,List.getElem?_eq_getElem hlt];rfl);generalize m.l[j]=x at*;unfold dB at HRR;have HP:=lH (Vk p base _ x _ (HGR.o.no ((Fr.refl wr).alloc (.cells #[.int .i64 x.c,.int .i64 x.l,.int .i64 x.n,.int .i64 x.a,.int .i64 x.z] 59))));unfold dL mD at HP;have fa:Fr No wr (wr.alloc (.cells #[.int .i64 x.c,.int .i64 x.l,.int .i64 x.n,.int .i64 x.a,.int .i64 x.z] 59)):=(Fr.refl wr).alloc _;have FA:=lH fa;clear hr hr2 hm fa;go_wp2_with (refine wpList_load_mid (by rfl) 59 _ (by rfl) b (j*5) (by rfl) [.int .i64 x.c,.int .i64 x.l,.int .i64 x.n,.int .i64 x.a,.int .i64 x.z] _ HRR.o underlying59 rfl Tryz.iO ?_);refine HP.o.mono ?_;rintro e w3 ⟨rfl,g3,f3⟩;have HG3:Hid (Pg w3 p base ((m.l.take (j+1)).foldl mY (aI s m.size 2))):=lH (by rw [HTK.o,List.foldl_append];exact g3);have HF3:=lH (cZ (cZ HFR.o FA.o.bK) f3);clear g3 f3 HP;go_wp2_with fail;go_roundw
   case rel=>exact ⟨j+1,by go_num,hlt,HG3,HF3⟩
   case measure=>simp [intOf];omega
  ·obtain rfl:j=m.l.length:=by omega
   have q1:¬(m.l.length:Int)<(m.l.length:Int):=(by omega)
   have HZ:Hid (Pg wr p base Z):=lH (by rw [hp.o];have:=HGR.o;rwa [List.take_length] at this);go_wp2_with fail;exact bodyPost_end (v:=.tuple #[]) (by simp [results,results59,go_sem]) rfl (HR.o _ _ rfl HZ.o (cZ F1.o HFR.o))
def iI (m:aG):List UInt8:=(mM ([],0) m).1
def zO (m:aG):Prop:=(mM ([],0) m).2=0∧iI m≠ []
def oL (i:Nat) (m:aG) (h:Int):aF:=⟨0,i,m.size,h,0,false, [],iI m⟩
def Gv (w:World) (i:Nat) (m:aG) (e:Ending) (w':World):Prop:=
 ∃v b c,e=.returned (.agg #[.int .i64 0,.int .i64 i,.int .i64 m.size,.int .i64 0,.int .i64 0,.bool false,.slice none 0 0,v])∧Fr No w w'∧dC w' v (iI m) b 0 c∧w.heap.size≤b
theorem Lu (o:Nat→Nat) (K n:Nat) (L:aT) (S:St) (i:Nat) (m:aG) (w:World) (h:aK w o K L S n) (hi:i≤1000000) (hm:S.F i=some m) (hfit:zO m):
  Calls prog 137 #[.pointer (some ⟨L.s,0,none⟩),.int .i64 i] w (Gv w i m):=by
 have fA:Fr No w (w.alloc (.cells #[.int .i64 0,.int .i64 0,.int .i64 0,.int .i64 0,.int .i64 0,.bool false,.slice none 0 0,.slice none 0 0] 29)):=(Fr.refl w).alloc _;have f0:Fr No w ((w.alloc (.cells #[.int .i64 0,.int .i64 0,.int .i64 0,.int .i64 0,.int .i64 0,.bool false,.slice none 0 0,.slice none 0 0] 29)).alloc (.cells #[.slice none 0 0,.int .i64 0] 122)):=fA.alloc _;have HP:=Gx (w.alloc (.cells #[.int .i64 0,.int .i64 0,.int .i64 0,.int .i64 0,.int .i64 0,.bool false,.slice none 0 0,.slice none 0 0] 29));rw [show (w.alloc (.cells #[.int .i64 0,.int .i64 0,.int .i64 0,.int .i64 0,.int .i64 0,.bool false,.slice none 0 0,.slice none 0 0] 29)).heap.size=w.heap.size+1 by simp] at HP;have k0:((w.alloc (.cells #[.int .i64 0,.int .i64 0,.int .i64 0,.int .i64 0,.int .i64 0,.bool false,.slice none 0 0,.slice none 0 0] 29)).alloc (.cells #[.slice none 0 0,.int .i64 0] 122)).heap[w.heap.size]? =some (.cells #[.int .i64 0,.int .i64 0,.int .i64 0,.int .i64 0,.int .i64 0,.bool false,.slice none 0 0,.slice none 0 0] 29 (0,0)):=
  ((Fr.refl (S:=No) _).alloc _).aC (aO w _) id
 have F0:=lH f0;obtain ⟨fp,lk,lf⟩:=h.files.look i hi;have LK:=lH lk;have c11:w.cell? ⟨L.s,11,none⟩=some (.map (some L.fl)):=h.cell 11;have C11:=lH c11;have hv:rX S.F fp i=.pointer (some ⟨fp i,0,none⟩):=by unfold rX;rw [hm]
 have hl1:=lk _ f0;rw [hv] at hl1;have HV:=lH hv;have FR:Hid (lY w (fp i) m):=lH (lf m hm).reads;have FIT:=lH hfit;have c11':((w.alloc (.cells #[.int .i64 0,.int .i64 0,.int .i64 0,.int .i64 0,.int .i64 0,.bool false,.slice none 0 0,.slice none 0 0] 29)).alloc (.cells #[.slice none 0 0,.int .i64 0] 122)).cell? ⟨L.s,11,none⟩=some (.map (some L.fl)):=f0.cell_of c11 id;have HW:=lH (Kv (fp i) (w.heap.size+1) (w.heap.size+1+1) ([],0) m _ HP (FR.o.fr f0));have hb1:∀w':World,(Instr.build 122 #[]).run prog w'=.ok (.agg #[.slice none 0 0,.int .i64 0]) w':=fun w'=>by kernel_rfl
 have hbd:∀(w':World) (b c l:Nat),(Instr.build 29 #[(1,.int .i64 i),(2,.int .i64 m.size),(7,.slice (some ⟨b,0,none⟩) l c)]).run prog w'=.ok (.agg #[.int .i64 0,.int .i64 i,.int .i64 m.size,.int .i64 0,.int .i64 0,.bool false,.slice none 0 0,.slice (some ⟨b,0,none⟩) l c]) w':=fun w' b c l=>by kernel_rfl
 have HOC:=lH (show ∀b c l:Nat,(#[.int .i64 0,.int .i64 i,.int .i64 m.size,.int .i64 0,.int .i64 0,.bool false,.slice none 0 0,.slice (some ⟨b,0,none⟩) l c]:Array Value).all (·.oneCell')=true from fun b c l=>by simp [Value.oneCell']);clear fA f0 HP h hm hfit lk lf c11 hv;unfold mD at HW;have K0:=lH k0;clear k0;go_enter func137,ntmps137;go_wp2_with fail;refine HW.o.mono ?_;rintro e w2 ⟨rfl,pg,f2⟩;have F02:Fr No w w2:=F0.o.trans f2 (fun j hj e=>by rcases e with e|⟨e,_⟩<;>omega);have K2:=lH (f2.aC K0.o (by rintro (e|⟨e,_⟩)<;>omega));have HB:=lH (Ic (w.heap.size+1) (w.heap.size+1+1) (iI m) w2 (by
  have e:mM ([],0) m=(iI m,0):=Prod.ext rfl FIT.o.1;rw [e] at pg;exact pg) FIT.o.2)
 have F2:=lH F02;clear pg f2 F02 hl1 c11';go_wp2_with fail;refine HB.o.mono ?_;rintro e w3 ⟨v,b,c,rfl,hs,hb,f3⟩;obtain rfl:=hs.1;have F3:=lH (F2.o.trans f3 kp);have K3:=lH (f3.aC K2.o id);have SL:=lH hs;have hb':=lH (Nat.le_trans F2.o.size hb);have hlt:Hid (w.heap.size<b):=lH (Nat.lt_of_lt_of_le (lt_of_block K2.o) hb);clear hs f3 hb;have c3:w3.cell? ⟨L.s,11,none⟩=some (.map (some L.fl)):=F3.o.cell_of C11.o id;have hl3:=LK.o _ F3.o;rw [HV.o] at hl3;have HZ:=lH (Bc (fp i) m w3 (FR.o.fr F3.o));go_wp2_with fail;refine HZ.o.mono ?_;rintro e w4 ⟨rfl,rfl⟩;have hbd':=hbd w4 b c (iI m).length;go_wp2_with (refine wpList_store_row rfl 29 (.tmp 4) (.tmp 32) rfl w.heap.size #[.int .i64 0,.int .i64 i,.int .i64 m.size,.int .i64 0,.int .i64 0,.bool false,.slice none 0 0,.slice (some ⟨b,0,none⟩) (iI m).length c] rfl rfl 29 _ K3.o Tryz.size29 rfl (HOC.o _ _ _) ?_);have KF:=dS (cs':= #[.int .i64 0,.int .i64 i,.int .i64 m.size,.int .i64 0,.int .i64 0,.bool false,.slice none 0 0,.slice (some ⟨b,0,none⟩) (iI m).length c]) K3.o;have FS:Fr (fun j=>j=w.heap.size) w4 (w4.setRow w.heap.size #[.int .i64 0,.int .i64 i,.int .i64 m.size,.int .i64 0,.int .i64 0,.bool false,.slice none 0 0,.slice (some ⟨b,0,none⟩) (iI m).length c]):=Fr.setRow (S:=fun j=>j=w.heap.size) (Fr.refl _) (.inl rfl) _;have hbne:b≠w.heap.size:=by
  have:=hlt.o;omega
 exact bodyPost_ret (v:=.agg #[.int .i64 0,.int .i64 i,.int .i64 m.size,.int .i64 0,.int .i64 0,.bool false,.slice none 0 0,.slice (some ⟨b,0,none⟩) (iI m).length c]) (results_cell_row rfl _ _ w.heap.size 29 _ (0,0) _ rfl KF underlying29 rfl Tryz.size29) rfl
  ⟨_,b,c,rfl,F3.o.trans FS (fun j hj e=>by omega),⟨SL.o.1,SL.o.2.1,Nat.lt_of_lt_of_le SL.o.2.2.1 FS.size,fun j y hj=>FS.cell_of (SL.o.2.2.2 j y hj) hbne⟩,hb'.o⟩
structure zK (S:St):Prop where
 tok:∀x∈S.K,∃i m,x.i=((i:Nat):Int)∧i≤128∧S.F i=some m
 fit:∀i m,S.F i=some m→zO m
 dir:∀k x,S.T k=some x→x.dir=false→∃m,S.F k=some m
 small:∀x∈S.K,small x
 few:S.K.length≤1000000
def mapD (S:St) (r:aJ):Int×aF×St:=match fH S.K r.c r.h with
 | none=>(13,bD,S)
 | some x=>(0,oL x.i.toNat ((S.F x.i.toNat).getD gZ) 0,S)
theorem Ik {w:World} {o:Nat→Nat} {K k:Nat} {L:List Tok} (h:iM w o K k L):∃v,w.heap[k]? =some (.cells #[.bool true,v] 155 (0,0))∧kG w v L:=by
 obtain ⟨_,v,h1,h2⟩:=h;refine ⟨v,h1,?_⟩;rcases h2 with h2|⟨b,cap,e,hm,_,hr⟩
 ·exact .inl h2
 ·exact .inr ⟨b,cap,e,hm,hr⟩
def vC (w0:World) (a:Act) (w:World):Prop:=
 Fr No w0 w∧(a.tmps.getD 5 undef=undef∨∃g,a.tmps.getD 5 undef=.pointer (some ⟨g,0,none⟩)∧w0.heap.size≤g∧w.heap[g]? =some (.cells #[.int .i64 0,.int .i64 0,.int .i64 0,.bool false] 53 (0,0)))
theorem sH (w0:World) (d:Nat) (hd:d≠5) (a:Act) (v:Value) (w:World):vC w0 (a.put (some d) v) w↔vC w0 a w:=by
 have e:(a.put (some d) v).tmps.getD 5 undef=a.tmps.getD 5 undef:=by
  simp [Act.put,Array.getElem?_setIfInBounds,hd]
 unfold vC;rw [e]
theorem Jw {w0 w w':World} (f:Fr No w w') (a:Act) (h:vC w0 a w):vC w0 a w':=by
 obtain ⟨h1,h2⟩:=h;refine ⟨h1.trans f kp,?_⟩;rcases h2 with h2|⟨g,e,hg,hk⟩
 ·exact .inl h2
 ·exact .inr ⟨g,e,hg,f.aC hk id⟩
theorem aA2 (o:Nat→Nat) (K n:Nat) (L:aT) (S:St) (r:aJ) (rv dv:Value) (w:World) (h:aK w o K L S n) (ok:aU S) (fit:zK S) (hf:aP w o):
  Calls prog 89 #[.pointer (some ⟨L.s,0,none⟩),.agg (r.cells rv dv)] w (aX w o K L n (mapD S r)):=by
 have mixed:prog.follows .mixedOrders=true:=by kernel_rfl
 obtain ⟨f0,k0,k1,H0,G0⟩:=begun h ok hf r rv dv;have F0:=lH f0;have HL:Hid (∀w',Fr No (bQ w r rv dv) w'→Calls prog 138 #[.pointer (some ⟨L.tk,0,none⟩),.int .i64 r.c,.int .i64 r.h] w' fun e w''=>e=.returned (.tuple #[jL ((fH S.K r.c r.h).getD bJ),.bool (fH S.K r.c r.h).isSome])∧Fr No w' w''):=
  lH (fun w' f=>by
   obtain ⟨v,h1,h2⟩:=Ik (H0.no ok G0 f).tok;exact Ci L.tk v S.K r.c r.h w' h1 h2)
 have HM:Hid (∀x,fH S.K r.c r.h=some x→∃i m,x.i=((i:Nat):Int)∧S.F i=some m∧∀w',Fr No (bQ w r rv dv) w'→Calls prog 137 #[.pointer (some ⟨L.s,0,none⟩),.int .i64 i] w' (Gv w' i m)):=
  lH (fun x hx=>by
   obtain ⟨i,m,h1,h2,h3⟩:=fit.tok x (List.mem_of_find?_eq_some hx);exact ⟨i,m,h1,h3,fun w' f=>Lu o K n L S i m w' (H0.no ok G0 f) (by omega) h3 (fit.fit i m h3)⟩)
 have HR:Hid (fH S.K r.c r.h=none→∀e w',e=.panicked (iW 13)→Fr No w w'→aX w o K L n (mapD S r) e w'):=lH (fun hne e w' he f=>by
  unfold mapD;rw [hne];exact aX.no h ok hf (by decide) he f)
 have HQ:Hid (∀x i m,fH S.K r.c r.h=some x→x.i=((i:Nat):Int)→S.F i=some m→∀v b c e w' w3,e=.returned (.agg #[.int .i64 0,.int .i64 i,.int .i64 m.size,.int .i64 0,.int .i64 0,.bool false,.slice none 0 0,v])→Fr No w w'→w.heap.size+1<w'.heap.size→dC w3 v (iI m) b 0 c→w.heap.size≤b→Fr (fun j=>j=w.heap.size+1) w' w3→aX w o K L n (mapD S r) e w3):=lH (fun x i m hx hi hm v b c e w' w3 he f hs hv hb g=>by
  unfold mapD;rw [hx];dsimp only;rw [hi,Int.toNat_natCast,hm];exact aX.yes (C:=fun _=>False) hf f (Step.refl (Step.no (C:=fun _=>False) hf f).fresh) (fun _ e=>e.elim) (by omega) hs g ok (h.no ok hf f) he ⟨_,_,rfl,.inl ⟨rfl,rfl⟩,.inr ⟨b,0,c,hv,hv.2.2.1⟩,Low.nil _,Low.at hv.1 hb⟩)
 generalize hQ:aX w o K L n (mapD S r)=Q at*;clear hQ;have HH:=lH H0;clear H0 G0 f0 h ok hf fit;generalize fH S.K r.c r.h=X at*;unfold bQ aJ.cells bD aF.cells at*;unfold jL at HL;go_enter func89,ntmps89;go_wp2_with fail;generalize (w.alloc (.cells #[.int .i64 r.c,.int .i64 r.l,.int .i64 r.q,.int .i64 r.kind,.string (ba r.path),.string (ba r.to),.bool r.dir,.bool r.wr,.bool r.cl,.int .i64 r.h,.int .i64 r.nx,.int .i64 r.sw,rv,dv] 36)).alloc (.cells #[.int .i64 0,.int .i64 0,.int .i64 0,.int .i64 0,.int .i64 0,.bool false,.slice none 0 0,.slice none 0 0] 29)=w0 at*;have B1:=lH (lt_of_block k1);generalize hb0:w.heap.size=b0 at*;have c10:w0.cell? ⟨L.s,10,none⟩=some (.pointer (some ⟨L.tk,0,none⟩)):=HH.o.cell 10;have d0:w0.cell? ⟨b0,0,none⟩=some (.int .i64 r.c):=by rw [aA k0];rfl
 have d9:w0.cell? ⟨b0,9,none⟩=some (.int .i64 r.h):=by rw [aA k0];rfl
 have K1:=lH k1;clear k0 k1;refine Di mixed (vC w0) 13 [14,15] (by kernel_rfl) (by kernel_rfl) (by kernel_rfl) (by kernel_rfl) (fun _ _ d _ _ h=>by cases d<;>exact h) ⟨(Fr.refl _).drew,.inl (by rfl)⟩ ?_;repeat (first
  | refine wY (by rfl) ?_
  | (refine xC (v:= ?_) (by rfl) (fun a v w=>sH w0 _ (by decide) a v w) (by rfl) ?_ ?_
     rotate_left 1
     (intro W;go_simp;(try with_reducible rfl))
     simp only [Act.put,lsA,aB,lsS])
  | (refine vX (v:= ?_) (by rfl) (fun a v w=>sH w0 _ (by decide) a v w) (by kernel_rfl) (by rfl) ?_ ?_
     rotate_left 1
     (intro W hS;obtain ⟨_,fS,_⟩:=hS;have e1:=fS.cell_of c10 id;have e2:=fS.cell_of d0 id;have e3:=fS.cell_of d9 id;go_simp;(try with_reducible rfl))
     simp only [Act.put,lsA,aB,lsS]))
 refine Na (v:=.tuple #[.agg #[.int .i64 (X.getD bJ).c,.int .i64 (X.getD bJ).h,.int .i64 (X.getD bJ).i,.bool (X.getD bJ).wr],.bool X.isSome]) 138 #[.pointer (some ⟨L.tk,0,none⟩),.int .i64 r.c,.int .i64 r.h] (by rfl) (fun a v w=>sH w0 _ (by decide) a v w) (by kernel_rfl) (by rfl) (fun W=>by go_simp) (fun w' hS=>(HL.o w' hS.choose_spec.1).mono (fun e w'' h=>⟨h.1,fun b hb=>Jw h.2 b hb⟩)) ?_;simp only [Act.put,lsA,aB,lsS];repeat (first
  | refine wY (by rfl) ?_
  | (refine xC (v:= ?_) (by rfl) (fun a v w=>sH w0 _ (by decide) a v w) (by rfl) ?_ ?_
     rotate_left 1
     (intro W;go_simp;(try with_reducible rfl))
     simp only [Act.put,lsA,aB,lsS]))
 unfold jZ;refine Gz (by rfl) (by rfl) ?_;intro W hS;refine ⟨.pointer (some ⟨W.heap.size,0,none⟩),W.alloc (.cells #[.int .i64 0,.int .i64 0,.int .i64 0,.bool false] 53),by go_simp,?_,?_⟩
 ·exact ⟨hS.1.alloc _,.inr ⟨W.heap.size,by rfl,hS.1.size,aO W _⟩⟩
 ·intro W2 hS2;obtain ⟨f2,h2⟩:=hS2;have hk2:W2.heap[W.heap.size]? =some (.cells #[.int .i64 0,.int .i64 0,.int .i64 0,.bool false] 53 (0,0)):=by
   rcases h2 with h2|⟨g,e,_,hk⟩
   ·exact absurd (show Value.pointer (some ⟨W.heap.size,0,none⟩)=undef from h2) (by intro h;cases h)
   ·have e':Value.pointer (some ⟨W.heap.size,0,none⟩)=.pointer (some ⟨g,0,none⟩):=e;cases e';exact hk
  have KG:=lH hk2;have F2:=lH f2;clear h2 hk2 f2;simp only [List.filterMap_cons,List.filterMap_nil,List.getElem?_toArray,List.getElem?_cons_succ,List.getElem?_cons_zero,Act.put,lsA,aB,lsS];have HOC:=lH (show (#[.int .i64 (X.getD bJ).c,.int .i64 (X.getD bJ).h,.int .i64 (X.getD bJ).i,.bool (X.getD bJ).wr]:Array Value).all (·.oneCell')=true from by simp [Value.oneCell']);refine wpList_store_row rfl 53 (.tmp 5) (.tmp 18) rfl W.heap.size #[.int .i64 (X.getD bJ).c,.int .i64 (X.getD bJ).h,.int .i64 (X.getD bJ).i,.bool (X.getD bJ).wr] rfl rfl 53 _ KG.o Tryz.jS rfl HOC.o ?_;go_wp2_with fail;have HG:Hid (w0.heap.size≤W.heap.size):=lH hS.1.size;have K2:=dS (cs':= #[.int .i64 (X.getD bJ).c,.int .i64 (X.getD bJ).h,.int .i64 (X.getD bJ).i,.bool (X.getD bJ).wr]) KG.o;cases X with
  | none=>
   have FE:=lH (F2.o);go_wp2_with fail;refine (fJ _ _).mono ?_;rintro e w2 ⟨rfl,rfl⟩;go_wp2_with fail;refine ⟨rfl,HR.o trivial _ _ rfl (F0.o.trans (Fr.setRow F2.o (.inr HG.o) _) kp)⟩
  | some x=>
   obtain ⟨i,m,hxi,hm,HC⟩:=HM.o x rfl;obtain ⟨xc,xh,xi,xw⟩:=x;dsimp only at hxi;subst hxi;dsimp only [Option.getD_some] at K2 KG HOC ⊢;have FW:Hid (Fr No w0 (W2.setRow W.heap.size #[.int .i64 xc,.int .i64 xh,.int .i64 i,.bool xw])):=lH (Fr.setRow F2.o (.inr HG.o) _);have cg:(W2.setRow W.heap.size #[.int .i64 xc,.int .i64 xh,.int .i64 i,.bool xw]).cell? ⟨W.heap.size,2,none⟩=some (.int .i64 i):=(by rw [aA K2];rfl)
   have HCC:=lH (HC _ FW.o);go_wp2_with fail;refine (gU _ _).mono ?_;rintro e w2 ⟨rfl,rfl⟩;go_wp2_with fail;refine HCC.o.mono ?_;rintro e w3 ⟨v,b,c,rfl,f3,sl,hb⟩;obtain rfl:=sl.1;have F3:=lH (FW.o.trans f3 kp);have K3:=lH (F3.o.aC K1.o id);have SL:=lH sl;have HBB:Hid (b0+1<b):=lH (Nat.lt_of_lt_of_le (Nat.lt_of_lt_of_le B1.o FW.o.size) hb);clear f3 sl hb;have HO2:=lH (show (#[.int .i64 0,.int .i64 i,.int .i64 m.size,.int .i64 0,.int .i64 0,.bool false,.slice none 0 0,.slice (some ⟨b,0,none⟩) (iI m).length c]:Array Value).all (·.oneCell')=true from by simp [Value.oneCell']);go_wp2_with (refine wpList_store_row rfl 29 (.tmp 4) (.tmp 25) rfl (b0+1) #[.int .i64 0,.int .i64 i,.int .i64 m.size,.int .i64 0,.int .i64 0,.bool false,.slice none 0 0,.slice (some ⟨b,0,none⟩) (iI m).length c] rfl rfl 29 _ K3.o Tryz.size29 rfl HO2.o ?_);have KF:=dS (cs':= #[.int .i64 0,.int .i64 i,.int .i64 m.size,.int .i64 0,.int .i64 0,.bool false,.slice none 0 0,.slice (some ⟨b,0,none⟩) (iI m).length c]) K3.o;have FS:Fr (fun j=>j=b0+1) w3 (w3.setRow (b0+1) #[.int .i64 0,.int .i64 i,.int .i64 m.size,.int .i64 0,.int .i64 0,.bool false,.slice none 0 0,.slice (some ⟨b,0,none⟩) (iI m).length c]):=Fr.setRow (S:=fun j=>j=b0+1) (Fr.refl _) (.inl rfl) _;have hne:b≠b0+1:=(by have:=HBB.o;omega)
   exact bodyPost_ret (v:=.agg #[.int .i64 0,.int .i64 i,.int .i64 m.size,.int .i64 0,.int .i64 0,.bool false,.slice none 0 0,.slice (some ⟨b,0,none⟩) (iI m).length c]) (results_cell_row rfl _ _ (b0+1) 29 _ (0,0) _ rfl KF underlying29 rfl Tryz.size29) rfl
    (HQ.o _ i m rfl rfl hm _ b c _ _ _ rfl (F0.o.trans F3.o kp) (lt_of_block K3.o) ⟨SL.o.1,SL.o.2.1,Nat.lt_of_lt_of_le SL.o.2.2.1 FS.size,fun j y hj=>FS.cell_of (SL.o.2.2.2 j y hj) hne⟩ (by have:=HBB.o;omega) FS)
theorem jK.del {w:World} {o:Nat→Nat} {K fl n:Nat} {F:Nat→Option aG} (h:jK w o K fl n F) (hf:aP w o) (i:Nat) (hi:i≤1000000):
  ∃w',(Builtin.delete_ #[100,3] 0 #[.map (some fl),.int .i64 i]).run prog w=.ok (.tuple #[]) w'∧Fr (fun k=>k=fl) w w'∧Step (fun c=>c=K+6) w o w' o∧jK w' o K fl n (bC F i none):=by
 obtain ⟨h1,fp,c,hc,hm,hfl⟩:=h;obtain ⟨w',hrun,hma,g⟩:=hm.del (i:Int) (show I64 _ by unfold I64;omega) (t:=100) (e:=63) underlying100 0;have s:Step (fun c=>c=K+6) w o w' o:=⟨g.mono (fun j _ e=>by rw [e];exact h1),fun _ _=>rfl,fun k hk=>hf k (Nat.le_trans g.size hk)⟩
 refine ⟨w',hrun,g,s,h1,fp,(if (cO F fp i).isSome then c - 1 else c),?_,?_,fun j m hj=> ?_⟩
 ·split<;>omega
 ·have e:(fun z:Int=>if z=(i:Int) then none else cO F fp z)=cO (bC F i none) fp:=by
   funext z;unfold cO bC;by_cases hz:z=i
   ·subst hz;simp
   ·by_cases h0:0≤z
    ·have:z.toNat≠i:=by omega
     simp [hz,h0,this]
    ·simp [hz,h0]
  rw [← e];exact hma
 ·unfold bC at hj;by_cases hji:j=i
  ·rw [if_pos hji] at hj;cases hj
  ·rw [if_neg hji] at hj;exact (hfl j m hj).step s (by omega) (by omega)
def kM (S:St) (r:aJ):St:=
 if (lookOf S.T r.path).2.2=true then {S with T:=jJ S.T r.path r.dir}
 else {S with T:=jJ S.T r.path r.dir,F:=bC S.F (dO S.T r.path r.dir).2 none,U:=iD (bC S.F (dO S.T r.path r.dir).2 none) S.U}
def mayRemove (S:St) (r:aJ):Prop:=(lookOf S.T r.path).2.2=true∨r.dir=true∨(S.K.any fun x=>x.i==(lookOf S.T r.path).2.1)=false
instance (S:St) (r:aJ):Decidable (mayRemove S r):=by unfold mayRemove;exact inferInstance
def mJ (S:St) (r:aJ):Int×aF×St:=
 if (lookOf S.T r.path).1≠0 then ((lookOf S.T r.path).1,bD,S)
 else if ¬mayRemove S r then (8,bD,S)
 else if (dO S.T r.path r.dir).1≠0 then ((dO S.T r.path r.dir).1,bD,S)
 else (0,gV 0 (dO S.T r.path r.dir).2 0 0 0 false,kM S r)
theorem Hw {T:Tree} (ht:dD T) {l:List UInt8} {b:Bool} (h:(dO T l b).1=0):(dO T l b).2≤128∧(lookOf T l).1=0:=by
 unfold dO at h ⊢;split
 ·rename_i h1
  rw [if_pos h1] at h;exact absurd h h1
 ·rename_i h1
  have h0:(lookOf T l).1=0:=by simpa using h1
  refine ⟨?_,h0⟩;split
  ·exact Nat.zero_le _
  ·split
   ·exact Nat.zero_le _
   ·split
    ·exact Nat.zero_le _
    ·split
     ·exact Nat.zero_le _
     ·exact Ig ht h0
theorem zM {T:Tree} (ht:dD T) (l:List UInt8) (b:Bool):dD (jJ T l b):=by
 unfold jJ;split
 ·rename_i h
  obtain ⟨_,h0⟩:=Hw ht h;obtain ⟨x,hx,hd⟩:=look_ok ht h0;unfold dO at h ⊢;rw [if_neg (by simp [h0])] at h ⊢;split at h
  ·cases h
  ·rename_i h1
   rw [if_neg h1];split at h
   ·cases h
   ·rename_i h2
    rw [if_neg h2];split at h
    ·cases h
    ·rename_i h3
     rw [if_neg h3];split at h
     ·cases h
     ·rename_i h4
      rw [if_neg h4];have hk:x.dir=true→aV T (lookOf T l).2.1=0:=fun hdd=>by
       have:¬0<aV T (lookOf T l).2.1:=fun hk=>h4 ⟨by rw [← hd];exact hdd,hk⟩;omega
      exact qG.Ov (x:=x) ⟨ht,hx,h1,hk⟩
 ·exact ht
theorem vW (F:Nat→Option aG) (i:Nat) (x:Option aG):bC F i x i=x:=by simp [bC]
theorem yS {F:Nat→Option aG} {i j:Nat} {m:aG} (h:bC F i none j=some m):F j=some m:=by
 unfold bC at h;split at h
 ·cases h
 ·exact h
theorem wO {F:Nat→Option aG} {i j:Nat} {m y:aG} (h:bC F i (some m) j=some y):j=i∧y=m∨F j=some y:=by
 unfold bC at h;split at h
 ·rename_i e
  cases h;exact .inl ⟨e,rfl⟩
 ·exact .inr h
theorem jP.put {F:Nat→Option aG} (h:jP F) (i:Nat) {m:aG} (hm:∀p∈m.l,dI p):jP (bC F i (some m)):=fun j y hj=>by
 rcases wO hj with ⟨_,rfl⟩|hj
 ·exact hm
 ·exact h j y hj
theorem jP.less {F:Nat→Option aG} (h:jP F) (i:Nat):jP (bC F i none):=fun j m hj=>h j m (yS hj)
theorem aU.less {S:St} (ok:aU S) (i:Nat):aU {S with F:=bC S.F i none}:=⟨ok.tree,fun j m hj=>ok.file j m (yS hj)⟩
theorem aU.Nh {S:St} (ok:aU S) (U':Stp→Option Us):aU {S with U:=U'}:=⟨ok.tree,ok.file⟩
def kP (m:Stp→Option Int) (i:Int) (d:Dl):Prop:=dU d∧d.i=i∧d.k≠3∧(d.t=bH∨sQ m d.t=true)
instance (m:Stp→Option Int) (i:Int) (d:Dl):Decidable (kP m i d):=by unfold kP;exact inferInstance
def nM (m:Stp→Option Int) (d:Dl):Prop:=dU d∧d.k=3∧sQ m d.t=true
instance (m:Stp→Option Int) (d:Dl):Decidable (nM m d):=by unfold nM;exact inferInstance
def gI (F:Nat→Option aG) (d:Dl):Nat→Option aG:=match F d.i.toNat with
 | some m=>bC F d.i.toNat (some (dR m d))
 | none=>F
def nJ (S:St) (st:List Sz) (dl:List Dl) (c:Nat) (nx:Int) (i:Nat):St:=
 {eY S st c nx with F:=bC S.F i (some (dl.foldl dR ((S.F i).getD gZ))),U:=iD (bC S.F i (some (dl.foldl dR ((S.F i).getD gZ)))) (eY S st c nx).U}
def mZ (b:Bool) (L:List Tok) (x:Tok):List Tok:=if b=true then L.filter fun y=> !decide (y=x) else L
def nS (S:St) (r:aJ) (st:List Sz) (dl:List Dl):Int×aF×St:=match fH S.K r.c r.h with
 | none=>(13,bD,S)
 | some x=>
  if x.wr=false∧¬(dl= []∧st= []) then (10,bD,S)
  else if (eX S r.sw r.nx st r.c r.l).1≠0 then ((eX S r.sw r.nx st r.c r.l).1,bD,S)
  else if ¬(∀d∈dl,kP (eX S r.sw r.nx st r.c r.l).2 x.i d) then (4,bD,S)
  else (0,gV 0 x.i (dl.foldl dR ((S.F x.i.toNat).getD gZ)).size 0 0 false,{nJ S st dl r.c.toNat r.nx x.i.toNat with K:=mZ r.cl S.K x})
def rH (S:St) (st:List Sz) (dl:List Dl) (nx:Int):St:=
 {eY {S with clock:=S.clock+1} st 4 nx with F:=dl.foldl gI S.F,U:=iD (dl.foldl gI S.F) (eY {S with clock:=S.clock+1} st 4 nx).U}
def lF (S:St) (r:aJ) (st:List Sz) (dl:List Dl):Int×aF×St:=
 if ¬(r.c=4∧r.l=S.boots) then (17,bD,S)
 else if (eX S r.sw r.nx st 4 S.boots).1≠0 then ((eX S r.sw r.nx st 4 S.boots).1,bD,S)
 else if ¬(∀d∈dl,nM (eX S r.sw r.nx st 4 S.boots).2 d) then (4,bD,S)
 else (0,gV 0 0 0 0 0 false,rH S st dl r.nx)
def rF (S:St):St:={S with boots:=S.boots+1,clock:=S.clock+1,next:=nY S.next 4 0}
def lU (S:St) (r:aJ):Int×aF×St:=if r.c=4 then (0,gV 0 0 0 0 0 false,rF S) else (17,bD,S)
def pY (S:St):St:={S with swaps:=S.swaps+1,clock:=S.clock+1}
def lX (S:St) (r:aJ):Int×aF×St:=if r.c=4 then (0,gV 0 0 0 0 0 false,pY S) else (17,bD,S)
theorem Q5 {m:aG} {d:Dl} (hl:fU m) (hd:dU d):fU (dR m d):=by
 obtain ⟨h1,h2⟩:=hl;obtain ⟨d1,d2,d3,d4,d5,d6,d7,d8,d9⟩:=hd;unfold dR iC;split
 ·rename_i hc
  split
  ·refine ⟨by dsimp only;omega,?_⟩;dsimp only;rw [List.length_set,Et]
  ·split
   ·exact ⟨by dsimp only;omega,by dsimp only;rw [Et]⟩
   ·exact ⟨h1,by dsimp only;rw [List.length_set];exact h2⟩
 ·exact ⟨h1,h2⟩
theorem Ut {m:aG} {d:Dl} (hl:∀p∈m.l,dI p) (hd:dU d):∀p∈(dR m d).l,dI p:=by
 have ht:dI d.t:=hd.2.2.2.2.2.2.1;have hr:∀n,∀p∈kT m.l n,dI p:=fun n p hp=>by
  unfold kT at hp;split at hp
  ·exact hl p (List.mem_of_mem_take hp)
  ·rcases List.mem_append.1 hp with hp|hp
   ·exact hl p hp
   ·rw [(List.mem_replicate.1 hp).2];exact .inl rfl
 have hs:∀(l:List Pt) (j:Nat),(∀p∈l,dI p)→∀p∈l.set j d.t,dI p:=fun l j h p hp=>by
  rcases List.mem_or_eq_of_mem_set hp with hp|rfl
  ·exact h p hp
  ·exact ht
 unfold dR iC;split
 ·split
  ·exact hs _ _ (hr _)
  ·split
   ·exact hr _
   ·exact hs _ _ hl
 ·exact hl
theorem Nz {i:Int} {M:Stp→Option Int}:∀(dl:List Dl) (m:aG),(∀d∈dl,kP M i d)→fU m→(∀p∈m.l,dI p)→fU (dl.foldl dR m)∧∀p∈(dl.foldl dR m).l,dI p
 | [],_,_,hl,hp=>⟨hl,hp⟩
 | d::r,m,h,hl,hp=>Nz r (dR m d) (fun x hx=>h x (by simp [hx])) (Q5 hl (h d (by simp)).1) (Ut hp (h d (by simp)).1)
theorem Qd {i:Int} {M:Stp→Option Int} {dl:List Dl} (h:∀d∈dl,kP M i d) {m:aG} (hl:fU m) (hp:∀p∈m.l,dI p):fU (dl.foldl dR m)∧∀p∈(dl.foldl dR m).l,dI p:=Nz dl m h hl hp
