/- Part of a proof. -/
import Derived.Test.YtedcppikakinoaaGreatU16
set_option linter.unusedSimpArgs false
set_option linter.unusedVariables false
set_option maxRecDepth 100000
set_option maxHeartbeats 3200000
namespace Go.Proofs.YtedcppikakinoaaGreat
open Go.Proofs.Tryz Go.RowKit
def Oa (w:World) (o:Nat->Nat) (cl win:Nat) (W:Nat->Option wH) (i:Nat) (l s:Int) (bs:List UInt8) (e:Ending) (w':World):Prop:=
 e=.returned (Z 0)/\(∃o',Step (· =cl) w o w' o'/\lU w' o' cl win (upd W i (some (l,s,bs))))/\Fr (λk=>k=win) w w'
theorem Yi (V ab win W) (i:Nat) (ar:i<4) (l s bs b off c v w) (h:lU w V ab win W) (ag:aF w V) (av:fH w v bs b off c) (ap:bs.length<=1000000) (au:∀i bd be bs,W i=some (bd,be,bs)->bs.length<=1000000) (bc:(dH W i l s).1≠2) (r:(dH W i l s).1≠1):
  Calls prog 133 #[Y win,.agg #[i,l,s],v] w (Oa w V ab win W i l s bs):=by
 have ad:Fr No w (w.alloc (.cells #[i,l,s] 32)):=(Fr.refl w).alloc _;(have c4:(w.alloc (.cells #[i,l,s] 32)).cell? (I win 4)=some (.bool true):=by{obtain ⟨_,p,af,_⟩:=h;rw [aA (ad.aB af id)];rfl});have bb:=aT w (.cells #[i,l,s] 32);have bg:=lH (I8 V ab win W i l s _ (h.no ag ad) au);(have a2:(dH W i l s).2=none:=by{unfold dH at r ⊢;split at r;{rename_i ai;rw [AL ai];split;{rfl};{rename_i x bd be bs' bn;rw [bn] at r;dsimp only at r;dsimp only;rw [AA r]}};{rename_i ai;rw [AA ai]}});(have cd:((dH W i l s).1==2)=false:=by simpa using bc);(have cc:((dH W i l s).1==1)=false:=by simpa using r);(have bt:win<w.heap.size:=by{obtain ⟨_,p,af,_⟩:=h;exact lt_of_block af});generalize dH W i l s=bo at*;(have bx:(0:Int)<=(i:Int):=X);(have bz:(i:Int)<4:=X);(have ca:¬(i:Int)<0:=X);(have cb:¬(4:Int)<=(i:Int):=X);have al:=lH h;have aj:=lH ag;have bi:=lH av;have bh:=lH ap;have ak:=lH ar;have bf:=lH a2;clear h ag av ap au bc r a2 ar;go_enter func133,ntmps133;go_wp2_with fail;(with_reducible refine bg.o.mono ?_);rintro e B ⟨ao,aq⟩;rw [bf.o] at aq;subst aq;have H:=ao.aB bb id;have u:Fr No w B:=ad.trans ao zq;(have bu:B.cell? (I w 0)=some (Z i):=by rw [aA H];rfl);(have bv:B.cell? (I w 1)=some (Z l):=by rw [aA H];rfl);have bw:B.cell? (I w 2)=some (Z s):=by rw [aA H];rfl
 clear bb H c4;go_wp2_with fail;obtain ⟨aw,ax,ay,az⟩:=bi.o;have bj:=lH (show fH B.drew v bs b off c from ⟨aw,ax,AP ay u.size,λj y ah=>u.cell_of (az j y ah) id⟩);clear aw ax ay az;have bq:=u.size;go_region_held3 (λw'=>w'.cell? (I w 0)=some (Z i)/\w'.cell? (I w 1)=some (Z l)/\w'.cell? (I w 2)=some (Z s)) (first|go_keep|(go_split_ands;refine ⟨?_,?_,?_⟩<;>exact ae.cell_of (by assumption) id))
  ((go_at_call 121;refine (Az _ bs b off c _ bj bh).mono ?_;rintro e o ⟨ce,A,J,rfl,⟨rfl,Q⟩,bm,ae⟩;have am:=lH (al.o.no aj (u.drew.trans (ae.trans ((Fr.refl o).alloc (.cells #[i,l,s,O A bs.length J] 146)) zq) zq));have an:∃z,(o.alloc (.cells #[i,l,s,O A bs.length J] 146)).cell? (I win i)=some z:=am.o.place i ak.o;obtain ⟨z,an⟩:=an;have cf:(o.alloc (.cells #[i,l,s,O A bs.length J] 146)).frozen? (I win i)=false:=am.o.frozen i;have br:win≠w.heap.size:=X))
 (all_goals go_wp2_with fail;go_ret;have aa:Fr No w o:=u.drew.trans ae zq;have E:Fr No o (o.alloc (.cells #[i,l,s,O A bs.length J] 146)):=(Fr.refl o).alloc _;have bk:=aa.size;(have bl:w.heap.size<=A:=by have:=u.size;simp at bm;omega);have bp:=Q.2.1;exact ⟨rfl,⟨_,al.o.set aj (aa.trans E zq) i ak bk bl X (aT o _) ⟨rfl,Q.1,AP Q.2.1 E.size,λj y ah=>E.cell_of (Q.2.2 j y ah) id⟩ rfl⟩,(aa.trans E zq).bC.trans (dZ _ win i _) zq⟩)
def Rp (w:World) (ev mv:Value) (es:List dX) (mp:List UInt8):Prop:=iF w w ev es/\iL w w mv mp
def uN (w:World) (k:Nat):Prop:=∃cs t fz,w.heap[k]? =some (.cells cs t fz)/\t≠86/\∀(j:Nat) (x:Int),cs[j]? ≠some (.int .u8 x)
theorem Rp.fr {S w w' E V es Q} (h:Rp w E V es Q) (f:Fr S w w') (H:∀k,S k->k<w.heap.size->uN w k):Rp w' E V es Q:=by
 obtain ⟨A,B⟩:=h;refine ⟨?_,?_⟩
 ·rcases A with A|⟨b,off,c,e,a1,a2,a3,⟨cs',ad,a4⟩,aa⟩;{exact .inl A}
  ·have J:¬S b:=λu=>by
    obtain ⟨cs,t,ab,o,ag,_⟩:=H b u (lt_of_block a4);rw [a4] at o;simp only [FQ,Obj.cells.injEq] at o;exact ag o.2.1.symm
   exact .inr ⟨b,off,c,e,a1,AP a3 f.size,AP a3 f.size,⟨cs',ad,f.aB a4 J⟩,λj x r i ah ae=>f.cell_of (aa j x r i ah ae) J⟩
 {rcases B with B|⟨b,off,c,⟨e,a1,a2,a3⟩,a4⟩;{exact .inl B};{refine .inr ⟨b,off,c,⟨e,a1,AP a2 f.size,λj x r=> ?_⟩,AP a2 f.size⟩;by_cases u:S b;{obtain ⟨cs,t,ab,o,_,af⟩:=H b u a2;have:=a3 j x r;rw [aA o] at this;exact absurd this (af _ _)};{exact f.cell_of (a3 j x r) u}}}
theorem Rp.no {w w' o u es r} (h:Rp w o u es r) (f:Fr No w w'):Rp w' o u es r:=h.fr f (λ_ e _=>e.elim)
theorem Tn (w):Rp w (nS) (nS) [] []:=⟨.inl ⟨rfl,rfl⟩,.inl ⟨rfl,rfl⟩⟩
theorem xM {w k o} (h:w.heap[k]? =some (.cells (cE 0) 29 o)):uN w k:=
 ⟨_,29,_,h,by decide,Wu bU (nS) (nS) (λ_ e=>by cases e) (λ_ e=>by cases e)⟩
theorem lU.nob {w H c win W} (h:lU w H c win W):uN w win:=by
 obtain ⟨_,p,B,E⟩:=h;have o:∀i,i<4->∀x:Int,p i≠ .int .u8 x:=λi A x e=>by
  have:=E i A;(cases u:W i with|none=>rw [u] at this;have r:=this;rw [r] at e;cases e|some y=>obtain ⟨l,q,bs⟩:=y;rw [u] at this;obtain ⟨Q,v,b,J,r,_⟩:=this;rw [r] at e;cases e)
 refine ⟨_,184,_,B,by decide,λj x e=> ?_⟩;(match j,e with|0,e=>exact o 0 G x (U e)|1,e=>exact o 1 G x (U e)|2,e=>exact o 2 G x (U e)|3,e=>exact o 3 G x (U e)|4,e=>simp at e|(n+5),e=>simp at e)
