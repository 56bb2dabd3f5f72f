/- Part of the proof; the last text says what is proved. -/
import Derived.Test.YtlcojhddnpmgmaaGreatT35
set_option linter.unusedSimpArgs false
set_option linter.unusedVariables false
set_option maxRecDepth 100000
set_option maxHeartbeats 3200000
namespace Go.Proofs.YtlcojhddnpmgmaaGreat
open Go.RowKit
structure Wr where
 c:Int
 l:Int
 q:Int
 v:Value
 bs:List UInt8
def wrC (x:Wr):List Value:= [.int .i64 x.c,.int .i64 x.l,.int .i64 x.q,x.v]
theorem wrC_len (x:Wr):(wrC x).length=4:=rfl
def wrP (x:Wr):Int×Int×Int×List UInt8:=(x.c,x.l,x.q,x.bs)
def wrOf (W:Nat→Option WRow) (j:Nat):List (Int×Int×Int×List UInt8):=(List.range j).filterMap fun i=>(W i).map fun y=>((i:Int),y.1,y.2.1,y.2.2)
theorem wrOf_none {W:Nat→Option WRow} {j:Nat} (h:W j=none):wrOf W (j+1)=wrOf W j:=by
 unfold wrOf;rw [List.range_succ,List.filterMap_append];simp [h]
theorem wrOf_some {W:Nat→Option WRow} {j:Nat} {y:WRow} (h:W j=some y):wrOf W (j+1)=wrOf W j++ [((j:Int),y.1,y.2.1,y.2.2)]:=by
 unfold wrOf;rw [List.range_succ,List.filterMap_append];simp [h]
def Sl5 (w:World) (base:Nat) (v:Value) (bs:List UInt8):Prop:=∃b c,SlIs w v bs b 0 c∧base≤b∧∃cs,w.heap[b]? =some (.cells cs 5 (0,0))
def RepliesAt (w:World) (base:Nat) (L:List Wr):Prop:=∀x∈L,Sl5 w base x.v x.bs
theorem SlIs.fr {S:Nat→Prop} {w w':World} {v:Value} {bs:List UInt8} {b off c:Nat} (h:SlIs w v bs b off c) (f:Fr S w w') (hb:¬S b):SlIs w' v bs b off c:=
 ⟨h.1,h.2.1,Nat.lt_of_lt_of_le h.2.2.1 f.size,fun j x hj=>f.cell_of (h.2.2.2 j x hj) hb⟩
theorem Sl5.fr {S:Nat→Prop} {w w':World} {base:Nat} {v:Value} {bs:List UInt8} (h:Sl5 w base v bs) (f:Fr S w w') (hS:∀b cs,w.heap[b]? =some (.cells cs 5 (0,0))→¬S b):Sl5 w' base v bs:=by
 obtain ⟨b,c,h1,h2,cs,h3⟩:=h;exact ⟨b,c,h1.fr f (hS b cs h3),h2,cs,f.block_of h3 (hS b cs h3)⟩
theorem clone5_ (v:Value) (bs:List UInt8) (b off c:Nat) (w:World) (h:SlIs w v bs b off c) (hb:bs.length≤1000000):Calls Tryz.prog 101 #[v] w fun e w'=>∃v',e=.returned v'∧Sl5 w' w.heap.size v' bs∧Fr No w w':=by
 obtain ⟨rfl,hl,hlt,hc⟩:=h;refine (Tryz.bytes_Clone_at ⟨b,off,none⟩ bs.length c (bs.map fun x=>(x.toNat:Int)) w (by simp) (by omega) (fun i hi=> ?_)).mono ?_
 ·have h2:(Addr.mk b off none).add i=⟨b,off+i,none⟩:=by unfold Addr.add;split<;>simp_all
  rw [h2,hc i bs[i] (List.getElem?_eq_getElem hi)];simp [List.getD,hi]
 ·rintro e w' ⟨v',rfl,hown,hne,hbl⟩;rw [List.map_map] at hown;obtain ⟨b',c',h1,h2⟩:=slAt_own hown hne;refine ⟨v',rfl,⟨b',c',h1,h2,?_⟩,Fr.of_below hbl (Nat.le_refl _)⟩;rcases hown.2 with ⟨e,_⟩|⟨g,cap,cur,e,_,hh,_⟩
  ·exact absurd e hne
  ·obtain rfl:=h1.1;cases e;exact ⟨cur,hh⟩
theorem ownR_blk {t n:Nat} {w:World} {base:Nat} {v:Value} {m:Nat} {xs:List Value} (h:w.ownsRow base t n v m xs) (ht:t≠5) (b:Nat) (cs:Array Value) (hb:w.heap[b]? =some (.cells cs 5 (0,0))):¬v.ownBlock=some b:=by
 intro e;obtain ⟨_,⟨rfl,_⟩|⟨g,cap,cur,rfl,hg,hh,_⟩⟩:=h
 ·cases e
 ·cases e;rw [hb] at hh;cases hh;exact ht rfl
theorem ownR_base {t n:Nat} {w:World} {base:Nat} {v:Value} {m:Nat} {xs:List Value} (h:w.ownsRow base t n v m xs) (j:Nat) (hj:v.ownBlock=some j):base≤j:=by
 obtain ⟨_,⟨rfl,_⟩|⟨g,cap,cur,rfl,hg,_⟩⟩:=h
 ·cases hj
 ·cases hj;exact hg
theorem ownR_fr {t n:Nat} {S:Nat→Prop} {w w':World} {base:Nat} {v:Value} {m:Nat} {xs:List Value} (h:w.ownsRow base t n v m xs) (f:Fr S w w') (hS:∀j,v.ownBlock=some j→¬S j):w'.ownsRow base t n v m xs:=by
 obtain ⟨h1,h2|⟨g,cap,cur,rfl,hg,hb,h3⟩⟩:=h
 ·exact ⟨h1,.inl h2⟩
 ·exact ⟨h1,.inr ⟨g,cap,cur,rfl,hg,f.block_of hb (hS g rfl),h3⟩⟩
section
variable {P:Program} {ops:Array Oper} {Q:Exit→Act→World→Prop}
theorem bornEnd_call {S:Act→World→Prop} {k:Nat} {L2:List Nat} {a:Act} {o:Oper} (f:Nat) (args:Array Value) (hi:ops[k]? =some o) (hw:Region.wanted o (yielded ops a.tmps)=true) (h:∀w,(execOp a.eval o).run P w=.ok (.enter f args) w)
  (hc:∀w,S a w→Calls P f args w (fun e w'=>∃v,e=.returned v∧S (a.put o.dst v) w'∧∀w'',S (a.put o.dst v) w''→wpList P ops Q (L2.filterMap fun i=>ops[i]?) (a.put o.dst v) w'')):bornEnd P ops Q S k L2 a:=by
 intro w hS;unfold wpOp;simp only [hi,hw,if_true];refine .inl ?_;simp only [Oper.wp,h,Oper.upon];refine Calls.mono (hc w hS) fun e w'' he=> ?_;obtain ⟨v,rfl,h1,h2⟩:=he;exact ⟨h1,h2⟩
theorem wpList_value {op:Oper} {rest:List Oper} {a:Act} {w:World} (hgd:op.guard=none) (v:Value) (w':World) (hr:(execOp a.eval op).run P w=.ok (.value v) w') (h:wpList P ops Q rest (a.put op.dst v) w'):wpList P ops Q (op::rest) a w:=
 wpList_plain hgd fun K hK=>by
  unfold Oper.wp;simp only [hr,Oper.upon];exact hK _ _ h
end
def bornP (d:Nat) (u:Value) (R:Value→World→Prop) (w0:World) (a:Act) (w:World):Prop:=Fr No w0 w∧(a.tmps.getD d undef=u∨R (a.tmps.getD d undef) w)
theorem bornP_put (e:Nat) (u:Value) (R:Value→World→Prop) (w0:World) (d:Nat) (hd:d≠e) (a:Act) (v:Value) (w:World):bornP e u R w0 (a.put (some d) v) w↔bornP e u R w0 a w:=by
 have e:(a.put (some d) v).tmps.getD e undef=a.tmps.getD e undef:=by
  simp [Act.put,Array.getElem?_setIfInBounds,hd]
 unfold bornP;rw [e]
theorem Tryz.size32:(Tryz.prog.info? 32).map (·.size)=some 3:=by kernel_rfl
def WRowsPost (w:World) (W:Nat→Option WRow) (e:Ending) (w':World):Prop:=
 ∃v L,e=.returned v∧L.map wrP=wrOf W 4∧RowNew wrC 4 119 w' w.heap.size v L∧RepliesAt w' w.heap.size L∧Fr No w w'
theorem Tryz.info119:(Tryz.prog.info? 119).map (fun i=>(i.zero,i.size,i.bytes))=some (some (.agg #[.int .i64 0,.int .i64 0,.int .i64 0,.slice none 0 0]),4,48):=by kernel_rfl
theorem wrows_ (o:Nat→Nat) (cl win:Nat) (W:Nat→Option WRow) (w:World) (h:WinAt w o cl win W) (hf:Fresh w o) (hlen:∀i life seq bs,W i=some (life,seq,bs)→bs.length≤1000000):
  Calls Tryz.prog 58 #[.pointer (some ⟨win,0,none⟩)] w (WRowsPost w W):=by
 have mixed:Tryz.prog.follows .mixedOrders=true:=by kernel_rfl
 have HH:=lH h;have HFS:=lH hf;have HLN:=lH hlen;have HR:Hid (∀v w' L,L.map wrP=wrOf W 4→w'.ownsRow w.heap.size 119 4 v L.length (L.flatMap wrC)→RepliesAt w' w.heap.size L→Fr No w w'→WRowsPost w W (.returned v) w'):=lH (fun v w' L h1 h2 h3 f=>⟨v,L,rfl,h1,own_newR wrC_len h2,h3,f⟩);generalize WRowsPost w W=Q at*;obtain ⟨i0,hi,hz0,hz1,hz2⟩:=info_parts Tryz.info119;have HI:=lH hi;have HZ0:=lH hz0;have HZ1:=lH hz1;have HZ2:=lH hz2;clear hi hz0 hz1 hz2 h hf hlen;go_enter Tryz.func58,Tryz.ntmps58;go_wp2_with fail;go_loopw [3,6,23] (fun s a u wr=>∃(j:Nat) (L:List Wr),a=.int .i64 j∧Hid (∀b' l' c',u=.slice (some ⟨b',0,none⟩) l' c'→b'<wr.heap.size)∧j≤4∧Hid (L.map wrP=wrOf W j)∧L.length≤j∧Hid (wr.ownsRow w.heap.size 119 4 s L.length (L.flatMap wrC))∧Hid (RepliesAt wr w.heap.size L)∧Hid (Fr No w wr)) (fun _ a _ _=>4 - (intOf a).toNat)
 case atStart=>exact ⟨0, [],rfl,lH (fun _ _ _ e=>by cases e),Nat.zero_le _,lH rfl,Nat.le_refl _,lH ⟨rfl,.inl ⟨rfl,rfl⟩⟩,lH (by intro x hx;cases hx),lH (Fr.refl _)⟩
 case round=>
  obtain ⟨j,L,rfl,HU,hj,HL,hLj,HO,HRP,HF⟩:=hrel
  rename_i u23
  obtain ⟨a,cc,rfl⟩:=HO.out.shape;by_cases hlt:j<4
  ·obtain ⟨_,p,hw,hrow⟩:=HH.out.no HFS.out HF.out;have HG:=lH (grow_ win j hlt p wr hw);have hr:=hrow j hlt;have q1:(j:Int)<4:=(by omega)
   clear hw hrow;cases hW:W j with
   | none=>
    rw [hW] at hr;have hpj:p j=.pointer none:=hr;have HN:Hid (L.map wrP=wrOf W (j+1)):=lH (by rw [wrOf_none hW];exact HL.out);rw [hpj] at HG;clear hr hpj hW;go_wp2_with fail;refine HG.out.mono ?_;rintro e w2 ⟨rfl,rfl⟩;go_wp2_with fail;go_roundw
    case rel=>exact ⟨j+1,L,by go_num,HU,hlt,HN,by omega,HO,HRP,HF⟩
    case measure=>simp [intOf];omega
   | some y=>
    obtain ⟨life,seq,bs⟩:=y;rw [hW] at hr;obtain ⟨r,v,b,bc,hpj,_,hk,hsl,_⟩:=hr;have HN:Hid (∀x:Wr,wrP x=((j:Int),life,seq,bs)→(L++ [x]).map wrP=wrOf W (j+1)):=lH (fun x hx=>by rw [wrOf_some hW,List.map_append,HL.out];simp [hx]);rw [hpj] at HG;have LD:Hid (∀W,Fr No wr W→W.rangeAt r 0 [.int .i64 j,.int .i64 life,.int .i64 seq]):=lH (fun W f=>World.rangeAt_of_block (f.block_of hk id) 0 3);obtain rfl:=hsl.1;have C3:Hid (∀W,Fr No wr W→W.cell? ⟨r,3,none⟩=some (.slice (some ⟨b,0,none⟩) bs.length bc)):=lH (fun W f=>by rw [cell_at (f.block_of hk id)];rfl);have HC:Hid (∀W,Fr No wr W→Calls Tryz.prog 101 #[.slice (some ⟨b,0,none⟩) bs.length bc] W fun e w'=>∃v',e=.returned v'∧Sl5 w' W.heap.size v' bs∧Fr No W w'):=lH (fun W f=>clone5_ _ bs b 0 bc W (hsl.fr f id) (HLN.out j life seq bs hW));have hbd:∀(W:World) (b' c':Nat),(Instr.build 119 #[(0,.agg #[.int .i64 j,.int .i64 life,.int .i64 seq]),(1,.slice (some ⟨b',0,none⟩) bs.length c')]).run Tryz.prog W=.ok (.agg #[.int .i64 j,.int .i64 life,.int .i64 seq,.slice (some ⟨b',0,none⟩) bs.length c']) W:=fun W b' c'=>by kernel_rfl
    have HBD:=lH hbd;clear hpj hW hk hsl hbd;go_wp2_with fail;refine HG.out.mono ?_;rintro e w2 ⟨rfl,rfl⟩;go_wp2_with fail;refine wp_region_born mixed (bornP 23 u23 (fun v W=>Sl5 W w2.heap.size v bs) w2) 9 [10,11,12,13] (by kernel_rfl) (by kernel_rfl) (by kernel_rfl) (by kernel_rfl) (fun _ _ d _ _ h=>by cases d<;>exact h) ⟨(Fr.refl _).drew,.inl (by rfl)⟩ ?_;repeat (first
     | refine seqXB_skip (by rfl) ?_
     | (refine seqXB_val (v:= ?_) (by rfl) (fun a v w=>bornP_put _ _ _ _ _ (by decide) a v w) (by rfl) ?_ ?_
        rotate_left 1
        (intro W;go_simp;(try with_reducible rfl))
        simp only [Act.put,lsA,lsZ,lsS])
     | (refine seqXB_valS (v:=.agg #[.int .i64 j,.int .i64 life,.int .i64 seq]) (by rfl) (fun a v w=>bornP_put _ _ _ _ _ (by decide) a v w) (by kernel_rfl) (by rfl) (fun W hS=>exec_load_mid 32 (.tmp 17) (by rfl) r 0 (by rfl) [.int .i64 j,.int .i64 life,.int .i64 seq] _ (LD.out W hS.choose_spec.1) Tryz.underlying32 rfl Tryz.size32) ?_
        simp only [Act.put,lsA,lsZ,lsS])
     | (refine seqXB_valS (v:= ?_) (by rfl) (fun a v w=>bornP_put _ _ _ _ _ (by decide) a v w) (by kernel_rfl) (by rfl) ?_ ?_
        rotate_left 1
        (intro W hS;have e1:=C3.out W hS.choose_spec.1;clear hS;go_simp;(try with_reducible rfl))
        simp only [Act.put,lsA,lsZ,lsS]))
    unfold seqXB;refine bornEnd_call 101 #[.slice (some ⟨b,0,none⟩) bs.length bc] (by rfl) (by rfl) (fun W=>by go_simp) ?_;intro W hS;refine (HC.out W hS.1).mono ?_;rintro e W1 ⟨v',rfl,s3,f3⟩;have s3o:=s3;obtain ⟨b',c',s3,hb3,s35⟩:=s3;have e3:=s3.1;subst e3;refine ⟨_,rfl,⟨hS.1.trans f3 (fun _ _ e=>e),.inr ?_⟩,?_⟩
    ·show Sl5 W1 w2.heap.size (.slice (some ⟨b',0,none⟩) bs.length c') bs;exact ⟨b',c',s3,Nat.le_trans hS.1.size hb3,s35⟩
    intro w3 hS3;obtain ⟨f3w,h3w⟩:=hS3;have s3w:Sl5 w3 w2.heap.size (.slice (some ⟨b',0,none⟩) bs.length c') bs:=by
     rcases h3w with h2|h2
     ·have h6:=HU.out b' bs.length c' (show u23=Value.slice (some ⟨b',0,none⟩) bs.length c' from h2.symm);have:=hS.1.size;omega
     ·exact h2
    have S3:Hid (Sl5 w3 w.heap.size (.slice (some ⟨b',0,none⟩) bs.length c') bs):=lH (by
     obtain ⟨b1,c1,h1,h2,h3⟩:=s3w;exact ⟨b1,c1,h1,Nat.le_trans HF.out.size h2,h3⟩)
    have F3:=lH (HF.out.trans f3w (fun _ _ e=>e));have O3:=lH (ownR_fr HO.out f3w (fun _ _ e=>e));have R3:Hid (RepliesAt w3 w.heap.size L):=lH (fun x hx=>(HRP.out x hx).fr f3w (fun _ _ _=>id));have hszl:=F3.out.size;have hbw:=HBD.out w3 b' c';clear h3w s3w f3w s3 s3o s35 hb3 f3 hS;simp only [List.filterMap_cons,List.filterMap_nil,List.getElem?_toArray,List.getElem?_cons_succ,List.getElem?_cons_zero,List.getElem_toArray,List.getElem_cons_succ,List.getElem_cons_zero,Act.put,lsA,lsZ,lsS];refine wpList_value rfl (.agg #[.int .i64 j,.int .i64 life,.int .i64 seq,.slice (some ⟨b',0,none⟩) bs.length c']) w3 (by go_simp) ?_;simp only [Act.put,lsA,lsZ,lsS];refine wpList_value rfl (.slice (some ⟨w3.heap.size,0,none⟩) 1 1) (w3.alloc (.cells #[.int .i64 j,.int .i64 life,.int .i64 seq,.slice (some ⟨b',0,none⟩) bs.length c'] 119)) (by go_simp) ?_;simp only [Act.put,lsA,lsZ,lsS];refine wpList_append_lies _ (by rfl) _ _ 116 (by rfl) w.heap.size 119 i0 _ 4 48 Tryz.underlying116 HI.out HZ0.out HZ1.out HZ2.out rfl (by decide) (.slice a L.length cc) L.length (L.flatMap wrC) (by rfl) (O3.out.alloc _) ⟨w3.heap.size,0,none⟩ 1 1 [.int .i64 j,.int .i64 life,.int .i64 seq,.slice (some ⟨b',0,none⟩) bs.length c'] (by rfl) (by rfl) ?d1 (by simp [Value.oneCell']) (by decide) (by unfold maxLen;omega) (by omega) ?d5 (w3.heap.size+1) ?d6 ?_
    case d1=>exact World.news_of_block (cs:= #[.int .i64 j,.int .i64 life,.int .i64 seq,.slice (some ⟨b',0,none⟩) bs.length c']) (t:=119) (fr:=(0,0)) (heap_alloc_new w3 _)
    case d5=>rw [heap_size_alloc];omega
    case d6=>simp
    intro gg cap wD hownD hgrow hat hgl;have hnl3:Fr (fun k=>(Value.slice a L.length cc).ownBlock=some k) w3 wD:=((Fr.refl w3).alloc _).grown hgrow (fun j hj=> .inl hj);have HNL:Hid (Fr No w wD):=lH ((F3.out.alloc _).grown hgrow (fun j hj=> .inr (ownR_base O3.out j hj)));have HOD:=lH hownD;have SF:Hid (Sl5 wD w.heap.size (.slice (some ⟨b',0,none⟩) bs.length c') bs):=lH (S3.out.fr hnl3 (fun b cs hb=>ownR_blk O3.out (by decide) b cs hb));have RF:Hid (RepliesAt wD w.heap.size (L++ [⟨j,life,seq,.slice (some ⟨b',0,none⟩) bs.length c',bs⟩])):=lH (fun x hx=>by
     rcases List.mem_append.1 hx with hx|hx
     ·exact (R3.out x hx).fr hnl3 (fun b cs hb=>ownR_blk O3.out (by decide) b cs hb)
     ·rw [List.mem_singleton] at hx;rw [hx];exact SF.out)
    clear hownD hgrow hat hgl hbw;go_wp2_with fail;go_roundw
    case rel=>
     refine ⟨j+1,L++ [⟨j,life,seq,.slice (some ⟨b',0,none⟩) bs.length c',bs⟩],by go_num,lH (fun b2 l2 c2 e=>by cases e;obtain ⟨b1,c1,⟨h1,_,h3,_⟩,_⟩:=SF.out;cases h1;exact h3),hlt,lH (HN.out _ rfl),by rw [List.length_append,List.length_singleton];omega,lH ?_,RF,HNL⟩;have h9:=HOD.out;rw [List.flatMap_append,List.length_append];simp only [List.flatMap_cons,List.flatMap_nil,List.append_nil,List.length_singleton];exact h9
    case measure=>simp [intOf];omega
  ·obtain rfl:j=4:=by omega
   go_wp2_with fail;exact HR.out _ _ L HL.out HO.out HRP.out HF.out
end Go.Proofs.YtlcojhddnpmgmaaGreat
namespace Go.Proofs.YtlcojhddnpmgmaaGreat
open Go.RowKit Go.Sort Go.Shelf
theorem sorted_eq {α:Type} {r:α→α→Prop} (irr:∀x,¬r x x) (asy:∀x y,r x y→¬r y x):∀ {l1 l2:List α},l1.Pairwise r→l2.Pairwise r→(∀x,x∈l1↔x∈l2)→l1=l2
 | [],l2,_,_,h=>by
  cases l2 with
  | nil=>rfl
  | cons b t=>exact absurd ((h b).2 (by simp)) (by simp)
 | a::t, [],_,_,h=>absurd ((h a).1 (by simp)) (by simp)
 | a::t,b::s,h1,h2,h=>by
  rw [List.pairwise_cons] at h1 h2;have e:a=b:=by
   rcases List.mem_cons.1 ((h a).1 (by simp)) with e|ha
   ·exact e
   ·rcases List.mem_cons.1 ((h b).2 (by simp)) with e|hb
    ·exact e.symm
    ·exact absurd (h1.1 b hb) (asy _ _ (h2.1 a ha))
  subst e;rw [sorted_eq irr asy h1.2 h2.2 (fun x=>⟨fun hx=> ?_,fun hx=> ?_⟩)]
  ·rcases List.mem_cons.1 ((h x).1 (List.mem_cons_of_mem _ hx)) with e|h3
   ·subst e;exact absurd (h1.1 _ hx) (irr _)
   ·exact h3
  ·rcases List.mem_cons.1 ((h x).2 (List.mem_cons_of_mem _ hx)) with e|h3
   ·subst e;exact absurd (h2.1 _ hx) (irr _)
   ·exact h3
def numsOf (p:Nat→Bool):List Nat:=(List.range 129).filter p
theorem numsOf_mem {p:Nat→Bool} (hp:∀k,p k=true→k<129) (k:Nat):k∈numsOf p↔p k=true:=by
 unfold numsOf;rw [List.mem_filter,List.mem_range];exact ⟨fun h=>h.2,fun h=>⟨hp k h,h⟩⟩
theorem range_sorted:∀n,(List.range n).Pairwise (· < ·)
 | 0=>List.Pairwise.nil
 | n+1=>by
  rw [List.range_succ,List.pairwise_append];exact ⟨range_sorted n,by simp,fun a ha b hb=>by rw [List.mem_range] at ha;rw [List.mem_singleton] at hb;omega⟩
theorem nums_sort {ss:List Int} {p:Nat→Bool} (hp:∀k,p k=true→k<129) (hn:ss.Nodup) (h:∀x,x∈ss↔∃k:Nat,x=k∧p k=true):ss.mergeSort (fun x y=>decide (x≤y))=(numsOf p).map (fun k:Nat=>(k:Int)):=by
 refine sorted_eq (r:=fun a b:Int=>a<b) (fun x=>by omega) (fun x y=>by omega) ?_ ?_ (fun x=> ?_)
 ·have h1:=List.pairwise_mergeSort (le:=fun x y:Int=>decide (x≤y)) (fun a b c h1 h2=>by simp only [decide_eq_true_eq] at*;omega) (fun a b=>by simp only [Bool.or_eq_true,decide_eq_true_eq];omega) ss;have h2:=(List.mergeSort_perm ss (fun x y=>decide (x≤y))).nodup_iff.2 hn;refine List.Pairwise.imp₂ (fun a b h3 h4=> ?_) h1 h2;simp only [decide_eq_true_eq] at h3;omega
 ·rw [List.pairwise_map];unfold numsOf;exact (List.Pairwise.filter _ (range_sorted 129)).imp (fun h=>by omega)
 ·rw [(List.mergeSort_perm ss _).mem_iff,h x,List.mem_map];exact ⟨fun ⟨k,e,hk⟩=>⟨k,(numsOf_mem hp k).2 hk,e.symm⟩,fun ⟨k,hk,e⟩=>⟨k,e.symm,(numsOf_mem hp k).1 hk⟩⟩
def numC (i:Int):List Value:= [.int .i64 i]
theorem numC_len (i:Int):(numC i).length=1:=rfl
theorem fr_sorted {α:Type} [Inhabited α] (enc:α→Value) {w:World} {g n:Nat} {os:Array Obj} (F:Array α):Fr (· =g) w (Go.Sort.grow (Go.Sort.putRow enc (Go.Sort.ahead w n) g 0 F) os):=by
 refine ⟨rfl,rfl,rfl,by simp,fun k hk hne=> ?_⟩;rw [Go.Sort.heap_grow_old _ _ (by simpa using hk)];have:g≠k:=fun e=>hne e.symm;simp [Go.Sort.putRow,Go.Sort.mapBlock,Go.Sort.ahead,Array.getElem?_modify,this]
theorem heap_sorted {α:Type} [Inhabited α] (enc:α→Value) {w:World} {g n:Nat} {os:Array Obj} {cur:Array Value} {e:TypeId} {fr:Nat×Nat} (F:Array α) (hb:w.heap[g]? =some (.cells cur e fr)):
  (Go.Sort.grow (Go.Sort.putRow enc (Go.Sort.ahead w n) g 0 F) os).heap[g]? =some (.cells (Go.Sort.putCells enc 0 F cur) e fr):=by
 have hg:g<w.heap.size:=(Array.getElem?_eq_some_iff.1 hb).1;rw [Go.Sort.heap_grow_old _ _ (by simpa using hg)];simp [Go.Sort.putRow,Go.Sort.mapBlock,Go.Sort.ahead,Array.getElem?_modify,hb,Go.Sort.onCells]
theorem sortI_ (ss:List Int) (base:Nat) (v:Value) (w:World) (h:w.ownsRow base 3 1 v ss.length (ss.flatMap numC)) (hs:ss.length<10000000):
  Calls Tryz.prog 69 #[v] w fun e w'=>e=.returned (.tuple #[])∧Fr (fun k=>base≤k) w w'∧RowNew numC 1 3 w' base v (ss.mergeSort fun x y=>decide (x≤y)):=by
 rcases h.2 with ⟨rfl,h0⟩|⟨g,cap,cur,rfl,hb,hh,h1,h2,h3,h4⟩
 ·have hs0:=List.eq_nil_of_length_eq_zero h0;subst hs0;refine (Tryz.slices_Sort_int_none none 0 w).mono ?_;rintro e w' ⟨rfl,rfl⟩;exact ⟨rfl,Fr.refl _,.inl ⟨rfl,by simp⟩⟩
 ·have hcell:∀j (hj:j<ss.length),cur[j]? =some (.int .i64 ss[j]):=fun j hj=>by
   have h5:=congrArg (fun l=>l[j]?) h4;simp only [Nat.mul_one] at h5;rw [List.getElem?_take_of_lt hj,Array.getElem?_toList] at h5;rw [h5];have h6:=flat_get numC_len ss j _ (List.getElem?_eq_getElem hj) 0 (.int .i64 ss[j]) rfl;simpa using h6
  have hH:Holds (Value.int .i64) w g 0 ss.toArray:=fun j hj=>by
   have hj':j<ss.length:=(by simpa using hj)
   refine ⟨?_,by simp [World.frozen?,hh]⟩;rw [Nat.zero_add,cell_at hh,hcell j hj'];simp [hj']
  refine (Tryz.slices_Sort_int g 0 cap ss w hH (lt_of_block hh) (by omega)).mono ?_;rintro e w' ⟨rfl,n,os,rfl⟩;have hl:(ss.mergeSort fun x y=>decide (x≤y)).length=ss.length:=List.length_mergeSort _;generalize (ss.mergeSort fun x y=>decide (x≤y))=zs at*;have hfin:Holds (Value.int .i64) (grow (putRow (Value.int .i64) (Sort.ahead w n) g 0 zs.toArray) os) g 0 zs.toArray:=
   holds_grow _ _ _ _ _ _ (by simpa [putRow,mapBlock,Go.Sort.ahead] using lt_of_block hh) (holds_putRow _ _ _ _ _ _ (holds_ahead _ _ n _ _ _ hH) (by simp [hl]))
  refine ⟨rfl,(fr_sorted _ _).mono (fun k _ e=>by rw [e];exact hb),.inr ⟨g,cap,by rw [hl],h2,hb,⟨⟨_,heap_sorted _ _ hh,?_⟩,by rw [hl];exact h1,fun j x hj i u hu=> ?_⟩⟩⟩
  ·simp only [Go.Sort.putCells,Array.size_mapIdx];omega
  ·have hjl:j<zs.length:=(List.getElem?_eq_some_iff.1 hj).1;obtain rfl:i=0:=(by have:=(List.getElem?_eq_some_iff.1 hu).1;rw [numC_len] at this;omega)
   have hc:=(hfin j (by simpa using hjl)).1;rw [Nat.zero_add] at hc;rw [Nat.mul_one,Nat.add_zero];refine hc.trans ?_;have e1:zs.toArray[j]! =x:=by
    rw [List.getElem?_eq_getElem hjl] at hj;cases hj;exact (getElem!_pos zs.toArray j (by simpa using hjl)).trans rfl
   rw [e1];cases hu;rfl
def NumsPost (w:World) (l:List Nat) (e:Ending) (w':World):Prop:=∃v,e=.returned v∧RowNew numC 1 3 w' w.heap.size v (l.map fun k:Nat=>(k:Int))∧Fr No w w'
theorem Tryz.info3:(Tryz.prog.info? 3).map (fun i=>(i.zero,i.size,i.bytes))=some (some (.int .i64 0),1,8):=by kernel_rfl
theorem gtinos_ (o:Nat→Nat) (K t:Nat) (T:Tree) (w:World) (h:TreeAt w o K t T) (ok:TreeOk T):Calls Tryz.prog 32 #[.pointer (some ⟨t,0,none⟩)] w (NumsPost w (numsOf fun k=>(T k).isSome)):=by
 have HMD:=lH (gtmade_ w o K t T h);obtain ⟨mb,tp,_,kt,_,hum,_⟩:=h;have c0:w.cell? ⟨t,0,none⟩=some (.map (some mb)):=by rw [cell_at kt];rfl
 have hcu:things T≤129:=by
  unfold things;exact Nat.le_trans List.countP_le_length (by simp)
 have HP:Hid (∀x:Int,(thm T tp x).isSome=true↔∃k:Nat,x=k∧(T k).isSome=true):=lH (fun x=>by
  unfold thm;constructor
  ·intro h;split at h
   ·exact ⟨x.toNat,by omega,by simpa using h⟩
   ·cases h
  ·rintro ⟨k,rfl,hk⟩;rw [if_pos (by omega),Int.toNat_natCast];simpa using hk)
 have HL:Hid (∀k,(T k).isSome=true→k<129):=lH (fun k hk=>by
  obtain ⟨x,hx⟩:=Option.isSome_iff_exists.1 hk;have:=ok.lt hx;omega)
 generalize hcc:things T=cu at*;clear hcc kt;have HQ:Hid (∀(v:Value) (w':World) (ss:List Int),RowNew numC 1 3 w' w.heap.size v (ss.mergeSort fun x y=>decide (x≤y))→ss.Nodup→(∀x,x∈ss↔(thm T tp x).isSome=true)→Fr No w w'→NumsPost w (numsOf (fun k=>(T k).isSome)) (.returned v) w'):=lH (fun v w' ss h1 h2 h3 f=>⟨v,rfl,by
  rw [← nums_sort HL.out h2 (fun x=>(h3 x).trans (HP.out x))];exact h1,f⟩)
 generalize NumsPost w (numsOf (fun k=>(T k).isSome))=Q at*;obtain ⟨w2,hr,R2,f2,hs2⟩:=hum.range (t:=130) (e:=142) Tryz.underlying130;have hult:mb<w.heap.size:=hum.lt;have HUM:=lH hum;generalize thm T tp=U at*;have RR2:=lH R2;have F2:=lH f2;obtain ⟨i0,hi,hz0,hz1,hz2⟩:=info_parts Tryz.info3;have HI:=lH hi;have HZ0:=lH hz0;have HZ1:=lH hz1;have HZ2:=lH hz2;have HS2:=lH hs2;clear hi hz0 hz1 hz2 ok hum R2 f2 hs2;go_enter Tryz.func32,Tryz.ntmps32;go_wp2_with fail;refine HMD.out.mono ?_;rintro e w1 ⟨rfl,hw⟩;have hw':=hw.symm;subst hw';go_wp2_with fail;go_loopw [3] (fun v wr=>∃(ss:List Int) (left:Int→Bool) (cnt:Nat),Hid (RangeAt encI wr mb w.heap.size cu U left cnt)∧Hid (∀s:Int,I64 s→(left s=true↔(U s).isSome=true∧s ∉ ss))∧Hid (wr.ownsRow (w.heap.size+1) 3 1 v ss.length (ss.flatMap numC))∧Hid ss.Nodup∧Hid (∀s∈ss,(U s).isSome=true)∧Hid (Fr No w wr)∧cnt+ss.length≤cu∧w.heap.size+1≤wr.heap.size) (fun _ wr=>wr.rangeLeft mb w.heap.size)
 case atStart=>
  refine ⟨[],_,_,RR2,lH (fun s _=> ?_),lH ⟨rfl,.inl ⟨rfl,rfl⟩⟩,lH List.nodup_nil,lH (by simp),F2,by simp,by have:=HS2.out;omega⟩;simp
 case round=>
  obtain ⟨ss,left,cnt,HRA,HLF,HOWN,HND,HIN,HFR,hcnt,hsz⟩:=hrel;obtain ⟨a,cc,rfl⟩:=HOWN.out.shape;rcases HRA.out.next 0 with ⟨_,hno,hnx⟩|⟨x,y,w4,cnt',hms,hls,hnx,hra',hlt',f4,hs4,hen⟩
  ·have hall:∀s,s∈ss↔(U s).isSome=true:=fun s=>⟨HIN.out s,fun h=>by
    obtain ⟨u0,hu0⟩:=Option.isSome_iff_exists.1 h;have hg:I64 s:=(HUM.out.good hu0).1;apply Classical.byContradiction;intro hn;have:=(HLF.out s hg).2 ⟨h,hn⟩;rw [hno s hg] at this;cases this⟩
   have HALL:=lH hall;clear hall hno;go_wp2_with fail;refine (sortI_ ss (w.heap.size+1) _ wr HOWN.out (by omega)).mono ?_;rintro e w6 ⟨rfl,f6,hes⟩;have hfin:Fr No w w6:=((HFR.out.of_no (S:=fun k=>w.heap.size+1≤k)).trans f6 (fun j _ h=>h)).no (fun j hj h=>by omega);have hrow:RowNew numC 1 3 w6 w.heap.size (.slice a ss.length cc) (ss.mergeSort fun x y=>decide (x≤y)):=by
    rcases hes with h|⟨b,c,e,h1,h2,h3⟩
    ·exact .inl h
    ·exact .inr ⟨b,c,e,h1,by omega,h3⟩
   have H1:=lH hfin;have H2:=lH hrow;clear f6 hes hfin hrow;go_wp2_with fail;exact HQ.out _ _ _ H2.out HND.out HALL.out H1.out
  ·have hgx:I64 x:=(HRA.out.map.good hms).1;obtain ⟨_,hnin⟩:=(HLF.out x hgx).1 hls;have hux:(U x).isSome=true:=(by rw [hms];rfl)
   have F4:Hid (Fr No w w4):=lH (HFR.out.trans f4 (fun j hj e=>by omega));have O4:Hid (w4.ownsRow (w.heap.size+1) 3 1 (.slice a ss.length cc) ss.length (ss.flatMap numC)):=lH (ownR_fr HOWN.out f4 (fun j hj e=>by have:=ownR_base HOWN.out j hj;omega));have R4:=lH hra';have hnx':(Instr.next (.pointer (some ⟨w.heap.size,0,none⟩)) false 0).run Tryz.prog wr=.ok (.tuple #[.bool true,.int .i64 x,.pointer (some ⟨y,0,none⟩)]) w4:=hnx;have hen':(Instr.entry (.pointer (some ⟨w.heap.size,0,none⟩))).run Tryz.prog w4=.ok (.tuple #[.int .i64 x,.pointer (some ⟨y,0,none⟩)]) w4:=hen;have HLE:Hid (wr.rangeLeft mb w.heap.size=cnt):=lH HRA.out.left_eq;have HLT:=lH hlt';have HN:Hid (∀s:Int,I64 s→((left s&&decide (s≠x))=true↔(U s).isSome=true∧s ∉ ss++ [x])):=lH (fun s hs=>by
    rw [Bool.and_eq_true,decide_eq_true_eq,HLF.out s hs,List.mem_append,List.mem_singleton];constructor
    ·rintro ⟨⟨h1,h2⟩,h3⟩;exact ⟨h1,fun h=>h.elim h2 h3⟩
    ·rintro ⟨h1,h2⟩;exact ⟨⟨h1,fun h=>h2 (.inl h)⟩,fun h=>h2 (.inr h)⟩)
   have HND2:Hid (ss++ [x]).Nodup:=lH (by
    rw [List.nodup_append];exact ⟨HND.out,by simp,fun a ha b hb e=>by
     rw [List.mem_singleton] at hb;subst hb;subst e;exact hnin ha⟩)
   have HIN2:Hid (∀s∈ss++ [x],(U s).isSome=true):=lH (fun s hs=>by
    rcases List.mem_append.1 hs with h|h
    ·exact HIN.out s h
    ·rw [List.mem_singleton] at h;rw [h];exact hux)
   have hs4':w4.heap.size=wr.heap.size:=hs4;have SZ:=lH hs4';clear hnx hen hra' f4 hs4 hms hls hlt' hnin hux hs4' hgx;go_wp2_with (at_builtin;(refine wpList_append_lies _ (by rfl) _ _ 70 (by rfl) (w.heap.size+1) 3 i0 _ 1 8 Tryz.underlying70 HI.out HZ0.out HZ1.out HZ2.out rfl (by decide) (.slice a ss.length cc) ss.length (ss.flatMap numC) (by rfl) (O4.out.alloc _) ⟨w4.heap.size,0,none⟩ 1 1 [.int .i64 x] (by rfl) (by rfl) ?d1 (by simp [Value.oneCell']) (by decide) (by unfold maxLen;omega) (by omega) ?d5 (w4.heap.size+1) ?d6 ?_))
   case d1=>exact World.news_of_block (cs:= #[.int .i64 x]) (t:=3) (fr:=(0,0)) (heap_alloc_new w4 _)
   case d5=>rw [heap_size_alloc];have:=SZ.out;omega
   case d6=>simp
   intro gg cap wD hownD hgrow hat hgl;have HNL:Hid (Fr No w wD):=lH ((F4.out.alloc _).grown hgrow (fun j hj=> .inr (by have:=ownR_base O4.out j hj;omega)));have HG4:Fr (fun k=>w.heap.size+1≤k) w4 wD:=((Fr.refl (S:=fun k=>w.heap.size+1≤k) w4).alloc _).grown hgrow (fun j hj=> .inl (ownR_base O4.out j hj));have RD:=lH (R4.out.fr HG4 (by omega) (by omega));have HOD:=lH hownD;have hsD:w.heap.size+1≤wD.heap.size:=Nat.le_trans (by have:=SZ.out;omega) HG4.size;clear hownD hgrow hat hgl HG4;go_wp2_with fail;go_roundw
   case rel=>
    refine ⟨ss++ [x],_,cnt',RD,HN,lH ?_,HND2,HIN2,HNL,by rw [List.length_append,List.length_singleton];have:=HLT.out;omega,hsD⟩;have h9:=HOD.out;rw [List.flatMap_append,List.length_append];simp only [List.flatMap_cons,List.flatMap_nil,List.append_nil,List.length_singleton];exact h9
   case measure=>
    rw [RD.out.left_eq,HLE.out];exact HLT.out
theorem ginos_ (o:Nat→Nat) (K n:Nat) (L:Plc) (S:St) (w:World) (h:StateAt w o K L S n) (ok:StOk S) (hn:n≤1000000):Calls Tryz.prog 79 #[.pointer (some ⟨L.s,0,none⟩)] w (NumsPost w (numsOf fun k=>(S.F k).isSome)):=by
 have c11:w.cell? ⟨L.s,11,none⟩=some (.map (some L.fl)):=h.cell 11;obtain ⟨_,fp,cu,hcu0,hum,_⟩:=h.files;have HP:Hid (∀x:Int,(filem S.F fp x).isSome=true↔∃k:Nat,x=k∧(S.F k).isSome=true):=lH (fun x=>by
  unfold filem;constructor
  ·intro h;split at h
   ·exact ⟨x.toNat,by omega,by simpa using h⟩
   ·cases h
  ·rintro ⟨k,rfl,hk⟩;rw [if_pos (by omega),Int.toNat_natCast];simpa using hk)
 have HL:Hid (∀k,(S.F k).isSome=true→k<129):=lH (fun k hk=>by
  obtain ⟨x,hx⟩:=Option.isSome_iff_exists.1 hk;have:=ok.file k x hx;omega)
 have hcu:cu≤1000000:=Nat.le_trans hcu0 hn;clear hcu0 hn;generalize hmb:L.fl=mb at*;clear hmb;have HQ:Hid (∀(v:Value) (w':World) (ss:List Int),RowNew numC 1 3 w' w.heap.size v (ss.mergeSort fun x y=>decide (x≤y))→ss.Nodup→(∀x,x∈ss↔(filem S.F fp x).isSome=true)→Fr No w w'→NumsPost w (numsOf (fun k=>(S.F k).isSome)) (.returned v) w'):=lH (fun v w' ss h1 h2 h3 f=>⟨v,rfl,by
  rw [← nums_sort HL.out h2 (fun x=>(h3 x).trans (HP.out x))];exact h1,f⟩)
 generalize NumsPost w (numsOf (fun k=>(S.F k).isSome))=Q at*;obtain ⟨w2,hr,R2,f2,hs2⟩:=hum.range (t:=100) (e:=63) Tryz.underlying100;have hult:mb<w.heap.size:=hum.lt;have HUM:=lH hum;generalize filem S.F fp=U at*;have RR2:=lH R2;have F2:=lH f2;obtain ⟨i0,hi,hz0,hz1,hz2⟩:=info_parts Tryz.info3;have HI:=lH hi;have HZ0:=lH hz0;have HZ1:=lH hz1;have HZ2:=lH hz2;have HS2:=lH hs2;clear hi hz0 hz1 hz2 h ok hum R2 f2 hs2;go_enter Tryz.func79,Tryz.ntmps79;go_wp2_with fail;go_loopw [3] (fun v wr=>∃(ss:List Int) (left:Int→Bool) (cnt:Nat),Hid (RangeAt encI wr mb w.heap.size cu U left cnt)∧Hid (∀s:Int,I64 s→(left s=true↔(U s).isSome=true∧s ∉ ss))∧Hid (wr.ownsRow (w.heap.size+1) 3 1 v ss.length (ss.flatMap numC))∧Hid ss.Nodup∧Hid (∀s∈ss,(U s).isSome=true)∧Hid (Fr No w wr)∧cnt+ss.length≤cu∧w.heap.size+1≤wr.heap.size) (fun _ wr=>wr.rangeLeft mb w.heap.size)
 case atStart=>
  refine ⟨[],_,_,RR2,lH (fun s _=> ?_),lH ⟨rfl,.inl ⟨rfl,rfl⟩⟩,lH List.nodup_nil,lH (by simp),F2,by simp,by have:=HS2.out;omega⟩;simp
 case round=>
  obtain ⟨ss,left,cnt,HRA,HLF,HOWN,HND,HIN,HFR,hcnt,hsz⟩:=hrel;obtain ⟨a,cc,rfl⟩:=HOWN.out.shape;rcases HRA.out.next 0 with ⟨_,hno,hnx⟩|⟨x,y,w4,cnt',hms,hls,hnx,hra',hlt',f4,hs4,hen⟩
  ·have hall:∀s,s∈ss↔(U s).isSome=true:=fun s=>⟨HIN.out s,fun h=>by
    obtain ⟨u0,hu0⟩:=Option.isSome_iff_exists.1 h;have hg:I64 s:=(HUM.out.good hu0).1;apply Classical.byContradiction;intro hn;have:=(HLF.out s hg).2 ⟨h,hn⟩;rw [hno s hg] at this;cases this⟩
   have HALL:=lH hall;clear hall hno;go_wp2_with fail;refine (sortI_ ss (w.heap.size+1) _ wr HOWN.out (by omega)).mono ?_;rintro e w6 ⟨rfl,f6,hes⟩;have hfin:Fr No w w6:=((HFR.out.of_no (S:=fun k=>w.heap.size+1≤k)).trans f6 (fun j _ h=>h)).no (fun j hj h=>by omega);have hrow:RowNew numC 1 3 w6 w.heap.size (.slice a ss.length cc) (ss.mergeSort fun x y=>decide (x≤y)):=by
    rcases hes with h|⟨b,c,e,h1,h2,h3⟩
    ·exact .inl h
    ·exact .inr ⟨b,c,e,h1,by omega,h3⟩
   have H1:=lH hfin;have H2:=lH hrow;clear f6 hes hfin hrow;go_wp2_with fail;exact HQ.out _ _ _ H2.out HND.out HALL.out H1.out
  ·have hgx:I64 x:=(HRA.out.map.good hms).1;obtain ⟨_,hnin⟩:=(HLF.out x hgx).1 hls;have hux:(U x).isSome=true:=(by rw [hms];rfl)
   have F4:Hid (Fr No w w4):=lH (HFR.out.trans f4 (fun j hj e=>by omega));have O4:Hid (w4.ownsRow (w.heap.size+1) 3 1 (.slice a ss.length cc) ss.length (ss.flatMap numC)):=lH (ownR_fr HOWN.out f4 (fun j hj e=>by have:=ownR_base HOWN.out j hj;omega));have R4:=lH hra';have hnx':(Instr.next (.pointer (some ⟨w.heap.size,0,none⟩)) false 0).run Tryz.prog wr=.ok (.tuple #[.bool true,.int .i64 x,.pointer (some ⟨y,0,none⟩)]) w4:=hnx;have hen':(Instr.entry (.pointer (some ⟨w.heap.size,0,none⟩))).run Tryz.prog w4=.ok (.tuple #[.int .i64 x,.pointer (some ⟨y,0,none⟩)]) w4:=hen;have HLE:Hid (wr.rangeLeft mb w.heap.size=cnt):=lH HRA.out.left_eq;have HLT:=lH hlt';have HN:Hid (∀s:Int,I64 s→((left s&&decide (s≠x))=true↔(U s).isSome=true∧s ∉ ss++ [x])):=lH (fun s hs=>by
    rw [Bool.and_eq_true,decide_eq_true_eq,HLF.out s hs,List.mem_append,List.mem_singleton];constructor
    ·rintro ⟨⟨h1,h2⟩,h3⟩;exact ⟨h1,fun h=>h.elim h2 h3⟩
    ·rintro ⟨h1,h2⟩;exact ⟨⟨h1,fun h=>h2 (.inl h)⟩,fun h=>h2 (.inr h)⟩)
   have HND2:Hid (ss++ [x]).Nodup:=lH (by
    rw [List.nodup_append];exact ⟨HND.out,by simp,fun a ha b hb e=>by
     rw [List.mem_singleton] at hb;subst hb;subst e;exact hnin ha⟩)
   have HIN2:Hid (∀s∈ss++ [x],(U s).isSome=true):=lH (fun s hs=>by
    rcases List.mem_append.1 hs with h|h
    ·exact HIN.out s h
    ·rw [List.mem_singleton] at h;rw [h];exact hux)
   have hs4':w4.heap.size=wr.heap.size:=hs4;have SZ:=lH hs4';clear hnx hen hra' f4 hs4 hms hls hlt' hnin hux hs4' hgx;go_wp2_with (at_builtin;(refine wpList_append_lies _ (by rfl) _ _ 70 (by rfl) (w.heap.size+1) 3 i0 _ 1 8 Tryz.underlying70 HI.out HZ0.out HZ1.out HZ2.out rfl (by decide) (.slice a ss.length cc) ss.length (ss.flatMap numC) (by rfl) (O4.out.alloc _) ⟨w4.heap.size,0,none⟩ 1 1 [.int .i64 x] (by rfl) (by rfl) ?d1 (by simp [Value.oneCell']) (by decide) (by unfold maxLen;omega) (by omega) ?d5 (w4.heap.size+1) ?d6 ?_))
   case d1=>exact World.news_of_block (cs:= #[.int .i64 x]) (t:=3) (fr:=(0,0)) (heap_alloc_new w4 _)
   case d5=>rw [heap_size_alloc];have:=SZ.out;omega
   case d6=>simp
   intro gg cap wD hownD hgrow hat hgl;have HNL:Hid (Fr No w wD):=lH ((F4.out.alloc _).grown hgrow (fun j hj=> .inr (by have:=ownR_base O4.out j hj;omega)));have HG4:Fr (fun k=>w.heap.size+1≤k) w4 wD:=((Fr.refl (S:=fun k=>w.heap.size+1≤k) w4).alloc _).grown hgrow (fun j hj=> .inl (ownR_base O4.out j hj));have RD:=lH (R4.out.fr HG4 (by omega) (by omega));have HOD:=lH hownD;have hsD:w.heap.size+1≤wD.heap.size:=Nat.le_trans (by have:=SZ.out;omega) HG4.size;clear hownD hgrow hat hgl HG4;go_wp2_with fail;go_roundw
   case rel=>
    refine ⟨ss++ [x],_,cnt',RD,HN,lH ?_,HND2,HIN2,HNL,by rw [List.length_append,List.length_singleton];have:=HLT.out;omega,hsD⟩;have h9:=HOD.out;rw [List.flatMap_append,List.length_append];simp only [List.flatMap_cons,List.flatMap_nil,List.append_nil,List.length_singleton];exact h9
   case measure=>
    rw [RD.out.left_eq,HLE.out];exact HLT.out
end Go.Proofs.YtlcojhddnpmgmaaGreat
namespace Go.Proofs.YtlcojhddnpmgmaaGreat
open Go.RowKit
section
variable {K V:Type} [DecidableEq K] {E:Enc K V} {t e:TypeId}
theorem MapAt.has_one {w:World} {b c:Nat} {m:K→Option V} (h:MapAt E w b c m) (ht:Tryz.prog.underlying t=some (.map E.k e)):(c=0∧∀x,m x=none)∨(0<c∧∃x y,m x=some y):=by
 obtain ⟨w',_,hr,_⟩:=h.range ht;rcases hr.next 0 with ⟨h0,hno,_⟩|⟨x,y,_,cnt',hm,_,_,_,hlt,_⟩
 ·refine .inl ⟨h0,fun x=> ?_⟩;cases hm:m x with
  | none=>rfl
  | some y=>
   have:=hno x (h.good hm).1;rw [hm] at this;cases this
 ·exact .inr ⟨by omega,x,y,hm⟩
def gone (left:K→Bool) (m:K→Option V):K→Option V:=fun z=>if left z=true then none else m z
omit [DecidableEq K] in
omit [DecidableEq K] in
end
theorem Step.painted {w w1:World} {o o1:Nat→Nat} {b c:Nat} (s:Step (fun _=>False) w o w1 o1) (hb:w.heap.size≤b) (hlt:b<w1.heap.size):Step (fun _=>False) w o w1 (paint o1 b c):=
 ⟨s.fr,fun k hk=>by rw [paint_other o1 _ (by omega)];exact s.old k hk,fun k hk=>by rw [paint_other o1 _ (by omega)];exact s.fresh k hk⟩
theorem RowNew.at {α:Type} {c:α→List Value} {n:Nat} {t:TypeId} {w:World} {base:Nat} {a:Option Addr} {len cap:Nat} {L:List α} (h:RowNew c n t w base (.slice a len cap) L) (h0:0<L.length):∃b,a=some ⟨b,0,none⟩∧cap≤maxLen∧base≤b∧RowB c n t w b cap L:=by
 rcases h with ⟨_,rfl⟩|⟨b,cap',e,hm,hb,hr⟩
 ·exact absurd h0 (by simp)
 ·cases e;exact ⟨b,rfl,hm,hb,hr⟩
theorem TokV.no {w w':World} {v:Value} {L:List Tok} (h:TokV w v L) (f:Fr No w w'):TokV w' v L:=by
 rcases h with h|⟨b,cap,e,hm,hr⟩
 ·exact .inl h
 ·exact .inr ⟨b,cap,e,hm,hr.fr f id⟩
theorem SlAt.slice {w:World} {v:Value} {bs:List UInt8} (h:SlAt w v bs):∃a c,v=.slice a bs.length c:=by
 rcases h with ⟨rfl,a,c,rfl⟩|⟨b,off,c,rfl,_⟩
 ·exact ⟨a,c,rfl⟩
 ·exact ⟨_,c,rfl⟩
theorem SlAt.at {w:World} {a:Option Addr} {c:Nat} {bs:List UInt8} (h:SlAt w (.slice a bs.length c) bs) {j:Nat} (hj:j<bs.length):∃b off,a=some ⟨b,off,none⟩∧w.cell? ⟨b,off+j,none⟩=some (.int .u8 bs[j].toNat):=by
 rcases h with ⟨rfl,_⟩|⟨b,off,c',e,_,_,hc⟩
 ·exact absurd hj (Nat.not_lt_zero _)
 ·cases e;exact ⟨b,off,rfl,hc j _ (List.getElem?_eq_getElem hj)⟩
theorem SlIs.slAt {w:World} {v:Value} {bs:List UInt8} {b off c:Nat} (h:SlIs w v bs b off c):SlAt w v bs:=.inr ⟨b,off,c,h.1,h.2.1,h.2.2.1,h.2.2.2⟩
theorem gsame_ (v1 v2:Value) (x y:List UInt8) (w:World) (h1:SlAt w v1 x) (h2:SlAt w v2 y) (hbig:x.length≤1000000):Calls Tryz.prog 28 #[v1,v2] w (BoolPost w (x=y)):=by
 have mixed:Tryz.prog.follows .mixedOrders=true:=by kernel_rfl
 obtain ⟨a1,c1,rfl⟩:=h1.slice;obtain ⟨a2,c2,rfl⟩:=h2.slice;have HQ:Hid (∀b w',(b=true↔x=y)→Fr No w w'→BoolPost w (x=y) (.returned (.bool b)) w'):=lH (fun b w' hb f=>BoolPost.mk b _ _ hb rfl f);generalize BoolPost w (x=y)=Q at*;have H1:=lH h1;have H2:=lH h2;clear h1 h2;by_cases hl:x.length=y.length
 ·have q0:((x.length:Int) !=(y.length:Int))=false:=by rw [hl];simp
  have HL:=lH hl;clear hl;go_enter Tryz.func28,Tryz.ntmps28;go_wp2_with fail;go_loopw [5] (fun a wr=>∃j:Nat,a=.int .i64 j∧j≤x.length∧Hid (x.take j=y.take j)∧Hid (Fr No w wr)) (fun a _=>x.length - (intOf a).toNat)
  case atStart=>exact ⟨0,rfl,Nat.zero_le _,lH rfl,lH (Fr.refl _)⟩
  case round=>
   obtain ⟨j,rfl,hj,HT,HF⟩:=hrel;by_cases hlt:j<x.length
   ·have hlt2:j<y.length:=by rw [← HL.out];exact hlt
    obtain ⟨b1,o1,rfl,k1⟩:=(H1.out.no HF.out).at hlt;obtain ⟨b2,o2,rfl,k2⟩:=(H2.out.no HF.out).at (j:=j) hlt2;have q1:(j:Int)<(x.length:Int):=(by omega)
    have q2:(j:Int)<(y.length:Int):=(by omega)
    have q3:(0:Int)≤(j:Int):=(by omega)
    have HN:Hid (x[j].toNat=y[j].toNat→x.take (j+1)=y.take (j+1)):=lH (fun e=>by
     rw [List.take_succ_eq_append_getElem hlt,List.take_succ_eq_append_getElem hlt2,HT.out,UInt8.toNat_inj.1 e])
    have HX:Hid (x=y→x[j].toNat=y[j].toNat):=lH (fun e=>by subst e;rfl);generalize x[j].toNat=u at*;generalize y[j].toNat=v at*;by_cases e:u=v
    ·have HN':=lH (HN.out e);subst e;go_wp2_with fail
     go_region
     all_goals
      go_wp2_with fail;go_roundw
      case rel=>exact ⟨j+1,by go_num,hlt,HN',lH (HF.out.drew)⟩
      case measure=>simp [intOf];omega
    ·have q4:((u:Int) !=(v:Int))=true:=by simp only [bne_iff_ne,ne_eq];omega
     have HE:Hid (¬x=y):=lH (fun h=>e (HX.out h));go_wp2_with fail
     go_region
     all_goals
      go_wp2_with fail;exact HQ.out false _ (by simp [HE.out]) HF.out.drew
   ·obtain rfl:j=x.length:=by omega
    have q1:¬(x.length:Int)<(x.length:Int):=(by omega)
    have HE:Hid (x=y):=lH (by
     have h:=HT.out;rw [List.take_length,HL.out,List.take_length] at h;exact h)
    go_wp2_with fail;exact HQ.out true _ (by simp [HE.out]) HF.out
 ·have q0:((x.length:Int) !=(y.length:Int))=true:=by simp only [bne_iff_ne,ne_eq];omega
  have HE:Hid (¬x=y):=lH (fun h=>hl (by rw [h]));go_enter Tryz.func28,Tryz.ntmps28;go_wp2_with fail;exact HQ.out false _ (by simp [HE.out]) (Fr.refl _)
def penThing (T:Tree) (s:PenS) (k:Nat):PenS:=if k=1 then s else match T k with
 | none=>s
 | some x=>penPut (penRaw (penNum (penNum s k 2) x.up 2) (ba x.name).data.toList) [if x.dir then 1 else 0]
def inosT (T:Tree):List Nat:=numsOf fun k=>(T k).isSome
def penTree (s:PenS) (T:Tree):PenS:=(inosT T).foldl (penThing T) (penNum s ((things T:Int) - 1) 2)
theorem ThingAt.cells {w:World} {o:Nat→Nat} {K k p n:Nat} {x:Node} {m:ByteArray→Option Int} (h:ThingAt w o K k p x n m):∃v,w.heap[p]? =some (.cells #[.int .i64 x.up,.string (ba x.name),.bool x.dir,v] 141 (0,0)):=by
 obtain ⟨up,name,dir⟩:=x;have:=h.2;cases dir with
 | false=>exact ⟨_,this⟩
 | true=>
  obtain ⟨ib,_,e,_⟩:=this;exact ⟨_,e⟩
theorem numC_at {w:World} {b cap:Nat} {L:List Nat} (h:RowB numC 1 3 w b cap (L.map fun k:Nat=>(k:Int))) {j:Nat} (hj:j<L.length):w.cell? ⟨b,j,none⟩=some (.int .i64 ((L[j]:Nat):Int)):=by
 have:=h.row j ((L[j]:Nat):Int) (by rw [List.getElem?_map,List.getElem?_eq_getElem hj];rfl) 0 _ rfl;simpa using this
theorem gtwrite_ (o:Nat→Nat) (K t p base:Nat) (T:Tree) (s:PenS) (w:World) (hT:∀w',Fr (Pf w p base) w w'→TreeAt w' o K t T) (ok:TreeOk T) (h:Pg w p base s):
  Calls Tryz.prog 70 #[.pointer (some ⟨t,0,none⟩),.pointer (some ⟨p,0,none⟩)] w (PenPost w p base (penTree s T)):=by
 have HR:Hid (∀e w',e=.returned (.tuple #[])→Pg w' p base (penTree s T)→Fr (Pf w p base) w w'→PenPost w p base (penTree s T) e w'):=lH (fun e w' a b c=>⟨a,b,c⟩);have hp:Hid (penTree s T=(inosT T).foldl (penThing T) (penNum s ((things T:Int) - 1) 2)):=lH rfl;have h0:=hT w (Fr.refl _);have hth:1≤things T∧things T≤129:=by
  unfold things;refine ⟨?_,Nat.le_trans List.countP_le_length (by simp)⟩;exact List.countP_pos_iff.2 ⟨1,by simp,by rw [ok.root];rfl⟩
 generalize hQ:PenPost w p base (penTree s T)=Q at*;generalize penTree s T=Z at*;clear hQ;have HT:=lH hT;have OK:=lH ok;have HMD:=lH (gtmade_ w o K t T h0);obtain ⟨mb,tp,_,kt,_,hum,_⟩:=h0;have c0:w.cell? ⟨t,0,none⟩=some (.map (some mb)):=by rw [cell_at kt];rfl
 have hlen:=fun ty=>hum.len (t:=130) (e:=142) Tryz.underlying130 ty;have HN:=lH (num_ p base 2 s ((things T:Int) - 1) (by decide) (by decide) w h);have hwr:IntKind.i64.wrap ((things T:Int) - 1)=(things T:Int) - 1:=by rw [IntKind.wrap_i64];omega
 generalize hcc:things T=cu at*;have HG:=lH h;clear hT ok hum kt hcc h;go_enter Tryz.func70,Tryz.ntmps70;go_wp2_with fail;refine HMD.out.mono ?_;rintro e w1 ⟨rfl,hw⟩;subst hw;go_wp2_with fail;refine HN.out.mono ?_;rintro e w2 ⟨rfl,g2,f2⟩;have F2:=lH f2;have G2:=lH g2;have HIN:=lH (gtinos_ o K t T w2 (HT.out w2 f2) OK.out);clear f2 g2 c0 hlen;go_wp2_with fail;refine HIN.out.mono ?_;rintro e w3 ⟨v,rfl,hrow,f3⟩;change RowNew numC 1 3 w3 w2.heap.size v ((inosT T).map fun k:Nat=>(k:Int)) at hrow;obtain ⟨a,cap,hv⟩:=hrow.shape;rw [List.length_map] at hv;subst hv;have HROW:=lH hrow;have G3:=lH (G2.out.no f3);have F3:=lH (pf_trans F2.out f3.of_no);change Hid (RowNew numC 1 3 w3 w2.heap.size (.slice a (inosT T).length cap) ((inosT T).map fun k:Nat=>(k:Int))) at HROW;have HIS:Hid (∀k∈inosT T,∃x,T k=some x∧k≤128):=lH (fun k hk=>by
  have h1:=(List.mem_filter.1 hk).2;obtain ⟨x,hx⟩:=Option.isSome_iff_exists.1 h1;exact ⟨x,hx,(OK.out.lt hx).2⟩)
 generalize inosT T=L at*;clear hrow f3 HIN HN;go_wp2_with fail;go_loopw [21] (fun u wr=>∃j:Nat,u=.int .i64 j∧j≤L.length∧Hid (Pg wr p base ((L.take j).foldl (penThing T) (penNum s ((cu:Int) - 1) 2)))∧Hid (Fr (Pf w3 p base) w3 wr)) (fun u _=>L.length - (intOf u).toNat)
 case atStart=>exact ⟨0,rfl,Nat.zero_le _,lH (by rw [List.take_zero,List.foldl_nil];exact G3.out),lH (Fr.refl _)⟩
 case round=>
  obtain ⟨j,rfl,hj,HGR,HFR⟩:=hrel;by_cases hlt:j<L.length
  ·obtain ⟨b,rfl,hm,_,hr⟩:=HROW.out.at (by rw [List.length_map];omega);have hr2:=hr.pf G3.out HFR.out (by decide) (by decide);have k1:=numC_at hr2 hlt;have hl2:=hr.len;rw [List.length_map] at hl2;have hml:cap≤9223372036854775807:=hm;have q1:(j:Int)<(L.length:Int):=(by omega)
   have q2:(j:Int)<(cap:Int):=(by omega)
   have q3:(0:Int)≤(j:Int):=(by omega)
   have HTK:Hid (L.take (j+1)=L.take j++ [L[j]]):=lH (by rw [List.take_add_one,List.getElem?_eq_getElem hlt];rfl);obtain ⟨x,hx,hk128⟩:=HIS.out L[j] (List.getElem_mem hlt);generalize L[j]=k at*;have HX:=lH hx;obtain ⟨mb2,tp2,_,kt2,_,hum2,hth2⟩:=HT.out wr (pf_trans F3.out HFR.out);have c0:wr.cell? ⟨t,0,none⟩=some (.map (some mb2)):=(by rw [cell_at kt2];rfl)
   have hlk:=hum2.look (k:Int) (show I64 _ by unfold I64;omega) (t:=130) (e:=142) Tryz.underlying130 (z:=.pointer none) (by kernel_rfl) false;rw [show thm T tp2 (k:Int)=some (tp2 k) by simp [thm,hx]] at hlk;have hlk':(Instr.lookup 130 (.map (some mb2)) (.int .i64 k) false).run Tryz.prog wr=.ok (.pointer (some ⟨tp2 k,0,none⟩)) wr:=hlk;obtain ⟨vin,kx⟩:=(hth2 k x hx).cells;have KX:=lH kx;have HNM:Hid (k≠1→(ba x.name).size≤1000000):=lH (fun h1=>by
    rw [ba_size];have:=(okName_no x.name (OK.out.name k x hx h1)).2.2;omega)
   clear hr hr2 hm kt2 hum2 hth2 hlk kx hx;by_cases h1:k=1
   ·subst h1;have HG3:Hid (Pg wr p base ((L.take (j+1)).foldl (penThing T) (penNum s ((cu:Int) - 1) 2))):=lH (by
     rw [HTK.out,List.foldl_append];exact HGR.out)
    go_wp2_with fail;go_roundw
    case rel=>exact ⟨j+1,by go_num,hlt,HG3,HFR⟩
    case measure=>simp [intOf];omega
   ·have q4:((k:Int)==1)=false:=by rw [beq_eq_false_iff_ne];omega
    have HST:Hid (∀s,penThing T s k=penPut (penRaw (penNum (penNum s k 2) x.up 2) (ba x.name).data.toList) [if x.dir then 1 else 0]):=lH (fun s=>by
     unfold penThing;rw [if_neg h1,HX.out])
    have HNM':=lH (HNM.out h1);obtain ⟨up,nm,dir⟩:=x;dsimp only at KX HST HNM';have HE:Hid (∀w',Pg w' p base (penThing T ((L.take j).foldl (penThing T) (penNum s ((cu:Int) - 1) 2)) k)→Pg w' p base ((L.take (j+1)).foldl (penThing T) (penNum s ((cu:Int) - 1) 2))):=lH (fun w' g=>by rw [HTK.out,List.foldl_append];exact g);generalize (L.take j).foldl (penThing T) (penNum s ((cu:Int) - 1) 2)=s0 at*;go_wp2_with fail;refine (num_ p base 2 s0 k (by decide) (by decide) _ HGR.out).mono ?_;rintro e w4 ⟨rfl,g4,f4⟩;have k4:=pf_keeps HGR.out f4 KX.out (by decide) (by decide);have p0:w4.cell? ⟨tp2 k,0,none⟩=some (.int .i64 up):=(by rw [cell_at k4];rfl)
    have G4:=lH g4;have F4:=lH (pf_trans HFR.out f4);have K4:=lH k4;clear g4 f4 k4 k1 c0 hlk';go_wp2_with fail;refine (num_ p base 2 _ up (by decide) (by decide) _ G4.out).mono ?_;rintro e w5 ⟨rfl,g5,f5⟩;have k5:=pf_keeps G4.out f5 K4.out (by decide) (by decide);have p1:w5.cell? ⟨tp2 k,1,none⟩=some (.string (ba nm)):=(by rw [cell_at k5];rfl)
    have G5:=lH g5;have F5:=lH (pf_trans F4.out f5);have K5:=lH k5;clear g5 f5 k5 p0;go_wp2_with fail;refine (text_ p base _ (ba nm) HNM'.out _ G5.out).mono ?_;rintro e w6 ⟨rfl,g6,f6⟩;have k6:=pf_keeps G5.out f6 K5.out (by decide) (by decide);have p2:w6.cell? ⟨tp2 k,2,none⟩=some (.bool dir):=(by rw [cell_at k6];rfl)
    have G6:=lH g6;have F6:=lH (pf_trans F5.out f6);clear g6 f6 k6 p1;go_wp2_with fail;refine (pbool_ p base _ dir _ G6.out).mono ?_;rintro e w7 ⟨rfl,g7,f7⟩;have HG7:=lH (HE.out w7 (by rw [HST.out];exact g7));have HF7:=lH (pf_trans F6.out f7);clear g7 f7 p2;go_wp2_with fail;go_roundw
    case rel=>exact ⟨j+1,by go_num,hlt,HG7,HF7⟩
    case measure=>simp [intOf];omega
  ·obtain rfl:j=L.length:=by omega
   have q1:¬(L.length:Int)<(L.length:Int):=(by omega)
   have HZ:Hid (Pg wr p base Z):=lH (by rw [hp.out];have:=HGR.out;rwa [List.take_length] at this);go_wp2_with fail;exact bodyPost_end (v:=.tuple #[]) (by simp [results,Tryz.results70,go_sem]) rfl (HR.out _ _ rfl HZ.out (pf_trans F3.out HFR.out))
def penTok (s:PenS) (x:Tok):PenS:=penPut (penNum (penNum (penNum s x.c 1) x.h 1) x.i 2) [if x.wr then 1 else 0]
def penToks (s:PenS) (L:List Tok):PenS:=L.foldl penTok (penNum s L.length 1)
theorem TokV.pf {w w':World} {p base:Nat} {s:PenS} {v:Value} {L:List Tok} (h:TokV w v L) (g:Pg w p base s) (f:Fr (Pf w p base) w w'):TokV w' v L:=by
 rcases h with h|⟨b,cap,e,hm,hr⟩
 ·exact .inl h
 ·exact .inr ⟨b,cap,e,hm,hr.pf g f (by decide) (by decide)⟩
theorem tkwrite_ (k p base:Nat) (L:List Tok) (v:Value) (s:PenS) (w:World) (hk:w.heap[k]? =some (.cells #[.bool true,v] 155 (0,0))) (hv:TokV w v L) (h:Pg w p base s):
  Calls Tryz.prog 78 #[.pointer (some ⟨k,0,none⟩),.pointer (some ⟨p,0,none⟩)] w (PenPost w p base (penToks s L)):=by
 have HR:Hid (∀e w',e=.returned (.tuple #[])→Pg w' p base (penToks s L)→Fr (Pf w p base) w w'→PenPost w p base (penToks s L) e w'):=lH (fun e w' a b c=>⟨a,b,c⟩);have hp:Hid (penToks s L=L.foldl penTok (penNum s L.length 1)):=lH rfl;generalize hQ:PenPost w p base (penToks s L)=Q at*;generalize penToks s L=Z at*;clear hQ;obtain ⟨vb,vc,rfl⟩:∃vb vc,v=.slice vb L.length vc:=by
  rcases hv with ⟨rfl,rfl⟩|⟨b,cap,e,_⟩
  ·exact ⟨none,0,rfl⟩
  ·exact ⟨_,_,e⟩
 have c0:w.cell? ⟨k,0,none⟩=some (.bool true):=by rw [cell_at hk];rfl
 have c1:w.cell? ⟨k,1,none⟩=some (.slice vb L.length vc):=by rw [cell_at hk];rfl
 have HN:=lH (num_ p base 1 s L.length (by decide) (by decide) w h);have HG:=lH h;have HK:=lH hk;have HV:=lH hv;clear hk hv h;go_enter Tryz.func78,Tryz.ntmps78;go_wp2_with fail;refine HN.out.mono ?_;rintro e w1 ⟨rfl,g1,f1⟩;have k1:=pf_keeps HG.out f1 HK.out (by decide) (by decide);have c2:w1.cell? ⟨k,1,none⟩=some (.slice vb L.length vc):=by rw [cell_at k1];rfl
 have G1:=lH g1;have F1:=lH f1;have HV1:=lH (HV.out.pf HG.out f1);clear g1 f1 k1 c0 c1 HN;go_wp2_with fail;go_loopw [27] (fun a wr=>∃j:Nat,a=.int .i64 j∧j≤L.length∧Hid (Pg wr p base ((L.take j).foldl penTok (penNum s L.length 1)))∧Hid (Fr (Pf w1 p base) w1 wr)) (fun a _=>L.length - (intOf a).toNat)
 case atStart=>exact ⟨0,rfl,Nat.zero_le _,lH (by rw [List.take_zero,List.foldl_nil];exact G1.out),lH (Fr.refl _)⟩
 case round=>
  obtain ⟨j,rfl,hj,HGR,HFR⟩:=hrel;by_cases hlt:j<L.length
  ·rcases HV1.out with ⟨_,h0⟩|⟨b,cap,hv,hm,hr⟩
   ·rw [h0] at hlt;cases hlt
   cases hv;have hr2:=hr.pf G1.out HFR.out (by decide) (by decide);have HRR:=lH (hr2.row j L[j] (List.getElem?_eq_getElem hlt));have hlen:=hr.len;have hml:vc≤9223372036854775807:=hm;have q1:(j:Int)<(L.length:Int):=(by omega)
   have q2:(j:Int)<(vc:Int):=(by omega)
   have q3:(0:Int)≤(j:Int):=(by omega)
   have HTK:Hid (L.take (j+1)=L.take j++ [L[j]]):=lH (by rw [List.take_add_one,List.getElem?_eq_getElem hlt];rfl);generalize L[j]=x at*;have HST:Hid (∀s,penTok s x=penPut (penNum (penNum (penNum s x.c 1) x.h 1) x.i 2) [if x.wr then 1 else 0]):=lH (fun _=>rfl);obtain ⟨xc,xh,xi,xw⟩:=x;unfold tokC at HRR;dsimp only at HRR HST;have HE:Hid (∀w',Pg w' p base (penTok ((L.take j).foldl penTok (penNum s L.length 1)) ⟨xc,xh,xi,xw⟩)→Pg w' p base ((L.take (j+1)).foldl penTok (penNum s L.length 1))):=lH (fun w' g=>by rw [HTK.out,List.foldl_append];exact g);generalize (L.take j).foldl penTok (penNum s L.length 1)=s0 at*;have fa:Fr No wr (wr.alloc (.cells #[.int .i64 xc,.int .i64 xh,.int .i64 xi,.bool xw] 53)):=(Fr.refl wr).alloc _;have ka:=new_at wr (.cells #[.int .i64 xc,.int .i64 xh,.int .i64 xi,.bool xw] 53);have GA:=lH (HGR.out.no fa);have FA:Hid (Fr (Pf w1 p base) w1 (wr.alloc (.cells #[.int .i64 xc,.int .i64 xh,.int .i64 xi,.bool xw] 53))):=lH (pf_trans HFR.out fa.of_no);have KA:=lH ka;clear hr hr2 hm fa ka;go_wp2_with (refine wpList_load_mid (by rfl) 53 _ (by rfl) b (j*4) (by rfl) [.int .i64 xc,.int .i64 xh,.int .i64 xi,.bool xw] _ HRR.out Tryz.underlying53 rfl Tryz.size53 ?_);refine (num_ p base 1 s0 xc (by decide) (by decide) _ GA.out).mono ?_;rintro e w4 ⟨rfl,g4,f4⟩;have k4:=pf_keeps GA.out f4 KA.out (by decide) (by decide);have p0:w4.cell? ⟨wr.heap.size,1,none⟩=some (.int .i64 xh):=(by rw [cell_at k4];rfl)
   have G4:=lH g4;have F4:=lH (pf_trans FA.out f4);have K4:=lH k4;clear g4 f4 k4;go_wp2_with fail;refine (num_ p base 1 _ xh (by decide) (by decide) _ G4.out).mono ?_;rintro e w5 ⟨rfl,g5,f5⟩;have k5:=pf_keeps G4.out f5 K4.out (by decide) (by decide);have p1:w5.cell? ⟨wr.heap.size,2,none⟩=some (.int .i64 xi):=(by rw [cell_at k5];rfl)
   have G5:=lH g5;have F5:=lH (pf_trans F4.out f5);have K5:=lH k5;clear g5 f5 k5 p0;go_wp2_with fail;refine (num_ p base 2 _ xi (by decide) (by decide) _ G5.out).mono ?_;rintro e w6 ⟨rfl,g6,f6⟩;have k6:=pf_keeps G5.out f6 K5.out (by decide) (by decide);have p2:w6.cell? ⟨wr.heap.size,3,none⟩=some (.bool xw):=(by rw [cell_at k6];rfl)
   have G6:=lH g6;have F6:=lH (pf_trans F5.out f6);clear g6 f6 k6 p1;go_wp2_with fail;refine (pbool_ p base _ xw _ G6.out).mono ?_;rintro e w7 ⟨rfl,g7,f7⟩;have HG7:=lH (HE.out w7 (by rw [HST.out];exact g7));have HF7:=lH (pf_trans F6.out f7);clear g7 f7 p2;go_wp2_with fail;go_roundw
   case rel=>exact ⟨j+1,by go_num,hlt,HG7,HF7⟩
   case measure=>simp [intOf];omega
  ·obtain rfl:j=L.length:=by omega
   have q1:¬(L.length:Int)<(L.length:Int):=(by omega)
   have HZ:Hid (Pg wr p base Z):=lH (by rw [hp.out];have:=HGR.out;rwa [List.take_length] at this);go_wp2_with fail;exact bodyPost_end (v:=.tuple #[]) (by simp [results,Tryz.results78,go_sem]) rfl (HR.out _ _ rfl HZ.out (pf_trans F1.out HFR.out))
def lastW (W:Nat→Option WRow) (c:Int):Option (Int×Int×Int×List UInt8):=(wrOf W 4).find? fun y=>y.1==c
def LastPost (w:World) (x:Option (Int×Int×Int×List UInt8)) (e:Ending) (w':World):Prop:=Fr No w w'∧match x with
 | none=>e=.returned (.tuple #[.slice none 0 0,.int .i64 0])
 | some y=>∃v,e=.returned (.tuple #[v,.int .i64 y.2.2.1])∧Sl5 w' w.heap.size v y.2.2.2
theorem lastW_of {W:Nat→Option WRow} {c:Int} {L:List Wr} (h:L.map wrP=wrOf W 4):lastW W c=(L.find? fun x=>x.c==c).map wrP:=by
 unfold lastW;rw [← h,List.find?_map];rfl
theorem Tryz.size119:(Tryz.prog.info? 119).map (·.size)=some 4:=by kernel_rfl
theorem glast_ (o:Nat→Nat) (K n:Nat) (L:Plc) (S:St) (c:Int) (w:World) (h:StateAt w o K L S n) (hf:Fresh w o) (hlen:∀i life seq bs,S.W i=some (life,seq,bs)→bs.length≤1000000):
  Calls Tryz.prog 24 #[.pointer (some ⟨L.s,0,none⟩),.int .i64 c] w (LastPost w (lastW S.W c)):=by
 have mixed:Tryz.prog.follows .mixedOrders=true:=by kernel_rfl
 have HMD:=lH (gmade_ o K n L S w h);have HW:=lH (wrows_ o (K+1) L.win S.W w h.win hf hlen);have c8:w.cell? ⟨L.s,8,none⟩=some (.pointer (some ⟨L.win,0,none⟩)):=h.cell 8;have HQ0:Hid (∀e w',lastW S.W c=none→e=.returned (.tuple #[.slice none 0 0,.int .i64 0])→Fr No w w'→LastPost w (lastW S.W c) e w'):=lH (fun e w' h1 h2 f=>⟨f,by rw [h1];exact h2⟩);have HQ1:Hid (∀y v e w',lastW S.W c=some y→e=.returned (.tuple #[v,.int .i64 y.2.2.1])→Sl5 w' w.heap.size v y.2.2.2→Fr No w w'→LastPost w (lastW S.W c) e w'):=lH (fun y v e w' h1 h2 h3 f=>⟨f,by rw [h1];exact ⟨v,h2,h3⟩⟩);generalize LastPost w (lastW S.W c)=Q at*;clear h hf hlen;go_enter Tryz.func24,Tryz.ntmps24;go_wp2_with fail;refine HMD.out.mono ?_;rintro e w1 ⟨rfl,hw1⟩;subst hw1;go_wp2_with fail;refine HW.out.mono ?_;rintro e w2 ⟨v,LL,rfl,hm,hrow,hrep,f2⟩;obtain ⟨base,cap,rfl⟩:=hrow.shape;have HM:Hid (lastW S.W c=(LL.find? fun x=>x.c==c).map wrP):=lH (lastW_of hm);have HRW:=lH hrow;have HRP:=lH hrep;have F2:=lH f2;clear hm hrow hrep f2;go_wp2_with fail;go_loopw [17] (fun a wr=>∃j:Nat,a=.int .i64 j∧j≤LL.length∧Hid (∀y∈LL.take j,(y.c==c)=false)∧Hid (Fr No w2 wr)) (fun a _=>LL.length - (intOf a).toNat)
 case atStart=>exact ⟨0,rfl,Nat.zero_le _,lH (by simp),lH (Fr.refl _)⟩
 case round=>
  obtain ⟨j,rfl,hj,HA,HF⟩:=hrel;by_cases hlt:j<LL.length
  ·rcases HRW.out with ⟨_,h0⟩|⟨b,cap',hv,hmx,hbb,hr⟩
   ·rw [h0] at hlt;cases hlt
   cases hv;have hrange:=(hr.fr HF.out id).row j LL[j] (List.getElem?_eq_getElem hlt);have HSL:=lH (HRP.out LL[j] (List.getElem_mem hlt));have HX:Hid (LL[j]? =some LL[j]):=lH (List.getElem?_eq_getElem hlt);have HTK:Hid (∀p:Wr→Bool,p LL[j]=false→(∀y∈LL.take j,p y=false)→∀y∈LL.take (j+1),p y=false):=lH (fun p h1 h2=>take_none (List.getElem?_eq_getElem hlt) h1 h2);have q1:(j:Int)<(LL.length:Int):=(by omega)
   have q2:(0:Int)≤(j:Int):=(by omega)
   have hlen:=hr.len;have q3:(j:Int)<(cap:Int):=(by omega)
   have hml:cap≤9223372036854775807:=hmx;generalize LL[j]=x at*;obtain ⟨xc,xl,xq,xv,xbs⟩:=x;obtain ⟨b1,c1,hs1,hb1,cs1,hk1⟩:=HSL.out;have hxv:xv=.slice (some ⟨b1,0,none⟩) xbs.length c1:=hs1.1;subst hxv;have HR1:Hid (wr.rangeAt b (j*4) [.int .i64 xc,.int .i64 xl,.int .i64 xq,.slice (some ⟨b1,0,none⟩) xbs.length c1]):=lH hrange;clear hrange hs1 hb1 hk1 hbb hr hmx;cases hx:(xc==c) with
   | true=>
    have HFD:Hid (LL.find? (fun x=>x.c==c)=some ⟨xc,xl,xq,.slice (some ⟨b1,0,none⟩) xbs.length c1,xbs⟩):=lH (find_at HX.out hx HA.out);go_wp2_with (refine wpList_load_mid (by rfl) 119 _ (by rfl) b (j*4) (by rfl) [.int .i64 xc,.int .i64 xl,.int .i64 xq,.slice (some ⟨b1,0,none⟩) xbs.length c1] _ HR1.out Tryz.underlying119 rfl Tryz.size119 ?_)
    go_region
    all_goals
     go_wp2_with fail;exact HQ1.out _ _ _ _ (by rw [HM.out,HFD.out];rfl) rfl (HSL.out.fr ((HF.out.alloc _).drew) (fun _ _ _=>id)) (F2.out.trans ((HF.out.alloc _).drew) (fun _ _ e=>e))
   | false=>
    have HN:=lH (HTK.out (fun x=>x.c==c) hx HA.out);go_wp2_with (refine wpList_load_mid (by rfl) 119 _ (by rfl) b (j*4) (by rfl) [.int .i64 xc,.int .i64 xl,.int .i64 xq,.slice (some ⟨b1,0,none⟩) xbs.length c1] _ HR1.out Tryz.underlying119 rfl Tryz.size119 ?_);go_roundw
    case rel=>exact ⟨j+1,by go_num,hlt,HN,lH (HF.out.alloc _)⟩
    case measure=>simp [intOf];omega
  ·obtain rfl:j=LL.length:=by omega
   have q1:¬(LL.length:Int)<(LL.length:Int):=(by omega)
   have HNO:Hid (LL.find? (fun x=>x.c==c)=none):=lH (List.find?_eq_none.2 (fun y hy=>by have:=HA.out y (by rw [List.take_length];exact hy);simp [this]));go_wp2_with fail;exact HQ0.out _ _ (by rw [HM.out,HNO.out];rfl) rfl (F2.out.trans HF.out (fun _ _ e=>e))
def cmpI (a b:Int):Int:=if a<b then -1 else if b<a then 1 else 0
def stpO (x y:Stp):Int:=if cmpI x.1 y.1≠0 then cmpI x.1 y.1 else if cmpI x.2.1 y.2.1≠0 then cmpI x.2.1 y.2.1 else cmpI x.2.2 y.2.2
theorem cmpI_neg {a b:Int}:cmpI a b<0↔a<b:=by unfold cmpI;split<;>(try split)<;>omega
theorem cmpI_zero {a b:Int}:cmpI a b=0↔a=b:=by unfold cmpI;split<;>(try split)<;>omega
theorem stpO_lt (x y:Stp):stpO x y<0↔(x.1<y.1∨x.1=y.1∧(x.2.1<y.2.1∨x.2.1=y.2.1∧x.2.2<y.2.2)):=by
 unfold stpO;have h1:= @cmpI_neg x.1 y.1;have h2:= @cmpI_zero x.1 y.1;have h3:= @cmpI_neg x.2.1 y.2.1;have h4:= @cmpI_zero x.2.1 y.2.1;have h5:= @cmpI_neg x.2.2 y.2.2;split
 ·omega
 ·split<;>omega
theorem stpO_swo:Go.Sort.SWO (ltOf stpO) where
 irrefl x:=by
  show decide (stpO x x<0)=false;rw [decide_eq_false_iff_not,stpO_lt];omega
 trans x y z h1 h2:=by
  have h1:decide (stpO x y<0)=true:=h1;have h2:decide (stpO y z<0)=true:=h2;show decide (stpO x z<0)=true;rw [decide_eq_true_eq,stpO_lt] at*;omega
 ntrans x y z h1 h2:=by
  have h1:decide (stpO x y<0)=false:=h1;have h2:decide (stpO y z<0)=false:=h2;show decide (stpO x z<0)=false;rw [decide_eq_false_iff_not,stpO_lt] at*;omega
theorem stpO_total (x y:Stp) (h1:ltOf stpO x y=false) (h2:ltOf stpO y x=false):x=y:=by
 have h1:decide (stpO x y<0)=false:=h1;have h2:decide (stpO y x<0)=false:=h2;rw [decide_eq_false_iff_not,stpO_lt] at*;obtain ⟨a,b,c⟩:=x;obtain ⟨a',b',c'⟩:=y;simp only [Prod.mk.injEq];dsimp only at h1 h2;omega
theorem nan_ (a:Int) (w:World):Calls Tryz.prog 174 #[.int .i64 a] w fun e w'=>e=.returned (.bool false)∧w'=w:=by
 go_enter Tryz.func174,Tryz.ntmps174;go_wp2_with fail
 go_ret
 exact ⟨by simp,rfl⟩
theorem cmp_ (a b:Int) (w:World):Calls Tryz.prog 121 #[.int .i64 a,.int .i64 b] w fun e w'=>e=.returned (.int .i64 (cmpI a b))∧w'=w:=by
 have H1:=lH (nan_ a w);have H2:=lH (nan_ b w);by_cases h1:a<b
 ·have e:cmpI a b= -1:=if_pos h1;rw [e];clear e;go_enter Tryz.func121,Tryz.ntmps121;go_wp2_with fail;refine H1.out.mono ?_;rintro e w1 ⟨rfl,hw⟩;subst hw;go_wp2_with fail;refine H2.out.mono ?_;rintro e w2 ⟨rfl,hw⟩;subst hw;go_wp2_with fail
  go_ret
  exact ⟨rfl,rfl⟩
 ·by_cases h2:b<a
  ·have e:cmpI a b=1:=(if_neg h1).trans (if_pos h2);rw [e];clear e;go_enter Tryz.func121,Tryz.ntmps121;go_wp2_with fail;refine H1.out.mono ?_;rintro e w1 ⟨rfl,hw⟩;subst hw;go_wp2_with fail;refine H2.out.mono ?_;rintro e w2 ⟨rfl,hw⟩;subst hw;go_wp2_with fail
   go_ret
   exact ⟨rfl,rfl⟩
  ·have e:cmpI a b=0:=(if_neg h1).trans (if_neg h2);rw [e];clear e;go_enter Tryz.func121,Tryz.ntmps121;go_wp2_with fail;refine H1.out.mono ?_;rintro e w1 ⟨rfl,hw⟩;subst hw;go_wp2_with fail;refine H2.out.mono ?_;rintro e w2 ⟨rfl,hw⟩;subst hw;go_wp2_with fail
   go_ret
   exact ⟨rfl,rfl⟩
def or3 (x y z:Int):Int:=if x≠0 then x else if y≠0 then y else z
theorem or3_ (b:Nat) (x y z:Int) (w:World) (c0:w.cell? ⟨b,0,none⟩=some (.int .i64 x)) (c1:w.cell? ⟨b,1,none⟩=some (.int .i64 y)) (c2:w.cell? ⟨b,2,none⟩=some (.int .i64 z)):
  Calls Tryz.prog 120 #[.slice (some ⟨b,0,none⟩) 3 3] w fun e w'=>e=.returned (.int .i64 (or3 x y z))∧w'=w:=by
 by_cases h1:x=0
 ·subst h1;by_cases h2:y=0
  ·subst h2;have e:or3 0 0 z=z:=(by simp [or3])
   rw [e];clear e;by_cases h3:z=0
   ·subst h3;go_enter Tryz.func120,Tryz.ntmps120;go_wp2_with fail;refine wp_loop_rounds 4 ?_;rw [rounds_succ];go_wp2_with fail;rw [rounds_succ];go_wp2_with fail;rw [rounds_succ];go_wp2_with fail;rw [rounds_succ];go_wp2_with fail
    go_ret
    exact ⟨rfl,rfl⟩
   ·have q:(z !=0)=true:=by simpa using h3
    clear h3;go_enter Tryz.func120,Tryz.ntmps120;go_wp2_with fail;refine wp_loop_rounds 4 ?_;rw [rounds_succ];go_wp2_with fail;rw [rounds_succ];go_wp2_with fail;rw [rounds_succ];go_wp2_with fail
    go_ret
    exact ⟨rfl,rfl⟩
  ·have e:or3 0 y z=y:=by simp [or3,h2]
   have q:(y !=0)=true:=(by simpa using h2)
   rw [e];clear e h2;go_enter Tryz.func120,Tryz.ntmps120;go_wp2_with fail;refine wp_loop_rounds 4 ?_;rw [rounds_succ];go_wp2_with fail;rw [rounds_succ];go_wp2_with fail
   go_ret
   exact ⟨rfl,rfl⟩
 ·have e:or3 x y z=x:=by simp [or3,h1]
  have q:(x !=0)=true:=by simpa using h1
  rw [e];clear e h1;go_enter Tryz.func120,Tryz.ntmps120;go_wp2_with fail;refine wp_loop_rounds 4 ?_;rw [rounds_succ];go_wp2_with fail
  go_ret
  exact ⟨rfl,rfl⟩
theorem or3_stp (x y:Stp):or3 (cmpI x.1 y.1) (cmpI x.2.1 y.2.1) (cmpI x.2.2 y.2.2)=stpO x y:=rfl
theorem order_ (x y:Stp) (w:World):Calls Tryz.prog 64 #[stpV x,stpV y] w fun e w'=>e=.returned (.int .i64 (stpO x y))∧w'=(((w.alloc (.cells #[.int .i64 x.1,.int .i64 x.2.1,.int .i64 x.2.2] 46)).alloc (.cells #[.int .i64 y.1,.int .i64 y.2.1,.int .i64 y.2.2] 46)).alloc (.cells #[.int .i64 (cmpI x.1 y.1),.int .i64 (cmpI x.2.1 y.2.1),.int .i64 (cmpI x.2.2 y.2.2)] 3)).drew:=by
 have mixed:Tryz.prog.follows .mixedOrders=true:=by kernel_rfl
 have f1:Fr No (w.alloc (.cells #[.int .i64 x.1,.int .i64 x.2.1,.int .i64 x.2.2] 46)) ((w.alloc (.cells #[.int .i64 x.1,.int .i64 x.2.1,.int .i64 x.2.2] 46)).alloc (.cells #[.int .i64 y.1,.int .i64 y.2.1,.int .i64 y.2.2] 46)):=(Fr.refl _).alloc _;have k0:=f1.block_of (new_at w (.cells #[.int .i64 x.1,.int .i64 x.2.1,.int .i64 x.2.2] 46)) id;have k1:=new_at (w.alloc (.cells #[.int .i64 x.1,.int .i64 x.2.1,.int .i64 x.2.2] 46)) (.cells #[.int .i64 y.1,.int .i64 y.2.1,.int .i64 y.2.2] 46);rw [show (w.alloc (.cells #[.int .i64 x.1,.int .i64 x.2.1,.int .i64 x.2.2] 46)).heap.size=w.heap.size+1 by simp] at k1;rw [← or3_stp];obtain ⟨xc,xl,xn⟩:=x;obtain ⟨yc,yl,yn⟩:=y;unfold stpV;dsimp only at k0 k1 ⊢;clear f1;go_enter Tryz.func64,Tryz.ntmps64;go_wp2_with fail;generalize hwA:(w.alloc (.cells #[.int .i64 xc,.int .i64 xl,.int .i64 xn] 46)).alloc (.cells #[.int .i64 yc,.int .i64 yl,.int .i64 yn] 46)=wA at*;have HWA:=lH hwA;clear hwA;generalize w.heap.size=b0 at*;have a0:wA.cell? ⟨b0,0,none⟩=some (.int .i64 xc):=by rw [cell_at k0];rfl
 have a1:wA.cell? ⟨b0,1,none⟩=some (.int .i64 xl):=by rw [cell_at k0];rfl
 have a2:wA.cell? ⟨b0,2,none⟩=some (.int .i64 xn):=by rw [cell_at k0];rfl
 have b0':wA.cell? ⟨b0+1,0,none⟩=some (.int .i64 yc):=by rw [cell_at k1];rfl
 have b1:wA.cell? ⟨b0+1,1,none⟩=some (.int .i64 yl):=by rw [cell_at k1];rfl
 have b2:wA.cell? ⟨b0+1,2,none⟩=some (.int .i64 yn):=by rw [cell_at k1];rfl
 clear k0 k1;refine wp_region_text mixed (fun W=>W=wA.drew) [15,16,17] (by kernel_rfl) (by kernel_rfl) (by kernel_rfl) (by kernel_rfl) (fun _ _ d _ _ h=>by cases d<;>exact h) rfl ?_;repeat (first
  | refine seqX_skip (by rfl) ?_
  | (refine seqX_val (v:= ?_) (by rfl) (by rfl) ?_ ?_
     rotate_left 1
     (intro W;go_simp;(try with_reducible rfl))
     simp only [Act.put,lsA,lsZ,lsS])
  | (refine seqX_call (v:=.int .i64 (cmpI xc yc)) 121 #[.int .i64 xc,.int .i64 yc] (by rfl) (by kernel_rfl) (by rfl) ?_ (fun w' hS=>(cmp_ _ _ _).mono (fun e w'' h=>⟨h.1,h.2.trans hS⟩)) ?_
     focus (intro W;go_simp;done)
     simp only [Act.put,lsA,lsZ,lsS])
  | (refine seqX_call (v:=.int .i64 (cmpI xl yl)) 121 #[.int .i64 xl,.int .i64 yl] (by rfl) (by kernel_rfl) (by rfl) ?_ (fun w' hS=>(cmp_ _ _ _).mono (fun e w'' h=>⟨h.1,h.2.trans hS⟩)) ?_
     focus (intro W;go_simp;done)
     simp only [Act.put,lsA,lsZ,lsS])
  | (refine seqX_call (v:=.int .i64 (cmpI xn yn)) 121 #[.int .i64 xn,.int .i64 yn] (by rfl) (by kernel_rfl) (by rfl) ?_ (fun w' hS=>(cmp_ _ _ _).mono (fun e w'' h=>⟨h.1,h.2.trans hS⟩)) ?_
     focus (intro W;go_simp;done)
     simp only [Act.put,lsA,lsZ,lsS])
  | (refine seqX_valS (v:= ?_) (by rfl) (by kernel_rfl) (by rfl) ?_ ?_
     rotate_left 1
     (intro W hS;have hS':W=wA.drew:=hS;subst hS';go_simp;(try with_reducible rfl))
     simp only [Act.put,lsA,lsZ,lsS]))
 intro W hS;obtain rfl:W=wA.drew:=hS;simp only [List.reverse_cons,List.reverse_nil,List.nil_append,List.cons_append];go_wp2_with fail;have k5:=new_at wA (.cells #[.int .i64 (cmpI xc yc),.int .i64 (cmpI xl yl),.int .i64 (cmpI xn yn)] 3);refine (or3_ _ (cmpI xc yc) (cmpI xl yl) (cmpI xn yn) _ ((Fr.refl (S:=No) _).drew.cell_of (by rw [cell_at k5];rfl) id) ((Fr.refl (S:=No) _).drew.cell_of (by rw [cell_at k5];rfl) id) ((Fr.refl (S:=No) _).drew.cell_of (by rw [cell_at k5];rfl) id)).mono ?_;rintro e w2 ⟨rfl,hw⟩;subst hw;go_wp2_with fail
 go_ret
 exact ⟨rfl,by rw [HWA.out]⟩
def useC (U:Stp→Option Us) (x:Stp):List Value:= [.int .i64 x.1,.int .i64 x.2.1,.int .i64 x.2.2,.int .i64 ((U x).getD (0,0,0)).1,.int .i64 ((U x).getD (0,0,0)).2.1,.int .i64 ((U x).getD (0,0,0)).2.2]
theorem useCmp_ (x y:Stp) (s1 l1 b1 s2 l2 b2:Int) (W:World):Calls Tryz.prog 63 #[.agg #[.int .i64 x.1,.int .i64 x.2.1,.int .i64 x.2.2,.int .i64 s1,.int .i64 l1,.int .i64 b1],.agg #[.int .i64 y.1,.int .i64 y.2.1,.int .i64 y.2.2,.int .i64 s2,.int .i64 l2,.int .i64 b2]] W fun e w'=>e=.returned (.int .i64 (stpO x y))∧∃q os',w'=Go.Sort.grow (W.drewN q) os':=by
 have HO:=fun W'=>order_ x y W';unfold stpV at HO;go_enter Tryz.func63,Tryz.ntmps63;go_wp2_with (go_at_call 64;refine (HO _).mono ?_;rintro e w' ⟨rfl,hw⟩;subst hw)
 go_ret
 exact ⟨rfl,1,_,by
  simp only [Go.Sort.alloc_eq_grow,Go.Sort.grow_grow];rfl⟩
end Go.Proofs.YtlcojhddnpmgmaaGreat
namespace Go.Proofs.YtlcojhddnpmgmaaGreat
open Go.RowKit Go.Sort Go.Shelf
theorem flatK_gen {α:Type} [Inhabited α] (c:α→List Value) (n:Nat) (hc:∀x,(c x).length=n) (hn:0<n) (ss:List α):flatK c n ss.toArray=(ss.flatMap c).toArray:=by
 have hlen:=flat_len hc ss;apply ext_get!
 ·rw [size_flatK];simp [hlen]
 ·intro t ht;rw [size_flatK] at ht;rw [get_flatK _ _ _ _ ht];have h1:t / n<ss.length:=by
   rw [List.size_toArray] at ht;exact (Nat.div_lt_iff_lt_mul hn).2 ht
  have h2:t % n<n:=Nat.mod_lt _ hn;have h3:ss[t / n]? =some ss[t / n]:=List.getElem?_eq_getElem h1;have h4:(c ss[t / n])[t % n]? =some ((c ss[t / n])[t % n]'(by rw [hc];exact h2)):=List.getElem?_eq_getElem _;have h5:=flat_get hc ss (t / n) _ h3 (t % n) _ h4;rw [show t / n*n+t % n=t by rw [Nat.mul_comm];exact Nat.div_add_mod t n] at h5;have e1:ss.toArray[t / n]! =ss[t / n]:=by simp [h1]
  rw [e1];rw [show ((ss.flatMap c).toArray)[t]! =((ss.flatMap c)[t]?).getD default by simp,h5];rw [Option.getD_some,List.getElem!_eq_getElem?_getD,h4];rfl
theorem holdsK_gen {α:Type} [Inhabited α] {c:α→List Value} {n:Nat} (hc:∀x,(c x).length=n) (hn:0<n) {t:TypeId} {w:World} {g:Nat} {ss:List α} {cur:Array Value} (hh:w.heap[g]? =some (.cells cur t (0,0))) (ht:cur.toList.take (ss.length*n)=ss.flatMap c):HoldsK c n w g 0 ss.toArray:=by
 intro j hj;rw [size_flatK] at hj;have hj':j<ss.length*n:=by simpa using hj
 refine ⟨?_,by simp [World.frozen?,hh]⟩;rw [flatK_gen c n hc hn];have hlen:=flat_len hc ss;have h1:(cur.toList.take (ss.length*n))[j]? =(ss.flatMap c)[j]? :=by rw [ht]
 rw [List.getElem?_take_of_lt hj'] at h1;simp only [World.cell?,hh,Nat.zero_add];simp only [Option.isSome_none,Bool.false_eq_true,if_false];rw [← Array.getElem?_toList,h1];rw [List.getElem?_eq_getElem (by omega)];simp [hlen,hj']
def stpLe (x y:Stp):Bool:= !(ltOf stpO y x)
theorem useC_len (U:Stp→Option Us) (x:Stp):(useC U x).length=6:=rfl
theorem useC_one (U:Stp→Option Us) (x:Stp):∀v∈useC U x,v.oneCell'=true:=fun v hv=>by
 simp only [useC,List.mem_cons,List.not_mem_nil,or_false] at hv;rcases hv with rfl|rfl|rfl|rfl|rfl|rfl<;>rfl
theorem sortU_ (U:Stp→Option Us) (ss:List Stp) (base:Nat) (v:Value) (w:World) (h:w.ownsRow base 80 6 v ss.length (ss.flatMap (useC U))) (hs:ss.length<10000000):
  Calls Tryz.prog 62 #[v,.func (.func 63) #[] #[]] w fun e w'=>e=.returned (.tuple #[])∧Fr (fun k=>base≤k) w w'∧RowNew (useC U) 6 80 w' base v (ss.mergeSort stpLe):=by
 rcases h.2 with ⟨rfl,h0⟩|⟨g,cap,cur,rfl,hb,hh,h1,h2,h3,h4⟩
 ·have hs0:=List.eq_nil_of_length_eq_zero h0;subst hs0;have hcon:=AnyF.slices_SortFunc_none (P:=Tryz.prog) (ρ:=Tryz.sortU_ren) {Tryz.sortU with} none 0 (.func (.func 63) #[] #[]) w;change Calls Tryz.prog 62 _ _ _ at hcon;refine hcon.mono ?_;rintro e w' ⟨rfl,rfl⟩;exact ⟨rfl,Fr.refl _,.inl ⟨rfl,by simp⟩⟩
 ·have hH:=holdsK_gen (useC_len U) (by omega) hh h4;have eg:∀args w,(callFunc 63 args).run Tryz.prog w=.ok (.enter 63 args) w:=enters_of Tryz.func63 (by kernel_rfl) rfl;have hcon:=AnyQ.slices_SortFunc_total Tryz.sortU 6 Tryz.isAgg80 Tryz.sizeOf80 (useC U) (useC_len U) (fun x v hv=>useC_one U x v hv) stpO stpO_swo 63 #[] g 0 cap ss.toArray w eg
   (fun m os dk _ x y=>useCmp_ x y _ _ _ _ _ _ _) hH (lt_of_block hh) (by simp;omega) stpO_total
  change Calls Tryz.prog 62 _ _ _ at hcon;rw [show ss.toArray.size=ss.length by simp,show ss.toArray.toList=ss by simp] at hcon;refine hcon.mono ?_;rintro e w' ⟨rfl,n,os,rfl⟩;have hl:(ss.mergeSort stpLe).length=ss.length:=List.length_mergeSort _;have hfin:HoldsK (useC U) 6 (sortWorldK (useC U) 6 w g 0 n (ss.mergeSort stpLe).toArray os) g 0 (ss.mergeSort stpLe).toArray:=by
   unfold sortWorldK;refine holdsK_grow _ _ _ _ _ _ _ ?_ (holdsK_putRowK _ _ _ _ _ _ _ (holdsK_ahead _ _ _ n _ _ _ hH) (by simp [hl]));unfold putRowK;simpa [Go.Sort.ahead] using lt_of_block hh
  refine ⟨rfl,(fr_sortedK _).mono (fun k _ e=>by rw [e];exact hb),.inr ⟨g,cap,by rw [hl],h2,hb,⟨⟨_,heap_sortedK _ hh,?_⟩,by rw [hl];exact h1,fun j x hj i u hu=> ?_⟩⟩⟩
  ·simp only [Go.Sort.putCells,Array.size_mapIdx];omega
  ·have hjl:j<(ss.mergeSort stpLe).length:=(List.getElem?_eq_some_iff.1 hj).1;have hi6:i<6:=(List.getElem?_eq_some_iff.1 hu).1;have hc:=(hfin.cell (i:=j) (c:=i) (by simpa using hjl) hi6).1;rw [Nat.zero_add] at hc;refine hc.trans ?_;have e1:(ss.mergeSort stpLe).toArray[j]! =x:=by
    rw [List.getElem?_eq_getElem hjl] at hj;cases hj;exact (getElem!_pos (ss.mergeSort stpLe).toArray j (by simpa using hjl)).trans rfl
   rw [e1,List.getElem!_eq_getElem?_getD,hu];rfl
def StripesPost (w:World) (U:Stp→Option Us) (e:Ending) (w':World):Prop:=
 ∃v ss,e=.returned v∧RowNew (useC U) 6 80 w' w.heap.size v ss∧ss.Nodup∧(∀x,x∈ss↔(U x).isSome=true)∧ss.Pairwise (fun x y=>stpLe x y=true)∧Fr No w w'
theorem stpLe_iff (x y:Stp):stpLe x y=true↔¬stpO y x<0:=by
 show (!decide (stpO y x<0))=true↔_;simp
theorem stp_sorted (ss:List Stp):(ss.mergeSort stpLe).Pairwise (fun x y=>stpLe x y=true):=
 List.pairwise_mergeSort (fun x y z h1 h2=>by rw [stpLe_iff,stpO_lt] at*;omega) (fun x y=>by
  rw [Bool.or_eq_true,stpLe_iff,stpLe_iff,stpO_lt,stpO_lt];omega) _
theorem Tryz.info80:(Tryz.prog.info? 80).map (fun i=>(i.zero,i.size,i.bytes))=some (some (.agg #[.int .i64 0,.int .i64 0,.int .i64 0,.int .i64 0,.int .i64 0,.int .i64 0]),6,48):=by kernel_rfl
theorem gstripes_ (o:Nat→Nat) (K n:Nat) (L:Plc) (S:St) (w:World) (h:StateAt w o K L S n) (hf:Fresh w o) (hn:n≤1000000):
  Calls Tryz.prog 27 #[.pointer (some ⟨L.s,0,none⟩)] w (StripesPost w S.U):=by
 have HMD:=lH (gmade_ o K n L S w h);have c12:w.cell? ⟨L.s,12,none⟩=some (.map (some L.us)):=h.cell 12;obtain ⟨_,cu,hcu,hum⟩:=h.uses;obtain ⟨w2,hr,R2,f2,hs2⟩:=hum.range (t:=101) (e:=80) Tryz.underlying101;have hult:L.us<w.heap.size:=hum.lt;have HUM:=lH hum;have HQ:Hid (∀v w' ss,RowNew (useC S.U) 6 80 w' w.heap.size v ss→ss.Nodup→(∀x,x∈ss↔(S.U x).isSome=true)→ss.Pairwise (fun x y=>stpLe x y=true)→Fr No w w'→StripesPost w S.U (.returned v) w'):=lH (fun v w' ss h1 h2 h3 h4 f=>⟨v,ss,rfl,h1,h2,h3,h4,f⟩);generalize StripesPost w S.U=Q at*;generalize S.U=U at*;have RR2:=lH R2;have F2:=lH f2;have hcu1:cu≤1000000:=Nat.le_trans hcu hn;obtain ⟨i0,hi,hz0,hz1,hz2⟩:=info_parts Tryz.info80;have HI:=lH hi;have HZ0:=lH hz0;have HZ1:=lH hz1;have HZ2:=lH hz2;have HS2:=lH hs2;clear hi hz0 hz1 hz2 h hf hum R2 f2 hs2 hcu hn;go_enter Tryz.func27,Tryz.ntmps27;go_wp2_with fail;refine HMD.out.mono ?_;rintro e w1 ⟨rfl,hw⟩;subst hw;go_wp2_with fail;go_loopw [3] (fun v wr=>∃(ss:List Stp) (left:Stp→Bool) (cnt:Nat),Hid (RangeAt encU wr L.us w1.heap.size cu (usem U) left cnt)∧Hid (∀s:Stp,stpGood s→(left s=true↔(U s).isSome=true∧s ∉ ss))∧Hid (wr.ownsRow (w1.heap.size+1) 80 6 v ss.length (ss.flatMap (useC U)))∧Hid ss.Nodup∧Hid (∀s∈ss,(U s).isSome=true)∧Hid (Fr No w1 wr)∧cnt+ss.length≤cu∧w1.heap.size+1≤wr.heap.size) (fun _ wr=>wr.rangeLeft L.us w1.heap.size)
 case atStart=>
  refine ⟨[],_,_,RR2,lH (fun s _=> ?_),lH ⟨rfl,.inl ⟨rfl,rfl⟩⟩,lH List.nodup_nil,lH (by simp),F2,by simp,by have:=HS2.out;omega⟩;unfold usem;cases U s<;>simp
 case round=>
  obtain ⟨ss,left,cnt,HRA,HLF,HOWN,HND,HIN,HFR,hcnt,hsz⟩:=hrel;obtain ⟨a,cc,rfl⟩:=HOWN.out.shape;rcases HRA.out.next 0 with ⟨_,hno,hnx⟩|⟨x,y,w4,cnt',hms,hls,hnx,hra',hlt',f4,hs4,hen⟩
  ·have hall:∀s,s∈ss↔(U s).isSome=true:=fun s=>⟨HIN.out s,fun h=>by
    obtain ⟨u0,hu0⟩:=Option.isSome_iff_exists.1 h;have hg:stpGood s:=(HUM.out.good (x:=s) (y:=(s,u0)) (by unfold usem;rw [hu0];rfl)).1;apply Classical.byContradiction;intro hn;have:=(HLF.out s hg).2 ⟨h,hn⟩;rw [hno s hg] at this;cases this⟩
   have HALL:=lH hall;clear hall hno;go_wp2_with fail;refine (sortU_ U ss (w1.heap.size+1) _ wr HOWN.out (by omega)).mono ?_;rintro e w6 ⟨rfl,f6,hes⟩;have hfin:Fr No w1 w6:=((HFR.out.of_no (S:=fun k=>w1.heap.size+1≤k)).trans f6 (fun j _ h=>h)).no (fun j hj h=>by omega);have hrow:RowNew (useC U) 6 80 w6 w1.heap.size (.slice a ss.length cc) (ss.mergeSort stpLe):=by
    rcases hes with h|⟨b,c,e,h1,h2,h3⟩
    ·exact .inl h
    ·exact .inr ⟨b,c,e,h1,by omega,h3⟩
   have H1:=lH hfin;have H2:=lH hrow;clear f6 hes hfin hrow;go_wp2_with fail;exact HQ.out _ _ _ H2.out ((List.mergeSort_perm ss stpLe).nodup_iff.2 HND.out) (fun x=>(List.mergeSort_perm ss stpLe).mem_iff.trans (HALL.out x)) (stp_sorted ss) H1.out
  ·obtain ⟨u,hu,rfl⟩:∃u,U x=some u∧y=(x,u):=by
    unfold usem at hms;cases h:U x with
    | none=>rw [h] at hms;cases hms
    | some u=>
     rw [h] at hms;cases hms;exact ⟨u,rfl,rfl⟩
   have hgx:stpGood x:=(HRA.out.map.good hms).1;obtain ⟨_,hnin⟩:=(HLF.out x hgx).1 hls;have F4:Hid (Fr No w1 w4):=lH (HFR.out.trans f4 (fun j hj e=>by omega));have O4:Hid (w4.ownsRow (w1.heap.size+1) 80 6 (.slice a ss.length cc) ss.length (ss.flatMap (useC U))):=lH (ownR_fr HOWN.out f4 (fun j hj e=>by have:=ownR_base HOWN.out j hj;omega));have R4:=lH hra';have hnx':(Instr.next (.pointer (some ⟨w1.heap.size,0,none⟩)) false 0).run Tryz.prog wr=.ok (.tuple #[.bool true,.agg #[.int .i64 x.1,.int .i64 x.2.1,.int .i64 x.2.2],.agg #[.int .i64 x.1,.int .i64 x.2.1,.int .i64 x.2.2,.int .i64 u.1,.int .i64 u.2.1,.int .i64 u.2.2]]) w4:=hnx;have hen':(Instr.entry (.pointer (some ⟨w1.heap.size,0,none⟩))).run Tryz.prog w4=.ok (.tuple #[.agg #[.int .i64 x.1,.int .i64 x.2.1,.int .i64 x.2.2],.agg #[.int .i64 x.1,.int .i64 x.2.1,.int .i64 x.2.2,.int .i64 u.1,.int .i64 u.2.1,.int .i64 u.2.2]]) w4:=hen;have HLE:Hid (wr.rangeLeft L.us w1.heap.size=cnt):=lH HRA.out.left_eq;have HLT:=lH hlt';have HN:Hid (∀s:Stp,stpGood s→((left s&&decide (s≠x))=true↔(U s).isSome=true∧s ∉ ss++ [x])):=lH (fun s hs=>by
    rw [Bool.and_eq_true,decide_eq_true_eq,HLF.out s hs,List.mem_append,List.mem_singleton];constructor
    ·rintro ⟨⟨h1,h2⟩,h3⟩;exact ⟨h1,fun h=>h.elim h2 h3⟩
    ·rintro ⟨h1,h2⟩;exact ⟨⟨h1,fun h=>h2 (.inl h)⟩,fun h=>h2 (.inr h)⟩)
   have HND2:Hid (ss++ [x]).Nodup:=lH (by
    rw [List.nodup_append];exact ⟨HND.out,by simp,fun a ha b hb e=>by
     rw [List.mem_singleton] at hb;subst hb;subst e;exact hnin ha⟩)
   have HIN2:Hid (∀s∈ss++ [x],(U s).isSome=true):=lH (fun s hs=>by
    rcases List.mem_append.1 hs with h|h
    ·exact HIN.out s h
    ·rw [List.mem_singleton] at h;rw [h,hu];rfl)
   have HUC:Hid (useC U x= [.int .i64 x.1,.int .i64 x.2.1,.int .i64 x.2.2,.int .i64 u.1,.int .i64 u.2.1,.int .i64 u.2.2]):=lH (by unfold useC;rw [hu];rfl);have hs4':w4.heap.size=wr.heap.size:=hs4;have RA:Hid (((w4.alloc (.cells #[.int .i64 x.1,.int .i64 x.2.1,.int .i64 x.2.2,.int .i64 u.1,.int .i64 u.2.1,.int .i64 u.2.2] 80)).rangeAt w4.heap.size 0 [.int .i64 x.1,.int .i64 x.2.1,.int .i64 x.2.2,.int .i64 u.1,.int .i64 u.2.1,.int .i64 u.2.2])):=lH (World.rangeAt_of_block (new_at w4 _) 0 6);have SZ:=lH hs4';clear hnx hen hra' f4 hs4 hms hls hlt' hnin hu hs4';go_wp2_with (first|(refine wpList_load_mid (by rfl) 80 _ (by rfl) w4.heap.size 0 (by rfl) [.int .i64 x.1,.int .i64 x.2.1,.int .i64 x.2.2,.int .i64 u.1,.int .i64 u.2.1,.int .i64 u.2.2] _ RA.out Tryz.underlying80 rfl Tryz.size80 ?_)|(at_builtin;(refine wpList_append_lies _ (by rfl) _ _ 65 (by rfl) (w1.heap.size+1) 80 i0 _ 6 48 Tryz.underlying65 HI.out HZ0.out HZ1.out HZ2.out rfl (by decide) (.slice a ss.length cc) ss.length (ss.flatMap (useC U)) (by rfl) ((O4.out.alloc _).alloc _) ⟨w4.heap.size+1,0,none⟩ 1 1 [.int .i64 x.1,.int .i64 x.2.1,.int .i64 x.2.2,.int .i64 u.1,.int .i64 u.2.1,.int .i64 u.2.2] (by rfl) (by rfl) ?d1 (by simp [Value.oneCell']) (by decide) (by unfold maxLen;omega) (by omega) ?d5 (w4.heap.size+1+1) ?d6 ?_)))
   case d1=>
    have h5:=World.news_of_block (cs:= #[.int .i64 x.1,.int .i64 x.2.1,.int .i64 x.2.2,.int .i64 u.1,.int .i64 u.2.1,.int .i64 u.2.2]) (t:=80) (fr:=(0,0)) (heap_alloc_new (w4.alloc (.cells #[.int .i64 x.1,.int .i64 x.2.1,.int .i64 x.2.2,.int .i64 u.1,.int .i64 u.2.1,.int .i64 u.2.2] 80)) _);rw [heap_size_alloc] at h5;exact h5
   case d5=>rw [heap_size_alloc,heap_size_alloc];have:=SZ.out;omega
   case d6=>simp
   intro gg cap wD hownD hgrow hat hgl;have HNL:Hid (Fr No w1 wD):=lH (((F4.out.alloc _).alloc _).grown hgrow (fun j hj=> .inr (by have:=ownR_base O4.out j hj;omega)));have HG4:Fr (fun k=>w1.heap.size+1≤k) w4 wD:=(((Fr.refl (S:=fun k=>w1.heap.size+1≤k) w4).alloc _).alloc _).grown hgrow (fun j hj=> .inl (ownR_base O4.out j hj));have RD:=lH (R4.out.fr HG4 (by omega) (by omega));have HOD:=lH hownD;have hsD:w1.heap.size+1≤wD.heap.size:=Nat.le_trans (by have:=SZ.out;omega) HG4.size;clear hownD hgrow hat hgl HG4;go_wp2_with fail;go_roundw
   case rel=>
    refine ⟨ss++ [x],_,cnt',RD,HN,lH ?_,HND2,HIN2,HNL,by rw [List.length_append,List.length_singleton];have:=HLT.out;omega,hsD⟩;have h9:=HOD.out;rw [List.flatMap_append,List.length_append];simp only [List.flatMap_cons,List.flatMap_nil,List.append_nil,List.length_singleton];rw [HUC.out];exact h9
   case measure=>
    rw [RD.out.left_eq,HLE.out];exact HLT.out
end Go.Proofs.YtlcojhddnpmgmaaGreat
namespace Go.Proofs.YtlcojhddnpmgmaaGreat
open Go.RowKit
theorem same_self (v1 v2:Value) (x:List UInt8) (w:World) (h1:SlAt w v1 x) (h2:SlAt w v2 x) (hbig:x.length≤1000000):Calls Tryz.prog 28 #[v1,v2] w fun e w'=>e=.returned (.bool true)∧Fr No w w':=
 (gsame_ v1 v2 x x w h1 h2 hbig).mono (fun e w' p=>by
   unfold BoolPost at p;simpa using p)
theorem numB_inj1 {a b:Nat} (ha:a<256) (hb:b<256) (h:numB 1 a=numB 1 b):a=b:=by
 have:=congrArg (fun l=>l.map UInt8.toNat) h;simp [numB,List.range_succ] at this;omega
theorem numB_inj2 {a b:Nat} (ha:a<65536) (hb:b<65536) (h:numB 2 a=numB 2 b):a=b:=by
 have:=congrArg (fun l=>l.map UInt8.toNat) h;simp [numB,List.range_succ] at this;omega
theorem numB_inj3 {a b:Nat} (ha:a<16777216) (hb:b<16777216) (h:numB 3 a=numB 3 b):a=b:=by
 have:=congrArg (fun l=>l.map UInt8.toNat) h;simp [numB,List.range_succ] at this;omega
theorem cut_num {wd a b:Nat} {r s:List UInt8} (h:numB wd a++r=numB wd b++s):numB wd a=numB wd b∧r=s:=
 List.append_inj h (by rw [numB_length,numB_length])
theorem bitB_inj {a b:Bool} (h:bitB a=bitB b):a=b:=by
 cases a<;>cases b<;>first|rfl|(exact absurd h (by decide))
theorem ent_inj {x y:Ent} {r s:List UInt8} (hx:entOk x) (hy:entOk y) (h:entB x++r=entB y++s):x=y∧r=s:=by
 obtain ⟨xn,xi,xd⟩:=x;obtain ⟨yn,yi,yd⟩:=y;obtain ⟨x1,x2,x3⟩:=hx;obtain ⟨y1,y2,y3⟩:=hy;unfold entB at h;dsimp only at*;simp only [List.append_assoc] at h;obtain ⟨e1,h⟩:=cut_num h;have hl:=numB_inj2 (by omega) (by omega) e1;obtain ⟨e2,h⟩:=List.append_inj h hl;obtain ⟨e3,h⟩:=cut_num h;have hi:=numB_inj2 (by omega) (by omega) e3;simp only [List.cons_append,List.nil_append,List.cons.injEq] at h;obtain ⟨e4,h⟩:=h;have hn:xn=yn:=by
  obtain ⟨⟨a⟩⟩:=xn;obtain ⟨⟨b⟩⟩:=yn;have e2:a=b:=e2;rw [e2]
 have hi2:xi=yi:=by omega
 rw [hn,hi2,bitB_inj e4];exact ⟨rfl,h⟩
theorem ents_inj:∀(es fs:List Ent) (r s:List UInt8),es.length=fs.length→(∀x∈es,entOk x)→(∀x∈fs,entOk x)→es.flatMap entB++r=fs.flatMap entB++s→es=fs∧r=s
 | [], [],r,s,_,_,_,h=>⟨rfl,h⟩
 | [],_::_,_,_,h,_,_,_=>by simp at h
 | _::_, [],_,_,h,_,_,_=>by simp at h
 | x::es,y::fs,r,s,hl,h1,h2,h=>by
  rw [List.flatMap_cons,List.flatMap_cons,List.append_assoc,List.append_assoc] at h;obtain ⟨e1,h⟩:=ent_inj (h1 x List.mem_cons_self) (h2 y List.mem_cons_self) h;obtain ⟨e2,h⟩:=ents_inj es fs r s (by simpa using hl) (fun z hz=>h1 z (List.mem_cons_of_mem _ hz)) (fun z hz=>h2 z (List.mem_cons_of_mem _ hz)) h;rw [e1,e2];exact ⟨rfl,h⟩
theorem RepS.inj {a b:RepS} (ha:a.ok) (hb:b.ok) (h:a.bytes=b.bytes):a=b:=by
 obtain ⟨fa,ea⟩:=ha.raw;obtain ⟨fb,eb⟩:=hb.raw;have la:=ha.2.1;have lb:=hb.2.1;rw [ea,eb] at h;unfold RepS.rawB RepS.tailB at h;obtain ⟨a1,a2,a3,a4,a5,a6,a7⟩:=fa;obtain ⟨b1,b2,b3,b4,b5,b6,b7⟩:=fb;obtain ⟨e1,h⟩:=cut_num h;obtain ⟨e2,h⟩:=cut_num h;obtain ⟨e3,h⟩:=cut_num h;obtain ⟨e4,h⟩:=cut_num h;obtain ⟨e5,h⟩:=cut_num h;simp only [List.cons.injEq] at h;obtain ⟨e6,h⟩:=h;obtain ⟨e7,h⟩:=cut_num h;have n1:=numB_inj1 (by omega) (by omega) e1;have n2:=numB_inj2 (by omega) (by omega) e2;have n3:=numB_inj2 (by omega) (by omega) e3;have n4:=numB_inj1 (by omega) (by omega) e4;have n5:=numB_inj3 (by omega) (by omega) e5;have n6:=bitB_inj e6;have n7:=numB_inj2 (by omega) (by omega) e7;obtain ⟨n8,h⟩:=ents_inj _ _ _ _ n7 a6 b6 h;obtain ⟨_,n9⟩:=cut_num h;obtain ⟨ae,ai,az,ah,aw,ad,aes,am⟩:=a;obtain ⟨be,bi,bz,bh,bw,bd,bes,bm⟩:=b;dsimp only at*;have m1:ae=be:=by omega
 have m2:ai=bi:=by omega
 have m3:az=bz:=by omega
 have m4:ah=bh:=by omega
 have m5:aw=bw:=by omega
 rw [m1,m2,m3,m4,m5,n6,n8,n9]
inductive Deeds (r:Req) (st:List Sz) (dl:List Dl) (B:St):St→Prop
 | same:Deeds r st dl B B
 | make:r.kind=1→(makeOf B.T r.path).1=0→Deeds r st dl B (makeS B r)
 | remove:r.kind=2→(lookOf B.T r.path).1=0→mayRemove B r→(removeOf B.T r.path r.dir).1=0→Deeds r st dl B (removeS B r)
 | move:r.kind=3→moveE B.T r.path r.to=0→Deeds r st dl B {B with T:=movedT B.T r.path r.to}
 | opens:r.kind=6→(lookOf B.T r.path).1=0→(lookOf B.T r.path).2.2=false→(openOf B.K r.c (lookOf B.T r.path).2.1 r.wr).1=0→Deeds r st dl B {B with K:=(openOf B.K r.c (lookOf B.T r.path).2.1 r.wr).2.2}
 | commit (x:Tok):r.kind=7→ofT B.K r.c r.h=some x→¬(x.wr=false∧¬(dl= []∧st= []))→(stripesE B r.sw r.nx st r.c r.l).1=0→(∀d∈dl,dlOk (stripesE B r.sw r.nx st r.c r.l).2 x.i d)→
   Deeds r st dl B {commitS B st dl r.c.toNat r.nx x.i.toNat with K:=closedK r.cl B.K x}
theorem deeds_all (B:St) (r:Req) (st:List Sz) (dl:List Dl) (hk:1≤r.kind∧r.kind≤8):Deeds r st dl B (deedF r st dl r.kind B).2.2∧((deedF r st dl r.kind B).1≠0→(deedF r st dl r.kind B).2.2=B):=by
 unfold deedF;split
 ·rename_i h
  unfold makeD;split
  ·rename_i h1
   exact ⟨.make h h1,fun e=>absurd rfl e⟩
  ·exact ⟨.same,fun _=>rfl⟩
 ·split
  ·rename_i h
   unfold removeD;split
   ·exact ⟨.same,fun _=>rfl⟩
   ·rename_i h1
    split
    ·exact ⟨.same,fun _=>rfl⟩
    ·rename_i h2
     split
     ·exact ⟨.same,fun _=>rfl⟩
     ·rename_i h3
      exact ⟨.remove h (Classical.byContradiction h1) (Classical.byContradiction h2) (Classical.byContradiction h3),fun e=>absurd rfl e⟩
  ·split
   ·rename_i h
    unfold moveD;split
    ·rename_i h1
     exact ⟨.move h h1,fun e=>absurd rfl e⟩
    ·exact ⟨.same,fun _=>rfl⟩
   ·split
    ·unfold lookD;split<;>exact ⟨.same,fun _=>rfl⟩
    ·split
     ·unfold listD;split<;>exact ⟨.same,fun _=>rfl⟩
     ·split
      ·rename_i h
       unfold openD;split
       ·exact ⟨.same,fun _=>rfl⟩
       ·rename_i h1
        split
        ·exact ⟨.same,fun _=>rfl⟩
        ·rename_i h2
         split
         ·exact ⟨.same,fun _=>rfl⟩
         ·rename_i h3
          exact ⟨.opens h (Classical.byContradiction h1) (by simpa using h2) (Classical.byContradiction h3),fun e=>absurd rfl e⟩
      ·split
       ·rename_i h
        unfold commitD;split
        ·exact ⟨.same,fun _=>rfl⟩
        ·rename_i x hx
         split
         ·exact ⟨.same,fun _=>rfl⟩
         ·rename_i h1
          split
          ·exact ⟨.same,fun _=>rfl⟩
          ·rename_i h2
           split
           ·exact ⟨.same,fun _=>rfl⟩
           ·rename_i h3
            exact ⟨.commit x h hx h1 (Classical.byContradiction h2) (Classical.byContradiction h3),fun e=>absurd rfl e⟩
       ·unfold mapD;split<;>exact ⟨.same,fun _=>rfl⟩
inductive Turns (S:St) (r:Req) (st:List Sz) (dl:List Dl):St→Prop
 | same:Turns S r st dl S
 | boot:Turns S r st dl (bootS S)
 | swap:Turns S r st dl (swapS S)
 | moved:r.c=4∧r.l=S.boots→(stripesE S r.sw r.nx st 4 S.boots).1=0→(∀d∈dl,mvOk (stripesE S r.sw r.nx st 4 S.boots).2 d)→Turns S r st dl (movedS S st dl r.nx)
 | asked (kd:Int) (bs:List UInt8) (D:St):mayP r.c r.l r.q→kd=0∨kd=3→askOf S.W r.c r.l r.q=(kd,none)→Deeds r st dl (askB S r.c.toNat kd) D→Turns S r st dl {D with W:=upd S.W r.c.toNat (some (r.l,r.q,bs))}
theorem askB_W (S:St) (c:Nat) (kind:Int):(askB S c kind).W=S.W:=by unfold askB;split<;>rfl
theorem turns_all {S:St} {r:Req} {st:List Sz} {dl:List Dl} {x:RepS×St} (hd:Did S r st dl x):Turns S r st dl x.2:=by
 unfold Did at hd;split at hd
 ·rw [hd];show Turns S r st dl (triedOf (bootD S r)).2;rw [triedOf_st];unfold bootD;split
  ·exact .boot
  ·exact .same
 ·split at hd
  ·rw [hd];show Turns S r st dl (triedOf (swapD S r)).2;rw [triedOf_st];unfold swapD;split
   ·exact .swap
   ·exact .same
  ·split at hd
   ·rw [hd];show Turns S r st dl (triedOf (movedD S r st dl)).2;rw [triedOf_st];unfold movedD;split
    ·exact .same
    ·rename_i h1
     split
     ·exact .same
     ·rename_i h2
      split
      ·exact .same
      ·rename_i h3
       exact .moved (Classical.byContradiction h1) (Classical.byContradiction h2) (Classical.byContradiction h3)
   ·split at hd
    ·rw [hd];exact .same
    ·rename_i hk
     split at hd
     ·rw [hd.1];exact .same
     ·split at hd
      ·rw [hd];exact .same
      ·rename_i hk1 hk2
       rcases ask_cases S.W r.c r.l r.q with ha|⟨hc,ha⟩
       ·rw [ha] at hk2;exact absurd rfl hk2
       ·have hm:mayP r.c r.l r.q:=by
         by_cases hm:mayP r.c r.l r.q
         ·exact hm
         ·have:askOf S.W r.c r.l r.q=(2,none):=if_neg hm;rw [this] at hk2;exact absurd rfl hk2
        have he:∃kd:Int,(kd=0∨kd=3)∧askOf S.W r.c r.l r.q=(kd,none):=by
         rcases ha with ha|ha|ha|⟨y,_,ha⟩
         ·exact ⟨3,.inr rfl,ha⟩
         ·rw [ha] at hk2;exact absurd rfl hk2
         ·exact ⟨0,.inl rfl,ha⟩
         ·rw [ha] at hk1;exact absurd rfl hk1
        obtain ⟨kd,hkd,ha⟩:=he;rw [ha] at hd;rw [hd];have h1:=(deeds_all (askB S r.c.toNat kd) r st dl (Classical.byContradiction hk)).1;have h2:=Turns.asked (bs:=(withSw (triedOf (deedF r st dl r.kind (askB S r.c.toNat kd))).1 (triedOf (deedF r st dl r.kind (askB S r.c.toNat kd))).2.swaps).bytes) kd _ hm hkd ha h1;have h3:(tell (askedS (triedOf (deedF r st dl r.kind (askB S r.c.toNat kd))) r.c.toNat r)).2={(deedF r st dl r.kind (askB S r.c.toNat kd)).2.2 with W:=upd S.W r.c.toNat (some (r.l,r.q,(withSw (triedOf (deedF r st dl r.kind (askB S r.c.toNat kd))).1 (triedOf (deedF r st dl r.kind (askB S r.c.toNat kd))).2.swaps).bytes))}:=by
         unfold tell askedS;dsimp only;rw [triedOf_st,win_all,askB_W]
        rw [h3];exact h2
def InvWin (S:St):Prop:=∀i y,S.W i=some y→i<4∧0≤y.1∧y.1≤1048576∧1≤y.2.1∧y.2.1≤1073741824
theorem InvWin.turn {S S':St} {r:Req} {st:List Sz} {dl:List Dl} (h:InvWin S) (t:Turns S r st dl S'):InvWin S':=by
 cases t with
 | same=>exact h
 | boot=>exact h
 | swap=>exact h
 | moved=>exact h
 | asked kd bs D hm hk ha hd=>
  intro i y hy;dsimp only at hy;unfold upd at hy;split at hy
  ·rename_i e
   cases hy;obtain ⟨h1,h2,h3⟩:=hm;exact ⟨by omega,h3⟩
  ·exact h i y hy
end Go.Proofs.YtlcojhddnpmgmaaGreat
