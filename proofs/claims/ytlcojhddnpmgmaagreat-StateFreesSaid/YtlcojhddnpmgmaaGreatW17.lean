/- Part of the proof; the last text says what is proved. -/
import Derived.Test.YtlcojhddnpmgmaaGreatW15
import Derived.Deep.RegionLaw
set_option linter.unusedSimpArgs false
set_option linter.unusedVariables false
set_option maxRecDepth 100000
set_option maxHeartbeats 3200000
namespace Go.Proofs.YtlcojhddnpmgmaaGreat
open Go.RowKit
theorem gn1 (e b x:Nat) (rest:List UInt8) (hx:x<256) (w:World) (he:Er w e b (numB 1 x++rest)):Calls Tryz.prog 104 #[.pointer (some ⟨e,0,none⟩),.int .i64 1] w fun y w'=>y=.returned (.int .i64 x)∧Er w' e b rest∧Fr (fun k=>k=e) w w':=by
 have h:=genum_ e b (numB 1 x) rest (by rw [numB_length];decide) (by rw [numB_length];decide) w he;rw [numB_length,valB_numB 1 x hx] at h;exact h
theorem gn2 (e b x:Nat) (rest:List UInt8) (hx:x<65536) (w:World) (he:Er w e b (numB 2 x++rest)):Calls Tryz.prog 104 #[.pointer (some ⟨e,0,none⟩),.int .i64 2] w fun y w'=>y=.returned (.int .i64 x)∧Er w' e b rest∧Fr (fun k=>k=e) w w':=by
 have h:=genum_ e b (numB 2 x) rest (by rw [numB_length];decide) (by rw [numB_length];decide) w he;rw [numB_length,valB_numB 2 x hx] at h;exact h
theorem gn3 (e b x:Nat) (rest:List UInt8) (hx:x<16777216) (w:World) (he:Er w e b (numB 3 x++rest)):Calls Tryz.prog 104 #[.pointer (some ⟨e,0,none⟩),.int .i64 3] w fun y w'=>y=.returned (.int .i64 x)∧Er w' e b rest∧Fr (fun k=>k=e) w w':=by
 have h:=genum_ e b (numB 3 x) rest (by rw [numB_length];decide) (by rw [numB_length];decide) w he;rw [numB_length,valB_numB 3 x hx] at h;exact h
theorem ggoing_ (e b:Nat) (rest:List UInt8) (w:World) (he:Er w e b rest):Calls Tryz.prog 105 #[.pointer (some ⟨e,0,none⟩)] w fun x w'=>x=.returned (.tuple #[])∧Fr No w w':=by
 obtain ⟨off,c,h,_⟩:=he;exact going_ e b off _ c w h
theorem gcount_ (e b n:Nat) (rest:List UInt8) (hn:n≤4000) (w:World) (he:Er w e b (numB 2 n++rest)):Calls Tryz.prog 108 #[.pointer (some ⟨e,0,none⟩)] w fun x w'=>x=.returned (.int .i64 n)∧Er w' e b rest∧Fr (fun k=>k=e) w w':=by
 have HN:=lH (gn2 e b n rest (by omega) w he);have q0:(n:Int)≤4000:=by omega
 clear he;go_enter Tryz.func108,Tryz.ntmps108;go_wp2_with fail;refine HN.out.mono ?_;rintro x w1 ⟨rfl,e1,f1⟩;have E1:=lH e1;have F1:=lH f1;clear e1 f1 HN;go_wp2_with fail;refine (ggoing_ e b rest w1 E1.out).mono ?_;rintro x w2 ⟨rfl,f2⟩;have E2:=lH (E1.out.no f2);have F2:=lH (F1.out.trans f2 (fun _ _ e=>e.elim));clear f2;go_wp2_with fail;refine (nmust_yes 3 w2).mono ?_;rintro x w3 ⟨rfl,rfl⟩;go_wp2_with fail;exact bodyPost_ret (v:=.int .i64 n) (by simp [results,Tryz.results108,go_sem]) rfl ⟨rfl,E2.out,F2.out⟩
theorem Er.grown {w w':World} {e b:Nat} {rest:List UInt8} {row:Option Nat} (h:Er w e b rest) (g:w.grownBy w' row) (he:row≠some e) (hb:row≠some b):Er w' e b rest:=by
 refine h.fr (S:=fun k=>row=some k) ⟨g.os,g.tape,g.output,g.size,fun k hk hn=>g.block k hk (fun e'=>hn e'.symm)⟩ he hb
def entC (x:Ent):List Value:= [.string x.1,.int .i64 x.2.1,.bool x.2.2]
theorem Tryz.info86:(Tryz.prog.info? 86).map (fun i=>(i.zero,i.size,i.bytes))=some (some (.agg #[.string ⟨#[]⟩,.int .i64 0,.bool false]),3,32):=by kernel_rfl
def Low (n:Nat) (v:Value):Prop:=∀a l c,v=.slice (some a) l c→n≤a.block
theorem Low.nil (n:Nat):Low n (.slice none 0 0):=fun _ _ _ e=>by cases e
theorem Low.le {m n:Nat} {v:Value} (h:Low n v) (hm:m≤n):Low m v:=fun a l c e=>Nat.le_trans hm (h a l c e)
theorem Low.row {w:World} {n t k m:Nat} {v:Value} {vs:List Value} (h:w.ownsRow n t k v m vs):Low n v:=fun a l c e=>by
 subst e;rcases h.2 with ⟨h1,_⟩|⟨b,cap,cur,h1,h2,_⟩
 ·cases h1
 ·cases h1;exact h2
theorem Low.at {n b off l c:Nat} {v:Value} (e:v=.slice (some ⟨b,off,none⟩) l c) (h:n≤b):Low n v:=fun a l' c' e'=>by
 rw [e] at e';cases e';exact h
theorem own86_base {w:World} {base n:Nat} {v:Value} {xs:List Value} (h:w.ownsRow base 86 3 v n xs):∀k,v.ownBlock=some k→base≤k:=by
 intro k hk;rcases h.2 with ⟨rfl,_⟩|⟨g,cp,cur,rfl,hb,hh,_⟩
 ·simp [Value.ownBlock] at hk
 ·simp [Value.ownBlock] at hk;subst hk;exact hb
theorem own86_fr {S:Nat→Prop} {w w':World} {base n:Nat} {v:Value} {xs:List Value} (h:w.ownsRow base 86 3 v n xs) (f:Fr S w w') (hS:∀k,S k→base≤k→False):w'.ownsRow base 86 3 v n xs:=by
 refine ⟨h.1,?_⟩;rcases h.2 with h2|⟨g,cap,cur,e,hb,hh,r⟩
 ·exact .inl h2
 ·exact .inr ⟨g,cap,cur,e,hb,f.block_of hh (fun e=>hS g e hb),r⟩
structure Rg (wb w:World) (e b rb:Nat) (rest:List UInt8) (cs:Array Value):Prop where
 er:Er w e b rest
 rep:w.heap[rb]? =some (.cells cs 29 (0,0))
 re:rb≠e
 br:b≠rb
 fr:Fr (fun k=>k=e∨k=rb) wb w
theorem Rg.no {wb w w':World} {e b rb:Nat} {rest:List UInt8} {cs:Array Value} (h:Rg wb w e b rb rest cs) (f:Fr No w w'):Rg wb w' e b rb rest cs:=
 ⟨h.er.no f,f.block_of h.rep id,h.re,h.br,h.fr.trans f (fun _ _ e=>e.elim)⟩
theorem Rg.read {wb w w':World} {e b rb:Nat} {rest rest':List UInt8} {cs:Array Value} (h:Rg wb w e b rb rest cs) (f:Fr (fun k=>k=e) w w') (g:Er w' e b rest'):Rg wb w' e b rb rest' cs:=
 ⟨g,f.block_of h.rep h.re,h.re,h.br,h.fr.trans f (fun _ _ e=> .inl e)⟩
theorem Rg.store {wb w:World} {e b rb:Nat} {rest:List UInt8} {cs:Array Value} (h:Rg wb w e b rb rest cs) (j:Nat) (v:Value):Rg wb (w.setCell ⟨rb,j,none⟩ v) e b rb rest (cs.setIfInBounds j v):=by
 have f:Fr (fun k=>k=rb) w (w.setCell ⟨rb,j,none⟩ v):=Fr.setCell (S:=fun k=>k=rb) (p:=⟨rb,j,none⟩) (Fr.refl w) (.inl rfl) v;exact ⟨h.er.fr f (fun e=>h.re e.symm) h.br,setCell_at h.rep j v,h.re,h.br,h.fr.trans f (fun _ _ e=> .inr e)⟩
theorem entC_length (x:Ent):(entC x).length=3:=rfl
theorem ent_get:∀(es:List Ent) (j i:Nat) (x:Ent) (u:Value),es[j]? =some x→(entC x)[i]? =some u→(es.flatMap entC)[j*3+i]? =some u
 | [],j,i,x,u,h,_=>by simp at h
 | y::r,0,i,x,u,h,hu=>by
  simp at h;subst h;have hi:i<(entC y).length:=(List.getElem?_eq_some_iff.1 hu).1;rw [List.flatMap_cons,Nat.zero_mul,Nat.zero_add,List.getElem?_append_left hi];exact hu
 | y::r,j+1,i,x,u,h,hu=>by
  have h':r[j]? =some x:=by simpa using h
  rw [List.flatMap_cons,List.getElem?_append_right (by rw [entC_length];omega),entC_length,show (j+1)*3+i - 3=j*3+i by omega];exact ent_get r j i x u h' hu
theorem es_own {w:World} {base n:Nat} {v:Value} {es:List Ent} (h:w.ownsRow base 86 3 v n (es.flatMap entC)) (hn:es.length=n):EsB w w.heap.size v es:=by
 rcases h.2 with ⟨e,h0⟩|⟨g,cap,cur,e,hb,hh,h1,h2,h3,h4⟩
 ·subst h0;exact .inl ⟨e,List.eq_nil_of_length_eq_zero hn⟩
 ·refine .inr ⟨g,0,cap,by rw [e,hn],by omega,lt_of_block hh,lt_of_block hh,⟨cur,_,hh⟩,fun j x hj i u hu=> ?_⟩;have hf:=ent_get es j i x u hj hu;rw [← h4] at hf;have hf2:cur.toList[j*3+i]? =some u:=by
   rw [List.getElem?_take] at hf;split at hf
   ·exact hf
   ·cases hf
  rw [Nat.zero_add,cell_at hh];simpa using hf2
theorem Rg.grown {wb w w':World} {e b rb:Nat} {rest:List UInt8} {cs:Array Value} {row:Option Nat} (h:Rg wb w e b rb rest cs) (g:w.grownBy w' row) (hrow:∀k,row=some k→wb.heap.size≤k) (he:e<wb.heap.size) (hb:b<wb.heap.size) (hr:rb<wb.heap.size):Rg wb w' e b rb rest cs:=
 ⟨h.er.grown g (fun e'=>by have:=hrow _ e';omega) (fun e'=>by have:=hrow _ e';omega),by rw [g.block rb (lt_of_block h.rep) (fun e'=>by have:=hrow _ e'.symm;omega)];exact h.rep,h.re,h.br,h.fr.grown g (fun k hk=> .inr (hrow k hk))⟩
theorem grsteps_ (e b rb:Nat) (en io sz hd sw:Nat) (dir:Bool) (es:List Ent) (mp:List UInt8) (h1:en≤18) (h2:io<65536) (h3:sz<65536) (h4:hd<256) (h5:sw<16777216) (h6:es.length≤4000) (h7:∀x∈es,entOk x) (h8:mp.length≤65535) (w:World)
  (h:Rg w w e b rb (numB 1 en++(numB 2 io++(numB 2 sz++(numB 1 hd++(numB 3 sw++(bitB dir::(numB 2 es.length++(es.flatMap entB++(numB 2 mp.length++mp))))))))) #[.int .i64 0,.int .i64 0,.int .i64 0,.int .i64 0,.int .i64 0,.bool false,.slice none 0 0,.slice none 0 0]):
  Calls Tryz.prog 103 #[.pointer (some ⟨e,0,none⟩),.pointer (some ⟨rb,0,none⟩)] w fun x w'=>x=.returned (.tuple #[])∧∃ev mv B,B≤w'.heap.size∧EsB w' B ev es∧BsB w' B mv mp∧Er w' e b []∧w'.heap[rb]? =some (.cells #[.int .i64 en,.int .i64 io,.int .i64 sz,.int .i64 hd,.int .i64 sw,.bool dir,ev,mv] 29 (0,0))∧Fr (fun k=>k=e∨k=rb) w w'∧Low w.heap.size ev∧Low w.heap.size mv:=by
 have H:=lH h;have H7:=lH h7;have q18:(en:Int)≤18:=by omega
 clear h h7;generalize hmt:(numB 2 mp.length++mp)=mt at*;have HMT:=lH hmt;clear hmt;generalize hnl:es.length=n at*;have HNL:=lH hnl;clear hnl;generalize hft:es.flatMap entB++mt=ft at*;have HFT:=lH hft;clear hft;go_enter Tryz.func103,Tryz.ntmps103;go_wp2_with fail;refine (gn1 e b en _ (by omega) w H.out.er).mono ?_;rintro x w1 ⟨rfl,g,f1⟩;have r1:=H.out.read f1 g;have z1:=frozen_at r1.rep 0;have q1:w1.cell? ⟨rb,0,none⟩=some (.int .i64 0):=by rw [cell_at r1.rep];rfl
 have R1:=lH r1;clear g f1 r1;go_wp2_with fail;have S1:=R1.out.store 0 (.int .i64 en);refine (ggoing_ e b _ _ S1.er).mono ?_;rintro x w2 ⟨rfl,f2⟩;have r2:=S1.no f2;have R2:=lH r2;have q2:w2.cell? ⟨rb,0,none⟩=some (.int .i64 en):=by rw [cell_at r2.rep];rfl
 clear z1 q1 r2 S1 f2;go_wp2_with fail;refine (nmust_yes 4 w2).mono ?_;rintro x w3 ⟨rfl,rfl⟩;clear q2

 go_wp2_with fail;refine (gn2 e b io _ (by omega) _ R2.out.er).mono ?_;rintro x w4 ⟨rfl,g,f4⟩;have r4:=R2.out.read f4 g;have z4:=frozen_at r4.rep 1;have q4:w4.cell? ⟨rb,1,none⟩=some (.int .i64 0):=by rw [cell_at r4.rep];rfl
 have R4:=lH (r4.store 1 (.int .i64 io));clear g f4 r4;go_wp2_with fail;refine (gn2 e b sz _ (by omega) _ R4.out.er).mono ?_;rintro x w6 ⟨rfl,g,f6⟩;have r6:=R4.out.read f6 g;have z6:=frozen_at r6.rep 2;have q6:w6.cell? ⟨rb,2,none⟩=some (.int .i64 0):=by rw [cell_at r6.rep];rfl
 have R6:=lH (r6.store 2 (.int .i64 sz));clear g f6 r6;go_wp2_with fail;refine (gn1 e b hd _ (by omega) _ R6.out.er).mono ?_;rintro x w8 ⟨rfl,g,f8⟩;have r8:=R6.out.read f8 g;have z8:=frozen_at r8.rep 3;have q8:w8.cell? ⟨rb,3,none⟩=some (.int .i64 0):=by rw [cell_at r8.rep];rfl
 have R8:=lH (r8.store 3 (.int .i64 hd));clear g f8 r8;go_wp2_with fail;refine (gn3 e b sw _ (by omega) _ R8.out.er).mono ?_;rintro x w10 ⟨rfl,g,f10⟩;have r10:=R8.out.read f10 g;have z10:=frozen_at r10.rep 4;have q10:w10.cell? ⟨rb,4,none⟩=some (.int .i64 0):=by rw [cell_at r10.rep];rfl
 have R10:=lH (r10.store 4 (.int .i64 sw));clear g f10 r10;go_wp2_with fail;refine (gebool_ e b dir _ _ R10.out.er).mono ?_;rintro x w12 ⟨rfl,g,f12⟩;have r12:=R10.out.read f12 g;have z12:=frozen_at r12.rep 5;have q12:w12.cell? ⟨rb,5,none⟩=some (.bool false):=by rw [cell_at r12.rep];rfl
 have R12:=lH (r12.store 5 (.bool dir));clear g f12 r12;go_wp2_with fail;refine (gcount_ e b n _ h6 _ R12.out.er).mono ?_;rintro x w14 ⟨rfl,g,f14⟩;have R14:=lH (R12.out.read f14 g);clear g f14;go_wp2_with fail;have hrb:rb<w.heap.size:=lt_of_block H.out.rep;have heb:e<w.heap.size:=H.out.er.ey.1;have hbb:b<w.heap.size:=by obtain ⟨_,_,_,_,_,h,_⟩:=H.out.er;exact h
 obtain ⟨i0,hi,hz0,hz1,hz2⟩:=info_parts Tryz.info86;have HI:=lH hi;have HZ0:=lH hz0;have HZ1:=lH hz1;have HZ2:=lH hz2;clear hi hz0 hz1 hz2 z4 q4 z6 q6 z8 q8 z10 q10 z12 q12;go_loopw [3,4,31] (fun _ _ i wr=>∃(j:Nat) (v:Value),i=.int .i64 j∧j≤n∧Hid (Rg w wr e b rb ((es.drop j).flatMap entB++mt) #[.int .i64 en,.int .i64 io,.int .i64 sz,.int .i64 hd,.int .i64 sw,.bool dir,v,.slice none 0 0])∧Hid (wr.ownsRow w.heap.size 86 3 v j ((es.take j).flatMap entC))) (fun _ _ i _=>n - (intOf i).toNat)
 case atStart=>exact ⟨0,.slice none 0 0,rfl,Nat.zero_le _,lH (by have:=R14.out;rw [← HFT.out] at this;exact this),lH ⟨rfl,.inl ⟨rfl,rfl⟩⟩⟩
 case round=>
  obtain ⟨j,v,rfl,hj,RR,OO⟩:=hrel;obtain ⟨a,cc,rfl⟩:∃a cc,v=.slice a j cc:=by
   rcases OO.out.2 with ⟨e1,hn⟩|⟨g,cp,cur,e1,_⟩
   ·exact ⟨none,0,by rw [hn,e1]⟩
   ·exact ⟨_,_,e1⟩
  by_cases hlt:j<n
  ·have hjl:j<es.length:=by have:=HNL.out;omega
   have hdr:es.drop j=es[j]::es.drop (j+1):=List.drop_eq_getElem_cons hjl;have htk:es.take (j+1)=es.take j++ [es[j]]:=List.take_succ_eq_append_getElem hjl;have hok:=H7.out _ (List.getElem_mem hjl);generalize es[j]=x at hdr htk hok;obtain ⟨nm,io',di⟩:=x;obtain ⟨k1,k2,k3⟩:=hok;dsimp only at k1 k2 k3;obtain ⟨m,rfl⟩:∃m:Nat,io'=m:=⟨io'.toNat,by omega⟩
   have hbytes:(es.drop j).flatMap entB++mt=numB 2 nm.data.toList.length++(nm.data.toList++(numB 2 m++(bitB di::((es.drop (j+1)).flatMap entB++mt)))):=by
    rw [hdr];simp [entB]
   have r0:=RR.out;rw [hbytes] at r0;have HR0:=lH r0;have HTK:=lH htk;have q1:(0:Int)≤(j:Int):=(by omega)
   have q2:(j:Int)<(n:Int):=(by omega)
   clear r0 hbytes hdr htk RR;go_wp2_with fail;refine (getext_ e b 65535 _ _ (by omega) k1 wr HR0.out.er).mono ?_;rintro y wA ⟨rfl,gA,fA⟩;have RA:=lH (HR0.out.read fA gA);have OA:=lH (own86_fr OO.out fA (fun k hk hg=>by omega));rw [show (⟨nm.data.toList.toArray⟩:ByteArray)=nm by simp];clear gA fA;go_wp2_with fail;refine (gn2 e b m _ (by omega) wA RA.out.er).mono ?_;rintro y wB ⟨rfl,gB,fB⟩;have rB:=RA.out.read fB gB;have RB:=lH rB;have OB:=lH (own86_fr OA.out fB (fun k hk hg=>by omega));have c6:wB.cell? ⟨rb,6,none⟩=some (.slice a j cc):=(by rw [cell_at rB.rep];rfl)
   have hob:=own86_base OB.out;have hnr:(Value.slice a j cc).ownBlock≠some rb:=fun e=>by have:=hob _ e;omega
   have HOB:=lH hob;have hwB:w.heap.size≤wB.heap.size:=rB.fr.size;clear gB fB rB hob;go_wp2_with fail
   go_region_law
    (first
      | (rw [if_pos (show Region.wanted _ _=true from rfl)];go_simp;refine (gebool_ e b di _ _ (RB.out.er.no (Fr.refl wB).drew)).mono ?_;rintro y wC ⟨rfl,gC,fC⟩;have OC:=own86_fr OB.out ((Fr.refl (S:=fun k=>k=e) wB).drew.trans fC (fun _ _ e=>e)) (fun k hk hg=>by omega);have hwC:w.heap.size≤wC.heap.size:=Nat.le_trans hwB fC.size;have c6C:wC.cell? ⟨rb,6,none⟩=some (.slice a j cc):=fC.cell_of ((Fr.refl (S:=No) wB).drew.cell_of c6 id) RB.out.re;have c6D:(wC.alloc (.cells #[.string nm,.int .i64 m,.bool di] 86)).cell? ⟨rb,6,none⟩=some (.slice a j cc):=((Fr.refl (S:=No) wC).alloc _).cell_of c6C id)
      | (refine step_append_lies _ (by rfl) _ _ _ (by rfl) w.heap.size 86 i0 _ 3 32 Tryz.underlying26 HI.out HZ0.out HZ1.out HZ2.out rfl (by omega) (.slice a j cc) j ((es.take j).flatMap entC) (by rfl) (OC.alloc _)
          ⟨wC.heap.size,0,none⟩ 1 1 [.string nm,.int .i64 m,.bool di] (by rfl) (by rfl) (World.news_of_block (cs:= #[.string nm,.int .i64 m,.bool di]) (t:=86) (fr:=(0,0)) (heap_alloc_new wC _)) (by simp [Value.oneCell'])
          (by omega) (by unfold maxLen;omega) (by omega) (by rw [heap_size_alloc];omega) (wC.heap.size+1) (by simp) ?_;intro gg cap wD hownD hgrow hat hgl;have kD:wD.heap[rb]? =some (.cells #[.int .i64 en,.int .i64 io,.int .i64 sz,.int .i64 hd,.int .i64 sw,.bool dir,.slice a j cc,.slice none 0 0] 29 (0,0)):=(by rw [hgrow.block rb (by rw [heap_size_alloc];omega) (Ne.symm hnr)];exact ((Fr.refl (S:=No) wC).alloc _).block_of (fC.block_of ((Fr.refl (S:=No) wB).drew.block_of RB.out.rep id) RB.out.re) id);have zD:=frozen_at kD 6;have c6E:wD.cell? ⟨rb,6,none⟩=some (.slice a j cc):=(by rw [cell_at kD];rfl)))
   all_goals
    have fBC:Fr (fun k=>k=e) wB wC:=(Fr.refl (S:=fun k=>k=e) wB).drew.trans fC (fun _ _ e=>e);have rC:=RB.out.read fBC gC;have fA2:Fr No wC (wC.alloc (.cells #[.string nm,.int .i64 m,.bool di] 86)):=(Fr.refl wC).alloc _;have rE:=rC.no fA2;have rD:Rg w wD e b rb ((es.drop (j+1)).flatMap entB++mt) #[.int .i64 en,.int .i64 io,.int .i64 sz,.int .i64 hd,.int .i64 sw,.bool dir,.slice a j cc,.slice none 0 0]:=rE.grown hgrow HOB.out heb hbb hrb;have rS:=rD.store 6 (.slice (some ⟨gg,0,none⟩) (j+1) cap);have gne:∀k,k=rb→w.heap.size≤k→False:=fun k hk hg=>by omega
    have oS:=own86_fr hownD (Fr.setCell (S:=fun k=>k=rb) (p:=⟨rb,6,none⟩) (Fr.refl wD) (.inl rfl) (.slice (some ⟨gg,0,none⟩) (j+1) cap)) gne;have RS:Hid (Rg w (wD.setCell ⟨rb,6,none⟩ (.slice (some ⟨gg,0,none⟩) (j+1) cap)) e b rb ((es.drop (j+1)).flatMap entB++mt) #[.int .i64 en,.int .i64 io,.int .i64 sz,.int .i64 hd,.int .i64 sw,.bool dir,.slice (some ⟨gg,0,none⟩) (j+1) cap,.slice none 0 0]):=lH rS;have OS:=lH oS;clear rS oS rD rE fA2 rC fBC gC fC hownD hgrow hat hgl kD zD c6 c6C c6D c6E gne;generalize wD.setCell ⟨rb,6,none⟩ (.slice (some ⟨gg,0,none⟩) (j+1) cap)=wS at*;go_wp2_with fail;refine (ggoing_ e b _ wS RS.out.er).mono ?_;rintro y wT ⟨rfl,fT⟩;have RT:=lH (RS.out.no fT);have OT:=lH (own86_fr OS.out fT (fun k hk hg=>hk));clear fT;go_wp2_with fail;go_roundw
    case rel=>
     refine ⟨j+1,_,by go_num,by omega,RT,lH ?_⟩;rw [HTK.out,List.flatMap_append];exact OT.out
    case measure=>simp [intOf];omega
  ·obtain rfl:j=n:=by omega
   have r0:=RR.out;rw [List.drop_of_length_le (by have:=HNL.out;omega)] at r0;have o0:=OO.out;rw [List.take_of_length_le (by have:=HNL.out;omega)] at o0;have hr0:=r0;rw [List.flatMap_nil,List.nil_append,← HMT.out] at hr0;have HR0:=lH hr0;have O0:=lH o0;have z7:=frozen_at r0.rep 7;have her:=hr0.er;rw [show numB 2 mp.length++mp=numB 2 mp.length++(mp++ []) by simp] at her;have hg:=geraw_ e b 65535 mp [] (by omega) h8 wr her;generalize hml:mp.length=ml at hg;have HML:=lH hml;have HG:=lH hg;clear r0 hr0 o0 her hg hml h8 hlt hj;go_wp2_with fail;refine HG.out.mono ?_;rintro y wA ⟨b',c',rfl,sl,hbb',gA,fA⟩;have rA:=HR0.out.read fA gA;have oA:=own86_fr O0.out fA (fun k hk hg=>by omega);have RA:=lH rA;have OA:=lH oA;have SL:=lH sl;have z7:=frozen_at rA.rep 7;have c7:wA.cell? ⟨rb,7,none⟩=some (.slice none 0 0):=(by rw [cell_at rA.rep];rfl)
   have hwr:w.heap.size≤wr.heap.size:=HR0.out.fr.size;clear sl gA fA rA oA HG;go_wp2_with fail;have fS:Fr (fun k=>k=rb) wA (wA.setCell ⟨rb,7,none⟩ (.slice (some ⟨b',0,none⟩) ml c')):=Fr.setCell (S:=fun k=>k=rb) (p:=⟨rb,7,none⟩) (Fr.refl wA) (.inl rfl) _;have rS:=RA.out.store 7 (.slice (some ⟨b',0,none⟩) ml c');have oS:=own86_fr OA.out fS (fun k hk hg=>by omega);have slS:SlIs (wA.setCell ⟨rb,7,none⟩ (.slice (some ⟨b',0,none⟩) ml c')) (.slice (some ⟨b',0,none⟩) ml c') mp b' 0 c':=by
    have s:=SL.out;exact ⟨s.1,s.2.1,Nat.lt_of_lt_of_le s.2.2.1 fS.size,fun j y hj=>fS.cell_of (s.2.2.2 j y hj) (by dsimp only;omega)⟩
   exact bodyPost_end (v:=.tuple #[]) (by simp [results,Tryz.results103,go_sem]) rfl ⟨rfl,.slice a j cc,_,_,Nat.le_refl _,es_own oS HNL.out,.inr ⟨b',0,c',slS,slS.2.2.1⟩,rS.er,rS.rep,rS.fr,Low.row oS,Low.at rfl (by omega)⟩
end Go.Proofs.YtlcojhddnpmgmaaGreat
