/- Part of the proof; the last text says what is proved. -/
import Derived.Test.YtlcojhddnpmgmaaGreatW13
set_option linter.unusedSimpArgs false
set_option linter.unusedVariables false
set_option maxRecDepth 100000
set_option maxHeartbeats 6400000
namespace Go.Proofs.YtlcojhddnpmgmaaGreat
open Go.RowKit
def namesOf (l:List UInt8):List (List UInt8):=(pathOf l).getD []
def moveE (T:Tree) (p q:List UInt8):Int:=
 if (lookOf T p).1≠0 then (lookOf T p).1 else if (lookOf T p).2.1=1 then 8 else if (pathOf q).isNone=true then 12
 else if (namesOf p).isPrefixOf (namesOf q)=true then 1 else if (namesOf q).isPrefixOf (namesOf p)=true then 1
 else if (placeOf T q).1≠0 then (placeOf T q).1 else if (kid T (placeOf T q).2.1 (placeOf T q).2.2).isSome=true then 7 else 0
def movedT (T:Tree) (p q:List UInt8):Tree:=if moveE T p q=0 then moved T (lookOf T p).2.1 (placeOf T q).2.1 (placeOf T q).2.2 (lookOf T p).2.2 else T
theorem look_path {T:Tree} {l:List UInt8} (h:(lookOf T l).1=0):pathOf l=some (namesOf l)∧walkOf T 1 (namesOf l)=(0,(lookOf T l).2.1):=by
 unfold lookOf namesOf at*;cases hp:pathOf l with
 | none=>rw [hp] at h;cases h
 | some ps=>
  rw [hp] at h;refine ⟨rfl,?_⟩;dsimp only at h ⊢;unfold seen at h ⊢;by_cases h0:(walkOf T 1 ps).1=0
  ·rw [if_pos h0];rw [Option.getD_some];exact Prod.ext h0 rfl
  ·rw [if_neg h0] at h;exact absurd h h0
theorem place_path {T:Tree} {l:List UInt8} (h:(placeOf T l).1=0):∃D,namesOf l=D++ [(placeOf T l).2.2]∧walkOf T 1 D=(0,(placeOf T l).2.1):=by
 unfold placeOf namesOf at*;cases hp:pathOf l with
 | none=>rw [hp] at h;cases h
 | some ps=>
  rw [hp] at h;rcases ps with _|⟨p,ps⟩
  ·cases h
  ·dsimp only at h ⊢;refine ⟨(p::ps).dropLast,?_,?_⟩
   ·unfold stands at h ⊢;by_cases h0:(seen T (p::ps).dropLast).1=0
    ·rw [if_pos h0] at h ⊢;by_cases h1:(seen T (p::ps).dropLast).2.2=true
     ·rw [if_pos h1];rw [Option.getD_some];exact (List.dropLast_concat_getLast _).symm
     ·rw [if_neg h1] at h;cases h
    ·rw [if_neg h0] at h;exact absurd h h0
   ·unfold stands at h ⊢;by_cases h0:(seen T (p::ps).dropLast).1=0
    ·rw [if_pos h0] at h ⊢;by_cases h1:(seen T (p::ps).dropLast).2.2=true
     ·rw [if_pos h1];dsimp only;unfold seen at h0 ⊢;by_cases h2:(walkOf T 1 (p::ps).dropLast).1=0
      ·rw [if_pos h2];exact Prod.ext h2 rfl
      ·rw [if_neg h2] at h0;exact absurd h0 h2
     ·rw [if_neg h1] at h;cases h
    ·rw [if_neg h0] at h;exact absurd h h0
theorem move_moves {T:Tree} (ht:TreeOk T) {p q:List UInt8} {x:Node} (h1:(lookOf T p).1=0) (hx:T (lookOf T p).2.1=some x) (h2:(lookOf T p).2.1≠1) (h3:¬(namesOf p).isPrefixOf (namesOf q)=true) (h4:(placeOf T q).1=0) (h5:kid T (placeOf T q).2.1 (placeOf T q).2.2=none):
  Moves T (lookOf T p).2.1 x (placeOf T q).2.1 (placeOf T q).2.2:=by
 obtain ⟨_,w1⟩:=look_path h1;obtain ⟨D,hD,w2⟩:=place_path h4;obtain ⟨⟨y,hy,hyd⟩,hok⟩:=place_ok ht h4;refine ⟨ht,hx,h2,?_,⟨y,hy,hyd⟩,?_,hok,h5⟩
 ·intro e;rcases List.eq_nil_or_concat (namesOf p) with h|⟨rs,s,h⟩
  ·rw [h] at w1;simp only [walkOf,Prod.mk.injEq,true_and] at w1;exact h2 w1.symm
  ·rw [List.concat_eq_append] at h;have w1':=w1;rw [h] at w1';obtain ⟨d,a1,a2,_⟩:=walk_last w1';obtain ⟨b,hb⟩:=(kid_iff ht).1 a2;rw [hx] at hb;cases hb;dsimp only at e;subst e;have:=walk_unique ht _ rs _ _ (Nat.le_refl _) a1 w1';have hl:=congrArg List.length this;simp at hl
 ·intro e;rw [e] at w2;have:=walk_unique ht _ D _ _ (Nat.le_refl _) w2 w1;apply h3;rw [List.isPrefixOf_iff_prefix,hD,this];exact ⟨_,rfl⟩
def GMove (w:World) (o:Nat→Nat) (K t:Nat) (T:Tree) (p q:List UInt8) (e:Ending) (w':World):Prop:=
 e=.returned (.int .i64 (moveE T p q))∧∃o',Step (treeC K) w o w' o'∧TreeAt w' o' K t (movedT T p q)
theorem gmove_ (o:Nat→Nat) (K t:Nat) (T:Tree) (p q:List UInt8) (w:World) (hl:p.length≤1000000) (hlq:q.length≤1000000) (h:TreeAt w o K t T) (ht:TreeOk T) (hf:Fresh w o):
  Calls Tryz.prog 135 #[.pointer (some ⟨t,0,none⟩),.string (ba p),.string (ba q)] w (GMove w o K t T p q):=by
 have HH:=lH h;have HT:=lH ht;have HF:=lH hf;have HP:=lH (glook_ o K t T p w hl h ht hf);have HPL:Hid (∀w',Fr No w w'→Calls Tryz.prog 194 #[.pointer (some ⟨t,0,none⟩),.string (ba q)] w' fun e w''=>e=.returned (.tuple #[.int .i64 (placeOf T q).2.1,.string (ba (placeOf T q).2.2),.int .i64 (placeOf T q).1])∧Fr No w' w''):=
  lH (fun w' f=>gplace_ o K t T q w' hlq (h.no ht hf f) ht (fun k hk=>hf k (Nat.le_trans f.size hk)))
 have HSQ:Hid (∀w',Calls Tryz.prog 125 #[.string (ba q)] w' (SplitPost w' q)):=lH (fun w'=>gsplit_ q w' hlq);have hm:moveE T p q=if (lookOf T p).1≠0 then (lookOf T p).1 else if (lookOf T p).2.1=1 then 8 else if (pathOf q).isNone=true then 12
  else if (namesOf p).isPrefixOf (namesOf q)=true then 1 else if (namesOf q).isPrefixOf (namesOf p)=true then 1
  else if (placeOf T q).1≠0 then (placeOf T q).1 else if (kid T (placeOf T q).2.1 (placeOf T q).2.2).isSome=true then 7 else 0:=rfl
 have hlk:=look_ok (l:=p) ht;have hlp:=look_path (T:=T) (l:=p);have HMM:=lH (fun x=>move_moves (T:=T) (p:=p) (q:=q) (x:=x) ht);have HMT:Hid (movedT T p q=if moveE T p q=0 then moved T (lookOf T p).2.1 (placeOf T q).2.1 (placeOf T q).2.2 (lookOf T p).2.2 else T):=lH rfl;have HPO:=lH (place_ok (l:=q) ht);have hWI:∀ps qs,pathOf p=some ps→pathOf q=some qs→(∀w',Calls Tryz.prog 198 #[.string (ba q),.string (ba p)] w' fun e w''=>e=.returned (.bool (ps.isPrefixOf qs))∧Fr No w' w'')∧(∀w',Calls Tryz.prog 198 #[.string (ba p),.string (ba q)] w' fun e w''=>e=.returned (.bool (qs.isPrefixOf ps))∧Fr No w' w''):=
  fun ps qs h1 h2=>⟨fun w'=>gwithin_ q p qs ps w' hlq hl h2 h1,fun w'=>gwithin_ p q ps qs w' hl hlq h1 h2⟩
 have HR:Hid (∀er',er'≠0→moveE T p q=er'→∀e w',e=.returned (.int .i64 er')→Fr No w w'→GMove w o K t T p q e w'):=lH (fun er' hne hm e w' he f=>⟨by rw [he,hm],o,Step.no hf f,by
  have:movedT T p q=T:=by unfold movedT;rw [hm,if_neg hne]
  rw [this];exact h.no ht hf f⟩)
 have HQ:Hid (∀e w',moveE T p q=0→e=.returned (.int .i64 0)→(∃o',Step (treeC K) w o w' o'∧TreeAt w' o' K t (movedT T p q))→GMove w o K t T p q e w'):=lH (fun e w' hm he hx=>⟨by rw [he,hm],hx⟩);generalize hQ:GMove w o K t T p q=Q at*;generalize lookOf T p=P at*;obtain ⟨er,k,is⟩:=P;generalize placeOf T q=R at*;obtain ⟨er2,at_,last⟩:=R;clear hQ h hl hf hlq;dsimp only at hm hlk HP hlp HMM HMT HPL HPO;by_cases he:er=0
 ·subst he;obtain ⟨x,hx,hxd⟩:=hlk rfl;obtain ⟨hpp,_⟩:=hlp rfl;rw [if_neg (by simp)] at hm;by_cases hk1:k=1
  ·subst hk1;have HV:Hid (moveE T p q=8):=lH (by rw [hm,if_pos rfl]);clear hm hlk hx hxd ht hWI hlp hpp;go_enter Tryz.func135,Tryz.ntmps135;go_wp2_with fail;refine HP.out.mono ?_;rintro e w2 ⟨rfl,f2⟩;go_wp2_with fail;exact HR.out 8 (by decide) HV.out _ _ rfl f2
  ·rw [if_neg hk1] at hm;have q1:((k:Int)==1)=false:=(by rw [beq_eq_false_iff_ne];omega)
   cases hpq:pathOf q with
   | none=>
    rw [hpq] at hm;have HV:Hid (moveE T p q=12):=lH (by rw [hm];rfl);have HS2:Hid (∀w',Calls Tryz.prog 125 #[.string (ba q)] w' fun e w''=>Fr No w' w''∧e=.returned (.tuple #[.slice none 0 0,.int .i64 12])):=lH (fun w'=>(HSQ.out w').mono (fun e w'' h=>by unfold SplitPost at h;rw [hpq] at h;exact h));clear hm hlk hx hxd ht hWI hlp hpp hpq;go_enter Tryz.func135,Tryz.ntmps135;go_wp2_with fail;refine HP.out.mono ?_;rintro e w2 ⟨rfl,f2⟩;go_wp2_with fail;refine (HS2.out _).mono ?_;rintro e w3 ⟨f3,rfl⟩;go_wp2_with fail;exact HR.out 12 (by decide) HV.out _ _ rfl (f2.trans f3 (fun _ _ e=>e))
   | some qs=>
    have hnq:namesOf q=qs:=(by unfold namesOf;rw [hpq];rfl)
    have HS2:Hid (∀w',Calls Tryz.prog 125 #[.string (ba q)] w' fun e w''=>Fr No w' w''∧∃a n c,e=.returned (.tuple #[.slice a n c,.int .i64 0])):=lH (fun w'=>(HSQ.out w').mono (fun e w'' h=>by
     unfold SplitPost at h;rw [hpq] at h;obtain ⟨h1,v,h2,h3⟩:=h;obtain ⟨a,c,rfl⟩:=h3.shape;exact ⟨h1,a,_,c,h2⟩))
    rw [hpq] at hm;obtain ⟨hW1,hW2⟩:=hWI _ _ hpp hpq;rw [hnq] at hm HMM;have HW1:=lH hW1;have HW2:=lH hW2;simp only [Option.isNone_some,Bool.false_eq_true,if_false] at hm;generalize namesOf p=ps at*;clear hWI hW1 hW2 hlp hpp hpq hlk;cases hb1:ps.isPrefixOf qs with
    | true=>
     rw [hb1] at hm HW1;have HV:Hid (moveE T p q=1):=lH (by rw [hm];rfl);clear hm hx hxd ht hnq hb1;go_enter Tryz.func135,Tryz.ntmps135;go_wp2_with fail;refine HP.out.mono ?_;rintro e w2 ⟨rfl,f2⟩;go_wp2_with fail;refine (HS2.out _).mono ?_;rintro e w3 ⟨f3,a3,n3,c3,rfl⟩;go_wp2_with fail;refine (HW1.out _).mono ?_;rintro e w4 ⟨rfl,f4⟩;go_wp2_with fail;exact HR.out 1 (by decide) HV.out _ _ rfl ((f2.trans f3 (fun _ _ e=>e)).trans f4 (fun _ _ e=>e))
    | false=>
     rw [hb1] at hm HW1 HMM;cases hb2:qs.isPrefixOf ps with
     | true=>
      rw [hb2] at hm HW2;have HV:Hid (moveE T p q=1):=lH (by rw [hm];rfl);clear hm hx hxd ht hnq hb1 hb2;go_enter Tryz.func135,Tryz.ntmps135;go_wp2_with fail;refine HP.out.mono ?_;rintro e w2 ⟨rfl,f2⟩;go_wp2_with fail;refine (HS2.out _).mono ?_;rintro e w3 ⟨f3,a3,n3,c3,rfl⟩;go_wp2_with fail;refine (HW1.out _).mono ?_;rintro e w4 ⟨rfl,f4⟩;go_wp2_with fail;refine (HW2.out _).mono ?_;rintro e w5 ⟨rfl,f5⟩;go_wp2_with fail;exact HR.out 1 (by decide) HV.out _ _ rfl (((f2.trans f3 (fun _ _ e=>e)).trans f4 (fun _ _ e=>e)).trans f5 (fun _ _ e=>e))
     | false=>
      rw [hb2] at hm HW2;simp only [Bool.false_eq_true,if_false] at hm;by_cases he2:er2=0
      ·subst he2;rw [if_neg (by simp)] at hm;obtain ⟨⟨y,hy,hyd⟩,hlast⟩:=HPO.out rfl;have HL:=lH hlast;have HY:=lH hy;have HYD:=lH hyd;have HX:=lH hx;have hat:=ht.lt hy;have hk2:=ht.lt hx;cases hkd:kid T at_ last with
       | some j=>
        rw [hkd] at hm;have HV:Hid (moveE T p q=7):=lH (by rw [hm];rfl);have HK:=lH hkd;clear hm hx hxd ht hnq hb1 hb2 hlast hy hyd hkd;go_enter Tryz.func135,Tryz.ntmps135;go_wp2_with fail;refine HP.out.mono ?_;rintro e w2 ⟨rfl,f2⟩;go_wp2_with fail;refine (HS2.out _).mono ?_;rintro e w3 ⟨f3,a3,n3,c3,rfl⟩;go_wp2_with fail;refine (HW1.out _).mono ?_;rintro e w4 ⟨rfl,f4⟩;go_wp2_with fail;refine (HW2.out _).mono ?_;rintro e w5 ⟨rfl,f5⟩;go_wp2_with fail;have F5:=((f2.trans f3 (fun _ _ e=>e)).trans f4 (fun _ _ e=>e)).trans f5 (fun _ _ e=>e);refine (HPL.out _ F5).mono ?_;rintro e w6 ⟨rfl,f6⟩;have F6:=F5.trans f6 (fun _ _ e=>e);obtain ⟨mb,tp,RR⟩:=(HH.out.no HT.out HF.out F6).reads HT.out;have R:=RR w6 (Fr.refl _);have c0:=R.ct;have hl:=R.look at_ y HY.out;obtain ⟨ib,ci,hi⟩:=R.kids at_ y HY.out HYD.out;have hkk:=hi last HL.out;rw [HK.out] at hkk;clear R RR hi;go_wp2_with fail;exact HR.out 7 (by decide) HV.out _ _ rfl F6
       | none=>
        rw [hkd] at hm;have HV:Hid (moveE T p q=0):=lH (by rw [hm];rfl);have hmv:=HMM.out x rfl hx hk1 (by simp) rfl hkd;have HMV:=lH hmv;have HTM:Hid (movedT T p q=moved T k at_ last x.dir):=lH (by rw [HMT.out,if_pos HV.out,hxd]);have HK:=lH hkd;obtain ⟨u,hu,hud⟩:=ht.up k x hx hk1;have HU:=lH hu;have HUD:=lH hud;have hup:=ht.lt hu;have HNM:=lH (ht.name k x hx hk1);have hth:things T≤129:=Nat.le_trans List.countP_le_length (by rw [List.length_range];omega);have hkn:kidN T at_<1000:=Nat.lt_of_le_of_lt (List.countP_le_length) (by rw [List.length_range];omega);have hkp:=kid_of ht hx rfl rfl;have HKP:=lH hkp;clear hm hx hxd ht hnq hb1 hb2 hlast hy hyd hkd hmv hu hud hkp;go_enter Tryz.func135,Tryz.ntmps135;go_wp2_with fail;refine HP.out.mono ?_;rintro e w2 ⟨rfl,f2⟩;go_wp2_with fail;refine (HS2.out _).mono ?_;rintro e w3 ⟨f3,a3,n3,c3,rfl⟩;go_wp2_with fail;refine (HW1.out _).mono ?_;rintro e w4 ⟨rfl,f4⟩;go_wp2_with fail;refine (HW2.out _).mono ?_;rintro e w5 ⟨rfl,f5⟩;go_wp2_with fail;have F5:=((f2.trans f3 (fun _ _ e=>e)).trans f4 (fun _ _ e=>e)).trans f5 (fun _ _ e=>e);refine (HPL.out _ F5).mono ?_;rintro e w6 ⟨rfl,f6⟩;have F6:=F5.trans f6 (fun _ _ e=>e);have hf6:Fresh w6 o:=fun k hk=>HF.out k (Nat.le_trans F6.size hk);obtain ⟨mb,tp,h2,h3,h4,h5,h6⟩:=HH.out.no HT.out HF.out F6;have hkc:∃im,w6.heap[tp k]? =some (.cells #[.int .i64 x.up,.string (ba x.name),.bool x.dir,.map im] 141 (0,0)):=by
         have:=h6 k x HX.out;obtain ⟨up,name,dir⟩:=x;cases dir with
         | false=>exact ⟨_,this.2⟩
         | true=>
          obtain ⟨_,jb,_,h,_⟩:=this;exact ⟨_,h⟩
        obtain ⟨im,hkc⟩:=hkc;obtain ⟨id_,i1,i2,i3,i4⟩:=TreeAt.dir (h6 at_ y HY.out) HYD.out;obtain ⟨iu,u1,u2,u3,u4⟩:=TreeAt.dir (h6 x.up u HU.out) HUD.out;have hotk:=(h6 k x HX.out).1;have c0:w6.cell? ⟨t,0,none⟩=some (.map (some mb)):=(by rw [cell_at h3];rfl)
        have c1:w6.cell? ⟨tp at_,3,none⟩=some (.map (some id_)):=(by rw [cell_at i2];rfl)
        have c2:w6.cell? ⟨tp x.up,3,none⟩=some (.map (some iu)):=(by rw [cell_at u2];rfl)
        have c3:w6.cell? ⟨tp k,0,none⟩=some (.int .i64 x.up):=(by rw [cell_at hkc];rfl)
        have c4:w6.cell? ⟨tp k,1,none⟩=some (.string (ba x.name)):=(by rw [cell_at hkc];rfl)
        have e3:thm T tp (at_:Int)=some (tp at_):=(by simp [thm,HY.out])
        have e4:thm T tp (k:Int)=some (tp k):=(by simp [thm,HX.out])
        have e5:thm T tp (x.up:Int)=some (tp x.up):=(by simp [thm,HU.out])
        have l1:=h5.look (at_:Int) (by unfold encI I64;dsimp only;omega) (t:=130) (e:=142) Tryz.underlying130 (z:=.pointer none) (by kernel_rfl) false;rw [e3] at l1;have l1':(Instr.lookup 130 (.map (some mb)) (.int .i64 at_) false).run Tryz.prog w6=.ok (.pointer (some ⟨tp at_,0,none⟩)) w6:=l1;have l2:=h5.look (k:Int) (by unfold encI I64;dsimp only;omega) (t:=130) (e:=142) Tryz.underlying130 (z:=.pointer none) (by kernel_rfl) false;rw [e4] at l2;have l2':(Instr.lookup 130 (.map (some mb)) (.int .i64 k) false).run Tryz.prog w6=.ok (.pointer (some ⟨tp k,0,none⟩)) w6:=l2;have l3:=(h5.fr (Fr.refl (S:=No) w6).drew id).look (x.up:Int) (by unfold encI I64;dsimp only;omega) (t:=130) (e:=142) Tryz.underlying130 (z:=.pointer none) (by kernel_rfl) false;rw [e5] at l3;have l3':(Instr.lookup 130 (.map (some mb)) (.int .i64 x.up) false).run Tryz.prog w6.drew=.ok (.pointer (some ⟨tp x.up,0,none⟩)) w6.drew:=l3;have l4:=i3.look (ba last) (show (ba last).size≤maxLen by rw [ba_size];have:=(okName_no last HL.out).2.2;unfold maxLen;omega) (t:=139) (e:=3) Tryz.underlying139 (z:=.int .i64 0) (by kernel_rfl) true;rw [show kidm T at_ (ba last)=none by simp [kidm,ba_list,HK.out]] at l4;have l4':(Instr.lookup 139 (.map (some id_)) (.string (ba last)) true).run Tryz.prog w6=.ok (.tuple #[.int .i64 0,.bool false]) w6:=l4;obtain ⟨w7,hd1,md1,fd1⟩:=(u3.fr (Fr.refl (S:=No) w6).drew id).del (ba x.name) (show (ba x.name).size≤maxLen by rw [ba_size];have:=(okName_no _ HNM.out).2.2;unfold maxLen;omega) (t:=139) (e:=3) Tryz.underlying139 0;rw [show kidm T x.up (ba x.name)=some (k:Int) by simp [kidm,ba_list,HKP.out]] at md1;have hd1':(Builtin.delete_ #[139,9] 0 #[.map (some iu),.string (ba x.name)]).run Tryz.prog w6.drew=.ok (.tuple #[]) w7:=hd1;have g7:Fr (· =iu) w6 w7:=(Fr.refl w6).drew.trans fd1 (fun _ _ e=>e);have k7:=g7.block_of hkc (u3.ne hkc);have c7:w7.cell? ⟨tp k,0,none⟩=some (.int .i64 x.up):=(by rw [cell_at k7];rfl)
        have c8:w7.cell? ⟨tp k,1,none⟩=some (.string (ba x.name)):=(by rw [cell_at k7];rfl)
        have z7:w7.frozen? ⟨tp k,0,none⟩=false:=frozen_at k7 0;have z8:w7.frozen? ⟨tp k,1,none⟩=false:=frozen_at k7 1;have H3:=lH h3;have H5:=lH h5;have H6:=lH h6;have I2:=lH i2;have I3:=lH i3;have U2:=lH u2;have U3:=lH u3;have HKC:=lH hkc;have K7:=lH k7;have MD1:=lH md1;have G7:=lH g7;obtain ⟨w8,hw8⟩:∃w8,w8=(w7.setCell ⟨tp k,0,none⟩ (.int .i64 at_)).setCell ⟨tp k,1,none⟩ (.string (ba last)):=⟨_,rfl⟩
        have f8:Fr (· =tp k) w7 w8:=hw8▸(fr_set w7 (tp k) 0 _).trans (fr_set _ (tp k) 1 _) (fun _ _ e=>e);have k8:w8.heap[tp k]? =some (.cells #[.int .i64 at_,.string (ba last),.bool x.dir,.map im] 141 (0,0)):=by
         rw [hw8];exact setCell_at (setCell_at k7 0 _) 1 _
        have hdne:=HMV.out.dne;have hune:=HMV.out.une;have n1:tp k≠mb:=h5.ne hkc;have n2:tp k≠id_:=i3.ne hkc;have n3:tp k≠iu:=u3.ne hkc;have n4:mb≠id_:=(by rintro rfl;omega)
        have n5:mb≠iu:=(by rintro rfl;omega)
        have n6:tp at_≠tp k:=fun e=>by rw [e] at i4;omega
        have m5:MapAt encI w8 mb (things T) (thm T tp):=(h5.fr g7 n5).fr f8 (Ne.symm n1);have i28:w8.heap[tp at_]? =some (.cells #[.int .i64 y.up,.string (ba y.name),.bool true,.map (some id_)] 141 (0,0)):=f8.block_of (g7.block_of i2 (u3.ne i2)) n6;have t8:w8.heap[t]? =some (.cells #[.map (some mb)] 132 (0,0)):=f8.block_of (g7.block_of h3 (u3.ne h3)) (by rintro rfl;omega);have hmu:x.up≠at_→MapAt encS w8 iu (kidN T x.up - 1) (fun z=>if z=ba x.name then none else kidm T x.up z):=fun _=>md1.fr f8 (Ne.symm n3);have hmd:MapAt encS w8 id_ (if x.up=at_ then kidN T at_ - 1 else kidN T at_) (fun z=>if x.up=at_∧z=ba x.name then none else kidm T at_ z):=by
         by_cases e:x.up=at_
         ·rw [if_pos e];have eid:iu=id_:=by
           rw [e] at u2;rw [u2] at i2;simp at i2;exact i2.2.2
          have:=md1.fr f8 (Ne.symm n3);rw [eid,e] at this;simpa [e] using this
         ·rw [if_neg e];have:=(i3.fr g7 (by rintro rfl;omega)).fr f8 (Ne.symm n2);simpa [e] using this
        have hkn2:(if x.up=at_ then kidN T at_ - 1 else kidN T at_)<1000:=(by split<;>omega)
        have HPUT:=lH (gput_ t mb (tp at_) id_ (tp k) (things T) _ at_ k last (thm T tp) _ w8 t8 m5 (by unfold I64;omega) (by unfold I64;omega) (by omega) hkn2 (by omega) e3 i28 rfl hmd (by omega) k8 rfl HL.out);rw [hw8] at HPUT;have F8:Hid (Fr (fun j=>j=iu∨j=tp k) w6 w8):=lH ((g7.mono (fun _ _ e=> .inl e)).trans (f8.mono (fun _ _ e=> .inr e)) (fun _ _ e=>e));have K8:=lH k8;have HMU:=lH hmu;have E4:=lH e4;clear l1 l2 l3 l4 h3 h5 h6 i2 i3 u2 u3 hkc k7 md1 fd1 g7 hd1 e3 e4 e5 f8 k8 n3 n4 n5 n6 m5 i28 t8 hmu hmd hkn2;go_wp2_with fail
        go_region
        all_goals
         go_wp2_with fail;refine HPUT.out.mono ?_;rintro e w9 ⟨rfl,f9,m1,m2⟩;rw [E4.out] at m1;have hno:¬((if x.up=at_∧ba last=ba x.name then none else kidm T at_ (ba last)):Option Int).isSome=true:=by
          have:kidm T at_ (ba last)=none:=(by simp [kidm,ba_list,HK.out])
          split
          ·simp
          ·rw [this];simp
         have m2':MapAt encS w9 id_ ((if x.up=at_ then kidN T at_ - 1 else kidN T at_)+1) (fun z=>if z=ba last then some (k:Int) else if x.up=at_∧z=ba x.name then none else kidm T at_ z):=by
          rw [if_neg hno] at m2;exact m2
         clear hno m2;rw [← hw8] at f9;have hc1:1≤kidN T at_∨x.up≠at_:=by
          by_cases e:x.up=at_
          ·left;have:=upd_kidN T k (by omega) x x.up;rw [upd_id HX.out,if_pos rfl,e] at this;omega
          ·exact .inr e
         have hg:=TreeAt.moves HMV.out hf6 h2 H3.out h4 H6.out HY.out HYD.out i1 I2.out HU.out HUD.out u1 U2.out ((F8.out.mono (T:=fun j=>j=mb∨j=iu∨j=id_∨j=tp k) (fun _ _ e=>e.elim (fun e=> .inr (.inl e)) (fun e=> .inr (.inr (.inr e))))).trans (f9.mono (T:=fun j=>j=mb∨j=iu∨j=id_∨j=tp k) (fun _ _ e=>e.elim .inl (fun e=> .inr (.inr (.inl e))))) (fun _ _ e=>e))
          (by
            have:(fun z=>if z=(k:Int) then some (tp k) else thm T tp z)=thm T tp:=by
             funext z;by_cases e:z=(k:Int)
             ·rw [if_pos e,e,E4.out]
             ·rw [if_neg e]
            rw [this] at m1;simpa using m1)
          (fun im' h=>by
            rw [HKC.out] at h;simp at h;rw [← h];exact f9.block_of K8.out (by omega))
          (fun e=>(HMU.out e).fr f9 (by
            rintro (rfl|rfl)
            ·omega
            ·omega))
          (by
            have e:(if x.up=at_ then kidN T at_ else kidN T at_+1)=(if x.up=at_ then kidN T at_ - 1 else kidN T at_)+1:=by
             split
             ·rename_i h
              rcases hc1 with h'|h'
              ·omega
              ·exact absurd h h'
             ·rfl
            rw [e];exact m2')
         have HG:=lH hg;clear hg m1 m2' hc1;go_wp2_with fail;refine HQ.out _ _ HV.out rfl ?_;rw [HTM.out];exact ⟨_,(Step.no HF.out F6).trans (HG.out.1.mono (D:=treeC K) (fun c hc=>by
          rcases hc with rfl|rfl|rfl|rfl
          ·exact .inr (.inl rfl)
          ·exact .inr (.inr (by omega))
          ·exact .inr (.inr (by omega))
          ·exact .inr (.inr (by omega)))) (fun _ e=>e),HG.out.2⟩
      ·have HV:Hid (moveE T p q=er2):=lH (by rw [hm,if_pos he2]);have HN:=lH he2;have q2:(er2==0)=false:=(by simpa using he2)
       clear hm hx hxd ht hnq hb1 hb2 he2;go_enter Tryz.func135,Tryz.ntmps135;go_wp2_with fail;refine HP.out.mono ?_;rintro e w2 ⟨rfl,f2⟩;go_wp2_with fail;refine (HS2.out _).mono ?_;rintro e w3 ⟨f3,a3,n3,c3,rfl⟩;go_wp2_with fail;refine (HW1.out _).mono ?_;rintro e w4 ⟨rfl,f4⟩;go_wp2_with fail;refine (HW2.out _).mono ?_;rintro e w5 ⟨rfl,f5⟩;go_wp2_with fail;have F5:=((f2.trans f3 (fun _ _ e=>e)).trans f4 (fun _ _ e=>e)).trans f5 (fun _ _ e=>e);refine (HPL.out _ F5).mono ?_;rintro e w6 ⟨rfl,f6⟩;go_wp2_with fail;exact HR.out er2 HN.out HV.out _ _ rfl (F5.trans f6 (fun _ _ e=>e))
 ·have HV:Hid (moveE T p q=er):=lH (by rw [hm,if_pos he]);have HN:=lH he;have q2:(er==0)=false:=by simpa using he
  clear he hm hlk ht hWI hlp;go_enter Tryz.func135,Tryz.ntmps135;go_wp2_with fail;refine HP.out.mono ?_;rintro e w2 ⟨rfl,f2⟩;go_wp2_with fail;exact HR.out er HN.out HV.out _ _ rfl f2
end Go.Proofs.YtlcojhddnpmgmaaGreat
