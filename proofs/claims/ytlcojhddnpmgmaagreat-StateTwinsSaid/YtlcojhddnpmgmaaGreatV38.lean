/- Part of a proof. -/
import Derived.Test.YtlcojhddnpmgmaaGreatV37
set_option linter.unusedSimpArgs false
set_option linter.unusedVariables false
set_option maxRecDepth 100000
set_option maxHeartbeats 1600000
namespace Go.Proofs.YtlcojhddnpmgmaaGreat
open Go.RowKit Go.Proofs.Tryz
theorem Xw (a:ByteArray) (b:Int) (c:Bool) (w:World):(binOp .neq 86 (.agg #[.string a,.int .i64 b,.bool c]) (.agg #[.string a,.int .i64 b,.bool c])).run prog w=.ok (.bool false) w:=by
 have u3:=underlying3;have a3:=isAgg3;have u4:=underlying4;have u9:=underlying9;have hS:prog.underlying 86=some (.struct (prog.fieldsOf 86)):=by kernel_rfl
 have hp:prog.stoodInHeld 86=false:=by kernel_rfl
 rw [run_neq_struct,show (10000:Nat)=9999+1 from rfl,run_equalIn_agg w 9999 86 _ _ hS hp];simp only [Program.fieldsOf,underlying86];go_simp
theorem Wq (v1 v2:Value) (es:List eF) (B1 B2:Nat) (w:World) (h1:eQ w B1 v1 es) (h2:eQ w B2 v2 es) (hes:es.length≤4000):Calls prog 80 #[v1,v2] w fun e w'=>e=.returned (.bool true)∧Fr No w w':=by
 have mixed:prog.follows .mixedOrders=true:=by kernel_rfl
 by_cases h0:es= []
 ·have hs:∀ {B v},eQ w B v es→∃a c,v=.slice a 0 c:=fun {B v} h=>by
   rcases h with ⟨e,_⟩|⟨b,off,c,e,_⟩
   ·exact ⟨none,0,e⟩
   ·rw [h0] at e;exact ⟨_,c,e⟩
  obtain ⟨a1,c1,rfl⟩:=hs h1;obtain ⟨a2,c2,rfl⟩:=hs h2;clear h1 h2 hs;go_enter func80,ntmps80;go_wp2_with fail;refine wp_loop_rounds 1 ?_;rw [rounds_succ];go_wp2_with fail
  go_ret
  exact ⟨rfl,Fr.refl _⟩
 ·obtain ⟨b1,o1,c1,e1,l1,_,_,_,r1⟩:=h1.resolve_left (fun h=>h0 h.2);obtain ⟨b2,o2,c2,e2,l2,_,_,_,r2⟩:=h2.resolve_left (fun h=>h0 h.2);subst e1;subst e2;have R1:=lH r1;have R2:=lH r2;have LI:Hid (Fr No w w):=lH (Fr.refl _);clear h1 h2 r1 r2 h0;go_enter func80,ntmps80;go_wp2_with fail;go_loopw [5] (fun a wr=>∃i:Nat,a=.int .i64 i∧i≤es.length∧Hid (Fr No w wr)) (fun a _=>es.length - (intOf a).toNat)
  case atStart=>exact ⟨0,rfl,Nat.zero_le _,LI⟩
  case round=>
   obtain ⟨i,rfl,hi,HF⟩:=hrel;by_cases hlt:i<es.length
   ·have q1:(i:Int)<(es.length:Int):=by omega
    have q2:(0:Int)≤(i:Int):=(by omega)
    have x1:=R1.o i es[i] (List.getElem?_eq_getElem hlt);have x2:=R2.o i es[i] (List.getElem?_eq_getElem hlt);generalize es[i]=X at*;obtain ⟨xn,xi,xd⟩:=X;dsimp only at x1 x2;have y0:wr.cell? ⟨b1,o1+i*3,none⟩=some (.string xn):=HF.o.cell_of (x1 0 _ rfl) id;have y1:wr.cell? ⟨b1,o1+i*3+1,none⟩=some (.int .i64 xi):=HF.o.cell_of (x1 1 _ rfl) id;have y2:wr.cell? ⟨b1,o1+i*3+2,none⟩=some (.bool xd):=HF.o.cell_of (x1 2 _ rfl) id;have z0:wr.cell? ⟨b2,o2+i*3,none⟩=some (.string xn):=HF.o.cell_of (x2 0 _ rfl) id;have z1:wr.cell? ⟨b2,o2+i*3+1,none⟩=some (.int .i64 xi):=HF.o.cell_of (x2 1 _ rfl) id;have z2:wr.cell? ⟨b2,o2+i*3+2,none⟩=some (.bool xd):=HF.o.cell_of (x2 2 _ rfl) id;have n86:=fun W=>Xw xn xi xd W;have HD:=lH HF.o.drew;clear x1 x2;go_wp2_with fail;go_region_held3 (fun w'=>w'.cell? ⟨b1,o1+i*3,none⟩=some (.string xn)∧w'.cell? ⟨b1,o1+i*3+1,none⟩=some (.int .i64 xi)∧w'.cell? ⟨b1,o1+i*3+2,none⟩=some (.bool xd)∧w'.cell? ⟨b2,o2+i*3,none⟩=some (.string xn)∧w'.cell? ⟨b2,o2+i*3+1,none⟩=some (.int .i64 xi)∧w'.cell? ⟨b2,o2+i*3+2,none⟩=some (.bool xd)) (go_keep) (fail);go_wp2_with fail;go_roundw
    case rel=>exact ⟨i+1,by go_num,hlt,HD⟩
    case measure=>simp [intOf];omega
   ·obtain rfl:i=es.length:=by omega
    have q1:¬(es.length:Int)<(es.length:Int):=(by omega)
    have FE:=HF.o;go_wp2_with fail
    go_ret
    exact ⟨rfl,FE⟩
def Gg (w:World) (v:Value) (e:Ending) (w':World):Prop:=e=.returned v∧Fr No w w'
theorem Tryz.Nj:(prog.info? 92).map (·.size)=some 8:=by kernel_rfl
theorem O5 (r:aF) (ev mv:Value) (he:∃a l c,ev=.slice a l c) (hm:∃a l c,mv=.slice a l c) (w:World):Calls prog 43 #[.agg (r.cells ev mv)] w (Gg w (.agg (r.cells ev mv))):=by
 obtain ⟨ea,el,ec,rfl⟩:=he;obtain ⟨ma,ml,mc,rfl⟩:=hm;have HR:Hid (∀w',Fr No w w'→Gg w (.agg (r.cells (.slice ea el ec) (.slice ma ml mc))) (.returned (.agg (r.cells (.slice ea el ec) (.slice ma ml mc)))) w'):=lH (fun w' f=>⟨rfl,f⟩);generalize hQ:Gg w (.agg (r.cells (.slice ea el ec) (.slice ma ml mc)))=Q at*;clear hQ;have HOC:=lH (aF.cells_one (r:=r) (ev:=.slice ea el ec) (mv:=.slice ma ml mc) rfl rfl);have f0:Fr No w ((w.alloc (.cells (r.cells (.slice ea el ec) (.slice ma ml mc)) 29)).alloc (.cells #[.int .i64 0,.int .i64 0,.int .i64 0,.int .i64 0,.int .i64 0,.bool false,.slice none 0 0,.slice none 0 0] 92)):=((Fr.refl w).alloc _).alloc _;have k0:=((Fr.refl (S:=No) (w.alloc (.cells (r.cells (.slice ea el ec) (.slice ma ml mc)) 29))).alloc (.cells #[.int .i64 0,.int .i64 0,.int .i64 0,.int .i64 0,.int .i64 0,.bool false,.slice none 0 0,.slice none 0 0] 92)).aC (aO w (.cells (r.cells (.slice ea el ec) (.slice ma ml mc)) 29)) id;have k1:((w.alloc (.cells (r.cells (.slice ea el ec) (.slice ma ml mc)) 29)).alloc (.cells #[.int .i64 0,.int .i64 0,.int .i64 0,.int .i64 0,.int .i64 0,.bool false,.slice none 0 0,.slice none 0 0] 92)).heap[w.heap.size+1]? =some (.cells #[.int .i64 0,.int .i64 0,.int .i64 0,.int .i64 0,.int .i64 0,.bool false,.slice none 0 0,.slice none 0 0] 92 (0,0)):=by
  have h:=aO (w.alloc (.cells (r.cells (.slice ea el ec) (.slice ma ml mc)) 29)) (.cells #[.int .i64 0,.int .i64 0,.int .i64 0,.int .i64 0,.int .i64 0,.bool false,.slice none 0 0,.slice none 0 0] 92);rwa [jR] at h
 have F0:=lH f0;have K1:=lH k1;clear f0 k1;unfold aF.cells at*;go_enter func43,ntmps43;go_upto_region 1 with fail
 generalize (w.alloc (.cells #[.int .i64 r.e,.int .i64 r.ino,.int .i64 r.size,.int .i64 r.handle,.int .i64 r.swaps,.bool r.dir,.slice ea el ec,.slice ma ml mc] 29)).alloc (.cells #[.int .i64 0,.int .i64 0,.int .i64 0,.int .i64 0,.int .i64 0,.bool false,.slice none 0 0,.slice none 0 0] 92)=w1 at*;generalize hb:w.heap.size=b at*;have c0:w1.cell? ⟨b,0,none⟩=some (.int .i64 r.e):=aA k0 0;have c1:w1.cell? ⟨b,1,none⟩=some (.int .i64 r.ino):=aA k0 1;have c2:w1.cell? ⟨b,2,none⟩=some (.int .i64 r.size):=aA k0 2;have c3:w1.cell? ⟨b,3,none⟩=some (.int .i64 r.handle):=aA k0 3;have c4:w1.cell? ⟨b,4,none⟩=some (.int .i64 r.swaps):=aA k0 4;have c5:w1.cell? ⟨b,5,none⟩=some (.bool r.dir):=aA k0 5;have c6:w1.cell? ⟨b,6,none⟩=some (.slice ea el ec):=aA k0 6;have c7:w1.cell? ⟨b,7,none⟩=some (.slice ma ml mc):=aA k0 7;clear k0;go_wp2_with (refine wpList_store_row rfl 92 (.tmp 2) (.tmp 19) rfl (b+1) #[.int .i64 r.e,.int .i64 r.ino,.int .i64 r.size,.int .i64 r.handle,.int .i64 r.swaps,.bool r.dir,.slice ea el ec,.slice ma ml mc] rfl rfl 92 _ K1.o Tryz.Nj rfl HOC.o ?_);have KF:=dS (cs':= #[.int .i64 r.e,.int .i64 r.ino,.int .i64 r.size,.int .i64 r.handle,.int .i64 r.swaps,.bool r.dir,.slice ea el ec,.slice ma ml mc]) K1.o;exact bodyPost_ret (v:=.agg #[.int .i64 r.e,.int .i64 r.ino,.int .i64 r.size,.int .i64 r.handle,.int .i64 r.swaps,.bool r.dir,.slice ea el ec,.slice ma ml mc]) (results_cell_row rfl _ _ (b+1) 92 _ (0,0) _ rfl KF underlying92 rfl Tryz.Nj) rfl (HR.o _ (Fr.setRow F0.o (.inr (by rw [hb];omega)) _))
theorem fP.yV {w:World} {B:Nat} {v:Value} {ys:List UInt8} (h:fP w B v ys):lC w v ys:=by
 rcases h with ⟨rfl,rfl⟩|⟨b,off,c,h,_⟩
 ·exact .inl ⟨rfl,none,0,rfl⟩
 ·exact h.yV
theorem Vy (r:aF) (ev mv ev2 mv2:Value) (w:World) (h1:Rp w ev mv r.es r.map) (h2:Rp w ev2 mv2 r.es r.map) (hl:r.map.length≤1000000) (hes:r.es.length≤4000):Calls prog 42 #[.agg (r.cells ev mv),.agg (r.cells ev2 mv2)] w fun e w'=>e=.returned (.bool true)∧Fr No w w':=by
 have f0:Fr No w ((w.alloc (.cells (r.cells ev mv) 92)).alloc (.cells (r.cells ev2 mv2) 92)):=((Fr.refl w).alloc _).alloc _;have k0:=((Fr.refl (S:=No) (w.alloc (.cells (r.cells ev mv) 92))).alloc (.cells (r.cells ev2 mv2) 92)).aC (aO w (.cells (r.cells ev mv) 92)) id;have k1:((w.alloc (.cells (r.cells ev mv) 92)).alloc (.cells (r.cells ev2 mv2) 92)).heap[w.heap.size+1]? =some (.cells (r.cells ev2 mv2) 92 (0,0)):=by
  have h:=aO (w.alloc (.cells (r.cells ev mv) 92)) (.cells (r.cells ev2 mv2) 92);rwa [jR] at h
 have RP1:=lH (h1.no f0);have RP2:=lH (h2.no f0);have F0:=lH f0;clear h1 h2 f0;unfold aF.cells at*;go_enter func42,ntmps42;go_upto_region 1 with fail
 generalize (w.alloc (.cells #[.int .i64 r.e,.int .i64 r.ino,.int .i64 r.size,.int .i64 r.handle,.int .i64 r.swaps,.bool r.dir,ev,mv] 92)).alloc (.cells #[.int .i64 r.e,.int .i64 r.ino,.int .i64 r.size,.int .i64 r.handle,.int .i64 r.swaps,.bool r.dir,ev2,mv2] 92)=w1 at*;generalize hb:w.heap.size=b at*;have c0:w1.cell? ⟨b,0,none⟩=some (.int .i64 r.e):=aA k0 0;have c1:w1.cell? ⟨b,1,none⟩=some (.int .i64 r.ino):=aA k0 1;have c2:w1.cell? ⟨b,2,none⟩=some (.int .i64 r.size):=aA k0 2;have c3:w1.cell? ⟨b,3,none⟩=some (.int .i64 r.handle):=aA k0 3;have c4:w1.cell? ⟨b,4,none⟩=some (.int .i64 r.swaps):=aA k0 4;have c5:w1.cell? ⟨b,5,none⟩=some (.bool r.dir):=aA k0 5;have c6:w1.cell? ⟨b,6,none⟩=some ev:=aA k0 6;have d0:w1.cell? ⟨b+1,0,none⟩=some (.int .i64 r.e):=aA k1 0;have d1:w1.cell? ⟨b+1,1,none⟩=some (.int .i64 r.ino):=aA k1 1;have d2:w1.cell? ⟨b+1,2,none⟩=some (.int .i64 r.size):=aA k1 2;have d3:w1.cell? ⟨b+1,3,none⟩=some (.int .i64 r.handle):=aA k1 3;have d4:w1.cell? ⟨b+1,4,none⟩=some (.int .i64 r.swaps):=aA k1 4;have d5:w1.cell? ⟨b+1,5,none⟩=some (.bool r.dir):=aA k1 5;have d6:w1.cell? ⟨b+1,6,none⟩=some ev2:=aA k1 6;have HE:=lH (Wq ev ev2 r.es _ _ w1 RP1.o.1 RP2.o.1 hes);have K0:=lH k0;have K1:=lH k1;clear k0 k1;go_wp2_with fail;refine HE.o.mono ?_;rintro e w2 ⟨rfl,f2⟩;have c7:w2.cell? ⟨b,7,none⟩=some mv:=aA (f2.aC K0.o id) 7;have d7:w2.cell? ⟨b+1,7,none⟩=some mv2:=aA (f2.aC K1.o id) 7;have HS:=lH (Iu mv mv2 r.map w2 (RP1.o.no f2).2.yV (RP2.o.no f2).2.yV hl);have F2:=lH (F0.o.trans f2 kp);clear c0 c1 c2 c3 c4 c5 c6 d0 d1 d2 d3 d4 d5 d6 f2 HE;go_wp2_with fail;refine HS.o.mono ?_;rintro e w3 ⟨rfl,f3⟩;have F3:=F2.o.trans f3 kp;go_wp2_with fail
 go_ret
 exact ⟨rfl,F3⟩
