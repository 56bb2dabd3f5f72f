/- Part of a proof. -/
import Derived.Test.YtlcojhddnpmgmaaGreatV39
set_option linter.unusedSimpArgs false
set_option linter.unusedVariables false
set_option maxRecDepth 100000
namespace Go.Proofs.YtlcojhddnpmgmaaGreat
open Go.RowKit
theorem Rp.shape {w:World} {ev mv:Value} {es:List eF} {mp:List UInt8} (h:Rp w ev mv es mp):(∃a l c,ev=.slice a l c)∧∃a l c,mv=.slice a l c:=by
 refine ⟨h.1.shape,?_⟩;rcases h.2 with ⟨e,_⟩|⟨b,off,c,⟨e,_⟩,_⟩
 ·exact ⟨_,_,_,e⟩
 ·exact ⟨_,_,_,e⟩
theorem vJ.same' {U:Stp→Option Us} {l1 l2:List Stp} (h:vJ U l1) (g:vJ U l2):l1=l2:=by
 refine Ec (r:=fun x y:Stp=>x≠y∧lK x y=true) (fun x e=>e.1 rfl) (fun x y e f=> ?_) (h.1.and h.2.2) (g.1.and g.2.2) (fun x=>(h.2.1 x).trans (g.2.1 x).symm);have h1:=e.2;have h2:=f.2;rw [Be,uB] at h1 h2;apply e.1;obtain ⟨x1,x2,x3⟩:=x;obtain ⟨y1,y2,y3⟩:=y;simp only [Prod.mk.injEq] at h1 h2 ⊢;omega
theorem bY.lens' {S:St} {q:Nat} (h:bY S q):∀i life seq bs,S.W i=some (life,seq,bs)→bs.length≤1000000:=fun i life seq bs hi=>by
 obtain ⟨rep,hk,_,_,e⟩:=h.win i _ hi;have e:bs=rep.bytes:=e;rw [e];have:=hk.len;omega
