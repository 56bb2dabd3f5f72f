/- Part of a proof. -/
import Derived.Test.YtedcppikakinoaaGreatU01
import Derived.Test.YtedcppikakinoaaGreatU02
import Derived.Outline
set_option linter.unusedSimpArgs false
set_option linter.unusedVariables false
set_option maxRecDepth 100000
set_option maxHeartbeats 3200000
namespace Go.Proofs.YtedcppikakinoaaGreat
open Go.Proofs.Tryz Go.RowKit
def kZ (c l s:Int):Prop:=0<=c/\c<4/\0<=l/\l<=1048576/\1<=s/\s<=1073741824
theorem Qg (c l s) (h:kZ c l s) (w):Calls prog 118 #[.agg #[c,l,s]] w λe w'=>e=.returned (.bool true)/\Fr No w w':=by
 obtain ⟨o,r,u,A,B,E⟩:=h;go_enter func118,ntmps118;go_wp2;go_ret;exact ⟨rfl,(Fr.refl w).alloc _⟩
theorem aFC (c l s) (h:¬kZ c l s) (w):Calls prog 118 #[.agg #[c,l,s]] w λe w'=>e=.returned (.bool false)/\Fr No w w':=by
 by_cases r:0<=c;{by_cases u:c<4;{by_cases A:0<=l;{by_cases B:l<=1048576;{by_cases E:1<=s;{have o:¬s<=1073741824:=λo=>h ⟨r,u,A,B,E,o⟩;clear h;go_enter func118,ntmps118;go_wp2;go_ret;exact ⟨rfl,(Fr.refl w).alloc _⟩};{clear h;go_enter func118,ntmps118;go_wp2;go_ret;exact ⟨rfl,(Fr.refl w).alloc _⟩}};{clear h;go_enter func118,ntmps118;go_wp2;go_ret;exact ⟨rfl,(Fr.refl w).alloc _⟩}};{clear h;go_enter func118,ntmps118;go_wp2;go_ret;exact ⟨rfl,(Fr.refl w).alloc _⟩}};{clear h;go_enter func118,ntmps118;go_wp2;go_ret;exact ⟨rfl,(Fr.refl w).alloc _⟩}};{clear h;go_enter func118,ntmps118;go_wp2;go_ret;exact ⟨rfl,(Fr.refl w).alloc _⟩}
def kindOf (l s l' s':Int):Int:=if l<l'\/l=l'/\s<s' then 2 else if l'<l then 3 else if s=s' then 1 else 0
theorem aAq (c l s r o:Int) (w):Calls prog 120 #[.agg #[c,l,s],.agg #[c,r,o]] w λe w'=>e=.returned (Z (kindOf l s r o))/\Fr No w w':=by
 rcases JZ l r with h|h|h;{(have e:kindOf l s r o=2:=by simp [kindOf,h]);rw [e];clear e;go_enter func120,ntmps120;go_wp2;go_ret;exact ⟨rfl,by repeat (first|exact Fr.refl _|apply Fr.alloc)⟩};{subst h;rcases JZ s o with u|u|u;{(have e:kindOf l s l o=2:=by simp [kindOf,u]);have A:¬l<l:=X;rw [e];clear e;go_enter func120,ntmps120;go_wp2;go_ret;exact ⟨rfl,by repeat (first|exact Fr.refl _|apply Fr.alloc)⟩};{subst u;have e:kindOf l s l s=1:=(by simp [kindOf]);have A:¬l<l:=X;have B:¬s<s:=X;rw [e];clear e;go_enter func120,ntmps120;go_wp2;go_ret;exact ⟨rfl,by repeat (first|exact Fr.refl _|apply Fr.alloc)⟩};{(have e:kindOf l s l o=0:=by{unfold kindOf;rw [AA X,AA X,AA X]});have A:¬l<l:=X;have B:¬s<o:=X;have E:(s==o)=false:=(by simp;omega);rw [e];clear e;go_enter func120,ntmps120;go_wp2;go_ret;exact ⟨rfl,by repeat (first|exact Fr.refl _|apply Fr.alloc)⟩}};{(have e:kindOf l s r o=3:=by{unfold kindOf;rw [AA X,AL h]});(have A:¬l<r:=X);(have E:(l==r)=false:=by simp;omega);rw [e];clear e;go_enter func120,ntmps120;go_wp2;go_ret;exact ⟨rfl,by repeat (first|exact Fr.refl _|apply Fr.alloc)⟩}
