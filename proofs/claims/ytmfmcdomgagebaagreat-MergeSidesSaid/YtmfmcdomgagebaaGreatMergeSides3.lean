/-
  The value-level logic and its contracts, part 3 (texts V26).
-/
import Derived.Test.YtmfmcdomgagebaaGreatMergeSides2
open Nat renaming reduceAdd → zA, reduceSub → zS, reduceMul → zM, reduceLeDiff → zL, reduceEqDiff → zE, reduceBEq → zB
set_option linter.all false
set_option linter.unusedSimpArgs false
set_option linter.unusedVariables false
set_option linter.unnecessarySimpa false
namespace Go.V
theorem vsA:(type_of% @vsN)∧(type_of% @vsCode)∧(type_of% @vsOps)∧(type_of% @vsEnv)∧(type_of% @vsEv)∧(type_of% @vsM)∧(type_of% @vsNd)∧(type_of% @vsJ)∧(type_of% @vsQ)∧(type_of% @vsDraw) :=
  ⟨@vsN,@vsCode,@vsOps,@vsEnv,@vsEv,@vsM,@vsNd,@vsJ,@vsQ,@vsDraw⟩
theorem vsB :
    (∀ (α:Type) (n:Nat) (l:List α),(l.drop n).length=l.length - n)∧(∀ (α β:Type) (f:α→β) (x:α) (l:List α),(x::l).map f=f x::l.map f)∧(∀ (α β:Type) (f:α→β),([]:List α).map f=[]) ∧
    (∀ (α:Type) (a b c:List α),(a++b)++c=a++(b++c))∧(∀ n:Nat,n≤n)∧(∀ n:Nat,0<n.succ)∧(∀ n:Nat,0<n+1)∧(∀ (α:Type) (x y:α),(x ∈ [y])=(x=y))∧(∀ n:Nat,0≤n) ∧
    (∀ (α:Type) (p:α→Bool) (x:α) (l:List α),(x::l).all p=(p x && l.all p))∧(∀ (α:Type) (p:α→Bool),([]:List α).all p=true)∧(∀ b:Bool,(b && true)=b)∧((!true)=false)∧((!false)=true):=by
  refine ⟨fun _ _ _=>List.length_drop,fun _ _ _ _ _=>rfl,fun _ _ _=>rfl,fun _ _ _ _=>List.append_assoc _ _ _,fun _=>Nat.le_refl _,fun _=>Nat.zero_lt_succ _,fun _=>Nat.zero_lt_succ _,fun _ _ _=>by simp,fun _=>Nat.zero_le _,fun _ _ _ _=>rfl,fun _ _=>rfl,fun b=>by cases b <;> rfl,rfl,rfl⟩
theorem vsC :
    (∀ (α:Type) (h:Decidable True) (x y:α),(@ite α True h x y)=x)∧(∀ (α:Type) (h:Decidable False) (x y:α),(@ite α False h x y)=y) ∧
    (∀ (h:Decidable True) (x y:Prop),(@ite Prop True h x y)=x)∧(∀ (h:Decidable False) (x y:Prop),(@ite Prop False h x y)=y) ∧
    (∀ p:Prop,(p∧True)=p)∧(∀ p:Prop,(True∧p)=p)∧(∀ p:Prop,(p∧p)=p) ∧
    (∀ (α:Type) [BEq α] [ReflBEq α] (a:α),(a == a)=true)∧(∀ (α:Type) (p:α→Prop) (a':α),(∀ a,a=a'→p a)=p a'):=by
  refine ⟨fun _ _ _ _=>if_pos trivial,fun _ _ _ _=>if_neg id,fun _ _ _=>if_pos trivial,fun _ _ _=>if_neg id,fun p=>and_true p,fun p=>true_and p,fun p=>and_self p,fun α _ _ a=>beq_self_eq_true a,fun _ _ _=>propext forall_eq⟩
def vq:=And.intro vsA (And.intro vsB vsC)
theorem vkp :
    (∀ (a x:Nat) (l:List Nat),(a::l).contains x=(x == a || l.contains x))∧(∀ x:Nat,([]:List Nat).contains x=false) ∧
    (∀ b:Bool,(b || false)=b)∧(∀ b:Bool,(b || true)=true)∧(∀ b:Bool,(true || b)=true)∧(∀ b:Bool,(false || b)=b) :=
  ⟨fun _ _ _=>List.contains_cons,fun _=>rfl,Bool.or_false,Bool.or_true,Bool.true_or,Bool.false_or⟩
def vke:=And.intro vsEnv vkp
end Go.V
