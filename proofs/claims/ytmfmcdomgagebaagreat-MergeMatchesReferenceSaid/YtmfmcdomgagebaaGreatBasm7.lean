/-
  The value-level logic and its contracts, part 7 (texts P3, U2, U3, U4, U5, U6, P4, P5, P6, L5, P7, P8, P9, L7, U7, P13, N1, N2).
-/
import Derived.Test.YtmfmcdomgagebaaGreatBasm6
import Derived.Test.YtmfmcdomgagebaaGreatBasm3
import Derived.Test.YtmfmcdomgagebaaGreatBasm5
set_option linter.all false
open Nat renaming reduceAdd → zA, reduceSub → zS, reduceMul → zM, reduceLeDiff → zL, reduceEqDiff → zE, reduceBEq → zB
open Go.V.D renaming junk → J
namespace Go.V
set_option maxRecDepth 20000
set_option maxHeartbeats 4000000
theorem qs9 {n:Int} (h:-9223372036854775808≤n∧n≤9223372036854775807):w64 n=n:=ky9 (by omega)
structure Fit (f:Fd) (k:Ck):Prop where
 par:k.d.params.length=f.d.params.length
 vars:k.d.vars=f.d.vars
 arr:k.d.arrays.length=f.d.arrays.length
 refs:k.d.refs=2
 dc:k.x=declared
 v12:f.d.vars≤12
 hd:∀ h ∈ f.heads,1≤h.id∧h.id≤1073741824∧h.params.length≤12∧h.given.length≤4
theorem leaf_ok {depth:Int} (h:depth≤10):leafB [] depth=true:=by simp [leafB,h]
theorem num_ok (k:Ck) {v depth:Int} (h1:depth≤10) (hv:-2147483648≤v∧v≤2147483647):exprS k (num v) depth=(1,true):=by
 simp [num,exprS,leaf_ok h1,inB,hv.1,hv.2]
theorem wh9 {n lo hi:Int} (h:lo≤n∧n≤hi):inB n lo hi=true:=by simp [inB,h.1,h.2]
def ncost:Nat→Int
 | 0=>1
 | d+1=>1+2 * ncost d
theorem ncost_le {d:Nat} (h:d≤10):1≤ncost d∧ncost d≤2047:=(by decide:∀ d<11,1≤ncost d∧ncost d≤2047) d (by omega)
theorem expr_ok {f:Fd} {k:Ck} (hA:FxA f) (hk:Fit f k):∀ (d:Nat) (m:Mk) (depth:Int),1≤depth→depth+d≤10→∃ n,exprS k (expr f d m).1 depth=(n,true)∧1≤n∧n≤ncost d:=by
 have hb:=hA.ok
 have hr:=fun p n=>@kt9 _ p n hb
 have hl:=fun p n (h:0<n)=>@wb9 f.bytes p n h
 intro d
 induction d with
 | zero =>
  intro m depth h1 h2
  have:=hr (m.pos+1) 14
  have:=hl (m.pos+1) 14 (by omega)
  exact ⟨1,num_ok k (by omega) (by omega),by omega,by decide⟩
 | succ d ih =>
  intro m depth h1 h2
  have hn:=ncost_le (d:=d) (by omega)
  have hnc:ncost (d+1)=1+2 * ncost d:=rfl
  have hv:=hA.vars
  unfold expr
  split
  ·have:=hr (m.pos+1) 14
   have:=hl (m.pos+1) 14 (by omega)
   exact ⟨1,num_ok k (by omega) (by omega),by omega,by omega⟩
  split
  ·have q1:=hr (m.pos+1) f.d.vars
   have q2:=hl (m.pos+1) f.d.vars (by omega)
   refine ⟨1,?_,by omega,by omega⟩
   have hw:w64 (k.d.vars - 1)=f.d.vars - 1:=by rw [hk.vars];exact qs9 (by have:=hk.v12;omega)
   simp only [var,exprS,hw]
   simp [leaf_ok (show depth≤10 by omega),wh9 (show 0≤rnd f.bytes (m.pos+1) f.d.vars∧rnd f.bytes (m.pos+1) f.d.vars≤f.d.vars - 1 by omega)]
  split
  ·rename_i hx
   have q1:=hr (m.pos+1) f.d.arrays.length
   have q2:=hl (m.pos+1) f.d.arrays.length (by omega)
   refine ⟨1,?_,by omega,by omega⟩
   have hw:w64 ((k.d.arrays.length:Int) - 1)=f.d.arrays.length - 1:=by rw [hk.arr];exact qs9 (by have:=hA.arr;omega)
   simp only [exprS,hw]
   simp [leaf_ok (show depth≤10 by omega),wh9 (show 0≤rnd f.bytes (m.pos+1) f.d.arrays.length∧rnd f.bytes (m.pos+1) f.d.arrays.length≤(f.d.arrays.length:Int) - 1 by omega)]
  ·have q1:=hr (m.pos+1) 7
   have q2:=hl (m.pos+1) 7 (by omega)
   obtain ⟨n1,e1,l1,u1⟩:=ih { m with pos:=m.pos+1+1 } (depth+1) (by omega) (by omega)
   obtain ⟨n2,e2,l2,u2⟩:=ih (expr f d { m with pos:=m.pos+1+1 }).2 (depth+1) (by omega) (by omega)
   have hd1:w64 (depth+1)=depth+1:=qs9 (by omega)
   have w1:w64 (1+n1)=1+n1:=qs9 (by omega)
   have w2:w64 (1+n1+n2)=1+n1+n2:=qs9 (by omega)
   refine ⟨1+n1+n2,?_,by omega,by omega⟩
   have hin:=wh9 (show 4≤4+rnd f.bytes (m.pos+1) 7∧4+rnd f.bytes (m.pos+1) 7≤10 by omega)
   simp only [bin,exprS,List.length_cons,List.length_nil,hin,hd1]
   rw [if_neg (by omega),if_neg (by omega),if_neg (by omega),if_neg (by simp;omega)]
   simp only [exprsS,e1,e2,cond_true,w1,w2]
theorem value_ok {f:Fd} {k:Ck} (hA:FxA f) (hk:Fit f k) {d:Nat} (hd:d≤4) (m:Mk):valueB k (expr f d m).1=true:=by
 obtain ⟨n,e,l,u⟩:=expr_ok hA hk d m 1 (by omega) (by omega)
 have:ncost d≤60:=(by decide:∀ d<5,ncost d≤60) d (by omega)
 rw [valueB,e]
 simp;omega
theorem numv_ok (k:Ck) {v:Int} (hv:-2147483648≤v∧v≤2147483647):valueB k (num v)=true:=by
 rw [valueB,num_ok k (by omega) hv];simp
def ccostN:Nat→Int
 | 0=>7
 | d+1=>1+2 * ccostN d
theorem ccostN_le {d:Nat} (h:d≤6):7≤ccostN d∧ccostN d≤2047:=(by decide:∀ d<7,7≤ccostN d∧ccostN d≤2047) d (by omega)
theorem want_cmp {op:Int} (h:op=2∨op=3∨op=4):wantOf op=some (2,0):=by
 rcases h with rfl | rfl | rfl <;> rfl
theorem condT_ok {f:Fd} {k:Ck} (hA:FxA f) (hk:Fit f k) (m:Mk) (depth:Int) (h1:1≤depth) (h2:depth≤6):∃ n,condS k (condT f m).1 depth=(n,true)∧1≤n∧n≤7:=by
 have hb:=hA.ok
 have q1:=@kt9 _ m.pos 8 hb
 have q2:=@wb9 f.bytes m.pos 8 (by omega)
 have hop:2+(rnd f.bytes m.pos 8).tmod 3=2∨2+(rnd f.bytes m.pos 8).tmod 3=3∨2+(rnd f.bytes m.pos 8).tmod 3=4:=by
  rw [Int.tmod_eq_emod_of_nonneg q1];omega
 obtain ⟨n1,e1,l1,u1⟩:=expr_ok hA hk 1 { m with pos:=m.pos+1 } (depth+1) (by omega) (by omega)
 obtain ⟨n2,e2,l2,u2⟩:=expr_ok hA hk 1 (expr f 1 { m with pos:=m.pos+1 }).2 (depth+1) (by omega) (by omega)
 have hn:ncost 1=3:=rfl
 have hd1:w64 (depth+1)=depth+1:=qs9 (by omega)
 have w1:w64 (1+n1)=1+n1:=qs9 (by omega)
 have w2:w64 (1+n1+n2)=1+n1+n2:=qs9 (by omega)
 refine ⟨1+n1+n2,?_,by omega,by omega⟩
 simp only [condT,test,condS,want_cmp hop,List.length_cons,List.length_nil,hd1,exprsS,e1,e2,cond_true,w1,w2,condsS]
 have:decide (10<depth)=false:=decide_eq_false (by omega)
 rw [this];rfl
theorem cond_ok {f:Fd} {k:Ck} (hA:FxA f) (hk:Fit f k):∀ (d:Nat) (m:Mk) (depth:Int),1≤depth→depth+d≤6→∃ n,condS k (cond f d m).1 depth=(n,true)∧1≤n∧n≤ccostN d:=by
 intro d
 induction d with
 | zero=>intro m depth h1 h2;exact condT_ok hA hk m depth h1 (by omega)
 | succ d ih =>
  intro m depth h1 h2
  have hc:=ccostN_le (d:=d) (by omega)
  have hcs:ccostN (d+1)=1+2 * ccostN d:=rfl
  have hd1:w64 (depth+1)=depth+1:=qs9 (by omega)
  have hdp:decide (10<depth)=false:=decide_eq_false (by omega)
  unfold cond
  split
  ·obtain ⟨n,e,l,u⟩:=condT_ok hA hk m depth h1 (by omega)
   exact ⟨n,e,l,by omega⟩
  split
  ·obtain ⟨n,e,l,u⟩:=ih { m with pos:=m.pos+1 } (depth+1) (by omega) (by omega)
   have w1:w64 (1+n)=1+n:=qs9 (by omega)
   refine ⟨1+n,?_,by omega,by omega⟩
   have hw:wantOf 5=some (0,1):=rfl
   simp only [cnot,condS,hw,List.length_cons,List.length_nil,hd1,exprsS,e,cond_true,w1,condsS,hdp]
   rfl
  ·have q1:=@kt9 _ (cond f d { m with pos:=m.pos+1 }).2.pos 2 hA.ok
   have q2:=@wb9 f.bytes (cond f d { m with pos:=m.pos+1 }).2.pos 2 (by omega)
   obtain ⟨n1,e1,l1,u1⟩:=ih { m with pos:=m.pos+1 } (depth+1) (by omega) (by omega)
   obtain ⟨n2,e2,l2,u2⟩:=ih { (cond f d { m with pos:=m.pos+1 }).2 with pos:=(cond f d { m with pos:=m.pos+1 }).2.pos+1 } (depth+1) (by omega) (by omega)
   have w1:w64 (1+n1)=1+n1:=qs9 (by omega)
   have w2:w64 (1+n1+n2)=1+n1+n2:=qs9 (by omega)
   refine ⟨1+n1+n2,?_,by omega,by omega⟩
   have hw:wantOf (6+rnd f.bytes (cond f d { m with pos:=m.pos+1 }).2.pos 2)=some (0,2):=by
    have:rnd f.bytes (cond f d { m with pos:=m.pos+1 }).2.pos 2=0∨rnd f.bytes (cond f d { m with pos:=m.pos+1 }).2.pos 2=1:=by omega
    rcases this with h | h <;> rw [h] <;> rfl
   simp only [condS,hw,List.length_cons,List.length_nil,hd1,exprsS,e1,e2,cond_true,w1,w2,condsS,hdp]
   rfl
theorem test_ok {f:Fd} {k:Ck} (hA:FxA f) (hk:Fit f k) (m:Mk):testB k (cond f 1 m).1=true:=by
 obtain ⟨n,e,l,u⟩:=cond_ok hA hk 1 m 1 (by omega) (by omega)
 have:ccostN 1=15:=rfl
 rw [testB,e]
 simp;omega
open Go.Proofs
def sizeR (r:Int × Bool):Int:=if r.2 then r.1 else -1
theorem leaf_deep {a:List Ex} {d:Int} (h:10<d):leafB a d=false:=by
 have:decide (d≤10)=false:=decide_eq_false (by omega)
 rw [leafB,this,Bool.and_false]
theorem expr_deep (k:Ck) (e:Ex) {d:Int} (h:10<d):(exprS k e d).2=false:=by
 obtain ⟨op,n,v,a⟩:=e
 simp only [exprS,leaf_deep h]
 have h10:(10≤d)=True:=eq_true (by omega)
 repeat' split
 all_goals first
  | rfl
  | simp_all
theorem ncost_pos:∀ d,1≤ncost d
 | 0=>by simp [ncost]
 | d+1=>by have:=ncost_pos d;simp only [ncost];omega
theorem ncost_10:∀ d,d≤10→ncost d≤2047:=by decide
theorem exprs2 (k:Ck) (x y:Ex) (d:Int) (hx:(exprS k x d).2=true→1≤(exprS k x d).1∧(exprS k x d).1≤3000) (hy:(exprS k y d).2=true→1≤(exprS k y d).1∧(exprS k y d).1≤3000) :
  exprsS k [x,y] d 1=if (exprS k x d).2=true∧(exprS k y d).2=true then (1+(exprS k x d).1+(exprS k y d).1,true) else (0,false):=by
 simp only [exprsS]
 cases h1:(exprS k x d).2 with
 | false=>simp
 | true =>
  have b1:=hx h1
  rw [qs9 (n:=1+(exprS k x d).1) (by omega)]
  cases h2:(exprS k y d).2 with
  | false=>simp
  | true =>
   have b2:=hy h2
   rw [qs9 (n:=1+(exprS k x d).1+(exprS k y d).1) (by omega)]
   simp
mutual
theorem expr_bd (k:Ck):(e:Ex)→∀ d:Int,1≤d→d≤10→(exprS k e d).2=true→1≤(exprS k e d).1∧(exprS k e d).1≤ncost (10 - d).toNat
 | .mk op n v a,d,h1,h2,h=>by
  have hp:=ncost_pos (10 - d).toNat
  simp only [exprS] at h ⊢
  by_cases o1:op=1
  ·rw [if_pos o1] at h ⊢;simp only;omega
  rw [if_neg o1] at h ⊢
  by_cases o2:op=2
  ·rw [if_pos o2] at h ⊢;simp only;omega
  rw [if_neg o2] at h ⊢
  by_cases o3:op=3
  ·rw [if_pos o3] at h ⊢;simp only;omega
  rw [if_neg o3] at h ⊢
  split at h
  ·simp at h
  ·rename_i hc
   rw [if_neg hc]
   simp only [Bool.or_eq_true,Bool.not_eq_true',decide_eq_true_eq,not_or,Classical.not_not] at hc
   obtain ⟨⟨_,hl⟩,hd⟩:=hc
   obtain ⟨x,y,rfl⟩:∃ x y,a=[x,y]:=by
    match a,hl with
    | [x,y],_=>exact ⟨x,y,rfl⟩
   have hw:w64 (d+1)=d+1:=qs9 (by omega)
   obtain ⟨e,he⟩:∃ m,(10 - d).toNat=m+1:=⟨(10 - (d+1)).toNat,by omega⟩
   have he2:(10 - (d+1)).toNat=e:=by omega
   have bx:=exprs_bd k [x,y] x (by simp) (d+1) (by omega) (by omega)
   have by_:=exprs_bd k [x,y] y (by simp) (d+1) (by omega) (by omega)
   have hm:=ncost_10 e (by omega)
   rw [he2] at bx by_
   rw [hw,exprs2 k x y (d+1) (fun h=>by have:=bx h;omega) (fun h=>by have:=by_ h;omega)] at h ⊢
   split at h
   ·rename_i hb
    rw [if_pos hb,he]
    have b1:=bx hb.1
    have b2:=by_ hb.2
    simp only [ncost];omega
   ·simp at h
theorem exprs_bd (k:Ck):(l:List Ex)→∀ x ∈ l,∀ d:Int,1≤d→d≤10→(exprS k x d).2=true→1≤(exprS k x d).1∧(exprS k x d).1≤ncost (10 - d).toNat
 | [],x,h=>by simp at h
 | y::l,x,h=>by
  rcases List.mem_cons.1 h with e | h
  ·rw [e];exact expr_bd k y
  ·exact exprs_bd k l x h
end
theorem expr_bd2 (k:Ck) (e:Ex) {d:Int} (h1:1≤d) (h:(exprS k e d).2=true):1≤(exprS k e d).1∧(exprS k e d).1≤2047:=by
 by_cases h2:d≤10
 ·have:=expr_bd k e d h1 h2 h
  have:=ncost_10 (10 - d).toNat (by omega)
  omega
 ·rw [expr_deep k e (by omega)] at h;simp at h
def badEx (op n v:Int) (a:List Ex):Bool:=!inB op 4 10 || (decide (n≠0) || (decide (v≠0) || decide ((a.length:Int)≠2)))
theorem t_exprR_of (k:Ck) (e:Ex) (ih:∀ x ∈ e.a,∀ d:Int,1≤d→d≤11→∀ s,Spec Tryz.prog 183 [.agg k.d.cells,.agg x.cells,.int .i64 d] s (.int .i64 (sizeR (exprS k x d))) s) (d:Int) (h1:1≤d) (h2:d≤11) (s:St) :
  Spec Tryz.prog 183 [.agg k.d.cells,.agg e.cells,.int .i64 d] s (.int .i64 (sizeR (exprS k e d))) s:=by
 obtain ⟨B,L,c⟩:=s
 obtain ⟨op,n,v,a⟩:=e
 have hal:Ex.a (.mk op n v a)=a:=rfl
 rw [hal] at ih
 have hw1:IntKind.i64.wrap (k.d.vars - 1)=w64 (k.d.vars - 1):=rfl
 have hw2:IntKind.i64.wrap ((k.d.arrays.length:Int) - 1)=w64 (k.d.arrays.length - 1):=rfl
 refine Spec.introN [(16,.cut),(18,.text [false,false,false,false,false,false,false,true,false,false,false,false,false,false,false,true,false,false] [(8,0),(10,0),(12,0)])] Tryz.func183 rfl (by decide) hmix (by kernel_rfl) [ResultVar.tmp 6] 114 rfl rfl ?_
 simp only [vqM,zA,zS,zB]
 by_cases hd:10<d
 ·have:=expr_deep k (.mk op n v a) hd
  have hd':(10<d)=True:=eq_true hd
  simp only [vqM,zB,hd',decide_true]
  refine ke9 (.inr rfl) ?_ (.int _ _) (fun _ h=>h) (Nat.le_refl _)
  simp only [vqM]
  rw [sizeR,this];rfl
 have hd0:(10<d)=False:=eq_false hd
 have hd10:decide (d≤10)=true:=decide_eq_true (by omega)
 simp only [vqM,vt80,zA,zB,Ex.op,hd0,decide_false]
 refine kb9 (fun hc=>?_) (fun hc=>?_)
 ·have o1:=of_decide_eq_true hc
  simp only [vqM,vt80,zA,zB,Ex.n]
  repeat' (first
   | ((with_reducible refine kh9 ?_);refine ka9 (t_inR _ _ _ _) ?_;simp only [vqM])
   | (with_reducible refine kb9 (fun hc=>?_) (fun hc=>?_) <;> simp only [vqM,vt80,hc,zA,zB,kn9,Ex.v,Ex.a])
   | ((with_reducible refine is_q ?_);refine ke9 (.inr rfl) ?_ (.int _ _) (fun _ h=>h) (Nat.le_refl _) <;> (try simp only [vqM]) <;> (first | (simp only [sizeR,exprS,leafB, *,Bool.true_and,Bool.false_and,Bool.and_true,Bool.and_false,if_true];done) | (simp_all [sizeR,exprS,leafB];done) | (simp_all [sizeR,exprS,leafB,hd10];omega))))
 have o1:=of_decide_eq_false hc
 simp only [vqM,zB]
 refine kb9 (fun hc=>?_) (fun hc=>?_)
 ·have o2:=of_decide_eq_true hc
  simp only [vqM,vt80,zA,zB,Ex.v]
  repeat' (first
   | ((with_reducible refine kh9 ?_);refine ka9 (t_inR _ _ _ _) ?_;simp only [vqM])
   | (with_reducible refine kb9 (fun hc=>?_) (fun hc=>?_) <;> simp only [vqM,vt80,hc,zA,zB,kn9,Ex.n,Ex.a,hw1])
   | ((with_reducible refine is_q ?_);refine ke9 (.inr rfl) ?_ (.int _ _) (fun _ h=>h) (Nat.le_refl _) <;> (try simp only [vqM]) <;> (first | (simp only [sizeR,exprS,leafB, *,Bool.true_and,Bool.false_and,Bool.and_true,Bool.and_false,if_true];done) | (simp_all [sizeR,exprS,leafB];done) | (simp_all [sizeR,exprS,leafB,hd10];omega))))
 have o2:=of_decide_eq_false hc
 simp only [vqM,zB]
 refine kb9 (fun hc=>?_) (fun hc=>?_)
 ·have o3:=of_decide_eq_true hc
  simp only [vqM,vt80,zA,zB,Ex.v]
  repeat' (first
   | ((with_reducible refine kh9 ?_);refine ka9 (t_inR _ _ _ _) ?_;simp only [vqM])
   | (with_reducible refine kb9 (fun hc=>?_) (fun hc=>?_) <;> simp only [vqM,vt80,hc,zA,zB,kn9,kq9,Ex.n,Ex.a,hw2])
   | ((with_reducible refine is_q ?_);refine ke9 (.inr rfl) ?_ (.int _ _) (fun _ h=>h) (Nat.le_refl _) <;> (try simp only [vqM]) <;> (first | (simp only [sizeR,exprS,leafB, *,Bool.true_and,Bool.false_and,Bool.and_true,Bool.and_false,if_true];done) | (simp_all [sizeR,exprS,leafB];done) | (simp_all [sizeR,exprS,leafB,hd10];omega))))
 have o3:=of_decide_eq_false hc
 simp only [vqM,zB]
 refine qe9 hmix [2,3,4,87] [J,J,.int .i64 d,.box B.length 0,.box (B.length+1) 0,J,J,J,J,J,J,J,J,J,J,J,J,J,J,J,J,J,J,J,J,J,J,J,J,J,J,J,J,J,J,J,J,J,J,J,J,J,J,J,J,J,J,J,J,J,J,J,J,J,J,J,J,J,J,J,J,J,J,J,J,J,J,J,J,J,J,J,J,J,J,J,J,J,J,J,J,J,J,J,J,J,J,.bool (badEx op n v a),J,J,J,J,J,J,J,J,J,J,J,J,J,J,J,J,J,J,J,J,J,J,J,J,J,J] (fun s=>s=⟨B++[.cells k.d.cells,.cells (Ex.mk op n v a).cells],L,c⟩) ?_ ?_
 ·simp only [vqM,vt80,zA,Ex.op]
  repeat' (first
   | ((with_reducible refine kh9 ?_);refine ka9 (t_inR _ _ _ _) ?_;simp only [vqM])
   | (with_reducible refine kb9 (fun hc=>?_) (fun hc=>?_) <;> simp only [vqM,vt80,hc,zA,kn9,Ex.n,Ex.v,Ex.a])
   | ((with_reducible refine is_q ?_);refine kj9 ⟨?_,rfl⟩ <;> simp only [vke,zB,zA] <;> (first | (simp only [badEx, *,Bool.true_or,Bool.false_or,Bool.or_true];done) | (simp_all [badEx];done) | (simp_all [badEx];omega))))
 rintro s rfl
 simp only [vqM]
 have hex:exprS k (.mk op n v a) d=if badEx op n v a || decide (10≤d) then (0,false) else exprsS k a (w64 (d+1)) 1:=by
  simp only [exprS,if_neg o1,if_neg o2,if_neg o3,badEx]
  congr 1
  simp only [Bool.or_eq_true,Bool.not_eq_true',decide_eq_true_eq,or_assoc]
 refine kb9 (fun hc=>?_) (fun hc=>?_)
 ·simp only [vqM,zB]
  refine ke9 (.inr rfl) ?_ (.int _ _) (fun _ h=>h) (Nat.le_refl _)
  simp only [vqM]
  rw [sizeR,hex,hc];rfl
 rw [hc,Bool.false_or] at hex
 simp only [badEx,Bool.or_eq_false_iff,decide_eq_false_iff_not,ne_eq,Classical.not_not] at hc
 obtain ⟨_,_,_,hl⟩:=hc
 obtain ⟨x,y,rfl⟩:∃ x y,a=[x,y]:=by
  match a,hl with
  | [x,y],_=>exact ⟨x,y,rfl⟩
 have hwd:IntKind.i64.wrap (d+1)=d+1:=ky9 (by omega)
 have hen:Ex.encs [x,y]=[x.cells,y.cells]:=rfl
 have ihx:=ih x (by simp)
 have ihy:=ih y (by simp)
 have sx:(exprS k x (d+1)).2=true→1≤(exprS k x (d+1)).1∧(exprS k x (d+1)).1≤3000:=fun h=>by have:=expr_bd2 k x (d:=d+1) (by omega) h;omega
 have sy:(exprS k y (d+1)).2=true→1≤(exprS k y (d+1)).1∧(exprS k y (d+1)).1≤3000:=fun h=>by have:=expr_bd2 k y (d:=d+1) (by omega) h;omega
 have hw:w64 (d+1)=d+1:=hwd
 have hfin:sizeR (exprS k (.mk op n v [x,y]) d)=if sizeR (exprS k x (d+1))<0∨sizeR (exprS k y (d+1))<0 then -1 else 1+sizeR (exprS k x (d+1))+sizeR (exprS k y (d+1)):=by
  rw [hex]
  by_cases h10:10≤d
  ·have dx:=expr_deep k x (d:=d+1) (by omega)
   simp only [sizeR,h10,dx,decide_true,if_true]
   simp
  ·rw [if_neg (by simpa using h10),hw,exprs2 k x y (d+1) sx sy]
   cases hx:(exprS k x (d+1)).2 with
   | false=>simp [sizeR,hx]
   | true =>
    cases hy:(exprS k y (d+1)).2 with
    | false=>simp [sizeR,hx,hy]
    | true =>
     have:=sx hx
     have:=sy hy
     simp only [sizeR,hx,hy,and_self,if_true]
     rw [if_neg (by omega)]
 simp only [vqM,vt80,zA,zB,Ex.a,hen,hwd,Int.reduceLE,Int.reduceToNat]
 refine ka9 (ihx (d+1) (by omega) (by omega) _) ?_
 simp only [vqM,vt80,zA,Ex.a,hen,hwd,Int.reduceLE,Int.reduceToNat]
 refine ka9 (ihy (d+1) (by omega) (by omega) _) ?_
 have kx:sizeR (exprS k x (d+1))≤4000∧sizeR (exprS k y (d+1))≤4000:=by
  constructor <;> (unfold sizeR;split)
  ·rename_i h;have:=sx h;omega
  ·omega
  ·rename_i h;have:=sy h;omega
  ·omega
 generalize sizeR (exprS k x (d+1))=rx at hfin kx ⊢
 generalize sizeR (exprS k y (d+1))=ry at hfin kx ⊢
 simp only [vqM,vt80,zB,Ex.a,hen]
 refine kb9 (fun ha=>?_) (fun ha=>?_)
 ·have ha':=of_decide_eq_true ha
  simp only [vqM,zB,ha]
  refine ke9 (.inr rfl) ?_ (.int _ _) (fun _ h=>h) (Nat.le_refl _)
  simp only [vqM]
  rw [hfin,if_pos (.inl ha')]
 have ha':=of_decide_eq_false ha
 simp only [vqM,ha]
 refine kb9 (fun hb=>?_) (fun hb=>?_)
 ·have hb':=of_decide_eq_true hb
  simp only [vqM,zB,hb]
  refine ke9 (.inr rfl) ?_ (.int _ _) (fun _ h=>h) (Nat.le_refl _)
  simp only [vqM]
  rw [hfin,if_pos (.inr hb')]
 ·have hb':=of_decide_eq_false hb
  have w1:IntKind.i64.wrap (1+rx)=1+rx:=ky9 (by omega)
  have w2:IntKind.i64.wrap (1+rx+ry)=1+rx+ry:=ky9 (by omega)
  simp only [vqM,zB,hb,w1,w2]
  refine ke9 (.inr rfl) ?_ (.int _ _) (fun _ h=>h) (Nat.le_refl _)
  simp only [vqM]
  rw [hfin,if_neg (by omega)]
mutual
theorem t_exprR (k:Ck):(e:Ex)→∀ d:Int,1≤d→d≤11→∀ s,Spec Tryz.prog 183 [.agg k.d.cells,.agg e.cells,.int .i64 d] s (.int .i64 (sizeR (exprS k e d))) s
 | .mk op n v a,d,h1,h2,s=>t_exprR_of k (.mk op n v a) (t_exprsR k a) d h1 h2 s
theorem t_exprsR (k:Ck):(l:List Ex)→∀ x ∈ l,∀ d:Int,1≤d→d≤11→∀ s,Spec Tryz.prog 183 [.agg k.d.cells,.agg x.cells,.int .i64 d] s (.int .i64 (sizeR (exprS k x d))) s
 | [],x,h=>by simp at h
 | y::l,x,h=>by
  rcases List.mem_cons.1 h with e | h
  ·rw [e];exact t_exprR k y
  ·exact t_exprsR k l x h
end
theorem t_valueR (k:Ck) (e:Ex) (s:St):Spec Tryz.prog 158 [.agg k.d.cells,.agg e.cells] s (.bool (valueB k e)) s:=by
 have hv:inB (sizeR (exprS k e 1)) 1 60=valueB k e:=by
  cases h:(exprS k e 1).2 with
  | false=>simp [sizeR,valueB,h,inB]
  | true =>
   have:=expr_bd2 k e (d:=1) (by omega) h
   simp only [sizeR,valueB,h,inB,if_true,Bool.true_and]
   rw [decide_eq_true this.1,Bool.true_and]
 obtain ⟨B,L,c⟩:=s
 refine Spec.introN [] Tryz.func158 rfl (by decide) hmix (by kernel_rfl) [ResultVar.tmp 4] 9 rfl rfl ?_
 simp only [vqM,vt81,zA,zS]
 refine ka9 (t_exprR k e 1 (by omega) (by omega) _) ?_
 simp only [vqM]
 refine ka9 (t_inR _ _ _ _) ?_
 rw [hv]
 simp only [vqM]
 refine ke9 (.inr rfl) ?_ (.bool _) (fun _ h=>h) (Nat.le_refl _)
 simp only [vqM]
theorem t_noExprR (e:Ex) (s:St):Spec Tryz.prog 159 [.agg e.cells] s (.bool (decide (e.op=0) && (decide (e.n=0) && (decide (e.v=0) && decide ((e.a.length:Int)=0))))) s:=by
 obtain ⟨B,L,c⟩:=s
 refine Spec.introN [] Tryz.func159 rfl (by decide) hmix (by kernel_rfl) [ResultVar.tmp 2] 22 rfl rfl ?_
 simp only [vqM,vt31,zA,zS]
 repeat' (first
  | (with_reducible refine kb9 (fun hc=>?_) (fun hc=>?_) <;> simp only [vqM,vt31,hc,zA,kn9])
  | ((with_reducible refine is_q ?_);refine ke9 (.inr rfl) ?_ (.bool _) (fun _ h=>h) (Nat.le_refl _) <;> (try simp only [vqM]) <;> (first | (simp only [*,Bool.true_and,Bool.false_and,Bool.and_false];done) | (simp_all [];done) | (simp_all [];omega))))
theorem t_noCondR (e:Co) (s:St):Spec Tryz.prog 161 [.agg e.cells] s (.bool (decide (e.op=0) && (decide ((e.a.length:Int)=0) && decide ((e.c.length:Int)=0)))) s:=by
 obtain ⟨B,L,c⟩:=s
 refine Spec.introN [] Tryz.func161 rfl (by decide) hmix (by kernel_rfl) [ResultVar.tmp 2] 18 rfl rfl ?_
 simp only [vqM,vt70,zA,zS]
 repeat' (first
  | (with_reducible refine kb9 (fun hc=>?_) (fun hc=>?_) <;> simp only [vqM,vt70,hc,zA,kn9,we9])
  | ((with_reducible refine is_q ?_);refine ke9 (.inr rfl) ?_ (.bool _) (fun _ h=>h) (Nat.le_refl _) <;> (try simp only [vqM]) <;> (first | (simp only [*,Bool.true_and,Bool.false_and,Bool.and_false];done) | (simp_all [];done) | (simp_all [];omega))))
theorem exprsS_app (k:Ck) (d:Int):∀ (l:List Ex) (x:Ex) (acc:Int),exprsS k (l++[x]) d acc=bif (exprsS k l d acc).2 then (bif (exprS k x d).2 then (w64 ((exprsS k l d acc).1+(exprS k x d).1),true) else (0,false)) else (0,false)
 | [],x,acc=>by simp only [List.nil_append,exprsS,cond_true]
 | y::l,x,acc=>by
  simp only [List.cons_append,exprsS]
  cases h:(exprS k y d).2 with
  | true=>simp only [cond_true];exact exprsS_app k d l x _
  | false=>simp only [cond_false]
theorem condsS_app (k:Ck) (d:Int):∀ (l:List Co) (x:Co) (acc:Int),condsS k (l++[x]) d acc=bif (condsS k l d acc).2 then (bif (condS k x d).2 then (w64 ((condsS k l d acc).1+(condS k x d).1),true) else (0,false)) else (0,false)
 | [],x,acc=>by simp only [List.nil_append,condsS,cond_true]
 | y::l,x,acc=>by
  simp only [List.cons_append,condsS]
  cases h:(condS k y d).2 with
  | true=>simp only [cond_true];exact condsS_app k d l x _
  | false=>simp only [cond_false]
theorem exprsS_bd (k:Ck) (d:Int) (hd:1≤d):∀ (l:List Ex) (acc:Int),1≤acc→acc+2047 * l.length≤1000000000000→(exprsS k l d acc).2=true→acc≤(exprsS k l d acc).1∧(exprsS k l d acc).1≤acc+2047 * l.length
 | [],acc,_,_,_=>by simp [exprsS]
 | x::l,acc,h1,h2,h=>by
  simp only [List.length_cons] at h2 ⊢
  simp only [exprsS] at h ⊢
  cases hx:(exprS k x d).2 with
  | false=>rw [hx] at h;simp at h
  | true =>
   rw [hx] at h
   simp only [cond_true] at h ⊢
   have b:=expr_bd2 k x hd hx
   rw [qs9 (n:=acc+(exprS k x d).1) (by omega)] at h ⊢
   have:=exprsS_bd k d hd l (acc+(exprS k x d).1) (by omega) (by omega) h
   omega
theorem exprsS_neg (k:Ck) (d:Int):∀ (l:List Ex) (acc:Int),(exprsS k l d acc).2=true ↔ ∀ x ∈ l,(exprS k x d).2=true
 | [],acc=>by simp [exprsS]
 | x::l,acc=>by
  simp only [exprsS]
  cases hx:(exprS k x d).2 with
  | false=>simp [hx]
  | true=>simp only [cond_true,exprsS_neg k d l,List.mem_cons,forall_eq_or_imp,hx,true_and]
theorem condsS_neg (k:Ck) (d:Int):∀ (l:List Co) (acc:Int),(condsS k l d acc).2=true ↔ ∀ x ∈ l,(condS k x d).2=true
 | [],acc=>by simp [condsS]
 | x::l,acc=>by
  simp only [condsS]
  cases hx:(condS k x d).2 with
  | false=>simp [hx]
  | true=>simp only [cond_true,condsS_neg k d l,List.mem_cons,forall_eq_or_imp,hx,true_and]
theorem cond_deep (k:Ck) (e:Co) {d:Int} (h:10<d):(condS k e d).2=false:=by
 obtain ⟨op,a,c⟩:=e
 simp only [condS]
 cases wantOf op with
 | none=>rfl
 | some w=>simp only [decide_eq_true h,Bool.or_true,cond_true]
def dcost:Nat→Int
 | 0=>5000
 | n+1=>5000+2 * dcost n
theorem dcost_pos:∀ n,5000≤dcost n
 | 0=>by simp [dcost]
 | n+1=>by have:=dcost_pos n;simp only [dcost];omega
theorem dcost_10:∀ n,n≤10→dcost n≤20000000:=by decide
theorem want_len {op:Int} {w:Int × Int} (h:wantOf op=some w):(0≤w.1∧w.1≤2)∧(0≤w.2∧w.2≤2):=by
 unfold wantOf at h
 repeat' split at h
 all_goals first
  | (cases h;simp)
  | cases h
theorem condsS_sum (k:Ck) (d:Int) (m:Int):∀ (l:List Co) (acc:Int),1≤acc→acc≤100000000→(0≤m∧m≤20000000)→l.length≤2→(∀ x ∈ l,1≤(condS k x d).1∧(condS k x d).1≤m)→(∀ x ∈ l,(condS k x d).2=true)→acc≤(condsS k l d acc).1∧(condsS k l d acc).1≤acc+m * l.length
 | [],acc,_,_,_,_,_,_=>by simp [condsS]
 | [x],acc,h1,h2,hm,_,hb,ho=>by
  have b:=hb x (by simp)
  simp only [condsS,ho x (by simp),cond_true]
  rw [qs9 (n:=acc+(condS k x d).1) (by omega)]
  simp;omega
 | [x,y],acc,h1,h2,hm,_,hb,ho=>by
  have b:=hb x (by simp)
  have b2:=hb y (by simp)
  simp only [condsS,ho x (by simp),ho y (by simp),cond_true]
  rw [qs9 (n:=acc+(condS k x d).1) (by omega),qs9 (n:=acc+(condS k x d).1+(condS k y d).1) (by omega)]
  simp;omega
 | _::_::_::_,_,_,_,_,hl,_,_=>by simp at hl
mutual
theorem cond_bd (k:Ck):(e:Co)→∀ d:Int,1≤d→d≤10→(condS k e d).2=true→1≤(condS k e d).1∧(condS k e d).1≤dcost (10 - d).toNat
 | .mk op a c,d,h1,h2,h=>by
  simp only [condS] at h ⊢
  cases hw:wantOf op with
  | none=>rw [hw] at h;simp at h
  | some w =>
   rw [hw] at h
   simp only at h ⊢
   have hwl:=want_len hw
   cases hb:(!(decide ((a.length:Int)=w.1) && decide ((c.length:Int)=w.2)) || decide (10<d)) with
   | true=>rw [hb] at h;simp at h
   | false =>
    rw [hb] at h
    simp only [Bool.or_eq_false_iff,Bool.not_eq_false',Bool.and_eq_true,decide_eq_true_eq] at hb
    simp only [cond_false] at h ⊢
    have hwd:w64 (d+1)=d+1:=qs9 (by omega)
    rw [hwd] at h ⊢
    cases he:(exprsS k a (d+1) 1).2 with
    | false=>rw [he] at h;simp at h
    | true =>
     rw [he] at h
     simp only [cond_true] at h ⊢
     have b1:=exprsS_bd k (d+1) (by omega) a 1 (by omega) (by omega) he
     have hc:=(condsS_neg k (d+1) c _).1 h
     by_cases h10:d=10
     ·have hc0:c=[]:=by
       cases c with
       | nil=>rfl
       | cons x c =>
        have:=hc x (by simp)
        rw [cond_deep k x (by omega)] at this;simp at this
      subst hc0
      have:=dcost_pos (10 - d).toNat
      simp only [condsS];omega
     ·have bm:=conds_mem k c
      have b2:=condsS_sum k (d+1) (dcost (10 - (d+1)).toNat) c (exprsS k a (d+1) 1).1 (by omega) (by omega) (by have:=dcost_10 (10 - (d+1)).toNat (by omega);have:=dcost_pos (10 - (d+1)).toNat;omega) (by omega) (fun x hx=>bm x hx (d+1) (by omega) (by omega) (hc x hx)) hc
      obtain ⟨q,hq⟩:∃ m,(10 - d).toNat=m+1:=⟨(10 - (d+1)).toNat,by omega⟩
      have hq2:(10 - (d+1)).toNat=q:=by omega
      rw [hq2] at b2
      rw [hq]
      simp only [dcost]
      have:=dcost_pos q
      have h3:c.length=0∨c.length=1∨c.length=2:=by omega
      rcases h3 with h3 | h3 | h3 <;> rw [h3] at b2 <;> simp at b2 <;> omega
theorem conds_mem (k:Ck):(l:List Co)→∀ x ∈ l,∀ d:Int,1≤d→d≤10→(condS k x d).2=true→1≤(condS k x d).1∧(condS k x d).1≤dcost (10 - d).toNat
 | [],x,h=>by simp at h
 | y::l,x,h=>by
  rcases List.mem_cons.1 h with e | h
  ·rw [e];exact cond_bd k y
  ·exact conds_mem k l x h
end
theorem cond_bd2 (k:Ck) (e:Co) {d:Int} (h1:1≤d) (h:(condS k e d).2=true):1≤(condS k e d).1∧(condS k e d).1≤20000000:=by
 by_cases h2:d≤10
 ·have:=cond_bd k e d h1 h2 h
  have:=dcost_10 (10 - d).toNat (by omega)
  omega
 ·rw [cond_deep k e (by omega)] at h;simp at h
theorem t_condR_of (k:Ck) (e:Co) (ih:∀ x ∈ e.c,∀ d:Int,1≤d→d≤11→∀ s,Spec Tryz.prog 184 [.agg k.d.cells,.agg x.cells,.int .i64 d] s (.int .i64 (sizeR (condS k x d))) s) (d:Int) (h1:1≤d) (h2:d≤11) (s:St) :
  Spec Tryz.prog 184 [.agg k.d.cells,.agg e.cells,.int .i64 d] s (.int .i64 (sizeR (condS k e d))) s:=by
 obtain ⟨B,L,c⟩:=s
 obtain ⟨op,a,cc⟩:=e
 have hal:Co.c (.mk op a cc)=cc:=rfl
 rw [hal] at ih
 refine Spec.introN [(3,.cut)] Tryz.func184 rfl (by decide) hmix (by kernel_rfl) [ResultVar.tmp 6] 80 rfl rfl ?_
 simp only [vqM,zA,zS,zB]
 by_cases hd:10<d
 ·have:=cond_deep k (.mk op a cc) hd
  have hd':(10<d)=True:=eq_true hd
  simp only [vqM,zB,hd',decide_true]
  refine ke9 (.inr rfl) ?_ (.int _ _) (fun _ h=>h) (Nat.le_refl _)
  simp only [vqM]
  rw [sizeR,this];rfl
 have hd0:(10<d)=False:=eq_false hd
 have hwd:IntKind.i64.wrap (d+1)=d+1:=ky9 (by omega)
 have hwd2:w64 (d+1)=d+1:=hwd
 simp only [vqM,hd0,decide_false]
 refine seq_go ?_
 simp only [vqM]
 cases hw:wantOf op with
 | none =>
  have hno:op≠1∧op≠2∧op≠3∧op≠4∧op≠5∧op≠6∧op≠7:=by
   refine ⟨?_,?_,?_,?_,?_,?_,?_⟩ <;> (rintro rfl;simp [wantOf] at hw)
  obtain ⟨n1,n2,n3,n4,n5,n6,n7⟩:=hno
  have hr:sizeR (condS k (.mk op a cc) d) = -1:=by simp [condS,hw,sizeR]
  refine xk9 hmix ?_
  simp only [vqM,vt82,zA,zB,Co.op,eq_false n1,eq_false n2,eq_false n3,eq_false n4,eq_false n5,eq_false n6,eq_false n7,decide_false]
  refine ke9 (.inr rfl) ?_ (.int _ _) (fun _ h=>h) (Nat.le_refl _)
  simp only [vqM]
  rw [hr]
 | some w =>
  have hwl:=want_len hw
  refine awN_joinI (fun e s=>keep [2,3,4,7,8] e=[J,J,.int .i64 d,.box B.length 0,.box (B.length+1) 0,J,J,.int .i64 w.1,.int .i64 w.2,J,J,J,J,J,J,J,J,J,J,J,J,J,J,J,J,J,J,J,J,J,J,J,J,J,J,J,J,J,J,J,J,J,J,J,J,J,J,J,J,J,J,J,J,J,J,J,J,J,J,J,J,J,J,J,J,J,J,J,J,J,J,J,J,J,J,J,J,J,J,J]∧s=⟨B++[.cells k.d.cells,.cells (Co.mk op a cc).cells],L,c⟩) ?_ ?_
  ·have hop:(op=1∧w=(0,0))∨(op=2∧w=(2,0))∨(op=3∧w=(2,0))∨(op=4∧w=(2,0))∨(op=5∧w=(0,1))∨(op=6∧w=(0,2))∨(op=7∧w=(0,2)):=by
    unfold wantOf at hw
    repeat' split at hw
    all_goals first
     | (cases hw;simp_all)
     | cases hw
   refine xk9 hmix ?_
   rcases hop with ⟨rfl,rfl⟩ | ⟨rfl,rfl⟩ | ⟨rfl,rfl⟩ | ⟨rfl,rfl⟩ | ⟨rfl,rfl⟩ | ⟨rfl,rfl⟩ | ⟨rfl,rfl⟩
   all_goals
    simp only [vqM,vt82,zA,zB,Co.op,Int.reduceEq,decide_false,decide_true]
    exact qi9 ⟨by simp only [vke,zB,zA],rfl⟩
  rintro e s ⟨he,rfl⟩
  refine kc9 [2,3,4,7,8] ?_
  rw [he]
  clear he
  refine xk9 hmix ?_
  simp only [vqM,vt82,zA,zB,kn9,Co.a]
  have hcs:condS k (.mk op a cc) d=bif (!(decide ((a.length:Int)=w.1) && decide ((cc.length:Int)=w.2))) || decide (10<d) then (0,false) else bif (exprsS k a (d+1) 1).2 then condsS k cc (d+1) (exprsS k a (d+1) 1).1 else (0,false):=by
   simp only [condS,hw,hwd2]
  have hd9:decide (10<d)=false:=decide_eq_false hd
  refine kb9 (fun hc=>?_) (fun hc=>?_)
  ·have hc':decide ((a.length:Int)=w.1)=false:=by simpa using hc
   simp only [vqM,zB,hc]
   refine ke9 (.inr rfl) ?_ (.int _ _) (fun _ h=>h) (Nat.le_refl _)
   simp only [vqM]
   rw [hcs,hc'];rfl
  have ha:(a.length:Int)=w.1:=by simpa using hc
  simp only [vqM,vt82,zA,we9,Co.c,hc]
  refine kb9 (fun hc=>?_) (fun hc=>?_)
  ·have hc':decide ((cc.length:Int)=w.2)=false:=by simpa using hc
   simp only [vqM,zB,hc]
   refine ke9 (.inr rfl) ?_ (.int _ _) (fun _ h=>h) (Nat.le_refl _)
   simp only [vqM]
   rw [hcs,hc',Bool.and_false];rfl
  have hb:(cc.length:Int)=w.2:=by simpa using hc
  rw [decide_eq_true ha,decide_eq_true hb,hd9] at hcs
  simp only [Bool.and_self,Bool.not_true,Bool.or_self,cond_false] at hcs
  rw [← ha,← hb]
  rw [← ha,← hb] at hwl
  simp only [vqM,zB]
  refine kc9 [2,3,4,7,8,9,10] ?_
  simp only [vke,zB,zA]
  refine km9 hmix a.length (fun i e s=>∃ acc:Int,exprsS k (a.take i) (d+1) 1=(acc,true)∧e=[J,J,.int .i64 d,.box B.length 0,.box (B.length+1) 0,J,J,.int .i64 (a.length:Int),.int .i64 (cc.length:Int),.int .i64 acc,.int .i64 (i:Int),J,J,J,J,J,J,J,J,J,J,J,J,J,J,J,J,J,J,J,J,J,J,J,J,J,J,J,J,J,J,J,J,J,J,J,J,J,J,J,J,J,J,J,J,J,J,J,J,J,J,J,J,J,J,J,J,J,J,J,J,J,J,J,J,J,J,J,J,J]∧s=⟨B++[.cells k.d.cells,.cells (Co.mk op a cc).cells],L,c⟩) ?_ ?_ 0 _ _ (Nat.zero_le _) ⟨1,rfl,rfl,rfl⟩
  ·rintro i e s hi ⟨acc,hacc,rfl,rfl⟩ ihl
   have hx:a[i]? = some a[i]:=List.getElem?_eq_getElem hi
   have hg:(Ex.encs a)[i]? = some (a[i].cells):=by simp [Ex.encs_map,hx]
   have hilt:((i:Int)<(a.length:Int))=True:=by simp;exact hi
   have hnx:exprsS k (a.take (i+1)) (d+1) 1=bif (exprS k a[i] (d+1)).2 then (w64 (acc+(exprS k a[i] (d+1)).1),true) else (0,false):=by
    rw [List.take_add_one,hx,Option.toList_some,exprsS_app,hacc];rfl
   have hbd:1≤acc∧acc≤5000:=by
    have:=exprsS_bd k (d+1) (by omega) (a.take i) 1 (by omega) (by rw [List.length_take];omega) (by rw [hacc])
    rw [hacc] at this
    have hl:(a.take i).length≤2:=by rw [List.length_take];omega
    simp only at this;omega
   have hmem:a[i] ∈ a:=List.getElem_mem hi
   generalize a[i]=x at hx hg hnx hmem
   simp only [vqM,vt82,zA,zB,Co.a,hilt,decide_true,natle0,Int.toNat_natCast,hg,hwd]
   refine ka9 (t_exprR k x (d+1) (by omega) (by omega) _) ?_
   cases hxo:(exprS k x (d+1)).2 with
   | false =>
    have hs:sizeR (exprS k x (d+1)) = -1:=by rw [sizeR,hxo];rfl
    rw [hs]
    simp only [vqM,zB,Int.reduceLT,Int.reduceNeg,decide_true]
    refine ke9 (.inr rfl) ?_ (.int _ _) (fun _ h=>h) (Nat.le_refl _)
    have:(exprsS k a (d+1) 1).2=false:=by
     cases h:(exprsS k a (d+1) 1).2 with
     | false=>rfl
     | true=>have:=(exprsS_neg k (d+1) a 1).1 h x hmem;rw [hxo] at this;simp at this
    simp only [vqM]
    rw [hcs,this];rfl
   | true =>
    have hs:sizeR (exprS k x (d+1))=(exprS k x (d+1)).1:=by rw [sizeR,hxo];rfl
    have hb:=expr_bd2 k x (d:=d+1) (by omega) hxo
    rw [hs]
    rw [hxo] at hnx
    generalize (exprS k x (d+1)).1=sz at hb hnx ⊢
    have hneg:(sz<0)=False:=eq_false (by omega)
    have hww:IntKind.i64.wrap (acc+sz)=w64 (acc+sz):=rfl
    simp only [vqM,zB,hneg,decide_false,hww]
    rw [kf9 (by omega)]
    refine kc9 [2,3,4,7,8,9,10] ?_
    simp only [vke,zB,zA]
    exact ihl _ _ ⟨_,hnx,rfl,rfl⟩
  ·rintro e s ⟨acc,hacc,rfl,rfl⟩
   have hilt:((a.length:Int)<(a.length:Int))=False:=by simp
   rw [List.take_length] at hacc
   rw [hacc] at hcs
   simp only [cond_true] at hcs
   have hbd:1≤acc∧acc≤5000:=by
    have:=exprsS_bd k (d+1) (by omega) a 1 (by omega) (by omega) (by rw [hacc])
    rw [hacc] at this
    simp only at this;omega
   simp only [vqM,zB,hilt,decide_false]
   refine kc9 [2,3,4,8,9,12] ?_
   simp only [vke,zB,zA]
   refine km9 hmix cc.length (fun i e s=>∃ ac:Int,condsS k (cc.take i) (d+1) acc=(ac,true)∧e=[J,J,.int .i64 d,.box B.length 0,.box (B.length+1) 0,J,J,J,.int .i64 (cc.length:Int),.int .i64 ac,J,J,.int .i64 (i:Int),J,J,J,J,J,J,J,J,J,J,J,J,J,J,J,J,J,J,J,J,J,J,J,J,J,J,J,J,J,J,J,J,J,J,J,J,J,J,J,J,J,J,J,J,J,J,J,J,J,J,J,J,J,J,J,J,J,J,J,J,J,J,J,J,J,J,J]∧s=⟨B++[.cells k.d.cells,.cells (Co.mk op a cc).cells],L,c⟩) ?_ ?_ 0 _ _ (Nat.zero_le _) ⟨acc,rfl,rfl,rfl⟩
   ·rintro i e s hi ⟨ac,hac,rfl,rfl⟩ ihl
    have hx:cc[i]? = some cc[i]:=List.getElem?_eq_getElem hi
    have hg:(Co.encs cc)[i]? = some (cc[i].cells):=by simp [Co.encs_map,hx]
    have hilt:((i:Int)<(cc.length:Int))=True:=by simp;exact hi
    have hnx:condsS k (cc.take (i+1)) (d+1) acc=bif (condS k cc[i] (d+1)).2 then (w64 (ac+(condS k cc[i] (d+1)).1),true) else (0,false):=by
     rw [List.take_add_one,hx,Option.toList_some,condsS_app,hac];rfl
    have hmem:cc[i] ∈ cc:=List.getElem_mem hi
    have ihx:=ih _ hmem
    generalize cc[i]=x at hx hg hnx hmem ihx
    simp only [vqM,vt82,zA,zB,Co.c,hilt,decide_true,natle0,Int.toNat_natCast,hg,hwd]
    refine ka9 (ihx (d+1) (by omega) (by omega) _) ?_
    cases hxo:(condS k x (d+1)).2 with
    | false =>
     have hs:sizeR (condS k x (d+1)) = -1:=by rw [sizeR,hxo];rfl
     rw [hs]
     simp only [vqM,zB,Int.reduceLT,Int.reduceNeg,decide_true]
     refine ke9 (.inr rfl) ?_ (.int _ _) (fun _ h=>h) (Nat.le_refl _)
     have:(condsS k cc (d+1) acc).2=false:=by
      cases h:(condsS k cc (d+1) acc).2 with
      | false=>rfl
      | true=>have:=(condsS_neg k (d+1) cc acc).1 h x hmem;rw [hxo] at this;simp at this
     simp only [vqM]
     rw [hcs,sizeR,this];rfl
    | true =>
     have hs:sizeR (condS k x (d+1))=(condS k x (d+1)).1:=by rw [sizeR,hxo];rfl
     have hb:=cond_bd2 k x (d:=d+1) (by omega) hxo
     rw [hs]
     rw [hxo] at hnx
     generalize (condS k x (d+1)).1=sz at hb hnx ⊢
     have hneg:(sz<0)=False:=eq_false (by omega)
     have hww:IntKind.i64.wrap (ac+sz)=w64 (ac+sz):=rfl
     simp only [vqM,zB,hneg,decide_false,hww]
     rw [kf9 (by omega)]
     refine kc9 [2,3,4,8,9,12] ?_
     simp only [vke,zB,zA]
     exact ihl _ _ ⟨_,hnx,rfl,rfl⟩
   ·rintro e s ⟨ac,hac,rfl,rfl⟩
    have hilt:((cc.length:Int)<(cc.length:Int))=False:=by simp
    rw [List.take_length] at hac
    simp only [vqM,zB,hilt,decide_false]
    refine ke9 (.inr rfl) ?_ (.int _ _) (fun _ h=>h) (Nat.le_refl _)
    simp only [vqM]
    rw [hcs,hac];rfl
mutual
theorem t_condR (k:Ck):(e:Co)→∀ d:Int,1≤d→d≤11→∀ s,Spec Tryz.prog 184 [.agg k.d.cells,.agg e.cells,.int .i64 d] s (.int .i64 (sizeR (condS k e d))) s
 | .mk op a c,d,h1,h2,s=>t_condR_of k (.mk op a c) (t_condsR k c) d h1 h2 s
theorem t_condsR (k:Ck):(l:List Co)→∀ x ∈ l,∀ d:Int,1≤d→d≤11→∀ s,Spec Tryz.prog 184 [.agg k.d.cells,.agg x.cells,.int .i64 d] s (.int .i64 (sizeR (condS k x d))) s
 | [],x,h=>by simp at h
 | y::l,x,h=>by
  rcases List.mem_cons.1 h with e | h
  ·rw [e];exact t_condR k y
  ·exact t_condsR k l x h
end
theorem t_testR (k:Ck) (e:Co) (s:St):Spec Tryz.prog 160 [.agg k.d.cells,.agg e.cells] s (.bool (testB k e)) s:=by
 have hv:inB (sizeR (condS k e 1)) 1 60=testB k e:=by
  cases h:(condS k e 1).2 with
  | false=>simp [sizeR,testB,h,inB]
  | true =>
   have:=cond_bd2 k e (d:=1) (by omega) h
   simp only [sizeR,testB,h,inB,if_true,Bool.true_and]
   rw [decide_eq_true this.1,Bool.true_and]
 obtain ⟨B,L,c⟩:=s
 refine Spec.introN [] Tryz.func160 rfl (by decide) hmix (by kernel_rfl) [ResultVar.tmp 4] 9 rfl rfl ?_
 simp only [vqM,vt83,zA,zS]
 refine ka9 (t_condR k e 1 (by omega) (by omega) _) ?_
 simp only [vqM]
 refine ka9 (t_inR _ _ _ _) ?_
 rw [hv]
 simp only [vqM]
 refine ke9 (.inr rfl) ?_ (.bool _) (fun _ h=>h) (Nat.le_refl _)
 simp only [vqM]
structure Us where
 n:Int
 m:Int
 v:Bool
 x:Bool
 y:Bool
 c:Bool
 call:Bool
 body:Bool
 els:Bool
def Us.cells (x:Us):List D:=[.int .i64 x.n,.int .i64 x.m,.bool x.v,.bool x.x,.bool x.y,.bool x.c,.bool x.call,.bool x.body,.bool x.els]
theorem Us.cells_len (x:Us):x.cells.length=9:=rfl
theorem Us.plain (x:Us):x.cells.map D.plain1=x.cells:=rfl
theorem Us.keep1 (x:Us):x.cells.map D.keep1=x.cells:=rfl
theorem Us.take0 (x:Us):x.cells.take 9=x.cells:=List.take_of_length_le (by rw [Us.cells_len];decide)
theorem Us.drop0 (x:Us) (l:List D):(x.cells++l).drop 9=l:=by have:=List.drop_left (l₁:=x.cells) (l₂:=l);rwa [Us.cells_len] at this
theorem Us.takeB (x:Us) (l:List D):(x.cells++l).take 9=x.cells:=by have:=List.take_left (l₁:=x.cells) (l₂:=l);rwa [Us.cells_len] at this
theorem Us.lenA (x:Us) (l:List D):(x.cells++l).length=9+l.length:=by rw [List.length_append,Us.cells_len]
theorem Us.f_n (x:Us):x.cells[0]? = some (.int .i64 x.n):=rfl
theorem Us.f_m (x:Us):(x.cells.drop 1)[0]? = some (.int .i64 x.m):=rfl
theorem Us.f_v (x:Us):(x.cells.drop 2)[0]? = some (.bool x.v):=rfl
theorem Us.f_x (x:Us):(x.cells.drop 3)[0]? = some (.bool x.x):=rfl
theorem Us.f_y (x:Us):(x.cells.drop 4)[0]? = some (.bool x.y):=rfl
theorem Us.f_c (x:Us):(x.cells.drop 5)[0]? = some (.bool x.c):=rfl
theorem Us.f_call (x:Us):(x.cells.drop 6)[0]? = some (.bool x.call):=rfl
theorem Us.f_body (x:Us):(x.cells.drop 7)[0]? = some (.bool x.body):=rfl
theorem Us.f_els (x:Us):(x.cells.drop 8)[0]? = some (.bool x.els):=rfl
theorem vsUs:(type_of% @Us.cells_len)∧(type_of% @Us.plain)∧(type_of% @Us.keep1)∧(type_of% @Us.take0)∧(type_of% @Us.drop0)∧(type_of% @Us.takeB)∧(type_of% @Us.lenA)∧(type_of% @Us.f_n)∧(type_of% @Us.f_m)∧(type_of% @Us.f_v)∧(type_of% @Us.f_x)∧(type_of% @Us.f_y)∧(type_of% @Us.f_c)∧(type_of% @Us.f_call)∧(type_of% @Us.f_body)∧(type_of% @Us.f_els) :=
 ⟨@Us.cells_len,@Us.plain,@Us.keep1,@Us.take0,@Us.drop0,@Us.takeB,@Us.lenA,@Us.f_n,@Us.f_m,@Us.f_v,@Us.f_x,@Us.f_y,@Us.f_c,@Us.f_call,@Us.f_body,@Us.f_els⟩
def Us.encs (l:List Us):List (List D):=l.map Us.cells
def ctlF (op:Int):Us × Bool :=
 if op=11 then (⟨0,0,false,false,false,true,false,true,true⟩,true)
 else if op=12 then (⟨0,0,true,false,false,true,false,true,false⟩,true)
 else if op=13 then (⟨11,10,false,false,false,false,true,false,false⟩,true)
 else if op=14 then (⟨0,0,true,false,false,false,false,false,false⟩,true)
 else if op=15 then (⟨1,0,false,false,false,false,false,true,true⟩,true)
 else if op=16 then (⟨0,8,false,false,false,false,false,false,false⟩,true)
 else if op=17 then (⟨0,8,false,false,false,false,false,false,false⟩,true)
 else if op=22 then (⟨0,9,false,false,false,false,false,false,false⟩,true)
 else if op=23 then (⟨0,0,false,false,false,true,false,false,false⟩,true)
 else if op=24 then (⟨0,0,false,true,false,false,false,false,false⟩,true)
 else (⟨0,0,false,false,false,false,false,false,false⟩,false)
def useF (op:Int):Us × Bool :=
 if op=1 then (⟨1,0,false,true,false,false,false,false,false⟩,true)
 else if op=2 then (⟨1,3,false,true,false,false,false,false,false⟩,true)
 else if op=3 then (⟨0,3,false,true,true,false,false,false,false⟩,true)
 else if op=4 then (⟨1,4,false,false,false,false,false,false,false⟩,true)
 else if op=20 then (⟨1,5,false,false,false,false,false,false,false⟩,true)
 else if op=19 then (⟨1,6,false,false,false,false,false,false,false⟩,true)
 else if op=5 then (⟨0,4,false,true,false,false,false,false,false⟩,true)
 else if op=18 then (⟨0,6,false,true,false,false,false,false,false⟩,true)
 else if op=21 then (⟨0,7,false,true,false,false,false,false,false⟩,true)
 else if op=6 then (⟨2,0,false,false,false,false,false,false,false⟩,true)
 else if op=7 then (⟨2,0,false,false,false,false,false,false,false⟩,true)
 else if op=8 then (⟨2,2,false,false,false,false,false,false,false⟩,true)
 else if op=9 then (⟨2,0,false,true,false,false,false,false,false⟩,true)
 else if op=10 then (⟨1,2,false,false,false,false,false,false,false⟩,true)
 else ctlF op
def useD (r:Us × Bool):D:=.tup [.agg r.1.cells,.bool r.2]
theorem Us.bd (x:Us):∀ d ∈ x.cells,Bd 0 0 d:=by
 intro d hd
 simp only [Us.cells,List.mem_cons,List.not_mem_nil,or_false] at hd
 rcases hd with rfl | rfl | rfl | rfl | rfl | rfl | rfl | rfl | rfl <;> first | exact .int _ _ | exact .bool _
theorem bd_use (r:Us × Bool):Bd 0 0 (useD r):=.tup _ fun i hi=>by
 match i,hi with
 | 0,_=>exact kv9 (Us.bd _)
 | 1,_=>exact .bool _
theorem t_controlR (op:Int) (s:St):Spec Tryz.prog 182 [.int .i64 op] s (useD (ctlF op)) s:=by
 obtain ⟨B,L,c⟩:=s
 refine Spec.introN [] Tryz.func182 rfl (by decide) hmix (by kernel_rfl) [ResultVar.cell 2 220,ResultVar.tmp 3] 34 rfl rfl ?_
 simp only [vqM,vt84,zA,zS]
 repeat' (first
  | (with_reducible refine kb9 (fun hc=>?_) (fun hc=>?_) <;> simp only [vqM,vt84,hc,zA,zL])
  | ((with_reducible refine is_q ?_);refine ke9 (.inr rfl) ?_ (bd_use _) (fun _ h=>h) (Nat.le_refl _) <;> (try simp only [vqM,vt84,zA]) <;> (first | (simp only [useD,ctlF,Us.cells, *];done) | (simp_all [useD,ctlF,Us.cells];done) | (simp_all [useD,ctlF,Us.cells];omega))))
theorem t_useR (op:Int) (s:St):Spec Tryz.prog 156 [.int .i64 op] s (useD (useF op)) s:=by
 obtain ⟨B,L,c⟩:=s
 refine Spec.introN [] Tryz.func156 rfl (by decide) hmix (by kernel_rfl) [ResultVar.cell 2 220,ResultVar.tmp 3] 49 rfl rfl ?_
 simp only [vqM,vt84,zA,zS,useD]
 repeat' (first
  | ((with_reducible refine kh9 ?_);refine ka9 (t_controlR _ _) ?_;simp only [vqM,vt84,zA,vsUs,useD])
  | (with_reducible refine kb9 (fun hc=>?_) (fun hc=>?_) <;> simp only [vqM,vt84,hc,zA,zL])
  | ((with_reducible refine is_q ?_);refine ke9 (.inr rfl) ?_ (bd_use _) (fun _ h=>h) (Nat.le_refl _) <;> (try simp only [vqM,vt84,zA,vsUs]) <;> (first | (simp only [useF,Us.cells, *];done) | (simp_all [useF,Us.cells];done) | (simp_all [useD,useF,Us.cells];omega))))
def numR (k:Ck) (w n:Int):Bool :=
 if w=1 then inB n k.d.params.length (w64 (k.d.vars - 1))
 else if w=2 then inB n 0 (w64 (k.d.refs - 1))
 else if w=3 then inB n 0 (w64 (k.d.arrays.length - 1))
 else if w=4 then inB n 0 (w64 (k.x.globals.length - 1))
 else if w=5 then inB n 0 (w64 (k.x.classes.length - 1))
 else if w=6 then inB n 0 (w64 (k.x.queues.length - 1))
 else if w=7 then inB n 0 (w64 (k.x.sinks.length - 1))
 else if w=8 then inB n 0 (w64 (k.x.locks - 1))
 else if w=9 then inB n 0 (w64 (k.x.parts - 1))
 else if w=10 then inB n 1 1073741824
 else if w=11 then decide (n = -1) || inB n k.d.params.length (w64 (k.d.vars - 1))
 else decide (n=0)
theorem t_numberR (k:Ck) (w n:Int) (s:St):Spec Tryz.prog 157 [.agg k.d.cells,.agg k.x.cells,.int .i64 w,.int .i64 n] s (.bool (numR k w n)) s:=by
 obtain ⟨B,L,c⟩:=s
 refine Spec.introN [] Tryz.func157 rfl (by decide) hmix (by kernel_rfl) [ResultVar.tmp 8] 101 rfl rfl ?_
 simp only [vqM,zA,zS]
 repeat' (first
  | ((with_reducible refine kh9 ?_);refine ka9 (t_inR _ _ _ _) ?_;simp only [vqM])
  | (with_reducible refine kb9 (fun hc=>?_) (fun hc=>?_) <;> simp only [vqM,vt85,hc,zA,kk9,kq9,qh9,kd9,wv9])
  | ((with_reducible refine is_q ?_);refine ke9 (.inr rfl) ?_ (.bool _) (fun _ h=>h) (Nat.le_refl _) <;> (try simp only [vqM]) <;> (first | (simp only [numR, *,Bool.true_or,Bool.false_or];done) | (simp_all [numR];done) | (simp_all [numR];omega))))
def callR6 (k:Ck) (s:Sm):Bool:=s.args.all (valueB k) && (s.ptrs.all (fun n=>inB n 0 (w64 (k.d.refs - 1))) && (decide ((s.args.length:Int)≤12) && decide ((s.ptrs.length:Int)≤4)))
theorem t_callR6 (q:Ck) (x:Sm) (s:St):Spec Tryz.prog 162 [.agg q.d.cells,.agg x.cells] s (.bool (callR6 q x)) s:=by
 refine Spec.small fun hsm=>?_
 have hlen:(Ex.encs x.args).length≤281474976710656:=(hsm _ (.tail _ (.head _))).sl (o:=.none) (by cases x;simp [Sm.cells,Sm.args])
 have hlen2:(intCells x.ptrs).length≤281474976710656:=(hsm _ (.tail _ (.head _))).sl (o:=.none) (by cases x;simp [Sm.cells,Sm.ptrs])
 rw [kn9] at hlen
 rw [kd9] at hlen2
 clear hsm
 obtain ⟨B,L,c⟩:=s
 refine Spec.introN [] Tryz.func162 rfl (by decide) hmix (by kernel_rfl) [ResultVar.tmp 4] 49 rfl rfl ?_
 simp only [vqM,zA,zS]
 refine kc9 [2,3,5] ?_
 simp only [vke,zB,zA]
 refine km9 hmix x.args.length (fun k e s=>(∀ z ∈ x.args.take k,valueB q z=true)∧e=[J,J,.box B.length 0,.box (B.length+1) 0,J,.int .i64 (k:Int),J,J,J,J,J,J,J,J,J,J,J,J,J,J,J,J,J,J,J,J,J,J,J,J,J,J,J,J,J,J,J,J,J,J,J,J,J,J,J,J,J,J,J]∧s=⟨B++[.cells q.d.cells,.cells x.cells],L,c⟩) ?_ ?_ 0 _ _ (Nat.zero_le _) ⟨fun z h=>by simp at h,rfl,rfl⟩
 ·rintro k e s hk ⟨hI,rfl,rfl⟩ ihl
  have hx:x.args[k]? = some x.args[k]:=List.getElem?_eq_getElem hk
  have hg:(Ex.encs x.args)[k]? = some (x.args[k].cells):=by simp [Ex.encs_map,hx]
  have hklt:((k:Int)<(x.args.length:Int))=True:=by simp;exact hk
  have hxm:x.args[k] ∈ x.args:=List.getElem_mem hk
  generalize x.args[k]=xx at hx hg hxm
  simp only [vqM,vt86,zA,kn9,hklt,decide_true,natle0,Int.toNat_natCast,hg]
  refine ka9 (t_valueR q _ _) ?_
  simp only [vqM]
  refine kb9 (fun hc=>?_) (fun hc=>?_)
  ·have hb:valueB q xx=false:=by simpa using hc
   simp only [vqM]
   refine ke9 (.inr rfl) ?_ (.bool _) (fun _ h=>h) (Nat.le_refl _)
   simp only [vqM]
   have:x.args.all (valueB q)=false:=List.all_eq_false.2 ⟨xx,hxm,by simp [hb]⟩
   rw [callR6,this,Bool.false_and]
  ·have hb:valueB q xx=true:=by simpa using hc
   simp only [vqM]
   rw [kf9 (by omega)]
   refine kc9 [2,3,5] ?_
   simp only [vke,zB,zA]
   refine ihl _ _ ⟨fun z hz=>?_,rfl,rfl⟩
   rw [List.take_add_one,hx] at hz
   rcases List.mem_append.1 hz with hz | hz
   ·exact hI z hz
   ·simp at hz;subst hz;exact hb
 ·rintro e s ⟨hI,rfl,rfl⟩
  have hklt:((x.args.length:Int)<(x.args.length:Int))=False:=by simp
  rw [List.take_length] at hI
  simp only [vqM,vt86,zA,kn9,hklt,decide_false]
  have hq:x.args.all (valueB q)=true:=List.all_eq_true.2 hI
  clear hI hklt
  refine kc9 [2,3,6] ?_
  simp only [vke,zB,zA]
  refine km9 hmix x.ptrs.length (fun k e s=>(∀ z ∈ x.ptrs.take k,inB z 0 (w64 (q.d.refs - 1))=true)∧e=[J,J,.box B.length 0,.box (B.length+1) 0,J,J,.int .i64 (k:Int),J,J,J,J,J,J,J,J,J,J,J,J,J,J,J,J,J,J,J,J,J,J,J,J,J,J,J,J,J,J,J,J,J,J,J,J,J,J,J,J,J,J]∧s=⟨B++[.cells q.d.cells,.cells x.cells],L,c⟩) ?_ ?_ 0 _ _ (Nat.zero_le _) ⟨fun z h=>by simp at h,rfl,rfl⟩
  ·rintro k e s hk ⟨hI,rfl,rfl⟩ ihl
   have hx:x.ptrs[k]? = some x.ptrs[k]:=List.getElem?_eq_getElem hk
   have hg:(intCells x.ptrs)[k]? = some ([.int .i64 x.ptrs[k]]):=by simp [intCells,hx]
   have hklt:((k:Int)<(x.ptrs.length:Int))=True:=by simp;exact hk
   have hxm:x.ptrs[k] ∈ x.ptrs:=List.getElem_mem hk
   generalize x.ptrs[k]=xx at hx hg hxm
   simp only [vqM,vt86,zA,kd9,hklt,decide_true,natle0,Int.toNat_natCast,hg,wv9]
   refine ka9 (t_inR _ _ _ _) ?_
   simp only [vqM]
   refine kb9 (fun hc=>?_) (fun hc=>?_)
   ·have hb:inB xx 0 (w64 (q.d.refs - 1))=false:=by simpa using hc
    simp only [vqM]
    refine ke9 (.inr rfl) ?_ (.bool _) (fun _ h=>h) (Nat.le_refl _)
    simp only [vqM]
    have:(x.ptrs.all fun n=>inB n 0 (w64 (q.d.refs - 1)))=false:=List.all_eq_false.2 ⟨xx,hxm,by simp [hb]⟩
    rw [callR6,this,Bool.false_and,Bool.and_false]
   ·have hb:inB xx 0 (w64 (q.d.refs - 1))=true:=by simpa using hc
    simp only [vqM]
    rw [kf9 (by omega)]
    refine kc9 [2,3,6] ?_
    simp only [vke,zB,zA]
    refine ihl _ _ ⟨fun z hz=>?_,rfl,rfl⟩
    rw [List.take_add_one,hx] at hz
    rcases List.mem_append.1 hz with hz | hz
    ·exact hI z hz
    ·simp at hz;subst hz;exact hb
  ·rintro e s ⟨hI,rfl,rfl⟩
   have hklt:((x.ptrs.length:Int)<(x.ptrs.length:Int))=False:=by simp
   rw [List.take_length] at hI
   simp only [vqM,vt86,zA,kd9,hklt,decide_false,kn9]
   have hq2:(x.ptrs.all fun n=>inB n 0 (w64 (q.d.refs - 1)))=true:=List.all_eq_true.2 hI
   clear hI hklt
   repeat' (first
    | (with_reducible refine kb9 (fun hc=>?_) (fun hc=>?_) <;> simp only [vqM,vt86,hc,zA,kd9])
    | ((with_reducible refine is_q ?_);refine ke9 (.inr rfl) ?_ (.bool _) (fun _ h=>h) (Nat.le_refl _) <;> (try simp only [vqM]) <;> (first | (simp only [callR6, *,Bool.true_and,Bool.false_and,Bool.and_false];done) | (simp_all [callR6,hq,hq2];done) | (simp_all [callR6,hq,hq2];omega))))
def noEx (e:Ex):Bool:=decide (e.op=0) && (decide (e.n=0) && (decide (e.v=0) && decide ((e.a.length:Int)=0)))
def noCo (e:Co):Bool:=decide (e.op=0) && (decide ((e.a.length:Int)=0) && decide ((e.c.length:Int)=0))
def preS1 (k:Ck) (u:Us × Bool) (s:Sm):Bool:=!u.2 || (!inB s.site 1 1073741824 || (!numR k u.1.n s.n || !numR k u.1.m s.m))
def vR1 (s:Sm):Bool:=if s.op=12 then inB s.v 1 16 else decide (s.v=0)
def vR (s:Sm):Bool:=if s.op=14 then inB s.v 1 31 else vR1 s
def preS2 (k:Ck) (u:Us) (s:Sm):Bool:=!vR s || ((u.x && !valueB k s.x) || ((!u.x && !noEx s.x) || ((u.y && !valueB k s.y) || ((!u.y && !noEx s.y) || ((u.c && !testB k s.c) || (!u.c && !noCo s.c))))))
def preS3 (k:Ck) (u:Us) (s:Sm):Bool:=(u.call && !callR6 k s) || (!u.call && decide (0<w64 ((s.args.length:Int)+s.ptrs.length)))
def resS (u:Us) (s:Sm):Bool:=(u.body || decide ((s.body.length:Int)=0)) && (u.els || decide ((s.els.length:Int)=0))
def stmtR (k:Ck) (s:Sm):Bool:=!preS1 k (useF s.op) s && (!preS2 k (useF s.op).1 s && (!preS3 k (useF s.op).1 s && resS (useF s.op).1 s))
theorem t_StmtR (q:Ck) (x:Sm) (s:St):Spec Tryz.prog 127 [.agg q.d.cells,.agg q.x.cells,.agg x.cells] s (.bool (stmtR q x)) s:=by
 obtain ⟨B,L,c⟩:=s
 have hst:stmtR q x=(!preS1 q (useF x.op) x && (!preS2 q (useF x.op).1 x && (!preS3 q (useF x.op).1 x && resS (useF x.op).1 x))):=rfl
 refine Spec.introN [(2,.cut),(4,.cut),(9,.cut),(11,.cut)] Tryz.func127 rfl (by decide) hmix (by kernel_rfl) [ResultVar.tmp 6] 168 rfl rfl ?_
 simp only [vqM,vt87,zA,zS,zB]
 refine ka9 (t_useR _ _) ?_
 generalize useF x.op=u at hst ⊢
 obtain ⟨u,is⟩:=u
 simp only [vqM,vt87,zA,zB,useD,vsUs]
 refine qe9 hmix [3,4,5,7,43] [J,J,J,.box B.length 0,.box (B.length+1) 0,.box (B.length+2) 0,J,.box (B.length+3) 0,J,J,J,J,J,J,J,J,J,J,J,J,J,J,J,J,J,J,J,J,J,J,J,J,J,J,J,J,J,J,J,J,J,J,J,.bool (preS1 q (u,is) x),J,J,J,J,J,J,J,J,J,J,J,J,J,J,J,J,J,J,J,J,J,J,J,J,J,J,J,J,J,J,J,J,J,J,J,J,J,J,J,J,J,J,J,J,J,J,J,J,J,J,J,J,J,J,J,J,J,J,J,J,J,J,J,J,J,J,J,J,J,J,J,J,J,J,J,J,J,J,J,J,J,J,J,J,J,J,J,J,J,J,J,J,J,J,J,J,J,J,J,J,J,J,J,J,J,J,J,J,J,J,J,J,J,J,J,J,J,J,J,J,J,J,J,J] (fun s=>s=⟨B++[.cells q.d.cells,.cells q.x.cells,.cells x.cells,.cells u.cells],L,c⟩) ?_ ?_
 ·simp only [vqM]
  repeat' (first
   | ((with_reducible refine kh9 ?_);refine ka9 (t_inR _ _ _ _) ?_;simp only [vqM])
   | ((with_reducible refine kh9 ?_);refine ka9 (t_numberR _ _ _ _) ?_;simp only [vqM])
   | (with_reducible refine kb9 (fun hc=>?_) (fun hc=>?_) <;> simp only [vqM,vt87,hc,zA,vsUs])
   | ((with_reducible refine is_q ?_);refine kj9 ⟨?_,rfl⟩ <;> simp only [vke,zB,zA] <;> (first | (simp only [preS1, *,Bool.true_or,Bool.false_or,Bool.or_true];done) | (simp_all [preS1];done) | (simp_all [preS1];omega))))
 rintro s rfl
 simp only [vqM]
 refine kb9 (fun hc=>?_) (fun hc=>?_)
 ·simp only [vqM,zB]
  refine ke9 (.inr rfl) ?_ (.bool _) (fun _ h=>h) (Nat.le_refl _)
  simp only [vqM]
  rw [hst,hc];rfl
 rw [hc,Bool.not_false,Bool.true_and] at hst
 simp only [vqM,zB]
 refine seq_go ?_
 simp only [vqM,vt87,zA]
 refine awN_joinI (fun e s=>keep [3,4,5,7,9] e=[J,J,J,.box B.length 0,.box (B.length+1) 0,.box (B.length+2) 0,J,.box (B.length+3) 0,J,.bool (vR1 x),J,J,J,J,J,J,J,J,J,J,J,J,J,J,J,J,J,J,J,J,J,J,J,J,J,J,J,J,J,J,J,J,J,J,J,J,J,J,J,J,J,J,J,J,J,J,J,J,J,J,J,J,J,J,J,J,J,J,J,J,J,J,J,J,J,J,J,J,J,J,J,J,J,J,J,J,J,J,J,J,J,J,J,J,J,J,J,J,J,J,J,J,J,J,J,J,J,J,J,J,J,J,J,J,J,J,J,J,J,J,J,J,J,J,J,J,J,J,J,J,J,J,J,J,J,J,J,J,J,J,J,J,J,J,J,J,J,J,J,J,J,J,J,J,J,J,J,J,J,J,J,J,J,J,J,J,J,J]∧s=⟨B++[.cells q.d.cells,.cells q.x.cells,.cells x.cells,.cells u.cells],L,c⟩) ?_ ?_
 ·refine xk9 hmix ?_
  simp only [vqM,vt87,zA,zB]
  refine kb9 (fun h=>?_) (fun h=>?_)
  ·simp only [vqM,vt87,zA]
   refine ka9 (t_inR _ _ _ _) ?_
   rw [show inB x.v 1 16=vR1 x by rw [vR1,if_pos (of_decide_eq_true h)]]
   simp only [vqM]
   exact qi9 ⟨by simp only [vke,zB,zA],rfl⟩
  ·rw [show decide (x.v=0)=vR1 x by rw [vR1,if_neg (of_decide_eq_false h)]]
   simp only [vqM]
   exact qi9 ⟨by simp only [vke,zB,zA],rfl⟩
 rintro e s ⟨he,rfl⟩
 refine kc9 [3,4,5,7,9] ?_
 rw [he]
 clear he
 refine awN_joinI (fun e s=>keep [3,4,5,7,9] e=[J,J,J,.box B.length 0,.box (B.length+1) 0,.box (B.length+2) 0,J,.box (B.length+3) 0,J,.bool (vR x),J,J,J,J,J,J,J,J,J,J,J,J,J,J,J,J,J,J,J,J,J,J,J,J,J,J,J,J,J,J,J,J,J,J,J,J,J,J,J,J,J,J,J,J,J,J,J,J,J,J,J,J,J,J,J,J,J,J,J,J,J,J,J,J,J,J,J,J,J,J,J,J,J,J,J,J,J,J,J,J,J,J,J,J,J,J,J,J,J,J,J,J,J,J,J,J,J,J,J,J,J,J,J,J,J,J,J,J,J,J,J,J,J,J,J,J,J,J,J,J,J,J,J,J,J,J,J,J,J,J,J,J,J,J,J,J,J,J,J,J,J,J,J,J,J,J,J,J,J,J,J,J,J,J,J,J,J,J]∧s=⟨B++[.cells q.d.cells,.cells q.x.cells,.cells x.cells,.cells u.cells],L,c⟩) ?_ ?_
 ·refine xk9 hmix ?_
  simp only [vqM,vt87,zA,zB]
  refine kb9 (fun h=>?_) (fun h=>?_)
  ·simp only [vqM,vt87,zA]
   refine ka9 (t_inR _ _ _ _) ?_
   rw [show inB x.v 1 31=vR x by rw [vR,if_pos (of_decide_eq_true h)]]
   simp only [vqM]
   exact qi9 ⟨by simp only [vke,zB,zA],rfl⟩
  ·rw [show vR1 x=vR x by rw [vR,if_neg (of_decide_eq_false h)]]
   simp only [vqM]
   exact qi9 ⟨by simp only [vke,zB,zA],rfl⟩
 rintro e s ⟨he,rfl⟩
 refine kc9 [3,4,5,7,9] ?_
 rw [he]
 clear he
 refine xk9 hmix ?_
 simp only [vqM,zB]
 refine qe9 hmix [3,4,5,7,126] [J,J,J,.box B.length 0,.box (B.length+1) 0,.box (B.length+2) 0,J,.box (B.length+3) 0,J,J,J,J,J,J,J,J,J,J,J,J,J,J,J,J,J,J,J,J,J,J,J,J,J,J,J,J,J,J,J,J,J,J,J,J,J,J,J,J,J,J,J,J,J,J,J,J,J,J,J,J,J,J,J,J,J,J,J,J,J,J,J,J,J,J,J,J,J,J,J,J,J,J,J,J,J,J,J,J,J,J,J,J,J,J,J,J,J,J,J,J,J,J,J,J,J,J,J,J,J,J,J,J,J,J,J,J,J,J,J,J,J,J,J,J,J,J,.bool (preS2 q u x),J,J,J,J,J,J,J,J,J,J,J,J,J,J,J,J,J,J,J,J,J,J,J,J,J,J,J,J,J,J,J,J,J,J,J,J,J,J,J,J,J] (fun s=>s=⟨B++[.cells q.d.cells,.cells q.x.cells,.cells x.cells,.cells u.cells],L,c⟩) ?_ ?_
 ·generalize hv:vR x=v
  simp only [vqM]
  repeat' (first
   | ((with_reducible refine kh9 ?_);refine ka9 (t_valueR _ _ _) ?_;simp only [vqM])
   | ((with_reducible refine kh9 ?_);refine ka9 (t_noExprR _ _) ?_;simp only [vqM])
   | ((with_reducible refine kh9 ?_);refine ka9 (t_testR _ _ _) ?_;simp only [vqM])
   | ((with_reducible refine kh9 ?_);refine ka9 (t_noCondR _ _) ?_;simp only [vqM])
   | (with_reducible refine kb9 (fun hc=>?_) (fun hc=>?_) <;> simp only [vqM,vt87,hc,zA,zS,zL,vsUs])
   | ((with_reducible refine is_q ?_);refine kj9 ⟨?_,rfl⟩ <;> simp only [vke,zB,zA] <;> (first | (simp only [preS2,noEx,noCo, *,Bool.true_and,Bool.false_and,Bool.and_true,Bool.and_false,Bool.true_or,Bool.false_or,Bool.or_true,Bool.or_false,Bool.not_true,Bool.not_false];done) | (simp_all [preS2,noEx,noCo];done) | (simp_all [preS2,noEx,noCo,hv];omega))))
 rintro s rfl
 simp only [vqM]
 refine kb9 (fun hc=>?_) (fun hc=>?_)
 ·simp only [vqM,zB]
  refine ke9 (.inr rfl) ?_ (.bool _) (fun _ h=>h) (Nat.le_refl _)
  simp only [vqM]
  rw [hst,hc];rfl
 rw [hc,Bool.not_false,Bool.true_and] at hst
 simp only [vqM,zB]
 refine qe9 hmix [3,4,5,7,149] [J,J,J,.box B.length 0,.box (B.length+1) 0,.box (B.length+2) 0,J,.box (B.length+3) 0,J,J,J,J,J,J,J,J,J,J,J,J,J,J,J,J,J,J,J,J,J,J,J,J,J,J,J,J,J,J,J,J,J,J,J,J,J,J,J,J,J,J,J,J,J,J,J,J,J,J,J,J,J,J,J,J,J,J,J,J,J,J,J,J,J,J,J,J,J,J,J,J,J,J,J,J,J,J,J,J,J,J,J,J,J,J,J,J,J,J,J,J,J,J,J,J,J,J,J,J,J,J,J,J,J,J,J,J,J,J,J,J,J,J,J,J,J,J,J,J,J,J,J,J,J,J,J,J,J,J,J,J,J,J,J,J,J,J,J,J,J,.bool (preS3 q u x),J,J,J,J,J,J,J,J,J,J,J,J,J,J,J,J,J,J] (fun s=>s=⟨B++[.cells q.d.cells,.cells q.x.cells,.cells x.cells,.cells u.cells],L,c⟩) ?_ ?_
 ·simp only [vqM,vt87,zA,vsUs]
  repeat' (first
   | ((with_reducible refine kh9 ?_);refine ka9 (t_callR6 _ _ _) ?_;simp only [vqM])
   | (with_reducible refine kb9 (fun hc=>?_) (fun hc=>?_) <;> simp only [vqM,vt87,hc,zA,vsUs,kn9,kd9,wv9])
   | ((with_reducible refine is_q ?_);refine kj9 ⟨?_,rfl⟩ <;> simp only [vke,zB,zA] <;> (first | (simp only [preS3, *,Bool.true_and,Bool.false_and,Bool.and_true,Bool.and_false,Bool.false_or,Bool.or_false,Bool.not_true,Bool.not_false];done) | (simp_all [preS3];done) | (simp_all [preS3];omega))))
 rintro s rfl
 simp only [vqM]
 refine kb9 (fun hc=>?_) (fun hc=>?_)
 ·simp only [vqM,zB]
  refine ke9 (.inr rfl) ?_ (.bool _) (fun _ h=>h) (Nat.le_refl _)
  simp only [vqM]
  rw [hst,hc];rfl
 rw [hc,Bool.not_false,Bool.true_and] at hst
 simp only [vqM,vt87,zA,zB,vsUs]
 repeat' (first
  | (with_reducible refine kb9 (fun hc=>?_) (fun hc=>?_) <;> simp only [vqM,vt87,hc,zA,vsUs,kp9])
  | ((with_reducible refine is_q ?_);refine ke9 (.inr rfl) ?_ (.bool _) (fun _ h=>h) (Nat.le_refl _) <;> (try simp only [vqM]) <;> (first | (simp only [resS, *,Bool.true_and,Bool.false_and,Bool.and_true,Bool.true_or,Bool.false_or,Bool.or_true,Bool.or_false];done) | (simp_all [hst,resS];done) | (simp_all [hst,resS];omega))))
structure SmallS (s:Sm):Prop where
 ar:s.args.length≤281474976710656
 pt:s.ptrs.length≤281474976710656
 ca:s.c.a.length≤281474976710656
 cc:s.c.c.length≤281474976710656
theorem w64_sum {a b:Nat} (ha:a≤281474976710656) (hb:b≤281474976710656):w64 ((a:Int)+b)=a+b:=qs9 (by omega)
theorem noCo_eq {s:Sm} (h:SmallS s):noCo s.c=(decide (s.c.op=0) && decide (w64 (s.c.a.length+s.c.c.length)=0)):=by
 rw [w64_sum h.ca h.cc,noCo,Bool.eq_iff_iff]
 simp only [Bool.and_eq_true,decide_eq_true_eq]
 omega
theorem noCall_eq {s:Sm} (h:SmallS s):decide (0<w64 ((s.args.length:Int)+s.ptrs.length)) = !decide (w64 ((s.args.length:Int)+s.ptrs.length)=0):=by
 rw [w64_sum h.ar h.pt,Bool.eq_iff_iff]
 simp only [Bool.not_eq_true',decide_eq_true_eq,decide_eq_false_iff_not]
 omega
theorem num3_eq (k:Ck):numberB k 3=fun n=>inB n 0 (w64 (k.d.refs - 1)):=by
 funext n;rfl
theorem stmt_key (k:Ck) (s:Sm) (f:Fl) (u:Us) (h:SmallS s) (e1:numR k u.n s.n=numberB k f.n s.n) (e2:numR k u.m s.m=numberB k f.m s.m) (e3:vR s=numberB k f.v s.v)
  (ex:u.x=f.x) (ey:u.y=f.y) (ec:u.c=f.c) (el:u.call=f.call) (eb:u.body=f.body) (ee:u.els=f.rest) (hn:nofl f=false) :
  (!preS1 k (u,true) s && (!preS2 k u s && (!preS3 k u s && resS u s))) =
  (!(nofl f || !inB s.site 1 1073741824 || !numberB k f.n s.n || !numberB k f.m s.m || !numberB k f.v s.v) &&
   (yc9 k f.x s.x && yc9 k f.y s.y && condFB k f s.c && callFB k f s && (f.body || decide ((s.body.length:Int)=0)) && (f.rest || decide ((s.els.length:Int)=0)))):=by
 have hc:=noCo_eq h
 have hl:=noCall_eq h
 simp only [preS1,preS2,preS3,resS,yc9,condFB,callFB,e1,e2,e3,ex,ey,ec,el,eb,ee,hn,hc,hl,callR6,qy9,num3_eq,noEx]
 generalize inB s.site 1 1073741824=b1
 generalize numberB k f.n s.n=b2
 generalize numberB k f.m s.m=b3
 generalize numberB k f.v s.v=b4
 generalize f.x=b5
 generalize f.y=b6
 generalize f.c=b7
 generalize f.call=b8
 generalize f.body=b9
 generalize f.rest=b10
 generalize s.args.all (valueB k)=c1
 generalize (s.ptrs.all fun n=>inB n 0 (w64 (k.d.refs - 1)))=c2
 generalize decide ((s.args.length:Int)≤12)=c3
 generalize decide ((s.ptrs.length:Int)≤4)=c4
 generalize decide (w64 ((s.args.length:Int)+s.ptrs.length)=0)=c5
 generalize decide (s.c.op=0)=c6
 generalize decide (w64 (s.c.a.length+s.c.c.length)=0)=c0
 generalize testB k s.c=c7
 generalize valueB k s.x=c8
 generalize valueB k s.y=c9
 cases b1 <;> simp only [Bool.not_true,Bool.not_false,Bool.true_or,Bool.or_true,Bool.false_and,Bool.false_or,Bool.or_false]
 cases b2 <;> simp only [Bool.not_true,Bool.not_false,Bool.true_or,Bool.false_and,Bool.false_or]
 cases b3 <;> simp only [Bool.not_true,Bool.not_false,Bool.true_or,Bool.false_and,Bool.true_and,Bool.false_or]
 cases b4 <;> simp only [Bool.not_true,Bool.not_false,Bool.true_or,Bool.false_and,Bool.true_and,Bool.false_or]
 cases b5 <;> cases b6 <;> cases b7 <;> cases b8 <;> simp only [Bool.not_true,Bool.not_false,Bool.false_and,Bool.true_and,Bool.false_or,Bool.or_false,Bool.not_or,Bool.not_not,Bool.and_assoc] <;> ac_rfl
theorem stmtR_eq (k:Ck) (s:Sm) (h:SmallS s):stmtR k s=stmtB k s:=by
 have hop:∀ {o:Int} {f:Fl} {u:Us},s.op=o→tableF o=f→useF o=(u,true)→numR k u.n s.n=numberB k f.n s.n→numR k u.m s.m=numberB k f.m s.m→vR s=numberB k f.v s.v→u.x=f.x→u.y=f.y→u.c=f.c→u.call=f.call→u.body=f.body→u.els=f.rest→nofl f=false→stmtR k s=stmtB k s:=by
  intro o f u h1 h2 h3 e1 e2 e3 ex ey ec el eb ee hn
  simp only [stmtR,stmtB,h1,h2,h3]
  exact stmt_key k s f u h e1 e2 e3 ex ey ec el eb ee hn
 have hv:∀ {o:Int},s.op=o→vR s=if o=14 then inB s.v 1 31 else if o=12 then inB s.v 1 16 else decide (s.v=0):=by
  intro o h1;rw [vR,vR1,h1]
 have one:∀ o:Int,1≤o→o≤24→s.op=o→stmtR k s=stmtB k s:=by
  intro o h1 h2 h3
  have:o=1∨o=2∨o=3∨o=4∨o=5∨o=6∨o=7∨o=8∨o=9∨o=10∨o=11∨o=12∨o=13∨o=14∨o=15∨o=16∨o=17∨o=18∨o=19∨o=20∨o=21∨o=22∨o=23∨o=24:=by omega
  rcases this with rfl | rfl | rfl | rfl | rfl | rfl | rfl | rfl | rfl | rfl | rfl | rfl | rfl | rfl | rfl | rfl | rfl | rfl | rfl | rfl | rfl | rfl | rfl | rfl
  all_goals exact hop h3 rfl rfl rfl rfl (hv h3) rfl rfl rfl rfl rfl rfl rfl
 by_cases hr:1≤s.op∧s.op≤24
 ·exact one _ hr.1 hr.2 rfl
 ·have hb:∀ o:Int,1≤o→o≤24→(s.op=o)=False:=fun o h1 h2=>eq_false (by omega)
  have h1:(useF s.op).2=false:=by simp only [useF,ctlF,hb,Int.reduceLE,if_false]
  have h2:nofl (tableF s.op)=true:=by
   simp only [tableF,othersF,hb,Int.reduceLE,if_false]
   rfl
  simp only [stmtR,stmtB,preS1,h1,h2,Bool.not_false,Bool.true_or,Bool.not_true,Bool.false_and]
theorem t_StmtB (q:Ck) (x:Sm) (s:St):Spec Tryz.prog 127 [.agg q.d.cells,.agg q.x.cells,.agg x.cells] s (.bool (stmtB q x)) s:=by
 refine Spec.small fun hsm=>?_
 have h1:(Ex.encs x.args).length≤281474976710656:=(hsm _ (.tail _ (.tail _ (.head _)))).sl (o:=.none) (by cases x;simp [Sm.cells,Sm.args])
 have h2:(intCells x.ptrs).length≤281474976710656:=(hsm _ (.tail _ (.tail _ (.head _)))).sl (o:=.none) (by cases x;simp [Sm.cells,Sm.ptrs])
 have h3:(Ex.encs x.c.a).length≤281474976710656:=(hsm _ (.tail _ (.tail _ (.head _)))).sl (o:=.none) (by
  obtain ⟨site,op,n,m,v,x,y,⟨o,a,c⟩,args,ptrs,body,els⟩:=x;simp [Sm.cells,Sm.c,Co.cells,Co.a])
 have h4:(Co.encs x.c.c).length≤281474976710656:=(hsm _ (.tail _ (.tail _ (.head _)))).sl (o:=.none) (by
  obtain ⟨site,op,n,m,v,x,y,⟨o,a,c⟩,args,ptrs,body,els⟩:=x;simp [Sm.cells,Sm.c,Co.cells,Co.c])
 rw [kn9] at h1 h3
 rw [kd9] at h2
 rw [we9] at h4
 rw [← stmtR_eq q x ⟨h1,h2,h3,h4⟩]
 exact t_StmtR q x s
theorem targ_ok {f:Fd} {k:Ck} (hA:FxA f) (hk:Fit f k) (m:Mk):inB (targ f m) k.d.params.length (w64 (k.d.vars - 1))=true:=by
 have h1:=hA.vars
 have q1:=@kt9 _ m.pos (f.d.vars - f.d.params.length) hA.ok
 have q2:=@wb9 f.bytes m.pos (f.d.vars - f.d.params.length) (by omega)
 have hw:w64 (k.d.vars - 1)=f.d.vars - 1:=by rw [hk.vars];exact qs9 (by have:=hk.v12;omega)
 rw [hw,hk.par]
 exact wh9 (by unfold targ;omega)
theorem w640:w64 0=0:=qs9 (by omega)
theorem n0_ok (k:Ck):numberB k 0 0=true:=by simp [numberB]
theorem x_no (k:Ck):yc9 k false ex0=true:=by simp [yc9,ex0,Ex.op,Ex.n,Ex.v,Ex.a]
theorem x_yes {k:Ck} {x:Ex} (h:valueB k x=true):yc9 k true x=true:=by simp [yc9,h]
theorem c_no (k:Ck) {f:Fl} (h:f.c=false):condFB k f co0=true:=by simp [condFB,h,co0,Co.op,Co.a,Co.c,w640]
theorem c_yes {k:Ck} {f:Fl} {c:Co} (h:f.c=true) (hc:testB k c=true):condFB k f c=true:=by simp [condFB,h,hc]
theorem num1_ok {k:Ck} {n:Int} (h:inB n k.d.params.length (w64 (k.d.vars - 1))=true):numberB k 1 n=true:=by simp [numberB,h]
theorem num3_ok {f:Fd} {k:Ck} (hk:Fit f k) {n:Int} (h:0≤n∧n<2):numberB k 3 n=true:=by
 have:w64 (k.d.refs - 1)=1:=by rw [hk.refs];exact qs9 (by omega)
 simp only [numberB];simp [this];exact wh9 (by omega)
theorem num4_ok {f:Fd} {k:Ck} (hA:FxA f) (hk:Fit f k) {n:Int} (h:0≤n∧n<f.d.arrays.length):numberB k 4 n=true:=by
 have:w64 ((k.d.arrays.length:Int) - 1)=f.d.arrays.length - 1:=by rw [hk.arr];exact qs9 (by have:=hA.arr;omega)
 simp only [numberB];simp [this];exact wh9 (by omega)
theorem num_dc {f:Fd} {k:Ck} (hk:Fit f k) {w n:Int} (h:(w=5∧0≤n∧n<2)∨(w=6∧0≤n∧n<2)∨(w=7∧n=0)∨(w=8∧0≤n∧n<3)∨(w=9∧0≤n∧n<3)∨(w=10∧0≤n∧n<3)):numberB k w n=true:=by
 have h2:w64 (((2:Nat):Int) - 1)=1:=qs9 (by omega)
 have h1:w64 (((1:Nat):Int) - 1)=0:=qs9 (by omega)
 have h3:w64 (((3:Nat):Int) - 1)=2:=qs9 (by omega)
 have h3':w64 ((3:Int) - 1)=2:=qs9 (by omega)
 rcases h with ⟨rfl,h⟩ | ⟨rfl,h⟩ | ⟨rfl,h⟩ | ⟨rfl,h⟩ | ⟨rfl,h⟩ | ⟨rfl,h⟩
 ·show inB n 0 (w64 (k.x.globals.length - 1))=true
  rw [hk.dc];exact (wh9 (show 0≤n∧n≤1 by omega))
 ·show inB n 0 (w64 (k.x.classes.length - 1))=true
  rw [hk.dc];exact (wh9 (show 0≤n∧n≤1 by omega))
 ·show inB n 0 (w64 (k.x.queues.length - 1))=true
  rw [hk.dc];exact (wh9 (show 0≤n∧n≤0 by omega))
 ·show inB n 0 (w64 (k.x.sinks.length - 1))=true
  rw [hk.dc];exact (wh9 (show 0≤n∧n≤2 by omega))
 ·show inB n 0 (w64 (k.x.locks - 1))=true
  rw [hk.dc];exact (wh9 (show 0≤n∧n≤2 by omega))
 ·show inB n 0 (w64 (k.x.parts - 1))=true
  rw [hk.dc];exact (wh9 (show 0≤n∧n≤2 by omega))
theorem stmt_ok {k:Ck} {x:Sm} (g:Fl) (hf:tableF x.op=g) (hz:nofl g=false) (hs:inB x.site 1 1073741824=true) (hn:numberB k g.n x.n=true) (hm:numberB k g.m x.m=true) (hv:numberB k g.v x.v=true)
  (hx:yc9 k g.x x.x=true) (hy:yc9 k g.y x.y=true) (hc:condFB k g x.c=true) (hcl:callFB k g x=true) (hb:g.body=true∨x.body=[]) (he:g.rest=true∨x.els=[]):stmtB k x=true:=by
 have h1:(g.body || decide ((x.body.length:Int)=0))=true:=by rcases hb with h | h <;> simp [h]
 have h2:(g.rest || decide ((x.els.length:Int)=0))=true:=by rcases he with h | h <;> simp [h]
 simp only [stmtB,hf,hz,hs,hn,hm,hv,hx,hy,hc,hcl,h1,h2]
 rfl
structure Ok1 (H:List Hd) (k:Ck) (x:Sm):Prop where
 st:stmtB k x=true
 ca:x.op=13→∃ h ∈ H,x.m=h.id∧x.args.length=h.params.length∧x.ptrs.length=h.given.length
structure Leaf (H:List Hd) (k:Ck) (x:Sm):Prop extends Ok1 H k x where
 b:x.body=[]
 e:x.els=[]
structure Leaf0 (H:List Hd) (k:Ck) (x:Sm):Prop extends Leaf H k x where
 n13:x.op≠13
theorem call0 (k:Ck) {g:Fl} {x:Sm} (hg:g.call=false) (ha:x.args=[]) (hp:x.ptrs=[]):callFB k g x=true:=by
 simp [callFB,hg,ha,hp,w640]
theorem qt9 {H:List Hd} {k:Ck} {s op n m v:Int} {x y:Ex} {c:Co} (g:Fl) (hf:tableF op=g) (hz:nofl g=false) (hcl:g.call=false) (h13:op≠13) (hs:0<s∧s≤1000000) (hn:numberB k g.n n=true) (hm:numberB k g.m m=true) (hv:numberB k g.v v=true)
  (hx:yc9 k g.x x=true) (hy:yc9 k g.y y=true) (hc:condFB k g c=true):Leaf0 H k (stm s op n m v x y c) :=
 {st:=stmt_ok g hf hz (wh9 (by simp only [stm,Sm.site];omega)) hn hm hv hx hy hc (call0 k hcl rfl rfl) (.inr rfl) (.inr rfl)
  ca:=fun h=>absurd h h13
  b:=rfl
  e:=rfl
  n13:=h13 }
theorem simple_ok {f:Fd} {k:Ck} (hA:FxA f) (hk:Fit f k) (a:Mk) (hs:0≤a.site∧a.site≤900000):∀ x ∈ (simple f a).1,Leaf0 f.heads k x:=by
 have r0:=fun p n=>@kt9 _ p n hA.ok
 have r1:=fun p n (h:0<n)=>@wb9 f.bytes p n h
 have ht:=fun m=>num1_ok (targ_ok hA hk m)
 have key:∀ (c:Prop) [Decidable c] (x y:List Sm × Mk),(∀ z ∈ x.1,Leaf0 f.heads k z)→(¬ c→∀ z ∈ y.1,Leaf0 f.heads k z)→∀ z ∈ (if c then x else y).1,Leaf0 f.heads k z:=by
  intro c _ x y h1 h2;split
  ·assumption
  ·rename_i h;exact h2 h
 have k1:∀ (x:Sm) (m:Mk),Leaf0 f.heads k x→∀ z ∈ ([x],m).1,Leaf0 f.heads k z:=fun x m h z hz=>by simp at hz;subst hz;exact h
 have k3:∀ (x y w:Sm) (m:Mk),Leaf0 f.heads k x→Leaf0 f.heads k y→Leaf0 f.heads k w→∀ z ∈ ([x,y,w],m).1,Leaf0 f.heads k z:=fun x y w m h1 h2 h3 z hz=>by
  simp at hz;rcases hz with rfl | rfl | rfl <;> assumption
 have z0:=n0_ok k
 have xn:=x_no k
 unfold simple
 simp only
 refine key _ _ _ (k1 _ _ (qt9 _ rfl rfl rfl (by decide) (by omega) (ht _) (num4_ok hA hk ⟨Int.le_refl _,by have:=hA.arr;omega⟩) z0 (x_yes (numv_ok k (by have:=r0 (a.pos+1+1) 4;have:=r1 (a.pos+1+1) 4 (by omega);omega))) xn (c_no k rfl))) fun _=>?_
 refine key _ _ _ (k1 _ _ (qt9 _ rfl rfl rfl (by decide) (by omega) z0 (num4_ok hA hk ⟨Int.le_refl _,by have:=hA.arr;omega⟩) z0 (x_yes (numv_ok k (by have:=r0 (a.pos+1) 4;have:=r1 (a.pos+1) 4 (by omega);omega))) (x_yes (value_ok hA hk (by omega) _)) (c_no k rfl))) fun _=>?_
 refine key _ _ _ (k1 _ _ (qt9 _ rfl rfl rfl (by decide) (by omega) (ht _) (num_dc hk (.inl ⟨rfl,r0 _ _,r1 _ _ (by omega)⟩)) z0 xn xn (c_no k rfl))) fun _=>?_
 refine key _ _ _ (k1 _ _ (qt9 _ rfl rfl rfl (by decide) (by omega) (ht _) (num_dc hk (.inr (.inl ⟨rfl,r0 _ _,r1 _ _ (by omega)⟩))) z0 xn xn (c_no k rfl))) fun _=>?_
 refine key _ _ _ (k3 _ _ _ _ (qt9 _ rfl rfl rfl (by decide) (by omega) z0 (num_dc hk (.inr (.inr (.inr (.inr (.inl ⟨rfl,r0 _ _,r1 _ _ (by omega)⟩))))) ) z0 xn xn (c_no k rfl))
  (qt9 _ rfl rfl rfl (by decide) (by omega) z0 (num_dc hk (.inl ⟨rfl,by omega,by omega⟩)) z0 (x_yes (numv_ok k (by have:=r0 (a.pos+1+1) 9;have:=r1 (a.pos+1+1) 9 (by omega);omega))) xn (c_no k rfl))
  (qt9 _ rfl rfl rfl (by decide) (by omega) z0 (num_dc hk (.inr (.inr (.inr (.inr (.inl ⟨rfl,r0 _ _,r1 _ _ (by omega)⟩))))) ) z0 xn xn (c_no k rfl))) fun _=>?_
 refine key _ _ _ (k3 _ _ _ _ (qt9 _ rfl rfl rfl (by decide) (by omega) (num3_ok hk (by omega)) z0 z0 xn xn (c_no k rfl))
  (qt9 _ rfl rfl rfl (by decide) (by omega) (num3_ok hk (by omega)) z0 z0 (x_yes (value_ok hA hk (by omega) _)) xn (c_no k rfl))
  (qt9 _ rfl rfl rfl (by decide) (by omega) (num3_ok hk (by omega)) z0 z0 xn xn (c_no k rfl))) fun _=>?_
 exact k1 _ _ (qt9 _ rfl rfl rfl (by decide) (by omega) (ht _) z0 z0 (x_yes (value_ok hA hk (by omega) _)) xn (c_no k rfl))
theorem risky_ok {f:Fd} {k:Ck} (hA:FxA f) (hk:Fit f k) (a:Mk) (hs:0≤a.site∧a.site≤900000):Leaf0 f.heads k (risky f a).1:=by
 have r0:=fun p n=>@kt9 _ p n hA.ok
 have r1:=fun p n (h:0<n)=>@wb9 f.bytes p n h
 have ht:=fun m=>num1_ok (targ_ok hA hk m)
 have har:=hA.arr
 have key:∀ (c:Prop) [Decidable c] (x y:Sm × Mk),Leaf0 f.heads k x.1→(¬ c→Leaf0 f.heads k y.1)→Leaf0 f.heads k (if c then x else y).1:=by
  intro c _ x y h1 h2;split
  ·assumption
  ·rename_i h;exact h2 h
 have z0:=n0_ok k
 have xn:=x_no k
 have v:=fun m=>x_yes (value_ok hA hk (show 1≤4 by omega) m)
 have a4:∀ p,numberB k 4 (rnd f.bytes p f.d.arrays.length)=true:=fun p=>num4_ok hA hk ⟨r0 _ _,r1 _ _ (by omega)⟩
 have n3:∀ p,numberB k 3 (rnd f.bytes p 2)=true:=fun p=>num3_ok hk ⟨r0 _ _,r1 _ _ (by omega)⟩
 unfold risky
 simp only
 refine key _ _ _ (qt9 _ rfl rfl rfl (by decide) (by omega) (ht _) (a4 _) z0 (v _) xn (c_no k rfl)) fun _=>?_
 refine key _ _ _ (qt9 _ rfl rfl rfl (by decide) (by omega) z0 (a4 _) z0 (v _) (v _) (c_no k rfl)) fun _=>?_
 refine key _ _ _ (qt9 _ rfl rfl rfl (by decide) (by omega) z0 (num_dc hk (.inl ⟨rfl,r0 _ _,r1 _ _ (by omega)⟩)) z0 (v _) xn (c_no k rfl)) fun _=>?_
 refine key _ _ _ (qt9 _ rfl rfl rfl (by decide) (by omega) (n3 _) z0 z0 xn xn (c_no k rfl)) fun _=>?_
 refine key _ _ _ (qt9 _ rfl rfl rfl (by decide) (by omega) (n3 _) z0 z0 xn xn (c_no k rfl)) fun _=>?_
 refine key _ _ _ (qt9 _ rfl rfl rfl (by decide) (by omega) (n3 _) (n3 _) z0 xn xn (c_no k rfl)) fun _=>?_
 refine key _ _ _ (qt9 _ rfl rfl rfl (by decide) (by omega) (ht _) (n3 _) z0 xn xn (c_no k rfl)) fun _=>?_
 refine key _ _ _ ?_ fun _=>?_
 ·have e0:=r0 (a.pos+1) 2
  have e1:=r1 (a.pos+1) 2 (by omega)
  have:rnd f.bytes (a.pos+1) 2=0∨rnd f.bytes (a.pos+1) 2=1:=by omega
  have h9:numberB k 9 (rnd f.bytes (a.pos+1+1) 3)=true:=num_dc hk (.inr (.inr (.inr (.inr (.inl ⟨rfl,r0 _ _,r1 _ _ (by omega)⟩)))))
  simp only
  rcases this with e | e <;> rw [e] <;> exact qt9 _ rfl rfl rfl (by decide) (by omega) z0 h9 z0 xn xn (c_no k rfl)
 refine key _ _ _ (qt9 _ rfl rfl rfl (by decide) (by omega) z0 (num_dc hk (.inr (.inr (.inl ⟨rfl,rfl⟩)))) z0 (v _) xn (c_no k rfl)) fun _=>?_
 refine key _ _ _ (qt9 _ rfl rfl rfl (by decide) (by omega) (ht _) (num_dc hk (.inr (.inr (.inl ⟨rfl,rfl⟩)))) z0 xn xn (c_no k rfl)) fun _=>?_
 refine key _ _ _ (qt9 _ rfl rfl rfl (by decide) (by omega) z0 (num_dc hk (.inr (.inr (.inr (.inl ⟨rfl,r0 _ _,r1 _ _ (by omega)⟩))))) z0 (v _) xn (c_no k rfl)) fun _=>?_
 refine key _ _ _ (qt9 _ rfl rfl rfl (by decide) (by omega) z0 (num_dc hk (.inr (.inr (.inr (.inr (.inr ⟨rfl,r0 _ _,r1 _ _ (by omega)⟩)))))) z0 xn xn (c_no k rfl)) fun _=>?_
 refine key _ _ _ (qt9 _ rfl rfl rfl (by decide) (by omega) z0 z0 z0 xn xn (c_yes rfl (test_ok hA hk _))) fun _=>?_
 exact qt9 _ rfl rfl rfl (by decide) (by omega) (n3 _) z0 z0 (v _) xn (c_no k rfl)
theorem argsK_ok {f:Fd} {k:Ck} (hA:FxA f) (hk:Fit f k) (m:Mk):∀ n,(argsK f m n).1.length=n∧∀ x ∈ (argsK f m n).1,valueB k x=true:=by
 intro n
 induction n with
 | zero=>exact ⟨rfl,fun x h=>by simp [argsK] at h⟩
 | succ n ih =>
  refine ⟨by simp [argsK,ih.1],fun x h=>?_⟩
  simp only [argsK,List.mem_append,List.mem_singleton] at h
  rcases h with h | rfl
  ·exact ih.2 x h
  ·exact value_ok hA hk (by omega) _
theorem ptrsK_ok {f:Fd} {k:Ck} (hA:FxA f) (hk:Fit f k) (m:Mk):∀ n,(ptrsK f m n).1.length=n∧∀ x ∈ (ptrsK f m n).1,numberB k 3 x=true:=by
 intro n
 induction n with
 | zero=>exact ⟨rfl,fun x h=>by simp [ptrsK] at h⟩
 | succ n ih =>
  refine ⟨by simp [ptrsK,ih.1],fun x h=>?_⟩
  simp only [ptrsK,List.mem_append,List.mem_singleton] at h
  rcases h with h | rfl
  ·exact ih.2 x h
  ·exact num3_ok hk ⟨kt9 hA.ok,wb9 (by omega)⟩
theorem callS_ok {f:Fd} {k:Ck} (hA:FxA f) (hk:Fit f k) (a:Mk) (hs:0≤a.site∧a.site≤900000):Leaf f.heads k (call f a).1:=by
  have ht:=fun m=>num1_ok (targ_ok hA hk m)
  have z0:=n0_ok k
  have xn:=x_no k
  unfold call
  simp only
  split
  · exact (qt9 _ rfl rfl rfl (by decide) (by omega) (ht _) z0 z0 (x_yes (numv_ok k (by omega))) xn (c_no k rfl)).toLeaf
  · rename_i h
    have hm:=hdAt_mem hA.ok (fun h0=>h (.inl h0)) (a.pos+1)
    generalize hdAt f (rnd f.bytes (a.pos+1) f.heads.length)=hd at hm ⊢
    obtain ⟨i1,i2,i3,i4⟩:=hk.hd hd hm
    obtain ⟨p1,p2⟩:=argsK_ok hA hk { a with site:=a.site+1,pos:=a.pos+1+1,done:=a.done+1 } hd.params.length
    generalize hP:argsK f { a with site:=a.site+1,pos:=a.pos+1+1,done:=a.done+1 } hd.params.length=P at p1 p2
    obtain ⟨q1,q2⟩:=ptrsK_ok hA hk P.2 hd.given.length
    generalize ptrsK f P.2 hd.given.length=Q at q1 q2 ⊢
    have n2:numberB k 2 (targ f a)=true:=by
      have:=targ_ok hA hk a
      simp only [numberB];simp [this]
    have n11:numberB k 11 hd.id=true:=by
      show inB hd.id 1 1073741824=true
      exact wh9 ⟨i1,i2⟩
    have hcall:∀ x:Sm,x.args=P.1→x.ptrs=Q.1→callFB k ⟨2,11,0,false,false,false,true,false,false⟩ x=true:=by
      intro x hx hy
      have e1:P.1.all (valueB k)=true:=List.all_eq_true.2 p2
      have e2:Q.1.all (numberB k 3)=true:=List.all_eq_true.2 q2
      have e3:decide ((P.1.length:Int)≤12)=true:=decide_eq_true (by omega)
      have e4:decide ((Q.1.length:Int)≤4)=true:=decide_eq_true (by omega)
      simp only [callFB,qy9,hx,hy,e1,e2,e3,e4];rfl
    exact { st := stmt_ok ⟨2, 11, 0, false, false, false, true, false, false⟩ rfl rfl (wh9 (by simp only [Sm.site]; omega)) n2 n11 z0 xn xn (c_no k rfl) (hcall _ rfl rfl) (.inr rfl) (.inr rfl)
            ca:=fun _=>⟨hd,hm,rfl,p1,q1⟩
            b:=rfl
            e:=rfl }
theorem other_ok {f:Fd} {k:Ck} (hA:FxA f) (hk:Fit f k) (i d:Int) (a:Mk) (hs:0≤a.site∧a.site≤900000):∀ x ∈ (other f i d a).1,Leaf f.heads k x:=by
 have z0:=n0_ok k
 have xn:=x_no k
 unfold other
 split
 ·intro x hx;simp at hx;subst hx;exact callS_ok hA hk a hs
 split
 ·intro x hx;simp at hx;subst hx
  have e0:=@kt9 _ a.pos 3 hA.ok
  have e1:=@wb9 f.bytes a.pos 3 (by omega)
  have h13:numberB k 13 (1+rnd f.bytes a.pos 3)=true:=by
   show inB _ 1 31=true
   exact wh9 (by omega)
  exact (qt9 _ rfl rfl rfl (by decide) (by omega) z0 z0 h13 xn xn (c_no k rfl)).toLeaf
 split
 ·intro x hx;simp at hx;subst hx
  exact (qt9 _ rfl rfl rfl (by decide) (by omega) z0 z0 z0 (x_yes (value_ok hA hk (by omega) _)) xn (c_no k rfl)).toLeaf
 split
 ·exact fun x hx=>(simple_ok hA hk a hs x hx).toLeaf
 ·intro x hx;simp at hx;subst hx;exact (risky_ok hA hk a hs).toLeaf
def GoodL (Q:Sm→Prop) (n:Nat) (l:List Sm):Prop:=∀ d:Int,1≤d→d+n≤9→∀ p ∈ flatL d l,Q p.s∧p.depth≤d+n
theorem GoodL.nil {Q:Sm→Prop} {n:Nat}:GoodL Q n []:=fun d _ _ p hp=>by simp [flatL] at hp
theorem flatL_app (d:Int):∀ l m:List Sm,flatL d (l++m)=flatL d l++flatL d m
 | [],m=>by simp [flatL]
 | x::l,m=>by rw [List.cons_append,flatL,flatL,flatL_app d l m,List.append_assoc]
theorem GoodL.app {Q:Sm→Prop} {n:Nat} {l m:List Sm} (h:GoodL Q n l) (k:GoodL Q n m):GoodL Q n (l++m):=fun d h1 h2 p hp=>by
 rw [flatL_app] at hp
 rcases List.mem_append.1 hp with hp | hp
 ·exact h d h1 h2 p hp
 ·exact k d h1 h2 p hp
theorem GoodL.node {Q:Sm→Prop} {n:Nat} {x:Sm} (h:Q x) (hb:GoodL Q n x.body) (he:GoodL Q n x.els):GoodL Q (n+1) [x]:=fun d h1 h2 p hp=>by
 rw [flatL,Sm.flat_eq] at hp
 have hw:w64 (d+1)=d+1:=qs9 (by omega)
 simp only [hw,flatL,List.append_nil,List.mem_cons,List.mem_append] at hp
 rcases hp with rfl | hp | hp
 ·exact ⟨h,by simp only;omega⟩
 ·have:=hb (d+1) (by omega) (by omega) p hp;exact ⟨this.1,by have:=this.2;omega⟩
 ·have:=he (d+1) (by omega) (by omega) p hp;exact ⟨this.1,by have:=this.2;omega⟩
theorem GoodL.leaf {Q:Sm→Prop} {n:Nat} {x:Sm} (h:Q x) (hb:x.body=[]) (he:x.els=[]):GoodL Q n [x]:=fun d h1 h2 p hp=>by
 rw [flatL,Sm.flat_eq,hb,he] at hp
 simp only [flatL,List.append_nil,List.mem_singleton] at hp
 subst hp
 exact ⟨h,by simp only;omega⟩
theorem GoodL.leaves {H:List Hd} {k:Ck} {n:Nat}:∀ {l:List Sm},(∀ x ∈ l,Leaf H k x)→GoodL (Ok1 H k) n l
 | [],_=>.nil
 | x::l,h=>by
  have hx:=h x (by simp)
  have h1:=GoodL.leaf (n:=n) hx.toOk1 hx.b hx.e
  have:=h1.app (GoodL.leaves (n:=n) (l:=l) fun y hy=>h y (by simp [hy]))
  simpa using this
def Room (a:Mk) (n:Int):Prop:=0≤a.site∧0≤a.left∧a.site+4 * a.left+n≤900000
theorem it_good {ns:Int→Mk→Option (Sm × Mk)} {f:Fd} {k:Ck} {n:Nat} (hA:FxH f) (hk:Fit f k) (hn:∀ k m r,ns k m=some r→NGr m r.2) (hg:∀ i m r,Room m 4→ns i m=some r→GoodL (Ok1 f.heads k) n [r.1]) (d:Int) (a:Mk) (ha:Room a 0):∀ i,GoodL (Ok1 f.heads k) n (itK ns f d a i).1:=by
 intro i
 induction i with
 | zero=>exact .nil
 | succ i ih =>
  have hgr:=gr_it hA hn d a i
  simp only [itK]
  split
  ·rename_i hl
   generalize itK ns f d a i=q at ih hgr hl ⊢
   have hroom:Room { q.2 with left:=q.2.left - 1,pos:=q.2.pos+1 } 4:=by
    have:=hgr.s1;have:=hgr.s2;obtain ⟨h1,h2,h3⟩:=ha
    exact ⟨by simp only;omega,by simp only;omega,by simp only;omega⟩
   unfold stStep
   cases hr:ns (rnd f.bytes q.2.pos 16) { q.2 with left:=q.2.left - 1,pos:=q.2.pos+1 } with
   | some r=>exact ih.app (hg _ _ _ hroom hr)
   | none=>exact ih.app (.leaves (other_ok hA.toFxA hk _ _ _ ⟨hroom.1,by have:=hroom.2.1;have:=hroom.2.2;omega⟩))
  ·exact ih
theorem nest_good {f:Fd} {k:Ck} (hA:FxH f) (hk:Fit f k):∀ (d:Nat) (i:Int) (a:Mk) (r:Sm × Mk),Room a 4→nestS f d i a=some r→GoodL (Ok1 f.heads k) d [r.1]:=by
 intro d
 induction d with
 | zero=>intro i a r _ h;cases h
 | succ d ih =>
  intro i a r ha h
  obtain ⟨ha1,ha2,ha3⟩:=ha
  have hit:=fun (a:Mk) (n:Nat) (h:Room a 0)=>it_good (n:=d) hA hk (xh9 hA d) ih d a h n
  have hgr:=fun (a:Mk) (n:Nat)=>gr_it hA (xh9 hA d) d a n
  obtain ⟨p,e1,e2,e3⟩:=xu9 f 1 { a with site:=a.site+1 }
  have hc:=test_ok hA.toFxA hk { a with site:=a.site+1 }
  have z0:=n0_ok k
  have xn:=x_no k
  have hs:inB (a.site+1) 1 1073741824=true:=wh9 (by omega)
  simp only [nestS] at h
  split at h
  ·cases h
  split at h
  ·cases h
   simp only [whileS,e1]
   have h1:=hit { a with site:=a.site+1,pos:=p+1+1,loop:=a.loop+1 } (1+rnd f.bytes (p+1) 2).toNat ⟨by simp only;omega,by simp only;omega,by simp only;omega⟩
   generalize itK (nestS f d) f d { a with site:=a.site+1,pos:=p+1+1,loop:=a.loop+1 } (1+rnd f.bytes (p+1) 2).toNat=b at h1 ⊢
   have r0:=@kt9 _ p 3 hA.ok
   have r1:=@wb9 f.bytes p 3 (by omega)
   have hv:numberB k 12 (1+rnd f.bytes p 3)=true:=by
    show inB _ 1 16=true
    exact wh9 (by omega)
   refine .node { st:=stmt_ok ⟨0,0,12,false,false,true,false,true,false⟩ rfl rfl hs z0 z0 hv xn xn (c_yes rfl hc) (call0 k rfl rfl rfl) (.inl rfl) (.inr rfl),ca:=fun h=>absurd h (by simp [Sm.op]) } h1 .nil
  split at h
  ·cases h
   simp only [tryS]
   have h1:=hit { a with site:=a.site+1,pos:=a.pos+1+1 } (1+rnd f.bytes (a.pos+1) 2).toNat ⟨by simp only;omega,by simp only;omega,by simp only;omega⟩
   have g1:=hgr { a with site:=a.site+1,pos:=a.pos+1+1 } (1+rnd f.bytes (a.pos+1) 2).toNat
   generalize itK (nestS f d) f d { a with site:=a.site+1,pos:=a.pos+1+1 } (1+rnd f.bytes (a.pos+1) 2).toNat=b at h1 g1 ⊢
   have gs1:=g1.s1;have gs2:=g1.s2;have gl:=g1.l0
   simp only at gs1 gs2 gl
   have h2:=hit { b.2 with pos:=b.2.pos+1 } (rnd f.bytes b.2.pos 2).toNat ⟨by simp only;omega,by simp only;omega,by simp only;omega⟩
   generalize itK (nestS f d) f d { b.2 with pos:=b.2.pos+1 } (rnd f.bytes b.2.pos 2).toNat=e at h2 ⊢
   refine .node { st:=stmt_ok ⟨1,0,0,false,false,false,false,true,true⟩ rfl rfl hs (num1_ok (targ_ok hA.toFxA hk a)) z0 z0 xn xn (c_no k rfl) (call0 k rfl rfl rfl) (.inl rfl) (.inl rfl),ca:=fun h=>absurd h (by simp [Sm.op]) } h1 h2
  ·cases h
   simp only [ifS,e1]
   have h1:=hit { a with site:=a.site+1,pos:=p+1 } (1+rnd f.bytes p 2).toNat ⟨by simp only;omega,by simp only;omega,by simp only;omega⟩
   have g1:=hgr { a with site:=a.site+1,pos:=p+1 } (1+rnd f.bytes p 2).toNat
   generalize itK (nestS f d) f d { a with site:=a.site+1,pos:=p+1 } (1+rnd f.bytes p 2).toNat=b at h1 g1 ⊢
   have gs1:=g1.s1;have gs2:=g1.s2;have gl:=g1.l0
   simp only at gs1 gs2 gl
   have h2:=hit { b.2 with pos:=b.2.pos+1 } (rnd f.bytes b.2.pos 2).toNat ⟨by simp only;omega,by simp only;omega,by simp only;omega⟩
   generalize itK (nestS f d) f d { b.2 with pos:=b.2.pos+1 } (rnd f.bytes b.2.pos 2).toNat=e at h2 ⊢
   refine .node { st:=stmt_ok ⟨0,0,0,false,false,true,false,true,true⟩ rfl rfl hs z0 z0 z0 xn xn (c_yes rfl hc) (call0 k rfl rfl rfl) (.inl rfl) (.inl rfl),ca:=fun h=>absurd h (by simp [Sm.op]) } h1 h2
structure Pre2 (f:Fd):Prop extends Pre f where
 hh:∀ h ∈ f.heads,1≤h.id∧h.id≤1073741824∧h.params.length≤2∧h.given.length≤1
theorem defS_good {f:Fd} (H:Pre2 f) (a:Mk) (id:Int) (th:Bool) (hs:0≤a.site∧a.site≤800000):GoodL (Ok1 f.heads ⟨(defS f a id th).1,declared⟩) 2 (defS f a id th).1.body:=by
 have hA:=defA H.toPre a.pos id th
 have hp:parN f.bytes a.pos th≤2:=by
  have:=@wb9 f.bytes (a.pos+1+1+1+1) 3 (by omega)
  unfold parN;split <;> omega
 have hv:(defD f.bytes a.pos id th).1.vars≤12:=by
  show ((parK f.bytes (a.pos+1+1+1+1+1) (parN f.bytes a.pos th)).1.length:Int)+2+rnd f.bytes ((parK f.bytes (a.pos+1+1+1+1+1) (parN f.bytes a.pos th)).2+1) 2≤12
  have:=(parK_len f.bytes (a.pos+1+1+1+1+1) (parN f.bytes a.pos th)).1
  have:=@wb9 f.bytes ((parK f.bytes (a.pos+1+1+1+1+1) (parN f.bytes a.pos th)).2+1) 2 (by omega)
  omega
 have hk:Fit { f with d:=(defD f.bytes a.pos id th).1 } ⟨(defS f a id th).1,declared⟩ :=
  {par:=rfl
   vars:=rfl
   arr:=rfl
   refs:=rfl
   dc:=rfl
   v12:=hv
   hd:=fun h hh=>by have:=H.hh h hh;exact ⟨this.1,this.2.1,by omega,by omega⟩ }
 exact (it_good (n:=2) hA hk (xh9 hA 2) (nest_good hA hk 2) ((2:Nat):Int) ({ pos:=(defD f.bytes a.pos id th).2+1,site:=a.site,left:=9,loop:=a.loop,done:=0 }:Mk) ⟨hs.1,by simp,by simp only;omega⟩ (1+rnd f.bytes (defD f.bytes a.pos id th).2 5).toNat :)
mutual
def Sm.cal:Sm→Nat
 | .mk _ op _ _ _ _ _ _ _ _ body els=>(if op=13 then 1 else 0)+(calL body+calL els)
def calL:List Sm→Nat
 | []=>0
 | x::l=>x.cal+calL l
end
theorem Sm.cal_eq (x:Sm):x.cal=(if x.op=13 then 1 else 0)+(calL x.body+calL x.els):=by cases x;simp only [Sm.cal,Sm.op,Sm.body,Sm.els];rfl
theorem rawC_app (l m:List Pl):rawC (l++m)=rawC l++rawC m:=by simp [rawC]
theorem rawC_cons (p:Pl) (m:List Pl):(rawC (p::m)).length=(if p.s.op=13 then 1 else 0)+(rawC m).length:=by
 by_cases h:p.s.op=13 <;> simp [rawC,h];omega
mutual
theorem flat_cal:(x:Sm)→∀ d,(rawC (x.flat d)).length=x.cal
 | .mk site op n m v x y c args ptrs body els=>fun d=>by
  rw [Sm.flat_eq,Sm.cal_eq,rawC_cons,rawC_app,List.length_append]
  simp only [Sm.body,Sm.els,flatL_cal body,flatL_cal els]
theorem flatL_cal:(l:List Sm)→∀ d,(rawC (flatL d l)).length=calL l
 | []=>fun d=>by simp [flatL,calL,rawC]
 | x::l=>fun d=>by rw [flatL,rawC_app,List.length_append,flat_cal x d,flatL_cal l d,calL]
end
theorem calL_app:∀ l m:List Sm,calL (l++m)=calL l+calL m
 | [],m=>by simp [calL]
 | x::l,m=>by rw [List.cons_append,calL,calL,calL_app l m];omega
theorem calL_one (x:Sm):calL [x]=x.cal:=by simp [calL]
theorem leaf0_cal {H:List Hd} {k:Ck}:∀ {l:List Sm},(∀ x ∈ l,Leaf0 H k x)→calL l=0
 | [],_=>rfl
 | x::l,h=>by
  have hx:=h x (by simp)
  rw [calL,leaf0_cal (fun y hy=>h y (by simp [hy])),Sm.cal_eq,hx.b,hx.e,if_neg hx.n13];rfl
theorem leaf_cal {H:List Hd} {k:Ck} {x:Sm} (h:Leaf H k x):calL [x]≤1:=by
 rw [calL_one,Sm.cal_eq,h.b,h.e];simp only [calL];split <;> omega
theorem other_cal {f:Fd} {k:Ck} (hA:FxA f) (hk:Fit f k) (i d:Int) (a:Mk) (hs:0≤a.site∧a.site≤900000):calL (other f i d a).1≤1:=by
 unfold other
 split
 ·exact leaf_cal (callS_ok hA hk a hs)
 split
 ·simp [calL,stm,Sm.cal]
 split
 ·simp [calL,stm,Sm.cal]
 split
 ·rw [leaf0_cal (simple_ok hA hk a hs)];omega
 ·exact leaf_cal (risky_ok hA hk a hs).toLeaf
theorem it_cal {ns:Int→Mk→Option (Sm × Mk)} {f:Fd} {k:Ck} (hA:FxH f) (hk:Fit f k) (hn:∀ k m r,ns k m=some r→NGr m r.2) (hg:∀ i m r,Room m 4→ns i m=some r→(calL [r.1]:Int)+r.2.left≤m.left) (d:Int) (a:Mk) (ha:Room a 0):∀ i,(calL (itK ns f d a i).1:Int)+(itK ns f d a i).2.left≤a.left:=by
 intro i
 induction i with
 | zero=>simp [itK,calL]
 | succ i ih =>
  have hgr:=gr_it hA hn d a i
  simp only [itK]
  split
  ·rename_i hl
   generalize itK ns f d a i=q at ih hgr hl ⊢
   have hroom:Room { q.2 with left:=q.2.left - 1,pos:=q.2.pos+1 } 4:=by
    have:=hgr.s1;have:=hgr.s2;obtain ⟨h1,h2,h3⟩:=ha
    exact ⟨by simp only;omega,by simp only;omega,by simp only;omega⟩
   unfold stStep
   cases hr:ns (rnd f.bytes q.2.pos 16) { q.2 with left:=q.2.left - 1,pos:=q.2.pos+1 } with
   | some r =>
    have:=hg _ _ _ hroom hr
    simp only [calL_app] at this ⊢
    omega
   | none =>
    have h1:=other_cal hA.toFxA hk (rnd f.bytes q.2.pos 16) d { q.2 with left:=q.2.left - 1,pos:=q.2.pos+1 } ⟨hroom.1,by have:=hroom.2.1;have:=hroom.2.2;omega⟩
    have h2:=(other_frame f hA (rnd f.bytes q.2.pos 16) d { q.2 with left:=q.2.left - 1,pos:=q.2.pos+1 }).l
    simp only [calL_app] at h1 h2 ⊢
    omega
  ·exact ih
theorem nest_cal {f:Fd} {k:Ck} (hA:FxH f) (hk:Fit f k):∀ (d:Nat) (i:Int) (a:Mk) (r:Sm × Mk),Room a 4→nestS f d i a=some r→(calL [r.1]:Int)+r.2.left≤a.left:=by
 intro d
 induction d with
 | zero=>intro i a r _ h;cases h
 | succ d ih =>
  intro i a r ha h
  obtain ⟨ha1,ha2,ha3⟩:=ha
  have hit:=fun (a:Mk) (n:Nat) (h:Room a 0)=>it_cal hA hk (xh9 hA d) ih d a h n
  have hgr:=fun (a:Mk) (n:Nat)=>gr_it hA (xh9 hA d) d a n
  obtain ⟨p,e1,e2,e3⟩:=xu9 f 1 { a with site:=a.site+1 }
  simp only [nestS] at h
  split at h
  ·cases h
  split at h
  ·cases h
   simp only [whileS,e1]
   have h1:=hit { a with site:=a.site+1,pos:=p+1+1,loop:=a.loop+1 } (1+rnd f.bytes (p+1) 2).toNat ⟨by simp only;omega,by simp only;omega,by simp only;omega⟩
   generalize itK (nestS f d) f d { a with site:=a.site+1,pos:=p+1+1,loop:=a.loop+1 } (1+rnd f.bytes (p+1) 2).toNat=b at h1 ⊢
   simp only [calL,Sm.cal] at h1 ⊢
   rw [if_neg (by decide)];omega
  split at h
  ·cases h
   simp only [tryS]
   have h1:=hit { a with site:=a.site+1,pos:=a.pos+1+1 } (1+rnd f.bytes (a.pos+1) 2).toNat ⟨by simp only;omega,by simp only;omega,by simp only;omega⟩
   have g1:=hgr { a with site:=a.site+1,pos:=a.pos+1+1 } (1+rnd f.bytes (a.pos+1) 2).toNat
   generalize itK (nestS f d) f d { a with site:=a.site+1,pos:=a.pos+1+1 } (1+rnd f.bytes (a.pos+1) 2).toNat=b at h1 g1 ⊢
   have gs1:=g1.s1;have gs2:=g1.s2;have gl:=g1.l0
   simp only at gs1 gs2 gl h1
   have h2:=hit { b.2 with pos:=b.2.pos+1 } (rnd f.bytes b.2.pos 2).toNat ⟨by simp only;omega,by simp only;omega,by simp only;omega⟩
   generalize itK (nestS f d) f d { b.2 with pos:=b.2.pos+1 } (rnd f.bytes b.2.pos 2).toNat=e at h2 ⊢
   simp only [calL,Sm.cal] at h2 ⊢
   rw [if_neg (by decide)];omega
  ·cases h
   simp only [ifS,e1]
   have h1:=hit { a with site:=a.site+1,pos:=p+1 } (1+rnd f.bytes p 2).toNat ⟨by simp only;omega,by simp only;omega,by simp only;omega⟩
   have g1:=hgr { a with site:=a.site+1,pos:=p+1 } (1+rnd f.bytes p 2).toNat
   generalize itK (nestS f d) f d { a with site:=a.site+1,pos:=p+1 } (1+rnd f.bytes p 2).toNat=b at h1 g1 ⊢
   have gs1:=g1.s1;have gs2:=g1.s2;have gl:=g1.l0
   simp only at gs1 gs2 gl h1
   have h2:=hit { b.2 with pos:=b.2.pos+1 } (rnd f.bytes b.2.pos 2).toNat ⟨by simp only;omega,by simp only;omega,by simp only;omega⟩
   generalize itK (nestS f d) f d { b.2 with pos:=b.2.pos+1 } (rnd f.bytes b.2.pos 2).toNat=e at h2 ⊢
   simp only [calL,Sm.cal] at h2 ⊢
   rw [if_neg (by decide)];omega
theorem defS_fit {f:Fd} (H:Pre2 f) (a:Mk) (id:Int) (th:Bool):Fit { f with d:=(defD f.bytes a.pos id th).1 } ⟨(defS f a id th).1,declared⟩:=by
  have hp:parN f.bytes a.pos th≤2:=by
    have:=@wb9 f.bytes (a.pos+1+1+1+1) 3 (by omega)
    unfold parN;split <;> omega
  have hv:(defD f.bytes a.pos id th).1.vars≤12:=by
    show ((parK f.bytes (a.pos+1+1+1+1+1) (parN f.bytes a.pos th)).1.length:Int)+2+rnd f.bytes ((parK f.bytes (a.pos+1+1+1+1+1) (parN f.bytes a.pos th)).2+1) 2≤12
    have:=(parK_len f.bytes (a.pos+1+1+1+1+1) (parN f.bytes a.pos th)).1
    have:=@wb9 f.bytes ((parK f.bytes (a.pos+1+1+1+1+1) (parN f.bytes a.pos th)).2+1) 2 (by omega)
    omega
  exact { par := rfl
          vars:=rfl
          arr:=rfl
          refs:=rfl
          dc:=rfl
          v12:=hv
          hd:=fun h hh=>by have:=H.hh h hh;exact ⟨this.1,this.2.1,by omega,by omega⟩ }
theorem defS_cal {f:Fd} (H:Pre2 f) (a:Mk) (id:Int) (th:Bool) (hs:0≤a.site∧a.site≤800000):(rawC (flatL 1 (defS f a id th).1.body)).length≤9:=by
 have hA:=defA H.toPre a.pos id th
 have hk:=defS_fit H a id th
 have h:=it_cal hA hk (xh9 hA 2) (nest_cal hA hk 2) ((2:Nat):Int) ({ pos:=(defD f.bytes a.pos id th).2+1,site:=a.site,left:=9,loop:=a.loop,done:=0 }:Mk) ⟨hs.1,by simp,by simp only;omega⟩ (1+rnd f.bytes (defD f.bytes a.pos id th).2 5).toNat
 have g:=(gr_it hA (xh9 hA 2) ((2:Nat):Int) ({ pos:=(defD f.bytes a.pos id th).2+1,site:=a.site,left:=9,loop:=a.loop,done:=0 }:Mk) (1+rnd f.bytes (defD f.bytes a.pos id th).2 5).toNat).l0 (by simp)
 rw [flatL_cal]
 have:calL (defS f a id th).1.body=calL (itK (nestS { f with d:=(defD f.bytes a.pos id th).1 } 2) { f with d:=(defD f.bytes a.pos id th).1 } ((2:Nat):Int) ({ pos:=(defD f.bytes a.pos id th).2+1,site:=a.site,left:=9,loop:=a.loop,done:=0 }:Mk) (1+rnd f.bytes (defD f.bytes a.pos id th).2 5).toNat).1:=rfl
 rw [this]
 simp only at h
 omega
theorem rgv_ok (i:Int):ku9 (rgv i)=true:=by
 unfold rgv;split
 ·decide
 split
 ·decide
 split <;> decide
theorem parK_ok (b:List Int) (p:Int):∀ n,∀ r ∈ (parK b p n).1,ku9 r=true:=by
 intro n
 induction n with
 | zero=>intro r h;simp [parK] at h
 | succ n ih =>
  intro r h
  simp only [parK,List.mem_append,List.mem_singleton] at h
  rcases h with h | rfl
  ·exact ih r h
  ·exact rgv_ok _
structure MadeHd (d:Df):Prop where
 firm:0≤d.firm∧d.firm≤1
 part:0≤d.part∧d.part≤2
 par:d.params.length≤2
 pok:∀ r ∈ d.params,ku9 r=true
 giv:d.given.length≤1
 gok:∀ r ∈ d.given,ku9 r=true
 vars:d.vars=d.params.length+2∨d.vars=d.params.length+3
 refs:d.refs=2
 arr:d.arrays=[⟨4,0⟩]∨(d.arrays=[⟨4,0⟩,⟨8,1⟩]∧0<d.params.length)
 bud:d.budget=400∨d.budget=60∨d.budget=20∨d.budget=2000
theorem defS_hd {f:Fd} (hb:FxOk f) (a:Mk) (id:Int) (th:Bool):MadeHd (defS f a id th).1:=by
 have hp:=defS_par f hb a id th
 have r0:=fun p n=>@kt9 _ p n hb
 have r1:=fun p n (h:0<n)=>@wb9 f.bytes p n h
 refine ⟨?_,?_,hp.1,?_,hp.2,?_,?_,rfl,?_,?_⟩
 ·show 0≤rnd f.bytes a.pos 2∧rnd f.bytes a.pos 2≤1
  have:=r0 a.pos 2;have:=r1 a.pos 2 (by omega);omega
 ·show 0≤(if rnd f.bytes (a.pos+1+1+1) 2=0 then (0:Int) else ((rnd f.bytes (a.pos+1) 6).tdiv 2).tmod 3)∧(if rnd f.bytes (a.pos+1+1+1) 2=0 then (0:Int) else ((rnd f.bytes (a.pos+1) 6).tdiv 2).tmod 3)≤2
  have h0:=r0 (a.pos+1) 6;have h1:=r1 (a.pos+1) 6 (by omega)
  split
  ·omega
  ·rw [Int.tdiv_eq_ediv_of_nonneg h0,Int.tmod_eq_emod_of_nonneg (by omega)];omega
 ·exact parK_ok _ _ _
 ·show ∀ r ∈ (if rnd f.bytes (parK f.bytes (a.pos+1+1+1+1+1) (parN f.bytes a.pos th)).2 4=0∧th=false then [(⟨-10,10,1⟩:Rg)] else []),ku9 r=true
  intro r hr
  split at hr
  ·simp at hr;subst hr;decide
  ·simp at hr
 ·have e:(defS f a id th).1.vars=((defS f a id th).1.params.length:Int)+2+rnd f.bytes ((parK f.bytes (a.pos+1+1+1+1+1) (parN f.bytes a.pos th)).2+1) 2:=rfl
  have:=r0 ((parK f.bytes (a.pos+1+1+1+1+1) (parN f.bytes a.pos th)).2+1) 2
  have:=r1 ((parK f.bytes (a.pos+1+1+1+1+1) (parN f.bytes a.pos th)).2+1) 2 (by omega)
  omega
 ·simp only [defS,defD,arrs]
  split
  ·rename_i h
   split
   ·exact .inr ⟨rfl,h⟩
   ·exact .inl rfl
  ·exact .inl rfl
 ·show budg _=400∨budg _=60∨budg _=20∨budg _=2000
  unfold budg
  split
  ·exact .inl rfl
  split
  ·exact .inr (.inl rfl)
  split
  ·exact .inr (.inr (.inl rfl))
  ·exact .inr (.inr (.inr rfl))
theorem every_ok {α:Type} {l:List α} {n:Int} {p:α→Bool} (h:(l.length:Int)≤n) (hp:∀ x ∈ l,p x=true):qy9 l n p=true:=by
 rw [qy9,decide_eq_true h,List.all_eq_true.2 hp];rfl
theorem headB_ok {d:Df} (h:MadeHd d) (hid:1≤d.id∧d.id≤1073741824) (hsite:1≤d.site∧d.site≤1073741824) (hn:nameB d.name=true):headB d declared=true:=by
 have w1:w64 (declared.firms - 1)=1:=qs9 (by decide)
 have w2:w64 (declared.parts - 1)=2:=qs9 (by decide)
 have e1:=wh9 hid
 have e2:=wh9 hsite
 have e3:inB d.firm 0 (w64 (declared.firms - 1))=true:=by rw [w1];exact wh9 h.firm
 have e4:inB d.part 0 (w64 (declared.parts - 1))=true:=by rw [w2];exact wh9 h.part
 have hp:=h.par
 have hg:=h.giv
 have e5:inB d.vars d.params.length 12=true:=by rcases h.vars with e | e <;> rw [e] <;> exact wh9 (by omega)
 have e6:inB d.refs d.given.length 4=true:=by rw [h.refs];exact wh9 (by omega)
 have e7:inB d.budget 1 20000=true:=by rcases h.bud with e | e | e | e <;> rw [e] <;> decide
 have e8:=every_ok (n:=12) (by omega) h.pok
 have e9:=every_ok (n:=4) (by omega) h.gok
 have e10:qy9 d.arrays 4 (arrB d)=true:=by
  rcases h.arr with e | ⟨e,h0⟩
  ·rw [e];refine every_ok (by decide) fun x hx=>?_
   simp at hx;subst hx
   simp only [arrB];rw [wh9 (by omega),wh9 (by omega)];rfl
  ·rw [e];refine every_ok (by decide) fun x hx=>?_
   simp at hx
   rcases hx with rfl | rfl <;> simp only [arrB] <;> rw [wh9 (by omega),wh9 (by omega)] <;> rfl
 simp only [headB,e1,e2,hn,e3,e4,e5,e6,e7,e8,e9,e10];rfl
theorem scan_ok (k:Ck):∀ (ps:List Pl) (seen:List Int),(∀ p ∈ ps,stmtB k p.s=true∧p.depth≤10)→(seen++sitesL ps).Nodup→seen.length+ps.length≤201→scanB k ps seen=true:=by
 intro ps
 induction ps with
 | nil=>intro _ _ _ _;rfl
 | cons p ps ih =>
  intro seen hp hn hl
  obtain ⟨h1,h2⟩:=hp p (by simp)
  have e1:decide (10<p.depth)=false:=decide_eq_false (by omega)
  have e2:decide (200<(seen.length:Int))=false:=decide_eq_false (by simp at hl;omega)
  have e3:seen.contains p.s.site=false:=by
   rw [Bool.eq_false_iff];intro hc
   have hm:p.s.site ∈ seen:=by simpa using hc
   exact (List.nodup_append.1 hn).2.2 _ hm p.s.site (by simp [sitesL]) rfl
  have hr:=ih (seen++[p.s.site]) (fun q hq=>hp q (by simp [hq])) (by simpa [sitesL] using hn) (by simp at hl ⊢;omega)
  simp only [scanB,e1,e2,e3,h1,hr];rfl
theorem defB_ok {d:Df} {H:List Hd} (h:MadeHd d) (hid:1≤d.id∧d.id≤1073741824) (hsite:1≤d.site∧d.site≤1073741824) (hn:nameB d.name=true) (hg:GoodL (Ok1 H ⟨d,declared⟩) 2 d.body) (hs:(sitesS d).Nodup) (hl:(sitesS d).length≤200):defB d declared=true:=by
 have hsc:scanB ⟨d,declared⟩ (flatL 1 d.body) [d.site]=true:=by
  refine scan_ok _ _ _ (fun p hp=>?_) ?_ ?_
  ·have:=hg 1 (by omega) (by omega) p hp
   exact ⟨this.1.st,by have:=this.2;omega⟩
  ·exact (List.perm_append_comm.nodup_iff).1 hs
  ·simp [sitesS,sitesL] at hl ⊢;omega
 rw [defB,headB_ok h hid hsite hn,hsc];rfl
def keepD (p:Pg) (n:Int) (d:Df):Bool:=decide (d.id≠n) || p.threads.contains n
def closedP (p:Pg) (n:Int):Pg:={ p with defs:=p.defs.filter (keepD p n) }
def Pg.zc:List D:=[.slice .nil [],.slice .nil [],.slice .nil [],.slice .nil [],.int .i64 0,.int .i64 0,.int .i64 0,.slice .nil [],.slice .nil [],.slice .nil []]
theorem t_Closed (p:Pg) (n:Int) (hl:p.defs.length<1000000) (s:St):Spec Tryz.prog 11 [.agg p.cells,.int .i64 n] s (.agg (closedP p n).cells) s:=by
 obtain ⟨B,L,c⟩:=s
 refine Spec.introN [] Tryz.func11 rfl (by decide) hmix (by kernel_rfl) [ResultVar.cell 4 37] 40 rfl rfl ?_
 simp only [vqM,vt88,zA,zS,zM]
 refine kc9 [1,2,4,5,6] ?_
 simp only [vke,zB,zA]
 refine km9 hmix p.defs.length (fun k e s=>∃ out:List Df,out=(p.defs.take k).filter (keepD p n)∧e=[J,.int .i64 n,.box B.length 0,J,.box (B.length+1) 0,.slice (ownF c 12 out.length) (dfCells out),.int .i64 (k:Int),J,J,J,J,J,J,J,J,J,J,J,J,J,J,J,J,J,J,J,J,J,J,J,J,J,J,J,J,J,J,J,J,J]∧s=⟨B++[.cells p.cells,.cells Pg.zc],liveN L c out.length,c+out.length⟩) ?_ ?_ 0 _ _ (Nat.zero_le _) ⟨[],by simp,rfl,rfl⟩
 ·rintro k e s hk ⟨out,hout,rfl,rfl⟩ ih
  have hx:p.defs[k]? = some p.defs[k]:=List.getElem?_eq_getElem hk
  have hg:(dfCells p.defs)[k]? = some (p.defs[k].cells):=by simp [dfCells,hx]
  have hklt:((k:Int)<(p.defs.length:Int))=True:=by simp;exact hk
  have hnext:(p.defs.take (k+1)).filter (keepD p n)=if keepD p n p.defs[k] then out++[p.defs[k]] else out:=by
   rw [List.take_add_one,hx,Option.toList_some,List.filter_append,← hout]
   cases h:keepD p n p.defs[k] <;> simp [h]
  have hol:out.length≤k:=by rw [hout];exact Nat.le_trans (List.length_filter_le _ _) (by simp;omega)
  have hof:∀ B',qa9 (ownF c 12 out.length) (dfCells out) 12 ⟨B',liveN L c out.length,c+out.length⟩=true:=fun B'=>yf9 (xe9 _)
  have hl1:(out.length+1≤1000000)=True:=eq_true (by omega)
  generalize p.defs[k]=d at hx hg hnext
  simp only [vqM,vt88,zA,kg9,hklt,decide_true,natle0,Int.toNat_natCast,hg]
  refine kb9 (fun hc=>?_) (fun hc=>?_)
  ·have hkd:keepD p n d=true:=by simp [keepD,hc]
   rw [hkd,if_pos rfl] at hnext
   simp only [vqM,vt88,zA,zM,zL,kg9,natle0,Int.toNat_natCast,hg,hof,qp9,hl1,qc9,hc]
   rw [kf9 (by omega)]
   refine kc9 [1,2,4,5,6] ?_
   simp only [vke,zB,zA]
   refine ih _ _ ⟨out++[d],hnext.symm,?_,?_⟩ <;> simp [ownF]
  ·simp only [vqM,vt88,zA,hc]
   refine ka9 (t_Has p.threads n _) ?_
   simp only [vqM]
   refine kb9 (fun ht=>?_) (fun ht=>?_)
   ·have hkd:keepD p n d=true:=by simp only [keepD,ht,Bool.or_true]
    rw [hkd,if_pos rfl] at hnext
    simp only [vqM,vt88,zA,zM,zL,kg9,natle0,Int.toNat_natCast,hg,hof,qp9,hl1,qc9]
    rw [kf9 (by omega)]
    refine kc9 [1,2,4,5,6] ?_
    simp only [vke,zB,zA]
    refine ih _ _ ⟨out++[d],hnext.symm,?_,?_⟩ <;> simp [ownF]
   ·have hkd:keepD p n d=false:=by simp only [keepD,ht,Bool.or_false];exact hc
    rw [hkd] at hnext
    simp only [vqM]
    rw [kf9 (by omega)]
    refine kc9 [1,2,4,5,6] ?_
    simp only [vke,zB,zA]
    exact ih _ _ ⟨out,by rw [hnext];rfl,rfl,rfl⟩
 ·rintro e s ⟨out,hout,rfl,rfl⟩
  have hklt:((p.defs.length:Int)<(p.defs.length:Int))=False:=by simp
  rw [List.take_length] at hout
  have hset:List.take 8 p.cells++D.slice (ownF c 12 out.length) (dfCells out)::List.drop 9 p.cells=p.d.cells++[.slice .none (kr9 p.heads),.slice (ownF c 12 out.length) (dfCells out),.slice .none (intCells p.threads)]:=rfl
  have hz:(10≤Pg.zc.length)=True:=by simp [Pg.zc]
  have hz2:List.drop 10 Pg.zc=[]:=rfl
  simp only [vqM,vt88,zA,zL,kg9,hklt,decide_false,hset,hz,hz2]
  refine ke9 (.inr rfl) ?_ (kv9 (Pg.bd _)) (fun _ h=>wg9 h) (by omega)
  simp only [vqM,vt88,zA]
  rw [hout];rfl
def foundD (p:Pg) (id:Int):D:=.agg (((findS p id).getD Df.zero).cells++[.bool (findS p id).isSome])
def headedD (p:Pg) (id:Int):D:=.agg (((headS p id).getD Hd.zero).cells++[.bool (headS p id).isSome])
theorem df_fld (h:Df) (d:D):(h.cells++[d])[12]? = some d:=rfl
structure ClosesOk (p:Pg):Prop where
 ok:∀ n,PgOk (closedP p n)
 pr:∀ n,wf9 (closedP p n)=0
 ln:p.defs.length<1000000
def headFine (x:Dc) (h:Hd):Bool:=inB h.id 1 1073741824 && inB h.firm 0 (w64 (x.firms - 1)) && inB h.part 0 (w64 (x.parts - 1)) && qy9 h.params 12 ku9 && qy9 h.given 4 ku9
structure Right (p:Pg):Prop where
 dc:declB p.d=true
 hl:p.heads.length≤40
 hid:p.heads.Pairwise (fun a b=>a.id<b.id)
 hok:∀ h ∈ p.heads,headFine p.d h=true
 dl:p.defs.length≤40
 did:p.defs.Pairwise (fun a b=>a.id<b.id)
 hof:∀ d ∈ p.defs,hdOf d ∈ p.heads
 dok:∀ d ∈ p.defs,defB d p.d=true
 ca:∀ d ∈ p.defs,∀ q ∈ flatL 1 d.body,q.s.op=13→∃ h ∈ p.heads,h.id<d.id∧q.s.m=h.id∧q.s.args.length=h.params.length∧q.s.ptrs.length=h.given.length
 st:(p.defs.flatMap sitesS).Nodup
 tl:p.threads.length≤4
 th:∀ t ∈ p.threads,∃ d ∈ p.defs,d.id=t∧isT d=true
 sz:∀ d ∈ p.defs,d.name.size≤1000000000∧(flatL 1 d.body).length<1000000∧(rawC (flatL 1 d.body)).length≤12
theorem inB_iff {n a b:Int}:inB n a b=true↔a≤n∧n≤b:=by simp [inB]
theorem headFine_id {x:Dc} {h:Hd} (hh:headFine x h=true):1≤h.id∧h.id≤1073741824:=by
 simp only [headFine,Bool.and_eq_true] at hh
 exact inB_iff.1 hh.1.1.1.1
theorem find_pw {α:Type} {g:α→Int}:∀ {l:List α},l.Pairwise (fun a b=>g a<g b)→∀ x ∈ l,l.find? (fun y=>decide (g y=g x))=some x
 | [],_,x,hx=>by simp at hx
 | y::l,hp,x,hx=>by
  obtain ⟨h1,h2⟩:=List.pairwise_cons.1 hp
  rcases List.mem_cons.1 hx with rfl | hx
  ·simp
  ·have:=h1 x hx
   rw [List.find?_cons]
   rw [decide_eq_false (by omega)]
   exact find_pw h2 x hx
theorem Right.head {p:Pg} (R:Right p) {h:Hd} (hh:h ∈ p.heads):headS p h.id=some h:=find_pw R.hid h hh
theorem Right.find {p:Pg} (R:Right p) {d:Df} (hd:d ∈ p.defs):findS p d.id=some d:=find_pw R.did d hd
theorem lastId_lt {p:Pg} {l:List Hd} (hp:l.Pairwise (fun a b=>a.id<b.id)) (hok:∀ h ∈ l,headFine p.d h=true) {k:Nat} {h:Hd} (hk:l[k]? = some h):0≤xj9 l k∧xj9 l k<h.id:=by
 have hh:h ∈ l:=List.mem_of_getElem? hk
 have h1:=headFine_id (hok h hh)
 cases k with
 | zero=>simp only [xj9];omega
 | succ k =>
  obtain ⟨hlt,he⟩:=List.getElem?_eq_some_iff.1 hk
  have hk':l[k]? = some l[k]:=List.getElem?_eq_getElem (by omega)
  simp only [xj9,hk']
  have h2:=headFine_id (hok l[k] (List.getElem_mem _))
  have:=List.pairwise_iff_getElem.1 hp k (k+1) (by omega) hlt (by omega)
  rw [he] at this
  omega
theorem Right.heads {p:Pg} (R:Right p):headsB p=true:=by
 have h1:decide ((p.heads.length:Int)≤40)=true:=decide_eq_true (by have:=R.hl;omega)
 have h2:(List.range p.heads.length).any (headsQ p)=false:=by
  rw [List.any_eq_false]
  intro k hk
  have hk':p.heads[k]? = some (p.heads[k]'(List.mem_range.1 hk)):=List.getElem?_eq_getElem _
  have hl:=lastId_lt (p:=p) R.hid R.hok hk'
  have hf:=R.hok _ (List.getElem_mem (List.mem_range.1 hk))
  have hid:=headFine_id hf
  simp only [headsQ,hk']
  generalize p.heads[k]'(List.mem_range.1 hk)=h at *
  have hw:w64 (xj9 p.heads k+1)=xj9 p.heads k+1:=qs9 (by omega)
  have hi:inB h.id (xj9 p.heads k+1) 1073741824=true:=wh9 (by omega)
  simp only [headFine,Bool.and_eq_true] at hf
  simp only [headOk,hw,hi,hf.1.1.1.2,hf.1.1.2,hf.1.2,hf.2];simp
 rw [headsB,h1,h2];rfl
theorem dis_ok:∀ (l seen:List Int),(seen++l).Nodup→dis l seen=true:=by
 intro l
 induction l with
 | nil=>intro _ _;rfl
 | cons x l ih =>
  intro seen h
  have e:seen.contains x=false:=by
   rw [Bool.eq_false_iff];intro hc
   have hm:x ∈ seen:=by simpa using hc
   exact (List.nodup_append.1 h).2.2 _ hm x (by simp) rfl
  have:=ih (seen++[x]) (by simpa using h)
  simp only [dis,e,this];rfl
theorem scanD_ok (p:Pg):∀ (l:List Df) (seen:List Int) (last:Int),(∀ d ∈ l,rightB p d=true)→l.Pairwise (fun a b=>a.id<b.id)→(∀ d ∈ l,last<d.id)→(seen++l.flatMap sitesS).Nodup→scanD p l seen last=true:=by
 intro l
 induction l with
 | nil=>intro _ _ _ _ _ _;rfl
 | cons d l ih =>
  intro seen last hr hp hl hn
  obtain ⟨p1,p2⟩:=List.pairwise_cons.1 hp
  have e1:decide (d.id≤last)=false:=decide_eq_false (by have:=hl d (by simp);omega)
  have hn':(seen++sitesS d++l.flatMap sitesS).Nodup:=by simpa [List.flatMap_cons] using hn
  have e2:=dis_ok (sitesS d) seen (List.nodup_append.1 hn').1
  have e3:=ih (seen++sitesS d) d.id (fun x hx=>hr x (by simp [hx])) p2 p1 hn'
  simp only [scanD,e1,hr d (by simp),e2,e3];rfl
theorem Right.right {p:Pg} (R:Right p) {d:Df} (hd:d ∈ p.defs):rightB p d=true:=by
 have hh:=R.head (R.hof d hd)
 have ho:otherB p d=false:=by
  have hh':headS p d.id=some (hdOf d):=hh
  have e:hdG p d.id=hdOf d:=by rw [hdG,hh'];rfl
  simp only [otherB,hh',e,Option.isSome_some,hdOf];simp
 have hc:((flatL 1 d.body).all fun q=>callB p q.s)=true:=by
  rw [List.all_eq_true]
  intro q hq
  by_cases h13:q.s.op=13
  ·obtain ⟨h,hm,_,e1,e2,e3⟩:=R.ca d hd q hq h13
   have hs:headS p q.s.m=some h:=by rw [e1];exact R.head hm
   have e:hdG p q.s.m=h:=by rw [hdG,hs];rfl
   simp only [callB,wrongB,hs,e,e2,e3];simp
  ·simp [callB,h13]
 simp only [rightB,R.dok d hd,ho,hc];rfl
theorem exists_min:∀ (l:List Int),l≠[]→∃ m ∈ l,∀ x ∈ l,m≤x
 | [],h=>absurd rfl h
 | [x],_=>⟨x,by simp,fun y hy=>by simp at hy;omega⟩
 | x::y::l,_=>by
  obtain ⟨m,h1,h2⟩:=exists_min (y::l) (by simp)
  by_cases hx:x≤m
  ·exact ⟨x,by simp,fun z hz=>by
    rcases List.mem_cons.1 hz with rfl | hz
    ·omega
    ·have:=h2 z hz;omega⟩
  ·exact ⟨m,List.mem_cons_of_mem _ h1,fun z hz=>by
    rcases List.mem_cons.1 hz with rfl | hz
    ·omega
    ·exact h2 z hz⟩
theorem mem_compLs {x:Int}:∀ {l:List Int},x ∈ compL l↔x ∈ l
 | []=>by simp [compL]
 | [y]=>by simp [compL]
 | y::z::l=>by
  have ih:=mem_compLs (x:=x) (l:=z::l)
  rw [compL]
  split
  ·rename_i h;subst h;rw [ih];simp
  ·rw [List.mem_cons,ih,List.mem_cons (a:=x) (b:=y)]
theorem mem_rawC {x:Int} {l:List Pl}:x ∈ rawC l ↔ ∃ q ∈ l,q.s.op=13∧q.s.m=x:=by
 simp only [rawC,List.mem_map,List.mem_filter,decide_eq_true_eq]
 constructor
 ·rintro ⟨q,⟨h1,h2⟩,h3⟩;exact ⟨q,h1,h2,h3⟩
 ·rintro ⟨q,h1,h2,h3⟩;exact ⟨q,⟨h1,h2⟩,h3⟩
theorem mem_callsS {x:Int} {d:Df}:x ∈ callsS d ↔ ∃ q ∈ flatL 1 d.body,q.s.op=13∧q.s.m=x:=by
 rw [callsS,mem_compLs,xw9,List.mem_mergeSort,mem_rawC]
theorem ordS_len {defs:List Df} (hc:∀ d ∈ defs,∀ c ∈ callsS d,c<d.id):∀ (n:Nat) (rem:List Int),rem.Nodup→(∀ i ∈ rem,∃ d ∈ defs,d.id=i)→rem.length=n→(ordS defs n rem).length=n:=by
 intro n
 induction n with
 | zero=>intro rem _ _ _;rfl
 | succ n ih =>
  intro rem hn hm hl
  obtain ⟨m,h1,h2⟩:=exists_min rem (by rintro rfl;simp at hl)
  obtain ⟨d,hd,rfl⟩:=hm m h1
  have hrd:rdy rem d=true:=by
   have e1:rem.contains d.id=true:=by simpa using h1
   have e2:((callsS d).any fun i=>rem.contains i)=false:=by
    rw [List.any_eq_false]
    intro c hcc hcr
    have:=hc d hd c hcc
    have:=h2 c (by simpa using hcr)
    omega
   rw [rdy,e1,e2];rfl
  cases hf:defs.findIdx? (rdy rem) with
  | none =>
   have:=List.findIdx?_eq_none_iff.1 hf d hd
   rw [hrd] at this;exact absurd this (by decide)
  | some i =>
   obtain ⟨hi,hp,_⟩:=List.findIdx?_eq_some_iff_getElem.1 hf
   have he:idAt defs i=defs[i].id:=by simp only [idAt,List.getElem?_eq_getElem hi]
   have hmem:idAt defs i ∈ rem:=by
    rw [he]
    have:(rem.contains defs[i].id && _)=true:=hp
    have:=(Bool.and_eq_true _ _ ▸ this).1
    simpa using this
   simp only [ordS,hf,List.length_cons]
   rw [ih (rem.erase (idAt defs i)) (hn.erase _) (fun x hx=>hm x (List.mem_of_mem_erase hx)) (by rw [List.length_erase_of_mem hmem];omega)]
theorem Right.calls {p:Pg} (R:Right p) {d:Df} (hd:d ∈ p.defs) {c:Int} (hc:c ∈ callsS d):c<d.id∧∃ h ∈ p.heads,h.id=c:=by
 obtain ⟨q,hq,h13,rfl⟩:=mem_callsS.1 hc
 obtain ⟨h,hm,hlt,e1,_,_⟩:=R.ca d hd q hq h13
 exact ⟨by omega,h,hm,e1.symm⟩
theorem Right.ids {p:Pg} (R:Right p):(p.defs.map (·.id)).Nodup:=(List.pairwise_map.2 (R.did.imp fun h=>by omega))
theorem Right.order {p:Pg} (R:Right p):(orderS p).length=p.defs.length:=by
 refine ordS_len (fun d hd c hc=>(R.calls hd hc).1) _ _ R.ids (fun i hi=>?_) (by simp)
 obtain ⟨d,hd,rfl⟩:=List.mem_map.1 hi
 exact ⟨d,hd,rfl⟩
theorem Right.prog {p:Pg} (R:Right p):wf9 p=0:=by
 have h1:faultB p=false:=by
  have e1:decide ((p.defs.length:Int) > 40)=false:=decide_eq_false (by have:=R.dl;omega)
  have e2:decide ((p.threads.length:Int) > 4)=false:=decide_eq_false (by have:=R.tl;omega)
  simp only [faultB,R.dc,R.heads,e1,e2];rfl
 have h2:scanD p p.defs [] 0=true:=by
  refine scanD_ok p _ _ _ (fun d hd=>R.right hd) R.did (fun d hd=>?_) (by simpa using R.st)
  have:=headFine_id (R.hok _ (R.hof d hd))
  simp only [hdOf] at this;omega
 have h3:p.threads.any (noThr p)=false:=by
  rw [List.any_eq_false]
  intro t ht
  obtain ⟨d,hd,rfl,hT⟩:=R.th t ht
  have hz:d.params.length+d.given.length=0:=by simpa [isT] using hT
  have e:((d.params.length:Int)+(d.given.length:Int))=0:=by omega
  simp only [noThr,R.find hd,Option.isSome_some,Option.getD_some,e,w640];simp
 rw [wf9,h1,h2,h3,R.order];simp
theorem Right.pgok {p:Pg} (R:Right p):PgOk p:=⟨fun d hd=>(R.sz d hd).1,fun d hd=>(R.sz d hd).2.1,fun d hd=>(R.sz d hd).2.2⟩
structure DefOk (d:Df) (H:List Hd):Prop where
 hd:MadeHd d
 df:defB d declared=true
 ca:∀ q ∈ flatL 1 d.body,q.s.op=13→∃ h ∈ H,h.id<d.id∧q.s.m=h.id∧q.s.args.length=h.params.length∧q.s.ptrs.length=h.given.length
 cn:(rawC (flatL 1 d.body)).length≤9
 fl:(sitesS d).length≤40
 nm:d.name.size≤8
 lo:100<d.site∧d.site≤1000
theorem DefOk.mono {d:Df} {H K:List Hd} (h:DefOk d H) (hs:∀ x ∈ H,x ∈ K):DefOk d K :=
 { h with ca:=fun q hq h13=>by obtain ⟨x,hx,r⟩:=h.ca q hq h13;exact ⟨x,hs x hx,r⟩ }
theorem hdOf_id (d:Df):(hdOf d).id=d.id:=rfl
theorem name_ok {k:Nat} (hk:k<5):nameB (abc.extract ((11+(k:Int)).tmod 8).toNat ((11+(k:Int)).tmod 8+1).toNat)=true∧(abc.extract ((11+(k:Int)).tmod 8).toNat ((11+(k:Int)).tmod 8+1).toNat).size≤8:=by
 have:k=0∨k=1∨k=2∨k=3∨k=4:=by omega
 rcases this with rfl | rfl | rfl | rfl | rfl <;> decide +kernel
structure InvD (f:Fd) (k:Nat):Prop where
 hds:f.heads=f.defs.map hdOf
 ids:f.defs.map (·.id)=(List.range k).map (fun i:Nat=>11+(i:Int))
 ok:∀ d ∈ f.defs,DefOk d f.heads
theorem InvD.mem {f:Fd} {k:Nat} (h:InvD f k) {d:Df} (hd:d ∈ f.defs):11≤d.id∧d.id<11+k:=by
 have:d.id ∈ f.defs.map (·.id):=List.mem_map.2 ⟨d,hd,rfl⟩
 rw [h.ids] at this
 obtain ⟨i,hi,e⟩:=List.mem_map.1 this
 have:=List.mem_range.1 hi
 omega
theorem InvD.pre {f:Fd} {k:Nat} (h:InvD f k) (hk:k≤5) (hp:Pre f):Pre2 f:=by
 refine ⟨hp,fun x hx=>?_⟩
 rw [h.hds] at hx
 obtain ⟨d,hd,rfl⟩:=List.mem_map.1 hx
 have:=h.mem hd
 have hm:=(h.ok d hd).hd
 simp only [hdOf]
 exact ⟨by omega,by omega,hm.par,hm.giv⟩
theorem invD {b:List Int} (hb:∀ x ∈ b,0≤x∧x<256) (n:Int):∀ k:Nat,k≤5→InvD (defsK b n k).1 k:=by
 intro k
 induction k with
 | zero=>intro _;exact ⟨rfl,rfl,fun d hd=>by simp [defsK] at hd⟩
 | succ k ih =>
  intro hk
  have h0:=ih (by omega)
  have hp:=defsK_pre hb n k (by omega)
  have hp2:=h0.pre (by omega) hp
  obtain ⟨_,_,_,_,_,_,_,_,_,h9,h10,_⟩:=defsK_inv hb n k (by omega)
  simp only [defsK]
  obtain ⟨m,hm⟩:∃ m:Mk,m=if (k:Int)=n - 1 then (defsK b n k).2 else { (defsK b n k).2 with pos:=(defsK b n k).2.pos+1 }:=⟨_,rfl⟩
  have hms:m.site=(defsK b n k).2.site:=by rw [hm];split <;> rfl
  rw [← hm]
  generalize hth:isTh b n (defsK b n k).2.pos k=th
  have hi:=defS_inc hp m (11+k) th
  have hf:=defS_frame (defsK b n k).1 hp.ok hp.hd hp.hds m (11+k) th
  have hg:=defS_good hp2 m (11+k) th (by rw [hms];omega)
  have hc:=defS_cal hp2 m (11+k) th (by rw [hms];omega)
  have hh:=defS_hd hp.ok m (11+k) th
  have hlen:=hi.len (by omega)
  have hnm:(defS (defsK b n k).1 m (11+k) th).1.name=abc.extract ((11+(k:Int)).tmod 8).toNat ((11+(k:Int)).tmod 8+1).toNat:=rfl
  have hid:(defS (defsK b n k).1 m (11+k) th).1.id=11+k:=rfl
  obtain ⟨n1,n2⟩:=name_ok (show k<5 by omega)
  rw [← hnm] at n1 n2
  have hsite:=hi.rg (defS (defsK b n k).1 m (11+k) th).1.site (by simp [sitesS])
  generalize (defsK b n k).1=f at h0 hp hp2 hi hf hg hc hh hlen hnm hid n1 n2 hsite ⊢
  generalize defS f m (11+k) th=D at hi hf hg hc hh hlen hnm hid n1 n2 hsite ⊢
  have hd:DefOk D.1 f.heads :=
   {hd:=hh
    df:=defB_ok hh (by omega) (by omega) n1 hg hi.nodup (by omega)
    ca:=fun q hq h13=>by
     obtain ⟨x,hx,r⟩:=(hg 1 (by omega) (by omega) q hq).1.ca h13
     refine ⟨x,hx,?_,r⟩
     rw [h0.hds] at hx
     obtain ⟨y,hy,rfl⟩:=List.mem_map.1 hx
     have:=h0.mem hy
     rw [hdOf_id];omega
    cn:=hc
    fl:=by omega
    nm:=n2
    lo:=by omega }
  refine ⟨?_,?_,?_⟩
  ·simp only [addDef,h0.hds,List.map_append,List.map_cons,List.map_nil]
  ·simp only [addDef,List.map_append,h0.ids,List.range_succ,List.map_cons,List.map_nil,hid]
  ·intro d hd'
   simp only [addDef,List.mem_append,List.mem_singleton] at hd' ⊢
   rcases hd' with hd' | rfl
   ·exact (h0.ok d hd').mono fun x hx=>by simp [hx]
   ·exact hd.mono fun x hx=>by simp [hx]
structure MadeOk (p:Pg) (k:Nat):Prop where
 k4:1≤k∧k≤4
 dc:p.d=declared
 hds:p.heads=p.defs.map hdOf
 ids:p.defs.map (·.id)=(List.range k).map (fun i:Nat=>11+(i:Int))
 ok:∀ d ∈ p.defs,DefOk d p.heads
 st:Inc 100 1000 (p.defs.flatMap sitesS)
 th:p.threads=thr p.defs∨p.threads=(thr p.defs).take 1
 last:∃ ds d,p.defs=ds++[d]∧isT d=true
theorem made_ok {b:List Int} (hb:∀ x ∈ b,0≤x∧x<256):∃ k,MadeOk (made b) k:=by
 have hr1:=@kt9 _ 0 4 hb
 have hr2:=@wb9 b 0 4 (by omega)
 have hI:=defsK_inc hb (1+rnd b 0 4) (1+rnd b 0 4).toNat (by omega)
 have hD:=invD hb (1+rnd b 0 4) (1+rnd b 0 4).toNat (by omega)
 obtain ⟨_,_,_,_,_,_,_,_,_,_,h10,_⟩:=defsK_inv hb (1+rnd b 0 4) (1+rnd b 0 4).toNat (by omega)
 refine ⟨(1+rnd b 0 4).toNat,⟨by omega,by omega⟩,rfl,hD.hds,hD.ids,hD.ok,hI.wide (by omega) (by omega),?_,last_isT (by omega)⟩
 simp only [made]
 split
 ·exact .inr rfl
 ·exact .inl rfl
theorem pw_map {α:Type} {g:α→Int} {l:List α} {k:Nat} (h:l.map g=(List.range k).map (fun i:Nat=>11+(i:Int))):l.Pairwise (fun a b=>g a<g b):=by
 have:(l.map g).Pairwise (· < ·):=by
  rw [h,List.pairwise_map]
  exact List.pairwise_lt_range.imp fun h=>by omega
 exact List.pairwise_map.1 this
theorem thr_mem {ds:List Df} {t:Int} (h:t ∈ thr ds):∃ d ∈ ds,d.id=t∧isT d=true:=by
 obtain ⟨d,hd,e⟩:=List.mem_map.1 (List.mem_of_mem_take h)
 obtain ⟨h1,h2⟩:=List.mem_filter.1 hd
 exact ⟨d,by simpa using h1,e,h2⟩
theorem declared_ok:declB declared=true:=by decide +kernel
theorem fine_made {d:Df} (h:MadeHd d) (hid:1≤d.id∧d.id≤1073741824):headFine declared (hdOf d)=true:=by
 have w1:w64 (declared.firms - 1)=1:=qs9 (by decide)
 have w2:w64 (declared.parts - 1)=2:=qs9 (by decide)
 have hp:=h.par
 have hg:=h.giv
 simp only [headFine,hdOf,w1,w2,wh9 hid,wh9 h.firm,wh9 h.part,every_ok (n:=12) (l:=d.params) (by omega) h.pok,every_ok (n:=4) (l:=d.given) (by omega) h.gok];rfl
theorem MadeOk.len {p:Pg} {k:Nat} (M:MadeOk p k):p.defs.length=k:=by
 have:=congrArg List.length M.ids
 simpa using this
theorem MadeOk.mem {p:Pg} {k:Nat} (M:MadeOk p k) {d:Df} (hd:d ∈ p.defs):11≤d.id∧d.id<11+k:=by
 have:d.id ∈ p.defs.map (·.id):=List.mem_map.2 ⟨d,hd,rfl⟩
 rw [M.ids] at this
 obtain ⟨i,hi,e⟩:=List.mem_map.1 this
 have:=List.mem_range.1 hi
 omega
theorem MadeOk.right {p:Pg} {k:Nat} (M:MadeOk p k):Right p:=by
 have hk:=M.k4
 have hlen:=M.len
 have hpw:=pw_map M.ids
 exact {
  dc:=by rw [M.dc];exact declared_ok
  hl:=by rw [M.hds];simp;omega
  hid:=by rw [M.hds,List.pairwise_map];exact hpw
  hok:=by
   rw [M.hds,M.dc];intro h hh
   obtain ⟨d,hd,rfl⟩:=List.mem_map.1 hh
   have:=M.mem hd
   exact fine_made (M.ok d hd).hd (by omega)
  dl:=by omega
  did:=hpw
  hof:=fun d hd=>by rw [M.hds];exact List.mem_map.2 ⟨d,hd,rfl⟩
  dok:=fun d hd=>by rw [M.dc];exact (M.ok d hd).df
  ca:=fun d hd=>(M.ok d hd).ca
  st:=M.st.nodup
  tl:=by
   have:(thr p.defs).length≤2:=by simp only [thr,List.length_take];omega
   rcases M.th with e | e <;> rw [e]
   ·omega
   ·rw [List.length_take];omega
  th:=fun t ht=>by
   rcases M.th with e | e <;> rw [e] at ht
   ·exact thr_mem ht
   ·exact thr_mem (List.mem_of_mem_take ht)
  sz:=fun d hd=>by
   have h:=M.ok d hd
   have h1:=h.nm
   have h2:=h.fl
   have h3:=h.cn
   refine ⟨by omega,?_,by omega⟩
   have h4:(sitesS d).length=(flatL 1 d.body).length+1:=by simp [sitesS,sitesL]
   omega }
structure OrdAt (defs:List Df) (pre l:List Int) (i:Nat) (hi:i<l.length):Prop where
 ca:∃ d ∈ defs,d.id=l[i]∧∀ c ∈ callsS d,(∃ x ∈ defs,x.id=c)→c ∈ pre++l.take i
 le:∀ k (hk:k<l.length),i<k→l[k]<l[i]→∀ d ∈ defs,d.id=l[k]→∃ c ∈ callsS d,(∃ x ∈ defs,x.id=c)∧c ∉ pre++l.take i
structure OrdOk (defs:List Df) (pre rem l:List Int):Prop where
 perm:l.Perm rem
 at_:∀ i hi,OrdAt defs pre l i hi
theorem ret_lab {P:Program} {rs:List ResultVar} {B:List Box} {L L':List Nat} {c c':Nat} {r:D} {e:List D} {x:Exit} (hx:x=.normal∨x=.ret) (h1:(resD P e ⟨B,L',c'⟩ rs).map tupD=some r) (hb:Bd 0 0 r) (hl:∀ k,k ∈ L→k ∈ L') (hc:c≤c') :
  @qI x e ⟨B,L',c'⟩ (retC P rs ⟨B,L,c⟩ r ⟨B,L,c⟩):=by
 have:=ke9 (P:=P) (rs:=rs) (B:=B) (X:=[]) (e:=e) hx (by simpa using h1) hb hl hc
 simpa using this
mutual
def Sm.sms:Sm→List Sm
 | .mk site op n m v x y c args ptrs body els=>.mk site op n m v x y c args ptrs body els::(smsL body++smsL els)
def smsL:List Sm→List Sm
 | []=>[]
 | x::l=>x.sms++smsL l
end
theorem Sm.sms_eq (x:Sm):x.sms=x::(smsL x.body++smsL x.els):=by cases x;simp only [Sm.sms,Sm.body,Sm.els]
mutual
theorem flat_sms:(x:Sm)→∀ d,(x.flat d).map (·.s)=x.sms
 | .mk site op n m v x y c args ptrs body els=>fun d=>by
  rw [Sm.flat_eq,Sm.sms_eq,List.map_cons,List.map_append]
  simp only [Sm.body,Sm.els,flatL_sms body,flatL_sms els]
theorem flatL_sms:(l:List Sm)→∀ d,(flatL d l).map (·.s)=smsL l
 | []=>fun d=>by simp [flatL,smsL]
 | x::l=>fun d=>by rw [flatL,List.map_append,flat_sms x d,flatL_sms l d,smsL]
end
theorem xg9 (l:List Sm):(smsL l).length=cntL l:=by
 rw [← flatL_sms l 1,List.length_map,xr9]
theorem smsL_app:∀ l m:List Sm,smsL (l++m)=smsL l++smsL m
 | [],m=>by simp [smsL]
 | x::l,m=>by rw [List.cons_append,smsL,smsL,smsL_app l m,List.append_assoc]
theorem cntL_take (l:List Sm) (k:Nat):cntL (l.take k)≤cntL l:=by
 induction l generalizing k with
 | nil=>simp
 | cons x l ih=>cases k with
  | zero=>simp [cntL]
  | succ k=>simp only [List.take_succ_cons,cntL];have:=ih k;omega
theorem smEncs_app (l m:List Sm):Sm.encs l++Sm.encs m=Sm.encs (l++m):=by simp [Sm.encs_map]
theorem smEncs_app1 (l:List Sm) (x:Sm):Sm.encs l++[x.cells]=Sm.encs (l++[x]):=by simp [Sm.encs_map]
theorem smEncs_each (l:List Sm):∀ x ∈ Sm.encs l,x.length=20:=by
 intro x hx;rw [Sm.encs_map] at hx;obtain ⟨y,_,rfl⟩:=List.mem_map.1 hx;exact Sm.cells_len y
def FlatS (l:List Sm):Prop:=∀ s:St,cntL l<1000000→Spec Tryz.prog 99 [.slice .none (Sm.encs l)] s (.slice .none (Sm.encs (smsL l))) s
theorem t_flat_of (l:List Sm) (ih:∀ x ∈ l,FlatS x.body∧FlatS x.els):FlatS l:=by
 intro s hl
 obtain ⟨B,L,c⟩:=s
 have hll:l.length≤cntL l:=by rw [cntL_eq];omega
 refine Spec.introN [(5,.text [false,false,false,false,false,false,true,false,false,false,false,false,true,true,false,false,false,false,false,true,true,false] [(11,0),(18,0),(18,1),(18,2)])] Tryz.func99 rfl (by decide) hmix (by kernel_rfl) [ResultVar.tmp 2] 34 rfl rfl ?_
 simp only [vqM,vt46,zA,zS,zM,zB]
 refine kc9 [0,3,4] ?_
 simp only [vke,zB,zA]
 refine km9 hmix l.length (fun k e s=>∃ out:List Sm,out=smsL (l.take k)∧e=[.slice .none (Sm.encs l),J,J,.slice (ownF c 20 (k+k+k)) (Sm.encs out),.int .i64 (k:Int),J,J,J,J,J,J,J,J,J,J,J,J,J,J,J,J,J,J,J,J,J,J,J,J,J,J,J,J,J]∧s=⟨B,liveN L c (k+k+k),c+(k+k+k)⟩) ?_ ?_ 0 _ _ (Nat.zero_le _) ⟨[],by simp [smsL],rfl,rfl⟩
 ·rintro k e s hk ⟨out,hout,rfl,rfl⟩ ihl
  have hx:l[k]? = some l[k]:=List.getElem?_eq_getElem hk
  have hg:(Sm.encs l)[k]? = some l[k].cells:=by simp [Sm.encs_map,hx]
  have hklt:((k:Int)<(l.length:Int))=True:=by simp;exact hk
  have hnext:smsL (l.take (k+1))=out++[l[k]]++smsL l[k].body++smsL l[k].els:=by
   rw [List.take_add_one,hx,Option.toList_some,smsL_app,← hout]
   simp [smsL,Sm.sms_eq]
  have hcnt:=xg9 (l.take (k+1))
  have htk:=cntL_take l (k+1)
  obtain ⟨ih1,ih2⟩:=ih _ (List.getElem_mem hk)
  have hm:=cntL_mem _ _ (List.getElem_mem hk)
  rw [hnext] at hcnt
  simp only [List.length_append,List.length_cons,List.length_nil,xg9] at hcnt
  have hof:∀ n xs,(∀ x ∈ xs,x.length=20)→qa9 (ownF c 20 n) xs 20 ⟨B,liveN L c n,c+n⟩=true:=fun n xs h=>yf9 h
  have hl1:(out.length+1≤1000000)=True:=eq_true (by omega)
  generalize l[k]=x at hx hg hnext ih1 ih2 hm hcnt
  simp only [vqM,vt46,zA,zM,zL,zB,kp9,hklt,decide_true,natle0,Int.toNat_natCast,hg,hof _ _ (smEncs_each out),qp9,hl1,smEncs_app1]
  refine ka9 (ih1 _ (by omega)) ?_
  have hrel:=fun n=>show St.relab ⟨B,liveN L c (n+1),c+(n+1)⟩ (.lab (c+n) 20)=⟨B,liveN L c (n+1+1),c+(n+1+1)⟩ from qp9 (k:=n+1)
  have hl2:(out.length+1+(smsL x.body).length≤1000000)=True:=eq_true (by rw [xg9];omega)
  have hl3:(out.length+((smsL x.body).length+1)+(smsL x.els).length≤1000000)=True:=eq_true (by rw [xg9,xg9];omega)
  have hcon:∀ n,(liveN L c (n+1)).contains (c+n)=true:=fun n=>by simp [liveN]
  have hall:∀ m:List Sm,(∀ z,z ∈ Sm.encs m→z.length=20)=True:=fun m=>eq_true (smEncs_each m)
  simp only [vqM,vt46,zA,zL,kp9,natle0,Int.toNat_natCast,hg,hcon,hrel,hl2,smEncs_app,hall,List.length_append]
  refine ka9 (ih2 _ (by omega)) ?_
  simp only [vqM,vt46,zA,zL,kp9,hcon,hrel,hl3,smEncs_app,hall,List.length_append]
  rw [kf9 (by omega)]
  refine kc9 [0,3,4] ?_
  simp only [vke,zB,zA]
  refine ihl _ _ ⟨_,rfl,?_,?_⟩
  ·rw [hnext,show k+1+(k+1)+(k+1)=k+k+k+1+1+1 from by omega]
   simp [ownF]
  ·rw [show k+1+(k+1)+(k+1)=k+k+k+1+1+1 from by omega]
 ·rintro e s ⟨out,hout,rfl,rfl⟩
  have hklt:((l.length:Int)<(l.length:Int))=False:=by simp
  rw [List.take_length] at hout
  simp only [vqM,vt46,zB,kp9,hklt,decide_false]
  refine ret_lab (.inr rfl) ?_ (qd9 (Sm.bds _)) (fun _ h=>wg9 h) (by omega)
  simp only [vqM]
  rw [hout]
mutual
theorem t_flatM:(x:Sm)→FlatS x.body∧FlatS x.els
 | .mk site op n m v x y c args ptrs body els=>⟨t_flat_of body (t_flatMs body),t_flat_of els (t_flatMs els)⟩
theorem t_flatMs:(l:List Sm)→∀ x ∈ l,FlatS x.body∧FlatS x.els
 | []=>by intro x hx;simp at hx
 | y::l=>by
  intro x hx
  rcases List.mem_cons.1 hx with e | hx
  ·rw [e];exact t_flatM y
  ·exact t_flatMs l x hx
end
theorem t_Flat (l:List Sm):FlatS l:=t_flat_of l (t_flatMs l)
def addedL (l:List Int) (n:Int):List Int:=l.takeWhile (fun x=>decide (x<n))++[n]++l.filter (fun x=>decide (x > n))
theorem tw_p {p:Int→Bool}:∀ {l:List Int} {k:Nat} (hk:k<(l.takeWhile p).length),p (l.takeWhile p)[k]=true
 | [],k,h=>by simp at h
 | x::l,k,h=>by
  by_cases hx:p x=true
  ·have e:(x::l).takeWhile p=x::l.takeWhile p:=by simp [hx]
   simp only [e,List.length_cons] at h ⊢
   cases k with
   | zero=>simpa using hx
   | succ k=>simp only [List.getElem_cons_succ];exact tw_p (by omega)
  ·have e:(x::l).takeWhile p=[]:=by simp [hx]
   simp only [e,List.length_nil] at h
   omega
theorem takeWhile_at {p:Int→Bool} {l:List Int} {k:Nat} (hk:k<(l.takeWhile p).length):∃ h:k<l.length,p l[k]=true∧(l.takeWhile p).take (k+1)=(l.takeWhile p).take k++[l[k]]:=by
 have hpre:=List.takeWhile_prefix p (l:=l)
 have hl:=hpre.length_le
 have he:(l.takeWhile p)[k]=l[k]'(by omega):=hpre.getElem hk
 refine ⟨by omega,?_,?_⟩
 ·rw [← he];exact tw_p hk
 ·rw [List.take_add_one,List.getElem?_eq_getElem hk,he];rfl
theorem takeWhile_end {p:Int→Bool}:∀ {l:List Int},(h:(l.takeWhile p).length<l.length)→p (l[(l.takeWhile p).length])=false
 | [],h=>by simp at h
 | x::l,h=>by
  by_cases hx:p x=true
  ·have e:(x::l).takeWhile p=x::l.takeWhile p:=by simp [hx]
   simp only [e,List.length_cons] at h ⊢
   exact takeWhile_end (l:=l) (by omega)
  ·have e:(x::l).takeWhile p=[]:=by simp [hx]
   simp only [e,List.length_nil,List.getElem_cons_zero]
   simpa using hx
theorem t_Added (l:List Int) (n:Int) (hn:l.length≤100000) (s:St):Spec Tryz.prog 50 [.slice .none (intCells l),.int .i64 n] s (.slice .none (intCells (addedL l n))) s:=by
 obtain ⟨B,L,c⟩:=s
 refine Spec.introN [] Tryz.func50 rfl (by decide) hmix (by kernel_rfl) [ResultVar.tmp 4] 54 rfl rfl ?_
 simp only [vqM,vt25,zA,zS,zM]
 refine kc9 [0,1,5,6] ?_
 simp only [vke,zB,zA]
 have hW:=(List.takeWhile_prefix (l:=l) (fun x=>decide (x<n))).length_le
 have hof:∀ k xs,(∀ x ∈ xs,x.length=1)→qa9 (ownF c 1 k) xs 1 ⟨B,liveN L c k,c+k⟩=true:=fun n xs h=>yf9 h
 refine km9 hmix (l.takeWhile fun x=>decide (x<n)).length (fun k e s=>∃ out:List Int,out=(l.takeWhile fun x=>decide (x<n)).take k∧e=[.slice .none (intCells l),.int .i64 n,J,J,J,.slice (ownF c 1 k) (intCells out),.int .i64 (k:Int),J,J,J,J,J,J,J,J,J,J,J,J,J,J,J,J,J,J,J,J,J,J,J,J,J,J,J,J,J,J,J,J,J,J,J,J,J,J,J,J,J,J,J,J,J,J,J]∧s=⟨B,liveN L c k,c+k⟩) ?_ ?_ 0 _ _ (Nat.zero_le _) ⟨[],by simp,rfl,rfl⟩
 ·rintro k e s hk ⟨out,hout,rfl,rfl⟩ ih
  obtain ⟨hkl,hp,hnx⟩:=takeWhile_at hk
  rw [← hout] at hnx
  have hg:=intAt hkl
  have hklt:((k:Int)<(l.length:Int))=True:=by simp;exact hkl
  have hol:out.length≤k:=by rw [hout];simp;omega
  have hl1:(out.length+1≤1000000)=True:=eq_true (by omega)
  generalize l[k]=y at hg hp hnx
  simp only [vqM,vt25,zA,zM,zL,kd9,hklt,decide_true,natle0,Int.toNat_natCast,hg,hp,hof _ _ (qb9 out),qp9,hl1,qq9]
  rw [kf9 (by omega)]
  refine kc9 [0,1,5,6] ?_
  simp only [vke,zB,zA]
  exact ih _ _ ⟨_,hnx.symm,by simp [ownF],rfl⟩
 ·rintro e s ⟨out,hout,rfl,rfl⟩
  rw [List.take_length] at hout
  generalize hWl:(l.takeWhile fun x=>decide (x<n)).length=W at hW ⊢
  have hlab:∀ k,(liveN L c (k+1)).contains (c+k)=true:=fun k=>by simp [liveN]
  have hrel:=fun k=>show St.relab ⟨B,liveN L c (k+1),c+(k+1)⟩ (.lab (c+k) 1)=⟨B,liveN L c (k+1+1),c+(k+1+1)⟩ from qp9 (k:=k+1)
  have hol:out.length=W:=by rw [hout];exact hWl
  have hl1:(out.length+1≤1000000)=True:=eq_true (by omega)
  have hfl:=List.length_filter_le (fun x=>decide (x > n)) l
  have hofs:=hof W _ (qb9 out)
  have hcase:(W<l.length∧∃ y,(intCells l)[W]? = some [.int .i64 y]∧decide (y<n)=false) ∨ ¬ W<l.length:=by
   by_cases hWe:W<l.length
   ·have hp:=takeWhile_end (p:=fun x=>decide (x<n)) (l:=l) (by rw [hWl];exact hWe)
    simp only [hWl] at hp
    exact .inl ⟨hWe,_,intAt hWe,hp⟩
   ·exact .inr hWe
  rcases hcase with ⟨hWe,y,hg,hp⟩ | hWe
  case' inl =>
   have hklt:((W:Int)<(l.length:Int))=True:=by simp;exact hWe
   simp only [vqM,vt25,zA,zM,zL,kd9,hklt,decide_true,natle0,Int.toNat_natCast,hg,hp,hofs,qp9,hl1,qq9]
  case' inr =>
   have hklt:((W:Int)<(l.length:Int))=False:=by simp;omega
   simp only [vqM,vt25,zA,zM,zL,kd9,hklt,decide_false,hofs,qp9,hl1,qq9]
  all_goals
   refine kc9 [0,1,5,7] ?_
   simp only [vke,zB,zA]
   refine km9 hmix l.length (fun k e s=>∃ m ex:List Int,ex=(l.take k).filter (fun x=>decide (x > n))∧m=out++[n]++ex∧e=[.slice .none (intCells l),.int .i64 n,J,J,J,.slice (ownF c 1 (W+1+ex.length)) (intCells m),J,.int .i64 (k:Int),J,J,J,J,J,J,J,J,J,J,J,J,J,J,J,J,J,J,J,J,J,J,J,J,J,J,J,J,J,J,J,J,J,J,J,J,J,J,J,J,J,J,J,J,J,J]∧s=⟨B,liveN L c (W+1+ex.length),c+(W+1+ex.length)⟩) ?_ ?_ 0 _ _ (Nat.zero_le _) ⟨_,[],by simp,rfl,by simp [ownF],rfl⟩
   ·rintro k e s hk ⟨m,ex,hex,hm,rfl,rfl⟩ ih
    have hx:l[k]? = some l[k]:=List.getElem?_eq_getElem hk
    have hgk:=intAt hk
    have hklt:((k:Int)<(l.length:Int))=True:=by simp;exact hk
    have hnx:(l.take (k+1)).filter (fun x=>decide (x > n))=if l[k] > n then ex++[l[k]] else ex:=by
     rw [List.take_add_one,hx,Option.toList_some,List.filter_append,← hex]
     by_cases h:l[k] > n <;> simp [h]
    have hexl:ex.length≤k:=by rw [hex];exact Nat.le_trans (List.length_filter_le _ _) (by simp;omega)
    have hml:m.length=W+1+ex.length:=by rw [hm];simp [hol];omega
    have hl2:(m.length+1≤1000000)=True:=eq_true (by omega)
    have hofm:=hof (W+1+ex.length) _ (qb9 m)
    generalize l[k]=z at hgk hnx
    have he1:W+1+(ex++[z]).length=W+1+ex.length+1:=by rw [List.length_append,List.length_singleton];omega
    simp only [vqM,vt25,zA,kd9,hklt,decide_true,natle0,Int.toNat_natCast,hgk]
    refine kb9 (fun hc=>?_) (fun hc=>?_)
    ·simp only [vqM,vt25,zA,zM,zL,kd9,natle0,Int.toNat_natCast,hgk,hofm,qp9,hl2,qq9]
     rw [kf9 (by omega)]
     refine kc9 [0,1,5,7] ?_
     simp only [vke,zB,zA]
     rw [if_pos (of_decide_eq_true hc)] at hnx
     refine ih _ _ ⟨m++[z],ex++[z],hnx.symm,by rw [hm];simp,?_,?_⟩
     ·rw [he1];rfl
     ·rw [he1]
    ·simp only [vqM]
     rw [kf9 (by omega)]
     refine kc9 [0,1,5,7] ?_
     simp only [vke,zB,zA]
     rw [if_neg (of_decide_eq_false hc)] at hnx
     exact ih _ _ ⟨m,ex,hnx.symm,hm,rfl,rfl⟩
   ·rintro e s ⟨m,ex,hex,hm,rfl,rfl⟩
    have hklt:((l.length:Int)<(l.length:Int))=False:=by simp
    rw [List.take_length] at hex
    simp only [vqM,vt25,kd9,hklt,decide_false]
    refine ret_lab (.inr rfl) ?_ (qd9 (int_bd _)) (fun _ h=>wg9 h) (by omega)
    simp only [vqM]
    rw [hm,hout,hex];rfl
def callsR (d:Df):List Int:=(rawC (flatL 1 d.body)).foldl addedL []
theorem mem_takeWhile {n x:Int}:∀ {l:List Int},l.Pairwise (· < ·)→(x ∈ l.takeWhile (fun y=>decide (y<n))↔x ∈ l∧x<n)
 | [],_=>by simp
 | y::l,h=>by
  obtain ⟨h1,h2⟩:=List.pairwise_cons.1 h
  have ih:=mem_takeWhile (n:=n) (x:=x) h2
  by_cases hy:y<n
  ·rw [List.takeWhile_cons_of_pos (by simpa using hy),List.mem_cons,ih,List.mem_cons]
   constructor
   ·rintro (rfl | ⟨h,k⟩)
    ·exact ⟨.inl rfl,hy⟩
    ·exact ⟨.inr h,k⟩
   ·rintro ⟨rfl | h,k⟩
    ·exact .inl rfl
    ·exact .inr ⟨h,k⟩
  ·rw [List.takeWhile_cons_of_neg (by simpa using hy)]
   simp only [List.not_mem_nil,List.mem_cons,false_iff,not_and]
   rintro (rfl | h)
   ·exact hy
   ·have:=h1 x h;omega
theorem mem_addedL {l:List Int} {n x:Int} (h:l.Pairwise (· < ·)):x ∈ addedL l n↔x ∈ l∨x=n:=by
 rw [addedL,List.mem_append,List.mem_append,mem_takeWhile h,List.mem_singleton,List.mem_filter,decide_eq_true_eq]
 constructor
 ·rintro ((⟨h,_⟩ | h) | ⟨h,_⟩)
  ·exact .inl h
  ·exact .inr h
  ·exact .inl h
 ·rintro (h | h)
  ·rcases Int.lt_trichotomy x n with q | q | q
   ·exact .inl (.inl ⟨h,q⟩)
   ·exact .inl (.inr q)
   ·exact .inr ⟨h,q⟩
  ·exact .inl (.inr h)
theorem addedL_pw {l:List Int} {n:Int} (h:l.Pairwise (· < ·)):(addedL l n).Pairwise (· < ·):=by
 rw [addedL,List.pairwise_append,List.pairwise_append]
 refine ⟨⟨h.sublist (List.takeWhile_sublist _),by simp,fun a ha b hb=>?_⟩,h.sublist (List.filter_sublist),fun a ha b hb=>?_⟩
 ·simp at hb;subst hb;exact ((mem_takeWhile h).1 ha).2
 ·have hb':n<b:=by simpa using (List.mem_filter.1 hb).2
  rcases List.mem_append.1 ha with ha | ha
  ·have:=((mem_takeWhile h).1 ha).2;omega
  ·simp at ha;omega
theorem foldl_addedL {x:Int}:∀ (m l:List Int),l.Pairwise (· < ·)→(m.foldl addedL l).Pairwise (· < ·)∧(x ∈ m.foldl addedL l↔x ∈ l∨x ∈ m)
 | [],l,h=>⟨h,by simp⟩
 | y::m,l,h=>by
  obtain ⟨h1,h2⟩:=foldl_addedL (x:=x) m (addedL l y) (addedL_pw h)
  refine ⟨h1,?_⟩
  rw [List.foldl_cons,h2,mem_addedL h,List.mem_cons]
  constructor
  ·rintro ((h | h) | h)
   ·exact .inl h
   ·exact .inr (.inl h)
   ·exact .inr (.inr h)
  ·rintro (h | h | h)
   ·exact .inl (.inl h)
   ·exact .inl (.inr h)
   ·exact .inr h
theorem mem_callsR {x:Int} {d:Df}:x ∈ callsR d ↔ ∃ q ∈ flatL 1 d.body,q.s.op=13∧q.s.m=x:=by
 rw [callsR,(foldl_addedL (x:=x) _ [] .nil).2,mem_rawC];simp
theorem tw_filter (n:Int):∀ l:List Int,(l.takeWhile (fun x=>decide (x<n))).length+(l.filter (fun x=>decide (x > n))).length≤l.length
 | []=>by simp
 | y::l=>by
  have ih:=tw_filter n l
  by_cases hy:y<n
  ·rw [List.takeWhile_cons_of_pos (by simpa using hy),List.filter_cons_of_neg (by simp;omega)]
   simp only [List.length_cons];omega
  ·rw [List.takeWhile_cons_of_neg (by simpa using hy)]
   simp only [List.length_nil,Nat.zero_add];exact List.length_filter_le _ _
theorem addedL_len1 (l:List Int) (n:Int):(addedL l n).length≤l.length+1:=by
 have:=tw_filter n l
 simp only [addedL,List.length_append,List.length_cons,List.length_nil];omega
theorem foldl_len:∀ (m l:List Int),(m.foldl addedL l).length≤l.length+m.length
 | [],l=>by simp
 | y::m,l=>by
  have h1:=foldl_len m (addedL l y)
  have h2:=addedL_len1 l y
  simp at h1 ⊢;omega
theorem flat_at {l:List Sm} {k:Nat} (h:k<(smsL l).length):∃ p,(flatL 1 l)[k]? = some p∧p.s=(smsL l)[k]:=by
 have h2:k<(flatL 1 l).length:=by rw [xr9,← xg9];exact h
 refine ⟨(flatL 1 l)[k],List.getElem?_eq_getElem h2,?_⟩
 have:=flatL_sms l 1
 simp only [← this,List.getElem_map]
theorem t_CallsR (d:Df) (hN:cntL d.body<100000) (s:St):Spec Tryz.prog 101 [.agg d.cells] s (.slice .none (intCells (callsR d))) s:=by
 obtain ⟨B,L,c⟩:=s
 refine Spec.introN [] Tryz.func101 rfl (by decide) hmix (by kernel_rfl) [ResultVar.tmp 2] 30 rfl rfl ?_
 simp only [vqM,vt89,zA,zS]
 refine ka9 (t_Flat d.body _ (by omega)) ?_
 simp only [vqM,vt89,zA,zM]
 refine kc9 [3,4,5] ?_
 simp only [vke,zB,zA]
 refine km9 hmix (smsL d.body).length (fun k e s=>∃ o:Own,∃ out:List Int,(o=.none∨o=.full)∧out=(rawC ((flatL 1 d.body).take k)).foldl addedL []∧e=[J,J,J,.slice .none (Sm.encs (smsL d.body)),.slice o (intCells out),.int .i64 (k:Int),J,J,J,J,J,J,J,J,J,J,J,J,J,J,J,J,J,J,J,J,J,J,J,J]∧s=⟨B++[.cells d.cells],L,c⟩) ?_ ?_ 0 _ _ (Nat.zero_le _) ⟨.full,[],.inr rfl,by simp [rawC],rfl,rfl⟩
 ·rintro k e s hk ⟨o,out,ho,hout,rfl,rfl⟩ ih
  obtain ⟨p,hp1,hp2⟩:=flat_at hk
  have hraw:=rawC_succ hp1
  have hrl:(rawC ((flatL 1 d.body).take k)).length≤cntL d.body:=by
   have h1:(rawC ((flatL 1 d.body).take k)).length≤((flatL 1 d.body).take k).length:=by
    rw [rawC,List.length_map];exact List.length_filter_le _ _
   rw [List.length_take,xr9] at h1;omega
  have hol:out.length≤cntL d.body:=by rw [hout];have:=foldl_len (rawC ((flatL 1 d.body).take k)) [];simp at this;omega
  have hx:(smsL d.body)[k]? = some (smsL d.body)[k]:=List.getElem?_eq_getElem hk
  have hg:(Sm.encs (smsL d.body))[k]? = some (smsL d.body)[k].cells:=by simp [Sm.encs_map,hx]
  have hklt:((k:Int)<((smsL d.body).length:Int))=True:=by simp;exact hk
  have hkl:k<cntL d.body:=by rw [← xg9];exact hk
  rw [← hp2] at hg
  simp only [vqM,vt89,kp9,hklt,decide_true,natle0,Int.toNat_natCast,hg]
  refine kb9 (fun hc=>?_) (fun hc=>?_)
  ·have hop:p.s.op=13:=of_decide_eq_true hc
   rw [if_pos hop] at hraw
   have hsp:∀ s,Spec Tryz.prog 50 [.slice .none (intCells out),.int .i64 p.s.m] s (.slice .none (intCells (addedL out p.s.m))) s:=fun s=>t_Added out p.s.m (by omega) s
   simp only [vqM,vt89,natle0,Int.toNat_natCast,hg]
   refine ka9 (hsp _) ?_
   simp only [vqM]
   rw [kf9 (by omega)]
   refine kc9 [3,4,5] ?_
   simp only [vke,zB,zA]
   refine ih _ _ ⟨.none,_,.inl rfl,?_,rfl,rfl⟩
   rw [hraw,List.foldl_append,← hout];rfl
  ·have hop:¬ p.s.op=13:=of_decide_eq_false hc
   rw [if_neg hop] at hraw
   simp only [vqM]
   rw [kf9 (by omega)]
   refine kc9 [3,4,5] ?_
   simp only [vke,zB,zA]
   exact ih _ _ ⟨o,out,ho,by rw [hraw];exact hout,rfl,rfl⟩
 ·rintro e s ⟨o,out,ho,hout,rfl,rfl⟩
  have hklt:(((smsL d.body).length:Int)<((smsL d.body).length:Int))=False:=by simp
  rw [xg9,← xr9 d.body 1,List.take_length] at hout
  simp only [vqM,vt89,kp9,hklt,decide_false]
  refine ke9 (.inr rfl) ?_ (qd9 (int_bd _)) (fun _ h=>h) (Nat.le_refl _)
  simp only [vqM]
  rw [hout];rfl
theorem bd_found (p:Pg) (id:Int):Bd 0 0 (foundD p id):=kv9 fun x hx=>by
 rcases List.mem_append.1 hx with hx | hx
 ·exact Df.bd _ x hx
 ·simp at hx;subst hx;exact .bool _
theorem t_FindIn (p:Pg) (id:Int) (hlen:p.defs.length<1000000) (s:St):Spec Tryz.prog 20 [.agg p.cells,.int .i64 id] s (foundD p id) s:=by
 obtain ⟨B,L,c⟩:=s
 have hzc:∀ d:Df,∀ b,List.take 13 (d.cells++[D.bool b])=d.cells++[D.bool b]:=fun d b=>rfl
 refine Spec.introN [] Tryz.func20 rfl (by decide) hmix (by kernel_rfl) [ResultVar.cell 4 57] 28 rfl rfl ?_
 simp only [vqM,vt90,zA,zS]
 refine kc9 [1,2,4,5] ?_
 simp only [vke,zB,zA]
 refine km9 hmix p.defs.length (fun k e s=>e=[J,.int .i64 id,.box B.length 0,J,.box (B.length+1) 0,.int .i64 (k:Int),J,J,J,J,J,J,J,J,J,J,J,J,J,J,J,J,J,J,J,J,J,J]∧s=⟨B++[.cells p.cells,.cells (Df.zc++[.bool false])],L,c⟩∧∀ j (h:j<p.defs.length),j<k→decide (p.defs[j].id=id)=false) ?_ ?_ 0 _ _ (Nat.zero_le _) ⟨rfl,rfl,by intro j _ h;omega⟩
 ·rintro k e s hk ⟨rfl,rfl,hI⟩ ih
  have hx:p.defs[k]? = some p.defs[k]:=List.getElem?_eq_getElem hk
  have hg:(dfCells p.defs)[k]? = some (p.defs[k].cells):=by simp [dfCells,hx]
  have hklt:((k:Int)<(p.defs.length:Int))=True:=by simp;exact hk
  simp only [vqM,vt90,zA,kg9,Df.zc,hklt,decide_true,natle0,Int.toNat_natCast,hg]
  refine kb9 (fun hc=>?_) (fun hc=>?_)
  ·simp only [vqM,vt90,zA,zL,natle0,Int.toNat_natCast,hg]
   have hf:findS p id=some p.defs[k]:=find_at hx hc hI
   refine ke9 (.inr rfl) ?_ (bd_found p id) (fun _ h=>h) (Nat.le_refl _)
   simp only [vqM,vt90,zA,foundD,hf,hzc,Option.getD_some,Option.isSome_some]
  ·simp only [vqM]
   rw [kf9 (by omega)]
   refine kc9 [1,2,4,5] ?_
   simp only [vke,zB,zA]
   refine ih _ _ ⟨rfl,rfl,fun j hj hjk=>?_⟩
   by_cases e:j=k
   ·subst e;exact hc
   ·exact hI j hj (by omega)
 ·rintro e s ⟨rfl,rfl,hI⟩
  have hklt:((p.defs.length:Int)<(p.defs.length:Int))=False:=by simp
  simp only [vqM,vt90,zA,kg9,Df.zc,hklt,decide_false]
  have hf:findS p id=none:=find_no hI
  refine ke9 (.inr rfl) ?_ (bd_found p id) (fun _ h=>h) (Nat.le_refl _)
  simp only [vqM,vt90,zA,foundD,hf,Option.getD_none,Option.isSome_none]
  rfl
theorem t_NameR (b:ByteArray) (hb:b.size≤1000000000) (s:St):Spec Tryz.prog 97 [.str b] s (.bool (nameB b)) s:=by
 refine Spec.introN [(4,.cut),(5,.cut)] Tryz.func97 rfl (by decide) hmix (by kernel_rfl) [ResultVar.tmp 2] 60 rfl rfl ?_
 simp only [vqM,zA,zS,zB]
 refine kc9 [0,3] ?_
 simp only [vke,zB,zA]
 refine xc9 hmix b.size (fun k=>[.str b,J,J,.int .i64 (k:Int),J,J,J,J,J,J,J,J,J,J,J,J,J,J,J,J,J,J,J,J,J,J,J,J,J,J,J,J,J,J,J,J,J,J,J,J,J,J,J,J,J,J,J,J,J,J,J,J,J,J,J,J,J,J,J,J]) (fun _=>s) (fun k=>nameL b.data.toList 0=nameL (b.data.toList.drop k) k) ?_ ?_ 0 (Nat.zero_le _) rfl
 ·intro k hk hI ih
  have hg:=byte_at b k hk
  have hkl:k<b.data.toList.length:=by simpa using hk
  have hd:b.data.toList.drop k=b.data.toList[k]::b.data.toList.drop (k+1):=List.drop_eq_getElem_cons hkl
  rw [hd,nameL] at hI
  generalize b.data.toList[k]=c at hg hd hI
  have hklt:((k:Int)<(b.size:Int))=True:=by simp;exact hk
  simp only [vqM,vt48,zB,hklt,decide_true]
  refine qe9 hmix [0,3,4] [.str b,J,J,.int .i64 (k:Int),.bool (letterB c.toNat),J,J,J,J,J,J,J,J,J,J,J,J,J,J,J,J,J,J,J,J,J,J,J,J,J,J,J,J,J,J,J,J,J,J,J,J,J,J,J,J,J,J,J,J,J,J,J,J,J,J,J,J,J,J,J] (fun s1=>s1=s) ?_ ?_
  ·simp only [vqM,vt48,natle0,Int.toNat_natCast,hg]
   repeat' (first
    | (with_reducible refine kb9 (fun hc=>?_) (fun hc=>?_) <;> simp only [vqM,vt48,hc,natle0,Int.toNat_natCast,hg])
    | ((with_reducible refine is_q ?_);refine kj9 ⟨?_,rfl⟩ <;> simp only [vke,zB,zA] <;> (first | (simp only [letterB, *,Bool.true_and,Bool.false_and,Bool.and_true,Bool.and_false,Bool.true_or,Bool.false_or,Bool.or_false];done) | (simp_all [letterB];done) | (simp_all [letterB];omega))))
  rintro s1 rfl
  simp only [vqM,zB]
  refine qe9 hmix [0,3,56] [.str b,J,J,.int .i64 (k:Int),J,J,J,J,J,J,J,J,J,J,J,J,J,J,J,J,J,J,J,J,J,J,J,J,J,J,J,J,J,J,J,J,J,J,J,J,J,J,J,J,J,J,J,J,J,J,J,J,J,J,J,J,.bool (badB k c.toNat),J,J,J] (fun s2=>s2=s1) ?_ ?_
  ·simp only [vqM]
   repeat' (first
    | (with_reducible refine kb9 (fun hc=>?_) (fun hc=>?_) <;> simp only [vqM,vt48,hc,natle0,Int.toNat_natCast,hg])
    | ((with_reducible refine is_q ?_);refine kj9 ⟨?_,rfl⟩ <;> simp only [vke,zB,zA] <;> (first | (simp only [badB, *,Bool.true_and,Bool.false_and,Bool.and_true,Bool.and_false,Bool.true_or,Bool.false_or,Bool.or_true,Bool.or_false];done) | (simp_all [badB];done) | (simp_all [badB];omega))))
  rintro s2 rfl
  simp only [vqM]
  refine kb9 (fun hc=>?_) (fun hc=>?_)
  ·simp only [vqM,zB]
   refine ko9 (.inr rfl) ?_ (.bool _)
   simp only [vqM]
   simp only [nameB,hI,hc,Bool.not_true,Bool.false_and]
  ·simp only [vqM]
   rw [kf9 (by omega)]
   refine kc9 [0,3] ?_
   simp only [vke,zB,zA]
   refine ih ?_
   rw [hI,hc];rfl
 ·intro hI
  rw [List.drop_of_length_le (by simp)] at hI
  have hklt:((b.size:Int)<(b.size:Int))=False:=by simp
  simp only [vqM,vt48,zB,hklt,decide_false]
  refine ka9 (t_inR _ _ _ _) ?_
  simp only [vqM]
  refine ko9 (.inr rfl) ?_ (.bool _)
  simp only [vqM]
  simp only [nameB,hI,nameL,Bool.true_and]
mutual
def Sm.dp:Sm→Nat
 | .mk _ _ _ _ _ _ _ _ _ _ body els=>1+max (dpL body) (dpL els)
def dpL:List Sm→Nat
 | []=>0
 | x::l=>max x.dp (dpL l)
end
theorem Sm.dp_eq (x:Sm):x.dp=1+max (dpL x.body) (dpL x.els):=by cases x;simp only [Sm.dp,Sm.body,Sm.els]
theorem dpL_app:∀ l m:List Sm,dpL (l++m)=max (dpL l) (dpL m)
 | [],m=>by simp [dpL]
 | x::l,m=>by rw [List.cons_append,dpL,dpL,dpL_app l m,Nat.max_assoc]
mutual
theorem dp_cnt:(x:Sm)→x.dp≤1+(cntL x.body+cntL x.els)
 | .mk site op n m v x y c args ptrs body els=>by
  rw [Sm.dp_eq]
  simp only [Sm.body,Sm.els]
  have:=dpL_cnt body
  have:=dpL_cnt els
  omega
theorem dpL_cnt:(l:List Sm)→dpL l≤cntL l
 | []=>by simp [dpL]
 | x::l=>by
  have h1:=dp_cnt x
  have h2:=dpL_cnt l
  have h3:=xg9 (x::l)
  rw [smsL,List.length_append,Sm.sms_eq,List.length_cons,List.length_append,xg9,xg9,xg9] at h3
  rw [dpL]
  omega
end
theorem max_if (a b:Nat):(if (a:Int)<(b:Int) then (b:Int) else (a:Int))=((max a b:Nat):Int):=by
 split <;> omega
def DepS (l:List Sm):Prop:=∀ s:St,cntL l<1000000→Spec Tryz.prog 98 [.slice .none (Sm.encs l)] s (.int .i64 (dpL l:Nat)) s
theorem t_dep_of (l:List Sm) (ih:∀ x ∈ l,DepS x.body∧DepS x.els):DepS l:=by
 intro s hl
 have hll:l.length≤cntL l:=by rw [cntL_eq];omega
 refine Spec.introN [(5,.text [false,false,false,false,false,false,true,false,false,false,false,false,true,false,false,false,false] [(11,0)])] Tryz.func98 rfl (by decide) hmix (by kernel_rfl) [ResultVar.tmp 2] 28 rfl rfl ?_
 simp only [vqM,zA,zS,zB]
 refine kc9 [0,3,4] ?_
 simp only [vke,zB,zA]
 refine km9 hmix l.length (fun k e s1=>e=[.slice .none (Sm.encs l),J,J,.int .i64 ((dpL (l.take k):Nat):Int),.int .i64 (k:Int),J,J,J,J,J,J,J,J,J,J,J,J,J,J,J,J,J,J,J,J,J,J,J]∧s1=s) ?_ ?_ 0 _ _ (Nat.zero_le _) ⟨rfl,rfl⟩
 ·rintro k e s1 hk ⟨rfl,rfl⟩ ihl
  have hx:l[k]? = some l[k]:=List.getElem?_eq_getElem hk
  have hg:(Sm.encs l)[k]? = some l[k].cells:=by simp [Sm.encs_map,hx]
  have hklt:((k:Int)<(l.length:Int))=True:=by simp;exact hk
  have hnext:dpL (l.take (k+1))=max (dpL (l.take k)) (1+max (dpL l[k].body) (dpL l[k].els)):=by
   rw [List.take_add_one,hx,Option.toList_some,dpL_app,dpL,dpL,Sm.dp_eq];omega
  obtain ⟨ih1,ih2⟩:=ih _ (List.getElem_mem hk)
  have hm:=cntL_mem _ _ (List.getElem_mem hk)
  have d1:=dpL_cnt l[k].body
  have d2:=dpL_cnt l[k].els
  have d3:=dpL_cnt (l.take k)
  have d4:=cntL_take l k
  generalize l[k]=x at hx hg hnext ih1 ih2 hm d1 d2
  simp only [vqM,vt46,zB,kp9,hklt,decide_true,natle0,Int.toNat_natCast,hg]
  refine ka9 (ih1 _ (by omega)) ?_
  simp only [vqM,vt46,natle0,Int.toNat_natCast,hg]
  refine ka9 (ih2 _ (by omega)) ?_
  simp only [vqM,vt46]
  rw [kf9 (by omega)]
  refine kc9 [0,3,4] ?_
  simp only [vke,zB,zA]
  rw [max_if,ky9 (n:=1+((max (dpL x.body) (dpL x.els):Nat):Int)) (by omega),show 1+((max (dpL x.body) (dpL x.els):Nat):Int)=((1+max (dpL x.body) (dpL x.els):Nat):Int) by omega,max_if]
  exact ihl _ _ ⟨by rw [hnext],rfl⟩
 ·rintro e s1 ⟨rfl,rfl⟩
  have hklt:((l.length:Int)<(l.length:Int))=False:=by simp
  rw [List.take_length]
  simp only [vqM,vt46,zB,kp9,hklt,decide_false]
  refine ko9 (.inr rfl) ?_ (.int _ _)
  simp only [vqM]
mutual
theorem t_depM:(x:Sm)→DepS x.body∧DepS x.els
 | .mk site op n m v x y c args ptrs body els=>⟨t_dep_of body (t_depMs body),t_dep_of els (t_depMs els)⟩
theorem t_depMs:(l:List Sm)→∀ x ∈ l,DepS x.body∧DepS x.els
 | []=>by intro x hx;simp at hx
 | y::l=>by
  intro x hx
  rcases List.mem_cons.1 hx with e | hx
  ·rw [e];exact t_depM y
  ·exact t_depMs l x hx
end
theorem t_Depth (l:List Sm):DepS l:=t_dep_of l (t_depMs l)
def listB (k:Ck) (l:List Sm):Bool:=(smsL l).all (stmtB k)
def oneB (k:Ck) (x:Sm):Bool:=!stmtB k x || (!listB k x.body || !listB k x.els)
def ListS (q:Ck) (l:List Sm):Prop:=∀ s:St,Spec Tryz.prog 100 [.agg q.d.cells,.agg q.x.cells,.slice .none (Sm.encs l)] s (.bool (listB q l)) s
theorem t_list_of (q:Ck) (l:List Sm) (ih:∀ x ∈ l,ListS q x.body∧ListS q x.els):ListS q l:=by
 intro s
 refine Spec.small fun hsm=>?_
 have hlen:=(hsm _ (.tail _ (.tail _ (.head _)))).len
 rw [kp9] at hlen
 clear hsm
 obtain ⟨B,L,c⟩:=s
 refine Spec.introN [(4,.cut)] Tryz.func100 rfl (by decide) hmix (by kernel_rfl) [ResultVar.tmp 6] 44 rfl rfl ?_
 simp only [vqM,zA,zS,zB]
 refine kc9 [2,3,4,7] ?_
 simp only [vke,zB,zA]
 refine km9 hmix l.length (fun k e s=>listB q (l.take k)=true∧e=[J,J,.slice .none (Sm.encs l),.box B.length 0,.box (B.length+1) 0,J,J,.int .i64 (k:Int),J,J,J,J,J,J,J,J,J,J,J,J,J,J,J,J,J,J,J,J,J,J,J,J,J,J,J,J,J,J,J,J,J,J,J,J]∧s=⟨B++[.cells q.d.cells,.cells q.x.cells],L,c⟩) ?_ ?_ 0 _ _ (Nat.zero_le _) ⟨rfl,rfl,rfl⟩
 ·rintro k e s hk ⟨hI,rfl,rfl⟩ ihl
  have hx:l[k]? = some l[k]:=List.getElem?_eq_getElem hk
  have hg:(Sm.encs l)[k]? = some l[k].cells:=by simp [Sm.encs_map,hx]
  have hklt:((k:Int)<(l.length:Int))=True:=by simp;exact hk
  have hnext:listB q (l.take (k+1)) = !oneB q l[k]:=by
   rw [List.take_add_one,hx,Option.toList_some,listB,smsL_app,List.all_append,← listB,hI,smsL,smsL,List.append_nil,Sm.sms_eq,List.all_cons,List.all_append]
   simp only [oneB,listB,Bool.true_and,Bool.not_or,Bool.not_not]
  have hspl:listB q l=(!oneB q l[k] && listB q (l.drop (k+1))):=by
   conv=>lhs;rw [← List.take_append_drop (k+1) l]
   rw [listB,smsL_app,List.all_append,← listB,← listB,hnext]
  obtain ⟨ih1,ih2⟩:=ih _ (List.getElem_mem hk)
  generalize l[k]=x at hx hg hnext hspl ih1 ih2
  simp only [vqM,vt91,zB,kp9,hklt,decide_true]
  refine qe9 hmix [2,3,4,7,43] [J,J,.slice .none (Sm.encs l),.box B.length 0,.box (B.length+1) 0,J,J,.int .i64 (k:Int),J,J,J,J,J,J,J,J,J,J,J,J,J,J,J,J,J,J,J,J,J,J,J,J,J,J,J,J,J,J,J,J,J,J,J,.bool (oneB q x)] (fun s=>s=⟨B++[.cells q.d.cells,.cells q.x.cells],L,c⟩) ?_ ?_
  ·simp only [vqM,vt91,natle0,Int.toNat_natCast,hg]
   repeat' (first
    | ((with_reducible refine kh9 ?_);refine ka9 (t_StmtB _ _ _) ?_;simp only [vqM])
    | ((with_reducible refine kh9 ?_);refine ka9 (ih1 _) ?_;simp only [vqM])
    | ((with_reducible refine kh9 ?_);refine ka9 (ih2 _) ?_;simp only [vqM])
    | (with_reducible refine kb9 (fun hc=>?_) (fun hc=>?_) <;> simp only [vqM,vt91,hc,natle0,Int.toNat_natCast,hg])
    | ((with_reducible refine is_q ?_);refine kj9 ⟨?_,rfl⟩ <;> simp only [vke,zB,zA] <;> (first | (simp only [oneB, *,Bool.true_or,Bool.false_or,Bool.or_true];done) | (simp_all [oneB];done) | (simp_all [oneB];omega))))
  rintro s rfl
  simp only [vqM]
  refine kb9 (fun hc=>?_) (fun hc=>?_)
  ·simp only [vqM,zB]
   refine ke9 (.inr rfl) ?_ (.bool _) (fun _ h=>h) (Nat.le_refl _)
   simp only [vqM]
   rw [hspl,hc];rfl
  ·simp only [vqM]
   rw [kf9 (by omega)]
   refine kc9 [2,3,4,7] ?_
   simp only [vke,zB,zA]
   exact ihl _ _ ⟨by rw [hnext,hc];rfl,rfl,rfl⟩
 ·rintro e s ⟨hI,rfl,rfl⟩
  have hklt:((l.length:Int)<(l.length:Int))=False:=by simp
  rw [List.take_length] at hI
  simp only [vqM,vt91,zB,kp9,hklt,decide_false]
  refine ke9 (.inr rfl) ?_ (.bool _) (fun _ h=>h) (Nat.le_refl _)
  simp only [vqM]
  rw [hI]
mutual
theorem t_listM (q:Ck):(x:Sm)→ListS q x.body∧ListS q x.els
 | .mk site op n m v x y c args ptrs body els=>⟨t_list_of q body (t_listMs q body),t_list_of q els (t_listMs q els)⟩
theorem t_listMs (q:Ck):(l:List Sm)→∀ x ∈ l,ListS q x.body∧ListS q x.els
 | []=>by intro x hx;simp at hx
 | y::l=>by
  intro x hx
  rcases List.mem_cons.1 hx with e | hx
  ·rw [e];exact t_listM q y
  ·exact t_listMs q l x hx
end
theorem t_listR (q:Ck) (l:List Sm):ListS q l:=t_list_of q l (t_listMs q l)
structure SameK (k j:Ck):Prop where
 par:k.d.params.length=j.d.params.length
 vars:k.d.vars=j.d.vars
 arr:k.d.arrays.length=j.d.arrays.length
 refs:k.d.refs=j.d.refs
 gl:k.x.globals.length=j.x.globals.length
 cl:k.x.classes.length=j.x.classes.length
 qu:k.x.queues.length=j.x.queues.length
 si:k.x.sinks.length=j.x.sinks.length
 lo:k.x.locks=j.x.locks
 pa:k.x.parts=j.x.parts
mutual
theorem exprS_congr {k j:Ck} (h:SameK k j):(e:Ex)→∀ d,exprS k e d=exprS j e d
 | .mk op n v a=>fun d=>by
  simp only [exprS,h.vars,h.arr,exprsS_congr h a]
theorem exprsS_congr {k j:Ck} (h:SameK k j):(l:List Ex)→∀ d acc,exprsS k l d acc=exprsS j l d acc
 | []=>fun d acc=>by simp only [exprsS]
 | x::l=>fun d acc=>by simp only [exprsS,exprS_congr h x,exprsS_congr h l]
end
mutual
theorem condS_congr {k j:Ck} (h:SameK k j):(e:Co)→∀ d,condS k e d=condS j e d
 | .mk op a c=>fun d=>by
  simp only [condS,exprsS_congr h,condsS_congr h c]
theorem condsS_congr {k j:Ck} (h:SameK k j):(l:List Co)→∀ d acc,condsS k l d acc=condsS j l d acc
 | []=>fun d acc=>by simp only [condsS]
 | x::l=>fun d acc=>by simp only [condsS,condS_congr h x,condsS_congr h l]
end
theorem valueB_congr {k j:Ck} (h:SameK k j) (e:Ex):valueB k e=valueB j e:=by simp only [valueB,exprS_congr h]
theorem testB_congr {k j:Ck} (h:SameK k j) (e:Co):testB k e=testB j e:=by simp only [testB,condS_congr h]
theorem numberB_congr {k j:Ck} (h:SameK k j) (w n:Int):numberB k w n=numberB j w n:=by simp only [numberB,h.par,h.vars,h.refs,h.arr,h.gl,h.cl,h.qu,h.si,h.lo,h.pa]
theorem stmtB_congr {k j:Ck} (h:SameK k j) (s:Sm):stmtB k s=stmtB j s:=by
 have h1:valueB k=valueB j:=funext fun e=>valueB_congr h e
 have h2:numberB k 3=numberB j 3:=funext fun n=>numberB_congr h 3 n
 simp only [stmtB,yc9,condFB,callFB,numberB_congr h,h1,h2,testB_congr h]
theorem scanB_mem {k:Ck}:∀ {ps:List Pl} {seen:List Int},scanB k ps seen=true→∀ q ∈ ps,stmtB k q.s=true∧q.depth≤10
 | [],_,_,q,hq=>by simp at hq
 | p::ps,seen,h,q,hq=>by
  simp only [scanB,Bool.and_eq_true,Bool.not_eq_true',Bool.or_eq_false_iff,decide_eq_false_iff_not] at h
  obtain ⟨⟨⟨⟨h1,_⟩,_⟩,h2⟩,h3⟩:=h
  rcases List.mem_cons.1 hq with rfl | hq
  ·exact ⟨by simpa using h2,by omega⟩
  ·exact scanB_mem h3 q hq
def withH (p:Pg):Pg:={ p with heads:=p.defs.map headOf }
def PgW (p:Pg) (o:Own) (hs:List Hd):List D:=p.d.cells++[.slice o (kr9 hs),.slice .none (dfCells p.defs),.slice .none (intCells p.threads)]
theorem PgW.len (p:Pg) (o:Own) (hs:List Hd):(PgW p o hs).length=10:=rfl
theorem PgW.hd (p:Pg) (o:Own) (hs:List Hd):((PgW p o hs).drop 7)[0]? = some (.slice o (kr9 hs)):=rfl
theorem PgW.df (p:Pg) (o:Own) (hs:List Hd):((PgW p o hs).drop 8)[0]? = some (.slice .none (dfCells p.defs)):=rfl
theorem PgW.set (p:Pg) (o o':Own) (hs hs':List Hd):(PgW p o hs).take 7++.slice o' (kr9 hs')::(PgW p o hs).drop 8=PgW p o' hs':=rfl
theorem PgW.set0 (p:Pg):p.cells.take 7++.slice .nil []::p.cells.drop 8=PgW p .nil []:=rfl
theorem PgW.take (p:Pg) (o:Own) (hs:List Hd):(PgW p o hs).take 10=PgW p o hs:=rfl
theorem PgW.plain (p:Pg) (o:Own) (hs:List Hd):(PgW p o hs).map D.plain1=({ p with heads:=hs }:Pg).cells:=rfl
theorem t_WithHeads (p:Pg) (hl:p.defs.length≤100000) (s:St):Spec Tryz.prog 46 [.agg p.cells] s (.agg (withH p).cells) s:=by
 refine Spec.wf fun hW=>?_
 obtain ⟨B,L,c⟩:=s
 have hW0:WfL L c:=⟨hW.nd,hW.lt⟩
 refine Spec.introN [(5,.text [false,false,false,false,false,false,false,true,false,true,false,true] [(1,1)])] Tryz.func46 rfl (by decide) hmix (by kernel_rfl) [ResultVar.cell 2 37] 24 rfl rfl ?_
 simp only [vqM,vt92,zA,zS,zL,zB]
 refine kc9 [1,2,3] ?_
 simp only [vke,zB,zA]
 refine km9 hmix p.defs.length (fun k e s=>∃ o L' c',OutO L c 5 o L' c'∧e=[J,.box B.length 0,.box (B.length+1) 0,.int .i64 (k:Int),J,J,J,J,J,J,J,J,J,J,J,J,J,J,J,J,J,J,J,J]∧s=⟨B++[.cells (PgW p o ((p.defs.take k).map headOf)),.cells Pg.zc],L',c'⟩) ?_ ?_ 0 _ _ (Nat.zero_le _) ⟨.nil,_,_,.start hW0 5,rfl,rfl⟩
 ·rintro k e s hk ⟨o,L',c',hO,rfl,rfl⟩ ih
  have hx:p.defs[k]? = some p.defs[k]:=List.getElem?_eq_getElem hk
  have hg:(dfCells p.defs)[k]? = some (p.defs[k].cells):=by simp [dfCells,hx]
  have hklt:((k:Int)<(p.defs.length:Int))=True:=by simp;exact hk
  have hnext:(p.defs.take (k+1)).map headOf=(p.defs.take k).map headOf++[headOf p.defs[k]]:=by rw [List.take_add_one,hx,List.map_append];rfl
  have hkl:((p.defs.take k).map headOf).length=k:=by simp;omega
  generalize p.defs[k]=d at hx hg hnext
  generalize (p.defs.take k).map headOf=out at hnext hkl
  have hof:∀ B',qa9 o (kr9 out) 5 ⟨B',L',c'⟩=true:=fun B'=>hO.lv.fits (hdCells_each _) B' c'
  have hl1:(out.length+1≤1000000)=True:=eq_true (by omega)
  simp only [vqM,vt92,zA,zB,PgW.hd,PgW.df,kg9,hklt,decide_true,natle0,Int.toNat_natCast,hg]
  refine ka9 (t_HeadR d _) ?_
  simp only [vqM,vt92,zA,zM,zL,PgW.len,PgW.hd,PgW.set,hof,qg9,ki9,hl1,wt9]
  rw [kf9 (by omega)]
  refine kc9 [1,2,3] ?_
  simp only [vke,zB,zA]
  exact ih _ _ ⟨_,_,_,hO.step hW0,rfl,by rw [hnext]⟩
 ·rintro e s ⟨o,L',c',hO,rfl,rfl⟩
  have hklt:((p.defs.length:Int)<(p.defs.length:Int))=False:=by simp
  rw [List.take_length]
  have hz:(10≤Pg.zc.length)=True:=by simp [Pg.zc]
  have hz2:List.drop 10 Pg.zc=[]:=rfl
  have hp1:({ p with heads:=p.defs.map headOf }:Pg)=withH p:=rfl
  simp only [vqM,vt92,zA,zB,PgW.len,PgW.df,PgW.take,kg9,hklt,decide_false,PgW.plain,hz,hz2,hp1]
  refine ke9 (.inr rfl) ?_ (kv9 (Pg.bd _)) hO.sub hO.le
  simp only [vqM,vt92]
def spareD (id n:Int):Df:=⟨id,w64 (5000+w64 (10 * id)),⟨#[115,112,97,114,101]⟩,0,0,[],[],0,0,[],5,[.mk (w64 (5001+w64 (10 * id))) 24 0 0 0 (num n) (.mk 0 0 0 []) (.mk 0 [] []) [] [] [] []]⟩
theorem t_spare (id n:Int) (s:St):Spec Tryz.prog 91 [.int .i64 id,.int .i64 n] s (.agg (spareD id n).cells) s:=by
 obtain ⟨B,L,c⟩:=s
 refine Spec.introN [] Tryz.func91 rfl (by decide) hmix (by kernel_rfl) [ResultVar.cell 4 55] 17 rfl rfl ?_
 simp only [vqM,vt93,zA,zS]
 refine ka9 (t_num n _) ?_
 simp only [vqM,vt93,zA,zM,zL]
 trace_state
 refine ke9 (.inr rfl) ?_ (kv9 (Df.bd _)) (fun _ h=>h) (Nat.le_refl _)
 simp only [vqM,vt93,zA]
 rfl
theorem twG_p {α:Type} {p:α→Bool}:∀ {l:List α} {k:Nat} (hk:k<(l.takeWhile p).length),p (l.takeWhile p)[k]=true
 | [],k,h=>by simp at h
 | x::l,k,h=>by
  by_cases hx:p x=true
  ·have e:(x::l).takeWhile p=x::l.takeWhile p:=by simp [hx]
   simp only [e,List.length_cons] at h ⊢
   cases k with
   | zero=>simpa using hx
   | succ k=>simp only [List.getElem_cons_succ];exact twG_p (by omega)
  ·have e:(x::l).takeWhile p=[]:=by simp [hx]
   simp only [e,List.length_nil] at h
   omega
theorem twG_at {α:Type} {p:α→Bool} {l:List α} {k:Nat} (hk:k<(l.takeWhile p).length):∃ h:k<l.length,p l[k]=true∧(l.takeWhile p).take (k+1)=(l.takeWhile p).take k++[l[k]]:=by
 have hpre:=List.takeWhile_prefix p (l:=l)
 have hl:=hpre.length_le
 have he:(l.takeWhile p)[k]=l[k]'(by omega):=hpre.getElem hk
 refine ⟨by omega,?_,?_⟩
 ·rw [← he];exact twG_p hk
 ·rw [List.take_add_one,List.getElem?_eq_getElem hk,he];rfl
theorem twG_end {α:Type} {p:α→Bool}:∀ {l:List α},(h:(l.takeWhile p).length<l.length)→p (l[(l.takeWhile p).length])=false
 | [],h=>by simp at h
 | x::l,h=>by
  by_cases hx:p x=true
  ·have e:(x::l).takeWhile p=x::l.takeWhile p:=by simp [hx]
   simp only [e,List.length_cons] at h ⊢
   exact twG_end (l:=l) (by omega)
  ·have e:(x::l).takeWhile p=[]:=by simp [hx]
   simp only [e,List.length_nil,List.getElem_cons_zero]
   simpa using hx
def movedL (pre:List Df) (x:Df):List Df:=pre.takeWhile (fun d=>decide (d.id<x.id))++[x]++pre.filter (fun d=>decide (d.id > x.id))
theorem t_sorted (p:Pg) (pre:List Df) (x:Df) (hpx:p.defs=pre++[x]) (hn:pre.length≤1000) (s:St):Spec Tryz.prog 93 [.agg p.cells] s (.agg (withH { p with defs:=movedL pre x }).cells) s:=by
 obtain ⟨B,L,c⟩:=s
 have hdl:p.defs.length=pre.length+1:=by rw [hpx];simp
 have hlast:(dfCells p.defs)[pre.length]? = some x.cells:=by rw [hpx];simp [dfCells]
 have hat:∀ (k:Nat) (h:k<pre.length),(dfCells p.defs)[k]? = some pre[k].cells:=fun k h=>by rw [hpx,dfCells,List.map_append,List.getElem?_append_left (by simpa using h)];simp [h]
 have hsub:IntKind.i64.wrap (((pre.length+1:Nat):Int) - 1)=(pre.length:Int):=by rw [ky9 (by omega)];omega
 have hnl:((pre.length:Int)<((pre.length+1:Nat):Int))=True:=eq_true (by omega)
 refine Spec.introN [] Tryz.func93 rfl (by decide) hmix (by kernel_rfl) [ResultVar.cell 2 37] 72 rfl rfl ?_
 simp only [vqM,vt51,zA,zS,zM,kg9,hdl,hsub,hlast,natle0,Int.toNat_natCast]
 refine kc9 [1,2,3,4,5,6] ?_
 simp only [vke,zB,zA]
 have hW:=(List.takeWhile_prefix (l:=pre) (fun d=>decide (d.id<x.id))).length_le
 have hof:∀ k xs B,(∀ x ∈ xs,x.length=12)→qa9 (ownF c 12 k) xs 12 ⟨B,liveN L c k,c+k⟩=true:=fun n xs B h=>yf9 h
 refine km9 hmix (pre.takeWhile fun d=>decide (d.id<x.id)).length (fun k e s=>∃ out:List Df,out=(pre.takeWhile fun d=>decide (d.id<x.id)).take k∧e=[J,.box B.length 0,.box (B.length+1) 0,.int .i64 pre.length,.box (B.length+2) 0,.slice (ownF c 12 k) (dfCells out),.int .i64 (k:Int),J,J,J,J,J,J,J,J,J,J,J,J,J,J,J,J,J,J,J,J,J,J,J,J,J,J,J,J,J,J,J,J,J,J,J,J,J,J,J,J,J,J,J,J,J,J,J,J,J,J,J,J,J,J,J,J,J,J,J,J,J,J,J,J,J]∧s=⟨B++[.cells p.cells,.cells Pg.zc,.cells x.cells],liveN L c k,c+k⟩) ?_ ?_ 0 _ _ (Nat.zero_le _) ⟨[],by simp,rfl,rfl⟩
 ·rintro k e s hk ⟨out,hout,rfl,rfl⟩ ih
  obtain ⟨hkl,hp,hnx⟩:=twG_at hk
  rw [← hout] at hnx
  have hg:=hat k hkl
  have hklt:((k:Int)<(pre.length:Int))=True:=by simp;exact hkl
  have hol:out.length≤k:=by rw [hout];simp;omega
  have hl1:(out.length+1≤1000000)=True:=eq_true (by omega)
  generalize pre[k]=y at hg hp hnx
  simp only [vqM,vt51,zA,zM,zL,kg9,hklt,decide_true,natle0,Int.toNat_natCast,hg,hp,hof _ _ _ (xe9 out),qp9,hl1,qc9]
  rw [kf9 (by omega)]
  refine kc9 [1,2,3,4,5,6] ?_
  simp only [vke,zB,zA]
  exact ih _ _ ⟨_,hnx.symm,by simp [ownF],rfl⟩
 ·rintro e s ⟨out,hout,rfl,rfl⟩
  rw [List.take_length] at hout
  generalize hWl:(pre.takeWhile fun d=>decide (d.id<x.id)).length=W at hW ⊢
  have hrel:=fun B k=>show St.relab ⟨B,liveN L c (k+1),c+(k+1)⟩ (.lab (c+k) 12)=⟨B,liveN L c (k+1+1),c+(k+1+1)⟩ from qp9 (k:=k+1)
  have hol:out.length=W:=by rw [hout];exact hWl
  have hl1:(out.length+1≤1000000)=True:=eq_true (by omega)
  have hofs:=fun B=>hof W _ B (xe9 out)
  have hcase:(W<pre.length∧∃ y:Df,(dfCells p.defs)[W]? = some y.cells∧decide (y.id<x.id)=false) ∨ ¬ W<pre.length:=by
   by_cases hWe:W<pre.length
   ·have hp:=twG_end (p:=fun d=>decide (d.id<x.id)) (l:=pre) (by rw [hWl];exact hWe)
    simp only [hWl] at hp
    exact .inl ⟨hWe,_,hat W hWe,hp⟩
   ·exact .inr hWe
  rcases hcase with ⟨hWe,y,hg,hp⟩ | hWe
  case' inl =>
   have hklt:((W:Int)<(pre.length:Int))=True:=by simp;exact hWe
   simp only [vqM,vt51,zA,zM,zL,kg9,hklt,decide_true,natle0,Int.toNat_natCast,hg,hp,hofs,qp9,hl1,qc9]
  case' inr =>
   have hklt:((W:Int)<(pre.length:Int))=False:=by simp;omega
   simp only [vqM,vt51,zA,zM,zL,kg9,hklt,decide_false,hofs,qp9,hl1,qc9]
  all_goals
   refine kc9 [1,2,3,4,5,7] ?_
   simp only [vke,zB,zA]
   refine km9 hmix pre.length (fun k e s=>∃ m ex:List Df,ex=(pre.take k).filter (fun d=>decide (d.id > x.id))∧m=out++[x]++ex∧e=[J,.box B.length 0,.box (B.length+1) 0,.int .i64 pre.length,.box (B.length+2) 0,.slice (ownF c 12 (W+1+ex.length)) (dfCells m),J,.int .i64 (k:Int),J,J,J,J,J,J,J,J,J,J,J,J,J,J,J,J,J,J,J,J,J,J,J,J,J,J,J,J,J,J,J,J,J,J,J,J,J,J,J,J,J,J,J,J,J,J,J,J,J,J,J,J,J,J,J,J,J,J,J,J,J,J,J,J]∧s=⟨B++[.cells p.cells,.cells Pg.zc,.cells x.cells],liveN L c (W+1+ex.length),c+(W+1+ex.length)⟩) ?_ ?_ 0 _ _ (Nat.zero_le _) ⟨_,[],by simp,rfl,by simp [ownF],rfl⟩
   ·rintro k e s hk ⟨m,ex,hex,hm,rfl,rfl⟩ ih
    have hx:pre[k]? = some pre[k]:=List.getElem?_eq_getElem hk
    have hgk:=hat k hk
    have hklt:((k:Int)<(pre.length:Int))=True:=by simp;exact hk
    have hnx:(pre.take (k+1)).filter (fun d=>decide (d.id > x.id))=if pre[k].id > x.id then ex++[pre[k]] else ex:=by
     rw [List.take_add_one,hx,Option.toList_some,List.filter_append,← hex]
     by_cases h:pre[k].id > x.id <;> simp [h]
    have hexl:ex.length≤k:=by rw [hex];exact Nat.le_trans (List.length_filter_le _ _) (by simp;omega)
    have hml:m.length=W+1+ex.length:=by rw [hm];simp [hol];omega
    have hl2:(m.length+1≤1000000)=True:=eq_true (by omega)
    have hofm:=fun B=>hof (W+1+ex.length) _ B (xe9 m)
    generalize pre[k]=z at hgk hnx
    have he1:W+1+(ex++[z]).length=W+1+ex.length+1:=by rw [List.length_append,List.length_singleton];omega
    simp only [vqM,vt51,zA,hklt,decide_true,natle0,Int.toNat_natCast,hgk]
    refine kb9 (fun hc=>?_) (fun hc=>?_)
    ·simp only [vqM,vt51,zA,zM,zL,kg9,natle0,Int.toNat_natCast,hgk,hofm,qp9,hl2,qc9]
     rw [kf9 (by omega)]
     refine kc9 [1,2,3,4,5,7] ?_
     simp only [vke,zB,zA]
     rw [if_pos (of_decide_eq_true hc)] at hnx
     refine ih _ _ ⟨m++[z],ex++[z],hnx.symm,by rw [hm];simp,?_,?_⟩
     ·rw [he1];rfl
     ·rw [he1]
    ·simp only [vqM]
     rw [kf9 (by omega)]
     refine kc9 [1,2,3,4,5,7] ?_
     simp only [vke,zB,zA]
     rw [if_neg (of_decide_eq_false hc)] at hnx
     exact ih _ _ ⟨m,ex,hnx.symm,hm,rfl,rfl⟩
   ·rintro e s ⟨m,ex,hex,hm,rfl,rfl⟩
    have hklt:((pre.length:Int)<(pre.length:Int))=False:=by simp
    rw [List.take_length] at hex
    have hmv:m=movedL pre x:=by rw [hm,hout,hex];rfl
    have hexl:ex.length≤pre.length:=by rw [hex];exact List.length_filter_le _ _
    have hml:m.length=W+1+ex.length:=by rw [hm];simp [hol];omega
    have hset:p.cells.take 8++D.slice (ownF c 12 (W+1+ex.length)) (dfCells m)::p.cells.drop 9=p.d.cells++[.slice .none (kr9 p.heads),.slice (ownF c 12 (W+1+ex.length)) (dfCells m),.slice .none (intCells p.threads)]:=rfl
    have hpl:(p.d.cells++[D.slice .none (kr9 p.heads),.slice (ownF c 12 (W+1+ex.length)) (dfCells m),.slice .none (intCells p.threads)]).map D.plain1=({ p with defs:=m }:Pg).cells:=rfl
    have hz:(10≤Pg.zc.length)=True:=by simp [Pg.zc]
    have hz2:List.drop 10 Pg.zc=[]:=rfl
    simp only [vqM,vt51,zA,zL,hklt,decide_false,hset,hpl]
    refine ka9 (t_WithHeads _ (by show m.length≤_;omega) _) ?_
    simp only [vqM,vt51,zA,hz,hz2]
    refine ke9 (.inr rfl) ?_ (kv9 (Pg.bd _)) (fun _ h=>wg9 h) (by omega)
    simp only [vqM,vt51]
    rw [hmv]
def calledB (p:Pg) (id:Int):Bool:=p.defs.any (fun d=>(callsR d).contains id) || p.threads.contains id
theorem t_called (p:Pg) (id:Int) (hl:p.defs.length≤1000) (hN:∀ d ∈ p.defs,cntL d.body<100000) (s:St):Spec Tryz.prog 92 [.agg p.cells,.int .i64 id] s (.bool (calledB p id)) s:=by
 obtain ⟨B,L,c⟩:=s
 refine Spec.introN [] Tryz.func92 rfl (by decide) hmix (by kernel_rfl) [ResultVar.tmp 4] 25 rfl rfl ?_
 simp only [vqM,zA,zS]
 refine kc9 [1,2,5] ?_
 simp only [vke,zB,zA]
 refine km9 hmix p.defs.length (fun k e s=>(p.defs.take k).any (fun d=>(callsR d).contains id)=false∧e=[J,.int .i64 id,.box B.length 0,J,J,.int .i64 (k:Int),J,J,J,J,J,J,J,J,J,J,J,J,J,J,J,J,J,J,J]∧s=⟨B++[.cells p.cells],L,c⟩) ?_ ?_ 0 _ _ (Nat.zero_le _) ⟨rfl,rfl,rfl⟩
 ·rintro k e s hk ⟨hI,rfl,rfl⟩ ih
  have hx:p.defs[k]? = some p.defs[k]:=List.getElem?_eq_getElem hk
  have hg:(dfCells p.defs)[k]? = some (p.defs[k].cells):=by simp [dfCells,hx]
  have hklt:((k:Int)<(p.defs.length:Int))=True:=by simp;exact hk
  have hmem:p.defs[k] ∈ p.defs:=List.getElem_mem hk
  have hNk:=hN _ hmem
  generalize p.defs[k]=d at hx hg hmem hNk
  simp only [vqM,vt88,zA,kg9,hklt,decide_true,natle0,Int.toNat_natCast,hg]
  refine ka9 (t_CallsR d hNk _) ?_
  simp only [vqM]
  refine ka9 (t_Has _ _ _) ?_
  simp only [vqM]
  refine kb9 (fun hc=>?_) (fun hc=>?_)
  ·simp only [vqM]
   refine ke9 (.inr rfl) ?_ (.bool _) (fun _ h=>h) (Nat.le_refl _)
   simp only [vqM]
   have:calledB p id=true:=by
    simp only [calledB,Bool.or_eq_true,List.any_eq_true]
    exact .inl ⟨d,hmem,hc⟩
   rw [this]
  ·simp only [vqM]
   rw [kf9 (by omega)]
   refine kc9 [1,2,5] ?_
   simp only [vke,zB,zA]
   refine ih _ _ ⟨?_,rfl,rfl⟩
   rw [List.take_add_one,hx,List.any_append,hI]
   simp only [Option.toList_some,List.any_cons,List.any_nil,Bool.or_false,Bool.false_or]
   exact hc
 ·rintro e s ⟨hI,rfl,rfl⟩
  have hklt:((p.defs.length:Int)<(p.defs.length:Int))=False:=by simp
  rw [List.take_length] at hI
  simp only [vqM,vt88,zA,kg9,hklt,decide_false]
  refine ka9 (t_Has _ _ _) ?_
  simp only [vqM]
  refine ke9 (.inr rfl) ?_ (.bool _) (fun _ h=>h) (Nat.le_refl _)
  simp only [vqM]
  rw [calledB,hI,Bool.false_or]
end Go.V
