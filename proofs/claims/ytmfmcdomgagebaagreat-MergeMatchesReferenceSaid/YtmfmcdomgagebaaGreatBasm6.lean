/-
  The value-level logic and its contracts, part 6 (texts S10, S11, S12, S13, S14, S15, L1, L2, M1, M4, N5, U1, L3, L4, P1, P2).
-/
import Derived.Test.YtmfmcdomgagebaaGreatBasm5
import Derived.Test.YtmfmcdomgagebaaGreatBasm3
set_option linter.all false
open Nat renaming reduceAdd → zA, reduceSub → zS, reduceMul → zM, reduceLeDiff → zL, reduceEqDiff → zE, reduceBEq → zB
open Go.V.D renaming junk → J
namespace Go.V
open Go.Proofs
set_option maxRecDepth 20000
set_option maxHeartbeats 2000000
theorem ret_cell {P:Program} {rs:List ResultVar} {B T X:List Box} {L L':List Nat} {c c':Nat} {xs ys:List D} {r:D} {e:List D} {x:Exit} (hx:x=.normal∨x=.ret) (h1:(resD P e ⟨B++.cells ys::(T++X),L',c'⟩ rs).map tupD=some r) (hb:Bd 0 0 r) (hy:∀ d ∈ ys,Bd 0 0 d) (hl:∀ k,k ∈ L→k ∈ L') (hc:c≤c') :
  @qI x e ⟨B++.cells ys::(T++X),L',c'⟩ (retC P rs ⟨B++.cells xs::T,L,c⟩ r ⟨B++.cells ys::T,L,c⟩):=by
 unfold retC
 obtain ⟨ds,h1,h2⟩:=Option.map_eq_some_iff.1 h1
 rcases hx with rfl | rfl <;> exact ⟨ds,h1,h2,leave_one (fun nb=>fun d hd=>.inr ((hy d hd).mono (Nat.zero_le _) (Nat.zero_le _))) hl hc,hb.mono (Nat.zero_le _) (Nat.zero_le _)⟩
theorem ret_cell2 {P:Program} {rs:List ResultVar} {B T X:List Box} {z:Box} {L L':List Nat} {c c':Nat} {xs ys:List D} {r:D} {e:List D} {x:Exit} (hx:x=.normal∨x=.ret) (h1:(resD P e ⟨B++z::.cells ys::(T++X),L',c'⟩ rs).map tupD=some r) (hb:Bd 0 0 r) (hy:∀ d ∈ ys,Bd 0 0 d) (hl:∀ k,k ∈ L→k ∈ L') (hc:c≤c') :
  @qI x e ⟨B++z::.cells ys::(T++X),L',c'⟩ (retC P rs ⟨B++z::.cells xs::T,L,c⟩ r ⟨B++z::.cells ys::T,L,c⟩):=by
 have e1:∀ q:List Box,(B++[z])++q=B++z::q:=by simp
 have:=ret_cell (P:=P) (rs:=rs) (B:=B++[z]) (T:=T) (X:=X) (L:=L) (L':=L') (c:=c) (c':=c') (xs:=xs) (ys:=ys) (r:=r) (e:=e) hx (by rw [e1];exact h1) hb hy hl hc
 rw [e1,e1,e1] at this
 exact this
def headOk (p:Pg) (last:Int) (h:Hd):Bool :=
 inB h.id (w64 (last+1)) 1073741824 && inB h.firm 0 (w64 (p.d.firms - 1)) && inB h.part 0 (w64 (p.d.parts - 1)) && qy9 h.params 12 ku9 && qy9 h.given 4 ku9
theorem t_heads1 (p:Pg) (h:Hd) (last:Int) (B X:List Box) (L:List Nat) (c:Nat) :
  Spec Tryz.prog 77 [.agg h.cells,.box (B.length+1) 0,.box B.length 0] ⟨B++.cells p.cells::.cells [.int .i64 last]::X,L,c⟩ (.bool (headOk p last h)) ⟨B++.cells p.cells::.cells [.int .i64 h.id]::X,L,c⟩:=by
 refine Spec.introN [(1,.cut)] Tryz.func77 rfl (by decide) hmix (by kernel_rfl) [ResultVar.tmp 4] 42 rfl rfl ?_
 simp only [vqM,zA,zS,zB]
 refine qe9 hmix [1,3,5] [J,.box (B.length+1) 0,J,.box (B.length+(X.length+2)) 0,J,.bool (headOk p last h),J,J,J,J,J,J,J,J,J,J,J,J,J,J,J,J,J,J,J,J,J,J,J,J,J,J,J,J,J,J,J,J,J,J,J,J] (fun s=>s=⟨B++.cells p.cells::.cells [.int .i64 last]::(X++[.cells h.cells]),L,c⟩) ?_ ?_
 ·simp only [vqM,vt53,zA,wv9]
  repeat' (first
   | ((with_reducible refine kh9 ?_);refine ka9 (t_in _ _ _ _) ?_;simp only [vqM])
   | ((with_reducible refine kh9 ?_);refine ka9 (t_everyRg _ ku9 _ _ _ _ _ rfl rfl rfl fun x _ Y=>c_rightRange x _) ?_;simp only [vqM])
   | (with_reducible refine kb9 (fun hc=>?_) (fun hc=>?_) <;> simp only [vqM,vt53,hc,zA,wv9])
   | ((with_reducible refine is_q ?_);refine kj9 ⟨?_,rfl⟩ <;> simp only [vke,zB,zA] <;> (first | (simp only [headOk, *,Bool.true_and,Bool.false_and,Bool.and_true,Bool.and_false];done) | (simp_all [headOk];done) | (simp_all [headOk];omega))))
 rintro s rfl
 simp only [vqM,vt53,zA,zB]
 refine ret_cell2 (.inr rfl) ?_ (.bool _) (fun d hd=>by simp at hd;subst hd;exact .int _ _) (fun _ h=>h) (Nat.le_refl _)
 simp only [vqM]
theorem t_idxHd (f:D) (q:Nat→Bool) (l:List Hd) (S:Nat→St) (hp:∀ k x,l[k]? = some x→xo9 Tryz.prog f [.agg x.cells] (S k) (.bool (q k)) (S (k+1))) :
  SpecQ Tryz.prog 144 [.slice .none (kr9 l),f] (S 0) fun r s=>∃ n:Int,r=.int .i64 n∧(∃ k,s=S k)∧decide (n ≥ 0)=(List.range l.length).any q:=by
 refine SpecQ.small fun hsm=>?_
 have hlen:=(hsm _ (.head _)).len
 rw [ki9] at hlen
 clear hsm
 refine SpecQ.introA [] Tryz.func144 rfl (by decide) hmix (by kernel_rfl) [ResultVar.tmp 4] 19 rfl rfl ?_
 simp only [vqM,vt54,zA,zS,ki9]
 refine kc9 [0,1,7,8] ?_
 simp only [vke,zB,zA]
 refine xc9 hmix l.length (fun k=>[.slice .none (kr9 l),f,J,J,J,J,J,.int .i64 l.length,.int .i64 (k:Int),J,J,J,J,J,J,J,J,J,J]) S (fun k=>∀ j,j<k→q j=false) ?_ ?_ 0 (Nat.zero_le _) (by intro j h;omega)
 ·intro k hk hI ih
  have hx:l[k]? = some l[k]:=List.getElem?_eq_getElem hk
  have hg:(kr9 l)[k]? = some (l[k].cells):=by simp [kr9,hx]
  have hklt:((k:Int)<(l.length:Int))=True:=by simp;exact hk
  simp only [vqM,vt54,hklt,decide_true,natle0,Int.toNat_natCast,hg]
  refine wz9 (hp _ _ hx) ?_
  simp only [vqM]
  refine kb9 (fun hc=>?_) (fun hc=>?_)
  ·simp only [vqM]
   refine retA (.inr rfl) (r:=.int .i64 k) ?_ ⟨k,rfl,⟨_,rfl⟩,?_⟩
   ·simp only [vqM]
   ·have:(List.range l.length).any q=true:=List.any_eq_true.2 ⟨k,List.mem_range.2 hk,hc⟩
    rw [this];simp
  ·simp only [vqM]
   rw [kf9 (by omega)]
   refine kc9 [0,1,7,8] ?_
   simp only [vke,zB,zA]
   refine ih fun j hjk=>?_
   by_cases e:j=k
   ·subst e;exact hc
   ·exact hI j (by omega)
 ·intro hI
  have hklt:((l.length:Int)<(l.length:Int))=False:=by simp
  simp only [vqM,hklt,decide_false]
  refine retA (.inr rfl) (r:=.int .i64 (-1)) ?_ ⟨_,rfl,⟨_,rfl⟩,?_⟩
  ·simp only [vqM]
  ·have:(List.range l.length).any q=false:=List.any_eq_false.2 fun j hj=>by simpa using hI j (List.mem_range.1 hj)
   rw [this];simp
theorem t_conHd (f:D) (hfp:f.plain=f) (q:Nat→Bool) (l:List Hd) (S:Nat→St) (hp:∀ k x,l[k]? = some x→xo9 Tryz.prog f [.agg x.cells] (S k) (.bool (q k)) (S (k+1))) :
  SpecQ Tryz.prog 116 [.slice .none (kr9 l),f] (S 0) fun r s=>(∃ k,s=S k)∧r=.bool ((List.range l.length).any q):=by
 refine SpecQ.introA [] Tryz.func116 rfl (by decide) hmix (by kernel_rfl) [ResultVar.tmp 4] 9 rfl rfl ?_
 simp only [vqM,zA,zS,hfp]
 refine qo9 (t_idxHd f q l S hp) ?_
 rintro r s ⟨n,rfl,hs,hn⟩
 simp only [vqM]
 refine retA (.inr rfl) (r:=.bool ((List.range l.length).any q)) ?_ ⟨hs,rfl⟩
 simp only [vqM]
 rw [hn]
def hdF (n:Nat):D:=.func (.func 77) [] [.box (n+1) 0,.box n 0]
theorem t_everyHd1 (p:Pg) (x:Hd) (a:Int) (B:List Box) (L:List Nat) (c:Nat) :
  Spec Tryz.prog 117 [.agg x.cells,.box (B.length+2) 0] ⟨B++[.cells p.cells,.cells [.int .i64 a],.cells [hdF B.length]],L,c⟩ (.bool (!headOk p a x)) ⟨B++[.cells p.cells,.cells [.int .i64 x.id],.cells [hdF B.length]],L,c⟩:=by
 refine Spec.introN [] Tryz.func117 rfl (by decide) hmix (by kernel_rfl) [ResultVar.tmp 3] 8 rfl rfl ?_
 simp only [vqM,vt55,zA,zS,hdF]
 refine wz9 (t_heads1 p x a B _ L c) ?_
 simp only [vqM]
 refine ret_cell2 (T:=[_]) (.inr rfl) ?_ (.bool _) (fun d hd=>by simp at hd;subst hd;exact .int _ _) (fun _ h=>h) (Nat.le_refl _)
 simp only [vqM]
def xj9 (l:List Hd):Nat→Int
 | 0=>0
 | k+1=>match l[k]? with
  | some h=>h.id
  | none=>0
def headsQ (p:Pg) (k:Nat):Bool:=match p.heads[k]? with
 | some h=>!headOk p (xj9 p.heads k) h
 | none=>false
def headsB (p:Pg):Bool:=decide ((p.heads.length:Int)≤40) && !(List.range p.heads.length).any (headsQ p)
theorem t_everyHd (p:Pg) (B:List Box) (L:List Nat) (c:Nat) :
  SpecQ Tryz.prog 76 [.slice .none (kr9 p.heads),.int .i64 40,hdF B.length] ⟨B++[.cells p.cells,.cells [.int .i64 0]],L,c⟩ fun r s=>r=.bool (headsB p)∧∃ X,s=⟨B++X,L,c⟩:=by
 refine SpecQ.introA [] Tryz.func76 rfl (by decide) hmix (by kernel_rfl) [ResultVar.tmp 6] 17 rfl rfl ?_
 simp only [vqM,vt56,zA,zS,hdF,ki9]
 refine kb9 (fun hc=>?_) (fun hc=>?_)
 ·simp only [vqM,hc]
  refine qo9 (t_conHd _ rfl (headsQ p) p.heads (fun k=>⟨B++[.cells p.cells,.cells [.int .i64 (xj9 p.heads k)],.cells [hdF B.length]],L,c⟩) fun k x hx=>?_) ?_
  ·have h1:headsQ p k = !headOk p (xj9 p.heads k) x:=by simp [headsQ,hx]
   have h2:xj9 p.heads (k+1)=x.id:=by simp [xj9,hx]
   rw [h1,h2]
   exact t_everyHd1 p x (xj9 p.heads k) B L c
  ·rintro r s ⟨⟨k,rfl⟩,rfl⟩
   simp only [vqM,hdF]
   refine retA (.inr rfl) (r:=.bool (headsB p)) ?_ ⟨rfl,_,rfl⟩
   simp only [vqM]
   simp [headsB,hc]
 ·simp only [vqM,hc]
  refine retA (.inr rfl) (r:=.bool (headsB p)) ?_ ⟨rfl,_,rfl⟩
  simp only [vqM]
  simp [headsB,hc]
theorem t_rightHeads (p:Pg) (s:St):Spec Tryz.prog 39 [.agg p.cells] s (.bool (headsB p)) s:=by
 obtain ⟨B,L,c⟩:=s
 refine Spec.introN [] Tryz.func39 rfl (by decide) hmix (by kernel_rfl) [ResultVar.tmp 2] 8 rfl rfl ?_
 simp only [vqM,vt52,zA,zS]
 refine qo9 (t_everyHd p B L c) ?_
 rintro r s ⟨rfl,X,rfl⟩
 simp only [vqM]
 refine ke9 (.inr rfl) ?_ (.bool _) (fun _ h=>h) (Nat.le_refl _)
 simp only [vqM]
theorem seq_joinS {X:Draws} {ro:Option Nat} {P:Program} {a b:Code} {e:List D} {s:St} {Q:QC} (hm:P.follows .mixedOrders=true) (ks:List Nat) (E:List D)
  (h:@cwNI X ro P a e s (meetC fun e s'=>keep ks e=E∧s'=s)) (hI:@cwNI X ro P b E s Q):@seqI true X ro P a b e s Q :=
 qe9 hm ks E (fun s'=>s'=s) h fun s' hs=>by subst hs;exact hI
def hdG (p:Pg) (id:Int):Hd:=(headS p id).getD Hd.zero
def otherB (p:Pg) (d:Df):Bool :=
 !(headS p d.id).isSome || decide ((hdG p d.id).firm≠d.firm) || decide ((hdG p d.id).part≠d.part) || !decide ((hdG p d.id).params=d.params) || !decide ((hdG p d.id).given=d.given)
def wrongB (p:Pg) (x:Sm):Bool :=
 !(headS p x.m).isSome || decide (((hdG p x.m).params.length:Int)≠x.args.length) || decide (((hdG p x.m).given.length:Int)≠x.ptrs.length)
def callB (p:Pg) (x:Sm):Bool:=decide (x.op≠13) || !wrongB p x
def rightB (p:Pg) (d:Df):Bool:=defB d p.d && !otherB p d && (flatL 1 d.body).all fun q=>callB p q.s
theorem t_rightDef (p:Pg) (d:Df) (hnm:d.name.size≤1000000000) (s:St):Spec Tryz.prog 40 [.agg p.cells,.agg d.cells] s (.bool (rightB p d)) s:=by
 obtain ⟨B,L,c⟩:=s
 refine Spec.introN [(4,.cut),(10,.cut)] Tryz.func40 rfl (by decide) hmix (by kernel_rfl) [ResultVar.cell 4 4] 92 rfl rfl ?_
 simp only [vqM,vt57,zA,zS,zL,zB]
 refine ka9 (t_Def d p.d hnm _) ?_
 simp only [vqM]
 refine kb9 (fun hc=>?_) (fun hc=>?_)
 ·have hd:defB d p.d=false:=by cases h:defB d p.d <;> simp [h] at hc ⊢
  simp only [vqM,vt57,zA,zB]
  refine ke9 (.inr rfl) ?_ (.bool _) (fun _ h=>h) (Nat.le_refl _)
  simp only [vqM,vt57]
  simp [rightB,hd]
 have hd:defB d p.d=true:=by cases h:defB d p.d <;> simp [h] at hc ⊢
 clear hc
 simp only [vqM,vt57,zA,zB]
 refine ka9 (t_HeadOf p d.id _) ?_
 simp only [vqM,vt57,zA,zB,headSD]
 refine qe9 hmix [2,3,4,53] [J,J,.box B.length 0,.box (B.length+1) 0,.box (B.length+2) 0,J,J,J,J,J,J,J,J,J,J,J,J,J,J,J,J,J,J,J,J,J,J,J,J,J,J,J,J,J,J,J,J,J,J,J,J,J,J,J,J,J,J,J,J,J,J,J,J,.bool (otherB p d),J,J,J,J,J,J,J,J,J,J,J,J,J,J,J,J,J,J,J,J,J,J,J,J,J,J,J,J,J,J,J,J,J,J,J,J,J,J] (fun s=>s=⟨B++[.cells p.cells,.cells d.cells,.cells [.bool false],.cells ((headS p d.id).getD Hd.zero).cells],L,c⟩) ?_ ?_
 ·simp only [vqM]
  repeat' (first
   | ((with_reducible refine kh9 ?_);refine ka9 (t_Equal _ _ _) ?_;simp only [vqM])
   | (with_reducible refine kb9 (fun hc=>?_) (fun hc=>?_) <;> simp only [vqM,vt57,hc,zA])
   | ((with_reducible refine is_q ?_);refine kj9 ⟨?_,rfl⟩ <;> simp only [vke,zB,zA] <;> (first | (simp only [otherB,hdG, *,Bool.true_or,Bool.false_or];done) | (simp_all [otherB,hdG];done) | (simp_all [otherB,hdG];omega))))
  refine kj9 ⟨?_,rfl⟩
  simp only [vke,zB,zA]
  simp only [otherB,hdG, *,Bool.false_or]
  simp only [List.cons.injEq,and_true,true_and,D.bool.injEq]
  simp_all
  exact decide_eq_decide.2 Iff.rfl
 rintro s rfl
 simp only [vqM]
 refine kb9 (fun hc=>?_) (fun hc=>?_)
 ·have hl:otherB p d=true:=hc
  simp only [vqM,vt57,zA,zB]
  refine ke9 (.inr rfl) ?_ (.bool _) (fun _ h=>h) (Nat.le_refl _)
  simp only [vqM,vt57]
  simp [rightB,hl]
 have hl:otherB p d=false:=hc
 clear hc
 have hR:rightB p d=(flatL 1 d.body).all fun q=>callB p q.s:=by simp [rightB,hd,hl]
 rw [hR]
 simp only [vqM,vt57,zA,zB]
 refine ka9 (t_all _ _ _ _ _) ?_
 simp only [vqM,zA]
 refine range_allP (B.length+4) (B.length+4+1) d.body 1 (fun _=>_) (fun _=>L) (fun _=>c)
  (fun C' L' c' x=>((flatL 1 d.body).all fun q=>callB p q.s)=false∧C'=B++[.cells p.cells,.cells d.cells,.cells [.bool false],.cells ((headS p d.id).getD Hd.zero).cells,.cells [.slice .none (Sm.encs d.body)],.cells [.int .i64 1]]∧L'=L∧c'=c∧x=.ret)
  (fun k=>∀ j<k,∀ q,(flatL 1 d.body)[j]? = some q→callB p q.s=true) ?_ ?_ ?_ rfl (fun _=>rfl) rfl rfl (fun j hj=>by omega) ?_ ?_ ?_
 ·rfl
 ·rw [wi9];rfl
 ·rw [Nat.add_assoc,wi9];rfl
 ·intro q1 q2 k q Y hk hj
  refine YSemQ.introA hmix q1 q2 (pd:=none) (by rw [wd9];rfl) (by rfl) fun l=>?_
  simp only [vqM,vt57,zA,putArgs,vsPl]
  clear q1 q2
  refine qI_assignA (pd1:=none) (by simp only [vqM,zA]) ?_
  simp only [vqM,vt57,zA,zB,vsPl]
  refine kb9 (fun hc=>?_) (fun hc=>?_)
  ·simp only [vqM]
   refine ww9 (st:=.busy) (pd:=none) (by simp only [vqM]) ?_
   have hcb:callB p q.s=true:=by simp [callB,hc]
   refine ⟨_,_,_,[.cells q.cells],.inl ⟨rfl,rfl,rfl,rfl,?_,?_⟩⟩
   ·intro j hjk q' hq
    by_cases e:j=k
    ·subst e;rw [hk] at hq;cases hq;exact hcb
    ·exact hj j (by omega) q' hq
   ·simp only [vqM]
  have hop:decide (q.s.op≠13)=false:=hc
  simp only [vqM,vt57,zA,zB,vsPl]
  refine ka9 (t_HeadOf p q.s.m _) ?_
  simp only [vqM,vt57,zA,zB,headSD]
  refine seq_joinS hmix [2,3,4,91] [J,J,.box B.length 0,.box (B.length+1) 0,.box (B.length+2) 0,J,J,J,J,J,J,J,J,J,J,J,J,J,J,J,J,J,J,J,J,J,J,J,J,J,J,J,J,J,J,J,J,J,J,J,J,J,J,J,J,J,J,J,J,J,J,J,J,J,J,J,J,J,J,J,J,J,J,J,J,J,J,J,J,J,J,J,J,J,J,J,J,J,J,J,J,J,J,J,J,J,J,J,J,J,J,.bool (wrongB p q.s)] ?_ ?_
  ·simp only [vqM]
   repeat' (first
    | (with_reducible refine kb9 (fun hc=>?_) (fun hc=>?_) <;> simp only [vqM,vt57,hc,zA,vsPl,kk9,kn9,kd9])
    | ((with_reducible refine is_q ?_);refine kj9 ⟨?_,rfl⟩ <;> simp only [vke,zB,zA] <;> (first | (simp only [wrongB,hdG, *,Bool.true_or,Bool.false_or];done) | (simp_all [wrongB,hdG];done) | (simp_all [wrongB,hdG];omega))))
   refine kj9 ⟨?_,rfl⟩
   simp only [vke,zB,zA]
   simp only [wrongB,hdG, *,Bool.false_or]
   simp only [List.cons.injEq,and_true,true_and,D.bool.injEq]
   simp_all
   by_cases hg:(((headS p q.s.m).getD Hd.zero).given.length:Int)=q.s.ptrs.length <;> simp [hg]
  simp only [vqM]
  refine kb9 (fun hc=>?_) (fun hc=>?_)
  ·simp only [vqM,vt57,zA,zB]
   refine roundA_ret (st:=.busy) (pd:=none) (by simp only [vqM]) ?_
   have hcb:callB p q.s=false:=by simp [callB,hop,hc]
   refine ⟨_,_,_,[.cells q.cells,.cells ((headS p q.s.m).getD Hd.zero).cells],.inr ⟨rfl,.ret,?_,⟨?_,rfl,rfl,rfl,rfl⟩,?_⟩⟩
   ·simp only [List.length_append,List.length_cons,List.length_nil]
   ·exact List.all_eq_false.2 ⟨q,List.mem_of_getElem? hk,by simp [hcb]⟩
   ·simp only [vqM]
  ·simp only [vqM]
   refine ww9 (st:=.busy) (pd:=none) (by simp only [vqM]) ?_
   have hcb:callB p q.s=true:=by simp [callB,hc]
   refine ⟨_,_,_,[.cells q.cells,.cells ((headS p q.s.m).getD Hd.zero).cells],.inl ⟨rfl,rfl,rfl,rfl,?_,?_⟩⟩
   ·intro j hjk q' hq
    by_cases e:j=k
    ·subst e;rw [hk] at hq;cases hq;exact hcb
    ·exact hj j (by omega) q' hq
   ·simp only [vqM]
 ·intro Y hj
  have hall:((flatL 1 d.body).all fun q=>callB p q.s)=true:=List.all_eq_true.2 fun q hq=>by
   obtain ⟨j,hj2,rfl⟩:=List.getElem_of_mem hq
   exact hj j hj2 _ (List.getElem?_eq_getElem hj2)
  simp only [vqM,vt57,zA,zB]
  refine ke9 (.inr rfl) ?_ (.bool _) (fun _ h=>h) (Nat.le_refl _)
  simp only [vqM,vt57,hall]
 ·rintro C' L' c' x Y - ⟨hall,rfl,rfl,rfl,rfl⟩
  simp only [vqM]
  refine ke9 (.inr rfl) ?_ (.bool _) (fun _ h=>h) (Nat.le_refl _)
  simp only [vqM,vt57,hall]
theorem t_isNaN (x:Int) (s:St):Spec Tryz.prog 168 [.int .i64 x] s (.bool false) s:=by
 refine Spec.introN [] Tryz.func168 rfl (by decide) hmix (by kernel_rfl) [ResultVar.tmp 2] 6 rfl rfl ?_
 simp only [vqM,zA,zS]
 refine ko9 (.inr rfl) ?_ (.bool _)
 simp only [vqM]
 simp
theorem t_Less (x y:Int) (s:St):Spec Tryz.prog 134 [.int .i64 x,.int .i64 y] s (.bool (decide (x<y))) s:=by
 refine Spec.introN [] Tryz.func134 rfl (by decide) hmix (by kernel_rfl) [ResultVar.tmp 4] 17 rfl rfl ?_
 simp only [vqM,zA,zS]
 repeat' (first
  | ((with_reducible refine kh9 ?_);refine ka9 (t_isNaN _ _) ?_;simp only [vqM])
  | (with_reducible refine kb9 (fun hc=>?_) (fun hc=>?_) <;> simp only [vqM,vt58,hc,zA,zS,zM,zL,zE,zB,reduceCtorEq])
  | ((with_reducible refine is_q ?_);refine ko9 (.inr rfl) ?_ (.bool _) <;> (try simp only [vqM]) <;> (first | (simp only [*,Bool.true_and,Bool.false_and,Bool.and_true,Bool.and_false,Bool.true_or,Bool.false_or,Bool.or_true,Bool.or_false,Bool.not_true,Bool.not_false,cond_true,cond_false,if_true,if_false];done) | (simp_all [];done) | (simp_all [];omega))))
theorem getBI_of {b:ByteArray} {n:Nat} {s:St} {K:DC} (h:n<b.size) (hK:∀ c:UInt8,@dI (.int .u8 c.toNat) s K):@getBI b[n]? s K:=⟨b[n],by simp [h],hK _⟩
theorem t_Len64 (n:Nat) (hn:n≤12) (s:St):SpecQ Tryz.prog 138 [.int .u64 n] s fun r s'=>s'=s∧∃ k,r=.int .i64 k:=by
 refine SpecQ.introA [] Tryz.func138 rfl (by decide) hmix (by kernel_rfl) [ResultVar.tmp 2] 25 rfl rfl ?_
 have h1:decide ((n:Int) ≥ 4294967296)=false:=by simp;omega
 have h2:decide ((n:Int) ≥ 65536)=false:=by simp;omega
 have h3:decide ((n:Int) ≥ 256)=false:=by simp;omega
 simp only [vqM,vt59,zA,zS,h1,h2,h3]
 have hw:IntKind.u8.wrap (n:Int)=n:=(by decide:∀ n<13,IntKind.u8.wrap ((n:Nat):Int)=n) n (by omega)
 simp only [vqM,hw,natle0,Int.toNat_natCast]
 refine getBI_of (by show n<256;omega) fun k=>?_
 simp only [vqM,vt59]
 refine retA (.inr rfl) (r:=.int .i64 (IntKind.i64.wrap (0+IntKind.i64.wrap (k.toNat:Int)))) ?_ ⟨rfl,_,rfl⟩
 simp only [vqM]
theorem t_Len (n:Nat) (hn:n≤12) (s:St):SpecQ Tryz.prog 105 [.int .u64 n] s fun r s'=>s'=s∧∃ k,r=.int .i64 k:=by
 refine SpecQ.introA [] Tryz.func105 rfl (by decide) hmix (by kernel_rfl) [ResultVar.tmp 2] 8 rfl rfl ?_
 simp only [vqM,zA,zS]
 refine qo9 (t_Len64 n hn _) ?_
 rintro r s' ⟨rfl,k,rfl⟩
 simp only [vqM]
 refine retA (.inr rfl) (r:=.int .i64 k) ?_ ⟨rfl,_,rfl⟩
 simp only [vqM]
def ints (l:List Int):List D:=l.map (.int .i64 ·)
theorem ints_at (p q:List Int) (x:Int):((ints (p++x::q)).drop p.length)[0]? = some (.int .i64 x):=by simp [ints]
structure Ins (l:List Int) (i:Nat) (k:Nat) (l':List Int):Prop where
 perm:l'.Perm l
 form:∃ p x q r,l'=p++x::q++r∧p.length=i - k∧(p++q).length=i∧(p++q).Pairwise (· ≤ ·)∧∀ y ∈ q,x≤y
theorem ins_start {l l':List Int} {i:Nat} (hp:l'.Perm l) (hs:(l'.take i).Pairwise (· ≤ ·)) (hi:i<l'.length):Ins l i 0 l':=by
 refine ⟨hp,l'.take i,l'[i],[],l'.drop (i+1),?_,?_,?_,by simpa using hs,by simp⟩
 ·rw [List.append_assoc,List.cons_append,List.nil_append,← List.drop_eq_getElem_cons hi,List.take_append_drop]
 ·simp;omega
 ·simp;omega
theorem ins_end {p q r:List Int} {x:Int} (hs:(p++q).Pairwise (· ≤ ·)) (hx:∀ y ∈ q,x≤y) (hl:∀ p0 y,p=p0++[y]→y≤x):((p++x::q++r).take ((p++q).length+1)).Pairwise (· ≤ ·):=by
 have e:(p++x::q++r).take ((p++q).length+1)=p++x::q:=by
  rw [List.take_append_of_le_length (by simp;omega),List.take_of_length_le (by simp;omega)]
 rw [e]
 obtain ⟨h1,h2,h3⟩:=List.pairwise_append.1 hs
 refine List.pairwise_append.2 ⟨h1,List.pairwise_cons.2 ⟨hx,h2⟩,fun a ha b hb=>?_⟩
 rcases List.mem_cons.1 hb with rfl | hb
 ·rcases List.eq_nil_or_concat p with rfl | ⟨p0,y,rfl⟩
  ·simp at ha
  ·rw [List.concat_eq_append] at *
   have hy:=hl p0 y rfl
   obtain ⟨_,_,h4⟩:=List.pairwise_append.1 h1
   rcases List.mem_append.1 ha with ha | ha
   ·exact Int.le_trans (h4 a ha y (by simp)) hy
   ·simp at ha;subst ha;exact hy
 ·exact h3 a ha b hb
theorem ins_step {l:List Int} {i k:Nat} {p q r:List Int} {y x:Int} (hp:(p++[y]++x::q++r).Perm l) (h1:(p++[y]).length=i - k) (h2:(p++[y]++q).length=i) (hs:(p++[y]++q).Pairwise (· ≤ ·)) (hx:∀ z ∈ q,x≤z) (hlt:x<y):Ins l i (k+1) (p++x::(y::q)++r):=by
 refine ⟨?_,p,x,y::q,r,rfl,by simp at h1;omega,by simpa using h2,by simpa using hs,fun z hz=>?_⟩
 ·refine List.Perm.trans ?_ hp
  simp only [List.append_assoc,List.cons_append,List.nil_append]
  exact List.Perm.append_left p (List.Perm.swap _ _ _)
 ·rcases List.mem_cons.1 hz with rfl | hz
  ·omega
  ·exact hx z hz
theorem set_ints (p t:List Int) (z x:Int):(ints (p++z::t)).take p.length++D.int .i64 x::(ints (p++z::t)).drop (p.length+1)=ints (p++x::t):=by
 simp [ints,List.drop_append]
theorem ins_last {l l':List Int} {i k:Nat} (h:Ins l i k l') (hk:i≤k):l'.Perm l∧(l'.take (i+1)).Pairwise (· ≤ ·):=by
 obtain ⟨hp,p,x,q,r,rfl,h1,h2,h3,h4⟩:=h
 refine ⟨hp,?_⟩
 have:p=[]:=List.eq_nil_of_length_eq_zero (by omega)
 subst this
 have:=ins_end (r:=r) h3 h4 (fun p0 y e=>by simp at e)
 rw [h2] at this;exact this
theorem t_insert (l:List Int) (B T:List Box) (L:List Nat) (c:Nat) (hn:l.length≤12):SpecQ Tryz.prog 128 [.row B.length 0 l.length 1,.int .i64 0,.int .i64 l.length] ⟨B++.cells (ints l)::T,L,c⟩
  fun r s=>r=.tup []∧∃ l',l'.Perm l∧l'.Pairwise (· ≤ ·)∧s=⟨B++.cells (ints l')::T,L,c⟩:=by
 refine SpecQ.introA [] Tryz.func128 rfl (by decide) hmix (by kernel_rfl) [] 49 rfl rfl ?_
 have w1:IntKind.i64.wrap (0+1)=1:=by decide
 simp only [vqM,zA,zS,w1]
 refine kc9 [0,1,2,6] ?_
 simp only [vke,zB,zA]
 refine km9 hmix (l.length - 1) (fun k e s=>e=[.row B.length 0 l.length 1,.int .i64 0,.int .i64 l.length,J,J,J,.int .i64 ((k+1:Nat):Int),J,J,J,J,J,J,J,J,J,J,J,J,J,J,J,J,J,J,J,J,J,J,J,J,J,J,J,J,J,J,J,J,J,J,J,J,J,J,J,J,J,J]∧∃ l',l'.Perm l∧(l'.take (k+1)).Pairwise (· ≤ ·)∧s=⟨B++.cells (ints l')::T,L,c⟩) ?_ ?_ 0 _ _ (Nat.zero_le _) ⟨rfl,l,.refl _,?_,rfl⟩
 ·rintro k e s hk ⟨rfl,l1,hp1,hs1,rfl⟩ ih
  have hll:=hp1.length_eq
  have hlt:decide (((k+1:Nat):Int)<(l.length:Int))=true:=by simp;omega
  simp only [vqM,hlt]
  refine kc9 [0,1,2,6,7] ?_
  simp only [vke,zB,zA]
  refine km9 hmix (k+1) (fun m e s=>e=[.row B.length 0 l.length 1,.int .i64 0,.int .i64 l.length,J,J,J,.int .i64 ((k+1:Nat):Int),.int .i64 ((k+1 - m:Nat):Int),J,J,J,J,J,J,J,J,J,J,J,J,J,J,J,J,J,J,J,J,J,J,J,J,J,J,J,J,J,J,J,J,J,J,J,J,J,J,J,J,J]∧∃ l',Ins l (k+1) m l'∧s=⟨B++.cells (ints l')::T,L,c⟩) ?_ ?_ 0 _ _ (Nat.zero_le _) ⟨rfl,l1,ins_start hp1 hs1 (by omega),rfl⟩
  ·rintro m e s hm ⟨rfl,l2,⟨hp2,p,x,q,r,rfl,h1,h2,h3,h4⟩,rfl⟩ ih2
   rcases List.eq_nil_or_concat p with rfl | ⟨p0,y,rfl⟩
   ·simp at h1;omega
   rw [List.concat_eq_append] at *
   have hj:k+1 - m=p0.length+1:=by simp at h1;omega
   have hlen:=hp2.length_eq
   simp only [List.length_append,List.length_cons,List.length_nil] at hlen
   have a1:IntKind.i64.wrap (((p0.length+1:Nat):Int) - 1)=(p0.length:Int):=(ky9 (by omega)).trans (by omega)
   have a2:(0≤((p0.length+1:Nat):Int)∧((p0.length+1:Nat):Int)<(l.length:Int))=True:=by simp;omega
   have a3:(0≤(p0.length:Int)∧(p0.length:Int)<(l.length:Int))=True:=by simp;omega
   have a4:decide (((p0.length+1:Nat):Int) > 0)=true:=by simp
   have e0:p0++[y]++x::q++r=p0++y::x::(q++r):=by simp
   have b1:((ints (p0++y::x::(q++r))).drop (p0.length+1))[0]? = some (.int .i64 x):=by
    have:=ints_at (p0++[y]) (q++r) x;simpa using this
   have b2:((ints (p0++y::x::(q++r))).drop p0.length)[0]? = some (.int .i64 y):=by
    have:=ints_at p0 (x::q++r) y;simpa using this
   have c1:(ints (p0++y::x::(q++r))).take (p0.length+1)++D.int .i64 y::(ints (p0++y::x::(q++r))).drop (p0.length+1+1)=ints (p0++y::y::(q++r)):=by
    have:=set_ints (p0++[y]) (q++r) x y;simpa using this
   have c2:=set_ints p0 (y::(q++r)) y x
   have a5:(p0.length+1+1≤(ints (p0++y::x::(q++r))).length)=True:=by simp [ints];omega
   have a6:(p0.length+1≤(ints (p0++y::y::(q++r))).length)=True:=by simp [ints]
   have e1:p0++x::(y::q)++r=p0++x::y::(q++r):=by simp
   rw [hj]
   simp only [vqM,vt25,a1,a2,a3,a4,b1,b2,Int.toNat_natCast,Nat.mul_one,Nat.zero_add]
   refine ka9 (t_Less x y _) ?_
   simp only [vqM]
   refine kb9 (fun hc=>?_) (fun hc=>?_)
   ·simp only [vqM,vt25,a1,a2,a3,a5,a6,b1,b2,c1,c2,Int.toNat_natCast,Nat.mul_one,Nat.zero_add]
    have hlt2:x<y:=by simpa using hc
    refine kc9 [0,1,2,6,7] ?_
    simp only [vke,zB,zA]
    refine ih2 _ _ ⟨?_,_,ins_step hp2 h1 h2 h3 h4 hlt2,by rw [e1]⟩
    rw [show k+1 - (m+1)=p0.length from by omega]
   ·simp only [vqM]
    rw [show IntKind.i64.wrap (((k+1:Nat):Int)+1)=((k+1+1:Nat):Int) from kf9 (by omega)]
    refine kc9 [0,1,2,6] ?_
    simp only [vke,zB,zA]
    have hend:=ins_end (r:=r) h3 h4 (fun p1 z e=>by
     have:z=y:=by have:=List.append_inj_right' e.symm rfl;simpa using this
     subst this;have hge:=hc;simp at hge;omega)
    refine ih _ _ ⟨rfl,_,hp2,?_,by rw [e0]⟩
    rw [h2] at hend;exact hend
  ·rintro e s ⟨rfl,l2,hI,rfl⟩
   obtain ⟨q1,q2⟩:=ins_last hI (Nat.le_refl _)
   have a4:decide (((k+1 - (k+1):Nat):Int) > 0)=false:=by simp
   simp only [vqM,a4]
   rw [show IntKind.i64.wrap (((k+1:Nat):Int)+1)=((k+1+1:Nat):Int) from kf9 (by omega)]
   refine kc9 [0,1,2,6] ?_
   simp only [vke,zB,zA]
   exact ih _ _ ⟨rfl,_,q1,q2,rfl⟩
 ·rintro e s ⟨rfl,l1,hp1,hs1,rfl⟩
  have hlt:decide (((l.length - 1+1:Nat):Int)<(l.length:Int))=false:=by simp;omega
  simp only [vqM,hlt]
  refine retA (.inl rfl) (r:=.tup []) ?_ ⟨rfl,l1,hp1,?_,rfl⟩
  ·rfl
  ·rwa [List.take_of_length_le (by have:=hp1.length_eq;omega)] at hs1
 ·match l with
  | []=>simp
  | x::l=>simp
theorem t_pdq (l:List Int) (B T:List Box) (L:List Nat) (c:Nat) (m:Int) (hn:l.length≤12):SpecQ Tryz.prog 104 [.row B.length 0 l.length 1,.int .i64 0,.int .i64 l.length,.int .i64 m] ⟨B++.cells (ints l)::T,L,c⟩
  fun r s=>r=.tup []∧∃ l',l'.Perm l∧l'.Pairwise (· ≤ ·)∧s=⟨B++.cells (ints l')::T,L,c⟩:=by
 have w1:IntKind.i64.wrap ((l.length:Int) - 0)=l.length:=(ky9 (by omega)).trans (by omega)
 have a1:decide ((l.length:Int)≤12)=true:=by simp;omega
 refine SpecQ.introA [] Tryz.func104 rfl (by decide) hmix (by kernel_rfl) [] 134 rfl rfl ?_
 simp only [vqM,zA,zS]
 refine awN_loop hmix ?_
 simp only [vqM,w1,a1]
 refine qo9 (t_insert l B T L c hn) ?_
 rintro r s ⟨rfl,l',p1,p2,rfl⟩
 simp only [vqM]
 refine retA (.inr rfl) (r:=.tup []) rfl ⟨rfl,l',p1,p2,rfl⟩
theorem t_Sort (l:List Int) (B T:List Box) (L:List Nat) (c:Nat) (hn:l.length≤12):SpecQ Tryz.prog 62 [.row B.length 0 l.length 1] ⟨B++.cells (ints l)::T,L,c⟩
  fun r s=>r=.tup []∧∃ l',l'.Perm l∧l'.Pairwise (· ≤ ·)∧s=⟨B++.cells (ints l')::T,L,c⟩:=by
 have hw:IntKind.u64.wrap (l.length:Int)=l.length:=(by decide:∀ n<13,IntKind.u64.wrap ((n:Nat):Int)=n) l.length (by omega)
 refine SpecQ.introA [] Tryz.func62 rfl (by decide) hmix (by kernel_rfl) [] 11 rfl rfl ?_
 simp only [vqM,vt62,zA,zS,hw]
 refine qo9 (t_Len l.length hn _) ?_
 rintro r s ⟨rfl,m,rfl⟩
 simp only [vqM]
 refine qo9 (t_pdq l B T L c m hn) ?_
 rintro r s ⟨rfl,l',p1,p2,rfl⟩
 simp only [vqM]
 refine retA (.inl rfl) (r:=.tup []) rfl ⟨rfl,l',p1,p2,rfl⟩
theorem t_insert0 (s:St):Spec Tryz.prog 128 [.row0,.int .i64 0,.int .i64 0] s (.tup []) s:=by
 refine Spec.introN [] Tryz.func128 rfl (by decide) hmix (by kernel_rfl) [] 49 rfl rfl ?_
 have w1:IntKind.i64.wrap (0+1)=1:=by decide
 have w2:decide ((1:Int)<0)=false:=by decide
 simp only [vqM,zA,zS,w1]
 refine awN_loop hmix ?_
 simp only [vqM,w2]
 refine ko9 (.inl rfl) rfl (.tup _ fun i hi=>by simp at hi)
theorem t_pdq0 (m:Int) (s:St):Spec Tryz.prog 104 [.row0,.int .i64 0,.int .i64 0,.int .i64 m] s (.tup []) s:=by
 have w1:IntKind.i64.wrap (0 - 0)=0:=by decide
 have a1:decide ((0:Int)≤12)=true:=by decide
 refine Spec.introN [] Tryz.func104 rfl (by decide) hmix (by kernel_rfl) [] 134 rfl rfl ?_
 simp only [vqM,zA,zS]
 refine awN_loop hmix ?_
 simp only [vqM,w1,a1]
 refine ka9 (t_insert0 _) ?_
 simp only [vqM]
 refine ko9 (.inr rfl) rfl (.tup _ fun i hi=>by simp at hi)
theorem t_Sort0 (s:St):Spec Tryz.prog 62 [.row0] s (.tup []) s:=by
 have hw:IntKind.u64.wrap 0=((0:Nat):Int):=by decide
 refine Spec.introN [] Tryz.func62 rfl (by decide) hmix (by kernel_rfl) [] 11 rfl rfl ?_
 simp only [vqM,vt62,zA,zS,hw]
 refine qo9 (t_Len 0 (by decide) _) ?_
 rintro r s ⟨rfl,m,rfl⟩
 simp only [vqM]
 refine ka9 (t_pdq0 m _) ?_
 simp only [vqM]
 refine ko9 (.inl rfl) rfl (.tup _ fun i hi=>by simp at hi)
def compL:List Int→List Int
 | []=>[]
 | [x]=>[x]
 | x::y::l=>if x=y then compL (y::l) else x::compL (y::l)
theorem compL_snoc (y x:Int):∀ p:List Int,compL (p++[y,x])=if x=y then compL (p++[y]) else compL (p++[y])++[x]
 | []=>by
  simp only [List.nil_append,compL]
  by_cases e:y=x
  ·subst e;simp
  ·rw [if_neg e,if_neg (fun h=>e h.symm)];rfl
 | [a]=>by
  have:=compL_snoc y x []
  simp only [List.nil_append,List.cons_append] at *
  simp only [compL] at *
  by_cases e:y=x <;> by_cases e2:a=y <;> simp_all
  all_goals (try (intro h;exact absurd h.symm e)) 
  all_goals (rw [if_neg (fun h=>e h.symm)])
 | a::b::p=>by
  have:=compL_snoc y x (b::p)
  simp only [List.cons_append] at *
  rw [compL,compL,this]
  by_cases e:x=y <;> by_cases e2:a=b <;> simp [e,e2]
theorem compL_take {l:List Int} {i:Nat} (h:i+1<l.length):compL (l.take (i+1+1))=if l[i+1]=l[i] then compL (l.take (i+1)) else compL (l.take (i+1))++[l[i+1]]:=by
 have e1:l.take (i+1)=l.take i++[l[i]]:=by rw [List.take_add_one,List.getElem?_eq_getElem (by omega)];rfl
 have e2:l.take (i+1+1)=l.take i++[l[i],l[i+1]]:=by rw [List.take_add_one,List.getElem?_eq_getElem h,e1,List.append_assoc];rfl
 rw [e2,e1,compL_snoc]
theorem mem_compL (x:Int):∀ l:List Int,x ∈ compL l↔x ∈ l
 | []=>by simp [compL]
 | [y]=>by simp [compL]
 | y::z::l=>by
  have:=mem_compL x (z::l)
  simp only [compL]
  by_cases e:y=z
  ·subst e;simp [this]
  ·simp [e,this]
theorem compL_le:∀ l:List Int,(compL l).length≤l.length
 | []=>by simp [compL]
 | [y]=>by simp [compL]
 | y::z::l=>by
  have:=compL_le (z::l)
  simp only [compL]
  split <;> simp at * <;> omega
theorem sl_from {E e:TypeId} {by_:Nat} {ag:Bool} {b off n k:Nat} (h1:0<k) (h2:k<n):slR (some (.slice E)) (some (e,1,by_,ag)) b off n 1 (some (.int .i64 (k:Int))) none=some (.row b (off+k * 1) (n - k) 1):=by
 have:¬ (k=0):=by omega
 simp [slR,evBd,this,h2]
 omega
theorem sl_to {E e:TypeId} {by_:Nat} {ag:Bool} {b off n k:Nat} (h2:k≤n):slR (some (.slice E)) (some (e,1,by_,ag)) b off n 1 none (some (.int .i64 (k:Int)))=some (.row b off k 1):=by
 simp [slR,evBd,h2]
def clR (el:Option (TypeId × Nat × Nat × Bool)) (P:Program) (b off n:Nat) (bx:Option Box) (B:List Box) (L:List Nat) (c:Nat):Option St:=match el with
 | some (e,sz,_,_)=>match zeroT P e,bx with
  | some zs,some (.cells cs)=>if zs.length=sz∧0<sz∧off+n * sz≤cs.length then some ⟨B.set b (.cells (storeD cs off (List.replicate n zs).flatten)),L,c⟩ else none
  | _,_=>none
 | none=>none
theorem evClear_rw {P:Program} {T:TypeId} {b off n rsz:Nat} {B:List Box} {L:List Nat} {c:Nat}:evClear P T (.row b off n rsz) ⟨B,L,c⟩=clR (elemT P T) P b off n B[b]? B L c:=rfl
def clR2 (z:Option (List D)) (sz b off n:Nat) (cs:List D) (B:List Box) (L:List Nat) (c:Nat):Option St:=match z with
 | some zs=>if zs.length=sz∧0<sz∧off+n * sz≤cs.length then some ⟨B.set b (.cells (storeD cs off (List.replicate n zs).flatten)),L,c⟩ else none
 | none=>none
theorem clR_w {P:Program} {e:TypeId} {sz by_:Nat} {ag:Bool} {b off n:Nat} {cs:List D} {B:List Box} {L:List Nat} {c:Nat}:clR (some (e,sz,by_,ag)) P b off n (some (.cells cs)) B L c=clR2 (zeroT P e) sz b off n cs B L c:=by
 unfold clR clR2;dsimp only;cases zeroT P e <;> rfl
theorem clR2_w {z:D} {b off n:Nat} {cs:List D} {B:List Box} {L:List Nat} {c:Nat} (h:off+n * 1≤cs.length):clR2 (some [z]) 1 b off n cs B L c=some ⟨B.set b (.cells (storeD cs off (List.replicate n [z]).flatten)),L,c⟩:=by
 unfold clR2;dsimp only;rw [if_pos ⟨rfl,by decide,h⟩]
theorem t_Compact (l:List Int) (B T:List Box) (L:List Nat) (c:Nat) (hn0:0<l.length) (hn:l.length≤1000000):SpecQ Tryz.prog 63 [.row B.length 0 l.length 1] ⟨B++.cells (ints l)::T,L,c⟩
  fun r s=>∃ cs,r=.row B.length 0 (compL l).length 1∧cs.take (compL l).length=ints (compL l)∧s=⟨B++.cells cs::T,L,c⟩:=by
 refine SpecQ.introA [] Tryz.func63 rfl (by decide) hmix (by kernel_rfl) [ResultVar.tmp 2] 61 rfl rfl ?_
 simp only [vqM,vt25,zA,zS]
 refine kb9 (fun hc=>?_) (fun hc=>?_)
 ·simp only [vqM]
  have hcl:compL l=l:=by
   simp at hc
   match l,hn0 with
   | [x],_=>rfl
   | _::_::_,_=>simp at hc;omega
  refine retA (.inr rfl) (r:=.row B.length 0 l.length 1) ?_ ⟨ints l,by rw [hcl],by rw [hcl,List.take_of_length_le (by simp [ints])],rfl⟩
  simp only [vqM]
 have h2:2≤l.length:=by simp at hc;omega
 simp only [vqM]
 refine kc9 [0,3] ?_
 simp only [vke,zB,zA]
 refine xc9 hmix (l.length - 1) (fun m=>[.row B.length 0 l.length 1,J,J,.int .i64 ((m+1:Nat):Int),J,J,J,J,J,J,J,J,J,J,J,J,J,J,J,J,J,J,J,J,J,J,J,J,J,J,J,J,J,J,J,J,J,J,J,J,J,J,J,J,J,J,J,J,J,J,J,J,J,J,J,J,J,J,J,J,J]) (fun _=>⟨B++.cells (ints l)::T,L,c⟩) (fun m=>compL (l.take (m+1))=l.take (m+1)) ?_ ?_ 0 (Nat.zero_le _) ?_
 ·intro m hm hI ih
  have a0:decide (((m+1:Nat):Int)<(l.length:Int))=true:=by simp;omega
  have a1:IntKind.i64.wrap (((m+1:Nat):Int) - 1)=(m:Int):=(ky9 (by omega)).trans (by omega)
  have a2:(0≤((m+1:Nat):Int)∧((m+1:Nat):Int)<(l.length:Int))=True:=by simp;omega
  have a3:(0≤(m:Int)∧(m:Int)<(l.length:Int))=True:=by simp;omega
  have hat:∀ i (h:i<l.length),((ints l).drop i)[0]? = some (.int .i64 l[i]):=fun i h=>by simp [ints,h]
  have b1:=hat (m+1) (by omega)
  have b2:=hat m (by omega)
  simp only [vqM,vt25,a0,a1,a2,a3,b1,b2,Int.toNat_natCast,Nat.mul_one,Nat.zero_add]
  refine kb9 (fun hd=>?_) (fun hd=>?_)
  ·have hdd:l[m+1]=l[m]:=by simpa using hd
   have hT:compL (l.take (m+1+1))=l.take (m+1):=by rw [compL_take (by omega),if_pos hdd,hI]
   simp only [vqM,vt25,sl_from (show 0<m+1 by omega) (show m+1<l.length by omega),Nat.mul_one,Nat.zero_add]
   refine kc9 [0,3,4,5] ?_
   simp only [vke,zB,zA]
   refine km9 hmix (l.length - (m+1) - 1) (fun j e s=>∃ (cur:List Int) (K:Nat),e=[.row B.length 0 l.length 1,J,J,.int .i64 (K:Int),.row B.length (m+1) (l.length - (m+1)) 1,.int .i64 ((j+1:Nat):Int),J,J,J,J,J,J,J,J,J,J,J,J,J,J,J,J,J,J,J,J,J,J,J,J,J,J,J,J,J,J,J,J,J,J,J,J,J,J,J,J,J,J,J,J,J,J,J,J,J,J,J,J,J,J,J]∧cur.length=l.length∧K=(compL (l.take (m+1+j+1))).length ∧
    cur.take K=compL (l.take (m+1+j+1))∧cur.drop (m+1+j)=l.drop (m+1+j)∧K≤m+1+j∧0<K∧s=⟨B++.cells (ints cur)::T,L,c⟩) ?_ ?_ 0 _ _ (Nat.zero_le _) ⟨l,m+1,rfl,rfl,?_,?_,rfl,by omega,by omega,rfl⟩
   ·rintro j e s hj ⟨cur,K,rfl,q1,q2,q3,q4,q5,q6,rfl⟩ ih2
    have a0:decide (((j+1:Nat):Int)<((l.length - (m+1):Nat):Int))=true:=by simp;omega
    have a1:IntKind.i64.wrap (((j+1:Nat):Int) - 1)=(j:Int):=(ky9 (by omega)).trans (by omega)
    have a2:(0≤((j+1:Nat):Int)∧((j+1:Nat):Int)<((l.length - (m+1):Nat):Int))=True:=by simp;omega
    have a3:(0≤(j:Int)∧(j:Int)<((l.length - (m+1):Nat):Int))=True:=by simp;omega
    have a4:(0≤(K:Int)∧(K:Int)<(l.length:Int))=True:=by simp;omega
    have hat:∀ i (h:m+1+j≤i) (h2:i<l.length),((ints cur).drop i)[0]? = some (.int .i64 l[i]):=fun i h h2=>by
     have e1:cur[i]? = l[i]?:=by
      have:=congrArg (fun z=>z[i - (m+1+j)]?) q4
      simpa [show m+1+j+(i - (m+1+j))=i from by omega] using this
     rw [List.getElem?_drop,Nat.add_zero]
     simp [ints,e1,h2]
    have b1:=hat (m+1+(j+1)) (by omega) (by omega)
    have b2:=hat (m+1+j) (by omega) (by omega)
    have hsn:=compL_take (l:=l) (i:=m+1+j) (by omega)
    simp only [vqM,vt25,a0,a1,a2,a3,b1,b2,Int.toNat_natCast,Nat.mul_one]
    refine kb9 (fun hx=>?_) (fun hx=>?_)
    ·have hne:¬ l[m+1+j+1]=l[m+1+j]:=by have h:=hx;simp at h;exact h
     have a5:(K+1≤(ints cur).length)=True:=by simp [ints];omega
     have c1:(ints cur).take K++D.int .i64 (l[m+1+(j+1)])::(ints cur).drop (K+1)=ints (cur.take K++l[m+1+(j+1)]::cur.drop (K+1)):=by simp [ints]
     simp only [vqM,vt25,a2,a4,a5,b1,c1,Int.toNat_natCast,Nat.mul_one,Nat.zero_add]
     rw [show IntKind.i64.wrap ((K:Int)+1)=((K+1:Nat):Int) from kf9 (by omega),show IntKind.i64.wrap (((j+1:Nat):Int)+1)=((j+1+1:Nat):Int) from kf9 (by omega)]
     refine kc9 [0,3,4,5] ?_
     simp only [vke,zB,zA]
     rw [if_neg hne] at hsn
     have hlt:(cur.take K).length=K:=by simp;omega
     refine ih2 _ _ ⟨_,K+1,rfl,?_,?_,?_,?_,by omega,by omega,rfl⟩
     ·simp;omega
     ·rw [show m+1+(j+1)+1=m+1+j+1+1 from by omega,hsn,q2];simp
     ·rw [show m+1+(j+1)+1=m+1+j+1+1 from by omega,hsn,← q3,List.take_append,List.take_of_length_le (by omega),hlt]
      simp [show K+1 - K=1 from by omega]
      rfl
     ·rw [List.drop_append,List.drop_of_length_le (by omega),hlt,show m+1+(j+1) - K=(m+1+j - K)+1 from by omega]
      simp only [List.nil_append,List.drop_succ_cons,List.drop_drop]
      have:=congrArg (List.drop 1) q4
      rw [List.drop_drop,List.drop_drop] at this
      rw [show K+1+(m+1+j - K)=m+1+j+1 from by omega,this];rfl
    ·have heq:l[m+1+j+1]=l[m+1+j]:=by have h:=hx;simp at h;exact h
     simp only [vqM]
     rw [show IntKind.i64.wrap (((j+1:Nat):Int)+1)=((j+1+1:Nat):Int) from kf9 (by omega)]
     refine kc9 [0,3,4,5] ?_
     simp only [vke,zB,zA]
     rw [if_pos heq] at hsn
     refine ih2 _ _ ⟨cur,K,rfl,q1,?_,?_,?_,by omega,q6,rfl⟩
     ·rw [show m+1+(j+1)+1=m+1+j+1+1 from by omega,hsn,q2]
     ·rw [show m+1+(j+1)+1=m+1+j+1+1 from by omega,hsn,q3]
     ·have:=congrArg (List.drop 1) q4
      rw [List.drop_drop,List.drop_drop] at this;exact this
   ·rintro e s ⟨cur,K,rfl,q1,q2,q3,q4,q5,q6,rfl⟩
    have a0:decide (((l.length - (m+1) - 1+1:Nat):Int)<((l.length - (m+1):Nat):Int))=false:=by simp;omega
    have hall:l.take (m+1+(l.length - (m+1) - 1)+1)=l:=List.take_of_length_le (by omega)
    rw [hall] at q2 q3
    have hKl:=compL_le l
    have hcl:K+(l.length - K) * 1≤(ints cur).length:=by simp [ints];omega
    simp only [vqM,vt25,a0,sl_from (show 0<K from q6) (show K<l.length by omega),sl_to (show K≤l.length by omega),Nat.mul_one,Nat.zero_add,evClear_rw,clR_w,clR2_w hcl]
    refine retA (.inr rfl) (r:=.row B.length 0 K 1) ?_ ⟨_,by rw [q2],?_,rfl⟩
    ·simp only [vqM]
    ·rw [← q2];(try rw [storeD]);rw [List.take_append_of_le_length (by simp [ints];omega),List.take_of_length_le (by simp [ints];omega)]
     rw [show (ints cur).take K=ints (cur.take K) from by simp [ints],q3]
   ·rw [hT];simp;omega
   ·rw [hT]
  ·have hdd:¬ l[m+1]=l[m]:=by simpa using hd
   simp only [vqM]
   rw [show IntKind.i64.wrap (((m+1:Nat):Int)+1)=((m+1+1:Nat):Int) from kf9 (by omega)]
   refine kc9 [0,3] ?_
   simp only [vke,zB,zA]
   refine ih ?_
   rw [compL_take (by omega),if_neg hdd,hI,List.take_add_one (i:=m+1),List.getElem?_eq_getElem (by omega)];rfl
 ·intro hI
  rw [show l.length - 1+1=l.length from by omega,List.take_length] at hI
  have a0:decide (((l.length - 1+1:Nat):Int)<(l.length:Int))=false:=by simp;omega
  simp only [vqM,vt25,a0]
  refine retA (.inr rfl) (r:=.row B.length 0 l.length 1) ?_ ⟨ints l,by rw [hI],by rw [hI,List.take_of_length_le (by simp [ints])],rfl⟩
  simp only [vqM]
 ·match l,hn0 with
  | [x],_=>rfl
  | x::_::_,_=>rfl
theorem WRel.weakCell {w:World} {g:G} {s:St} (h:WRel w g s) {b:Nat} {d d':D} (hb:s.boxes[b]? = some (.cells [d])) (hd:weakD d d'):WRel w g { s with boxes:=s.boxes.set b (.cells [d']) }:=by
 have hlt:=(List.getElem?_eq_some_iff.1 hb).1
 have hlv:∀ j,Live1 { s with boxes:=s.boxes.set b (.cells [d']) } j→Live1 s j:=by
  rintro j ⟨bx,h1,h2⟩
  by_cases e:j=b
  ·subst e;exact ⟨_,hb,by simp⟩
  ·simp only at h1;rw [List.getElem?_set_ne (by omega)] at h1;exact ⟨bx,h1,h2⟩
 refine { os:=h.os,tape:=h.tape,out:=h.out,fz:=h.fz,n:=h.n,old:=h.old,m:=h.m,box:=?_,inj:=fun i j c h1 h2 l1 l2=>h.inj i j c h1 h2 (hlv i l1) (hlv j l2),dom:=fun j c hj=>by have:=h.dom j c hj;simpa using this,live:=h.live,uniq:=h.uniq,ldom:=h.ldom,o:=h.o,nd:=h.nd,sz:=h.sz }
 intro j bx hj
 by_cases e:j=b
 ·subst e
  simp only at hj
  rw [List.getElem?_set_self hlt] at hj;cases hj
  obtain ⟨c,arr,T,fr,h1,h2,h3,h4,h5⟩:=h.box j _ hb
  refine ⟨c,arr,T,fr,h1,h2,h3,fun i q1 q2=>?_,h5⟩
  have:=h4 i q1 q2
  simp at q1;subst q1
  exact ⟨hd _ _ this.1,this.2⟩
 ·simp only at hj;rw [List.getElem?_set_ne (by omega)] at hj;exact h.box j bx hj
theorem gh_cell (e:List D) (s:St) {b:Nat} {d d':D} (hb:s.boxes[b]? = some (.cells [d])) (hd:weakD d d'):Gh e s e { s with boxes:=s.boxes.set b (.cells [d']) }:=fun O0 a w g h=>⟨g,.refl g,h.le (.refl g) h.env (h.wr.weakCell hb hd)⟩
theorem range_allY {X:Draws} {f:Operand} {ps:List Tmp} {asg bo:Code} {Q:QC} {e:List D} {B:List Box} {L:List Nat} {n:Nat} (b1 b2:Nat) (l:List Sm) (d:Int) (I:Nat→List Box→List Nat→Nat→List Box→Pt→Prop)
  (hf:val e f=.func (.func 122) [] [.box b1 0,.box b2 0]) (h1:B[b1]? = some (.cells [.slice .none (Sm.encs l)])) (h2:B[b2]? = some (.cells [.int .i64 d]))
  (hI0:I 0 B L n [] (fun _ _=>False))
  (step:qx9 X asg=true→qx9 X bo=true→∀ k p C L c Y Pr W,(flatL d l)[k]? = some p→C.length=B.length→I k C L c Y Pr→Prs Pr ⟨C++.loop ps asg bo e .ready none::Y,L,c⟩ →
   YSemQ Tryz.prog B.length [.agg p.cells] ⟨C++.loop ps asg bo e .ready none::(Y++W),L,c⟩ fun r s1=>r=.bool true∧∃ C' L' c' Y',C'.length=B.length∧s1=⟨C'++.loop ps asg bo e .ready none::Y',L',c'⟩ ∧
    I (k+1) C' L' c' Y' (ext Pr ⟨C++.loop ps asg bo e .ready none::Y,L,c⟩ W)∧Prs (ext Pr ⟨C++.loop ps asg bo e .ready none::Y,L,c⟩ W) s1)
  (hend:∀ C L c Y Pr Y2,C.length=B.length→I (flatL d l).length C L c Y Pr→@qI .normal e ⟨C++.dead::(Y++Y2),L,c⟩ Q):@AWNI X none Tryz.prog (.rangeFunc f ps.toArray asg bo) e ⟨B,L,n⟩ Q:=by
 have hbx:∀ (C:List Box) (x:Box) (Y:List Box),C.length=B.length→(C++x::Y)[B.length]? = some x:=fun C x Y h=>by rw [← h,wd9];rfl
 refine range_all b1 b2 l d (fun q Pr s=>q=true∧∃ C L c Y Pr0,C.length=B.length∧I (flatL d l).length C L c Y Pr0∧∃ Y2,s=⟨C++.loop ps asg bo e .ready none::(Y++Y2),L,c⟩) hf h1 h2 ?_ (fun q1 q2=>?_) ?_
 ·rintro b Pr s Y ⟨rfl,C,L,c,Y0,Pr0,hl,hi,Y2,rfl⟩
  exact ⟨rfl,C,L,c,Y0,Pr0,hl,hi,Y2++Y,by simp⟩
 ·refine Yw_inv _ (fun k Pr s=>∃ C L c Y,C.length=B.length∧I k C L c Y Pr∧s=⟨C++.loop ps asg bo e .ready none::Y,L,c⟩) ?_ ?_ _ _ (fun _ _ h=>h.elim) ⟨B,L,n,[],rfl,hI0,rfl⟩
  ·rintro Pr s _ ⟨C,L,c,Y,hl,hi,rfl⟩;exact ⟨rfl,C,L,c,Y,Pr,hl,hi,[],by simp⟩
  ·rintro k p Pr s W hk hP ⟨C,L,c,Y,hlC,hIk,rfl⟩
   refine CallVQ.mono (show CallVQ _ (.yield B.length) _ _ _ from (by simpa only [CallVQ,List.append_assoc,List.cons_append] using step q1 q2 k p C L c Y Pr W hk hlC hIk hP)) ?_
   rintro r s1 ⟨rfl,C',L',c',Y',hl,rfl,hI2,hP2⟩
   exact ⟨hP2,.inl ⟨rfl,C',L',c',Y',hl,hI2,rfl⟩⟩
 ·rintro q Pr s1 _ ⟨rfl,C,L,c,Y,Pr0,hl,hi,Y2,rfl⟩
  refine ⟨.ready,none,hbx _ _ _ hl,by simp,?_⟩
  have e1:(C++.loop ps asg bo e .ready none::(Y++Y2)).set B.length .dead=C++.dead::(Y++Y2):=by rw [← hl,box_set0];rfl
  show @qI .normal e ⟨(C++.loop ps asg bo e .ready none::(Y++Y2)).set B.length .dead,_,_⟩ Q
  rw [e1]
  exact hend C L c Y Pr0 Y2 hl hi
def rawC (l:List Pl):List Int:=(l.filter fun p=>decide (p.s.op=13)).map (·.s.m)
def xw9 (l:List Int):List Int:=l.mergeSort (fun a b=>decide (a≤b))
theorem sortI_of {l l':List Int} (h1:l'.Perm l) (h2:l'.Pairwise (· ≤ ·)):l'=xw9 l:=by
 have h3:(xw9 l).Pairwise (fun a b=>decide (a≤b)=true):=List.pairwise_mergeSort (fun a b c h1 h2=>by simp at *;omega) (fun a b=>by simp;omega) l
 refine List.Perm.eq_of_pairwise (le:=(· ≤ ·)) (fun a b _ _ h h'=>by omega) h2 (h3.imp fun h=>by simpa using h) (h1.trans (List.mergeSort_perm l _).symm)
theorem rawC_succ {l:List Pl} {k:Nat} {p:Pl} (h:l[k]? = some p):rawC (l.take (k+1))=if p.s.op=13 then rawC (l.take k)++[p.s.m] else rawC (l.take k):=by
 unfold rawC
 rw [List.take_add_one,h,Option.toList_some,List.filter_append,List.map_append]
 by_cases e:p.s.op=13 <;> simp [e]
theorem rawC_le (l:List Pl) (k:Nat):(rawC (l.take k)).length≤(rawC l).length:=by
 unfold rawC
 simp only [List.length_map]
 exact ((List.take_sublist k l).filter _).length_le
def callsS (d:Df):List Int:=compL (xw9 (rawC (flatL 1 d.body)))
theorem lap {B Y:List Box} {a b c d x:Box} {t:Nat}:(B++a::b::c::d::x::Y)[B.length+(t+1+1+1+1+1)]? = Y[t]?:=by
 rw [List.getElem?_append_right (by omega),Nat.add_sub_cancel_left];rfl
def RowI (n:Nat) (Pr:Pt) (row:D) (l:List Int) (Y:List Box):Prop :=
 (row=.row0∧l=[]) ∨ ∃ j,row=.row (n+(j+1+1+1+1+1)) 0 l.length 1∧l≠[]∧Y[j]? = some (.cells (ints l))∧∀ x,¬ Pr (n+(j+1+1+1+1+1)) x
def CallI (B:List Box) (L:List Nat) (c:Nat) (d:Df) (k:Nat) (C:List Box) (L':List Nat) (c':Nat) (Y:List Box) (Pr:Pt):Prop :=
 L'=L∧c'=c∧(∀ i x,Pr i x→B.length+5≤i)∧∃ row,C=B++[.cells d.cells,.cells [row],.cells [.slice .none (Sm.encs d.body)],.cells [.int .i64 1]]∧RowI B.length Pr row (rawC ((flatL 1 d.body).take k)) Y
theorem ext_in {Pr:Pt} {B Y W:List Box} {a b c d x0:Box} {L:List Nat} {ct i:Nat} {x:Box} (h0:∀ i x,Pr i x→B.length+5≤i) (hP:Prs Pr ⟨B++a::b::c::d::x0::Y,L,ct⟩) (h:ext Pr ⟨B++a::b::c::d::x0::Y,L,ct⟩ W i x) :
  ∃ t,i=B.length+(t+1+1+1+1+1)∧(Y++W)[t]? = some x:=by
 have hge:B.length+5≤i:=by
  rcases h with h | ⟨h,_⟩
  ·exact h0 i x h
  ·simp at h;omega
 have h2:=prs_ext hP W i x h
 refine ⟨i - B.length - 5,by omega,?_⟩
 have e1:i=B.length+((i - B.length - 5)+1+1+1+1+1):=by omega
 simp only [List.append_assoc,List.cons_append] at h2
 rw [e1,lap] at h2
 exact h2
theorem box_split {B:List Box} {b:Nat} {x:Box} (h:B[b]? = some x):B=B.take b++x::B.drop (b+1)∧(B.take b).length=b:=by
 obtain ⟨hlt,rfl⟩:=List.getElem?_eq_some_iff.1 h
 exact ⟨by rw [← List.drop_eq_getElem_cons hlt,List.take_append_drop],by simp;omega⟩
theorem box_set_split {B:List Box} {b:Nat} {x y:Box} (h:B[b]? = some x):B.set b y=B.take b++y::B.drop (b+1):=by
 obtain ⟨hlt,rfl⟩:=List.getElem?_eq_some_iff.1 h
 exact List.set_eq_take_append_cons_drop.trans (by rw [if_pos hlt])
theorem t_SortAt (l:List Int) {b:Nat} {B:List Box} {L:List Nat} {c:Nat} (hb:B[b]? = some (.cells (ints l))) (hn:l.length≤12):SpecQ Tryz.prog 62 [.row b 0 l.length 1] ⟨B,L,c⟩
  fun r s=>r=.tup []∧s=⟨B.set b (.cells (ints (xw9 l))),L,c⟩:=by
 obtain ⟨h1,h2⟩:=box_split hb
 have:=t_Sort l (B.take b) (B.drop (b+1)) L c hn
 rw [← h1,h2] at this
 refine this.mono ?_
 rintro r s ⟨rfl,l',p1,p2,rfl⟩
 rw [box_set_split hb,sortI_of p1 p2]
 exact ⟨rfl,rfl⟩
theorem t_CompactAt (l:List Int) {b:Nat} {B:List Box} {L:List Nat} {c:Nat} (hb:B[b]? = some (.cells (ints l))) (hn0:0<l.length) (hn:l.length≤1000000):SpecQ Tryz.prog 63 [.row b 0 l.length 1] ⟨B,L,c⟩
  fun r s=>∃ cs,r=.row b 0 (compL l).length 1∧cs.take (compL l).length=ints (compL l)∧s=⟨B.set b (.cells cs),L,c⟩:=by
 obtain ⟨h1,h2⟩:=box_split hb
 have:=t_Compact l (B.take b) (B.drop (b+1)) L c hn0 hn
 rw [← h1,h2] at this
 refine this.mono ?_
 rintro r s ⟨cs,rfl,p1,rfl⟩
 exact ⟨cs,rfl,p1,by rw [box_set_split hb]⟩
theorem t_Compact0 (s:St):SpecQ Tryz.prog 63 [.row0] s fun r s'=>r=.row0∧s'=s:=by
 have w2:decide ((0:Int)<2)=true:=by decide
 refine SpecQ.introA [] Tryz.func63 rfl (by decide) hmix (by kernel_rfl) [ResultVar.tmp 2] 61 rfl rfl ?_
 simp only [vqM,vt25,zA,zS,w2]
 refine retA (.inr rfl) (r:=.row0) ?_ ⟨rfl,rfl⟩
 simp only [vqM]
theorem t_Calls (d:Df) (hN:(rawC (flatL 1 d.body)).length≤12) (s:St):Spec Tryz.prog 84 [.agg d.cells] s (.slice .none (intCells (callsS d))) s:=by
 obtain ⟨B,L,c⟩:=s
 refine SpecQ.freeze (Z:=fun r s=>∃ X L' c',s=⟨B++X,L',c'⟩∧(∀ k ∈ L,k ∈ L')∧c≤c'∧((r=.row0∧intCells (callsS d)=[]) ∨ ∃ b off n sz cs,r=.row b off n sz∧B.length≤b∧(B++X)[b]? = some (.cells cs)∧(intCells (callsS d)).flatten=(cs.drop off).take (n * sz)∧(intCells (callsS d)).length=n∧(∀ x ∈ intCells (callsS d),x.length=sz))) ?_ (xx9 _) (fun r s h=>h)
 refine SpecQ.introA [] Tryz.func84 rfl (by decide) hmix (by kernel_rfl) [ResultVar.tmp 2] 23 rfl rfl ?_
 simp only [vqM,vt47,zA,zS]
 refine ka9 (t_all _ _ _ _ _) ?_
 simp only [vqM,zA]
 refine awN_gh (gh_cell _ _ (b:=B.length+1) (d:=.slice .nil []) (d':=.row0) (by rw [wi9];rfl) weak_nil) ?_
 simp only [vqM]
 refine range_allY (B.length+2) (B.length+2+1) d.body 1 (CallI B L c d) ?_ ?_ ?_ ⟨rfl,rfl,fun _ _ h=>h.elim,.row0,rfl,.inl ⟨rfl,by simp [rawC]⟩⟩ ?_ ?_
 ·rfl
 ·rw [wi9];rfl
 ·rw [Nat.add_assoc,wi9];rfl
 ·rintro q1 q2 k p C L1 c1 Y Pr W hk hlC ⟨rfl,rfl,hPr0,row,rfl,hrow⟩ hP
  refine YSemQ.introA hmix q1 q2 (pd:=none) (by rw [← hlC,wd9];rfl) (by rfl) fun l=>?_
  clear q1 q2
  simp only [vqM,vt47,zA,putArgs,vsPl]
  refine qI_assignA (pd1:=none) (by simp only [vqM,zA]) ?_
  simp only [vqM,vt47,zA,vsPl]
  simp only [List.append_assoc,List.cons_append,List.nil_append] at hP
  refine kb9 (fun hc=>?_) (fun hc=>?_)
  ·have hop:p.s.op=13:=of_decide_eq_true hc
   have hraw:=rawC_succ hk
   rw [if_pos hop] at hraw
   rcases hrow with ⟨rfl,hl0⟩ | ⟨j,rfl,hl0,hYj,hnp⟩
   ·simp only [vqM,vt47,zA,zM,zL,vsPl]
    refine ww9 (st:=.busy) (pd:=none) (by simp only [vqM]) ?_
    refine ⟨rfl,B++([.cells d.cells,.cells [.row (B.length+(Y.length+(W.length+1)+1+1+1+1+1)) 0 1 1],.cells [.slice .none (Sm.encs d.body)],.cells [.int .i64 1]]:List Box),_,_,Y++(W++[.cells p.cells,.cells [.int .i64 p.s.m]]),?_,?_,⟨rfl,rfl,?_,_,rfl,?_⟩,?_⟩
    ·simp
    ·simp only [vqM]
     try rfl
    ·intro i x hx
     obtain ⟨t,rfl,_⟩:=ext_in hPr0 hP hx
     omega
    ·rw [hraw,hl0]
     refine .inr ⟨Y.length+(W.length+1),rfl,by simp,?_,fun x hx=>?_⟩
     ·rw [List.getElem?_append_right (by omega),List.getElem?_append_right (by omega)]
      simp [ints,show Y.length+(W.length+1) - Y.length - W.length=1 from by omega]
     ·obtain ⟨t,he,ht⟩:=ext_in hPr0 hP hx
      have:=(List.getElem?_eq_some_iff.1 ht).1
      simp at this;omega
    ·intro i x hx
     obtain ⟨t,rfl,ht⟩:=ext_in hPr0 hP hx
     simp only [vqM]
     rw [← List.append_assoc]
     exact kx9 ht
   ·have hYj2:∀ Z,(Y++Z)[j]? = some (.cells (ints (rawC ((flatL 1 d.body).take k)))):=fun Z=>kx9 hYj
    have hle:=rawC_le (flatL 1 d.body) k
    have g1:((ints (rawC ((flatL 1 d.body).take k))).length=(rawC ((flatL 1 d.body).take k)).length * 1)=True:=by simp [ints]
    have g2:((rawC ((flatL 1 d.body).take k)).length+1≤1000000)=True:=by simp;omega
    simp only [vqM,vt47,zA,zM,zL,vsPl,hYj2,g1,g2]
    have g3:ints (rawC ((flatL 1 d.body).take k))++[[D.int .i64 p.s.m]].flatten=ints (rawC ((flatL 1 d.body).take (k+1))):=by rw [hraw];simp [ints]
    have g4:(rawC ((flatL 1 d.body).take k)).length+1=(rawC ((flatL 1 d.body).take (k+1))).length:=by rw [hraw];simp
    rw [g3,g4]
    have hjl:=(List.getElem?_eq_some_iff.1 hYj).1
    refine ww9 (st:=.busy) (pd:=none) (by simp only [vqM]) ?_
    refine ⟨rfl,B++([.cells d.cells,.cells [.row (B.length+(Y.length+(W.length+1)+1+1+1+1+1)) 0 (rawC ((flatL 1 d.body).take (k+1))).length 1],.cells [.slice .none (Sm.encs d.body)],.cells [.int .i64 1]]:List Box),_,_,(Y++(W++[Box.cells p.cells])).set j .dead++[.cells (ints (rawC ((flatL 1 d.body).take (k+1))))],?_,?_,⟨rfl,rfl,?_,_,rfl,?_⟩,?_⟩
    ·simp
    ·simp only [vqM]
     try rfl
    ·intro i x hx
     obtain ⟨t,rfl,_⟩:=ext_in hPr0 hP hx
     omega
    ·refine .inr ⟨Y.length+(W.length+1),rfl,by rw [hraw];simp,?_,fun x hx=>?_⟩
     ·rw [List.getElem?_append_right (by simp)]
      simp
     ·obtain ⟨t,he,ht⟩:=ext_in hPr0 hP hx
      have:=(List.getElem?_eq_some_iff.1 ht).1
      simp at this;omega
    ·intro i x hx
     have hne:i≠B.length+(j+1+1+1+1+1):=by
      rintro rfl
      rcases hx with hx | ⟨hx,_⟩
      ·exact hnp x hx
      ·simp at hx;omega
     obtain ⟨t,rfl,ht⟩:=ext_in hPr0 hP hx
     simp only [vqM]
     refine kx9 ?_
     rw [List.getElem?_set_ne (by omega),← List.append_assoc]
     exact kx9 ht
  ·have hop:¬ p.s.op=13:=of_decide_eq_false hc
   have hraw:=rawC_succ hk
   rw [if_neg hop] at hraw
   simp only [vqM]
   refine ww9 (st:=.busy) (pd:=none) (by simp only [vqM]) ?_
   refine ⟨rfl,B++([.cells d.cells,.cells [row],.cells [.slice .none (Sm.encs d.body)],.cells [.int .i64 1]]:List Box),_,_,Y++(W++[.cells p.cells]),by simp,?_,⟨rfl,rfl,?_,row,rfl,?_⟩,?_⟩
   ·simp only [vqM]
   ·intro i x hx
    obtain ⟨t,rfl,_⟩:=ext_in hPr0 hP hx
    omega
   ·rw [hraw]
    rcases hrow with ⟨rfl,hl0⟩ | ⟨j,rfl,hl0,hYj,hnp⟩
    ·exact .inl ⟨rfl,hl0⟩
    ·refine .inr ⟨j,rfl,hl0,kx9 hYj,fun x hx=>?_⟩
     rcases hx with hx | ⟨hx,_⟩
     ·exact hnp x hx
     ·have:=(List.getElem?_eq_some_iff.1 hYj).1
      simp at hx;omega
   ·intro i x hx
    obtain ⟨t,rfl,ht⟩:=ext_in hPr0 hP hx
    simp only [vqM]
    rw [← List.append_assoc]
    exact kx9 ht
 ·rintro C L1 c1 Y Pr Y2 - ⟨rfl,rfl,-,row,rfl,hrow⟩
  rw [List.take_length] at hrow
  rcases hrow with ⟨rfl,hl0⟩ | ⟨j,rfl,hl0,hYj,-⟩
  ·simp only [vqM,vt47]
   refine ka9 (t_Sort0 _) ?_
   simp only [vqM,vt47]
   refine qo9 (t_Compact0 _) ?_
   rintro r s ⟨rfl,rfl⟩
   simp only [vqM]
   refine retA (.inr rfl) (r:=.row0) ?_ ⟨_,_,_,rfl,fun _ h=>h,Nat.le_refl _,.inl ⟨rfl,?_⟩⟩
   ·simp only [vqM]
   ·rw [callsS,hl0];simp [xw9,compL,intCells]
  ·have hYj2:∀ Z,(Y++Z)[j]? = some (.cells (ints (rawC (flatL 1 d.body)))):=fun Z=>kx9 hYj
   simp only [vqM,vt47]
   refine qo9 (t_SortAt (rawC (flatL 1 d.body)) (by rw [lap];exact hYj2 Y2) hN) ?_
   rintro r s ⟨rfl,rfl⟩
   simp only [vqM,vt47]
   have hle:(xw9 (rawC (flatL 1 d.body))).length=(rawC (flatL 1 d.body)).length:=(List.mergeSort_perm _ _).length_eq
   have hpos:0<(rawC (flatL 1 d.body)).length:=List.length_pos_iff.2 hl0
   have hjl:=(List.getElem?_eq_some_iff.1 hYj).1
   rw [← hle]
   refine qo9 (t_CompactAt (xw9 (rawC (flatL 1 d.body))) (by rw [lap,List.getElem?_set_self (by simp;omega)]) (by omega) (by omega)) ?_
   rintro r s ⟨cs,rfl,hcs,rfl⟩
   simp only [vqM]
   refine retA (.inr rfl) (r:=.row (B.length+(j+1+1+1+1+1)) 0 (callsS d).length 1) ?_ ⟨_,_,_,rfl,fun _ h=>h,Nat.le_refl _,.inr ⟨_,_,_,_,cs,rfl,by omega,?_,?_,by simp [intCells],?_⟩⟩
   ·simp only [vqM]
    rfl
   ·rw [lap,List.getElem?_set_self (by simp;omega)]
   ·rw [Nat.mul_one,List.drop_zero,callsS,hcs]
    generalize compL _=z
    induction z with
    | nil=>rfl
    | cons x z ih=>simpa [ints,intCells] using ih
   ·intro x hx
    obtain ⟨y,_,rfl⟩:=List.mem_map.1 hx
    rfl
theorem mapFind_at {n:Int}:∀ (l:List Int) (i:Nat),n ∈ l→∃ q,qv9 .i64 n (mapB l) i=some (some (i+q,.bool true))∧(mapB l).eraseIdx q=mapB (l.erase n):=by
 intro l
 induction l with
 | nil=>intro i h;simp at h
 | cons m l ih =>
  intro i h
  simp only [mapB,List.map_cons,qv9,if_true]
  by_cases e:n=m
  ·subst e;rw [if_pos rfl];exact ⟨0,rfl,by simp [mapB]⟩
  ·rw [if_neg e]
   rcases List.mem_cons.1 h with h | h
   ·exact absurd h e
   ·obtain ⟨q,h1,h2⟩:=ih (i+1) h
    refine ⟨q+1,by simpa [mapB,Nat.add_assoc,Nat.add_comm 1 q] using h1,?_⟩
    rw [List.erase_cons_tail (by simpa using fun h=>e h.symm)]
    simp only [List.eraseIdx_cons_succ,List.map_cons]
    rw [show (l.map fun n=>(D.int .i64 n,D.bool true)).eraseIdx q=_ from h2];rfl
def rdy (rem:List Int) (d:Df):Bool:=rem.contains d.id && !(callsS d).any fun i=>rem.contains i
def idAt (defs:List Df) (i:Nat):Int:=match defs[i]? with
 | some d=>d.id
 | none=>0
def ordS (defs:List Df):Nat→List Int→List Int
 | 0,_=>[]
 | n+1,rem=>match defs.findIdx? (rdy rem) with
  | none=>[]
  | some i=>idAt defs i::ordS defs n (rem.erase (idAt defs i))
def orderS (p:Pg):List Int:=ordS p.defs p.defs.length (p.defs.map (·.id))
theorem t_Order11 (id:Int) (rem:List Int) (b m:Nat) (s:St) (hb:s.boxes[b]? = some (.cells [.map m])) (hm:s.boxes[m]? = some (.map (mapB rem))):Spec Tryz.prog 85 [.int .i64 id,.box b 0] s (.bool (rem.contains id)) s:=by
 obtain ⟨B,L,c⟩:=s
 have hb:B[b]? = some (.cells [.map m]):=hb
 have hm:B[m]? = some (.map (mapB rem)):=hm
 refine Spec.introN [] Tryz.func85 rfl (by decide) hmix (by kernel_rfl) [ResultVar.tmp 3] 7 rfl rfl ?_
 simp only [vqM,vt63,zA,zS,hb,hm,look_mapB]
 refine ko9 (.inr rfl) ?_ (.bool _)
 simp only [vqM]
theorem t_Order1 (d:Df) (rem:List Int) (b m:Nat) (s:St) (hb:s.boxes[b]? = some (.cells [.map m])) (hm:s.boxes[m]? = some (.map (mapB rem))) (hN:(rawC (flatL 1 d.body)).length≤12):Spec Tryz.prog 82 [.agg d.cells,.box b 0] s (.bool (rdy rem d)) s:=by
 obtain ⟨B,L,c⟩:=s
 have hb2:∀ X,(B++X)[b]? = some (.cells [.map m]):=fun X=>kx9 hb
 have hm2:∀ X,(B++X)[m]? = some (.map (mapB rem)):=fun X=>kx9 hm
 refine Spec.introN [] Tryz.func82 rfl (by decide) hmix (by kernel_rfl) [ResultVar.tmp 3] 15 rfl rfl ?_
 simp only [vqM,vt64,zA,zS,hb2,hm2,look_mapB]
 refine kb9 (fun hc=>?_) (fun hc=>?_)
 ·simp only [vqM,vt64,hc]
  refine ka9 (t_Calls d hN _) ?_
  simp only [vqM]
  refine ka9 (t_conInt (.func (.func 85) [] [.box b 0]) rfl (fun i=>rem.contains i) _ _ fun x _=>?_) ?_
  ·refine (show CallVQ _ _ _ _ _ from ?_)
   simp only [CallVQ,List.nil_append,List.cons_append]
   exact t_Order11 x rem b m _ (hb2 _) (hm2 _)
  simp only [vqM]
  refine ke9 (.inr rfl) ?_ (.bool _) (fun _ h=>h) (Nat.le_refl _)
  simp only [vqM]
  simp only [rdy,hc,Bool.true_and]
 ·simp only [vqM,hc]
  refine ke9 (.inr rfl) ?_ (.bool _) (fun _ h=>h) (Nat.le_refl _)
  simp only [vqM]
  simp only [rdy,hc,Bool.false_and]
theorem t_Order (p:Pg) (hnd:(p.defs.map (·.id)).Nodup) (hN:∀ d ∈ p.defs,(rawC (flatL 1 d.body)).length≤12) (hlen:p.defs.length<1000000) (s:St):Spec Tryz.prog 43 [.agg p.cells] s (.slice .none (intCells (orderS p))) s:=by
 refine Spec.wf fun hW=>?_
 obtain ⟨B,L,c⟩:=s
 have hW0:WfL L c:=⟨hW.nd,hW.lt⟩
 refine Spec.introN [] Tryz.func43 rfl (by decide) hmix (by kernel_rfl) [ResultVar.tmp 2] 45 rfl rfl ?_
 simp only [vqM,vt65,zA,zS,kg9]
 refine kc9 [1,3,4,11,12,13] ?_
 simp only [vke,zB,zA]
 refine km9 hmix p.defs.length (fun k e s=>e=[J,.box B.length 0,J,.slice .nil [],.box (B.length+2) 0,J,J,J,J,J,J,.slice .none (dfCells p.defs),.int .i64 p.defs.length,.int .i64 (k:Int),J,J,J,J,J,J,J,J,J,J,J,J,J,J,J,J,J,J,J,J,J,J,J,J,J,J,J,J,J,J,J]∧∃ X,s=⟨B++.cells p.cells::.map (mapB ((p.defs.map (·.id)).take k))::.cells [.map (B.length+1)]::X,L,c⟩) ?_ ?_ 0 _ _ (Nat.zero_le _) ⟨rfl,[],rfl⟩
 ·rintro k e s hk ⟨rfl,X,rfl⟩ ih
  have hx:p.defs[k]? = some p.defs[k]:=List.getElem?_eq_getElem hk
  have hg:(dfCells p.defs)[k]? = some (p.defs[k].cells):=by simp [dfCells,hx]
  have hklt:((k:Int)<(p.defs.length:Int))=True:=by simp;exact hk
  have hni:p.defs[k].id ∉ (p.defs.map (·.id)).take k:=by
   intro hm
   obtain ⟨j,hj,he⟩:=List.getElem_of_mem hm
   simp at hj
   have:=(List.getElem_inj (h₀:=by simp;omega) (h₁:=by simpa using hk) hnd (i:=j) (j:=k)).1 (by simpa using he)
   omega
  have hfind:=mapFind_out _ 0 hni
  have hput:=put_mapB hni
  have hnext:(p.defs.map (·.id)).take (k+1)=(p.defs.map (·.id)).take k++[p.defs[k].id]:=by rw [List.take_add_one];simp [hx]
  simp only [vqM,vt65,zA,hklt,decide_true,natle0,Int.toNat_natCast,hg,hfind,hput]
  rw [kf9 (by omega),← hnext]
  refine kc9 [1,3,4,11,12,13] ?_
  simp only [vke,zB,zA]
  exact ih _ _ ⟨rfl,_,rfl⟩
 ·rintro e s ⟨rfl,X,rfl⟩
  have hklt:((p.defs.length:Int)<(p.defs.length:Int))=False:=by simp
  rw [List.take_of_length_le (by simp)]
  simp only [vqM,hklt,decide_false]
  refine kc9 [1,3,4,7] ?_
  simp only [vke,zB,zA]
  refine km9 hmix p.defs.length (fun k e s=>∃ (rem out:List Int) (o:Own) (L':List Nat) (c':Nat),e=[J,.box B.length 0,J,.slice o (intCells out),.box (B.length+2) 0,J,J,.func (.func 82) [] [.box (B.length+2) 0],J,J,J,J,J,J,J,J,J,J,J,J,J,J,J,J,J,J,J,J,J,J,J,J,J,J,J,J,J,J,J,J,J,J,J,J,J] ∧
   s=⟨B++.cells p.cells::.map (mapB rem)::.cells [.map (B.length+1)]::X,L',c'⟩∧OutO L c 1 o L' c'∧rem.length=p.defs.length - k∧rem.Nodup∧out.length=k∧out++ordS p.defs (p.defs.length - k) rem=orderS p) ?_ ?_ 0 _ _ (Nat.zero_le _) ⟨_,[],_,_,_,rfl,rfl,.start hW0 1,by simp,hnd,rfl,rfl⟩
  ·rintro k e s hk ⟨rem,out,o,L',c',rfl,rfl,hO,r1,r2,r3,r4⟩ ih
   simp only [vqM,vt65,zA]
   refine ka9 (t_idxDf _ (rdy rem) p.defs _ fun d hd=>?_) ?_
   ·refine (show CallVQ _ _ _ _ _ from ?_)
    simp only [CallVQ,List.nil_append,List.cons_append]
    exact t_Order1 d rem (B.length+2) (B.length+1) _ (by rw [wi9];rfl) (by rw [wi9];rfl) (hN d hd)
   have hstep:p.defs.length - k=(p.defs.length - (k+1))+1:=by omega
   rw [hstep,ordS] at r4
   cases hfi:p.defs.findIdx? (rdy rem) with
   | none =>
    have hid:idxP (rdy rem) p.defs = -1:=by simp [idxP,hfi]
    have hlt:decide ((-1:Int)<0)=true:=by decide
    rw [hfi,List.append_nil] at r4
    simp only [vqM,hid,hlt]
    refine ke9 (.inr rfl) ?_ (xx9 _) hO.sub hO.le
    simp only [vqM]
    rw [r4]
   | some i =>
    have hid:idxP (rdy rem) p.defs=i:=by simp [idxP,hfi]
    have hlt:decide ((i:Int)<0)=false:=by simp
    obtain ⟨hil,hri,-⟩:=List.findIdx?_eq_some_iff_getElem.1 hfi
    have hx:p.defs[i]? = some p.defs[i]:=List.getElem?_eq_getElem hil
    have hat:idAt p.defs i=p.defs[i].id:=by simp [idAt,hx]
    have hg:(dfCells p.defs)[i]? = some (p.defs[i].cells):=by simp [dfCells,hx]
    have hmem:p.defs[i].id ∈ rem:=by simp [rdy] at hri;exact hri.1
    obtain ⟨q,hfind,hcut⟩:=mapFind_at rem 0 hmem
    rw [Nat.zero_add] at hfind
    rw [hfi] at r4
    simp only [hat] at r4
    have hof:∀ B',qa9 o (intCells out) 1 ⟨B',L',c'⟩=true:=fun B'=>hO.lv.fits (qb9 _) B' c'
    have hl1:(out.length+1≤1000000)=True:=eq_true (by omega)
    have hcut2:mapCut (some (q,.bool true)) (mapB rem)=mapB (rem.erase p.defs[i].id):=hcut
    generalize p.defs[i]=x at hg hmem hfind hcut2 r4 hx
    simp only [vqM,vt65,zA,zM,zL,hid,hlt,hg,natle0,Int.toNat_natCast,hof,qg9,kd9,hl1,qq9,hfind,hcut2]
    refine kc9 [1,3,4,7] ?_
    simp only [vke,zB,zA]
    refine ih _ _ ⟨rem.erase x.id,out++[x.id],_,_,_,rfl,rfl,hO.step hW0,?_,r2.erase _,by simp [r3],?_⟩
    ·rw [List.length_erase_of_mem hmem];omega
    ·rw [← r4];simp
  ·rintro e s ⟨rem,out,o,L',c',rfl,rfl,hO,r1,r2,r3,r4⟩
   have hrem:rem=[]:=List.eq_nil_of_length_eq_zero (by omega)
   subst hrem
   have hfi:p.defs.findIdx? (rdy [])=none:=by rw [List.findIdx?_eq_none_iff];intro x _;simp [rdy]
   have hid:idxP (rdy []) p.defs = -1:=by simp [idxP,hfi]
   have hlt:decide ((-1:Int)<0)=true:=by decide
   rw [Nat.sub_self,ordS,List.append_nil] at r4
   simp only [vqM,vt65,zA]
   refine ka9 (t_idxDf _ (rdy []) p.defs _ fun d hd=>?_) ?_
   ·refine (show CallVQ _ _ _ _ _ from ?_)
    simp only [CallVQ,List.nil_append,List.cons_append]
    exact t_Order1 d [] (B.length+2) (B.length+1) _ (by rw [wi9];rfl) (by rw [wi9];rfl) (hN d hd)
   simp only [vqM,hid,hlt]
   refine ke9 (.inr rfl) ?_ (xx9 _) hO.sub hO.le
   simp only [vqM]
   rw [r4]
set_option maxHeartbeats 4000000
def dis:List Int→List Int→Bool
 | [],_=>true
 | x::l,seen=>!seen.contains x && dis l (seen++[x])
def scanD (p:Pg):List Df→List Int→Int→Bool
 | [],_,_=>true
 | d::l,seen,last=>!(decide (d.id≤last) || !rightB p d) && (dis (sitesS d) seen && scanD p l (seen++sitesS d) d.id)
def faultB (p:Pg):Bool:=!declB p.d || !headsB p || decide ((p.defs.length:Int) > 40) || decide ((p.threads.length:Int) > 4)
def noThr (p:Pg) (id:Int):Bool:=!(findS p id).isSome || decide (w64 ((((findS p id).getD Df.zero).params.length:Int)+((findS p id).getD Df.zero).given.length) > 0)
def wf9 (p:Pg):Int :=
 if faultB p then 60 else if !scanD p p.defs [] 0 then 60 else if p.threads.any (noThr p) then 60 else if (orderS p).length≠p.defs.length then 180 else 0
structure PgOk (p:Pg):Prop where
 nm:∀ d ∈ p.defs,d.name.size≤1000000000
 fl:∀ d ∈ p.defs,(flatL 1 d.body).length<1000000
 ca:∀ d ∈ p.defs,(rawC (flatL 1 d.body)).length≤12
theorem scanD_lt (p:Pg):∀ (l:List Df) (seen:List Int) (last:Int),scanD p l seen last=true→(l.map (·.id)).Pairwise (· < ·)∧∀ d ∈ l,last<d.id:=by
 intro l
 induction l with
 | nil=>intro _ _ _;simp
 | cons d l ih =>
  intro seen last h
  simp only [scanD,Bool.and_eq_true,Bool.not_eq_true',Bool.or_eq_false_iff,decide_eq_false_iff_not] at h
  obtain ⟨h1,h2⟩:=ih _ _ h.2.2
  refine ⟨by simpa using ⟨h2,by simpa using h1⟩,fun x hx=>?_⟩
  rcases List.mem_cons.1 hx with rfl | hx
  ·omega
  ·have:=h2 x hx;omega
theorem scanD_nodup {p:Pg} (h:scanD p p.defs [] 0=true):(p.defs.map (·.id)).Nodup:=(scanD_lt p _ _ _ h).1.imp fun h=>by omega
theorem dn60:decide ((60:Int)≠0)=true:=by decide
theorem dn00:decide ((0:Int)≠0)=false:=by decide
theorem t_Program (p:Pg) (H:PgOk p) (s:St):Spec Tryz.prog 19 [.agg p.cells] s (.int .i64 (wf9 p)) s:=by
 obtain ⟨B,L,c⟩:=s
 refine Spec.introN [(1,.cut),(22,.cut),(25,.text [false,true,false,false,false,false,false] [(4,0),(5,0)])] Tryz.func19 rfl (by decide) hmix (by kernel_rfl) [ResultVar.tmp 2] 101 rfl rfl ?_
 simp only [vqM,zA,zS,zB]
 refine seq_joinS hmix [1,33] [J,.box B.length 0,J,J,J,J,J,J,J,J,J,J,J,J,J,J,J,J,J,J,J,J,J,J,J,J,J,J,J,J,J,J,J,.bool (faultB p),J,J,J,J,J,J,J,J,J,J,J,J,J,J,J,J,J,J,J,J,J,J,J,J,J,J,J,J,J,J,J,J,J,J,J,J,J,J,J,J,J,J,J,J,J,J,J,J,J,J,J,J,J,J,J,J,J,J,J,J,J,J,J,J,J,J,J] ?_ ?_
 ·simp only [vqM,vt66,zA,zL]
  refine ka9 (t_Decl _ _) ?_
  cases hd:declB p.d
  ·simp only [vqM,reduceCtorEq,dn60]
   refine kj9 ⟨?_,rfl⟩
   simp only [vke,zB,zA]
   simp [faultB,hd]
  ·simp only [vqM,vt66,dn00]
   repeat' (first
    | ((with_reducible refine kh9 ?_);refine ka9 (t_rightHeads _ _) ?_;simp only [vqM])
    | (with_reducible refine kb9 (fun hc=>?_) (fun hc=>?_) <;> simp only [vqM,vt66,hc,zA,kg9,kd9])
    | ((with_reducible refine is_q ?_);refine kj9 ⟨?_,rfl⟩ <;> simp only [vke,zB,zA] <;> (first | (simp only [faultB, *,Bool.true_or,Bool.false_or,Bool.or_true,Bool.or_false,Bool.not_true];done) | (simp_all [faultB,hd];done) | (simp_all [faultB,hd];omega))))
 simp only [vqM]
 refine kb9 (fun hc=>?_) (fun hc=>?_)
 ·simp only [vqM,zB]
  refine ke9 (.inr rfl) ?_ (.int _ _) (fun _ h=>h) (Nat.le_refl _)
  simp only [vqM]
  simp [wf9,hc]
 have hdl:p.defs.length≤40:=by
  simp only [faultB,Bool.or_eq_false_iff,decide_eq_false_iff_not] at hc
  omega
 have htl:p.threads.length≤4:=by
  simp only [faultB,Bool.or_eq_false_iff,decide_eq_false_iff_not] at hc
  omega
 have hP1:wf9 p=if !scanD p p.defs [] 0 then 60 else if p.threads.any (noThr p) then 60 else if (orderS p).length≠p.defs.length then 180 else 0:=by rw [wf9,hc];rfl
 simp only [vqM,vt66,zA,zB,kg9]
 refine kc9 [1,3,4,36,37,38] ?_
 simp only [vke,zB,zA]
 refine km9 hmix p.defs.length (fun k e s=>∃ (seen:List Int) (last:Int) (X:List Box),e=[J,.box B.length 0,J,.map (B.length+1),.int .i64 last,J,J,J,J,J,J,J,J,J,J,J,J,J,J,J,J,J,J,J,J,J,J,J,J,J,J,J,J,J,J,J,.slice .none (dfCells p.defs),.int .i64 p.defs.length,.int .i64 (k:Int),J,J,J,J,J,J,J,J,J,J,J,J,J,J,J,J,J,J,J,J,J,J,J,J,J,J,J,J,J,J,J,J,J,J,J,J,J,J,J,J,J,J,J,J,J,J,J,J,J,J,J,J,J,J,J,J,J,J,J,J,J,J] ∧
  s=⟨B++.cells p.cells::.map (mapB seen)::X,L,c⟩∧scanD p p.defs [] 0=scanD p (p.defs.drop k) seen last) ?_ ?_ 0 _ _ (Nat.zero_le _) ⟨[],0,[],rfl,rfl,rfl⟩
 ·rintro k e s hk ⟨seen,last,X,rfl,rfl,hI⟩ ih
  have hx:p.defs[k]? = some p.defs[k]:=List.getElem?_eq_getElem hk
  have hg:(dfCells p.defs)[k]? = some (p.defs[k].cells):=by simp [dfCells,hx]
  have hklt:((k:Int)<(p.defs.length:Int))=True:=by simp;exact hk
  have hd:p.defs.drop k=p.defs[k]::p.defs.drop (k+1):=List.drop_eq_getElem_cons hk
  rw [hd,scanD] at hI
  have hmem:=List.getElem_mem hk
  have hnm:=H.nm _ hmem
  have hfl:=H.fl _ hmem
  generalize p.defs[k]=d at hx hg hd hI hmem hnm hfl
  simp only [vqM,vt66,zA,zB,hklt,decide_true,natle0,Int.toNat_natCast,hg]
  have hbad:(decide (d.id≤last) || !rightB p d)=true→wf9 p=60:=fun h=>by rw [hP1,hI,h];rfl
  refine kb9 (fun h1=>?_) (fun h1=>?_)
  ·simp only [vqM,zB,h1]
   refine ke9 (.inr rfl) ?_ (.int _ _) (fun _ h=>h) (Nat.le_refl _)
   simp only [vqM]
   rw [hbad (by rw [h1];rfl)]
  simp only [vqM,vt66,h1]
  refine ka9 (t_rightDef p d hnm _) ?_
  simp only [vqM]
  refine kb9 (fun h2=>?_) (fun h2=>?_)
  ·simp only [vqM,zB,h2]
   refine ke9 (.inr rfl) ?_ (.int _ _) (fun _ h=>h) (Nat.le_refl _)
   simp only [vqM]
   rw [hbad (by rw [h1,h2];rfl)]
  rw [h1,h2] at hI
  simp only [Bool.or_false,Bool.not_false,Bool.true_and] at hI
  simp only [vqM,vt66,zA,zB,h2]
  refine ka9 (t_Sites d hfl _) ?_
  simp only [vqM,vt66,kd9]
  refine kc9 [1,3,4,36,37,38,55,56,57] ?_
  simp only [vke,zB,zA]
  refine km9 hmix (sitesS d).length (fun j e s=>e=[J,.box B.length 0,J,.map (B.length+1),.int .i64 d.id,J,J,J,J,J,J,J,J,J,J,J,J,J,J,J,J,J,J,J,J,J,J,J,J,J,J,J,J,J,J,J,.slice .none (dfCells p.defs),.int .i64 p.defs.length,.int .i64 (k:Int),J,J,J,J,J,J,J,J,J,J,J,J,J,J,J,J,.slice .none (intCells (sitesS d)),.int .i64 (sitesS d).length,.int .i64 (j:Int),J,J,J,J,J,J,J,J,J,J,J,J,J,J,J,J,J,J,J,J,J,J,J,J,J,J,J,J,J,J,J,J,J,J,J,J,J,J,J,J,J,J,J] ∧
   s=⟨B++.cells p.cells::.map (mapB (seen++(sitesS d).take j))::(X++[.cells d.cells]),L,c⟩∧scanD p p.defs [] 0=(dis ((sitesS d).drop j) (seen++(sitesS d).take j) && scanD p (p.defs.drop (k+1)) (seen++sitesS d) d.id)) ?_ ?_ 0 _ _ (Nat.zero_le _) ⟨rfl,by simp,by simpa using hI⟩
  ·rintro j e s hj ⟨rfl,rfl,hJ⟩ ih2
   have hy:(sitesS d)[j]? = some (sitesS d)[j]:=List.getElem?_eq_getElem hj
   have hgy:(intCells (sitesS d))[j]? = some [.int .i64 (sitesS d)[j]]:=by simp [intCells,hy]
   have hjlt:((j:Int)<((sitesS d).length:Int))=True:=by simp;exact hj
   have hdy:(sitesS d).drop j=(sitesS d)[j]::(sitesS d).drop (j+1):=List.drop_eq_getElem_cons hj
   have hty:(sitesS d).take (j+1)=(sitesS d).take j++[(sitesS d)[j]]:=by rw [List.take_add_one,hy];rfl
   rw [hdy,dis] at hJ
   generalize (sitesS d)[j]=y at hy hgy hdy hty hJ
   simp only [vqM,vt66,zA,zB,hjlt,decide_true,natle0,Int.toNat_natCast,hgy,look_mapB]
   refine kb9 (fun h3=>?_) (fun h3=>?_)
   ·simp only [vqM,zB]
    refine ke9 (.inr rfl) ?_ (.int _ _) (fun _ h=>h) (Nat.le_refl _)
    simp only [vqM]
    rw [hP1,hJ,h3];rfl
   have hni:y ∉ seen++(sitesS d).take j:=by simpa using h3
   have hfind:=mapFind_out _ 0 hni
   have hput:=put_mapB hni
   rw [h3] at hJ
   simp only [Bool.not_false,Bool.true_and] at hJ
   simp only [vqM,vt66,hfind,hput]
   rw [kf9 (by have:=hfl;simp [sitesS,sitesL] at hj;omega),← hty]
   refine kc9 [1,3,4,36,37,38,55,56,57] ?_
   simp only [vke,zB,zA]
   exact ih2 _ _ ⟨rfl,rfl,by rw [hJ,hty,List.append_assoc]⟩
  ·rintro e s ⟨rfl,rfl,hJ⟩
   have hjlt:(((sitesS d).length:Int)<((sitesS d).length:Int))=False:=by simp
   rw [List.drop_length,List.take_length,dis,Bool.true_and] at hJ
   rw [List.take_length]
   simp only [vqM,zB,hjlt,decide_false]
   rw [kf9 (by omega)]
   refine kc9 [1,3,4,36,37,38] ?_
   simp only [vke,zB,zA]
   exact ih _ _ ⟨_,_,_,rfl,rfl,hJ⟩
 ·rintro e s ⟨seen,last,X,rfl,rfl,hI⟩
  have hklt:((p.defs.length:Int)<(p.defs.length:Int))=False:=by simp
  rw [List.drop_length,scanD] at hI
  have hP2:wf9 p=if p.threads.any (noThr p) then 60 else if (orderS p).length≠p.defs.length then 180 else 0:=by rw [hP1,hI];rfl
  clear hP1
  simp only [vqM,vt66,zA,zB,kd9,hklt,decide_false]
  refine kc9 [1,69,70,71] ?_
  simp only [vke,zB,zA]
  refine km9 hmix p.threads.length (fun k e s=>e=[J,.box B.length 0,J,J,J,J,J,J,J,J,J,J,J,J,J,J,J,J,J,J,J,J,J,J,J,J,J,J,J,J,J,J,J,J,J,J,J,J,J,J,J,J,J,J,J,J,J,J,J,J,J,J,J,J,J,J,J,J,J,J,J,J,J,J,J,J,J,J,J,.slice .none (intCells p.threads),.int .i64 p.threads.length,.int .i64 (k:Int),J,J,J,J,J,J,J,J,J,J,J,J,J,J,J,J,J,J,J,J,J,J,J,J,J,J,J,J,J]∧(∃ X,s=⟨B++.cells p.cells::X,L,c⟩)∧∀ j (h:j<p.threads.length),j<k→noThr p p.threads[j]=false) ?_ ?_ 0 _ _ (Nat.zero_le _) ⟨rfl,⟨_,rfl⟩,by intro j _ h;omega⟩
  ·rintro k e s hk ⟨rfl,⟨X,rfl⟩,hJ⟩ ih
   have hx:p.threads[k]? = some p.threads[k]:=List.getElem?_eq_getElem hk
   have hg:(intCells p.threads)[k]? = some [.int .i64 p.threads[k]]:=by simp [intCells,hx]
   have hklt:((k:Int)<(p.threads.length:Int))=True:=by simp;exact hk
   have hany:noThr p p.threads[k]=true→p.threads.any (noThr p)=true:=fun h=>List.any_eq_true.2 ⟨_,List.getElem_mem hk,h⟩
   have hJk:=hJ
   simp only [vqM,vt66,zA,zB,hklt,decide_true,natle0,Int.toNat_natCast,hg]
   refine ka9 (t_Find p p.threads[k] _) ?_
   simp only [vqM,vt66,zA,zB,findSD]
   refine seq_joinS hmix [1,69,70,71,92] [J,.box B.length 0,J,J,J,J,J,J,J,J,J,J,J,J,J,J,J,J,J,J,J,J,J,J,J,J,J,J,J,J,J,J,J,J,J,J,J,J,J,J,J,J,J,J,J,J,J,J,J,J,J,J,J,J,J,J,J,J,J,J,J,J,J,J,J,J,J,J,J,.slice .none (intCells p.threads),.int .i64 p.threads.length,.int .i64 (k:Int),J,J,J,J,J,J,J,J,J,J,J,J,J,J,J,J,J,J,J,J,.bool (noThr p p.threads[k]),J,J,J,J,J,J,J,J] ?_ ?_
   ·simp only [vqM]
    repeat' (first
     | (with_reducible refine kb9 (fun hc=>?_) (fun hc=>?_) <;> simp only [vqM,vt66,hc,zA,kk9,wv9])
     | ((with_reducible refine is_q ?_);refine kj9 ⟨?_,rfl⟩ <;> simp only [vke,zB,zA] <;> (first | (simp only [noThr, *,Bool.true_or,Bool.false_or];done) | (simp_all [noThr];done) | (simp_all [noThr];omega))))
   simp only [vqM]
   refine kb9 (fun h1=>?_) (fun h1=>?_)
   ·simp only [vqM,zB]
    refine ke9 (.inr rfl) ?_ (.int _ _) (fun _ h=>h) (Nat.le_refl _)
    simp only [vqM]
    rw [hP2,hany h1];rfl
   simp only [vqM]
   rw [kf9 (by omega)]
   refine kc9 [1,69,70,71] ?_
   simp only [vke,zB,zA]
   refine ih _ _ ⟨rfl,⟨_,rfl⟩,fun j hj hjk=>?_⟩
   by_cases e:j=k
   ·subst e;exact h1
   ·exact hJ j hj (by omega)
  ·rintro e s ⟨rfl,⟨X,rfl⟩,hJ⟩
   have hno:p.threads.any (noThr p)=false:=List.any_eq_false.2 fun x hx=>by
    obtain ⟨j,hj,rfl⟩:=List.getElem_of_mem hx
    simpa using hJ j hj hj
   have hP3:wf9 p=if (orderS p).length≠p.defs.length then 180 else 0:=by rw [hP2,hno];rfl
   have hklt:((p.threads.length:Int)<(p.threads.length:Int))=False:=by simp
   simp only [vqM,vt66,zB,hklt,decide_false]
   refine ka9 (t_Order p (scanD_nodup hI) H.ca (by omega) _) ?_
   simp only [vqM,vt66,zA,kd9,kg9]
   refine kb9 (fun h1=>?_) (fun h1=>?_)
   ·simp only [vqM,zB]
    refine ke9 (.inr rfl) ?_ (.int _ _) (fun _ h=>h) (Nat.le_refl _)
    simp only [vqM]
    rw [hP3,if_pos (by simp at h1;omega)]
   ·simp only [vqM,zB]
    refine ke9 (.inr rfl) ?_ (.int _ _) (fun _ h=>h) (Nat.le_refl _)
    simp only [vqM]
    rw [hP3,if_neg (by simp at h1;omega)]
theorem intAt {l:List Int} {k:Nat} (h:k<l.length):(intCells l)[k]? = some [.int .i64 l[k]]:=by simp [intCells,h]
theorem t_Has (l:List Int) (n:Int) (s:St):Spec Tryz.prog 21 [.slice .none (intCells l),.int .i64 n] s (.bool (l.contains n)) s:=by
 refine Spec.small fun hsm=>?_
 have hlen:=(hsm _ (.head _)).len
 rw [kd9] at hlen
 clear hsm
 refine Spec.introN [] Tryz.func21 rfl (by decide) hmix (by kernel_rfl) [ResultVar.tmp 4] 18 rfl rfl ?_
 simp only [vqM,zA,zS]
 refine kc9 [0,1,5] ?_
 simp only [vke,zB,zA]
 refine xc9 hmix l.length (fun k=>[.slice .none (intCells l),.int .i64 n,J,J,J,.int .i64 (k:Int),J,J,J,J,J,J,J,J,J,J,J,J]) (fun _=>s) (fun k=>l.contains n=(l.drop k).contains n) ?_ ?_ 0 (Nat.zero_le _) rfl
 ·intro k hk hI ih
  have hg:=intAt hk
  have hklt:((k:Int)<(l.length:Int))=True:=by simp;exact hk
  have hd:l.drop k=l[k]::l.drop (k+1):=List.drop_eq_getElem_cons hk
  rw [hd,List.contains_cons] at hI
  simp only [vqM,vt25,zA,kd9,hklt,decide_true,natle0,Int.toNat_natCast,hg]
  refine kb9 (fun hc=>?_) (fun hc=>?_)
  ·have e:l[k]=n:=of_decide_eq_true hc
   simp only [vqM]
   refine ko9 (.inr rfl) ?_ (.bool _)
   simp only [vqM]
   rw [hI,e];simp
  ·have e:¬ l[k]=n:=of_decide_eq_false hc
   simp only [vqM]
   rw [kf9 (by omega)]
   refine kc9 [0,1,5] ?_
   simp only [vke,zB,zA]
   refine ih ?_
   rw [hI,show (n == l[k])=false from by simpa using fun h=>e h.symm,Bool.false_or]
 ·intro hI
  have hklt:((l.length:Int)<(l.length:Int))=False:=by simp
  simp only [vqM,vt25,kd9,hklt,decide_false]
  refine ko9 (.inr rfl) ?_ (.bool _)
  simp only [vqM]
  rw [hI];simp
theorem yb9 (l m:List Int) (s:St):Spec Tryz.prog 15 [.slice .none (intCells l),.slice .none (intCells m)] s (.bool (decide (l=m))) s:=by
 refine Spec.small fun hsm=>?_
 have hlen:=(hsm _ (.head _)).len
 rw [kd9] at hlen
 clear hsm
 refine Spec.introN [] Tryz.func15 rfl (by decide) hmix (by kernel_rfl) [ResultVar.tmp 4] 26 rfl rfl ?_
 simp only [vqM,vt25,zA,zS,kd9]
 refine kb9 (fun hc=>?_) (fun hc=>?_)
 ·simp only [vqM]
  refine ko9 (.inr rfl) ?_ (.bool _)
  have:l≠m:=by rintro rfl;simp at hc
  simp only [vqM]
  rw [decide_eq_false this]
 have hll:l.length=m.length:=by simp at hc;omega
 simp only [vqM]
 refine kc9 [0,1,5] ?_
 simp only [vke,zB,zA]
 refine xc9 hmix l.length (fun k=>[.slice .none (intCells l),.slice .none (intCells m),J,J,J,.int .i64 (k:Int),J,J,J,J,J,J,J,J,J,J,J,J,J,J,J,J,J,J,J,J]) (fun _=>s) (fun k=>l.take k=m.take k) ?_ ?_ 0 (Nat.zero_le _) rfl
 ·intro k hk hI ih
  have hkm:k<m.length:=by omega
  have hx:l[k]? = some l[k]:=List.getElem?_eq_getElem hk
  have hy:m[k]? = some m[k]:=List.getElem?_eq_getElem hkm
  have hg:=intAt hk
  have hh:=intAt hkm
  have hklt:((k:Int)<(l.length:Int))=True:=by simp;exact hk
  simp only [vqM,vt25,zA,kd9,hklt,decide_true,natle0,Int.toNat_natCast,hg,hh]
  refine kb9 (fun hc=>?_) (fun hc=>?_)
  ·simp only [vqM]
   refine ko9 (.inr rfl) ?_ (.bool _)
   simp only [vqM]
   have:l≠m:=by rintro rfl;simp at hc
   rw [decide_eq_false this]
  ·simp only [vqM]
   rw [kf9 (by omega)]
   refine kc9 [0,1,5] ?_
   simp only [vke,zB,zA]
   refine ih ?_
   have hc':l[k]=m[k]:=by simpa using hc
   rw [List.take_add_one,List.take_add_one,hx,hy,hI,hc']
 ·intro hI
  have hklt:((l.length:Int)<(l.length:Int))=False:=by simp
  simp only [vqM,vt25,kd9,hklt,decide_false]
  refine ko9 (.inr rfl) ?_ (.bool _)
  simp only [vqM]
  rw [List.take_length,hll,List.take_length] at hI
  rw [decide_eq_true hI]
def diffB (l:List Int):Bool:=decide l.Nodup
theorem nodup_take_succ {l:List Int} {k:Nat} (h:k<l.length):(l.take (k+1)).Nodup↔(l.take k).Nodup∧∀ j (hj:j<l.length),j<k→l[k]≠l[j]:=by
 rw [List.take_add_one,List.getElem?_eq_getElem h,Option.toList_some,List.nodup_append]
 constructor
 ·rintro ⟨h1,_,h3⟩
  refine ⟨h1,fun j hj hjk e=>h3 l[j] (List.mem_take_iff_getElem.2 ⟨j,by omega,rfl⟩) l[k] (by simp) e.symm⟩
 ·rintro ⟨h1,h2⟩
  refine ⟨h1,by simp,fun a ha b hb e=>?_⟩
  obtain ⟨j,hj,rfl⟩:=List.mem_take_iff_getElem.1 ha
  simp at hb;subst hb
  exact h2 j (by omega) (by omega) e.symm
theorem t_Different (l:List Int) (s:St):Spec Tryz.prog 57 [.slice .none (intCells l)] s (.bool (diffB l)) s:=by
 refine Spec.small fun hsm=>?_
 have hlen:=(hsm _ (.head _)).len
 rw [kd9] at hlen
 clear hsm
 refine Spec.introN [] Tryz.func57 rfl (by decide) hmix (by kernel_rfl) [ResultVar.tmp 2] 25 rfl rfl ?_
 simp only [vqM,zA,zS]
 refine kc9 [0,3] ?_
 simp only [vke,zB,zA]
 refine xc9 hmix l.length (fun k=>[.slice .none (intCells l),J,J,.int .i64 (k:Int),J,J,J,J,J,J,J,J,J,J,J,J,J,J,J,J,J,J,J,J,J]) (fun _=>s) (fun k=>(l.take k).Nodup) ?_ ?_ 0 (Nat.zero_le _) (by simp)
 ·intro k hk hI ih
  have hg:=intAt hk
  have hklt:((k:Int)<(l.length:Int))=True:=by simp;exact hk
  simp only [vqM,vt25,kd9,hklt,decide_true]
  refine kc9 [0,3,4] ?_
  simp only [vke,zB,zA]
  refine xc9 hmix k (fun j=>[.slice .none (intCells l),J,J,.int .i64 (k:Int),.int .i64 (j:Int),J,J,J,J,J,J,J,J,J,J,J,J,J,J,J,J,J,J,J,J]) (fun _=>s) (fun m=>∀ j (hj:j<l.length),j<m→l[k]≠l[j]) ?_ ?_ 0 (Nat.zero_le _) (by intro j _ h;omega)
  ·intro j hj hJ ih2
   have hh:=intAt (show j<l.length by omega)
   have hjlt:((j:Int)<(k:Int))=True:=by simp;exact hj
   simp only [vqM,vt25,zA,hjlt,decide_true,natle0,Int.toNat_natCast,hg,hh]
   refine kb9 (fun hc=>?_) (fun hc=>?_)
   ·have e:l[k]=l[j]:=of_decide_eq_true hc
    simp only [vqM]
    refine ko9 (.inr rfl) ?_ (.bool _)
    simp only [vqM]
    have:¬ l.Nodup:=fun hn=>by
     have:=(List.getElem_inj (h₀:=hk) (h₁:=by omega) hn).1 e
     omega
    rw [diffB,decide_eq_false this]
   ·have e:¬ l[k]=l[j]:=of_decide_eq_false hc
    simp only [vqM]
    rw [kf9 (by omega)]
    refine kc9 [0,3,4] ?_
    simp only [vke,zB,zA]
    refine ih2 fun i hi hij=>?_
    by_cases q:i=j
    ·subst q;exact e
    ·exact hJ i hi (by omega)
  ·intro hJ
   have hjlt:((k:Int)<(k:Int))=False:=by simp
   simp only [vqM,hjlt,decide_false]
   rw [kf9 (by omega)]
   refine kc9 [0,3] ?_
   simp only [vke,zB,zA]
   exact ih ((nodup_take_succ hk).2 ⟨hI,hJ⟩)
 ·intro hI
  have hklt:((l.length:Int)<(l.length:Int))=False:=by simp
  simp only [vqM,vt25,kd9,hklt,decide_false]
  refine ko9 (.inr rfl) ?_ (.bool _)
  simp only [vqM]
  rw [List.take_length] at hI
  rw [diffB,decide_eq_true hI]
mutual
def Sm.cnt:Sm→Nat
 | .mk _ _ _ _ _ _ _ _ _ _ body els=>1+(cntL body+cntL els)
def cntL:List Sm→Nat
 | []=>0
 | x::l=>x.cnt+cntL l
end
theorem Sm.cnt_eq (x:Sm):x.cnt=1+(cntL x.body+cntL x.els):=by cases x;simp only [Sm.cnt,Sm.body,Sm.els]
mutual
theorem flat_len:(x:Sm)→∀ d,(x.flat d).length=x.cnt
 | .mk site op n m v x y c args ptrs body els=>fun d=>by
  rw [Sm.flat_eq,Sm.cnt_eq]
  simp only [List.length_cons,List.length_append,Sm.body,Sm.els,xr9 body,xr9 els]
  omega
theorem xr9:(l:List Sm)→∀ d,(flatL d l).length=cntL l
 | []=>fun d=>by simp [flatL,cntL]
 | x::l=>fun d=>by rw [flatL,List.length_append,flat_len x d,xr9 l d,cntL]
end
def subL:List Sm→Nat
 | []=>0
 | x::l=>cntL x.body+cntL x.els+subL l
theorem cntL_eq:∀ l:List Sm,cntL l=l.length+subL l
 | []=>rfl
 | x::l=>by rw [cntL,Sm.cnt_eq,subL,cntL_eq l,List.length_cons];omega
theorem cntL_mem:∀ (l:List Sm) (x:Sm),x ∈ l→cntL x.body+cntL x.els<cntL l
 | [],x,h=>by simp at h
 | y::l,x,h=>by
  rw [cntL,Sm.cnt_eq]
  rcases List.mem_cons.1 h with rfl | h
  ·omega
  ·have:=cntL_mem l x h;omega
def headOf (d:Df):Hd:=⟨d.id,d.firm,d.part,d.params,d.given⟩
theorem t_HeadR (d:Df) (s:St):Spec Tryz.prog 44 [.agg d.cells] s (.agg (headOf d).cells) s:=by
 obtain ⟨B,L,c⟩:=s
 refine Spec.introN [] Tryz.func44 rfl (by decide) hmix (by kernel_rfl) [ResultVar.cell 2 69] 14 rfl rfl ?_
 simp only [vqM,vt14,zA,zS,zL]
 refine ke9 (.inr rfl) ?_ (kv9 (Hd.bd _)) (fun _ h=>h) (Nat.le_refl _)
 simp only [vqM,vt14,zA]
 rfl
mutual
def Ex.eqb:Ex→Ex→Bool
 | .mk o n v a,.mk o' n' v' a'=>decide (o=o') && decide (n=n') && decide (v=v') && Ex.eqbs a a'
def Ex.eqbs:List Ex→List Ex→Bool
 | [],[]=>true
 | x::l,y::m=>Ex.eqb x y && Ex.eqbs l m
 | _,_=>false
end
mutual
theorem Ex.eqb_iff:∀ x y:Ex,Ex.eqb x y=true↔x=y
 | .mk o n v a,.mk o' n' v' a'=>by simp only [Ex.eqb,Bool.and_eq_true,decide_eq_true_eq,Ex.eqbs_iff a a',Ex.mk.injEq,and_assoc]
theorem Ex.eqbs_iff:∀ l m:List Ex,Ex.eqbs l m=true↔l=m
 | [],[]=>by simp [Ex.eqbs]
 | [],_::_=>by simp [Ex.eqbs]
 | _::_,[]=>by simp [Ex.eqbs]
 | x::l,y::m=>by simp only [Ex.eqbs,Bool.and_eq_true,Ex.eqb_iff x y,Ex.eqbs_iff l m,List.cons.injEq]
end
instance:DecidableEq Ex:=fun a b=>decidable_of_iff _ (Ex.eqb_iff a b)
mutual
def Co.eqb:Co→Co→Bool
 | .mk o a c,.mk o' a' c'=>decide (o=o') && decide (a=a') && Co.eqbs c c'
def Co.eqbs:List Co→List Co→Bool
 | [],[]=>true
 | x::l,y::m=>Co.eqb x y && Co.eqbs l m
 | _,_=>false
end
mutual
theorem Co.eqb_iff:∀ x y:Co,Co.eqb x y=true↔x=y
 | .mk o a c,.mk o' a' c'=>by simp only [Co.eqb,Bool.and_eq_true,decide_eq_true_eq,Co.eqbs_iff c c',Co.mk.injEq,and_assoc]
theorem Co.eqbs_iff:∀ l m:List Co,Co.eqbs l m=true↔l=m
 | [],[]=>by simp [Co.eqbs]
 | [],_::_=>by simp [Co.eqbs]
 | _::_,[]=>by simp [Co.eqbs]
 | x::l,y::m=>by simp only [Co.eqbs,Bool.and_eq_true,Co.eqb_iff x y,Co.eqbs_iff l m,List.cons.injEq]
end
instance:DecidableEq Co:=fun a b=>decidable_of_iff _ (Co.eqb_iff a b)
mutual
def Sm.eqb:Sm→Sm→Bool
 | .mk s o n m v x y c g p b e,.mk s' o' n' m' v' x' y' c' g' p' b' e'=>decide (s=s') && decide (o=o') && decide (n=n') && decide (m=m') && decide (v=v') && decide (x=x') && decide (y=y') && decide (c=c') && decide (g=g') && decide (p=p') && Sm.eqbs b b' && Sm.eqbs e e'
def Sm.eqbs:List Sm→List Sm→Bool
 | [],[]=>true
 | x::l,y::m=>Sm.eqb x y && Sm.eqbs l m
 | _,_=>false
end
mutual
theorem Sm.eqb_iff:∀ x y:Sm,Sm.eqb x y=true↔x=y
 | .mk s o n m v x y c g p b e,.mk s' o' n' m' v' x' y' c' g' p' b' e'=>by simp only [Sm.eqb,Bool.and_eq_true,decide_eq_true_eq,Sm.eqbs_iff b b',Sm.eqbs_iff e e',Sm.mk.injEq,and_assoc]
theorem Sm.eqbs_iff:∀ l m:List Sm,Sm.eqbs l m=true↔l=m
 | [],[]=>by simp [Sm.eqbs]
 | [],_::_=>by simp [Sm.eqbs]
 | _::_,[]=>by simp [Sm.eqbs]
 | x::l,y::m=>by simp only [Sm.eqbs,Bool.and_eq_true,Sm.eqb_iff x y,Sm.eqbs_iff l m,List.cons.injEq]
end
instance:DecidableEq Sm:=fun a b=>decidable_of_iff _ (Sm.eqb_iff a b)
theorem Ex.eta (x:Ex):x=.mk x.op x.n x.v x.a:=by cases x;rfl
theorem Co.eta (x:Co):x=.mk x.op x.a x.c:=by cases x;rfl
theorem Sm.eta (x:Sm):x=.mk x.site x.op x.n x.m x.v x.x x.y x.c x.args x.ptrs x.body x.els:=by cases x;rfl
theorem Ar.eq_iff (a b:Ar):(a.len=b.len∧a.of=b.of)↔a=b:=by cases a;cases b;simp
instance:DecidableEq Ar:=fun a b=>decidable_of_iff _ (Ar.eq_iff a b)
theorem Qu.eq_iff (a b:Qu):(a.cap=b.cap∧a.r=b.r)↔a=b:=by cases a;cases b;simp
instance:DecidableEq Qu:=fun a b=>decidable_of_iff _ (Qu.eq_iff a b)
theorem Hd.eq_iff (a b:Hd):(a.id=b.id∧a.firm=b.firm∧a.part=b.part∧a.params=b.params∧a.given=b.given)↔a=b:=by cases a;cases b;simp
instance:DecidableEq Hd:=fun a b=>decidable_of_iff _ (Hd.eq_iff a b)
theorem Dc.eq_iff (a b:Dc):(a.globals=b.globals∧a.classes=b.classes∧a.queues=b.queues∧a.sinks=b.sinks∧a.locks=b.locks∧a.parts=b.parts∧a.firms=b.firms)↔a=b:=by cases a;cases b;simp
instance:DecidableEq Dc:=fun a b=>decidable_of_iff _ (Dc.eq_iff a b)
theorem Df.eq_iff (a b:Df):(a.id=b.id∧a.site=b.site∧a.name=b.name∧a.firm=b.firm∧a.part=b.part∧a.params=b.params∧a.given=b.given∧a.vars=b.vars∧a.refs=b.refs∧a.arrays=b.arrays∧a.budget=b.budget∧a.body=b.body)↔a=b:=by cases a;cases b;simp
instance:DecidableEq Df:=fun a b=>decidable_of_iff _ (Df.eq_iff a b)
structure En where
 head:Bool
 opn:Bool
 h:Hd
 d:Df
 decl:Dc
 threads:List Int
def En.cells (x:En):List D:=[.bool x.head,.bool x.opn]++(x.h.cells++(x.d.cells++(x.decl.cells++([.slice .none (intCells x.threads)]))))
theorem En.cells_len (x:En):x.cells.length=27:=rfl
theorem En.plain (x:En):x.cells.map D.plain1=x.cells:=rfl
theorem En.keep1 (x:En):x.cells.map D.keep1=x.cells:=rfl
theorem En.take0 (x:En):x.cells.take 27=x.cells:=List.take_of_length_le (by rw [En.cells_len];decide)
theorem En.drop0 (x:En) (l:List D):(x.cells++l).drop 27=l:=by have:=List.drop_left (l₁:=x.cells) (l₂:=l);rwa [En.cells_len] at this
theorem En.takeB (x:En) (l:List D):(x.cells++l).take 27=x.cells:=by have:=List.take_left (l₁:=x.cells) (l₂:=l);rwa [En.cells_len] at this
theorem En.lenA (x:En) (l:List D):(x.cells++l).length=27+l.length:=by rw [List.length_append,En.cells_len]
theorem En.f_head (x:En):x.cells[0]? = some (.bool x.head):=rfl
theorem En.f_opn (x:En):(x.cells.drop 1)[0]? = some (.bool x.opn):=rfl
theorem En.t_h (x:En):(x.cells.drop 2).take 5=x.h.cells:=rfl
theorem En.f_h_id (x:En):(x.cells.drop 2)[0]? = some (.int .i64 x.h.id):=rfl
theorem En.f_h_firm (x:En):(x.cells.drop 3)[0]? = some (.int .i64 x.h.firm):=rfl
theorem En.f_h_part (x:En):(x.cells.drop 4)[0]? = some (.int .i64 x.h.part):=rfl
theorem En.f_h_params (x:En):(x.cells.drop 5)[0]? = some (.slice .none (ks9 x.h.params)):=rfl
theorem En.f_h_given (x:En):(x.cells.drop 6)[0]? = some (.slice .none (ks9 x.h.given)):=rfl
theorem En.t_d (x:En):(x.cells.drop 7).take 12=x.d.cells:=rfl
theorem En.f_d_id (x:En):(x.cells.drop 7)[0]? = some (.int .i64 x.d.id):=rfl
theorem En.f_d_site (x:En):(x.cells.drop 8)[0]? = some (.int .i64 x.d.site):=rfl
theorem En.f_d_name (x:En):(x.cells.drop 9)[0]? = some (.str x.d.name):=rfl
theorem En.f_d_firm (x:En):(x.cells.drop 10)[0]? = some (.int .i64 x.d.firm):=rfl
theorem En.f_d_part (x:En):(x.cells.drop 11)[0]? = some (.int .i64 x.d.part):=rfl
theorem En.f_d_params (x:En):(x.cells.drop 12)[0]? = some (.slice .none (ks9 x.d.params)):=rfl
theorem En.f_d_given (x:En):(x.cells.drop 13)[0]? = some (.slice .none (ks9 x.d.given)):=rfl
theorem En.f_d_vars (x:En):(x.cells.drop 14)[0]? = some (.int .i64 x.d.vars):=rfl
theorem En.f_d_refs (x:En):(x.cells.drop 15)[0]? = some (.int .i64 x.d.refs):=rfl
theorem En.f_d_arrays (x:En):(x.cells.drop 16)[0]? = some (.slice .none (qr9 x.d.arrays)):=rfl
theorem En.f_d_budget (x:En):(x.cells.drop 17)[0]? = some (.int .i64 x.d.budget):=rfl
theorem En.f_d_body (x:En):(x.cells.drop 18)[0]? = some (.slice .none (Sm.encs x.d.body)):=rfl
theorem En.t_decl (x:En):(x.cells.drop 19).take 7=x.decl.cells:=rfl
theorem En.f_decl_globals (x:En):(x.cells.drop 19)[0]? = some (.slice .none (ks9 x.decl.globals)):=rfl
theorem En.f_decl_classes (x:En):(x.cells.drop 20)[0]? = some (.slice .none (ks9 x.decl.classes)):=rfl
theorem En.f_decl_queues (x:En):(x.cells.drop 21)[0]? = some (.slice .none (qz9 x.decl.queues)):=rfl
theorem En.f_decl_sinks (x:En):(x.cells.drop 22)[0]? = some (.slice .none (intCells x.decl.sinks)):=rfl
theorem En.f_decl_locks (x:En):(x.cells.drop 23)[0]? = some (.int .i64 x.decl.locks):=rfl
theorem En.f_decl_parts (x:En):(x.cells.drop 24)[0]? = some (.int .i64 x.decl.parts):=rfl
theorem En.f_decl_firms (x:En):(x.cells.drop 25)[0]? = some (.int .i64 x.decl.firms):=rfl
theorem En.f_threads (x:En):(x.cells.drop 26)[0]? = some (.slice .none (intCells x.threads)):=rfl
theorem vsEn:(type_of% @En.cells_len)∧(type_of% @En.plain)∧(type_of% @En.keep1)∧(type_of% @En.take0)∧(type_of% @En.drop0)∧(type_of% @En.takeB)∧(type_of% @En.lenA)∧(type_of% @En.f_head)∧(type_of% @En.f_opn)∧(type_of% @En.t_h)∧(type_of% @En.f_h_id)∧(type_of% @En.f_h_firm)∧(type_of% @En.f_h_part)∧(type_of% @En.f_h_params)∧(type_of% @En.f_h_given)∧(type_of% @En.t_d)∧(type_of% @En.f_d_id)∧(type_of% @En.f_d_site)∧(type_of% @En.f_d_name)∧(type_of% @En.f_d_firm)∧(type_of% @En.f_d_part)∧(type_of% @En.f_d_params)∧(type_of% @En.f_d_given)∧(type_of% @En.f_d_vars)∧(type_of% @En.f_d_refs)∧(type_of% @En.f_d_arrays)∧(type_of% @En.f_d_budget)∧(type_of% @En.f_d_body)∧(type_of% @En.t_decl)∧(type_of% @En.f_decl_globals)∧(type_of% @En.f_decl_classes)∧(type_of% @En.f_decl_queues)∧(type_of% @En.f_decl_sinks)∧(type_of% @En.f_decl_locks)∧(type_of% @En.f_decl_parts)∧(type_of% @En.f_decl_firms)∧(type_of% @En.f_threads) :=
 ⟨@En.cells_len,@En.plain,@En.keep1,@En.take0,@En.drop0,@En.takeB,@En.lenA,@En.f_head,@En.f_opn,@En.t_h,@En.f_h_id,@En.f_h_firm,@En.f_h_part,@En.f_h_params,@En.f_h_given,@En.t_d,@En.f_d_id,@En.f_d_site,@En.f_d_name,@En.f_d_firm,@En.f_d_part,@En.f_d_params,@En.f_d_given,@En.f_d_vars,@En.f_d_refs,@En.f_d_arrays,@En.f_d_budget,@En.f_d_body,@En.t_decl,@En.f_decl_globals,@En.f_decl_classes,@En.f_decl_queues,@En.f_decl_sinks,@En.f_decl_locks,@En.f_decl_parts,@En.f_decl_firms,@En.f_threads⟩
def En.encs (l:List En):List (List D):=l.map En.cells
structure Mg where
 p:Pg
 c:List Int
 e:Int
def Mg.cells (x:Mg):List D:=x.p.cells++([.slice .none (intCells x.c),.int .i64 x.e])
theorem Mg.cells_len (x:Mg):x.cells.length=12:=rfl
theorem Mg.plain (x:Mg):x.cells.map D.plain1=x.cells:=rfl
theorem Mg.keep1 (x:Mg):x.cells.map D.keep1=x.cells:=rfl
theorem Mg.take0 (x:Mg):x.cells.take 12=x.cells:=List.take_of_length_le (by rw [Mg.cells_len];decide)
theorem Mg.drop0 (x:Mg) (l:List D):(x.cells++l).drop 12=l:=by have:=List.drop_left (l₁:=x.cells) (l₂:=l);rwa [Mg.cells_len] at this
theorem Mg.takeB (x:Mg) (l:List D):(x.cells++l).take 12=x.cells:=by have:=List.take_left (l₁:=x.cells) (l₂:=l);rwa [Mg.cells_len] at this
theorem Mg.lenA (x:Mg) (l:List D):(x.cells++l).length=12+l.length:=by rw [List.length_append,Mg.cells_len]
theorem Mg.t_p (x:Mg):x.cells.take 10=x.p.cells:=rfl
theorem Mg.t_p_d (x:Mg):x.cells.take 7=x.p.d.cells:=rfl
theorem Mg.f_p_d_globals (x:Mg):x.cells[0]? = some (.slice .none (ks9 x.p.d.globals)):=rfl
theorem Mg.f_p_d_classes (x:Mg):(x.cells.drop 1)[0]? = some (.slice .none (ks9 x.p.d.classes)):=rfl
theorem Mg.f_p_d_queues (x:Mg):(x.cells.drop 2)[0]? = some (.slice .none (qz9 x.p.d.queues)):=rfl
theorem Mg.f_p_d_sinks (x:Mg):(x.cells.drop 3)[0]? = some (.slice .none (intCells x.p.d.sinks)):=rfl
theorem Mg.f_p_d_locks (x:Mg):(x.cells.drop 4)[0]? = some (.int .i64 x.p.d.locks):=rfl
theorem Mg.f_p_d_parts (x:Mg):(x.cells.drop 5)[0]? = some (.int .i64 x.p.d.parts):=rfl
theorem Mg.f_p_d_firms (x:Mg):(x.cells.drop 6)[0]? = some (.int .i64 x.p.d.firms):=rfl
theorem Mg.f_p_heads (x:Mg):(x.cells.drop 7)[0]? = some (.slice .none (kr9 x.p.heads)):=rfl
theorem Mg.f_p_defs (x:Mg):(x.cells.drop 8)[0]? = some (.slice .none (dfCells x.p.defs)):=rfl
theorem Mg.f_p_threads (x:Mg):(x.cells.drop 9)[0]? = some (.slice .none (intCells x.p.threads)):=rfl
theorem Mg.f_c (x:Mg):(x.cells.drop 10)[0]? = some (.slice .none (intCells x.c)):=rfl
theorem Mg.f_e (x:Mg):(x.cells.drop 11)[0]? = some (.int .i64 x.e):=rfl
theorem vsMg:(type_of% @Mg.cells_len)∧(type_of% @Mg.plain)∧(type_of% @Mg.keep1)∧(type_of% @Mg.take0)∧(type_of% @Mg.drop0)∧(type_of% @Mg.takeB)∧(type_of% @Mg.lenA)∧(type_of% @Mg.t_p)∧(type_of% @Mg.t_p_d)∧(type_of% @Mg.f_p_d_globals)∧(type_of% @Mg.f_p_d_classes)∧(type_of% @Mg.f_p_d_queues)∧(type_of% @Mg.f_p_d_sinks)∧(type_of% @Mg.f_p_d_locks)∧(type_of% @Mg.f_p_d_parts)∧(type_of% @Mg.f_p_d_firms)∧(type_of% @Mg.f_p_heads)∧(type_of% @Mg.f_p_defs)∧(type_of% @Mg.f_p_threads)∧(type_of% @Mg.f_c)∧(type_of% @Mg.f_e) :=
 ⟨@Mg.cells_len,@Mg.plain,@Mg.keep1,@Mg.take0,@Mg.drop0,@Mg.takeB,@Mg.lenA,@Mg.t_p,@Mg.t_p_d,@Mg.f_p_d_globals,@Mg.f_p_d_classes,@Mg.f_p_d_queues,@Mg.f_p_d_sinks,@Mg.f_p_d_locks,@Mg.f_p_d_parts,@Mg.f_p_d_firms,@Mg.f_p_heads,@Mg.f_p_defs,@Mg.f_p_threads,@Mg.f_c,@Mg.f_e⟩
def Mg.encs (l:List Mg):List (List D):=l.map Mg.cells
structure Cg where
 kind:Int
 pos:Int
 n:Int
def Cg.cells (x:Cg):List D:=[.int .u8 x.kind,.int .u8 x.pos,.int .u8 x.n]
theorem Cg.cells_len (x:Cg):x.cells.length=3:=rfl
theorem Cg.plain (x:Cg):x.cells.map D.plain1=x.cells:=rfl
theorem Cg.keep1 (x:Cg):x.cells.map D.keep1=x.cells:=rfl
theorem Cg.take0 (x:Cg):x.cells.take 3=x.cells:=List.take_of_length_le (by rw [Cg.cells_len];decide)
theorem Cg.drop0 (x:Cg) (l:List D):(x.cells++l).drop 3=l:=by have:=List.drop_left (l₁:=x.cells) (l₂:=l);rwa [Cg.cells_len] at this
theorem Cg.takeB (x:Cg) (l:List D):(x.cells++l).take 3=x.cells:=by have:=List.take_left (l₁:=x.cells) (l₂:=l);rwa [Cg.cells_len] at this
theorem Cg.lenA (x:Cg) (l:List D):(x.cells++l).length=3+l.length:=by rw [List.length_append,Cg.cells_len]
theorem Cg.f_kind (x:Cg):x.cells[0]? = some (.int .u8 x.kind):=rfl
theorem Cg.f_pos (x:Cg):(x.cells.drop 1)[0]? = some (.int .u8 x.pos):=rfl
theorem Cg.f_n (x:Cg):(x.cells.drop 2)[0]? = some (.int .u8 x.n):=rfl
theorem vsCg:(type_of% @Cg.cells_len)∧(type_of% @Cg.plain)∧(type_of% @Cg.keep1)∧(type_of% @Cg.take0)∧(type_of% @Cg.drop0)∧(type_of% @Cg.takeB)∧(type_of% @Cg.lenA)∧(type_of% @Cg.f_kind)∧(type_of% @Cg.f_pos)∧(type_of% @Cg.f_n) :=
 ⟨@Cg.cells_len,@Cg.plain,@Cg.keep1,@Cg.take0,@Cg.drop0,@Cg.takeB,@Cg.lenA,@Cg.f_kind,@Cg.f_pos,@Cg.f_n⟩
def Cg.encs (l:List Cg):List (List D):=l.map Cg.cells
theorem En.eq_iff (a b:En):(a.head=b.head∧a.opn=b.opn∧a.h=b.h∧a.d=b.d∧a.decl=b.decl∧a.threads=b.threads)↔a=b:=by cases a;cases b;simp
instance:DecidableEq En:=fun a b=>decidable_of_iff _ (En.eq_iff a b)
def Dc.zero:Dc:=⟨[],[],[],[],0,0,0⟩
def Pg.zero:Pg:=⟨Dc.zero,[],[],[]⟩
def En.zero:En:=⟨false,false,Hd.zero,Df.zero,Dc.zero,[]⟩
theorem t_eqFEx (l m:List Ex) (hp:∀ x ∈ l,∀ (y:Ex) (s:St),Spec Tryz.prog 139 [.agg x.cells,.agg y.cells] s (.bool (decide (x=y))) s) (s:St) :
  Spec Tryz.prog 141 [.slice .none (Ex.encs l),.slice .none (Ex.encs m),.func (.func 139) [] []] s (.bool (decide (l=m))) s:=by
 refine Spec.small fun hsm=>?_
 have hlen:=(hsm _ (.head _)).len
 rw [kn9] at hlen
 clear hsm
 obtain ⟨B,L,c⟩:=s
 refine Spec.introN [] Tryz.func141 rfl (by decide) hmix (by kernel_rfl) [ResultVar.tmp 6] 32 rfl rfl ?_
 simp only [vqM,vt67,zA,zS,kn9]
 refine kb9 (fun hc=>?_) (fun hc=>?_)
 ·simp only [vqM]
  refine ko9 (.inr rfl) ?_ (.bool _)
  have:l≠m:=by rintro rfl;simp at hc
  simp only [vqM]
  rw [decide_eq_false this]
 have hll:l.length=m.length:=by simp at hc;omega
 simp only [vqM,vt67,kn9]
 refine kc9 [0,1,2,15,16,17] ?_
 simp only [vke,zB,zA]
 refine km9 hmix l.length (fun k e s=>l.take k=m.take k∧e=[.slice .none (Ex.encs l),.slice .none (Ex.encs m),.func (.func 139) [] [],J,J,J,J,J,J,J,J,J,J,J,J,.slice .none (Ex.encs l),.int .i64 l.length,.int .i64 (k:Int),J,J,J,J,J,J,J,J,J,J,J,J,J,J]∧∃ X,s=⟨B++X,L,c⟩) ?_ ?_ 0 _ _ (Nat.zero_le _) ⟨rfl,rfl,[],by simp⟩
 ·rintro k e s hk ⟨hI,rfl,X,rfl⟩ ih
  have hkm:k<m.length:=by omega
  have hx:l[k]? = some l[k]:=List.getElem?_eq_getElem hk
  have hy:m[k]? = some m[k]:=List.getElem?_eq_getElem hkm
  have hg:(Ex.encs l)[k]? = some (l[k].cells):=by simp [Ex.encs_map,hx]
  have hh:(Ex.encs m)[k]? = some (m[k].cells):=by simp [Ex.encs_map,hy]
  have hklt:((k:Int)<(l.length:Int))=True:=by simp;exact hk
  have hpk:=hp _ (List.getElem_mem hk)
  generalize l[k]=x at hx hg hpk
  generalize m[k]=y at hy hh
  simp only [vqM,vt67,zA,hklt,decide_true,natle0,Int.toNat_natCast,hg,hh]
  refine ka9 (hpk y _) ?_
  simp only [vqM]
  refine kb9 (fun hc=>?_) (fun hc=>?_)
  ·simp only [vqM]
   refine ke9 (.inr rfl) ?_ (.bool _) (fun _ h=>h) (Nat.le_refl _)
   have:l≠m:=by
    rintro rfl
    rw [hx] at hy;cases hy
    simp at hc
   simp only [vqM]
   rw [decide_eq_false this]
  ·simp only [vqM]
   rw [kf9 (by omega)]
   refine kc9 [0,1,2,15,16,17] ?_
   simp only [vke,zB,zA]
   have hc':x=y:=by simpa using hc
   subst hc'
   refine ih _ _ ⟨?_,rfl,_,by first | rfl | (simp only [List.append_assoc];rfl)⟩
   rw [List.take_add_one,List.take_add_one,hx,hy,hI]
 ·rintro e s ⟨hI,rfl,X,rfl⟩
  have hklt:((l.length:Int)<(l.length:Int))=False:=by simp
  simp only [vqM,hklt,decide_false]
  refine ke9 (.inr rfl) ?_ (.bool _) (fun _ h=>h) (Nat.le_refl _)
  simp only [vqM]
  rw [List.take_length,hll,List.take_length] at hI
  rw [decide_eq_true hI]
theorem t_eqFCo (l m:List Co) (hp:∀ x ∈ l,∀ (y:Co) (s:St),Spec Tryz.prog 140 [.agg x.cells,.agg y.cells] s (.bool (decide (x=y))) s) (s:St) :
  Spec Tryz.prog 169 [.slice .none (Co.encs l),.slice .none (Co.encs m),.func (.func 140) [] []] s (.bool (decide (l=m))) s:=by
 refine Spec.small fun hsm=>?_
 have hlen:=(hsm _ (.head _)).len
 rw [we9] at hlen
 clear hsm
 obtain ⟨B,L,c⟩:=s
 refine Spec.introN [] Tryz.func169 rfl (by decide) hmix (by kernel_rfl) [ResultVar.tmp 6] 32 rfl rfl ?_
 simp only [vqM,vt68,zA,zS,we9]
 refine kb9 (fun hc=>?_) (fun hc=>?_)
 ·simp only [vqM]
  refine ko9 (.inr rfl) ?_ (.bool _)
  have:l≠m:=by rintro rfl;simp at hc
  simp only [vqM]
  rw [decide_eq_false this]
 have hll:l.length=m.length:=by simp at hc;omega
 simp only [vqM,vt68,we9]
 refine kc9 [0,1,2,15,16,17] ?_
 simp only [vke,zB,zA]
 refine km9 hmix l.length (fun k e s=>l.take k=m.take k∧e=[.slice .none (Co.encs l),.slice .none (Co.encs m),.func (.func 140) [] [],J,J,J,J,J,J,J,J,J,J,J,J,.slice .none (Co.encs l),.int .i64 l.length,.int .i64 (k:Int),J,J,J,J,J,J,J,J,J,J,J,J,J,J]∧∃ X,s=⟨B++X,L,c⟩) ?_ ?_ 0 _ _ (Nat.zero_le _) ⟨rfl,rfl,[],by simp⟩
 ·rintro k e s hk ⟨hI,rfl,X,rfl⟩ ih
  have hkm:k<m.length:=by omega
  have hx:l[k]? = some l[k]:=List.getElem?_eq_getElem hk
  have hy:m[k]? = some m[k]:=List.getElem?_eq_getElem hkm
  have hg:(Co.encs l)[k]? = some (l[k].cells):=by simp [Co.encs_map,hx]
  have hh:(Co.encs m)[k]? = some (m[k].cells):=by simp [Co.encs_map,hy]
  have hklt:((k:Int)<(l.length:Int))=True:=by simp;exact hk
  have hpk:=hp _ (List.getElem_mem hk)
  generalize l[k]=x at hx hg hpk
  generalize m[k]=y at hy hh
  simp only [vqM,vt68,zA,hklt,decide_true,natle0,Int.toNat_natCast,hg,hh]
  refine ka9 (hpk y _) ?_
  simp only [vqM]
  refine kb9 (fun hc=>?_) (fun hc=>?_)
  ·simp only [vqM]
   refine ke9 (.inr rfl) ?_ (.bool _) (fun _ h=>h) (Nat.le_refl _)
   have:l≠m:=by
    rintro rfl
    rw [hx] at hy;cases hy
    simp at hc
   simp only [vqM]
   rw [decide_eq_false this]
  ·simp only [vqM]
   rw [kf9 (by omega)]
   refine kc9 [0,1,2,15,16,17] ?_
   simp only [vke,zB,zA]
   have hc':x=y:=by simpa using hc
   subst hc'
   refine ih _ _ ⟨?_,rfl,_,by first | rfl | (simp only [List.append_assoc];rfl)⟩
   rw [List.take_add_one,List.take_add_one,hx,hy,hI]
 ·rintro e s ⟨hI,rfl,X,rfl⟩
  have hklt:((l.length:Int)<(l.length:Int))=False:=by simp
  simp only [vqM,hklt,decide_false]
  refine ke9 (.inr rfl) ?_ (.bool _) (fun _ h=>h) (Nat.le_refl _)
  simp only [vqM]
  rw [List.take_length,hll,List.take_length] at hI
  rw [decide_eq_true hI]
theorem t_eqFSm (l m:List Sm) (hp:∀ x ∈ l,∀ (y:Sm) (s:St),Spec Tryz.prog 109 [.agg x.cells,.agg y.cells] s (.bool (decide (x=y))) s) (s:St) :
  Spec Tryz.prog 108 [.slice .none (Sm.encs l),.slice .none (Sm.encs m),.func (.func 109) [] []] s (.bool (decide (l=m))) s:=by
 refine Spec.small fun hsm=>?_
 have hlen:=(hsm _ (.head _)).len
 rw [kp9] at hlen
 clear hsm
 obtain ⟨B,L,c⟩:=s
 refine Spec.introN [] Tryz.func108 rfl (by decide) hmix (by kernel_rfl) [ResultVar.tmp 6] 32 rfl rfl ?_
 simp only [vqM,vt69,zA,zS,kp9]
 refine kb9 (fun hc=>?_) (fun hc=>?_)
 ·simp only [vqM]
  refine ko9 (.inr rfl) ?_ (.bool _)
  have:l≠m:=by rintro rfl;simp at hc
  simp only [vqM]
  rw [decide_eq_false this]
 have hll:l.length=m.length:=by simp at hc;omega
 simp only [vqM,vt69,kp9]
 refine kc9 [0,1,2,15,16,17] ?_
 simp only [vke,zB,zA]
 refine km9 hmix l.length (fun k e s=>l.take k=m.take k∧e=[.slice .none (Sm.encs l),.slice .none (Sm.encs m),.func (.func 109) [] [],J,J,J,J,J,J,J,J,J,J,J,J,.slice .none (Sm.encs l),.int .i64 l.length,.int .i64 (k:Int),J,J,J,J,J,J,J,J,J,J,J,J,J,J]∧∃ X,s=⟨B++X,L,c⟩) ?_ ?_ 0 _ _ (Nat.zero_le _) ⟨rfl,rfl,[],by simp⟩
 ·rintro k e s hk ⟨hI,rfl,X,rfl⟩ ih
  have hkm:k<m.length:=by omega
  have hx:l[k]? = some l[k]:=List.getElem?_eq_getElem hk
  have hy:m[k]? = some m[k]:=List.getElem?_eq_getElem hkm
  have hg:(Sm.encs l)[k]? = some (l[k].cells):=by simp [Sm.encs_map,hx]
  have hh:(Sm.encs m)[k]? = some (m[k].cells):=by simp [Sm.encs_map,hy]
  have hklt:((k:Int)<(l.length:Int))=True:=by simp;exact hk
  have hpk:=hp _ (List.getElem_mem hk)
  generalize l[k]=x at hx hg hpk
  generalize m[k]=y at hy hh
  simp only [vqM,vt69,zA,hklt,decide_true,natle0,Int.toNat_natCast,hg,hh]
  refine ka9 (hpk y _) ?_
  simp only [vqM]
  refine kb9 (fun hc=>?_) (fun hc=>?_)
  ·simp only [vqM]
   refine ke9 (.inr rfl) ?_ (.bool _) (fun _ h=>h) (Nat.le_refl _)
   have:l≠m:=by
    rintro rfl
    rw [hx] at hy;cases hy
    simp at hc
   simp only [vqM]
   rw [decide_eq_false this]
  ·simp only [vqM]
   rw [kf9 (by omega)]
   refine kc9 [0,1,2,15,16,17] ?_
   simp only [vke,zB,zA]
   have hc':x=y:=by simpa using hc
   subst hc'
   refine ih _ _ ⟨?_,rfl,_,by first | rfl | (simp only [List.append_assoc];rfl)⟩
   rw [List.take_add_one,List.take_add_one,hx,hy,hI]
 ·rintro e s ⟨hI,rfl,X,rfl⟩
  have hklt:((l.length:Int)<(l.length:Int))=False:=by simp
  simp only [vqM,hklt,decide_false]
  refine ke9 (.inr rfl) ?_ (.bool _) (fun _ h=>h) (Nat.le_refl _)
  simp only [vqM]
  rw [List.take_length,hll,List.take_length] at hI
  rw [decide_eq_true hI]
theorem t_eqInt (l m:List Int) (s:St):Spec Tryz.prog 67 [.slice .none (intCells l),.slice .none (intCells m)] s (.bool (decide (l=m))) s:=by
 refine Spec.small fun hsm=>?_
 have hlen:=(hsm _ (.head _)).len
 rw [kd9] at hlen
 clear hsm
 refine Spec.introN [] Tryz.func67 rfl (by decide) hmix (by kernel_rfl) [ResultVar.tmp 4] 26 rfl rfl ?_
 simp only [vqM,vt25,zA,zS,kd9]
 refine kb9 (fun hc=>?_) (fun hc=>?_)
 ·simp only [vqM]
  refine ko9 (.inr rfl) ?_ (.bool _)
  have:l≠m:=by rintro rfl;simp at hc
  simp only [vqM]
  rw [decide_eq_false this]
 have hll:l.length=m.length:=by simp at hc;omega
 simp only [vqM,vt25,kd9]
 refine kc9 [0,1,12,13] ?_
 simp only [vke,zB,zA]
 refine xc9 hmix l.length (fun k=>[.slice .none (intCells l),.slice .none (intCells m),J,J,J,J,J,J,J,J,J,J,.int .i64 l.length,.int .i64 (k:Int),J,J,J,J,J,J,J,J,J,J,J,J]) (fun _=>s) (fun k=>l.take k=m.take k) ?_ ?_ 0 (Nat.zero_le _) rfl
 ·intro k hk hI ih
  have hkm:k<m.length:=by omega
  have hx:l[k]? = some l[k]:=List.getElem?_eq_getElem hk
  have hy:m[k]? = some m[k]:=List.getElem?_eq_getElem hkm
  have hg:(intCells l)[k]? = some ([.int .i64 l[k]]):=by simp [intCells,hx]
  have hh:(intCells m)[k]? = some ([.int .i64 m[k]]):=by simp [intCells,hy]
  have hklt:((k:Int)<(l.length:Int))=True:=by simp;exact hk
  generalize l[k]=x at hx hg
  generalize m[k]=y at hy hh
  simp only [vqM,vt25,zA,hklt,decide_true,natle0,Int.toNat_natCast,hg,hh]
  refine kb9 (fun hc=>?_) (fun hc=>?_)
  ·simp only [vqM]
   refine ko9 (.inr rfl) ?_ (.bool _)
   have:l≠m:=by
    rintro rfl
    rw [hx] at hy;cases hy
    simp at hc
   simp only [vqM]
   rw [decide_eq_false this]
  ·simp only [vqM]
   rw [kf9 (by omega)]
   refine kc9 [0,1,12,13] ?_
   simp only [vke,zB,zA]
   refine ih ?_
   have hc':x=y:=by simpa using hc
   subst hc'
   rw [List.take_add_one,List.take_add_one,hx,hy,hI]
 ·intro hI
  have hklt:((l.length:Int)<(l.length:Int))=False:=by simp
  simp only [vqM,hklt,decide_false]
  refine ko9 (.inr rfl) ?_ (.bool _)
  simp only [vqM]
  rw [List.take_length,hll,List.take_length] at hI
  rw [decide_eq_true hI]
theorem t_eqAr (l m:List Ar) (s:St):Spec Tryz.prog 107 [.slice .none (qr9 l),.slice .none (qr9 m)] s (.bool (decide (l=m))) s:=by
 refine Spec.small fun hsm=>?_
 have hlen:=(hsm _ (.head _)).len
 rw [kq9] at hlen
 clear hsm
 refine Spec.introN [] Tryz.func107 rfl (by decide) hmix (by kernel_rfl) [ResultVar.tmp 4] 26 rfl rfl ?_
 simp only [vqM,vt28,zA,zS,kq9]
 refine kb9 (fun hc=>?_) (fun hc=>?_)
 ·simp only [vqM]
  refine ko9 (.inr rfl) ?_ (.bool _)
  have:l≠m:=by rintro rfl;simp at hc
  simp only [vqM]
  rw [decide_eq_false this]
 have hll:l.length=m.length:=by simp at hc;omega
 simp only [vqM,vt28,kq9]
 refine kc9 [0,1,12,13] ?_
 simp only [vke,zB,zA]
 refine xc9 hmix l.length (fun k=>[.slice .none (qr9 l),.slice .none (qr9 m),J,J,J,J,J,J,J,J,J,J,.int .i64 l.length,.int .i64 (k:Int),J,J,J,J,J,J,J,J,J,J,J,J]) (fun _=>s) (fun k=>l.take k=m.take k) ?_ ?_ 0 (Nat.zero_le _) rfl
 ·intro k hk hI ih
  have hkm:k<m.length:=by omega
  have hx:l[k]? = some l[k]:=List.getElem?_eq_getElem hk
  have hy:m[k]? = some m[k]:=List.getElem?_eq_getElem hkm
  have hg:(qr9 l)[k]? = some (l[k].cells):=by simp [qr9,hx]
  have hh:(qr9 m)[k]? = some (m[k].cells):=by simp [qr9,hy]
  have hklt:((k:Int)<(l.length:Int))=True:=by simp;exact hk
  generalize l[k]=x at hx hg
  generalize m[k]=y at hy hh
  simp only [vqM,vt28,hklt,decide_true,natle0,Int.toNat_natCast,hg,hh]
  have heq:(decide (x.len=y.len) && decide (x.of=y.of))=decide (x=y):=by cases x;cases y;simp
  rw [heq]
  clear heq
  refine kb9 (fun hc=>?_) (fun hc=>?_)
  ·simp only [vqM]
   refine ko9 (.inr rfl) ?_ (.bool _)
   have:l≠m:=by
    rintro rfl
    rw [hx] at hy;cases hy
    simp at hc
   simp only [vqM]
   rw [decide_eq_false this]
  ·simp only [vqM]
   rw [kf9 (by omega)]
   refine kc9 [0,1,12,13] ?_
   simp only [vke,zB,zA]
   refine ih ?_
   have hc':x=y:=by simpa using hc
   subst hc'
   rw [List.take_add_one,List.take_add_one,hx,hy,hI]
 ·intro hI
  have hklt:((l.length:Int)<(l.length:Int))=False:=by simp
  simp only [vqM,hklt,decide_false]
  refine ko9 (.inr rfl) ?_ (.bool _)
  simp only [vqM]
  rw [List.take_length,hll,List.take_length] at hI
  rw [decide_eq_true hI]
theorem t_eqQu (l m:List Qu) (s:St):Spec Tryz.prog 110 [.slice .none (qz9 l),.slice .none (qz9 m)] s (.bool (decide (l=m))) s:=by
 refine Spec.small fun hsm=>?_
 have hlen:=(hsm _ (.head _)).len
 rw [qh9] at hlen
 clear hsm
 refine Spec.introN [] Tryz.func110 rfl (by decide) hmix (by kernel_rfl) [ResultVar.tmp 4] 26 rfl rfl ?_
 simp only [vqM,vt22,zA,zS,qh9]
 refine kb9 (fun hc=>?_) (fun hc=>?_)
 ·simp only [vqM]
  refine ko9 (.inr rfl) ?_ (.bool _)
  have:l≠m:=by rintro rfl;simp at hc
  simp only [vqM]
  rw [decide_eq_false this]
 have hll:l.length=m.length:=by simp at hc;omega
 simp only [vqM,vt22,qh9]
 refine kc9 [0,1,12,13] ?_
 simp only [vke,zB,zA]
 refine xc9 hmix l.length (fun k=>[.slice .none (qz9 l),.slice .none (qz9 m),J,J,J,J,J,J,J,J,J,J,.int .i64 l.length,.int .i64 (k:Int),J,J,J,J,J,J,J,J,J,J,J,J]) (fun _=>s) (fun k=>l.take k=m.take k) ?_ ?_ 0 (Nat.zero_le _) rfl
 ·intro k hk hI ih
  have hkm:k<m.length:=by omega
  have hx:l[k]? = some l[k]:=List.getElem?_eq_getElem hk
  have hy:m[k]? = some m[k]:=List.getElem?_eq_getElem hkm
  have hg:(qz9 l)[k]? = some (l[k].cells):=by simp [qz9,hx]
  have hh:(qz9 m)[k]? = some (m[k].cells):=by simp [qz9,hy]
  have hklt:((k:Int)<(l.length:Int))=True:=by simp;exact hk
  generalize l[k]=x at hx hg
  generalize m[k]=y at hy hh
  simp only [vqM,vt22,hklt,decide_true,natle0,Int.toNat_natCast,hg,hh]
  have heq:(decide (x.cap=y.cap) && (decide (x.r.lo=y.r.lo) && (decide (x.r.hi=y.r.hi) && decide (x.r.mask=y.r.mask))))=decide (x=y):=by obtain ⟨_,_,_,_⟩:=x;obtain ⟨_,_,_,_⟩:=y;simp
  rw [heq]
  clear heq
  refine kb9 (fun hc=>?_) (fun hc=>?_)
  ·simp only [vqM]
   refine ko9 (.inr rfl) ?_ (.bool _)
   have:l≠m:=by
    rintro rfl
    rw [hx] at hy;cases hy
    simp at hc
   simp only [vqM]
   rw [decide_eq_false this]
  ·simp only [vqM]
   rw [kf9 (by omega)]
   refine kc9 [0,1,12,13] ?_
   simp only [vke,zB,zA]
   refine ih ?_
   have hc':x=y:=by simpa using hc
   subst hc'
   rw [List.take_add_one,List.take_add_one,hx,hy,hI]
 ·intro hI
  have hklt:((l.length:Int)<(l.length:Int))=False:=by simp
  simp only [vqM,hklt,decide_false]
  refine ko9 (.inr rfl) ?_ (.bool _)
  simp only [vqM]
  rw [List.take_length,hll,List.take_length] at hI
  rw [decide_eq_true hI]
def seEx (x y:Ex):Bool:=decide (x.op=y.op) && (decide (x.n=y.n) && (decide (x.v=y.v) && decide (x.a=y.a)))
theorem seEx_eq (x y:Ex):seEx x y=decide (x=y):=by
 rw [Bool.eq_iff_iff]
 obtain ⟨o,n,v,a⟩:=x
 obtain ⟨o',n',v',a'⟩:=y
 show (decide (o=o') && (decide (n=n') && (decide (v=v') && decide (a=a'))))=true↔decide (Ex.mk o n v a=Ex.mk o' n' v' a')=true
 simp only [Bool.and_eq_true,decide_eq_true_eq,Ex.mk.injEq]
theorem t_sameExpr_of (x:Ex) (ih:∀ z ∈ x.a,∀ (y:Ex) (s:St),Spec Tryz.prog 139 [.agg z.cells,.agg y.cells] s (.bool (decide (z=y))) s) (y:Ex) (s:St):Spec Tryz.prog 139 [.agg x.cells,.agg y.cells] s (.bool (decide (x=y))) s:=by
 obtain ⟨B,L,c⟩:=s
 rw [← seEx_eq]
 refine Spec.introN [] Tryz.func139 rfl (by decide) hmix (by kernel_rfl) [ResultVar.tmp 4] 31 rfl rfl ?_
 simp only [vqM,vt31,zA,zS]
 repeat' (first
  | ((with_reducible refine kh9 ?_);refine ka9 (t_eqFEx _ _ ih _) ?_;simp only [vqM])
  | (with_reducible refine kb9 (fun hc=>?_) (fun hc=>?_) <;> simp only [vqM,vt31,hc,zA])
  | ((with_reducible refine is_q ?_);refine ke9 (.inr rfl) ?_ (.bool _) (fun _ h=>h) (Nat.le_refl _) <;> (try simp only [vqM]) <;> (first | (simp only [seEx, *,Bool.true_and,Bool.false_and,Bool.and_false];done) | (simp_all [seEx];done) | (simp_all [seEx];omega))))
mutual
theorem t_sameExpr:∀ (x y:Ex) (s:St),Spec Tryz.prog 139 [.agg x.cells,.agg y.cells] s (.bool (decide (x=y))) s
 | .mk op n v a,y,s=>t_sameExpr_of (.mk op n v a) (t_sameExprs a) y s
theorem t_sameExprs:∀ (l:List Ex),∀ z ∈ l,∀ (y:Ex) (s:St),Spec Tryz.prog 139 [.agg z.cells,.agg y.cells] s (.bool (decide (z=y))) s
 | [],z,h=>by simp at h
 | x::l,z,h=>by
  rcases List.mem_cons.1 h with e | h
  ·rw [e];exact t_sameExpr x
  ·exact t_sameExprs l z h
end
def seCo (x y:Co):Bool:=decide (x.op=y.op) && (decide (x.a=y.a) && decide (x.c=y.c))
theorem seCo_eq (x y:Co):seCo x y=decide (x=y):=by
 rw [Bool.eq_iff_iff]
 obtain ⟨o,a,c⟩:=x
 obtain ⟨o',a',c'⟩:=y
 show (decide (o=o') && (decide (a=a') && decide (c=c')))=true↔decide (Co.mk o a c=Co.mk o' a' c')=true
 simp only [Bool.and_eq_true,decide_eq_true_eq,Co.mk.injEq]
theorem t_sameCond_of (x:Co) (ih:∀ z ∈ x.c,∀ (y:Co) (s:St),Spec Tryz.prog 140 [.agg z.cells,.agg y.cells] s (.bool (decide (z=y))) s) (y:Co) (s:St):Spec Tryz.prog 140 [.agg x.cells,.agg y.cells] s (.bool (decide (x=y))) s:=by
 obtain ⟨B,L,c⟩:=s
 rw [← seCo_eq]
 refine Spec.introN [] Tryz.func140 rfl (by decide) hmix (by kernel_rfl) [ResultVar.tmp 4] 24 rfl rfl ?_
 simp only [vqM,vt70,zA,zS]
 repeat' (first
  | ((with_reducible refine kh9 ?_);refine ka9 (t_eqFEx _ _ (t_sameExprs _) _) ?_;simp only [vqM])
  | ((with_reducible refine kh9 ?_);refine ka9 (t_eqFCo _ _ ih _) ?_;simp only [vqM])
  | (with_reducible refine kb9 (fun hc=>?_) (fun hc=>?_) <;> simp only [vqM,vt70,hc,zA])
  | ((with_reducible refine is_q ?_);refine ke9 (.inr rfl) ?_ (.bool _) (fun _ h=>h) (Nat.le_refl _) <;> (try simp only [vqM]) <;> (first | (simp only [seCo, *,Bool.true_and,Bool.false_and,Bool.and_false];done) | (simp_all [seCo];done) | (simp_all [seCo];omega))))
mutual
theorem t_sameCond:∀ (x y:Co) (s:St),Spec Tryz.prog 140 [.agg x.cells,.agg y.cells] s (.bool (decide (x=y))) s
 | .mk op a c,y,s=>t_sameCond_of (.mk op a c) (t_sameConds c) y s
theorem t_sameConds:∀ (l:List Co),∀ z ∈ l,∀ (y:Co) (s:St),Spec Tryz.prog 140 [.agg z.cells,.agg y.cells] s (.bool (decide (z=y))) s
 | [],z,h=>by simp at h
 | x::l,z,h=>by
  rcases List.mem_cons.1 h with e | h
  ·rw [e];exact t_sameCond x
  ·exact t_sameConds l z h
end
def seSm (x y:Sm):Bool:=(decide (x.site=y.site) && (decide (x.op=y.op) && (decide (x.n=y.n) && (decide (x.m=y.m) && decide (x.v=y.v))))) && (decide (x.x=y.x) && (decide (x.y=y.y) && (decide (x.c=y.c) && (decide (x.args=y.args) && (decide (x.ptrs=y.ptrs) && (decide (x.body=y.body) && decide (x.els=y.els)))))))
theorem seSm_eq (x y:Sm):seSm x y=decide (x=y):=by
 rw [Bool.eq_iff_iff]
 obtain ⟨q1,q2,q3,q4,q5,q6,q7,q8,q9,q10,q11,q12⟩:=x
 obtain ⟨r1,r2,r3,r4,r5,r6,r7,r8,r9,r10,r11,r12⟩:=y
 show ((decide (q1=r1) && (decide (q2=r2) && (decide (q3=r3) && (decide (q4=r4) && decide (q5=r5))))) && (decide (q6=r6) && (decide (q7=r7) && (decide (q8=r8) && (decide (q9=r9) && (decide (q10=r10) && (decide (q11=r11) && decide (q12=r12))))))))=true↔decide (Sm.mk q1 q2 q3 q4 q5 q6 q7 q8 q9 q10 q11 q12=Sm.mk r1 r2 r3 r4 r5 r6 r7 r8 r9 r10 r11 r12)=true
 simp only [Bool.and_eq_true,decide_eq_true_eq,Sm.mk.injEq,and_assoc]
theorem t_sameStmt_of (x:Sm) (ih1:∀ z ∈ x.body,∀ (y:Sm) (s:St),Spec Tryz.prog 109 [.agg z.cells,.agg y.cells] s (.bool (decide (z=y))) s) (ih2:∀ z ∈ x.els,∀ (y:Sm) (s:St),Spec Tryz.prog 109 [.agg z.cells,.agg y.cells] s (.bool (decide (z=y))) s) (y:Sm) (s:St):Spec Tryz.prog 109 [.agg x.cells,.agg y.cells] s (.bool (decide (x=y))) s:=by
 obtain ⟨B,L,c⟩:=s
 rw [← seSm_eq]
 refine Spec.introN [] Tryz.func109 rfl (by decide) hmix (by kernel_rfl) [ResultVar.tmp 4] 77 rfl rfl ?_
 simp only [vqM,vt71,zA,zS,zL]
 repeat' (first
  | ((with_reducible refine kh9 ?_);refine ka9 (t_sameExpr _ _ _) ?_;simp only [vqM])
  | ((with_reducible refine kh9 ?_);refine ka9 (t_sameCond _ _ _) ?_;simp only [vqM])
  | ((with_reducible refine kh9 ?_);refine ka9 (t_eqFEx _ _ (t_sameExprs _) _) ?_;simp only [vqM])
  | ((with_reducible refine kh9 ?_);refine ka9 (t_eqInt _ _ _) ?_;simp only [vqM])
  | ((with_reducible refine kh9 ?_);refine ka9 (t_eqFSm _ _ ih1 _) ?_;simp only [vqM])
  | ((with_reducible refine kh9 ?_);refine ka9 (t_eqFSm _ _ ih2 _) ?_;simp only [vqM])
  | (with_reducible refine kb9 (fun hc=>?_) (fun hc=>?_) <;> simp only [vqM,vt71,hc,zA,zS,zL])
  | ((with_reducible refine is_q ?_);refine ke9 (.inr rfl) ?_ (.bool _) (fun _ h=>h) (Nat.le_refl _) <;> (try simp only [vqM]) <;> (first | (simp only [seSm, *,Bool.true_and,Bool.false_and,Bool.and_false];done) | (simp_all [seSm];done) | (simp_all [seSm];omega))))
mutual
theorem t_sameStmt:∀ (x y:Sm) (s:St),Spec Tryz.prog 109 [.agg x.cells,.agg y.cells] s (.bool (decide (x=y))) s
 | .mk site op n m v a b c args ptrs body els,y,s=>t_sameStmt_of (.mk site op n m v a b c args ptrs body els) (t_sameStmts body) (t_sameStmts els) y s
theorem t_sameStmts:∀ (l:List Sm),∀ z ∈ l,∀ (y:Sm) (s:St),Spec Tryz.prog 109 [.agg z.cells,.agg y.cells] s (.bool (decide (z=y))) s
 | [],z,h=>by simp at h
 | x::l,z,h=>by
  rcases List.mem_cons.1 h with e | h
  ·rw [e];exact t_sameStmt x
  ·exact t_sameStmts l z h
end
def seHd (x y:Hd):Bool:=decide (x.id=y.id) && (decide (x.firm=y.firm) && (decide (x.part=y.part) && (decide (x.params=y.params) && decide (x.given=y.given))))
theorem seHd_eq (x y:Hd):seHd x y=decide (x=y):=by cases x;cases y;simp [seHd]
theorem t_sameHead (x y:Hd) (s:St):Spec Tryz.prog 64 [.agg x.cells,.agg y.cells] s (.bool (decide (x=y))) s:=by
 obtain ⟨B,L,c⟩:=s
 rw [← seHd_eq]
 refine Spec.introN [] Tryz.func64 rfl (by decide) hmix (by kernel_rfl) [ResultVar.tmp 4] 38 rfl rfl ?_
 simp only [vqM,vt72,zA,zS]
 repeat' (first
  | ((with_reducible refine kh9 ?_);refine ka9 (t_Equal _ _ _) ?_;simp only [vqM])
  | (with_reducible refine kb9 (fun hc=>?_) (fun hc=>?_) <;> simp only [vqM,vt72,hc,zA])
  | ((with_reducible refine is_q ?_);refine ke9 (.inr rfl) ?_ (.bool _) (fun _ h=>h) (Nat.le_refl _) <;> (try simp only [vqM]) <;> (first | (simp only [seHd, *,Bool.true_and,Bool.false_and,Bool.and_false];done) | (simp_all [seHd];done) | (simp_all [seHd];omega))))
def seDc (x y:Dc):Bool:=(decide (x.locks=y.locks) && (decide (x.parts=y.parts) && decide (x.firms=y.firms))) && (decide (x.globals=y.globals) && (decide (x.classes=y.classes) && (decide (x.queues=y.queues) && decide (x.sinks=y.sinks))))
theorem seDc_eq (x y:Dc):seDc x y=decide (x=y):=by
 rw [Bool.eq_iff_iff]
 cases x;cases y
 simp only [seDc,Bool.and_eq_true,decide_eq_true_eq,Dc.mk.injEq]
 constructor <;> (intro h;simp only [h,and_self])
theorem t_sameDecl (x y:Dc) (s:St):Spec Tryz.prog 66 [.agg x.cells,.agg y.cells] s (.bool (decide (x=y))) s:=by
 obtain ⟨B,L,c⟩:=s
 rw [← seDc_eq]
 refine Spec.introN [] Tryz.func66 rfl (by decide) hmix (by kernel_rfl) [ResultVar.tmp 4] 48 rfl rfl ?_
 simp only [vqM,vt73,zA,zS,zL]
 repeat' (first
  | ((with_reducible refine kh9 ?_);refine ka9 (t_Equal _ _ _) ?_;simp only [vqM])
  | ((with_reducible refine kh9 ?_);refine ka9 (t_eqQu _ _ _) ?_;simp only [vqM])
  | ((with_reducible refine kh9 ?_);refine ka9 (t_eqInt _ _ _) ?_;simp only [vqM])
  | (with_reducible refine kb9 (fun hc=>?_) (fun hc=>?_) <;> simp only [vqM,vt73,hc,zA])
  | ((with_reducible refine is_q ?_);refine ke9 (.inr rfl) ?_ (.bool _) (fun _ h=>h) (Nat.le_refl _) <;> (try simp only [vqM]) <;> (first | (simp only [seDc, *,Bool.true_and,Bool.false_and,Bool.and_false];done) | (simp_all [seDc];done) | (simp_all [seDc];omega))))
theorem t_HeadM (d:Df) (s:St):Spec Tryz.prog 106 [.agg d.cells] s (.agg (hdOf d).cells) s:=by
 obtain ⟨B,L,c⟩:=s
 refine Spec.introN [] Tryz.func106 rfl (by decide) hmix (by kernel_rfl) [ResultVar.cell 2 69] 14 rfl rfl ?_
 simp only [vqM,vt14,zA,zS,zL]
 refine ke9 (.inr rfl) ?_ (kv9 (Hd.bd _)) (fun _ h=>h) (Nat.le_refl _)
 simp only [vqM,vt14,zA]
 rfl
theorem name_beq (a b:ByteArray):(a.toList == b.toList)=decide (a=b):=by
 rw [Bool.eq_iff_iff]
 simp only [beq_iff_eq,decide_eq_true_eq,ByteArray.toList_eq]
 constructor
 ·intro h
  obtain ⟨a⟩:=a
  obtain ⟨b⟩:=b
  exact congrArg _ (Array.toList_inj.1 h)
 ·rintro rfl;rfl
def seDf (x y:Df):Bool:=(decide (x.site=y.site) && (decide (x.vars=y.vars) && (decide (x.refs=y.refs) && (decide (x.budget=y.budget) && (x.name.toList == y.name.toList))))) && (decide (hdOf x=hdOf y) && (decide (x.arrays=y.arrays) && decide (x.body=y.body)))
theorem seDf_eq (x y:Df):seDf x y=decide (x=y):=by
 rw [Bool.eq_iff_iff]
 cases x;cases y
 simp only [seDf,name_beq,hdOf,Bool.and_eq_true,decide_eq_true_eq,Df.mk.injEq,Hd.mk.injEq]
 constructor <;> (intro h;simp only [h,and_self])
theorem t_sameDef (x y:Df) (s:St):Spec Tryz.prog 65 [.agg x.cells,.agg y.cells] s (.bool (decide (x=y))) s:=by
 obtain ⟨B,L,c⟩:=s
 rw [← seDf_eq]
 refine Spec.introN [(1,.text [false,false,false,false,false,false,false,false,false,false,false,false,false,false,false,false,false,false,false,false,false,false,false,false,false,true,false,true,true,false,false,false,false,false,false,true,false,false,false,false,false,false,true,false,false] [(26,0)])] Tryz.func65 rfl (by decide) hmix (by kernel_rfl) [ResultVar.tmp 4] 49 rfl rfl ?_
 simp only [vqM,vt74,zA,zS,zL,zB]
 repeat' (first
  | ((with_reducible refine kh9 ?_);refine ka9 (t_HeadM _ _) ?_;simp only [vqM,vt74])
  | ((with_reducible refine kh9 ?_);refine ka9 (t_sameHead _ _ _) ?_;simp only [vqM])
  | ((with_reducible refine kh9 ?_);refine ka9 (t_eqAr _ _ _) ?_;simp only [vqM])
  | ((with_reducible refine kh9 ?_);refine ka9 (t_eqFSm _ _ (t_sameStmts _) _) ?_;simp only [vqM,vt74])
  | (with_reducible refine kb9 (fun hc=>?_) (fun hc=>?_) <;> simp only [vqM,vt74,hc,zA])
  | ((with_reducible refine is_q ?_);refine ke9 (.inr rfl) ?_ (.bool _) (fun _ h=>h) (Nat.le_refl _) <;> (try simp only [vqM]) <;> (first | (simp only [seDf, *,Bool.true_and,Bool.false_and,Bool.and_false];done) | (simp_all [seDf];done) | (simp_all [seDf];omega))))
def seEn (x y:En):Bool:=decide (x.head=y.head) && (decide (x.opn=y.opn) && (decide (x.h=y.h) && (decide (x.d=y.d) && (decide (x.decl=y.decl) && decide (x.threads=y.threads)))))
theorem seEn_eq (x y:En):seEn x y=decide (x=y):=by cases x;cases y;simp [seEn]
theorem t_same (x y:En) (s:St):Spec Tryz.prog 35 [.agg x.cells,.agg y.cells] s (.bool (decide (x=y))) s:=by
 obtain ⟨B,L,c⟩:=s
 rw [← seEn_eq]
 refine Spec.introN [] Tryz.func35 rfl (by decide) hmix (by kernel_rfl) [ResultVar.tmp 4] 45 rfl rfl ?_
 simp only [vqM,vt75,zA,zS,vsEn]
 repeat' (first
  | ((with_reducible refine kh9 ?_);refine ka9 (t_sameHead _ _ _) ?_;simp only [vqM])
  | ((with_reducible refine kh9 ?_);refine ka9 (t_sameDef _ _ _) ?_;simp only [vqM])
  | ((with_reducible refine kh9 ?_);refine ka9 (t_sameDecl _ _ _) ?_;simp only [vqM])
  | ((with_reducible refine kh9 ?_);refine ka9 (t_eqInt _ _ _) ?_;simp only [vqM])
  | (with_reducible refine kb9 (fun hc=>?_) (fun hc=>?_) <;> simp only [vqM,vt75,hc,zA,zS,zL,vsEn])
  | ((with_reducible refine is_q ?_);refine ke9 (.inr rfl) ?_ (.bool _) (fun _ h=>h) (Nat.le_refl _) <;> (try simp only [vqM]) <;> (first | (simp only [seEn, *,Bool.true_and,Bool.false_and,Bool.and_false];done) | (simp_all [seEn];done) | (simp_all [seEn];omega))))
theorem Small.sl {cs:List D} {o:Own} {xs:List (List D)} (h:Small (.agg cs)) (hm:D.slice o xs ∈ cs):xs.length≤281474976710656:=by
 cases h with
 | agg _ h=>exact (h _ hm).len
theorem Rg.eqN_iff (a b:Rg):(a.lo=b.lo∧a.hi=b.hi∧a.mask=b.mask)↔a=b:=by cases a;cases b;simp
theorem t_sameRangesF (l m:List Rg) (s:St):Spec Tryz.prog 68 [.slice .none (ks9 l),.slice .none (ks9 m)] s (.bool (decide (l=m))) s:=by
 refine Spec.small fun hsm=>?_
 have hlen:=(hsm _ (.head _)).len
 rw [kk9] at hlen
 clear hsm
 obtain ⟨B,L,c⟩:=s
 refine Spec.introN [] Tryz.func68 rfl (by decide) hmix (by kernel_rfl) [ResultVar.tmp 4] 26 rfl rfl ?_
 simp only [vqM,vt19,zA,zS,kk9]
 refine kb9 (fun hc=>?_) (fun hc=>?_)
 ·simp only [vqM]
  refine ko9 (.inr rfl) ?_ (.bool _)
  have:l≠m:=by rintro rfl;simp at hc
  simp only [vqM]
  rw [decide_eq_false this]
 have hll:l.length=m.length:=by simp at hc;omega
 simp only [vqM]
 refine kc9 [0,1,5] ?_
 simp only [vke,zB,zA]
 refine km9 hmix l.length (fun k e s=>l.take k=m.take k∧e=[.slice .none (ks9 l),.slice .none (ks9 m),J,J,J,.int .i64 (k:Int),J,J,J,J,J,J,J,J,J,J,J,J,J,J,J,J,J,J,J,J]∧s=⟨B,L,c⟩) ?_ ?_ 0 _ _ (Nat.zero_le _) ⟨rfl,rfl,rfl⟩
 ·rintro k e s hk ⟨hI,rfl,rfl⟩ ihl
  have hkm:k<m.length:=by omega
  have hx:l[k]? = some l[k]:=List.getElem?_eq_getElem hk
  have hy:m[k]? = some m[k]:=List.getElem?_eq_getElem hkm
  have hg:(ks9 l)[k]? = some (l[k].cells):=by simp [ks9,hx]
  have hh:(ks9 m)[k]? = some (m[k].cells):=by simp [ks9,hy]
  have hklt:((k:Int)<(l.length:Int))=True:=by simp;exact hk
  generalize l[k]=xx at hx hg
  generalize m[k]=yy at hy hh
  simp only [vqM,vt19,kk9,hklt,decide_true,natle0,Int.toNat_natCast,hg,hh]
  refine kb9 (fun hc=>?_) (fun hc=>?_)
  ·simp only [vqM]
   refine ko9 (.inr rfl) ?_ (.bool _)
   have:l≠m:=by
    rintro rfl
    rw [hx] at hy;cases hy
    simp at hc
   simp only [vqM]
   rw [decide_eq_false this]
  ·simp only [vqM]
   rw [kf9 (by omega)]
   refine kc9 [0,1,5] ?_
   simp only [vke,zB,zA]
   have hc':xx=yy:=(Rg.eqN_iff xx yy).1 (by simpa using hc)
   subst hc'
   refine ihl _ _ ⟨?_,rfl,rfl⟩
   rw [List.take_add_one,List.take_add_one,hx,hy,hI]
 ·rintro e s ⟨hI,rfl,rfl⟩
  have hklt:((l.length:Int)<(l.length:Int))=False:=by simp
  rw [List.take_length,hll,List.take_length] at hI
  simp only [vqM,vt19,kk9,hklt,decide_false]
  refine ko9 (.inr rfl) ?_ (.bool _)
  simp only [vqM]
  rw [decide_eq_true hI]
theorem t_SameHeadF (x y:Hd) (s:St):Spec Tryz.prog 37 [.agg x.cells,.agg y.cells] s (.bool (decide (x=y))) s:=by
 obtain ⟨B,L,c⟩:=s
 rw [← seHd_eq]
 refine Spec.introN [] Tryz.func37 rfl (by decide) hmix (by kernel_rfl) [ResultVar.tmp 4] 38 rfl rfl ?_
 simp only [vqM,vt72,zA,zS]
 repeat' (first
  | ((with_reducible refine kh9 ?_);refine ka9 (t_sameRangesF _ _ _) ?_;simp only [vqM])
  | (with_reducible refine kb9 (fun hc=>?_) (fun hc=>?_) <;> simp only [vqM,vt72,hc,zA])
  | ((with_reducible refine is_q ?_);refine ke9 (.inr rfl) ?_ (.bool _) (fun _ h=>h) (Nat.le_refl _) <;> (try simp only [vqM]) <;> (first | (simp only [seHd, *,Bool.true_and,Bool.false_and,Bool.and_false];done) | (simp_all [seHd];done) | (simp_all [seHd];omega))))
def preEx (x y:Ex):Bool:=decide (x.op≠y.op) || (decide (x.n≠y.n) || (decide (x.v≠y.v) || decide ((x.a.length:Int)≠y.a.length)))
theorem t_SameExpr_of (x:Ex) (ih:∀ z ∈ x.a,∀ (y:Ex) (s:St),Spec Tryz.prog 87 [.agg z.cells,.agg y.cells] s (.bool (decide (z=y))) s) (y:Ex) (s:St):Spec Tryz.prog 87 [.agg x.cells,.agg y.cells] s (.bool (decide (x=y))) s:=by
 refine Spec.small fun hsm=>?_
 have hlen:(Ex.encs x.a).length≤281474976710656:=(hsm _ (.head _)).sl (o:=.none) (by cases x;simp [Ex.cells,Ex.a])
 rw [kn9] at hlen
 obtain ⟨B,L,c⟩:=s
 refine Spec.introN [(1,.cut)] Tryz.func87 rfl (by decide) hmix (by kernel_rfl) [ResultVar.tmp 4] 53 rfl rfl ?_
 simp only [vqM,zA,zS,zB]
 refine qe9 hmix [2,3,33] [J,J,.box B.length 0,.box (B.length+1) 0,J,J,J,J,J,J,J,J,J,J,J,J,J,J,J,J,J,J,J,J,J,J,J,J,J,J,J,J,J,.bool (preEx x y),J,J,J,J,J,J,J,J,J,J,J,J,J,J,J,J,J,J,J] (fun s=>s=⟨B++[.cells x.cells,.cells y.cells],L,c⟩) ?_ ?_
 ·simp only [vqM,vt67,zA]
  repeat' (first
   | (with_reducible refine kb9 (fun hc=>?_) (fun hc=>?_) <;> simp only [vqM,vt67,hc,zA,kn9])
   | ((with_reducible refine is_q ?_);refine kj9 ⟨?_,rfl⟩ <;> simp only [vke,zB,zA] <;> (first | (simp only [preEx, *,Bool.true_or,Bool.false_or,Bool.or_true];done) | (simp_all [preEx];done) | (simp_all [preEx];omega))))
 rintro s rfl
 simp only [vqM]
 refine kb9 (fun hc=>?_) (fun hc=>?_)
 ·simp only [vqM,zB]
  refine ke9 (.inr rfl) ?_ (.bool _) (fun _ h=>h) (Nat.le_refl _)
  have:x≠y:=by rintro rfl;simp [preEx] at hc
  simp only [vqM]
  rw [decide_eq_false this]
 simp only [preEx,Bool.or_eq_false_iff,decide_eq_false_iff_not,ne_eq,Classical.not_not] at hc
 obtain ⟨h1,h2,h3,h4⟩:=hc
 have hll:x.a.length=y.a.length:=by omega
 simp only [vqM,zB]
 refine kc9 [2,3,5] ?_
 simp only [vke,zB,zA]
 refine km9 hmix x.a.length (fun k e s=>x.a.take k=y.a.take k∧e=[J,J,.box B.length 0,.box (B.length+1) 0,J,.int .i64 (k:Int),J,J,J,J,J,J,J,J,J,J,J,J,J,J,J,J,J,J,J,J,J,J,J,J,J,J,J,J,J,J,J,J,J,J,J,J,J,J,J,J,J,J,J,J,J,J,J]∧s=⟨B++[.cells x.cells,.cells y.cells],L,c⟩) ?_ ?_ 0 _ _ (Nat.zero_le _) ⟨rfl,rfl,rfl⟩
 ·rintro k e s hk ⟨hI,rfl,rfl⟩ ihl
  have hkm:k<y.a.length:=by omega
  have hx:x.a[k]? = some x.a[k]:=List.getElem?_eq_getElem hk
  have hy:y.a[k]? = some y.a[k]:=List.getElem?_eq_getElem hkm
  have hg:(Ex.encs x.a)[k]? = some (x.a[k].cells):=by simp [Ex.encs_map,hx]
  have hh:(Ex.encs y.a)[k]? = some (y.a[k].cells):=by simp [Ex.encs_map,hy]
  have hklt:((k:Int)<(x.a.length:Int))=True:=by simp;exact hk
  have hpk:=ih _ (List.getElem_mem hk)
  generalize x.a[k]=xx at hx hg hpk
  generalize y.a[k]=yy at hy hh
  simp only [vqM,vt67,zA,zB,kn9,hklt,decide_true,natle0,Int.toNat_natCast,hg,hh]
  refine ka9 (hpk yy _) ?_
  simp only [vqM]
  refine kb9 (fun hc=>?_) (fun hc=>?_)
  ·simp only [vqM,zB]
   refine ke9 (.inr rfl) ?_ (.bool _) (fun _ h=>h) (Nat.le_refl _)
   have:x≠y:=by
    rintro rfl
    rw [hx] at hy;cases hy
    simp at hc
   simp only [vqM]
   rw [decide_eq_false this]
  ·simp only [vqM]
   rw [kf9 (by omega)]
   refine kc9 [2,3,5] ?_
   simp only [vke,zB,zA]
   have hc':xx=yy:=by simpa using hc
   subst hc'
   refine ihl _ _ ⟨?_,rfl,rfl⟩
   rw [List.take_add_one,List.take_add_one,hx,hy,hI]
 ·rintro e s ⟨hI,rfl,rfl⟩
  have hklt:((x.a.length:Int)<(x.a.length:Int))=False:=by simp
  rw [List.take_length,hll,List.take_length] at hI
  simp only [vqM,vt67,zA,zB,kn9,hklt,decide_false]
  refine ke9 (.inr rfl) ?_ (.bool _) (fun _ h=>h) (Nat.le_refl _)
  simp only [vqM]
  have:x=y:=by rw [x.eta,y.eta,h1,h2,h3,hI]
  rw [decide_eq_true this]
mutual
theorem t_SameExprF:∀ (x y:Ex) (s:St),Spec Tryz.prog 87 [.agg x.cells,.agg y.cells] s (.bool (decide (x=y))) s
 | .mk op n v a,y,s=>t_SameExpr_of (.mk op n v a) (t_SameExprsF a) y s
theorem t_SameExprsF:∀ (l:List Ex),∀ z ∈ l,∀ (y:Ex) (s:St),Spec Tryz.prog 87 [.agg z.cells,.agg y.cells] s (.bool (decide (z=y))) s
 | [],z,h=>by simp at h
 | x::l,z,h=>by
  rcases List.mem_cons.1 h with e | h
  ·rw [e];exact t_SameExprF x
  ·exact t_SameExprsF l z h
end
def preCo (x y:Co):Bool:=decide (x.op≠y.op) || (decide ((x.a.length:Int)≠y.a.length) || decide ((x.c.length:Int)≠y.c.length))
theorem t_SameCond_of (x:Co) (ih:∀ z ∈ x.c,∀ (y:Co) (s:St),Spec Tryz.prog 88 [.agg z.cells,.agg y.cells] s (.bool (decide (z=y))) s) (y:Co) (s:St):Spec Tryz.prog 88 [.agg x.cells,.agg y.cells] s (.bool (decide (x=y))) s:=by
 refine Spec.small fun hsm=>?_
 have hlen:(Ex.encs x.a).length≤281474976710656:=(hsm _ (.head _)).sl (o:=.none) (by cases x;simp [Co.cells,Co.a])
 have hlen2:(Co.encs x.c).length≤281474976710656:=(hsm _ (.head _)).sl (o:=.none) (by cases x;simp [Co.cells,Co.c])
 rw [kn9] at hlen
 rw [we9] at hlen2
 obtain ⟨B,L,c⟩:=s
 refine Spec.introN [(1,.cut)] Tryz.func88 rfl (by decide) hmix (by kernel_rfl) [ResultVar.tmp 4] 68 rfl rfl ?_
 simp only [vqM,zA,zS,zB]
 refine qe9 hmix [2,3,29] [J,J,.box B.length 0,.box (B.length+1) 0,J,J,J,J,J,J,J,J,J,J,J,J,J,J,J,J,J,J,J,J,J,J,J,J,J,.bool (preCo x y),J,J,J,J,J,J,J,J,J,J,J,J,J,J,J,J,J,J,J,J,J,J,J,J,J,J,J,J,J,J,J,J,J,J,J,J,J,J] (fun s=>s=⟨B++[.cells x.cells,.cells y.cells],L,c⟩) ?_ ?_
 ·simp only [vqM,vt76,zA]
  repeat' (first
   | (with_reducible refine kb9 (fun hc=>?_) (fun hc=>?_) <;> simp only [vqM,vt76,hc,zA,kn9,we9])
   | ((with_reducible refine is_q ?_);refine kj9 ⟨?_,rfl⟩ <;> simp only [vke,zB,zA] <;> (first | (simp only [preCo, *,Bool.true_or,Bool.false_or,Bool.or_true];done) | (simp_all [preCo];done) | (simp_all [preCo];omega))))
 rintro s rfl
 simp only [vqM]
 refine kb9 (fun hc=>?_) (fun hc=>?_)
 ·simp only [vqM,zB]
  refine ke9 (.inr rfl) ?_ (.bool _) (fun _ h=>h) (Nat.le_refl _)
  have:x≠y:=by rintro rfl;simp [preCo] at hc
  simp only [vqM]
  rw [decide_eq_false this]
 simp only [preCo,Bool.or_eq_false_iff,decide_eq_false_iff_not,ne_eq,Classical.not_not] at hc
 obtain ⟨h1,h2,h3⟩:=hc
 have hll:x.a.length=y.a.length:=by omega
 have hll2:x.c.length=y.c.length:=by omega
 simp only [vqM,zB]
 refine kc9 [2,3,5] ?_
 simp only [vke,zB,zA]
 refine km9 hmix x.a.length (fun k e s=>x.a.take k=y.a.take k∧e=[J,J,.box B.length 0,.box (B.length+1) 0,J,.int .i64 (k:Int),J,J,J,J,J,J,J,J,J,J,J,J,J,J,J,J,J,J,J,J,J,J,J,J,J,J,J,J,J,J,J,J,J,J,J,J,J,J,J,J,J,J,J,J,J,J,J,J,J,J,J,J,J,J,J,J,J,J,J,J,J,J]∧s=⟨B++[.cells x.cells,.cells y.cells],L,c⟩) ?_ ?_ 0 _ _ (Nat.zero_le _) ⟨rfl,rfl,rfl⟩
 ·rintro k e s hk ⟨hI,rfl,rfl⟩ ihl
  have hkm:k<y.a.length:=by omega
  have hx:x.a[k]? = some x.a[k]:=List.getElem?_eq_getElem hk
  have hy:y.a[k]? = some y.a[k]:=List.getElem?_eq_getElem hkm
  have hg:(Ex.encs x.a)[k]? = some (x.a[k].cells):=by simp [Ex.encs_map,hx]
  have hh:(Ex.encs y.a)[k]? = some (y.a[k].cells):=by simp [Ex.encs_map,hy]
  have hklt:((k:Int)<(x.a.length:Int))=True:=by simp;exact hk
  generalize x.a[k]=xx at hx hg
  generalize y.a[k]=yy at hy hh
  simp only [vqM,vt76,zA,zB,kn9,hklt,decide_true,natle0,Int.toNat_natCast,hg,hh]
  refine ka9 (t_SameExprF xx yy _) ?_
  simp only [vqM]
  refine kb9 (fun hc=>?_) (fun hc=>?_)
  ·simp only [vqM,zB]
   refine ke9 (.inr rfl) ?_ (.bool _) (fun _ h=>h) (Nat.le_refl _)
   have:x≠y:=by
    rintro rfl
    rw [hx] at hy;cases hy
    simp at hc
   simp only [vqM]
   rw [decide_eq_false this]
  ·simp only [vqM]
   rw [kf9 (by omega)]
   refine kc9 [2,3,5] ?_
   simp only [vke,zB,zA]
   have hc':xx=yy:=by simpa using hc
   subst hc'
   refine ihl _ _ ⟨?_,rfl,rfl⟩
   rw [List.take_add_one,List.take_add_one,hx,hy,hI]
 ·rintro e s ⟨hI,rfl,rfl⟩
  have hklt:((x.a.length:Int)<(x.a.length:Int))=False:=by simp
  rw [List.take_length,hll,List.take_length] at hI
  simp only [vqM,vt76,zA,zB,kn9,hklt,decide_false]
  have hIa:=hI
  clear hI
  refine kc9 [2,3,6] ?_
  simp only [vke,zB,zA]
  refine km9 hmix x.c.length (fun k e s=>x.c.take k=y.c.take k∧e=[J,J,.box B.length 0,.box (B.length+1) 0,J,J,.int .i64 (k:Int),J,J,J,J,J,J,J,J,J,J,J,J,J,J,J,J,J,J,J,J,J,J,J,J,J,J,J,J,J,J,J,J,J,J,J,J,J,J,J,J,J,J,J,J,J,J,J,J,J,J,J,J,J,J,J,J,J,J,J,J,J]∧s=⟨B++[.cells x.cells,.cells y.cells],L,c⟩) ?_ ?_ 0 _ _ (Nat.zero_le _) ⟨rfl,rfl,rfl⟩
  ·rintro k e s hk ⟨hI,rfl,rfl⟩ ihl
   have hkm:k<y.c.length:=by omega
   have hx:x.c[k]? = some x.c[k]:=List.getElem?_eq_getElem hk
   have hy:y.c[k]? = some y.c[k]:=List.getElem?_eq_getElem hkm
   have hg:(Co.encs x.c)[k]? = some (x.c[k].cells):=by simp [Co.encs_map,hx]
   have hh:(Co.encs y.c)[k]? = some (y.c[k].cells):=by simp [Co.encs_map,hy]
   have hklt:((k:Int)<(x.c.length:Int))=True:=by simp;exact hk
   have hpk:=ih _ (List.getElem_mem hk)
   generalize x.c[k]=xx at hx hg hpk
   generalize y.c[k]=yy at hy hh
   simp only [vqM,vt76,zA,zB,we9,hklt,decide_true,natle0,Int.toNat_natCast,hg,hh]
   refine ka9 (hpk yy _) ?_
   simp only [vqM]
   refine kb9 (fun hc=>?_) (fun hc=>?_)
   ·simp only [vqM,zB]
    refine ke9 (.inr rfl) ?_ (.bool _) (fun _ h=>h) (Nat.le_refl _)
    have:x≠y:=by
     rintro rfl
     rw [hx] at hy;cases hy
     simp at hc
    simp only [vqM]
    rw [decide_eq_false this]
   ·simp only [vqM]
    rw [kf9 (by omega)]
    refine kc9 [2,3,6] ?_
    simp only [vke,zB,zA]
    have hc':xx=yy:=by simpa using hc
    subst hc'
    refine ihl _ _ ⟨?_,rfl,rfl⟩
    rw [List.take_add_one,List.take_add_one,hx,hy,hI]
  ·rintro e s ⟨hI,rfl,rfl⟩
   have hklt:((x.c.length:Int)<(x.c.length:Int))=False:=by simp
   rw [List.take_length,hll2,List.take_length] at hI
   simp only [vqM,vt76,zA,zB,we9,hklt,decide_false]
   refine ke9 (.inr rfl) ?_ (.bool _) (fun _ h=>h) (Nat.le_refl _)
   simp only [vqM]
   have:x=y:=by rw [x.eta,y.eta,h1,hIa,hI]
   rw [decide_eq_true this]
mutual
theorem t_SameCondF:∀ (x y:Co) (s:St),Spec Tryz.prog 88 [.agg x.cells,.agg y.cells] s (.bool (decide (x=y))) s
 | .mk op a c,y,s=>t_SameCond_of (.mk op a c) (t_SameCondsF c) y s
theorem t_SameCondsF:∀ (l:List Co),∀ z ∈ l,∀ (y:Co) (s:St),Spec Tryz.prog 88 [.agg z.cells,.agg y.cells] s (.bool (decide (z=y))) s
 | [],z,h=>by simp at h
 | x::l,z,h=>by
  rcases List.mem_cons.1 h with e | h
  ·rw [e];exact t_SameCondF x
  ·exact t_SameCondsF l z h
end
def preSm (x y:Sm):Bool:=decide (x.site≠y.site) || (decide (x.op≠y.op) || (decide (x.n≠y.n) || (decide (x.m≠y.m) || (decide (x.v≠y.v) || (!decide (x.x=y.x) || (!decide (x.y=y.y) || (!decide (x.c=y.c) || (!decide (x.ptrs=y.ptrs) || (!decide (x.body=y.body) || (!decide (x.els=y.els) || decide ((x.args.length:Int)≠y.args.length)))))))))))
def SmSt (l m:List Sm) (k0:Nat) (nx ny:Sm) (B1:List Box) (L:List Nat) (c:Nat) (e:List D) (s:St):Prop:=∃ i j C,e=[.slice .none (Sm.encs l),.slice .none (Sm.encs m),J,J,J,.int .i64 (k0:Int),.box i 0,.box j 0,J,J,J,J,J,J,.int .i64 (k0:Int),.slice .none (Sm.encs l),.int .i64 (l.length:Int),.bool true,J,J,.slice .none (Sm.encs l),.int .i64 (k0:Int),.pin nx.cells,.agg nx.cells,.slice .none (Sm.encs m),.int .i64 (k0:Int),.pin ny.cells,.agg ny.cells,J,J,J,J,J,J,J,J,J,J,J,J,J,J,J,J,J,J,J,J,J,J,J,J,J,J,J,J,J,J,J,J,J,J,J,J,J,J,J,J,J,J,J,J,J,J,J,J,J,J,J,J,J,J,J,J,J,J,J,J,J,J,J,J,J,J,J,J,J,J,J,J,J,J,J,J,J,J,J,J,J,J,J,J,J,J,J,J,J,J,J,J,J,J,J,J,J,J,J,J,J,J,J,J,J,J,J,J,J]∧s=⟨B1++C,L,c⟩∧(B1++C)[i]? = some (.cells nx.cells)∧(B1++C)[j]? = some (.cells ny.cells)
theorem smSt_mk {l m:List Sm} {k0:Nat} {nx ny:Sm} {B1:List Box} {L:List Nat} {c i j:Nat} {C:List Box} {e:List D} {s:St} (h1:e=[.slice .none (Sm.encs l),.slice .none (Sm.encs m),J,J,J,.int .i64 (k0:Int),.box i 0,.box j 0,J,J,J,J,J,J,.int .i64 (k0:Int),.slice .none (Sm.encs l),.int .i64 (l.length:Int),.bool true,J,J,.slice .none (Sm.encs l),.int .i64 (k0:Int),.pin nx.cells,.agg nx.cells,.slice .none (Sm.encs m),.int .i64 (k0:Int),.pin ny.cells,.agg ny.cells,J,J,J,J,J,J,J,J,J,J,J,J,J,J,J,J,J,J,J,J,J,J,J,J,J,J,J,J,J,J,J,J,J,J,J,J,J,J,J,J,J,J,J,J,J,J,J,J,J,J,J,J,J,J,J,J,J,J,J,J,J,J,J,J,J,J,J,J,J,J,J,J,J,J,J,J,J,J,J,J,J,J,J,J,J,J,J,J,J,J,J,J,J,J,J,J,J,J,J,J,J,J,J,J,J,J,J,J,J]) (h2:s=⟨B1++C,L,c⟩) (h3:(B1++C)[i]? = some (.cells nx.cells)) (h4:(B1++C)[j]? = some (.cells ny.cells)):SmSt l m k0 nx ny B1 L c e s:=⟨i,j,C,h1,h2,h3,h4⟩
theorem t_SameStmts_of (l:List Sm) (ih:∀ z ∈ l,(∀ (m:List Sm) (s:St),Spec Tryz.prog 45 [.slice .none (Sm.encs z.body),.slice .none (Sm.encs m)] s (.bool (decide (z.body=m))) s)∧(∀ (m:List Sm) (s:St),Spec Tryz.prog 45 [.slice .none (Sm.encs z.els),.slice .none (Sm.encs m)] s (.bool (decide (z.els=m))) s)) (m:List Sm) (s:St) :
  Spec Tryz.prog 45 [.slice .none (Sm.encs l),.slice .none (Sm.encs m)] s (.bool (decide (l=m))) s:=by
 refine Spec.small fun hsm=>?_
 have hlen:=(hsm _ (.head _)).len
 rw [kp9] at hlen
 have harg:∀ z ∈ l,z.args.length≤281474976710656:=fun z hz=>by
  have h1:=(hsm _ (.head _)).elem (x:=z.cells) (by rw [Sm.encs_map];exact List.mem_map.2 ⟨z,hz,rfl⟩) (.slice .none (Ex.encs z.args)) (by cases z;simp [Sm.cells,Sm.args])
  have:=h1.len
  rwa [kn9] at this
 clear hsm
 obtain ⟨B,L,c⟩:=s
 refine Spec.introN [(6,.stop),(7,.cut)] Tryz.func45 rfl (by decide) hmix (by kernel_rfl) [ResultVar.tmp 4] 137 rfl rfl ?_
 simp only [vqM,vt77,zA,zS,zB,kp9]
 refine kb9 (fun hc=>?_) (fun hc=>?_)
 ·simp only [vqM,zB]
  refine ko9 (.inr rfl) ?_ (.bool _)
  have:l≠m:=by rintro rfl;simp at hc
  simp only [vqM]
  rw [decide_eq_false this]
 have hll:l.length=m.length:=by simp at hc;omega
 simp only [vqM,zB]
 refine kc9 [0,1,5] ?_
 simp only [vke,zB,zA]
 refine km9 hmix l.length (fun k e s=>l.take k=m.take k∧e=[.slice .none (Sm.encs l),.slice .none (Sm.encs m),J,J,J,.int .i64 (k:Int),J,J,J,J,J,J,J,J,J,J,J,J,J,J,J,J,J,J,J,J,J,J,J,J,J,J,J,J,J,J,J,J,J,J,J,J,J,J,J,J,J,J,J,J,J,J,J,J,J,J,J,J,J,J,J,J,J,J,J,J,J,J,J,J,J,J,J,J,J,J,J,J,J,J,J,J,J,J,J,J,J,J,J,J,J,J,J,J,J,J,J,J,J,J,J,J,J,J,J,J,J,J,J,J,J,J,J,J,J,J,J,J,J,J,J,J,J,J,J,J,J,J,J,J,J,J,J,J,J,J,J]∧∃ X,s=⟨B++X,L,c⟩) ?_ ?_ 0 _ _ (Nat.zero_le _) ⟨rfl,rfl,[],by rw [List.append_nil]⟩
 ·rintro k0 e s hk0 ⟨hI0,rfl,X,rfl⟩ ihl0
  have hkm:k0<m.length:=by omega
  have hx0:l[k0]? = some l[k0]:=List.getElem?_eq_getElem hk0
  have hy0:m[k0]? = some m[k0]:=List.getElem?_eq_getElem hkm
  have hg:(Sm.encs l)[k0]? = some (l[k0].cells):=by simp [Sm.encs_map,hx0]
  have hh:(Sm.encs m)[k0]? = some (m[k0].cells):=by simp [Sm.encs_map,hy0]
  have hklt:((k0:Int)<(l.length:Int))=True:=by simp;exact hk0
  have hpk:=ih _ (List.getElem_mem hk0)
  have hal:=harg _ (List.getElem_mem hk0)
  generalize l[k0]=nx at hx0 hg hpk hal
  generalize m[k0]=ny at hy0 hh
  have hneq:nx≠ny→l≠m:=by
   rintro hn rfl
   rw [hx0] at hy0;cases hy0;exact hn rfl
  obtain ⟨B1,hB1⟩:∃ B1,B1=B++X:=⟨_,rfl⟩
  rw [← hB1]
  simp only [vqM,vt77,zB,kp9,hklt,decide_true]
  refine awI_cutI (SmSt l m k0 nx ny B1 L c) ?_ ?_
  ·skip
   refine awI_drawM hmix [8,9,10,11] [⟨[0,1,2,3,4,5,6,7,8,9,10,11],[(3,1),(3,2),(7,1),(7,2),(7,3)]⟩,⟨[0,1,2,3,4,5,6,7,9,8,10,11],[(3,1),(3,2),(7,1),(7,2),(7,3)]⟩] (by kernel_rfl) fun pl hpl=>?_
   simp only [List.mem_cons,List.not_mem_nil,or_false] at hpl
   rcases hpl with rfl | rfl
   all_goals
    simp only [vqM,vt77,zA,zB,natle0,Int.toNat_natCast,hg,hh,List.getD_cons_zero,List.getD_cons_succ,List.contains_cons,List.contains_nil,Bool.or_false,Bool.or_true]
   all_goals
    refine kj9 ?_
    apply smSt_mk
    ·rfl
    ·rfl
    all_goals (first | (simp only [wi9,wd9,List.getElem?_cons_succ,List.getElem?_cons_zero];done) | (simp only [zA,wi9];rfl) | trace_state)
  rintro e s ⟨i6,i7,C,rfl,rfl,gi,gj⟩
  obtain ⟨B2,hB2⟩:∃ B2,B2=B1++C:=⟨_,rfl⟩
  rw [← hB2] at gi gj ⊢
  have hX2:∃ X2,B2=B++X2:=⟨X++C,by rw [hB2,hB1,List.append_assoc]⟩
  clear hg hh hklt hB1 hB2
  obtain ⟨X2,rfl⟩:=hX2
  simp only [vqM,zB]
  refine qe9 hmix [0,1,5,6,7,117] [.slice .none (Sm.encs l),.slice .none (Sm.encs m),J,J,J,.int .i64 (k0:Int),.box i6 0,.box i7 0,J,J,J,J,J,J,J,J,J,J,J,J,J,J,J,J,J,J,J,J,J,J,J,J,J,J,J,J,J,J,J,J,J,J,J,J,J,J,J,J,J,J,J,J,J,J,J,J,J,J,J,J,J,J,J,J,J,J,J,J,J,J,J,J,J,J,J,J,J,J,J,J,J,J,J,J,J,J,J,J,J,J,J,J,J,J,J,J,J,J,J,J,J,J,J,J,J,J,J,J,J,J,J,J,J,J,J,J,J,.bool (preSm nx ny),J,J,J,J,J,J,J,J,J,J,J,J,J,J,J,J,J,J,J] (fun s=>s=⟨B++X2,L,c⟩) ?_ ?_
  ·simp only [vqM,vt77,zA,gi,gj]
   repeat' (first
    | ((with_reducible refine kh9 ?_);refine ka9 (t_SameExprF _ _ _) ?_;simp only [vqM])
    | ((with_reducible refine kh9 ?_);refine ka9 (t_SameCondF _ _ _) ?_;simp only [vqM])
    | ((with_reducible refine kh9 ?_);refine ka9 (yb9 _ _ _) ?_;simp only [vqM])
    | ((with_reducible refine kh9 ?_);refine ka9 (hpk.1 _ _) ?_;simp only [vqM])
    | ((with_reducible refine kh9 ?_);refine ka9 (hpk.2 _ _) ?_;simp only [vqM])
    | (with_reducible refine kb9 (fun hc=>?_) (fun hc=>?_) <;> simp only [vqM,vt77,hc,zA,zS,zL,kn9,gi,gj])
    | ((with_reducible refine is_q ?_);refine kj9 ⟨?_,rfl⟩ <;> simp only [vke,zB,zA] <;> (first | (simp only [preSm, *,Bool.true_or,Bool.false_or,Bool.or_true];done) | (simp_all [preSm];done) | (simp_all [preSm];omega))))
  rintro s rfl
  simp only [vqM]
  refine kb9 (fun hc=>?_) (fun hc=>?_)
  ·simp only [vqM,zB]
   refine ke9 (.inr rfl) ?_ (.bool _) (fun _ h=>h) (Nat.le_refl _)
   have:l≠m:=hneq (by rintro rfl;simp [preSm] at hc)
   simp only [vqM]
   rw [decide_eq_false this]
  simp only [preSm,Bool.or_eq_false_iff,Bool.not_eq_false',decide_eq_false_iff_not,decide_eq_true_eq,ne_eq,Classical.not_not] at hc
  obtain ⟨q1,q2,q3,q4,q5,q6,q7,q8,q9,q10,q11,q12⟩:=hc
  have hll2:nx.args.length=ny.args.length:=by omega
  simp only [vqM,zB]
  refine kc9 [0,1,5,6,7,8] ?_
  simp only [vke,zB,zA]
  refine km9 hmix nx.args.length (fun k e s=>nx.args.take k=ny.args.take k∧e=[.slice .none (Sm.encs l),.slice .none (Sm.encs m),J,J,J,.int .i64 (k0:Int),.box i6 0,.box i7 0,.int .i64 (k:Int),J,J,J,J,J,J,J,J,J,J,J,J,J,J,J,J,J,J,J,J,J,J,J,J,J,J,J,J,J,J,J,J,J,J,J,J,J,J,J,J,J,J,J,J,J,J,J,J,J,J,J,J,J,J,J,J,J,J,J,J,J,J,J,J,J,J,J,J,J,J,J,J,J,J,J,J,J,J,J,J,J,J,J,J,J,J,J,J,J,J,J,J,J,J,J,J,J,J,J,J,J,J,J,J,J,J,J,J,J,J,J,J,J,J,J,J,J,J,J,J,J,J,J,J,J,J,J,J]∧s=⟨B++X2,L,c⟩) ?_ ?_ 0 _ _ (Nat.zero_le _) ⟨rfl,rfl,rfl⟩
  ·rintro k e s hk ⟨hI,rfl,rfl⟩ ihl
   have hkm:k<ny.args.length:=by omega
   have hx:nx.args[k]? = some nx.args[k]:=List.getElem?_eq_getElem hk
   have hy:ny.args[k]? = some ny.args[k]:=List.getElem?_eq_getElem hkm
   have hg:(Ex.encs nx.args)[k]? = some (nx.args[k].cells):=by simp [Ex.encs_map,hx]
   have hh:(Ex.encs ny.args)[k]? = some (ny.args[k].cells):=by simp [Ex.encs_map,hy]
   have hklt:((k:Int)<(nx.args.length:Int))=True:=by simp;exact hk
   generalize nx.args[k]=xx at hx hg
   generalize ny.args[k]=yy at hy hh
   simp only [vqM,vt77,zA,zB,kn9,hklt,decide_true,natle0,Int.toNat_natCast,hg,hh,gi,gj]
   refine ka9 (t_SameExprF xx yy _) ?_
   simp only [vqM]
   refine kb9 (fun hc=>?_) (fun hc=>?_)
   ·simp only [vqM,zB]
    refine ke9 (.inr rfl) ?_ (.bool _) (fun _ h=>h) (Nat.le_refl _)
    have:l≠m:=by
     refine hneq ?_
     rintro rfl
     rw [hx] at hy;cases hy
     simp at hc
    simp only [vqM]
    rw [decide_eq_false this]
   ·simp only [vqM]
    rw [kf9 (by omega)]
    refine kc9 [0,1,5,6,7,8] ?_
    simp only [vke,zB,zA]
    have hc':xx=yy:=by simpa using hc
    subst hc'
    refine ihl _ _ ⟨?_,rfl,rfl⟩
    rw [List.take_add_one,List.take_add_one,hx,hy,hI]
  ·rintro e s ⟨hI,rfl,rfl⟩
   have hklt:((nx.args.length:Int)<(nx.args.length:Int))=False:=by simp
   rw [List.take_length,hll2,List.take_length] at hI
   simp only [vqM,vt77,zA,zB,kn9,hklt,decide_false,gi]
   rw [kf9 (by omega)]
   refine kc9 [0,1,5] ?_
   simp only [vke,zB,zA]
   have:nx=ny:=by rw [nx.eta,ny.eta,q1,q2,q3,q4,q5,q6,q7,q8,hI,q9,q10,q11]
   refine ihl0 _ _ ⟨?_,rfl,X2,rfl⟩
   rw [List.take_add_one,List.take_add_one,hx0,hy0,hI0,this]
 ·rintro e s ⟨hI,rfl,X,rfl⟩
  have hklt:((l.length:Int)<(l.length:Int))=False:=by simp
  rw [List.take_length,hll,List.take_length] at hI
  simp only [vqM,vt77,zB,kp9,hklt,decide_false]
  refine ke9 (.inr rfl) ?_ (.bool _) (fun _ h=>h) (Nat.le_refl _)
  simp only [vqM]
  rw [decide_eq_true hI]
mutual
theorem t_StmtInF:∀ z:Sm,(∀ (m:List Sm) (s:St),Spec Tryz.prog 45 [.slice .none (Sm.encs z.body),.slice .none (Sm.encs m)] s (.bool (decide (z.body=m))) s)∧(∀ (m:List Sm) (s:St),Spec Tryz.prog 45 [.slice .none (Sm.encs z.els),.slice .none (Sm.encs m)] s (.bool (decide (z.els=m))) s)
 | .mk site op n m v a b c args ptrs body els=>⟨t_SameStmts_of body (t_StmtsInF body),t_SameStmts_of els (t_StmtsInF els)⟩
theorem t_StmtsInF:∀ l:List Sm,∀ z ∈ l,(∀ (m:List Sm) (s:St),Spec Tryz.prog 45 [.slice .none (Sm.encs z.body),.slice .none (Sm.encs m)] s (.bool (decide (z.body=m))) s)∧(∀ (m:List Sm) (s:St),Spec Tryz.prog 45 [.slice .none (Sm.encs z.els),.slice .none (Sm.encs m)] s (.bool (decide (z.els=m))) s)
 | [],z,h=>by simp at h
 | x::l,z,h=>by
  rcases List.mem_cons.1 h with e | h
  ·rw [e];exact t_StmtInF x
  ·exact t_StmtsInF l z h
end
theorem t_SameStmtsF (l m:List Sm) (s:St):Spec Tryz.prog 45 [.slice .none (Sm.encs l),.slice .none (Sm.encs m)] s (.bool (decide (l=m))) s:=t_SameStmts_of l (t_StmtsInF l) m s
theorem t_inR (n a b:Int) (s:St):Spec Tryz.prog 95 [.int .i64 n,.int .i64 a,.int .i64 b] s (.bool (inB n a b)) s:=by
 obtain ⟨B,L,c⟩:=s
 refine Spec.introN [] Tryz.func95 rfl (by decide) hmix (by kernel_rfl) [ResultVar.tmp 6] 15 rfl rfl ?_
 simp only [vqM,zA,zS]
 repeat' (first
  | (with_reducible refine kb9 (fun hc=>?_) (fun hc=>?_) <;> simp only [vqM,hc])
  | ((with_reducible refine is_q ?_);refine ko9 (.inr rfl) ?_ (.bool _) <;> (try simp only [vqM]) <;> (first | (simp only [inB, *,Bool.true_and,Bool.false_and];done) | (simp_all [inB];done) | (simp_all [inB];omega))))
theorem t_RangeR (r:Rg) (s:St):Spec Tryz.prog 96 [.agg r.cells] s (.bool (ku9 r)) s:=by
 obtain ⟨B,L,c⟩:=s
 refine Spec.introN [] Tryz.func96 rfl (by decide) hmix (by kernel_rfl) [ResultVar.tmp 2] 23 rfl rfl ?_
 simp only [vqM,vt35,zA,zS]
 repeat' (first
  | ((with_reducible refine kh9 ?_);refine ka9 (t_inR _ _ _ _) ?_;simp only [vqM])
  | (with_reducible refine kb9 (fun hc=>?_) (fun hc=>?_) <;> simp only [vqM,vt35,hc,zA])
  | ((with_reducible refine is_q ?_);refine ke9 (.inr rfl) ?_ (.bool _) (fun _ h=>h) (Nat.le_refl _) <;> (try simp only [vqM]) <;> (first | (simp only [ku9,inB, *,Bool.true_and,Bool.false_and,Bool.and_true,Bool.and_false];done) | (simp_all [ku9,inB];done) | (simp_all [ku9,inB];omega))))
theorem t_rangesR (l:List Rg) (n:Int) (s:St):Spec Tryz.prog 94 [.slice .none (ks9 l),.int .i64 n] s (.bool (qy9 l n ku9)) s:=by
 refine Spec.small fun hsm=>?_
 have hlen:=(hsm _ (.head _)).len
 rw [kk9] at hlen
 clear hsm
 obtain ⟨B,L,c⟩:=s
 refine Spec.introN [] Tryz.func94 rfl (by decide) hmix (by kernel_rfl) [ResultVar.tmp 4] 22 rfl rfl ?_
 simp only [vqM,zA,zS]
 refine kc9 [0,1,5] ?_
 simp only [vke,zB,zA]
 refine km9 hmix l.length (fun k e s=>(∀ z ∈ l.take k,ku9 z=true)∧e=[.slice .none (ks9 l),.int .i64 n,J,J,J,.int .i64 (k:Int),J,J,J,J,J,J,J,J,J,J,J,J,J,J,J,J]∧s=⟨B,L,c⟩) ?_ ?_ 0 _ _ (Nat.zero_le _) ⟨fun z h=>by simp at h,rfl,rfl⟩
 ·rintro k e s hk ⟨hI,rfl,rfl⟩ ihl
  have hx:l[k]? = some l[k]:=List.getElem?_eq_getElem hk
  have hg:(ks9 l)[k]? = some (l[k].cells):=by simp [ks9,hx]
  have hklt:((k:Int)<(l.length:Int))=True:=by simp;exact hk
  have hxm:l[k] ∈ l:=List.getElem_mem hk
  generalize l[k]=xx at hx hg hxm
  simp only [vqM,vt78,kk9,hklt,decide_true,natle0,Int.toNat_natCast,hg]
  refine ka9 (t_RangeR _ _) ?_
  simp only [vqM]
  refine kb9 (fun hc=>?_) (fun hc=>?_)
  ·have hb:ku9 xx=false:=by simpa using hc
   simp only [vqM]
   refine ko9 (.inr rfl) ?_ (.bool _)
   simp only [vqM]
   have:l.all ku9=false:=List.all_eq_false.2 ⟨xx,hxm,by simp [hb]⟩
   rw [qy9,this,Bool.and_false]
  ·have hb:ku9 xx=true:=by simpa using hc
   simp only [vqM]
   rw [kf9 (by omega)]
   refine kc9 [0,1,5] ?_
   simp only [vke,zB,zA]
   refine ihl _ _ ⟨fun z hz=>?_,rfl,rfl⟩
   rw [List.take_add_one,hx] at hz
   rcases List.mem_append.1 hz with hz | hz
   ·exact hI z hz
   ·simp at hz;subst hz;exact hb
 ·rintro e s ⟨hI,rfl,rfl⟩
  have hklt:((l.length:Int)<(l.length:Int))=False:=by simp
  rw [List.take_length] at hI
  simp only [vqM,vt78,kk9,hklt,decide_false]
  refine ko9 (.inr rfl) ?_ (.bool _)
  simp only [vqM]
  rw [qy9,List.all_eq_true.2 hI,Bool.and_true]
def preDcl (d:Dc):Bool:=!qy9 d.globals 8 ku9 || (!qy9 d.classes 8 ku9 || (decide (8<(d.sinks.length:Int)) || (decide (4<(d.queues.length:Int)) || (!inB d.locks 0 8 || (!inB d.parts 1 16 || !inB d.firms 1 8)))))
theorem t_DeclR (d:Dc) (s:St):Spec Tryz.prog 52 [.agg d.cells] s (.int .i64 (if declB d then 0 else 60)) s:=by
 refine Spec.small fun hsm=>?_
 have hlen:(qz9 d.queues).length≤281474976710656:=(hsm _ (.head _)).sl (o:=.none) (by cases d;simp [Dc.cells])
 have hlen2:(intCells d.sinks).length≤281474976710656:=(hsm _ (.head _)).sl (o:=.none) (by cases d;simp [Dc.cells])
 rw [qh9] at hlen
 rw [kd9] at hlen2
 clear hsm
 obtain ⟨B,L,c⟩:=s
 refine Spec.introN [(1,.cut),(6,.cut)] Tryz.func52 rfl (by decide) hmix (by kernel_rfl) [ResultVar.tmp 2] 84 rfl rfl ?_
 simp only [vqM,zA,zS,zB]
 refine qe9 hmix [1,44] [J,.box B.length 0,J,J,J,J,J,J,J,J,J,J,J,J,J,J,J,J,J,J,J,J,J,J,J,J,J,J,J,J,J,J,J,J,J,J,J,J,J,J,J,J,J,J,.bool (preDcl d),J,J,J,J,J,J,J,J,J,J,J,J,J,J,J,J,J,J,J,J,J,J,J,J,J,J,J,J,J,J,J,J,J,J,J,J,J,J,J] (fun s=>s=⟨B++[.cells d.cells],L,c⟩) ?_ ?_
 ·simp only [vqM,vt79,zA]
  repeat' (first
   | ((with_reducible refine kh9 ?_);refine ka9 (t_rangesR _ _ _) ?_;simp only [vqM])
   | ((with_reducible refine kh9 ?_);refine ka9 (t_inR _ _ _ _) ?_;simp only [vqM])
   | (with_reducible refine kb9 (fun hc=>?_) (fun hc=>?_) <;> simp only [vqM,vt79,hc,zA,qh9,kd9])
   | ((with_reducible refine is_q ?_);refine kj9 ⟨?_,rfl⟩ <;> simp only [vke,zB,zA] <;> (first | (simp only [preDcl, *,Bool.true_or,Bool.false_or,Bool.or_true];done) | (simp_all [preDcl];done) | (simp_all [preDcl];omega))))
 rintro s rfl
 simp only [vqM]
 have hdcl:declB d=(!preDcl d && (d.queues.all declQ && d.sinks.all (inB · 0 255))):=by
  simp only [declB,preDcl,qy9,Bool.not_or,Bool.not_not,Int.not_lt,← decide_not]
  rw [Bool.eq_iff_iff]
  simp only [Bool.and_eq_true,decide_eq_true_eq]
  constructor
  ·rintro ⟨⟨⟨⟨⟨⟨h1,h2⟩,h3⟩,h4⟩,h5⟩,h6⟩,h7⟩
   exact ⟨⟨h1,h2,h4.1,h3.1,h5,h6,h7⟩,h3.2,h4.2⟩
  ·rintro ⟨⟨h1,h2,h4,h3,h5,h6,h7⟩,h8,h9⟩
   exact ⟨⟨⟨⟨⟨⟨h1,h2⟩,h3,h8⟩,h4,h9⟩,h5⟩,h6⟩,h7⟩
 refine kb9 (fun hc=>?_) (fun hc=>?_)
 ·simp only [vqM,zB]
  refine ke9 (.inr rfl) ?_ (.int _ _) (fun _ h=>h) (Nat.le_refl _)
  simp only [vqM]
  rw [hdcl,hc];rfl
 rw [hc,Bool.not_false,Bool.true_and] at hdcl
 simp only [vqM,zB]
 refine kc9 [1,3] ?_
 simp only [vke,zB,zA]
 refine km9 hmix d.queues.length (fun k e s=>(∀ z ∈ d.queues.take k,declQ z=true)∧e=[J,.box B.length 0,J,.int .i64 (k:Int),J,J,J,J,J,J,J,J,J,J,J,J,J,J,J,J,J,J,J,J,J,J,J,J,J,J,J,J,J,J,J,J,J,J,J,J,J,J,J,J,J,J,J,J,J,J,J,J,J,J,J,J,J,J,J,J,J,J,J,J,J,J,J,J,J,J,J,J,J,J,J,J,J,J,J,J,J,J,J,J]∧s=⟨B++[.cells d.cells],L,c⟩) ?_ ?_ 0 _ _ (Nat.zero_le _) ⟨fun z h=>by simp at h,rfl,rfl⟩
 ·rintro k e s hk ⟨hI,rfl,rfl⟩ ihl
  have hx:d.queues[k]? = some d.queues[k]:=List.getElem?_eq_getElem hk
  have hg:(qz9 d.queues)[k]? = some (d.queues[k].cells):=by simp [qz9,hx]
  have hklt:((k:Int)<(d.queues.length:Int))=True:=by simp;exact hk
  have hxm:d.queues[k] ∈ d.queues:=List.getElem_mem hk
  generalize d.queues[k]=xx at hx hg hxm
  simp only [vqM,vt79,zA,zB,qh9,hklt,decide_true]
  refine qe9 hmix [1,3,69] [J,.box B.length 0,J,.int .i64 (k:Int),J,J,J,J,J,J,J,J,J,J,J,J,J,J,J,J,J,J,J,J,J,J,J,J,J,J,J,J,J,J,J,J,J,J,J,J,J,J,J,J,J,J,J,J,J,J,J,J,J,J,J,J,J,J,J,J,J,J,J,J,J,J,J,J,J,.bool (!declQ xx),J,J,J,J,J,J,J,J,J,J,J,J,J,J] (fun s=>s=⟨B++[.cells d.cells],L,c⟩) ?_ ?_
  ·simp only [vqM,vt79,zA,zS,natle0,Int.toNat_natCast,hg]
   repeat' (first
    | ((with_reducible refine kh9 ?_);refine ka9 (t_RangeR _ _) ?_;simp only [vqM])
    | ((with_reducible refine kh9 ?_);refine ka9 (t_inR _ _ _ _) ?_;simp only [vqM])
    | (with_reducible refine kb9 (fun hc=>?_) (fun hc=>?_) <;> simp only [vqM,vt79,hc,zA,natle0,Int.toNat_natCast,hg])
    | ((with_reducible refine is_q ?_);refine kj9 ⟨?_,rfl⟩ <;> simp only [vke,zB,zA] <;> (first | (simp only [declQ, *];done) | (simp_all [declQ];done) | (simp_all [declQ];omega))))
  rintro s rfl
  simp only [vqM]
  refine kb9 (fun hc=>?_) (fun hc=>?_)
  ·have hb:declQ xx=false:=by simpa using hc
   simp only [vqM,zB]
   refine ke9 (.inr rfl) ?_ (.int _ _) (fun _ h=>h) (Nat.le_refl _)
   simp only [vqM]
   have:d.queues.all declQ=false:=List.all_eq_false.2 ⟨xx,hxm,by simp [hb]⟩
   rw [hdcl,this];rfl
  ·have hb:declQ xx=true:=by simpa using hc
   simp only [vqM]
   rw [kf9 (by omega)]
   refine kc9 [1,3] ?_
   simp only [vke,zB,zA]
   refine ihl _ _ ⟨fun z hz=>?_,rfl,rfl⟩
   rw [List.take_add_one,hx] at hz
   rcases List.mem_append.1 hz with hz | hz
   ·exact hI z hz
   ·simp at hz;subst hz;exact hb
 ·rintro e s ⟨hI,rfl,rfl⟩
  have hklt:((d.queues.length:Int)<(d.queues.length:Int))=False:=by simp
  rw [List.take_length] at hI
  simp only [vqM,vt79,zA,zB,qh9,hklt,decide_false]
  have hq:d.queues.all declQ=true:=List.all_eq_true.2 hI
  rw [hq,Bool.true_and] at hdcl
  clear hI hklt
  refine kc9 [1,4] ?_
  simp only [vke,zB,zA]
  refine km9 hmix d.sinks.length (fun k e s=>(∀ z ∈ d.sinks.take k,inB z 0 255=true)∧e=[J,.box B.length 0,J,J,.int .i64 (k:Int),J,J,J,J,J,J,J,J,J,J,J,J,J,J,J,J,J,J,J,J,J,J,J,J,J,J,J,J,J,J,J,J,J,J,J,J,J,J,J,J,J,J,J,J,J,J,J,J,J,J,J,J,J,J,J,J,J,J,J,J,J,J,J,J,J,J,J,J,J,J,J,J,J,J,J,J,J,J,J]∧s=⟨B++[.cells d.cells],L,c⟩) ?_ ?_ 0 _ _ (Nat.zero_le _) ⟨fun z h=>by simp at h,rfl,rfl⟩
  ·rintro k e s hk ⟨hI,rfl,rfl⟩ ihl
   have hx:d.sinks[k]? = some d.sinks[k]:=List.getElem?_eq_getElem hk
   have hg:(intCells d.sinks)[k]? = some ([.int .i64 d.sinks[k]]):=by simp [intCells,hx]
   have hklt:((k:Int)<(d.sinks.length:Int))=True:=by simp;exact hk
   have hxm:d.sinks[k] ∈ d.sinks:=List.getElem_mem hk
   generalize d.sinks[k]=xx at hx hg hxm
   simp only [vqM,vt79,zA,zB,kd9,hklt,decide_true,natle0,Int.toNat_natCast,hg]
   refine ka9 (t_inR _ _ _ _) ?_
   simp only [vqM]
   refine kb9 (fun hc=>?_) (fun hc=>?_)
   ·have hb:inB xx 0 255=false:=by simpa using hc
    simp only [vqM,zB]
    refine ke9 (.inr rfl) ?_ (.int _ _) (fun _ h=>h) (Nat.le_refl _)
    simp only [vqM]
    have:d.sinks.all (inB · 0 255)=false:=List.all_eq_false.2 ⟨xx,hxm,by simp [hb]⟩
    rw [hdcl,this];rfl
   ·have hb:inB xx 0 255=true:=by simpa using hc
    simp only [vqM]
    rw [kf9 (by omega)]
    refine kc9 [1,4] ?_
    simp only [vke,zB,zA]
    refine ihl _ _ ⟨fun z hz=>?_,rfl,rfl⟩
    rw [List.take_add_one,hx] at hz
    rcases List.mem_append.1 hz with hz | hz
    ·exact hI z hz
    ·simp at hz;subst hz;exact hb
  ·rintro e s ⟨hI,rfl,rfl⟩
   have hklt:((d.sinks.length:Int)<(d.sinks.length:Int))=False:=by simp
   rw [List.take_length] at hI
   simp only [vqM,vt79,zA,zB,kd9,hklt,decide_false]
   refine ke9 (.inr rfl) ?_ (.int _ _) (fun _ h=>h) (Nat.le_refl _)
   simp only [vqM]
   have:d.sinks.all (inB · 0 255)=true:=List.all_eq_true.2 hI
   rw [hdcl,this];rfl
theorem i6:(if false=true then (0:Int) else 60)=60:=rfl
theorem i0:(if true=true then (0:Int) else 60)=0:=rfl
structure SitesOk (p:Pg):Prop where
 nd:∀ d ∈ p.defs,(sitesS d).Nodup
 sz:∀ d ∈ p.defs,cntL d.body<999999
 ln:p.defs.length≤1000000
mutual
def Sm.sts:Sm→List Int
 | .mk site _ _ _ _ _ _ _ _ _ body els=>site::(stsL body++stsL els)
def stsL:List Sm→List Int
 | []=>[]
 | x::l=>x.sts++stsL l
end
theorem Sm.sts_eq (x:Sm):x.sts=x.site::(stsL x.body++stsL x.els):=by cases x;simp only [Sm.sts,Sm.site,Sm.body,Sm.els]
mutual
theorem flat_sts:(x:Sm)→∀ d,sitesL (x.flat d)=x.sts
 | .mk site op n m v x y c args ptrs body els=>fun d=>by
  rw [Sm.flat_eq,Sm.sts_eq]
  have h1:=flatL_sts body (w64 (d+1))
  have h2:=flatL_sts els (w64 (d+1))
  simp only [sitesL,Sm.body,Sm.els,Sm.site] at *
  simp only [List.map_cons,List.map_append,h1,h2]
theorem flatL_sts:(l:List Sm)→∀ d,sitesL (flatL d l)=stsL l
 | []=>fun d=>by simp [flatL,stsL,sitesL]
 | x::l=>fun d=>by
  have h1:=flat_sts x d
  have h2:=flatL_sts l d
  simp only [sitesL] at *
  rw [flatL,List.map_append,h1,h2,stsL]
end
theorem stsL_app:∀ l m:List Sm,stsL (l++m)=stsL l++stsL m
 | [],m=>by simp [stsL]
 | x::l,m=>by rw [List.cons_append,stsL,stsL,stsL_app l m,List.append_assoc]
structure Inc (lo hi:Int) (l:List Int):Prop where
 lt:l.Pairwise (· < ·)
 rg:∀ x ∈ l,lo<x∧x≤hi
theorem Inc.nil {lo hi:Int}:Inc lo hi []:=⟨.nil,fun x h=>by simp at h⟩
theorem Inc.one {lo hi x:Int} (h:lo<x∧x≤hi):Inc lo hi [x]:=⟨by simp,fun y hy=>by simp at hy;subst hy;exact h⟩
theorem Inc.app {a b c:Int} {l m:List Int} (h:Inc a b l) (k:Inc b c m) (hab:a≤b) (hbc:b≤c):Inc a c (l++m):=by
 refine ⟨List.pairwise_append.2 ⟨h.lt,k.lt,fun x hx y hy=>?_⟩,fun x hx=>?_⟩
 ·have:=h.rg x hx;have:=k.rg y hy;omega
 ·rcases List.mem_append.1 hx with hx | hx
  ·have:=h.rg x hx;omega
  ·have:=k.rg x hx;omega
theorem Inc.cons {a c x:Int} {m:List Int} (h:a<x) (k:Inc x c m) (hc:x≤c):Inc a c (x::m):=by
 have:=(Inc.one ⟨h,Int.le_refl x⟩).app k (by omega) hc
 simpa using this
theorem Inc.wide {a b c d:Int} {l:List Int} (h:Inc b c l) (h1:a≤b) (h2:c≤d):Inc a d l:=⟨h.lt,fun x hx=>by have:=h.rg x hx;omega⟩
theorem stm_sts (s op n m v:Int) (x y:Ex) (c:Co):(stm s op n m v x y c).sts=[s]:=by simp [stm,Sm.sts,stsL]
theorem sts_one {s op n m v:Int} {x y:Ex} {c:Co}:stsL [stm s op n m v x y c]=[s]:=by simp [stsL,stm_sts]
theorem call_sts (f:Fd) (a:Mk):(call f a).1.sts=[a.site+1]:=by
 unfold call
 simp only
 split
 ·simp [stm_sts]
 ·simp [Sm.sts,stsL]
theorem risky_sts (f:Fd) (a:Mk):(risky f a).1.sts=[a.site+1]:=by
 have key:∀ (c:Prop) [Decidable c] (x y:Sm × Mk),x.1.sts=[a.site+1]→y.1.sts=[a.site+1]→(if c then x else y).1.sts=[a.site+1]:=by
  intro c _ x y h1 h2;split <;> assumption
 unfold risky
 simp only
 repeat (refine key _ _ _ (stm_sts _ _ _ _ _ _ _ _) ?_)
 exact stm_sts _ _ _ _ _ _ _ _
theorem simple_inc (f:Fd) (a:Mk):Inc a.site (simple f a).2.site (stsL (simple f a).1):=by
 obtain ⟨p,s,e,h1,h2,h3,h4⟩:=simple_frame f a
 obtain ⟨p1,e1,e2,e3⟩:=ql9 f 1 { a with site:=a.site+1+1,pos:=a.pos+1 }
 have hs:(simple f a).2.site=s:=by rw [e]
 have key:∀ (c:Prop) [Decidable c] (x y:List Sm × Mk),Inc a.site x.2.site (stsL x.1)→(¬ c→Inc a.site y.2.site (stsL y.1))→Inc a.site (if c then x else y).2.site (stsL (if c then x else y).1):=by
  intro c _ x y h1 h2;split
  ·assumption
  ·rename_i h;exact h2 h
 have k1:∀ (x:Sm) (m:Mk),x.sts=[a.site+1]→a.site<m.site→Inc a.site m.site (stsL [x]):=fun x m h1 h2=>by
  simp only [stsL,h1,List.append_nil];exact .one ⟨by omega,by omega⟩
 have ex2:=ql9 f 2 { a with site:=a.site+1,pos:=a.pos+1+1 }
 obtain ⟨p2,f1,f2,f3⟩:=ex2
 unfold simple
 simp only
 refine key _ _ _ (k1 _ _ (stm_sts ..) (by simp only;omega)) fun _=>?_
 refine key _ _ _ (k1 _ _ (stm_sts ..) (by simp only [f1];omega)) fun _=>?_
 refine key _ _ _ (k1 _ _ (stm_sts ..) (by simp only;omega)) fun _=>?_
 refine key _ _ _ (k1 _ _ (stm_sts ..) (by simp only;omega)) fun _=>?_
 refine key _ _ _ ?_ fun _=>?_
 ·simp only [stsL,stm_sts,List.cons_append,List.nil_append,List.append_nil]
  exact ⟨by simp;omega,fun x hx=>by simp at hx;omega⟩
 refine key _ _ _ ?_ fun _=>k1 _ _ (stm_sts ..) (by simp only [f1];omega)
 simp only [stsL,stm_sts,List.cons_append,List.nil_append,List.append_nil,e1]
 exact ⟨by simp;omega,fun x hx=>by simp at hx;omega⟩
theorem other_inc (f:Fd) (hA:FxH f) (k d:Int) (a:Mk):Inc a.site (other f k d a).2.site (stsL (other f k d a).1):=by
 have hs:=(other_frame f hA k d a).s1
 unfold other at hs ⊢
 split
 ·rename_i h;rw [if_pos h] at hs
  simp only [stsL,call_sts,List.append_nil]
  exact .one ⟨by omega,Int.add_one_le_iff.2 hs⟩
 rename_i h;rw [if_neg h] at hs
 split
 ·simp only [sts_one];exact .one ⟨by omega,Int.le_refl _⟩
 rename_i h;rw [if_neg h] at hs
 split
 ·rename_i h;rw [if_pos h] at hs
  simp only [sts_one];exact .one ⟨by omega,Int.add_one_le_iff.2 hs⟩
 rename_i h;rw [if_neg h] at hs
 split
 ·rename_i h;rw [if_pos h] at hs
  exact simple_inc f a
 ·rename_i h;rw [if_neg h] at hs
  simp only [stsL,risky_sts,List.append_nil]
  exact .one ⟨by omega,Int.add_one_le_iff.2 hs⟩
theorem it_inc {ns:Int→Mk→Option (Sm × Mk)} {f:Fd} (hA:FxH f) (hn:∀ k m r,ns k m=some r→NGr m r.2) (hi:∀ k m r,ns k m=some r→Inc m.site r.2.site r.1.sts) (d:Int) (a:Mk):∀ k,Inc a.site (itK ns f d a k).2.site (stsL (itK ns f d a k).1):=by
 intro k
 induction k with
 | zero=>exact .nil
 | succ k ih =>
  have hg:=(gr_it hA hn d a k).s1
  simp only [itK]
  split
  ·rename_i hl
   have hs:=(gr_step hA hn d _ hl).s1
   generalize itK ns f d a k=q at ih hg hl hs ⊢
   unfold stStep at hs ⊢
   cases hr:ns (rnd f.bytes q.2.pos 16) { q.2 with left:=q.2.left - 1,pos:=q.2.pos+1 } with
   | some r =>
    rw [hr] at hs
    have:=hi _ _ _ hr
    simp only [stsL_app,stsL,List.append_nil]
    exact ih.app this hg hs
   | none =>
    rw [hr] at hs
    have:=other_inc f hA (rnd f.bytes q.2.pos 16) d { q.2 with left:=q.2.left - 1,pos:=q.2.pos+1 }
    simp only [stsL_app]
    exact ih.app this hg hs
  ·exact ih
theorem nest_inc {f:Fd} (hA:FxH f):∀ (d:Nat) (k:Int) (a:Mk) (r:Sm × Mk),nestS f d k a=some r→Inc a.site r.2.site r.1.sts:=by
 intro d
 induction d with
 | zero=>intro k a r h;cases h
 | succ d ih =>
  intro k a r h
  have hit:=fun a n=>it_inc hA (xh9 hA d) ih d a n
  have hgr:=fun a n=>(gr_it hA (xh9 hA d) d a n).s1
  obtain ⟨p,e1,e2,e3⟩:=xu9 f 1 { a with site:=a.site+1 }
  simp only [nestS] at h
  split at h
  ·cases h
  split at h
  ·cases h
   simp only [whileS,e1]
   have h1:=hit { a with site:=a.site+1,pos:=p+1+1,loop:=a.loop+1 } (1+rnd f.bytes (p+1) 2).toNat
   have g1:=hgr { a with site:=a.site+1,pos:=p+1+1,loop:=a.loop+1 } (1+rnd f.bytes (p+1) 2).toNat
   generalize itK (nestS f d) f d { a with site:=a.site+1,pos:=p+1+1,loop:=a.loop+1 } (1+rnd f.bytes (p+1) 2).toNat=b at h1 g1 ⊢
   simp only [Sm.sts,stsL,List.append_nil]
   exact .cons (by omega) h1 g1
  split at h
  ·cases h
   simp only [tryS]
   have h1:=hit { a with site:=a.site+1,pos:=a.pos+1+1 } (1+rnd f.bytes (a.pos+1) 2).toNat
   have g1:=hgr { a with site:=a.site+1,pos:=a.pos+1+1 } (1+rnd f.bytes (a.pos+1) 2).toNat
   generalize itK (nestS f d) f d { a with site:=a.site+1,pos:=a.pos+1+1 } (1+rnd f.bytes (a.pos+1) 2).toNat=b at h1 g1 ⊢
   have h2:=hit { b.2 with pos:=b.2.pos+1 } (rnd f.bytes b.2.pos 2).toNat
   have g2:=hgr { b.2 with pos:=b.2.pos+1 } (rnd f.bytes b.2.pos 2).toNat
   generalize itK (nestS f d) f d { b.2 with pos:=b.2.pos+1 } (rnd f.bytes b.2.pos 2).toNat=e at h2 g2 ⊢
   simp only [Sm.sts]
   exact .cons (by omega) (h1.app h2 g1 g2) (Int.le_trans g1 g2)
  ·cases h
   simp only [ifS,e1]
   have h1:=hit { a with site:=a.site+1,pos:=p+1 } (1+rnd f.bytes p 2).toNat
   have g1:=hgr { a with site:=a.site+1,pos:=p+1 } (1+rnd f.bytes p 2).toNat
   generalize itK (nestS f d) f d { a with site:=a.site+1,pos:=p+1 } (1+rnd f.bytes p 2).toNat=b at h1 g1 ⊢
   have h2:=hit { b.2 with pos:=b.2.pos+1 } (rnd f.bytes b.2.pos 2).toNat
   have g2:=hgr { b.2 with pos:=b.2.pos+1 } (rnd f.bytes b.2.pos 2).toNat
   generalize itK (nestS f d) f d { b.2 with pos:=b.2.pos+1 } (rnd f.bytes b.2.pos 2).toNat=e at h2 g2 ⊢
   simp only [Sm.sts]
   exact .cons (by omega) (h1.app h2 g1 g2) (Int.le_trans g1 g2)
theorem Inc.len {lo hi:Int}:∀ {l:List Int},Inc lo hi l→lo≤hi→(l.length:Int)≤hi - lo:=by
 intro l
 induction l generalizing lo with
 | nil=>intro _ h;simp;omega
 | cons x l ih =>
  intro h hlh
  have hx:=h.rg x (by simp)
  have h2:Inc x hi l:=⟨(List.pairwise_cons.1 h.lt).2,fun y hy=>⟨(List.pairwise_cons.1 h.lt).1 y hy,(h.rg y (by simp [hy])).2⟩⟩
  have:=ih h2 hx.2
  simp;omega
theorem Inc.nodup {lo hi:Int} {l:List Int} (h:Inc lo hi l):l.Nodup:=h.lt.imp fun h=>by omega
structure Pre (f:Fd):Prop where
 ok:FxOk f
 hd:∀ h ∈ f.heads,h.params.length≤10∧h.given.length≤10
 hds:f.heads.length≤900
theorem defA {f:Fd} (H:Pre f) (p:Int) (id:Int) (th:Bool):FxH { f with d:=(defD f.bytes p id th).1 }:=by
 have hb:=H.ok
 have hhl:=H.hds
 have hr3:=@kt9 _ (p+1+1+1+1) 3 hb
 have hr3':=@wb9 f.bytes (p+1+1+1+1) 3 (by omega)
 have hn:parN f.bytes p th≤2:=by unfold parN;split <;> omega
 obtain ⟨hP1,hP2⟩:=parK_len f.bytes (p+1+1+1+1+1) (parN f.bytes p th)
 have hr2a:=@kt9 _ ((parK f.bytes (p+1+1+1+1+1) (parN f.bytes p th)).2+1) 2 hb
 have hr2b:=@wb9 f.bytes ((parK f.bytes (p+1+1+1+1+1) (parN f.bytes p th)).2+1) 2 (by omega)
 exact {
  ok:=hb
  par:=by show (parK f.bytes (p+1+1+1+1+1) (parN f.bytes p th)).1.length≤100;omega
  vars:=by
   show ((parK f.bytes (p+1+1+1+1+1) (parN f.bytes p th)).1.length:Int)<(parK f.bytes (p+1+1+1+1+1) (parN f.bytes p th)).1.length+2+rnd f.bytes ((parK f.bytes (p+1+1+1+1+1) (parN f.bytes p th)).2+1) 2∧_
   constructor
   ·omega
   ·show ((parK f.bytes (p+1+1+1+1+1) (parN f.bytes p th)).1.length:Int)+2+rnd f.bytes ((parK f.bytes (p+1+1+1+1+1) (parN f.bytes p th)).2+1) 2≤1000
    omega
  arr:=by
   simp only [defD,arrs]
   split
   ·split <;> simp
   ·simp
  hd:=H.hd
  hds:=by show f.heads.length≤1000;omega }
theorem sitesS_eq (d:Df):sitesS d=stsL d.body++[d.site]:=by rw [sitesS,flatL_sts]
theorem defS_inc {f:Fd} (H:Pre f) (a:Mk) (id:Int) (th:Bool):Inc a.site (defS f a id th).2.site (sitesS (defS f a id th).1):=by
 have hA:=defA H a.pos id th
 have h1:=it_inc hA (xh9 hA 2) (nest_inc hA 2) ((2:Nat):Int) ({ pos:=(defD f.bytes a.pos id th).2+1,site:=a.site,left:=9,loop:=a.loop,done:=0 }:Mk) (1+rnd f.bytes (defD f.bytes a.pos id th).2 5).toNat
 have g1:=(gr_it hA (xh9 hA 2) ((2:Nat):Int) ({ pos:=(defD f.bytes a.pos id th).2+1,site:=a.site,left:=9,loop:=a.loop,done:=0 }:Mk) (1+rnd f.bytes (defD f.bytes a.pos id th).2 5).toNat).s1
 rw [sitesS_eq]
 simp only [defS,stmts]
 exact h1.app (.one ⟨by omega,Int.le_refl _⟩) g1 (by omega)
theorem defsK_pre {b:List Int} (hb:∀ x ∈ b,0≤x∧x<256) (n:Int) (k:Nat) (hk:k≤100):Pre (defsK b n k).1:=by
 obtain ⟨h1,h2,h3,h4,h5,h6,h6b,h7,h8,h9,h10,h11⟩:=defsK_inv hb n k hk
 exact ⟨by unfold FxOk;rw [h1];exact hb,h6,by omega⟩
theorem defsK_inc {b:List Int} (hb:∀ x ∈ b,0≤x∧x<256) (n:Int):∀ k:Nat,k≤100→Inc 100 (defsK b n k).2.site ((defsK b n k).1.defs.flatMap sitesS):=by
 intro k
 induction k with
 | zero=>intro _;exact .nil
 | succ k ih =>
  intro hk
  have h0:=ih (by omega)
  have hp:=defsK_pre hb n k (by omega)
  obtain ⟨_,_,_,_,_,_,_,_,_,h9,_,_⟩:=defsK_inv hb n k (by omega)
  obtain ⟨_,_,_,_,_,_,_,_,_,h9',_,_⟩:=defsK_inv hb n (k+1) hk
  simp only [defsK] at h9' ⊢
  obtain ⟨m,hm⟩:∃ m:Mk,m=if (k:Int)=n - 1 then (defsK b n k).2 else { (defsK b n k).2 with pos:=(defsK b n k).2.pos+1 }:=⟨_,rfl⟩
  have hms:m.site=(defsK b n k).2.site:=by rw [hm];split <;> rfl
  rw [← hm] at h9' ⊢
  have hi:=defS_inc hp m (11+k) (isTh b n (defsK b n k).2.pos k)
  have hf:=(defS_frame (defsK b n k).1 hp.ok hp.hd hp.hds m (11+k) (isTh b n (defsK b n k).2.pos k)).2.2.1
  simp only [addDef,List.flatMap_append,List.flatMap_cons,List.flatMap_nil,List.append_nil]
  rw [hms] at hi hf
  exact h0.app hi h9 (by omega)
end Go.V
