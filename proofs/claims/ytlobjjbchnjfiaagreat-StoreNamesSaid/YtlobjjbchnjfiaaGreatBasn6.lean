/-
  The value-level logic and its contracts, part 6 (texts S10, S11, S12, S13, S14, S15, L1, L2, L3, L4, P1, P2, P3, P4, P5, P6, L5, P7, P8, P9, L7, W18).
-/
import Derived.Test.YtlobjjbchnjfiaaGreatBasn5
import Derived.Test.YtlobjjbchnjfiaaGreatBasn3
open Nat renaming reduceAdd → zA, reduceSub → zS, reduceMul → zM, reduceLeDiff → zL, reduceEqDiff → zE, reduceBEq → zB
open Go.V.D renaming junk → J
set_option linter.all false
set_option linter.unusedSimpArgs false
set_option linter.unusedVariables false
set_option linter.unnecessarySimpa false
set_option maxHeartbeats 4000000
namespace Go.V
open Go.Proofs
set_option maxRecDepth 20000
set_option maxHeartbeats 2000000
theorem ret_cell {P:Program} {rs:List ResultVar} {B T X:List Box} {L L':List Nat} {c c':Nat} {xs ys:List D} {r:D} {e:List D} {x:Exit} (hx:x=.normal∨x=.ret) (h1:(resD P e ⟨B++.cells ys::(T++X),L',c'⟩ rs).map tupD=some r) (hb:Bd 0 0 r) (hy:∀ d ∈ ys,Bd 0 0 d) (hl:∀ k,k ∈ L→k ∈ L') (hc:c≤c') :
  @qI x e ⟨B++.cells ys::(T++X),L',c'⟩ (retC P rs ⟨B++.cells xs::T,L,c⟩ r ⟨B++.cells ys::T,L,c⟩):=by
 unfold retC
 obtain ⟨ds,h1,h2⟩:=Option.map_eq_some_iff.1 h1
 rcases hx with rfl | rfl <;> exact ⟨ds,h1,h2,leave_one (fun nb=>fun d hd=>.inr ((hy d hd).mono (Nat.zero_le _) (Nat.zero_le _))) hl hc,hb.mono (Nat.zero_le _) (Nat.zero_le _)⟩
theorem ret_cell2 {P:Program} {rs:List ResultVar} {B T X:List Box} {z:Box} {L L':List Nat} {c c':Nat} {xs ys:List D} {r:D} {e:List D} {x:Exit} (hx:x=.normal∨x=.ret) (h1:(resD P e ⟨B++z::.cells ys::(T++X),L',c'⟩ rs).map tupD=some r) (hb:Bd 0 0 r) (hy:∀ d ∈ ys,Bd 0 0 d) (hl:∀ k,k ∈ L→k ∈ L') (hc:c≤c') :
  @qI x e ⟨B++z::.cells ys::(T++X),L',c'⟩ (retC P rs ⟨B++z::.cells xs::T,L,c⟩ r ⟨B++z::.cells ys::T,L,c⟩):=by
 have e1:∀ q:List Box,(B++[z])++q=B++z::q:=by simp
 have:=ret_cell (P:=P) (rs:=rs) (B:=B++[z]) (T:=T) (X:=X) (L:=L) (L':=L') (c:=c) (c':=c') (xs:=xs) (ys:=ys) (r:=r) (e:=e) hx (by rw [e1];exact h1) hb hy hl hc
 rw [e1,e1,e1] at this
 exact this
def headOk (p:Pg) (last:Int) (h:Hd):Bool :=
 inB h.id (w64 (last+1)) 1073741824 && inB h.firm 0 (w64 (p.d.firms - 1)) && inB h.part 0 (w64 (p.d.parts - 1)) && everyB h.params 12 rightRange && everyB h.given 4 rightRange
theorem t_heads1 (p:Pg) (h:Hd) (last:Int) (B X:List Box) (L:List Nat) (c:Nat) :
  Spec Tryz.prog 116 [.agg h.cells,.box (B.length+1) 0,.box B.length 0] ⟨B++.cells p.cells::.cells [.int .i64 last]::X,L,c⟩ (.bool (headOk p last h)) ⟨B++.cells p.cells::.cells [.int .i64 h.id]::X,L,c⟩:=by
 refine Spec.introN [(1,.cut)] Tryz.func116 rfl (by decide) hmix (by kernel_rfl) [ResultVar.tmp 4] 42 rfl rfl ?_
 simp only [vqM,zA,zS,zB]
 refine seq_join hmix [1,3,5] [J,.box (B.length+1) 0,J,.box (B.length+(X.length+2)) 0,J,.bool (headOk p last h),J,J,J,J,J,J,J,J,J,J,J,J,J,J,J,J,J,J,J,J,J,J,J,J,J,J,J,J,J,J,J,J,J,J,J,J] (fun s=>s=⟨B++.cells p.cells::.cells [.int .i64 last]::(X++[.cells h.cells]),L,c⟩) ?_ ?_
 ·simp only [vqM,vt53,zA,w64_eq]
  repeat' (first
   | ((with_reducible refine is_call ?_);refine callI_spec (t_in _ _ _ _) ?_;simp only [vqM])
   | ((with_reducible refine is_call ?_);refine callI_spec (t_everyRg _ rightRange _ _ _ _ _ rfl rfl rfl fun x _ Y=>c_rightRange x _) ?_;simp only [vqM])
   | (with_reducible refine ifI_intro (fun hc=>?_) (fun hc=>?_) <;> simp only [vqM,vt53,hc,zA,w64_eq])
   | ((with_reducible refine is_q ?_);refine meet_intro ⟨?_,rfl⟩ <;> simp only [vke,zB,zA] <;> (first | (simp only [headOk, *,Bool.true_and,Bool.false_and,Bool.and_true,Bool.and_false];done) | (simp_all [headOk];done) | (simp_all [headOk];omega))))
 rintro s rfl
 simp only [vqM,vt53,zA,zB]
 refine ret_cell2 (.inr rfl) ?_ (.bool _) (fun d hd=>by simp at hd;subst hd;exact .int _ _) (fun _ h=>h) (Nat.le_refl _)
 simp only [vqM]
theorem t_idxHd (f:D) (q:Nat→Bool) (l:List Hd) (S:Nat→St) (hp:∀ k x,l[k]? = some x→CallV Tryz.prog f [.agg x.cells] (S k) (.bool (q k)) (S (k+1))) :
  SpecQ Tryz.prog 220 [.slice .none (hdCells l),f] (S 0) fun r s=>∃ n:Int,r=.int .i64 n∧(∃ k,s=S k)∧decide (n ≥ 0)=(List.range l.length).any q:=by
 refine SpecQ.small fun hsm=>?_
 have hlen:=(hsm _ (.head _)).len
 rw [hdCells_len] at hlen
 clear hsm
 refine SpecQ.introA [] Tryz.func220 rfl (by decide) hmix (by kernel_rfl) [ResultVar.tmp 4] 19 rfl rfl ?_
 simp only [vqM,vt54,zA,zS,hdCells_len]
 refine awN_keep [0,1,7,8] ?_
 simp only [vke,zB,zA]
 refine awN_for hmix l.length (fun k=>[.slice .none (hdCells l),f,J,J,J,J,J,.int .i64 l.length,.int .i64 (k:Int),J,J,J,J,J,J,J,J,J,J]) S (fun k=>∀ j,j<k→q j=false) ?_ ?_ 0 (Nat.zero_le _) (by intro j h;omega)
 ·intro k hk hI ih
  have hx:l[k]? = some l[k]:=List.getElem?_eq_getElem hk
  have hg:(hdCells l)[k]? = some (l[k].cells):=by simp [hdCells,hx]
  have hklt:((k:Int)<(l.length:Int))=True:=by simp;exact hk
  simp only [vqM,vt54,hklt,decide_true,natle0,Int.toNat_natCast,hg]
  refine callI_of (hp _ _ hx) ?_
  simp only [vqM]
  refine ifI_intro (fun hc=>?_) (fun hc=>?_)
  ·simp only [vqM]
   refine retA (.inr rfl) (r:=.int .i64 k) ?_ ⟨k,rfl,⟨_,rfl⟩,?_⟩
   ·simp only [vqM]
   ·have:(List.range l.length).any q=true:=List.any_eq_true.2 ⟨k,List.mem_range.2 hk,hc⟩
    rw [this];simp
  ·simp only [vqM]
   rw [wrap_succ (by omega)]
   refine awN_keep [0,1,7,8] ?_
   simp only [vke,zB,zA]
   refine ih fun j hjk=>?_
   by_cases e:j=k
   ·subst e;exact hc
   ·exact hI j (by omega)
 ·intro hI
  have hklt:((l.length:Int)<(l.length:Int))=False:=by simp
  simp only [vqM,hklt,decide_false]
  refine retA (.inr rfl) (r:=.int .i64 (-1)) ?_ ⟨_,rfl,⟨_,rfl⟩,?_⟩
  ·simp only [vqM]
  ·have:(List.range l.length).any q=false:=List.any_eq_false.2 fun j hj=>by simpa using hI j (List.mem_range.1 hj)
   rw [this];simp
theorem t_conHd (f:D) (hfp:f.plain=f) (q:Nat→Bool) (l:List Hd) (S:Nat→St) (hp:∀ k x,l[k]? = some x→CallV Tryz.prog f [.agg x.cells] (S k) (.bool (q k)) (S (k+1))) :
  SpecQ Tryz.prog 165 [.slice .none (hdCells l),f] (S 0) fun r s=>(∃ k,s=S k)∧r=.bool ((List.range l.length).any q):=by
 refine SpecQ.introA [] Tryz.func165 rfl (by decide) hmix (by kernel_rfl) [ResultVar.tmp 4] 9 rfl rfl ?_
 simp only [vqM,zA,zS,hfp]
 refine callI_specQ (t_idxHd f q l S hp) ?_
 rintro r s ⟨n,rfl,hs,hn⟩
 simp only [vqM]
 refine retA (.inr rfl) (r:=.bool ((List.range l.length).any q)) ?_ ⟨hs,rfl⟩
 simp only [vqM]
 rw [hn]
def hdF (n:Nat):D:=.func (.func 116) [] [.box (n+1) 0,.box n 0]
theorem t_everyHd1 (p:Pg) (x:Hd) (a:Int) (B:List Box) (L:List Nat) (c:Nat) :
  Spec Tryz.prog 166 [.agg x.cells,.box (B.length+2) 0] ⟨B++[.cells p.cells,.cells [.int .i64 a],.cells [hdF B.length]],L,c⟩ (.bool (!headOk p a x)) ⟨B++[.cells p.cells,.cells [.int .i64 x.id],.cells [hdF B.length]],L,c⟩:=by
 refine Spec.introN [] Tryz.func166 rfl (by decide) hmix (by kernel_rfl) [ResultVar.tmp 3] 8 rfl rfl ?_
 simp only [vqM,vt55,zA,zS,hdF]
 refine callI_of (t_heads1 p x a B _ L c) ?_
 simp only [vqM]
 refine ret_cell2 (T:=[_]) (.inr rfl) ?_ (.bool _) (fun d hd=>by simp at hd;subst hd;exact .int _ _) (fun _ h=>h) (Nat.le_refl _)
 simp only [vqM]
def lastId (l:List Hd):Nat→Int
 | 0=>0
 | k+1=>match l[k]? with
  | some h=>h.id
  | none=>0
def headsQ (p:Pg) (k:Nat):Bool:=match p.heads[k]? with
 | some h=>!headOk p (lastId p.heads k) h
 | none=>false
def headsB (p:Pg):Bool:=decide ((p.heads.length:Int)≤40) && !(List.range p.heads.length).any (headsQ p)
theorem t_everyHd (p:Pg) (B:List Box) (L:List Nat) (c:Nat) :
  SpecQ Tryz.prog 115 [.slice .none (hdCells p.heads),.int .i64 40,hdF B.length] ⟨B++[.cells p.cells,.cells [.int .i64 0]],L,c⟩ fun r s=>r=.bool (headsB p)∧∃ X,s=⟨B++X,L,c⟩:=by
 refine SpecQ.introA [] Tryz.func115 rfl (by decide) hmix (by kernel_rfl) [ResultVar.tmp 6] 17 rfl rfl ?_
 simp only [vqM,vt56,zA,zS,hdF,hdCells_len]
 refine ifI_intro (fun hc=>?_) (fun hc=>?_)
 ·simp only [vqM,hc]
  refine callI_specQ (t_conHd _ rfl (headsQ p) p.heads (fun k=>⟨B++[.cells p.cells,.cells [.int .i64 (lastId p.heads k)],.cells [hdF B.length]],L,c⟩) fun k x hx=>?_) ?_
  ·have h1:headsQ p k = !headOk p (lastId p.heads k) x:=by simp [headsQ,hx]
   have h2:lastId p.heads (k+1)=x.id:=by simp [lastId,hx]
   rw [h1,h2]
   exact t_everyHd1 p x (lastId p.heads k) B L c
  ·rintro r s ⟨⟨k,rfl⟩,rfl⟩
   simp only [vqM,hdF]
   refine retA (.inr rfl) (r:=.bool (headsB p)) ?_ ⟨rfl,_,rfl⟩
   simp only [vqM]
   simp [headsB,hc]
 ·simp only [vqM,hc]
  refine retA (.inr rfl) (r:=.bool (headsB p)) ?_ ⟨rfl,_,rfl⟩
  simp only [vqM]
  simp [headsB,hc]
theorem t_rightHeads (p:Pg) (s:St):Spec Tryz.prog 67 [.agg p.cells] s (.bool (headsB p)) s:=by
 obtain ⟨B,L,c⟩:=s
 refine Spec.introN [] Tryz.func67 rfl (by decide) hmix (by kernel_rfl) [ResultVar.tmp 2] 8 rfl rfl ?_
 simp only [vqM,vt52,zA,zS]
 refine callI_specQ (t_everyHd p B L c) ?_
 rintro r s ⟨rfl,X,rfl⟩
 simp only [vqM]
 refine ret_loc (.inr rfl) ?_ (.bool _) (fun _ h=>h) (Nat.le_refl _)
 simp only [vqM]
theorem seq_joinS {X:Draws} {ro:Option Nat} {P:Program} {a b:Code} {e:List D} {s:St} {Q:QC} (hm:P.follows .mixedOrders=true) (ks:List Nat) (E:List D)
  (h:@cwNI X ro P a e s (meetC fun e s'=>keep ks e=E∧s'=s)) (hI:@cwNI X ro P b E s Q):@seqI true X ro P a b e s Q :=
 seq_join hm ks E (fun s'=>s'=s) h fun s' hs=>by subst hs;exact hI
def hdG (p:Pg) (id:Int):Hd:=(headS p id).getD Hd.zero
def otherB (p:Pg) (d:Df):Bool :=
 !(headS p d.id).isSome || decide ((hdG p d.id).firm≠d.firm) || decide ((hdG p d.id).part≠d.part) || !decide ((hdG p d.id).params=d.params) || !decide ((hdG p d.id).given=d.given)
def wrongB (p:Pg) (x:Sm):Bool :=
 !(headS p x.m).isSome || decide (((hdG p x.m).params.length:Int)≠x.args.length) || decide (((hdG p x.m).given.length:Int)≠x.ptrs.length)
def callB (p:Pg) (x:Sm):Bool:=decide (x.op≠13) || !wrongB p x
def rightB (p:Pg) (d:Df):Bool:=defB d p.d && !otherB p d && (flatL 1 d.body).all fun q=>callB p q.s
theorem t_rightDef (p:Pg) (d:Df) (hnm:d.name.size≤1000000000) (s:St):Spec Tryz.prog 68 [.agg p.cells,.agg d.cells] s (.bool (rightB p d)) s:=by
 obtain ⟨B,L,c⟩:=s
 refine Spec.introN [(4,.cut),(10,.cut)] Tryz.func68 rfl (by decide) hmix (by kernel_rfl) [ResultVar.cell 4 4] 92 rfl rfl ?_
 simp only [vqM,vt57,zA,zS,zL,zB]
 refine callI_spec (t_Def d p.d hnm _) ?_
 simp only [vqM]
 refine ifI_intro (fun hc=>?_) (fun hc=>?_)
 ·have hd:defB d p.d=false:=by cases h:defB d p.d <;> simp [h] at hc ⊢
  simp only [vqM,vt57,zA,zB]
  refine ret_loc (.inr rfl) ?_ (.bool _) (fun _ h=>h) (Nat.le_refl _)
  simp only [vqM,vt57]
  simp [rightB,hd]
 have hd:defB d p.d=true:=by cases h:defB d p.d <;> simp [h] at hc ⊢
 clear hc
 simp only [vqM,vt57,zA,zB]
 refine callI_spec (t_HeadOf p d.id _) ?_
 simp only [vqM,vt57,zA,zB,headSD]
 refine seq_join hmix [2,3,4,53] [J,J,.box B.length 0,.box (B.length+1) 0,.box (B.length+2) 0,J,J,J,J,J,J,J,J,J,J,J,J,J,J,J,J,J,J,J,J,J,J,J,J,J,J,J,J,J,J,J,J,J,J,J,J,J,J,J,J,J,J,J,J,J,J,J,J,.bool (otherB p d),J,J,J,J,J,J,J,J,J,J,J,J,J,J,J,J,J,J,J,J,J,J,J,J,J,J,J,J,J,J,J,J,J,J,J,J,J,J] (fun s=>s=⟨B++[.cells p.cells,.cells d.cells,.cells [.bool false],.cells ((headS p d.id).getD Hd.zero).cells],L,c⟩) ?_ ?_
 ·simp only [vqM]
  repeat' (first
   | ((with_reducible refine is_call ?_);refine callI_spec (t_Equal _ _ _) ?_;simp only [vqM])
   | (with_reducible refine ifI_intro (fun hc=>?_) (fun hc=>?_) <;> simp only [vqM,vt57,hc,zA])
   | ((with_reducible refine is_q ?_);refine meet_intro ⟨?_,rfl⟩ <;> simp only [vke,zB,zA] <;> (first | (simp only [otherB,hdG, *,Bool.true_or,Bool.false_or];done) | (simp_all [otherB,hdG];done) | (simp_all [otherB,hdG];omega))))
  refine meet_intro ⟨?_,rfl⟩
  simp only [vke,zB,zA]
  simp only [otherB,hdG, *,Bool.false_or]
  simp only [List.cons.injEq,and_true,true_and,D.bool.injEq]
  simp_all
  exact decide_eq_decide.2 Iff.rfl
 rintro s rfl
 simp only [vqM]
 refine ifI_intro (fun hc=>?_) (fun hc=>?_)
 ·have hl:otherB p d=true:=hc
  simp only [vqM,vt57,zA,zB]
  refine ret_loc (.inr rfl) ?_ (.bool _) (fun _ h=>h) (Nat.le_refl _)
  simp only [vqM,vt57]
  simp [rightB,hl]
 have hl:otherB p d=false:=hc
 clear hc
 have hR:rightB p d=(flatL 1 d.body).all fun q=>callB p q.s:=by simp [rightB,hd,hl]
 rw [hR]
 simp only [vqM,vt57,zA,zB]
 refine callI_spec (t_all _ _ _ _ _) ?_
 simp only [vqM,zA]
 refine range_allP (B.length+4) (B.length+4+1) d.body 1 (fun _=>_) (fun _=>L) (fun _=>c)
  (fun C' L' c' x=>((flatL 1 d.body).all fun q=>callB p q.s)=false∧C'=B++[.cells p.cells,.cells d.cells,.cells [.bool false],.cells ((headS p d.id).getD Hd.zero).cells,.cells [.slice .none (Sm.encs d.body)],.cells [.int .i64 1]]∧L'=L∧c'=c∧x=.ret)
  (fun k=>∀ j<k,∀ q,(flatL 1 d.body)[j]? = some q→callB p q.s=true) ?_ ?_ ?_ rfl (fun _=>rfl) rfl rfl (fun j hj=>by omega) ?_ ?_ ?_
 ·rfl
 ·rw [box_at];rfl
 ·rw [Nat.add_assoc,box_at];rfl
 ·intro q1 q2 k q Y hk hj
  refine YSemQ.introA hmix q1 q2 (pd:=none) (by rw [box_at0];rfl) (by rfl) fun l=>?_
  simp only [vqM,vt57,zA,putArgs,vsPl]
  clear q1 q2
  refine qI_assignA (pd1:=none) (by simp only [vqM,zA]) ?_
  simp only [vqM,vt57,zA,zB,vsPl]
  refine ifI_intro (fun hc=>?_) (fun hc=>?_)
  ·simp only [vqM]
   refine roundA_normal (st:=.busy) (pd:=none) (by simp only [vqM]) ?_
   have hcb:callB p q.s=true:=by simp [callB,hc]
   refine ⟨_,_,_,[.cells q.cells],.inl ⟨rfl,rfl,rfl,rfl,?_,?_⟩⟩
   ·intro j hjk q' hq
    by_cases e:j=k
    ·subst e;rw [hk] at hq;cases hq;exact hcb
    ·exact hj j (by omega) q' hq
   ·simp only [vqM]
  have hop:decide (q.s.op≠13)=false:=hc
  simp only [vqM,vt57,zA,zB,vsPl]
  refine callI_spec (t_HeadOf p q.s.m _) ?_
  simp only [vqM,vt57,zA,zB,headSD]
  refine seq_joinS hmix [2,3,4,91] [J,J,.box B.length 0,.box (B.length+1) 0,.box (B.length+2) 0,J,J,J,J,J,J,J,J,J,J,J,J,J,J,J,J,J,J,J,J,J,J,J,J,J,J,J,J,J,J,J,J,J,J,J,J,J,J,J,J,J,J,J,J,J,J,J,J,J,J,J,J,J,J,J,J,J,J,J,J,J,J,J,J,J,J,J,J,J,J,J,J,J,J,J,J,J,J,J,J,J,J,J,J,J,J,.bool (wrongB p q.s)] ?_ ?_
  ·simp only [vqM]
   repeat' (first
    | (with_reducible refine ifI_intro (fun hc=>?_) (fun hc=>?_) <;> simp only [vqM,vt57,hc,zA,vsPl,rgCells_len,exCells_len,intCells_len])
    | ((with_reducible refine is_q ?_);refine meet_intro ⟨?_,rfl⟩ <;> simp only [vke,zB,zA] <;> (first | (simp only [wrongB,hdG, *,Bool.true_or,Bool.false_or];done) | (simp_all [wrongB,hdG];done) | (simp_all [wrongB,hdG];omega))))
   refine meet_intro ⟨?_,rfl⟩
   simp only [vke,zB,zA]
   simp only [wrongB,hdG, *,Bool.false_or]
   simp only [List.cons.injEq,and_true,true_and,D.bool.injEq]
   simp_all
   by_cases hg:(((headS p q.s.m).getD Hd.zero).given.length:Int)=q.s.ptrs.length <;> simp [hg]
  simp only [vqM]
  refine ifI_intro (fun hc=>?_) (fun hc=>?_)
  ·simp only [vqM,vt57,zA,zB]
   refine roundA_ret (st:=.busy) (pd:=none) (by simp only [vqM]) ?_
   have hcb:callB p q.s=false:=by simp [callB,hop,hc]
   refine ⟨_,_,_,[.cells q.cells,.cells ((headS p q.s.m).getD Hd.zero).cells],.inr ⟨rfl,.ret,?_,⟨?_,rfl,rfl,rfl,rfl⟩,?_⟩⟩
   ·simp only [List.length_append,List.length_cons,List.length_nil]
   ·exact List.all_eq_false.2 ⟨q,List.mem_of_getElem? hk,by simp [hcb]⟩
   ·simp only [vqM]
  ·simp only [vqM]
   refine roundA_normal (st:=.busy) (pd:=none) (by simp only [vqM]) ?_
   have hcb:callB p q.s=true:=by simp [callB,hc]
   refine ⟨_,_,_,[.cells q.cells,.cells ((headS p q.s.m).getD Hd.zero).cells],.inl ⟨rfl,rfl,rfl,rfl,?_,?_⟩⟩
   ·intro j hjk q' hq
    by_cases e:j=k
    ·subst e;rw [hk] at hq;cases hq;exact hcb
    ·exact hj j (by omega) q' hq
   ·simp only [vqM]
 ·intro Y hj
  have hall:((flatL 1 d.body).all fun q=>callB p q.s)=true:=List.all_eq_true.2 fun q hq=>by
   obtain ⟨j,hj2,rfl⟩:=List.getElem_of_mem hq
   exact hj j hj2 _ (List.getElem?_eq_getElem hj2)
  simp only [vqM,vt57,zA,zB]
  refine ret_loc (.inr rfl) ?_ (.bool _) (fun _ h=>h) (Nat.le_refl _)
  simp only [vqM,vt57,hall]
 ·rintro C' L' c' x Y - ⟨hall,rfl,rfl,rfl,rfl⟩
  simp only [vqM]
  refine ret_loc (.inr rfl) ?_ (.bool _) (fun _ h=>h) (Nat.le_refl _)
  simp only [vqM,vt57,hall]
theorem t_isNaN (x:Int) (s:St):Spec Tryz.prog 204 [.int .i64 x] s (.bool false) s:=by
 refine Spec.introN [] Tryz.func204 rfl (by decide) hmix (by kernel_rfl) [ResultVar.tmp 2] 6 rfl rfl ?_
 simp only [vqM,zA,zS]
 refine ret_here (.inr rfl) ?_ (.bool _)
 simp only [vqM]
 simp
theorem t_Less (x y:Int) (s:St):Spec Tryz.prog 180 [.int .i64 x,.int .i64 y] s (.bool (decide (x<y))) s:=by
 refine Spec.introN [] Tryz.func180 rfl (by decide) hmix (by kernel_rfl) [ResultVar.tmp 4] 17 rfl rfl ?_
 simp only [vqM,zA,zS]
 repeat' (first
  | ((with_reducible refine is_call ?_);refine callI_spec (t_isNaN _ _) ?_;simp only [vqM])
  | (with_reducible refine ifI_intro (fun hc=>?_) (fun hc=>?_) <;> simp only [vqM,vt58,hc,zA,zS,zM,zL,zE,zB,reduceCtorEq])
  | ((with_reducible refine is_q ?_);refine ret_here (.inr rfl) ?_ (.bool _) <;> (try simp only [vqM]) <;> (first | (simp only [*,Bool.true_and,Bool.false_and,Bool.and_true,Bool.and_false,Bool.true_or,Bool.false_or,Bool.or_true,Bool.or_false,Bool.not_true,Bool.not_false,cond_true,cond_false,if_true,if_false];done) | (simp_all [];done) | (simp_all [];omega))))
theorem getBI_of {b:ByteArray} {n:Nat} {s:St} {K:DC} (h:n<b.size) (hK:∀ c:UInt8,@dI (.int .u8 c.toNat) s K):@getBI b[n]? s K:=⟨b[n],by simp [h],hK _⟩
theorem t_Len64 (n:Nat) (hn:n≤12) (s:St):SpecQ Tryz.prog 184 [.int .u64 n] s fun r s'=>s'=s∧∃ k,r=.int .i64 k:=by
 refine SpecQ.introA [] Tryz.func184 rfl (by decide) hmix (by kernel_rfl) [ResultVar.tmp 2] 25 rfl rfl ?_
 have h1:decide ((n:Int) ≥ 4294967296)=false:=by simp;omega
 have h2:decide ((n:Int) ≥ 65536)=false:=by simp;omega
 have h3:decide ((n:Int) ≥ 256)=false:=by simp;omega
 simp only [vqM,vt59,zA,zS,h1,h2,h3]
 have hw:IntKind.u8.wrap (n:Int)=n:=(by decide:∀ n<13,IntKind.u8.wrap ((n:Nat):Int)=n) n (by omega)
 simp only [vqM,hw,natle0,Int.toNat_natCast]
 refine getBI_of (by show n<256;omega) fun k=>?_
 simp only [vqM,vt59]
 refine retA (.inr rfl) (r:=.int .i64 (IntKind.i64.wrap (0+IntKind.i64.wrap (k.toNat:Int)))) ?_ ⟨rfl,_,rfl⟩
 simp only [vqM]
theorem t_Len (n:Nat) (hn:n≤12) (s:St):SpecQ Tryz.prog 130 [.int .u64 n] s fun r s'=>s'=s∧∃ k,r=.int .i64 k:=by
 refine SpecQ.introA [] Tryz.func130 rfl (by decide) hmix (by kernel_rfl) [ResultVar.tmp 2] 8 rfl rfl ?_
 simp only [vqM,zA,zS]
 refine callI_specQ (t_Len64 n hn _) ?_
 rintro r s' ⟨rfl,k,rfl⟩
 simp only [vqM]
 refine retA (.inr rfl) (r:=.int .i64 k) ?_ ⟨rfl,_,rfl⟩
 simp only [vqM]
def ints (l:List Int):List D:=l.map (.int .i64 ·)
theorem ints_at (p q:List Int) (x:Int):((ints (p++x::q)).drop p.length)[0]? = some (.int .i64 x):=by simp [ints]
structure Ins (l:List Int) (i:Nat) (k:Nat) (l':List Int):Prop where
 perm:l'.Perm l
 form:∃ p x q r,l'=p++x::q++r∧p.length=i - k∧(p++q).length=i∧(p++q).Pairwise (· ≤ ·)∧∀ y ∈ q,x≤y
theorem ins_start {l l':List Int} {i:Nat} (hp:l'.Perm l) (hs:(l'.take i).Pairwise (· ≤ ·)) (hi:i<l'.length):Ins l i 0 l':=by
 refine ⟨hp,l'.take i,l'[i],[],l'.drop (i+1),?_,?_,?_,by simpa using hs,by simp⟩
 ·rw [List.append_assoc,List.cons_append,List.nil_append,← List.drop_eq_getElem_cons hi,List.take_append_drop]
 ·simp;omega
 ·simp;omega
theorem ins_end {p q r:List Int} {x:Int} (hs:(p++q).Pairwise (· ≤ ·)) (hx:∀ y ∈ q,x≤y) (hl:∀ p0 y,p=p0++[y]→y≤x):((p++x::q++r).take ((p++q).length+1)).Pairwise (· ≤ ·):=by
 have e:(p++x::q++r).take ((p++q).length+1)=p++x::q:=by
  rw [List.take_append_of_le_length (by simp;omega),List.take_of_length_le (by simp;omega)]
 rw [e]
 obtain ⟨h1,h2,h3⟩:=List.pairwise_append.1 hs
 refine List.pairwise_append.2 ⟨h1,List.pairwise_cons.2 ⟨hx,h2⟩,fun a ha b hb=>?_⟩
 rcases List.mem_cons.1 hb with rfl | hb
 ·rcases List.eq_nil_or_concat p with rfl | ⟨p0,y,rfl⟩
  ·simp at ha
  ·rw [List.concat_eq_append] at *
   have hy:=hl p0 y rfl
   obtain ⟨_,_,h4⟩:=List.pairwise_append.1 h1
   rcases List.mem_append.1 ha with ha | ha
   ·exact Int.le_trans (h4 a ha y (by simp)) hy
   ·simp at ha;subst ha;exact hy
 ·exact h3 a ha b hb
theorem ins_step {l:List Int} {i k:Nat} {p q r:List Int} {y x:Int} (hp:(p++[y]++x::q++r).Perm l) (h1:(p++[y]).length=i - k) (h2:(p++[y]++q).length=i) (hs:(p++[y]++q).Pairwise (· ≤ ·)) (hx:∀ z ∈ q,x≤z) (hlt:x<y):Ins l i (k+1) (p++x::(y::q)++r):=by
 refine ⟨?_,p,x,y::q,r,rfl,by simp at h1;omega,by simpa using h2,by simpa using hs,fun z hz=>?_⟩
 ·refine List.Perm.trans ?_ hp
  simp only [List.append_assoc,List.cons_append,List.nil_append]
  exact List.Perm.append_left p (List.Perm.swap _ _ _)
 ·rcases List.mem_cons.1 hz with rfl | hz
  ·omega
  ·exact hx z hz
theorem set_ints (p t:List Int) (z x:Int):(ints (p++z::t)).take p.length++D.int .i64 x::(ints (p++z::t)).drop (p.length+1)=ints (p++x::t):=by
 simp [ints,List.drop_append]
theorem ins_last {l l':List Int} {i k:Nat} (h:Ins l i k l') (hk:i≤k):l'.Perm l∧(l'.take (i+1)).Pairwise (· ≤ ·):=by
 obtain ⟨hp,p,x,q,r,rfl,h1,h2,h3,h4⟩:=h
 refine ⟨hp,?_⟩
 have:p=[]:=List.eq_nil_of_length_eq_zero (by omega)
 subst this
 have:=ins_end (r:=r) h3 h4 (fun p0 y e=>by simp at e)
 rw [h2] at this;exact this
theorem t_insert (l:List Int) (B T:List Box) (L:List Nat) (c:Nat) (hn:l.length≤12):SpecQ Tryz.prog 174 [.row B.length 0 l.length 1,.int .i64 0,.int .i64 l.length] ⟨B++.cells (ints l)::T,L,c⟩
  fun r s=>r=.tup []∧∃ l',l'.Perm l∧l'.Pairwise (· ≤ ·)∧s=⟨B++.cells (ints l')::T,L,c⟩:=by
 refine SpecQ.introA [] Tryz.func174 rfl (by decide) hmix (by kernel_rfl) [] 49 rfl rfl ?_
 have w1:IntKind.i64.wrap (0+1)=1:=by decide
 simp only [vqM,zA,zS,w1]
 refine awN_keep [0,1,2,6] ?_
 simp only [vke,zB,zA]
 refine awN_forR hmix (l.length - 1) (fun k e s=>e=[.row B.length 0 l.length 1,.int .i64 0,.int .i64 l.length,J,J,J,.int .i64 ((k+1:Nat):Int),J,J,J,J,J,J,J,J,J,J,J,J,J,J,J,J,J,J,J,J,J,J,J,J,J,J,J,J,J,J,J,J,J,J,J,J,J,J,J,J,J,J]∧∃ l',l'.Perm l∧(l'.take (k+1)).Pairwise (· ≤ ·)∧s=⟨B++.cells (ints l')::T,L,c⟩) ?_ ?_ 0 _ _ (Nat.zero_le _) ⟨rfl,l,.refl _,?_,rfl⟩
 ·rintro k e s hk ⟨rfl,l1,hp1,hs1,rfl⟩ ih
  have hll:=hp1.length_eq
  have hlt:decide (((k+1:Nat):Int)<(l.length:Int))=true:=by simp;omega
  simp only [vqM,hlt]
  refine awN_keep [0,1,2,6,7] ?_
  simp only [vke,zB,zA]
  refine awN_forR hmix (k+1) (fun m e s=>e=[.row B.length 0 l.length 1,.int .i64 0,.int .i64 l.length,J,J,J,.int .i64 ((k+1:Nat):Int),.int .i64 ((k+1 - m:Nat):Int),J,J,J,J,J,J,J,J,J,J,J,J,J,J,J,J,J,J,J,J,J,J,J,J,J,J,J,J,J,J,J,J,J,J,J,J,J,J,J,J,J]∧∃ l',Ins l (k+1) m l'∧s=⟨B++.cells (ints l')::T,L,c⟩) ?_ ?_ 0 _ _ (Nat.zero_le _) ⟨rfl,l1,ins_start hp1 hs1 (by omega),rfl⟩
  ·rintro m e s hm ⟨rfl,l2,⟨hp2,p,x,q,r,rfl,h1,h2,h3,h4⟩,rfl⟩ ih2
   rcases List.eq_nil_or_concat p with rfl | ⟨p0,y,rfl⟩
   ·simp at h1;omega
   rw [List.concat_eq_append] at *
   have hj:k+1 - m=p0.length+1:=by simp at h1;omega
   have hlen:=hp2.length_eq
   simp only [List.length_append,List.length_cons,List.length_nil] at hlen
   have a1:IntKind.i64.wrap (((p0.length+1:Nat):Int) - 1)=(p0.length:Int):=(wrap_in (by omega)).trans (by omega)
   have a2:(0≤((p0.length+1:Nat):Int)∧((p0.length+1:Nat):Int)<(l.length:Int))=True:=by simp;omega
   have a3:(0≤(p0.length:Int)∧(p0.length:Int)<(l.length:Int))=True:=by simp;omega
   have a4:decide (((p0.length+1:Nat):Int) > 0)=true:=by simp
   have e0:p0++[y]++x::q++r=p0++y::x::(q++r):=by simp
   have b1:((ints (p0++y::x::(q++r))).drop (p0.length+1))[0]? = some (.int .i64 x):=by
    have:=ints_at (p0++[y]) (q++r) x;simpa using this
   have b2:((ints (p0++y::x::(q++r))).drop p0.length)[0]? = some (.int .i64 y):=by
    have:=ints_at p0 (x::q++r) y;simpa using this
   have c1:(ints (p0++y::x::(q++r))).take (p0.length+1)++D.int .i64 y::(ints (p0++y::x::(q++r))).drop (p0.length+1+1)=ints (p0++y::y::(q++r)):=by
    have:=set_ints (p0++[y]) (q++r) x y;simpa using this
   have c2:=set_ints p0 (y::(q++r)) y x
   have a5:(p0.length+1+1≤(ints (p0++y::x::(q++r))).length)=True:=by simp [ints];omega
   have a6:(p0.length+1≤(ints (p0++y::y::(q++r))).length)=True:=by simp [ints]
   have e1:p0++x::(y::q)++r=p0++x::y::(q++r):=by simp
   rw [hj]
   simp only [vqM,vt25,a1,a2,a3,a4,b1,b2,Int.toNat_natCast,Nat.mul_one,Nat.zero_add]
   refine callI_spec (t_Less x y _) ?_
   simp only [vqM]
   refine ifI_intro (fun hc=>?_) (fun hc=>?_)
   ·simp only [vqM,vt25,a1,a2,a3,a5,a6,b1,b2,c1,c2,Int.toNat_natCast,Nat.mul_one,Nat.zero_add]
    have hlt2:x<y:=by simpa using hc
    refine awN_keep [0,1,2,6,7] ?_
    simp only [vke,zB,zA]
    refine ih2 _ _ ⟨?_,_,ins_step hp2 h1 h2 h3 h4 hlt2,by rw [e1]⟩
    rw [show k+1 - (m+1)=p0.length from by omega]
   ·simp only [vqM]
    rw [show IntKind.i64.wrap (((k+1:Nat):Int)+1)=((k+1+1:Nat):Int) from wrap_succ (by omega)]
    refine awN_keep [0,1,2,6] ?_
    simp only [vke,zB,zA]
    have hend:=ins_end (r:=r) h3 h4 (fun p1 z e=>by
     have:z=y:=by have:=List.append_inj_right' e.symm rfl;simpa using this
     subst this;have hge:=hc;simp at hge;omega)
    refine ih _ _ ⟨rfl,_,hp2,?_,by rw [e0]⟩
    rw [h2] at hend;exact hend
  ·rintro e s ⟨rfl,l2,hI,rfl⟩
   obtain ⟨q1,q2⟩:=ins_last hI (Nat.le_refl _)
   have a4:decide (((k+1 - (k+1):Nat):Int) > 0)=false:=by simp
   simp only [vqM,a4]
   rw [show IntKind.i64.wrap (((k+1:Nat):Int)+1)=((k+1+1:Nat):Int) from wrap_succ (by omega)]
   refine awN_keep [0,1,2,6] ?_
   simp only [vke,zB,zA]
   exact ih _ _ ⟨rfl,_,q1,q2,rfl⟩
 ·rintro e s ⟨rfl,l1,hp1,hs1,rfl⟩
  have hlt:decide (((l.length - 1+1:Nat):Int)<(l.length:Int))=false:=by simp;omega
  simp only [vqM,hlt]
  refine retA (.inl rfl) (r:=.tup []) ?_ ⟨rfl,l1,hp1,?_,rfl⟩
  ·rfl
  ·rwa [List.take_of_length_le (by have:=hp1.length_eq;omega)] at hs1
 ·match l with
  | []=>simp
  | x::l=>simp
theorem t_pdq (l:List Int) (B T:List Box) (L:List Nat) (c:Nat) (m:Int) (hn:l.length≤12):SpecQ Tryz.prog 129 [.row B.length 0 l.length 1,.int .i64 0,.int .i64 l.length,.int .i64 m] ⟨B++.cells (ints l)::T,L,c⟩
  fun r s=>r=.tup []∧∃ l',l'.Perm l∧l'.Pairwise (· ≤ ·)∧s=⟨B++.cells (ints l')::T,L,c⟩:=by
 have w1:IntKind.i64.wrap ((l.length:Int) - 0)=l.length:=(wrap_in (by omega)).trans (by omega)
 have a1:decide ((l.length:Int)≤12)=true:=by simp;omega
 refine SpecQ.introA [] Tryz.func129 rfl (by decide) hmix (by kernel_rfl) [] 134 rfl rfl ?_
 simp only [vqM,zA,zS]
 refine awN_loop hmix ?_
 simp only [vqM,w1,a1]
 refine callI_specQ (t_insert l B T L c hn) ?_
 rintro r s ⟨rfl,l',p1,p2,rfl⟩
 simp only [vqM]
 refine retA (.inr rfl) (r:=.tup []) rfl ⟨rfl,l',p1,p2,rfl⟩
theorem t_Sort (l:List Int) (B T:List Box) (L:List Nat) (c:Nat) (hn:l.length≤12):SpecQ Tryz.prog 76 [.row B.length 0 l.length 1] ⟨B++.cells (ints l)::T,L,c⟩
  fun r s=>r=.tup []∧∃ l',l'.Perm l∧l'.Pairwise (· ≤ ·)∧s=⟨B++.cells (ints l')::T,L,c⟩:=by
 have hw:IntKind.u64.wrap (l.length:Int)=l.length:=(by decide:∀ n<13,IntKind.u64.wrap ((n:Nat):Int)=n) l.length (by omega)
 refine SpecQ.introA [] Tryz.func76 rfl (by decide) hmix (by kernel_rfl) [] 11 rfl rfl ?_
 simp only [vqM,vt62,zA,zS,hw]
 refine callI_specQ (t_Len l.length hn _) ?_
 rintro r s ⟨rfl,m,rfl⟩
 simp only [vqM]
 refine callI_specQ (t_pdq l B T L c m hn) ?_
 rintro r s ⟨rfl,l',p1,p2,rfl⟩
 simp only [vqM]
 refine retA (.inl rfl) (r:=.tup []) rfl ⟨rfl,l',p1,p2,rfl⟩
theorem t_insert0 (s:St):Spec Tryz.prog 174 [.row0,.int .i64 0,.int .i64 0] s (.tup []) s:=by
 refine Spec.introN [] Tryz.func174 rfl (by decide) hmix (by kernel_rfl) [] 49 rfl rfl ?_
 have w1:IntKind.i64.wrap (0+1)=1:=by decide
 have w2:decide ((1:Int)<0)=false:=by decide
 simp only [vqM,zA,zS,w1]
 refine awN_loop hmix ?_
 simp only [vqM,w2]
 refine ret_here (.inl rfl) rfl (.tup _ fun i hi=>by simp at hi)
theorem t_pdq0 (m:Int) (s:St):Spec Tryz.prog 129 [.row0,.int .i64 0,.int .i64 0,.int .i64 m] s (.tup []) s:=by
 have w1:IntKind.i64.wrap (0 - 0)=0:=by decide
 have a1:decide ((0:Int)≤12)=true:=by decide
 refine Spec.introN [] Tryz.func129 rfl (by decide) hmix (by kernel_rfl) [] 134 rfl rfl ?_
 simp only [vqM,zA,zS]
 refine awN_loop hmix ?_
 simp only [vqM,w1,a1]
 refine callI_spec (t_insert0 _) ?_
 simp only [vqM]
 refine ret_here (.inr rfl) rfl (.tup _ fun i hi=>by simp at hi)
theorem t_Sort0 (s:St):Spec Tryz.prog 76 [.row0] s (.tup []) s:=by
 have hw:IntKind.u64.wrap 0=((0:Nat):Int):=by decide
 refine Spec.introN [] Tryz.func76 rfl (by decide) hmix (by kernel_rfl) [] 11 rfl rfl ?_
 simp only [vqM,vt62,zA,zS,hw]
 refine callI_specQ (t_Len 0 (by decide) _) ?_
 rintro r s ⟨rfl,m,rfl⟩
 simp only [vqM]
 refine callI_spec (t_pdq0 m _) ?_
 simp only [vqM]
 refine ret_here (.inl rfl) rfl (.tup _ fun i hi=>by simp at hi)
def compL:List Int→List Int
 | []=>[]
 | [x]=>[x]
 | x::y::l=>if x=y then compL (y::l) else x::compL (y::l)
theorem compL_snoc (y x:Int):∀ p:List Int,compL (p++[y,x])=if x=y then compL (p++[y]) else compL (p++[y])++[x]
 | []=>by
  simp only [List.nil_append,compL]
  by_cases e:y=x
  ·subst e;simp
  ·rw [if_neg e,if_neg (fun h=>e h.symm)];rfl
 | [a]=>by
  have:=compL_snoc y x []
  simp only [List.nil_append,List.cons_append] at *
  simp only [compL] at *
  by_cases e:y=x <;> by_cases e2:a=y <;> simp_all
  all_goals (try (intro h;exact absurd h.symm e)) 
  all_goals (rw [if_neg (fun h=>e h.symm)])
 | a::b::p=>by
  have:=compL_snoc y x (b::p)
  simp only [List.cons_append] at *
  rw [compL,compL,this]
  by_cases e:x=y <;> by_cases e2:a=b <;> simp [e,e2]
theorem compL_take {l:List Int} {i:Nat} (h:i+1<l.length):compL (l.take (i+1+1))=if l[i+1]=l[i] then compL (l.take (i+1)) else compL (l.take (i+1))++[l[i+1]]:=by
 have e1:l.take (i+1)=l.take i++[l[i]]:=by rw [List.take_add_one,List.getElem?_eq_getElem (by omega)];rfl
 have e2:l.take (i+1+1)=l.take i++[l[i],l[i+1]]:=by rw [List.take_add_one,List.getElem?_eq_getElem h,e1,List.append_assoc];rfl
 rw [e2,e1,compL_snoc]
theorem compL_le:∀ l:List Int,(compL l).length≤l.length
 | []=>by simp [compL]
 | [y]=>by simp [compL]
 | y::z::l=>by
  have:=compL_le (z::l)
  simp only [compL]
  split <;> simp at * <;> omega
theorem sl_from {E e:TypeId} {by_:Nat} {ag:Bool} {b off n k:Nat} (h1:0<k) (h2:k<n):slR (some (.slice E)) (some (e,1,by_,ag)) b off n 1 (some (.int .i64 (k:Int))) none=some (.row b (off+k * 1) (n - k) 1):=by
 have:¬ (k=0):=by omega
 simp [slR,evBd,this,h2]
 omega
theorem sl_to {E e:TypeId} {by_:Nat} {ag:Bool} {b off n k:Nat} (h2:k≤n):slR (some (.slice E)) (some (e,1,by_,ag)) b off n 1 none (some (.int .i64 (k:Int)))=some (.row b off k 1):=by
 simp [slR,evBd,h2]
def clR (el:Option (TypeId × Nat × Nat × Bool)) (P:Program) (b off n:Nat) (bx:Option Box) (B:List Box) (L:List Nat) (c:Nat):Option St:=match el with
 | some (e,sz,_,_)=>match zeroT P e,bx with
  | some zs,some (.cells cs)=>if zs.length=sz∧0<sz∧off+n * sz≤cs.length then some ⟨B.set b (.cells (storeD cs off (List.replicate n zs).flatten)),L,c⟩ else none
  | _,_=>none
 | none=>none
theorem evClear_rw {P:Program} {T:TypeId} {b off n rsz:Nat} {B:List Box} {L:List Nat} {c:Nat}:evClear P T (.row b off n rsz) ⟨B,L,c⟩=clR (elemT P T) P b off n B[b]? B L c:=rfl
def clR2 (z:Option (List D)) (sz b off n:Nat) (cs:List D) (B:List Box) (L:List Nat) (c:Nat):Option St:=match z with
 | some zs=>if zs.length=sz∧0<sz∧off+n * sz≤cs.length then some ⟨B.set b (.cells (storeD cs off (List.replicate n zs).flatten)),L,c⟩ else none
 | none=>none
theorem clR_w {P:Program} {e:TypeId} {sz by_:Nat} {ag:Bool} {b off n:Nat} {cs:List D} {B:List Box} {L:List Nat} {c:Nat}:clR (some (e,sz,by_,ag)) P b off n (some (.cells cs)) B L c=clR2 (zeroT P e) sz b off n cs B L c:=by
 unfold clR clR2;dsimp only;cases zeroT P e <;> rfl
theorem clR2_w {z:D} {b off n:Nat} {cs:List D} {B:List Box} {L:List Nat} {c:Nat} (h:off+n * 1≤cs.length):clR2 (some [z]) 1 b off n cs B L c=some ⟨B.set b (.cells (storeD cs off (List.replicate n [z]).flatten)),L,c⟩:=by
 unfold clR2;dsimp only;rw [if_pos ⟨rfl,by decide,h⟩]
theorem t_Compact (l:List Int) (B T:List Box) (L:List Nat) (c:Nat) (hn0:0<l.length) (hn:l.length≤1000000):SpecQ Tryz.prog 170 [.row B.length 0 l.length 1] ⟨B++.cells (ints l)::T,L,c⟩
  fun r s=>∃ cs,r=.row B.length 0 (compL l).length 1∧cs.take (compL l).length=ints (compL l)∧s=⟨B++.cells cs::T,L,c⟩:=by
 refine SpecQ.introA [] Tryz.func170 rfl (by decide) hmix (by kernel_rfl) [ResultVar.tmp 2] 61 rfl rfl ?_
 simp only [vqM,vt25,zA,zS]
 refine ifI_intro (fun hc=>?_) (fun hc=>?_)
 ·simp only [vqM]
  have hcl:compL l=l:=by
   simp at hc
   match l,hn0 with
   | [x],_=>rfl
   | _::_::_,_=>simp at hc;omega
  refine retA (.inr rfl) (r:=.row B.length 0 l.length 1) ?_ ⟨ints l,by rw [hcl],by rw [hcl,List.take_of_length_le (by simp [ints])],rfl⟩
  simp only [vqM]
 have h2:2≤l.length:=by simp at hc;omega
 simp only [vqM]
 refine awN_keep [0,3] ?_
 simp only [vke,zB,zA]
 refine awN_for hmix (l.length - 1) (fun m=>[.row B.length 0 l.length 1,J,J,.int .i64 ((m+1:Nat):Int),J,J,J,J,J,J,J,J,J,J,J,J,J,J,J,J,J,J,J,J,J,J,J,J,J,J,J,J,J,J,J,J,J,J,J,J,J,J,J,J,J,J,J,J,J,J,J,J,J,J,J,J,J,J,J,J,J]) (fun _=>⟨B++.cells (ints l)::T,L,c⟩) (fun m=>compL (l.take (m+1))=l.take (m+1)) ?_ ?_ 0 (Nat.zero_le _) ?_
 ·intro m hm hI ih
  have a0:decide (((m+1:Nat):Int)<(l.length:Int))=true:=by simp;omega
  have a1:IntKind.i64.wrap (((m+1:Nat):Int) - 1)=(m:Int):=(wrap_in (by omega)).trans (by omega)
  have a2:(0≤((m+1:Nat):Int)∧((m+1:Nat):Int)<(l.length:Int))=True:=by simp;omega
  have a3:(0≤(m:Int)∧(m:Int)<(l.length:Int))=True:=by simp;omega
  have hat:∀ i (h:i<l.length),((ints l).drop i)[0]? = some (.int .i64 l[i]):=fun i h=>by simp [ints,h]
  have b1:=hat (m+1) (by omega)
  have b2:=hat m (by omega)
  simp only [vqM,vt25,a0,a1,a2,a3,b1,b2,Int.toNat_natCast,Nat.mul_one,Nat.zero_add]
  refine ifI_intro (fun hd=>?_) (fun hd=>?_)
  ·have hdd:l[m+1]=l[m]:=by simpa using hd
   have hT:compL (l.take (m+1+1))=l.take (m+1):=by rw [compL_take (by omega),if_pos hdd,hI]
   simp only [vqM,vt25,sl_from (show 0<m+1 by omega) (show m+1<l.length by omega),Nat.mul_one,Nat.zero_add]
   refine awN_keep [0,3,4,5] ?_
   simp only [vke,zB,zA]
   refine awN_forR hmix (l.length - (m+1) - 1) (fun j e s=>∃ (cur:List Int) (K:Nat),e=[.row B.length 0 l.length 1,J,J,.int .i64 (K:Int),.row B.length (m+1) (l.length - (m+1)) 1,.int .i64 ((j+1:Nat):Int),J,J,J,J,J,J,J,J,J,J,J,J,J,J,J,J,J,J,J,J,J,J,J,J,J,J,J,J,J,J,J,J,J,J,J,J,J,J,J,J,J,J,J,J,J,J,J,J,J,J,J,J,J,J,J]∧cur.length=l.length∧K=(compL (l.take (m+1+j+1))).length ∧
    cur.take K=compL (l.take (m+1+j+1))∧cur.drop (m+1+j)=l.drop (m+1+j)∧K≤m+1+j∧0<K∧s=⟨B++.cells (ints cur)::T,L,c⟩) ?_ ?_ 0 _ _ (Nat.zero_le _) ⟨l,m+1,rfl,rfl,?_,?_,rfl,by omega,by omega,rfl⟩
   ·rintro j e s hj ⟨cur,K,rfl,q1,q2,q3,q4,q5,q6,rfl⟩ ih2
    have a0:decide (((j+1:Nat):Int)<((l.length - (m+1):Nat):Int))=true:=by simp;omega
    have a1:IntKind.i64.wrap (((j+1:Nat):Int) - 1)=(j:Int):=(wrap_in (by omega)).trans (by omega)
    have a2:(0≤((j+1:Nat):Int)∧((j+1:Nat):Int)<((l.length - (m+1):Nat):Int))=True:=by simp;omega
    have a3:(0≤(j:Int)∧(j:Int)<((l.length - (m+1):Nat):Int))=True:=by simp;omega
    have a4:(0≤(K:Int)∧(K:Int)<(l.length:Int))=True:=by simp;omega
    have hat:∀ i (h:m+1+j≤i) (h2:i<l.length),((ints cur).drop i)[0]? = some (.int .i64 l[i]):=fun i h h2=>by
     have e1:cur[i]? = l[i]?:=by
      have:=congrArg (fun z=>z[i - (m+1+j)]?) q4
      simpa [show m+1+j+(i - (m+1+j))=i from by omega] using this
     rw [List.getElem?_drop,Nat.add_zero]
     simp [ints,e1,h2]
    have b1:=hat (m+1+(j+1)) (by omega) (by omega)
    have b2:=hat (m+1+j) (by omega) (by omega)
    have hsn:=compL_take (l:=l) (i:=m+1+j) (by omega)
    simp only [vqM,vt25,a0,a1,a2,a3,b1,b2,Int.toNat_natCast,Nat.mul_one]
    refine ifI_intro (fun hx=>?_) (fun hx=>?_)
    ·have hne:¬ l[m+1+j+1]=l[m+1+j]:=by have h:=hx;simp at h;exact h
     have a5:(K+1≤(ints cur).length)=True:=by simp [ints];omega
     have c1:(ints cur).take K++D.int .i64 (l[m+1+(j+1)])::(ints cur).drop (K+1)=ints (cur.take K++l[m+1+(j+1)]::cur.drop (K+1)):=by simp [ints]
     simp only [vqM,vt25,a2,a4,a5,b1,c1,Int.toNat_natCast,Nat.mul_one,Nat.zero_add]
     rw [show IntKind.i64.wrap ((K:Int)+1)=((K+1:Nat):Int) from wrap_succ (by omega),show IntKind.i64.wrap (((j+1:Nat):Int)+1)=((j+1+1:Nat):Int) from wrap_succ (by omega)]
     refine awN_keep [0,3,4,5] ?_
     simp only [vke,zB,zA]
     rw [if_neg hne] at hsn
     have hlt:(cur.take K).length=K:=by simp;omega
     refine ih2 _ _ ⟨_,K+1,rfl,?_,?_,?_,?_,by omega,by omega,rfl⟩
     ·simp;omega
     ·rw [show m+1+(j+1)+1=m+1+j+1+1 from by omega,hsn,q2];simp
     ·rw [show m+1+(j+1)+1=m+1+j+1+1 from by omega,hsn,← q3,List.take_append,List.take_of_length_le (by omega),hlt]
      simp [show K+1 - K=1 from by omega]
      rfl
     ·rw [List.drop_append,List.drop_of_length_le (by omega),hlt,show m+1+(j+1) - K=(m+1+j - K)+1 from by omega]
      simp only [List.nil_append,List.drop_succ_cons,List.drop_drop]
      have:=congrArg (List.drop 1) q4
      rw [List.drop_drop,List.drop_drop] at this
      rw [show K+1+(m+1+j - K)=m+1+j+1 from by omega,this];rfl
    ·have heq:l[m+1+j+1]=l[m+1+j]:=by have h:=hx;simp at h;exact h
     simp only [vqM]
     rw [show IntKind.i64.wrap (((j+1:Nat):Int)+1)=((j+1+1:Nat):Int) from wrap_succ (by omega)]
     refine awN_keep [0,3,4,5] ?_
     simp only [vke,zB,zA]
     rw [if_pos heq] at hsn
     refine ih2 _ _ ⟨cur,K,rfl,q1,?_,?_,?_,by omega,q6,rfl⟩
     ·rw [show m+1+(j+1)+1=m+1+j+1+1 from by omega,hsn,q2]
     ·rw [show m+1+(j+1)+1=m+1+j+1+1 from by omega,hsn,q3]
     ·have:=congrArg (List.drop 1) q4
      rw [List.drop_drop,List.drop_drop] at this;exact this
   ·rintro e s ⟨cur,K,rfl,q1,q2,q3,q4,q5,q6,rfl⟩
    have a0:decide (((l.length - (m+1) - 1+1:Nat):Int)<((l.length - (m+1):Nat):Int))=false:=by simp;omega
    have hall:l.take (m+1+(l.length - (m+1) - 1)+1)=l:=List.take_of_length_le (by omega)
    rw [hall] at q2 q3
    have hKl:=compL_le l
    have hcl:K+(l.length - K) * 1≤(ints cur).length:=by simp [ints];omega
    simp only [vqM,vt25,a0,sl_from (show 0<K from q6) (show K<l.length by omega),sl_to (show K≤l.length by omega),Nat.mul_one,Nat.zero_add,evClear_rw,clR_w,clR2_w hcl]
    refine retA (.inr rfl) (r:=.row B.length 0 K 1) ?_ ⟨_,by rw [q2],?_,rfl⟩
    ·simp only [vqM]
    ·rw [← q2];(try rw [storeD]);rw [List.take_append_of_le_length (by simp [ints];omega),List.take_of_length_le (by simp [ints];omega)]
     rw [show (ints cur).take K=ints (cur.take K) from by simp [ints],q3]
   ·rw [hT];simp;omega
   ·rw [hT]
  ·have hdd:¬ l[m+1]=l[m]:=by simpa using hd
   simp only [vqM]
   rw [show IntKind.i64.wrap (((m+1:Nat):Int)+1)=((m+1+1:Nat):Int) from wrap_succ (by omega)]
   refine awN_keep [0,3] ?_
   simp only [vke,zB,zA]
   refine ih ?_
   rw [compL_take (by omega),if_neg hdd,hI,List.take_add_one (i:=m+1),List.getElem?_eq_getElem (by omega)];rfl
 ·intro hI
  rw [show l.length - 1+1=l.length from by omega,List.take_length] at hI
  have a0:decide (((l.length - 1+1:Nat):Int)<(l.length:Int))=false:=by simp;omega
  simp only [vqM,vt25,a0]
  refine retA (.inr rfl) (r:=.row B.length 0 l.length 1) ?_ ⟨ints l,by rw [hI],by rw [hI,List.take_of_length_le (by simp [ints])],rfl⟩
  simp only [vqM]
 ·match l,hn0 with
  | [x],_=>rfl
  | x::_::_,_=>rfl
theorem WRel.weakCell {w:World} {g:G} {s:St} (h:WRel w g s) {b:Nat} {d d':D} (hb:s.boxes[b]? = some (.cells [d])) (hd:weakD d d'):WRel w g { s with boxes:=s.boxes.set b (.cells [d']) }:=by
 have hlt:=(List.getElem?_eq_some_iff.1 hb).1
 have hlv:∀ j,Live1 { s with boxes:=s.boxes.set b (.cells [d']) } j→Live1 s j:=by
  rintro j ⟨bx,h1,h2⟩
  by_cases e:j=b
  ·subst e;exact ⟨_,hb,by simp⟩
  ·simp only at h1;rw [List.getElem?_set_ne (by omega)] at h1;exact ⟨bx,h1,h2⟩
 refine { os:=h.os,tape:=h.tape,out:=h.out,fz:=h.fz,n:=h.n,old:=h.old,m:=h.m,box:=?_,inj:=fun i j c h1 h2 l1 l2=>h.inj i j c h1 h2 (hlv i l1) (hlv j l2),dom:=fun j c hj=>by have:=h.dom j c hj;simpa using this,live:=h.live,uniq:=h.uniq,ldom:=h.ldom,o:=h.o,nd:=h.nd,sz:=h.sz }
 intro j bx hj
 by_cases e:j=b
 ·subst e
  simp only at hj
  rw [List.getElem?_set_self hlt] at hj;cases hj
  obtain ⟨c,arr,T,fr,h1,h2,h3,h4,h5⟩:=h.box j _ hb
  refine ⟨c,arr,T,fr,h1,h2,h3,fun i q1 q2=>?_,h5⟩
  have:=h4 i q1 q2
  simp at q1;subst q1
  exact ⟨hd _ _ this.1,this.2⟩
 ·simp only at hj;rw [List.getElem?_set_ne (by omega)] at hj;exact h.box j bx hj
theorem gh_cell (e:List D) (s:St) {b:Nat} {d d':D} (hb:s.boxes[b]? = some (.cells [d])) (hd:weakD d d'):Gh e s e { s with boxes:=s.boxes.set b (.cells [d']) }:=fun O0 a w g h=>⟨g,.refl g,h.le (.refl g) h.env (h.wr.weakCell hb hd)⟩
theorem range_allY {X:Draws} {f:Operand} {ps:List Tmp} {asg bo:Code} {Q:QC} {e:List D} {B:List Box} {L:List Nat} {n:Nat} (b1 b2:Nat) (l:List Sm) (d:Int) (I:Nat→List Box→List Nat→Nat→List Box→Pt→Prop)
  (hf:val e f=.func (.func 167) [] [.box b1 0,.box b2 0]) (h1:B[b1]? = some (.cells [.slice .none (Sm.encs l)])) (h2:B[b2]? = some (.cells [.int .i64 d]))
  (hI0:I 0 B L n [] (fun _ _=>False))
  (step:drawsOk X asg=true→drawsOk X bo=true→∀ k p C L c Y Pr W,(flatL d l)[k]? = some p→C.length=B.length→I k C L c Y Pr→Prs Pr ⟨C++.loop ps asg bo e .ready none::Y,L,c⟩ →
   YSemQ Tryz.prog B.length [.agg p.cells] ⟨C++.loop ps asg bo e .ready none::(Y++W),L,c⟩ fun r s1=>r=.bool true∧∃ C' L' c' Y',C'.length=B.length∧s1=⟨C'++.loop ps asg bo e .ready none::Y',L',c'⟩ ∧
    I (k+1) C' L' c' Y' (ext Pr ⟨C++.loop ps asg bo e .ready none::Y,L,c⟩ W)∧Prs (ext Pr ⟨C++.loop ps asg bo e .ready none::Y,L,c⟩ W) s1)
  (hend:∀ C L c Y Pr Y2,C.length=B.length→I (flatL d l).length C L c Y Pr→@qI .normal e ⟨C++.dead::(Y++Y2),L,c⟩ Q):@AWNI X none Tryz.prog (.rangeFunc f ps.toArray asg bo) e ⟨B,L,n⟩ Q:=by
 have hbx:∀ (C:List Box) (x:Box) (Y:List Box),C.length=B.length→(C++x::Y)[B.length]? = some x:=fun C x Y h=>by rw [← h,box_at0];rfl
 refine range_all b1 b2 l d (fun q Pr s=>q=true∧∃ C L c Y Pr0,C.length=B.length∧I (flatL d l).length C L c Y Pr0∧∃ Y2,s=⟨C++.loop ps asg bo e .ready none::(Y++Y2),L,c⟩) hf h1 h2 ?_ (fun q1 q2=>?_) ?_
 ·rintro b Pr s Y ⟨rfl,C,L,c,Y0,Pr0,hl,hi,Y2,rfl⟩
  exact ⟨rfl,C,L,c,Y0,Pr0,hl,hi,Y2++Y,by simp⟩
 ·refine Yw_inv _ (fun k Pr s=>∃ C L c Y,C.length=B.length∧I k C L c Y Pr∧s=⟨C++.loop ps asg bo e .ready none::Y,L,c⟩) ?_ ?_ _ _ (fun _ _ h=>h.elim) ⟨B,L,n,[],rfl,hI0,rfl⟩
  ·rintro Pr s _ ⟨C,L,c,Y,hl,hi,rfl⟩;exact ⟨rfl,C,L,c,Y,Pr,hl,hi,[],by simp⟩
  ·rintro k p Pr s W hk hP ⟨C,L,c,Y,hlC,hIk,rfl⟩
   refine CallVQ.mono (show CallVQ _ (.yield B.length) _ _ _ from (by simpa only [CallVQ,List.append_assoc,List.cons_append] using step q1 q2 k p C L c Y Pr W hk hlC hIk hP)) ?_
   rintro r s1 ⟨rfl,C',L',c',Y',hl,rfl,hI2,hP2⟩
   exact ⟨hP2,.inl ⟨rfl,C',L',c',Y',hl,hI2,rfl⟩⟩
 ·rintro q Pr s1 _ ⟨rfl,C,L,c,Y,Pr0,hl,hi,Y2,rfl⟩
  refine ⟨.ready,none,hbx _ _ _ hl,by simp,?_⟩
  have e1:(C++.loop ps asg bo e .ready none::(Y++Y2)).set B.length .dead=C++.dead::(Y++Y2):=by rw [← hl,box_set0];rfl
  show @qI .normal e ⟨(C++.loop ps asg bo e .ready none::(Y++Y2)).set B.length .dead,_,_⟩ Q
  rw [e1]
  exact hend C L c Y Pr0 Y2 hl hi
def rawC (l:List Pl):List Int:=(l.filter fun p=>decide (p.s.op=13)).map (·.s.m)
def sortI (l:List Int):List Int:=l.mergeSort (fun a b=>decide (a≤b))
theorem sortI_of {l l':List Int} (h1:l'.Perm l) (h2:l'.Pairwise (· ≤ ·)):l'=sortI l:=by
 have h3:(sortI l).Pairwise (fun a b=>decide (a≤b)=true):=List.pairwise_mergeSort (fun a b c h1 h2=>by simp at *;omega) (fun a b=>by simp;omega) l
 refine List.Perm.eq_of_pairwise (le:=(· ≤ ·)) (fun a b _ _ h h'=>by omega) h2 (h3.imp fun h=>by simpa using h) (h1.trans (List.mergeSort_perm l _).symm)
theorem rawC_succ {l:List Pl} {k:Nat} {p:Pl} (h:l[k]? = some p):rawC (l.take (k+1))=if p.s.op=13 then rawC (l.take k)++[p.s.m] else rawC (l.take k):=by
 unfold rawC
 rw [List.take_add_one,h,Option.toList_some,List.filter_append,List.map_append]
 by_cases e:p.s.op=13 <;> simp [e]
theorem rawC_le (l:List Pl) (k:Nat):(rawC (l.take k)).length≤(rawC l).length:=by
 unfold rawC
 simp only [List.length_map]
 exact ((List.take_sublist k l).filter _).length_le
def callsS (d:Df):List Int:=compL (sortI (rawC (flatL 1 d.body)))
theorem lap {B Y:List Box} {a b c d x:Box} {t:Nat}:(B++a::b::c::d::x::Y)[B.length+(t+1+1+1+1+1)]? = Y[t]?:=by
 rw [List.getElem?_append_right (by omega),Nat.add_sub_cancel_left];rfl
def RowI (n:Nat) (Pr:Pt) (row:D) (l:List Int) (Y:List Box):Prop :=
 (row=.row0∧l=[]) ∨ ∃ j,row=.row (n+(j+1+1+1+1+1)) 0 l.length 1∧l≠[]∧Y[j]? = some (.cells (ints l))∧∀ x,¬ Pr (n+(j+1+1+1+1+1)) x
def CallI (B:List Box) (L:List Nat) (c:Nat) (d:Df) (k:Nat) (C:List Box) (L':List Nat) (c':Nat) (Y:List Box) (Pr:Pt):Prop :=
 L'=L∧c'=c∧(∀ i x,Pr i x→B.length+5≤i)∧∃ row,C=B++[.cells d.cells,.cells [row],.cells [.slice .none (Sm.encs d.body)],.cells [.int .i64 1]]∧RowI B.length Pr row (rawC ((flatL 1 d.body).take k)) Y
theorem ext_in {Pr:Pt} {B Y W:List Box} {a b c d x0:Box} {L:List Nat} {ct i:Nat} {x:Box} (h0:∀ i x,Pr i x→B.length+5≤i) (hP:Prs Pr ⟨B++a::b::c::d::x0::Y,L,ct⟩) (h:ext Pr ⟨B++a::b::c::d::x0::Y,L,ct⟩ W i x) :
  ∃ t,i=B.length+(t+1+1+1+1+1)∧(Y++W)[t]? = some x:=by
 have hge:B.length+5≤i:=by
  rcases h with h | ⟨h,_⟩
  ·exact h0 i x h
  ·simp at h;omega
 have h2:=prs_ext hP W i x h
 refine ⟨i - B.length - 5,by omega,?_⟩
 have e1:i=B.length+((i - B.length - 5)+1+1+1+1+1):=by omega
 simp only [List.append_assoc,List.cons_append] at h2
 rw [e1,lap] at h2
 exact h2
theorem box_split {B:List Box} {b:Nat} {x:Box} (h:B[b]? = some x):B=B.take b++x::B.drop (b+1)∧(B.take b).length=b:=by
 obtain ⟨hlt,rfl⟩:=List.getElem?_eq_some_iff.1 h
 exact ⟨by rw [← List.drop_eq_getElem_cons hlt,List.take_append_drop],by simp;omega⟩
theorem box_set_split {B:List Box} {b:Nat} {x y:Box} (h:B[b]? = some x):B.set b y=B.take b++y::B.drop (b+1):=by
 obtain ⟨hlt,rfl⟩:=List.getElem?_eq_some_iff.1 h
 exact List.set_eq_take_append_cons_drop.trans (by rw [if_pos hlt])
theorem t_SortAt (l:List Int) {b:Nat} {B:List Box} {L:List Nat} {c:Nat} (hb:B[b]? = some (.cells (ints l))) (hn:l.length≤12):SpecQ Tryz.prog 76 [.row b 0 l.length 1] ⟨B,L,c⟩
  fun r s=>r=.tup []∧s=⟨B.set b (.cells (ints (sortI l))),L,c⟩:=by
 obtain ⟨h1,h2⟩:=box_split hb
 have:=t_Sort l (B.take b) (B.drop (b+1)) L c hn
 rw [← h1,h2] at this
 refine this.mono ?_
 rintro r s ⟨rfl,l',p1,p2,rfl⟩
 rw [box_set_split hb,sortI_of p1 p2]
 exact ⟨rfl,rfl⟩
theorem t_CompactAt (l:List Int) {b:Nat} {B:List Box} {L:List Nat} {c:Nat} (hb:B[b]? = some (.cells (ints l))) (hn0:0<l.length) (hn:l.length≤1000000):SpecQ Tryz.prog 170 [.row b 0 l.length 1] ⟨B,L,c⟩
  fun r s=>∃ cs,r=.row b 0 (compL l).length 1∧cs.take (compL l).length=ints (compL l)∧s=⟨B.set b (.cells cs),L,c⟩:=by
 obtain ⟨h1,h2⟩:=box_split hb
 have:=t_Compact l (B.take b) (B.drop (b+1)) L c hn0 hn
 rw [← h1,h2] at this
 refine this.mono ?_
 rintro r s ⟨cs,rfl,p1,rfl⟩
 exact ⟨cs,rfl,p1,by rw [box_set_split hb]⟩
theorem t_Compact0 (s:St):SpecQ Tryz.prog 170 [.row0] s fun r s'=>r=.row0∧s'=s:=by
 have w2:decide ((0:Int)<2)=true:=by decide
 refine SpecQ.introA [] Tryz.func170 rfl (by decide) hmix (by kernel_rfl) [ResultVar.tmp 2] 61 rfl rfl ?_
 simp only [vqM,vt25,zA,zS,w2]
 refine retA (.inr rfl) (r:=.row0) ?_ ⟨rfl,rfl⟩
 simp only [vqM]
theorem t_Calls (d:Df) (hN:(rawC (flatL 1 d.body)).length≤12) (s:St):Spec Tryz.prog 121 [.agg d.cells] s (.slice .none (intCells (callsS d))) s:=by
 obtain ⟨B,L,c⟩:=s
 refine SpecQ.freeze (Z:=fun r s=>∃ X L' c',s=⟨B++X,L',c'⟩∧(∀ k ∈ L,k ∈ L')∧c≤c'∧((r=.row0∧intCells (callsS d)=[]) ∨ ∃ b off n sz cs,r=.row b off n sz∧B.length≤b∧(B++X)[b]? = some (.cells cs)∧(intCells (callsS d)).flatten=(cs.drop off).take (n * sz)∧(intCells (callsS d)).length=n∧(∀ x ∈ intCells (callsS d),x.length=sz))) ?_ (bd_intSl _) (fun r s h=>h)
 refine SpecQ.introA [] Tryz.func121 rfl (by decide) hmix (by kernel_rfl) [ResultVar.tmp 2] 23 rfl rfl ?_
 simp only [vqM,vt47,zA,zS]
 refine callI_spec (t_all _ _ _ _ _) ?_
 simp only [vqM,zA]
 refine awN_gh (gh_cell _ _ (b:=B.length+1) (d:=.slice .nil []) (d':=.row0) (by rw [box_at];rfl) weak_nil) ?_
 simp only [vqM]
 refine range_allY (B.length+2) (B.length+2+1) d.body 1 (CallI B L c d) ?_ ?_ ?_ ⟨rfl,rfl,fun _ _ h=>h.elim,.row0,rfl,.inl ⟨rfl,by simp [rawC]⟩⟩ ?_ ?_
 ·rfl
 ·rw [box_at];rfl
 ·rw [Nat.add_assoc,box_at];rfl
 ·rintro q1 q2 k p C L1 c1 Y Pr W hk hlC ⟨rfl,rfl,hPr0,row,rfl,hrow⟩ hP
  refine YSemQ.introA hmix q1 q2 (pd:=none) (by rw [← hlC,box_at0];rfl) (by rfl) fun l=>?_
  clear q1 q2
  simp only [vqM,vt47,zA,putArgs,vsPl]
  refine qI_assignA (pd1:=none) (by simp only [vqM,zA]) ?_
  simp only [vqM,vt47,zA,vsPl]
  simp only [List.append_assoc,List.cons_append,List.nil_append] at hP
  refine ifI_intro (fun hc=>?_) (fun hc=>?_)
  ·have hop:p.s.op=13:=of_decide_eq_true hc
   have hraw:=rawC_succ hk
   rw [if_pos hop] at hraw
   rcases hrow with ⟨rfl,hl0⟩ | ⟨j,rfl,hl0,hYj,hnp⟩
   ·simp only [vqM,vt47,zA,zM,zL,vsPl]
    refine roundA_normal (st:=.busy) (pd:=none) (by simp only [vqM]) ?_
    refine ⟨rfl,B++([.cells d.cells,.cells [.row (B.length+(Y.length+(W.length+1)+1+1+1+1+1)) 0 1 1],.cells [.slice .none (Sm.encs d.body)],.cells [.int .i64 1]]:List Box),_,_,Y++(W++[.cells p.cells,.cells [.int .i64 p.s.m]]),?_,?_,⟨rfl,rfl,?_,_,rfl,?_⟩,?_⟩
    ·simp
    ·simp only [vqM]
     try rfl
    ·intro i x hx
     obtain ⟨t,rfl,_⟩:=ext_in hPr0 hP hx
     omega
    ·rw [hraw,hl0]
     refine .inr ⟨Y.length+(W.length+1),rfl,by simp,?_,fun x hx=>?_⟩
     ·rw [List.getElem?_append_right (by omega),List.getElem?_append_right (by omega)]
      simp [ints,show Y.length+(W.length+1) - Y.length - W.length=1 from by omega]
     ·obtain ⟨t,he,ht⟩:=ext_in hPr0 hP hx
      have:=(List.getElem?_eq_some_iff.1 ht).1
      simp at this;omega
    ·intro i x hx
     obtain ⟨t,rfl,ht⟩:=ext_in hPr0 hP hx
     simp only [vqM]
     rw [← List.append_assoc]
     exact box_lt ht
   ·have hYj2:∀ Z,(Y++Z)[j]? = some (.cells (ints (rawC ((flatL 1 d.body).take k)))):=fun Z=>box_lt hYj
    have hle:=rawC_le (flatL 1 d.body) k
    have g1:((ints (rawC ((flatL 1 d.body).take k))).length=(rawC ((flatL 1 d.body).take k)).length * 1)=True:=by simp [ints]
    have g2:((rawC ((flatL 1 d.body).take k)).length+1≤1000000)=True:=by simp;omega
    simp only [vqM,vt47,zA,zM,zL,vsPl,hYj2,g1,g2]
    have g3:ints (rawC ((flatL 1 d.body).take k))++[[D.int .i64 p.s.m]].flatten=ints (rawC ((flatL 1 d.body).take (k+1))):=by rw [hraw];simp [ints]
    have g4:(rawC ((flatL 1 d.body).take k)).length+1=(rawC ((flatL 1 d.body).take (k+1))).length:=by rw [hraw];simp
    rw [g3,g4]
    have hjl:=(List.getElem?_eq_some_iff.1 hYj).1
    refine roundA_normal (st:=.busy) (pd:=none) (by simp only [vqM]) ?_
    refine ⟨rfl,B++([.cells d.cells,.cells [.row (B.length+(Y.length+(W.length+1)+1+1+1+1+1)) 0 (rawC ((flatL 1 d.body).take (k+1))).length 1],.cells [.slice .none (Sm.encs d.body)],.cells [.int .i64 1]]:List Box),_,_,(Y++(W++[Box.cells p.cells])).set j .dead++[.cells (ints (rawC ((flatL 1 d.body).take (k+1))))],?_,?_,⟨rfl,rfl,?_,_,rfl,?_⟩,?_⟩
    ·simp
    ·simp only [vqM]
     try rfl
    ·intro i x hx
     obtain ⟨t,rfl,_⟩:=ext_in hPr0 hP hx
     omega
    ·refine .inr ⟨Y.length+(W.length+1),rfl,by rw [hraw];simp,?_,fun x hx=>?_⟩
     ·rw [List.getElem?_append_right (by simp)]
      simp
     ·obtain ⟨t,he,ht⟩:=ext_in hPr0 hP hx
      have:=(List.getElem?_eq_some_iff.1 ht).1
      simp at this;omega
    ·intro i x hx
     have hne:i≠B.length+(j+1+1+1+1+1):=by
      rintro rfl
      rcases hx with hx | ⟨hx,_⟩
      ·exact hnp x hx
      ·simp at hx;omega
     obtain ⟨t,rfl,ht⟩:=ext_in hPr0 hP hx
     simp only [vqM]
     refine box_lt ?_
     rw [List.getElem?_set_ne (by omega),← List.append_assoc]
     exact box_lt ht
  ·have hop:¬ p.s.op=13:=of_decide_eq_false hc
   have hraw:=rawC_succ hk
   rw [if_neg hop] at hraw
   simp only [vqM]
   refine roundA_normal (st:=.busy) (pd:=none) (by simp only [vqM]) ?_
   refine ⟨rfl,B++([.cells d.cells,.cells [row],.cells [.slice .none (Sm.encs d.body)],.cells [.int .i64 1]]:List Box),_,_,Y++(W++[.cells p.cells]),by simp,?_,⟨rfl,rfl,?_,row,rfl,?_⟩,?_⟩
   ·simp only [vqM]
   ·intro i x hx
    obtain ⟨t,rfl,_⟩:=ext_in hPr0 hP hx
    omega
   ·rw [hraw]
    rcases hrow with ⟨rfl,hl0⟩ | ⟨j,rfl,hl0,hYj,hnp⟩
    ·exact .inl ⟨rfl,hl0⟩
    ·refine .inr ⟨j,rfl,hl0,box_lt hYj,fun x hx=>?_⟩
     rcases hx with hx | ⟨hx,_⟩
     ·exact hnp x hx
     ·have:=(List.getElem?_eq_some_iff.1 hYj).1
      simp at hx;omega
   ·intro i x hx
    obtain ⟨t,rfl,ht⟩:=ext_in hPr0 hP hx
    simp only [vqM]
    rw [← List.append_assoc]
    exact box_lt ht
 ·rintro C L1 c1 Y Pr Y2 - ⟨rfl,rfl,-,row,rfl,hrow⟩
  rw [List.take_length] at hrow
  rcases hrow with ⟨rfl,hl0⟩ | ⟨j,rfl,hl0,hYj,-⟩
  ·simp only [vqM,vt47]
   refine callI_spec (t_Sort0 _) ?_
   simp only [vqM,vt47]
   refine callI_specQ (t_Compact0 _) ?_
   rintro r s ⟨rfl,rfl⟩
   simp only [vqM]
   refine retA (.inr rfl) (r:=.row0) ?_ ⟨_,_,_,rfl,fun _ h=>h,Nat.le_refl _,.inl ⟨rfl,?_⟩⟩
   ·simp only [vqM]
   ·rw [callsS,hl0];simp [sortI,compL,intCells]
  ·have hYj2:∀ Z,(Y++Z)[j]? = some (.cells (ints (rawC (flatL 1 d.body)))):=fun Z=>box_lt hYj
   simp only [vqM,vt47]
   refine callI_specQ (t_SortAt (rawC (flatL 1 d.body)) (by rw [lap];exact hYj2 Y2) hN) ?_
   rintro r s ⟨rfl,rfl⟩
   simp only [vqM,vt47]
   have hle:(sortI (rawC (flatL 1 d.body))).length=(rawC (flatL 1 d.body)).length:=(List.mergeSort_perm _ _).length_eq
   have hpos:0<(rawC (flatL 1 d.body)).length:=List.length_pos_iff.2 hl0
   have hjl:=(List.getElem?_eq_some_iff.1 hYj).1
   rw [← hle]
   refine callI_specQ (t_CompactAt (sortI (rawC (flatL 1 d.body))) (by rw [lap,List.getElem?_set_self (by simp;omega)]) (by omega) (by omega)) ?_
   rintro r s ⟨cs,rfl,hcs,rfl⟩
   simp only [vqM]
   refine retA (.inr rfl) (r:=.row (B.length+(j+1+1+1+1+1)) 0 (callsS d).length 1) ?_ ⟨_,_,_,rfl,fun _ h=>h,Nat.le_refl _,.inr ⟨_,_,_,_,cs,rfl,by omega,?_,?_,by simp [intCells],?_⟩⟩
   ·simp only [vqM]
    rfl
   ·rw [lap,List.getElem?_set_self (by simp;omega)]
   ·rw [Nat.mul_one,List.drop_zero,callsS,hcs]
    generalize compL _=z
    induction z with
    | nil=>rfl
    | cons x z ih=>simpa [ints,intCells] using ih
   ·intro x hx
    obtain ⟨y,_,rfl⟩:=List.mem_map.1 hx
    rfl
theorem mapFind_at {n:Int}:∀ (l:List Int) (i:Nat),n ∈ l→∃ q,mapFind .i64 n (mapB l) i=some (some (i+q,.bool true))∧(mapB l).eraseIdx q=mapB (l.erase n):=by
 intro l
 induction l with
 | nil=>intro i h;simp at h
 | cons m l ih =>
  intro i h
  simp only [mapB,List.map_cons,mapFind,if_true]
  by_cases e:n=m
  ·subst e;rw [if_pos rfl];exact ⟨0,rfl,by simp [mapB]⟩
  ·rw [if_neg e]
   rcases List.mem_cons.1 h with h | h
   ·exact absurd h e
   ·obtain ⟨q,h1,h2⟩:=ih (i+1) h
    refine ⟨q+1,by simpa [mapB,Nat.add_assoc,Nat.add_comm 1 q] using h1,?_⟩
    rw [List.erase_cons_tail (by simpa using fun h=>e h.symm)]
    simp only [List.eraseIdx_cons_succ,List.map_cons]
    rw [show (l.map fun n=>(D.int .i64 n,D.bool true)).eraseIdx q=_ from h2];rfl
def rdy (rem:List Int) (d:Df):Bool:=rem.contains d.id && !(callsS d).any fun i=>rem.contains i
def idAt (defs:List Df) (i:Nat):Int:=match defs[i]? with
 | some d=>d.id
 | none=>0
def ordS (defs:List Df):Nat→List Int→List Int
 | 0,_=>[]
 | n+1,rem=>match defs.findIdx? (rdy rem) with
  | none=>[]
  | some i=>idAt defs i::ordS defs n (rem.erase (idAt defs i))
def orderS (p:Pg):List Int:=ordS p.defs p.defs.length (p.defs.map (·.id))
theorem t_Order11 (id:Int) (rem:List Int) (b m:Nat) (s:St) (hb:s.boxes[b]? = some (.cells [.map m])) (hm:s.boxes[m]? = some (.map (mapB rem))):Spec Tryz.prog 122 [.int .i64 id,.box b 0] s (.bool (rem.contains id)) s:=by
 obtain ⟨B,L,c⟩:=s
 have hb:B[b]? = some (.cells [.map m]):=hb
 have hm:B[m]? = some (.map (mapB rem)):=hm
 refine Spec.introN [] Tryz.func122 rfl (by decide) hmix (by kernel_rfl) [ResultVar.tmp 3] 7 rfl rfl ?_
 simp only [vqM,vt63,zA,zS,hb,hm,look_mapB]
 refine ret_here (.inr rfl) ?_ (.bool _)
 simp only [vqM]
theorem t_Order1 (d:Df) (rem:List Int) (b m:Nat) (s:St) (hb:s.boxes[b]? = some (.cells [.map m])) (hm:s.boxes[m]? = some (.map (mapB rem))) (hN:(rawC (flatL 1 d.body)).length≤12):Spec Tryz.prog 119 [.agg d.cells,.box b 0] s (.bool (rdy rem d)) s:=by
 obtain ⟨B,L,c⟩:=s
 have hb2:∀ X,(B++X)[b]? = some (.cells [.map m]):=fun X=>box_lt hb
 have hm2:∀ X,(B++X)[m]? = some (.map (mapB rem)):=fun X=>box_lt hm
 refine Spec.introN [] Tryz.func119 rfl (by decide) hmix (by kernel_rfl) [ResultVar.tmp 3] 15 rfl rfl ?_
 simp only [vqM,vt64,zA,zS,hb2,hm2,look_mapB]
 refine ifI_intro (fun hc=>?_) (fun hc=>?_)
 ·simp only [vqM,vt64,hc]
  refine callI_spec (t_Calls d hN _) ?_
  simp only [vqM]
  refine callI_spec (t_conInt (.func (.func 122) [] [.box b 0]) rfl (fun i=>rem.contains i) _ _ fun x _=>?_) ?_
  ·refine (show CallVQ _ _ _ _ _ from ?_)
   simp only [CallVQ,List.nil_append,List.cons_append]
   exact t_Order11 x rem b m _ (hb2 _) (hm2 _)
  simp only [vqM]
  refine ret_loc (.inr rfl) ?_ (.bool _) (fun _ h=>h) (Nat.le_refl _)
  simp only [vqM]
  simp only [rdy,hc,Bool.true_and]
 ·simp only [vqM,hc]
  refine ret_loc (.inr rfl) ?_ (.bool _) (fun _ h=>h) (Nat.le_refl _)
  simp only [vqM]
  simp only [rdy,hc,Bool.false_and]
theorem t_Order (p:Pg) (hnd:(p.defs.map (·.id)).Nodup) (hN:∀ d ∈ p.defs,(rawC (flatL 1 d.body)).length≤12) (hlen:p.defs.length<1000000) (s:St):Spec Tryz.prog 71 [.agg p.cells] s (.slice .none (intCells (orderS p))) s:=by
 refine Spec.wf fun hW=>?_
 obtain ⟨B,L,c⟩:=s
 have hW0:WfL L c:=⟨hW.nd,hW.lt⟩
 refine Spec.introN [] Tryz.func71 rfl (by decide) hmix (by kernel_rfl) [ResultVar.tmp 2] 45 rfl rfl ?_
 simp only [vqM,vt65,zA,zS,dfCells_len]
 refine awN_keep [1,3,4,11,12,13] ?_
 simp only [vke,zB,zA]
 refine awN_forR hmix p.defs.length (fun k e s=>e=[J,.box B.length 0,J,.slice .nil [],.box (B.length+2) 0,J,J,J,J,J,J,.slice .none (dfCells p.defs),.int .i64 p.defs.length,.int .i64 (k:Int),J,J,J,J,J,J,J,J,J,J,J,J,J,J,J,J,J,J,J,J,J,J,J,J,J,J,J,J,J,J,J]∧∃ X,s=⟨B++.cells p.cells::.map (mapB ((p.defs.map (·.id)).take k))::.cells [.map (B.length+1)]::X,L,c⟩) ?_ ?_ 0 _ _ (Nat.zero_le _) ⟨rfl,[],rfl⟩
 ·rintro k e s hk ⟨rfl,X,rfl⟩ ih
  have hx:p.defs[k]? = some p.defs[k]:=List.getElem?_eq_getElem hk
  have hg:(dfCells p.defs)[k]? = some (p.defs[k].cells):=by simp [dfCells,hx]
  have hklt:((k:Int)<(p.defs.length:Int))=True:=by simp;exact hk
  have hni:p.defs[k].id ∉ (p.defs.map (·.id)).take k:=by
   intro hm
   obtain ⟨j,hj,he⟩:=List.getElem_of_mem hm
   simp at hj
   have:=(List.getElem_inj (h₀:=by simp;omega) (h₁:=by simpa using hk) hnd (i:=j) (j:=k)).1 (by simpa using he)
   omega
  have hfind:=mapFind_out _ 0 hni
  have hput:=put_mapB hni
  have hnext:(p.defs.map (·.id)).take (k+1)=(p.defs.map (·.id)).take k++[p.defs[k].id]:=by rw [List.take_add_one];simp [hx]
  simp only [vqM,vt65,zA,hklt,decide_true,natle0,Int.toNat_natCast,hg,hfind,hput]
  rw [wrap_succ (by omega),← hnext]
  refine awN_keep [1,3,4,11,12,13] ?_
  simp only [vke,zB,zA]
  exact ih _ _ ⟨rfl,_,rfl⟩
 ·rintro e s ⟨rfl,X,rfl⟩
  have hklt:((p.defs.length:Int)<(p.defs.length:Int))=False:=by simp
  rw [List.take_of_length_le (by simp)]
  simp only [vqM,hklt,decide_false]
  refine awN_keep [1,3,4,7] ?_
  simp only [vke,zB,zA]
  refine awN_forR hmix p.defs.length (fun k e s=>∃ (rem out:List Int) (o:Own) (L':List Nat) (c':Nat),e=[J,.box B.length 0,J,.slice o (intCells out),.box (B.length+2) 0,J,J,.func (.func 119) [] [.box (B.length+2) 0],J,J,J,J,J,J,J,J,J,J,J,J,J,J,J,J,J,J,J,J,J,J,J,J,J,J,J,J,J,J,J,J,J,J,J,J,J] ∧
   s=⟨B++.cells p.cells::.map (mapB rem)::.cells [.map (B.length+1)]::X,L',c'⟩∧OutO L c 1 o L' c'∧rem.length=p.defs.length - k∧rem.Nodup∧out.length=k∧out++ordS p.defs (p.defs.length - k) rem=orderS p) ?_ ?_ 0 _ _ (Nat.zero_le _) ⟨_,[],_,_,_,rfl,rfl,.start hW0 1,by simp,hnd,rfl,rfl⟩
  ·rintro k e s hk ⟨rem,out,o,L',c',rfl,rfl,hO,r1,r2,r3,r4⟩ ih
   simp only [vqM,vt65,zA]
   refine callI_spec (t_idxDf _ (rdy rem) p.defs _ fun d hd=>?_) ?_
   ·refine (show CallVQ _ _ _ _ _ from ?_)
    simp only [CallVQ,List.nil_append,List.cons_append]
    exact t_Order1 d rem (B.length+2) (B.length+1) _ (by rw [box_at];rfl) (by rw [box_at];rfl) (hN d hd)
   have hstep:p.defs.length - k=(p.defs.length - (k+1))+1:=by omega
   rw [hstep,ordS] at r4
   cases hfi:p.defs.findIdx? (rdy rem) with
   | none =>
    have hid:idxP (rdy rem) p.defs = -1:=by simp [idxP,hfi]
    have hlt:decide ((-1:Int)<0)=true:=by decide
    rw [hfi,List.append_nil] at r4
    simp only [vqM,hid,hlt]
    refine ret_loc (.inr rfl) ?_ (bd_intSl _) hO.sub hO.le
    simp only [vqM]
    rw [r4]
   | some i =>
    have hid:idxP (rdy rem) p.defs=i:=by simp [idxP,hfi]
    have hlt:decide ((i:Int)<0)=false:=by simp
    obtain ⟨hil,hri,-⟩:=List.findIdx?_eq_some_iff_getElem.1 hfi
    have hx:p.defs[i]? = some p.defs[i]:=List.getElem?_eq_getElem hil
    have hat:idAt p.defs i=p.defs[i].id:=by simp [idAt,hx]
    have hg:(dfCells p.defs)[i]? = some (p.defs[i].cells):=by simp [dfCells,hx]
    have hmem:p.defs[i].id ∈ rem:=by simp [rdy] at hri;exact hri.1
    obtain ⟨q,hfind,hcut⟩:=mapFind_at rem 0 hmem
    rw [Nat.zero_add] at hfind
    rw [hfi] at r4
    simp only [hat] at r4
    have hof:∀ B',ownFits o (intCells out) 1 ⟨B',L',c'⟩=true:=fun B'=>hO.lv.fits (intCells_each _) B' c'
    have hl1:(out.length+1≤1000000)=True:=eq_true (by omega)
    have hcut2:mapCut (some (q,.bool true)) (mapB rem)=mapB (rem.erase p.defs[i].id):=hcut
    generalize p.defs[i]=x at hg hmem hfind hcut2 r4 hx
    simp only [vqM,vt65,zA,zM,zL,hid,hlt,hg,natle0,Int.toNat_natCast,hof,relab_eq,intCells_len,hl1,intCells_app,hfind,hcut2]
    refine awN_keep [1,3,4,7] ?_
    simp only [vke,zB,zA]
    refine ih _ _ ⟨rem.erase x.id,out++[x.id],_,_,_,rfl,rfl,hO.step hW0,?_,r2.erase _,by simp [r3],?_⟩
    ·rw [List.length_erase_of_mem hmem];omega
    ·rw [← r4];simp
  ·rintro e s ⟨rem,out,o,L',c',rfl,rfl,hO,r1,r2,r3,r4⟩
   have hrem:rem=[]:=List.eq_nil_of_length_eq_zero (by omega)
   subst hrem
   have hfi:p.defs.findIdx? (rdy [])=none:=by rw [List.findIdx?_eq_none_iff];intro x _;simp [rdy]
   have hid:idxP (rdy []) p.defs = -1:=by simp [idxP,hfi]
   have hlt:decide ((-1:Int)<0)=true:=by decide
   rw [Nat.sub_self,ordS,List.append_nil] at r4
   simp only [vqM,vt65,zA]
   refine callI_spec (t_idxDf _ (rdy []) p.defs _ fun d hd=>?_) ?_
   ·refine (show CallVQ _ _ _ _ _ from ?_)
    simp only [CallVQ,List.nil_append,List.cons_append]
    exact t_Order1 d [] (B.length+2) (B.length+1) _ (by rw [box_at];rfl) (by rw [box_at];rfl) (hN d hd)
   simp only [vqM,hid,hlt]
   refine ret_loc (.inr rfl) ?_ (bd_intSl _) hO.sub hO.le
   simp only [vqM]
   rw [r4]
set_option maxHeartbeats 4000000
def dis:List Int→List Int→Bool
 | [],_=>true
 | x::l,seen=>!seen.contains x && dis l (seen++[x])
def scanD (p:Pg):List Df→List Int→Int→Bool
 | [],_,_=>true
 | d::l,seen,last=>!(decide (d.id≤last) || !rightB p d) && (dis (sitesS d) seen && scanD p l (seen++sitesS d) d.id)
def faultB (p:Pg):Bool:=!declB p.d || !headsB p || decide ((p.defs.length:Int) > 40) || decide ((p.threads.length:Int) > 4)
def noThr (p:Pg) (id:Int):Bool:=!(findS p id).isSome || decide (w64 ((((findS p id).getD Df.zero).params.length:Int)+((findS p id).getD Df.zero).given.length) > 0)
def programS (p:Pg):Int :=
 if faultB p then 60 else if !scanD p p.defs [] 0 then 60 else if p.threads.any (noThr p) then 60 else if (orderS p).length≠p.defs.length then 180 else 0
structure PgOk (p:Pg):Prop where
 nm:∀ d ∈ p.defs,d.name.size≤1000000000
 fl:∀ d ∈ p.defs,(flatL 1 d.body).length<1000000
 ca:∀ d ∈ p.defs,(rawC (flatL 1 d.body)).length≤12
theorem scanD_lt (p:Pg):∀ (l:List Df) (seen:List Int) (last:Int),scanD p l seen last=true→(l.map (·.id)).Pairwise (· < ·)∧∀ d ∈ l,last<d.id:=by
 intro l
 induction l with
 | nil=>intro _ _ _;simp
 | cons d l ih =>
  intro seen last h
  simp only [scanD,Bool.and_eq_true,Bool.not_eq_true',Bool.or_eq_false_iff,decide_eq_false_iff_not] at h
  obtain ⟨h1,h2⟩:=ih _ _ h.2.2
  refine ⟨by simpa using ⟨h2,by simpa using h1⟩,fun x hx=>?_⟩
  rcases List.mem_cons.1 hx with rfl | hx
  ·omega
  ·have:=h2 x hx;omega
theorem scanD_nodup {p:Pg} (h:scanD p p.defs [] 0=true):(p.defs.map (·.id)).Nodup:=(scanD_lt p _ _ _ h).1.imp fun h=>by omega
theorem dn60:decide ((60:Int)≠0)=true:=by decide
theorem dn00:decide ((0:Int)≠0)=false:=by decide
theorem t_Program (p:Pg) (H:PgOk p) (s:St):Spec Tryz.prog 19 [.agg p.cells] s (.int .i64 (programS p)) s:=by
 obtain ⟨B,L,c⟩:=s
 refine Spec.introN [(1,.cut),(22,.cut),(25,.text [false,true,false,false,false,false,false] [(4,0),(5,0)])] Tryz.func19 rfl (by decide) hmix (by kernel_rfl) [ResultVar.tmp 2] 101 rfl rfl ?_
 simp only [vqM,zA,zS,zB]
 refine seq_joinS hmix [1,33] [J,.box B.length 0,J,J,J,J,J,J,J,J,J,J,J,J,J,J,J,J,J,J,J,J,J,J,J,J,J,J,J,J,J,J,J,.bool (faultB p),J,J,J,J,J,J,J,J,J,J,J,J,J,J,J,J,J,J,J,J,J,J,J,J,J,J,J,J,J,J,J,J,J,J,J,J,J,J,J,J,J,J,J,J,J,J,J,J,J,J,J,J,J,J,J,J,J,J,J,J,J,J,J,J,J,J,J] ?_ ?_
 ·simp only [vqM,vt66,zA,zL]
  refine callI_spec (t_Decl _ _) ?_
  cases hd:declB p.d
  ·simp only [vqM,reduceCtorEq,dn60]
   refine meet_intro ⟨?_,rfl⟩
   simp only [vke,zB,zA]
   simp [faultB,hd]
  ·simp only [vqM,vt66,dn00]
   repeat' (first
    | ((with_reducible refine is_call ?_);refine callI_spec (t_rightHeads _ _) ?_;simp only [vqM])
    | (with_reducible refine ifI_intro (fun hc=>?_) (fun hc=>?_) <;> simp only [vqM,vt66,hc,zA,dfCells_len,intCells_len])
    | ((with_reducible refine is_q ?_);refine meet_intro ⟨?_,rfl⟩ <;> simp only [vke,zB,zA] <;> (first | (simp only [faultB, *,Bool.true_or,Bool.false_or,Bool.or_true,Bool.or_false,Bool.not_true];done) | (simp_all [faultB,hd];done) | (simp_all [faultB,hd];omega))))
 simp only [vqM]
 refine ifI_intro (fun hc=>?_) (fun hc=>?_)
 ·simp only [vqM,zB]
  refine ret_loc (.inr rfl) ?_ (.int _ _) (fun _ h=>h) (Nat.le_refl _)
  simp only [vqM]
  simp [programS,hc]
 have hdl:p.defs.length≤40:=by
  simp only [faultB,Bool.or_eq_false_iff,decide_eq_false_iff_not] at hc
  omega
 have htl:p.threads.length≤4:=by
  simp only [faultB,Bool.or_eq_false_iff,decide_eq_false_iff_not] at hc
  omega
 have hP1:programS p=if !scanD p p.defs [] 0 then 60 else if p.threads.any (noThr p) then 60 else if (orderS p).length≠p.defs.length then 180 else 0:=by rw [programS,hc];rfl
 simp only [vqM,vt66,zA,zB,dfCells_len]
 refine awN_keep [1,3,4,36,37,38] ?_
 simp only [vke,zB,zA]
 refine awN_forR hmix p.defs.length (fun k e s=>∃ (seen:List Int) (last:Int) (X:List Box),e=[J,.box B.length 0,J,.map (B.length+1),.int .i64 last,J,J,J,J,J,J,J,J,J,J,J,J,J,J,J,J,J,J,J,J,J,J,J,J,J,J,J,J,J,J,J,.slice .none (dfCells p.defs),.int .i64 p.defs.length,.int .i64 (k:Int),J,J,J,J,J,J,J,J,J,J,J,J,J,J,J,J,J,J,J,J,J,J,J,J,J,J,J,J,J,J,J,J,J,J,J,J,J,J,J,J,J,J,J,J,J,J,J,J,J,J,J,J,J,J,J,J,J,J,J,J,J,J] ∧
  s=⟨B++.cells p.cells::.map (mapB seen)::X,L,c⟩∧scanD p p.defs [] 0=scanD p (p.defs.drop k) seen last) ?_ ?_ 0 _ _ (Nat.zero_le _) ⟨[],0,[],rfl,rfl,rfl⟩
 ·rintro k e s hk ⟨seen,last,X,rfl,rfl,hI⟩ ih
  have hx:p.defs[k]? = some p.defs[k]:=List.getElem?_eq_getElem hk
  have hg:(dfCells p.defs)[k]? = some (p.defs[k].cells):=by simp [dfCells,hx]
  have hklt:((k:Int)<(p.defs.length:Int))=True:=by simp;exact hk
  have hd:p.defs.drop k=p.defs[k]::p.defs.drop (k+1):=List.drop_eq_getElem_cons hk
  rw [hd,scanD] at hI
  have hmem:=List.getElem_mem hk
  have hnm:=H.nm _ hmem
  have hfl:=H.fl _ hmem
  generalize p.defs[k]=d at hx hg hd hI hmem hnm hfl
  simp only [vqM,vt66,zA,zB,hklt,decide_true,natle0,Int.toNat_natCast,hg]
  have hbad:(decide (d.id≤last) || !rightB p d)=true→programS p=60:=fun h=>by rw [hP1,hI,h];rfl
  refine ifI_intro (fun h1=>?_) (fun h1=>?_)
  ·simp only [vqM,zB,h1]
   refine ret_loc (.inr rfl) ?_ (.int _ _) (fun _ h=>h) (Nat.le_refl _)
   simp only [vqM]
   rw [hbad (by rw [h1];rfl)]
  simp only [vqM,vt66,h1]
  refine callI_spec (t_rightDef p d hnm _) ?_
  simp only [vqM]
  refine ifI_intro (fun h2=>?_) (fun h2=>?_)
  ·simp only [vqM,zB,h2]
   refine ret_loc (.inr rfl) ?_ (.int _ _) (fun _ h=>h) (Nat.le_refl _)
   simp only [vqM]
   rw [hbad (by rw [h1,h2];rfl)]
  rw [h1,h2] at hI
  simp only [Bool.or_false,Bool.not_false,Bool.true_and] at hI
  simp only [vqM,vt66,zA,zB,h2]
  refine callI_spec (t_Sites d hfl _) ?_
  simp only [vqM,vt66,intCells_len]
  refine awN_keep [1,3,4,36,37,38,55,56,57] ?_
  simp only [vke,zB,zA]
  refine awN_forR hmix (sitesS d).length (fun j e s=>e=[J,.box B.length 0,J,.map (B.length+1),.int .i64 d.id,J,J,J,J,J,J,J,J,J,J,J,J,J,J,J,J,J,J,J,J,J,J,J,J,J,J,J,J,J,J,J,.slice .none (dfCells p.defs),.int .i64 p.defs.length,.int .i64 (k:Int),J,J,J,J,J,J,J,J,J,J,J,J,J,J,J,J,.slice .none (intCells (sitesS d)),.int .i64 (sitesS d).length,.int .i64 (j:Int),J,J,J,J,J,J,J,J,J,J,J,J,J,J,J,J,J,J,J,J,J,J,J,J,J,J,J,J,J,J,J,J,J,J,J,J,J,J,J,J,J,J,J] ∧
   s=⟨B++.cells p.cells::.map (mapB (seen++(sitesS d).take j))::(X++[.cells d.cells]),L,c⟩∧scanD p p.defs [] 0=(dis ((sitesS d).drop j) (seen++(sitesS d).take j) && scanD p (p.defs.drop (k+1)) (seen++sitesS d) d.id)) ?_ ?_ 0 _ _ (Nat.zero_le _) ⟨rfl,by simp,by simpa using hI⟩
  ·rintro j e s hj ⟨rfl,rfl,hJ⟩ ih2
   have hy:(sitesS d)[j]? = some (sitesS d)[j]:=List.getElem?_eq_getElem hj
   have hgy:(intCells (sitesS d))[j]? = some [.int .i64 (sitesS d)[j]]:=by simp [intCells,hy]
   have hjlt:((j:Int)<((sitesS d).length:Int))=True:=by simp;exact hj
   have hdy:(sitesS d).drop j=(sitesS d)[j]::(sitesS d).drop (j+1):=List.drop_eq_getElem_cons hj
   have hty:(sitesS d).take (j+1)=(sitesS d).take j++[(sitesS d)[j]]:=by rw [List.take_add_one,hy];rfl
   rw [hdy,dis] at hJ
   generalize (sitesS d)[j]=y at hy hgy hdy hty hJ
   simp only [vqM,vt66,zA,zB,hjlt,decide_true,natle0,Int.toNat_natCast,hgy,look_mapB]
   refine ifI_intro (fun h3=>?_) (fun h3=>?_)
   ·simp only [vqM,zB]
    refine ret_loc (.inr rfl) ?_ (.int _ _) (fun _ h=>h) (Nat.le_refl _)
    simp only [vqM]
    rw [hP1,hJ,h3];rfl
   have hni:y ∉ seen++(sitesS d).take j:=by simpa using h3
   have hfind:=mapFind_out _ 0 hni
   have hput:=put_mapB hni
   rw [h3] at hJ
   simp only [Bool.not_false,Bool.true_and] at hJ
   simp only [vqM,vt66,hfind,hput]
   rw [wrap_succ (by have:=hfl;simp [sitesS,sitesL] at hj;omega),← hty]
   refine awN_keep [1,3,4,36,37,38,55,56,57] ?_
   simp only [vke,zB,zA]
   exact ih2 _ _ ⟨rfl,rfl,by rw [hJ,hty,List.append_assoc]⟩
  ·rintro e s ⟨rfl,rfl,hJ⟩
   have hjlt:(((sitesS d).length:Int)<((sitesS d).length:Int))=False:=by simp
   rw [List.drop_length,List.take_length,dis,Bool.true_and] at hJ
   rw [List.take_length]
   simp only [vqM,zB,hjlt,decide_false]
   rw [wrap_succ (by omega)]
   refine awN_keep [1,3,4,36,37,38] ?_
   simp only [vke,zB,zA]
   exact ih _ _ ⟨_,_,_,rfl,rfl,hJ⟩
 ·rintro e s ⟨seen,last,X,rfl,rfl,hI⟩
  have hklt:((p.defs.length:Int)<(p.defs.length:Int))=False:=by simp
  rw [List.drop_length,scanD] at hI
  have hP2:programS p=if p.threads.any (noThr p) then 60 else if (orderS p).length≠p.defs.length then 180 else 0:=by rw [hP1,hI];rfl
  clear hP1
  simp only [vqM,vt66,zA,zB,intCells_len,hklt,decide_false]
  refine awN_keep [1,69,70,71] ?_
  simp only [vke,zB,zA]
  refine awN_forR hmix p.threads.length (fun k e s=>e=[J,.box B.length 0,J,J,J,J,J,J,J,J,J,J,J,J,J,J,J,J,J,J,J,J,J,J,J,J,J,J,J,J,J,J,J,J,J,J,J,J,J,J,J,J,J,J,J,J,J,J,J,J,J,J,J,J,J,J,J,J,J,J,J,J,J,J,J,J,J,J,J,.slice .none (intCells p.threads),.int .i64 p.threads.length,.int .i64 (k:Int),J,J,J,J,J,J,J,J,J,J,J,J,J,J,J,J,J,J,J,J,J,J,J,J,J,J,J,J,J]∧(∃ X,s=⟨B++.cells p.cells::X,L,c⟩)∧∀ j (h:j<p.threads.length),j<k→noThr p p.threads[j]=false) ?_ ?_ 0 _ _ (Nat.zero_le _) ⟨rfl,⟨_,rfl⟩,by intro j _ h;omega⟩
  ·rintro k e s hk ⟨rfl,⟨X,rfl⟩,hJ⟩ ih
   have hx:p.threads[k]? = some p.threads[k]:=List.getElem?_eq_getElem hk
   have hg:(intCells p.threads)[k]? = some [.int .i64 p.threads[k]]:=by simp [intCells,hx]
   have hklt:((k:Int)<(p.threads.length:Int))=True:=by simp;exact hk
   have hany:noThr p p.threads[k]=true→p.threads.any (noThr p)=true:=fun h=>List.any_eq_true.2 ⟨_,List.getElem_mem hk,h⟩
   have hJk:=hJ
   simp only [vqM,vt66,zA,zB,hklt,decide_true,natle0,Int.toNat_natCast,hg]
   refine callI_spec (t_Find p p.threads[k] _) ?_
   simp only [vqM,vt66,zA,zB,findSD]
   refine seq_joinS hmix [1,69,70,71,92] [J,.box B.length 0,J,J,J,J,J,J,J,J,J,J,J,J,J,J,J,J,J,J,J,J,J,J,J,J,J,J,J,J,J,J,J,J,J,J,J,J,J,J,J,J,J,J,J,J,J,J,J,J,J,J,J,J,J,J,J,J,J,J,J,J,J,J,J,J,J,J,J,.slice .none (intCells p.threads),.int .i64 p.threads.length,.int .i64 (k:Int),J,J,J,J,J,J,J,J,J,J,J,J,J,J,J,J,J,J,J,J,.bool (noThr p p.threads[k]),J,J,J,J,J,J,J,J] ?_ ?_
   ·simp only [vqM]
    repeat' (first
     | (with_reducible refine ifI_intro (fun hc=>?_) (fun hc=>?_) <;> simp only [vqM,vt66,hc,zA,rgCells_len,w64_eq])
     | ((with_reducible refine is_q ?_);refine meet_intro ⟨?_,rfl⟩ <;> simp only [vke,zB,zA] <;> (first | (simp only [noThr, *,Bool.true_or,Bool.false_or];done) | (simp_all [noThr];done) | (simp_all [noThr];omega))))
   simp only [vqM]
   refine ifI_intro (fun h1=>?_) (fun h1=>?_)
   ·simp only [vqM,zB]
    refine ret_loc (.inr rfl) ?_ (.int _ _) (fun _ h=>h) (Nat.le_refl _)
    simp only [vqM]
    rw [hP2,hany h1];rfl
   simp only [vqM]
   rw [wrap_succ (by omega)]
   refine awN_keep [1,69,70,71] ?_
   simp only [vke,zB,zA]
   refine ih _ _ ⟨rfl,⟨_,rfl⟩,fun j hj hjk=>?_⟩
   by_cases e:j=k
   ·subst e;exact h1
   ·exact hJ j hj (by omega)
  ·rintro e s ⟨rfl,⟨X,rfl⟩,hJ⟩
   have hno:p.threads.any (noThr p)=false:=List.any_eq_false.2 fun x hx=>by
    obtain ⟨j,hj,rfl⟩:=List.getElem_of_mem hx
    simpa using hJ j hj hj
   have hP3:programS p=if (orderS p).length≠p.defs.length then 180 else 0:=by rw [hP2,hno];rfl
   have hklt:((p.threads.length:Int)<(p.threads.length:Int))=False:=by simp
   simp only [vqM,vt66,zB,hklt,decide_false]
   refine callI_spec (t_Order p (scanD_nodup hI) H.ca (by omega) _) ?_
   simp only [vqM,vt66,zA,intCells_len,dfCells_len]
   refine ifI_intro (fun h1=>?_) (fun h1=>?_)
   ·simp only [vqM,zB]
    refine ret_loc (.inr rfl) ?_ (.int _ _) (fun _ h=>h) (Nat.le_refl _)
    simp only [vqM]
    rw [hP3,if_pos (by simp at h1;omega)]
   ·simp only [vqM,zB]
    refine ret_loc (.inr rfl) ?_ (.int _ _) (fun _ h=>h) (Nat.le_refl _)
    simp only [vqM]
    rw [hP3,if_neg (by simp at h1;omega)]
theorem intAt {l:List Int} {k:Nat} (h:k<l.length):(intCells l)[k]? = some [.int .i64 l[k]]:=by simp [intCells,h]
def diffB (l:List Int):Bool:=decide l.Nodup
mutual
def Sm.cnt:Sm→Nat
 | .mk _ _ _ _ _ _ _ _ _ _ body els=>1+(cntL body+cntL els)
def cntL:List Sm→Nat
 | []=>0
 | x::l=>x.cnt+cntL l
end
theorem Sm.cnt_eq (x:Sm):x.cnt=1+(cntL x.body+cntL x.els):=by cases x;simp only [Sm.cnt,Sm.body,Sm.els]
mutual
theorem flat_len:(x:Sm)→∀ d,(x.flat d).length=x.cnt
 | .mk site op n m v x y c args ptrs body els=>fun d=>by
  rw [Sm.flat_eq,Sm.cnt_eq]
  simp only [List.length_cons,List.length_append,Sm.body,Sm.els,flatL_len body,flatL_len els]
  omega
theorem flatL_len:(l:List Sm)→∀ d,(flatL d l).length=cntL l
 | []=>fun d=>by simp [flatL,cntL]
 | x::l=>fun d=>by rw [flatL,List.length_append,flat_len x d,flatL_len l d,cntL]
end
def headOf (d:Df):Hd:=⟨d.id,d.firm,d.part,d.params,d.given⟩
def zeroDc:Dc:=⟨[],[],[],[],0,0,0⟩
theorem ex2:declB zeroDc=false:=by decide +kernel
theorem i6:(if false=true then (0:Int) else 60)=60:=rfl
theorem i0:(if true=true then (0:Int) else 60)=0:=rfl
structure SitesOk (p:Pg):Prop where
 nd:∀ d ∈ p.defs,(sitesS d).Nodup
 sz:∀ d ∈ p.defs,cntL d.body<999999
 ln:p.defs.length≤1000000
mutual
def Sm.sts:Sm→List Int
 | .mk site _ _ _ _ _ _ _ _ _ body els=>site::(stsL body++stsL els)
def stsL:List Sm→List Int
 | []=>[]
 | x::l=>x.sts++stsL l
end
theorem Sm.sts_eq (x:Sm):x.sts=x.site::(stsL x.body++stsL x.els):=by cases x;simp only [Sm.sts,Sm.site,Sm.body,Sm.els]
mutual
theorem flat_sts:(x:Sm)→∀ d,sitesL (x.flat d)=x.sts
 | .mk site op n m v x y c args ptrs body els=>fun d=>by
  rw [Sm.flat_eq,Sm.sts_eq]
  have h1:=flatL_sts body (w64 (d+1))
  have h2:=flatL_sts els (w64 (d+1))
  simp only [sitesL,Sm.body,Sm.els,Sm.site] at *
  simp only [List.map_cons,List.map_append,h1,h2]
theorem flatL_sts:(l:List Sm)→∀ d,sitesL (flatL d l)=stsL l
 | []=>fun d=>by simp [flatL,stsL,sitesL]
 | x::l=>fun d=>by
  have h1:=flat_sts x d
  have h2:=flatL_sts l d
  simp only [sitesL] at *
  rw [flatL,List.map_append,h1,h2,stsL]
end
theorem stsL_app:∀ l m:List Sm,stsL (l++m)=stsL l++stsL m
 | [],m=>by simp [stsL]
 | x::l,m=>by rw [List.cons_append,stsL,stsL,stsL_app l m,List.append_assoc]
structure Inc (lo hi:Int) (l:List Int):Prop where
 lt:l.Pairwise (· < ·)
 rg:∀ x ∈ l,lo<x∧x≤hi
theorem Inc.nil {lo hi:Int}:Inc lo hi []:=⟨.nil,fun x h=>by simp at h⟩
theorem Inc.one {lo hi x:Int} (h:lo<x∧x≤hi):Inc lo hi [x]:=⟨by simp,fun y hy=>by simp at hy;subst hy;exact h⟩
theorem Inc.app {a b c:Int} {l m:List Int} (h:Inc a b l) (k:Inc b c m) (hab:a≤b) (hbc:b≤c):Inc a c (l++m):=by
 refine ⟨List.pairwise_append.2 ⟨h.lt,k.lt,fun x hx y hy=>?_⟩,fun x hx=>?_⟩
 ·have:=h.rg x hx;have:=k.rg y hy;omega
 ·rcases List.mem_append.1 hx with hx | hx
  ·have:=h.rg x hx;omega
  ·have:=k.rg x hx;omega
theorem Inc.cons {a c x:Int} {m:List Int} (h:a<x) (k:Inc x c m) (hc:x≤c):Inc a c (x::m):=by
 have:=(Inc.one ⟨h,Int.le_refl x⟩).app k (by omega) hc
 simpa using this
theorem Inc.wide {a b c d:Int} {l:List Int} (h:Inc b c l) (h1:a≤b) (h2:c≤d):Inc a d l:=⟨h.lt,fun x hx=>by have:=h.rg x hx;omega⟩
theorem stm_sts (s op n m v:Int) (x y:Ex) (c:Co):(stm s op n m v x y c).sts=[s]:=by simp [stm,Sm.sts,stsL]
theorem sts_one {s op n m v:Int} {x y:Ex} {c:Co}:stsL [stm s op n m v x y c]=[s]:=by simp [stsL,stm_sts]
theorem call_sts (f:Fd) (a:Mk):(call f a).1.sts=[a.site+1]:=by
 unfold call
 simp only
 split
 ·simp [stm_sts]
 ·simp [Sm.sts,stsL]
theorem risky_sts (f:Fd) (a:Mk):(risky f a).1.sts=[a.site+1]:=by
 have key:∀ (c:Prop) [Decidable c] (x y:Sm × Mk),x.1.sts=[a.site+1]→y.1.sts=[a.site+1]→(if c then x else y).1.sts=[a.site+1]:=by
  intro c _ x y h1 h2;split <;> assumption
 unfold risky
 simp only
 repeat (refine key _ _ _ (stm_sts _ _ _ _ _ _ _ _) ?_)
 exact stm_sts _ _ _ _ _ _ _ _
theorem simple_inc (f:Fd) (a:Mk):Inc a.site (simple f a).2.site (stsL (simple f a).1):=by
 obtain ⟨p,s,e,h1,h2,h3,h4⟩:=simple_frame f a
 obtain ⟨p1,e1,e2,e3⟩:=expr_frame f 1 { a with site:=a.site+1+1,pos:=a.pos+1 }
 have hs:(simple f a).2.site=s:=by rw [e]
 have key:∀ (c:Prop) [Decidable c] (x y:List Sm × Mk),Inc a.site x.2.site (stsL x.1)→(¬ c→Inc a.site y.2.site (stsL y.1))→Inc a.site (if c then x else y).2.site (stsL (if c then x else y).1):=by
  intro c _ x y h1 h2;split
  ·assumption
  ·rename_i h;exact h2 h
 have k1:∀ (x:Sm) (m:Mk),x.sts=[a.site+1]→a.site<m.site→Inc a.site m.site (stsL [x]):=fun x m h1 h2=>by
  simp only [stsL,h1,List.append_nil];exact .one ⟨by omega,by omega⟩
 have ex2:=expr_frame f 2 { a with site:=a.site+1,pos:=a.pos+1+1 }
 obtain ⟨p2,f1,f2,f3⟩:=ex2
 unfold simple
 simp only
 refine key _ _ _ (k1 _ _ (stm_sts ..) (by simp only;omega)) fun _=>?_
 refine key _ _ _ (k1 _ _ (stm_sts ..) (by simp only [f1];omega)) fun _=>?_
 refine key _ _ _ (k1 _ _ (stm_sts ..) (by simp only;omega)) fun _=>?_
 refine key _ _ _ (k1 _ _ (stm_sts ..) (by simp only;omega)) fun _=>?_
 refine key _ _ _ ?_ fun _=>?_
 ·simp only [stsL,stm_sts,List.cons_append,List.nil_append,List.append_nil]
  exact ⟨by simp;omega,fun x hx=>by simp at hx;omega⟩
 refine key _ _ _ ?_ fun _=>k1 _ _ (stm_sts ..) (by simp only [f1];omega)
 simp only [stsL,stm_sts,List.cons_append,List.nil_append,List.append_nil,e1]
 exact ⟨by simp;omega,fun x hx=>by simp at hx;omega⟩
theorem other_inc (f:Fd) (hA:FxH f) (k d:Int) (a:Mk):Inc a.site (other f k d a).2.site (stsL (other f k d a).1):=by
 have hs:=(other_frame f hA k d a).s1
 unfold other at hs ⊢
 split
 ·rename_i h;rw [if_pos h] at hs
  simp only [stsL,call_sts,List.append_nil]
  exact .one ⟨by omega,Int.add_one_le_iff.2 hs⟩
 rename_i h;rw [if_neg h] at hs
 split
 ·simp only [sts_one];exact .one ⟨by omega,Int.le_refl _⟩
 rename_i h;rw [if_neg h] at hs
 split
 ·rename_i h;rw [if_pos h] at hs
  simp only [sts_one];exact .one ⟨by omega,Int.add_one_le_iff.2 hs⟩
 rename_i h;rw [if_neg h] at hs
 split
 ·rename_i h;rw [if_pos h] at hs
  exact simple_inc f a
 ·rename_i h;rw [if_neg h] at hs
  simp only [stsL,risky_sts,List.append_nil]
  exact .one ⟨by omega,Int.add_one_le_iff.2 hs⟩
theorem it_inc {ns:Int→Mk→Option (Sm × Mk)} {f:Fd} (hA:FxH f) (hn:∀ k m r,ns k m=some r→NGr m r.2) (hi:∀ k m r,ns k m=some r→Inc m.site r.2.site r.1.sts) (d:Int) (a:Mk):∀ k,Inc a.site (itK ns f d a k).2.site (stsL (itK ns f d a k).1):=by
 intro k
 induction k with
 | zero=>exact .nil
 | succ k ih =>
  have hg:=(gr_it hA hn d a k).s1
  simp only [itK]
  split
  ·rename_i hl
   have hs:=(gr_step hA hn d _ hl).s1
   generalize itK ns f d a k=q at ih hg hl hs ⊢
   unfold stStep at hs ⊢
   cases hr:ns (rnd f.bytes q.2.pos 16) { q.2 with left:=q.2.left - 1,pos:=q.2.pos+1 } with
   | some r =>
    rw [hr] at hs
    have:=hi _ _ _ hr
    simp only [stsL_app,stsL,List.append_nil]
    exact ih.app this hg hs
   | none =>
    rw [hr] at hs
    have:=other_inc f hA (rnd f.bytes q.2.pos 16) d { q.2 with left:=q.2.left - 1,pos:=q.2.pos+1 }
    simp only [stsL_app]
    exact ih.app this hg hs
  ·exact ih
theorem nest_inc {f:Fd} (hA:FxH f):∀ (d:Nat) (k:Int) (a:Mk) (r:Sm × Mk),nestS f d k a=some r→Inc a.site r.2.site r.1.sts:=by
 intro d
 induction d with
 | zero=>intro k a r h;cases h
 | succ d ih =>
  intro k a r h
  have hit:=fun a n=>it_inc hA (ngr_nest hA d) ih d a n
  have hgr:=fun a n=>(gr_it hA (ngr_nest hA d) d a n).s1
  obtain ⟨p,e1,e2,e3⟩:=cond_frame f 1 { a with site:=a.site+1 }
  simp only [nestS] at h
  split at h
  ·cases h
  split at h
  ·cases h
   simp only [whileS,e1]
   have h1:=hit { a with site:=a.site+1,pos:=p+1+1,loop:=a.loop+1 } (1+rnd f.bytes (p+1) 2).toNat
   have g1:=hgr { a with site:=a.site+1,pos:=p+1+1,loop:=a.loop+1 } (1+rnd f.bytes (p+1) 2).toNat
   generalize itK (nestS f d) f d { a with site:=a.site+1,pos:=p+1+1,loop:=a.loop+1 } (1+rnd f.bytes (p+1) 2).toNat=b at h1 g1 ⊢
   simp only [Sm.sts,stsL,List.append_nil]
   exact .cons (by omega) h1 g1
  split at h
  ·cases h
   simp only [tryS]
   have h1:=hit { a with site:=a.site+1,pos:=a.pos+1+1 } (1+rnd f.bytes (a.pos+1) 2).toNat
   have g1:=hgr { a with site:=a.site+1,pos:=a.pos+1+1 } (1+rnd f.bytes (a.pos+1) 2).toNat
   generalize itK (nestS f d) f d { a with site:=a.site+1,pos:=a.pos+1+1 } (1+rnd f.bytes (a.pos+1) 2).toNat=b at h1 g1 ⊢
   have h2:=hit { b.2 with pos:=b.2.pos+1 } (rnd f.bytes b.2.pos 2).toNat
   have g2:=hgr { b.2 with pos:=b.2.pos+1 } (rnd f.bytes b.2.pos 2).toNat
   generalize itK (nestS f d) f d { b.2 with pos:=b.2.pos+1 } (rnd f.bytes b.2.pos 2).toNat=e at h2 g2 ⊢
   simp only [Sm.sts]
   exact .cons (by omega) (h1.app h2 g1 g2) (Int.le_trans g1 g2)
  ·cases h
   simp only [ifS,e1]
   have h1:=hit { a with site:=a.site+1,pos:=p+1 } (1+rnd f.bytes p 2).toNat
   have g1:=hgr { a with site:=a.site+1,pos:=p+1 } (1+rnd f.bytes p 2).toNat
   generalize itK (nestS f d) f d { a with site:=a.site+1,pos:=p+1 } (1+rnd f.bytes p 2).toNat=b at h1 g1 ⊢
   have h2:=hit { b.2 with pos:=b.2.pos+1 } (rnd f.bytes b.2.pos 2).toNat
   have g2:=hgr { b.2 with pos:=b.2.pos+1 } (rnd f.bytes b.2.pos 2).toNat
   generalize itK (nestS f d) f d { b.2 with pos:=b.2.pos+1 } (rnd f.bytes b.2.pos 2).toNat=e at h2 g2 ⊢
   simp only [Sm.sts]
   exact .cons (by omega) (h1.app h2 g1 g2) (Int.le_trans g1 g2)
theorem Inc.len {lo hi:Int}:∀ {l:List Int},Inc lo hi l→lo≤hi→(l.length:Int)≤hi - lo:=by
 intro l
 induction l generalizing lo with
 | nil=>intro _ h;simp;omega
 | cons x l ih =>
  intro h hlh
  have hx:=h.rg x (by simp)
  have h2:Inc x hi l:=⟨(List.pairwise_cons.1 h.lt).2,fun y hy=>⟨(List.pairwise_cons.1 h.lt).1 y hy,(h.rg y (by simp [hy])).2⟩⟩
  have:=ih h2 hx.2
  simp;omega
theorem Inc.nodup {lo hi:Int} {l:List Int} (h:Inc lo hi l):l.Nodup:=h.lt.imp fun h=>by omega
structure Pre (f:Fd):Prop where
 ok:FxOk f
 hd:∀ h ∈ f.heads,h.params.length≤10∧h.given.length≤10
 hds:f.heads.length≤900
theorem defA {f:Fd} (H:Pre f) (p:Int) (id:Int) (th:Bool):FxH { f with d:=(defD f.bytes p id th).1 }:=by
 have hb:=H.ok
 have hhl:=H.hds
 have hr3:=@rnd_nonneg _ (p+1+1+1+1) 3 hb
 have hr3':=@rnd_lt f.bytes (p+1+1+1+1) 3 (by omega)
 have hn:parN f.bytes p th≤2:=by unfold parN;split <;> omega
 obtain ⟨hP1,hP2⟩:=parK_len f.bytes (p+1+1+1+1+1) (parN f.bytes p th)
 have hr2a:=@rnd_nonneg _ ((parK f.bytes (p+1+1+1+1+1) (parN f.bytes p th)).2+1) 2 hb
 have hr2b:=@rnd_lt f.bytes ((parK f.bytes (p+1+1+1+1+1) (parN f.bytes p th)).2+1) 2 (by omega)
 exact {
  ok:=hb
  par:=by show (parK f.bytes (p+1+1+1+1+1) (parN f.bytes p th)).1.length≤100;omega
  vars:=by
   show ((parK f.bytes (p+1+1+1+1+1) (parN f.bytes p th)).1.length:Int)<(parK f.bytes (p+1+1+1+1+1) (parN f.bytes p th)).1.length+2+rnd f.bytes ((parK f.bytes (p+1+1+1+1+1) (parN f.bytes p th)).2+1) 2∧_
   constructor
   ·omega
   ·show ((parK f.bytes (p+1+1+1+1+1) (parN f.bytes p th)).1.length:Int)+2+rnd f.bytes ((parK f.bytes (p+1+1+1+1+1) (parN f.bytes p th)).2+1) 2≤1000
    omega
  arr:=by
   simp only [defD,arrs]
   split
   ·split <;> simp
   ·simp
  hd:=H.hd
  hds:=by show f.heads.length≤1000;omega }
theorem sitesS_eq (d:Df):sitesS d=stsL d.body++[d.site]:=by rw [sitesS,flatL_sts]
theorem defS_inc {f:Fd} (H:Pre f) (a:Mk) (id:Int) (th:Bool):Inc a.site (defS f a id th).2.site (sitesS (defS f a id th).1):=by
 have hA:=defA H a.pos id th
 have h1:=it_inc hA (ngr_nest hA 2) (nest_inc hA 2) ((2:Nat):Int) ({ pos:=(defD f.bytes a.pos id th).2+1,site:=a.site,left:=9,loop:=a.loop,done:=0 }:Mk) (1+rnd f.bytes (defD f.bytes a.pos id th).2 5).toNat
 have g1:=(gr_it hA (ngr_nest hA 2) ((2:Nat):Int) ({ pos:=(defD f.bytes a.pos id th).2+1,site:=a.site,left:=9,loop:=a.loop,done:=0 }:Mk) (1+rnd f.bytes (defD f.bytes a.pos id th).2 5).toNat).s1
 rw [sitesS_eq]
 simp only [defS,stmts]
 exact h1.app (.one ⟨by omega,Int.le_refl _⟩) g1 (by omega)
theorem defsK_pre {b:List Int} (hb:∀ x ∈ b,0≤x∧x<256) (n:Int) (k:Nat) (hk:k≤100):Pre (defsK b n k).1:=by
 obtain ⟨h1,h2,h3,h4,h5,h6,h6b,h7,h8,h9,h10,h11⟩:=defsK_inv hb n k hk
 exact ⟨by unfold FxOk;rw [h1];exact hb,h6,by omega⟩
theorem defsK_inc {b:List Int} (hb:∀ x ∈ b,0≤x∧x<256) (n:Int):∀ k:Nat,k≤100→Inc 100 (defsK b n k).2.site ((defsK b n k).1.defs.flatMap sitesS):=by
 intro k
 induction k with
 | zero=>intro _;exact .nil
 | succ k ih =>
  intro hk
  have h0:=ih (by omega)
  have hp:=defsK_pre hb n k (by omega)
  obtain ⟨_,_,_,_,_,_,_,_,_,h9,_,_⟩:=defsK_inv hb n k (by omega)
  obtain ⟨_,_,_,_,_,_,_,_,_,h9',_,_⟩:=defsK_inv hb n (k+1) hk
  simp only [defsK] at h9' ⊢
  obtain ⟨m,hm⟩:∃ m:Mk,m=if (k:Int)=n - 1 then (defsK b n k).2 else { (defsK b n k).2 with pos:=(defsK b n k).2.pos+1 }:=⟨_,rfl⟩
  have hms:m.site=(defsK b n k).2.site:=by rw [hm];split <;> rfl
  rw [← hm] at h9' ⊢
  have hi:=defS_inc hp m (11+k) (isTh b n (defsK b n k).2.pos k)
  have hf:=(defS_frame (defsK b n k).1 hp.ok hp.hd hp.hds m (11+k) (isTh b n (defsK b n k).2.pos k)).2.2.1
  simp only [addDef,List.flatMap_append,List.flatMap_cons,List.flatMap_nil,List.append_nil]
  rw [hms] at hi hf
  exact h0.app hi h9 (by omega)
theorem w64_in {n:Int} (h:-9223372036854775808≤n∧n≤9223372036854775807):w64 n=n:=wrap_in (by omega)
structure Fit (f:Fd) (k:Ck):Prop where
 par:k.d.params.length=f.d.params.length
 vars:k.d.vars=f.d.vars
 arr:k.d.arrays.length=f.d.arrays.length
 refs:k.d.refs=2
 dc:k.x=declared
 v12:f.d.vars≤12
 hd:∀ h ∈ f.heads,1≤h.id∧h.id≤1073741824∧h.params.length≤12∧h.given.length≤4
theorem leaf_ok {depth:Int} (h:depth≤10):leafB [] depth=true:=by simp [leafB,h]
theorem num_ok (k:Ck) {v depth:Int} (h1:depth≤10) (hv:-2147483648≤v∧v≤2147483647):exprS k (num v) depth=(1,true):=by
 simp [num,exprS,leaf_ok h1,inB,hv.1,hv.2]
theorem inB_ok {n lo hi:Int} (h:lo≤n∧n≤hi):inB n lo hi=true:=by simp [inB,h.1,h.2]
def ncost:Nat→Int
 | 0=>1
 | d+1=>1+2 * ncost d
theorem ncost_le {d:Nat} (h:d≤10):1≤ncost d∧ncost d≤2047:=(by decide:∀ d<11,1≤ncost d∧ncost d≤2047) d (by omega)
theorem expr_ok {f:Fd} {k:Ck} (hA:FxA f) (hk:Fit f k):∀ (d:Nat) (m:Mk) (depth:Int),1≤depth→depth+d≤10→∃ n,exprS k (expr f d m).1 depth=(n,true)∧1≤n∧n≤ncost d:=by
 have hb:=hA.ok
 have hr:=fun p n=>@rnd_nonneg _ p n hb
 have hl:=fun p n (h:0<n)=>@rnd_lt f.bytes p n h
 intro d
 induction d with
 | zero =>
  intro m depth h1 h2
  have:=hr (m.pos+1) 14
  have:=hl (m.pos+1) 14 (by omega)
  exact ⟨1,num_ok k (by omega) (by omega),by omega,by decide⟩
 | succ d ih =>
  intro m depth h1 h2
  have hn:=ncost_le (d:=d) (by omega)
  have hnc:ncost (d+1)=1+2 * ncost d:=rfl
  have hv:=hA.vars
  unfold expr
  split
  ·have:=hr (m.pos+1) 14
   have:=hl (m.pos+1) 14 (by omega)
   exact ⟨1,num_ok k (by omega) (by omega),by omega,by omega⟩
  split
  ·have q1:=hr (m.pos+1) f.d.vars
   have q2:=hl (m.pos+1) f.d.vars (by omega)
   refine ⟨1,?_,by omega,by omega⟩
   have hw:w64 (k.d.vars - 1)=f.d.vars - 1:=by rw [hk.vars];exact w64_in (by have:=hk.v12;omega)
   simp only [var,exprS,hw]
   simp [leaf_ok (show depth≤10 by omega),inB_ok (show 0≤rnd f.bytes (m.pos+1) f.d.vars∧rnd f.bytes (m.pos+1) f.d.vars≤f.d.vars - 1 by omega)]
  split
  ·rename_i hx
   have q1:=hr (m.pos+1) f.d.arrays.length
   have q2:=hl (m.pos+1) f.d.arrays.length (by omega)
   refine ⟨1,?_,by omega,by omega⟩
   have hw:w64 ((k.d.arrays.length:Int) - 1)=f.d.arrays.length - 1:=by rw [hk.arr];exact w64_in (by have:=hA.arr;omega)
   simp only [exprS,hw]
   simp [leaf_ok (show depth≤10 by omega),inB_ok (show 0≤rnd f.bytes (m.pos+1) f.d.arrays.length∧rnd f.bytes (m.pos+1) f.d.arrays.length≤(f.d.arrays.length:Int) - 1 by omega)]
  ·have q1:=hr (m.pos+1) 7
   have q2:=hl (m.pos+1) 7 (by omega)
   obtain ⟨n1,e1,l1,u1⟩:=ih { m with pos:=m.pos+1+1 } (depth+1) (by omega) (by omega)
   obtain ⟨n2,e2,l2,u2⟩:=ih (expr f d { m with pos:=m.pos+1+1 }).2 (depth+1) (by omega) (by omega)
   have hd1:w64 (depth+1)=depth+1:=w64_in (by omega)
   have w1:w64 (1+n1)=1+n1:=w64_in (by omega)
   have w2:w64 (1+n1+n2)=1+n1+n2:=w64_in (by omega)
   refine ⟨1+n1+n2,?_,by omega,by omega⟩
   have hin:=inB_ok (show 4≤4+rnd f.bytes (m.pos+1) 7∧4+rnd f.bytes (m.pos+1) 7≤10 by omega)
   simp only [bin,exprS,List.length_cons,List.length_nil,hin,hd1]
   rw [if_neg (by omega),if_neg (by omega),if_neg (by omega),if_neg (by simp;omega)]
   simp only [exprsS,e1,e2,cond_true,w1,w2]
theorem value_ok {f:Fd} {k:Ck} (hA:FxA f) (hk:Fit f k) {d:Nat} (hd:d≤4) (m:Mk):valueB k (expr f d m).1=true:=by
 obtain ⟨n,e,l,u⟩:=expr_ok hA hk d m 1 (by omega) (by omega)
 have:ncost d≤60:=(by decide:∀ d<5,ncost d≤60) d (by omega)
 rw [valueB,e]
 simp;omega
theorem numv_ok (k:Ck) {v:Int} (hv:-2147483648≤v∧v≤2147483647):valueB k (num v)=true:=by
 rw [valueB,num_ok k (by omega) hv];simp
def ccostN:Nat→Int
 | 0=>7
 | d+1=>1+2 * ccostN d
theorem ccostN_le {d:Nat} (h:d≤6):7≤ccostN d∧ccostN d≤2047:=(by decide:∀ d<7,7≤ccostN d∧ccostN d≤2047) d (by omega)
theorem want_cmp {op:Int} (h:op=2∨op=3∨op=4):wantOf op=some (2,0):=by
 rcases h with rfl | rfl | rfl <;> rfl
theorem condT_ok {f:Fd} {k:Ck} (hA:FxA f) (hk:Fit f k) (m:Mk) (depth:Int) (h1:1≤depth) (h2:depth≤6):∃ n,condS k (condT f m).1 depth=(n,true)∧1≤n∧n≤7:=by
 have hb:=hA.ok
 have q1:=@rnd_nonneg _ m.pos 8 hb
 have q2:=@rnd_lt f.bytes m.pos 8 (by omega)
 have hop:2+(rnd f.bytes m.pos 8).tmod 3=2∨2+(rnd f.bytes m.pos 8).tmod 3=3∨2+(rnd f.bytes m.pos 8).tmod 3=4:=by
  rw [Int.tmod_eq_emod_of_nonneg q1];omega
 obtain ⟨n1,e1,l1,u1⟩:=expr_ok hA hk 1 { m with pos:=m.pos+1 } (depth+1) (by omega) (by omega)
 obtain ⟨n2,e2,l2,u2⟩:=expr_ok hA hk 1 (expr f 1 { m with pos:=m.pos+1 }).2 (depth+1) (by omega) (by omega)
 have hn:ncost 1=3:=rfl
 have hd1:w64 (depth+1)=depth+1:=w64_in (by omega)
 have w1:w64 (1+n1)=1+n1:=w64_in (by omega)
 have w2:w64 (1+n1+n2)=1+n1+n2:=w64_in (by omega)
 refine ⟨1+n1+n2,?_,by omega,by omega⟩
 simp only [condT,test,condS,want_cmp hop,List.length_cons,List.length_nil,hd1,exprsS,e1,e2,cond_true,w1,w2,condsS]
 have:decide (10<depth)=false:=decide_eq_false (by omega)
 rw [this];rfl
theorem cond_ok {f:Fd} {k:Ck} (hA:FxA f) (hk:Fit f k):∀ (d:Nat) (m:Mk) (depth:Int),1≤depth→depth+d≤6→∃ n,condS k (cond f d m).1 depth=(n,true)∧1≤n∧n≤ccostN d:=by
 intro d
 induction d with
 | zero=>intro m depth h1 h2;exact condT_ok hA hk m depth h1 (by omega)
 | succ d ih =>
  intro m depth h1 h2
  have hc:=ccostN_le (d:=d) (by omega)
  have hcs:ccostN (d+1)=1+2 * ccostN d:=rfl
  have hd1:w64 (depth+1)=depth+1:=w64_in (by omega)
  have hdp:decide (10<depth)=false:=decide_eq_false (by omega)
  unfold cond
  split
  ·obtain ⟨n,e,l,u⟩:=condT_ok hA hk m depth h1 (by omega)
   exact ⟨n,e,l,by omega⟩
  split
  ·obtain ⟨n,e,l,u⟩:=ih { m with pos:=m.pos+1 } (depth+1) (by omega) (by omega)
   have w1:w64 (1+n)=1+n:=w64_in (by omega)
   refine ⟨1+n,?_,by omega,by omega⟩
   have hw:wantOf 5=some (0,1):=rfl
   simp only [cnot,condS,hw,List.length_cons,List.length_nil,hd1,exprsS,e,cond_true,w1,condsS,hdp]
   rfl
  ·have q1:=@rnd_nonneg _ (cond f d { m with pos:=m.pos+1 }).2.pos 2 hA.ok
   have q2:=@rnd_lt f.bytes (cond f d { m with pos:=m.pos+1 }).2.pos 2 (by omega)
   obtain ⟨n1,e1,l1,u1⟩:=ih { m with pos:=m.pos+1 } (depth+1) (by omega) (by omega)
   obtain ⟨n2,e2,l2,u2⟩:=ih { (cond f d { m with pos:=m.pos+1 }).2 with pos:=(cond f d { m with pos:=m.pos+1 }).2.pos+1 } (depth+1) (by omega) (by omega)
   have w1:w64 (1+n1)=1+n1:=w64_in (by omega)
   have w2:w64 (1+n1+n2)=1+n1+n2:=w64_in (by omega)
   refine ⟨1+n1+n2,?_,by omega,by omega⟩
   have hw:wantOf (6+rnd f.bytes (cond f d { m with pos:=m.pos+1 }).2.pos 2)=some (0,2):=by
    have:rnd f.bytes (cond f d { m with pos:=m.pos+1 }).2.pos 2=0∨rnd f.bytes (cond f d { m with pos:=m.pos+1 }).2.pos 2=1:=by omega
    rcases this with h | h <;> rw [h] <;> rfl
   simp only [condS,hw,List.length_cons,List.length_nil,hd1,exprsS,e1,e2,cond_true,w1,w2,condsS,hdp]
   rfl
theorem test_ok {f:Fd} {k:Ck} (hA:FxA f) (hk:Fit f k) (m:Mk):testB k (cond f 1 m).1=true:=by
 obtain ⟨n,e,l,u⟩:=cond_ok hA hk 1 m 1 (by omega) (by omega)
 have:ccostN 1=15:=rfl
 rw [testB,e]
 simp;omega
theorem targ_ok {f:Fd} {k:Ck} (hA:FxA f) (hk:Fit f k) (m:Mk):inB (targ f m) k.d.params.length (w64 (k.d.vars - 1))=true:=by
 have h1:=hA.vars
 have q1:=@rnd_nonneg _ m.pos (f.d.vars - f.d.params.length) hA.ok
 have q2:=@rnd_lt f.bytes m.pos (f.d.vars - f.d.params.length) (by omega)
 have hw:w64 (k.d.vars - 1)=f.d.vars - 1:=by rw [hk.vars];exact w64_in (by have:=hk.v12;omega)
 rw [hw,hk.par]
 exact inB_ok (by unfold targ;omega)
theorem w640:w64 0=0:=w64_in (by omega)
theorem n0_ok (k:Ck):numberB k 0 0=true:=by simp [numberB]
theorem x_no (k:Ck):exprFB k false ex0=true:=by simp [exprFB,ex0,Ex.op,Ex.n,Ex.v,Ex.a]
theorem x_yes {k:Ck} {x:Ex} (h:valueB k x=true):exprFB k true x=true:=by simp [exprFB,h]
theorem c_no (k:Ck) {f:Fl} (h:f.c=false):condFB k f co0=true:=by simp [condFB,h,co0,Co.op,Co.a,Co.c,w640]
theorem c_yes {k:Ck} {f:Fl} {c:Co} (h:f.c=true) (hc:testB k c=true):condFB k f c=true:=by simp [condFB,h,hc]
theorem num1_ok {k:Ck} {n:Int} (h:inB n k.d.params.length (w64 (k.d.vars - 1))=true):numberB k 1 n=true:=by simp [numberB,h]
theorem num3_ok {f:Fd} {k:Ck} (hk:Fit f k) {n:Int} (h:0≤n∧n<2):numberB k 3 n=true:=by
 have:w64 (k.d.refs - 1)=1:=by rw [hk.refs];exact w64_in (by omega)
 simp only [numberB];simp [this];exact inB_ok (by omega)
theorem num4_ok {f:Fd} {k:Ck} (hA:FxA f) (hk:Fit f k) {n:Int} (h:0≤n∧n<f.d.arrays.length):numberB k 4 n=true:=by
 have:w64 ((k.d.arrays.length:Int) - 1)=f.d.arrays.length - 1:=by rw [hk.arr];exact w64_in (by have:=hA.arr;omega)
 simp only [numberB];simp [this];exact inB_ok (by omega)
theorem num_dc {f:Fd} {k:Ck} (hk:Fit f k) {w n:Int} (h:(w=5∧0≤n∧n<2)∨(w=6∧0≤n∧n<2)∨(w=7∧n=0)∨(w=8∧0≤n∧n<3)∨(w=9∧0≤n∧n<3)∨(w=10∧0≤n∧n<3)):numberB k w n=true:=by
 have h2:w64 (((2:Nat):Int) - 1)=1:=w64_in (by omega)
 have h1:w64 (((1:Nat):Int) - 1)=0:=w64_in (by omega)
 have h3:w64 (((3:Nat):Int) - 1)=2:=w64_in (by omega)
 have h3':w64 ((3:Int) - 1)=2:=w64_in (by omega)
 rcases h with ⟨rfl,h⟩ | ⟨rfl,h⟩ | ⟨rfl,h⟩ | ⟨rfl,h⟩ | ⟨rfl,h⟩ | ⟨rfl,h⟩
 ·show inB n 0 (w64 (k.x.globals.length - 1))=true
  rw [hk.dc];exact (inB_ok (show 0≤n∧n≤1 by omega))
 ·show inB n 0 (w64 (k.x.classes.length - 1))=true
  rw [hk.dc];exact (inB_ok (show 0≤n∧n≤1 by omega))
 ·show inB n 0 (w64 (k.x.queues.length - 1))=true
  rw [hk.dc];exact (inB_ok (show 0≤n∧n≤0 by omega))
 ·show inB n 0 (w64 (k.x.sinks.length - 1))=true
  rw [hk.dc];exact (inB_ok (show 0≤n∧n≤2 by omega))
 ·show inB n 0 (w64 (k.x.locks - 1))=true
  rw [hk.dc];exact (inB_ok (show 0≤n∧n≤2 by omega))
 ·show inB n 0 (w64 (k.x.parts - 1))=true
  rw [hk.dc];exact (inB_ok (show 0≤n∧n≤2 by omega))
theorem stmt_ok {k:Ck} {x:Sm} (g:Fl) (hf:tableF x.op=g) (hz:nofl g=false) (hs:inB x.site 1 1073741824=true) (hn:numberB k g.n x.n=true) (hm:numberB k g.m x.m=true) (hv:numberB k g.v x.v=true)
  (hx:exprFB k g.x x.x=true) (hy:exprFB k g.y x.y=true) (hc:condFB k g x.c=true) (hcl:callFB k g x=true) (hb:g.body=true∨x.body=[]) (he:g.rest=true∨x.els=[]):stmtB k x=true:=by
 have h1:(g.body || decide ((x.body.length:Int)=0))=true:=by rcases hb with h | h <;> simp [h]
 have h2:(g.rest || decide ((x.els.length:Int)=0))=true:=by rcases he with h | h <;> simp [h]
 simp only [stmtB,hf,hz,hs,hn,hm,hv,hx,hy,hc,hcl,h1,h2]
 rfl
structure Ok1 (H:List Hd) (k:Ck) (x:Sm):Prop where
 st:stmtB k x=true
 ca:x.op=13→∃ h ∈ H,x.m=h.id∧x.args.length=h.params.length∧x.ptrs.length=h.given.length
 sm:x.c.a.length≤100∧x.c.c.length≤100∧x.args.length≤100∧x.ptrs.length≤100
theorem test_small {k:Ck} {c:Co} (h:testB k c=true):c.a.length≤100∧c.c.length≤100:=by
 simp only [testB,Bool.and_eq_true] at h
 obtain ⟨h,_⟩:=h
 obtain ⟨op,a,l⟩:=c
 rw [condS] at h
 have hw:∀ w:Int × Int,wantOf op=some w→w.1≤2∧w.2≤2:=by
  intro w hw
  simp only [wantOf] at hw
  repeat' (split at hw)
  all_goals first
   | (cases hw;decide)
   | cases hw
 cases hq:wantOf op with
 | none=>rw [hq] at h;cases h
 | some w =>
  rw [hq] at h
  obtain ⟨h1,h2⟩:=hw w hq
  simp only at h
  cases hb:((!(decide ((a.length:Int)=w.1) && decide ((l.length:Int)=w.2))) || decide ((10:Int)<1)) with
  | true=>rw [hb] at h;cases h
  | false =>
   simp only [Bool.or_eq_false_iff,Bool.not_eq_false',Bool.and_eq_true,decide_eq_true_eq] at hb
   show a.length≤100∧l.length≤100
   omega
structure Leaf (H:List Hd) (k:Ck) (x:Sm):Prop extends Ok1 H k x where
 b:x.body=[]
 e:x.els=[]
structure Leaf0 (H:List Hd) (k:Ck) (x:Sm):Prop extends Leaf H k x where
 n13:x.op≠13
theorem call0 (k:Ck) {g:Fl} {x:Sm} (hg:g.call=false) (ha:x.args=[]) (hp:x.ptrs=[]):callFB k g x=true:=by
 simp [callFB,hg,ha,hp,w640]
theorem leaf_stm {H:List Hd} {k:Ck} {s op n m v:Int} {x y:Ex} {c:Co} (g:Fl) (hf:tableF op=g) (hz:nofl g=false) (hcl:g.call=false) (h13:op≠13) (hs:0<s∧s≤1000000) (hn:numberB k g.n n=true) (hm:numberB k g.m m=true) (hv:numberB k g.v v=true)
    (hx:exprFB k g.x x=true) (hy:exprFB k g.y y=true) (hc:condFB k g c=true) (hcs:c.a.length≤100∧c.c.length≤100:=by decide):Leaf0 H k (stm s op n m v x y c) :=
  { st:=stmt_ok g hf hz (inB_ok (by simp only [stm,Sm.site];omega)) hn hm hv hx hy hc (call0 k hcl rfl rfl) (.inr rfl) (.inr rfl)
    ca:=fun h=>absurd h h13
    sm:=⟨hcs.1,hcs.2,by simp [stm,Sm.args],by simp [stm,Sm.ptrs]⟩
    b:=rfl
    e:=rfl
    n13:=h13 }
theorem simple_ok {f:Fd} {k:Ck} (hA:FxA f) (hk:Fit f k) (a:Mk) (hs:0≤a.site∧a.site≤900000):∀ x ∈ (simple f a).1,Leaf0 f.heads k x:=by
 have r0:=fun p n=>@rnd_nonneg _ p n hA.ok
 have r1:=fun p n (h:0<n)=>@rnd_lt f.bytes p n h
 have ht:=fun m=>num1_ok (targ_ok hA hk m)
 have key:∀ (c:Prop) [Decidable c] (x y:List Sm × Mk),(∀ z ∈ x.1,Leaf0 f.heads k z)→(¬ c→∀ z ∈ y.1,Leaf0 f.heads k z)→∀ z ∈ (if c then x else y).1,Leaf0 f.heads k z:=by
  intro c _ x y h1 h2;split
  ·assumption
  ·rename_i h;exact h2 h
 have k1:∀ (x:Sm) (m:Mk),Leaf0 f.heads k x→∀ z ∈ ([x],m).1,Leaf0 f.heads k z:=fun x m h z hz=>by simp at hz;subst hz;exact h
 have k3:∀ (x y w:Sm) (m:Mk),Leaf0 f.heads k x→Leaf0 f.heads k y→Leaf0 f.heads k w→∀ z ∈ ([x,y,w],m).1,Leaf0 f.heads k z:=fun x y w m h1 h2 h3 z hz=>by
  simp at hz;rcases hz with rfl | rfl | rfl <;> assumption
 have z0:=n0_ok k
 have xn:=x_no k
 unfold simple
 simp only
 refine key _ _ _ (k1 _ _ (leaf_stm _ rfl rfl rfl (by decide) (by omega) (ht _) (num4_ok hA hk ⟨Int.le_refl _,by have:=hA.arr;omega⟩) z0 (x_yes (numv_ok k (by have:=r0 (a.pos+1+1) 4;have:=r1 (a.pos+1+1) 4 (by omega);omega))) xn (c_no k rfl))) fun _=>?_
 refine key _ _ _ (k1 _ _ (leaf_stm _ rfl rfl rfl (by decide) (by omega) z0 (num4_ok hA hk ⟨Int.le_refl _,by have:=hA.arr;omega⟩) z0 (x_yes (numv_ok k (by have:=r0 (a.pos+1) 4;have:=r1 (a.pos+1) 4 (by omega);omega))) (x_yes (value_ok hA hk (by omega) _)) (c_no k rfl))) fun _=>?_
 refine key _ _ _ (k1 _ _ (leaf_stm _ rfl rfl rfl (by decide) (by omega) (ht _) (num_dc hk (.inl ⟨rfl,r0 _ _,r1 _ _ (by omega)⟩)) z0 xn xn (c_no k rfl))) fun _=>?_
 refine key _ _ _ (k1 _ _ (leaf_stm _ rfl rfl rfl (by decide) (by omega) (ht _) (num_dc hk (.inr (.inl ⟨rfl,r0 _ _,r1 _ _ (by omega)⟩))) z0 xn xn (c_no k rfl))) fun _=>?_
 refine key _ _ _ (k3 _ _ _ _ (leaf_stm _ rfl rfl rfl (by decide) (by omega) z0 (num_dc hk (.inr (.inr (.inr (.inr (.inl ⟨rfl,r0 _ _,r1 _ _ (by omega)⟩))))) ) z0 xn xn (c_no k rfl))
  (leaf_stm _ rfl rfl rfl (by decide) (by omega) z0 (num_dc hk (.inl ⟨rfl,by omega,by omega⟩)) z0 (x_yes (numv_ok k (by have:=r0 (a.pos+1+1) 9;have:=r1 (a.pos+1+1) 9 (by omega);omega))) xn (c_no k rfl))
  (leaf_stm _ rfl rfl rfl (by decide) (by omega) z0 (num_dc hk (.inr (.inr (.inr (.inr (.inl ⟨rfl,r0 _ _,r1 _ _ (by omega)⟩))))) ) z0 xn xn (c_no k rfl))) fun _=>?_
 refine key _ _ _ (k3 _ _ _ _ (leaf_stm _ rfl rfl rfl (by decide) (by omega) (num3_ok hk (by omega)) z0 z0 xn xn (c_no k rfl))
  (leaf_stm _ rfl rfl rfl (by decide) (by omega) (num3_ok hk (by omega)) z0 z0 (x_yes (value_ok hA hk (by omega) _)) xn (c_no k rfl))
  (leaf_stm _ rfl rfl rfl (by decide) (by omega) (num3_ok hk (by omega)) z0 z0 xn xn (c_no k rfl))) fun _=>?_
 exact k1 _ _ (leaf_stm _ rfl rfl rfl (by decide) (by omega) (ht _) z0 z0 (x_yes (value_ok hA hk (by omega) _)) xn (c_no k rfl))
theorem risky_ok {f:Fd} {k:Ck} (hA:FxA f) (hk:Fit f k) (a:Mk) (hs:0≤a.site∧a.site≤900000):Leaf0 f.heads k (risky f a).1:=by
 have r0:=fun p n=>@rnd_nonneg _ p n hA.ok
 have r1:=fun p n (h:0<n)=>@rnd_lt f.bytes p n h
 have ht:=fun m=>num1_ok (targ_ok hA hk m)
 have har:=hA.arr
 have key:∀ (c:Prop) [Decidable c] (x y:Sm × Mk),Leaf0 f.heads k x.1→(¬ c→Leaf0 f.heads k y.1)→Leaf0 f.heads k (if c then x else y).1:=by
  intro c _ x y h1 h2;split
  ·assumption
  ·rename_i h;exact h2 h
 have z0:=n0_ok k
 have xn:=x_no k
 have v:=fun m=>x_yes (value_ok hA hk (show 1≤4 by omega) m)
 have a4:∀ p,numberB k 4 (rnd f.bytes p f.d.arrays.length)=true:=fun p=>num4_ok hA hk ⟨r0 _ _,r1 _ _ (by omega)⟩
 have n3:∀ p,numberB k 3 (rnd f.bytes p 2)=true:=fun p=>num3_ok hk ⟨r0 _ _,r1 _ _ (by omega)⟩
 unfold risky
 simp only
 refine key _ _ _ (leaf_stm _ rfl rfl rfl (by decide) (by omega) (ht _) (a4 _) z0 (v _) xn (c_no k rfl)) fun _=>?_
 refine key _ _ _ (leaf_stm _ rfl rfl rfl (by decide) (by omega) z0 (a4 _) z0 (v _) (v _) (c_no k rfl)) fun _=>?_
 refine key _ _ _ (leaf_stm _ rfl rfl rfl (by decide) (by omega) z0 (num_dc hk (.inl ⟨rfl,r0 _ _,r1 _ _ (by omega)⟩)) z0 (v _) xn (c_no k rfl)) fun _=>?_
 refine key _ _ _ (leaf_stm _ rfl rfl rfl (by decide) (by omega) (n3 _) z0 z0 xn xn (c_no k rfl)) fun _=>?_
 refine key _ _ _ (leaf_stm _ rfl rfl rfl (by decide) (by omega) (n3 _) z0 z0 xn xn (c_no k rfl)) fun _=>?_
 refine key _ _ _ (leaf_stm _ rfl rfl rfl (by decide) (by omega) (n3 _) (n3 _) z0 xn xn (c_no k rfl)) fun _=>?_
 refine key _ _ _ (leaf_stm _ rfl rfl rfl (by decide) (by omega) (ht _) (n3 _) z0 xn xn (c_no k rfl)) fun _=>?_
 refine key _ _ _ ?_ fun _=>?_
 ·have e0:=r0 (a.pos+1) 2
  have e1:=r1 (a.pos+1) 2 (by omega)
  have:rnd f.bytes (a.pos+1) 2=0∨rnd f.bytes (a.pos+1) 2=1:=by omega
  have h9:numberB k 9 (rnd f.bytes (a.pos+1+1) 3)=true:=num_dc hk (.inr (.inr (.inr (.inr (.inl ⟨rfl,r0 _ _,r1 _ _ (by omega)⟩)))))
  simp only
  rcases this with e | e <;> rw [e] <;> exact leaf_stm _ rfl rfl rfl (by decide) (by omega) z0 h9 z0 xn xn (c_no k rfl)
 refine key _ _ _ (leaf_stm _ rfl rfl rfl (by decide) (by omega) z0 (num_dc hk (.inr (.inr (.inl ⟨rfl,rfl⟩)))) z0 (v _) xn (c_no k rfl)) fun _=>?_
 refine key _ _ _ (leaf_stm _ rfl rfl rfl (by decide) (by omega) (ht _) (num_dc hk (.inr (.inr (.inl ⟨rfl,rfl⟩)))) z0 xn xn (c_no k rfl)) fun _=>?_
 refine key _ _ _ (leaf_stm _ rfl rfl rfl (by decide) (by omega) z0 (num_dc hk (.inr (.inr (.inr (.inl ⟨rfl,r0 _ _,r1 _ _ (by omega)⟩))))) z0 (v _) xn (c_no k rfl)) fun _=>?_
 refine key _ _ _ (leaf_stm _ rfl rfl rfl (by decide) (by omega) z0 (num_dc hk (.inr (.inr (.inr (.inr (.inr ⟨rfl,r0 _ _,r1 _ _ (by omega)⟩)))))) z0 xn xn (c_no k rfl)) fun _=>?_
 refine key _ _ _ (leaf_stm _ rfl rfl rfl (by decide) (by omega) z0 z0 z0 xn xn (c_yes rfl (test_ok hA hk _)) (test_small (test_ok hA hk _))) fun _=>?_
 exact leaf_stm _ rfl rfl rfl (by decide) (by omega) (n3 _) z0 z0 (v _) xn (c_no k rfl)
theorem argsK_ok {f:Fd} {k:Ck} (hA:FxA f) (hk:Fit f k) (m:Mk):∀ n,(argsK f m n).1.length=n∧∀ x ∈ (argsK f m n).1,valueB k x=true:=by
 intro n
 induction n with
 | zero=>exact ⟨rfl,fun x h=>by simp [argsK] at h⟩
 | succ n ih =>
  refine ⟨by simp [argsK,ih.1],fun x h=>?_⟩
  simp only [argsK,List.mem_append,List.mem_singleton] at h
  rcases h with h | rfl
  ·exact ih.2 x h
  ·exact value_ok hA hk (by omega) _
theorem ptrsK_ok {f:Fd} {k:Ck} (hA:FxA f) (hk:Fit f k) (m:Mk):∀ n,(ptrsK f m n).1.length=n∧∀ x ∈ (ptrsK f m n).1,numberB k 3 x=true:=by
 intro n
 induction n with
 | zero=>exact ⟨rfl,fun x h=>by simp [ptrsK] at h⟩
 | succ n ih =>
  refine ⟨by simp [ptrsK,ih.1],fun x h=>?_⟩
  simp only [ptrsK,List.mem_append,List.mem_singleton] at h
  rcases h with h | rfl
  ·exact ih.2 x h
  ·exact num3_ok hk ⟨rnd_nonneg hA.ok,rnd_lt (by omega)⟩
theorem callS_ok {f:Fd} {k:Ck} (hA:FxA f) (hk:Fit f k) (a:Mk) (hs:0≤a.site∧a.site≤900000):Leaf f.heads k (call f a).1:=by
  have ht:=fun m=>num1_ok (targ_ok hA hk m)
  have z0:=n0_ok k
  have xn:=x_no k
  unfold call
  simp only
  split
  · exact (leaf_stm _ rfl rfl rfl (by decide) (by omega) (ht _) z0 z0 (x_yes (numv_ok k (by omega))) xn (c_no k rfl)).toLeaf
  · rename_i h
    have hm:=hdAt_mem hA.ok (fun h0=>h (.inl h0)) (a.pos+1)
    generalize hdAt f (rnd f.bytes (a.pos+1) f.heads.length)=hd at hm ⊢
    obtain ⟨i1,i2,i3,i4⟩:=hk.hd hd hm
    obtain ⟨p1,p2⟩:=argsK_ok hA hk { a with site:=a.site+1,pos:=a.pos+1+1,done:=a.done+1 } hd.params.length
    generalize hP:argsK f { a with site:=a.site+1,pos:=a.pos+1+1,done:=a.done+1 } hd.params.length=P at p1 p2
    obtain ⟨q1,q2⟩:=ptrsK_ok hA hk P.2 hd.given.length
    generalize ptrsK f P.2 hd.given.length=Q at q1 q2 ⊢
    have n2:numberB k 2 (targ f a)=true:=by
      have:=targ_ok hA hk a
      simp only [numberB];simp [this]
    have n11:numberB k 11 hd.id=true:=by
      show inB hd.id 1 1073741824=true
      exact inB_ok ⟨i1,i2⟩
    have hcall:∀ x:Sm,x.args=P.1→x.ptrs=Q.1→callFB k ⟨2,11,0,false,false,false,true,false,false⟩ x=true:=by
      intro x hx hy
      have e1:P.1.all (valueB k)=true:=List.all_eq_true.2 p2
      have e2:Q.1.all (numberB k 3)=true:=List.all_eq_true.2 q2
      have e3:decide ((P.1.length:Int)≤12)=true:=decide_eq_true (by omega)
      have e4:decide ((Q.1.length:Int)≤4)=true:=decide_eq_true (by omega)
      simp only [callFB,everyB,hx,hy,e1,e2,e3,e4];rfl
    exact { st := stmt_ok ⟨2, 11, 0, false, false, false, true, false, false⟩ rfl rfl (inB_ok (by simp only [Sm.site]; omega)) n2 n11 z0 xn xn (c_no k rfl) (hcall _ rfl rfl) (.inr rfl) (.inr rfl)
            ca:=fun _=>⟨hd,hm,rfl,p1,q1⟩
            sm:=⟨show co0.a.length≤100 by decide,show co0.c.length≤100 by decide,by simp only [Sm.args];omega,by simp only [Sm.ptrs];omega⟩
            b:=rfl
            e:=rfl }
theorem other_ok {f:Fd} {k:Ck} (hA:FxA f) (hk:Fit f k) (i d:Int) (a:Mk) (hs:0≤a.site∧a.site≤900000):∀ x ∈ (other f i d a).1,Leaf f.heads k x:=by
 have z0:=n0_ok k
 have xn:=x_no k
 unfold other
 split
 ·intro x hx;simp at hx;subst hx;exact callS_ok hA hk a hs
 split
 ·intro x hx;simp at hx;subst hx
  have e0:=@rnd_nonneg _ a.pos 3 hA.ok
  have e1:=@rnd_lt f.bytes a.pos 3 (by omega)
  have h13:numberB k 13 (1+rnd f.bytes a.pos 3)=true:=by
   show inB _ 1 31=true
   exact inB_ok (by omega)
  exact (leaf_stm _ rfl rfl rfl (by decide) (by omega) z0 z0 h13 xn xn (c_no k rfl)).toLeaf
 split
 ·intro x hx;simp at hx;subst hx
  exact (leaf_stm _ rfl rfl rfl (by decide) (by omega) z0 z0 z0 (x_yes (value_ok hA hk (by omega) _)) xn (c_no k rfl)).toLeaf
 split
 ·exact fun x hx=>(simple_ok hA hk a hs x hx).toLeaf
 ·intro x hx;simp at hx;subst hx;exact (risky_ok hA hk a hs).toLeaf
def GoodL (Q:Sm→Prop) (n:Nat) (l:List Sm):Prop:=∀ d:Int,1≤d→d+n≤9→∀ p ∈ flatL d l,Q p.s∧p.depth≤d+n
theorem GoodL.nil {Q:Sm→Prop} {n:Nat}:GoodL Q n []:=fun d _ _ p hp=>by simp [flatL] at hp
theorem flatL_app (d:Int):∀ l m:List Sm,flatL d (l++m)=flatL d l++flatL d m
 | [],m=>by simp [flatL]
 | x::l,m=>by rw [List.cons_append,flatL,flatL,flatL_app d l m,List.append_assoc]
theorem GoodL.app {Q:Sm→Prop} {n:Nat} {l m:List Sm} (h:GoodL Q n l) (k:GoodL Q n m):GoodL Q n (l++m):=fun d h1 h2 p hp=>by
 rw [flatL_app] at hp
 rcases List.mem_append.1 hp with hp | hp
 ·exact h d h1 h2 p hp
 ·exact k d h1 h2 p hp
theorem GoodL.node {Q:Sm→Prop} {n:Nat} {x:Sm} (h:Q x) (hb:GoodL Q n x.body) (he:GoodL Q n x.els):GoodL Q (n+1) [x]:=fun d h1 h2 p hp=>by
 rw [flatL,Sm.flat_eq] at hp
 have hw:w64 (d+1)=d+1:=w64_in (by omega)
 simp only [hw,flatL,List.append_nil,List.mem_cons,List.mem_append] at hp
 rcases hp with rfl | hp | hp
 ·exact ⟨h,by simp only;omega⟩
 ·have:=hb (d+1) (by omega) (by omega) p hp;exact ⟨this.1,by have:=this.2;omega⟩
 ·have:=he (d+1) (by omega) (by omega) p hp;exact ⟨this.1,by have:=this.2;omega⟩
theorem GoodL.leaf {Q:Sm→Prop} {n:Nat} {x:Sm} (h:Q x) (hb:x.body=[]) (he:x.els=[]):GoodL Q n [x]:=fun d h1 h2 p hp=>by
 rw [flatL,Sm.flat_eq,hb,he] at hp
 simp only [flatL,List.append_nil,List.mem_singleton] at hp
 subst hp
 exact ⟨h,by simp only;omega⟩
theorem GoodL.leaves {H:List Hd} {k:Ck} {n:Nat}:∀ {l:List Sm},(∀ x ∈ l,Leaf H k x)→GoodL (Ok1 H k) n l
 | [],_=>.nil
 | x::l,h=>by
  have hx:=h x (by simp)
  have h1:=GoodL.leaf (n:=n) hx.toOk1 hx.b hx.e
  have:=h1.app (GoodL.leaves (n:=n) (l:=l) fun y hy=>h y (by simp [hy]))
  simpa using this
def Room (a:Mk) (n:Int):Prop:=0≤a.site∧0≤a.left∧a.site+4 * a.left+n≤900000
theorem it_good {ns:Int→Mk→Option (Sm × Mk)} {f:Fd} {k:Ck} {n:Nat} (hA:FxH f) (hk:Fit f k) (hn:∀ k m r,ns k m=some r→NGr m r.2) (hg:∀ i m r,Room m 4→ns i m=some r→GoodL (Ok1 f.heads k) n [r.1]) (d:Int) (a:Mk) (ha:Room a 0):∀ i,GoodL (Ok1 f.heads k) n (itK ns f d a i).1:=by
 intro i
 induction i with
 | zero=>exact .nil
 | succ i ih =>
  have hgr:=gr_it hA hn d a i
  simp only [itK]
  split
  ·rename_i hl
   generalize itK ns f d a i=q at ih hgr hl ⊢
   have hroom:Room { q.2 with left:=q.2.left - 1,pos:=q.2.pos+1 } 4:=by
    have:=hgr.s1;have:=hgr.s2;obtain ⟨h1,h2,h3⟩:=ha
    exact ⟨by simp only;omega,by simp only;omega,by simp only;omega⟩
   unfold stStep
   cases hr:ns (rnd f.bytes q.2.pos 16) { q.2 with left:=q.2.left - 1,pos:=q.2.pos+1 } with
   | some r=>exact ih.app (hg _ _ _ hroom hr)
   | none=>exact ih.app (.leaves (other_ok hA.toFxA hk _ _ _ ⟨hroom.1,by have:=hroom.2.1;have:=hroom.2.2;omega⟩))
  ·exact ih
theorem nest_good {f:Fd} {k:Ck} (hA:FxH f) (hk:Fit f k):∀ (d:Nat) (i:Int) (a:Mk) (r:Sm × Mk),Room a 4→nestS f d i a=some r→GoodL (Ok1 f.heads k) d [r.1]:=by
 intro d
 induction d with
 | zero=>intro i a r _ h;cases h
 | succ d ih =>
  intro i a r ha h
  obtain ⟨ha1,ha2,ha3⟩:=ha
  have hit:=fun (a:Mk) (n:Nat) (h:Room a 0)=>it_good (n:=d) hA hk (ngr_nest hA d) ih d a h n
  have hgr:=fun (a:Mk) (n:Nat)=>gr_it hA (ngr_nest hA d) d a n
  obtain ⟨p,e1,e2,e3⟩:=cond_frame f 1 { a with site:=a.site+1 }
  have hc:=test_ok hA.toFxA hk { a with site:=a.site+1 }
  have z0:=n0_ok k
  have xn:=x_no k
  have hs:inB (a.site+1) 1 1073741824=true:=inB_ok (by omega)
  simp only [nestS] at h
  split at h
  ·cases h
  split at h
  ·cases h
   simp only [whileS,e1]
   have h1:=hit { a with site:=a.site+1,pos:=p+1+1,loop:=a.loop+1 } (1+rnd f.bytes (p+1) 2).toNat ⟨by simp only;omega,by simp only;omega,by simp only;omega⟩
   generalize itK (nestS f d) f d { a with site:=a.site+1,pos:=p+1+1,loop:=a.loop+1 } (1+rnd f.bytes (p+1) 2).toNat=b at h1 ⊢
   have r0:=@rnd_nonneg _ p 3 hA.ok
   have r1:=@rnd_lt f.bytes p 3 (by omega)
   have hv:numberB k 12 (1+rnd f.bytes p 3)=true:=by
    show inB _ 1 16=true
    exact inB_ok (by omega)
   refine .node { st:=stmt_ok ⟨0,0,12,false,false,true,false,true,false⟩ rfl rfl hs z0 z0 hv xn xn (c_yes rfl hc) (call0 k rfl rfl rfl) (.inl rfl) (.inr rfl),ca:=fun h=>absurd h (by simp [Sm.op]),sm:=⟨(test_small hc).1,(test_small hc).2,by simp [Sm.args],by simp [Sm.ptrs]⟩ } h1 .nil
  split at h
  ·cases h
   simp only [tryS]
   have h1:=hit { a with site:=a.site+1,pos:=a.pos+1+1 } (1+rnd f.bytes (a.pos+1) 2).toNat ⟨by simp only;omega,by simp only;omega,by simp only;omega⟩
   have g1:=hgr { a with site:=a.site+1,pos:=a.pos+1+1 } (1+rnd f.bytes (a.pos+1) 2).toNat
   generalize itK (nestS f d) f d { a with site:=a.site+1,pos:=a.pos+1+1 } (1+rnd f.bytes (a.pos+1) 2).toNat=b at h1 g1 ⊢
   have gs1:=g1.s1;have gs2:=g1.s2;have gl:=g1.l0
   simp only at gs1 gs2 gl
   have h2:=hit { b.2 with pos:=b.2.pos+1 } (rnd f.bytes b.2.pos 2).toNat ⟨by simp only;omega,by simp only;omega,by simp only;omega⟩
   generalize itK (nestS f d) f d { b.2 with pos:=b.2.pos+1 } (rnd f.bytes b.2.pos 2).toNat=e at h2 ⊢
   refine .node { st:=stmt_ok ⟨1,0,0,false,false,false,false,true,true⟩ rfl rfl hs (num1_ok (targ_ok hA.toFxA hk a)) z0 z0 xn xn (c_no k rfl) (call0 k rfl rfl rfl) (.inl rfl) (.inl rfl),ca:=fun h=>absurd h (by simp [Sm.op]),sm:=⟨show co0.a.length≤100 by decide,show co0.c.length≤100 by decide,by simp [Sm.args],by simp [Sm.ptrs]⟩ } h1 h2
  ·cases h
   simp only [ifS,e1]
   have h1:=hit { a with site:=a.site+1,pos:=p+1 } (1+rnd f.bytes p 2).toNat ⟨by simp only;omega,by simp only;omega,by simp only;omega⟩
   have g1:=hgr { a with site:=a.site+1,pos:=p+1 } (1+rnd f.bytes p 2).toNat
   generalize itK (nestS f d) f d { a with site:=a.site+1,pos:=p+1 } (1+rnd f.bytes p 2).toNat=b at h1 g1 ⊢
   have gs1:=g1.s1;have gs2:=g1.s2;have gl:=g1.l0
   simp only at gs1 gs2 gl
   have h2:=hit { b.2 with pos:=b.2.pos+1 } (rnd f.bytes b.2.pos 2).toNat ⟨by simp only;omega,by simp only;omega,by simp only;omega⟩
   generalize itK (nestS f d) f d { b.2 with pos:=b.2.pos+1 } (rnd f.bytes b.2.pos 2).toNat=e at h2 ⊢
   refine .node { st:=stmt_ok ⟨0,0,0,false,false,true,false,true,true⟩ rfl rfl hs z0 z0 z0 xn xn (c_yes rfl hc) (call0 k rfl rfl rfl) (.inl rfl) (.inl rfl),ca:=fun h=>absurd h (by simp [Sm.op]),sm:=⟨(test_small hc).1,(test_small hc).2,by simp [Sm.args],by simp [Sm.ptrs]⟩ } h1 h2
structure Pre2 (f:Fd):Prop extends Pre f where
 hh:∀ h ∈ f.heads,1≤h.id∧h.id≤1073741824∧h.params.length≤2∧h.given.length≤1
theorem defS_good {f:Fd} (H:Pre2 f) (a:Mk) (id:Int) (th:Bool) (hs:0≤a.site∧a.site≤800000):GoodL (Ok1 f.heads ⟨(defS f a id th).1,declared⟩) 2 (defS f a id th).1.body:=by
  have hA:=defA H.toPre a.pos id th
  have hp:parN f.bytes a.pos th≤2:=by
    have:=@rnd_lt f.bytes (a.pos+1+1+1+1) 3 (by omega)
    unfold parN;split <;> omega
  have hv:(defD f.bytes a.pos id th).1.vars≤12:=by
    show ((parK f.bytes (a.pos+1+1+1+1+1) (parN f.bytes a.pos th)).1.length:Int)+2+rnd f.bytes ((parK f.bytes (a.pos+1+1+1+1+1) (parN f.bytes a.pos th)).2+1) 2≤12
    have:=(parK_len f.bytes (a.pos+1+1+1+1+1) (parN f.bytes a.pos th)).1
    have:=@rnd_lt f.bytes ((parK f.bytes (a.pos+1+1+1+1+1) (parN f.bytes a.pos th)).2+1) 2 (by omega)
    omega
  have hk:Fit { f with d:=(defD f.bytes a.pos id th).1 } ⟨(defS f a id th).1,declared⟩ :=
    { par:=rfl
      vars:=rfl
      arr:=rfl
      refs:=rfl
      dc:=rfl
      v12:=hv
      hd:=fun h hh=>by have:=H.hh h hh;exact ⟨this.1,this.2.1,by omega,by omega⟩ }
  exact (it_good (n:=2) hA hk (ngr_nest hA 2) (nest_good hA hk 2) ((2:Nat):Int) ({ pos:=(defD f.bytes a.pos id th).2+1,site:=a.site,left:=9,loop:=a.loop,done:=0 }:Mk) ⟨hs.1,by simp,by simp only;omega⟩ (1+rnd f.bytes (defD f.bytes a.pos id th).2 5).toNat :)
mutual
def Sm.cal:Sm→Nat
 | .mk _ op _ _ _ _ _ _ _ _ body els=>(if op=13 then 1 else 0)+(calL body+calL els)
def calL:List Sm→Nat
 | []=>0
 | x::l=>x.cal+calL l
end
theorem Sm.cal_eq (x:Sm):x.cal=(if x.op=13 then 1 else 0)+(calL x.body+calL x.els):=by cases x;simp only [Sm.cal,Sm.op,Sm.body,Sm.els];rfl
theorem rawC_app (l m:List Pl):rawC (l++m)=rawC l++rawC m:=by simp [rawC]
theorem rawC_cons (p:Pl) (m:List Pl):(rawC (p::m)).length=(if p.s.op=13 then 1 else 0)+(rawC m).length:=by
 by_cases h:p.s.op=13 <;> simp [rawC,h];omega
mutual
theorem flat_cal:(x:Sm)→∀ d,(rawC (x.flat d)).length=x.cal
 | .mk site op n m v x y c args ptrs body els=>fun d=>by
  rw [Sm.flat_eq,Sm.cal_eq,rawC_cons,rawC_app,List.length_append]
  simp only [Sm.body,Sm.els,flatL_cal body,flatL_cal els]
theorem flatL_cal:(l:List Sm)→∀ d,(rawC (flatL d l)).length=calL l
 | []=>fun d=>by simp [flatL,calL,rawC]
 | x::l=>fun d=>by rw [flatL,rawC_app,List.length_append,flat_cal x d,flatL_cal l d,calL]
end
theorem calL_app:∀ l m:List Sm,calL (l++m)=calL l+calL m
 | [],m=>by simp [calL]
 | x::l,m=>by rw [List.cons_append,calL,calL,calL_app l m];omega
theorem calL_one (x:Sm):calL [x]=x.cal:=by simp [calL]
theorem leaf0_cal {H:List Hd} {k:Ck}:∀ {l:List Sm},(∀ x ∈ l,Leaf0 H k x)→calL l=0
 | [],_=>rfl
 | x::l,h=>by
  have hx:=h x (by simp)
  rw [calL,leaf0_cal (fun y hy=>h y (by simp [hy])),Sm.cal_eq,hx.b,hx.e,if_neg hx.n13];rfl
theorem leaf_cal {H:List Hd} {k:Ck} {x:Sm} (h:Leaf H k x):calL [x]≤1:=by
 rw [calL_one,Sm.cal_eq,h.b,h.e];simp only [calL];split <;> omega
theorem other_cal {f:Fd} {k:Ck} (hA:FxA f) (hk:Fit f k) (i d:Int) (a:Mk) (hs:0≤a.site∧a.site≤900000):calL (other f i d a).1≤1:=by
 unfold other
 split
 ·exact leaf_cal (callS_ok hA hk a hs)
 split
 ·simp [calL,stm,Sm.cal]
 split
 ·simp [calL,stm,Sm.cal]
 split
 ·rw [leaf0_cal (simple_ok hA hk a hs)];omega
 ·exact leaf_cal (risky_ok hA hk a hs).toLeaf
theorem it_cal {ns:Int→Mk→Option (Sm × Mk)} {f:Fd} {k:Ck} (hA:FxH f) (hk:Fit f k) (hn:∀ k m r,ns k m=some r→NGr m r.2) (hg:∀ i m r,Room m 4→ns i m=some r→(calL [r.1]:Int)+r.2.left≤m.left) (d:Int) (a:Mk) (ha:Room a 0):∀ i,(calL (itK ns f d a i).1:Int)+(itK ns f d a i).2.left≤a.left:=by
 intro i
 induction i with
 | zero=>simp [itK,calL]
 | succ i ih =>
  have hgr:=gr_it hA hn d a i
  simp only [itK]
  split
  ·rename_i hl
   generalize itK ns f d a i=q at ih hgr hl ⊢
   have hroom:Room { q.2 with left:=q.2.left - 1,pos:=q.2.pos+1 } 4:=by
    have:=hgr.s1;have:=hgr.s2;obtain ⟨h1,h2,h3⟩:=ha
    exact ⟨by simp only;omega,by simp only;omega,by simp only;omega⟩
   unfold stStep
   cases hr:ns (rnd f.bytes q.2.pos 16) { q.2 with left:=q.2.left - 1,pos:=q.2.pos+1 } with
   | some r =>
    have:=hg _ _ _ hroom hr
    simp only [calL_app] at this ⊢
    omega
   | none =>
    have h1:=other_cal hA.toFxA hk (rnd f.bytes q.2.pos 16) d { q.2 with left:=q.2.left - 1,pos:=q.2.pos+1 } ⟨hroom.1,by have:=hroom.2.1;have:=hroom.2.2;omega⟩
    have h2:=(other_frame f hA (rnd f.bytes q.2.pos 16) d { q.2 with left:=q.2.left - 1,pos:=q.2.pos+1 }).l
    simp only [calL_app] at h1 h2 ⊢
    omega
  ·exact ih
theorem nest_cal {f:Fd} {k:Ck} (hA:FxH f) (hk:Fit f k):∀ (d:Nat) (i:Int) (a:Mk) (r:Sm × Mk),Room a 4→nestS f d i a=some r→(calL [r.1]:Int)+r.2.left≤a.left:=by
 intro d
 induction d with
 | zero=>intro i a r _ h;cases h
 | succ d ih =>
  intro i a r ha h
  obtain ⟨ha1,ha2,ha3⟩:=ha
  have hit:=fun (a:Mk) (n:Nat) (h:Room a 0)=>it_cal hA hk (ngr_nest hA d) ih d a h n
  have hgr:=fun (a:Mk) (n:Nat)=>gr_it hA (ngr_nest hA d) d a n
  obtain ⟨p,e1,e2,e3⟩:=cond_frame f 1 { a with site:=a.site+1 }
  simp only [nestS] at h
  split at h
  ·cases h
  split at h
  ·cases h
   simp only [whileS,e1]
   have h1:=hit { a with site:=a.site+1,pos:=p+1+1,loop:=a.loop+1 } (1+rnd f.bytes (p+1) 2).toNat ⟨by simp only;omega,by simp only;omega,by simp only;omega⟩
   generalize itK (nestS f d) f d { a with site:=a.site+1,pos:=p+1+1,loop:=a.loop+1 } (1+rnd f.bytes (p+1) 2).toNat=b at h1 ⊢
   simp only [calL,Sm.cal] at h1 ⊢
   rw [if_neg (by decide)];omega
  split at h
  ·cases h
   simp only [tryS]
   have h1:=hit { a with site:=a.site+1,pos:=a.pos+1+1 } (1+rnd f.bytes (a.pos+1) 2).toNat ⟨by simp only;omega,by simp only;omega,by simp only;omega⟩
   have g1:=hgr { a with site:=a.site+1,pos:=a.pos+1+1 } (1+rnd f.bytes (a.pos+1) 2).toNat
   generalize itK (nestS f d) f d { a with site:=a.site+1,pos:=a.pos+1+1 } (1+rnd f.bytes (a.pos+1) 2).toNat=b at h1 g1 ⊢
   have gs1:=g1.s1;have gs2:=g1.s2;have gl:=g1.l0
   simp only at gs1 gs2 gl h1
   have h2:=hit { b.2 with pos:=b.2.pos+1 } (rnd f.bytes b.2.pos 2).toNat ⟨by simp only;omega,by simp only;omega,by simp only;omega⟩
   generalize itK (nestS f d) f d { b.2 with pos:=b.2.pos+1 } (rnd f.bytes b.2.pos 2).toNat=e at h2 ⊢
   simp only [calL,Sm.cal] at h2 ⊢
   rw [if_neg (by decide)];omega
  ·cases h
   simp only [ifS,e1]
   have h1:=hit { a with site:=a.site+1,pos:=p+1 } (1+rnd f.bytes p 2).toNat ⟨by simp only;omega,by simp only;omega,by simp only;omega⟩
   have g1:=hgr { a with site:=a.site+1,pos:=p+1 } (1+rnd f.bytes p 2).toNat
   generalize itK (nestS f d) f d { a with site:=a.site+1,pos:=p+1 } (1+rnd f.bytes p 2).toNat=b at h1 g1 ⊢
   have gs1:=g1.s1;have gs2:=g1.s2;have gl:=g1.l0
   simp only at gs1 gs2 gl h1
   have h2:=hit { b.2 with pos:=b.2.pos+1 } (rnd f.bytes b.2.pos 2).toNat ⟨by simp only;omega,by simp only;omega,by simp only;omega⟩
   generalize itK (nestS f d) f d { b.2 with pos:=b.2.pos+1 } (rnd f.bytes b.2.pos 2).toNat=e at h2 ⊢
   simp only [calL,Sm.cal] at h2 ⊢
   rw [if_neg (by decide)];omega
theorem defS_fit {f:Fd} (H:Pre2 f) (a:Mk) (id:Int) (th:Bool):Fit { f with d:=(defD f.bytes a.pos id th).1 } ⟨(defS f a id th).1,declared⟩:=by
  have hp:parN f.bytes a.pos th≤2:=by
    have:=@rnd_lt f.bytes (a.pos+1+1+1+1) 3 (by omega)
    unfold parN;split <;> omega
  have hv:(defD f.bytes a.pos id th).1.vars≤12:=by
    show ((parK f.bytes (a.pos+1+1+1+1+1) (parN f.bytes a.pos th)).1.length:Int)+2+rnd f.bytes ((parK f.bytes (a.pos+1+1+1+1+1) (parN f.bytes a.pos th)).2+1) 2≤12
    have:=(parK_len f.bytes (a.pos+1+1+1+1+1) (parN f.bytes a.pos th)).1
    have:=@rnd_lt f.bytes ((parK f.bytes (a.pos+1+1+1+1+1) (parN f.bytes a.pos th)).2+1) 2 (by omega)
    omega
  exact { par := rfl
          vars:=rfl
          arr:=rfl
          refs:=rfl
          dc:=rfl
          v12:=hv
          hd:=fun h hh=>by have:=H.hh h hh;exact ⟨this.1,this.2.1,by omega,by omega⟩ }
theorem defS_cal {f:Fd} (H:Pre2 f) (a:Mk) (id:Int) (th:Bool) (hs:0≤a.site∧a.site≤800000):(rawC (flatL 1 (defS f a id th).1.body)).length≤9:=by
 have hA:=defA H.toPre a.pos id th
 have hk:=defS_fit H a id th
 have h:=it_cal hA hk (ngr_nest hA 2) (nest_cal hA hk 2) ((2:Nat):Int) ({ pos:=(defD f.bytes a.pos id th).2+1,site:=a.site,left:=9,loop:=a.loop,done:=0 }:Mk) ⟨hs.1,by simp,by simp only;omega⟩ (1+rnd f.bytes (defD f.bytes a.pos id th).2 5).toNat
 have g:=(gr_it hA (ngr_nest hA 2) ((2:Nat):Int) ({ pos:=(defD f.bytes a.pos id th).2+1,site:=a.site,left:=9,loop:=a.loop,done:=0 }:Mk) (1+rnd f.bytes (defD f.bytes a.pos id th).2 5).toNat).l0 (by simp)
 rw [flatL_cal]
 have:calL (defS f a id th).1.body=calL (itK (nestS { f with d:=(defD f.bytes a.pos id th).1 } 2) { f with d:=(defD f.bytes a.pos id th).1 } ((2:Nat):Int) ({ pos:=(defD f.bytes a.pos id th).2+1,site:=a.site,left:=9,loop:=a.loop,done:=0 }:Mk) (1+rnd f.bytes (defD f.bytes a.pos id th).2 5).toNat).1:=rfl
 rw [this]
 simp only at h
 omega
theorem rgv_ok (i:Int):rightRange (rgv i)=true:=by
 unfold rgv;split
 ·decide
 split
 ·decide
 split <;> decide
theorem parK_ok (b:List Int) (p:Int):∀ n,∀ r ∈ (parK b p n).1,rightRange r=true:=by
 intro n
 induction n with
 | zero=>intro r h;simp [parK] at h
 | succ n ih =>
  intro r h
  simp only [parK,List.mem_append,List.mem_singleton] at h
  rcases h with h | rfl
  ·exact ih r h
  ·exact rgv_ok _
structure MadeHd (d:Df):Prop where
 firm:0≤d.firm∧d.firm≤1
 part:0≤d.part∧d.part≤2
 par:d.params.length≤2
 pok:∀ r ∈ d.params,rightRange r=true
 giv:d.given.length≤1
 gok:∀ r ∈ d.given,rightRange r=true
 vars:d.vars=d.params.length+2∨d.vars=d.params.length+3
 refs:d.refs=2
 arr:d.arrays=[⟨4,0⟩]∨(d.arrays=[⟨4,0⟩,⟨8,1⟩]∧0<d.params.length)
 bud:d.budget=400∨d.budget=60∨d.budget=20∨d.budget=2000
theorem defS_hd {f:Fd} (hb:FxOk f) (a:Mk) (id:Int) (th:Bool):MadeHd (defS f a id th).1:=by
 have hp:=defS_par f hb a id th
 have r0:=fun p n=>@rnd_nonneg _ p n hb
 have r1:=fun p n (h:0<n)=>@rnd_lt f.bytes p n h
 refine ⟨?_,?_,hp.1,?_,hp.2,?_,?_,rfl,?_,?_⟩
 ·show 0≤rnd f.bytes a.pos 2∧rnd f.bytes a.pos 2≤1
  have:=r0 a.pos 2;have:=r1 a.pos 2 (by omega);omega
 ·show 0≤(if rnd f.bytes (a.pos+1+1+1) 2=0 then (0:Int) else ((rnd f.bytes (a.pos+1) 6).tdiv 2).tmod 3)∧(if rnd f.bytes (a.pos+1+1+1) 2=0 then (0:Int) else ((rnd f.bytes (a.pos+1) 6).tdiv 2).tmod 3)≤2
  have h0:=r0 (a.pos+1) 6;have h1:=r1 (a.pos+1) 6 (by omega)
  split
  ·omega
  ·rw [Int.tdiv_eq_ediv_of_nonneg h0,Int.tmod_eq_emod_of_nonneg (by omega)];omega
 ·exact parK_ok _ _ _
 ·show ∀ r ∈ (if rnd f.bytes (parK f.bytes (a.pos+1+1+1+1+1) (parN f.bytes a.pos th)).2 4=0∧th=false then [(⟨-10,10,1⟩:Rg)] else []),rightRange r=true
  intro r hr
  split at hr
  ·simp at hr;subst hr;decide
  ·simp at hr
 ·have e:(defS f a id th).1.vars=((defS f a id th).1.params.length:Int)+2+rnd f.bytes ((parK f.bytes (a.pos+1+1+1+1+1) (parN f.bytes a.pos th)).2+1) 2:=rfl
  have:=r0 ((parK f.bytes (a.pos+1+1+1+1+1) (parN f.bytes a.pos th)).2+1) 2
  have:=r1 ((parK f.bytes (a.pos+1+1+1+1+1) (parN f.bytes a.pos th)).2+1) 2 (by omega)
  omega
 ·simp only [defS,defD,arrs]
  split
  ·rename_i h
   split
   ·exact .inr ⟨rfl,h⟩
   ·exact .inl rfl
  ·exact .inl rfl
 ·show budg _=400∨budg _=60∨budg _=20∨budg _=2000
  unfold budg
  split
  ·exact .inl rfl
  split
  ·exact .inr (.inl rfl)
  split
  ·exact .inr (.inr (.inl rfl))
  ·exact .inr (.inr (.inr rfl))
theorem every_ok {α:Type} {l:List α} {n:Int} {p:α→Bool} (h:(l.length:Int)≤n) (hp:∀ x ∈ l,p x=true):everyB l n p=true:=by
 rw [everyB,decide_eq_true h,List.all_eq_true.2 hp];rfl
theorem headB_ok {d:Df} (h:MadeHd d) (hid:1≤d.id∧d.id≤1073741824) (hsite:1≤d.site∧d.site≤1073741824) (hn:nameB d.name=true):headB d declared=true:=by
 have w1:w64 (declared.firms - 1)=1:=w64_in (by decide)
 have w2:w64 (declared.parts - 1)=2:=w64_in (by decide)
 have e1:=inB_ok hid
 have e2:=inB_ok hsite
 have e3:inB d.firm 0 (w64 (declared.firms - 1))=true:=by rw [w1];exact inB_ok h.firm
 have e4:inB d.part 0 (w64 (declared.parts - 1))=true:=by rw [w2];exact inB_ok h.part
 have hp:=h.par
 have hg:=h.giv
 have e5:inB d.vars d.params.length 12=true:=by rcases h.vars with e | e <;> rw [e] <;> exact inB_ok (by omega)
 have e6:inB d.refs d.given.length 4=true:=by rw [h.refs];exact inB_ok (by omega)
 have e7:inB d.budget 1 20000=true:=by rcases h.bud with e | e | e | e <;> rw [e] <;> decide
 have e8:=every_ok (n:=12) (by omega) h.pok
 have e9:=every_ok (n:=4) (by omega) h.gok
 have e10:everyB d.arrays 4 (arrB d)=true:=by
  rcases h.arr with e | ⟨e,h0⟩
  ·rw [e];refine every_ok (by decide) fun x hx=>?_
   simp at hx;subst hx
   simp only [arrB];rw [inB_ok (by omega),inB_ok (by omega)];rfl
  ·rw [e];refine every_ok (by decide) fun x hx=>?_
   simp at hx
   rcases hx with rfl | rfl <;> simp only [arrB] <;> rw [inB_ok (by omega),inB_ok (by omega)] <;> rfl
 simp only [headB,e1,e2,hn,e3,e4,e5,e6,e7,e8,e9,e10];rfl
theorem scan_ok (k:Ck):∀ (ps:List Pl) (seen:List Int),(∀ p ∈ ps,stmtB k p.s=true∧p.depth≤10)→(seen++sitesL ps).Nodup→seen.length+ps.length≤201→scanB k ps seen=true:=by
 intro ps
 induction ps with
 | nil=>intro _ _ _ _;rfl
 | cons p ps ih =>
  intro seen hp hn hl
  obtain ⟨h1,h2⟩:=hp p (by simp)
  have e1:decide (10<p.depth)=false:=decide_eq_false (by omega)
  have e2:decide (200<(seen.length:Int))=false:=decide_eq_false (by simp at hl;omega)
  have e3:seen.contains p.s.site=false:=by
   rw [Bool.eq_false_iff];intro hc
   have hm:p.s.site ∈ seen:=by simpa using hc
   exact (List.nodup_append.1 hn).2.2 _ hm p.s.site (by simp [sitesL]) rfl
  have hr:=ih (seen++[p.s.site]) (fun q hq=>hp q (by simp [hq])) (by simpa [sitesL] using hn) (by simp at hl ⊢;omega)
  simp only [scanB,e1,e2,e3,h1,hr];rfl
theorem defB_ok {d:Df} {H:List Hd} (h:MadeHd d) (hid:1≤d.id∧d.id≤1073741824) (hsite:1≤d.site∧d.site≤1073741824) (hn:nameB d.name=true) (hg:GoodL (Ok1 H ⟨d,declared⟩) 2 d.body) (hs:(sitesS d).Nodup) (hl:(sitesS d).length≤200):defB d declared=true:=by
 have hsc:scanB ⟨d,declared⟩ (flatL 1 d.body) [d.site]=true:=by
  refine scan_ok _ _ _ (fun p hp=>?_) ?_ ?_
  ·have:=hg 1 (by omega) (by omega) p hp
   exact ⟨this.1.st,by have:=this.2;omega⟩
  ·exact (List.perm_append_comm.nodup_iff).1 hs
  ·simp [sitesS,sitesL] at hl ⊢;omega
 rw [defB,headB_ok h hid hsite hn,hsc];rfl
def keepD (p:Pg) (n:Int) (d:Df):Bool:=decide (d.id≠n) || p.threads.contains n
def closedP (p:Pg) (n:Int):Pg:={ p with defs:=p.defs.filter (keepD p n) }
def Pg.zc:List D:=[.slice .nil [],.slice .nil [],.slice .nil [],.slice .nil [],.int .i64 0,.int .i64 0,.int .i64 0,.slice .nil [],.slice .nil [],.slice .nil []]
def foundD (p:Pg) (id:Int):D:=.agg (((findS p id).getD Df.zero).cells++[.bool (findS p id).isSome])
def headedD (p:Pg) (id:Int):D:=.agg (((headS p id).getD Hd.zero).cells++[.bool (headS p id).isSome])
structure ClosesOk (p:Pg):Prop where
 ok:∀ n,PgOk (closedP p n)
 pr:∀ n,programS (closedP p n)=0
 ln:p.defs.length<1000000
def headFine (x:Dc) (h:Hd):Bool:=inB h.id 1 1073741824 && inB h.firm 0 (w64 (x.firms - 1)) && inB h.part 0 (w64 (x.parts - 1)) && everyB h.params 12 rightRange && everyB h.given 4 rightRange
structure Right (p:Pg):Prop where
 dc:declB p.d=true
 hl:p.heads.length≤40
 hid:p.heads.Pairwise (fun a b=>a.id<b.id)
 hok:∀ h ∈ p.heads,headFine p.d h=true
 dl:p.defs.length≤40
 did:p.defs.Pairwise (fun a b=>a.id<b.id)
 hof:∀ d ∈ p.defs,hdOf d ∈ p.heads
 dok:∀ d ∈ p.defs,defB d p.d=true
 ca:∀ d ∈ p.defs,∀ q ∈ flatL 1 d.body,q.s.op=13→∃ h ∈ p.heads,h.id<d.id∧q.s.m=h.id∧q.s.args.length=h.params.length∧q.s.ptrs.length=h.given.length
 st:(p.defs.flatMap sitesS).Nodup
 tl:p.threads.length≤4
 th:∀ t ∈ p.threads,∃ d ∈ p.defs,d.id=t∧isT d=true
 sz:∀ d ∈ p.defs,d.name.size≤1000000000∧(flatL 1 d.body).length<1000000∧(rawC (flatL 1 d.body)).length≤12
theorem inB_iff {n a b:Int}:inB n a b=true↔a≤n∧n≤b:=by simp [inB]
theorem headFine_id {x:Dc} {h:Hd} (hh:headFine x h=true):1≤h.id∧h.id≤1073741824:=by
 simp only [headFine,Bool.and_eq_true] at hh
 exact inB_iff.1 hh.1.1.1.1
theorem find_pw {α:Type} {g:α→Int}:∀ {l:List α},l.Pairwise (fun a b=>g a<g b)→∀ x ∈ l,l.find? (fun y=>decide (g y=g x))=some x
 | [],_,x,hx=>by simp at hx
 | y::l,hp,x,hx=>by
  obtain ⟨h1,h2⟩:=List.pairwise_cons.1 hp
  rcases List.mem_cons.1 hx with rfl | hx
  ·simp
  ·have:=h1 x hx
   rw [List.find?_cons]
   rw [decide_eq_false (by omega)]
   exact find_pw h2 x hx
theorem Right.head {p:Pg} (R:Right p) {h:Hd} (hh:h ∈ p.heads):headS p h.id=some h:=find_pw R.hid h hh
theorem Right.find {p:Pg} (R:Right p) {d:Df} (hd:d ∈ p.defs):findS p d.id=some d:=find_pw R.did d hd
theorem lastId_lt {p:Pg} {l:List Hd} (hp:l.Pairwise (fun a b=>a.id<b.id)) (hok:∀ h ∈ l,headFine p.d h=true) {k:Nat} {h:Hd} (hk:l[k]? = some h):0≤lastId l k∧lastId l k<h.id:=by
 have hh:h ∈ l:=List.mem_of_getElem? hk
 have h1:=headFine_id (hok h hh)
 cases k with
 | zero=>simp only [lastId];omega
 | succ k =>
  obtain ⟨hlt,he⟩:=List.getElem?_eq_some_iff.1 hk
  have hk':l[k]? = some l[k]:=List.getElem?_eq_getElem (by omega)
  simp only [lastId,hk']
  have h2:=headFine_id (hok l[k] (List.getElem_mem _))
  have:=List.pairwise_iff_getElem.1 hp k (k+1) (by omega) hlt (by omega)
  rw [he] at this
  omega
theorem Right.heads {p:Pg} (R:Right p):headsB p=true:=by
 have h1:decide ((p.heads.length:Int)≤40)=true:=decide_eq_true (by have:=R.hl;omega)
 have h2:(List.range p.heads.length).any (headsQ p)=false:=by
  rw [List.any_eq_false]
  intro k hk
  have hk':p.heads[k]? = some (p.heads[k]'(List.mem_range.1 hk)):=List.getElem?_eq_getElem _
  have hl:=lastId_lt (p:=p) R.hid R.hok hk'
  have hf:=R.hok _ (List.getElem_mem (List.mem_range.1 hk))
  have hid:=headFine_id hf
  simp only [headsQ,hk']
  generalize p.heads[k]'(List.mem_range.1 hk)=h at *
  have hw:w64 (lastId p.heads k+1)=lastId p.heads k+1:=w64_in (by omega)
  have hi:inB h.id (lastId p.heads k+1) 1073741824=true:=inB_ok (by omega)
  simp only [headFine,Bool.and_eq_true] at hf
  simp only [headOk,hw,hi,hf.1.1.1.2,hf.1.1.2,hf.1.2,hf.2];simp
 rw [headsB,h1,h2];rfl
theorem dis_ok:∀ (l seen:List Int),(seen++l).Nodup→dis l seen=true:=by
 intro l
 induction l with
 | nil=>intro _ _;rfl
 | cons x l ih =>
  intro seen h
  have e:seen.contains x=false:=by
   rw [Bool.eq_false_iff];intro hc
   have hm:x ∈ seen:=by simpa using hc
   exact (List.nodup_append.1 h).2.2 _ hm x (by simp) rfl
  have:=ih (seen++[x]) (by simpa using h)
  simp only [dis,e,this];rfl
theorem scanD_ok (p:Pg):∀ (l:List Df) (seen:List Int) (last:Int),(∀ d ∈ l,rightB p d=true)→l.Pairwise (fun a b=>a.id<b.id)→(∀ d ∈ l,last<d.id)→(seen++l.flatMap sitesS).Nodup→scanD p l seen last=true:=by
 intro l
 induction l with
 | nil=>intro _ _ _ _ _ _;rfl
 | cons d l ih =>
  intro seen last hr hp hl hn
  obtain ⟨p1,p2⟩:=List.pairwise_cons.1 hp
  have e1:decide (d.id≤last)=false:=decide_eq_false (by have:=hl d (by simp);omega)
  have hn':(seen++sitesS d++l.flatMap sitesS).Nodup:=by simpa [List.flatMap_cons] using hn
  have e2:=dis_ok (sitesS d) seen (List.nodup_append.1 hn').1
  have e3:=ih (seen++sitesS d) d.id (fun x hx=>hr x (by simp [hx])) p2 p1 hn'
  simp only [scanD,e1,hr d (by simp),e2,e3];rfl
theorem Right.right {p:Pg} (R:Right p) {d:Df} (hd:d ∈ p.defs):rightB p d=true:=by
 have hh:=R.head (R.hof d hd)
 have ho:otherB p d=false:=by
  have hh':headS p d.id=some (hdOf d):=hh
  have e:hdG p d.id=hdOf d:=by rw [hdG,hh'];rfl
  simp only [otherB,hh',e,Option.isSome_some,hdOf];simp
 have hc:((flatL 1 d.body).all fun q=>callB p q.s)=true:=by
  rw [List.all_eq_true]
  intro q hq
  by_cases h13:q.s.op=13
  ·obtain ⟨h,hm,_,e1,e2,e3⟩:=R.ca d hd q hq h13
   have hs:headS p q.s.m=some h:=by rw [e1];exact R.head hm
   have e:hdG p q.s.m=h:=by rw [hdG,hs];rfl
   simp only [callB,wrongB,hs,e,e2,e3];simp
  ·simp [callB,h13]
 simp only [rightB,R.dok d hd,ho,hc];rfl
theorem exists_min:∀ (l:List Int),l≠[]→∃ m ∈ l,∀ x ∈ l,m≤x
 | [],h=>absurd rfl h
 | [x],_=>⟨x,by simp,fun y hy=>by simp at hy;omega⟩
 | x::y::l,_=>by
  obtain ⟨m,h1,h2⟩:=exists_min (y::l) (by simp)
  by_cases hx:x≤m
  ·exact ⟨x,by simp,fun z hz=>by
    rcases List.mem_cons.1 hz with rfl | hz
    ·omega
    ·have:=h2 z hz;omega⟩
  ·exact ⟨m,List.mem_cons_of_mem _ h1,fun z hz=>by
    rcases List.mem_cons.1 hz with rfl | hz
    ·omega
    ·exact h2 z hz⟩
theorem mem_compLs {x:Int}:∀ {l:List Int},x ∈ compL l↔x ∈ l
 | []=>by simp [compL]
 | [y]=>by simp [compL]
 | y::z::l=>by
  have ih:=mem_compLs (x:=x) (l:=z::l)
  rw [compL]
  split
  ·rename_i h;subst h;rw [ih];simp
  ·rw [List.mem_cons,ih,List.mem_cons (a:=x) (b:=y)]
theorem mem_rawC {x:Int} {l:List Pl}:x ∈ rawC l ↔ ∃ q ∈ l,q.s.op=13∧q.s.m=x:=by
 simp only [rawC,List.mem_map,List.mem_filter,decide_eq_true_eq]
 constructor
 ·rintro ⟨q,⟨h1,h2⟩,h3⟩;exact ⟨q,h1,h2,h3⟩
 ·rintro ⟨q,h1,h2,h3⟩;exact ⟨q,⟨h1,h2⟩,h3⟩
theorem mem_callsS {x:Int} {d:Df}:x ∈ callsS d ↔ ∃ q ∈ flatL 1 d.body,q.s.op=13∧q.s.m=x:=by
 rw [callsS,mem_compLs,sortI,List.mem_mergeSort,mem_rawC]
theorem ordS_len {defs:List Df} (hc:∀ d ∈ defs,∀ c ∈ callsS d,c<d.id):∀ (n:Nat) (rem:List Int),rem.Nodup→(∀ i ∈ rem,∃ d ∈ defs,d.id=i)→rem.length=n→(ordS defs n rem).length=n:=by
 intro n
 induction n with
 | zero=>intro rem _ _ _;rfl
 | succ n ih =>
  intro rem hn hm hl
  obtain ⟨m,h1,h2⟩:=exists_min rem (by rintro rfl;simp at hl)
  obtain ⟨d,hd,rfl⟩:=hm m h1
  have hrd:rdy rem d=true:=by
   have e1:rem.contains d.id=true:=by simpa using h1
   have e2:((callsS d).any fun i=>rem.contains i)=false:=by
    rw [List.any_eq_false]
    intro c hcc hcr
    have:=hc d hd c hcc
    have:=h2 c (by simpa using hcr)
    omega
   rw [rdy,e1,e2];rfl
  cases hf:defs.findIdx? (rdy rem) with
  | none =>
   have:=List.findIdx?_eq_none_iff.1 hf d hd
   rw [hrd] at this;exact absurd this (by decide)
  | some i =>
   obtain ⟨hi,hp,_⟩:=List.findIdx?_eq_some_iff_getElem.1 hf
   have he:idAt defs i=defs[i].id:=by simp only [idAt,List.getElem?_eq_getElem hi]
   have hmem:idAt defs i ∈ rem:=by
    rw [he]
    have:(rem.contains defs[i].id && _)=true:=hp
    have:=(Bool.and_eq_true _ _ ▸ this).1
    simpa using this
   simp only [ordS,hf,List.length_cons]
   rw [ih (rem.erase (idAt defs i)) (hn.erase _) (fun x hx=>hm x (List.mem_of_mem_erase hx)) (by rw [List.length_erase_of_mem hmem];omega)]
theorem Right.calls {p:Pg} (R:Right p) {d:Df} (hd:d ∈ p.defs) {c:Int} (hc:c ∈ callsS d):c<d.id∧∃ h ∈ p.heads,h.id=c:=by
 obtain ⟨q,hq,h13,rfl⟩:=mem_callsS.1 hc
 obtain ⟨h,hm,hlt,e1,_,_⟩:=R.ca d hd q hq h13
 exact ⟨by omega,h,hm,e1.symm⟩
theorem Right.ids {p:Pg} (R:Right p):(p.defs.map (·.id)).Nodup:=(List.pairwise_map.2 (R.did.imp fun h=>by omega))
theorem Right.order {p:Pg} (R:Right p):(orderS p).length=p.defs.length:=by
 refine ordS_len (fun d hd c hc=>(R.calls hd hc).1) _ _ R.ids (fun i hi=>?_) (by simp)
 obtain ⟨d,hd,rfl⟩:=List.mem_map.1 hi
 exact ⟨d,hd,rfl⟩
theorem Right.prog {p:Pg} (R:Right p):programS p=0:=by
 have h1:faultB p=false:=by
  have e1:decide ((p.defs.length:Int) > 40)=false:=decide_eq_false (by have:=R.dl;omega)
  have e2:decide ((p.threads.length:Int) > 4)=false:=decide_eq_false (by have:=R.tl;omega)
  simp only [faultB,R.dc,R.heads,e1,e2];rfl
 have h2:scanD p p.defs [] 0=true:=by
  refine scanD_ok p _ _ _ (fun d hd=>R.right hd) R.did (fun d hd=>?_) (by simpa using R.st)
  have:=headFine_id (R.hok _ (R.hof d hd))
  simp only [hdOf] at this;omega
 have h3:p.threads.any (noThr p)=false:=by
  rw [List.any_eq_false]
  intro t ht
  obtain ⟨d,hd,rfl,hT⟩:=R.th t ht
  have hz:d.params.length+d.given.length=0:=by simpa [isT] using hT
  have e:((d.params.length:Int)+(d.given.length:Int))=0:=by omega
  simp only [noThr,R.find hd,Option.isSome_some,Option.getD_some,e,w640];simp
 rw [programS,h1,h2,h3,R.order];simp
theorem flatMap_sub {α β:Type} (f:α→List β) {l m:List α} (h:l.Sublist m):(l.flatMap f).Sublist (m.flatMap f):=by
 induction h with
 | slnil=>exact .slnil
 | cons a _ ih=>rw [List.flatMap_cons];exact ih.trans (List.sublist_append_right _ _)
 | cons_cons a _ ih=>rw [List.flatMap_cons,List.flatMap_cons];exact (List.Sublist.refl _).append ih
theorem Right.closed {p:Pg} (R:Right p) (n:Int):Right (closedP p n) where
 dc:=R.dc
 hl:=R.hl
 hid:=R.hid
 hok:=R.hok
 dl:=Nat.le_trans (List.length_filter_le _ _) R.dl
 did:=R.did.filter _
 hof:=fun d hd=>R.hof d (List.mem_filter.1 hd).1
 dok:=fun d hd=>R.dok d (List.mem_filter.1 hd).1
 ca:=fun d hd=>R.ca d (List.mem_filter.1 hd).1
 st:=List.Nodup.sublist (flatMap_sub _ (List.filter_sublist)) R.st
 tl:=R.tl
 th:=fun t ht=>by
  obtain ⟨d,hd,e,hT⟩:=R.th t ht
  refine ⟨d,List.mem_filter.2 ⟨hd,?_⟩,e,hT⟩
  by_cases h:d.id=n
  ·have ht':t ∈ p.threads:=ht
   have:p.threads.contains n=true:=by rw [← h,e];simpa using ht'
   simp only [keepD,this,Bool.or_true]
  ·simp [keepD,h]
 sz:=fun d hd=>R.sz d (List.mem_filter.1 hd).1
structure DefOk (d:Df) (H:List Hd):Prop where
 hd:MadeHd d
 df:defB d declared=true
 ca:∀ q ∈ flatL 1 d.body,q.s.op=13→∃ h ∈ H,h.id<d.id∧q.s.m=h.id∧q.s.args.length=h.params.length∧q.s.ptrs.length=h.given.length
 cn:(rawC (flatL 1 d.body)).length≤9
 sm:∀ q ∈ flatL 1 d.body,q.s.c.a.length≤100∧q.s.c.c.length≤100∧q.s.args.length≤100∧q.s.ptrs.length≤100
 fl:(sitesS d).length≤40
 nm:d.name.size≤8
 lo:100<d.site∧d.site≤1000
theorem DefOk.mono {d:Df} {H K:List Hd} (h:DefOk d H) (hs:∀ x ∈ H,x ∈ K):DefOk d K :=
 { h with ca:=fun q hq h13=>by obtain ⟨x,hx,r⟩:=h.ca q hq h13;exact ⟨x,hs x hx,r⟩ }
theorem hdOf_id (d:Df):(hdOf d).id=d.id:=rfl
theorem name_ok {k:Nat} (hk:k<5):nameB (abc.extract ((11+(k:Int)).tmod 8).toNat ((11+(k:Int)).tmod 8+1).toNat)=true∧(abc.extract ((11+(k:Int)).tmod 8).toNat ((11+(k:Int)).tmod 8+1).toNat).size≤8:=by
 have:k=0∨k=1∨k=2∨k=3∨k=4:=by omega
 rcases this with rfl | rfl | rfl | rfl | rfl <;> decide +kernel
structure InvD (f:Fd) (k:Nat):Prop where
 hds:f.heads=f.defs.map hdOf
 ids:f.defs.map (·.id)=(List.range k).map (fun i:Nat=>11+(i:Int))
 ok:∀ d ∈ f.defs,DefOk d f.heads
theorem InvD.len {f:Fd} {k:Nat} (h:InvD f k):f.defs.length=k:=by
 have:=congrArg List.length h.ids
 simpa using this
theorem InvD.mem {f:Fd} {k:Nat} (h:InvD f k) {d:Df} (hd:d ∈ f.defs):11≤d.id∧d.id<11+k:=by
 have:d.id ∈ f.defs.map (·.id):=List.mem_map.2 ⟨d,hd,rfl⟩
 rw [h.ids] at this
 obtain ⟨i,hi,e⟩:=List.mem_map.1 this
 have:=List.mem_range.1 hi
 omega
theorem InvD.pre {f:Fd} {k:Nat} (h:InvD f k) (hk:k≤5) (hp:Pre f):Pre2 f:=by
 refine ⟨hp,fun x hx=>?_⟩
 rw [h.hds] at hx
 obtain ⟨d,hd,rfl⟩:=List.mem_map.1 hx
 have:=h.mem hd
 have hm:=(h.ok d hd).hd
 simp only [hdOf]
 exact ⟨by omega,by omega,hm.par,hm.giv⟩
theorem invD {b:List Int} (hb:∀ x ∈ b,0≤x∧x<256) (n:Int):∀ k:Nat,k≤5→InvD (defsK b n k).1 k:=by
  intro k
  induction k with
  | zero=>intro _;exact ⟨rfl,rfl,fun d hd=>by simp [defsK] at hd⟩
  | succ k ih =>
    intro hk
    have h0:=ih (by omega)
    have hp:=defsK_pre hb n k (by omega)
    have hp2:=h0.pre (by omega) hp
    obtain ⟨_,_,_,_,_,_,_,_,_,h9,h10,_⟩:=defsK_inv hb n k (by omega)
    simp only [defsK]
    obtain ⟨m,hm⟩:∃ m:Mk,m=if (k:Int)=n - 1 then (defsK b n k).2 else { (defsK b n k).2 with pos:=(defsK b n k).2.pos+1 }:=⟨_,rfl⟩
    have hms:m.site=(defsK b n k).2.site:=by rw [hm];split <;> rfl
    rw [← hm]
    generalize hth:isTh b n (defsK b n k).2.pos k=th
    have hi:=defS_inc hp m (11+k) th
    have hf:=defS_frame (defsK b n k).1 hp.ok hp.hd hp.hds m (11+k) th
    have hg:=defS_good hp2 m (11+k) th (by rw [hms];omega)
    have hc:=defS_cal hp2 m (11+k) th (by rw [hms];omega)
    have hh:=defS_hd hp.ok m (11+k) th
    have hlen:=hi.len (by omega)
    have hnm:(defS (defsK b n k).1 m (11+k) th).1.name=abc.extract ((11+(k:Int)).tmod 8).toNat ((11+(k:Int)).tmod 8+1).toNat:=rfl
    have hid:(defS (defsK b n k).1 m (11+k) th).1.id=11+k:=rfl
    obtain ⟨n1,n2⟩:=name_ok (show k<5 by omega)
    rw [← hnm] at n1 n2
    have hsite:=hi.rg (defS (defsK b n k).1 m (11+k) th).1.site (by simp [sitesS])
    generalize (defsK b n k).1=f at h0 hp hp2 hi hf hg hc hh hlen hnm hid n1 n2 hsite ⊢
    generalize defS f m (11+k) th=D at hi hf hg hc hh hlen hnm hid n1 n2 hsite ⊢
    have hd:DefOk D.1 f.heads :=
      { hd:=hh
        df:=defB_ok hh (by omega) (by omega) n1 hg hi.nodup (by omega)
        ca:=fun q hq h13=>by
          obtain ⟨x,hx,r⟩:=(hg 1 (by omega) (by omega) q hq).1.ca h13
          refine ⟨x,hx,?_,r⟩
          rw [h0.hds] at hx
          obtain ⟨y,hy,rfl⟩:=List.mem_map.1 hx
          have:=h0.mem hy
          rw [hdOf_id];omega
        cn:=hc
        sm:=fun q hq=>(hg 1 (by omega) (by omega) q hq).1.sm
        fl:=by omega
        nm:=n2
        lo:=by omega }
    refine ⟨?_,?_,?_⟩
    · simp only [addDef,h0.hds,List.map_append,List.map_cons,List.map_nil]
    · simp only [addDef,List.map_append,h0.ids,List.range_succ,List.map_cons,List.map_nil,hid]
    · intro d hd'
      simp only [addDef,List.mem_append,List.mem_singleton] at hd' ⊢
      rcases hd' with hd' | rfl
      · exact (h0.ok d hd').mono fun x hx=>by simp [hx]
      · exact hd.mono fun x hx=>by simp [hx]
structure MadeOk (p:Pg) (k:Nat):Prop where
 k4:1≤k∧k≤4
 dc:p.d=declared
 hds:p.heads=p.defs.map hdOf
 ids:p.defs.map (·.id)=(List.range k).map (fun i:Nat=>11+(i:Int))
 ok:∀ d ∈ p.defs,DefOk d p.heads
 st:Inc 100 1000 (p.defs.flatMap sitesS)
 th:p.threads=thr p.defs∨p.threads=(thr p.defs).take 1
 last:∃ ds d,p.defs=ds++[d]∧isT d=true
theorem made_ok {b:List Int} (hb:∀ x ∈ b,0≤x∧x<256):∃ k,MadeOk (made b) k:=by
 have hr1:=@rnd_nonneg _ 0 4 hb
 have hr2:=@rnd_lt b 0 4 (by omega)
 have hI:=defsK_inc hb (1+rnd b 0 4) (1+rnd b 0 4).toNat (by omega)
 have hD:=invD hb (1+rnd b 0 4) (1+rnd b 0 4).toNat (by omega)
 obtain ⟨_,_,_,_,_,_,_,_,_,_,h10,_⟩:=defsK_inv hb (1+rnd b 0 4) (1+rnd b 0 4).toNat (by omega)
 refine ⟨(1+rnd b 0 4).toNat,⟨by omega,by omega⟩,rfl,hD.hds,hD.ids,hD.ok,hI.wide (by omega) (by omega),?_,last_isT (by omega)⟩
 simp only [made]
 split
 ·exact .inr rfl
 ·exact .inl rfl
theorem pw_map {α:Type} {g:α→Int} {l:List α} {k:Nat} (h:l.map g=(List.range k).map (fun i:Nat=>11+(i:Int))):l.Pairwise (fun a b=>g a<g b):=by
 have:(l.map g).Pairwise (· < ·):=by
  rw [h,List.pairwise_map]
  exact List.pairwise_lt_range.imp fun h=>by omega
 exact List.pairwise_map.1 this
theorem thr_mem {ds:List Df} {t:Int} (h:t ∈ thr ds):∃ d ∈ ds,d.id=t∧isT d=true:=by
 obtain ⟨d,hd,e⟩:=List.mem_map.1 (List.mem_of_mem_take h)
 obtain ⟨h1,h2⟩:=List.mem_filter.1 hd
 exact ⟨d,by simpa using h1,e,h2⟩
theorem declared_ok:declB declared=true:=by decide +kernel
theorem fine_made {d:Df} (h:MadeHd d) (hid:1≤d.id∧d.id≤1073741824):headFine declared (hdOf d)=true:=by
 have w1:w64 (declared.firms - 1)=1:=w64_in (by decide)
 have w2:w64 (declared.parts - 1)=2:=w64_in (by decide)
 have hp:=h.par
 have hg:=h.giv
 simp only [headFine,hdOf,w1,w2,inB_ok hid,inB_ok h.firm,inB_ok h.part,every_ok (n:=12) (l:=d.params) (by omega) h.pok,every_ok (n:=4) (l:=d.given) (by omega) h.gok];rfl
theorem MadeOk.len {p:Pg} {k:Nat} (M:MadeOk p k):p.defs.length=k:=by
 have:=congrArg List.length M.ids
 simpa using this
theorem MadeOk.mem {p:Pg} {k:Nat} (M:MadeOk p k) {d:Df} (hd:d ∈ p.defs):11≤d.id∧d.id<11+k:=by
 have:d.id ∈ p.defs.map (·.id):=List.mem_map.2 ⟨d,hd,rfl⟩
 rw [M.ids] at this
 obtain ⟨i,hi,e⟩:=List.mem_map.1 this
 have:=List.mem_range.1 hi
 omega
theorem MadeOk.right {p:Pg} {k:Nat} (M:MadeOk p k):Right p:=by
 have hk:=M.k4
 have hlen:=M.len
 have hpw:=pw_map M.ids
 exact {
  dc:=by rw [M.dc];exact declared_ok
  hl:=by rw [M.hds];simp;omega
  hid:=by rw [M.hds,List.pairwise_map];exact hpw
  hok:=by
   rw [M.hds,M.dc];intro h hh
   obtain ⟨d,hd,rfl⟩:=List.mem_map.1 hh
   have:=M.mem hd
   exact fine_made (M.ok d hd).hd (by omega)
  dl:=by omega
  did:=hpw
  hof:=fun d hd=>by rw [M.hds];exact List.mem_map.2 ⟨d,hd,rfl⟩
  dok:=fun d hd=>by rw [M.dc];exact (M.ok d hd).df
  ca:=fun d hd=>(M.ok d hd).ca
  st:=M.st.nodup
  tl:=by
   have:(thr p.defs).length≤2:=by simp only [thr,List.length_take];omega
   rcases M.th with e | e <;> rw [e]
   ·omega
   ·rw [List.length_take];omega
  th:=fun t ht=>by
   rcases M.th with e | e <;> rw [e] at ht
   ·exact thr_mem ht
   ·exact thr_mem (List.mem_of_mem_take ht)
  sz:=fun d hd=>by
   have h:=M.ok d hd
   have h1:=h.nm
   have h2:=h.fl
   have h3:=h.cn
   refine ⟨by omega,?_,by omega⟩
   have h4:(sitesS d).length=(flatL 1 d.body).length+1:=by simp [sitesS,sitesL]
   omega }
theorem made_right {b:List Int} (hb:∀ x ∈ b,0≤x∧x<256):Right (made b):=by
 obtain ⟨k,M⟩:=made_ok hb
 exact M.right
structure OrdAt (defs:List Df) (pre l:List Int) (i:Nat) (hi:i<l.length):Prop where
 ca:∃ d ∈ defs,d.id=l[i]∧∀ c ∈ callsS d,(∃ x ∈ defs,x.id=c)→c ∈ pre++l.take i
 le:∀ k (hk:k<l.length),i<k→l[k]<l[i]→∀ d ∈ defs,d.id=l[k]→∃ c ∈ callsS d,(∃ x ∈ defs,x.id=c)∧c ∉ pre++l.take i
structure OrdOk (defs:List Df) (pre rem l:List Int):Prop where
 perm:l.Perm rem
 at_:∀ i hi,OrdAt defs pre l i hi
theorem ret_lab {P:Program} {rs:List ResultVar} {B:List Box} {L L':List Nat} {c c':Nat} {r:D} {e:List D} {x:Exit} (hx:x=.normal∨x=.ret) (h1:(resD P e ⟨B,L',c'⟩ rs).map tupD=some r) (hb:Bd 0 0 r) (hl:∀ k,k ∈ L→k ∈ L') (hc:c≤c') :
  @qI x e ⟨B,L',c'⟩ (retC P rs ⟨B,L,c⟩ r ⟨B,L,c⟩):=by
 have:=ret_loc (P:=P) (rs:=rs) (B:=B) (X:=[]) (e:=e) hx (by simpa using h1) hb hl hc
 simpa using this
mutual
def Sm.sms:Sm→List Sm
 | .mk site op n m v x y c args ptrs body els=>.mk site op n m v x y c args ptrs body els::(smsL body++smsL els)
def smsL:List Sm→List Sm
 | []=>[]
 | x::l=>x.sms++smsL l
end
theorem Sm.sms_eq (x:Sm):x.sms=x::(smsL x.body++smsL x.els):=by cases x;simp only [Sm.sms,Sm.body,Sm.els]
mutual
theorem flat_sms:(x:Sm)→∀ d,(x.flat d).map (·.s)=x.sms
 | .mk site op n m v x y c args ptrs body els=>fun d=>by
  rw [Sm.flat_eq,Sm.sms_eq,List.map_cons,List.map_append]
  simp only [Sm.body,Sm.els,flatL_sms body,flatL_sms els]
theorem flatL_sms:(l:List Sm)→∀ d,(flatL d l).map (·.s)=smsL l
 | []=>fun d=>by simp [flatL,smsL]
 | x::l=>fun d=>by rw [flatL,List.map_append,flat_sms x d,flatL_sms l d,smsL]
end
theorem bd_found (p:Pg) (id:Int):Bd 0 0 (foundD p id):=bd_agg fun x hx=>by
 rcases List.mem_append.1 hx with hx | hx
 ·exact Df.bd _ x hx
 ·simp at hx;subst hx;exact .bool _
theorem t_FindIn (p:Pg) (id:Int) (hlen:p.defs.length<1000000) (s:St):Spec Tryz.prog 21 [.agg p.cells,.int .i64 id] s (foundD p id) s:=by
 obtain ⟨B,L,c⟩:=s
 have hzc:∀ d:Df,∀ b,List.take 13 (d.cells++[D.bool b])=d.cells++[D.bool b]:=fun d b=>rfl
 refine Spec.introN [] Tryz.func21 rfl (by decide) hmix (by kernel_rfl) [ResultVar.cell 4 61] 28 rfl rfl ?_
 simp only [vqM,vt68,zA,zS]
 refine awN_keep [1,2,4,5] ?_
 simp only [vke,zB,zA]
 refine awN_forR hmix p.defs.length (fun k e s=>e=[J,.int .i64 id,.box B.length 0,J,.box (B.length+1) 0,.int .i64 (k:Int),J,J,J,J,J,J,J,J,J,J,J,J,J,J,J,J,J,J,J,J,J,J]∧s=⟨B++[.cells p.cells,.cells (Df.zc++[.bool false])],L,c⟩∧∀ j (h:j<p.defs.length),j<k→decide (p.defs[j].id=id)=false) ?_ ?_ 0 _ _ (Nat.zero_le _) ⟨rfl,rfl,by intro j _ h;omega⟩
 ·rintro k e s hk ⟨rfl,rfl,hI⟩ ih
  have hx:p.defs[k]? = some p.defs[k]:=List.getElem?_eq_getElem hk
  have hg:(dfCells p.defs)[k]? = some (p.defs[k].cells):=by simp [dfCells,hx]
  have hklt:((k:Int)<(p.defs.length:Int))=True:=by simp;exact hk
  simp only [vqM,vt68,zA,dfCells_len,Df.zc,hklt,decide_true,natle0,Int.toNat_natCast,hg]
  refine ifI_intro (fun hc=>?_) (fun hc=>?_)
  ·simp only [vqM,vt68,zA,zL,natle0,Int.toNat_natCast,hg]
   have hf:findS p id=some p.defs[k]:=find_at hx hc hI
   refine ret_loc (.inr rfl) ?_ (bd_found p id) (fun _ h=>h) (Nat.le_refl _)
   simp only [vqM,vt68,zA,foundD,hf,hzc,Option.getD_some,Option.isSome_some]
  ·simp only [vqM]
   rw [wrap_succ (by omega)]
   refine awN_keep [1,2,4,5] ?_
   simp only [vke,zB,zA]
   refine ih _ _ ⟨rfl,rfl,fun j hj hjk=>?_⟩
   by_cases e:j=k
   ·subst e;exact hc
   ·exact hI j hj (by omega)
 ·rintro e s ⟨rfl,rfl,hI⟩
  have hklt:((p.defs.length:Int)<(p.defs.length:Int))=False:=by simp
  simp only [vqM,vt68,zA,dfCells_len,Df.zc,hklt,decide_false]
  have hf:findS p id=none:=find_no hI
  refine ret_loc (.inr rfl) ?_ (bd_found p id) (fun _ h=>h) (Nat.le_refl _)
  simp only [vqM,vt68,zA,foundD,hf,Option.getD_none,Option.isSome_none]
  rfl
mutual
def wEx:Ex→List Int
 | .mk op n v a=>op::n::v::(a.length:Int)::wExL a
def wExL:List Ex→List Int
 | []=>[]
 | x::l=>wEx x++wExL l
end
def wExs (l:List Ex):List Int:=(l.length:Int)::wExL l
mutual
def wCo:Co→List Int
 | .mk op a c=>op::(wExs a++(c.length:Int)::wCoL c)
def wCoL:List Co→List Int
 | []=>[]
 | x::l=>wCo x++wCoL l
end
def wIs (l:List Int):List Int:=(l.length:Int)::l
mutual
def wSm:Sm→List Int
 | .mk site op n m v x y c args ptrs body els=>[site,op,n,m,v]++wEx x++wEx y++wCo c++wExs args++wIs ptrs++((body.length:Int)::wSmL body)++((els.length:Int)::wSmL els)
def wSmL:List Sm→List Int
 | []=>[]
 | x::l=>wSm x++wSmL l
end
def wSms (l:List Sm):List Int:=(l.length:Int)::wSmL l
theorem wExL_fm:∀ l:List Ex,wExL l=l.flatMap wEx
 | []=>rfl
 | x::l=>by rw [wExL,wExL_fm l];rfl
theorem wCoL_fm:∀ l:List Co,wCoL l=l.flatMap wCo
 | []=>rfl
 | x::l=>by rw [wCoL,wCoL_fm l];rfl
theorem wSmL_fm:∀ l:List Sm,wSmL l=l.flatMap wSm
 | []=>rfl
 | x::l=>by rw [wSmL,wSmL_fm l];rfl
theorem wEx_eq (x:Ex):wEx x=[x.op,x.n,x.v]++wExs x.a:=by cases x;simp only [wEx,Ex.op,Ex.n,Ex.v,Ex.a,wExs];rfl
theorem wCo_eq (x:Co):wCo x=[x.op]++wExs x.a++[(x.c.length:Int)]++wCoL x.c:=by cases x;simp only [wCo,Co.op,Co.a,Co.c];simp
theorem wSm_eq (x:Sm):wSm x=[x.site,x.op,x.n,x.m,x.v]++wEx x.x++wEx x.y++wCo x.c++wExs x.args++wIs x.ptrs++wSms x.body++wSms x.els:=by
 cases x;simp only [wSm,Sm.site,Sm.op,Sm.n,Sm.m,Sm.v,Sm.x,Sm.y,Sm.c,Sm.args,Sm.ptrs,Sm.body,Sm.els,wSms]
theorem fm_take {α:Type} (f:α→List Int) {l:List α} {k:Nat} (h:k<l.length):(l.take (k+1)).flatMap f=(l.take k).flatMap f++f l[k]:=by
 rw [List.take_add_one,List.getElem?_eq_getElem h,List.flatMap_append];simp
theorem fm_take_le {α:Type} (f:α→List Int) {l:List α} {k:Nat}:((l.take k).flatMap f).length≤(l.flatMap f).length:=by
 have h:l.flatMap f=(l.take k).flatMap f++(l.drop k).flatMap f:=by rw [← List.flatMap_append,List.take_append_drop]
 rw [h,List.length_append];omega
theorem conG (L:List Nat) (x:Nat):(x::L).contains x=true:=by simp
theorem allW (m:List Int):((intCells m).all fun x=>x.length == 1)=true:=by simp [intCells]
theorem allW2 (m:List Int):(((intCells m).all fun x=>x.length == 1)=true)=True:=eq_true (allW m)
theorem allW1 (m:List Int):(∀ z,z ∈ intCells m→z.length=1)=True:=eq_true fun z hz=>by simp only [intCells,List.mem_map] at hz;obtain ⟨x,_,rfl⟩:=hz;rfl
theorem intCells_appc (l m:List Int):intCells l++intCells m=intCells (l++m):=by simp [intCells]
theorem ic1 (a:Int):[[D.int .i64 a]]=intCells [a]:=rfl
theorem icc (a:Int) (l:List Int):[D.int .i64 a]::intCells l=intCells (a::l):=rfl
def WEx (x:Ex):Prop:=∀ s:St,(wEx x).length≤1000000→Spec Tryz.prog 221 [.agg x.cells] s (.slice .none (intCells (wEx x))) s
def WExs (l:List Ex):Prop:=∀ s:St,(wExs l).length≤1000000→Spec Tryz.prog 223 [.slice .none (Ex.encs l)] s (.slice .none (intCells (wExs l))) s
def WCo (x:Co):Prop:=∀ s:St,(wCo x).length≤1000000→Spec Tryz.prog 222 [.agg x.cells] s (.slice .none (intCells (wCo x))) s
def WSm (x:Sm):Prop:=∀ s:St,(wSm x).length≤1000000→Spec Tryz.prog 171 [.agg x.cells] s (.slice .none (intCells (wSm x))) s
def WSms (l:List Sm):Prop:=∀ s:St,(wSms l).length≤1000000→Spec Tryz.prog 125 [.slice .none (Sm.encs l)] s (.slice .none (intCells (wSms l))) s
theorem wEx_pos (x:Ex):1≤(wEx x).length:=by rw [wEx_eq];simp
theorem wCo_pos (x:Co):1≤(wCo x).length:=by rw [wCo_eq];simp
theorem wSm_pos (x:Sm):1≤(wSm x).length:=by rw [wSm_eq];simp
theorem t_exprs_of (l:List Ex) (ih:∀ x ∈ l,WEx x):WExs l:=by
 intro s hl
 obtain ⟨B,L,c⟩:=s
 have hll:(wExs l).length=(wExL l).length+1:=by simp [wExs]
 have hle:∀ m:List Ex,m.length≤(wExL m).length:=fun m=>by
  induction m with
  | nil=>simp
  | cons x m ih=>have:=wEx_pos x;rw [wExL,List.length_append,List.length_cons];omega
 have hle:=hle l
 refine Spec.introN [] Tryz.func223 rfl (by decide) hmix (by kernel_rfl) [ResultVar.tmp 2] 22 rfl rfl ?_
 simp only [vqM,vt69,zA,zS,zM,zL,exCells_len]
 refine awN_keep [0,3,4] ?_
 simp only [vke,zB,zA]
 refine awN_forR hmix l.length (fun k e s=>∃ out:List Int,out=(l.length:Int)::wExL (l.take k)∧e=[.slice .none (Ex.encs l),J,J,.slice (ownF c 1 k) (intCells out),.int .i64 (k:Int),J,J,J,J,J,J,J,J,J,J,J,J,J,J,J,J,J]∧s=⟨B,liveN L c k,c+k⟩) ?_ ?_ 0 _ _ (Nat.zero_le _) ⟨[(l.length:Int)],by simp [wExL],rfl,rfl⟩
 ·rintro k e s hk ⟨out,hout,rfl,rfl⟩ ihl
  have hx:l[k]? = some l[k]:=List.getElem?_eq_getElem hk
  have hg:(Ex.encs l)[k]? = some l[k].cells:=by simp [Ex.encs_map,hx]
  have hklt:((k:Int)<(l.length:Int))=True:=by simp;exact hk
  have hnext:(l.length:Int)::wExL (l.take (k+1))=out++wEx l[k]:=by rw [hout,wExL_fm,wExL_fm,fm_take _ hk];rfl
  have hcnt:(out++wEx l[k]).length≤(wExL l).length+1:=by
   rw [← hnext,List.length_cons,wExL_fm,wExL_fm]
   have:=fm_take_le wEx (l:=l) (k:=k+1)
   omega
  have ih1:=ih _ (List.getElem_mem hk)
  have hof:ownFits (ownF c 1 k) (intCells out) 1 ⟨B,liveN L c k,c+k⟩=true:=ownF_fits (intCells_each out)
  have hl1:(out.length+(wEx l[k]).length≤1000000)=True:=eq_true (by rw [List.length_append] at hcnt;omega)
  have hwl:(wEx l[k]).length≤1000000:=by rw [List.length_append] at hcnt;omega
  generalize l[k]=x at hx hg hnext ih1 hl1 hwl
  simp only [vqM,vt69,exCells_len,hklt,decide_true,natle0,Int.toNat_natCast,hg]
  refine callI_spec (ih1 _ hwl) ?_
  simp only [vqM,vt69,zA,zL,hof,intCells_len,hl1,allW1,ownF_relab,intCells_appc]
  rw [wrap_succ (by omega)]
  refine awN_keep [0,3,4] ?_
  simp only [vke,zB,zA]
  exact ihl _ _ ⟨_,hnext.symm,by simp [ownF],rfl⟩
 ·rintro e s ⟨out,hout,rfl,rfl⟩
  have hklt:((l.length:Int)<(l.length:Int))=False:=by simp
  rw [List.take_length] at hout
  simp only [vqM,vt69,exCells_len,hklt,decide_false]
  refine ret_lab (.inr rfl) ?_ (bd_intSl _) (fun _ h=>mem_liveN h) (by omega)
  simp only [vqM]
  rw [hout];rfl
theorem t_Expr_of (x:Ex) (ih:WExs x.a):WEx x:=by
 intro s hl
 obtain ⟨B,L,c⟩:=s
 have hl2:(wExs x.a).length+3≤1000000:=by rw [wEx_eq] at hl;simp at hl;omega
 have hl3:(3+(wExs x.a).length≤1000000)=True:=eq_true (by omega)
 refine Spec.introN [(1,.text [false,false,false,false,false,false,false,false,false,true,true,false] [(1,1),(3,1),(5,1)])] Tryz.func221 rfl (by decide) hmix (by kernel_rfl) [ResultVar.tmp 2] 14 rfl rfl ?_
 simp only [vqM,vt69,zA,zS,zM,zL,zB]
 refine callI_spec (ih _ (by omega)) ?_
 simp only [vqM,vt69,zA,zL,ic1,icc,intCells_len,hl3,allW1,allW2,intCells_appc]
 refine ret_loc (.inr rfl) ?_ (bd_intSl _) (fun _ h=>List.mem_cons_of_mem _ h) (by omega)
 simp only [vqM]
 rw [wEx_eq]
 rfl
mutual
theorem t_wEx:(x:Ex)→WEx x
 | .mk op n v a=>t_Expr_of (.mk op n v a) (t_exprs_of a (t_wExL a))
theorem t_wExL:(l:List Ex)→∀ x ∈ l,WEx x
 | []=>by intro x hx;simp at hx
 | y::l=>by
  intro x hx
  rcases List.mem_cons.1 hx with e | hx
  ·rw [e];exact t_wEx y
  ·exact t_wExL l x hx
end
theorem t_wExs (l:List Ex):WExs l:=t_exprs_of l (t_wExL l)
theorem t_Cond_of (x:Co) (ih:∀ z ∈ x.c,WCo z):WCo x:=by
 intro s hl
 obtain ⟨B,L,c⟩:=s
 rw [wCo_eq] at hl
 simp only [List.length_append,List.length_cons,List.length_nil] at hl
 have hl2:(1+(wExs x.a).length≤1000000)=True:=eq_true (by omega)
 have hl3:(1+(wExs x.a).length+1≤1000000)=True:=eq_true (by omega)
 have hle:x.c.length≤(wCoL x.c).length:=by
  induction x.c with
  | nil=>simp
  | cons x m ih=>have:=wCo_pos x;rw [wCoL,List.length_append,List.length_cons];omega
 refine Spec.introN [(1,.text [false,false,false,false,false,true,true,false,false,false,false,true,false] [(1,1),(8,0),(8,1),(9,0),(9,1)])] Tryz.func222 rfl (by decide) hmix (by kernel_rfl) [ResultVar.tmp 2] 33 rfl rfl ?_
 simp only [vqM,vt70,zA,zS,zM,zL,zB]
 refine callI_spec (t_wExs _ _ (by omega)) ?_
 simp only [vqM,vt70,zA,zM,zL,coCells_len,ic1,intCells_len,hl2,allW1,allW2,conG,intCells_appc]
 refine needI_intro (by omega) ?_
 simp only [vqM,vt70,zB,coCells_len,List.erase_cons_head,intCells_appc]
 refine awN_keep [1,3,4] ?_
 simp only [vke,zB,zA]
 refine awN_forR hmix x.c.length (fun k e s=>∃ out:List Int,out=[x.op]++wExs x.a++[(x.c.length:Int)]++wCoL (x.c.take k)∧e=[J,.box B.length 0,J,.slice (.lab (c+1+k) 1) (intCells out),.int .i64 (k:Int),J,J,J,J,J,J,J,J,J,J,J,J,J,J,J,J,J,J,J,J,J,J,J,J,J,J,J,J]∧s=⟨B++[.cells x.cells],(c+1+k)::L,c+1+k+1⟩) ?_ ?_ 0 _ _ (Nat.zero_le _) ⟨_,rfl,by simp [wCoL],rfl⟩
 ·rintro k e s hk ⟨out,hout,rfl,rfl⟩ ihl
  have hx:x.c[k]? = some x.c[k]:=List.getElem?_eq_getElem hk
  have hg:(Co.encs x.c)[k]? = some x.c[k].cells:=by simp [Co.encs_map,hx]
  have hklt:((k:Int)<(x.c.length:Int))=True:=by simp;exact hk
  have hnext:[x.op]++wExs x.a++[(x.c.length:Int)]++wCoL (x.c.take (k+1))=out++wCo x.c[k]:=by rw [hout,wCoL_fm,wCoL_fm,fm_take _ hk];simp only [List.append_assoc]
  have hcnt:(out++wCo x.c[k]).length≤1+(wExs x.a).length+1+(wCoL x.c).length:=by
   rw [← hnext]
   simp only [List.length_append,List.length_cons,List.length_nil]
   rw [wCoL_fm,wCoL_fm]
   have:=fm_take_le wCo (l:=x.c) (k:=k+1)
   omega
  rw [List.length_append] at hcnt
  have ih1:=ih _ (List.getElem_mem hk)
  generalize x.c[k]=y at hx hg hnext ih1 hcnt
  simp only [vqM,vt70,zA,zB,coCells_len,hklt,decide_true,natle0,Int.toNat_natCast,hg]
  refine callI_spec (ih1 _ (by omega)) ?_
  simp only [vqM,vt70,zA,zL,intCells_len,allW1,conG]
  refine needI_intro (by omega) ?_
  simp only [vqM,List.erase_cons_head,intCells_appc]
  rw [wrap_succ (by omega)]
  refine awN_keep [1,3,4] ?_
  simp only [vke,zB,zA]
  exact ihl _ _ ⟨_,hnext.symm,rfl,rfl⟩
 ·rintro e s ⟨out,hout,rfl,rfl⟩
  have hklt:((x.c.length:Int)<(x.c.length:Int))=False:=by simp
  rw [List.take_length] at hout
  simp only [vqM,vt70,zA,zB,coCells_len,hklt,decide_false]
  refine ret_loc (.inr rfl) ?_ (bd_intSl _) (fun _ h=>List.mem_cons_of_mem _ h) (by omega)
  simp only [vqM]
  rw [hout,wCo_eq]
mutual
theorem t_wCo:(x:Co)→WCo x
 | .mk op a c=>t_Cond_of (.mk op a c) (t_wCoL c)
theorem t_wCoL:(l:List Co)→∀ x ∈ l,WCo x
 | []=>by intro x hx;simp at hx
 | y::l=>by
  intro x hx
  rcases List.mem_cons.1 hx with e | hx
  ·rw [e];exact t_wCo y
  ·exact t_wCoL l x hx
end
theorem t_ints07 (l:List Int) (hl:l.length<1000000) (s:St):Spec Tryz.prog 143 [.slice .none (intCells l)] s (.slice .none (intCells (wIs l))) s:=by
 obtain ⟨B,L,c⟩:=s
 refine Spec.introN [] Tryz.func143 rfl (by decide) hmix (by kernel_rfl) [ResultVar.tmp 2] 8 rfl rfl ?_
 simp only [vqM,vt25,zA,zS,zM,zL,ic1,intCells_len,allW1,allW2]
 refine needI_intro (by omega) ?_
 simp only [vqM,intCells_appc]
 refine ret_lab (.inr rfl) ?_ (bd_intSl _) (fun _ h=>List.mem_cons_of_mem _ h) (by omega)
 simp only [vqM]
 rfl
theorem t_stmts_of (l:List Sm) (ih:∀ x ∈ l,WSm x):WSms l:=by
 intro s hl
 obtain ⟨B,L,c⟩:=s
 have hll:(wSms l).length=(wSmL l).length+1:=by simp [wSms]
 have hle:∀ m:List Sm,m.length≤(wSmL m).length:=fun m=>by
  induction m with
  | nil=>simp
  | cons x m ih=>have:=wSm_pos x;rw [wSmL,List.length_append,List.length_cons];omega
 have hle:=hle l
 refine Spec.introN [] Tryz.func125 rfl (by decide) hmix (by kernel_rfl) [ResultVar.tmp 2] 22 rfl rfl ?_
 simp only [vqM,vt71,zA,zS,zM,zL,smCells_len]
 refine awN_keep [0,3,4] ?_
 simp only [vke,zB,zA]
 refine awN_forR hmix l.length (fun k e s=>∃ out:List Int,out=(l.length:Int)::wSmL (l.take k)∧e=[.slice .none (Sm.encs l),J,J,.slice (ownF c 1 k) (intCells out),.int .i64 (k:Int),J,J,J,J,J,J,J,J,J,J,J,J,J,J,J,J,J]∧s=⟨B,liveN L c k,c+k⟩) ?_ ?_ 0 _ _ (Nat.zero_le _) ⟨[(l.length:Int)],by simp [wSmL],rfl,rfl⟩
 ·rintro k e s hk ⟨out,hout,rfl,rfl⟩ ihl
  have hx:l[k]? = some l[k]:=List.getElem?_eq_getElem hk
  have hg:(Sm.encs l)[k]? = some l[k].cells:=by simp [Sm.encs_map,hx]
  have hklt:((k:Int)<(l.length:Int))=True:=by simp;exact hk
  have hnext:(l.length:Int)::wSmL (l.take (k+1))=out++wSm l[k]:=by rw [hout,wSmL_fm,wSmL_fm,fm_take _ hk];rfl
  have hcnt:(out++wSm l[k]).length≤(wSmL l).length+1:=by
   rw [← hnext,List.length_cons,wSmL_fm,wSmL_fm]
   have:=fm_take_le wSm (l:=l) (k:=k+1)
   omega
  have ih1:=ih _ (List.getElem_mem hk)
  have hof:ownFits (ownF c 1 k) (intCells out) 1 ⟨B,liveN L c k,c+k⟩=true:=ownF_fits (intCells_each out)
  have hl1:(out.length+(wSm l[k]).length≤1000000)=True:=eq_true (by rw [List.length_append] at hcnt;omega)
  have hwl:(wSm l[k]).length≤1000000:=by rw [List.length_append] at hcnt;omega
  generalize l[k]=x at hx hg hnext ih1 hl1 hwl
  simp only [vqM,vt71,smCells_len,hklt,decide_true,natle0,Int.toNat_natCast,hg]
  refine callI_spec (ih1 _ hwl) ?_
  simp only [vqM,vt71,zA,zL,hof,intCells_len,hl1,allW1,ownF_relab,intCells_appc]
  rw [wrap_succ (by omega)]
  refine awN_keep [0,3,4] ?_
  simp only [vke,zB,zA]
  exact ihl _ _ ⟨_,hnext.symm,by simp [ownF],rfl⟩
 ·rintro e s ⟨out,hout,rfl,rfl⟩
  have hklt:((l.length:Int)<(l.length:Int))=False:=by simp
  rw [List.take_length] at hout
  simp only [vqM,vt71,smCells_len,hklt,decide_false]
  refine ret_lab (.inr rfl) ?_ (bd_intSl _) (fun _ h=>mem_liveN h) (by omega)
  simp only [vqM]
  rw [hout];rfl
theorem t_Stmt_of (x:Sm) (ih1:WSms x.body) (ih2:WSms x.els):WSm x:=by
 intro s hl
 obtain ⟨B,L,c⟩:=s
 rw [wSm_eq] at hl
 simp only [List.length_append,List.length_cons,List.length_nil] at hl
 have hp:(wIs x.ptrs).length=x.ptrs.length+1:=by simp [wIs]
 refine Spec.introN [(1,.text [false,false,false,false,false,false,false,false,false,false,false,false,false,true,true,false] [(1,1),(3,1),(5,1),(7,1),(9,1)]),(2,.text [false,false,false,true,true,false,false,true,true,false,false,true,true,false] [(6,0),(6,1),(10,0),(10,1),(10,2),(10,3)]),(3,.text [false,false,false,true,true,false,false,true,true,false,false,true,true,false] [(6,0),(6,1),(10,0),(10,1),(10,2),(10,3)])] Tryz.func171 rfl (by decide) hmix (by kernel_rfl) [ResultVar.tmp 2] 45 rfl rfl ?_
 simp only [vqM,vt72,zA,zS,zM,zL,zB]
 refine callI_spec (t_wEx _ _ (by omega)) ?_
 simp only [vqM,vt72,zA,zL,ic1,icc,intCells_len,allW1,allW2]
 refine needI_intro (by omega) ?_
 simp only [vqM,vt72,zA,zS,zL,zB,intCells_appc]
 refine callI_spec (t_wEx _ _ (by omega)) ?_
 simp only [vqM,vt72,zA,zL,intCells_len,allW1,conG]
 refine needI_intro (by omega) ?_
 simp only [vqM,vt72,zA,zS,zL,List.erase_cons_head,intCells_appc]
 refine callI_spec (t_wCo _ _ (by omega)) ?_
 simp only [vqM,vt72,zA,zL,intCells_len,List.length_append,allW1,conG]
 refine needI_intro (by omega) ?_
 simp only [vqM,vt72,zA,List.erase_cons_head,intCells_appc]
 refine callI_spec (t_wExs _ _ (by omega)) ?_
 simp only [vqM,vt72,zA,zL,intCells_len,List.length_append,allW1,conG]
 refine needI_intro (by omega) ?_
 simp only [vqM,vt72,zA,zS,zL,zB,List.erase_cons_head,intCells_appc]
 refine callI_spec (t_ints07 _ (by omega) _) ?_
 simp only [vqM,vt72,zA,zL,intCells_len,List.length_append,allW1,conG]
 refine needI_intro (by omega) ?_
 simp only [vqM,vt72,zA,List.erase_cons_head,intCells_appc]
 refine callI_spec (ih1 _ (by omega)) ?_
 simp only [vqM,vt72,zA,zL,intCells_len,List.length_append,allW1,conG]
 refine needI_intro (by omega) ?_
 simp only [vqM,vt72,zA,List.erase_cons_head,intCells_appc]
 refine callI_spec (ih2 _ (by omega)) ?_
 simp only [vqM,vt72,zA,zL,intCells_len,List.length_append,allW1,conG]
 refine needI_intro (by omega) ?_
 simp only [vqM,vt72,List.erase_cons_head,intCells_appc]
 refine ret_loc (.inr rfl) ?_ (bd_intSl _) (fun _ h=>List.mem_cons_of_mem _ h) (by omega)
 simp only [vqM]
 rw [wSm_eq]
 simp only [List.append_assoc,List.cons_append,List.nil_append]
mutual
theorem t_wSm:(x:Sm)→WSm x
 | .mk site op n m v x y c args ptrs body els=>t_Stmt_of (.mk site op n m v x y c args ptrs body els) (t_stmts_of body (t_wSmL body)) (t_stmts_of els (t_wSmL els))
theorem t_wSmL:(l:List Sm)→∀ x ∈ l,WSm x
 | []=>by intro x hx;simp at hx
 | y::l=>by
  intro x hx
  rcases List.mem_cons.1 hx with e | hx
  ·rw [e];exact t_wSm y
  ·exact t_wSmL l x hx
end
theorem t_wSms (l:List Sm):WSms l:=t_stmts_of l (t_wSmL l)
end Go.V
