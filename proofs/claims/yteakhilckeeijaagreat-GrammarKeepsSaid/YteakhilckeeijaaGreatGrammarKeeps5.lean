/-
  The value-level logic and its contracts, part 5 (texts S10, S11, S12, V27, V28, G1, G2, G3, S13, S14, S15, G4, G5, G6).
-/
import Derived.Test.YteakhilckeeijaaGreatGrammarKeeps4
import Derived.Test.YteakhilckeeijaaGreatGrammarKeeps2
set_option linter.all false
set_option linter.unusedSimpArgs false
set_option linter.unusedVariables false
set_option linter.unnecessarySimpa false
namespace Go.V
open Go.Proofs
set_option maxRecDepth 20000
set_option maxHeartbeats 2000000

theorem ret_cell {P:Program} {rs:List ResultVar} {B T X:List Box} {L L':List Nat} {c c':Nat} {xs ys:List D} {r:D} {e:List D} {x:Exit} (hx:x = .normal ∨ x = .ret) (h1:(resD P e ⟨B ++ .cells ys :: (T ++ X),L',c'⟩ rs).map tupD = some r) (hb:Bd 0 0 r) (hy:∀ d ∈ ys,Bd 0 0 d) (hl:∀ k,k ∈ L→k ∈ L') (hc:c ≤ c') :
    @qI x e ⟨B ++ .cells ys :: (T ++ X),L',c'⟩ (retC P rs ⟨B ++ .cells xs :: T,L,c⟩ r ⟨B ++ .cells ys :: T,L,c⟩):=by
  unfold retC
  obtain ⟨ds,h1,h2⟩:=Option.map_eq_some_iff.1 h1
  rcases hx with rfl | rfl <;> exact ⟨ds,h1,h2,leave_one (fun nb => fun d hd => .inr ((hy d hd).mono (Nat.zero_le _) (Nat.zero_le _))) hl hc,hb.mono (Nat.zero_le _) (Nat.zero_le _)⟩
theorem ret_cell2 {P:Program} {rs:List ResultVar} {B T X:List Box} {z:Box} {L L':List Nat} {c c':Nat} {xs ys:List D} {r:D} {e:List D} {x:Exit} (hx:x = .normal ∨ x = .ret) (h1:(resD P e ⟨B ++ z :: .cells ys :: (T ++ X),L',c'⟩ rs).map tupD = some r) (hb:Bd 0 0 r) (hy:∀ d ∈ ys,Bd 0 0 d) (hl:∀ k,k ∈ L→k ∈ L') (hc:c ≤ c') :
    @qI x e ⟨B ++ z :: .cells ys :: (T ++ X),L',c'⟩ (retC P rs ⟨B ++ z :: .cells xs :: T,L,c⟩ r ⟨B ++ z :: .cells ys :: T,L,c⟩):=by
  have e1:∀ q:List Box,(B ++ [z]) ++ q = B ++ z :: q:=by simp
  have:=ret_cell (P:=P) (rs:=rs) (B:=B ++ [z]) (T:=T) (X:=X) (L:=L) (L':=L') (c:=c) (c':=c') (xs:=xs) (ys:=ys) (r:=r) (e:=e) hx (by rw [e1]; exact h1) hb hy hl hc
  rw [e1,e1,e1] at this
  exact this
def headOk (p:Pg) (last:Int) (h:Hd):Bool :=
  inB h.id (w64 (last + 1)) 1073741824 && inB h.firm 0 (w64 (p.d.firms - 1)) && inB h.part 0 (w64 (p.d.parts - 1)) && everyB h.params 12 rightRange && everyB h.given 4 rightRange
theorem t_heads1 (p:Pg) (h:Hd) (last:Int) (B X:List Box) (L:List Nat) (c:Nat) :
    Spec Tryz.prog 63 [.agg h.cells,.box (B.length + 1) 0,.box B.length 0] ⟨B ++ .cells p.cells :: .cells [.int .i64 last] :: X,L,c⟩ (.bool (headOk p last h)) ⟨B ++ .cells p.cells :: .cells [.int .i64 h.id] :: X,L,c⟩:=by
  refine Spec.introN [(1,.cut)] Tryz.func63 rfl (by decide) hmix (by kernel_rfl) [ResultVar.tmp 4] 42 rfl rfl ?_
  simp only [vqM,vt54,Tryz.f63,Nat.reduceAdd,Nat.reduceSub,Nat.reduceMul,Nat.reduceLeDiff,Nat.reduceEqDiff,Nat.reduceBEq,reduceCtorEq,rgCells_len,w64_eq]
  refine seq_join hmix [1,3,5] [.junk,.box (B.length + 1) 0,.junk,.box (B.length + (X.length + 2)) 0,.junk,.bool (headOk p last h),.junk,.junk,.junk,.junk,.junk,.junk,.junk,.junk,.junk,.junk,.junk,.junk,.junk,.junk,.junk,.junk,.junk,.junk,.junk,.junk,.junk,.junk,.junk,.junk,.junk,.junk,.junk,.junk,.junk,.junk,.junk,.junk,.junk,.junk,.junk,.junk] (fun s => s = ⟨B ++ .cells p.cells :: .cells [.int .i64 last] :: (X ++ [.cells h.cells]),L,c⟩) ?_ ?_
  · simp only [vqM,vt54,Nat.reduceAdd,Nat.reduceSub,Nat.reduceMul,Nat.reduceLeDiff,Nat.reduceEqDiff,Nat.reduceBEq,reduceCtorEq,rgCells_len,w64_eq]
    repeat' (first
      | ((with_reducible refine is_call ?_); refine callI_spec (t_in _ _ _ _) ?_; simp only [vqM,vt54,Nat.reduceAdd,Nat.reduceSub,Nat.reduceMul,Nat.reduceLeDiff,Nat.reduceEqDiff,Nat.reduceBEq,reduceCtorEq,rgCells_len,w64_eq])
      | ((with_reducible refine is_call ?_); refine callI_spec (t_everyRg _ rightRange _ _ _ _ _ rfl rfl rfl fun x _ Y => c_rightRange x _) ?_; simp only [vqM,vt54,Nat.reduceAdd,Nat.reduceSub,Nat.reduceMul,Nat.reduceLeDiff,Nat.reduceEqDiff,Nat.reduceBEq,reduceCtorEq,rgCells_len,w64_eq])
      | (with_reducible refine ifI_intro (fun hc => ?_) (fun hc => ?_) <;> simp only [vqM,vt54,hc,Nat.reduceAdd,Nat.reduceSub,Nat.reduceMul,Nat.reduceLeDiff,Nat.reduceEqDiff,Nat.reduceBEq,reduceCtorEq,rgCells_len,w64_eq])
      | ((with_reducible refine is_q ?_); refine meet_intro ⟨?_,rfl⟩ <;> simp only [vke,Nat.reduceBEq,Nat.reduceAdd] <;> (first | (simp only [headOk, *,Bool.true_and,Bool.false_and,Bool.and_true,Bool.and_false,Bool.true_or,Bool.false_or,Bool.or_true,Bool.or_false,Bool.not_true,Bool.not_false,cond_true,cond_false,if_true,if_false]; done) | (simp_all [headOk]; done) | (simp_all [headOk]; omega))))
  rintro s rfl
  simp only [vqM,vt54,Nat.reduceAdd,Nat.reduceSub,Nat.reduceMul,Nat.reduceLeDiff,Nat.reduceEqDiff,Nat.reduceBEq,reduceCtorEq]
  refine ret_cell2 (.inr rfl) ?_ (.bool _) (fun d hd => by simp at hd; subst hd; exact .int _ _) (fun _ h => h) (Nat.le_refl _)
  simp only [vqM,vt54,Nat.reduceAdd,Nat.reduceSub,Nat.reduceMul,Nat.reduceLeDiff,Nat.reduceEqDiff,Nat.reduceBEq,reduceCtorEq]
theorem t_idxHd (f:D) (q:Nat→Bool) (l:List Hd) (S:Nat→St) (hp:∀ k x,l[k]? = some x→CallV Tryz.prog f [.agg x.cells] (S k) (.bool (q k)) (S (k + 1))) :
    SpecQ Tryz.prog 135 [.slice .none (hdCells l),f] (S 0) fun r s => ∃ n:Int,r = .int .i64 n∧(∃ k,s = S k)∧decide (n ≥ 0) = (List.range l.length).any q:=by
  refine SpecQ.small fun hsm => ?_
  have hlen:=(hsm _ (.head _)).len
  rw [hdCells_len] at hlen
  clear hsm
  refine SpecQ.introA [] Tryz.func135 rfl (by decide) hmix (by kernel_rfl) [ResultVar.tmp 4] 19 rfl rfl ?_
  simp only [vqM,vt55,Tryz.f135,Nat.reduceAdd,Nat.reduceSub,Nat.reduceMul,Nat.reduceLeDiff,Nat.reduceEqDiff,Nat.reduceBEq,reduceCtorEq,hdCells_len]
  refine awN_keep [0,1,7,8] ?_
  simp only [vke,Nat.reduceBEq,Nat.reduceAdd]
  refine awN_for hmix l.length (fun k => [.slice .none (hdCells l),f,.junk,.junk,.junk,.junk,.junk,.int .i64 l.length,.int .i64 (k:Int),.junk,.junk,.junk,.junk,.junk,.junk,.junk,.junk,.junk,.junk]) S (fun k => ∀ j,j < k→q j = false) ?_ ?_ 0 (Nat.zero_le _) (by intro j h; omega)
  · intro k hk hI ih
    have hx:l[k]? = some l[k]:=List.getElem?_eq_getElem hk
    have hg:(hdCells l)[k]? = some (l[k].cells):=by simp [hdCells,hx]
    have hklt:((k:Int) < (l.length:Int)) = True:=by simp; exact hk
    simp only [vqM,vt55,Nat.reduceAdd,Nat.reduceSub,Nat.reduceMul,Nat.reduceLeDiff,Nat.reduceEqDiff,Nat.reduceBEq,reduceCtorEq,hklt,decide_true,natle0,Int.toNat_natCast,hg]
    refine callI_of (hp _ _ hx) ?_
    simp only [vqM,vt55,Nat.reduceAdd,Nat.reduceSub,Nat.reduceMul,Nat.reduceLeDiff,Nat.reduceEqDiff,Nat.reduceBEq,reduceCtorEq]
    refine ifI_intro (fun hc => ?_) (fun hc => ?_)
    · simp only [vqM,vt55,Nat.reduceAdd,Nat.reduceSub,Nat.reduceMul,Nat.reduceLeDiff,Nat.reduceEqDiff,Nat.reduceBEq,reduceCtorEq]
      refine retA (.inr rfl) (r:=.int .i64 k) ?_ ⟨k,rfl,⟨_,rfl⟩,?_⟩
      · simp only [vqM,vt55,Nat.reduceAdd,Nat.reduceSub,Nat.reduceMul,Nat.reduceLeDiff,Nat.reduceEqDiff,Nat.reduceBEq,reduceCtorEq]
      · have:(List.range l.length).any q = true:=List.any_eq_true.2 ⟨k,List.mem_range.2 hk,hc⟩
        rw [this]; simp
    · simp only [vqM,vt55,Nat.reduceAdd,Nat.reduceSub,Nat.reduceMul,Nat.reduceLeDiff,Nat.reduceEqDiff,Nat.reduceBEq,reduceCtorEq]
      rw [wrap_succ (by omega)]
      refine awN_keep [0,1,7,8] ?_
      simp only [vke,Nat.reduceBEq,Nat.reduceAdd]
      refine ih fun j hjk => ?_
      by_cases e:j = k
      · subst e; exact hc
      · exact hI j (by omega)
  · intro hI
    have hklt:((l.length:Int) < (l.length:Int)) = False:=by simp
    simp only [vqM,vt55,Nat.reduceAdd,Nat.reduceSub,Nat.reduceMul,Nat.reduceLeDiff,Nat.reduceEqDiff,Nat.reduceBEq,reduceCtorEq,hklt,decide_false]
    refine retA (.inr rfl) (r:=.int .i64 (-1)) ?_ ⟨_,rfl,⟨_,rfl⟩,?_⟩
    · simp only [vqM,vt55,Nat.reduceAdd,Nat.reduceSub,Nat.reduceMul,Nat.reduceLeDiff,Nat.reduceEqDiff,Nat.reduceBEq,reduceCtorEq]
    · have:(List.range l.length).any q = false:=List.any_eq_false.2 fun j hj => by simpa using hI j (List.mem_range.1 hj)
      rw [this]; simp
theorem t_conHd (f:D) (hfp:f.plain = f) (q:Nat→Bool) (l:List Hd) (S:Nat→St) (hp:∀ k x,l[k]? = some x→CallV Tryz.prog f [.agg x.cells] (S k) (.bool (q k)) (S (k + 1))) :
    SpecQ Tryz.prog 103 [.slice .none (hdCells l),f] (S 0) fun r s => (∃ k,s = S k)∧r = .bool ((List.range l.length).any q):=by
  refine SpecQ.introA [] Tryz.func103 rfl (by decide) hmix (by kernel_rfl) [ResultVar.tmp 4] 9 rfl rfl ?_
  simp only [vqM,Tryz.f103,Nat.reduceAdd,Nat.reduceSub,Nat.reduceMul,Nat.reduceLeDiff,Nat.reduceEqDiff,Nat.reduceBEq,reduceCtorEq,tf3,hfp]
  refine callI_specQ (t_idxHd f q l S hp) ?_
  rintro r s ⟨n,rfl,hs,hn⟩
  simp only [vqM,Nat.reduceAdd,Nat.reduceSub,Nat.reduceMul,Nat.reduceLeDiff,Nat.reduceEqDiff,Nat.reduceBEq,reduceCtorEq,tf3]
  refine retA (.inr rfl) (r:=.bool ((List.range l.length).any q)) ?_ ⟨hs,rfl⟩
  simp only [vqM,Nat.reduceAdd,Nat.reduceSub,Nat.reduceMul,Nat.reduceLeDiff,Nat.reduceEqDiff,Nat.reduceBEq,reduceCtorEq,tf3]
  rw [hn]
def hdF (n:Nat):D:=.func (.func 63) [] [.box (n + 1) 0,.box n 0]
theorem t_everyHd1 (p:Pg) (x:Hd) (a:Int) (B:List Box) (L:List Nat) (c:Nat) :
    Spec Tryz.prog 104 [.agg x.cells,.box (B.length + 2) 0] ⟨B ++ [.cells p.cells,.cells [.int .i64 a],.cells [hdF B.length]],L,c⟩ (.bool (!headOk p a x)) ⟨B ++ [.cells p.cells,.cells [.int .i64 x.id],.cells [hdF B.length]],L,c⟩:=by
  refine Spec.introN [] Tryz.func104 rfl (by decide) hmix (by kernel_rfl) [ResultVar.tmp 3] 8 rfl rfl ?_
  simp only [vqM,vt56,Tryz.f104,Nat.reduceAdd,Nat.reduceSub,Nat.reduceMul,Nat.reduceLeDiff,Nat.reduceEqDiff,Nat.reduceBEq,reduceCtorEq,hdF]
  refine callI_of (t_heads1 p x a B _ L c) ?_
  simp only [vqM,vt56,Nat.reduceAdd,Nat.reduceSub,Nat.reduceMul,Nat.reduceLeDiff,Nat.reduceEqDiff,Nat.reduceBEq,reduceCtorEq,hdF]
  refine ret_cell2 (T:=[_]) (.inr rfl) ?_ (.bool _) (fun d hd => by simp at hd; subst hd; exact .int _ _) (fun _ h => h) (Nat.le_refl _)
  simp only [vqM,vt56,Nat.reduceAdd,Nat.reduceSub,Nat.reduceMul,Nat.reduceLeDiff,Nat.reduceEqDiff,Nat.reduceBEq,reduceCtorEq]
def lastId (l:List Hd):Nat→Int
  | 0 => 0
  | k + 1 => match l[k]? with
    | some h => h.id
    | none => 0
def headsQ (p:Pg) (k:Nat):Bool:=match p.heads[k]? with
  | some h => !headOk p (lastId p.heads k) h
  | none => false
def headsB (p:Pg):Bool:=decide ((p.heads.length:Int) ≤ 40) && !(List.range p.heads.length).any (headsQ p)
theorem t_everyHd (p:Pg) (B:List Box) (L:List Nat) (c:Nat) :
    SpecQ Tryz.prog 62 [.slice .none (hdCells p.heads),.int .i64 40,hdF B.length] ⟨B ++ [.cells p.cells,.cells [.int .i64 0]],L,c⟩ fun r s => r = .bool (headsB p)∧∃ X,s = ⟨B ++ X,L,c⟩:=by
  refine SpecQ.introA [] Tryz.func62 rfl (by decide) hmix (by kernel_rfl) [ResultVar.tmp 6] 17 rfl rfl ?_
  simp only [vqM,vt57,Tryz.f62,Nat.reduceAdd,Nat.reduceSub,Nat.reduceMul,Nat.reduceLeDiff,Nat.reduceEqDiff,Nat.reduceBEq,reduceCtorEq,hdF,hdCells_len]
  refine ifI_intro (fun hc => ?_) (fun hc => ?_)
  · simp only [vqM,vt57,Nat.reduceAdd,Nat.reduceSub,Nat.reduceMul,Nat.reduceLeDiff,Nat.reduceEqDiff,Nat.reduceBEq,reduceCtorEq,hdF,hc]
    refine callI_specQ (t_conHd _ rfl (headsQ p) p.heads (fun k => ⟨B ++ [.cells p.cells,.cells [.int .i64 (lastId p.heads k)],.cells [hdF B.length]],L,c⟩) fun k x hx => ?_) ?_
    · have h1:headsQ p k = !headOk p (lastId p.heads k) x:=by simp [headsQ,hx]
      have h2:lastId p.heads (k + 1) = x.id:=by simp [lastId,hx]
      rw [h1,h2]
      exact t_everyHd1 p x (lastId p.heads k) B L c
    · rintro r s ⟨⟨k,rfl⟩,rfl⟩
      simp only [vqM,vt57,Nat.reduceAdd,Nat.reduceSub,Nat.reduceMul,Nat.reduceLeDiff,Nat.reduceEqDiff,Nat.reduceBEq,reduceCtorEq,hdF,hc]
      refine retA (.inr rfl) (r:=.bool (headsB p)) ?_ ⟨rfl,_,rfl⟩
      simp only [vqM,vt57,Nat.reduceAdd,Nat.reduceSub,Nat.reduceMul,Nat.reduceLeDiff,Nat.reduceEqDiff,Nat.reduceBEq,reduceCtorEq,hc]
      simp [headsB,hc]
  · simp only [vqM,vt57,Nat.reduceAdd,Nat.reduceSub,Nat.reduceMul,Nat.reduceLeDiff,Nat.reduceEqDiff,Nat.reduceBEq,reduceCtorEq,hdF,hc]
    refine retA (.inr rfl) (r:=.bool (headsB p)) ?_ ⟨rfl,_,rfl⟩
    simp only [vqM,vt57,Nat.reduceAdd,Nat.reduceSub,Nat.reduceMul,Nat.reduceLeDiff,Nat.reduceEqDiff,Nat.reduceBEq,reduceCtorEq,hc]
    simp [headsB,hc]
theorem t_rightHeads (p:Pg) (s:St):Spec Tryz.prog 34 [.agg p.cells] s (.bool (headsB p)) s:=by
  obtain ⟨B,L,c⟩:=s
  refine Spec.introN [] Tryz.func34 rfl (by decide) hmix (by kernel_rfl) [ResultVar.tmp 2] 8 rfl rfl ?_
  simp only [vqM,vt53,Tryz.f34,Nat.reduceAdd,Nat.reduceSub,Nat.reduceMul,Nat.reduceLeDiff,Nat.reduceEqDiff,Nat.reduceBEq,reduceCtorEq]
  refine callI_specQ (t_everyHd p B L c) ?_
  rintro r s ⟨rfl,X,rfl⟩
  simp only [vqM,vt53,Nat.reduceAdd,Nat.reduceSub,Nat.reduceMul,Nat.reduceLeDiff,Nat.reduceEqDiff,Nat.reduceBEq,reduceCtorEq]
  refine ret_loc (.inr rfl) ?_ (.bool _) (fun _ h => h) (Nat.le_refl _)
  simp only [vqM,vt53,Nat.reduceAdd,Nat.reduceSub,Nat.reduceMul,Nat.reduceLeDiff,Nat.reduceEqDiff,Nat.reduceBEq,reduceCtorEq]
theorem seq_joinS {X:Draws} {ro:Option Nat} {P:Program} {a b:Code} {e:List D} {s:St} {Q:QC} (hm:P.follows .mixedOrders = true) (ks:List Nat) (E:List D)
    (h:@cwNI X ro P a e s (meetC fun e s' => keep ks e = E∧s' = s)) (hI:@cwNI X ro P b E s Q):@seqI true X ro P a b e s Q :=
  seq_join hm ks E (fun s' => s' = s) h fun s' hs => by subst hs; exact hI
def hdG (p:Pg) (id:Int):Hd:=(headS p id).getD Hd.zero
def otherB (p:Pg) (d:Df):Bool :=
  !(headS p d.id).isSome || decide ((hdG p d.id).firm ≠ d.firm) || decide ((hdG p d.id).part ≠ d.part) || !decide ((hdG p d.id).params = d.params) || !decide ((hdG p d.id).given = d.given)
def wrongB (p:Pg) (x:Sm):Bool :=
  !(headS p x.m).isSome || decide (((hdG p x.m).params.length:Int) ≠ x.args.length) || decide (((hdG p x.m).given.length:Int) ≠ x.ptrs.length)
def callB (p:Pg) (x:Sm):Bool:=decide (x.op ≠ 13) || !wrongB p x
def rightB (p:Pg) (d:Df):Bool:=defB d p.d && !otherB p d && (flatL 1 d.body).all fun q => callB p q.s
theorem t_rightDef (p:Pg) (d:Df) (hnm:d.name.size ≤ 1000000000) (s:St):Spec Tryz.prog 35 [.agg p.cells,.agg d.cells] s (.bool (rightB p d)) s:=by
  obtain ⟨B,L,c⟩:=s
  refine Spec.introN [(4,.cut),(10,.cut)] Tryz.func35 rfl (by decide) hmix (by kernel_rfl) [ResultVar.cell 4 4] 92 rfl rfl ?_
  simp only [vqM,vt58,Tryz.f35,Nat.reduceAdd,Nat.reduceSub,Nat.reduceMul,Nat.reduceLeDiff,Nat.reduceEqDiff,Nat.reduceBEq,reduceCtorEq,rgCells_len,exCells_len,intCells_len]
  refine callI_spec (t_Def d p.d hnm _) ?_
  simp only [vqM,vt58,Nat.reduceAdd,Nat.reduceSub,Nat.reduceMul,Nat.reduceLeDiff,Nat.reduceEqDiff,Nat.reduceBEq,reduceCtorEq,rgCells_len]
  refine ifI_intro (fun hc => ?_) (fun hc => ?_)
  · have hd:defB d p.d = false:=by cases h:defB d p.d <;> simp [h] at hc ⊢
    simp only [vqM,vt58,Nat.reduceAdd,Nat.reduceSub,Nat.reduceMul,Nat.reduceLeDiff,Nat.reduceEqDiff,Nat.reduceBEq,reduceCtorEq]
    refine ret_loc (.inr rfl) ?_ (.bool _) (fun _ h => h) (Nat.le_refl _)
    simp only [vqM,vt58,Nat.reduceAdd,Nat.reduceSub,Nat.reduceMul,Nat.reduceLeDiff,Nat.reduceEqDiff,Nat.reduceBEq,reduceCtorEq]
    simp [rightB,hd]
  have hd:defB d p.d = true:=by cases h:defB d p.d <;> simp [h] at hc ⊢
  clear hc
  simp only [vqM,vt58,Nat.reduceAdd,Nat.reduceSub,Nat.reduceMul,Nat.reduceLeDiff,Nat.reduceEqDiff,Nat.reduceBEq,reduceCtorEq]
  refine callI_spec (t_HeadOf p d.id _) ?_
  simp only [vqM,vt58,Nat.reduceAdd,Nat.reduceSub,Nat.reduceMul,Nat.reduceLeDiff,Nat.reduceEqDiff,Nat.reduceBEq,reduceCtorEq,headSD]
  refine seq_join hmix [2,3,4,53] [.junk,.junk,.box B.length 0,.box (B.length + 1) 0,.box (B.length + 2) 0,.junk,.junk,.junk,.junk,.junk,.junk,.junk,.junk,.junk,.junk,.junk,.junk,.junk,.junk,.junk,.junk,.junk,.junk,.junk,.junk,.junk,.junk,.junk,.junk,.junk,.junk,.junk,.junk,.junk,.junk,.junk,.junk,.junk,.junk,.junk,.junk,.junk,.junk,.junk,.junk,.junk,.junk,.junk,.junk,.junk,.junk,.junk,.junk,.bool (otherB p d),.junk,.junk,.junk,.junk,.junk,.junk,.junk,.junk,.junk,.junk,.junk,.junk,.junk,.junk,.junk,.junk,.junk,.junk,.junk,.junk,.junk,.junk,.junk,.junk,.junk,.junk,.junk,.junk,.junk,.junk,.junk,.junk,.junk,.junk,.junk,.junk,.junk,.junk] (fun s => s = ⟨B ++ [.cells p.cells,.cells d.cells,.cells [.bool false],.cells ((headS p d.id).getD Hd.zero).cells],L,c⟩) ?_ ?_
  · simp only [vqM,vt58,Nat.reduceAdd,Nat.reduceSub,Nat.reduceMul,Nat.reduceLeDiff,Nat.reduceEqDiff,Nat.reduceBEq,reduceCtorEq,rgCells_len]
    repeat' (first
      | ((with_reducible refine is_call ?_); refine callI_spec (t_Equal _ _ _) ?_; simp only [vqM,vt58,Nat.reduceAdd,Nat.reduceSub,Nat.reduceMul,Nat.reduceLeDiff,Nat.reduceEqDiff,Nat.reduceBEq,reduceCtorEq,rgCells_len])
      | (with_reducible refine ifI_intro (fun hc => ?_) (fun hc => ?_) <;> simp only [vqM,vt58,hc,Nat.reduceAdd,Nat.reduceSub,Nat.reduceMul,Nat.reduceLeDiff,Nat.reduceEqDiff,Nat.reduceBEq,reduceCtorEq,rgCells_len])
      | ((with_reducible refine is_q ?_); refine meet_intro ⟨?_,rfl⟩ <;> simp only [vke,Nat.reduceBEq,Nat.reduceAdd] <;> (first | (simp only [otherB,hdG, *,Bool.true_and,Bool.false_and,Bool.and_true,Bool.and_false,Bool.true_or,Bool.false_or,Bool.or_true,Bool.or_false,Bool.not_true,Bool.not_false,cond_true,cond_false,if_true,if_false]; done) | (simp_all [otherB,hdG]; done) | (simp_all [otherB,hdG]; omega))))
    refine meet_intro ⟨?_,rfl⟩
    simp only [vke,Nat.reduceBEq,Nat.reduceAdd]
    simp only [otherB,hdG, *,Bool.true_and,Bool.false_and,Bool.and_true,Bool.and_false,Bool.true_or,Bool.false_or,Bool.or_true,Bool.or_false,Bool.not_true,Bool.not_false,cond_true,cond_false,if_true,if_false]
    simp only [List.cons.injEq,and_true,true_and,D.bool.injEq]
    simp_all
    exact decide_eq_decide.2 Iff.rfl
  rintro s rfl
  simp only [vqM,vt58,Nat.reduceAdd,Nat.reduceSub,Nat.reduceMul,Nat.reduceLeDiff,Nat.reduceEqDiff,Nat.reduceBEq,reduceCtorEq,rgCells_len]
  refine ifI_intro (fun hc => ?_) (fun hc => ?_)
  · have hl:otherB p d = true:=hc
    simp only [vqM,vt58,Nat.reduceAdd,Nat.reduceSub,Nat.reduceMul,Nat.reduceLeDiff,Nat.reduceEqDiff,Nat.reduceBEq,reduceCtorEq]
    refine ret_loc (.inr rfl) ?_ (.bool _) (fun _ h => h) (Nat.le_refl _)
    simp only [vqM,vt58,Nat.reduceAdd,Nat.reduceSub,Nat.reduceMul,Nat.reduceLeDiff,Nat.reduceEqDiff,Nat.reduceBEq,reduceCtorEq]
    simp [rightB,hl]
  have hl:otherB p d = false:=hc
  clear hc
  have hR:rightB p d = (flatL 1 d.body).all fun q => callB p q.s:=by simp [rightB,hd,hl]
  rw [hR]
  simp only [vqM,vt58,Nat.reduceAdd,Nat.reduceSub,Nat.reduceMul,Nat.reduceLeDiff,Nat.reduceEqDiff,Nat.reduceBEq,reduceCtorEq]
  refine callI_spec (t_all _ _ _ _ _) ?_
  simp only [vqM,vt58,Nat.reduceAdd,Nat.reduceSub,Nat.reduceMul,Nat.reduceLeDiff,Nat.reduceEqDiff,Nat.reduceBEq,reduceCtorEq]
  refine range_allP (B.length + 4) (B.length + 4 + 1) d.body 1 (fun _ => _) (fun _ => L) (fun _ => c)
    (fun C' L' c' x => ((flatL 1 d.body).all fun q => callB p q.s) = false∧C' = B ++ [.cells p.cells,.cells d.cells,.cells [.bool false],.cells ((headS p d.id).getD Hd.zero).cells,.cells [.slice .none (Sm.encs d.body)],.cells [.int .i64 1]]∧L' = L∧c' = c∧x = .ret)
    (fun k => ∀ j < k,∀ q,(flatL 1 d.body)[j]? = some q→callB p q.s = true) ?_ ?_ ?_ rfl (fun _ => rfl) rfl rfl (fun j hj => by omega) ?_ ?_ ?_
  · rfl
  · rw [box_at]; rfl
  · rw [Nat.add_assoc,box_at]; rfl
  · intro q1 q2 k q Y hk hj
    refine YSemQ.introA hmix q1 q2 (pd:=none) (by rw [box_at0]; rfl) (by rfl) fun l => ?_
    simp only [vqM,vt58,Nat.reduceAdd,Nat.reduceSub,Nat.reduceMul,Nat.reduceLeDiff,Nat.reduceEqDiff,Nat.reduceBEq,reduceCtorEq,putArgs,vsPl]
    clear q1 q2
    refine qI_assignA (pd1:=none) (by simp only [vqM,vt58,Nat.reduceAdd,Nat.reduceSub,Nat.reduceMul,Nat.reduceLeDiff,Nat.reduceEqDiff,Nat.reduceBEq,reduceCtorEq]) ?_
    simp only [vqM,vt58,Nat.reduceAdd,Nat.reduceSub,Nat.reduceMul,Nat.reduceLeDiff,Nat.reduceEqDiff,Nat.reduceBEq,reduceCtorEq,vsPl]
    refine ifI_intro (fun hc => ?_) (fun hc => ?_)
    · simp only [vqM,vt58,Nat.reduceAdd,Nat.reduceSub,Nat.reduceMul,Nat.reduceLeDiff,Nat.reduceEqDiff,Nat.reduceBEq,reduceCtorEq,vsPl]
      refine roundA_normal (st:=.busy) (pd:=none) (by simp only [vqM,vt58,Nat.reduceAdd,Nat.reduceSub,Nat.reduceMul,Nat.reduceLeDiff,Nat.reduceEqDiff,Nat.reduceBEq,reduceCtorEq]) ?_
      have hcb:callB p q.s = true:=by simp [callB,hc]
      refine ⟨_,_,_,[.cells q.cells],.inl ⟨rfl,rfl,rfl,rfl,?_,?_⟩⟩
      · intro j hjk q' hq
        by_cases e:j = k
        · subst e; rw [hk] at hq; cases hq; exact hcb
        · exact hj j (by omega) q' hq
      · simp only [vqM,vt58,Nat.reduceAdd,Nat.reduceSub,Nat.reduceMul,Nat.reduceLeDiff,Nat.reduceEqDiff,Nat.reduceBEq,reduceCtorEq]
    have hop:decide (q.s.op ≠ 13) = false:=hc
    simp only [vqM,vt58,Nat.reduceAdd,Nat.reduceSub,Nat.reduceMul,Nat.reduceLeDiff,Nat.reduceEqDiff,Nat.reduceBEq,reduceCtorEq,vsPl]
    refine callI_spec (t_HeadOf p q.s.m _) ?_
    simp only [vqM,vt58,Nat.reduceAdd,Nat.reduceSub,Nat.reduceMul,Nat.reduceLeDiff,Nat.reduceEqDiff,Nat.reduceBEq,reduceCtorEq,vsPl,headSD]
    refine seq_joinS hmix [2,3,4,91] [.junk,.junk,.box B.length 0,.box (B.length + 1) 0,.box (B.length + 2) 0,.junk,.junk,.junk,.junk,.junk,.junk,.junk,.junk,.junk,.junk,.junk,.junk,.junk,.junk,.junk,.junk,.junk,.junk,.junk,.junk,.junk,.junk,.junk,.junk,.junk,.junk,.junk,.junk,.junk,.junk,.junk,.junk,.junk,.junk,.junk,.junk,.junk,.junk,.junk,.junk,.junk,.junk,.junk,.junk,.junk,.junk,.junk,.junk,.junk,.junk,.junk,.junk,.junk,.junk,.junk,.junk,.junk,.junk,.junk,.junk,.junk,.junk,.junk,.junk,.junk,.junk,.junk,.junk,.junk,.junk,.junk,.junk,.junk,.junk,.junk,.junk,.junk,.junk,.junk,.junk,.junk,.junk,.junk,.junk,.junk,.junk,.bool (wrongB p q.s)] ?_ ?_
    · simp only [vqM,vt58,Nat.reduceAdd,Nat.reduceSub,Nat.reduceMul,Nat.reduceLeDiff,Nat.reduceEqDiff,Nat.reduceBEq,reduceCtorEq,vsPl,rgCells_len,exCells_len,intCells_len]
      repeat' (first
        | (with_reducible refine ifI_intro (fun hc => ?_) (fun hc => ?_) <;> simp only [vqM,vt58,hc,Nat.reduceAdd,Nat.reduceSub,Nat.reduceMul,Nat.reduceLeDiff,Nat.reduceEqDiff,Nat.reduceBEq,reduceCtorEq,vsPl,rgCells_len,exCells_len,intCells_len])
        | ((with_reducible refine is_q ?_); refine meet_intro ⟨?_,rfl⟩ <;> simp only [vke,Nat.reduceBEq,Nat.reduceAdd] <;> (first | (simp only [wrongB,hdG, *,Bool.true_and,Bool.false_and,Bool.and_true,Bool.and_false,Bool.true_or,Bool.false_or,Bool.or_true,Bool.or_false,Bool.not_true,Bool.not_false,cond_true,cond_false,if_true,if_false]; done) | (simp_all [wrongB,hdG]; done) | (simp_all [wrongB,hdG]; omega))))
      refine meet_intro ⟨?_,rfl⟩
      simp only [vke,Nat.reduceBEq,Nat.reduceAdd]
      simp only [wrongB,hdG, *,Bool.true_and,Bool.false_and,Bool.and_true,Bool.and_false,Bool.true_or,Bool.false_or,Bool.or_true,Bool.or_false,Bool.not_true,Bool.not_false,cond_true,cond_false,if_true,if_false]
      simp only [List.cons.injEq,and_true,true_and,D.bool.injEq]
      simp_all
      by_cases hg:(((headS p q.s.m).getD Hd.zero).given.length:Int) = q.s.ptrs.length <;> simp [hg]
    simp only [vqM,vt58,Nat.reduceAdd,Nat.reduceSub,Nat.reduceMul,Nat.reduceLeDiff,Nat.reduceEqDiff,Nat.reduceBEq,reduceCtorEq,vsPl]
    refine ifI_intro (fun hc => ?_) (fun hc => ?_)
    · simp only [vqM,vt58,Nat.reduceAdd,Nat.reduceSub,Nat.reduceMul,Nat.reduceLeDiff,Nat.reduceEqDiff,Nat.reduceBEq,reduceCtorEq,vsPl]
      refine roundA_ret (st:=.busy) (pd:=none) (by simp only [vqM,vt58,Nat.reduceAdd,Nat.reduceSub,Nat.reduceMul,Nat.reduceLeDiff,Nat.reduceEqDiff,Nat.reduceBEq,reduceCtorEq]) ?_
      have hcb:callB p q.s = false:=by simp [callB,hop,hc]
      refine ⟨_,_,_,[.cells q.cells,.cells ((headS p q.s.m).getD Hd.zero).cells],.inr ⟨rfl,.ret,?_,⟨?_,rfl,rfl,rfl,rfl⟩,?_⟩⟩
      · simp only [List.length_append,List.length_cons,List.length_nil]
      · exact List.all_eq_false.2 ⟨q,List.mem_of_getElem? hk,by simp [hcb]⟩
      · simp only [vqM,vt58,Nat.reduceAdd,Nat.reduceSub,Nat.reduceMul,Nat.reduceLeDiff,Nat.reduceEqDiff,Nat.reduceBEq,reduceCtorEq]
    · simp only [vqM,vt58,Nat.reduceAdd,Nat.reduceSub,Nat.reduceMul,Nat.reduceLeDiff,Nat.reduceEqDiff,Nat.reduceBEq,reduceCtorEq,vsPl]
      refine roundA_normal (st:=.busy) (pd:=none) (by simp only [vqM,vt58,Nat.reduceAdd,Nat.reduceSub,Nat.reduceMul,Nat.reduceLeDiff,Nat.reduceEqDiff,Nat.reduceBEq,reduceCtorEq]) ?_
      have hcb:callB p q.s = true:=by simp [callB,hc]
      refine ⟨_,_,_,[.cells q.cells,.cells ((headS p q.s.m).getD Hd.zero).cells],.inl ⟨rfl,rfl,rfl,rfl,?_,?_⟩⟩
      · intro j hjk q' hq
        by_cases e:j = k
        · subst e; rw [hk] at hq; cases hq; exact hcb
        · exact hj j (by omega) q' hq
      · simp only [vqM,vt58,Nat.reduceAdd,Nat.reduceSub,Nat.reduceMul,Nat.reduceLeDiff,Nat.reduceEqDiff,Nat.reduceBEq,reduceCtorEq]
  · intro Y hj
    have hall:((flatL 1 d.body).all fun q => callB p q.s) = true:=List.all_eq_true.2 fun q hq => by
      obtain ⟨j,hj2,rfl⟩:=List.getElem_of_mem hq
      exact hj j hj2 _ (List.getElem?_eq_getElem hj2)
    simp only [vqM,vt58,Nat.reduceAdd,Nat.reduceSub,Nat.reduceMul,Nat.reduceLeDiff,Nat.reduceEqDiff,Nat.reduceBEq,reduceCtorEq]
    refine ret_loc (.inr rfl) ?_ (.bool _) (fun _ h => h) (Nat.le_refl _)
    simp only [vqM,vt58,Nat.reduceAdd,Nat.reduceSub,Nat.reduceMul,Nat.reduceLeDiff,Nat.reduceEqDiff,Nat.reduceBEq,reduceCtorEq,hall]
  · rintro C' L' c' x Y - ⟨hall,rfl,rfl,rfl,rfl⟩
    simp only [vqM,vt58,Nat.reduceAdd,Nat.reduceSub,Nat.reduceMul,Nat.reduceLeDiff,Nat.reduceEqDiff,Nat.reduceBEq,reduceCtorEq]
    refine ret_loc (.inr rfl) ?_ (.bool _) (fun _ h => h) (Nat.le_refl _)
    simp only [vqM,vt58,Nat.reduceAdd,Nat.reduceSub,Nat.reduceMul,Nat.reduceLeDiff,Nat.reduceEqDiff,Nat.reduceBEq,reduceCtorEq,hall]
end Go.V

namespace Go.V
open Go.Proofs
set_option maxRecDepth 20000
set_option maxHeartbeats 2000000

theorem t_isNaN (x:Int) (s:St):Spec Tryz.prog 165 [.int .i64 x] s (.bool false) s:=by
  refine Spec.introN [] Tryz.func165 rfl (by decide) hmix (by kernel_rfl) [ResultVar.tmp 2] 6 rfl rfl ?_
  simp only [vqM,Tryz.f165,Nat.reduceAdd,Nat.reduceSub,Nat.reduceMul,Nat.reduceLeDiff,Nat.reduceEqDiff,Nat.reduceBEq,reduceCtorEq,tf3]
  refine ret_here (.inr rfl) ?_ (.bool _)
  simp only [vqM,Nat.reduceAdd,Nat.reduceSub,Nat.reduceMul,Nat.reduceLeDiff,Nat.reduceEqDiff,Nat.reduceBEq,reduceCtorEq,tf3]
  simp
theorem t_Less (x y:Int) (s:St):Spec Tryz.prog 152 [.int .i64 x,.int .i64 y] s (.bool (decide (x < y))) s:=by
  refine Spec.introN [] Tryz.func152 rfl (by decide) hmix (by kernel_rfl) [ResultVar.tmp 4] 17 rfl rfl ?_
  simp only [vqM,vt59,Tryz.f152,Nat.reduceAdd,Nat.reduceSub,Nat.reduceMul,Nat.reduceLeDiff,Nat.reduceEqDiff,Nat.reduceBEq,reduceCtorEq]
  repeat' (first
    | ((with_reducible refine is_call ?_); refine callI_spec (t_isNaN _ _) ?_; simp only [vqM,vt59,Nat.reduceAdd,Nat.reduceSub,Nat.reduceMul,Nat.reduceLeDiff,Nat.reduceEqDiff,Nat.reduceBEq,reduceCtorEq])
    | (with_reducible refine ifI_intro (fun hc => ?_) (fun hc => ?_) <;> simp only [vqM,vt59,hc,Nat.reduceAdd,Nat.reduceSub,Nat.reduceMul,Nat.reduceLeDiff,Nat.reduceEqDiff,Nat.reduceBEq,reduceCtorEq])
    | ((with_reducible refine is_q ?_); refine ret_here (.inr rfl) ?_ (.bool _) <;> (try simp only [vqM,vt59,Nat.reduceAdd,Nat.reduceSub,Nat.reduceMul,Nat.reduceLeDiff,Nat.reduceEqDiff,Nat.reduceBEq,reduceCtorEq]) <;> (first | (simp only [*,Bool.true_and,Bool.false_and,Bool.and_true,Bool.and_false,Bool.true_or,Bool.false_or,Bool.or_true,Bool.or_false,Bool.not_true,Bool.not_false,cond_true,cond_false,if_true,if_false]; done) | (simp_all []; done) | (simp_all []; omega))))
theorem getBI_of {b:ByteArray} {n:Nat} {s:St} {K:DC} (h:n < b.size) (hK:∀ c:UInt8,@dI (.int .u8 c.toNat) s K):@getBI b[n]? s K:=⟨b[n],by simp [h],hK _⟩
theorem t_Len64 (n:Nat) (hn:n ≤ 12) (s:St):SpecQ Tryz.prog 85 [.int .u64 n] s fun r s' => s' = s∧∃ k,r = .int .i64 k:=by
  refine SpecQ.introA [] Tryz.func85 rfl (by decide) hmix (by kernel_rfl) [ResultVar.tmp 2] 25 rfl rfl ?_
  have h1:decide ((n:Int) ≥ 4294967296) = false:=by simp; omega
  have h2:decide ((n:Int) ≥ 65536) = false:=by simp; omega
  have h3:decide ((n:Int) ≥ 256) = false:=by simp; omega
  simp only [vqM,vt60,Tryz.f85,Nat.reduceAdd,Nat.reduceSub,Nat.reduceMul,Nat.reduceLeDiff,Nat.reduceEqDiff,Nat.reduceBEq,reduceCtorEq,h1,h2,h3]
  have hw:IntKind.u8.wrap (n:Int) = n:=(by decide:∀ n < 13,IntKind.u8.wrap ((n:Nat):Int) = n) n (by omega)
  simp only [vqM,vt60,Nat.reduceAdd,Nat.reduceSub,Nat.reduceMul,Nat.reduceLeDiff,Nat.reduceEqDiff,Nat.reduceBEq,reduceCtorEq,hw,natle0,Int.toNat_natCast]
  refine getBI_of (by show n < 256; omega) fun k => ?_
  simp only [vqM,vt60,Nat.reduceAdd,Nat.reduceSub,Nat.reduceMul,Nat.reduceLeDiff,Nat.reduceEqDiff,Nat.reduceBEq,reduceCtorEq]
  refine retA (.inr rfl) (r:=.int .i64 (IntKind.i64.wrap (0 + IntKind.i64.wrap (k.toNat:Int)))) ?_ ⟨rfl,_,rfl⟩
  simp only [vqM,vt60,Nat.reduceAdd,Nat.reduceSub,Nat.reduceMul,Nat.reduceLeDiff,Nat.reduceEqDiff,Nat.reduceBEq,reduceCtorEq]
theorem t_Len (n:Nat) (hn:n ≤ 12) (s:St):SpecQ Tryz.prog 48 [.int .u64 n] s fun r s' => s' = s∧∃ k,r = .int .i64 k:=by
  refine SpecQ.introA [] Tryz.func48 rfl (by decide) hmix (by kernel_rfl) [ResultVar.tmp 2] 8 rfl rfl ?_
  simp only [vqM,vt61,Tryz.f48,Nat.reduceAdd,Nat.reduceSub,Nat.reduceMul,Nat.reduceLeDiff,Nat.reduceEqDiff,Nat.reduceBEq,reduceCtorEq]
  refine callI_specQ (t_Len64 n hn _) ?_
  rintro r s' ⟨rfl,k,rfl⟩
  simp only [vqM,vt61,Nat.reduceAdd,Nat.reduceSub,Nat.reduceMul,Nat.reduceLeDiff,Nat.reduceEqDiff,Nat.reduceBEq,reduceCtorEq]
  refine retA (.inr rfl) (r:=.int .i64 k) ?_ ⟨rfl,_,rfl⟩
  simp only [vqM,vt61,Nat.reduceAdd,Nat.reduceSub,Nat.reduceMul,Nat.reduceLeDiff,Nat.reduceEqDiff,Nat.reduceBEq,reduceCtorEq]

def ints (l:List Int):List D:=l.map (.int .i64 ·)
theorem ints_at (p q:List Int) (x:Int):((ints (p ++ x :: q)).drop p.length)[0]? = some (.int .i64 x):=by simp [ints]
structure Ins (l:List Int) (i:Nat) (k:Nat) (l':List Int):Prop where
  perm:l'.Perm l
  form:∃ p x q r,l' = p ++ x :: q ++ r∧p.length = i - k∧(p ++ q).length = i∧(p ++ q).Pairwise (· ≤ ·)∧∀ y ∈ q,x ≤ y
theorem ins_start {l l':List Int} {i:Nat} (hp:l'.Perm l) (hs:(l'.take i).Pairwise (· ≤ ·)) (hi:i < l'.length):Ins l i 0 l':=by
  refine ⟨hp,l'.take i,l'[i],[],l'.drop (i + 1),?_,?_,?_,by simpa using hs,by simp⟩
  · rw [List.append_assoc,List.cons_append,List.nil_append,← List.drop_eq_getElem_cons hi,List.take_append_drop]
  · simp; omega
  · simp; omega
theorem ins_end {p q r:List Int} {x:Int} (hs:(p ++ q).Pairwise (· ≤ ·)) (hx:∀ y ∈ q,x ≤ y) (hl:∀ p0 y,p = p0 ++ [y]→y ≤ x):((p ++ x :: q ++ r).take ((p ++ q).length + 1)).Pairwise (· ≤ ·):=by
  have e:(p ++ x :: q ++ r).take ((p ++ q).length + 1) = p ++ x :: q:=by
    rw [List.take_append_of_le_length (by simp; omega),List.take_of_length_le (by simp; omega)]
  rw [e]
  obtain ⟨h1,h2,h3⟩:=List.pairwise_append.1 hs
  refine List.pairwise_append.2 ⟨h1,List.pairwise_cons.2 ⟨hx,h2⟩,fun a ha b hb => ?_⟩
  rcases List.mem_cons.1 hb with rfl | hb
  · rcases List.eq_nil_or_concat p with rfl | ⟨p0,y,rfl⟩
    · simp at ha
    · rw [List.concat_eq_append] at *
      have hy:=hl p0 y rfl
      obtain ⟨_,_,h4⟩:=List.pairwise_append.1 h1
      rcases List.mem_append.1 ha with ha | ha
      · exact Int.le_trans (h4 a ha y (by simp)) hy
      · simp at ha; subst ha; exact hy
  · exact h3 a ha b hb
theorem ins_step {l:List Int} {i k:Nat} {p q r:List Int} {y x:Int} (hp:(p ++ [y] ++ x :: q ++ r).Perm l) (h1:(p ++ [y]).length = i - k) (h2:(p ++ [y] ++ q).length = i) (hs:(p ++ [y] ++ q).Pairwise (· ≤ ·)) (hx:∀ z ∈ q,x ≤ z) (hlt:x < y):Ins l i (k + 1) (p ++ x :: (y :: q) ++ r):=by
  refine ⟨?_,p,x,y :: q,r,rfl,by simp at h1; omega,by simpa using h2,by simpa using hs,fun z hz => ?_⟩
  · refine List.Perm.trans ?_ hp
    simp only [List.append_assoc,List.cons_append,List.nil_append]
    exact List.Perm.append_left p (List.Perm.swap _ _ _)
  · rcases List.mem_cons.1 hz with rfl | hz
    · omega
    · exact hx z hz
theorem set_ints (p t:List Int) (z x:Int):(ints (p ++ z :: t)).take p.length ++ D.int .i64 x :: (ints (p ++ z :: t)).drop (p.length + 1) = ints (p ++ x :: t):=by
  simp [ints,List.take_append,List.drop_append]
theorem ins_last {l l':List Int} {i k:Nat} (h:Ins l i k l') (hk:i ≤ k):l'.Perm l∧(l'.take (i + 1)).Pairwise (· ≤ ·):=by
  obtain ⟨hp,p,x,q,r,rfl,h1,h2,h3,h4⟩:=h
  refine ⟨hp,?_⟩
  have:p = []:=List.eq_nil_of_length_eq_zero (by omega)
  subst this
  have:=ins_end (r:=r) h3 h4 (fun p0 y e => by simp at e)
  rw [h2] at this; exact this
theorem t_insert (l:List Int) (B T:List Box) (L:List Nat) (c:Nat) (hn:l.length ≤ 12):SpecQ Tryz.prog 146 [.row B.length 0 l.length 1,.int .i64 0,.int .i64 l.length] ⟨B ++ .cells (ints l) :: T,L,c⟩
    fun r s => r = .tup []∧∃ l',l'.Perm l∧l'.Pairwise (· ≤ ·)∧s = ⟨B ++ .cells (ints l') :: T,L,c⟩:=by
  refine SpecQ.introA [] Tryz.func146 rfl (by decide) hmix (by kernel_rfl) [] 49 rfl rfl ?_
  have w1:IntKind.i64.wrap (0 + 1) = 1:=by decide
  simp only [vqM,vt25,Tryz.f146,Nat.reduceAdd,Nat.reduceSub,Nat.reduceMul,Nat.reduceLeDiff,Nat.reduceEqDiff,Nat.reduceBEq,reduceCtorEq,w1]
  refine awN_keep [0,1,2,6] ?_
  simp only [vke,Nat.reduceBEq,Nat.reduceAdd]
  refine awN_forR hmix (l.length - 1) (fun k e s => e = [.row B.length 0 l.length 1,.int .i64 0,.int .i64 l.length,.junk,.junk,.junk,.int .i64 ((k + 1:Nat):Int),.junk,.junk,.junk,.junk,.junk,.junk,.junk,.junk,.junk,.junk,.junk,.junk,.junk,.junk,.junk,.junk,.junk,.junk,.junk,.junk,.junk,.junk,.junk,.junk,.junk,.junk,.junk,.junk,.junk,.junk,.junk,.junk,.junk,.junk,.junk,.junk,.junk,.junk,.junk,.junk,.junk,.junk]∧∃ l',l'.Perm l∧(l'.take (k + 1)).Pairwise (· ≤ ·)∧s = ⟨B ++ .cells (ints l') :: T,L,c⟩) ?_ ?_ 0 _ _ (Nat.zero_le _) ⟨rfl,l,.refl _,?_,rfl⟩
  · rintro k e s hk ⟨rfl,l1,hp1,hs1,rfl⟩ ih
    have hll:=hp1.length_eq
    have hlt:decide (((k + 1:Nat):Int) < (l.length:Int)) = true:=by simp; omega
    simp only [vqM,vt25,Nat.reduceAdd,Nat.reduceSub,Nat.reduceMul,Nat.reduceLeDiff,Nat.reduceEqDiff,Nat.reduceBEq,reduceCtorEq,hlt]
    refine awN_keep [0,1,2,6,7] ?_
    simp only [vke,Nat.reduceBEq,Nat.reduceAdd]
    refine awN_forR hmix (k + 1) (fun m e s => e = [.row B.length 0 l.length 1,.int .i64 0,.int .i64 l.length,.junk,.junk,.junk,.int .i64 ((k + 1:Nat):Int),.int .i64 ((k + 1 - m:Nat):Int),.junk,.junk,.junk,.junk,.junk,.junk,.junk,.junk,.junk,.junk,.junk,.junk,.junk,.junk,.junk,.junk,.junk,.junk,.junk,.junk,.junk,.junk,.junk,.junk,.junk,.junk,.junk,.junk,.junk,.junk,.junk,.junk,.junk,.junk,.junk,.junk,.junk,.junk,.junk,.junk,.junk]∧∃ l',Ins l (k + 1) m l'∧s = ⟨B ++ .cells (ints l') :: T,L,c⟩) ?_ ?_ 0 _ _ (Nat.zero_le _) ⟨rfl,l1,ins_start hp1 hs1 (by omega),rfl⟩
    · rintro m e s hm ⟨rfl,l2,⟨hp2,p,x,q,r,rfl,h1,h2,h3,h4⟩,rfl⟩ ih2
      rcases List.eq_nil_or_concat p with rfl | ⟨p0,y,rfl⟩
      · simp at h1; omega
      rw [List.concat_eq_append] at *
      have hj:k + 1 - m = p0.length + 1:=by simp at h1; omega
      have hlen:=hp2.length_eq
      simp only [List.length_append,List.length_cons,List.length_nil] at hlen
      have a1:IntKind.i64.wrap (((p0.length + 1:Nat):Int) - 1) = (p0.length:Int):=(wrap_in (by omega)).trans (by omega)
      have a2:(0 ≤ ((p0.length + 1:Nat):Int)∧((p0.length + 1:Nat):Int) < (l.length:Int)) = True:=by simp; omega
      have a3:(0 ≤ (p0.length:Int)∧(p0.length:Int) < (l.length:Int)) = True:=by simp; omega
      have a4:decide (((p0.length + 1:Nat):Int) > 0) = true:=by simp
      have e0:p0 ++ [y] ++ x :: q ++ r = p0 ++ y :: x :: (q ++ r):=by simp
      have b1:((ints (p0 ++ y :: x :: (q ++ r))).drop (p0.length + 1))[0]? = some (.int .i64 x):=by
        have:=ints_at (p0 ++ [y]) (q ++ r) x; simpa using this
      have b2:((ints (p0 ++ y :: x :: (q ++ r))).drop p0.length)[0]? = some (.int .i64 y):=by
        have:=ints_at p0 (x :: q ++ r) y; simpa using this
      have c1:(ints (p0 ++ y :: x :: (q ++ r))).take (p0.length + 1) ++ D.int .i64 y :: (ints (p0 ++ y :: x :: (q ++ r))).drop (p0.length + 1 + 1) = ints (p0 ++ y :: y :: (q ++ r)):=by
        have:=set_ints (p0 ++ [y]) (q ++ r) x y; simpa using this
      have c2:=set_ints p0 (y :: (q ++ r)) y x
      have a5:(p0.length + 1 + 1 ≤ (ints (p0 ++ y :: x :: (q ++ r))).length) = True:=by simp [ints]; omega
      have a6:(p0.length + 1 ≤ (ints (p0 ++ y :: y :: (q ++ r))).length) = True:=by simp [ints]
      have e1:p0 ++ x :: (y :: q) ++ r = p0 ++ x :: y :: (q ++ r):=by simp
      rw [hj]
      simp only [vqM,vt25,Nat.reduceAdd,Nat.reduceSub,Nat.reduceMul,Nat.reduceLeDiff,Nat.reduceEqDiff,Nat.reduceBEq,reduceCtorEq,a1,a2,a3,a4,a5,a6,b1,b2,c1,c2,Int.toNat_natCast,Nat.mul_one,Nat.zero_add]
      refine callI_spec (t_Less x y _) ?_
      simp only [vqM,vt25,Nat.reduceAdd,Nat.reduceSub,Nat.reduceMul,Nat.reduceLeDiff,Nat.reduceEqDiff,Nat.reduceBEq,reduceCtorEq,a1,a2,a3,a4,a5,a6,b1,b2,c1,c2,Int.toNat_natCast,Nat.mul_one,Nat.zero_add]
      refine ifI_intro (fun hc => ?_) (fun hc => ?_)
      · simp only [vqM,vt25,Nat.reduceAdd,Nat.reduceSub,Nat.reduceMul,Nat.reduceLeDiff,Nat.reduceEqDiff,Nat.reduceBEq,reduceCtorEq,a1,a2,a3,a4,a5,a6,b1,b2,c1,c2,Int.toNat_natCast,Nat.mul_one,Nat.zero_add]
        have hlt2:x < y:=by simpa using hc
        refine awN_keep [0,1,2,6,7] ?_
        simp only [vke,Nat.reduceBEq,Nat.reduceAdd]
        refine ih2 _ _ ⟨?_,_,ins_step hp2 h1 h2 h3 h4 hlt2,by rw [e1]⟩
        rw [show k + 1 - (m + 1) = p0.length from by omega]
      · simp only [vqM,vt25,Nat.reduceAdd,Nat.reduceSub,Nat.reduceMul,Nat.reduceLeDiff,Nat.reduceEqDiff,Nat.reduceBEq,reduceCtorEq,a1,a2,a3,a4,a5,a6,b1,b2,c1,c2,Int.toNat_natCast,Nat.mul_one,Nat.zero_add]
        rw [show IntKind.i64.wrap (((k + 1:Nat):Int) + 1) = ((k + 1 + 1:Nat):Int) from wrap_succ (by omega)]
        refine awN_keep [0,1,2,6] ?_
        simp only [vke,Nat.reduceBEq,Nat.reduceAdd]
        have hend:=ins_end (r:=r) h3 h4 (fun p1 z e => by
          have:z = y:=by have:=List.append_inj_right' e.symm rfl; simpa using this
          subst this; have hge:=hc; simp at hge; omega)
        refine ih _ _ ⟨rfl,_,hp2,?_,by rw [e0]⟩
        rw [h2] at hend; exact hend
    · rintro e s ⟨rfl,l2,hI,rfl⟩
      obtain ⟨q1,q2⟩:=ins_last hI (Nat.le_refl _)
      have a4:decide (((k + 1 - (k + 1):Nat):Int) > 0) = false:=by simp
      simp only [vqM,vt25,Nat.reduceAdd,Nat.reduceSub,Nat.reduceMul,Nat.reduceLeDiff,Nat.reduceEqDiff,Nat.reduceBEq,reduceCtorEq,a4]
      rw [show IntKind.i64.wrap (((k + 1:Nat):Int) + 1) = ((k + 1 + 1:Nat):Int) from wrap_succ (by omega)]
      refine awN_keep [0,1,2,6] ?_
      simp only [vke,Nat.reduceBEq,Nat.reduceAdd]
      exact ih _ _ ⟨rfl,_,q1,q2,rfl⟩
  · rintro e s ⟨rfl,l1,hp1,hs1,rfl⟩
    have hlt:decide (((l.length - 1 + 1:Nat):Int) < (l.length:Int)) = false:=by simp; omega
    simp only [vqM,vt25,Nat.reduceAdd,Nat.reduceSub,Nat.reduceMul,Nat.reduceLeDiff,Nat.reduceEqDiff,Nat.reduceBEq,reduceCtorEq,hlt]
    refine retA (.inl rfl) (r:=.tup []) ?_ ⟨rfl,l1,hp1,?_,rfl⟩
    · rfl
    · rwa [List.take_of_length_le (by have:=hp1.length_eq; omega)] at hs1
  · match l with
    | [] => simp
    | x :: l => simp
theorem t_pdq (l:List Int) (B T:List Box) (L:List Nat) (c:Nat) (m:Int) (hn:l.length ≤ 12):SpecQ Tryz.prog 136 [.row B.length 0 l.length 1,.int .i64 0,.int .i64 l.length,.int .i64 m] ⟨B ++ .cells (ints l) :: T,L,c⟩
    fun r s => r = .tup []∧∃ l',l'.Perm l∧l'.Pairwise (· ≤ ·)∧s = ⟨B ++ .cells (ints l') :: T,L,c⟩:=by
  have w1:IntKind.i64.wrap ((l.length:Int) - 0) = l.length:=(wrap_in (by omega)).trans (by omega)
  have a1:decide ((l.length:Int) ≤ 12) = true:=by simp; omega
  refine SpecQ.introA [] Tryz.func136 rfl (by decide) hmix (by kernel_rfl) [] 134 rfl rfl ?_
  simp only [vqM,vt62,Tryz.f136,Nat.reduceAdd,Nat.reduceSub,Nat.reduceMul,Nat.reduceLeDiff,Nat.reduceEqDiff,Nat.reduceBEq,reduceCtorEq,w1,a1]
  refine awN_loop hmix ?_
  simp only [vqM,vt62,Nat.reduceAdd,Nat.reduceSub,Nat.reduceMul,Nat.reduceLeDiff,Nat.reduceEqDiff,Nat.reduceBEq,reduceCtorEq,w1,a1]
  refine callI_specQ (t_insert l B T L c hn) ?_
  rintro r s ⟨rfl,l',p1,p2,rfl⟩
  simp only [vqM,vt62,Nat.reduceAdd,Nat.reduceSub,Nat.reduceMul,Nat.reduceLeDiff,Nat.reduceEqDiff,Nat.reduceBEq,reduceCtorEq]
  refine retA (.inr rfl) (r:=.tup []) rfl ⟨rfl,l',p1,p2,rfl⟩
theorem t_Sort (l:List Int) (B T:List Box) (L:List Nat) (c:Nat) (hn:l.length ≤ 12):SpecQ Tryz.prog 106 [.row B.length 0 l.length 1] ⟨B ++ .cells (ints l) :: T,L,c⟩
    fun r s => r = .tup []∧∃ l',l'.Perm l∧l'.Pairwise (· ≤ ·)∧s = ⟨B ++ .cells (ints l') :: T,L,c⟩:=by
  have hw:IntKind.u64.wrap (l.length:Int) = l.length:=(by decide:∀ n < 13,IntKind.u64.wrap ((n:Nat):Int) = n) l.length (by omega)
  refine SpecQ.introA [] Tryz.func106 rfl (by decide) hmix (by kernel_rfl) [] 11 rfl rfl ?_
  simp only [vqM,vt63,Tryz.f106,Nat.reduceAdd,Nat.reduceSub,Nat.reduceMul,Nat.reduceLeDiff,Nat.reduceEqDiff,Nat.reduceBEq,reduceCtorEq,hw]
  refine callI_specQ (t_Len l.length hn _) ?_
  rintro r s ⟨rfl,m,rfl⟩
  simp only [vqM,vt63,Nat.reduceAdd,Nat.reduceSub,Nat.reduceMul,Nat.reduceLeDiff,Nat.reduceEqDiff,Nat.reduceBEq,reduceCtorEq,hw]
  refine callI_specQ (t_pdq l B T L c m hn) ?_
  rintro r s ⟨rfl,l',p1,p2,rfl⟩
  simp only [vqM,vt63,Nat.reduceAdd,Nat.reduceSub,Nat.reduceMul,Nat.reduceLeDiff,Nat.reduceEqDiff,Nat.reduceBEq,reduceCtorEq,hw]
  refine retA (.inl rfl) (r:=.tup []) rfl ⟨rfl,l',p1,p2,rfl⟩
theorem t_insert0 (s:St):Spec Tryz.prog 146 [.row0,.int .i64 0,.int .i64 0] s (.tup []) s:=by
  refine Spec.introN [] Tryz.func146 rfl (by decide) hmix (by kernel_rfl) [] 49 rfl rfl ?_
  have w1:IntKind.i64.wrap (0 + 1) = 1:=by decide
  have w2:decide ((1:Int) < 0) = false:=by decide
  simp only [vqM,vt25,Tryz.f146,Nat.reduceAdd,Nat.reduceSub,Nat.reduceMul,Nat.reduceLeDiff,Nat.reduceEqDiff,Nat.reduceBEq,reduceCtorEq,w1]
  refine awN_loop hmix ?_
  simp only [vqM,vt25,Nat.reduceAdd,Nat.reduceSub,Nat.reduceMul,Nat.reduceLeDiff,Nat.reduceEqDiff,Nat.reduceBEq,reduceCtorEq,w2]
  refine ret_here (.inl rfl) rfl (.tup _ fun i hi => by simp at hi)
theorem t_pdq0 (m:Int) (s:St):Spec Tryz.prog 136 [.row0,.int .i64 0,.int .i64 0,.int .i64 m] s (.tup []) s:=by
  have w1:IntKind.i64.wrap (0 - 0) = 0:=by decide
  have a1:decide ((0:Int) ≤ 12) = true:=by decide
  refine Spec.introN [] Tryz.func136 rfl (by decide) hmix (by kernel_rfl) [] 134 rfl rfl ?_
  simp only [vqM,vt62,Tryz.f136,Nat.reduceAdd,Nat.reduceSub,Nat.reduceMul,Nat.reduceLeDiff,Nat.reduceEqDiff,Nat.reduceBEq,reduceCtorEq,w1,a1]
  refine awN_loop hmix ?_
  simp only [vqM,vt62,Nat.reduceAdd,Nat.reduceSub,Nat.reduceMul,Nat.reduceLeDiff,Nat.reduceEqDiff,Nat.reduceBEq,reduceCtorEq,w1,a1]
  refine callI_spec (t_insert0 _) ?_
  simp only [vqM,vt62,Nat.reduceAdd,Nat.reduceSub,Nat.reduceMul,Nat.reduceLeDiff,Nat.reduceEqDiff,Nat.reduceBEq,reduceCtorEq]
  refine ret_here (.inr rfl) rfl (.tup _ fun i hi => by simp at hi)
theorem t_Sort0 (s:St):Spec Tryz.prog 106 [.row0] s (.tup []) s:=by
  have hw:IntKind.u64.wrap 0 = ((0:Nat):Int):=by decide
  refine Spec.introN [] Tryz.func106 rfl (by decide) hmix (by kernel_rfl) [] 11 rfl rfl ?_
  simp only [vqM,vt63,Tryz.f106,Nat.reduceAdd,Nat.reduceSub,Nat.reduceMul,Nat.reduceLeDiff,Nat.reduceEqDiff,Nat.reduceBEq,reduceCtorEq,hw]
  refine callI_specQ (t_Len 0 (by decide) _) ?_
  rintro r s ⟨rfl,m,rfl⟩
  simp only [vqM,vt63,Nat.reduceAdd,Nat.reduceSub,Nat.reduceMul,Nat.reduceLeDiff,Nat.reduceEqDiff,Nat.reduceBEq,reduceCtorEq,hw]
  refine callI_spec (t_pdq0 m _) ?_
  simp only [vqM,vt63,Nat.reduceAdd,Nat.reduceSub,Nat.reduceMul,Nat.reduceLeDiff,Nat.reduceEqDiff,Nat.reduceBEq,reduceCtorEq,hw]
  refine ret_here (.inl rfl) rfl (.tup _ fun i hi => by simp at hi)
end Go.V

namespace Go.V
open Go.Proofs
set_option maxRecDepth 20000
set_option maxHeartbeats 2000000

def compL:List Int→List Int
  | [] => []
  | [x] => [x]
  | x :: y :: l => if x = y then compL (y :: l) else x :: compL (y :: l)
theorem compL_snoc (y x:Int):∀ p:List Int,compL (p ++ [y,x]) = if x = y then compL (p ++ [y]) else compL (p ++ [y]) ++ [x]
  | [] => by
    simp only [List.nil_append,compL]
    by_cases e:y = x
    · subst e; simp
    · rw [if_neg e,if_neg (fun h => e h.symm)]; rfl
  | [a] => by
    have:=compL_snoc y x []
    simp only [List.nil_append,List.cons_append] at *
    simp only [compL] at *
    by_cases e:y = x <;> by_cases e2:a = y <;> simp_all
    all_goals (try (intro h; exact absurd h.symm e)) 
    all_goals (rw [if_neg (fun h => e h.symm)])
  | a :: b :: p => by
    have:=compL_snoc y x (b :: p)
    simp only [List.cons_append] at *
    rw [compL,compL,this]
    by_cases e:x = y <;> by_cases e2:a = b <;> simp [e,e2]
theorem compL_take {l:List Int} {i:Nat} (h:i + 1 < l.length):compL (l.take (i + 1 + 1)) = if l[i + 1] = l[i] then compL (l.take (i + 1)) else compL (l.take (i + 1)) ++ [l[i + 1]]:=by
  have e1:l.take (i + 1) = l.take i ++ [l[i]]:=by rw [List.take_add_one,List.getElem?_eq_getElem (by omega)]; rfl
  have e2:l.take (i + 1 + 1) = l.take i ++ [l[i],l[i + 1]]:=by rw [List.take_add_one,List.getElem?_eq_getElem h,e1,List.append_assoc]; rfl
  rw [e2,e1,compL_snoc]
theorem compL_le:∀ l:List Int,(compL l).length ≤ l.length
  | [] => by simp [compL]
  | [y] => by simp [compL]
  | y :: z :: l => by
    have:=compL_le (z :: l)
    simp only [compL]
    split <;> simp at * <;> omega
theorem sl_from {E e:TypeId} {by_:Nat} {ag:Bool} {b off n k:Nat} (h1:0 < k) (h2:k < n):slR (some (.slice E)) (some (e,1,by_,ag)) b off n 1 (some (.int .i64 (k:Int))) none = some (.row b (off + k * 1) (n - k) 1):=by
  have:¬ (k = 0):=by omega
  simp [slR,evBd,this,h2]
  omega
theorem sl_to {E e:TypeId} {by_:Nat} {ag:Bool} {b off n k:Nat} (h2:k ≤ n):slR (some (.slice E)) (some (e,1,by_,ag)) b off n 1 none (some (.int .i64 (k:Int))) = some (.row b off k 1):=by
  simp [slR,evBd,h2]
def clR (el:Option (TypeId × Nat × Nat × Bool)) (P:Program) (b off n:Nat) (bx:Option Box) (B:List Box) (L:List Nat) (c:Nat):Option St:=match el with
  | some (e,sz,_,_) => match zeroT P e,bx with
    | some zs,some (.cells cs) => if zs.length = sz∧0 < sz∧off + n * sz ≤ cs.length then some ⟨B.set b (.cells (storeD cs off (List.replicate n zs).flatten)),L,c⟩ else none
    | _,_ => none
  | none => none
theorem evClear_rw {P:Program} {T:TypeId} {b off n rsz:Nat} {B:List Box} {L:List Nat} {c:Nat}:evClear P T (.row b off n rsz) ⟨B,L,c⟩ = clR (elemT P T) P b off n B[b]? B L c:=rfl
def clR2 (z:Option (List D)) (sz b off n:Nat) (cs:List D) (B:List Box) (L:List Nat) (c:Nat):Option St:=match z with
  | some zs => if zs.length = sz∧0 < sz∧off + n * sz ≤ cs.length then some ⟨B.set b (.cells (storeD cs off (List.replicate n zs).flatten)),L,c⟩ else none
  | none => none
theorem clR_w {P:Program} {e:TypeId} {sz by_:Nat} {ag:Bool} {b off n:Nat} {cs:List D} {B:List Box} {L:List Nat} {c:Nat}:clR (some (e,sz,by_,ag)) P b off n (some (.cells cs)) B L c = clR2 (zeroT P e) sz b off n cs B L c:=by
  unfold clR clR2; dsimp only; cases zeroT P e <;> rfl
theorem clR2_w {z:D} {b off n:Nat} {cs:List D} {B:List Box} {L:List Nat} {c:Nat} (h:off + n * 1 ≤ cs.length):clR2 (some [z]) 1 b off n cs B L c = some ⟨B.set b (.cells (storeD cs off (List.replicate n [z]).flatten)),L,c⟩:=by
  unfold clR2; dsimp only; rw [if_pos ⟨rfl,by decide,h⟩]
theorem t_Compact (l:List Int) (B T:List Box) (L:List Nat) (c:Nat) (hn0:0 < l.length) (hn:l.length ≤ 1000000):SpecQ Tryz.prog 107 [.row B.length 0 l.length 1] ⟨B ++ .cells (ints l) :: T,L,c⟩
    fun r s => ∃ cs,r = .row B.length 0 (compL l).length 1∧cs.take (compL l).length = ints (compL l)∧s = ⟨B ++ .cells cs :: T,L,c⟩:=by
  refine SpecQ.introA [] Tryz.func107 rfl (by decide) hmix (by kernel_rfl) [ResultVar.tmp 2] 61 rfl rfl ?_
  simp only [vqM,vt25,Tryz.f107,Nat.reduceAdd,Nat.reduceSub,Nat.reduceMul,Nat.reduceLeDiff,Nat.reduceEqDiff,Nat.reduceBEq,reduceCtorEq]
  refine ifI_intro (fun hc => ?_) (fun hc => ?_)
  · simp only [vqM,vt25,Nat.reduceAdd,Nat.reduceSub,Nat.reduceMul,Nat.reduceLeDiff,Nat.reduceEqDiff,Nat.reduceBEq,reduceCtorEq]
    have hcl:compL l = l:=by
      simp at hc
      match l,hn0 with
      | [x],_ => rfl
      | _ :: _ :: _,_ => simp at hc; omega
    refine retA (.inr rfl) (r:=.row B.length 0 l.length 1) ?_ ⟨ints l,by rw [hcl],by rw [hcl,List.take_of_length_le (by simp [ints])],rfl⟩
    simp only [vqM,vt25,Nat.reduceAdd,Nat.reduceSub,Nat.reduceMul,Nat.reduceLeDiff,Nat.reduceEqDiff,Nat.reduceBEq,reduceCtorEq]
  have h2:2 ≤ l.length:=by simp at hc; omega
  simp only [vqM,vt25,Nat.reduceAdd,Nat.reduceSub,Nat.reduceMul,Nat.reduceLeDiff,Nat.reduceEqDiff,Nat.reduceBEq,reduceCtorEq]
  refine awN_keep [0,3] ?_
  simp only [vke,Nat.reduceBEq,Nat.reduceAdd]
  refine awN_for hmix (l.length - 1) (fun m => [.row B.length 0 l.length 1,.junk,.junk,.int .i64 ((m + 1:Nat):Int),.junk,.junk,.junk,.junk,.junk,.junk,.junk,.junk,.junk,.junk,.junk,.junk,.junk,.junk,.junk,.junk,.junk,.junk,.junk,.junk,.junk,.junk,.junk,.junk,.junk,.junk,.junk,.junk,.junk,.junk,.junk,.junk,.junk,.junk,.junk,.junk,.junk,.junk,.junk,.junk,.junk,.junk,.junk,.junk,.junk,.junk,.junk,.junk,.junk,.junk,.junk,.junk,.junk,.junk,.junk,.junk,.junk]) (fun _ => ⟨B ++ .cells (ints l) :: T,L,c⟩) (fun m => compL (l.take (m + 1)) = l.take (m + 1)) ?_ ?_ 0 (Nat.zero_le _) ?_
  · intro m hm hI ih
    have a0:decide (((m + 1:Nat):Int) < (l.length:Int)) = true:=by simp; omega
    have a1:IntKind.i64.wrap (((m + 1:Nat):Int) - 1) = (m:Int):=(wrap_in (by omega)).trans (by omega)
    have a2:(0 ≤ ((m + 1:Nat):Int)∧((m + 1:Nat):Int) < (l.length:Int)) = True:=by simp; omega
    have a3:(0 ≤ (m:Int)∧(m:Int) < (l.length:Int)) = True:=by simp; omega
    have hat:∀ i (h:i < l.length),((ints l).drop i)[0]? = some (.int .i64 l[i]):=fun i h => by simp [ints,h]
    have b1:=hat (m + 1) (by omega)
    have b2:=hat m (by omega)
    simp only [vqM,vt25,Nat.reduceAdd,Nat.reduceSub,Nat.reduceMul,Nat.reduceLeDiff,Nat.reduceEqDiff,Nat.reduceBEq,reduceCtorEq,a0,a1,a2,a3,b1,b2,Int.toNat_natCast,Nat.mul_one,Nat.zero_add]
    refine ifI_intro (fun hd => ?_) (fun hd => ?_)
    · have hdd:l[m + 1] = l[m]:=by simpa using hd
      have hT:compL (l.take (m + 1 + 1)) = l.take (m + 1):=by rw [compL_take (by omega),if_pos hdd,hI]
      simp only [vqM,vt25,Nat.reduceAdd,Nat.reduceSub,Nat.reduceMul,Nat.reduceLeDiff,Nat.reduceEqDiff,Nat.reduceBEq,reduceCtorEq,sl_from (show 0 < m + 1 by omega) (show m + 1 < l.length by omega),Nat.mul_one,Nat.zero_add]
      refine awN_keep [0,3,4,5] ?_
      simp only [vke,Nat.reduceBEq,Nat.reduceAdd]
      refine awN_forR hmix (l.length - (m + 1) - 1) (fun j e s => ∃ (cur:List Int) (K:Nat),e = [.row B.length 0 l.length 1,.junk,.junk,.int .i64 (K:Int),.row B.length (m + 1) (l.length - (m + 1)) 1,.int .i64 ((j + 1:Nat):Int),.junk,.junk,.junk,.junk,.junk,.junk,.junk,.junk,.junk,.junk,.junk,.junk,.junk,.junk,.junk,.junk,.junk,.junk,.junk,.junk,.junk,.junk,.junk,.junk,.junk,.junk,.junk,.junk,.junk,.junk,.junk,.junk,.junk,.junk,.junk,.junk,.junk,.junk,.junk,.junk,.junk,.junk,.junk,.junk,.junk,.junk,.junk,.junk,.junk,.junk,.junk,.junk,.junk,.junk,.junk]∧cur.length = l.length∧K = (compL (l.take (m + 1 + j + 1))).length ∧
        cur.take K = compL (l.take (m + 1 + j + 1))∧cur.drop (m + 1 + j) = l.drop (m + 1 + j)∧K ≤ m + 1 + j∧0 < K∧s = ⟨B ++ .cells (ints cur) :: T,L,c⟩) ?_ ?_ 0 _ _ (Nat.zero_le _) ⟨l,m + 1,rfl,rfl,?_,?_,rfl,by omega,by omega,rfl⟩
      · rintro j e s hj ⟨cur,K,rfl,q1,q2,q3,q4,q5,q6,rfl⟩ ih2
        have a0:decide (((j + 1:Nat):Int) < ((l.length - (m + 1):Nat):Int)) = true:=by simp; omega
        have a1:IntKind.i64.wrap (((j + 1:Nat):Int) - 1) = (j:Int):=(wrap_in (by omega)).trans (by omega)
        have a2:(0 ≤ ((j + 1:Nat):Int)∧((j + 1:Nat):Int) < ((l.length - (m + 1):Nat):Int)) = True:=by simp; omega
        have a3:(0 ≤ (j:Int)∧(j:Int) < ((l.length - (m + 1):Nat):Int)) = True:=by simp; omega
        have a4:(0 ≤ (K:Int)∧(K:Int) < (l.length:Int)) = True:=by simp; omega
        have hat:∀ i (h:m + 1 + j ≤ i) (h2:i < l.length),((ints cur).drop i)[0]? = some (.int .i64 l[i]):=fun i h h2 => by
          have e1:cur[i]? = l[i]?:=by
            have:=congrArg (fun z => z[i - (m + 1 + j)]?) q4
            simpa [show m + 1 + j + (i - (m + 1 + j)) = i from by omega] using this
          rw [List.getElem?_drop,Nat.add_zero]
          simp [ints,e1,h2]
        have b1:=hat (m + 1 + (j + 1)) (by omega) (by omega)
        have b2:=hat (m + 1 + j) (by omega) (by omega)
        have hsn:=compL_take (l:=l) (i:=m + 1 + j) (by omega)
        simp only [vqM,vt25,Nat.reduceAdd,Nat.reduceSub,Nat.reduceMul,Nat.reduceLeDiff,Nat.reduceEqDiff,Nat.reduceBEq,reduceCtorEq,a0,a1,a2,a3,b1,b2,Int.toNat_natCast,Nat.mul_one,Nat.zero_add]
        refine ifI_intro (fun hx => ?_) (fun hx => ?_)
        · have hne:¬ l[m + 1 + j + 1] = l[m + 1 + j]:=by have h:=hx; simp at h; exact h
          have a5:(K + 1 ≤ (ints cur).length) = True:=by simp [ints]; omega
          have c1:(ints cur).take K ++ D.int .i64 (l[m + 1 + (j + 1)]) :: (ints cur).drop (K + 1) = ints (cur.take K ++ l[m + 1 + (j + 1)] :: cur.drop (K + 1)):=by simp [ints]
          simp only [vqM,vt25,Nat.reduceAdd,Nat.reduceSub,Nat.reduceMul,Nat.reduceLeDiff,Nat.reduceEqDiff,Nat.reduceBEq,reduceCtorEq,a0,a1,a2,a3,a4,a5,b1,b2,c1,Int.toNat_natCast,Nat.mul_one,Nat.zero_add]
          rw [show IntKind.i64.wrap ((K:Int) + 1) = ((K + 1:Nat):Int) from wrap_succ (by omega),show IntKind.i64.wrap (((j + 1:Nat):Int) + 1) = ((j + 1 + 1:Nat):Int) from wrap_succ (by omega)]
          refine awN_keep [0,3,4,5] ?_
          simp only [vke,Nat.reduceBEq,Nat.reduceAdd]
          rw [if_neg hne] at hsn
          have hlt:(cur.take K).length = K:=by simp; omega
          refine ih2 _ _ ⟨_,K + 1,rfl,?_,?_,?_,?_,by omega,by omega,rfl⟩
          · simp; omega
          · rw [show m + 1 + (j + 1) + 1 = m + 1 + j + 1 + 1 from by omega,hsn,q2]; simp
          · rw [show m + 1 + (j + 1) + 1 = m + 1 + j + 1 + 1 from by omega,hsn,← q3,List.take_append,List.take_of_length_le (by omega),hlt]
            simp [show K + 1 - K = 1 from by omega]
            rfl
          · rw [List.drop_append,List.drop_of_length_le (by omega),hlt,show m + 1 + (j + 1) - K = (m + 1 + j - K) + 1 from by omega]
            simp only [List.nil_append,List.drop_succ_cons,List.drop_drop]
            have:=congrArg (List.drop 1) q4
            rw [List.drop_drop,List.drop_drop] at this
            rw [show K + 1 + (m + 1 + j - K) = m + 1 + j + 1 from by omega,this]; rfl
        · have heq:l[m + 1 + j + 1] = l[m + 1 + j]:=by have h:=hx; simp at h; exact h
          simp only [vqM,vt25,Nat.reduceAdd,Nat.reduceSub,Nat.reduceMul,Nat.reduceLeDiff,Nat.reduceEqDiff,Nat.reduceBEq,reduceCtorEq]
          rw [show IntKind.i64.wrap (((j + 1:Nat):Int) + 1) = ((j + 1 + 1:Nat):Int) from wrap_succ (by omega)]
          refine awN_keep [0,3,4,5] ?_
          simp only [vke,Nat.reduceBEq,Nat.reduceAdd]
          rw [if_pos heq] at hsn
          refine ih2 _ _ ⟨cur,K,rfl,q1,?_,?_,?_,by omega,q6,rfl⟩
          · rw [show m + 1 + (j + 1) + 1 = m + 1 + j + 1 + 1 from by omega,hsn,q2]
          · rw [show m + 1 + (j + 1) + 1 = m + 1 + j + 1 + 1 from by omega,hsn,q3]
          · have:=congrArg (List.drop 1) q4
            rw [List.drop_drop,List.drop_drop] at this; exact this
      · rintro e s ⟨cur,K,rfl,q1,q2,q3,q4,q5,q6,rfl⟩
        have a0:decide (((l.length - (m + 1) - 1 + 1:Nat):Int) < ((l.length - (m + 1):Nat):Int)) = false:=by simp; omega
        have hall:l.take (m + 1 + (l.length - (m + 1) - 1) + 1) = l:=List.take_of_length_le (by omega)
        rw [hall] at q2 q3
        have hKl:=compL_le l
        have hcl:K + (l.length - K) * 1 ≤ (ints cur).length:=by simp [ints]; omega
        simp only [vqM,vt25,Nat.reduceAdd,Nat.reduceSub,Nat.reduceMul,Nat.reduceLeDiff,Nat.reduceEqDiff,Nat.reduceBEq,reduceCtorEq,a0,sl_from (show 0 < K from q6) (show K < l.length by omega),sl_to (show K ≤ l.length by omega),Nat.mul_one,Nat.zero_add,evClear_rw,clR_w,clR2_w hcl]
        refine retA (.inr rfl) (r:=.row B.length 0 K 1) ?_ ⟨_,by rw [q2],?_,rfl⟩
        · simp only [vqM,vt25,Nat.reduceAdd,Nat.reduceSub,Nat.reduceMul,Nat.reduceLeDiff,Nat.reduceEqDiff,Nat.reduceBEq,reduceCtorEq]
        · rw [← q2]; (try rw [storeD]); rw [List.take_append_of_le_length (by simp [ints]; omega),List.take_of_length_le (by simp [ints]; omega)]
          rw [show (ints cur).take K = ints (cur.take K) from by simp [ints],q3]
      · rw [hT]; simp; omega
      · rw [hT]
    · have hdd:¬ l[m + 1] = l[m]:=by simpa using hd
      simp only [vqM,vt25,Nat.reduceAdd,Nat.reduceSub,Nat.reduceMul,Nat.reduceLeDiff,Nat.reduceEqDiff,Nat.reduceBEq,reduceCtorEq]
      rw [show IntKind.i64.wrap (((m + 1:Nat):Int) + 1) = ((m + 1 + 1:Nat):Int) from wrap_succ (by omega)]
      refine awN_keep [0,3] ?_
      simp only [vke,Nat.reduceBEq,Nat.reduceAdd]
      refine ih ?_
      rw [compL_take (by omega),if_neg hdd,hI,List.take_add_one (i:=m + 1),List.getElem?_eq_getElem (by omega)]; rfl
  · intro hI
    rw [show l.length - 1 + 1 = l.length from by omega,List.take_length] at hI
    have a0:decide (((l.length - 1 + 1:Nat):Int) < (l.length:Int)) = false:=by simp; omega
    simp only [vqM,vt25,Nat.reduceAdd,Nat.reduceSub,Nat.reduceMul,Nat.reduceLeDiff,Nat.reduceEqDiff,Nat.reduceBEq,reduceCtorEq,a0]
    refine retA (.inr rfl) (r:=.row B.length 0 l.length 1) ?_ ⟨ints l,by rw [hI],by rw [hI,List.take_of_length_le (by simp [ints])],rfl⟩
    simp only [vqM,vt25,Nat.reduceAdd,Nat.reduceSub,Nat.reduceMul,Nat.reduceLeDiff,Nat.reduceEqDiff,Nat.reduceBEq,reduceCtorEq]
  · match l,hn0 with
    | [x],_ => rfl
    | x :: _ :: _,_ => rfl
end Go.V

namespace Go.V

theorem wpOpsIn_app {F:Fence} {n:Nat} {P:Program} {ops:Array Oper} {Q Q':Exit→Act→World→Prop} {l2:List Nat} (h0:∀ a w,Q' .normal a w→wpOpsIn F n P ops Q l2 a w) (hQ:∀ x a w,(∀ q:x = .normal,False)→Q' x a w→Q x a w) (hL:LetsOut Q'→LetsOut Q) :
    ∀ (l1:List Nat) (a:Act) (w:World),wpOpsIn F n P ops Q' l1 a w→wpOpsIn F n P ops Q (l1 ++ l2) a w:=by
  intro l1
  induction l1 with
  | nil => intro a w h; exact h0 a w h
  | cons i l1 ih =>
    intro a w h
    simp only [List.cons_append,wpOpsIn] at h ⊢
    split
    · rename_i hi; simp only [hi] at h; exact ih a w h
    · rename_i o hi
      simp only [hi] at h
      split
      · rename_i hw
        simp only [hw,if_true] at h
        unfold Oper.wpIn at *
        refine ⟨h.1,?_⟩
        have hh:=h.2
        generalize (o.semAt F.round a.eval).run P w = r at *
        cases r with
        | ok x w' =>
          cases x <;> simp only [Oper.uponIn] at hh ⊢ <;>
            first
              | exact ih _ _ hh
              | exact ⟨hh.1,CallsIn.mono hh.2 (fun e w'' he => by cases e <;> first | exact ih _ _ he | exact hQ _ _ _ (fun q => by cases q) he | exact hL he)⟩
              | exact ⟨hh.1,RowsIn.mono hh.2 (fun _ _ he => ih _ _ he)⟩
              | exact ⟨hh.1,RoundIn.mono hh.2 (fun e w'' he => by cases e <;> first | exact ih _ _ he | exact hQ _ _ _ (fun q => by cases q) he | exact hL he)⟩
        | halt x w' => cases x <;> simp only [Oper.uponIn] at hh ⊢ <;> first | exact hh | exact hQ _ _ _ (fun q => by cases q) hh | exact hL hh
      · rename_i hw
        simp only [hw] at h
        exact ⟨h.1,ih _ _ h.2⟩
def ghQ (P:Program) (full os2:List Oper) (K:List D→St→Prop):List D→St→Prop:=fun e s => ∃ e' s',Gh e s e' s'∧runN P full os2 e' s' K
@[reducible] def ghC (P:Program) (full os2:List Oper) (K:KC):KC:=⟨ghQ P full os2 K.f⟩
theorem awp_region2 {ro:Option Nat} {P:Program} {id:Nat} {os1 os2:List Oper} {Q:Exit→List D→St→Prop} {e:List D} {s:St} (h:runN P (os1 ++ os2) os1 e s (ghQ P (os1 ++ os2) os2 (Q .normal))) :
    AWp ro P (.region id (os1 ++ os2).toArray false) Q e s:=by
  intro O0 a w g ha
  refine wpIn_region ?_
  have hr:List.range (os1 ++ os2).toArray.size = List.range os1.length ++ (List.range os2.length).map (os1.length + ·):=by
    rw [List.size_toArray,List.length_append,List.range_add]
  rw [hr]
  refine wpOpsIn_app (Q':=fun x a w => match x with | .normal => wpOpsIn (W ro) 0 P (os1 ++ os2).toArray (conc O0 g Q) ((List.range os2.length).map (os1.length + ·)) a w | x => conc O0 g Q x a w) (fun a w h => h) (fun x a w hx h => by cases x <;> first | exact absurd rfl (fun q => hx q) | exact h) (fun h => h) _ a w ?_
  refine runN_ok (O0:=O0) (List.range os1.length) os1 (by simp) (fun i h1 h2 => by simp only [List.getElem_range,List.getElem?_toArray]; rw [List.getElem?_append_left h2,List.getElem?_eq_getElem h2]) e s a w g ha (by simpa using h) fun a' w' g' e' s' hle ha' hk => ?_
  obtain ⟨e2,s2,hg,hr2⟩:=hk
  obtain ⟨g2,hle2,ha2⟩:=hg O0 a' w' g' ha'
  refine runN_ok (O0:=O0) ((List.range os2.length).map (os1.length + ·)) os2 (by simp) (fun i h1 h2 => by simp at h1; simp [h1]) e2 s2 a' w' g2 ha2 (by simpa using hr2) fun a3 w3 g3 e3 s3 hle3 ha3 hk3 => ?_
  exact ⟨trivial,e3,s3,g3,(hle.trans hle2).trans hle3,ha3,hk3⟩
theorem awN_region2a {X:Draws} {ro:Option Nat} {P:Program} {id:Nat} {os1 os2 ops:List Oper} {e:List D} {s:St} {Q:QC} (k:Nat) (h1:ops.take k = os1) (h2:ops.drop k = os2)
    (h:@runNI P ops os1 e s (ghC P ops os2 (normC Q))):@AWNI X ro P (.region id ops.toArray false) e s Q:=by
  have ho:os1 ++ os2 = ops:=by rw [← h1,← h2]; exact List.take_append_drop _ _
  intro _
  rw [← ho]
  refine awp_region2 ?_
  rw [ho]
  exact h
theorem kI_gh {P:Program} {full os2:List Oper} {e e':List D} {s s':St} {K:KC} (hg:Gh e s e' s') (h:@runNI P full os2 e' s' K):@kI e s (ghC P full os2 K):=⟨e',s',hg,h⟩
theorem gh_weak {e e':List D} {s:St} (hl:e.length = e'.length) (hw:∀ (i:Nat) (h1:i < e.length) (h2:i < e'.length),weakD e[i] e'[i]):Gh e s e' s:=fun O0 a w g ha =>
  ⟨g,.refl g,⟨⟨by rw [← hl]; exact ha.env.1,fun i h1 h2 => hw i (by omega) h1 g _ (ha.env.2 i (by omega) h2)⟩,ha.wr,ha.sub,ha.df⟩⟩
theorem Gh.trans {e e1 e2:List D} {s s1 s2:St} (h:Gh e s e1 s1) (k:Gh e1 s1 e2 s2):Gh e s e2 s2:=fun O0 a w g ha => by
  obtain ⟨g1,l1,a1⟩:=h O0 a w g ha
  obtain ⟨g2,l2,a2⟩:=k O0 a w g1 a1
  exact ⟨g2,l1.trans l2,a2⟩
theorem gh_slot {e:List D} {s:St} (i:Nat) {d d':D} (hi:e[i]? = some d) (hw:weakD d d'):Gh e s (e.set i d') s:=by
  refine gh_weak (by simp) fun j h1 h2 => ?_
  rw [List.getElem_set]
  split
  · rename_i hij; subst hij
    obtain ⟨h3,h4⟩:=List.getElem?_eq_some_iff.1 hi
    rw [h4]; exact hw
  · exact weak_refl _
def rowZ (b n sz:Nat) (e:List D):Prop:=∀ off z,(D.row b off n z) ∈ e→z = sz
theorem fz_ok {g g':G} {b n sz:Nat} {xs:List (List D)} (hle:g.le g') (hf:∀ v,R g (.row b 0 n sz) v→R g' (.slice .none xs) v) {d:D} {v:Value} (hz:∀ off z,d = .row b off n z→z = sz) (h:R g d v):R g' (fz b n xs d) v:=by
  unfold fz
  split
  · rename_i b' off n' z
    split
    · rename_i hq
      obtain ⟨rfl,rfl,rfl⟩:=hq
      obtain rfl:=hz _ _ rfl
      exact hf v h
    · exact h.mono hle
  · exact h.mono hle
theorem gh_freezeIn {e:List D} {s:St} {b n sz c:Nat} {cs ds:List D} {xs:List (List D)} (hb:s.boxes[b]? = some (.cells cs)) (hc:s.boxes[c]? = some (.cells ds)) (hbc:b ≠ c) (hx:xs.flatten = cs.take (n * sz)) (hn:xs.length = n) (hs:∀ x ∈ xs,x.length = sz)
    (h1:rowZ b n sz e) (h2:rowZ b n sz ds):Gh e s (e.map (fz b n xs)) { s with boxes:=(s.boxes.set b .dead).set c (.cells (ds.map (fz b n xs))) }:=by
  intro O0 a w g h
  obtain ⟨g',hle,hw,hf⟩:=h.wr.freeze hb
  have hf':∀ v,R g (.row b 0 n sz) v→R g' (.slice .none xs) v:=fun v hv => hf 0 n sz xs v hv (by simpa using hx) hn hs
  refine ⟨g',hle,h.le hle ⟨by rw [List.length_map]; exact h.env.1,fun i p1 p2 => ?_⟩ ?_⟩
  · rw [List.getElem_map]
    have hi:i < e.length:=by simpa using p1
    exact fz_ok hle hf' (fun off z hd => h1 off z (hd ▸ List.getElem_mem hi)) (h.env.2 i hi p2)
  · have hcl:c < s.boxes.length:=(List.getElem?_eq_some_iff.1 hc).1
    have hcd:(s.boxes.set b .dead)[c]? = some (.cells ds):=by rw [List.getElem?_set_ne hbc]; exact hc
    obtain ⟨blk,arr,T,fr,q1,q2,q3,q4,q5⟩:=h.wr.box c _ hc
    obtain ⟨blk',arr',T',fr',r1,r2,r3,r4,r5⟩:=hw.box c _ hcd
    have e1:blk' = blk:=by have:=hle.B _ _ q1; rw [r1] at this; exact Option.some.inj this
    subst e1
    have hnew:BoxOk w g' c (.cells (ds.map (fz b n xs))):=by
      refine ⟨blk',arr,T,fr,r1,q2,by rw [List.length_map]; exact q3,fun j j1 j2 => ?_,r5⟩
      have hj:j < ds.length:=by simpa using j1
      rw [List.getElem_map]
      exact ⟨fz_ok hle hf' (fun off z hd => h2 off z (hd ▸ List.getElem_mem hj)) (q4 j hj j2).1,(q4 j hj j2).2⟩
    refine { hw with box:=fun i bx hi => ?_,inj:=fun i j k e1 e2 l1 l2 => hw.inj i j k e1 e2 (l1' l1) (l1' l2),dom:=fun i k hi => by have:=hw.dom i k hi; exact ⟨by simpa using this.1,this.2⟩ }
    · simp only at hi
      by_cases e:i = c
      · subst e
        rw [List.getElem?_set_self (by simpa using hcl)] at hi; cases hi
        exact hnew
      · rw [List.getElem?_set_ne (by omega)] at hi
        exact hw.box i bx hi
  where
  l1' {i:Nat} (h:Live1 { s with boxes:=(s.boxes.set b .dead).set c (.cells (ds.map (fz b n xs))) } i):Live1 { s with boxes:=s.boxes.set b .dead } i:=by
    obtain ⟨bx,h1,h2⟩:=h
    by_cases e:i = c
    · subst e
      exact ⟨.cells ds,by simp only; rw [List.getElem?_set_ne hbc]; exact hc,by simp⟩
    · simp only at h1
      rw [List.getElem?_set_ne (by omega)] at h1
      exact ⟨bx,h1,h2⟩
@[reducible] def thenKC (X:Draws) (ro:Option Nat) (P:Program) (b:Code) (Q:QC):QC:=⟨thenQ (AWN X ro P b Q.f) Q.f⟩
theorem seq_go {X:Draws} {ro:Option Nat} {P:Program} {a b:Code} {e:List D} {s:St} {Q:QC} (h:@cwNI X ro P a e s (thenKC X ro P b Q)):@seqI true X ro P a b e s Q:=h
theorem awN_seq {X:Draws} {ro:Option Nat} {P:Program} {a b:Code} {e:List D} {s:St} {Q:QC} (h:@AWNI X ro P a e s (thenKC X ro P b Q)):@AWNI X ro P (.seq a b) e s Q:=fun hd => by
  simp only [drawsOk,Bool.and_eq_true] at hd
  refine awp_seq ((h hd.1).mono fun x e s hx => ?_)
  cases x <;> first | exact hx hd.2 | exact hx
theorem awN_cond {X:Draws} {ro:Option Nat} {P:Program} {c:Operand} {a b:Code} {e:List D} {s:St} {Q:QC} {q:Bool} (hq:val e c = .bool q) (h1:q = true→@AWNI X ro P a e s Q) (h2:q = false→@AWNI X ro P b e s Q):@AWNI X ro P (.cond c a b) e s Q:=fun hd => by
  simp only [drawsOk,Bool.and_eq_true] at hd
  refine awp_cond ?_
  rw [hq]
  cases q with
  | true => exact h1 rfl hd.1
  | false => exact h2 rfl hd.2
def noRow:D→Bool
  | .row _ _ _ _ => false
  | _ => true
theorem fz_no {b n:Nat} {xs:List (List D)} {d:D} (h:noRow d = true):fz b n xs d = d:=by
  cases d <;> first | rfl | (simp [noRow] at h)
theorem fz_map {b n:Nat} {xs:List (List D)} {e:List D} (h:e.all noRow = true):e.map (fz b n xs) = e:=by
  rw [List.all_eq_true] at h
  conv => rhs; rw [← List.map_id e]
  exact List.map_congr_left fun d hd => fz_no (h d hd)
theorem rowZ_no {b n sz:Nat} {e:List D} (h:e.all noRow = true):rowZ b n sz e:=fun off z hm => by
  have:=List.all_eq_true.1 h _ hm
  simp [noRow] at this
theorem gh_keep (ks:List Nat) {e:List D} {s:St}:Gh e s (keep ks e) s:=gh_weak (by simp [keep]) fun i h1 h2 g v hv => by
  simp only [keep,List.getElem_map,List.getElem_zipIdx]
  split
  · simpa using hv
  · exact .junk _
theorem vsK :
    (∀ (X:Draws) (ro:Option Nat) (P:Program) (b:Code) (e:List D) (s:St) (Q:QC),@qI .normal e s (thenKC X ro P b Q) = @AWNI X ro P b e s Q) ∧
    (∀ (X:Draws) (ro:Option Nat) (P:Program) (b:Code) (e:List D) (s:St) (Q:QC),@qI .ret e s (thenKC X ro P b Q) = @qI .ret e s Q) ∧
    (∀ (X:Draws) (ro:Option Nat) (P:Program) (b:Code) (e:List D) (s:St) (Q:QC) (id:Nat),@qI (.exit id) e s (thenKC X ro P b Q) = @qI (.exit id) e s Q):=by
  and_intros
  all_goals intros
  all_goals rfl
end Go.V

namespace Go.V

theorem eqNil_run {P:Program} {T e:TypeId} {g:G} {ox oy:Operand} {o:Own} {xs:List (List D)} {u v:Value} (hu:P.underlying T = some (.slice e)) (hx:R g (.slice o xs) u) (hy:R g (.slice .nil []) v) (w:World) :
    ∃ b:Bool,(0 < xs.length→b = false)∧(do eqGuard .eql T ox oy u v; binOp .eql T u v:Sem Value).run P w = .ok (.bool b) w:=by
  have:=isNilConst_sl hy rfl (b:=true) (by rfl)
  subst this
  cases hx with
  | slice o xs a cap sz blk off val hc hm ho hs ha hM hv hR =>
    refine ⟨a.isNone,fun h => by rw [ha h]; rfl,?_⟩
    have e1:=run_eqGuard_ne (P:=P) (w:=w) .eql T ox oy (.slice a xs.length cap) (.slice none 0 0) (by simp) (by simp)
    have e2:=(eq_of_equalIn (equalIn_sl hu a xs.length cap 9999 w) (by simp) (by simp) (by simp) (by simp)).1
    simp only [Sem.run_bind,e1,Result.andThen_ok,e2]

def nilQ (o:Oper) (x y:Operand) (Q:Exit→List D→St→Prop):List D→St→Prop:=fun e s => ∃ ow xs,val e x = .slice ow xs∧val e y = .slice .nil []∧∀ b:Bool,(0 < xs.length→b = false)→Q .normal (putD e o.dst (.bool b)) s
@[reducible] def nilC (o:Oper) (x y:Operand) (Q:QC):KC:=⟨nilQ o x y Q.f⟩
theorem awp_nilTest {ro:Option Nat} {P:Program} {id:Nat} {os1:List Oper} {o:Oper} {T e2 U:TypeId} {x y:Operand} {Q:Exit→List D→St→Prop} {e:List D} {s:St} (ho:o.op = .binOp .eql T x y U) (hg:o.guard = none) (hu:P.underlying T = some (.slice e2))
    (h:runN P (os1 ++ [o]) os1 e s (nilQ o x y Q)):AWp ro P (.region id (os1 ++ [o]).toArray false) Q e s:=by
  intro O0 a w g ha
  refine wpIn_region ?_
  have hr:List.range (os1 ++ [o]).toArray.size = List.range os1.length ++ [os1.length]:=by
    rw [List.size_toArray,List.length_append,List.range_add]; simp
  rw [hr]
  refine wpOpsIn_app (Q':=fun x a w => match x with | .normal => wpOpsIn (W ro) 0 P (os1 ++ [o]).toArray (conc O0 g Q) [os1.length] a w | x => conc O0 g Q x a w) (fun a w h => h) (fun x a w hx h => by cases x <;> first | exact absurd rfl (fun q => hx q) | exact h) (fun h => h) _ a w ?_
  refine runN_ok (O0:=O0) (List.range os1.length) os1 (by simp) (fun i h1 h2 => by simp only [List.getElem_range,List.getElem?_toArray]; rw [List.getElem?_append_left h2,List.getElem?_eq_getElem h2]) e s a w g ha (by simpa using h) fun a' w' g' e' s' hle ha' hk => ?_
  obtain ⟨ow,xs,h1,h2,h3⟩:=hk
  have hi:(os1 ++ [o]).toArray[os1.length]? = some o:=by simp
  have hx:=val_ok ha'.env x
  have hy:=val_ok ha'.env y
  rw [h1] at hx
  rw [h2] at hy
  obtain ⟨b,hb,hrun⟩:=eqNil_run (ox:=x) (oy:=y) hu hx hy w'
  show wpOpsIn (W ro) 0 P (os1 ++ [o]).toArray (conc O0 g Q) [os1.length] a' w'
  simp only [wpOpsIn,hi,Region.wanted,hg,if_true]
  have hex:(execOp a'.eval o).run P w' = .ok (.value (.bool b)) w':=by
    simp only [execOp,ho,Sem.run_bind] at hrun ⊢
    simp only [hrun]
    rfl
  refine wpIn_ok hex (by intro c; rw [ho]; simp) ?_
  exact ⟨trivial,_,s',g',hle,ha'.step (.refl g') ha'.wr o.dst (.bool b),h3 b hb⟩
theorem awN_nilTest {X:Draws} {ro:Option Nat} {P:Program} {id:Nat} {os1 ops:List Oper} {o:Oper} {T e2 U:TypeId} {x y:Operand} {e:List D} {s:St} {Q:QC} (k:Nat) (h1:ops.take k = os1) (h2:ops.drop k = [o]) (ho:o.op = .binOp .eql T x y U) (hg:o.guard = none) (hu:P.underlying T = some (.slice e2))
    (h:@runNI P ops os1 e s (nilC o x y Q)):@AWNI X ro P (.region id ops.toArray false) e s Q:=by
  have hp:os1 ++ [o] = ops:=by rw [← h1,← h2]; exact List.take_append_drop _ _
  intro _
  rw [← hp]
  refine awp_nilTest ho hg hu ?_
  rw [hp]
  exact h
theorem kI_nil {o:Oper} {x y:Operand} {Q:QC} {e:List D} {s:St} {ow:Own} {xs:List (List D)} (h1:val e x = .slice ow xs) (h2:val e y = .slice .nil []) (h3:∀ b:Bool,(0 < xs.length→b = false)→@qI .normal (putD e o.dst (.bool b)) s Q):@kI e s (nilC o x y Q):=⟨ow,xs,h1,h2,h3⟩
theorem WRel.weakCells {w:World} {g:G} {s:St} (h:WRel w g s) {b:Nat} {cs cs':List D} (hb:s.boxes[b]? = some (.cells cs)) (hl:cs'.length = cs.length) (hd:∀ (i:Nat) (h1:i < cs.length) (h2:i < cs'.length),weakD cs[i] cs'[i]):WRel w g { s with boxes:=s.boxes.set b (.cells cs') }:=by
  have hlt:=(List.getElem?_eq_some_iff.1 hb).1
  have hlv:∀ j,Live1 { s with boxes:=s.boxes.set b (.cells cs') } j→Live1 s j:=by
    rintro j ⟨bx,h1,h2⟩
    by_cases e:j = b
    · subst e; exact ⟨_,hb,by simp⟩
    · simp only at h1; rw [List.getElem?_set_ne (by omega)] at h1; exact ⟨bx,h1,h2⟩
  refine { os:=h.os,tape:=h.tape,out:=h.out,fz:=h.fz,n:=h.n,old:=h.old,m:=h.m,box:=?_,inj:=fun i j c h1 h2 l1 l2 => h.inj i j c h1 h2 (hlv i l1) (hlv j l2),dom:=fun j c hj => by have:=h.dom j c hj; simpa using this,live:=h.live,uniq:=h.uniq,ldom:=h.ldom,o:=h.o,nd:=h.nd,sz:=h.sz }
  intro j bx hj
  by_cases e:j = b
  · subst e
    simp only at hj
    rw [List.getElem?_set_self hlt] at hj; cases hj
    obtain ⟨c,arr,T,fr,h1,h2,h3,h4,h5⟩:=h.box j _ hb
    refine ⟨c,arr,T,fr,h1,h2,by omega,fun i q1 q2 => ?_,h5⟩
    have:=h4 i (by omega) q2
    exact ⟨hd i (by omega) q1 _ _ this.1,this.2⟩
  · simp only at hj; rw [List.getElem?_set_ne (by omega)] at hj; exact h.box j bx hj
theorem gh_cells (e:List D) (s:St) {b:Nat} {cs cs':List D} (hb:s.boxes[b]? = some (.cells cs)) (hl:cs'.length = cs.length) (hd:∀ (i:Nat) (h1:i < cs.length) (h2:i < cs'.length),weakD cs[i] cs'[i]):Gh e s e { s with boxes:=s.boxes.set b (.cells cs') }:=fun O0 a w g h => ⟨g,.refl g,h.le (.refl g) h.env (h.wr.weakCells hb hl hd)⟩
theorem awN_ghs {X:Draws} {ro:Option Nat} {P:Program} {c:Code} {e:List D} {s:St} (s':St) {Q:QC} (hg:∀ e,Gh e s e s') (h:@AWNI X ro P c e s' Q):@AWNI X ro P c e s Q:=awN_gh (hg e) h
theorem seq_joinA {X:Draws} {ro:Option Nat} {P:Program} {a b:Code} {e:List D} {s:St} {Q:QC} (ks:List Nat) (E:List D) (I:St→Prop)
    (h:@cwNI X ro P a e s (joinC ks E I Q)) (hI:∀ s,I s→@AWNI X ro P b E s Q):@seqI true X ro P a b e s Q:=by
  refine cwN_mono a h fun x e s hx => ?_
  cases x <;> first
    | exact hx
    | (obtain ⟨h1,h2⟩:=hx; exact awN_keep ks (by rw [h1]; exact hI s h2))
theorem gh_cellG {e:List D} {B:List Box} {L:List Nat} {k b n sz cc:Nat} {cs ds:List D} {xs:List (List D)} (hb:B[b]? = some (.cells cs)) (hc:B[cc]? = some (.cells ds)) (hbc:b ≠ cc) (hx:xs.flatten = cs) (hn:xs.length = n) (hs:∀ x ∈ xs,x.length = sz) (he:e.all noRow = true) (hd:rowZ b n sz ds) {ds':List D} (hd':ds.map (fz b n xs) = ds') {B':List Box} (hB':(B.set b .dead).set cc (.cells ds') = B') :
    Gh e ⟨B,L,k⟩ e ⟨B',L,k⟩:=by
  have hfl:cs.length = n * sz:=by rw [← hx,flatten_length xs hs,hn]
  have:=gh_freezeIn (e:=e) (s:=⟨B,L,k⟩) hb hc hbc (by rw [hx,← hfl,List.take_length]) hn hs (rowZ_no he) hd
  rw [fz_map he,hd',hB'] at this
  exact this
theorem awN_frzG (ks:List Nat) {X:Draws} {ro:Option Nat} {P:Program} {c:Code} {Q:QC} {e:List D} {B:List Box} {L:List Nat} {k b n sz cc:Nat} {cs ds:List D} {xs:List (List D)} {ds':List D} (hb:B[b]? = some (.cells cs)) (hc:B[cc]? = some (.cells ds)) (hbc:b ≠ cc) (hx:xs.flatten = cs) (hn:xs.length = n) (hs:∀ x ∈ xs,x.length = sz) (he:(keep ks e).all noRow = true) (hd:rowZ b n sz ds) (hd':ds.map (fz b n xs) = ds')
    (h:@AWNI X ro P c (keep ks e) ⟨(B.set b .dead).set cc (.cells ds'),L,k⟩ Q):@AWNI X ro P c e ⟨B,L,k⟩ Q :=
  awN_gh (Gh.trans (gh_keep ks) (gh_cellG hb hc hbc hx hn hs he hd hd' rfl)) h
theorem apZ2_intro {zs:List D} {sz by_:Nat} {ys:List (List D)} {B:List Box} {L:List Nat} {c:Nat} {K:DC} (h0:zs.length = sz∧0 < sz∧0 < by_∧by_ ≤ 1000000) (h1:∀ c ∈ ys,c.length = sz) (h2:0 < ys.length) (h3:ys.length ≤ 1000000) (hK:@dI (.row B.length 0 ys.length sz) ⟨B ++ [.cells ys.flatten],L,c⟩ K):@apZ2 (some zs) sz by_ ys ⟨B,L,c⟩ K :=
  ⟨h0,h1,by rw [if_neg (by rintro rfl; simp at h2)]; exact ⟨h3,hK⟩⟩
theorem evNil_sl {P:Program} {T e:TypeId} {xs:List (List D)} (hu:P.underlying T = some (.slice e)) (h:0 < xs.length):evBin P .eql T (.slice .none xs) (.slice .nil []) = some (.bool false):=by
  simp [evBin,evEq,hu,isNilConst,nilSl,h,nilSl]
theorem SpecQ.freezeL {P:Program} {f:FuncId} {args:List D} {s s':St} {Z:D→St→Prop} {xs:List (List D)} (h:SpecQ P f args s Z) (hbd:Bd 0 0 (.slice .none xs))
    (hz:∀ r t,Z r t→(r = .slice .none xs∧Leave s t s') ∨ ∃ b off n sz cs,r = .row b off n sz∧t.boxes[b]? = some (.cells cs)∧xs.flatten = (cs.drop off).take (n * sz)∧xs.length = n∧(∀ x ∈ xs,x.length = sz)∧Leave s { t with boxes:=t.boxes.set b .dead } s'):Spec P f args s (.slice .none xs) s':=by
  refine SpecQ.ghost h fun r t hZ w0 g0 w g v h0 hle hw hv => ?_
  rcases hz r t hZ with ⟨rfl,hl⟩ | ⟨b,off,n,sz,cs,rfl,hb,hx,hn,hs,hl⟩
  · obtain ⟨q1,q2⟩:=hl.wrel h0 hle hw
    exact ⟨_,_,_,⟨rfl,rfl⟩,q1,q2,hv.cut (hbd.mono (Nat.zero_le _) (Nat.zero_le _))⟩
  · obtain ⟨g',hle',hw',hf⟩:=hw.freeze hb
    obtain ⟨q1,q2⟩:=hl.wrel h0 (hle.trans hle') hw'
    exact ⟨_,_,_,⟨rfl,rfl⟩,q1,q2,(hf off n sz xs v hv hx hn hs).cut (hbd.mono (Nat.zero_le _) (Nat.zero_le _))⟩
theorem results_okR {P:Program} {g:G} {e:List D} {a:Act} {w:World} {fn:Func} {t:Nat} (hE:EnvRel g e a.tmps) (hr:fn.results.toList = [.tmp t]) :
    ∃ v,(results fn a.tmps).run P w = .ok v w∧R g (e.getD t .junk) v:=by
  have h1:([ResultVar.tmp t].mapM (resV a.tmps)).run P w = Result.ok [a.tmps.getD t undef] w:=by
    rw [List.mapM_cons]; simp only [resV,Sem.run_bind,Sem.run_pure,Result.andThen_ok,List.mapM_nil]
  have hr2:(fn.results.mapM (resV a.tmps)).run P w = .ok #[a.tmps.getD t undef] w:=by
    rw [Array.mapM_eq_mapM_toList,hr]
    simp only [Sem.run_map,h1,Result.andThen_ok]
  refine ⟨a.tmps.getD t undef,?_,getD_ok hE t⟩
  show (do let vs ← fn.results.mapM (resV a.tmps); pure (if h:vs.size = 1 then vs[0] else .tuple vs):Sem Value).run P w = _
  simp only [Sem.run_bind,hr2,Result.andThen_ok,Sem.run_pure]
  rfl
def retQR (t:Nat) (Z:D→St→Prop):Exit→List D→St→Prop
  | .normal,e,s => Z (e.getD t .junk) s
  | .ret,e,s => Z (e.getD t .junk) s
  | _,_,_ => False
theorem leavesR_ok {P:Program} {fn:Func} {Z:D→St→Prop} {e:List D} {s:St} {t:Nat} {tmps:Array Value} {g0:G} (hr:fn.results.toList = [.tmp t]) (hZ:Z (e.getD t .junk) s) :
    ∀ (df:List Deferred) (bs:List Nat) (w:World) (g:G),g0.le g→EnvRel g e tmps→WRel w g s→bs.Nodup→(∀ b,b ∈ bs→g.O b∧¬ g0.O b)→df.map (·.target) = bs.map (fun b => .collected b) →
      LeavesInM (W none) 0 P fn tmps (Back g0 Z) df .returning w:=by
  intro df
  induction df with
  | nil =>
    intro bs w g hg hE hw _ _ _
    obtain ⟨v,h1,h2⟩:=results_okR (P:=P) (w:=w) (a:=⟨tmps,[]⟩) (fn:=fn) hE hr
    exact ⟨v,h1,v,{ g with O:=g0.O },_,s,hZ,rfl,⟨hg.w0,hg.M,hg.B,hg.L,fun _ h => h,hg.S⟩,hw.setO _ hg.O,h2.mono3 (fun _ _ _ h => h) (fun _ _ h => h) (fun _ _ h => h) (fun _ _ h => h)⟩
  | cons d df ih =>
    intro bs w g hg hE hw hnd hbs hdf
    cases bs with
    | nil => simp at hdf
    | cons b bs =>
      simp only [List.map_cons,List.cons.injEq] at hdf
      obtain ⟨hrun,hw'⟩:=hw.take (hbs b (by simp)).1
      refine ⟨by simp,.inl ⟨b,_,hdf.1,hrun P,?_⟩⟩
      refine ih bs _ { g with O:=fun c => g.O c∧c ≠ b } ⟨hg.w0,hg.M,hg.B,hg.L,fun c hc => ⟨hg.O c hc,fun e => (hbs b (by simp)).2 (e ▸ hc)⟩,hg.S⟩ ⟨hE.1,fun i h1 h2 => (hE.2 i h1 h2).mono3 (fun _ _ _ h => h) (fun _ _ h => h) (fun _ _ h => h) (fun _ _ h => h)⟩ hw' (List.nodup_cons.1 hnd).2 (fun c hc => ⟨⟨(hbs c (by simp [hc])).1,fun e => (List.nodup_cons.1 hnd).1 (e ▸ hc)⟩,(hbs c (by simp [hc])).2⟩) hdf.2
@[reducible] def retRC (t:Nat) (Z:D→St→Prop):QC:=⟨retQR t Z⟩
theorem SpecQ.introR {P:Program} (X:Draws) {f:FuncId} {fn:Func} {c:Code} {args:List D} {s:St} {Z:D→St→Prop} (hf:P.funcs[f]? = some fn) (hb:fn.body = some c) (hn:(fn.name == "runtime.NumGoroutine") = false) (hm:P.follows .mixedOrders = true) (hd:drawsOk X c = true) (rs:List ResultVar) (nt:Nat) (hr:fn.results.toList = rs) (hnt:fn.ntmps = nt) (t:Nat) (hrs:rs = [.tmp t])
    (h:@cwNI X none P c (args ++ List.replicate (nt - args.length) .junk) s (retRC t Z)):SpecQ P f args s Z:=by
  subst hnt
  have hr2:=hr.trans hrs
  have h':AWp none P c (retQR t Z) (args ++ List.replicate (fn.ntmps - args.length) .junk) s:=cwN_ok hm c hd _ _ _ h
  refine fun vs w g hargs hw => ⟨enters_of hf hn (by rw [hb]; rfl),?_⟩
  refine callsIn_of_wp_marks hf hb trivial (wpIn_mono (h' g.O _ w g ⟨⟨by simp [hargs.1],fun i h1 h2 => ?_⟩,hw,fun _ h => h,[],by simp,by simp,rfl⟩) fun x a' w' hc => ?_)
  · simp only at h2 ⊢
    by_cases hi:i < args.length
    · rw [List.getElem_append_left hi,Array.getElem_append_left (by rw [← hargs.1]; exact hi)]; exact hargs.2 _ _ _
    · rw [List.getElem_append_right (by omega),List.getElem_replicate]; exact .junk _
  · obtain ⟨hx,e',t',g',hle,ha,hq⟩:=hc
    obtain ⟨bs,hnd,hbs,hdf⟩:=ha.df
    cases x <;> first
      | exact hx.elim
      | exact hq.elim
      | exact leavesR_ok hr2 hq a'.defers bs w' g' hle ha.env ha.wr hnd hbs hdf
theorem retR {Z:D→St→Prop} {e:List D} {s:St} {t:Nat} {x:Exit} {r:D} (hx:x = .normal ∨ x = .ret) (h1:e.getD t .junk = r) (hZ:Z r s):@qI x e s (retRC t Z):=by
  subst h1
  rcases hx with rfl | rfl <;> exact hZ
theorem SpecQ.let {P:Program} {f:FuncId} {args:List D} {s s':St} {Z:D→St→Prop} {r':D} (h:SpecQ P f args s Z) (hbd:Bd 0 0 r') (hz:∀ r t,Z r t→weakD r r'∧Leave s t s'):Spec P f args s r' s':=by
  refine SpecQ.ghost h fun r t hZ w0 g0 w g v h0 hle hw hv => ?_
  obtain ⟨h1,hl⟩:=hz r t hZ
  obtain ⟨q1,q2⟩:=hl.wrel h0 hle hw
  exact ⟨_,_,_,⟨rfl,rfl⟩,q1,q2,(h1 _ _ hv).cut (hbd.mono (Nat.zero_le _) (Nat.zero_le _))⟩
end Go.V

namespace Go.V
open Go.Proofs
set_option maxRecDepth 20000
set_option maxHeartbeats 4000000

structure Rf where
  kind:Int
  df:Int
  site:Int
  a:Int
def Rf.cells (x:Rf):List D:=[.int .i64 x.kind,.int .i64 x.df,.int .i64 x.site,.int .i64 x.a]
theorem Rf.cells_len (x:Rf):x.cells.length = 4:=rfl
theorem Rf.plain (x:Rf):x.cells.map D.plain1 = x.cells:=rfl
theorem Rf.keep1 (x:Rf):x.cells.map D.keep1 = x.cells:=rfl
theorem Rf.take0 (x:Rf):x.cells.take 4 = x.cells:=List.take_of_length_le (by rw [Rf.cells_len]; decide)
theorem Rf.drop0 (x:Rf) (l:List D):(x.cells ++ l).drop 4 = l:=by have:=List.drop_left (l₁:=x.cells) (l₂:=l); rwa [Rf.cells_len] at this
theorem Rf.takeB (x:Rf) (l:List D):(x.cells ++ l).take 4 = x.cells:=by have:=List.take_left (l₁:=x.cells) (l₂:=l); rwa [Rf.cells_len] at this
theorem Rf.lenA (x:Rf) (l:List D):(x.cells ++ l).length = 4 + l.length:=by rw [List.length_append,Rf.cells_len]
theorem Rf.f_kind (x:Rf):x.cells[0]? = some (.int .i64 x.kind):=rfl
theorem Rf.f_df (x:Rf):(x.cells.drop 1)[0]? = some (.int .i64 x.df):=rfl
theorem Rf.f_site (x:Rf):(x.cells.drop 2)[0]? = some (.int .i64 x.site):=rfl
theorem Rf.f_a (x:Rf):(x.cells.drop 3)[0]? = some (.int .i64 x.a):=rfl
theorem vsRf:(type_of% @Rf.cells_len)∧(type_of% @Rf.plain)∧(type_of% @Rf.keep1)∧(type_of% @Rf.take0)∧(type_of% @Rf.drop0)∧(type_of% @Rf.takeB)∧(type_of% @Rf.lenA)∧(type_of% @Rf.f_kind)∧(type_of% @Rf.f_df)∧(type_of% @Rf.f_site)∧(type_of% @Rf.f_a) :=
  ⟨@Rf.cells_len,@Rf.plain,@Rf.keep1,@Rf.take0,@Rf.drop0,@Rf.takeB,@Rf.lenA,@Rf.f_kind,@Rf.f_df,@Rf.f_site,@Rf.f_a⟩
def Rf.encs (l:List Rf):List (List D):=l.map Rf.cells
theorem Rf.encs_len (l:List Rf):(Rf.encs l).length = l.length:=by simp [Rf.encs]
structure Fi where
  df:Int
  site:Int
  kind:Int
def Fi.cells (x:Fi):List D:=[.int .i64 x.df,.int .i64 x.site,.int .i64 x.kind]
theorem Fi.cells_len (x:Fi):x.cells.length = 3:=rfl
theorem Fi.plain (x:Fi):x.cells.map D.plain1 = x.cells:=rfl
theorem Fi.keep1 (x:Fi):x.cells.map D.keep1 = x.cells:=rfl
theorem Fi.take0 (x:Fi):x.cells.take 3 = x.cells:=List.take_of_length_le (by rw [Fi.cells_len]; decide)
theorem Fi.drop0 (x:Fi) (l:List D):(x.cells ++ l).drop 3 = l:=by have:=List.drop_left (l₁:=x.cells) (l₂:=l); rwa [Fi.cells_len] at this
theorem Fi.takeB (x:Fi) (l:List D):(x.cells ++ l).take 3 = x.cells:=by have:=List.take_left (l₁:=x.cells) (l₂:=l); rwa [Fi.cells_len] at this
theorem Fi.lenA (x:Fi) (l:List D):(x.cells ++ l).length = 3 + l.length:=by rw [List.length_append,Fi.cells_len]
theorem Fi.f_df (x:Fi):x.cells[0]? = some (.int .i64 x.df):=rfl
theorem Fi.f_site (x:Fi):(x.cells.drop 1)[0]? = some (.int .i64 x.site):=rfl
theorem Fi.f_kind (x:Fi):(x.cells.drop 2)[0]? = some (.int .i64 x.kind):=rfl
theorem vsFi:(type_of% @Fi.cells_len)∧(type_of% @Fi.plain)∧(type_of% @Fi.keep1)∧(type_of% @Fi.take0)∧(type_of% @Fi.drop0)∧(type_of% @Fi.takeB)∧(type_of% @Fi.lenA)∧(type_of% @Fi.f_df)∧(type_of% @Fi.f_site)∧(type_of% @Fi.f_kind) :=
  ⟨@Fi.cells_len,@Fi.plain,@Fi.keep1,@Fi.take0,@Fi.drop0,@Fi.takeB,@Fi.lenA,@Fi.f_df,@Fi.f_site,@Fi.f_kind⟩
def Fi.encs (l:List Fi):List (List D):=l.map Fi.cells
theorem Fi.encs_len (l:List Fi):(Fi.encs l).length = l.length:=by simp [Fi.encs]
structure Rp where
  f:Rf
  p:Pg
  d:Df
def Rp.cells (x:Rp):List D:=x.f.cells ++ (x.p.cells ++ (x.d.cells))
theorem Rp.cells_len (x:Rp):x.cells.length = 26:=rfl
theorem Rp.plain (x:Rp):x.cells.map D.plain1 = x.cells:=rfl
theorem Rp.keep1 (x:Rp):x.cells.map D.keep1 = x.cells:=rfl
theorem Rp.take0 (x:Rp):x.cells.take 26 = x.cells:=List.take_of_length_le (by rw [Rp.cells_len]; decide)
theorem Rp.drop0 (x:Rp) (l:List D):(x.cells ++ l).drop 26 = l:=by have:=List.drop_left (l₁:=x.cells) (l₂:=l); rwa [Rp.cells_len] at this
theorem Rp.takeB (x:Rp) (l:List D):(x.cells ++ l).take 26 = x.cells:=by have:=List.take_left (l₁:=x.cells) (l₂:=l); rwa [Rp.cells_len] at this
theorem Rp.lenA (x:Rp) (l:List D):(x.cells ++ l).length = 26 + l.length:=by rw [List.length_append,Rp.cells_len]
theorem Rp.t_f (x:Rp):x.cells.take 4 = x.f.cells:=rfl
theorem Rp.f_f_kind (x:Rp):x.cells[0]? = some (.int .i64 x.f.kind):=rfl
theorem Rp.f_f_df (x:Rp):(x.cells.drop 1)[0]? = some (.int .i64 x.f.df):=rfl
theorem Rp.f_f_site (x:Rp):(x.cells.drop 2)[0]? = some (.int .i64 x.f.site):=rfl
theorem Rp.f_f_a (x:Rp):(x.cells.drop 3)[0]? = some (.int .i64 x.f.a):=rfl
theorem Rp.t_p (x:Rp):(x.cells.drop 4).take 10 = x.p.cells:=rfl
theorem Rp.t_p_d (x:Rp):(x.cells.drop 4).take 7 = x.p.d.cells:=rfl
theorem Rp.f_p_d_globals (x:Rp):(x.cells.drop 4)[0]? = some (.slice .none (rgCells x.p.d.globals)):=rfl
theorem Rp.f_p_d_classes (x:Rp):(x.cells.drop 5)[0]? = some (.slice .none (rgCells x.p.d.classes)):=rfl
theorem Rp.f_p_d_queues (x:Rp):(x.cells.drop 6)[0]? = some (.slice .none (quCells x.p.d.queues)):=rfl
theorem Rp.f_p_d_sinks (x:Rp):(x.cells.drop 7)[0]? = some (.slice .none (intCells x.p.d.sinks)):=rfl
theorem Rp.f_p_d_locks (x:Rp):(x.cells.drop 8)[0]? = some (.int .i64 x.p.d.locks):=rfl
theorem Rp.f_p_d_parts (x:Rp):(x.cells.drop 9)[0]? = some (.int .i64 x.p.d.parts):=rfl
theorem Rp.f_p_d_firms (x:Rp):(x.cells.drop 10)[0]? = some (.int .i64 x.p.d.firms):=rfl
theorem Rp.f_p_heads (x:Rp):(x.cells.drop 11)[0]? = some (.slice .none (hdCells x.p.heads)):=rfl
theorem Rp.f_p_defs (x:Rp):(x.cells.drop 12)[0]? = some (.slice .none (dfCells x.p.defs)):=rfl
theorem Rp.f_p_threads (x:Rp):(x.cells.drop 13)[0]? = some (.slice .none (intCells x.p.threads)):=rfl
theorem Rp.t_d (x:Rp):(x.cells.drop 14).take 12 = x.d.cells:=rfl
theorem Rp.f_d_id (x:Rp):(x.cells.drop 14)[0]? = some (.int .i64 x.d.id):=rfl
theorem Rp.f_d_site (x:Rp):(x.cells.drop 15)[0]? = some (.int .i64 x.d.site):=rfl
theorem Rp.f_d_name (x:Rp):(x.cells.drop 16)[0]? = some (.str x.d.name):=rfl
theorem Rp.f_d_firm (x:Rp):(x.cells.drop 17)[0]? = some (.int .i64 x.d.firm):=rfl
theorem Rp.f_d_part (x:Rp):(x.cells.drop 18)[0]? = some (.int .i64 x.d.part):=rfl
theorem Rp.f_d_params (x:Rp):(x.cells.drop 19)[0]? = some (.slice .none (rgCells x.d.params)):=rfl
theorem Rp.f_d_given (x:Rp):(x.cells.drop 20)[0]? = some (.slice .none (rgCells x.d.given)):=rfl
theorem Rp.f_d_vars (x:Rp):(x.cells.drop 21)[0]? = some (.int .i64 x.d.vars):=rfl
theorem Rp.f_d_refs (x:Rp):(x.cells.drop 22)[0]? = some (.int .i64 x.d.refs):=rfl
theorem Rp.f_d_arrays (x:Rp):(x.cells.drop 23)[0]? = some (.slice .none (arCells x.d.arrays)):=rfl
theorem Rp.f_d_budget (x:Rp):(x.cells.drop 24)[0]? = some (.int .i64 x.d.budget):=rfl
theorem Rp.f_d_body (x:Rp):(x.cells.drop 25)[0]? = some (.slice .none (Sm.encs x.d.body)):=rfl
theorem vsRp:(type_of% @Rp.cells_len)∧(type_of% @Rp.plain)∧(type_of% @Rp.keep1)∧(type_of% @Rp.take0)∧(type_of% @Rp.drop0)∧(type_of% @Rp.takeB)∧(type_of% @Rp.lenA)∧(type_of% @Rp.t_f)∧(type_of% @Rp.f_f_kind)∧(type_of% @Rp.f_f_df)∧(type_of% @Rp.f_f_site)∧(type_of% @Rp.f_f_a)∧(type_of% @Rp.t_p)∧(type_of% @Rp.t_p_d)∧(type_of% @Rp.f_p_d_globals)∧(type_of% @Rp.f_p_d_classes)∧(type_of% @Rp.f_p_d_queues)∧(type_of% @Rp.f_p_d_sinks)∧(type_of% @Rp.f_p_d_locks)∧(type_of% @Rp.f_p_d_parts)∧(type_of% @Rp.f_p_d_firms)∧(type_of% @Rp.f_p_heads)∧(type_of% @Rp.f_p_defs)∧(type_of% @Rp.f_p_threads)∧(type_of% @Rp.t_d)∧(type_of% @Rp.f_d_id)∧(type_of% @Rp.f_d_site)∧(type_of% @Rp.f_d_name)∧(type_of% @Rp.f_d_firm)∧(type_of% @Rp.f_d_part)∧(type_of% @Rp.f_d_params)∧(type_of% @Rp.f_d_given)∧(type_of% @Rp.f_d_vars)∧(type_of% @Rp.f_d_refs)∧(type_of% @Rp.f_d_arrays)∧(type_of% @Rp.f_d_budget)∧(type_of% @Rp.f_d_body) :=
  ⟨@Rp.cells_len,@Rp.plain,@Rp.keep1,@Rp.take0,@Rp.drop0,@Rp.takeB,@Rp.lenA,@Rp.t_f,@Rp.f_f_kind,@Rp.f_f_df,@Rp.f_f_site,@Rp.f_f_a,@Rp.t_p,@Rp.t_p_d,@Rp.f_p_d_globals,@Rp.f_p_d_classes,@Rp.f_p_d_queues,@Rp.f_p_d_sinks,@Rp.f_p_d_locks,@Rp.f_p_d_parts,@Rp.f_p_d_firms,@Rp.f_p_heads,@Rp.f_p_defs,@Rp.f_p_threads,@Rp.t_d,@Rp.f_d_id,@Rp.f_d_site,@Rp.f_d_name,@Rp.f_d_firm,@Rp.f_d_part,@Rp.f_d_params,@Rp.f_d_given,@Rp.f_d_vars,@Rp.f_d_refs,@Rp.f_d_arrays,@Rp.f_d_budget,@Rp.f_d_body⟩
def Rp.encs (l:List Rp):List (List D):=l.map Rp.cells
theorem Rp.encs_len (l:List Rp):(Rp.encs l).length = l.length:=by simp [Rp.encs]
structure Ls where
  f:Fi
  l:D
def Ls.cells (x:Ls):List D:=x.f.cells ++ ([x.l])
theorem Ls.cells_len (x:Ls):x.cells.length = 4:=rfl
theorem Ls.take0 (x:Ls):x.cells.take 4 = x.cells:=List.take_of_length_le (by rw [Ls.cells_len]; decide)
theorem Ls.drop0 (x:Ls) (l:List D):(x.cells ++ l).drop 4 = l:=by have:=List.drop_left (l₁:=x.cells) (l₂:=l); rwa [Ls.cells_len] at this
theorem Ls.takeB (x:Ls) (l:List D):(x.cells ++ l).take 4 = x.cells:=by have:=List.take_left (l₁:=x.cells) (l₂:=l); rwa [Ls.cells_len] at this
theorem Ls.lenA (x:Ls) (l:List D):(x.cells ++ l).length = 4 + l.length:=by rw [List.length_append,Ls.cells_len]
theorem Ls.t_f (x:Ls):x.cells.take 3 = x.f.cells:=rfl
theorem Ls.f_f_df (x:Ls):x.cells[0]? = some (.int .i64 x.f.df):=rfl
theorem Ls.f_f_site (x:Ls):(x.cells.drop 1)[0]? = some (.int .i64 x.f.site):=rfl
theorem Ls.f_f_kind (x:Ls):(x.cells.drop 2)[0]? = some (.int .i64 x.f.kind):=rfl
theorem Ls.f_l (x:Ls):(x.cells.drop 3)[0]? = some (x.l):=rfl
theorem vsLs:(type_of% @Ls.cells_len)∧(type_of% @Ls.take0)∧(type_of% @Ls.drop0)∧(type_of% @Ls.takeB)∧(type_of% @Ls.lenA)∧(type_of% @Ls.t_f)∧(type_of% @Ls.f_f_df)∧(type_of% @Ls.f_f_site)∧(type_of% @Ls.f_f_kind)∧(type_of% @Ls.f_l) :=
  ⟨@Ls.cells_len,@Ls.take0,@Ls.drop0,@Ls.takeB,@Ls.lenA,@Ls.t_f,@Ls.f_f_df,@Ls.f_f_site,@Ls.f_f_kind,@Ls.f_l⟩
def Ls.encs (l:List Ls):List (List D):=l.map Ls.cells
theorem Ls.encs_len (l:List Ls):(Ls.encs l).length = l.length:=by simp [Ls.encs]
def sizeR (k:Int):Int:=if k = 2 then 1 else if k = 3 then 1 else if k = 4 then 1 else if k = 5 then 1 else if k = 1 then 2 else if k = 6 then 3 else 0
theorem t_Size (x:Rf) (s:St):Spec Tryz.prog 9 [.agg x.cells] s (.int .i64 (sizeR x.kind)) s:=by
  obtain ⟨B,L,c⟩:=s
  refine Spec.introN [] Tryz.func9 rfl (by decide) hmix (by kernel_rfl) [ResultVar.tmp 2] 14 rfl rfl ?_
  simp only [vqM,vt64,Tryz.f9,Nat.reduceAdd,Nat.reduceSub,Nat.reduceMul,Nat.reduceLeDiff,Nat.reduceEqDiff,Nat.reduceBEq,reduceCtorEq,vsRf]
  repeat' (first
    | (with_reducible refine ifI_intro (fun hc => ?_) (fun hc => ?_) <;> simp only [vqM,vt64,hc,Nat.reduceAdd,Nat.reduceSub,Nat.reduceMul,Nat.reduceLeDiff,Nat.reduceEqDiff,Nat.reduceBEq,reduceCtorEq,vsRf])
    | ((with_reducible refine is_q ?_); refine ret_loc (.inr rfl) ?_ (.int _ _) (fun _ h => h) (Nat.le_refl _) <;> (try simp only [vqM,vt64,Nat.reduceAdd,Nat.reduceSub,Nat.reduceMul,Nat.reduceLeDiff,Nat.reduceEqDiff,Nat.reduceBEq,reduceCtorEq,vsRf]) <;> (first | (simp only [sizeR, *,Bool.true_and,Bool.false_and,Bool.and_true,Bool.and_false,Bool.true_or,Bool.false_or,Bool.or_true,Bool.or_false,Bool.not_true,Bool.not_false,cond_true,cond_false,if_true,if_false]; done) | (simp_all [sizeR]; done) | (simp_all [sizeR]; omega))))
theorem t_numberG (v:Int) (s:St):Spec Tryz.prog 118 [.int .i64 v] s (.agg (num v).cells) s:=by
  obtain ⟨B,L,c⟩:=s
  refine Spec.introN [] Tryz.func118 rfl (by decide) hmix (by kernel_rfl) [ResultVar.cell 2 70] 5 rfl rfl ?_
  simp only [vqM,Tryz.f118,Nat.reduceAdd,Nat.reduceSub,Nat.reduceMul,Nat.reduceLeDiff,Nat.reduceEqDiff,Nat.reduceBEq,reduceCtorEq,tf70]
  refine ret_loc (.inr rfl) ?_ (bd_agg (Ex.bd _)) (fun _ h => h) (Nat.le_refl _)
  simp only [vqM,Nat.reduceAdd,Nat.reduceSub,Nat.reduceMul,Nat.reduceLeDiff,Nat.reduceEqDiff,Nat.reduceBEq,reduceCtorEq,tf70,num,Ex.cells,Ex.encs]
theorem t_two (op:Int) (a b:Ex) (s:St):Spec Tryz.prog 121 [.int .i64 op,.agg a.cells,.agg b.cells] s (.agg (bin op a b).cells) s:=by
  obtain ⟨B,L,c⟩:=s
  refine Spec.introN [] Tryz.func121 rfl (by decide) hmix (by kernel_rfl) [ResultVar.cell 6 70] 12 rfl rfl ?_
  simp only [vqM,vt1,Tryz.f121,Nat.reduceAdd,Nat.reduceSub,Nat.reduceMul,Nat.reduceLeDiff,Nat.reduceEqDiff,Nat.reduceBEq,reduceCtorEq]
  refine ret_loc (.inr rfl) ?_ (bd_agg (Ex.bd _)) (fun _ h => h) (Nat.le_refl _)
  simp only [vqM,vt1,Nat.reduceAdd,Nat.reduceSub,Nat.reduceMul,Nat.reduceLeDiff,Nat.reduceEqDiff,Nat.reduceBEq,reduceCtorEq,bin,Ex.cells,Ex.encs]
theorem t_testG (op:Int) (a b:Ex) (s:St):Spec Tryz.prog 117 [.int .i64 op,.agg a.cells,.agg b.cells] s (.agg (test op a b).cells) s:=by
  obtain ⟨B,L,c⟩:=s
  refine Spec.introN [] Tryz.func117 rfl (by decide) hmix (by kernel_rfl) [ResultVar.cell 6 75] 12 rfl rfl ?_
  simp only [vqM,vt2,Tryz.f117,Nat.reduceAdd,Nat.reduceSub,Nat.reduceMul,Nat.reduceLeDiff,Nat.reduceEqDiff,Nat.reduceBEq,reduceCtorEq]
  refine ret_loc (.inr rfl) ?_ (bd_agg (Co.bd _)) (fun _ h => h) (Nat.le_refl _)
  simp only [vqM,vt2,Nat.reduceAdd,Nat.reduceSub,Nat.reduceMul,Nat.reduceLeDiff,Nat.reduceEqDiff,Nat.reduceBEq,reduceCtorEq,test,Co.cells,Ex.encs,Co.encs]
def bothC (a b:Co):Co:=.mk 6 [] [a,b]
theorem t_both (a b:Co) (s:St):Spec Tryz.prog 116 [.agg a.cells,.agg b.cells] s (.agg (bothC a b).cells) s:=by
  obtain ⟨B,L,c⟩:=s
  refine Spec.introN [] Tryz.func116 rfl (by decide) hmix (by kernel_rfl) [ResultVar.cell 4 75] 9 rfl rfl ?_
  simp only [vqM,vt3,Tryz.f116,Nat.reduceAdd,Nat.reduceSub,Nat.reduceMul,Nat.reduceLeDiff,Nat.reduceEqDiff,Nat.reduceBEq,reduceCtorEq]
  refine ret_loc (.inr rfl) ?_ (bd_agg (Co.bd _)) (fun _ h => h) (Nat.le_refl _)
  simp only [vqM,vt3,Nat.reduceAdd,Nat.reduceSub,Nat.reduceMul,Nat.reduceLeDiff,Nat.reduceEqDiff,Nat.reduceBEq,reduceCtorEq,bothC,Co.cells,Ex.encs,Co.encs]
def withinC (r:Rg) (e:Ex):Co:=bothC (test 3 (num r.lo) e) (test 3 e (num r.hi))
theorem t_within (r:Rg) (e:Ex) (s:St):Spec Tryz.prog 119 [.agg r.cells,.agg e.cells] s (.agg (withinC r e).cells) s:=by
  obtain ⟨B,L,c⟩:=s
  refine Spec.introN [(1,.text [false,false,true,false,true,false,false,false,true,true,true,true] [(3,0),(5,0),(5,1),(5,3),(7,0),(7,1)])] Tryz.func119 rfl (by decide) hmix (by kernel_rfl) [ResultVar.cell 4 75] 16 rfl rfl ?_
  simp only [vqM,vt65,Tryz.f119,Nat.reduceAdd,Nat.reduceSub,Nat.reduceMul,Nat.reduceLeDiff,Nat.reduceEqDiff,Nat.reduceBEq,reduceCtorEq]
  repeat' (first
    | ((with_reducible refine is_call ?_); refine callI_spec (t_numberG _ _) ?_; simp only [vqM,vt65,Nat.reduceAdd,Nat.reduceSub,Nat.reduceMul,Nat.reduceLeDiff,Nat.reduceEqDiff,Nat.reduceBEq,reduceCtorEq])
    | ((with_reducible refine is_call ?_); refine callI_spec (t_testG _ _ _ _) ?_; simp only [vqM,vt65,Nat.reduceAdd,Nat.reduceSub,Nat.reduceMul,Nat.reduceLeDiff,Nat.reduceEqDiff,Nat.reduceBEq,reduceCtorEq])
    | ((with_reducible refine is_call ?_); refine callI_spec (t_both _ _ _) ?_; simp only [vqM,vt65,Nat.reduceAdd,Nat.reduceSub,Nat.reduceMul,Nat.reduceLeDiff,Nat.reduceEqDiff,Nat.reduceBEq,reduceCtorEq])
    | (with_reducible refine ifI_intro (fun hc => ?_) (fun hc => ?_) <;> simp only [vqM,vt65,hc,Nat.reduceAdd,Nat.reduceSub,Nat.reduceMul,Nat.reduceLeDiff,Nat.reduceEqDiff,Nat.reduceBEq,reduceCtorEq])
    | ((with_reducible refine is_q ?_); refine ret_loc (.inr rfl) ?_ (bd_agg (Co.bd _)) (fun _ h => h) (Nat.le_refl _) <;> (try simp only [vqM,vt65,Nat.reduceAdd,Nat.reduceSub,Nat.reduceMul,Nat.reduceLeDiff,Nat.reduceEqDiff,Nat.reduceBEq,reduceCtorEq]) <;> (first | (simp only [withinC, *,Bool.true_and,Bool.false_and,Bool.and_true,Bool.and_false,Bool.true_or,Bool.false_or,Bool.or_true,Bool.or_false,Bool.not_true,Bool.not_false,cond_true,cond_false,if_true,if_false]; done) | (simp_all [withinC]; done) | (simp_all [withinC]; omega))))
def intoE (r:Rg) (e:Ex):Ex:=bin 10 (bin 9 e (num r.hi)) (num r.lo)
theorem t_into (r:Rg) (e:Ex) (s:St):Spec Tryz.prog 122 [.agg r.cells,.agg e.cells] s (.agg (intoE r e).cells) s:=by
  obtain ⟨B,L,c⟩:=s
  refine Spec.introN [(1,.text [false,false,false,true,true,false,false,true,true,true] [(0,1),(6,0),(6,1)])] Tryz.func122 rfl (by decide) hmix (by kernel_rfl) [ResultVar.cell 4 70] 14 rfl rfl ?_
  simp only [vqM,vt66,Tryz.f122,Nat.reduceAdd,Nat.reduceSub,Nat.reduceMul,Nat.reduceLeDiff,Nat.reduceEqDiff,Nat.reduceBEq,reduceCtorEq]
  repeat' (first
    | ((with_reducible refine is_call ?_); refine callI_spec (t_numberG _ _) ?_; simp only [vqM,vt66,Nat.reduceAdd,Nat.reduceSub,Nat.reduceMul,Nat.reduceLeDiff,Nat.reduceEqDiff,Nat.reduceBEq,reduceCtorEq])
    | ((with_reducible refine is_call ?_); refine callI_spec (t_two _ _ _ _) ?_; simp only [vqM,vt66,Nat.reduceAdd,Nat.reduceSub,Nat.reduceMul,Nat.reduceLeDiff,Nat.reduceEqDiff,Nat.reduceBEq,reduceCtorEq])
    | (with_reducible refine ifI_intro (fun hc => ?_) (fun hc => ?_) <;> simp only [vqM,vt66,hc,Nat.reduceAdd,Nat.reduceSub,Nat.reduceMul,Nat.reduceLeDiff,Nat.reduceEqDiff,Nat.reduceBEq,reduceCtorEq])
    | ((with_reducible refine is_q ?_); refine ret_loc (.inr rfl) ?_ (bd_agg (Ex.bd _)) (fun _ h => h) (Nat.le_refl _) <;> (try simp only [vqM,vt66,Nat.reduceAdd,Nat.reduceSub,Nat.reduceMul,Nat.reduceLeDiff,Nat.reduceEqDiff,Nat.reduceBEq,reduceCtorEq]) <;> (first | (simp only [intoE, *,Bool.true_and,Bool.false_and,Bool.and_true,Bool.and_false,Bool.true_or,Bool.false_or,Bool.or_true,Bool.or_false,Bool.not_true,Bool.not_false,cond_true,cond_false,if_true,if_false]; done) | (simp_all [intoE]; done) | (simp_all [intoE]; omega))))
def SpanOk (p:Pg) (s:Sm):Prop:=(s.op = 5→0 ≤ s.m∧s.m < p.d.globals.length)∧(¬ s.op = 5→0 ≤ s.m∧s.m < p.d.queues.length)
theorem Rg.bd {nb nl:Nat} (x:Rg):∀ d ∈ x.cells,Bd nb nl d:=by
  intro d hd
  simp only [Rg.cells,List.mem_cons,List.not_mem_nil,or_false] at hd
  rcases hd with rfl | rfl | rfl <;> exact .int _ _
def Rg.zero:Rg:=⟨0,0,0⟩
def Qu.zero:Qu:=⟨0,Rg.zero⟩
def spanS (p:Pg) (s:Sm):Rg:=if s.op = 5 then (p.d.globals[s.m.toNat]?).getD Rg.zero else ((p.d.queues[s.m.toNat]?).getD Qu.zero).r
theorem t_span (x:Rp) (y:Sm) (h:SpanOk x.p y) (s:St):Spec Tryz.prog 120 [.agg x.cells,.agg y.cells] s (.agg (spanS x.p y).cells) s:=by
  obtain ⟨B,L,c⟩:=s
  refine Spec.introN [] Tryz.func120 rfl (by decide) hmix (by kernel_rfl) [ResultVar.cell 4 106] 25 rfl rfl ?_
  simp only [vqM,vt67,Tryz.f120,Nat.reduceAdd,Nat.reduceSub,Nat.reduceMul,Nat.reduceLeDiff,Nat.reduceEqDiff,Nat.reduceBEq,reduceCtorEq,vsRp]
  refine ifI_intro (fun hc => ?_) (fun hc => ?_)
  · have hop:y.op = 5:=of_decide_eq_true hc
    obtain ⟨h1,h2⟩:=h.1 hop
    obtain ⟨k,hk⟩:=Int.eq_ofNat_of_zero_le h1
    rw [hk] at h2
    have hk2:k < x.p.d.globals.length:=by omega
    have hx:x.p.d.globals[k]? = some x.p.d.globals[k]:=List.getElem?_eq_getElem hk2
    have hg:(rgCells x.p.d.globals)[k]? = some (x.p.d.globals[k].cells):=by simp [rgCells,hx]
    have hv:spanS x.p y = x.p.d.globals[k]:=by rw [spanS,if_pos hop,hk,Int.toNat_natCast,hx]; rfl
    rw [hv]
    generalize x.p.d.globals[k] = z at hx hg
    simp only [vqM,vt67,Nat.reduceAdd,Nat.reduceSub,Nat.reduceMul,Nat.reduceLeDiff,Nat.reduceEqDiff,Nat.reduceBEq,reduceCtorEq,vsRp,hk,natle0,Int.toNat_natCast,hg,rgCells_len,h2]
    refine ret_loc (.inr rfl) ?_ (bd_agg (Rg.bd _)) (fun _ h => h) (Nat.le_refl _)
    simp only [vqM,vt67,Nat.reduceAdd,Nat.reduceSub,Nat.reduceMul,Nat.reduceLeDiff,Nat.reduceEqDiff,Nat.reduceBEq,reduceCtorEq]
  · have hop:¬ y.op = 5:=of_decide_eq_false hc
    obtain ⟨h1,h2⟩:=h.2 hop
    obtain ⟨k,hk⟩:=Int.eq_ofNat_of_zero_le h1
    rw [hk] at h2
    have hk2:k < x.p.d.queues.length:=by omega
    have hx:x.p.d.queues[k]? = some x.p.d.queues[k]:=List.getElem?_eq_getElem hk2
    have hg:(quCells x.p.d.queues)[k]? = some (x.p.d.queues[k].cells):=by simp [quCells,hx]
    have hv:spanS x.p y = x.p.d.queues[k].r:=by rw [spanS,if_neg hop,hk,Int.toNat_natCast,hx]; rfl
    rw [hv]
    generalize x.p.d.queues[k] = z at hx hg
    simp only [vqM,vt67,Nat.reduceAdd,Nat.reduceSub,Nat.reduceMul,Nat.reduceLeDiff,Nat.reduceEqDiff,Nat.reduceBEq,reduceCtorEq,vsRp,hk,natle0,Int.toNat_natCast,hg,h2]
    refine ret_loc (.inr rfl) ?_ (bd_agg (Rg.bd _)) (fun _ h => h) (Nat.le_refl _)
    simp only [vqM,vt67,Nat.reduceAdd,Nat.reduceSub,Nat.reduceMul,Nat.reduceLeDiff,Nat.reduceEqDiff,Nat.reduceBEq,reduceCtorEq]
theorem ret_labG {P:Program} {rs:List ResultVar} {B:List Box} {L L':List Nat} {c c':Nat} {r:D} {e:List D} {x:Exit} (hx:x = .normal ∨ x = .ret) (h1:(resD P e ⟨B,L',c'⟩ rs).map tupD = some r) (hb:Bd 0 0 r) (hl:∀ k,k ∈ L→k ∈ L') (hc:c ≤ c') :
    @qI x e ⟨B,L',c'⟩ (retC P rs ⟨B,L,c⟩ r ⟨B,L,c⟩):=by
  have:=ret_loc (P:=P) (rs:=rs) (B:=B) (X:=[]) (e:=e) hx (by simpa using h1) hb hl hc
  simpa using this
theorem bd_intSG {nb nl:Nat} (l:List Int):Bd nb nl (.slice .none (intCells l)):=bd_slice bd_ints
def numsS (n:Int):List Int:=(List.range n.toNat).map fun i:Nat => (i:Int)
theorem t_numbers (n:Int) (hn:n ≤ 1000000) (s:St):Spec Tryz.prog 45 [.int .i64 n] s (.slice .none (intCells (numsS n))) s:=by
  obtain ⟨B,L,c⟩:=s
  refine Spec.introN [] Tryz.func45 rfl (by decide) hmix (by kernel_rfl) [ResultVar.tmp 2] 15 rfl rfl ?_
  simp only [vqM,vt25,Tryz.f45,Nat.reduceAdd,Nat.reduceSub,Nat.reduceMul,Nat.reduceLeDiff,Nat.reduceEqDiff,Nat.reduceBEq,reduceCtorEq]
  refine awN_keep [3,5,6] ?_
  simp only [vke,Nat.reduceBEq,Nat.reduceAdd]
  refine awN_forR hmix n.toNat (fun k e s => e = [.junk,.junk,.junk,.slice (ownN c 1 k) (intCells ((List.range k).map fun i:Nat => (i:Int))),.junk,.int .i64 n,.int .i64 (k:Int),.junk,.junk,.junk,.junk,.junk,.junk,.junk,.junk]∧s = ⟨B,liveN L c k,c + k⟩) ?_ ?_ 0 _ _ (Nat.zero_le _) ⟨rfl,rfl⟩
  · rintro k e s hk ⟨rfl,rfl⟩ ihl
    have hklt:((k:Int) < n) = True:=by simp; omega
    have hof:=ownN_fits (c:=c) (z:=1) (k:=k) (xs:=intCells ((List.range k).map fun i:Nat => (i:Int))) (B:=B) (L:=L) (fun x hx => by obtain ⟨y,_,rfl⟩:=List.mem_map.1 hx; rfl)
    have hl1:(((List.range k).map fun i:Nat => (i:Int)).length + 1 ≤ 1000000) = True:=eq_true (by simp; omega)
    have happ:intCells ((List.range k).map fun i:Nat => (i:Int)) ++ [[.int .i64 (k:Int)]] = intCells ((List.range (k + 1)).map fun i:Nat => (i:Int)):=by simp [intCells,List.range_succ]
    simp only [vqM,vt25,Nat.reduceAdd,Nat.reduceSub,Nat.reduceMul,Nat.reduceLeDiff,Nat.reduceEqDiff,Nat.reduceBEq,reduceCtorEq,hklt,decide_true,hof,ownN_relab,intCells_len,hl1,happ]
    rw [wrap_succ (by omega)]
    refine awN_keep [3,5,6] ?_
    simp only [vke,Nat.reduceBEq,Nat.reduceAdd]
    exact ihl _ _ ⟨rfl,rfl⟩
  · rintro e s ⟨rfl,rfl⟩
    have hklt:((n.toNat:Int) < n) = False:=by simp; omega
    simp only [vqM,vt25,Nat.reduceAdd,Nat.reduceSub,Nat.reduceMul,Nat.reduceLeDiff,Nat.reduceEqDiff,Nat.reduceBEq,reduceCtorEq,hklt,decide_false]
    refine ret_labG (.inr rfl) ?_ (bd_intSG _) (fun _ h => mem_liveN h) (by omega)
    simp only [vqM,vt25,Nat.reduceAdd,Nat.reduceSub,Nat.reduceMul,Nat.reduceLeDiff,Nat.reduceEqDiff,Nat.reduceBEq,reduceCtorEq]
    rfl
end Go.V

namespace Go.V
open Go.Proofs
set_option maxRecDepth 20000
set_option maxHeartbeats 4000000

theorem intAtG {l:List Int} {k:Nat} (h:k < l.length):(intCells l)[k]? = some [.int .i64 l[k]]:=by simp [intCells,h]
def orS (l:List Int):Int:=(l.find? fun x => decide (x ≠ 0)).getD 0
theorem t_Or (l:List Int) (s:St):Spec Tryz.prog 31 [.slice .none (intCells l)] s (.int .i64 (orS l)) s:=by
  refine Spec.small fun hsm => ?_
  have hlen:=(hsm _ (.head _)).len
  rw [intCells_len] at hlen
  clear hsm
  refine Spec.introN [] Tryz.func31 rfl (by decide) hmix (by kernel_rfl) [ResultVar.tmp 2] 18 rfl rfl ?_
  simp only [vqM,vt25,Tryz.f31,Nat.reduceAdd,Nat.reduceSub,Nat.reduceMul,Nat.reduceLeDiff,Nat.reduceEqDiff,Nat.reduceBEq,reduceCtorEq,intCells_len]
  refine awN_keep [3,6,7,8] ?_
  simp only [vke,Nat.reduceBEq,Nat.reduceAdd]
  refine awN_for hmix l.length (fun k => [.junk,.junk,.junk,.int .i64 0,.junk,.junk,.slice .none (intCells l),.int .i64 l.length,.int .i64 (k:Int),.junk,.junk,.junk,.junk,.junk,.junk,.junk,.junk,.junk]) (fun _ => s) (fun k => orS l = orS (l.drop k)) ?_ ?_ 0 (Nat.zero_le _) rfl
  · intro k hk hI ih
    have hg:=intAtG hk
    have hklt:((k:Int) < (l.length:Int)) = True:=by simp; exact hk
    have hd:l.drop k = l[k] :: l.drop (k + 1):=List.drop_eq_getElem_cons hk
    have hor:orS (l.drop k) = if l[k] = 0 then orS (l.drop (k + 1)) else l[k]:=by
      rw [hd,orS,List.find?_cons]
      by_cases e:l[k] = 0 <;> simp [e,orS]
    rw [hor] at hI
    simp only [vqM,vt25,Nat.reduceAdd,Nat.reduceSub,Nat.reduceMul,Nat.reduceLeDiff,Nat.reduceEqDiff,Nat.reduceBEq,reduceCtorEq,intCells_len,hklt,decide_true,natle0,Int.toNat_natCast,hg]
    refine ifI_intro (fun hc => ?_) (fun hc => ?_)
    · simp only [vqM,vt25,Nat.reduceAdd,Nat.reduceSub,Nat.reduceMul,Nat.reduceLeDiff,Nat.reduceEqDiff,Nat.reduceBEq,reduceCtorEq]
      refine ret_here (.inr rfl) ?_ (.int _ _)
      simp only [vqM,vt25,Nat.reduceAdd,Nat.reduceSub,Nat.reduceMul,Nat.reduceLeDiff,Nat.reduceEqDiff,Nat.reduceBEq,reduceCtorEq]
      have:¬ l[k] = 0:=by simpa using hc
      rw [hI,if_neg this]
    · simp only [vqM,vt25,Nat.reduceAdd,Nat.reduceSub,Nat.reduceMul,Nat.reduceLeDiff,Nat.reduceEqDiff,Nat.reduceBEq,reduceCtorEq]
      rw [wrap_succ (by omega)]
      refine awN_keep [3,6,7,8] ?_
      simp only [vke,Nat.reduceBEq,Nat.reduceAdd]
      refine ih ?_
      have:l[k] = 0:=by simpa using hc
      rw [hI,if_pos this]
  · intro hI
    have hklt:((l.length:Int) < (l.length:Int)) = False:=by simp
    simp only [vqM,vt25,Nat.reduceAdd,Nat.reduceSub,Nat.reduceMul,Nat.reduceLeDiff,Nat.reduceEqDiff,Nat.reduceBEq,reduceCtorEq,intCells_len,hklt,decide_false]
    refine ret_here (.inr rfl) ?_ (.int _ _)
    simp only [vqM,vt25,Nat.reduceAdd,Nat.reduceSub,Nat.reduceMul,Nat.reduceLeDiff,Nat.reduceEqDiff,Nat.reduceBEq,reduceCtorEq]
    rw [hI]; simp [orS]
def cmpR (a b:Rf):Int:=orS [w64 (sizeR a.kind - sizeR b.kind),w64 (a.kind - b.kind),w64 (a.a - b.a)]
theorem t_cmpR (a b:Rf) (s:St):Spec Tryz.prog 30 [.agg a.cells,.agg b.cells] s (.int .i64 (cmpR a b)) s:=by
  obtain ⟨B,L,c⟩:=s
  refine Spec.introN [(1,.text [false,true,false,true,false,false,false,false,false,false,false,false,false,false,false,false,true,false] [(2,0),(6,0),(6,1),(8,0),(8,1),(11,0),(11,1),(13,0),(13,1)])] Tryz.func30 rfl (by decide) hmix (by kernel_rfl) [ResultVar.tmp 4] 22 rfl rfl ?_
  simp only [vqM,vt68,Tryz.f30,Nat.reduceAdd,Nat.reduceSub,Nat.reduceMul,Nat.reduceLeDiff,Nat.reduceEqDiff,Nat.reduceBEq,reduceCtorEq,vsRf,w64_eq]
  refine callI_spec (t_Size _ _) ?_
  simp only [vqM,vt68,Nat.reduceAdd,Nat.reduceSub,Nat.reduceMul,Nat.reduceLeDiff,Nat.reduceEqDiff,Nat.reduceBEq,reduceCtorEq,vsRf,w64_eq]
  refine callI_spec (t_Size _ _) ?_
  simp only [vqM,vt68,Nat.reduceAdd,Nat.reduceSub,Nat.reduceMul,Nat.reduceLeDiff,Nat.reduceEqDiff,Nat.reduceBEq,reduceCtorEq,vsRf,w64_eq]
  refine callI_spec (t_Or [w64 (sizeR a.kind - sizeR b.kind),w64 (a.kind - b.kind),w64 (a.a - b.a)] _) ?_
  simp only [vqM,vt68,Nat.reduceAdd,Nat.reduceSub,Nat.reduceMul,Nat.reduceLeDiff,Nat.reduceEqDiff,Nat.reduceBEq,reduceCtorEq,vsRf,w64_eq]
  refine ret_loc (.inr rfl) ?_ (.int _ _) (fun _ h => h) (Nat.le_refl _)
  simp only [vqM,vt68,Nat.reduceAdd,Nat.reduceSub,Nat.reduceMul,Nat.reduceLeDiff,Nat.reduceEqDiff,Nat.reduceBEq,reduceCtorEq]
  rfl
structure GoodR (x:Rf):Prop where
  k0:0 ≤ x.kind
  k1:x.kind < 8
  a0:0 ≤ x.a
  a1:x.a < 1000000
def keyR (x:Rf):Int:=(sizeR x.kind * 8 + x.kind) * 1000000 + x.a
theorem sizeR_in (k:Int):0 ≤ sizeR k∧sizeR k ≤ 3:=by
  unfold sizeR
  repeat' split
  all_goals omega
theorem cmpR_lt {a b:Rf} (ha:GoodR a) (hb:GoodR b):decide (cmpR a b < 0) = decide (keyR a < keyR b):=by
  obtain ⟨a1,a2,a3,a4⟩:=ha
  obtain ⟨b1,b2,b3,b4⟩:=hb
  obtain ⟨s1,s2⟩:=sizeR_in a.kind
  obtain ⟨s3,s4⟩:=sizeR_in b.kind
  have w1:w64 (sizeR a.kind - sizeR b.kind) = sizeR a.kind - sizeR b.kind:=wrap_in (by omega)
  have w2:w64 (a.kind - b.kind) = a.kind - b.kind:=wrap_in (by omega)
  have w3:w64 (a.a - b.a) = a.a - b.a:=wrap_in (by omega)
  rw [decide_eq_decide,cmpR,w1,w2,w3,orS,keyR,keyR]
  generalize sizeR a.kind = x at *
  generalize sizeR b.kind = y at *
  simp only [List.find?_cons,List.find?_nil]
  by_cases h1:x - y = 0
  · simp only [h1,ne_eq,not_true_eq_false,decide_false]
    by_cases h2:a.kind - b.kind = 0
    · simp only [h2,not_true_eq_false,decide_false]
      by_cases h3:a.a - b.a = 0
      · simp only [h3,not_true_eq_false,decide_false,Option.getD_none]; omega
      · simp only [h3,not_false_eq_true,decide_true,Option.getD_some]; omega
    · simp only [h2,not_false_eq_true,decide_true,Option.getD_some]; omega
  · simp only [h1,ne_eq,not_false_eq_true,decide_true,Option.getD_some]; omega
def rfs (l:List Rf):List D:=(l.map Rf.cells).flatten
theorem rfs_len (l:List Rf):(rfs l).length = l.length * 4:=by
  induction l with
  | nil => rfl
  | cons x l ih => simp only [rfs,List.map_cons,List.flatten_cons,List.length_append,Rf.cells_len,List.length_cons] at ih ⊢; omega
theorem rfs_app (l m:List Rf):rfs (l ++ m) = rfs l ++ rfs m:=by simp [rfs]
theorem rfs_cons (x:Rf) (m:List Rf):rfs (x :: m) = x.cells ++ rfs m:=by simp [rfs]
theorem rfs_at (p q:List Rf) (x:Rf):((rfs (p ++ x :: q)).drop (p.length * 4)).take 4 = x.cells:=by
  rw [rfs_app,rfs_cons,← rfs_len p,List.drop_left,List.take_left' (Rf.cells_len x)]
theorem rfs_set (p q:List Rf) (z x:Rf):(rfs (p ++ z :: q)).take (p.length * 4) ++ (x.cells ++ (rfs (p ++ z :: q)).drop (p.length * 4 + 4)) = rfs (p ++ x :: q):=by
  rw [rfs_app,rfs_cons,← rfs_len p,List.take_left,List.drop_append,Nat.add_sub_cancel_left,List.drop_of_length_le (by omega),← Rf.cells_len z,List.drop_left,rfs_app,rfs_cons]; rfl
structure InsR (l:List Rf) (i:Nat) (k:Nat) (l':List Rf):Prop where
  perm:l'.Perm l
  form:∃ p x q r,l' = p ++ x :: q ++ r∧p.length = i - k∧(p ++ q).length = i∧(p ++ q).Pairwise (keyR · ≤ keyR ·)∧∀ y ∈ q,keyR x ≤ keyR y
theorem insR_start {l l':List Rf} {i:Nat} (hp:l'.Perm l) (hs:(l'.take i).Pairwise (keyR · ≤ keyR ·)) (hi:i < l'.length):InsR l i 0 l':=by
  refine ⟨hp,l'.take i,l'[i],[],l'.drop (i + 1),?_,?_,?_,by simpa using hs,by simp⟩
  · rw [List.append_assoc,List.cons_append,List.nil_append,← List.drop_eq_getElem_cons hi,List.take_append_drop]
  · simp; omega
  · simp; omega
theorem insR_end {p q r:List Rf} {x:Rf} (hs:(p ++ q).Pairwise (keyR · ≤ keyR ·)) (hx:∀ y ∈ q,keyR x ≤ keyR y) (hl:∀ p0 y,p = p0 ++ [y]→keyR y ≤ keyR x):((p ++ x :: q ++ r).take ((p ++ q).length + 1)).Pairwise (keyR · ≤ keyR ·):=by
  have e:(p ++ x :: q ++ r).take ((p ++ q).length + 1) = p ++ x :: q:=by
    rw [List.take_append_of_le_length (by simp; omega),List.take_of_length_le (by simp; omega)]
  rw [e]
  obtain ⟨h1,h2,h3⟩:=List.pairwise_append.1 hs
  refine List.pairwise_append.2 ⟨h1,List.pairwise_cons.2 ⟨hx,h2⟩,fun a ha b hb => ?_⟩
  rcases List.mem_cons.1 hb with rfl | hb
  · rcases List.eq_nil_or_concat p with rfl | ⟨p0,y,rfl⟩
    · simp at ha
    · rw [List.concat_eq_append] at *
      have hy:=hl p0 y rfl
      obtain ⟨_,_,h4⟩:=List.pairwise_append.1 h1
      rcases List.mem_append.1 ha with ha | ha
      · exact Int.le_trans (h4 a ha y (by simp)) hy
      · simp at ha; subst ha; exact hy
  · exact h3 a ha b hb
theorem insR_step {l:List Rf} {i k:Nat} {p q r:List Rf} {y x:Rf} (hp:(p ++ [y] ++ x :: q ++ r).Perm l) (h1:(p ++ [y]).length = i - k) (h2:(p ++ [y] ++ q).length = i) (hs:(p ++ [y] ++ q).Pairwise (keyR · ≤ keyR ·)) (hx:∀ z ∈ q,keyR x ≤ keyR z) (hlt:keyR x < keyR y):InsR l i (k + 1) (p ++ x :: (y :: q) ++ r):=by
  refine ⟨?_,p,x,y :: q,r,rfl,by simp at h1; omega,by simpa using h2,by simpa using hs,fun z hz => ?_⟩
  · refine List.Perm.trans ?_ hp
    simp only [List.append_assoc,List.cons_append,List.nil_append]
    exact List.Perm.append_left p (List.Perm.swap _ _ _)
  · rcases List.mem_cons.1 hz with rfl | hz
    · omega
    · exact hx z hz
theorem insR_last {l l':List Rf} {i k:Nat} (h:InsR l i k l') (hk:i ≤ k):l'.Perm l∧(l'.take (i + 1)).Pairwise (keyR · ≤ keyR ·):=by
  obtain ⟨hp,p,x,q,r,rfl,h1,h2,h3,h4⟩:=h
  refine ⟨hp,?_⟩
  have:p = []:=List.eq_nil_of_length_eq_zero (by omega)
  subst this
  have:=insR_end (r:=r) h3 h4 (fun p0 y e => by simp at e)
  rw [h2] at this; exact this
def cmpF:D:=.func (.func 30) [] []
theorem t_insertR (l:List Rf) (B T:List Box) (L:List Nat) (c:Nat) (hn:l.length ≤ 12) (hG:∀ x ∈ l,GoodR x):SpecQ Tryz.prog 76 [.row B.length 0 l.length 4,.int .i64 0,.int .i64 l.length,cmpF] ⟨B ++ .cells (rfs l) :: T,L,c⟩
    fun r s => r = .tup []∧∃ l',l'.Perm l∧l'.Pairwise (keyR · ≤ keyR ·)∧s = ⟨B ++ .cells (rfs l') :: T,L,c⟩:=by
  refine SpecQ.introA [] Tryz.func76 rfl (by decide) hmix (by kernel_rfl) [] 53 rfl rfl ?_
  have w1:IntKind.i64.wrap (0 + 1) = 1:=by decide
  simp only [vqM,vt69,Tryz.f76,Nat.reduceAdd,Nat.reduceSub,Nat.reduceMul,Nat.reduceLeDiff,Nat.reduceEqDiff,Nat.reduceBEq,reduceCtorEq,w1]
  refine awN_keep [0,1,2,3,8] ?_
  simp only [vke,Nat.reduceBEq,Nat.reduceAdd]
  refine awN_forR hmix (l.length - 1) (fun k e s => e = [.row B.length 0 l.length 4,.int .i64 0,.int .i64 l.length,cmpF,.junk,.junk,.junk,.junk,.int .i64 ((k + 1:Nat):Int),.junk,.junk,.junk,.junk,.junk,.junk,.junk,.junk,.junk,.junk,.junk,.junk,.junk,.junk,.junk,.junk,.junk,.junk,.junk,.junk,.junk,.junk,.junk,.junk,.junk,.junk,.junk,.junk,.junk,.junk,.junk,.junk,.junk,.junk,.junk,.junk,.junk,.junk,.junk,.junk,.junk,.junk,.junk,.junk]∧∃ l',l'.Perm l∧(l'.take (k + 1)).Pairwise (keyR · ≤ keyR ·)∧s = ⟨B ++ .cells (rfs l') :: T,L,c⟩) ?_ ?_ 0 _ _ (Nat.zero_le _) ⟨rfl,l,.refl _,?_,rfl⟩
  · rintro k e s hk ⟨rfl,l1,hp1,hs1,rfl⟩ ih
    have hll:=hp1.length_eq
    have hlt:decide (((k + 1:Nat):Int) < (l.length:Int)) = true:=by simp; omega
    simp only [vqM,vt69,Nat.reduceAdd,Nat.reduceSub,Nat.reduceMul,Nat.reduceLeDiff,Nat.reduceEqDiff,Nat.reduceBEq,reduceCtorEq,hlt]
    refine awN_keep [0,1,2,3,8,9] ?_
    simp only [vke,Nat.reduceBEq,Nat.reduceAdd]
    refine awN_forR hmix (k + 1) (fun m e s => e = [.row B.length 0 l.length 4,.int .i64 0,.int .i64 l.length,cmpF,.junk,.junk,.junk,.junk,.int .i64 ((k + 1:Nat):Int),.int .i64 ((k + 1 - m:Nat):Int),.junk,.junk,.junk,.junk,.junk,.junk,.junk,.junk,.junk,.junk,.junk,.junk,.junk,.junk,.junk,.junk,.junk,.junk,.junk,.junk,.junk,.junk,.junk,.junk,.junk,.junk,.junk,.junk,.junk,.junk,.junk,.junk,.junk,.junk,.junk,.junk,.junk,.junk,.junk,.junk,.junk,.junk,.junk]∧∃ l',InsR l (k + 1) m l'∧s = ⟨B ++ .cells (rfs l') :: T,L,c⟩) ?_ ?_ 0 _ _ (Nat.zero_le _) ⟨rfl,l1,insR_start hp1 hs1 (by omega),rfl⟩
    · rintro m e s hm ⟨rfl,l2,⟨hp2,p,x,q,r,rfl,h1,h2,h3,h4⟩,rfl⟩ ih2
      rcases List.eq_nil_or_concat p with rfl | ⟨p0,y,rfl⟩
      · simp at h1; omega
      rw [List.concat_eq_append] at *
      have hj:k + 1 - m = p0.length + 1:=by simp at h1; omega
      have hlen:=hp2.length_eq
      simp only [List.length_append,List.length_cons,List.length_nil] at hlen
      have a1:IntKind.i64.wrap (((p0.length + 1:Nat):Int) - 1) = (p0.length:Int):=(wrap_in (by omega)).trans (by omega)
      have a2:(0 ≤ ((p0.length + 1:Nat):Int)∧((p0.length + 1:Nat):Int) < (l.length:Int)) = True:=by simp; omega
      have a3:(0 ≤ (p0.length:Int)∧(p0.length:Int) < (l.length:Int)) = True:=by simp; omega
      have a4:decide (((p0.length + 1:Nat):Int) > 0) = true:=by simp
      have e0:p0 ++ [y] ++ x :: q ++ r = p0 ++ y :: x :: (q ++ r):=by simp
      rw [e0] at *
      rw [hj]
      have hlenx:(rfs (p0 ++ y :: x :: (q ++ r))).length = l.length * 4:=by rw [rfs_len,← hlen]; simp; omega
      have a5:(4 ≤ (rfs (p0 ++ y :: x :: (q ++ r))).length - (p0.length + 1) * 4) = True:=eq_true (by rw [hlenx]; omega)
      have a6:(4 ≤ (rfs (p0 ++ y :: x :: (q ++ r))).length - p0.length * 4) = True:=eq_true (by rw [hlenx]; omega)
      have b1:((rfs (p0 ++ y :: x :: (q ++ r))).drop ((p0.length + 1) * 4)).take 4 = x.cells:=by
        have:=rfs_at (p0 ++ [y]) (q ++ r) x; simpa using this
      have b2:((rfs (p0 ++ y :: x :: (q ++ r))).drop (p0.length * 4)).take 4 = y.cells:=rfs_at p0 (x :: (q ++ r)) y
      have gx:GoodR x:=hG x (hp2.mem_iff.1 (by simp))
      have gy:GoodR y:=hG y (hp2.mem_iff.1 (by simp))
      simp only [vqM,vt69,Nat.reduceAdd,Nat.reduceSub,Nat.reduceMul,Nat.reduceLeDiff,Nat.reduceEqDiff,Nat.reduceBEq,reduceCtorEq,a1,a2,a3,a4,a5,a6,b1,b2,Int.toNat_natCast,Nat.zero_add]
      refine callI_spec (t_cmpR x y _) ?_
      simp only [vqM,vt69,Nat.reduceAdd,Nat.reduceSub,Nat.reduceMul,Nat.reduceLeDiff,Nat.reduceEqDiff,Nat.reduceBEq,reduceCtorEq,a1,a2,a3,a4,a5,a6,b1,b2,Int.toNat_natCast,Nat.zero_add,cmpR_lt gx gy]
      refine ifI_intro (fun hc => ?_) (fun hc => ?_)
      · have hlt2:keyR x < keyR y:=of_decide_eq_true hc
        have a7:((p0.length + 1) * 4 + 4 ≤ (rfs (p0 ++ y :: x :: (q ++ r))).length) = True:=eq_true (by rw [hlenx]; omega)
        have a8:(p0.length * 4 + 4 ≤ (rfs (p0 ++ y :: y :: (q ++ r))).length) = True:=eq_true (by rw [rfs_len]; simp; omega)
        have c1:(rfs (p0 ++ y :: x :: (q ++ r))).take ((p0.length + 1) * 4) ++ (y.cells ++ (rfs (p0 ++ y :: x :: (q ++ r))).drop ((p0.length + 1) * 4 + 4)) = rfs (p0 ++ y :: y :: (q ++ r)):=by
          have:=rfs_set (p0 ++ [y]) (q ++ r) x y; simpa using this
        have c2:=rfs_set p0 (y :: (q ++ r)) y x
        simp only [vqM,vt69,Nat.reduceAdd,Nat.reduceSub,Nat.reduceMul,Nat.reduceLeDiff,Nat.reduceEqDiff,Nat.reduceBEq,reduceCtorEq,vsRf,a1,a2,a3,a4,a5,a6,a7,a8,b1,b2,c1,c2,Int.toNat_natCast,Nat.zero_add]
        refine awN_keep [0,1,2,3,8,9] ?_
        simp only [vke,Nat.reduceBEq,Nat.reduceAdd]
        have e1:p0 ++ x :: (y :: q) ++ r = p0 ++ x :: y :: (q ++ r):=by simp
        refine ih2 _ _ ⟨?_,_,insR_step hp2 h1 h2 h3 h4 hlt2,by rw [e1]⟩
        rw [show k + 1 - (m + 1) = p0.length from by omega]
      · have hlt2:¬ keyR x < keyR y:=of_decide_eq_false hc
        simp only [vqM,vt69,Nat.reduceAdd,Nat.reduceSub,Nat.reduceMul,Nat.reduceLeDiff,Nat.reduceEqDiff,Nat.reduceBEq,reduceCtorEq,a1,a2,a3,a4,a5,a6,b1,b2,Int.toNat_natCast,Nat.zero_add]
        rw [show IntKind.i64.wrap (((k + 1:Nat):Int) + 1) = ((k + 1 + 1:Nat):Int) from wrap_succ (by omega)]
        refine awN_keep [0,1,2,3,8] ?_
        simp only [vke,Nat.reduceBEq,Nat.reduceAdd]
        have hend:=insR_end (r:=r) h3 h4 (fun p1 z e => by
          have:z = y:=by have:=List.append_inj_right' e.symm rfl; simpa using this
          subst this; omega)
        refine ih _ _ ⟨rfl,_,hp2,?_,by simp⟩
        rw [h2] at hend; exact hend
    · rintro e s ⟨rfl,l2,hI,rfl⟩
      obtain ⟨q1,q2⟩:=insR_last hI (Nat.le_refl _)
      have a4:decide (((k + 1 - (k + 1):Nat):Int) > 0) = false:=by simp
      simp only [vqM,vt69,Nat.reduceAdd,Nat.reduceSub,Nat.reduceMul,Nat.reduceLeDiff,Nat.reduceEqDiff,Nat.reduceBEq,reduceCtorEq,a4]
      rw [show IntKind.i64.wrap (((k + 1:Nat):Int) + 1) = ((k + 1 + 1:Nat):Int) from wrap_succ (by omega)]
      refine awN_keep [0,1,2,3,8] ?_
      simp only [vke,Nat.reduceBEq,Nat.reduceAdd]
      exact ih _ _ ⟨rfl,_,q1,q2,rfl⟩
  · rintro e s ⟨rfl,l1,hp1,hs1,rfl⟩
    have hlt:decide (((l.length - 1 + 1:Nat):Int) < (l.length:Int)) = false:=by simp; omega
    simp only [vqM,vt69,Nat.reduceAdd,Nat.reduceSub,Nat.reduceMul,Nat.reduceLeDiff,Nat.reduceEqDiff,Nat.reduceBEq,reduceCtorEq,hlt]
    refine retA (.inl rfl) (r:=.tup []) ?_ ⟨rfl,l1,hp1,?_,rfl⟩
    · rfl
    · rwa [List.take_of_length_le (by have:=hp1.length_eq; omega)] at hs1
  · match l with
    | [] => simp
    | x :: l => simp
theorem t_pdqR (l:List Rf) (B T:List Box) (L:List Nat) (c:Nat) (m:Int) (hn:l.length ≤ 12) (hG:∀ x ∈ l,GoodR x):SpecQ Tryz.prog 47 [.row B.length 0 l.length 4,.int .i64 0,.int .i64 l.length,.int .i64 m,cmpF] ⟨B ++ .cells (rfs l) :: T,L,c⟩
    fun r s => r = .tup []∧∃ l',l'.Perm l∧l'.Pairwise (keyR · ≤ keyR ·)∧s = ⟨B ++ .cells (rfs l') :: T,L,c⟩:=by
  have w1:IntKind.i64.wrap ((l.length:Int) - 0) = l.length:=(wrap_in (by omega)).trans (by omega)
  have a1:decide ((l.length:Int) ≤ 12) = true:=by simp; omega
  refine SpecQ.introA [] Tryz.func47 rfl (by decide) hmix (by kernel_rfl) [] 148 rfl rfl ?_
  simp only [vqM,vt70,Tryz.f47,Nat.reduceAdd,Nat.reduceSub,Nat.reduceMul,Nat.reduceLeDiff,Nat.reduceEqDiff,Nat.reduceBEq,reduceCtorEq,w1,a1]
  refine awN_loop hmix ?_
  simp only [vqM,vt70,Nat.reduceAdd,Nat.reduceSub,Nat.reduceMul,Nat.reduceLeDiff,Nat.reduceEqDiff,Nat.reduceBEq,reduceCtorEq,w1,a1,cmpF]
  refine callI_specQ (t_insertR l B T L c hn hG) ?_
  rintro r s ⟨rfl,l',p1,p2,rfl⟩
  simp only [vqM,vt70,Nat.reduceAdd,Nat.reduceSub,Nat.reduceMul,Nat.reduceLeDiff,Nat.reduceEqDiff,Nat.reduceBEq,reduceCtorEq]
  refine retA (.inr rfl) (r:=.tup []) rfl ⟨rfl,l',p1,p2,rfl⟩
theorem t_SortR (l:List Rf) (B T:List Box) (L:List Nat) (c:Nat) (hn:l.length ≤ 12) (hG:∀ x ∈ l,GoodR x):SpecQ Tryz.prog 29 [.row B.length 0 l.length 4,cmpF] ⟨B ++ .cells (rfs l) :: T,L,c⟩
    fun r s => r = .tup []∧∃ l',l'.Perm l∧l'.Pairwise (keyR · ≤ keyR ·)∧s = ⟨B ++ .cells (rfs l') :: T,L,c⟩:=by
  have hw:IntKind.u64.wrap (l.length:Int) = l.length:=(by decide:∀ n < 13,IntKind.u64.wrap ((n:Nat):Int) = n) l.length (by omega)
  refine SpecQ.introA [] Tryz.func29 rfl (by decide) hmix (by kernel_rfl) [] 14 rfl rfl ?_
  simp only [vqM,vt71,Tryz.f29,Nat.reduceAdd,Nat.reduceSub,Nat.reduceMul,Nat.reduceLeDiff,Nat.reduceEqDiff,Nat.reduceBEq,reduceCtorEq,hw,cmpF]
  refine callI_specQ (t_Len l.length hn _) ?_
  rintro r s ⟨rfl,m,rfl⟩
  simp only [vqM,vt71,Nat.reduceAdd,Nat.reduceSub,Nat.reduceMul,Nat.reduceLeDiff,Nat.reduceEqDiff,Nat.reduceBEq,reduceCtorEq,hw,cmpF]
  refine callI_specQ (t_pdqR l B T L c m hn hG) ?_
  rintro r s ⟨rfl,l',p1,p2,rfl⟩
  simp only [vqM,vt71,Nat.reduceAdd,Nat.reduceSub,Nat.reduceMul,Nat.reduceLeDiff,Nat.reduceEqDiff,Nat.reduceBEq,reduceCtorEq,hw]
  refine retA (.inl rfl) (r:=.tup []) rfl ⟨rfl,l',p1,p2,rfl⟩
theorem t_insertR0 (f:D) (s:St):Spec Tryz.prog 76 [.row0,.int .i64 0,.int .i64 0,f] s (.tup []) s:=by
  refine Spec.introN [] Tryz.func76 rfl (by decide) hmix (by kernel_rfl) [] 53 rfl rfl ?_
  have w1:IntKind.i64.wrap (0 + 1) = 1:=by decide
  have w2:decide ((1:Int) < 0) = false:=by decide
  simp only [vqM,vt69,Tryz.f76,Nat.reduceAdd,Nat.reduceSub,Nat.reduceMul,Nat.reduceLeDiff,Nat.reduceEqDiff,Nat.reduceBEq,reduceCtorEq,w1]
  refine awN_loop hmix ?_
  simp only [vqM,vt69,Nat.reduceAdd,Nat.reduceSub,Nat.reduceMul,Nat.reduceLeDiff,Nat.reduceEqDiff,Nat.reduceBEq,reduceCtorEq,w2]
  refine ret_here (.inl rfl) rfl (.tup _ fun i hi => by simp at hi)
theorem t_pdqR0 (m:Int) (s:St):Spec Tryz.prog 47 [.row0,.int .i64 0,.int .i64 0,.int .i64 m,cmpF] s (.tup []) s:=by
  have w1:IntKind.i64.wrap (0 - 0) = 0:=by decide
  have a1:decide ((0:Int) ≤ 12) = true:=by decide
  refine Spec.introN [] Tryz.func47 rfl (by decide) hmix (by kernel_rfl) [] 148 rfl rfl ?_
  simp only [vqM,vt70,Tryz.f47,Nat.reduceAdd,Nat.reduceSub,Nat.reduceMul,Nat.reduceLeDiff,Nat.reduceEqDiff,Nat.reduceBEq,reduceCtorEq,w1,a1,cmpF]
  refine awN_loop hmix ?_
  simp only [vqM,vt70,Nat.reduceAdd,Nat.reduceSub,Nat.reduceMul,Nat.reduceLeDiff,Nat.reduceEqDiff,Nat.reduceBEq,reduceCtorEq,w1,a1,cmpF]
  refine callI_spec (t_insertR0 _ _) ?_
  simp only [vqM,vt70,Nat.reduceAdd,Nat.reduceSub,Nat.reduceMul,Nat.reduceLeDiff,Nat.reduceEqDiff,Nat.reduceBEq,reduceCtorEq]
  refine ret_here (.inr rfl) rfl (.tup _ fun i hi => by simp at hi)
theorem t_SortR0 (s:St):Spec Tryz.prog 29 [.row0,cmpF] s (.tup []) s:=by
  have hw:IntKind.u64.wrap 0 = ((0:Nat):Int):=by decide
  refine Spec.introN [] Tryz.func29 rfl (by decide) hmix (by kernel_rfl) [] 14 rfl rfl ?_
  simp only [vqM,vt71,Tryz.f29,Nat.reduceAdd,Nat.reduceSub,Nat.reduceMul,Nat.reduceLeDiff,Nat.reduceEqDiff,Nat.reduceBEq,reduceCtorEq,hw,cmpF]
  refine callI_specQ (t_Len 0 (by decide) _) ?_
  rintro r s ⟨rfl,m,rfl⟩
  simp only [vqM,vt71,Nat.reduceAdd,Nat.reduceSub,Nat.reduceMul,Nat.reduceLeDiff,Nat.reduceEqDiff,Nat.reduceBEq,reduceCtorEq,hw,cmpF]
  refine callI_spec (t_pdqR0 m _) ?_
  simp only [vqM,vt71,Nat.reduceAdd,Nat.reduceSub,Nat.reduceMul,Nat.reduceLeDiff,Nat.reduceEqDiff,Nat.reduceBEq,reduceCtorEq,hw]
  refine ret_here (.inl rfl) rfl (.tup _ fun i hi => by simp at hi)
end Go.V

namespace Go.V
open Go.Proofs
set_option maxRecDepth 20000
set_option maxHeartbeats 4000000

theorem t_IndexI (l:List Int) (n:Int) (s:St):SpecQ Tryz.prog 75 [.slice .none (intCells l),.int .i64 n] s fun r s' => s' = s∧∃ i,r = .int .i64 i∧decide (i ≥ 0) = l.contains n:=by
  refine SpecQ.small fun hsm => ?_
  have hlen:=(hsm _ (.head _)).len
  rw [intCells_len] at hlen
  clear hsm
  refine SpecQ.introA [] Tryz.func75 rfl (by decide) hmix (by kernel_rfl) [ResultVar.tmp 4] 19 rfl rfl ?_
  simp only [vqM,vt25,Tryz.f75,Nat.reduceAdd,Nat.reduceSub,Nat.reduceMul,Nat.reduceLeDiff,Nat.reduceEqDiff,Nat.reduceBEq,reduceCtorEq,intCells_len]
  refine awN_keep [0,1,7,8] ?_
  simp only [vke,Nat.reduceBEq,Nat.reduceAdd]
  refine awN_for hmix l.length (fun k => [.slice .none (intCells l),.int .i64 n,.junk,.junk,.junk,.junk,.junk,.int .i64 l.length,.int .i64 (k:Int),.junk,.junk,.junk,.junk,.junk,.junk,.junk,.junk,.junk,.junk]) (fun _ => s) (fun k => l.contains n = (l.drop k).contains n) ?_ ?_ 0 (Nat.zero_le _) rfl
  · intro k hk hI ih
    have hg:=intAtG hk
    have hklt:((k:Int) < (l.length:Int)) = True:=by simp; exact hk
    have hd:l.drop k = l[k] :: l.drop (k + 1):=List.drop_eq_getElem_cons hk
    rw [hd,List.contains_cons] at hI
    simp only [vqM,vt25,Nat.reduceAdd,Nat.reduceSub,Nat.reduceMul,Nat.reduceLeDiff,Nat.reduceEqDiff,Nat.reduceBEq,reduceCtorEq,intCells_len,hklt,decide_true,natle0,Int.toNat_natCast,hg]
    refine ifI_intro (fun hc => ?_) (fun hc => ?_)
    · have e:n = l[k]:=of_decide_eq_true hc
      simp only [vqM,vt25,Nat.reduceAdd,Nat.reduceSub,Nat.reduceMul,Nat.reduceLeDiff,Nat.reduceEqDiff,Nat.reduceBEq,reduceCtorEq]
      refine retA (.inr rfl) (r:=.int .i64 k) ?_ ⟨rfl,_,rfl,?_⟩
      · simp only [vqM,vt25,Nat.reduceAdd,Nat.reduceSub,Nat.reduceMul,Nat.reduceLeDiff,Nat.reduceEqDiff,Nat.reduceBEq,reduceCtorEq]
      · rw [hI,e]; simp
    · have e:¬ n = l[k]:=of_decide_eq_false hc
      simp only [vqM,vt25,Nat.reduceAdd,Nat.reduceSub,Nat.reduceMul,Nat.reduceLeDiff,Nat.reduceEqDiff,Nat.reduceBEq,reduceCtorEq]
      rw [wrap_succ (by omega)]
      refine awN_keep [0,1,7,8] ?_
      simp only [vke,Nat.reduceBEq,Nat.reduceAdd]
      refine ih ?_
      rw [hI,show (n == l[k]) = false from by simpa using e,Bool.false_or]
  · intro hI
    have hklt:((l.length:Int) < (l.length:Int)) = False:=by simp
    simp only [vqM,vt25,Nat.reduceAdd,Nat.reduceSub,Nat.reduceMul,Nat.reduceLeDiff,Nat.reduceEqDiff,Nat.reduceBEq,reduceCtorEq,intCells_len,hklt,decide_false]
    refine retA (.inr rfl) (r:=.int .i64 (-1)) ?_ ⟨rfl,_,rfl,?_⟩
    · simp only [vqM,vt25,Nat.reduceAdd,Nat.reduceSub,Nat.reduceMul,Nat.reduceLeDiff,Nat.reduceEqDiff,Nat.reduceBEq,reduceCtorEq]
    · rw [hI]; simp
theorem t_ContainsI (l:List Int) (n:Int) (s:St):Spec Tryz.prog 43 [.slice .none (intCells l),.int .i64 n] s (.bool (l.contains n)) s:=by
  refine Spec.introN [] Tryz.func43 rfl (by decide) hmix (by kernel_rfl) [ResultVar.tmp 4] 9 rfl rfl ?_
  simp only [vqM,Tryz.f43,Nat.reduceAdd,Nat.reduceSub,Nat.reduceMul,Nat.reduceLeDiff,Nat.reduceEqDiff,Nat.reduceBEq,reduceCtorEq,tf3]
  refine callI_specQ (t_IndexI l n _) ?_
  rintro r s ⟨rfl,i,rfl,hi⟩
  simp only [vqM,Nat.reduceAdd,Nat.reduceSub,Nat.reduceMul,Nat.reduceLeDiff,Nat.reduceEqDiff,Nat.reduceBEq,reduceCtorEq,tf3]
  refine ret_here (.inr rfl) ?_ (.bool _)
  simp only [vqM,Nat.reduceAdd,Nat.reduceSub,Nat.reduceMul,Nat.reduceLeDiff,Nat.reduceEqDiff,Nat.reduceBEq,reduceCtorEq,tf3]
  rw [hi]
def isB (f:Fi) (y:Sm) (kind:Int) (ops:List Int):Bool:=decide (f.kind = kind) && ops.contains y.op
theorem t_is (f:Fi) (y:Sm) (row:D) (kind:Int) (ops:List Int) (li bl bs:Nat) (B:List Box) (L:List Nat) (c:Nat) (h1:B[bl]? = some (.cells [.box li 0])) (h2:B[li]? = some (.cells (Ls.mk f row).cells)) (h3:B[bs]? = some (.cells y.cells)) :
    Spec Tryz.prog 42 [.int .i64 kind,.slice .none (intCells ops),.box bl 0,.box bs 0] ⟨B,L,c⟩ (.bool (isB f y kind ops)) ⟨B,L,c⟩:=by
  refine Spec.introN [] Tryz.func42 rfl (by decide) hmix (by kernel_rfl) [ResultVar.tmp 6] 20 rfl rfl ?_
  simp only [vqM,vt72,Tryz.f42,Nat.reduceAdd,Nat.reduceSub,Nat.reduceMul,Nat.reduceLeDiff,Nat.reduceEqDiff,Nat.reduceBEq,reduceCtorEq,vsLs,vsFi,h1,h2,h3]
  refine ifI_intro (fun hc => ?_) (fun hc => ?_)
  · simp only [vqM,vt72,Nat.reduceAdd,Nat.reduceSub,Nat.reduceMul,Nat.reduceLeDiff,Nat.reduceEqDiff,Nat.reduceBEq,reduceCtorEq,vsLs,vsFi,h1,h2,h3,hc]
    refine callI_spec (t_ContainsI _ _ _) ?_
    simp only [vqM,vt72,Nat.reduceAdd,Nat.reduceSub,Nat.reduceMul,Nat.reduceLeDiff,Nat.reduceEqDiff,Nat.reduceBEq,reduceCtorEq,vsLs,vsFi,h1,h2,h3,hc]
    refine ret_here (.inr rfl) ?_ (.bool _)
    simp only [vqM,vt72,Nat.reduceAdd,Nat.reduceSub,Nat.reduceMul,Nat.reduceLeDiff,Nat.reduceEqDiff,Nat.reduceBEq,reduceCtorEq]
    rw [isB,hc,Bool.true_and]
  · simp only [vqM,vt72,Nat.reduceAdd,Nat.reduceSub,Nat.reduceMul,Nat.reduceLeDiff,Nat.reduceEqDiff,Nat.reduceBEq,reduceCtorEq,vsLs,vsFi,h1,h2,h3,hc]
    refine ret_here (.inr rfl) ?_ (.bool _)
    simp only [vqM,vt72,Nat.reduceAdd,Nat.reduceSub,Nat.reduceMul,Nat.reduceLeDiff,Nat.reduceEqDiff,Nat.reduceBEq,reduceCtorEq]
    rw [isB,hc,Bool.false_and]
def RowR (n:Nat) (row:D) (l:List Rf) (X:List Box):Prop :=
  (row = .row0∧l = []) ∨ ∃ j,row = .row (n + j) 0 l.length 4∧l ≠ []∧X[j]? = some (.cells (rfs l))
def mkR (f:Fi) (kind a:Int):Rf:=⟨kind,f.df,f.site,a⟩
theorem Ls.drop4 (x:Ls):x.cells.drop 4 = []:=rfl
theorem Ls.fold (f:Fi) (d:D):f.cells ++ [d] = (Ls.mk f d).cells:=rfl
structure Rw where
  j:Option Nat
  X:List Box
  l:List Rf
def Rw.row (n:Nat) (w:Rw):D:=match w.j with
  | none => .row0
  | some j => .row (n + j) 0 w.l.length 4
def Rw.ok (w:Rw):Prop:=match w.j with
  | none => w.l = []
  | some j => w.l ≠ []∧w.X[j]? = some (.cells (rfs w.l))
def Rw.more (w:Rw) (x:Rf):Rw:=⟨some w.X.length,(match w.j with | none => w.X | some j => w.X.set j .dead) ++ [.cells (rfs (w.l ++ [x]))],w.l ++ [x]⟩
def Rw.adds (w:Rw) (xs:List Rf):Rw:=xs.foldl Rw.more w
theorem Rw.adds_l (xs:List Rf):∀ w:Rw,(w.adds xs).l = w.l ++ xs:=by
  induction xs with
  | nil => intro w; simp [Rw.adds]
  | cons x xs ih => intro w; rw [Rw.adds,List.foldl_cons]; have:=ih (w.more x); rw [Rw.adds] at this; rw [this]; simp [Rw.more]
theorem Rw.more_ok (w:Rw) (x:Rf):(w.more x).ok:=by
  refine ⟨by simp [Rw.more],?_⟩
  simp only [Rw.more]
  cases w.j <;> simp
theorem Rw.adds_snoc (w:Rw) (xs:List Rf) (x:Rf):w.adds (xs ++ [x]) = (w.adds xs).more x:=by simp [Rw.adds]
theorem Rw.adds_ok {w:Rw} (h:w.ok) (xs:List Rf):(w.adds xs).ok:=by
  rcases List.eq_nil_or_concat xs with rfl | ⟨p,y,rfl⟩
  · exact h
  · rw [List.concat_eq_append,Rw.adds_snoc]; exact Rw.more_ok _ _
theorem Rw.rowR {n:Nat} {w:Rw} (h:w.ok):RowR n (w.row n) w.l w.X:=by
  unfold Rw.ok at h
  unfold Rw.row
  cases hj:w.j with
  | none => rw [hj] at h; exact .inl ⟨rfl,h⟩
  | some j => rw [hj] at h; exact .inr ⟨j,rfl,h.1,h.2⟩
theorem t_addS (f:Fi) (w:Rw) (kind:Int) (ns:List Int) (B T:List Box) (L:List Nat) (c:Nat) (hn:w.l.length + ns.length ≤ 1000000) (hr:w.ok) :
    Spec Tryz.prog 44 [.box B.length 0,.int .i64 kind,.slice .none (intCells ns)] ⟨B ++ .cells (Ls.mk f (w.row (B.length + (T.length + 1)))).cells :: (T ++ w.X),L,c⟩ (.tup [])
      ⟨B ++ .cells (Ls.mk f ((w.adds (ns.map (mkR f kind))).row (B.length + (T.length + 1)))).cells :: (T ++ (w.adds (ns.map (mkR f kind))).X),L,c⟩:=by
  refine SpecQ.introA [] Tryz.func44 rfl (by decide) hmix (by kernel_rfl) [] 37 rfl rfl ?_
  simp only [vqM,vt73,Tryz.f44,Nat.reduceAdd,Nat.reduceSub,Nat.reduceMul,Nat.reduceLeDiff,Nat.reduceEqDiff,Nat.reduceBEq,reduceCtorEq,intCells_len]
  refine awN_keep [0,1,8,9,10] ?_
  simp only [vke,Nat.reduceBEq,Nat.reduceAdd]
  refine awN_forR hmix ns.length (fun k e s => e = [.box B.length 0,.int .i64 kind,.junk,.junk,.junk,.junk,.junk,.junk,.slice .none (intCells ns),.int .i64 ns.length,.int .i64 (k:Int),.junk,.junk,.junk,.junk,.junk,.junk,.junk,.junk,.junk,.junk,.junk,.junk,.junk,.junk,.junk,.junk,.junk,.junk,.junk,.junk,.junk,.junk,.junk,.junk,.junk,.junk]∧s = ⟨B ++ .cells (Ls.mk f ((w.adds ((ns.take k).map (mkR f kind))).row (B.length + (T.length + 1)))).cells :: (T ++ (w.adds ((ns.take k).map (mkR f kind))).X),L,c⟩) ?_ ?_ 0 _ _ (Nat.zero_le _) ⟨rfl,rfl⟩
  · rintro k e s hk ⟨rfl,rfl⟩ ih
    have hg:=intAtG hk
    have hklt:((k:Int) < (ns.length:Int)) = True:=by simp; exact hk
    have htk:(ns.take (k + 1)).map (mkR f kind) = (ns.take k).map (mkR f kind) ++ [mkR f kind ns[k]]:=by rw [List.take_add_one,List.getElem?_eq_getElem hk,List.map_append]; rfl
    have hll:(w.adds ((ns.take k).map (mkR f kind))).l.length < 1000000:=by rw [Rw.adds_l]; simp; omega
    have hok:=Rw.adds_ok hr ((ns.take k).map (mkR f kind))
    rw [htk,Rw.adds_snoc] at ih
    generalize w.adds ((ns.take k).map (mkR f kind)) = w1 at hll hok ih
    obtain ⟨j,X,l1⟩:=w1
    cases j with
    | none =>
      have hnil:l1 = []:=hok
      simp only [Rw.row]
      simp only [vqM,vt73,Nat.reduceAdd,Nat.reduceSub,Nat.reduceMul,Nat.reduceLeDiff,Nat.reduceEqDiff,Nat.reduceBEq,reduceCtorEq,vsLs,vsFi,intCells_len,hklt,decide_true,natle0,Int.toNat_natCast,hg,Ls.drop4,Ls.fold]
      rw [wrap_succ (by omega)]
      refine awN_keep [0,1,8,9,10] ?_
      simp only [vke,Nat.reduceBEq,Nat.reduceAdd]
      refine ih _ _ ⟨rfl,?_⟩
      subst hnil
      simp [Rw.row,Rw.more,rfs,mkR,Rf.cells,Nat.add_assoc,Nat.add_comm,Nat.add_left_comm]
    | some j =>
      obtain ⟨hne,hX⟩:=hok
      simp only at hX hne hll
      have hb:(B ++ Box.cells (Ls.mk f (.row (B.length + (T.length + 1) + j) 0 l1.length 4)).cells :: (T ++ X))[B.length + (T.length + 1) + j]? = some (.cells (rfs l1)):=by
        rw [List.getElem?_append_right (by omega),show B.length + (T.length + 1) + j - B.length = (T.length + j) + 1 from by omega,List.getElem?_cons_succ,List.getElem?_append_right (by omega),Nat.add_sub_cancel_left,hX]
      have hset:(B ++ Box.cells (Ls.mk f (.row (B.length + (T.length + 1) + j) 0 l1.length 4)).cells :: (T ++ X)).set (B.length + (T.length + 1) + j) .dead = B ++ Box.cells (Ls.mk f (.row (B.length + (T.length + 1) + j) 0 l1.length 4)).cells :: (T ++ X.set j .dead):=by
        rw [List.set_append_right _ _ (by omega),show B.length + (T.length + 1) + j - B.length = (T.length + j) + 1 from by omega,List.set_cons_succ,List.set_append_right _ _ (by omega),Nat.add_sub_cancel_left]
      have g1:((rfs l1).length = l1.length * 4) = True:=eq_true (rfs_len _)
      have g2:(l1.length + 1 ≤ 1000000) = True:=eq_true (by omega)
      simp only [Rw.row]
      simp only [vqM,vt73,Nat.reduceAdd,Nat.reduceSub,Nat.reduceMul,Nat.reduceLeDiff,Nat.reduceEqDiff,Nat.reduceBEq,reduceCtorEq,vsLs,vsFi,intCells_len,hklt,decide_true,natle0,Int.toNat_natCast,hg,hb,g1,g2,hset,Ls.drop4,Ls.fold]
      rw [wrap_succ (by omega)]
      refine awN_keep [0,1,8,9,10] ?_
      simp only [vke,Nat.reduceBEq,Nat.reduceAdd]
      refine ih _ _ ⟨rfl,?_⟩
      simp [Rw.row,Rw.more,rfs,mkR,Rf.cells,Nat.add_assoc,Nat.add_comm,Nat.add_left_comm]
  · rintro e s ⟨rfl,rfl⟩
    have hklt:((ns.length:Int) < (ns.length:Int)) = False:=by simp
    simp only [vqM,vt73,Nat.reduceAdd,Nat.reduceSub,Nat.reduceMul,Nat.reduceLeDiff,Nat.reduceEqDiff,Nat.reduceBEq,reduceCtorEq,hklt,decide_false]
    refine retA (.inl rfl) (r:=.tup []) rfl ⟨rfl,by rw [List.take_length]⟩
theorem RowR.toW {n:Nat} {row:D} {l:List Rf} {X:List Box} (h:RowR n row l X):∃ w:Rw,w.ok∧w.row n = row∧w.l = l∧w.X = X:=by
  rcases h with ⟨rfl,rfl⟩ | ⟨j,rfl,h1,h2⟩
  · exact ⟨⟨none,X,[]⟩,rfl,rfl,rfl,rfl⟩
  · exact ⟨⟨some j,X,l⟩,⟨h1,h2⟩,rfl,rfl,rfl⟩
theorem t_add (f:Fi) (row:D) (l:List Rf) (kind:Int) (ns:List Int) (B T X:List Box) (L:List Nat) (c:Nat) (hn:l.length + ns.length ≤ 1000000) (hr:RowR (B.length + (T.length + 1)) row l X) :
    SpecQ Tryz.prog 44 [.box B.length 0,.int .i64 kind,.slice .none (intCells ns)] ⟨B ++ .cells (Ls.mk f row).cells :: (T ++ X),L,c⟩ fun r s => r = .tup [] ∧
      ∃ row' X',s = ⟨B ++ .cells (Ls.mk f row').cells :: (T ++ X'),L,c⟩∧RowR (B.length + (T.length + 1)) row' (l ++ ns.map (mkR f kind)) X':=by
  obtain ⟨w,h1,rfl,rfl,rfl⟩:=hr.toW
  refine (t_addS f w kind ns B T L c hn h1).mono ?_
  rintro r s ⟨rfl,rfl⟩
  refine ⟨rfl,_,_,rfl,?_⟩
  have:=Rw.rowR (n:=B.length + (T.length + 1)) (Rw.adds_ok h1 (ns.map (mkR f kind)))
  rwa [Rw.adds_l] at this
theorem RowR.shift {n k:Nat} {row:D} {l:List Rf} {A X:List Box} (h:RowR (n + k) row l X) (hA:A.length = k):RowR n row l (A ++ X):=by
  rcases h with ⟨h1,h2⟩ | ⟨j,h1,h2,h3⟩
  · exact .inl ⟨h1,h2⟩
  · refine .inr ⟨k + j,by rw [h1,Nat.add_assoc],h2,?_⟩
    rw [List.getElem?_append_right (by omega),hA,Nat.add_sub_cancel_left]; exact h3
theorem numsS_len (n:Int):(numsS n).length = n.toNat:=by simp [numsS]
def endL (p:Pg) (d:Df) (f:Fi):List Rf :=
  if f.kind = 3 then (numsS d.refs).map (mkR f 3) else if f.kind = 6 then (numsS p.d.locks).map (mkR f 4) else if f.kind = 9 then [mkR f 6 0] else []
def AtI (f:Fi) (z:Box) (B:List Box) (L:List Nat) (c:Nat) (l:List Rf):D→St→Prop:=fun r s => r = .tup []∧∃ row X,s = ⟨B ++ .cells (Ls.mk f row).cells :: z :: X,L,c⟩∧RowR (B.length + 2) row l X
theorem t_atEnd (p:Pg) (d:Df) (f:Fi) (z:Box) (B:List Box) (L:List Nat) (c:Nat) (h1:d.refs ≤ 1000000) (h2:p.d.locks ≤ 1000000) :
    SpecQ Tryz.prog 28 [.box B.length 0,.agg p.cells,.agg d.cells] ⟨B ++ [.cells (Ls.mk f .row0).cells,z],L,c⟩ (AtI f z B L c (endL p d f)):=by
  refine SpecQ.introA [] Tryz.func28 rfl (by decide) hmix (by kernel_rfl) [] 31 rfl rfl ?_
  simp only [vqM,vt74,Tryz.f28,Nat.reduceAdd,Nat.reduceSub,Nat.reduceMul,Nat.reduceLeDiff,Nat.reduceEqDiff,Nat.reduceBEq,reduceCtorEq,vsLs,vsFi]
  have hadd:=fun kind ns (h:ns.length ≤ 1000000) => t_add f .row0 [] kind ns B [z,.cells p.cells,.cells d.cells] [] L c (by simpa using h) (.inl ⟨rfl,rfl⟩)
  have hend:∀ (row:D) (l:List Rf) (X':List Box),RowR (B.length + ([z,.cells p.cells,.cells d.cells].length + 1)) row ([] ++ l) X'→RowR (B.length + 2) row l ([.cells p.cells,.cells d.cells] ++ X'):=fun row l X' h => RowR.shift (k:=2) (by simpa using h) rfl
  refine ifI_intro (fun hc => ?_) (fun hc => ?_)
  · have hk:f.kind = 3:=of_decide_eq_true hc
    have hl:endL p d f = (numsS d.refs).map (mkR f 3):=by rw [endL,if_pos hk]
    simp only [vqM,vt74,Nat.reduceAdd,Nat.reduceSub,Nat.reduceMul,Nat.reduceLeDiff,Nat.reduceEqDiff,Nat.reduceBEq,reduceCtorEq,vsLs,vsFi]
    refine callI_spec (t_numbers _ h1 _) ?_
    simp only [vqM,vt74,Nat.reduceAdd,Nat.reduceSub,Nat.reduceMul,Nat.reduceLeDiff,Nat.reduceEqDiff,Nat.reduceBEq,reduceCtorEq,vsLs,vsFi]
    refine callI_specQ (hadd _ _ (by rw [numsS_len]; omega)) ?_
    rintro r s ⟨rfl,row,X,rfl,hr⟩
    simp only [vqM,vt74,Nat.reduceAdd,Nat.reduceSub,Nat.reduceMul,Nat.reduceLeDiff,Nat.reduceEqDiff,Nat.reduceBEq,reduceCtorEq,vsLs,vsFi]
    rw [hl]
    refine retA (.inl rfl) (r:=.tup []) rfl ⟨rfl,row,_,rfl,hend _ _ _ hr⟩
  have hk:¬ f.kind = 3:=of_decide_eq_false hc
  clear hc
  simp only [vqM,vt74,Nat.reduceAdd,Nat.reduceSub,Nat.reduceMul,Nat.reduceLeDiff,Nat.reduceEqDiff,Nat.reduceBEq,reduceCtorEq,vsLs,vsFi]
  refine ifI_intro (fun hc => ?_) (fun hc => ?_)
  · have hk2:f.kind = 6:=of_decide_eq_true hc
    have hl:endL p d f = (numsS p.d.locks).map (mkR f 4):=by rw [endL,if_neg hk,if_pos hk2]
    simp only [vqM,vt74,Nat.reduceAdd,Nat.reduceSub,Nat.reduceMul,Nat.reduceLeDiff,Nat.reduceEqDiff,Nat.reduceBEq,reduceCtorEq,vsLs,vsFi]
    refine callI_spec (t_numbers _ h2 _) ?_
    simp only [vqM,vt74,Nat.reduceAdd,Nat.reduceSub,Nat.reduceMul,Nat.reduceLeDiff,Nat.reduceEqDiff,Nat.reduceBEq,reduceCtorEq,vsLs,vsFi]
    refine callI_specQ (hadd _ _ (by rw [numsS_len]; omega)) ?_
    rintro r s ⟨rfl,row,X,rfl,hr⟩
    simp only [vqM,vt74,Nat.reduceAdd,Nat.reduceSub,Nat.reduceMul,Nat.reduceLeDiff,Nat.reduceEqDiff,Nat.reduceBEq,reduceCtorEq,vsLs,vsFi]
    rw [hl]
    refine retA (.inl rfl) (r:=.tup []) rfl ⟨rfl,row,_,rfl,hend _ _ _ hr⟩
  have hk2:¬ f.kind = 6:=of_decide_eq_false hc
  clear hc
  simp only [vqM,vt74,Nat.reduceAdd,Nat.reduceSub,Nat.reduceMul,Nat.reduceLeDiff,Nat.reduceEqDiff,Nat.reduceBEq,reduceCtorEq,vsLs,vsFi]
  refine ifI_intro (fun hc => ?_) (fun hc => ?_)
  · have hk3:f.kind = 9:=of_decide_eq_true hc
    have hl:endL p d f = [mkR f 6 0]:=by rw [endL,if_neg hk,if_neg hk2,if_pos hk3]
    simp only [vqM,vt74,Nat.reduceAdd,Nat.reduceSub,Nat.reduceMul,Nat.reduceLeDiff,Nat.reduceEqDiff,Nat.reduceBEq,reduceCtorEq,vsLs,vsFi]
    refine callI_specQ (hadd 6 [0] (by simp)) ?_
    rintro r s ⟨rfl,row,X,rfl,hr⟩
    simp only [vqM,vt74,Nat.reduceAdd,Nat.reduceSub,Nat.reduceMul,Nat.reduceLeDiff,Nat.reduceEqDiff,Nat.reduceBEq,reduceCtorEq,vsLs,vsFi]
    rw [hl]
    refine retA (.inl rfl) (r:=.tup []) rfl ⟨rfl,row,_,rfl,hend _ _ _ hr⟩
  · have hk3:¬ f.kind = 9:=of_decide_eq_false hc
    have hl:endL p d f = []:=by rw [endL,if_neg hk,if_neg hk2,if_neg hk3]
    simp only [vqM,vt74,Nat.reduceAdd,Nat.reduceSub,Nat.reduceMul,Nat.reduceLeDiff,Nat.reduceEqDiff,Nat.reduceBEq,reduceCtorEq,vsLs,vsFi]
    rw [hl]
    refine retA (.inl rfl) (r:=.tup []) rfl ⟨rfl,.row0,_,rfl,.inl ⟨rfl,rfl⟩⟩
end Go.V

namespace Go.V
open Go.Proofs
set_option maxRecDepth 20000
set_option maxHeartbeats 2000000

theorem WRel.weakCell {w:World} {g:G} {s:St} (h:WRel w g s) {b:Nat} {d d':D} (hb:s.boxes[b]? = some (.cells [d])) (hd:weakD d d'):WRel w g { s with boxes:=s.boxes.set b (.cells [d']) }:=by
  have hlt:=(List.getElem?_eq_some_iff.1 hb).1
  have hlv:∀ j,Live1 { s with boxes:=s.boxes.set b (.cells [d']) } j→Live1 s j:=by
    rintro j ⟨bx,h1,h2⟩
    by_cases e:j = b
    · subst e; exact ⟨_,hb,by simp⟩
    · simp only at h1; rw [List.getElem?_set_ne (by omega)] at h1; exact ⟨bx,h1,h2⟩
  refine { os:=h.os,tape:=h.tape,out:=h.out,fz:=h.fz,n:=h.n,old:=h.old,m:=h.m,box:=?_,inj:=fun i j c h1 h2 l1 l2 => h.inj i j c h1 h2 (hlv i l1) (hlv j l2),dom:=fun j c hj => by have:=h.dom j c hj; simpa using this,live:=h.live,uniq:=h.uniq,ldom:=h.ldom,o:=h.o,nd:=h.nd,sz:=h.sz }
  intro j bx hj
  by_cases e:j = b
  · subst e
    simp only at hj
    rw [List.getElem?_set_self hlt] at hj; cases hj
    obtain ⟨c,arr,T,fr,h1,h2,h3,h4,h5⟩:=h.box j _ hb
    refine ⟨c,arr,T,fr,h1,h2,h3,fun i q1 q2 => ?_,h5⟩
    have:=h4 i q1 q2
    simp at q1; subst q1
    exact ⟨hd _ _ this.1,this.2⟩
  · simp only at hj; rw [List.getElem?_set_ne (by omega)] at hj; exact h.box j bx hj
theorem gh_cell (e:List D) (s:St) {b:Nat} {d d':D} (hb:s.boxes[b]? = some (.cells [d])) (hd:weakD d d'):Gh e s e { s with boxes:=s.boxes.set b (.cells [d']) }:=fun O0 a w g h => ⟨g,.refl g,h.le (.refl g) h.env (h.wr.weakCell hb hd)⟩
theorem range_allY {X:Draws} {f:Operand} {ps:List Tmp} {asg bo:Code} {Q:QC} {e:List D} {B:List Box} {L:List Nat} {n:Nat} (b1 b2:Nat) (l:List Sm) (d:Int) (I:Nat→List Box→List Nat→Nat→List Box→Pt→Prop)
    (hf:val e f = .func (.func 70) [] [.box b1 0,.box b2 0]) (h1:B[b1]? = some (.cells [.slice .none (Sm.encs l)])) (h2:B[b2]? = some (.cells [.int .i64 d]))
    (hI0:I 0 B L n [] (fun _ _ => False))
    (step:drawsOk X asg = true→drawsOk X bo = true→∀ k p C L c Y Pr W,(flatL d l)[k]? = some p→C.length = B.length→I k C L c Y Pr→Prs Pr ⟨C ++ .loop ps asg bo e .ready none :: Y,L,c⟩ →
      YSemQ Tryz.prog B.length [.agg p.cells] ⟨C ++ .loop ps asg bo e .ready none :: (Y ++ W),L,c⟩ fun r s1 => r = .bool true∧∃ C' L' c' Y',C'.length = B.length∧s1 = ⟨C' ++ .loop ps asg bo e .ready none :: Y',L',c'⟩ ∧
        I (k + 1) C' L' c' Y' (ext Pr ⟨C ++ .loop ps asg bo e .ready none :: Y,L,c⟩ W)∧Prs (ext Pr ⟨C ++ .loop ps asg bo e .ready none :: Y,L,c⟩ W) s1)
    (hend:∀ C L c Y Pr Y2,C.length = B.length→I (flatL d l).length C L c Y Pr→@qI .normal e ⟨C ++ .dead :: (Y ++ Y2),L,c⟩ Q):@AWNI X none Tryz.prog (.rangeFunc f ps.toArray asg bo) e ⟨B,L,n⟩ Q:=by
  have hbx:∀ (C:List Box) (x:Box) (Y:List Box),C.length = B.length→(C ++ x :: Y)[B.length]? = some x:=fun C x Y h => by rw [← h,box_at0]; rfl
  refine range_all b1 b2 l d (fun q Pr s => q = true∧∃ C L c Y Pr0,C.length = B.length∧I (flatL d l).length C L c Y Pr0∧∃ Y2,s = ⟨C ++ .loop ps asg bo e .ready none :: (Y ++ Y2),L,c⟩) hf h1 h2 ?_ (fun q1 q2 => ?_) ?_
  · rintro b Pr s Y ⟨rfl,C,L,c,Y0,Pr0,hl,hi,Y2,rfl⟩
    exact ⟨rfl,C,L,c,Y0,Pr0,hl,hi,Y2 ++ Y,by simp⟩
  · refine Yw_inv _ (fun k Pr s => ∃ C L c Y,C.length = B.length∧I k C L c Y Pr∧s = ⟨C ++ .loop ps asg bo e .ready none :: Y,L,c⟩) ?_ ?_ _ _ (fun _ _ h => h.elim) ⟨B,L,n,[],rfl,hI0,rfl⟩
    · rintro Pr s _ ⟨C,L,c,Y,hl,hi,rfl⟩; exact ⟨rfl,C,L,c,Y,Pr,hl,hi,[],by simp⟩
    · rintro k p Pr s W hk hP ⟨C,L,c,Y,hlC,hIk,rfl⟩
      refine CallVQ.mono (show CallVQ _ (.yield B.length) _ _ _ from (by simpa only [CallVQ,List.append_assoc,List.cons_append] using step q1 q2 k p C L c Y Pr W hk hlC hIk hP)) ?_
      rintro r s1 ⟨rfl,C',L',c',Y',hl,rfl,hI2,hP2⟩
      exact ⟨hP2,.inl ⟨rfl,C',L',c',Y',hl,hI2,rfl⟩⟩
  · rintro q Pr s1 _ ⟨rfl,C,L,c,Y,Pr0,hl,hi,Y2,rfl⟩
    refine ⟨.ready,none,hbx _ _ _ hl,by simp,?_⟩
    have e1:(C ++ .loop ps asg bo e .ready none :: (Y ++ Y2)).set B.length .dead = C ++ .dead :: (Y ++ Y2):=by rw [← hl,box_set0]; rfl
    show @qI .normal e ⟨(C ++ .loop ps asg bo e .ready none :: (Y ++ Y2)).set B.length .dead,_,_⟩ Q
    rw [e1]
    exact hend C L c Y Pr0 Y2 hl hi
def rawC (l:List Pl):List Int:=(l.filter fun p => decide (p.s.op = 13)).map (·.s.m)
def sortI (l:List Int):List Int:=l.mergeSort (fun a b => decide (a ≤ b))
theorem sortI_of {l l':List Int} (h1:l'.Perm l) (h2:l'.Pairwise (· ≤ ·)):l' = sortI l:=by
  have h3:(sortI l).Pairwise (fun a b => decide (a ≤ b) = true):=List.pairwise_mergeSort (fun a b c h1 h2 => by simp at *; omega) (fun a b => by simp; omega) l
  refine List.Perm.eq_of_pairwise (le:=(· ≤ ·)) (fun a b _ _ h h' => by omega) h2 (h3.imp fun h => by simpa using h) (h1.trans (List.mergeSort_perm l _).symm)
theorem rawC_succ {l:List Pl} {k:Nat} {p:Pl} (h:l[k]? = some p):rawC (l.take (k + 1)) = if p.s.op = 13 then rawC (l.take k) ++ [p.s.m] else rawC (l.take k):=by
  unfold rawC
  rw [List.take_add_one,h,Option.toList_some,List.filter_append,List.map_append]
  by_cases e:p.s.op = 13 <;> simp [e]
theorem rawC_le (l:List Pl) (k:Nat):(rawC (l.take k)).length ≤ (rawC l).length:=by
  unfold rawC
  simp only [List.length_map]
  exact ((List.take_sublist k l).filter _).length_le
def callsS (d:Df):List Int:=compL (sortI (rawC (flatL 1 d.body)))
theorem lap {B Y:List Box} {a b c d x:Box} {t:Nat}:(B ++ a :: b :: c :: d :: x :: Y)[B.length + (t + 1 + 1 + 1 + 1 + 1)]? = Y[t]?:=by
  rw [List.getElem?_append_right (by omega),Nat.add_sub_cancel_left]; rfl
def RowI (n:Nat) (Pr:Pt) (row:D) (l:List Int) (Y:List Box):Prop :=
  (row = .row0∧l = []) ∨ ∃ j,row = .row (n + (j + 1 + 1 + 1 + 1 + 1)) 0 l.length 1∧l ≠ []∧Y[j]? = some (.cells (ints l))∧∀ x,¬ Pr (n + (j + 1 + 1 + 1 + 1 + 1)) x
def CallI (B:List Box) (L:List Nat) (c:Nat) (d:Df) (k:Nat) (C:List Box) (L':List Nat) (c':Nat) (Y:List Box) (Pr:Pt):Prop :=
  L' = L∧c' = c∧(∀ i x,Pr i x→B.length + 5 ≤ i)∧∃ row,C = B ++ [.cells d.cells,.cells [row],.cells [.slice .none (Sm.encs d.body)],.cells [.int .i64 1]]∧RowI B.length Pr row (rawC ((flatL 1 d.body).take k)) Y
theorem ext_in {Pr:Pt} {B Y W:List Box} {a b c d x0:Box} {L:List Nat} {ct i:Nat} {x:Box} (h0:∀ i x,Pr i x→B.length + 5 ≤ i) (hP:Prs Pr ⟨B ++ a :: b :: c :: d :: x0 :: Y,L,ct⟩) (h:ext Pr ⟨B ++ a :: b :: c :: d :: x0 :: Y,L,ct⟩ W i x) :
    ∃ t,i = B.length + (t + 1 + 1 + 1 + 1 + 1)∧(Y ++ W)[t]? = some x:=by
  have hge:B.length + 5 ≤ i:=by
    rcases h with h | ⟨h,_⟩
    · exact h0 i x h
    · simp at h; omega
  have h2:=prs_ext hP W i x h
  refine ⟨i - B.length - 5,by omega,?_⟩
  have e1:i = B.length + ((i - B.length - 5) + 1 + 1 + 1 + 1 + 1):=by omega
  simp only [List.append_assoc,List.cons_append] at h2
  rw [e1,lap] at h2
  exact h2
theorem box_split {B:List Box} {b:Nat} {x:Box} (h:B[b]? = some x):B = B.take b ++ x :: B.drop (b + 1)∧(B.take b).length = b:=by
  obtain ⟨hlt,rfl⟩:=List.getElem?_eq_some_iff.1 h
  exact ⟨by rw [← List.drop_eq_getElem_cons hlt,List.take_append_drop],by simp; omega⟩
theorem box_set_split {B:List Box} {b:Nat} {x y:Box} (h:B[b]? = some x):B.set b y = B.take b ++ y :: B.drop (b + 1):=by
  obtain ⟨hlt,rfl⟩:=List.getElem?_eq_some_iff.1 h
  exact List.set_eq_take_append_cons_drop.trans (by rw [if_pos hlt])
theorem t_SortAt (l:List Int) {b:Nat} {B:List Box} {L:List Nat} {c:Nat} (hb:B[b]? = some (.cells (ints l))) (hn:l.length ≤ 12):SpecQ Tryz.prog 106 [.row b 0 l.length 1] ⟨B,L,c⟩
    fun r s => r = .tup []∧s = ⟨B.set b (.cells (ints (sortI l))),L,c⟩:=by
  obtain ⟨h1,h2⟩:=box_split hb
  have:=t_Sort l (B.take b) (B.drop (b + 1)) L c hn
  rw [← h1,h2] at this
  refine this.mono ?_
  rintro r s ⟨rfl,l',p1,p2,rfl⟩
  rw [box_set_split hb,sortI_of p1 p2]
  exact ⟨rfl,rfl⟩
theorem t_CompactAt (l:List Int) {b:Nat} {B:List Box} {L:List Nat} {c:Nat} (hb:B[b]? = some (.cells (ints l))) (hn0:0 < l.length) (hn:l.length ≤ 1000000):SpecQ Tryz.prog 107 [.row b 0 l.length 1] ⟨B,L,c⟩
    fun r s => ∃ cs,r = .row b 0 (compL l).length 1∧cs.take (compL l).length = ints (compL l)∧s = ⟨B.set b (.cells cs),L,c⟩:=by
  obtain ⟨h1,h2⟩:=box_split hb
  have:=t_Compact l (B.take b) (B.drop (b + 1)) L c hn0 hn
  rw [← h1,h2] at this
  refine this.mono ?_
  rintro r s ⟨cs,rfl,p1,rfl⟩
  exact ⟨cs,rfl,p1,by rw [box_set_split hb]⟩
theorem t_Compact0 (s:St):SpecQ Tryz.prog 107 [.row0] s fun r s' => r = .row0∧s' = s:=by
  have w2:decide ((0:Int) < 2) = true:=by decide
  refine SpecQ.introA [] Tryz.func107 rfl (by decide) hmix (by kernel_rfl) [ResultVar.tmp 2] 61 rfl rfl ?_
  simp only [vqM,vt25,Tryz.f107,Nat.reduceAdd,Nat.reduceSub,Nat.reduceMul,Nat.reduceLeDiff,Nat.reduceEqDiff,Nat.reduceBEq,reduceCtorEq,w2]
  refine retA (.inr rfl) (r:=.row0) ?_ ⟨rfl,rfl⟩
  simp only [vqM,vt25,Nat.reduceAdd,Nat.reduceSub,Nat.reduceMul,Nat.reduceLeDiff,Nat.reduceEqDiff,Nat.reduceBEq,reduceCtorEq]
theorem t_Calls (d:Df) (hN:(rawC (flatL 1 d.body)).length ≤ 12) (s:St):Spec Tryz.prog 67 [.agg d.cells] s (.slice .none (intCells (callsS d))) s:=by
  obtain ⟨B,L,c⟩:=s
  refine SpecQ.freeze (Z:=fun r s => ∃ X L' c',s = ⟨B ++ X,L',c'⟩∧(∀ k ∈ L,k ∈ L')∧c ≤ c'∧((r = .row0∧intCells (callsS d) = []) ∨ ∃ b off n sz cs,r = .row b off n sz∧B.length ≤ b∧(B ++ X)[b]? = some (.cells cs)∧(intCells (callsS d)).flatten = (cs.drop off).take (n * sz)∧(intCells (callsS d)).length = n∧(∀ x ∈ intCells (callsS d),x.length = sz))) ?_ (bd_intSl _) (fun r s h => h)
  refine SpecQ.introA [] Tryz.func67 rfl (by decide) hmix (by kernel_rfl) [ResultVar.tmp 2] 23 rfl rfl ?_
  simp only [vqM,vt48,Tryz.f67,Nat.reduceAdd,Nat.reduceSub,Nat.reduceMul,Nat.reduceLeDiff,Nat.reduceEqDiff,Nat.reduceBEq,reduceCtorEq]
  refine callI_spec (t_all _ _ _ _ _) ?_
  simp only [vqM,vt48,Nat.reduceAdd,Nat.reduceSub,Nat.reduceMul,Nat.reduceLeDiff,Nat.reduceEqDiff,Nat.reduceBEq,reduceCtorEq]
  refine awN_gh (gh_cell _ _ (b:=B.length + 1) (d:=.slice .nil []) (d':=.row0) (by rw [box_at]; rfl) weak_nil) ?_
  simp only [vqM,vt48,Nat.reduceAdd,Nat.reduceSub,Nat.reduceMul,Nat.reduceLeDiff,Nat.reduceEqDiff,Nat.reduceBEq,reduceCtorEq]
  refine range_allY (B.length + 2) (B.length + 2 + 1) d.body 1 (CallI B L c d) ?_ ?_ ?_ ⟨rfl,rfl,fun _ _ h => h.elim,.row0,rfl,.inl ⟨rfl,by simp [rawC]⟩⟩ ?_ ?_
  · rfl
  · rw [box_at]; rfl
  · rw [Nat.add_assoc,box_at]; rfl
  · rintro q1 q2 k p C L1 c1 Y Pr W hk hlC ⟨rfl,rfl,hPr0,row,rfl,hrow⟩ hP
    refine YSemQ.introA hmix q1 q2 (pd:=none) (by rw [← hlC,box_at0]; rfl) (by rfl) fun l => ?_
    clear q1 q2
    simp only [vqM,vt48,Nat.reduceAdd,Nat.reduceSub,Nat.reduceMul,Nat.reduceLeDiff,Nat.reduceEqDiff,Nat.reduceBEq,reduceCtorEq,putArgs,vsPl]
    refine qI_assignA (pd1:=none) (by simp only [vqM,vt48,Nat.reduceAdd,Nat.reduceSub,Nat.reduceMul,Nat.reduceLeDiff,Nat.reduceEqDiff,Nat.reduceBEq,reduceCtorEq]) ?_
    simp only [vqM,vt48,Nat.reduceAdd,Nat.reduceSub,Nat.reduceMul,Nat.reduceLeDiff,Nat.reduceEqDiff,Nat.reduceBEq,reduceCtorEq,vsPl]
    simp only [List.append_assoc,List.cons_append,List.nil_append] at hP
    refine ifI_intro (fun hc => ?_) (fun hc => ?_)
    · have hop:p.s.op = 13:=of_decide_eq_true hc
      have hraw:=rawC_succ hk
      rw [if_pos hop] at hraw
      rcases hrow with ⟨rfl,hl0⟩ | ⟨j,rfl,hl0,hYj,hnp⟩
      · simp only [vqM,vt48,Nat.reduceAdd,Nat.reduceSub,Nat.reduceMul,Nat.reduceLeDiff,Nat.reduceEqDiff,Nat.reduceBEq,reduceCtorEq,vsPl]
        refine roundA_normal (st:=.busy) (pd:=none) (by simp only [vqM,vt48,Nat.reduceAdd,Nat.reduceSub,Nat.reduceMul,Nat.reduceLeDiff,Nat.reduceEqDiff,Nat.reduceBEq,reduceCtorEq]) ?_
        refine ⟨rfl,B ++ ([.cells d.cells,.cells [.row (B.length + (Y.length + (W.length + 1) + 1 + 1 + 1 + 1 + 1)) 0 1 1],.cells [.slice .none (Sm.encs d.body)],.cells [.int .i64 1]]:List Box),_,_,Y ++ (W ++ [.cells p.cells,.cells [.int .i64 p.s.m]]),?_,?_,⟨rfl,rfl,?_,_,rfl,?_⟩,?_⟩
        · simp
        · simp only [vqM,vt48,Nat.reduceAdd,Nat.reduceSub,Nat.reduceMul,Nat.reduceLeDiff,Nat.reduceEqDiff,Nat.reduceBEq,reduceCtorEq]
          try rfl
        · intro i x hx
          obtain ⟨t,rfl,_⟩:=ext_in hPr0 hP hx
          omega
        · rw [hraw,hl0]
          refine .inr ⟨Y.length + (W.length + 1),rfl,by simp,?_,fun x hx => ?_⟩
          · rw [List.getElem?_append_right (by omega),List.getElem?_append_right (by omega)]
            simp [ints,show Y.length + (W.length + 1) - Y.length - W.length = 1 from by omega]
          · obtain ⟨t,he,ht⟩:=ext_in hPr0 hP hx
            have:=(List.getElem?_eq_some_iff.1 ht).1
            simp at this; omega
        · intro i x hx
          obtain ⟨t,rfl,ht⟩:=ext_in hPr0 hP hx
          simp only [vqM,vt48,Nat.reduceAdd,Nat.reduceSub,Nat.reduceMul,Nat.reduceLeDiff,Nat.reduceEqDiff,Nat.reduceBEq,reduceCtorEq]
          rw [← List.append_assoc]
          exact box_lt ht
      · have hYj2:∀ Z,(Y ++ Z)[j]? = some (.cells (ints (rawC ((flatL 1 d.body).take k)))):=fun Z => box_lt hYj
        have hle:=rawC_le (flatL 1 d.body) k
        have g1:((ints (rawC ((flatL 1 d.body).take k))).length = (rawC ((flatL 1 d.body).take k)).length * 1) = True:=by simp [ints]
        have g2:((rawC ((flatL 1 d.body).take k)).length + 1 ≤ 1000000) = True:=by simp; omega
        simp only [vqM,vt48,Nat.reduceAdd,Nat.reduceSub,Nat.reduceMul,Nat.reduceLeDiff,Nat.reduceEqDiff,Nat.reduceBEq,reduceCtorEq,vsPl,hYj2,g1,g2]
        have g3:ints (rawC ((flatL 1 d.body).take k)) ++ [[D.int .i64 p.s.m]].flatten = ints (rawC ((flatL 1 d.body).take (k + 1))):=by rw [hraw]; simp [ints]
        have g4:(rawC ((flatL 1 d.body).take k)).length + 1 = (rawC ((flatL 1 d.body).take (k + 1))).length:=by rw [hraw]; simp
        rw [g3,g4]
        have hjl:=(List.getElem?_eq_some_iff.1 hYj).1
        refine roundA_normal (st:=.busy) (pd:=none) (by simp only [vqM,vt48,Nat.reduceAdd,Nat.reduceSub,Nat.reduceMul,Nat.reduceLeDiff,Nat.reduceEqDiff,Nat.reduceBEq,reduceCtorEq]) ?_
        refine ⟨rfl,B ++ ([.cells d.cells,.cells [.row (B.length + (Y.length + (W.length + 1) + 1 + 1 + 1 + 1 + 1)) 0 (rawC ((flatL 1 d.body).take (k + 1))).length 1],.cells [.slice .none (Sm.encs d.body)],.cells [.int .i64 1]]:List Box),_,_,(Y ++ (W ++ [Box.cells p.cells])).set j .dead ++ [.cells (ints (rawC ((flatL 1 d.body).take (k + 1))))],?_,?_,⟨rfl,rfl,?_,_,rfl,?_⟩,?_⟩
        · simp
        · simp only [vqM,vt48,Nat.reduceAdd,Nat.reduceSub,Nat.reduceMul,Nat.reduceLeDiff,Nat.reduceEqDiff,Nat.reduceBEq,reduceCtorEq]
          try rfl
        · intro i x hx
          obtain ⟨t,rfl,_⟩:=ext_in hPr0 hP hx
          omega
        · refine .inr ⟨Y.length + (W.length + 1),rfl,by rw [hraw]; simp,?_,fun x hx => ?_⟩
          · rw [List.getElem?_append_right (by simp)]
            simp
          · obtain ⟨t,he,ht⟩:=ext_in hPr0 hP hx
            have:=(List.getElem?_eq_some_iff.1 ht).1
            simp at this; omega
        · intro i x hx
          have hne:i ≠ B.length + (j + 1 + 1 + 1 + 1 + 1):=by
            rintro rfl
            rcases hx with hx | ⟨hx,_⟩
            · exact hnp x hx
            · simp at hx; omega
          obtain ⟨t,rfl,ht⟩:=ext_in hPr0 hP hx
          simp only [vqM,vt48,Nat.reduceAdd,Nat.reduceSub,Nat.reduceMul,Nat.reduceLeDiff,Nat.reduceEqDiff,Nat.reduceBEq,reduceCtorEq]
          refine box_lt ?_
          rw [List.getElem?_set_ne (by omega),← List.append_assoc]
          exact box_lt ht
    · have hop:¬ p.s.op = 13:=of_decide_eq_false hc
      have hraw:=rawC_succ hk
      rw [if_neg hop] at hraw
      simp only [vqM,vt48,Nat.reduceAdd,Nat.reduceSub,Nat.reduceMul,Nat.reduceLeDiff,Nat.reduceEqDiff,Nat.reduceBEq,reduceCtorEq,vsPl]
      refine roundA_normal (st:=.busy) (pd:=none) (by simp only [vqM,vt48,Nat.reduceAdd,Nat.reduceSub,Nat.reduceMul,Nat.reduceLeDiff,Nat.reduceEqDiff,Nat.reduceBEq,reduceCtorEq]) ?_
      refine ⟨rfl,B ++ ([.cells d.cells,.cells [row],.cells [.slice .none (Sm.encs d.body)],.cells [.int .i64 1]]:List Box),_,_,Y ++ (W ++ [.cells p.cells]),by simp,?_,⟨rfl,rfl,?_,row,rfl,?_⟩,?_⟩
      · simp only [vqM,vt48,Nat.reduceAdd,Nat.reduceSub,Nat.reduceMul,Nat.reduceLeDiff,Nat.reduceEqDiff,Nat.reduceBEq,reduceCtorEq]
      · intro i x hx
        obtain ⟨t,rfl,_⟩:=ext_in hPr0 hP hx
        omega
      · rw [hraw]
        rcases hrow with ⟨rfl,hl0⟩ | ⟨j,rfl,hl0,hYj,hnp⟩
        · exact .inl ⟨rfl,hl0⟩
        · refine .inr ⟨j,rfl,hl0,box_lt hYj,fun x hx => ?_⟩
          rcases hx with hx | ⟨hx,_⟩
          · exact hnp x hx
          · have:=(List.getElem?_eq_some_iff.1 hYj).1
            simp at hx; omega
      · intro i x hx
        obtain ⟨t,rfl,ht⟩:=ext_in hPr0 hP hx
        simp only [vqM,vt48,Nat.reduceAdd,Nat.reduceSub,Nat.reduceMul,Nat.reduceLeDiff,Nat.reduceEqDiff,Nat.reduceBEq,reduceCtorEq]
        rw [← List.append_assoc]
        exact box_lt ht
  · rintro C L1 c1 Y Pr Y2 - ⟨rfl,rfl,-,row,rfl,hrow⟩
    rw [List.take_length] at hrow
    rcases hrow with ⟨rfl,hl0⟩ | ⟨j,rfl,hl0,hYj,-⟩
    · simp only [vqM,vt48,Nat.reduceAdd,Nat.reduceSub,Nat.reduceMul,Nat.reduceLeDiff,Nat.reduceEqDiff,Nat.reduceBEq,reduceCtorEq,vsPl]
      refine callI_spec (t_Sort0 _) ?_
      simp only [vqM,vt48,Nat.reduceAdd,Nat.reduceSub,Nat.reduceMul,Nat.reduceLeDiff,Nat.reduceEqDiff,Nat.reduceBEq,reduceCtorEq]
      refine callI_specQ (t_Compact0 _) ?_
      rintro r s ⟨rfl,rfl⟩
      simp only [vqM,vt48,Nat.reduceAdd,Nat.reduceSub,Nat.reduceMul,Nat.reduceLeDiff,Nat.reduceEqDiff,Nat.reduceBEq,reduceCtorEq]
      refine retA (.inr rfl) (r:=.row0) ?_ ⟨_,_,_,rfl,fun _ h => h,Nat.le_refl _,.inl ⟨rfl,?_⟩⟩
      · simp only [vqM,vt48,Nat.reduceAdd,Nat.reduceSub,Nat.reduceMul,Nat.reduceLeDiff,Nat.reduceEqDiff,Nat.reduceBEq,reduceCtorEq]
      · rw [callsS,hl0]; simp [sortI,compL,intCells]
    · have hYj2:∀ Z,(Y ++ Z)[j]? = some (.cells (ints (rawC (flatL 1 d.body)))):=fun Z => box_lt hYj
      simp only [vqM,vt48,Nat.reduceAdd,Nat.reduceSub,Nat.reduceMul,Nat.reduceLeDiff,Nat.reduceEqDiff,Nat.reduceBEq,reduceCtorEq,vsPl]
      refine callI_specQ (t_SortAt (rawC (flatL 1 d.body)) (by rw [lap]; exact hYj2 Y2) hN) ?_
      rintro r s ⟨rfl,rfl⟩
      simp only [vqM,vt48,Nat.reduceAdd,Nat.reduceSub,Nat.reduceMul,Nat.reduceLeDiff,Nat.reduceEqDiff,Nat.reduceBEq,reduceCtorEq]
      have hle:(sortI (rawC (flatL 1 d.body))).length = (rawC (flatL 1 d.body)).length:=(List.mergeSort_perm _ _).length_eq
      have hpos:0 < (rawC (flatL 1 d.body)).length:=List.length_pos_iff.2 hl0
      have hjl:=(List.getElem?_eq_some_iff.1 hYj).1
      rw [← hle]
      refine callI_specQ (t_CompactAt (sortI (rawC (flatL 1 d.body))) (by rw [lap,List.getElem?_set_self (by simp; omega)]) (by omega) (by omega)) ?_
      rintro r s ⟨cs,rfl,hcs,rfl⟩
      simp only [vqM,vt48,Nat.reduceAdd,Nat.reduceSub,Nat.reduceMul,Nat.reduceLeDiff,Nat.reduceEqDiff,Nat.reduceBEq,reduceCtorEq]
      refine retA (.inr rfl) (r:=.row (B.length + (j + 1 + 1 + 1 + 1 + 1)) 0 (callsS d).length 1) ?_ ⟨_,_,_,rfl,fun _ h => h,Nat.le_refl _,.inr ⟨_,_,_,_,cs,rfl,by omega,?_,?_,by simp [intCells],?_⟩⟩
      · simp only [vqM,vt48,Nat.reduceAdd,Nat.reduceSub,Nat.reduceMul,Nat.reduceLeDiff,Nat.reduceEqDiff,Nat.reduceBEq,reduceCtorEq]
        rfl
      · rw [lap,List.getElem?_set_self (by simp; omega)]
      · rw [Nat.mul_one,List.drop_zero,callsS,hcs]
        generalize compL _ = z
        induction z with
        | nil => rfl
        | cons x z ih => simpa [ints,intCells] using ih
      · intro x hx
        obtain ⟨y,_,rfl⟩:=List.mem_map.1 hx
        rfl
end Go.V

namespace Go.V
open Go.Proofs
set_option maxRecDepth 20000
set_option maxHeartbeats 2000000

theorem mapFind_at {n:Int}:∀ (l:List Int) (i:Nat),n ∈ l→∃ q,mapFind .i64 n (mapB l) i = some (some (i + q,.bool true))∧(mapB l).eraseIdx q = mapB (l.erase n):=by
  intro l
  induction l with
  | nil => intro i h; simp at h
  | cons m l ih =>
    intro i h
    simp only [mapB,List.map_cons,mapFind,if_true]
    by_cases e:n = m
    · subst e; rw [if_pos rfl]; exact ⟨0,rfl,by simp [mapB]⟩
    · rw [if_neg e]
      rcases List.mem_cons.1 h with h | h
      · exact absurd h e
      · obtain ⟨q,h1,h2⟩:=ih (i + 1) h
        refine ⟨q + 1,by simpa [mapB,Nat.add_assoc,Nat.add_comm 1 q] using h1,?_⟩
        rw [List.erase_cons_tail (by simpa using fun h => e h.symm)]
        simp only [List.eraseIdx_cons_succ,List.map_cons]
        rw [show (l.map fun n => (D.int .i64 n,D.bool true)).eraseIdx q = _ from h2]; rfl
def rdy (rem:List Int) (d:Df):Bool:=rem.contains d.id && !(callsS d).any fun i => rem.contains i
def idAt (defs:List Df) (i:Nat):Int:=match defs[i]? with
  | some d => d.id
  | none => 0
def ordS (defs:List Df):Nat→List Int→List Int
  | 0,_ => []
  | n + 1,rem => match defs.findIdx? (rdy rem) with
    | none => []
    | some i => idAt defs i :: ordS defs n (rem.erase (idAt defs i))
def orderS (p:Pg):List Int:=ordS p.defs p.defs.length (p.defs.map (·.id))
theorem t_Order11 (id:Int) (rem:List Int) (b m:Nat) (s:St) (hb:s.boxes[b]? = some (.cells [.map m])) (hm:s.boxes[m]? = some (.map (mapB rem))):Spec Tryz.prog 68 [.int .i64 id,.box b 0] s (.bool (rem.contains id)) s:=by
  obtain ⟨B,L,c⟩:=s
  have hb:B[b]? = some (.cells [.map m]):=hb
  have hm:B[m]? = some (.map (mapB rem)):=hm
  refine Spec.introN [] Tryz.func68 rfl (by decide) hmix (by kernel_rfl) [ResultVar.tmp 3] 7 rfl rfl ?_
  simp only [vqM,vt75,Tryz.f68,Nat.reduceAdd,Nat.reduceSub,Nat.reduceMul,Nat.reduceLeDiff,Nat.reduceEqDiff,Nat.reduceBEq,reduceCtorEq,hb,hm,look_mapB]
  refine ret_here (.inr rfl) ?_ (.bool _)
  simp only [vqM,vt75,Nat.reduceAdd,Nat.reduceSub,Nat.reduceMul,Nat.reduceLeDiff,Nat.reduceEqDiff,Nat.reduceBEq,reduceCtorEq]
theorem t_Order1 (d:Df) (rem:List Int) (b m:Nat) (s:St) (hb:s.boxes[b]? = some (.cells [.map m])) (hm:s.boxes[m]? = some (.map (mapB rem))) (hN:(rawC (flatL 1 d.body)).length ≤ 12):Spec Tryz.prog 65 [.agg d.cells,.box b 0] s (.bool (rdy rem d)) s:=by
  obtain ⟨B,L,c⟩:=s
  have hb2:∀ X,(B ++ X)[b]? = some (.cells [.map m]):=fun X => box_lt hb
  have hm2:∀ X,(B ++ X)[m]? = some (.map (mapB rem)):=fun X => box_lt hm
  refine Spec.introN [] Tryz.func65 rfl (by decide) hmix (by kernel_rfl) [ResultVar.tmp 3] 15 rfl rfl ?_
  simp only [vqM,vt76,Tryz.f65,Nat.reduceAdd,Nat.reduceSub,Nat.reduceMul,Nat.reduceLeDiff,Nat.reduceEqDiff,Nat.reduceBEq,reduceCtorEq,hb2,hm2,look_mapB]
  refine ifI_intro (fun hc => ?_) (fun hc => ?_)
  · simp only [vqM,vt76,Nat.reduceAdd,Nat.reduceSub,Nat.reduceMul,Nat.reduceLeDiff,Nat.reduceEqDiff,Nat.reduceBEq,reduceCtorEq,hb2,hm2,look_mapB,hc]
    refine callI_spec (t_Calls d hN _) ?_
    simp only [vqM,vt76,Nat.reduceAdd,Nat.reduceSub,Nat.reduceMul,Nat.reduceLeDiff,Nat.reduceEqDiff,Nat.reduceBEq,reduceCtorEq,hb2,hm2,look_mapB,hc]
    refine callI_spec (t_conInt (.func (.func 68) [] [.box b 0]) rfl (fun i => rem.contains i) _ _ fun x _ => ?_) ?_
    · refine (show CallVQ _ _ _ _ _ from ?_)
      simp only [CallVQ,List.nil_append,List.cons_append]
      exact t_Order11 x rem b m _ (hb2 _) (hm2 _)
    simp only [vqM,vt76,Nat.reduceAdd,Nat.reduceSub,Nat.reduceMul,Nat.reduceLeDiff,Nat.reduceEqDiff,Nat.reduceBEq,reduceCtorEq,hc]
    refine ret_loc (.inr rfl) ?_ (.bool _) (fun _ h => h) (Nat.le_refl _)
    simp only [vqM,vt76,Nat.reduceAdd,Nat.reduceSub,Nat.reduceMul,Nat.reduceLeDiff,Nat.reduceEqDiff,Nat.reduceBEq,reduceCtorEq]
    simp only [rdy,hc,Bool.true_and,Bool.false_and]
  · simp only [vqM,vt76,Nat.reduceAdd,Nat.reduceSub,Nat.reduceMul,Nat.reduceLeDiff,Nat.reduceEqDiff,Nat.reduceBEq,reduceCtorEq,hc]
    refine ret_loc (.inr rfl) ?_ (.bool _) (fun _ h => h) (Nat.le_refl _)
    simp only [vqM,vt76,Nat.reduceAdd,Nat.reduceSub,Nat.reduceMul,Nat.reduceLeDiff,Nat.reduceEqDiff,Nat.reduceBEq,reduceCtorEq]
    simp only [rdy,hc,Bool.true_and,Bool.false_and]

theorem t_Order (p:Pg) (hnd:(p.defs.map (·.id)).Nodup) (hN:∀ d ∈ p.defs,(rawC (flatL 1 d.body)).length ≤ 12) (hlen:p.defs.length < 1000000) (s:St):Spec Tryz.prog 37 [.agg p.cells] s (.slice .none (intCells (orderS p))) s:=by
  refine Spec.wf fun hW => ?_
  obtain ⟨B,L,c⟩:=s
  have hW0:WfL L c:=⟨hW.nd,hW.lt⟩
  refine Spec.introN [] Tryz.func37 rfl (by decide) hmix (by kernel_rfl) [ResultVar.tmp 2] 45 rfl rfl ?_
  simp only [vqM,vt77,Tryz.f37,Nat.reduceAdd,Nat.reduceSub,Nat.reduceMul,Nat.reduceLeDiff,Nat.reduceEqDiff,Nat.reduceBEq,reduceCtorEq,dfCells_len]
  refine awN_keep [1,3,4,11,12,13] ?_
  simp only [vke,Nat.reduceBEq,Nat.reduceAdd]
  refine awN_forR hmix p.defs.length (fun k e s => e = [.junk,.box B.length 0,.junk,.slice .nil [],.box (B.length + 2) 0,.junk,.junk,.junk,.junk,.junk,.junk,.slice .none (dfCells p.defs),.int .i64 p.defs.length,.int .i64 (k:Int),.junk,.junk,.junk,.junk,.junk,.junk,.junk,.junk,.junk,.junk,.junk,.junk,.junk,.junk,.junk,.junk,.junk,.junk,.junk,.junk,.junk,.junk,.junk,.junk,.junk,.junk,.junk,.junk,.junk,.junk,.junk]∧∃ X,s = ⟨B ++ .cells p.cells :: .map (mapB ((p.defs.map (·.id)).take k)) :: .cells [.map (B.length + 1)] :: X,L,c⟩) ?_ ?_ 0 _ _ (Nat.zero_le _) ⟨rfl,[],rfl⟩
  · rintro k e s hk ⟨rfl,X,rfl⟩ ih
    have hx:p.defs[k]? = some p.defs[k]:=List.getElem?_eq_getElem hk
    have hg:(dfCells p.defs)[k]? = some (p.defs[k].cells):=by simp [dfCells,hx]
    have hklt:((k:Int) < (p.defs.length:Int)) = True:=by simp; exact hk
    have hni:p.defs[k].id ∉ (p.defs.map (·.id)).take k:=by
      intro hm
      obtain ⟨j,hj,he⟩:=List.getElem_of_mem hm
      simp at hj
      have:=(List.getElem_inj (h₀:=by simp; omega) (h₁:=by simpa using hk) hnd (i:=j) (j:=k)).1 (by simpa using he)
      omega
    have hfind:=mapFind_out _ 0 hni
    have hput:=put_mapB hni
    have hnext:(p.defs.map (·.id)).take (k + 1) = (p.defs.map (·.id)).take k ++ [p.defs[k].id]:=by rw [List.take_add_one]; simp [hx]
    simp only [vqM,vt77,Nat.reduceAdd,Nat.reduceSub,Nat.reduceMul,Nat.reduceLeDiff,Nat.reduceEqDiff,Nat.reduceBEq,reduceCtorEq,dfCells_len,hklt,decide_true,natle0,Int.toNat_natCast,hg,hfind,hput]
    rw [wrap_succ (by omega),← hnext]
    refine awN_keep [1,3,4,11,12,13] ?_
    simp only [vke,Nat.reduceBEq,Nat.reduceAdd]
    exact ih _ _ ⟨rfl,_,rfl⟩
  · rintro e s ⟨rfl,X,rfl⟩
    have hklt:((p.defs.length:Int) < (p.defs.length:Int)) = False:=by simp
    rw [List.take_of_length_le (by simp)]
    simp only [vqM,vt77,Nat.reduceAdd,Nat.reduceSub,Nat.reduceMul,Nat.reduceLeDiff,Nat.reduceEqDiff,Nat.reduceBEq,reduceCtorEq,dfCells_len,hklt,decide_false]
    refine awN_keep [1,3,4,7] ?_
    simp only [vke,Nat.reduceBEq,Nat.reduceAdd]
    refine awN_forR hmix p.defs.length (fun k e s => ∃ (rem out:List Int) (o:Own) (L':List Nat) (c':Nat),e = [.junk,.box B.length 0,.junk,.slice o (intCells out),.box (B.length + 2) 0,.junk,.junk,.func (.func 65) [] [.box (B.length + 2) 0],.junk,.junk,.junk,.junk,.junk,.junk,.junk,.junk,.junk,.junk,.junk,.junk,.junk,.junk,.junk,.junk,.junk,.junk,.junk,.junk,.junk,.junk,.junk,.junk,.junk,.junk,.junk,.junk,.junk,.junk,.junk,.junk,.junk,.junk,.junk,.junk,.junk] ∧
      s = ⟨B ++ .cells p.cells :: .map (mapB rem) :: .cells [.map (B.length + 1)] :: X,L',c'⟩∧OutO L c 1 o L' c'∧rem.length = p.defs.length - k∧rem.Nodup∧out.length = k∧out ++ ordS p.defs (p.defs.length - k) rem = orderS p) ?_ ?_ 0 _ _ (Nat.zero_le _) ⟨_,[],_,_,_,rfl,rfl,.start hW0 1,by simp,hnd,rfl,rfl⟩
    · rintro k e s hk ⟨rem,out,o,L',c',rfl,rfl,hO,r1,r2,r3,r4⟩ ih
      simp only [vqM,vt77,Nat.reduceAdd,Nat.reduceSub,Nat.reduceMul,Nat.reduceLeDiff,Nat.reduceEqDiff,Nat.reduceBEq,reduceCtorEq,dfCells_len]
      refine callI_spec (t_idxDf _ (rdy rem) p.defs _ fun d hd => ?_) ?_
      · refine (show CallVQ _ _ _ _ _ from ?_)
        simp only [CallVQ,List.nil_append,List.cons_append]
        exact t_Order1 d rem (B.length + 2) (B.length + 1) _ (by rw [box_at]; rfl) (by rw [box_at]; rfl) (hN d hd)
      have hstep:p.defs.length - k = (p.defs.length - (k + 1)) + 1:=by omega
      rw [hstep,ordS] at r4
      cases hfi:p.defs.findIdx? (rdy rem) with
      | none =>
        have hid:idxP (rdy rem) p.defs = -1:=by simp [idxP,hfi]
        have hlt:decide ((-1:Int) < 0) = true:=by decide
        rw [hfi,List.append_nil] at r4
        simp only [vqM,vt77,Nat.reduceAdd,Nat.reduceSub,Nat.reduceMul,Nat.reduceLeDiff,Nat.reduceEqDiff,Nat.reduceBEq,reduceCtorEq,dfCells_len,hid,hlt]
        refine ret_loc (.inr rfl) ?_ (bd_intSl _) hO.sub hO.le
        simp only [vqM,vt77,Nat.reduceAdd,Nat.reduceSub,Nat.reduceMul,Nat.reduceLeDiff,Nat.reduceEqDiff,Nat.reduceBEq,reduceCtorEq]
        rw [r4]
      | some i =>
        have hid:idxP (rdy rem) p.defs = i:=by simp [idxP,hfi]
        have hlt:decide ((i:Int) < 0) = false:=by simp
        obtain ⟨hil,hri,-⟩:=List.findIdx?_eq_some_iff_getElem.1 hfi
        have hx:p.defs[i]? = some p.defs[i]:=List.getElem?_eq_getElem hil
        have hat:idAt p.defs i = p.defs[i].id:=by simp [idAt,hx]
        have hg:(dfCells p.defs)[i]? = some (p.defs[i].cells):=by simp [dfCells,hx]
        have hmem:p.defs[i].id ∈ rem:=by simp [rdy] at hri; exact hri.1
        obtain ⟨q,hfind,hcut⟩:=mapFind_at rem 0 hmem
        rw [Nat.zero_add] at hfind
        rw [hfi] at r4
        simp only [hat] at r4
        have hof:∀ B',ownFits o (intCells out) 1 ⟨B',L',c'⟩ = true:=fun B' => hO.lv.fits (intCells_each _) B' c'
        have hl1:(out.length + 1 ≤ 1000000) = True:=eq_true (by omega)
        have hcut2:mapCut (some (q,.bool true)) (mapB rem) = mapB (rem.erase p.defs[i].id):=hcut
        generalize p.defs[i] = x at hg hmem hfind hcut2 r4 hx
        simp only [vqM,vt77,Nat.reduceAdd,Nat.reduceSub,Nat.reduceMul,Nat.reduceLeDiff,Nat.reduceEqDiff,Nat.reduceBEq,reduceCtorEq,dfCells_len,hid,hlt,hg,natle0,Int.toNat_natCast,hof,relab_eq,intCells_len,hl1,intCells_app,hfind,hcut2]
        refine awN_keep [1,3,4,7] ?_
        simp only [vke,Nat.reduceBEq,Nat.reduceAdd]
        refine ih _ _ ⟨rem.erase x.id,out ++ [x.id],_,_,_,rfl,rfl,hO.step hW0,?_,r2.erase _,by simp [r3],?_⟩
        · rw [List.length_erase_of_mem hmem]; omega
        · rw [← r4]; simp
    · rintro e s ⟨rem,out,o,L',c',rfl,rfl,hO,r1,r2,r3,r4⟩
      have hrem:rem = []:=List.eq_nil_of_length_eq_zero (by omega)
      subst hrem
      have hfi:p.defs.findIdx? (rdy []) = none:=by rw [List.findIdx?_eq_none_iff]; intro x _; simp [rdy]
      have hid:idxP (rdy []) p.defs = -1:=by simp [idxP,hfi]
      have hlt:decide ((-1:Int) < 0) = true:=by decide
      rw [Nat.sub_self,ordS,List.append_nil] at r4
      simp only [vqM,vt77,Nat.reduceAdd,Nat.reduceSub,Nat.reduceMul,Nat.reduceLeDiff,Nat.reduceEqDiff,Nat.reduceBEq,reduceCtorEq,dfCells_len]
      refine callI_spec (t_idxDf _ (rdy []) p.defs _ fun d hd => ?_) ?_
      · refine (show CallVQ _ _ _ _ _ from ?_)
        simp only [CallVQ,List.nil_append,List.cons_append]
        exact t_Order1 d [] (B.length + 2) (B.length + 1) _ (by rw [box_at]; rfl) (by rw [box_at]; rfl) (hN d hd)
      simp only [vqM,vt77,Nat.reduceAdd,Nat.reduceSub,Nat.reduceMul,Nat.reduceLeDiff,Nat.reduceEqDiff,Nat.reduceBEq,reduceCtorEq,dfCells_len,hid,hlt]
      refine ret_loc (.inr rfl) ?_ (bd_intSl _) hO.sub hO.le
      simp only [vqM,vt77,Nat.reduceAdd,Nat.reduceSub,Nat.reduceMul,Nat.reduceLeDiff,Nat.reduceEqDiff,Nat.reduceBEq,reduceCtorEq]
      rw [r4]
end Go.V

namespace Go.V
open Go.Proofs
set_option maxRecDepth 20000
set_option maxHeartbeats 4000000

def dis:List Int→List Int→Bool
  | [],_ => true
  | x :: l,seen => !seen.contains x && dis l (seen ++ [x])
def scanD (p:Pg):List Df→List Int→Int→Bool
  | [],_,_ => true
  | d :: l,seen,last => !(decide (d.id ≤ last) || !rightB p d) && (dis (sitesS d) seen && scanD p l (seen ++ sitesS d) d.id)
def faultB (p:Pg):Bool:=!declB p.d || !headsB p || decide ((p.defs.length:Int) > 40) || decide ((p.threads.length:Int) > 4)
def noThr (p:Pg) (id:Int):Bool:=!(findS p id).isSome || decide (w64 ((((findS p id).getD Df.zero).params.length:Int) + ((findS p id).getD Df.zero).given.length) > 0)
def programS (p:Pg):Int :=
  if faultB p then 60 else if !scanD p p.defs [] 0 then 60 else if p.threads.any (noThr p) then 60 else if (orderS p).length ≠ p.defs.length then 180 else 0
structure PgOk (p:Pg):Prop where
  nm:∀ d ∈ p.defs,d.name.size ≤ 1000000000
  fl:∀ d ∈ p.defs,(flatL 1 d.body).length < 1000000
  ca:∀ d ∈ p.defs,(rawC (flatL 1 d.body)).length ≤ 12
theorem scanD_lt (p:Pg):∀ (l:List Df) (seen:List Int) (last:Int),scanD p l seen last = true→(l.map (·.id)).Pairwise (· < ·)∧∀ d ∈ l,last < d.id:=by
  intro l
  induction l with
  | nil => intro _ _ _; simp
  | cons d l ih =>
    intro seen last h
    simp only [scanD,Bool.and_eq_true,Bool.not_eq_true',Bool.or_eq_false_iff,decide_eq_false_iff_not] at h
    obtain ⟨h1,h2⟩:=ih _ _ h.2.2
    refine ⟨by simpa using ⟨h2,by simpa using h1⟩,fun x hx => ?_⟩
    rcases List.mem_cons.1 hx with rfl | hx
    · omega
    · have:=h2 x hx; omega
theorem scanD_nodup {p:Pg} (h:scanD p p.defs [] 0 = true):(p.defs.map (·.id)).Nodup:=(scanD_lt p _ _ _ h).1.imp fun h => by omega
theorem dn60:decide ((60:Int) ≠ 0) = true:=by decide
theorem dn00:decide ((0:Int) ≠ 0) = false:=by decide
theorem t_Program (p:Pg) (H:PgOk p) (s:St):Spec Tryz.prog 12 [.agg p.cells] s (.int .i64 (programS p)) s:=by
  obtain ⟨B,L,c⟩:=s
  refine Spec.introN [(1,.cut),(22,.cut),(25,.text [false,true,false,false,false,false,false] [(4,0),(5,0)])] Tryz.func12 rfl (by decide) hmix (by kernel_rfl) [ResultVar.tmp 2] 101 rfl rfl ?_
  simp only [vqM,vt78,Tryz.f12,Nat.reduceAdd,Nat.reduceSub,Nat.reduceMul,Nat.reduceLeDiff,Nat.reduceEqDiff,Nat.reduceBEq,reduceCtorEq,dfCells_len,intCells_len]
  refine seq_joinS hmix [1,33] [.junk,.box B.length 0,.junk,.junk,.junk,.junk,.junk,.junk,.junk,.junk,.junk,.junk,.junk,.junk,.junk,.junk,.junk,.junk,.junk,.junk,.junk,.junk,.junk,.junk,.junk,.junk,.junk,.junk,.junk,.junk,.junk,.junk,.junk,.bool (faultB p),.junk,.junk,.junk,.junk,.junk,.junk,.junk,.junk,.junk,.junk,.junk,.junk,.junk,.junk,.junk,.junk,.junk,.junk,.junk,.junk,.junk,.junk,.junk,.junk,.junk,.junk,.junk,.junk,.junk,.junk,.junk,.junk,.junk,.junk,.junk,.junk,.junk,.junk,.junk,.junk,.junk,.junk,.junk,.junk,.junk,.junk,.junk,.junk,.junk,.junk,.junk,.junk,.junk,.junk,.junk,.junk,.junk,.junk,.junk,.junk,.junk,.junk,.junk,.junk,.junk,.junk,.junk] ?_ ?_
  · simp only [vqM,vt78,Nat.reduceAdd,Nat.reduceSub,Nat.reduceMul,Nat.reduceLeDiff,Nat.reduceEqDiff,Nat.reduceBEq,reduceCtorEq,dfCells_len,intCells_len]
    refine callI_spec (t_Decl _ _) ?_
    cases hd:declB p.d
    · simp only [vqM,vt78,Nat.reduceAdd,Nat.reduceSub,Nat.reduceMul,Nat.reduceLeDiff,Nat.reduceEqDiff,Nat.reduceBEq,reduceCtorEq,dfCells_len,intCells_len,hd,dn60]
      refine meet_intro ⟨?_,rfl⟩
      simp only [vke,Nat.reduceBEq,Nat.reduceAdd]
      simp [faultB,hd]
    · simp only [vqM,vt78,Nat.reduceAdd,Nat.reduceSub,Nat.reduceMul,Nat.reduceLeDiff,Nat.reduceEqDiff,Nat.reduceBEq,reduceCtorEq,dfCells_len,intCells_len,hd,dn00]
      repeat' (first
        | ((with_reducible refine is_call ?_); refine callI_spec (t_rightHeads _ _) ?_; simp only [vqM,vt78,Nat.reduceAdd,Nat.reduceSub,Nat.reduceMul,Nat.reduceLeDiff,Nat.reduceEqDiff,Nat.reduceBEq,reduceCtorEq,dfCells_len,intCells_len,hd,dn00])
        | (with_reducible refine ifI_intro (fun hc => ?_) (fun hc => ?_) <;> simp only [vqM,vt78,hc,Nat.reduceAdd,Nat.reduceSub,Nat.reduceMul,Nat.reduceLeDiff,Nat.reduceEqDiff,Nat.reduceBEq,reduceCtorEq,dfCells_len,intCells_len,hd,dn00])
        | ((with_reducible refine is_q ?_); refine meet_intro ⟨?_,rfl⟩ <;> simp only [vke,Nat.reduceBEq,Nat.reduceAdd] <;> (first | (simp only [faultB,hd, *,Bool.true_and,Bool.false_and,Bool.and_true,Bool.and_false,Bool.true_or,Bool.false_or,Bool.or_true,Bool.or_false,Bool.not_true,Bool.not_false,cond_true,cond_false,if_true,if_false]; done) | (simp_all [faultB,hd]; done) | (simp_all [faultB,hd]; omega))))
  simp only [vqM,vt78,Nat.reduceAdd,Nat.reduceSub,Nat.reduceMul,Nat.reduceLeDiff,Nat.reduceEqDiff,Nat.reduceBEq,reduceCtorEq]
  refine ifI_intro (fun hc => ?_) (fun hc => ?_)
  · simp only [vqM,vt78,Nat.reduceAdd,Nat.reduceSub,Nat.reduceMul,Nat.reduceLeDiff,Nat.reduceEqDiff,Nat.reduceBEq,reduceCtorEq]
    refine ret_loc (.inr rfl) ?_ (.int _ _) (fun _ h => h) (Nat.le_refl _)
    simp only [vqM,vt78,Nat.reduceAdd,Nat.reduceSub,Nat.reduceMul,Nat.reduceLeDiff,Nat.reduceEqDiff,Nat.reduceBEq,reduceCtorEq]
    simp [programS,hc]
  have hdl:p.defs.length ≤ 40:=by
    simp only [faultB,Bool.or_eq_false_iff,decide_eq_false_iff_not] at hc
    omega
  have htl:p.threads.length ≤ 4:=by
    simp only [faultB,Bool.or_eq_false_iff,decide_eq_false_iff_not] at hc
    omega
  have hP1:programS p = if !scanD p p.defs [] 0 then 60 else if p.threads.any (noThr p) then 60 else if (orderS p).length ≠ p.defs.length then 180 else 0:=by rw [programS,hc]; rfl
  simp only [vqM,vt78,Nat.reduceAdd,Nat.reduceSub,Nat.reduceMul,Nat.reduceLeDiff,Nat.reduceEqDiff,Nat.reduceBEq,reduceCtorEq,dfCells_len]
  refine awN_keep [1,3,4,36,37,38] ?_
  simp only [vke,Nat.reduceBEq,Nat.reduceAdd]
  refine awN_forR hmix p.defs.length (fun k e s => ∃ (seen:List Int) (last:Int) (X:List Box),e = [.junk,.box B.length 0,.junk,.map (B.length + 1),.int .i64 last,.junk,.junk,.junk,.junk,.junk,.junk,.junk,.junk,.junk,.junk,.junk,.junk,.junk,.junk,.junk,.junk,.junk,.junk,.junk,.junk,.junk,.junk,.junk,.junk,.junk,.junk,.junk,.junk,.junk,.junk,.junk,.slice .none (dfCells p.defs),.int .i64 p.defs.length,.int .i64 (k:Int),.junk,.junk,.junk,.junk,.junk,.junk,.junk,.junk,.junk,.junk,.junk,.junk,.junk,.junk,.junk,.junk,.junk,.junk,.junk,.junk,.junk,.junk,.junk,.junk,.junk,.junk,.junk,.junk,.junk,.junk,.junk,.junk,.junk,.junk,.junk,.junk,.junk,.junk,.junk,.junk,.junk,.junk,.junk,.junk,.junk,.junk,.junk,.junk,.junk,.junk,.junk,.junk,.junk,.junk,.junk,.junk,.junk,.junk,.junk,.junk,.junk,.junk] ∧
    s = ⟨B ++ .cells p.cells :: .map (mapB seen) :: X,L,c⟩∧scanD p p.defs [] 0 = scanD p (p.defs.drop k) seen last) ?_ ?_ 0 _ _ (Nat.zero_le _) ⟨[],0,[],rfl,rfl,rfl⟩
  · rintro k e s hk ⟨seen,last,X,rfl,rfl,hI⟩ ih
    have hx:p.defs[k]? = some p.defs[k]:=List.getElem?_eq_getElem hk
    have hg:(dfCells p.defs)[k]? = some (p.defs[k].cells):=by simp [dfCells,hx]
    have hklt:((k:Int) < (p.defs.length:Int)) = True:=by simp; exact hk
    have hd:p.defs.drop k = p.defs[k] :: p.defs.drop (k + 1):=List.drop_eq_getElem_cons hk
    rw [hd,scanD] at hI
    have hmem:=List.getElem_mem hk
    have hnm:=H.nm _ hmem
    have hfl:=H.fl _ hmem
    generalize p.defs[k] = d at hx hg hd hI hmem hnm hfl
    simp only [vqM,vt78,Nat.reduceAdd,Nat.reduceSub,Nat.reduceMul,Nat.reduceLeDiff,Nat.reduceEqDiff,Nat.reduceBEq,reduceCtorEq,dfCells_len,hklt,decide_true,natle0,Int.toNat_natCast,hg]
    have hbad:(decide (d.id ≤ last) || !rightB p d) = true→programS p = 60:=fun h => by rw [hP1,hI,h]; rfl
    refine ifI_intro (fun h1 => ?_) (fun h1 => ?_)
    · simp only [vqM,vt78,Nat.reduceAdd,Nat.reduceSub,Nat.reduceMul,Nat.reduceLeDiff,Nat.reduceEqDiff,Nat.reduceBEq,reduceCtorEq,h1]
      refine ret_loc (.inr rfl) ?_ (.int _ _) (fun _ h => h) (Nat.le_refl _)
      simp only [vqM,vt78,Nat.reduceAdd,Nat.reduceSub,Nat.reduceMul,Nat.reduceLeDiff,Nat.reduceEqDiff,Nat.reduceBEq,reduceCtorEq]
      rw [hbad (by rw [h1]; rfl)]
    simp only [vqM,vt78,Nat.reduceAdd,Nat.reduceSub,Nat.reduceMul,Nat.reduceLeDiff,Nat.reduceEqDiff,Nat.reduceBEq,reduceCtorEq,h1]
    refine callI_spec (t_rightDef p d hnm _) ?_
    simp only [vqM,vt78,Nat.reduceAdd,Nat.reduceSub,Nat.reduceMul,Nat.reduceLeDiff,Nat.reduceEqDiff,Nat.reduceBEq,reduceCtorEq,h1]
    refine ifI_intro (fun h2 => ?_) (fun h2 => ?_)
    · simp only [vqM,vt78,Nat.reduceAdd,Nat.reduceSub,Nat.reduceMul,Nat.reduceLeDiff,Nat.reduceEqDiff,Nat.reduceBEq,reduceCtorEq,h2]
      refine ret_loc (.inr rfl) ?_ (.int _ _) (fun _ h => h) (Nat.le_refl _)
      simp only [vqM,vt78,Nat.reduceAdd,Nat.reduceSub,Nat.reduceMul,Nat.reduceLeDiff,Nat.reduceEqDiff,Nat.reduceBEq,reduceCtorEq]
      rw [hbad (by rw [h1,h2]; rfl)]
    rw [h1,h2] at hI
    simp only [Bool.or_false,Bool.not_false,Bool.true_and] at hI
    simp only [vqM,vt78,Nat.reduceAdd,Nat.reduceSub,Nat.reduceMul,Nat.reduceLeDiff,Nat.reduceEqDiff,Nat.reduceBEq,reduceCtorEq,h2]
    refine callI_spec (t_Sites d hfl _) ?_
    simp only [vqM,vt78,Nat.reduceAdd,Nat.reduceSub,Nat.reduceMul,Nat.reduceLeDiff,Nat.reduceEqDiff,Nat.reduceBEq,reduceCtorEq,intCells_len]
    refine awN_keep [1,3,4,36,37,38,55,56,57] ?_
    simp only [vke,Nat.reduceBEq,Nat.reduceAdd]
    refine awN_forR hmix (sitesS d).length (fun j e s => e = [.junk,.box B.length 0,.junk,.map (B.length + 1),.int .i64 d.id,.junk,.junk,.junk,.junk,.junk,.junk,.junk,.junk,.junk,.junk,.junk,.junk,.junk,.junk,.junk,.junk,.junk,.junk,.junk,.junk,.junk,.junk,.junk,.junk,.junk,.junk,.junk,.junk,.junk,.junk,.junk,.slice .none (dfCells p.defs),.int .i64 p.defs.length,.int .i64 (k:Int),.junk,.junk,.junk,.junk,.junk,.junk,.junk,.junk,.junk,.junk,.junk,.junk,.junk,.junk,.junk,.junk,.slice .none (intCells (sitesS d)),.int .i64 (sitesS d).length,.int .i64 (j:Int),.junk,.junk,.junk,.junk,.junk,.junk,.junk,.junk,.junk,.junk,.junk,.junk,.junk,.junk,.junk,.junk,.junk,.junk,.junk,.junk,.junk,.junk,.junk,.junk,.junk,.junk,.junk,.junk,.junk,.junk,.junk,.junk,.junk,.junk,.junk,.junk,.junk,.junk,.junk,.junk,.junk,.junk,.junk] ∧
      s = ⟨B ++ .cells p.cells :: .map (mapB (seen ++ (sitesS d).take j)) :: (X ++ [.cells d.cells]),L,c⟩∧scanD p p.defs [] 0 = (dis ((sitesS d).drop j) (seen ++ (sitesS d).take j) && scanD p (p.defs.drop (k + 1)) (seen ++ sitesS d) d.id)) ?_ ?_ 0 _ _ (Nat.zero_le _) ⟨rfl,by simp,by simpa using hI⟩
    · rintro j e s hj ⟨rfl,rfl,hJ⟩ ih2
      have hy:(sitesS d)[j]? = some (sitesS d)[j]:=List.getElem?_eq_getElem hj
      have hgy:(intCells (sitesS d))[j]? = some [.int .i64 (sitesS d)[j]]:=by simp [intCells,hy]
      have hjlt:((j:Int) < ((sitesS d).length:Int)) = True:=by simp; exact hj
      have hdy:(sitesS d).drop j = (sitesS d)[j] :: (sitesS d).drop (j + 1):=List.drop_eq_getElem_cons hj
      have hty:(sitesS d).take (j + 1) = (sitesS d).take j ++ [(sitesS d)[j]]:=by rw [List.take_add_one,hy]; rfl
      rw [hdy,dis] at hJ
      generalize (sitesS d)[j] = y at hy hgy hdy hty hJ
      simp only [vqM,vt78,Nat.reduceAdd,Nat.reduceSub,Nat.reduceMul,Nat.reduceLeDiff,Nat.reduceEqDiff,Nat.reduceBEq,reduceCtorEq,intCells_len,hjlt,decide_true,natle0,Int.toNat_natCast,hgy,look_mapB]
      refine ifI_intro (fun h3 => ?_) (fun h3 => ?_)
      · simp only [vqM,vt78,Nat.reduceAdd,Nat.reduceSub,Nat.reduceMul,Nat.reduceLeDiff,Nat.reduceEqDiff,Nat.reduceBEq,reduceCtorEq]
        refine ret_loc (.inr rfl) ?_ (.int _ _) (fun _ h => h) (Nat.le_refl _)
        simp only [vqM,vt78,Nat.reduceAdd,Nat.reduceSub,Nat.reduceMul,Nat.reduceLeDiff,Nat.reduceEqDiff,Nat.reduceBEq,reduceCtorEq]
        rw [hP1,hJ,h3]; rfl
      have hni:y ∉ seen ++ (sitesS d).take j:=by simpa using h3
      have hfind:=mapFind_out _ 0 hni
      have hput:=put_mapB hni
      rw [h3] at hJ
      simp only [Bool.not_false,Bool.true_and] at hJ
      simp only [vqM,vt78,Nat.reduceAdd,Nat.reduceSub,Nat.reduceMul,Nat.reduceLeDiff,Nat.reduceEqDiff,Nat.reduceBEq,reduceCtorEq,intCells_len,hfind,hput]
      rw [wrap_succ (by have:=hfl; simp [sitesS,sitesL] at hj; omega),← hty]
      refine awN_keep [1,3,4,36,37,38,55,56,57] ?_
      simp only [vke,Nat.reduceBEq,Nat.reduceAdd]
      exact ih2 _ _ ⟨rfl,rfl,by rw [hJ,hty,List.append_assoc]⟩
    · rintro e s ⟨rfl,rfl,hJ⟩
      have hjlt:(((sitesS d).length:Int) < ((sitesS d).length:Int)) = False:=by simp
      rw [List.drop_length,List.take_length,dis,Bool.true_and] at hJ
      rw [List.take_length]
      simp only [vqM,vt78,Nat.reduceAdd,Nat.reduceSub,Nat.reduceMul,Nat.reduceLeDiff,Nat.reduceEqDiff,Nat.reduceBEq,reduceCtorEq,intCells_len,hjlt,decide_false]
      rw [wrap_succ (by omega)]
      refine awN_keep [1,3,4,36,37,38] ?_
      simp only [vke,Nat.reduceBEq,Nat.reduceAdd]
      exact ih _ _ ⟨_,_,_,rfl,rfl,hJ⟩
  · rintro e s ⟨seen,last,X,rfl,rfl,hI⟩
    have hklt:((p.defs.length:Int) < (p.defs.length:Int)) = False:=by simp
    rw [List.drop_length,scanD] at hI
    have hP2:programS p = if p.threads.any (noThr p) then 60 else if (orderS p).length ≠ p.defs.length then 180 else 0:=by rw [hP1,hI]; rfl
    clear hP1
    simp only [vqM,vt78,Nat.reduceAdd,Nat.reduceSub,Nat.reduceMul,Nat.reduceLeDiff,Nat.reduceEqDiff,Nat.reduceBEq,reduceCtorEq,dfCells_len,intCells_len,hklt,decide_false]
    refine awN_keep [1,69,70,71] ?_
    simp only [vke,Nat.reduceBEq,Nat.reduceAdd]
    refine awN_forR hmix p.threads.length (fun k e s => e = [.junk,.box B.length 0,.junk,.junk,.junk,.junk,.junk,.junk,.junk,.junk,.junk,.junk,.junk,.junk,.junk,.junk,.junk,.junk,.junk,.junk,.junk,.junk,.junk,.junk,.junk,.junk,.junk,.junk,.junk,.junk,.junk,.junk,.junk,.junk,.junk,.junk,.junk,.junk,.junk,.junk,.junk,.junk,.junk,.junk,.junk,.junk,.junk,.junk,.junk,.junk,.junk,.junk,.junk,.junk,.junk,.junk,.junk,.junk,.junk,.junk,.junk,.junk,.junk,.junk,.junk,.junk,.junk,.junk,.junk,.slice .none (intCells p.threads),.int .i64 p.threads.length,.int .i64 (k:Int),.junk,.junk,.junk,.junk,.junk,.junk,.junk,.junk,.junk,.junk,.junk,.junk,.junk,.junk,.junk,.junk,.junk,.junk,.junk,.junk,.junk,.junk,.junk,.junk,.junk,.junk,.junk,.junk,.junk]∧(∃ X,s = ⟨B ++ .cells p.cells :: X,L,c⟩)∧∀ j (h:j < p.threads.length),j < k→noThr p p.threads[j] = false) ?_ ?_ 0 _ _ (Nat.zero_le _) ⟨rfl,⟨_,rfl⟩,by intro j _ h; omega⟩
    · rintro k e s hk ⟨rfl,⟨X,rfl⟩,hJ⟩ ih
      have hx:p.threads[k]? = some p.threads[k]:=List.getElem?_eq_getElem hk
      have hg:(intCells p.threads)[k]? = some [.int .i64 p.threads[k]]:=by simp [intCells,hx]
      have hklt:((k:Int) < (p.threads.length:Int)) = True:=by simp; exact hk
      have hany:noThr p p.threads[k] = true→p.threads.any (noThr p) = true:=fun h => List.any_eq_true.2 ⟨_,List.getElem_mem hk,h⟩
      have hJk:=hJ
      simp only [vqM,vt78,Nat.reduceAdd,Nat.reduceSub,Nat.reduceMul,Nat.reduceLeDiff,Nat.reduceEqDiff,Nat.reduceBEq,reduceCtorEq,intCells_len,hklt,decide_true,natle0,Int.toNat_natCast,hg]
      refine callI_spec (t_Find p p.threads[k] _) ?_
      simp only [vqM,vt78,Nat.reduceAdd,Nat.reduceSub,Nat.reduceMul,Nat.reduceLeDiff,Nat.reduceEqDiff,Nat.reduceBEq,reduceCtorEq,findSD]
      refine seq_joinS hmix [1,69,70,71,92] [.junk,.box B.length 0,.junk,.junk,.junk,.junk,.junk,.junk,.junk,.junk,.junk,.junk,.junk,.junk,.junk,.junk,.junk,.junk,.junk,.junk,.junk,.junk,.junk,.junk,.junk,.junk,.junk,.junk,.junk,.junk,.junk,.junk,.junk,.junk,.junk,.junk,.junk,.junk,.junk,.junk,.junk,.junk,.junk,.junk,.junk,.junk,.junk,.junk,.junk,.junk,.junk,.junk,.junk,.junk,.junk,.junk,.junk,.junk,.junk,.junk,.junk,.junk,.junk,.junk,.junk,.junk,.junk,.junk,.junk,.slice .none (intCells p.threads),.int .i64 p.threads.length,.int .i64 (k:Int),.junk,.junk,.junk,.junk,.junk,.junk,.junk,.junk,.junk,.junk,.junk,.junk,.junk,.junk,.junk,.junk,.junk,.junk,.junk,.junk,.bool (noThr p p.threads[k]),.junk,.junk,.junk,.junk,.junk,.junk,.junk,.junk] ?_ ?_
      · simp only [vqM,vt78,Nat.reduceAdd,Nat.reduceSub,Nat.reduceMul,Nat.reduceLeDiff,Nat.reduceEqDiff,Nat.reduceBEq,reduceCtorEq,rgCells_len]
        repeat' (first
          | (with_reducible refine ifI_intro (fun hc => ?_) (fun hc => ?_) <;> simp only [vqM,vt78,hc,Nat.reduceAdd,Nat.reduceSub,Nat.reduceMul,Nat.reduceLeDiff,Nat.reduceEqDiff,Nat.reduceBEq,reduceCtorEq,rgCells_len,w64_eq])
          | ((with_reducible refine is_q ?_); refine meet_intro ⟨?_,rfl⟩ <;> simp only [vke,Nat.reduceBEq,Nat.reduceAdd] <;> (first | (simp only [noThr, *,Bool.true_and,Bool.false_and,Bool.and_true,Bool.and_false,Bool.true_or,Bool.false_or,Bool.or_true,Bool.or_false,Bool.not_true,Bool.not_false,cond_true,cond_false,if_true,if_false]; done) | (simp_all [noThr]; done) | (simp_all [noThr]; omega))))
      simp only [vqM,vt78,Nat.reduceAdd,Nat.reduceSub,Nat.reduceMul,Nat.reduceLeDiff,Nat.reduceEqDiff,Nat.reduceBEq,reduceCtorEq]
      refine ifI_intro (fun h1 => ?_) (fun h1 => ?_)
      · simp only [vqM,vt78,Nat.reduceAdd,Nat.reduceSub,Nat.reduceMul,Nat.reduceLeDiff,Nat.reduceEqDiff,Nat.reduceBEq,reduceCtorEq]
        refine ret_loc (.inr rfl) ?_ (.int _ _) (fun _ h => h) (Nat.le_refl _)
        simp only [vqM,vt78,Nat.reduceAdd,Nat.reduceSub,Nat.reduceMul,Nat.reduceLeDiff,Nat.reduceEqDiff,Nat.reduceBEq,reduceCtorEq]
        rw [hP2,hany h1]; rfl
      simp only [vqM,vt78,Nat.reduceAdd,Nat.reduceSub,Nat.reduceMul,Nat.reduceLeDiff,Nat.reduceEqDiff,Nat.reduceBEq,reduceCtorEq]
      rw [wrap_succ (by omega)]
      refine awN_keep [1,69,70,71] ?_
      simp only [vke,Nat.reduceBEq,Nat.reduceAdd]
      refine ih _ _ ⟨rfl,⟨_,rfl⟩,fun j hj hjk => ?_⟩
      by_cases e:j = k
      · subst e; exact h1
      · exact hJ j hj (by omega)
    · rintro e s ⟨rfl,⟨X,rfl⟩,hJ⟩
      have hno:p.threads.any (noThr p) = false:=List.any_eq_false.2 fun x hx => by
        obtain ⟨j,hj,rfl⟩:=List.getElem_of_mem hx
        simpa using hJ j hj hj
      have hP3:programS p = if (orderS p).length ≠ p.defs.length then 180 else 0:=by rw [hP2,hno]; rfl
      have hklt:((p.threads.length:Int) < (p.threads.length:Int)) = False:=by simp
      simp only [vqM,vt78,Nat.reduceAdd,Nat.reduceSub,Nat.reduceMul,Nat.reduceLeDiff,Nat.reduceEqDiff,Nat.reduceBEq,reduceCtorEq,intCells_len,dfCells_len,hklt,decide_false]
      refine callI_spec (t_Order p (scanD_nodup hI) H.ca (by omega) _) ?_
      simp only [vqM,vt78,Nat.reduceAdd,Nat.reduceSub,Nat.reduceMul,Nat.reduceLeDiff,Nat.reduceEqDiff,Nat.reduceBEq,reduceCtorEq,intCells_len,dfCells_len,decide_false]
      refine ifI_intro (fun h1 => ?_) (fun h1 => ?_)
      · simp only [vqM,vt78,Nat.reduceAdd,Nat.reduceSub,Nat.reduceMul,Nat.reduceLeDiff,Nat.reduceEqDiff,Nat.reduceBEq,reduceCtorEq]
        refine ret_loc (.inr rfl) ?_ (.int _ _) (fun _ h => h) (Nat.le_refl _)
        simp only [vqM,vt78,Nat.reduceAdd,Nat.reduceSub,Nat.reduceMul,Nat.reduceLeDiff,Nat.reduceEqDiff,Nat.reduceBEq,reduceCtorEq]
        rw [hP3,if_pos (by simp at h1; omega)]
      · simp only [vqM,vt78,Nat.reduceAdd,Nat.reduceSub,Nat.reduceMul,Nat.reduceLeDiff,Nat.reduceEqDiff,Nat.reduceBEq,reduceCtorEq]
        refine ret_loc (.inr rfl) ?_ (.int _ _) (fun _ h => h) (Nat.le_refl _)
        simp only [vqM,vt78,Nat.reduceAdd,Nat.reduceSub,Nat.reduceMul,Nat.reduceLeDiff,Nat.reduceEqDiff,Nat.reduceBEq,reduceCtorEq]
        rw [hP3,if_neg (by simp at h1; omega)]
end Go.V

namespace Go.V
open Go.Proofs
set_option maxRecDepth 20000
set_option maxHeartbeats 4000000

def atL (p:Pg) (y:Sm) (f:Fi):List Rf :=
  if (isB f y 1 [2,3] || isB f y 12 [5,18]) = true then [mkR f 2 0,mkR f 1 0]
  else if isB f y 3 [6,8] = true then [mkR f 3 y.n]
  else if isB f y 4 [16] = true then [mkR f 4 y.m]
  else if isB f y 4 [13] = true then (numsS p.d.locks).map (mkR f 4)
  else if isB f y 10 [23] = true then [mkR f 1 0]
  else if isB f y 11 [13] = true then (numsS y.args.length).map (mkR f 2) ++ [mkR f 1 0]
  else if isB f y 13 [13] = true then [mkR f 5 ((headS p y.m).getD Hd.zero).part]
  else []
theorem t_at (p:Pg) (y:Sm) (f:Fi) (z:Box) (B:List Box) (L:List Nat) (c:Nat) (h1:y.op = 13→y.args.length ≤ 1000) (h2:p.d.locks ≤ 1000000) :
    SpecQ Tryz.prog 27 [.box B.length 0,.agg p.cells,.agg y.cells] ⟨B ++ [.cells (Ls.mk f .row0).cells,z],L,c⟩ (AtI f z B L c (atL p y f)):=by
  refine SpecQ.introA [(11,.text [false,false,false,false,true,true] [(0,1)]),(15,.text [false,false,false,false,true,true] [(0,1)])] Tryz.func27 rfl (by decide) hmix (by kernel_rfl) [] 87 rfl rfl ?_
  simp only [vqM,vt79,Tryz.f27,Nat.reduceAdd,Nat.reduceSub,Nat.reduceMul,Nat.reduceLeDiff,Nat.reduceEqDiff,Nat.reduceBEq,reduceCtorEq,vsLs,vsFi,exCells_len]
  have hadd:=fun kind ns (h:ns.length ≤ 1000000) => t_add f .row0 [] kind ns B [z,.cells [.box B.length 0],.cells p.cells,.cells y.cells] [] L c (by simpa using h) (.inl ⟨rfl,rfl⟩)
  have hend:∀ (row:D) (l:List Rf) (X':List Box),RowR (B.length + ([z,.cells [.box B.length 0],.cells p.cells,.cells y.cells].length + 1)) row ([] ++ l) X'→RowR (B.length + 2) row l ([.cells [.box B.length 0],.cells p.cells,.cells y.cells] ++ X'):=fun row l X' h => RowR.shift (k:=3) (by simpa using h) rfl
  have his:=fun kind ops => t_is f y .row0 kind ops B.length (B.length + 2) (B.length + 4) (B ++ [.cells (Ls.mk f .row0).cells,z,.cells [.box B.length 0],.cells p.cells,.cells y.cells]) L c (by rw [box_at]; rfl) (by rw [box_at0]; rfl) (by rw [box_at]; rfl)
  have haddS:=fun kind ns (h:ns.length ≤ 1000000) => t_addS f ⟨none,[],[]⟩ kind ns B [z,.cells [.box B.length 0],.cells p.cells,.cells y.cells] L c (by simpa using h) rfl
  have hrow:∀ kind ns,RowR (B.length + ([z,.cells [.box B.length 0],.cells p.cells,.cells y.cells].length + 1)) (((Rw.mk none [] []).adds (List.map (mkR f kind) ns)).row (B.length + ([z,.cells [.box B.length 0],.cells p.cells,.cells y.cells].length + 1))) ([] ++ List.map (mkR f kind) ns) ((Rw.mk none [] []).adds (List.map (mkR f kind) ns)).X:=fun kind ns => by
    have:=Rw.rowR (n:=B.length + ([z,.cells [.box B.length 0],.cells p.cells,.cells y.cells].length + 1)) (Rw.adds_ok (w:=⟨none,[],[]⟩) rfl (ns.map (mkR f kind)))
    rwa [Rw.adds_l] at this
  have hadd2:=fun (l:List Rf) kind ns row X (h:l.length ≤ 1000000) (h2:l.length + ns.length ≤ 1000000) hr => t_add f row ([] ++ l) kind ns B [z,.cells [.box B.length 0],.cells p.cells,.cells y.cells] X L c (by simpa using h2) hr
  refine callI_of (his 1 [2,3]) ?_
  simp only [vqM,vt79,Nat.reduceAdd,Nat.reduceSub,Nat.reduceMul,Nat.reduceLeDiff,Nat.reduceEqDiff,Nat.reduceBEq,reduceCtorEq,vsLs,vsFi,exCells_len]
  refine ifI_intro (fun hc => ?_) (fun hc => ?_)
  · have hl:atL p y f = [mkR f 2 0] ++ [mkR f 1 0]:=by rw [atL,hc]; rfl
    simp only [vqM,vt79,Nat.reduceAdd,Nat.reduceSub,Nat.reduceMul,Nat.reduceLeDiff,Nat.reduceEqDiff,Nat.reduceBEq,reduceCtorEq,vsLs,vsFi,exCells_len,hc]
    refine callI_specQ (hadd 2 [0] (by simp)) ?_
    rintro r s ⟨rfl,row,X,rfl,hr⟩
    simp only [vqM,vt79,Nat.reduceAdd,Nat.reduceSub,Nat.reduceMul,Nat.reduceLeDiff,Nat.reduceEqDiff,Nat.reduceBEq,reduceCtorEq,vsLs,vsFi,exCells_len]
    refine callI_specQ (hadd2 _ 1 [0] _ _ (by simp) (by simp) hr) ?_
    rintro r s ⟨rfl,row,X,rfl,hr⟩
    simp only [vqM,vt79,Nat.reduceAdd,Nat.reduceSub,Nat.reduceMul,Nat.reduceLeDiff,Nat.reduceEqDiff,Nat.reduceBEq,reduceCtorEq,vsLs,vsFi,exCells_len]
    rw [hl]
    refine retA (.inl rfl) (r:=.tup []) rfl ⟨rfl,row,_,rfl,hend _ _ _ hr⟩
  have q1:=hc
  clear hc
  simp only [vqM,vt79,Nat.reduceAdd,Nat.reduceSub,Nat.reduceMul,Nat.reduceLeDiff,Nat.reduceEqDiff,Nat.reduceBEq,reduceCtorEq,vsLs,vsFi,exCells_len]
  refine callI_of (his 12 [5,18]) ?_
  simp only [vqM,vt79,Nat.reduceAdd,Nat.reduceSub,Nat.reduceMul,Nat.reduceLeDiff,Nat.reduceEqDiff,Nat.reduceBEq,reduceCtorEq,vsLs,vsFi,exCells_len]
  refine ifI_intro (fun hc => ?_) (fun hc => ?_)
  · have hl:atL p y f = [mkR f 2 0] ++ [mkR f 1 0]:=by rw [atL,q1,hc]; rfl
    simp only [vqM,vt79,Nat.reduceAdd,Nat.reduceSub,Nat.reduceMul,Nat.reduceLeDiff,Nat.reduceEqDiff,Nat.reduceBEq,reduceCtorEq,vsLs,vsFi,exCells_len,hc]
    refine callI_specQ (hadd 2 [0] (by simp)) ?_
    rintro r s ⟨rfl,row,X,rfl,hr⟩
    simp only [vqM,vt79,Nat.reduceAdd,Nat.reduceSub,Nat.reduceMul,Nat.reduceLeDiff,Nat.reduceEqDiff,Nat.reduceBEq,reduceCtorEq,vsLs,vsFi,exCells_len]
    refine callI_specQ (hadd2 _ 1 [0] _ _ (by simp) (by simp) hr) ?_
    rintro r s ⟨rfl,row,X,rfl,hr⟩
    simp only [vqM,vt79,Nat.reduceAdd,Nat.reduceSub,Nat.reduceMul,Nat.reduceLeDiff,Nat.reduceEqDiff,Nat.reduceBEq,reduceCtorEq,vsLs,vsFi,exCells_len]
    rw [hl]
    refine retA (.inl rfl) (r:=.tup []) rfl ⟨rfl,row,_,rfl,hend _ _ _ hr⟩
  have q2:¬ (isB f y 1 [2,3] || isB f y 12 [5,18]) = true:=by rw [q1,hc]; simp
  clear hc
  simp only [vqM,vt79,Nat.reduceAdd,Nat.reduceSub,Nat.reduceMul,Nat.reduceLeDiff,Nat.reduceEqDiff,Nat.reduceBEq,reduceCtorEq,vsLs,vsFi,exCells_len]
  refine callI_of (his 3 [6,8]) ?_
  simp only [vqM,vt79,Nat.reduceAdd,Nat.reduceSub,Nat.reduceMul,Nat.reduceLeDiff,Nat.reduceEqDiff,Nat.reduceBEq,reduceCtorEq,vsLs,vsFi,exCells_len]
  refine ifI_intro (fun hc => ?_) (fun hc => ?_)
  · have hl:atL p y f = [mkR f 3 y.n]:=by rw [atL,if_neg q2,if_pos hc]
    simp only [vqM,vt79,Nat.reduceAdd,Nat.reduceSub,Nat.reduceMul,Nat.reduceLeDiff,Nat.reduceEqDiff,Nat.reduceBEq,reduceCtorEq,vsLs,vsFi,exCells_len]
    refine callI_specQ (hadd 3 [y.n] (by simp)) ?_
    rintro r s ⟨rfl,row,X,rfl,hr⟩
    simp only [vqM,vt79,Nat.reduceAdd,Nat.reduceSub,Nat.reduceMul,Nat.reduceLeDiff,Nat.reduceEqDiff,Nat.reduceBEq,reduceCtorEq,vsLs,vsFi,exCells_len]
    rw [hl]
    refine retA (.inl rfl) (r:=.tup []) rfl ⟨rfl,row,_,rfl,hend _ _ _ hr⟩
  have q3:¬ isB f y 3 [6,8] = true:=by rw [hc]; simp
  clear hc
  simp only [vqM,vt79,Nat.reduceAdd,Nat.reduceSub,Nat.reduceMul,Nat.reduceLeDiff,Nat.reduceEqDiff,Nat.reduceBEq,reduceCtorEq,vsLs,vsFi,exCells_len]
  refine callI_of (his 4 [16]) ?_
  simp only [vqM,vt79,Nat.reduceAdd,Nat.reduceSub,Nat.reduceMul,Nat.reduceLeDiff,Nat.reduceEqDiff,Nat.reduceBEq,reduceCtorEq,vsLs,vsFi,exCells_len]
  refine ifI_intro (fun hc => ?_) (fun hc => ?_)
  · have hl:atL p y f = [mkR f 4 y.m]:=by rw [atL,if_neg q2,if_neg q3,if_pos hc]
    simp only [vqM,vt79,Nat.reduceAdd,Nat.reduceSub,Nat.reduceMul,Nat.reduceLeDiff,Nat.reduceEqDiff,Nat.reduceBEq,reduceCtorEq,vsLs,vsFi,exCells_len]
    refine callI_specQ (hadd 4 [y.m] (by simp)) ?_
    rintro r s ⟨rfl,row,X,rfl,hr⟩
    simp only [vqM,vt79,Nat.reduceAdd,Nat.reduceSub,Nat.reduceMul,Nat.reduceLeDiff,Nat.reduceEqDiff,Nat.reduceBEq,reduceCtorEq,vsLs,vsFi,exCells_len]
    rw [hl]
    refine retA (.inl rfl) (r:=.tup []) rfl ⟨rfl,row,_,rfl,hend _ _ _ hr⟩
  have q4:¬ isB f y 4 [16] = true:=by rw [hc]; simp
  clear hc
  simp only [vqM,vt79,Nat.reduceAdd,Nat.reduceSub,Nat.reduceMul,Nat.reduceLeDiff,Nat.reduceEqDiff,Nat.reduceBEq,reduceCtorEq,vsLs,vsFi,exCells_len]
  refine callI_of (his 4 [13]) ?_
  simp only [vqM,vt79,Nat.reduceAdd,Nat.reduceSub,Nat.reduceMul,Nat.reduceLeDiff,Nat.reduceEqDiff,Nat.reduceBEq,reduceCtorEq,vsLs,vsFi,exCells_len]
  refine ifI_intro (fun hc => ?_) (fun hc => ?_)
  · have hl:atL p y f = (numsS p.d.locks).map (mkR f 4):=by rw [atL,if_neg q2,if_neg q3,if_neg q4,if_pos hc]
    simp only [vqM,vt79,Nat.reduceAdd,Nat.reduceSub,Nat.reduceMul,Nat.reduceLeDiff,Nat.reduceEqDiff,Nat.reduceBEq,reduceCtorEq,vsLs,vsFi,exCells_len]
    refine callI_spec (t_numbers _ h2 _) ?_
    simp only [vqM,vt79,Nat.reduceAdd,Nat.reduceSub,Nat.reduceMul,Nat.reduceLeDiff,Nat.reduceEqDiff,Nat.reduceBEq,reduceCtorEq,vsLs,vsFi,exCells_len]
    refine callI_spec (haddS 4 (numsS p.d.locks) (by rw [numsS_len]; omega)) ?_
    have hr:=hrow 4 (numsS p.d.locks)
    generalize (Rw.mk none [] []).adds ((numsS p.d.locks).map (mkR f 4)) = wx at hr
    generalize wx.X = X at hr
    generalize wx.row _ = row at hr
    simp only [vqM,vt79,Nat.reduceAdd,Nat.reduceSub,Nat.reduceMul,Nat.reduceLeDiff,Nat.reduceEqDiff,Nat.reduceBEq,reduceCtorEq,vsLs,vsFi,exCells_len]
    rw [hl]
    refine retA (.inl rfl) (r:=.tup []) rfl ⟨rfl,row,_,rfl,hend _ _ _ hr⟩
  have q5:¬ isB f y 4 [13] = true:=by rw [hc]; simp
  clear hc
  simp only [vqM,vt79,Nat.reduceAdd,Nat.reduceSub,Nat.reduceMul,Nat.reduceLeDiff,Nat.reduceEqDiff,Nat.reduceBEq,reduceCtorEq,vsLs,vsFi,exCells_len]
  refine callI_of (his 10 [23]) ?_
  simp only [vqM,vt79,Nat.reduceAdd,Nat.reduceSub,Nat.reduceMul,Nat.reduceLeDiff,Nat.reduceEqDiff,Nat.reduceBEq,reduceCtorEq,vsLs,vsFi,exCells_len]
  refine ifI_intro (fun hc => ?_) (fun hc => ?_)
  · have hl:atL p y f = [mkR f 1 0]:=by rw [atL,if_neg q2,if_neg q3,if_neg q4,if_neg q5,if_pos hc]
    simp only [vqM,vt79,Nat.reduceAdd,Nat.reduceSub,Nat.reduceMul,Nat.reduceLeDiff,Nat.reduceEqDiff,Nat.reduceBEq,reduceCtorEq,vsLs,vsFi,exCells_len]
    refine callI_specQ (hadd 1 [0] (by simp)) ?_
    rintro r s ⟨rfl,row,X,rfl,hr⟩
    simp only [vqM,vt79,Nat.reduceAdd,Nat.reduceSub,Nat.reduceMul,Nat.reduceLeDiff,Nat.reduceEqDiff,Nat.reduceBEq,reduceCtorEq,vsLs,vsFi,exCells_len]
    rw [hl]
    refine retA (.inl rfl) (r:=.tup []) rfl ⟨rfl,row,_,rfl,hend _ _ _ hr⟩
  have q6:¬ isB f y 10 [23] = true:=by rw [hc]; simp
  clear hc
  simp only [vqM,vt79,Nat.reduceAdd,Nat.reduceSub,Nat.reduceMul,Nat.reduceLeDiff,Nat.reduceEqDiff,Nat.reduceBEq,reduceCtorEq,vsLs,vsFi,exCells_len]
  refine callI_of (his 11 [13]) ?_
  simp only [vqM,vt79,Nat.reduceAdd,Nat.reduceSub,Nat.reduceMul,Nat.reduceLeDiff,Nat.reduceEqDiff,Nat.reduceBEq,reduceCtorEq,vsLs,vsFi,exCells_len]
  refine ifI_intro (fun hc => ?_) (fun hc => ?_)
  · have hl:atL p y f = (numsS y.args.length).map (mkR f 2) ++ [mkR f 1 0]:=by rw [atL,if_neg q2,if_neg q3,if_neg q4,if_neg q5,if_neg q6,if_pos hc]
    have h1:=h1 (by have hc:=hc; simp only [isB,Bool.and_eq_true,decide_eq_true_eq,List.contains_cons,List.contains_nil,Bool.or_false,beq_iff_eq] at hc; exact hc.2)
    simp only [vqM,vt79,Nat.reduceAdd,Nat.reduceSub,Nat.reduceMul,Nat.reduceLeDiff,Nat.reduceEqDiff,Nat.reduceBEq,reduceCtorEq,vsLs,vsFi,exCells_len]
    refine callI_spec (t_numbers _ (by omega) _) ?_
    simp only [vqM,vt79,Nat.reduceAdd,Nat.reduceSub,Nat.reduceMul,Nat.reduceLeDiff,Nat.reduceEqDiff,Nat.reduceBEq,reduceCtorEq,vsLs,vsFi,exCells_len]
    refine callI_spec (haddS 2 (numsS y.args.length) (by rw [numsS_len]; omega)) ?_
    have hr:=hrow 2 (numsS y.args.length)
    generalize (Rw.mk none [] []).adds ((numsS y.args.length).map (mkR f 2)) = wx at hr
    generalize wx.X = X at hr
    generalize wx.row _ = row at hr
    simp only [vqM,vt79,Nat.reduceAdd,Nat.reduceSub,Nat.reduceMul,Nat.reduceLeDiff,Nat.reduceEqDiff,Nat.reduceBEq,reduceCtorEq,vsLs,vsFi,exCells_len]
    refine callI_specQ (hadd2 _ 1 [0] _ _ (by simp [numsS_len]; omega) (by simp [numsS_len]; omega) hr) ?_
    rintro r s ⟨rfl,row,X,rfl,hr⟩
    simp only [vqM,vt79,Nat.reduceAdd,Nat.reduceSub,Nat.reduceMul,Nat.reduceLeDiff,Nat.reduceEqDiff,Nat.reduceBEq,reduceCtorEq,vsLs,vsFi,exCells_len]
    rw [hl]
    refine retA (.inl rfl) (r:=.tup []) rfl ⟨rfl,row,_,rfl,hend _ _ _ hr⟩
  have q7:¬ isB f y 11 [13] = true:=by rw [hc]; simp
  clear hc
  simp only [vqM,vt79,Nat.reduceAdd,Nat.reduceSub,Nat.reduceMul,Nat.reduceLeDiff,Nat.reduceEqDiff,Nat.reduceBEq,reduceCtorEq,vsLs,vsFi,exCells_len]
  refine callI_of (his 13 [13]) ?_
  simp only [vqM,vt79,Nat.reduceAdd,Nat.reduceSub,Nat.reduceMul,Nat.reduceLeDiff,Nat.reduceEqDiff,Nat.reduceBEq,reduceCtorEq,vsLs,vsFi,exCells_len]
  refine ifI_intro (fun hc => ?_) (fun hc => ?_)
  · have hl:atL p y f = [mkR f 5 ((headS p y.m).getD Hd.zero).part]:=by rw [atL,if_neg q2,if_neg q3,if_neg q4,if_neg q5,if_neg q6,if_neg q7,if_pos hc]
    simp only [vqM,vt79,Nat.reduceAdd,Nat.reduceSub,Nat.reduceMul,Nat.reduceLeDiff,Nat.reduceEqDiff,Nat.reduceBEq,reduceCtorEq,vsLs,vsFi,exCells_len]
    refine callI_spec (t_HeadOf p y.m _) ?_
    simp only [vqM,vt79,Nat.reduceAdd,Nat.reduceSub,Nat.reduceMul,Nat.reduceLeDiff,Nat.reduceEqDiff,Nat.reduceBEq,reduceCtorEq,vsLs,vsFi,exCells_len,headSD]
    refine callI_specQ (t_add f .row0 [] 5 [((headS p y.m).getD Hd.zero).part] B [z,.cells [.box B.length 0],.cells p.cells,.cells y.cells,.cells ((headS p y.m).getD Hd.zero).cells] [] L c (by simp) (.inl ⟨rfl,rfl⟩)) ?_
    rintro r s ⟨rfl,row,X,rfl,hr⟩
    simp only [vqM,vt79,Nat.reduceAdd,Nat.reduceSub,Nat.reduceMul,Nat.reduceLeDiff,Nat.reduceEqDiff,Nat.reduceBEq,reduceCtorEq,vsLs,vsFi,exCells_len]
    rw [hl]
    refine retA (.inl rfl) (r:=.tup []) rfl ⟨rfl,row,[.cells [.box B.length 0],.cells p.cells,.cells y.cells,.cells ((headS p y.m).getD Hd.zero).cells] ++ X,rfl,RowR.shift (k:=4) (by simpa using hr) rfl⟩
  have q8:¬ isB f y 13 [13] = true:=by rw [hc]; simp
  clear hc
  have hl:atL p y f = []:=by rw [atL,if_neg q2,if_neg q3,if_neg q4,if_neg q5,if_neg q6,if_neg q7,if_neg q8]
  simp only [vqM,vt79,Nat.reduceAdd,Nat.reduceSub,Nat.reduceMul,Nat.reduceLeDiff,Nat.reduceEqDiff,Nat.reduceBEq,reduceCtorEq,vsLs,vsFi,exCells_len]
  rw [hl]
  refine retA (.inl rfl) (r:=.tup []) rfl ⟨rfl,.row0,_,rfl,.inl ⟨rfl,rfl⟩⟩
def allL (p:Pg) (d:Df) (f:Fi):List Rf :=
  if (decide (f.df = d.id) && (atS (flatL 1 d.body) f.site).isSome) = true then atL p ((atS (flatL 1 d.body) f.site).getD Sm.zero) f
  else if (decide (f.df = d.id) && decide (f.site = d.site)) = true then endL p d f else []
def sortR (l:List Rf):List Rf:=l.mergeSort (fun a b => decide (keyR a ≤ keyR b))
theorem sortR_of {l l':List Rf} (h1:l'.Perm l) (h2:l'.Pairwise (keyR · ≤ keyR ·)) (hI:∀ a ∈ l,∀ b ∈ l,keyR a = keyR b→a = b):l' = sortR l:=by
  have h3:(sortR l).Pairwise (fun a b => decide (keyR a ≤ keyR b) = true):=List.pairwise_mergeSort (fun a b c h1 h2 => by simp at *; omega) (fun a b => by simp; omega) l
  have h4:=List.mergeSort_perm l (fun a b => decide (keyR a ≤ keyR b))
  refine List.Perm.eq_of_pairwise (le:=(keyR · ≤ keyR ·)) (fun a b ha hb h h' => hI a (h1.mem_iff.1 ha) b (h4.mem_iff.1 hb) (by omega)) h2 (h3.imp fun h => by simpa using h) (h1.trans h4.symm)
theorem keyR_inj {f:Fi} {k1 a1 k2 a2:Int} (h1:GoodR (mkR f k1 a1)) (h2:GoodR (mkR f k2 a2)) (h:keyR (mkR f k1 a1) = keyR (mkR f k2 a2)):mkR f k1 a1 = mkR f k2 a2:=by
  obtain ⟨p1,p2,p3,p4⟩:=h1
  obtain ⟨q1,q2,q3,q4⟩:=h2
  simp only [mkR,keyR] at *
  obtain ⟨s1,s2⟩:=sizeR_in k1
  obtain ⟨s3,s4⟩:=sizeR_in k2
  have e1:k1 = k2:=by omega
  have e2:a1 = a2:=by subst e1; omega
  rw [e1,e2]
def AllMk (f:Fi) (l:List Rf):Prop:=∀ x ∈ l,∃ k a,x = mkR f k a
theorem allMk_map (f:Fi) (k:Int) (l:List Int):AllMk f (l.map (mkR f k)):=fun x hx => by
  obtain ⟨a,_,rfl⟩:=List.mem_map.1 hx; exact ⟨_,_,rfl⟩
theorem allMk_one (f:Fi) (k a:Int):AllMk f [mkR f k a]:=fun x hx => ⟨k,a,by simpa using hx⟩
theorem allMk_app {f:Fi} {l m:List Rf} (h1:AllMk f l) (h2:AllMk f m):AllMk f (l ++ m):=fun x hx => (List.mem_append.1 hx).elim (h1 x) (h2 x)
theorem allMk_nil (f:Fi):AllMk f []:=fun x hx => by simp at hx
theorem atL_mk (p:Pg) (y:Sm) (f:Fi):AllMk f (atL p y f):=by
  unfold atL
  repeat' split
  all_goals first | exact allMk_map _ _ _ | exact allMk_one _ _ _ | exact allMk_nil _ | exact allMk_app (allMk_map _ _ _) (allMk_one _ _ _) | exact allMk_app (l:=[_]) (allMk_one _ _ _) (allMk_one _ _ _)
theorem endL_mk (p:Pg) (d:Df) (f:Fi):AllMk f (endL p d f):=by
  unfold endL
  repeat' split
  all_goals first | exact allMk_map _ _ _ | exact allMk_one _ _ _ | exact allMk_nil _
theorem allL_mk (p:Pg) (d:Df) (f:Fi):AllMk f (allL p d f):=by
  unfold allL
  repeat' split
  all_goals first | exact atL_mk _ _ _ | exact endL_mk _ _ _ | exact allMk_nil _
theorem allL_inj {p:Pg} {d:Df} {f:Fi} (hG:∀ x ∈ allL p d f,GoodR x):∀ a ∈ allL p d f,∀ b ∈ allL p d f,keyR a = keyR b→a = b:=by
  intro a ha b hb h
  have g1:=hG a ha
  have g2:=hG b hb
  obtain ⟨k1,a1,rfl⟩:=allL_mk p d f a ha
  obtain ⟨k2,a2,rfl⟩:=allL_mk p d f b hb
  exact keyR_inj g1 g2 h
theorem t_SortAtR (l:List Rf) {b:Nat} {B:List Box} {L:List Nat} {c:Nat} (hb:B[b]? = some (.cells (rfs l))) (hn:l.length ≤ 12) (hG:∀ x ∈ l,GoodR x) (hI:∀ a ∈ l,∀ b ∈ l,keyR a = keyR b→a = b):SpecQ Tryz.prog 29 [.row b 0 l.length 4,cmpF] ⟨B,L,c⟩
    fun r s => r = .tup []∧s = ⟨B.set b (.cells (rfs (sortR l))),L,c⟩:=by
  obtain ⟨h1,h2⟩:=box_split hb
  have:=t_SortR l (B.take b) (B.drop (b + 1)) L c hn hG
  rw [← h1,h2] at this
  refine this.mono ?_
  rintro r s ⟨rfl,l',p1,p2,rfl⟩
  rw [box_set_split hb,sortR_of p1 p2 hI]
  exact ⟨rfl,rfl⟩
theorem t_All (p:Pg) (d:Df) (f:Fi) (h1:∀ y,atS (flatL 1 d.body) f.site = some y→y.op = 13→y.args.length ≤ 1000) (h2:p.d.locks ≤ 1000000) (h3:d.refs ≤ 1000000) (hn:(allL p d f).length ≤ 12) (hG:∀ x ∈ allL p d f,GoodR x) (s:St) :
    Spec Tryz.prog 8 [.agg p.cells,.agg d.cells,.agg f.cells] s (.slice .none (Rf.encs (sortR (allL p d f)))) s:=by
  obtain ⟨B,L,c⟩:=s
  have hbd:Bd 0 0 (.slice .none (Rf.encs (sortR (allL p d f)))):=bd_slice fun x hx e he => by
    obtain ⟨y,_,rfl⟩:=List.mem_map.1 hx
    simp only [Rf.cells,List.mem_cons,List.not_mem_nil,or_false] at he
    rcases he with rfl | rfl | rfl | rfl <;> exact .int _ _
  refine SpecQ.freeze (Z:=fun r s => ∃ X L' c',s = ⟨B ++ X,L',c'⟩∧(∀ k ∈ L,k ∈ L')∧c ≤ c'∧((r = .row0∧Rf.encs (sortR (allL p d f)) = []) ∨ ∃ b off n sz cs,r = .row b off n sz∧B.length ≤ b∧(B ++ X)[b]? = some (.cells cs)∧(Rf.encs (sortR (allL p d f))).flatten = (cs.drop off).take (n * sz)∧(Rf.encs (sortR (allL p d f))).length = n∧(∀ x ∈ Rf.encs (sortR (allL p d f)),x.length = sz))) ?_ hbd (fun r s h => h)
  refine SpecQ.introA [(1,.cut),(2,.meet)] Tryz.func8 rfl (by decide) hmix (by kernel_rfl) [ResultVar.tmp 6] 57 rfl rfl ?_
  simp only [vqM,vt80,Tryz.f8,Nat.reduceAdd,Nat.reduceSub,Nat.reduceMul,Nat.reduceLeDiff,Nat.reduceEqDiff,Nat.reduceBEq,reduceCtorEq,vsFi,vsLs]
  refine seq_go ?_
  simp only [vqM,vt80,Nat.reduceAdd,Nat.reduceSub,Nat.reduceMul,Nat.reduceLeDiff,Nat.reduceEqDiff,Nat.reduceBEq,reduceCtorEq,vsFi,vsLs,vsK]
  refine awN_ghs ⟨B ++ [.cells p.cells,.cells d.cells,.cells f.cells,.cells (Ls.mk f .row0).cells],L,c⟩ ?_ ?_
  · intro e
    have:=fun e => gh_cells e ⟨B ++ [.cells p.cells,.cells d.cells,.cells f.cells,.cells (f.cells ++ [.slice .nil []])],L,c⟩ (b:=B.length + 3) (cs:=f.cells ++ [.slice .nil []]) (cs':=(Ls.mk f .row0).cells) (by rw [box_at]; rfl) rfl (fun i i1 i2 => by
      match i,i1,i2 with
      | 0,_,_ => exact weak_refl _
      | 1,_,_ => exact weak_refl _
      | 2,_,_ => exact weak_refl _
      | 3,_,_ => exact weak_nil)
    simpa [List.set_append_right] using this _
  refine awN_cw hmix ?_
  simp only [vqM,vt80,Nat.reduceAdd,Nat.reduceSub,Nat.reduceMul,Nat.reduceLeDiff,Nat.reduceEqDiff,Nat.reduceBEq,reduceCtorEq,vsFi,vsLs]
  have hat:=fun y (hy:y.op = 13→y.args.length ≤ 1000) => t_at p y f (.cells y.cells) (B ++ [.cells p.cells,.cells d.cells,.cells f.cells]) L c hy h2
  have hae:=t_atEnd p d f (.cells ((atS (flatL 1 d.body) f.site).getD Sm.zero).cells) (B ++ [.cells p.cells,.cells d.cells,.cells f.cells]) L c h3 h2
  simp only [List.append_assoc,List.cons_append,List.nil_append,List.length_append,List.length_cons,List.length_nil,Nat.reduceAdd,AtI,Nat.add_assoc] at hat hae
  refine seq_join hmix [7] [.junk,.junk,.junk,.junk,.junk,.junk,.junk,.box (B.length + 3) 0,.junk,.junk,.junk,.junk,.junk,.junk,.junk,.junk,.junk,.junk,.junk,.junk,.junk,.junk,.junk,.junk,.junk,.junk,.junk,.junk,.junk,.junk,.junk,.junk,.junk,.junk,.junk,.junk,.junk,.junk,.junk,.junk,.junk,.junk,.junk,.junk,.junk,.junk,.junk,.junk,.junk,.junk,.junk,.junk,.junk,.junk,.junk,.junk,.junk] (fun s => ∃ row X,s = ⟨B ++ .cells p.cells :: .cells d.cells :: .cells f.cells :: .cells (Ls.mk f row).cells :: .cells ((atS (flatL 1 d.body) f.site).getD Sm.zero).cells :: X,L,c⟩∧RowR (B.length + 5) row (allL p d f) X) ?_ ?_
  · simp only [vqM,vt80,Nat.reduceAdd,Nat.reduceSub,Nat.reduceMul,Nat.reduceLeDiff,Nat.reduceEqDiff,Nat.reduceBEq,reduceCtorEq,vsFi,vsLs]
    refine callI_spec (t_At d f.site _) ?_
    simp only [vqM,vt80,Nat.reduceAdd,Nat.reduceSub,Nat.reduceMul,Nat.reduceLeDiff,Nat.reduceEqDiff,Nat.reduceBEq,reduceCtorEq,vsFi,vsLs,atD]
    refine ifI_intro (fun hc => ?_) (fun hc => ?_)
    · simp only [vqM,vt80,Nat.reduceAdd,Nat.reduceSub,Nat.reduceMul,Nat.reduceLeDiff,Nat.reduceEqDiff,Nat.reduceBEq,reduceCtorEq,vsFi,vsLs,hc]
      refine ifI_intro (fun hs => ?_) (fun hs => ?_)
      · simp only [vqM,vt80,Nat.reduceAdd,Nat.reduceSub,Nat.reduceMul,Nat.reduceLeDiff,Nat.reduceEqDiff,Nat.reduceBEq,reduceCtorEq,vsFi,vsLs,hc,hs]
        refine callI_specQ (hat _ ?_) ?_
        · obtain ⟨y,hy⟩:=Option.isSome_iff_exists.1 hs
          rw [hy]; exact h1 y hy
        rintro r s ⟨rfl,row,X,rfl,hr⟩
        simp only [vqM,vt80,Nat.reduceAdd,Nat.reduceSub,Nat.reduceMul,Nat.reduceLeDiff,Nat.reduceEqDiff,Nat.reduceBEq,reduceCtorEq,vsFi,vsLs,hc,hs]
        refine meet_intro ⟨by simp only [vke,Nat.reduceBEq,Nat.reduceAdd],row,X,rfl,?_⟩
        rw [allL,hc,hs]
        have e5:(B ++ [Box.cells p.cells,Box.cells d.cells,Box.cells f.cells]).length + 2 = B.length + 5:=by simp
        rw [e5] at hr; exact hr
      · simp only [vqM,vt80,Nat.reduceAdd,Nat.reduceSub,Nat.reduceMul,Nat.reduceLeDiff,Nat.reduceEqDiff,Nat.reduceBEq,reduceCtorEq,vsFi,vsLs,hc,hs]
        refine ifI_intro (fun hq => ?_) (fun hq => ?_)
        · simp only [vqM,vt80,Nat.reduceAdd,Nat.reduceSub,Nat.reduceMul,Nat.reduceLeDiff,Nat.reduceEqDiff,Nat.reduceBEq,reduceCtorEq,vsFi,vsLs,hc,hs,hq]
          refine callI_specQ hae ?_
          rintro r s ⟨rfl,row,X,rfl,hr⟩
          simp only [vqM,vt80,Nat.reduceAdd,Nat.reduceSub,Nat.reduceMul,Nat.reduceLeDiff,Nat.reduceEqDiff,Nat.reduceBEq,reduceCtorEq,vsFi,vsLs,hc,hs,hq]
          refine meet_intro ⟨by simp only [vke,Nat.reduceBEq,Nat.reduceAdd],row,X,rfl,?_⟩
          rw [allL,hc,hs,hq]
          have e5:(B ++ [Box.cells p.cells,Box.cells d.cells,Box.cells f.cells]).length + 2 = B.length + 5:=by simp
          rw [e5] at hr; exact hr
        · simp only [vqM,vt80,Nat.reduceAdd,Nat.reduceSub,Nat.reduceMul,Nat.reduceLeDiff,Nat.reduceEqDiff,Nat.reduceBEq,reduceCtorEq,vsFi,vsLs,hc,hs,hq]
          refine meet_intro ⟨by simp only [vke,Nat.reduceBEq,Nat.reduceAdd],.row0,[],rfl,?_⟩
          rw [allL,hc,hs,hq]; exact .inl ⟨rfl,rfl⟩
    · simp only [vqM,vt80,Nat.reduceAdd,Nat.reduceSub,Nat.reduceMul,Nat.reduceLeDiff,Nat.reduceEqDiff,Nat.reduceBEq,reduceCtorEq,vsFi,vsLs,hc]
      refine meet_intro ⟨by simp only [vke,Nat.reduceBEq,Nat.reduceAdd],.row0,[],rfl,?_⟩
      rw [allL,hc]; exact .inl ⟨rfl,rfl⟩
  rintro s ⟨row,X,rfl,hr⟩
  rcases hr with ⟨rfl,hnil⟩ | ⟨j,rfl,hne,hX⟩
  · simp only [vqM,vt80,Nat.reduceAdd,Nat.reduceSub,Nat.reduceMul,Nat.reduceLeDiff,Nat.reduceEqDiff,Nat.reduceBEq,reduceCtorEq,vsFi,vsLs]
    refine callI_spec (t_SortR0 _) ?_
    simp only [vqM,vt80,Nat.reduceAdd,Nat.reduceSub,Nat.reduceMul,Nat.reduceLeDiff,Nat.reduceEqDiff,Nat.reduceBEq,reduceCtorEq,vsFi,vsLs]
    refine retA (.inr rfl) (r:=.row0) ?_ ⟨_,_,_,rfl,fun _ h => h,Nat.le_refl _,.inl ⟨rfl,?_⟩⟩
    · simp only [vqM,vt80,Nat.reduceAdd,Nat.reduceSub,Nat.reduceMul,Nat.reduceLeDiff,Nat.reduceEqDiff,Nat.reduceBEq,reduceCtorEq]
    · rw [hnil]; simp [sortR,Rf.encs]
  · simp only [vqM,vt80,Nat.reduceAdd,Nat.reduceSub,Nat.reduceMul,Nat.reduceLeDiff,Nat.reduceEqDiff,Nat.reduceBEq,reduceCtorEq,vsFi,vsLs]
    have hb:(B ++ .cells p.cells :: .cells d.cells :: .cells f.cells :: .cells (Ls.mk f (.row (B.length + 5 + j) 0 (allL p d f).length 4)).cells :: .cells ((atS (flatL 1 d.body) f.site).getD Sm.zero).cells :: X)[B.length + 5 + j]? = some (.cells (rfs (allL p d f))):=by
      rw [List.getElem?_append_right (by omega),show B.length + 5 + j - B.length = j + 1 + 1 + 1 + 1 + 1 from by omega]
      exact hX
    refine callI_specQ (t_SortAtR _ hb hn hG (allL_inj hG)) ?_
    rintro r s ⟨rfl,rfl⟩
    have hset:∀ v,(B ++ .cells p.cells :: .cells d.cells :: .cells f.cells :: .cells (Ls.mk f (.row (B.length + 5 + j) 0 (allL p d f).length 4)).cells :: .cells ((atS (flatL 1 d.body) f.site).getD Sm.zero).cells :: X).set (B.length + 5 + j) v = B ++ .cells p.cells :: .cells d.cells :: .cells f.cells :: .cells (Ls.mk f (.row (B.length + 5 + j) 0 (allL p d f).length 4)).cells :: .cells ((atS (flatL 1 d.body) f.site).getD Sm.zero).cells :: X.set j v:=by
      intro v
      rw [List.set_append_right _ _ (by omega),show B.length + 5 + j - B.length = j + 1 + 1 + 1 + 1 + 1 from by omega]
      rfl
    simp only [vqM,vt80,Nat.reduceAdd,Nat.reduceSub,Nat.reduceMul,Nat.reduceLeDiff,Nat.reduceEqDiff,Nat.reduceBEq,reduceCtorEq,vsFi,vsLs,hset]
    have hlen:(sortR (allL p d f)).length = (allL p d f).length:=(List.mergeSort_perm _ _).length_eq
    refine retA (.inr rfl) (r:=.row (B.length + 5 + j) 0 (allL p d f).length 4) ?_ ⟨_,_,_,rfl,fun _ h => h,Nat.le_refl _,.inr ⟨_,_,_,_,rfs (sortR (allL p d f)),rfl,by omega,?_,?_,by simp [Rf.encs,hlen],?_⟩⟩
    · simp only [vqM,vt80,Nat.reduceAdd,Nat.reduceSub,Nat.reduceMul,Nat.reduceLeDiff,Nat.reduceEqDiff,Nat.reduceBEq,reduceCtorEq]
    · rw [List.getElem?_append_right (by omega),show B.length + 5 + j - B.length = j + 1 + 1 + 1 + 1 + 1 from by omega]
      simp only [List.getElem?_cons_succ]
      rw [List.getElem?_set_self]
      exact (List.getElem?_eq_some_iff.1 hX).1
    · rw [List.drop_zero,← hlen,← rfs_len,List.take_length]; rfl
    · intro x hx
      obtain ⟨y,_,rfl⟩:=List.mem_map.1 hx
      rfl
end Go.V

namespace Go.V
open Go.Proofs
set_option maxRecDepth 20000
set_option maxHeartbeats 4000000

def Ez:Ex:=.mk 0 0 0 []
def Cz:Co:=.mk 0 [] []
def beforeK (x:Rp):Int × Int × Int × Int :=
  if x.f.kind = 3 then (7,x.f.a,0,x.d.refs) else if x.f.kind = 4 then (17,0,x.f.a,x.p.d.locks) else if x.f.kind = 5 then (22,0,x.f.a,x.p.d.parts) else (0,0,0,0)
def beforeS (x:Rp):Sm:=.mk (-1) (beforeK x).1 (beforeK x).2.1 (beforeK x).2.2.1 0 Ez Ez Cz [] [] [] []
def beforeB (x:Rp):Bool:=decide (0 ≤ x.f.a) && decide (x.f.a < (beforeK x).2.2.2)
theorem t_before (x:Rp) (s:St):Spec Tryz.prog 91 [.agg x.cells] s (.tup [.agg (beforeS x).cells,.bool (beforeB x)]) s:=by
  obtain ⟨B,L,c⟩:=s
  refine Spec.introN [(5,.text [false,false,false,false,false,false,false,true,false,true,false] [(2,1),(5,1),(5,2)]),(7,.text [false,false,false,false,false,false,false,false,true,false,true,false] [(2,1),(6,1),(6,2)]),(9,.text [false,false,false,false,false,false,false,false,true,false,true,false] [(2,1),(6,1),(6,2)]),(10,.text [false,false,false,false,false,false,false,false,false,false,false,false,true,false] [(8,1)])] Tryz.func91 rfl (by decide) hmix (by kernel_rfl) [ResultVar.cell 2 77,ResultVar.tmp 3] 54 rfl rfl ?_
  simp only [vqM,vt81,Tryz.f91,Nat.reduceAdd,Nat.reduceSub,Nat.reduceMul,Nat.reduceLeDiff,Nat.reduceEqDiff,Nat.reduceBEq,reduceCtorEq,vsRp]
  repeat' (first
    | (with_reducible refine ifI_intro (fun hc => ?_) (fun hc => ?_) <;> simp only [vqM,vt81,hc,Nat.reduceAdd,Nat.reduceSub,Nat.reduceMul,Nat.reduceLeDiff,Nat.reduceEqDiff,Nat.reduceBEq,reduceCtorEq,vsRp])
    | ((with_reducible refine is_q ?_); refine ret_loc (.inr rfl) ?_ (bd_tup2 (bd_agg (Sm.bd _)) (.bool _)) (fun _ h => h) (Nat.le_refl _) <;> (try simp only [vqM,vt81,Nat.reduceAdd,Nat.reduceSub,Nat.reduceMul,Nat.reduceLeDiff,Nat.reduceEqDiff,Nat.reduceBEq,reduceCtorEq,vsRp]) <;> skip))
  all_goals simp only [beforeS,beforeB,beforeK,Sm.cells,Ez,Cz,Ex.cells,Co.cells,Ex.encs,Co.encs,Sm.encs,intCells]
  all_goals (simp_all <;> omega)
def caughtS (x:Rp) (l:List Sm):List Sm:=[.mk (-1) 15 x.d.vars 0 0 Ez Ez Cz [] [] l []]
theorem t_caught (x:Rp) (l:List Sm) (s:St):Spec Tryz.prog 90 [.agg x.cells,.slice .none (Sm.encs l)] s (.tup [.slice .none (Sm.encs (caughtS x l)),.bool (decide (x.f.a = 0))]) s:=by
  obtain ⟨B,L,c⟩:=s
  refine Spec.introN [] Tryz.func90 rfl (by decide) hmix (by kernel_rfl) [ResultVar.tmp 4,ResultVar.tmp 5] 16 rfl rfl ?_
  simp only [vqM,vt82,Tryz.f90,Nat.reduceAdd,Nat.reduceSub,Nat.reduceMul,Nat.reduceLeDiff,Nat.reduceEqDiff,Nat.reduceBEq,reduceCtorEq,vsRp]
  refine ret_loc (.inr rfl) ?_ (bd_tup2 (bd_slice (Sm.bds _)) (.bool _)) (fun _ h => h) (Nat.le_refl _)
  simp only [vqM,vt82,Nat.reduceAdd,Nat.reduceSub,Nat.reduceMul,Nat.reduceLeDiff,Nat.reduceEqDiff,Nat.reduceBEq,reduceCtorEq]
  rfl
theorem t_catch (x:Rp) (y:Sm) (s:St):Spec Tryz.prog 89 [.agg x.cells,.agg y.cells] s (.tup [.slice .none (Sm.encs (caughtS x [y])),.bool (decide (x.f.a = 0))]) s:=by
  obtain ⟨B,L,c⟩:=s
  refine Spec.introN [] Tryz.func89 rfl (by decide) hmix (by kernel_rfl) [ResultVar.tmp 4,ResultVar.tmp 5] 12 rfl rfl ?_
  simp only [vqM,vt83,Tryz.f89,Nat.reduceAdd,Nat.reduceSub,Nat.reduceMul,Nat.reduceLeDiff,Nat.reduceEqDiff,Nat.reduceBEq,reduceCtorEq,vsRp]
  refine callI_spec (t_caught x [y] _) ?_
  simp only [vqM,vt83,Nat.reduceAdd,Nat.reduceSub,Nat.reduceMul,Nat.reduceLeDiff,Nat.reduceEqDiff,Nat.reduceBEq,reduceCtorEq,vsRp]
  refine ret_loc (.inr rfl) ?_ (bd_tup2 (bd_slice (Sm.bds _)) (.bool _)) (fun _ h => h) (Nat.le_refl _)
  simp only [vqM,vt83,Nat.reduceAdd,Nat.reduceSub,Nat.reduceMul,Nat.reduceLeDiff,Nat.reduceEqDiff,Nat.reduceBEq,reduceCtorEq]
theorem t_ahead (x:Rp) (y:Sm) (s:St):Spec Tryz.prog 88 [.agg x.cells,.agg y.cells] s (.tup [.slice .none (Sm.encs [beforeS x,y]),.bool (beforeB x)]) s:=by
  obtain ⟨B,L,c⟩:=s
  refine Spec.introN [] Tryz.func88 rfl (by decide) hmix (by kernel_rfl) [ResultVar.tmp 4,ResultVar.tmp 5] 17 rfl rfl ?_
  simp only [vqM,vt83,Tryz.f88,Nat.reduceAdd,Nat.reduceSub,Nat.reduceMul,Nat.reduceLeDiff,Nat.reduceEqDiff,Nat.reduceBEq,reduceCtorEq,vsRp]
  refine callI_spec (t_before x _) ?_
  simp only [vqM,vt83,Nat.reduceAdd,Nat.reduceSub,Nat.reduceMul,Nat.reduceLeDiff,Nat.reduceEqDiff,Nat.reduceBEq,reduceCtorEq,vsRp]
  refine ret_loc (.inr rfl) ?_ (bd_tup2 (bd_slice (Sm.bds _)) (.bool _)) (fun _ h => h) (Nat.le_refl _)
  simp only [vqM,vt83,Nat.reduceAdd,Nat.reduceSub,Nat.reduceMul,Nat.reduceLeDiff,Nat.reduceEqDiff,Nat.reduceBEq,reduceCtorEq]
  rfl
def callC (ps:List Rg) (es:List Ex):Co:=match List.zipWith withinC ps es with
  | [] => .mk 1 [] []
  | c :: l => l.foldl bothC c
def guardC (x:Rp) (y:Sm):Option Co :=
  if y.op = 2 ∨ y.op = 3 then some (bothC (test 3 (num 0) y.x) (test 2 y.x (.mk 3 y.m 0 [])))
  else if y.op = 23 then some y.c
  else if y.op = 5 ∨ y.op = 18 then some (withinC (spanS x.p y) y.x)
  else if y.op = 13 then some (callC ((headS x.p y.m).getD Hd.zero).params y.args)
  else none
def guardS (x:Rp) (y:Sm):List Sm:=match guardC x y with
  | some c => [.mk (-1) 11 0 0 0 Ez Ez c [] [] [y] []]
  | none => []
def guardB (x:Rp) (y:Sm):Bool:=(guardC x y).isSome && decide (x.f.a = 0)
theorem Co.drop3 (x:Co):x.cells.drop 3 = []:=by cases x; rfl
theorem zip_take (ps:List Rg) (es:List Ex) (k:Nat) (h1:k < es.length) (h2:k < ps.length):List.zipWith withinC ps (es.take (k + 1)) = List.zipWith withinC ps (es.take k) ++ [withinC ps[k] es[k]]:=by
  induction ps generalizing es k with
  | nil => simp at h2
  | cons q ps ih => cases es with
    | nil => simp at h1
    | cons a es => cases k with
      | zero => simp
      | succ k =>
        simp only [List.take_succ_cons,List.zipWith_cons_cons,List.cons_append,List.getElem_cons_succ]
        rw [ih es k (by simpa using h1) (by simpa using h2)]
theorem callC_zero (ps:List Rg) (es:List Ex) (h1:0 < es.length) (h2:0 < ps.length):callC ps (es.take 1) = withinC ps[0] es[0]:=by
  rw [callC,zip_take ps es 0 h1 h2]; simp
theorem callC_succ (ps:List Rg) (es:List Ex) (k:Nat) (h0:0 < k) (h1:k < es.length) (h2:k < ps.length):callC ps (es.take (k + 1)) = bothC (callC ps (es.take k)) (withinC ps[k] es[k]):=by
  rw [callC,callC,zip_take ps es k h1 h2]
  cases hz:List.zipWith withinC ps (es.take k) with
  | nil =>
    have:=congrArg List.length hz
    simp only [List.length_zipWith,List.length_take,List.length_nil] at this; omega
  | cons c l => simp
structure FitY (p:Pg) (y:Sm):Prop where
  span:y.op = 5 ∨ y.op = 18→SpanOk p y
  len:y.op = 13→y.args.length ≤ 1000
  call:y.op = 13→y.args.length ≤ ((headS p y.m).getD Hd.zero).params.length
theorem t_guard (x:Rp) (y:Sm) (h:FitY x.p y) (s:St):Spec Tryz.prog 86 [.agg x.cells,.agg y.cells] s (.tup [.slice .none (Sm.encs (guardS x y)),.bool (guardB x y)]) s:=by
  obtain ⟨B,L,c⟩:=s
  refine Spec.introN [(1,.cut),(2,.meet),(6,.text [true,false,false,true,false,false,false,false,false,true,true,true] [(2,0),(5,0),(5,1),(7,0),(7,1)]),(11,.text [false,false,true,false,false,true,true] [(4,0)]),(17,.text [false,false,false,false,false,false,false,true,true] [(1,1),(4,1),(5,1),(6,1)])] Tryz.func86 rfl (by decide) hmix (by kernel_rfl) [ResultVar.tmp 4,ResultVar.tmp 5] 83 rfl rfl ?_
  simp only [vqM,vt84,Tryz.f86,Nat.reduceAdd,Nat.reduceSub,Nat.reduceMul,Nat.reduceLeDiff,Nat.reduceEqDiff,Nat.reduceBEq,reduceCtorEq,vsRp]
  refine seq_go ?_
  simp only [vqM,vt84,Nat.reduceAdd,Nat.reduceSub,Nat.reduceMul,Nat.reduceLeDiff,Nat.reduceEqDiff,Nat.reduceBEq,reduceCtorEq,vsRp,vsK]
  refine awN_ghs ⟨B ++ [.cells x.cells,.cells y.cells,.cells (Co.mk 1 [] []).cells],L,c⟩ ?_ ?_
  · intro e
    have:=gh_cells e ⟨B ++ [.cells x.cells,.cells y.cells,.cells [.int .i64 1,.slice .nil [],.slice .nil []]],L,c⟩ (b:=B.length + 2) (cs:=[.int .i64 1,.slice .nil [],.slice .nil []]) (cs':=(Co.mk 1 [] []).cells) (by rw [box_at]; rfl) rfl (fun i i1 i2 => by
      match i,i1,i2 with
      | 0,_,_ => exact weak_refl _
      | 1,_,_ => exact fun g v h => h.plain1
      | 2,_,_ => exact fun g v h => h.plain1)
    simpa [List.set_append_right] using this
  refine awN_cw hmix ?_
  simp only [vqM,vt84,Nat.reduceAdd,Nat.reduceSub,Nat.reduceMul,Nat.reduceLeDiff,Nat.reduceEqDiff,Nat.reduceBEq,reduceCtorEq,vsRp]
  refine seq_joinR hmix [2,3,6] [.junk,.junk,.box B.length 0,.box (B.length + 1) 0,.junk,.junk,.box (B.length + 2) 0,.junk,.junk,.junk,.junk,.junk,.junk,.junk,.junk,.junk,.junk,.junk,.junk,.junk,.junk,.junk,.junk,.junk,.junk,.junk,.junk,.junk,.junk,.junk,.junk,.junk,.junk,.junk,.junk,.junk,.junk,.junk,.junk,.junk,.junk,.junk,.junk,.junk,.junk,.junk,.junk,.junk,.junk,.junk,.junk,.junk,.junk,.junk,.junk,.junk,.junk,.junk,.junk,.junk,.junk,.junk,.junk,.junk,.junk,.junk,.junk,.junk,.junk,.junk,.junk,.junk,.junk,.junk,.junk,.junk,.junk,.junk,.junk,.junk,.junk,.junk,.junk] (fun s => ∃ C X,guardC x y = some C∧s = ⟨B ++ .cells x.cells :: .cells y.cells :: .cells C.cells :: X,L,c⟩) ?_ ?_
  · simp only [vqM,vt84,Nat.reduceAdd,Nat.reduceSub,Nat.reduceMul,Nat.reduceLeDiff,Nat.reduceEqDiff,Nat.reduceBEq,reduceCtorEq,vsRp]
    refine ifI_intro (fun hc => ?_) (fun hc => ?_)
    · have hq:guardC x y = some (bothC (test 3 (num 0) y.x) (test 2 y.x (.mk 3 y.m 0 []))):=by rw [guardC,if_pos (.inl (of_decide_eq_true hc))]
      simp only [vqM,vt84,Nat.reduceAdd,Nat.reduceSub,Nat.reduceMul,Nat.reduceLeDiff,Nat.reduceEqDiff,Nat.reduceBEq,reduceCtorEq,vsRp,hc]
      refine callI_spec (t_numberG 0 _) ?_
      simp only [vqM,vt84,Nat.reduceAdd,Nat.reduceSub,Nat.reduceMul,Nat.reduceLeDiff,Nat.reduceEqDiff,Nat.reduceBEq,reduceCtorEq,vsRp,hc]
      refine callI_spec (t_testG 3 (num 0) y.x _) ?_
      simp only [vqM,vt84,Nat.reduceAdd,Nat.reduceSub,Nat.reduceMul,Nat.reduceLeDiff,Nat.reduceEqDiff,Nat.reduceBEq,reduceCtorEq,vsRp,hc]
      refine callI_spec (t_testG 2 y.x (.mk 3 y.m 0 []) _) ?_
      simp only [vqM,vt84,Nat.reduceAdd,Nat.reduceSub,Nat.reduceMul,Nat.reduceLeDiff,Nat.reduceEqDiff,Nat.reduceBEq,reduceCtorEq,vsRp,hc]
      refine callI_spec (t_both _ _ _) ?_
      simp only [vqM,vt84,Nat.reduceAdd,Nat.reduceSub,Nat.reduceMul,Nat.reduceLeDiff,Nat.reduceEqDiff,Nat.reduceBEq,reduceCtorEq,vsRp,hc]
      refine join_intro (by simp only [vke,Nat.reduceBEq,Nat.reduceAdd]) ⟨_,[],hq,rfl⟩
    have p1:¬ y.op = 2:=of_decide_eq_false hc
    simp only [vqM,vt84,Nat.reduceAdd,Nat.reduceSub,Nat.reduceMul,Nat.reduceLeDiff,Nat.reduceEqDiff,Nat.reduceBEq,reduceCtorEq,vsRp,hc]
    refine ifI_intro (fun hd => ?_) (fun hd => ?_)
    · have hq:guardC x y = some (bothC (test 3 (num 0) y.x) (test 2 y.x (.mk 3 y.m 0 []))):=by rw [guardC,if_pos (.inr (of_decide_eq_true hd))]
      simp only [vqM,vt84,Nat.reduceAdd,Nat.reduceSub,Nat.reduceMul,Nat.reduceLeDiff,Nat.reduceEqDiff,Nat.reduceBEq,reduceCtorEq,vsRp,hc,hd]
      refine callI_spec (t_numberG 0 _) ?_
      simp only [vqM,vt84,Nat.reduceAdd,Nat.reduceSub,Nat.reduceMul,Nat.reduceLeDiff,Nat.reduceEqDiff,Nat.reduceBEq,reduceCtorEq,vsRp,hc,hd]
      refine callI_spec (t_testG 3 (num 0) y.x _) ?_
      simp only [vqM,vt84,Nat.reduceAdd,Nat.reduceSub,Nat.reduceMul,Nat.reduceLeDiff,Nat.reduceEqDiff,Nat.reduceBEq,reduceCtorEq,vsRp,hc,hd]
      refine callI_spec (t_testG 2 y.x (.mk 3 y.m 0 []) _) ?_
      simp only [vqM,vt84,Nat.reduceAdd,Nat.reduceSub,Nat.reduceMul,Nat.reduceLeDiff,Nat.reduceEqDiff,Nat.reduceBEq,reduceCtorEq,vsRp,hc,hd]
      refine callI_spec (t_both _ _ _) ?_
      simp only [vqM,vt84,Nat.reduceAdd,Nat.reduceSub,Nat.reduceMul,Nat.reduceLeDiff,Nat.reduceEqDiff,Nat.reduceBEq,reduceCtorEq,vsRp,hc,hd]
      refine join_intro (by simp only [vke,Nat.reduceBEq,Nat.reduceAdd]) ⟨_,[],hq,rfl⟩
    have p2:¬ y.op = 3:=of_decide_eq_false hd
    have n1:¬ (y.op = 2 ∨ y.op = 3):=fun h => h.elim p1 p2
    simp only [vqM,vt84,Nat.reduceAdd,Nat.reduceSub,Nat.reduceMul,Nat.reduceLeDiff,Nat.reduceEqDiff,Nat.reduceBEq,reduceCtorEq,vsRp,hc,hd]
    clear hc hd
    refine ifI_intro (fun hc => ?_) (fun hc => ?_)
    · have hq:guardC x y = some y.c:=by rw [guardC,if_neg n1,if_pos (of_decide_eq_true hc)]
      simp only [vqM,vt84,Nat.reduceAdd,Nat.reduceSub,Nat.reduceMul,Nat.reduceLeDiff,Nat.reduceEqDiff,Nat.reduceBEq,reduceCtorEq,vsRp,hc,Co.drop3]
      refine join_intro (by simp only [vke,Nat.reduceBEq,Nat.reduceAdd]) ⟨_,[],hq,rfl⟩
    have p3:¬ y.op = 23:=of_decide_eq_false hc
    simp only [vqM,vt84,Nat.reduceAdd,Nat.reduceSub,Nat.reduceMul,Nat.reduceLeDiff,Nat.reduceEqDiff,Nat.reduceBEq,reduceCtorEq,vsRp,hc]
    clear hc
    refine ifI_intro (fun hc => ?_) (fun hc => ?_)
    · have o1:=of_decide_eq_true hc
      have hq:guardC x y = some (withinC (spanS x.p y) y.x):=by rw [guardC,if_neg n1,if_neg p3,if_pos (.inl o1)]
      simp only [vqM,vt84,Nat.reduceAdd,Nat.reduceSub,Nat.reduceMul,Nat.reduceLeDiff,Nat.reduceEqDiff,Nat.reduceBEq,reduceCtorEq,vsRp,hc]
      refine callI_spec (t_span x y (h.span (.inl o1)) _) ?_
      simp only [vqM,vt84,Nat.reduceAdd,Nat.reduceSub,Nat.reduceMul,Nat.reduceLeDiff,Nat.reduceEqDiff,Nat.reduceBEq,reduceCtorEq,vsRp,hc]
      refine callI_spec (t_within _ _ _) ?_
      simp only [vqM,vt84,Nat.reduceAdd,Nat.reduceSub,Nat.reduceMul,Nat.reduceLeDiff,Nat.reduceEqDiff,Nat.reduceBEq,reduceCtorEq,vsRp,hc]
      refine join_intro (by simp only [vke,Nat.reduceBEq,Nat.reduceAdd]) ⟨_,[],hq,rfl⟩
    have p4:¬ y.op = 5:=of_decide_eq_false hc
    simp only [vqM,vt84,Nat.reduceAdd,Nat.reduceSub,Nat.reduceMul,Nat.reduceLeDiff,Nat.reduceEqDiff,Nat.reduceBEq,reduceCtorEq,vsRp,hc]
    refine ifI_intro (fun hd => ?_) (fun hd => ?_)
    · have o1:=of_decide_eq_true hd
      have hq:guardC x y = some (withinC (spanS x.p y) y.x):=by rw [guardC,if_neg n1,if_neg p3,if_pos (.inr o1)]
      simp only [vqM,vt84,Nat.reduceAdd,Nat.reduceSub,Nat.reduceMul,Nat.reduceLeDiff,Nat.reduceEqDiff,Nat.reduceBEq,reduceCtorEq,vsRp,hc,hd]
      refine callI_spec (t_span x y (h.span (.inr o1)) _) ?_
      simp only [vqM,vt84,Nat.reduceAdd,Nat.reduceSub,Nat.reduceMul,Nat.reduceLeDiff,Nat.reduceEqDiff,Nat.reduceBEq,reduceCtorEq,vsRp,hc,hd]
      refine callI_spec (t_within _ _ _) ?_
      simp only [vqM,vt84,Nat.reduceAdd,Nat.reduceSub,Nat.reduceMul,Nat.reduceLeDiff,Nat.reduceEqDiff,Nat.reduceBEq,reduceCtorEq,vsRp,hc,hd]
      refine join_intro (by simp only [vke,Nat.reduceBEq,Nat.reduceAdd]) ⟨_,[],hq,rfl⟩
    have p5:¬ y.op = 18:=of_decide_eq_false hd
    have n2:¬ (y.op = 5 ∨ y.op = 18):=fun h => h.elim p4 p5
    simp only [vqM,vt84,Nat.reduceAdd,Nat.reduceSub,Nat.reduceMul,Nat.reduceLeDiff,Nat.reduceEqDiff,Nat.reduceBEq,reduceCtorEq,vsRp,hc,hd]
    clear hc hd
    refine ifI_intro (fun hc => ?_) (fun hc => ?_)
    · have o1:=of_decide_eq_true hc
      have hq:guardC x y = some (callC ((headS x.p y.m).getD Hd.zero).params y.args):=by rw [guardC,if_neg n1,if_neg p3,if_neg n2,if_pos o1]
      have hle:=h.call o1
      have hle2:=h.len o1
      simp only [vqM,vt84,Nat.reduceAdd,Nat.reduceSub,Nat.reduceMul,Nat.reduceLeDiff,Nat.reduceEqDiff,Nat.reduceBEq,reduceCtorEq,vsRp,hc]
      refine callI_spec (t_HeadOf _ _ _) ?_
      simp only [vqM,vt84,Nat.reduceAdd,Nat.reduceSub,Nat.reduceMul,Nat.reduceLeDiff,Nat.reduceEqDiff,Nat.reduceBEq,reduceCtorEq,vsRp,hc,headSD,exCells_len]
      generalize (headS x.p y.m).getD Hd.zero = H at hle hq
      refine awN_keep [2,3,6,7,53,54,55] ?_
      simp only [vke,Nat.reduceBEq,Nat.reduceAdd]
      refine awN_forR hmix y.args.length (fun k e s => e = [.junk,.junk,.box B.length 0,.box (B.length + 1) 0,.junk,.junk,.box (B.length + 2) 0,.box (B.length + 3) 0,.junk,.junk,.junk,.junk,.junk,.junk,.junk,.junk,.junk,.junk,.junk,.junk,.junk,.junk,.junk,.junk,.junk,.junk,.junk,.junk,.junk,.junk,.junk,.junk,.junk,.junk,.junk,.junk,.junk,.junk,.junk,.junk,.junk,.junk,.junk,.junk,.junk,.junk,.junk,.junk,.junk,.junk,.junk,.junk,.junk,.slice .none (Ex.encs y.args),.int .i64 y.args.length,.int .i64 (k:Int),.junk,.junk,.junk,.junk,.junk,.junk,.junk,.junk,.junk,.junk,.junk,.junk,.junk,.junk,.junk,.junk,.junk,.junk,.junk,.junk,.junk,.junk,.junk,.junk,.junk,.junk,.junk]∧∃ X,s = ⟨B ++ .cells x.cells :: .cells y.cells :: .cells (callC H.params (y.args.take k)).cells :: .cells H.cells :: X,L,c⟩) ?_ ?_ 0 _ _ (Nat.zero_le _) ⟨rfl,[],by simp [callC]⟩
      · rintro k e s hk ⟨rfl,X,rfl⟩ ih
        have hx:y.args[k]? = some y.args[k]:=List.getElem?_eq_getElem hk
        have hg:(Ex.encs y.args)[k]? = some (y.args[k].cells):=by simp [Ex.encs_map,hx]
        have hkp:k < H.params.length:=by omega
        have hp:(rgCells H.params)[k]? = some (H.params[k].cells):=by simp [rgCells,hkp]
        have hklt:((k:Int) < (y.args.length:Int)) = True:=by simp; exact hk
        have hplt:((k:Int) < (H.params.length:Int)) = True:=by simp; exact hkp
        simp only [vqM,vt84,Nat.reduceAdd,Nat.reduceSub,Nat.reduceMul,Nat.reduceLeDiff,Nat.reduceEqDiff,Nat.reduceBEq,reduceCtorEq,vsRp,hklt,hplt,decide_true,natle0,Int.toNat_natCast,hg,hp,rgCells_len,exCells_len]
        refine callI_spec (t_within _ _ _) ?_
        simp only [vqM,vt84,Nat.reduceAdd,Nat.reduceSub,Nat.reduceMul,Nat.reduceLeDiff,Nat.reduceEqDiff,Nat.reduceBEq,reduceCtorEq,vsRp,hklt,hplt,decide_true,natle0,Int.toNat_natCast,hg,hp,rgCells_len,exCells_len]
        refine needI_intro (callI_spec (t_within _ _ _) ?_) ?_
        · simp only [vqM,vt84,Nat.reduceAdd,Nat.reduceSub,Nat.reduceMul,Nat.reduceLeDiff,Nat.reduceEqDiff,Nat.reduceBEq,reduceCtorEq,vsRp]
        simp only [vqM,vt84,Nat.reduceAdd,Nat.reduceSub,Nat.reduceMul,Nat.reduceLeDiff,Nat.reduceEqDiff,Nat.reduceBEq,reduceCtorEq,vsRp,hklt,hplt,decide_true,natle0,Int.toNat_natCast,hg,hp,rgCells_len,exCells_len]
        refine ifI_intro (fun hz => ?_) (fun hz => ?_)
        · have hz0:k = 0:=by have:=of_decide_eq_true hz; omega
          simp only [vqM,vt84,Nat.reduceAdd,Nat.reduceSub,Nat.reduceMul,Nat.reduceLeDiff,Nat.reduceEqDiff,Nat.reduceBEq,reduceCtorEq,vsRp,hz]
          rw [wrap_succ (by omega)]
          refine awN_keep [2,3,6,7,53,54,55] ?_
          simp only [vke,Nat.reduceBEq,Nat.reduceAdd]
          subst hz0
          exact ih _ _ ⟨rfl,_,by rw [callC_zero H.params y.args hk hkp,Co.drop3,List.append_nil]⟩
        · have hz0:0 < k:=by have:=of_decide_eq_false hz; omega
          simp only [vqM,vt84,Nat.reduceAdd,Nat.reduceSub,Nat.reduceMul,Nat.reduceLeDiff,Nat.reduceEqDiff,Nat.reduceBEq,reduceCtorEq,vsRp,hz]
          refine callI_spec (t_both _ _ _) ?_
          simp only [vqM,vt84,Nat.reduceAdd,Nat.reduceSub,Nat.reduceMul,Nat.reduceLeDiff,Nat.reduceEqDiff,Nat.reduceBEq,reduceCtorEq,vsRp,hz]
          rw [wrap_succ (by omega)]
          refine awN_keep [2,3,6,7,53,54,55] ?_
          simp only [vke,Nat.reduceBEq,Nat.reduceAdd]
          exact ih _ _ ⟨rfl,_,by rw [callC_succ H.params y.args k hz0 hk hkp,Co.drop3,List.append_nil]⟩
      · rintro e s ⟨rfl,X,rfl⟩
        have hklt:((y.args.length:Int) < (y.args.length:Int)) = False:=by simp
        simp only [vqM,vt84,Nat.reduceAdd,Nat.reduceSub,Nat.reduceMul,Nat.reduceLeDiff,Nat.reduceEqDiff,Nat.reduceBEq,reduceCtorEq,vsRp,hklt,decide_false]
        rw [List.take_length]
        refine join_intro (by simp only [vke,Nat.reduceBEq,Nat.reduceAdd]) ⟨_,_,hq,rfl⟩
    · have p6:¬ y.op = 13:=of_decide_eq_false hc
      have hq:guardC x y = none:=by rw [guardC,if_neg n1,if_neg p3,if_neg n2,if_neg p6]
      simp only [vqM,vt84,Nat.reduceAdd,Nat.reduceSub,Nat.reduceMul,Nat.reduceLeDiff,Nat.reduceEqDiff,Nat.reduceBEq,reduceCtorEq,vsRp,hc]
      refine ret_loc (.inr rfl) ?_ (bd_tup2 (bd_slice (Sm.bds _)) (.bool _)) (fun _ h => h) (Nat.le_refl _)
      simp only [vqM,vt84,Nat.reduceAdd,Nat.reduceSub,Nat.reduceMul,Nat.reduceLeDiff,Nat.reduceEqDiff,Nat.reduceBEq,reduceCtorEq]
      rw [guardS,guardB,hq]; rfl
  · rintro s ⟨C,X,hq,rfl⟩
    simp only [vqM,vt84,Nat.reduceAdd,Nat.reduceSub,Nat.reduceMul,Nat.reduceLeDiff,Nat.reduceEqDiff,Nat.reduceBEq,reduceCtorEq,vsRp]
    refine ret_loc (X:=_ :: _ :: _ :: X) (.inr rfl) ?_ (bd_tup2 (bd_slice (Sm.bds _)) (.bool _)) (fun _ h => h) (Nat.le_refl _)
    simp only [vqM,vt84,Nat.reduceAdd,Nat.reduceSub,Nat.reduceMul,Nat.reduceLeDiff,Nat.reduceEqDiff,Nat.reduceBEq,reduceCtorEq]
    rw [guardS,guardB,hq]; rfl
end Go.V

namespace Go.V
open Go.Proofs
set_option maxRecDepth 20000
set_option maxHeartbeats 4000000

theorem smEncs_eachG (l:List Sm):∀ x ∈ Sm.encs l,x.length = 20:=by
  intro x hx; rw [Sm.encs_map] at hx; obtain ⟨y,_,rfl⟩:=List.mem_map.1 hx; exact Sm.cells_len y
theorem exEncs_eachG (l:List Ex):∀ x ∈ Ex.encs l,x.length = 4:=by
  intro x hx; rw [Ex.encs_map] at hx; obtain ⟨y,_,rfl⟩:=List.mem_map.1 hx; exact Ex.cells_len y
theorem t_CloneS (l:List Sm) (hl:0 < l.length) (hn:l.length ≤ 1000000) (B:List Box) (L:List Nat) (c:Nat):Spec Tryz.prog 93 [.slice .none (Sm.encs l)] ⟨B,L,c⟩ (.row B.length 0 l.length 20) ⟨B ++ [.cells (Sm.encs l).flatten],L,c⟩:=by
  refine SpecQ.introA [(1,.meet)] Tryz.func93 rfl (by decide) hmix (by kernel_rfl) [ResultVar.tmp 2] 8 rfl rfl ?_
  have hu:Tryz.prog.underlying 38 = some (.slice 77):=by kernel_rfl
  have hnil:=evNil_sl (xs:=Sm.encs l) hu (by rw [smCells_len]; exact hl)
  simp only [vqM,vt85,Tryz.f93,Nat.reduceAdd,Nat.reduceSub,Nat.reduceMul,Nat.reduceLeDiff,Nat.reduceEqDiff,Nat.reduceBEq,reduceCtorEq]
  refine seq_joinA [0] [.slice .none (Sm.encs l),.junk,.junk,.junk,.junk,.junk,.junk,.junk] (fun s => s = ⟨B,L,c⟩) ?_ ?_
  · simp only [vqM,vt85,Nat.reduceAdd,Nat.reduceSub,Nat.reduceMul,Nat.reduceLeDiff,Nat.reduceEqDiff,Nat.reduceBEq,reduceCtorEq,hnil]
    exact join_intro rfl rfl
  rintro s rfl
  refine awN_seq ?_
  refine awN_region2a 1 rfl rfl ?_
  simp only [vqM,vt85,Nat.reduceAdd,Nat.reduceSub,Nat.reduceMul,Nat.reduceLeDiff,Nat.reduceEqDiff,Nat.reduceBEq,reduceCtorEq]
  refine kI_gh (gh_slot 5 (d:=.slice .full []) rfl weak_full) ?_
  simp only [vqM,vt85,Nat.reduceAdd,Nat.reduceSub,Nat.reduceMul,Nat.reduceLeDiff,Nat.reduceEqDiff,Nat.reduceBEq,reduceCtorEq,vsK]
  refine apZ2_intro (by decide) (smEncs_eachG l) (by rw [smCells_len]; exact hl) (by rw [smCells_len]; exact hn) ?_
  rw [smCells_len]
  simp only [vqM,vt85,Nat.reduceAdd,Nat.reduceSub,Nat.reduceMul,Nat.reduceLeDiff,Nat.reduceEqDiff,Nat.reduceBEq,reduceCtorEq,vsK]
  refine awN_cw hmix ?_
  simp only [vqM,vt85,Nat.reduceAdd,Nat.reduceSub,Nat.reduceMul,Nat.reduceLeDiff,Nat.reduceEqDiff,Nat.reduceBEq,reduceCtorEq]
  refine retA (.inr rfl) (r:=.row B.length 0 l.length 20) ?_ ⟨rfl,rfl⟩
  simp only [vqM,vt85,Nat.reduceAdd,Nat.reduceSub,Nat.reduceMul,Nat.reduceLeDiff,Nat.reduceEqDiff,Nat.reduceBEq,reduceCtorEq]
theorem t_CloneE (l:List Ex) (hl:0 < l.length) (hn:l.length ≤ 1000000) (B:List Box) (L:List Nat) (c:Nat):Spec Tryz.prog 123 [.slice .none (Ex.encs l)] ⟨B,L,c⟩ (.row B.length 0 l.length 4) ⟨B ++ [.cells (Ex.encs l).flatten],L,c⟩:=by
  refine SpecQ.introA [(1,.meet)] Tryz.func123 rfl (by decide) hmix (by kernel_rfl) [ResultVar.tmp 2] 8 rfl rfl ?_
  have hu:Tryz.prog.underlying 68 = some (.slice 70):=by kernel_rfl
  have hnil:=evNil_sl (xs:=Ex.encs l) hu (by rw [exCells_len]; exact hl)
  simp only [vqM,vt1,Tryz.f123,Nat.reduceAdd,Nat.reduceSub,Nat.reduceMul,Nat.reduceLeDiff,Nat.reduceEqDiff,Nat.reduceBEq,reduceCtorEq]
  refine seq_joinA [0] [.slice .none (Ex.encs l),.junk,.junk,.junk,.junk,.junk,.junk,.junk] (fun s => s = ⟨B,L,c⟩) ?_ ?_
  · simp only [vqM,vt1,Nat.reduceAdd,Nat.reduceSub,Nat.reduceMul,Nat.reduceLeDiff,Nat.reduceEqDiff,Nat.reduceBEq,reduceCtorEq,hnil]
    exact join_intro rfl rfl
  rintro s rfl
  refine awN_seq ?_
  refine awN_region2a 1 rfl rfl ?_
  simp only [vqM,vt1,Nat.reduceAdd,Nat.reduceSub,Nat.reduceMul,Nat.reduceLeDiff,Nat.reduceEqDiff,Nat.reduceBEq,reduceCtorEq]
  refine kI_gh (gh_slot 5 (d:=.slice .full []) rfl weak_full) ?_
  simp only [vqM,vt1,Nat.reduceAdd,Nat.reduceSub,Nat.reduceMul,Nat.reduceLeDiff,Nat.reduceEqDiff,Nat.reduceBEq,reduceCtorEq,vsK]
  refine apZ2_intro (by decide) (exEncs_eachG l) (by rw [exCells_len]; exact hl) (by rw [exCells_len]; exact hn) ?_
  rw [exCells_len]
  simp only [vqM,vt1,Nat.reduceAdd,Nat.reduceSub,Nat.reduceMul,Nat.reduceLeDiff,Nat.reduceEqDiff,Nat.reduceBEq,reduceCtorEq,vsK]
  refine awN_cw hmix ?_
  simp only [vqM,vt1,Nat.reduceAdd,Nat.reduceSub,Nat.reduceMul,Nat.reduceLeDiff,Nat.reduceEqDiff,Nat.reduceBEq,reduceCtorEq]
  refine retA (.inr rfl) (r:=.row B.length 0 l.length 4) ?_ ⟨rfl,rfl⟩
  simp only [vqM,vt1,Nat.reduceAdd,Nat.reduceSub,Nat.reduceMul,Nat.reduceLeDiff,Nat.reduceEqDiff,Nat.reduceBEq,reduceCtorEq]
theorem t_CloneS0 (s:St):Spec Tryz.prog 93 [.slice .none []] s (.slice .none []) s:=by
  obtain ⟨B,L,c⟩:=s
  have hbd:Bd 0 0 (.slice .none []):=bd_slice fun x hx => by simp at hx
  refine Spec.introN [(0,.cut)] Tryz.func93 rfl (by decide) hmix (by kernel_rfl) [ResultVar.tmp 2] 8 rfl rfl ?_
  simp only [vqM,vt85,Tryz.f93,Nat.reduceAdd,Nat.reduceSub,Nat.reduceMul,Nat.reduceLeDiff,Nat.reduceEqDiff,Nat.reduceBEq,reduceCtorEq]
  refine seq_go ?_
  simp only [vqM,vt85,Nat.reduceAdd,Nat.reduceSub,Nat.reduceMul,Nat.reduceLeDiff,Nat.reduceEqDiff,Nat.reduceBEq,reduceCtorEq,vsK]
  refine awN_seq (awN_seq ?_)
  refine awN_nilTest 1 rfl rfl rfl rfl (show Tryz.prog.underlying 38 = some (.slice 77) from by kernel_rfl) ?_
  simp only [vqM,vt85,Nat.reduceAdd,Nat.reduceSub,Nat.reduceMul,Nat.reduceLeDiff,Nat.reduceEqDiff,Nat.reduceBEq,reduceCtorEq]
  refine kI_nil rfl rfl fun b _ => ?_
  simp only [vqM,vt85,Nat.reduceAdd,Nat.reduceSub,Nat.reduceMul,Nat.reduceLeDiff,Nat.reduceEqDiff,Nat.reduceBEq,reduceCtorEq,vsK]
  refine awN_cond (q:=b) rfl (fun h => ?_) (fun h => ?_)
  · refine awN_cw hmix ?_
    simp only [vqM,vt85,Nat.reduceAdd,Nat.reduceSub,Nat.reduceMul,Nat.reduceLeDiff,Nat.reduceEqDiff,Nat.reduceBEq,reduceCtorEq,vsK]
    refine ret_here (.inr rfl) ?_ hbd
    simp only [vqM,vt85,Nat.reduceAdd,Nat.reduceSub,Nat.reduceMul,Nat.reduceLeDiff,Nat.reduceEqDiff,Nat.reduceBEq,reduceCtorEq]
  · refine awN_cw hmix ?_
    simp only [vqM,vt85,Nat.reduceAdd,Nat.reduceSub,Nat.reduceMul,Nat.reduceLeDiff,Nat.reduceEqDiff,Nat.reduceBEq,reduceCtorEq,vsK]
    refine awN_cw hmix ?_
    simp only [vqM,vt85,Nat.reduceAdd,Nat.reduceSub,Nat.reduceMul,Nat.reduceLeDiff,Nat.reduceEqDiff,Nat.reduceBEq,reduceCtorEq,vsK]
    refine needI_intro (fun c hc => by simp at hc) ?_
    simp only [vqM,vt85,Nat.reduceAdd,Nat.reduceSub,Nat.reduceMul,Nat.reduceLeDiff,Nat.reduceEqDiff,Nat.reduceBEq,reduceCtorEq,vsK]
    refine ret_labG (.inr rfl) ?_ hbd (fun _ h => List.mem_cons_of_mem _ h) (by omega)
    simp only [vqM,vt85,Nat.reduceAdd,Nat.reduceSub,Nat.reduceMul,Nat.reduceLeDiff,Nat.reduceEqDiff,Nat.reduceBEq,reduceCtorEq]
end Go.V
