/-
  MergeConflicts answers true at every input. No condition.
-/
import Derived.Test.YtmfmcdomgagebaaGreatBase8
import Derived.Test.YtmfmcdomgagebaaGreatBase3
import Derived.Test.YtmfmcdomgagebaaGreatRows
open Nat renaming reduceAdd → zA, reduceSub → zS, reduceMul → zM, reduceLeDiff → zL, reduceEqDiff → zE, reduceBEq → zB
set_option linter.all false
set_option linter.unusedSimpArgs false
set_option linter.unusedVariables false
set_option linter.unnecessarySimpa false
namespace Go.V
open Go.Proofs
set_option maxRecDepth 20000
set_option maxHeartbeats 4000000
def inp27 (b:List Int) (l m:List Cg):D:=.agg [.slice .none (byteCells b),.slice .none (cgCells l),.slice .none (cgCells m)]
open Go.ChangeShapes Go.WideShapes
structure BytesT (P:Program) (t e:TypeId):Prop where
  sl:P.underlying t=some (.slice e)
  el:P.underlying e=some (.int .u8)
theorem In.bytes {P:Program} {t e:TypeId} (T:BytesT P t e) {ds:List D} (h:In P t ds):∃ b:List Int,(∀ x ∈ b,0≤x∧x<256)∧ds=[.slice .none (byteCells b)]:=by
  obtain ⟨xs,rfl,hx,_,_⟩:=h.slice_inv T.sl
  have key:∀ xs:List (List D),(∀ x ∈ xs,In P e x)→∃ b:List Int,(∀ x ∈ b,0≤x∧x<256)∧xs=byteCells b:=by
    intro xs
    induction xs with
    | nil=>intro _;exact ⟨[],fun x h=>by simp at h,rfl⟩
    | cons x xs ih =>
      intro h
      obtain ⟨b,h1,h2⟩:=ih fun y hy=>h y (by simp [hy])
      obtain ⟨n,rfl,hw⟩:=(h x (by simp)).int_inv T.el
      refine ⟨n::b,fun y hy=>?_,by rw [h2];rfl⟩
      rcases List.mem_cons.1 hy with rfl | hy
      · have h1:IntKind.u8.min=0:=rfl
        have h2:IntKind.u8.max=255:=rfl
        simp only [Lit.wf,Bool.and_eq_true,decide_eq_true_eq] at hw
        omega
      · exact h1 y hy
  obtain ⟨b,h1,h2⟩:=key xs hx
  exact ⟨b,h1,by rw [h2]⟩
structure CgT (P:Program) (t e:TypeId) (f0 f1 f2:Field):Prop where
  sl:P.underlying t=some (.slice e)
  st:P.underlying e=some (.struct #[f0,f1,f2])
  ce:P.cellsOf e=3
  u0:P.underlying f0.type=some (.int .u8)
  u1:P.underlying f1.type=some (.int .u8)
  u2:P.underlying f2.type=some (.int .u8)
  off:[f0.offset,f1.offset,f2.offset]=[0,1,2]
  cel:[P.cellsOf f0.type,P.cellsOf f1.type,P.cellsOf f2.type]=[1,1,1]
theorem u8_inV {n:Int} (hw:(Lit.int .u8 n).wf=true):0≤n∧n<256:=by
  have h1:IntKind.u8.min=0:=rfl
  have h2:IntKind.u8.max=255:=rfl
  simp only [Lit.wf,Bool.and_eq_true,decide_eq_true_eq] at hw
  omega
theorem In.cg {P:Program} {t e:TypeId} {f0 f1 f2:Field} (T:CgT P t e f0 f1 f2) {ds:List D} (h:In P t ds):∃ l:List Cg,(∀ z ∈ l,z.Ok)∧ds=[.slice .none (cgCells l)]:=by
  obtain ⟨xs,rfl,hx,_,_⟩:=h.slice_inv T.sl
  have one:∀ x,In P e x→∃ z:Cg,z.Ok∧x=z.cells:=by
    intro x hx
    obtain ⟨hl,hf⟩:=hx.struct_inv T.st
    rw [T.ce] at hl
    obtain ⟨d0,d1,d2,rfl⟩:∃ d0 d1 d2,x=[d0,d1,d2]:=by
      match x,hl with
      | [a,b,c],_=>exact ⟨a,b,c,rfl⟩
    have ho:=T.off
    have hc:=T.cel
    simp only [List.cons.injEq,and_true] at ho hc
    have h0:=hf f0 (by simp)
    have h1:=hf f1 (by simp)
    have h2:=hf f2 (by simp)
    rw [ho.1,hc.1] at h0
    rw [ho.2.1,hc.2.1] at h1
    rw [ho.2.2,hc.2.2] at h2
    obtain ⟨n0,e0,w0⟩:=h0.int_inv T.u0
    obtain ⟨n1,e1,w1⟩:=h1.int_inv T.u1
    obtain ⟨n2,e2,w2⟩:=h2.int_inv T.u2
    simp at e0 e1 e2
    subst e0 e1 e2
    exact ⟨⟨n0,n1,n2⟩,⟨u8_inV w0,u8_inV w1,u8_inV w2⟩,rfl⟩
  have key:∀ xs:List (List D),(∀ x ∈ xs,In P e x)→∃ l:List Cg,(∀ z ∈ l,z.Ok)∧xs=cgCells l:=by
    intro xs
    induction xs with
    | nil=>intro _;exact ⟨[],fun x h=>by simp at h,rfl⟩
    | cons x xs ih =>
      intro h
      obtain ⟨l,h1,h2⟩:=ih fun y hy=>h y (by simp [hy])
      obtain ⟨z,hz,rfl⟩:=one x (h x (by simp))
      refine ⟨z::l,fun y hy=>?_,by rw [h2];rfl⟩
      rcases List.mem_cons.1 hy with rfl | hy
      · exact hz
      · exact h1 y hy
  obtain ⟨b,h1,h2⟩:=key xs hx
  exact ⟨b,h1,by rw [h2]⟩
structure SidesT (P:Program) (t:TypeId) (f0 f1 f2 g:Field) (e ec:TypeId) (c0 c1 c2:Field):Prop where
  st:P.underlying t=some (.struct #[f0,f1,f2])
  ct:P.cellsOf t=3
  rs:P.underlying f0.type=some (.struct #[g])
  rg:g.offset=0∧P.cellsOf g.type=1
  rb:BytesT P g.type e
  k1:CgT P f1.type ec c0 c1 c2
  k2:CgT P f2.type ec c0 c1 c2
  off:[f0.offset,f1.offset,f2.offset]=[0,1,2]
  cel:[P.cellsOf f0.type,P.cellsOf f1.type,P.cellsOf f2.type]=[1,1,1]
theorem In.sides {P:Program} {t:TypeId} {f0 f1 f2 g:Field} {e ec:TypeId} {c0 c1 c2:Field} (T:SidesT P t f0 f1 f2 g e ec c0 c1 c2) {ds:List D} (h:In P t ds) :
    ∃ (b:List Int) (l m:List Cg),(∀ x ∈ b,0≤x∧x<256)∧(∀ z ∈ l,z.Ok)∧(∀ z ∈ m,z.Ok)∧D.agg ds=inp27 b l m:=by
  obtain ⟨hl,hf⟩:=h.struct_inv T.st
  rw [T.ct] at hl
  obtain ⟨d0,d1,d2,rfl⟩:∃ d0 d1 d2,ds=[d0,d1,d2]:=by
    match ds,hl with
    | [a,b,c],_=>exact ⟨a,b,c,rfl⟩
  have ho:=T.off
  have hc:=T.cel
  simp only [List.cons.injEq,and_true] at ho hc
  have h0:=hf f0 (by simp)
  have h1:=hf f1 (by simp)
  have h2:=hf f2 (by simp)
  rw [ho.1,hc.1] at h0
  rw [ho.2.1,hc.2.1] at h1
  rw [ho.2.2,hc.2.2] at h2
  obtain ⟨_,hg⟩:=h0.struct_inv T.rs
  have hg0:=hg g (by simp)
  rw [T.rg.1,T.rg.2] at hg0
  obtain ⟨b,hb,e0⟩:=In.bytes T.rb hg0
  obtain ⟨l,hl1,e1⟩:=In.cg T.k1 h1
  obtain ⟨m,hm1,e2⟩:=In.cg T.k2 h2
  simp at e0 e1 e2
  subst e0 e1 e2
  exact ⟨b,l,m,hb,hl1,hm1,rfl⟩
end Go.V
namespace Go.Proofs.YtmfmcdomgagebaaGreat
open Go.V Go.ChangeShapes Go.WideShapes
def fldAt (P:Program) (t:TypeId) (i:Nat):Field:=match P.underlying t with
  | some (.struct fs)=>fs.toList.getD i default
  | _=>default
theorem sidesT:SidesT Tryz.prog 27 (fldAt Tryz.prog 27 0) (fldAt Tryz.prog 27 1) (fldAt Tryz.prog 27 2) (fldAt Tryz.prog 24 0) (elemOf Tryz.prog (fldAt Tryz.prog 24 0).type) (elemOf Tryz.prog (fldAt Tryz.prog 27 1).type)
    (fldAt Tryz.prog 101 0) (fldAt Tryz.prog 101 1) (fldAt Tryz.prog 101 2) :=
  ⟨by kernel_rfl,by kernel_rfl,by kernel_rfl,⟨by kernel_rfl,by kernel_rfl⟩,⟨by kernel_rfl,by kernel_rfl⟩,⟨by kernel_rfl,by kernel_rfl,by kernel_rfl,by kernel_rfl,by kernel_rfl,by kernel_rfl,by kernel_rfl,by kernel_rfl⟩,⟨by kernel_rfl,by kernel_rfl,by kernel_rfl,by kernel_rfl,by kernel_rfl,by kernel_rfl,by kernel_rfl,by kernel_rfl⟩,by kernel_rfl,by kernel_rfl⟩
theorem sidesOk:okIn Tryz.prog 6 27=true:=by kernel_rfl
end Go.Proofs.YtmfmcdomgagebaaGreat
namespace Go.V
open Go.Proofs
set_option maxRecDepth 20000
set_option maxHeartbeats 4000000
theorem changed_len {p q:Pg} (hp:p.heads.length≤900) (hq:q.heads.length≤900):(changedS p q).length≤2000:=by
  have h1:=List.length_filter_le (fun id=>!decide (entE p id=entE q id)) (keysS [p,q])
  have h2:=compL_le (sortI ([p,q].flatMap idsS))
  have h3:(sortI ([p,q].flatMap idsS)).length=_:=(sortI_perm _).length_eq
  have h4:([p,q].flatMap idsS).length=(p.heads.length+1)+(q.heads.length+1):=by simp [idsS];omega
  unfold changedS
  unfold keysS at h1 ⊢
  omega
theorem prog_270 (p:Pg):programS p≠270:=by
  unfold programS
  repeat' split
  all_goals decide
theorem three_confl (p a b:Pg):(mgS (threeS p a b)).c=conflS p a b∧decide ((mgS (threeS p a b)).e=270)=decide (0<((conflS p a b).length:Int)):=by
  unfold threeS
  by_cases h1:(conflS p a b).length > 0
  · rw [if_pos h1]
    refine ⟨rfl,?_⟩
    have:0<((conflS p a b).length:Int):=by omega
    rw [decide_eq_true this];rfl
  · rw [if_neg h1]
    have h0:conflS p a b=[]:=List.eq_nil_of_length_eq_zero (by omega)
    rw [h0]
    split
    · refine ⟨rfl,?_⟩
      have:=prog_270 (mergedS p a b)
      simp [mgS,this]
    · exact ⟨rfl,by simp [mgS]⟩
theorem t_MergeConflicts (b:List Int) (hb:∀ x ∈ b,0≤x∧x<256) (l m:List Cg) (hl:∀ z ∈ l,z.Ok) (hm:∀ z ∈ m,z.Ok) (s:St):Spec Tryz.prog 7 [inp27 b l m] s (.bool true) s:=by
  have M0:=(made_var hb).mrg (by omega)
  have M1:=(variant_ok (made_var hb) hl).mrg (by omega)
  have M2:=(variant_ok (made_var hb) hm).mrg (by omega)
  have hmade:=fun s=>t_made27 b hb l m hl hm s
  generalize made b=p at *
  generalize variantS p l=q1 at *
  generalize variantS p m=q2 at *
  have N0:=M0.n
  have N1:=M1.n
  have N2:=M2.n
  have e1:=side_same (p:=p) M1.nc M1.pr
  have e2:threeS q1 q1 q2=(q2,[],0):=side_right M2.nc M2.pr
  have hcf:=confl_eq p q1 q2
  have hclen:=changed_len N0.hl N1.hl
  obtain ⟨B,L,c⟩:=s
  simp only [inp27]
  refine Spec.introN [(6,.text [false,false,true,false,false,true,false,false,true,false,false,false,false,false] [(3,0),(4,0),(6,0),(6,1),(7,0),(7,1)])] Tryz.func7 rfl (by decide) hmix (by kernel_rfl) [ResultVar.tmp 2] 94 rfl rfl ?_
  simp only [vqM,vt99,Tryz.f7,zA,zS,zM,zL,zE,zB,reduceCtorEq]
  refine callI_spec (t_examples27 _) ?_
  simp only [vqM,vt99,zA,zS,zM,zL,zE,zB,reduceCtorEq]
  refine callI_spec (hmade _) ?_
  simp only [vqM,vt99,zA,zS,zM,zL,zE,zB,reduceCtorEq]
  refine callI_spec (t_three27 _ _ _ N0 N1 N2 _) ?_
  have d0:∀ q:Mg,List.drop 12 q.cells=[]:=fun _=>rfl
  simp only [vqM,vt99,zA,zS,zM,zL,zE,zB,reduceCtorEq,vsMg,d0,List.append_nil]
  repeat' (first
    | (with_reducible refine needI_intro ?_ ?_)
    | (with_reducible refine And.intro ?_ ?_)
    | ((with_reducible refine is_call ?_);refine callI_spec (t_Changed _ _ N0.nc N1.nc N0.hl N1.hl _) ?_;simp only [vqM,vt99,zA,zS,zM,zL,zE,zB,reduceCtorEq,vsMg])
    | ((with_reducible refine is_call ?_);refine callI_spec (t_Changed _ _ N0.nc N2.nc N0.hl N2.hl _) ?_;simp only [vqM,vt99,zA,zS,zM,zL,zE,zB,reduceCtorEq,vsMg])
    | ((with_reducible refine is_call ?_);refine callI_spec (t_Changed _ _ N1.nc N2.nc N1.hl N2.hl _) ?_;simp only [vqM,vt99,zA,zS,zM,zL,zE,zB,reduceCtorEq,vsMg])
    | (with_reducible refine is_pN ?_;simp only [vqM,vt99,zA,zS,zM,zL,zE,zB,reduceCtorEq,vsMg]))
  refine awN_keep [3,4,5,6,7,8,9,10,11,12] ?_
  simp only [vke,zB,zA]
  generalize hA:changedS p q1=lf at hclen hcf ⊢
  generalize changedS p q2=rt at hcf ⊢
  generalize changedS q1 q2=ap at hcf ⊢
  have hth:threeS p q1 q2=threeS p q1 q2:=rfl
  refine awN_forR hmix lf.length (fun k e s=>∃ out:List Int,out=(lf.take k).filter (fun id=>rt.contains id && ap.contains id)∧e=[.junk,.junk,.junk,.bool true,.box (B.length+1) 0,.box (B.length+2) 0,.box (B.length+3) 0,.box (B.length+4) 0,.slice .none (intCells lf),.slice .none (intCells rt),.slice .none (intCells ap),.slice (ownF c 1 out.length) (intCells out),.int .i64 (k:Int),.junk,.junk,.junk,.junk,.junk,.junk,.junk,.junk,.junk,.junk,.junk,.junk,.junk,.junk,.junk,.junk,.junk,.junk,.junk,.junk,.junk,.junk,.junk,.junk,.junk,.junk,.junk,.junk,.junk,.junk,.junk,.junk,.junk,.junk,.junk,.junk,.junk,.junk,.junk,.junk,.junk,.junk,.junk,.junk,.junk,.junk,.junk,.junk,.junk,.junk,.junk,.junk,.junk,.junk,.junk,.junk,.junk,.junk,.junk,.junk,.junk,.junk,.junk,.junk,.junk,.junk,.junk,.junk,.junk,.junk,.junk,.junk,.junk,.junk,.junk,.junk,.junk,.junk,.junk,.junk,.junk]∧s=⟨B++[.cells [.slice .none (byteCells b),.slice .none (cgCells l),.slice .none (cgCells m)],.cells p.cells,.cells q1.cells,.cells q2.cells,.cells (mgS (threeS p q1 q2)).cells],liveN L c out.length,c+out.length⟩) ?_ ?_ 0 _ _ (Nat.zero_le _) ⟨[],by simp,rfl,rfl⟩
  · rintro k e s hk ⟨out,hout,rfl,rfl⟩ ih
    have hx:lf[k]? = some lf[k]:=List.getElem?_eq_getElem hk
    have hg:=intAt hk
    have hklt:((k:Int)<(lf.length:Int))=True:=by simp;exact hk
    have hnext:(lf.take (k+1)).filter (fun id=>rt.contains id && ap.contains id)=if rt.contains lf[k] && ap.contains lf[k] then out++[lf[k]] else out:=by
      rw [List.take_add_one,hx,Option.toList_some,List.filter_append,← hout]
      cases h:(rt.contains lf[k] && ap.contains lf[k]) <;> simp only [List.filter_cons,List.filter_nil,h,if_true,if_false,Bool.false_eq_true,List.append_nil]
    have hol:out.length≤k:=by rw [hout];exact Nat.le_trans (List.length_filter_le _ _) (by simp;omega)
    have hof:∀ B',ownFits (ownF c 1 out.length) (intCells out) 1 ⟨B',liveN L c out.length,c+out.length⟩=true:=fun B'=>ownF_fits (intCells_each _)
    have hl1:(out.length+1≤1000000)=True:=eq_true (by omega)
    generalize lf[k]=y at hx hg hnext
    simp only [vqM,vt99,zA,zS,zM,zL,zE,zB,reduceCtorEq,intCells_len,hklt,decide_true,natle0,Int.toNat_natCast,hg]
    refine callI_spec (t_Has _ _ _) ?_
    simp only [vqM,vt99,zA,zS,zM,zL,zE,zB,reduceCtorEq,intCells_len,natle0,Int.toNat_natCast,hg]
    refine ifI_intro (fun hc=>?_) (fun hc=>?_)
    · simp only [vqM,vt99,zA,zS,zM,zL,zE,zB,reduceCtorEq,intCells_len,natle0,Int.toNat_natCast,hg,hof,ownF_relab,hl1,intCells_app,hc]
      refine callI_spec (t_Has _ _ _) ?_
      simp only [vqM,vt99,zA,zS,zM,zL,zE,zB,reduceCtorEq,intCells_len,natle0,Int.toNat_natCast,hg,hc]
      refine ifI_intro (fun hd=>?_) (fun hd=>?_)
      · rw [hc,hd] at hnext
        simp only [vqM,vt99,zA,zS,zM,zL,zE,zB,reduceCtorEq,intCells_len,natle0,Int.toNat_natCast,hg,hof,ownF_relab,hl1,intCells_app]
        rw [wrap_succ (by omega)]
        refine awN_keep [3,4,5,6,7,8,9,10,11,12] ?_
        simp only [vke,zB,zA]
        refine ih _ _ ⟨out++[y],hnext.symm,?_,?_⟩ <;> simp [ownF]
      · rw [hc,hd] at hnext
        simp only [vqM,vt99,zA,zS,zM,zL,zE,zB,reduceCtorEq,intCells_len,natle0,Int.toNat_natCast,hg]
        rw [wrap_succ (by omega)]
        refine awN_keep [3,4,5,6,7,8,9,10,11,12] ?_
        simp only [vke,zB,zA]
        exact ih _ _ ⟨out,hnext.symm,rfl,rfl⟩
    · rw [hc,Bool.false_and] at hnext
      simp only [vqM,vt99,zA,zS,zM,zL,zE,zB,reduceCtorEq,intCells_len,natle0,Int.toNat_natCast,hg,hc]
      rw [wrap_succ (by omega)]
      refine awN_keep [3,4,5,6,7,8,9,10,11,12] ?_
      simp only [vke,zB,zA]
      exact ih _ _ ⟨out,hnext.symm,rfl,rfl⟩
  · rintro e s ⟨out,hout,rfl,rfl⟩
    have hklt:((lf.length:Int)<(lf.length:Int))=False:=by simp
    rw [List.take_length,← hcf] at hout
    obtain ⟨t1,t2⟩:=three_confl p q1 q2
    rw [← hout] at t1 t2
    have g11:∀ q:Mg,q.cells[11]? = some (.int .i64 q.e):=fun _=>rfl
    have d1:(mgS (q1,[],0)).e=0:=rfl
    have d2:(mgS (q2,[],0)).e=0:=rfl
    simp only [vqM,vt99,zA,zS,zM,zL,zE,zB,reduceCtorEq,intCells_len,hklt,decide_false,vsMg,t2,t1]
    refine callI_spec (t_SameInts _ _ _) ?_
    simp only [vqM,vt99,zA,zS,zM,zL,zE,zB,reduceCtorEq,vsMg,decide_true]
    refine callI_spec (t_three27 _ _ _ N0 N1 N1 _) ?_
    rw [e1]
    simp only [vqM,vt99,zA,zS,zM,zL,zE,zB,reduceCtorEq,vsMg,g11,Option.map_some,d1,decide_true]
    refine callI_spec (t_three27 _ _ _ N1 N1 N2 _) ?_
    rw [e2]
    simp only [vqM,vt99,zA,zS,zM,zL,zE,zB,reduceCtorEq,vsMg,g11,Option.map_some,d2,decide_true]
    refine ret_loc (.inr rfl) ?_ (.bool _) (fun _ h=>mem_liveN h) (by omega)
    simp only [vqM,vt99,zA,zS,zM,zL,zE,zB,reduceCtorEq]
end Go.V
namespace Go.Proofs.YtmfmcdomgagebaaGreat
open Go.V Go.ChangeShapes Go.WideShapes
set_option maxRecDepth 20000
set_option maxHeartbeats 4000000
theorem conflicts_holds_lifted (os:Os) (started:os.Started) (H:Type) (enc:TypeId × Value→H) :
    ReturnsInHanded {} Tryz.checked os 7 .any (Rows.mergeConflictsSpec.pre6 enc Tryz.prog Tryz.f7 Rows.mergeConflictsRow.domain false) (Rows.mergeConflictsSpec.post enc Tryz.prog Tryz.f7 false Rows.mergeConflictsRow.fresh Rows.mergeConflictsRow.handsOn Rows.mergeConflictsRow.again):=by
  refine returnsInHanded_of_change_sized (C:=Tryz.checked) own started (by kernel_rfl) Tryz.func7
    (ChangeSpec.witness6 (enc:=enc) (C:=Tryz.checked) false ⟨#[],#[.agg #[.slice none 0 0,.slice none 0 0,.slice none 0 0]],[]⟩ 8 (by kernel_rfl) (by kernel_rfl) (by kernel_rfl) (by kernel_rfl)) ?_
  intro W base args ds gs before hval0 hW _ hwt _
  have hval:∀ (j:Nat) t v,Tryz.f7.params[j]? = some t→args[j]? = some v→Value.okWide Tryz.prog W .any base t v:=hval0
  have hW':=hW
  obtain ⟨p,q,hA0,hV,rfl,hfz,_⟩:=hW
  obtain ⟨rfl,rfl⟩:=trodVars_none hV
  have hpar:Tryz.f7.params.toList=[27]:=by kernel_rfl
  have hA:DataW.TrodAll enc Tryz.prog W 0 (fun _=>true) true Tryz.f7.params.toList args.toList ds p:=hA0
  rw [hpar] at hA
  obtain ⟨v0,d0,rfl,rfl,h0⟩:=trodAll_one hA
  have hwt0:(d0.weights Tryz.prog 27).all (· ≤ reachBytes)=true:=by
    refine List.all_eq_true.2 fun x hx=>List.all_eq_true.1 hwt x ?_
    exact DataW.weights_mem_each (j:=0) (t:=27) (d:=d0) (by kernel_rfl) rfl x hx
  obtain ⟨xs,hin,hR⟩:=arg_in 6 sidesT.st sidesOk hwt0 (hval 0 27 v0 (by kernel_rfl) rfl) h0
  obtain ⟨b,l,m,hb,hl,hm,hx⟩:=In.sides sidesT hin
  rw [hx] at hR
  have hspec:=t_MergeConflicts b hb l m hl hm ⟨[],[],0⟩
  refine (spec_calls hspec (w:=W) (vs:=#[v0]) ⟨rfl,fun i h1 h2=>?_⟩).mono fun e W' ⟨he,k1,k2,k3,k4⟩=>?_
  · match i,h2 with
    | 0,_=>exact hR
  · exact ⟨_,he,post_true (tb:=4) kids full (by rw [hpar];decide +kernel) rfl (by kernel_rfl) (by kernel_rfl) hW' rfl rfl rfl k1 k2 k3 k4⟩
theorem conflicts_holds:Rows.MergeConflictsSaid :=
  OpenClaim.holds_of_wide 7 Tryz.f7 rfl rfl rfl rfl rfl rfl rfl ⟨rfl,rfl,rfl,rfl,rfl⟩ rfl rfl rfl rfl rfl (by kernel_rfl) Tryz.func7 (by kernel_rfl)
    (of_decide_eq_true (by kernel_rfl)) (by unfold Func.isWrapper;first | (rw [if_pos (by decide +kernel)];kernel_rfl) | (rw [if_neg (by decide +kernel)];exact ⟨rfl,rfl⟩))
    (fun os started H enc _=>conflicts_holds_lifted os started H enc)
#print axioms conflicts_holds
end Go.Proofs.YtmfmcdomgagebaaGreat
