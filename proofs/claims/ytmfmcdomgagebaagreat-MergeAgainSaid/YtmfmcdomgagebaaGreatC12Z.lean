/-
  MergeAgain answers true at every input. No condition.
-/
import Derived.Test.YtmfmcdomgagebaaGreatBase8
import Derived.Test.YtmfmcdomgagebaaGreatBase3
import Derived.Test.YtmfmcdomgagebaaGreatRows
open Nat renaming reduceAdd → zA, reduceSub → zS, reduceMul → zM, reduceLeDiff → zL, reduceEqDiff → zE, reduceBEq → zB
set_option linter.all false
set_option linter.unusedSimpArgs false
set_option linter.unusedVariables false
set_option linter.unnecessarySimpa false
namespace Go.V
open Go.Proofs
set_option maxRecDepth 20000
set_option maxHeartbeats 4000000
def inp27 (b:List Int) (l m:List Cg):D:=.agg [.slice .none (byteCells b),.slice .none (cgCells l),.slice .none (cgCells m)]
open Go.ChangeShapes Go.WideShapes
structure BytesT (P:Program) (t e:TypeId):Prop where
  sl:P.underlying t=some (.slice e)
  el:P.underlying e=some (.int .u8)
theorem In.bytes {P:Program} {t e:TypeId} (T:BytesT P t e) {ds:List D} (h:In P t ds):∃ b:List Int,(∀ x ∈ b,0≤x∧x<256)∧ds=[.slice .none (byteCells b)]:=by
  obtain ⟨xs,rfl,hx,_,_⟩:=h.slice_inv T.sl
  have key:∀ xs:List (List D),(∀ x ∈ xs,In P e x)→∃ b:List Int,(∀ x ∈ b,0≤x∧x<256)∧xs=byteCells b:=by
    intro xs
    induction xs with
    | nil=>intro _;exact ⟨[],fun x h=>by simp at h,rfl⟩
    | cons x xs ih =>
      intro h
      obtain ⟨b,h1,h2⟩:=ih fun y hy=>h y (by simp [hy])
      obtain ⟨n,rfl,hw⟩:=(h x (by simp)).int_inv T.el
      refine ⟨n::b,fun y hy=>?_,by rw [h2];rfl⟩
      rcases List.mem_cons.1 hy with rfl | hy
      · have h1:IntKind.u8.min=0:=rfl
        have h2:IntKind.u8.max=255:=rfl
        simp only [Lit.wf,Bool.and_eq_true,decide_eq_true_eq] at hw
        omega
      · exact h1 y hy
  obtain ⟨b,h1,h2⟩:=key xs hx
  exact ⟨b,h1,by rw [h2]⟩
structure CgT (P:Program) (t e:TypeId) (f0 f1 f2:Field):Prop where
  sl:P.underlying t=some (.slice e)
  st:P.underlying e=some (.struct #[f0,f1,f2])
  ce:P.cellsOf e=3
  u0:P.underlying f0.type=some (.int .u8)
  u1:P.underlying f1.type=some (.int .u8)
  u2:P.underlying f2.type=some (.int .u8)
  off:[f0.offset,f1.offset,f2.offset]=[0,1,2]
  cel:[P.cellsOf f0.type,P.cellsOf f1.type,P.cellsOf f2.type]=[1,1,1]
theorem u8_inV {n:Int} (hw:(Lit.int .u8 n).wf=true):0≤n∧n<256:=by
  have h1:IntKind.u8.min=0:=rfl
  have h2:IntKind.u8.max=255:=rfl
  simp only [Lit.wf,Bool.and_eq_true,decide_eq_true_eq] at hw
  omega
theorem In.cg {P:Program} {t e:TypeId} {f0 f1 f2:Field} (T:CgT P t e f0 f1 f2) {ds:List D} (h:In P t ds):∃ l:List Cg,(∀ z ∈ l,z.Ok)∧ds=[.slice .none (cgCells l)]:=by
  obtain ⟨xs,rfl,hx,_,_⟩:=h.slice_inv T.sl
  have one:∀ x,In P e x→∃ z:Cg,z.Ok∧x=z.cells:=by
    intro x hx
    obtain ⟨hl,hf⟩:=hx.struct_inv T.st
    rw [T.ce] at hl
    obtain ⟨d0,d1,d2,rfl⟩:∃ d0 d1 d2,x=[d0,d1,d2]:=by
      match x,hl with
      | [a,b,c],_=>exact ⟨a,b,c,rfl⟩
    have ho:=T.off
    have hc:=T.cel
    simp only [List.cons.injEq,and_true] at ho hc
    have h0:=hf f0 (by simp)
    have h1:=hf f1 (by simp)
    have h2:=hf f2 (by simp)
    rw [ho.1,hc.1] at h0
    rw [ho.2.1,hc.2.1] at h1
    rw [ho.2.2,hc.2.2] at h2
    obtain ⟨n0,e0,w0⟩:=h0.int_inv T.u0
    obtain ⟨n1,e1,w1⟩:=h1.int_inv T.u1
    obtain ⟨n2,e2,w2⟩:=h2.int_inv T.u2
    simp at e0 e1 e2
    subst e0 e1 e2
    exact ⟨⟨n0,n1,n2⟩,⟨u8_inV w0,u8_inV w1,u8_inV w2⟩,rfl⟩
  have key:∀ xs:List (List D),(∀ x ∈ xs,In P e x)→∃ l:List Cg,(∀ z ∈ l,z.Ok)∧xs=cgCells l:=by
    intro xs
    induction xs with
    | nil=>intro _;exact ⟨[],fun x h=>by simp at h,rfl⟩
    | cons x xs ih =>
      intro h
      obtain ⟨l,h1,h2⟩:=ih fun y hy=>h y (by simp [hy])
      obtain ⟨z,hz,rfl⟩:=one x (h x (by simp))
      refine ⟨z::l,fun y hy=>?_,by rw [h2];rfl⟩
      rcases List.mem_cons.1 hy with rfl | hy
      · exact hz
      · exact h1 y hy
  obtain ⟨b,h1,h2⟩:=key xs hx
  exact ⟨b,h1,by rw [h2]⟩
structure SidesT (P:Program) (t:TypeId) (f0 f1 f2 g:Field) (e ec:TypeId) (c0 c1 c2:Field):Prop where
  st:P.underlying t=some (.struct #[f0,f1,f2])
  ct:P.cellsOf t=3
  rs:P.underlying f0.type=some (.struct #[g])
  rg:g.offset=0∧P.cellsOf g.type=1
  rb:BytesT P g.type e
  k1:CgT P f1.type ec c0 c1 c2
  k2:CgT P f2.type ec c0 c1 c2
  off:[f0.offset,f1.offset,f2.offset]=[0,1,2]
  cel:[P.cellsOf f0.type,P.cellsOf f1.type,P.cellsOf f2.type]=[1,1,1]
theorem In.sides {P:Program} {t:TypeId} {f0 f1 f2 g:Field} {e ec:TypeId} {c0 c1 c2:Field} (T:SidesT P t f0 f1 f2 g e ec c0 c1 c2) {ds:List D} (h:In P t ds) :
    ∃ (b:List Int) (l m:List Cg),(∀ x ∈ b,0≤x∧x<256)∧(∀ z ∈ l,z.Ok)∧(∀ z ∈ m,z.Ok)∧D.agg ds=inp27 b l m:=by
  obtain ⟨hl,hf⟩:=h.struct_inv T.st
  rw [T.ct] at hl
  obtain ⟨d0,d1,d2,rfl⟩:∃ d0 d1 d2,ds=[d0,d1,d2]:=by
    match ds,hl with
    | [a,b,c],_=>exact ⟨a,b,c,rfl⟩
  have ho:=T.off
  have hc:=T.cel
  simp only [List.cons.injEq,and_true] at ho hc
  have h0:=hf f0 (by simp)
  have h1:=hf f1 (by simp)
  have h2:=hf f2 (by simp)
  rw [ho.1,hc.1] at h0
  rw [ho.2.1,hc.2.1] at h1
  rw [ho.2.2,hc.2.2] at h2
  obtain ⟨_,hg⟩:=h0.struct_inv T.rs
  have hg0:=hg g (by simp)
  rw [T.rg.1,T.rg.2] at hg0
  obtain ⟨b,hb,e0⟩:=In.bytes T.rb hg0
  obtain ⟨l,hl1,e1⟩:=In.cg T.k1 h1
  obtain ⟨m,hm1,e2⟩:=In.cg T.k2 h2
  simp at e0 e1 e2
  subst e0 e1 e2
  exact ⟨b,l,m,hb,hl1,hm1,rfl⟩
end Go.V
namespace Go.Proofs.YtmfmcdomgagebaaGreat
open Go.V Go.ChangeShapes Go.WideShapes
def fldAt (P:Program) (t:TypeId) (i:Nat):Field:=match P.underlying t with
  | some (.struct fs)=>fs.toList.getD i default
  | _=>default
theorem sidesT:SidesT Tryz.prog 27 (fldAt Tryz.prog 27 0) (fldAt Tryz.prog 27 1) (fldAt Tryz.prog 27 2) (fldAt Tryz.prog 24 0) (elemOf Tryz.prog (fldAt Tryz.prog 24 0).type) (elemOf Tryz.prog (fldAt Tryz.prog 27 1).type)
    (fldAt Tryz.prog 101 0) (fldAt Tryz.prog 101 1) (fldAt Tryz.prog 101 2) :=
  ⟨by kernel_rfl,by kernel_rfl,by kernel_rfl,⟨by kernel_rfl,by kernel_rfl⟩,⟨by kernel_rfl,by kernel_rfl⟩,⟨by kernel_rfl,by kernel_rfl,by kernel_rfl,by kernel_rfl,by kernel_rfl,by kernel_rfl,by kernel_rfl,by kernel_rfl⟩,⟨by kernel_rfl,by kernel_rfl,by kernel_rfl,by kernel_rfl,by kernel_rfl,by kernel_rfl,by kernel_rfl,by kernel_rfl⟩,by kernel_rfl,by kernel_rfl⟩
theorem sidesOk:okIn Tryz.prog 6 27=true:=by kernel_rfl
end Go.Proofs.YtmfmcdomgagebaaGreat
namespace Go.V
open Go.Proofs
set_option maxRecDepth 20000
set_option maxHeartbeats 4000000
def Ag2 (P0 P1 P2:Pg) (M U V:Mg) (B:List Box) (L:List Nat) (c:Nat) (e:List D) (s:St):Prop :=
  ∃ i j C,keep [3,4,5,6,7,8,9] e=[.junk,.junk,.junk,.bool true,.box (B.length+1) 0,.box (B.length+2) 0,.box (B.length+3) 0,.box (B.length+4) 0,.box i 0,.box j 0,.junk,.junk,.junk,.junk,.junk,.junk,.junk,.junk,.junk,.junk,.junk,.junk,.junk,.junk,.junk,.junk,.junk,.junk,.junk,.junk,.junk,.junk,.junk,.junk,.junk,.junk,.junk,.junk,.junk,.junk,.junk,.junk,.junk,.junk,.junk,.junk,.junk,.junk,.junk,.junk,.junk,.junk,.junk,.junk,.junk,.junk,.junk,.junk,.junk,.junk,.junk,.junk,.junk,.junk,.junk,.junk,.junk,.junk,.junk,.junk,.junk,.junk,.junk,.junk,.junk,.junk,.junk,.junk,.junk,.junk]∧s=⟨B++C,L,c⟩∧(B++C)[i]? = some (.cells U.cells)∧(B++C)[j]? = some (.cells V.cells)∧(B++C)[B.length+1]? = some (.cells P0.cells)∧(B++C)[B.length+2]? = some (.cells P1.cells)∧(B++C)[B.length+3]? = some (.cells P2.cells)∧(B++C)[B.length+4]? = some (.cells M.cells)
theorem ag2_mk {P0 P1 P2:Pg} {M U V:Mg} {B C:List Box} {L:List Nat} {c i j:Nat} {e:List D} {s:St} (h1:keep [3,4,5,6,7,8,9] e=[.junk,.junk,.junk,.bool true,.box (B.length+1) 0,.box (B.length+2) 0,.box (B.length+3) 0,.box (B.length+4) 0,.box i 0,.box j 0,.junk,.junk,.junk,.junk,.junk,.junk,.junk,.junk,.junk,.junk,.junk,.junk,.junk,.junk,.junk,.junk,.junk,.junk,.junk,.junk,.junk,.junk,.junk,.junk,.junk,.junk,.junk,.junk,.junk,.junk,.junk,.junk,.junk,.junk,.junk,.junk,.junk,.junk,.junk,.junk,.junk,.junk,.junk,.junk,.junk,.junk,.junk,.junk,.junk,.junk,.junk,.junk,.junk,.junk,.junk,.junk,.junk,.junk,.junk,.junk,.junk,.junk,.junk,.junk,.junk,.junk,.junk,.junk,.junk,.junk]) (h2:s=⟨B++C,L,c⟩) (h3:(B++C)[i]? = some (.cells U.cells)) (h4:(B++C)[j]? = some (.cells V.cells)) (h5:(B++C)[B.length+1]? = some (.cells P0.cells)) (h6:(B++C)[B.length+2]? = some (.cells P1.cells)) (h7:(B++C)[B.length+3]? = some (.cells P2.cells)) (h8:(B++C)[B.length+4]? = some (.cells M.cells)):Ag2 P0 P1 P2 M U V B L c e s:=⟨i,j,C,h1,h2,h3,h4,h5,h6,h7,h8⟩
theorem t_MergeAgain (b:List Int) (hb:∀ x ∈ b,0≤x∧x<256) (l m:List Cg) (hl:∀ z ∈ l,z.Ok) (hm:∀ z ∈ m,z.Ok) (s:St):Spec Tryz.prog 8 [inp27 b l m] s (.bool true) s:=by
  have M0:=(made_var hb).mrg (by omega)
  have M1:=(variant_ok (made_var hb) hl).mrg (by omega)
  have M2:=(variant_ok (made_var hb) hm).mrg (by omega)
  have hmade:=fun s=>t_made27 b hb l m hl hm s
  generalize made b=p at *
  generalize variantS p l=q1 at *
  generalize variantS p m=q2 at *
  have N0:=M0.n
  have N1:=M1.n
  have N2:=M2.n
  obtain ⟨B,L,c⟩:=s
  simp only [inp27]
  refine Spec.introN [(5,.cut),(8,.stop)] Tryz.func8 rfl (by decide) hmix (by kernel_rfl) [ResultVar.tmp 2] 80 rfl rfl ?_
  simp only [vqM,vt102,Tryz.f8,zA,zS,zM,zL,zE,zB,reduceCtorEq]
  refine callI_spec (t_examples27 _) ?_
  simp only [vqM,vt102,zA,zS,zM,zL,zE,zB,reduceCtorEq]
  refine callI_spec (hmade _) ?_
  simp only [vqM,vt102,zA,zS,zM,zL,zE,zB,reduceCtorEq]
  refine seq_go ?_
  simp only [vqM,vt102,zA,zS,zM,zL,zE,zB,reduceCtorEq]
  refine callI_spec (t_three27 _ _ _ N0 N1 N2 _) ?_
  have d0:∀ q:Mg,List.drop 12 q.cells=[]:=fun _=>rfl
  simp only [vqM,vt102,zA,zS,zM,zL,zE,zB,reduceCtorEq,vsMg,vsK,d0,List.append_nil]
  by_cases h0:(mgS (threeS p q1 q2)).e=0
  · have e0:=(three_ok_iff (p:=p) (a:=q1) (b:=q2) h0).2.2
    have hr:=(three_ok_iff (p:=p) (a:=q1) (b:=q2) h0).2.1
    obtain ⟨e1,e2,e3⟩:=again (p:=p) (a:=q1) (b:=q2) h0
    have NM:=merged_n N0 N1 N2 hr
    rw [e0]
    generalize mergedS p q1 q2=M at e0 e1 e2 e3 NM ⊢
    have dE:(mgS (M,[],0)).e=0:=rfl
    have dP:(mgS (M,[],0)).p=M:=rfl
    refine awN_joinI (fun e s=>keep [3,4,5,6,7] e=[.junk,.junk,.junk,.bool true,.box (B.length+1) 0,.box (B.length+2) 0,.box (B.length+3) 0,.box (B.length+4) 0,.junk,.junk,.junk,.junk,.junk,.junk,.junk,.junk,.junk,.junk,.junk,.junk,.junk,.junk,.junk,.junk,.junk,.junk,.junk,.junk,.junk,.junk,.junk,.junk,.junk,.junk,.junk,.junk,.junk,.junk,.junk,.junk,.junk,.junk,.junk,.junk,.junk,.junk,.junk,.junk,.junk,.junk,.junk,.junk,.junk,.junk,.junk,.junk,.junk,.junk,.junk,.junk,.junk,.junk,.junk,.junk,.junk,.junk,.junk,.junk,.junk,.junk,.junk,.junk,.junk,.junk,.junk,.junk,.junk,.junk,.junk,.junk]∧s=⟨B++[.cells [.slice .none (byteCells b),.slice .none (cgCells l),.slice .none (cgCells m)],.cells p.cells,.cells q1.cells,.cells q2.cells,.cells (mgS (M,[],0)).cells],L,c⟩) ?_ ?_
    · refine awN_cw hmix ?_
      simp only [vqM,vt102,zA,zS,zM,zL,zE,zB,reduceCtorEq,vsMg,d0,List.append_nil,dE,vsK,ne_eq,not_true_eq_false,decide_false]
      exact joinI_intro ⟨by simp only [vke,zB,zA],rfl⟩
    rintro e s ⟨he,rfl⟩
    refine awN_keep [3,4,5,6,7] ?_
    rw [he]
    clear he
    refine awN_seq ?_
    refine awN_open fun _=>?_
    refine awI_cutI (Ag2 p q1 q2 (mgS (M,[],0)) (mgS (M,[],0)) (mgS (M,[],0)) B L c) ?_ ?_
    · skip
      refine awI_drawM hmix [10,11,12,13] [⟨[0,1,2,3,4,5,6,7,8,9,10,11,12,13],[(0,1),(0,2),(2,1),(2,2),(3,1),(3,2),(4,1),(4,2),(5,1),(5,2),(7,1),(7,2),(8,1),(8,2),(9,1),(9,2)]⟩,⟨[0,1,2,3,4,5,6,7,8,9,11,10,12,13],[(0,1),(0,2),(2,1),(2,2),(3,1),(3,2),(4,1),(4,2),(5,1),(5,2),(7,1),(7,2),(8,1),(8,2),(9,1),(9,2)]⟩] (by kernel_rfl) fun pl hpl=>?_
      simp only [List.mem_cons,List.not_mem_nil,or_false] at hpl
      rcases hpl with rfl | rfl
      all_goals
        simp only [vqM,vt102,zA,zS,zM,zL,zE,zB,reduceCtorEq,dP,vsMg,e1,e2,List.getD_cons_zero,List.getD_cons_succ,List.contains_cons,List.contains_nil,Bool.or_false,Bool.or_true,Bool.true_or,Bool.false_or]
      all_goals
        repeat' (first
          | (with_reducible refine needI_intro ?_ ?_)
          | (with_reducible refine And.intro ?_ ?_)
          | ((with_reducible refine is_call ?_);refine callI_spec (t_three27 _ _ _ N0 NM N1 _) ?_;simp only [vqM,vt102,zA,zS,zM,zL,zE,zB,reduceCtorEq,dP,vsMg,e1,e2,List.getD_cons_zero,List.getD_cons_succ,List.contains_cons,List.contains_nil,Bool.or_false,Bool.or_true,Bool.true_or,Bool.false_or])
          | ((with_reducible refine is_call ?_);refine callI_spec (t_three27 _ _ _ N1 NM N1 _) ?_;simp only [vqM,vt102,zA,zS,zM,zL,zE,zB,reduceCtorEq,dP,vsMg,e1,e2,List.getD_cons_zero,List.getD_cons_succ,List.contains_cons,List.contains_nil,Bool.or_false,Bool.or_true,Bool.true_or,Bool.false_or])
          | (with_reducible refine is_pN ?_;simp only [vqM,vt102,zA,zS,zM,zL,zE,zB,reduceCtorEq,dP,vsMg,e1,e2,List.getD_cons_zero,List.getD_cons_succ,List.contains_cons,List.contains_nil,Bool.or_false,Bool.or_true,Bool.true_or,Bool.false_or]))
      all_goals
        refine meet_intro ?_
        apply ag2_mk
        · simp only [vke,zB,zA]
          rfl
        · rfl
        all_goals (first | (simp only [box_at,box_at0,List.getElem?_cons_succ,List.getElem?_cons_zero];done) | (simp only [box_at,box_at0,List.getElem?_cons_succ,List.getElem?_cons_zero];rfl) | (simp only [zA,box_at];rfl) | trace_state)
    rintro e s ⟨i8,i9,C,he,rfl,h8,h9,h4,h5,h6,h7⟩
    simp only [vqM,vt102,zA,zS,zM,zL,zE,zB,reduceCtorEq,vsK]
    refine awN_keep [3,4,5,6,7,8,9] ?_
    rw [he]
    clear he
    obtain ⟨B2,hB2⟩:∃ B2,B2=B++C:=⟨_,rfl⟩
    rw [← hB2] at h4 h5 h6 h7 h8 h9 ⊢
    refine awN_cw hmix ?_
    simp only [vqM,vt102,zA,zS,zM,zL,zE,zB,reduceCtorEq,vsMg,h4,h5,h6,h7,h8,h9,dP]
    refine callI_spec (t_three27 _ _ _ N0 N2 NM _) ?_
    rw [e3]
    simp only [vqM,vt102,zA,zS,zM,zL,zE,zB,reduceCtorEq,vsMg,h4,h5,h6,h7,h8,h9,box_lt h4,box_lt h5,box_lt h6,box_lt h7,box_lt h8,box_lt h9,dP,dE,d0,List.append_nil,decide_true]
    refine callI_spec (t_SameProgramF _ _ _) ?_
    simp only [vqM,vt102,zA,zS,zM,zL,zE,zB,reduceCtorEq,vsMg,h4,h5,h6,h7,h8,h9,box_lt h4,box_lt h5,box_lt h6,box_lt h7,box_lt h8,box_lt h9,dP,dE,d0,List.append_nil,decide_true]
    refine callI_spec (t_SameProgramF _ _ _) ?_
    simp only [vqM,vt102,zA,zS,zM,zL,zE,zB,reduceCtorEq,vsMg,h4,h5,h6,h7,h8,h9,box_lt h4,box_lt h5,box_lt h6,box_lt h7,box_lt h8,box_lt h9,dP,dE,d0,List.append_nil,decide_true]
    refine callI_spec (t_SameProgramF _ _ _) ?_
    simp only [vqM,vt102,zA,zS,zM,zL,zE,zB,reduceCtorEq,vsMg,h4,h5,h6,h7,h8,h9,box_lt h4,box_lt h5,box_lt h6,box_lt h7,box_lt h8,box_lt h9,dP,dE,d0,List.append_nil,decide_true]
    rw [hB2,List.append_assoc]
    refine ret_loc (.inr rfl) ?_ (.bool _) (fun _ h=>h) (Nat.le_refl _)
    simp only [vqM,vt102,zA,zS,zM,zL,zE,zB,reduceCtorEq]
  · have h0':((mgS (threeS p q1 q2)).e=0)=False:=eq_false h0
    refine awN_cw hmix ?_
    simp only [vqM,vt102,zA,zS,zM,zL,zE,zB,reduceCtorEq,vsMg,d0,List.append_nil,h0',ne_eq,not_false_eq_true,decide_true]
    refine ret_loc (.inr rfl) ?_ (.bool _) (fun _ h=>h) (Nat.le_refl _)
    simp only [vqM,vt102,zA,zS,zM,zL,zE,zB,reduceCtorEq]
end Go.V
namespace Go.Proofs.YtmfmcdomgagebaaGreat
open Go.V Go.ChangeShapes Go.WideShapes
set_option maxRecDepth 20000
set_option maxHeartbeats 4000000
theorem again_holds_lifted (os:Os) (started:os.Started) (H:Type) (enc:TypeId × Value→H) :
    ReturnsInHanded {} Tryz.checked os 8 .any (Rows.mergeAgainSpec.pre6 enc Tryz.prog Tryz.f8 Rows.mergeAgainRow.domain false) (Rows.mergeAgainSpec.post enc Tryz.prog Tryz.f8 false Rows.mergeAgainRow.fresh Rows.mergeAgainRow.handsOn Rows.mergeAgainRow.again):=by
  refine returnsInHanded_of_change_sized (C:=Tryz.checked) own started (by kernel_rfl) Tryz.func8
    (ChangeSpec.witness6 (enc:=enc) (C:=Tryz.checked) false ⟨#[],#[.agg #[.slice none 0 0,.slice none 0 0,.slice none 0 0]],[]⟩ 8 (by kernel_rfl) (by kernel_rfl) (by kernel_rfl) (by kernel_rfl)) ?_
  intro W base args ds gs before hval0 hW _ hwt _
  have hval:∀ (j:Nat) t v,Tryz.f8.params[j]? = some t→args[j]? = some v→Value.okWide Tryz.prog W .any base t v:=hval0
  have hW':=hW
  obtain ⟨p,q,hA0,hV,rfl,hfz,_⟩:=hW
  obtain ⟨rfl,rfl⟩:=trodVars_none hV
  have hpar:Tryz.f8.params.toList=[27]:=by kernel_rfl
  have hA:DataW.TrodAll enc Tryz.prog W 0 (fun _=>true) true Tryz.f8.params.toList args.toList ds p:=hA0
  rw [hpar] at hA
  obtain ⟨v0,d0,rfl,rfl,h0⟩:=trodAll_one hA
  have hwt0:(d0.weights Tryz.prog 27).all (· ≤ reachBytes)=true:=by
    refine List.all_eq_true.2 fun x hx=>List.all_eq_true.1 hwt x ?_
    exact DataW.weights_mem_each (j:=0) (t:=27) (d:=d0) (by kernel_rfl) rfl x hx
  obtain ⟨xs,hin,hR⟩:=arg_in 6 sidesT.st sidesOk hwt0 (hval 0 27 v0 (by kernel_rfl) rfl) h0
  obtain ⟨b,l,m,hb,hl,hm,hx⟩:=In.sides sidesT hin
  rw [hx] at hR
  have hspec:=t_MergeAgain b hb l m hl hm ⟨[],[],0⟩
  refine (spec_calls hspec (w:=W) (vs:=#[v0]) ⟨rfl,fun i h1 h2=>?_⟩).mono fun e W' ⟨he,k1,k2,k3,k4⟩=>?_
  · match i,h2 with
    | 0,_=>exact hR
  · exact ⟨_,he,post_true (tb:=4) kids full (by rw [hpar];decide +kernel) rfl (by kernel_rfl) (by kernel_rfl) hW' rfl rfl rfl k1 k2 k3 k4⟩
theorem again_holds:Rows.MergeAgainSaid :=
  OpenClaim.holds_of_wide 8 Tryz.f8 rfl rfl rfl rfl rfl rfl rfl ⟨rfl,rfl,rfl,rfl,rfl⟩ rfl rfl rfl rfl rfl (by kernel_rfl) Tryz.func8 (by kernel_rfl)
    (of_decide_eq_true (by kernel_rfl)) (by unfold Func.isWrapper;first | (rw [if_pos (by decide +kernel)];kernel_rfl) | (rw [if_neg (by decide +kernel)];exact ⟨rfl,rfl⟩))
    (fun os started H enc _=>again_holds_lifted os started H enc)
#print axioms again_holds
end Go.Proofs.YtmfmcdomgagebaaGreat
