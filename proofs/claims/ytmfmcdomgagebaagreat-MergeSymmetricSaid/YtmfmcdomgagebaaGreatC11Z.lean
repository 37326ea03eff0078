/-
  MergeSymmetric answers true at every input. No condition.
-/
import Derived.Test.YtmfmcdomgagebaaGreatBase8
import Derived.Test.YtmfmcdomgagebaaGreatBase3
import Derived.Test.YtmfmcdomgagebaaGreatRows
open Nat renaming reduceAdd → zA, reduceSub → zS, reduceMul → zM, reduceLeDiff → zL, reduceEqDiff → zE, reduceBEq → zB
set_option linter.all false
set_option linter.unusedSimpArgs false
set_option linter.unusedVariables false
set_option linter.unnecessarySimpa false
namespace Go.V
open Go.Proofs
set_option maxRecDepth 20000
set_option maxHeartbeats 4000000
def inp27 (b:List Int) (l m:List Cg):D:=.agg [.slice .none (byteCells b),.slice .none (cgCells l),.slice .none (cgCells m)]
open Go.ChangeShapes Go.WideShapes
structure BytesT (P:Program) (t e:TypeId):Prop where
  sl:P.underlying t=some (.slice e)
  el:P.underlying e=some (.int .u8)
theorem In.bytes {P:Program} {t e:TypeId} (T:BytesT P t e) {ds:List D} (h:In P t ds):∃ b:List Int,(∀ x ∈ b,0≤x∧x<256)∧ds=[.slice .none (byteCells b)]:=by
  obtain ⟨xs,rfl,hx,_,_⟩:=h.slice_inv T.sl
  have key:∀ xs:List (List D),(∀ x ∈ xs,In P e x)→∃ b:List Int,(∀ x ∈ b,0≤x∧x<256)∧xs=byteCells b:=by
    intro xs
    induction xs with
    | nil=>intro _;exact ⟨[],fun x h=>by simp at h,rfl⟩
    | cons x xs ih =>
      intro h
      obtain ⟨b,h1,h2⟩:=ih fun y hy=>h y (by simp [hy])
      obtain ⟨n,rfl,hw⟩:=(h x (by simp)).int_inv T.el
      refine ⟨n::b,fun y hy=>?_,by rw [h2];rfl⟩
      rcases List.mem_cons.1 hy with rfl | hy
      · have h1:IntKind.u8.min=0:=rfl
        have h2:IntKind.u8.max=255:=rfl
        simp only [Lit.wf,Bool.and_eq_true,decide_eq_true_eq] at hw
        omega
      · exact h1 y hy
  obtain ⟨b,h1,h2⟩:=key xs hx
  exact ⟨b,h1,by rw [h2]⟩
structure CgT (P:Program) (t e:TypeId) (f0 f1 f2:Field):Prop where
  sl:P.underlying t=some (.slice e)
  st:P.underlying e=some (.struct #[f0,f1,f2])
  ce:P.cellsOf e=3
  u0:P.underlying f0.type=some (.int .u8)
  u1:P.underlying f1.type=some (.int .u8)
  u2:P.underlying f2.type=some (.int .u8)
  off:[f0.offset,f1.offset,f2.offset]=[0,1,2]
  cel:[P.cellsOf f0.type,P.cellsOf f1.type,P.cellsOf f2.type]=[1,1,1]
theorem u8_inV {n:Int} (hw:(Lit.int .u8 n).wf=true):0≤n∧n<256:=by
  have h1:IntKind.u8.min=0:=rfl
  have h2:IntKind.u8.max=255:=rfl
  simp only [Lit.wf,Bool.and_eq_true,decide_eq_true_eq] at hw
  omega
theorem In.cg {P:Program} {t e:TypeId} {f0 f1 f2:Field} (T:CgT P t e f0 f1 f2) {ds:List D} (h:In P t ds):∃ l:List Cg,(∀ z ∈ l,z.Ok)∧ds=[.slice .none (cgCells l)]:=by
  obtain ⟨xs,rfl,hx,_,_⟩:=h.slice_inv T.sl
  have one:∀ x,In P e x→∃ z:Cg,z.Ok∧x=z.cells:=by
    intro x hx
    obtain ⟨hl,hf⟩:=hx.struct_inv T.st
    rw [T.ce] at hl
    obtain ⟨d0,d1,d2,rfl⟩:∃ d0 d1 d2,x=[d0,d1,d2]:=by
      match x,hl with
      | [a,b,c],_=>exact ⟨a,b,c,rfl⟩
    have ho:=T.off
    have hc:=T.cel
    simp only [List.cons.injEq,and_true] at ho hc
    have h0:=hf f0 (by simp)
    have h1:=hf f1 (by simp)
    have h2:=hf f2 (by simp)
    rw [ho.1,hc.1] at h0
    rw [ho.2.1,hc.2.1] at h1
    rw [ho.2.2,hc.2.2] at h2
    obtain ⟨n0,e0,w0⟩:=h0.int_inv T.u0
    obtain ⟨n1,e1,w1⟩:=h1.int_inv T.u1
    obtain ⟨n2,e2,w2⟩:=h2.int_inv T.u2
    simp at e0 e1 e2
    subst e0 e1 e2
    exact ⟨⟨n0,n1,n2⟩,⟨u8_inV w0,u8_inV w1,u8_inV w2⟩,rfl⟩
  have key:∀ xs:List (List D),(∀ x ∈ xs,In P e x)→∃ l:List Cg,(∀ z ∈ l,z.Ok)∧xs=cgCells l:=by
    intro xs
    induction xs with
    | nil=>intro _;exact ⟨[],fun x h=>by simp at h,rfl⟩
    | cons x xs ih =>
      intro h
      obtain ⟨l,h1,h2⟩:=ih fun y hy=>h y (by simp [hy])
      obtain ⟨z,hz,rfl⟩:=one x (h x (by simp))
      refine ⟨z::l,fun y hy=>?_,by rw [h2];rfl⟩
      rcases List.mem_cons.1 hy with rfl | hy
      · exact hz
      · exact h1 y hy
  obtain ⟨b,h1,h2⟩:=key xs hx
  exact ⟨b,h1,by rw [h2]⟩
structure SidesT (P:Program) (t:TypeId) (f0 f1 f2 g:Field) (e ec:TypeId) (c0 c1 c2:Field):Prop where
  st:P.underlying t=some (.struct #[f0,f1,f2])
  ct:P.cellsOf t=3
  rs:P.underlying f0.type=some (.struct #[g])
  rg:g.offset=0∧P.cellsOf g.type=1
  rb:BytesT P g.type e
  k1:CgT P f1.type ec c0 c1 c2
  k2:CgT P f2.type ec c0 c1 c2
  off:[f0.offset,f1.offset,f2.offset]=[0,1,2]
  cel:[P.cellsOf f0.type,P.cellsOf f1.type,P.cellsOf f2.type]=[1,1,1]
theorem In.sides {P:Program} {t:TypeId} {f0 f1 f2 g:Field} {e ec:TypeId} {c0 c1 c2:Field} (T:SidesT P t f0 f1 f2 g e ec c0 c1 c2) {ds:List D} (h:In P t ds) :
    ∃ (b:List Int) (l m:List Cg),(∀ x ∈ b,0≤x∧x<256)∧(∀ z ∈ l,z.Ok)∧(∀ z ∈ m,z.Ok)∧D.agg ds=inp27 b l m:=by
  obtain ⟨hl,hf⟩:=h.struct_inv T.st
  rw [T.ct] at hl
  obtain ⟨d0,d1,d2,rfl⟩:∃ d0 d1 d2,ds=[d0,d1,d2]:=by
    match ds,hl with
    | [a,b,c],_=>exact ⟨a,b,c,rfl⟩
  have ho:=T.off
  have hc:=T.cel
  simp only [List.cons.injEq,and_true] at ho hc
  have h0:=hf f0 (by simp)
  have h1:=hf f1 (by simp)
  have h2:=hf f2 (by simp)
  rw [ho.1,hc.1] at h0
  rw [ho.2.1,hc.2.1] at h1
  rw [ho.2.2,hc.2.2] at h2
  obtain ⟨_,hg⟩:=h0.struct_inv T.rs
  have hg0:=hg g (by simp)
  rw [T.rg.1,T.rg.2] at hg0
  obtain ⟨b,hb,e0⟩:=In.bytes T.rb hg0
  obtain ⟨l,hl1,e1⟩:=In.cg T.k1 h1
  obtain ⟨m,hm1,e2⟩:=In.cg T.k2 h2
  simp at e0 e1 e2
  subst e0 e1 e2
  exact ⟨b,l,m,hb,hl1,hm1,rfl⟩
end Go.V
namespace Go.Proofs.YtmfmcdomgagebaaGreat
open Go.V Go.ChangeShapes Go.WideShapes
def fldAt (P:Program) (t:TypeId) (i:Nat):Field:=match P.underlying t with
  | some (.struct fs)=>fs.toList.getD i default
  | _=>default
theorem sidesT:SidesT Tryz.prog 27 (fldAt Tryz.prog 27 0) (fldAt Tryz.prog 27 1) (fldAt Tryz.prog 27 2) (fldAt Tryz.prog 24 0) (elemOf Tryz.prog (fldAt Tryz.prog 24 0).type) (elemOf Tryz.prog (fldAt Tryz.prog 27 1).type)
    (fldAt Tryz.prog 101 0) (fldAt Tryz.prog 101 1) (fldAt Tryz.prog 101 2) :=
  ⟨by kernel_rfl,by kernel_rfl,by kernel_rfl,⟨by kernel_rfl,by kernel_rfl⟩,⟨by kernel_rfl,by kernel_rfl⟩,⟨by kernel_rfl,by kernel_rfl,by kernel_rfl,by kernel_rfl,by kernel_rfl,by kernel_rfl,by kernel_rfl,by kernel_rfl⟩,⟨by kernel_rfl,by kernel_rfl,by kernel_rfl,by kernel_rfl,by kernel_rfl,by kernel_rfl,by kernel_rfl,by kernel_rfl⟩,by kernel_rfl,by kernel_rfl⟩
theorem sidesOk:okIn Tryz.prog 6 27=true:=by kernel_rfl
end Go.Proofs.YtmfmcdomgagebaaGreat
namespace Go.V
open Go.Proofs
set_option maxRecDepth 20000
set_option maxHeartbeats 4000000
def seMg (x y:Mg):Bool:=decide (x.e=y.e) && (decide (x.c=y.c) && decide (x.p=y.p))
theorem t_Same27 (x y:Mg) (s:St):Spec Tryz.prog 12 [.agg x.cells,.agg y.cells] s (.bool (seMg x y)) s:=by
  obtain ⟨B,L,c⟩:=s
  refine Spec.introN [] Tryz.func12 rfl (by decide) hmix (by kernel_rfl) [ResultVar.tmp 4] 24 rfl rfl ?_
  simp only [vqM,vt100,Tryz.f12,zA,zS,zM,zL,zE,zB,reduceCtorEq,vsMg]
  repeat' (first
    | ((with_reducible refine is_call ?_);refine callI_spec (t_SameInts _ _ _) ?_;simp only [vqM,vt100,zA,zS,zM,zL,zE,zB,reduceCtorEq,vsMg])
    | ((with_reducible refine is_call ?_);refine callI_spec (t_SameProgramF _ _ _) ?_;simp only [vqM,vt100,zA,zS,zM,zL,zE,zB,reduceCtorEq,vsMg])
    | (with_reducible refine ifI_intro (fun hc=>?_) (fun hc=>?_) <;> simp only [vqM,vt100,hc,zA,zS,zM,zL,zE,zB,reduceCtorEq,vsMg])
    | ((with_reducible refine is_q ?_);refine ret_loc (.inr rfl) ?_ (.bool _) (fun _ h=>h) (Nat.le_refl _) <;> (try simp only [vqM,vt100,zA,zS,zM,zL,zE,zB,reduceCtorEq,vsMg]) <;> (first | (simp only [seMg, *,Bool.true_and,Bool.false_and,Bool.and_true,Bool.and_false,Bool.true_or,Bool.false_or,Bool.or_true,Bool.or_false,Bool.not_true,Bool.not_false,cond_true,cond_false,if_true,if_false];done) | (simp_all [seMg];done) | (simp_all [seMg];omega))))
theorem t_MergeSymmetric (b:List Int) (hb:∀ x ∈ b,0≤x∧x<256) (l m:List Cg) (hl:∀ z ∈ l,z.Ok) (hm:∀ z ∈ m,z.Ok) (s:St):Spec Tryz.prog 5 [inp27 b l m] s (.bool true) s:=by
  have M0:=(made_var hb).mrg (by omega)
  have M1:=(variant_ok (made_var hb) hl).mrg (by omega)
  have M2:=(variant_ok (made_var hb) hm).mrg (by omega)
  have hmade:=fun s=>t_made27 b hb l m hl hm s
  generalize made b=p at *
  generalize variantS p l=q1 at *
  generalize variantS p m=q2 at *
  have e1:=three_swap p q2 q1
  have e2:=changed_swap q2 q1
  have N1:=M1.n
  have N2:=M2.n
  obtain ⟨B,L,c⟩:=s
  simp only [inp27]
  refine Spec.introN [(5,.text [false,false,false,true,false,false,false,true,true,false,false,false,true,false,false,true,true,false,false,false,false,false] [(4,0),(5,0),(6,0),(13,3),(14,3)])] Tryz.func5 rfl (by decide) hmix (by kernel_rfl) [ResultVar.tmp 2] 37 rfl rfl ?_
  simp only [vqM,vt101,Tryz.f5,zA,zS,zM,zL,zE,zB,reduceCtorEq]
  refine callI_spec (t_examples27 _) ?_
  simp only [vqM,vt101,zA,zS,zM,zL,zE,zB,reduceCtorEq]
  refine callI_spec (hmade _) ?_
  simp only [vqM,vt101,zA,zS,zM,zL,zE,zB,reduceCtorEq]
  repeat' (first
    | (with_reducible refine needI_intro ?_ ?_)
    | (with_reducible refine And.intro ?_ ?_)
    | ((with_reducible refine is_call ?_);refine callI_spec (t_three27 _ _ _ M0.n M1.n M2.n _) ?_;simp only [vqM,vt101,zA,zS,zM,zL,zE,zB,reduceCtorEq,vsMg])
    | ((with_reducible refine is_call ?_);refine callI_spec (t_three27 _ _ _ M0.n M2.n M1.n _) ?_;simp only [vqM,vt101,zA,zS,zM,zL,zE,zB,reduceCtorEq,vsMg,e1])
    | ((with_reducible refine is_call ?_);refine callI_spec (t_Same27 _ _ _) ?_;simp only [vqM,vt101,zA,zS,zM,zL,zE,zB,reduceCtorEq,vsMg,seMg,decide_true,Bool.and_self])
    | ((with_reducible refine is_call ?_);refine callI_spec (t_Changed _ _ N1.nc N2.nc N1.hl N2.hl _) ?_;simp only [vqM,vt101,zA,zS,zM,zL,zE,zB,reduceCtorEq,vsMg])
    | ((with_reducible refine is_call ?_);refine callI_spec (t_Changed _ _ N2.nc N1.nc N2.hl N1.hl _) ?_;simp only [vqM,vt101,zA,zS,zM,zL,zE,zB,reduceCtorEq,vsMg,e2])
    | ((with_reducible refine is_call ?_);refine callI_spec (t_SameInts _ _ _) ?_;simp only [vqM,vt101,zA,zS,zM,zL,zE,zB,reduceCtorEq,vsMg,decide_true])
    | (with_reducible refine is_pN ?_;simp only [vqM,vt101,zA,zS,zM,zL,zE,zB,reduceCtorEq,vsMg,e1,e2,seMg,decide_true,Bool.and_self]))
  refine ret_loc (.inr rfl) ?_ (.bool _) (fun _ h=>h) (Nat.le_refl _)
  simp only [vqM,vt101,zA,zS,zM,zL,zE,zB,reduceCtorEq]
end Go.V
namespace Go.Proofs.YtmfmcdomgagebaaGreat
open Go.V Go.ChangeShapes Go.WideShapes
set_option maxRecDepth 20000
set_option maxHeartbeats 4000000
theorem symmetric_holds_lifted (os:Os) (started:os.Started) (H:Type) (enc:TypeId × Value→H) :
    ReturnsInHanded {} Tryz.checked os 5 .any (Rows.mergeSymmetricSpec.pre6 enc Tryz.prog Tryz.f5 Rows.mergeSymmetricRow.domain false) (Rows.mergeSymmetricSpec.post enc Tryz.prog Tryz.f5 false Rows.mergeSymmetricRow.fresh Rows.mergeSymmetricRow.handsOn Rows.mergeSymmetricRow.again):=by
  refine returnsInHanded_of_change_sized (C:=Tryz.checked) own started (by kernel_rfl) Tryz.func5
    (ChangeSpec.witness6 (enc:=enc) (C:=Tryz.checked) false ⟨#[],#[.agg #[.slice none 0 0,.slice none 0 0,.slice none 0 0]],[]⟩ 8 (by kernel_rfl) (by kernel_rfl) (by kernel_rfl) (by kernel_rfl)) ?_
  intro W base args ds gs before hval0 hW _ hwt _
  have hval:∀ (j:Nat) t v,Tryz.f5.params[j]? = some t→args[j]? = some v→Value.okWide Tryz.prog W .any base t v:=hval0
  have hW':=hW
  obtain ⟨p,q,hA0,hV,rfl,hfz,_⟩:=hW
  obtain ⟨rfl,rfl⟩:=trodVars_none hV
  have hpar:Tryz.f5.params.toList=[27]:=by kernel_rfl
  have hA:DataW.TrodAll enc Tryz.prog W 0 (fun _=>true) true Tryz.f5.params.toList args.toList ds p:=hA0
  rw [hpar] at hA
  obtain ⟨v0,d0,rfl,rfl,h0⟩:=trodAll_one hA
  have hwt0:(d0.weights Tryz.prog 27).all (· ≤ reachBytes)=true:=by
    refine List.all_eq_true.2 fun x hx=>List.all_eq_true.1 hwt x ?_
    exact DataW.weights_mem_each (j:=0) (t:=27) (d:=d0) (by kernel_rfl) rfl x hx
  obtain ⟨xs,hin,hR⟩:=arg_in 6 sidesT.st sidesOk hwt0 (hval 0 27 v0 (by kernel_rfl) rfl) h0
  obtain ⟨b,l,m,hb,hl,hm,hx⟩:=In.sides sidesT hin
  rw [hx] at hR
  have hspec:=t_MergeSymmetric b hb l m hl hm ⟨[],[],0⟩
  refine (spec_calls hspec (w:=W) (vs:=#[v0]) ⟨rfl,fun i h1 h2=>?_⟩).mono fun e W' ⟨he,k1,k2,k3,k4⟩=>?_
  · match i,h2 with
    | 0,_=>exact hR
  · exact ⟨_,he,post_true (tb:=4) kids full (by rw [hpar];decide +kernel) rfl (by kernel_rfl) (by kernel_rfl) hW' rfl rfl rfl k1 k2 k3 k4⟩
theorem symmetric_holds:Rows.MergeSymmetricSaid :=
  OpenClaim.holds_of_wide 5 Tryz.f5 rfl rfl rfl rfl rfl rfl rfl ⟨rfl,rfl,rfl,rfl,rfl⟩ rfl rfl rfl rfl rfl (by kernel_rfl) Tryz.func5 (by kernel_rfl)
    (of_decide_eq_true (by kernel_rfl)) (by unfold Func.isWrapper;first | (rw [if_pos (by decide +kernel)];kernel_rfl) | (rw [if_neg (by decide +kernel)];exact ⟨rfl,rfl⟩))
    (fun os started H enc _=>symmetric_holds_lifted os started H enc)
#print axioms symmetric_holds
end Go.Proofs.YtmfmcdomgagebaaGreat
