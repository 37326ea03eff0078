/-
  MergeEntries answers true at every input. No condition.
-/
import Derived.Test.YtmfmcdomgagebaaGreatBase8
import Derived.Test.YtmfmcdomgagebaaGreatBase3
import Derived.Test.YtmfmcdomgagebaaGreatRows
open Nat renaming reduceAdd → zA, reduceSub → zS, reduceMul → zM, reduceLeDiff → zL, reduceEqDiff → zE, reduceBEq → zB
set_option linter.all false
set_option linter.unusedSimpArgs false
set_option linter.unusedVariables false
set_option linter.unnecessarySimpa false
namespace Go.V
open Go.Proofs
set_option maxRecDepth 20000
set_option maxHeartbeats 4000000
def inp27 (b:List Int) (l m:List Cg):D:=.agg [.slice .none (byteCells b),.slice .none (cgCells l),.slice .none (cgCells m)]
open Go.ChangeShapes Go.WideShapes
structure BytesT (P:Program) (t e:TypeId):Prop where
  sl:P.underlying t=some (.slice e)
  el:P.underlying e=some (.int .u8)
theorem In.bytes {P:Program} {t e:TypeId} (T:BytesT P t e) {ds:List D} (h:In P t ds):∃ b:List Int,(∀ x ∈ b,0≤x∧x<256)∧ds=[.slice .none (byteCells b)]:=by
  obtain ⟨xs,rfl,hx,_,_⟩:=h.slice_inv T.sl
  have key:∀ xs:List (List D),(∀ x ∈ xs,In P e x)→∃ b:List Int,(∀ x ∈ b,0≤x∧x<256)∧xs=byteCells b:=by
    intro xs
    induction xs with
    | nil=>intro _;exact ⟨[],fun x h=>by simp at h,rfl⟩
    | cons x xs ih =>
      intro h
      obtain ⟨b,h1,h2⟩:=ih fun y hy=>h y (by simp [hy])
      obtain ⟨n,rfl,hw⟩:=(h x (by simp)).int_inv T.el
      refine ⟨n::b,fun y hy=>?_,by rw [h2];rfl⟩
      rcases List.mem_cons.1 hy with rfl | hy
      · have h1:IntKind.u8.min=0:=rfl
        have h2:IntKind.u8.max=255:=rfl
        simp only [Lit.wf,Bool.and_eq_true,decide_eq_true_eq] at hw
        omega
      · exact h1 y hy
  obtain ⟨b,h1,h2⟩:=key xs hx
  exact ⟨b,h1,by rw [h2]⟩
structure CgT (P:Program) (t e:TypeId) (f0 f1 f2:Field):Prop where
  sl:P.underlying t=some (.slice e)
  st:P.underlying e=some (.struct #[f0,f1,f2])
  ce:P.cellsOf e=3
  u0:P.underlying f0.type=some (.int .u8)
  u1:P.underlying f1.type=some (.int .u8)
  u2:P.underlying f2.type=some (.int .u8)
  off:[f0.offset,f1.offset,f2.offset]=[0,1,2]
  cel:[P.cellsOf f0.type,P.cellsOf f1.type,P.cellsOf f2.type]=[1,1,1]
theorem u8_inV {n:Int} (hw:(Lit.int .u8 n).wf=true):0≤n∧n<256:=by
  have h1:IntKind.u8.min=0:=rfl
  have h2:IntKind.u8.max=255:=rfl
  simp only [Lit.wf,Bool.and_eq_true,decide_eq_true_eq] at hw
  omega
theorem In.cg {P:Program} {t e:TypeId} {f0 f1 f2:Field} (T:CgT P t e f0 f1 f2) {ds:List D} (h:In P t ds):∃ l:List Cg,(∀ z ∈ l,z.Ok)∧ds=[.slice .none (cgCells l)]:=by
  obtain ⟨xs,rfl,hx,_,_⟩:=h.slice_inv T.sl
  have one:∀ x,In P e x→∃ z:Cg,z.Ok∧x=z.cells:=by
    intro x hx
    obtain ⟨hl,hf⟩:=hx.struct_inv T.st
    rw [T.ce] at hl
    obtain ⟨d0,d1,d2,rfl⟩:∃ d0 d1 d2,x=[d0,d1,d2]:=by
      match x,hl with
      | [a,b,c],_=>exact ⟨a,b,c,rfl⟩
    have ho:=T.off
    have hc:=T.cel
    simp only [List.cons.injEq,and_true] at ho hc
    have h0:=hf f0 (by simp)
    have h1:=hf f1 (by simp)
    have h2:=hf f2 (by simp)
    rw [ho.1,hc.1] at h0
    rw [ho.2.1,hc.2.1] at h1
    rw [ho.2.2,hc.2.2] at h2
    obtain ⟨n0,e0,w0⟩:=h0.int_inv T.u0
    obtain ⟨n1,e1,w1⟩:=h1.int_inv T.u1
    obtain ⟨n2,e2,w2⟩:=h2.int_inv T.u2
    simp at e0 e1 e2
    subst e0 e1 e2
    exact ⟨⟨n0,n1,n2⟩,⟨u8_inV w0,u8_inV w1,u8_inV w2⟩,rfl⟩
  have key:∀ xs:List (List D),(∀ x ∈ xs,In P e x)→∃ l:List Cg,(∀ z ∈ l,z.Ok)∧xs=cgCells l:=by
    intro xs
    induction xs with
    | nil=>intro _;exact ⟨[],fun x h=>by simp at h,rfl⟩
    | cons x xs ih =>
      intro h
      obtain ⟨l,h1,h2⟩:=ih fun y hy=>h y (by simp [hy])
      obtain ⟨z,hz,rfl⟩:=one x (h x (by simp))
      refine ⟨z::l,fun y hy=>?_,by rw [h2];rfl⟩
      rcases List.mem_cons.1 hy with rfl | hy
      · exact hz
      · exact h1 y hy
  obtain ⟨b,h1,h2⟩:=key xs hx
  exact ⟨b,h1,by rw [h2]⟩
structure SidesT (P:Program) (t:TypeId) (f0 f1 f2 g:Field) (e ec:TypeId) (c0 c1 c2:Field):Prop where
  st:P.underlying t=some (.struct #[f0,f1,f2])
  ct:P.cellsOf t=3
  rs:P.underlying f0.type=some (.struct #[g])
  rg:g.offset=0∧P.cellsOf g.type=1
  rb:BytesT P g.type e
  k1:CgT P f1.type ec c0 c1 c2
  k2:CgT P f2.type ec c0 c1 c2
  off:[f0.offset,f1.offset,f2.offset]=[0,1,2]
  cel:[P.cellsOf f0.type,P.cellsOf f1.type,P.cellsOf f2.type]=[1,1,1]
theorem In.sides {P:Program} {t:TypeId} {f0 f1 f2 g:Field} {e ec:TypeId} {c0 c1 c2:Field} (T:SidesT P t f0 f1 f2 g e ec c0 c1 c2) {ds:List D} (h:In P t ds) :
    ∃ (b:List Int) (l m:List Cg),(∀ x ∈ b,0≤x∧x<256)∧(∀ z ∈ l,z.Ok)∧(∀ z ∈ m,z.Ok)∧D.agg ds=inp27 b l m:=by
  obtain ⟨hl,hf⟩:=h.struct_inv T.st
  rw [T.ct] at hl
  obtain ⟨d0,d1,d2,rfl⟩:∃ d0 d1 d2,ds=[d0,d1,d2]:=by
    match ds,hl with
    | [a,b,c],_=>exact ⟨a,b,c,rfl⟩
  have ho:=T.off
  have hc:=T.cel
  simp only [List.cons.injEq,and_true] at ho hc
  have h0:=hf f0 (by simp)
  have h1:=hf f1 (by simp)
  have h2:=hf f2 (by simp)
  rw [ho.1,hc.1] at h0
  rw [ho.2.1,hc.2.1] at h1
  rw [ho.2.2,hc.2.2] at h2
  obtain ⟨_,hg⟩:=h0.struct_inv T.rs
  have hg0:=hg g (by simp)
  rw [T.rg.1,T.rg.2] at hg0
  obtain ⟨b,hb,e0⟩:=In.bytes T.rb hg0
  obtain ⟨l,hl1,e1⟩:=In.cg T.k1 h1
  obtain ⟨m,hm1,e2⟩:=In.cg T.k2 h2
  simp at e0 e1 e2
  subst e0 e1 e2
  exact ⟨b,l,m,hb,hl1,hm1,rfl⟩
end Go.V
namespace Go.Proofs.YtmfmcdomgagebaaGreat
open Go.V Go.ChangeShapes Go.WideShapes
def fldAt (P:Program) (t:TypeId) (i:Nat):Field:=match P.underlying t with
  | some (.struct fs)=>fs.toList.getD i default
  | _=>default
theorem sidesT:SidesT Tryz.prog 27 (fldAt Tryz.prog 27 0) (fldAt Tryz.prog 27 1) (fldAt Tryz.prog 27 2) (fldAt Tryz.prog 24 0) (elemOf Tryz.prog (fldAt Tryz.prog 24 0).type) (elemOf Tryz.prog (fldAt Tryz.prog 27 1).type)
    (fldAt Tryz.prog 101 0) (fldAt Tryz.prog 101 1) (fldAt Tryz.prog 101 2) :=
  ⟨by kernel_rfl,by kernel_rfl,by kernel_rfl,⟨by kernel_rfl,by kernel_rfl⟩,⟨by kernel_rfl,by kernel_rfl⟩,⟨by kernel_rfl,by kernel_rfl,by kernel_rfl,by kernel_rfl,by kernel_rfl,by kernel_rfl,by kernel_rfl,by kernel_rfl⟩,⟨by kernel_rfl,by kernel_rfl,by kernel_rfl,by kernel_rfl,by kernel_rfl,by kernel_rfl,by kernel_rfl,by kernel_rfl⟩,by kernel_rfl,by kernel_rfl⟩
theorem sidesOk:okIn Tryz.prog 6 27=true:=by kernel_rfl
end Go.Proofs.YtmfmcdomgagebaaGreat
namespace Go.V
open Go.Proofs
set_option maxRecDepth 20000
set_option maxHeartbeats 4000000
def fdC (r:Option Df):List D:=(r.getD Df.zero).cells++[.bool r.isSome]
theorem fdC_eq (p:Pg) (id:Int):foundD p id=.agg (fdC (findS p id)):=rfl
theorem fdC1 (r:Option Df):(fdC r).length=13:=rfl
theorem fdC2 (r:Option Df):(fdC r).take 13=fdC r:=rfl
theorem fdC3 (r:Option Df):(List.drop 12 (fdC r))[0]? = some (.bool r.isSome):=rfl
theorem fdC4 (r:Option Df):(fdC r).take 12=(r.getD Df.zero).cells:=rfl
theorem fdC5 (r:Option Df):(fdC r).map D.plain1=fdC r:=rfl
theorem fdC6 (r:Option Df):(fdC r).map D.keep1=fdC r:=rfl
theorem fdC7 (r:Option Df):(fdC r).drop 13=[]:=rfl
theorem t_MergeEntries (b:List Int) (hb:∀ x ∈ b,0≤x∧x<256) (l m:List Cg) (hl:∀ z ∈ l,z.Ok) (hm:∀ z ∈ m,z.Ok) (s:St):Spec Tryz.prog 6 [inp27 b l m] s (.bool true) s:=by
  have V0:=made_var hb
  have V1:=variant_ok V0 hl
  have V2:=variant_ok V0 hm
  have M0:=V0.mrg (by omega)
  have M1:=V1.mrg (by omega)
  have M2:=V2.mrg (by omega)
  have dl0:=V0.vl.ln
  have dl1:=V1.vl.ln
  have dl2:=V2.vl.ln
  have hmade:=fun s=>t_made27 b hb l m hl hm s
  generalize made b=p at *
  generalize variantS p l=q1 at *
  generalize variantS p m=q2 at *
  have N0:=M0.n
  have N1:=M1.n
  have N2:=M2.n
  obtain ⟨B,L,c⟩:=s
  simp only [inp27]
  refine Spec.introN [(5,.cut),(10,.text [false,false,true,false,false,true,false,false] [(3,0),(4,0)]),(14,.cut)] Tryz.func6 rfl (by decide) hmix (by kernel_rfl) [ResultVar.tmp 2] 84 rfl rfl ?_
  simp only [vqM,vt103,Tryz.f6,zA,zS,zM,zL,zE,zB,reduceCtorEq]
  refine callI_spec (t_examples27 _) ?_
  simp only [vqM,vt103,zA,zS,zM,zL,zE,zB,reduceCtorEq]
  refine callI_spec (hmade _) ?_
  simp only [vqM,vt103,zA,zS,zM,zL,zE,zB,reduceCtorEq]
  refine seq_go ?_
  simp only [vqM,vt103,zA,zS,zM,zL,zE,zB,reduceCtorEq]
  refine callI_spec (t_three27 _ _ _ N0 N1 N2 _) ?_
  have d0:∀ q:Mg,List.drop 12 q.cells=[]:=fun _=>rfl
  simp only [vqM,vt103,zA,zS,zM,zL,zE,zB,reduceCtorEq,vsMg,vsK,d0,List.append_nil]
  by_cases h0:(mgS (threeS p q1 q2)).e=0
  · have e0:=(three_ok_iff (p:=p) (a:=q1) (b:=q2) h0).2.2
    have hr:=(three_ok_iff (p:=p) (a:=q1) (b:=q2) h0).2.1
    have hc0:=(three_ok_iff (p:=p) (a:=q1) (b:=q2) h0).1
    have NM:=merged_n N0 N1 N2 hr
    have hfind:∀ id:Int,id≠0→findS (mergedS p q1 q2) id=if id ∈ changedS p q2 then findS q2 id else if id ∈ changedS p q1 then findS q1 id else findS p id:=fun id hid=>findS_merged M0.nc M1.nc M2.nc hc0 hid
    rw [e0]
    have hMl:(mergedS p q1 q2).defs.length<1000000:=by
      have:faultB (mergedS p q1 q2)=false:=by
        cases e:faultB (mergedS p q1 q2) with
        | false=>rfl
        | true=>rw [programS,e] at hr;simp at hr
      simp only [faultB,Bool.or_eq_false_iff,decide_eq_false_iff_not] at this
      have:=this.1.2
      omega
    generalize mergedS p q1 q2=M at e0 hr hfind NM hMl ⊢
    have dE:(mgS (M,[],0)).e=0:=rfl
    have dP:(mgS (M,[],0)).p=M:=rfl
    refine awN_cw hmix ?_
    simp only [vqM,vt103,zA,zS,zM,zL,zE,zB,reduceCtorEq,vsMg,d0,List.append_nil,dE,dP,ne_eq,not_true_eq_false,decide_false]
    refine callI_spec (t_Program M NM.ok _) ?_
    rw [hr]
    simp only [vqM,vt103,zA,zS,zM,zL,zE,zB,reduceCtorEq,vsMg,ne_eq,not_true_eq_false,decide_false]
    repeat' (first
      | (with_reducible refine needI_intro ?_ ?_)
      | (with_reducible refine And.intro ?_ ?_)
      | ((with_reducible refine is_call ?_);refine callI_spec (t_Changed _ _ N0.nc N1.nc N0.hl N1.hl _) ?_;simp only [vqM,vt103,zA,zS,zM,zL,zE,zB,reduceCtorEq,vsMg])
      | ((with_reducible refine is_call ?_);refine callI_spec (t_Changed _ _ N0.nc N2.nc N0.hl N2.hl _) ?_;simp only [vqM,vt103,zA,zS,zM,zL,zE,zB,reduceCtorEq,vsMg])
      | (with_reducible refine is_pN ?_;simp only [vqM,vt103,zA,zS,zM,zL,zE,zB,reduceCtorEq,vsMg]))
    refine awN_keep [3,4,5,6,7,8,9,10] ?_
    simp only [vke,zB,zA]
    generalize changedS p q1=lf at hfind ⊢
    generalize changedS p q2=rt at hfind ⊢
    refine awN_forR hmix 12 (fun k e s=>∃ B1:List Box,e=[.junk,.junk,.junk,.bool true,.box (B.length+1) 0,.box (B.length+2) 0,.box (B.length+3) 0,.box (B.length+4) 0,.slice .none (intCells lf),.slice .none (intCells rt),.int .i64 (11+(k:Int)),.junk,.junk,.junk,.junk,.junk,.junk,.junk,.junk,.junk,.junk,.junk,.junk,.junk,.junk,.junk,.junk,.junk,.junk,.junk,.junk,.junk,.junk,.junk,.junk,.junk,.junk,.junk,.junk,.junk,.junk,.junk,.junk,.junk,.junk,.junk,.junk,.junk,.junk,.junk,.junk,.junk,.junk,.junk,.junk,.junk,.junk,.junk,.junk,.junk,.junk,.junk,.junk,.junk,.junk,.junk,.junk,.junk,.junk,.junk,.junk,.junk,.junk,.junk,.junk,.junk,.junk,.junk,.junk,.junk,.junk,.junk,.junk,.junk]∧s=⟨B1,L,c⟩∧(∃ X,B1=B++X)∧B1[B.length+1]? = some (.cells p.cells)∧B1[B.length+2]? = some (.cells q1.cells)∧B1[B.length+3]? = some (.cells q2.cells)∧B1[B.length+4]? = some (.cells (mgS (M,[],0)).cells)) ?_ ?_ 0 _ _ (Nat.zero_le _) ⟨_,rfl,rfl,⟨_,rfl⟩,by rw [box_at];rfl,by rw [box_at];rfl,by rw [box_at];rfl,by rw [box_at];rfl⟩
    · rintro k e s hk ⟨B1,rfl,rfl,⟨X,hX⟩,g4,g5,g6,g7⟩ ih
      have hlt:(11+(k:Int)<23)=True:=eq_true (by omega)
      have hf:=hfind (11+k) (by omega)
      obtain ⟨id,hid⟩:∃ id:Int,id=11+k:=⟨_,rfl⟩
      rw [← hid] at hlt hf ⊢
      simp only [vqM,vt103,zA,zS,zM,zL,zE,zB,reduceCtorEq,g4,g5,g6,g7,box_lt g4,box_lt g5,box_lt g6,box_lt g7,fdC_eq,fdC1,fdC2,fdC3,fdC4,fdC5,fdC6,fdC7,List.append_nil,hlt,decide_true]
      refine seq_go ?_
      simp only [vqM,vt103,zA,zS,zM,zL,zE,zB,reduceCtorEq,g4,g5,g6,g7]
      refine callI_spec (t_FindIn _ _ (by omega) _) ?_
      simp only [vqM,vt103,zA,zS,zM,zL,zE,zB,reduceCtorEq,vsK,g4,g5,g6,g7,box_lt g4,box_lt g5,box_lt g6,box_lt g7,fdC_eq,fdC1,fdC2,fdC3,fdC4,fdC5,fdC6,fdC7,List.append_nil]
      refine awN_joinI (fun e s=>keep [3,4,5,6,7,8,9,10,11] e=[.junk,.junk,.junk,.bool true,.box (B.length+1) 0,.box (B.length+2) 0,.box (B.length+3) 0,.box (B.length+4) 0,.slice .none (intCells lf),.slice .none (intCells rt),.int .i64 id,.box B1.length 0,.junk,.junk,.junk,.junk,.junk,.junk,.junk,.junk,.junk,.junk,.junk,.junk,.junk,.junk,.junk,.junk,.junk,.junk,.junk,.junk,.junk,.junk,.junk,.junk,.junk,.junk,.junk,.junk,.junk,.junk,.junk,.junk,.junk,.junk,.junk,.junk,.junk,.junk,.junk,.junk,.junk,.junk,.junk,.junk,.junk,.junk,.junk,.junk,.junk,.junk,.junk,.junk,.junk,.junk,.junk,.junk,.junk,.junk,.junk,.junk,.junk,.junk,.junk,.junk,.junk,.junk,.junk,.junk,.junk,.junk,.junk,.junk]∧s=⟨B1++[.cells (fdC (if id ∈ lf then findS q1 id else findS p id))],L,c⟩) ?_ ?_
      · refine awN_cw hmix ?_
        simp only [vqM,vt103,zA,zS,zM,zL,zE,zB,reduceCtorEq,g4,g5,g6,g7,box_lt g4,box_lt g5,box_lt g6,box_lt g7,fdC_eq,fdC1,fdC2,fdC3,fdC4,fdC5,fdC6,fdC7,List.append_nil]
        refine callI_spec (t_Has _ _ _) ?_
        simp only [vqM,vt103,zA,zS,zM,zL,zE,zB,reduceCtorEq,g4,g5,g6,g7,box_lt g4,box_lt g5,box_lt g6,box_lt g7,fdC_eq,fdC1,fdC2,fdC3,fdC4,fdC5,fdC6,fdC7,List.append_nil]
        refine ifI_intro (fun hc=>?_) (fun hc=>?_)
        · simp only [vqM,vt103,zA,zS,zM,zL,zE,zB,reduceCtorEq,g4,g5,g6,g7,box_lt g4,box_lt g5,box_lt g6,box_lt g7,fdC_eq,fdC1,fdC2,fdC3,fdC4,fdC5,fdC6,fdC7,List.append_nil]
          refine callI_spec (t_FindIn _ _ (by omega) _) ?_
          simp only [vqM,vt103,zA,zS,zM,zL,zE,zB,reduceCtorEq,g4,g5,g6,g7,box_lt g4,box_lt g5,box_lt g6,box_lt g7,fdC_eq,fdC1,fdC2,fdC3,fdC4,fdC5,fdC6,fdC7,List.append_nil]
          refine joinI_intro ⟨by simp only [vke,zB,zA],?_⟩
          rw [if_pos (by simpa using hc)]
        · simp only [vqM,vt103,zA,zS,zM,zL,zE,zB,reduceCtorEq,g4,g5,g6,g7,box_lt g4,box_lt g5,box_lt g6,box_lt g7,fdC_eq,fdC1,fdC2,fdC3,fdC4,fdC5,fdC6,fdC7,List.append_nil]
          refine joinI_intro ⟨by simp only [vke,zB,zA],?_⟩
          rw [if_neg (by simpa using hc)]
      rintro e s ⟨he,rfl⟩
      refine awN_keep [3,4,5,6,7,8,9,10,11] ?_
      rw [he]
      clear he
      generalize hw1:(if id ∈ lf then findS q1 id else findS p id)=w1 at hf ⊢
      refine awN_joinI (fun e s=>keep [3,4,5,6,7,8,9,10,11] e=[.junk,.junk,.junk,.bool true,.box (B.length+1) 0,.box (B.length+2) 0,.box (B.length+3) 0,.box (B.length+4) 0,.slice .none (intCells lf),.slice .none (intCells rt),.int .i64 id,.box B1.length 0,.junk,.junk,.junk,.junk,.junk,.junk,.junk,.junk,.junk,.junk,.junk,.junk,.junk,.junk,.junk,.junk,.junk,.junk,.junk,.junk,.junk,.junk,.junk,.junk,.junk,.junk,.junk,.junk,.junk,.junk,.junk,.junk,.junk,.junk,.junk,.junk,.junk,.junk,.junk,.junk,.junk,.junk,.junk,.junk,.junk,.junk,.junk,.junk,.junk,.junk,.junk,.junk,.junk,.junk,.junk,.junk,.junk,.junk,.junk,.junk,.junk,.junk,.junk,.junk,.junk,.junk,.junk,.junk,.junk,.junk,.junk,.junk]∧s=⟨B1++[.cells (fdC (findS M id))],L,c⟩) ?_ ?_
      · refine awN_cw hmix ?_
        simp only [vqM,vt103,zA,zS,zM,zL,zE,zB,reduceCtorEq,g4,g5,g6,g7,box_lt g4,box_lt g5,box_lt g6,box_lt g7,fdC_eq,fdC1,fdC2,fdC3,fdC4,fdC5,fdC6,fdC7,List.append_nil]
        refine callI_spec (t_Has _ _ _) ?_
        simp only [vqM,vt103,zA,zS,zM,zL,zE,zB,reduceCtorEq,g4,g5,g6,g7,box_lt g4,box_lt g5,box_lt g6,box_lt g7,fdC_eq,fdC1,fdC2,fdC3,fdC4,fdC5,fdC6,fdC7,List.append_nil]
        refine ifI_intro (fun hc=>?_) (fun hc=>?_)
        · simp only [vqM,vt103,zA,zS,zM,zL,zE,zB,reduceCtorEq,g4,g5,g6,g7,box_lt g4,box_lt g5,box_lt g6,box_lt g7,fdC_eq,fdC1,fdC2,fdC3,fdC4,fdC5,fdC6,fdC7,List.append_nil]
          refine callI_spec (t_FindIn _ _ (by omega) _) ?_
          simp only [vqM,vt103,zA,zS,zM,zL,zE,zB,reduceCtorEq,g4,g5,g6,g7,box_lt g4,box_lt g5,box_lt g6,box_lt g7,fdC_eq,fdC1,fdC2,fdC3,fdC4,fdC5,fdC6,fdC7,List.append_nil]
          refine joinI_intro ⟨by simp only [vke,zB,zA],?_⟩
          rw [hf,if_pos (by simpa using hc)]
        · simp only [vqM,vt103,zA,zS,zM,zL,zE,zB,reduceCtorEq,g4,g5,g6,g7,box_lt g4,box_lt g5,box_lt g6,box_lt g7,fdC_eq,fdC1,fdC2,fdC3,fdC4,fdC5,fdC6,fdC7,List.append_nil]
          refine joinI_intro ⟨by simp only [vke,zB,zA],?_⟩
          rw [hf,if_neg (by simpa using hc)]
      rintro e s ⟨he,rfl⟩
      refine awN_keep [3,4,5,6,7,8,9,10,11] ?_
      rw [he]
      clear he
      refine awN_cw hmix ?_
      simp only [vqM,vt103,zA,zS,zM,zL,zE,zB,reduceCtorEq,g4,g5,g6,g7,box_lt g4,box_lt g5,box_lt g6,box_lt g7,fdC_eq,fdC1,fdC2,fdC3,fdC4,fdC5,fdC6,fdC7,List.append_nil,vsMg,dP]
      refine callI_spec (t_FindIn _ _ hMl _) ?_
      simp only [vqM,vt103,zA,zS,zM,zL,zE,zB,reduceCtorEq,g4,g5,g6,g7,box_lt g4,box_lt g5,box_lt g6,box_lt g7,fdC_eq,fdC1,fdC2,fdC3,fdC4,fdC5,fdC6,fdC7,List.append_nil,bne_self_eq_false]
      refine callI_spec (t_SameDefF _ _ _) ?_
      have hw:IntKind.i64.wrap (id+1)=11+((k+1:Nat):Int):=by rw [wrap_in (by omega)];omega
      simp only [vqM,vt103,zA,zS,zM,zL,zE,zB,reduceCtorEq,decide_true,hw]
      refine awN_keep [3,4,5,6,7,8,9,10] ?_
      simp only [vke,zB,zA]
      refine ih _ _ ⟨_,rfl,rfl,⟨X++[.cells (fdC (findS M id)),.cells (fdC (findS M id))],by rw [hX,List.append_assoc]⟩,box_lt g4,box_lt g5,box_lt g6,box_lt g7⟩
    · rintro e s ⟨B1,rfl,rfl,⟨X,hX⟩,g4,g5,g6,g7⟩
      have hlt:(11+((12:Nat):Int)<23)=False:=by simp
      simp only [vqM,vt103,zA,zS,zM,zL,zE,zB,reduceCtorEq,hlt,decide_false]
      rw [hX]
      refine ret_loc (.inr rfl) ?_ (.bool _) (fun _ h=>h) (Nat.le_refl _)
      simp only [vqM,vt103,zA,zS,zM,zL,zE,zB,reduceCtorEq]
  · have h0':((mgS (threeS p q1 q2)).e=0)=False:=eq_false h0
    have hz:(dfCells (mgS (threeS p q1 q2)).p.defs).length=0:=by
      have:=three_zero (p:=p) (a:=q1) (b:=q2) h0
      show (dfCells (threeS p q1 q2).1.defs).length=0
      rw [this];rfl
    refine awN_cw hmix ?_
    simp only [vqM,vt103,zA,zS,zM,zL,zE,zB,reduceCtorEq,vsMg,d0,List.append_nil,h0',hz,ne_eq,not_false_eq_true,decide_true]
    refine ret_loc (.inr rfl) ?_ (.bool _) (fun _ h=>h) (Nat.le_refl _)
    simp only [vqM,vt103,zA,zS,zM,zL,zE,zB,reduceCtorEq]
end Go.V
namespace Go.Proofs.YtmfmcdomgagebaaGreat
open Go.V Go.ChangeShapes Go.WideShapes
set_option maxRecDepth 20000
set_option maxHeartbeats 4000000
theorem entries_holds_lifted (os:Os) (started:os.Started) (H:Type) (enc:TypeId × Value→H) :
    ReturnsInHanded {} Tryz.checked os 6 .any (Rows.mergeEntriesSpec.pre6 enc Tryz.prog Tryz.f6 Rows.mergeEntriesRow.domain false) (Rows.mergeEntriesSpec.post enc Tryz.prog Tryz.f6 false Rows.mergeEntriesRow.fresh Rows.mergeEntriesRow.handsOn Rows.mergeEntriesRow.again):=by
  refine returnsInHanded_of_change_sized (C:=Tryz.checked) own started (by kernel_rfl) Tryz.func6
    (ChangeSpec.witness6 (enc:=enc) (C:=Tryz.checked) false ⟨#[],#[.agg #[.slice none 0 0,.slice none 0 0,.slice none 0 0]],[]⟩ 8 (by kernel_rfl) (by kernel_rfl) (by kernel_rfl) (by kernel_rfl)) ?_
  intro W base args ds gs before hval0 hW _ hwt _
  have hval:∀ (j:Nat) t v,Tryz.f6.params[j]? = some t→args[j]? = some v→Value.okWide Tryz.prog W .any base t v:=hval0
  have hW':=hW
  obtain ⟨p,q,hA0,hV,rfl,hfz,_⟩:=hW
  obtain ⟨rfl,rfl⟩:=trodVars_none hV
  have hpar:Tryz.f6.params.toList=[27]:=by kernel_rfl
  have hA:DataW.TrodAll enc Tryz.prog W 0 (fun _=>true) true Tryz.f6.params.toList args.toList ds p:=hA0
  rw [hpar] at hA
  obtain ⟨v0,d0,rfl,rfl,h0⟩:=trodAll_one hA
  have hwt0:(d0.weights Tryz.prog 27).all (· ≤ reachBytes)=true:=by
    refine List.all_eq_true.2 fun x hx=>List.all_eq_true.1 hwt x ?_
    exact DataW.weights_mem_each (j:=0) (t:=27) (d:=d0) (by kernel_rfl) rfl x hx
  obtain ⟨xs,hin,hR⟩:=arg_in 6 sidesT.st sidesOk hwt0 (hval 0 27 v0 (by kernel_rfl) rfl) h0
  obtain ⟨b,l,m,hb,hl,hm,hx⟩:=In.sides sidesT hin
  rw [hx] at hR
  have hspec:=t_MergeEntries b hb l m hl hm ⟨[],[],0⟩
  refine (spec_calls hspec (w:=W) (vs:=#[v0]) ⟨rfl,fun i h1 h2=>?_⟩).mono fun e W' ⟨he,k1,k2,k3,k4⟩=>?_
  · match i,h2 with
    | 0,_=>exact hR
  · exact ⟨_,he,post_true (tb:=4) kids full (by rw [hpar];decide +kernel) rfl (by kernel_rfl) (by kernel_rfl) hW' rfl rfl rfl k1 k2 k3 k4⟩
theorem entries_holds:Rows.MergeEntriesSaid :=
  OpenClaim.holds_of_wide 6 Tryz.f6 rfl rfl rfl rfl rfl rfl rfl ⟨rfl,rfl,rfl,rfl,rfl⟩ rfl rfl rfl rfl rfl (by kernel_rfl) Tryz.func6 (by kernel_rfl)
    (of_decide_eq_true (by kernel_rfl)) (by unfold Func.isWrapper;first | (rw [if_pos (by decide +kernel)];kernel_rfl) | (rw [if_neg (by decide +kernel)];exact ⟨rfl,rfl⟩))
    (fun os started H enc _=>entries_holds_lifted os started H enc)
#print axioms entries_holds
end Go.Proofs.YtmfmcdomgagebaaGreat
