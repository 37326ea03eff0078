/-
  StoreNames answers true at every input. No condition.
-/
import Derived.Test.YtlobjjbchnjfiaaGreatBasn9
import Derived.Test.YtlobjjbchnjfiaaGreatRows
open Nat renaming reduceAdd → zA, reduceSub → zS, reduceMul → zM, reduceLeDiff → zL, reduceEqDiff → zE, reduceBEq → zB
set_option linter.all false
set_option linter.unusedSimpArgs false
set_option linter.unusedVariables false
set_option linter.unnecessarySimpa false
namespace Go.Proofs.YtlobjjbchnjfiaaGreat
open Go.V Go.ChangeShapes Go.WideShapes
set_option maxRecDepth 20000
set_option maxHeartbeats 4000000
theorem names_holds_lifted (os:Os) (started:os.Started) (H:Type) (enc:TypeId × Value→H) :
  ReturnsInHanded {} Tryz.checked os 5 .any (Rows.storeNamesSpec.pre6 enc Tryz.prog Tryz.f5 Rows.storeNamesRow.domain false) (Rows.storeNamesSpec.post enc Tryz.prog Tryz.f5 false Rows.storeNamesRow.fresh Rows.storeNamesRow.handsOn Rows.storeNamesRow.again):=by
 refine returnsInHanded_of_change_sized (C:=Tryz.checked) own started (by kernel_rfl) Tryz.func5
  (ChangeSpec.witness6 (enc:=enc) (C:=Tryz.checked) false ⟨#[],#[.agg #[.slice none 0 0],.agg #[.string ⟨#[]⟩,.string ⟨#[]⟩],.agg #[.int .u8 0,.int .u8 0,.int .u8 0,.int .u8 0]],[]⟩ 8 (by kernel_rfl) (by kernel_rfl) (by kernel_rfl) (by kernel_rfl)) ?_
 intro W base args ds gs before hval0 hW _ hwt _
 have hval:∀ (j:Nat) t v,Tryz.f5.params[j]? = some t→args[j]? = some v→Value.okWide Tryz.prog W .any base t v:=hval0
 have hW':=hW
 obtain ⟨p,q,hA0,hV,rfl,hfz,_⟩:=hW
 obtain ⟨rfl,rfl⟩:=trodVars_none hV
 have hpar:Tryz.f5.params.toList=[24,75,28]:=by kernel_rfl
 have hA:DataW.TrodAll enc Tryz.prog W 0 (fun _=>true) true Tryz.f5.params.toList args.toList ds p:=hA0
 rw [hpar] at hA
 obtain ⟨v0,v1,v2,d0,d1,d2,p0,p1,p2,rfl,rfl,rfl,h0,h1,h2⟩:=trodAll_three hA
 have hwt0:(d0.weights Tryz.prog 24).all (· ≤ reachBytes)=true:=by
  refine List.all_eq_true.2 fun x hx=>List.all_eq_true.1 hwt x ?_
  exact DataW.weights_mem_each (j:=0) (t:=24) (d:=d0) (by kernel_rfl) rfl x hx
 obtain ⟨b,hb,hR0⟩:=arg_bytes rawT.st rawT.sl rawT.el rawT.c1 rawT.c2 rawT.c3 rawT.o0 rawT.by1 hwt0 (hval 0 24 v0 (by kernel_rfl) rfl) h0
 have hwt1:(d1.weights Tryz.prog 75).all (· ≤ reachBytes)=true:=by
  refine List.all_eq_true.2 fun x hx=>List.all_eq_true.1 hwt x ?_
  exact DataW.weights_mem_each (j:=1) (t:=75) (d:=d1) (by kernel_rfl) rfl x hx
 obtain ⟨xs1,hin1,hR1⟩:=arg_arr 6 str2T.ar str2Ok hwt1 (hval 1 75 v1 (by kernel_rfl) rfl) h1
 obtain ⟨s0,s1,hs0,hs1,hx1⟩:=In.str2 str2T hin1
 rw [hx1] at hR1
 have hwt2:(d2.weights Tryz.prog 28).all (· ≤ reachBytes)=true:=by
  refine List.all_eq_true.2 fun x hx=>List.all_eq_true.1 hwt x ?_
  exact DataW.weights_mem_each (j:=2) (t:=28) (d:=d2) (by kernel_rfl) rfl x hx
 obtain ⟨xs2,hin2,hR2⟩:=arg_arr 6 arr4T.ar arr4Ok hwt2 (hval 2 28 v2 (by kernel_rfl) rfl) h2
 obtain ⟨x2,hw2,hx2⟩:=In.arr4 arr4T hin2
 rw [hx2] at hR2
 have hspec:=t_StoreNames b hb s0 s1 hs0 hs1 x2.a x2.b x2.c x2.d hw2.a hw2.b hw2.c ⟨[],[],0⟩
 refine (spec_calls hspec (w:=W) (vs:=#[v0,v1,v2]) ⟨rfl,fun i h1 h2=>?_⟩).mono fun e W' ⟨he,k1,k2,k3,k4⟩=>?_
 ·match i,h2 with
  | 0,_=>exact hR0
  | 1,_=>exact hR1
  | 2,_=>exact hR2
 ·exact ⟨_,he,post_true (tb:=4) kids full (by rw [hpar];decide +kernel) rfl (by kernel_rfl) (by kernel_rfl) hW' rfl rfl rfl k1 k2 k3 k4⟩
theorem names_holds_j0:Rows.storeNamesRow.wf (OpenSpec.ofChange Rows.storeNamesSpec)=true:=by kernel_rfl
theorem names_holds_j3:Tryz.f5.params.all (Tryz.checked.prog.readableRec ·)=true:=by kernel_rfl
theorem names_holds_j4:namedTie Tryz.checked.prog Rows.storeNamesRow.named Rows.storeNamesSpec.vars=true:=by kernel_rfl
theorem names_holds_j5:(Rows.storeNamesRow.stops == [])=true:=by kernel_rfl
theorem names_holds_j7:(Rows.storeNamesRow.knobs == [])=true:=by kernel_rfl
theorem names_holds_j9:(Rows.storeNamesRow.inPlace == Tryz.checked.prog.inPlace 5)=true:=by kernel_rfl
theorem names_holds_j10:(Rows.storeNamesRow.unfollowed == Tryz.checked.prog.unfollowed 5)=true:=by kernel_rfl
theorem names_holds_j11:(Rows.storeNamesRow.recurses == Tryz.checked.prog.recurses 5)=true:=by kernel_rfl
theorem names_holds_j12:(Rows.storeNamesRow.named == Tryz.checked.prog.varsNamed 5)=true:=by kernel_rfl
theorem names_holds_j13:(Rows.storeNamesRow.maps == (Tryz.f5.params.toList++Rows.storeNamesSpec.plain.varTypes Tryz.checked.prog).any (Tryz.checked.prog.mapsRec ·))=true:=by kernel_rfl
theorem names_holds_j14:(Rows.storeNamesRow.ifaces == (Tryz.f5.params.toList++Rows.storeNamesSpec.plain.varTypes Tryz.checked.prog).any (Tryz.checked.prog.ifacesRec ·))=true:=by kernel_rfl
theorem names_holds_j15:(Rows.storeNamesRow.mapsOut == Tryz.checked.prog.mapsAmong Tryz.f5.resultTypes.toList)=true:=by kernel_rfl
theorem names_holds_j16:(Rows.storeNamesRow.loops == (Tryz.f5.params.toList++Rows.storeNamesSpec.plain.varTypes Tryz.checked.prog).any (Tryz.checked.prog.loopsFrom ·))=true:=by kernel_rfl
theorem names_holds_j17:(Rows.storeNamesRow.wideKeys == (Tryz.f5.params.toList++Rows.storeNamesSpec.plain.varTypes Tryz.checked.prog++Tryz.f5.resultTypes.toList).any (Tryz.checked.prog.wideKeysFrom ·))=true:=by kernel_rfl
theorem names_holds_j18:Rows.storeNamesSpec.vars.all (Tryz.checked.prog.varReadable ·)=true:=by kernel_rfl
theorem names_holds_j19:Tryz.f5.resultTypes.all (fun t=>Tryz.checked.prog.readableRec t && decide (t<Tryz.checked.prog.types.size))=true:=by kernel_rfl
theorem names_holds_j20:(Rows.storeNamesRow.ifacesOut == Tryz.f5.resultTypes.toList.any (Tryz.checked.prog.ifacesRec ·))=true:=by kernel_rfl
theorem names_holds_j21:(Rows.storeNamesRow.loopsOut == Tryz.f5.resultTypes.toList.any (Tryz.checked.prog.loopsFrom ·))=true:=by kernel_rfl
theorem names_holds_j22:(Rows.storeNamesRow.plainKeys == Tryz.checked.prog.plainKeys)=true:=by kernel_rfl
theorem names_holds_j23:Rows.storeNamesRow.shortTexts.isNone=true:=by kernel_rfl
theorem names_holds_j26:(Rows.storeNamesRow.lifted == Tryz.checked.prog.liftsFinal)=true:=by kernel_rfl
theorem names_holds_j27:(Tryz.checked.prog.make == some Rows.storeNamesRow.make)=true:=by kernel_rfl
theorem names_holds_j28:(Rows.storeNamesRow.kinds == (if Rows.storeNamesRow.domain.isEmpty then [] else Tryz.f5.params.toList.map fun t=>match Tryz.checked.prog.underlying t with | some (.int k)=>some k | _=>none))=true:=by kernel_rfl
theorem names_holds_j29:(Rows.storeNamesRow.pinned == Rows.storeNamesRow.pinnedBy)=true:=by kernel_rfl
theorem names_holds_j30:(Rows.storeNamesRow.veiled == (Tryz.f5.params.toList++Rows.storeNamesSpec.plain.varTypes Tryz.checked.prog++Tryz.f5.resultTypes.toList).any (Tryz.checked.prog.veiledRec ·))=true:=by kernel_rfl
theorem names_holds_j31:Rows.storeNamesRow.veiledFits Tryz.checked.prog Tryz.f5.params.toList (Tryz.f5.params.toList++Rows.storeNamesSpec.plain.varTypes Tryz.checked.prog++Tryz.f5.resultTypes.toList)=true:=by kernel_rfl
theorem names_holds_closed:joinedFacts Tryz.checked.prog 5 Tryz.f5 Rows.storeNamesSpec Rows.storeNamesRow=true:=by unfold joinedFacts;exact (jjand (jjand (jjand (jjand (jjand (jjand (jjand (jjand (jjand (jjand (jjand (jjand (jjand (jjand (jjand (jjand (jjand (jjand (jjand (jjand (jjand (jjand (jjand (jjand (jjand (jjand (jjand (jjand (jjand (jjand (jjand names_holds_j0 jjP1) jjP2) names_holds_j3) names_holds_j4) names_holds_j5) jjP6) names_holds_j7) jjP8) names_holds_j9) names_holds_j10) names_holds_j11) names_holds_j12) names_holds_j13) names_holds_j14) names_holds_j15) names_holds_j16) names_holds_j17) names_holds_j18) names_holds_j19) names_holds_j20) names_holds_j21) names_holds_j22) names_holds_j23) jjP24) jjP25) names_holds_j26) names_holds_j27) names_holds_j28) names_holds_j29) names_holds_j30) names_holds_j31)
theorem names_holds:Rows.StoreNamesSaid :=
 OpenClaim.holds_of_wide 5 Tryz.f5 rfl rfl rfl rfl rfl rfl rfl ⟨rfl,rfl,rfl,rfl,rfl⟩ rfl rfl rfl rfl rfl (by kernel_rfl) Tryz.func5 names_holds_closed
  (of_decide_eq_true (by kernel_rfl)) (by unfold Func.isWrapper;first | (rw [if_pos (by decide +kernel)];kernel_rfl) | (rw [if_neg (by decide +kernel)];exact ⟨rfl,rfl⟩))
  (fun os started H enc _=>names_holds_lifted os started H enc)
#print axioms names_holds
end Go.Proofs.YtlobjjbchnjfiaaGreat
