/-
  StorePrefixes answers true at every input. No condition.
-/
import Derived.Test.YtlobjjbchnjfiaaGreatBpre10
import Derived.Test.YtlobjjbchnjfiaaGreatRows
open List renaming all_eq_true→Mn
open Nat renaming reduceAdd → zA, reduceSub → zS, reduceMul → zM, reduceLeDiff → zL, reduceEqDiff → zE, reduceBEq → zB
set_option linter.all false
set_option linter.unusedSimpArgs false
set_option linter.unusedVariables false
set_option linter.unnecessarySimpa false
open Option renaming some→Qv
open Bool renaming false→Qw
open Option renaming none→Qx
open Bool renaming true→Qy
open Go.Proofs.Tryz renaming prog→Qz
namespace Go.Proofs.YtlobjjbchnjfiaaGreat
open Go.V Go.ChangeShapes Go.WideShapes
set_option maxRecDepth 20000
set_option maxHeartbeats 4000000
theorem kv(os:Os)(started:os.Started)(H:Type)(enc:TypeId×Value→H) :
  ReturnsInHanded {} Tryz.checked os 6 .any (Rows.storePrefixesSpec.pre6 enc Qz Tryz.f6 Rows.storePrefixesRow.domain Qw) (Rows.storePrefixesSpec.post enc Qz Tryz.f6 Qw Rows.storePrefixesRow.fresh Rows.storePrefixesRow.handsOn Rows.storePrefixesRow.again):=by
 refine returnsInHanded_of_change_sized (C:=Tryz.checked) own started (by kernel_rfl) Tryz.func6
  (ChangeSpec.witness6 (enc:=enc) (C:=Tryz.checked) Qw ⟨#[],#[.agg #[.slice Qx 0 0,.slice Qx 0 0],.int .u8 0],[]⟩ 8 (by kernel_rfl) (by kernel_rfl) (by kernel_rfl) (by kernel_rfl)) ?_
 intro W base args ds gs before hval0 hW _ hwt _;have hval:∀(j:Nat)t v,Tryz.f6.params[j]?=Qv t→args[j]?=Qv v→Value.okWide Qz W .any base t v:=hval0;have hW':=hW;obtain⟨p,q,hA0,hV,rfl,hfz,_⟩:=hW;obtain⟨rfl,rfl⟩:=trodVars_none hV;have hpar:Tryz.f6.params.toList=[27,5]:=by kernel_rfl
 have hA:DataW.TrodAll enc Qz W 0 (λ_=>Qy) Qy Tryz.f6.params.toList args.toList ds p:=hA0;rw[hpar]at hA;obtain⟨v0,v1,d0,d1,p0,p1,rfl,rfl,rfl,h0,h1⟩:=trodAll_two hA;have hwt0:(d0.weights Qz 27).all (· ≤ reachBytes)=Qy:=by
  refine Mn.2 λx hx=>Mn.1 hwt x ?_;exact DataW.weights_mem_each (j:=0) (t:=27) (d:=d0) (by kernel_rfl) rfl x hx
 obtain⟨xs0,hin0,hR0⟩:=Lq 6 raw22T.st raw22Ok hwt0 (hval 0 27 v0 (by kernel_rfl) rfl) h0;obtain⟨b,l,hb,hl,hx0⟩:=In.raw22 raw22T hin0;rw[hx0]at hR0;obtain⟨n1,hn1,hR1⟩:=Ja (k:=.u8) (by kernel_rfl) (hval 1 5 v1 (by kernel_rfl) rfl) h1;have hspec:=qd b hb l hl n1 (by have h:=hn1;simp only[Lit.wf,Bool.and_eq_true,decide_eq_true_eq]at h;have h2:IntKind.u8.max=255:=rfl;have h3:IntKind.u8.min=0:=rfl;omega) ⟨[],[],0⟩;refine(yL hspec (w:=W) (vs:=#[v0,v1]) ⟨rfl,λi h1 h2=>?_⟩).mono λe W'⟨he,k1,k2,k3,k4⟩=>?_
 ·match i,h2 with
  |0,_=>exact hR0
  |1,_=>exact hR1
 ·exact⟨_,he,Cy (tb:=4) kids full (by rw[hpar];decide +kernel) rfl (by kernel_rfl) (by kernel_rfl) hW' rfl rfl rfl k1 k2 k3 k4⟩
theorem nr:Rows.storePrefixesRow.wf (OpenSpec.ofChange Rows.storePrefixesSpec)=Qy:=by kernel_rfl
theorem nq:Tryz.f6.params.all (Tryz.checked.prog.readableRec ·)=Qy:=by kernel_rfl
theorem nn:namedTie Tryz.checked.prog Rows.storePrefixesRow.named Rows.storePrefixesSpec.vars=Qy:=by kernel_rfl
theorem nk:(Rows.storePrefixesRow.stops == [])=Qy:=by kernel_rfl
theorem nj:(Rows.storePrefixesRow.knobs == [])=Qy:=by kernel_rfl
theorem ni:(Rows.storePrefixesRow.inPlace == Tryz.checked.prog.inPlace 6)=Qy:=by kernel_rfl
theorem mP:(Rows.storePrefixesRow.unfollowed == Tryz.checked.prog.unfollowed 6)=Qy:=by kernel_rfl
theorem mO:(Rows.storePrefixesRow.recurses == Tryz.checked.prog.recurses 6)=Qy:=by kernel_rfl
theorem mN:(Rows.storePrefixesRow.named == Tryz.checked.prog.varsNamed 6)=Qy:=by kernel_rfl
theorem mM:(Rows.storePrefixesRow.maps == (Tryz.f6.params.toList++Rows.storePrefixesSpec.plain.varTypes Tryz.checked.prog).any (Tryz.checked.prog.mapsRec ·))=Qy:=by kernel_rfl
theorem mL:(Rows.storePrefixesRow.ifaces == (Tryz.f6.params.toList++Rows.storePrefixesSpec.plain.varTypes Tryz.checked.prog).any (Tryz.checked.prog.ifacesRec ·))=Qy:=by kernel_rfl
theorem mK:(Rows.storePrefixesRow.mapsOut == Tryz.checked.prog.mapsAmong Tryz.f6.resultTypes.toList)=Qy:=by kernel_rfl
theorem mJ:(Rows.storePrefixesRow.loops == (Tryz.f6.params.toList++Rows.storePrefixesSpec.plain.varTypes Tryz.checked.prog).any (Tryz.checked.prog.loopsFrom ·))=Qy:=by kernel_rfl
theorem mI:(Rows.storePrefixesRow.wideKeys == (Tryz.f6.params.toList++Rows.storePrefixesSpec.plain.varTypes Tryz.checked.prog++Tryz.f6.resultTypes.toList).any (Tryz.checked.prog.wideKeysFrom ·))=Qy:=by kernel_rfl
theorem mH:Rows.storePrefixesSpec.vars.all (Tryz.checked.prog.varReadable ·)=Qy:=by kernel_rfl
theorem mG:Tryz.f6.resultTypes.all (λt=>Tryz.checked.prog.readableRec t&&decide (t<Tryz.checked.prog.types.size))=Qy:=by kernel_rfl
theorem mF:(Rows.storePrefixesRow.ifacesOut == Tryz.f6.resultTypes.toList.any (Tryz.checked.prog.ifacesRec ·))=Qy:=by kernel_rfl
theorem mE:(Rows.storePrefixesRow.loopsOut == Tryz.f6.resultTypes.toList.any (Tryz.checked.prog.loopsFrom ·))=Qy:=by kernel_rfl
theorem mD:(Rows.storePrefixesRow.plainKeys == Tryz.checked.prog.plainKeys)=Qy:=by kernel_rfl
theorem mC:Rows.storePrefixesRow.shortTexts.isNone=Qy:=by kernel_rfl
theorem mB:(Rows.storePrefixesRow.lifted == Tryz.checked.prog.liftsFinal)=Qy:=by kernel_rfl
theorem mA:(Tryz.checked.prog.make == Qv Rows.storePrefixesRow.make)=Qy:=by kernel_rfl
theorem mz:(Rows.storePrefixesRow.kinds == (if Rows.storePrefixesRow.domain.isEmpty then[]else Tryz.f6.params.toList.map λt=>match Tryz.checked.prog.underlying t with|some (.int k)=>Qv k|_=>Qx))=Qy:=by kernel_rfl
theorem my:(Rows.storePrefixesRow.pinned == Rows.storePrefixesRow.pinnedBy)=Qy:=by kernel_rfl
theorem mw:(Rows.storePrefixesRow.veiled == (Tryz.f6.params.toList++Rows.storePrefixesSpec.plain.varTypes Tryz.checked.prog++Tryz.f6.resultTypes.toList).any (Tryz.checked.prog.veiledRec ·))=Qy:=by kernel_rfl
theorem mv:Rows.storePrefixesRow.veiledFits Tryz.checked.prog Tryz.f6.params.toList (Tryz.f6.params.toList++Rows.storePrefixesSpec.plain.varTypes Tryz.checked.prog++Tryz.f6.resultTypes.toList)=Qy:=by kernel_rfl
theorem kw:joinedFacts Tryz.checked.prog 6 Tryz.f6 Rows.storePrefixesSpec Rows.storePrefixesRow=Qy:=by unfold joinedFacts;exact(dM (dM (dM (dM (dM (dM (dM (dM (dM (dM (dM (dM (dM (dM (dM (dM (dM (dM (dM (dM (dM (dM (dM (dM (dM (dM (dM (dM (dM (dM (dM nr jjP1) jjP2) nq) nn) nk) jjP6) nj) jjP8) ni) mP) mO) mN) mM) mL) mK) mJ) mI) mH) mG) mF) mE) mD) mC) L8) L6) mB) mA) mz) my) mw) mv)
theorem prefixes_holds:Rows.StorePrefixesSaid:=
 OpenClaim.holds_of_wide 6 Tryz.f6 rfl rfl rfl rfl rfl rfl rfl ⟨rfl,rfl,rfl,rfl,rfl⟩ rfl rfl rfl rfl rfl (by kernel_rfl) Tryz.func6 kw
  (of_decide_eq_true (by kernel_rfl)) (by unfold Func.isWrapper;first|(rw[if_pos (by decide +kernel)];kernel_rfl)|(rw[if_neg (by decide +kernel)];exact⟨rfl,rfl⟩))
  (λos started H enc _=>kv os started H enc)
#print axioms prefixes_holds
end Go.Proofs.YtlobjjbchnjfiaaGreat
