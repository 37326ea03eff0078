/-
  MergeMatchesReference answers true at every input. No condition.
-/
import Derived.Test.YtmfmcdomgagebaaGreatBasm9
import Derived.Test.YtmfmcdomgagebaaGreatRows
set_option linter.all false
open Nat renaming reduceAdd → zA, reduceSub → zS, reduceMul → zM, reduceLeDiff → zL, reduceEqDiff → zE, reduceBEq → zB
namespace Go.V
open Go.Proofs
set_option maxRecDepth 20000
set_option maxHeartbeats 4000000
def seMg (x y:Mg):Bool:=decide (x.e=y.e) && (decide (x.c=y.c) && decide (x.p=y.p))
theorem t_Same27 (x y:Mg) (s:St):Spec Tryz.prog 12 [.agg x.cells,.agg y.cells] s (.bool (seMg x y)) s:=by
 obtain ⟨B,L,c⟩:=s
 refine Spec.introN [] Tryz.func12 rfl (by decide) hmix (by kernel_rfl) [ResultVar.tmp 4] 24 rfl rfl ?_
 simp only [vqM,vt121,zA,zS,vsMg]
 repeat' (first
  | ((with_reducible refine kh9 ?_);refine ka9 (yb9 _ _ _) ?_;simp only [vqM])
  | ((with_reducible refine kh9 ?_);refine ka9 (t_SameProgramF _ _ _) ?_;simp only [vqM])
  | (with_reducible refine kb9 (fun hc=>?_) (fun hc=>?_) <;> simp only [vqM,vt121,hc,zA,zL,vsMg])
  | ((with_reducible refine is_q ?_);refine ke9 (.inr rfl) ?_ (.bool _) (fun _ h=>h) (Nat.le_refl _) <;> (try simp only [vqM]) <;> (first | (simp only [seMg, *,Bool.true_and,Bool.false_and,Bool.and_false];done) | (simp_all [seMg];done) | (simp_all [seMg];omega))))
structure MrgR (p:Pg):Prop where
 hd:Hded p
 hl:p.heads.length≤900
 dl:p.defs.length<1000000
 nm:∀ d ∈ p.defs,d.name.size≤1000000000
 cn:∀ d ∈ p.defs,cntL d.body<90000
theorem VarOk.mrgR {p:Pg} {n:Nat} (h:VarOk p n) (hn:n≤30):MrgR p where
 hd:=fun id hn=>by
  rw [findS,List.find?_eq_none]
  intro d hd he
  rw [headS,List.find?_eq_none] at hn
  have hm:hdOf d ∈ p.heads:=by rw [h.hds];exact List.mem_map.2 ⟨d,hd,rfl⟩
  exact hn _ hm (by rw [hdOf_id];exact he)
 hl:=by rw [h.hds,List.length_map];have:=h.vl.ln;omega
 dl:=by have:=h.vl.ln;omega
 nm:=fun d hd=>by have:=(h.vl.ok d hd).nm;omega
 cn:=fun d hd=>by
  have:=(h.vl.ok d hd).fl
  rw [sitesS,List.length_append,sitesL,List.length_map,xr9] at this
  simp at this;omega
theorem closed_mem {p:Pg} {n:Int} {d:Df} (h:d ∈ (closedP p n).defs):d ∈ p.defs:=(List.mem_filter.1 h).1
theorem MrgR.closed {p:Pg} (h:MrgR p) (n:Int):MrgR (closedP p n) where
 hd:=fun id hn=>by
  have h1:=h.hd id hn
  rw [findS,List.find?_eq_none] at h1 ⊢
  exact fun d hd=>h1 d (closed_mem hd)
 hl:=h.hl
 dl:=Nat.lt_of_le_of_lt (List.length_filter_le _ _) h.dl
 nm:=fun d hd=>h.nm d (closed_mem hd)
 cn:=fun d hd=>h.cn d (closed_mem hd)
theorem MrgN.closed {p:Pg} (h:MrgN p) (n:Int):MrgN (closedP p n) where
 nc:=⟨h.nc.hid,h.nc.pos⟩
 ok:=⟨fun d hd=>h.ok.nm d (closed_mem hd),fun d hd=>h.ok.fl d (closed_mem hd),fun d hd=>h.ok.ca d (closed_mem hd)⟩
 hl:=h.hl
theorem MrgR.pg {p a b:Pg} (ha:MrgR a) (hb:MrgR b):PgR (wu9 p a b) where
 nm:=fun d hd=>by exact (merged_defs hd).elim (ha.nm d) (hb.nm d)
 cn:=fun d hd=>by exact (merged_defs hd).elim (ha.cn d) (hb.cn d)
theorem t_ThreeR (p a b:Pg) (hp:MrgR p) (ha:MrgR a) (hb:MrgR b) (s:St):Spec Tryz.prog 14 [.agg p.cells,.agg a.cells,.agg b.cells] s (.agg (mgS (threeS p a b)).cells) s :=
 t_ThreeIn p a b hp.hd ha.hd hb.hd hp.hl ha.hl hb.hl hp.dl ha.dl hb.dl (ha.pg hb) s
theorem t_ChangedN (p q:Pg) (hp:MrgN p) (hq:MrgN q) (s:St):Spec Tryz.prog 16 [.agg p.cells,.agg q.cells] s (.slice .none (intCells (wy9 p q))) s:=t_Changed p q hp.nc hq.nc hp.hl hq.hl s
theorem t_ChangedM (p q:Pg) (hp:MrgR p) (hq:MrgR q) (s:St):Spec Tryz.prog 17 [.agg p.cells,.agg q.cells] s (.slice .none (intCells (wy9 p q))) s:=t_ChangedR p q hp.hd hq.hd hp.hl hq.hl hp.dl hq.dl s
theorem t_MergeMatches (b:List Int) (hb:∀ x ∈ b,0≤x∧x<256) (l m:List Cg) (hl:∀ z ∈ l,z.Ok) (hm:∀ z ∈ m,z.Ok) (k:Int) (s:St):Spec Tryz.prog 3 [inp27 b l m,.int .u8 k] s (.bool true) s:=by
 have M0:=((made_var hb).mrg (by omega)).n
 have M1:=((variant_ok (made_var hb) hl).mrg (by omega)).n
 have M2:=((variant_ok (made_var hb) hm).mrg (by omega)).n
 have R0:=(made_var hb).mrgR (by omega)
 have R1:=(variant_ok (made_var hb) hl).mrgR (by omega)
 have R2:=(variant_ok (made_var hb) hm).mrgR (by omega)
 have hmade:=fun s=>t_made27 b hb l m hl hm s
 generalize made b=p at *
 generalize variantS p l=q1 at *
 generalize variantS p m=q2 at *
 have hse:∀ x:Mg,seMg x x=true:=fun x=>by simp [seMg]
 obtain ⟨B,L,c⟩:=s
 simp only [inp27]
 refine Spec.introN [(6,.text [false,false,false,true,false,false,false,true,true,false,false,false,false,true,false,false,false,true,true,false,false,false,false,true,false,false,true,true,false,false,false,false,true,false,false,true,true,false,false,false,false,false] [(4,0),(5,0),(6,0),(14,3),(15,3),(16,3),(24,6),(25,6),(33,9),(34,9)])] Tryz.func3 rfl (by decide) hmix (by kernel_rfl) [ResultVar.tmp 4] 66 rfl rfl ?_
 simp only [vqM,zA,zS,zB]
 refine ka9 (t_examples27 _) ?_
 simp only [vqM,vt123,zA,zB]
 refine ka9 (hmade _) ?_
 simp only [vqM,vt123,zA,zB]
 have h40:((4:Int)=0)=False:=by simp
 simp only [vqM,vt123,h40,not_false_eq_true]
 refine ka9 (t_Closed q2 _ R2.dl _) ?_
 simp only [vqM,vt123,zA]
 have M3:=M2.closed (IntKind.i64.wrap (11+IntKind.i64.wrap (k.tmod 4)))
 have R3:=R2.closed (IntKind.i64.wrap (11+IntKind.i64.wrap (k.tmod 4)))
 generalize closedP q2 (IntKind.i64.wrap (11+IntKind.i64.wrap (k.tmod 4)))=q3 at *
 repeat' (first
  | (with_reducible refine xq9 ?_ ?_)
  | (with_reducible refine And.intro ?_ ?_)
  | ((with_reducible refine kh9 ?_);refine ka9 (t_three27 _ _ _ M0 M1 M2 _) ?_;simp only [vqM,vt123])
  | ((with_reducible refine kh9 ?_);refine ka9 (t_three27 _ _ _ M0 M1 M3 _) ?_;simp only [vqM,vt123])
  | ((with_reducible refine kh9 ?_);refine ka9 (t_ThreeR _ _ _ R0 R1 R2 _) ?_;simp only [vqM,vsMg])
  | ((with_reducible refine kh9 ?_);refine ka9 (t_ThreeR _ _ _ R0 R1 R3 _) ?_;simp only [vqM,vsMg])
  | ((with_reducible refine kh9 ?_);refine ka9 (t_Same27 _ _ _) ?_;simp only [vqM,vt123,hse])
  | ((with_reducible refine kh9 ?_);refine ka9 (t_ChangedN _ _ M0 M1 _) ?_;simp only [vqM,vt123])
  | ((with_reducible refine kh9 ?_);refine ka9 (t_ChangedN _ _ M3 M1 _) ?_;simp only [vqM,vt123])
  | ((with_reducible refine kh9 ?_);refine ka9 (t_ChangedM _ _ R0 R1 _) ?_;simp only [vqM])
  | ((with_reducible refine kh9 ?_);refine ka9 (t_ChangedM _ _ R3 R1 _) ?_;simp only [vqM])
  | ((with_reducible refine kh9 ?_);refine ka9 (yb9 _ _ _) ?_;simp only [vqM,vt123,decide_true])
  | (with_reducible refine is_pN ?_;simp only [vqM,vt123,zA,zS,zM,zL,zE,zB,reduceCtorEq,vsMg,hse,decide_true]))
 refine ke9 (.inr rfl) ?_ (.bool _) (fun _ h=>h) (Nat.le_refl _)
 simp only [vqM]
end Go.V
namespace Go.Proofs.YtmfmcdomgagebaaGreat
open Go.V Go.ChangeShapes Go.WideShapes
set_option maxRecDepth 20000
set_option maxHeartbeats 4000000
theorem own:ownKnob Tryz.prog.godebug=none:=by kernel_rfl
theorem kids:Kids Tryz.prog (· < Tryz.prog.types.size):=kids_rows (by kernel_rfl) (by kernel_rfl)
theorem full:∀ t e,t < Tryz.prog.types.size→Tryz.prog.underlying t=some (.slice e)→0 < Tryz.prog.cellsOf e:=slices_full_of Tryz.prog (by kernel_rfl)
def elemOf (P:Program) (t:TypeId):TypeId:=match P.underlying t with
 | some (.slice e)=>e
 | _=>0
def fldAt (P:Program) (t:TypeId) (i:Nat):Field:=match P.underlying t with
 | some (.struct fs)=>fs.toList.getD i default
 | _=>default
theorem sidesT:SidesT Tryz.prog 27 (fldAt Tryz.prog 27 0) (fldAt Tryz.prog 27 1) (fldAt Tryz.prog 27 2) (fldAt Tryz.prog 24 0) (elemOf Tryz.prog (fldAt Tryz.prog 24 0).type) (elemOf Tryz.prog (fldAt Tryz.prog 27 1).type)
  (fldAt Tryz.prog 101 0) (fldAt Tryz.prog 101 1) (fldAt Tryz.prog 101 2):=by
 constructor <;> first | kernel_rfl | (constructor <;> kernel_rfl)
theorem sidesOk:okIn Tryz.prog 6 27=true:=by kernel_rfl
theorem matches_holds_lifted (os:Os) (started:os.Started) (H:Type) (enc:TypeId × Value→H) :
  ReturnsInHanded {} Tryz.checked os 3 .any (Rows.mergeMatchesReferenceSpec.pre6 enc Tryz.prog Tryz.f3 Rows.mergeMatchesReferenceRow.domain false) (Rows.mergeMatchesReferenceSpec.post enc Tryz.prog Tryz.f3 false Rows.mergeMatchesReferenceRow.fresh Rows.mergeMatchesReferenceRow.handsOn Rows.mergeMatchesReferenceRow.again):=by
 refine returnsInHanded_of_change_sized (C:=Tryz.checked) own started (by kernel_rfl) Tryz.func3
  (ChangeSpec.witness6 (enc:=enc) (C:=Tryz.checked) false ⟨#[],#[.agg #[.slice none 0 0,.slice none 0 0,.slice none 0 0],.int .u8 0],[]⟩ 8 (by kernel_rfl) (by kernel_rfl) (by kernel_rfl) (by kernel_rfl)) ?_
 intro W base args ds gs before hval0 hW _ hwt _
 have hval:∀ (j:Nat) t v,Tryz.f3.params[j]? = some t→args[j]? = some v→Value.okWide Tryz.prog W .any base t v:=hval0
 have hW':=hW
 obtain ⟨p,q,hA0,hV,rfl,hfz,_⟩:=hW
 obtain ⟨rfl,rfl⟩:=trodVars_none hV
 have hpar:Tryz.f3.params.toList=[27,5]:=by kernel_rfl
 have hA:DataW.TrodAll enc Tryz.prog W 0 (fun _=>true) true Tryz.f3.params.toList args.toList ds p:=hA0
 rw [hpar] at hA
 obtain ⟨v0,v1,d0,d1,p0,p1,rfl,rfl,rfl,h0,h1⟩:=trodAll_two hA
 have hwt0:(d0.weights Tryz.prog 27).all (· ≤ reachBytes)=true:=by
  refine List.all_eq_true.2 fun x hx=>List.all_eq_true.1 hwt x ?_
  exact DataW.weights_mem_each (j:=0) (t:=27) (d:=d0) (by kernel_rfl) rfl x hx
 obtain ⟨xs,hin,hR⟩:=arg_in 6 sidesT.st sidesOk hwt0 (hval 0 27 v0 (by kernel_rfl) rfl) h0
 obtain ⟨b,l,m,hb,hl,hm,hx⟩:=In.sides sidesT hin
 rw [hx] at hR
 obtain ⟨n1,hn1,hR1⟩:=arg_int (k:=.u8) (by kernel_rfl) (hval 1 5 v1 (by kernel_rfl) rfl) h1
 have hspec:=t_MergeMatches b hb l m hl hm n1 ⟨[],[],0⟩
 refine (spec_calls hspec (w:=W) (vs:=#[v0,v1]) ⟨rfl,fun i h1 h2=>?_⟩).mono fun e W' ⟨he,k1,k2,k3,k4⟩=>?_
 ·match i,h2 with
  | 0,_=>exact hR
  | 1,_=>exact hR1
 ·exact ⟨_,he,post_true (tb:=4) kids full (by rw [hpar];decide +kernel) rfl (by kernel_rfl) (by kernel_rfl) hW' rfl rfl rfl k1 k2 k3 k4⟩
theorem matches_holds:Rows.MergeMatchesReferenceSaid :=
 OpenClaim.holds_of_wide 3 Tryz.f3 rfl rfl rfl rfl rfl rfl rfl ⟨rfl,rfl,rfl,rfl,rfl⟩ rfl rfl rfl rfl rfl (by kernel_rfl) Tryz.func3 (by kernel_rfl)
  (of_decide_eq_true (by kernel_rfl)) (by unfold Func.isWrapper;first | (rw [if_pos (by decide +kernel)];kernel_rfl) | (rw [if_neg (by decide +kernel)];exact ⟨rfl,rfl⟩))
  (fun os started H enc _=>matches_holds_lifted os started H enc)
#print axioms matches_holds
end Go.Proofs.YtmfmcdomgagebaaGreat
