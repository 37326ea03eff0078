/-
  The value-level logic and its contracts, part 9 (texts W22, C0, W4D, C16, C18).
-/
import Derived.Test.YtlobjjbchnjfiaaGreatBasn8
import Derived.Test.YtlobjjbchnjfiaaGreatBasn6
import Derived.Test.YtlobjjbchnjfiaaGreatBasn7
import Derived.Test.YtlobjjbchnjfiaaGreatBasn5
import Derived.Test.YtlobjjbchnjfiaaGreatBasn3
import Derived.Test.YtlobjjbchnjfiaaGreatBasn4
import Derived.Test.YtlobjjbchnjfiaaGreatChecked
import Derived.JoinedOf
open Nat renaming reduceAdd → zA, reduceSub → zS, reduceMul → zM, reduceLeDiff → zL, reduceEqDiff → zE, reduceBEq → zB
open Go.V.D renaming junk → J
set_option linter.all false
set_option linter.unusedSimpArgs false
set_option linter.unusedVariables false
set_option linter.unnecessarySimpa false
set_option maxHeartbeats 4000000
namespace Go.V
open Go.Proofs
set_option maxRecDepth 20000
set_option maxHeartbeats 4000000
def nmLit (id:Int) (nm:ByteArray):List D:=[.int .i64 2,.int .i64 id,.int .i64 0,.str nm,.slice .nil [],.slice .nil [],.slice .nil []]
def ptLit (id n:Int):List D:=[.int .i64 3,.int .i64 id,.int .i64 n,.str ⟨#[]⟩,.slice .nil [],.slice .nil [],.slice .nil []]
theorem apC_w {n m:Nat} {p:Pg} {e:Ed} (h:PgN n m p) (he:EdN n e) (hn:n≤12) (hm:m+(if e.op=1 then e.defs.length else 0)≤12):(wPg (apC (applyS p e)).p).length≤1000000:=by
 cases hq:applyS p e with
 | none=>have:=zero_w;show (wPg Pg.zero).length≤_;omega
 | some q=>have:=prog_w (h.apply he hq) hn hm;show (wPg q).length≤_;omega
theorem vsCd3:(∀ p:Pg,(apC (some p)).e=0)∧((apC none).e=220)∧(∀ p:Pg,(apC (some p)).p=p)∧(decide ((220:Int)=0)=false)∧(decide ((0:Int)=0)=true):=⟨fun _=>rfl,rfl,fun _=>rfl,rfl,rfl⟩
theorem Df.eta' (a:Df):(⟨a.id,a.site,a.name,a.firm,a.part,a.params,a.given,a.vars,a.refs,a.arrays,a.budget,a.body⟩:Df)=a:=rfl
theorem dfF2 (x:Df) (b:D):(List.drop 2 (x.cells++[b]))[0]? = some (.str x.name):=rfl
theorem dfF4 (x:Df) (b:D):(List.drop 4 (x.cells++[b]))[0]? = some (.int .i64 x.part):=rfl
theorem hdF2 (x:Hd) (b:D):(List.drop 2 (x.cells++[b]))[0]? = some (.int .i64 x.part):=rfl
structure Bx2 (B C:List Box) (i j:Nat) (x y:List D):Prop where
 ex:∃ X,C=B++X
 a:C[i]? = some (.cells x)
 b:C[j]? = some (.cells y)
theorem Bx2.mk' {B:List Box} {i j:Nat} {x y:List D} {C:List Box} (Y:List Box) (hC:C=B++Y) (h1:Y[i]? = some (.cells x)) (h2:Y[j]? = some (.cells y)):Bx2 B C (B.length+i) (B.length+j) x y:=by
 subst hC
 exact ⟨⟨Y,rfl⟩,by rw [box_at];exact h1,by rw [box_at];exact h2⟩
theorem Bx2.mk0 {B:List Box} {x y:List D} {C:List Box} (hC:C=B++[.cells x,.cells y]):Bx2 B C B.length (B.length+1) x y:=by
 subst hC
 exact ⟨⟨_,rfl⟩,by rw [box_at0];rfl,by rw [box_at];rfl⟩
theorem Bx2.mk1 {B:List Box} {x y:List D} {C:List Box} (hC:C=B++[.cells y,.cells x]):Bx2 B C (B.length+1) B.length x y:=by
 subst hC
 exact ⟨⟨_,rfl⟩,by rw [box_at];rfl,by rw [box_at0];rfl⟩
theorem box_more {B C:List Box} {i:Nat} {x:Box} (h:∀ X,(B++X)[i]? = some x) (hC:∃ X,C=B++X) (X:List Box):(C++X)[i]? = some x:=by
 obtain ⟨Y,rfl⟩:=hC
 rw [List.append_assoc];exact h _
theorem box_nil {B:List Box} {i:Nat} {x:Box} (h:∀ X,(B++X)[i]? = some x):B[i]? = some x:=by
 have:=h []
 rwa [List.append_nil] at this
def n4D (n0 n1 n2 n3:Int):List D:=[.int .u8 n0,.int .u8 n1,.int .u8 n2,.int .u8 n3]
theorem t_StoreNames (b:List Int) (hb:∀ x ∈ b,0≤x∧x<256) (s0 s1:ByteArray) (hs0:s0.size≤1000000000000000) (hs1:s1.size≤1000000000000000) (n0 n1 n2 n3:Int) (h0:0≤n0∧n0<256) (h1:0≤n1∧n1<256) (h2:0≤n2∧n2<256) (s:St) :
  Spec Tryz.prog 5 [.agg [.slice .none (byteCells b)],.agg [.str s0,.str s1],.agg (n4D n0 n1 n2 n3)] s (.bool true) s:=by
 obtain ⟨B,L,c⟩:=s
 obtain ⟨hpN,hpO,hne,hdl⟩:=made_N hb
 refine Spec.introN [(5,.meet),(7,.stop),(8,.stop),(10,.stop),(15,.text [false,false,false,false,false,false,false,false,false,true,false,false,false,false,false,false,true,false,true,false,false] [(17,1)]),(18,.stop),(25,.text [false,false,false,true,false,false,false,true,true,false,false,false,false] [(5,0),(6,0)])] Tryz.func5 rfl (by decide) hmix (by kernel_rfl) [ResultVar.tmp 6] 183 rfl rfl ?_
 simp only [vqM,zA,zS,zB]
 refine callI_spec (t_examples22 _) ?_
 simp only [vqM,vt126,zA,zB]
 refine callI_spec (t_Made b hb _) ?_
 simp only [vqM,vt126,zA,zB]
 generalize made b=p at hpN hpO hne hdl
 have hdl0:0<p.defs.length:=List.length_pos_iff.2 hne
 have hd0:decide ((p.defs.length:Int)=0)=false:=by simp;omega
 obtain ⟨bx,hbx⟩:∃ bx,bx=[Box.cells [.slice .none (byteCells b)],.cells [.str s0,.str s1],.cells (n4D n0 n1 n2 n3),.cells p.cells]:=⟨_,rfl⟩
 refine seq_joinA [4,5,6,7,8] [J,J,J,J,.box (B.length+1) 0,.box (B.length+2) 0,.bool false,.bool true,.box (B.length+3) 0,J,J,J,J,J,J,J,J,J,J,J,J,J,J,J,J,J,J,J,J,J,J,J,J,J,J,J,J,J,J,J,J,J,J,J,J,J,J,J,J,J,J,J,J,J,J,J,J,J,J,J,J,J,J,J,J,J,J,J,J,J,J,J,J,J,J,J,J,J,J,J,J,J,J,J,J,J,J,J,J,J,J,J,J,J,J,J,J,J,J,J,J,J,J,J,J,J,J,J,J,J,J,J,J,J,J,J,J,J,J,J,J,J,J,J,J,J,J,J,J,J,J,J,J,J,J,J,J,J,J,J,J,J,J,J,J,J,J,J,J,J,J,J,J,J,J,J,J,J,J,J,J,J,J,J,J,J,J,J,J,J,J,J,J,J,J,J,J,J,J,J,J,J,J] (fun s=>s.1=B++bx∧s=⟨B++bx,L,c⟩∧s0.size+s1.size≤60) ?_ ?_
 ·simp only [vqM,vt126,zA,zB,vsA,dfCells_len,hd0]
  have hw:IntKind.i64.wrap ((s0.size:Int)+s1.size)=(s0.size:Int)+s1.size:=wrap_in (by omega)
  rw [hw]
  by_cases hsz:(60:Int)<(s0.size:Int)+s1.size
  ·have hsz':decide ((s0.size:Int)+s1.size > 60)=true:=by simp;omega
   simp only [vqM,zB,hsz']
   refine ret_loc (.inr rfl) ?_ (.bool _) (fun _ h=>h) (Nat.le_refl _)
   simp only [vqM]
  ·have hsz':decide ((s0.size:Int)+s1.size > 60)=false:=by simp;omega
   simp only [vqM,hsz']
   exact join_intro (by simp only [vke,zB,zA]) ⟨by rw [hbx],by rw [hbx],by omega⟩
 rintro s ⟨-,rfl,hsz⟩
 have g4:∀ X,(B++bx++X)[B.length+1]? = some (.cells [.str s0,.str s1]):=fun X=>by rw [List.append_assoc,box_at,hbx];rfl
 have g5:∀ X,(B++bx++X)[B.length+2]? = some (.cells (n4D n0 n1 n2 n3)):=fun X=>by rw [List.append_assoc,box_at,hbx];rfl
 have g8:∀ X,(B++bx++X)[B.length+3]? = some (.cells p.cells):=fun X=>by rw [List.append_assoc,box_at,hbx];rfl
 obtain ⟨C,hC⟩:∃ C,C=B++bx:=⟨_,rfl⟩
 have hCB:∃ X,C=B++X:=⟨bx,hC⟩
 rw [← hC] at g4 g5 g8 ⊢
 clear hC hbx
 refine awN_seq ?_
 refine awN_open fun _=>?_
 have c4:=box_nil g4
 have c5:=box_nil g5
 have c8:=box_nil g8
 have hm0:(0:Int)≤n0.tmod p.defs.length∧n0.tmod p.defs.length<p.defs.length:=⟨Int.tmod_nonneg _ h0.1,Int.tmod_lt_of_pos _ (by omega)⟩
 have hm1:(0:Int)≤n1.tmod p.defs.length∧n1.tmod p.defs.length<p.defs.length:=⟨Int.tmod_nonneg _ h1.1,Int.tmod_lt_of_pos _ (by omega)⟩
 obtain ⟨i0,hi0⟩:∃ i0:Nat,n0.tmod p.defs.length=i0:=⟨(n0.tmod p.defs.length).toNat,by omega⟩
 obtain ⟨i1,hi1⟩:∃ i1:Nat,n1.tmod p.defs.length=i1:=⟨(n1.tmod p.defs.length).toNat,by omega⟩
 have hl0:i0<p.defs.length:=by omega
 have hl1:i1<p.defs.length:=by omega
 have ha:p.defs[i0] ∈ p.defs:=List.getElem_mem _
 have hb2:p.defs[i1] ∈ p.defs:=List.getElem_mem _
 have hga:(dfCells p.defs)[i0]? = some (p.defs[i0].cells):=by simp [dfCells,List.getElem?_eq_getElem hl0]
 have hgb:(dfCells p.defs)[i1]? = some (p.defs[i1].cells):=by simp [dfCells,List.getElem?_eq_getElem hl1]
 have hlt0:((i0:Int)<(p.defs.length:Int))=True:=by simp;omega
 have hlt1:((i1:Int)<(p.defs.length:Int))=True:=by simp;omega
 have hnz:((p.defs.length:Int)=0)=False:=by simp;omega
 have hw0:IntKind.i64.wrap n0=n0:=wrap_in (by omega)
 have hw1:IntKind.i64.wrap n1=n1:=wrap_in (by omega)
 have hv0:IntKind.i64.wrap (i0:Int)=i0:=wrap_in (by omega)
 have hv1:IntKind.i64.wrap (i1:Int)=i1:=wrap_in (by omega)
 generalize p.defs[i0]=a at ha hga
 generalize p.defs[i1]=d at hb2 hgb
 refine awI_cutI (fun e s=>∃ C2 i j,keep [4,5,6,7,8,9,10] e=[J,J,J,J,.box (B.length+1) 0,.box (B.length+2) 0,.bool false,.bool true,.box (B.length+3) 0,.box i 0,.box j 0,J,J,J,J,J,J,J,J,J,J,J,J,J,J,J,J,J,J,J,J,J,J,J,J,J,J,J,J,J,J,J,J,J,J,J,J,J,J,J,J,J,J,J,J,J,J,J,J,J,J,J,J,J,J,J,J,J,J,J,J,J,J,J,J,J,J,J,J,J,J,J,J,J,J,J,J,J,J,J,J,J,J,J,J,J,J,J,J,J,J,J,J,J,J,J,J,J,J,J,J,J,J,J,J,J,J,J,J,J,J,J,J,J,J,J,J,J,J,J,J,J,J,J,J,J,J,J,J,J,J,J,J,J,J,J,J,J,J,J,J,J,J,J,J,J,J,J,J,J,J,J,J,J,J,J,J,J,J,J,J,J,J,J,J,J,J,J,J,J,J,J,J]∧s=⟨C2,L,c⟩∧Bx2 C C2 i j a.cells d.cells) ?_ ?_
 ·skip
  refine awI_drawM hmix [22,23,24,25] [⟨[0,1,2,3,4,5,6,7,8,9,10,11,12,13,14,15,16,17,18,19,20,21,22,23,24,25],[(1,1),(1,2),(3,1),(3,2),(6,1),(6,2),(7,1),(7,2),(10,1),(10,2),(12,1),(12,2),(12,3),(14,1),(14,2),(14,3),(17,1),(17,2),(17,3),(18,1),(18,2),(18,3),(21,1),(21,2),(21,3)]⟩,⟨[0,1,2,3,4,5,6,7,8,9,10,11,12,13,14,15,16,17,18,19,20,21,23,22,24,25],[(1,1),(1,2),(3,1),(3,2),(6,1),(6,2),(7,1),(7,2),(10,1),(10,2),(12,1),(12,2),(12,3),(14,1),(14,2),(14,3),(17,1),(17,2),(17,3),(18,1),(18,2),(18,3),(21,1),(21,2),(21,3)]⟩] (by kernel_rfl) fun pl hpl=>?_
  simp only [List.mem_cons,List.not_mem_nil,or_false] at hpl
  rcases hpl with rfl | rfl
  all_goals
   simp only [vqM,vt126,zA,zB,vsA,n4D,dfCells_len,c5,c8,g5,g8,hnz,hw0,hw1,hi0,hi1,hga,hgb,natle0,Int.toNat_natCast,List.getD_cons_zero,List.getD_cons_succ,List.contains_cons,List.contains_nil,Bool.or_false,Bool.or_true]
  all_goals
   first
    | exact meet_intro ⟨_,C.length,C.length+1,by simp only [vke,zB,zA],rfl,.mk0 rfl⟩
    | exact meet_intro ⟨_,C.length+1,C.length,by simp only [vke,zB,zA],rfl,.mk1 rfl⟩
 rintro e s ⟨C2,i9,i10,he,rfl,hB2⟩
 replace g4:=box_more g4 hB2.ex
 replace g5:=box_more g5 hB2.ex
 replace g8:=box_more g8 hB2.ex
 have g9:∀ X,(C2++X)[i9]? = some (.cells a.cells):=fun X=>box_lt hB2.a
 have g10:∀ X,(C2++X)[i10]? = some (.cells d.cells):=fun X=>box_lt hB2.b
 replace hCB:∃ X,C2=B++X:=by
  obtain ⟨X,rfl⟩:=hCB
  obtain ⟨Y,hY⟩:=hB2.ex
  exact ⟨X++Y,by rw [hY,List.append_assoc]⟩
 clear hB2 c4 c5 c8 C
 have c4:=box_nil g4
 have c5:=box_nil g5
 have c8:=box_nil g8
 have c9:=box_nil g9
 have c10:=box_nil g10
 simp only [vqM]
 refine awN_keep [4,5,6,7,8,9,10] ?_
 rw [he]
 have hm2:(0:Int)≤n2.tmod 20∧n2.tmod 20<20:=⟨Int.tmod_nonneg _ h2.1,Int.tmod_lt_of_pos _ (by omega)⟩
 have hw2:IntKind.i64.wrap (n2.tmod 20)=n2.tmod 20:=wrap_in (by omega)
 have hu2:IntKind.u8.wrap (n2.tmod 20)=n2.tmod 20:=by
  have e1:IntKind.u8.wrap (n2.tmod 20)=(n2.tmod 20) % 256:=by simp [IntKind.wrap,IntKind.signed,IntKind.bits]
  rw [e1];omega
 have hz20:((20:Int)=0)=False:=by simp
 refine awN_seq ?_
 refine awN_open fun _=>?_
 refine awI_cutI (fun e s=>∃ C3 i j,keep [4,6,7,8,9,10,11,12] e=[J,J,J,J,.box (B.length+1) 0,J,.bool false,.bool true,.box (B.length+3) 0,.box i9 0,.box i10 0,.box i 0,.box j 0,J,J,J,J,J,J,J,J,J,J,J,J,J,J,J,J,J,J,J,J,J,J,J,J,J,J,J,J,J,J,J,J,J,J,J,J,J,J,J,J,J,J,J,J,J,J,J,J,J,J,J,J,J,J,J,J,J,J,J,J,J,J,J,J,J,J,J,J,J,J,J,J,J,J,J,J,J,J,J,J,J,J,J,J,J,J,J,J,J,J,J,J,J,J,J,J,J,J,J,J,J,J,J,J,J,J,J,J,J,J,J,J,J,J,J,J,J,J,J,J,J,J,J,J,J,J,J,J,J,J,J,J,J,J,J,J,J,J,J,J,J,J,J,J,J,J,J,J,J,J,J,J,J,J,J,J,J,J,J,J,J,J,J,J,J,J,J,J,J,J]∧s=⟨C3,L,c⟩∧Bx2 C2 C3 i j (nmLit a.id s0) (ptLit d.id (n2.tmod 20))) ?_ ?_
 ·skip
  refine awI_drawM hmix [12,13,14,15] [⟨[0,1,2,3,4,5,6,7,8,9,10,11,12,13,14,15],[(1,1),(1,2),(3,1),(3,2),(6,1),(6,2),(6,3),(8,1),(8,2),(8,3)]⟩,⟨[0,1,2,3,4,5,6,7,8,9,10,11,13,12,14,15],[(1,1),(1,2),(3,1),(3,2),(6,1),(6,2),(6,3),(8,1),(8,2),(8,3)]⟩] (by kernel_rfl) fun pl hpl=>?_
  simp only [List.mem_cons,List.not_mem_nil,or_false] at hpl
  rcases hpl with rfl | rfl
  all_goals
   simp only [vqM,vt126,zA,zL,zB,vsA,n4D,c4,c5,g4,g5,c9,c10,g9,g10,hw2,hz20,zA,List.getD_cons_zero,List.getD_cons_succ,List.contains_cons,List.contains_nil,Bool.or_false,Bool.or_true]
  all_goals
   first
    | exact meet_intro ⟨_,C2.length,C2.length+1,by simp only [vke,zB,zA],rfl,.mk0 rfl⟩
    | exact meet_intro ⟨_,C2.length+1,C2.length,by simp only [vke,zB,zA],rfl,.mk1 rfl⟩
 clear he
 rintro e s ⟨C3,i11,i12,he,rfl,hB3⟩
 replace g4:=box_more g4 hB3.ex
 replace g8:=box_more g8 hB3.ex
 replace g9:=box_more g9 hB3.ex
 replace g10:=box_more g10 hB3.ex
 have g11:∀ X,(C3++X)[i11]? = some (.cells (nmLit a.id s0)):=fun X=>box_lt hB3.a
 have g12:∀ X,(C3++X)[i12]? = some (.cells (ptLit d.id (n2.tmod 20))):=fun X=>box_lt hB3.b
 replace hCB:∃ X,C3=B++X:=by
  obtain ⟨X,rfl⟩:=hCB
  obtain ⟨Y,hY⟩:=hB3.ex
  exact ⟨X++Y,by rw [hY,List.append_assoc]⟩
 clear hB3 c4 c5 c8 c9 c10 g5 C2
 have c4:=box_nil g4
 have c8:=box_nil g8
 have c9:=box_nil g9
 have c10:=box_nil g10
 simp only [vqM]
 refine awN_keep [4,6,7,8,9,10,11,12] ?_
 rw [he]
 refine awN_seq ?_
 refine awN_cw hmix ?_
 simp only [vqM,vt126,zA,zL,vsA,c4,c9]
 refine awN_keep [4,6,7,8,9,10,11,12,13] ?_
 simp only [vke,zB,zA]
 obtain ⟨C4,hC4⟩:∃ C4,C4=C3++[Box.cells (nmLit a.id s1)]:=⟨_,rfl⟩
 have hx4:∃ X,C4=C3++X:=⟨_,hC4⟩
 rw [show C3++[Box.cells [D.int IntKind.i64 2,D.int IntKind.i64 a.id,D.int IntKind.i64 0,D.str s1,D.slice Own.nil [],D.slice Own.nil [],D.slice Own.nil []]]=C4 from hC4.symm]
 obtain ⟨i13,hi13⟩:∃ i13,i13=C3.length:=⟨_,rfl⟩
 have g13:∀ X,(C4++X)[i13]? = some (.cells (nmLit a.id s1)):=fun X=>by rw [hC4,hi13,List.append_assoc];exact box_at0
 rw [← hi13]
 replace g4:=box_more g4 hx4
 replace g8:=box_more g8 hx4
 replace g9:=box_more g9 hx4
 replace g10:=box_more g10 hx4
 replace g11:=box_more g11 hx4
 replace g12:=box_more g12 hx4
 replace hCB:∃ X,C4=B++X:=by
  obtain ⟨X,rfl⟩:=hCB
  exact ⟨X++[Box.cells (nmLit a.id s1)],by rw [hC4,List.append_assoc]⟩
 clear hC4 hx4 hi13 c4 c8 c9 c10 he C3
 have c4:=box_nil g4
 have c8:=box_nil g8
 have c9:=box_nil g9
 have c10:=box_nil g10
 have c11:=box_nil g11
 have c12:=box_nil g12
 have c13:=box_nil g13
 have hE:=edN_name 9 a.id (nm:=s0) (by omega)
 have hF:=edN_part 9 d.id (n2.tmod 20)
 have hG:=edN_name 9 a.id (nm:=s1) (by omega)
 have aE:=ApH.of hpN hE (by omega) (show 4+(if (2:Int)=1 then 0 else 0)≤12 by decide)
 have aF:=ApH.of hpN hF (by omega) (show 4+(if (3:Int)=1 then 0 else 0)≤12 by decide)
 have aG:=ApH.of hpN hG (by omega) (show 4+(if (2:Int)=1 then 0 else 0)≤12 by decide)
 refine awN_seq ?_
 refine awN_open fun _=>?_
 refine awI_cutI (fun e s=>∃ C5 i j k,keep [4,6,7,8,9,10,11,12,13,14,15,16] e=[J,J,J,J,.box (B.length+1) 0,J,.bool false,.bool true,.box (B.length+3) 0,.box i9 0,.box i10 0,.box i11 0,.box i12 0,.box i13 0,.box i 0,.box j 0,.box k 0,J,J,J,J,J,J,J,J,J,J,J,J,J,J,J,J,J,J,J,J,J,J,J,J,J,J,J,J,J,J,J,J,J,J,J,J,J,J,J,J,J,J,J,J,J,J,J,J,J,J,J,J,J,J,J,J,J,J,J,J,J,J,J,J,J,J,J,J,J,J,J,J,J,J,J,J,J,J,J,J,J,J,J,J,J,J,J,J,J,J,J,J,J,J,J,J,J,J,J,J,J,J,J,J,J,J,J,J,J,J,J,J,J,J,J,J,J,J,J,J,J,J,J,J,J,J,J,J,J,J,J,J,J,J,J,J,J,J,J,J,J,J,J,J,J,J,J,J,J,J,J,J,J,J,J,J,J,J,J,J,J,J,J,J,J,J]∧s=⟨C5,L,c⟩∧Bx3 C4 [] C5 i j k (apC (applyS p (nameE a.id s0))).cells (apC (applyS p (partE d.id (n2.tmod 20)))).cells (apC (applyS p (nameE a.id s1))).cells) ?_ ?_
 ·skip
  refine awI_drawM hmix [9,10,11,12,13,14] [⟨[0,1,2,3,4,5,6,7,8,9,10,11,12,13,14],[(0,1),(0,2),(0,3),(1,1),(1,2),(1,3),(2,1),(2,2),(2,3),(3,1),(3,2),(3,3),(4,1),(4,2),(4,3),(5,1),(5,2),(5,3),(6,1),(6,2),(6,3),(7,1),(7,2),(7,3),(8,1),(8,2),(8,3)]⟩,⟨[0,1,2,3,4,5,6,7,8,9,11,10,12,13,14],[(0,1),(0,2),(0,3),(1,1),(1,2),(1,3),(2,1),(2,2),(2,3),(3,1),(3,2),(3,3),(4,1),(4,2),(4,3),(5,1),(5,2),(5,3),(6,1),(6,2),(6,3),(7,1),(7,2),(7,3),(8,1),(8,2),(8,3)]⟩,⟨[0,1,2,3,4,5,6,7,8,10,9,11,12,13,14],[(0,1),(0,2),(0,3),(1,1),(1,2),(1,3),(2,1),(2,2),(2,3),(3,1),(3,2),(3,3),(4,1),(4,2),(4,3),(5,1),(5,2),(5,3),(6,1),(6,2),(6,3),(7,1),(7,2),(7,3),(8,1),(8,2),(8,3)]⟩,⟨[0,1,2,3,4,5,6,7,8,10,11,9,12,13,14],[(0,1),(0,2),(0,3),(1,1),(1,2),(1,3),(2,1),(2,2),(2,3),(3,1),(3,2),(3,3),(4,1),(4,2),(4,3),(5,1),(5,2),(5,3),(6,1),(6,2),(6,3),(7,1),(7,2),(7,3),(8,1),(8,2),(8,3)]⟩,⟨[0,1,2,3,4,5,6,7,8,11,9,10,12,13,14],[(0,1),(0,2),(0,3),(1,1),(1,2),(1,3),(2,1),(2,2),(2,3),(3,1),(3,2),(3,3),(4,1),(4,2),(4,3),(5,1),(5,2),(5,3),(6,1),(6,2),(6,3),(7,1),(7,2),(7,3),(8,1),(8,2),(8,3)]⟩,⟨[0,1,2,3,4,5,6,7,8,11,10,9,12,13,14],[(0,1),(0,2),(0,3),(1,1),(1,2),(1,3),(2,1),(2,2),(2,3),(3,1),(3,2),(3,3),(4,1),(4,2),(4,3),(5,1),(5,2),(5,3),(6,1),(6,2),(6,3),(7,1),(7,2),(7,3),(8,1),(8,2),(8,3)]⟩] (by kernel_rfl) fun pl hpl=>?_
  simp only [List.mem_cons,List.not_mem_nil,or_false] at hpl
  rcases hpl with rfl | rfl | rfl | rfl | rfl | rfl
  all_goals
   simp only [vqM,vt126,zA,zB,nmLit,c8,c11,List.getD_cons_zero,List.getD_cons_succ,List.contains_cons,List.contains_nil,Bool.or_false,Bool.or_true]
  all_goals
   repeat' (first
    | (with_reducible refine needI_intro ?_ ?_)
    | (with_reducible refine And.intro ?_ ?_)
    | ((with_reducible refine is_call ?_);refine callI_spec (t_applied p (nameE a.id s0) aE _) ?_;simp only [vqM,vt126,zA,ptLit,c8,c12,List.getD_cons_zero,List.getD_cons_succ])
    | ((with_reducible refine is_call ?_);refine callI_spec (t_applied p (partE d.id (n2.tmod 20)) aF _) ?_;simp only [vqM,vt126,zA,nmLit,c8,List.getD_cons_zero,List.getD_cons_succ,c13])
    | ((with_reducible refine is_call ?_);refine callI_spec (t_applied p (nameE a.id s1) aG _) ?_;simp only [vqM,vt126,zA,vsCd,nmLit,ptLit,g8,g11,g12,List.getD_cons_zero,List.getD_cons_succ,g13])
    | (with_reducible refine is_pp ?_;simp only [vqM]))
  all_goals
   first
    | exact meet_intro ⟨_,C4.length,C4.length+1,C4.length+2,by simp only [vke,zB,zA],rfl,.mk' (pre:=[]) (i:=0) (j:=1) (k:=2) [Box.cells (apC (applyS p (nameE a.id s0))).cells,Box.cells (apC (applyS p (partE d.id (n2.tmod 20)))).cells,Box.cells (apC (applyS p (nameE a.id s1))).cells] rfl rfl rfl rfl⟩
    | exact meet_intro ⟨_,C4.length,C4.length+2,C4.length+1,by simp only [vke,zB,zA],rfl,.mk' (pre:=[]) (i:=0) (j:=2) (k:=1) [Box.cells (apC (applyS p (nameE a.id s0))).cells,Box.cells (apC (applyS p (nameE a.id s1))).cells,Box.cells (apC (applyS p (partE d.id (n2.tmod 20)))).cells] rfl rfl rfl rfl⟩
    | exact meet_intro ⟨_,C4.length+1,C4.length,C4.length+2,by simp only [vke,zB,zA],rfl,.mk' (pre:=[]) (i:=1) (j:=0) (k:=2) [Box.cells (apC (applyS p (partE d.id (n2.tmod 20)))).cells,Box.cells (apC (applyS p (nameE a.id s0))).cells,Box.cells (apC (applyS p (nameE a.id s1))).cells] rfl rfl rfl rfl⟩
    | exact meet_intro ⟨_,C4.length+1,C4.length+2,C4.length,by simp only [vke,zB,zA],rfl,.mk' (pre:=[]) (i:=1) (j:=2) (k:=0) [Box.cells (apC (applyS p (nameE a.id s1))).cells,Box.cells (apC (applyS p (nameE a.id s0))).cells,Box.cells (apC (applyS p (partE d.id (n2.tmod 20)))).cells] rfl rfl rfl rfl⟩
    | exact meet_intro ⟨_,C4.length+2,C4.length,C4.length+1,by simp only [vke,zB,zA],rfl,.mk' (pre:=[]) (i:=2) (j:=0) (k:=1) [Box.cells (apC (applyS p (partE d.id (n2.tmod 20)))).cells,Box.cells (apC (applyS p (nameE a.id s1))).cells,Box.cells (apC (applyS p (nameE a.id s0))).cells] rfl rfl rfl rfl⟩
    | exact meet_intro ⟨_,C4.length+2,C4.length+1,C4.length,by simp only [vke,zB,zA],rfl,.mk' (pre:=[]) (i:=2) (j:=1) (k:=0) [Box.cells (apC (applyS p (nameE a.id s1))).cells,Box.cells (apC (applyS p (partE d.id (n2.tmod 20)))).cells,Box.cells (apC (applyS p (nameE a.id s0))).cells] rfl rfl rfl rfl⟩
 rintro e s ⟨C5,i14,i15,i16,he,rfl,hB5⟩
 replace g4:=box_more g4 hB5.ex
 replace g8:=box_more g8 hB5.ex
 replace g9:=box_more g9 hB5.ex
 replace g10:=box_more g10 hB5.ex
 replace g11:=box_more g11 hB5.ex
 replace g12:=box_more g12 hB5.ex
 replace g13:=box_more g13 hB5.ex
 have g14:=hB5.ga
 have g15:=hB5.gb
 have g16:=hB5.gc
 replace hCB:∃ X,C5=B++X:=by
  obtain ⟨X,rfl⟩:=hCB
  obtain ⟨Y,hY⟩:=hB5.ex
  exact ⟨X++([]++Y),by rw [hY,List.append_assoc]⟩
 clear hB5 c4 c8 c9 c10 c11 c12 c13 C4
 have c4:=box_nil g4
 have c8:=box_nil g8
 have c9:=box_nil g9
 have c10:=box_nil g10
 have c11:=box_nil g11
 have c12:=box_nil g12
 have c13:=box_nil g13
 have c14:=box_nil g14
 have c15:=box_nil g15
 have c16:=box_nil g16
 simp only [vqM]
 refine awN_keep [4,6,7,8,9,10,11,12,13,14,15,16] ?_
 rw [he]
 clear he
 have R:=Gd.of hpN.pr
 have hqa:=apply_name R hpO ha s0
 have hra:=apply_part R hpO hb2 (n2.tmod 20)
 have hda:(wDf a).length≤1000000:=by
  have:=def_w (R.defOk ha) (hpN.df a ha).sm
  have:=(hpN.df a ha).ct
  have:=(hpN.df a ha).ca
  omega
 have hdd:(wDf d).length≤1000000:=by
  have:=def_w (R.defOk hb2) (hpN.df d hb2).sm
  have:=(hpN.df d hb2).ct
  have:=(hpN.df d hb2).ca
  omega
 refine awN_joinI (fun e s=>keep [6,7,8,9,10,11,12,14,15] e=[J,J,J,J,J,J,.bool false,.bool true,.box (B.length+3) 0,.box i9 0,.box i10 0,.box i11 0,.box i12 0,J,.box i14 0,.box i15 0,J,J,J,J,J,J,J,J,J,J,J,J,J,J,J,J,J,J,J,J,J,J,J,J,J,J,J,J,J,J,J,J,J,J,J,J,J,J,J,J,J,J,J,J,J,J,J,J,J,J,J,J,J,J,J,J,J,J,J,J,J,J,J,J,J,J,J,J,J,J,J,J,J,J,J,J,J,J,J,J,J,J,J,J,J,J,J,J,J,J,J,J,J,J,J,J,J,J,J,J,J,J,J,J,J,J,J,J,J,J,J,J,J,J,J,J,J,J,J,J,J,J,J,J,J,J,J,J,J,J,J,J,J,J,J,J,J,J,J,J,J,J,J,J,J,J,J,J,J,J,J,J,J,J,J,J,J,J,J,J,J,J,J,J,J,J,J]∧∃ X,s=⟨C5++X,L,c⟩) ?_ ?_
 ·refine awN_cw hmix ?_
  by_cases hq:programS (upd p { a with name:=s0 })=0
  case neg =>
   rw [if_neg hq] at hqa
   rw [hqa] at g14 c14
   simp only [vqM,vt126,zA,zB,vsCd,vsCd3,c14]
   exact joinI_intro ⟨by simp only [vke,zB,zA],[],by rw [List.append_nil]⟩
  rw [if_pos hq] at hqa
  have hqN:PgN 9 4 (upd p { a with name:=s0 }):=hpN.apply hE hqa
  have hqf:findS (upd p { a with name:=s0 }) a.id=some { a with name:=s0 }:=(upd_found R (d:={ a with name:=s0 }) hq).1
  have h2:=names_two R hpO ha hq s1
  have hql:(upd p { a with name:=s0 }).defs.length<1000000:=by
   have:=(Gd.of hq).dl;omega
  have aQ:=ApH.of hqN hG (by omega) (show 4+(if (2:Int)=1 then 0 else 0)≤12 by decide)
  have wS:(wPg (apC (applyS p (nameE a.id s1))).p).length≤1000000:=apC_w hpN hG (by omega) (show 4+(if (2:Int)=1 then 0 else 0)≤12 by decide)
  rw [hqa] at g14 c14
  have hne2:evStr .neq s0 s0=some (.bool false):=by simp [evStr]
  simp only [vqM,vt126,zA,zB,vsCd,vsCd3,c9,c14,decide_true]
  generalize hqq:upd p { a with name:=s0 }=q at hqN hqf h2 hql aQ g14 c14
  refine callI_spec (t_FindIn q a.id hql _) ?_
  simp only [vqM,vt126,zA,zL,zB,vsA,foundD,df_set2,g4,g9,Df.eta',dfF2,Option.getD_some,Option.isSome_some,hqf,hne2]
  refine callI_spec (t_SameDef07 a a hda hda _) ?_
  simp only [vqM,vt126,zA,vsCd,vsCd3,nmLit,g13,g14,decide_true]
  refine callI_spec (t_applied q (nameE a.id s1) aQ _) ?_
  rw [h2]
  simp only [vqM,vt126,vsCd,g16]
  refine callI_spec (t_SameChanged22 _ _ wS wS _) ?_
  rw [decide_eq_true rfl,decide_eq_true rfl,Bool.and_self]
  simp only [vqM,vt126,vsCd,g16]
  exact joinI_intro ⟨by simp only [vke,zB,zA],_,rfl⟩
 clear c8 c9 c10 c11 c12 c13 c14 c15 c16 g4 c4 g13 g16
 rintro e s ⟨he,X6,rfl⟩
 replace g8:=box_more (C:=C5++X6) g8 ⟨X6,rfl⟩
 replace g9:=box_more (C:=C5++X6) g9 ⟨X6,rfl⟩
 replace g10:=box_more (C:=C5++X6) g10 ⟨X6,rfl⟩
 replace g11:=box_more (C:=C5++X6) g11 ⟨X6,rfl⟩
 replace g12:=box_more (C:=C5++X6) g12 ⟨X6,rfl⟩
 replace g14:=box_more (C:=C5++X6) g14 ⟨X6,rfl⟩
 replace g15:=box_more (C:=C5++X6) g15 ⟨X6,rfl⟩
 replace hCB:∃ X,C5++X6=B++X:=by
  obtain ⟨X,hX⟩:=hCB
  exact ⟨X++X6,by rw [hX,List.append_assoc]⟩
 generalize C5++X6=D6 at g8 g9 g10 g11 g12 g14 g15 hCB
 have c8:=box_nil g8
 have c9:=box_nil g9
 have c10:=box_nil g10
 have c11:=box_nil g11
 have c12:=box_nil g12
 have c14:=box_nil g14
 have c15:=box_nil g15
 refine awN_keep [6,7,8,9,10,11,12,14,15] ?_
 rw [he]
 clear he
 refine awN_joinI (fun e s=>keep [6,7,11,12,14,15] e=[J,J,J,J,J,J,.bool false,.bool true,J,J,J,.box i11 0,.box i12 0,J,.box i14 0,.box i15 0,J,J,J,J,J,J,J,J,J,J,J,J,J,J,J,J,J,J,J,J,J,J,J,J,J,J,J,J,J,J,J,J,J,J,J,J,J,J,J,J,J,J,J,J,J,J,J,J,J,J,J,J,J,J,J,J,J,J,J,J,J,J,J,J,J,J,J,J,J,J,J,J,J,J,J,J,J,J,J,J,J,J,J,J,J,J,J,J,J,J,J,J,J,J,J,J,J,J,J,J,J,J,J,J,J,J,J,J,J,J,J,J,J,J,J,J,J,J,J,J,J,J,J,J,J,J,J,J,J,J,J,J,J,J,J,J,J,J,J,J,J,J,J,J,J,J,J,J,J,J,J,J,J,J,J,J,J,J,J,J,J,J,J,J,J,J,J]∧∃ X,s=⟨D6++X,L,c⟩) ?_ ?_
 ·refine awN_seq ?_
  refine awN_cw hmix ?_
  by_cases hr:programS (upd p { d with part:=n2.tmod 20 })=0
  case neg =>
   rw [if_neg hr] at hra
   rw [hra] at g15 c15
   simp only [vqM,vt126,zA,vsCd,vsCd3,c15]
   refine awN_cond rfl (fun h=>by simp at h) (fun _=>?_)
   refine awN_cw hmix ?_
   simp only [vqM]
   exact joinI_intro ⟨by simp only [vke,zB,zA],[],by rw [List.append_nil]⟩
  rw [if_pos hr] at hra
  have hrf:=(upd_found R (d:={ d with part:=n2.tmod 20 }) hr).1
  have hrh:=(upd_found R (d:={ d with part:=n2.tmod 20 }) hr).2
  have hrl:(upd p { d with part:=n2.tmod 20 }).defs.length<1000000:=by
   have:=(Gd.of hr).dl;omega
  rw [hra] at g15 c15
  simp only [vqM,vt126,zA,vsCd,vsCd3,c15,decide_true]
  refine awN_cond rfl (fun _=>?_) (fun h=>by simp at h)
  refine awN_seq ?_
  refine awN_open fun _=>?_
  refine awI_cutI (fun e s=>∃ C6 i j,keep [6,7,10,11,12,14,15,19,20] e=[J,J,J,J,J,J,.bool false,.bool true,J,J,.box i10 0,.box i11 0,.box i12 0,J,.box i14 0,.box i15 0,J,J,J,.box i 0,.box j 0,J,J,J,J,J,J,J,J,J,J,J,J,J,J,J,J,J,J,J,J,J,J,J,J,J,J,J,J,J,J,J,J,J,J,J,J,J,J,J,J,J,J,J,J,J,J,J,J,J,J,J,J,J,J,J,J,J,J,J,J,J,J,J,J,J,J,J,J,J,J,J,J,J,J,J,J,J,J,J,J,J,J,J,J,J,J,J,J,J,J,J,J,J,J,J,J,J,J,J,J,J,J,J,J,J,J,J,J,J,J,J,J,J,J,J,J,J,J,J,J,J,J,J,J,J,J,J,J,J,J,J,J,J,J,J,J,J,J,J,J,J,J,J,J,J,J,J,J,J,J,J,J,J,J,J,J,J,J,J,J,J,J]∧s=⟨C6,L,c⟩∧Bx2 D6 C6 i j (({ d with part:=n2.tmod 20 }:Df).cells++[.bool true]) ((headOf { d with part:=n2.tmod 20 }).cells++[.bool true])) ?_ ?_
  ·skip
   refine awI_drawM hmix [10,11,12,13] [⟨[0,1,2,3,4,5,6,7,8,9,10,11,12,13],[(1,1),(1,2),(3,1),(3,2),(4,1),(4,2),(6,1),(6,2),(8,1),(8,2),(9,1),(9,2)]⟩,⟨[0,1,2,3,4,5,6,7,8,9,11,10,12,13],[(1,1),(1,2),(3,1),(3,2),(4,1),(4,2),(6,1),(6,2),(8,1),(8,2),(9,1),(9,2)]⟩] (by kernel_rfl) fun pl hpl=>?_
   simp only [List.mem_cons,List.not_mem_nil,or_false] at hpl
   rcases hpl with rfl | rfl
   all_goals
    simp only [vqM,vt126,zA,zB,vsCd,vsCd3,c10,c15,List.getD_cons_zero,List.getD_cons_succ,List.contains_cons,List.contains_nil,Bool.or_false,Bool.or_true]
   all_goals
    repeat' (first
     | (with_reducible refine needI_intro ?_ ?_)
     | (with_reducible refine And.intro ?_ ?_)
     | ((with_reducible refine is_call ?_);refine callI_spec (t_FindIn _ d.id hrl _) ?_;simp only [vqM,vt126,zA,vsCd,vsCd3,foundD,hrf,c10,c15,Option.getD_some,Option.isSome_some,List.getD_cons_zero,List.getD_cons_succ])
     | ((with_reducible refine is_call ?_);refine callI_spec (t_HeadIn _ d.id _) ?_;simp only [vqM,vt126,zA,vsCd,vsCd3,headedD,hrh,g10,g15,Option.getD_some,Option.isSome_some,List.getD_cons_zero,List.getD_cons_succ])
     | (with_reducible refine is_pp ?_;simp only [vqM]))
   all_goals
    first
     | exact meet_intro ⟨_,D6.length,D6.length+1,by simp only [vke,zB,zA],rfl,.mk0 rfl⟩
     | exact meet_intro ⟨_,D6.length+1,D6.length,by simp only [vke,zB,zA],rfl,.mk1 rfl⟩
  rintro e s ⟨C6,i19,i20,he,rfl,hB6⟩
  have hx6:∃ X,C6=D6++X:=hB6.ex
  have e10:=box_more g10 hx6
  have e12:=box_more g12 hx6
  have e19:∀ X,(C6++X)[i19]? = some (.cells (({ d with part:=n2.tmod 20 }:Df).cells++[.bool true])):=fun X=>box_lt hB6.a
  have e20:∀ X,(C6++X)[i20]? = some (.cells ((headOf { d with part:=n2.tmod 20 }).cells++[.bool true])):=fun X=>box_lt hB6.b
  have k10:=box_nil e10
  have k12:=box_nil e12
  have k19:=box_nil e19
  have k20:=box_nil e20
  simp only [vqM]
  refine awN_keep [6,7,10,11,12,14,15,19,20] ?_
  rw [he]
  clear he
  refine awN_cw hmix ?_
  simp only [vqM,vt126,zA,zL,zB,ptLit,Df.eta',dfF4,df_set4,e10,e12,e19,k19]
  have dnn:decide (n2.tmod 20≠n2.tmod 20)=false:=by simp
  have hpa:(headOf { d with part:=n2.tmod 20 }).part=n2.tmod 20:=rfl
  simp only [vqM,vt126,zA,ptLit,hdF2,e10,e12,e20,dnn,hpa]
  refine callI_spec (t_SameDef07 d d hdd hdd _) ?_
  simp only [vqM,decide_true]
  obtain ⟨Y6,hY6⟩:=hB6.ex
  exact joinI_intro ⟨by simp only [vke,zB,zA],Y6++_,by rw [hY6,List.append_assoc]⟩
 rintro e s ⟨he,X7,rfl⟩
 have f11:=box_more (C:=D6++X7) g11 ⟨X7,rfl⟩
 have f12:=box_more (C:=D6++X7) g12 ⟨X7,rfl⟩
 have f14:=box_more (C:=D6++X7) g14 ⟨X7,rfl⟩
 have f15:=box_more (C:=D6++X7) g15 ⟨X7,rfl⟩
 replace hCB:∃ X,D6++X7=B++X:=by
  obtain ⟨X,hX⟩:=hCB
  exact ⟨X++X7,by rw [hX,List.append_assoc]⟩
 clear g8 g9 g10 g11 g12 g14 g15 c8 c9 c10 c11 c12 c14 c15
 generalize D6++X7=D7 at f11 f12 f14 f15 hCB
 refine awN_keep [6,7,11,12,14,15] ?_
 rw [he]
 clear he
 refine awN_cw hmix ?_
 have dz0:decide ((0:Int)≠0)=false:=rfl
 have dz1:decide ((220:Int)≠0)=true:=rfl
 have dz2:decide ((220:Int)=0)=false:=rfl
 by_cases hq:programS (upd p { a with name:=s0 })=0
 case neg =>
  rw [if_neg hq] at hqa
  rw [hqa] at f14
  have l14:=box_nil f14
  have l11:=box_nil f11
  have l12:=box_nil f12
  have l15:=box_nil f15
  simp only [vqM,vt126,zA,zB,vsCd,vsCd3,l14,dz1]
  obtain ⟨X9,rfl⟩:=hCB
  refine ret_loc (.inr rfl) ?_ (.bool _) (fun _ h=>h) (Nat.le_refl _)
  simp only [vqM]
 by_cases hr:programS (upd p { d with part:=n2.tmod 20 })=0
 case neg =>
  rw [if_pos hq] at hqa
  rw [if_neg hr] at hra
  rw [hqa] at f14
  rw [hra] at f15
  have l14:=box_nil f14
  have l11:=box_nil f11
  have l12:=box_nil f12
  have l15:=box_nil f15
  simp only [vqM,vt126,zA,zB,vsCd,vsCd3,l14,l15,dz0,dz1]
  obtain ⟨X9,rfl⟩:=hCB
  refine ret_loc (.inr rfl) ?_ (.bool _) (fun _ h=>h) (Nat.le_refl _)
  simp only [vqM]
 rw [if_pos hq] at hqa
 rw [if_pos hr] at hra
 rw [hqa] at f14
 rw [hra] at f15
 have l14:=box_nil f14
 have l11:=box_nil f11
 have l12:=box_nil f12
 have l15:=box_nil f15
 have hqN:PgN 9 4 (upd p { a with name:=s0 }):=hpN.apply hE hqa
 have hrN:PgN 9 4 (upd p { d with part:=n2.tmod 20 }):=hpN.apply hF hra
 have aQ:=ApH.of hqN hF (by omega) (show 4+(if (3:Int)=1 then 0 else 0)≤12 by decide)
 have aR:=ApH.of hrN hE (by omega) (show 4+(if (2:Int)=1 then 0 else 0)≤12 by decide)
 have hcm:=names_comm R hpO ha hb2 hq hr
 have wS:(wPg (apC (applyS (upd p { d with part:=n2.tmod 20 }) (nameE a.id s0))).p).length≤1000000:=apC_w hrN hE (by omega) (show 4+(if (2:Int)=1 then 0 else 0)≤12 by decide)
 simp only [vqM,vt126,zA,zB,vsCd,vsCd3,ptLit,l12,l14,l15,dz0]
 refine callI_spec (t_applied _ (partE d.id (n2.tmod 20)) aQ _) ?_
 rw [hcm]
 simp only [vqM,vt126,zA,vsCd,vsCd3,nmLit,l11,l15]
 refine callI_spec (t_applied _ (nameE a.id s0) aR _) ?_
 simp only [vqM,vsCd]
 refine callI_spec (t_SameChanged22 _ _ wS wS _) ?_
 rw [decide_eq_true rfl,decide_eq_true rfl,Bool.and_self]
 simp only [vqM,vt126,zA,vsCd,vsCd3,nmLit,l11,l15]
 obtain ⟨X9,rfl⟩:=hCB
 refine ret_loc (.inr rfl) ?_ (.bool _) (fun _ h=>h) (Nat.le_refl _)
 simp only [vqM]
end Go.V
namespace Go.Proofs.YtlobjjbchnjfiaaGreat
open Go.V Go.ChangeShapes Go.WideShapes
set_option maxRecDepth 20000
set_option maxHeartbeats 4000000
theorem own:ownKnob Tryz.prog.godebug=none:=by kernel_rfl
theorem kids:Kids Tryz.prog (· < Tryz.prog.types.size):=kids_rows (by kernel_rfl) (by kernel_rfl)
theorem full:∀ t e,t<Tryz.prog.types.size→Tryz.prog.underlying t=some (.slice e)→0<Tryz.prog.cellsOf e:=slices_full_of Tryz.prog (by kernel_rfl)
structure RawT (P:Program) (t e:TypeId) (f0:Field):Prop where
 st:P.underlying t=some (.struct #[f0])
 sl:P.underlying f0.type=some (.slice e)
 el:P.underlying e=some (.int .u8)
 c1:P.cellsOf e=1
 c2:P.cellsOf t=1
 c3:P.cellsOf f0.type=1
 o0:f0.offset=0
 by1:P.bytesOf e=1
def fieldOf (P:Program) (t:TypeId):Field:=match P.underlying t with
 | some (.struct fs)=>fs.toList.headD default
 | _=>default
def elemOf (P:Program) (t:TypeId):TypeId:=match P.underlying t with
 | some (.slice e)=>e
 | _=>0
theorem rawT:RawT Tryz.prog 24 (elemOf Tryz.prog (fieldOf Tryz.prog 24).type) (fieldOf Tryz.prog 24) :=
 ⟨by kernel_rfl,by kernel_rfl,by kernel_rfl,by kernel_rfl,by kernel_rfl,by kernel_rfl,by kernel_rfl,by kernel_rfl⟩
end Go.Proofs.YtlobjjbchnjfiaaGreat
namespace Go.V
structure W4 where
 a:Int
 b:Int
 c:Int
 d:Int
def W4.cells (x:W4):List D:=[.int .u8 x.a,.int .u8 x.b,.int .u8 x.c,.int .u8 x.d]
structure W4.Ok (x:W4):Prop where
 a:0≤x.a∧x.a<256
 b:0≤x.b∧x.b<256
 c:0≤x.c∧x.c<256
 d:0≤x.d∧x.d<256
open Go.ChangeShapes Go.WideShapes
theorem u8_in22 {n:Int} (hw:(Lit.int .u8 n).wf=true):0≤n∧n<256:=by
 have h1:IntKind.u8.min=0:=rfl
 have h2:IntKind.u8.max=255:=rfl
 simp only [Lit.wf,Bool.and_eq_true,decide_eq_true_eq] at hw
 omega
structure Arr4T (P:Program) (t e:TypeId):Prop where
 ar:P.underlying t=some (.array 4 e)
 el:P.underlying e=some (.int .u8)
 c1:P.cellsOf e=1
theorem In.arr4 {P:Program} {t e:TypeId} (T:Arr4T P t e) {ds:List D} (h:In P t ds):∃ x:W4,x.Ok∧ds=x.cells:=by
 obtain ⟨hl,hf⟩:=h.array_inv T.ar
 rw [T.c1] at hl hf
 obtain ⟨d0,d1,d2,d3,rfl⟩:∃ d0 d1 d2 d3,ds=[d0,d1,d2,d3]:=by
  match ds,hl with
  | [a,b,c,d],_=>exact ⟨a,b,c,d,rfl⟩
 obtain ⟨n0,e0,w0⟩:=(hf 0 (by omega)).int_inv T.el
 obtain ⟨n1,e1,w1⟩:=(hf 1 (by omega)).int_inv T.el
 obtain ⟨n2,e2,w2⟩:=(hf 2 (by omega)).int_inv T.el
 obtain ⟨n3,e3,w3⟩:=(hf 3 (by omega)).int_inv T.el
 simp at e0 e1 e2 e3
 subst e0 e1 e2 e3
 exact ⟨⟨n0,n1,n2,n3⟩,⟨u8_in22 w0,u8_in22 w1,u8_in22 w2,u8_in22 w3⟩,rfl⟩
structure Str2T (P:Program) (t e:TypeId):Prop where
 ar:P.underlying t=some (.array 2 e)
 el:P.underlying e=some .string
 c1:P.cellsOf e=1
theorem In.str2 {P:Program} {t e:TypeId} (T:Str2T P t e) {ds:List D} (h:In P t ds):∃ s0 s1:ByteArray,s0.size≤1000000000000000∧s1.size≤1000000000000000∧ds=[.str s0,.str s1]:=by
 obtain ⟨hl,hf⟩:=h.array_inv T.ar
 rw [T.c1] at hl hf
 obtain ⟨d0,d1,rfl⟩:∃ d0 d1,ds=[d0,d1]:=by
  match ds,hl with
  | [a,b],_=>exact ⟨a,b,rfl⟩
 obtain ⟨s0,e0,w0⟩:=(hf 0 (by omega)).str_inv T.el
 obtain ⟨s1,e1,w1⟩:=(hf 1 (by omega)).str_inv T.el
 simp at e0 e1
 subst e0 e1
 have hr:reachBytes≤1000000000000000:=by decide
 exact ⟨s0,s1,by omega,by omega,rfl⟩
structure Raw22T (P:Program) (t:TypeId) (f0 f1 g:Field) (e a:TypeId):Prop where
 st:P.underlying t=some (.struct #[f0,f1])
 ct:P.cellsOf t=2
 off:[f0.offset,f1.offset]=[0,1]
 cel:[P.cellsOf f0.type,P.cellsOf f1.type]=[1,1]
 rs:P.underlying f0.type=some (.struct #[g])
 rg:g.offset=0∧P.cellsOf g.type=1
 rb:P.underlying g.type=some (.slice e)
 re:P.underlying e=some (.int .u8)
 sl:P.underlying f1.type=some (.slice a)
 a4:Arr4T P a e
end Go.V
namespace Go.Proofs.YtlobjjbchnjfiaaGreat
open Go.V Go.ChangeShapes Go.WideShapes
theorem arr4T:Arr4T Tryz.prog 28 5:=⟨by kernel_rfl,by kernel_rfl,by kernel_rfl⟩
theorem arr4Ok:okIn Tryz.prog 6 28=true:=by kernel_rfl
theorem str2T:Str2T Tryz.prog 75 9:=⟨by kernel_rfl,by kernel_rfl,by kernel_rfl⟩
theorem str2Ok:okIn Tryz.prog 6 75=true:=by kernel_rfl
end Go.Proofs.YtlobjjbchnjfiaaGreat
namespace Go.Proofs.YtlobjjbchnjfiaaGreat
open Go.V Go.ChangeShapes Go.WideShapes
set_option maxRecDepth 20000
set_option maxHeartbeats 4000000
theorem jjand {a b:Bool} (h:a=true) (k:b=true):(a && b)=true:=by rw [h,k];rfl
theorem jjP1:laidOutB Tryz.checked.prog=true:=by kernel_rfl
theorem jjP2:mapsRowed Tryz.checked.prog=true:=by kernel_rfl
theorem jjP6:(Tryz.checked.prog.stops == [])=true:=by kernel_rfl
theorem jjP8:(Tryz.checked.prog.stopKnobs == [])=true:=by kernel_rfl
theorem jjP24:Tryz.checked.prog.stopsHeard=true:=by kernel_rfl
theorem jjP25:Tryz.checked.prog.mayEnter=true:=by kernel_rfl
end Go.Proofs.YtlobjjbchnjfiaaGreat
