/-
  The value-level logic and its contracts, part 4 (texts F, K1, K2, K3, K4, K5, K6, K7, K8).
-/
import Derived.Test.YtlobjjbchnjfiaaGreatBast3
import Derived.Test.YtlobjjbchnjfiaaGreatProg
open List renaming take_of_length_le→N1,drop_append→Pe,drop_of_length_le→OR,take_append→PI,length_append→K5,append_nil→Oq,replicate→Oi,getElem_mem→NY,mem_cons→NX,not_mem_nil→Ot,mem_map→Og,getElem?_eq_none→Oz,getElem?_append_left→Ou,getElem?_eq_getElem→K4
open Nat renaming le_refl→K6,zero_le→L7
open Option renaming map_eq_some_iff→Ox
open Int renaming tmod_nonneg→Qy,tmod_lt_of_pos→Qj,reduceEq→Oh,le_refl→Pw,le_trans→Qa
open Nat renaming reduceAdd → zA, reduceSub → zS, reduceMul → zM, reduceLeDiff → zL, reduceEqDiff → zE, reduceBEq → zB
open Go.V.D renaming junk → J
set_option linter.all false
set_option linter.unusedSimpArgs false
set_option linter.unusedVariables false
set_option linter.unnecessarySimpa false
set_option maxHeartbeats 4000000
open Option renaming some→Sd
open Bool renaming false→Se
open Option renaming none→Sf
open Bool renaming true→Sh
open Go.Proofs.Tryz renaming prog→Si
open Go renaming Program→Sj
open Go.ResultVar renaming tmp→Sy,cell→Sz
open Go.IntKind renaming i64→SA
open And renaming intro→Ss
namespace Go.V
open Go.Proofs Go.Proofs.Tryz
theorem tf3:(aU Si 3=Sd Se)∧(sizeT Si 3=Sd 1)∧(zeroD Si 3=Sd (.int .i64 0))∧(zeroT Si 3=Sd [.int .i64 0])∧(Si.underlying 3=Sd (.int .i64)):=by and_intros<;>kernel_rfl
theorem tf4:(aU Si 4=Sd Se)∧(sizeT Si 4=Sd 1)∧(zeroD Si 4=Sd (.bool Se))∧(zeroT Si 4=Sd [.bool Se])∧(Si.underlying 4=Sd .bool):=by and_intros<;>kernel_rfl
theorem tf5:(aU Si 5=Sd Se)∧(sizeT Si 5=Sd 1)∧(zeroD Si 5=Sd (.int .u8 0))∧(zeroT Si 5=Sd [.int .u8 0])∧(Si.underlying 5=Sd (.int .u8)):=by and_intros<;>kernel_rfl
theorem tf9:(aU Si 9=Sd Se)∧(sizeT Si 9=Sd 1)∧(zeroD Si 9=Sd (.str ⟨#[]⟩))∧(zeroT Si 9=Sd [.str ⟨#[]⟩])∧(Si.underlying 9=Sd .string):=by and_intros<;>kernel_rfl
theorem KU:(aU Si 22=Sd Se)∧(sizeT Si 22=Sd 1)∧(zeroD Si 22=Sd (.slice .nil []))∧(zeroT Si 22=Sd [.slice .nil []])∧(elemT Si 22=Sd (5,1,1,Se))∧(Si.underlying 22=Sd (.slice 5)):=by and_intros<;>kernel_rfl
theorem HI:(aU Si 24=Sd Sh)∧(sizeT Si 24=Sd 1)∧(zeroD Si 24=Sd (.agg [.slice .nil []]))∧(zeroT Si 24=Sd [.slice .nil []])∧(bk Si 24=Sh)∧(fieldT Si 24 0=Sd (0,1,Se))∧(aH Si 24 0=Sd (0,1)):=by and_intros<;>kernel_rfl
theorem tf25:(aU Si 25=Sd Se)∧(sizeT Si 25=Sd 1)∧(zeroD Si 25=Sd (.slice .nil []))∧(zeroT Si 25=Sd [.slice .nil []])∧(elemT Si 25=Sd (28,4,4,Sh))∧(Si.underlying 25=Sd (.slice 28)):=by and_intros<;>kernel_rfl
theorem B6:(aU Si 27=Sd Sh)∧(sizeT Si 27=Sd 2)∧(zeroD Si 27=Sd (.agg [.slice .nil [],.slice .nil []]))∧(zeroT Si 27=Sd [.slice .nil [],.slice .nil []])∧(bk Si 27=Sh)∧(fieldT Si 27 0=Sd (0,1,Sh))∧(aH Si 27 0=Sd (0,1))∧(fieldT Si 27 1=Sd (1,1,Se))∧(aH Si 27 1=Sd (1,1)):=by and_intros<;>kernel_rfl
theorem yB:(aU Si 28=Sd Sh)∧(sizeT Si 28=Sd 4)∧(zeroD Si 28=Sd (.agg [.int .u8 0,.int .u8 0,.int .u8 0,.int .u8 0]))∧(zeroT Si 28=Sd [.int .u8 0,.int .u8 0,.int .u8 0,.int .u8 0])∧(bk Si 28=Sh)∧(C6 Si 28=Sd (4,1))∧(aH Si 28 0=Sd (0,1))∧(aH Si 28 1=Sd (1,1))∧(aH Si 28 2=Sd (2,1))∧(aH Si 28 3=Sd (3,1)):=by and_intros<;>kernel_rfl
theorem eo:(aU Si 30=Sd Se)∧(sizeT Si 30=Sd 1)∧(zeroD Si 30=Sd (.slice .nil []))∧(zeroT Si 30=Sd [.slice .nil []])∧(elemT Si 30=Sd (178,3,24,Sh))∧(Si.underlying 30=Sd (.slice 178)):=by and_intros<;>kernel_rfl
theorem sB:(aU Si 31=Sd Se)∧(sizeT Si 31=Sd 1)∧(zeroD Si 31=Sd (.slice .nil []))∧(zeroT Si 31=Sd [.slice .nil []])∧(elemT Si 31=Sd (180,4,32,Sh))∧(Si.underlying 31=Sd (.slice 180)):=by and_intros<;>kernel_rfl
theorem bY:(aU Si 32=Sd Se)∧(sizeT Si 32=Sd 1)∧(zeroD Si 32=Sd (.slice .nil []))∧(zeroT Si 32=Sd [.slice .nil []])∧(elemT Si 32=Sd (3,1,8,Se))∧(Si.underlying 32=Sd (.slice 3)):=by and_intros<;>kernel_rfl
theorem fO:(aU Si 34=Sd Sh)∧(sizeT Si 34=Sd 7)∧(zeroD Si 34=Sd (.agg [.slice .nil [],.slice .nil [],.slice .nil [],.slice .nil [],.int .i64 0,.int .i64 0,.int .i64 0]))∧(zeroT Si 34=Sd [.slice .nil [],.slice .nil [],.slice .nil [],.slice .nil [],.int .i64 0,.int .i64 0,.int .i64 0])∧(bk Si 34=Sh)∧(fieldT Si 34 0=Sd (0,1,Se))∧(aH Si 34 0=Sd (0,1))∧(fieldT Si 34 1=Sd (1,1,Se))∧(aH Si 34 1=Sd (1,1))∧(fieldT Si 34 2=Sd (2,1,Se))∧(aH Si 34 2=Sd (2,1))∧(fieldT Si 34 3=Sd (3,1,Se))∧(aH Si 34 3=Sd (3,1))∧(fieldT Si 34 4=Sd (4,1,Se))∧(aH Si 34 4=Sd (4,1))∧(fieldT Si 34 5=Sd (5,1,Se))∧(aH Si 34 5=Sd (5,1))∧(fieldT Si 34 6=Sd (6,1,Se))∧(aH Si 34 6=Sd (6,1)):=by and_intros<;>kernel_rfl
theorem gk:(aU Si 35=Sd Se)∧(sizeT Si 35=Sd 1)∧(zeroD Si 35=Sd (.slice .nil []))∧(zeroT Si 35=Sd [.slice .nil []])∧(elemT Si 35=Sd (54,5,72,Sh))∧(Si.underlying 35=Sd (.slice 54)):=by and_intros<;>kernel_rfl
theorem cR:(aU Si 36=Sd Se)∧(sizeT Si 36=Sd 1)∧(zeroD Si 36=Sd (.slice .nil []))∧(zeroT Si 36=Sd [.slice .nil []])∧(elemT Si 36=Sd (59,12,168,Sh))∧(Si.underlying 36=Sd (.slice 59)):=by and_intros<;>kernel_rfl
theorem bK:(aU Si 38=Sd Sh)∧(sizeT Si 38=Sd 10)∧(zeroD Si 38=Sd (.agg [.slice .nil [],.slice .nil [],.slice .nil [],.slice .nil [],.int .i64 0,.int .i64 0,.int .i64 0,.slice .nil [],.slice .nil [],.slice .nil []]))∧(zeroT Si 38=Sd [.slice .nil [],.slice .nil [],.slice .nil [],.slice .nil [],.int .i64 0,.int .i64 0,.int .i64 0,.slice .nil [],.slice .nil [],.slice .nil []])∧(bk Si 38=Sh)∧(fieldT Si 38 0=Sd (0,7,Sh))∧(aH Si 38 0=Sd (0,7))∧(fieldT Si 38 1=Sd (7,1,Se))∧(aH Si 38 1=Sd (7,1))∧(fieldT Si 38 2=Sd (8,1,Se))∧(aH Si 38 2=Sd (8,1))∧(fieldT Si 38 3=Sd (9,1,Se))∧(aH Si 38 3=Sd (9,1)):=by and_intros<;>kernel_rfl
theorem gW:(aU Si 39=Sd Se)∧(sizeT Si 39=Sd 1)∧(zeroD Si 39=Sd (.slice .nil []))∧(zeroT Si 39=Sd [.slice .nil []])∧(elemT Si 39=Sd (49,7,112,Sh))∧(Si.underlying 39=Sd (.slice 49)):=by and_intros<;>kernel_rfl
theorem jL:(aU Si 41=Sd Sh)∧(sizeT Si 41=Sd 11)∧(zeroD Si 41=Sd (.agg [.slice .nil [],.slice .nil [],.slice .nil [],.slice .nil [],.int .i64 0,.int .i64 0,.int .i64 0,.slice .nil [],.slice .nil [],.slice .nil [],.slice .nil []]))∧(zeroT Si 41=Sd [.slice .nil [],.slice .nil [],.slice .nil [],.slice .nil [],.int .i64 0,.int .i64 0,.int .i64 0,.slice .nil [],.slice .nil [],.slice .nil [],.slice .nil []])∧(bk Si 41=Sh)∧(fieldT Si 41 0=Sd (0,10,Sh))∧(aH Si 41 0=Sd (0,10))∧(fieldT Si 41 1=Sd (10,1,Se))∧(aH Si 41 1=Sd (10,1)):=by and_intros<;>kernel_rfl
theorem fN:(aU Si 43=Sd Se)∧(sizeT Si 43=Sd 1)∧(zeroD Si 43=Sd (.int .i64 0))∧(zeroT Si 43=Sd [.int .i64 0])∧(Si.underlying 43=Sd (.int .i64)):=by and_intros<;>kernel_rfl
theorem lA:(aU Si 45=Sd Sh)∧(sizeT Si 45=Sd 11)∧(zeroD Si 45=Sd (.agg [.slice .nil [],.slice .nil [],.slice .nil [],.slice .nil [],.int .i64 0,.int .i64 0,.int .i64 0,.slice .nil [],.slice .nil [],.slice .nil [],.int .i64 0]))∧(zeroT Si 45=Sd [.slice .nil [],.slice .nil [],.slice .nil [],.slice .nil [],.int .i64 0,.int .i64 0,.int .i64 0,.slice .nil [],.slice .nil [],.slice .nil [],.int .i64 0])∧(bk Si 45=Sh)∧(fieldT Si 45 0=Sd (0,10,Sh))∧(aH Si 45 0=Sd (0,10))∧(fieldT Si 45 1=Sd (10,1,Se))∧(aH Si 45 1=Sd (10,1)):=by and_intros<;>kernel_rfl
theorem B5:(aU Si 47=Sd Se)∧(sizeT Si 47=Sd 1)∧(zeroD Si 47=Sd (.slice .nil []))∧(zeroT Si 47=Sd [.slice .nil []])∧(elemT Si 47=Sd (110,2,16,Sh))∧(Si.underlying 47=Sd (.slice 110)):=by and_intros<;>kernel_rfl
theorem dr:(aU Si 49=Sd Sh)∧(sizeT Si 49=Sd 7)∧(zeroD Si 49=Sd (.agg [.int .i64 0,.int .i64 0,.int .i64 0,.str ⟨#[]⟩,.slice .nil [],.slice .nil [],.slice .nil []]))∧(zeroT Si 49=Sd [.int .i64 0,.int .i64 0,.int .i64 0,.str ⟨#[]⟩,.slice .nil [],.slice .nil [],.slice .nil []])∧(bk Si 49=Sh)∧(fieldT Si 49 0=Sd (0,1,Se))∧(aH Si 49 0=Sd (0,1))∧(fieldT Si 49 1=Sd (1,1,Se))∧(aH Si 49 1=Sd (1,1))∧(fieldT Si 49 2=Sd (2,1,Se))∧(aH Si 49 2=Sd (2,1))∧(fieldT Si 49 3=Sd (3,1,Se))∧(aH Si 49 3=Sd (3,1))∧(fieldT Si 49 4=Sd (4,1,Se))∧(aH Si 49 4=Sd (4,1))∧(fieldT Si 49 5=Sd (5,1,Se))∧(aH Si 49 5=Sd (5,1))∧(fieldT Si 49 6=Sd (6,1,Se))∧(aH Si 49 6=Sd (6,1)):=by and_intros<;>kernel_rfl
theorem dZ:(aU Si 54=Sd Sh)∧(sizeT Si 54=Sd 5)∧(zeroD Si 54=Sd (.agg [.int .i64 0,.int .i64 0,.int .i64 0,.slice .nil [],.slice .nil []]))∧(zeroT Si 54=Sd [.int .i64 0,.int .i64 0,.int .i64 0,.slice .nil [],.slice .nil []])∧(bk Si 54=Sh)∧(fieldT Si 54 0=Sd (0,1,Se))∧(aH Si 54 0=Sd (0,1))∧(fieldT Si 54 1=Sd (1,1,Se))∧(aH Si 54 1=Sd (1,1))∧(fieldT Si 54 2=Sd (2,1,Se))∧(aH Si 54 2=Sd (2,1))∧(fieldT Si 54 3=Sd (3,1,Se))∧(aH Si 54 3=Sd (3,1))∧(fieldT Si 54 4=Sd (4,1,Se))∧(aH Si 54 4=Sd (4,1)):=by and_intros<;>kernel_rfl
theorem kM:(aU Si 56=Sd Se)∧(sizeT Si 56=Sd 1)∧(zeroD Si 56=Sd (.slice .nil []))∧(zeroT Si 56=Sd [.slice .nil []])∧(elemT Si 56=Sd (199,2,16,Sh))∧(Si.underlying 56=Sd (.slice 199)):=by and_intros<;>kernel_rfl
theorem eN:(aU Si 57=Sd Se)∧(sizeT Si 57=Sd 1)∧(zeroD Si 57=Sd (.slice .nil []))∧(zeroT Si 57=Sd [.slice .nil []])∧(elemT Si 57=Sd (130,20,288,Sh))∧(Si.underlying 57=Sd (.slice 130)):=by and_intros<;>kernel_rfl
theorem bi:(aU Si 59=Sd Sh)∧(sizeT Si 59=Sd 12)∧(zeroD Si 59=Sd (.agg [.int .i64 0,.int .i64 0,.str ⟨#[]⟩,.int .i64 0,.int .i64 0,.slice .nil [],.slice .nil [],.int .i64 0,.int .i64 0,.slice .nil [],.int .i64 0,.slice .nil []]))∧(zeroT Si 59=Sd [.int .i64 0,.int .i64 0,.str ⟨#[]⟩,.int .i64 0,.int .i64 0,.slice .nil [],.slice .nil [],.int .i64 0,.int .i64 0,.slice .nil [],.int .i64 0,.slice .nil []])∧(bk Si 59=Sh)∧(fieldT Si 59 0=Sd (0,1,Se))∧(aH Si 59 0=Sd (0,1))∧(fieldT Si 59 1=Sd (1,1,Se))∧(aH Si 59 1=Sd (1,1))∧(fieldT Si 59 2=Sd (2,1,Se))∧(aH Si 59 2=Sd (2,1))∧(fieldT Si 59 3=Sd (3,1,Se))∧(aH Si 59 3=Sd (3,1))∧(fieldT Si 59 4=Sd (4,1,Se))∧(aH Si 59 4=Sd (4,1))∧(fieldT Si 59 5=Sd (5,1,Se))∧(aH Si 59 5=Sd (5,1))∧(fieldT Si 59 6=Sd (6,1,Se))∧(aH Si 59 6=Sd (6,1))∧(fieldT Si 59 7=Sd (7,1,Se))∧(aH Si 59 7=Sd (7,1))∧(fieldT Si 59 8=Sd (8,1,Se))∧(aH Si 59 8=Sd (8,1))∧(fieldT Si 59 9=Sd (9,1,Se))∧(aH Si 59 9=Sd (9,1))∧(fieldT Si 59 10=Sd (10,1,Se))∧(aH Si 59 10=Sd (10,1))∧(fieldT Si 59 11=Sd (11,1,Se))∧(aH Si 59 11=Sd (11,1)):=by and_intros<;>kernel_rfl
theorem sA:(aU Si 61=Sd Sh)∧(sizeT Si 61=Sd 13)∧(zeroD Si 61=Sd (.agg [.int .i64 0,.int .i64 0,.str ⟨#[]⟩,.int .i64 0,.int .i64 0,.slice .nil [],.slice .nil [],.int .i64 0,.int .i64 0,.slice .nil [],.int .i64 0,.slice .nil [],.bool Se]))∧(zeroT Si 61=Sd [.int .i64 0,.int .i64 0,.str ⟨#[]⟩,.int .i64 0,.int .i64 0,.slice .nil [],.slice .nil [],.int .i64 0,.int .i64 0,.slice .nil [],.int .i64 0,.slice .nil [],.bool Se])∧(bk Si 61=Sh)∧(fieldT Si 61 0=Sd (0,12,Sh))∧(aH Si 61 0=Sd (0,12))∧(fieldT Si 61 1=Sd (12,1,Se))∧(aH Si 61 1=Sd (12,1)):=by and_intros<;>kernel_rfl
theorem yA:(aU Si 64=Sd Sh)∧(sizeT Si 64=Sd 6)∧(zeroD Si 64=Sd (.agg [.int .i64 0,.int .i64 0,.int .i64 0,.slice .nil [],.slice .nil [],.bool Se]))∧(zeroT Si 64=Sd [.int .i64 0,.int .i64 0,.int .i64 0,.slice .nil [],.slice .nil [],.bool Se])∧(bk Si 64=Sh)∧(fieldT Si 64 0=Sd (0,5,Sh))∧(aH Si 64 0=Sd (0,5))∧(fieldT Si 64 1=Sd (5,1,Se))∧(aH Si 64 1=Sd (5,1)):=by and_intros<;>kernel_rfl
theorem sE:(aU Si 110=Sd Sh)∧(sizeT Si 110=Sd 2)∧(zeroD Si 110=Sd (.agg [.int .i64 0,.int .i64 0]))∧(zeroT Si 110=Sd [.int .i64 0,.int .i64 0])∧(bk Si 110=Sh)∧(C6 Si 110=Sd (2,1))∧(aH Si 110 0=Sd (0,1))∧(aH Si 110 1=Sd (1,1)):=by and_intros<;>kernel_rfl
theorem KV:(aU Si 120=Sd Se)∧(sizeT Si 120=Sd 1)∧(zeroD Si 120=Sd (.slice .nil []))∧(zeroT Si 120=Sd [.slice .nil []])∧(elemT Si 120=Sd (9,1,16,Se))∧(Si.underlying 120=Sd (.slice 9)):=by and_intros<;>kernel_rfl
theorem dk:(aU Si 122=Sd Se)∧(sizeT Si 122=Sd 1)∧(zeroD Si 122=Sd (.slice .nil []))∧(zeroT Si 122=Sd [.slice .nil []])∧(elemT Si 122=Sd (124,4,48,Sh))∧(Si.underlying 122=Sd (.slice 124)):=by and_intros<;>kernel_rfl
theorem bT:(aU Si 124=Sd Sh)∧(sizeT Si 124=Sd 4)∧(zeroD Si 124=Sd (.agg [.int .i64 0,.int .i64 0,.int .i64 0,.slice .nil []]))∧(zeroT Si 124=Sd [.int .i64 0,.int .i64 0,.int .i64 0,.slice .nil []])∧(bk Si 124=Sh)∧(fieldT Si 124 0=Sd (0,1,Se))∧(aH Si 124 0=Sd (0,1))∧(fieldT Si 124 1=Sd (1,1,Se))∧(aH Si 124 1=Sd (1,1))∧(fieldT Si 124 2=Sd (2,1,Se))∧(aH Si 124 2=Sd (2,1))∧(fieldT Si 124 3=Sd (3,1,Se))∧(aH Si 124 3=Sd (3,1)):=by and_intros<;>kernel_rfl
theorem kN:(aU Si 126=Sd Se)∧(sizeT Si 126=Sd 1)∧(zeroD Si 126=Sd (.slice .nil []))∧(zeroT Si 126=Sd [.slice .nil []])∧(elemT Si 126=Sd (128,3,56,Sh))∧(Si.underlying 126=Sd (.slice 128)):=by and_intros<;>kernel_rfl
theorem eO:(aU Si 128=Sd Sh)∧(sizeT Si 128=Sd 3)∧(zeroD Si 128=Sd (.agg [.int .i64 0,.slice .nil [],.slice .nil []]))∧(zeroT Si 128=Sd [.int .i64 0,.slice .nil [],.slice .nil []])∧(bk Si 128=Sh)∧(fieldT Si 128 0=Sd (0,1,Se))∧(aH Si 128 0=Sd (0,1))∧(fieldT Si 128 1=Sd (1,1,Se))∧(aH Si 128 1=Sd (1,1))∧(fieldT Si 128 2=Sd (2,1,Se))∧(aH Si 128 2=Sd (2,1)):=by and_intros<;>kernel_rfl
theorem cg:(aU Si 130=Sd Sh)∧(sizeT Si 130=Sd 20)∧(zeroD Si 130=Sd (.agg [.int .i64 0,.int .i64 0,.int .i64 0,.int .i64 0,.int .i64 0,.int .i64 0,.int .i64 0,.int .i64 0,.slice .nil [],.int .i64 0,.int .i64 0,.int .i64 0,.slice .nil [],.int .i64 0,.slice .nil [],.slice .nil [],.slice .nil [],.slice .nil [],.slice .nil [],.slice .nil []]))∧(zeroT Si 130=Sd [.int .i64 0,.int .i64 0,.int .i64 0,.int .i64 0,.int .i64 0,.int .i64 0,.int .i64 0,.int .i64 0,.slice .nil [],.int .i64 0,.int .i64 0,.int .i64 0,.slice .nil [],.int .i64 0,.slice .nil [],.slice .nil [],.slice .nil [],.slice .nil [],.slice .nil [],.slice .nil []])∧(bk Si 130=Sh)∧(fieldT Si 130 0=Sd (0,1,Se))∧(aH Si 130 0=Sd (0,1))∧(fieldT Si 130 1=Sd (1,1,Se))∧(aH Si 130 1=Sd (1,1))∧(fieldT Si 130 2=Sd (2,1,Se))∧(aH Si 130 2=Sd (2,1))∧(fieldT Si 130 3=Sd (3,1,Se))∧(aH Si 130 3=Sd (3,1))∧(fieldT Si 130 4=Sd (4,1,Se))∧(aH Si 130 4=Sd (4,1))∧(fieldT Si 130 5=Sd (5,4,Sh))∧(aH Si 130 5=Sd (5,4))∧(fieldT Si 130 6=Sd (9,4,Sh))∧(aH Si 130 6=Sd (9,4))∧(fieldT Si 130 7=Sd (13,3,Sh))∧(aH Si 130 7=Sd (13,3))∧(fieldT Si 130 8=Sd (16,1,Se))∧(aH Si 130 8=Sd (16,1))∧(fieldT Si 130 9=Sd (17,1,Se))∧(aH Si 130 9=Sd (17,1))∧(fieldT Si 130 10=Sd (18,1,Se))∧(aH Si 130 10=Sd (18,1))∧(fieldT Si 130 11=Sd (19,1,Se))∧(aH Si 130 11=Sd (19,1)):=by and_intros<;>kernel_rfl
theorem gn:(aU Si 134=Sd Se)∧(sizeT Si 134=Sd 1)∧(zeroD Si 134=Sd (.nilm))∧(zeroT Si 134=Sd [.nilm])∧(Si.underlying 134=Sd (.map 3 4)):=by and_intros<;>kernel_rfl
theorem oR:(aU Si 148=Sd Se)∧(sizeT Si 148=Sd 1)∧(zeroD Si 148=Sd (.slice .nil []))∧(zeroT Si 148=Sd [.slice .nil []])∧(elemT Si 148=Sd (4,1,1,Se))∧(Si.underlying 148=Sd (.slice 4)):=by and_intros<;>kernel_rfl
theorem Fb:(aU Si 169=Sd Se)∧(sizeT Si 169=Sd 1)∧(zeroD Si 169=Sd (.nilf))∧(zeroT Si 169=Sd [.nilf]):=by and_intros<;>kernel_rfl
theorem Fa:(aU Si 171=Sd Se)∧(sizeT Si 171=Sd 1)∧(zeroD Si 171=Sd (.nilm))∧(zeroT Si 171=Sd [.nilm])∧(Si.underlying 171=Sd (.map 3 169)):=by and_intros<;>kernel_rfl
theorem ij:(aU Si 175=Sd Sh)∧(sizeT Si 175=Sd 10)∧(zeroD Si 175=Sd (.agg [.slice .nil [],.slice .nil [],.slice .nil [],.slice .nil [],.int .i64 0,.int .i64 0,.int .i64 0,.slice .nil [],.slice .nil [],.slice .nil []]))∧(zeroT Si 175=Sd [.slice .nil [],.slice .nil [],.slice .nil [],.slice .nil [],.int .i64 0,.int .i64 0,.int .i64 0,.slice .nil [],.slice .nil [],.slice .nil []])∧(bk Si 175=Sh)∧(fieldT Si 175 0=Sd (0,10,Sh))∧(aH Si 175 0=Sd (0,10)):=by and_intros<;>kernel_rfl
theorem bS:(aU Si 178=Sd Sh)∧(sizeT Si 178=Sd 3)∧(zeroD Si 178=Sd (.agg [.int .i64 0,.int .i64 0,.int .i64 0]))∧(zeroT Si 178=Sd [.int .i64 0,.int .i64 0,.int .i64 0])∧(bk Si 178=Sh)∧(eqT Si 178=Sd [(0,.int),(1,.int),(2,.int)])∧(fieldT Si 178 0=Sd (0,1,Se))∧(aH Si 178 0=Sd (0,1))∧(fieldT Si 178 1=Sd (1,1,Se))∧(aH Si 178 1=Sd (1,1))∧(fieldT Si 178 2=Sd (2,1,Se))∧(aH Si 178 2=Sd (2,1)):=by and_intros<;>kernel_rfl
theorem ii:(aU Si 180=Sd Sh)∧(sizeT Si 180=Sd 4)∧(zeroD Si 180=Sd (.agg [.int .i64 0,.int .i64 0,.int .i64 0,.int .i64 0]))∧(zeroT Si 180=Sd [.int .i64 0,.int .i64 0,.int .i64 0,.int .i64 0])∧(bk Si 180=Sh)∧(eqT Si 180=Sd [(0,.int),(1,.int),(2,.int),(3,.int)])∧(fieldT Si 180 0=Sd (0,1,Se))∧(aH Si 180 0=Sd (0,1))∧(fieldT Si 180 1=Sd (1,3,Sh))∧(aH Si 180 1=Sd (1,3)):=by and_intros<;>kernel_rfl
theorem E9:(aU Si 181=Sd Se)∧(sizeT Si 181=Sd 1)∧(zeroD Si 181=Sd (.nilf))∧(zeroT Si 181=Sd [.nilf]):=by and_intros<;>kernel_rfl
theorem E8:(aU Si 183=Sd Se)∧(sizeT Si 183=Sd 1)∧(zeroD Si 183=Sd (.nilf))∧(zeroT Si 183=Sd [.nilf]):=by and_intros<;>kernel_rfl
theorem E7:(aU Si 184=Sd Se)∧(sizeT Si 184=Sd 1)∧(zeroD Si 184=Sd (.nilf))∧(zeroT Si 184=Sd [.nilf]):=by and_intros<;>kernel_rfl
theorem E6:(aU Si 189=Sd Se)∧(sizeT Si 189=Sd 1)∧(zeroD Si 189=Sd (.nilf))∧(zeroT Si 189=Sd [.nilf]):=by and_intros<;>kernel_rfl
theorem sD:(aU Si 194=Sd Sh)∧(sizeT Si 194=Sd 21)∧(zeroD Si 194=Sd (.agg [.int .i64 0,.int .i64 0,.int .i64 0,.int .i64 0,.int .i64 0,.int .i64 0,.int .i64 0,.int .i64 0,.slice .nil [],.int .i64 0,.int .i64 0,.int .i64 0,.slice .nil [],.int .i64 0,.slice .nil [],.slice .nil [],.slice .nil [],.slice .nil [],.slice .nil [],.slice .nil [],.int .i64 0]))∧(zeroT Si 194=Sd [.int .i64 0,.int .i64 0,.int .i64 0,.int .i64 0,.int .i64 0,.int .i64 0,.int .i64 0,.int .i64 0,.slice .nil [],.int .i64 0,.int .i64 0,.int .i64 0,.slice .nil [],.int .i64 0,.slice .nil [],.slice .nil [],.slice .nil [],.slice .nil [],.slice .nil [],.slice .nil [],.int .i64 0])∧(bk Si 194=Sh)∧(fieldT Si 194 0=Sd (0,20,Sh))∧(aH Si 194 0=Sd (0,20))∧(fieldT Si 194 1=Sd (20,1,Se))∧(aH Si 194 1=Sd (20,1)):=by and_intros<;>kernel_rfl
theorem eE:(aU Si 199=Sd Sh)∧(sizeT Si 199=Sd 2)∧(zeroD Si 199=Sd (.agg [.int .i64 0,.int .i64 0]))∧(zeroT Si 199=Sd [.int .i64 0,.int .i64 0])∧(bk Si 199=Sh)∧(eqT Si 199=Sd [(0,.int),(1,.int)])∧(fieldT Si 199 0=Sd (0,1,Se))∧(aH Si 199 0=Sd (0,1))∧(fieldT Si 199 1=Sd (1,1,Se))∧(aH Si 199 1=Sd (1,1)):=by and_intros<;>kernel_rfl
theorem fF:(aU Si 204=Sd Sh)∧(sizeT Si 204=Sd 29)∧(zeroD Si 204=Sd (.agg [.slice .nil [],.int .i64 0,.slice .nil [],.slice .nil [],.slice .nil [],.slice .nil [],.int .i64 0,.int .i64 0,.int .i64 0,.slice .nil [],.slice .nil [],.slice .nil [],.int .i64 0,.int .i64 0,.str ⟨#[]⟩,.int .i64 0,.int .i64 0,.slice .nil [],.slice .nil [],.int .i64 0,.int .i64 0,.slice .nil [],.int .i64 0,.slice .nil [],.int .i64 0,.int .i64 0,.int .i64 0,.int .i64 0,.bool Se]))∧(zeroT Si 204=Sd [.slice .nil [],.int .i64 0,.slice .nil [],.slice .nil [],.slice .nil [],.slice .nil [],.int .i64 0,.int .i64 0,.int .i64 0,.slice .nil [],.slice .nil [],.slice .nil [],.int .i64 0,.int .i64 0,.str ⟨#[]⟩,.int .i64 0,.int .i64 0,.slice .nil [],.slice .nil [],.int .i64 0,.int .i64 0,.slice .nil [],.int .i64 0,.slice .nil [],.int .i64 0,.int .i64 0,.int .i64 0,.int .i64 0,.bool Se])∧(bk Si 204=Sh)∧(fieldT Si 204 0=Sd (0,1,Se))∧(aH Si 204 0=Sd (0,1))∧(fieldT Si 204 1=Sd (1,1,Se))∧(aH Si 204 1=Sd (1,1))∧(fieldT Si 204 2=Sd (2,10,Sh))∧(aH Si 204 2=Sd (2,10))∧(fieldT Si 204 3=Sd (12,12,Sh))∧(aH Si 204 3=Sd (12,12))∧(fieldT Si 204 4=Sd (24,1,Se))∧(aH Si 204 4=Sd (24,1))∧(fieldT Si 204 5=Sd (25,1,Se))∧(aH Si 204 5=Sd (25,1))∧(fieldT Si 204 6=Sd (26,1,Se))∧(aH Si 204 6=Sd (26,1))∧(fieldT Si 204 7=Sd (27,1,Se))∧(aH Si 204 7=Sd (27,1))∧(fieldT Si 204 8=Sd (28,1,Se))∧(aH Si 204 8=Sd (28,1)):=by and_intros<;>kernel_rfl
theorem sC:(aU Si 209=Sd Se)∧(sizeT Si 209=Sd 1)∧(zeroD Si 209=Sd (.int .u64 0))∧(zeroT Si 209=Sd [.int .u64 0])∧(Si.underlying 209=Sd (.int .u64)):=by and_intros<;>kernel_rfl
theorem tf211:(aU Si 211=Sd Sh)∧(sizeT Si 211=Sd 19)∧(zeroD Si 211=Sd (.agg [.int .i64 0,.int .i64 0,.str ⟨#[]⟩,.int .i64 0,.int .i64 0,.slice .nil [],.slice .nil [],.int .i64 0,.int .i64 0,.slice .nil [],.int .i64 0,.slice .nil [],.slice .nil [],.slice .nil [],.slice .nil [],.slice .nil [],.int .i64 0,.int .i64 0,.int .i64 0]))∧(zeroT Si 211=Sd [.int .i64 0,.int .i64 0,.str ⟨#[]⟩,.int .i64 0,.int .i64 0,.slice .nil [],.slice .nil [],.int .i64 0,.int .i64 0,.slice .nil [],.int .i64 0,.slice .nil [],.slice .nil [],.slice .nil [],.slice .nil [],.slice .nil [],.int .i64 0,.int .i64 0,.int .i64 0])∧(bk Si 211=Sh)∧(fieldT Si 211 0=Sd (0,12,Sh))∧(aH Si 211 0=Sd (0,12))∧(fieldT Si 211 1=Sd (12,7,Sh))∧(aH Si 211 1=Sd (12,7)):=by and_intros<;>kernel_rfl
theorem E5:(aU Si 212=Sd Se)∧(sizeT Si 212=Sd 1)∧(zeroD Si 212=Sd (.nilf))∧(zeroT Si 212=Sd [.nilf]):=by and_intros<;>kernel_rfl
theorem E4:(aU Si 248=Sd Se)∧(sizeT Si 248=Sd 1)∧(zeroD Si 248=Sd (.int .i64 0))∧(zeroT Si 248=Sd [.int .i64 0])∧(Si.underlying 248=Sd (.int .i64)):=by and_intros<;>kernel_rfl
theorem KT:(aU Si 256=Sd Se)∧(sizeT Si 256=Sd 1)∧(zeroD Si 256=Sd (.int .u32 0))∧(zeroT Si 256=Sd [.int .u32 0])∧(Si.underlying 256=Sd (.int .u32)):=by and_intros<;>kernel_rfl
theorem KS:(aU Si 258=Sd Se)∧(sizeT Si 258=Sd 1)∧(zeroD Si 258=Sd (.int .u64 0))∧(zeroT Si 258=Sd [.int .u64 0])∧(Si.underlying 258=Sd (.int .u64)):=by and_intros<;>kernel_rfl
theorem E3:(aU Si 260=Sd Se)∧(sizeT Si 260=Sd 1)∧(zeroD Si 260=Sd (.int .i64 0))∧(zeroT Si 260=Sd [.int .i64 0])∧(Si.underlying 260=Sd (.int .i64)):=by and_intros<;>kernel_rfl
theorem E2:(aU Si 262=Sd Sh)∧(sizeT Si 262=Sd 9)∧(zeroD Si 262=Sd (.agg [.int .i64 0,.int .i64 0,.int .i64 0,.bool Se,.bool Se,.bool Se,.bool Se,.bool Se,.bool Se]))∧(zeroT Si 262=Sd [.int .i64 0,.int .i64 0,.int .i64 0,.bool Se,.bool Se,.bool Se,.bool Se,.bool Se,.bool Se])∧(bk Si 262=Sh)∧(eqT Si 262=Sd [(0,.int),(1,.int),(2,.int),(3,.bool),(4,.bool),(5,.bool),(6,.bool),(7,.bool),(8,.bool)])∧(fieldT Si 262 0=Sd (0,1,Se))∧(aH Si 262 0=Sd (0,1))∧(fieldT Si 262 1=Sd (1,1,Se))∧(aH Si 262 1=Sd (1,1))∧(fieldT Si 262 2=Sd (2,1,Se))∧(aH Si 262 2=Sd (2,1))∧(fieldT Si 262 3=Sd (3,1,Se))∧(aH Si 262 3=Sd (3,1))∧(fieldT Si 262 4=Sd (4,1,Se))∧(aH Si 262 4=Sd (4,1))∧(fieldT Si 262 5=Sd (5,1,Se))∧(aH Si 262 5=Sd (5,1))∧(fieldT Si 262 6=Sd (6,1,Se))∧(aH Si 262 6=Sd (6,1))∧(fieldT Si 262 7=Sd (7,1,Se))∧(aH Si 262 7=Sd (7,1))∧(fieldT Si 262 8=Sd (8,1,Se))∧(aH Si 262 8=Sd (8,1)):=by and_intros<;>kernel_rfl
theorem E1:(aU Si 265=Sd Se)∧(sizeT Si 265=Sd 1)∧(zeroD Si 265=Sd (.nilf))∧(zeroT Si 265=Sd [.nilf]):=by and_intros<;>kernel_rfl
theorem E0:(aU Si 312=Sd Sh)∧(sizeT Si 312=Sd 9)∧(zeroD Si 312=Sd (.agg [.int .i64 0,.int .i64 0,.bool Se,.bool Se,.bool Se,.bool Se,.bool Se,.bool Se,.bool Se]))∧(zeroT Si 312=Sd [.int .i64 0,.int .i64 0,.bool Se,.bool Se,.bool Se,.bool Se,.bool Se,.bool Se,.bool Se])∧(bk Si 312=Sh)∧(eqT Si 312=Sd [(0,.int),(1,.int),(2,.bool),(3,.bool),(4,.bool),(5,.bool),(6,.bool),(7,.bool),(8,.bool)])∧(fieldT Si 312 0=Sd (0,1,Se))∧(aH Si 312 0=Sd (0,1))∧(fieldT Si 312 1=Sd (1,1,Se))∧(aH Si 312 1=Sd (1,1))∧(fieldT Si 312 2=Sd (2,1,Se))∧(aH Si 312 2=Sd (2,1))∧(fieldT Si 312 3=Sd (3,1,Se))∧(aH Si 312 3=Sd (3,1))∧(fieldT Si 312 4=Sd (4,1,Se))∧(aH Si 312 4=Sd (4,1))∧(fieldT Si 312 5=Sd (5,1,Se))∧(aH Si 312 5=Sd (5,1))∧(fieldT Si 312 6=Sd (6,1,Se))∧(aH Si 312 6=Sd (6,1))∧(fieldT Si 312 7=Sd (7,1,Se))∧(aH Si 312 7=Sd (7,1))∧(fieldT Si 312 8=Sd (8,1,Se))∧(aH Si 312 8=Sd (8,1)):=by and_intros<;>kernel_rfl
theorem KR:(aU Si 335=Sd Sh)∧(sizeT Si 335=Sd 2)∧(zeroD Si 335=Sd (.agg [.int .i64 0,.int .i64 0]))∧(zeroT Si 335=Sd [.int .i64 0,.int .i64 0])∧(bk Si 335=Sh)∧(eqT Si 335=Sd [(0,.int),(1,.int)])∧(fieldT Si 335 0=Sd (0,1,Se))∧(aH Si 335 0=Sd (0,1))∧(fieldT Si 335 1=Sd (1,1,Se))∧(aH Si 335 1=Sd (1,1)):=by and_intros<;>kernel_rfl
def vt6:=Ss @tf3<|Ss @kM<|Ss @bi<|Ss @bT<|Ss @eE @fF
def vt7:=Ss @tf3<|Ss @bT<|Ss @kN @eO
def vt8:=Ss @tf3<|Ss @eN<|Ss @bT @cg
def vt9:=Ss @tf3<|Ss @kM<|Ss @bi<|Ss @cg<|Ss @eE @fF
def mX:=Ss @tf3<|Ss @tf4<|Ss @eo<|Ss @bY<|Ss @gk<|Ss @bK<|Ss @dZ<|Ss @dk<|Ss @bT<|Ss @cg<|Ss @bS @fF
def kU:=Ss @tf3<|Ss @tf4<|Ss @eN<|Ss @cg @fF
def wF:=Ss @tf3<|Ss @eN<|Ss @cg @fF
def iv:=Ss @tf3<|Ss @eN<|Ss @eO<|Ss @cg @fF
def HF:=Ss @tf3<|Ss @eo<|Ss @dZ<|Ss @bi @bS
def gf:=Ss @tf3<|Ss @tf4<|Ss @tf9<|Ss @eo<|Ss @bY<|Ss @gk<|Ss @cR<|Ss @bK<|Ss @dZ<|Ss @kM<|Ss @eN<|Ss @bi<|Ss @cg<|Ss @bS<|Ss @eE @fF
def lz:=Ss @tf3<|Ss @tf5<|Ss @KU<|Ss @HI<|Ss @eo<|Ss @bY<|Ss @cR<|Ss @bK<|Ss @bi<|Ss @bS @fF
def jk:=Ss @tf3<|Ss @eo @bS
def bW:=Ss @tf3 @bY
def kH:=Ss @tf3<|Ss @cR @bi
def vt37:=Ss @tf3<|Ss @tf4<|Ss @kM<|Ss @bi<|Ss @dk<|Ss @bT<|Ss @eE @tf211
def vt38:=Ss @tf3<|Ss @tf4<|Ss @dk<|Ss @bT<|Ss @kN<|Ss @eO<|Ss @tf211 @KR
def vt44:=Ss @tf3<|Ss @tf4<|Ss @bY<|Ss @eN<|Ss @dk<|Ss @bT<|Ss @kN<|Ss @eO<|Ss @cg<|Ss @tf211<|Ss @E3 @E2
def pn:=Ss @tf3<|Ss @eN @cg
def fY:=Ss @tf3<|Ss @bY<|Ss @eN<|Ss @bi<|Ss @cg @sD
def vt48:=Ss @tf3<|Ss @tf4<|Ss @tf5 @tf9
def vt50:=Ss @tf3<|Ss @tf4<|Ss @tf9<|Ss @eo<|Ss @fO<|Ss @fN<|Ss @kM<|Ss @eN<|Ss @bi<|Ss @cg<|Ss @gn<|Ss @bS<|Ss @sD<|Ss @eE @tf211
def Fy:=Ss @tf3<|Ss @cR<|Ss @bK @bi
def yx:=Ss @tf3<|Ss @gk<|Ss @bK @dZ
def vt57:=Ss @tf3<|Ss @tf4<|Ss @eo<|Ss @bY<|Ss @fO<|Ss @bK<|Ss @fN<|Ss @dZ<|Ss @eN<|Ss @bi<|Ss @dk<|Ss @bT<|Ss @cg<|Ss @bS @sD
def yw:=Ss @tf3<|Ss @tf4<|Ss @bY<|Ss @cR<|Ss @bK<|Ss @bi @gn
def vt66:=Ss @tf3<|Ss @tf4<|Ss @eo<|Ss @bY<|Ss @fO<|Ss @cR<|Ss @bK<|Ss @fN<|Ss @bi<|Ss @gn @bS
def oC:=Ss @tf3<|Ss @bY<|Ss @eN<|Ss @bi @cg
def Fv:=Ss @tf3<|Ss @cR<|Ss @bK<|Ss @bi @sA
def BY:=Ss @tf3<|Ss @bY<|Ss @dk @bT
def BX:=Ss @tf3<|Ss @bY<|Ss @dk<|Ss @bT<|Ss @kN @eO
def qD:=Ss @tf3<|Ss @bY<|Ss @eN<|Ss @dk<|Ss @bT<|Ss @eO @cg
def pm:=Ss @tf3<|Ss @tf5<|Ss @tf9<|Ss @eo<|Ss @bY<|Ss @kM<|Ss @eN<|Ss @bi<|Ss @cg<|Ss @bS @eE
def jE:=Ss @tf3<|Ss @eo<|Ss @sB<|Ss @bY<|Ss @fO<|Ss @gk<|Ss @cR<|Ss @bK<|Ss @dZ<|Ss @bi<|Ss @bS @ii
def vt78:=Ss @tf3<|Ss @tf4<|Ss @eo<|Ss @sB<|Ss @bY<|Ss @fO<|Ss @bS @ii
def vt79:=Ss @tf3<|Ss @tf4<|Ss @kM<|Ss @bi<|Ss @dk<|Ss @bT @eE
def jK:=Ss @tf3<|Ss @bi<|Ss @dk<|Ss @bT<|Ss @kN @eO
def vt86:=Ss @tf3<|Ss @tf4<|Ss @bY<|Ss @bi<|Ss @dk<|Ss @bT @cg
def vt87:=Ss @tf3<|Ss @tf4<|Ss @bY<|Ss @fO<|Ss @eN<|Ss @bi<|Ss @dk<|Ss @bT<|Ss @eO<|Ss @cg @E0
def vt89:=Ss @tf3<|Ss @tf4<|Ss @tf9<|Ss @eo<|Ss @fO<|Ss @kM<|Ss @eN<|Ss @bi<|Ss @cg<|Ss @bS @eE
def Fu:=Ss @tf3<|Ss @gk<|Ss @bK<|Ss @dZ @yA
def vt91:=Ss @tf3<|Ss @tf4<|Ss @eo<|Ss @fO<|Ss @gk<|Ss @bK<|Ss @dZ @bS
def vt92:=Ss @tf3<|Ss @tf4<|Ss @eo<|Ss @bY<|Ss @bK<|Ss @dZ<|Ss @eN<|Ss @bi<|Ss @yA<|Ss @dk<|Ss @bT<|Ss @cg @bS
def vt93:=Ss @tf3<|Ss @tf4<|Ss @bY<|Ss @cR<|Ss @bK<|Ss @bi @sA
def fX:=Ss @tf3<|Ss @tf4<|Ss @cR @bi
def vp:=Ss @tf3<|Ss @cR<|Ss @bK<|Ss @bi @ij
def uY:=Ss @tf3<|Ss @tf4<|Ss @bY<|Ss @cR<|Ss @bi @gn
def cL:=Ss @tf3<|Ss @tf4<|Ss @bY<|Ss @fO<|Ss @cR<|Ss @bK<|Ss @fN<|Ss @B5<|Ss @dr<|Ss @dZ<|Ss @bi<|Ss @sE<|Ss @gn @ij
def jR:=Ss @tf3<|Ss @tf4<|Ss @cR<|Ss @bK<|Ss @dr<|Ss @bi @ij
def iF:=Ss @tf3<|Ss @tf4<|Ss @gk<|Ss @cR<|Ss @bK<|Ss @dZ<|Ss @bi @ij
def kJ:=Ss @tf3<|Ss @tf4<|Ss @gk<|Ss @bK<|Ss @fN<|Ss @dr<|Ss @dZ<|Ss @Fb<|Ss @Fa @ij
def gj:=Ss @tf3<|Ss @tf4<|Ss @gW<|Ss @dr<|Ss @gn @oR
def mW:=Ss @tf3<|Ss @tf4<|Ss @bK<|Ss @gW<|Ss @fN<|Ss @dr @oR
def cb:=Ss @tf3<|Ss @tf4<|Ss @cR<|Ss @bK<|Ss @gW<|Ss @jL<|Ss @fN<|Ss @dr<|Ss @bi<|Ss @gn @oR
def fP:=Ss @tf3<|Ss @tf4<|Ss @bY<|Ss @cR<|Ss @bK<|Ss @gW<|Ss @jL<|Ss @dr<|Ss @bi @gn
def dO:=Ss @tf3<|Ss @tf9<|Ss @bY<|Ss @cR<|Ss @bK<|Ss @gW<|Ss @jL<|Ss @fN<|Ss @lA<|Ss @dr @bi
def gh:=Ss @tf3<|Ss @tf4<|Ss @gk<|Ss @cR<|Ss @bK<|Ss @dZ @bi
def sv:=Ss @tf3<|Ss @tf4 @bY
def rc:=Ss @tf3<|Ss @cR<|Ss @bK<|Ss @gW<|Ss @jL<|Ss @dr @bi
def eA:=Ss @tf3<|Ss @tf4<|Ss @bY<|Ss @cR<|Ss @bK<|Ss @dr<|Ss @bi @yA
def gg:=Ss @tf3<|Ss @tf4<|Ss @cR<|Ss @bK<|Ss @B5<|Ss @dr<|Ss @bi @sE
def vt133:=Ss @tf3<|Ss @tf4<|Ss @eo<|Ss @bY<|Ss @fO<|Ss @cR<|Ss @bK<|Ss @fN<|Ss @dZ<|Ss @bi<|Ss @sA<|Ss @yA @bS
def eM:=Ss @tf3<|Ss @tf4<|Ss @tf9<|Ss @bY<|Ss @cR<|Ss @bK<|Ss @dr<|Ss @bi @sA
def mV:=Ss @tf3<|Ss @tf4<|Ss @bY<|Ss @gk<|Ss @cR<|Ss @bK<|Ss @fN<|Ss @lA<|Ss @dr<|Ss @dZ @bi
def eD:=Ss @tf3<|Ss @tf4<|Ss @gW<|Ss @dr @oR
def lh:=Ss @tf3<|Ss @tf4<|Ss @bK<|Ss @gW<|Ss @fN<|Ss @lA<|Ss @dr @oR
def fE:=Ss @tf3<|Ss @tf4<|Ss @bY<|Ss @cR<|Ss @bK<|Ss @gW<|Ss @jL<|Ss @fN<|Ss @lA<|Ss @dr @bi
def uX:=Ss @tf3<|Ss @bY<|Ss @gk<|Ss @bK<|Ss @jL @dZ
def zX:=Ss @tf3<|Ss @tf5<|Ss @cR<|Ss @bK @bi
def jn:=Ss @tf3<|Ss @tf5<|Ss @yB<|Ss @cR<|Ss @B5<|Ss @dr<|Ss @eN<|Ss @bi<|Ss @sE @cg
def eh:=Ss @tf3<|Ss @tf5<|Ss @tf9<|Ss @yB<|Ss @bY<|Ss @cR<|Ss @bK<|Ss @gW<|Ss @jL<|Ss @B5<|Ss @dr<|Ss @eN<|Ss @bi<|Ss @sE<|Ss @KV @cg
def lg:=Ss @tf3<|Ss @HI<|Ss @tf25<|Ss @B6<|Ss @yB<|Ss @bK<|Ss @gW<|Ss @jL<|Ss @fN<|Ss @lA @dr
def de:=Ss @tf3<|Ss @tf4<|Ss @B6<|Ss @yB<|Ss @bK<|Ss @gW<|Ss @jL<|Ss @fN<|Ss @lA @dr
def dq:=Ss @tf3<|Ss @tf4<|Ss @B6<|Ss @bY<|Ss @fO<|Ss @cR<|Ss @bK<|Ss @gW<|Ss @jL<|Ss @fN<|Ss @lA<|Ss @dr<|Ss @bi @sA
def cZ:=Ss @tf3<|Ss @tf4<|Ss @B6<|Ss @yB<|Ss @bY<|Ss @gk<|Ss @cR<|Ss @bK<|Ss @jL<|Ss @fN<|Ss @lA<|Ss @dr<|Ss @dZ<|Ss @bi<|Ss @sA @yA
set_option maxRecDepth 20000
theorem aA:Si.follows .mixedOrders=Sh:=by kernel_rfl
inductive Ex where
 |mk (op n v:Int) (a:List Ex)
inductive Co where
 |mk (op:Int) (a:List Ex) (c:List Co)
inductive Sm where
 |mk (site op n m v:Int) (x y:Ex) (c:Co) (args:List Ex) (ptrs:List Int) (body els:List Sm)
structure Rg where
 lo:Int
 hi:Int
 mask:Int
structure Ar where
 len:Int
 of:Int
structure Hd where
 id:Int
 firm:Int
 part:Int
 params:List Rg
 given:List Rg
structure Df where
 id:Int
 site:Int
 name:ByteArray
 firm:Int
 part:Int
 params:List Rg
 given:List Rg
 vars:Int
 refs:Int
 arrays:List Ar
 budget:Int
 body:List Sm
structure Qu where
 cap:Int
 r:Rg
structure Dc where
 globals:List Rg
 classes:List Rg
 queues:List Qu
 sinks:List Int
 locks:Int
 parts:Int
 firms:Int
structure Pg where
 d:Dc
 heads:List Hd
 defs:List Df
 threads:List Int
mutual
def Ex.cells:Ex→List D
 |.mk op n v a=>[.int .i64 op,.int .i64 n,.int .i64 v,.slice .none (Ex.encs a)]
def Ex.encs:List Ex→List (List D)
 | []=>[]
 |x::l=>x.cells::Ex.encs l
end
mutual
def Co.cells:Co→List D
 |.mk op a c=>[.int .i64 op,.slice .none (Ex.encs a),.slice .none (Co.encs c)]
def Co.encs:List Co→List (List D)
 | []=>[]
 |x::l=>x.cells::Co.encs l
end
def aj(l:List Int):List (List D):=l.map λx=>[.int .i64 x]
mutual
def Sm.cells:Sm→List D
 |.mk site op n m v x y c args ptrs body els =>
  .int .i64 site::.int .i64 op::.int .i64 n::.int .i64 m::.int .i64 v::(x.cells++(y.cells++(c.cells++[.slice .none (Ex.encs args),.slice .none (aj ptrs),.slice .none (Sm.encs body),.slice .none (Sm.encs els)])))
def Sm.encs:List Sm→List (List D)
 | []=>[]
 |x::l=>x.cells::Sm.encs l
end
def Rg.cells(r:Rg):List D:=[.int .i64 r.lo,.int .i64 r.hi,.int .i64 r.mask]
def aN(l:List Rg):List (List D):=l.map Rg.cells
def Ar.cells(r:Ar):List D:=[.int .i64 r.len,.int .i64 r.of]
def cy(l:List Ar):List (List D):=l.map Ar.cells
def Hd.cells(h:Hd):List D:=[.int .i64 h.id,.int .i64 h.firm,.int .i64 h.part,.slice .none (aN h.params),.slice .none (aN h.given)]
def aO(l:List Hd):List (List D):=l.map Hd.cells
def Df.cells(d:Df):List D:=[.int .i64 d.id,.int .i64 d.site,.str d.name,.int .i64 d.firm,.int .i64 d.part,.slice .none (aN d.params),.slice .none (aN d.given),.int .i64 d.vars,.int .i64 d.refs,
 .slice .none (cy d.arrays),.int .i64 d.budget,.slice .none (Sm.encs d.body)]
def ax(l:List Df):List (List D):=l.map Df.cells
def Qu.cells(q:Qu):List D:=[.int .i64 q.cap,.int .i64 q.r.lo,.int .i64 q.r.hi,.int .i64 q.r.mask]
def dt(l:List Qu):List (List D):=l.map Qu.cells
def Dc.cells(d:Dc):List D:=[.slice .none (aN d.globals),.slice .none (aN d.classes),.slice .none (dt d.queues),.slice .none (aj d.sinks),.int .i64 d.locks,.int .i64 d.parts,.int .i64 d.firms]
def Pg.cells(p:Pg):List D:=p.d.cells++[.slice .none (aO p.heads),.slice .none (ax p.defs),.slice .none (aj p.threads)]
theorem Ex.encs_map(l:List Ex):Ex.encs l=l.map Ex.cells:=by induction l<;>simp_all[Ex.encs]
theorem Co.encs_map(l:List Co):Co.encs l=l.map Co.cells:=by induction l<;>simp_all[Co.encs]
theorem Sm.encs_map(l:List Sm):Sm.encs l=l.map Sm.cells:=by induction l<;>simp_all[Sm.encs]
theorem Ex.cells_len(x:Ex):x.cells.length=4:=by cases x;rfl
theorem Co.cells_len(x:Co):x.cells.length=3:=by cases x;rfl
theorem Sm.cells_len(x:Sm):x.cells.length=20:=by cases x;simp[Sm.cells,Ex.cells_len,Co.cells_len]
theorem Ex.plain(x:Ex):x.cells.map D.plain1=x.cells:=by cases x;rfl
theorem Ex.keep1(x:Ex):x.cells.map D.keep1=x.cells:=by cases x;rfl
theorem Ex.take0(x:Ex):x.cells.take 4=x.cells:=N1 (by rw[Ex.cells_len];decide)
theorem Ex.dropA(x:Ex)(l:List D)(k:Nat):(x.cells++l).drop (k+4)=l.drop k:=by rw[Pe,Ex.cells_len,OR (by rw[Ex.cells_len];omega)];simp
theorem Ex.takeA(x:Ex)(l:List D)(k:Nat):(x.cells++l).take (k+4)=x.cells++l.take k:=by rw[PI,Ex.cells_len,N1 (by rw[Ex.cells_len];omega)];simp
theorem Ex.lenA(x:Ex)(l:List D):(x.cells++l).length=4+l.length:=by rw[K5,Ex.cells_len]
theorem Co.plain(x:Co):x.cells.map D.plain1=x.cells:=by cases x;rfl
theorem Co.keep1(x:Co):x.cells.map D.keep1=x.cells:=by cases x;rfl
theorem Co.take0(x:Co):x.cells.take 3=x.cells:=N1 (by rw[Co.cells_len];decide)
theorem Co.dropA(x:Co)(l:List D)(k:Nat):(x.cells++l).drop (k+3)=l.drop k:=by rw[Pe,Co.cells_len,OR (by rw[Co.cells_len];omega)];simp
theorem Co.takeA(x:Co)(l:List D)(k:Nat):(x.cells++l).take (k+3)=x.cells++l.take k:=by rw[PI,Co.cells_len,N1 (by rw[Co.cells_len];omega)];simp
theorem Co.lenA(x:Co)(l:List D):(x.cells++l).length=3+l.length:=by rw[K5,Co.cells_len]
theorem Sm.plain(x:Sm):x.cells.map D.plain1=x.cells:=by cases x;simp[Sm.cells,Ex.plain,Co.plain,D.plain1]
theorem Sm.keep1(x:Sm):x.cells.map D.keep1=x.cells:=by cases x;simp[Sm.cells,Ex.keep1,Co.keep1,D.keep1]
theorem Sm.take0(x:Sm):x.cells.take 20=x.cells:=N1 (by rw[Sm.cells_len];decide)
theorem Sm.dropA(x:Sm)(l:List D)(k:Nat):(x.cells++l).drop (k+20)=l.drop k:=by rw[Pe,Sm.cells_len,OR (by rw[Sm.cells_len];omega)];simp
theorem Sm.takeA(x:Sm)(l:List D)(k:Nat):(x.cells++l).take (k+20)=x.cells++l.take k:=by rw[PI,Sm.cells_len,N1 (by rw[Sm.cells_len];omega)];simp
theorem Sm.lenA(x:Sm)(l:List D):(x.cells++l).length=20+l.length:=by rw[K5,Sm.cells_len]
theorem Rg.plain(x:Rg):x.cells.map D.plain1=x.cells:=rfl
theorem Rg.keep1(x:Rg):x.cells.map D.keep1=x.cells:=rfl
theorem Rg.cells_len(x:Rg):x.cells.length=3:=rfl
theorem Rg.take0(x:Rg):x.cells.take 3=x.cells:=N1 (by rw[Rg.cells_len];decide)
theorem Rg.dropA(x:Rg)(l:List D)(k:Nat):(x.cells++l).drop (k+3)=l.drop k:=by rw[Pe,Rg.cells_len,OR (by rw[Rg.cells_len];omega)];simp
theorem Rg.takeA(x:Rg)(l:List D)(k:Nat):(x.cells++l).take (k+3)=x.cells++l.take k:=by rw[PI,Rg.cells_len,N1 (by rw[Rg.cells_len];omega)];simp
theorem Rg.lenA(x:Rg)(l:List D):(x.cells++l).length=3+l.length:=by rw[K5,Rg.cells_len]
theorem Ar.plain(x:Ar):x.cells.map D.plain1=x.cells:=rfl
theorem Ar.keep1(x:Ar):x.cells.map D.keep1=x.cells:=rfl
theorem Ar.cells_len(x:Ar):x.cells.length=2:=rfl
theorem Ar.take0(x:Ar):x.cells.take 2=x.cells:=N1 (by rw[Ar.cells_len];decide)
theorem Ar.dropA(x:Ar)(l:List D)(k:Nat):(x.cells++l).drop (k+2)=l.drop k:=by rw[Pe,Ar.cells_len,OR (by rw[Ar.cells_len];omega)];simp
theorem Ar.takeA(x:Ar)(l:List D)(k:Nat):(x.cells++l).take (k+2)=x.cells++l.take k:=by rw[PI,Ar.cells_len,N1 (by rw[Ar.cells_len];omega)];simp
theorem Ar.lenA(x:Ar)(l:List D):(x.cells++l).length=2+l.length:=by rw[K5,Ar.cells_len]
theorem Hd.plain(x:Hd):x.cells.map D.plain1=x.cells:=rfl
theorem Hd.keep1(x:Hd):x.cells.map D.keep1=x.cells:=rfl
theorem Hd.cells_len(x:Hd):x.cells.length=5:=rfl
theorem Hd.take0(x:Hd):x.cells.take 5=x.cells:=N1 (by rw[Hd.cells_len];decide)
theorem Hd.dropA(x:Hd)(l:List D)(k:Nat):(x.cells++l).drop (k+5)=l.drop k:=by rw[Pe,Hd.cells_len,OR (by rw[Hd.cells_len];omega)];simp
theorem Hd.takeA(x:Hd)(l:List D)(k:Nat):(x.cells++l).take (k+5)=x.cells++l.take k:=by rw[PI,Hd.cells_len,N1 (by rw[Hd.cells_len];omega)];simp
theorem Hd.lenA(x:Hd)(l:List D):(x.cells++l).length=5+l.length:=by rw[K5,Hd.cells_len]
theorem Df.plain(x:Df):x.cells.map D.plain1=x.cells:=rfl
theorem Df.keep1(x:Df):x.cells.map D.keep1=x.cells:=rfl
theorem Df.cells_len(x:Df):x.cells.length=12:=rfl
theorem Df.take0(x:Df):x.cells.take 12=x.cells:=N1 (by rw[Df.cells_len];decide)
theorem Df.dropA(x:Df)(l:List D)(k:Nat):(x.cells++l).drop (k+12)=l.drop k:=by rw[Pe,Df.cells_len,OR (by rw[Df.cells_len];omega)];simp
theorem Df.takeA(x:Df)(l:List D)(k:Nat):(x.cells++l).take (k+12)=x.cells++l.take k:=by rw[PI,Df.cells_len,N1 (by rw[Df.cells_len];omega)];simp
theorem Df.lenA(x:Df)(l:List D):(x.cells++l).length=12+l.length:=by rw[K5,Df.cells_len]
theorem Qu.plain(x:Qu):x.cells.map D.plain1=x.cells:=rfl
theorem Qu.keep1(x:Qu):x.cells.map D.keep1=x.cells:=rfl
theorem Qu.cells_len(x:Qu):x.cells.length=4:=rfl
theorem Qu.take0(x:Qu):x.cells.take 4=x.cells:=N1 (by rw[Qu.cells_len];decide)
theorem Qu.dropA(x:Qu)(l:List D)(k:Nat):(x.cells++l).drop (k+4)=l.drop k:=by rw[Pe,Qu.cells_len,OR (by rw[Qu.cells_len];omega)];simp
theorem Qu.takeA(x:Qu)(l:List D)(k:Nat):(x.cells++l).take (k+4)=x.cells++l.take k:=by rw[PI,Qu.cells_len,N1 (by rw[Qu.cells_len];omega)];simp
theorem Qu.lenA(x:Qu)(l:List D):(x.cells++l).length=4+l.length:=by rw[K5,Qu.cells_len]
theorem Dc.plain(x:Dc):x.cells.map D.plain1=x.cells:=rfl
theorem Dc.keep1(x:Dc):x.cells.map D.keep1=x.cells:=rfl
theorem Dc.cells_len(x:Dc):x.cells.length=7:=rfl
theorem Dc.take0(x:Dc):x.cells.take 7=x.cells:=N1 (by rw[Dc.cells_len];decide)
theorem Dc.dropA(x:Dc)(l:List D)(k:Nat):(x.cells++l).drop (k+7)=l.drop k:=by rw[Pe,Dc.cells_len,OR (by rw[Dc.cells_len];omega)];simp
theorem Dc.takeA(x:Dc)(l:List D)(k:Nat):(x.cells++l).take (k+7)=x.cells++l.take k:=by rw[PI,Dc.cells_len,N1 (by rw[Dc.cells_len];omega)];simp
theorem Dc.lenA(x:Dc)(l:List D):(x.cells++l).length=7+l.length:=by rw[K5,Dc.cells_len]
theorem Pg.plain(x:Pg):x.cells.map D.plain1=x.cells:=rfl
theorem Pg.keep1(x:Pg):x.cells.map D.keep1=x.cells:=rfl
theorem Pg.cells_len(x:Pg):x.cells.length=10:=rfl
theorem Pg.take0(x:Pg):x.cells.take 10=x.cells:=N1 (by rw[Pg.cells_len];decide)
theorem Pg.dropA(x:Pg)(l:List D)(k:Nat):(x.cells++l).drop (k+10)=l.drop k:=by rw[Pe,Pg.cells_len,OR (by rw[Pg.cells_len];omega)];simp
theorem Pg.takeA(x:Pg)(l:List D)(k:Nat):(x.cells++l).take (k+10)=x.cells++l.take k:=by rw[PI,Pg.cells_len,N1 (by rw[Pg.cells_len];omega)];simp
theorem Pg.lenA(x:Pg)(l:List D):(x.cells++l).length=10+l.length:=by rw[K5,Pg.cells_len]
def vsT:=Ss @Ex.cells_len<|Ss @Ex.plain<|Ss @Ex.keep1<|Ss @Ex.take0<|Ss @Ex.dropA<|Ss @Ex.takeA<|Ss @Ex.lenA<|Ss @Co.cells_len<|Ss @Co.plain<|Ss @Co.keep1<|Ss @Co.take0<|Ss @Co.dropA<|Ss @Co.takeA<|Ss @Co.lenA<|Ss @Sm.cells_len<|Ss @Sm.plain<|Ss @Sm.keep1<|Ss @Sm.take0<|Ss @Sm.dropA<|Ss @Sm.takeA<|Ss @Sm.lenA<|Ss @Rg.cells_len<|Ss @Rg.plain<|Ss @Rg.keep1<|Ss @Rg.take0<|Ss @Rg.dropA<|Ss @Rg.takeA<|Ss @Rg.lenA<|Ss @Ar.cells_len<|Ss @Ar.plain<|Ss @Ar.keep1<|Ss @Ar.take0<|Ss @Ar.dropA<|Ss @Ar.takeA<|Ss @Ar.lenA<|Ss @Hd.cells_len<|Ss @Hd.plain<|Ss @Hd.keep1<|Ss @Hd.take0<|Ss @Hd.dropA<|Ss @Hd.takeA<|Ss @Hd.lenA<|Ss @Df.cells_len<|Ss @Df.plain<|Ss @Df.keep1<|Ss @Df.take0<|Ss @Df.dropA<|Ss @Df.takeA<|Ss @Df.lenA<|Ss @Qu.cells_len<|Ss @Qu.plain<|Ss @Qu.keep1<|Ss @Qu.take0<|Ss @Qu.dropA<|Ss @Qu.takeA<|Ss @Qu.lenA<|Ss @Dc.cells_len<|Ss @Dc.plain<|Ss @Dc.keep1<|Ss @Dc.take0<|Ss @Dc.dropA<|Ss @Dc.takeA<|Ss @Dc.lenA<|Ss @Pg.cells_len<|Ss @Pg.plain<|Ss @Pg.keep1<|Ss @Pg.take0<|Ss @Pg.dropA<|Ss @Pg.takeA @Pg.lenA
theorem vsRes :
  (∀(P:Sj)(e:List D)(s:St),resD P e s []=Sd []) ∧
  (∀(P:Sj)(e:List D)(s:St)(t:Nat)(rs:List ResultVar),resD P e s (.tmp t::rs)=(resD P e s rs).map λl=>(e.getD t J).plain::l) ∧
  (∀(P:Sj)(e:List D)(s:St)(a T:Nat)(rs:List ResultVar),resD P e s (.cell a T::rs)=(evLoad P T (e.getD a J) s).bind λd=>(resD P e s rs).map λl=>d.plain::l) ∧
  (∀(d:D),kK [d]=d)∧(∀(d d':D)(ds:List D),kK (d::d'::ds)=.tup (d::d'::ds)) ∧
  (∀(α β:Type)(f:α→Option β)(x:α),(Sd x).bind f=f x) ∧
  (∀(l m:List D),(l++m).map D.plain1=l.map D.plain1++m.map D.plain1)∧(∀(l m:List D),(l++m).map D.keep1=l.map D.keep1++m.map D.keep1)∧(∀(l:List D),l++[]=l):=by
 and_intros
 all_goals intros
 all_goals first
  |rfl
  |(simp only[resD];cases evLoad _ _ _ _<;>cases resD _ _ _ _<;>rfl)
  |exact List.map_append
  |exact Oq _
def Ex.op:Ex→Int
 |.mk x _ _ _=>x
def Ex.n:Ex→Int
 |.mk _ x _ _=>x
def Ex.v:Ex→Int
 |.mk _ _ x _=>x
def Ex.a:Ex→List Ex
 |.mk _ _ _ x=>x
def Co.op:Co→Int
 |.mk x _ _=>x
def Co.a:Co→List Ex
 |.mk _ x _=>x
def Co.c:Co→List Co
 |.mk _ _ x=>x
def Sm.site:Sm→Int
 |.mk x _ _ _ _ _ _ _ _ _ _ _=>x
def Sm.op:Sm→Int
 |.mk _ x _ _ _ _ _ _ _ _ _ _=>x
def Sm.n:Sm→Int
 |.mk _ _ x _ _ _ _ _ _ _ _ _=>x
def Sm.m:Sm→Int
 |.mk _ _ _ x _ _ _ _ _ _ _ _=>x
def Sm.v:Sm→Int
 |.mk _ _ _ _ x _ _ _ _ _ _ _=>x
def Sm.x:Sm→Ex
 |.mk _ _ _ _ _ x _ _ _ _ _ _=>x
def Sm.y:Sm→Ex
 |.mk _ _ _ _ _ _ x _ _ _ _ _=>x
def Sm.c:Sm→Co
 |.mk _ _ _ _ _ _ _ x _ _ _ _=>x
def Sm.args:Sm→List Ex
 |.mk _ _ _ _ _ _ _ _ x _ _ _=>x
def Sm.ptrs:Sm→List Int
 |.mk _ _ _ _ _ _ _ _ _ x _ _=>x
def Sm.body:Sm→List Sm
 |.mk _ _ _ _ _ _ _ _ _ _ x _=>x
def Sm.els:Sm→List Sm
 |.mk _ _ _ _ _ _ _ _ _ _ _ x=>x
theorem Rg.f_lo(x:Rg):x.cells[0]?=Sd (.int .i64 x.lo):=rfl
theorem Rg.f_hi(x:Rg):(x.cells.drop 1)[0]?=Sd (.int .i64 x.hi):=rfl
theorem Rg.f_mask(x:Rg):(x.cells.drop 2)[0]?=Sd (.int .i64 x.mask):=rfl
theorem Ar.f_len(x:Ar):x.cells[0]?=Sd (.int .i64 x.len):=rfl
theorem Ar.f_of(x:Ar):(x.cells.drop 1)[0]?=Sd (.int .i64 x.of):=rfl
theorem Hd.f_id(x:Hd):x.cells[0]?=Sd (.int .i64 x.id):=rfl
theorem Hd.f_firm(x:Hd):(x.cells.drop 1)[0]?=Sd (.int .i64 x.firm):=rfl
theorem Hd.f_part(x:Hd):(x.cells.drop 2)[0]?=Sd (.int .i64 x.part):=rfl
theorem Hd.f_params(x:Hd):(x.cells.drop 3)[0]?=Sd (.slice .none (aN x.params)):=rfl
theorem Hd.f_given(x:Hd):(x.cells.drop 4)[0]?=Sd (.slice .none (aN x.given)):=rfl
theorem Df.f_id(x:Df):x.cells[0]?=Sd (.int .i64 x.id):=rfl
theorem Df.f_site(x:Df):(x.cells.drop 1)[0]?=Sd (.int .i64 x.site):=rfl
theorem Df.f_name(x:Df):(x.cells.drop 2)[0]?=Sd (.str x.name):=rfl
theorem Df.f_firm(x:Df):(x.cells.drop 3)[0]?=Sd (.int .i64 x.firm):=rfl
theorem Df.f_part(x:Df):(x.cells.drop 4)[0]?=Sd (.int .i64 x.part):=rfl
theorem Df.f_params(x:Df):(x.cells.drop 5)[0]?=Sd (.slice .none (aN x.params)):=rfl
theorem Df.f_given(x:Df):(x.cells.drop 6)[0]?=Sd (.slice .none (aN x.given)):=rfl
theorem Df.f_vars(x:Df):(x.cells.drop 7)[0]?=Sd (.int .i64 x.vars):=rfl
theorem Df.f_refs(x:Df):(x.cells.drop 8)[0]?=Sd (.int .i64 x.refs):=rfl
theorem Df.f_arrays(x:Df):(x.cells.drop 9)[0]?=Sd (.slice .none (cy x.arrays)):=rfl
theorem Df.f_budget(x:Df):(x.cells.drop 10)[0]?=Sd (.int .i64 x.budget):=rfl
theorem Df.f_body(x:Df):(x.cells.drop 11)[0]?=Sd (.slice .none (Sm.encs x.body)):=rfl
theorem Qu.f_cap(x:Qu):x.cells[0]?=Sd (.int .i64 x.cap):=rfl
theorem Qu.t_r(x:Qu):(x.cells.drop 1).take 3=x.r.cells:=rfl
theorem Qu.f_r_lo(x:Qu):(x.cells.drop 1)[0]?=Sd (.int .i64 x.r.lo):=rfl
theorem Qu.f_r_hi(x:Qu):(x.cells.drop 2)[0]?=Sd (.int .i64 x.r.hi):=rfl
theorem Qu.f_r_mask(x:Qu):(x.cells.drop 3)[0]?=Sd (.int .i64 x.r.mask):=rfl
theorem Dc.f_globals(x:Dc):x.cells[0]?=Sd (.slice .none (aN x.globals)):=rfl
theorem Dc.f_classes(x:Dc):(x.cells.drop 1)[0]?=Sd (.slice .none (aN x.classes)):=rfl
theorem Dc.f_queues(x:Dc):(x.cells.drop 2)[0]?=Sd (.slice .none (dt x.queues)):=rfl
theorem Dc.f_sinks(x:Dc):(x.cells.drop 3)[0]?=Sd (.slice .none (aj x.sinks)):=rfl
theorem Dc.f_locks(x:Dc):(x.cells.drop 4)[0]?=Sd (.int .i64 x.locks):=rfl
theorem Dc.f_parts(x:Dc):(x.cells.drop 5)[0]?=Sd (.int .i64 x.parts):=rfl
theorem Dc.f_firms(x:Dc):(x.cells.drop 6)[0]?=Sd (.int .i64 x.firms):=rfl
theorem Pg.t_d(x:Pg):x.cells.take 7=x.d.cells:=rfl
theorem Pg.f_d_globals(x:Pg):x.cells[0]?=Sd (.slice .none (aN x.d.globals)):=rfl
theorem Pg.f_d_classes(x:Pg):(x.cells.drop 1)[0]?=Sd (.slice .none (aN x.d.classes)):=rfl
theorem Pg.f_d_queues(x:Pg):(x.cells.drop 2)[0]?=Sd (.slice .none (dt x.d.queues)):=rfl
theorem Pg.f_d_sinks(x:Pg):(x.cells.drop 3)[0]?=Sd (.slice .none (aj x.d.sinks)):=rfl
theorem Pg.f_d_locks(x:Pg):(x.cells.drop 4)[0]?=Sd (.int .i64 x.d.locks):=rfl
theorem Pg.f_d_parts(x:Pg):(x.cells.drop 5)[0]?=Sd (.int .i64 x.d.parts):=rfl
theorem Pg.f_d_firms(x:Pg):(x.cells.drop 6)[0]?=Sd (.int .i64 x.d.firms):=rfl
theorem Pg.f_heads(x:Pg):(x.cells.drop 7)[0]?=Sd (.slice .none (aO x.heads)):=rfl
theorem Pg.f_defs(x:Pg):(x.cells.drop 8)[0]?=Sd (.slice .none (ax x.defs)):=rfl
theorem Pg.f_threads(x:Pg):(x.cells.drop 9)[0]?=Sd (.slice .none (aj x.threads)):=rfl
theorem Ex.f_op(x:Ex):x.cells[0]?=Sd (.int .i64 x.op):=by cases x;rfl
theorem Ex.f_n(x:Ex):(x.cells.drop 1)[0]?=Sd (.int .i64 x.n):=by cases x;rfl
theorem Ex.f_v(x:Ex):(x.cells.drop 2)[0]?=Sd (.int .i64 x.v):=by cases x;rfl
theorem Ex.f_a(x:Ex):(x.cells.drop 3)[0]?=Sd (.slice .none (Ex.encs x.a)):=by cases x;rfl
theorem Co.f_op(x:Co):x.cells[0]?=Sd (.int .i64 x.op):=by cases x;rfl
theorem Co.f_a(x:Co):(x.cells.drop 1)[0]?=Sd (.slice .none (Ex.encs x.a)):=by cases x;rfl
theorem Co.f_c(x:Co):(x.cells.drop 2)[0]?=Sd (.slice .none (Co.encs x.c)):=by cases x;rfl
theorem Sm.f_site(x:Sm):x.cells[0]?=Sd (.int .i64 x.site):=by obtain⟨_,_,_,_,_,⟨_,_,_,_⟩,⟨_,_,_,_⟩,⟨_,_,_⟩,_,_,_,_⟩:=x;rfl
theorem Sm.f_op(x:Sm):(x.cells.drop 1)[0]?=Sd (.int .i64 x.op):=by obtain⟨_,_,_,_,_,⟨_,_,_,_⟩,⟨_,_,_,_⟩,⟨_,_,_⟩,_,_,_,_⟩:=x;rfl
theorem Sm.f_n(x:Sm):(x.cells.drop 2)[0]?=Sd (.int .i64 x.n):=by obtain⟨_,_,_,_,_,⟨_,_,_,_⟩,⟨_,_,_,_⟩,⟨_,_,_⟩,_,_,_,_⟩:=x;rfl
theorem Sm.f_m(x:Sm):(x.cells.drop 3)[0]?=Sd (.int .i64 x.m):=by obtain⟨_,_,_,_,_,⟨_,_,_,_⟩,⟨_,_,_,_⟩,⟨_,_,_⟩,_,_,_,_⟩:=x;rfl
theorem Sm.f_v(x:Sm):(x.cells.drop 4)[0]?=Sd (.int .i64 x.v):=by obtain⟨_,_,_,_,_,⟨_,_,_,_⟩,⟨_,_,_,_⟩,⟨_,_,_⟩,_,_,_,_⟩:=x;rfl
theorem Sm.t_x(x:Sm):(x.cells.drop 5).take 4=x.x.cells:=by obtain⟨_,_,_,_,_,⟨_,_,_,_⟩,⟨_,_,_,_⟩,⟨_,_,_⟩,_,_,_,_⟩:=x;rfl
theorem Sm.f_x_op(x:Sm):(x.cells.drop 5)[0]?=Sd (.int .i64 x.x.op):=by obtain⟨_,_,_,_,_,⟨_,_,_,_⟩,⟨_,_,_,_⟩,⟨_,_,_⟩,_,_,_,_⟩:=x;rfl
theorem Sm.f_x_n(x:Sm):(x.cells.drop 6)[0]?=Sd (.int .i64 x.x.n):=by obtain⟨_,_,_,_,_,⟨_,_,_,_⟩,⟨_,_,_,_⟩,⟨_,_,_⟩,_,_,_,_⟩:=x;rfl
theorem Sm.f_x_v(x:Sm):(x.cells.drop 7)[0]?=Sd (.int .i64 x.x.v):=by obtain⟨_,_,_,_,_,⟨_,_,_,_⟩,⟨_,_,_,_⟩,⟨_,_,_⟩,_,_,_,_⟩:=x;rfl
theorem Sm.f_x_a(x:Sm):(x.cells.drop 8)[0]?=Sd (.slice .none (Ex.encs x.x.a)):=by obtain⟨_,_,_,_,_,⟨_,_,_,_⟩,⟨_,_,_,_⟩,⟨_,_,_⟩,_,_,_,_⟩:=x;rfl
theorem Sm.t_y(x:Sm):(x.cells.drop 9).take 4=x.y.cells:=by obtain⟨_,_,_,_,_,⟨_,_,_,_⟩,⟨_,_,_,_⟩,⟨_,_,_⟩,_,_,_,_⟩:=x;rfl
theorem Sm.f_y_op(x:Sm):(x.cells.drop 9)[0]?=Sd (.int .i64 x.y.op):=by obtain⟨_,_,_,_,_,⟨_,_,_,_⟩,⟨_,_,_,_⟩,⟨_,_,_⟩,_,_,_,_⟩:=x;rfl
theorem Sm.f_y_n(x:Sm):(x.cells.drop 10)[0]?=Sd (.int .i64 x.y.n):=by obtain⟨_,_,_,_,_,⟨_,_,_,_⟩,⟨_,_,_,_⟩,⟨_,_,_⟩,_,_,_,_⟩:=x;rfl
theorem Sm.f_y_v(x:Sm):(x.cells.drop 11)[0]?=Sd (.int .i64 x.y.v):=by obtain⟨_,_,_,_,_,⟨_,_,_,_⟩,⟨_,_,_,_⟩,⟨_,_,_⟩,_,_,_,_⟩:=x;rfl
theorem Sm.f_y_a(x:Sm):(x.cells.drop 12)[0]?=Sd (.slice .none (Ex.encs x.y.a)):=by obtain⟨_,_,_,_,_,⟨_,_,_,_⟩,⟨_,_,_,_⟩,⟨_,_,_⟩,_,_,_,_⟩:=x;rfl
theorem Sm.t_c(x:Sm):(x.cells.drop 13).take 3=x.c.cells:=by obtain⟨_,_,_,_,_,⟨_,_,_,_⟩,⟨_,_,_,_⟩,⟨_,_,_⟩,_,_,_,_⟩:=x;rfl
theorem Sm.f_c_op(x:Sm):(x.cells.drop 13)[0]?=Sd (.int .i64 x.c.op):=by obtain⟨_,_,_,_,_,⟨_,_,_,_⟩,⟨_,_,_,_⟩,⟨_,_,_⟩,_,_,_,_⟩:=x;rfl
theorem Sm.f_c_a(x:Sm):(x.cells.drop 14)[0]?=Sd (.slice .none (Ex.encs x.c.a)):=by obtain⟨_,_,_,_,_,⟨_,_,_,_⟩,⟨_,_,_,_⟩,⟨_,_,_⟩,_,_,_,_⟩:=x;rfl
theorem Sm.f_c_c(x:Sm):(x.cells.drop 15)[0]?=Sd (.slice .none (Co.encs x.c.c)):=by obtain⟨_,_,_,_,_,⟨_,_,_,_⟩,⟨_,_,_,_⟩,⟨_,_,_⟩,_,_,_,_⟩:=x;rfl
theorem Sm.f_args(x:Sm):(x.cells.drop 16)[0]?=Sd (.slice .none (Ex.encs x.args)):=by obtain⟨_,_,_,_,_,⟨_,_,_,_⟩,⟨_,_,_,_⟩,⟨_,_,_⟩,_,_,_,_⟩:=x;rfl
theorem Sm.f_ptrs(x:Sm):(x.cells.drop 17)[0]?=Sd (.slice .none (aj x.ptrs)):=by obtain⟨_,_,_,_,_,⟨_,_,_,_⟩,⟨_,_,_,_⟩,⟨_,_,_⟩,_,_,_,_⟩:=x;rfl
theorem Sm.f_body(x:Sm):(x.cells.drop 18)[0]?=Sd (.slice .none (Sm.encs x.body)):=by obtain⟨_,_,_,_,_,⟨_,_,_,_⟩,⟨_,_,_,_⟩,⟨_,_,_⟩,_,_,_,_⟩:=x;rfl
theorem Sm.f_els(x:Sm):(x.cells.drop 19)[0]?=Sd (.slice .none (Sm.encs x.els)):=by obtain⟨_,_,_,_,_,⟨_,_,_,_⟩,⟨_,_,_,_⟩,⟨_,_,_⟩,_,_,_,_⟩:=x;rfl
def vsF:=Ss @Rg.f_lo<|Ss @Rg.f_hi<|Ss @Rg.f_mask<|Ss @Ar.f_len<|Ss @Ar.f_of<|Ss @Hd.f_id<|Ss @Hd.f_firm<|Ss @Hd.f_part<|Ss @Hd.f_params<|Ss @Hd.f_given<|Ss @Df.f_id<|Ss @Df.f_site<|Ss @Df.f_name<|Ss @Df.f_firm<|Ss @Df.f_part<|Ss @Df.f_params<|Ss @Df.f_given<|Ss @Df.f_vars<|Ss @Df.f_refs<|Ss @Df.f_arrays<|Ss @Df.f_budget<|Ss @Df.f_body<|Ss @Qu.f_cap<|Ss @Qu.t_r<|Ss @Qu.f_r_lo<|Ss @Qu.f_r_hi<|Ss @Qu.f_r_mask<|Ss @Dc.f_globals<|Ss @Dc.f_classes<|Ss @Dc.f_queues<|Ss @Dc.f_sinks<|Ss @Dc.f_locks<|Ss @Dc.f_parts<|Ss @Dc.f_firms<|Ss @Pg.t_d<|Ss @Pg.f_d_globals<|Ss @Pg.f_d_classes<|Ss @Pg.f_d_queues<|Ss @Pg.f_d_sinks<|Ss @Pg.f_d_locks<|Ss @Pg.f_d_parts<|Ss @Pg.f_d_firms<|Ss @Pg.f_heads<|Ss @Pg.f_defs<|Ss @Pg.f_threads<|Ss @Ex.f_op<|Ss @Ex.f_n<|Ss @Ex.f_v<|Ss @Ex.f_a<|Ss @Co.f_op<|Ss @Co.f_a<|Ss @Co.f_c<|Ss @Sm.f_site<|Ss @Sm.f_op<|Ss @Sm.f_n<|Ss @Sm.f_m<|Ss @Sm.f_v<|Ss @Sm.t_x<|Ss @Sm.f_x_op<|Ss @Sm.f_x_n<|Ss @Sm.f_x_v<|Ss @Sm.f_x_a<|Ss @Sm.t_y<|Ss @Sm.f_y_op<|Ss @Sm.f_y_n<|Ss @Sm.f_y_v<|Ss @Sm.f_y_a<|Ss @Sm.t_c<|Ss @Sm.f_c_op<|Ss @Sm.f_c_a<|Ss @Sm.f_c_c<|Ss @Sm.f_args<|Ss @Sm.f_ptrs<|Ss @Sm.f_body @Sm.f_els
structure Fd where
 bytes:List Int
 dc:Dc
 heads:List Hd
 defs:List Df
 threads:List Int
 d:Df
structure Fx extends Fd where
 oh:Own
 od:Own
 ot:Own
 op:Own
 og:Own
 oa:Own
 ob:Own
instance:Coe Fx Fd:=⟨Fx.toFd⟩
structure Mk where
 pos:Int
 site:Int
 left:Int
 loop:Int
 done:Int
def byteCells(l:List Int):List (List D):=l.map λx=>[.int .u8 x]
def Fx.cells(f:Fx)(m:Mk):List D:=
  [.slice .none (byteCells f.bytes),.int .i64 m.pos,.slice .none (aN f.dc.globals),.slice .none (aN f.dc.classes),.slice .none (dt f.dc.queues),.slice .none (aj f.dc.sinks),.int .i64 f.dc.locks,.int .i64 f.dc.parts,.int .i64 f.dc.firms,
   .slice f.oh (aO f.heads),.slice f.od (ax f.defs),.slice f.ot (aj f.threads),
   .int .i64 f.d.id,.int .i64 f.d.site,.str f.d.name,.int .i64 f.d.firm,.int .i64 f.d.part,.slice f.op (aN f.d.params),.slice f.og (aN f.d.given),.int .i64 f.d.vars,.int .i64 f.d.refs,.slice f.oa (cy f.d.arrays),.int .i64 f.d.budget,.slice f.ob (Sm.encs f.d.body),
   .int .i64 m.site,.int .i64 m.left,.int .i64 m.loop,.int .i64 m.done,.bool Se]
theorem vsX :
  (∀(B l:List Box)(x:Box),(B++x::l)[B.length]?=Sd x) ∧
  (∀(B l:List Box)(x y:Box),(B++x::l).set B.length y=B++y::l) ∧
  (∀(α β:Type)(f:α→β)(x:α),Option.map f (Sd x)=Sd (f x)) ∧
  (∀(α:Type)(x:α)(l:List α)(n:Nat),(x::l).drop (n+1)=l.drop n)∧(∀(α:Type)(l:List α),l.drop 0=l) ∧
  (∀(α:Type)(x:α)(l:List α)(n:Nat),(x::l).take (n+1)=x::l.take n)∧(∀(α:Type)(l:List α),l.take 0=[]) ∧
  (∀(α:Type)(x:α)(l:List α),(x::l).length=l.length+1)∧(∀(α:Type),([]:List α).length=0) ∧
  (∀(α:Type)(x:α)(l m:List α),(x::l)++m=x::(l++m))∧(∀(α:Type)(m:List α),[]++m=m) ∧
  (∀(α:Type)(x:α)(l:List α),(x::l)[0]?=Sd x)∧(∀(α:Type)(x:α)(l:List α)(n:Nat),(x::l)[n+1]?=l[n]?) ∧
  (∀(B l:List Box)(k:Nat),(B++l)[B.length+k]?=l[k]?)∧(∀(B l:List Box)(k:Nat)(x:Box),(B++l).set (B.length+k) x=B++l.set k x) ∧
  (∀(B l m:List Box),(B++l)++m=B++(l++m))∧(∀(B l:List Box),(B++l).length=B.length+l.length) ∧
  (∀(x y:Box)(l:List Box),(x::l).set 0 y=y::l)∧(∀(x y:Box)(l:List Box)(n:Nat),(x::l).set (n+1) y=x::l.set n y) ∧
  (∀(α:Type)(n:Nat)(x:α),Oi (n+1) x=x::Oi n x)∧(∀(α:Type)(x:α),Oi 0 x=[]):=by
 and_intros
 all_goals intros
 all_goals first
  |rfl
  |with_unfolding_all rfl
  |exact bL
  |exact ji
  |exact bq
  |exact iU
  |exact List.append_assoc _ _ _
  |exact K5
theorem mk0:∀(f:Fx)(m:Mk),(f.cells m).length=29:=λ_ _=>rfl
theorem mk1:∀(f:Fx)(m:Mk),(f.cells m)[0]?=Sd (.slice .none (byteCells f.bytes)):=λ_ _=>rfl
theorem mk2:∀(f:Fx)(m:Mk),((f.cells m).drop 1)[0]?=Sd (.int .i64 m.pos):=λ_ _=>rfl
theorem mk3:∀(f:Fx)(m:Mk),((f.cells m).drop 2)[0]?=Sd (.slice .none (aN f.dc.globals)):=λ_ _=>rfl
theorem mk4:∀(f:Fx)(m:Mk),((f.cells m).drop 3)[0]?=Sd (.slice .none (aN f.dc.classes)):=λ_ _=>rfl
theorem mk5:∀(f:Fx)(m:Mk),((f.cells m).drop 4)[0]?=Sd (.slice .none (dt f.dc.queues)):=λ_ _=>rfl
theorem mk6:∀(f:Fx)(m:Mk),((f.cells m).drop 5)[0]?=Sd (.slice .none (aj f.dc.sinks)):=λ_ _=>rfl
theorem mk7:∀(f:Fx)(m:Mk),((f.cells m).drop 6)[0]?=Sd (.int .i64 f.dc.locks):=λ_ _=>rfl
theorem mk8:∀(f:Fx)(m:Mk),((f.cells m).drop 7)[0]?=Sd (.int .i64 f.dc.parts):=λ_ _=>rfl
theorem mk9:∀(f:Fx)(m:Mk),((f.cells m).drop 8)[0]?=Sd (.int .i64 f.dc.firms):=λ_ _=>rfl
theorem mk10:∀(f:Fx)(m:Mk),((f.cells m).drop 9)[0]?=Sd (.slice f.oh (aO f.heads)):=λ_ _=>rfl
theorem mk11:∀(f:Fx)(m:Mk),((f.cells m).drop 10)[0]?=Sd (.slice f.od (ax f.defs)):=λ_ _=>rfl
theorem mk12:∀(f:Fx)(m:Mk),((f.cells m).drop 11)[0]?=Sd (.slice f.ot (aj f.threads)):=λ_ _=>rfl
theorem mk13:∀(f:Fx)(m:Mk),((f.cells m).drop 12)[0]?=Sd (.int .i64 f.d.id):=λ_ _=>rfl
theorem mk14:∀(f:Fx)(m:Mk),((f.cells m).drop 13)[0]?=Sd (.int .i64 f.d.site):=λ_ _=>rfl
theorem mk15:∀(f:Fx)(m:Mk),((f.cells m).drop 14)[0]?=Sd (.str f.d.name):=λ_ _=>rfl
theorem mk16:∀(f:Fx)(m:Mk),((f.cells m).drop 15)[0]?=Sd (.int .i64 f.d.firm):=λ_ _=>rfl
theorem mk17:∀(f:Fx)(m:Mk),((f.cells m).drop 16)[0]?=Sd (.int .i64 f.d.part):=λ_ _=>rfl
theorem mk18:∀(f:Fx)(m:Mk),((f.cells m).drop 17)[0]?=Sd (.slice f.op (aN f.d.params)):=λ_ _=>rfl
theorem mk19:∀(f:Fx)(m:Mk),((f.cells m).drop 18)[0]?=Sd (.slice f.og (aN f.d.given)):=λ_ _=>rfl
theorem mk20:∀(f:Fx)(m:Mk),((f.cells m).drop 19)[0]?=Sd (.int .i64 f.d.vars):=λ_ _=>rfl
theorem mk21:∀(f:Fx)(m:Mk),((f.cells m).drop 20)[0]?=Sd (.int .i64 f.d.refs):=λ_ _=>rfl
theorem mk22:∀(f:Fx)(m:Mk),((f.cells m).drop 21)[0]?=Sd (.slice f.oa (cy f.d.arrays)):=λ_ _=>rfl
theorem mk23:∀(f:Fx)(m:Mk),((f.cells m).drop 22)[0]?=Sd (.int .i64 f.d.budget):=λ_ _=>rfl
theorem mk24:∀(f:Fx)(m:Mk),((f.cells m).drop 23)[0]?=Sd (.slice f.ob (Sm.encs f.d.body)):=λ_ _=>rfl
theorem mk25:∀(f:Fx)(m:Mk),((f.cells m).drop 24)[0]?=Sd (.int .i64 m.site):=λ_ _=>rfl
theorem mk26:∀(f:Fx)(m:Mk),((f.cells m).drop 25)[0]?=Sd (.int .i64 m.left):=λ_ _=>rfl
theorem mk27:∀(f:Fx)(m:Mk),((f.cells m).drop 26)[0]?=Sd (.int .i64 m.loop):=λ_ _=>rfl
theorem mk28:∀(f:Fx)(m:Mk),((f.cells m).drop 27)[0]?=Sd (.int .i64 m.done):=λ_ _=>rfl
theorem mk29:∀(f:Fx)(m:Mk),((f.cells m).drop 28)[0]?=Sd (.bool Se):=λ_ _=>rfl
theorem mk30:∀(f:Fx)(m:Mk)(n:Int),(f.cells m).take 1++(.int .i64 n::(f.cells m).drop 2)=f.cells {m with pos:=n}:=λ_ _ _=>rfl
theorem mk31:∀(f:Fx)(m:Mk)(n:Int),(f.cells m).take 24++(.int .i64 n::(f.cells m).drop 25)=f.cells {m with site:=n}:=λ_ _ _=>rfl
theorem mk32:∀(f:Fx)(m:Mk)(n:Int),(f.cells m).take 25++(.int .i64 n::(f.cells m).drop 26)=f.cells {m with left:=n}:=λ_ _ _=>rfl
theorem mk33:∀(f:Fx)(m:Mk)(n:Int),(f.cells m).take 26++(.int .i64 n::(f.cells m).drop 27)=f.cells {m with loop:=n}:=λ_ _ _=>rfl
theorem mk34:∀(f:Fx)(m:Mk)(n:Int),(f.cells m).take 27++(.int .i64 n::(f.cells m).drop 28)=f.cells {m with done:=n}:=λ_ _ _=>rfl
def vsMk:=Ss @mk0<|Ss @mk1<|Ss @mk2<|Ss @mk3<|Ss @mk4<|Ss @mk5<|Ss @mk6<|Ss @mk7<|Ss @mk8<|Ss @mk9<|Ss @mk10<|Ss @mk11<|Ss @mk12<|Ss @mk13<|Ss @mk14<|Ss @mk15<|Ss @mk16<|Ss @mk17<|Ss @mk18<|Ss @mk19<|Ss @mk20<|Ss @mk21<|Ss @mk22<|Ss @mk23<|Ss @mk24<|Ss @mk25<|Ss @mk26<|Ss @mk27<|Ss @mk28<|Ss @mk29<|Ss @mk30<|Ss @mk31<|Ss @mk32<|Ss @mk33 @mk34
theorem aV{nb nl:Nat}{xs:List (List D)}(h:∀x∈xs,∀d∈x,Bd nb nl d):Bd nb nl (.slice .none xs):=
 .slice _ _ (λk z e=>by cases e) λi j hi hj=>h _ (NY hi) _ (NY hj)
theorem aL{nb nl:Nat}{cs:List D}(h:∀d∈cs,Bd nb nl d):Bd nb nl (.agg cs):=.agg _ λi hi=>h _ (NY hi)
mutual
theorem Ex.bd{nb nl:Nat}:(x:Ex)→∀d∈x.cells,Bd nb nl d
 |.mk op n v a=>by
  intro d hd;simp only[Ex.cells,NX,Ot,or_false]at hd;rcases hd with rfl|rfl|rfl|rfl
  ·exact .int _ _
  ·exact .int _ _
  ·exact .int _ _
  ·exact aV (Ex.bds a)
theorem Ex.bds{nb nl:Nat}:(l:List Ex)→∀x∈Ex.encs l,∀d∈x,Bd nb nl d
 | []=>by intro x hx;simp[Ex.encs]at hx
 |y::l=>by
  intro x hx;simp only[Ex.encs,NX]at hx;rcases hx with rfl|hx
  ·exact Ex.bd y
  ·exact Ex.bds l x hx
end
mutual
theorem Co.bd{nb nl:Nat}:(x:Co)→∀d∈x.cells,Bd nb nl d
 |.mk op a c=>by
  intro d hd;simp only[Co.cells,NX,Ot,or_false]at hd;rcases hd with rfl|rfl|rfl
  ·exact .int _ _
  ·exact aV (Ex.bds a)
  ·exact aV (Co.bds c)
theorem Co.bds{nb nl:Nat}:(l:List Co)→∀x∈Co.encs l,∀d∈x,Bd nb nl d
 | []=>by intro x hx;simp[Co.encs]at hx
 |y::l=>by
  intro x hx;simp only[Co.encs,NX]at hx;rcases hx with rfl|hx
  ·exact Co.bd y
  ·exact Co.bds l x hx
end
theorem xk{nb nl:Nat}{k:IntKind}{l:List Int}:∀x∈l.map (λx=>[D.int k x]),∀d∈x,Bd nb nl d:=by
 intro x hx d hd;obtain⟨y,_,rfl⟩:=Og.1 hx;simp only[List.mem_singleton]at hd;subst hd;exact .int _ _
mutual
theorem Sm.bd{nb nl:Nat}:(x:Sm)→∀d∈x.cells,Bd nb nl d
 |.mk site op n m v x y c args ptrs body els=>by
  intro d hd;simp only[Sm.cells,NX,List.mem_append,Ot,or_false]at hd;rcases hd with rfl|rfl|rfl|rfl|rfl|hd|hd|hd|rfl|rfl|rfl|rfl
  ·exact .int _ _
  ·exact .int _ _
  ·exact .int _ _
  ·exact .int _ _
  ·exact .int _ _
  ·exact Ex.bd x d hd
  ·exact Ex.bd y d hd
  ·exact Co.bd c d hd
  ·exact aV (Ex.bds args)
  ·exact aV xk
  ·exact aV (Sm.bds body)
  ·exact aV (Sm.bds els)
theorem Sm.bds{nb nl:Nat}:(l:List Sm)→∀x∈Sm.encs l,∀d∈x,Bd nb nl d
 | []=>by intro x hx;simp[Sm.encs]at hx
 |y::l=>by
  intro x hx;simp only[Sm.encs,NX]at hx;rcases hx with rfl|hx
  ·exact Sm.bd y
  ·exact Sm.bds l x hx
end
theorem Fx.sub{nb nl:Nat}(f:Fx)(m m':Mk):∀d∈f.cells m',d∈f.cells m∨Bd nb nl d:=by
 intro d hd;simp only[Fx.cells,NX,Ot,or_false]at hd⊢;rcases hd with rfl|rfl|rfl|rfl|rfl|rfl|rfl|rfl|rfl|rfl|rfl|rfl|rfl|rfl|rfl|rfl|rfl|rfl|rfl|rfl|rfl|rfl|rfl|rfl|rfl|rfl|rfl|rfl|rfl<;>first
  |exact .inr (.int _ _)
  |exact .inr (.bool _)
  |(left;simp only[true_or,or_true])
theorem jY{B T X:List Box}{L L':List Nat}{c c':Nat}{x y:Box}(h:∀nb,sameLoop nb c x y)(hl:∀k,k∈L→k∈L')(hc:c≤c'):Leave ⟨B++x::T,L,c⟩ ⟨B++y::(T++X),L',c'⟩ ⟨B++y::T,L,c⟩ where
 len:=by simp
 pre:=λi bx hi=>by
  have:(B++y::T)[i]?=Sd bx:=hi
  have hlt:i<(B++y::T).length:=by
   rcases Nat.lt_or_ge i (B++y::T).length with q|q
   ·exact q
   ·rw[Oz q]at this;cases this
  show(B++y::(T++X))[i]?=Sd bx;rw[show B++y::(T++X)=(B++y::T)++X by simp,Ou hlt];exact this
 old:=λi bx hi=>by
  have hi:(B++y::T)[i]?=Sd bx:=hi;show(B++x::T)[i]?=Sd bx∨_;rcases Nat.lt_trichotomy i B.length with q|q|q
  ·rw[Ou q]at hi⊢;exact .inl hi
  ·subst q;rw[bL]at hi;cases hi;exact .inr (.inr ⟨x,bL,h _⟩)
  ·left;rw[List.getElem?_append_right (by omega)]at hi⊢;obtain⟨k,hk⟩:∃k,i-B.length=k+1:=⟨i-B.length-1,by omega⟩;rw[hk]at hi⊢;exact hi
 slen:=by simp
 live:=λk hk=>⟨hl k hk,.inl hk⟩
 ctr:=K6 _
 ctr':=hc
 nd:=.inl rfl
theorem bE{P:Sj}{rs:List ResultVar}{f:Fx}{m m' m1:Mk}{B T X:List Box}{L L':List Nat}{c c':Nat}{r:D}{e:List D}{x:Exit}(hx:x=.normal∨x=.ret)(h1:(resD P e ⟨B++.cells (f.cells m1)::(T++X),L',c'⟩ rs).map kK=Sd r)(hb:Bd 0 0 r)
  (hm:m1=m') (hl:∀k,k∈L→k∈L') (hc:c≤c'):@qI x e ⟨B++.cells (f.cells m1)::(T++X),L',c'⟩ (lT P rs ⟨B++.cells (f.cells m)::T,L,c⟩ r ⟨B++.cells (f.cells m')::T,L,c⟩):=by
 subst hm;unfold lT;obtain⟨ds,h1,h2⟩:=Ox.1 h1;rcases hx with rfl|rfl<;>exact⟨ds,h1,h2,jY (λnb=>f.sub m m1) hl hc,hb.mono (L7 _) (L7 _)⟩
theorem gY{P:Sj}{rs:List ResultVar}{f:Fx}{m m' m1:Mk}{B T:List Box}{L:List Nat}{c:Nat}{r:D}{e:List D}{x:Exit}(hx:x=.normal∨x=.ret)(h1:(resD P e ⟨B++.cells (f.cells m1)::T,L,c⟩ rs).map kK=Sd r)(hb:Bd 0 0 r)
  (hm:m1=m'):@qI x e ⟨B++.cells (f.cells m1)::T,L,c⟩ (lT P rs ⟨B++.cells (f.cells m)::T,L,c⟩ r ⟨B++.cells (f.cells m')::T,L,c⟩):=by
 have:=bE (X:=[]) (P:=P) (rs:=rs) (f:=f) (m:=m) (m':=m') (m1:=m1) (B:=B) (T:=T) (L:=L) (L':=L) (c:=c) (c':=c) (r:=r) (e:=e) hx (by simpa using h1) hb hm (λ_ h=>h) (K6 _)
 simpa using this
theorem ao{P:Sj}{rs:List ResultVar}{B X:List Box}{L L':List Nat}{c c':Nat}{r:D}{e:List D}{x:Exit}(hx:x=.normal∨x=.ret)(h1:(resD P e ⟨B++X,L',c'⟩ rs).map kK=Sd r)(hb:Bd 0 0 r)(hl:∀k,k∈L→k∈L')(hc:c≤c') :
  @qI x e ⟨B++X,L',c'⟩ (lT P rs ⟨B,L,c⟩ r ⟨B,L,c⟩):=by
 obtain⟨ds,h1,h2⟩:=Ox.1 h1;exact Gi hx h1 h2 hb hl hc
theorem aJ{P:Sj}{rs:List ResultVar}{s:St}{r:D}{e:List D}{x:Exit}(hx:x=.normal∨x=.ret)(h1:(resD P e s rs).map kK=Sd r)(hb:Bd 0 0 r) :
  @qI x e s (lT P rs s r s):=by
 obtain⟨ds,h1,h2⟩:=Ox.1 h1;exact Gg hx h1 h2 hb
theorem SB{P:Sj}{rs:List ResultVar}{B X:List Box}{L:List Nat}{c:Nat}{r:D}{e:List D}(h:(resD P e ⟨B++X,L,c⟩ rs).map kK=Sd r)(hb:Bd 0 0 r):@qI .ret e ⟨B++X,L,c⟩ (lT P rs ⟨B,L,c⟩ r ⟨B,L,c⟩):=ao (.inr rfl) h hb (λ_ h=>h) (Nat.le_refl _)
theorem SC{P:Sj}{rs:List ResultVar}{s:St}{r:D}{e:List D}(h:(resD P e s rs).map kK=Sd r)(hb:Bd 0 0 r):@qI .ret e s (lT P rs s r s):=aJ (.inr rfl) h hb
def rnd(l:List Int)(p n:Int):Int:=match l[p.toNat]? with
 |some x=>x.tmod n
 |none=>0
def rX(f:Fd):Prop:=∀x∈f.bytes,0≤x∧x<256
theorem aP{l:List Int}{p n:Int}(h:∀x∈l,0≤x∧x<256):0≤rnd l p n:=by
 unfold rnd;split
 ·rename_i x hx;exact Qy _ (h _ (List.mem_of_getElem? hx)).1
 ·omega
theorem bO{l:List Int}{p n:Int}(hn:0<n):rnd l p n<n:=by
 unfold rnd;split
 ·exact Qj _ hn
 ·omega
theorem be(f:Fx)(m:Mk)(n:Int)(B T:List Box)(L:List Nat)(c:Nat)(hn:0<n)(hp:0≤m.pos∧m.pos≤1000000)(hb:rX f) :
  az Si 127 [.box B.length 0,.int .i64 n] ⟨B++.cells (f.cells m)::T,L,c⟩ (.int .i64 (rnd f.bytes m.pos n)) ⟨B++.cells (f.cells {m with pos:=m.pos+1})::T,L,c⟩:=by
 refine az.introN [] func127 rfl (by decide) aA (by kernel_rfl) [Sy 4] 36 rfl rfl ?_;simp only[vq,tf3,tf5,KU,fF,vsX,zA,zS,zL,vsMk];rw[aK (by omega)];have hlen:(byteCells f.bytes).length=f.bytes.length:=by simp[byteCells]
 refine am (λhc=>?_) (λhc=>?_)
 ·simp only[vq];refine gY (.inr rfl) ?_ (.int _ _) rfl;simp only[decide_eq_true_eq,hlen]at hc;have hx:f.bytes[m.pos.toNat]?=Sf:=Oz (by omega);simp only[rnd,hx];rfl
 ·simp only[decide_eq_false_iff_not,hlen]at hc;have hlt:m.pos.toNat<f.bytes.length:=by omega
  have hx:=K4 hlt;have hw:SA.wrap (m.pos+1-1)=m.pos:=by rw[aK (by omega)];omega
  have hg:(byteCells f.bytes)[m.pos.toNat]?=Sd [.int .u8 f.bytes[m.pos.toNat]]:=by simp[byteCells,hx]
  have hq:=hb _ (NY hlt);have hw2:SA.wrap f.bytes[m.pos.toNat]=f.bytes[m.pos.toNat]:=aK (by omega);have hn0:n≠0:=by omega
  have hp0:=hp.1;simp only[vq,tf3,tf5,KU,fF,vsX,zA,vsMk,hw,hg,hw2,hn0,hp0];refine gY (.inr rfl) ?_ (.int _ _) rfl;simp only[rnd,hx];rfl
def vqR:=And.intro vq (And.intro vsX (And.intro vsT (And.intro vsF vsRes)))
def vqM:=And.intro vqR (And.intro vsMk Int.natCast_zero)
def num(v:Int):Ex:=.mk 1 0 v []
def var(n:Int):Ex:=.mk 2 n 0 []
def bin(op:Int)(a b:Ex):Ex:=.mk op 0 0 [a,b]
def IQ(op:Int)(a b:Ex):Co:=.mk op [a,b] []
def Kv(c:Co):Co:=.mk 5 [] [c]
theorem uZ(v:Int)(s:St):az Si 131 [.int .i64 v] s (.agg (num v).cells) s:=by
 obtain⟨B,L,c⟩:=s;refine az.introN [] func131 rfl (by decide) aA (by kernel_rfl) [Sz 2 124] 5 rfl rfl ?_;simp only[vqR,zA,zS,zL,bT];refine SB ?_ (aL (Ex.bd _));simp only[vqR,zA,bT,num,Ex.cells,Ex.encs]
theorem NG(v:Int)(s:St):az Si 291 [.int .i64 v] s (.agg (var v).cells) s:=by
 obtain⟨B,L,c⟩:=s;refine az.introN [] func291 rfl (by decide) aA (by kernel_rfl) [Sz 2 124] 5 rfl rfl ?_;simp only[vqR,zA,zS,zL,bT];refine SB ?_ (aL (Ex.bd _));simp only[vqR,zA,bT,var,Ex.cells,Ex.encs]
theorem KY(op:Int)(a b:Ex)(s:St):az Si 292 [.int .i64 op,.agg a.cells,.agg b.cells] s (.agg (bin op a b).cells) s:=by
 obtain⟨B,L,c⟩:=s;refine az.introN [] func292 rfl (by decide) aA (by kernel_rfl) [Sz 6 124] 12 rfl rfl ?_;simp only[vqR,dk,bT,zA,zS,zM,zL];refine SB ?_ (aL (Ex.bd _));simp only[vqR,dk,bT,zA,bin,Ex.cells,Ex.encs]
theorem BG(op:Int)(a b:Ex)(s:St):az Si 289 [.int .i64 op,.agg a.cells,.agg b.cells] s (.agg (IQ op a b).cells) s:=by
 obtain⟨B,L,c⟩:=s;refine az.introN [] func289 rfl (by decide) aA (by kernel_rfl) [Sz 6 128] 12 rfl rfl ?_;simp only[vqR,dk,bT,eO,zA,zS,zM,zL];refine SB ?_ (aL (Co.bd _));simp only[vqR,dk,bT,eO,zA,IQ,Co.cells,Co.encs,Ex.encs]
theorem NI(a:Co)(s:St):az Si 290 [.agg a.cells] s (.agg (Kv a).cells) s:=by
 obtain⟨B,L,c⟩:=s;refine az.introN [] func290 rfl (by decide) aA (by kernel_rfl) [Sz 2 128] 6 rfl rfl ?_;simp only[vqR,kN,eO,zA,zS,zM,zL];refine SB ?_ (aL (Co.bd _));simp only[vqR,kN,eO,zA,Kv,Co.cells,Co.encs,Ex.encs]
theorem jF(f:Fx)(m:Mk)(B T:List Box)(L:List Nat)(c:Nat)(hp:0≤m.site∧m.site≤1000000) :
  az Si 173 [.box B.length 0] ⟨B++.cells (f.cells m)::T,L,c⟩ (.int .i64 (m.site+1)) ⟨B++.cells (f.cells {m with site:=m.site+1})::T,L,c⟩:=by
 refine az.introN [] func173 rfl (by decide) aA (by kernel_rfl) [Sy 2] 14 rfl rfl ?_;have hw:SA.wrap (m.site+1)=m.site+1:=aK (by omega);simp only[vqR,tf3,fF,zA,zS,zL,vsMk,hw];refine gY (.inr rfl) ?_ (.int _ _) rfl;simp only[vqR]
def targ(f:Fd)(m:Mk):Int:=f.d.params.length+rnd f.bytes m.pos (f.d.vars-f.d.params.length)
structure FxV (f:Fd):Prop where
 ok:rX f
 par:f.d.params.length≤100
 vars:f.d.params.length<f.d.vars∧f.d.vars≤1000
theorem au(l:List Rg):(aN l).length=l.length:=by simp[aN]
theorem ak(l:List Ar):(cy l).length=l.length:=by simp[cy]
theorem aw(l:List Hd):(aO l).length=l.length:=by simp[aO]
theorem ah(l:List Df):(ax l).length=l.length:=by simp[ax]
theorem ab(l:List Int):(aj l).length=l.length:=by simp[aj]
theorem eR(f:Fx)(m:Mk)(B T:List Box)(L:List Nat)(c:Nat)(hf:FxV f)(hp:0≤m.pos∧m.pos≤1000000) :
  az Si 270 [.box B.length 0] ⟨B++.cells (f.cells m)::T,L,c⟩ (.int .i64 (targ f m)) ⟨B++.cells (f.cells {m with pos:=m.pos+1})::T,L,c⟩:=by
 have h1:=hf.vars;have h2:=hf.par;have hw:SA.wrap (f.d.vars-f.d.params.length)=f.d.vars-f.d.params.length:=aK (by omega);have hr1:0≤rnd f.bytes m.pos (f.d.vars-f.d.params.length):=aP hf.ok;have hr2:rnd f.bytes m.pos (f.d.vars-f.d.params.length)<(f.d.vars-f.d.params.length):=bO (by omega);have hw2:SA.wrap (f.d.params.length+rnd f.bytes m.pos (f.d.vars-f.d.params.length))=targ f m:=aK (by omega);refine az.introN [(1,.text [Se,Se,Se,Se,Se,Se,Se,Se,Se,Se,Se,Se,Se,Se,Se,Se,Se,Se,Se,Sh,Se,Se] [(4,1),(5,1)])] func270 rfl (by decide) aA (by kernel_rfl) [Sy 2] 24 rfl rfl ?_;simp only[vqR,tf3,eo,bi,bS,fF,zA,zS,zB,vsMk,au,hw];refine aa (be f m _ B T L c (by omega) hp hf.ok) ?_;simp only[vqR,tf3,eo,bi,bS,fF,vsMk,au,hw2];refine gY (.inr rfl) ?_ (.int _ _) rfl;simp only[vqR]
def expr(f:Fd):Nat→Mk→Ex×Mk
 |0,m=>(num (rnd f.bytes (m.pos+1) 14-3),{m with pos:=m.pos+1+1})
 |d+1,m =>
  if rnd f.bytes m.pos 12<4 then(num (rnd f.bytes (m.pos+1) 14-3),{m with pos:=m.pos+1+1})
  else if rnd f.bytes m.pos 12<9 then(var (rnd f.bytes (m.pos+1) f.d.vars),{m with pos:=m.pos+1+1})
  else if rnd f.bytes m.pos 12=9∧0<f.d.arrays.length then(.mk 3 (rnd f.bytes (m.pos+1) f.d.arrays.length) 0 [],{m with pos:=m.pos+1+1})
  else(bin (4+rnd f.bytes (m.pos+1) 7) (expr f d {m with pos:=m.pos+1+1}).1 (expr f d (expr f d {m with pos:=m.pos+1+1}).2).1,(expr f d (expr f d {m with pos:=m.pos+1+1}).2).2)
def ecost:Nat→Nat
 |0=>2
 |d+1=>2+2*ecost d
theorem bn(f:Fd):∀(d:Nat)(m:Mk),∃p,(expr f d m).2={m with pos:=p}∧m.pos≤p∧p≤m.pos+ecost d:=by
 intro d;induction d with
 |zero=>intro m;exact⟨_,rfl,by omega,by simp only[ecost];omega⟩
 |succ d ih =>
  intro m;have he:2≤ecost d:=by cases d<;>simp only[ecost]<;>omega
  unfold expr;split
  ·exact⟨_,rfl,by omega,by simp only[ecost];omega⟩
  ·split
   ·exact⟨_,rfl,by omega,by simp only[ecost];omega⟩
   ·split
    ·exact⟨_,rfl,by omega,by simp only[ecost];omega⟩
    ·obtain⟨p,h1,h2,h3⟩:=ih {m with pos:=m.pos+1+1};obtain⟨q,h4,h5,h6⟩:=ih {m with pos:=p};simp only at h2 h3 h5 h6;refine⟨q,?_,by omega,by simp only[ecost];omega⟩;simp only[h1,h4]
theorem eC(f:Fx)(hf:FxV f)(ha:f.d.arrays.length≤1000):∀(d:Nat)(m:Mk)(B T:List Box)(L:List Nat)(c:Nat),d≤10→0≤m.pos∧m.pos+ecost d≤1000000 →
  az Si 272 [.box B.length 0,.int .i64 d] ⟨B++.cells (f.cells m)::T,L,c⟩ (.agg (expr f d m).1.cells) ⟨B++.cells (f.cells (expr f d m).2)::T,L,c⟩:=by
 have hw:∀p,SA.wrap (rnd f.bytes p 14-3)=rnd f.bytes p 14-3:=λp=>aK (by have:=@aP _ p 14 hf.ok;have:=@bO f.bytes p 14 (by omega);omega);have hw7:∀p,SA.wrap (4+rnd f.bytes p 7)=4+rnd f.bytes p 7:=λp=>aK (by have:=@aP _ p 7 hf.ok;have:=@bO f.bytes p 7 (by omega);omega);have hv:=hf.vars;intro d;induction d with
 |zero =>
  intro m B T L c _ hp;simp only[ecost]at hp;refine az.introN [(10,.text [Se,Se,Se,Se,Se,Sh,Sh,Sh] [(1,1)])] func272 rfl (by decide) aA (by kernel_rfl) [Sz 4 124] 64 rfl rfl ?_;simp only[vqM,vt6,zA,zS,zB];refine aa (be f m _ B _ L c (by omega) (by omega) hf.ok) ?_;simp only[vqM,zB];refine am (λh4=>?_) (λh4=>?_)
  ·simp only[vqM,zB,h4];refine aa (be f _ _ B _ L c (by omega) (by simp only;omega) hf.ok) ?_;simp only[vqM,hw];refine aa (uZ _ _) ?_;simp only[vqM,vt6,zA];refine bE (.inr rfl) ?_ (aL (Ex.bd _)) rfl (λ_ h=>h) (K6 _);simp only[vqM,vt6,expr]
  ·simp only[vqM,zB,h4,decide_true];refine aa (be f _ _ B _ L c (by omega) (by simp only;omega) hf.ok) ?_;simp only[vqM,hw];refine aa (uZ _ _) ?_;simp only[vqM,vt6,zA];refine bE (.inr rfl) ?_ (aL (Ex.bd _)) rfl (λ_ h=>h) (K6 _);simp only[vqM,vt6,expr]
 |succ d ih =>
  intro m B T L c hd10 hp;simp only[ecost]at hp;have hz:(((d+1:Nat):Int)=0)=False:=by simp;omega
  have hwd:SA.wrap (((d+1:Nat):Int)-1)=d:=by rw[aK (by omega)];omega
  have he2:2≤ecost d:=by cases d<;>simp only[ecost]<;>omega
  refine az.introN [(10,.text [Se,Se,Se,Se,Se,Sh,Sh,Sh] [(1,1)])] func272 rfl (by decide) aA (by kernel_rfl) [Sz 4 124] 64 rfl rfl ?_;simp only[vqM,vt6,zA,zS,zB];refine aa (be f m _ B _ L c (by omega) (by omega) hf.ok) ?_;simp only[vqM,zB];by_cases h4:rnd f.bytes m.pos 12<4
  ·have hx:expr f (d+1) m=(num (rnd f.bytes (m.pos+1) 14-3),{m with pos:=m.pos+1+1}):=by rw[expr,if_pos h4]
   simp only[vqM,zB,h4,decide_true,hx];refine aa (be f _ _ B _ L c (by omega) (by simp only;omega) hf.ok) ?_;simp only[vqM,hw];refine aa (uZ _ _) ?_;simp only[vqM,vt6,zA];refine bE (.inr rfl) ?_ (aL (Ex.bd _)) rfl (λ_ h=>h) (K6 _);simp only[vqM,vt6]
  ·simp only[vqM,zB,h4,decide_false,hz];by_cases h9:rnd f.bytes m.pos 12<9
   ·have hx:expr f (d+1) m=(var (rnd f.bytes (m.pos+1) f.d.vars),{m with pos:=m.pos+1+1}):=by rw[expr,if_neg h4,if_pos h9]
    simp only[vqM,vt6,zA,zB,h9,decide_true,hx];refine aa (be f _ _ B _ _ _ (by omega) (by first|omega|(simp only;omega)) hf.ok) ?_;simp only[vqM];refine aa (NG _ _) ?_;simp only[vqM,vt6,zA];refine bE (.inr rfl) ?_ (aL (Ex.bd _)) rfl (λ_ h=>h) (K6 _);simp only[vqM,vt6]
   ·simp only[vqM,zB,h9,decide_false];by_cases h99:rnd f.bytes m.pos 12=9
    ·have h99t:(rnd f.bytes m.pos 12=9)=True:=eq_true h99;simp only[vqM,vt6,zA,h99t,decide_true,ak];by_cases hL:0<f.d.arrays.length
     ·have hx:expr f (d+1) m=(.mk 3 (rnd f.bytes (m.pos+1) f.d.arrays.length) 0 [],{m with pos:=m.pos+1+1}):=by rw[expr,if_neg h4,if_neg h9,if_pos ⟨h99,hL⟩]
      have hLt:((0:Int)<(f.d.arrays.length:Int))=True:=eq_true (by omega);simp only[vqM,vt6,zA,zB,hLt,decide_true,hx,ak];refine aa (be f _ _ B _ _ _ (by omega) (by first|omega|(simp only;omega)) hf.ok) ?_;simp only[vqM,vt6,zA,zL];refine bE (.inr rfl) ?_ (aL (Ex.bd _)) rfl (λ_ h=>h) (K6 _);simp only[vqM,vt6,zA,Ex.cells,Ex.encs]
     ·have hx:expr f (d+1) m=(bin (4+rnd f.bytes (m.pos+1) 7) (expr f d {m with pos:=m.pos+1+1}).1 (expr f d (expr f d {m with pos:=m.pos+1+1}).2).1,(expr f d (expr f d {m with pos:=m.pos+1+1}).2).2):=by
       rw[expr,if_neg h4,if_neg h9,if_neg (λh=>hL h.2)]
      have hLt:((0:Int)<(f.d.arrays.length:Int))=False:=eq_false (by omega);simp only[vqM,zB,hLt,decide_false];refine aa (be f _ _ B _ _ _ (by omega) (by first|omega|(simp only;omega)) hf.ok) ?_;simp only[vqM,zB,hw7,hwd];refine aa (ih {m with pos:=m.pos+1+1} B _ L c (by omega) (by simp only;omega)) ?_;obtain⟨p1,e1,e2,e3⟩:=bn f d {m with pos:=m.pos+1+1};simp only at e2 e3;simp only[vqM,vt6,zA,hwd,e1];refine aa (ih {m with pos:=p1} B _ L c (by omega) (by simp only;omega)) ?_;obtain⟨p2,e4,e5,e6⟩:=bn f d {m with pos:=p1};simp only[vqM,e4];refine aa (KY _ _ _ _) ?_;simp only[vqM,vt6,zA];refine bE (.inr rfl) ?_ (aL (Ex.bd _)) ?_ (λ_ h=>h) (K6 _)
      ·simp only[vqM,vt6,hx,e1]
      ·simp only[hx,e1,e4]
    ·have hx:expr f (d+1) m=(bin (4+rnd f.bytes (m.pos+1) 7) (expr f d {m with pos:=m.pos+1+1}).1 (expr f d (expr f d {m with pos:=m.pos+1+1}).2).1,(expr f d (expr f d {m with pos:=m.pos+1+1}).2).2):=by
      rw[expr,if_neg h4,if_neg h9,if_neg (λh=>h99 h.1)]
     have h99t:(rnd f.bytes m.pos 12=9)=False:=eq_false h99;simp only[vqM,zB,h99t,decide_false];refine aa (be f _ _ B _ _ _ (by omega) (by first|omega|(simp only;omega)) hf.ok) ?_;simp only[vqM,zB,hw7,hwd];refine aa (ih {m with pos:=m.pos+1+1} B _ L c (by omega) (by simp only;omega)) ?_;obtain⟨p1,e1,e2,e3⟩:=bn f d {m with pos:=m.pos+1+1};simp only at e2 e3;simp only[vqM,vt6,zA,hwd,e1];refine aa (ih {m with pos:=p1} B _ L c (by omega) (by simp only;omega)) ?_;obtain⟨p2,e4,e5,e6⟩:=bn f d {m with pos:=p1};simp only[vqM,e4];refine aa (KY _ _ _ _) ?_;simp only[vqM,vt6,zA];refine bE (.inr rfl) ?_ (aL (Ex.bd _)) ?_ (λ_ h=>h) (K6 _)
     ·simp only[vqM,vt6,hx,e1]
     ·simp only[hx,e1,e4]
def pc(f:Fd)(m:Mk):Co×Mk:=
 (IQ (2+(rnd f.bytes m.pos 8).tmod 3) (expr f 1 {m with pos:=m.pos+1}).1 (expr f 1 (expr f 1 {m with pos:=m.pos+1}).2).1,(expr f 1 (expr f 1 {m with pos:=m.pos+1}).2).2)
def cond(f:Fd):Nat→Mk→Co×Mk
 |0,m=>pc f m
 |d+1,m =>
  if rnd f.bytes m.pos 8<6 then pc f m
  else if rnd f.bytes m.pos 8=6 then(Kv (cond f d {m with pos:=m.pos+1}).1,(cond f d {m with pos:=m.pos+1}).2)
  else
   (.mk (6+rnd f.bytes (cond f d {m with pos:=m.pos+1}).2.pos 2) [] [(cond f d {m with pos:=m.pos+1}).1,(cond f d { (cond f d {m with pos:=m.pos+1}).2 with pos:=(cond f d {m with pos:=m.pos+1}).2.pos+1}).1],
    (cond f d { (cond f d {m with pos:=m.pos+1}).2 with pos:=(cond f d {m with pos:=m.pos+1}).2.pos+1}).2)
def ccost:Nat→Nat
 |0=>13
 |d+1=>13+2*ccost d
theorem qW(f:Fd)(m:Mk):∃p,(pc f m).2={m with pos:=p}∧m.pos≤p∧p≤m.pos+13:=by
 obtain⟨p1,e1,e2,e3⟩:=bn f 1 {m with pos:=m.pos+1};obtain⟨p2,e4,e5,e6⟩:=bn f 1 {m with pos:=p1};simp only[ecost]at e2 e3 e5 e6;refine⟨p2,?_,by omega,by omega⟩;simp only[pc,e1,e4]
theorem dX(f:Fd):∀(d:Nat)(m:Mk),∃p,(cond f d m).2={m with pos:=p}∧m.pos≤p∧p≤m.pos+ccost d:=by
 intro d;induction d with
 |zero=>intro m;exact qW f m
 |succ d ih =>
  intro m;have hc:13≤ccost d:=by cases d<;>simp only[ccost]<;>omega
  unfold cond;split
  ·obtain⟨p,h1,h2,h3⟩:=qW f m;exact⟨p,h1,h2,by simp only[ccost];omega⟩
  ·obtain⟨p,h1,h2,h3⟩:=ih {m with pos:=m.pos+1};simp only at h2 h3;split
   ·exact⟨p,by simp only[h1],by omega,by simp only[ccost];omega⟩
   ·obtain⟨q,h4,h5,h6⟩:=ih {m with pos:=p+1};simp only at h5 h6;exact⟨q,by simp only[h1,h4],by omega,by simp only[ccost];omega⟩
theorem Ca(f:Fx)(hf:FxV f)(ha:f.d.arrays.length≤1000)(m:Mk)(hp:0≤m.pos∧m.pos+13≤1000000) :
  ∃p1 p2,(expr f 1 {m with pos:=m.pos+1}).2={m with pos:=p1}∧(expr f 1 {m with pos:=p1}).2={m with pos:=p2}∧0≤p1∧p1+6≤1000000∧(0≤p2∧p2≤1000000) ∧
   (pc f m)=(IQ (2+(rnd f.bytes m.pos 8).tmod 3) (expr f 1 {m with pos:=m.pos+1}).1 (expr f 1 {m with pos:=p1}).1,{m with pos:=p2}):=by
 obtain⟨p1,e1,e2,e3⟩:=bn f 1 {m with pos:=m.pos+1};obtain⟨p2,e4,e5,e6⟩:=bn f 1 {m with pos:=p1};simp only[ecost]at e2 e3 e5 e6;exact⟨p1,p2,e1,e4,by omega,by omega,⟨by omega,by omega⟩,by simp only[pc,e1,e4]⟩
theorem BH(f:Fx)(hf:FxV f)(ha:f.d.arrays.length≤1000):∀(d:Nat)(m:Mk)(B T:List Box)(L:List Nat)(c:Nat),d≤10→0≤m.pos∧m.pos+ccost d≤1000000 →
  az Si 269 [.box B.length 0,.int .i64 d] ⟨B++.cells (f.cells m)::T,L,c⟩ (.agg (cond f d m).1.cells) ⟨B++.cells (f.cells (cond f d m).2)::T,L,c⟩:=by
 have hw3:∀p,SA.wrap (2+(rnd f.bytes p 8).tmod 3)=2+(rnd f.bytes p 8).tmod 3:=λp=>aK (by have h1:=@aP _ p 8 hf.ok;have:=@bO f.bytes p 8 (by omega);have:=Qy 3 h1;have:=Qj (rnd f.bytes p 8) (b:=3) (by omega);omega);have hw2:∀p,SA.wrap (6+rnd f.bytes p 2)=6+rnd f.bytes p 2:=λp=>aK (by have h1:=@aP _ p 2 hf.ok;have:=@bO f.bytes p 2 (by omega);omega);have h30:((3:Int)=0)=False:=by simp
 intro d;induction d with
 |zero =>
  intro m B T L c _ hp;simp only[ccost]at hp;obtain⟨p1,p2,e1,e2,q1,q2,q3,hx⟩:=Ca f hf ha m (by omega);have hx0:cond f 0 m=pc f m:=rfl;refine az.introN [(4,.text [Se,Se,Se,Se,Se,Sh,Sh,Sh] [(3,1)]),(8,.text [Se,Sh,Se,Se,Se,Se,Se,Sh,Se,Se,Sh] [(3,0),(3,2)])] func269 rfl (by decide) aA (by kernel_rfl) [Sz 4 128] 46 rfl rfl ?_;simp only[vqM,vt7,zA,zS,zB];refine aa (be f _ _ B _ _ _ (by omega) (by first|omega|(simp only;omega)) hf.ok) ?_;simp only[vqM,zB];refine am (λh4=>?_) (λh4=>?_)
  ·simp only[vqM,zB,h4];refine aa (eC f hf ha 1 _ B _ _ _ (by omega) (by simp only[ecost];omega)) ?_;simp only[vqM,vt7,zA,zB,e1,hw3,h30];refine aa (eC f hf ha 1 _ B _ _ _ (by omega) (by simp only[ecost];omega)) ?_;simp only[vqM,e2];refine aa (BG _ _ _ _) ?_;simp only[vqM,vt7,zA];refine bE (.inr rfl) ?_ (aL (Co.bd _)) (by rw[hx0,hx]) (λ_ h=>h) (K6 _);simp only[vqM,vt7,hx0,hx]
  ·simp only[vqM,zB,h4,decide_true];refine aa (eC f hf ha 1 _ B _ _ _ (by omega) (by simp only[ecost];omega)) ?_;simp only[vqM,vt7,zA,zB,e1,hw3,h30];refine aa (eC f hf ha 1 _ B _ _ _ (by omega) (by simp only[ecost];omega)) ?_;simp only[vqM,e2];refine aa (BG _ _ _ _) ?_;simp only[vqM,vt7,zA];refine bE (.inr rfl) ?_ (aL (Co.bd _)) (by rw[hx0,hx]) (λ_ h=>h) (K6 _);simp only[vqM,vt7,hx0,hx]
 |succ d ih =>
  intro m B T L c hd10 hp;simp only[ccost]at hp;have hz:(((d+1:Nat):Int)=0)=False:=by simp;omega
  have hwd:SA.wrap (((d+1:Nat):Int)-1)=d:=by rw[aK (by omega)];omega
  have hc2:13≤ccost d:=by cases d<;>simp only[ccost]<;>omega
  refine az.introN [(4,.text [Se,Se,Se,Se,Se,Sh,Sh,Sh] [(3,1)]),(8,.text [Se,Sh,Se,Se,Se,Se,Se,Sh,Se,Se,Sh] [(3,0),(3,2)])] func269 rfl (by decide) aA (by kernel_rfl) [Sz 4 128] 46 rfl rfl ?_;simp only[vqM,vt7,zA,zS,zB];refine aa (be f _ _ B _ _ _ (by omega) (by first|omega|(simp only;omega)) hf.ok) ?_;simp only[vqM,zB];by_cases h4:rnd f.bytes m.pos 8<6
  ·obtain⟨p1,p2,e1,e2,q1,q2,q3,hx⟩:=Ca f hf ha m (by omega);have hx0:cond f (d+1) m=pc f m:=by rw[cond,if_pos h4]
   simp only[vqM,zB,h4,decide_true];refine aa (eC f hf ha 1 _ B _ _ _ (by omega) (by simp only[ecost];omega)) ?_;simp only[vqM,vt7,zA,zB,e1,hw3,h30];refine aa (eC f hf ha 1 _ B _ _ _ (by omega) (by simp only[ecost];omega)) ?_;simp only[vqM,e2];refine aa (BG _ _ _ _) ?_;simp only[vqM,vt7,zA];refine bE (.inr rfl) ?_ (aL (Co.bd _)) (by rw[hx0,hx]) (λ_ h=>h) (K6 _);simp only[vqM,vt7,hx0,hx]
  ·obtain⟨p1,e1,e2,e3⟩:=dX f d {m with pos:=m.pos+1};simp only at e2 e3;simp only[vqM,zB,h4,decide_false,hz];by_cases h6:rnd f.bytes m.pos 8=6
   ·have h6t:(rnd f.bytes m.pos 8=6)=True:=eq_true h6;have hx:cond f (d+1) m=(Kv (cond f d {m with pos:=m.pos+1}).1,{m with pos:=p1}):=by rw[cond,if_neg h4,if_pos h6,e1]
    simp only[vqM,zB,h6t,decide_true,hwd];refine aa (ih {m with pos:=m.pos+1} B _ _ _ (by omega) (by simp only;omega)) ?_;simp only[vqM,e1];refine aa (NI _ _) ?_;simp only[vqM,vt7,zA];refine bE (.inr rfl) ?_ (aL (Co.bd _)) (by rw[hx]) (λ_ h=>h) (K6 _);simp only[vqM,vt7,hx]
   ·have h6t:(rnd f.bytes m.pos 8=6)=False:=eq_false h6;obtain⟨p2,e4,e5,e6⟩:=dX f d {m with pos:=p1+1};simp only at e5 e6;have hx:cond f (d+1) m=(.mk (6+rnd f.bytes p1 2) [] [(cond f d {m with pos:=m.pos+1}).1,(cond f d {m with pos:=p1+1}).1],{m with pos:=p2}):=by
     rw[cond,if_neg h4,if_neg h6];simp only[e1,e4]
    simp only[vqM,zB,h6t,decide_false,hwd];refine aa (ih {m with pos:=m.pos+1} B _ _ _ (by omega) (by simp only;omega)) ?_;simp only[vqM,vt7,zA,zB,e1];refine aa (be f _ _ B _ _ _ (by omega) (by first|omega|(simp only;omega)) hf.ok) ?_;simp only[vqM,vt7,hwd,hw2];refine aa (ih {m with pos:=p1+1} B _ _ _ (by omega) (by simp only;omega)) ?_;simp only[vqM,vt7,zA,zM,zL,e4];refine bE (.inr rfl) ?_ (aL (Co.bd _)) (by rw[hx]) (λ_ h=>h) (K6 _);simp only[vqM,vt7,zA,hx,Co.cells,Co.encs,Ex.encs]
def ex0:Ex:=.mk 0 0 0 []
def co0:Co:=.mk 0 [] []
def stm(site op n m v:Int)(x y:Ex)(c:Co):Sm:=.mk site op n m v x y c [] [] [] []
theorem bt(site op n m v:Int)(x y:Ex)(c:Co):(stm site op n m v x y c).cells =
  .int .i64 site::.int .i64 op::.int .i64 n::.int .i64 m::.int .i64 v::(x.cells++(y.cells++(c.cells++[.slice .none [],.slice .none [],.slice .none [],.slice .none []]))):=by
 simp only[stm,Sm.cells,Ex.encs,Sm.encs,aj,List.map_nil]
theorem bc:ex0.cells=[.int .i64 0,.int .i64 0,.int .i64 0,.slice .none []]:=rfl
theorem bg:co0.cells=[.int .i64 0,.slice .none [],.slice .none []]:=rfl
def fK(f:Fd)(a:Mk):List Sm×Mk:=
 let s:=a.site+1
 let k:=rnd f.bytes a.pos 8
 let m:Mk:={a with site:=a.site+1,pos:=a.pos+1}
 if k=0 then([stm s 2 (targ f m) 0 0 (num (rnd f.bytes (a.pos+1+1) 4)) ex0 co0],{m with pos:=a.pos+1+1+1})
 else if k=1 then([stm s 3 0 0 0 (num (rnd f.bytes (a.pos+1) 4)) (expr f 2 {m with pos:=a.pos+1+1}).1 co0],(expr f 2 {m with pos:=a.pos+1+1}).2)
 else if k=2 then([stm s 4 (targ f m) (rnd f.bytes (a.pos+1+1) 2) 0 ex0 ex0 co0],{m with pos:=a.pos+1+1+1})
 else if k=3 then([stm s 20 (targ f m) (rnd f.bytes (a.pos+1+1) 2) 0 ex0 ex0 co0],{m with pos:=a.pos+1+1+1})
 else if k=4 then
  ([stm s 16 0 (rnd f.bytes (a.pos+1) 3) 0 ex0 ex0 co0,stm (a.site+1+1) 5 0 0 0 (num (rnd f.bytes (a.pos+1+1) 9)) ex0 co0,stm (a.site+1+1+1) 17 0 (rnd f.bytes (a.pos+1) 3) 0 ex0 ex0 co0],
   {m with site:=a.site+1+1+1,pos:=a.pos+1+1+1})
 else if k=5 then
  ([stm s 6 1 0 0 ex0 ex0 co0,stm (a.site+1+1) 9 1 0 0 (expr f 1 {m with site:=a.site+1+1}).1 ex0 co0,stm (a.site+1+1+1) 7 1 0 0 ex0 ex0 co0],
   { (expr f 1 {m with site:=a.site+1+1}).2 with site:=(expr f 1 {m with site:=a.site+1+1}).2.site+1})
 else([stm s 1 (targ f m) 0 0 (expr f 2 {m with pos:=a.pos+1+1}).1 ex0 co0],(expr f 2 {m with pos:=a.pos+1+1}).2)
theorem kz(f:Fd)(a:Mk):∃p s,(fK f a).2={a with pos:=p,site:=s}∧a.pos≤p∧p≤a.pos+17∧a.site<s∧s≤a.site+3:=by
 obtain⟨p1,e1,e2,e3⟩:=bn f 2 {a with site:=a.site+1,pos:=a.pos+1+1};obtain⟨p2,e4,e5,e6⟩:=bn f 1 {a with site:=a.site+1+1,pos:=a.pos+1};simp only[ecost]at e2 e3 e5 e6;unfold fK;simp only;split
 ·exact⟨_,_,rfl,by omega,by omega,by omega,by omega⟩
 split
 ·exact⟨p1,a.site+1,e1,by omega,by omega,by omega,by omega⟩
 split
 ·exact⟨_,_,rfl,by omega,by omega,by omega,by omega⟩
 split
 ·exact⟨_,_,rfl,by omega,by omega,by omega,by omega⟩
 split
 ·exact⟨_,_,rfl,by omega,by omega,by omega,by omega⟩
 split
 ·refine⟨p2,a.site+1+1+1,?_,by omega,by omega,by omega,by omega⟩;simp only[e4]
 ·exact⟨p1,a.site+1,e1,by omega,by omega,by omega,by omega⟩
theorem FQ(f:Fx)(hf:FxV f)(ha:f.d.arrays.length≤1000)(a:Mk)(B T:List Box)(L:List Nat)(c:Nat)(hp:0≤a.pos∧a.pos+17≤1000000)(hs:0≤a.site∧a.site+3≤1000000) :
  az Si 273 [.box B.length 0] ⟨B++.cells (f.cells a)::T,L,c⟩ (.slice .none (Sm.encs (fK f a).1)) ⟨B++.cells (f.cells (fK f a).2)::T,L,c⟩:=by
 obtain⟨p1,e1,e2,e3⟩:=bn f 2 {a with site:=a.site+1,pos:=a.pos+1+1};obtain⟨p2,e4,e5,e6⟩:=bn f 1 {a with site:=a.site+1+1,pos:=a.pos+1};simp only[ecost]at e2 e3 e5 e6;have hr0:=@aP _ a.pos 8 hf.ok;have hr8:=@bO f.bytes a.pos 8 (by omega);refine az.introN [(4,.text [Se,Se,Se,Sh,Se,Sh,Sh,Se,Se,Se] [(1,1),(1,2),(1,3)]),(6,.text [Se,Se,Se,Sh,Sh,Se,Sh,Se,Se,Se] [(1,1),(1,2),(1,3)]),(8,.text [Se,Se,Se,Sh,Se,Sh,Se,Se,Se] [(1,1),(1,2)]),(10,.text [Se,Se,Se,Sh,Se,Sh,Se,Se,Se] [(1,1),(1,2)]),(13,.text [Se,Se,Se,Se,Se,Sh,Se,Sh,Sh,Se,Se,Sh,Se,Se,Se,Se] [(1,1),(1,2),(1,3),(1,4)]),(15,.text [Se,Se,Se,Se,Sh,Se,Sh,Se,Se,Sh,Se,Se,Se] [(1,1),(1,2),(1,3)])] func273 rfl (by decide) aA (by kernel_rfl) [Sy 2] 93 rfl rfl ?_;simp only[vqM,zA,zS,zB];refine aa (jF f a B T L c (by omega)) ?_;simp only[vqM,vt8,zA,zL,zB];refine aa (be f _ _ B _ _ _ (by omega) (by first|omega|(simp only;omega)) hf.ok) ?_;simp only[vqM,zB];generalize hk:rnd f.bytes a.pos 8=k at hr0 hr8;have hx:fK f a=fK f a:=rfl;conv at hx=>rhs;unfold fK
 simp only[hk]at hx;have hcs:k=0∨k=1∨k=2∨k=3∨k=4∨k=5∨k=6∨k=7:=by omega
 rcases hcs with rfl|rfl|rfl|rfl|rfl|rfl|rfl|rfl
 ·simp only[Oh,if_true,if_false]at hx;simp only[vqM,vt8,zA,zB,decide_true];refine aa (eR f _ B _ _ _ hf (by simp only;omega)) ?_;simp only[vqM];refine aa (be f _ _ B _ _ _ (by omega) (by first|omega|(simp only;omega)) hf.ok) ?_;simp only[vqM];refine aa (uZ _ _) ?_;simp only[vqM,vt8,zA,zM,zL];refine bE (.inr rfl) ?_ (aV (Sm.bds _)) (by rw[hx]) (λ_ h=>h) (K6 _);simp only[vqM,hx,Sm.encs,bt,bc,bg]
 ·simp only[Oh,if_true,if_false,e1]at hx;simp only[vqM,vt8,zA,zB,Oh,decide_true,decide_false];refine aa (be f _ _ B _ _ _ (by omega) (by first|omega|(simp only;omega)) hf.ok) ?_;simp only[vqM];refine aa (uZ _ _) ?_;simp only[vqM];refine aa (eC f hf ha 2 _ B _ _ _ (by omega) (by simp only[ecost];omega)) ?_;simp only[vqM,vt8,zA,zM,zL,e1];refine bE (.inr rfl) ?_ (aV (Sm.bds _)) (by rw[hx]) (λ_ h=>h) (K6 _);simp only[vqM,hx,Sm.encs,bt,bg]
 ·simp only[Oh,if_true,if_false]at hx;simp only[vqM,vt8,zA,zB,Oh,decide_true,decide_false];refine aa (eR f _ B _ _ _ hf (by simp only;omega)) ?_;simp only[vqM];refine aa (be f _ _ B _ _ _ (by omega) (by first|omega|(simp only;omega)) hf.ok) ?_;simp only[vqM,vt8,zA,zM,zL];refine bE (.inr rfl) ?_ (aV (Sm.bds _)) (by rw[hx]) (λ_ h=>h) (K6 _);simp only[vqM,hx,Sm.encs,bt,bc,bg]
 ·simp only[Oh,if_true,if_false]at hx;simp only[vqM,vt8,zA,zB,Oh,decide_true,decide_false];refine aa (eR f _ B _ _ _ hf (by simp only;omega)) ?_;simp only[vqM];refine aa (be f _ _ B _ _ _ (by omega) (by first|omega|(simp only;omega)) hf.ok) ?_;simp only[vqM,vt8,zA,zM,zL];refine bE (.inr rfl) ?_ (aV (Sm.bds _)) (by rw[hx]) (λ_ h=>h) (K6 _);simp only[vqM,hx,Sm.encs,bt,bc,bg]
 ·simp only[Oh,if_true,if_false]at hx;simp only[vqM,zB,Oh,decide_true,decide_false];refine aa (be f _ _ B _ _ _ (by omega) (by first|omega|(simp only;omega)) hf.ok) ?_;simp only[vqM,vt8,zA,zL,zB];refine aa (jF f _ B _ _ _ (by simp only;omega)) ?_;simp only[vqM];refine aa (be f _ _ B _ _ _ (by omega) (by first|omega|(simp only;omega)) hf.ok) ?_;simp only[vqM];refine aa (uZ _ _) ?_;simp only[vqM,vt8,zA,zL];refine aa (jF f _ B _ _ _ (by simp only;omega)) ?_;simp only[vqM,vt8,zA,zM,zL];refine bE (.inr rfl) ?_ (aV (Sm.bds _)) (by rw[hx]) (λ_ h=>h) (K6 _);simp only[vqM,hx,Sm.encs,bt,bc,bg]
 ·simp only[Oh,if_true,if_false,e4]at hx;simp only[vqM,vt8,zA,zL,zB,Oh,decide_true,decide_false];refine aa (jF f _ B _ _ _ (by simp only;omega)) ?_;simp only[vqM];refine aa (eC f hf ha 1 _ B _ _ _ (by omega) (by simp only[ecost];omega)) ?_;simp only[vqM,vt8,zA,zL,e4];refine aa (jF f _ B _ _ _ (by simp only;omega)) ?_;simp only[vqM,vt8,zA,zM,zL];refine bE (.inr rfl) ?_ (aV (Sm.bds _)) (by rw[hx]) (λ_ h=>h) (K6 _);simp only[vqM,hx,Sm.encs,bt,bc,bg]
 ·simp only[Oh,if_false,e1]at hx;simp only[vqM,zB,Oh,decide_false];refine aa (eR f _ B _ _ _ hf (by simp only;omega)) ?_;simp only[vqM,vt8,zA,zL,zB];refine aa (eC f hf ha 2 _ B _ _ _ (by omega) (by simp only[ecost];omega)) ?_;simp only[vqM,vt8,zA,zM,zL,zB,e1];refine bE (.inr rfl) ?_ (aV (Sm.bds _)) (by rw[hx]) (λ_ h=>h) (K6 _);simp only[vqM,hx,Sm.encs,bt,bc,bg]
 ·simp only[Oh,if_false,e1]at hx;simp only[vqM,zB,Oh,decide_false];refine aa (eR f _ B _ _ _ hf (by simp only;omega)) ?_;simp only[vqM,vt8,zA,zL,zB];refine aa (eC f hf ha 2 _ B _ _ _ (by omega) (by simp only[ecost];omega)) ?_;simp only[vqM,vt8,zA,zM,zL,zB,e1];refine bE (.inr rfl) ?_ (aV (Sm.bds _)) (by rw[hx]) (λ_ h=>h) (K6 _);simp only[vqM,hx,Sm.encs,bt,bc,bg]
def jS(f:Fd)(a:Mk):Sm×Mk:=
 let s:=a.site+1
 let k:=rnd f.bytes a.pos 15
 let p:=a.pos+1
 let m:Mk:={a with site:=a.site+1,pos:=a.pos+1}
 if k=0∨k=1 then(stm s 2 (targ f m) (rnd f.bytes (p+1) f.d.arrays.length) 0 (expr f 1 {m with pos:=p+1+1}).1 ex0 co0,(expr f 1 {m with pos:=p+1+1}).2)
 else if k=2 then(stm s 3 0 (rnd f.bytes p f.d.arrays.length) 0 (expr f 1 {m with pos:=p+1}).1 (expr f 1 (expr f 1 {m with pos:=p+1}).2).1 co0,(expr f 1 (expr f 1 {m with pos:=p+1}).2).2)
 else if k=3 then(stm s 5 0 (rnd f.bytes p 2) 0 (expr f 1 {m with pos:=p+1}).1 ex0 co0,(expr f 1 {m with pos:=p+1}).2)
 else if k=4 then(stm s 6 (rnd f.bytes p 2) 0 0 ex0 ex0 co0,{m with pos:=p+1})
 else if k=5 then(stm s 7 (rnd f.bytes p 2) 0 0 ex0 ex0 co0,{m with pos:=p+1})
 else if k=6 then(stm s 8 (rnd f.bytes p 2) (rnd f.bytes (p+1) 2) 0 ex0 ex0 co0,{m with pos:=p+1+1})
 else if k=7 then(stm s 10 (targ f m) (rnd f.bytes (p+1) 2) 0 ex0 ex0 co0,{m with pos:=p+1+1})
 else if k=8 then(stm s (16+rnd f.bytes p 2) 0 (rnd f.bytes (p+1) 3) 0 ex0 ex0 co0,{m with pos:=p+1+1})
 else if k=9 then(stm s 18 0 0 0 (expr f 1 m).1 ex0 co0,(expr f 1 m).2)
 else if k=10 then(stm s 19 (targ f m) 0 0 ex0 ex0 co0,{m with pos:=p+1})
 else if k=11 then(stm s 21 0 (rnd f.bytes p 3) 0 (expr f 1 {m with pos:=p+1}).1 ex0 co0,(expr f 1 {m with pos:=p+1}).2)
 else if k=12 then(stm s 22 0 (rnd f.bytes p 3) 0 ex0 ex0 co0,{m with pos:=p+1})
 else if k=13 then(stm s 23 0 0 0 ex0 ex0 (cond f 1 m).1,(cond f 1 m).2)
 else(stm s 9 (rnd f.bytes p 2) 0 0 (expr f 1 {m with pos:=p+1}).1 ex0 co0,(expr f 1 {m with pos:=p+1}).2)
structure FxA (f:Fd):Prop extends FxV f where
 arr:0<f.d.arrays.length∧f.d.arrays.length≤1000
theorem qK(f:Fd)(hf:FxV f)(a:Mk):∃p,(jS f a).2={a with pos:=p,site:=a.site+1}∧a.pos≤p∧p≤a.pos+50:=by
 obtain⟨p0,e1,e2,e3⟩:=bn f 1 {a with site:=a.site+1,pos:=a.pos+1};obtain⟨p1,e4,e5,e6⟩:=bn f 1 {a with site:=a.site+1,pos:=a.pos+1+1};obtain⟨p2,e7,e8,e9⟩:=bn f 1 {a with site:=a.site+1,pos:=a.pos+1+1+1};obtain⟨p3,e10,e11,e12⟩:=bn f 1 {a with site:=a.site+1,pos:=p1};obtain⟨p4,e13,e14,e15⟩:=dX f 1 {a with site:=a.site+1,pos:=a.pos+1};simp only[ecost,ccost]at e2 e3 e5 e6 e8 e9 e11 e12 e14 e15;have hr0:=@aP _ a.pos 15 hf.ok;have hr8:=@bO f.bytes a.pos 15 (by omega);generalize hk:rnd f.bytes a.pos 15=k at hr0 hr8;have hx:jS f a=jS f a:=rfl;conv at hx=>rhs;unfold jS
 simp only[hk]at hx;have hcs:k=0∨k=1∨k=2∨k=3∨k=4∨k=5∨k=6∨k=7∨k=8∨k=9∨k=10∨k=11∨k=12∨k=13∨k=14:=by omega
 rcases hcs with rfl|rfl|rfl|rfl|rfl|rfl|rfl|rfl|rfl|rfl|rfl|rfl|rfl|rfl|rfl
 ·simp only[Oh,if_true,if_false,true_or,e7]at hx;exact⟨p2,by rw[hx],by omega,by omega⟩
 ·simp only[Oh,if_true,if_false,or_true,e7]at hx;exact⟨p2,by rw[hx],by omega,by omega⟩
 ·simp only[Oh,if_true,if_false,or_self,e4,e10]at hx;exact⟨p3,by rw[hx],by omega,by omega⟩
 ·simp only[Oh,if_true,if_false,or_self,e4]at hx;exact⟨p1,by rw[hx],by omega,by omega⟩
 ·simp only[Oh,if_true,if_false,or_self]at hx;exact⟨a.pos+1+1,by rw[hx],by omega,by omega⟩
 ·simp only[Oh,if_true,if_false,or_self]at hx;exact⟨a.pos+1+1,by rw[hx],by omega,by omega⟩
 ·simp only[Oh,if_true,if_false,or_self]at hx;exact⟨a.pos+1+1+1,by rw[hx],by omega,by omega⟩
 ·simp only[Oh,if_true,if_false,or_self]at hx;exact⟨a.pos+1+1+1,by rw[hx],by omega,by omega⟩
 ·simp only[Oh,if_true,if_false,or_self]at hx;exact⟨a.pos+1+1+1,by rw[hx],by omega,by omega⟩
 ·simp only[Oh,if_true,if_false,or_self,e1]at hx;exact⟨p0,by rw[hx],by omega,by omega⟩
 ·simp only[Oh,if_true,if_false,or_self]at hx;exact⟨a.pos+1+1,by rw[hx],by omega,by omega⟩
 ·simp only[Oh,if_true,if_false,or_self,e4]at hx;exact⟨p1,by rw[hx],by omega,by omega⟩
 ·simp only[Oh,if_true,if_false,or_self]at hx;exact⟨a.pos+1+1,by rw[hx],by omega,by omega⟩
 ·simp only[Oh,if_true,if_false,or_self,e13]at hx;exact⟨p4,by rw[hx],by omega,by omega⟩
 ·simp only[Oh,if_false,or_self,e4]at hx;exact⟨p1,by rw[hx],by omega,by omega⟩
theorem B8(f:Fx)(hA:FxA f)(a:Mk)(B T:List Box)(L:List Nat)(c:Nat)(hp:0≤a.pos∧a.pos+50≤1000000)(hs:0≤a.site∧a.site+3≤1000000) :
  az Si 274 [.box B.length 0] ⟨B++.cells (f.cells a)::T,L,c⟩ (.agg (jS f a).1.cells) ⟨B++.cells (f.cells (jS f a).2)::T,L,c⟩:=by
 have hf:=hA.toFxV;have ha:=hA.arr.2;have ha0:=hA.arr.1;obtain⟨p0,e1,e2,e3⟩:=bn f 1 {a with site:=a.site+1,pos:=a.pos+1};obtain⟨p1,e4,e5,e6⟩:=bn f 1 {a with site:=a.site+1,pos:=a.pos+1+1};obtain⟨p2,e7,e8,e9⟩:=bn f 1 {a with site:=a.site+1,pos:=a.pos+1+1+1};obtain⟨p3,e10,e11,e12⟩:=bn f 1 {a with site:=a.site+1,pos:=p1};obtain⟨p4,e13,e14,e15⟩:=dX f 1 {a with site:=a.site+1,pos:=a.pos+1};simp only[ecost,ccost]at e2 e3 e5 e6 e8 e9 e11 e12 e14 e15;have hw2:∀p,SA.wrap (16+rnd f.bytes p 2)=16+rnd f.bytes p 2:=λp=>aK (by have h1:=@aP _ p 2 hf.ok;have:=@bO f.bytes p 2 (by omega);omega);have hr0:=@aP _ a.pos 15 hf.ok;have hr8:=@bO f.bytes a.pos 15 (by omega);refine az.introN [(5,.text [Se,Se,Se,Sh,Se,Se,Se,Se,Se,Se,Se,Sh,Se,Sh,Se,Sh] [(1,1),(1,2),(1,3),(9,0),(10,0)]),(7,.text [Se,Se,Se,Se,Se,Se,Se,Se,Se,Sh,Se,Sh,Se,Sh,Se,Sh] [(1,1),(1,2),(1,3)]),(9,.text [Se,Se,Se,Sh,Se,Sh,Se,Sh] [(1,1),(1,2)]),(11,.text [Se,Se,Se,Sh,Se,Sh] [(1,1)]),(13,.text [Se,Se,Se,Sh,Se,Sh] [(1,1)]),(15,.text [Se,Se,Se,Sh,Se,Sh,Se,Sh] [(1,1),(1,2)]),(17,.text [Se,Se,Se,Sh,Se,Sh,Se,Sh] [(1,1),(1,2)]),(19,.text [Se,Se,Se,Sh,Se,Se,Sh,Se,Sh] [(1,1),(1,2)]),(21,.text [Se,Se,Se,Sh,Se,Sh] [(1,1)]),(23,.text [Se,Se,Se,Sh,Se,Sh] [(1,1)]),(25,.text [Se,Se,Se,Sh,Se,Sh,Se,Sh] [(1,1),(1,2)]),(27,.text [Se,Se,Se,Sh,Se,Sh] [(1,1)]),(29,.text [Se,Se,Se,Sh,Se,Sh] [(1,1)]),(30,.text [Se,Se,Se,Sh,Se,Sh,Se,Sh] [(1,1),(1,2)])] func274 rfl (by decide) aA (by kernel_rfl) [Sz 2 130] 139 rfl rfl ?_;simp only[vqM,vt9,zA,zS,zB];refine aa (jF f a B _ L c (by omega)) ?_;simp only[vqM,vt9,zA,zL,zB];refine aa (be f _ _ B _ _ _ (by omega) (by first|omega|(simp only;omega)) hf.ok) ?_;simp only[vqM,zB];generalize hk:rnd f.bytes a.pos 15=k at hr0 hr8;have hx:jS f a=jS f a:=rfl;conv at hx=>rhs;unfold jS
 simp only[hk]at hx;have hcs:k=0∨k=1∨k=2∨k=3∨k=4∨k=5∨k=6∨k=7∨k=8∨k=9∨k=10∨k=11∨k=12∨k=13∨k=14:=by omega
 rcases hcs with rfl|rfl|rfl|rfl|rfl|rfl|rfl|rfl|rfl|rfl|rfl|rfl|rfl|rfl|rfl
 ·simp only[Oh,if_true,if_false,true_or,e7]at hx;simp only[vqM,vt9,zA,zB,decide_true];refine aa (eR f _ B _ _ _ hf (by simp only;omega)) ?_;simp only[vqM,vt9,zA,ak];refine aa (be f _ _ B _ _ _ (by omega) (by first|omega|(simp only;omega)) hf.ok) ?_;simp only[vqM];refine aa (eC f hf ha 1 _ B _ _ _ (by omega) (by simp only[ecost];omega)) ?_;simp only[vqM,vt9,zA,zL,e7,ak];refine bE (.inr rfl) ?_ (aL (Sm.bd _)) (by rw[hx]) (λ_ h=>h) (K6 _);simp only[vqM,vt9,zA,hx,bt,bc,bg]
 ·simp only[Oh,if_true,if_false,or_true,e7]at hx;simp only[vqM,vt9,zA,zB,Oh,decide_true,decide_false];refine aa (eR f _ B _ _ _ hf (by simp only;omega)) ?_;simp only[vqM,vt9,zA,ak];refine aa (be f _ _ B _ _ _ (by omega) (by first|omega|(simp only;omega)) hf.ok) ?_;simp only[vqM];refine aa (eC f hf ha 1 _ B _ _ _ (by omega) (by simp only[ecost];omega)) ?_;simp only[vqM,vt9,zA,zL,e7,ak];refine bE (.inr rfl) ?_ (aL (Sm.bd _)) (by rw[hx]) (λ_ h=>h) (K6 _);simp only[vqM,vt9,zA,hx,bt,bc,bg]
 ·simp only[Oh,if_true,if_false,or_self,e4,e10]at hx;simp only[vqM,vt9,zA,zB,Oh,decide_true,decide_false,ak];refine aa (be f _ _ B _ _ _ (by omega) (by first|omega|(simp only;omega)) hf.ok) ?_;simp only[vqM];refine aa (eC f hf ha 1 _ B _ _ _ (by omega) (by simp only[ecost];omega)) ?_;simp only[vqM,e4];refine aa (eC f hf ha 1 _ B _ _ _ (by omega) (by simp only[ecost];omega)) ?_;simp only[vqM,vt9,zA,zL,e10];refine bE (.inr rfl) ?_ (aL (Sm.bd _)) (by rw[hx]) (λ_ h=>h) (K6 _);simp only[vqM,vt9,zA,hx,bt,bg]
 ·simp only[Oh,if_true,if_false,or_self,e4]at hx;simp only[vqM,vt9,zA,zB,Oh,decide_true,decide_false];refine aa (be f _ _ B _ _ _ (by omega) (by first|omega|(simp only;omega)) hf.ok) ?_;simp only[vqM];refine aa (eC f hf ha 1 _ B _ _ _ (by omega) (by simp only[ecost];omega)) ?_;simp only[vqM,vt9,zA,zL,e4];refine bE (.inr rfl) ?_ (aL (Sm.bd _)) (by rw[hx]) (λ_ h=>h) (K6 _);simp only[vqM,vt9,zA,hx,bt,bc,bg]
 ·simp only[Oh,if_true,if_false,or_self]at hx;simp only[vqM,vt9,zA,zB,Oh,decide_true,decide_false];refine aa (be f _ _ B _ _ _ (by omega) (by first|omega|(simp only;omega)) hf.ok) ?_;simp only[vqM,vt9,zA,zL];refine bE (.inr rfl) ?_ (aL (Sm.bd _)) (by rw[hx]) (λ_ h=>h) (K6 _);simp only[vqM,vt9,zA,hx,bt,bc,bg]
 ·simp only[Oh,if_true,if_false,or_self]at hx;simp only[vqM,vt9,zA,zB,Oh,decide_true,decide_false];refine aa (be f _ _ B _ _ _ (by omega) (by first|omega|(simp only;omega)) hf.ok) ?_;simp only[vqM,vt9,zA,zL];refine bE (.inr rfl) ?_ (aL (Sm.bd _)) (by rw[hx]) (λ_ h=>h) (K6 _);simp only[vqM,vt9,zA,hx,bt,bc,bg]
 ·simp only[Oh,if_true,if_false,or_self]at hx;simp only[vqM,vt9,zA,zB,Oh,decide_true,decide_false];refine aa (be f _ _ B _ _ _ (by omega) (by first|omega|(simp only;omega)) hf.ok) ?_;simp only[vqM];refine aa (be f _ _ B _ _ _ (by omega) (by first|omega|(simp only;omega)) hf.ok) ?_;simp only[vqM,vt9,zA,zL];refine bE (.inr rfl) ?_ (aL (Sm.bd _)) (by rw[hx]) (λ_ h=>h) (K6 _);simp only[vqM,vt9,zA,hx,bt,bc,bg]
 ·simp only[Oh,if_true,if_false,or_self]at hx;simp only[vqM,vt9,zA,zB,Oh,decide_true,decide_false];refine aa (eR f _ B _ _ _ hf (by simp only;omega)) ?_;simp only[vqM];refine aa (be f _ _ B _ _ _ (by omega) (by first|omega|(simp only;omega)) hf.ok) ?_;simp only[vqM,vt9,zA,zL];refine bE (.inr rfl) ?_ (aL (Sm.bd _)) (by rw[hx]) (λ_ h=>h) (K6 _);simp only[vqM,vt9,zA,hx,bt,bc,bg]
 ·simp only[Oh,if_true,if_false,or_self]at hx;simp only[vqM,vt9,zA,zB,Oh,decide_true,decide_false];refine aa (be f _ _ B _ _ _ (by omega) (by first|omega|(simp only;omega)) hf.ok) ?_;simp only[vqM,hw2];refine aa (be f _ _ B _ _ _ (by omega) (by first|omega|(simp only;omega)) hf.ok) ?_;simp only[vqM,vt9,zA,zL];refine bE (.inr rfl) ?_ (aL (Sm.bd _)) (by rw[hx]) (λ_ h=>h) (K6 _);simp only[vqM,vt9,zA,hx,bt,bc,bg]
 ·simp only[Oh,if_true,if_false,or_self,e1]at hx;simp only[vqM,vt9,zA,zB,Oh,decide_true,decide_false];refine aa (eC f hf ha 1 _ B _ _ _ (by omega) (by simp only[ecost];omega)) ?_;simp only[vqM,vt9,zA,zL,e1];refine bE (.inr rfl) ?_ (aL (Sm.bd _)) (by rw[hx]) (λ_ h=>h) (K6 _);simp only[vqM,vt9,zA,hx,bt,bc,bg]
 ·simp only[Oh,if_true,if_false,or_self]at hx;simp only[vqM,vt9,zA,zB,Oh,decide_true,decide_false];refine aa (eR f _ B _ _ _ hf (by simp only;omega)) ?_;simp only[vqM,vt9,zA,zL];refine bE (.inr rfl) ?_ (aL (Sm.bd _)) (by rw[hx]) (λ_ h=>h) (K6 _);simp only[vqM,vt9,zA,hx,bt,bc,bg]
 ·simp only[Oh,if_true,if_false,or_self,e4]at hx;simp only[vqM,vt9,zA,zB,Oh,decide_true,decide_false];refine aa (be f _ _ B _ _ _ (by omega) (by first|omega|(simp only;omega)) hf.ok) ?_;simp only[vqM];refine aa (eC f hf ha 1 _ B _ _ _ (by omega) (by simp only[ecost];omega)) ?_;simp only[vqM,vt9,zA,zL,e4];refine bE (.inr rfl) ?_ (aL (Sm.bd _)) (by rw[hx]) (λ_ h=>h) (K6 _);simp only[vqM,vt9,zA,hx,bt,bc,bg]
 ·simp only[Oh,if_true,if_false,or_self]at hx;simp only[vqM,vt9,zA,zB,Oh,decide_true,decide_false];refine aa (be f _ _ B _ _ _ (by omega) (by first|omega|(simp only;omega)) hf.ok) ?_;simp only[vqM,vt9,zA,zL];refine bE (.inr rfl) ?_ (aL (Sm.bd _)) (by rw[hx]) (λ_ h=>h) (K6 _);simp only[vqM,vt9,zA,hx,bt,bc,bg]
 ·simp only[Oh,if_true,if_false,or_self,e13]at hx;simp only[vqM,vt9,zA,zB,Oh,decide_true,decide_false];refine aa (BH f hf ha 1 _ B _ _ _ (by omega) (by simp only[ccost];omega)) ?_;simp only[vqM,vt9,zA,zL,e13];refine bE (.inr rfl) ?_ (aL (Sm.bd _)) (by rw[hx]) (λ_ h=>h) (K6 _);simp only[vqM,vt9,zA,hx,bt,bc]
 ·simp only[Oh,if_false,or_self,e4]at hx;simp only[vqM,vt9,zA,zB,Oh,decide_false];refine aa (be f _ _ B _ _ _ (by omega) (by first|omega|(simp only;omega)) hf.ok) ?_;simp only[vqM];refine aa (eC f hf ha 1 _ B _ _ _ (by omega) (by simp only[ecost];omega)) ?_;simp only[vqM,vt9,zA,zL,e4];refine bE (.inr rfl) ?_ (aL (Sm.bd _)) (by rw[hx]) (λ_ h=>h) (K6 _);simp only[vqM,vt9,zA,hx,bt,bc,bg]
def ownN(c z:Nat):Nat→Own
 |0=>.nil
 |k+1=>.lab (c+k) z
def liveN(L:List Nat)(c:Nat):Nat→List Nat
 |0=>L
 |k+1=>(c+k)::L
theorem qi{c z k:Nat}{xs:List (List D)}{B:List Box}{L:List Nat}(h:∀x∈xs,x.length=z):aZ (ownN c z k) xs z ⟨B,liveN L c k,c+k⟩=Sh:=by
 cases k with
 |zero=>simpa[aZ,ownN]using h
 |succ k=>simp[aZ,ownN,liveN]
theorem nf{c z k:Nat}{B:List Box}{L:List Nat}:St.relab ⟨B,liveN L c k,c+k⟩ (ownN c z k)=⟨B,liveN L c (k+1),c+(k+1)⟩:=by
 cases k with
 |zero=>rfl
 |succ k=>simp[ownN,liveN,St.relab];omega
theorem bu{L:List Nat}{c k i:Nat}(h:i∈L):i∈liveN L c k:=by
 cases k with
 |zero=>exact h
 |succ k=>exact List.mem_cons_of_mem _ h
theorem Ex.encs_app(l:List Ex)(x:Ex):Ex.encs l++[x.cells]=Ex.encs (l++[x]):=by simp[Ex.encs_map]
theorem Ex.encs_len(l:List Ex):(Ex.encs l).length=l.length:=by simp[Ex.encs_map]
theorem Ex.encs_each(l:List Ex):∀x∈Ex.encs l,x.length=4:=by
 intro x hx;rw[Ex.encs_map]at hx;obtain⟨y,_,rfl⟩:=Og.1 hx;exact Ex.cells_len y
theorem Sm.encs_app(l m:List Sm):Sm.encs l++Sm.encs m=Sm.encs (l++m):=by simp[Sm.encs_map]
theorem Sm.encs_len(l:List Sm):(Sm.encs l).length=l.length:=by simp[Sm.encs_map]
theorem Sm.encs_each(l:List Sm):∀x∈Sm.encs l,x.length=20:=by
 intro x hx;rw[Sm.encs_map]at hx;obtain⟨y,_,rfl⟩:=Og.1 hx;exact Sm.cells_len y
theorem bD(l:List Int)(x:Int):aj l++[[.int .i64 x]]=aj (l++[x]):=by simp[aj]
theorem ba(l:List Int):∀x∈aj l,x.length=1:=by
 intro x hx;obtain⟨y,_,rfl⟩:=Og.1 hx;rfl
def z20:List D:=[.int .i64 0,.int .i64 0,.int .i64 0,.int .i64 0,.int .i64 0,.int .i64 0,.int .i64 0,.int .i64 0,.slice .nil [],.int .i64 0,.int .i64 0,.int .i64 0,.slice .nil [],.int .i64 0,.slice .nil [],.slice .nil [],
 .slice .nil [],.slice .nil [],.slice .nil [],.slice .nil []]
def argsK(f:Fd)(m:Mk):Nat→List Ex×Mk
 |0=>([],m)
 |k+1=>((argsK f m k).1++[(expr f 1 (argsK f m k).2).1],(expr f 1 (argsK f m k).2).2)
def ptrsK(f:Fd)(m:Mk):Nat→List Int×Mk
 |0=>([],m)
 |k+1=>((ptrsK f m k).1++[rnd f.bytes (ptrsK f m k).2.pos 2],{ (ptrsK f m k).2 with pos:=(ptrsK f m k).2.pos+1})
theorem jA(f:Fd)(m:Mk):∀k,∃p,(argsK f m k).2={m with pos:=p}∧m.pos≤p∧p≤m.pos+6*k∧(argsK f m k).1.length=k:=by
 intro k;induction k with
 |zero=>exact⟨m.pos,rfl,by omega,by omega,rfl⟩
 |succ k ih =>
  obtain⟨p,h1,h2,h3,h4⟩:=ih;obtain⟨q,h5,h6,h7⟩:=bn f 1 {m with pos:=p};simp only[ecost]at h6 h7;exact⟨q,by simp only[argsK,h1,h5],by omega,by omega,by simp[argsK,h4]⟩
theorem lM(f:Fd)(m:Mk):∀k,∃p,(ptrsK f m k).2={m with pos:=p}∧m.pos≤p∧p≤m.pos+k∧(ptrsK f m k).1.length=k:=by
 intro k;induction k with
 |zero=>exact⟨m.pos,rfl,by omega,by omega,rfl⟩
 |succ k ih =>
  obtain⟨p,h1,h2,h3,h4⟩:=ih;exact⟨p+1,by simp only[ptrsK,h1],by omega,by omega,by simp[ptrsK,h4]⟩
def hdAt(f:Fd)(i:Int):Hd:=match f.heads[i.toNat]? with
 |some h=>h
 |none=>⟨0,0,0,[],[]⟩
def call(f:Fd)(a:Mk):Sm×Mk:=
 let m:Mk:={a with site:=a.site+1,pos:=a.pos+1}
 if f.heads.length=0∨2≤a.done then(stm (a.site+1) 1 (targ f a) 0 0 (num 1) ex0 co0,m)
 else
  let h:=hdAt f (rnd f.bytes (a.pos+1) f.heads.length)
  let p:=argsK f {m with pos:=a.pos+1+1,done:=a.done+1} h.params.length
  let q:=ptrsK f p.2 h.given.length
  (.mk (a.site+1) 13 (targ f a) h.id 0 ex0 ex0 co0 p.1 q.1 [] [],q.2)
structure FxH (f:Fd):Prop extends FxA f where
 hd:∀h∈f.heads,h.params.length≤10∧h.given.length≤10
 hds:f.heads.length≤1000
theorem Mo(f:Fx)(hA:FxH f)(a:Mk)(B T:List Box)(L:List Nat)(c:Nat)(hp:0≤a.pos∧a.pos+100≤1000000)(hs:0≤a.site∧a.site+3≤1000000)(hd:0≤a.done∧a.done≤1000000) :
  az Si 271 [.box B.length 0] ⟨B++.cells (f.cells a)::T,L,c⟩ (.agg (call f a).1.cells) ⟨B++.cells (f.cells (call f a).2)::T,L,c⟩:=by
 have hf:=hA.toFxV;have ha:=hA.arr.2;refine az.introN [(4,.stop),(13,.text [Se,Se,Se,Se,Se,Se,Se,Se,Se,Se,Se,Se,Se,Se,Se,Se,Se,Se,Se,Se,Se,Se,Se,Sh,Se,Sh,Se,Sh,Se,Sh] [(1,1),(1,2),(3,1),(7,1)]),(14,.text [Se,Se,Se,Sh,Se,Sh,Se,Sh] [(1,1)]),(18,.text [Se,Se,Se,Sh,Se,Sh,Se,Sh] [(1,1)])] func271 rfl (by decide) aA (by kernel_rfl) [Sz 2 130] 148 rfl rfl ?_;simp only[vqM,mX,zA,zS,zB];refine aa (jF f a B _ L c (by omega)) ?_;simp only[vqM];refine aa (eR f _ B _ _ _ hf (by simp only;omega)) ?_;simp only[vqM];refine aa (uZ _ _) ?_;simp only[vqM,mX,zA,zL,zB,aw];have hx:call f a=call f a:=rfl;conv at hx=>rhs;unfold call
 by_cases h0:f.heads.length=0
 ·have h0t:((f.heads.length:Int)=0)=True:=eq_true (by omega);simp only[h0,true_or,if_true]at hx;simp only[vqM,mX,zA,zB,h0t,decide_true];rw[hx];refine bE (.inr rfl) ?_ (aL (Sm.bd _)) rfl (λ_ h=>h) (K6 _);simp only[vqM,mX,zA,bt,bc,bg,targ]
 ·have h0t:((f.heads.length:Int)=0)=False:=eq_false (by omega);simp only[vqM,mX,zA,h0t,decide_false];by_cases h2:2≤a.done
  ·simp only[h2,or_true,if_true]at hx;simp only[vqM,mX,zA,zB,h2,decide_true];rw[hx];refine bE (.inr rfl) ?_ (aL (Sm.bd _)) rfl (λ_ h=>h) (K6 _);simp only[vqM,mX,zA,bt,bc,bg,targ]
  ·have hw1:SA.wrap (a.done+1)=a.done+1:=aK (by omega);simp only[h0,h2,or_self,if_false]at hx;have hr1:0≤rnd f.bytes (a.pos+1) f.heads.length:=aP hf.ok;have hr2:rnd f.bytes (a.pos+1) f.heads.length<f.heads.length:=bO (by omega);have hlt:(rnd f.bytes (a.pos+1) f.heads.length).toNat<f.heads.length:=by omega
   have hg:(aO f.heads)[(rnd f.bytes (a.pos+1) f.heads.length).toNat]?=Sd (hdAt f (rnd f.bytes (a.pos+1) f.heads.length)).cells:=by
    simp[aO,hdAt,K4 hlt]
   have hmem:hdAt f (rnd f.bytes (a.pos+1) f.heads.length)∈f.heads:=by
    simp only[hdAt,K4 hlt];exact NY hlt
   generalize hdAt f (rnd f.bytes (a.pos+1) f.heads.length)=h at hx hg hmem;obtain⟨hpl,hgl⟩:=hA.hd h hmem;simp only[vqM,mX,zA,zB,h2,decide_false];refine eI aA [12,15,16] [⟨[0,1,2,3,4,5,6,7,8,9,10,11,12,13,14,15,16],[(4,1),(4,2),(14,2)]⟩,⟨[0,1,2,3,4,5,6,7,8,9,10,11,15,12,13,14,16],[(4,1),(4,2),(10,1),(11,1)]⟩] (by kernel_rfl) λpl hpl=>?_;simp only[NX,Ot,or_false]at hpl;rcases hpl with rfl|rfl
   all_goals
    simp only[vqM,mX,zA,zB,List.getD_cons_zero,List.getD_cons_succ,List.contains_cons,List.contains_nil,Bool.or_false,Bool.or_true,aw];refine aa (be f _ _ B _ _ _ (by omega) (by first|omega|(simp only;omega)) hf.ok) ?_;simp only[vqM,mX,zA,zL,zB,aw,hr1,hg,hw1];have htg:targ f {pos:=a.pos,site:=a.site+1,left:=a.left,loop:=a.loop,done:=a.done}=targ f a:=rfl;rw[htg];generalize targ f a=tg at hx⊢;generalize hm1:({pos:=a.pos+1+1,site:=a.site+1,left:=a.left,loop:=a.loop,done:=a.done+1}:Mk)=m1 at hx⊢;have hm1p:m1.pos=a.pos+1+1:=by rw[←hm1]
    refine ae [0,2,3,4,5] ?_;simp only[vke,zB,zA];refine cx aA h.params.length (λk=>[.box B.length 0,J,.box (B.length+(T.length+1)) 0,.box (B.length+(T.length+1+1)) 0,.box (B.length+(T.length+2+1)) 0,.int .i64 (k:Int),J,J,J,J,J,J,J,J,J,J,J,J,J,J,J,J,J,J,J,J,J,J,J,J,J,J,J,J,J,J,J,J,J,J,J,J,J,J,J,J,J,J,J,J,J,J,J,J,J,J,J,J,J,J,J,J,J,J,J,J,J,J,J,J,J,J,J,J,J,J,J,J,J,J,J,J,J,J,J,J,J,J,J,J,J,J,J,J,J,J,J,J,J,J,J,J,J,J,J,J,J,J,J,J,J,J,J,J,J,J,J,J,J,J,J,J,J,J,J,J,J,J,J,J,J,J,J,J,J,J,J,J,J,J,J,J,J,J,J,J,J,J])
     (λk=>⟨B++.cells (f.cells (argsK f m1 k).2)::(T++[.cells z20,.cells [.int .i64 (a.site+1),.int .i64 13,.int .i64 tg,.int .i64 h.id,.int .i64 0,.int .i64 0,.int .i64 0,.int .i64 0,.slice .nil [],.int .i64 0,.int .i64 0,.int .i64 0,.slice .nil [],.int .i64 0,.slice .nil [],.slice .nil [],.slice (ownN c 4 k) (Ex.encs (argsK f m1 k).1),.slice .nil [],.slice .nil [],.slice .nil []],.cells h.cells]),liveN L c k,c+k⟩) (λ_=>True) ?_ ?_ 0 (L7 _) trivial
    ·intro k hk _ ih;obtain⟨p,q1,q2,q3,q4⟩:=jA f m1 k;have hkl:((k:Int)<(h.params.length:Int))=True:=eq_true (by omega);have hA1:Ex.encs (argsK f m1 k).1++[(expr f 1 (argsK f m1 k).2).1.cells]=Ex.encs (argsK f m1 (k+1)).1:=by rw[Ex.encs_app];rfl
     have hl1:(k+1≤1000000)=True:=eq_true (by omega);have hof:∀B',aZ (ownN c 4 k) (Ex.encs (argsK f m1 k).1) 4 ⟨B',liveN L c k,c+k⟩=Sh:=λB'=>qi (Ex.encs_each _);simp only[vqM,mX,zA,zB,hkl,decide_true,au,z20];refine aa (eC f hf ha 1 _ B _ _ _ (by omega) (by rw[q1];simp only[ecost];omega)) ?_;simp only[vqM,mX,zA,zM,zL,hof,nf,Ex.encs_len,q4,hl1];rw[hA1,ap (by omega)];refine ae [0,2,3,4,5] ?_;simp only[vke,zB,zA];exact ih trivial
    ·intro _;have hkl:((h.params.length:Int)<(h.params.length:Int))=False:=eq_false (by omega);obtain⟨p,q1,q2,q3,q4⟩:=jA f m1 h.params.length;have hpos2:(argsK f m1 h.params.length).2.pos=p:=by rw[q1]
     generalize argsK f m1 h.params.length=w at hx hpos2⊢;obtain⟨al,m2⟩:=w;simp only at hpos2;simp only[vqM,mX,zA,zB,hkl,decide_false,au,z20];refine ae [0,2,3,4,6] ?_;simp only[vke,zB,zA];refine cx aA h.given.length (λk=>[.box B.length 0,J,.box (B.length+(T.length+1)) 0,.box (B.length+(T.length+1+1)) 0,.box (B.length+(T.length+2+1)) 0,J,.int .i64 (k:Int),J,J,J,J,J,J,J,J,J,J,J,J,J,J,J,J,J,J,J,J,J,J,J,J,J,J,J,J,J,J,J,J,J,J,J,J,J,J,J,J,J,J,J,J,J,J,J,J,J,J,J,J,J,J,J,J,J,J,J,J,J,J,J,J,J,J,J,J,J,J,J,J,J,J,J,J,J,J,J,J,J,J,J,J,J,J,J,J,J,J,J,J,J,J,J,J,J,J,J,J,J,J,J,J,J,J,J,J,J,J,J,J,J,J,J,J,J,J,J,J,J,J,J,J,J,J,J,J,J,J,J,J,J,J,J,J,J,J,J,J,J])
      (λk=>⟨B++.cells (f.cells (ptrsK f m2 k).2)::(T++[.cells z20,.cells [.int .i64 (a.site+1),.int .i64 13,.int .i64 tg,.int .i64 h.id,.int .i64 0,.int .i64 0,.int .i64 0,.int .i64 0,.slice .nil [],.int .i64 0,.int .i64 0,.int .i64 0,.slice .nil [],.int .i64 0,.slice .nil [],.slice .nil [],.slice (ownN c 4 h.params.length) (Ex.encs al),.slice (ownN (c+h.params.length) 1 k) (aj (ptrsK f m2 k).1),.slice .nil [],.slice .nil []],.cells h.cells]),liveN (liveN L c h.params.length) (c+h.params.length) k,c+h.params.length+k⟩) (λ_=>True) ?_ ?_ 0 (L7 _) trivial
     ·intro k hk _ ih;obtain⟨p2,r1,r2,r3,r4⟩:=lM f m2 k;have hkl:((k:Int)<(h.given.length:Int))=True:=eq_true (by omega);have hA1:aj (ptrsK f m2 k).1++[[.int .i64 (rnd f.bytes (ptrsK f m2 k).2.pos 2)]]=aj (ptrsK f m2 (k+1)).1:=by rw[bD];rfl
      have hl1:(k+1≤1000000)=True:=eq_true (by omega);have hof:∀B',aZ (ownN (c+h.params.length) 1 k) (aj (ptrsK f m2 k).1) 1 ⟨B',liveN (liveN L c h.params.length) (c+h.params.length) k,c+h.params.length+k⟩=Sh:=λB'=>qi (ba _);simp only[vqM,mX,zA,zB,hkl,decide_true,au,z20];refine aa (be f _ _ B _ _ _ (by omega) (by rw[r1];simp only;omega) hf.ok) ?_;simp only[vqM,mX,zA,zM,zL,hof,nf,ab,r4,hl1];rw[hA1,ap (by omega)];refine ae [0,2,3,4,6] ?_;simp only[vke,zB,zA];exact ih trivial
     ·intro _;have hkl:((h.given.length:Int)<(h.given.length:Int))=False:=eq_false (by omega);simp only[vqM,mX,zA,zB,hkl,decide_false,au,z20];rw[hx];refine bE (.inr rfl) ?_ (aL (Sm.bd _)) rfl (λ_ h=>bu (bu h)) (by omega);simp only[vqM,mX,zA,Sm.cells,bc,bg,Sm.encs]
structure Sg (m m':Mk):Prop where
 p1:m.pos≤m'.pos
 p2:m'.pos≤m.pos+90
 s1:m.site<m'.site
 s2:m'.site≤m.site+3
 l:m'.left=m.left
 lo:m'.loop=m.loop
 d1:m.done≤m'.done
 d2:m'.done≤m.done+1
theorem zl{f:Fd}(hf:rX f)(h0:¬f.heads.length=0)(p:Int):hdAt f (rnd f.bytes p f.heads.length)∈f.heads:=by
 have hr1:0≤rnd f.bytes p f.heads.length:=aP hf;have hr2:rnd f.bytes p f.heads.length<f.heads.length:=bO (by omega);have hlt:(rnd f.bytes p f.heads.length).toNat<f.heads.length:=by omega
 simp only[hdAt,K4 hlt];exact NY hlt
theorem Bs(f:Fd)(hA:FxH f)(a:Mk):Sg a (call f a).2:=by
 have hf:=hA.toFxV;by_cases h0:f.heads.length=0∨2≤a.done
 ·have hx:call f a=(stm (a.site+1) 1 (targ f a) 0 0 (num 1) ex0 co0,{a with site:=a.site+1,pos:=a.pos+1}):=by unfold call;rw[if_pos h0]
  rw[hx];exact⟨by simp only;omega,by simp only;omega,by simp only;omega,by simp only;omega,rfl,rfl,Pw _,by simp only;omega⟩
 ·have hm:=zl hf.ok (λh=>h0 (.inl h)) (a.pos+1);have hx:call f a=call f a:=rfl;conv at hx=>rhs;unfold call
  rw[if_neg h0]at hx;generalize hdAt f (rnd f.bytes (a.pos+1) f.heads.length)=h at hx hm;obtain⟨hpl,hgl⟩:=hA.hd h hm;generalize hm1:({pos:=a.pos+1+1,site:=a.site+1,left:=a.left,loop:=a.loop,done:=a.done+1}:Mk)=m1 at hx;obtain⟨p,q1,q2,q3,q4⟩:=jA f m1 h.params.length;obtain⟨p2,r1,r2,r3,r4⟩:=lM f (argsK f m1 h.params.length).2 h.given.length;have he:(call f a).2={a with pos:=p2,site:=a.site+1,done:=a.done+1}:=by
   rw[hx];show(ptrsK f (argsK f m1 h.params.length).2 h.given.length).2=_;rw[r1,q1,←hm1]
  have e1:(argsK f m1 h.params.length).2.pos=p:=by rw[q1]
  rw[e1]at r2 r3;have e2:m1.pos=a.pos+1+1:=by rw[←hm1]
  rw[he];exact⟨by simp only;omega,by simp only;omega,by simp only;omega,by simp only;omega,rfl,rfl,by simp only;omega,by simp only;omega⟩
def other(f:Fd)(k d:Int)(a:Mk):List Sm×Mk:=
 if 4≤k∧k<10 then([(call f a).1],(call f a).2)
 else if k=10 then([stm (a.site+1) 14 0 0 (1+rnd f.bytes a.pos 3) ex0 ex0 co0],{a with site:=a.site+1,pos:=a.pos+1})
 else if k=11∧d<2 then([stm (a.site+1) 24 0 0 0 (expr f 1 {a with site:=a.site+1}).1 ex0 co0],(expr f 1 {a with site:=a.site+1}).2)
 else if k<4 then fK f a
 else([(jS f a).1],(jS f a).2)
theorem lO(f:Fd)(hA:FxH f)(k d:Int)(a:Mk):Sg a (other f k d a).2:=by
 unfold other;split
 ·exact Bs f hA a
 split
 ·exact⟨by simp only;omega,by simp only;omega,by simp only;omega,by simp only;omega,rfl,rfl,Pw _,by simp only;omega⟩
 split
 ·obtain⟨p,e1,e2,e3⟩:=bn f 1 {a with site:=a.site+1};simp only[ecost]at e2 e3;simp only[e1];exact⟨by simp only;omega,by simp only;omega,by simp only;omega,by simp only;omega,rfl,rfl,Pw _,by simp only;omega⟩
 split
 ·obtain⟨p,s,e1,e2,e3,e4,e5⟩:=kz f a;rw[e1];exact⟨by simp only;omega,by simp only;omega,by simp only;omega,by simp only;omega,rfl,rfl,Pw _,by simp only;omega⟩
 ·obtain⟨p,e1,e2,e3⟩:=qK f hA.toFxV a;simp only[e1];exact⟨by simp only;omega,by simp only;omega,by simp only;omega,by simp only;omega,rfl,rfl,Pw _,by simp only;omega⟩
theorem I0(f:Fx)(hA:FxH f)(k d:Int)(a:Mk)(B T:List Box)(L:List Nat)(c:Nat)(hp:0≤a.pos∧a.pos+100≤1000000)(hs:0≤a.site∧a.site+3≤1000000)(hd:0≤a.done∧a.done≤1000000) :
  az Si 225 [.box B.length 0,.int .i64 k,.int .i64 d] ⟨B++.cells (f.cells a)::T,L,c⟩ (.slice .none (Sm.encs (other f k d a).1)) ⟨B++.cells (f.cells (other f k d a).2)::T,L,c⟩:=by
 have hf:=hA.toFxV;have ha:=hA.arr.2;have hw3:∀p,SA.wrap (1+rnd f.bytes p 3)=1+rnd f.bytes p 3:=λp=>aK (by have h1:=@aP _ p 3 hf.ok;have:=@bO f.bytes p 3 (by omega);omega);refine az.introN [] func225 rfl (by decide) aA (by kernel_rfl) [Sy 6] 57 rfl rfl ?_;simp only[vqM,zA,zS];have hx:other f k d a=other f k d a:=rfl;conv at hx=>rhs;unfold other
 by_cases h4:4≤k
 ·by_cases h10:k<10
  ·rw[if_pos ⟨h4,h10⟩]at hx;rw[hx];simp only[vqM,h4,h10,decide_true];refine aa (Mo f hA _ B _ _ _ (by omega) (by omega) (by omega)) ?_;simp only[vqM,kU,zA,zM,zL];refine gY (.inr rfl) ?_ (aV (Sm.bds _)) rfl;simp only[vqM,Sm.encs]
  ·rw[if_neg (λh=>h10 h.2)]at hx;have hn4:(k<4)=False:=eq_false (by omega);simp only[vqM,h4,h10,decide_true,decide_false];by_cases e10:k=10
   ·rw[if_pos e10]at hx;rw[hx];have e10t:(k=10)=True:=eq_true e10;simp only[vqM,kU,zA,e10t,decide_true];refine aa (jF f a B _ L c (by omega)) ?_;simp only[vqM];refine aa (be f _ _ B _ _ _ (by omega) (by first|omega|(simp only;omega)) hf.ok) ?_;simp only[vqM,kU,zA,zM,zL,hw3];refine gY (.inr rfl) ?_ (aV (Sm.bds _)) rfl;simp only[vqM,Sm.encs,bt,bc,bg]
   ·rw[if_neg e10]at hx;have e10t:(k=10)=False:=eq_false e10;simp only[vqM,e10t,decide_false];by_cases e11:k=11
    ·have e11t:(k=11)=True:=eq_true e11;by_cases d2:d<2
     ·rw[if_pos ⟨e11,d2⟩]at hx;rw[hx];simp only[vqM,e11t,d2,decide_true];refine aa (jF f a B _ L c (by omega)) ?_;simp only[vqM];refine aa (eC f hf ha 1 _ B _ _ _ (by omega) (by simp only[ecost];omega)) ?_;simp only[vqM,kU,zA,zM,zL];refine gY (.inr rfl) ?_ (aV (Sm.bds _)) rfl;simp only[vqM,Sm.encs,bt,bc,bg]
     ·rw[if_neg (λh=>d2 h.2),if_neg (by omega)]at hx;rw[hx];simp only[vqM,kU,zA,e11t,d2,decide_true,decide_false,hn4];refine aa (B8 f hA.toFxA _ B _ _ _ (by omega) (by omega)) ?_;simp only[vqM,kU,zA,zM,zL];refine gY (.inr rfl) ?_ (aV (Sm.bds _)) rfl;simp only[vqM,Sm.encs]
    ·have e11t:(k=11)=False:=eq_false e11;rw[if_neg (λh=>e11 h.1),if_neg (by omega)]at hx;rw[hx];simp only[vqM,kU,zA,e11t,decide_false,hn4];refine aa (B8 f hA.toFxA _ B _ _ _ (by omega) (by omega)) ?_;simp only[vqM,kU,zA,zM,zL];refine gY (.inr rfl) ?_ (aV (Sm.bds _)) rfl;simp only[vqM,Sm.encs]
 ·have hn4:(k<4)=True:=eq_true (by omega);have e10t:(k=10)=False:=eq_false (by omega);have e11t:(k=11)=False:=eq_false (by omega);rw[if_neg (λh=>h4 h.1),if_neg (by omega),if_neg (by omega),if_pos (by omega)]at hx;rw[hx];simp only[vqM,h4,decide_true,decide_false,hn4,e10t,e11t];refine aa (FQ f hf ha _ B _ _ _ (by omega) (by omega)) ?_;simp only[vqM];refine gY (.inr rfl) ?_ (aV (Sm.bds _)) rfl;simp only[vqM]
def kj(ns:Int→Mk→Option (Sm×Mk))(f:Fd)(d:Int)(q:List Sm×Mk):List Sm×Mk:=
 match ns (rnd f.bytes q.2.pos 16) {q.2 with left:=q.2.left-1,pos:=q.2.pos+1}with
 |some r=>(q.1++[r.1],r.2)
 |none=>(q.1++(other f (rnd f.bytes q.2.pos 16) d {q.2 with left:=q.2.left-1,pos:=q.2.pos+1}).1,(other f (rnd f.bytes q.2.pos 16) d {q.2 with left:=q.2.left-1,pos:=q.2.pos+1}).2)
def itK(ns:Int→Mk→Option (Sm×Mk))(f:Fd)(d:Int)(a:Mk):Nat→List Sm×Mk
 |0=>([],a)
 |k+1=>if 0<(itK ns f d a k).2.left then kj ns f d (itK ns f d a k)else itK ns f d a k
def oL(it:Mk→Nat→List Sm×Mk)(f:Fd)(a:Mk)(c:Co×Mk):Sm×Mk:=
 let b:=it {c.2 with pos:=c.2.pos+1+1,loop:=c.2.loop+1} (1+rnd f.bytes (c.2.pos+1) 2).toNat
 (.mk (a.site+1) 12 0 0 (1+rnd f.bytes c.2.pos 3) ex0 ex0 c.1 [] [] b.1 [],{b.2 with loop:=b.2.loop-1})
def Fz(it:Mk→Nat→List Sm×Mk)(f:Fd)(a:Mk):Sm×Mk:=
 let b:=it {a with site:=a.site+1,pos:=a.pos+1+1} (1+rnd f.bytes (a.pos+1) 2).toNat
 let e:=it {b.2 with pos:=b.2.pos+1} (rnd f.bytes b.2.pos 2).toNat
 (.mk (a.site+1) 15 (targ f a) 0 0 ex0 ex0 co0 [] [] b.1 e.1,e.2)
def ifS(it:Mk→Nat→List Sm×Mk)(f:Fd)(a:Mk)(c:Co×Mk):Sm×Mk:=
 let b:=it {c.2 with pos:=c.2.pos+1} (1+rnd f.bytes c.2.pos 2).toNat
 let e:=it {b.2 with pos:=b.2.pos+1} (rnd f.bytes b.2.pos 2).toNat
 (.mk (a.site+1) 11 0 0 0 ex0 ex0 c.1 [] [] b.1 e.1,e.2)
def nestS(f:Fd):Nat→Int→Mk→Option (Sm×Mk)
 |0,_,_=>Sf
 |d+1,k,a =>
  if k<4∨7<k then Sf
  else if k=6 then Sd (oL (itK (nestS f d) f d) f a (cond f 1 {a with site:=a.site+1}))
  else if k=7 then Sd (Fz (itK (nestS f d) f d) f a)
  else Sd (ifS (itK (nestS f d) f d) f a (cond f 1 {a with site:=a.site+1}))
def stmts(f:Fd)(d:Nat)(n:Int)(a:Mk):List Sm×Mk:=itK (nestS f d) f d a n.toNat
structure Gr (m m':Mk):Prop where
 p1:m.pos≤m'.pos
 p2:m'.pos+200*m'.left≤m.pos+200*m.left
 s1:m.site≤m'.site
 s2:m'.site+4*m'.left≤m.site+4*m.left
 l1:m'.left≤m.left
 l0:0≤m.left→0≤m'.left
 lo:m'.loop=m.loop
 d1:m.done≤m'.done
 d2:m'.done+m'.left≤m.done+m.left
structure NGr (m m':Mk):Prop where
 p1:m.pos≤m'.pos
 p2:m'.pos+200*m'.left≤m.pos+200*m.left+199
 s1:m.site<m'.site
 s2:m'.site+4*m'.left≤m.site+4*m.left+3
 l1:m'.left≤m.left
 l0:0≤m.left→0≤m'.left
 lo:m'.loop=m.loop
 d1:m.done≤m'.done
 d2:m'.done+m'.left≤m.done+m.left+1
theorem Gr.refl(m:Mk):Gr m m:=⟨Pw _,Pw _,Pw _,Pw _,Pw _,id,rfl,Pw _,Pw _⟩
theorem Gr.trans{a b c:Mk}(h:Gr a b)(k:Gr b c):Gr a c:=
 ⟨Qa h.p1 k.p1,Qa k.p2 h.p2,Qa h.s1 k.s1,Qa k.s2 h.s2,Qa k.l1 h.l1,λx=>k.l0 (h.l0 x),k.lo.trans h.lo,Qa h.d1 k.d1,Qa k.d2 h.d2⟩
theorem NGr.of_sg{m m':Mk}(h:Sg m m'):NGr m m':=by
 obtain⟨a,b,c,d,e,f,g,i⟩:=h;exact⟨a,by omega,c,by omega,by omega,λx=>by omega,f,g,by omega⟩
theorem Gr.step{q m':Mk}{x:Int}(hl:0<q.left)(hm:NGr {q with left:=q.left-1,pos:=q.pos+1} m'):Gr q m':=by
 obtain⟨a,b,c,d,e,e0,f,g,i⟩:=hm;simp only at a b c d e e0 f g i;exact⟨by omega,by omega,by omega,by omega,by omega,λ_=>e0 (by omega),f,g,by omega⟩
theorem CK{ns:Int→Mk→Option (Sm×Mk)}{f:Fd}(hA:FxH f)(hn:∀k m r,ns k m=Sd r→NGr m r.2)(d:Int)(q:List Sm×Mk)(hl:0<q.2.left):Gr q.2 (kj ns f d q).2:=by
 unfold kj;split
 ·rename_i r hr;exact Gr.step (x:=0) hl (hn _ _ _ hr)
 ·exact Gr.step (x:=0) hl (NGr.of_sg (lO f hA _ _ _))
theorem jU{ns:Int→Mk→Option (Sm×Mk)}{f:Fd}(hA:FxH f)(hn:∀k m r,ns k m=Sd r→NGr m r.2)(d:Int)(a:Mk):∀k,Gr a (itK ns f d a k).2:=by
 intro k;induction k with
 |zero=>exact Gr.refl a
 |succ k ih =>
  simp only[itK];split
  ·rename_i hl;exact ih.trans (CK hA hn d _ hl)
  ·exact ih
theorem cV{f:Fd}(hA:FxH f):∀(d:Nat)(k:Int)(a:Mk)(r:Sm×Mk),nestS f d k a=Sd r→NGr a r.2:=by
 intro d;induction d with
 |zero=>intro k a r h;cases h
 |succ d ih =>
  intro k a r h;have hit:=λa n=>jU hA ih d a n;obtain⟨p,e1,e2,e3⟩:=dX f 1 {a with site:=a.site+1};simp only[ccost]at e2 e3;simp only[nestS]at h;split at h
  ·cases h
  split at h
  ·cases h;simp only[oL,e1];generalize hg:itK (nestS f d) f d _ _=b;have:=hit {a with site:=a.site+1,pos:=p+1+1,loop:=a.loop+1} (1+rnd f.bytes (p+1) 2).toNat
   rw[hg]at this;obtain⟨q1,q2,q3,q4,q5,q6,q7,q8,q9⟩:=this;simp only at q1 q2 q3 q4 q5 q6 q7 q8 q9;exact⟨by simp only;omega,by simp only;omega,by simp only;omega,by simp only;omega,by simp only;omega,λx=>by simp only;omega,by simp only;omega,by simp only;omega,by simp only;omega⟩
  split at h
  ·cases h;simp only[Fz];have h1:=hit {a with site:=a.site+1,pos:=a.pos+1+1} (1+rnd f.bytes (a.pos+1) 2).toNat;generalize itK (nestS f d) f d {a with site:=a.site+1,pos:=a.pos+1+1} (1+rnd f.bytes (a.pos+1) 2).toNat=b at h1⊢;have h2:=hit {b.2 with pos:=b.2.pos+1} (rnd f.bytes b.2.pos 2).toNat;generalize itK (nestS f d) f d {b.2 with pos:=b.2.pos+1} (rnd f.bytes b.2.pos 2).toNat=e at h2⊢;obtain⟨q1,q2,q3,q4,q5,q6,q7,q8,q9⟩:=h1;obtain⟨r1,r2,r3,r4,r5,r6,r7,r8,r9⟩:=h2;simp only at q1 q2 q3 q4 q5 q6 q7 q8 q9 r1 r2 r3 r4 r5 r6 r7 r8 r9;exact⟨by omega,by omega,by omega,by omega,by omega,λx=>by omega,by omega,by omega,by omega⟩
  ·cases h;simp only[ifS,e1];have h1:=hit {a with site:=a.site+1,pos:=p+1} (1+rnd f.bytes p 2).toNat;generalize itK (nestS f d) f d {a with site:=a.site+1,pos:=p+1} (1+rnd f.bytes p 2).toNat=b at h1⊢;have h2:=hit {b.2 with pos:=b.2.pos+1} (rnd f.bytes b.2.pos 2).toNat;generalize itK (nestS f d) f d {b.2 with pos:=b.2.pos+1} (rnd f.bytes b.2.pos 2).toNat=e at h2⊢;obtain⟨q1,q2,q3,q4,q5,q6,q7,q8,q9⟩:=h1;obtain⟨r1,r2,r3,r4,r5,r6,r7,r8,r9⟩:=h2;simp only at q1 q2 q3 q4 q5 q6 q7 q8 q9 r1 r2 r3 r4 r5 r6 r7 r8 r9;exact⟨by omega,by omega,by omega,by omega,by omega,λx=>by omega,by omega,by omega,by omega⟩
structure Rdy (d:Nat) (m:Mk):Prop where
 p:0≤m.pos∧m.pos+200*m.left≤900000
 s:0≤m.site∧m.site+4*m.left≤900000
 l:0≤m.left
 dn:0≤m.done∧m.done+m.left≤900000
 lo:0≤m.loop∧m.loop+d≤1000
structure NRdy (d:Nat) (m:Mk):Prop where
 p:0≤m.pos∧m.pos+200*m.left+199≤900000
 s:0≤m.site∧m.site+4*m.left+4≤900000
 l:0≤m.left
 dn:0≤m.done∧m.done+m.left+1≤900000
 lo:0≤m.loop∧m.loop+d≤1000
theorem Rdy.gr{d:Nat}{m m':Mk}(h:Rdy d m)(g:Gr m m'):Rdy d m':=by
 obtain⟨⟨a1,a2⟩,⟨b1,b2⟩,c1,⟨d1,d2⟩,e1,e2⟩:=h;obtain⟨q1,q2,q3,q4,q5,q6,q7,q8,q9⟩:=g;exact⟨⟨by omega,by omega⟩,⟨by omega,by omega⟩,q6 c1,⟨by omega,by omega⟩,by omega,by omega⟩
theorem Rdy.step{d:Nat}{m:Mk}(h:Rdy d m)(hl:0<m.left):NRdy d {m with left:=m.left-1,pos:=m.pos+1}:=by
 obtain⟨⟨a1,a2⟩,⟨b1,b2⟩,c1,⟨d1,d2⟩,e1,e2⟩:=h;exact⟨⟨by simp only;omega,by simp only;omega⟩,⟨b1,by simp only;omega⟩,by simp only;omega,⟨d1,by simp only;omega⟩,e1,e2⟩
def sm0:Sm:=.mk 0 0 0 0 0 ex0 ex0 co0 [] [] [] []
def zg:Option (Sm×Mk)→D
 |some r=>.tup [.agg r.1.cells,.bool Sh]
 |none=>.tup [.agg sm0.cells,.bool Se]
def nMk(a:Mk):Option (Sm×Mk)→Mk
 |some r=>r.2
 |none=>a
def dE(c z:Nat):Nat→Own
 |0=>.full
 |k+1=>.lab (c+k) z
theorem cv{c z k:Nat}{xs:List (List D)}{B:List Box}{L:List Nat}(h:∀x∈xs,x.length=z):aZ (dE c z k) xs z ⟨B,liveN L c k,c+k⟩=Sh:=by
 cases k with
 |zero=>simpa[aZ,dE]using h
 |succ k=>simp[aZ,dE,liveN]
theorem aX{c z k:Nat}{B:List Box}{L:List Nat}:St.relab ⟨B,liveN L c k,c+k⟩ (dE c z k)=⟨B,liveN L c (k+1),c+(k+1)⟩:=by
 cases k with
 |zero=>rfl
 |succ k=>simp[dE,liveN,St.relab];omega
theorem vL(f:Fd)(k d:Int)(a:Mk):(other f k d a).1.length≤3:=by
 unfold other;split
 ·simp
 split
 ·simp
 split
 ·simp
 split
 ·unfold fK;dsimp only;split
  ·simp
  split
  ·simp
  split
  ·simp
  split
  ·simp
  split
  ·simp
  split
  ·simp
  ·simp
 ·simp
theorem MQ{ns:Int→Mk→Option (Sm×Mk)}{f:Fd}{d:Int}{a:Mk}:∀k,(itK ns f d a k).1.length≤3*k:=by
 intro k;induction k with
 |zero=>simp[itK]
 |succ k ih =>
  simp only[itK];split
  ·unfold kj;split
   ·simp;omega
   ·rw[K5];have:=vL f (rnd f.bytes (itK ns f d a k).2.pos 16) d { (itK ns f d a k).2 with left:=(itK ns f d a k).2.left-1,pos:=(itK ns f d a k).2.pos+1};dsimp only at this⊢;omega
  ·omega
theorem Ke{ns:Int→Mk→Option (Sm×Mk)}{f:Fd}{d:Int}{a:Mk}{k:Nat}(h:¬0<(itK ns f d a k).2.left):∀j,itK ns f d a (k+j)=itK ns f d a k:=by
 intro j;induction j with
 |zero=>rfl
 |succ j ih=>rw[←Nat.add_assoc];simp only[itK,ih,if_neg h]
theorem B7(f:Fx)(hA:FxH f)(d:Nat)
  (HN:∀(k:Int)(a:Mk)(B T:List Box)(L:List Nat)(c:Nat),NRdy d a→az Si 224 [.box B.length 0,.int .i64 k,.int .i64 d] ⟨B++.cells (f.cells a)::T,L,c⟩ (zg (nestS f d k a)) ⟨B++.cells (f.cells (nMk a (nestS f d k a)))::T,L,c⟩)
  (n:Int) (a:Mk) (B T:List Box) (L:List Nat) (c:Nat) (hn:n≤100) (hR:Rdy d a) :
  az Si 172 [.box B.length 0,.int .i64 n,.int .i64 d] ⟨B++.cells (f.cells a)::T,L,c⟩ (.slice .none (Sm.encs (stmts f d n a).1)) ⟨B++.cells (f.cells (stmts f d n a).2)::T,L,c⟩:=by
 have hf:=hA.toFxV;refine az.introN [] func172 rfl (by decide) aA (by kernel_rfl) [Sy 6] 53 rfl rfl ?_;simp only[vqM,wF,zA,zS,zM];refine ae [0,1,2,7,8] ?_;simp only[vke,zB,zA];refine aE aA n.toNat (λk e s=>e=[.box B.length 0,.int .i64 n,.int .i64 d,J,J,J,J,.slice (dE c 20 k) (Sm.encs (itK (nestS f d) f d a k).1),.int .i64 (k:Int),J,J,J,J,J,J,J,J,J,J,J,J,J,J,J,J,J,J,J,J,J,J,J,J,J,J,J,J,J,J,J,J,J,J,J,J,J,J,J,J,J,J,J,J] ∧
  ∃X,s=⟨B++.cells (f.cells (itK (nestS f d) f d a k).2)::(T++X),liveN L c k,c+k⟩) ?_ ?_ 0 _ _ (L7 _) ⟨rfl,[],by simp only[itK,liveN,Oq,Nat.add_zero]⟩
 ·rintro k e s hk ⟨rfl,X,rfl⟩ ih;have hkl:((k:Int)<n)=True:=eq_true (by omega);have hq:=hR.gr (jU hA (cV hA d) d a k);have hlen:=MQ (ns:=nestS f d) (f:=f) (d:=d) (a:=a) k;have hsu:itK (nestS f d) f d a (k+1)=if 0<(itK (nestS f d) f d a k).2.left then kj (nestS f d) f d (itK (nestS f d) f d a k)else itK (nestS f d) f d a k:=rfl
  have hst:=Ke (ns:=nestS f d) (f:=f) (d:=d) (a:=a) (k:=k);generalize itK (nestS f d) f d a k=q at hq hlen hsu hst⊢;obtain⟨l,m⟩:=q;simp only at hq hlen;by_cases hl:0<m.left
  ·have hwl:SA.wrap (m.left-1)=m.left-1:=aK (by have:=hq.p;have:=hq.l;omega);have hq2:=hq.step hl;simp only[hl,if_true,kj]at hsu;simp only[vqM,wF,zA,zL,hkl,decide_true,hl,hwl];refine aa (be f _ _ B _ _ _ (by omega) (by have:=hq.p;have:=hq.l;simp only;omega) hf.ok) ?_;simp only[vqM];refine aa (HN _ _ B _ _ _ hq2) ?_;have hof:∀B',aZ (dE c 20 k) (Sm.encs l) 20 ⟨B',liveN L c k,c+k⟩=Sh:=λB'=>cv (Sm.encs_each _);cases hns:nestS f d (rnd f.bytes m.pos 16) {m with left:=m.left-1,pos:=m.pos+1}with
   |some r =>
    rw[hns]at hsu;simp only at hsu;have hA1:Sm.encs l++[r.1.cells]=Sm.encs (l++[r.1]):=Sm.encs_app l [r.1];have hl1:(l.length+1≤1000000)=True:=eq_true (by omega);simp only[vqM,wF,zA,zM,zL,zg,nMk,hof,aX,Sm.encs_len,hl1];rw[hA1,ap (by omega)];refine ae [0,1,2,7,8] ?_;simp only[vke,zB,zA];refine ih _ _ ?_;rw[hsu];exact⟨rfl,_,rfl⟩
   |none =>
    rw[hns]at hsu;simp only at hsu;have ho:=vL f (rnd f.bytes m.pos 16) d {m with left:=m.left-1,pos:=m.pos+1};have hl1:(l.length+(other f (rnd f.bytes m.pos 16) d {m with left:=m.left-1,pos:=m.pos+1}).1.length≤1000000)=True:=eq_true (by omega);simp only[vqM,wF,zA,zg,nMk];refine aa (I0 f hA _ _ _ B _ _ _ (by have:=hq2.p;have:=hq2.l;simp only at *;omega) (by have:=hq2.s;have:=hq2.l;simp only at *;omega) (by have:=hq2.dn;have:=hq2.l;simp only at *;omega)) ?_;simp only[vqM,wF,zA,zL,hof];refine aB (Sm.encs_each _) ?_;simp only[vqM,aX,Sm.encs_len,hl1,Sm.encs_app];rw[ap (by omega)];refine ae [0,1,2,7,8] ?_;simp only[vke,zB,zA];refine ih _ _ ?_;rw[hsu];exact⟨rfl,_,rfl⟩
  ·have hx:stmts f d n a=(l,m):=by
    have:=hst hl (n.toNat-k)
    rw[show k+(n.toNat-k)=n.toNat by omega]at this;exact this
   simp only[vqM,wF,zA,hkl,decide_true,hl,decide_false];rw[hx];refine bE (.inr rfl) ?_ (aV (Sm.bds _)) rfl (λ_ h=>bu h) (by omega);simp only[vqM]
 ·rintro e s ⟨rfl,X,rfl⟩;have hkl:((n.toNat:Int)<n)=False:=eq_false (by omega);simp only[vqM,hkl,decide_false];refine bE (.inr rfl) ?_ (aV (Sm.bds _)) rfl (λ_ h=>bu h) (by omega);simp only[vqM,stmts]
theorem qb:sm0.cells=[.int .i64 0,.int .i64 0,.int .i64 0,.int .i64 0,.int .i64 0,.int .i64 0,.int .i64 0,.int .i64 0,.slice .none [],.int .i64 0,.int .i64 0,.int .i64 0,.slice .none [],.int .i64 0,.slice .none [],.slice .none [],
 .slice .none [],.slice .none [],.slice .none [],.slice .none []]:=rfl
theorem cQ{nb nl:Nat}{a b:D}(ha:Bd nb nl a)(hb:Bd nb nl b):Bd nb nl (.tup [a,b]):=.tup _ λi hi=>by
 match i,hi with
 |0,_=>exact ha
 |1,_=>exact hb
theorem FS(f:Fx)(hA:FxH f):∀(d:Nat)(k:Int)(a:Mk)(B T:List Box)(L:List Nat)(c:Nat),NRdy d a →
  az Si 224 [.box B.length 0,.int .i64 k,.int .i64 d] ⟨B++.cells (f.cells a)::T,L,c⟩ (zg (nestS f d k a)) ⟨B++.cells (f.cells (nMk a (nestS f d k a)))::T,L,c⟩:=by
 have hf:=hA.toFxV;have ha:=hA.arr.2;intro d;induction d with
 |zero =>
  intro k a B T L c hR;refine az.introN [] func224 rfl (by decide) aA (by kernel_rfl) [Sz 6 130,Sy 7] 81 rfl rfl ?_;simp only[vqM,iv,zA,zS,decide_true];rw[show nestS f 0 k a=Sf from rfl];refine bE (.inr rfl) ?_ (cQ (aL (Sm.bd _)) (.bool _)) rfl (λ_ h=>h) (K6 _);simp only[vqM,iv,zA,qb,zg]
 |succ d ih =>
  have hS:=λn a B T L c=>B7 f hA d ih n a B T L c;intro k a B T L c hR;have hz:(((d+1:Nat):Int)=0)=False:=by simp;omega
  have hlo:=hR.lo;have hwd:SA.wrap (((d+1:Nat):Int)-1)=d:=by rw[aK (by omega)];omega
  have hgr:=jU hA (cV hA d) d;obtain⟨⟨hp1,hp2⟩,⟨hs1,hs2⟩,hl1,⟨hd1,hd2⟩,hlo1,hlo2⟩:=hR;have hw3:∀p,SA.wrap (1+rnd f.bytes p 3)=1+rnd f.bytes p 3:=λp=>aK (by have h1:=@aP _ p 3 hf.ok;have:=@bO f.bytes p 3 (by omega);omega);have hw2:∀p,SA.wrap (1+rnd f.bytes p 2)=1+rnd f.bytes p 2:=λp=>aK (by have h1:=@aP _ p 2 hf.ok;have:=@bO f.bytes p 2 (by omega);omega);have hwlo:SA.wrap (a.loop+1)=a.loop+1:=aK (by omega);have hr2:∀p,rnd f.bytes p 2<2:=λp=>bO (by omega);refine az.introN [] func224 rfl (by decide) aA (by kernel_rfl) [Sz 6 130,Sy 7] 81 rfl rfl ?_;simp only[vqM,iv,zA,zS,hz,decide_false];have hx:nestS f (d+1) k a=nestS f (d+1) k a:=rfl;conv at hx=>rhs;unfold nestS
  by_cases h4:k<4
  ·rw[if_pos (.inl h4)]at hx;rw[hx];simp only[vqM,iv,zA,h4,decide_true];refine bE (.inr rfl) ?_ (cQ (aL (Sm.bd _)) (.bool _)) rfl (λ_ h=>h) (K6 _);simp only[vqM,iv,zA,qb,zg]
  ·by_cases h7:7<k
   ·rw[if_pos (.inr h7)]at hx;rw[hx];simp only[vqM,iv,zA,h4,h7,decide_true,decide_false];refine bE (.inr rfl) ?_ (cQ (aL (Sm.bd _)) (.bool _)) rfl (λ_ h=>h) (K6 _);simp only[vqM,iv,zA,qb,zg]
   ·rw[if_neg (by omega)]at hx;simp only[vqM,h4,h7,decide_false];refine aa (jF f a B _ L c (by omega)) ?_;simp only[vqM,iv,zA,zL];obtain⟨p,e1,e2,e3⟩:=dX f 1 {a with site:=a.site+1};simp only[ccost]at e2 e3;by_cases h6:k=6
    ·have h6t:(k=6)=True:=eq_true h6;rw[if_pos h6]at hx;simp only[vqM,iv,zA,zL,h6t,decide_true];refine aa (BH f hf ha 1 _ B _ _ _ (by omega) (by simp only[ccost];omega)) ?_;simp only[vqM,iv,zA,zL,e1];refine aa (be f _ _ B _ _ _ (by omega) (by first|omega|(simp only;omega)) hf.ok) ?_;simp only[vqM,iv,zA,zL,hw3,hwlo];refine aa (be f _ _ B _ _ _ (by omega) (by first|omega|(simp only;omega)) hf.ok) ?_;simp only[vqM,hw2,hwd];refine aa (hS _ _ B _ _ _ (by have:=hr2 (p+1);omega) ⟨⟨by simp only;omega,by simp only;omega⟩,⟨by simp only;omega,by simp only;omega⟩,hl1,⟨hd1,by simp only;omega⟩,⟨by simp only;omega,by simp only;omega⟩⟩) ?_;simp only[oL,e1]at hx;have hg:=hgr {a with site:=a.site+1,pos:=p+1+1,loop:=a.loop+1} (1+rnd f.bytes (p+1) 2).toNat;simp only[stmts];generalize itK (nestS f d) f d {a with site:=a.site+1,pos:=p+1+1,loop:=a.loop+1} (1+rnd f.bytes (p+1) 2).toNat=b at hx hg⊢;have hlb:=hg.lo;simp only at hlb;have hwb:SA.wrap (b.2.loop-1)=b.2.loop-1:=aK (by omega);simp only[vqM,iv,zA,zL,hwb];rw[hx];refine bE (.inr rfl) ?_ (cQ (aL (Sm.bd _)) (.bool _)) rfl (λ_ h=>h) (K6 _);simp only[vqM,iv,zA,zg,Sm.cells,bc,Ex.encs,aj,Sm.encs]
    ·have h6t:(k=6)=False:=eq_false h6;rw[if_neg h6]at hx;simp only[vqM,h6t,decide_false];by_cases h77:k=7
     ·have h7t:(k=7)=True:=eq_true h77;rw[if_pos h77]at hx;simp only[vqM,iv,zA,zL,h7t,decide_true];refine aa (eR f _ B _ _ _ hf (by simp only;omega)) ?_;simp only[vqM,iv,zA,zL];refine aa (be f _ _ B _ _ _ (by omega) (by first|omega|(simp only;omega)) hf.ok) ?_;simp only[vqM,hw2,hwd];refine aa (hS _ _ B _ _ _ (by have:=hr2 (a.pos+1);omega) ⟨⟨by simp only;omega,by simp only;omega⟩,⟨by simp only;omega,by simp only;omega⟩,hl1,⟨hd1,by simp only;omega⟩,⟨by simp only;omega,by simp only;omega⟩⟩) ?_;simp only[Fz]at hx;have hg:=hgr {a with site:=a.site+1,pos:=a.pos+1+1} (1+rnd f.bytes (a.pos+1) 2).toNat;simp only[stmts];generalize itK (nestS f d) f d {a with site:=a.site+1,pos:=a.pos+1+1} (1+rnd f.bytes (a.pos+1) 2).toNat=b at hx hg⊢;obtain⟨q1,q2,q3,q4,q5,q6,q7,q8,q9⟩:=hg;simp only at q1 q2 q3 q4 q5 q6 q7 q8 q9;simp only[vqM,iv,zA,zL];refine aa (be f _ _ B _ _ _ (by omega) (by first|omega|(simp only;omega)) hf.ok) ?_;simp only[vqM,hwd];refine aa (hS _ _ B _ _ _ (by have:=hr2 b.2.pos;omega) ⟨⟨by simp only;omega,by simp only;omega⟩,⟨by simp only;omega,by simp only;omega⟩,by simp only;omega,⟨by simp only;omega,by simp only;omega⟩,⟨by simp only;omega,by simp only;omega⟩⟩) ?_;simp only[vqM,iv,zA,stmts];rw[hx];refine bE (.inr rfl) ?_ (cQ (aL (Sm.bd _)) (.bool _)) rfl (λ_ h=>h) (K6 _);simp only[vqM,iv,zA,zg,Sm.cells,bc,bg,Ex.encs,aj,targ]
     ·have h7t:(k=7)=False:=eq_false h77;rw[if_neg h77]at hx;simp only[vqM,h7t,decide_false];refine aa (BH f hf ha 1 _ B _ _ _ (by omega) (by simp only[ccost];omega)) ?_;simp only[vqM,iv,zA,zL,e1];refine aa (be f _ _ B _ _ _ (by omega) (by first|omega|(simp only;omega)) hf.ok) ?_;simp only[vqM,hw2,hwd];refine aa (hS _ _ B _ _ _ (by have:=hr2 p;omega) ⟨⟨by simp only;omega,by simp only;omega⟩,⟨by simp only;omega,by simp only;omega⟩,hl1,⟨hd1,by simp only;omega⟩,⟨by simp only;omega,by simp only;omega⟩⟩) ?_;simp only[ifS,e1]at hx;have hg:=hgr {a with site:=a.site+1,pos:=p+1} (1+rnd f.bytes p 2).toNat;simp only[stmts];generalize itK (nestS f d) f d {a with site:=a.site+1,pos:=p+1} (1+rnd f.bytes p 2).toNat=b at hx hg⊢;obtain⟨q1,q2,q3,q4,q5,q6,q7,q8,q9⟩:=hg;simp only at q1 q2 q3 q4 q5 q6 q7 q8 q9;simp only[vqM,iv,zA,zL];refine aa (be f _ _ B _ _ _ (by omega) (by first|omega|(simp only;omega)) hf.ok) ?_;simp only[vqM,hwd];refine aa (hS _ _ B _ _ _ (by have:=hr2 b.2.pos;omega) ⟨⟨by simp only;omega,by simp only;omega⟩,⟨by simp only;omega,by simp only;omega⟩,by simp only;omega,⟨by simp only;omega,by simp only;omega⟩,⟨by simp only;omega,by simp only;omega⟩⟩) ?_;simp only[vqM,iv,zA,stmts];rw[hx];refine bE (.inr rfl) ?_ (cQ (aL (Sm.bd _)) (.bool _)) rfl (λ_ h=>h) (K6 _);simp only[vqM,iv,zA,zg,Sm.cells,bc,Ex.encs,aj]
end Go.V
