/-
  The value-level logic and its contracts, part 4 (texts F, K1, K2, K3, K4, K5, K6, K7, K8).
-/
import Derived.Test.YtlobjjbchnjfiaaGreatBpre3
import Derived.Test.YtlobjjbchnjfiaaGreatProg
open List renaming take_of_length_le→Mo,drop_append→Ny,drop_of_length_le→M8,take_append→NU,length_append→K4,append_nil→MK,replicate→MD,getElem_mem→Mf,mem_cons→Mj,not_mem_nil→MX,mem_map→MB,getElem?_eq_none→MS,getElem?_append_left→ML,getElem?_eq_getElem→C0
open Nat renaming le_refl→K5,zero_le→K9
open Option renaming map_eq_some_iff→MQ
open Int renaming tmod_nonneg→Oz,tmod_lt_of_pos→Ob,reduceEq→MC,le_refl→NH,le_trans→NY
open Nat renaming reduceAdd → zA, reduceSub → zS, reduceMul → zM, reduceLeDiff → zL, reduceEqDiff → zE, reduceBEq → zB
open Go.V.D renaming junk → J
set_option linter.all false
set_option linter.unusedSimpArgs false
set_option linter.unusedVariables false
set_option linter.unnecessarySimpa false
set_option maxHeartbeats 4000000
open Option renaming some→Qv
open Bool renaming false→Qw
open Option renaming none→Qx
open Bool renaming true→Qy
open Go.Proofs.Tryz renaming prog→Qz
open Go renaming Program→QA
open Go.ResultVar renaming tmp→QO,cell→QP
open Go.IntKind renaming i64→QQ
open And renaming intro→QJ
namespace Go.V
open Go.Proofs Go.Proofs.Tryz
theorem tf3:(aS Qz 3=Qv Qw)∧(sizeT Qz 3=Qv 1)∧(zeroD Qz 3=Qv (.int .i64 0))∧(zeroT Qz 3=Qv [.int .i64 0])∧(Qz.underlying 3=Qv (.int .i64)):=by and_intros<;>kernel_rfl
theorem tf4:(aS Qz 4=Qv Qw)∧(sizeT Qz 4=Qv 1)∧(zeroD Qz 4=Qv (.bool Qw))∧(zeroT Qz 4=Qv [.bool Qw])∧(Qz.underlying 4=Qv .bool):=by and_intros<;>kernel_rfl
theorem tf5:(aS Qz 5=Qv Qw)∧(sizeT Qz 5=Qv 1)∧(zeroD Qz 5=Qv (.int .u8 0))∧(zeroT Qz 5=Qv [.int .u8 0])∧(Qz.underlying 5=Qv (.int .u8)):=by and_intros<;>kernel_rfl
theorem tf9:(aS Qz 9=Qv Qw)∧(sizeT Qz 9=Qv 1)∧(zeroD Qz 9=Qv (.str ⟨#[]⟩))∧(zeroT Qz 9=Qv [.str ⟨#[]⟩])∧(Qz.underlying 9=Qv .string):=by and_intros<;>kernel_rfl
theorem Jr:(aS Qz 22=Qv Qw)∧(sizeT Qz 22=Qv 1)∧(zeroD Qz 22=Qv (.slice .nil []))∧(zeroT Qz 22=Qv [.slice .nil []])∧(elemT Qz 22=Qv (5,1,1,Qw))∧(Qz.underlying 22=Qv (.slice 5)):=by and_intros<;>kernel_rfl
theorem Gn:(aS Qz 24=Qv Qy)∧(sizeT Qz 24=Qv 1)∧(zeroD Qz 24=Qv (.agg [.slice .nil []]))∧(zeroT Qz 24=Qv [.slice .nil []])∧(bc Qz 24=Qy)∧(fieldT Qz 24 0=Qv (0,1,Qw))∧(aF Qz 24 0=Qv (0,1)):=by and_intros<;>kernel_rfl
theorem tf25:(aS Qz 25=Qv Qw)∧(sizeT Qz 25=Qv 1)∧(zeroD Qz 25=Qv (.slice .nil []))∧(zeroT Qz 25=Qv [.slice .nil []])∧(elemT Qz 25=Qv (28,4,4,Qy))∧(Qz.underlying 25=Qv (.slice 28)):=by and_intros<;>kernel_rfl
theorem Jo:(aS Qz 27=Qv Qy)∧(sizeT Qz 27=Qv 2)∧(zeroD Qz 27=Qv (.agg [.slice .nil [],.slice .nil []]))∧(zeroT Qz 27=Qv [.slice .nil [],.slice .nil []])∧(bc Qz 27=Qy)∧(fieldT Qz 27 0=Qv (0,1,Qy))∧(aF Qz 27 0=Qv (0,1))∧(fieldT Qz 27 1=Qv (1,1,Qw))∧(aF Qz 27 1=Qv (1,1)):=by and_intros<;>kernel_rfl
theorem Gm:(aS Qz 28=Qv Qy)∧(sizeT Qz 28=Qv 4)∧(zeroD Qz 28=Qv (.agg [.int .u8 0,.int .u8 0,.int .u8 0,.int .u8 0]))∧(zeroT Qz 28=Qv [.int .u8 0,.int .u8 0,.int .u8 0,.int .u8 0])∧(bc Qz 28=Qy)∧(BD Qz 28=Qv (4,1))∧(aF Qz 28 0=Qv (0,1))∧(aF Qz 28 1=Qv (1,1))∧(aF Qz 28 2=Qv (2,1))∧(aF Qz 28 3=Qv (3,1)):=by and_intros<;>kernel_rfl
theorem dS:(aS Qz 30=Qv Qw)∧(sizeT Qz 30=Qv 1)∧(zeroD Qz 30=Qv (.slice .nil []))∧(zeroT Qz 30=Qv [.slice .nil []])∧(elemT Qz 30=Qv (178,3,24,Qy))∧(Qz.underlying 30=Qv (.slice 178)):=by and_intros<;>kernel_rfl
theorem qE:(aS Qz 31=Qv Qw)∧(sizeT Qz 31=Qv 1)∧(zeroD Qz 31=Qv (.slice .nil []))∧(zeroT Qz 31=Qv [.slice .nil []])∧(elemT Qz 31=Qv (180,4,32,Qy))∧(Qz.underlying 31=Qv (.slice 180)):=by and_intros<;>kernel_rfl
theorem bQ:(aS Qz 32=Qv Qw)∧(sizeT Qz 32=Qv 1)∧(zeroD Qz 32=Qv (.slice .nil []))∧(zeroT Qz 32=Qv [.slice .nil []])∧(elemT Qz 32=Qv (3,1,8,Qw))∧(Qz.underlying 32=Qv (.slice 3)):=by and_intros<;>kernel_rfl
theorem fP:(aS Qz 34=Qv Qy)∧(sizeT Qz 34=Qv 7)∧(zeroD Qz 34=Qv (.agg [.slice .nil [],.slice .nil [],.slice .nil [],.slice .nil [],.int .i64 0,.int .i64 0,.int .i64 0]))∧(zeroT Qz 34=Qv [.slice .nil [],.slice .nil [],.slice .nil [],.slice .nil [],.int .i64 0,.int .i64 0,.int .i64 0])∧(bc Qz 34=Qy)∧(fieldT Qz 34 0=Qv (0,1,Qw))∧(aF Qz 34 0=Qv (0,1))∧(fieldT Qz 34 1=Qv (1,1,Qw))∧(aF Qz 34 1=Qv (1,1))∧(fieldT Qz 34 2=Qv (2,1,Qw))∧(aF Qz 34 2=Qv (2,1))∧(fieldT Qz 34 3=Qv (3,1,Qw))∧(aF Qz 34 3=Qv (3,1))∧(fieldT Qz 34 4=Qv (4,1,Qw))∧(aF Qz 34 4=Qv (4,1))∧(fieldT Qz 34 5=Qv (5,1,Qw))∧(aF Qz 34 5=Qv (5,1))∧(fieldT Qz 34 6=Qv (6,1,Qw))∧(aF Qz 34 6=Qv (6,1)):=by and_intros<;>kernel_rfl
theorem fO:(aS Qz 35=Qv Qw)∧(sizeT Qz 35=Qv 1)∧(zeroD Qz 35=Qv (.slice .nil []))∧(zeroT Qz 35=Qv [.slice .nil []])∧(elemT Qz 35=Qv (54,5,72,Qy))∧(Qz.underlying 35=Qv (.slice 54)):=by and_intros<;>kernel_rfl
theorem cO:(aS Qz 36=Qv Qw)∧(sizeT Qz 36=Qv 1)∧(zeroD Qz 36=Qv (.slice .nil []))∧(zeroT Qz 36=Qv [.slice .nil []])∧(elemT Qz 36=Qv (59,12,168,Qy))∧(Qz.underlying 36=Qv (.slice 59)):=by and_intros<;>kernel_rfl
theorem bE:(aS Qz 38=Qv Qy)∧(sizeT Qz 38=Qv 10)∧(zeroD Qz 38=Qv (.agg [.slice .nil [],.slice .nil [],.slice .nil [],.slice .nil [],.int .i64 0,.int .i64 0,.int .i64 0,.slice .nil [],.slice .nil [],.slice .nil []]))∧(zeroT Qz 38=Qv [.slice .nil [],.slice .nil [],.slice .nil [],.slice .nil [],.int .i64 0,.int .i64 0,.int .i64 0,.slice .nil [],.slice .nil [],.slice .nil []])∧(bc Qz 38=Qy)∧(fieldT Qz 38 0=Qv (0,7,Qy))∧(aF Qz 38 0=Qv (0,7))∧(fieldT Qz 38 1=Qv (7,1,Qw))∧(aF Qz 38 1=Qv (7,1))∧(fieldT Qz 38 2=Qv (8,1,Qw))∧(aF Qz 38 2=Qv (8,1))∧(fieldT Qz 38 3=Qv (9,1,Qw))∧(aF Qz 38 3=Qv (9,1)):=by and_intros<;>kernel_rfl
theorem ig:(aS Qz 39=Qv Qw)∧(sizeT Qz 39=Qv 1)∧(zeroD Qz 39=Qv (.slice .nil []))∧(zeroT Qz 39=Qv [.slice .nil []])∧(elemT Qz 39=Qv (49,7,112,Qy))∧(Qz.underlying 39=Qv (.slice 49)):=by and_intros<;>kernel_rfl
theorem kW:(aS Qz 41=Qv Qy)∧(sizeT Qz 41=Qv 11)∧(zeroD Qz 41=Qv (.agg [.slice .nil [],.slice .nil [],.slice .nil [],.slice .nil [],.int .i64 0,.int .i64 0,.int .i64 0,.slice .nil [],.slice .nil [],.slice .nil [],.slice .nil []]))∧(zeroT Qz 41=Qv [.slice .nil [],.slice .nil [],.slice .nil [],.slice .nil [],.int .i64 0,.int .i64 0,.int .i64 0,.slice .nil [],.slice .nil [],.slice .nil [],.slice .nil []])∧(bc Qz 41=Qy)∧(fieldT Qz 41 0=Qv (0,10,Qy))∧(aF Qz 41 0=Qv (0,10))∧(fieldT Qz 41 1=Qv (10,1,Qw))∧(aF Qz 41 1=Qv (10,1)):=by and_intros<;>kernel_rfl
theorem ie:(aS Qz 43=Qv Qw)∧(sizeT Qz 43=Qv 1)∧(zeroD Qz 43=Qv (.int .i64 0))∧(zeroT Qz 43=Qv [.int .i64 0])∧(Qz.underlying 43=Qv (.int .i64)):=by and_intros<;>kernel_rfl
theorem pE:(aS Qz 45=Qv Qy)∧(sizeT Qz 45=Qv 11)∧(zeroD Qz 45=Qv (.agg [.slice .nil [],.slice .nil [],.slice .nil [],.slice .nil [],.int .i64 0,.int .i64 0,.int .i64 0,.slice .nil [],.slice .nil [],.slice .nil [],.int .i64 0]))∧(zeroT Qz 45=Qv [.slice .nil [],.slice .nil [],.slice .nil [],.slice .nil [],.int .i64 0,.int .i64 0,.int .i64 0,.slice .nil [],.slice .nil [],.slice .nil [],.int .i64 0])∧(bc Qz 45=Qy)∧(fieldT Qz 45 0=Qv (0,10,Qy))∧(aF Qz 45 0=Qv (0,10))∧(fieldT Qz 45 1=Qv (10,1,Qw))∧(aF Qz 45 1=Qv (10,1)):=by and_intros<;>kernel_rfl
theorem AN:(aS Qz 47=Qv Qw)∧(sizeT Qz 47=Qv 1)∧(zeroD Qz 47=Qv (.slice .nil []))∧(zeroT Qz 47=Qv [.slice .nil []])∧(elemT Qz 47=Qv (110,2,16,Qy))∧(Qz.underlying 47=Qv (.slice 110)):=by and_intros<;>kernel_rfl
theorem dr:(aS Qz 49=Qv Qy)∧(sizeT Qz 49=Qv 7)∧(zeroD Qz 49=Qv (.agg [.int .i64 0,.int .i64 0,.int .i64 0,.str ⟨#[]⟩,.slice .nil [],.slice .nil [],.slice .nil []]))∧(zeroT Qz 49=Qv [.int .i64 0,.int .i64 0,.int .i64 0,.str ⟨#[]⟩,.slice .nil [],.slice .nil [],.slice .nil []])∧(bc Qz 49=Qy)∧(fieldT Qz 49 0=Qv (0,1,Qw))∧(aF Qz 49 0=Qv (0,1))∧(fieldT Qz 49 1=Qv (1,1,Qw))∧(aF Qz 49 1=Qv (1,1))∧(fieldT Qz 49 2=Qv (2,1,Qw))∧(aF Qz 49 2=Qv (2,1))∧(fieldT Qz 49 3=Qv (3,1,Qw))∧(aF Qz 49 3=Qv (3,1))∧(fieldT Qz 49 4=Qv (4,1,Qw))∧(aF Qz 49 4=Qv (4,1))∧(fieldT Qz 49 5=Qv (5,1,Qw))∧(aF Qz 49 5=Qv (5,1))∧(fieldT Qz 49 6=Qv (6,1,Qw))∧(aF Qz 49 6=Qv (6,1)):=by and_intros<;>kernel_rfl
theorem dN:(aS Qz 54=Qv Qy)∧(sizeT Qz 54=Qv 5)∧(zeroD Qz 54=Qv (.agg [.int .i64 0,.int .i64 0,.int .i64 0,.slice .nil [],.slice .nil []]))∧(zeroT Qz 54=Qv [.int .i64 0,.int .i64 0,.int .i64 0,.slice .nil [],.slice .nil []])∧(bc Qz 54=Qy)∧(fieldT Qz 54 0=Qv (0,1,Qw))∧(aF Qz 54 0=Qv (0,1))∧(fieldT Qz 54 1=Qv (1,1,Qw))∧(aF Qz 54 1=Qv (1,1))∧(fieldT Qz 54 2=Qv (2,1,Qw))∧(aF Qz 54 2=Qv (2,1))∧(fieldT Qz 54 3=Qv (3,1,Qw))∧(aF Qz 54 3=Qv (3,1))∧(fieldT Qz 54 4=Qv (4,1,Qw))∧(aF Qz 54 4=Qv (4,1)):=by and_intros<;>kernel_rfl
theorem kh:(aS Qz 56=Qv Qw)∧(sizeT Qz 56=Qv 1)∧(zeroD Qz 56=Qv (.slice .nil []))∧(zeroT Qz 56=Qv [.slice .nil []])∧(elemT Qz 56=Qv (199,2,16,Qy))∧(Qz.underlying 56=Qv (.slice 199)):=by and_intros<;>kernel_rfl
theorem eB:(aS Qz 57=Qv Qw)∧(sizeT Qz 57=Qv 1)∧(zeroD Qz 57=Qv (.slice .nil []))∧(zeroT Qz 57=Qv [.slice .nil []])∧(elemT Qz 57=Qv (130,20,288,Qy))∧(Qz.underlying 57=Qv (.slice 130)):=by and_intros<;>kernel_rfl
theorem bg:(aS Qz 59=Qv Qy)∧(sizeT Qz 59=Qv 12)∧(zeroD Qz 59=Qv (.agg [.int .i64 0,.int .i64 0,.str ⟨#[]⟩,.int .i64 0,.int .i64 0,.slice .nil [],.slice .nil [],.int .i64 0,.int .i64 0,.slice .nil [],.int .i64 0,.slice .nil []]))∧(zeroT Qz 59=Qv [.int .i64 0,.int .i64 0,.str ⟨#[]⟩,.int .i64 0,.int .i64 0,.slice .nil [],.slice .nil [],.int .i64 0,.int .i64 0,.slice .nil [],.int .i64 0,.slice .nil []])∧(bc Qz 59=Qy)∧(fieldT Qz 59 0=Qv (0,1,Qw))∧(aF Qz 59 0=Qv (0,1))∧(fieldT Qz 59 1=Qv (1,1,Qw))∧(aF Qz 59 1=Qv (1,1))∧(fieldT Qz 59 2=Qv (2,1,Qw))∧(aF Qz 59 2=Qv (2,1))∧(fieldT Qz 59 3=Qv (3,1,Qw))∧(aF Qz 59 3=Qv (3,1))∧(fieldT Qz 59 4=Qv (4,1,Qw))∧(aF Qz 59 4=Qv (4,1))∧(fieldT Qz 59 5=Qv (5,1,Qw))∧(aF Qz 59 5=Qv (5,1))∧(fieldT Qz 59 6=Qv (6,1,Qw))∧(aF Qz 59 6=Qv (6,1))∧(fieldT Qz 59 7=Qv (7,1,Qw))∧(aF Qz 59 7=Qv (7,1))∧(fieldT Qz 59 8=Qv (8,1,Qw))∧(aF Qz 59 8=Qv (8,1))∧(fieldT Qz 59 9=Qv (9,1,Qw))∧(aF Qz 59 9=Qv (9,1))∧(fieldT Qz 59 10=Qv (10,1,Qw))∧(aF Qz 59 10=Qv (10,1))∧(fieldT Qz 59 11=Qv (11,1,Qw))∧(aF Qz 59 11=Qv (11,1)):=by and_intros<;>kernel_rfl
theorem wX:(aS Qz 61=Qv Qy)∧(sizeT Qz 61=Qv 13)∧(zeroD Qz 61=Qv (.agg [.int .i64 0,.int .i64 0,.str ⟨#[]⟩,.int .i64 0,.int .i64 0,.slice .nil [],.slice .nil [],.int .i64 0,.int .i64 0,.slice .nil [],.int .i64 0,.slice .nil [],.bool Qw]))∧(zeroT Qz 61=Qv [.int .i64 0,.int .i64 0,.str ⟨#[]⟩,.int .i64 0,.int .i64 0,.slice .nil [],.slice .nil [],.int .i64 0,.int .i64 0,.slice .nil [],.int .i64 0,.slice .nil [],.bool Qw])∧(bc Qz 61=Qy)∧(fieldT Qz 61 0=Qv (0,12,Qy))∧(aF Qz 61 0=Qv (0,12))∧(fieldT Qz 61 1=Qv (12,1,Qw))∧(aF Qz 61 1=Qv (12,1)):=by and_intros<;>kernel_rfl
theorem AM:(aS Qz 64=Qv Qy)∧(sizeT Qz 64=Qv 6)∧(zeroD Qz 64=Qv (.agg [.int .i64 0,.int .i64 0,.int .i64 0,.slice .nil [],.slice .nil [],.bool Qw]))∧(zeroT Qz 64=Qv [.int .i64 0,.int .i64 0,.int .i64 0,.slice .nil [],.slice .nil [],.bool Qw])∧(bc Qz 64=Qy)∧(fieldT Qz 64 0=Qv (0,5,Qy))∧(aF Qz 64 0=Qv (0,5))∧(fieldT Qz 64 1=Qv (5,1,Qw))∧(aF Qz 64 1=Qv (5,1)):=by and_intros<;>kernel_rfl
theorem qH:(aS Qz 110=Qv Qy)∧(sizeT Qz 110=Qv 2)∧(zeroD Qz 110=Qv (.agg [.int .i64 0,.int .i64 0]))∧(zeroT Qz 110=Qv [.int .i64 0,.int .i64 0])∧(bc Qz 110=Qy)∧(BD Qz 110=Qv (2,1))∧(aF Qz 110 0=Qv (0,1))∧(aF Qz 110 1=Qv (1,1)):=by and_intros<;>kernel_rfl
theorem Jt:(aS Qz 120=Qv Qw)∧(sizeT Qz 120=Qv 1)∧(zeroD Qz 120=Qv (.slice .nil []))∧(zeroT Qz 120=Qv [.slice .nil []])∧(elemT Qz 120=Qv (9,1,16,Qw))∧(Qz.underlying 120=Qv (.slice 9)):=by and_intros<;>kernel_rfl
theorem cW:(aS Qz 122=Qv Qw)∧(sizeT Qz 122=Qv 1)∧(zeroD Qz 122=Qv (.slice .nil []))∧(zeroT Qz 122=Qv [.slice .nil []])∧(elemT Qz 122=Qv (124,4,48,Qy))∧(Qz.underlying 122=Qv (.slice 124)):=by and_intros<;>kernel_rfl
theorem bK:(aS Qz 124=Qv Qy)∧(sizeT Qz 124=Qv 4)∧(zeroD Qz 124=Qv (.agg [.int .i64 0,.int .i64 0,.int .i64 0,.slice .nil []]))∧(zeroT Qz 124=Qv [.int .i64 0,.int .i64 0,.int .i64 0,.slice .nil []])∧(bc Qz 124=Qy)∧(fieldT Qz 124 0=Qv (0,1,Qw))∧(aF Qz 124 0=Qv (0,1))∧(fieldT Qz 124 1=Qv (1,1,Qw))∧(aF Qz 124 1=Qv (1,1))∧(fieldT Qz 124 2=Qv (2,1,Qw))∧(aF Qz 124 2=Qv (2,1))∧(fieldT Qz 124 3=Qv (3,1,Qw))∧(aF Qz 124 3=Qv (3,1)):=by and_intros<;>kernel_rfl
theorem ki:(aS Qz 126=Qv Qw)∧(sizeT Qz 126=Qv 1)∧(zeroD Qz 126=Qv (.slice .nil []))∧(zeroT Qz 126=Qv [.slice .nil []])∧(elemT Qz 126=Qv (128,3,56,Qy))∧(Qz.underlying 126=Qv (.slice 128)):=by and_intros<;>kernel_rfl
theorem eC:(aS Qz 128=Qv Qy)∧(sizeT Qz 128=Qv 3)∧(zeroD Qz 128=Qv (.agg [.int .i64 0,.slice .nil [],.slice .nil []]))∧(zeroT Qz 128=Qv [.int .i64 0,.slice .nil [],.slice .nil []])∧(bc Qz 128=Qy)∧(fieldT Qz 128 0=Qv (0,1,Qw))∧(aF Qz 128 0=Qv (0,1))∧(fieldT Qz 128 1=Qv (1,1,Qw))∧(aF Qz 128 1=Qv (1,1))∧(fieldT Qz 128 2=Qv (2,1,Qw))∧(aF Qz 128 2=Qv (2,1)):=by and_intros<;>kernel_rfl
theorem bY:(aS Qz 130=Qv Qy)∧(sizeT Qz 130=Qv 20)∧(zeroD Qz 130=Qv (.agg [.int .i64 0,.int .i64 0,.int .i64 0,.int .i64 0,.int .i64 0,.int .i64 0,.int .i64 0,.int .i64 0,.slice .nil [],.int .i64 0,.int .i64 0,.int .i64 0,.slice .nil [],.int .i64 0,.slice .nil [],.slice .nil [],.slice .nil [],.slice .nil [],.slice .nil [],.slice .nil []]))∧(zeroT Qz 130=Qv [.int .i64 0,.int .i64 0,.int .i64 0,.int .i64 0,.int .i64 0,.int .i64 0,.int .i64 0,.int .i64 0,.slice .nil [],.int .i64 0,.int .i64 0,.int .i64 0,.slice .nil [],.int .i64 0,.slice .nil [],.slice .nil [],.slice .nil [],.slice .nil [],.slice .nil [],.slice .nil []])∧(bc Qz 130=Qy)∧(fieldT Qz 130 0=Qv (0,1,Qw))∧(aF Qz 130 0=Qv (0,1))∧(fieldT Qz 130 1=Qv (1,1,Qw))∧(aF Qz 130 1=Qv (1,1))∧(fieldT Qz 130 2=Qv (2,1,Qw))∧(aF Qz 130 2=Qv (2,1))∧(fieldT Qz 130 3=Qv (3,1,Qw))∧(aF Qz 130 3=Qv (3,1))∧(fieldT Qz 130 4=Qv (4,1,Qw))∧(aF Qz 130 4=Qv (4,1))∧(fieldT Qz 130 5=Qv (5,4,Qy))∧(aF Qz 130 5=Qv (5,4))∧(fieldT Qz 130 6=Qv (9,4,Qy))∧(aF Qz 130 6=Qv (9,4))∧(fieldT Qz 130 7=Qv (13,3,Qy))∧(aF Qz 130 7=Qv (13,3))∧(fieldT Qz 130 8=Qv (16,1,Qw))∧(aF Qz 130 8=Qv (16,1))∧(fieldT Qz 130 9=Qv (17,1,Qw))∧(aF Qz 130 9=Qv (17,1))∧(fieldT Qz 130 10=Qv (18,1,Qw))∧(aF Qz 130 10=Qv (18,1))∧(fieldT Qz 130 11=Qv (19,1,Qw))∧(aF Qz 130 11=Qv (19,1)):=by and_intros<;>kernel_rfl
theorem fQ:(aS Qz 134=Qv Qw)∧(sizeT Qz 134=Qv 1)∧(zeroD Qz 134=Qv (.nilm))∧(zeroT Qz 134=Qv [.nilm])∧(Qz.underlying 134=Qv (.map 3 4)):=by and_intros<;>kernel_rfl
theorem nO:(aS Qz 148=Qv Qw)∧(sizeT Qz 148=Qv 1)∧(zeroD Qz 148=Qv (.slice .nil []))∧(zeroT Qz 148=Qv [.slice .nil []])∧(elemT Qz 148=Qv (4,1,1,Qw))∧(Qz.underlying 148=Qv (.slice 4)):=by and_intros<;>kernel_rfl
theorem DK:(aS Qz 169=Qv Qw)∧(sizeT Qz 169=Qv 1)∧(zeroD Qz 169=Qv (.nilf))∧(zeroT Qz 169=Qv [.nilf]):=by and_intros<;>kernel_rfl
theorem DJ:(aS Qz 171=Qv Qw)∧(sizeT Qz 171=Qv 1)∧(zeroD Qz 171=Qv (.nilm))∧(zeroT Qz 171=Qv [.nilm])∧(Qz.underlying 171=Qv (.map 3 169)):=by and_intros<;>kernel_rfl
theorem gV:(aS Qz 175=Qv Qy)∧(sizeT Qz 175=Qv 10)∧(zeroD Qz 175=Qv (.agg [.slice .nil [],.slice .nil [],.slice .nil [],.slice .nil [],.int .i64 0,.int .i64 0,.int .i64 0,.slice .nil [],.slice .nil [],.slice .nil []]))∧(zeroT Qz 175=Qv [.slice .nil [],.slice .nil [],.slice .nil [],.slice .nil [],.int .i64 0,.int .i64 0,.int .i64 0,.slice .nil [],.slice .nil [],.slice .nil []])∧(bc Qz 175=Qy)∧(fieldT Qz 175 0=Qv (0,10,Qy))∧(aF Qz 175 0=Qv (0,10)):=by and_intros<;>kernel_rfl
theorem bJ:(aS Qz 178=Qv Qy)∧(sizeT Qz 178=Qv 3)∧(zeroD Qz 178=Qv (.agg [.int .i64 0,.int .i64 0,.int .i64 0]))∧(zeroT Qz 178=Qv [.int .i64 0,.int .i64 0,.int .i64 0])∧(bc Qz 178=Qy)∧(eqT Qz 178=Qv [(0,.int),(1,.int),(2,.int)])∧(fieldT Qz 178 0=Qv (0,1,Qw))∧(aF Qz 178 0=Qv (0,1))∧(fieldT Qz 178 1=Qv (1,1,Qw))∧(aF Qz 178 1=Qv (1,1))∧(fieldT Qz 178 2=Qv (2,1,Qw))∧(aF Qz 178 2=Qv (2,1)):=by and_intros<;>kernel_rfl
theorem gU:(aS Qz 180=Qv Qy)∧(sizeT Qz 180=Qv 4)∧(zeroD Qz 180=Qv (.agg [.int .i64 0,.int .i64 0,.int .i64 0,.int .i64 0]))∧(zeroT Qz 180=Qv [.int .i64 0,.int .i64 0,.int .i64 0,.int .i64 0])∧(bc Qz 180=Qy)∧(eqT Qz 180=Qv [(0,.int),(1,.int),(2,.int),(3,.int)])∧(fieldT Qz 180 0=Qv (0,1,Qw))∧(aF Qz 180 0=Qv (0,1))∧(fieldT Qz 180 1=Qv (1,3,Qy))∧(aF Qz 180 1=Qv (1,3)):=by and_intros<;>kernel_rfl
theorem DI:(aS Qz 181=Qv Qw)∧(sizeT Qz 181=Qv 1)∧(zeroD Qz 181=Qv (.nilf))∧(zeroT Qz 181=Qv [.nilf]):=by and_intros<;>kernel_rfl
theorem DH:(aS Qz 183=Qv Qw)∧(sizeT Qz 183=Qv 1)∧(zeroD Qz 183=Qv (.nilf))∧(zeroT Qz 183=Qv [.nilf]):=by and_intros<;>kernel_rfl
theorem DG:(aS Qz 184=Qv Qw)∧(sizeT Qz 184=Qv 1)∧(zeroD Qz 184=Qv (.nilf))∧(zeroT Qz 184=Qv [.nilf]):=by and_intros<;>kernel_rfl
theorem DF:(aS Qz 189=Qv Qw)∧(sizeT Qz 189=Qv 1)∧(zeroD Qz 189=Qv (.nilf))∧(zeroT Qz 189=Qv [.nilf]):=by and_intros<;>kernel_rfl
theorem qG:(aS Qz 194=Qv Qy)∧(sizeT Qz 194=Qv 21)∧(zeroD Qz 194=Qv (.agg [.int .i64 0,.int .i64 0,.int .i64 0,.int .i64 0,.int .i64 0,.int .i64 0,.int .i64 0,.int .i64 0,.slice .nil [],.int .i64 0,.int .i64 0,.int .i64 0,.slice .nil [],.int .i64 0,.slice .nil [],.slice .nil [],.slice .nil [],.slice .nil [],.slice .nil [],.slice .nil [],.int .i64 0]))∧(zeroT Qz 194=Qv [.int .i64 0,.int .i64 0,.int .i64 0,.int .i64 0,.int .i64 0,.int .i64 0,.int .i64 0,.int .i64 0,.slice .nil [],.int .i64 0,.int .i64 0,.int .i64 0,.slice .nil [],.int .i64 0,.slice .nil [],.slice .nil [],.slice .nil [],.slice .nil [],.slice .nil [],.slice .nil [],.int .i64 0])∧(bc Qz 194=Qy)∧(fieldT Qz 194 0=Qv (0,20,Qy))∧(aF Qz 194 0=Qv (0,20))∧(fieldT Qz 194 1=Qv (20,1,Qw))∧(aF Qz 194 1=Qv (20,1)):=by and_intros<;>kernel_rfl
theorem eo:(aS Qz 199=Qv Qy)∧(sizeT Qz 199=Qv 2)∧(zeroD Qz 199=Qv (.agg [.int .i64 0,.int .i64 0]))∧(zeroT Qz 199=Qv [.int .i64 0,.int .i64 0])∧(bc Qz 199=Qy)∧(eqT Qz 199=Qv [(0,.int),(1,.int)])∧(fieldT Qz 199 0=Qv (0,1,Qw))∧(aF Qz 199 0=Qv (0,1))∧(fieldT Qz 199 1=Qv (1,1,Qw))∧(aF Qz 199 1=Qv (1,1)):=by and_intros<;>kernel_rfl
theorem fj:(aS Qz 204=Qv Qy)∧(sizeT Qz 204=Qv 29)∧(zeroD Qz 204=Qv (.agg [.slice .nil [],.int .i64 0,.slice .nil [],.slice .nil [],.slice .nil [],.slice .nil [],.int .i64 0,.int .i64 0,.int .i64 0,.slice .nil [],.slice .nil [],.slice .nil [],.int .i64 0,.int .i64 0,.str ⟨#[]⟩,.int .i64 0,.int .i64 0,.slice .nil [],.slice .nil [],.int .i64 0,.int .i64 0,.slice .nil [],.int .i64 0,.slice .nil [],.int .i64 0,.int .i64 0,.int .i64 0,.int .i64 0,.bool Qw]))∧(zeroT Qz 204=Qv [.slice .nil [],.int .i64 0,.slice .nil [],.slice .nil [],.slice .nil [],.slice .nil [],.int .i64 0,.int .i64 0,.int .i64 0,.slice .nil [],.slice .nil [],.slice .nil [],.int .i64 0,.int .i64 0,.str ⟨#[]⟩,.int .i64 0,.int .i64 0,.slice .nil [],.slice .nil [],.int .i64 0,.int .i64 0,.slice .nil [],.int .i64 0,.slice .nil [],.int .i64 0,.int .i64 0,.int .i64 0,.int .i64 0,.bool Qw])∧(bc Qz 204=Qy)∧(fieldT Qz 204 0=Qv (0,1,Qw))∧(aF Qz 204 0=Qv (0,1))∧(fieldT Qz 204 1=Qv (1,1,Qw))∧(aF Qz 204 1=Qv (1,1))∧(fieldT Qz 204 2=Qv (2,10,Qy))∧(aF Qz 204 2=Qv (2,10))∧(fieldT Qz 204 3=Qv (12,12,Qy))∧(aF Qz 204 3=Qv (12,12))∧(fieldT Qz 204 4=Qv (24,1,Qw))∧(aF Qz 204 4=Qv (24,1))∧(fieldT Qz 204 5=Qv (25,1,Qw))∧(aF Qz 204 5=Qv (25,1))∧(fieldT Qz 204 6=Qv (26,1,Qw))∧(aF Qz 204 6=Qv (26,1))∧(fieldT Qz 204 7=Qv (27,1,Qw))∧(aF Qz 204 7=Qv (27,1))∧(fieldT Qz 204 8=Qv (28,1,Qw))∧(aF Qz 204 8=Qv (28,1)):=by and_intros<;>kernel_rfl
theorem qF:(aS Qz 209=Qv Qw)∧(sizeT Qz 209=Qv 1)∧(zeroD Qz 209=Qv (.int .u64 0))∧(zeroT Qz 209=Qv [.int .u64 0])∧(Qz.underlying 209=Qv (.int .u64)):=by and_intros<;>kernel_rfl
theorem tf211:(aS Qz 211=Qv Qy)∧(sizeT Qz 211=Qv 19)∧(zeroD Qz 211=Qv (.agg [.int .i64 0,.int .i64 0,.str ⟨#[]⟩,.int .i64 0,.int .i64 0,.slice .nil [],.slice .nil [],.int .i64 0,.int .i64 0,.slice .nil [],.int .i64 0,.slice .nil [],.slice .nil [],.slice .nil [],.slice .nil [],.slice .nil [],.int .i64 0,.int .i64 0,.int .i64 0]))∧(zeroT Qz 211=Qv [.int .i64 0,.int .i64 0,.str ⟨#[]⟩,.int .i64 0,.int .i64 0,.slice .nil [],.slice .nil [],.int .i64 0,.int .i64 0,.slice .nil [],.int .i64 0,.slice .nil [],.slice .nil [],.slice .nil [],.slice .nil [],.slice .nil [],.int .i64 0,.int .i64 0,.int .i64 0])∧(bc Qz 211=Qy)∧(fieldT Qz 211 0=Qv (0,12,Qy))∧(aF Qz 211 0=Qv (0,12))∧(fieldT Qz 211 1=Qv (12,7,Qy))∧(aF Qz 211 1=Qv (12,7)):=by and_intros<;>kernel_rfl
theorem DE:(aS Qz 212=Qv Qw)∧(sizeT Qz 212=Qv 1)∧(zeroD Qz 212=Qv (.nilf))∧(zeroT Qz 212=Qv [.nilf]):=by and_intros<;>kernel_rfl
theorem DB:(aS Qz 248=Qv Qw)∧(sizeT Qz 248=Qv 1)∧(zeroD Qz 248=Qv (.int .i64 0))∧(zeroT Qz 248=Qv [.int .i64 0])∧(Qz.underlying 248=Qv (.int .i64)):=by and_intros<;>kernel_rfl
theorem Jq:(aS Qz 256=Qv Qw)∧(sizeT Qz 256=Qv 1)∧(zeroD Qz 256=Qv (.int .u32 0))∧(zeroT Qz 256=Qv [.int .u32 0])∧(Qz.underlying 256=Qv (.int .u32)):=by and_intros<;>kernel_rfl
theorem Jp:(aS Qz 258=Qv Qw)∧(sizeT Qz 258=Qv 1)∧(zeroD Qz 258=Qv (.int .u64 0))∧(zeroT Qz 258=Qv [.int .u64 0])∧(Qz.underlying 258=Qv (.int .u64)):=by and_intros<;>kernel_rfl
theorem DA:(aS Qz 260=Qv Qw)∧(sizeT Qz 260=Qv 1)∧(zeroD Qz 260=Qv (.int .i64 0))∧(zeroT Qz 260=Qv [.int .i64 0])∧(Qz.underlying 260=Qv (.int .i64)):=by and_intros<;>kernel_rfl
theorem Dz:(aS Qz 262=Qv Qy)∧(sizeT Qz 262=Qv 9)∧(zeroD Qz 262=Qv (.agg [.int .i64 0,.int .i64 0,.int .i64 0,.bool Qw,.bool Qw,.bool Qw,.bool Qw,.bool Qw,.bool Qw]))∧(zeroT Qz 262=Qv [.int .i64 0,.int .i64 0,.int .i64 0,.bool Qw,.bool Qw,.bool Qw,.bool Qw,.bool Qw,.bool Qw])∧(bc Qz 262=Qy)∧(eqT Qz 262=Qv [(0,.int),(1,.int),(2,.int),(3,.bool),(4,.bool),(5,.bool),(6,.bool),(7,.bool),(8,.bool)])∧(fieldT Qz 262 0=Qv (0,1,Qw))∧(aF Qz 262 0=Qv (0,1))∧(fieldT Qz 262 1=Qv (1,1,Qw))∧(aF Qz 262 1=Qv (1,1))∧(fieldT Qz 262 2=Qv (2,1,Qw))∧(aF Qz 262 2=Qv (2,1))∧(fieldT Qz 262 3=Qv (3,1,Qw))∧(aF Qz 262 3=Qv (3,1))∧(fieldT Qz 262 4=Qv (4,1,Qw))∧(aF Qz 262 4=Qv (4,1))∧(fieldT Qz 262 5=Qv (5,1,Qw))∧(aF Qz 262 5=Qv (5,1))∧(fieldT Qz 262 6=Qv (6,1,Qw))∧(aF Qz 262 6=Qv (6,1))∧(fieldT Qz 262 7=Qv (7,1,Qw))∧(aF Qz 262 7=Qv (7,1))∧(fieldT Qz 262 8=Qv (8,1,Qw))∧(aF Qz 262 8=Qv (8,1)):=by and_intros<;>kernel_rfl
theorem Dy:(aS Qz 265=Qv Qw)∧(sizeT Qz 265=Qv 1)∧(zeroD Qz 265=Qv (.nilf))∧(zeroT Qz 265=Qv [.nilf]):=by and_intros<;>kernel_rfl
theorem Dx:(aS Qz 312=Qv Qy)∧(sizeT Qz 312=Qv 9)∧(zeroD Qz 312=Qv (.agg [.int .i64 0,.int .i64 0,.bool Qw,.bool Qw,.bool Qw,.bool Qw,.bool Qw,.bool Qw,.bool Qw]))∧(zeroT Qz 312=Qv [.int .i64 0,.int .i64 0,.bool Qw,.bool Qw,.bool Qw,.bool Qw,.bool Qw,.bool Qw,.bool Qw])∧(bc Qz 312=Qy)∧(eqT Qz 312=Qv [(0,.int),(1,.int),(2,.bool),(3,.bool),(4,.bool),(5,.bool),(6,.bool),(7,.bool),(8,.bool)])∧(fieldT Qz 312 0=Qv (0,1,Qw))∧(aF Qz 312 0=Qv (0,1))∧(fieldT Qz 312 1=Qv (1,1,Qw))∧(aF Qz 312 1=Qv (1,1))∧(fieldT Qz 312 2=Qv (2,1,Qw))∧(aF Qz 312 2=Qv (2,1))∧(fieldT Qz 312 3=Qv (3,1,Qw))∧(aF Qz 312 3=Qv (3,1))∧(fieldT Qz 312 4=Qv (4,1,Qw))∧(aF Qz 312 4=Qv (4,1))∧(fieldT Qz 312 5=Qv (5,1,Qw))∧(aF Qz 312 5=Qv (5,1))∧(fieldT Qz 312 6=Qv (6,1,Qw))∧(aF Qz 312 6=Qv (6,1))∧(fieldT Qz 312 7=Qv (7,1,Qw))∧(aF Qz 312 7=Qv (7,1))∧(fieldT Qz 312 8=Qv (8,1,Qw))∧(aF Qz 312 8=Qv (8,1)):=by and_intros<;>kernel_rfl
theorem Jn:(aS Qz 335=Qv Qy)∧(sizeT Qz 335=Qv 2)∧(zeroD Qz 335=Qv (.agg [.int .i64 0,.int .i64 0]))∧(zeroT Qz 335=Qv [.int .i64 0,.int .i64 0])∧(bc Qz 335=Qy)∧(eqT Qz 335=Qv [(0,.int),(1,.int)])∧(fieldT Qz 335 0=Qv (0,1,Qw))∧(aF Qz 335 0=Qv (0,1))∧(fieldT Qz 335 1=Qv (1,1,Qw))∧(aF Qz 335 1=Qv (1,1)):=by and_intros<;>kernel_rfl
def vt6:=QJ @tf3<|QJ @kh<|QJ @bg<|QJ @bK<|QJ @eo @fj
def vt7:=QJ @tf3<|QJ @bK<|QJ @ki @eC
def vt8:=QJ @tf3<|QJ @eB<|QJ @bK @bY
def vt9:=QJ @tf3<|QJ @kh<|QJ @bg<|QJ @bY<|QJ @eo @fj
def mS:=QJ @tf3<|QJ @tf4<|QJ @dS<|QJ @bQ<|QJ @fO<|QJ @bE<|QJ @dN<|QJ @cW<|QJ @bK<|QJ @bY<|QJ @bJ @fj
def kz:=QJ @tf3<|QJ @tf4<|QJ @eB<|QJ @bY @fj
def u0:=QJ @tf3<|QJ @eB<|QJ @bY @fj
def ic:=QJ @tf3<|QJ @eB<|QJ @eC<|QJ @bY @fj
def Gk:=QJ @tf3<|QJ @dS<|QJ @dN<|QJ @bg @bJ
def fJ:=QJ @tf3<|QJ @tf4<|QJ @tf9<|QJ @dS<|QJ @bQ<|QJ @fO<|QJ @cO<|QJ @bE<|QJ @dN<|QJ @kh<|QJ @eB<|QJ @bg<|QJ @bY<|QJ @bJ<|QJ @eo @fj
def vt16:=QJ @tf3<|QJ @dS<|QJ @qE<|QJ @bQ<|QJ @fP<|QJ @bJ @gU
def kV:=QJ @tf3<|QJ @tf5<|QJ @Jr<|QJ @Gn<|QJ @dS<|QJ @bQ<|QJ @cO<|QJ @bE<|QJ @bg<|QJ @bJ @fj
def iV:=QJ @tf3<|QJ @dS @bJ
def Gj:=QJ @tf3<|QJ @tf4<|QJ @dS<|QJ @bJ @DI
def AK:=QJ @tf3<|QJ @qE @gU
def Gi:=QJ @tf3<|QJ @tf4<|QJ @qE<|QJ @gU @DH
def bM:=QJ @tf3 @bQ
def Gg:=QJ @tf3<|QJ @tf4<|QJ @bQ @DG
def AJ:=QJ @tf3<|QJ @kh @eo
def Gf:=QJ @tf3<|QJ @tf4<|QJ @kh<|QJ @eo @DE
def vt31:=QJ @tf3<|QJ @cW @bK
def Ge:=QJ @tf3<|QJ @tf4<|QJ @cW<|QJ @bK @Dy
def kd:=QJ @tf3<|QJ @cO @bg
def vt37:=QJ @tf3<|QJ @tf4<|QJ @kh<|QJ @bg<|QJ @cW<|QJ @bK<|QJ @eo @tf211
def vt38:=QJ @tf3<|QJ @tf4<|QJ @cW<|QJ @bK<|QJ @ki<|QJ @eC<|QJ @tf211 @Jn
def vt42:=QJ @tf3<|QJ @dS<|QJ @qE<|QJ @bQ<|QJ @fP<|QJ @kh<|QJ @bg<|QJ @bJ<|QJ @gU<|QJ @eo<|QJ @tf211 @DA
def vt44:=QJ @tf3<|QJ @tf4<|QJ @bQ<|QJ @eB<|QJ @cW<|QJ @bK<|QJ @ki<|QJ @eC<|QJ @bY<|QJ @tf211<|QJ @DA @Dz
def sT:=QJ @tf3<|QJ @tf4<|QJ @eB<|QJ @bY @qG
def oz:=QJ @tf3<|QJ @eB @bY
def fF:=QJ @tf3<|QJ @bQ<|QJ @eB<|QJ @bg<|QJ @bY @qG
def vt48:=QJ @tf3<|QJ @tf4<|QJ @tf5 @tf9
def vt50:=QJ @tf3<|QJ @tf4<|QJ @tf9<|QJ @dS<|QJ @fP<|QJ @ie<|QJ @kh<|QJ @eB<|QJ @bg<|QJ @bY<|QJ @fQ<|QJ @bJ<|QJ @qG<|QJ @eo @tf211
def D1:=QJ @tf3<|QJ @cO<|QJ @bE @bg
def wV:=QJ @tf3<|QJ @fO<|QJ @bE @dN
def vt53:=QJ @tf3<|QJ @dS<|QJ @fP<|QJ @bE<|QJ @dN @bJ
def ls:=QJ @tf3<|QJ @fO @dN
def Gc:=QJ @tf3<|QJ @tf4<|QJ @fO<|QJ @dN @DF
def vt57:=QJ @tf3<|QJ @tf4<|QJ @dS<|QJ @bQ<|QJ @fP<|QJ @bE<|QJ @ie<|QJ @dN<|QJ @eB<|QJ @bg<|QJ @cW<|QJ @bK<|QJ @bY<|QJ @bJ @qG
def AI:=QJ @tf3<|QJ @tf5<|QJ @tf9 @Jp
def Ga:=QJ @tf3<|QJ @tf4<|QJ @bQ @DB
def F9:=QJ @tf3<|QJ @bQ @qF
def D0:=QJ @tf3<|QJ @tf4<|QJ @bg @fQ
def wU:=QJ @tf3<|QJ @tf4<|QJ @bQ<|QJ @cO<|QJ @bE<|QJ @bg @fQ
def vt66:=QJ @tf3<|QJ @tf4<|QJ @dS<|QJ @bQ<|QJ @fP<|QJ @cO<|QJ @bE<|QJ @ie<|QJ @bg<|QJ @fQ @bJ
def nv:=QJ @tf3<|QJ @bQ<|QJ @eB<|QJ @bg @bY
def DZ:=QJ @tf3<|QJ @cO<|QJ @bE<|QJ @bg @wX
def AH:=QJ @tf3<|QJ @bQ<|QJ @cW @bK
def AG:=QJ @tf3<|QJ @bQ<|QJ @cW<|QJ @bK<|QJ @ki @eC
def Hk:=QJ @tf3<|QJ @bQ<|QJ @eB @bY
def pD:=QJ @tf3<|QJ @bQ<|QJ @eB<|QJ @cW<|QJ @bK<|QJ @eC @bY
def Hj:=QJ @tf3<|QJ @dS<|QJ @bQ @bJ
def ov:=QJ @tf3<|QJ @tf5<|QJ @tf9<|QJ @dS<|QJ @bQ<|QJ @kh<|QJ @eB<|QJ @bg<|QJ @bY<|QJ @bJ @eo
def ji:=QJ @tf3<|QJ @dS<|QJ @qE<|QJ @bQ<|QJ @fP<|QJ @fO<|QJ @cO<|QJ @bE<|QJ @dN<|QJ @bg<|QJ @bJ @gU
def AF:=QJ @tf3<|QJ @tf4<|QJ @dS @bJ
def vt78:=QJ @tf3<|QJ @tf4<|QJ @dS<|QJ @qE<|QJ @bQ<|QJ @fP<|QJ @bJ @gU
def vt79:=QJ @tf3<|QJ @tf4<|QJ @kh<|QJ @bg<|QJ @cW<|QJ @bK @eo
def jp:=QJ @tf3<|QJ @bg<|QJ @cW<|QJ @bK<|QJ @ki @eC
def vt85:=QJ @tf3<|QJ @dS<|QJ @qE<|QJ @bQ<|QJ @fP<|QJ @kh<|QJ @bg<|QJ @bJ<|QJ @gU @eo
def vt86:=QJ @tf3<|QJ @tf4<|QJ @bQ<|QJ @bg<|QJ @cW<|QJ @bK @bY
def vt87:=QJ @tf3<|QJ @tf4<|QJ @bQ<|QJ @fP<|QJ @eB<|QJ @bg<|QJ @cW<|QJ @bK<|QJ @eC<|QJ @bY @Dx
def vt88:=QJ @tf3<|QJ @tf4<|QJ @fP<|QJ @eB<|QJ @bg @bY
def vt89:=QJ @tf3<|QJ @tf4<|QJ @tf9<|QJ @dS<|QJ @fP<|QJ @kh<|QJ @eB<|QJ @bg<|QJ @bY<|QJ @bJ @eo
def DY:=QJ @tf3<|QJ @fO<|QJ @bE<|QJ @dN @AM
def vt91:=QJ @tf3<|QJ @tf4<|QJ @dS<|QJ @fP<|QJ @fO<|QJ @bE<|QJ @dN @bJ
def vt92:=QJ @tf3<|QJ @tf4<|QJ @dS<|QJ @bQ<|QJ @bE<|QJ @dN<|QJ @eB<|QJ @bg<|QJ @AM<|QJ @cW<|QJ @bK<|QJ @bY @bJ
def vt93:=QJ @tf3<|QJ @tf4<|QJ @bQ<|QJ @cO<|QJ @bE<|QJ @bg @wX
def nu:=QJ @cO @bg
def fE:=QJ @tf3<|QJ @tf4<|QJ @cO @bg
def ym:=QJ @tf3<|QJ @cO<|QJ @bg @qF
def tN:=QJ @tf3<|QJ @cO<|QJ @bE<|QJ @bg @gV
def F8:=QJ @tf3<|QJ @tf9<|QJ @bE<|QJ @dr<|QJ @bg @gV
def vS:=QJ @tf3<|QJ @bE<|QJ @dr<|QJ @bg @gV
def tv:=QJ @tf3<|QJ @tf4<|QJ @bQ<|QJ @cO<|QJ @bg @fQ
def cE:=QJ @tf3<|QJ @tf4<|QJ @bQ<|QJ @fP<|QJ @cO<|QJ @bE<|QJ @ie<|QJ @AN<|QJ @dr<|QJ @dN<|QJ @bg<|QJ @qH<|QJ @fQ @gV
def jw:=QJ @tf3<|QJ @tf4<|QJ @cO<|QJ @bE<|QJ @dr<|QJ @bg @gV
def nN:=QJ @tf3<|QJ @tf4<|QJ @fO<|QJ @dN @DB
def qc:=QJ @tf3<|QJ @fO<|QJ @dN @qF
def vQ:=QJ @tf3<|QJ @tf4<|QJ @fO @dN
def iq:=QJ @tf3<|QJ @tf4<|QJ @fO<|QJ @cO<|QJ @bE<|QJ @dN<|QJ @bg @gV
def ke:=QJ @tf3<|QJ @tf4<|QJ @fO<|QJ @bE<|QJ @ie<|QJ @dr<|QJ @dN<|QJ @DK<|QJ @DJ @gV
def yp:=QJ @tf3<|QJ @tf4<|QJ @ig @dr
def fM:=QJ @tf3<|QJ @tf4<|QJ @ig<|QJ @dr<|QJ @fQ @nO
def mR:=QJ @tf3<|QJ @tf4<|QJ @bE<|QJ @ig<|QJ @ie<|QJ @dr @nO
def bR:=QJ @tf3<|QJ @tf4<|QJ @cO<|QJ @bE<|QJ @ig<|QJ @kW<|QJ @ie<|QJ @dr<|QJ @bg<|QJ @fQ @nO
def fw:=QJ @tf3<|QJ @tf4<|QJ @bQ<|QJ @cO<|QJ @bE<|QJ @ig<|QJ @kW<|QJ @dr<|QJ @bg @fQ
def dA:=QJ @tf3<|QJ @tf9<|QJ @bQ<|QJ @cO<|QJ @bE<|QJ @ig<|QJ @kW<|QJ @ie<|QJ @pE<|QJ @dr @bg
def yo:=QJ @tf3<|QJ @bQ<|QJ @cO @bg
def fL:=QJ @tf3<|QJ @tf4<|QJ @fO<|QJ @cO<|QJ @bE<|QJ @dN @bg
def qB:=QJ @tf3<|QJ @tf4 @bQ
def qb:=QJ @tf3<|QJ @cO<|QJ @bE<|QJ @ig<|QJ @kW<|QJ @dr @bg
def dZ:=QJ @tf3<|QJ @tf4<|QJ @bQ<|QJ @cO<|QJ @bE<|QJ @dr<|QJ @bg @AM
def fK:=QJ @tf3<|QJ @tf4<|QJ @cO<|QJ @bE<|QJ @AN<|QJ @dr<|QJ @bg @qH
def vt134:=QJ @tf3<|QJ @tf4<|QJ @dS<|QJ @bQ<|QJ @fP<|QJ @cO<|QJ @bE<|QJ @ie<|QJ @dN<|QJ @bg<|QJ @wX<|QJ @AM @bJ
def eA:=QJ @tf3<|QJ @tf4<|QJ @tf9<|QJ @bQ<|QJ @cO<|QJ @bE<|QJ @dr<|QJ @bg @wX
def mQ:=QJ @tf3<|QJ @tf4<|QJ @bQ<|QJ @fO<|QJ @cO<|QJ @bE<|QJ @ie<|QJ @pE<|QJ @dr<|QJ @dN @bg
def ek:=QJ @tf3<|QJ @tf4<|QJ @ig<|QJ @dr @nO
def kM:=QJ @tf3<|QJ @tf4<|QJ @bE<|QJ @ig<|QJ @ie<|QJ @pE<|QJ @dr @nO
def fh:=QJ @tf3<|QJ @tf4<|QJ @bQ<|QJ @cO<|QJ @bE<|QJ @ig<|QJ @kW<|QJ @ie<|QJ @pE<|QJ @dr @bg
def tu:=QJ @tf3<|QJ @bQ<|QJ @fO<|QJ @bE<|QJ @kW @dN
def yn:=QJ @tf3<|QJ @tf5<|QJ @cO<|QJ @bE @bg
def iX:=QJ @tf3<|QJ @tf5<|QJ @Gm<|QJ @cO<|QJ @AN<|QJ @dr<|QJ @eB<|QJ @bg<|QJ @qH @bY
def dO:=QJ @tf3<|QJ @tf5<|QJ @tf9<|QJ @Gm<|QJ @bQ<|QJ @cO<|QJ @bE<|QJ @ig<|QJ @kW<|QJ @AN<|QJ @dr<|QJ @eB<|QJ @bg<|QJ @qH<|QJ @Jt @bY
def kL:=QJ @tf3<|QJ @Gn<|QJ @tf25<|QJ @Jo<|QJ @Gm<|QJ @bE<|QJ @ig<|QJ @kW<|QJ @ie<|QJ @pE @dr
def eT:=QJ @tf3<|QJ @tf4<|QJ @tf5<|QJ @Jo<|QJ @bQ<|QJ @cO<|QJ @bE<|QJ @ig<|QJ @kW<|QJ @ie<|QJ @pE<|QJ @dr @bg
set_option maxRecDepth 20000
theorem az:Qz.follows .mixedOrders=Qy:=by kernel_rfl
inductive Ex where
 |mk (op n v:Int) (a:List Ex)
inductive Co where
 |mk (op:Int) (a:List Ex) (c:List Co)
inductive Sm where
 |mk (site op n m v:Int) (x y:Ex) (c:Co) (args:List Ex) (ptrs:List Int) (body els:List Sm)
structure Rg where
 lo:Int
 hi:Int
 mask:Int
structure Ar where
 len:Int
 of:Int
structure Hd where
 id:Int
 firm:Int
 part:Int
 params:List Rg
 given:List Rg
structure Df where
 id:Int
 site:Int
 name:ByteArray
 firm:Int
 part:Int
 params:List Rg
 given:List Rg
 vars:Int
 refs:Int
 arrays:List Ar
 budget:Int
 body:List Sm
structure Qu where
 cap:Int
 r:Rg
structure Dc where
 globals:List Rg
 classes:List Rg
 queues:List Qu
 sinks:List Int
 locks:Int
 parts:Int
 firms:Int
structure Pg where
 d:Dc
 heads:List Hd
 defs:List Df
 threads:List Int
mutual
def Ex.cells:Ex→List D
 |.mk op n v a=>[.int .i64 op,.int .i64 n,.int .i64 v,.slice .none (Ex.encs a)]
def Ex.encs:List Ex→List (List D)
 | []=>[]
 |x::l=>x.cells::Ex.encs l
end
mutual
def Co.cells:Co→List D
 |.mk op a c=>[.int .i64 op,.slice .none (Ex.encs a),.slice .none (Co.encs c)]
def Co.encs:List Co→List (List D)
 | []=>[]
 |x::l=>x.cells::Co.encs l
end
def ah(l:List Int):List (List D):=l.map λx=>[.int .i64 x]
mutual
def Sm.cells:Sm→List D
 |.mk site op n m v x y c args ptrs body els =>
  .int .i64 site::.int .i64 op::.int .i64 n::.int .i64 m::.int .i64 v::(x.cells++(y.cells++(c.cells++[.slice .none (Ex.encs args),.slice .none (ah ptrs),.slice .none (Sm.encs body),.slice .none (Sm.encs els)])))
def Sm.encs:List Sm→List (List D)
 | []=>[]
 |x::l=>x.cells::Sm.encs l
end
def Rg.cells(r:Rg):List D:=[.int .i64 r.lo,.int .i64 r.hi,.int .i64 r.mask]
def aM(l:List Rg):List (List D):=l.map Rg.cells
def Ar.cells(r:Ar):List D:=[.int .i64 r.len,.int .i64 r.of]
def cj(l:List Ar):List (List D):=l.map Ar.cells
def Hd.cells(h:Hd):List D:=[.int .i64 h.id,.int .i64 h.firm,.int .i64 h.part,.slice .none (aM h.params),.slice .none (aM h.given)]
def aN(l:List Hd):List (List D):=l.map Hd.cells
def Df.cells(d:Df):List D:=[.int .i64 d.id,.int .i64 d.site,.str d.name,.int .i64 d.firm,.int .i64 d.part,.slice .none (aM d.params),.slice .none (aM d.given),.int .i64 d.vars,.int .i64 d.refs,
 .slice .none (cj d.arrays),.int .i64 d.budget,.slice .none (Sm.encs d.body)]
def ax(l:List Df):List (List D):=l.map Df.cells
def Qu.cells(q:Qu):List D:=[.int .i64 q.cap,.int .i64 q.r.lo,.int .i64 q.r.hi,.int .i64 q.r.mask]
def cX(l:List Qu):List (List D):=l.map Qu.cells
def Dc.cells(d:Dc):List D:=[.slice .none (aM d.globals),.slice .none (aM d.classes),.slice .none (cX d.queues),.slice .none (ah d.sinks),.int .i64 d.locks,.int .i64 d.parts,.int .i64 d.firms]
def Pg.cells(p:Pg):List D:=p.d.cells++[.slice .none (aN p.heads),.slice .none (ax p.defs),.slice .none (ah p.threads)]
theorem Ex.encs_map(l:List Ex):Ex.encs l=l.map Ex.cells:=by induction l<;>simp_all[Ex.encs]
theorem Co.encs_map(l:List Co):Co.encs l=l.map Co.cells:=by induction l<;>simp_all[Co.encs]
theorem Sm.encs_map(l:List Sm):Sm.encs l=l.map Sm.cells:=by induction l<;>simp_all[Sm.encs]
theorem Ex.cells_len(x:Ex):x.cells.length=4:=by cases x;rfl
theorem Co.cells_len(x:Co):x.cells.length=3:=by cases x;rfl
theorem Sm.cells_len(x:Sm):x.cells.length=20:=by cases x;simp[Sm.cells,Ex.cells_len,Co.cells_len]
theorem Ex.plain(x:Ex):x.cells.map D.plain1=x.cells:=by cases x;rfl
theorem Ex.keep1(x:Ex):x.cells.map D.keep1=x.cells:=by cases x;rfl
theorem Ex.take0(x:Ex):x.cells.take 4=x.cells:=Mo (by rw[Ex.cells_len];decide)
theorem Ex.dropA(x:Ex)(l:List D)(k:Nat):(x.cells++l).drop (k+4)=l.drop k:=by rw[Ny,Ex.cells_len,M8 (by rw[Ex.cells_len];omega)];simp
theorem Ex.takeA(x:Ex)(l:List D)(k:Nat):(x.cells++l).take (k+4)=x.cells++l.take k:=by rw[NU,Ex.cells_len,Mo (by rw[Ex.cells_len];omega)];simp
theorem Ex.lenA(x:Ex)(l:List D):(x.cells++l).length=4+l.length:=by rw[K4,Ex.cells_len]
theorem Co.plain(x:Co):x.cells.map D.plain1=x.cells:=by cases x;rfl
theorem Co.keep1(x:Co):x.cells.map D.keep1=x.cells:=by cases x;rfl
theorem Co.take0(x:Co):x.cells.take 3=x.cells:=Mo (by rw[Co.cells_len];decide)
theorem Co.dropA(x:Co)(l:List D)(k:Nat):(x.cells++l).drop (k+3)=l.drop k:=by rw[Ny,Co.cells_len,M8 (by rw[Co.cells_len];omega)];simp
theorem Co.takeA(x:Co)(l:List D)(k:Nat):(x.cells++l).take (k+3)=x.cells++l.take k:=by rw[NU,Co.cells_len,Mo (by rw[Co.cells_len];omega)];simp
theorem Co.lenA(x:Co)(l:List D):(x.cells++l).length=3+l.length:=by rw[K4,Co.cells_len]
theorem Sm.plain(x:Sm):x.cells.map D.plain1=x.cells:=by cases x;simp[Sm.cells,Ex.plain,Co.plain,D.plain1]
theorem Sm.keep1(x:Sm):x.cells.map D.keep1=x.cells:=by cases x;simp[Sm.cells,Ex.keep1,Co.keep1,D.keep1]
theorem Sm.take0(x:Sm):x.cells.take 20=x.cells:=Mo (by rw[Sm.cells_len];decide)
theorem Sm.dropA(x:Sm)(l:List D)(k:Nat):(x.cells++l).drop (k+20)=l.drop k:=by rw[Ny,Sm.cells_len,M8 (by rw[Sm.cells_len];omega)];simp
theorem Sm.takeA(x:Sm)(l:List D)(k:Nat):(x.cells++l).take (k+20)=x.cells++l.take k:=by rw[NU,Sm.cells_len,Mo (by rw[Sm.cells_len];omega)];simp
theorem Sm.lenA(x:Sm)(l:List D):(x.cells++l).length=20+l.length:=by rw[K4,Sm.cells_len]
theorem Rg.plain(x:Rg):x.cells.map D.plain1=x.cells:=rfl
theorem Rg.keep1(x:Rg):x.cells.map D.keep1=x.cells:=rfl
theorem Rg.cells_len(x:Rg):x.cells.length=3:=rfl
theorem Rg.take0(x:Rg):x.cells.take 3=x.cells:=Mo (by rw[Rg.cells_len];decide)
theorem Rg.dropA(x:Rg)(l:List D)(k:Nat):(x.cells++l).drop (k+3)=l.drop k:=by rw[Ny,Rg.cells_len,M8 (by rw[Rg.cells_len];omega)];simp
theorem Rg.takeA(x:Rg)(l:List D)(k:Nat):(x.cells++l).take (k+3)=x.cells++l.take k:=by rw[NU,Rg.cells_len,Mo (by rw[Rg.cells_len];omega)];simp
theorem Rg.lenA(x:Rg)(l:List D):(x.cells++l).length=3+l.length:=by rw[K4,Rg.cells_len]
theorem Ar.plain(x:Ar):x.cells.map D.plain1=x.cells:=rfl
theorem Ar.keep1(x:Ar):x.cells.map D.keep1=x.cells:=rfl
theorem Ar.cells_len(x:Ar):x.cells.length=2:=rfl
theorem Ar.take0(x:Ar):x.cells.take 2=x.cells:=Mo (by rw[Ar.cells_len];decide)
theorem Ar.dropA(x:Ar)(l:List D)(k:Nat):(x.cells++l).drop (k+2)=l.drop k:=by rw[Ny,Ar.cells_len,M8 (by rw[Ar.cells_len];omega)];simp
theorem Ar.takeA(x:Ar)(l:List D)(k:Nat):(x.cells++l).take (k+2)=x.cells++l.take k:=by rw[NU,Ar.cells_len,Mo (by rw[Ar.cells_len];omega)];simp
theorem Ar.lenA(x:Ar)(l:List D):(x.cells++l).length=2+l.length:=by rw[K4,Ar.cells_len]
theorem Hd.plain(x:Hd):x.cells.map D.plain1=x.cells:=rfl
theorem Hd.keep1(x:Hd):x.cells.map D.keep1=x.cells:=rfl
theorem Hd.cells_len(x:Hd):x.cells.length=5:=rfl
theorem Hd.take0(x:Hd):x.cells.take 5=x.cells:=Mo (by rw[Hd.cells_len];decide)
theorem Hd.dropA(x:Hd)(l:List D)(k:Nat):(x.cells++l).drop (k+5)=l.drop k:=by rw[Ny,Hd.cells_len,M8 (by rw[Hd.cells_len];omega)];simp
theorem Hd.takeA(x:Hd)(l:List D)(k:Nat):(x.cells++l).take (k+5)=x.cells++l.take k:=by rw[NU,Hd.cells_len,Mo (by rw[Hd.cells_len];omega)];simp
theorem Hd.lenA(x:Hd)(l:List D):(x.cells++l).length=5+l.length:=by rw[K4,Hd.cells_len]
theorem Df.plain(x:Df):x.cells.map D.plain1=x.cells:=rfl
theorem Df.keep1(x:Df):x.cells.map D.keep1=x.cells:=rfl
theorem Df.cells_len(x:Df):x.cells.length=12:=rfl
theorem Df.take0(x:Df):x.cells.take 12=x.cells:=Mo (by rw[Df.cells_len];decide)
theorem Df.dropA(x:Df)(l:List D)(k:Nat):(x.cells++l).drop (k+12)=l.drop k:=by rw[Ny,Df.cells_len,M8 (by rw[Df.cells_len];omega)];simp
theorem Df.takeA(x:Df)(l:List D)(k:Nat):(x.cells++l).take (k+12)=x.cells++l.take k:=by rw[NU,Df.cells_len,Mo (by rw[Df.cells_len];omega)];simp
theorem Df.lenA(x:Df)(l:List D):(x.cells++l).length=12+l.length:=by rw[K4,Df.cells_len]
theorem Qu.plain(x:Qu):x.cells.map D.plain1=x.cells:=rfl
theorem Qu.keep1(x:Qu):x.cells.map D.keep1=x.cells:=rfl
theorem Qu.cells_len(x:Qu):x.cells.length=4:=rfl
theorem Qu.take0(x:Qu):x.cells.take 4=x.cells:=Mo (by rw[Qu.cells_len];decide)
theorem Qu.dropA(x:Qu)(l:List D)(k:Nat):(x.cells++l).drop (k+4)=l.drop k:=by rw[Ny,Qu.cells_len,M8 (by rw[Qu.cells_len];omega)];simp
theorem Qu.takeA(x:Qu)(l:List D)(k:Nat):(x.cells++l).take (k+4)=x.cells++l.take k:=by rw[NU,Qu.cells_len,Mo (by rw[Qu.cells_len];omega)];simp
theorem Qu.lenA(x:Qu)(l:List D):(x.cells++l).length=4+l.length:=by rw[K4,Qu.cells_len]
theorem Dc.plain(x:Dc):x.cells.map D.plain1=x.cells:=rfl
theorem Dc.keep1(x:Dc):x.cells.map D.keep1=x.cells:=rfl
theorem Dc.cells_len(x:Dc):x.cells.length=7:=rfl
theorem Dc.take0(x:Dc):x.cells.take 7=x.cells:=Mo (by rw[Dc.cells_len];decide)
theorem Dc.dropA(x:Dc)(l:List D)(k:Nat):(x.cells++l).drop (k+7)=l.drop k:=by rw[Ny,Dc.cells_len,M8 (by rw[Dc.cells_len];omega)];simp
theorem Dc.takeA(x:Dc)(l:List D)(k:Nat):(x.cells++l).take (k+7)=x.cells++l.take k:=by rw[NU,Dc.cells_len,Mo (by rw[Dc.cells_len];omega)];simp
theorem Dc.lenA(x:Dc)(l:List D):(x.cells++l).length=7+l.length:=by rw[K4,Dc.cells_len]
theorem Pg.plain(x:Pg):x.cells.map D.plain1=x.cells:=rfl
theorem Pg.keep1(x:Pg):x.cells.map D.keep1=x.cells:=rfl
theorem Pg.cells_len(x:Pg):x.cells.length=10:=rfl
theorem Pg.take0(x:Pg):x.cells.take 10=x.cells:=Mo (by rw[Pg.cells_len];decide)
theorem Pg.dropA(x:Pg)(l:List D)(k:Nat):(x.cells++l).drop (k+10)=l.drop k:=by rw[Ny,Pg.cells_len,M8 (by rw[Pg.cells_len];omega)];simp
theorem Pg.takeA(x:Pg)(l:List D)(k:Nat):(x.cells++l).take (k+10)=x.cells++l.take k:=by rw[NU,Pg.cells_len,Mo (by rw[Pg.cells_len];omega)];simp
theorem Pg.lenA(x:Pg)(l:List D):(x.cells++l).length=10+l.length:=by rw[K4,Pg.cells_len]
def vsT:=QJ @Ex.cells_len<|QJ @Ex.plain<|QJ @Ex.keep1<|QJ @Ex.take0<|QJ @Ex.dropA<|QJ @Ex.takeA<|QJ @Ex.lenA<|QJ @Co.cells_len<|QJ @Co.plain<|QJ @Co.keep1<|QJ @Co.take0<|QJ @Co.dropA<|QJ @Co.takeA<|QJ @Co.lenA<|QJ @Sm.cells_len<|QJ @Sm.plain<|QJ @Sm.keep1<|QJ @Sm.take0<|QJ @Sm.dropA<|QJ @Sm.takeA<|QJ @Sm.lenA<|QJ @Rg.cells_len<|QJ @Rg.plain<|QJ @Rg.keep1<|QJ @Rg.take0<|QJ @Rg.dropA<|QJ @Rg.takeA<|QJ @Rg.lenA<|QJ @Ar.cells_len<|QJ @Ar.plain<|QJ @Ar.keep1<|QJ @Ar.take0<|QJ @Ar.dropA<|QJ @Ar.takeA<|QJ @Ar.lenA<|QJ @Hd.cells_len<|QJ @Hd.plain<|QJ @Hd.keep1<|QJ @Hd.take0<|QJ @Hd.dropA<|QJ @Hd.takeA<|QJ @Hd.lenA<|QJ @Df.cells_len<|QJ @Df.plain<|QJ @Df.keep1<|QJ @Df.take0<|QJ @Df.dropA<|QJ @Df.takeA<|QJ @Df.lenA<|QJ @Qu.cells_len<|QJ @Qu.plain<|QJ @Qu.keep1<|QJ @Qu.take0<|QJ @Qu.dropA<|QJ @Qu.takeA<|QJ @Qu.lenA<|QJ @Dc.cells_len<|QJ @Dc.plain<|QJ @Dc.keep1<|QJ @Dc.take0<|QJ @Dc.dropA<|QJ @Dc.takeA<|QJ @Dc.lenA<|QJ @Pg.cells_len<|QJ @Pg.plain<|QJ @Pg.keep1<|QJ @Pg.take0<|QJ @Pg.dropA<|QJ @Pg.takeA @Pg.lenA
theorem vsRes :
  (∀(P:QA)(e:List D)(s:St),resD P e s []=Qv []) ∧
  (∀(P:QA)(e:List D)(s:St)(t:Nat)(rs:List ResultVar),resD P e s (.tmp t::rs)=(resD P e s rs).map λl=>(e.getD t J).plain::l) ∧
  (∀(P:QA)(e:List D)(s:St)(a T:Nat)(rs:List ResultVar),resD P e s (.cell a T::rs)=(evLoad P T (e.getD a J) s).bind λd=>(resD P e s rs).map λl=>d.plain::l) ∧
  (∀(d:D),kf [d]=d)∧(∀(d d':D)(ds:List D),kf (d::d'::ds)=.tup (d::d'::ds)) ∧
  (∀(α β:Type)(f:α→Option β)(x:α),(Qv x).bind f=f x) ∧
  (∀(l m:List D),(l++m).map D.plain1=l.map D.plain1++m.map D.plain1)∧(∀(l m:List D),(l++m).map D.keep1=l.map D.keep1++m.map D.keep1)∧(∀(l:List D),l++[]=l):=by
 and_intros
 all_goals intros
 all_goals first
  |rfl
  |(simp only[resD];cases evLoad _ _ _ _<;>cases resD _ _ _ _<;>rfl)
  |exact List.map_append
  |exact MK _
def Ex.op:Ex→Int
 |.mk x _ _ _=>x
def Ex.n:Ex→Int
 |.mk _ x _ _=>x
def Ex.v:Ex→Int
 |.mk _ _ x _=>x
def Ex.a:Ex→List Ex
 |.mk _ _ _ x=>x
def Co.op:Co→Int
 |.mk x _ _=>x
def Co.a:Co→List Ex
 |.mk _ x _=>x
def Co.c:Co→List Co
 |.mk _ _ x=>x
def Sm.site:Sm→Int
 |.mk x _ _ _ _ _ _ _ _ _ _ _=>x
def Sm.op:Sm→Int
 |.mk _ x _ _ _ _ _ _ _ _ _ _=>x
def Sm.n:Sm→Int
 |.mk _ _ x _ _ _ _ _ _ _ _ _=>x
def Sm.m:Sm→Int
 |.mk _ _ _ x _ _ _ _ _ _ _ _=>x
def Sm.v:Sm→Int
 |.mk _ _ _ _ x _ _ _ _ _ _ _=>x
def Sm.x:Sm→Ex
 |.mk _ _ _ _ _ x _ _ _ _ _ _=>x
def Sm.y:Sm→Ex
 |.mk _ _ _ _ _ _ x _ _ _ _ _=>x
def Sm.c:Sm→Co
 |.mk _ _ _ _ _ _ _ x _ _ _ _=>x
def Sm.args:Sm→List Ex
 |.mk _ _ _ _ _ _ _ _ x _ _ _=>x
def Sm.ptrs:Sm→List Int
 |.mk _ _ _ _ _ _ _ _ _ x _ _=>x
def Sm.body:Sm→List Sm
 |.mk _ _ _ _ _ _ _ _ _ _ x _=>x
def Sm.els:Sm→List Sm
 |.mk _ _ _ _ _ _ _ _ _ _ _ x=>x
theorem Rg.f_lo(x:Rg):x.cells[0]?=Qv (.int .i64 x.lo):=rfl
theorem Rg.f_hi(x:Rg):(x.cells.drop 1)[0]?=Qv (.int .i64 x.hi):=rfl
theorem Rg.f_mask(x:Rg):(x.cells.drop 2)[0]?=Qv (.int .i64 x.mask):=rfl
theorem Ar.f_len(x:Ar):x.cells[0]?=Qv (.int .i64 x.len):=rfl
theorem Ar.f_of(x:Ar):(x.cells.drop 1)[0]?=Qv (.int .i64 x.of):=rfl
theorem Hd.f_id(x:Hd):x.cells[0]?=Qv (.int .i64 x.id):=rfl
theorem Hd.f_firm(x:Hd):(x.cells.drop 1)[0]?=Qv (.int .i64 x.firm):=rfl
theorem Hd.f_part(x:Hd):(x.cells.drop 2)[0]?=Qv (.int .i64 x.part):=rfl
theorem Hd.f_params(x:Hd):(x.cells.drop 3)[0]?=Qv (.slice .none (aM x.params)):=rfl
theorem Hd.f_given(x:Hd):(x.cells.drop 4)[0]?=Qv (.slice .none (aM x.given)):=rfl
theorem Df.f_id(x:Df):x.cells[0]?=Qv (.int .i64 x.id):=rfl
theorem Df.f_site(x:Df):(x.cells.drop 1)[0]?=Qv (.int .i64 x.site):=rfl
theorem Df.f_name(x:Df):(x.cells.drop 2)[0]?=Qv (.str x.name):=rfl
theorem Df.f_firm(x:Df):(x.cells.drop 3)[0]?=Qv (.int .i64 x.firm):=rfl
theorem Df.f_part(x:Df):(x.cells.drop 4)[0]?=Qv (.int .i64 x.part):=rfl
theorem Df.f_params(x:Df):(x.cells.drop 5)[0]?=Qv (.slice .none (aM x.params)):=rfl
theorem Df.f_given(x:Df):(x.cells.drop 6)[0]?=Qv (.slice .none (aM x.given)):=rfl
theorem Df.f_vars(x:Df):(x.cells.drop 7)[0]?=Qv (.int .i64 x.vars):=rfl
theorem Df.f_refs(x:Df):(x.cells.drop 8)[0]?=Qv (.int .i64 x.refs):=rfl
theorem Df.f_arrays(x:Df):(x.cells.drop 9)[0]?=Qv (.slice .none (cj x.arrays)):=rfl
theorem Df.f_budget(x:Df):(x.cells.drop 10)[0]?=Qv (.int .i64 x.budget):=rfl
theorem Df.f_body(x:Df):(x.cells.drop 11)[0]?=Qv (.slice .none (Sm.encs x.body)):=rfl
theorem Qu.f_cap(x:Qu):x.cells[0]?=Qv (.int .i64 x.cap):=rfl
theorem Qu.t_r(x:Qu):(x.cells.drop 1).take 3=x.r.cells:=rfl
theorem Qu.f_r_lo(x:Qu):(x.cells.drop 1)[0]?=Qv (.int .i64 x.r.lo):=rfl
theorem Qu.f_r_hi(x:Qu):(x.cells.drop 2)[0]?=Qv (.int .i64 x.r.hi):=rfl
theorem Qu.f_r_mask(x:Qu):(x.cells.drop 3)[0]?=Qv (.int .i64 x.r.mask):=rfl
theorem Dc.f_globals(x:Dc):x.cells[0]?=Qv (.slice .none (aM x.globals)):=rfl
theorem Dc.f_classes(x:Dc):(x.cells.drop 1)[0]?=Qv (.slice .none (aM x.classes)):=rfl
theorem Dc.f_queues(x:Dc):(x.cells.drop 2)[0]?=Qv (.slice .none (cX x.queues)):=rfl
theorem Dc.f_sinks(x:Dc):(x.cells.drop 3)[0]?=Qv (.slice .none (ah x.sinks)):=rfl
theorem Dc.f_locks(x:Dc):(x.cells.drop 4)[0]?=Qv (.int .i64 x.locks):=rfl
theorem Dc.f_parts(x:Dc):(x.cells.drop 5)[0]?=Qv (.int .i64 x.parts):=rfl
theorem Dc.f_firms(x:Dc):(x.cells.drop 6)[0]?=Qv (.int .i64 x.firms):=rfl
theorem Pg.t_d(x:Pg):x.cells.take 7=x.d.cells:=rfl
theorem Pg.f_d_globals(x:Pg):x.cells[0]?=Qv (.slice .none (aM x.d.globals)):=rfl
theorem Pg.f_d_classes(x:Pg):(x.cells.drop 1)[0]?=Qv (.slice .none (aM x.d.classes)):=rfl
theorem Pg.f_d_queues(x:Pg):(x.cells.drop 2)[0]?=Qv (.slice .none (cX x.d.queues)):=rfl
theorem Pg.f_d_sinks(x:Pg):(x.cells.drop 3)[0]?=Qv (.slice .none (ah x.d.sinks)):=rfl
theorem Pg.f_d_locks(x:Pg):(x.cells.drop 4)[0]?=Qv (.int .i64 x.d.locks):=rfl
theorem Pg.f_d_parts(x:Pg):(x.cells.drop 5)[0]?=Qv (.int .i64 x.d.parts):=rfl
theorem Pg.f_d_firms(x:Pg):(x.cells.drop 6)[0]?=Qv (.int .i64 x.d.firms):=rfl
theorem Pg.f_heads(x:Pg):(x.cells.drop 7)[0]?=Qv (.slice .none (aN x.heads)):=rfl
theorem Pg.f_defs(x:Pg):(x.cells.drop 8)[0]?=Qv (.slice .none (ax x.defs)):=rfl
theorem Pg.f_threads(x:Pg):(x.cells.drop 9)[0]?=Qv (.slice .none (ah x.threads)):=rfl
theorem Ex.f_op(x:Ex):x.cells[0]?=Qv (.int .i64 x.op):=by cases x;rfl
theorem Ex.f_n(x:Ex):(x.cells.drop 1)[0]?=Qv (.int .i64 x.n):=by cases x;rfl
theorem Ex.f_v(x:Ex):(x.cells.drop 2)[0]?=Qv (.int .i64 x.v):=by cases x;rfl
theorem Ex.f_a(x:Ex):(x.cells.drop 3)[0]?=Qv (.slice .none (Ex.encs x.a)):=by cases x;rfl
theorem Co.f_op(x:Co):x.cells[0]?=Qv (.int .i64 x.op):=by cases x;rfl
theorem Co.f_a(x:Co):(x.cells.drop 1)[0]?=Qv (.slice .none (Ex.encs x.a)):=by cases x;rfl
theorem Co.f_c(x:Co):(x.cells.drop 2)[0]?=Qv (.slice .none (Co.encs x.c)):=by cases x;rfl
theorem Sm.f_site(x:Sm):x.cells[0]?=Qv (.int .i64 x.site):=by obtain⟨_,_,_,_,_,⟨_,_,_,_⟩,⟨_,_,_,_⟩,⟨_,_,_⟩,_,_,_,_⟩:=x;rfl
theorem Sm.f_op(x:Sm):(x.cells.drop 1)[0]?=Qv (.int .i64 x.op):=by obtain⟨_,_,_,_,_,⟨_,_,_,_⟩,⟨_,_,_,_⟩,⟨_,_,_⟩,_,_,_,_⟩:=x;rfl
theorem Sm.f_n(x:Sm):(x.cells.drop 2)[0]?=Qv (.int .i64 x.n):=by obtain⟨_,_,_,_,_,⟨_,_,_,_⟩,⟨_,_,_,_⟩,⟨_,_,_⟩,_,_,_,_⟩:=x;rfl
theorem Sm.f_m(x:Sm):(x.cells.drop 3)[0]?=Qv (.int .i64 x.m):=by obtain⟨_,_,_,_,_,⟨_,_,_,_⟩,⟨_,_,_,_⟩,⟨_,_,_⟩,_,_,_,_⟩:=x;rfl
theorem Sm.f_v(x:Sm):(x.cells.drop 4)[0]?=Qv (.int .i64 x.v):=by obtain⟨_,_,_,_,_,⟨_,_,_,_⟩,⟨_,_,_,_⟩,⟨_,_,_⟩,_,_,_,_⟩:=x;rfl
theorem Sm.t_x(x:Sm):(x.cells.drop 5).take 4=x.x.cells:=by obtain⟨_,_,_,_,_,⟨_,_,_,_⟩,⟨_,_,_,_⟩,⟨_,_,_⟩,_,_,_,_⟩:=x;rfl
theorem Sm.f_x_op(x:Sm):(x.cells.drop 5)[0]?=Qv (.int .i64 x.x.op):=by obtain⟨_,_,_,_,_,⟨_,_,_,_⟩,⟨_,_,_,_⟩,⟨_,_,_⟩,_,_,_,_⟩:=x;rfl
theorem Sm.f_x_n(x:Sm):(x.cells.drop 6)[0]?=Qv (.int .i64 x.x.n):=by obtain⟨_,_,_,_,_,⟨_,_,_,_⟩,⟨_,_,_,_⟩,⟨_,_,_⟩,_,_,_,_⟩:=x;rfl
theorem Sm.f_x_v(x:Sm):(x.cells.drop 7)[0]?=Qv (.int .i64 x.x.v):=by obtain⟨_,_,_,_,_,⟨_,_,_,_⟩,⟨_,_,_,_⟩,⟨_,_,_⟩,_,_,_,_⟩:=x;rfl
theorem Sm.f_x_a(x:Sm):(x.cells.drop 8)[0]?=Qv (.slice .none (Ex.encs x.x.a)):=by obtain⟨_,_,_,_,_,⟨_,_,_,_⟩,⟨_,_,_,_⟩,⟨_,_,_⟩,_,_,_,_⟩:=x;rfl
theorem Sm.t_y(x:Sm):(x.cells.drop 9).take 4=x.y.cells:=by obtain⟨_,_,_,_,_,⟨_,_,_,_⟩,⟨_,_,_,_⟩,⟨_,_,_⟩,_,_,_,_⟩:=x;rfl
theorem Sm.f_y_op(x:Sm):(x.cells.drop 9)[0]?=Qv (.int .i64 x.y.op):=by obtain⟨_,_,_,_,_,⟨_,_,_,_⟩,⟨_,_,_,_⟩,⟨_,_,_⟩,_,_,_,_⟩:=x;rfl
theorem Sm.f_y_n(x:Sm):(x.cells.drop 10)[0]?=Qv (.int .i64 x.y.n):=by obtain⟨_,_,_,_,_,⟨_,_,_,_⟩,⟨_,_,_,_⟩,⟨_,_,_⟩,_,_,_,_⟩:=x;rfl
theorem Sm.f_y_v(x:Sm):(x.cells.drop 11)[0]?=Qv (.int .i64 x.y.v):=by obtain⟨_,_,_,_,_,⟨_,_,_,_⟩,⟨_,_,_,_⟩,⟨_,_,_⟩,_,_,_,_⟩:=x;rfl
theorem Sm.f_y_a(x:Sm):(x.cells.drop 12)[0]?=Qv (.slice .none (Ex.encs x.y.a)):=by obtain⟨_,_,_,_,_,⟨_,_,_,_⟩,⟨_,_,_,_⟩,⟨_,_,_⟩,_,_,_,_⟩:=x;rfl
theorem Sm.t_c(x:Sm):(x.cells.drop 13).take 3=x.c.cells:=by obtain⟨_,_,_,_,_,⟨_,_,_,_⟩,⟨_,_,_,_⟩,⟨_,_,_⟩,_,_,_,_⟩:=x;rfl
theorem Sm.f_c_op(x:Sm):(x.cells.drop 13)[0]?=Qv (.int .i64 x.c.op):=by obtain⟨_,_,_,_,_,⟨_,_,_,_⟩,⟨_,_,_,_⟩,⟨_,_,_⟩,_,_,_,_⟩:=x;rfl
theorem Sm.f_c_a(x:Sm):(x.cells.drop 14)[0]?=Qv (.slice .none (Ex.encs x.c.a)):=by obtain⟨_,_,_,_,_,⟨_,_,_,_⟩,⟨_,_,_,_⟩,⟨_,_,_⟩,_,_,_,_⟩:=x;rfl
theorem Sm.f_c_c(x:Sm):(x.cells.drop 15)[0]?=Qv (.slice .none (Co.encs x.c.c)):=by obtain⟨_,_,_,_,_,⟨_,_,_,_⟩,⟨_,_,_,_⟩,⟨_,_,_⟩,_,_,_,_⟩:=x;rfl
theorem Sm.f_args(x:Sm):(x.cells.drop 16)[0]?=Qv (.slice .none (Ex.encs x.args)):=by obtain⟨_,_,_,_,_,⟨_,_,_,_⟩,⟨_,_,_,_⟩,⟨_,_,_⟩,_,_,_,_⟩:=x;rfl
theorem Sm.f_ptrs(x:Sm):(x.cells.drop 17)[0]?=Qv (.slice .none (ah x.ptrs)):=by obtain⟨_,_,_,_,_,⟨_,_,_,_⟩,⟨_,_,_,_⟩,⟨_,_,_⟩,_,_,_,_⟩:=x;rfl
theorem Sm.f_body(x:Sm):(x.cells.drop 18)[0]?=Qv (.slice .none (Sm.encs x.body)):=by obtain⟨_,_,_,_,_,⟨_,_,_,_⟩,⟨_,_,_,_⟩,⟨_,_,_⟩,_,_,_,_⟩:=x;rfl
theorem Sm.f_els(x:Sm):(x.cells.drop 19)[0]?=Qv (.slice .none (Sm.encs x.els)):=by obtain⟨_,_,_,_,_,⟨_,_,_,_⟩,⟨_,_,_,_⟩,⟨_,_,_⟩,_,_,_,_⟩:=x;rfl
def vsF:=QJ @Rg.f_lo<|QJ @Rg.f_hi<|QJ @Rg.f_mask<|QJ @Ar.f_len<|QJ @Ar.f_of<|QJ @Hd.f_id<|QJ @Hd.f_firm<|QJ @Hd.f_part<|QJ @Hd.f_params<|QJ @Hd.f_given<|QJ @Df.f_id<|QJ @Df.f_site<|QJ @Df.f_name<|QJ @Df.f_firm<|QJ @Df.f_part<|QJ @Df.f_params<|QJ @Df.f_given<|QJ @Df.f_vars<|QJ @Df.f_refs<|QJ @Df.f_arrays<|QJ @Df.f_budget<|QJ @Df.f_body<|QJ @Qu.f_cap<|QJ @Qu.t_r<|QJ @Qu.f_r_lo<|QJ @Qu.f_r_hi<|QJ @Qu.f_r_mask<|QJ @Dc.f_globals<|QJ @Dc.f_classes<|QJ @Dc.f_queues<|QJ @Dc.f_sinks<|QJ @Dc.f_locks<|QJ @Dc.f_parts<|QJ @Dc.f_firms<|QJ @Pg.t_d<|QJ @Pg.f_d_globals<|QJ @Pg.f_d_classes<|QJ @Pg.f_d_queues<|QJ @Pg.f_d_sinks<|QJ @Pg.f_d_locks<|QJ @Pg.f_d_parts<|QJ @Pg.f_d_firms<|QJ @Pg.f_heads<|QJ @Pg.f_defs<|QJ @Pg.f_threads<|QJ @Ex.f_op<|QJ @Ex.f_n<|QJ @Ex.f_v<|QJ @Ex.f_a<|QJ @Co.f_op<|QJ @Co.f_a<|QJ @Co.f_c<|QJ @Sm.f_site<|QJ @Sm.f_op<|QJ @Sm.f_n<|QJ @Sm.f_m<|QJ @Sm.f_v<|QJ @Sm.t_x<|QJ @Sm.f_x_op<|QJ @Sm.f_x_n<|QJ @Sm.f_x_v<|QJ @Sm.f_x_a<|QJ @Sm.t_y<|QJ @Sm.f_y_op<|QJ @Sm.f_y_n<|QJ @Sm.f_y_v<|QJ @Sm.f_y_a<|QJ @Sm.t_c<|QJ @Sm.f_c_op<|QJ @Sm.f_c_a<|QJ @Sm.f_c_c<|QJ @Sm.f_args<|QJ @Sm.f_ptrs<|QJ @Sm.f_body @Sm.f_els
structure Fd where
 bytes:List Int
 dc:Dc
 heads:List Hd
 defs:List Df
 threads:List Int
 d:Df
structure Fx extends Fd where
 oh:Own
 od:Own
 ot:Own
 op:Own
 og:Own
 oa:Own
 ob:Own
instance:Coe Fx Fd:=⟨Fx.toFd⟩
structure Mk where
 pos:Int
 site:Int
 left:Int
 loop:Int
 done:Int
def byteCells(l:List Int):List (List D):=l.map λx=>[.int .u8 x]
def Fx.cells(f:Fx)(m:Mk):List D:=
  [.slice .none (byteCells f.bytes),.int .i64 m.pos,.slice .none (aM f.dc.globals),.slice .none (aM f.dc.classes),.slice .none (cX f.dc.queues),.slice .none (ah f.dc.sinks),.int .i64 f.dc.locks,.int .i64 f.dc.parts,.int .i64 f.dc.firms,
   .slice f.oh (aN f.heads),.slice f.od (ax f.defs),.slice f.ot (ah f.threads),
   .int .i64 f.d.id,.int .i64 f.d.site,.str f.d.name,.int .i64 f.d.firm,.int .i64 f.d.part,.slice f.op (aM f.d.params),.slice f.og (aM f.d.given),.int .i64 f.d.vars,.int .i64 f.d.refs,.slice f.oa (cj f.d.arrays),.int .i64 f.d.budget,.slice f.ob (Sm.encs f.d.body),
   .int .i64 m.site,.int .i64 m.left,.int .i64 m.loop,.int .i64 m.done,.bool Qw]
theorem vsX :
  (∀(B l:List Box)(x:Box),(B++x::l)[B.length]?=Qv x) ∧
  (∀(B l:List Box)(x y:Box),(B++x::l).set B.length y=B++y::l) ∧
  (∀(α β:Type)(f:α→β)(x:α),Option.map f (Qv x)=Qv (f x)) ∧
  (∀(α:Type)(x:α)(l:List α)(n:Nat),(x::l).drop (n+1)=l.drop n)∧(∀(α:Type)(l:List α),l.drop 0=l) ∧
  (∀(α:Type)(x:α)(l:List α)(n:Nat),(x::l).take (n+1)=x::l.take n)∧(∀(α:Type)(l:List α),l.take 0=[]) ∧
  (∀(α:Type)(x:α)(l:List α),(x::l).length=l.length+1)∧(∀(α:Type),([]:List α).length=0) ∧
  (∀(α:Type)(x:α)(l m:List α),(x::l)++m=x::(l++m))∧(∀(α:Type)(m:List α),[]++m=m) ∧
  (∀(α:Type)(x:α)(l:List α),(x::l)[0]?=Qv x)∧(∀(α:Type)(x:α)(l:List α)(n:Nat),(x::l)[n+1]?=l[n]?) ∧
  (∀(B l:List Box)(k:Nat),(B++l)[B.length+k]?=l[k]?)∧(∀(B l:List Box)(k:Nat)(x:Box),(B++l).set (B.length+k) x=B++l.set k x) ∧
  (∀(B l m:List Box),(B++l)++m=B++(l++m))∧(∀(B l:List Box),(B++l).length=B.length+l.length) ∧
  (∀(x y:Box)(l:List Box),(x::l).set 0 y=y::l)∧(∀(x y:Box)(l:List Box)(n:Nat),(x::l).set (n+1) y=x::l.set n y) ∧
  (∀(α:Type)(n:Nat)(x:α),MD (n+1) x=x::MD n x)∧(∀(α:Type)(x:α),MD 0 x=[]):=by
 and_intros
 all_goals intros
 all_goals first
  |rfl
  |with_unfolding_all rfl
  |exact bF
  |exact iU
  |exact bD
  |exact iJ
  |exact List.append_assoc _ _ _
  |exact K4
theorem mk0:∀(f:Fx)(m:Mk),(f.cells m).length=29:=λ_ _=>rfl
theorem mk1:∀(f:Fx)(m:Mk),(f.cells m)[0]?=Qv (.slice .none (byteCells f.bytes)):=λ_ _=>rfl
theorem mk2:∀(f:Fx)(m:Mk),((f.cells m).drop 1)[0]?=Qv (.int .i64 m.pos):=λ_ _=>rfl
theorem mk3:∀(f:Fx)(m:Mk),((f.cells m).drop 2)[0]?=Qv (.slice .none (aM f.dc.globals)):=λ_ _=>rfl
theorem mk4:∀(f:Fx)(m:Mk),((f.cells m).drop 3)[0]?=Qv (.slice .none (aM f.dc.classes)):=λ_ _=>rfl
theorem mk5:∀(f:Fx)(m:Mk),((f.cells m).drop 4)[0]?=Qv (.slice .none (cX f.dc.queues)):=λ_ _=>rfl
theorem mk6:∀(f:Fx)(m:Mk),((f.cells m).drop 5)[0]?=Qv (.slice .none (ah f.dc.sinks)):=λ_ _=>rfl
theorem mk7:∀(f:Fx)(m:Mk),((f.cells m).drop 6)[0]?=Qv (.int .i64 f.dc.locks):=λ_ _=>rfl
theorem mk8:∀(f:Fx)(m:Mk),((f.cells m).drop 7)[0]?=Qv (.int .i64 f.dc.parts):=λ_ _=>rfl
theorem mk9:∀(f:Fx)(m:Mk),((f.cells m).drop 8)[0]?=Qv (.int .i64 f.dc.firms):=λ_ _=>rfl
theorem mk10:∀(f:Fx)(m:Mk),((f.cells m).drop 9)[0]?=Qv (.slice f.oh (aN f.heads)):=λ_ _=>rfl
theorem mk11:∀(f:Fx)(m:Mk),((f.cells m).drop 10)[0]?=Qv (.slice f.od (ax f.defs)):=λ_ _=>rfl
theorem mk12:∀(f:Fx)(m:Mk),((f.cells m).drop 11)[0]?=Qv (.slice f.ot (ah f.threads)):=λ_ _=>rfl
theorem mk13:∀(f:Fx)(m:Mk),((f.cells m).drop 12)[0]?=Qv (.int .i64 f.d.id):=λ_ _=>rfl
theorem mk14:∀(f:Fx)(m:Mk),((f.cells m).drop 13)[0]?=Qv (.int .i64 f.d.site):=λ_ _=>rfl
theorem mk15:∀(f:Fx)(m:Mk),((f.cells m).drop 14)[0]?=Qv (.str f.d.name):=λ_ _=>rfl
theorem mk16:∀(f:Fx)(m:Mk),((f.cells m).drop 15)[0]?=Qv (.int .i64 f.d.firm):=λ_ _=>rfl
theorem mk17:∀(f:Fx)(m:Mk),((f.cells m).drop 16)[0]?=Qv (.int .i64 f.d.part):=λ_ _=>rfl
theorem mk18:∀(f:Fx)(m:Mk),((f.cells m).drop 17)[0]?=Qv (.slice f.op (aM f.d.params)):=λ_ _=>rfl
theorem mk19:∀(f:Fx)(m:Mk),((f.cells m).drop 18)[0]?=Qv (.slice f.og (aM f.d.given)):=λ_ _=>rfl
theorem mk20:∀(f:Fx)(m:Mk),((f.cells m).drop 19)[0]?=Qv (.int .i64 f.d.vars):=λ_ _=>rfl
theorem mk21:∀(f:Fx)(m:Mk),((f.cells m).drop 20)[0]?=Qv (.int .i64 f.d.refs):=λ_ _=>rfl
theorem mk22:∀(f:Fx)(m:Mk),((f.cells m).drop 21)[0]?=Qv (.slice f.oa (cj f.d.arrays)):=λ_ _=>rfl
theorem mk23:∀(f:Fx)(m:Mk),((f.cells m).drop 22)[0]?=Qv (.int .i64 f.d.budget):=λ_ _=>rfl
theorem mk24:∀(f:Fx)(m:Mk),((f.cells m).drop 23)[0]?=Qv (.slice f.ob (Sm.encs f.d.body)):=λ_ _=>rfl
theorem mk25:∀(f:Fx)(m:Mk),((f.cells m).drop 24)[0]?=Qv (.int .i64 m.site):=λ_ _=>rfl
theorem mk26:∀(f:Fx)(m:Mk),((f.cells m).drop 25)[0]?=Qv (.int .i64 m.left):=λ_ _=>rfl
theorem mk27:∀(f:Fx)(m:Mk),((f.cells m).drop 26)[0]?=Qv (.int .i64 m.loop):=λ_ _=>rfl
theorem mk28:∀(f:Fx)(m:Mk),((f.cells m).drop 27)[0]?=Qv (.int .i64 m.done):=λ_ _=>rfl
theorem mk29:∀(f:Fx)(m:Mk),((f.cells m).drop 28)[0]?=Qv (.bool Qw):=λ_ _=>rfl
theorem mk30:∀(f:Fx)(m:Mk)(n:Int),(f.cells m).take 1++(.int .i64 n::(f.cells m).drop 2)=f.cells {m with pos:=n}:=λ_ _ _=>rfl
theorem mk31:∀(f:Fx)(m:Mk)(n:Int),(f.cells m).take 24++(.int .i64 n::(f.cells m).drop 25)=f.cells {m with site:=n}:=λ_ _ _=>rfl
theorem mk32:∀(f:Fx)(m:Mk)(n:Int),(f.cells m).take 25++(.int .i64 n::(f.cells m).drop 26)=f.cells {m with left:=n}:=λ_ _ _=>rfl
theorem mk33:∀(f:Fx)(m:Mk)(n:Int),(f.cells m).take 26++(.int .i64 n::(f.cells m).drop 27)=f.cells {m with loop:=n}:=λ_ _ _=>rfl
theorem mk34:∀(f:Fx)(m:Mk)(n:Int),(f.cells m).take 27++(.int .i64 n::(f.cells m).drop 28)=f.cells {m with done:=n}:=λ_ _ _=>rfl
def vsMk:=QJ @mk0<|QJ @mk1<|QJ @mk2<|QJ @mk3<|QJ @mk4<|QJ @mk5<|QJ @mk6<|QJ @mk7<|QJ @mk8<|QJ @mk9<|QJ @mk10<|QJ @mk11<|QJ @mk12<|QJ @mk13<|QJ @mk14<|QJ @mk15<|QJ @mk16<|QJ @mk17<|QJ @mk18<|QJ @mk19<|QJ @mk20<|QJ @mk21<|QJ @mk22<|QJ @mk23<|QJ @mk24<|QJ @mk25<|QJ @mk26<|QJ @mk27<|QJ @mk28<|QJ @mk29<|QJ @mk30<|QJ @mk31<|QJ @mk32<|QJ @mk33 @mk34
theorem aT{nb nl:Nat}{xs:List (List D)}(h:∀x∈xs,∀d∈x,Bd nb nl d):Bd nb nl (.slice .none xs):=
 .slice _ _ (λk z e=>by cases e) λi j hi hj=>h _ (Mf hi) _ (Mf hj)
theorem aK{nb nl:Nat}{cs:List D}(h:∀d∈cs,Bd nb nl d):Bd nb nl (.agg cs):=.agg _ λi hi=>h _ (Mf hi)
mutual
theorem Ex.bd{nb nl:Nat}:(x:Ex)→∀d∈x.cells,Bd nb nl d
 |.mk op n v a=>by
  intro d hd;simp only[Ex.cells,Mj,MX,or_false]at hd;rcases hd with rfl|rfl|rfl|rfl
  ·exact .int _ _
  ·exact .int _ _
  ·exact .int _ _
  ·exact aT (Ex.bds a)
theorem Ex.bds{nb nl:Nat}:(l:List Ex)→∀x∈Ex.encs l,∀d∈x,Bd nb nl d
 | []=>by intro x hx;simp[Ex.encs]at hx
 |y::l=>by
  intro x hx;simp only[Ex.encs,Mj]at hx;rcases hx with rfl|hx
  ·exact Ex.bd y
  ·exact Ex.bds l x hx
end
mutual
theorem Co.bd{nb nl:Nat}:(x:Co)→∀d∈x.cells,Bd nb nl d
 |.mk op a c=>by
  intro d hd;simp only[Co.cells,Mj,MX,or_false]at hd;rcases hd with rfl|rfl|rfl
  ·exact .int _ _
  ·exact aT (Ex.bds a)
  ·exact aT (Co.bds c)
theorem Co.bds{nb nl:Nat}:(l:List Co)→∀x∈Co.encs l,∀d∈x,Bd nb nl d
 | []=>by intro x hx;simp[Co.encs]at hx
 |y::l=>by
  intro x hx;simp only[Co.encs,Mj]at hx;rcases hx with rfl|hx
  ·exact Co.bd y
  ·exact Co.bds l x hx
end
theorem vN{nb nl:Nat}{k:IntKind}{l:List Int}:∀x∈l.map (λx=>[D.int k x]),∀d∈x,Bd nb nl d:=by
 intro x hx d hd;obtain⟨y,_,rfl⟩:=MB.1 hx;simp only[List.mem_singleton]at hd;subst hd;exact .int _ _
mutual
theorem Sm.bd{nb nl:Nat}:(x:Sm)→∀d∈x.cells,Bd nb nl d
 |.mk site op n m v x y c args ptrs body els=>by
  intro d hd;simp only[Sm.cells,Mj,List.mem_append,MX,or_false]at hd;rcases hd with rfl|rfl|rfl|rfl|rfl|hd|hd|hd|rfl|rfl|rfl|rfl
  ·exact .int _ _
  ·exact .int _ _
  ·exact .int _ _
  ·exact .int _ _
  ·exact .int _ _
  ·exact Ex.bd x d hd
  ·exact Ex.bd y d hd
  ·exact Co.bd c d hd
  ·exact aT (Ex.bds args)
  ·exact aT vN
  ·exact aT (Sm.bds body)
  ·exact aT (Sm.bds els)
theorem Sm.bds{nb nl:Nat}:(l:List Sm)→∀x∈Sm.encs l,∀d∈x,Bd nb nl d
 | []=>by intro x hx;simp[Sm.encs]at hx
 |y::l=>by
  intro x hx;simp only[Sm.encs,Mj]at hx;rcases hx with rfl|hx
  ·exact Sm.bd y
  ·exact Sm.bds l x hx
end
theorem Fx.sub{nb nl:Nat}(f:Fx)(m m':Mk):∀d∈f.cells m',d∈f.cells m∨Bd nb nl d:=by
 intro d hd;simp only[Fx.cells,Mj,MX,or_false]at hd⊢;rcases hd with rfl|rfl|rfl|rfl|rfl|rfl|rfl|rfl|rfl|rfl|rfl|rfl|rfl|rfl|rfl|rfl|rfl|rfl|rfl|rfl|rfl|rfl|rfl|rfl|rfl|rfl|rfl|rfl|rfl<;>first
  |exact .inr (.int _ _)
  |exact .inr (.bool _)
  |(left;simp only[true_or,or_true])
theorem jC{B T X:List Box}{L L':List Nat}{c c':Nat}{x y:Box}(h:∀nb,sameLoop nb c x y)(hl:∀k,k∈L→k∈L')(hc:c≤c'):Leave ⟨B++x::T,L,c⟩ ⟨B++y::(T++X),L',c'⟩ ⟨B++y::T,L,c⟩ where
 len:=by simp
 pre:=λi bx hi=>by
  have:(B++y::T)[i]?=Qv bx:=hi
  have hlt:i<(B++y::T).length:=by
   rcases Nat.lt_or_ge i (B++y::T).length with q|q
   ·exact q
   ·rw[MS q]at this;cases this
  show(B++y::(T++X))[i]?=Qv bx;rw[show B++y::(T++X)=(B++y::T)++X by simp,ML hlt];exact this
 old:=λi bx hi=>by
  have hi:(B++y::T)[i]?=Qv bx:=hi;show(B++x::T)[i]?=Qv bx∨_;rcases Nat.lt_trichotomy i B.length with q|q|q
  ·rw[ML q]at hi⊢;exact .inl hi
  ·subst q;rw[bF]at hi;cases hi;exact .inr (.inr ⟨x,bF,h _⟩)
  ·left;rw[List.getElem?_append_right (by omega)]at hi⊢;obtain⟨k,hk⟩:∃k,i-B.length=k+1:=⟨i-B.length-1,by omega⟩;rw[hk]at hi⊢;exact hi
 slen:=by simp
 live:=λk hk=>⟨hl k hk,.inl hk⟩
 ctr:=K5 _
 ctr':=hc
 nd:=.inl rfl
theorem bu{P:QA}{rs:List ResultVar}{f:Fx}{m m' m1:Mk}{B T X:List Box}{L L':List Nat}{c c':Nat}{r:D}{e:List D}{x:Exit}(hx:x=.normal∨x=.ret)(h1:(resD P e ⟨B++.cells (f.cells m1)::(T++X),L',c'⟩ rs).map kf=Qv r)(hb:Bd 0 0 r)
  (hm:m1=m') (hl:∀k,k∈L→k∈L') (hc:c≤c'):@qI x e ⟨B++.cells (f.cells m1)::(T++X),L',c'⟩ (lu P rs ⟨B++.cells (f.cells m)::T,L,c⟩ r ⟨B++.cells (f.cells m')::T,L,c⟩):=by
 subst hm;unfold lu;obtain⟨ds,h1,h2⟩:=MQ.1 h1;rcases hx with rfl|rfl<;>exact⟨ds,h1,h2,jC (λnb=>f.sub m m1) hl hc,hb.mono (K9 _) (K9 _)⟩
theorem gI{P:QA}{rs:List ResultVar}{f:Fx}{m m' m1:Mk}{B T:List Box}{L:List Nat}{c:Nat}{r:D}{e:List D}{x:Exit}(hx:x=.normal∨x=.ret)(h1:(resD P e ⟨B++.cells (f.cells m1)::T,L,c⟩ rs).map kf=Qv r)(hb:Bd 0 0 r)
  (hm:m1=m'):@qI x e ⟨B++.cells (f.cells m1)::T,L,c⟩ (lu P rs ⟨B++.cells (f.cells m)::T,L,c⟩ r ⟨B++.cells (f.cells m')::T,L,c⟩):=by
 have:=bu (X:=[]) (P:=P) (rs:=rs) (f:=f) (m:=m) (m':=m') (m1:=m1) (B:=B) (T:=T) (L:=L) (L':=L) (c:=c) (c':=c) (r:=r) (e:=e) hx (by simpa using h1) hb hm (λ_ h=>h) (K5 _)
 simpa using this
theorem am{P:QA}{rs:List ResultVar}{B X:List Box}{L L':List Nat}{c c':Nat}{r:D}{e:List D}{x:Exit}(hx:x=.normal∨x=.ret)(h1:(resD P e ⟨B++X,L',c'⟩ rs).map kf=Qv r)(hb:Bd 0 0 r)(hl:∀k,k∈L→k∈L')(hc:c≤c') :
  @qI x e ⟨B++X,L',c'⟩ (lu P rs ⟨B,L,c⟩ r ⟨B,L,c⟩):=by
 obtain⟨ds,h1,h2⟩:=MQ.1 h1;exact EV hx h1 h2 hb hl hc
theorem aH{P:QA}{rs:List ResultVar}{s:St}{r:D}{e:List D}{x:Exit}(hx:x=.normal∨x=.ret)(h1:(resD P e s rs).map kf=Qv r)(hb:Bd 0 0 r) :
  @qI x e s (lu P rs s r s):=by
 obtain⟨ds,h1,h2⟩:=MQ.1 h1;exact EU hx h1 h2 hb
theorem QR{P:QA}{rs:List ResultVar}{B X:List Box}{L:List Nat}{c:Nat}{r:D}{e:List D}(h:(resD P e ⟨B++X,L,c⟩ rs).map kf=Qv r)(hb:Bd 0 0 r):@qI .ret e ⟨B++X,L,c⟩ (lu P rs ⟨B,L,c⟩ r ⟨B,L,c⟩):=am (.inr rfl) h hb (λ_ h=>h) (Nat.le_refl _)
theorem QS{P:QA}{rs:List ResultVar}{s:St}{r:D}{e:List D}(h:(resD P e s rs).map kf=Qv r)(hb:Bd 0 0 r):@qI .ret e s (lu P rs s r s):=aH (.inr rfl) h hb
def rnd(l:List Int)(p n:Int):Int:=match l[p.toNat]? with
 |some x=>x.tmod n
 |none=>0
def qr(f:Fd):Prop:=∀x∈f.bytes,0≤x∧x<256
theorem aO{l:List Int}{p n:Int}(h:∀x∈l,0≤x∧x<256):0≤rnd l p n:=by
 unfold rnd;split
 ·rename_i x hx;exact Oz _ (h _ (List.mem_of_getElem? hx)).1
 ·omega
theorem bC{l:List Int}{p n:Int}(hn:0<n):rnd l p n<n:=by
 unfold rnd;split
 ·exact Ob _ hn
 ·omega
theorem ba(f:Fx)(m:Mk)(n:Int)(B T:List Box)(L:List Nat)(c:Nat)(hn:0<n)(hp:0≤m.pos∧m.pos≤1000000)(hb:qr f) :
  ay Qz 127 [.box B.length 0,.int .i64 n] ⟨B++.cells (f.cells m)::T,L,c⟩ (.int .i64 (rnd f.bytes m.pos n)) ⟨B++.cells (f.cells {m with pos:=m.pos+1})::T,L,c⟩:=by
 refine ay.introN [] func127 rfl (by decide) az (by kernel_rfl) [QO 4] 36 rfl rfl ?_;simp only[vq,tf3,Jr,fj,vsX,zA,zS,zL,vsMk];rw[aG (by omega)];have hlen:(byteCells f.bytes).length=f.bytes.length:=by simp[byteCells]
 refine ak (λhc=>?_) (λhc=>?_)
 ·simp only[vq];refine gI (.inr rfl) ?_ (.int _ _) rfl;simp only[decide_eq_true_eq,hlen]at hc;have hx:f.bytes[m.pos.toNat]?=Qx:=MS (by omega);simp only[rnd,hx];rfl
 ·simp only[decide_eq_false_iff_not,hlen]at hc;have hlt:m.pos.toNat<f.bytes.length:=by omega
  have hx:=C0 hlt;have hw:QQ.wrap (m.pos+1-1)=m.pos:=by rw[aG (by omega)];omega
  have hg:(byteCells f.bytes)[m.pos.toNat]?=Qv [.int .u8 f.bytes[m.pos.toNat]]:=by simp[byteCells,hx]
  have hq:=hb _ (Mf hlt);have hw2:QQ.wrap f.bytes[m.pos.toNat]=f.bytes[m.pos.toNat]:=aG (by omega);have hn0:n≠0:=by omega
  have hp0:=hp.1;simp only[vq,tf3,tf5,Jr,fj,vsX,zA,vsMk,hw,hg,hw2,hn0,hp0];refine gI (.inr rfl) ?_ (.int _ _) rfl;simp only[rnd,hx];rfl
def vqR:=And.intro vq (And.intro vsX (And.intro vsT (And.intro vsF vsRes)))
def vqM:=And.intro vqR (And.intro vsMk Int.natCast_zero)
def num(v:Int):Ex:=.mk 1 0 v []
def var(n:Int):Ex:=.mk 2 n 0 []
def bin(op:Int)(a b:Ex):Ex:=.mk op 0 0 [a,b]
def Hn(op:Int)(a b:Ex):Co:=.mk op [a,b] []
def I3(c:Co):Co:=.mk 5 [] [c]
theorem tw(v:Int)(s:St):ay Qz 131 [.int .i64 v] s (.agg (num v).cells) s:=by
 obtain⟨B,L,c⟩:=s;refine ay.introN [] func131 rfl (by decide) az (by kernel_rfl) [QP 2 124] 5 rfl rfl ?_;simp only[vqR,zA,zS,zL,bK];refine QR ?_ (aK (Ex.bd _));simp only[vqR,zA,bK,num,Ex.cells,Ex.encs]
theorem LR(v:Int)(s:St):ay Qz 291 [.int .i64 v] s (.agg (var v).cells) s:=by
 obtain⟨B,L,c⟩:=s;refine ay.introN [] func291 rfl (by decide) az (by kernel_rfl) [QP 2 124] 5 rfl rfl ?_;simp only[vqR,zA,zS,zL,bK];refine QR ?_ (aK (Ex.bd _));simp only[vqR,zA,bK,var,Ex.cells,Ex.encs]
theorem Jw(op:Int)(a b:Ex)(s:St):ay Qz 292 [.int .i64 op,.agg a.cells,.agg b.cells] s (.agg (bin op a b).cells) s:=by
 obtain⟨B,L,c⟩:=s;refine ay.introN [] func292 rfl (by decide) az (by kernel_rfl) [QP 6 124] 12 rfl rfl ?_;simp only[vqR,cW,bK,zA,zS,zM,zL];refine QR ?_ (aK (Ex.bd _));simp only[vqR,bK,zA,bin,Ex.cells,Ex.encs]
theorem Ap(op:Int)(a b:Ex)(s:St):ay Qz 289 [.int .i64 op,.agg a.cells,.agg b.cells] s (.agg (Hn op a b).cells) s:=by
 obtain⟨B,L,c⟩:=s;refine ay.introN [] func289 rfl (by decide) az (by kernel_rfl) [QP 6 128] 12 rfl rfl ?_;simp only[vqR,cW,bK,eC,zA,zS,zM,zL];refine QR ?_ (aK (Co.bd _));simp only[vqR,eC,zA,Hn,Co.cells,Co.encs,Ex.encs]
theorem LT(a:Co)(s:St):ay Qz 290 [.agg a.cells] s (.agg (I3 a).cells) s:=by
 obtain⟨B,L,c⟩:=s;refine ay.introN [] func290 rfl (by decide) az (by kernel_rfl) [QP 2 128] 6 rfl rfl ?_;simp only[vqR,ki,eC,zA,zS,zM,zL];refine QR ?_ (aK (Co.bd _));simp only[vqR,eC,zA,I3,Co.cells,Co.encs,Ex.encs]
theorem jj(f:Fx)(m:Mk)(B T:List Box)(L:List Nat)(c:Nat)(hp:0≤m.site∧m.site≤1000000) :
  ay Qz 173 [.box B.length 0] ⟨B++.cells (f.cells m)::T,L,c⟩ (.int .i64 (m.site+1)) ⟨B++.cells (f.cells {m with site:=m.site+1})::T,L,c⟩:=by
 refine ay.introN [] func173 rfl (by decide) az (by kernel_rfl) [QO 2] 14 rfl rfl ?_;have hw:QQ.wrap (m.site+1)=m.site+1:=aG (by omega);simp only[vqR,tf3,fj,zA,zS,zL,vsMk,hw];refine gI (.inr rfl) ?_ (.int _ _) rfl;simp only[vqR]
def targ(f:Fd)(m:Mk):Int:=f.d.params.length+rnd f.bytes m.pos (f.d.vars-f.d.params.length)
structure FxV (f:Fd):Prop where
 ok:qr f
 par:f.d.params.length≤100
 vars:f.d.params.length<f.d.vars∧f.d.vars≤1000
theorem ao(l:List Rg):(aM l).length=l.length:=by simp[aM]
theorem ai(l:List Ar):(cj l).length=l.length:=by simp[cj]
theorem aB(l:List Hd):(aN l).length=l.length:=by simp[aN]
theorem aj(l:List Df):(ax l).length=l.length:=by simp[ax]
theorem ab(l:List Int):(ah l).length=l.length:=by simp[ah]
theorem eH(f:Fx)(m:Mk)(B T:List Box)(L:List Nat)(c:Nat)(hf:FxV f)(hp:0≤m.pos∧m.pos≤1000000) :
  ay Qz 270 [.box B.length 0] ⟨B++.cells (f.cells m)::T,L,c⟩ (.int .i64 (targ f m)) ⟨B++.cells (f.cells {m with pos:=m.pos+1})::T,L,c⟩:=by
 have h1:=hf.vars;have h2:=hf.par;have hw:QQ.wrap (f.d.vars-f.d.params.length)=f.d.vars-f.d.params.length:=aG (by omega);have hr1:0≤rnd f.bytes m.pos (f.d.vars-f.d.params.length):=aO hf.ok;have hr2:rnd f.bytes m.pos (f.d.vars-f.d.params.length)<(f.d.vars-f.d.params.length):=bC (by omega);have hw2:QQ.wrap (f.d.params.length+rnd f.bytes m.pos (f.d.vars-f.d.params.length))=targ f m:=aG (by omega);refine ay.introN [(1,.text [Qw,Qw,Qw,Qw,Qw,Qw,Qw,Qw,Qw,Qw,Qw,Qw,Qw,Qw,Qw,Qw,Qw,Qw,Qw,Qy,Qw,Qw] [(4,1),(5,1)])] func270 rfl (by decide) az (by kernel_rfl) [QO 2] 24 rfl rfl ?_;simp only[vqR,tf3,dS,bg,fj,zA,zS,zB,vsMk,ao,hw];refine aa (ba f m _ B T L c (by omega) hp hf.ok) ?_;simp only[vqR,dS,vsMk,ao,hw2];refine gI (.inr rfl) ?_ (.int _ _) rfl;simp only[vqR]
def expr(f:Fd):Nat→Mk→Ex×Mk
 |0,m=>(num (rnd f.bytes (m.pos+1) 14-3),{m with pos:=m.pos+1+1})
 |d+1,m =>
  if rnd f.bytes m.pos 12<4 then(num (rnd f.bytes (m.pos+1) 14-3),{m with pos:=m.pos+1+1})
  else if rnd f.bytes m.pos 12<9 then(var (rnd f.bytes (m.pos+1) f.d.vars),{m with pos:=m.pos+1+1})
  else if rnd f.bytes m.pos 12=9∧0<f.d.arrays.length then(.mk 3 (rnd f.bytes (m.pos+1) f.d.arrays.length) 0 [],{m with pos:=m.pos+1+1})
  else(bin (4+rnd f.bytes (m.pos+1) 7) (expr f d {m with pos:=m.pos+1+1}).1 (expr f d (expr f d {m with pos:=m.pos+1+1}).2).1,(expr f d (expr f d {m with pos:=m.pos+1+1}).2).2)
def ecost:Nat→Nat
 |0=>2
 |d+1=>2+2*ecost d
theorem be(f:Fd):∀(d:Nat)(m:Mk),∃p,(expr f d m).2={m with pos:=p}∧m.pos≤p∧p≤m.pos+ecost d:=by
 intro d;induction d with
 |zero=>intro m;exact⟨_,rfl,by omega,by simp only[ecost];omega⟩
 |succ d ih =>
  intro m;have he:2≤ecost d:=by cases d<;>simp only[ecost]<;>omega
  unfold expr;split
  ·exact⟨_,rfl,by omega,by simp only[ecost];omega⟩
  ·split
   ·exact⟨_,rfl,by omega,by simp only[ecost];omega⟩
   ·split
    ·exact⟨_,rfl,by omega,by simp only[ecost];omega⟩
    ·obtain⟨p,h1,h2,h3⟩:=ih {m with pos:=m.pos+1+1};obtain⟨q,h4,h5,h6⟩:=ih {m with pos:=p};simp only at h2 h3 h5 h6;refine⟨q,?_,by omega,by simp only[ecost];omega⟩;simp only[h1,h4]
theorem eh(f:Fx)(hf:FxV f)(ha:f.d.arrays.length≤1000):∀(d:Nat)(m:Mk)(B T:List Box)(L:List Nat)(c:Nat),d≤10→0≤m.pos∧m.pos+ecost d≤1000000 →
  ay Qz 272 [.box B.length 0,.int .i64 d] ⟨B++.cells (f.cells m)::T,L,c⟩ (.agg (expr f d m).1.cells) ⟨B++.cells (f.cells (expr f d m).2)::T,L,c⟩:=by
 have hw:∀p,QQ.wrap (rnd f.bytes p 14-3)=rnd f.bytes p 14-3:=λp=>aG (by have:=@aO _ p 14 hf.ok;have:=@bC f.bytes p 14 (by omega);omega);have hw7:∀p,QQ.wrap (4+rnd f.bytes p 7)=4+rnd f.bytes p 7:=λp=>aG (by have:=@aO _ p 7 hf.ok;have:=@bC f.bytes p 7 (by omega);omega);have hv:=hf.vars;intro d;induction d with
 |zero =>
  intro m B T L c _ hp;simp only[ecost]at hp;refine ay.introN [(10,.text [Qw,Qw,Qw,Qw,Qw,Qy,Qy,Qy] [(1,1)])] func272 rfl (by decide) az (by kernel_rfl) [QP 4 124] 64 rfl rfl ?_;simp only[vqM,vt6,zA,zS,zB];refine aa (ba f m _ B _ L c (by omega) (by omega) hf.ok) ?_;simp only[vqM,zB];refine ak (λh4=>?_) (λh4=>?_)
  ·simp only[vqM,zB,h4];refine aa (ba f _ _ B _ L c (by omega) (by simp only;omega) hf.ok) ?_;simp only[vqM,hw];refine aa (tw _ _) ?_;simp only[vqM,vt6,zA];refine bu (.inr rfl) ?_ (aK (Ex.bd _)) rfl (λ_ h=>h) (K5 _);simp only[vqM,vt6,expr]
  ·simp only[vqM,zB,h4,decide_true];refine aa (ba f _ _ B _ L c (by omega) (by simp only;omega) hf.ok) ?_;simp only[vqM,hw];refine aa (tw _ _) ?_;simp only[vqM,vt6,zA];refine bu (.inr rfl) ?_ (aK (Ex.bd _)) rfl (λ_ h=>h) (K5 _);simp only[vqM,vt6,expr]
 |succ d ih =>
  intro m B T L c hd10 hp;simp only[ecost]at hp;have hz:(((d+1:Nat):Int)=0)=False:=by simp;omega
  have hwd:QQ.wrap (((d+1:Nat):Int)-1)=d:=by rw[aG (by omega)];omega
  have he2:2≤ecost d:=by cases d<;>simp only[ecost]<;>omega
  refine ay.introN [(10,.text [Qw,Qw,Qw,Qw,Qw,Qy,Qy,Qy] [(1,1)])] func272 rfl (by decide) az (by kernel_rfl) [QP 4 124] 64 rfl rfl ?_;simp only[vqM,vt6,zA,zS,zB];refine aa (ba f m _ B _ L c (by omega) (by omega) hf.ok) ?_;simp only[vqM,zB];by_cases h4:rnd f.bytes m.pos 12<4
  ·have hx:expr f (d+1) m=(num (rnd f.bytes (m.pos+1) 14-3),{m with pos:=m.pos+1+1}):=by rw[expr,if_pos h4]
   simp only[vqM,zB,h4,decide_true,hx];refine aa (ba f _ _ B _ L c (by omega) (by simp only;omega) hf.ok) ?_;simp only[vqM,hw];refine aa (tw _ _) ?_;simp only[vqM,vt6,zA];refine bu (.inr rfl) ?_ (aK (Ex.bd _)) rfl (λ_ h=>h) (K5 _);simp only[vqM,vt6]
  ·simp only[vqM,zB,h4,decide_false,hz];by_cases h9:rnd f.bytes m.pos 12<9
   ·have hx:expr f (d+1) m=(var (rnd f.bytes (m.pos+1) f.d.vars),{m with pos:=m.pos+1+1}):=by rw[expr,if_neg h4,if_pos h9]
    simp only[vqM,vt6,zA,zB,h9,decide_true,hx];refine aa (ba f _ _ B _ _ _ (by omega) (by first|omega|(simp only;omega)) hf.ok) ?_;simp only[vqM];refine aa (LR _ _) ?_;simp only[vqM,vt6,zA];refine bu (.inr rfl) ?_ (aK (Ex.bd _)) rfl (λ_ h=>h) (K5 _);simp only[vqM,vt6]
   ·simp only[vqM,zB,h9,decide_false];by_cases h99:rnd f.bytes m.pos 12=9
    ·have h99t:(rnd f.bytes m.pos 12=9)=True:=eq_true h99;simp only[vqM,vt6,zA,h99t,decide_true,ai];by_cases hL:0<f.d.arrays.length
     ·have hx:expr f (d+1) m=(.mk 3 (rnd f.bytes (m.pos+1) f.d.arrays.length) 0 [],{m with pos:=m.pos+1+1}):=by rw[expr,if_neg h4,if_neg h9,if_pos ⟨h99,hL⟩]
      have hLt:((0:Int)<(f.d.arrays.length:Int))=True:=eq_true (by omega);simp only[vqM,vt6,zA,zB,hLt,decide_true,hx,ai];refine aa (ba f _ _ B _ _ _ (by omega) (by first|omega|(simp only;omega)) hf.ok) ?_;simp only[vqM,vt6,zA,zL];refine bu (.inr rfl) ?_ (aK (Ex.bd _)) rfl (λ_ h=>h) (K5 _);simp only[vqM,vt6,zA,Ex.cells,Ex.encs]
     ·have hx:expr f (d+1) m=(bin (4+rnd f.bytes (m.pos+1) 7) (expr f d {m with pos:=m.pos+1+1}).1 (expr f d (expr f d {m with pos:=m.pos+1+1}).2).1,(expr f d (expr f d {m with pos:=m.pos+1+1}).2).2):=by
       rw[expr,if_neg h4,if_neg h9,if_neg (λh=>hL h.2)]
      have hLt:((0:Int)<(f.d.arrays.length:Int))=False:=eq_false (by omega);simp only[vqM,zB,hLt,decide_false];refine aa (ba f _ _ B _ _ _ (by omega) (by first|omega|(simp only;omega)) hf.ok) ?_;simp only[vqM,zB,hw7,hwd];refine aa (ih {m with pos:=m.pos+1+1} B _ L c (by omega) (by simp only;omega)) ?_;obtain⟨p1,e1,e2,e3⟩:=be f d {m with pos:=m.pos+1+1};simp only at e2 e3;simp only[vqM,vt6,zA,hwd,e1];refine aa (ih {m with pos:=p1} B _ L c (by omega) (by simp only;omega)) ?_;obtain⟨p2,e4,e5,e6⟩:=be f d {m with pos:=p1};simp only[vqM,e4];refine aa (Jw _ _ _ _) ?_;simp only[vqM,vt6,zA];refine bu (.inr rfl) ?_ (aK (Ex.bd _)) ?_ (λ_ h=>h) (K5 _)
      ·simp only[vqM,vt6,hx,e1]
      ·simp only[hx,e1,e4]
    ·have hx:expr f (d+1) m=(bin (4+rnd f.bytes (m.pos+1) 7) (expr f d {m with pos:=m.pos+1+1}).1 (expr f d (expr f d {m with pos:=m.pos+1+1}).2).1,(expr f d (expr f d {m with pos:=m.pos+1+1}).2).2):=by
      rw[expr,if_neg h4,if_neg h9,if_neg (λh=>h99 h.1)]
     have h99t:(rnd f.bytes m.pos 12=9)=False:=eq_false h99;simp only[vqM,zB,h99t,decide_false];refine aa (ba f _ _ B _ _ _ (by omega) (by first|omega|(simp only;omega)) hf.ok) ?_;simp only[vqM,zB,hw7,hwd];refine aa (ih {m with pos:=m.pos+1+1} B _ L c (by omega) (by simp only;omega)) ?_;obtain⟨p1,e1,e2,e3⟩:=be f d {m with pos:=m.pos+1+1};simp only at e2 e3;simp only[vqM,vt6,zA,hwd,e1];refine aa (ih {m with pos:=p1} B _ L c (by omega) (by simp only;omega)) ?_;obtain⟨p2,e4,e5,e6⟩:=be f d {m with pos:=p1};simp only[vqM,e4];refine aa (Jw _ _ _ _) ?_;simp only[vqM,vt6,zA];refine bu (.inr rfl) ?_ (aK (Ex.bd _)) ?_ (λ_ h=>h) (K5 _)
     ·simp only[vqM,vt6,hx,e1]
     ·simp only[hx,e1,e4]
def oj(f:Fd)(m:Mk):Co×Mk:=
 (Hn (2+(rnd f.bytes m.pos 8).tmod 3) (expr f 1 {m with pos:=m.pos+1}).1 (expr f 1 (expr f 1 {m with pos:=m.pos+1}).2).1,(expr f 1 (expr f 1 {m with pos:=m.pos+1}).2).2)
def cond(f:Fd):Nat→Mk→Co×Mk
 |0,m=>oj f m
 |d+1,m =>
  if rnd f.bytes m.pos 8<6 then oj f m
  else if rnd f.bytes m.pos 8=6 then(I3 (cond f d {m with pos:=m.pos+1}).1,(cond f d {m with pos:=m.pos+1}).2)
  else
   (.mk (6+rnd f.bytes (cond f d {m with pos:=m.pos+1}).2.pos 2) [] [(cond f d {m with pos:=m.pos+1}).1,(cond f d { (cond f d {m with pos:=m.pos+1}).2 with pos:=(cond f d {m with pos:=m.pos+1}).2.pos+1}).1],
    (cond f d { (cond f d {m with pos:=m.pos+1}).2 with pos:=(cond f d {m with pos:=m.pos+1}).2.pos+1}).2)
def ccost:Nat→Nat
 |0=>13
 |d+1=>13+2*ccost d
theorem p8(f:Fd)(m:Mk):∃p,(oj f m).2={m with pos:=p}∧m.pos≤p∧p≤m.pos+13:=by
 obtain⟨p1,e1,e2,e3⟩:=be f 1 {m with pos:=m.pos+1};obtain⟨p2,e4,e5,e6⟩:=be f 1 {m with pos:=p1};simp only[ecost]at e2 e3 e5 e6;refine⟨p2,?_,by omega,by omega⟩;simp only[oj,e1,e4]
theorem dK(f:Fd):∀(d:Nat)(m:Mk),∃p,(cond f d m).2={m with pos:=p}∧m.pos≤p∧p≤m.pos+ccost d:=by
 intro d;induction d with
 |zero=>intro m;exact p8 f m
 |succ d ih =>
  intro m;have hc:13≤ccost d:=by cases d<;>simp only[ccost]<;>omega
  unfold cond;split
  ·obtain⟨p,h1,h2,h3⟩:=p8 f m;exact⟨p,h1,h2,by simp only[ccost];omega⟩
  ·obtain⟨p,h1,h2,h3⟩:=ih {m with pos:=m.pos+1};simp only at h2 h3;split
   ·exact⟨p,by simp only[h1],by omega,by simp only[ccost];omega⟩
   ·obtain⟨q,h4,h5,h6⟩:=ih {m with pos:=p+1};simp only at h5 h6;exact⟨q,by simp only[h1,h4],by omega,by simp only[ccost];omega⟩
theorem AR(f:Fx)(hf:FxV f)(ha:f.d.arrays.length≤1000)(m:Mk)(hp:0≤m.pos∧m.pos+13≤1000000) :
  ∃p1 p2,(expr f 1 {m with pos:=m.pos+1}).2={m with pos:=p1}∧(expr f 1 {m with pos:=p1}).2={m with pos:=p2}∧0≤p1∧p1+6≤1000000∧(0≤p2∧p2≤1000000) ∧
   (oj f m)=(Hn (2+(rnd f.bytes m.pos 8).tmod 3) (expr f 1 {m with pos:=m.pos+1}).1 (expr f 1 {m with pos:=p1}).1,{m with pos:=p2}):=by
 obtain⟨p1,e1,e2,e3⟩:=be f 1 {m with pos:=m.pos+1};obtain⟨p2,e4,e5,e6⟩:=be f 1 {m with pos:=p1};simp only[ecost]at e2 e3 e5 e6;exact⟨p1,p2,e1,e4,by omega,by omega,⟨by omega,by omega⟩,by simp only[oj,e1,e4]⟩
theorem Aq(f:Fx)(hf:FxV f)(ha:f.d.arrays.length≤1000):∀(d:Nat)(m:Mk)(B T:List Box)(L:List Nat)(c:Nat),d≤10→0≤m.pos∧m.pos+ccost d≤1000000 →
  ay Qz 269 [.box B.length 0,.int .i64 d] ⟨B++.cells (f.cells m)::T,L,c⟩ (.agg (cond f d m).1.cells) ⟨B++.cells (f.cells (cond f d m).2)::T,L,c⟩:=by
 have hw3:∀p,QQ.wrap (2+(rnd f.bytes p 8).tmod 3)=2+(rnd f.bytes p 8).tmod 3:=λp=>aG (by have h1:=@aO _ p 8 hf.ok;have:=@bC f.bytes p 8 (by omega);have:=Oz 3 h1;have:=Ob (rnd f.bytes p 8) (b:=3) (by omega);omega);have hw2:∀p,QQ.wrap (6+rnd f.bytes p 2)=6+rnd f.bytes p 2:=λp=>aG (by have h1:=@aO _ p 2 hf.ok;have:=@bC f.bytes p 2 (by omega);omega);have h30:((3:Int)=0)=False:=by simp
 intro d;induction d with
 |zero =>
  intro m B T L c _ hp;simp only[ccost]at hp;obtain⟨p1,p2,e1,e2,q1,q2,q3,hx⟩:=AR f hf ha m (by omega);have hx0:cond f 0 m=oj f m:=rfl;refine ay.introN [(4,.text [Qw,Qw,Qw,Qw,Qw,Qy,Qy,Qy] [(3,1)]),(8,.text [Qw,Qy,Qw,Qw,Qw,Qw,Qw,Qy,Qw,Qw,Qy] [(3,0),(3,2)])] func269 rfl (by decide) az (by kernel_rfl) [QP 4 128] 46 rfl rfl ?_;simp only[vqM,vt7,zA,zS,zB];refine aa (ba f _ _ B _ _ _ (by omega) (by first|omega|(simp only;omega)) hf.ok) ?_;simp only[vqM,zB];refine ak (λh4=>?_) (λh4=>?_)
  ·simp only[vqM,zB,h4];refine aa (eh f hf ha 1 _ B _ _ _ (by omega) (by simp only[ecost];omega)) ?_;simp only[vqM,vt7,zA,zB,e1,hw3,h30];refine aa (eh f hf ha 1 _ B _ _ _ (by omega) (by simp only[ecost];omega)) ?_;simp only[vqM,e2];refine aa (Ap _ _ _ _) ?_;simp only[vqM,vt7,zA];refine bu (.inr rfl) ?_ (aK (Co.bd _)) (by rw[hx0,hx]) (λ_ h=>h) (K5 _);simp only[vqM,vt7,hx0,hx]
  ·simp only[vqM,zB,h4,decide_true];refine aa (eh f hf ha 1 _ B _ _ _ (by omega) (by simp only[ecost];omega)) ?_;simp only[vqM,vt7,zA,zB,e1,hw3,h30];refine aa (eh f hf ha 1 _ B _ _ _ (by omega) (by simp only[ecost];omega)) ?_;simp only[vqM,e2];refine aa (Ap _ _ _ _) ?_;simp only[vqM,vt7,zA];refine bu (.inr rfl) ?_ (aK (Co.bd _)) (by rw[hx0,hx]) (λ_ h=>h) (K5 _);simp only[vqM,vt7,hx0,hx]
 |succ d ih =>
  intro m B T L c hd10 hp;simp only[ccost]at hp;have hz:(((d+1:Nat):Int)=0)=False:=by simp;omega
  have hwd:QQ.wrap (((d+1:Nat):Int)-1)=d:=by rw[aG (by omega)];omega
  have hc2:13≤ccost d:=by cases d<;>simp only[ccost]<;>omega
  refine ay.introN [(4,.text [Qw,Qw,Qw,Qw,Qw,Qy,Qy,Qy] [(3,1)]),(8,.text [Qw,Qy,Qw,Qw,Qw,Qw,Qw,Qy,Qw,Qw,Qy] [(3,0),(3,2)])] func269 rfl (by decide) az (by kernel_rfl) [QP 4 128] 46 rfl rfl ?_;simp only[vqM,vt7,zA,zS,zB];refine aa (ba f _ _ B _ _ _ (by omega) (by first|omega|(simp only;omega)) hf.ok) ?_;simp only[vqM,zB];by_cases h4:rnd f.bytes m.pos 8<6
  ·obtain⟨p1,p2,e1,e2,q1,q2,q3,hx⟩:=AR f hf ha m (by omega);have hx0:cond f (d+1) m=oj f m:=by rw[cond,if_pos h4]
   simp only[vqM,zB,h4,decide_true];refine aa (eh f hf ha 1 _ B _ _ _ (by omega) (by simp only[ecost];omega)) ?_;simp only[vqM,vt7,zA,zB,e1,hw3,h30];refine aa (eh f hf ha 1 _ B _ _ _ (by omega) (by simp only[ecost];omega)) ?_;simp only[vqM,e2];refine aa (Ap _ _ _ _) ?_;simp only[vqM,vt7,zA];refine bu (.inr rfl) ?_ (aK (Co.bd _)) (by rw[hx0,hx]) (λ_ h=>h) (K5 _);simp only[vqM,vt7,hx0,hx]
  ·obtain⟨p1,e1,e2,e3⟩:=dK f d {m with pos:=m.pos+1};simp only at e2 e3;simp only[vqM,zB,h4,decide_false,hz];by_cases h6:rnd f.bytes m.pos 8=6
   ·have h6t:(rnd f.bytes m.pos 8=6)=True:=eq_true h6;have hx:cond f (d+1) m=(I3 (cond f d {m with pos:=m.pos+1}).1,{m with pos:=p1}):=by rw[cond,if_neg h4,if_pos h6,e1]
    simp only[vqM,zB,h6t,decide_true,hwd];refine aa (ih {m with pos:=m.pos+1} B _ _ _ (by omega) (by simp only;omega)) ?_;simp only[vqM,e1];refine aa (LT _ _) ?_;simp only[vqM,vt7,zA];refine bu (.inr rfl) ?_ (aK (Co.bd _)) (by rw[hx]) (λ_ h=>h) (K5 _);simp only[vqM,vt7,hx]
   ·have h6t:(rnd f.bytes m.pos 8=6)=False:=eq_false h6;obtain⟨p2,e4,e5,e6⟩:=dK f d {m with pos:=p1+1};simp only at e5 e6;have hx:cond f (d+1) m=(.mk (6+rnd f.bytes p1 2) [] [(cond f d {m with pos:=m.pos+1}).1,(cond f d {m with pos:=p1+1}).1],{m with pos:=p2}):=by
     rw[cond,if_neg h4,if_neg h6];simp only[e1,e4]
    simp only[vqM,zB,h6t,decide_false,hwd];refine aa (ih {m with pos:=m.pos+1} B _ _ _ (by omega) (by simp only;omega)) ?_;simp only[vqM,vt7,zA,zB,e1];refine aa (ba f _ _ B _ _ _ (by omega) (by first|omega|(simp only;omega)) hf.ok) ?_;simp only[vqM,vt7,hwd,hw2];refine aa (ih {m with pos:=p1+1} B _ _ _ (by omega) (by simp only;omega)) ?_;simp only[vqM,vt7,zA,zM,zL,e4];refine bu (.inr rfl) ?_ (aK (Co.bd _)) (by rw[hx]) (λ_ h=>h) (K5 _);simp only[vqM,vt7,zA,hx,Co.cells,Co.encs,Ex.encs]
def ex0:Ex:=.mk 0 0 0 []
def co0:Co:=.mk 0 [] []
def stm(site op n m v:Int)(x y:Ex)(c:Co):Sm:=.mk site op n m v x y c [] [] [] []
theorem bj(site op n m v:Int)(x y:Ex)(c:Co):(stm site op n m v x y c).cells =
  .int .i64 site::.int .i64 op::.int .i64 n::.int .i64 m::.int .i64 v::(x.cells++(y.cells++(c.cells++[.slice .none [],.slice .none [],.slice .none [],.slice .none []]))):=by
 simp only[stm,Sm.cells,Ex.encs,Sm.encs,ah,List.map_nil]
theorem aZ:ex0.cells=[.int .i64 0,.int .i64 0,.int .i64 0,.slice .none []]:=rfl
theorem bb:co0.cells=[.int .i64 0,.slice .none [],.slice .none []]:=rfl
def fu(f:Fd)(a:Mk):List Sm×Mk:=
 let s:=a.site+1
 let k:=rnd f.bytes a.pos 8
 let m:Mk:={a with site:=a.site+1,pos:=a.pos+1}
 if k=0 then([stm s 2 (targ f m) 0 0 (num (rnd f.bytes (a.pos+1+1) 4)) ex0 co0],{m with pos:=a.pos+1+1+1})
 else if k=1 then([stm s 3 0 0 0 (num (rnd f.bytes (a.pos+1) 4)) (expr f 2 {m with pos:=a.pos+1+1}).1 co0],(expr f 2 {m with pos:=a.pos+1+1}).2)
 else if k=2 then([stm s 4 (targ f m) (rnd f.bytes (a.pos+1+1) 2) 0 ex0 ex0 co0],{m with pos:=a.pos+1+1+1})
 else if k=3 then([stm s 20 (targ f m) (rnd f.bytes (a.pos+1+1) 2) 0 ex0 ex0 co0],{m with pos:=a.pos+1+1+1})
 else if k=4 then
  ([stm s 16 0 (rnd f.bytes (a.pos+1) 3) 0 ex0 ex0 co0,stm (a.site+1+1) 5 0 0 0 (num (rnd f.bytes (a.pos+1+1) 9)) ex0 co0,stm (a.site+1+1+1) 17 0 (rnd f.bytes (a.pos+1) 3) 0 ex0 ex0 co0],
   {m with site:=a.site+1+1+1,pos:=a.pos+1+1+1})
 else if k=5 then
  ([stm s 6 1 0 0 ex0 ex0 co0,stm (a.site+1+1) 9 1 0 0 (expr f 1 {m with site:=a.site+1+1}).1 ex0 co0,stm (a.site+1+1+1) 7 1 0 0 ex0 ex0 co0],
   { (expr f 1 {m with site:=a.site+1+1}).2 with site:=(expr f 1 {m with site:=a.site+1+1}).2.site+1})
 else([stm s 1 (targ f m) 0 0 (expr f 2 {m with pos:=a.pos+1+1}).1 ex0 co0],(expr f 2 {m with pos:=a.pos+1+1}).2)
theorem jY(f:Fd)(a:Mk):∃p s,(fu f a).2={a with pos:=p,site:=s}∧a.pos≤p∧p≤a.pos+17∧a.site<s∧s≤a.site+3:=by
 obtain⟨p1,e1,e2,e3⟩:=be f 2 {a with site:=a.site+1,pos:=a.pos+1+1};obtain⟨p2,e4,e5,e6⟩:=be f 1 {a with site:=a.site+1+1,pos:=a.pos+1};simp only[ecost]at e2 e3 e5 e6;unfold fu;simp only;split
 ·exact⟨_,_,rfl,by omega,by omega,by omega,by omega⟩
 split
 ·exact⟨p1,a.site+1,e1,by omega,by omega,by omega,by omega⟩
 split
 ·exact⟨_,_,rfl,by omega,by omega,by omega,by omega⟩
 split
 ·exact⟨_,_,rfl,by omega,by omega,by omega,by omega⟩
 split
 ·exact⟨_,_,rfl,by omega,by omega,by omega,by omega⟩
 split
 ·refine⟨p2,a.site+1+1+1,?_,by omega,by omega,by omega,by omega⟩;simp only[e4]
 ·exact⟨p1,a.site+1,e1,by omega,by omega,by omega,by omega⟩
theorem Em(f:Fx)(hf:FxV f)(ha:f.d.arrays.length≤1000)(a:Mk)(B T:List Box)(L:List Nat)(c:Nat)(hp:0≤a.pos∧a.pos+17≤1000000)(hs:0≤a.site∧a.site+3≤1000000) :
  ay Qz 273 [.box B.length 0] ⟨B++.cells (f.cells a)::T,L,c⟩ (.slice .none (Sm.encs (fu f a).1)) ⟨B++.cells (f.cells (fu f a).2)::T,L,c⟩:=by
 obtain⟨p1,e1,e2,e3⟩:=be f 2 {a with site:=a.site+1,pos:=a.pos+1+1};obtain⟨p2,e4,e5,e6⟩:=be f 1 {a with site:=a.site+1+1,pos:=a.pos+1};simp only[ecost]at e2 e3 e5 e6;have hr0:=@aO _ a.pos 8 hf.ok;have hr8:=@bC f.bytes a.pos 8 (by omega);refine ay.introN [(4,.text [Qw,Qw,Qw,Qy,Qw,Qy,Qy,Qw,Qw,Qw] [(1,1),(1,2),(1,3)]),(6,.text [Qw,Qw,Qw,Qy,Qy,Qw,Qy,Qw,Qw,Qw] [(1,1),(1,2),(1,3)]),(8,.text [Qw,Qw,Qw,Qy,Qw,Qy,Qw,Qw,Qw] [(1,1),(1,2)]),(10,.text [Qw,Qw,Qw,Qy,Qw,Qy,Qw,Qw,Qw] [(1,1),(1,2)]),(13,.text [Qw,Qw,Qw,Qw,Qw,Qy,Qw,Qy,Qy,Qw,Qw,Qy,Qw,Qw,Qw,Qw] [(1,1),(1,2),(1,3),(1,4)]),(15,.text [Qw,Qw,Qw,Qw,Qy,Qw,Qy,Qw,Qw,Qy,Qw,Qw,Qw] [(1,1),(1,2),(1,3)])] func273 rfl (by decide) az (by kernel_rfl) [QO 2] 93 rfl rfl ?_;simp only[vqM,zA,zS,zB];refine aa (jj f a B T L c (by omega)) ?_;simp only[vqM,vt8,zA,zL,zB];refine aa (ba f _ _ B _ _ _ (by omega) (by first|omega|(simp only;omega)) hf.ok) ?_;simp only[vqM,zB];generalize hk:rnd f.bytes a.pos 8=k at hr0 hr8;have hx:fu f a=fu f a:=rfl;conv at hx=>rhs;unfold fu
 simp only[hk]at hx;have hcs:k=0∨k=1∨k=2∨k=3∨k=4∨k=5∨k=6∨k=7:=by omega
 rcases hcs with rfl|rfl|rfl|rfl|rfl|rfl|rfl|rfl
 ·simp only[MC,if_true,if_false]at hx;simp only[vqM,vt8,zA,zB,decide_true];refine aa (eH f _ B _ _ _ hf (by simp only;omega)) ?_;simp only[vqM];refine aa (ba f _ _ B _ _ _ (by omega) (by first|omega|(simp only;omega)) hf.ok) ?_;simp only[vqM];refine aa (tw _ _) ?_;simp only[vqM,vt8,zA,zM,zL];refine bu (.inr rfl) ?_ (aT (Sm.bds _)) (by rw[hx]) (λ_ h=>h) (K5 _);simp only[vqM,hx,Sm.encs,bj,aZ,bb]
 ·simp only[MC,if_true,if_false,e1]at hx;simp only[vqM,vt8,zA,zB,MC,decide_true,decide_false];refine aa (ba f _ _ B _ _ _ (by omega) (by first|omega|(simp only;omega)) hf.ok) ?_;simp only[vqM];refine aa (tw _ _) ?_;simp only[vqM];refine aa (eh f hf ha 2 _ B _ _ _ (by omega) (by simp only[ecost];omega)) ?_;simp only[vqM,vt8,zA,zM,zL,e1];refine bu (.inr rfl) ?_ (aT (Sm.bds _)) (by rw[hx]) (λ_ h=>h) (K5 _);simp only[vqM,hx,Sm.encs,bj,bb]
 ·simp only[MC,if_true,if_false]at hx;simp only[vqM,vt8,zA,zB,MC,decide_true,decide_false];refine aa (eH f _ B _ _ _ hf (by simp only;omega)) ?_;simp only[vqM];refine aa (ba f _ _ B _ _ _ (by omega) (by first|omega|(simp only;omega)) hf.ok) ?_;simp only[vqM,vt8,zA,zM,zL];refine bu (.inr rfl) ?_ (aT (Sm.bds _)) (by rw[hx]) (λ_ h=>h) (K5 _);simp only[vqM,hx,Sm.encs,bj,aZ,bb]
 ·simp only[MC,if_true,if_false]at hx;simp only[vqM,vt8,zA,zB,MC,decide_true,decide_false];refine aa (eH f _ B _ _ _ hf (by simp only;omega)) ?_;simp only[vqM];refine aa (ba f _ _ B _ _ _ (by omega) (by first|omega|(simp only;omega)) hf.ok) ?_;simp only[vqM,vt8,zA,zM,zL];refine bu (.inr rfl) ?_ (aT (Sm.bds _)) (by rw[hx]) (λ_ h=>h) (K5 _);simp only[vqM,hx,Sm.encs,bj,aZ,bb]
 ·simp only[MC,if_true,if_false]at hx;simp only[vqM,zB,MC,decide_true,decide_false];refine aa (ba f _ _ B _ _ _ (by omega) (by first|omega|(simp only;omega)) hf.ok) ?_;simp only[vqM,vt8,zA,zL,zB];refine aa (jj f _ B _ _ _ (by simp only;omega)) ?_;simp only[vqM];refine aa (ba f _ _ B _ _ _ (by omega) (by first|omega|(simp only;omega)) hf.ok) ?_;simp only[vqM];refine aa (tw _ _) ?_;simp only[vqM,vt8,zA,zL];refine aa (jj f _ B _ _ _ (by simp only;omega)) ?_;simp only[vqM,vt8,zA,zM,zL];refine bu (.inr rfl) ?_ (aT (Sm.bds _)) (by rw[hx]) (λ_ h=>h) (K5 _);simp only[vqM,hx,Sm.encs,bj,aZ,bb]
 ·simp only[MC,if_true,if_false,e4]at hx;simp only[vqM,vt8,zA,zL,zB,MC,decide_true,decide_false];refine aa (jj f _ B _ _ _ (by simp only;omega)) ?_;simp only[vqM];refine aa (eh f hf ha 1 _ B _ _ _ (by omega) (by simp only[ecost];omega)) ?_;simp only[vqM,vt8,zA,zL,e4];refine aa (jj f _ B _ _ _ (by simp only;omega)) ?_;simp only[vqM,vt8,zA,zM,zL];refine bu (.inr rfl) ?_ (aT (Sm.bds _)) (by rw[hx]) (λ_ h=>h) (K5 _);simp only[vqM,hx,Sm.encs,bj,aZ,bb]
 ·simp only[MC,if_false,e1]at hx;simp only[vqM,zB,MC,decide_false];refine aa (eH f _ B _ _ _ hf (by simp only;omega)) ?_;simp only[vqM,vt8,zA,zL,zB];refine aa (eh f hf ha 2 _ B _ _ _ (by omega) (by simp only[ecost];omega)) ?_;simp only[vqM,vt8,zA,zM,zL,zB,e1];refine bu (.inr rfl) ?_ (aT (Sm.bds _)) (by rw[hx]) (λ_ h=>h) (K5 _);simp only[vqM,hx,Sm.encs,bj,aZ,bb]
 ·simp only[MC,if_false,e1]at hx;simp only[vqM,zB,MC,decide_false];refine aa (eH f _ B _ _ _ hf (by simp only;omega)) ?_;simp only[vqM,vt8,zA,zL,zB];refine aa (eh f hf ha 2 _ B _ _ _ (by omega) (by simp only[ecost];omega)) ?_;simp only[vqM,vt8,zA,zM,zL,zB,e1];refine bu (.inr rfl) ?_ (aT (Sm.bds _)) (by rw[hx]) (λ_ h=>h) (K5 _);simp only[vqM,hx,Sm.encs,bj,aZ,bb]
def jx(f:Fd)(a:Mk):Sm×Mk:=
 let s:=a.site+1
 let k:=rnd f.bytes a.pos 15
 let p:=a.pos+1
 let m:Mk:={a with site:=a.site+1,pos:=a.pos+1}
 if k=0∨k=1 then(stm s 2 (targ f m) (rnd f.bytes (p+1) f.d.arrays.length) 0 (expr f 1 {m with pos:=p+1+1}).1 ex0 co0,(expr f 1 {m with pos:=p+1+1}).2)
 else if k=2 then(stm s 3 0 (rnd f.bytes p f.d.arrays.length) 0 (expr f 1 {m with pos:=p+1}).1 (expr f 1 (expr f 1 {m with pos:=p+1}).2).1 co0,(expr f 1 (expr f 1 {m with pos:=p+1}).2).2)
 else if k=3 then(stm s 5 0 (rnd f.bytes p 2) 0 (expr f 1 {m with pos:=p+1}).1 ex0 co0,(expr f 1 {m with pos:=p+1}).2)
 else if k=4 then(stm s 6 (rnd f.bytes p 2) 0 0 ex0 ex0 co0,{m with pos:=p+1})
 else if k=5 then(stm s 7 (rnd f.bytes p 2) 0 0 ex0 ex0 co0,{m with pos:=p+1})
 else if k=6 then(stm s 8 (rnd f.bytes p 2) (rnd f.bytes (p+1) 2) 0 ex0 ex0 co0,{m with pos:=p+1+1})
 else if k=7 then(stm s 10 (targ f m) (rnd f.bytes (p+1) 2) 0 ex0 ex0 co0,{m with pos:=p+1+1})
 else if k=8 then(stm s (16+rnd f.bytes p 2) 0 (rnd f.bytes (p+1) 3) 0 ex0 ex0 co0,{m with pos:=p+1+1})
 else if k=9 then(stm s 18 0 0 0 (expr f 1 m).1 ex0 co0,(expr f 1 m).2)
 else if k=10 then(stm s 19 (targ f m) 0 0 ex0 ex0 co0,{m with pos:=p+1})
 else if k=11 then(stm s 21 0 (rnd f.bytes p 3) 0 (expr f 1 {m with pos:=p+1}).1 ex0 co0,(expr f 1 {m with pos:=p+1}).2)
 else if k=12 then(stm s 22 0 (rnd f.bytes p 3) 0 ex0 ex0 co0,{m with pos:=p+1})
 else if k=13 then(stm s 23 0 0 0 ex0 ex0 (cond f 1 m).1,(cond f 1 m).2)
 else(stm s 9 (rnd f.bytes p 2) 0 0 (expr f 1 {m with pos:=p+1}).1 ex0 co0,(expr f 1 {m with pos:=p+1}).2)
structure FxA (f:Fd):Prop extends FxV f where
 arr:0<f.d.arrays.length∧f.d.arrays.length≤1000
theorem pM(f:Fd)(hf:FxV f)(a:Mk):∃p,(jx f a).2={a with pos:=p,site:=a.site+1}∧a.pos≤p∧p≤a.pos+50:=by
 obtain⟨p0,e1,e2,e3⟩:=be f 1 {a with site:=a.site+1,pos:=a.pos+1};obtain⟨p1,e4,e5,e6⟩:=be f 1 {a with site:=a.site+1,pos:=a.pos+1+1};obtain⟨p2,e7,e8,e9⟩:=be f 1 {a with site:=a.site+1,pos:=a.pos+1+1+1};obtain⟨p3,e10,e11,e12⟩:=be f 1 {a with site:=a.site+1,pos:=p1};obtain⟨p4,e13,e14,e15⟩:=dK f 1 {a with site:=a.site+1,pos:=a.pos+1};simp only[ecost,ccost]at e2 e3 e5 e6 e8 e9 e11 e12 e14 e15;have hr0:=@aO _ a.pos 15 hf.ok;have hr8:=@bC f.bytes a.pos 15 (by omega);generalize hk:rnd f.bytes a.pos 15=k at hr0 hr8;have hx:jx f a=jx f a:=rfl;conv at hx=>rhs;unfold jx
 simp only[hk]at hx;have hcs:k=0∨k=1∨k=2∨k=3∨k=4∨k=5∨k=6∨k=7∨k=8∨k=9∨k=10∨k=11∨k=12∨k=13∨k=14:=by omega
 rcases hcs with rfl|rfl|rfl|rfl|rfl|rfl|rfl|rfl|rfl|rfl|rfl|rfl|rfl|rfl|rfl
 ·simp only[MC,if_true,if_false,true_or,e7]at hx;exact⟨p2,by rw[hx],by omega,by omega⟩
 ·simp only[MC,if_true,if_false,or_true,e7]at hx;exact⟨p2,by rw[hx],by omega,by omega⟩
 ·simp only[MC,if_true,if_false,or_self,e4,e10]at hx;exact⟨p3,by rw[hx],by omega,by omega⟩
 ·simp only[MC,if_true,if_false,or_self,e4]at hx;exact⟨p1,by rw[hx],by omega,by omega⟩
 ·simp only[MC,if_true,if_false,or_self]at hx;exact⟨a.pos+1+1,by rw[hx],by omega,by omega⟩
 ·simp only[MC,if_true,if_false,or_self]at hx;exact⟨a.pos+1+1,by rw[hx],by omega,by omega⟩
 ·simp only[MC,if_true,if_false,or_self]at hx;exact⟨a.pos+1+1+1,by rw[hx],by omega,by omega⟩
 ·simp only[MC,if_true,if_false,or_self]at hx;exact⟨a.pos+1+1+1,by rw[hx],by omega,by omega⟩
 ·simp only[MC,if_true,if_false,or_self]at hx;exact⟨a.pos+1+1+1,by rw[hx],by omega,by omega⟩
 ·simp only[MC,if_true,if_false,or_self,e1]at hx;exact⟨p0,by rw[hx],by omega,by omega⟩
 ·simp only[MC,if_true,if_false,or_self]at hx;exact⟨a.pos+1+1,by rw[hx],by omega,by omega⟩
 ·simp only[MC,if_true,if_false,or_self,e4]at hx;exact⟨p1,by rw[hx],by omega,by omega⟩
 ·simp only[MC,if_true,if_false,or_self]at hx;exact⟨a.pos+1+1,by rw[hx],by omega,by omega⟩
 ·simp only[MC,if_true,if_false,or_self,e13]at hx;exact⟨p4,by rw[hx],by omega,by omega⟩
 ·simp only[MC,if_false,or_self,e4]at hx;exact⟨p1,by rw[hx],by omega,by omega⟩
theorem AP(f:Fx)(hA:FxA f)(a:Mk)(B T:List Box)(L:List Nat)(c:Nat)(hp:0≤a.pos∧a.pos+50≤1000000)(hs:0≤a.site∧a.site+3≤1000000) :
  ay Qz 274 [.box B.length 0] ⟨B++.cells (f.cells a)::T,L,c⟩ (.agg (jx f a).1.cells) ⟨B++.cells (f.cells (jx f a).2)::T,L,c⟩:=by
 have hf:=hA.toFxV;have ha:=hA.arr.2;have ha0:=hA.arr.1;obtain⟨p0,e1,e2,e3⟩:=be f 1 {a with site:=a.site+1,pos:=a.pos+1};obtain⟨p1,e4,e5,e6⟩:=be f 1 {a with site:=a.site+1,pos:=a.pos+1+1};obtain⟨p2,e7,e8,e9⟩:=be f 1 {a with site:=a.site+1,pos:=a.pos+1+1+1};obtain⟨p3,e10,e11,e12⟩:=be f 1 {a with site:=a.site+1,pos:=p1};obtain⟨p4,e13,e14,e15⟩:=dK f 1 {a with site:=a.site+1,pos:=a.pos+1};simp only[ecost,ccost]at e2 e3 e5 e6 e8 e9 e11 e12 e14 e15;have hw2:∀p,QQ.wrap (16+rnd f.bytes p 2)=16+rnd f.bytes p 2:=λp=>aG (by have h1:=@aO _ p 2 hf.ok;have:=@bC f.bytes p 2 (by omega);omega);have hr0:=@aO _ a.pos 15 hf.ok;have hr8:=@bC f.bytes a.pos 15 (by omega);refine ay.introN [(5,.text [Qw,Qw,Qw,Qy,Qw,Qw,Qw,Qw,Qw,Qw,Qw,Qy,Qw,Qy,Qw,Qy] [(1,1),(1,2),(1,3),(9,0),(10,0)]),(7,.text [Qw,Qw,Qw,Qw,Qw,Qw,Qw,Qw,Qw,Qy,Qw,Qy,Qw,Qy,Qw,Qy] [(1,1),(1,2),(1,3)]),(9,.text [Qw,Qw,Qw,Qy,Qw,Qy,Qw,Qy] [(1,1),(1,2)]),(11,.text [Qw,Qw,Qw,Qy,Qw,Qy] [(1,1)]),(13,.text [Qw,Qw,Qw,Qy,Qw,Qy] [(1,1)]),(15,.text [Qw,Qw,Qw,Qy,Qw,Qy,Qw,Qy] [(1,1),(1,2)]),(17,.text [Qw,Qw,Qw,Qy,Qw,Qy,Qw,Qy] [(1,1),(1,2)]),(19,.text [Qw,Qw,Qw,Qy,Qw,Qw,Qy,Qw,Qy] [(1,1),(1,2)]),(21,.text [Qw,Qw,Qw,Qy,Qw,Qy] [(1,1)]),(23,.text [Qw,Qw,Qw,Qy,Qw,Qy] [(1,1)]),(25,.text [Qw,Qw,Qw,Qy,Qw,Qy,Qw,Qy] [(1,1),(1,2)]),(27,.text [Qw,Qw,Qw,Qy,Qw,Qy] [(1,1)]),(29,.text [Qw,Qw,Qw,Qy,Qw,Qy] [(1,1)]),(30,.text [Qw,Qw,Qw,Qy,Qw,Qy,Qw,Qy] [(1,1),(1,2)])] func274 rfl (by decide) az (by kernel_rfl) [QP 2 130] 139 rfl rfl ?_;simp only[vqM,vt9,zA,zS,zB];refine aa (jj f a B _ L c (by omega)) ?_;simp only[vqM,vt9,zA,zL,zB];refine aa (ba f _ _ B _ _ _ (by omega) (by first|omega|(simp only;omega)) hf.ok) ?_;simp only[vqM,zB];generalize hk:rnd f.bytes a.pos 15=k at hr0 hr8;have hx:jx f a=jx f a:=rfl;conv at hx=>rhs;unfold jx
 simp only[hk]at hx;have hcs:k=0∨k=1∨k=2∨k=3∨k=4∨k=5∨k=6∨k=7∨k=8∨k=9∨k=10∨k=11∨k=12∨k=13∨k=14:=by omega
 rcases hcs with rfl|rfl|rfl|rfl|rfl|rfl|rfl|rfl|rfl|rfl|rfl|rfl|rfl|rfl|rfl
 ·simp only[MC,if_true,if_false,true_or,e7]at hx;simp only[vqM,vt9,zA,zB,decide_true];refine aa (eH f _ B _ _ _ hf (by simp only;omega)) ?_;simp only[vqM,vt9,zA,ai];refine aa (ba f _ _ B _ _ _ (by omega) (by first|omega|(simp only;omega)) hf.ok) ?_;simp only[vqM];refine aa (eh f hf ha 1 _ B _ _ _ (by omega) (by simp only[ecost];omega)) ?_;simp only[vqM,vt9,zA,zL,e7,ai];refine bu (.inr rfl) ?_ (aK (Sm.bd _)) (by rw[hx]) (λ_ h=>h) (K5 _);simp only[vqM,vt9,zA,hx,bj,aZ,bb]
 ·simp only[MC,if_true,if_false,or_true,e7]at hx;simp only[vqM,vt9,zA,zB,MC,decide_true,decide_false];refine aa (eH f _ B _ _ _ hf (by simp only;omega)) ?_;simp only[vqM,vt9,zA,ai];refine aa (ba f _ _ B _ _ _ (by omega) (by first|omega|(simp only;omega)) hf.ok) ?_;simp only[vqM];refine aa (eh f hf ha 1 _ B _ _ _ (by omega) (by simp only[ecost];omega)) ?_;simp only[vqM,vt9,zA,zL,e7,ai];refine bu (.inr rfl) ?_ (aK (Sm.bd _)) (by rw[hx]) (λ_ h=>h) (K5 _);simp only[vqM,vt9,zA,hx,bj,aZ,bb]
 ·simp only[MC,if_true,if_false,or_self,e4,e10]at hx;simp only[vqM,vt9,zA,zB,MC,decide_true,decide_false,ai];refine aa (ba f _ _ B _ _ _ (by omega) (by first|omega|(simp only;omega)) hf.ok) ?_;simp only[vqM];refine aa (eh f hf ha 1 _ B _ _ _ (by omega) (by simp only[ecost];omega)) ?_;simp only[vqM,e4];refine aa (eh f hf ha 1 _ B _ _ _ (by omega) (by simp only[ecost];omega)) ?_;simp only[vqM,vt9,zA,zL,e10];refine bu (.inr rfl) ?_ (aK (Sm.bd _)) (by rw[hx]) (λ_ h=>h) (K5 _);simp only[vqM,vt9,zA,hx,bj,bb]
 ·simp only[MC,if_true,if_false,or_self,e4]at hx;simp only[vqM,vt9,zA,zB,MC,decide_true,decide_false];refine aa (ba f _ _ B _ _ _ (by omega) (by first|omega|(simp only;omega)) hf.ok) ?_;simp only[vqM];refine aa (eh f hf ha 1 _ B _ _ _ (by omega) (by simp only[ecost];omega)) ?_;simp only[vqM,vt9,zA,zL,e4];refine bu (.inr rfl) ?_ (aK (Sm.bd _)) (by rw[hx]) (λ_ h=>h) (K5 _);simp only[vqM,vt9,zA,hx,bj,aZ,bb]
 ·simp only[MC,if_true,if_false,or_self]at hx;simp only[vqM,vt9,zA,zB,MC,decide_true,decide_false];refine aa (ba f _ _ B _ _ _ (by omega) (by first|omega|(simp only;omega)) hf.ok) ?_;simp only[vqM,vt9,zA,zL];refine bu (.inr rfl) ?_ (aK (Sm.bd _)) (by rw[hx]) (λ_ h=>h) (K5 _);simp only[vqM,vt9,zA,hx,bj,aZ,bb]
 ·simp only[MC,if_true,if_false,or_self]at hx;simp only[vqM,vt9,zA,zB,MC,decide_true,decide_false];refine aa (ba f _ _ B _ _ _ (by omega) (by first|omega|(simp only;omega)) hf.ok) ?_;simp only[vqM,vt9,zA,zL];refine bu (.inr rfl) ?_ (aK (Sm.bd _)) (by rw[hx]) (λ_ h=>h) (K5 _);simp only[vqM,vt9,zA,hx,bj,aZ,bb]
 ·simp only[MC,if_true,if_false,or_self]at hx;simp only[vqM,vt9,zA,zB,MC,decide_true,decide_false];refine aa (ba f _ _ B _ _ _ (by omega) (by first|omega|(simp only;omega)) hf.ok) ?_;simp only[vqM];refine aa (ba f _ _ B _ _ _ (by omega) (by first|omega|(simp only;omega)) hf.ok) ?_;simp only[vqM,vt9,zA,zL];refine bu (.inr rfl) ?_ (aK (Sm.bd _)) (by rw[hx]) (λ_ h=>h) (K5 _);simp only[vqM,vt9,zA,hx,bj,aZ,bb]
 ·simp only[MC,if_true,if_false,or_self]at hx;simp only[vqM,vt9,zA,zB,MC,decide_true,decide_false];refine aa (eH f _ B _ _ _ hf (by simp only;omega)) ?_;simp only[vqM];refine aa (ba f _ _ B _ _ _ (by omega) (by first|omega|(simp only;omega)) hf.ok) ?_;simp only[vqM,vt9,zA,zL];refine bu (.inr rfl) ?_ (aK (Sm.bd _)) (by rw[hx]) (λ_ h=>h) (K5 _);simp only[vqM,vt9,zA,hx,bj,aZ,bb]
 ·simp only[MC,if_true,if_false,or_self]at hx;simp only[vqM,vt9,zA,zB,MC,decide_true,decide_false];refine aa (ba f _ _ B _ _ _ (by omega) (by first|omega|(simp only;omega)) hf.ok) ?_;simp only[vqM,hw2];refine aa (ba f _ _ B _ _ _ (by omega) (by first|omega|(simp only;omega)) hf.ok) ?_;simp only[vqM,vt9,zA,zL];refine bu (.inr rfl) ?_ (aK (Sm.bd _)) (by rw[hx]) (λ_ h=>h) (K5 _);simp only[vqM,vt9,zA,hx,bj,aZ,bb]
 ·simp only[MC,if_true,if_false,or_self,e1]at hx;simp only[vqM,vt9,zA,zB,MC,decide_true,decide_false];refine aa (eh f hf ha 1 _ B _ _ _ (by omega) (by simp only[ecost];omega)) ?_;simp only[vqM,vt9,zA,zL,e1];refine bu (.inr rfl) ?_ (aK (Sm.bd _)) (by rw[hx]) (λ_ h=>h) (K5 _);simp only[vqM,vt9,zA,hx,bj,aZ,bb]
 ·simp only[MC,if_true,if_false,or_self]at hx;simp only[vqM,vt9,zA,zB,MC,decide_true,decide_false];refine aa (eH f _ B _ _ _ hf (by simp only;omega)) ?_;simp only[vqM,vt9,zA,zL];refine bu (.inr rfl) ?_ (aK (Sm.bd _)) (by rw[hx]) (λ_ h=>h) (K5 _);simp only[vqM,vt9,zA,hx,bj,aZ,bb]
 ·simp only[MC,if_true,if_false,or_self,e4]at hx;simp only[vqM,vt9,zA,zB,MC,decide_true,decide_false];refine aa (ba f _ _ B _ _ _ (by omega) (by first|omega|(simp only;omega)) hf.ok) ?_;simp only[vqM];refine aa (eh f hf ha 1 _ B _ _ _ (by omega) (by simp only[ecost];omega)) ?_;simp only[vqM,vt9,zA,zL,e4];refine bu (.inr rfl) ?_ (aK (Sm.bd _)) (by rw[hx]) (λ_ h=>h) (K5 _);simp only[vqM,vt9,zA,hx,bj,aZ,bb]
 ·simp only[MC,if_true,if_false,or_self]at hx;simp only[vqM,vt9,zA,zB,MC,decide_true,decide_false];refine aa (ba f _ _ B _ _ _ (by omega) (by first|omega|(simp only;omega)) hf.ok) ?_;simp only[vqM,vt9,zA,zL];refine bu (.inr rfl) ?_ (aK (Sm.bd _)) (by rw[hx]) (λ_ h=>h) (K5 _);simp only[vqM,vt9,zA,hx,bj,aZ,bb]
 ·simp only[MC,if_true,if_false,or_self,e13]at hx;simp only[vqM,vt9,zA,zB,MC,decide_true,decide_false];refine aa (Aq f hf ha 1 _ B _ _ _ (by omega) (by simp only[ccost];omega)) ?_;simp only[vqM,vt9,zA,zL,e13];refine bu (.inr rfl) ?_ (aK (Sm.bd _)) (by rw[hx]) (λ_ h=>h) (K5 _);simp only[vqM,vt9,zA,hx,bj,aZ]
 ·simp only[MC,if_false,or_self,e4]at hx;simp only[vqM,vt9,zA,zB,MC,decide_false];refine aa (ba f _ _ B _ _ _ (by omega) (by first|omega|(simp only;omega)) hf.ok) ?_;simp only[vqM];refine aa (eh f hf ha 1 _ B _ _ _ (by omega) (by simp only[ecost];omega)) ?_;simp only[vqM,vt9,zA,zL,e4];refine bu (.inr rfl) ?_ (aK (Sm.bd _)) (by rw[hx]) (λ_ h=>h) (K5 _);simp only[vqM,vt9,zA,hx,bj,aZ,bb]
def ownN(c z:Nat):Nat→Own
 |0=>.nil
 |k+1=>.lab (c+k) z
def liveN(L:List Nat)(c:Nat):Nat→List Nat
 |0=>L
 |k+1=>(c+k)::L
theorem pb{c z k:Nat}{xs:List (List D)}{B:List Box}{L:List Nat}(h:∀x∈xs,x.length=z):aV (ownN c z k) xs z ⟨B,liveN L c k,c+k⟩=Qy:=by
 cases k with
 |zero=>simpa[aV,ownN]using h
 |succ k=>simp[aV,ownN,liveN]
theorem m3{c z k:Nat}{B:List Box}{L:List Nat}:St.relab ⟨B,liveN L c k,c+k⟩ (ownN c z k)=⟨B,liveN L c (k+1),c+(k+1)⟩:=by
 cases k with
 |zero=>rfl
 |succ k=>simp[ownN,liveN,St.relab];omega
theorem bk{L:List Nat}{c k i:Nat}(h:i∈L):i∈liveN L c k:=by
 cases k with
 |zero=>exact h
 |succ k=>exact List.mem_cons_of_mem _ h
theorem Ex.encs_app(l:List Ex)(x:Ex):Ex.encs l++[x.cells]=Ex.encs (l++[x]):=by simp[Ex.encs_map]
theorem Ex.encs_len(l:List Ex):(Ex.encs l).length=l.length:=by simp[Ex.encs_map]
theorem Ex.encs_each(l:List Ex):∀x∈Ex.encs l,x.length=4:=by
 intro x hx;rw[Ex.encs_map]at hx;obtain⟨y,_,rfl⟩:=MB.1 hx;exact Ex.cells_len y
theorem Sm.encs_app(l m:List Sm):Sm.encs l++Sm.encs m=Sm.encs (l++m):=by simp[Sm.encs_map]
theorem Sm.encs_len(l:List Sm):(Sm.encs l).length=l.length:=by simp[Sm.encs_map]
theorem Sm.encs_each(l:List Sm):∀x∈Sm.encs l,x.length=20:=by
 intro x hx;rw[Sm.encs_map]at hx;obtain⟨y,_,rfl⟩:=MB.1 hx;exact Sm.cells_len y
theorem bt(l:List Int)(x:Int):ah l++[[.int .i64 x]]=ah (l++[x]):=by simp[ah]
theorem aW(l:List Int):∀x∈ah l,x.length=1:=by
 intro x hx;obtain⟨y,_,rfl⟩:=MB.1 hx;rfl
def z20:List D:=[.int .i64 0,.int .i64 0,.int .i64 0,.int .i64 0,.int .i64 0,.int .i64 0,.int .i64 0,.int .i64 0,.slice .nil [],.int .i64 0,.int .i64 0,.int .i64 0,.slice .nil [],.int .i64 0,.slice .nil [],.slice .nil [],
 .slice .nil [],.slice .nil [],.slice .nil [],.slice .nil []]
def argsK(f:Fd)(m:Mk):Nat→List Ex×Mk
 |0=>([],m)
 |k+1=>((argsK f m k).1++[(expr f 1 (argsK f m k).2).1],(expr f 1 (argsK f m k).2).2)
def ptrsK(f:Fd)(m:Mk):Nat→List Int×Mk
 |0=>([],m)
 |k+1=>((ptrsK f m k).1++[rnd f.bytes (ptrsK f m k).2.pos 2],{ (ptrsK f m k).2 with pos:=(ptrsK f m k).2.pos+1})
theorem jg(f:Fd)(m:Mk):∀k,∃p,(argsK f m k).2={m with pos:=p}∧m.pos≤p∧p≤m.pos+6*k∧(argsK f m k).1.length=k:=by
 intro k;induction k with
 |zero=>exact⟨m.pos,rfl,by omega,by omega,rfl⟩
 |succ k ih =>
  obtain⟨p,h1,h2,h3,h4⟩:=ih;obtain⟨q,h5,h6,h7⟩:=be f 1 {m with pos:=p};simp only[ecost]at h6 h7;exact⟨q,by simp only[argsK,h1,h5],by omega,by omega,by simp[argsK,h4]⟩
theorem li(f:Fd)(m:Mk):∀k,∃p,(ptrsK f m k).2={m with pos:=p}∧m.pos≤p∧p≤m.pos+k∧(ptrsK f m k).1.length=k:=by
 intro k;induction k with
 |zero=>exact⟨m.pos,rfl,by omega,by omega,rfl⟩
 |succ k ih =>
  obtain⟨p,h1,h2,h3,h4⟩:=ih;exact⟨p+1,by simp only[ptrsK,h1],by omega,by omega,by simp[ptrsK,h4]⟩
def hdAt(f:Fd)(i:Int):Hd:=match f.heads[i.toNat]? with
 |some h=>h
 |none=>⟨0,0,0,[],[]⟩
def call(f:Fd)(a:Mk):Sm×Mk:=
 let m:Mk:={a with site:=a.site+1,pos:=a.pos+1}
 if f.heads.length=0∨2≤a.done then(stm (a.site+1) 1 (targ f a) 0 0 (num 1) ex0 co0,m)
 else
  let h:=hdAt f (rnd f.bytes (a.pos+1) f.heads.length)
  let p:=argsK f {m with pos:=a.pos+1+1,done:=a.done+1} h.params.length
  let q:=ptrsK f p.2 h.given.length
  (.mk (a.site+1) 13 (targ f a) h.id 0 ex0 ex0 co0 p.1 q.1 [] [],q.2)
structure FxH (f:Fd):Prop extends FxA f where
 hd:∀h∈f.heads,h.params.length≤10∧h.given.length≤10
 hds:f.heads.length≤1000
theorem KE(f:Fx)(hA:FxH f)(a:Mk)(B T:List Box)(L:List Nat)(c:Nat)(hp:0≤a.pos∧a.pos+100≤1000000)(hs:0≤a.site∧a.site+3≤1000000)(hd:0≤a.done∧a.done≤1000000) :
  ay Qz 271 [.box B.length 0] ⟨B++.cells (f.cells a)::T,L,c⟩ (.agg (call f a).1.cells) ⟨B++.cells (f.cells (call f a).2)::T,L,c⟩:=by
 have hf:=hA.toFxV;have ha:=hA.arr.2;refine ay.introN [(4,.stop),(13,.text [Qw,Qw,Qw,Qw,Qw,Qw,Qw,Qw,Qw,Qw,Qw,Qw,Qw,Qw,Qw,Qw,Qw,Qw,Qw,Qw,Qw,Qw,Qw,Qy,Qw,Qy,Qw,Qy,Qw,Qy] [(1,1),(1,2),(3,1),(7,1)]),(14,.text [Qw,Qw,Qw,Qy,Qw,Qy,Qw,Qy] [(1,1)]),(18,.text [Qw,Qw,Qw,Qy,Qw,Qy,Qw,Qy] [(1,1)])] func271 rfl (by decide) az (by kernel_rfl) [QP 2 130] 148 rfl rfl ?_;simp only[vqM,mS,zA,zS,zB];refine aa (jj f a B _ L c (by omega)) ?_;simp only[vqM];refine aa (eH f _ B _ _ _ hf (by simp only;omega)) ?_;simp only[vqM];refine aa (tw _ _) ?_;simp only[vqM,mS,zA,zL,zB,aB];have hx:call f a=call f a:=rfl;conv at hx=>rhs;unfold call
 by_cases h0:f.heads.length=0
 ·have h0t:((f.heads.length:Int)=0)=True:=eq_true (by omega);simp only[h0,true_or,if_true]at hx;simp only[vqM,mS,zA,zB,h0t,decide_true];rw[hx];refine bu (.inr rfl) ?_ (aK (Sm.bd _)) rfl (λ_ h=>h) (K5 _);simp only[vqM,mS,zA,bj,aZ,bb,targ]
 ·have h0t:((f.heads.length:Int)=0)=False:=eq_false (by omega);simp only[vqM,mS,zA,h0t,decide_false];by_cases h2:2≤a.done
  ·simp only[h2,or_true,if_true]at hx;simp only[vqM,mS,zA,zB,h2,decide_true];rw[hx];refine bu (.inr rfl) ?_ (aK (Sm.bd _)) rfl (λ_ h=>h) (K5 _);simp only[vqM,mS,zA,bj,aZ,bb,targ]
  ·have hw1:QQ.wrap (a.done+1)=a.done+1:=aG (by omega);simp only[h0,h2,or_self,if_false]at hx;have hr1:0≤rnd f.bytes (a.pos+1) f.heads.length:=aO hf.ok;have hr2:rnd f.bytes (a.pos+1) f.heads.length<f.heads.length:=bC (by omega);have hlt:(rnd f.bytes (a.pos+1) f.heads.length).toNat<f.heads.length:=by omega
   have hg:(aN f.heads)[(rnd f.bytes (a.pos+1) f.heads.length).toNat]?=Qv (hdAt f (rnd f.bytes (a.pos+1) f.heads.length)).cells:=by
    simp[aN,hdAt,C0 hlt]
   have hmem:hdAt f (rnd f.bytes (a.pos+1) f.heads.length)∈f.heads:=by
    simp only[hdAt,C0 hlt];exact Mf hlt
   generalize hdAt f (rnd f.bytes (a.pos+1) f.heads.length)=h at hx hg hmem;obtain⟨hpl,hgl⟩:=hA.hd h hmem;simp only[vqM,mS,zA,zB,h2,decide_false];refine jK az [12,15,16] [⟨[0,1,2,3,4,5,6,7,8,9,10,11,12,13,14,15,16],[(4,1),(4,2),(14,2)]⟩,⟨[0,1,2,3,4,5,6,7,8,9,10,11,15,12,13,14,16],[(4,1),(4,2),(10,1),(11,1)]⟩] (by kernel_rfl) λpl hpl=>?_;simp only[Mj,MX,or_false]at hpl;rcases hpl with rfl|rfl
   all_goals
    simp only[vqM,mS,zA,zB,List.getD_cons_zero,List.getD_cons_succ,List.contains_cons,List.contains_nil,Bool.or_false,Bool.or_true,aB];refine aa (ba f _ _ B _ _ _ (by omega) (by first|omega|(simp only;omega)) hf.ok) ?_;simp only[vqM,mS,zA,zL,zB,aB,hr1,hg,hw1];have htg:targ f {pos:=a.pos,site:=a.site+1,left:=a.left,loop:=a.loop,done:=a.done}=targ f a:=rfl;rw[htg];generalize targ f a=tg at hx⊢;generalize hm1:({pos:=a.pos+1+1,site:=a.site+1,left:=a.left,loop:=a.loop,done:=a.done+1}:Mk)=m1 at hx⊢;have hm1p:m1.pos=a.pos+1+1:=by rw[←hm1]
    refine ae [0,2,3,4,5] ?_;simp only[vke,zB,zA];refine cf az h.params.length (λk=>[.box B.length 0,J,.box (B.length+(T.length+1)) 0,.box (B.length+(T.length+1+1)) 0,.box (B.length+(T.length+2+1)) 0,.int .i64 (k:Int),J,J,J,J,J,J,J,J,J,J,J,J,J,J,J,J,J,J,J,J,J,J,J,J,J,J,J,J,J,J,J,J,J,J,J,J,J,J,J,J,J,J,J,J,J,J,J,J,J,J,J,J,J,J,J,J,J,J,J,J,J,J,J,J,J,J,J,J,J,J,J,J,J,J,J,J,J,J,J,J,J,J,J,J,J,J,J,J,J,J,J,J,J,J,J,J,J,J,J,J,J,J,J,J,J,J,J,J,J,J,J,J,J,J,J,J,J,J,J,J,J,J,J,J,J,J,J,J,J,J,J,J,J,J,J,J,J,J,J,J,J,J])
     (λk=>⟨B++.cells (f.cells (argsK f m1 k).2)::(T++[.cells z20,.cells [.int .i64 (a.site+1),.int .i64 13,.int .i64 tg,.int .i64 h.id,.int .i64 0,.int .i64 0,.int .i64 0,.int .i64 0,.slice .nil [],.int .i64 0,.int .i64 0,.int .i64 0,.slice .nil [],.int .i64 0,.slice .nil [],.slice .nil [],.slice (ownN c 4 k) (Ex.encs (argsK f m1 k).1),.slice .nil [],.slice .nil [],.slice .nil []],.cells h.cells]),liveN L c k,c+k⟩) (λ_=>True) ?_ ?_ 0 (K9 _) trivial
    ·intro k hk _ ih;obtain⟨p,q1,q2,q3,q4⟩:=jg f m1 k;have hkl:((k:Int)<(h.params.length:Int))=True:=eq_true (by omega);have hA1:Ex.encs (argsK f m1 k).1++[(expr f 1 (argsK f m1 k).2).1.cells]=Ex.encs (argsK f m1 (k+1)).1:=by rw[Ex.encs_app];rfl
     have hl1:(k+1≤1000000)=True:=eq_true (by omega);have hof:∀B',aV (ownN c 4 k) (Ex.encs (argsK f m1 k).1) 4 ⟨B',liveN L c k,c+k⟩=Qy:=λB'=>pb (Ex.encs_each _);simp only[vqM,mS,zA,zB,hkl,decide_true,ao,z20];refine aa (eh f hf ha 1 _ B _ _ _ (by omega) (by rw[q1];simp only[ecost];omega)) ?_;simp only[vqM,mS,zA,zM,zL,hof,m3,Ex.encs_len,q4,hl1];rw[hA1,ap (by omega)];refine ae [0,2,3,4,5] ?_;simp only[vke,zB,zA];exact ih trivial
    ·intro _;have hkl:((h.params.length:Int)<(h.params.length:Int))=False:=eq_false (by omega);obtain⟨p,q1,q2,q3,q4⟩:=jg f m1 h.params.length;have hpos2:(argsK f m1 h.params.length).2.pos=p:=by rw[q1]
     generalize argsK f m1 h.params.length=w at hx hpos2⊢;obtain⟨al,m2⟩:=w;simp only at hpos2;simp only[vqM,mS,zA,zB,hkl,decide_false,ao,z20];refine ae [0,2,3,4,6] ?_;simp only[vke,zB,zA];refine cf az h.given.length (λk=>[.box B.length 0,J,.box (B.length+(T.length+1)) 0,.box (B.length+(T.length+1+1)) 0,.box (B.length+(T.length+2+1)) 0,J,.int .i64 (k:Int),J,J,J,J,J,J,J,J,J,J,J,J,J,J,J,J,J,J,J,J,J,J,J,J,J,J,J,J,J,J,J,J,J,J,J,J,J,J,J,J,J,J,J,J,J,J,J,J,J,J,J,J,J,J,J,J,J,J,J,J,J,J,J,J,J,J,J,J,J,J,J,J,J,J,J,J,J,J,J,J,J,J,J,J,J,J,J,J,J,J,J,J,J,J,J,J,J,J,J,J,J,J,J,J,J,J,J,J,J,J,J,J,J,J,J,J,J,J,J,J,J,J,J,J,J,J,J,J,J,J,J,J,J,J,J,J,J,J,J,J,J])
      (λk=>⟨B++.cells (f.cells (ptrsK f m2 k).2)::(T++[.cells z20,.cells [.int .i64 (a.site+1),.int .i64 13,.int .i64 tg,.int .i64 h.id,.int .i64 0,.int .i64 0,.int .i64 0,.int .i64 0,.slice .nil [],.int .i64 0,.int .i64 0,.int .i64 0,.slice .nil [],.int .i64 0,.slice .nil [],.slice .nil [],.slice (ownN c 4 h.params.length) (Ex.encs al),.slice (ownN (c+h.params.length) 1 k) (ah (ptrsK f m2 k).1),.slice .nil [],.slice .nil []],.cells h.cells]),liveN (liveN L c h.params.length) (c+h.params.length) k,c+h.params.length+k⟩) (λ_=>True) ?_ ?_ 0 (K9 _) trivial
     ·intro k hk _ ih;obtain⟨p2,r1,r2,r3,r4⟩:=li f m2 k;have hkl:((k:Int)<(h.given.length:Int))=True:=eq_true (by omega);have hA1:ah (ptrsK f m2 k).1++[[.int .i64 (rnd f.bytes (ptrsK f m2 k).2.pos 2)]]=ah (ptrsK f m2 (k+1)).1:=by rw[bt];rfl
      have hl1:(k+1≤1000000)=True:=eq_true (by omega);have hof:∀B',aV (ownN (c+h.params.length) 1 k) (ah (ptrsK f m2 k).1) 1 ⟨B',liveN (liveN L c h.params.length) (c+h.params.length) k,c+h.params.length+k⟩=Qy:=λB'=>pb (aW _);simp only[vqM,mS,zA,zB,hkl,decide_true,ao,z20];refine aa (ba f _ _ B _ _ _ (by omega) (by rw[r1];simp only;omega) hf.ok) ?_;simp only[vqM,mS,zA,zM,zL,hof,m3,ab,r4,hl1];rw[hA1,ap (by omega)];refine ae [0,2,3,4,6] ?_;simp only[vke,zB,zA];exact ih trivial
     ·intro _;have hkl:((h.given.length:Int)<(h.given.length:Int))=False:=eq_false (by omega);simp only[vqM,mS,zA,zB,hkl,decide_false,ao,z20];rw[hx];refine bu (.inr rfl) ?_ (aK (Sm.bd _)) rfl (λ_ h=>bk (bk h)) (by omega);simp only[vqM,mS,zA,Sm.cells,aZ,bb,Sm.encs]
structure Sg (m m':Mk):Prop where
 p1:m.pos≤m'.pos
 p2:m'.pos≤m.pos+90
 s1:m.site<m'.site
 s2:m'.site≤m.site+3
 l:m'.left=m.left
 lo:m'.loop=m.loop
 d1:m.done≤m'.done
 d2:m'.done≤m.done+1
theorem xO{f:Fd}(hf:qr f)(h0:¬f.heads.length=0)(p:Int):hdAt f (rnd f.bytes p f.heads.length)∈f.heads:=by
 have hr1:0≤rnd f.bytes p f.heads.length:=aO hf;have hr2:rnd f.bytes p f.heads.length<f.heads.length:=bC (by omega);have hlt:(rnd f.bytes p f.heads.length).toNat<f.heads.length:=by omega
 simp only[hdAt,C0 hlt];exact Mf hlt
theorem Ab(f:Fd)(hA:FxH f)(a:Mk):Sg a (call f a).2:=by
 have hf:=hA.toFxV;by_cases h0:f.heads.length=0∨2≤a.done
 ·have hx:call f a=(stm (a.site+1) 1 (targ f a) 0 0 (num 1) ex0 co0,{a with site:=a.site+1,pos:=a.pos+1}):=by unfold call;rw[if_pos h0]
  rw[hx];exact⟨by simp only;omega,by simp only;omega,by simp only;omega,by simp only;omega,rfl,rfl,NH _,by simp only;omega⟩
 ·have hm:=xO hf.ok (λh=>h0 (.inl h)) (a.pos+1);have hx:call f a=call f a:=rfl;conv at hx=>rhs;unfold call
  rw[if_neg h0]at hx;generalize hdAt f (rnd f.bytes (a.pos+1) f.heads.length)=h at hx hm;obtain⟨hpl,hgl⟩:=hA.hd h hm;generalize hm1:({pos:=a.pos+1+1,site:=a.site+1,left:=a.left,loop:=a.loop,done:=a.done+1}:Mk)=m1 at hx;obtain⟨p,q1,q2,q3,q4⟩:=jg f m1 h.params.length;obtain⟨p2,r1,r2,r3,r4⟩:=li f (argsK f m1 h.params.length).2 h.given.length;have he:(call f a).2={a with pos:=p2,site:=a.site+1,done:=a.done+1}:=by
   rw[hx];show(ptrsK f (argsK f m1 h.params.length).2 h.given.length).2=_;rw[r1,q1,←hm1]
  have e1:(argsK f m1 h.params.length).2.pos=p:=by rw[q1]
  rw[e1]at r2 r3;have e2:m1.pos=a.pos+1+1:=by rw[←hm1]
  rw[he];exact⟨by simp only;omega,by simp only;omega,by simp only;omega,by simp only;omega,rfl,rfl,by simp only;omega,by simp only;omega⟩
def other(f:Fd)(k d:Int)(a:Mk):List Sm×Mk:=
 if 4≤k∧k<10 then([(call f a).1],(call f a).2)
 else if k=10 then([stm (a.site+1) 14 0 0 (1+rnd f.bytes a.pos 3) ex0 ex0 co0],{a with site:=a.site+1,pos:=a.pos+1})
 else if k=11∧d<2 then([stm (a.site+1) 24 0 0 0 (expr f 1 {a with site:=a.site+1}).1 ex0 co0],(expr f 1 {a with site:=a.site+1}).2)
 else if k<4 then fu f a
 else([(jx f a).1],(jx f a).2)
theorem lj(f:Fd)(hA:FxH f)(k d:Int)(a:Mk):Sg a (other f k d a).2:=by
 unfold other;split
 ·exact Ab f hA a
 split
 ·exact⟨by simp only;omega,by simp only;omega,by simp only;omega,by simp only;omega,rfl,rfl,NH _,by simp only;omega⟩
 split
 ·obtain⟨p,e1,e2,e3⟩:=be f 1 {a with site:=a.site+1};simp only[ecost]at e2 e3;simp only[e1];exact⟨by simp only;omega,by simp only;omega,by simp only;omega,by simp only;omega,rfl,rfl,NH _,by simp only;omega⟩
 split
 ·obtain⟨p,s,e1,e2,e3,e4,e5⟩:=jY f a;rw[e1];exact⟨by simp only;omega,by simp only;omega,by simp only;omega,by simp only;omega,rfl,rfl,NH _,by simp only;omega⟩
 ·obtain⟨p,e1,e2,e3⟩:=pM f hA.toFxV a;simp only[e1];exact⟨by simp only;omega,by simp only;omega,by simp only;omega,by simp only;omega,rfl,rfl,NH _,by simp only;omega⟩
theorem Hy(f:Fx)(hA:FxH f)(k d:Int)(a:Mk)(B T:List Box)(L:List Nat)(c:Nat)(hp:0≤a.pos∧a.pos+100≤1000000)(hs:0≤a.site∧a.site+3≤1000000)(hd:0≤a.done∧a.done≤1000000) :
  ay Qz 225 [.box B.length 0,.int .i64 k,.int .i64 d] ⟨B++.cells (f.cells a)::T,L,c⟩ (.slice .none (Sm.encs (other f k d a).1)) ⟨B++.cells (f.cells (other f k d a).2)::T,L,c⟩:=by
 have hf:=hA.toFxV;have ha:=hA.arr.2;have hw3:∀p,QQ.wrap (1+rnd f.bytes p 3)=1+rnd f.bytes p 3:=λp=>aG (by have h1:=@aO _ p 3 hf.ok;have:=@bC f.bytes p 3 (by omega);omega);refine ay.introN [] func225 rfl (by decide) az (by kernel_rfl) [QO 6] 57 rfl rfl ?_;simp only[vqM,zA,zS];have hx:other f k d a=other f k d a:=rfl;conv at hx=>rhs;unfold other
 by_cases h4:4≤k
 ·by_cases h10:k<10
  ·rw[if_pos ⟨h4,h10⟩]at hx;rw[hx];simp only[vqM,h4,h10,decide_true];refine aa (KE f hA _ B _ _ _ (by omega) (by omega) (by omega)) ?_;simp only[vqM,kz,zA,zM,zL];refine gI (.inr rfl) ?_ (aT (Sm.bds _)) rfl;simp only[vqM,Sm.encs]
  ·rw[if_neg (λh=>h10 h.2)]at hx;have hn4:(k<4)=False:=eq_false (by omega);simp only[vqM,h4,h10,decide_true,decide_false];by_cases e10:k=10
   ·rw[if_pos e10]at hx;rw[hx];have e10t:(k=10)=True:=eq_true e10;simp only[vqM,kz,zA,e10t,decide_true];refine aa (jj f a B _ L c (by omega)) ?_;simp only[vqM];refine aa (ba f _ _ B _ _ _ (by omega) (by first|omega|(simp only;omega)) hf.ok) ?_;simp only[vqM,kz,zA,zM,zL,hw3];refine gI (.inr rfl) ?_ (aT (Sm.bds _)) rfl;simp only[vqM,Sm.encs,bj,aZ,bb]
   ·rw[if_neg e10]at hx;have e10t:(k=10)=False:=eq_false e10;simp only[vqM,e10t,decide_false];by_cases e11:k=11
    ·have e11t:(k=11)=True:=eq_true e11;by_cases d2:d<2
     ·rw[if_pos ⟨e11,d2⟩]at hx;rw[hx];simp only[vqM,e11t,d2,decide_true];refine aa (jj f a B _ L c (by omega)) ?_;simp only[vqM];refine aa (eh f hf ha 1 _ B _ _ _ (by omega) (by simp only[ecost];omega)) ?_;simp only[vqM,kz,zA,zM,zL];refine gI (.inr rfl) ?_ (aT (Sm.bds _)) rfl;simp only[vqM,Sm.encs,bj,aZ,bb]
     ·rw[if_neg (λh=>d2 h.2),if_neg (by omega)]at hx;rw[hx];simp only[vqM,kz,zA,e11t,d2,decide_true,decide_false,hn4];refine aa (AP f hA.toFxA _ B _ _ _ (by omega) (by omega)) ?_;simp only[vqM,kz,zA,zM,zL];refine gI (.inr rfl) ?_ (aT (Sm.bds _)) rfl;simp only[vqM,Sm.encs]
    ·have e11t:(k=11)=False:=eq_false e11;rw[if_neg (λh=>e11 h.1),if_neg (by omega)]at hx;rw[hx];simp only[vqM,kz,zA,e11t,decide_false,hn4];refine aa (AP f hA.toFxA _ B _ _ _ (by omega) (by omega)) ?_;simp only[vqM,kz,zA,zM,zL];refine gI (.inr rfl) ?_ (aT (Sm.bds _)) rfl;simp only[vqM,Sm.encs]
 ·have hn4:(k<4)=True:=eq_true (by omega);have e10t:(k=10)=False:=eq_false (by omega);have e11t:(k=11)=False:=eq_false (by omega);rw[if_neg (λh=>h4 h.1),if_neg (by omega),if_neg (by omega),if_pos (by omega)]at hx;rw[hx];simp only[vqM,h4,decide_true,decide_false,hn4,e10t,e11t];refine aa (Em f hf ha _ B _ _ _ (by omega) (by omega)) ?_;simp only[vqM];refine gI (.inr rfl) ?_ (aT (Sm.bds _)) rfl;simp only[vqM]
def jQ(ns:Int→Mk→Option (Sm×Mk))(f:Fd)(d:Int)(q:List Sm×Mk):List Sm×Mk:=
 match ns (rnd f.bytes q.2.pos 16) {q.2 with left:=q.2.left-1,pos:=q.2.pos+1}with
 |some r=>(q.1++[r.1],r.2)
 |none=>(q.1++(other f (rnd f.bytes q.2.pos 16) d {q.2 with left:=q.2.left-1,pos:=q.2.pos+1}).1,(other f (rnd f.bytes q.2.pos 16) d {q.2 with left:=q.2.left-1,pos:=q.2.pos+1}).2)
def itK(ns:Int→Mk→Option (Sm×Mk))(f:Fd)(d:Int)(a:Mk):Nat→List Sm×Mk
 |0=>([],a)
 |k+1=>if 0<(itK ns f d a k).2.left then jQ ns f d (itK ns f d a k)else itK ns f d a k
def nG(it:Mk→Nat→List Sm×Mk)(f:Fd)(a:Mk)(c:Co×Mk):Sm×Mk:=
 let b:=it {c.2 with pos:=c.2.pos+1+1,loop:=c.2.loop+1} (1+rnd f.bytes (c.2.pos+1) 2).toNat
 (.mk (a.site+1) 12 0 0 (1+rnd f.bytes c.2.pos 3) ex0 ex0 c.1 [] [] b.1 [],{b.2 with loop:=b.2.loop-1})
def D3(it:Mk→Nat→List Sm×Mk)(f:Fd)(a:Mk):Sm×Mk:=
 let b:=it {a with site:=a.site+1,pos:=a.pos+1+1} (1+rnd f.bytes (a.pos+1) 2).toNat
 let e:=it {b.2 with pos:=b.2.pos+1} (rnd f.bytes b.2.pos 2).toNat
 (.mk (a.site+1) 15 (targ f a) 0 0 ex0 ex0 co0 [] [] b.1 e.1,e.2)
def ifS(it:Mk→Nat→List Sm×Mk)(f:Fd)(a:Mk)(c:Co×Mk):Sm×Mk:=
 let b:=it {c.2 with pos:=c.2.pos+1} (1+rnd f.bytes c.2.pos 2).toNat
 let e:=it {b.2 with pos:=b.2.pos+1} (rnd f.bytes b.2.pos 2).toNat
 (.mk (a.site+1) 11 0 0 0 ex0 ex0 c.1 [] [] b.1 e.1,e.2)
def nestS(f:Fd):Nat→Int→Mk→Option (Sm×Mk)
 |0,_,_=>Qx
 |d+1,k,a =>
  if k<4∨7<k then Qx
  else if k=6 then Qv (nG (itK (nestS f d) f d) f a (cond f 1 {a with site:=a.site+1}))
  else if k=7 then Qv (D3 (itK (nestS f d) f d) f a)
  else Qv (ifS (itK (nestS f d) f d) f a (cond f 1 {a with site:=a.site+1}))
def stmts(f:Fd)(d:Nat)(n:Int)(a:Mk):List Sm×Mk:=itK (nestS f d) f d a n.toNat
structure Gr (m m':Mk):Prop where
 p1:m.pos≤m'.pos
 p2:m'.pos+200*m'.left≤m.pos+200*m.left
 s1:m.site≤m'.site
 s2:m'.site+4*m'.left≤m.site+4*m.left
 l1:m'.left≤m.left
 l0:0≤m.left→0≤m'.left
 lo:m'.loop=m.loop
 d1:m.done≤m'.done
 d2:m'.done+m'.left≤m.done+m.left
structure NGr (m m':Mk):Prop where
 p1:m.pos≤m'.pos
 p2:m'.pos+200*m'.left≤m.pos+200*m.left+199
 s1:m.site<m'.site
 s2:m'.site+4*m'.left≤m.site+4*m.left+3
 l1:m'.left≤m.left
 l0:0≤m.left→0≤m'.left
 lo:m'.loop=m.loop
 d1:m.done≤m'.done
 d2:m'.done+m'.left≤m.done+m.left+1
theorem Gr.refl(m:Mk):Gr m m:=⟨NH _,NH _,NH _,NH _,NH _,id,rfl,NH _,NH _⟩
theorem Gr.trans{a b c:Mk}(h:Gr a b)(k:Gr b c):Gr a c:=
 ⟨NY h.p1 k.p1,NY k.p2 h.p2,NY h.s1 k.s1,NY k.s2 h.s2,NY k.l1 h.l1,λx=>k.l0 (h.l0 x),k.lo.trans h.lo,NY h.d1 k.d1,NY k.d2 h.d2⟩
theorem NGr.of_sg{m m':Mk}(h:Sg m m'):NGr m m':=by
 obtain⟨a,b,c,d,e,f,g,i⟩:=h;exact⟨a,by omega,c,by omega,by omega,λx=>by omega,f,g,by omega⟩
theorem Gr.step{q m':Mk}{x:Int}(hl:0<q.left)(hm:NGr {q with left:=q.left-1,pos:=q.pos+1} m'):Gr q m':=by
 obtain⟨a,b,c,d,e,e0,f,g,i⟩:=hm;simp only at a b c d e e0 f g i;exact⟨by omega,by omega,by omega,by omega,by omega,λ_=>e0 (by omega),f,g,by omega⟩
theorem Bm{ns:Int→Mk→Option (Sm×Mk)}{f:Fd}(hA:FxH f)(hn:∀k m r,ns k m=Qv r→NGr m r.2)(d:Int)(q:List Sm×Mk)(hl:0<q.2.left):Gr q.2 (jQ ns f d q).2:=by
 unfold jQ;split
 ·rename_i r hr;exact Gr.step (x:=0) hl (hn _ _ _ hr)
 ·exact Gr.step (x:=0) hl (NGr.of_sg (lj f hA _ _ _))
theorem jz{ns:Int→Mk→Option (Sm×Mk)}{f:Fd}(hA:FxH f)(hn:∀k m r,ns k m=Qv r→NGr m r.2)(d:Int)(a:Mk):∀k,Gr a (itK ns f d a k).2:=by
 intro k;induction k with
 |zero=>exact Gr.refl a
 |succ k ih =>
  simp only[itK];split
  ·rename_i hl;exact ih.trans (Bm hA hn d _ hl)
  ·exact ih
theorem cK{f:Fd}(hA:FxH f):∀(d:Nat)(k:Int)(a:Mk)(r:Sm×Mk),nestS f d k a=Qv r→NGr a r.2:=by
 intro d;induction d with
 |zero=>intro k a r h;cases h
 |succ d ih =>
  intro k a r h;have hit:=λa n=>jz hA ih d a n;obtain⟨p,e1,e2,e3⟩:=dK f 1 {a with site:=a.site+1};simp only[ccost]at e2 e3;simp only[nestS]at h;split at h
  ·cases h
  split at h
  ·cases h;simp only[nG,e1];generalize hg:itK (nestS f d) f d _ _=b;have:=hit {a with site:=a.site+1,pos:=p+1+1,loop:=a.loop+1} (1+rnd f.bytes (p+1) 2).toNat
   rw[hg]at this;obtain⟨q1,q2,q3,q4,q5,q6,q7,q8,q9⟩:=this;simp only at q1 q2 q3 q4 q5 q6 q7 q8 q9;exact⟨by simp only;omega,by simp only;omega,by simp only;omega,by simp only;omega,by simp only;omega,λx=>by simp only;omega,by simp only;omega,by simp only;omega,by simp only;omega⟩
  split at h
  ·cases h;simp only[D3];have h1:=hit {a with site:=a.site+1,pos:=a.pos+1+1} (1+rnd f.bytes (a.pos+1) 2).toNat;generalize itK (nestS f d) f d {a with site:=a.site+1,pos:=a.pos+1+1} (1+rnd f.bytes (a.pos+1) 2).toNat=b at h1⊢;have h2:=hit {b.2 with pos:=b.2.pos+1} (rnd f.bytes b.2.pos 2).toNat;generalize itK (nestS f d) f d {b.2 with pos:=b.2.pos+1} (rnd f.bytes b.2.pos 2).toNat=e at h2⊢;obtain⟨q1,q2,q3,q4,q5,q6,q7,q8,q9⟩:=h1;obtain⟨r1,r2,r3,r4,r5,r6,r7,r8,r9⟩:=h2;simp only at q1 q2 q3 q4 q5 q6 q7 q8 q9 r1 r2 r3 r4 r5 r6 r7 r8 r9;exact⟨by omega,by omega,by omega,by omega,by omega,λx=>by omega,by omega,by omega,by omega⟩
  ·cases h;simp only[ifS,e1];have h1:=hit {a with site:=a.site+1,pos:=p+1} (1+rnd f.bytes p 2).toNat;generalize itK (nestS f d) f d {a with site:=a.site+1,pos:=p+1} (1+rnd f.bytes p 2).toNat=b at h1⊢;have h2:=hit {b.2 with pos:=b.2.pos+1} (rnd f.bytes b.2.pos 2).toNat;generalize itK (nestS f d) f d {b.2 with pos:=b.2.pos+1} (rnd f.bytes b.2.pos 2).toNat=e at h2⊢;obtain⟨q1,q2,q3,q4,q5,q6,q7,q8,q9⟩:=h1;obtain⟨r1,r2,r3,r4,r5,r6,r7,r8,r9⟩:=h2;simp only at q1 q2 q3 q4 q5 q6 q7 q8 q9 r1 r2 r3 r4 r5 r6 r7 r8 r9;exact⟨by omega,by omega,by omega,by omega,by omega,λx=>by omega,by omega,by omega,by omega⟩
structure Rdy (d:Nat) (m:Mk):Prop where
 p:0≤m.pos∧m.pos+200*m.left≤900000
 s:0≤m.site∧m.site+4*m.left≤900000
 l:0≤m.left
 dn:0≤m.done∧m.done+m.left≤900000
 lo:0≤m.loop∧m.loop+d≤1000
structure NRdy (d:Nat) (m:Mk):Prop where
 p:0≤m.pos∧m.pos+200*m.left+199≤900000
 s:0≤m.site∧m.site+4*m.left+4≤900000
 l:0≤m.left
 dn:0≤m.done∧m.done+m.left+1≤900000
 lo:0≤m.loop∧m.loop+d≤1000
theorem Rdy.gr{d:Nat}{m m':Mk}(h:Rdy d m)(g:Gr m m'):Rdy d m':=by
 obtain⟨⟨a1,a2⟩,⟨b1,b2⟩,c1,⟨d1,d2⟩,e1,e2⟩:=h;obtain⟨q1,q2,q3,q4,q5,q6,q7,q8,q9⟩:=g;exact⟨⟨by omega,by omega⟩,⟨by omega,by omega⟩,q6 c1,⟨by omega,by omega⟩,by omega,by omega⟩
theorem Rdy.step{d:Nat}{m:Mk}(h:Rdy d m)(hl:0<m.left):NRdy d {m with left:=m.left-1,pos:=m.pos+1}:=by
 obtain⟨⟨a1,a2⟩,⟨b1,b2⟩,c1,⟨d1,d2⟩,e1,e2⟩:=h;exact⟨⟨by simp only;omega,by simp only;omega⟩,⟨b1,by simp only;omega⟩,by simp only;omega,⟨d1,by simp only;omega⟩,e1,e2⟩
def sm0:Sm:=.mk 0 0 0 0 0 ex0 ex0 co0 [] [] [] []
def xJ:Option (Sm×Mk)→D
 |some r=>.tup [.agg r.1.cells,.bool Qy]
 |none=>.tup [.agg sm0.cells,.bool Qw]
def nMk(a:Mk):Option (Sm×Mk)→Mk
 |some r=>r.2
 |none=>a
def dj(c z:Nat):Nat→Own
 |0=>.full
 |k+1=>.lab (c+k) z
theorem cg{c z k:Nat}{xs:List (List D)}{B:List Box}{L:List Nat}(h:∀x∈xs,x.length=z):aV (dj c z k) xs z ⟨B,liveN L c k,c+k⟩=Qy:=by
 cases k with
 |zero=>simpa[aV,dj]using h
 |succ k=>simp[aV,dj,liveN]
theorem aU{c z k:Nat}{B:List Box}{L:List Nat}:St.relab ⟨B,liveN L c k,c+k⟩ (dj c z k)=⟨B,liveN L c (k+1),c+(k+1)⟩:=by
 cases k with
 |zero=>rfl
 |succ k=>simp[dj,liveN,St.relab];omega
theorem uf(f:Fd)(k d:Int)(a:Mk):(other f k d a).1.length≤3:=by
 unfold other;split
 ·simp
 split
 ·simp
 split
 ·simp
 split
 ·unfold fu;dsimp only;split
  ·simp
  split
  ·simp
  split
  ·simp
  split
  ·simp
  split
  ·simp
  split
  ·simp
  ·simp
 ·simp
theorem Le{ns:Int→Mk→Option (Sm×Mk)}{f:Fd}{d:Int}{a:Mk}:∀k,(itK ns f d a k).1.length≤3*k:=by
 intro k;induction k with
 |zero=>simp[itK]
 |succ k ih =>
  simp only[itK];split
  ·unfold jQ;split
   ·simp;omega
   ·rw[K4];have:=uf f (rnd f.bytes (itK ns f d a k).2.pos 16) d { (itK ns f d a k).2 with left:=(itK ns f d a k).2.left-1,pos:=(itK ns f d a k).2.pos+1};dsimp only at this⊢;omega
  ·omega
theorem IL{ns:Int→Mk→Option (Sm×Mk)}{f:Fd}{d:Int}{a:Mk}{k:Nat}(h:¬0<(itK ns f d a k).2.left):∀j,itK ns f d a (k+j)=itK ns f d a k:=by
 intro j;induction j with
 |zero=>rfl
 |succ j ih=>rw[←Nat.add_assoc];simp only[itK,ih,if_neg h]
theorem AO(f:Fx)(hA:FxH f)(d:Nat)
  (HN:∀(k:Int)(a:Mk)(B T:List Box)(L:List Nat)(c:Nat),NRdy d a→ay Qz 224 [.box B.length 0,.int .i64 k,.int .i64 d] ⟨B++.cells (f.cells a)::T,L,c⟩ (xJ (nestS f d k a)) ⟨B++.cells (f.cells (nMk a (nestS f d k a)))::T,L,c⟩)
  (n:Int) (a:Mk) (B T:List Box) (L:List Nat) (c:Nat) (hn:n≤100) (hR:Rdy d a) :
  ay Qz 172 [.box B.length 0,.int .i64 n,.int .i64 d] ⟨B++.cells (f.cells a)::T,L,c⟩ (.slice .none (Sm.encs (stmts f d n a).1)) ⟨B++.cells (f.cells (stmts f d n a).2)::T,L,c⟩:=by
 have hf:=hA.toFxV;refine ay.introN [] func172 rfl (by decide) az (by kernel_rfl) [QO 6] 53 rfl rfl ?_;simp only[vqM,u0,zA,zS,zM];refine ae [0,1,2,7,8] ?_;simp only[vke,zB,zA];refine aC az n.toNat (λk e s=>e=[.box B.length 0,.int .i64 n,.int .i64 d,J,J,J,J,.slice (dj c 20 k) (Sm.encs (itK (nestS f d) f d a k).1),.int .i64 (k:Int),J,J,J,J,J,J,J,J,J,J,J,J,J,J,J,J,J,J,J,J,J,J,J,J,J,J,J,J,J,J,J,J,J,J,J,J,J,J,J,J,J,J,J,J] ∧
  ∃X,s=⟨B++.cells (f.cells (itK (nestS f d) f d a k).2)::(T++X),liveN L c k,c+k⟩) ?_ ?_ 0 _ _ (K9 _) ⟨rfl,[],by simp only[itK,liveN,MK,Nat.add_zero]⟩
 ·rintro k e s hk ⟨rfl,X,rfl⟩ ih;have hkl:((k:Int)<n)=True:=eq_true (by omega);have hq:=hR.gr (jz hA (cK hA d) d a k);have hlen:=Le (ns:=nestS f d) (f:=f) (d:=d) (a:=a) k;have hsu:itK (nestS f d) f d a (k+1)=if 0<(itK (nestS f d) f d a k).2.left then jQ (nestS f d) f d (itK (nestS f d) f d a k)else itK (nestS f d) f d a k:=rfl
  have hst:=IL (ns:=nestS f d) (f:=f) (d:=d) (a:=a) (k:=k);generalize itK (nestS f d) f d a k=q at hq hlen hsu hst⊢;obtain⟨l,m⟩:=q;simp only at hq hlen;by_cases hl:0<m.left
  ·have hwl:QQ.wrap (m.left-1)=m.left-1:=aG (by have:=hq.p;have:=hq.l;omega);have hq2:=hq.step hl;simp only[hl,if_true,jQ]at hsu;simp only[vqM,u0,zA,zL,hkl,decide_true,hl,hwl];refine aa (ba f _ _ B _ _ _ (by omega) (by have:=hq.p;have:=hq.l;simp only;omega) hf.ok) ?_;simp only[vqM];refine aa (HN _ _ B _ _ _ hq2) ?_;have hof:∀B',aV (dj c 20 k) (Sm.encs l) 20 ⟨B',liveN L c k,c+k⟩=Qy:=λB'=>cg (Sm.encs_each _);cases hns:nestS f d (rnd f.bytes m.pos 16) {m with left:=m.left-1,pos:=m.pos+1}with
   |some r =>
    rw[hns]at hsu;simp only at hsu;have hA1:Sm.encs l++[r.1.cells]=Sm.encs (l++[r.1]):=Sm.encs_app l [r.1];have hl1:(l.length+1≤1000000)=True:=eq_true (by omega);simp only[vqM,u0,zA,zM,zL,xJ,nMk,hof,aU,Sm.encs_len,hl1];rw[hA1,ap (by omega)];refine ae [0,1,2,7,8] ?_;simp only[vke,zB,zA];refine ih _ _ ?_;rw[hsu];exact⟨rfl,_,rfl⟩
   |none =>
    rw[hns]at hsu;simp only at hsu;have ho:=uf f (rnd f.bytes m.pos 16) d {m with left:=m.left-1,pos:=m.pos+1};have hl1:(l.length+(other f (rnd f.bytes m.pos 16) d {m with left:=m.left-1,pos:=m.pos+1}).1.length≤1000000)=True:=eq_true (by omega);simp only[vqM,u0,zA,xJ,nMk];refine aa (Hy f hA _ _ _ B _ _ _ (by have:=hq2.p;have:=hq2.l;simp only at *;omega) (by have:=hq2.s;have:=hq2.l;simp only at *;omega) (by have:=hq2.dn;have:=hq2.l;simp only at *;omega)) ?_;simp only[vqM,u0,zA,zL,hof];refine aA (Sm.encs_each _) ?_;simp only[vqM,aU,Sm.encs_len,hl1,Sm.encs_app];rw[ap (by omega)];refine ae [0,1,2,7,8] ?_;simp only[vke,zB,zA];refine ih _ _ ?_;rw[hsu];exact⟨rfl,_,rfl⟩
  ·have hx:stmts f d n a=(l,m):=by
    have:=hst hl (n.toNat-k)
    rw[show k+(n.toNat-k)=n.toNat by omega]at this;exact this
   simp only[vqM,u0,zA,hkl,decide_true,hl,decide_false];rw[hx];refine bu (.inr rfl) ?_ (aT (Sm.bds _)) rfl (λ_ h=>bk h) (by omega);simp only[vqM]
 ·rintro e s ⟨rfl,X,rfl⟩;have hkl:((n.toNat:Int)<n)=False:=eq_false (by omega);simp only[vqM,hkl,decide_false];refine bu (.inr rfl) ?_ (aT (Sm.bds _)) rfl (λ_ h=>bk h) (by omega);simp only[vqM,stmts]
theorem oW:sm0.cells=[.int .i64 0,.int .i64 0,.int .i64 0,.int .i64 0,.int .i64 0,.int .i64 0,.int .i64 0,.int .i64 0,.slice .none [],.int .i64 0,.int .i64 0,.int .i64 0,.slice .none [],.int .i64 0,.slice .none [],.slice .none [],
 .slice .none [],.slice .none [],.slice .none [],.slice .none []]:=rfl
theorem cu{nb nl:Nat}{a b:D}(ha:Bd nb nl a)(hb:Bd nb nl b):Bd nb nl (.tup [a,b]):=.tup _ λi hi=>by
 match i,hi with
 |0,_=>exact ha
 |1,_=>exact hb
theorem Eq(f:Fx)(hA:FxH f):∀(d:Nat)(k:Int)(a:Mk)(B T:List Box)(L:List Nat)(c:Nat),NRdy d a →
  ay Qz 224 [.box B.length 0,.int .i64 k,.int .i64 d] ⟨B++.cells (f.cells a)::T,L,c⟩ (xJ (nestS f d k a)) ⟨B++.cells (f.cells (nMk a (nestS f d k a)))::T,L,c⟩:=by
 have hf:=hA.toFxV;have ha:=hA.arr.2;intro d;induction d with
 |zero =>
  intro k a B T L c hR;refine ay.introN [] func224 rfl (by decide) az (by kernel_rfl) [QP 6 130,QO 7] 81 rfl rfl ?_;simp only[vqM,ic,zA,zS,decide_true];rw[show nestS f 0 k a=Qx from rfl];refine bu (.inr rfl) ?_ (cu (aK (Sm.bd _)) (.bool _)) rfl (λ_ h=>h) (K5 _);simp only[vqM,ic,zA,oW,xJ]
 |succ d ih =>
  have hS:=λn a B T L c=>AO f hA d ih n a B T L c;intro k a B T L c hR;have hz:(((d+1:Nat):Int)=0)=False:=by simp;omega
  have hlo:=hR.lo;have hwd:QQ.wrap (((d+1:Nat):Int)-1)=d:=by rw[aG (by omega)];omega
  have hgr:=jz hA (cK hA d) d;obtain⟨⟨hp1,hp2⟩,⟨hs1,hs2⟩,hl1,⟨hd1,hd2⟩,hlo1,hlo2⟩:=hR;have hw3:∀p,QQ.wrap (1+rnd f.bytes p 3)=1+rnd f.bytes p 3:=λp=>aG (by have h1:=@aO _ p 3 hf.ok;have:=@bC f.bytes p 3 (by omega);omega);have hw2:∀p,QQ.wrap (1+rnd f.bytes p 2)=1+rnd f.bytes p 2:=λp=>aG (by have h1:=@aO _ p 2 hf.ok;have:=@bC f.bytes p 2 (by omega);omega);have hwlo:QQ.wrap (a.loop+1)=a.loop+1:=aG (by omega);have hr2:∀p,rnd f.bytes p 2<2:=λp=>bC (by omega);refine ay.introN [] func224 rfl (by decide) az (by kernel_rfl) [QP 6 130,QO 7] 81 rfl rfl ?_;simp only[vqM,ic,zA,zS,hz,decide_false];have hx:nestS f (d+1) k a=nestS f (d+1) k a:=rfl;conv at hx=>rhs;unfold nestS
  by_cases h4:k<4
  ·rw[if_pos (.inl h4)]at hx;rw[hx];simp only[vqM,ic,zA,h4,decide_true];refine bu (.inr rfl) ?_ (cu (aK (Sm.bd _)) (.bool _)) rfl (λ_ h=>h) (K5 _);simp only[vqM,ic,zA,oW,xJ]
  ·by_cases h7:7<k
   ·rw[if_pos (.inr h7)]at hx;rw[hx];simp only[vqM,ic,zA,h4,h7,decide_true,decide_false];refine bu (.inr rfl) ?_ (cu (aK (Sm.bd _)) (.bool _)) rfl (λ_ h=>h) (K5 _);simp only[vqM,ic,zA,oW,xJ]
   ·rw[if_neg (by omega)]at hx;simp only[vqM,h4,h7,decide_false];refine aa (jj f a B _ L c (by omega)) ?_;simp only[vqM,ic,zA,zL];obtain⟨p,e1,e2,e3⟩:=dK f 1 {a with site:=a.site+1};simp only[ccost]at e2 e3;by_cases h6:k=6
    ·have h6t:(k=6)=True:=eq_true h6;rw[if_pos h6]at hx;simp only[vqM,ic,zA,zL,h6t,decide_true];refine aa (Aq f hf ha 1 _ B _ _ _ (by omega) (by simp only[ccost];omega)) ?_;simp only[vqM,ic,zA,zL,e1];refine aa (ba f _ _ B _ _ _ (by omega) (by first|omega|(simp only;omega)) hf.ok) ?_;simp only[vqM,ic,zA,zL,hw3,hwlo];refine aa (ba f _ _ B _ _ _ (by omega) (by first|omega|(simp only;omega)) hf.ok) ?_;simp only[vqM,hw2,hwd];refine aa (hS _ _ B _ _ _ (by have:=hr2 (p+1);omega) ⟨⟨by simp only;omega,by simp only;omega⟩,⟨by simp only;omega,by simp only;omega⟩,hl1,⟨hd1,by simp only;omega⟩,⟨by simp only;omega,by simp only;omega⟩⟩) ?_;simp only[nG,e1]at hx;have hg:=hgr {a with site:=a.site+1,pos:=p+1+1,loop:=a.loop+1} (1+rnd f.bytes (p+1) 2).toNat;simp only[stmts];generalize itK (nestS f d) f d {a with site:=a.site+1,pos:=p+1+1,loop:=a.loop+1} (1+rnd f.bytes (p+1) 2).toNat=b at hx hg⊢;have hlb:=hg.lo;simp only at hlb;have hwb:QQ.wrap (b.2.loop-1)=b.2.loop-1:=aG (by omega);simp only[vqM,ic,zA,zL,hwb];rw[hx];refine bu (.inr rfl) ?_ (cu (aK (Sm.bd _)) (.bool _)) rfl (λ_ h=>h) (K5 _);simp only[vqM,ic,zA,xJ,Sm.cells,aZ,Ex.encs,ah,Sm.encs]
    ·have h6t:(k=6)=False:=eq_false h6;rw[if_neg h6]at hx;simp only[vqM,h6t,decide_false];by_cases h77:k=7
     ·have h7t:(k=7)=True:=eq_true h77;rw[if_pos h77]at hx;simp only[vqM,ic,zA,zL,h7t,decide_true];refine aa (eH f _ B _ _ _ hf (by simp only;omega)) ?_;simp only[vqM,ic,zA,zL];refine aa (ba f _ _ B _ _ _ (by omega) (by first|omega|(simp only;omega)) hf.ok) ?_;simp only[vqM,hw2,hwd];refine aa (hS _ _ B _ _ _ (by have:=hr2 (a.pos+1);omega) ⟨⟨by simp only;omega,by simp only;omega⟩,⟨by simp only;omega,by simp only;omega⟩,hl1,⟨hd1,by simp only;omega⟩,⟨by simp only;omega,by simp only;omega⟩⟩) ?_;simp only[D3]at hx;have hg:=hgr {a with site:=a.site+1,pos:=a.pos+1+1} (1+rnd f.bytes (a.pos+1) 2).toNat;simp only[stmts];generalize itK (nestS f d) f d {a with site:=a.site+1,pos:=a.pos+1+1} (1+rnd f.bytes (a.pos+1) 2).toNat=b at hx hg⊢;obtain⟨q1,q2,q3,q4,q5,q6,q7,q8,q9⟩:=hg;simp only at q1 q2 q3 q4 q5 q6 q7 q8 q9;simp only[vqM,ic,zA,zL];refine aa (ba f _ _ B _ _ _ (by omega) (by first|omega|(simp only;omega)) hf.ok) ?_;simp only[vqM,hwd];refine aa (hS _ _ B _ _ _ (by have:=hr2 b.2.pos;omega) ⟨⟨by simp only;omega,by simp only;omega⟩,⟨by simp only;omega,by simp only;omega⟩,by simp only;omega,⟨by simp only;omega,by simp only;omega⟩,⟨by simp only;omega,by simp only;omega⟩⟩) ?_;simp only[vqM,ic,zA,stmts];rw[hx];refine bu (.inr rfl) ?_ (cu (aK (Sm.bd _)) (.bool _)) rfl (λ_ h=>h) (K5 _);simp only[vqM,ic,zA,xJ,Sm.cells,aZ,bb,Ex.encs,ah,targ]
     ·have h7t:(k=7)=False:=eq_false h77;rw[if_neg h77]at hx;simp only[vqM,h7t,decide_false];refine aa (Aq f hf ha 1 _ B _ _ _ (by omega) (by simp only[ccost];omega)) ?_;simp only[vqM,ic,zA,zL,e1];refine aa (ba f _ _ B _ _ _ (by omega) (by first|omega|(simp only;omega)) hf.ok) ?_;simp only[vqM,hw2,hwd];refine aa (hS _ _ B _ _ _ (by have:=hr2 p;omega) ⟨⟨by simp only;omega,by simp only;omega⟩,⟨by simp only;omega,by simp only;omega⟩,hl1,⟨hd1,by simp only;omega⟩,⟨by simp only;omega,by simp only;omega⟩⟩) ?_;simp only[ifS,e1]at hx;have hg:=hgr {a with site:=a.site+1,pos:=p+1} (1+rnd f.bytes p 2).toNat;simp only[stmts];generalize itK (nestS f d) f d {a with site:=a.site+1,pos:=p+1} (1+rnd f.bytes p 2).toNat=b at hx hg⊢;obtain⟨q1,q2,q3,q4,q5,q6,q7,q8,q9⟩:=hg;simp only at q1 q2 q3 q4 q5 q6 q7 q8 q9;simp only[vqM,ic,zA,zL];refine aa (ba f _ _ B _ _ _ (by omega) (by first|omega|(simp only;omega)) hf.ok) ?_;simp only[vqM,hwd];refine aa (hS _ _ B _ _ _ (by have:=hr2 b.2.pos;omega) ⟨⟨by simp only;omega,by simp only;omega⟩,⟨by simp only;omega,by simp only;omega⟩,by simp only;omega,⟨by simp only;omega,by simp only;omega⟩,⟨by simp only;omega,by simp only;omega⟩⟩) ?_;simp only[vqM,ic,zA,stmts];rw[hx];refine bu (.inr rfl) ?_ (cu (aK (Sm.bd _)) (.bool _)) rfl (λ_ h=>h) (K5 _);simp only[vqM,ic,zA,xJ,Sm.cells,aZ,Ex.encs,ah]
end Go.V
