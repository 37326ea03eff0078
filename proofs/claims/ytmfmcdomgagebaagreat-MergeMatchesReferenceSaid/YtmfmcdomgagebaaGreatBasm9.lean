/-
  The value-level logic and its contracts, part 9 (texts M12, N6, U14, U15, N4, M3, N7, U16, N8, N9, C0, C9).
-/
import Derived.Test.YtmfmcdomgagebaaGreatBasm8
import Derived.Test.YtmfmcdomgagebaaGreatBasm6
import Derived.Test.YtmfmcdomgagebaaGreatBasm3
import Derived.Test.YtmfmcdomgagebaaGreatBasm4
set_option linter.all false
open Nat renaming reduceAdd → zA, reduceSub → zS, reduceMul → zM, reduceLeDiff → zL, reduceEqDiff → zE, reduceBEq → zB
open Go.V.D renaming junk → J
namespace Go.V
open Go.Proofs
set_option maxRecDepth 20000
set_option maxHeartbeats 4000000
structure Own3 (L:List Nat) (c za zb zd:Nat) (a b d:Own) (L':List Nat) (c':Nat):Prop where
 wf:WfL L' c'
 la:LiveO a za L'
 lb:LiveO b zb L'
 ld:LiveO d zd L'
 ab:Apart a b
 bd:Apart b d
 da:Apart d a
 sub:∀ k ∈ L,k ∈ L'
 le:c≤c'
 na:∀ k y,a=.lab k y→c≤k
 nb:∀ k y,b=.lab k y→c≤k
 nd:∀ k y,d=.lab k y→c≤k
theorem Apart.symm {a b:Own} (h:Apart a b):Apart b a:=fun k z k' z' e1 e2=>(h k' z' k z e2 e1).symm
theorem Own3.rot {L:List Nat} {c za zb zd:Nat} {a b d:Own} {L':List Nat} {c':Nat} (h:Own3 L c za zb zd a b d L' c'):Own3 L c zb zd za b d a L' c' :=
 ⟨h.wf,h.lb,h.ld,h.la,h.bd,h.da,h.ab,h.sub,h.le,h.nb,h.nd,h.na⟩
theorem Own3.start {L:List Nat} {c:Nat} (h:WfL L c) (za zb zd:Nat):Own3 L c za zb zd .nil .nil .nil L c :=
 ⟨h,.inl rfl,.inl rfl,.inl rfl,fun _ _ _ _ e=>(by cases e),fun _ _ _ _ e=>(by cases e),fun _ _ _ _ e=>(by cases e),fun _ h=>h,Nat.le_refl _,fun _ _ e=>(by cases e),fun _ _ e=>(by cases e),fun _ _ e=>(by cases e)⟩
theorem LiveO.lt {o:Own} {z:Nat} {L:List Nat} {c:Nat} (h:LiveO o z L) (hw:WfL L c):∀ k y,o=.lab k y→k<c:=fun k y e=>by
 rcases h with h | ⟨j,h,hj⟩
 ·rw [h] at e;cases e
 ·rw [h] at e;cases e;exact hw.lt _ hj
theorem Own3.step {L:List Nat} {c za zb zd:Nat} {a b d:Own} {L':List Nat} {c':Nat} (h0:WfL L c) (h:Own3 L c za zb zd a b d L' c'):Own3 L c za zb zd (.lab c' za) b d (c'::eraseO L' a) (c'+1) where
 wf:=h.wf.relab a
 la:=.inr ⟨c',rfl,by simp⟩
 lb:=h.lb.erase h.ab
 ld:=h.ld.erase h.da.symm
 ab:=fun k z k' z' e1 e2=>by cases e1;have:=h.lb.lt h.wf _ _ e2;omega
 bd:=h.bd
 da:=fun k z k' z' e1 e2=>by cases e2;have:=h.ld.lt h.wf _ _ e1;omega
 sub:=fun q hq=>List.mem_cons_of_mem _ (eraseO_mem (h.sub q hq) fun y e=>by have:=h.na _ _ e;have:=h0.lt q hq;omega)
 le:=by have:=h.le;omega
 na:=fun k y e=>by cases e;exact h.le
 nb:=h.nb
 nd:=h.nd
theorem Own3.stepB {L:List Nat} {c za zb zd:Nat} {a b d:Own} {L':List Nat} {c':Nat} (h0:WfL L c) (h:Own3 L c za zb zd a b d L' c'):Own3 L c za zb zd a (.lab c' zb) d (c'::eraseO L' b) (c'+1):=((h.rot.step h0).rot).rot
theorem Own3.stepD {L:List Nat} {c za zb zd:Nat} {a b d:Own} {L':List Nat} {c':Nat} (h0:WfL L c) (h:Own3 L c za zb zd a b d L' c'):Own3 L c za zb zd a b (.lab c' zd) (c'::eraseO L' d) (c'+1):=(h.rot.rot.step h0).rot
theorem lookE_agg (p:Pg) (id:Int):∃ zs,lookE p id=.agg zs∧zs.map D.plain1=(entE p id).cells∧zs.map D.keep1=zs∧zs.length=27∧(zs=(entE p id).cells∨(zs=En.zc∧entE p id=En.zero∧id≠0)):=by
 unfold lookE
 split
 ·exact ⟨_,rfl,En.plain _,En.keep1 _,En.cells_len _,.inl rfl⟩
 ·rename_i h
  have h0:id≠0:=by rintro rfl;exact h (by simp [idsS])
  rw [entE_out h]
  exact ⟨_,rfl,rfl,rfl,rfl,.inr ⟨rfl,rfl,h0⟩⟩
def threeD (r:Pg × List Int × Int):D:=.tup [.agg r.1.cells,.slice .none (intCells r.2.1),.int .i64 r.2.2]
structure Th (p a b:Pg) (B X:List Box) (mx my mz:Nat):Prop where
 r:(B++X)[B.length+3]? = some (.cells Pg.zc)
 x:(B++X)[mx]? = some (.map (entM p))
 y:(B++X)[my]? = some (.map (entM a))
 z:(B++X)[mz]? = some (.map (entM b))
def Th0 (p a b:Pg) (B:List Box) (L:List Nat) (c:Nat) (e:List D) (s:St):Prop :=
 ∃ X mx my mz w,keep [6,9,10,11,12,13] e=[J,J,J,J,J,J,.box (B.length+3) 0,J,J,.map mx,.map my,.map mz,.slice .nil [],.box w 0,J,J,J,J,J,J,J,J,J,J,J,J,J,J,J,J,J,J,J,J,J,J,J,J,J,J,J,J,J,J,J,J,J,J,J,J,J,J,J,J,J,J,J,J,J,J,J,J,J,J,J,J,J,J,J,J,J,J,J,J,J,J,J,J,J,J,J,J,J,J,J,J,J,J,J,J,J,J,J,J,J,J,J,J,J,J,J,J,J,J,J,J,J]∧s=⟨B++X,L,c⟩∧Th p a b B X mx my mz∧B.length+3<w∧(B++X)[w]? = some (.cells Pg.zc)
theorem th0_mk {p a b:Pg} {B X:List Box} {L:List Nat} {c mx my mz w:Nat} {e:List D} {s:St} (h1:keep [6,9,10,11,12,13] e=[J,J,J,J,J,J,.box (B.length+3) 0,J,J,.map mx,.map my,.map mz,.slice .nil [],.box w 0,J,J,J,J,J,J,J,J,J,J,J,J,J,J,J,J,J,J,J,J,J,J,J,J,J,J,J,J,J,J,J,J,J,J,J,J,J,J,J,J,J,J,J,J,J,J,J,J,J,J,J,J,J,J,J,J,J,J,J,J,J,J,J,J,J,J,J,J,J,J,J,J,J,J,J,J,J,J,J,J,J,J,J,J,J,J,J,J,J,J,J,J,J]) (h2:s=⟨B++X,L,c⟩) (h3:(B++X)[B.length+3]? = some (.cells Pg.zc)) (h4:(B++X)[mx]? = some (.map (entM p))) (h5:(B++X)[my]? = some (.map (entM a))) (h6:(B++X)[mz]? = some (.map (entM b))) (h7:B.length+3<w) (h8:(B++X)[w]? = some (.cells Pg.zc)):Th0 p a b B L c e s :=
 ⟨X,mx,my,mz,w,h1,h2,⟨h3,h4,h5,h6⟩,h7,h8⟩
theorem list7 {l:List D} (h:l.length=7):∃ d0 d1 d2 d3 d4 d5 d6,l=[d0,d1,d2,d3,d4,d5,d6]:=by
 match l,h with
 | [d0,d1,d2,d3,d4,d5,d6],_=>exact ⟨_,_,_,_,_,_,_,rfl⟩
theorem t_Three (p a b:Pg) (N1:Nrm p) (N2:Nrm a) (N3:Nrm b) (hl1:p.heads.length≤900) (hl2:a.heads.length≤900) (hl3:b.heads.length≤900) (PO:PgOk (wu9 p a b)) (s:St):Spec Tryz.prog 26 [.agg p.cells,.agg a.cells,.agg b.cells] s (threeD (threeS p a b)) s:=by
 refine Spec.wf fun hW=>?_
 obtain ⟨B,L,c⟩:=s
 have hW0:WfL L c:=⟨hW.nd,hW.lt⟩
 have hk1:(idsS p).Nodup:=N1.ids
 have hk2:(idsS a).Nodup:=N2.ids
 have hk3:(idsS b).Nodup:=N3.ids
 refine Spec.introN [(1,.text [false,true,false,true,false,true,false,false,false] [(2,0),(4,0),(4,1)]),(3,.cut),(7,.cut),(14,.text [false,false,false,false,false,true,false,true] [(3,1)])] Tryz.func26 rfl (by decide) hmix (by kernel_rfl) [ResultVar.cell 6 37,ResultVar.tmp 7,ResultVar.tmp 8] 107 rfl rfl ?_
 simp only [vqM,vt107,zA,zS,zB]
 refine ka9 (t_entries p hk1 _ _ _) ?_
 simp only [vqM,vt107,zA]
 refine ka9 (t_entries a hk2 _ _ _) ?_
 simp only [vqM,vt107]
 refine ka9 (t_entries b hk3 _ _ _) ?_
 simp only [vqM,vt107,zB]
 refine seq_joinI (Th0 p a b B L c) ?_ ?_
 ·simp only [vqM,vt107,zA]
  generalize entX p p.heads=XP
  generalize entX a a.heads=XA
  generalize entX b b.heads=XB
  have hadd:∀ a,B.length+a+1=B.length+(a+1):=fun _=>rfl
  have haddP:∀ a,XP.length+a+1=XP.length+(a+1):=fun _=>rfl
  refine qi9 ?_
  apply th0_mk
  ·simp only [vke,zB,zA]
   rfl
  ·rfl
  all_goals (first | (simp only [hadd,wi9,wd9,List.getElem?_cons_succ,List.getElem?_cons_zero];done) | (simp only [hadd,wi9,wd9,List.getElem?_cons_succ,List.getElem?_cons_zero];rfl) | (simp only [hadd,zA,wi9];rfl) | omega | (simp only [hadd,wi9,List.getElem?_cons_succ];simp only [haddP,wi9,List.getElem?_cons_succ,List.getElem?_cons_zero];done) | trace_state)
 rintro e s ⟨X,mx,my,mz,w,he,rfl,hT,hw,hb⟩
 refine kc9 [6,9,10,11,12,13] ?_
 rw [he]
 clear he
 refine xk9 hmix ?_
 simp only [vqM,vt107,zA,zM,zL,zB]
 refine qo9 (t_keys [⟨mx,entM p,idsS p⟩,⟨my,entM a,idsS a⟩,⟨mz,entM b,idsS b⟩] (B++X) ?_ (by simp) (by simp) L c hW0) ?_
 ·intro x hx
  rcases List.mem_cons.1 hx with rfl | hx
  ·exact ms_ok hl1 hT.x
  ·rcases List.mem_cons.1 hx with rfl | hx
   ·exact ms_ok hl2 hT.y
   ·rcases List.mem_cons.1 hx with rfl | hx
    ·exact ms_ok hl3 hT.z
    ·simp at hx
 rintro r t ⟨b0,cs,X2,rfl,hX2,hcs,rfl⟩
 have hk:compL (xw9 (allK [⟨mx,entM p,idsS p⟩,⟨my,entM a,idsS a⟩,⟨mz,entM b,idsS b⟩]))=keysS [p,a,b]:=rfl
 rw [hk] at hcs ⊢
 have hlen:(keysS [p,a,b]).length≤100000:=by
  have h1:=compL_le (xw9 (allK [⟨mx,entM p,idsS p⟩,⟨my,entM a,idsS a⟩,⟨mz,entM b,idsS b⟩]))
  have h2:(xw9 (allK [⟨mx,entM p,idsS p⟩,⟨my,entM a,idsS a⟩,⟨mz,entM b,idsS b⟩])).length=_:=(List.mergeSort_perm _ _).length_eq
  rw [hk,h2] at h1
  simp [allK,idsS] at h1
  omega
 generalize hKS:keysS [p,a,b]=ks at hcs hlen ⊢
 have hT2:Th p a b B (X++X2) mx my mz:=⟨by rw [← List.append_assoc];exact kx9 hT.r,by rw [← List.append_assoc];exact kx9 hT.x,by rw [← List.append_assoc];exact kx9 hT.y,by rw [← List.append_assoc];exact kx9 hT.z⟩
 have hb2:(B++(X++X2))[w]? = some (.cells Pg.zc):=by rw [← List.append_assoc];exact kx9 hb
 have hwl:=(List.getElem?_eq_some_iff.1 hb).1
 have hr2:(B++(X++X2))[B.length+X.length+b0]? = some (.cells cs):=by
  rw [← List.append_assoc,← List.length_append,wi9];exact hX2
 have hwr:w<B.length+X.length+b0:=by simp at hwl;omega
 rw [List.append_assoc,show (B++X).length=B.length+X.length from List.length_append]
 generalize B.length+X.length+b0=rb at hr2 hwr ⊢
 generalize X++X2=X3 at hT2 hb2 hr2 ⊢
 simp only [vqM,vt107]
 refine kc9 [6,9,10,11,12,13,29,30,31] ?_
 simp only [vke,zB,zA]
 refine km9 hmix ks.length (fun k e s=>∃ (X:List Box) (hs:List Hd) (ds:List Df) (cf:List Int) (oh od oc:Own) (L':List Nat) (c':Nat) (DC:List D) (TH:D),Own3 L c 5 12 1 oh od oc L' c' ∧
   e=[J,J,J,J,J,J,.box (B.length+3) 0,J,J,.map mx,.map my,.map mz,.slice oc (intCells cf),.box w 0,J,J,J,J,J,J,J,J,J,J,J,J,J,J,J,.row rb 0 ks.length 1,.int .i64 ks.length,.int .i64 (k:Int),J,J,J,J,J,J,J,J,J,J,J,J,J,J,J,J,J,J,J,J,J,J,J,J,J,J,J,J,J,J,J,J,J,J,J,J,J,J,J,J,J,J,J,J,J,J,J,J,J,J,J,J,J,J,J,J,J,J,J,J,J,J,J,J,J,J,J,J,J,J,J,J,J,J,J]∧s=⟨B++X,L',c'⟩∧Th p a b B X mx my mz∧(B++X)[rb]? = some (.cells cs) ∧
   (B++X)[w]? = some (.cells (DC++[.slice oh (kr9 hs),.slice od (dfCells ds),TH]))∧DC.length=7∧DC.map D.plain1=(foldE (pickAt p a b) (ks.take k)).d.cells∧DC.map D.keep1=DC∧TH.plain1=.slice .none (intCells (foldE (pickAt p a b) (ks.take k)).threads)∧TH.keep1=TH ∧
   hs=(foldE (pickAt p a b) (ks.take k)).heads∧ds=(foldE (pickAt p a b) (ks.take k)).defs∧cf=(ks.take k).filter (fun id=>!agreeE (entE p id) (entE a id) (entE b id))∧hs.length≤k∧ds.length≤k) ?_ ?_ 0 _ _ (Nat.zero_le _) ?_
 ·rintro k e s hk ⟨X,hs,ds,cf,oh,od,oc,L',c',DC,TH,hO,rfl,rfl,hT,hr,hw2,dc1,dc2,dc3,th1,th2,hhs,hds,hcf,hln1,hln2⟩ ih
  have hkl:(0≤(k:Int)∧(k:Int)<(ks.length:Int))=True:=by simp;exact hk
  have hklt:((k:Int)<(ks.length:Int))=True:=by simp;exact hk
  have hg:(cs.drop k)[0]? = some (.int .i64 ks[k]):=by
   have h1:cs[k]? = (ints ks)[k]?:=by rw [← hcs,List.getElem?_take,if_pos hk]
   rw [List.getElem?_drop,Nat.add_zero,h1]
   simp [ints,hk]
  have hnext:ks.take (k+1)=ks.take k++[ks[k]]:=by rw [List.take_add_one,List.getElem?_eq_getElem hk];rfl
  generalize ks[k]=id at hg hnext
  obtain ⟨zx,x1,x2,x3,x4,x5⟩:=lookE_agg p id
  obtain ⟨zy,y1,y2,y3,y4,y5⟩:=lookE_agg a id
  obtain ⟨zz,z1,z2,z3,z4,z5⟩:=lookE_agg b id
  have l1:=look_ent N1 id
  have l2:=look_ent N2 id
  have l3:=look_ent N3 id
  rw [x1] at l1
  rw [y1] at l2
  rw [z1] at l3
  unfold En.zc at l1 l2 l3
  have hT':∀ Z,Th p a b B (X++Z) mx my mz:=fun Z=>⟨by rw [← List.append_assoc];exact kx9 hT.r,by rw [← List.append_assoc];exact kx9 hT.x,by rw [← List.append_assoc];exact kx9 hT.y,by rw [← List.append_assoc];exact kx9 hT.z⟩
  simp only [vqM,vt107,zB,hklt,decide_true,natle0,Int.toNat_natCast,hr,hg,Nat.mul_one,Nat.zero_add]
  refine seq_go ?_
  simp only [vqM,vt107,zA,hT.y,l2,y4]
  refine awN_joinI (fun e s=>∃ (X':List Box) (zs:List D) (cf':List Int) (oc':Own) (L2:List Nat) (c2:Nat),Own3 L c 5 12 1 oh od oc' L2 c2∧keep [6,9,10,11,12,13,15,16,29,30,31] e=[J,J,J,J,J,J,.box (B.length+3) 0,J,J,.map mx,.map my,.map mz,.slice oc' (intCells cf'),.box w 0,J,.int .i64 id,.box (B.length+X.length) 0,J,J,J,J,J,J,J,J,J,J,J,J,.row rb 0 ks.length 1,.int .i64 ks.length,.int .i64 (k:Int),J,J,J,J,J,J,J,J,J,J,J,J,J,J,J,J,J,J,J,J,J,J,J,J,J,J,J,J,J,J,J,J,J,J,J,J,J,J,J,J,J,J,J,J,J,J,J,J,J,J,J,J,J,J,J,J,J,J,J,J,J,J,J,J,J,J,J,J,J,J,J,J,J,J,J] ∧
   s=⟨B++X',L2,c2⟩∧Th p a b B X' mx my mz∧(B++X')[rb]? = some (.cells cs)∧(B++X')[w]? = some (.cells (DC++[.slice oh (kr9 hs),.slice od (dfCells ds),TH]))∧(B++X')[B.length+X.length]? = some (.cells zs)∧(zs=(pickAt p a b id).cells∨(zs=En.zc∧pickAt p a b id=En.zero∧id≠0)) ∧
   cf'=cf++(if agreeE (entE p id) (entE a id) (entE b id) then [] else [id])) ?_ ?_
  ·refine xk9 hmix ?_
   have gx:∀ Z,(B++(X++Z))[mx]? = some (.map (entM p)):=fun Z=>(hT' Z).x
   have gy:∀ Z,(B++(X++Z))[my]? = some (.map (entM a)):=fun Z=>(hT' Z).y
   have gz:∀ Z,(B++(X++Z))[mz]? = some (.map (entM b)):=fun Z=>(hT' Z).z
   have ga:∀ Z:List Box,(B++(X++Z))[rb]? = some (.cells cs):=fun Z=>by rw [← List.append_assoc];exact kx9 hr
   have gw:∀ Z:List Box,(B++(X++Z))[w]? = some (.cells (DC++[.slice oh (kr9 hs),.slice od (dfCells ds),TH])):=fun Z=>by rw [← List.append_assoc];exact kx9 hw2
   have gq:∀ z:Box,(B++(X++[z]))[B.length+X.length]? = some z:=fun z=>by rw [← List.append_assoc,← List.length_append,wd9];rfl
   have hof:∀ B',qa9 oc (intCells cf) 1 ⟨B',L',c'⟩=true:=fun B'=>hO.ld.fits (qb9 _) B' c'
   have hcl:cf.length≤k:=by rw [hcf];exact Nat.le_trans (List.length_filter_le _ _) (by simp;omega)
   have hl1':(cf.length+1≤1000000)=True:=eq_true (by omega)
   simp only [vqM,vt107,zB,gy,gz,l2,l3,y2,z2]
   refine ka9 (t_same _ _ _) ?_
   simp only [vqM]
   refine kb9 (fun h1=>?_) (fun h1=>?_)
   ·have e1:entE a id=entE b id:=of_decide_eq_true h1
    simp only [vqM,h1]
    refine qi9 ⟨X++[Box.cells zy],zy,cf,oc,L',c',hO,by simp only [vke,zB,zA],rfl,hT' _,ga _,gw _,by first | exact gq _ | simp,?_,?_⟩
    ·have:pickAt p a b id=entE a id:=by simp [pickAt,pickE,e1]
     rw [this];exact y5
    ·simp [agreeE,e1]
   ·have e1:¬ entE a id=entE b id:=of_decide_eq_false h1
    simp only [vqM,vt107,gx,gz,l1,l3,x2,z2,h1]
    refine ka9 (t_same _ _ _) ?_
    simp only [vqM]
    refine kb9 (fun h2=>?_) (fun h2=>?_)
    ·have e2:entE p id=entE b id:=of_decide_eq_true h2
     simp only [vqM,h2]
     refine qi9 ⟨X++[Box.cells zy],zy,cf,oc,L',c',hO,by simp only [vke,zB,zA],rfl,hT' _,ga _,gw _,by first | exact gq _ | simp,?_,?_⟩
     ·have:pickAt p a b id=entE a id:=by simp [pickAt,pickE,e2]
      rw [this];exact y5
     ·simp [agreeE,e2]
    ·have e2:¬ entE p id=entE b id:=of_decide_eq_false h2
     simp only [vqM,vt107,zB,gx,gy,l1,l2,x2,y2,h2]
     refine ka9 (t_same _ _ _) ?_
     simp only [vqM]
     refine kb9 (fun h3=>?_) (fun h3=>?_)
     ·have e3:entE p id=entE a id:=of_decide_eq_true h3
      have hzd:zz++List.drop 27 zy=zz:=by rw [List.drop_of_length_le (by omega),List.append_nil]
      simp only [vqM,vt107,zA,gz,l3,gq,z4,y4,h3,hzd]
      refine qi9 ⟨X++[Box.cells zz],zz,cf,oc,L',c',hO,by simp only [vke,zB,zA],rfl,hT' _,ga _,gw _,by first | exact gq _ | simp,?_,?_⟩
      ·have:pickAt p a b id=entE b id:=by
        simp only [pickAt,pickE,e1,e3,decide_false,Bool.or_false,decide_true,if_true]
        simp
       rw [this];exact z5
      ·simp [agreeE,e3]
     ·have e3:¬ entE p id=entE a id:=of_decide_eq_false h3
      simp only [vqM,vt107,zA,zM,zL,h3,hof,qg9,kd9,hl1',qq9]
      refine qi9 ⟨X++[Box.cells zy],zy,cf++[id],_,_,_,hO.stepD hW0,by simp only [vke,zB,zA],rfl,hT' _,ga _,gw _,by first | exact gq _ | simp,?_,?_⟩
      ·have:pickAt p a b id=entE a id:=by simp [pickAt,pickE,e1,e2,e3]
       rw [this];exact y5
      ·simp [agreeE,e1,e2,e3]
  ·rintro e s ⟨X',zs,cf',oc',L2,c2,hO2,he,rfl,hT2',hr2',hw2',hq,hz,hcf'⟩
   have hzl:zs.length=27:=by
    rcases hz with rfl | ⟨rfl,_⟩
    ·exact En.cells_len _
    ·rfl
   have f3:zs[0]? = some (.bool (pickAt p a b id).head):=by
    rcases hz with rfl | ⟨rfl,h,_⟩
    ·rfl
    ·rw [h];rfl
   have f4:(zs.drop 1)[0]? = some (.bool (pickAt p a b id).opn):=by
    rcases hz with rfl | ⟨rfl,h,_⟩
    ·rfl
    ·rw [h];rfl
   have f0:id=0→(zs.drop 19).take 7=(pickAt p a b id).decl.cells∧(zs.drop 26)[0]? = some (.slice .none (intCells (pickAt p a b id).threads)):=by
    intro h
    rcases hz with rfl | ⟨_,_,h0⟩
    ·exact ⟨rfl,rfl⟩
    ·exact absurd h h0
   have f1:(pickAt p a b id).head=true→(zs.drop 2).take 5=(pickAt p a b id).h.cells:=by
    intro h
    rcases hz with rfl | ⟨_,h0,_⟩
    ·rfl
    ·rw [h0] at h;cases h
   have f2:(pickAt p a b id).opn=true→(zs.drop 7).take 12=(pickAt p a b id).d.cells:=by
    intro h
    rcases hz with rfl | ⟨_,h0,_⟩
    ·rfl
    ·rw [h0] at h;cases h
   have hfold:foldE (pickAt p a b) (ks.take (k+1))=addE (foldE (pickAt p a b) (ks.take k)) id (pickAt p a b id):=by rw [hnext,foldE,List.foldl_append];rfl
   have hcf2:cf'=(ks.take (k+1)).filter (fun id=>!agreeE (entE p id) (entE a id) (entE b id)):=by
    rw [hcf',hnext,List.filter_append,← hcf]
    cases hh:agreeE (entE p id) (entE a id) (entE b id) <;> simp [hh]
   clear hz hcf' x1 x2 x3 x4 x5 y1 y2 y3 y4 y5 z1 z2 z3 z4 z5 l1 l2 l3 hcf hT' hT
   generalize pickAt p a b id=E at f0 f1 f2 f3 f4 hfold
   generalize foldE (pickAt p a b) (ks.take k)=o at dc2 th1 hhs hds hfold
   have hwlt:=(List.getElem?_eq_some_iff.1 hw2).1
   have hqw:B.length+X.length≠w:=by simp at hwlt;omega
   clear hw2 hr
   generalize B.length+X.length=q at he hq hqw
   have hwl2:=(List.getElem?_eq_some_iff.1 hw2').1
   have gq2:∀ y,((B++X').set w y)[q]? = some (.cells zs):=fun y=>by rw [List.getElem?_set_ne (fun e=>hqw e.symm)];exact hq
   have gw2:∀ y:Box,((B++X').set w y)[w]? = some y:=fun y=>List.getElem?_set_self hwl2
   have gss:∀ y y':Box,((B++X').set w y).set w y'=(B++X').set w y':=fun y y'=>List.set_set ..
   have gself:(B++X').set w (.cells (DC++[.slice oh (kr9 hs),.slice od (dfCells ds),TH]))=B++X':=by
    refine List.ext_getElem? fun i=>?_
    by_cases h:i=w
    ·subst h;rw [gw2,hw2']
    ·rw [List.getElem?_set_ne (fun e=>h e.symm)]
   rw [← gself]
   refine kc9 [6,9,10,11,12,13,15,16,29,30,31] ?_
   rw [he]
   clear he
   refine awN_joinI (fun e s=>∃ (D1:List D) (T1:D),keep [6,9,10,11,12,13,15,16,29,30,31] e=[J,J,J,J,J,J,.box (B.length+3) 0,J,J,.map mx,.map my,.map mz,.slice oc' (intCells cf'),.box w 0,J,.int .i64 id,.box q 0,J,J,J,J,J,J,J,J,J,J,J,J,.row rb 0 ks.length 1,.int .i64 ks.length,.int .i64 (k:Int),J,J,J,J,J,J,J,J,J,J,J,J,J,J,J,J,J,J,J,J,J,J,J,J,J,J,J,J,J,J,J,J,J,J,J,J,J,J,J,J,J,J,J,J,J,J,J,J,J,J,J,J,J,J,J,J,J,J,J,J,J,J,J,J,J,J,J,J,J,J,J,J,J,J,J]∧s=⟨(B++X').set w (.cells (D1++[.slice oh (kr9 hs),.slice od (dfCells ds),T1])),L2,c2⟩ ∧
    D1.length=7∧D1.map D.plain1=(addE o id E).d.cells∧D1.map D.keep1=D1∧T1.plain1=.slice .none (intCells (addE o id E).threads)∧T1.keep1=T1) ?_ ?_
   ·obtain ⟨d0,d1,d2,d3,d4,d5,d6,rfl⟩:=list7 dc1
    refine xk9 hmix ?_
    simp only [vqM,zB]
    refine kb9 (fun h0=>?_) (fun h0=>?_)
    ·have hid0:id=0:=of_decide_eq_true h0
     obtain ⟨f5,f6⟩:=f0 hid0
     have hdl:E.decl.cells.length=7:=rfl
     have hdk:E.decl.cells.map D.keep1=E.decl.cells:=rfl
     have hda:∀ r,(E.decl.cells++r).drop 7=r:=fun r=>rfl
     simp only [vqM,vt107,zA,zS,zL,zB,gq2,gw2,gss,f5,f6,hzl,hdl,List.length_append]
     exact qi9 ⟨E.decl.cells,.slice .none (intCells E.threads),by simp only [vke,zB,zA],rfl,hdl,by simp only [addE,hid0,if_true];rfl,hdk,by simp only [addE,hid0,if_true];rfl,rfl⟩
    ·have hid0:¬ id=0:=of_decide_eq_false h0
     simp only [vqM]
     refine qi9 ⟨[d0,d1,d2,d3,d4,d5,d6],TH,by simp only [vke,zB,zA],rfl,dc1,by rw [dc2];simp [addE,hid0],dc3,by rw [th1];simp [addE,hid0],th2⟩
   rintro e s ⟨D1,T1,he,rfl,e1,e2,e3,e4,e5⟩
   obtain ⟨d0,d1,d2,d3,d4,d5,d6,rfl⟩:=list7 e1
   have hofh:∀ B',qa9 oh (kr9 hs) 5 ⟨B',L2,c2⟩=true:=fun B'=>hO2.la.fits (hdCells_each _) B' c2
   have hlh:(hs.length+1≤1000000)=True:=eq_true (by omega)
   have hld:(ds.length+1≤1000000)=True:=eq_true (by omega)
   refine kc9 [6,9,10,11,12,13,15,16,29,30,31] ?_
   rw [he]
   clear he
   refine awN_joinI (fun e s=>∃ (oh1:Own) (L3:List Nat) (c3:Nat),Own3 L c 5 12 1 oh1 od oc' L3 c3∧keep [6,9,10,11,12,13,15,16,29,30,31] e=[J,J,J,J,J,J,.box (B.length+3) 0,J,J,.map mx,.map my,.map mz,.slice oc' (intCells cf'),.box w 0,J,.int .i64 id,.box q 0,J,J,J,J,J,J,J,J,J,J,J,J,.row rb 0 ks.length 1,.int .i64 ks.length,.int .i64 (k:Int),J,J,J,J,J,J,J,J,J,J,J,J,J,J,J,J,J,J,J,J,J,J,J,J,J,J,J,J,J,J,J,J,J,J,J,J,J,J,J,J,J,J,J,J,J,J,J,J,J,J,J,J,J,J,J,J,J,J,J,J,J,J,J,J,J,J,J,J,J,J,J,J,J,J,J]∧s=⟨(B++X').set w (.cells ([d0,d1,d2,d3,d4,d5,d6]++[.slice oh1 (kr9 (addE o id E).heads),.slice od (dfCells ds),T1])),L3,c3⟩) ?_ ?_
   ·refine xk9 hmix ?_
    simp only [vqM,vt107,zA,zB,gq2,f3]
    refine kb9 (fun h0=>?_) (fun h0=>?_)
    ·have f5:=f1 h0
     have hhn:hs++[E.h]=(addE o id E).heads:=by simp [addE,h0,hhs]
     simp only [vqM,vt107,zA,zS,zM,zL,gq2,gw2,gss,f5,hzl,hofh,qg9,ki9,hlh,wt9]
     rw [hhn]
     exact qi9 ⟨_,_,_,hO2.step hW0,by simp only [vke,zB,zA],rfl⟩
    ·have hhn:hs=(addE o id E).heads:=by simp [addE,h0,hhs]
     simp only [vqM]
     exact qi9 ⟨_,_,_,hO2,by simp only [vke,zB,zA],by rw [hhn]⟩
   rintro e s ⟨oh1,L3,c3,hO3,he,rfl⟩
   have hofd:∀ B',qa9 od (dfCells ds) 12 ⟨B',L3,c3⟩=true:=fun B'=>hO3.lb.fits (xe9 _) B' c3
   have hX':∀ y,(B++X').set w y=B++X'.set (w - B.length) y:=fun y=>List.set_append_right _ _ (by omega)
   have gx:∀ i,i≠w→∀ y,((B++X').set w y)[i]? = (B++X')[i]?:=fun i hi y=>List.getElem?_set_ne (fun e=>hi e.symm)
   have hTn:∀ y,Th p a b B (X'.set (w - B.length) (.cells y)) mx my mz:=fun y=>by
    have nm:∀ (m:Nat) (es:List (D × D)),(B++X')[m]? = some (.map es)→m≠w:=fun m es h e=>by rw [e,hw2'] at h;cases h
    exact ⟨by rw [← hX',gx _ (by omega)];exact hT2'.r,by rw [← hX',gx _ (nm _ _ hT2'.x)];exact hT2'.x,by rw [← hX',gx _ (nm _ _ hT2'.y)];exact hT2'.y,by rw [← hX',gx _ (nm _ _ hT2'.z)];exact hT2'.z⟩
   have hlen1:(addE o id E).heads.length≤k+1:=by
    have:(addE o id E).heads=if E.head then o.heads++[E.h] else o.heads:=rfl
    rw [this]
    split <;> simp <;> (rw [← hhs];omega)
   refine kc9 [6,9,10,11,12,13,15,16,29,30,31] ?_
   rw [he]
   clear he
   refine xk9 hmix ?_
   simp only [vqM,vt107,zA,zB,gq2,f4]
   refine kb9 (fun h0=>?_) (fun h0=>?_)
   ·have f5:=f2 h0
    have hdn:ds++[E.d]=(addE o id E).defs:=by simp [addE,h0,hds]
    simp only [vqM,vt107,zA,zS,zM,zL,gq2,gw2,gss,f5,hzl,hofd,qg9,kg9,hld,qc9]
    rw [kf9 (by omega)]
    refine kc9 [6,9,10,11,12,13,29,30,31] ?_
    simp only [vke,zB,zA]
    refine ih _ _ ⟨X'.set (w - B.length) (.cells ([d0,d1,d2,d3,d4,d5,d6]++[.slice oh1 (kr9 (addE o id E).heads),.slice (.lab c3 12) (dfCells (ds++[E.d])),T1])),(addE o id E).heads,ds++[E.d],cf',oh1,.lab c3 12,oc',_,_,[d0,d1,d2,d3,d4,d5,d6],T1,hO3.stepB hW0,rfl,by (first | (rw [← hX'];done) | (rw [← hX'];rfl)),hTn _,by rw [← hX',gx _ (by omega)];exact hr2',by rw [← hX',gw2],rfl,by rw [hfold];exact e2,e3,by rw [hfold];exact e4,e5,by rw [hfold],by rw [hfold,← hdn],hcf2,hlen1,by simp;omega⟩
   ·have hdn:ds=(addE o id E).defs:=by simp [addE,h0,hds]
    simp only [vqM]
    rw [kf9 (by omega)]
    refine kc9 [6,9,10,11,12,13,29,30,31] ?_
    simp only [vke,zB,zA]
    refine ih _ _ ⟨X'.set (w - B.length) (.cells ([d0,d1,d2,d3,d4,d5,d6]++[.slice oh1 (kr9 (addE o id E).heads),.slice od (dfCells ds),T1])),(addE o id E).heads,ds,cf',oh1,od,oc',L3,c3,[d0,d1,d2,d3,d4,d5,d6],T1,hO3,rfl,by (first | (rw [← hX'];done) | (rw [← hX'];rfl)),hTn _,by rw [← hX',gx _ (by omega)];exact hr2',by rw [← hX',gw2],rfl,by rw [hfold];exact e2,e3,by rw [hfold];exact e4,e5,by rw [hfold],by rw [hfold,← hdn],hcf2,hlen1,by omega⟩
 ·rintro e s ⟨X,hs,ds,cf,oh,od,oc,L',c',DC,TH,hO,rfl,rfl,hT,hr,hw2,dc1,dc2,dc3,th1,th2,hhs,hds,hcf,hln1,hln2⟩
  obtain ⟨d0,d1,d2,d3,d4,d5,d6,rfl⟩:=list7 dc1
  have hklt:((ks.length:Int)<(ks.length:Int))=False:=by simp
  rw [List.take_length] at dc2 th1 hhs hds hcf
  have hm:foldE (pickAt p a b) ks=wu9 p a b:=by rw [wu9,hKS]
  have hc:cf=conflS p a b:=by rw [hcf,conflS,hKS]
  rw [hm] at dc2 th1 hhs hds
  have hrl:=(List.getElem?_eq_some_iff.1 hT.r).1
  have hz:(10≤Pg.zc.length)=True:=by simp [Pg.zc]
  have hz2:List.drop 10 Pg.zc=[]:=rfl
  have hset3:∀ y,(B++X).set (B.length+3) y=B++X.set 3 y:=fun y=>by rw [List.set_append_right _ _ (by omega),Nat.add_sub_cancel_left]
  have hx3:3<X.length:=by simp at hrl;omega
  have hget3:∀ y,(B++X.set 3 y)[B.length+3]? = some y:=fun y=>by rw [wi9,List.getElem?_set_self hx3]
  have hbd:∀ r,Bd 0 0 (threeD r):=fun r=>.tup _ fun i hi=>by
   match i,hi with
   | 0,_=>exact kv9 (Pg.bd _)
   | 1,_=>exact xx9 _
   | 2,_=>exact .int _ _
  simp only [vqM,vt107,zB,hklt,decide_false,kd9]
  refine kb9 (fun h0=>?_) (fun h0=>?_)
  ·have hpos:(conflS p a b).length > 0:=by have:=of_decide_eq_true h0;rw [← hc];omega
   have h3:threeS p a b=(Pg.zero,conflS p a b,270):=if_pos hpos
   simp only [vqM,vt107,zA,zB,hT.r,hz,hz2,hset3]
   refine ke9 (.inr rfl) ?_ (hbd _) hO.sub hO.le
   simp only [vqM,vt107,zA,hget3]
   rw [h3,← hc]
   rfl
  ·have hpos:¬ (conflS p a b).length > 0:=by have:=of_decide_eq_false h0;rw [← hc];omega
   have hpl:([d0,d1,d2,d3,d4,d5,d6]++[D.slice oh (kr9 hs),.slice od (dfCells ds),TH]).map D.plain1=(wu9 p a b).cells:=by
    show List.map D.plain1 [d0,d1,d2,d3,d4,d5,d6]++[D.slice .none (kr9 hs),.slice .none (dfCells ds),TH.plain1]=_
    rw [dc2,th1,hhs,hds]
    rfl
   have hpl2:[d0.plain1,d1.plain1,d2.plain1,d3.plain1,d4.plain1,d5.plain1,d6.plain1,D.slice .none (kr9 hs),.slice .none (dfCells ds),TH.plain1]=(wu9 p a b).cells:=hpl
   have hpp:∀ d:D,d.plain1.plain1=d.plain1:=fun d=>by cases d <;> rfl
   simp only [vqM,vt107,zA,zB,hw2,hpl2]
   refine ka9 (t_Program _ PO _) ?_
   simp only [vqM,zB]
   refine kb9 (fun h1=>?_) (fun h1=>?_)
   ·have h2:=of_decide_eq_true h1
    have h3:threeS p a b=(Pg.zero,[],wf9 (wu9 p a b)):=by rw [threeS,if_neg hpos,if_pos h2]
    simp only [vqM,vt107,zA,zB,hT.r,hz,hz2,hset3]
    refine ke9 (.inr rfl) ?_ (hbd _) hO.sub hO.le
    simp only [vqM,vt107,zA,hget3]
    rw [h3]
    rfl
   ·have h2:=of_decide_eq_false h1
    have h3:threeS p a b=(wu9 p a b,[],0):=by rw [threeS,if_neg hpos,if_neg h2]
    simp only [vqM,vt107,zA,zB,hT.r,hz,hz2,hw2,hset3]
    refine ke9 (.inr rfl) ?_ (hbd _) hO.sub hO.le
    simp only [vqM,vt107,hget3,hpl2]
    rw [h3]
    rfl
 ·exact ⟨X3,[],[],[],.nil,.nil,.nil,L,c,[.slice .nil [],.slice .nil [],.slice .nil [],.slice .nil [],.int .i64 0,.int .i64 0,.int .i64 0],.slice .nil [],.start hW0 _ _ _,rfl,rfl,hT2,hr2,hb2,rfl,rfl,rfl,rfl,rfl,rfl,rfl,rfl,Nat.le_refl _,Nat.le_refl _⟩
theorem Qu.eqN_iff (a b:Qu):(a.cap=b.cap∧a.r.lo=b.r.lo∧a.r.hi=b.r.hi∧a.r.mask=b.r.mask)↔a=b:=by
 obtain ⟨_,⟨_,_,_⟩⟩:=a;obtain ⟨_,⟨_,_,_⟩⟩:=b;simp
def preDf (x y:Df):Bool:=!decide (headOf x=headOf y) || (decide (x.site≠y.site) || (!(x.name.toList == y.name.toList) || (decide (x.vars≠y.vars) || (decide (x.refs≠y.refs) || (decide (x.budget≠y.budget) || (decide ((x.arrays.length:Int)≠y.arrays.length) || !decide (x.body=y.body)))))))
theorem t_SameDefF (x y:Df) (s:St):Spec Tryz.prog 22 [.agg x.cells,.agg y.cells] s (.bool (decide (x=y))) s:=by
 refine Spec.small fun hsm=>?_
 have hlen:(qr9 x.arrays).length≤281474976710656:=(hsm _ (.head _)).sl (o:=.none) (by cases x;simp [Df.cells])
 rw [kq9] at hlen
 clear hsm
 obtain ⟨B,L,c⟩:=s
 have hes:evStr .neq x.name y.name=some (.bool (!(x.name.toList == y.name.toList))):=rfl
 refine Spec.introN [(1,.cutT [false,true,false,true,true,false,false,false,false,false,false,false,false,false,false,false,false,false,false,false,false,false,false,false,false,false,false,false,false,false,false,false,false,false,false,false,false,false,false,false,false,false,false,false,false,false,false,false,false,false,false,false,false,false,false,true,false,false] [(2,0)])] Tryz.func22 rfl (by decide) hmix (by kernel_rfl) [ResultVar.tmp 4] 82 rfl rfl ?_
 simp only [vqM,zA,zS,zB]
 refine qe9 hmix [2,3,63] [J,J,.box B.length 0,.box (B.length+1) 0,J,J,J,J,J,J,J,J,J,J,J,J,J,J,J,J,J,J,J,J,J,J,J,J,J,J,J,J,J,J,J,J,J,J,J,J,J,J,J,J,J,J,J,J,J,J,J,J,J,J,J,J,J,J,J,J,J,J,J,.bool (preDf x y),J,J,J,J,J,J,J,J,J,J,J,J,J,J,J,J,J,J] (fun s=>s=⟨B++[.cells x.cells,.cells y.cells],L,c⟩) ?_ ?_
 ·simp only [vqM,vt108]
  repeat' (first
   | ((with_reducible refine kh9 ?_);refine ka9 (t_HeadR _ _) ?_;simp only [vqM,vt108])
   | ((with_reducible refine kh9 ?_);refine ka9 (t_SameHeadF _ _ _) ?_;simp only [vqM])
   | ((with_reducible refine kh9 ?_);refine ka9 (t_SameStmtsF _ _ _) ?_;simp only [vqM,vt108])
   | (with_reducible refine kb9 (fun hc=>?_) (fun hc=>?_) <;> simp only [vqM,vt108,hc,zA,kq9,hes])
   | ((with_reducible refine is_q ?_);refine kj9 ⟨?_,rfl⟩ <;> simp only [vke,zB,zA] <;> (first | (simp only [preDf, *,Bool.true_or,Bool.false_or,Bool.or_true];done) | (simp_all [preDf];done) | (simp_all [preDf];omega))))
 rintro s rfl
 simp only [vqM]
 refine kb9 (fun hc=>?_) (fun hc=>?_)
 ·simp only [vqM,zB]
  refine ke9 (.inr rfl) ?_ (.bool _) (fun _ h=>h) (Nat.le_refl _)
  have:x≠y:=by rintro rfl;simp [preDf] at hc
  simp only [vqM]
  rw [decide_eq_false this]
 simp only [preDf,Bool.or_eq_false_iff,Bool.not_eq_false',decide_eq_false_iff_not,decide_eq_true_eq,ne_eq,Classical.not_not] at hc
 obtain ⟨q1,q2,q3,q4,q5,q6,q7,q8⟩:=hc
 have hll:x.arrays.length=y.arrays.length:=by omega
 simp only [vqM,zB]
 refine kc9 [2,3,5] ?_
 simp only [vke,zB,zA]
 refine km9 hmix x.arrays.length (fun k e s=>x.arrays.take k=y.arrays.take k∧e=[J,J,.box B.length 0,.box (B.length+1) 0,J,.int .i64 (k:Int),J,J,J,J,J,J,J,J,J,J,J,J,J,J,J,J,J,J,J,J,J,J,J,J,J,J,J,J,J,J,J,J,J,J,J,J,J,J,J,J,J,J,J,J,J,J,J,J,J,J,J,J,J,J,J,J,J,J,J,J,J,J,J,J,J,J,J,J,J,J,J,J,J,J,J,J]∧s=⟨B++[.cells x.cells,.cells y.cells],L,c⟩) ?_ ?_ 0 _ _ (Nat.zero_le _) ⟨rfl,rfl,rfl⟩
 ·rintro k e s hk ⟨hI,rfl,rfl⟩ ihl
  have hkm:k<y.arrays.length:=by omega
  have hx:x.arrays[k]? = some x.arrays[k]:=List.getElem?_eq_getElem hk
  have hy:y.arrays[k]? = some y.arrays[k]:=List.getElem?_eq_getElem hkm
  have hg:(qr9 x.arrays)[k]? = some (x.arrays[k].cells):=by simp [qr9,hx]
  have hh:(qr9 y.arrays)[k]? = some (y.arrays[k].cells):=by simp [qr9,hy]
  have hklt:((k:Int)<(x.arrays.length:Int))=True:=by simp;exact hk
  generalize x.arrays[k]=xx at hx hg
  generalize y.arrays[k]=yy at hy hh
  simp only [vqM,vt108,zA,zB,kq9,hklt,decide_true,natle0,Int.toNat_natCast,hg,hh]
  refine kb9 (fun hc=>?_) (fun hc=>?_)
  ·simp only [vqM,zB]
   refine ke9 (.inr rfl) ?_ (.bool _) (fun _ h=>h) (Nat.le_refl _)
   have:x≠y:=by
    rintro rfl
    rw [hx] at hy;cases hy
    simp at hc
   simp only [vqM]
   rw [decide_eq_false this]
  ·simp only [vqM]
   rw [kf9 (by omega)]
   refine kc9 [2,3,5] ?_
   simp only [vke,zB,zA]
   have hc':xx=yy:=(Ar.eq_iff xx yy).1 (by simpa using hc)
   subst hc'
   refine ihl _ _ ⟨?_,rfl,rfl⟩
   rw [List.take_add_one,List.take_add_one,hx,hy,hI]
 ·rintro e s ⟨hI,rfl,rfl⟩
  have hklt:((x.arrays.length:Int)<(x.arrays.length:Int))=False:=by simp
  rw [List.take_length,hll,List.take_length] at hI
  simp only [vqM,vt108,zA,zB,kq9,hklt,decide_false]
  refine ke9 (.inr rfl) ?_ (.bool _) (fun _ h=>h) (Nat.le_refl _)
  simp only [vqM]
  have:x=y:=by
   have h:=seDf_eq x y
   have q0:hdOf x=hdOf y:=q1
   rw [seDf,q0,q2,q3,q4,q5,q6,hI,q8] at h
   simpa using h
  rw [decide_eq_true this]
def preDc (x y:Dc):Bool:=!decide (x.globals=y.globals) || (!decide (x.classes=y.classes) || (!decide (x.sinks=y.sinks) || (decide ((x.queues.length:Int)≠y.queues.length) || (decide (x.locks≠y.locks) || (decide (x.parts≠y.parts) || decide (x.firms≠y.firms))))))
theorem t_SameDeclF (x y:Dc) (s:St):Spec Tryz.prog 36 [.agg x.cells,.agg y.cells] s (.bool (decide (x=y))) s:=by
 refine Spec.small fun hsm=>?_
 have hlen:(qz9 x.queues).length≤281474976710656:=(hsm _ (.head _)).sl (o:=.none) (by cases x;simp [Dc.cells])
 rw [qh9] at hlen
 clear hsm
 obtain ⟨B,L,c⟩:=s
 refine Spec.introN [(1,.cut)] Tryz.func36 rfl (by decide) hmix (by kernel_rfl) [ResultVar.tmp 4] 76 rfl rfl ?_
 simp only [vqM,zA,zS,zB]
 refine qe9 hmix [2,3,57] [J,J,.box B.length 0,.box (B.length+1) 0,J,J,J,J,J,J,J,J,J,J,J,J,J,J,J,J,J,J,J,J,J,J,J,J,J,J,J,J,J,J,J,J,J,J,J,J,J,J,J,J,J,J,J,J,J,J,J,J,J,J,J,J,J,.bool (preDc x y),J,J,J,J,J,J,J,J,J,J,J,J,J,J,J,J,J,J] (fun s=>s=⟨B++[.cells x.cells,.cells y.cells],L,c⟩) ?_ ?_
 ·simp only [vqM,vt79,zA]
  repeat' (first
   | ((with_reducible refine kh9 ?_);refine ka9 (t_sameRangesF _ _ _) ?_;simp only [vqM])
   | ((with_reducible refine kh9 ?_);refine ka9 (yb9 _ _ _) ?_;simp only [vqM])
   | (with_reducible refine kb9 (fun hc=>?_) (fun hc=>?_) <;> simp only [vqM,vt79,hc,zA,qh9])
   | ((with_reducible refine is_q ?_);refine kj9 ⟨?_,rfl⟩ <;> simp only [vke,zB,zA] <;> (first | (simp only [preDc, *,Bool.true_or,Bool.false_or,Bool.or_true];done) | (simp_all [preDc];done) | (simp_all [preDc];omega))))
 rintro s rfl
 simp only [vqM]
 refine kb9 (fun hc=>?_) (fun hc=>?_)
 ·simp only [vqM,zB]
  refine ke9 (.inr rfl) ?_ (.bool _) (fun _ h=>h) (Nat.le_refl _)
  have:x≠y:=by rintro rfl;simp [preDc] at hc
  simp only [vqM]
  rw [decide_eq_false this]
 simp only [preDc,Bool.or_eq_false_iff,Bool.not_eq_false',decide_eq_false_iff_not,decide_eq_true_eq,ne_eq,Classical.not_not] at hc
 obtain ⟨q1,q2,q3,q4,q5,q6,q7⟩:=hc
 have hll:x.queues.length=y.queues.length:=by omega
 simp only [vqM,zB]
 refine kc9 [2,3,5] ?_
 simp only [vke,zB,zA]
 refine km9 hmix x.queues.length (fun k e s=>x.queues.take k=y.queues.take k∧e=[J,J,.box B.length 0,.box (B.length+1) 0,J,.int .i64 (k:Int),J,J,J,J,J,J,J,J,J,J,J,J,J,J,J,J,J,J,J,J,J,J,J,J,J,J,J,J,J,J,J,J,J,J,J,J,J,J,J,J,J,J,J,J,J,J,J,J,J,J,J,J,J,J,J,J,J,J,J,J,J,J,J,J,J,J,J,J,J,J]∧s=⟨B++[.cells x.cells,.cells y.cells],L,c⟩) ?_ ?_ 0 _ _ (Nat.zero_le _) ⟨rfl,rfl,rfl⟩
 ·rintro k e s hk ⟨hI,rfl,rfl⟩ ihl
  have hkm:k<y.queues.length:=by omega
  have hx:x.queues[k]? = some x.queues[k]:=List.getElem?_eq_getElem hk
  have hy:y.queues[k]? = some y.queues[k]:=List.getElem?_eq_getElem hkm
  have hg:(qz9 x.queues)[k]? = some (x.queues[k].cells):=by simp [qz9,hx]
  have hh:(qz9 y.queues)[k]? = some (y.queues[k].cells):=by simp [qz9,hy]
  have hklt:((k:Int)<(x.queues.length:Int))=True:=by simp;exact hk
  generalize x.queues[k]=xx at hx hg
  generalize y.queues[k]=yy at hy hh
  simp only [vqM,vt79,zA,zB,qh9,hklt,decide_true,natle0,Int.toNat_natCast,hg,hh]
  refine kb9 (fun hc=>?_) (fun hc=>?_)
  ·simp only [vqM,zB]
   refine ke9 (.inr rfl) ?_ (.bool _) (fun _ h=>h) (Nat.le_refl _)
   have:x≠y:=by
    rintro rfl
    rw [hx] at hy;cases hy
    simp at hc
   simp only [vqM]
   rw [decide_eq_false this]
  ·simp only [vqM]
   rw [kf9 (by omega)]
   refine kc9 [2,3,5] ?_
   simp only [vke,zB,zA]
   have hc':xx=yy:=(Qu.eqN_iff xx yy).1 (by simpa using hc)
   subst hc'
   refine ihl _ _ ⟨?_,rfl,rfl⟩
   rw [List.take_add_one,List.take_add_one,hx,hy,hI]
 ·rintro e s ⟨hI,rfl,rfl⟩
  have hklt:((x.queues.length:Int)<(x.queues.length:Int))=False:=by simp
  rw [List.take_length,hll,List.take_length] at hI
  simp only [vqM,vt79,zA,zB,qh9,hklt,decide_false]
  refine ke9 (.inr rfl) ?_ (.bool _) (fun _ h=>h) (Nat.le_refl _)
  simp only [vqM]
  have:x=y:=(Dc.eq_iff x y).1 ⟨q1,q2,hI,q3,q5,q6,q7⟩
  rw [decide_eq_true this]
theorem Pg.eq_iffN (a b:Pg):(a.d=b.d∧a.heads=b.heads∧a.defs=b.defs∧a.threads=b.threads)↔a=b:=by cases a;cases b;simp
instance:DecidableEq Pg:=fun a b=>decidable_of_iff _ (Pg.eq_iffN a b)
def prePg (x y:Pg):Bool:=!decide (x.d=y.d) || (decide ((x.heads.length:Int)≠y.heads.length) || (decide ((x.defs.length:Int)≠y.defs.length) || !decide (x.threads=y.threads)))
theorem t_SameProgramF (x y:Pg) (s:St):Spec Tryz.prog 18 [.agg x.cells,.agg y.cells] s (.bool (decide (x=y))) s:=by
 refine Spec.small fun hsm=>?_
 have hlen:(kr9 x.heads).length≤281474976710656:=(hsm _ (.head _)).sl (o:=.none) (by cases x;simp [Pg.cells,Dc.cells])
 rw [ki9] at hlen
 have hlen2:(dfCells x.defs).length≤281474976710656:=(hsm _ (.head _)).sl (o:=.none) (by cases x;simp [Pg.cells,Dc.cells])
 rw [kg9] at hlen2
 clear hsm
 obtain ⟨B,L,c⟩:=s
 refine Spec.introN [(1,.cut)] Tryz.func18 rfl (by decide) hmix (by kernel_rfl) [ResultVar.tmp 4] 77 rfl rfl ?_
 simp only [vqM,zA,zS,zB]
 refine qe9 hmix [2,3,38] [J,J,.box B.length 0,.box (B.length+1) 0,J,J,J,J,J,J,J,J,J,J,J,J,J,J,J,J,J,J,J,J,J,J,J,J,J,J,J,J,J,J,J,J,J,J,.bool (prePg x y),J,J,J,J,J,J,J,J,J,J,J,J,J,J,J,J,J,J,J,J,J,J,J,J,J,J,J,J,J,J,J,J,J,J,J,J,J,J] (fun s=>s=⟨B++[.cells x.cells,.cells y.cells],L,c⟩) ?_ ?_
 ·simp only [vqM,vt109,zA,zL]
  repeat' (first
   | ((with_reducible refine kh9 ?_);refine ka9 (t_SameDeclF _ _ _) ?_;simp only [vqM])
   | ((with_reducible refine kh9 ?_);refine ka9 (yb9 _ _ _) ?_;simp only [vqM])
   | (with_reducible refine kb9 (fun hc=>?_) (fun hc=>?_) <;> simp only [vqM,vt109,hc,zA,ki9,kg9])
   | ((with_reducible refine is_q ?_);refine kj9 ⟨?_,rfl⟩ <;> simp only [vke,zB,zA] <;> (first | (simp only [prePg, *,Bool.true_or,Bool.false_or,Bool.or_true];done) | (simp_all [prePg];done) | (simp_all [prePg];omega))))
 rintro s rfl
 simp only [vqM]
 refine kb9 (fun hc=>?_) (fun hc=>?_)
 ·simp only [vqM,zB]
  refine ke9 (.inr rfl) ?_ (.bool _) (fun _ h=>h) (Nat.le_refl _)
  have:x≠y:=by rintro rfl;simp [prePg] at hc
  simp only [vqM]
  rw [decide_eq_false this]
 simp only [prePg,Bool.or_eq_false_iff,Bool.not_eq_false',decide_eq_false_iff_not,decide_eq_true_eq,ne_eq,Classical.not_not] at hc
 obtain ⟨q1,q2,q3,q4⟩:=hc
 have hll:x.heads.length=y.heads.length:=by omega
 have hll2:x.defs.length=y.defs.length:=by omega
 simp only [vqM,zB]
 refine kc9 [2,3,5] ?_
 simp only [vke,zB,zA]
 refine km9 hmix x.heads.length (fun k e s=>x.heads.take k=y.heads.take k∧e=[J,J,.box B.length 0,.box (B.length+1) 0,J,.int .i64 (k:Int),J,J,J,J,J,J,J,J,J,J,J,J,J,J,J,J,J,J,J,J,J,J,J,J,J,J,J,J,J,J,J,J,J,J,J,J,J,J,J,J,J,J,J,J,J,J,J,J,J,J,J,J,J,J,J,J,J,J,J,J,J,J,J,J,J,J,J,J,J,J,J]∧s=⟨B++[.cells x.cells,.cells y.cells],L,c⟩) ?_ ?_ 0 _ _ (Nat.zero_le _) ⟨rfl,rfl,rfl⟩
 ·rintro k e s hk ⟨hI,rfl,rfl⟩ ihl
  have hkm:k<y.heads.length:=by omega
  have hx:x.heads[k]? = some x.heads[k]:=List.getElem?_eq_getElem hk
  have hy:y.heads[k]? = some y.heads[k]:=List.getElem?_eq_getElem hkm
  have hg:(kr9 x.heads)[k]? = some (x.heads[k].cells):=by simp [kr9,hx]
  have hh:(kr9 y.heads)[k]? = some (y.heads[k].cells):=by simp [kr9,hy]
  have hklt:((k:Int)<(x.heads.length:Int))=True:=by simp;exact hk
  generalize x.heads[k]=xx at hx hg
  generalize y.heads[k]=yy at hy hh
  simp only [vqM,vt109,zA,zB,ki9,hklt,decide_true,natle0,Int.toNat_natCast,hg,hh]
  refine ka9 (t_SameHeadF xx yy _) ?_
  simp only [vqM]
  refine kb9 (fun hc=>?_) (fun hc=>?_)
  ·simp only [vqM,zB]
   refine ke9 (.inr rfl) ?_ (.bool _) (fun _ h=>h) (Nat.le_refl _)
   have:x≠y:=by
    rintro rfl
    rw [hx] at hy;cases hy
    simp at hc
   simp only [vqM]
   rw [decide_eq_false this]
  ·simp only [vqM]
   rw [kf9 (by omega)]
   refine kc9 [2,3,5] ?_
   simp only [vke,zB,zA]
   have hc':xx=yy:=by simpa using hc
   subst hc'
   refine ihl _ _ ⟨?_,rfl,rfl⟩
   rw [List.take_add_one,List.take_add_one,hx,hy,hI]
 ·rintro e s ⟨hI,rfl,rfl⟩
  have hklt:((x.heads.length:Int)<(x.heads.length:Int))=False:=by simp
  rw [List.take_length,hll,List.take_length] at hI
  simp only [vqM,vt109,zA,zB,ki9,hklt,decide_false]
  have hIa:=hI
  clear hI
  refine kc9 [2,3,6] ?_
  simp only [vke,zB,zA]
  refine km9 hmix x.defs.length (fun k e s=>x.defs.take k=y.defs.take k∧e=[J,J,.box B.length 0,.box (B.length+1) 0,J,J,.int .i64 (k:Int),J,J,J,J,J,J,J,J,J,J,J,J,J,J,J,J,J,J,J,J,J,J,J,J,J,J,J,J,J,J,J,J,J,J,J,J,J,J,J,J,J,J,J,J,J,J,J,J,J,J,J,J,J,J,J,J,J,J,J,J,J,J,J,J,J,J,J,J,J,J]∧s=⟨B++[.cells x.cells,.cells y.cells],L,c⟩) ?_ ?_ 0 _ _ (Nat.zero_le _) ⟨rfl,rfl,rfl⟩
  ·rintro k e s hk ⟨hI,rfl,rfl⟩ ihl
   have hkm:k<y.defs.length:=by omega
   have hx:x.defs[k]? = some x.defs[k]:=List.getElem?_eq_getElem hk
   have hy:y.defs[k]? = some y.defs[k]:=List.getElem?_eq_getElem hkm
   have hg:(dfCells x.defs)[k]? = some (x.defs[k].cells):=by simp [dfCells,hx]
   have hh:(dfCells y.defs)[k]? = some (y.defs[k].cells):=by simp [dfCells,hy]
   have hklt:((k:Int)<(x.defs.length:Int))=True:=by simp;exact hk
   generalize x.defs[k]=xx at hx hg
   generalize y.defs[k]=yy at hy hh
   simp only [vqM,vt109,zA,zB,kg9,hklt,decide_true,natle0,Int.toNat_natCast,hg,hh]
   refine ka9 (t_SameDefF xx yy _) ?_
   simp only [vqM]
   refine kb9 (fun hc=>?_) (fun hc=>?_)
   ·simp only [vqM,zB]
    refine ke9 (.inr rfl) ?_ (.bool _) (fun _ h=>h) (Nat.le_refl _)
    have:x≠y:=by
     rintro rfl
     rw [hx] at hy;cases hy
     simp at hc
    simp only [vqM]
    rw [decide_eq_false this]
   ·simp only [vqM]
    rw [kf9 (by omega)]
    refine kc9 [2,3,6] ?_
    simp only [vke,zB,zA]
    have hc':xx=yy:=by simpa using hc
    subst hc'
    refine ihl _ _ ⟨?_,rfl,rfl⟩
    rw [List.take_add_one,List.take_add_one,hx,hy,hI]
  ·rintro e s ⟨hI,rfl,rfl⟩
   have hklt:((x.defs.length:Int)<(x.defs.length:Int))=False:=by simp
   rw [List.take_length,hll2,List.take_length] at hI
   simp only [vqM,vt109,zA,zB,kg9,hklt,decide_false]
   refine ke9 (.inr rfl) ?_ (.bool _) (fun _ h=>h) (Nat.le_refl _)
   simp only [vqM]
   have:x=y:=Pg.ext4 q1 hIa hI q4
   rw [decide_eq_true this]
def Hded (p:Pg):Prop:=∀ id,headS p id=none→findS p id=none
def ofR (p:Pg) (id:Int):En:=if id=0 then ⟨false,false,Hd.zero,Df.zero,p.d,p.threads⟩ else ⟨(headS p id).isSome,(findS p id).isSome,(headS p id).getD Hd.zero,(findS p id).getD Df.zero,Dc.zero,[]⟩
theorem ofR_eq {p:Pg} (H:Hded p) (id:Int):ofR p id=entE p id:=by
 unfold ofR entE
 split
 ·rfl
 ·cases h:headS p id with
  | none=>rw [H id h];rfl
  | some x =>
   have hid:x.id=id:=(headS_id h).2
   simp only [openE,hid,Option.isSome_some,Option.getD_some]
theorem En.bd {nb nl:Nat} (x:En):Bd nb nl (.agg x.cells):=kv9 fun d hd=>by
 simp only [En.cells,List.mem_append,List.mem_cons,List.not_mem_nil,or_false] at hd
 rcases hd with (rfl | rfl) | hd | hd | hd | rfl
 ·exact .bool _
 ·exact .bool _
 ·exact Hd.bd _ d hd
 ·exact Df.bd _ d hd
 ·exact Dc.bd _ d hd
 ·exact xx9 _
def headedC (p:Pg) (id:Int):List D:=((headS p id).getD Hd.zero).cells++[.bool (headS p id).isSome]
def foundC (p:Pg) (id:Int):List D:=((findS p id).getD Df.zero).cells++[.bool (findS p id).isSome]
theorem df_take12R (h:Df) (d:D):(h.cells++[d]).take 12=h.cells:=rfl
def Of2 (p:Pg) (id:Int) (B:List Box) (L:List Nat) (c:Nat) (e:List D) (s:St):Prop :=
 ∃ i j X,e=[.agg p.cells,.int .i64 id,.box B.length 0,J,.box (B.length+1) 0,.box i 0,.box j 0,.int .i64 id,.bool (decide (id=0)),J,J,J,J,J,.agg p.cells,.int .i64 id,.agg (headedC p id),.agg p.cells,.int .i64 id,.agg (foundC p id),J,J,J,J,J,J,J,J,J]∧s=⟨B++.cells p.cells::.cells En.zc::X,L,c⟩∧(B++.cells p.cells::.cells En.zc::X)[i]? = some (.cells (headedC p id))∧(B++.cells p.cells::.cells En.zc::X)[j]? = some (.cells (foundC p id))
theorem of2_mk {p:Pg} {id:Int} {B X:List Box} {L:List Nat} {c i j:Nat} {e:List D} {s:St} (h1:e=[.agg p.cells,.int .i64 id,.box B.length 0,J,.box (B.length+1) 0,.box i 0,.box j 0,.int .i64 id,.bool (decide (id=0)),J,J,J,J,J,.agg p.cells,.int .i64 id,.agg (headedC p id),.agg p.cells,.int .i64 id,.agg (foundC p id),J,J,J,J,J,J,J,J,J]) (h2:s=⟨B++.cells p.cells::.cells En.zc::X,L,c⟩) (h3:(B++.cells p.cells::.cells En.zc::X)[i]? = some (.cells (headedC p id))) (h4:(B++.cells p.cells::.cells En.zc::X)[j]? = some (.cells (foundC p id))):Of2 p id B L c e s :=
 ⟨i,j,X,h1,h2,h3,h4⟩
theorem t_ofR (p:Pg) (hl:p.defs.length<1000000) (id:Int) (s:St):Spec Tryz.prog 28 [.agg p.cells,.int .i64 id] s (.agg (ofR p id).cells) s:=by
 obtain ⟨B,L,c⟩:=s
 refine Spec.introN [(3,.stop)] Tryz.func28 rfl (by decide) hmix (by kernel_rfl) [ResultVar.cell 4 71] 29 rfl rfl ?_
 simp only [vqM,vt110,zA,zS,zB]
 refine kb9 (fun hc=>?_) (fun hc=>?_)
 ·have h0:id=0:=of_decide_eq_true hc
  simp only [vqM,vt110,zA,zL,zB]
  refine ke9 (.inr rfl) ?_ (En.bd _) (fun _ h=>h) (Nat.le_refl _)
  simp only [vqM,vt110,zA]
  rw [ofR,if_pos h0];rfl
 ·have h0:¬ id=0:=of_decide_eq_false hc
  simp only [vqM]
  refine awI_cutI (Of2 p id B L c) ?_ ?_
  ·skip
   refine awI_drawM hmix [6,7,8,9] [⟨[0,1,2,3,4,5,6,7,8,9],[(0,1),(0,2),(2,1),(2,2),(3,1),(3,2),(5,1),(5,2)]⟩,⟨[0,1,2,3,4,5,7,6,8,9],[(0,1),(0,2),(2,1),(2,2),(3,1),(3,2),(5,1),(5,2)]⟩] (by kernel_rfl) fun pl hpl=>?_
   simp only [List.mem_cons,List.not_mem_nil,or_false] at hpl
   rcases hpl with rfl | rfl
   all_goals
    simp only [vqM,vt110,zB,List.getD_cons_zero,List.getD_cons_succ,List.contains_cons,List.contains_nil,Bool.or_false,Bool.or_true]
   all_goals
    repeat' (first
     | (with_reducible refine xq9 ?_ ?_)
     | (with_reducible refine And.intro ?_ ?_)
     | ((with_reducible refine kh9 ?_);refine ka9 (t_HeadIn p id _) ?_;simp only [vqM,vt110,headedD,List.getD_cons_zero,List.getD_cons_succ])
     | ((with_reducible refine kh9 ?_);refine ka9 (t_FindIn p id hl _) ?_;simp only [vqM,vt110,zA,foundD,List.getD_cons_zero,List.getD_cons_succ])
     | (with_reducible refine is_pN ?_;simp only [vqM,vt110,zA,zS,zM,zL,zE,zB,reduceCtorEq,headedD,foundD,List.getD_cons_zero,List.getD_cons_succ,List.contains_cons,List.contains_nil,Bool.or_false,Bool.or_true,Bool.true_or,Bool.false_or]))
   all_goals
    refine kj9 ?_
    apply of2_mk
    ·rfl
    ·rfl
    all_goals (first | (simp only [wi9,List.getElem?_cons_succ,List.getElem?_cons_zero];done) | (simp only [wi9,List.getElem?_cons_succ,List.getElem?_cons_zero];rfl) | (simp only [zA,wi9];rfl) | trace_state)
  rintro e s ⟨i,j,X,rfl,rfl,h5,h6⟩
  unfold headedC at h5
  unfold foundC at h6
  have hz:(27≤En.zc.length)=True:=by simp [En.zc]
  have hz2:List.drop 27 En.zc=[]:=rfl
  simp only [vqM,vt110,zA,zL,zB,h5,h6,hz,hz2]
  refine ke9 (.inr rfl) ?_ (En.bd _) (fun _ h=>h) (Nat.le_refl _)
  simp only [vqM,vt110,zA]
  rw [ofR,if_neg h0];rfl
def seEnR (x y:En):Bool:=decide (x.head=y.head) && (decide (x.opn=y.opn) && (decide (x.h=y.h) && (decide (x.d=y.d) && (decide (x.decl=y.decl) && decide (x.threads=y.threads)))))
theorem seEnR_eq (x y:En):seEnR x y=decide (x=y):=by cases x;cases y;simp [seEnR]
theorem t_sameR (x y:En) (s:St):Spec Tryz.prog 29 [.agg x.cells,.agg y.cells] s (.bool (decide (x=y))) s:=by
 rw [← seEnR_eq]
 obtain ⟨B,L,c⟩:=s
 refine Spec.introN [] Tryz.func29 rfl (by decide) hmix (by kernel_rfl) [ResultVar.tmp 4] 45 rfl rfl ?_
 simp only [vqM,vt111,zA,zS,vsEn]
 repeat' (first
  | ((with_reducible refine kh9 ?_);refine ka9 (yb9 _ _ _) ?_;simp only [vqM])
  | ((with_reducible refine kh9 ?_);refine ka9 (t_SameHeadF _ _ _) ?_;simp only [vqM])
  | ((with_reducible refine kh9 ?_);refine ka9 (t_SameDefF _ _ _) ?_;simp only [vqM])
  | ((with_reducible refine kh9 ?_);refine ka9 (t_SameDeclF _ _ _) ?_;simp only [vqM])
  | (with_reducible refine kb9 (fun hc=>?_) (fun hc=>?_) <;> simp only [vqM,vt111,hc,zA,zS,zL,vsEn])
  | ((with_reducible refine is_q ?_);refine ke9 (.inr rfl) ?_ (.bool _) (fun _ h=>h) (Nat.le_refl _) <;> (try simp only [vqM]) <;> (first | (simp only [seEnR, *,Bool.true_and,Bool.false_and,Bool.and_false];done) | (simp_all [seEnR];done) | (simp_all [seEnR];omega))))
def pgCells (l:List Pg):List (List D):=l.map Pg.cells
theorem pgCells_len (l:List Pg):(pgCells l).length=l.length:=by simp [pgCells]
def hidsS (p:Pg):List Int:=p.heads.map (·.id)
def idsR (l:List Pg):List Int:=(l.flatMap hidsS).foldl addedL [0]
theorem idsR_keys {l:List Pg} (h:l≠[]):idsR l=keysS l:=by
 have h0:=fun x:Int=>foldl_addedL (x:=x) (l.flatMap hidsS) [0] (by simp)
 refine lt_ext (h0 0).1 (keys_lt l) fun x=>?_
 rw [idsR,(h0 x).2,mem_keys,List.mem_flatMap]
 obtain ⟨p0,m,rfl⟩:=List.exists_cons_of_ne_nil h
 simp only [idsS,hidsS,List.mem_cons,List.not_mem_nil,or_false]
 constructor
 ·rintro (rfl | ⟨p,hp,hx⟩)
  ·exact ⟨p0,.inl rfl,.inl rfl⟩
  ·exact ⟨p,hp,.inr hx⟩
 ·rintro ⟨p,hp,rfl | hx⟩
  ·exact .inl rfl
  ·exact .inr ⟨p,hp,hx⟩
theorem hids_len {l:List Pg} (h:∀ p ∈ l,p.heads.length≤900):(l.flatMap hidsS).length≤900 * l.length:=by
 induction l with
 | nil=>simp
 | cons p l ih =>
  have h1:=h p (by simp)
  have h2:=ih fun q hq=>h q (by simp [hq])
  rw [List.flatMap_cons,List.length_append,List.length_cons]
  have h3:(hidsS p).length=p.heads.length:=by simp [hidsS]
  omega
theorem t_ids (ps:List Pg) (hn:ps.length≤10) (hh:∀ p ∈ ps,p.heads.length≤900) (s:St):Spec Tryz.prog 27 [.slice .none (pgCells ps)] s (.slice .none (intCells (idsR ps))) s:=by
 obtain ⟨B,L,c⟩:=s
 refine Spec.introN [] Tryz.func27 rfl (by decide) hmix (by kernel_rfl) [ResultVar.tmp 2] 35 rfl rfl ?_
 simp only [vqM,vt112,zA,zS,zM,zL]
 refine kc9 [0,3,4] ?_
 simp only [vke,zB,zA]
 refine km9 hmix ps.length (fun k e s=>∃ o:Own,(o=.none∨o=.full)∧e=[.slice .none (pgCells ps),J,J,.slice o (intCells (idsR (ps.take k))),.int .i64 (k:Int),J,J,J,J,J,J,J,J,J,J,J,J,J,J,J,J,J,J,J,J,J,J,J,J,J,J,J,J,J,J]∧s=⟨B,L,c⟩) ?_ ?_ 0 _ _ (Nat.zero_le _) ⟨.full,.inr rfl,rfl,rfl⟩
 ·rintro k e s hk ⟨o,ho,rfl,rfl⟩ ih
  have hx:ps[k]? = some ps[k]:=List.getElem?_eq_getElem hk
  have hg:(pgCells ps)[k]? = some (ps[k].cells):=by simp [pgCells,hx]
  have hklt:((k:Int)<(ps.length:Int))=True:=by simp;exact hk
  have hnx:idsR (ps.take (k+1))=(hidsS ps[k]).foldl addedL (idsR (ps.take k)):=by
   rw [idsR,idsR,List.take_add_one,hx,List.flatMap_append,List.foldl_append];simp
  have hpl:=hh _ (List.getElem_mem hk)
  have hbl:(idsR (ps.take k)).length≤9001:=by
   have h1:=foldl_len ((ps.take k).flatMap hidsS) [0]
   have h2:=hids_len (l:=ps.take k) fun p hp=>hh p (List.mem_of_mem_take hp)
   rw [List.length_take] at h2
   simp only [List.length_cons,List.length_nil] at h1
   rw [idsR];omega
  generalize ps[k]=p at hx hg hnx hpl
  generalize idsR (ps.take k)=l0 at hnx hbl ⊢
  simp only [vqM,vt112,pgCells_len,hklt,decide_true]
  refine kc9 [0,3,4,5] ?_
  simp only [vke,zB,zA]
  refine km9 hmix p.heads.length (fun j e s=>∃ o:Own,(o=.none∨o=.full)∧e=[.slice .none (pgCells ps),J,J,.slice o (intCells (((hidsS p).take j).foldl addedL l0)),.int .i64 (k:Int),.int .i64 (j:Int),J,J,J,J,J,J,J,J,J,J,J,J,J,J,J,J,J,J,J,J,J,J,J,J,J,J,J,J,J]∧s=⟨B,L,c⟩) ?_ ?_ 0 _ _ (Nat.zero_le _) ⟨o,ho,rfl,rfl⟩
  ·rintro j e s hj ⟨o,ho,rfl,rfl⟩ ihj
   have hy:p.heads[j]? = some p.heads[j]:=List.getElem?_eq_getElem hj
   have hgy:(kr9 p.heads)[j]? = some (p.heads[j].cells):=by simp [kr9,hy]
   have hjlt:((j:Int)<(p.heads.length:Int))=True:=by simp;exact hj
   have hny:((hidsS p).take (j+1)).foldl addedL l0=addedL (((hidsS p).take j).foldl addedL l0) p.heads[j].id:=by
    have hyy:(hidsS p)[j]? = some p.heads[j].id:=by simp [hidsS,hy]
    rw [List.take_add_one,hyy,List.foldl_append];rfl
   have hbj:(((hidsS p).take j).foldl addedL l0).length≤100000:=by
    have h1:=foldl_len ((hidsS p).take j) l0
    rw [List.length_take] at h1;omega
   generalize p.heads[j]=y at hy hgy hny
   generalize ((hidsS p).take j).foldl addedL l0=l1 at hny hbj ⊢
   have hsp:∀ s,Spec Tryz.prog 50 [.slice .none (intCells l1),.int .i64 y.id] s (.slice .none (intCells (addedL l1 y.id))) s:=fun s=>t_Added l1 y.id hbj s
   simp only [vqM,vt112,natle0,Int.toNat_natCast,hg,ki9,hjlt,decide_true,hgy]
   refine ka9 (hsp _) ?_
   simp only [vqM]
   rw [kf9 (by omega)]
   refine kc9 [0,3,4,5] ?_
   simp only [vke,zB,zA]
   exact ihj _ _ ⟨.none,.inl rfl,by rw [hny],rfl⟩
  ·rintro e s ⟨o,ho,rfl,rfl⟩
   have hjlt:((p.heads.length:Int)<(p.heads.length:Int))=False:=by simp
   rw [List.take_of_length_le (by simp [hidsS])]
   simp only [vqM,vt112,natle0,Int.toNat_natCast,hg,ki9,hjlt,decide_false]
   rw [kf9 (by omega)]
   refine kc9 [0,3,4] ?_
   simp only [vke,zB,zA]
   exact ih _ _ ⟨o,ho,by rw [hnx],rfl⟩
 ·rintro e s ⟨o,ho,rfl,rfl⟩
  have hklt:((ps.length:Int)<(ps.length:Int))=False:=by simp
  rw [List.take_length]
  simp only [vqM,vt112,pgCells_len,hklt,decide_false]
  refine ko9 (.inr rfl) ?_ (xx9 _)
  rcases ho with rfl | rfl <;> simp only [vqM]
theorem t_ChangedR (p q:Pg) (hp:Hded p) (hq:Hded q) (hpl:p.heads.length≤900) (hql:q.heads.length≤900) (hpd:p.defs.length<1000000) (hqd:q.defs.length<1000000) (s:St):Spec Tryz.prog 17 [.agg p.cells,.agg q.cells] s (.slice .none (intCells (wy9 p q))) s:=by
 obtain ⟨B,L,c⟩:=s
 have hids:=fun s=>t_ids [p,q] (by simp) (by intro x hx;simp at hx;rcases hx with rfl | rfl <;> assumption) s
 have hlen:(idsR [p,q]).length≤9001:=by
  have h1:=foldl_len ([p,q].flatMap hidsS) [0]
  have h2:=hids_len (l:=[p,q]) (by intro x hx;simp at hx;rcases hx with rfl | rfl <;> assumption)
  simp only [List.length_cons,List.length_nil] at h1 h2
  rw [idsR];omega
 rw [idsR_keys (by simp)] at hids hlen
 refine Spec.introN [(5,.text [false,false,false,false,false,true,false,false,false,false,false,true,true,false] [(6,0),(10,0)])] Tryz.func17 rfl (by decide) hmix (by kernel_rfl) [ResultVar.tmp 4] 41 rfl rfl ?_
 simp only [vqM,vt113,zA,zS,zM,zL,zB]
 refine ka9 (hids _) ?_
 simp only [vqM,vt113,zA,zM,zB]
 refine kc9 [2,3,5,6,7] ?_
 simp only [vke,zB,zA]
 have hch:wy9 p q=(keysS [p,q]).filter fun id=>!decide (entE p id=entE q id):=rfl
 rw [hch]
 generalize keysS [p,q]=ks at hlen ⊢
 refine km9 hmix ks.length (fun k e s=>∃ out:List Int,out=(ks.take k).filter (fun id=>!decide (entE p id=entE q id))∧e=[J,J,.box B.length 0,.box (B.length+1) 0,J,.slice .none (intCells ks),.slice (ownF c 1 out.length) (intCells out),.int .i64 (k:Int),J,J,J,J,J,J,J,J,J,J,J,J,J,J,J,J,J,J,J,J,J,J,J,J,J,J,J,J,J,J,J,J,J]∧s=⟨B++[.cells p.cells,.cells q.cells],liveN L c out.length,c+out.length⟩) ?_ ?_ 0 _ _ (Nat.zero_le _) ⟨[],rfl,rfl,rfl⟩
 ·rintro k e s hk ⟨out,hout,rfl,rfl⟩ ih
  have hg:=intAt hk
  have hklt:((k:Int)<(ks.length:Int))=True:=by simp;exact hk
  have hol:out.length≤k:=by rw [hout];exact Nat.le_trans (List.length_filter_le _ _) (by simp;omega)
  have hnx:(ks.take (k+1)).filter (fun id=>!decide (entE p id=entE q id))=if (!decide (entE p ks[k]=entE q ks[k]))=true then out++[ks[k]] else out:=by
   rw [List.take_add_one,List.getElem?_eq_getElem hk,Option.toList_some,List.filter_append,← hout]
   cases h:!decide (entE p ks[k]=entE q ks[k]) <;> simp [h]
  have hof:∀ B',qa9 (ownF c 1 out.length) (intCells out) 1 ⟨B',liveN L c out.length,c+out.length⟩=true:=fun B'=>yf9 (qb9 _)
  have hl1:(out.length+1≤1000000)=True:=eq_true (by omega)
  generalize ks[k]=y at hg hnx
  rw [← ofR_eq hp,← ofR_eq hq] at hnx
  simp only [vqM,vt113,zA,zB,kd9,hklt,decide_true,natle0,Int.toNat_natCast,hg]
  refine ka9 (t_ofR p hpd y _) ?_
  simp only [vqM,vt113,zA,natle0,Int.toNat_natCast,hg]
  refine ka9 (t_ofR q hqd y _) ?_
  simp only [vqM]
  refine ka9 (t_sameR _ _ _) ?_
  simp only [vqM,vt113]
  refine kb9 (fun hc=>?_) (fun hc=>?_)
  ·rw [if_pos hc] at hnx
   simp only [vqM,vt113,zA,zM,zL,natle0,Int.toNat_natCast,hg,hof,qp9,kd9,hl1,qq9]
   rw [kf9 (by omega)]
   refine kc9 [2,3,5,6,7] ?_
   simp only [vke,zB,zA]
   refine ih _ _ ⟨out++[y],hnx.symm,?_,?_⟩ <;> simp [ownF]
  ·rw [if_neg (by rw [hc];simp)] at hnx
   simp only [vqM]
   rw [kf9 (by omega)]
   refine kc9 [2,3,5,6,7] ?_
   simp only [vke,zB,zA]
   exact ih _ _ ⟨out,hnx.symm,rfl,rfl⟩
 ·rintro e s ⟨out,hout,rfl,rfl⟩
  have hklt:((ks.length:Int)<(ks.length:Int))=False:=by simp
  rw [List.take_length] at hout
  simp only [vqM,vt113,zB,kd9,hklt,decide_false]
  refine ke9 (.inr rfl) ?_ (xx9 _) (fun _ h=>wg9 h) (by omega)
  simp only [vqM]
  rw [hout]
def Cg.Ok (z:Cg):Prop:=(0≤z.kind∧z.kind<256)∧(0≤z.pos∧z.pos<256)∧(0≤z.n∧z.n<256)
theorem VarOk.cnt {p:Pg} {n:Nat} (h:VarOk p n) (hn:n≤100):∀ d ∈ p.defs,cntL d.body<90000:=fun d hd=>by
 have h1:=(h.vl.ok d hd).fl
 have h2:=xr9 d.body 1
 have h4:(sitesS d).length=(flatL 1 d.body).length+1:=by simp [sitesS,sitesL]
 omega
theorem t_Changed1V (p:Pg) (z:Cg) (hz:z.Ok) {n:Nat} (h:VarOk p n) (hn:n≤30) (s:St):Spec Tryz.prog 49 [.agg p.cells,.agg z.cells] s (.agg (chg1 p z).cells) s :=
 t_Changed1 p z hz (List.length_pos_iff.2 h.vl.ne) (by have:=h.vl.ln;omega) (h.cnt (by omega)) ⟨h.tl.1,by have:=h.tl.2;omega⟩ s
def cgCells (l:List Cg):List (List D):=l.map Cg.cells
theorem cgCells_len (l:List Cg):(cgCells l).length=l.length:=List.length_map ..
theorem t_Variant (p:Pg) (l:List Cg) (hz:∀ z ∈ l,z.Ok) (h:VarOk p 0) (s:St):Spec Tryz.prog 25 [.agg p.cells,.slice .none (cgCells l)] s (.agg (variantS p l).cells) s:=by
 obtain ⟨B,L,c⟩:=s
 have hpz:Pg.zc.length=10:=rfl
 refine Spec.introN [] Tryz.func25 rfl (by decide) hmix (by kernel_rfl) [ResultVar.cell 4 37] 23 rfl rfl ?_
 simp only [vqM,vt114,zA,zS]
 refine kc9 [1,2,4,5] ?_
 simp only [vke,zB,zA]
 refine km9 hmix (min l.length 5) (fun k e s=>e=[J,.slice .none (cgCells l),.box B.length 0,J,.box (B.length+1) 0,.int .i64 (k:Int),J,J,J,J,J,J,J,J,J,J,J,J,J,J,J,J,J]∧s=⟨B++[.cells ((l.take k).foldl chg1 p).cells,.cells Pg.zc],L,c⟩) ?_ ?_ 0 _ _ (Nat.zero_le _) ⟨rfl,rfl⟩
 ·rintro k e s hk ⟨rfl,rfl⟩ ih
  have hkl:k<l.length:=by omega
  have hx:l[k]? = some l[k]:=List.getElem?_eq_getElem hkl
  have hg:(cgCells l)[k]? = some l[k].cells:=by simp [cgCells,hx]
  have hklt:((k:Int)<(l.length:Int))=True:=by simp;exact hkl
  have hk5:((k:Int)<5)=True:=eq_true (by omega)
  have hzk:=hz _ (List.getElem_mem hkl)
  have hnext:(l.take (k+1)).foldl chg1 p=chg1 ((l.take k).foldl chg1 p) l[k]:=by rw [List.take_add_one,hx,List.foldl_append];rfl
  have hv:=(h.variant hz k).mono (m:=5) (by rw [List.length_take];omega)
  generalize l[k]=y at hx hg hnext hzk
  generalize (l.take k).foldl chg1 p=q at hv hnext
  simp only [vqM,vt114,vsCg,cgCells_len,hklt,hk5,decide_true,natle0,Int.toNat_natCast,hg]
  refine ka9 (t_Changed1V q y hzk hv (by omega) _) ?_
  simp only [vqM,vt114,zA]
  rw [kf9 (by omega)]
  refine kc9 [1,2,4,5] ?_
  simp only [vke,zB,zA]
  exact ih _ _ ⟨rfl,by rw [hnext];rfl⟩
 ·rintro e s ⟨rfl,rfl⟩
  have hfin:(l.take (min l.length 5)).foldl chg1 p=variantS p l:=by
   rw [variantS]
   congr 1
   by_cases h5:l.length≤5
   ·rw [Nat.min_eq_left h5,List.take_length,List.take_of_length_le h5]
   ·rw [Nat.min_eq_right (by omega)]
  rw [hfin]
  by_cases h5:l.length≤5
  ·have hm:min l.length 5=l.length:=Nat.min_eq_left h5
   have hklt:((l.length:Int)<(l.length:Int))=False:=by simp
   rw [hm]
   simp only [vqM,vt114,zA,cgCells_len,hklt,decide_false,hpz]
   refine ke9 (.inr rfl) ?_ (kv9 (Pg.bd _)) (fun _ h=>h) (Nat.le_refl _)
   simp only [vqM,vt114,zA,zS,hpz]
  ·have hm:min l.length 5=5:=Nat.min_eq_right (by omega)
   have hklt:((5:Nat):Int)<(l.length:Int):=by omega
   have hk2:(((5:Nat):Int)<(l.length:Int))=True:=eq_true hklt
   have hk5:(((5:Nat):Int)<5)=False:=by simp
   rw [hm]
   simp only [vqM,vt114,zA,cgCells_len,hk2,hk5,decide_false,decide_true,hpz]
   refine ke9 (.inr rfl) ?_ (kv9 (Pg.bd _)) (fun _ h=>h) (Nat.le_refl _)
   simp only [vqM,vt114,zA,zS,hpz]
theorem mem_keys3 {p a b:Pg} {id:Int}:id ∈ keysS [p,a,b]↔id ∈ idsS p∨id ∈ idsS a∨id ∈ idsS b:=by rw [mem_keys];simp
theorem mem_keys2 {p a:Pg} {id:Int}:id ∈ keysS [p,a]↔id ∈ idsS p∨id ∈ idsS a:=by rw [mem_keys];simp
theorem mem_changed {p q:Pg} {id:Int}:id ∈ wy9 p q↔entE p id≠entE q id:=by
 unfold wy9
 rw [List.mem_filter,mem_keys2]
 constructor
 ·rintro ⟨_,h⟩;simpa using h
 ·intro h
  refine ⟨?_,by simpa using h⟩
  by_cases h1:id ∈ idsS p
  ·exact .inl h1
  by_cases h2:id ∈ idsS q
  ·exact .inr h2
  exact absurd ((entE_out h1).trans (entE_out h2).symm) h
structure Nice (p:Pg):Prop extends Nrm p where
 hds:p.heads=p.defs.map hdOf
theorem Nice.pw {p:Pg} (N:Nice p):p.defs.Pairwise (fun a b=>a.id<b.id):=by
 have:=N.hid
 rw [N.hds,List.pairwise_map] at this
 exact this
theorem Nice.find {p:Pg} (N:Nice p) {d:Df} (hd:d ∈ p.defs):findS p d.id=some d:=find_pw N.pw d hd
theorem Nice.keys {p:Pg} (N:Nice p):(idsS p).Pairwise (· < ·):=by
 refine List.pairwise_cons.2 ⟨fun x hx=>?_,?_⟩
 ·obtain ⟨h,hh,rfl⟩:=List.mem_map.1 hx;exact N.pos h hh
 ·rw [List.pairwise_map];exact N.hid
theorem Nice.ent {p:Pg} (N:Nice p) {d:Df} (hd:d ∈ p.defs):entE p d.id=⟨true,true,hdOf d,d,Dc.zero,[]⟩:=by
 have h1:hdOf d ∈ p.heads:=by rw [N.hds];exact List.mem_map.2 ⟨d,hd,rfl⟩
 have h2:=N.pos _ h1
 have h3:(hdOf d).id=d.id:=rfl
 have h4:=headS_of N.toNrm h1
 rw [h3] at h4
 have h5:¬ d.id=0:=by rw [h3] at h2;omega
 rw [entE,if_neg h5,h4]
 simp only [openE,h3,N.find hd]
 rfl
theorem Nice.fold {p:Pg} (N:Nice p):foldE (entE p) (idsS p)=p:=by
 have key:∀ {α:Type} (f:En→Option α) (g:Df→α),(∀ d ∈ p.defs,f (entE p d.id)=some (g d))→f (entE p 0)=none→(idsS p).filterMap (fun id=>f (entE p id))=p.defs.map g:=by
  intro α f g h h0
  rw [idsS,List.filterMap_cons_none (f:=fun id=>f (entE p id)) h0,N.hds,List.map_map]
  clear h0
  generalize p.defs=l at h
  induction l with
  | nil=>rfl
  | cons d l ih =>
   rw [List.map_cons,List.map_cons]
   show List.filterMap (fun id=>f (entE p id)) (d.id::List.map ((fun x=>x.id) ∘ hdOf) l)=_
   rw [List.filterMap_cons_some (f:=fun id=>f (entE p id)) (h d (by simp)),ih fun x hx=>h x (by simp [hx])]
 have e0:entE p 0=⟨false,false,Hd.zero,Df.zero,p.d,p.threads⟩:=by rw [entE,if_pos rfl]
 have h0:(0:Int) ∈ idsS p:=by simp [idsS]
 refine Pg.ext4 ?_ ?_ ?_ ?_
 ·rw [foldE,foldE_d,if_pos h0,e0]
 ·rw [foldE,foldE_heads,key (fun e=>if e.head then some e.h else none) hdOf (fun d hd=>by rw [N.ent hd];rfl) (by rw [e0];rfl),N.hds];rfl
 ·rw [foldE,foldE_defs,key (fun e=>if e.opn then some e.d else none) id (fun d hd=>by rw [N.ent hd];rfl) (by rw [e0];rfl)];simp [Pg.zero]
 ·rw [foldE,foldE_t,if_pos h0,e0]
theorem fold_nice {p:Pg} (N:Nice p) {l:List Int} (hl:l.Pairwise (· < ·)) (h:∀ id ∈ idsS p,id ∈ l):foldE (entE p) l=p:=by
 rw [← foldE_keys N.keys hl ⟨by simp [idsS],h 0 (by simp [idsS])⟩ fun id hn=>⟨h id,fun _=>?_⟩]
 ·exact N.fold
 ·by_cases hm:id ∈ idsS p
  ·exact hm
  ·exact absurd (entE_out hm) hn
theorem three_ok {p a b:Pg} (hc:∀ id,agreeE (entE p id) (entE a id) (entE b id)=true) {m:Pg} (hm:wu9 p a b=m) (hr:wf9 m=0):threeS p a b=(m,[],0):=by
 have h0:conflS p a b=[]:=List.filter_eq_nil_iff.2 fun id _=>by simp [hc id]
 unfold threeS
 rw [h0,hm,hr]
 rfl
theorem is_pN {X:PC} (h:@pI X):@pI X:=h
structure Mrg (p:Pg):Prop where
 nc:Nice p
 pr:wf9 p=0
 ok:PgOk p
 hl:p.heads.length≤40
theorem VarOk.mrg {p:Pg} {n:Nat} (h:VarOk p n) (hn:n≤30):Mrg p where
  nc := { hid := by rw [h.hds, List.pairwise_map]; exact h.pw
          pos:=fun x hx=>by
            rw [h.hds] at hx
            obtain ⟨d,hd,rfl⟩:=List.mem_map.1 hx
            have:=(h.vl.ok d hd).id
            rw [hdOf_id];omega
          hds:=h.hds }
  pr:=(h.right hn).prog
  ok:=(h.right hn).pgok
  hl:=(h.right hn).hl
structure MrgN (p:Pg):Prop where
 nc:Nrm p
 ok:PgOk p
 hl:p.heads.length≤900
theorem Mrg.n {p:Pg} (h:Mrg p):MrgN p:=⟨h.nc.toNrm,h.ok,by have:=h.hl;omega⟩
theorem merged_defs {p a b:Pg} {d:Df} (h:d ∈ (wu9 p a b).defs):d ∈ a.defs∨d ∈ b.defs:=by
 rw [show (wu9 p a b).defs=_ from foldE_defs _ _ _,show Pg.zero.defs=[] from rfl,List.nil_append] at h
 obtain ⟨id,_,hd⟩:=List.mem_filterMap.1 h
 have key:∀ q:Pg,(entE q id).opn=true→(entE q id).d ∈ q.defs:=by
  intro q hq
  unfold entE at hq ⊢
  split at hq
  ·simp at hq
  ·rename_i hne
   rw [if_neg hne]
   cases e:headS q id with
   | none=>rw [e] at hq;simp [En.zero] at hq
   | some x =>
    rw [e] at hq
    simp only [openE] at hq ⊢
    obtain ⟨y,hy⟩:=Option.isSome_iff_exists.1 hq
    rw [hy];exact (findS_id hy).1
 rcases pickE_cases (entE p id) (entE a id) (entE b id) with e | e
 ·have e':pickAt p a b id=entE a id:=e
  rw [e'] at hd
  cases ho:(entE a id).opn with
  | false=>rw [ho] at hd;simp at hd
  | true=>rw [ho] at hd;simp at hd;rw [← hd];exact .inl (key a ho)
 ·have e':pickAt p a b id=entE b id:=e
  rw [e'] at hd
  cases ho:(entE b id).opn with
  | false=>rw [ho] at hd;simp at hd
  | true=>rw [ho] at hd;simp at hd;rw [← hd];exact .inr (key b ho)
theorem merged_ok {p a b:Pg} (ha:PgOk a) (hb:PgOk b):PgOk (wu9 p a b) where
 nm:=fun d hd=>by exact (merged_defs hd).elim (ha.nm d) (hb.nm d)
 fl:=fun d hd=>by exact (merged_defs hd).elim (ha.fl d) (hb.fl d)
 ca:=fun d hd=>by exact (merged_defs hd).elim (ha.ca d) (hb.ca d)
theorem Mg.bd {nb nl:Nat} (r:Mg):∀ d ∈ r.cells,Bd nb nl d:=fun d hd=>by
 rcases List.mem_append.1 hd with hd | hd
 ·exact Pg.bd _ d hd
 ·simp only [List.mem_cons,List.not_mem_nil,or_false] at hd
  rcases hd with rfl | rfl
  ·exact xx9 _
  ·exact .int _ _
def mgS (r:Pg × List Int × Int):Mg:=⟨r.1,r.2.1,r.2.2⟩
theorem t_three27 (p a b:Pg) (hp:MrgN p) (ha:MrgN a) (hb:MrgN b) (s:St):Spec Tryz.prog 13 [.agg p.cells,.agg a.cells,.agg b.cells] s (.agg (mgS (threeS p a b)).cells) s:=by
 obtain ⟨B,L,c⟩:=s
 refine Spec.introN [] Tryz.func13 rfl (by decide) hmix (by kernel_rfl) [ResultVar.cell 6 44] 22 rfl rfl ?_
 simp only [vqM,vt115,zA,zS]
 refine ka9 (t_Three p a b hp.nc ha.nc hb.nc hp.hl ha.hl hb.hl (merged_ok ha.ok hb.ok) _) ?_
 generalize threeS p a b=r
 simp only [vqM,vt115,zA,zL,threeD]
 refine ke9 (.inr rfl) ?_ (kv9 (Mg.bd _)) (fun _ h=>h) (Nat.le_refl _)
 simp only [vqM,vt115,zA,mgS]
 rfl
theorem bd_tup3 {nb nl:Nat} (p a b:Pg):Bd nb nl (.tup [.agg p.cells,.agg a.cells,.agg b.cells]):=.tup _ fun i hi=>by
 match i,hi with
 | 0,_=>exact kv9 (Pg.bd _)
 | 1,_=>exact kv9 (Pg.bd _)
 | 2,_=>exact kv9 (Pg.bd _)
theorem t_made27 (b:List Int) (hb:∀ x ∈ b,0≤x∧x<256) (l m:List Cg) (hl:∀ z ∈ l,z.Ok) (hm:∀ z ∈ m,z.Ok) (s:St):Spec Tryz.prog 10 [.agg [.slice .none (byteCells b),.slice .none (cgCells l),.slice .none (cgCells m)]] s (.tup [.agg (made b).cells,.agg (variantS (made b) l).cells,.agg (variantS (made b) m).cells]) s:=by
 refine Spec.small fun hsm=>?_
 have h1:(cgCells l).length≤281474976710656:=(hsm _ (.head _)).sl (o:=.none) (by simp)
 have h2:(cgCells m).length≤281474976710656:=(hsm _ (.head _)).sl (o:=.none) (by simp)
 rw [cgCells_len] at h1 h2
 obtain ⟨B,L,c⟩:=s
 refine Spec.introN [(2,.text [false,false,false,false,true,false,false,false,true,true,true,true] [(0,1),(0,2),(5,0),(7,0)])] Tryz.func10 rfl (by decide) hmix (by kernel_rfl) [ResultVar.cell 2 37,ResultVar.cell 3 37,ResultVar.cell 4 37] 18 rfl rfl ?_
 simp only [vqM,vt116,zA,zS,zL,zB]
 refine ka9 (t_Made b hb _) ?_
 simp only [vqM,vt116,zA]
 refine ka9 (t_Variant _ l hl (made_var hb) _) ?_
 simp only [vqM,vt116,zA]
 refine ka9 (t_Variant _ m hm (made_var hb) _) ?_
 have hz:∀ q:Pg,List.drop 10 q.cells=[]:=fun _=>rfl
 simp only [vqM,vt116,zA]
 refine ke9 (.inr rfl) ?_ (bd_tup3 _ _ _) (fun _ h=>h) (Nat.le_refl _)
 simp only [vqM,vt116]
theorem at5 {B X Y:List Box} {p a b z w:Box} (n:Nat) {i:Nat} (h:i=B.length+(X.length+(n+5))):(B++p::a::b::z::w::(X++Y))[i]? = Y[n]?:=by
 subst h
 rw [wi9,show X.length+(n+5)=X.length+n+1+1+1+1+1 by omega]
 simp only [List.getElem?_cons_succ]
 rw [List.getElem?_append_right (by omega)]
 congr 1;omega
def Th3 (x y z:List D) (F:Box→List Box→List Box) (W0:Box) (L:List Nat) (c:Nat) (E:Nat→Nat→Nat→List D) (e:List D) (s:St):Prop :=
 ∃ i j l Y,e=E i j l∧s=⟨F W0 Y,L,c⟩∧(∀ W T,(F W (Y++T))[i]? = some (.cells x))∧(∀ W T,(F W (Y++T))[j]? = some (.cells y))∧(∀ W T,(F W (Y++T))[l]? = some (.cells z))
theorem th3_mk {x y z:List D} {F:Box→List Box→List Box} {W0:Box} {L:List Nat} {c:Nat} {E:Nat→Nat→Nat→List D} {e:List D} {s:St} {i j l:Nat} {Y:List Box} (h1:e=E i j l) (h2:s=⟨F W0 Y,L,c⟩) (h3:∀ W T,(F W (Y++T))[i]? = some (.cells x)) (h4:∀ W T,(F W (Y++T))[j]? = some (.cells y)) (h5:∀ W T,(F W (Y++T))[l]? = some (.cells z)):Th3 x y z F W0 L c E e s :=
 ⟨i,j,l,Y,h1,h2,h3,h4,h5⟩
def mgZ:List D:=Pg.zc++[.slice .nil [],.int .i64 0]
theorem t_ThreeIn (p a b:Pg) (hp:Hded p) (ha:Hded a) (hb:Hded b) (hl1:p.heads.length≤900) (hl2:a.heads.length≤900) (hl3:b.heads.length≤900) (hd1:p.defs.length<1000000) (hd2:a.defs.length<1000000) (hd3:b.defs.length<1000000) (PO:PgR (wu9 p a b)) (s:St) :
  Spec Tryz.prog 14 [.agg p.cells,.agg a.cells,.agg b.cells] s (.agg (mgS (threeS p a b)).cells) s:=by
 refine Spec.wf fun hW=>?_
 obtain ⟨B,L,c⟩:=s
 have hW0:WfL L c:=⟨hW.nd,hW.lt⟩
 have hids:=fun s=>t_ids [p,a,b] (by simp) (by intro x hx;simp at hx;rcases hx with rfl | rfl | rfl <;> assumption) s
 have hlen:(idsR [p,a,b]).length≤9001:=by
  have h1:=foldl_len ([p,a,b].flatMap hidsS) [0]
  have h2:=hids_len (l:=[p,a,b]) (by intro x hx;simp at hx;rcases hx with rfl | rfl | rfl <;> assumption)
  simp only [List.length_cons,List.length_nil] at h1 h2
  rw [idsR];omega
 rw [idsR_keys (by simp)] at hids hlen
 refine Spec.introN [(5,.stop),(6,.cut)] Tryz.func14 rfl (by decide) hmix (by kernel_rfl) [ResultVar.cell 6 44] 125 rfl rfl ?_
 simp only [vqM,vt117,zA,zS,zM,zL,zB]
 refine ka9 (hids _) ?_
 simp only [vqM,vt117,zA,zB]
 refine kc9 [3,4,5,6,7,8,9] ?_
 simp only [vke,zB,zA]
 generalize hKS:keysS [p,a,b]=ks at hlen ⊢
 refine km9 hmix ks.length (fun k e s=>∃ (X:List Box) (hs:List Hd) (ds:List Df) (cf:List Int) (oh od oc:Own) (L':List Nat) (c':Nat) (d0 d1 d2 d3 d4 d5 d6 TH:D),Own3 L c 5 12 1 oh od oc L' c' ∧
   e=[J,J,J,.box B.length 0,.box (B.length+1) 0,.box (B.length+2) 0,.box (B.length+3) 0,.slice .none (intCells ks),.box (B.length+4) 0,.int .i64 (k:Int),J,J,J,J,J,J,J,J,J,J,J,J,J,J,J,J,J,J,J,J,J,J,J,J,J,J,J,J,J,J,J,J,J,J,J,J,J,J,J,J,J,J,J,J,J,J,J,J,J,J,J,J,J,J,J,J,J,J,J,J,J,J,J,J,J,J,J,J,J,J,J,J,J,J,J,J,J,J,J,J,J,J,J,J,J,J,J,J,J,J,J,J,J,J,J,J,J,J,J,J,J,J,J,J,J,J,J,J,J,J,J,J,J,J,J] ∧
   s=⟨B++.cells p.cells::.cells a.cells::.cells b.cells::.cells mgZ::.cells [d0,d1,d2,d3,d4,d5,d6,.slice oh (kr9 hs),.slice od (dfCells ds),TH,.slice oc (intCells cf),.int .i64 0]::X,L',c'⟩ ∧
   cf=(ks.take k).filter (fun id=>!agreeE (entE p id) (entE a id) (entE b id))∧hs.length≤k∧ds.length≤k ∧
   (cf=[]→[d0,d1,d2,d3,d4,d5,d6].map D.plain1=(foldE (pickAt p a b) (ks.take k)).d.cells∧TH.plain1=.slice .none (intCells (foldE (pickAt p a b) (ks.take k)).threads)∧hs=(foldE (pickAt p a b) (ks.take k)).heads∧ds=(foldE (pickAt p a b) (ks.take k)).defs)) ?_ ?_ 0 _ _ (Nat.zero_le _) ⟨[],[],[],[],.nil,.nil,.nil,L,c,.slice .nil [],.slice .nil [],.slice .nil [],.slice .nil [],.int .i64 0,.int .i64 0,.int .i64 0,.slice .nil [],.start hW0 _ _ _,rfl,rfl,rfl,Nat.le_refl _,Nat.le_refl _,fun _=>⟨rfl,rfl,rfl,rfl⟩⟩
 ·rintro k e s hk ⟨X,hs,ds,cf,oh,od,oc,L',c',d0,d1,d2,d3,d4,d5,d6,TH,hO,rfl,rfl,hcf,hln1,hln2,hfo⟩ ih
  have hg:=intAt hk
  have hklt:((k:Int)<(ks.length:Int))=True:=by simp;exact hk
  have hnext:ks.take (k+1)=ks.take k++[ks[k]]:=by rw [List.take_add_one,List.getElem?_eq_getElem hk];rfl
  generalize ks[k]=id at hg hnext
  simp only [vqM,vt117,zB,kd9,hklt,decide_true]
  refine awI_cutI (Th3 (ofR p id).cells (ofR a id).cells (ofR b id).cells (fun W Y=>B++.cells p.cells::.cells a.cells::.cells b.cells::.cells mgZ::W::(X++Y)) (.cells [d0,d1,d2,d3,d4,d5,d6,.slice oh (kr9 hs),.slice od (dfCells ds),TH,.slice oc (intCells cf),.int .i64 0]) L' c' (fun i j l=>[J,J,J,.box B.length 0,.box (B.length+1) 0,.box (B.length+2) 0,.box (B.length+3) 0,.slice .none (intCells ks),.box (B.length+4) 0,.int .i64 (k:Int),.box i 0,.box j 0,.box l 0,J,J,J,J,J,J,J,.int .i64 (k:Int),.slice .none (intCells ks),.int .i64 ks.length,.bool true,J,J,.agg p.cells,.slice .none (intCells ks),.int .i64 (k:Int),.pin [.int .i64 id],.int .i64 id,.agg (ofR p id).cells,.agg a.cells,.slice .none (intCells ks),.int .i64 (k:Int),.pin [.int .i64 id],.int .i64 id,.agg (ofR a id).cells,.agg b.cells,.slice .none (intCells ks),.int .i64 (k:Int),.pin [.int .i64 id],.int .i64 id,.agg (ofR b id).cells,J,J,J,J,J,J,J,J,J,J,J,J,J,J,J,J,J,J,J,J,J,J,J,J,J,J,J,J,J,J,J,J,J,J,J,J,J,J,J,J,J,J,J,J,J,J,J,J,J,J,J,J,J,J,J,J,J,J,J,J,J,J,J,J,J,J,J,J,J,J,J,J,J,J,J,J,J,J,J,J,J])) ?_ ?_
  ·skip
   refine awI_drawM hmix [18,19,20,21,22,23] [⟨[0,1,2,3,4,5,6,7,8,9,10,11,12,13,14,15,16,17,18,19,20,21,22,23],[(0,1),(0,2),(0,3),(4,1),(4,2),(4,3),(5,1),(5,2),(5,3),(6,1),(6,2),(6,3),(10,1),(10,2),(10,3),(11,1),(11,2),(11,3),(12,1),(12,2),(12,3),(16,1),(16,2),(16,3),(17,1),(17,2),(17,3)]⟩,⟨[0,1,2,3,4,5,6,7,8,9,10,11,12,13,14,15,16,17,18,20,19,21,22,23],[(0,1),(0,2),(0,3),(4,1),(4,2),(4,3),(5,1),(5,2),(5,3),(6,1),(6,2),(6,3),(10,1),(10,2),(10,3),(11,1),(11,2),(11,3),(12,1),(12,2),(12,3),(16,1),(16,2),(16,3),(17,1),(17,2),(17,3)]⟩,⟨[0,1,2,3,4,5,6,7,8,9,10,11,12,13,14,15,16,17,19,18,20,21,22,23],[(0,1),(0,2),(0,3),(4,1),(4,2),(4,3),(5,1),(5,2),(5,3),(6,1),(6,2),(6,3),(10,1),(10,2),(10,3),(11,1),(11,2),(11,3),(12,1),(12,2),(12,3),(16,1),(16,2),(16,3),(17,1),(17,2),(17,3)]⟩,⟨[0,1,2,3,4,5,6,7,8,9,10,11,12,13,14,15,16,17,19,20,18,21,22,23],[(0,1),(0,2),(0,3),(4,1),(4,2),(4,3),(5,1),(5,2),(5,3),(6,1),(6,2),(6,3),(10,1),(10,2),(10,3),(11,1),(11,2),(11,3),(12,1),(12,2),(12,3),(16,1),(16,2),(16,3),(17,1),(17,2),(17,3)]⟩,⟨[0,1,2,3,4,5,6,7,8,9,10,11,12,13,14,15,16,17,20,18,19,21,22,23],[(0,1),(0,2),(0,3),(4,1),(4,2),(4,3),(5,1),(5,2),(5,3),(6,1),(6,2),(6,3),(10,1),(10,2),(10,3),(11,1),(11,2),(11,3),(12,1),(12,2),(12,3),(16,1),(16,2),(16,3),(17,1),(17,2),(17,3)]⟩,⟨[0,1,2,3,4,5,6,7,8,9,10,11,12,13,14,15,16,17,20,19,18,21,22,23],[(0,1),(0,2),(0,3),(4,1),(4,2),(4,3),(5,1),(5,2),(5,3),(6,1),(6,2),(6,3),(10,1),(10,2),(10,3),(11,1),(11,2),(11,3),(12,1),(12,2),(12,3),(16,1),(16,2),(16,3),(17,1),(17,2),(17,3)]⟩] (by kernel_rfl) fun pl hpl=>?_
   simp only [List.mem_cons,List.not_mem_nil,or_false] at hpl
   rcases hpl with rfl | rfl | rfl | rfl | rfl | rfl
   all_goals
    simp only [vqM,vt117,zA,zB,natle0,Int.toNat_natCast,hg,List.getD_cons_zero,List.getD_cons_succ,List.contains_cons,List.contains_nil,Bool.or_false,Bool.or_true]
   all_goals
    repeat' (first
     | exact En.cells_len _
     | (with_reducible refine xq9 ?_ ?_)
     | (with_reducible refine And.intro ?_ ?_)
     | ((with_reducible refine kh9 ?_);refine ka9 (t_ofR p hd1 id _) ?_;simp only [vqM,vt117,zA,natle0,Int.toNat_natCast,hg,List.getD_cons_zero,List.getD_cons_succ])
     | ((with_reducible refine kh9 ?_);refine ka9 (t_ofR a hd2 id _) ?_;simp only [vqM,vt117,zA,natle0,Int.toNat_natCast,hg,List.getD_cons_zero,List.getD_cons_succ])
     | ((with_reducible refine kh9 ?_);refine ka9 (t_ofR b hd3 id _) ?_;simp only [vqM,vt117,zA,List.getD_cons_zero,List.getD_cons_succ])
     | (with_reducible refine is_pN ?_;simp only [vqM,vt117,zA,List.getD_cons_zero,List.getD_cons_succ]))
   all_goals
    refine kj9 ?_
    apply th3_mk
    ·rfl
    ·rfl
    all_goals
     intro W T
     first
      | exact (at5 0 (by omega)).trans rfl
      | exact (at5 1 (by omega)).trans rfl
      | exact (at5 2 (by omega)).trans rfl
  rintro e s ⟨i,j,l,Y,rfl,rfl,gi,gj,gl⟩
  rw [ofR_eq hp] at gi
  rw [ofR_eq ha] at gj
  rw [ofR_eq hb] at gl
  simp only [← List.append_assoc X Y] at gi gj gl
  have gi0:=fun W=>gi W []
  have gj0:=fun W=>gj W []
  have gl0:=fun W=>gl W []
  simp only [List.append_nil] at gi0 gj0 gl0
  have hagr:agreeE (entE p id) (entE a id) (entE b id)=(decide (entE a id=entE b id) || decide (entE p id=entE b id) || decide (entE p id=entE a id)):=rfl
  have hpk:pickAt p a b id=if entE p id=entE a id then entE b id else entE a id:=by
   rw [pickAt,pickE]
   by_cases h1:entE a id=entE b id
   ·simp [h1]
   ·by_cases h2:entE p id=entE b id
    ·by_cases h3:entE p id=entE a id
     ·exact absurd (h3.symm.trans h2) h1
     ·simp [h2,h1]
      intro h4;exact absurd h4.symm h1
    ·simp [h1,h2]
  have hfold:foldE (pickAt p a b) (ks.take (k+1))=addE (foldE (pickAt p a b) (ks.take k)) id (pickAt p a b id):=by rw [hnext,foldE,List.foldl_append];rfl
  simp only [vqM,zB]
  generalize X++Y=X1 at gi gj gl gi0 gj0 gl0 ⊢
  have en27:∀ x:En,(27≤x.cells.length)=True:=fun x=>eq_true (Nat.le_of_eq (En.cells_len x).symm)
  refine qe9 hmix [3,4,5,6,7,8,9,10,11,12,59] [J,J,J,.box B.length 0,.box (B.length+1) 0,.box (B.length+2) 0,.box (B.length+3) 0,.slice .none (intCells ks),.box (B.length+4) 0,.int .i64 (k:Int),.box i 0,.box j 0,.box l 0,J,J,J,J,J,J,J,J,J,J,J,J,J,J,J,J,J,J,J,J,J,J,J,J,J,J,J,J,J,J,J,J,J,J,J,J,J,J,J,J,J,J,J,J,J,J,.bool (!agreeE (entE p id) (entE a id) (entE b id)),J,J,J,J,J,J,J,J,J,J,J,J,J,J,J,J,J,J,J,J,J,J,J,J,J,J,J,J,J,J,J,J,J,J,J,J,J,J,J,J,J,J,J,J,J,J,J,J,J,J,J,J,J,J,J,J,J,J,J,J,J,J,J,J,J] (fun s=>s=⟨B++.cells p.cells::.cells a.cells::.cells b.cells::.cells mgZ::.cells [d0,d1,d2,d3,d4,d5,d6,.slice oh (kr9 hs),.slice od (dfCells ds),TH,.slice oc (intCells cf),.int .i64 0]::X1,L',c'⟩) ?_ ?_
  ·rw [hagr]
   generalize entE p id=x at *
   generalize entE a id=y at *
   generalize entE b id=z at *
   simp only [vqM,vt117,gj0,gl0,en27]
   repeat' (first
    | ((with_reducible refine kh9 ?_);refine ka9 (t_sameR _ _ _) ?_;simp only [vqM])
    | (with_reducible refine kb9 (fun hc=>?_) (fun hc=>?_) <;> simp only [vqM,vt117,hc,gi0,gj0,gl0,en27])
    | ((with_reducible refine is_q ?_);refine kj9 ⟨?_,rfl⟩ <;> simp only [vke,zB,zA] <;> (first | (simp only [*,Bool.true_and,Bool.false_and,Bool.and_true,Bool.and_false,Bool.true_or,Bool.false_or,Bool.or_true,Bool.or_false,Bool.not_true,Bool.not_false,cond_true,cond_false,if_true,if_false];done) | (simp_all [];done) | (simp_all [];omega))))
  rintro s rfl
  simp only [vqM]
  refine kb9 (fun hag=>?_) (fun hag=>?_)
  ·have hag':agreeE (entE p id) (entE a id) (entE b id)=false:=by simpa using hag
   have hof:∀ B',qa9 oc (intCells cf) 1 ⟨B',L',c'⟩=true:=fun B'=>hO.ld.fits (qb9 _) B' c'
   have hcl:cf.length≤k:=by rw [hcf];exact Nat.le_trans (List.length_filter_le _ _) (by simp;omega)
   have hl1':(cf.length+1≤1000000)=True:=eq_true (by omega)
   have hcn:cf++[id]=(ks.take (k+1)).filter (fun id=>!agreeE (entE p id) (entE a id) (entE b id)):=by
    rw [hnext,List.filter_append,← hcf];simp [hag']
   simp only [vqM,vt117,zA,zM,zL,zB,natle0,Int.toNat_natCast,hg,hof,qg9,kd9,hl1',qq9]
   rw [kf9 (by omega)]
   refine kc9 [3,4,5,6,7,8,9] ?_
   simp only [vke,zB,zA]
   refine ih _ _ ⟨X1,hs,ds,cf++[id],oh,od,_,_,_,d0,d1,d2,d3,d4,d5,d6,TH,hO.stepD hW0,rfl,rfl,hcn,by omega,by omega,fun h=>by simp at h⟩
  ·have hag':agreeE (entE p id) (entE a id) (entE b id)=true:=by simpa using hag
   have hcn:cf=(ks.take (k+1)).filter (fun id=>!agreeE (entE p id) (entE a id) (entE b id)):=by
    rw [hnext,List.filter_append,← hcf];simp [hag']
   have ent27:∀ x:En,List.take 27 x.cells=x.cells:=fun x=>List.take_of_length_le (Nat.le_of_eq (En.cells_len x))
   have end27:∀ x y:En,x.cells++List.drop 27 y.cells=x.cells:=fun x y=>by rw [List.drop_of_length_le (Nat.le_of_eq (En.cells_len y)),List.append_nil]
   have ek:∀ x:En,x.cells.map D.keep1=x.cells:=En.keep1
   have hofh:∀ B',qa9 oh (kr9 hs) 5 ⟨B',L',c'⟩=true:=fun B'=>hO.la.fits (hdCells_each _) B' c'
   have hofd:∀ B',qa9 od (dfCells ds) 12 ⟨B',L',c'⟩=true:=fun B'=>hO.lb.fits (xe9 _) B' c'
   have hofe:∀ B',qa9 od (dfCells ds) 12 ⟨B',c'::eraseO L' oh,c'+1⟩=true:=fun B'=>(hO.step hW0).lb.fits (xe9 _) B' (c'+1)
   have hlh:(hs.length+1≤1000000)=True:=eq_true (by omega)
   have hld:(ds.length+1≤1000000)=True:=eq_true (by omega)
   simp only [vqM,vt117,zA,zB,gj0,gi,gj,ent27,En.plain,En.cells_len,Nat.zero_add]
   refine ka9 (t_sameR _ _ _) ?_
   simp only [vqM]
   refine kb9 (fun hxy=>?_) (fun hxy=>?_)
   ·have hE:pickAt p a b id=entE b id:=by rw [hpk,if_pos (of_decide_eq_true hxy)]
    simp only [vqM,vt117,zB,gl,end27,natle0,Int.toNat_natCast,hg,ent27,En.plain,En.cells_len,Nat.zero_add]
    generalize entE b id=E at hE ⊢
    clear gi gj gl gi0 gj0 gl0 hagr hpk hag hag' hcf
    refine kb9 (fun hi=>?_) (fun hi=>?_)
    ·have hid:id=0:=of_decide_eq_true hi
     simp only [vqM,vt117,zA,zS,zL,zB,vsEn,Dc.cells,Nat.zero_add]
     refine kb9 (fun hh=>?_) (fun hh=>?_)
     ·simp only [vqM,vt117,zA,zS,zM,zL,zB,vsEn,hofh,qg9,ki9,hlh,wt9,Nat.zero_add]
      refine kb9 (fun ho=>?_) (fun ho=>?_)
      ·simp only [vqM,vt117,zA,zS,zM,zL,vsEn,hofe,qg9,kg9,hld,qc9,Nat.zero_add]
       rw [kf9 (by omega)]
       refine kc9 [3,4,5,6,7,8,9] ?_
       simp only [vke,zB,zA]
       refine ih _ _ ⟨_,hs++[E.h],ds++[E.d],cf,_,_,oc,_,_,_,_,_,_,_,_,_,_,(hO.step hW0).stepB hW0,rfl,rfl,hcn,by simp;omega,by simp;omega,fun hz0=>?_⟩
       obtain ⟨q1,q2,q3,q4⟩:=hfo hz0
       rw [hfold,hE]
       refine ⟨?_,?_,?_,?_⟩
       ·rw [show (addE (foldE (pickAt p a b) (ks.take k)) id E).d=_ from if_pos hid];rfl
       ·rw [show (addE (foldE (pickAt p a b) (ks.take k)) id E).threads=_ from if_pos hid];rfl
       ·rw [show (addE (foldE (pickAt p a b) (ks.take k)) id E).heads=_ from if_pos hh,q3]
       ·rw [show (addE (foldE (pickAt p a b) (ks.take k)) id E).defs=_ from if_pos ho,q4]
      ·simp only [vqM]
       rw [kf9 (by omega)]
       refine kc9 [3,4,5,6,7,8,9] ?_
       simp only [vke,zB,zA]
       refine ih _ _ ⟨_,hs++[E.h],ds,cf,_,_,oc,_,_,_,_,_,_,_,_,_,_,hO.step hW0,rfl,rfl,hcn,by simp;omega,by omega,fun hz0=>?_⟩
       obtain ⟨q1,q2,q3,q4⟩:=hfo hz0
       rw [hfold,hE]
       refine ⟨?_,?_,?_,?_⟩
       ·rw [show (addE (foldE (pickAt p a b) (ks.take k)) id E).d=_ from if_pos hid];rfl
       ·rw [show (addE (foldE (pickAt p a b) (ks.take k)) id E).threads=_ from if_pos hid];rfl
       ·rw [show (addE (foldE (pickAt p a b) (ks.take k)) id E).heads=_ from if_pos hh,q3]
       ·rw [show (addE (foldE (pickAt p a b) (ks.take k)) id E).defs=_ from if_neg (by rw [ho];simp),q4]
     ·simp only [vqM,vt117,zB,vsEn,Nat.zero_add]
      refine kb9 (fun ho=>?_) (fun ho=>?_)
      ·simp only [vqM,vt117,zA,zS,zM,zL,vsEn,hofd,qg9,kg9,hld,qc9,Nat.zero_add]
       rw [kf9 (by omega)]
       refine kc9 [3,4,5,6,7,8,9] ?_
       simp only [vke,zB,zA]
       refine ih _ _ ⟨_,hs,ds++[E.d],cf,_,_,oc,_,_,_,_,_,_,_,_,_,_,hO.stepB hW0,rfl,rfl,hcn,by omega,by simp;omega,fun hz0=>?_⟩
       obtain ⟨q1,q2,q3,q4⟩:=hfo hz0
       rw [hfold,hE]
       refine ⟨?_,?_,?_,?_⟩
       ·rw [show (addE (foldE (pickAt p a b) (ks.take k)) id E).d=_ from if_pos hid];rfl
       ·rw [show (addE (foldE (pickAt p a b) (ks.take k)) id E).threads=_ from if_pos hid];rfl
       ·rw [show (addE (foldE (pickAt p a b) (ks.take k)) id E).heads=_ from if_neg (by rw [hh];simp),q3]
       ·rw [show (addE (foldE (pickAt p a b) (ks.take k)) id E).defs=_ from if_pos ho,q4]
      ·simp only [vqM]
       rw [kf9 (by omega)]
       refine kc9 [3,4,5,6,7,8,9] ?_
       simp only [vke,zB,zA]
       refine ih _ _ ⟨_,hs,ds,cf,_,_,oc,_,_,_,_,_,_,_,_,_,_,hO,rfl,rfl,hcn,by omega,by omega,fun hz0=>?_⟩
       obtain ⟨q1,q2,q3,q4⟩:=hfo hz0
       rw [hfold,hE]
       refine ⟨?_,?_,?_,?_⟩
       ·rw [show (addE (foldE (pickAt p a b) (ks.take k)) id E).d=_ from if_pos hid];rfl
       ·rw [show (addE (foldE (pickAt p a b) (ks.take k)) id E).threads=_ from if_pos hid];rfl
       ·rw [show (addE (foldE (pickAt p a b) (ks.take k)) id E).heads=_ from if_neg (by rw [hh];simp),q3]
       ·rw [show (addE (foldE (pickAt p a b) (ks.take k)) id E).defs=_ from if_neg (by rw [ho];simp),q4]
    ·have hid:¬ id=0:=of_decide_eq_false hi
     simp only [vqM,vt117,zB,vsEn,Nat.zero_add]
     refine kb9 (fun hh=>?_) (fun hh=>?_)
     ·simp only [vqM,vt117,zA,zS,zM,zL,zB,vsEn,hofh,qg9,ki9,hlh,wt9,Nat.zero_add]
      refine kb9 (fun ho=>?_) (fun ho=>?_)
      ·simp only [vqM,vt117,zA,zS,zM,zL,vsEn,hofe,qg9,kg9,hld,qc9,Nat.zero_add]
       rw [kf9 (by omega)]
       refine kc9 [3,4,5,6,7,8,9] ?_
       simp only [vke,zB,zA]
       refine ih _ _ ⟨_,hs++[E.h],ds++[E.d],cf,_,_,oc,_,_,_,_,_,_,_,_,_,_,(hO.step hW0).stepB hW0,rfl,rfl,hcn,by simp;omega,by simp;omega,fun hz0=>?_⟩
       obtain ⟨q1,q2,q3,q4⟩:=hfo hz0
       rw [hfold,hE]
       refine ⟨?_,?_,?_,?_⟩
       ·rw [show (addE (foldE (pickAt p a b) (ks.take k)) id E).d=_ from if_neg hid];exact q1
       ·rw [show (addE (foldE (pickAt p a b) (ks.take k)) id E).threads=_ from if_neg hid];exact q2
       ·rw [show (addE (foldE (pickAt p a b) (ks.take k)) id E).heads=_ from if_pos hh,q3]
       ·rw [show (addE (foldE (pickAt p a b) (ks.take k)) id E).defs=_ from if_pos ho,q4]
      ·simp only [vqM]
       rw [kf9 (by omega)]
       refine kc9 [3,4,5,6,7,8,9] ?_
       simp only [vke,zB,zA]
       refine ih _ _ ⟨_,hs++[E.h],ds,cf,_,_,oc,_,_,_,_,_,_,_,_,_,_,hO.step hW0,rfl,rfl,hcn,by simp;omega,by omega,fun hz0=>?_⟩
       obtain ⟨q1,q2,q3,q4⟩:=hfo hz0
       rw [hfold,hE]
       refine ⟨?_,?_,?_,?_⟩
       ·rw [show (addE (foldE (pickAt p a b) (ks.take k)) id E).d=_ from if_neg hid];exact q1
       ·rw [show (addE (foldE (pickAt p a b) (ks.take k)) id E).threads=_ from if_neg hid];exact q2
       ·rw [show (addE (foldE (pickAt p a b) (ks.take k)) id E).heads=_ from if_pos hh,q3]
       ·rw [show (addE (foldE (pickAt p a b) (ks.take k)) id E).defs=_ from if_neg (by rw [ho];simp),q4]
     ·simp only [vqM,vt117,zB,vsEn,Nat.zero_add]
      refine kb9 (fun ho=>?_) (fun ho=>?_)
      ·simp only [vqM,vt117,zA,zS,zM,zL,vsEn,hofd,qg9,kg9,hld,qc9,Nat.zero_add]
       rw [kf9 (by omega)]
       refine kc9 [3,4,5,6,7,8,9] ?_
       simp only [vke,zB,zA]
       refine ih _ _ ⟨_,hs,ds++[E.d],cf,_,_,oc,_,_,_,_,_,_,_,_,_,_,hO.stepB hW0,rfl,rfl,hcn,by omega,by simp;omega,fun hz0=>?_⟩
       obtain ⟨q1,q2,q3,q4⟩:=hfo hz0
       rw [hfold,hE]
       refine ⟨?_,?_,?_,?_⟩
       ·rw [show (addE (foldE (pickAt p a b) (ks.take k)) id E).d=_ from if_neg hid];exact q1
       ·rw [show (addE (foldE (pickAt p a b) (ks.take k)) id E).threads=_ from if_neg hid];exact q2
       ·rw [show (addE (foldE (pickAt p a b) (ks.take k)) id E).heads=_ from if_neg (by rw [hh];simp),q3]
       ·rw [show (addE (foldE (pickAt p a b) (ks.take k)) id E).defs=_ from if_pos ho,q4]
      ·simp only [vqM]
       rw [kf9 (by omega)]
       refine kc9 [3,4,5,6,7,8,9] ?_
       simp only [vke,zB,zA]
       refine ih _ _ ⟨_,hs,ds,cf,_,_,oc,_,_,_,_,_,_,_,_,_,_,hO,rfl,rfl,hcn,by omega,by omega,fun hz0=>?_⟩
       obtain ⟨q1,q2,q3,q4⟩:=hfo hz0
       rw [hfold,hE]
       refine ⟨?_,?_,?_,?_⟩
       ·rw [show (addE (foldE (pickAt p a b) (ks.take k)) id E).d=_ from if_neg hid];exact q1
       ·rw [show (addE (foldE (pickAt p a b) (ks.take k)) id E).threads=_ from if_neg hid];exact q2
       ·rw [show (addE (foldE (pickAt p a b) (ks.take k)) id E).heads=_ from if_neg (by rw [hh];simp),q3]
       ·rw [show (addE (foldE (pickAt p a b) (ks.take k)) id E).defs=_ from if_neg (by rw [ho];simp),q4]
   ·have hE:pickAt p a b id=entE a id:=by rw [hpk,if_neg (of_decide_eq_false hxy)]
    simp only [vqM,vt117,zB,natle0,Int.toNat_natCast,hg,Nat.zero_add]
    generalize entE a id=E at hE ⊢
    clear gi gj gl gi0 gj0 gl0 hagr hpk hag hag' hcf
    refine kb9 (fun hi=>?_) (fun hi=>?_)
    ·have hid:id=0:=of_decide_eq_true hi
     simp only [vqM,vt117,zA,zS,zL,zB,vsEn,Dc.cells,Nat.zero_add]
     refine kb9 (fun hh=>?_) (fun hh=>?_)
     ·simp only [vqM,vt117,zA,zS,zM,zL,zB,vsEn,hofh,qg9,ki9,hlh,wt9,Nat.zero_add]
      refine kb9 (fun ho=>?_) (fun ho=>?_)
      ·simp only [vqM,vt117,zA,zS,zM,zL,vsEn,hofe,qg9,kg9,hld,qc9,Nat.zero_add]
       rw [kf9 (by omega)]
       refine kc9 [3,4,5,6,7,8,9] ?_
       simp only [vke,zB,zA]
       refine ih _ _ ⟨_,hs++[E.h],ds++[E.d],cf,_,_,oc,_,_,_,_,_,_,_,_,_,_,(hO.step hW0).stepB hW0,rfl,rfl,hcn,by simp;omega,by simp;omega,fun hz0=>?_⟩
       obtain ⟨q1,q2,q3,q4⟩:=hfo hz0
       rw [hfold,hE]
       refine ⟨?_,?_,?_,?_⟩
       ·rw [show (addE (foldE (pickAt p a b) (ks.take k)) id E).d=_ from if_pos hid];rfl
       ·rw [show (addE (foldE (pickAt p a b) (ks.take k)) id E).threads=_ from if_pos hid];rfl
       ·rw [show (addE (foldE (pickAt p a b) (ks.take k)) id E).heads=_ from if_pos hh,q3]
       ·rw [show (addE (foldE (pickAt p a b) (ks.take k)) id E).defs=_ from if_pos ho,q4]
      ·simp only [vqM]
       rw [kf9 (by omega)]
       refine kc9 [3,4,5,6,7,8,9] ?_
       simp only [vke,zB,zA]
       refine ih _ _ ⟨_,hs++[E.h],ds,cf,_,_,oc,_,_,_,_,_,_,_,_,_,_,hO.step hW0,rfl,rfl,hcn,by simp;omega,by omega,fun hz0=>?_⟩
       obtain ⟨q1,q2,q3,q4⟩:=hfo hz0
       rw [hfold,hE]
       refine ⟨?_,?_,?_,?_⟩
       ·rw [show (addE (foldE (pickAt p a b) (ks.take k)) id E).d=_ from if_pos hid];rfl
       ·rw [show (addE (foldE (pickAt p a b) (ks.take k)) id E).threads=_ from if_pos hid];rfl
       ·rw [show (addE (foldE (pickAt p a b) (ks.take k)) id E).heads=_ from if_pos hh,q3]
       ·rw [show (addE (foldE (pickAt p a b) (ks.take k)) id E).defs=_ from if_neg (by rw [ho];simp),q4]
     ·simp only [vqM,vt117,zB,vsEn,Nat.zero_add]
      refine kb9 (fun ho=>?_) (fun ho=>?_)
      ·simp only [vqM,vt117,zA,zS,zM,zL,vsEn,hofd,qg9,kg9,hld,qc9,Nat.zero_add]
       rw [kf9 (by omega)]
       refine kc9 [3,4,5,6,7,8,9] ?_
       simp only [vke,zB,zA]
       refine ih _ _ ⟨_,hs,ds++[E.d],cf,_,_,oc,_,_,_,_,_,_,_,_,_,_,hO.stepB hW0,rfl,rfl,hcn,by omega,by simp;omega,fun hz0=>?_⟩
       obtain ⟨q1,q2,q3,q4⟩:=hfo hz0
       rw [hfold,hE]
       refine ⟨?_,?_,?_,?_⟩
       ·rw [show (addE (foldE (pickAt p a b) (ks.take k)) id E).d=_ from if_pos hid];rfl
       ·rw [show (addE (foldE (pickAt p a b) (ks.take k)) id E).threads=_ from if_pos hid];rfl
       ·rw [show (addE (foldE (pickAt p a b) (ks.take k)) id E).heads=_ from if_neg (by rw [hh];simp),q3]
       ·rw [show (addE (foldE (pickAt p a b) (ks.take k)) id E).defs=_ from if_pos ho,q4]
      ·simp only [vqM]
       rw [kf9 (by omega)]
       refine kc9 [3,4,5,6,7,8,9] ?_
       simp only [vke,zB,zA]
       refine ih _ _ ⟨_,hs,ds,cf,_,_,oc,_,_,_,_,_,_,_,_,_,_,hO,rfl,rfl,hcn,by omega,by omega,fun hz0=>?_⟩
       obtain ⟨q1,q2,q3,q4⟩:=hfo hz0
       rw [hfold,hE]
       refine ⟨?_,?_,?_,?_⟩
       ·rw [show (addE (foldE (pickAt p a b) (ks.take k)) id E).d=_ from if_pos hid];rfl
       ·rw [show (addE (foldE (pickAt p a b) (ks.take k)) id E).threads=_ from if_pos hid];rfl
       ·rw [show (addE (foldE (pickAt p a b) (ks.take k)) id E).heads=_ from if_neg (by rw [hh];simp),q3]
       ·rw [show (addE (foldE (pickAt p a b) (ks.take k)) id E).defs=_ from if_neg (by rw [ho];simp),q4]
    ·have hid:¬ id=0:=of_decide_eq_false hi
     simp only [vqM,vt117,zB,vsEn,Nat.zero_add]
     refine kb9 (fun hh=>?_) (fun hh=>?_)
     ·simp only [vqM,vt117,zA,zS,zM,zL,zB,vsEn,hofh,qg9,ki9,hlh,wt9,Nat.zero_add]
      refine kb9 (fun ho=>?_) (fun ho=>?_)
      ·simp only [vqM,vt117,zA,zS,zM,zL,vsEn,hofe,qg9,kg9,hld,qc9,Nat.zero_add]
       rw [kf9 (by omega)]
       refine kc9 [3,4,5,6,7,8,9] ?_
       simp only [vke,zB,zA]
       refine ih _ _ ⟨_,hs++[E.h],ds++[E.d],cf,_,_,oc,_,_,_,_,_,_,_,_,_,_,(hO.step hW0).stepB hW0,rfl,rfl,hcn,by simp;omega,by simp;omega,fun hz0=>?_⟩
       obtain ⟨q1,q2,q3,q4⟩:=hfo hz0
       rw [hfold,hE]
       refine ⟨?_,?_,?_,?_⟩
       ·rw [show (addE (foldE (pickAt p a b) (ks.take k)) id E).d=_ from if_neg hid];exact q1
       ·rw [show (addE (foldE (pickAt p a b) (ks.take k)) id E).threads=_ from if_neg hid];exact q2
       ·rw [show (addE (foldE (pickAt p a b) (ks.take k)) id E).heads=_ from if_pos hh,q3]
       ·rw [show (addE (foldE (pickAt p a b) (ks.take k)) id E).defs=_ from if_pos ho,q4]
      ·simp only [vqM]
       rw [kf9 (by omega)]
       refine kc9 [3,4,5,6,7,8,9] ?_
       simp only [vke,zB,zA]
       refine ih _ _ ⟨_,hs++[E.h],ds,cf,_,_,oc,_,_,_,_,_,_,_,_,_,_,hO.step hW0,rfl,rfl,hcn,by simp;omega,by omega,fun hz0=>?_⟩
       obtain ⟨q1,q2,q3,q4⟩:=hfo hz0
       rw [hfold,hE]
       refine ⟨?_,?_,?_,?_⟩
       ·rw [show (addE (foldE (pickAt p a b) (ks.take k)) id E).d=_ from if_neg hid];exact q1
       ·rw [show (addE (foldE (pickAt p a b) (ks.take k)) id E).threads=_ from if_neg hid];exact q2
       ·rw [show (addE (foldE (pickAt p a b) (ks.take k)) id E).heads=_ from if_pos hh,q3]
       ·rw [show (addE (foldE (pickAt p a b) (ks.take k)) id E).defs=_ from if_neg (by rw [ho];simp),q4]
     ·simp only [vqM,vt117,zB,vsEn,Nat.zero_add]
      refine kb9 (fun ho=>?_) (fun ho=>?_)
      ·simp only [vqM,vt117,zA,zS,zM,zL,vsEn,hofd,qg9,kg9,hld,qc9,Nat.zero_add]
       rw [kf9 (by omega)]
       refine kc9 [3,4,5,6,7,8,9] ?_
       simp only [vke,zB,zA]
       refine ih _ _ ⟨_,hs,ds++[E.d],cf,_,_,oc,_,_,_,_,_,_,_,_,_,_,hO.stepB hW0,rfl,rfl,hcn,by omega,by simp;omega,fun hz0=>?_⟩
       obtain ⟨q1,q2,q3,q4⟩:=hfo hz0
       rw [hfold,hE]
       refine ⟨?_,?_,?_,?_⟩
       ·rw [show (addE (foldE (pickAt p a b) (ks.take k)) id E).d=_ from if_neg hid];exact q1
       ·rw [show (addE (foldE (pickAt p a b) (ks.take k)) id E).threads=_ from if_neg hid];exact q2
       ·rw [show (addE (foldE (pickAt p a b) (ks.take k)) id E).heads=_ from if_neg (by rw [hh];simp),q3]
       ·rw [show (addE (foldE (pickAt p a b) (ks.take k)) id E).defs=_ from if_pos ho,q4]
      ·simp only [vqM]
       rw [kf9 (by omega)]
       refine kc9 [3,4,5,6,7,8,9] ?_
       simp only [vke,zB,zA]
       refine ih _ _ ⟨_,hs,ds,cf,_,_,oc,_,_,_,_,_,_,_,_,_,_,hO,rfl,rfl,hcn,by omega,by omega,fun hz0=>?_⟩
       obtain ⟨q1,q2,q3,q4⟩:=hfo hz0
       rw [hfold,hE]
       refine ⟨?_,?_,?_,?_⟩
       ·rw [show (addE (foldE (pickAt p a b) (ks.take k)) id E).d=_ from if_neg hid];exact q1
       ·rw [show (addE (foldE (pickAt p a b) (ks.take k)) id E).threads=_ from if_neg hid];exact q2
       ·rw [show (addE (foldE (pickAt p a b) (ks.take k)) id E).heads=_ from if_neg (by rw [hh];simp),q3]
       ·rw [show (addE (foldE (pickAt p a b) (ks.take k)) id E).defs=_ from if_neg (by rw [ho];simp),q4]
 ·rintro e s ⟨X,hs,ds,cf,oh,od,oc,L',c',d0,d1,d2,d3,d4,d5,d6,TH,hO,rfl,rfl,hcf,hln1,hln2,hfo⟩
  have hklt:((ks.length:Int)<(ks.length:Int))=False:=by simp
  rw [List.take_length] at hcf hfo
  have hm:foldE (pickAt p a b) ks=wu9 p a b:=by rw [wu9,hKS]
  have hc:cf=conflS p a b:=by rw [hcf,conflS,hKS]
  rw [hm] at hfo
  have hz:(12≤mgZ.length)=True:=by simp [mgZ,Pg.zc]
  have hz2:List.drop 12 mgZ=[]:=rfl
  simp only [vqM,vt117,zA,zB,kd9,hklt,decide_false]
  refine kb9 (fun h0=>?_) (fun h0=>?_)
  ·have hpos:(conflS p a b).length > 0:=by have:=of_decide_eq_true h0;rw [← hc];omega
   have h3:threeS p a b=(Pg.zero,conflS p a b,270):=if_pos hpos
   have hkp:(D.slice oc (intCells cf)).keep1.plain1.plain1=.slice .none (intCells cf):=by cases oc <;> rfl
   simp only [vqM,vt117,zA,zL,zB,hz,hz2]
   refine ke9 (.inr rfl) ?_ (kv9 (Mg.bd _)) hO.sub hO.le
   simp only [vqM,vt117,zA,hkp]
   rw [h3,← hc]
   rfl
  ·have hpos:¬ (conflS p a b).length > 0:=by have:=of_decide_eq_false h0;rw [← hc];omega
   obtain ⟨dc2,th1,hhs,hds⟩:=hfo (by rw [hc];exact List.eq_nil_of_length_eq_zero (by omega))
   have hpl:[d0.plain1,d1.plain1,d2.plain1,d3.plain1,d4.plain1,d5.plain1,d6.plain1,D.slice .none (kr9 hs),.slice .none (dfCells ds),TH.plain1]=(wu9 p a b).cells:=by
    show List.map D.plain1 [d0,d1,d2,d3,d4,d5,d6]++[D.slice .none (kr9 hs),.slice .none (dfCells ds),TH.plain1]=_
    rw [dc2,th1,hhs,hds]
    rfl
   have hpp:∀ d:D,d.plain1.plain1=d.plain1:=fun d=>by cases d <;> rfl
   simp only [vqM,vt117,zA,zL,zB,hpl]
   refine ka9 (t_ProgramR _ PO _) ?_
   simp only [vqM]
   refine kb9 (fun h1=>?_) (fun h1=>?_)
   ·have h2:=of_decide_eq_true h1
    have h3:threeS p a b=(Pg.zero,[],wf9 (wu9 p a b)):=by rw [threeS,if_neg hpos,if_pos h2]
    simp only [vqM,vt117,zA,zL,zB,hpl]
    refine ka9 (t_ProgramR _ PO _) ?_
    simp only [vqM,vt117,zA,hz,hz2]
    refine ke9 (.inr rfl) ?_ (kv9 (Mg.bd _)) hO.sub hO.le
    simp only [vqM,vt117,zA]
    rw [h3]
    rfl
   ·have h2:=of_decide_eq_false h1
    have h3:threeS p a b=(wu9 p a b,[],0):=by rw [threeS,if_neg hpos,if_neg h2]
    simp only [vqM,vt117,zA,zB,hz,hz2]
    refine ke9 (.inr rfl) ?_ (kv9 (Mg.bd _)) hO.sub hO.le
    simp only [vqM,vt117,zA,hpp]
    rw [h3,show cf=[] by rw [hc];exact List.eq_nil_of_length_eq_zero (by omega)]
    show some (D.agg ([d0.plain1,d1.plain1,d2.plain1,d3.plain1,d4.plain1,d5.plain1,d6.plain1,D.slice .none (kr9 hs),.slice .none (dfCells ds),TH.plain1]++[D.slice .none (intCells []),.int .i64 0]))=_
    rw [hpl]
    rfl
def ws9 (id site:Int) (s:ByteArray):Df:=⟨id,site,s,0,0,[],[],0,0,[],1,[]⟩
def xm9 (a b:ByteArray):Pg:=withH ⟨declared,[],[ws9 11 1 a,ws9 12 2 b],[]⟩
structure NmOk (a:ByteArray):Prop where
 nm:nameB a=true
 sz:a.size≤8
theorem headB_named {id site:Int} {s:ByteArray} (h:NmOk s) (h1:inB id 1 1073741824=true) (h2:inB site 1 1073741824=true):headB (ws9 id site s) declared=true:=by
 have e:headB (ws9 id site s) declared=(inB id 1 1073741824 && inB site 1 1073741824 && nameB s && inB 0 0 (w64 (declared.firms - 1)) && inB 0 0 (w64 (declared.parts - 1)) && inB 0 0 12 && inB 0 0 4 && inB 1 1 20000 && true && true && true):=rfl
 rw [e,h1,h2,h.nm]
 decide +kernel
theorem defB_named {id site:Int} {s:ByteArray} (h:NmOk s) (h1:inB id 1 1073741824=true) (h2:inB site 1 1073741824=true):defB (ws9 id site s) declared=true:=by
 rw [defB,headB_named h h1 h2];rfl
theorem named_right {a b:ByteArray} (ha:NmOk a) (hb:NmOk b):Right (xm9 a b) where
 dc:=declared_ok
 hl:=by show 2≤40;omega
 hid:=by show List.Pairwise (fun a b:Hd=>a.id<b.id) [headOf (ws9 11 1 a),headOf (ws9 12 2 b)];simp [headOf,ws9]
 hok:=fun h hh=>by
  have:h=headOf (ws9 11 1 a)∨h=headOf (ws9 12 2 b):=by
   have h':h ∈ [headOf (ws9 11 1 a),headOf (ws9 12 2 b)]:=hh
   simpa using h'
  rcases this with rfl | rfl
  ·show headFine declared ⟨11,0,0,[],[]⟩=true
   decide +kernel
  ·show headFine declared ⟨12,0,0,[],[]⟩=true
   decide +kernel
 dl:=by show 2≤40;omega
 did:=by show List.Pairwise (fun a b:Df=>a.id<b.id) [ws9 11 1 a,ws9 12 2 b];simp [ws9]
 hof:=fun d hd=>by
  have hd':d ∈ [ws9 11 1 a,ws9 12 2 b]:=hd
  exact List.mem_map.2 ⟨d,hd',rfl⟩
 dok:=fun d hd=>by
  have hd':d ∈ [ws9 11 1 a,ws9 12 2 b]:=hd
  simp only [List.mem_cons,List.not_mem_nil,or_false] at hd'
  rcases hd' with rfl | rfl
  ·exact defB_named ha (by decide +kernel) (by decide +kernel)
  ·exact defB_named hb (by decide +kernel) (by decide +kernel)
 ca:=fun d hd q hq=>by
  have hd':d ∈ [ws9 11 1 a,ws9 12 2 b]:=hd
  simp only [List.mem_cons,List.not_mem_nil,or_false] at hd'
  rcases hd' with rfl | rfl <;> (have hq':q ∈ ([]:List Pl):=hq) <;> simp at hq'
 st:=by show ([1,2]:List Int).Nodup;decide
 tl:=by show 0≤4;omega
 th:=fun t ht=>by
  have ht':t ∈ ([]:List Int):=ht
  simp at ht'
 sz:=fun d hd=>by
  have hd':d ∈ [ws9 11 1 a,ws9 12 2 b]:=hd
  have h1:=ha.sz
  have h2:=hb.sz
  simp only [List.mem_cons,List.not_mem_nil,or_false] at hd'
  rcases hd' with rfl | rfl
  ·exact ⟨by show a.size≤_;omega,by show 0<1000000;omega,by show 0≤12;omega⟩
  ·exact ⟨by show b.size≤_;omega,by show 0<1000000;omega,by show 0≤12;omega⟩
theorem named_mrg {a b:ByteArray} (ha:NmOk a) (hb:NmOk b):Mrg (xm9 a b) where
 nc:={ hid:=(named_right ha hb).hid,pos:=fun h hh=>by have:=headFine_id ((named_right ha hb).hok h hh);omega,hds:=rfl }
 pr:=(named_right ha hb).prog
 ok:=(named_right ha hb).pgok
 hl:=(named_right ha hb).hl
def entN (id:Int) (s:ByteArray) (site:Int):En:=⟨true,true,headOf (ws9 id site s),ws9 id site s,Dc.zero,[]⟩
theorem entE_named (a b:ByteArray) (id:Int):entE (xm9 a b) id=if id=0 then ⟨false,false,Hd.zero,Df.zero,declared,[]⟩ else if id=11 then entN 11 a 1 else if id=12 then entN 12 b 2 else En.zero:=by
 unfold entE
 by_cases h0:id=0
 ·rw [if_pos h0,if_pos h0];rfl
 rw [if_neg h0,if_neg h0]
 have e1:headS (xm9 a b) id=if id=11 then some (headOf (ws9 11 1 a)) else if id=12 then some (headOf (ws9 12 2 b)) else none:=by
  show List.find? _ [headOf (ws9 11 1 a),headOf (ws9 12 2 b)]=_
  by_cases h1:id=11
  ·subst h1;rfl
  rw [if_neg h1,List.find?_cons_of_neg (fun h=>h1 (of_decide_eq_true h).symm)]
  by_cases h2:id=12
  ·subst h2;rfl
  rw [if_neg h2,List.find?_cons_of_neg (fun h=>h2 (of_decide_eq_true h).symm)];rfl
 rw [e1]
 by_cases h1:id=11
 ·subst h1;rfl
 rw [if_neg h1,if_neg h1]
 by_cases h2:id=12
 ·subst h2;rfl
 rw [if_neg h2,if_neg h2]
theorem entN_eq {id site:Int} {a b:ByteArray}:entN id a site=entN id b site↔a=b:=by
 constructor
 ·intro h
  have:=congrArg (fun e:En=>e.d.name) h
  exact this
 ·rintro rfl;rfl
theorem three_named {a b c d e f x y:ByteArray} (hx:NmOk x) (hy:NmOk y) (h1:(c=e∧x=c)∨(c≠e∧a=e∧x=c)∨(c≠e∧a≠e∧a=c∧x=e)) (h2:(d=f∧y=d)∨(d≠f∧b=f∧y=d)∨(d≠f∧b≠f∧b=d∧y=f)) :
  threeS (xm9 a b) (xm9 c d) (xm9 e f)=(xm9 x y,[],0):=by
 have hp:∀ id,agreeE (entE (xm9 a b) id) (entE (xm9 c d) id) (entE (xm9 e f) id)=true∧pickAt (xm9 a b) (xm9 c d) (xm9 e f) id=entE (xm9 x y) id:=by
  intro id
  rw [pickAt]
  simp only [entE_named]
  by_cases h0:id=0
  ·subst h0;simp [agreeE,pickE]
  by_cases h11:id=11
  ·subst h11
   simp only [h0,if_false,if_true,agreeE,pickE,entN_eq,Bool.or_eq_true,decide_eq_true_eq]
   rcases h1 with ⟨p1,p2⟩ | ⟨p1,p2,p3⟩ | ⟨p1,p2,p3,p4⟩
   ·simp [p1,p2]
   ·simp [p2,p3]
   ·simp [p1,p3,p4] <;> simp_all
  by_cases h12:id=12
  ·subst h12
   simp only [h0,h11,if_false,if_true,agreeE,pickE,entN_eq,Bool.or_eq_true,decide_eq_true_eq]
   rcases h2 with ⟨p1,p2⟩ | ⟨p1,p2,p3⟩ | ⟨p1,p2,p3,p4⟩
   ·simp [p1,p2]
   ·simp [p2,p3]
   ·simp [p1,p3,p4] <;> simp_all
  simp [h0,h11,h12,agreeE,pickE]
 refine three_ok (fun id=>(hp id).1) ?_ (named_right hx hy).prog
 unfold wu9
 rw [foldE_congr (g:=entE (xm9 x y)) fun id _=>(hp id).2]
 exact fold_nice (named_mrg hx hy).nc (keys_lt _) fun id hid=>mem_keys3.2 (.inl hid)
theorem named_confl {a b c d e f:ByteArray} (h1:c≠e∧a≠e∧a≠c) (h2:d=f):threeS (xm9 a b) (xm9 c d) (xm9 e f)=(Pg.zero,[11],270):=by
 have hc:conflS (xm9 a b) (xm9 c d) (xm9 e f)=[11]:=by
  refine lt_ext ((keys_lt _).filter _) (by simp) fun id=>?_
  unfold conflS
  rw [List.mem_filter,mem_keys3]
  simp only [List.mem_singleton,entE_named]
  constructor
  ·rintro ⟨_,h⟩
   by_cases h11:id=11
   ·exact h11
   by_cases h0:id=0
   ·subst h0;simp [agreeE] at h
   by_cases h12:id=12
   ·subst h12;subst h2;simp [agreeE] at h
   simp [h0,h11,h12,agreeE] at h
  ·rintro rfl
   refine ⟨.inl (by show (11:Int) ∈ [0,11,12];simp),?_⟩
   simp [agreeE,entN_eq,h1.1,h1.2.1,h1.2.2]
 rw [threeS,hc];rfl
theorem changed_named {a b c d:ByteArray} (h1:a≠c) (h2:b≠d):wy9 (xm9 a b) (xm9 c d)=[11,12]:=by
 refine lt_ext (l:=wy9 (xm9 a b) (xm9 c d)) ((keys_lt _).filter _) (by simp) fun id=>?_
 rw [show (id ∈ wy9 (xm9 a b) (xm9 c d)↔_) from mem_changed]
 simp only [entE_named]
 constructor
 ·intro h
  by_cases h11:id=11
  ·simp [h11]
  by_cases h0:id=0
  ·subst h0;simp at h
  by_cases h12:id=12
  ·simp [h12]
  simp [h0,h11,h12] at h
 ·intro h
  simp only [List.mem_cons,List.not_mem_nil,or_false] at h
  rcases h with rfl | rfl
  ·simp [entN_eq,h1]
  ·simp [entN_eq,h2]
theorem changed_self (p:Pg):wy9 p p=[]:=by
 refine List.filter_eq_nil_iff.2 fun id _=>by simp
theorem t_named27 (a b:ByteArray) (s:St):Spec Tryz.prog 23 [.str a,.str b] s (.agg (xm9 a b).cells) s:=by
 obtain ⟨B,L,c⟩:=s
 refine Spec.introN [] Tryz.func23 rfl (by decide) hmix (by kernel_rfl) [ResultVar.cell 4 37] 15 rfl rfl ?_
 simp only [vqM,vt118,zA,zS,zM,zL]
 refine ka9 (t_declared _) ?_
 simp only [vqM,vt118,zA,zL]
 refine ka9 (t_WithHeads ⟨declared,[],[ws9 11 1 a,ws9 12 2 b],[]⟩ (by show 2≤100000;omega) _) ?_
 have hpz:Pg.zc.length=10:=rfl
 simp only [vqM,vt118,zA]
 refine ke9 (.inr rfl) ?_ (kv9 (Pg.bd _)) (fun _ h=>h) (Nat.le_refl _)
 simp only [vqM,vt118]
 rfl
theorem nmOk1 {c:UInt8} (h:nameB ⟨#[c]⟩=true):NmOk ⟨#[c]⟩:=⟨h,by show 1≤8;omega⟩
theorem nmX:NmOk ⟨#[120]⟩:=nmOk1 (by decide +kernel)
theorem nmY:NmOk ⟨#[121]⟩:=nmOk1 (by decide +kernel)
theorem nmA:NmOk ⟨#[97]⟩:=nmOk1 (by decide +kernel)
theorem nmB:NmOk ⟨#[98]⟩:=nmOk1 (by decide +kernel)
theorem nmC:NmOk ⟨#[99]⟩:=nmOk1 (by decide +kernel)
def Ex27 (B:List Box) (L:List Nat) (c:Nat) (e:List D) (s:St):Prop:=∃ i j C,keep [1,2,3] e=[J,.box B.length 0,.box i 0,.box j 0,J,J,J,J,J,J,J,J,J,J,J,J,J,J,J,J,J,J,J,J,J,J,J,J,J,J,J,J,J,J,J,J,J,J,J,J,J,J,J,J,J,J,J,J,J,J,J,J,J,J,J,J,J,J,J,J,J,J,J,J,J,J,J,J,J,J]∧s=⟨B++C,L,c⟩∧(B++C)[B.length]? = some (.cells (xm9 ⟨#[120]⟩ ⟨#[121]⟩).cells)∧(B++C)[i]? = some (.cells (mgS (xm9 ⟨#[97]⟩ ⟨#[98]⟩,[],0)).cells)∧(B++C)[j]? = some (.cells (mgS (Pg.zero,[11],270)).cells)
theorem ex27_mk {B C:List Box} {L:List Nat} {c i j:Nat} {e:List D} {s:St} (h1:keep [1,2,3] e=[J,.box B.length 0,.box i 0,.box j 0,J,J,J,J,J,J,J,J,J,J,J,J,J,J,J,J,J,J,J,J,J,J,J,J,J,J,J,J,J,J,J,J,J,J,J,J,J,J,J,J,J,J,J,J,J,J,J,J,J,J,J,J,J,J,J,J,J,J,J,J,J,J,J,J,J,J]) (h2:s=⟨B++C,L,c⟩) (h3:(B++C)[B.length]? = some (.cells (xm9 ⟨#[120]⟩ ⟨#[121]⟩).cells)) (h4:(B++C)[i]? = some (.cells (mgS (xm9 ⟨#[97]⟩ ⟨#[98]⟩,[],0)).cells)) (h5:(B++C)[j]? = some (.cells (mgS (Pg.zero,[11],270)).cells)):Ex27 B L c e s:=⟨i,j,C,h1,h2,h3,h4,h5⟩
theorem t_examples27 (s:St):Spec Tryz.prog 9 [] s (.bool true) s:=by
 have e1:=@three_named ⟨#[120]⟩ ⟨#[121]⟩ ⟨#[97]⟩ ⟨#[121]⟩ ⟨#[120]⟩ ⟨#[98]⟩ ⟨#[97]⟩ ⟨#[98]⟩ nmA nmB (by decide +kernel) (by decide +kernel)
 have e2:=@named_confl ⟨#[120]⟩ ⟨#[121]⟩ ⟨#[97]⟩ ⟨#[121]⟩ ⟨#[99]⟩ ⟨#[121]⟩ (by decide +kernel) rfl
 have e3:=@three_named ⟨#[120]⟩ ⟨#[121]⟩ ⟨#[97]⟩ ⟨#[121]⟩ ⟨#[97]⟩ ⟨#[98]⟩ ⟨#[97]⟩ ⟨#[98]⟩ nmA nmB (by decide +kernel) (by decide +kernel)
 have e4:=@changed_named ⟨#[120]⟩ ⟨#[121]⟩ ⟨#[97]⟩ ⟨#[98]⟩ (by decide +kernel) (by decide +kernel)
 have e5:=changed_self (xm9 ⟨#[120]⟩ ⟨#[121]⟩)
 have m0:=(named_mrg nmX nmY).n
 have m1:=(named_mrg nmA nmY).n
 have m2:=(named_mrg nmX nmB).n
 have m3:=(named_mrg nmC nmY).n
 have m4:=(named_mrg nmA nmB).n
 obtain ⟨B,L,c⟩:=s
 refine Spec.introN [(1,.cut),(2,.stop),(3,.text [false,false,false,false,true,true] [(0,1),(1,1),(2,1),(3,1)]),(4,.text [false,false,false,false,false,false,true,true,false,false,false,false,false,false,false,false,false,false,true,false,false,false,false,false,false,false,false,false,false,false,false,false,false,false,false,true,true,false,false,false,true,true,false,true,false,false,false,false,true,false,false,false,false] [(5,1),(34,4),(39,6)])] Tryz.func9 rfl (by decide) hmix (by kernel_rfl) [ResultVar.tmp 0] 70 rfl rfl ?_
 simp only [vqM,zS,zB]
 refine seq_go ?_
 simp only [vqM]
 refine ka9 (t_named27 _ _ _) ?_
 simp only [vqM,vt119,zA]
 refine awN_seq ?_
 refine awN_open fun _=>?_
 refine awI_cutI (Ex27 B L c) ?_ ?_
 ·skip
  refine awI_drawM hmix [8,9,10,11] [⟨[0,1,2,3,4,5,6,7,8,9,10,11],[(0,1),(0,2),(1,1),(1,2),(2,1),(2,2),(3,1),(3,2),(4,1),(4,2),(5,1),(5,2),(6,1),(6,2),(7,1),(7,2)]⟩,⟨[0,1,2,3,4,5,6,7,9,8,10,11],[(0,1),(0,2),(1,1),(1,2),(2,1),(2,2),(3,1),(3,2),(4,1),(4,2),(5,1),(5,2),(6,1),(6,2),(7,1),(7,2)]⟩] (by kernel_rfl) fun pl hpl=>?_
  simp only [List.mem_cons,List.not_mem_nil,or_false] at hpl
  rcases hpl with rfl | rfl
  all_goals
   simp only [vqM,vt119,zB,List.getD_cons_zero,List.getD_cons_succ,List.contains_cons,List.contains_nil,Bool.or_false,Bool.or_true]
  all_goals
   repeat' (first
    | (with_reducible refine xq9 ?_ ?_)
    | (with_reducible refine And.intro ?_ ?_)
    | ((with_reducible refine kh9 ?_);refine ka9 (t_named27 _ _ _) ?_;simp only [vqM,List.getD_cons_zero,List.getD_cons_succ])
    | ((with_reducible refine kh9 ?_);refine ka9 (t_three27 _ _ _ m0 m1 m2 _) ?_;simp only [vqM,vt119,List.getD_cons_zero,List.getD_cons_succ,e1])
    | ((with_reducible refine kh9 ?_);refine ka9 (t_three27 _ _ _ m0 m1 m3 _) ?_;simp only [vqM,vt119,zA,vsMg,List.getD_cons_zero,List.getD_cons_succ,e2])
    | ((with_reducible refine kh9 ?_);refine ka9 (t_three27 _ _ _ m0 m1 m4 _) ?_;simp only [vqM,vt119,zA,zS,zM,zL,zE,zB,reduceCtorEq,vsMg,List.getD_cons_zero,List.getD_cons_succ,List.contains_cons,List.contains_nil,Bool.or_false,Bool.or_true,Bool.true_or,Bool.false_or,e1,e2])
    | (with_reducible refine is_pN ?_;simp only [vqM]))
  all_goals
   refine kj9 ?_
   apply ex27_mk
   ·simp only [vke,zB,zA]
    rfl
   ·rfl
   all_goals (first | (simp only [wi9,wd9,List.getElem?_cons_succ,List.getElem?_cons_zero];done) | (simp only [wi9,wd9,List.getElem?_cons_succ,List.getElem?_cons_zero];rfl) | (simp only [zA,wi9];rfl) | trace_state)
 rintro e s ⟨i2,i3,C,he,rfl,h0,h2,h3⟩
 simp only [vqM]
 refine kc9 [1,2,3] ?_
 rw [he]
 clear he
 obtain ⟨B2,hB2⟩:∃ B2,B2=B++C:=⟨_,rfl⟩
 rw [← hB2] at h0 h2 h3 ⊢
 refine xk9 hmix ?_
 have d0:∀ q:Mg,List.drop 12 q.cells=[]:=fun _=>rfl
 have d1:(mgS (xm9 ⟨#[97]⟩ ⟨#[98]⟩,[],0)).e=0:=rfl
 have d2:(mgS (Pg.zero,[11],270)).e=270:=rfl
 have d3:(mgS (xm9 ⟨#[97]⟩ ⟨#[98]⟩,[],0)).p=xm9 ⟨#[97]⟩ ⟨#[98]⟩:=rfl
 have d4:(mgS (Pg.zero,[11],270)).c=[11]:=rfl
 have d5:(dfCells (mgS (Pg.zero,[11],270)).p.defs).length=0:=rfl
 simp only [vqM,vt119,zB,h0]
 repeat' (first
  | (with_reducible refine xq9 ?_ ?_)
  | (with_reducible refine And.intro ?_ ?_)
  | ((with_reducible refine kh9 ?_);refine ka9 (t_named27 _ _ _) ?_;simp only [vqM])
  | ((with_reducible refine kh9 ?_);refine ka9 (t_three27 _ _ _ m0 m1 m2 _) ?_;simp only [vqM,vt119,zA,zS,zM,zL,zE,zB,reduceCtorEq,h0,h2,h3,vsMg,e3,e4,e5,d0,List.append_nil,kx9 h2,kx9 h3,kx9 h0,d1,d2,d3,d4,d5,decide_true,kd9])
  | ((with_reducible refine kh9 ?_);refine ka9 (t_three27 _ _ _ m0 m1 m3 _) ?_;simp only [vqM,vt119,zA,zS,zM,zL,zE,zB,reduceCtorEq,h0,h2,h3,vsMg,e3,e4,e5,d0,List.append_nil,kx9 h2,kx9 h3,kx9 h0,d1,d2,d3,d4,d5,decide_true,kd9])
  | ((with_reducible refine kh9 ?_);refine ka9 (t_three27 _ _ _ m0 m1 m4 _) ?_;simp only [vqM,vt119,zA,vsMg,e3,List.append_nil,kx9 h0])
  | ((with_reducible refine kh9 ?_);refine ka9 (t_Changed _ _ m0.nc m4.nc m0.hl m4.hl _) ?_;simp only [vqM,vt119,zA,zM,zL,e4])
  | ((with_reducible refine kh9 ?_);refine ka9 (t_Changed _ _ m0.nc m0.nc m0.hl m0.hl _) ?_;simp only [vqM,vt119,zL,vsMg,e5,kx9 h2,kx9 h0,d3,decide_true,kd9])
  | ((with_reducible refine kh9 ?_);refine ka9 (t_SameProgramF _ _ _) ?_;simp only [vqM,vt119,zA,zM,zL,vsMg,kx9 h3,kx9 h0,d2,d4,decide_true])
  | ((with_reducible refine kh9 ?_);refine ka9 (yb9 _ [11] _) ?_;simp only [vqM,vt119,zA,zL,vsMg,kx9 h3,d1,d3,d5,decide_true])
  | ((with_reducible refine kh9 ?_);refine ka9 (yb9 _ [11,12] _) ?_;simp only [vqM,vt119,kx9 h0,decide_true])
  | (with_reducible refine is_pN ?_;simp only [vqM,vt119,zA,zL,zB,vsMg,kx9 h2,d1,d3,decide_true]))
 rw [hB2,List.append_assoc]
 refine ke9 (.inr rfl) ?_ (.bool _) (fun _ h=>h) (Nat.le_refl _)
 simp only [vqM]
def inp27 (b:List Int) (l m:List Cg):D:=.agg [.slice .none (byteCells b),.slice .none (cgCells l),.slice .none (cgCells m)]
end Go.V
namespace Go.V
open Go.ChangeShapes Go.WideShapes
structure BytesT (P:Program) (t e:TypeId):Prop where
 sl:P.underlying t=some (.slice e)
 el:P.underlying e=some (.int .u8)
theorem In.bytes {P:Program} {t e:TypeId} (T:BytesT P t e) {ds:List D} (h:In P t ds):∃ b:List Int,(∀ x ∈ b,0≤x∧x<256)∧ds=[.slice .none (byteCells b)]:=by
 obtain ⟨xs,rfl,hx,_,_⟩:=h.slice_inv T.sl
 have key:∀ xs:List (List D),(∀ x ∈ xs,In P e x)→∃ b:List Int,(∀ x ∈ b,0≤x∧x<256)∧xs=byteCells b:=by
  intro xs
  induction xs with
  | nil=>intro _;exact ⟨[],fun x h=>by simp at h,rfl⟩
  | cons x xs ih =>
   intro h
   obtain ⟨b,h1,h2⟩:=ih fun y hy=>h y (by simp [hy])
   obtain ⟨n,rfl,hw⟩:=(h x (by simp)).int_inv T.el
   refine ⟨n::b,fun y hy=>?_,by rw [h2];rfl⟩
   rcases List.mem_cons.1 hy with rfl | hy
   ·have h1:IntKind.u8.min=0:=rfl
    have h2:IntKind.u8.max=255:=rfl
    simp only [Lit.wf,Bool.and_eq_true,decide_eq_true_eq] at hw
    omega
   ·exact h1 y hy
 obtain ⟨b,h1,h2⟩:=key xs hx
 exact ⟨b,h1,by rw [h2]⟩
structure CgT (P:Program) (t e:TypeId) (f0 f1 f2:Field):Prop where
 sl:P.underlying t=some (.slice e)
 st:P.underlying e=some (.struct #[f0,f1,f2])
 ce:P.cellsOf e=3
 u0:P.underlying f0.type=some (.int .u8)
 u1:P.underlying f1.type=some (.int .u8)
 u2:P.underlying f2.type=some (.int .u8)
 off:[f0.offset,f1.offset,f2.offset]=[0,1,2]
 cel:[P.cellsOf f0.type,P.cellsOf f1.type,P.cellsOf f2.type]=[1,1,1]
theorem u8_inV {n:Int} (hw:(Lit.int .u8 n).wf=true):0≤n∧n<256:=by
 have h1:IntKind.u8.min=0:=rfl
 have h2:IntKind.u8.max=255:=rfl
 simp only [Lit.wf,Bool.and_eq_true,decide_eq_true_eq] at hw
 omega
theorem In.cg {P:Program} {t e:TypeId} {f0 f1 f2:Field} (T:CgT P t e f0 f1 f2) {ds:List D} (h:In P t ds):∃ l:List Cg,(∀ z ∈ l,z.Ok)∧ds=[.slice .none (cgCells l)]:=by
 obtain ⟨xs,rfl,hx,_,_⟩:=h.slice_inv T.sl
 have one:∀ x,In P e x→∃ z:Cg,z.Ok∧x=z.cells:=by
  intro x hx
  obtain ⟨hl,hf⟩:=hx.struct_inv T.st
  rw [T.ce] at hl
  obtain ⟨d0,d1,d2,rfl⟩:∃ d0 d1 d2,x=[d0,d1,d2]:=by
   match x,hl with
   | [a,b,c],_=>exact ⟨a,b,c,rfl⟩
  have ho:=T.off
  have hc:=T.cel
  simp only [List.cons.injEq,and_true] at ho hc
  have h0:=hf f0 (by simp)
  have h1:=hf f1 (by simp)
  have h2:=hf f2 (by simp)
  rw [ho.1,hc.1] at h0
  rw [ho.2.1,hc.2.1] at h1
  rw [ho.2.2,hc.2.2] at h2
  obtain ⟨n0,e0,w0⟩:=h0.int_inv T.u0
  obtain ⟨n1,e1,w1⟩:=h1.int_inv T.u1
  obtain ⟨n2,e2,w2⟩:=h2.int_inv T.u2
  simp at e0 e1 e2
  subst e0 e1 e2
  exact ⟨⟨n0,n1,n2⟩,⟨u8_inV w0,u8_inV w1,u8_inV w2⟩,rfl⟩
 have key:∀ xs:List (List D),(∀ x ∈ xs,In P e x)→∃ l:List Cg,(∀ z ∈ l,z.Ok)∧xs=cgCells l:=by
  intro xs
  induction xs with
  | nil=>intro _;exact ⟨[],fun x h=>by simp at h,rfl⟩
  | cons x xs ih =>
   intro h
   obtain ⟨l,h1,h2⟩:=ih fun y hy=>h y (by simp [hy])
   obtain ⟨z,hz,rfl⟩:=one x (h x (by simp))
   refine ⟨z::l,fun y hy=>?_,by rw [h2];rfl⟩
   rcases List.mem_cons.1 hy with rfl | hy
   ·exact hz
   ·exact h1 y hy
 obtain ⟨b,h1,h2⟩:=key xs hx
 exact ⟨b,h1,by rw [h2]⟩
structure SidesT (P:Program) (t:TypeId) (f0 f1 f2 g:Field) (e ec:TypeId) (c0 c1 c2:Field):Prop where
 st:P.underlying t=some (.struct #[f0,f1,f2])
 ct:P.cellsOf t=3
 rs:P.underlying f0.type=some (.struct #[g])
 rg:g.offset=0∧P.cellsOf g.type=1
 rb:BytesT P g.type e
 k1:CgT P f1.type ec c0 c1 c2
 k2:CgT P f2.type ec c0 c1 c2
 off:[f0.offset,f1.offset,f2.offset]=[0,1,2]
 cel:[P.cellsOf f0.type,P.cellsOf f1.type,P.cellsOf f2.type]=[1,1,1]
theorem In.sides {P:Program} {t:TypeId} {f0 f1 f2 g:Field} {e ec:TypeId} {c0 c1 c2:Field} (T:SidesT P t f0 f1 f2 g e ec c0 c1 c2) {ds:List D} (h:In P t ds) :
  ∃ (b:List Int) (l m:List Cg),(∀ x ∈ b,0≤x∧x<256)∧(∀ z ∈ l,z.Ok)∧(∀ z ∈ m,z.Ok)∧D.agg ds=inp27 b l m:=by
 obtain ⟨hl,hf⟩:=h.struct_inv T.st
 rw [T.ct] at hl
 obtain ⟨d0,d1,d2,rfl⟩:∃ d0 d1 d2,ds=[d0,d1,d2]:=by
  match ds,hl with
  | [a,b,c],_=>exact ⟨a,b,c,rfl⟩
 have ho:=T.off
 have hc:=T.cel
 simp only [List.cons.injEq,and_true] at ho hc
 have h0:=hf f0 (by simp)
 have h1:=hf f1 (by simp)
 have h2:=hf f2 (by simp)
 rw [ho.1,hc.1] at h0
 rw [ho.2.1,hc.2.1] at h1
 rw [ho.2.2,hc.2.2] at h2
 obtain ⟨_,hg⟩:=h0.struct_inv T.rs
 have hg0:=hg g (by simp)
 rw [T.rg.1,T.rg.2] at hg0
 obtain ⟨b,hb,e0⟩:=In.bytes T.rb hg0
 obtain ⟨l,hl1,e1⟩:=In.cg T.k1 h1
 obtain ⟨m,hm1,e2⟩:=In.cg T.k2 h2
 simp at e0 e1 e2
 subst e0 e1 e2
 exact ⟨b,l,m,hb,hl1,hm1,rfl⟩
end Go.V
