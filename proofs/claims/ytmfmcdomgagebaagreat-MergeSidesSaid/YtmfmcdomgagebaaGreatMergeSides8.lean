/-
  MergeSides answers true at every input. No condition.
-/
import Derived.Test.YtmfmcdomgagebaaGreatMergeSides4
import Derived.Test.YtmfmcdomgagebaaGreatMergeSides7
import Derived.Test.YtmfmcdomgagebaaGreatMergeSides5
import Derived.Test.YtmfmcdomgagebaaGreatMergeSides6
import Derived.Shelf.Slices.In.SortNone
import Derived.Test.YtmfmcdomgagebaaGreatMergeSides2
import Derived.JoinedOf
import Derived.ChangeSame
import Derived.ChangeSlices
import Derived.ChangeStays
import Derived.ReadAgain
import Derived.RowKit3
import Derived.SizedLaws
import Derived.Test.YtmfmcdomgagebaaGreatRows
open Nat renaming reduceAdd → zA, reduceSub → zS, reduceMul → zM, reduceLeDiff → zL, reduceEqDiff → zE, reduceBEq → zB
set_option linter.all false
set_option linter.unusedSimpArgs false
set_option linter.unusedVariables false
set_option linter.unnecessarySimpa false
namespace Go.V
open Go.Proofs
set_option maxRecDepth 20000
set_option maxHeartbeats 4000000
theorem SpecQ.unMapX {P:Program} {f:FuncId} {args:List D} {s:St} {Z Z2:D→St→Prop} (h:SpecQ P f args s Z)
    (hz:∀ r t,Z r t→∃ b es bs c,t.boxes[b]? = some (.mapX es bs c)∧Z2 r { t with boxes:=t.boxes.set b (.map es) }):SpecQ P f args s Z2 :=
  SpecQ.ghost h fun r s1 hZ w0 g0 w g v h0 hle hw hv=>by
    obtain ⟨b,es,bs,c,h1,h2⟩:=hz r s1 hZ
    exact ⟨g,r,_,h2,hle,hw.unMapX h1,hv⟩
theorem SpecQ.letQ {P:Program} {f:FuncId} {args:List D} {s s':St} {Z:D→St→Prop} {Z':D→Prop} (h:SpecQ P f args s Z) (hz:∀ r t,Z r t→∃ r',weakD r r'∧Bd 0 0 r'∧Z' r'∧Leave s t s'):SpecQ P f args s fun r t=>Z' r∧t=s':=by
  refine SpecQ.ghost h fun r t hZ w0 g0 w g v h0 hle hw hv=>?_
  obtain ⟨r',h1,h2,h3,hl⟩:=hz r t hZ
  obtain ⟨q1,q2⟩:=hl.wrel h0 hle hw
  exact ⟨_,_,_,⟨h3,rfl⟩,q1,q2,(h1 _ _ hv).cut (h2.mono (Nat.zero_le _) (Nat.zero_le _))⟩
structure Js (n:Nat) (js:List Nat):Prop where
  nd:js.Nodup
  lt:∀ j ∈ js,j<n
theorem Js.le {n:Nat} {js:List Nat} (h:Js n js):js.length≤n:=by
  have:=h.nd.length_le_of_subset (l₂:=List.range n) fun j hj=>List.mem_range.2 (h.lt j hj)
  simpa using this
theorem Js.snoc {n j:Nat} {js:List Nat} (h:Js n js) (hj:j<n) (hn:j ∉ js):Js n (js++[j]) where
  nd:=List.nodup_append.2 ⟨h.nd,by simp,fun a ha b hb e=>by simp at hb;subst hb;exact hn (e ▸ ha)⟩
  lt:=fun i hi=>by
    rcases List.mem_append.1 hi with hi | hi
    · exact h.lt i hi
    · simp at hi;omega
theorem Js.all {n:Nat} {js:List Nat} (h:Js n js) (hl:js.length=n) {j:Nat} (hj:j<n):j ∈ js:=by
  refine Classical.byContradiction fun hn=>?_
  have:=(h.snoc hj hn).le
  simp at this;omega
theorem Js.perm {n:Nat} {js:List Nat} (h:Js n js) (hl:js.length=n):js.Perm (List.range n) :=
  (List.perm_ext_iff_of_nodup h.nd List.nodup_range).2 fun j=>⟨fun hj=>List.mem_range.2 (h.lt j hj),fun hj=>h.all hl (List.mem_range.1 hj)⟩
def pickL (l:List Int) (js:List Nat):List Int:=js.map fun j=>l.getD j 0
theorem pickL_range (l:List Int):pickL l (List.range l.length)=l:=by
  refine List.ext_getElem (by simp [pickL]) fun i h1 h2=>?_
  simp [pickL,h2]
theorem pickL_perm {l:List Int} {js:List Nat} (h:Js l.length js) (hl:js.length=l.length):(pickL l js).Perm l:=by
  have:=(h.perm hl).map (fun j=>l.getD j 0)
  rw [show (List.range l.length).map (fun j=>l.getD j 0)=l from pickL_range l] at this
  exact this
def pickB (l:List Nat) (js:List Nat):List Nat:=js.map fun j=>l.getD j 0
theorem mem_pickB {bs js:List Nat} (hnd:bs.Nodup) (hjs:∀ j ∈ js,j<bs.length) {j:Nat} (hj:j<bs.length):bs[j] ∈ pickB bs js↔j ∈ js:=by
  simp only [pickB,List.mem_map]
  constructor
  · rintro ⟨i,hi,e⟩
    have hil:=hjs i hi
    rw [show bs.getD i 0=bs[i] by simp [List.getD,hil]] at e
    rw [(List.getElem_inj hnd).1 e] at hi
    exact hi
  · intro h;exact ⟨j,h,by simp [List.getD,hj]⟩
theorem t_Keys1 (ks:List Int) (es:List (D × D)) (hes:es.map (·.1)=ks.map (D.int .i64 ·)) {B:List Box} {L:List Nat} {c n b m:Nat} (hm:B[m]? = some (.cells [.map b])) (hb:B[b]? = some (.map es))
    (J:List Nat→Nat→List Int→List Box→List Nat→Nat→Prop) (h0:∀ bs c0,J bs c0 [] (B.set b (.mapX es bs c0)) L c) (hJ:∀ bs c0 out C L c,J bs c0 out C L c→C.length=B.length∧C[b]? = some (.mapX es bs c0))
    (step:∀ bs c0 out C L c x it,J bs c0 out C L c→out.length<ks.length→YSemQ Tryz.prog n [.int .i64 x] ⟨C++[it],L,c⟩ fun r s1=>r=.bool true∧∃ C' L' c',J bs c0 (out++[x]) C' L' c'∧s1=⟨C'++[it],L',c'⟩) :
    SpecQ Tryz.prog 103 [.yield n,.box m 0] ⟨B,L,c⟩ fun r s=>r=.tup []∧∃ bs c0 out C L' c' it,out.Perm ks∧J bs c0 out C L' c'∧s=⟨C++[it],L',c'⟩:=by
  have hmb:m≠b:=by rintro rfl;rw [hm] at hb;cases hb
  have hel:es.length=ks.length:=by have:=congrArg List.length hes;simpa using this
  have hek:∀ (j:Nat) (h:j<es.length) (h2:j<ks.length),es[j].1=.int .i64 ks[j]:=fun j h h2=>by
    have:=congrArg (fun l=>l[j]?) hes
    simpa [h,h2] using this
  refine SpecQ.introA [] Tryz.func103 rfl (by decide) hmix (by kernel_rfl) [] 14 rfl rfl ?_
  simp only [vqM,vt88,Tryz.f103,zA,zS,zM,zL,zE,zB,reduceCtorEq,vsIt,hm]
  refine rangeI_intro (by rfl) hb fun bs c0 q1 q2 q3=>?_
  simp only [vqM,vt88,zA,zS,zM,zL,zE,zB,reduceCtorEq,vsIt]
  refine awN_keep [0,5] ?_
  simp only [vke,zB,zA]
  refine awN_forR hmix ks.length (fun k e s=>∃ js C L' c',Js ks.length js∧js.length=k∧J bs c0 (pickL ks js) C L' c'∧e=[.yield n,.junk,.junk,.junk,.junk,.box B.length 0,.junk,.junk,.junk,.junk,.junk,.junk,.junk,.junk]∧s=⟨C++[.iter b c0 (pickB bs js)],L',c'⟩) ?_ ?_ 0 _ _ (Nat.zero_le _) ⟨[],_,_,_,⟨.nil,by simp⟩,rfl,h0 bs c0,rfl,rfl⟩
  · rintro k e s hk ⟨js,C,L',c',hjs,hjl,hJc,rfl,rfl⟩ ih
    obtain ⟨hCl,hCb⟩:=hJ _ _ _ _ _ _ hJc
    have hi:(C++[Box.iter b c0 (pickB bs js)])[B.length]? = some (.iter b c0 (pickB bs js)):=by rw [← hCl];simp
    have hbl:=(List.getElem?_eq_some_iff.1 hCb).1
    have hm2:(C++[Box.iter b c0 (pickB bs js)])[b]? = some (.mapX es bs c0):=by rw [List.getElem?_append_left hbl];exact hCb
    simp only [vqM,vt88,zA,zS,zM,zL,zE,zB,reduceCtorEq,vsIt]
    refine nextI_intro hi hm2 q3 (fun j hj hjb hns=>?_) (fun hall=>?_)
    · have hset:(C++[Box.iter b c0 (pickB bs js)]).set B.length (Box.iter b c0 (pickB bs js++[bs[j]]))=C++[.iter b c0 (pickB bs js++[bs[j]])]:=by rw [← hCl];simp
      have hjk:j<ks.length:=by omega
      have hjn:j ∉ js:=fun h=>hns ((mem_pickB q2 (fun i hi=>by have:=hjs.lt i hi;omega) hjb).2 h)
      have hpb:pickB bs js++[bs[j]]=pickB bs (js++[j]):=by simp [pickB,List.getD,hjb]
      have hpl:pickL ks js++[ks[j]]=pickL ks (js++[j]):=by simp [pickL,List.getD,hjk]
      dsimp only
      rw [hset]
      have hi2:(C++[Box.iter b c0 (pickB bs js++[bs[j]])])[B.length]? = some (.iter b c0 (pickB bs js++[bs[j]])):=by rw [← hCl];simp
      have hm3:(C++[Box.iter b c0 (pickB bs js++[bs[j]])])[b]? = some (.mapX es bs c0):=by rw [List.getElem?_append_left hbl];exact hCb
      have hst:=step bs c0 (pickL ks js) C L' c' ks[j] (.iter b c0 (pickB bs js++[bs[j]])) hJc (by simp [pickL];omega)
      have hk1:=hek j hj hjk
      simp only [vqM,vt88,zA,zS,zM,zL,zE,zB,reduceCtorEq,vsIt]
      refine entryI_intro hi2 hm3 hj hjb (by simp) ?_
      rw [hk1]
      simp only [vqM,vt88,zA,zS,zM,zL,zE,zB,reduceCtorEq,vsIt]
      refine callI_ofQ (f:=.yield n) (show CallVQ _ (.yield n) _ _ _ from hst) ?_
      rintro r s1 ⟨rfl,C2,L2,c2,hJ2,rfl⟩
      simp only [vqM,vt88,zA,zS,zM,zL,zE,zB,reduceCtorEq,vsIt]
      refine awN_keep [0,5] ?_
      simp only [vke,zB,zA]
      rw [hpl] at hJ2
      rw [hpb]
      exact ih _ _ ⟨js++[j],C2,L2,c2,hjs.snoc hjk hjn,by simp [hjl],hJ2,rfl,rfl⟩
    · exfalso
      have:List.range ks.length ⊆ js:=fun j hj=>by
        have hj:=List.mem_range.1 hj
        have hjb:j<bs.length:=by omega
        exact (mem_pickB q2 (fun i hi=>by have:=hjs.lt i hi;omega) hjb).1 (hall _ (List.getElem_mem hjb))
      have:=List.nodup_range.length_le_of_subset this
      simp at this;omega
  · rintro e s ⟨js,C,L',c',hjs,hjl,hJc,rfl,rfl⟩
    obtain ⟨hCl,hCb⟩:=hJ _ _ _ _ _ _ hJc
    have hi:(C++[Box.iter b c0 (pickB bs js)])[B.length]? = some (.iter b c0 (pickB bs js)):=by rw [← hCl];simp
    have hbl:=(List.getElem?_eq_some_iff.1 hCb).1
    have hm2:(C++[Box.iter b c0 (pickB bs js)])[b]? = some (.mapX es bs c0):=by rw [List.getElem?_append_left hbl];exact hCb
    simp only [vqM,vt88,zA,zS,zM,zL,zE,zB,reduceCtorEq,vsIt]
    refine nextI_intro hi hm2 q3 (fun j hj hjb hns=>?_) (fun hall=>?_)
    · exact absurd ((mem_pickB q2 (fun i hi=>by have:=hjs.lt i hi;omega) hjb).2 (hjs.all hjl (by omega))) hns
    · simp only [vqM,vt88,zA,zS,zM,zL,zE,zB,reduceCtorEq,vsIt]
      refine retA (.inl rfl) (r:=.tup []) ?_ ⟨rfl,bs,c0,_,C,L',c',_,pickL_perm hjs hjl,hJc,rfl⟩
      simp only [vqM,vt88,zA,zS,zM,zL,zE,zB,reduceCtorEq]
      rfl
theorem range_keys {X:Draws} {f:Operand} {ps:List Tmp} {asg bo:Code} {Q:QC} {e:List D} {B:List Box} {L:List Nat} {n m b:Nat} (ks:List Int) (es:List (D × D)) (hes:es.map (·.1)=ks.map (D.int .i64 ·)) (I:List Nat→Nat→List Int→List Box→List Nat→Nat→Prop)
    (hf:val e f=.func (.func 103) [] [.box m 0]) (hm:B[m]? = some (.cells [.map b])) (hb:B[b]? = some (.map es))
    (hI0:∀ bs c0,I bs c0 [] (B.set b (.mapX es bs c0)) L n) (hI:∀ bs c0 out C L c,I bs c0 out C L c→C.length=B.length∧C[b]? = some (.mapX es bs c0))
    (step:drawsOk X asg=true→drawsOk X bo=true→∀ bs c0 out C L c x it,I bs c0 out C L c→out.length<ks.length→YSemQ Tryz.prog B.length [.int .i64 x] ⟨C++.loop ps asg bo e .ready none::[it],L,c⟩ fun r s1=>r=.bool true∧∃ C' L' c',I bs c0 (out++[x]) C' L' c'∧s1=⟨C'++.loop ps asg bo e .ready none::[it],L',c'⟩)
    (hend:∀ bs c0 out C L c it,out.Perm ks→I bs c0 out C L c→@qI .normal e ⟨C.set b (.map es)++.dead::[it],L,c⟩ Q):@AWNI X none Tryz.prog (.rangeFunc f ps.toArray asg bo) e ⟨B,L,n⟩ Q:=by
  have hbl:=(List.getElem?_eq_some_iff.1 hb).1
  have key:drawsOk X asg=true→drawsOk X bo=true→SpecQ Tryz.prog 103 [.yield B.length,.box m 0] ⟨B++[.loop ps asg bo e .ready none],L,n⟩ fun r s=>∃ bs c0 out C L' c' it,out.Perm ks∧I bs c0 out C L' c'∧s=⟨C.set b (.map es)++.loop ps asg bo e .ready none::[it],L',c'⟩:=by
    intro q1 q2
    refine SpecQ.unMapX (t_Keys1 ks es hes (B:=B++[.loop ps asg bo e .ready none]) (box_lt hm) (box_lt hb) (fun bs c0 out C L' c'=>∃ C0,I bs c0 out C0 L' c'∧C=C0++[.loop ps asg bo e .ready none]) (fun bs c0=>⟨_,hI0 bs c0,by rw [List.set_append_left _ _ hbl]⟩) ?_ ?_) ?_
    · rintro bs c0 out C L c ⟨C0,h,rfl⟩
      obtain ⟨h1,h2⟩:=hI _ _ _ _ _ _ h
      exact ⟨by simp [h1],box_lt h2⟩
    · rintro bs c0 out C L c x it ⟨C0,h,rfl⟩ hlt
      have:=step q1 q2 bs c0 out C0 L c x it h hlt
      simp only [List.append_assoc,List.cons_append,List.nil_append] at this ⊢
      refine CallVQ.mono (show CallVQ _ (.yield B.length) _ _ _ from this) ?_
      rintro r s1 ⟨rfl,C',L',c',h',rfl⟩
      exact ⟨rfl,_,L',c',⟨C',h',rfl⟩,by simp⟩
    · rintro r t ⟨rfl,bs,c0,out,C,L',c',it,hp,⟨C0,h,rfl⟩,rfl⟩
      obtain ⟨h1,h2⟩:=hI _ _ _ _ _ _ h
      have h3:=(List.getElem?_eq_some_iff.1 h2).1
      refine ⟨b,es,bs,c0,?_,bs,c0,out,C0,L',c',it,hp,h,?_⟩
      · simp only [List.append_assoc];exact box_lt h2
      · simp only [List.append_assoc,List.cons_append,List.nil_append]
        rw [List.set_append_left _ _ h3]
  refine awN_rangeFuncQ hf key ?_
  · rintro r s1 ⟨bs,c0,out,C,L',c',it,hp,h,rfl⟩
    obtain ⟨h1,h2⟩:=hI _ _ _ _ _ _ h
    have hl:(C.set b (Box.map es)).length=B.length:=by simp [h1]
    refine ⟨.ready,none,by rw [← hl,box_at0];rfl,by simp,?_⟩
    have:=hend bs c0 out C L' c' it hp h
    show @qI .normal e ⟨(C.set b (Box.map es)++.loop ps asg bo e .ready none::[it]).set B.length .dead,_,_⟩ Q
    rw [← hl,box_set0]
    exact this
theorem leave_app {B X:List Box} {L L':List Nat} {c c':Nat} (hl:∀ k,k ∈ L→k ∈ L') (hc:c≤c'):Leave ⟨B,L,c⟩ ⟨B++X,L',c'⟩ ⟨B,L,c⟩ where
  len:=by simp
  pre:=fun i bx h=>box_lt h
  old:=fun i bx h=>.inl h
  slen:=Nat.le_refl _
  live:=fun k hk=>⟨hl k hk,.inl hk⟩
  ctr:=Nat.le_refl _
  ctr':=hc
  nd:=.inl rfl
theorem t_AppendSeq (ks:List Int) (es:List (D × D)) (hes:es.map (·.1)=ks.map (D.int .i64 ·)) (hn:ks.length≤100000) {B:List Box} {L:List Nat} {c m b:Nat} (hm:B[m]? = some (.cells [.map b])) (hb:B[b]? = some (.map es)) (hW0:WfL L c) :
    SpecQ Tryz.prog 102 [.slice .nil [],.func (.func 103) [] [.box m 0]] ⟨B,L,c⟩ fun r t=>(∃ out,out.Perm ks∧r=.slice .none (intCells out))∧t=⟨B,L,c⟩:=by
  have hbl:=(List.getElem?_eq_some_iff.1 hb).1
  have hset:B.set b (.map es)=B:=by
    refine List.ext_getElem? fun i=>?_
    by_cases e:i=b
    · subst e;rw [List.getElem?_set_self hbl,hb]
    · rw [List.getElem?_set_ne (fun h=>e h.symm)]
  refine SpecQ.letQ (Z:=fun r t=>∃ out o L' c' it,out.Perm ks∧r=.slice .none (intCells out)∧OutO L c 1 o L' c'∧t=⟨B++[.cells [.slice o (intCells out)],.dead,it],L',c'⟩) ?_ ?_
  · refine SpecQ.introA [] Tryz.func102 rfl (by decide) hmix (by kernel_rfl) [ResultVar.tmp 4] 13 rfl rfl ?_
    simp only [vqM,vt25,Tryz.f102,zA,zS,zM,zL,zE,zB,reduceCtorEq]
    refine range_keys (m:=m) (b:=b) ks es hes (fun bs c0 out C L' c'=>∃ o,OutO L c 1 o L' c'∧C=B.set b (.mapX es bs c0)++[.cells [.slice o (intCells out)]]) rfl (box_lt hm) (box_lt hb) (fun bs c0=>⟨.nil,.start hW0 1,by rw [List.set_append_left _ _ hbl];rfl⟩) ?_ ?_ ?_
    · rintro bs c0 out C L' c' ⟨o,hO,rfl⟩
      refine ⟨by simp,?_⟩
      rw [List.getElem?_append_left (by simpa using hbl),List.getElem?_set_self hbl]
    · rintro q1 q2 bs c0 out C L' c' x it ⟨o,hO,rfl⟩ hlt
      obtain ⟨B1,hB1⟩:∃ B1,B1=B.set b (.mapX es bs c0):=⟨_,rfl⟩
      have hl:B1.length=B.length:=by rw [hB1];simp
      rw [← hB1,← hl,show (B++[Box.cells [D.slice Own.nil []]]).length=B1.length+1 by simp [hl]]
      have hof:∀ B',ownFits o (intCells out) 1 ⟨B',L',c'⟩=true:=fun B'=>hO.lv.fits (intCells_each _) B' c'
      have hl1:(out.length+1≤1000000)=True:=eq_true (by omega)
      refine YSemQ.introA hmix q1 q2 (pd:=none) (by rw [List.append_assoc,box_at];rfl) (by rfl) fun l=>?_
      clear q1 q2
      simp only [vqM,vt25,zA,zS,zM,zL,zE,zB,reduceCtorEq,putArgs]
      refine qI_assignA (pd1:=none) (by simp only [vqM,vt25,zA,zS,zM,zL,zE,zB,reduceCtorEq]) ?_
      simp only [vqM,vt25,zA,zS,zM,zL,zE,zB,reduceCtorEq,hof,relab_eq,intCells_len,hl1,intCells_app]
      refine roundA_normal (st:=.busy) (pd:=none) (by simp only [vqM,vt25,zA,zS,zM,zL,zE,zB,reduceCtorEq]) ?_
      refine ⟨rfl,_,_,_,⟨_,hO.step hW0,rfl⟩,?_⟩
      simp only [vqM,vt25,zA,zS,zM,zL,zE,zB,reduceCtorEq]
    · rintro bs c0 out C L' c' it hp ⟨o,hO,rfl⟩
      rw [List.set_append_left _ _ (by simpa using hbl),List.set_set,hset]
      simp only [vqM,vt25,zA,zS,zM,zL,zE,zB,reduceCtorEq]
      refine retA (.inr rfl) ?_ ⟨out,o,L',c',it,hp,rfl,hO,rfl⟩
      simp only [vqM,vt25,zA,zS,zM,zL,zE,zB,reduceCtorEq]
  · rintro r t ⟨out,o,L',c',it,hp,rfl,hO,rfl⟩
    exact ⟨_,weak_refl _,bd_intSl _,⟨out,hp,rfl⟩,leave_app hO.sub hO.le⟩
theorem t_Collect (ks:List Int) (es:List (D × D)) (hes:es.map (·.1)=ks.map (D.int .i64 ·)) (hn:ks.length≤100000) {B:List Box} {L:List Nat} {c m b:Nat} (hm:B[m]? = some (.cells [.map b])) (hb:B[b]? = some (.map es)) (hW0:WfL L c) :
    SpecQ Tryz.prog 60 [.func (.func 103) [] [.box m 0]] ⟨B,L,c⟩ fun r t=>(∃ out,out.Perm ks∧r=.slice .none (intCells out))∧t=⟨B,L,c⟩:=by
  refine SpecQ.introA [(0,.cut),(1,.cut)] Tryz.func60 rfl (by decide) hmix (by kernel_rfl) [ResultVar.tmp 2] 5 rfl rfl ?_
  simp only [vqM,Tryz.f60,zA,zS,zM,zL,zE,zB,reduceCtorEq]
  refine seq_go ?_
  simp only [vqM,zA,zS,zM,zL,zE,zB,reduceCtorEq,vsK]
  refine awN_seq ?_
  refine awN_callRaw 1 rfl rfl rfl rfl ?_
  simp only [vqM,zA,zS,zM,zL,zE,zB,reduceCtorEq]
  refine kI_raw (ds:=[.slice .nil [],.func (.func 103) [] [.box m 0]]) (by rfl) (by rfl) (show CallVQ _ (.func (.func 102) [] []) _ _ _ from by simpa only [CallVQ,List.nil_append,List.append_nil] using t_AppendSeq ks es hes hn hm hb hW0) ?_
  rintro r t ⟨⟨out,hp,rfl⟩,rfl⟩
  simp only [vqM,zA,zS,zM,zL,zE,zB,reduceCtorEq,vsK]
  refine awN_cw hmix ?_
  simp only [vqM,zA,zS,zM,zL,zE,zB,reduceCtorEq,vsK]
  refine retA (.inr rfl) ?_ ⟨⟨out,hp,rfl⟩,rfl⟩
  simp only [vqM,zA,zS,zM,zL,zE,zB,reduceCtorEq]
theorem t_KeysM (b:Nat) (B:List Box) (L:List Nat) (c:Nat):Spec Tryz.prog 61 [.map b] ⟨B,L,c⟩ (.func (.func 103) [] [.box B.length 0]) ⟨B++[.cells [.map b]],L,c⟩:=by
  show SpecQ _ _ _ _ _
  refine SpecQ.introA [] Tryz.func61 rfl (by decide) hmix (by kernel_rfl) [ResultVar.tmp 2] 4 rfl rfl ?_
  simp only [vqM,vt89,Tryz.f61,zA,zS,zM,zL,zE,zB,reduceCtorEq]
  refine retA (.inr rfl) ?_ ⟨rfl,rfl⟩
  simp only [vqM,vt89,zA,zS,zM,zL,zE,zB,reduceCtorEq]
end Go.V
namespace Go.Proofs
open Go.Shelf
def Tryz.laysSort_ren:Go.Shelf.Ren:=⟨fun | 189=>62 | 125=>105 | 257=>104 | 128=>137 | 129=>138 | 294=>128 | 295=>129 | 296=>130 | 297=>131 | 298=>132 | 299=>133 | 216=>134 | 300=>135 | 301=>136 | 328=>163 | 329=>164 | 330=>165 | 331=>166 | 332=>167 | 215=>168 | 343=>185 | n=>n,fun | 28=>31 | 3=>3 | 46=>165 | 0=>0 | 51=>198 | 53=>200 | 4=>4 | 183=>190 | 182=>189 | 131=>195 | 5=>5 | 9=>9 | 218=>227 | 222=>231 | 228=>243 | 229=>244 | n=>n,fun | n=>n⟩
theorem Tryz.laysSort:Go.Proofs.Lays.n189 Tryz.prog Tryz.laysSort_ren:={
  mixed:=by kernel_rfl
  f125:=Tryz.func105.trans (congrArg some (by kernel_rfl))
  f128:=Tryz.func137.trans (congrArg some (by kernel_rfl))
  f129:=Tryz.func138.trans (congrArg some (by kernel_rfl))
  f189:=Tryz.func62.trans (congrArg some (by kernel_rfl))
  f215:=Tryz.func168.trans (congrArg some (by kernel_rfl))
  f216:=Tryz.func134.trans (congrArg some (by kernel_rfl))
  f257:=Tryz.func104.trans (congrArg some (by kernel_rfl))
  f294:=Tryz.func128.trans (congrArg some (by kernel_rfl))
  f295:=Tryz.func129.trans (congrArg some (by kernel_rfl))
  f296:=Tryz.func130.trans (congrArg some (by kernel_rfl))
  f297:=Tryz.func131.trans (congrArg some (by kernel_rfl))
  f298:=Tryz.func132.trans (congrArg some (by kernel_rfl))
  f299:=Tryz.func133.trans (congrArg some (by kernel_rfl))
  f300:=Tryz.func135.trans (congrArg some (by kernel_rfl))
  f301:=Tryz.func136.trans (congrArg some (by kernel_rfl))
  f328:=Tryz.func163.trans (congrArg some (by kernel_rfl))
  f329:=Tryz.func164.trans (congrArg some (by kernel_rfl))
  f330:=Tryz.func165.trans (congrArg some (by kernel_rfl))
  f331:=Tryz.func166.trans (congrArg some (by kernel_rfl))
  f332:=Tryz.func167.trans (congrArg some (by kernel_rfl))
  f343:=Tryz.func185.trans (congrArg some (by kernel_rfl))
  t0:=Tryz.underlying0
  a0:=Tryz.isAgg0
  z0:=Tryz.sizeOf0
  v0:=Tryz.zeroValue0
  t3:=Tryz.underlying3
  a3:=Tryz.isAgg3
  z3:=Tryz.sizeOf3
  v3:=Tryz.zeroValue3
  t4:=Tryz.underlying4
  a4:=Tryz.isAgg4
  z4:=Tryz.sizeOf4
  v4:=Tryz.zeroValue4
  t5:=Tryz.underlying5
  a5:=Tryz.isAgg5
  z5:=Tryz.sizeOf5
  v5:=Tryz.zeroValue5
  t9:=Tryz.underlying9
  a9:=Tryz.isAgg9
  z9:=Tryz.sizeOf9
  v9:=Tryz.zeroValue9
  t28:=Tryz.underlying31
  a28:=Tryz.isAgg31
  z28:=Tryz.sizeOf31
  v28:=Tryz.zeroValue31
  t46:=Tryz.underlying165
  a46:=Tryz.isAgg165
  z46:=Tryz.sizeOf165
  v46:=Tryz.zeroValue165
  t51:=Tryz.underlying198
  a51:=Tryz.isAgg198
  z51:=Tryz.sizeOf198
  v51:=Tryz.zeroValue198
  t53:=Tryz.underlying200
  a53:=Tryz.isAgg200
  z53:=Tryz.sizeOf200
  v53:=Tryz.zeroValue200
  t131:=Tryz.underlying195
  a131:=Tryz.isAgg195
  z131:=Tryz.sizeOf195
  v131:=Tryz.zeroValue195
  t182:=Tryz.underlying189
  a182:=Tryz.isAgg189
  z182:=Tryz.sizeOf189
  v182:=Tryz.zeroValue189
  t183:=Tryz.underlying190
  a183:=Tryz.isAgg190
  z183:=Tryz.sizeOf190
  v183:=Tryz.zeroValue190
  t218:=Tryz.underlying227
  a218:=Tryz.isAgg227
  z218:=Tryz.sizeOf227
  v218:=Tryz.zeroValue227
  t222:=Tryz.underlying231
  a222:=Tryz.isAgg231
  z222:=Tryz.sizeOf231
  v222:=Tryz.zeroValue231
  t228:=Tryz.underlying243
  a228:=Tryz.isAgg243
  z228:=Tryz.sizeOf243
  v228:=Tryz.zeroValue243
  t229:=Tryz.underlying244
  a229:=Tryz.isAgg244
  z229:=Tryz.sizeOf244
  v229:=Tryz.zeroValue244 }
end Go.Proofs
namespace Go.V
open Go.Proofs Go.Sort
set_option maxRecDepth 20000
set_option maxHeartbeats 4000000
theorem t_SortK (l:List Int) {b:Nat} {B:List Box} {L:List Nat} {c:Nat} (hb:B[b]? = some (.cells (ints l))) (hn:l.length≤1000000):SpecQ Tryz.prog 62 [.row b 0 l.length 1] ⟨B,L,c⟩
    fun r s=>r=.tup []∧s=⟨B.set b (.cells (ints (sortI l))),L,c⟩:=by
  intro vs w g ha hw
  refine ⟨enters_of Tryz.func62 (by decide) rfl,?_⟩
  have hsz:vs.size=1:=ha.1.symm
  have hR:=ha.2 0 (by simp) (by omega)
  simp only [List.getElem_cons_zero] at hR
  generalize hv:vs[0]=v at hR
  have hvs:vs = #[v]:=by
    refine Array.ext (by simp [hsz]) fun i h1 h2=>?_
    have:i=0:=by simp at h2;omega
    subst this;simpa using hv
  subst hvs
  obtain ⟨blk,arr,T,fr,q1,q2,q3,q4,q5,rfl⟩:=hw.box b _ hb
  cases hR with
  | row _ _ _ _ blk' m cap hB hS hcap hmax hz hm =>
    rw [q1] at hB;cases hB
    have hil:(ints l).length=l.length:=by simp [ints]
    have hH:Holds (Value.int .i64) w blk 0 l.toArray:=by
      intro j hj
      have hjl:j<l.length:=by simpa using hj
      have hja:j<arr.size:=by omega
      have h1:=(q4 j (by omega) hja).1
      have h2:(ints l)[j]'(by omega)=.int .i64 l[j]:=by simp [ints]
      rw [h2] at h1
      have h3':∀ x:Value,R g (.int .i64 l[j]) x→x=.int .i64 l[j]:=fun x h=>by cases h;rfl
      have h3:arr[j]=.int .i64 l[j]:=h3' _ h1
      have h4:l.toArray[j]! = l[j]:=getElem!_pos l.toArray j hj
      refine ⟨?_,?_⟩
      · simp only [World.cell?,q2,Nat.zero_add]
        rw [h4,← h3]
        simp [hja]
      · simp [World.frozen?,q2]
    have hblk:blk<w.heap.size:=lt_of_heap q2
    have hc:Calls Tryz.prog 62 #[.slice (some ⟨blk,0,none⟩) l.length cap] w fun e w'=>e=.returned (.tuple #[])∧∃ n os,w'=grow (putRow (Value.int .i64) (Sort.ahead w n) blk 0 (l.mergeSort fun x y=>decide (x≤y)).toArray) os :=
      calls_of_every_depth fun D=>AnyS.slices_Sort_int_alone Tryz.laysSort D blk 0 cap l w hH hblk (by omega)
    refine CallsIn.mono ((callsIn_wide (n:=0)).2 hc) fun e w' h=>?_
    obtain ⟨rfl,n,os,rfl⟩:=h
    have hsl:(l.mergeSort fun x y=>decide (x≤y)).length=l.length:=(List.mergeSort_perm _ _).length_eq
    obtain ⟨arr',e1,e2,e3,e4,e5,e6,e7,e8⟩:=sorted_heap (n:=n) (os:=os) (ys:=l.mergeSort fun x y=>decide (x≤y)) q2 (by omega)
    refine ⟨_,g,.tup [],_,⟨rfl,rfl⟩,rfl,.refl g,?_,.tup _ _ rfl fun i h1=>by simp at h1⟩
    refine hw.swap (b:=b) hb q1 q2 e1 e2 e4 e5 e6 e7 e8 (by simp [ints,sortI]) fun j h1 h2=>?_
    have hj:j<(l.mergeSort fun x y=>decide (x≤y)).length:=by simpa [ints,sortI] using h1
    rw [e3 j hj h2]
    have:(ints (sortI l))[j]=.int .i64 (l.mergeSort fun x y=>decide (x≤y))[j]:=by simp [ints,sortI]
    rw [this]
    exact ⟨.int _ _,rfl⟩
open Go.Proofs
structure Ms where
  b:Nat
  es:List (D × D)
  ks:List Int
def Ms.cells (l:List Ms):List (List D):=l.map fun x=>[.map x.b]
structure Ms.Ok (B:List Box) (x:Ms):Prop where
  bx:B[x.b]? = some (.map x.es)
  ks:x.es.map (·.1)=x.ks.map (D.int .i64 ·)
  ln:x.ks.length≤1000
  ne:x.ks≠[]
def RowK (B:List Box) (row:D) (l:List Int) (X:List Box):Prop :=
  (row=.row0∧l=[]) ∨ ∃ j,row=.row (B.length+j) 0 l.length 1∧l≠[]∧X[j]? = some (.cells (ints l))
def allK (l:List Ms):List Int:=l.flatMap (·.ks)
theorem sortI_congrK {l m:List Int} (h:l.Perm m):sortI l=sortI m :=
  sortI_of (((List.mergeSort_perm _ _:(sortI l).Perm l)).trans h) ((List.pairwise_mergeSort (fun a b c h1 h2=>by simp at *;omega) (fun a b=>by simp;omega) l).imp fun h=>by simpa using h)
theorem ints_flat (l:List Int):(intCells l).flatten=ints l:=by induction l <;> simp_all [intCells,ints]
theorem ints_app (l m:List Int):ints (l++m)=ints l++ints m:=by simp [ints]
theorem allK_len:∀ {ms:List Ms} {k:Nat},(∀ x ∈ ms,x.ks.length≤1000)→ms.length≤k→(allK ms).length≤1000 * k
  | [],k,_,_=>by simp [allK]
  | x::ms,k,h,hk=>by
    have h1:=h x (by simp)
    simp only [List.length_cons] at hk
    have h2:=allK_len (ms:=ms) (k:=k - 1) (fun y hy=>h y (by simp [hy])) (by omega)
    have:allK (x::ms)=x.ks++allK ms:=by simp [allK]
    rw [this,List.length_append]
    omega
theorem t_keys (ms:List Ms) (B:List Box) (hms:∀ x ∈ ms,x.Ok B) (hl:ms.length≤10) (hne:ms≠[]) (L:List Nat) (c:Nat) (hW0:WfL L c) :
    SpecQ Tryz.prog 33 [.slice .none (Ms.cells ms)] ⟨B,L,c⟩ fun r s=>∃ b cs X,r=.row (B.length+b) 0 (compL (sortI (allK ms))).length 1∧X[b]? = some (.cells cs)∧cs.take (compL (sortI (allK ms))).length=ints (compL (sortI (allK ms)))∧s=⟨B++X,L,c⟩:=by
  have hcl:(Ms.cells ms).length=ms.length:=by simp [Ms.cells]
  refine SpecQ.introA [(1,.cut)] Tryz.func33 rfl (by decide) hmix (by kernel_rfl) [ResultVar.tmp 2] 22 rfl rfl ?_
  simp only [vqM,vt90,Tryz.f33,zA,zS,zM,zL,zE,zB,reduceCtorEq,hcl]
  refine seq_go ?_
  simp only [vqM,vt90,zA,zS,zM,zL,zE,zB,reduceCtorEq,vsK,hcl]
  refine awN_gh (gh_slot 3 (d:=.slice .nil []) rfl weak_nil) ?_
  refine awN_cw hmix ?_
  simp only [vqM,vt90,zA,zS,zM,zL,zE,zB,reduceCtorEq,vsK,hcl]
  refine awN_keep [3,6,7,8] ?_
  simp only [vke,zB,zA]
  refine awN_forR hmix ms.length (fun k e s=>∃ row l X,l.Perm (allK (ms.take k))∧RowK B row l X∧e=[.junk,.junk,.junk,row,.junk,.junk,.slice .none (Ms.cells ms),.int .i64 ms.length,.int .i64 (k:Int),.junk,.junk,.junk,.junk,.junk,.junk,.junk,.junk,.junk,.junk,.junk,.junk,.junk]∧s=⟨B++X,L,c⟩) ?_ ?_ 0 _ _ (Nat.zero_le _) ⟨.row0,[],[],.nil,.inl ⟨rfl,rfl⟩,rfl,by simp⟩
  · rintro k e s hk ⟨row,l,X,hp,hrow,rfl,rfl⟩ ih
    have hx:ms[k]? = some ms[k]:=List.getElem?_eq_getElem hk
    have hok:=hms _ (List.getElem_mem hk)
    have hg:(Ms.cells ms)[k]? = some [.map ms[k].b]:=by simp [Ms.cells,hx]
    have hklt:((k:Int)<(ms.length:Int))=True:=by simp;exact hk
    have hnext:allK (ms.take (k+1))=allK (ms.take k)++ms[k].ks:=by rw [allK,List.take_add_one,hx,List.flatMap_append];simp [allK]
    generalize ms[k]=x at hx hok hg hnext
    simp only [vqM,vt90,zA,zS,zM,zL,zE,zB,reduceCtorEq,hklt,decide_true,natle0,Int.toNat_natCast,hg]
    refine callI_spec (t_KeysM x.b _ _ _) ?_
    simp only [vqM,vt90,zA,zS,zM,zL,zE,zB,reduceCtorEq,hklt,decide_true,natle0,Int.toNat_natCast,hg]
    refine callI_specQ (t_Collect x.ks x.es hok.ks (by have:=hok.ln;omega) (m:=B.length+X.length) (b:=x.b) ?_ ?_ hW0) ?_
    · rw [← List.append_assoc,List.getElem?_append_right (by simp)];simp
    · exact box_lt hok.bx
    rintro r t ⟨⟨out,ho,rfl⟩,rfl⟩
    have hol:out.length=x.ks.length:=ho.length_eq
    have hpos:0<out.length:=by have:=hok.ne;have:=List.length_pos_iff.2 this;omega
    have hxl:=hok.ln
    rcases hrow with ⟨rfl,rfl⟩ | ⟨j,rfl,hl0,hXj⟩
    · simp only [vqM,vt90,zA,zS,zM,zL,zE,zB,reduceCtorEq,hklt,decide_true,natle0,Int.toNat_natCast,hg]
      refine apZ2_intro (by decide) (intCells_each _) (by rw [intCells_len];exact hpos) (by rw [intCells_len];omega) ?_
      rw [intCells_len,ints_flat]
      simp only [vqM,vt90,zA,zS,zM,zL,zE,zB,reduceCtorEq,hklt,decide_true,natle0,Int.toNat_natCast,hg]
      rw [wrap_succ (by omega)]
      refine awN_keep [3,6,7,8] ?_
      simp only [vke,zB,zA]
      refine ih _ _ ⟨_,out,X++([.cells [.map x.b],.cells (ints out)]:List Box),?_,.inr ⟨X.length+1,?_,?_,?_⟩,rfl,?_⟩
      · rw [hnext]
        have h0:allK (ms.take k)=[]:=List.length_eq_zero_iff.1 (by have:=hp.length_eq;simpa using this.symm)
        rw [h0];exact ho
      · simp
      · exact List.length_pos_iff.1 hpos
      · rw [List.getElem?_append_right (by omega)];simp
      · simp
    · have hXj2:∀ Z,(X++Z)[j]? = some (.cells (ints l)):=fun Z=>box_lt hXj
      have hll:l.length≤1000 * k:=by
        rw [hp.length_eq]
        exact allK_len (fun y hy=>(hms y (List.mem_of_mem_take hy)).ln) (by simp;omega)
      have g1:((ints l).length=l.length * 1)=True:=by simp [ints]
      have g2:(l.length+out.length≤1000000)=True:=eq_true (by omega)
      have g3:(∀ c ∈ intCells out,c.length=1)=True:=eq_true (intCells_each _)
      have g4:ints l++(intCells out).flatten=ints (l++out):=by rw [ints_flat,ints_app]
      simp only [vqM,vt90,zA,zS,zM,zL,zE,zB,reduceCtorEq,hklt,decide_true,natle0,Int.toNat_natCast,hg,hXj2,intCells_len,g1,g2,g3,g4]
      rw [wrap_succ (by omega)]
      refine awN_keep [3,6,7,8] ?_
      simp only [vke,zB,zA]
      have hjl:=(List.getElem?_eq_some_iff.1 hXj).1
      refine ih _ _ ⟨_,l++out,(X++[Box.cells [.map x.b]]).set j .dead++[.cells (ints (l++out))],?_,.inr ⟨X.length+1,?_,?_,?_⟩,rfl,?_⟩
      · rw [hnext];exact hp.append ho
      · simp
      · intro h;exact hl0 (List.append_eq_nil_iff.1 h).1
      · rw [List.getElem?_append_right (by simp)];simp
      · simp
  · rintro e s ⟨row,l,X,hp,hrow,rfl,rfl⟩
    have hklt:((ms.length:Int)<(ms.length:Int))=False:=by simp
    rw [List.take_length] at hp
    have hll:l.length≤1000 * ms.length:=by
      rw [hp.length_eq]
      exact allK_len (fun y hy=>(hms y hy).ln) (Nat.le_refl _)
    have hs:sortI l=sortI (allK ms):=sortI_congrK hp
    rcases hrow with ⟨rfl,rfl⟩ | ⟨j,rfl,hl0,hXj⟩
    · exfalso
      obtain ⟨x,ms',rfl⟩:=List.exists_cons_of_ne_nil hne
      have h1:=(hms x (by simp)).ne
      have h2:=hp.length_eq
      simp [allK] at h2
      exact h1 (List.length_eq_zero_iff.1 (by omega))
    · have hjl:=(List.getElem?_eq_some_iff.1 hXj).1
      have hXj2:(B++X)[B.length+j]? = some (.cells (ints l)):=by rw [List.getElem?_append_right (by omega),Nat.add_sub_cancel_left];exact hXj
      have hset:∀ y,(B++X).set (B.length+j) y=B++X.set j y:=fun y=>by rw [List.set_append_right _ _ (by omega),Nat.add_sub_cancel_left]
      have hsl:(sortI l).length=l.length:=(List.mergeSort_perm _ _).length_eq
      have hpos:0<l.length:=List.length_pos_iff.2 hl0
      simp only [vqM,vt90,zA,zS,zM,zL,zE,zB,reduceCtorEq,hklt,decide_false]
      refine callI_specQ (t_SortK l hXj2 (by omega)) ?_
      rintro r t ⟨rfl,rfl⟩
      rw [hset]
      simp only [vqM,vt90,zA,zS,zM,zL,zE,zB,reduceCtorEq,hklt,decide_false]
      rw [← hsl]
      refine callI_specQ (t_CompactAt (sortI l) (b:=B.length+j) (by rw [List.getElem?_append_right (by omega),Nat.add_sub_cancel_left,List.getElem?_set_self hjl]) (by omega) (by omega)) ?_
      rintro r t ⟨cs,rfl,hcs,rfl⟩
      rw [List.set_append_right _ _ (by omega),Nat.add_sub_cancel_left,List.set_set]
      simp only [vqM,vt90,zA,zS,zM,zL,zE,zB,reduceCtorEq,hklt,decide_false]
      rw [hs] at hcs ⊢
      refine retA (.inr rfl) (r:=.row (B.length+j) 0 (compL (sortI (allK ms))).length 1) ?_ ⟨j,cs,_,rfl,by rw [List.getElem?_set_self hjl],hcs,rfl⟩
      simp only [vqM,vt90,zA,zS,zM,zL,zE,zB,reduceCtorEq]
theorem WRel.plainMap {w:World} {g:G} {s:St} (h:WRel w g s) {b:Nat} {es:List (D × D)} (hb:s.boxes[b]? = some (.map es)):WRel w g { s with boxes:=s.boxes.set b (.map (es.map fun e=>(e.1,e.2.plain))) }:=by
  have hlt:=(List.getElem?_eq_some_iff.1 hb).1
  have hlv:∀ j,Live1 { s with boxes:=s.boxes.set b (.map (es.map fun e=>(e.1,e.2.plain))) } j→Live1 s j:=by
    rintro j ⟨bx,h1,h2⟩
    by_cases e:j=b
    · subst e;exact ⟨_,hb,by simp⟩
    · simp only at h1;rw [List.getElem?_set_ne (by omega)] at h1;exact ⟨bx,h1,h2⟩
  refine { os:=h.os,tape:=h.tape,out:=h.out,fz:=h.fz,n:=h.n,old:=h.old,m:=h.m,box:=?_,inj:=fun i j c h1 h2 l1 l2=>h.inj i j c h1 h2 (hlv i l1) (hlv j l2),dom:=fun j c hj=>by have:=h.dom j c hj;simpa using this,live:=h.live,uniq:=h.uniq,ldom:=h.ldom,o:=h.o,nd:=h.nd,sz:=h.sz }
  intro j bx hj
  by_cases e:j=b
  · subst e
    simp only at hj
    rw [List.getElem?_set_self hlt] at hj;cases hj
    obtain ⟨r,en,k,h1,h2,h3,h4⟩:=h.box j _ hb
    refine ⟨r,en,k,h1,h2,by simpa using h3,fun i q1 q2=>?_⟩
    have hi:i<es.length:=by simpa using q1
    have:=h4 i hi q2
    simp only [List.getElem_map]
    exact ⟨this.1,this.2.1.plain,this.2.2⟩
  · simp only at hj;rw [List.getElem?_set_ne (by omega)] at hj;exact h.box j bx hj
theorem SpecQ.plainMap {P:Program} {f:FuncId} {args:List D} {s:St} {Z Z2:D→St→Prop} (h:SpecQ P f args s Z)
    (hz:∀ r t,Z r t→∃ b es,t.boxes[b]? = some (.map es)∧Z2 r { t with boxes:=t.boxes.set b (.map (es.map fun e=>(e.1,e.2.plain))) }):SpecQ P f args s Z2 :=
  SpecQ.ghost h fun r s1 hZ w0 g0 w g v h0 hle hw hv=>by
    obtain ⟨b,es,h1,h2⟩:=hz r s1 hZ
    exact ⟨g,r,_,h2,hle,hw.plainMap h1,hv⟩
def entE0 (p:Pg):En:=⟨false,false,Hd.zero,Df.zero,p.d,p.threads⟩
def entM (p:Pg):List (D × D):=(.int .i64 0,.agg (entE0 p).cells)::p.heads.map fun h=>(.int .i64 h.id,.agg (openE p h).cells)
def rawE0 (p:Pg):D:=.agg (.bool false::.bool false::.int .i64 0::.int .i64 0::.int .i64 0::.slice .nil []::.slice .nil []::.int .i64 0::.int .i64 0::.str ⟨#[]⟩::.int .i64 0::.int .i64 0::.slice .nil []::.slice .nil []::.int .i64 0::.int .i64 0::.slice .nil []::.int .i64 0::.slice .nil []::(p.d.cells++[.slice .none (intCells p.threads)]))
def rawO (p:Pg) (h:Hd):D:=.agg (.bool true::.bool (findS p h.id).isSome::(h.cells++(((findS p h.id).getD Df.zero).cells++[.slice .nil [],.slice .nil [],.slice .nil [],.slice .nil [],.int .i64 0,.int .i64 0,.int .i64 0,.slice .nil []])))
def rawM (p:Pg) (l:List Hd):List (D × D):=(.int .i64 0,rawE0 p)::l.map fun h=>(.int .i64 h.id,rawO p h)
theorem rawM_plain (p:Pg):(rawM p p.heads).map (fun e=>(e.1,e.2.plain))=entM p:=by
  simp only [rawM,entM,List.map_cons,List.map_map]
  rfl
theorem mapFind_raw {p:Pg} {n:Int}:∀ {l:List Hd},n ∉ l.map (·.id)→∀ i,mapFind .i64 n (l.map fun h=>(D.int .i64 h.id,rawO p h)) i=some none
  | [],_,_=>rfl
  | h::l,hn,i=>by
    simp only [List.map_cons,List.mem_cons,not_or] at hn
    simp only [List.map_cons,mapFind,if_true,if_neg hn.1]
    exact mapFind_raw hn.2 _
def entX (p:Pg) (l:List Hd):List Box:=l.flatMap fun h=>[.cells h.cells,.cells ((findS p h.id).getD Df.zero).cells]
theorem t_entries (p:Pg) (hnd:(idsS p).Nodup) (B:List Box) (L:List Nat) (c:Nat):Spec Tryz.prog 31 [.agg p.cells] ⟨B,L,c⟩ (.map (B.length+1)) ⟨B++.cells p.cells::.map (entM p)::entX p p.heads,L,c⟩:=by
  show SpecQ _ _ _ _ _
  refine SpecQ.small fun hsm=>?_
  have hlen:p.heads.length≤281474976710656:=by
    have h1:=hsm (.agg p.cells) (by simp)
    cases h1 with
    | agg _ h1 =>
      have h2:=h1 (.slice .none (hdCells p.heads)) (by simp [Pg.cells])
      have:=h2.len;rw [hdCells_len] at this;exact this
  clear hsm
  refine SpecQ.plainMap (Z:=fun r s=>r=.map (B.length+1)∧s=⟨B++.cells p.cells::.map (rawM p p.heads)::entX p p.heads,L,c⟩) ?_ ?_
  rotate_left
  · rintro r t ⟨rfl,rfl⟩
    generalize entX p p.heads=X
    have hs:B++Box.cells p.cells::.map (rawM p p.heads)::X=(B++[Box.cells p.cells])++.map (rawM p p.heads)::X:=by simp
    have hl:(B++[Box.cells p.cells]).length=B.length+1:=by simp
    refine ⟨B.length+1,rawM p p.heads,?_,rfl,?_⟩
    · show (B++Box.cells p.cells::.map (rawM p p.heads)::X)[B.length+1]? = _
      rw [hs,← hl,List.getElem?_append_right (Nat.le_refl _),Nat.sub_self];rfl
    · rw [rawM_plain]
      show (⟨(B++Box.cells p.cells::.map (rawM p p.heads)::X).set (B.length+1) (.map (entM p)),L,c⟩:St)=_
      rw [hs,← hl,List.set_append_right _ _ (Nat.le_refl _),Nat.sub_self]
      simp
  refine SpecQ.introA [] Tryz.func31 rfl (by decide) hmix (by kernel_rfl) [ResultVar.tmp 2] 38 rfl rfl ?_
  simp only [vqM,vt91,Tryz.f31,zA,zS,zM,zL,zE,zB,reduceCtorEq,hdCells_len]
  have hput0:∀ es,mapPut .i64 0 es none []=[(.int .i64 0,es)]:=fun es=>rfl
  rw [hput0]
  refine awN_keep [1,3,16,17,18] ?_
  simp only [vke,zB,zA]
  refine awN_forR hmix p.heads.length (fun k e s=>e=[.junk,.box B.length 0,.junk,.map (B.length+1),.junk,.junk,.junk,.junk,.junk,.junk,.junk,.junk,.junk,.junk,.junk,.junk,.slice .none (hdCells p.heads),.int .i64 p.heads.length,.int .i64 (k:Int),.junk,.junk,.junk,.junk,.junk,.junk,.junk,.junk,.junk,.junk,.junk,.junk,.junk,.junk,.junk,.junk,.junk,.junk,.junk]∧s=⟨B++.cells p.cells::.map (rawM p (p.heads.take k))::entX p (p.heads.take k),L,c⟩) ?_ ?_ 0 _ _ (Nat.zero_le _) ⟨rfl,rfl⟩
  · rintro k e s hk ⟨rfl,rfl⟩ ih
    have hx:p.heads[k]? = some p.heads[k]:=List.getElem?_eq_getElem hk
    have hg:(hdCells p.heads)[k]? = some (p.heads[k].cells):=by simp [hdCells,hx]
    have hklt:((k:Int)<(p.heads.length:Int))=True:=by simp;exact hk
    have hnext:p.heads.take (k+1)=p.heads.take k++[p.heads[k]]:=by rw [List.take_add_one,hx];rfl
    obtain ⟨hn0,hnd2⟩:=List.nodup_cons.1 hnd
    have hne:p.heads[k].id≠0:=fun e=>hn0 (List.mem_map.2 ⟨_,List.getElem_mem hk,e⟩)
    have hni:p.heads[k].id ∉ (p.heads.take k).map (·.id):=by
      intro hm
      obtain ⟨j,hj,he⟩:=List.getElem_of_mem hm
      simp at hj
      have:=(List.getElem_inj (h₀:=by simp;omega) (h₁:=by simpa using hk) hnd2 (i:=j) (j:=k)).1 (by simpa using he)
      omega
    generalize p.heads[k]=h at hx hg hnext hne hni
    have hfind:mapFind .i64 h.id (rawM p (p.heads.take k)) 0=some none:=by
      simp only [rawM,mapFind,if_true,if_neg hne]
      exact mapFind_raw hni _
    have hput:∀ v,mapPut .i64 h.id v none (rawM p (p.heads.take k))=rawM p (p.heads.take k)++[(.int .i64 h.id,v)]:=fun v=>rfl
    simp only [vqM,vt91,zA,zS,zM,zL,zE,zB,reduceCtorEq,hklt,decide_true,natle0,Int.toNat_natCast,hg]
    refine callI_spec (t_Find p h.id _) ?_
    simp only [vqM,vt91,zA,zS,zM,zL,zE,zB,reduceCtorEq,findSD,hklt,decide_true,natle0,Int.toNat_natCast,hg,hfind,hput]
    rw [wrap_succ (by omega)]
    refine awN_keep [1,3,16,17,18] ?_
    simp only [vke,zB,zA]
    refine ih _ _ ⟨rfl,?_⟩
    have hxn:entX p (p.heads.take k++[h])=entX p (p.heads.take k)++([.cells h.cells,.cells ((findS p h.id).getD Df.zero).cells]:List Box):=by simp [entX]
    have hsn:rawM p (p.heads.take k++[h])=rawM p (p.heads.take k)++[(.int .i64 h.id,rawO p h)]:=by simp [rawM]
    rw [hnext,hsn,hxn]
    rfl
  · rintro e s ⟨rfl,rfl⟩
    have hklt:((p.heads.length:Int)<(p.heads.length:Int))=False:=by simp
    rw [List.take_length]
    simp only [vqM,vt91,zA,zS,zM,zL,zE,zB,reduceCtorEq,hklt,decide_false]
    refine retA (.inr rfl) ?_ ⟨rfl,rfl⟩
    simp only [vqM,vt91,zA,zS,zM,zL,zE,zB,reduceCtorEq]
theorem at_ints {l:List Int} {rest:List D} {i:Nat} (h:i<l.length):((ints l++rest).drop i)[0]? = some (.int .i64 l[i]):=by
  rw [List.getElem?_drop,Nat.add_zero,List.getElem?_append_left (by simpa [ints] using h)]
  simp [ints,h]
theorem t_idxK (f:D) (p:Int→Bool) (l:List Int) (rest:List D) {C:List Box} {b:Nat} {L:List Nat} {c:Nat} (hb:C[b]? = some (.cells (ints l++rest))) (hl:l.length≤1000000) (hp:∀ x,CallV Tryz.prog f [.int .i64 x] ⟨C,L,c⟩ (.bool (p x)) ⟨C,L,c⟩) :
    Spec Tryz.prog 59 [.row b 0 l.length 1,f] ⟨C,L,c⟩ (.int .i64 (idxP p l)) ⟨C,L,c⟩:=by
  refine Spec.introN [] Tryz.func59 rfl (by decide) hmix (by kernel_rfl) [ResultVar.tmp 4] 19 rfl rfl ?_
  simp only [vqM,vt25,Tryz.f59,zA,zS,zM,zL,zE,zB,reduceCtorEq]
  refine awN_keep [0,1,7,8] ?_
  simp only [vke,zB,zA]
  refine awN_for hmix l.length (fun k=>[.row b 0 l.length 1,f,.junk,.junk,.junk,.junk,.junk,.int .i64 l.length,.int .i64 (k:Int),.junk,.junk,.junk,.junk,.junk,.junk,.junk,.junk,.junk,.junk]) (fun _=>⟨C,L,c⟩) (fun k=>∀ j (h:j<l.length),j<k→p l[j]=false) ?_ ?_ 0 (Nat.zero_le _) (by intro j _ h;omega)
  · intro k hk hI ih
    have hg:=at_ints (rest:=rest) hk
    have hklt:((k:Int)<(l.length:Int))=True:=by simp;exact hk
    have hkl:(0≤(k:Int)∧(k:Int)<(l.length:Int))=True:=by simp;exact hk
    simp only [vqM,vt25,zA,zS,zM,zL,zE,zB,reduceCtorEq,hb,hklt,hkl,decide_true,natle0,Int.toNat_natCast,hg,Nat.mul_one,Nat.zero_add]
    refine callI_of (hp _) ?_
    simp only [vqM,vt25,zA,zS,zM,zL,zE,zB,reduceCtorEq]
    refine ifI_intro (fun hc=>?_) (fun hc=>?_)
    · simp only [vqM,vt25,zA,zS,zM,zL,zE,zB,reduceCtorEq]
      refine ret_here (.inr rfl) ?_ (.int _ _)
      simp only [vqM,vt25,zA,zS,zM,zL,zE,zB,reduceCtorEq]
      rw [idxP_at hk hc hI]
    · simp only [vqM,vt25,zA,zS,zM,zL,zE,zB,reduceCtorEq]
      rw [wrap_succ (by omega)]
      refine awN_keep [0,1,7,8] ?_
      simp only [vke,zB,zA]
      refine ih fun j hj hjk=>?_
      by_cases e:j=k
      · subst e;exact hc
      · exact hI j hj (by omega)
  · intro hI
    have hklt:((l.length:Int)<(l.length:Int))=False:=by simp
    simp only [vqM,vt25,zA,zS,zM,zL,zE,zB,reduceCtorEq,hklt,decide_false]
    refine ret_here (.inr rfl) ?_ (.int _ _)
    simp only [vqM,vt25,zA,zS,zM,zL,zE,zB,reduceCtorEq]
    rw [idxP_none hI]
def keepP (p:Int→Bool) (l:List Int):List Int:=l.filter fun x=>!p x
theorem keepP_succ {p:Int→Bool} {l:List Int} {j:Nat} (h:j<l.length):keepP p (l.take (j+1))=if p l[j] then keepP p (l.take j) else keepP p (l.take j)++[l[j]]:=by
  rw [List.take_add_one,List.getElem?_eq_getElem h,keepP,Option.toList_some,List.filter_append]
  cases hp:p l[j] <;> simp [keepP,hp]
theorem sl_fromA {E e:TypeId} {by_:Nat} {ag:Bool} {b off n k:Nat} (h2:k<n):slR (some (.slice E)) (some (e,1,by_,ag)) b off n 1 (some (.int .i64 (k:Int))) none=some (.row b (off+k * 1) (n - k) 1):=by
  by_cases h:k=0
  · subst h;simp [slR,evBd]
  · exact sl_from (by omega) h2
theorem t_DeleteF (f:D) (hfp:f.plain=f) (p:Int→Bool) (l:List Int) (rest:List D) {C:List Box} {b:Nat} {L:List Nat} {c:Nat} (hb:C[b]? = some (.cells (ints l++rest))) (hl:l.length≤100000)
    (hp:∀ cs x,CallV Tryz.prog f [.int .i64 x] ⟨C.set b (.cells cs),L,c⟩ (.bool (p x)) ⟨C.set b (.cells cs),L,c⟩) :
    SpecQ Tryz.prog 32 [.row b 0 l.length 1,f] ⟨C,L,c⟩ fun r s=>∃ cs,r=.row b 0 (keepP p l).length 1∧cs.take (keepP p l).length=ints (keepP p l)∧s=⟨C.set b (.cells cs),L,c⟩:=by
  have hbl:=(List.getElem?_eq_some_iff.1 hb).1
  have hself:C.set b (.cells (ints l++rest))=C:=by
    refine List.ext_getElem? fun i=>?_
    by_cases e:i=b
    · subst e;rw [List.getElem?_set_self hbl,hb]
    · rw [List.getElem?_set_ne (fun h=>e h.symm)]
  have hget:∀ X,(C.set b (.cells X))[b]? = some (.cells X):=fun X=>List.getElem?_set_self hbl
  have hset:∀ X Y,(C.set b (.cells X)).set b (.cells Y)=C.set b (.cells Y):=fun X Y=>List.set_set ..
  have hp0:∀ x,CallV Tryz.prog f [.int .i64 x] ⟨C,L,c⟩ (.bool (p x)) ⟨C,L,c⟩:=fun x=>by have:=hp (ints l++rest) x;rwa [hself] at this
  refine SpecQ.introA [] Tryz.func32 rfl (by decide) hmix (by kernel_rfl) [ResultVar.tmp 4] 42 rfl rfl ?_
  simp only [vqM,vt92,Tryz.f32,zA,zS,zM,zL,zE,zB,reduceCtorEq,hfp]
  refine callI_spec (t_idxK f p l rest hb (by omega) hp0) ?_
  cases hfi:l.findIdx? p with
  | none =>
    have hid:idxP p l = -1:=by simp [idxP,hfi]
    rw [List.findIdx?_eq_none_iff] at hfi
    have hk:keepP p l=l:=List.filter_eq_self.2 fun x hx=>by simp [hfi x hx]
    rw [hid]
    simp only [vqM,vt92,zA,zS,zM,zL,zE,zB,reduceCtorEq,decide_true,decide_false]
    refine retA (.inr rfl) (r:=.row b 0 l.length 1) ?_ ⟨ints l++rest,by rw [hk],by rw [hk,List.take_append_of_le_length (by simp [ints]),List.take_of_length_le (by simp [ints])],by rw [hself]⟩
    simp only [vqM,vt92,zA,zS,zM,zL,zE,zB,reduceCtorEq]
  | some i0 =>
    have hid:idxP p l=i0:=by simp [idxP,hfi]
    obtain ⟨hil,hpi,hbef⟩:=List.findIdx?_eq_some_iff_getElem.1 hfi
    have hk0:keepP p (l.take i0)=l.take i0:=List.filter_eq_self.2 fun x hx=>by
      obtain ⟨j,hj,rfl⟩:=List.getElem_of_mem hx
      simp at hj
      have:=hbef j (by omega)
      simpa using this
    have hk1:keepP p (l.take (i0+1))=l.take i0:=by rw [keepP_succ hil,if_pos hpi,hk0]
    have d1:((i0:Int) = -1)=False:=by simp
    rw [hid]
    simp only [vqM,vt92,zA,zS,zM,zL,zE,zB,reduceCtorEq,d1,decide_false]
    rw [wrap_succ (by omega),← hself]
    refine awN_keep [0,1,5,6] ?_
    simp only [vke,zB,zA]
    refine awN_forR hmix (l.length - (i0+1)) (fun k e s=>∃ (cur:List Int) (K:Nat),e=[.row b 0 l.length 1,f,.junk,.junk,.junk,.int .i64 (K:Int),.int .i64 ((i0+1+k:Nat):Int),.junk,.junk,.junk,.junk,.junk,.junk,.junk,.junk,.junk,.junk,.junk,.junk,.junk,.junk,.junk,.junk,.junk,.junk,.junk,.junk,.junk,.junk,.junk,.junk,.junk,.junk,.junk,.junk,.junk,.junk,.junk,.junk,.junk,.junk,.junk]∧cur.length=l.length∧K=(keepP p (l.take (i0+1+k))).length ∧
        cur.take K=keepP p (l.take (i0+1+k))∧cur.drop (i0+1+k)=l.drop (i0+1+k)∧K<i0+1+k∧s=⟨C.set b (.cells (ints cur++rest)),L,c⟩) ?_ ?_ 0 _ _ (Nat.zero_le _) ⟨l,i0,rfl,rfl,by rw [Nat.add_zero,hk1];simp;omega,by rw [Nat.add_zero,hk1],by rfl,by omega,rfl⟩
    · rintro k e s hk ⟨cur,K,rfl,q1,q2,q3,q4,q5,rfl⟩ ih
      have hj:i0+1+k<l.length:=by omega
      have a0:decide (((i0+1+k:Nat):Int)<(l.length:Int))=true:=by simp;omega
      have a2:(0≤((i0+1+k:Nat):Int)∧((i0+1+k:Nat):Int)<(l.length:Int))=True:=by simp;omega
      have a4:(0≤(K:Int)∧(K:Int)<(l.length:Int))=True:=by simp;omega
      have hcj:cur[i0+1+k]'(by omega)=l[i0+1+k]:=by
        have:=congrArg (fun z=>z[0]?) q4
        simpa [q1,hj] using this
      have b1:((ints cur++rest).drop (i0+1+k))[0]? = some (.int .i64 l[i0+1+k]):=by rw [at_ints (by omega),hcj]
      have hsn:=keepP_succ (p:=p) hj
      generalize l[i0+1+k]=x at hcj b1 hsn
      simp only [vqM,vt92,zA,zS,zM,zL,zE,zB,reduceCtorEq,a0,a2,b1,hget,Int.toNat_natCast,Nat.mul_one,Nat.zero_add]
      refine callI_of (hp _ x) ?_
      simp only [vqM,vt92,zA,zS,zM,zL,zE,zB,reduceCtorEq,a0,a2,b1,hget,Int.toNat_natCast,Nat.mul_one,Nat.zero_add]
      refine ifI_intro (fun hx=>?_) (fun hx=>?_)
      · have hx':p x=false:=by simpa using hx
        rw [hx'] at hsn
        have a5:(K+1≤(ints cur++rest).length)=True:=by simp [ints];omega
        have c1:(ints cur++rest).take K++D.int .i64 x::(ints cur++rest).drop (K+1)=ints (cur.take K++x::cur.drop (K+1))++rest:=by
          rw [List.take_append_of_le_length (by simp [ints];omega),List.drop_append_of_le_length (by simp [ints];omega)]
          simp [ints]
        simp only [vqM,vt92,zA,zS,zM,zL,zE,zB,reduceCtorEq,a0,a2,a4,a5,b1,c1,hget,hset,Int.toNat_natCast,Nat.mul_one,Nat.zero_add]
        rw [show IntKind.i64.wrap ((K:Int)+1)=((K+1:Nat):Int) from wrap_succ (by omega),show IntKind.i64.wrap (((i0+1+k:Nat):Int)+1)=((i0+1+(k+1):Nat):Int) from wrap_succ (by omega)]
        refine awN_keep [0,1,5,6] ?_
        simp only [vke,zB,zA]
        have hlt:(cur.take K).length=K:=by simp;omega
        refine ih _ _ ⟨_,K+1,rfl,?_,?_,?_,?_,by omega,rfl⟩
        · simp;omega
        · rw [show i0+1+(k+1)=i0+1+k+1 from by omega,hsn,q2];simp
        · rw [show i0+1+(k+1)=i0+1+k+1 from by omega,hsn,← q3,List.take_append,List.take_of_length_le (by omega),hlt]
          simp [show K+1 - K=1 from by omega]
        · rw [List.drop_append,List.drop_of_length_le (by omega),hlt,show i0+1+(k+1) - K=(i0+1+k - K)+1 from by omega]
          simp only [List.nil_append,List.drop_succ_cons,List.drop_drop]
          have:=congrArg (List.drop 1) q4
          rw [List.drop_drop,List.drop_drop] at this
          rw [show K+1+(i0+1+k - K)=i0+1+k+1 from by omega,this];rfl
      · have hx':p x=true:=by simpa using hx
        rw [hx'] at hsn
        simp only [vqM,vt92,zA,zS,zM,zL,zE,zB,reduceCtorEq]
        rw [show IntKind.i64.wrap (((i0+1+k:Nat):Int)+1)=((i0+1+(k+1):Nat):Int) from wrap_succ (by omega)]
        refine awN_keep [0,1,5,6] ?_
        simp only [vke,zB,zA]
        refine ih _ _ ⟨cur,K,rfl,q1,?_,?_,?_,by omega,rfl⟩
        · rw [show i0+1+(k+1)=i0+1+k+1 from by omega,hsn,q2];rfl
        · rw [show i0+1+(k+1)=i0+1+k+1 from by omega,hsn,q3];rfl
        · have:=congrArg (List.drop 1) q4
          rw [List.drop_drop,List.drop_drop] at this;exact this
    · rintro e s ⟨cur,K,rfl,q1,q2,q3,q4,q5,rfl⟩
      have hall:l.take (i0+1+(l.length - (i0+1)))=l:=List.take_of_length_le (by omega)
      rw [hall] at q2 q3
      have a0:decide (((i0+1+(l.length - (i0+1)):Nat):Int)<(l.length:Int))=false:=by simp;omega
      have hcl:K+(l.length - K) * 1≤(ints cur++rest).length:=by simp [ints];omega
      simp only [vqM,vt92,zA,zS,zM,zL,zE,zB,reduceCtorEq,a0,hget,hset,sl_fromA (show K<l.length by omega),sl_to (show K≤l.length by omega),Nat.mul_one,Nat.zero_add,evClear_rw,clR_w,clR2_w hcl]
      refine retA (.inr rfl) (r:=.row b 0 K 1) ?_ ⟨_,by rw [q2],?_,rfl⟩
      · simp only [vqM,vt92,zA,zS,zM,zL,zE,zB,reduceCtorEq]
      · rw [← q2];(try rw [storeD]);rw [List.take_append_of_le_length (by simp [ints];omega),List.take_of_length_le (by simp [ints];omega),List.take_append_of_le_length (by simp [ints];omega)]
        rw [show (ints cur).take K=ints (cur.take K) from by simp [ints],q3]
def En.zc:List D:=[.bool false,.bool false,.int .i64 0,.int .i64 0,.int .i64 0,.slice .nil [],.slice .nil [],.int .i64 0,.int .i64 0,.str ⟨#[]⟩,.int .i64 0,.int .i64 0,.slice .nil [],.slice .nil [],.int .i64 0,.int .i64 0,.slice .nil [],.int .i64 0,.slice .nil [],.slice .nil [],.slice .nil [],.slice .nil [],.slice .nil [],.int .i64 0,.int .i64 0,.int .i64 0,.slice .nil []]
def lookE (p:Pg) (id:Int):D:=if id ∈ idsS p then .agg (entE p id).cells else .agg En.zc
theorem lookE_plain (p:Pg) (id:Int):(lookE p id).plain=.agg (entE p id).cells:=by
  unfold lookE
  split
  · exact congrArg D.agg (En.plain _)
  · rename_i h
    rw [entE_out h];rfl
theorem mapFind_some {f:Hd→D} {h:Hd}:∀ {l:List Hd},l.Pairwise (fun a b=>a.id<b.id)→h ∈ l→∀ i,∃ q,mapFind .i64 h.id (l.map fun x=>(D.int .i64 x.id,f x)) i=some (some (q,f h))
  | [],_,hm,_=>by simp at hm
  | x::l,hp,hm,i=>by
    obtain ⟨h1,h2⟩:=List.pairwise_cons.1 hp
    simp only [List.map_cons,mapFind,if_true]
    rcases List.mem_cons.1 hm with rfl | hm
    · exact ⟨i,by simp⟩
    · have:=h1 h hm
      have hne:¬ h.id=x.id:=by omega
      rw [if_neg hne]
      exact mapFind_some h2 hm _
theorem mapFind_none {f:Hd→D} {n:Int}:∀ {l:List Hd},n ∉ l.map (·.id)→∀ i,mapFind .i64 n (l.map fun x=>(D.int .i64 x.id,f x)) i=some none
  | [],_,_=>rfl
  | h::l,hn,i=>by
    simp only [List.map_cons,List.mem_cons,not_or] at hn
    simp only [List.map_cons,mapFind,if_true,if_neg hn.1]
    exact mapFind_none hn.2 _
theorem look_ent {p:Pg} (N:Nrm p) (id:Int):Option.map (fun r=>lookD r (.agg En.zc) false) (mapFind .i64 id (entM p) 0)=some (lookE p id):=by
  unfold lookE
  by_cases h0:id=0
  · subst h0
    have e0:entE p 0=entE0 p:=by rw [entE,if_pos rfl];rfl
    simp only [entM,mapFind,if_true,idsS,List.mem_cons,true_or,e0]
    rfl
  · by_cases hm:id ∈ p.heads.map (·.id)
    · obtain ⟨h,hh,rfl⟩:=List.mem_map.1 hm
      obtain ⟨q,hq⟩:=mapFind_some (f:=fun h=>.agg (openE p h).cells) N.hid hh 1
      have e0:entE p h.id=openE p h:=by rw [entE,if_neg h0,headS_of N hh]
      simp only [entM,mapFind,if_true,if_neg h0,hq,idsS,List.mem_cons,hm,or_true,e0]
      rfl
    · have hq:=mapFind_none (f:=fun h=>.agg (openE p h).cells) hm 1
      have hni:¬ id ∈ idsS p:=by simp [idsS,h0];simpa using hm
      simp only [entM,mapFind,if_true,if_neg h0,hq,if_neg hni]
      rfl
theorem t_chg1 {p q:Pg} (N1:Nrm p) (N2:Nrm q) (id:Int) {C:List Box} {ix iy mx my:Nat} {L:List Nat} {c:Nat} (h1:C[ix]? = some (.cells [.map mx])) (h2:C[iy]? = some (.cells [.map my])) (h3:C[mx]? = some (.map (entM p))) (h4:C[my]? = some (.map (entM q))) :
    Spec Tryz.prog 34 [.int .i64 id,.box ix 0,.box iy 0] ⟨C,L,c⟩ (.bool (decide (entE p id=entE q id))) ⟨C,L,c⟩:=by
  have l1:=look_ent N1 id
  have l2:=look_ent N2 id
  have p1:=lookE_plain p id
  have p2:=lookE_plain q id
  unfold En.zc at l1 l2
  refine Spec.introN [] Tryz.func34 rfl (by decide) hmix (by kernel_rfl) [ResultVar.tmp 4] 12 rfl rfl ?_
  simp only [vqM,vt89,Tryz.f34,zA,zS,zM,zL,zE,zB,reduceCtorEq,h1,h2,h3,h4,l1,l2,p1,p2]
  refine callI_spec (t_same _ _ _) ?_
  simp only [vqM,vt89,zA,zS,zM,zL,zE,zB,reduceCtorEq]
  refine ret_here (.inr rfl) ?_ (.bool _)
  simp only [vqM,vt89,zA,zS,zM,zL,zE,zB,reduceCtorEq]
theorem ms_ok {p:Pg} (hl:p.heads.length≤900) {B:List Box} {b:Nat} (hb:B[b]? = some (.map (entM p))):Ms.Ok B ⟨b,entM p,idsS p⟩ where
  bx:=hb
  ks:=by simp [entM,idsS]
  ln:=by simp [idsS];omega
  ne:=by simp [idsS]
def Ch2 (p q:Pg) (B:List Box) (L:List Nat) (c:Nat) (e:List D) (s:St):Prop :=
  ∃ ix iy mx my X,keep [5,6,8,10] e=[.junk,.junk,.junk,.junk,.junk,.box ix 0,.box iy 0,.junk,.map mx,.junk,.map my,.junk,.junk,.junk,.junk,.junk,.junk]∧s=⟨B++X,L,c⟩∧(B++X)[ix]? = some (.cells [.map mx])∧(B++X)[iy]? = some (.cells [.map my])∧(B++X)[mx]? = some (.map (entM p))∧(B++X)[my]? = some (.map (entM q))
theorem ch2_mk {p q:Pg} {B X:List Box} {L:List Nat} {c ix iy mx my:Nat} {e:List D} {s:St} (h1:keep [5,6,8,10] e=[.junk,.junk,.junk,.junk,.junk,.box ix 0,.box iy 0,.junk,.map mx,.junk,.map my,.junk,.junk,.junk,.junk,.junk,.junk]) (h2:s=⟨B++X,L,c⟩) (h3:(B++X)[ix]? = some (.cells [.map mx])) (h4:(B++X)[iy]? = some (.cells [.map my])) (h5:(B++X)[mx]? = some (.map (entM p))) (h6:(B++X)[my]? = some (.map (entM q))):Ch2 p q B L c e s :=
  ⟨ix,iy,mx,my,X,h1,h2,h3,h4,h5,h6⟩
theorem Nrm.ids {p:Pg} (N:Nrm p):(idsS p).Nodup:=by
  refine List.nodup_cons.2 ⟨fun h=>?_,?_⟩
  · obtain ⟨x,hx,e⟩:=List.mem_map.1 h
    have:=N.pos x hx
    omega
  · rw [List.nodup_iff_pairwise_ne,List.pairwise_map]
    exact N.hid.imp fun h=>by omega
theorem t_Changed (p q:Pg) (N1:Nrm p) (N2:Nrm q) (hl1:p.heads.length≤900) (hl2:q.heads.length≤900) (s:St):Spec Tryz.prog 16 [.agg p.cells,.agg q.cells] s (.slice .none (intCells (changedS p q))) s:=by
  refine Spec.wf fun hW=>?_
  obtain ⟨B,L,c⟩:=s
  have hW0:WfL L c:=⟨hW.nd,hW.lt⟩
  refine SpecQ.freeze (Z:=fun r s=>∃ X L' c',s=⟨B++X,L',c'⟩∧(∀ k ∈ L,k ∈ L')∧c≤c'∧((r=.row0∧intCells (changedS p q)=[]) ∨ ∃ b off n sz cs,r=.row b off n sz∧B.length≤b∧(B++X)[b]? = some (.cells cs)∧(intCells (changedS p q)).flatten=(cs.drop off).take (n * sz)∧(intCells (changedS p q)).length=n∧(∀ x ∈ intCells (changedS p q),x.length=sz))) ?_ (bd_intSl _) (fun r s h=>h)
  have hk1:(idsS p).Nodup:=N1.ids
  have hk2:(idsS q).Nodup:=N2.ids
  refine SpecQ.introA [(0,.cut),(1,.stop)] Tryz.func16 rfl (by decide) hmix (by kernel_rfl) [ResultVar.tmp 4] 17 rfl rfl ?_
  simp only [vqM,vt93,Tryz.f16,zA,zS,zM,zL,zE,zB,reduceCtorEq]
  refine seq_go ?_
  simp only [vqM,vt93,zA,zS,zM,zL,zE,zB,reduceCtorEq,vsK]
  refine awN_seq ?_
  refine awN_open fun _=>?_
  refine awI_cutI (Ch2 p q B L c) ?_ ?_
  · skip
    refine awI_drawM hmix [1,3,4,5,6,7] [⟨[0,1,2,3,4,5,6,7],[(2,0)]⟩,⟨[0,1,2,3,5,4,6,7],[(2,0)]⟩,⟨[0,1,2,4,3,5,6,7],[(2,0),(2,2)]⟩,⟨[0,1,2,4,5,3,6,7],[(2,0),(2,2),(2,3)]⟩,⟨[0,1,2,5,3,4,6,7],[(2,0),(2,2)]⟩,⟨[0,1,2,5,4,3,6,7],[(2,0),(2,2),(2,3)]⟩,⟨[0,4,1,2,3,5,6,7],[(0,1),(2,0),(2,1)]⟩,⟨[0,4,1,2,5,3,6,7],[(0,1),(2,0),(2,1),(2,3)]⟩,⟨[0,4,5,1,2,3,6,7],[(0,1),(0,2),(2,0),(2,1),(2,2)]⟩,⟨[0,5,1,2,3,4,6,7],[(0,1),(2,0),(2,1)]⟩,⟨[0,5,1,2,4,3,6,7],[(0,1),(2,0),(2,1),(2,3)]⟩,⟨[0,5,4,1,2,3,6,7],[(0,1),(0,2),(2,0),(2,1),(2,2)]⟩] (by kernel_rfl) fun pl hpl=>?_
    simp only [List.mem_cons,List.not_mem_nil,or_false] at hpl
    rcases hpl with rfl | rfl | rfl | rfl | rfl | rfl | rfl | rfl | rfl | rfl | rfl | rfl
    all_goals
      simp only [vqM,vt93,zA,zS,zM,zL,zE,zB,reduceCtorEq,List.getD_cons_zero,List.getD_cons_succ,List.contains_cons,List.contains_nil,Bool.or_false,Bool.or_true,Bool.true_or,Bool.false_or]
      refine callI_spec (t_entries p hk1 _ _ _) ?_
      simp only [vqM,vt93,zA,zS,zM,zL,zE,zB,reduceCtorEq,List.getD_cons_zero,List.getD_cons_succ,List.contains_cons,List.contains_nil,Bool.or_false,Bool.or_true,Bool.true_or,Bool.false_or]
      refine callI_spec (t_entries q hk2 _ _ _) ?_
      simp only [vqM,vt93,zA,zS,zM,zL,zE,zB,reduceCtorEq,List.getD_cons_zero,List.getD_cons_succ,List.contains_cons,List.contains_nil,Bool.or_false,Bool.or_true,Bool.true_or,Bool.false_or]
      generalize entX p p.heads=XP
      generalize entX q q.heads=XQ
      have hadd:∀ a,B.length+a+1=B.length+(a+1):=fun _=>rfl
      refine meet_intro ?_
      apply ch2_mk
      · simp only [vke,zB,zA]
        rfl
      · rfl
      all_goals (first | (simp only [hadd,box_at,box_at0,List.getElem?_cons_succ,List.getElem?_cons_zero];done) | (simp only [hadd,box_at,box_at0,List.getElem?_cons_succ,List.getElem?_cons_zero];rfl) | (simp only [hadd,zA,box_at];rfl) | trace_state)
  · rintro e s ⟨ix,iy,mx,my,X,he,rfl,h1,h2,h3,h4⟩
    have g1:∀ Y,(B++X++Y)[ix]? = some (.cells [.map mx]):=fun Y=>box_lt h1
    have g2:∀ Y,(B++X++Y)[iy]? = some (.cells [.map my]):=fun Y=>box_lt h2
    have g3:∀ Y,(B++X++Y)[mx]? = some (.map (entM p)):=fun Y=>box_lt h3
    have g4:∀ Y,(B++X++Y)[my]? = some (.map (entM q)):=fun Y=>box_lt h4
    have lx:=(List.getElem?_eq_some_iff.1 h1).1
    have ly:=(List.getElem?_eq_some_iff.1 h2).1
    have lmx:=(List.getElem?_eq_some_iff.1 h3).1
    have lmy:=(List.getElem?_eq_some_iff.1 h4).1
    simp only [vqM,vt93,zA,zS,zM,zL,zE,zB,reduceCtorEq,vsK]
    refine awN_keep [5,6,8,10] ?_
    rw [he]
    refine awN_cw hmix ?_
    simp only [vqM,vt93,zA,zS,zM,zL,zE,zB,reduceCtorEq,h1,h2]
    refine callI_specQ (t_keys [⟨mx,entM p,idsS p⟩,⟨my,entM q,idsS q⟩] (B++X) ?_ (by simp) (by simp) L c hW0) ?_
    · intro x hx
      rcases List.mem_cons.1 hx with rfl | hx
      · exact ms_ok hl1 h3
      · rcases List.mem_cons.1 hx with rfl | hx
        · exact ms_ok hl2 h4
        · simp at hx
    rintro r t ⟨b,cs,X2,rfl,hX2,hcs,rfl⟩
    have hk:compL (sortI (allK [⟨mx,entM p,idsS p⟩,⟨my,entM q,idsS q⟩]))=keysS [p,q]:=rfl
    rw [hk] at hcs ⊢
    have hbl:=(List.getElem?_eq_some_iff.1 hX2).1
    have hlen:(keysS [p,q]).length≤100000:=by
      have h1:=compL_le (sortI (allK [⟨mx,entM p,idsS p⟩,⟨my,entM q,idsS q⟩]))
      have h2:(sortI (allK [⟨mx,entM p,idsS p⟩,⟨my,entM q,idsS q⟩])).length=_:=(List.mergeSort_perm _ _).length_eq
      rw [hk,h2] at h1
      simp [allK,idsS] at h1
      omega
    have hcs2:cs=ints (keysS [p,q])++cs.drop (keysS [p,q]).length:=by rw [← hcs];exact (List.take_append_drop _ _).symm
    have hb:(B++X++X2)[(B++X).length+b]? = some (.cells (ints (keysS [p,q])++cs.drop (keysS [p,q]).length)):=by rw [box_at,← hcs2];exact hX2
    simp only [vqM,vt93,zA,zS,zM,zL,zE,zB,reduceCtorEq,h1,h2]
    rw [List.append_assoc] at hb
    rw [show (B++X).length=B.length+X.length from List.length_append] at hb
    have hge:∀ i,i<(B++X).length→∀ y,((B++(X++X2)).set (B.length+X.length+b) y)[i]? = (B++X)[i]?:=fun i hi y=>by
      rw [List.getElem?_set_ne (by simp at hi;omega),← List.append_assoc,List.getElem?_append_left hi]
    refine callI_specQ (t_DeleteF (.func (.func 34) [] [.box ix 0,.box iy 0]) rfl (fun id=>decide (entE p id=entE q id)) (keysS [p,q]) _ hb hlen fun cs x=>?_) ?_
    · refine (show CallVQ _ _ _ _ _ from ?_)
      simp only [CallVQ,List.nil_append,List.cons_append]
      exact t_chg1 N1 N2 x (by rw [hge _ lx];exact h1) (by rw [hge _ ly];exact h2) (by rw [hge _ lmx];exact h3) (by rw [hge _ lmy];exact h4)
    rintro r t ⟨cs2,rfl,hcs3,rfl⟩
    have hkp:keepP (fun id=>decide (entE p id=entE q id)) (keysS [p,q])=changedS p q:=rfl
    rw [hkp] at hcs3 ⊢
    have hbig:B.length+X.length+b<(B++(X++X2)).length:=(List.getElem?_eq_some_iff.1 hb).1
    have hset:(B++(X++X2)).set (B.length+X.length+b) (.cells cs2)=B++(X++X2).set (X.length+b) (.cells cs2):=by
      rw [List.set_append_right _ _ (by omega)]
      congr 2
      omega
    simp only [vqM,vt93,zA,zS,zM,zL,zE,zB,reduceCtorEq]
    refine retA (.inr rfl) (r:=.row (B.length+X.length+b) 0 (changedS p q).length 1) ?_ ⟨(X++X2).set (X.length+b) (.cells cs2),L,c,by rw [hset],fun _ h=>h,Nat.le_refl _,.inr ⟨_,_,_,_,cs2,rfl,by omega,?_,?_,by simp [intCells],?_⟩⟩
    · simp only [vqM,vt93,zA,zS,zM,zL,zE,zB,reduceCtorEq]
    · rw [← hset,List.getElem?_set_self hbig]
    · rw [Nat.mul_one,List.drop_zero,hcs3,ints_flat]
    · intro x hx
      obtain ⟨y,_,rfl⟩:=List.mem_map.1 hx
      rfl
structure Own3 (L:List Nat) (c za zb zd:Nat) (a b d:Own) (L':List Nat) (c':Nat):Prop where
  wf:WfL L' c'
  la:LiveO a za L'
  lb:LiveO b zb L'
  ld:LiveO d zd L'
  ab:Apart a b
  bd:Apart b d
  da:Apart d a
  sub:∀ k ∈ L,k ∈ L'
  le:c≤c'
  na:∀ k y,a=.lab k y→c≤k
  nb:∀ k y,b=.lab k y→c≤k
  nd:∀ k y,d=.lab k y→c≤k
theorem Apart.symm {a b:Own} (h:Apart a b):Apart b a:=fun k z k' z' e1 e2=>(h k' z' k z e2 e1).symm
theorem Own3.rot {L:List Nat} {c za zb zd:Nat} {a b d:Own} {L':List Nat} {c':Nat} (h:Own3 L c za zb zd a b d L' c'):Own3 L c zb zd za b d a L' c' :=
  ⟨h.wf,h.lb,h.ld,h.la,h.bd,h.da,h.ab,h.sub,h.le,h.nb,h.nd,h.na⟩
theorem Own3.start {L:List Nat} {c:Nat} (h:WfL L c) (za zb zd:Nat):Own3 L c za zb zd .nil .nil .nil L c :=
  ⟨h,.inl rfl,.inl rfl,.inl rfl,fun _ _ _ _ e=>(by cases e),fun _ _ _ _ e=>(by cases e),fun _ _ _ _ e=>(by cases e),fun _ h=>h,Nat.le_refl _,fun _ _ e=>(by cases e),fun _ _ e=>(by cases e),fun _ _ e=>(by cases e)⟩
theorem LiveO.lt {o:Own} {z:Nat} {L:List Nat} {c:Nat} (h:LiveO o z L) (hw:WfL L c):∀ k y,o=.lab k y→k<c:=fun k y e=>by
  rcases h with h | ⟨j,h,hj⟩
  · rw [h] at e;cases e
  · rw [h] at e;cases e;exact hw.lt _ hj
theorem Own3.step {L:List Nat} {c za zb zd:Nat} {a b d:Own} {L':List Nat} {c':Nat} (h0:WfL L c) (h:Own3 L c za zb zd a b d L' c'):Own3 L c za zb zd (.lab c' za) b d (c'::eraseO L' a) (c'+1) where
  wf:=h.wf.relab a
  la:=.inr ⟨c',rfl,by simp⟩
  lb:=h.lb.erase h.ab
  ld:=h.ld.erase h.da.symm
  ab:=fun k z k' z' e1 e2=>by cases e1;have:=h.lb.lt h.wf _ _ e2;omega
  bd:=h.bd
  da:=fun k z k' z' e1 e2=>by cases e2;have:=h.ld.lt h.wf _ _ e1;omega
  sub:=fun q hq=>List.mem_cons_of_mem _ (eraseO_mem (h.sub q hq) fun y e=>by have:=h.na _ _ e;have:=h0.lt q hq;omega)
  le:=by have:=h.le;omega
  na:=fun k y e=>by cases e;exact h.le
  nb:=h.nb
  nd:=h.nd
theorem Own3.stepB {L:List Nat} {c za zb zd:Nat} {a b d:Own} {L':List Nat} {c':Nat} (h0:WfL L c) (h:Own3 L c za zb zd a b d L' c'):Own3 L c za zb zd a (.lab c' zb) d (c'::eraseO L' b) (c'+1):=((h.rot.step h0).rot).rot
theorem Own3.stepD {L:List Nat} {c za zb zd:Nat} {a b d:Own} {L':List Nat} {c':Nat} (h0:WfL L c) (h:Own3 L c za zb zd a b d L' c'):Own3 L c za zb zd a b (.lab c' zd) (c'::eraseO L' d) (c'+1):=(h.rot.rot.step h0).rot
theorem lookE_agg (p:Pg) (id:Int):∃ zs,lookE p id=.agg zs∧zs.map D.plain1=(entE p id).cells∧zs.map D.keep1=zs∧zs.length=27∧(zs=(entE p id).cells∨(zs=En.zc∧entE p id=En.zero∧id≠0)):=by
  unfold lookE
  split
  · exact ⟨_,rfl,En.plain _,En.keep1 _,En.cells_len _,.inl rfl⟩
  · rename_i h
    have h0:id≠0:=by rintro rfl;exact h (by simp [idsS])
    rw [entE_out h]
    exact ⟨_,rfl,rfl,rfl,rfl,.inr ⟨rfl,rfl,h0⟩⟩
def threeD (r:Pg × List Int × Int):D:=.tup [.agg r.1.cells,.slice .none (intCells r.2.1),.int .i64 r.2.2]
structure Th (p a b:Pg) (B X:List Box) (mx my mz:Nat):Prop where
  r:(B++X)[B.length+3]? = some (.cells Pg.zc)
  x:(B++X)[mx]? = some (.map (entM p))
  y:(B++X)[my]? = some (.map (entM a))
  z:(B++X)[mz]? = some (.map (entM b))
def Th0 (p a b:Pg) (B:List Box) (L:List Nat) (c:Nat) (e:List D) (s:St):Prop :=
  ∃ X mx my mz w,keep [6,9,10,11,12,13] e=[.junk,.junk,.junk,.junk,.junk,.junk,.box (B.length+3) 0,.junk,.junk,.map mx,.map my,.map mz,.slice .nil [],.box w 0,.junk,.junk,.junk,.junk,.junk,.junk,.junk,.junk,.junk,.junk,.junk,.junk,.junk,.junk,.junk,.junk,.junk,.junk,.junk,.junk,.junk,.junk,.junk,.junk,.junk,.junk,.junk,.junk,.junk,.junk,.junk,.junk,.junk,.junk,.junk,.junk,.junk,.junk,.junk,.junk,.junk,.junk,.junk,.junk,.junk,.junk,.junk,.junk,.junk,.junk,.junk,.junk,.junk,.junk,.junk,.junk,.junk,.junk,.junk,.junk,.junk,.junk,.junk,.junk,.junk,.junk,.junk,.junk,.junk,.junk,.junk,.junk,.junk,.junk,.junk,.junk,.junk,.junk,.junk,.junk,.junk,.junk,.junk,.junk,.junk,.junk,.junk,.junk,.junk,.junk,.junk,.junk,.junk]∧s=⟨B++X,L,c⟩∧Th p a b B X mx my mz∧B.length+3<w∧(B++X)[w]? = some (.cells Pg.zc)
theorem th0_mk {p a b:Pg} {B X:List Box} {L:List Nat} {c mx my mz w:Nat} {e:List D} {s:St} (h1:keep [6,9,10,11,12,13] e=[.junk,.junk,.junk,.junk,.junk,.junk,.box (B.length+3) 0,.junk,.junk,.map mx,.map my,.map mz,.slice .nil [],.box w 0,.junk,.junk,.junk,.junk,.junk,.junk,.junk,.junk,.junk,.junk,.junk,.junk,.junk,.junk,.junk,.junk,.junk,.junk,.junk,.junk,.junk,.junk,.junk,.junk,.junk,.junk,.junk,.junk,.junk,.junk,.junk,.junk,.junk,.junk,.junk,.junk,.junk,.junk,.junk,.junk,.junk,.junk,.junk,.junk,.junk,.junk,.junk,.junk,.junk,.junk,.junk,.junk,.junk,.junk,.junk,.junk,.junk,.junk,.junk,.junk,.junk,.junk,.junk,.junk,.junk,.junk,.junk,.junk,.junk,.junk,.junk,.junk,.junk,.junk,.junk,.junk,.junk,.junk,.junk,.junk,.junk,.junk,.junk,.junk,.junk,.junk,.junk,.junk,.junk,.junk,.junk,.junk,.junk]) (h2:s=⟨B++X,L,c⟩) (h3:(B++X)[B.length+3]? = some (.cells Pg.zc)) (h4:(B++X)[mx]? = some (.map (entM p))) (h5:(B++X)[my]? = some (.map (entM a))) (h6:(B++X)[mz]? = some (.map (entM b))) (h7:B.length+3<w) (h8:(B++X)[w]? = some (.cells Pg.zc)):Th0 p a b B L c e s :=
  ⟨X,mx,my,mz,w,h1,h2,⟨h3,h4,h5,h6⟩,h7,h8⟩
theorem list7 {l:List D} (h:l.length=7):∃ d0 d1 d2 d3 d4 d5 d6,l=[d0,d1,d2,d3,d4,d5,d6]:=by
  match l,h with
  | [d0,d1,d2,d3,d4,d5,d6],_=>exact ⟨_,_,_,_,_,_,_,rfl⟩
theorem t_Three (p a b:Pg) (N1:Nrm p) (N2:Nrm a) (N3:Nrm b) (hl1:p.heads.length≤900) (hl2:a.heads.length≤900) (hl3:b.heads.length≤900) (PO:PgOk (mergedS p a b)) (s:St):Spec Tryz.prog 26 [.agg p.cells,.agg a.cells,.agg b.cells] s (threeD (threeS p a b)) s:=by
  refine Spec.wf fun hW=>?_
  obtain ⟨B,L,c⟩:=s
  have hW0:WfL L c:=⟨hW.nd,hW.lt⟩
  have hk1:(idsS p).Nodup:=N1.ids
  have hk2:(idsS a).Nodup:=N2.ids
  have hk3:(idsS b).Nodup:=N3.ids
  refine Spec.introN [(1,.text [false,true,false,true,false,true,false,false,false] [(2,0),(4,0),(4,1)]),(3,.cut),(7,.cut),(14,.text [false,false,false,false,false,true,false,true] [(3,1)])] Tryz.func26 rfl (by decide) hmix (by kernel_rfl) [ResultVar.cell 6 37,ResultVar.tmp 7,ResultVar.tmp 8] 107 rfl rfl ?_
  simp only [vqM,vt94,Tryz.f26,zA,zS,zM,zL,zE,zB,reduceCtorEq]
  refine callI_spec (t_entries p hk1 _ _ _) ?_
  simp only [vqM,vt94,zA,zS,zM,zL,zE,zB,reduceCtorEq]
  refine callI_spec (t_entries a hk2 _ _ _) ?_
  simp only [vqM,vt94,zA,zS,zM,zL,zE,zB,reduceCtorEq]
  refine callI_spec (t_entries b hk3 _ _ _) ?_
  simp only [vqM,vt94,zA,zS,zM,zL,zE,zB,reduceCtorEq]
  refine seq_joinI (Th0 p a b B L c) ?_ ?_
  · simp only [vqM,vt94,zA,zS,zM,zL,zE,zB,reduceCtorEq]
    generalize entX p p.heads=XP
    generalize entX a a.heads=XA
    generalize entX b b.heads=XB
    have hadd:∀ a,B.length+a+1=B.length+(a+1):=fun _=>rfl
    have haddP:∀ a,XP.length+a+1=XP.length+(a+1):=fun _=>rfl
    refine joinI_intro ?_
    apply th0_mk
    · simp only [vke,zB,zA]
      rfl
    · rfl
    all_goals (first | (simp only [hadd,box_at,box_at0,List.getElem?_cons_succ,List.getElem?_cons_zero];done) | (simp only [hadd,box_at,box_at0,List.getElem?_cons_succ,List.getElem?_cons_zero];rfl) | (simp only [hadd,zA,box_at];rfl) | omega | (simp only [hadd,box_at,box_at0,List.getElem?_cons_succ,List.getElem?_cons_zero];simp only [haddP,box_at,box_at0,List.getElem?_cons_succ,List.getElem?_cons_zero];done) | trace_state)
  rintro e s ⟨X,mx,my,mz,w,he,rfl,hT,hw,hb⟩
  refine awN_keep [6,9,10,11,12,13] ?_
  rw [he]
  clear he
  refine awN_cw hmix ?_
  simp only [vqM,vt94,zA,zS,zM,zL,zE,zB,reduceCtorEq]
  refine callI_specQ (t_keys [⟨mx,entM p,idsS p⟩,⟨my,entM a,idsS a⟩,⟨mz,entM b,idsS b⟩] (B++X) ?_ (by simp) (by simp) L c hW0) ?_
  · intro x hx
    rcases List.mem_cons.1 hx with rfl | hx
    · exact ms_ok hl1 hT.x
    · rcases List.mem_cons.1 hx with rfl | hx
      · exact ms_ok hl2 hT.y
      · rcases List.mem_cons.1 hx with rfl | hx
        · exact ms_ok hl3 hT.z
        · simp at hx
  rintro r t ⟨b0,cs,X2,rfl,hX2,hcs,rfl⟩
  have hk:compL (sortI (allK [⟨mx,entM p,idsS p⟩,⟨my,entM a,idsS a⟩,⟨mz,entM b,idsS b⟩]))=keysS [p,a,b]:=rfl
  rw [hk] at hcs ⊢
  have hlen:(keysS [p,a,b]).length≤100000:=by
    have h1:=compL_le (sortI (allK [⟨mx,entM p,idsS p⟩,⟨my,entM a,idsS a⟩,⟨mz,entM b,idsS b⟩]))
    have h2:(sortI (allK [⟨mx,entM p,idsS p⟩,⟨my,entM a,idsS a⟩,⟨mz,entM b,idsS b⟩])).length=_:=(List.mergeSort_perm _ _).length_eq
    rw [hk,h2] at h1
    simp [allK,idsS] at h1
    omega
  generalize hKS:keysS [p,a,b]=ks at hcs hlen ⊢
  have hT2:Th p a b B (X++X2) mx my mz:=⟨by rw [← List.append_assoc];exact box_lt hT.r,by rw [← List.append_assoc];exact box_lt hT.x,by rw [← List.append_assoc];exact box_lt hT.y,by rw [← List.append_assoc];exact box_lt hT.z⟩
  have hb2:(B++(X++X2))[w]? = some (.cells Pg.zc):=by rw [← List.append_assoc];exact box_lt hb
  have hwl:=(List.getElem?_eq_some_iff.1 hb).1
  have hr2:(B++(X++X2))[B.length+X.length+b0]? = some (.cells cs):=by
    rw [← List.append_assoc,← List.length_append,box_at];exact hX2
  have hwr:w<B.length+X.length+b0:=by simp at hwl;omega
  rw [List.append_assoc,show (B++X).length=B.length+X.length from List.length_append]
  generalize B.length+X.length+b0=rb at hr2 hwr ⊢
  generalize X++X2=X3 at hT2 hb2 hr2 ⊢
  simp only [vqM,vt94,zA,zS,zM,zL,zE,zB,reduceCtorEq]
  refine awN_keep [6,9,10,11,12,13,29,30,31] ?_
  simp only [vke,zB,zA]
  refine awN_forR hmix ks.length (fun k e s=>∃ (X:List Box) (hs:List Hd) (ds:List Df) (cf:List Int) (oh od oc:Own) (L':List Nat) (c':Nat) (DC:List D) (TH:D),Own3 L c 5 12 1 oh od oc L' c' ∧
      e=[.junk,.junk,.junk,.junk,.junk,.junk,.box (B.length+3) 0,.junk,.junk,.map mx,.map my,.map mz,.slice oc (intCells cf),.box w 0,.junk,.junk,.junk,.junk,.junk,.junk,.junk,.junk,.junk,.junk,.junk,.junk,.junk,.junk,.junk,.row rb 0 ks.length 1,.int .i64 ks.length,.int .i64 (k:Int),.junk,.junk,.junk,.junk,.junk,.junk,.junk,.junk,.junk,.junk,.junk,.junk,.junk,.junk,.junk,.junk,.junk,.junk,.junk,.junk,.junk,.junk,.junk,.junk,.junk,.junk,.junk,.junk,.junk,.junk,.junk,.junk,.junk,.junk,.junk,.junk,.junk,.junk,.junk,.junk,.junk,.junk,.junk,.junk,.junk,.junk,.junk,.junk,.junk,.junk,.junk,.junk,.junk,.junk,.junk,.junk,.junk,.junk,.junk,.junk,.junk,.junk,.junk,.junk,.junk,.junk,.junk,.junk,.junk,.junk,.junk,.junk,.junk,.junk,.junk]∧s=⟨B++X,L',c'⟩∧Th p a b B X mx my mz∧(B++X)[rb]? = some (.cells cs) ∧
      (B++X)[w]? = some (.cells (DC++[.slice oh (hdCells hs),.slice od (dfCells ds),TH]))∧DC.length=7∧DC.map D.plain1=(foldE (pickAt p a b) (ks.take k)).d.cells∧DC.map D.keep1=DC∧TH.plain1=.slice .none (intCells (foldE (pickAt p a b) (ks.take k)).threads)∧TH.keep1=TH ∧
      hs=(foldE (pickAt p a b) (ks.take k)).heads∧ds=(foldE (pickAt p a b) (ks.take k)).defs∧cf=(ks.take k).filter (fun id=>!agreeE (entE p id) (entE a id) (entE b id))∧hs.length≤k∧ds.length≤k) ?_ ?_ 0 _ _ (Nat.zero_le _) ?_
  · rintro k e s hk ⟨X,hs,ds,cf,oh,od,oc,L',c',DC,TH,hO,rfl,rfl,hT,hr,hw2,dc1,dc2,dc3,th1,th2,hhs,hds,hcf,hln1,hln2⟩ ih
    have hkl:(0≤(k:Int)∧(k:Int)<(ks.length:Int))=True:=by simp;exact hk
    have hklt:((k:Int)<(ks.length:Int))=True:=by simp;exact hk
    have hg:(cs.drop k)[0]? = some (.int .i64 ks[k]):=by
      have h1:cs[k]? = (ints ks)[k]?:=by rw [← hcs,List.getElem?_take,if_pos hk]
      rw [List.getElem?_drop,Nat.add_zero,h1]
      simp [ints,hk]
    have hnext:ks.take (k+1)=ks.take k++[ks[k]]:=by rw [List.take_add_one,List.getElem?_eq_getElem hk];rfl
    generalize ks[k]=id at hg hnext
    obtain ⟨zx,x1,x2,x3,x4,x5⟩:=lookE_agg p id
    obtain ⟨zy,y1,y2,y3,y4,y5⟩:=lookE_agg a id
    obtain ⟨zz,z1,z2,z3,z4,z5⟩:=lookE_agg b id
    have l1:=look_ent N1 id
    have l2:=look_ent N2 id
    have l3:=look_ent N3 id
    rw [x1] at l1
    rw [y1] at l2
    rw [z1] at l3
    unfold En.zc at l1 l2 l3
    have hT':∀ Z,Th p a b B (X++Z) mx my mz:=fun Z=>⟨by rw [← List.append_assoc];exact box_lt hT.r,by rw [← List.append_assoc];exact box_lt hT.x,by rw [← List.append_assoc];exact box_lt hT.y,by rw [← List.append_assoc];exact box_lt hT.z⟩
    simp only [vqM,vt94,zA,zS,zM,zL,zE,zB,reduceCtorEq,hkl,hklt,decide_true,natle0,Int.toNat_natCast,hr,hg,Nat.mul_one,Nat.zero_add]
    refine seq_go ?_
    simp only [vqM,vt94,zA,zS,zM,zL,zE,zB,reduceCtorEq,vsK,hT.y,l2,y3,y4]
    refine awN_joinI (fun e s=>∃ (X':List Box) (zs:List D) (cf':List Int) (oc':Own) (L2:List Nat) (c2:Nat),Own3 L c 5 12 1 oh od oc' L2 c2∧keep [6,9,10,11,12,13,15,16,29,30,31] e=[.junk,.junk,.junk,.junk,.junk,.junk,.box (B.length+3) 0,.junk,.junk,.map mx,.map my,.map mz,.slice oc' (intCells cf'),.box w 0,.junk,.int .i64 id,.box (B.length+X.length) 0,.junk,.junk,.junk,.junk,.junk,.junk,.junk,.junk,.junk,.junk,.junk,.junk,.row rb 0 ks.length 1,.int .i64 ks.length,.int .i64 (k:Int),.junk,.junk,.junk,.junk,.junk,.junk,.junk,.junk,.junk,.junk,.junk,.junk,.junk,.junk,.junk,.junk,.junk,.junk,.junk,.junk,.junk,.junk,.junk,.junk,.junk,.junk,.junk,.junk,.junk,.junk,.junk,.junk,.junk,.junk,.junk,.junk,.junk,.junk,.junk,.junk,.junk,.junk,.junk,.junk,.junk,.junk,.junk,.junk,.junk,.junk,.junk,.junk,.junk,.junk,.junk,.junk,.junk,.junk,.junk,.junk,.junk,.junk,.junk,.junk,.junk,.junk,.junk,.junk,.junk,.junk,.junk,.junk,.junk,.junk,.junk] ∧
      s=⟨B++X',L2,c2⟩∧Th p a b B X' mx my mz∧(B++X')[rb]? = some (.cells cs)∧(B++X')[w]? = some (.cells (DC++[.slice oh (hdCells hs),.slice od (dfCells ds),TH]))∧(B++X')[B.length+X.length]? = some (.cells zs)∧(zs=(pickAt p a b id).cells∨(zs=En.zc∧pickAt p a b id=En.zero∧id≠0)) ∧
      cf'=cf++(if agreeE (entE p id) (entE a id) (entE b id) then [] else [id])) ?_ ?_
    · refine awN_cw hmix ?_
      have gx:∀ Z,(B++(X++Z))[mx]? = some (.map (entM p)):=fun Z=>(hT' Z).x
      have gy:∀ Z,(B++(X++Z))[my]? = some (.map (entM a)):=fun Z=>(hT' Z).y
      have gz:∀ Z,(B++(X++Z))[mz]? = some (.map (entM b)):=fun Z=>(hT' Z).z
      have ga:∀ Z:List Box,(B++(X++Z))[rb]? = some (.cells cs):=fun Z=>by rw [← List.append_assoc];exact box_lt hr
      have gw:∀ Z:List Box,(B++(X++Z))[w]? = some (.cells (DC++[.slice oh (hdCells hs),.slice od (dfCells ds),TH])):=fun Z=>by rw [← List.append_assoc];exact box_lt hw2
      have gq:∀ z:Box,(B++(X++[z]))[B.length+X.length]? = some z:=fun z=>by rw [← List.append_assoc,← List.length_append,box_at0];rfl
      have hof:∀ B',ownFits oc (intCells cf) 1 ⟨B',L',c'⟩=true:=fun B'=>hO.ld.fits (intCells_each _) B' c'
      have hcl:cf.length≤k:=by rw [hcf];exact Nat.le_trans (List.length_filter_le _ _) (by simp;omega)
      have hl1':(cf.length+1≤1000000)=True:=eq_true (by omega)
      simp only [vqM,vt94,zA,zS,zM,zL,zE,zB,reduceCtorEq,gx,gy,gz,l1,l2,l3,x2,y2,z2]
      refine callI_spec (t_same _ _ _) ?_
      simp only [vqM,vt94,zA,zS,zM,zL,zE,zB,reduceCtorEq,gx,gy,gz,l1,l2,l3,x2,y2,z2]
      refine ifI_intro (fun h1=>?_) (fun h1=>?_)
      · have e1:entE a id=entE b id:=of_decide_eq_true h1
        simp only [vqM,vt94,zA,zS,zM,zL,zE,zB,reduceCtorEq,gx,gy,gz,l1,l2,l3,x2,y2,z2,h1,vsJI]
        refine joinI_intro ⟨X++[Box.cells zy],zy,cf,oc,L',c',hO,by simp only [vke,zB,zA],rfl,hT' _,ga _,gw _,by first | exact gq _ | simp,?_,?_⟩
        · have:pickAt p a b id=entE a id:=by simp [pickAt,pickE,e1]
          rw [this];exact y5
        · simp [agreeE,e1]
      · have e1:¬ entE a id=entE b id:=of_decide_eq_false h1
        simp only [vqM,vt94,zA,zS,zM,zL,zE,zB,reduceCtorEq,gx,gy,gz,l1,l2,l3,x2,y2,z2,h1]
        refine callI_spec (t_same _ _ _) ?_
        simp only [vqM,vt94,zA,zS,zM,zL,zE,zB,reduceCtorEq,gx,gy,gz,l1,l2,l3,x2,y2,z2,h1]
        refine ifI_intro (fun h2=>?_) (fun h2=>?_)
        · have e2:entE p id=entE b id:=of_decide_eq_true h2
          simp only [vqM,vt94,zA,zS,zM,zL,zE,zB,reduceCtorEq,gx,gy,gz,l1,l2,l3,x2,y2,z2,h1,h2,vsJI]
          refine joinI_intro ⟨X++[Box.cells zy],zy,cf,oc,L',c',hO,by simp only [vke,zB,zA],rfl,hT' _,ga _,gw _,by first | exact gq _ | simp,?_,?_⟩
          · have:pickAt p a b id=entE a id:=by simp [pickAt,pickE,e2]
            rw [this];exact y5
          · simp [agreeE,e2]
        · have e2:¬ entE p id=entE b id:=of_decide_eq_false h2
          simp only [vqM,vt94,zA,zS,zM,zL,zE,zB,reduceCtorEq,gx,gy,gz,l1,l2,l3,x2,y2,z2,h1,h2]
          refine callI_spec (t_same _ _ _) ?_
          simp only [vqM,vt94,zA,zS,zM,zL,zE,zB,reduceCtorEq,gx,gy,gz,l1,l2,l3,x2,y2,z2,h1,h2]
          refine ifI_intro (fun h3=>?_) (fun h3=>?_)
          · have e3:entE p id=entE a id:=of_decide_eq_true h3
            have hzd:zz++List.drop 27 zy=zz:=by rw [List.drop_of_length_le (by omega),List.append_nil]
            simp only [vqM,vt94,zA,zS,zM,zL,zE,zB,reduceCtorEq,gx,gy,gz,l1,l2,l3,x2,y2,z2,gq,z3,z4,y4,h1,h2,h3,hzd,vsJI]
            refine joinI_intro ⟨X++[Box.cells zz],zz,cf,oc,L',c',hO,by simp only [vke,zB,zA],rfl,hT' _,ga _,gw _,by first | exact gq _ | simp,?_,?_⟩
            · have:pickAt p a b id=entE b id:=by
                simp only [pickAt,pickE,e1,e2,e3,decide_false,Bool.or_false,decide_true,if_true]
                simp
              rw [this];exact z5
            · simp [agreeE,e3]
          · have e3:¬ entE p id=entE a id:=of_decide_eq_false h3
            simp only [vqM,vt94,zA,zS,zM,zL,zE,zB,reduceCtorEq,gx,gy,gz,l1,l2,l3,x2,y2,z2,h1,h2,h3,vsJI,hof,relab_eq,intCells_len,hl1',intCells_app]
            refine joinI_intro ⟨X++[Box.cells zy],zy,cf++[id],_,_,_,hO.stepD hW0,by simp only [vke,zB,zA],rfl,hT' _,ga _,gw _,by first | exact gq _ | simp,?_,?_⟩
            · have:pickAt p a b id=entE a id:=by simp [pickAt,pickE,e1,e2,e3]
              rw [this];exact y5
            · simp [agreeE,e1,e2,e3]
    · rintro e s ⟨X',zs,cf',oc',L2,c2,hO2,he,rfl,hT2',hr2',hw2',hq,hz,hcf'⟩
      have hzl:zs.length=27:=by
        rcases hz with rfl | ⟨rfl,_⟩
        · exact En.cells_len _
        · rfl
      have f3:zs[0]? = some (.bool (pickAt p a b id).head):=by
        rcases hz with rfl | ⟨rfl,h,_⟩
        · rfl
        · rw [h];rfl
      have f4:(zs.drop 1)[0]? = some (.bool (pickAt p a b id).opn):=by
        rcases hz with rfl | ⟨rfl,h,_⟩
        · rfl
        · rw [h];rfl
      have f0:id=0→(zs.drop 19).take 7=(pickAt p a b id).decl.cells∧(zs.drop 26)[0]? = some (.slice .none (intCells (pickAt p a b id).threads)):=by
        intro h
        rcases hz with rfl | ⟨_,_,h0⟩
        · exact ⟨rfl,rfl⟩
        · exact absurd h h0
      have f1:(pickAt p a b id).head=true→(zs.drop 2).take 5=(pickAt p a b id).h.cells:=by
        intro h
        rcases hz with rfl | ⟨_,h0,_⟩
        · rfl
        · rw [h0] at h;cases h
      have f2:(pickAt p a b id).opn=true→(zs.drop 7).take 12=(pickAt p a b id).d.cells:=by
        intro h
        rcases hz with rfl | ⟨_,h0,_⟩
        · rfl
        · rw [h0] at h;cases h
      have hfold:foldE (pickAt p a b) (ks.take (k+1))=addE (foldE (pickAt p a b) (ks.take k)) id (pickAt p a b id):=by rw [hnext,foldE,List.foldl_append];rfl
      have hcf2:cf'=(ks.take (k+1)).filter (fun id=>!agreeE (entE p id) (entE a id) (entE b id)):=by
        rw [hcf',hnext,List.filter_append,← hcf]
        cases hh:agreeE (entE p id) (entE a id) (entE b id) <;> simp [hh]
      clear hz hcf' x1 x2 x3 x4 x5 y1 y2 y3 y4 y5 z1 z2 z3 z4 z5 l1 l2 l3 hcf hT' hT
      generalize pickAt p a b id=E at f0 f1 f2 f3 f4 hfold
      generalize foldE (pickAt p a b) (ks.take k)=o at dc2 th1 hhs hds hfold
      have hwlt:=(List.getElem?_eq_some_iff.1 hw2).1
      have hqw:B.length+X.length≠w:=by simp at hwlt;omega
      clear hw2 hr
      generalize B.length+X.length=q at he hq hqw
      have hwl2:=(List.getElem?_eq_some_iff.1 hw2').1
      have gq2:∀ y,((B++X').set w y)[q]? = some (.cells zs):=fun y=>by rw [List.getElem?_set_ne (fun e=>hqw e.symm)];exact hq
      have gw2:∀ y:Box,((B++X').set w y)[w]? = some y:=fun y=>List.getElem?_set_self hwl2
      have gss:∀ y y':Box,((B++X').set w y).set w y'=(B++X').set w y':=fun y y'=>List.set_set ..
      have gself:(B++X').set w (.cells (DC++[.slice oh (hdCells hs),.slice od (dfCells ds),TH]))=B++X':=by
        refine List.ext_getElem? fun i=>?_
        by_cases h:i=w
        · subst h;rw [gw2,hw2']
        · rw [List.getElem?_set_ne (fun e=>h e.symm)]
      rw [← gself]
      refine awN_keep [6,9,10,11,12,13,15,16,29,30,31] ?_
      rw [he]
      clear he
      refine awN_joinI (fun e s=>∃ (D1:List D) (T1:D),keep [6,9,10,11,12,13,15,16,29,30,31] e=[.junk,.junk,.junk,.junk,.junk,.junk,.box (B.length+3) 0,.junk,.junk,.map mx,.map my,.map mz,.slice oc' (intCells cf'),.box w 0,.junk,.int .i64 id,.box q 0,.junk,.junk,.junk,.junk,.junk,.junk,.junk,.junk,.junk,.junk,.junk,.junk,.row rb 0 ks.length 1,.int .i64 ks.length,.int .i64 (k:Int),.junk,.junk,.junk,.junk,.junk,.junk,.junk,.junk,.junk,.junk,.junk,.junk,.junk,.junk,.junk,.junk,.junk,.junk,.junk,.junk,.junk,.junk,.junk,.junk,.junk,.junk,.junk,.junk,.junk,.junk,.junk,.junk,.junk,.junk,.junk,.junk,.junk,.junk,.junk,.junk,.junk,.junk,.junk,.junk,.junk,.junk,.junk,.junk,.junk,.junk,.junk,.junk,.junk,.junk,.junk,.junk,.junk,.junk,.junk,.junk,.junk,.junk,.junk,.junk,.junk,.junk,.junk,.junk,.junk,.junk,.junk,.junk,.junk,.junk,.junk]∧s=⟨(B++X').set w (.cells (D1++[.slice oh (hdCells hs),.slice od (dfCells ds),T1])),L2,c2⟩ ∧
        D1.length=7∧D1.map D.plain1=(addE o id E).d.cells∧D1.map D.keep1=D1∧T1.plain1=.slice .none (intCells (addE o id E).threads)∧T1.keep1=T1) ?_ ?_
      · obtain ⟨d0,d1,d2,d3,d4,d5,d6,rfl⟩:=list7 dc1
        refine awN_cw hmix ?_
        simp only [vqM,vt94,zA,zS,zM,zL,zE,zB,reduceCtorEq]
        refine ifI_intro (fun h0=>?_) (fun h0=>?_)
        · have hid0:id=0:=of_decide_eq_true h0
          obtain ⟨f5,f6⟩:=f0 hid0
          have hdl:E.decl.cells.length=7:=rfl
          have hdk:E.decl.cells.map D.keep1=E.decl.cells:=rfl
          have hda:∀ r,(E.decl.cells++r).drop 7=r:=fun r=>rfl
          simp only [vqM,vt94,zA,zS,zM,zL,zE,zB,reduceCtorEq,gq2,gw2,gss,f5,f6,hzl,hdl,hdk,hda,List.length_append,List.length_cons,List.length_nil,vsJI]
          exact joinI_intro ⟨E.decl.cells,.slice .none (intCells E.threads),by simp only [vke,zB,zA],rfl,hdl,by simp only [addE,hid0,if_true];rfl,hdk,by simp only [addE,hid0,if_true];rfl,rfl⟩
        · have hid0:¬ id=0:=of_decide_eq_false h0
          simp only [vqM,vt94,zA,zS,zM,zL,zE,zB,reduceCtorEq,vsJI]
          refine joinI_intro ⟨[d0,d1,d2,d3,d4,d5,d6],TH,by simp only [vke,zB,zA],rfl,dc1,by rw [dc2];simp [addE,hid0],dc3,by rw [th1];simp [addE,hid0],th2⟩
      rintro e s ⟨D1,T1,he,rfl,e1,e2,e3,e4,e5⟩
      obtain ⟨d0,d1,d2,d3,d4,d5,d6,rfl⟩:=list7 e1
      have hofh:∀ B',ownFits oh (hdCells hs) 5 ⟨B',L2,c2⟩=true:=fun B'=>hO2.la.fits (hdCells_each _) B' c2
      have hlh:(hs.length+1≤1000000)=True:=eq_true (by omega)
      have hld:(ds.length+1≤1000000)=True:=eq_true (by omega)
      refine awN_keep [6,9,10,11,12,13,15,16,29,30,31] ?_
      rw [he]
      clear he
      refine awN_joinI (fun e s=>∃ (oh1:Own) (L3:List Nat) (c3:Nat),Own3 L c 5 12 1 oh1 od oc' L3 c3∧keep [6,9,10,11,12,13,15,16,29,30,31] e=[.junk,.junk,.junk,.junk,.junk,.junk,.box (B.length+3) 0,.junk,.junk,.map mx,.map my,.map mz,.slice oc' (intCells cf'),.box w 0,.junk,.int .i64 id,.box q 0,.junk,.junk,.junk,.junk,.junk,.junk,.junk,.junk,.junk,.junk,.junk,.junk,.row rb 0 ks.length 1,.int .i64 ks.length,.int .i64 (k:Int),.junk,.junk,.junk,.junk,.junk,.junk,.junk,.junk,.junk,.junk,.junk,.junk,.junk,.junk,.junk,.junk,.junk,.junk,.junk,.junk,.junk,.junk,.junk,.junk,.junk,.junk,.junk,.junk,.junk,.junk,.junk,.junk,.junk,.junk,.junk,.junk,.junk,.junk,.junk,.junk,.junk,.junk,.junk,.junk,.junk,.junk,.junk,.junk,.junk,.junk,.junk,.junk,.junk,.junk,.junk,.junk,.junk,.junk,.junk,.junk,.junk,.junk,.junk,.junk,.junk,.junk,.junk,.junk,.junk,.junk,.junk,.junk,.junk,.junk,.junk]∧s=⟨(B++X').set w (.cells ([d0,d1,d2,d3,d4,d5,d6]++[.slice oh1 (hdCells (addE o id E).heads),.slice od (dfCells ds),T1])),L3,c3⟩) ?_ ?_
      · refine awN_cw hmix ?_
        simp only [vqM,vt94,zA,zS,zM,zL,zE,zB,reduceCtorEq,gq2,gw2,f3]
        refine ifI_intro (fun h0=>?_) (fun h0=>?_)
        · have f5:=f1 h0
          have hhn:hs++[E.h]=(addE o id E).heads:=by simp [addE,h0,hhs]
          simp only [vqM,vt94,zA,zS,zM,zL,zE,zB,reduceCtorEq,gq2,gw2,gss,f5,hzl,hofh,relab_eq,hdCells_len,hlh,hdCells_app,vsJI]
          rw [hhn]
          exact joinI_intro ⟨_,_,_,hO2.step hW0,by simp only [vke,zB,zA],rfl⟩
        · have hhn:hs=(addE o id E).heads:=by simp [addE,h0,hhs]
          simp only [vqM,vt94,zA,zS,zM,zL,zE,zB,reduceCtorEq,vsJI]
          exact joinI_intro ⟨_,_,_,hO2,by simp only [vke,zB,zA],by rw [hhn]⟩
      rintro e s ⟨oh1,L3,c3,hO3,he,rfl⟩
      have hofd:∀ B',ownFits od (dfCells ds) 12 ⟨B',L3,c3⟩=true:=fun B'=>hO3.lb.fits (dfCells_each _) B' c3
      have hX':∀ y,(B++X').set w y=B++X'.set (w - B.length) y:=fun y=>List.set_append_right _ _ (by omega)
      have gx:∀ i,i≠w→∀ y,((B++X').set w y)[i]? = (B++X')[i]?:=fun i hi y=>List.getElem?_set_ne (fun e=>hi e.symm)
      have hTn:∀ y,Th p a b B (X'.set (w - B.length) (.cells y)) mx my mz:=fun y=>by
        have nm:∀ (m:Nat) (es:List (D × D)),(B++X')[m]? = some (.map es)→m≠w:=fun m es h e=>by rw [e,hw2'] at h;cases h
        exact ⟨by rw [← hX',gx _ (by omega)];exact hT2'.r,by rw [← hX',gx _ (nm _ _ hT2'.x)];exact hT2'.x,by rw [← hX',gx _ (nm _ _ hT2'.y)];exact hT2'.y,by rw [← hX',gx _ (nm _ _ hT2'.z)];exact hT2'.z⟩
      have hlen1:(addE o id E).heads.length≤k+1:=by
        have:(addE o id E).heads=if E.head then o.heads++[E.h] else o.heads:=rfl
        rw [this]
        split <;> simp <;> (rw [← hhs];omega)
      refine awN_keep [6,9,10,11,12,13,15,16,29,30,31] ?_
      rw [he]
      clear he
      refine awN_cw hmix ?_
      simp only [vqM,vt94,zA,zS,zM,zL,zE,zB,reduceCtorEq,gq2,gw2,f4]
      refine ifI_intro (fun h0=>?_) (fun h0=>?_)
      · have f5:=f2 h0
        have hdn:ds++[E.d]=(addE o id E).defs:=by simp [addE,h0,hds]
        simp only [vqM,vt94,zA,zS,zM,zL,zE,zB,reduceCtorEq,gq2,gw2,gss,f5,hzl,hofd,relab_eq,dfCells_len,hld,dfCells_app]
        rw [wrap_succ (by omega)]
        refine awN_keep [6,9,10,11,12,13,29,30,31] ?_
        simp only [vke,zB,zA]
        refine ih _ _ ⟨X'.set (w - B.length) (.cells ([d0,d1,d2,d3,d4,d5,d6]++[.slice oh1 (hdCells (addE o id E).heads),.slice (.lab c3 12) (dfCells (ds++[E.d])),T1])),(addE o id E).heads,ds++[E.d],cf',oh1,.lab c3 12,oc',_,_,[d0,d1,d2,d3,d4,d5,d6],T1,hO3.stepB hW0,rfl,by (first | (rw [← hX'];done) | (rw [← hX'];rfl)),hTn _,by rw [← hX',gx _ (by omega)];exact hr2',by rw [← hX',gw2],rfl,by rw [hfold];exact e2,e3,by rw [hfold];exact e4,e5,by rw [hfold],by rw [hfold,← hdn],hcf2,hlen1,by simp;omega⟩
      · have hdn:ds=(addE o id E).defs:=by simp [addE,h0,hds]
        simp only [vqM,vt94,zA,zS,zM,zL,zE,zB,reduceCtorEq,gq2,gw2,gss]
        rw [wrap_succ (by omega)]
        refine awN_keep [6,9,10,11,12,13,29,30,31] ?_
        simp only [vke,zB,zA]
        refine ih _ _ ⟨X'.set (w - B.length) (.cells ([d0,d1,d2,d3,d4,d5,d6]++[.slice oh1 (hdCells (addE o id E).heads),.slice od (dfCells ds),T1])),(addE o id E).heads,ds,cf',oh1,od,oc',L3,c3,[d0,d1,d2,d3,d4,d5,d6],T1,hO3,rfl,by (first | (rw [← hX'];done) | (rw [← hX'];rfl)),hTn _,by rw [← hX',gx _ (by omega)];exact hr2',by rw [← hX',gw2],rfl,by rw [hfold];exact e2,e3,by rw [hfold];exact e4,e5,by rw [hfold],by rw [hfold,← hdn],hcf2,hlen1,by omega⟩
  · rintro e s ⟨X,hs,ds,cf,oh,od,oc,L',c',DC,TH,hO,rfl,rfl,hT,hr,hw2,dc1,dc2,dc3,th1,th2,hhs,hds,hcf,hln1,hln2⟩
    obtain ⟨d0,d1,d2,d3,d4,d5,d6,rfl⟩:=list7 dc1
    have hklt:((ks.length:Int)<(ks.length:Int))=False:=by simp
    rw [List.take_length] at dc2 th1 hhs hds hcf
    have hm:foldE (pickAt p a b) ks=mergedS p a b:=by rw [mergedS,hKS]
    have hc:cf=conflS p a b:=by rw [hcf,conflS,hKS]
    rw [hm] at dc2 th1 hhs hds
    have hrl:=(List.getElem?_eq_some_iff.1 hT.r).1
    have hz:(10≤Pg.zc.length)=True:=by simp [Pg.zc]
    have hz2:List.drop 10 Pg.zc=[]:=rfl
    have hset3:∀ y,(B++X).set (B.length+3) y=B++X.set 3 y:=fun y=>by rw [List.set_append_right _ _ (by omega),Nat.add_sub_cancel_left]
    have hx3:3<X.length:=by simp at hrl;omega
    have hget3:∀ y,(B++X.set 3 y)[B.length+3]? = some y:=fun y=>by rw [box_at,List.getElem?_set_self hx3]
    have hbd:∀ r,Bd 0 0 (threeD r):=fun r=>.tup _ fun i hi=>by
      match i,hi with
      | 0,_=>exact bd_agg (Pg.bd _)
      | 1,_=>exact bd_intSl _
      | 2,_=>exact .int _ _
    simp only [vqM,vt94,zA,zS,zM,zL,zE,zB,reduceCtorEq,hklt,decide_false,intCells_len]
    refine ifI_intro (fun h0=>?_) (fun h0=>?_)
    · have hpos:(conflS p a b).length > 0:=by have:=of_decide_eq_true h0;rw [← hc];omega
      have h3:threeS p a b=(Pg.zero,conflS p a b,270):=if_pos hpos
      simp only [vqM,vt94,zA,zS,zM,zL,zE,zB,reduceCtorEq,hT.r,hz,hz2,hset3]
      refine ret_loc (.inr rfl) ?_ (hbd _) hO.sub hO.le
      simp only [vqM,vt94,zA,zS,zM,zL,zE,zB,reduceCtorEq,hget3,hz,hz2]
      rw [h3,← hc]
      rfl
    · have hpos:¬ (conflS p a b).length > 0:=by have:=of_decide_eq_false h0;rw [← hc];omega
      have hpl:([d0,d1,d2,d3,d4,d5,d6]++[D.slice oh (hdCells hs),.slice od (dfCells ds),TH]).map D.plain1=(mergedS p a b).cells:=by
        show List.map D.plain1 [d0,d1,d2,d3,d4,d5,d6]++[D.slice .none (hdCells hs),.slice .none (dfCells ds),TH.plain1]=_
        rw [dc2,th1,hhs,hds]
        rfl
      have hpl2:[d0.plain1,d1.plain1,d2.plain1,d3.plain1,d4.plain1,d5.plain1,d6.plain1,D.slice .none (hdCells hs),.slice .none (dfCells ds),TH.plain1]=(mergedS p a b).cells:=hpl
      have hpp:∀ d:D,d.plain1.plain1=d.plain1:=fun d=>by cases d <;> rfl
      simp only [vqM,vt94,zA,zS,zM,zL,zE,zB,reduceCtorEq,hw2,hpp,hpl2]
      refine callI_spec (t_Program _ PO _) ?_
      simp only [vqM,vt94,zA,zS,zM,zL,zE,zB,reduceCtorEq,hw2,hpp,hpl2]
      refine ifI_intro (fun h1=>?_) (fun h1=>?_)
      · have h2:=of_decide_eq_true h1
        have h3:threeS p a b=(Pg.zero,[],programS (mergedS p a b)):=by rw [threeS,if_neg hpos,if_pos h2]
        simp only [vqM,vt94,zA,zS,zM,zL,zE,zB,reduceCtorEq,hT.r,hz,hz2,hset3]
        refine ret_loc (.inr rfl) ?_ (hbd _) hO.sub hO.le
        simp only [vqM,vt94,zA,zS,zM,zL,zE,zB,reduceCtorEq,hget3,hz,hz2]
        rw [h3]
        rfl
      · have h2:=of_decide_eq_false h1
        have h3:threeS p a b=(mergedS p a b,[],0):=by rw [threeS,if_neg hpos,if_neg h2]
        simp only [vqM,vt94,zA,zS,zM,zL,zE,zB,reduceCtorEq,hT.r,hz,hz2,hw2,hset3]
        refine ret_loc (.inr rfl) ?_ (hbd _) hO.sub hO.le
        simp only [vqM,vt94,zA,zS,zM,zL,zE,zB,reduceCtorEq,hget3,hz,hz2,hpp,hpl2]
        rw [h3]
        rfl
  · exact ⟨X3,[],[],[],.nil,.nil,.nil,L,c,[.slice .nil [],.slice .nil [],.slice .nil [],.slice .nil [],.int .i64 0,.int .i64 0,.int .i64 0],.slice .nil [],.start hW0 _ _ _,rfl,rfl,hT2,hr2,hb2,rfl,rfl,rfl,rfl,rfl,rfl,rfl,rfl,Nat.le_refl _,Nat.le_refl _⟩
theorem mem_keys3 {p a b:Pg} {id:Int}:id ∈ keysS [p,a,b]↔id ∈ idsS p∨id ∈ idsS a∨id ∈ idsS b:=by rw [mem_keys];simp
theorem mem_keys2 {p a:Pg} {id:Int}:id ∈ keysS [p,a]↔id ∈ idsS p∨id ∈ idsS a:=by rw [mem_keys];simp
theorem keys_swap (p a b:Pg):keysS [p,a,b]=keysS [p,b,a]:=keys_perm (.cons _ (.swap _ _ _))
theorem agree_swap (x y z:En):agreeE x y z=agreeE x z y:=by
  simp only [agreeE]
  have e:decide (y=z)=decide (z=y):=by simp [eq_comm]
  rw [e,Bool.or_assoc,Bool.or_assoc]
  congr 1
  rw [Bool.or_comm]
theorem pick_swap {x y z:En} (h:agreeE x y z=true):pickE x y z=pickE x z y:=by
  simp only [agreeE,Bool.or_eq_true,decide_eq_true_eq] at h
  by_cases h1:y=z
  · subst h1;rfl
  have h1':¬ z=y:=fun e=>h1 e.symm
  by_cases h2:x=z
  · have h3:¬ x=y:=fun e=>h1 (e.symm.trans h2)
    simp [pickE,h1,h1',h2]
  · have h3:x=y:=by
      rcases h with (h | h) | h
      · exact absurd h h1
      · exact absurd h h2
      · exact h
    subst h3
    have h2':¬ z=x:=fun e=>h2 e.symm
    simp [pickE,h2,h2']
theorem three_swap (p a b:Pg):threeS p a b=threeS p b a:=by
  have hc:conflS p a b=conflS p b a:=by
    unfold conflS
    rw [keys_swap]
    refine List.filter_congr fun id _=>?_
    rw [agree_swap]
  unfold threeS
  rw [hc]
  by_cases h:(conflS p b a).length > 0
  · rw [if_pos h,if_pos h]
  · rw [if_neg h,if_neg h]
    have hm:mergedS p a b=mergedS p b a:=by
      unfold mergedS
      rw [keys_swap p a b]
      refine foldE_congr fun id hid=>?_
      have h0:conflS p b a=[]:=List.eq_nil_of_length_eq_zero (by omega)
      have h1:=List.filter_eq_nil_iff.1 h0 id hid
      rw [agree_swap] at h1
      exact pick_swap (by simpa using h1)
    rw [hm]
theorem mem_changed {p q:Pg} {id:Int}:id ∈ changedS p q↔entE p id≠entE q id:=by
  unfold changedS
  rw [List.mem_filter,mem_keys2]
  constructor
  · rintro ⟨_,h⟩;simpa using h
  · intro h
    refine ⟨?_,by simpa using h⟩
    by_cases h1:id ∈ idsS p
    · exact .inl h1
    by_cases h2:id ∈ idsS q
    · exact .inr h2
    exact absurd ((entE_out h1).trans (entE_out h2).symm) h
theorem agree_all {p a b:Pg} (h:conflS p a b=[]) (id:Int):agreeE (entE p id) (entE a id) (entE b id)=true:=by
  by_cases hid:id ∈ keysS [p,a,b]
  · have:=List.filter_eq_nil_iff.1 h id hid
    simpa using this
  · rw [mem_keys3,not_or,not_or] at hid
    rw [entE_out hid.1,entE_out hid.2.1,entE_out hid.2.2]
    simp [agreeE]
theorem pick_zero {p a b:Pg} {id:Int} (h:pickAt p a b id≠En.zero):id ∈ keysS [p,a,b]:=by
  rw [mem_keys3]
  rcases pickE_cases (entE p id) (entE a id) (entE b id) with e | e
  · refine .inr (.inl ?_)
    by_cases hm:id ∈ idsS a
    · exact hm
    · exact absurd ((show pickAt p a b id=_ from e).trans (entE_out hm)) h
  · refine .inr (.inr ?_)
    by_cases hm:id ∈ idsS b
    · exact hm
    · exact absurd ((show pickAt p a b id=_ from e).trans (entE_out hm)) h
theorem entE_merged (p a b:Pg) (id:Int):entE (mergedS p a b) id=pickAt p a b id :=
  entE_fold (zero_keys (by simp)) (pickAt_shp p a b) (fun _ h=>pick_zero h) id
structure Nice (p:Pg):Prop extends Nrm p where
  hds:p.heads=p.defs.map hdOf
theorem Nice.pw {p:Pg} (N:Nice p):p.defs.Pairwise (fun a b=>a.id<b.id):=by
  have:=N.hid
  rw [N.hds,List.pairwise_map] at this
  exact this
theorem Nice.find {p:Pg} (N:Nice p) {d:Df} (hd:d ∈ p.defs):findS p d.id=some d:=find_pw N.pw d hd
theorem Nice.keys {p:Pg} (N:Nice p):(idsS p).Pairwise (· < ·):=by
  refine List.pairwise_cons.2 ⟨fun x hx=>?_,?_⟩
  · obtain ⟨h,hh,rfl⟩:=List.mem_map.1 hx;exact N.pos h hh
  · rw [List.pairwise_map];exact N.hid
theorem Nice.ent {p:Pg} (N:Nice p) {d:Df} (hd:d ∈ p.defs):entE p d.id=⟨true,true,hdOf d,d,Dc.zero,[]⟩:=by
  have h1:hdOf d ∈ p.heads:=by rw [N.hds];exact List.mem_map.2 ⟨d,hd,rfl⟩
  have h2:=N.pos _ h1
  have h3:(hdOf d).id=d.id:=rfl
  have h4:=headS_of N.toNrm h1
  rw [h3] at h4
  have h5:¬ d.id=0:=by rw [h3] at h2;omega
  rw [entE,if_neg h5,h4]
  simp only [openE,h3,N.find hd]
  rfl
theorem Nice.fold {p:Pg} (N:Nice p):foldE (entE p) (idsS p)=p:=by
  have key:∀ {α:Type} (f:En→Option α) (g:Df→α),(∀ d ∈ p.defs,f (entE p d.id)=some (g d))→f (entE p 0)=none→(idsS p).filterMap (fun id=>f (entE p id))=p.defs.map g:=by
    intro α f g h h0
    rw [idsS,List.filterMap_cons_none (f:=fun id=>f (entE p id)) h0,N.hds,List.map_map]
    clear h0
    generalize p.defs=l at h
    induction l with
    | nil=>rfl
    | cons d l ih =>
      rw [List.map_cons,List.map_cons]
      show List.filterMap (fun id=>f (entE p id)) (d.id::List.map ((fun x=>x.id) ∘ hdOf) l)=_
      rw [List.filterMap_cons_some (f:=fun id=>f (entE p id)) (h d (by simp)),ih fun x hx=>h x (by simp [hx])]
  have e0:entE p 0=⟨false,false,Hd.zero,Df.zero,p.d,p.threads⟩:=by rw [entE,if_pos rfl]
  have h0:(0:Int) ∈ idsS p:=by simp [idsS]
  refine Pg.ext4 ?_ ?_ ?_ ?_
  · rw [foldE,foldE_d,if_pos h0,e0]
  · rw [foldE,foldE_heads,key (fun e=>if e.head then some e.h else none) hdOf (fun d hd=>by rw [N.ent hd];rfl) (by rw [e0];rfl),N.hds];rfl
  · rw [foldE,foldE_defs,key (fun e=>if e.opn then some e.d else none) id (fun d hd=>by rw [N.ent hd];rfl) (by rw [e0];rfl)];simp [Pg.zero]
  · rw [foldE,foldE_t,if_pos h0,e0]
theorem fold_nice {p:Pg} (N:Nice p) {l:List Int} (hl:l.Pairwise (· < ·)) (h:∀ id ∈ idsS p,id ∈ l):foldE (entE p) l=p:=by
  rw [← foldE_keys N.keys hl ⟨by simp [idsS],h 0 (by simp [idsS])⟩ fun id hn=>⟨h id,fun _=>?_⟩]
  · exact N.fold
  · by_cases hm:id ∈ idsS p
    · exact hm
    · exact absurd (entE_out hm) hn
theorem fold_merged (p a b:Pg) {l:List Int} (hl:l.Pairwise (· < ·)) (h:∀ id ∈ idsS (mergedS p a b),id ∈ l) (h0:(0:Int) ∈ l):foldE (entE (mergedS p a b)) l=mergedS p a b:=by
  have e:entE (mergedS p a b)=pickAt p a b:=funext fun id=>entE_merged p a b id
  have hz:∀ id,pickAt p a b id≠En.zero→id ∈ l:=fun id hn=>by
    rw [← entE_merged] at hn
    refine h id ?_
    by_cases hm:id ∈ idsS (mergedS p a b)
    · exact hm
    · exact absurd (entE_out hm) hn
  rw [e,mergedS,foldE_keys hl (keys_lt _) ⟨h0,zero_keys (by simp)⟩ fun id hn=>⟨fun _=>pick_zero hn,fun _=>hz id hn⟩]
theorem three_ok {p a b:Pg} (hc:∀ id,agreeE (entE p id) (entE a id) (entE b id)=true) {m:Pg} (hm:mergedS p a b=m) (hr:programS m=0):threeS p a b=(m,[],0):=by
  have h0:conflS p a b=[]:=List.filter_eq_nil_iff.2 fun id _=>by simp [hc id]
  unfold threeS
  rw [h0,hm,hr]
  rfl
theorem side_left {p a:Pg} (N:Nice a) (R:programS a=0):threeS p a p=(a,[],0):=by
  refine three_ok (fun id=>by simp [agreeE]) ?_ R
  unfold mergedS
  rw [foldE_congr (g:=entE a) fun id _=>by simp [pickAt,pickE],fold_nice N (keys_lt _) fun id h=>mem_keys3.2 (.inr (.inl h))]
theorem side_right {p b:Pg} (N:Nice b) (R:programS b=0):threeS p p b=(b,[],0):=by rw [three_swap];exact side_left N R
theorem side_same {p a:Pg} (N:Nice a) (R:programS a=0):threeS p a a=(a,[],0):=by
  refine three_ok (fun id=>by simp [agreeE]) ?_ R
  unfold mergedS
  rw [foldE_congr (g:=entE a) fun id _=>by simp [pickAt,pickE],fold_nice N (keys_lt _) fun id h=>mem_keys3.2 (.inr (.inl h))]
theorem three_ok_iff {p a b:Pg} (h:(threeS p a b).2.2=0):conflS p a b=[]∧programS (mergedS p a b)=0∧threeS p a b=(mergedS p a b,[],0):=by
  unfold threeS at h ⊢
  by_cases h1:(conflS p a b).length > 0
  · rw [if_pos h1] at h;simp at h
  · rw [if_neg h1] at h ⊢
    have h0:conflS p a b=[]:=List.eq_nil_of_length_eq_zero (by omega)
    by_cases h2:programS (mergedS p a b)≠0
    · rw [if_pos h2] at h;exact absurd h h2
    · rw [if_neg h2];exact ⟨h0,by simpa using h2,rfl⟩
theorem again {p a b:Pg} (h:(threeS p a b).2.2=0) :
    threeS p (mergedS p a b) a=(mergedS p a b,[],0)∧threeS a (mergedS p a b) a=(mergedS p a b,[],0)∧threeS p b (mergedS p a b)=(mergedS p a b,[],0):=by
  obtain ⟨h0,hr,_⟩:=three_ok_iff h
  have hag:=agree_all h0
  generalize hm:mergedS p a b=m at hr ⊢
  have he:∀ id,entE m id=pickE (entE p id) (entE a id) (entE b id):=fun id=>by rw [← hm,entE_merged];rfl
  have hfold:∀ l:List Int,l.Pairwise (· < ·)→(0:Int) ∈ l→(∀ id ∈ idsS m,id ∈ l)→foldE (entE m) l=m:=fun l h1 h2 h3=>by
    rw [← hm] at h3 ⊢;exact fold_merged p a b h1 h3 h2
  have hA:∀ x y z:En,agreeE x y z=true→(agreeE x (pickE x y z) y=true∧pickE x (pickE x y z) y=pickE x y z)∧(agreeE y (pickE x y z) y=true∧pickE y (pickE x y z) y=pickE x y z)∧(agreeE x z (pickE x y z)=true∧pickE x z (pickE x y z)=pickE x y z):=by
    intro x y z h
    simp only [agreeE,Bool.or_eq_true,decide_eq_true_eq] at h
    rcases h with (h | h) | h
    · subst h;simp [pickE,agreeE]
    · subst h
      by_cases e:x=y
      · subst e;simp [pickE,agreeE]
      · have e':¬ y=x:=fun h=>e h.symm
        simp [pickE,agreeE,e,e']
    · subst h
      by_cases e:x=z
      · subst e;simp [pickE,agreeE]
      · have e':¬ z=x:=fun h=>e h.symm
        simp [pickE,agreeE,e,e']
  refine ⟨?_,?_,?_⟩
  · refine three_ok (fun id=>by rw [he];exact (hA _ _ _ (hag id)).1.1) ?_ hr
    unfold mergedS
    rw [foldE_congr (g:=entE m) fun id _=>by rw [pickAt,he];exact (hA _ _ _ (hag id)).1.2]
    exact hfold _ (keys_lt _) (zero_keys (by simp)) fun id h=>mem_keys3.2 (.inr (.inl h))
  · refine three_ok (fun id=>by rw [he];exact (hA _ _ _ (hag id)).2.1.1) ?_ hr
    unfold mergedS
    rw [foldE_congr (g:=entE m) fun id _=>by rw [pickAt,he];exact (hA _ _ _ (hag id)).2.1.2]
    exact hfold _ (keys_lt _) (zero_keys (by simp)) fun id h=>mem_keys3.2 (.inr (.inl h))
  · refine three_ok (fun id=>by rw [he];exact (hA _ _ _ (hag id)).2.2.1) ?_ hr
    unfold mergedS
    rw [foldE_congr (g:=entE m) fun id _=>by rw [pickAt,he];exact (hA _ _ _ (hag id)).2.2.2]
    exact hfold _ (keys_lt _) (zero_keys (by simp)) fun id h=>mem_keys3.2 (.inr (.inr h))
theorem is_pN {X:PC} (h:@pI X):@pI X:=h
structure Mrg (p:Pg):Prop where
  nc:Nice p
  pr:programS p=0
  ok:PgOk p
  hl:p.heads.length≤40
theorem VarOk.mrg {p:Pg} {n:Nat} (h:VarOk p n) (hn:n≤30):Mrg p where
  nc := { hid := by rw [h.hds, List.pairwise_map]; exact h.pw
          pos:=fun x hx=>by
            rw [h.hds] at hx
            obtain ⟨d,hd,rfl⟩:=List.mem_map.1 hx
            have:=(h.vl.ok d hd).id
            rw [hdOf_id];omega
          hds:=h.hds }
  pr:=(h.right hn).prog
  ok:=(h.right hn).pgok
  hl:=(h.right hn).hl
structure MrgN (p:Pg):Prop where
  nc:Nrm p
  ok:PgOk p
  hl:p.heads.length≤900
theorem Mrg.n {p:Pg} (h:Mrg p):MrgN p:=⟨h.nc.toNrm,h.ok,by have:=h.hl;omega⟩
theorem merged_defs {p a b:Pg} {d:Df} (h:d ∈ (mergedS p a b).defs):d ∈ a.defs∨d ∈ b.defs:=by
  rw [show (mergedS p a b).defs=_ from foldE_defs _ _ _,show Pg.zero.defs=[] from rfl,List.nil_append] at h
  obtain ⟨id,_,hd⟩:=List.mem_filterMap.1 h
  have key:∀ q:Pg,(entE q id).opn=true→(entE q id).d ∈ q.defs:=by
    intro q hq
    unfold entE at hq ⊢
    split at hq
    · simp at hq
    · rename_i hne
      rw [if_neg hne]
      cases e:headS q id with
      | none=>rw [e] at hq;simp [En.zero] at hq
      | some x =>
        rw [e] at hq
        simp only [openE] at hq ⊢
        obtain ⟨y,hy⟩:=Option.isSome_iff_exists.1 hq
        rw [hy];exact (findS_id hy).1
  rcases pickE_cases (entE p id) (entE a id) (entE b id) with e | e
  · have e':pickAt p a b id=entE a id:=e
    rw [e'] at hd
    cases ho:(entE a id).opn with
    | false=>rw [ho] at hd;simp at hd
    | true=>rw [ho] at hd;simp at hd;rw [← hd];exact .inl (key a ho)
  · have e':pickAt p a b id=entE b id:=e
    rw [e'] at hd
    cases ho:(entE b id).opn with
    | false=>rw [ho] at hd;simp at hd
    | true=>rw [ho] at hd;simp at hd;rw [← hd];exact .inr (key b ho)
theorem merged_ok {p a b:Pg} (ha:PgOk a) (hb:PgOk b):PgOk (mergedS p a b) where
  nm:=fun d hd=>by exact (merged_defs hd).elim (ha.nm d) (hb.nm d)
  fl:=fun d hd=>by exact (merged_defs hd).elim (ha.fl d) (hb.fl d)
  ca:=fun d hd=>by exact (merged_defs hd).elim (ha.ca d) (hb.ca d)
theorem Mg.bd {nb nl:Nat} (r:Mg):∀ d ∈ r.cells,Bd nb nl d:=fun d hd=>by
  rcases List.mem_append.1 hd with hd | hd
  · exact Pg.bd _ d hd
  · simp only [List.mem_cons,List.not_mem_nil,or_false] at hd
    rcases hd with rfl | rfl
    · exact bd_intSl _
    · exact .int _ _
def mgS (r:Pg × List Int × Int):Mg:=⟨r.1,r.2.1,r.2.2⟩
theorem t_three27 (p a b:Pg) (hp:MrgN p) (ha:MrgN a) (hb:MrgN b) (s:St):Spec Tryz.prog 13 [.agg p.cells,.agg a.cells,.agg b.cells] s (.agg (mgS (threeS p a b)).cells) s:=by
  obtain ⟨B,L,c⟩:=s
  refine Spec.introN [] Tryz.func13 rfl (by decide) hmix (by kernel_rfl) [ResultVar.cell 6 44] 22 rfl rfl ?_
  simp only [vqM,vt95,Tryz.f13,zA,zS,zM,zL,zE,zB,reduceCtorEq,vsMg]
  refine callI_spec (t_Three p a b hp.nc ha.nc hb.nc hp.hl ha.hl hb.hl (merged_ok ha.ok hb.ok) _) ?_
  generalize threeS p a b=r
  simp only [vqM,vt95,zA,zS,zM,zL,zE,zB,reduceCtorEq,vsMg,threeD]
  refine ret_loc (.inr rfl) ?_ (bd_agg (Mg.bd _)) (fun _ h=>h) (Nat.le_refl _)
  simp only [vqM,vt95,zA,zS,zM,zL,zE,zB,reduceCtorEq,vsMg,mgS]
  rfl
theorem bd_tup3 {nb nl:Nat} (p a b:Pg):Bd nb nl (.tup [.agg p.cells,.agg a.cells,.agg b.cells]):=.tup _ fun i hi=>by
  match i,hi with
  | 0,_=>exact bd_agg (Pg.bd _)
  | 1,_=>exact bd_agg (Pg.bd _)
  | 2,_=>exact bd_agg (Pg.bd _)
theorem t_made27 (b:List Int) (hb:∀ x ∈ b,0≤x∧x<256) (l m:List Cg) (hl:∀ z ∈ l,z.Ok) (hm:∀ z ∈ m,z.Ok) (s:St):Spec Tryz.prog 10 [.agg [.slice .none (byteCells b),.slice .none (cgCells l),.slice .none (cgCells m)]] s (.tup [.agg (made b).cells,.agg (variantS (made b) l).cells,.agg (variantS (made b) m).cells]) s:=by
  refine Spec.small fun hsm=>?_
  have h1:(cgCells l).length≤281474976710656:=(hsm _ (.head _)).sl (o:=.none) (by simp)
  have h2:(cgCells m).length≤281474976710656:=(hsm _ (.head _)).sl (o:=.none) (by simp)
  rw [cgCells_len] at h1 h2
  obtain ⟨B,L,c⟩:=s
  refine Spec.introN [(2,.text [false,false,false,false,true,false,false,false,true,true,true,true] [(0,1),(0,2),(5,0),(7,0)])] Tryz.func10 rfl (by decide) hmix (by kernel_rfl) [ResultVar.cell 2 37,ResultVar.cell 3 37,ResultVar.cell 4 37] 18 rfl rfl ?_
  simp only [vqM,vt96,Tryz.f10,zA,zS,zM,zL,zE,zB,reduceCtorEq]
  refine callI_spec (t_Made b hb _) ?_
  simp only [vqM,vt96,zA,zS,zM,zL,zE,zB,reduceCtorEq]
  refine callI_spec (t_Variant _ l hl (made_var hb) _) ?_
  simp only [vqM,vt96,zA,zS,zM,zL,zE,zB,reduceCtorEq]
  refine callI_spec (t_Variant _ m hm (made_var hb) _) ?_
  have hz:∀ q:Pg,List.drop 10 q.cells=[]:=fun _=>rfl
  simp only [vqM,vt96,zA,zS,zM,zL,zE,zB,reduceCtorEq,hz]
  refine ret_loc (.inr rfl) ?_ (bd_tup3 _ _ _) (fun _ h=>h) (Nat.le_refl _)
  simp only [vqM,vt96,zA,zS,zM,zL,zE,zB,reduceCtorEq,hz]
def namedD (id site:Int) (s:ByteArray):Df:=⟨id,site,s,0,0,[],[],0,0,[],1,[]⟩
def named (a b:ByteArray):Pg:=withH ⟨declared,[],[namedD 11 1 a,namedD 12 2 b],[]⟩
structure NmOk (a:ByteArray):Prop where
  nm:nameB a=true
  sz:a.size≤8
theorem headB_named {id site:Int} {s:ByteArray} (h:NmOk s) (h1:inB id 1 1073741824=true) (h2:inB site 1 1073741824=true):headB (namedD id site s) declared=true:=by
  have e:headB (namedD id site s) declared=(inB id 1 1073741824 && inB site 1 1073741824 && nameB s && inB 0 0 (w64 (declared.firms - 1)) && inB 0 0 (w64 (declared.parts - 1)) && inB 0 0 12 && inB 0 0 4 && inB 1 1 20000 && true && true && true):=rfl
  rw [e,h1,h2,h.nm]
  decide +kernel
theorem defB_named {id site:Int} {s:ByteArray} (h:NmOk s) (h1:inB id 1 1073741824=true) (h2:inB site 1 1073741824=true):defB (namedD id site s) declared=true:=by
  rw [defB,headB_named h h1 h2];rfl
theorem named_right {a b:ByteArray} (ha:NmOk a) (hb:NmOk b):Right (named a b) where
  dc:=declared_ok
  hl:=by show 2≤40;omega
  hid:=by show List.Pairwise (fun a b:Hd=>a.id<b.id) [headOf (namedD 11 1 a),headOf (namedD 12 2 b)];simp [headOf,namedD]
  hok:=fun h hh=>by
    have:h=headOf (namedD 11 1 a)∨h=headOf (namedD 12 2 b):=by
      have h':h ∈ [headOf (namedD 11 1 a),headOf (namedD 12 2 b)]:=hh
      simpa using h'
    rcases this with rfl | rfl
    · show headFine declared ⟨11,0,0,[],[]⟩=true
      decide +kernel
    · show headFine declared ⟨12,0,0,[],[]⟩=true
      decide +kernel
  dl:=by show 2≤40;omega
  did:=by show List.Pairwise (fun a b:Df=>a.id<b.id) [namedD 11 1 a,namedD 12 2 b];simp [namedD]
  hof:=fun d hd=>by
    have hd':d ∈ [namedD 11 1 a,namedD 12 2 b]:=hd
    exact List.mem_map.2 ⟨d,hd',rfl⟩
  dok:=fun d hd=>by
    have hd':d ∈ [namedD 11 1 a,namedD 12 2 b]:=hd
    simp only [List.mem_cons,List.not_mem_nil,or_false] at hd'
    rcases hd' with rfl | rfl
    · exact defB_named ha (by decide +kernel) (by decide +kernel)
    · exact defB_named hb (by decide +kernel) (by decide +kernel)
  ca:=fun d hd q hq=>by
    have hd':d ∈ [namedD 11 1 a,namedD 12 2 b]:=hd
    simp only [List.mem_cons,List.not_mem_nil,or_false] at hd'
    rcases hd' with rfl | rfl <;> (have hq':q ∈ ([]:List Pl):=hq) <;> simp at hq'
  st:=by show ([1,2]:List Int).Nodup;decide
  tl:=by show 0≤4;omega
  th:=fun t ht=>by
    have ht':t ∈ ([]:List Int):=ht
    simp at ht'
  sz:=fun d hd=>by
    have hd':d ∈ [namedD 11 1 a,namedD 12 2 b]:=hd
    have h1:=ha.sz
    have h2:=hb.sz
    simp only [List.mem_cons,List.not_mem_nil,or_false] at hd'
    rcases hd' with rfl | rfl
    · exact ⟨by show a.size≤_;omega,by show 0<1000000;omega,by show 0≤12;omega⟩
    · exact ⟨by show b.size≤_;omega,by show 0<1000000;omega,by show 0≤12;omega⟩
theorem named_mrg {a b:ByteArray} (ha:NmOk a) (hb:NmOk b):Mrg (named a b) where
  nc:={ hid:=(named_right ha hb).hid,pos:=fun h hh=>by have:=headFine_id ((named_right ha hb).hok h hh);omega,hds:=rfl }
  pr:=(named_right ha hb).prog
  ok:=(named_right ha hb).pgok
  hl:=(named_right ha hb).hl
def entN (id:Int) (s:ByteArray) (site:Int):En:=⟨true,true,headOf (namedD id site s),namedD id site s,Dc.zero,[]⟩
theorem entE_named (a b:ByteArray) (id:Int):entE (named a b) id=if id=0 then ⟨false,false,Hd.zero,Df.zero,declared,[]⟩ else if id=11 then entN 11 a 1 else if id=12 then entN 12 b 2 else En.zero:=by
  unfold entE
  by_cases h0:id=0
  · rw [if_pos h0,if_pos h0];rfl
  rw [if_neg h0,if_neg h0]
  have e1:headS (named a b) id=if id=11 then some (headOf (namedD 11 1 a)) else if id=12 then some (headOf (namedD 12 2 b)) else none:=by
    show List.find? _ [headOf (namedD 11 1 a),headOf (namedD 12 2 b)]=_
    by_cases h1:id=11
    · subst h1;rfl
    rw [if_neg h1,List.find?_cons_of_neg (fun h=>h1 (of_decide_eq_true h).symm)]
    by_cases h2:id=12
    · subst h2;rfl
    rw [if_neg h2,List.find?_cons_of_neg (fun h=>h2 (of_decide_eq_true h).symm)];rfl
  rw [e1]
  by_cases h1:id=11
  · subst h1;rfl
  rw [if_neg h1,if_neg h1]
  by_cases h2:id=12
  · subst h2;rfl
  rw [if_neg h2,if_neg h2]
theorem entN_eq {id site:Int} {a b:ByteArray}:entN id a site=entN id b site↔a=b:=by
  constructor
  · intro h
    have:=congrArg (fun e:En=>e.d.name) h
    exact this
  · rintro rfl;rfl
theorem three_named {a b c d e f x y:ByteArray} (hx:NmOk x) (hy:NmOk y) (h1:(c=e∧x=c)∨(c≠e∧a=e∧x=c)∨(c≠e∧a≠e∧a=c∧x=e)) (h2:(d=f∧y=d)∨(d≠f∧b=f∧y=d)∨(d≠f∧b≠f∧b=d∧y=f)) :
    threeS (named a b) (named c d) (named e f)=(named x y,[],0):=by
  have hp:∀ id,agreeE (entE (named a b) id) (entE (named c d) id) (entE (named e f) id)=true∧pickAt (named a b) (named c d) (named e f) id=entE (named x y) id:=by
    intro id
    rw [pickAt]
    simp only [entE_named]
    by_cases h0:id=0
    · subst h0;simp [agreeE,pickE]
    by_cases h11:id=11
    · subst h11
      simp only [h0,if_false,if_true,agreeE,pickE,entN_eq,Bool.or_eq_true,decide_eq_true_eq]
      rcases h1 with ⟨p1,p2⟩ | ⟨p1,p2,p3⟩ | ⟨p1,p2,p3,p4⟩
      · simp [p1,p2]
      · simp [p2,p3]
      · simp [p1,p2,p3,p4] <;> simp_all
    by_cases h12:id=12
    · subst h12
      simp only [h0,h11,if_false,if_true,agreeE,pickE,entN_eq,Bool.or_eq_true,decide_eq_true_eq]
      rcases h2 with ⟨p1,p2⟩ | ⟨p1,p2,p3⟩ | ⟨p1,p2,p3,p4⟩
      · simp [p1,p2]
      · simp [p2,p3]
      · simp [p1,p2,p3,p4] <;> simp_all
    simp [h0,h11,h12,agreeE,pickE]
  refine three_ok (fun id=>(hp id).1) ?_ (named_right hx hy).prog
  unfold mergedS
  rw [foldE_congr (g:=entE (named x y)) fun id _=>(hp id).2]
  exact fold_nice (named_mrg hx hy).nc (keys_lt _) fun id hid=>mem_keys3.2 (.inl hid)
theorem named_confl {a b c d e f:ByteArray} (h1:c≠e∧a≠e∧a≠c) (h2:d=f):threeS (named a b) (named c d) (named e f)=(Pg.zero,[11],270):=by
  have hc:conflS (named a b) (named c d) (named e f)=[11]:=by
    refine lt_ext ((keys_lt _).filter _) (by simp) fun id=>?_
    unfold conflS
    rw [List.mem_filter,mem_keys3]
    simp only [List.mem_singleton,entE_named]
    constructor
    · rintro ⟨_,h⟩
      by_cases h11:id=11
      · exact h11
      by_cases h0:id=0
      · subst h0;simp [agreeE] at h
      by_cases h12:id=12
      · subst h12;subst h2;simp [agreeE] at h
      simp [h0,h11,h12,agreeE] at h
    · rintro rfl
      refine ⟨.inl (by show (11:Int) ∈ [0,11,12];simp),?_⟩
      simp [agreeE,entN_eq,h1.1,h1.2.1,h1.2.2]
  rw [threeS,hc];rfl
theorem changed_named {a b c d:ByteArray} (h1:a≠c) (h2:b≠d):changedS (named a b) (named c d)=[11,12]:=by
  refine lt_ext (l:=changedS (named a b) (named c d)) ((keys_lt _).filter _) (by simp) fun id=>?_
  rw [show (id ∈ changedS (named a b) (named c d)↔_) from mem_changed]
  simp only [entE_named]
  constructor
  · intro h
    by_cases h11:id=11
    · simp [h11]
    by_cases h0:id=0
    · subst h0;simp at h
    by_cases h12:id=12
    · simp [h12]
    simp [h0,h11,h12] at h
  · intro h
    simp only [List.mem_cons,List.not_mem_nil,or_false] at h
    rcases h with rfl | rfl
    · simp [entN_eq,h1]
    · simp [entN_eq,h2]
theorem changed_self (p:Pg):changedS p p=[]:=by
  refine List.filter_eq_nil_iff.2 fun id _=>by simp
theorem t_named27 (a b:ByteArray) (s:St):Spec Tryz.prog 23 [.str a,.str b] s (.agg (named a b).cells) s:=by
  obtain ⟨B,L,c⟩:=s
  refine Spec.introN [] Tryz.func23 rfl (by decide) hmix (by kernel_rfl) [ResultVar.cell 4 37] 15 rfl rfl ?_
  simp only [vqM,vt97,Tryz.f23,zA,zS,zM,zL,zE,zB,reduceCtorEq]
  refine callI_spec (t_declared _) ?_
  simp only [vqM,vt97,zA,zS,zM,zL,zE,zB,reduceCtorEq]
  refine callI_spec (t_WithHeads ⟨declared,[],[namedD 11 1 a,namedD 12 2 b],[]⟩ (by show 2≤100000;omega) _) ?_
  have hpz:Pg.zc.length=10:=rfl
  simp only [vqM,vt97,zA,zS,zM,zL,zE,zB,reduceCtorEq,hpz]
  refine ret_loc (.inr rfl) ?_ (bd_agg (Pg.bd _)) (fun _ h=>h) (Nat.le_refl _)
  simp only [vqM,vt97,zA,zS,zM,zL,zE,zB,reduceCtorEq,hpz]
  rfl
theorem nmOk1 {c:UInt8} (h:nameB ⟨#[c]⟩=true):NmOk ⟨#[c]⟩:=⟨h,by show 1≤8;omega⟩
theorem nmX:NmOk ⟨#[120]⟩:=nmOk1 (by decide +kernel)
theorem nmY:NmOk ⟨#[121]⟩:=nmOk1 (by decide +kernel)
theorem nmA:NmOk ⟨#[97]⟩:=nmOk1 (by decide +kernel)
theorem nmB:NmOk ⟨#[98]⟩:=nmOk1 (by decide +kernel)
theorem nmC:NmOk ⟨#[99]⟩:=nmOk1 (by decide +kernel)
def Ex27 (B:List Box) (L:List Nat) (c:Nat) (e:List D) (s:St):Prop:=∃ i j C,keep [1,2,3] e=[.junk,.box B.length 0,.box i 0,.box j 0,.junk,.junk,.junk,.junk,.junk,.junk,.junk,.junk,.junk,.junk,.junk,.junk,.junk,.junk,.junk,.junk,.junk,.junk,.junk,.junk,.junk,.junk,.junk,.junk,.junk,.junk,.junk,.junk,.junk,.junk,.junk,.junk,.junk,.junk,.junk,.junk,.junk,.junk,.junk,.junk,.junk,.junk,.junk,.junk,.junk,.junk,.junk,.junk,.junk,.junk,.junk,.junk,.junk,.junk,.junk,.junk,.junk,.junk,.junk,.junk,.junk,.junk,.junk,.junk,.junk,.junk]∧s=⟨B++C,L,c⟩∧(B++C)[B.length]? = some (.cells (named ⟨#[120]⟩ ⟨#[121]⟩).cells)∧(B++C)[i]? = some (.cells (mgS (named ⟨#[97]⟩ ⟨#[98]⟩,[],0)).cells)∧(B++C)[j]? = some (.cells (mgS (Pg.zero,[11],270)).cells)
theorem ex27_mk {B C:List Box} {L:List Nat} {c i j:Nat} {e:List D} {s:St} (h1:keep [1,2,3] e=[.junk,.box B.length 0,.box i 0,.box j 0,.junk,.junk,.junk,.junk,.junk,.junk,.junk,.junk,.junk,.junk,.junk,.junk,.junk,.junk,.junk,.junk,.junk,.junk,.junk,.junk,.junk,.junk,.junk,.junk,.junk,.junk,.junk,.junk,.junk,.junk,.junk,.junk,.junk,.junk,.junk,.junk,.junk,.junk,.junk,.junk,.junk,.junk,.junk,.junk,.junk,.junk,.junk,.junk,.junk,.junk,.junk,.junk,.junk,.junk,.junk,.junk,.junk,.junk,.junk,.junk,.junk,.junk,.junk,.junk,.junk,.junk]) (h2:s=⟨B++C,L,c⟩) (h3:(B++C)[B.length]? = some (.cells (named ⟨#[120]⟩ ⟨#[121]⟩).cells)) (h4:(B++C)[i]? = some (.cells (mgS (named ⟨#[97]⟩ ⟨#[98]⟩,[],0)).cells)) (h5:(B++C)[j]? = some (.cells (mgS (Pg.zero,[11],270)).cells)):Ex27 B L c e s:=⟨i,j,C,h1,h2,h3,h4,h5⟩
theorem t_examples27 (s:St):Spec Tryz.prog 9 [] s (.bool true) s:=by
  have e1:=@three_named ⟨#[120]⟩ ⟨#[121]⟩ ⟨#[97]⟩ ⟨#[121]⟩ ⟨#[120]⟩ ⟨#[98]⟩ ⟨#[97]⟩ ⟨#[98]⟩ nmA nmB (by decide +kernel) (by decide +kernel)
  have e2:=@named_confl ⟨#[120]⟩ ⟨#[121]⟩ ⟨#[97]⟩ ⟨#[121]⟩ ⟨#[99]⟩ ⟨#[121]⟩ (by decide +kernel) rfl
  have e3:=@three_named ⟨#[120]⟩ ⟨#[121]⟩ ⟨#[97]⟩ ⟨#[121]⟩ ⟨#[97]⟩ ⟨#[98]⟩ ⟨#[97]⟩ ⟨#[98]⟩ nmA nmB (by decide +kernel) (by decide +kernel)
  have e4:=@changed_named ⟨#[120]⟩ ⟨#[121]⟩ ⟨#[97]⟩ ⟨#[98]⟩ (by decide +kernel) (by decide +kernel)
  have e5:=changed_self (named ⟨#[120]⟩ ⟨#[121]⟩)
  have m0:=(named_mrg nmX nmY).n
  have m1:=(named_mrg nmA nmY).n
  have m2:=(named_mrg nmX nmB).n
  have m3:=(named_mrg nmC nmY).n
  have m4:=(named_mrg nmA nmB).n
  obtain ⟨B,L,c⟩:=s
  refine Spec.introN [(1,.cut),(2,.stop),(3,.text [false,false,false,false,true,true] [(0,1),(1,1),(2,1),(3,1)]),(4,.text [false,false,false,false,false,false,true,true,false,false,false,false,false,false,false,false,false,false,true,false,false,false,false,false,false,false,false,false,false,false,false,false,false,false,false,true,true,false,false,false,true,true,false,true,false,false,false,false,true,false,false,false,false] [(5,1),(34,4),(39,6)])] Tryz.func9 rfl (by decide) hmix (by kernel_rfl) [ResultVar.tmp 0] 70 rfl rfl ?_
  simp only [vqM,vt98,Tryz.f9,zA,zS,zM,zL,zE,zB,reduceCtorEq]
  refine seq_go ?_
  simp only [vqM,vt98,zA,zS,zM,zL,zE,zB,reduceCtorEq,vsK]
  refine callI_spec (t_named27 _ _ _) ?_
  simp only [vqM,vt98,zA,zS,zM,zL,zE,zB,reduceCtorEq,vsK]
  refine awN_seq ?_
  refine awN_open fun _=>?_
  refine awI_cutI (Ex27 B L c) ?_ ?_
  · skip
    refine awI_drawM hmix [8,9,10,11] [⟨[0,1,2,3,4,5,6,7,8,9,10,11],[(0,1),(0,2),(1,1),(1,2),(2,1),(2,2),(3,1),(3,2),(4,1),(4,2),(5,1),(5,2),(6,1),(6,2),(7,1),(7,2)]⟩,⟨[0,1,2,3,4,5,6,7,9,8,10,11],[(0,1),(0,2),(1,1),(1,2),(2,1),(2,2),(3,1),(3,2),(4,1),(4,2),(5,1),(5,2),(6,1),(6,2),(7,1),(7,2)]⟩] (by kernel_rfl) fun pl hpl=>?_
    simp only [List.mem_cons,List.not_mem_nil,or_false] at hpl
    rcases hpl with rfl | rfl
    all_goals
      simp only [vqM,vt98,zA,zS,zM,zL,zE,zB,reduceCtorEq,vsMg,List.getD_cons_zero,List.getD_cons_succ,List.contains_cons,List.contains_nil,Bool.or_false,Bool.or_true,Bool.true_or,Bool.false_or,e1,e2]
    all_goals
      repeat' (first
        | (with_reducible refine needI_intro ?_ ?_)
        | (with_reducible refine And.intro ?_ ?_)
        | ((with_reducible refine is_call ?_);refine callI_spec (t_named27 _ _ _) ?_;simp only [vqM,vt98,zA,zS,zM,zL,zE,zB,reduceCtorEq,vsMg,List.getD_cons_zero,List.getD_cons_succ,List.contains_cons,List.contains_nil,Bool.or_false,Bool.or_true,Bool.true_or,Bool.false_or,e1,e2])
        | ((with_reducible refine is_call ?_);refine callI_spec (t_three27 _ _ _ m0 m1 m2 _) ?_;simp only [vqM,vt98,zA,zS,zM,zL,zE,zB,reduceCtorEq,vsMg,List.getD_cons_zero,List.getD_cons_succ,List.contains_cons,List.contains_nil,Bool.or_false,Bool.or_true,Bool.true_or,Bool.false_or,e1,e2])
        | ((with_reducible refine is_call ?_);refine callI_spec (t_three27 _ _ _ m0 m1 m3 _) ?_;simp only [vqM,vt98,zA,zS,zM,zL,zE,zB,reduceCtorEq,vsMg,List.getD_cons_zero,List.getD_cons_succ,List.contains_cons,List.contains_nil,Bool.or_false,Bool.or_true,Bool.true_or,Bool.false_or,e1,e2])
        | ((with_reducible refine is_call ?_);refine callI_spec (t_three27 _ _ _ m0 m1 m4 _) ?_;simp only [vqM,vt98,zA,zS,zM,zL,zE,zB,reduceCtorEq,vsMg,List.getD_cons_zero,List.getD_cons_succ,List.contains_cons,List.contains_nil,Bool.or_false,Bool.or_true,Bool.true_or,Bool.false_or,e1,e2])
        | (with_reducible refine is_pN ?_;simp only [vqM,vt98,zA,zS,zM,zL,zE,zB,reduceCtorEq,vsMg,List.getD_cons_zero,List.getD_cons_succ,List.contains_cons,List.contains_nil,Bool.or_false,Bool.or_true,Bool.true_or,Bool.false_or,e1,e2]))
    all_goals
      refine meet_intro ?_
      apply ex27_mk
      · simp only [vke,zB,zA]
        rfl
      · rfl
      all_goals (first | (simp only [box_at,box_at0,List.getElem?_cons_succ,List.getElem?_cons_zero];done) | (simp only [box_at,box_at0,List.getElem?_cons_succ,List.getElem?_cons_zero];rfl) | (simp only [zA,box_at];rfl) | trace_state)
  rintro e s ⟨i2,i3,C,he,rfl,h0,h2,h3⟩
  simp only [vqM,vt98,zA,zS,zM,zL,zE,zB,reduceCtorEq,vsK]
  refine awN_keep [1,2,3] ?_
  rw [he]
  clear he
  obtain ⟨B2,hB2⟩:∃ B2,B2=B++C:=⟨_,rfl⟩
  rw [← hB2] at h0 h2 h3 ⊢
  refine awN_cw hmix ?_
  have d0:∀ q:Mg,List.drop 12 q.cells=[]:=fun _=>rfl
  have d1:(mgS (named ⟨#[97]⟩ ⟨#[98]⟩,[],0)).e=0:=rfl
  have d2:(mgS (Pg.zero,[11],270)).e=270:=rfl
  have d3:(mgS (named ⟨#[97]⟩ ⟨#[98]⟩,[],0)).p=named ⟨#[97]⟩ ⟨#[98]⟩:=rfl
  have d4:(mgS (Pg.zero,[11],270)).c=[11]:=rfl
  have d5:(dfCells (mgS (Pg.zero,[11],270)).p.defs).length=0:=rfl
  simp only [vqM,vt98,zA,zS,zM,zL,zE,zB,reduceCtorEq,h0,h2,h3,vsMg]
  repeat' (first
    | (with_reducible refine needI_intro ?_ ?_)
    | (with_reducible refine And.intro ?_ ?_)
    | ((with_reducible refine is_call ?_);refine callI_spec (t_named27 _ _ _) ?_;simp only [vqM,vt98,zA,zS,zM,zL,zE,zB,reduceCtorEq,h0,h2,h3,vsMg,e3,e4,e5,d0,List.append_nil,box_lt h2,box_lt h3,box_lt h0,d1,d2,d3,d4,d5,decide_true,intCells_len])
    | ((with_reducible refine is_call ?_);refine callI_spec (t_three27 _ _ _ m0 m1 m2 _) ?_;simp only [vqM,vt98,zA,zS,zM,zL,zE,zB,reduceCtorEq,h0,h2,h3,vsMg,e3,e4,e5,d0,List.append_nil,box_lt h2,box_lt h3,box_lt h0,d1,d2,d3,d4,d5,decide_true,intCells_len])
    | ((with_reducible refine is_call ?_);refine callI_spec (t_three27 _ _ _ m0 m1 m3 _) ?_;simp only [vqM,vt98,zA,zS,zM,zL,zE,zB,reduceCtorEq,h0,h2,h3,vsMg,e3,e4,e5,d0,List.append_nil,box_lt h2,box_lt h3,box_lt h0,d1,d2,d3,d4,d5,decide_true,intCells_len])
    | ((with_reducible refine is_call ?_);refine callI_spec (t_three27 _ _ _ m0 m1 m4 _) ?_;simp only [vqM,vt98,zA,zS,zM,zL,zE,zB,reduceCtorEq,h0,h2,h3,vsMg,e3,e4,e5,d0,List.append_nil,box_lt h2,box_lt h3,box_lt h0,d1,d2,d3,d4,d5,decide_true,intCells_len])
    | ((with_reducible refine is_call ?_);refine callI_spec (t_Changed _ _ m0.nc m4.nc m0.hl m4.hl _) ?_;simp only [vqM,vt98,zA,zS,zM,zL,zE,zB,reduceCtorEq,h0,h2,h3,vsMg,e3,e4,e5,d0,List.append_nil,box_lt h2,box_lt h3,box_lt h0,d1,d2,d3,d4,d5,decide_true,intCells_len])
    | ((with_reducible refine is_call ?_);refine callI_spec (t_Changed _ _ m0.nc m0.nc m0.hl m0.hl _) ?_;simp only [vqM,vt98,zA,zS,zM,zL,zE,zB,reduceCtorEq,h0,h2,h3,vsMg,e3,e4,e5,d0,List.append_nil,box_lt h2,box_lt h3,box_lt h0,d1,d2,d3,d4,d5,decide_true,intCells_len])
    | ((with_reducible refine is_call ?_);refine callI_spec (t_SameProgramF _ _ _) ?_;simp only [vqM,vt98,zA,zS,zM,zL,zE,zB,reduceCtorEq,h0,h2,h3,vsMg,e3,e4,e5,d0,List.append_nil,box_lt h2,box_lt h3,box_lt h0,d1,d2,d3,d4,d5,decide_true,intCells_len])
    | ((with_reducible refine is_call ?_);refine callI_spec (t_SameInts _ [11] _) ?_;simp only [vqM,vt98,zA,zS,zM,zL,zE,zB,reduceCtorEq,h0,h2,h3,vsMg,e3,e4,e5,d0,List.append_nil,box_lt h2,box_lt h3,box_lt h0,d1,d2,d3,d4,d5,decide_true,intCells_len])
    | ((with_reducible refine is_call ?_);refine callI_spec (t_SameInts _ [11,12] _) ?_;simp only [vqM,vt98,zA,zS,zM,zL,zE,zB,reduceCtorEq,h0,h2,h3,vsMg,e3,e4,e5,d0,List.append_nil,box_lt h2,box_lt h3,box_lt h0,d1,d2,d3,d4,d5,decide_true,intCells_len])
    | (with_reducible refine is_pN ?_;simp only [vqM,vt98,zA,zS,zM,zL,zE,zB,reduceCtorEq,h0,h2,h3,vsMg,e3,e4,e5,d0,List.append_nil,box_lt h2,box_lt h3,box_lt h0,d1,d2,d3,d4,d5,decide_true,intCells_len]))
  rw [hB2,List.append_assoc]
  refine ret_loc (.inr rfl) ?_ (.bool _) (fun _ h=>h) (Nat.le_refl _)
  simp only [vqM,vt98,zA,zS,zM,zL,zE,zB,reduceCtorEq]
def inp27 (b:List Int) (l m:List Cg):D:=.agg [.slice .none (byteCells b),.slice .none (cgCells l),.slice .none (cgCells m)]
def Sd3 (x y z:Mg) (B:List Box) (L:List Nat) (c:Nat) (P0 P1 P2:Pg) (E:Nat→Nat→Nat→List D) (ks:List Nat) (e:List D) (s:St):Prop :=
  ∃ i j k C,keep ks e=E i j k∧s=⟨B++C,L,c⟩∧(B++C)[i]? = some (.cells x.cells)∧(B++C)[j]? = some (.cells y.cells)∧(B++C)[k]? = some (.cells z.cells)∧(B++C)[B.length+1]? = some (.cells P0.cells)∧(B++C)[B.length+2]? = some (.cells P1.cells)∧(B++C)[B.length+3]? = some (.cells P2.cells)
theorem sd3_mk {x y z:Mg} {B C:List Box} {L:List Nat} {c:Nat} {P0 P1 P2:Pg} {E:Nat→Nat→Nat→List D} {ks:List Nat} {e:List D} {s:St} {i j k:Nat} (h1:keep ks e=E i j k) (h2:s=⟨B++C,L,c⟩) (h3:(B++C)[i]? = some (.cells x.cells)) (h4:(B++C)[j]? = some (.cells y.cells)) (h5:(B++C)[k]? = some (.cells z.cells))
    (h6:(B++C)[B.length+1]? = some (.cells P0.cells)) (h7:(B++C)[B.length+2]? = some (.cells P1.cells)) (h8:(B++C)[B.length+3]? = some (.cells P2.cells)):Sd3 x y z B L c P0 P1 P2 E ks e s:=⟨i,j,k,C,h1,h2,h3,h4,h5,h6,h7,h8⟩
theorem t_MergeSides (b:List Int) (hb:∀ x ∈ b,0≤x∧x<256) (l m:List Cg) (hl:∀ z ∈ l,z.Ok) (hm:∀ z ∈ m,z.Ok) (s:St):Spec Tryz.prog 4 [inp27 b l m] s (.bool true) s:=by
  have M0:=(made_var hb).mrg (by omega)
  have M1:=(variant_ok (made_var hb) hl).mrg (by omega)
  have M2:=(variant_ok (made_var hb) hm).mrg (by omega)
  have hmade:=fun s=>t_made27 b hb l m hl hm s
  generalize made b=p at *
  generalize variantS p l=q1 at *
  generalize variantS p m=q2 at *
  have e1:=side_left (p:=p) M1.nc M1.pr
  have e2:=side_right (p:=p) M2.nc M2.pr
  have e3:=side_same (p:=p) M1.nc M1.pr
  obtain ⟨B,L,c⟩:=s
  simp only [inp27]
  refine Spec.introN [(4,.cut),(5,.stop)] Tryz.func4 rfl (by decide) hmix (by kernel_rfl) [ResultVar.tmp 2] 79 rfl rfl ?_
  simp only [vqM,vt99,Tryz.f4,zA,zS,zM,zL,zE,zB,reduceCtorEq]
  refine callI_spec (t_examples27 _) ?_
  simp only [vqM,vt99,zA,zS,zM,zL,zE,zB,reduceCtorEq]
  refine seq_go ?_
  simp only [vqM,vt99,zA,zS,zM,zL,zE,zB,reduceCtorEq]
  refine callI_spec (hmade _) ?_
  simp only [vqM,vt99,zA,zS,zM,zL,zE,zB,reduceCtorEq,vsK]
  refine awN_seq ?_
  refine awN_open fun _=>?_
  refine awI_cutI (Sd3 (mgS (q1,[],0)) (mgS (q2,[],0)) (mgS (q1,[],0)) B L c p q1 q2 (fun i j k=>[.junk,.junk,.junk,.bool true,.box (B.length+1) 0,.box (B.length+2) 0,.box (B.length+3) 0,.box i 0,.box j 0,.box k 0,.junk,.junk,.junk,.junk,.junk,.junk,.junk,.junk,.junk,.junk,.junk,.junk,.junk,.junk,.junk,.junk,.junk,.junk,.junk,.junk,.junk,.junk,.junk,.junk,.junk,.junk,.junk,.junk,.junk,.junk,.junk,.junk,.junk,.junk,.junk,.junk,.junk,.junk,.junk,.junk,.junk,.junk,.junk,.junk,.junk,.junk,.junk,.junk,.junk,.junk,.junk,.junk,.junk,.junk,.junk,.junk,.junk,.junk,.junk,.junk,.junk,.junk,.junk,.junk,.junk,.junk,.junk,.junk,.junk]) [3,4,5,6,7,8,9]) ?_ ?_
  · skip
    refine awI_drawM hmix [12,13,14,15,16,17] [⟨[0,1,2,3,4,5,6,7,8,9,10,11,12,13,14,15,16,17],[(0,1),(0,2),(0,3),(1,1),(1,2),(1,3),(2,1),(2,2),(2,3),(3,1),(3,2),(3,3),(4,1),(4,2),(4,3),(5,1),(5,2),(5,3),(6,1),(6,2),(6,3),(7,1),(7,2),(7,3),(8,1),(8,2),(8,3),(9,1),(9,2),(9,3),(10,1),(10,2),(10,3),(11,1),(11,2),(11,3)]⟩,⟨[0,1,2,3,4,5,6,7,8,9,10,11,12,14,13,15,16,17],[(0,1),(0,2),(0,3),(1,1),(1,2),(1,3),(2,1),(2,2),(2,3),(3,1),(3,2),(3,3),(4,1),(4,2),(4,3),(5,1),(5,2),(5,3),(6,1),(6,2),(6,3),(7,1),(7,2),(7,3),(8,1),(8,2),(8,3),(9,1),(9,2),(9,3),(10,1),(10,2),(10,3),(11,1),(11,2),(11,3)]⟩,⟨[0,1,2,3,4,5,6,7,8,9,10,11,13,12,14,15,16,17],[(0,1),(0,2),(0,3),(1,1),(1,2),(1,3),(2,1),(2,2),(2,3),(3,1),(3,2),(3,3),(4,1),(4,2),(4,3),(5,1),(5,2),(5,3),(6,1),(6,2),(6,3),(7,1),(7,2),(7,3),(8,1),(8,2),(8,3),(9,1),(9,2),(9,3),(10,1),(10,2),(10,3),(11,1),(11,2),(11,3)]⟩,⟨[0,1,2,3,4,5,6,7,8,9,10,11,13,14,12,15,16,17],[(0,1),(0,2),(0,3),(1,1),(1,2),(1,3),(2,1),(2,2),(2,3),(3,1),(3,2),(3,3),(4,1),(4,2),(4,3),(5,1),(5,2),(5,3),(6,1),(6,2),(6,3),(7,1),(7,2),(7,3),(8,1),(8,2),(8,3),(9,1),(9,2),(9,3),(10,1),(10,2),(10,3),(11,1),(11,2),(11,3)]⟩,⟨[0,1,2,3,4,5,6,7,8,9,10,11,14,12,13,15,16,17],[(0,1),(0,2),(0,3),(1,1),(1,2),(1,3),(2,1),(2,2),(2,3),(3,1),(3,2),(3,3),(4,1),(4,2),(4,3),(5,1),(5,2),(5,3),(6,1),(6,2),(6,3),(7,1),(7,2),(7,3),(8,1),(8,2),(8,3),(9,1),(9,2),(9,3),(10,1),(10,2),(10,3),(11,1),(11,2),(11,3)]⟩,⟨[0,1,2,3,4,5,6,7,8,9,10,11,14,13,12,15,16,17],[(0,1),(0,2),(0,3),(1,1),(1,2),(1,3),(2,1),(2,2),(2,3),(3,1),(3,2),(3,3),(4,1),(4,2),(4,3),(5,1),(5,2),(5,3),(6,1),(6,2),(6,3),(7,1),(7,2),(7,3),(8,1),(8,2),(8,3),(9,1),(9,2),(9,3),(10,1),(10,2),(10,3),(11,1),(11,2),(11,3)]⟩] (by kernel_rfl) fun pl hpl=>?_
    simp only [List.mem_cons,List.not_mem_nil,or_false] at hpl
    rcases hpl with rfl | rfl | rfl | rfl | rfl | rfl
    all_goals
      simp only [vqM,vt99,zA,zS,zM,zL,zE,zB,reduceCtorEq,vsMg,List.getD_cons_zero,List.getD_cons_succ,List.contains_cons,List.contains_nil,Bool.or_false,Bool.or_true,Bool.true_or,Bool.false_or]
    all_goals
      repeat' (first
        | (with_reducible refine needI_intro ?_ ?_)
        | (with_reducible refine And.intro ?_ ?_)
        | ((with_reducible refine is_call ?_);refine callI_spec (t_three27 _ _ _ M0.n M1.n M0.n _) ?_;simp only [vqM,vt99,zA,zS,zM,zL,zE,zB,reduceCtorEq,vsMg,e1,e2,e3,List.getD_cons_zero,List.getD_cons_succ,List.contains_cons,List.contains_nil,Bool.or_false,Bool.or_true,Bool.true_or,Bool.false_or])
        | ((with_reducible refine is_call ?_);refine callI_spec (t_three27 _ _ _ M0.n M0.n M2.n _) ?_;simp only [vqM,vt99,zA,zS,zM,zL,zE,zB,reduceCtorEq,vsMg,e1,e2,e3,List.getD_cons_zero,List.getD_cons_succ,List.contains_cons,List.contains_nil,Bool.or_false,Bool.or_true,Bool.true_or,Bool.false_or])
        | ((with_reducible refine is_call ?_);refine callI_spec (t_three27 _ _ _ M0.n M1.n M1.n _) ?_;simp only [vqM,vt99,zA,zS,zM,zL,zE,zB,reduceCtorEq,vsMg,e1,e2,e3,List.getD_cons_zero,List.getD_cons_succ,List.contains_cons,List.contains_nil,Bool.or_false,Bool.or_true,Bool.true_or,Bool.false_or])
        | (with_reducible refine is_pN ?_;simp only [vqM,vt99,zA,zS,zM,zL,zE,zB,reduceCtorEq,vsMg,e1,e2,e3,List.getD_cons_zero,List.getD_cons_succ,List.contains_cons,List.contains_nil,Bool.or_false,Bool.or_true,Bool.true_or,Bool.false_or]))
    all_goals
      refine meet_intro ?_
      apply sd3_mk
      · simp only [vke,zB,zA]
        rfl
      · rfl
      all_goals (first | (simp only [box_at,box_at0,List.getElem?_cons_succ,List.getElem?_cons_zero];done) | (simp only [box_at,box_at0,List.getElem?_cons_succ,List.getElem?_cons_zero];rfl) | (simp only [zA,box_at];rfl) | trace_state)
  rintro e s ⟨i7,i8,i9,C,he,rfl,h7,h8,h9,h4,h5,h6⟩
  simp only [vqM,vt99,zA,zS,zM,zL,zE,zB,reduceCtorEq,vsK]
  refine awN_keep [3,4,5,6,7,8,9] ?_
  rw [he]
  clear he
  have d1:(mgS (q1,[],0)).e=0:=rfl
  have d2:(mgS (q2,[],0)).e=0:=rfl
  have d3:(mgS (q1,[],0)).p=q1:=rfl
  have d4:(mgS (q2,[],0)).p=q2:=rfl
  have d5:(intCells (mgS (q1,[],0)).c).length=0:=rfl
  have d6:(intCells (mgS (q2,[],0)).c).length=0:=rfl
  refine awN_cw hmix ?_
  have w000:IntKind.i64.wrap (0+0)=0:=wrap_in (by omega)
  simp only [vqM,vt99,zA,zS,zM,zL,zE,zB,reduceCtorEq,vsMg,h4,h5,h6,h7,h8,h9,d1,d2,d3,d4,d5,d6,decide_true,w000]
  refine callI_spec (t_SameProgramF _ _ _) ?_
  simp only [vqM,vt99,zA,zS,zM,zL,zE,zB,reduceCtorEq,vsMg,h4,h5,h6,h7,h8,h9,d1,d2,d3,d4,d5,d6,decide_true,w000]
  refine callI_spec (t_SameProgramF _ _ _) ?_
  simp only [vqM,vt99,zA,zS,zM,zL,zE,zB,reduceCtorEq,vsMg,h4,h5,h6,h7,h8,h9,d1,d2,d3,d4,d5,d6,decide_true,w000]
  refine callI_spec (t_SameProgramF _ _ _) ?_
  simp only [vqM,vt99,zA,zS,zM,zL,zE,zB,reduceCtorEq,vsMg,h4,h5,h6,h7,h8,h9,d1,d2,d3,d4,d5,d6,decide_true,w000]
  refine ret_loc (.inr rfl) ?_ (.bool _) (fun _ h=>h) (Nat.le_refl _)
  simp only [vqM,vt99,zA,zS,zM,zL,zE,zB,reduceCtorEq]
open Go.ChangeShapes Go.WideShapes
def g0 (w:World):G:=⟨w,fun b o=>w.cell? ⟨b,o,none⟩,fun _=>none,fun _=>none,fun _=>False,fun _=>none⟩
theorem wrel0 (w:World):WRel w (g0 w) ⟨[],[],0⟩ where
  os:=rfl
  tape:=rfl
  out:=rfl
  fz:=fun _ _=>rfl
  n:=Nat.le_refl _
  old:=fun _ _=>rfl
  m:=fun _ _ _ h=>h
  box:=fun i bx h=>by simp at h
  inj:=fun i j b h=>by cases h
  dom:=fun i b h=>by cases h
  live:=fun k h=>by simp at h
  uniq:=fun k k' h=>by simp at h
  ldom:=fun k x h=>by cases h
  o:=fun b h=>h.elim
  nd:=.nil
  sz:=fun b n h=>by cases h
theorem spec_calls {P:Program} {f:FuncId} {args:List D} {vs:Array Value} {w:World} (h:Spec P f args ⟨[],[],0⟩ (.bool true) ⟨[],[],0⟩) (ha:ArgsR (g0 w) args vs) :
    Calls P f vs w fun e w'=>e=.returned (.bool true)∧w'.os=w.os∧w'.output=w.output∧(∀ a,a.block<w.heap.size→w'.frozen? a=w.frozen? a)∧∀ b,b<w.heap.size→w'.heap[b]? = w.heap[b]?:=by
  refine (callsIn_wide.1 (h vs w (g0 w) ha (wrel0 w)).2).mono fun e w' hb=>?_
  obtain ⟨v,g',r,s',⟨rfl,rfl⟩,rfl,hle,hw,hR⟩:=hb
  have e0:g'.w0=w:=hle.w0
  have:=hw.os;have:=hw.out;have:=hw.fz;have:=hw.old
  simp only [G.N,e0] at *
  cases hR
  exact ⟨rfl,by assumption,by assumption,by assumption,by assumption⟩
theorem old_cell {w w':World} (h:∀ b,b<w.heap.size→w'.heap[b]? = w.heap[b]?) {b o:Nat} (hb:b<w.heap.size):w'.cell? ⟨b,o,none⟩=w.cell? ⟨b,o,none⟩:=by
  simp only [World.cell?,h b hb]
theorem old_same {w w':World} (h:∀ b,b<w.heap.size→w'.heap[b]? = w.heap[b]?) {p:MemPlace} (hp:p.block<w.heap.size):w.sameAt w' p:=by
  cases p with
  | cell b o=>exact old_cell h hp
  | map b=>exact h b hp
theorem old_kept {w w':World} (h1:w'.os=w.os) (h2:w'.output=w.output) (h:∀ b,b<w.heap.size→w'.heap[b]? = w.heap[b]?) (may:MemPlace→Prop):w.keptBut w' may:=by
  refine ⟨h1,h2,fun i hi=>?_⟩
  rw [h i hi]
  exact (World.keptBut_refl w may).2.2 i hi
section
variable {H:Type} {enc:TypeId × Value→H} {P:Program} {T:TypeId→Prop}
theorem stays_all {w w':World} (K:Kids P T) (hz:∀ t e,T t→P.underlying t=some (.slice e)→0<P.cellsOf e) (hold:∀ b,b<w.heap.size→w'.heap[b]? = w.heap[b]?) {sp:Nat→Bool} :
    ∀ {ts:List TypeId} {vs:List Value} {ds:List (DataW H)} {ps:List MemPlace},(∀ t ∈ ts,T t)→DataW.TrodAll enc P w 0 (fun _=>true) true ts vs ds ps→(∀ p ∈ ps,p.block<w.heap.size)→(∀ p ∈ ps,sp p.block=true)→DataW.TrodAll enc P w' 0 sp true ts vs ds ps
  | [],[],[],_,_,h,_,_=>h
  | _::_,_::_,_::_,_,hT,⟨p,q,⟨fuel,h1⟩,h2,e⟩,hlt,hs =>
    ⟨p,q,⟨fuel,DataW.trod_stays K (fun ht hu=>hz _ _ ht hu) (fun h=>by cases h) (hT _ (List.mem_cons.2 (Or.inl rfl))) h1 (fun x hx=>old_same hold (hlt x (by rw [e];exact List.mem_append_left _ hx))) (fun x hx=>hs x (by rw [e];exact List.mem_append_left _ hx))⟩,
      stays_all K hz hold (fun t ht=>hT t (List.mem_cons.2 (Or.inr ht))) h2 (fun x hx=>hlt x (by rw [e];exact List.mem_append_right _ hx)) (fun x hx=>hs x (by rw [e];exact List.mem_append_right _ hx)),e⟩
theorem post_same_old {f:Func} {s:ChangeSpec} {apart fresh handsOn again:Bool} {W W':World} {args:Array Value} {v:Value} {ds gs:List (DataW H)} {before pa pv:List MemPlace}
    (hW:DataW.Whole enc P f.params.toList s.vars apart W args.toList ds gs before)
    (hres:∀ (b:Nat) (sp:Nat→Bool) (hd:Bool),DataW.TrodAll enc P W' b sp hd f.resultTypes.toList (v.resultList f.resultTypes.size) (s.fn H (ds++gs)).results [])
    (hargs:∀ sp:Nat→Bool,(∀ p ∈ before,sp p.block=true)→DataW.TrodAll enc P W' 0 sp true f.params.toList args.toList (s.fn H (ds++gs)).args pa)
    (hvars:∀ sp:Nat→Bool,(∀ p ∈ before,sp p.block=true)→DataW.TrodVars enc P W' sp s.vars (s.fn H (ds++gs)).vars pv)
    (hps:before=pa++pv) (hk:W.keptBut W' (· ∈ before)) (hfz:∀ a,a.block<W.heap.size→W'.frozen? a=W.frozen? a)
    (hok:∀ (j:Nat) (t:TypeId) (r:Value),f.resultTypes[j]? = some t→(v.resultList f.resultTypes.size)[j]? = some r→Value.okWide P W' .any 0 t r) :
    s.post enc P f apart fresh handsOn again W args v W':=by
  have hlt:∀ p ∈ before,p.block<W.heap.size:=hW.lt
  refine ⟨ds,gs,before,[],pa,pv,hW,hres _ _ _,hargs _ (fun p hp=>by simpa using hlt p hp),hvars _ (fun p hp=>by simpa using hlt p hp),World.keptBut_mono (fun p hp=>⟨hp,by rw [hps,List.mem_append] at hp;exact .inr hp⟩) hk,fun _=>?_⟩
  obtain ⟨_,_,_,_,_,hz,hn⟩:=hW
  refine ⟨hok,_,_,([]++pa)++pv,⟨[]++pa,pv,trodAll_append (hargs _ (fun _ _=>rfl)) (hres _ _ _),hvars _ (fun _ _=>rfl),rfl,fun b off hp=>?_,fun ha=>?_⟩,fun p hp _=>by rw [hps];simpa using hp⟩
  · have hp':MemPlace.cell b off ∈ before:=by rw [hps];simpa using hp
    rw [hfz _ (hlt _ hp')]
    exact hz b off hp'
  · have:=hn ha
    rw [hps] at this
    simpa using this
theorem post_true {f:Func} {s:ChangeSpec} {apart fresh handsOn again:Bool} {w w':World} {args:Array Value} {ds:List (DataW H)} {before:List MemPlace} {tb:TypeId} (K:Kids P T) (hz:∀ t e,T t→P.underlying t=some (.slice e)→0<P.cellsOf e)
    (hT:∀ t ∈ f.params.toList,T t) (hv:s.vars=[]) (hres:f.resultTypes = #[tb]) (hb:P.underlying tb=some .bool)
    (hW:DataW.Whole enc P f.params.toList s.vars apart w args.toList ds [] before) (h1:(s.fn H (ds++[])).results=[.lit (.bool true)]) (h2:(s.fn H (ds++[])).args=ds) (h3:(s.fn H (ds++[])).vars=[])
    (k1:w'.os=w.os) (k2:w'.output=w.output) (k3:∀ a,a.block<w.heap.size→w'.frozen? a=w.frozen? a) (k4:∀ b,b<w.heap.size→w'.heap[b]? = w.heap[b]?):s.post enc P f apart fresh handsOn again w args (.bool true) w':=by
  have hlt:=hW.lt
  have hW':=hW
  obtain ⟨p,q,hA,hV,rfl,hfz,_⟩:=hW
  rw [hv] at hV
  obtain ⟨-,rfl⟩:=trodVars_none hV
  refine post_same_old (pa:=p) (pv:=[]) hW' ?_ ?_ ?_ rfl (old_kept k1 k2 k4 _) k3 ?_
  · intro b sp hd
    rw [h1,hres]
    exact trodAll_mk1 (RowKit.shut_bool hb true)
  · intro sp hsp
    rw [h2]
    exact stays_all K hz k4 hT hA (fun x hx=>hlt x (by simpa using hx)) (fun x hx=>hsp x (by simpa using hx))
  · intro sp hsp
    rw [h3,hv]
    rfl
  · exact RowKit.ok_one hres rfl (RowKit.okWide_bool_mk hb true)
end
end Go.V
namespace Go.Proofs.YtmfmcdomgagebaaGreat
open Go.V Go.ChangeShapes Go.WideShapes
set_option maxRecDepth 20000
set_option maxHeartbeats 4000000
theorem own:ownKnob Tryz.prog.godebug=none:=by kernel_rfl
theorem kids:Kids Tryz.prog (· < Tryz.prog.types.size):=kids_rows (by kernel_rfl) (by kernel_rfl)
theorem full:∀ t e,t<Tryz.prog.types.size→Tryz.prog.underlying t=some (.slice e)→0<Tryz.prog.cellsOf e:=slices_full_of Tryz.prog (by kernel_rfl)
structure RawT (P:Program) (t e:TypeId) (f0:Field):Prop where
  st:P.underlying t=some (.struct #[f0])
  sl:P.underlying f0.type=some (.slice e)
  el:P.underlying e=some (.int .u8)
  c1:P.cellsOf e=1
  c2:P.cellsOf t=1
  c3:P.cellsOf f0.type=1
  o0:f0.offset=0
  by1:P.bytesOf e=1
def fieldOf (P:Program) (t:TypeId):Field:=match P.underlying t with
  | some (.struct fs)=>fs.toList.headD default
  | _=>default
def elemOf (P:Program) (t:TypeId):TypeId:=match P.underlying t with
  | some (.slice e)=>e
  | _=>0
end Go.Proofs.YtmfmcdomgagebaaGreat
namespace Go.V
open Go.ChangeShapes Go.WideShapes
def layF (P:Program):List Field→Nat→Option Nat
  | [],o=>some o
  | f::fs,o=>if f.offset=o then layF P fs (o+P.cellsOf f.type) else none
def okIn (P:Program):Nat→TypeId→Bool
  | 0,_=>false
  | n+1,t=>match P.underlying t with
    | some (.int _)=>P.cellsOf t == 1
    | some .bool=>P.cellsOf t == 1
    | some (.slice e)=>P.cellsOf t == 1 && okIn P n e && decide (0<P.cellsOf e) && decide (0<P.bytesOf e)
    | some (.struct fs)=>(layF P fs.toList 0 == some (P.cellsOf t)) && fs.toList.all fun f=>okIn P n f.type
    | _=>false
inductive In (P:Program):TypeId→List D→Prop
  | int {t:TypeId} {k:IntKind} (n:Int) (h:P.underlying t=some (.int k)) (hw:(Lit.int k n).wf=true):In P t [.int k n]
  | bool {t:TypeId} (b:Bool) (h:P.underlying t=some .bool):In P t [.bool b]
  | slice {t e:TypeId} (xs:List (List D)) (h:P.underlying t=some (.slice e)) (hx:∀ x ∈ xs,In P e x) (hl:∀ x ∈ xs,x.length=P.cellsOf e) (hb:xs.length * P.bytesOf e≤reachBytes):In P t [.slice .none xs]
  | struct {t:TypeId} {fs:Array Field} (ds:List D) (h:P.underlying t=some (.struct fs)) (hl:ds.length=P.cellsOf t) (hf:∀ f ∈ fs.toList,In P f.type ((ds.drop f.offset).take (P.cellsOf f.type))):In P t ds
theorem In.int_inv {P:Program} {t:TypeId} {k:IntKind} {ds:List D} (h:In P t ds) (ht:P.underlying t=some (.int k)):∃ n,ds=[.int k n]∧(Lit.int k n).wf=true:=by
  cases h with
  | int n h hw=>rw [ht] at h;cases h;exact ⟨n,rfl,hw⟩
  | bool b h=>rw [ht] at h;cases h
  | slice xs h hx hl hb=>rw [ht] at h;cases h
  | struct ds h hl hf=>rw [ht] at h;cases h
theorem In.slice_inv {P:Program} {t e:TypeId} {ds:List D} (h:In P t ds) (ht:P.underlying t=some (.slice e)):∃ xs,ds=[.slice .none xs]∧(∀ x ∈ xs,In P e x)∧(∀ x ∈ xs,x.length=P.cellsOf e)∧xs.length * P.bytesOf e≤reachBytes:=by
  cases h with
  | int n h hw=>rw [ht] at h;cases h
  | bool b h=>rw [ht] at h;cases h
  | slice xs h hx hl hb=>rw [ht] at h;cases h;exact ⟨xs,rfl,hx,hl,hb⟩
  | struct ds h hl hf=>rw [ht] at h;cases h
theorem In.struct_inv {P:Program} {t:TypeId} {fs:Array Field} {ds:List D} (h:In P t ds) (ht:P.underlying t=some (.struct fs)):ds.length=P.cellsOf t∧∀ f ∈ fs.toList,In P f.type ((ds.drop f.offset).take (P.cellsOf f.type)):=by
  cases h with
  | int n h hw=>rw [ht] at h;cases h
  | bool b h=>rw [ht] at h;cases h
  | slice xs h hx hl hb=>rw [ht] at h;cases h
  | struct ds h hl hf=>rw [ht] at h;cases h;exact ⟨hl,hf⟩
def RR (w:World) (ds:List D) (cs:List Value):Prop:=ds.length=cs.length∧∀ (i:Nat) (h1:i<ds.length) (h2:i<cs.length),R (g0 w) ds[i] cs[i]∧cs[i].oneCell'=true
theorem RR.one {w:World} {d:D} {v:Value} (h:R (g0 w) d v) (hv:v.oneCell'=true):RR w [d] [v]:=⟨rfl,fun i h1 h2=>by
  have:i=0:=by simp at h1;omega
  subst this
  exact ⟨h,hv⟩⟩
theorem RR.app {w:World} {ds es:List D} {cs bs:List Value} (h:RR w ds cs) (k:RR w es bs):RR w (ds++es) (cs++bs):=by
  refine ⟨by rw [List.length_append,List.length_append,h.1,k.1],fun i h1 h2=>?_⟩
  by_cases hi:i<ds.length
  · rw [List.getElem_append_left hi,List.getElem_append_left (by rw [← h.1];exact hi)]
    exact h.2 i hi _
  · have:=h.1
    rw [List.getElem_append_right (by omega),List.getElem_append_right (by omega)]
    simp only [this]
    exact k.2 _ (by simp at h1;omega) _
theorem layF_le {P:Program}:∀ {fs:List Field} {o n:Nat},layF P fs o=some n→o≤n
  | [],o,n,h=>by cases h;exact Nat.le_refl _
  | f::fs,o,n,h=>by
    rw [layF] at h
    split at h
    · have:=layF_le h;omega
    · cases h
theorem layF_ge {P:Program}:∀ {fs:List Field} {o n:Nat},layF P fs o=some n→∀ f ∈ fs,o≤f.offset∧f.offset+P.cellsOf f.type≤n
  | [],o,n,h,f,hf=>by simp at hf
  | g::fs,o,n,h,f,hf=>by
    rw [layF] at h
    split at h
    · rename_i e
      rcases List.mem_cons.1 hf with rfl | hf
      · have:=layF_le h;omega
      · have:=layF_ge h f hf;omega
    · cases h
theorem lay_in {P:Program} {w:World}:∀ (fs:List Field) (o n:Nat) (cs:List Value),layF P fs o=some n→cs.length=n→(∀ f ∈ fs,∃ ds,In P f.type ds∧RR w ds ((cs.drop f.offset).take (P.cellsOf f.type))) →
    ∃ ds,RR w ds (cs.drop o)∧∀ f ∈ fs,In P f.type ((ds.drop (f.offset - o)).take (P.cellsOf f.type))
  | [],o,n,cs,h,hl,_=>by
    cases h
    exact ⟨[],⟨by rw [List.drop_of_length_le (by omega)];rfl,fun i h1=>by simp at h1⟩,fun f hf=>by simp at hf⟩
  | f::fs,o,n,cs,h,hl,hp=>by
    rw [layF] at h
    split at h
    · rename_i e
      obtain ⟨d1,i1,r1⟩:=hp f (by simp)
      obtain ⟨d2,r2,i2⟩:=lay_in fs _ n cs h hl fun g hg=>hp g (by simp [hg])
      have hle:=layF_le h
      have hl1:d1.length=P.cellsOf f.type:=by rw [r1.1,List.length_take,List.length_drop];omega
      refine ⟨d1++d2,?_,fun g hg=>?_⟩
      · have:=r1.app r2
        rw [e,← List.drop_drop,List.take_append_drop] at this
        exact this
      · rcases List.mem_cons.1 hg with rfl | hg
        · rw [e,Nat.sub_self,List.drop_zero,List.take_append_of_le_length (by omega),List.take_of_length_le (by omega)];exact i1
        · have hge:=(layF_ge h g hg).1
          have:=i2 g hg
          rw [List.drop_append,List.drop_of_length_le (by omega),List.nil_append,hl1,show g.offset - o - P.cellsOf f.type=g.offset - (o+P.cellsOf f.type) by omega]
          exact this
    · cases h
section
variable {H:Type} {enc:TypeId × Value→H} {P:Program}
theorem cells_in {w:World}:∀ (n:Nat) (t:TypeId) (fuel:Nat) (cs:List Value) (x:DataW H × List MemPlace),okIn P n t=true→(x.1.weights P t).all (· ≤ reachBytes)=true→DataW.trod enc P w 0 (fun _=>true) true fuel t cs=some x →
    ∃ ds,In P t ds∧RR w ds cs:=by
  intro n
  induction n with
  | zero=>intro t fuel cs x h;simp [okIn] at h
  | succ n ih =>
    intro t fuel cs x hok hwt hd
    rw [okIn] at hok
    split at hok
    · rename_i k ht
      obtain ⟨m,rfl,_,hw⟩:=DataW.trod_int ht hd
      exact ⟨_,.int m ht hw,.one (.int _ _) rfl⟩
    · rename_i ht
      obtain ⟨b,rfl,_⟩:=DataW.trod_bool ht hd
      exact ⟨_,.bool b ht,.one (.bool _) rfl⟩
    · rename_i e ht
      simp only [Bool.and_eq_true,decide_eq_true_eq,beq_iff_eq] at hok
      obtain ⟨⟨⟨_,hoe⟩,hce⟩,hbe⟩:=hok
      rcases DataW.trod_slice ht hd with ⟨rfl,-⟩ | ⟨a,len,cap,elems,rest,m,_,rfl,rfl,_,hl,hm,hlen,hel,_,_⟩
      · refine ⟨_,.slice [] ht (fun x h=>by simp at h) (fun x h=>by simp at h) (by simp),.one ?_ rfl⟩
        exact .slice .none [] none 0 0 0 0 (fun _ _=>.nilFunc) (Nat.zero_le _) (Nat.zero_le _) trivial (fun i hi=>by simp at hi) (fun h=>by simp at h) (fun i j hi=>by simp at hi) (fun i j hi=>by simp at hi) (fun i j hi=>by simp at hi)
      · simp only [DataW.weights,ht,List.all_cons,List.all_append,Bool.and_eq_true,decide_eq_true_eq] at hwt
        obtain ⟨hw1,hw2,_⟩:=hwt
        have key:∀ i,i<len→∃ vs ds,w.cells? 0 (a.add (i * P.cellsOf e)) (P.cellsOf e)=some vs∧In P e ds∧RR w ds vs:=by
          intro i hi
          have h1:=hel i hi
          have hy:elems[i]? = some (elems[i]'(by omega)):=List.getElem?_eq_getElem _
          rw [hy,Option.bind_eq_some_iff] at h1
          obtain ⟨vs,hvs,ht2⟩:=h1
          obtain ⟨ds,q1,q2⟩:=ih e m vs _ hoe (by
            refine List.all_eq_true.2 fun z hz=>List.all_eq_true.1 hw2 z ?_
            have:∀ (l:List (DataW H)) (y:DataW H),y ∈ l→∀ z ∈ y.weights P e,z ∈ DataW.weightsAll P e l:=by
              intro l
              induction l with
              | nil=>intro y hy;simp at hy
              | cons y0 l ihl =>
                intro y hy z hz
                simp only [DataW.weightsAll,List.mem_append]
                rcases List.mem_cons.1 hy with rfl | hy
                · exact .inl hz
                · exact .inr (ihl y hy z hz)
            exact this _ _ (List.mem_map.2 ⟨elems[i]'(by omega),List.getElem_mem _,rfl⟩) z hz) ht2
          exact ⟨vs,ds,hvs,q1,q2⟩
        let vf:Nat→List Value:=fun i=>if h:i<len then (key i h).choose else []
        let df:Nat→List D:=fun i=>if h:i<len then (key i h).choose_spec.choose else []
        have hk:∀ i,i<len→w.cells? 0 (a.add (i * P.cellsOf e)) (P.cellsOf e)=some (vf i)∧In P e (df i)∧RR w (df i) (vf i):=by
          intro i hi
          have:=(key i hi).choose_spec.choose_spec
          simp only [vf,df,hi,dif_pos]
          exact this
        have hvl:∀ i,i<len→(vf i).length=P.cellsOf e:=fun i hi=>(World.cells?_some (hk i hi).1).2.1
        have hdl:∀ i,i<len→(df i).length=P.cellsOf e:=fun i hi=>by rw [(hk i hi).2.2.1,hvl i hi]
        have hxl:((List.range len).map df).length=len:=by simp
        have hsp:0<len→a=⟨a.block,a.off,none⟩:=fun h0=>by
          have h1:=(World.cells?_some (hk 0 h0).1).2.2 0 hce
          have h2:(vf 0)[0]? = some ((vf 0)[0]'(by rw [hvl 0 h0];exact hce)):=List.getElem?_eq_getElem _
          rw [h2] at h1
          have:=World.cell?_spot h1
          obtain ⟨b1,o1,s1⟩:=a
          simp [Addr.add] at this
          subst this;rfl
        have hat:∀ i j,i<len→j<P.cellsOf e→w.cell? ⟨a.block,a.off+i * P.cellsOf e+j,none⟩=some ((vf i).getD j .nilFunc):=fun i j hi hj=>by
          have h1:=(World.cells?_some (hk i hi).1).2.2 j hj
          have h2:(vf i)[j]? = some ((vf i)[j]'(by rw [hvl i hi];exact hj)):=List.getElem?_eq_getElem _
          rw [h2,hsp (by omega),add_plain,add_plain] at h1
          rw [List.getD_eq_getElem?_getD,h2]
          exact h1
        have hmax:len≤maxN:=by
          have h1:len * 1≤(elems.length+rest.length) * P.bytesOf e:=Nat.mul_le_mul (by omega) hbe
          have h2:=reachBytes_lt
          simp only [List.length_map] at hw1
          simp only [maxN];omega
        refine ⟨[.slice .none ((List.range len).map df)],.slice _ ht (fun x hx=>?_) (fun x hx=>?_) ?_,.one ?_ rfl⟩
        · obtain ⟨i,hi,rfl⟩:=List.mem_map.1 hx;exact (hk i (List.mem_range.1 hi)).2.1
        · obtain ⟨i,hi,rfl⟩:=List.mem_map.1 hx;exact hdl i (List.mem_range.1 hi)
        · rw [hxl]
          simp only [List.length_map] at hw1
          exact Nat.le_trans (Nat.mul_le_mul_right _ (by omega)) hw1
        · have:=R.slice (g:=g0 w) .none ((List.range len).map df) (some a) cap (P.cellsOf e) a.block a.off (fun i j=>(vf i).getD j .nilFunc) (by rw [hxl];exact hl) (by rw [hxl];exact hmax) trivial (fun i hi=>?_) (fun h0=>?_) (fun i j hi hj=>?_) (fun i j hi hj=>?_) (fun i j hi hj=>?_)
          · rw [hxl] at this;exact this
          · rw [hxl] at hi;simp only [List.getElem_map,List.getElem_range];exact hdl i hi
          · rw [hxl] at h0;rw [← hsp h0]
          · rw [hxl] at hi;exact hat i j hi hj
          · rw [hxl] at hi
            have hj':j<(vf i).length:=by rw [hvl i hi];exact hj
            have:=((hk i hi).2.2.2 j (by rw [hdl i hi];exact hj) hj').2
            simp only [List.getD_eq_getElem?_getD,List.getElem?_eq_getElem hj',Option.getD_some]
            exact this
          · rw [hxl] at hi
            simp only [List.getElem_map,List.getElem_range] at hj ⊢
            have hj':j<(vf i).length:=by rw [← (hk i hi).2.2.1];exact hj
            have:=((hk i hi).2.2.2 j hj hj').1
            simp only [List.getD_eq_getElem?_getD,List.getElem?_eq_getElem hj',Option.getD_some]
            exact this
    · rename_i fs ht
      simp only [Bool.and_eq_true,beq_iff_eq] at hok
      obtain ⟨hlay,hall⟩:=hok
      obtain ⟨xs,m,_,rfl,hl,hlen,hf⟩:=DataW.trod_struct ht hd
      have hwt':(DataW.weightsEach P (fs.toList.map (·.type)) (xs.map (·.1))).all (· ≤ reachBytes)=true:=by simpa only [DataW.weights,ht] using hwt
      obtain ⟨ds,r1,r2⟩:=lay_in (P:=P) (w:=w) fs.toList 0 (P.cellsOf t) cs hlay hl fun f hfm=>by
        obtain ⟨i,hi,rfl⟩:=List.getElem_of_mem hfm
        have hi':i<fs.size:=by simpa using hi
        have h1:=hf i fs[i] (by simp [hi'])
        have h2:xs[i]? = some (xs[i]'(by omega)):=List.getElem?_eq_getElem _
        rw [h2] at h1
        have h3:fs.toList[i]=fs[i]:=by simp
        rw [h3]
        refine ih fs[i].type m _ _ (by have:=List.all_eq_true.1 hall _ (List.getElem_mem hi);rwa [h3] at this) ?_ h1
        refine List.all_eq_true.2 fun z hz=>List.all_eq_true.1 hwt' z ?_
        exact DataW.weights_mem_each (j:=i) (t:=fs[i].type) (d:=(xs[i]'(by omega)).1) (by simp [hi']) (by simp [show i<xs.length by omega]) z hz
      rw [List.drop_zero] at r1
      refine ⟨ds,.struct ds ht (by rw [r1.1,hl]) fun f hfm=>?_,r1⟩
      have:=r2 f hfm
      rwa [Nat.sub_zero] at this
    · cases hok
theorem arg_in {w:World} {base:Nat} {t:TypeId} {fs:Array Field} {v:Value} {d:DataW H} {ps:List MemPlace} (n:Nat) (ht:P.underlying t=some (.struct fs)) (ho:okIn P n t=true) (hwt:(d.weights P t).all (· ≤ reachBytes)=true) (hok:Value.okWide P w .any base t v) (hd:DataW.Trod enc P w 0 (fun _=>true) true t v d ps) :
    ∃ ds,In P t ds∧R (g0 w) (.agg ds) v:=by
  obtain ⟨cs,rfl,hsz⟩:=okWide_struct ht hok
  obtain ⟨fuel,hd⟩:=hd
  have hcell:(Value.cells (.agg cs)).toList=cs.toList:=rfl
  rw [hcell] at hd
  obtain ⟨ds,h1,h2⟩:=cells_in n t fuel _ _ ho hwt hd
  refine ⟨ds,h1,.agg _ _ (by simpa using h2.1) (fun i hi=>?_) (fun i h3 h4=>?_)⟩
  · have:=(h2.2 i (by rw [h2.1];simpa using hi) (by simpa using hi)).2
    simpa using this
  · have:=(h2.2 i h3 (by simpa using h4)).1
    simpa using this
end
open Go.ChangeShapes Go.WideShapes
structure BytesT (P:Program) (t e:TypeId):Prop where
  sl:P.underlying t=some (.slice e)
  el:P.underlying e=some (.int .u8)
theorem In.bytes {P:Program} {t e:TypeId} (T:BytesT P t e) {ds:List D} (h:In P t ds):∃ b:List Int,(∀ x ∈ b,0≤x∧x<256)∧ds=[.slice .none (byteCells b)]:=by
  obtain ⟨xs,rfl,hx,_,_⟩:=h.slice_inv T.sl
  have key:∀ xs:List (List D),(∀ x ∈ xs,In P e x)→∃ b:List Int,(∀ x ∈ b,0≤x∧x<256)∧xs=byteCells b:=by
    intro xs
    induction xs with
    | nil=>intro _;exact ⟨[],fun x h=>by simp at h,rfl⟩
    | cons x xs ih =>
      intro h
      obtain ⟨b,h1,h2⟩:=ih fun y hy=>h y (by simp [hy])
      obtain ⟨n,rfl,hw⟩:=(h x (by simp)).int_inv T.el
      refine ⟨n::b,fun y hy=>?_,by rw [h2];rfl⟩
      rcases List.mem_cons.1 hy with rfl | hy
      · have h1:IntKind.u8.min=0:=rfl
        have h2:IntKind.u8.max=255:=rfl
        simp only [Lit.wf,Bool.and_eq_true,decide_eq_true_eq] at hw
        omega
      · exact h1 y hy
  obtain ⟨b,h1,h2⟩:=key xs hx
  exact ⟨b,h1,by rw [h2]⟩
structure CgT (P:Program) (t e:TypeId) (f0 f1 f2:Field):Prop where
  sl:P.underlying t=some (.slice e)
  st:P.underlying e=some (.struct #[f0,f1,f2])
  ce:P.cellsOf e=3
  u0:P.underlying f0.type=some (.int .u8)
  u1:P.underlying f1.type=some (.int .u8)
  u2:P.underlying f2.type=some (.int .u8)
  off:[f0.offset,f1.offset,f2.offset]=[0,1,2]
  cel:[P.cellsOf f0.type,P.cellsOf f1.type,P.cellsOf f2.type]=[1,1,1]
theorem u8_inV {n:Int} (hw:(Lit.int .u8 n).wf=true):0≤n∧n<256:=by
  have h1:IntKind.u8.min=0:=rfl
  have h2:IntKind.u8.max=255:=rfl
  simp only [Lit.wf,Bool.and_eq_true,decide_eq_true_eq] at hw
  omega
theorem In.cg {P:Program} {t e:TypeId} {f0 f1 f2:Field} (T:CgT P t e f0 f1 f2) {ds:List D} (h:In P t ds):∃ l:List Cg,(∀ z ∈ l,z.Ok)∧ds=[.slice .none (cgCells l)]:=by
  obtain ⟨xs,rfl,hx,_,_⟩:=h.slice_inv T.sl
  have one:∀ x,In P e x→∃ z:Cg,z.Ok∧x=z.cells:=by
    intro x hx
    obtain ⟨hl,hf⟩:=hx.struct_inv T.st
    rw [T.ce] at hl
    obtain ⟨d0,d1,d2,rfl⟩:∃ d0 d1 d2,x=[d0,d1,d2]:=by
      match x,hl with
      | [a,b,c],_=>exact ⟨a,b,c,rfl⟩
    have ho:=T.off
    have hc:=T.cel
    simp only [List.cons.injEq,and_true] at ho hc
    have h0:=hf f0 (by simp)
    have h1:=hf f1 (by simp)
    have h2:=hf f2 (by simp)
    rw [ho.1,hc.1] at h0
    rw [ho.2.1,hc.2.1] at h1
    rw [ho.2.2,hc.2.2] at h2
    obtain ⟨n0,e0,w0⟩:=h0.int_inv T.u0
    obtain ⟨n1,e1,w1⟩:=h1.int_inv T.u1
    obtain ⟨n2,e2,w2⟩:=h2.int_inv T.u2
    simp at e0 e1 e2
    subst e0 e1 e2
    exact ⟨⟨n0,n1,n2⟩,⟨u8_inV w0,u8_inV w1,u8_inV w2⟩,rfl⟩
  have key:∀ xs:List (List D),(∀ x ∈ xs,In P e x)→∃ l:List Cg,(∀ z ∈ l,z.Ok)∧xs=cgCells l:=by
    intro xs
    induction xs with
    | nil=>intro _;exact ⟨[],fun x h=>by simp at h,rfl⟩
    | cons x xs ih =>
      intro h
      obtain ⟨l,h1,h2⟩:=ih fun y hy=>h y (by simp [hy])
      obtain ⟨z,hz,rfl⟩:=one x (h x (by simp))
      refine ⟨z::l,fun y hy=>?_,by rw [h2];rfl⟩
      rcases List.mem_cons.1 hy with rfl | hy
      · exact hz
      · exact h1 y hy
  obtain ⟨b,h1,h2⟩:=key xs hx
  exact ⟨b,h1,by rw [h2]⟩
structure SidesT (P:Program) (t:TypeId) (f0 f1 f2 g:Field) (e ec:TypeId) (c0 c1 c2:Field):Prop where
  st:P.underlying t=some (.struct #[f0,f1,f2])
  ct:P.cellsOf t=3
  rs:P.underlying f0.type=some (.struct #[g])
  rg:g.offset=0∧P.cellsOf g.type=1
  rb:BytesT P g.type e
  k1:CgT P f1.type ec c0 c1 c2
  k2:CgT P f2.type ec c0 c1 c2
  off:[f0.offset,f1.offset,f2.offset]=[0,1,2]
  cel:[P.cellsOf f0.type,P.cellsOf f1.type,P.cellsOf f2.type]=[1,1,1]
theorem In.sides {P:Program} {t:TypeId} {f0 f1 f2 g:Field} {e ec:TypeId} {c0 c1 c2:Field} (T:SidesT P t f0 f1 f2 g e ec c0 c1 c2) {ds:List D} (h:In P t ds) :
    ∃ (b:List Int) (l m:List Cg),(∀ x ∈ b,0≤x∧x<256)∧(∀ z ∈ l,z.Ok)∧(∀ z ∈ m,z.Ok)∧D.agg ds=inp27 b l m:=by
  obtain ⟨hl,hf⟩:=h.struct_inv T.st
  rw [T.ct] at hl
  obtain ⟨d0,d1,d2,rfl⟩:∃ d0 d1 d2,ds=[d0,d1,d2]:=by
    match ds,hl with
    | [a,b,c],_=>exact ⟨a,b,c,rfl⟩
  have ho:=T.off
  have hc:=T.cel
  simp only [List.cons.injEq,and_true] at ho hc
  have h0:=hf f0 (by simp)
  have h1:=hf f1 (by simp)
  have h2:=hf f2 (by simp)
  rw [ho.1,hc.1] at h0
  rw [ho.2.1,hc.2.1] at h1
  rw [ho.2.2,hc.2.2] at h2
  obtain ⟨_,hg⟩:=h0.struct_inv T.rs
  have hg0:=hg g (by simp)
  rw [T.rg.1,T.rg.2] at hg0
  obtain ⟨b,hb,e0⟩:=In.bytes T.rb hg0
  obtain ⟨l,hl1,e1⟩:=In.cg T.k1 h1
  obtain ⟨m,hm1,e2⟩:=In.cg T.k2 h2
  simp at e0 e1 e2
  subst e0 e1 e2
  exact ⟨b,l,m,hb,hl1,hm1,rfl⟩
end Go.V
namespace Go.Proofs.YtmfmcdomgagebaaGreat
open Go.V Go.ChangeShapes Go.WideShapes
def fldAt (P:Program) (t:TypeId) (i:Nat):Field:=match P.underlying t with
  | some (.struct fs)=>fs.toList.getD i default
  | _=>default
theorem sidesT:SidesT Tryz.prog 27 (fldAt Tryz.prog 27 0) (fldAt Tryz.prog 27 1) (fldAt Tryz.prog 27 2) (fldAt Tryz.prog 24 0) (elemOf Tryz.prog (fldAt Tryz.prog 24 0).type) (elemOf Tryz.prog (fldAt Tryz.prog 27 1).type)
    (fldAt Tryz.prog 101 0) (fldAt Tryz.prog 101 1) (fldAt Tryz.prog 101 2) :=
  ⟨by kernel_rfl,by kernel_rfl,by kernel_rfl,⟨by kernel_rfl,by kernel_rfl⟩,⟨by kernel_rfl,by kernel_rfl⟩,⟨by kernel_rfl,by kernel_rfl,by kernel_rfl,by kernel_rfl,by kernel_rfl,by kernel_rfl,by kernel_rfl,by kernel_rfl⟩,⟨by kernel_rfl,by kernel_rfl,by kernel_rfl,by kernel_rfl,by kernel_rfl,by kernel_rfl,by kernel_rfl,by kernel_rfl⟩,by kernel_rfl,by kernel_rfl⟩
theorem sidesOk:okIn Tryz.prog 6 27=true:=by kernel_rfl
end Go.Proofs.YtmfmcdomgagebaaGreat
namespace Go.Proofs.YtmfmcdomgagebaaGreat
open Go.V Go.ChangeShapes Go.WideShapes
set_option maxRecDepth 20000
set_option maxHeartbeats 4000000
theorem sides_holds_lifted (os:Os) (started:os.Started) (H:Type) (enc:TypeId × Value→H) :
    ReturnsInHanded {} Tryz.checked os 4 .any (Rows.mergeSidesSpec.pre6 enc Tryz.prog Tryz.f4 Rows.mergeSidesRow.domain false) (Rows.mergeSidesSpec.post enc Tryz.prog Tryz.f4 false Rows.mergeSidesRow.fresh Rows.mergeSidesRow.handsOn Rows.mergeSidesRow.again):=by
  refine returnsInHanded_of_change_sized (C:=Tryz.checked) own started (by kernel_rfl) Tryz.func4
    (ChangeSpec.witness6 (enc:=enc) (C:=Tryz.checked) false ⟨#[],#[.agg #[.slice none 0 0,.slice none 0 0,.slice none 0 0]],[]⟩ 8 (by kernel_rfl) (by kernel_rfl) (by kernel_rfl) (by kernel_rfl)) ?_
  intro W base args ds gs before hval0 hW _ hwt _
  have hval:∀ (j:Nat) t v,Tryz.f4.params[j]? = some t→args[j]? = some v→Value.okWide Tryz.prog W .any base t v:=hval0
  have hW':=hW
  obtain ⟨p,q,hA0,hV,rfl,hfz,_⟩:=hW
  obtain ⟨rfl,rfl⟩:=trodVars_none hV
  have hpar:Tryz.f4.params.toList=[27]:=by kernel_rfl
  have hA:DataW.TrodAll enc Tryz.prog W 0 (fun _=>true) true Tryz.f4.params.toList args.toList ds p:=hA0
  rw [hpar] at hA
  obtain ⟨v0,d0,rfl,rfl,h0⟩:=trodAll_one hA
  have hwt0:(d0.weights Tryz.prog 27).all (· ≤ reachBytes)=true:=by
    refine List.all_eq_true.2 fun x hx=>List.all_eq_true.1 hwt x ?_
    exact DataW.weights_mem_each (j:=0) (t:=27) (d:=d0) (by kernel_rfl) rfl x hx
  obtain ⟨xs,hin,hR⟩:=arg_in 6 sidesT.st sidesOk hwt0 (hval 0 27 v0 (by kernel_rfl) rfl) h0
  obtain ⟨b,l,m,hb,hl,hm,hx⟩:=In.sides sidesT hin
  rw [hx] at hR
  have hspec:=t_MergeSides b hb l m hl hm ⟨[],[],0⟩
  refine (spec_calls hspec (w:=W) (vs:=#[v0]) ⟨rfl,fun i h1 h2=>?_⟩).mono fun e W' ⟨he,k1,k2,k3,k4⟩=>?_
  · match i,h2 with
    | 0,_=>exact hR
  · exact ⟨_,he,post_true (tb:=4) kids full (by rw [hpar];decide +kernel) rfl (by kernel_rfl) (by kernel_rfl) hW' rfl rfl rfl k1 k2 k3 k4⟩
theorem sides_holds:Rows.MergeSidesSaid :=
  OpenClaim.holds_of_wide 4 Tryz.f4 rfl rfl rfl rfl rfl rfl rfl ⟨rfl,rfl,rfl,rfl,rfl⟩ rfl rfl rfl rfl rfl (by kernel_rfl) Tryz.func4 (by kernel_rfl)
    (of_decide_eq_true (by kernel_rfl)) (by unfold Func.isWrapper;first | (rw [if_pos (by decide +kernel)];kernel_rfl) | (rw [if_neg (by decide +kernel)];exact ⟨rfl,rfl⟩))
    (fun os started H enc _=>sides_holds_lifted os started H enc)
#print axioms sides_holds
end Go.Proofs.YtmfmcdomgagebaaGreat
