/-
  The value-level logic and its contracts, part 2 (texts V10b, V11, V12, V13, V14, V15, V16, V17, V18, V19, V20, V21, V22, V23, V15b).
-/
import Derived.Test.YtlobjjbchnjfiaaGreatBasn1
open Nat renaming reduceAdd → zA, reduceSub → zS, reduceMul → zM, reduceLeDiff → zL, reduceEqDiff → zE, reduceBEq → zB
set_option linter.all false
set_option linter.unusedSimpArgs false
set_option linter.unusedVariables false
set_option linter.unnecessarySimpa false
namespace Go.V
theorem WRel.drawn {w:World} {g:G} {s:St} (h:WRel w g s) (n:Nat):WRel { w with drawn:=n } g s :=
 { os:=h.os,tape:=h.tape,out:=h.out,fz:=h.fz,n:=h.n,old:=h.old,m:=h.m,box:=h.box,inj:=h.inj,dom:=h.dom,live:=h.live,uniq:=h.uniq,ldom:=h.ldom,o:=h.o,nd:=h.nd,sz:=h.sz }
theorem WRel.mapX {w:World} {g:G} {s:St} (h:WRel w g s) {b:Nat} {es:List (D × D)} (hb:s.boxes[b]? = some (.map es)) :
  ∃ (bs:List Nat) (c:Nat),bs.length=es.length∧bs.Nodup∧(∀ x ∈ bs,x<c)∧WRel w g { s with boxes:=s.boxes.set b (.mapX es bs c) }:=by
 obtain ⟨l,en,c,h1,h2,h3,h4⟩:=h.box b _ hb
 have hlt:=(List.getElem?_eq_some_iff.1 hb).1
 have hlen:(en.toList.map (·.born)).length=es.length:=by simp [h3]
 have hlv:∀ j,Live1 { s with boxes:=s.boxes.set b (.mapX es (en.toList.map (·.born)) c) } j→Live1 s j:=by
  rintro j ⟨bx,q1,q2⟩
  by_cases e:j=b
  ·subst e;exact ⟨_,hb,by simp⟩
  ·simp only at q1;rw [List.getElem?_set_ne (by omega)] at q1;exact ⟨bx,q1,q2⟩
 refine ⟨en.toList.map (·.born),c,hlen,?_,?_,?_⟩
 ·refine List.pairwise_iff_getElem.2 fun i j hi hj hij e=>?_
  simp only [List.length_map,Array.length_toList] at hi hj
  simp only [List.getElem_map,Array.getElem_toList] at e
  have:=(h4 j (by omega) hj).2.2.2 i hi e
  omega
 ·intro x hx
  obtain ⟨e,he,rfl⟩:=List.mem_map.1 hx
  obtain ⟨j,hj,rfl⟩:=List.getElem_of_mem he
  simp only [Array.length_toList] at hj
  simpa using (h4 j (by omega) hj).2.2.1
 ·refine { os:=h.os,tape:=h.tape,out:=h.out,fz:=h.fz,n:=h.n,old:=h.old,m:=h.m,box:=?_,inj:=fun i j c h1 h2 l1 l2=>h.inj i j c h1 h2 (hlv i l1) (hlv j l2),dom:=fun j c hj=>by have:=h.dom j c hj;simpa using this,live:=h.live,uniq:=h.uniq,ldom:=h.ldom,o:=h.o,nd:=h.nd,sz:=h.sz }
  intro j bx hj
  by_cases e:j=b
  ·subst e
   simp only at hj
   rw [List.getElem?_set_self hlt] at hj;cases hj
   exact ⟨l,en,c,h1,h2,⟨h3,rfl,rfl⟩,h4⟩
  ·simp only at hj;rw [List.getElem?_set_ne (by omega)] at hj;exact h.box j bx hj
def rangeW (d:D) (s:St) (K:D→St→Prop):Prop :=
 match d with
 | .map b=>match s.boxes[b]? with
  | some (.map es)=>∀ (bs:List Nat) (c:Nat),bs.length=es.length→bs.Nodup→(∀ x ∈ bs,x<c)→K (.box s.boxes.length 0) { s with boxes:=s.boxes.set b (.mapX es bs c)++[.iter b c []] }
  | _=>False
 | _=>False
def nextW (d:D) (s:St) (K:D→St→Prop):Prop :=
 match d with
 | .box i 0=>match s.boxes[i]? with
  | some (.iter mb c seen)=>match s.boxes[mb]? with
   | some (.mapX es bs c')=>c'=c∧(∀ x ∈ bs,x<c)∧(∀ (j:Nat) (h:j<es.length) (h2:j<bs.length),bs[j] ∉ seen→K (.tup [.bool true,es[j].1,es[j].2]) { s with boxes:=s.boxes.set i (.iter mb c (seen++[bs[j]])) }) ∧
     ((∀ x ∈ bs,x ∈ seen)→K (.tup [.bool false]) s)
   | _=>False
  | _=>False
 | _=>False
theorem rangeW_mono {d:D} {s:St} {K K':D→St→Prop} (hK:∀ d s,K d s→K' d s) (h:rangeW d s K):rangeW d s K':=by
 unfold rangeW at *
 split at h
 ·split at h
  ·exact fun bs c h1 h2 h3=>hK _ _ (h bs c h1 h2 h3)
  ·exact h
 ·exact h
theorem nextW_mono {d:D} {s:St} {K K':D→St→Prop} (hK:∀ d s,K d s→K' d s) (h:nextW d s K):nextW d s K':=by
 unfold nextW at *
 split at h
 ·split at h
  ·split at h
   ·exact ⟨h.1,h.2.1,fun j q1 q2 q3=>hK _ _ (h.2.2.1 j q1 q2 q3),fun q=>hK _ _ (h.2.2.2 q)⟩
   ·exact h
  ·exact h
 ·exact h
theorem range_ok {P:Program} {w:World} {g:G} {s:St} {T:TypeId} {d:D} {v:Value} {K K':TypeId} {Z:D→St→Prop} (hT:P.underlying T=some (.map K K')) (h:WRel w g s) (hd:R g d v) (hz:rangeW d s Z) :
  ∃ d' s',Z d' s'∧Ok P (Instr.range T v) w g d' s':=by
 unfold rangeW at hz
 split at hz
 ·rename_i b
  split at hz
  ·rename_i es hb
   obtain ⟨bs,c,h1,h2,h3,hw⟩:=h.mapX hb
   refine ⟨_,_,hz bs c h1 h2 h3,?_⟩
   cases hd with
   | map _ r hB =>
    have hlt:=(List.getElem?_eq_some_iff.1 hb).1
    have hbx:({ s with boxes:=s.boxes.set b (.mapX es bs c) }:St).boxes[b]? = some (.mapX es bs c):=by
     show (s.boxes.set b _)[b]? = _
     rw [List.getElem?_set_self hlt]
    obtain ⟨l,en,c',q1,q2,⟨q3,q4,rfl⟩,q5⟩:=hw.box b _ hbx
    rw [hB] at q1;cases q1
    have hlen:(s.boxes.set b (Box.mapX es bs c')).length=s.boxes.length:=List.length_set ..
    have hn:g.B (s.boxes.set b (Box.mapX es bs c')).length=none:=B_none hw (Nat.le_refl _)
    obtain ⟨k1,k2⟩:=hw.newBox (.mapIter (some r) c' #[] c') rfl (.iter b c' []) ⟨w.heap.size,r,by simp [G.addB],heap_alloc_new _ _,by
     simp only [G.addB];rw [if_neg (by show ¬ b=(s.boxes.set b _).length;rw [hlen];omega)];exact hB⟩
    refine ⟨.pointer (some ⟨w.heap.size,0,none⟩),w.alloc (.mapIter (some r) c' #[] c'),_,?_,k1,k2,?_⟩
    ·simp [Instr.range,run_underlying hT,run_getObj q2,newObj,Sem.run]
    ·have:R (g.addB (s.boxes.set b (Box.mapX es bs c')).length w.heap.size) (.box s.boxes.length 0) (.pointer (some ⟨w.heap.size,0,none⟩)):=.box _ 0 w.heap.size (by simp [G.addB])
     exact this
  ·exact hz.elim
 ·exact hz.elim
theorem filter_old {en:Array MapEntry} {c:Nat} {seen:Array Nat} (h:∀ e ∈ en,e.born<c):((en.filter fun e=>!seen.contains e.born).filter (·.born<c))=en.filter (fun e=>!seen.contains e.born)∧((en.filter fun e=>!seen.contains e.born).filter (·.born ≥ c)) = #[]:=by
 refine ⟨?_,?_⟩
 ·rw [Array.filter_eq_self]
  intro e he
  simpa using h e (Array.mem_filter.1 he).1
 ·rw [Array.filter_eq_empty_iff]
  intro e he
  have:=h e (Array.mem_filter.1 he).1
  simp;omega
theorem run_chooseNext {P:Program} {w:World} {n:Nat} (hn:0<n):∃ (i:Nat) (w1:World),i<n∧(w1=w∨w1=w.drew)∧(choose (.mapNext n)).run P w=.ok i w1:=by
 by_cases h:(Question.mapNext n).forced=true
 ·exact ⟨0,w,hn,.inl rfl,by simp only [choose,Sem.run,if_pos h]⟩
 ·exact ⟨_,w.drew,Nat.mod_lt _ hn,.inr rfl,by simp only [choose,Sem.run,if_neg h];rfl⟩
theorem run_next {P:Program} {w:World} {r m c:Nat} {seen:Array Nat} {en:Array MapEntry} {T:TypeId} (hr:w.heap[r]? = some (.mapIter (some m) c seen c)) (hm:w.heap[m]? = some (.map en c)) (hb:∀ e ∈ en,e.born<c) :
  (∃ (w1:World) (j:Nat) (hj:j<en.size),(w1=w∨w1=w.drew)∧¬ en[j].born ∈ seen ∧
   (Instr.next (.pointer (some ⟨r,0,none⟩)) false T).run P w=.ok (.tuple #[.bool true,en[j].key,en[j].val]) { w1 with heap:=w1.heap.setIfInBounds r (.mapIter (some m) c (seen.push en[j].born) c) }) ∨
  ((∀ e ∈ en,e.born ∈ seen)∧(Instr.next (.pointer (some ⟨r,0,none⟩)) false T).run P w=.ok (.tuple #[.bool false]) w):=by
 obtain ⟨f1,f2⟩:=filter_old (seen:=seen) hb
 have hno:(!seen.isEmpty && !en.isEmpty && en.all (·.born ≥ c))=false:=by
  by_cases he:en.isEmpty=true
  ·simp [he]
  ·have:en.all (·.born ≥ c)=false:=by
    rw [Bool.eq_false_iff]
    intro ha
    have hpos:0<en.size:=by
     rcases Nat.eq_zero_or_pos en.size with q | q
     ·exact absurd (by simpa using q) he
     ·exact q
    have h1:=Array.all_eq_true.1 ha 0 hpos
    have h2:=hb en[0] (Array.getElem_mem hpos)
    simp at h1;omega
   rw [this];simp
 have hg1:(getObj r).run P w=.ok (.mapIter (some m) c seen c) w:=by simp [getObj,Sem.run,hr]
 have hg2:=run_getObj (P:=P) hm
 by_cases hl:(en.filter fun e=>!seen.contains e.born) = #[]
 ·right
  refine ⟨fun e he=>?_,?_⟩
  ·rw [Array.filter_eq_empty_iff] at hl
   have:=hl e he
   simpa using this
  ·simp only [Instr.next,Sem.run_bind,hg1,Result.andThen_ok,hg2,hno,hl]
   simp [Sem.run,choose,Question.forced]
 ·left
  generalize hL:(en.filter fun e=>!seen.contains e.born)=l at f1 f2 hl
  have hpos:0<l.size:=by
   rcases Nat.eq_zero_or_pos l.size with q | q
   ·exact absurd (by simpa using q) hl
   ·exact q
  have hc:((if (l.filter fun x=>decide (x.born<c)).isEmpty=true then #[none] else #[])++Array.map some (l.filter (fun x=>decide (x.born<c))++l.filter fun x=>decide (x.born ≥ c)))=l.map some:=by
   rw [f1,f2]
   have:¬ l.isEmpty=true:=by simpa using hl
   rw [if_neg this];simp
  obtain ⟨i,w1,hi,hw1,hch⟩:=run_chooseNext (P:=P) (w:=w) hpos
  have hei:l[i] ∈ en∧¬ l[i].born ∈ seen:=by
   have hmem:∀ x ∈ l,x ∈ en∧¬ x.born ∈ seen:=fun x hx=>by
    rw [← hL] at hx
    have h2:=Array.mem_filter.1 hx
    exact ⟨h2.1,by simpa using h2.2⟩
   exact hmem _ (Array.getElem_mem hi)
  obtain ⟨j,hj,ej⟩:=Array.getElem_of_mem hei.1
  have hr1:w1.heap[r]? = some (.mapIter (some m) c seen c):=by rcases hw1 with rfl | rfl <;> exact hr
  refine ⟨w1,j,hj,hw1,by rw [ej];exact hei.2,?_⟩
  have hset:∀ o,(setObj r o).run P w1=.ok () { w1 with heap:=w1.heap.setIfInBounds r o }:=fun o=>by simp [setObj,Sem.run,hr1]
  have hget:(l.map some)[i]? = some (some l[i]):=by simp [hi]
  have hsz:(l.map some).size=l.size:=by simp
  have hff:(false=true)=False:=by simp
  simp only [Instr.next,Sem.run_bind,hg1,Result.andThen_ok,hg2,hno,hff,if_false,hL,hc,hsz,hch,hget,hset,ej,Sem.run_pure]
theorem next_ok {P:Program} {w:World} {g:G} {s:St} {T:TypeId} {d:D} {v:Value} {Z:D→St→Prop} (h:WRel w g s) (hd:R g d v) (hz:nextW d s Z) :
  ∃ d' s',Z d' s'∧Ok P (Instr.next v false T) w g d' s':=by
 unfold nextW at hz
 split at hz
 ·rename_i i
  split at hz
  ·rename_i mb c seen hi
   split at hz
   ·rename_i es bs c' hm
    obtain ⟨rfl,hlt,hz1,hz2⟩:=hz
    obtain ⟨r,m,q1,q2,q3⟩:=h.box i _ hi
    obtain ⟨l,en,c2,p1,p2,⟨p3,p4,rfl⟩,p5⟩:=h.box mb _ hm
    rw [q3] at p1;cases p1
    have hv:v=.pointer (some ⟨r,0,none⟩):=by
     cases hd with
     | box _ _ blk hB=>rw [q1] at hB;cases hB;rfl
    subst hv
    have hbn:∀ e ∈ en,e.born<c2:=fun e he=>by
     obtain ⟨j,hj,rfl⟩:=Array.getElem_of_mem he
     exact (p5 j (by omega) hj).2.2.1
    rcases run_next (T:=T) (P:=P) q2 p2 hbn with ⟨w1,j,hj,hw1,hns,hrun⟩ | ⟨hall,hrun⟩
    ·have hW1:WRel w1 g s:=by rcases hw1 with rfl | rfl;exact h;exact h.drew
     have q21:w1.heap[r]? = some (.mapIter (some m) c2 seen.toArray c2):=by rcases hw1 with rfl | rfl <;> exact q2
     have hje:j<es.length:=by omega
     have hjb:j<bs.length:=by rw [p4];simp;exact hj
     have hbj:bs[j]=en[j].born:=by simp [p4]
     have hlr:=lt_of_heap q21
     refine ⟨_,_,hz1 j hje hjb (by rw [hbj];simpa using hns),_,_,g,hrun,.refl g,?_,?_⟩
     ·refine hW1.setObjB ⟨_,hi,by simp⟩ q1 q21 (by simp) (by simp) (by simp) ⟨r,m,q1,?_,q3⟩
      rw [Array.getElem?_setIfInBounds_self,if_pos hlr,hbj]
      simp
     ·have:=p5 j hje hj
      refine .tup _ _ rfl fun k h1 h2=>?_
      match k,h1,h2 with
      | 0,_,_=>exact .bool _
      | 1,_,_=>exact this.1
      | 2,_,_=>exact this.2.1
    ·refine ⟨_,_,hz2 fun x hx=>?_,_,w,g,hrun,.refl g,h,.tup _ _ rfl fun k h1 h2=>?_⟩
     ·rw [p4] at hx
      obtain ⟨e,he,rfl⟩:=List.mem_map.1 hx
      have:=hall e (by simpa using he)
      simpa using this
     ·match k,h1,h2 with
      | 0,_,_=>exact .bool _
   ·exact hz.elim
  ·exact hz.elim
 ·exact hz.elim
def entryW (d:D) (s:St) (K:D→St→Prop):Prop :=
 match d with
 | .box i 0=>match s.boxes[i]? with
  | some (.iter mb c seen)=>match s.boxes[mb]? with
   | some (.mapX es bs c')=>c'=c∧∃ (j:Nat) (h:j<es.length) (h2:j<bs.length),seen.getLast? = some bs[j]∧K (.tup [es[j].1,es[j].2]) s
   | _=>False
  | _=>False
 | _=>False
theorem entryW_mono {d:D} {s:St} {K K':D→St→Prop} (hK:∀ d s,K d s→K' d s) (h:entryW d s K):entryW d s K':=by
 unfold entryW at *
 split at h
 ·split at h
  ·split at h
   ·obtain ⟨h1,j,h2,h3,h4,h5⟩:=h
    exact ⟨h1,j,h2,h3,h4,hK _ _ h5⟩
   ·exact h
  ·exact h
 ·exact h
theorem find_born {b:Nat}:∀ (l:List MapEntry) (j:Nat) (hj:j<l.length),l[j].born=b→(∀ (k:Nat) (h:k<l.length),l[k].born=b→k=j)→l.find? (fun e=>e.born == b)=some l[j]
 | [],j,hj,_,_=>by simp at hj
 | x::l,0,_,h1,_=>by
  have:(x.born == b)=true:=by simpa using h1
  rw [List.find?_cons,this];rfl
 | x::l,j+1,hj,h1,h2=>by
  have:(x.born == b)=false:=by
   rw [Bool.eq_false_iff]
   intro e
   have:=h2 0 (by simp) (by simpa using e)
   omega
  rw [List.find?_cons,this]
  exact find_born l j (by simpa using hj) (by simpa using h1) fun k hk e=>by
   have:=h2 (k+1) (by simpa using hk) (by simpa using e)
   omega
theorem entry_ok {P:Program} {w:World} {g:G} {s:St} {d:D} {v:Value} {Z:D→St→Prop} (h:WRel w g s) (hd:R g d v) (hz:entryW d s Z) :
  ∃ d' s',Z d' s'∧Ok P (Instr.entry v) w g d' s':=by
 unfold entryW at hz
 split at hz
 ·rename_i i
  split at hz
  ·rename_i mb c seen hi
   split at hz
   ·rename_i es bs c' hm
    obtain ⟨rfl,j,hje,hjb,hl,hz⟩:=hz
    obtain ⟨r,m,q1,q2,q3⟩:=h.box i _ hi
    obtain ⟨l,en,c2,p1,p2,⟨p3,p4,rfl⟩,p5⟩:=h.box mb _ hm
    rw [q3] at p1;cases p1
    have hv:v=.pointer (some ⟨r,0,none⟩):=by
     cases hd with
     | box _ _ blk hB=>rw [q1] at hB;cases hB;rfl
    subst hv
    have hj:j<en.size:=by omega
    have hbj:bs[j]=en[j].born:=by simp [p4]
    have hb:seen.toArray.back? = some en[j].born:=by rw [← hbj,← hl];simp
    have hf:en.find? (fun e=>e.born == en[j].born)=some en[j]:=by
     rw [← Array.find?_toList]
     have:=find_born (b:=en[j].born) en.toList j (by simpa using hj) (by simp) fun k hk e=>by
      have hk':k<en.size:=by simpa using hk
      exact (p5 j hje hj).2.2.2 k hk' (by simpa using e)
     simpa using this
    refine ⟨_,_,hz,.tuple #[en[j].key,en[j].val],w,g,?_,.refl g,h,.tup _ _ rfl fun k h1 h2=>?_⟩
    ·have g1:(getObj r).run P w=.ok (.mapIter (some m) c2 seen.toArray c2) w:=by simp [getObj,Sem.run,q2]
     have g2:=run_getObj (P:=P) p2
     simp only [Instr.entry,Sem.run_bind,g1,Result.andThen_ok,hb,g2]
     have hne:(c2 != c2)=false:=by simp
     simp only [hne,hf]
     rfl
    ·have:=p5 j hje hj
     match k,h1,h2 with
     | 0,_,_=>exact this.1
     | 1,_,_=>exact this.2.1
   ·exact hz.elim
  ·exact hz.elim
 ·exact hz.elim
def optW (x:Option (D × St)) (K:D→St→Prop):Prop :=
 match x with
 | some (d,s)=>K d s
 | none=>False
theorem optW_iff {x:Option (D × St)} {K:D→St→Prop}:optW x K ↔ ∃ d s,x=some (d,s)∧K d s:=by
 unfold optW;split
 ·rename_i d s;exact ⟨fun h=>⟨d,s,rfl,h⟩,fun ⟨d',s',e,h⟩=>by cases e;exact h⟩
 ·exact ⟨fun h=>h.elim,fun ⟨_,_,e,_⟩=>by cases e⟩
def callW (P:Program) (f:D) (args:List D) (s:St) (K:D→St→Prop):Prop:=∃ d s',CallV P f args s d s'∧K d s'
def ifB (c:D) (x y:Prop):Prop :=
 match c with
 | .bool true=>x
 | .bool false=>y
 | _=>False
def stepW (P:Program) (op:Op) (ρ:Operand→D) (s:St) (K:D→St→Prop):Prop :=
 match op with
 | .call { callee:=.value f,args,argTypes:=_ }=>callW P (ρ f) (argsOf ρ args) s K
 | op=>optW (evalOp P ρ s op) K
theorem stepW_ok {P:Program} {o:Oper} {ρ:Operand→D} {s:St} {K:D→St→Prop} (h:stepW P o.op ρ s K):∃ d s',Step P o ρ s d s'∧K d s':=by
 unfold stepW at h
 split at h
 ·rename_i f args ts he
  obtain ⟨d,s',h1,h2⟩:=h
  exact ⟨d,s',.inr ⟨f,args,ts,he,h1⟩,h2⟩
 ·obtain ⟨d,s',h1,h2⟩:=optW_iff.1 h
  exact ⟨d,s',.inl h1,h2⟩
def gdD (b:Bool):D→D
 | .tup []=>.bool (!b)
 | d=>d
def guardOf (full:List Oper) (g:Option (Nat × Bool)):Option (Option (Nat × Bool)) :=
 match g with
 | none=>some none
 | some (j,b)=>match full[j]? with
  | some p=>match p.dst with
   | some t=>some (some (t,b))
   | none=>none
  | none=>none
def runOps (P:Program) (full:List Oper):List Oper→List D→St→(List D→St→Prop)→Prop
 | [],e,s,K=>K e s
 | o::os,e,s,K =>
  match guardOf full o.guard with
  | some none=>stepW P o.op (val e) s fun d s'=>runOps P full os (putD e o.dst d) s' K
  | some (some (t,true))=>ifB (gdD true (e.getD t .junk)) (stepW P o.op (val e) s fun d s'=>runOps P full os (putD e o.dst d) s' K) (runOps P full os (putD e o.dst (.tup [])) s K)
  | some (some (t,false))=>ifB (gdD false (e.getD t .junk)) (runOps P full os (putD e o.dst (.tup [])) s K) (stepW P o.op (val e) s fun d s'=>runOps P full os (putD e o.dst d) s' K)
  | none=>False
def plainExit:Exit→Prop
 | .normal=>True
 | .exit _=>True
 | .ret=>True
 | _=>False
def conc (O0:Nat→Prop) (g:G) (Q:Exit→List D→St→Prop):Exit→Act→World→Prop:=fun x a' w'=>plainExit x∧∃ e' s' g',g.le g'∧ARel O0 a' w' g' e' s'∧Q x e' s'
def AWp (ro:Option Nat) (P:Program) (c:Code) (Q:Exit→List D→St→Prop) (e:List D) (s:St):Prop :=
 ∀ O0 a w g,ARel O0 a w g e s→c.wpIn (W ro) 0 P (conc O0 g Q) a w
theorem conc_mono {O0:Nat→Prop} {g g':G} {Q Q':Exit→List D→St→Prop} (hg:g.le g') (hQ:∀ x e s,Q x e s→Q' x e s) {x:Exit} {a:Act} {w:World} (h:conc O0 g' Q x a w):conc O0 g Q' x a w:=by
 obtain ⟨hx,e',s',g'',h1,h2,h3⟩:=h
 exact ⟨hx,e',s',g'',hg.trans h1,h2,hQ _ _ _ h3⟩
theorem AWp.mono {ro:Option Nat} {P:Program} {c:Code} {Q Q':Exit→List D→St→Prop} {e:List D} {s:St} (h:AWp ro P c Q e s) (hQ:∀ x e s,Q x e s→Q' x e s):AWp ro P c Q' e s :=
 fun O0 a w g ha=>wpIn_mono (h O0 a w g ha) fun _ _ _ hc=>conc_mono (.refl g) hQ hc
theorem ARel.step {O0:Nat→Prop} {a:Act} {w w':World} {g g':G} {e:List D} {s s':St} (h:ARel O0 a w g e s) (hg:g.le g') (hw:WRel w' g' s') (dst:Option Tmp) {d:D} {v:Value} (hd:R g' d v) :
  ARel O0 (a.put dst v) w' g' (putD e dst d) s':=by
 obtain ⟨is,h1,h2,h3⟩:=h.df
 refine ⟨(h.env.mono hg).put dst hd,hw,fun b hb=>hg.O b (h.sub b hb),is,h1,fun i hi=>⟨hg.O i (h2 i hi).1,(h2 i hi).2⟩,?_⟩
 have:(a.put dst v).defers=a.defers:=by cases dst <;> rfl
 rw [this,h3]
theorem ARel.mono {O0:Nat→Prop} {a:Act} {w:World} {g:G} {e:List D} {s:St} (h:ARel O0 a w g e s):ARel O0 a w.drew g e s:=⟨h.env,h.wr.drew,h.sub,h.df⟩
theorem guard_yield {full:Array Oper} {a:Act} {g:G} {e:List D} {j t:Nat} {want b:Bool} {p:Oper} (he:EnvRel g e a.tmps) (hj:full.toList[j]? = some p) (hd:p.dst=some t) (hb:e.getD t .junk=.bool b) :
  yielded full a.tmps j=some b:=by
 have ht:t<e.length:=by
  rcases Nat.lt_or_ge t e.length with q | q
  ·exact q
  ·simp [List.getD,List.getElem?_eq_none q] at hb
 have ht':t<a.tmps.size:=he.1 ▸ ht
 have hR:=he.2 t ht ht'
 simp only [List.getD,List.getElem?_eq_getElem ht,Option.getD_some] at hb
 rw [hb] at hR
 have hj':full[j]? = some p:=by simpa using hj
 unfold yielded
 simp only [hj',Option.bind_some,hd]
 rw [Array.getElem?_eq_getElem ht']
 cases hv:a.tmps[t] <;> rw [hv] at hR <;> cases hR
 rfl
theorem gdD_bool {b c:Bool} {v:D} (h:gdD b v=.bool c):v=.bool c∨(v=.tup []∧c = !b):=by
 unfold gdD at h
 split at h
 ·right;cases h;exact ⟨rfl,rfl⟩
 ·left;exact h
theorem guard_skip {full:Array Oper} {a:Act} {g:G} {e:List D} {j t:Nat} {p:Oper} (he:EnvRel g e a.tmps) (hj:full.toList[j]? = some p) (hd:p.dst=some t) (hb:e.getD t .junk=.tup []) :
  yielded full a.tmps j=none:=by
 have ht:t<e.length:=by
  rcases Nat.lt_or_ge t e.length with q | q
  ·exact q
  ·simp [List.getD,List.getElem?_eq_none q] at hb
 have ht':t<a.tmps.size:=he.1 ▸ ht
 have hR:=he.2 t ht ht'
 simp only [List.getD,List.getElem?_eq_getElem ht,Option.getD_some] at hb
 rw [hb] at hR
 have hj':full[j]? = some p:=by simpa using hj
 unfold yielded
 simp only [hj',Option.bind_some,hd]
 rw [Array.getElem?_eq_getElem ht']
 cases hv:a.tmps[t] <;> rw [hv] at hR <;> cases hR <;> rfl
theorem guard_test {full:Array Oper} {a:Act} {g:G} {e:List D} {j t:Nat} {b c:Bool} {p:Oper} (he:EnvRel g e a.tmps) (hj:full.toList[j]? = some p) (hd:p.dst=some t) (hb:gdD b (e.getD t .junk)=.bool c) :
  (yielded full a.tmps j == some b)=(c == b):=by
 rcases gdD_bool hb with h | ⟨h,rfl⟩
 ·rw [guard_yield (want:=b) he hj hd h];rfl
 ·rw [guard_skip he hj hd h];cases b <;> rfl
theorem runOps_ok {P:Program} {ro:Option Nat} {full:Array Oper} {K:List D→St→Prop} {O0:Nat→Prop} {Q:Exit→Act→World→Prop} :
  ∀ (l:List Nat) (os:List Oper),l.length=os.length→(∀ (i:Nat) (h1:i<l.length) (h2:i<os.length),full[l[i]]? = some os[i])→∀ (e:List D) (s:St) (a:Act) (w:World) (g:G),ARel O0 a w g e s→runOps P full.toList os e s K →
   (∀ a' w' g' e' s',g.le g'→ARel O0 a' w' g' e' s'→K e' s'→Q .normal a' w')→wpOpsIn (W ro) 0 P full Q l a w:=by
 intro l
 induction l with
 | nil =>
  intro os hl _ e s a w g ha h hK
  cases os with
  | nil=>exact hK a w g e s (.refl g) ha h
  | cons o os=>simp at hl
 | cons i l ih =>
  intro os hl hget e s a w g ha h hK
  cases os with
  | nil=>simp at hl
  | cons o os =>
   have hi:full[i]? = some o:=hget 0 (by simp) (by simp)
   have hrest:=ih os (by simpa using hl) (fun j h1 h2=>hget (j+1) (by simpa using h1) (by simpa using h2))
   have hstep:stepW P o.op (val e) s (fun d s'=>runOps P full.toList os (putD e o.dst d) s' K)→o.wpIn (W ro) 0 P a w (wpOpsIn (W ro) 0 P full Q l) Q:=by
    intro hs
    obtain ⟨d,s',h1,h2⟩:=stepW_ok hs
    refine step_ok h1 (fun x _=>val_ok ha.env x) ha.wr fun v w' g' hle hw' hv=>?_
    exact hrest _ s' _ w' g' (ha.step hle hw' o.dst hv) h2 fun a' w'' g'' e' s'' hle' ha' hk=>hK a' w'' g'' e' s'' (hle.trans hle') ha' hk
   have hskip:runOps P full.toList os (putD e o.dst (.tup [])) s K→wpOpsIn (W ro) 0 P full Q l (a.put o.dst undef) w:=fun hs =>
    hrest _ s _ w g (ha.step (.refl g) ha.wr o.dst (.tup [] #[] rfl (fun i h1=>by simp at h1))) hs hK
   simp only [wpOpsIn,hi]
   simp only [runOps] at h
   cases hg:o.guard with
   | none =>
    rw [hg] at h
    simp only [guardOf] at h
    simp only [Region.wanted,hg,if_true]
    exact hstep h
   | some jb =>
    obtain ⟨j,b⟩:=jb
    rw [hg] at h
    simp only [guardOf] at h
    cases hj:full.toList[j]? with
    | none=>rw [hj] at h;exact h.elim
    | some p =>
     rw [hj] at h
     cases hd:p.dst with
     | none=>simp only [hd] at h
     | some t =>
      simp only [hd] at h
      have key:∀ c,gdD b (e.getD t .junk)=.bool c→(yielded full a.tmps j == some b)=(c == b):=fun c hc=>guard_test ha.env hj hd hc
      simp only [Region.wanted,hg]
      cases b with
      | true =>
       simp only [ifB] at h
       split at h
       ·rename_i hc;rw [key _ hc];exact hstep h
       ·rename_i hc;rw [key _ hc];exact ⟨fun _ _=>trivial,hskip h⟩
       ·exact h.elim
      | false =>
       simp only [ifB] at h
       split at h
       ·rename_i hc;rw [key _ hc];exact ⟨fun _ _=>trivial,hskip h⟩
       ·rename_i hc;rw [key _ hc];exact hstep h
       ·exact h.elim
def callN (P:Program) (f:D) (args:List D) (s:St) (K:D→St→Prop):Prop:=CallVQ P f args s K
def stepN (P:Program) (op:Op) (ρ:Operand→D) (s:St) (K:D→St→Prop):Prop :=
 match op with
 | .call { callee:=.value f,args,argTypes:=_ }=>callN P (ρ f) (argsOf ρ args) s K
 | .range T x=>match P.underlying T with
  | some (.map _ _)=>rangeW (ρ x) s K
  | _=>False
 | .next x false=>nextW (ρ x) s K
 | .entry x=>entryW (ρ x) s K
 | op=>optW (evalOp P ρ s op) K
theorem stepN_ok {P:Program} {ro:Option Nat} {o:Oper} {ρ:Operand→D} {s:St} {Z:D→St→Prop} {a:Act} {w:World} {g:G} {K:Act→World→Prop} {Q:Exit→Act→World→Prop}
  (h:stepN P o.op ρ s Z) (hρ:∀ x ∈ o.op.operands,R g (ρ x) (a.eval x)) (hw:WRel w g s)
  (hK:∀ d s' v w' g',Z d s'→g.le g'→WRel w' g' s'→R g' d v→K (a.put o.dst v) w'):o.wpIn (W ro) 0 P a w K Q:=by
 unfold stepN at h
 split at h
 ·rename_i f args ts he
  exact call_ok he h hρ hw hK
 ·rename_i T x he
  split at h
  ·rename_i K1 K2 hT
   obtain ⟨d',s',hz,v,w',g',h1,h2,h3,h4⟩:=range_ok hT hw (hρ x (by rw [he];simp [Op.operands])) h
   refine wpIn_ok (m:=.value v) (w':=w') ?_ (by intro c;rw [he];simp) (hK d' s' v w' g' hz h2 h3 h4)
   simp only [execOp,he,Sem.run_bind,h1,Result.andThen_ok,Sem.run_pure]
  ·exact h.elim
 ·rename_i x he
  obtain ⟨d',s',hz,v,w',g',h1,h2,h3,h4⟩:=next_ok (P:=P) (T:=o.type) hw (hρ x (by rw [he];simp [Op.operands])) h
  refine wpIn_ok (m:=.value v) (w':=w') ?_ (by intro c;rw [he];simp) (hK d' s' v w' g' hz h2 h3 h4)
  simp only [execOp,he,Sem.run_bind,h1,Result.andThen_ok,Sem.run_pure]
 ·rename_i x he
  obtain ⟨d',s',hz,v,w',g',h1,h2,h3,h4⟩:=entry_ok (P:=P) hw (hρ x (by rw [he];simp [Op.operands])) h
  refine wpIn_ok (m:=.value v) (w':=w') ?_ (by intro c;rw [he];simp) (hK d' s' v w' g' hz h2 h3 h4)
  simp only [execOp,he,Sem.run_bind,h1,Result.andThen_ok,Sem.run_pure]
 ·obtain ⟨d,s',h1,h2⟩:=optW_iff.1 h
  exact step_ok (.inl h1) hρ hw fun v w' g'=>hK d s' v w' g' h2
theorem stepN_mono {P:Program} {op:Op} {ρ:Operand→D} {s:St} {K K':D→St→Prop} (h:stepN P op ρ s K) (hK:∀ d s',K d s'→K' d s'):stepN P op ρ s K':=by
 unfold stepN at h ⊢
 split at h
 ·exact CallVQ.mono h hK
 ·split at h
  ·exact rangeW_mono hK h
  ·exact h.elim
 ·exact nextW_mono hK h
 ·exact entryW_mono hK h
 ·obtain ⟨d,s',h1,h2⟩:=optW_iff.1 h;exact optW_iff.2 ⟨d,s',h1,hK _ _ h2⟩
def runN (P:Program) (full:List Oper):List Oper→List D→St→(List D→St→Prop)→Prop
 | [],e,s,K=>K e s
 | o::os,e,s,K =>
  match guardOf full o.guard with
  | some none=>stepN P o.op (val e) s fun d s'=>runN P full os (putD e o.dst d) s' K
  | some (some (t,true))=>ifB (gdD true (e.getD t .junk)) (stepN P o.op (val e) s fun d s'=>runN P full os (putD e o.dst d) s' K) (runN P full os (putD e o.dst (.tup [])) s K)
  | some (some (t,false))=>ifB (gdD false (e.getD t .junk)) (runN P full os (putD e o.dst (.tup [])) s K) (stepN P o.op (val e) s fun d s'=>runN P full os (putD e o.dst d) s' K)
  | none=>False
theorem runN_ok {P:Program} {ro:Option Nat} {full:Array Oper} {K:List D→St→Prop} {O0:Nat→Prop} {Q:Exit→Act→World→Prop} :
  ∀ (l:List Nat) (os:List Oper),l.length=os.length→(∀ (i:Nat) (h1:i<l.length) (h2:i<os.length),full[l[i]]? = some os[i])→∀ (e:List D) (s:St) (a:Act) (w:World) (g:G),ARel O0 a w g e s→runN P full.toList os e s K →
   (∀ a' w' g' e' s',g.le g'→ARel O0 a' w' g' e' s'→K e' s'→Q .normal a' w')→wpOpsIn (W ro) 0 P full Q l a w:=by
 intro l
 induction l with
 | nil =>
  intro os hl _ e s a w g ha h hK
  cases os with
  | nil=>exact hK a w g e s (.refl g) ha h
  | cons o os=>simp at hl
 | cons i l ih =>
  intro os hl hget e s a w g ha h hK
  cases os with
  | nil=>simp at hl
  | cons o os =>
   have hi:full[i]? = some o:=hget 0 (by simp) (by simp)
   have hrest:=ih os (by simpa using hl) (fun j h1 h2=>hget (j+1) (by simpa using h1) (by simpa using h2))
   have hstep:stepN P o.op (val e) s (fun d s'=>runN P full.toList os (putD e o.dst d) s' K)→o.wpIn (W ro) 0 P a w (wpOpsIn (W ro) 0 P full Q l) Q:=by
    intro hs
    refine stepN_ok hs (fun x _=>val_ok ha.env x) ha.wr fun d s' v w' g' h2 hle hw' hv=>?_
    exact hrest _ s' _ w' g' (ha.step hle hw' o.dst hv) h2 fun a' w'' g'' e' s'' hle' ha' hk=>hK a' w'' g'' e' s'' (hle.trans hle') ha' hk
   have hskip:runN P full.toList os (putD e o.dst (.tup [])) s K→wpOpsIn (W ro) 0 P full Q l (a.put o.dst undef) w:=fun hs =>
    hrest _ s _ w g (ha.step (.refl g) ha.wr o.dst (.tup [] #[] rfl (fun i h1=>by simp at h1))) hs hK
   simp only [wpOpsIn,hi]
   simp only [runN] at h
   cases hg:o.guard with
   | none =>
    rw [hg] at h
    simp only [guardOf] at h
    simp only [Region.wanted,hg,if_true]
    exact hstep h
   | some jb =>
    obtain ⟨j,b⟩:=jb
    rw [hg] at h
    simp only [guardOf] at h
    cases hj:full.toList[j]? with
    | none=>rw [hj] at h;exact h.elim
    | some p =>
     rw [hj] at h
     cases hd:p.dst with
     | none=>simp only [hd] at h
     | some t =>
      simp only [hd] at h
      have key:∀ c,gdD b (e.getD t .junk)=.bool c→(yielded full a.tmps j == some b)=(c == b):=fun c hc=>guard_test ha.env hj hd hc
      simp only [Region.wanted,hg]
      cases b with
      | true =>
       simp only [ifB] at h
       split at h
       ·rename_i hc;rw [key _ hc];exact hstep h
       ·rename_i hc;rw [key _ hc];exact ⟨fun _ _=>trivial,hskip h⟩
       ·exact h.elim
      | false =>
       simp only [ifB] at h
       split at h
       ·rename_i hc;rw [key _ hc];exact ⟨fun _ _=>trivial,hskip h⟩
       ·rename_i hc;rw [key _ hc];exact hstep h
       ·exact h.elim
def thenQ (K:List D→St→Prop) (Q:Exit→List D→St→Prop):Exit→List D→St→Prop
 | .normal,e,s=>K e s
 | x,e,s=>Q x e s
def blockQ (id:Nat) (Q:Exit→List D→St→Prop):Exit→List D→St→Prop
 | .exit id',e,s=>if id'=id then Q .normal e s else Q (.exit id') e s
 | x,e,s=>Q x e s
theorem awp_regionN {ro:Option Nat} {P:Program} {id:Nat} {ops:Array Oper} {Q:Exit→List D→St→Prop} {e:List D} {s:St} (h:runN P ops.toList ops.toList e s (Q .normal)):AWp ro P (.region id ops false) Q e s:=by
 intro O0 a w g ha
 refine wpIn_region (runN_ok (O0:=O0) (List.range ops.size) ops.toList (by simp) (fun i h1 h2=>by simp) e s a w g ha h fun a' w' g' e' s' hle ha' hk=>⟨trivial,e',s',g',hle,ha',hk⟩)
theorem awp_region {ro:Option Nat} {P:Program} {id:Nat} {ops:Array Oper} {Q:Exit→List D→St→Prop} {e:List D} {s:St} (h:runOps P ops.toList ops.toList e s (Q .normal)):AWp ro P (.region id ops false) Q e s:=by
 intro O0 a w g ha
 refine wpIn_region (runOps_ok (O0:=O0) (List.range ops.size) ops.toList (by simp) (fun i h1 h2=>by simp) e s a w g ha h fun a' w' g' e' s' hle ha' hk=>⟨trivial,e',s',g',hle,ha',hk⟩)
theorem awp_seq {ro:Option Nat} {P:Program} {x y:Code} {Q:Exit→List D→St→Prop} {e:List D} {s:St} (h:AWp ro P x (thenQ (AWp ro P y Q) Q) e s):AWp ro P (.seq x y) Q e s:=by
 intro O0 a w g ha
 refine wpIn_seq (wpIn_mono (h O0 a w g ha) fun x' a' w' hc=>?_)
 obtain ⟨hx,e',s',g',hle,ha',hq⟩:=hc
 cases x' <;> first
  | exact hx.elim
  | exact wpIn_mono (hq O0 a' w' g' ha') fun _ _ _ hc=>conc_mono hle (fun _ _ _ h=>h) hc
  | exact ⟨hx,e',s',g',hle,ha',hq⟩
theorem awp_cond {ro:Option Nat} {P:Program} {c:Operand} {x y:Code} {Q:Exit→List D→St→Prop} {e:List D} {s:St} (h:ifB (val e c) (AWp ro P x Q e s) (AWp ro P y Q e s)):AWp ro P (.cond c x y) Q e s:=by
 intro O0 a w g ha
 have hc:=val_ok ha.env c
 unfold ifB at h
 split at h
 ·rename_i hv;rw [hv] at hc
  cases hcc:a.eval c <;> rw [hcc] at hc <;> cases hc
  exact wpIn_cond (t:=true) hcc (h O0 a w g ha)
 ·rename_i hv;rw [hv] at hc
  cases hcc:a.eval c <;> rw [hcc] at hc <;> cases hc
  exact wpIn_cond (t:=false) hcc (h O0 a w g ha)
 ·exact h.elim
theorem awp_block {ro:Option Nat} {P:Program} {id:Nat} {c:Code} {Q:Exit→List D→St→Prop} {e:List D} {s:St} (h:AWp ro P c (blockQ id Q) e s):AWp ro P (.block id c) Q e s:=by
 intro O0 a w g ha
 refine wpIn_block (wpIn_mono (h O0 a w g ha) fun x' a' w' hc=>?_)
 obtain ⟨hx,e',s',g',hle,ha',hq⟩:=hc
 cases x' with
 | exit id' =>
  simp only [blockQ] at hq
  simp only [Exit.inBlock]
  split
  ·rename_i he;rw [if_pos he] at hq;exact ⟨trivial,e',s',g',hle,ha',hq⟩
  ·rename_i he;rw [if_neg he] at hq;exact ⟨trivial,e',s',g',hle,ha',hq⟩
 | _=>exact ⟨hx,e',s',g',hle,ha',hq⟩
theorem awp_skip {ro:Option Nat} {P:Program} {Q:Exit→List D→St→Prop} {e:List D} {s:St} (h:Q .normal e s):AWp ro P .skip Q e s :=
 fun O0 a w g ha=>wpIn_skip ⟨trivial,e,s,g,.refl g,ha,h⟩
theorem awp_label {ro:Option Nat} {P:Program} {l:Nat} {Q:Exit→List D→St→Prop} {e:List D} {s:St} (h:Q .normal e s):AWp ro P (.label l) Q e s :=
 fun O0 a w g ha=>wpIn_label ⟨trivial,e,s,g,.refl g,ha,h⟩
theorem awp_exit {ro:Option Nat} {P:Program} {id:Nat} {Q:Exit→List D→St→Prop} {e:List D} {s:St} (h:Q (.exit id) e s):AWp ro P (.exit id) Q e s :=
 fun O0 a w g ha=>wpIn_exit ⟨trivial,e,s,g,.refl g,ha,h⟩
theorem awp_ret {ro:Option Nat} {P:Program} {Q:Exit→List D→St→Prop} {e:List D} {s:St} (h:Q .ret e s):AWp ro P .ret Q e s :=
 fun O0 a w g ha=>wpIn_ret ⟨trivial,e,s,g,.refl g,ha,h⟩
theorem exitTo_length {id:Nat}:∀ {k k':List Item},exitTo id k=some k'→k'.length≤k.length:=by
  intro k
  induction k with
  | nil=>intro k' h;simp [exitTo] at h
  | cons x k ih =>
    intro k' h
    cases x <;> simp only [exitTo] at h <;> first
      | (have:=ih h;simp;omega)
      | (split at h
         · cases h;simp
         · have:=ih h;simp;omega)
theorem stepsIn_other {I:Machine→Prop} {P:Program} {m1 m2 m' t:Machine} (h1:step P m1=.next m') (h2:step P m2=.next m') (hI:I m2) (h:StepsIn I P m1 t) (hne:m1≠t):StepsIn I P m2 t:=by
 cases h with
 | refl=>exact absurd rfl hne
 | head hi hs ht =>
  rw [h1] at hs;cases hs
  exact .head hI h2 ht
theorem lone_todo {fr fr':Frame} {cs cs':List Frame} {w w':World} (h:lone fr cs w=lone fr' cs' w'):fr=fr':=by
 have:(lone fr cs w).gs=(lone fr' cs' w').gs:=by rw [h]
 simp [lone] at this
 exact this.1
theorem wpIn_unroll {ro:Option Nat} {P:Program} {c:Code} {Q:Exit→Act→World→Prop} {a:Act} {w:World} (hQ:∀ x a w,Q x a w→plainExit x)
  (h:c.wpIn (W ro) 0 P (Exit.then ((Code.loop c).wpIn (W ro) 0 P Q) Q) a w):(Code.loop c).wpIn (W ro) 0 P Q a w:=by
 intro b k cs hro hb hr
 obtain ⟨e,a₁,w₁,hq,harr⟩:=h b (.inLoop c::k) cs hro hb hr
 have hl:∀ a w,step P (lone (b.atR a (.code (.loop c)::k)) cs w)=.next (lone (b.atR a (.code c::.inLoop c::k)) cs w):=fun a w=>stepR_loop
 have hil:∀ a w,step P (lone (b.atR a (.inLoop c::k)) cs w)=.next (lone (b.atR a (.code c::.inLoop c::k)) cs w):=fun a w=>stepR_inLoop
 have hf:∀ m,Machine.fenced P (W ro) m:=fun m=>by
  have:=fenced_wide P m
  exact this
 cases e with
 | normal =>
  obtain ⟨e₂,a₂,w₂,hq₂,harr₂⟩:=hq b k cs hro hb hr
  refine ⟨e₂,a₂,w₂,hq₂,?_⟩
  have hpl:=hQ _ _ _ hq₂
  have s0:StepsIn (Machine.fenced P (W ro)) P (lone (b.atR a (.code (.loop c)::k)) cs w) (lone (b.atR a₁ (.inLoop c::k)) cs w₁):=.head (hf _) (hl a w) harr
  have key:∀ t,StepsIn (Machine.fenced P (W ro)) P (lone (b.atR a₁ (.code (.loop c)::k)) cs w₁) t→lone (b.atR a₁ (.code (.loop c)::k)) cs w₁≠t→StepsIn (Machine.fenced P (W ro)) P (lone (b.atR a (.code (.loop c)::k)) cs w) t:=fun t ht hne =>
   s0.trans (stepsIn_other (hl a₁ w₁) (hil a₁ w₁) (hf _) ht hne)
  have ne_todo:∀ a' w' todo,todo≠.code (.loop c)::k→lone (b.atR a₁ (.code (.loop c)::k)) cs w₁≠lone (b.atR a' todo) cs w':=by
   intro a' w' todo hne he
   have:=lone_todo he
   have h2:(b.atR a₁ (.code (.loop c)::k)).todo=(b.atR a' todo).todo:=by rw [this]
   exact hne (by simpa [Frame.atR] using h2.symm)
  cases e₂ with
  | normal=>exact key _ harr₂ (ne_todo _ _ _ (fun e=>by have:=congrArg List.length e;simp at this))
  | exit id =>
   refine ⟨fun k' hk=>key _ (harr₂.1 k' hk) (ne_todo _ _ _ (fun e=>by have:=congrArg List.length e;have:=exitTo_length hk;simp at *;omega)),fun hr' hk=>?_⟩
   obtain ⟨k₁,h1,h2⟩:=harr₂.2 hr' hk
   exact ⟨k₁,h1,key _ h2 (ne_todo _ _ _ (by simp))⟩
  | ret =>
   refine ⟨fun hr'=>?_,fun hr'=>?_⟩
   ·obtain ⟨todo,hs⟩:=harr₂.1 hr'
    refine ⟨todo,key _ hs fun he=>?_⟩
    have:=lone_todo he
    have h2:(b.atR a₁ (.code (.loop c)::k)).mode=FrameMode.returning:=by rw [this]
    simp [Frame.atR] at h2
   ·obtain ⟨k₁,h2⟩:=harr₂.2 hr'
    exact ⟨k₁,key _ h2 (ne_todo _ _ _ (by simp))⟩
  | goto l=>exact hpl.elim
  | panic ch=>exact hpl.elim
  | outgrown=>exact hpl.elim
 | exit id=>exact ⟨_,a₁,w₁,hq,.of_steps (.one (hf _) (hl a w)) (.pass (x:=.inLoop c) rfl (fun _ _=>.inl (by simp)) harr)⟩
 | goto l=>exact ⟨_,a₁,w₁,hq,.of_steps (.one (hf _) (hl a w)) (.pass (x:=.inLoop c) rfl (fun _ _=>.inl (by simp)) harr)⟩
 | ret=>exact ⟨_,a₁,w₁,hq,.of_steps (.one (hf _) (hl a w)) (.pass (x:=.inLoop c) rfl (fun _ _=>.inl (by simp)) harr)⟩
 | panic ch=>exact ⟨_,a₁,w₁,hq,.of_steps (.one (hf _) (hl a w)) (.pass (x:=.inLoop c) rfl (fun _ _=>.inl (by simp)) harr)⟩
 | outgrown=>exact ⟨_,a₁,w₁,hq,.of_steps (.one (hf _) (hl a w)) (.pass (x:=.inLoop c) rfl (fun _ _=>.inl (by simp)) harr)⟩
theorem awp_loop {ro:Option Nat} {P:Program} {c:Code} {Q:Exit→List D→St→Prop} {e:List D} {s:St} (h:AWp ro P c (thenQ (AWp ro P (.loop c) Q) Q) e s):AWp ro P (.loop c) Q e s:=by
 intro O0 a w g ha
 refine wpIn_unroll (fun x a w h=>h.1) (wpIn_mono (h O0 a w g ha) fun x' a' w' hc=>?_)
 obtain ⟨hx,e',s',g',hle,ha',hq⟩:=hc
 cases x' <;> first
  | exact hx.elim
  | exact wpIn_mono (hq O0 a' w' g' ha') fun _ _ _ hc=>conc_mono hle (fun _ _ _ h=>h) hc
  | exact ⟨hx,e',s',g',hle,ha',hq⟩
def weakD:D→D→Prop:=fun d d'=>∀ g v,R g d v→R g d' v
theorem awp_weak {ro:Option Nat} {P:Program} {c:Code} {Q:Exit→List D→St→Prop} {e e':List D} {s:St} (h:AWp ro P c Q e' s) (hl:e.length=e'.length) (hw:∀ (i:Nat) (h1:i<e.length) (h2:i<e'.length),weakD e[i] e'[i]):AWp ro P c Q e s:=by
 intro O0 a w g ha
 exact h O0 a w g ⟨⟨by rw [← hl];exact ha.env.1,fun i h1 h2=>hw i (by omega) h1 g _ (ha.env.2 i (by omega) h2)⟩,ha.wr,ha.sub,ha.df⟩
def keep (ks:List Nat) (e:List D):List D:=e.zipIdx.map fun (d,i)=>if ks.contains i then d else .junk
theorem awp_keep {ro:Option Nat} {P:Program} {c:Code} {Q:Exit→List D→St→Prop} {e:List D} {s:St} (ks:List Nat) (h:AWp ro P c Q (keep ks e) s):AWp ro P c Q e s:=by
 refine awp_weak h (by simp [keep]) fun i h1 h2 g v hv=>?_
 simp only [keep,List.getElem_map,List.getElem_zipIdx]
 split
 ·simpa using hv
 ·exact .junk _
def cw (ro:Option Nat) (P:Program):Code→(Exit→List D→St→Prop)→List D→St→Prop
 | .skip,Q,e,s=>Q .normal e s
 | .label _,Q,e,s=>Q .normal e s
 | .exit id,Q,e,s=>Q (.exit id) e s
 | .ret,Q,e,s=>Q .ret e s
 | .seq a b,Q,e,s=>cw ro P a (thenQ (cw ro P b Q) Q) e s
 | .cond c a b,Q,e,s=>ifB (val e c) (cw ro P a Q e s) (cw ro P b Q e s)
 | .block id b,Q,e,s=>cw ro P b (blockQ id Q) e s
 | .region id ops false,Q,e,s=>runOps P ops.toList ops.toList e s (Q .normal)
 | c,Q,e,s=>AWp ro P c Q e s
theorem thenQ_mono {K K':List D→St→Prop} {Q:Exit→List D→St→Prop} (h:∀ e s,K e s→K' e s):∀ x e s,thenQ K Q x e s→thenQ K' Q x e s:=by
 intro x e s hx
 cases x <;> first | exact h _ _ hx | exact hx
theorem ifB_mono {c:D} {x y x' y':Prop} (h:ifB c x y) (hx:x→x') (hy:y→y'):ifB c x' y':=by
 unfold ifB at *
 split <;> simp_all
theorem cw_ok {ro:Option Nat} {P:Program} (c:Code):∀ (Q:Exit→List D→St→Prop) (e:List D) (s:St),cw ro P c Q e s→AWp ro P c Q e s:=by
 induction c with
 | skip=>intro Q e s h;exact awp_skip h
 | label l=>intro Q e s h;exact awp_label h
 | exit id=>intro Q e s h;exact awp_exit h
 | ret=>intro Q e s h;exact awp_ret h
 | seq a b iha ihb=>intro Q e s h;exact awp_seq ((iha _ e s h).mono (thenQ_mono fun e s h=>ihb Q e s h))
 | cond c a b iha ihb=>intro Q e s h;exact awp_cond (ifB_mono h (iha Q e s) (ihb Q e s))
 | block id b ih=>intro Q e s h;exact awp_block (ih _ e s h)
 | region id ops draw =>
  intro Q e s h
  cases draw with
  | false=>exact awp_region h
  | true=>exact h
 | _=>intro Q e s h;exact h
def resD (P:Program) (e:List D) (s:St):List ResultVar→Option (List D)
 | []=>some []
 | .tmp t::rs=>(resD P e s rs).map fun l=>(e.getD t .junk).plain::l
 | .cell a T::rs=>match evLoad P T (e.getD a .junk) s,resD P e s rs with
  | some d,some l=>some (d.plain::l)
  | _,_=>none
def tupD:List D→D
 | [d]=>d
 | ds=>.tup ds
def retQ (P:Program) (rs:List ResultVar) (s:St) (r:D) (s':St):Exit→List D→St→Prop
 | .normal,e,t=>∃ ds,resD P e t rs=some ds∧tupD ds=r∧Leave s t s'∧Bd s'.boxes.length s'.ctr r
 | .ret,e,t=>∃ ds,resD P e t rs=some ds∧tupD ds=r∧Leave s t s'∧Bd s'.boxes.length s'.ctr r
 | _,_,_=>False
theorem getD_ok {g:G} {e:List D} {tmps:Array Value} (h:EnvRel g e tmps) (t:Nat):R g (e.getD t .junk) (tmps.getD t undef):=val_ok (a:=⟨tmps,[]⟩) h (.tmp t)
def resV (tmps:Array Value):ResultVar→Sem Value
 | .tmp t=>pure (tmps.getD t undef)
 | .cell a t=>do loadVar t (← asAddr (tmps.getD a undef))
theorem resD_ok {P:Program} {g:G} {e:List D} {s:St} {tmps:Array Value} {w:World} (hE:EnvRel g e tmps) (hw:WRel w g s):∀ (rs:List ResultVar) (ds:List D),resD P e s rs=some ds →
  ∃ vs:List Value,(rs.mapM (resV tmps)).run P w=Result.ok vs w∧ds.length=vs.length∧∀ (i:Nat) (h1:i<ds.length) (h2:i<vs.length),R g ds[i] vs[i]:=by
 intro rs
 induction rs with
 | nil=>intro ds h;cases h;exact ⟨[],by simp,rfl,fun i h1=>by simp at h1⟩
 | cons r rs ih =>
  intro ds h
  cases r with
  | tmp t =>
   simp only [resD] at h
   obtain ⟨l,hl,rfl⟩:=map_some h
   obtain ⟨vs,h1,h2,h3⟩:=ih l hl
   refine ⟨tmps.getD t undef::vs,?_,by simp [h2],fun i x y=>?_⟩
   ·rw [List.mapM_cons];simp only [resV,Sem.run_bind,Sem.run_pure,Result.andThen_ok,h1]
   ·cases i with
    | zero=>exact (getD_ok hE t).plain
    | succ i=>exact h3 i (by simpa using x) (by simpa using y)
  | cell a T =>
   simp only [resD] at h
   split at h
   ·rename_i d l hd hl
    cases h
    obtain ⟨vs,h1,h2,h3⟩:=ih l hl
    have ha:=getD_ok hE a
    obtain ⟨v,hr,hv⟩:=ok_load' (P:=P) hw ha hd
    have hr':∃ ad,tmps.getD a undef=.pointer (some ad)∧(loadVar T ad).run P w=.ok v w:=by
     cases hq:tmps.getD a undef <;> rw [hq] at hr <;> simp [Instr.loadAt,Instr.sureAddr,Result.andThen] at hr
     rename_i ad
     cases ad with
     | none=>simp [Instr.sureAddr] at hr
     | some ad=>exact ⟨ad,rfl,by simpa [Instr.sureAddr] using hr⟩
    obtain ⟨ad,e1,e2⟩:=hr'
    refine ⟨v::vs,?_,by simp [h2],fun i x y=>?_⟩
    ·rw [List.mapM_cons];simp only [resV,e1,asAddr,Sem.run_bind,Sem.run_pure,Result.andThen_ok,h1,e2]
    ·cases i with
     | zero=>exact hv.plain
     | succ i=>exact h3 i (by simpa using x) (by simpa using y)
   ·cases h
theorem results_ok {P:Program} {g:G} {e:List D} {s:St} {a:Act} {w:World} {fn:Func} {ds:List D} (hE:EnvRel g e a.tmps) (hw:WRel w g s) (h:resD P e s fn.results.toList=some ds) :
  ∃ v,(results fn a.tmps).run P w=.ok v w∧R g (tupD ds) v:=by
 obtain ⟨vs,h1,h2,h3⟩:=resD_ok hE hw _ _ h
 have hr:(fn.results.mapM (resV a.tmps)).run P w=.ok vs.toArray w:=by
  rw [Array.mapM_eq_mapM_toList]
  simp only [Sem.run_map,h1,Result.andThen_ok]
 refine ⟨if h:vs.toArray.size=1 then vs.toArray[0] else .tuple vs.toArray,?_,?_⟩
 ·show (do let vs ← fn.results.mapM (resV a.tmps);pure (if h:vs.size=1 then vs[0] else .tuple vs):Sem Value).run P w=_
  simp only [Sem.run_bind,hr,Result.andThen_ok,Sem.run_pure]
 ·match ds,vs,h2 with
  | [d],[v],_=>exact h3 0 (by simp) (by simp)
  | [],[],_=>exact .tup [] #[] rfl (fun i h1=>by simp at h1)
  | d::d'::ds,v::v'::vs,hl =>
   rw [dif_neg (by simp)]
   exact .tup _ _ (by simpa using hl) (fun i x y=>by simpa using h3 i x (by simpa using y))
theorem WRel.take {w:World} {g:G} {s:St} {b:Nat} (h:WRel w g s) (hb:g.O b) :
  (∀ P,(Instr.takeDeferred b).run P w=.ok [] { w with heap:=w.heap.setIfInBounds b (.deferred none) }) ∧
   WRel { w with heap:=w.heap.setIfInBounds b (.deferred none) } { g with O:=fun c=>g.O c∧c≠b } s:=by
 obtain ⟨hN,hh⟩:=h.o b hb
 refine ⟨fun P=>by simp [Instr.takeDeferred,getObj,setObj,Sem.run,hh],?_⟩
 have hheap:∀ (c:Nat) (x:Obj),w.heap[c]? = some x→(∀ cs,x≠Obj.deferred cs)→(w.heap.setIfInBounds b (.deferred none))[c]? = some x:=by
  intro c x hx hne
  rw [Array.getElem?_setIfInBounds_ne]
  ·exact hx
  ·intro e;subst e;rw [hh] at hx;cases hx;exact hne _ rfl
 have hcell:∀ a,World.cell? { w with heap:=w.heap.setIfInBounds b (.deferred none) } a=w.cell? a:=by
  intro a
  simp only [World.cell?]
  by_cases e:a.block=b
  ·have hlt:=lt_of_heap hh
   rw [e,hh,Array.getElem?_setIfInBounds_self];simp [hlt]
  ·rw [Array.getElem?_setIfInBounds_ne (by omega)]
 have hmon:∀ d v,R g d v→R { g with O:=fun c=>g.O c∧c≠b } d v:=fun d v hR=>hR.mono3 (fun _ _ _ h=>h) (fun _ _ h=>h) (fun _ _ h=>h) (fun _ _ h=>h)
 refine { os:=h.os,tape:=h.tape,out:=h.out,fz:=fun a ha=>?_,n:=by have:=h.n;simp only [Array.size_setIfInBounds];exact this,old:=fun c hc=>?_,m:=fun c o v hm=>by rw [hcell];exact h.m c o v hm,box:=fun i bx hi=>?_,inj:=h.inj,dom:=fun i c hi=>by have:=h.dom i c hi;simp only [Array.size_setIfInBounds];exact this,live:=fun k hk=>?_,uniq:=h.uniq,ldom:=h.ldom,o:=fun c hc=>⟨(h.o c hc.1).1,?_⟩,nd:=h.nd,sz:=fun c n hc=>by obtain ⟨arr,T,fr,e1,e2⟩:=h.sz c n hc;exact ⟨arr,T,fr,hheap c _ e1 (by simp),e2⟩ }
 ·rw [← h.fz a ha]
  simp only [World.frozen?]
  by_cases e:a.block=b
  ·have hlt:=lt_of_heap hh
   rw [e,hh,Array.getElem?_setIfInBounds_self];simp [hlt]
  ·rw [Array.getElem?_setIfInBounds_ne (by omega)]
 ·show (w.heap.setIfInBounds b _)[c]? = _
  rw [Array.getElem?_setIfInBounds_ne (by have:c<g.w0.heap.size:=hc;have:g.w0.heap.size≤b:=hN;omega)]
  exact h.old c hc
 ·have:=h.box i bx hi
  cases bx with
  | dead=>trivial
  | cells cs=>obtain ⟨c,arr,T,fr,h1,h2,h3,h4,h5⟩:=this;exact ⟨c,arr,T,fr,h1,hheap c _ h2 (by simp),h3,fun j x y=>⟨hmon _ _ (h4 j x y).1,(h4 j x y).2⟩,h5⟩
  | map es=>obtain ⟨c,en,k,h1,h2,h3,h4⟩:=this;exact ⟨c,en,k,h1,hheap c _ h2 (by simp),h3,fun j x y=>⟨hmon _ _ (h4 j x y).1,hmon _ _ (h4 j x y).2.1,(h4 j x y).2.2⟩⟩
  | mapX es bs q=>obtain ⟨c,en,k,h1,h2,h3,h4⟩:=this;exact ⟨c,en,k,h1,hheap c _ h2 (by simp),h3,fun j x y=>⟨hmon _ _ (h4 j x y).1,hmon _ _ (h4 j x y).2.1,(h4 j x y).2.2⟩⟩
  | iter mb q sn=>obtain ⟨r,m,h1,h2,h3⟩:=this;exact ⟨r,m,h1,hheap r _ h2 (by simp),h3⟩
  | loop ps as bo e st pe=>obtain ⟨l,fn,t,df,h1,h2,h3,h4⟩:=this;exact ⟨l,fn,t,df,h1,hheap l _ h2 (by simp),h3,fun j x y=>hmon _ _ (h4 j x y)⟩
 ·obtain ⟨a,len,cap,sz,h1,h2⟩:=h.live k hk
  refine ⟨a,len,cap,sz,h1,fun h3 h4=>?_⟩
  obtain ⟨c,off,arr,T,fr,h5,h6,h7,h8⟩:=h2 h3 h4
  exact ⟨c,off,arr,T,fr,h5,h6,hheap c _ h7 (by simp),h8⟩
 ·show (w.heap.setIfInBounds b _)[c]? = _
  rw [Array.getElem?_setIfInBounds_ne (by intro e;exact hc.2 e.symm)]
  exact (h.o c hc.1).2
theorem leaves_ok {P:Program} {fn:Func} {Z:D→St→Prop} {e:List D} {s t s':St} {ds:List D} {r:D} {tmps:Array Value} {g0:G} {w0:World} (h0:WRel w0 g0 s) (hZ:Z r s') (hres:resD P e t fn.results.toList=some ds) (hr:tupD ds=r) (hL:Leave s t s') (hB:Bd s'.boxes.length s'.ctr r) :
  ∀ (df:List Deferred) (bs:List Nat) (w:World) (g:G),g0.le g→EnvRel g e tmps→WRel w g t→bs.Nodup→(∀ b,b ∈ bs→g.O b∧¬ g0.O b)→df.map (·.target)=bs.map (fun b=>.collected b) →
   LeavesInM (W none) 0 P fn tmps (Back g0 Z) df .returning w:=by
 intro df
 induction df with
 | nil =>
  intro bs w g hg hE hw _ _ _
  obtain ⟨v,h1,h2⟩:=results_ok (a:=⟨tmps,[]⟩) (fn:=fn) hE hw hres
  obtain ⟨h3,h4⟩:=hL.wrel h0 hg hw
  exact ⟨v,h1,v,_,r,s',hZ,rfl,h3,h4,by rw [hr] at h2;exact h2.cut hB⟩
 | cons d df ih =>
  intro bs w g hg hE hw hnd hbs hdf
  cases bs with
  | nil=>simp at hdf
  | cons b bs =>
   simp only [List.map_cons,List.cons.injEq] at hdf
   obtain ⟨hrun,hw'⟩:=hw.take (hbs b (by simp)).1
   refine ⟨by simp,.inl ⟨b,_,hdf.1,hrun P,?_⟩⟩
   refine ih bs _ { g with O:=fun c=>g.O c∧c≠b } ⟨hg.w0,hg.M,hg.B,hg.L,fun c hc=>⟨hg.O c hc,fun e=>(hbs b (by simp)).2 (e ▸ hc)⟩,hg.S⟩ ⟨hE.1,fun i h1 h2=>(hE.2 i h1 h2).mono3 (fun _ _ _ h=>h) (fun _ _ h=>h) (fun _ _ h=>h) (fun _ _ h=>h)⟩ hw' (List.nodup_cons.1 hnd).2 (fun c hc=>⟨⟨(hbs c (by simp [hc])).1,fun e=>(List.nodup_cons.1 hnd).1 (e ▸ hc)⟩,(hbs c (by simp [hc])).2⟩) hdf.2
def retQQ (P:Program) (rs:List ResultVar) (s:St) (Z:D→St→Prop):Exit→List D→St→Prop
 | .normal,e,t=>∃ ds r s',resD P e t rs=some ds∧tupD ds=r∧Z r s'∧Leave s t s'∧Bd s'.boxes.length s'.ctr r
 | .ret,e,t=>∃ ds r s',resD P e t rs=some ds∧tupD ds=r∧Z r s'∧Leave s t s'∧Bd s'.boxes.length s'.ctr r
 | _,_,_=>False
theorem SpecQ.intro {P:Program} {f:FuncId} {fn:Func} {c:Code} {args:List D} {s:St} {Z:D→St→Prop} (hf:P.funcs[f]? = some fn) (hb:fn.body = some c) (hn:(fn.name == "runtime.NumGoroutine") = false)
    (h:AWp none P c (retQQ P fn.results.toList s Z) (args++List.replicate (fn.ntmps - args.length) .junk) s):SpecQ P f args s Z:=by
  refine fun vs w g hargs hw=>⟨enters_of hf hn (by rw [hb];rfl),?_⟩
  refine callsIn_of_wp_marks hf hb trivial (wpIn_mono (h g.O _ w g ⟨⟨by simp [hargs.1],fun i h1 h2=>?_⟩,hw,fun _ h=>h,[],by simp,by simp,rfl⟩) fun x a' w' hc=>?_)
  · simp only at h2 ⊢
    by_cases hi:i<args.length
    · rw [List.getElem_append_left hi,Array.getElem_append_left (by rw [← hargs.1];exact hi)];exact hargs.2 _ _ _
    · rw [List.getElem_append_right (by omega),List.getElem_replicate];exact .junk _
  · obtain ⟨hx,e',t,g',hle,ha,hq⟩:=hc
    obtain ⟨bs,hnd,hbs,hdf⟩:=ha.df
    cases x <;> first
      | exact hx.elim
      | exact hq.elim
      | (obtain ⟨ds,r,s',h1,h2,hZ,h3,h4⟩:=hq
         exact leaves_ok hw hZ h1 h2 h3 h4 a'.defers bs w' g' hle ha.env ha.wr hnd hbs hdf)
theorem Spec.intro {P:Program} {f:FuncId} {fn:Func} {c:Code} {args:List D} {s s':St} {r:D} (hf:P.funcs[f]? = some fn) (hb:fn.body = some c) (hn:(fn.name == "runtime.NumGoroutine") = false)
  (h:AWp none P c (retQ P fn.results.toList s r s') (args++List.replicate (fn.ntmps - args.length) .junk) s):Spec P f args s r s' :=
 SpecQ.intro hf hb hn (h.mono fun x e t hq=>by
  cases x <;> first
   | exact hq.elim
   | (obtain ⟨ds,h1,h2,h3,h4⟩:=hq;exact ⟨ds,r,s',h1,h2,⟨rfl,rfl⟩,h3,h4⟩))
class PC where p:Prop
class DC where f:D→St→Prop
class KC where f:List D→St→Prop
class QC where f:Exit→List D→St→Prop
def pI [X:PC]:Prop:=X.p
def dI (d:D) (s:St) [K:DC]:Prop:=K.f d s
def kI (e:List D) (s:St) [K:KC]:Prop:=K.f e s
def qI (x:Exit) (e:List D) (s:St) [Q:QC]:Prop:=Q.f x e s
def cwI (ro:Option Nat) (P:Program) (c:Code) (e:List D) (s:St) [Q:QC]:Prop:=cw ro P c Q.f e s
def AWI (ro:Option Nat) (P:Program) (c:Code) (e:List D) (s:St) [Q:QC]:Prop:=AWp ro P c Q.f e s
def runI (P:Program) (full os:List Oper) (e:List D) (s:St) [K:KC]:Prop:=runOps P full os e s K.f
def stepI (P:Program) (op:Op) (e:List D) (s:St) [K:DC]:Prop:=stepW P op (val e) s K.f
def optI (x:Option (D × St)) [K:DC]:Prop:=optW x K.f
def optSI (x:Option D) (s:St) [K:DC]:Prop:=optW (x.map (·,s)) K.f
def optTI (x:Option St) [K:DC]:Prop:=optW (x.map (D.junk,·)) K.f
def callI (nd:Bool) (P:Program) (f:D) (args:List D) (s:St) [K:DC]:Prop:=match nd with
 | false=>callW P f args s K.f
 | true=>callN P f args s K.f
def runNI (P:Program) (full os:List Oper) (e:List D) (s:St) [K:KC]:Prop:=runN P full os e s K.f
def stepNI (P:Program) (op:Op) (e:List D) (s:St) [K:DC]:Prop:=stepN P op (val e) s K.f
def ifI (c:D) (X Y:PC):Prop:=ifB c X.p Y.p
def needI (c:Prop) [X:PC]:Prop:=c∧X.p
def getI (o:Option (List D)) (sz:Nat) (s:St) [K:DC]:Prop:=∃ c,o=some c∧c.length=sz∧K.f (.pin c) s
def runGI (P:Program) (full os:List Oper) (dst:Option Tmp) (op:Op) (g:Option (Option (Nat × Bool))) (e:List D) (s:St) [K:KC]:Prop :=
 match g with
 | some none=>stepW P op (val e) s fun d s'=>runOps P full os (putD e dst d) s' K.f
 | some (some (t,true))=>ifB (gdD true (e.getD t .junk)) (stepW P op (val e) s fun d s'=>runOps P full os (putD e dst d) s' K.f) (runOps P full os (putD e dst (.tup [])) s K.f)
 | some (some (t,false))=>ifB (gdD false (e.getD t .junk)) (runOps P full os (putD e dst (.tup [])) s K.f) (stepW P op (val e) s fun d s'=>runOps P full os (putD e dst d) s' K.f)
 | none=>False
def runGNI (P:Program) (full os:List Oper) (dst:Option Tmp) (op:Op) (g:Option (Option (Nat × Bool))) (e:List D) (s:St) [K:KC]:Prop :=
 match g with
 | some none=>stepN P op (val e) s fun d s'=>runN P full os (putD e dst d) s' K.f
 | some (some (t,true))=>ifB (gdD true (e.getD t .junk)) (stepN P op (val e) s fun d s'=>runN P full os (putD e dst d) s' K.f) (runN P full os (putD e dst (.tup [])) s K.f)
 | some (some (t,false))=>ifB (gdD false (e.getD t .junk)) (runN P full os (putD e dst (.tup [])) s K.f) (stepN P op (val e) s fun d s'=>runN P full os (putD e dst d) s' K.f)
 | none=>False
@[reducible] def thenC (ro:Option Nat) (P:Program) (b:Code) (Q:QC):QC:=⟨thenQ (cw ro P b Q.f) Q.f⟩
@[reducible] def loopC (ro:Option Nat) (P:Program) (b:Code) (Q:QC):QC:=⟨thenQ (AWp ro P (.loop b) Q.f) Q.f⟩
@[reducible] def blockC (id:Nat) (Q:QC):QC:=⟨blockQ id Q.f⟩
@[reducible] def retC (P:Program) (rs:List ResultVar) (s:St) (r:D) (s':St):QC:=⟨retQ P rs s r s'⟩
@[reducible] def retQC (P:Program) (rs:List ResultVar) (s:St) (Z:D→St→Prop):QC:=⟨retQQ P rs s Z⟩
@[reducible] def opNC (P:Program) (full os:List Oper) (dst:Option Tmp) (e:List D) (K:KC):DC:=⟨fun d s'=>runN P full os (putD e dst d) s' K.f⟩
@[reducible] def runNC (P:Program) (full os:List Oper) (e:List D) (s:St) (K:KC):PC:=⟨runN P full os e s K.f⟩
@[reducible] def stepNC (P:Program) (op:Op) (e:List D) (s:St) (K:DC):PC:=⟨stepN P op (val e) s K.f⟩
@[reducible] def normC (Q:QC):KC:=⟨Q.f .normal⟩
@[reducible] def opC (P:Program) (full os:List Oper) (dst:Option Tmp) (e:List D) (K:KC):DC:=⟨fun d s'=>runOps P full os (putD e dst d) s' K.f⟩
@[reducible] def cwC (ro:Option Nat) (P:Program) (c:Code) (e:List D) (s:St) (Q:QC):PC:=⟨cw ro P c Q.f e s⟩
@[reducible] def runC (P:Program) (full os:List Oper) (e:List D) (s:St) (K:KC):PC:=⟨runOps P full os e s K.f⟩
@[reducible] def stepC (P:Program) (op:Op) (e:List D) (s:St) (K:DC):PC:=⟨stepW P op (val e) s K.f⟩
@[reducible] def dC (d:D) (s:St) (K:DC):PC:=⟨K.f d s⟩
@[reducible] def getC (o:Option (List D)) (sz:Nat) (s:St) (K:DC):PC:=⟨∃ c,o=some c∧c.length=sz∧K.f (.pin c) s⟩
@[reducible] def optC (x:Option (D × St)) (K:DC):PC:=⟨optW x K.f⟩
@[reducible] def optSC (x:Option D) (s:St) (K:DC):PC:=⟨optW (x.map (·,s)) K.f⟩
@[reducible] def optTC (x:Option St) (K:DC):PC:=⟨optW (x.map (D.junk,·)) K.f⟩
@[reducible] def needC (c:Prop) (K:PC):PC:=⟨c∧K.p⟩
theorem needI_intro {c:Prop} {X:PC} (h:c) (k:@pI X):@needI c X:=⟨h,k⟩
theorem ifI_intro {b:Bool} {X Y:PC} (h1:b=true→@pI X) (h2:b=false→@pI Y):ifI (.bool b) X Y:=by
 cases b
 ·exact h2 rfl
 ·exact h1 rfl
theorem callI_of {nd:Bool} {P:Program} {f:D} {args:List D} {s s':St} {d:D} {K:DC} (h:CallV P f args s d s') (hK:@dI d s' K):@callI nd P f args s K:=by
 cases nd
 ·exact ⟨d,s',h,hK⟩
 ·exact CallVQ.mono h fun r t hz=>by obtain ⟨rfl,rfl⟩:=hz;exact hK
theorem callI_ofQ {P:Program} {f:D} {args:List D} {s:St} {Z:D→St→Prop} {K:DC} (h:CallVQ P f args s Z) (hK:∀ d s',Z d s'→@dI d s' K):@callI true P f args s K:=CallVQ.mono h hK
theorem callI_spec {nd:Bool} {P:Program} {f:FuncId} {args:List D} {s s':St} {d:D} {K:DC} (h:Spec P f args s d s') (hK:@dI d s' K):@callI nd P (.func (.func f) [] []) args s K :=
 callI_of (by simpa [CallV,CallVQ,Spec] using h) hK
theorem callI_specQ {P:Program} {f:FuncId} {args:List D} {s:St} {Z:D→St→Prop} {K:DC} (h:SpecQ P f args s Z) (hK:∀ d s',Z d s'→@dI d s' K):@callI true P (.func (.func f) [] []) args s K :=
 callI_ofQ (by simpa [CallVQ] using h) hK
theorem runOps_mono {P:Program} {full:List Oper} {K K':List D→St→Prop} (hK:∀ e s,K e s→K' e s):∀ (os:List Oper) (e:List D) (s:St),runOps P full os e s K→runOps P full os e s K':=by
 intro os
 induction os with
 | nil=>intro e s h;exact hK e s h
 | cons o os ih =>
  intro e s h
  have hst:∀ {op ρ s} {k k':D→St→Prop},(∀ d s,k d s→k' d s)→stepW P op ρ s k→stepW P op ρ s k':=by
   intro op ρ s k k' hk h
   unfold stepW at h ⊢
   split at h
   ·obtain ⟨d,s',h1,h2⟩:=h;exact ⟨d,s',h1,hk _ _ h2⟩
   ·obtain ⟨d,s',h1,h2⟩:=optW_iff.1 h;exact optW_iff.2 ⟨d,s',h1,hk _ _ h2⟩
  simp only [runOps] at h ⊢
  split at h
  ·exact hst (fun d s=>ih _ s) h
  ·exact ifB_mono h (hst (fun d s=>ih _ s)) (ih _ s)
  ·exact ifB_mono h (ih _ s) (hst (fun d s=>ih _ s))
  ·exact h.elim
theorem runN_mono {P:Program} {full:List Oper} {K K':List D→St→Prop} (hK:∀ e s,K e s→K' e s):∀ (os:List Oper) (e:List D) (s:St),runN P full os e s K→runN P full os e s K':=by
 intro os
 induction os with
 | nil=>intro e s h;exact hK e s h
 | cons o os ih =>
  intro e s h
  have hst:∀ {op ρ s} {k k':D→St→Prop},(∀ d s,k d s→k' d s)→stepN P op ρ s k→stepN P op ρ s k':=by
   intro op ρ s k k' hk h
   exact stepN_mono h hk
  simp only [runN] at h ⊢
  split at h
  ·exact hst (fun d s=>ih _ s) h
  ·exact ifB_mono h (hst (fun d s=>ih _ s)) (ih _ s)
  ·exact ifB_mono h (ih _ s) (hst (fun d s=>ih _ s))
  ·exact h.elim
theorem optW_ite {c:Prop} [Decidable c] {x:Option (D × St)} {K:D→St→Prop}:optW (if c then x else none) K=(c∧optW x K):=by
 split <;> simp_all [optW]
theorem pure_leave {B X:List Box} {L L':List Nat} {c c':Nat} (h2:∀ k,k ∈ L→k ∈ L') (h3:c≤c'):Leave ⟨B,L,c⟩ ⟨B++X,L',c'⟩ ⟨B,L,c⟩ where
 len:=by simp
 pre:=fun i bx hi=>by
  have hlt:i<B.length:=by
   rcases Nat.lt_or_ge i B.length with q | q
   ·exact q
   ·rw [List.getElem?_eq_none q] at hi;cases hi
  rw [List.getElem?_append_left hlt];exact hi
 old:=fun i bx hi=>.inl hi
 slen:=Nat.le_refl _
 live:=fun k hk=>⟨h2 k hk,.inl hk⟩
 ctr:=Nat.le_refl _
 ctr':=h3
 nd:=.inl rfl
theorem same_leave {s:St}:Leave s s s where
 len:=Nat.le_refl _
 pre:=fun i bx hi=>hi
 old:=fun i bx hi=>.inl hi
 slen:=Nat.le_refl _
 live:=fun k hk=>⟨hk,.inl hk⟩
 ctr:=Nat.le_refl _
 ctr':=Nat.le_refl _
 nd:=.inl rfl
theorem ret_pure {P:Program} {rs:List ResultVar} {B X:List Box} {L L':List Nat} {c c':Nat} {r:D} {e:List D} {x:Exit} {ds:List D} (hx:x=.normal∨x=.ret) (h1:resD P e ⟨B++X,L',c'⟩ rs=some ds) (h2:tupD ds=r) (hb:Bd 0 0 r) (hl:∀ k,k ∈ L→k ∈ L') (hc:c≤c') :
  @qI x e ⟨B++X,L',c'⟩ (retC P rs ⟨B,L,c⟩ r ⟨B,L,c⟩):=by
 unfold retC
 rcases hx with rfl | rfl <;> exact ⟨ds,h1,h2,pure_leave hl hc,hb.mono (Nat.zero_le _) (Nat.zero_le _)⟩
theorem ret_same {P:Program} {rs:List ResultVar} {s:St} {r:D} {e:List D} {x:Exit} {ds:List D} (hx:x=.normal∨x=.ret) (h1:resD P e s rs=some ds) (h2:tupD ds=r) (hb:Bd 0 0 r) :
  @qI x e s (retC P rs s r s):=by
 unfold retC
 rcases hx with rfl | rfl <;> exact ⟨ds,h1,h2,same_leave,hb.mono (Nat.zero_le _) (Nat.zero_le _)⟩
theorem box_at {B l:List Box} {k:Nat}:(B++l)[B.length+k]? = l[k]?:=by rw [List.getElem?_append_right (by omega)];congr 1;omega
theorem box_at0 {B l:List Box}:(B++l)[B.length]? = l[0]?:=by rw [List.getElem?_append_right (by omega)];congr 1;omega
theorem box_set {B l:List Box} {k:Nat} {x:Box}:(B++l).set (B.length+k) x=B++l.set k x:=by rw [List.set_append_right _ _ (by omega)];congr 2;omega
theorem box_set0 {B l:List Box} {x:Box}:(B++l).set B.length x=B++l.set 0 x:=by rw [List.set_append_right _ _ (by omega)];congr 2;omega
theorem box_lt {B l:List Box} {b:Nat} {x:Box} (h:B[b]? = some x):(B++l)[b]? = some x:=by
 have hlt:b<B.length:=by
  rcases Nat.lt_or_ge b B.length with q | q
  ·exact q
  ·rw [List.getElem?_eq_none q] at h;cases h
 rw [List.getElem?_append_left hlt];exact h
inductive Small:D→Prop
 | junk:Small .junk
 | int (k:IntKind) (n:Int):Small (.int k n)
 | bool (b:Bool):Small (.bool b)
 | str (s:ByteArray):Small (.str s)
 | slice (o:Own) (xs:List (List D)) (hm:xs.length≤maxN) (hx:∀ x ∈ xs,∀ d ∈ x,Small d):Small (.slice o xs)
 | agg (cs:List D) (h:∀ d ∈ cs,Small d):Small (.agg cs)
 | tup (cs:List D) (h:∀ d ∈ cs,Small d):Small (.tup cs)
 | nilp:Small .nilp
 | box (b off:Nat):Small (.box b off)
 | pin (cs:List D) (h:∀ d ∈ cs,Small d):Small (.pin cs)
 | func (fn:Fn) (fi ca:List D) (h1:∀ d ∈ fi,Small d) (h2:∀ d ∈ ca,Small d):Small (.func fn fi ca)
 | nilf:Small .nilf
 | map (b:Nat):Small (.map b)
 | nilm:Small .nilm
 | yield (b:Nat):Small (.yield b)
 | msl (b off len cap sz:Nat):Small (.msl b off len cap sz)
 | row0:Small .row0
 | row (b off n sz:Nat) (hn:n≤maxN):Small (.row b off n sz)
theorem Small.of_R {g:G} {d:D} {v:Value} (h:R g d v):Small d:=by
 induction h with
 | junk v=>exact .junk
 | int k n=>exact .int _ _
 | bool b=>exact .bool _
 | str s=>exact .str _
 | slice o xs a cap sz blk off val hc hm ho hs ha hM hv hR ih =>
  refine .slice o xs hm fun x hx d hd=>?_
  obtain ⟨i,hi,rfl⟩:=List.getElem_of_mem hx
  obtain ⟨j,hj,rfl⟩:=List.getElem_of_mem hd
  exact ih i j hi hj
 | agg cs vs h hv hR ih=>exact .agg cs fun d hd=>by obtain ⟨i,hi,rfl⟩:=List.getElem_of_mem hd;exact ih i hi (by omega)
 | tup cs vs h hR ih=>exact .tup cs fun d hd=>by obtain ⟨i,hi,rfl⟩:=List.getElem_of_mem hd;exact ih i hi (by omega)
 | nilp=>exact .nilp
 | box b off blk h=>exact .box b off
 | pin cs blk off val hM hv hR ih=>exact .pin cs fun d hd=>by obtain ⟨i,hi,rfl⟩:=List.getElem_of_mem hd;exact ih i hi
 | func fn fi ca vf vc h1 h2 hf hc ihf ihc =>
  exact .func fn fi ca (fun d hd=>by obtain ⟨i,hi,rfl⟩:=List.getElem_of_mem hd;exact ihf i hi (by omega)) (fun d hd=>by obtain ⟨i,hi,rfl⟩:=List.getElem_of_mem hd;exact ihc i hi (by omega))
 | nilf=>exact .nilf
 | map b r h=>exact .map b
 | nilm=>exact .nilm
 | yield b l h=>exact .yield b
 | msl b off len cap sz blk m h hS hc hz hm=>exact .msl b off len cap sz
 | row0 a=>exact .row0
 | row b off n sz blk m cap h hS hc hn hz hm=>exact .row b off n sz hn
theorem Spec.small {P:Program} {f:FuncId} {args:List D} {s s':St} {r:D} (h:(∀ d ∈ args,Small d)→Spec P f args s r s'):Spec P f args s r s':=by
 intro vs w g ha hw
 exact h (fun d hd=>by obtain ⟨i,hi,rfl⟩:=List.getElem_of_mem hd;exact .of_R (ha.2 i hi (by have:=ha.1;omega))) vs w g ha hw
theorem AWp.small {ro:Option Nat} {P:Program} {c:Code} {Q:Exit→List D→St→Prop} {e:List D} {s:St} (h:(∀ d ∈ e,Small d)→AWp ro P c Q e s):AWp ro P c Q e s:=by
 intro O0 a w g ha
 exact h (fun d hd=>by obtain ⟨i,hi,rfl⟩:=List.getElem_of_mem hd;exact .of_R (ha.env.2 i hi (by have:=ha.env.1;omega))) O0 a w g ha
theorem Small.len {o:Own} {xs:List (List D)} (h:Small (.slice o xs)):xs.length≤281474976710656:=by cases h with | slice _ _ hm _=>exact hm
theorem wrap_succ {k:Nat} (h:k<4611686018427387904):IntKind.i64.wrap ((k:Int)+1)=((k+1:Nat):Int):=by
 rw [IntWalk.i64_in _ (by omega)];omega
theorem wrap_in {n:Int} (h:-9223372036854775808≤n∧n≤9223372036854775807):IntKind.i64.wrap n=n:=IntWalk.i64_in _ h
def keepFrom (ks:List Nat) (n:Nat):List D→List D
 | []=>[]
 | d::ds=>(bif ks.contains n then d else .junk)::keepFrom ks (n+1) ds
theorem keep_eq (ks:List Nat) (e:List D):keep ks e=keepFrom ks 0 e:=by
 have:∀ (e:List D) (n:Nat),(e.zipIdx n).map (fun (d,i)=>if ks.contains i then d else D.junk)=keepFrom ks n e:=by
  intro e
  induction e with
  | nil=>intro n;rfl
  | cons d ds ih=>intro n;simp only [List.zipIdx_cons,List.map_cons,keepFrom,ih (n+1)];congr 1;cases ks.contains n <;> rfl
 exact this e 0
theorem qI_block_exit {id id':Nat} {Q:QC} {e:List D} {s:St}:@qI (.exit id') e s (blockC id Q) = @qI (if id'=id then .normal else .exit id') e s Q:=by
 show blockQ id Q.f (.exit id') e s=Q.f (if id'=id then .normal else .exit id') e s
 unfold blockQ
 split
 ·rename_i h;cases h;split <;> rfl
 ·rename_i h;exact absurd rfl (h id')
theorem optSI_ite {c:Prop} [Decidable c] {x:Option D} {s:St} {K:DC}:@optSI (if c then x else none) s K = @needI c (optSC x s K):=by
 show optW ((if c then x else none).map (·,s)) K.f=(c∧optW (x.map (·,s)) K.f)
 by_cases h:c <;> simp [h,optW]
theorem optSI_ite' {c:Prop} [Decidable c] {x:Option D} {s:St} {K:DC}:@optSI (if c then none else x) s K = @needI (¬ c) (optSC x s K):=by
 show optW ((if c then none else x).map (·,s)) K.f=(¬ c∧optW (x.map (·,s)) K.f)
 by_cases h:c <;> simp [h,optW]
theorem optTI_ite {c:Prop} [Decidable c] {x:Option St} {K:DC}:@optTI (if c then x else none) K = @needI c (optTC x K):=by
 show optW ((if c then x else none).map (D.junk,·)) K.f=(c∧optW (x.map (D.junk,·)) K.f)
 by_cases h:c <;> simp [h,optW]
theorem getI_some_eq {c:List D} {sz:Nat} {s:St} {K:DC}:@getI (some c) sz s K = @needI (c.length=sz) (dC (.pin c) s K):=by
 show (∃ c',some c=some c'∧c'.length=sz∧K.f (.pin c') s)=(c.length=sz∧K.f (.pin c) s)
 simp
theorem vsCode :
    (∀ (ro:Option Nat) (P:Program) (Q:QC) (e:List D) (s:St),@cwI ro P .skip e s Q = @qI .normal e s Q) ∧
    (∀ (ro:Option Nat) (P:Program) (Q:QC) (e:List D) (s:St) (l:Nat),@cwI ro P (.label l) e s Q = @qI .normal e s Q) ∧
    (∀ (ro:Option Nat) (P:Program) (Q:QC) (e:List D) (s:St) (l:Nat),@cwI ro P (.exit l) e s Q = @qI (.exit l) e s Q) ∧
    (∀ (ro:Option Nat) (P:Program) (Q:QC) (e:List D) (s:St),@cwI ro P .ret e s Q = @qI .ret e s Q) ∧
    (∀ (ro:Option Nat) (P:Program) (Q:QC) (e:List D) (s:St) (a b:Code),@cwI ro P (.seq a b) e s Q = @cwI ro P a e s (thenC ro P b Q)) ∧
    (∀ (ro:Option Nat) (P:Program) (Q:QC) (e:List D) (s:St) (c:Operand) (a b:Code),@cwI ro P (.cond c a b) e s Q=ifI (val e c) (cwC ro P a e s Q) (cwC ro P b e s Q)) ∧
    (∀ (ro:Option Nat) (P:Program) (Q:QC) (e:List D) (s:St) (id:Nat) (b:Code),@cwI ro P (.block id b) e s Q = @cwI ro P b e s (blockC id Q)) ∧
    (∀ (ro:Option Nat) (P:Program) (Q:QC) (e:List D) (s:St) (id:Nat) (ops:List Oper),@cwI ro P (.region id ops.toArray false) e s Q = @runI P ops ops e s (normC Q)) ∧
    (∀ (ro:Option Nat) (P:Program) (Q:QC) (e:List D) (s:St) (id:Nat) (ops:Array Oper),@cwI ro P (.region id ops true) e s Q = @AWI ro P (.region id ops true) e s Q) ∧
    (∀ (ro:Option Nat) (P:Program) (Q:QC) (e:List D) (s:St) (b:Code),@cwI ro P (.loop b) e s Q = @AWI ro P (.loop b) e s Q) ∧
    (∀ (ro:Option Nat) (P:Program) (Q:QC) (e:List D) (s:St) (f:Operand) (ps:Array Tmp) (a b:Code),@cwI ro P (.rangeFunc f ps a b) e s Q = @AWI ro P (.rangeFunc f ps a b) e s Q) ∧
    (∀ (ro:Option Nat) (P:Program) (Q:QC) (e:List D) (s:St) (b:Code),@qI .normal e s (thenC ro P b Q) = @cwI ro P b e s Q) ∧
    (∀ (ro:Option Nat) (P:Program) (Q:QC) (e:List D) (s:St) (b:Code) (id:Nat),@qI (.exit id) e s (thenC ro P b Q) = @qI (.exit id) e s Q) ∧
    (∀ (ro:Option Nat) (P:Program) (Q:QC) (e:List D) (s:St) (b:Code),@qI .ret e s (thenC ro P b Q) = @qI .ret e s Q) ∧
    (∀ (ro:Option Nat) (P:Program) (Q:QC) (e:List D) (s:St) (b:Code),@qI .normal e s (loopC ro P b Q) = @AWI ro P (.loop b) e s Q) ∧
    (∀ (ro:Option Nat) (P:Program) (Q:QC) (e:List D) (s:St) (b:Code) (id:Nat),@qI (.exit id) e s (loopC ro P b Q) = @qI (.exit id) e s Q) ∧
    (∀ (ro:Option Nat) (P:Program) (Q:QC) (e:List D) (s:St) (b:Code),@qI .ret e s (loopC ro P b Q) = @qI .ret e s Q) ∧
    (∀ (id:Nat) (Q:QC) (e:List D) (s:St),@qI .normal e s (blockC id Q) = @qI .normal e s Q) ∧
    (∀ (id:Nat) (Q:QC) (e:List D) (s:St),@qI .ret e s (blockC id Q) = @qI .ret e s Q) ∧
    (∀ (id id':Nat) (Q:QC) (e:List D) (s:St),@qI (.exit id') e s (blockC id Q) = @qI (if id'=id then .normal else .exit id') e s Q) ∧
    (∀ (X Y:PC),ifI (.bool true) X Y = @pI X) ∧
    (∀ (X Y:PC),ifI (.bool false) X Y = @pI Y) ∧
    (∀ (ro:Option Nat) (P:Program) (c:Code) (e:List D) (s:St) (Q:QC),@pI (cwC ro P c e s Q) = @cwI ro P c e s Q) ∧
    (∀ (P:Program) (full os:List Oper) (e:List D) (s:St) (K:KC),@pI (runC P full os e s K) = @runI P full os e s K) ∧
    (∀ (P:Program) (op:Op) (e:List D) (s:St) (K:DC),@pI (stepC P op e s K) = @stepI P op e s K) ∧
    (∀ (d:D) (s:St) (K:DC),@pI (dC d s K) = @dI d s K) ∧
    (∀ (o:Option (List D)) (sz:Nat) (s:St) (K:DC),@pI (getC o sz s K) = @getI o sz s K) ∧
    (∀ (x:Option (D × St)) (K:DC),@pI (optC x K) = @optI x K) ∧
    (∀ (x:Option D) (s:St) (K:DC),@pI (optSC x s K) = @optSI x s K) ∧
    (∀ (x:Option St) (K:DC),@pI (optTC x K) = @optTI x K) ∧
    (∀ (c:Prop) (X:PC),@pI (needC c X) = @needI c X) ∧
    (∀ (X:PC),@needI True X = @pI X)∧(∀ (X:PC),@needI False X=False) ∧
    (∀ (P:Program) (full:List Oper) (e:List D) (s:St) (K:KC),@runI P full [] e s K = @kI e s K) ∧
    (∀ (Q:QC) (e:List D) (s:St),@kI e s (normC Q) = @qI .normal e s Q) ∧
    (∀ (P:Program) (full os:List Oper) (e:List D) (s:St) (K:KC) (dst:Option Tmp) (op:Op) (ty:TypeId) (pos:String) (after:Array Edge),
      @runI P full ({ dst:=dst,op:=op,type:=ty,pos:=pos,after:=after,guard:=none }::os) e s K = @stepI P op e s (opC P full os dst e K)) ∧
    (∀ (P:Program) (full os:List Oper) (e:List D) (s:St) (K:KC) (dst:Option Tmp) (op:Op) (ty:TypeId) (pos:String) (after:Array Edge) (j:Nat) (b:Bool),
      @runI P full ({ dst:=dst,op:=op,type:=ty,pos:=pos,after:=after,guard:=some (j,b) }::os) e s K =
        @runGI P full os dst op (guardOf full (some (j,b))) e s K) ∧
    (∀ (P:Program) (full os:List Oper) (e:List D) (s:St) (K:KC) (dst:Option Tmp) (op:Op) (t:Nat),
      @runGI P full os dst op (some (some (t,true))) e s K=ifI (gdD true (e.getD t .junk)) (stepC P op e s (opC P full os dst e K)) (runC P full os (putD e dst (.tup [])) s K)) ∧
    (∀ (P:Program) (full os:List Oper) (e:List D) (s:St) (K:KC) (dst:Option Tmp) (op:Op) (t:Nat),
      @runGI P full os dst op (some (some (t,false))) e s K=ifI (gdD false (e.getD t .junk)) (runC P full os (putD e dst (.tup [])) s K) (stepC P op e s (opC P full os dst e K))) ∧
    (∀ (b c:Bool),gdD b (.bool c)=.bool c)∧(gdD true (.tup [])=.bool false)∧(gdD false (.tup [])=.bool true) ∧
    (∀ (full:List Oper) (j:Nat) (b:Bool),guardOf full (some (j,b))=(full[j]?).bind fun p=>p.dst.map fun t=>some (t,b)) ∧
    (∀ (P:Program) (full os:List Oper) (e:List D) (s:St) (K:KC) (dst:Option Tmp) (d:D),@dI d s (opC P full os dst e K) = @runI P full os (putD e dst d) s K) ∧
    (∀ (d:D) (s:St) (K:DC),@optI (some (d,s)) K = @dI d s K)∧(∀ (K:DC),@optI none K=False) ∧
    (∀ (d:D) (s:St) (K:DC),@optSI (some d) s K = @dI d s K)∧(∀ (s:St) (K:DC),@optSI none s K=False) ∧
    (∀ (s:St) (K:DC),@optTI (some s) K = @dI .junk s K)∧(∀ (K:DC),@optTI none K=False) ∧
    (∀ (c:Prop) (inst:Decidable c) (x:Option (D × St)) (K:DC),@optI (@ite _ c inst x none) K = @needI c (optC x K)) ∧
    (∀ (c:Prop) (inst:Decidable c) (x:Option D) (s:St) (K:DC),@optSI (@ite _ c inst x none) s K = @needI c (optSC x s K)) ∧
    (∀ (c:Prop) (inst:Decidable c) (x:Option D) (s:St) (K:DC),@optSI (@ite _ c inst none x) s K = @needI (¬ c) (optSC x s K)) ∧
    (∀ (c:Prop) (inst:Decidable c) (x:Option St) (K:DC),@optTI (@ite _ c inst x none) K = @needI c (optTC x K)) ∧
    (∀ (c:List D) (sz:Nat) (s:St) (K:DC),@getI (some c) sz s K = @needI (c.length=sz) (dC (.pin c) s K))∧(∀ (sz:Nat) (s:St) (K:DC),@getI none sz s K=False):=by
  and_intros
  all_goals intros
  all_goals first
    | rfl
    | with_unfolding_all rfl
    | (apply propext;constructor;· exact fun h=>h.2
       · exact fun h=>⟨trivial,h⟩)
    | (apply propext;constructor;· exact fun h=>h.1
       · exact fun h=>h.elim)
    | exact qI_block_exit
    | exact optSI_ite
    | exact optSI_ite'
    | exact optTI_ite
    | exact getI_some_eq
    | (simp [getI];done)
    | exact optW_ite
    | (simp only [guardOf];split <;> simp_all <;> (split <;> simp_all))
    | trace_state
def allocOf (z:Option (List D)) (s:St):Option (D × St):=match z with
 | some zs=>evBox zs s
 | none=>none
def loadPin (ag:Option Bool) (n:Option Nat) (cs:List D):Option D:=match ag,n with
 | some a,some n=>loadD a n cs
 | _,_=>none
def loadBx (ag:Option Bool) (n:Option Nat) (b:Option Box) (off:Nat):Option D:=match ag,n,b with
 | some a,some n,some (.cells cs)=>loadD a n (cs.drop off)
 | _,_,_=>none
def storeOf (n:Option Nat) (ds:Option (List D)) (bx:Option Box) (B:List Box) (b off:Nat) (L:List Nat) (c:Nat):Option St:=match n,ds,bx with
 | some n,some ds,some (.cells cs)=>if ds.length=n∧off+n≤cs.length then some ⟨B.set b (.cells (storeD cs off ds)),L,c⟩ else none
 | _,_,_=>none
def faBox (x:Option (Nat × Nat × Bool)) (b off:Nat):Option D:=match x with
 | some (o,n,_)=>if n=0 then none else some (.box b (off+o))
 | none=>none
def faPin (x:Option (Nat × Nat × Bool)) (cs:List D):Option D:=match x with
 | some (o,n,_)=>if n=0 then none else some (.pin (cs.drop o))
 | none=>none
def fieldOf (x:Option (Nat × Nat × Bool)) (cs:List D):Option D:=match x with
 | some (o,n,ag)=>if ag then (if o+n≤cs.length then some (.agg ((cs.drop o).take n)) else none) else cs[o]?
 | none=>none
def lenSl (u:Option TypeDesc) (n:Nat):Option D:=match u with
 | some (.slice _)=>some (.int .i64 n)
 | _=>none
def lenStr (u:Option TypeDesc) (n:Nat):Option D:=match u with
 | some .string=>some (.int .i64 n)
 | _=>none
def boolEq (u:Option TypeDesc) (a b:Bool):Option Bool:=match u with
 | some .bool=>some (a == b)
 | _=>none
def convOf (u v:Option TypeDesc) (n:Int):Option D:=match u,v with
 | some (.int _),some (.int k)=>some (.int k (k.wrap n))
 | _,_=>none
def buildOf (ok:Bool) (z:Option (List D)) (pl:Nat→Option (Nat × Nat)) (ps:List (Nat × D)):Option D:=match ok,z with
 | true,some zs=>(evFill pl zs ps).map .agg
 | _,_=>none
def fillOf (p:Option (Nat × Nat)) (x:Option (List D)) (pl:Nat→Option (Nat × Nat)) (cs:List D) (rest:List (Nat × D)):Option (List D):=match p,x with
 | some (off,n),some ds=>if ds.length=n∧off+n≤cs.length then evFill pl (storeD cs off (ds.map D.keep1)) rest else none
 | _,_=>none
def bsOf (el:Option (TypeId × Nat × Nat × Bool)) (P:Program) (len:Nat) (ps:List (Nat × D)):Option D:=match el with
 | some (e,sz,_,_)=>match zeroT P e with
  | some zs=>if len * sz≤16777216∧ps.length=len∧len≤1000000∧zs.length=sz then (evParts sz 0 ps).map (.slice .full) else none
  | none=>none
 | none=>none
def bsOf2 (z:Option (List D)) (sz len:Nat) (ps:List (Nat × D)):Option D:=match z with
 | some zs=>if len * sz≤16777216∧ps.length=len∧len≤1000000∧zs.length=sz then (evParts sz 0 ps).map (.slice .full) else none
 | none=>none
def partsOf (x:Option (List D)) (sz k i:Nat) (rest:List (Nat × D)):Option (List (List D)):=match x with
 | some ds=>if i=k∧ds.length=sz then (evParts sz (k+1) rest).map (ds.map D.plain1 :: ·) else none
 | none=>none
def apI (el el':Option (TypeId × Nat × Nat × Bool)) (P:Program) (o:Own) (xs ys:List (List D)) (s:St) [K:DC]:Prop:=match el,el' with
 | some (e,sz,b,_),some _=>match zeroT P e with
  | some zs=>(zs.length=sz∧0<sz∧0<b∧b≤1000000)∧ownFits o xs sz s=true∧(∀ c ∈ ys,c.length=sz)∧xs.length+ys.length≤1000000∧K.f (.slice (.lab s.ctr sz) (xs++ys)) (s.relab o)
  | none=>False
 | _,_=>False
def apI2 (z:Option (List D)) (sz b:Nat) (o:Own) (xs ys:List (List D)) (s:St) [K:DC]:Prop:=match z with
 | some zs=>(zs.length=sz∧0<sz∧0<b∧b≤1000000)∧ownFits o xs sz s=true∧(∀ c ∈ ys,c.length=sz)∧xs.length+ys.length≤1000000∧K.f (.slice (.lab s.ctr sz) (xs++ys)) (s.relab o)
 | none=>False
def ixI (el:Option (TypeId × Nat × Nat × Bool)) (xs:List (List D)) (n:Int) (s:St) [K:DC]:Prop:=match el with
 | some (_,sz,_,_)=>0≤n∧∃ c,xs[n.toNat]? = some c∧c.length=sz∧K.f (.pin c) s
 | none=>False
def pickD (c a b:D):Option D:=match c with
 | .bool t=>some (bif t then a else b)
 | _=>none
theorem evAppend_w {P:Program} {T T':TypeId} {o o':Own} {xs ys:List (List D)} {s:St} {K:DC}:@optI (evAppend P T T' (.slice o xs) (.slice o' ys) s) K = @apI (elemT P T) (elemT P T') P o xs ys s K:=by
 apply propext
 unfold optI
 rw [optW_iff]
 simp only [evAppend,evAppend0,apI]
 cases h:elemT P T with
 | none=>simp
 | some el =>
  obtain ⟨e,sz,b,ag⟩:=el
  cases h':elemT P T' with
  | none=>simp
  | some el' =>
   dsimp only
   cases hz:zeroT P e with
   | none=>simp
   | some zs =>
    dsimp only
    constructor
    ·rintro ⟨d,s',h1,h2⟩
     split at h1
     ·rename_i hc
      obtain ⟨c1,c2,c3,c4,c5,c6,c7⟩:=hc
      cases h1
      exact ⟨⟨c1,c2,c3,c4⟩,c5,fun c hc=>by simpa using List.all_eq_true.1 c6 c hc,c7,h2⟩
     ·cases h1
    ·rintro ⟨⟨c1,c2,c3,c4⟩,c5,c6,c7,hK⟩
     refine ⟨_,_,?_,hK⟩
     rw [if_pos ⟨c1,c2,c3,c4,c5,List.all_eq_true.2 fun c hc=>by simpa using c6 c hc,c7⟩]
theorem evIndex_w {P:Program} {T:TypeId} {o:Own} {xs:List (List D)} {k:IntKind} {n:Int} {s:St} {K:DC}:@optSI (evIndexAddr P T (.slice o xs) (.int k n)) s K = @ixI (elemT P T) xs n s K:=by
 apply propext
 unfold optSI
 rw [optW_iff]
 simp only [evIndexAddr,evIndexAddr0,ixI]
 cases h:elemT P T with
 | none=>simp
 | some el =>
  obtain ⟨e,sz,b,ag⟩:=el
  simp only
  constructor
  ·rintro ⟨d,s',h1,h2⟩
   split at h1
   ·rename_i c hc
    split at hc
    ·split at h1
     ·rename_i hn hl
      cases h1
      exact ⟨hn,c,hc,hl,h2⟩
     ·cases h1
    ·cases hc
   ·cases h1
  ·rintro ⟨hn,c,hc,hl,hK⟩
   refine ⟨_,_,?_,hK⟩
   simp [hn,hc,hl]
theorem int_beq (a b:Int):(a == b)=decide (a=b):=by by_cases h:a=b <;> simp [h]
theorem int_bne (a b:Int):(a != b)=decide (a≠b):=by by_cases h:a=b <;> simp [h]
theorem evBin_int {P:Program} {op:BinOp} {T:TypeId} {k:IntKind} {a b:Int} (h:op≠.shl) (h2:op≠.shr):evBin P op T (.int k a) (.int k b)=evInt op k a b:=by simp [evBin,h,h2]
theorem evBin_eql_int {P:Program} {T:TypeId} {k:IntKind} {a b:Int}:evBin P .eql T (.int k a) (.int k b)=some (.bool (decide (a=b))):=by
 rw [evBin_int (by simp) (by simp)];simp only [evInt,int_beq]
theorem evBin_neq_int {P:Program} {T:TypeId} {k:IntKind} {a b:Int}:evBin P .neq T (.int k a) (.int k b)=some (.bool (decide (a≠b))):=by
 rw [evBin_int (by simp) (by simp)];simp only [evInt,int_bne]
theorem evEq_agg {P:Program} {T:TypeId} {a b:List D}:evEq P T (.agg a) (.agg b)=(eqT P T).bind fun ps=>eqParts a b ps:=by
 unfold evEq
 cases hu:P.underlying T with
 | none=>simp [eqT,hu]
 | some u=>cases u <;> simp [eqT,hu,isNilConst]
theorem evEq_bool {P:Program} {T:TypeId} {a b:Bool}:evEq P T (.bool a) (.bool b)=boolEq (P.underlying T) a b:=by
 unfold evEq boolEq
 cases hu:P.underlying T with
 | none=>rfl
 | some u=>cases u <;> simp [isNilConst]
theorem evStore_w {P:Program} {T:TypeId} {x:D} {b off:Nat} {B:List Box} {L:List Nat} {c:Nat}:evStore P T (.box b off) x ⟨B,L,c⟩=storeOf (sizeT P T) (cellsD x) B[b]? B b off L c:=by
 unfold evStore storeOf
 cases sizeT P T with
 | none=>rfl
 | some n=>cases cellsD x with
  | none=>rfl
  | some ds=>dsimp only;cases B[b]? with
   | none=>rfl
   | some y=>cases y <;> rfl
theorem evField_w {P:Program} {S:TypeId} {cs:List D} {f:Nat}:evField P S (.agg cs) f=fieldOf (fieldT P S f) cs:=by
 unfold evField fieldOf
 cases fieldT P S f with
 | none=>rfl
 | some x=>obtain ⟨o,n,ag⟩:=x;rfl
theorem evConv_w {P:Program} {T U:TypeId} {k:IntKind} {n:Int}:evConv P T U (.int k n)=convOf (P.underlying T) (P.underlying U) n:=by
 unfold evConv convOf
 cases P.underlying T with
 | none=>rfl
 | some u=>cases u <;> (try rfl) <;> (cases P.underlying U with
  | none=>rfl
  | some v=>cases v <;> rfl)
theorem vsOps :
  (∀ (P:Program) (e:List D) (s:St) (K:DC) (f:Operand) (args:List Operand) (ts:Array TypeId),@stepI P (.call { callee:=.value f,args:=args.toArray,argTypes:=ts }) e s K = @callI false P (val e f) (args.map fun x=>(val e x).plain) s K) ∧
  (∀ (P:Program) (e:List D) (s:St) (K:DC) (x:Operand),@stepI P (.move x) e s K = @dI (val e x) s K) ∧
  (∀ (P:Program) (e:List D) (s:St) (K:DC) (x:Operand),@stepI P (.assign x) e s K = @dI (val e x) s K) ∧
  (∀ (P:Program) (e:List D) (s:St) (K:DC) (c a b:Operand),@stepI P (.pick c a b) e s K = @optSI (pickD (val e c) (val e a) (val e b)) s K) ∧
  (∀ (P:Program) (e:List D) (s:St) (K:DC) (T:TypeId),@stepI P (.alloc T) e s K = @optI (evAlloc P T s) K) ∧
  (∀ (P:Program) (e:List D) (s:St) (K:DC) (T:TypeId) (x:Operand),@stepI P (.box T x) e s K = @optI (evBoxOp (val e x) s) K) ∧
  (∀ (P:Program) (e:List D) (s:St) (K:DC) (T:TypeId) (ps:List (Nat × Operand)),@stepI P (.build T ps.toArray) e s K = @optSI (evBuild P T (ps.map fun q=>(q.1,val e q.2))) s K) ∧
  (∀ (P:Program) (e:List D) (s:St) (K:DC) (T:TypeId) (n:Nat) (ps:List (Nat × Operand)),@stepI P (.buildSlice T n ps.toArray) e s K = @optSI (evBuildSlice P T n (ps.map fun q=>(q.1,val e q.2))) s K) ∧
  (∀ (P:Program) (e:List D) (s:St) (K:DC) (T:TypeId) (a:Operand),@stepI P (.load T a) e s K = @optSI (evLoad P T (val e a) s) s K) ∧
  (∀ (P:Program) (e:List D) (s:St) (K:DC) (T:TypeId) (a x:Operand),@stepI P (.store T a x) e s K = @optTI (evStore P T (val e a) (val e x) s) K) ∧
  (∀ (P:Program) (e:List D) (s:St) (K:DC) (x:Operand),@stepI P (.nilCheck x) e s K = @optSI (evNilCheck (val e x)) s K) ∧
  (∀ (P:Program) (e:List D) (s:St) (K:DC) (op:BinOp) (T U:TypeId) (x y:Operand),@stepI P (.binOp op T x y U) e s K = @optSI (evBin P op T (val e x) (val e y)) s K) ∧
  (∀ (P:Program) (e:List D) (s:St) (K:DC) (op:UnOp) (T:TypeId) (x:Operand),@stepI P (.unOp op T x) e s K = @optSI (evUn op (val e x)) s K) ∧
  (∀ (P:Program) (e:List D) (s:St) (K:DC) (T U:TypeId) (x:Operand),@stepI P (.convert T U x) e s K = @optSI (evConv P T U (val e x)) s K) ∧
  (∀ (P:Program) (e:List D) (s:St) (K:DC) (fn:Fn) (fi ca:List Operand),@stepI P (.makeFunc fn fi.toArray ca.toArray) e s K = @dI (.func fn (fi.map (val e)) (ca.map (val e))) s K) ∧
  (∀ (P:Program) (e:List D) (s:St) (K:DC) (T:TypeId) (x:Operand) (lo hi mx:Option Operand),@stepI P (.slice T x lo hi mx) e s K = @optSI (evSlice P T (val e x) (lo.map (val e)) (hi.map (val e)) (mx.map (val e))) s K) ∧
  (∀ (P:Program) (e:List D) (s:St) (K:DC) (T:TypeId) (x:Operand) (f:Nat),@stepI P (.fieldAddr T x f) e s K = @optSI (evFieldAddr P T (val e x) f) s K) ∧
  (∀ (P:Program) (e:List D) (s:St) (K:DC) (T:TypeId) (x:Operand) (f:Nat),@stepI P (.field T x f) e s K = @optSI (evField P T (val e x) f) s K) ∧
  (∀ (P:Program) (e:List D) (s:St) (K:DC) (T:TypeId) (x i:Operand),@stepI P (.indexAddr T x i) e s K = @optSI (evIndexAddr P T (val e x) (val e i)) s K) ∧
  (∀ (P:Program) (e:List D) (s:St) (K:DC) (T:TypeId) (x i:Operand),@stepI P (.index T x i) e s K = @optSI (evIndex P T (val e x) (val e i)) s K) ∧
  (∀ (P:Program) (e:List D) (s:St) (K:DC) (x:Operand) (i:Nat),@stepI P (.extract x i) e s K = @optSI (evExtract (val e x) i) s K) ∧
  (∀ (P:Program) (e:List D) (s:St) (K:DC) (x:Operand) (T:TypeId),@stepI P (.call { callee:=.builtin .len,args:=#[x],argTypes:=#[T] }) e s K = @optSI (evLen P T (val e x) s) s K) ∧
  (∀ (P:Program) (e:List D) (s:St) (K:DC) (x y:Operand) (T U:TypeId),@stepI P (.call { callee:=.builtin .append,args:=#[x,y],argTypes:=#[T,U] }) e s K = @optI (evAppend P T U (val e x) (val e y) s) K) ∧
  (∀ (P:Program) (e:List D) (s:St) (K:DC) (x y:Operand) (ts:Array TypeId),@stepI P (.call { callee:=.builtin .min,args:=#[x,y],argTypes:=ts }) e s K = @optSI (evMin (val e x) (val e y)) s K) ∧
  (∀ (P:Program) (e:List D) (s:St) (K:DC) (x y:Operand) (ts:Array TypeId),@stepI P (.call { callee:=.builtin .max,args:=#[x,y],argTypes:=ts }) e s K = @optSI (evMax (val e x) (val e y)) s K) ∧
  (∀ (P:Program) (T T':TypeId) (o o':Own) (xs ys:List (List D)) (s:St) (K:DC),@optI (evAppend P T T' (.slice o xs) (.slice o' ys) s) K = @apI (elemT P T) (elemT P T') P o xs ys s K) ∧
  (∀ (P:Program) (e e':TypeId) (sz b sz' b':Nat) (ag ag':Bool) (o:Own) (xs ys:List (List D)) (s:St) (K:DC),@apI (some (e,sz,b,ag)) (some (e',sz',b',ag')) P o xs ys s K = @apI2 (zeroT P e) sz b o xs ys s K) ∧
  (∀ (zs:List D) (sz b:Nat) (o:Own) (xs ys:List (List D)) (B:List Box) (L:List Nat) (c:Nat) (K:DC),@apI2 (some zs) sz b o xs ys ⟨B,L,c⟩ K =
   @needI (zs.length=sz∧0<sz∧0<b∧b≤1000000) (needC (ownFits o xs sz ⟨B,L,c⟩=true) (needC (∀ c ∈ ys,c.length=sz) (needC (xs.length+ys.length≤1000000) (dC (.slice (.lab c sz) (xs++ys)) (St.relab ⟨B,L,c⟩ o) K))))) ∧
  (∀ (P:Program) (T:TypeId) (o:Own) (xs:List (List D)) (k:IntKind) (n:Int) (s:St) (K:DC),@optSI (evIndexAddr P T (.slice o xs) (.int k n)) s K = @ixI (elemT P T) xs n s K) ∧
  (∀ (e:TypeId) (sz b:Nat) (ag:Bool) (xs:List (List D)) (n:Int) (s:St) (K:DC),@ixI (some (e,sz,b,ag)) xs n s K = @needI (0≤n) (getC xs[n.toNat]? sz s K)):=by
 and_intros
 all_goals intros
 all_goals first
  | rfl
  | with_unfolding_all rfl
  | exact evAppend_w
  | exact evIndex_w
  | (simp only [stepI,stepW,evalOp,optSI,pickD];cases val _ _ <;> rfl)
  | trace_state
theorem vsEnv :
  (∀ (e:List D) (t:Nat),val e (.tmp t)=e.getD t .junk) ∧
  (∀ (e:List D) (v:Value),val e (.const v)=cst v) ∧
  (∀ (e:List D) (f:Nat),val e (.func f)=.func (.func f) [] []) ∧
  (∀ (x:D) (xs:List D) (d:D),(x::xs).getD 0 d=x) ∧
  (∀ (x:D) (xs:List D) (d:D) (n:Nat),(x::xs).getD (n+1) d=xs.getD n d) ∧
  (∀ (k:IntKind) (n:Int),cst (.int k n)=.int k n) ∧
  (∀ (b:Bool),cst (.bool b)=.bool b) ∧
  (∀ (b:ByteArray),cst (.string b)=.str b) ∧
  (cst (.pointer none)=.nilp)∧(cst .nilFunc=.nilf)∧(cst (.map none)=.nilm)∧(cst (.slice none 0 0)=.slice .nil []) ∧
  (∀ (e:List D) (t:Nat) (d:D),putD e (some t) d=e.set t d) ∧
  (∀ (e:List D) (d:D),putD e none d=e) ∧
  (∀ (x y:D) (xs:List D),(x::xs).set 0 y=y::xs) ∧
  (∀ (x y:D) (xs:List D) (n:Nat),(x::xs).set (n+1) y=x::xs.set n y) ∧
  (∀ (o:Own) (xs:List (List D)),(D.slice o xs).plain=.slice .none xs) ∧
  (∀ (k:IntKind) (n:Int),(D.int k n).plain=.int k n)∧(∀ b,(D.bool b).plain=.bool b)∧(∀ b,(D.str b).plain=.str b)∧(∀ cs,(D.agg cs).plain=.agg (cs.map D.plain1))∧(∀ cs,(D.tup cs).plain=.tup cs) ∧
  (∀ (o:Own) (xs:List (List D)),(D.slice o xs).plain1=.slice .none xs) ∧
  (∀ (xs:List (List D)),(D.slice .nil xs).keep1=.slice .nil xs)∧(∀ (xs:List (List D)),(D.slice .none xs).keep1=.slice .none xs)∧(∀ (xs:List (List D)),(D.slice .full xs).keep1=.slice .none xs)∧(∀ (k z:Nat) (xs:List (List D)),(D.slice (.lab k z) xs).keep1=.slice .none xs) ∧
  (∀ (k:IntKind) (n:Int),(D.int k n).keep1=.int k n)∧(∀ b,(D.bool b).keep1=.bool b)∧(∀ b,(D.str b).keep1=.str b)∧(∀ cs,(D.agg cs).keep1=.agg cs)∧(∀ cs,(D.tup cs).keep1=.tup cs) ∧
  (∀ b o,(D.box b o).keep1=.box b o)∧(∀ cs,(D.pin cs).keep1=.pin cs)∧(∀ f a c,(D.func f a c).keep1=.func f a c)∧(D.nilp.keep1=.nilp)∧(D.nilf.keep1=.nilf)∧(D.nilm.keep1=.nilm)∧(∀ b,(D.map b).keep1=.map b)∧(∀ b,(D.yield b).keep1=.yield b)∧(D.junk.keep1=.junk) ∧
  (∀ (k:IntKind) (n:Int),(D.int k n).plain1=.int k n)∧(∀ b,(D.bool b).plain1=.bool b)∧(∀ b,(D.str b).plain1=.str b)∧(∀ cs,(D.agg cs).plain1=.agg cs)∧(∀ cs,(D.tup cs).plain1=.tup cs) ∧
  (∀ b o,(D.box b o).plain1=.box b o)∧(∀ cs,(D.pin cs).plain1=.pin cs)∧(∀ f a c,(D.func f a c).plain1=.func f a c)∧(D.nilp.plain1=.nilp)∧(D.nilf.plain1=.nilf)∧(D.nilm.plain1=.nilm)∧(∀ b,(D.map b).plain1=.map b)∧(∀ b,(D.yield b).plain1=.yield b)∧(D.junk.plain1=.junk) ∧
  (∀ b o,(D.box b o).plain=.box b o)∧(∀ cs,(D.pin cs).plain=.pin cs)∧(∀ f a c,(D.func f a c).plain=.func f a c)∧(D.nilp.plain=.nilp)∧(D.nilf.plain=.nilf)∧(D.nilm.plain=.nilm)∧(∀ b,(D.map b).plain=.map b)∧(∀ b,(D.yield b).plain=.yield b)∧(D.junk.plain=.junk) ∧
  (∀ cs,cellsD (.agg cs)=some cs)∧(∀ o xs,cellsD (.slice o xs)=some [.slice o xs])∧(∀ k n,cellsD (.int k n)=some [.int k n])∧(∀ b,cellsD (.bool b)=some [.bool b])∧(∀ b,cellsD (.str b)=some [.str b]) ∧
  (∀ b o,cellsD (.box b o)=some [.box b o])∧(∀ c,cellsD (.pin c)=some [.pin c])∧(∀ f a c,cellsD (.func f a c)=some [.func f a c])∧(cellsD .nilp=some [.nilp])∧(cellsD .nilf=some [.nilf])∧(cellsD .nilm=some [.nilm])∧(∀ b,cellsD (.map b)=some [.map b])∧(∀ b,cellsD (.yield b)=some [.yield b]) ∧
  (∀ (ks:List Nat) (e:List D),keep ks e=keepFrom ks 0 e)∧(∀ (ks:List Nat) (n:Nat),keepFrom ks n []=[])∧(∀ (ks:List Nat) (n:Nat) (d:D) (ds:List D),keepFrom ks n (d::ds)=(bif ks.contains n then d else .junk)::keepFrom ks (n+1) ds) ∧
  (∀ (x y:D),(bif true then x else y)=x)∧(∀ (x y:D),(bif false then x else y)=y):=by
 and_intros
 all_goals intros
 all_goals first
  | rfl
  | with_unfolding_all rfl
  | exact keep_eq _ _
theorem vsEv :
  (∀ (c:Bool) (a b:D),pickD (.bool c) a b=some (bif c then a else b)) ∧
  (∀ (P:Program) (T:TypeId) (s:St),evAlloc P T s=allocOf (zeroT P T) s) ∧
  (∀ (zs:List D) (B:List Box) (L:List Nat) (c:Nat),allocOf (some zs) ⟨B,L,c⟩=some (.box B.length 0,⟨B++[.cells zs],L,c⟩)) ∧
  (∀ (x:D) (s:St),evBoxOp x s=allocOf (cellsD x) s) ∧
  (∀ (P:Program) (T:TypeId) (cs:List D) (s:St),evLoad P T (.pin cs) s=loadPin (isAggT P T) (sizeT P T) cs) ∧
  (∀ (P:Program) (T:TypeId) (b off:Nat) (B:List Box) (L:List Nat) (c:Nat),evLoad P T (.box b off) ⟨B,L,c⟩=loadBx (isAggT P T) (sizeT P T) B[b]? off) ∧
  (∀ (ag:Bool) (n:Nat) (cs:List D),loadPin (some ag) (some n) cs=loadD ag n cs) ∧
  (∀ (ag:Bool) (n off:Nat) (cs:List D),loadBx (some ag) (some n) (some (.cells cs)) off=loadD ag n (cs.drop off)) ∧
  (∀ (n:Nat) (cs:List D),loadD true n cs=if n≤cs.length then some (.agg ((cs.take n).map D.plain1)) else none) ∧
  (∀ (n:Nat) (cs:List D),loadD false n cs=cs[0]?) ∧
  (∀ (P:Program) (T:TypeId) (x:D) (b off:Nat) (B:List Box) (L:List Nat) (c:Nat),evStore P T (.box b off) x ⟨B,L,c⟩=storeOf (sizeT P T) (cellsD x) B[b]? B b off L c) ∧
  (∀ (n:Nat) (ds cs:List D) (B:List Box) (b off:Nat) (L:List Nat) (c:Nat),storeOf (some n) (some ds) (some (.cells cs)) B b off L c=if ds.length=n∧off+n≤cs.length then some ⟨B.set b (.cells (storeD cs off ds)),L,c⟩ else none) ∧
  (∀ (cs:List D) (off:Nat) (ds:List D),storeD cs off ds=cs.take off++(ds++cs.drop (off+ds.length))) ∧
  (∀ (P:Program) (S:TypeId) (b off f:Nat),evFieldAddr P S (.box b off) f=faBox (fieldT P S f) b off) ∧
  (∀ (P:Program) (S:TypeId) (cs:List D) (f:Nat),evFieldAddr P S (.pin cs) f=faPin (fieldT P S f) cs) ∧
  (∀ (o n b off:Nat) (ag:Bool),faBox (some (o,n+1,ag)) b off=some (.box b (off+o))) ∧
  (∀ (o n:Nat) (ag:Bool) (cs:List D),faPin (some (o,n+1,ag)) cs=some (.pin (cs.drop o))) ∧
  (∀ (P:Program) (S:TypeId) (cs:List D) (f:Nat),evField P S (.agg cs) f=fieldOf (fieldT P S f) cs) ∧
  (∀ (cs:List D) (o n:Nat),fieldOf (some (o,n,true)) cs=if o+n≤cs.length then some (.agg ((cs.drop o).take n)) else none) ∧
  (∀ (cs:List D) (o n:Nat),fieldOf (some (o,n,false)) cs=cs[o]?) ∧
  (∀ (P:Program) (T:TypeId) (o:Own) (xs:List (List D)) (s:St),evLen P T (.slice o xs) s=lenSl (P.underlying T) xs.length) ∧
  (∀ (e n:Nat),lenSl (some (.slice e)) n=some (.int .i64 n)) ∧
  (∀ (P:Program) (T:TypeId) (b:ByteArray) (s:St),evLen P T (.str b) s=lenStr (P.underlying T) b.size) ∧
  (∀ (n:Nat),lenStr (some .string) n=some (.int .i64 n)) ∧
  (∀ (P:Program) (T:TypeId) (k:IntKind) (a b:Int),evBin P .add T (.int k a) (.int k b)=some (.int k (k.wrap (a+b)))) ∧
  (∀ (P:Program) (T:TypeId) (k:IntKind) (a b:Int),evBin P .sub T (.int k a) (.int k b)=some (.int k (k.wrap (a - b)))) ∧
  (∀ (P:Program) (T:TypeId) (k:IntKind) (a b:Int),evBin P .mul T (.int k a) (.int k b)=some (.int k (k.wrap (a * b)))) ∧
  (∀ (P:Program) (T:TypeId) (k:IntKind) (a b:Int),evBin P .quo T (.int k a) (.int k b)=if b=0 then none else some (.int k (k.wrap (a.tdiv b)))) ∧
  (∀ (P:Program) (T:TypeId) (k:IntKind) (a b:Int),evBin P .rem T (.int k a) (.int k b)=if b=0 then none else some (.int k (a.tmod b))) ∧
  (∀ (P:Program) (T:TypeId) (k:IntKind) (a b:Int),evBin P .and T (.int k a) (.int k b)=some (.int k (bits .and k a b))) ∧
  (∀ (P:Program) (T:TypeId) (k:IntKind) (a b:Int),evBin P .or T (.int k a) (.int k b)=some (.int k (bits .or k a b))) ∧
  (∀ (P:Program) (T:TypeId) (k:IntKind) (a b:Int),evBin P .xor T (.int k a) (.int k b)=some (.int k (bits .xor k a b))) ∧
  (∀ (P:Program) (T:TypeId) (k:IntKind) (a b:Int),evBin P .andNot T (.int k a) (.int k b)=some (.int k (bits .andNot k a b))) ∧
  (∀ (P:Program) (T:TypeId) (k:IntKind) (a b:Int),evBin P .eql T (.int k a) (.int k b)=some (.bool (decide (a=b)))) ∧
  (∀ (P:Program) (T:TypeId) (k:IntKind) (a b:Int),evBin P .neq T (.int k a) (.int k b)=some (.bool (decide (a≠b)))) ∧
  (∀ (P:Program) (T:TypeId) (k:IntKind) (a b:Int),evBin P .lss T (.int k a) (.int k b)=some (.bool (decide (a<b)))) ∧
  (∀ (P:Program) (T:TypeId) (k:IntKind) (a b:Int),evBin P .leq T (.int k a) (.int k b)=some (.bool (decide (a≤b)))) ∧
  (∀ (P:Program) (T:TypeId) (k:IntKind) (a b:Int),evBin P .gtr T (.int k a) (.int k b)=some (.bool (decide (b<a)))) ∧
  (∀ (P:Program) (T:TypeId) (k:IntKind) (a b:Int),evBin P .geq T (.int k a) (.int k b)=some (.bool (decide (b≤a)))) ∧
  (∀ (P:Program) (T:TypeId) (k k':IntKind) (a b:Int),evBin P .shl T (.int k a) (.int k' b)=evShift .shl k a b) ∧
  (∀ (P:Program) (T:TypeId) (k k':IntKind) (a b:Int),evBin P .shr T (.int k a) (.int k' b)=evShift .shr k a b) ∧
  (∀ (P:Program) (op:BinOp) (T:TypeId) (a b:ByteArray),evBin P op T (.str a) (.str b)=evStr op a b) ∧
  (∀ (P:Program) (T:TypeId) (a b:Bool),evBin P .eql T (.bool a) (.bool b)=(boolEq (P.underlying T) a b).map .bool) ∧
  (∀ (P:Program) (T:TypeId) (a b:Bool),evBin P .neq T (.bool a) (.bool b)=(boolEq (P.underlying T) a b).map fun b=>.bool (!b)) ∧
  (∀ (a b:Bool),boolEq (some .bool) a b=some (a == b)) ∧
  (∀ (P:Program) (T:TypeId) (a b:List D),evBin P .eql T (.agg a) (.agg b)=((eqT P T).bind fun ps=>eqParts a b ps).map .bool) ∧
  (∀ (P:Program) (T:TypeId) (a b:List D),evBin P .neq T (.agg a) (.agg b)=((eqT P T).bind fun ps=>eqParts a b ps).map fun b=>.bool (!b)) ∧
  (∀ (b:Bool),evUn .not (.bool b)=some (.bool (!b))) ∧
  (∀ (k:IntKind) (n:Int),evUn .neg (.int k n)=some (.int k (k.wrap (0 - n)))) ∧
  (∀ (P:Program) (T U:TypeId) (k:IntKind) (n:Int),evConv P T U (.int k n)=convOf (P.underlying T) (P.underlying U) n) ∧
  (∀ (k k':IntKind) (n:Int),convOf (some (.int k)) (some (.int k')) n=some (.int k' (k'.wrap n))) ∧
  (∀ (b o:Nat),evNilCheck (.box b o)=some (.box b o))∧(∀ (cs:List D),evNilCheck (.pin cs)=some (.pin cs))∧(∀ (f:Nat) (a c:List D),evNilCheck (.func (.func f) a c)=some (.func (.func f) a c))∧(∀ (b:Nat),evNilCheck (.yield b)=some (.yield b)) ∧
  (∀ (k k':IntKind) (a b:Int),evMin (.int k a) (.int k' b)=some (.int k (if b<a then b else a))) ∧
  (∀ (k k':IntKind) (a b:Int),evMax (.int k a) (.int k' b)=some (.int k (if a<b then b else a))) ∧
  (∀ (vs:List D) (i:Nat),evExtract (.tup vs) i=vs[i]?) ∧
  (∀ (P:Program) (T:TypeId) (ps:List (Nat × D)),evBuild P T ps=buildOf (structOkT P T) (zeroT P T) (placeT P T) ps) ∧
  (∀ (zs:List D) (pl:Nat→Option (Nat × Nat)) (ps:List (Nat × D)),buildOf true (some zs) pl ps=(evFill pl zs ps).map .agg) ∧
  (∀ (pl:Nat→Option (Nat × Nat)) (cs:List D),evFill pl cs []=some cs) ∧
  (∀ (pl:Nat→Option (Nat × Nat)) (cs:List D) (i:Nat) (x:D) (rest:List (Nat × D)),evFill pl cs ((i,x)::rest)=fillOf (pl i) (cellsD x) pl cs rest) ∧
  (∀ (off n:Nat) (ds:List D) (pl:Nat→Option (Nat × Nat)) (cs:List D) (rest:List (Nat × D)),fillOf (some (off,n)) (some ds) pl cs rest=if ds.length=n∧off+n≤cs.length then evFill pl (storeD cs off (ds.map D.keep1)) rest else none) ∧
  (∀ (P:Program) (T:TypeId) (len:Nat) (ps:List (Nat × D)),evBuildSlice P T len ps=bsOf (elemT P T) P len ps) ∧
  (∀ (P:Program) (e:TypeId) (sz b len:Nat) (ag:Bool) (ps:List (Nat × D)),bsOf (some (e,sz,b,ag)) P len ps=bsOf2 (zeroT P e) sz len ps) ∧
  (∀ (zs:List D) (sz len:Nat) (ps:List (Nat × D)),bsOf2 (some zs) sz len ps=if len * sz≤16777216∧ps.length=len∧len≤1000000∧zs.length=sz then (evParts sz 0 ps).map (.slice .full) else none) ∧
  (∀ (sz k:Nat),evParts sz k []=some []) ∧
  (∀ (sz k i:Nat) (x:D) (rest:List (Nat × D)),evParts sz k ((i,x)::rest)=partsOf (cellsD x) sz k i rest) ∧
  (∀ (ds:List D) (sz k i:Nat) (rest:List (Nat × D)),partsOf (some ds) sz k i rest=if i=k∧ds.length=sz then (evParts sz (k+1) rest).map (ds.map D.plain1 :: ·) else none) ∧
  (∀ (B:List Box) (L:List Nat) (c k z:Nat),St.relab ⟨B,L,c⟩ (.lab k z)=⟨B,c::L.erase k,c+1⟩) ∧
  (∀ (B:List Box) (L:List Nat) (c:Nat),St.relab ⟨B,L,c⟩ .full=⟨B,c::L,c+1⟩) ∧
  (∀ (B:List Box) (L:List Nat) (c:Nat),St.relab ⟨B,L,c⟩ .nil=⟨B,c::L,c+1⟩) ∧
  (∀ (k z sz:Nat) (xs:List (List D)) (B:List Box) (L:List Nat) (c:Nat),ownFits (.lab k z) xs sz ⟨B,L,c⟩=(L.contains k && z == sz)) ∧
  (∀ (sz:Nat) (xs:List (List D)) (s:St),ownFits .full xs sz s=xs.all (·.length == sz)) ∧
  (∀ (sz:Nat) (xs:List (List D)) (s:St),ownFits .nil xs sz s=xs.all (·.length == sz)) ∧
  (∀ (α β:Type) (c:Prop) (inst:Decidable c) (x:Option α) (f:α→β),(@ite _ c inst x none).map f = @ite _ c inst (x.map f) none) ∧
  (∀ (α β:Type) (x:α) (f:α→β),(some x).map f=some (f x))∧(∀ (α β:Type) (f:α→β),(none:Option α).map f=none)∧(∀ (α β:Type) (x:α) (f:α→Option β),(some x).bind f=f x):=by
 and_intros
 all_goals intros
 all_goals first
  | rfl
  | with_unfolding_all rfl
  | exact evBin_eql_int
  | exact evStore_w
  | exact evField_w
  | exact evConv_w
  | exact evBin_neq_int
  | exact evBin_int (by simp) (by simp)
  | (show (evEq _ _ (.agg _) (.agg _)).map _=_;rw [evEq_agg])
  | (show (evEq _ _ (.bool _) (.bool _)).map _=_;rw [evEq_bool])
  | (split <;> rfl)
  | (simp only [evLoad,loadBx,evLen,lenSl,lenStr,evBuild,buildOf,evBuildSlice,bsOf,evParts,partsOf];done)
  | (simp only [evLoad,loadBx,evLen,lenSl,lenStr,evBuild,buildOf,evBuildSlice,bsOf,evParts,partsOf];(repeat' split) <;> simp_all)
  | trace_state
def pureOp:Op→Bool
 | .move _ | .assign _ | .pick .. | .build .. | .buildSlice .. | .nilCheck _ | .binOp .. | .unOp .. | .convert .. | .makeFunc .. | .slice .. | .fieldAddr .. | .field .. | .indexAddr .. | .index .. | .extract .. => true
 | _=>false
theorem pure_eval {P:Program} {ρ:Operand→D} {s s':St} {op:Op} {d:D} (hp:pureOp op=true) (h:evalOp P ρ s op=some (d,s')):s'=s∧∀ s2,evalOp P ρ s2 op=some (d,s2):=by
 cases op <;> simp only [pureOp] at hp <;> first | (cases hp;done) | skip
 case pick c a b =>
  simp only [evalOp] at h ⊢
  split at h
  ·cases h;exact ⟨rfl,fun _=>rfl⟩
  ·cases h
 all_goals
  simp only [evalOp] at h ⊢
  first
   | (cases h;exact ⟨rfl,fun _=>rfl⟩)
   | (obtain ⟨x,hx,e⟩:=map_some h;cases e;exact ⟨rfl,fun s2=>by rw [hx];rfl⟩)
def tmpsOf (op:Op):List Nat:=op.operands.toList.filterMap fun | .tmp t=>some t | _=>none
theorem val_congr {e e':List D} {op:Op} (h:∀ t ∈ tmpsOf op,e.getD t .junk=e'.getD t .junk):∀ x ∈ op.operands,val e x=val e' x:=by
 intro x hx
 cases x <;> simp only [val]
 exact h _ (List.mem_filterMap.2 ⟨_,by simpa using hx,rfl⟩)
theorem evalOp_congr {P:Program} {ρ ρ':Operand→D} {s:St} {op:Op} (h:∀ x ∈ op.operands,ρ x=ρ' x):evalOp P ρ s op=evalOp P ρ' s op:=by
 cases op <;> simp only [evalOp]
 case build T ps=>rw [List.map_congr_left (fun q hq=>by rw [h q.2 (by simp [Op.operands];exact ⟨q.1,by simpa using hq⟩)])]
 case buildSlice T n ps=>rw [List.map_congr_left (fun q hq=>by rw [h q.2 (by simp [Op.operands];exact ⟨q.1,by simpa using hq⟩)])]
 case makeFunc fn fi ca =>
  rw [List.map_congr_left (l:=fi.toList) (fun q hq=>h q (by simp [Op.operands];exact .inl (by simpa using hq))),List.map_congr_left (l:=ca.toList) (fun q hq=>h q (by simp [Op.operands];exact .inr (by simpa using hq)))]
 case slice T x lo hi mx =>
  rw [h x (by simp [Op.operands])]
  have:∀ (y:Option Operand),(∀ z,y=some z→ρ z=ρ' z)→y.map ρ=y.map ρ':=fun y hy=>by cases y with
   | none=>rfl
   | some z=>simp [hy z rfl]
  rw [this lo (fun z hz=>h z (by simp [Op.operands,hz])),this hi (fun z hz=>h z (by simp [Op.operands,hz])),this mx (fun z hz=>h z (by simp [Op.operands,hz]))]
 case makeMap T r=>cases r with
  | none=>rfl
  | some x=>simp only [h x (by simp [Op.operands])]
 case call c =>
  obtain ⟨callee,args,ts⟩:=c
  cases callee with
  | value f=>rfl
  | invoke r m=>rfl
  | builtin b=>simp only;rw [List.map_congr_left (fun q hq=>h q (by simp [Op.operands,Call.operands];simpa using hq))]
 all_goals
  first
   | rfl
   | (simp [Op.operands] at h;simp only [h])
   | (simp [Op.operands] at h;simp only [h.1,h.2])
   | (simp [Op.operands] at h;simp only [h.1,h.2.1,h.2.2])
theorem step_congr {P:Program} {o:Oper} {ρ ρ':Operand→D} {s s':St} {d:D} (h:∀ x ∈ o.op.operands,ρ x=ρ' x) (hs:Step P o ρ s d s'):Step P o ρ' s d s':=by
 rcases hs with hs | ⟨f,args,ts,ho,hc⟩
 ·exact .inl (by rw [← evalOp_congr h];exact hs)
 ·refine .inr ⟨f,args,ts,ho,?_⟩
  rw [ho] at h
  rw [← h f (by simp [Op.operands,Call.operands])]
  have:argsOf ρ' args=argsOf ρ args:=by
   unfold argsOf
   exact List.map_congr_left fun x hx=>by rw [h x (by simp [Op.operands,Call.operands];exact .inr (by simpa using hx))]
  rw [this];exact hc
theorem stepW_of {P:Program} {o:Oper} {ρ:Operand→D} {s s':St} {d:D} {K:D→St→Prop} (h:Step P o ρ s d s') (hK:K d s'):stepW P o.op ρ s K:=by
 rcases h with h | ⟨f,args,ts,ho,hc⟩
 ·unfold stepW
  split
  ·rename_i f args ts heq
   rw [heq] at h;simp [evalOp] at h
  ·exact optW_iff.2 ⟨d,s',h,hK⟩
 ·rw [ho];exact ⟨d,s',hc,hK⟩
def looks (full:List Oper) (o:Oper):List Nat :=
  (match guardOf full o.guard with
   | some (some (t,_))=>[t]
   | _=>[])++tmpsOf o.op
def OStep (P:Program) (full:List Oper) (o:Oper) (e:List D) (s:St) (d:D) (s':St):Prop :=
 match guardOf full o.guard with
 | some none=>Step P o (val e) s d s'
 | some (some (t,b))=>(gdD b (e.getD t .junk)=.bool b∧Step P o (val e) s d s')∨(gdD b (e.getD t .junk)=.bool (!b)∧d=.tup []∧s'=s)
 | none=>False
theorem ostep_congr {P:Program} {full:List Oper} {o:Oper} {e e':List D} {s s':St} {d:D} (h:∀ t ∈ looks full o,e.getD t .junk=e'.getD t .junk) (hs:OStep P full o e s d s'):OStep P full o e' s d s':=by
 have hv:∀ x ∈ o.op.operands,val e x=val e' x:=val_congr fun t ht=>h t (List.mem_append_right _ ht)
 unfold OStep at hs ⊢
 unfold looks at h
 cases hg:guardOf full o.guard with
 | none=>rw [hg] at hs;exact hs.elim
 | some x =>
  rw [hg] at hs h
  cases x with
  | none=>exact step_congr hv hs
  | some x =>
   obtain ⟨t,b⟩:=x
   have ht:=h t (by simp)
   rcases hs with ⟨h1,h2⟩ | ⟨h1,h2⟩
   ·exact .inl ⟨by rw [← ht];exact h1,step_congr hv h2⟩
   ·exact .inr ⟨by rw [← ht];exact h1,h2⟩
theorem ostep_pure {P:Program} {full:List Oper} {o:Oper} {e:List D} {s s':St} {d:D} (hp:pureOp o.op=true) (h:OStep P full o e s d s') (s2:St):OStep P full o e s2 d s2:=by
 have hst:Step P o (val e) s d s'→Step P o (val e) s2 d s2:=by
  rintro (h | ⟨f,args,ts,ho,_⟩)
  ·exact .inl ((pure_eval hp h).2 s2)
  ·rw [ho] at hp;cases hp
 unfold OStep at h ⊢
 cases hg:guardOf full o.guard with
 | none=>rw [hg] at h;exact h.elim
 | some x =>
  rw [hg] at h
  cases x with
  | none=>exact hst h
  | some x =>
   obtain ⟨t,b⟩:=x
   rcases h with ⟨h1,h2⟩ | ⟨h1,h2,h3⟩
   ·exact .inl ⟨h1,hst h2⟩
   ·exact .inr ⟨h1,h2,rfl⟩
theorem runOps_of {P:Program} {full os:List Oper} {o:Oper} {e:List D} {s s':St} {d:D} {K:List D→St→Prop} (h:OStep P full o e s d s') (hK:runOps P full os (putD e o.dst d) s' K):runOps P full (o::os) e s K:=by
 unfold OStep at h
 simp only [runOps]
 cases hg:guardOf full o.guard with
 | none=>rw [hg] at h;exact h.elim
 | some x =>
  rw [hg] at h
  cases x with
  | none=>exact stepW_of h hK
  | some x =>
   obtain ⟨t,b⟩:=x
   rcases h with ⟨h1,h2⟩ | ⟨h1,rfl,rfl⟩
   ·cases b <;> simp only [h1,ifB] <;> exact stepW_of h2 hK
   ·cases b <;> simp only [h1,ifB,Bool.not_true,Bool.not_false] <;> exact hK
def runD (P:Program) (full:List Oper):List Bool→List Oper→List D→St→List St→(List D→St→List St→Prop)→Prop
 | [],[],e,s,ss,K=>K e s ss
 | b::bs,o::os,e,s,ss,K =>
  match guardOf full o.guard with
  | some none=>stepW P o.op (val e) s fun d s'=>(b=true∨s'=s)∧runD P full bs os (putD e o.dst d) s' (bif b then s::ss else ss) K
  | some (some (t,true))=>ifB (gdD true (e.getD t .junk)) (stepW P o.op (val e) s fun d s'=>(b=true∨s'=s)∧runD P full bs os (putD e o.dst d) s' (bif b then s::ss else ss) K) (runD P full bs os (putD e o.dst (.tup [])) s (bif b then s::ss else ss) K)
  | some (some (t,false))=>ifB (gdD false (e.getD t .junk)) (runD P full bs os (putD e o.dst (.tup [])) s (bif b then s::ss else ss) K) (stepW P o.op (val e) s fun d s'=>(b=true∨s'=s)∧runD P full bs os (putD e o.dst d) s' (bif b then s::ss else ss) K)
  | none=>False
 | _,_,_,_,_,_=>False
def Tr (P:Program) (full:List Oper):List Bool→List Oper→List D→St→List D→List St→Prop
 | [],[],e,s,e',sts=>e'=e∧sts=[s]
 | true::bs,o::os,e,s,e',sts=>∃ d s',OStep P full o e s d s'∧∃ r,sts=s::r∧Tr P full bs os (putD e o.dst d) s' e' r
 | false::bs,o::os,e,s,e',sts=>∃ d,OStep P full o e s d s∧Tr P full bs os (putD e o.dst d) s e' sts
 | _,_,_,_,_,_=>False
theorem ifB_cases {c:D} {x y:Prop} (h:ifB c x y):(c=.bool true∧x)∨(c=.bool false∧y):=by
 unfold ifB at h
 split at h
 ·exact .inl ⟨rfl,h⟩
 ·exact .inr ⟨rfl,h⟩
 ·exact h.elim
theorem runD_tr {P:Program} {full:List Oper} {K:List D→St→List St→Prop}:∀ (bs:List Bool) (os:List Oper) (e:List D) (s:St) (ss:List St),runD P full bs os e s ss K →
  ∃ e' s' ss' sts,Tr P full bs os e s e' sts∧ss'.reverse++[s']=ss.reverse++sts∧K e' s' ss':=by
 intro bs
 induction bs with
 | nil =>
  intro os e s ss h
  cases os with
  | nil=>exact ⟨e,s,ss,[s],⟨rfl,rfl⟩,rfl,h⟩
  | cons o os=>simp [runD] at h
 | cons b bs ih =>
  intro os e s ss h
  cases os with
  | nil=>simp [runD] at h
  | cons o os =>
   have key:∀ d s',OStep P full o e s d s'→(b=true∨s'=s)→runD P full bs os (putD e o.dst d) s' (bif b then s::ss else ss) K →
     ∃ e' s'' ss' sts,Tr P full (b::bs) (o::os) e s e' sts∧ss'.reverse++[s'']=ss.reverse++sts∧K e' s'' ss':=by
    intro d s' h1 h2 h3
    obtain ⟨e',s'',ss',sts,t1,t2,t3⟩:=ih os _ s' _ h3
    cases b with
    | true=>exact ⟨e',s'',ss',s::sts,⟨d,s',h1,sts,rfl,t1⟩,by rw [t2];simp,t3⟩
    | false =>
     rcases h2 with h2 | rfl
     ·cases h2
     ·exact ⟨e',s'',ss',sts,⟨d,h1,t1⟩,by rw [t2];simp,t3⟩
   simp only [runD] at h
   have hO:∀ d s',OStep P full o e s d s'=match guardOf full o.guard with
    | some none=>Step P o (val e) s d s'
    | some (some (t,b))=>(gdD b (e.getD t .junk)=.bool b∧Step P o (val e) s d s')∨(gdD b (e.getD t .junk)=.bool (!b)∧d=.tup []∧s'=s)
    | none=>False:=fun _ _=>rfl
   cases hg:guardOf full o.guard with
   | none=>rw [hg] at h;exact h.elim
   | some x =>
    rw [hg] at h
    cases x with
    | none =>
     obtain ⟨d,s',h1,h2,h3⟩:=stepW_ok h
     exact key d s' (by rw [hO,hg];exact h1) h2 h3
    | some x =>
     obtain ⟨t,c⟩:=x
     cases c with
     | true =>
      rcases ifB_cases h with ⟨q,h⟩ | ⟨q,h⟩
      ·obtain ⟨d,s',h1,h2,h3⟩:=stepW_ok h
       exact key d s' (by rw [hO,hg];exact .inl ⟨q,h1⟩) h2 h3
      ·exact key (.tup []) s (by rw [hO,hg];exact .inr ⟨q,rfl,rfl⟩) (.inr rfl) h
     | false =>
      rcases ifB_cases h with ⟨q,h⟩ | ⟨q,h⟩
      ·exact key (.tup []) s (by rw [hO,hg];exact .inr ⟨q,rfl,rfl⟩) (.inr rfl) h
      ·obtain ⟨d,s',h1,h2,h3⟩:=stepW_ok h
       exact key d s' (by rw [hO,hg];exact .inl ⟨q,h1⟩) h2 h3
def dstsOf (os:List Oper):List Nat:=os.filterMap (·.dst)
theorem putD_length {e:List D} {dst:Option Tmp} {d:D}:(putD e dst d).length=e.length:=by cases dst <;> simp [putD]
theorem putD_get {e:List D} {dst:Option Tmp} {d:D} {t:Nat} (h:dst≠some t):(putD e dst d)[t]? = e[t]?:=by
 cases dst with
 | none=>rfl
 | some u=>simp only [putD];rw [List.getElem?_set_ne (fun q=>h (by rw [q]))]
theorem tr_len {P:Program} {full:List Oper}:∀ (bs:List Bool) (os:List Oper) (e:List D) (s:St) (e':List D) (sts:List St),Tr P full bs os e s e' sts →
  e'.length=e.length∧sts.length=bs.count true+1∧bs.length=os.length∧sts[0]? = some s:=by
 intro bs
 induction bs with
 | nil =>
  intro os e s e' sts h
  cases os with
  | nil=>obtain ⟨rfl,rfl⟩:=h;exact ⟨rfl,rfl,rfl,rfl⟩
  | cons o os=>simp [Tr] at h
 | cons b bs ih =>
  intro os e s e' sts h
  cases os with
  | nil=>cases b <;> simp [Tr] at h
  | cons o os =>
   cases b with
   | true =>
    obtain ⟨d,s',h1,r,rfl,h2⟩:=h
    obtain ⟨i1,i2,i3,i4⟩:=ih os _ _ _ _ h2
    exact ⟨i1.trans putD_length,by simp [i2],by simp [i3],rfl⟩
   | false =>
    obtain ⟨d,h1,h2⟩:=h
    obtain ⟨i1,i2,i3,i4⟩:=ih os _ _ _ _ h2
    exact ⟨i1.trans putD_length,by simp [i2],by simp [i3],i4⟩
theorem tr_keep {P:Program} {full:List Oper}:∀ (bs:List Bool) (os:List Oper) (e:List D) (s:St) (e':List D) (sts:List St),Tr P full bs os e s e' sts →
  ∀ t,t ∉ dstsOf os→e'[t]? = e[t]?:=by
 intro bs
 induction bs with
 | nil =>
  intro os e s e' sts h t _
  cases os with
  | nil=>obtain ⟨rfl,rfl⟩:=h;rfl
  | cons o os=>simp [Tr] at h
 | cons b bs ih =>
  intro os e s e' sts h t ht
  cases os with
  | nil=>cases b <;> simp [Tr] at h
  | cons o os =>
   have h0:o.dst≠some t:=fun q=>ht (by simp [dstsOf,q])
   have h1:t ∉ dstsOf os:=fun q=>ht (by
    unfold dstsOf at q ⊢
    rw [List.filterMap_cons]
    split
    ·exact q
    ·exact .tail _ q)
   cases b with
   | true=>obtain ⟨d,s',_,r,rfl,h2⟩:=h;rw [ih os _ _ _ _ h2 t h1,putD_get h0]
   | false=>obtain ⟨d,_,h2⟩:=h;rw [ih os _ _ _ _ h2 t h1,putD_get h0]
theorem tr_at {P:Program} {full:List Oper}:∀ (bs:List Bool) (os:List Oper) (e:List D) (s:St) (e':List D) (sts:List St),Tr P full bs os e s e' sts→(dstsOf os).Nodup →
  ∀ (p:Nat) (o:Oper) (b:Bool),os[p]? = some o→bs[p]? = some b→∃ ep d sp sp',OStep P full o ep sp d sp'∧sts[(bs.take p).count true]? = some sp∧(b=true→sts[(bs.take p).count true+1]? = some sp')∧(b=false→sp'=sp) ∧
   (∀ t,ep[t]? = if t ∈ dstsOf (os.take p) then e'[t]? else e[t]?)∧(∀ t,o.dst=some t→t<e.length→e'[t]? = some d):=by
 intro bs
 induction bs with
 | nil=>intro os e s e' sts h _ p o b _ hb;simp at hb
 | cons b0 bs ih =>
  intro os e s e' sts h hn p o b ho hb
  cases os with
  | nil=>simp at ho
  | cons o0 os =>
   have hn':(dstsOf os).Nodup∧∀ t,o0.dst=some t→t ∉ dstsOf os:=by
    unfold dstsOf at hn ⊢
    rw [List.filterMap_cons] at hn
    split at hn
    ·rename_i q;exact ⟨hn,fun t ht=>by rw [q] at ht;cases ht⟩
    ·rename_i u q;exact ⟨(List.nodup_cons.1 hn).2,fun t ht=>by rw [q] at ht;cases ht;exact (List.nodup_cons.1 hn).1⟩
   have rest:∀ d sn st',Tr P full bs os (putD e o0.dst d) sn e' st'→∀ t,o0.dst=some t→t<e.length→e'[t]? = some d:=by
    intro d sn st' h2 t ht hl
    rw [tr_keep _ _ _ _ _ _ h2 t (hn'.2 t ht),ht];simp [putD,hl]
   cases p with
   | zero =>
    simp only [List.getElem?_cons_zero,Option.some.injEq] at ho hb
    subst ho hb
    cases b0 with
    | true =>
     obtain ⟨d,s',h1,r,rfl,h2⟩:=h
     refine ⟨e,d,s,s',h1,rfl,fun _=>?_,fun q=>(by cases q),fun t=>by simp [dstsOf],rest d s' r h2⟩
     simp only [List.take_zero,List.count_nil,Nat.zero_add,List.getElem?_cons_succ]
     exact (tr_len _ _ _ _ _ _ h2).2.2.2
    | false =>
     obtain ⟨d,h1,h2⟩:=h
     exact ⟨e,d,s,s,h1,(tr_len _ _ _ _ _ _ h2).2.2.2,fun q=>(by cases q),fun _=>rfl,fun t=>by simp [dstsOf],rest d s sts h2⟩
   | succ p =>
    simp only [List.getElem?_cons_succ] at ho hb
    have fin:∀ d sn st',Tr P full bs os (putD e o0.dst d) sn e' st'→∀ (ep:List D),(∀ t,ep[t]? = if t ∈ dstsOf (os.take p) then e'[t]? else (putD e o0.dst d)[t]?)→∀ t,ep[t]? = if t ∈ dstsOf ((o0::os).take (p+1)) then e'[t]? else e[t]?:=by
     intro d sn st' h2 ep he t
     rw [he t]
     have hd:t ∈ dstsOf ((o0::os).take (p+1))↔o0.dst=some t∨t ∈ dstsOf (os.take p):=by
      simp only [List.take_succ_cons,dstsOf,List.filterMap_cons]
      split
      ·rename_i q;simp [q]
      ·rename_i u q;simp [q,eq_comm]
     by_cases c1:t ∈ dstsOf (os.take p)
     ·rw [if_pos c1,if_pos (hd.2 (.inr c1))]
     ·rw [if_neg c1]
      by_cases c2:o0.dst=some t
      ·rw [if_pos (hd.2 (.inl c2))]
       rw [tr_keep _ _ _ _ _ _ h2 t (hn'.2 t c2)]
      ·rw [if_neg (fun q=>(hd.1 q).elim c2 c1),putD_get c2]
    cases b0 with
    | true =>
     obtain ⟨d0,s',h1,r,rfl,h2⟩:=h
     obtain ⟨ep,d,sp,sp',k1,k2,k3,k4,k5,k6⟩:=ih os _ _ _ _ h2 hn'.1 p o b ho hb
     exact ⟨ep,d,sp,sp',k1,by simpa using k2,fun q=>by simpa using k3 q,k4,fin d0 s' r h2 ep k5,fun t ht hl=>k6 t ht (by rw [putD_length];exact hl)⟩
    | false =>
     obtain ⟨d0,h1,h2⟩:=h
     obtain ⟨ep,d,sp,sp',k1,k2,k3,k4,k5,k6⟩:=ih os _ _ _ _ h2 hn'.1 p o b ho hb
     exact ⟨ep,d,sp,sp',k1,by simpa using k2,fun q=>by simpa using k3 q,k4,fin d0 s sts h2 ep k5,fun t ht hl=>k6 t ht (by rw [putD_length];exact hl)⟩
def LinE (ops:List Oper):List Nat→List Nat→Prop
 | done,[]=>∀ i,i<ops.length→i ∈ done
 | done,i::π=>(∃ o,ops[i]? = some o∧∀ e ∈ o.after.toList,Region.binds .any e=true→e.on ∈ done)∧i ∉ done∧LinE ops (i::done) π
def edgesBack (ops:List Oper):Bool:=(List.range ops.length).all fun i=>match ops[i]? with
 | some o=>o.after.toList.all fun e=>!Region.binds .any e || decide (e.on<i)
 | none=>true
theorem edgesBack_spec {ops:List Oper} (h:edgesBack ops=true) {i:Nat} {o:Oper} (hi:ops[i]? = some o):∀ e ∈ o.after.toList,Region.binds .any e=true→e.on<i:=by
 intro e he hb
 have hlt:i<ops.length:=by
  rcases Nat.lt_or_ge i ops.length with q | q
  ·exact q
  ·rw [List.getElem?_eq_none q] at hi;cases hi
 have h1:=List.all_eq_true.1 h i (List.mem_range.2 hlt)
 simp only [hi] at h1
 have h2:=List.all_eq_true.1 h1 e he
 simpa [hb] using h2
theorem linE_of {ops:Array Oper} (hb:edgesBack ops.toList=true):∀ (fuel t:Nat) (listed:Array Bool) (done:List Nat),listed.size=ops.size→(∀ i,i<ops.size→listed.getD i true=decide (i ∈ done)) →
  (List.range ops.size).countP (fun i=>decide (i ∉ done))≤fuel→LinE ops.toList done (Region.linearise.go .any ops fuel t listed []):=by
 intro fuel
 induction fuel with
 | zero =>
  intro t listed done hs hl hf
  simp only [Region.linearise.go,List.reverse_nil,LinE]
  intro i hi
  simp only [Nat.le_zero,List.countP_eq_zero,List.mem_range,decide_eq_true_eq,Decidable.not_not] at hf
  exact hf i (by simpa using hi)
 | succ fuel ih =>
  intro t listed done hs hl hf
  have hgetF:∀ i,i<ops.size→listed.getD i false=decide (i ∈ done):=fun i hi=>by
   rw [← hl i hi];simp [Array.getD,hs,hi]
  have hmem:∀ i,i ∈ Region.ready .any ops listed↔i<ops.size∧i ∉ done∧∃ o,ops[i]? = some o∧∀ e ∈ o.after.toList,Region.binds .any e=true→e.on ∈ done:=by
   intro i
   unfold Region.ready
   simp only [List.mem_filter,List.mem_range]
   constructor
   ·rintro ⟨h1,h2⟩
    simp only [Bool.and_eq_true,Bool.not_eq_true',Array.getElem?_eq_getElem h1,Option.map_some,Option.getD_some] at h2
    refine ⟨h1,?_,ops[i],by simp [h1],?_⟩
    ·have:=h2.1;rw [hl i h1] at this;simpa using this
    ·intro e he hbe
     have h3:=Array.all_eq_true'.1 h2.2 e (by simpa using he)
     simp only [hbe,Bool.not_true,Bool.false_or] at h3
     have hlt:e.on<ops.size:=by
      have:=edgesBack_spec hb (i:=i) (o:=ops[i]) (by simp [h1]) e he hbe
      omega
     rw [hgetF _ hlt] at h3
     simpa using h3
   ·rintro ⟨h1,h2,o,ho,h3⟩
    refine ⟨h1,?_⟩
    have ho':ops[i]? = some o:=ho
    simp only [ho',Option.map_some,Option.getD_some,Bool.and_eq_true,Bool.not_eq_true']
    refine ⟨by rw [hl i h1];simpa using h2,Array.all_eq_true'.2 fun e he=>?_⟩
    cases hbe:Region.binds .any e with
    | false=>rfl
    | true =>
     simp only [Bool.not_true,Bool.false_or]
     have hlt:e.on<ops.size:=by
      have:=edgesBack_spec hb (i:=i) (o:=o) (by simpa using ho') e (by simpa using he) hbe
      omega
     rw [hgetF _ hlt]
     simpa using h3 e (by simpa using he) hbe
  simp only [Region.linearise.go]
  change LinE ops.toList done (match (Region.ready .any ops listed)[t % (Region.ready .any ops listed).length]? with
   | some i=>Region.linearise.go .any ops fuel (t / (Region.ready .any ops listed).length) (listed.setIfInBounds i true) [i]
   | none=>[].reverse)
  cases hi:(Region.ready .any ops listed)[t % (Region.ready .any ops listed).length]? with
  | none =>
   have hnil:Region.ready .any ops listed=[]:=by
    cases hr:Region.ready .any ops listed with
    | nil=>rfl
    | cons x xs =>
     rw [hr] at hi
     have hlt:t % (x::xs).length<(x::xs).length:=Nat.mod_lt _ (by simp)
     simp at hi
     simp at hlt
     omega
   show ∀ i,i<ops.toList.length→i ∈ done
   have:∀ n i,i<n→i<ops.size→i ∈ done:=by
    intro n
    induction n with
    | zero=>intro i hi;omega
    | succ n ihn =>
     intro i hi hio
     apply Decidable.byContradiction
     intro hnd
     have:i ∈ Region.ready .any ops listed:=(hmem i).2 ⟨hio,hnd,ops[i],by simp [hio],fun e he hbe=>by
      have hlt:=edgesBack_spec hb (i:=i) (o:=ops[i]) (by simp [hio]) e he hbe
      exact ihn e.on (by omega) (by omega)⟩
     rw [hnil] at this;cases this
   intro i hi
   exact this (i+1) i (by omega) (by simpa using hi)
  | some i =>
   simp only []
   rw [linearise_go_acc,List.reverse_singleton,List.singleton_append]
   obtain ⟨h1,h2,h3⟩:=(hmem i).1 (List.mem_of_getElem? hi)
   refine ⟨?_,h2,ih _ _ (i::done) (by simpa using hs) (fun j hj=>?_) ?_⟩
   ·obtain ⟨o,ho,h4⟩:=h3
    exact ⟨o,by simpa using ho,h4⟩
   ·by_cases hji:j=i
    ·subst hji
     simp [Array.getD,hs,hj]
    ·have e1:(listed.setIfInBounds i true).getD j true=listed.getD j true:=by
      simp only [Array.getD_eq_getD_getElem?]
      rw [Array.getElem?_setIfInBounds_ne (fun q=>hji q.symm)]
     rw [e1,hl j hj]
     have:(j ∈ i::done)↔j ∈ done:=by simp [hji]
     simp [this]
   ·have hlt:(List.range ops.size).countP (fun j=>decide (j ∉ i::done))<(List.range ops.size).countP (fun j=>decide (j ∉ done)):=by
     have hsub:∀ (l:List Nat),l.countP (fun j=>decide (j ∉ i::done))≤l.countP (fun j=>decide (j ∉ done)):=fun l=>List.countP_mono_left fun x _ hx=>by simp at hx ⊢;exact hx.2
     have:∀ (l:List Nat),i ∈ l→l.countP (fun j=>decide (j ∉ i::done))<l.countP (fun j=>decide (j ∉ done)):=by
      intro l
      induction l with
      | nil=>intro h;cases h
      | cons x l ihl =>
       intro hm
       rw [List.countP_cons,List.countP_cons]
       by_cases hx:i=x
       ·subst hx
        have:=hsub l
        simp [h2];simp at this;omega
       ·have hl':=ihl ((List.mem_cons.1 hm).resolve_left hx)
        have hx':decide (x ∉ i::done)=decide (x ∉ done):=by simp [Ne.symm hx]
        rw [hx']
        split <;> omega
     exact this _ (List.mem_range.2 h1)
    omega
abbrev Anc:=List (List Nat)
def ancsOf (ops:List Oper):Anc:=ops.foldl (fun acc o=>acc++[(o.after.toList.filter (Region.binds .any)).foldl (fun l e=>(e.on::acc.getD e.on []).foldl (fun l j=>if l.contains j then l else j::l) l) []]) []
def ancOk (ops:List Oper) (A:Anc):Bool:=(List.range ops.length).all fun i=>match ops[i]? with
 | some o=>(A.getD i []).all fun a=>o.after.toList.any fun e=>Region.binds .any e && (a == e.on || (A.getD e.on []).contains a)
 | none=>true
def confOk (ops:List Oper) (A:Anc):Bool:=(List.range ops.length).all fun i=>match ops[i]? with
 | some o =>
  let l:=looks ops o
  (List.range ops.length).all fun j=>match (ops[j]?).bind (·.dst) with
   | some t=>!l.contains t || (i != j && ((A.getD i []).contains j || (A.getD j []).contains i))
   | none=>true
 | none=>true
def exts (A:Anc):Nat→List Nat→List (List Nat)
 | 0,_=>[[]]
 | _+1,[]=>[[]]
 | f+1,i::l=>(i::l).flatMap fun k=>if (i::l).any fun j=>(A.getD k []).contains j then [] else (exts A f ((i::l).erase k)).map (k :: ·)
def noDup:List Nat→Bool
 | []=>true
 | x::l=>!l.contains x && noDup l
structure Plan where
 ord:List Nat
 un:List (Nat × Nat)
def planOk (ops:List Oper) (A:Anc) (effs:List Nat) (pl:Plan):Bool :=
 let E:=pl.ord.filter effs.contains
 noDup pl.ord && (List.range ops.length).all pl.ord.contains && pl.ord.all (· < ops.length) &&
 ((List.range pl.ord.length).all fun p=>match pl.ord[p]? with
  | some i=>(A.getD i []).all fun a=>(pl.ord.take p).contains a
  | none=>true) &&
 ((List.range pl.ord.length).all fun p=>match pl.ord[p]? with
  | some i=>effs.contains i || ((ops[i]?).map (pureOp ·.op)).getD false ||
   (List.range (E.length+1)).all fun k =>
    k == ((pl.ord.take p).filter effs.contains).length || pl.un.contains (i,k) ||
    !((List.range E.length).all fun q=>match E[q]? with
     | some j=>(!(A.getD i []).contains j || decide (q<k)) && (!(A.getD j []).contains i || decide (k≤q))
     | none=>true)
  | none=>true) &&
 (pl.un.all fun (i,_)=>match ops[i]? with
  | some o =>
   let l:=looks ops o
   (List.range ops.length).all fun j=>match (ops[j]?).bind (·.dst) with
    | some t=>!l.contains t || (A.getD i []).contains j
    | none=>true
  | none=>true)
def drawOk (ops:List Oper) (effs:List Nat) (plans:List Plan):Bool :=
 let A:=ancsOf ops
 edgesBack ops && ancOk ops A && confOk ops A && noDup (dstsOf ops) && plans.all (planOk ops A effs) &&
 (exts A ops.length ((List.range ops.length).filter effs.contains)).all fun o=>plans.any fun pl=>pl.ord.filter effs.contains == o
theorem noDup_spec:∀ {l:List Nat},noDup l=true→l.Nodup:=by
 intro l
 induction l with
 | nil=>intro _;exact .nil
 | cons x l ih =>
  intro h
  simp only [noDup,Bool.and_eq_true,Bool.not_eq_true'] at h
  exact List.nodup_cons.2 ⟨by simpa using h.1,ih h.2⟩
section
variable {ops:List Oper} {A:Anc} {effs:List Nat}
def Clos (A:Anc) (done:List Nat):Prop:=∀ i ∈ done,∀ a ∈ A.getD i [],a ∈ done
theorem clos_step (hA:ancOk ops A=true) {done:List Nat} (hc:Clos A done) {i:Nat} (hi:∃ o,ops[i]? = some o∧∀ e ∈ o.after.toList,Region.binds .any e=true→e.on ∈ done):∀ a ∈ A.getD i [],a ∈ done:=by
 obtain ⟨o,ho,h⟩:=hi
 intro a ha
 have hlt:i<ops.length:=by
  rcases Nat.lt_or_ge i ops.length with q | q
  ·exact q
  ·rw [List.getElem?_eq_none q] at ho;cases ho
 have h1:=List.all_eq_true.1 hA i (List.mem_range.2 hlt)
 simp only [ho] at h1
 obtain ⟨e,he,h2⟩:=List.any_eq_true.1 (List.all_eq_true.1 h1 a ha)
 simp only [Bool.and_eq_true,Bool.or_eq_true,beq_iff_eq,List.contains_iff_mem] at h2
 have hon:=h e he h2.1
 rcases h2.2 with rfl | q
 ·exact hon
 ·exact hc _ hon a q
theorem clos_cons (hA:ancOk ops A=true) {done:List Nat} (hc:Clos A done) {i:Nat} (hi:∃ o,ops[i]? = some o∧∀ e ∈ o.after.toList,Region.binds .any e=true→e.on ∈ done):Clos A (i::done):=by
 intro j hj a ha
 rcases List.mem_cons.1 hj with rfl | hj
 ·exact .tail _ (clos_step hA hc hi a ha)
 ·exact .tail _ (hc j hj a ha)
theorem exts_mem (hA:ancOk ops A=true) (p:Nat→Bool):∀ (π done rem:List Nat) (f:Nat),LinE ops done π→Clos A done→rem.Nodup→(∀ i,i ∈ rem↔i<ops.length∧p i=true∧i ∉ done)→rem.length≤f →
  π.filter p ∈ exts A f rem:=by
 intro π
 induction π with
 | nil =>
  intro done rem f hl _ _ hr _
  have:rem=[]:=by
   cases rem with
   | nil=>rfl
   | cons x l=>exact absurd (hl x ((hr x).1 (.head _)).1) ((hr x).1 (.head _)).2.2
  subst this
  cases f <;> simp [exts]
 | cons i π ih =>
  intro done rem f hl hc hn hr hf
  obtain ⟨h1,h2,h3⟩:=hl
  have hlt:i<ops.length:=by
   obtain ⟨o,ho,_⟩:=h1
   rcases Nat.lt_or_ge i ops.length with q | q
   ·exact q
   ·rw [List.getElem?_eq_none q] at ho;cases ho
  cases hp:p i with
  | false =>
   rw [List.filter_cons_of_neg (by simp [hp])]
   refine ih (i::done) rem f h3 (clos_cons hA hc h1) hn (fun j=>?_) hf
   rw [hr j]
   constructor
   ·rintro ⟨a,b,c⟩;exact ⟨a,b,by simp only [List.mem_cons,not_or];exact ⟨fun q=>(by rw [q,hp] at b;cases b),c⟩⟩
   ·rintro ⟨a,b,c⟩;exact ⟨a,b,fun q=>c (.tail _ q)⟩
  | true =>
   rw [List.filter_cons_of_pos hp]
   have hi:i ∈ rem:=(hr i).2 ⟨hlt,hp,h2⟩
   cases rem with
   | nil=>cases hi
   | cons x l =>
    cases f with
    | zero=>simp at hf
    | succ f =>
     simp only [exts]
     refine List.mem_flatMap.2 ⟨i,hi,?_⟩
     have hno:((x::l).any fun j=>(A.getD i []).contains j)=false:=by
      rw [List.any_eq_false]
      intro j hj q
      exact ((hr j).1 hj).2.2 (clos_step hA hc h1 j (by simpa using q))
     rw [hno]
     simp only [Bool.false_eq_true,if_false]
     refine List.mem_map.2 ⟨_,ih (i::done) ((x::l).erase i) f h3 (clos_cons hA hc h1) (hn.erase i) (fun j=>?_) ?_,rfl⟩
     ·rw [hn.mem_erase_iff,hr j]
      simp only [List.mem_cons,not_or]
      constructor
      ·rintro ⟨a,b,c,d⟩;exact ⟨b,c,a,d⟩
      ·rintro ⟨a,b,c,d⟩;exact ⟨c,a,b,d⟩
     ·rw [List.length_erase_of_mem hi];omega
end
def chkO (P:Program) (full:List Oper) (o:Oper) (e:List D) (s:St):Prop :=
 match guardOf full o.guard with
 | some none=>stepW P o.op (val e) s fun d s'=>(∀ t,o.dst=some t→d=e.getD t .junk)∧s'=s
 | some (some (t,true))=>ifB (gdD true (e.getD t .junk)) (stepW P o.op (val e) s fun d s'=>(∀ t,o.dst=some t→d=e.getD t .junk)∧s'=s) True
 | some (some (t,false))=>ifB (gdD false (e.getD t .junk)) True (stepW P o.op (val e) s fun d s'=>(∀ t,o.dst=some t→d=e.getD t .junk)∧s'=s)
 | none=>False
def chkAll (P:Program) (full:List Oper) (e:List D) (sts:List St):List (Nat × Nat)→Prop
 | []=>True
 | (i,k)::un=>(match full[i]?,sts[k]? with
  | some o,some s=>chkO P full o e s
  | _,_=>False)∧chkAll P full e sts un
theorem chkAll_mem {P:Program} {full:List Oper} {e:List D} {sts:List St}:∀ {un:List (Nat × Nat)},chkAll P full e sts un→∀ i k,(i,k) ∈ un→∃ o s,full[i]? = some o∧sts[k]? = some s∧chkO P full o e s:=by
 intro un
 induction un with
 | nil=>intro _ i k h;cases h
 | cons x un ih =>
  obtain ⟨i0,k0⟩:=x
  intro h i k hm
  rcases List.mem_cons.1 hm with q | hm
  ·cases q
   have h1:=h.1
   split at h1
   ·rename_i o s h2 h3;exact ⟨o,s,h2,h3,h1⟩
   ·exact h1.elim
  ·exact ih h.2 i k hm
theorem chkO_step {P:Program} {full:List Oper} {o:Oper} {e:List D} {s:St} (h:chkO P full o e s) :
  ∃ d,OStep P full o e s d s∧((∃ t b,guardOf full o.guard=some (some (t,b))∧gdD b (e.getD t .junk)=.bool (!b)∧d=.tup []) ∨ ∀ t,o.dst=some t→d=e.getD t .junk):=by
 unfold chkO at h
 have hO:∀ d s',OStep P full o e s d s'=match guardOf full o.guard with
  | some none=>Step P o (val e) s d s'
  | some (some (t,b))=>(gdD b (e.getD t .junk)=.bool b∧Step P o (val e) s d s')∨(gdD b (e.getD t .junk)=.bool (!b)∧d=.tup []∧s'=s)
  | none=>False:=fun _ _=>rfl
 cases hg:guardOf full o.guard with
 | none=>rw [hg] at h;exact h.elim
 | some x =>
  rw [hg] at h
  cases x with
  | none =>
   obtain ⟨d,s',h1,h2,rfl⟩:=stepW_ok h
   exact ⟨d,by rw [hO,hg];exact h1,.inr h2⟩
  | some x =>
   obtain ⟨t,c⟩:=x
   cases c with
   | true =>
    rcases ifB_cases h with ⟨q,h⟩ | ⟨q,h⟩
    ·obtain ⟨d,s',h1,h2,rfl⟩:=stepW_ok h
     exact ⟨d,by rw [hO,hg];exact .inl ⟨q,h1⟩,.inr h2⟩
    ·exact ⟨.tup [],by rw [hO,hg];exact .inr ⟨q,rfl,rfl⟩,.inl ⟨t,true,rfl,q,rfl⟩⟩
   | false =>
    rcases ifB_cases h with ⟨q,h⟩ | ⟨q,h⟩
    ·exact ⟨.tup [],by rw [hO,hg];exact .inr ⟨q,rfl,rfl⟩,.inl ⟨t,false,rfl,q,rfl⟩⟩
    ·obtain ⟨d,s',h1,h2,rfl⟩:=stepW_ok h
     exact ⟨d,by rw [hO,hg];exact .inl ⟨q,h1⟩,.inr h2⟩
theorem ostep_skip {P:Program} {full:List Oper} {o:Oper} {e:List D} {s s':St} {d:D} {t:Nat} {b:Bool} (h:OStep P full o e s d s') (hg:guardOf full o.guard=some (some (t,b))) (hv:gdD b (e.getD t .junk)=.bool (!b)):d=.tup []:=by
 unfold OStep at h
 rw [hg] at h
 rcases h with ⟨h1,_⟩ | ⟨_,h2,_⟩
 ·rw [h1] at hv;cases b <;> cases hv
 ·exact h2
section
variable {P:Program} {ops:List Oper} {A:Anc} {effs:List Nat} {pl:Plan}
theorem lt_of_get {α:Type} {l:List α} {i:Nat} {x:α} (h:l[i]? = some x):i<l.length:=by
 rcases Nat.lt_or_ge i l.length with q | q
 ·exact q
 ·rw [List.getElem?_eq_none q] at h;cases h
theorem mem_dsts {l:List Nat} {t:Nat}:t ∈ dstsOf (l.map (ops.getD · default)) ↔ ∃ j ∈ l,(ops.getD j default).dst=some t:=by
 simp only [dstsOf,List.mem_filterMap,List.mem_map]
 constructor
 ·rintro ⟨o,⟨j,hj,rfl⟩,h⟩;exact ⟨j,hj,h⟩
 ·rintro ⟨j,hj,h⟩;exact ⟨_,⟨j,hj,rfl⟩,h⟩
theorem dsts_inj (hn:noDup (dstsOf ops)=true) {i j t:Nat} (hi:i<ops.length) (hj:j<ops.length) (h1:(ops.getD i default).dst=some t) (h2:(ops.getD j default).dst=some t):i=j:=by
 replace hn:=noDup_spec hn
 induction ops generalizing i j with
 | nil=>simp at hi
 | cons o l ih =>
  have hsub:∀ k,k<l.length→(l.getD k default).dst=some t→t ∈ dstsOf l:=fun k hk h=>List.mem_filterMap.2 ⟨l.getD k default,by simp [List.getD,List.getElem?_eq_getElem hk],h⟩
  unfold dstsOf at hn
  rw [List.filterMap_cons] at hn
  cases i with
  | zero =>
   cases j with
   | zero=>rfl
   | succ j =>
    simp only [List.getD_cons_zero,List.getD_cons_succ] at h1 h2
    rw [h1] at hn
    exact absurd (hsub j (by simpa using hj) h2) (List.nodup_cons.1 hn).1
  | succ i =>
   cases j with
   | zero =>
    simp only [List.getD_cons_zero,List.getD_cons_succ] at h1 h2
    rw [h2] at hn
    exact absurd (hsub i (by simpa using hi) h1) (List.nodup_cons.1 hn).1
   | succ j =>
    simp only [List.getD_cons_succ] at h1 h2
    have hn':(List.filterMap (·.dst) l).Nodup:=by
     split at hn
     ·exact hn
     ·exact (List.nodup_cons.1 hn).2
    rw [ih (by simpa using hi) (by simpa using hj) h1 h2 hn']
theorem confOk_spec (h:confOk ops A=true) {i j t:Nat} {o:Oper} (hi:ops[i]? = some o) (hj:j<ops.length) (hd:(ops.getD j default).dst=some t) (ht:t ∈ looks ops o):i≠j∧(j ∈ A.getD i []∨i ∈ A.getD j []):=by
 have h1:=List.all_eq_true.1 h i (List.mem_range.2 (lt_of_get hi))
 simp only [hi] at h1
 have h2:=List.all_eq_true.1 h1 j (List.mem_range.2 hj)
 have hj':ops[j]? = some (ops.getD j default):=by simp [List.getD,List.getElem?_eq_getElem hj]
 rw [hj',Option.bind_some,hd] at h2
 simpa [ht] using h2
structure PlanFacts (ops:List Oper) (A:Anc) (effs:List Nat) (pl:Plan):Prop where
 nd:pl.ord.Nodup
 all:∀ i,i<ops.length→i ∈ pl.ord
 lt:∀ i ∈ pl.ord,i<ops.length
 anc:∀ p i,pl.ord[p]? = some i→∀ a ∈ A.getD i [],a ∈ pl.ord.take p
 st:∀ p i,pl.ord[p]? = some i→effs.contains i=true∨((ops[i]?).map (pureOp ·.op)).getD false=true ∨ ∀ k,k≤(pl.ord.filter effs.contains).length →
  k=((pl.ord.take p).filter effs.contains).length∨(i,k) ∈ pl.un ∨ ¬ ∀ q j,(pl.ord.filter effs.contains)[q]? = some j→(j ∈ A.getD i []→q<k)∧(i ∈ A.getD j []→k≤q)
 rd:∀ i k,(i,k) ∈ pl.un→∀ o,ops[i]? = some o→∀ j t,j<ops.length→(ops.getD j default).dst=some t→t ∈ looks ops o→j ∈ A.getD i []
theorem planFacts (h:planOk ops A effs pl=true):PlanFacts ops A effs pl:=by
 unfold planOk at h
 simp only [Bool.and_eq_true] at h
 obtain ⟨⟨⟨⟨⟨h1,h2⟩,h3⟩,h4⟩,h5⟩,h6⟩:=h
 refine ⟨noDup_spec h1,fun i hi=>by simpa using List.all_eq_true.1 h2 i (List.mem_range.2 hi),fun i hi=>by simpa using List.all_eq_true.1 h3 i hi,fun p i hp a ha=>?_,fun p i hp=>?_,fun i k hm o ho j t hj hd ht=>?_⟩
 ·have:=List.all_eq_true.1 h4 p (List.mem_range.2 (lt_of_get hp))
  rw [hp] at this
  simpa using List.all_eq_true.1 this a ha
 ·have:=List.all_eq_true.1 h5 p (List.mem_range.2 (lt_of_get hp))
  rw [hp] at this
  simp only [Bool.or_eq_true] at this
  rcases this with (q | q) | q
  ·exact .inl q
  ·exact .inr (.inl q)
  ·refine .inr (.inr fun k hk=>?_)
   have:=List.all_eq_true.1 q k (List.mem_range.2 (by omega))
   simp only [Bool.or_eq_true,beq_iff_eq,List.contains_iff_mem,Bool.not_eq_true'] at this
   rcases this with (q1 | q1) | q1
   ·exact .inl q1
   ·exact .inr (.inl q1)
   ·refine .inr (.inr fun hall=>?_)
    rw [List.all_eq_false] at q1
    obtain ⟨x,hx,q1⟩:=q1
    apply q1
    have hx':=List.mem_range.1 hx
    rw [List.getElem?_eq_getElem hx']
    obtain ⟨a1,a2⟩:=hall x _ (List.getElem?_eq_getElem hx')
    simp only [Bool.and_eq_true,Bool.or_eq_true,Bool.not_eq_true',decide_eq_true_eq]
    refine ⟨?_,?_⟩
    ·by_cases c:(pl.ord.filter effs.contains)[x] ∈ A.getD i []
     ·exact .inr (a1 c)
     ·exact .inl (by simpa using c)
    ·by_cases c:i ∈ A.getD (pl.ord.filter effs.contains)[x] []
     ·exact .inr (a2 c)
     ·exact .inl (by simpa using c)
 ·have:=List.all_eq_true.1 h6 (i,k) hm
  simp only [ho] at this
  have:=List.all_eq_true.1 this j (List.mem_range.2 hj)
  have hj':ops[j]? = some (ops.getD j default):=by simp [List.getD,List.getElem?_eq_getElem hj]
  rw [hj',Option.bind_some,hd] at this
  simpa [ht] using this
end
theorem count_map {ef:Nat→Bool}:∀ (l:List Nat),(l.map ef).count true=(l.filter ef).length:=by
 intro l
 induction l with
 | nil=>rfl
 | cons x l ih =>
  rw [List.map_cons,List.count_cons,ih]
  cases h:ef x <;> simp [h]
theorem nodup_idx {l:List Nat} (h:l.Nodup) {i j x:Nat} (h1:l[i]? = some x) (h2:l[j]? = some x):i=j :=
 (List.getElem?_inj (lt_of_get h1) h).1 (h1.trans h2.symm)
theorem draw_sim {P:Program} {ops:List Oper} {A:Anc} {effs:List Nat} {pl:Plan} {e0 eF:List D} {s0:St} {sts:List St}
  (hA:ancOk ops A=true) (hC:confOk ops A=true) (hn:noDup (dstsOf ops)=true) (hp:PlanFacts ops A effs pl)
  (hT:Tr P ops (pl.ord.map effs.contains) (pl.ord.map (ops.getD · default)) e0 s0 eF sts) (hc:chkAll P ops eF sts pl.un) :
  ∀ (π done:List Nat) (e:List D) (s:St) (k:Nat),LinE ops done π→Clos A done→(∀ j ∈ done,j<ops.length)→e.length=e0.length →
   (∀ t,e[t]? = if t ∈ dstsOf (done.map (ops.getD · default)) then eF[t]? else e0[t]?)→sts[k]? = some s →
   π.filter effs.contains=(pl.ord.filter effs.contains).drop k→(∀ j ∈ done,effs.contains j=true→∃ q,q<k∧(pl.ord.filter effs.contains)[q]? = some j) →
   (∀ q j,q<k→(pl.ord.filter effs.contains)[q]? = some j→j ∈ done) →
   runOps P ops (π.map (ops.getD · default)) e s (fun e' s'=>e'=eF∧sts[(pl.ord.filter effs.contains).length]? = some s'):=by
 have hlen:=tr_len _ _ _ _ _ _ hT
 have hkeep:=tr_keep _ _ _ _ _ _ hT
 have hndO:(dstsOf (pl.ord.map (ops.getD · default))).Nodup:=by
  have:∀ (l:List Nat),l.Nodup→(∀ i ∈ l,i<ops.length)→(dstsOf (l.map (ops.getD · default))).Nodup:=by
   intro l
   induction l with
   | nil=>intro _ _;exact .nil
   | cons x l ih =>
    intro h1 h2
    have hr:=ih (List.nodup_cons.1 h1).2 fun i hi=>h2 i (.tail _ hi)
    unfold dstsOf at hr ⊢
    rw [List.map_cons,List.filterMap_cons]
    split
    ·exact hr
    ·rename_i t ht
     refine List.nodup_cons.2 ⟨fun hm=>?_,hr⟩
     obtain ⟨j,hj,hd⟩:=mem_dsts.1 (show t ∈ dstsOf (l.map (ops.getD · default)) from hm)
     have:=dsts_inj hn (h2 x (.head _)) (h2 j (.tail _ hj)) ht hd
     subst this
     exact (List.nodup_cons.1 h1).1 hj
  exact this _ hp.nd hp.lt
 have hat:=tr_at _ _ _ _ _ _ hT hndO
 have hEn:(pl.ord.filter effs.contains).Nodup:=hp.nd.filter _
 have hget:∀ {i o},ops[i]? = some o→ops.getD i default=o:=fun h=>by simp [List.getD,h]
 intro π
 induction π with
 | nil =>
  intro done e s k hl _ hlt hel he hs hπ _ _
  show e=eF∧_
  refine ⟨?_,?_⟩
  ·apply List.ext_getElem?
   intro t
   rw [he t]
   split
   ·rfl
   ·rename_i h
    refine (hkeep t fun hm=>h ?_).symm
    obtain ⟨j,hj,hd⟩:=mem_dsts.1 hm
    exact mem_dsts.2 ⟨j,hl j (hp.lt j hj),hd⟩
  ·have h1:=lt_of_get hs
   rw [hlen.2.1,count_map] at h1
   have h2:(pl.ord.filter effs.contains).length≤k:=List.drop_eq_nil_iff.1 hπ.symm
   rw [show (pl.ord.filter effs.contains).length=k by omega];exact hs
 | cons i π ih =>
  intro done e s k hl hcl hlt hel he hs hπ hd1 hd2
  obtain ⟨h1,h2,h3⟩:=hl
  obtain ⟨o,ho,hedge⟩:=id h1
  have hlti:=lt_of_get ho
  have hAi:=clos_step hA hcl h1
  have hclos:=clos_cons hA hcl h1
  obtain ⟨p,hpl,hpi⟩:=List.getElem_of_mem (hp.all i hlti)
  have hpi':pl.ord[p]? = some i:=by rw [List.getElem?_eq_getElem hpl,hpi]
  obtain ⟨ep,d,sp,sp',k1,k2,k3,k4,k5,k6⟩:=hat p o (effs.contains i) (by rw [List.getElem?_map,hpi'];simp [ho]) (by rw [List.getElem?_map,hpi'];rfl)
  rw [← List.map_take,count_map] at k2 k3
  rw [← List.map_take] at k5
  -- the slots that it looks at hold the same
  have hslot:∀ t ∈ looks ops o,ep.getD t .junk=e.getD t .junk:=by
   intro t ht
   have:ep[t]? = e[t]?:=by
    rw [k5 t,he t]
    have hiff:t ∈ dstsOf ((pl.ord.take p).map (ops.getD · default))↔t ∈ dstsOf (done.map (ops.getD · default)):=by
     rw [mem_dsts,mem_dsts]
     constructor
     ·rintro ⟨j,hj,hd⟩
      have hjo:j ∈ pl.ord:=List.mem_of_mem_take hj
      obtain ⟨hne,hor⟩:=confOk_spec hC ho (hp.lt j hjo) hd ht
      rcases hor with q | q
      ·exact ⟨j,hAi j q,hd⟩
      ·exfalso
       obtain ⟨r,hr,hrj⟩:=List.getElem_of_mem hj
       have hr':r<p:=by rw [List.length_take] at hr;omega
       rw [List.getElem_take] at hrj
       have hro:r<pl.ord.length:=by omega
       have hm:=hp.anc r j (by rw [List.getElem?_eq_getElem hro,hrj]) i q
       obtain ⟨u,hu,hui⟩:=List.getElem_of_mem hm
       rw [List.length_take] at hu
       rw [List.getElem_take] at hui
       have:=nodup_idx hp.nd (i:=u) (j:=p) (x:=i) (by rw [List.getElem?_eq_getElem (by omega),hui]) hpi'
       omega
     ·rintro ⟨j,hj,hd⟩
      obtain ⟨hne,hor⟩:=confOk_spec hC ho (hlt j hj) hd ht
      rcases hor with q | q
      ·exact ⟨j,hp.anc p i hpi' j q,hd⟩
      ·exact absurd (hcl j hj i q) h2
    by_cases c:t ∈ dstsOf (done.map (ops.getD · default))
    ·rw [if_pos c,if_pos (hiff.2 c)]
    ·rw [if_neg c,if_neg (fun q=>c (hiff.1 q))]
   simp [List.getD,this]
  -- the slots after it
  have hafter:∀ d',(∀ t,o.dst=some t→t<e0.length→eF[t]? = some d')→∀ t,(putD e o.dst d')[t]? = if t ∈ dstsOf ((i::done).map (ops.getD · default)) then eF[t]? else e0[t]?:=by
   intro d' hd' t
   have hm:t ∈ dstsOf ((i::done).map (ops.getD · default))↔o.dst=some t∨t ∈ dstsOf (done.map (ops.getD · default)):=by
    rw [mem_dsts,mem_dsts]
    constructor
    ·rintro ⟨j,hj,hd⟩
     rcases List.mem_cons.1 hj with rfl | hj
     ·rw [hget ho] at hd;exact .inl hd
     ·exact .inr ⟨j,hj,hd⟩
    ·rintro (q | ⟨j,hj,hd⟩)
     ·exact ⟨i,.head _,by rw [hget ho];exact q⟩
     ·exact ⟨j,.tail _ hj,hd⟩
   by_cases c:o.dst=some t
   ·rw [if_pos (hm.2 (.inl c)),c]
    simp only [putD]
    by_cases hte:t<e.length
    ·rw [hd' t c (hel ▸ hte)];simp [hte]
    ·rw [List.getElem?_eq_none (by simpa using Nat.le_of_not_lt hte),List.getElem?_eq_none (by have:=hlen.1;omega)]
   ·rw [putD_get c,he t]
    by_cases c2:t ∈ dstsOf (done.map (ops.getD · default))
    ·rw [if_pos c2,if_pos (hm.2 (.inr c2))]
    ·rw [if_neg c2,if_neg (fun q=>(hm.1 q).elim c c2)]
  have hlt':∀ j ∈ i::done,j<ops.length:=fun j hj=>by
   rcases List.mem_cons.1 hj with rfl | hj
   ·exact hlti
   ·exact hlt j hj
  rw [List.map_cons,hget ho]
  cases hef:effs.contains i with
  | true =>
   -- an effect: it comes where it came
   rw [List.filter_cons_of_pos hef] at hπ
   have hEk:(pl.ord.filter effs.contains)[k]? = some i:=by
    have:((pl.ord.filter effs.contains).drop k)[0]? = some i:=by rw [← hπ];rfl
    simpa using this
   have hEp:(pl.ord.filter effs.contains)[((pl.ord.take p).filter effs.contains).length]? = some i:=by
    have hsplit:pl.ord=pl.ord.take p++i::pl.ord.drop (p+1):=by
     rw [← hpi,List.getElem_cons_drop,List.take_append_drop]
    conv=>lhs;rw [show pl.ord.filter effs.contains=(pl.ord.take p).filter effs.contains++i::(pl.ord.drop (p+1)).filter effs.contains by
     conv=>lhs;rw [hsplit]
     rw [List.filter_append,List.filter_cons_of_pos hef]]
    rw [List.getElem?_append_right (Nat.le_refl _)];simp
   have hk:((pl.ord.take p).filter effs.contains).length=k:=nodup_idx hEn hEp hEk
   rw [hk] at k2 k3
   rw [hs] at k2
   cases k2
   refine runOps_of (ostep_congr hslot k1) (ih (i::done) _ sp' (k+1) h3 hclos hlt' (putD_length.trans hel) (hafter d k6) (k3 hef) ?_ ?_ ?_)
   ·have:(pl.ord.filter effs.contains).drop k=i::(pl.ord.filter effs.contains).drop (k+1):=by
     have a1:=lt_of_get hEk
     rw [List.getElem?_eq_getElem a1] at hEk
     rw [List.drop_eq_getElem_cons a1,Option.some.inj hEk]
    rw [this] at hπ
    exact (List.cons.inj hπ).2
   ·intro j hj hej
    rcases List.mem_cons.1 hj with rfl | hj
    ·exact ⟨k,by omega,hEk⟩
    ·obtain ⟨q,h4,h5⟩:=hd1 j hj hej;exact ⟨q,by omega,h5⟩
   ·intro q j hq hj
    rcases Nat.lt_or_ge q k with c | c
    ·exact .tail _ (hd2 q j c hj)
    ·obtain rfl:q=k:=by omega
     rw [hEk] at hj;cases hj;exact .head _
  | false =>
   rw [List.filter_cons_of_neg (by simp only [hef,Bool.false_eq_true,not_false_eq_true])] at hπ
   have cont:∀ d',OStep P ops o e s d' s→(∀ t,o.dst=some t→t<e0.length→eF[t]? = some d')→runOps P ops (o::π.map (ops.getD · default)) e s (fun e' s'=>e'=eF∧sts[(pl.ord.filter effs.contains).length]? = some s'):=by
    intro d' q1 q2
    refine runOps_of q1 (ih (i::done) _ s k h3 hclos hlt' (putD_length.trans hel) (hafter d' q2) hs hπ ?_ ?_)
    ·intro j hj hej
     rcases List.mem_cons.1 hj with rfl | hj
     ·rw [hef] at hej;cases hej
     ·exact hd1 j hj hej
    ·intro q j hq hj;exact .tail _ (hd2 q j hq hj)
   have hsp:=k4 hef
   subst hsp
   rcases hp.st p i hpi' with q | q | q
   ·rw [hef] at q;cases q
   ·rw [ho] at q
    exact cont d (ostep_congr hslot (ostep_pure (by simpa using q) k1 s)) k6
   ·have hkE:k≤(pl.ord.filter effs.contains).length:=by
     have h1:=lt_of_get hs
     rw [hlen.2.1,count_map] at h1
     omega
    rcases q k hkE with q | q | q
    ·rw [← q,hs] at k2
     cases k2
     exact cont d (ostep_congr hslot k1) k6
    ·obtain ⟨o',s',ho',hs',hchk⟩:=chkAll_mem hc i k q
     rw [ho] at ho';cases ho'
     rw [hs] at hs';cases hs'
     obtain ⟨d',hstep,hval⟩:=chkO_step hchk
     have hsl:∀ t ∈ looks ops o,eF.getD t .junk=e.getD t .junk:=by
      intro t ht
      have:eF[t]? = e[t]?:=by
       rw [he t]
       split
       ·rfl
       ·rename_i hnm
        refine hkeep t fun hm=>hnm ?_
        obtain ⟨j,hj,hd⟩:=mem_dsts.1 hm
        exact mem_dsts.2 ⟨j,hAi j (hp.rd i k q o ho j t (hp.lt j hj) hd ht),hd⟩
      simp [List.getD,this]
     refine cont d' (ostep_congr hsl hstep) fun t hdt htl=>?_
     rcases hval with ⟨u,b,hg,hgv,rfl⟩ | hval
     ·have hu:u ∈ looks ops o:=by unfold looks;rw [hg];simp
      have:=ostep_skip k1 hg (by rw [hslot u hu,← hsl u hu];exact hgv)
      rw [← this];exact k6 t hdt htl
     ·rw [k6 t hdt htl,hval t hdt]
      simp [List.getD,k6 t hdt htl]
    ·exfalso
     apply q
     intro r j hrj
     refine ⟨fun ha=>?_,fun ha=>?_⟩
     ·have hj:=hAi j ha
      have hmem:j ∈ pl.ord.filter effs.contains:=List.mem_of_getElem? hrj
      obtain ⟨u,h4,h5⟩:=hd1 j hj (List.mem_filter.1 hmem).2
      have:=nodup_idx hEn hrj h5
      omega
     ·apply Nat.le_of_not_lt
      intro hlt2
      exact h2 (hcl j (hd2 r j hlt2 hrj) i ha)
theorem awI_draws {ro:Option Nat} {P:Program} {id:Nat} {ops:Array Oper} {e:List D} {s:St} {Q:QC} (hm:P.follows .mixedOrders=true) (effs:List Nat) (plans:List Plan) (hok:drawOk ops.toList effs plans=true)
  (h:∀ pl ∈ plans,runD P ops.toList (pl.ord.map effs.contains) (pl.ord.map (ops.toList.getD · default)) e s [] fun e' s' ss=>chkAll P ops.toList e' (ss.reverse++[s']) pl.un∧Q.f .normal e' s') :
  @AWI ro P (.region id ops true) e s Q:=by
 unfold drawOk at hok
 simp only [Bool.and_eq_true] at hok
 obtain ⟨⟨⟨⟨⟨o1,o2⟩,o3⟩,o4⟩,o5⟩,o6⟩:=hok
 intro O0 a w g ha
 refine wpIn_region_draw fun t=>?_
 simp only [Region.schedule,hm,Bool.true_or,if_true,Region.linearise]
 have hlin:LinE ops.toList [] (Region.linearise.go .any ops ops.size t (Array.replicate ops.size false) []) :=
  linE_of o1 ops.size t _ [] (by simp) (fun i hi=>by simp [Array.getD,hi]) (by simp)
 generalize Region.linearise.go .any ops ops.size t (Array.replicate ops.size false) []=π at hlin
 have hmem:=exts_mem o2 effs.contains π [] ((List.range ops.toList.length).filter effs.contains) ops.toList.length hlin (fun i hi=>by cases hi) ((List.nodup_range).filter _) (fun i=>by simp) (by have:=List.length_filter_le effs.contains (List.range ops.toList.length);simp at this ⊢;exact this)
 obtain ⟨pl,hpl,heq⟩:=List.any_eq_true.1 (List.all_eq_true.1 o6 _ hmem)
 have heq:pl.ord.filter effs.contains=π.filter effs.contains:=by simpa using heq
 obtain ⟨eF,sF,ss,sts,hT,hst,hchk,hQ⟩:=runD_tr _ _ _ _ _ (h pl hpl)
 simp only [List.reverse_nil,List.nil_append] at hst
 rw [hst] at hchk
 have hp:=planFacts (List.all_eq_true.1 o5 pl hpl)
 have hrun:=draw_sim o2 o3 o4 hp hT hchk π [] e s 0 hlin (fun i hi=>by cases hi) (fun i hi=>by cases hi) rfl (fun t=>by simp [dstsOf]) (tr_len _ _ _ _ _ _ hT).2.2.2 (by simp [heq]) (fun j hj=>by cases hj) (fun q j hq=>by omega)
 have hlast:sts[(pl.ord.filter effs.contains).length]? = some sF:=by
  have hl:=(tr_len _ _ _ _ _ _ hT).2.1
  rw [count_map] at hl
  rw [← hst] at hl ⊢
  simp only [List.length_append,List.length_reverse,List.length_cons,List.length_nil] at hl
  rw [List.getElem?_append_right (by simp;omega)]
  simp only [List.length_reverse]
  rw [show (pl.ord.filter effs.contains).length - ss.length=0 by omega];rfl
 have hlt:∀ i ∈ π,i<ops.size:=by
  have:∀ (π done:List Nat),LinE ops.toList done π→∀ i ∈ π,i<ops.size:=by
   intro π
   induction π with
   | nil=>intro _ _ i hi;cases hi
   | cons j π ih =>
    intro done hl i hi
    rcases List.mem_cons.1 hi with rfl | hi
    ·obtain ⟨o,ho,_⟩:=hl.1;have:=lt_of_get ho;simpa using this
    ·exact ih _ hl.2.2 i hi
  exact this _ _ hlin
 refine runOps_ok (O0:=O0) π (π.map (ops.toList.getD · default)) (by simp) (fun i h1 h2=>?_) e s a _ g ha.mono hrun fun a' w' g' e' s' hle ha' hk=>⟨trivial,e',s',g',hle,ha',?_⟩
 ·have:=hlt π[i] (List.getElem_mem h1)
  simp [List.getD,this]
 ·obtain ⟨rfl,h2⟩:=hk
  rw [hlast] at h2;cases h2
  exact hQ
class TC where f:List D→St→List St→Prop
def tI (e:List D) (s:St) (ss:List St) [K:TC]:Prop:=K.f e s ss
def runDI (P:Program) (full:List Oper) (bs:List Bool) (os:List Oper) (e:List D) (s:St) (ss:List St) [K:TC]:Prop:=runD P full bs os e s ss K.f
def runDGI (P:Program) (full:List Oper) (b:Bool) (bs:List Bool) (os:List Oper) (dst:Option Tmp) (op:Op) (g:Option (Option (Nat × Bool))) (e:List D) (s:St) (ss:List St) [K:TC]:Prop :=
 match g with
 | some none=>stepW P op (val e) s fun d s'=>(b=true∨s'=s)∧runD P full bs os (putD e dst d) s' (bif b then s::ss else ss) K.f
 | some (some (t,true))=>ifB (gdD true (e.getD t .junk)) (stepW P op (val e) s fun d s'=>(b=true∨s'=s)∧runD P full bs os (putD e dst d) s' (bif b then s::ss else ss) K.f) (runD P full bs os (putD e dst (.tup [])) s (bif b then s::ss else ss) K.f)
 | some (some (t,false))=>ifB (gdD false (e.getD t .junk)) (runD P full bs os (putD e dst (.tup [])) s (bif b then s::ss else ss) K.f) (stepW P op (val e) s fun d s'=>(b=true∨s'=s)∧runD P full bs os (putD e dst d) s' (bif b then s::ss else ss) K.f)
 | none=>False
def revA:List St→List St→List St
 | [],acc=>acc
 | x::l,acc=>revA l (x::acc)
theorem revA_eq:∀ (l acc:List St),revA l acc=l.reverse++acc:=by
 intro l
 induction l with
 | nil=>intro acc;rfl
 | cons x l ih=>intro acc;simp [revA,ih]
@[reducible] def drawC (P:Program) (full:List Oper) (un:List (Nat × Nat)) (Q:QC):TC:=⟨fun e s ss=>chkAll P full e (ss.reverse++[s]) un∧Q.f .normal e s⟩
@[reducible] def opDC (P:Program) (full:List Oper) (b:Bool) (bs:List Bool) (os:List Oper) (dst:Option Tmp) (e:List D) (s:St) (ss:List St) (K:TC):DC :=
 ⟨fun d s'=>(b=true∨s'=s)∧runD P full bs os (putD e dst d) s' (bif b then s::ss else ss) K.f⟩
@[reducible] def runDC (P:Program) (full:List Oper) (bs:List Bool) (os:List Oper) (e:List D) (s:St) (ss:List St) (K:TC):PC:=⟨runD P full bs os e s ss K.f⟩
@[reducible] def qC (x:Exit) (e:List D) (s:St) (Q:QC):PC:=⟨Q.f x e s⟩
@[reducible] def trueC:PC:=⟨True⟩
@[reducible] def eqC (dst:Option Tmp) (e:List D) (s:St):DC:=⟨fun d s'=>(∀ t,dst=some t→d=e.getD t .junk)∧s'=s⟩
def chkG (P:Program) (g:Option (Option (Nat × Bool))) (dst:Option Tmp) (op:Op) (e:List D) (s:St):Prop :=
 match g with
 | some none=>stepW P op (val e) s (eqC dst e s).f
 | some (some (t,true))=>ifB (gdD true (e.getD t .junk)) (stepW P op (val e) s (eqC dst e s).f) True
 | some (some (t,false))=>ifB (gdD false (e.getD t .junk)) True (stepW P op (val e) s (eqC dst e s).f)
 | none=>False
def chk1 (P:Program) (full:List Oper) (o:Option Oper) (e:List D) (s:Option St):Prop :=
 match o,s with
 | some o,some s=>chkO P full o e s
 | _,_=>False
def drawOk1 (ops:List Oper) (bs:List Bool) (effs:List Nat) (un:List (Nat × Nat)):Bool:=drawOk ops effs [⟨List.range ops.length,un⟩] && bs == (List.range ops.length).map effs.contains
theorem range_getD (ops:List Oper):(List.range ops.length).map (ops.getD · default)=ops:=by
 apply List.ext_getElem
 ·simp
 ·intro i h1 h2;simp [List.getD,List.getElem?_eq_getElem h2]
theorem awI_draw {ro:Option Nat} {P:Program} {id:Nat} {ops:List Oper} {e:List D} {s:St} {Q:QC} (hm:P.follows .mixedOrders=true) (bs:List Bool) (effs:List Nat) (un:List (Nat × Nat)) (hok:drawOk1 ops bs effs un=true)
  (h:@runDI P ops bs ops e s [] (drawC P ops un Q)):@AWI ro P (.region id ops.toArray true) e s Q:=by
 unfold drawOk1 at hok
 simp only [Bool.and_eq_true,beq_iff_eq] at hok
 refine awI_draws hm effs [⟨List.range ops.length,un⟩] hok.1 fun pl hpl=>?_
 obtain rfl:=List.mem_singleton.1 hpl
 simp only [range_getD,← hok.2]
 exact h
theorem awI_drawM {ro:Option Nat} {P:Program} {id:Nat} {ops:List Oper} {e:List D} {s:St} {Q:QC} (hm:P.follows .mixedOrders=true) (effs:List Nat) (plans:List Plan) (hok:drawOk ops effs plans=true)
  (h:∀ pl ∈ plans,@runDI P ops (pl.ord.map effs.contains) (pl.ord.map (ops.getD · default)) e s [] (drawC P ops pl.un Q)):@AWI ro P (.region id ops.toArray true) e s Q :=
 awI_draws hm effs plans hok h
theorem tI_draw {P:Program} {full:List Oper} {un:List (Nat × Nat)} {Q:QC} {e:List D} {s:St} {ss:List St}:@tI e s ss (drawC P full un Q) = @needI (chkAll P full e (revA ss [s]) un) (qC .normal e s Q):=by
 rw [revA_eq];rfl
theorem eqC_none {e:List D} {s s':St} {d:D}:@dI d s' (eqC none e s)=(s'=s):=by
 show ((∀ t',(none:Option Tmp)=some t'→_)∧_)=_
 apply propext;constructor
 ·exact fun h=>h.2
 ·exact fun h=>⟨(fun t' ht=>by cases ht),h⟩
theorem vsDraw :
    (∀ (P:Program) (full:List Oper) (e:List D) (s:St) (ss:List St) (K:TC),@runDI P full [] [] e s ss K = @tI e s ss K) ∧
    (∀ (P:Program) (full:List Oper) (un:List (Nat × Nat)) (Q:QC) (e:List D) (s:St) (ss:List St),@tI e s ss (drawC P full un Q) = @needI (chkAll P full e (revA ss [s]) un) (qC .normal e s Q)) ∧
    (∀ (x:Exit) (e:List D) (s:St) (Q:QC),@pI (qC x e s Q) = @qI x e s Q) ∧
    (@pI trueC=True) ∧
    (∀ (P:Program) (full:List Oper) (b:Bool) (bs:List Bool) (os:List Oper) (e:List D) (s:St) (ss:List St) (K:TC) (dst:Option Tmp) (op:Op) (ty:TypeId) (pos:String) (after:Array Edge),
      @runDI P full (b::bs) ({ dst:=dst,op:=op,type:=ty,pos:=pos,after:=after,guard:=none }::os) e s ss K = @stepI P op e s (opDC P full b bs os dst e s ss K)) ∧
    (∀ (P:Program) (full:List Oper) (b:Bool) (bs:List Bool) (os:List Oper) (e:List D) (s:St) (ss:List St) (K:TC) (dst:Option Tmp) (op:Op) (ty:TypeId) (pos:String) (after:Array Edge) (j:Nat) (c:Bool),
      @runDI P full (b::bs) ({ dst:=dst,op:=op,type:=ty,pos:=pos,after:=after,guard:=some (j,c) }::os) e s ss K = @runDGI P full b bs os dst op (guardOf full (some (j,c))) e s ss K) ∧
    (∀ (P:Program) (full:List Oper) (b:Bool) (bs:List Bool) (os:List Oper) (dst:Option Tmp) (op:Op) (t:Nat) (e:List D) (s:St) (ss:List St) (K:TC),
      @runDGI P full b bs os dst op (some (some (t,true))) e s ss K=ifI (gdD true (e.getD t .junk)) (stepC P op e s (opDC P full b bs os dst e s ss K)) (runDC P full bs os (putD e dst (.tup [])) s (bif b then s::ss else ss) K)) ∧
    (∀ (P:Program) (full:List Oper) (b:Bool) (bs:List Bool) (os:List Oper) (dst:Option Tmp) (op:Op) (t:Nat) (e:List D) (s:St) (ss:List St) (K:TC),
      @runDGI P full b bs os dst op (some (some (t,false))) e s ss K=ifI (gdD false (e.getD t .junk)) (runDC P full bs os (putD e dst (.tup [])) s (bif b then s::ss else ss) K) (stepC P op e s (opDC P full b bs os dst e s ss K))) ∧
    (∀ (P:Program) (full:List Oper) (bs:List Bool) (os:List Oper) (e:List D) (s:St) (ss:List St) (K:TC),@pI (runDC P full bs os e s ss K) = @runDI P full bs os e s ss K) ∧
    (∀ (P:Program) (full:List Oper) (bs:List Bool) (os:List Oper) (dst:Option Tmp) (e:List D) (s:St) (ss:List St) (K:TC) (d:D) (s':St),
      @dI d s' (opDC P full true bs os dst e s ss K) = @runDI P full bs os (putD e dst d) s' (s::ss) K) ∧
    (∀ (P:Program) (full:List Oper) (bs:List Bool) (os:List Oper) (dst:Option Tmp) (e:List D) (s:St) (ss:List St) (K:TC) (d:D) (s':St),
      @dI d s' (opDC P full false bs os dst e s ss K) = @needI (s'=s) (runDC P full bs os (putD e dst d) s' ss K)) ∧
    (∀ (s:St),(s=s)=True) ∧
    (∀ (acc:List St),revA [] acc=acc)∧(∀ (x:St) (l acc:List St),revA (x::l) acc=revA l (x::acc)) ∧
    (∀ (P:Program) (full:List Oper) (e:List D) (sts:List St),chkAll P full e sts []=True) ∧
    (∀ (P:Program) (full:List Oper) (e:List D) (sts:List St) (i k:Nat) (un:List (Nat × Nat)),chkAll P full e sts ((i,k)::un)=(chk1 P full full[i]? e sts[k]?∧chkAll P full e sts un)) ∧
    (∀ (P:Program) (full:List Oper) (e:List D) (s:St) (dst:Option Tmp) (op:Op) (ty:TypeId) (pos:String) (after:Array Edge) (g:Option (Nat × Bool)),
      chk1 P full (some { dst:=dst,op:=op,type:=ty,pos:=pos,after:=after,guard:=g }) e (some s)=chkG P (guardOf full g) dst op e s) ∧
    (∀ (full:List Oper),guardOf full none=some none) ∧
    (∀ (P:Program) (dst:Option Tmp) (op:Op) (e:List D) (s:St),chkG P (some none) dst op e s = @stepI P op e s (eqC dst e s)) ∧
    (∀ (P:Program) (dst:Option Tmp) (op:Op) (e:List D) (s:St) (t:Nat),chkG P (some (some (t,true))) dst op e s=ifI (gdD true (e.getD t .junk)) (stepC P op e s (eqC dst e s)) trueC) ∧
    (∀ (P:Program) (dst:Option Tmp) (op:Op) (e:List D) (s:St) (t:Nat),chkG P (some (some (t,false))) dst op e s=ifI (gdD false (e.getD t .junk)) trueC (stepC P op e s (eqC dst e s))) ∧
    (∀ (t:Tmp) (e:List D) (s s':St) (d:D),@dI d s' (eqC (some t) e s)=(d=e.getD t .junk∧s'=s)) ∧
    (∀ (e:List D) (s s':St) (d:D),@dI d s' (eqC none e s)=(s'=s)) ∧
    (∀ (p:Prop),(True∧p)=p)∧(∀ (p:Prop),(p∧True)=p)∧(∀ (d:D),(d=d)=True) ∧
    (∀ (x:St) (l:List St),(x::l)[0]? = some x)∧(∀ (x:St) (l:List St) (n:Nat),(x::l)[n+1]? = l[n]?) ∧
    (∀ (x:Oper) (l:List Oper),(x::l)[0]? = some x)∧(∀ (x:Oper) (l:List Oper) (n:Nat),(x::l)[n+1]? = l[n]?):=by
  and_intros
  all_goals intros
  all_goals first
    | rfl
    | with_unfolding_all rfl
    | exact tI_draw
    | exact eqC_none
    | (show ((false=true∨_)∧_)=(_∧_);simp only [Bool.false_eq_true,false_or];rfl)
    | (show ((true=true∨_)∧_)=_;simp only [true_or,true_and];rfl)
    | (show ((∀ t',some _=some t'→_)∧_)=_;apply propext;constructor
       · exact fun h=>⟨h.1 _ rfl,h.2⟩
       · exact fun h=>⟨fun t' ht=>by cases ht;exact h.1,h.2⟩)
    | (show ((∀ t',none=some t'→_)∧_)=_;apply propext;constructor
       · exact fun h=>h.2
       · exact fun h=>⟨fun t' ht=>by cases ht,h⟩)
    | (simp;done)
    | trace_state
theorem setBox_loop {w:World} {g:G} {s:St} (h:WRel w g s) {b l:Nat} {r r':Loop} {bx:Box} (hl1:Live1 s b) (hb:g.B b=some l) (hh:w.heap[l]? = some (.loop r))
  (hbx:BoxOk { w with heap:=w.heap.setIfInBounds l (.loop r') } g b bx) :
  WRel { w with heap:=w.heap.setIfInBounds l (.loop r') } g { s with boxes:=s.boxes.set b bx }:=by
 have hl:=h.dom b l hb
 have hheap:∀ (c:Nat) (x:Obj),w.heap[c]? = some x→(∀ q,x≠Obj.loop q)→(w.heap.setIfInBounds l (.loop r'))[c]? = some x:=by
  intro c x hx hne
  rw [Array.getElem?_setIfInBounds_ne]
  ·exact hx
  ·intro e;subst e;rw [hh] at hx;cases hx;exact hne _ rfl
 have hne:∀ (c:Nat) ,c≠l→(w.heap.setIfInBounds l (Obj.loop r'))[c]? = w.heap[c]?:=fun c hc=>Array.getElem?_setIfInBounds_ne (by omega)
 have hcell:∀ a,World.cell? { w with heap:=w.heap.setIfInBounds l (.loop r') } a=w.cell? a:=by
  intro a
  simp only [World.cell?]
  by_cases e:a.block=l
  ·have hlt:=lt_of_heap hh
   rw [e,hh,Array.getElem?_setIfInBounds_self];simp [hlt]
  ·rw [Array.getElem?_setIfInBounds_ne (by omega)]
 refine { os:=h.os,tape:=h.tape,out:=h.out,fz:=fun a ha=>?_,n:=by have:=h.n;simp only [Array.size_setIfInBounds];exact this,old:=fun c hc=>?_,m:=fun c o v hm=>by rw [hcell];exact h.m c o v hm,box:=fun i x hi=>?_,inj:=fun j k c h1 h2 l1 l2=>h.inj j k c h1 h2 (l1.of_set hl1) (l2.of_set hl1),dom:=fun i c hi=>by have:=h.dom i c hi;simp only [Array.size_setIfInBounds,List.length_set];exact this,live:=fun k hk=>?_,uniq:=h.uniq,ldom:=h.ldom,o:=fun c hc=>⟨(h.o c hc).1,hheap c _ (h.o c hc).2 (by simp)⟩,nd:=h.nd,sz:=fun c n hc=>by obtain ⟨arr,T,fr,e1,e2⟩:=h.sz c n hc;exact ⟨arr,T,fr,hheap c _ e1 (by simp),e2⟩ }
 ·rw [← h.fz a ha]
  simp only [World.frozen?]
  by_cases e:a.block=l
  ·have hlt:=lt_of_heap hh
   rw [e,hh,Array.getElem?_setIfInBounds_self];simp [hlt]
  ·rw [Array.getElem?_setIfInBounds_ne (by omega)]
 ·show (w.heap.setIfInBounds l _)[c]? = _
  rw [hne c (by have:=hl.2.1;omega)]
  exact h.old c hc
 ·by_cases e:i=b
  ·subst e
   rw [List.getElem?_set_self hl.1] at hi
   cases hi
   exact hbx
  ·rw [List.getElem?_set_ne (by omega)] at hi
   have:=h.box i x hi
   cases x with
   | dead=>trivial
   | cells cs=>obtain ⟨c,arr,T,fr,h1,h2,h3⟩:=this;exact ⟨c,arr,T,fr,h1,hheap c _ h2 (by simp),h3⟩
   | map es=>obtain ⟨c,en,k,h1,h2,h3⟩:=this;exact ⟨c,en,k,h1,hheap c _ h2 (by simp),h3⟩
   | mapX es bs q=>obtain ⟨c,en,k,h1,h2,h3⟩:=this;exact ⟨c,en,k,h1,hheap c _ h2 (by simp),h3⟩
   | iter mb q sn=>obtain ⟨r,m,h1,h2,h3⟩:=this;exact ⟨r,m,h1,hheap r _ h2 (by simp),h3⟩
   | loop ps as bo e' st pe =>
    obtain ⟨c,fn,t,df,h1,h2,h3⟩:=this
    refine ⟨c,fn,t,df,h1,?_,h3⟩
    rw [hne c (by intro e2;subst e2;exact e (h.inj _ _ _ h1 hb ⟨_,hi,by simp⟩ hl1))];exact h2
 ·obtain ⟨a,len,cap,sz,h1,h2⟩:=h.live k hk
  refine ⟨a,len,cap,sz,h1,fun h3 h4=>?_⟩
  obtain ⟨c,off,arr,T,fr,h5,h6,h7,h8⟩:=h2 h3 h4
  exact ⟨c,off,arr,T,fr,h5,h6,hheap c _ h7 (by simp),h8⟩
theorem setLoop_self {w:World} {l:Nat} {r:Loop} {o:Obj} (hh:w.heap[l]? = some (.loop r)):({ w with heap:=w.heap.setIfInBounds l o }:World).heap[l]? = some o:=by
 have hlt:=lt_of_heap hh
 simp [hlt]
theorem WRel.loopSt {w:World} {g:G} {s:St} (h:WRel w g s) {b l:Nat} {ps:List Tmp} {as bo:Code} {e:List D} {st st':LoopState} {pd pd':Option Code} {r:Loop}
  (hi:s.boxes[b]? = some (.loop ps as bo e st pd)) (hb:g.B b=some l) (hh:w.heap[l]? = some (.loop r)) :
  r.state=st∧r.pending=pd∧r.params=ps.toArray∧r.assign=as∧r.body=bo∧EnvRel g e r.tmps ∧
  WRel { w with heap:=w.heap.setIfInBounds l (.loop { r with state:=st',pending:=pd' }) } g { s with boxes:=s.boxes.set b (.loop ps as bo e st' pd') }:=by
 obtain ⟨l',fn,t,df,h1,h2,h3,h4⟩:=h.box b _ hi
 obtain rfl:l'=l:=by rw [hb] at h1;cases h1;rfl
 rw [hh] at h2
 cases h2
 refine ⟨rfl,rfl,rfl,rfl,rfl,⟨h3,h4⟩,setBox_loop h ⟨_,hi,by simp⟩ hb hh ?_⟩
 exact ⟨l',fn,t,df,hb,setLoop_self hh,h3,h4⟩
theorem run_getLoop {P:Program} {w:World} {l:Nat} {r:Loop} (hh:w.heap[l]? = some (.loop r)):(Instr.getLoop l).run P w=.ok r w:=by
 simp [Instr.getLoop,getObj,Sem.run,hh]
theorem run_setObj {P:Program} {w:World} {l:Nat} {o:Obj} {r:Loop} (hh:w.heap[l]? = some (.loop r)):(setObj l o).run P w=.ok () { w with heap:=w.heap.setIfInBounds l o }:=by
 simp [setObj,Sem.run,hh]
theorem run_endRound {P:Program} {w:World} {l:Nat} {r:Loop} {j:Option Code} (hh:w.heap[l]? = some (.loop r)) :
  (Instr.endRound l j).run P w=.ok (.bool j.isNone) { w with heap:=w.heap.setIfInBounds l (.loop { r with state:=if j.isNone then .ready else .done,pending:=j }) }:=by
 simp only [Instr.endRound,Sem.run_bind,run_getLoop hh,Result.andThen_ok,run_setObj hh,Sem.run_pure]
theorem run_beginRound {P:Program} {w:World} {l:Nat} {r:Loop} (hh:w.heap[l]? = some (.loop r)) (hs:r.state=.ready) :
  (Instr.beginRound l).run P w=.ok () { w with heap:=w.heap.setIfInBounds l (.loop { r with state:=.busy }) }:=by
 simp only [Instr.beginRound,Sem.run_bind,run_getLoop hh,Result.andThen_ok,run_setObj hh,hs,Sem.run_pure]
def putArgs:List D→List Tmp→List D→List D
 | e,t::ts,d::ds=>putArgs (e.set t d) ts ds
 | e,_,_=>e
theorem putArgs_ok {g:G}:∀ (ps:List Tmp) (ds:List D) (vs:List Value) (e:List D) (tmps:Array Value),EnvRel g e tmps→ds.length=vs.length→(∀ (i:Nat) (h1:i<ds.length) (h2:i<vs.length),R g ds[i] vs[i]) →
  EnvRel g (putArgs e ps ds) ((ps.zip vs).foldl (fun tmps (t,a)=>tmps.setIfInBounds t a) tmps):=by
 intro ps
 induction ps with
 | nil=>intro ds vs e tmps h _ _;simpa [putArgs] using h
 | cons t ps ih =>
  intro ds vs e tmps h hl hR
  cases ds with
  | nil=>cases vs with
   | nil=>simpa [putArgs] using h
   | cons v vs=>simp at hl
  | cons d ds =>
   cases vs with
   | nil=>simp at hl
   | cons v vs =>
    simp only [putArgs,List.zip_cons_cons,List.foldl_cons]
    refine ih ds vs _ _ ?_ (by simpa using hl) (fun i h1 h2=>by have:=hR (i+1) (by simp;omega) (by simp;omega);simpa using this)
    exact EnvRel.put (a:=⟨tmps,[]⟩) h (some t) (hR 0 (by simp) (by simp))
def roundQQ (b:Nat) (ps:List Tmp) (as bo:Code) (e:List D) (s:St) (Z:D→St→Prop):Exit→List D→St→Prop
 | .normal,_,t=>∃ s',Z (.bool true) s'∧(∃ st pd,t.boxes[b]? = some (.loop ps as bo e st pd))∧Leave s { t with boxes:=t.boxes.set b (.loop ps as bo e .ready none) } s'
 | .ret,_,t=>∃ s',Z (.bool false) s'∧(∃ st pd,t.boxes[b]? = some (.loop ps as bo e st pd))∧Leave s { t with boxes:=t.boxes.set b (.loop ps as bo e .done (some .ret)) } s'
 | .exit id,_,t=>∃ s',Z (.bool false) s'∧(∃ st pd,t.boxes[b]? = some (.loop ps as bo e st pd))∧Leave s { t with boxes:=t.boxes.set b (.loop ps as bo e .done (some (.exit id))) } s'
 | _,_,_=>False
def roundQ (b:Nat) (ps:List Tmp) (as bo:Code) (e:List D) (s:St) (r:D) (s':St):Exit→List D→St→Prop
 | .normal,_,t=>r=.bool true∧(∃ st pd,t.boxes[b]? = some (.loop ps as bo e st pd))∧Leave s { t with boxes:=t.boxes.set b (.loop ps as bo e .ready none) } s'
 | .ret,_,t=>r=.bool false∧(∃ st pd,t.boxes[b]? = some (.loop ps as bo e st pd))∧Leave s { t with boxes:=t.boxes.set b (.loop ps as bo e .done (some .ret)) } s'
 | .exit id,_,t=>r=.bool false∧(∃ st pd,t.boxes[b]? = some (.loop ps as bo e st pd))∧Leave s { t with boxes:=t.boxes.set b (.loop ps as bo e .done (some (.exit id))) } s'
 | _,_,_=>False
theorem roundQ_Q {b:Nat} {ps:List Tmp} {as bo:Code} {e:List D} {s:St} {r:D} {s':St} {x:Exit} {e1:List D} {t:St} (h:roundQ b ps as bo e s r s' x e1 t):roundQQ b ps as bo e s (one r s') x e1 t:=by
 cases x <;> first
  | exact h.elim
  | (obtain ⟨h1,h2,h3⟩:=h;exact ⟨s',⟨h1.symm,rfl⟩,h2,h3⟩)
theorem round_end {P:Program} {b l:Nat} {ps:List Tmp} {as bo:Code} {e:List D} {s t s':St} {w0 w:World} {g0 g:G} {j:Option Code} {Z:D→St→Prop} (hZ:Z (.bool j.isNone) s') (h0:WRel w0 g0 s) (hg:g0.le g) (hw:WRel w g t) (hl:g.B b=some l)
  (hb:∃ st pd,t.boxes[b]? = some (.loop ps as bo e st pd)) (hL:Leave s { t with boxes:=t.boxes.set b (.loop ps as bo e (if j.isNone then .ready else .done) j) } s') :
  ∃ v w',(Instr.endRound l j).run P w=.ok v w'∧Back g0 Z (.returned v) w':=by
 obtain ⟨st,pd,hb⟩:=hb
 obtain ⟨l',fn,tm,df,h1,h2,h3,h4⟩:=hw.box b _ hb
 obtain rfl:l'=l:=by rw [hl] at h1;cases h1;rfl
 obtain ⟨_,_,_,_,_,_,hw'⟩:=hw.loopSt (st':=if j.isNone then .ready else .done) (pd':=j) hb hl h2
 refine ⟨_,_,run_endRound h2,?_⟩
 obtain ⟨k1,k2⟩:=hL.wrel h0 hg hw'
 exact ⟨_,_,_,_,hZ,rfl,k1,k2,.bool _⟩
theorem YSemQ.intro {P:Program} {b:Nat} {args:List D} {s:St} {Z:D→St→Prop} {ps:List Tmp} {as bo:Code} {e:List D} {pd:Option Code} (hb:s.boxes[b]? = some (.loop ps as bo e .ready pd)) (hlen:args.length=ps.length)
  (h:∀ l,AWp (some l) P as (thenQ (fun e1 s1=>∃ pd1,s1.boxes[b]? = some (.loop ps as bo e .ready pd1) ∧
    AWp (some l) P bo (roundQQ b ps as bo e s Z) e1 { s1 with boxes:=s1.boxes.set b (.loop ps as bo e .busy pd1) }) fun _ _ _=>False) (putArgs e ps args) s):YSemQ P b args s Z:=by
 intro vs w g l hl hargs hw
 obtain ⟨l',fn,tm,df,h1,h2,h3,h4⟩:=hw.box b _ hb
 obtain rfl:l'=l:=by rw [hl] at h1;cases h1;rfl
 have hsz:vs.size=ps.length:=by rw [← hargs.1,hlen]
 refine ⟨fn,(ps.zip vs.toList).foldl (fun tmps (t,a)=>tmps.setIfInBounds t a) tm,as,bo,w,?_,?_⟩
 ·simp only [Instr.yield,Sem.run_bind,run_getLoop h2,Result.andThen_ok]
  rw [if_neg (by simp [hsz])]
  simp only [Sem.run_pure,← Array.foldl_toList,Array.toList_zip]
 ·refine roundIn_of_wpIn trivial ?_
  have hE:EnvRel g (putArgs e ps args) ((ps.zip vs.toList).foldl (fun tmps (t,a)=>tmps.setIfInBounds t a) tm) :=
   putArgs_ok ps args vs.toList e tm ⟨h3,h4⟩ (by simpa using hargs.1) (fun i x y=>by have:=hargs.2 i x (by simpa using y);simpa using this)
  refine wpIn_mono (h l' g.O ⟨_,[]⟩ w g ⟨hE,hw,fun _ h=>h,[],by simp,by simp,rfl⟩) fun x a1 w1 hc=>?_
  obtain ⟨hx,e1,s1,g1,hle1,ha1,hq⟩:=hc
  cases x <;> try exact hq.elim
  obtain ⟨pd1,hb1,hbody⟩:=hq
  obtain ⟨l2,fn2,tm2,df2,h12,h22,h32,h42⟩:=ha1.wr.box b _ hb1
  obtain rfl:l2=l':=by rw [hle1.B _ _ hl] at h12;cases h12;rfl
  obtain ⟨_,_,_,_,_,_,hw1⟩:=ha1.wr.loopSt (st':=.busy) (pd':=pd1) hb1 h12 h22
  refine ⟨_,run_beginRound h22 rfl,?_⟩
  have ha2:ARel g.O a1 { w1 with heap:=w1.heap.setIfInBounds l2 (.loop { state:=.busy,pending:=pd1,fn:=fn2,tmps:=tm2,params:=ps.toArray,assign:=as,body:=bo,defers:=df2 }) } g1 e1 { s1 with boxes:=s1.boxes.set b (.loop ps as bo e .busy pd1) } :=
   ⟨ha1.env,hw1,ha1.sub,ha1.df⟩
  refine wpIn_mono (hbody g.O a1 _ g1 ha2) fun x a2 w2 hc=>?_
  obtain ⟨hx,e2,s2,g2,hle2,ha3,hq⟩:=hc
  have hl2:=hle2.B _ _ h12
  have hle:g.le g2:=hle1.trans hle2
  cases x <;> try exact hq.elim
  ·obtain ⟨s',q1,q2,q3⟩:=hq;exact round_end (j:=none) q1 hw hle ha3.wr hl2 q2 q3
  ·obtain ⟨s',q1,q2,q3⟩:=hq;exact round_end (j:=some (.exit _)) q1 hw hle ha3.wr hl2 q2 q3
  ·obtain ⟨s',q1,q2,q3⟩:=hq;exact round_end (j:=some .ret) q1 hw hle ha3.wr hl2 q2 q3
theorem YSem.intro {P:Program} {b:Nat} {args:List D} {s s':St} {r:D} {ps:List Tmp} {as bo:Code} {e:List D} {pd:Option Code} (hb:s.boxes[b]? = some (.loop ps as bo e .ready pd)) (hlen:args.length=ps.length)
  (h:∀ l,AWp (some l) P as (thenQ (fun e1 s1=>∃ pd1,s1.boxes[b]? = some (.loop ps as bo e .ready pd1) ∧
    AWp (some l) P bo (roundQ b ps as bo e s r s') e1 { s1 with boxes:=s1.boxes.set b (.loop ps as bo e .busy pd1) }) fun _ _ _=>False) (putArgs e ps args) s):YSem P b args s r s' :=
 YSemQ.intro hb hlen fun l=>(h l).mono (thenQ_mono fun e1 s1 ⟨pd1,h1,h2⟩=>⟨pd1,h1,h2.mono fun _ _ _ h=>roundQ_Q h⟩)
def G.addO (g:G) (b:Nat):G:={ g with O:=fun c=>g.O c∨c=b }
theorem addO_le {g:G} {b:Nat}:g.le (g.addO b):=⟨rfl,fun _ _ _ h=>h,fun _ _ h=>h,fun _ _ h=>h,fun _ h=>.inl h,fun _ _ h=>h⟩
theorem WRel.newMark {w:World} {g:G} {s:St} (h:WRel w g s):WRel (w.alloc (.deferred (some []))) (g.addO w.heap.size) s:=by
 have h':=h.alloc (.deferred (some [])) rfl
 refine { os:=h'.os,tape:=h'.tape,out:=h'.out,fz:=h'.fz,n:=h'.n,old:=h'.old,m:=h'.m,box:=fun i bx hi=>(h'.box i bx hi).mono addO_le (fun _ _ h=>h),inj:=h'.inj,dom:=h'.dom,live:=h'.live,uniq:=h'.uniq,ldom:=h'.ldom,o:=?_,nd:=h'.nd,sz:=h'.sz }
 rintro b (hb | rfl)
 ·exact h'.o b hb
 ·exact ⟨h.n,heap_alloc_new w _⟩
theorem run_enterLoopV {P:Program} {fn:FuncId} {tmps:Array Value} {ps:Array Tmp} {as bo:Code} (w:World) :
  (Instr.enterLoop fn tmps ps as bo none).run P w=.ok (w.heap.size+1,[{ target:=.collected w.heap.size,args:=#[] }])
   ((w.alloc (.deferred (some []))).alloc (.loop { state:=.ready,pending:=none,fn,tmps,params:=ps,assign:=as,body:=bo,defers:=w.heap.size })):=by
 simp [Instr.enterLoop,World.alloc_eq]
theorem run_endLoop {P:Program} {w:World} {l:Nat} {r:Loop} (hh:w.heap[l]? = some (.loop r)) (hs:r.state≠.busy) :
  (Instr.endLoop l).run P w=.ok r.pending { w with heap:=w.heap.setIfInBounds l (.loop { r with state:=.exhausted }) }:=by
 have:(r.state == .busy)=false:=by cases h:r.state <;> first | rfl | exact absurd h hs
 simp only [Instr.endLoop,Sem.run_bind,run_getLoop hh,Result.andThen_ok,this,Bool.false_eq_true,if_false,Sem.run_pure,run_setObj hh]
def overQ (P:Program) (ps:List Tmp) (as bo:Code) (Q:Exit→List D→St→Prop) (e:List D) (b:Nat) (s1:St):Prop :=
 ∃ st pd,s1.boxes[b]? = some (.loop ps as bo e st pd)∧st≠.busy∧match (generalizing:=false) pd with
   | none=>Q .normal e { s1 with boxes:=s1.boxes.set b .dead }
   | some c=>AWp none P c Q e { s1 with boxes:=s1.boxes.set b .dead }
theorem awp_rangeFuncQ {P:Program} {f:Operand} {ps:List Tmp} {as bo:Code} {Q:Exit→List D→St→Prop} {e:List D} {s:St} {k:FuncId} {fi ca:List D} {Z:D→St→Prop}
  (hf:val e f=.func (.func k) fi ca)
  (hs:SpecQ P k (fi++([.yield s.boxes.length]++ca)) { s with boxes:=s.boxes++[.loop ps as bo e .ready none] } Z)
  (hz:∀ r s1,Z r s1→overQ P ps as bo Q e s.boxes.length s1):AWp none P (.rangeFunc f ps.toArray as bo) Q e s:=by
 intro O0 a w g ha
 refine wpIn_rangeFunc fun fn _=>?_
 have hfv:=val_ok ha.env f
 rw [hf] at hfv
 cases hav:a.eval f <;> rw [hav] at hfv <;> cases hfv
 rename_i vf vc h1 hrf h2 hrc
 have hw0:=ha.wr.newMark
 obtain ⟨hle1,hw1⟩:=hw0.newBox (.loop { state:=.ready,pending:=none,fn,tmps:=a.tmps,params:=ps.toArray,assign:=as,body:=bo,defers:=w.heap.size }) rfl (.loop ps as bo e .ready none)
  ⟨_,fn,a.tmps,w.heap.size,by simp [G.addB],heap_alloc_new _ _,ha.env.1,fun j x y=>(ha.env.2 j x y).mono (addO_le.trans (addB_le (B_none hw0 (Nat.le_refl _))))⟩
 rw [World.size_alloc] at hle1 hw1
 generalize hg1:(g.addO w.heap.size).addB s.boxes.length (w.heap.size+1)=g1 at hle1 hw1
 have hle:g.le g1:=addO_le.trans hle1
 have hB1:g1.B s.boxes.length=some (w.heap.size+1):=by rw [← hg1];simp [G.addB]
 have hO1:g1.O w.heap.size:=by rw [← hg1];exact .inr rfl
 have hall:ArgsR g1 (fi++([.yield s.boxes.length]++ca)) (vf ++ #[.func (.yield (w.heap.size+1)) #[] #[]]++vc):=by
  refine ⟨by simp;omega,fun i x1 x2=>?_⟩
  by_cases c1:i<fi.length
  ·rw [List.getElem_append_left c1,Array.getElem_append_left (by simp;omega),Array.getElem_append_left (by omega)];exact (hrf i c1 _).mono hle
  ·by_cases c2:i<fi.length+1
   ·rw [List.getElem_append_right (by omega),List.getElem_append_left (by simp;omega),Array.getElem_append_left (by simp;omega),Array.getElem_append_right (by omega)]
    have hi0:i - fi.length=0:=by omega
    have hi1:i - vf.size=0:=by omega
    simp only [hi0,hi1,List.getElem_cons_zero]
    exact .yield _ _ hB1
   ·rw [List.getElem_append_right (by omega),List.getElem_append_right (by simp;omega),Array.getElem_append_right (by simp;omega)]
    have e:i - fi.length - [D.yield s.boxes.length].length=i - (vf ++ #[Value.func (.yield (w.heap.size+1)) #[] #[]]).size:=by simp;omega
    simp only [e]
    exact (hrc _ _ _).mono hle
 obtain ⟨hent,hsem⟩:=hs _ _ g1 hall hw1
 have hen:=run_enterLoopV (P:=P) (fn:=fn) (tmps:=a.tmps) (ps:=ps.toArray) (as:=as) (bo:=bo) w
 generalize (w.alloc (.deferred (some []))).alloc (.loop { state:=.ready,pending:=none,fn,tmps:=a.tmps,params:=ps.toArray,assign:=as,body:=bo,defers:=w.heap.size })=w1 at hw1 hsem hen
 refine ⟨w.heap.size+1,[{ target:=.collected w.heap.size,args:=#[] }],w1,{ target:=.fn (.func k) vc,args:=vf ++ #[.func (.yield (w.heap.size+1)) #[] #[]] },w1,k,vf ++ #[.func (.yield (w.heap.size+1)) #[] #[]]++vc,w1,hen,?_,fun _ _=>trivial,?_,fun h=>(by cases h),?_⟩
 ·simp only [resolve,hav,Deferred.ofValue,Sem.run_pure];simp [Act.eval]
 ·simp only [invoke];exact hent _ _
 ·refine hsem.mono fun en w' hbk=>?_
  obtain ⟨v,g2,r,s1,hZ,rfl,hle2,hw2,hRv⟩:=hbk
  obtain ⟨st,pd,hb,hst,hq⟩:=hz r s1 hZ
  obtain ⟨l',fn',tm,df,h3,h4,h5,h6⟩:=hw2.box _ _ hb
  obtain rfl:l'=w.heap.size+1:=by rw [hle2.B _ _ hB1] at h3;cases h3;rfl
  refine ⟨_,_,run_endLoop h4 hst,?_⟩
  have hw3:=setBox_loop (r':={ state:=.exhausted,pending:=pd,fn:=fn',tmps:=tm,params:=ps.toArray,assign:=as,body:=bo,defers:=df }) (bx:=.dead) hw2 ⟨_,hb,by simp⟩ (hle2.B _ _ hB1) h4 trivial
  have ha3:∀ w4 s4,WRel w4 g2 s4→ARel O0 { a with defers:=[{ target:=.collected w.heap.size,args:=#[] }]++a.defers } w4 g2 e s4:=by
   intro w4 s4 hw3
   obtain ⟨bs,hnd,hbs,hdf⟩:=ha.df
   have hnew:∀ c,g.O c→c≠w.heap.size:=fun c hc e=>by have:=lt_of_heap (ha.wr.o c hc).2;omega
   refine ⟨ha.env.mono (hle.trans hle2),hw3,fun b hb=>(hle.trans hle2).O b (ha.sub b hb),w.heap.size::bs,List.nodup_cons.2 ⟨fun hm=>hnew _ (hbs _ hm).1 rfl,hnd⟩,?_,by simp [hdf]⟩
   intro b hb
   rcases List.mem_cons.1 hb with rfl | hb
   ·exact ⟨hle2.O _ hO1,fun ho=>hnew _ (ha.sub _ ho) rfl⟩
   ·exact ⟨(hle.trans hle2).O _ (hbs b hb).1,(hbs b hb).2⟩
  cases pd with
  | none=>exact ⟨trivial,e,_,g2,hle.trans hle2,ha3 _ _ hw3,hq⟩
  | some c=>exact wpIn_mono (hq O0 _ _ g2 (ha3 _ _ hw3)) fun _ _ _ hc=>conc_mono (hle.trans hle2) (fun _ _ _ h=>h) hc
structure Wf (s:St):Prop where
 nd:s.live.Nodup
 lt:∀ k ∈ s.live,k<s.ctr
theorem WRel.wf {w:World} {g:G} {s:St} (h:WRel w g s):Wf s:=⟨h.nd,fun k hk=>by obtain ⟨_,_,_,_,e1,_⟩:=h.live k hk;exact h.ldom k _ e1⟩
theorem Spec.wf {P:Program} {f:FuncId} {args:List D} {s s':St} {r:D} (h:Wf s→Spec P f args s r s'):Spec P f args s r s':=fun vs w g ha hw=>h hw.wf vs w g ha hw
theorem YSem.wf {P:Program} {b:Nat} {args:List D} {s s':St} {r:D} (h:Wf s→YSem P b args s r s'):YSem P b args s r s':=fun vs w g l hl ha hw=>h hw.wf vs w g l hl ha hw
theorem AWp.wf {ro:Option Nat} {P:Program} {c:Code} {Q:Exit→List D→St→Prop} {e:List D} {s:St} (h:Wf s→AWp ro P c Q e s):AWp ro P c Q e s:=fun O0 a w g ha=>h ha.wr.wf O0 a w g ha
theorem YSem.small {P:Program} {b:Nat} {args:List D} {s s':St} {r:D} (h:(∀ d ∈ args,Small d)→YSem P b args s r s'):YSem P b args s r s':=by
 intro vs w g l hl ha hw
 exact h (fun d hd=>by obtain ⟨i,hi,rfl⟩:=List.getElem_of_mem hd;exact .of_R (ha.2 i hi (by have:=ha.1;omega))) vs w g l hl ha hw
inductive DrawX where
 | text (bs:List Bool) (un:List (Nat × Nat))
 | stop
 | meet
 | cut
 | cutT (bs:List Bool) (un:List (Nat × Nat))
abbrev Draws:=List (Nat × DrawX)
def findX (id:Nat):Draws→Option DrawX
 | []=>none
 | (i,x)::l=>bif i == id then some x else findX id l
def readOp:Op→Bool
 | .load .. => true
 | .lookup .. => true
 | .call { callee:=.builtin .len,args:=_,argTypes:=_ }=>true
 | .call { callee:=.builtin .min,args:=_,argTypes:=_ }=>true
 | .call { callee:=.builtin .max,args:=_,argTypes:=_ }=>true
 | _=>false
def effOf (os:List Oper):List Bool:=os.map fun o=>!(pureOp o.op || readOp o.op)
def bsEffs (bs:List Bool):List Nat:=(List.range bs.length).filter fun i=>bs.getD i false
def regOk (x:Option DrawX) (ops:List Oper):Bool :=
 match x with
 | none=>drawOk1 ops (effOf ops) (bsEffs (effOf ops)) []
 | some (.text bs un)=>drawOk1 ops bs (bsEffs bs) un
 | some .stop=>true
 | some .meet=>drawOk1 ops (effOf ops) (bsEffs (effOf ops)) []
 | some .cut=>drawOk1 ops (effOf ops) (bsEffs (effOf ops)) []
 | some (.cutT bs un)=>drawOk1 ops bs (bsEffs bs) un
def drawsOk (X:Draws):Code→Bool
 | .seq a b=>drawsOk X a && drawsOk X b
 | .cond _ a b=>drawsOk X a && drawsOk X b
 | .block _ b=>drawsOk X b
 | .loop b=>drawsOk X b
 | .rangeFunc _ _ a b=>drawsOk X a && drawsOk X b
 | .region id ops true=>regOk (findX id X) ops.toList
 | _=>true
theorem read_eval {P:Program} {ρ:Operand→D} {s s':St} {op:Op} {d:D} (hp:(pureOp op || readOp op)=true) (h:evalOp P ρ s op=some (d,s')):s'=s:=by
 rcases Bool.or_eq_true _ _ ▸ hp with hp | hp
 ·exact (pure_eval hp h).1
 ·unfold readOp at hp
  split at hp
  ·simp only [evalOp] at h;obtain ⟨x,_,e⟩:=map_some h;cases e;rfl
  ·simp only [evalOp] at h;obtain ⟨x,_,e⟩:=map_some h;cases e;rfl
  ·simp only [evalOp,evBuiltin] at h
   split at h
   all_goals first
    | (obtain ⟨x,_,e⟩:=map_some h;cases e;rfl)
    | (cases h;done)
    | simp_all
  ·simp only [evalOp,evBuiltin] at h
   split at h
   all_goals first
    | (obtain ⟨x,_,e⟩:=map_some h;cases e;rfl)
    | (cases h;done)
    | simp_all
  ·simp only [evalOp,evBuiltin] at h
   split at h
   all_goals first
    | (obtain ⟨x,_,e⟩:=map_some h;cases e;rfl)
    | (cases h;done)
    | simp_all
  ·cases hp
theorem stepW_eff {P:Program} {op:Op} {ρ:Operand→D} {s:St} {K:D→St→Prop} {b:Bool} (hb:b = !(pureOp op || readOp op)) (h:stepW P op ρ s K):stepW P op ρ s fun d s'=>(b=true∨s'=s)∧K d s':=by
 cases b with
 | true =>
  unfold stepW at h ⊢
  split
  ·obtain ⟨d,s',h1,h2⟩:=h;exact ⟨d,s',h1,.inl rfl,h2⟩
  ·rename_i hne
   split at h
   ·rename_i f args ts;exact (hne f args ts rfl).elim
   ·obtain ⟨d,s',h1,h2⟩:=optW_iff.1 h;exact optW_iff.2 ⟨d,s',h1,.inl rfl,h2⟩
 | false =>
  have hp:(pureOp op || readOp op)=true:=by cases h2:(pureOp op || readOp op) <;> simp_all
  unfold stepW at h ⊢
  split
  ·rename_i f args ts
   simp [pureOp,readOp] at hp
  ·rename_i hne
   split at h
   ·rename_i f args ts;exact (hne f args ts rfl).elim
   ·obtain ⟨d,s',h1,h2⟩:=optW_iff.1 h;exact optW_iff.2 ⟨d,s',h1,.inr (read_eval hp h1),h2⟩
theorem runD_of {P:Program} {full:List Oper} {K:List D→St→Prop}:∀ (os:List Oper) (e:List D) (s:St) (ss:List St),runOps P full os e s K→runD P full (effOf os) os e s ss (fun e s _=>K e s):=by
 intro os
 induction os with
 | nil=>intro e s ss h;exact h
 | cons o os ih =>
  intro e s ss h
  have hst:∀ {k k':D→St→Prop} {op ρ s},(∀ d s,k d s→k' d s)→stepW P op ρ s k→stepW P op ρ s k':=by
   intro k k' op ρ s hk h
   unfold stepW at h ⊢
   split at h
   ·obtain ⟨d,s',h1,h2⟩:=h;exact ⟨d,s',h1,hk _ _ h2⟩
   ·obtain ⟨d,s',h1,h2⟩:=optW_iff.1 h;exact optW_iff.2 ⟨d,s',h1,hk _ _ h2⟩
  simp only [effOf,List.map_cons,runD,runOps] at h ⊢
  generalize guardOf full o.guard=gx at h ⊢
  rcases gx with _ | _ | ⟨t,_ | _⟩
  ·exact h.elim
  ·exact stepW_eff rfl (hst (fun d s' hk=>ih _ _ _ hk) h)
  ·exact ifB_mono h (fun h=>ih _ _ _ h) (fun h=>stepW_eff rfl (hst (fun d s' hk=>ih _ _ _ hk) h))
  ·exact ifB_mono h (fun h=>stepW_eff rfl (hst (fun d s' hk=>ih _ _ _ hk) h)) (fun h=>ih _ _ _ h)
theorem runD_mono {P:Program} {full:List Oper} {K K':List D→St→List St→Prop} (hK:∀ e s ss,K e s ss→K' e s ss):∀ (bs:List Bool) (os:List Oper) (e:List D) (s:St) (ss:List St),runD P full bs os e s ss K→runD P full bs os e s ss K':=by
 intro bs
 induction bs with
 | nil=>intro os e s ss h;cases os with
  | nil=>exact hK _ _ _ h
  | cons=>exact h.elim
 | cons b bs ih =>
  intro os e s ss h
  cases os with
  | nil=>exact h.elim
  | cons o os =>
   have hst:∀ {k k':D→St→Prop} {op ρ s},(∀ d s,k d s→k' d s)→stepW P op ρ s k→stepW P op ρ s k':=by
    intro k k' op ρ s hk h
    unfold stepW at h ⊢
    split at h
    ·obtain ⟨d,s',h1,h2⟩:=h;exact ⟨d,s',h1,hk _ _ h2⟩
    ·obtain ⟨d,s',h1,h2⟩:=optW_iff.1 h;exact optW_iff.2 ⟨d,s',h1,hk _ _ h2⟩
   simp only [runD] at h ⊢
   generalize guardOf full o.guard=gx at h ⊢
   rcases gx with _ | _ | ⟨t,_ | _⟩
   ·exact h.elim
   ·exact hst (fun d s' hk=>⟨hk.1,ih _ _ _ _ hk.2⟩) h
   ·exact ifB_mono h (fun h=>ih _ _ _ _ h) (fun h=>hst (fun d s' hk=>⟨hk.1,ih _ _ _ _ hk.2⟩) h)
   ·exact ifB_mono h (fun h=>hst (fun d s' hk=>⟨hk.1,ih _ _ _ _ hk.2⟩) h) (fun h=>ih _ _ _ _ h)
def regN (x:Option DrawX) (ro:Option Nat) (P:Program) (id:Nat) (ops:Array Oper) (Q:Exit→List D→St→Prop) (e:List D) (s:St):Prop :=
 match x with
 | none=>runOps P ops.toList ops.toList e s (Q .normal)
 | some (.text bs un)=>runD P ops.toList bs ops.toList e s [] fun e s ss=>chkAll P ops.toList e (ss.reverse++[s]) un∧Q .normal e s
 | some .stop=>AWp ro P (.region id ops true) Q e s
 | some .meet=>runOps P ops.toList ops.toList e s (Q .normal)
 | some .cut=>runOps P ops.toList ops.toList e s (Q .normal)
 | some (.cutT bs un)=>runD P ops.toList bs ops.toList e s [] fun e s ss=>chkAll P ops.toList e (ss.reverse++[s]) un∧Q .normal e s
def AWN (X:Draws) (ro:Option Nat) (P:Program) (c:Code) (Q:Exit→List D→St→Prop) (e:List D) (s:St):Prop:=drawsOk X c=true→AWp ro P c Q e s
def isMeet:Option DrawX→Bool
 | some .meet=>true
 | _=>false
def isCut:Option DrawX→Bool
 | some .cut=>true
 | some (.cutT _ _)=>true
 | _=>false
def meets (X:Draws):Code→Bool
 | .seq (.region r _ _) _=>isMeet (findX r X)
 | .region r _ _=>isCut (findX r X)
 | .block _ b=>meets X b
 | _=>false
def cwN (X:Draws) (ro:Option Nat) (P:Program):Code→(Exit→List D→St→Prop)→List D→St→Prop
 | .skip,Q,e,s=>Q .normal e s
 | .label _,Q,e,s=>Q .normal e s
 | .exit id,Q,e,s=>Q (.exit id) e s
 | .ret,Q,e,s=>Q .ret e s
 | .seq a b,Q,e,s=>cwN X ro P a (thenQ (bif meets X a then AWN X ro P b Q else cwN X ro P b Q) Q) e s
 | .cond c a b,Q,e,s=>ifB (val e c) (cwN X ro P a Q e s) (cwN X ro P b Q e s)
 | .block id b,Q,e,s=>cwN X ro P b (blockQ id Q) e s
 | .region _ ops false,Q,e,s=>runN P ops.toList ops.toList e s (Q .normal)
 | .region id ops true,Q,e,s=>regN (findX id X) ro P id ops Q e s
 | c,Q,e,s=>AWN X ro P c Q e s
theorem cwN_ok {X:Draws} {ro:Option Nat} {P:Program} (hm:P.follows .mixedOrders=true) (c:Code):drawsOk X c=true→∀ (Q:Exit→List D→St→Prop) (e:List D) (s:St),cwN X ro P c Q e s→AWp ro P c Q e s:=by
 induction c with
 | skip=>intro _ Q e s h;exact awp_skip h
 | label l=>intro _ Q e s h;exact awp_label h
 | exit id=>intro _ Q e s h;exact awp_exit h
 | ret=>intro _ Q e s h;exact awp_ret h
 | seq a b iha ihb =>
  intro hd Q e s h
  simp only [drawsOk,Bool.and_eq_true] at hd
  simp only [cwN] at h
  refine awp_seq ((iha hd.1 _ e s h).mono (thenQ_mono fun e s h=>?_))
  cases hme:meets X a <;> rw [hme] at h
  ·exact ihb hd.2 Q e s h
  ·exact h hd.2
 | cond c a b iha ihb =>
  intro hd Q e s h
  simp only [drawsOk,Bool.and_eq_true] at hd
  exact awp_cond (ifB_mono h (iha hd.1 Q e s) (ihb hd.2 Q e s))
 | block id b ih=>intro hd Q e s h;exact awp_block (ih hd _ e s h)
 | region id ops draw =>
  intro hd Q e s h
  cases draw with
  | false=>exact awp_regionN h
  | true =>
   simp only [cwN] at h
   simp only [drawsOk] at hd
   unfold regN at h
   cases hx:findX id X with
   | none =>
    rw [hx] at h hd
    exact awI_draw (Q:=⟨Q⟩) hm _ _ [] hd (runD_mono (fun e s ss hk=>⟨trivial,hk⟩) _ _ _ _ _ (runD_of _ e s [] h))
   | some x =>
    rw [hx] at h hd
    cases x with
    | stop=>exact h
    | meet=>exact awI_draw (Q:=⟨Q⟩) hm _ _ [] hd (runD_mono (fun e s ss hk=>⟨trivial,hk⟩) _ _ _ _ _ (runD_of _ e s [] h))
    | cut=>exact awI_draw (Q:=⟨Q⟩) hm _ _ [] hd (runD_mono (fun e s ss hk=>⟨trivial,hk⟩) _ _ _ _ _ (runD_of _ e s [] h))
    | cutT bs un=>exact awI_draw (Q:=⟨Q⟩) hm bs _ un hd h
    | text bs un=>exact awI_draw (Q:=⟨Q⟩) hm bs _ un hd h
 | _=>intro hd Q e s h;exact h hd
def cwNI (X:Draws) (ro:Option Nat) (P:Program) (c:Code) (e:List D) (s:St) [Q:QC]:Prop:=cwN X ro P c Q.f e s
def AWNI (X:Draws) (ro:Option Nat) (P:Program) (c:Code) (e:List D) (s:St) [Q:QC]:Prop:=AWN X ro P c Q.f e s
def regI (x:Option DrawX) (ro:Option Nat) (P:Program) (id:Nat) (ops:List Oper) (e:List D) (s:St) [Q:QC]:Prop:=regN x ro P id ops.toArray Q.f e s
@[reducible] def thenNC (X:Draws) (ro:Option Nat) (P:Program) (b:Code) (Q:QC):QC:=⟨thenQ (cwN X ro P b Q.f) Q.f⟩
@[reducible] def thenAC (X:Draws) (ro:Option Nat) (P:Program) (b:Code) (Q:QC):QC:=⟨thenQ (AWN X ro P b Q.f) Q.f⟩
def seqI (m:Bool) (X:Draws) (ro:Option Nat) (P:Program) (a b:Code) (e:List D) (s:St) [Q:QC]:Prop:=cwN X ro P a (thenQ (bif m then AWN X ro P b Q.f else cwN X ro P b Q.f) Q.f) e s
@[reducible] def loopNC (X:Draws) (ro:Option Nat) (P:Program) (b:Code) (Q:QC):QC:=⟨thenQ (AWN X ro P (.loop b) Q.f) Q.f⟩
@[reducible] def cwNC (X:Draws) (ro:Option Nat) (P:Program) (c:Code) (e:List D) (s:St) (Q:QC):PC:=⟨cwN X ro P c Q.f e s⟩
theorem vsN :
  (∀ (X:Draws) (ro:Option Nat) (P:Program) (Q:QC) (e:List D) (s:St),@cwNI X ro P .skip e s Q = @qI .normal e s Q) ∧
  (∀ (X:Draws) (ro:Option Nat) (P:Program) (Q:QC) (e:List D) (s:St) (l:Nat),@cwNI X ro P (.label l) e s Q = @qI .normal e s Q) ∧
  (∀ (X:Draws) (ro:Option Nat) (P:Program) (Q:QC) (e:List D) (s:St) (l:Nat),@cwNI X ro P (.exit l) e s Q = @qI (.exit l) e s Q) ∧
  (∀ (X:Draws) (ro:Option Nat) (P:Program) (Q:QC) (e:List D) (s:St),@cwNI X ro P .ret e s Q = @qI .ret e s Q) ∧
  (∀ (X:Draws) (ro:Option Nat) (P:Program) (Q:QC) (e:List D) (s:St) (a b:Code),@cwNI X ro P (.seq a b) e s Q = @seqI (meets X a) X ro P a b e s Q) ∧
  (∀ (X:Draws) (ro:Option Nat) (P:Program) (Q:QC) (e:List D) (s:St) (a b:Code),@seqI false X ro P a b e s Q = @cwNI X ro P a e s (thenNC X ro P b Q)) ∧
  (∀ (X:Draws) (ro:Option Nat) (P:Program) (Q:QC) (e:List D) (s:St) (b:Code),@qI .normal e s (thenAC X ro P b Q) = @AWNI X ro P b e s Q) ∧
  (∀ (X:Draws) (ro:Option Nat) (P:Program) (Q:QC) (e:List D) (s:St) (b:Code) (id:Nat),@qI (.exit id) e s (thenAC X ro P b Q) = @qI (.exit id) e s Q) ∧
  (∀ (X:Draws) (ro:Option Nat) (P:Program) (Q:QC) (e:List D) (s:St) (b:Code),@qI .ret e s (thenAC X ro P b Q) = @qI .ret e s Q) ∧
  (∀ (X:Draws) (r:Nat) (o:Array Oper) (d:Bool) (c:Code),meets X (.seq (.region r o d) c)=isMeet (findX r X)) ∧
  (∀ (X:Draws) (a b c:Code),meets X (.seq (.seq a b) c)=false)∧(∀ (X:Draws) (i:Nat) (a c:Code),meets X (.seq (.block i a) c)=false)∧(∀ (X:Draws) (x:Operand) (a b c:Code),meets X (.seq (.cond x a b) c)=false) ∧
  (∀ (X:Draws) (a c:Code),meets X (.seq (.loop a) c)=false)∧(∀ (X:Draws) (c:Code),meets X (.seq .skip c)=false)∧(∀ (X:Draws) (l:Nat) (c:Code),meets X (.seq (.label l) c)=false) ∧
  (∀ (X:Draws) (f:Operand) (ps:Array Tmp) (a b c:Code),meets X (.seq (.rangeFunc f ps a b) c)=false) ∧
  (∀ (X:Draws) (r:Nat) (o:Array Oper) (d:Bool),meets X (.region r o d)=isCut (findX r X))∧(isCut none=false)∧(isCut (some .meet)=false)∧(isCut (some .stop)=false)∧(∀ (bs:List Bool) (un:List (Nat × Nat)),isCut (some (.text bs un))=false)∧(isCut (some .cut)=true)∧(∀ (bs:List Bool) (un:List (Nat × Nat)),isCut (some (.cutT bs un))=true)∧(isMeet (some .cut)=false)∧(∀ (bs:List Bool) (un:List (Nat × Nat)),isMeet (some (.cutT bs un))=false)∧(∀ (X:Draws) (i:Nat) (a:Code),meets X (.block i a)=meets X a)∧(∀ (X:Draws) (x:Operand) (a b:Code),meets X (.cond x a b)=false) ∧
  (∀ (X:Draws) (a:Code),meets X (.loop a)=false)∧(∀ (X:Draws),meets X .skip=false)∧(∀ (X:Draws) (l:Nat),meets X (.label l)=false)∧(∀ (X:Draws) (l:Nat),meets X (.exit l)=false)∧(∀ (X:Draws),meets X .ret=false) ∧
  (∀ (X:Draws) (f:Operand) (ps:Array Tmp) (a b:Code),meets X (.rangeFunc f ps a b)=false) ∧
  (isMeet none=false)∧(isMeet (some .meet)=true)∧(isMeet (some .stop)=false)∧(∀ (bs:List Bool) (un:List (Nat × Nat)),isMeet (some (.text bs un))=false) ∧
  (∀ (X:Draws) (ro:Option Nat) (P:Program) (Q:QC) (e:List D) (s:St) (c:Operand) (a b:Code),@cwNI X ro P (.cond c a b) e s Q=ifI (val e c) (cwNC X ro P a e s Q) (cwNC X ro P b e s Q)) ∧
  (∀ (X:Draws) (ro:Option Nat) (P:Program) (Q:QC) (e:List D) (s:St) (id:Nat) (b:Code),@cwNI X ro P (.block id b) e s Q = @cwNI X ro P b e s (blockC id Q)) ∧
  (∀ (X:Draws) (ro:Option Nat) (P:Program) (Q:QC) (e:List D) (s:St) (id:Nat) (ops:List Oper),@cwNI X ro P (.region id ops.toArray false) e s Q = @runNI P ops ops e s (normC Q)) ∧
  (∀ (X:Draws) (ro:Option Nat) (P:Program) (Q:QC) (e:List D) (s:St) (id:Nat) (ops:List Oper),@cwNI X ro P (.region id ops.toArray true) e s Q = @regI (findX id X) ro P id ops e s Q) ∧
  (∀ (ro:Option Nat) (P:Program) (Q:QC) (e:List D) (s:St) (id:Nat) (ops:List Oper),@regI none ro P id ops e s Q = @runI P ops ops e s (normC Q)) ∧
  (∀ (ro:Option Nat) (P:Program) (Q:QC) (e:List D) (s:St) (id:Nat) (ops:List Oper) (bs:List Bool) (un:List (Nat × Nat)),@regI (some (.text bs un)) ro P id ops e s Q = @runDI P ops bs ops e s [] (drawC P ops un Q)) ∧
  (∀ (ro:Option Nat) (P:Program) (Q:QC) (e:List D) (s:St) (id:Nat) (ops:List Oper),@regI (some .stop) ro P id ops e s Q = @AWI ro P (.region id ops.toArray true) e s Q) ∧
  (∀ (ro:Option Nat) (P:Program) (Q:QC) (e:List D) (s:St) (id:Nat) (ops:List Oper),@regI (some .meet) ro P id ops e s Q = @runI P ops ops e s (normC Q)) ∧
  (∀ (ro:Option Nat) (P:Program) (Q:QC) (e:List D) (s:St) (id:Nat) (ops:List Oper),@regI (some .cut) ro P id ops e s Q = @runI P ops ops e s (normC Q)) ∧
  (∀ (ro:Option Nat) (P:Program) (Q:QC) (e:List D) (s:St) (id:Nat) (ops:List Oper) (bs:List Bool) (un:List (Nat × Nat)),@regI (some (.cutT bs un)) ro P id ops e s Q = @runDI P ops bs ops e s [] (drawC P ops un Q)) ∧
  (∀ (id:Nat),findX id []=none) ∧
  (∀ (id i:Nat) (x:DrawX) (l:Draws),findX id ((i,x)::l)=bif i == id then some x else findX id l) ∧
  (∀ (X:Draws) (ro:Option Nat) (P:Program) (Q:QC) (e:List D) (s:St) (b:Code),@cwNI X ro P (.loop b) e s Q = @AWNI X ro P (.loop b) e s Q) ∧
  (∀ (X:Draws) (ro:Option Nat) (P:Program) (Q:QC) (e:List D) (s:St) (f:Operand) (ps:Array Tmp) (a b:Code),@cwNI X ro P (.rangeFunc f ps a b) e s Q = @AWNI X ro P (.rangeFunc f ps a b) e s Q) ∧
  (∀ (X:Draws) (ro:Option Nat) (P:Program) (Q:QC) (e:List D) (s:St) (b:Code),@qI .normal e s (thenNC X ro P b Q) = @cwNI X ro P b e s Q) ∧
  (∀ (X:Draws) (ro:Option Nat) (P:Program) (Q:QC) (e:List D) (s:St) (b:Code) (id:Nat),@qI (.exit id) e s (thenNC X ro P b Q) = @qI (.exit id) e s Q) ∧
  (∀ (X:Draws) (ro:Option Nat) (P:Program) (Q:QC) (e:List D) (s:St) (b:Code),@qI .ret e s (thenNC X ro P b Q) = @qI .ret e s Q) ∧
  (∀ (X:Draws) (ro:Option Nat) (P:Program) (Q:QC) (e:List D) (s:St) (b:Code),@qI .normal e s (loopNC X ro P b Q) = @AWNI X ro P (.loop b) e s Q) ∧
  (∀ (X:Draws) (ro:Option Nat) (P:Program) (Q:QC) (e:List D) (s:St) (b:Code) (id:Nat),@qI (.exit id) e s (loopNC X ro P b Q) = @qI (.exit id) e s Q) ∧
  (∀ (X:Draws) (ro:Option Nat) (P:Program) (Q:QC) (e:List D) (s:St) (b:Code),@qI .ret e s (loopNC X ro P b Q) = @qI .ret e s Q) ∧
  (∀ (X:Draws) (ro:Option Nat) (P:Program) (c:Code) (e:List D) (s:St) (Q:QC),@pI (cwNC X ro P c e s Q) = @cwNI X ro P c e s Q) ∧
  (∀ (α:Type) (x y:α),(bif true then x else y)=x)∧(∀ (α:Type) (x y:α),(bif false then x else y)=y):=by
 and_intros
 all_goals intros
 all_goals first
  | rfl
  | with_unfolding_all rfl
  | trace_state
theorem awN_cw {X:Draws} {ro:Option Nat} {P:Program} {c:Code} {e:List D} {s:St} {Q:QC} (hm:P.follows .mixedOrders=true) (h:@cwNI X ro P c e s Q):@AWNI X ro P c e s Q:=fun hd=>cwN_ok hm c hd _ e s h
theorem awN_open {X:Draws} {ro:Option Nat} {P:Program} {c:Code} {e:List D} {s:St} {Q:QC} (h:drawsOk X c=true→@AWI ro P c e s Q):@AWNI X ro P c e s Q:=h
theorem awN_loop {X:Draws} {ro:Option Nat} {P:Program} {b:Code} {e:List D} {s:St} {Q:QC} (hm:P.follows .mixedOrders=true) (h:@cwNI X ro P b e s (loopNC X ro P b Q)):@AWNI X ro P (.loop b) e s Q:=by
 intro hd
 exact awp_loop ((cwN_ok hm b hd _ e s h).mono (thenQ_mono fun e s h=>h hd))
theorem awN_keep {X:Draws} {ro:Option Nat} {P:Program} {c:Code} {e:List D} {s:St} {Q:QC} (ks:List Nat) (h:@AWNI X ro P c (keep ks e) s Q):@AWNI X ro P c e s Q:=fun hd=>awp_keep ks (h hd)
theorem awN_forR {X:Draws} {ro:Option Nat} {P:Program} {b:Code} {Q:QC} (hm:P.follows .mixedOrders=true) (n:Nat) (Inv:Nat→List D→St→Prop)
  (step:∀ k e s,k<n→Inv k e s→(∀ e' s',Inv (k+1) e' s'→@AWNI X ro P (.loop b) e' s' Q)→@cwNI X ro P b e s (loopNC X ro P b Q))
  (last:∀ e s,Inv n e s→@cwNI X ro P b e s (loopNC X ro P b Q)):∀ k e s,k≤n→Inv k e s→@AWNI X ro P (.loop b) e s Q:=by
 have key:∀ j k e s,k+j=n→Inv k e s→@AWNI X ro P (.loop b) e s Q:=by
  intro j
  induction j with
  | zero =>
   intro k e s hk hI
   obtain rfl:k=n:=by omega
   exact awN_loop hm (last e s hI)
  | succ j ih=>intro k e s hk hI;exact awN_loop hm (step k e s (by omega) hI fun e' s' hI'=>ih (k+1) e' s' (by omega) hI')
 intro k e s hk hI
 exact key (n - k) k e s (by omega) hI
theorem awN_for {X:Draws} {ro:Option Nat} {P:Program} {b:Code} {Q:QC} (hm:P.follows .mixedOrders=true) (n:Nat) (E:Nat→List D) (S:Nat→St) (Inv:Nat→Prop)
  (step:∀ k,k<n→Inv k→(Inv (k+1)→@AWNI X ro P (.loop b) (E (k+1)) (S (k+1)) Q)→@cwNI X ro P b (E k) (S k) (loopNC X ro P b Q))
  (last:Inv n→@cwNI X ro P b (E n) (S n) (loopNC X ro P b Q)):∀ k,k≤n→Inv k→@AWNI X ro P (.loop b) (E k) (S k) Q:=by
 intro k hk hI
 refine awN_forR hm n (fun k e s=>e=E k∧s=S k∧Inv k) ?_ ?_ k _ _ hk ⟨rfl,rfl,hI⟩
 ·rintro k e s hk ⟨rfl,rfl,hI⟩ ih
  exact step k hk hI fun hI'=>ih _ _ ⟨rfl,rfl,hI'⟩
 ·rintro e s ⟨rfl,rfl,hI⟩
  exact last hI
theorem Spec.introN {P:Program} (X:Draws) {f:FuncId} {fn:Func} {c:Code} {args:List D} {s s':St} {r:D} (hf:P.funcs[f]? = some fn) (hb:fn.body = some c) (hn:(fn.name == "runtime.NumGoroutine") = false) (hm:P.follows .mixedOrders = true) (hd:drawsOk X c = true) (rs:List ResultVar) (nt:Nat) (hr:fn.results.toList = rs) (hnt:fn.ntmps = nt)
  (h:@cwNI X none P c (args++List.replicate (nt - args.length) .junk) s (retC P rs s r s')):Spec P f args s r s':=by
 subst hr hnt
 unfold retC at h;exact Spec.intro hf hb hn (cwN_ok hm c hd _ _ _ h)
theorem SpecQ.introN {P:Program} (X:Draws) {f:FuncId} {fn:Func} {c:Code} {args:List D} {s:St} {Z:D→St→Prop} (hf:P.funcs[f]? = some fn) (hb:fn.body = some c) (hn:(fn.name == "runtime.NumGoroutine") = false) (hm:P.follows .mixedOrders = true) (hd:drawsOk X c = true) (rs:List ResultVar) (nt:Nat) (hr:fn.results.toList = rs) (hnt:fn.ntmps = nt)
  (h:@cwNI X none P c (args++List.replicate (nt - args.length) .junk) s (retQC P rs s Z)):SpecQ P f args s Z:=by
 subst hr hnt
 unfold retQC at h;exact SpecQ.intro hf hb hn (cwN_ok hm c hd _ _ _ h)
@[reducible] def assignNC (X:Draws) (P:Program) (b:Nat) (ps:List Tmp) (as bo:Code) (e:List D) (s:St) (r:D) (s':St) (l:Nat):QC :=
 ⟨thenQ (fun e1 s1=>∃ pd1,s1.boxes[b]? = some (.loop ps as bo e .ready pd1)∧cwN X (some l) P bo (roundQ b ps as bo e s r s') e1 { s1 with boxes:=s1.boxes.set b (.loop ps as bo e .busy pd1) }) fun _ _ _=>False⟩
theorem YSem.introN {X:Draws} {P:Program} {b:Nat} {args:List D} {s s':St} {r:D} {ps:List Tmp} {as bo:Code} {e:List D} {pd:Option Code} (hm:P.follows .mixedOrders=true) (hd1:drawsOk X as=true) (hd2:drawsOk X bo=true) (hb:s.boxes[b]? = some (.loop ps as bo e .ready pd)) (hlen:args.length=ps.length)
  (h:∀ l,@cwNI X (some l) P as (putArgs e ps args) s (assignNC X P b ps as bo e s r s' l)):YSem P b args s r s' :=
 YSem.intro hb hlen fun l=>(cwN_ok hm as hd1 _ _ _ (h l)).mono (thenQ_mono fun e s h=>by obtain ⟨pd,h1,h2⟩:=h;exact ⟨pd,h1,cwN_ok hm bo hd2 _ _ _ h2⟩)
def overI (X:Draws) (P:Program) (ps:List Tmp) (as bo:Code) (e:List D) (b:Nat) (s1:St) [Q:QC]:Prop :=
 ∃ st pd,s1.boxes[b]? = some (.loop ps as bo e st pd)∧st≠.busy∧match (generalizing:=false) pd with
   | none=>@qI .normal e ⟨s1.boxes.set b .dead,s1.live,s1.ctr⟩ Q
   | some c=>@cwI none P c e ⟨s1.boxes.set b .dead,s1.live,s1.ctr⟩ Q
theorem awN_rangeFuncQ {X:Draws} {P:Program} {f:Operand} {ps:List Tmp} {as bo:Code} {Q:QC} {e:List D} {B:List Box} {L:List Nat} {n:Nat} {k:FuncId} {fi ca:List D} {Z:D→St→Prop}
  (hf:val e f=.func (.func k) fi ca)
  (hs:drawsOk X as=true→drawsOk X bo=true→SpecQ P k (fi++([.yield B.length]++ca)) ⟨B++[.loop ps as bo e .ready none],L,n⟩ Z)
  (hz:∀ r s1,Z r s1→@overI X P ps as bo e B.length s1 Q):@AWNI X none P (.rangeFunc f ps.toArray as bo) e ⟨B,L,n⟩ Q:=by
 intro hd
 simp only [drawsOk,Bool.and_eq_true] at hd
 refine awp_rangeFuncQ (s:=⟨B,L,n⟩) hf (hs hd.1 hd.2) fun r s1 hZ=>?_
 obtain ⟨st,pd,h1,h2,h3⟩:=hz r s1 hZ
 refine ⟨st,pd,h1,h2,?_⟩
 cases pd with
 | none=>exact h3
 | some c=>exact cw_ok c _ _ _ h3
@[reducible] def assignQC (X:Draws) (P:Program) (b:Nat) (ps:List Tmp) (as bo:Code) (e:List D) (s:St) (Z:D→St→Prop) (l:Nat):QC :=
 ⟨thenQ (fun e1 s1=>∃ pd1,s1.boxes[b]? = some (.loop ps as bo e .ready pd1)∧cwN X (some l) P bo (roundQQ b ps as bo e s Z) e1 { s1 with boxes:=s1.boxes.set b (.loop ps as bo e .busy pd1) }) fun _ _ _=>False⟩
theorem YSemQ.introN {X:Draws} {P:Program} {b:Nat} {args:List D} {s:St} {Z:D→St→Prop} {ps:List Tmp} {as bo:Code} {e:List D} {pd:Option Code} (hm:P.follows .mixedOrders=true) (hd1:drawsOk X as=true) (hd2:drawsOk X bo=true) (hb:s.boxes[b]? = some (.loop ps as bo e .ready pd)) (hlen:args.length=ps.length)
  (h:∀ l,@cwNI X (some l) P as (putArgs e ps args) s (assignQC X P b ps as bo e s Z l)):YSemQ P b args s Z :=
 YSemQ.intro hb hlen fun l=>(cwN_ok hm as hd1 _ _ _ (h l)).mono (thenQ_mono fun e s h=>by obtain ⟨pd,h1,h2⟩:=h;exact ⟨pd,h1,cwN_ok hm bo hd2 _ _ _ h2⟩)
theorem AWN.mono {X:Draws} {ro:Option Nat} {P:Program} {c:Code} {Q Q':Exit→List D→St→Prop} {e:List D} {s:St} (h:AWN X ro P c Q e s) (hQ:∀ x e s,Q x e s→Q' x e s):AWN X ro P c Q' e s:=fun hd=>(h hd).mono hQ
theorem cwN_mono {X:Draws} {ro:Option Nat} {P:Program} (c:Code):∀ {Q Q':Exit→List D→St→Prop} {e:List D} {s:St},cwN X ro P c Q e s→(∀ x e s,Q x e s→Q' x e s)→cwN X ro P c Q' e s:=by
  induction c with
  | skip=>intro Q Q' e s h hQ;exact hQ _ _ _ h
  | label l=>intro Q Q' e s h hQ;exact hQ _ _ _ h
  | exit id=>intro Q Q' e s h hQ;exact hQ _ _ _ h
  | ret=>intro Q Q' e s h hQ;exact hQ _ _ _ h
  | seq a b iha ihb =>
    intro Q Q' e s h hQ
    simp only [cwN] at h ⊢
    refine iha h fun x e s hx=>?_
    cases x <;> simp only [thenQ] at hx ⊢ <;> first
      | exact hQ _ _ _ hx
      | (cases hme : meets X a <;> rw [hme] at hx <;> first
           | exact ihb hx hQ
           | exact AWN.mono hx hQ)
  | cond c a b iha ihb=>intro Q Q' e s h hQ;exact ifB_mono h (fun h=>iha h hQ) (fun h=>ihb h hQ)
  | block id b ih =>
    intro Q Q' e s h hQ
    refine ih h fun x e s hx=>?_
    cases x with
    | exit id' =>
      simp only [blockQ] at hx ⊢
      split
      · rename_i he;rw [if_pos he] at hx;exact hQ _ _ _ hx
      · rename_i he;rw [if_neg he] at hx;exact hQ _ _ _ hx
    | _=>exact hQ _ _ _ hx
  | region id ops draw =>
    intro Q Q' e s h hQ
    cases draw with
    | false=>exact runN_mono (fun e s=>hQ _ e s) _ _ _ h
    | true =>
      simp only [cwN] at h ⊢
      unfold regN at h ⊢
      generalize findX id X=fx at h ⊢
      rcases fx with _ | ⟨bs,un⟩ | _ | _ | _ | ⟨bs,un⟩
      · exact runOps_mono (fun e s=>hQ _ e s) _ _ _ h
      · exact runD_mono (fun e s ss hk=>⟨hk.1,hQ _ _ _ hk.2⟩) _ _ _ _ _ h
      · exact AWp.mono h hQ
      · exact runOps_mono (fun e s=>hQ _ e s) _ _ _ h
      · exact runOps_mono (fun e s=>hQ _ e s) _ _ _ h
      · exact runD_mono (fun e s ss hk=>⟨hk.1,hQ _ _ _ hk.2⟩) _ _ _ _ _ h
  | _=>intro Q Q' e s h hQ;exact AWN.mono h hQ
@[reducible] def meetC (I:List D→St→Prop):QC:=⟨fun x e s=>x=.normal∧I e s⟩
theorem meet_intro {I:List D→St→Prop} {e:List D} {s:St} (h:I e s):@qI .normal e s (meetC I):=⟨rfl,h⟩
theorem seq_join {X:Draws} {ro:Option Nat} {P:Program} {a b:Code} {e:List D} {s:St} {Q:QC} (hm:P.follows .mixedOrders=true) (ks:List Nat) (E:List D) (I:St→Prop)
  (h:@cwNI X ro P a e s (meetC fun e s=>keep ks e=E∧I s)) (hI:∀ s,I s→@cwNI X ro P b E s Q):@seqI true X ro P a b e s Q:=by
 refine cwN_mono a h fun x e s hx=>?_
 obtain ⟨rfl,h1,h2⟩:=hx
 exact awN_keep ks (by rw [h1];exact awN_cw hm (hI s h2))
theorem awN_cut {X:Draws} {ro:Option Nat} {P:Program} {c:Code} {e:List D} {s:St} {Q:QC} (Q0:Exit→List D→St→Prop) (h:@AWNI X ro P c e s ⟨Q0⟩) (hQ:∀ x e s,Q0 x e s→@qI x e s Q):@AWNI X ro P c e s Q :=
 AWN.mono h hQ
theorem cut_intro {Q0:Exit→List D→St→Prop} {x:Exit} {e:List D} {s:St} (h:Q0 x e s):@qI x e s ⟨Q0⟩:=h
@[reducible] def joinC (ks:List Nat) (E:List D) (I:St→Prop) (Q:QC):QC:=⟨thenQ (fun e s=>keep ks e=E∧I s) Q.f⟩
theorem vsJ :
  (∀ (ks:List Nat) (E:List D) (I:St→Prop) (Q:QC) (e:List D) (s:St),@qI .ret e s (joinC ks E I Q) = @qI .ret e s Q) ∧
  (∀ (ks:List Nat) (E:List D) (I:St→Prop) (Q:QC) (e:List D) (s:St) (id:Nat),@qI (.exit id) e s (joinC ks E I Q) = @qI (.exit id) e s Q):=by
 and_intros
 all_goals intros
 all_goals rfl
theorem join_intro {ks:List Nat} {E:List D} {I:St→Prop} {Q:QC} {e:List D} {s:St} (h1:keep ks e=E) (h2:I s):@qI .normal e s (joinC ks E I Q):=⟨h1,h2⟩
theorem seq_joinR {X:Draws} {ro:Option Nat} {P:Program} {a b:Code} {e:List D} {s:St} {Q:QC} (hm:P.follows .mixedOrders=true) (ks:List Nat) (E:List D) (I:St→Prop)
  (h:@cwNI X ro P a e s (joinC ks E I Q)) (hI:∀ s,I s→@cwNI X ro P b E s Q):@seqI true X ro P a b e s Q:=by
 refine cwN_mono a h fun x e s hx=>?_
 cases x <;> first
  | exact hx
  | (obtain ⟨h1,h2⟩:=hx;exact awN_keep ks (by rw [h1];exact awN_cw hm (hI s h2)))
def apR (el el':Option (TypeId × Nat × Nat × Bool)) (P:Program) (b off n rsz:Nat) (bx:Option Box) (ys:List (List D)) (s:St) [K:DC]:Prop:=match el,el' with
 | some (e,sz,by_,_),some _=>match zeroT P e with
  | some zs=>match bx with
   | some (.cells cs)=>(zs.length=sz∧0<sz∧0<by_∧by_≤1000000)∧(∀ c ∈ ys,c.length=sz)∧(rsz=sz∧off=0)∧cs.length=n * sz∧n+ys.length≤1000000∧K.f (.row s.boxes.length 0 (n+ys.length) sz) { s with boxes:=s.boxes.set b .dead++[.cells (cs++ys.flatten)] }
   | _=>False
  | none=>False
 | _,_=>False
def apR2 (z:Option (List D)) (sz by_ b off n rsz:Nat) (bx:Option Box) (ys:List (List D)) (s:St) [K:DC]:Prop:=match z,bx with
 | some zs,some (.cells cs)=>(zs.length=sz∧0<sz∧0<by_∧by_≤1000000)∧(∀ c ∈ ys,c.length=sz)∧(rsz=sz∧off=0)∧cs.length=n * sz∧n+ys.length≤1000000∧K.f (.row s.boxes.length 0 (n+ys.length) sz) { s with boxes:=s.boxes.set b .dead++[.cells (cs++ys.flatten)] }
 | _,_=>False
def apZ (el el':Option (TypeId × Nat × Nat × Bool)) (P:Program) (ys:List (List D)) (s:St) [K:DC]:Prop:=match el,el' with
 | some (e,sz,by_,_),some _=>match zeroT P e with
  | some zs=>(zs.length=sz∧0<sz∧0<by_∧by_≤1000000)∧(∀ c ∈ ys,c.length=sz)∧if ys=[] then K.f .row0 s else ys.length≤1000000∧K.f (.row s.boxes.length 0 ys.length sz) { s with boxes:=s.boxes++[.cells ys.flatten] }
  | none=>False
 | _,_=>False
def apZ2 (z:Option (List D)) (sz by_:Nat) (ys:List (List D)) (s:St) [K:DC]:Prop:=match z with
 | some zs=>(zs.length=sz∧0<sz∧0<by_∧by_≤1000000)∧(∀ c ∈ ys,c.length=sz)∧if ys=[] then K.f .row0 s else ys.length≤1000000∧K.f (.row s.boxes.length 0 ys.length sz) { s with boxes:=s.boxes++[.cells ys.flatten] }
 | none=>False
theorem evAppendR_w {P:Program} {T T':TypeId} {b off n rsz:Nat} {o':Own} {ys:List (List D)} {s:St} {K:DC}:@optI (evAppend P T T' (.row b off n rsz) (.slice o' ys) s) K = @apR (elemT P T) (elemT P T') P b off n rsz s.boxes[b]? ys s K:=by
 apply propext
 unfold optI
 rw [optW_iff]
 simp only [evAppend,evAppendR,apR]
 cases h:elemT P T with
 | none=>simp
 | some el =>
  obtain ⟨e,sz,by_,ag⟩:=el
  cases h':elemT P T' with
  | none=>simp
  | some el' =>
   dsimp only
   cases hz:zeroT P e with
   | none=>simp
   | some zs =>
    dsimp only
    cases hb:s.boxes[b]? with
    | none=>simp
    | some bx =>
     cases bx with
     | cells cs =>
      dsimp only
      constructor
      ·rintro ⟨d,s',h1,h2⟩
       split at h1
       ·rename_i hc
        obtain ⟨c1,c2,c3,c4,c6⟩:=hc
        split at h1
        ·rename_i hd
         obtain ⟨d1,d2,d3,d4⟩:=hd
         cases h1
         exact ⟨⟨c1,c2,c3,c4⟩,fun c hc=>by simpa using List.all_eq_true.1 c6 c hc,⟨d1,d2⟩,d3,d4,h2⟩
        ·cases h1
       ·cases h1
      ·rintro ⟨⟨c1,c2,c3,c4⟩,c6,⟨d1,d2⟩,d3,d4,hK⟩
       refine ⟨_,_,?_,hK⟩
       rw [if_pos ⟨c1,c2,c3,c4,List.all_eq_true.2 fun c hc=>by simpa using c6 c hc⟩,if_pos ⟨d1,d2,d3,d4⟩]
     | _=>simp
theorem evAppendZ_w {P:Program} {T T':TypeId} {o':Own} {ys:List (List D)} {s:St} {K:DC}:@optI (evAppend P T T' .row0 (.slice o' ys) s) K = @apZ (elemT P T) (elemT P T') P ys s K:=by
 apply propext
 unfold optI
 rw [optW_iff]
 simp only [evAppend,evAppendR,apZ]
 cases h:elemT P T with
 | none=>simp
 | some el =>
  obtain ⟨e,sz,by_,ag⟩:=el
  cases h':elemT P T' with
  | none=>simp
  | some el' =>
   dsimp only
   cases hz:zeroT P e with
   | none=>simp
   | some zs =>
    dsimp only
    constructor
    ·rintro ⟨d,s',h1,h2⟩
     split at h1
     ·rename_i hc
      obtain ⟨c1,c2,c3,c4,c6⟩:=hc
      refine ⟨⟨c1,c2,c3,c4⟩,fun c hc=>by simpa using List.all_eq_true.1 c6 c hc,?_⟩
      split at h1
      ·rename_i hn;cases h1;rw [if_pos hn];exact h2
      ·rename_i hn
       rw [if_neg hn]
       split at h1
       ·rename_i hl;cases h1;exact ⟨hl,h2⟩
       ·cases h1
     ·cases h1
    ·rintro ⟨⟨c1,c2,c3,c4⟩,c6,hK⟩
     split at hK
     ·rename_i hn
      refine ⟨_,_,?_,hK⟩
      rw [if_pos ⟨c1,c2,c3,c4,List.all_eq_true.2 fun c hc=>by simpa using c6 c hc⟩,if_pos hn]
     ·rename_i hn
      refine ⟨_,_,?_,hK.2⟩
      rw [if_pos ⟨c1,c2,c3,c4,List.all_eq_true.2 fun c hc=>by simpa using c6 c hc⟩,if_neg hn,if_pos hK.1]
def ixR (el:Option (TypeId × Nat × Nat × Bool)) (b off len:Nat) (n:Int) (s:St) [K:DC]:Prop:=match el with
 | some (_,sz,_,_)=>(0≤n∧n<len)∧K.f (.box b (off+n.toNat * sz)) s
 | none=>False
theorem evIndexR_w {P:Program} {T:TypeId} {b off len rsz:Nat} {k:IntKind} {n:Int} {s:St} {K:DC}:@optSI (evIndexAddr P T (.row b off len rsz) (.int k n)) s K = @ixR (elemT P T) b off len n s K:=by
 apply propext
 unfold optSI
 rw [optW_iff]
 simp only [evIndexAddr,evIndexAddr0,ixR]
 cases h:elemT P T with
 | none=>simp
 | some el =>
  obtain ⟨e,sz,by_,ag⟩:=el
  dsimp only
  constructor
  ·rintro ⟨d,s',h1,h2⟩
   split at h1
   ·rename_i hc;cases h1;exact ⟨hc,h2⟩
   ·cases h1
  ·rintro ⟨hc,h2⟩
   exact ⟨_,_,by rw [if_pos hc];rfl,h2⟩
def lkOf (u:Option TypeDesc) (P:Program) (es:Option (List (D × D))) (k:IntKind) (n:Int) (ok:Bool):Option D:=match u with
 | some (.map K V)=>match P.underlying K,zeroD P V,es with
  | some (.int _),some z,some es=>(mapFind k n es 0).map fun r=>lookD r z ok
  | _,_,_=>none
 | _=>none
def lkOf2 (u:Option TypeDesc) (z:Option D) (es:Option (List (D × D))) (k:IntKind) (n:Int) (ok:Bool):Option D:=match u,z,es with
 | some (.int _),some z,some es=>(mapFind k n es 0).map fun r=>lookD r z ok
 | _,_,_=>none
def mapBx (b:Option Box):Option (List (D × D)):=match b with
 | some (.map es)=>some es
 | _=>none
def muOf (u:Option TypeDesc) (P:Program) (es:Option (List (D × D))) (b:Nat) (k:IntKind) (n:Int) (x:D) (B:List Box) (L:List Nat) (c:Nat):Option St:=match u with
 | some (.map K _)=>match P.underlying K,es with
  | some (.int _),some es=>(mapFind k n es 0).map fun r=>⟨B.set b (.map (mapPut k n x r es)),L,c⟩
  | _,_=>none
 | _=>none
def muOf2 (u:Option TypeDesc) (es:Option (List (D × D))) (b:Nat) (k:IntKind) (n:Int) (x:D) (B:List Box) (L:List Nat) (c:Nat):Option St:=match u,es with
 | some (.int _),some es=>(mapFind k n es 0).map fun r=>⟨B.set b (.map (mapPut k n x r es)),L,c⟩
 | _,_=>none
def mdOf (u:Option TypeDesc) (P:Program) (es:Option (List (D × D))) (b:Nat) (k:IntKind) (n:Int) (B:List Box) (L:List Nat) (c:Nat):Option St:=match u with
 | some (.map K _)=>match P.underlying K,es with
  | some (.int _),some es=>(mapFind k n es 0).map fun r=>⟨B.set b (.map (mapCut r es)),L,c⟩
  | _,_=>none
 | _=>none
def mdOf2 (u:Option TypeDesc) (es:Option (List (D × D))) (b:Nat) (k:IntKind) (n:Int) (B:List Box) (L:List Nat) (c:Nat):Option St:=match u,es with
 | some (.int _),some es=>(mapFind k n es 0).map fun r=>⟨B.set b (.map (mapCut r es)),L,c⟩
 | _,_=>none
def optUI (x:Option St) [K:DC]:Prop:=optW (x.map (D.tup [],·)) K.f
def msOf (el:Option (TypeId × Nat × Nat × Bool)) (P:Program) (l c:Int) (B:List Box) (L:List Nat) (ct:Nat):Option (D × St):=match el with
 | some (e,sz,by_,_)=>match zeroT P e with
  | some zs=>if zs.length=sz∧0<sz∧0<by_∧by_≤1000000∧0≤l∧l≤c∧c≤1000000 then some (.row B.length 0 l.toNat sz,⟨B++[.cells (List.replicate l.toNat zs).flatten],L,ct⟩) else none
  | none=>none
 | none=>none
def msOf2 (z:Option (List D)) (sz by_:Nat) (l c:Int) (B:List Box) (L:List Nat) (ct:Nat):Option (D × St):=match z with
 | some zs=>if zs.length=sz∧0<sz∧0<by_∧by_≤1000000∧0≤l∧l≤c∧c≤1000000 then some (.row B.length 0 l.toNat sz,⟨B++[.cells (List.replicate l.toNat zs).flatten],L,ct⟩) else none
 | none=>none
theorem evLookup_w {P:Program} {T:TypeId} {m:D} {k:IntKind} {n:Int} {ok:Bool} {s:St}:evLookup P T m (.int k n) ok s=lkOf (P.underlying T) P (mapOf m s) k n ok:=by
 unfold evLookup lkOf
 cases P.underlying T with
 | none=>rfl
 | some u=>cases u <;> (try rfl) <;> (dsimp only;cases P.underlying _ with
  | none=>rfl
  | some v=>cases v <;> cases zeroD P _ <;> cases mapOf m s <;> rfl)
theorem evMapUpdate_w {P:Program} {T:TypeId} {b:Nat} {k:IntKind} {n:Int} {x:D} {B:List Box} {L:List Nat} {c:Nat}:evMapUpdate P T (.map b) (.int k n) x ⟨B,L,c⟩=muOf (P.underlying T) P (mapBx B[b]?) b k n x B L c:=by
 unfold evMapUpdate muOf
 cases P.underlying T with
 | none=>rfl
 | some u=>cases u <;> (try rfl) <;> (dsimp only;cases P.underlying _ with
  | none=>rfl
  | some v=>cases v <;> (try rfl) <;> (dsimp only;cases B[b]? with
   | none=>rfl
   | some bx=>cases bx <;> rfl))
theorem evDelete_w {P:Program} {T:TypeId} {b:Nat} {k:IntKind} {n:Int} {B:List Box} {L:List Nat} {c:Nat}:evDelete P T (.map b) (.int k n) ⟨B,L,c⟩=mdOf (P.underlying T) P (mapBx B[b]?) b k n B L c:=by
 unfold evDelete mdOf
 cases P.underlying T with
 | none=>rfl
 | some u=>cases u <;> (try rfl) <;> (dsimp only;cases P.underlying _ with
  | none=>rfl
  | some v=>cases v <;> (try rfl) <;> (dsimp only;cases B[b]? with
   | none=>rfl
   | some bx=>cases bx <;> rfl))
theorem evMakeSlice_w {P:Program} {T:TypeId} {k k':IntKind} {l c:Int} {B:List Box} {L:List Nat} {ct:Nat}:evMakeSlice P T (.int k l) (.int k' c) ⟨B,L,ct⟩=msOf (elemT P T) P l c B L ct:=by
 unfold evMakeSlice msOf
 cases elemT P T with
 | none=>rfl
 | some el=>obtain ⟨e,sz,b,ag⟩:=el;rfl
def slR (u:Option TypeDesc) (el:Option (TypeId × Nat × Nat × Bool)) (b off n rsz:Nat) (lo hi:Option D):Option D:=match u,el,evBd lo 0,evBd hi n with
 | some (.slice _),some (_,sz,_,_),some l,some h=>if l≤h∧h≤n∧rsz=sz then some (if l=0 then .row b off h rsz else if l<h then .row b (off+l * sz) (h - l) rsz else .slice .none []) else none
 | _,_,_,_=>none
theorem evSlice_rw {P:Program} {T:TypeId} {b off n rsz:Nat} {lo hi:Option D}:evSlice P T (.row b off n rsz) lo hi none=slR (P.underlying T) (elemT P T) b off n rsz lo hi:=by
 unfold evSlice slR
 cases P.underlying T with
 | none=>rfl
 | some u =>
  cases u <;> (try rfl)
  dsimp only
  cases elemT P T with
  | none=>rfl
  | some el =>
   obtain ⟨e,sz,by_,ag⟩:=el
   cases evBd lo 0 with
   | none=>rfl
   | some l=>cases evBd hi n with
    | none=>rfl
    | some h =>
     simp only [evBd]
     by_cases hc:l≤h∧h≤n∧rsz=sz
     ·rw [if_pos hc,if_pos ⟨hc.1,hc.2.1,Nat.le_refl _,by simp,hc.2.2⟩]
     ·rw [if_neg hc,if_neg (fun q=>hc ⟨q.1,q.2.1,q.2.2.2.2⟩)]
def slS (u:Option TypeDesc) (el:Option (TypeId × Nat × Nat × Bool)) (o:Own) (xs:List (List D)) (lo hi:Option D):Option D:=match u,el,evBd lo 0,evBd hi xs.length with
 | some (.slice _),some (_,sz,_,_),some l,some h=>if l≤h∧h≤xs.length∧(l=0∨xs.all (·.length == sz)=true) then some (.slice (if o=.full∧h=xs.length then .full else .none) ((xs.take h).drop l)) else none
 | _,_,_,_=>none
theorem evSlice_sw {P:Program} {T:TypeId} {o:Own} {xs:List (List D)} {lo hi:Option D}:evSlice P T (.slice o xs) lo hi none=slS (P.underlying T) (elemT P T) o xs lo hi:=by
 unfold evSlice slS
 cases P.underlying T with
 | none=>rfl
 | some u =>
  cases u <;> (try rfl)
  dsimp only
  cases elemT P T with
  | none=>rfl
  | some el =>
   obtain ⟨e,sz,by_,ag⟩:=el
   cases evBd lo 0 with
   | none=>rfl
   | some l=>cases evBd hi xs.length with
    | none=>rfl
    | some h =>
     simp only [evBd,Option.isSome_none,Bool.false_eq_true,if_false,false_implies,true_and]
     by_cases hc:l≤h∧h≤xs.length∧(l=0∨xs.all (·.length == sz)=true)
     ·rw [if_pos hc,if_pos ⟨hc.1,hc.2.1,Nat.le_refl _,hc.2.2⟩]
     ·rw [if_neg hc,if_neg (fun q=>hc ⟨q.1,q.2.1,q.2.2.2⟩)]
theorem evLen_row0 {P:Program} {T:TypeId} {s:St}:evLen P T .row0 s=lenSl (P.underlying T) 0:=by
 unfold evLen lenSl;cases P.underlying T with
 | none=>rfl
 | some u=>cases u <;> rfl
theorem evLen_row {P:Program} {T:TypeId} {b off n rsz:Nat} {s:St}:evLen P T (.row b off n rsz) s=lenSl (P.underlying T) n:=by
 unfold evLen lenSl;cases P.underlying T with
 | none=>rfl
 | some u=>cases u <;> rfl
theorem vsM :
    (∀ (P:Program) (e:List D) (s:St) (K:DC) (T:TypeId),@stepI P (.makeMap T none) e s K = @optI (evMakeMap s) K) ∧
    (∀ (P:Program) (e:List D) (s:St) (K:DC) (T:TypeId) (l c:Operand),@stepI P (.makeSlice T l c) e s K = @optI (evMakeSlice P T (val e l) (val e c) s) K) ∧
    (∀ (P:Program) (e:List D) (s:St) (K:DC) (T:TypeId) (m i:Operand) (ok:Bool),@stepI P (.lookup T m i ok) e s K = @optSI (evLookup P T (val e m) (val e i) ok s) s K) ∧
    (∀ (P:Program) (e:List D) (s:St) (K:DC) (T:TypeId) (m i x:Operand),@stepI P (.mapUpdate T m i x) e s K = @optTI (evMapUpdate P T (val e m) (val e i) (val e x) s) K) ∧
    (∀ (P:Program) (e:List D) (s:St) (K:DC) (T:TypeId) (m i x:Operand),@stepI P (.insert T m i x) e s K = @optTI (evMapUpdate P T (val e m) (val e i) (val e x) s) K) ∧
    (∀ (P:Program) (e:List D) (s:St) (K:DC) (x y:Operand) (T U:TypeId),@stepI P (.call { callee:=.builtin .delete,args:=#[x,y],argTypes:=#[T,U] }) e s K = @optUI (evDelete P T (val e x) (val e y) s) K) ∧
    (∀ (P:Program) (e:List D) (s:St) (K:DC) (x:Operand) (T:TypeId),@stepI P (.call { callee:=.builtin .clear,args:=#[x],argTypes:=#[T] }) e s K = @optUI (evClear P T (val e x) s) K) ∧
    (∀ (s:St) (K:DC),@optUI (some s) K = @dI (.tup []) s K)∧(∀ (K:DC),@optUI none K=False) ∧
    (∀ (B:List Box) (L:List Nat) (c:Nat),evMakeMap ⟨B,L,c⟩=some (.map B.length,⟨B++[.map []],L,c⟩)) ∧
    (∀ (P:Program) (T:TypeId) (m:D) (k:IntKind) (n:Int) (ok:Bool) (s:St),evLookup P T m (.int k n) ok s=lkOf (P.underlying T) P (mapOf m s) k n ok) ∧
    (∀ (P:Program) (K V:TypeId) (es:Option (List (D × D))) (k:IntKind) (n:Int) (ok:Bool),lkOf (some (.map K V)) P es k n ok=lkOf2 (P.underlying K) (zeroD P V) es k n ok) ∧
    (∀ (kk:IntKind) (z:D) (es:List (D × D)) (k:IntKind) (n:Int) (ok:Bool),lkOf2 (some (.int kk)) (some z) (some es) k n ok=(mapFind k n es 0).map fun r=>lookD r z ok) ∧
    (∀ (s:St),mapOf .nilm s=some [])∧(∀ (b:Nat) (B:List Box) (L:List Nat) (c:Nat),mapOf (.map b) ⟨B,L,c⟩=mapBx B[b]?)∧(∀ (es:List (D × D)),mapBx (some (.map es))=some es) ∧
    (∀ (i:Nat) (v z:D),lookD (some (i,v)) z true=.tup [v,.bool true])∧(∀ (i:Nat) (v z:D),lookD (some (i,v)) z false=v)∧(∀ (z:D),lookD none z true=.tup [z,.bool false])∧(∀ (z:D),lookD none z false=z) ∧
    (∀ (P:Program) (T:TypeId) (b:Nat) (k:IntKind) (n:Int) (x:D) (B:List Box) (L:List Nat) (c:Nat),evMapUpdate P T (.map b) (.int k n) x ⟨B,L,c⟩=muOf (P.underlying T) P (mapBx B[b]?) b k n x B L c) ∧
    (∀ (P:Program) (K V:TypeId) (es:Option (List (D × D))) (b:Nat) (k:IntKind) (n:Int) (x:D) (B:List Box) (L:List Nat) (c:Nat),muOf (some (.map K V)) P es b k n x B L c=muOf2 (P.underlying K) es b k n x B L c) ∧
    (∀ (kk:IntKind) (es:List (D × D)) (b:Nat) (k:IntKind) (n:Int) (x:D) (B:List Box) (L:List Nat) (c:Nat),muOf2 (some (.int kk)) (some es) b k n x B L c=(mapFind k n es 0).map fun r=>⟨B.set b (.map (mapPut k n x r es)),L,c⟩) ∧
    (∀ (P:Program) (T:TypeId) (b:Nat) (k:IntKind) (n:Int) (B:List Box) (L:List Nat) (c:Nat),evDelete P T (.map b) (.int k n) ⟨B,L,c⟩=mdOf (P.underlying T) P (mapBx B[b]?) b k n B L c) ∧
    (∀ (P:Program) (K V:TypeId) (es:Option (List (D × D))) (b:Nat) (k:IntKind) (n:Int) (B:List Box) (L:List Nat) (c:Nat),mdOf (some (.map K V)) P es b k n B L c=mdOf2 (P.underlying K) es b k n B L c) ∧
    (∀ (kk:IntKind) (es:List (D × D)) (b:Nat) (k:IntKind) (n:Int) (B:List Box) (L:List Nat) (c:Nat),mdOf2 (some (.int kk)) (some es) b k n B L c=(mapFind k n es 0).map fun r=>⟨B.set b (.map (mapCut r es)),L,c⟩) ∧
    (∀ (k:IntKind) (n:Int) (i:Nat),mapFind k n [] i=some none) ∧
    (∀ (P:Program) (T:TypeId) (k k':IntKind) (l c:Int) (B:List Box) (L:List Nat) (ct:Nat),evMakeSlice P T (.int k l) (.int k' c) ⟨B,L,ct⟩=msOf (elemT P T) P l c B L ct) ∧
    (∀ (P:Program) (e:TypeId) (sz b:Nat) (ag:Bool) (l c:Int) (B:List Box) (L:List Nat) (ct:Nat),msOf (some (e,sz,b,ag)) P l c B L ct=msOf2 (zeroT P e) sz b l c B L ct) ∧
    (∀ (zs:List D) (sz b:Nat) (l c:Int) (B:List Box) (L:List Nat) (ct:Nat),msOf2 (some zs) sz b l c B L ct=if zs.length=sz∧0<sz∧0<b∧b≤1000000∧0≤l∧l≤c∧c≤1000000 then some (.row B.length 0 l.toNat sz,⟨B++[.cells (List.replicate l.toNat zs).flatten],L,ct⟩) else none) ∧
    (∀ (P:Program) (T T':TypeId) (b off n rsz:Nat) (o':Own) (ys:List (List D)) (s:St) (K:DC),@optI (evAppend P T T' (.row b off n rsz) (.slice o' ys) s) K = @apR (elemT P T) (elemT P T') P b off n rsz s.boxes[b]? ys s K) ∧
    (∀ (P:Program) (e e':TypeId) (sz by_ sz' b':Nat) (ag ag':Bool) (b off n rsz:Nat) (cs:List D) (ys:List (List D)) (s:St) (K:DC),@apR (some (e,sz,by_,ag)) (some (e',sz',b',ag')) P b off n rsz (some (.cells cs)) ys s K = @apR2 (zeroT P e) sz by_ b off n rsz (some (.cells cs)) ys s K) ∧
    (∀ (zs:List D) (sz by_:Nat) (b off n rsz:Nat) (cs:List D) (ys:List (List D)) (B:List Box) (L:List Nat) (c:Nat) (K:DC),@apR2 (some zs) sz by_ b off n rsz (some (.cells cs)) ys ⟨B,L,c⟩ K =
      @needI (zs.length=sz∧0<sz∧0<by_∧by_≤1000000) (needC (∀ c ∈ ys,c.length=sz) (needC (rsz=sz∧off=0) (needC (cs.length=n * sz) (needC (n+ys.length≤1000000) (dC (.row B.length 0 (n+ys.length) sz) ⟨B.set b .dead++[.cells (cs++ys.flatten)],L,c⟩ K)))))) ∧
    (∀ (P:Program) (T T':TypeId) (o':Own) (ys:List (List D)) (s:St) (K:DC),@optI (evAppend P T T' .row0 (.slice o' ys) s) K = @apZ (elemT P T) (elemT P T') P ys s K) ∧
    (∀ (P:Program) (e e':TypeId) (sz by_ sz' b':Nat) (ag ag':Bool) (ys:List (List D)) (s:St) (K:DC),@apZ (some (e,sz,by_,ag)) (some (e',sz',b',ag')) P ys s K = @apZ2 (zeroT P e) sz by_ ys s K) ∧
    (∀ (zs:List D) (sz by_:Nat) (s:St) (K:DC),@apZ2 (some zs) sz by_ [] s K = @needI (zs.length=sz∧0<sz∧0<by_∧by_≤1000000) (dC .row0 s K)) ∧
    (∀ (zs:List D) (sz by_:Nat) (y:List D) (ys:List (List D)) (B:List Box) (L:List Nat) (c:Nat) (K:DC),@apZ2 (some zs) sz by_ (y::ys) ⟨B,L,c⟩ K =
      @needI (zs.length=sz∧0<sz∧0<by_∧by_≤1000000) (needC (∀ c ∈ y::ys,c.length=sz) (needC ((y::ys).length≤1000000) (dC (.row B.length 0 (y::ys).length sz) ⟨B++[.cells (y::ys).flatten],L,c⟩ K)))) ∧
    (∀ (P:Program) (T:TypeId) (b off len rsz:Nat) (k:IntKind) (n:Int) (s:St) (K:DC),@optSI (evIndexAddr P T (.row b off len rsz) (.int k n)) s K = @ixR (elemT P T) b off len n s K) ∧
    (∀ (e:TypeId) (sz by_:Nat) (ag:Bool) (b off len:Nat) (n:Int) (s:St) (K:DC),@ixR (some (e,sz,by_,ag)) b off len n s K = @needI (0≤n∧n<len) (dC (.box b (off+n.toNat * sz)) s K)) ∧
    (∀ (P:Program) (T:TypeId) (s:St),evLen P T .row0 s=lenSl (P.underlying T) 0)∧(∀ (P:Program) (T:TypeId) (b off n rsz:Nat) (s:St),evLen P T (.row b off n rsz) s=lenSl (P.underlying T) n) ∧
    (∀ (P:Program) (T:TypeId) (b off n rsz:Nat) (lo hi:Option D),evSlice P T (.row b off n rsz) lo hi none=slR (P.underlying T) (elemT P T) b off n rsz lo hi) ∧
    (∀ (P:Program) (T:TypeId) (o:Own) (xs:List (List D)) (lo hi:Option D),evSlice P T (.slice o xs) lo hi none=slS (P.underlying T) (elemT P T) o xs lo hi) ∧
    (D.row0.plain=.row0)∧(D.row0.plain1=.row0)∧(D.row0.keep1=.row0)∧(cellsD .row0=some [.row0]) ∧
    (∀ b o n z,(D.row b o n z).plain=.row b o n z)∧(∀ b o n z,(D.row b o n z).plain1=.row b o n z)∧(∀ b o n z,(D.row b o n z).keep1=.row b o n z)∧(∀ b o n z,cellsD (.row b o n z)=some [.row b o n z]):=by
  and_intros
  all_goals intros
  all_goals first
    | rfl
    | with_unfolding_all rfl
    | exact evAppendR_w
    | exact evAppendZ_w
    | exact evIndexR_w
    | exact evLookup_w
    | exact evMapUpdate_w
    | exact evDelete_w
    | exact evMakeSlice_w
    | exact evSlice_rw
    | exact evSlice_sw
    | exact evLen_row0
    | exact evLen_row
    | (unfold apR apR2;dsimp only;cases zeroT _ _ <;> rfl)
    | (apply propext;constructor
       · rintro ⟨h1,h2,h3⟩;exact ⟨h1,h3⟩
       · rintro ⟨h1,h3⟩;exact ⟨h1,(fun _ h=>(by cases h)),h3⟩)
    | (apply propext;constructor
       · rintro ⟨h1,h2,h3,h4⟩;exact ⟨h1,h2,h3,h4⟩
       · rintro ⟨h1,h2,h3,h4⟩;exact ⟨h1,h2,by rw [if_neg (by simp)];exact ⟨h3,h4⟩⟩)
    | trace_state
theorem vsNd :
  (∀ (P:Program) (e:List D) (s:St) (K:DC) (x:Operand),@stepNI P (.move x) e s K = @stepI P (.move x) e s K) ∧
  (∀ (P:Program) (e:List D) (s:St) (K:DC) (x:Operand),@stepNI P (.assign x) e s K = @stepI P (.assign x) e s K) ∧
  (∀ (P:Program) (e:List D) (s:St) (K:DC) (c a b:Operand),@stepNI P (.pick c a b) e s K = @stepI P (.pick c a b) e s K) ∧
  (∀ (P:Program) (e:List D) (s:St) (K:DC) (T:TypeId),@stepNI P (.alloc T) e s K = @stepI P (.alloc T) e s K) ∧
  (∀ (P:Program) (e:List D) (s:St) (K:DC) (T:TypeId) (x:Operand),@stepNI P (.box T x) e s K = @stepI P (.box T x) e s K) ∧
  (∀ (P:Program) (e:List D) (s:St) (K:DC) (T:TypeId) (ps:Array (Nat × Operand)),@stepNI P (.build T ps) e s K = @stepI P (.build T ps) e s K) ∧
  (∀ (P:Program) (e:List D) (s:St) (K:DC) (T:TypeId) (n:Nat) (ps:Array (Nat × Operand)),@stepNI P (.buildSlice T n ps) e s K = @stepI P (.buildSlice T n ps) e s K) ∧
  (∀ (P:Program) (e:List D) (s:St) (K:DC) (T:TypeId) (a:Operand),@stepNI P (.load T a) e s K = @stepI P (.load T a) e s K) ∧
  (∀ (P:Program) (e:List D) (s:St) (K:DC) (T:TypeId) (a x:Operand),@stepNI P (.store T a x) e s K = @stepI P (.store T a x) e s K) ∧
  (∀ (P:Program) (e:List D) (s:St) (K:DC) (x:Operand),@stepNI P (.nilCheck x) e s K = @stepI P (.nilCheck x) e s K) ∧
  (∀ (P:Program) (e:List D) (s:St) (K:DC) (op:BinOp) (T U:TypeId) (x y:Operand),@stepNI P (.binOp op T x y U) e s K = @stepI P (.binOp op T x y U) e s K) ∧
  (∀ (P:Program) (e:List D) (s:St) (K:DC) (op:UnOp) (T:TypeId) (x:Operand),@stepNI P (.unOp op T x) e s K = @stepI P (.unOp op T x) e s K) ∧
  (∀ (P:Program) (e:List D) (s:St) (K:DC) (T U:TypeId) (x:Operand),@stepNI P (.convert T U x) e s K = @stepI P (.convert T U x) e s K) ∧
  (∀ (P:Program) (e:List D) (s:St) (K:DC) (fn:Fn) (fi ca:Array Operand),@stepNI P (.makeFunc fn fi ca) e s K = @stepI P (.makeFunc fn fi ca) e s K) ∧
  (∀ (P:Program) (e:List D) (s:St) (K:DC) (T:TypeId) (x:Operand) (lo hi mx:Option Operand),@stepNI P (.slice T x lo hi mx) e s K = @stepI P (.slice T x lo hi mx) e s K) ∧
  (∀ (P:Program) (e:List D) (s:St) (K:DC) (T:TypeId) (x:Operand) (f:Nat),@stepNI P (.fieldAddr T x f) e s K = @stepI P (.fieldAddr T x f) e s K) ∧
  (∀ (P:Program) (e:List D) (s:St) (K:DC) (T:TypeId) (x:Operand) (f:Nat),@stepNI P (.field T x f) e s K = @stepI P (.field T x f) e s K) ∧
  (∀ (P:Program) (e:List D) (s:St) (K:DC) (T:TypeId) (x i:Operand),@stepNI P (.indexAddr T x i) e s K = @stepI P (.indexAddr T x i) e s K) ∧
  (∀ (P:Program) (e:List D) (s:St) (K:DC) (T:TypeId) (x i:Operand),@stepNI P (.index T x i) e s K = @stepI P (.index T x i) e s K) ∧
  (∀ (P:Program) (e:List D) (s:St) (K:DC) (x:Operand) (i:Nat),@stepNI P (.extract x i) e s K = @stepI P (.extract x i) e s K) ∧
  (∀ (P:Program) (e:List D) (s:St) (K:DC) (T:TypeId) (r:Option Operand),@stepNI P (.makeMap T r) e s K = @stepI P (.makeMap T r) e s K) ∧
  (∀ (P:Program) (e:List D) (s:St) (K:DC) (T:TypeId) (l c:Operand),@stepNI P (.makeSlice T l c) e s K = @stepI P (.makeSlice T l c) e s K) ∧
  (∀ (P:Program) (e:List D) (s:St) (K:DC) (T:TypeId) (m i:Operand) (ok:Bool),@stepNI P (.lookup T m i ok) e s K = @stepI P (.lookup T m i ok) e s K) ∧
  (∀ (P:Program) (e:List D) (s:St) (K:DC) (T:TypeId) (m i x:Operand),@stepNI P (.mapUpdate T m i x) e s K = @stepI P (.mapUpdate T m i x) e s K) ∧
  (∀ (P:Program) (e:List D) (s:St) (K:DC) (T:TypeId) (m i x:Operand),@stepNI P (.insert T m i x) e s K = @stepI P (.insert T m i x) e s K) ∧
  (∀ (P:Program) (e:List D) (s:St) (K:DC) (b:Builtin) (ar:Array Operand) (ts:Array TypeId),@stepNI P (.call { callee:=.builtin b,args:=ar,argTypes:=ts }) e s K = @stepI P (.call { callee:=.builtin b,args:=ar,argTypes:=ts }) e s K) ∧
  (∀ (P:Program) (e:List D) (s:St) (K:DC) (f:Operand) (args:List Operand) (ts:Array TypeId),@stepNI P (.call { callee:=.value f,args:=args.toArray,argTypes:=ts }) e s K = @callI true P (val e f) (args.map fun x=>(val e x).plain) s K) ∧
  (∀ (P:Program) (full:List Oper) (e:List D) (s:St) (K:KC),@runNI P full [] e s K = @kI e s K) ∧
  (∀ (P:Program) (full os:List Oper) (e:List D) (s:St) (K:KC),@pI (runNC P full os e s K) = @runNI P full os e s K) ∧
  (∀ (P:Program) (op:Op) (e:List D) (s:St) (K:DC),@pI (stepNC P op e s K) = @stepNI P op e s K) ∧
  (∀ (P:Program) (full os:List Oper) (e:List D) (s:St) (K:KC) (dst:Option Tmp) (op:Op) (ty:TypeId) (pos:String) (after:Array Edge),@runNI P full ({ dst:=dst,op:=op,type:=ty,pos:=pos,after:=after,guard:=none }::os) e s K = @stepNI P op e s (opNC P full os dst e K)) ∧
  (∀ (P:Program) (full os:List Oper) (e:List D) (s:St) (K:KC) (dst:Option Tmp) (op:Op) (ty:TypeId) (pos:String) (after:Array Edge) (j:Nat) (b:Bool),@runNI P full ({ dst:=dst,op:=op,type:=ty,pos:=pos,after:=after,guard:=some (j,b) }::os) e s K = @runGNI P full os dst op (guardOf full (some (j,b))) e s K) ∧
  (∀ (P:Program) (full os:List Oper) (e:List D) (s:St) (K:KC) (dst:Option Tmp) (op:Op) (t:Nat),@runGNI P full os dst op (some (some (t,true))) e s K=ifI (gdD true (e.getD t .junk)) (stepNC P op e s (opNC P full os dst e K)) (runNC P full os (putD e dst (.tup [])) s K)) ∧
  (∀ (P:Program) (full os:List Oper) (e:List D) (s:St) (K:KC) (dst:Option Tmp) (op:Op) (t:Nat),@runGNI P full os dst op (some (some (t,false))) e s K=ifI (gdD false (e.getD t .junk)) (runNC P full os (putD e dst (.tup [])) s K) (stepNC P op e s (opNC P full os dst e K))) ∧
  (∀ (P:Program) (full os:List Oper) (e:List D) (s:St) (K:KC) (dst:Option Tmp) (d:D),@dI d s (opNC P full os dst e K) = @runNI P full os (putD e dst d) s K):=by
 and_intros
 all_goals intros
 all_goals first
  | rfl
  | with_unfolding_all rfl
  | (simp only [runNI,runGNI,runN,guardOf];split <;> simp_all <;> (split <;> simp_all);done)
  | trace_state
end Go.V
