/-
  The value-level logic and its contracts, part 2 (texts V10b, V11, V12, V13, V14, V15, V16, V17, V18, V19, V20, V21, V22, V23, V15b).
-/
import Derived.Test.YtlobjjbchnjfiaaGreatBpre1
open List renaming getElem?_eq_some_iff→L5,getElem?_set_ne→ME,getElem_map→M4,mem_map→MB,getElem_of_mem→Mx,getElem?_set_self→MH,length_set→Oo,getD→NC,getElem?_eq_none→MS,getElem?_eq_getElem→C0,range→MF,length→OJ,mapM_cons→Pb,map_cons→M6,cons→O7,nodup_cons→Nk,replicate→MD,getElem_append_left→M9,getElem_append_right→M1,getElem?_append_left→ML,getElem?_append_right→My,set_append_right→Nm,all_eq_true→Mn,mem_filterMap→PM,map_congr_left→Og,filterMap_cons→OV,getElem?_cons_succ→MZ,mem_range→MP,reverse_nil→Qp,mem_filter→Nn,mem_of_getElem?→Oc,countP_cons→Qq,mem_cons→Mj,any_eq_true→NT,contains_iff_mem→NP,filter_cons_of_neg→Pn,filter_cons_of_pos→Po,getD_cons_zero→M7,getD_cons_succ→M3,map_take→OB,length_take→MN,getElem_take→NV,length_reverse→Qf
open Array renaming length_toList→Qe,mem_filter→PY,filter_eq_empty_iff→PT,getElem_mem→Qm,getElem_of_mem→P9,getElem?_setIfInBounds_self→M2,getElem?_eq_getElem→MV,getElem?_setIfInBounds_ne→M0,size_setIfInBounds→Oq,getElem_append_left→NI,getD→PJ,all_eq_true'→Qj,replicate→Qt,getElem_append_right→ON
open Nat renaming le_refl→K5,mod_lt→OU,eq_zero_or_pos→Nt,lt_or_ge→Nb,zero_le→K9
open Bool renaming eq_false_iff→O6,not_true→Mp,and_eq_true→Mh,not_eq_true'→MU,false_or→Mi,or_eq_true→N9,false_eq_true→MJ
open Option renaming getD_some→Nf,bind_some→Ni,some→NJ,map_some→NR
open Nat renaming reduceAdd → zA, reduceSub → zS, reduceMul → zM, reduceLeDiff → zL, reduceEqDiff → zE, reduceBEq → zB
set_option linter.all false
set_option linter.unusedSimpArgs false
set_option linter.unusedVariables false
set_option linter.unnecessarySimpa false
open Option renaming some→Qv
open Bool renaming false→Qw
open Option renaming none→Qx
open Bool renaming true→Qy
open Go renaming Program→QA,TypeId→QB,World→QD,Operand→QE,Value→QF,Oper→QG,Code→QH,FuncId→QI,Exit→QK
namespace Go.V
theorem WRel.mapX{w:QD}{g:G}{s:St}(h:WRel w g s){b:Nat}{es:List (D×D)}(hb:s.boxes[b]?=Qv (.map es)) :
  ∃(bs:List Nat)(c:Nat),bs.length=es.length∧bs.Nodup∧(∀x∈bs,x<c)∧WRel w g {s with boxes:=s.boxes.set b (.mapX es bs c)}:=by
 obtain⟨l,en,c,h1,h2,h3,h4⟩:=h.box b _ hb;have hlt:=(L5.1 hb).1;have hlen:(en.toList.map (·.born)).length=es.length:=by simp[h3]
 have hlv:∀j,Live1 {s with boxes:=s.boxes.set b (.mapX es (en.toList.map (·.born)) c)} j→Live1 s j:=by
  rintro j ⟨bx,q1,q2⟩;by_cases e:j=b
  ·subst e;exact⟨_,hb,by simp⟩
  ·simp only at q1;rw[ME (by omega)]at q1;exact⟨bx,q1,q2⟩
 refine⟨en.toList.map (·.born),c,hlen,?_,?_,?_⟩
 ·refine List.pairwise_iff_getElem.2 λi j hi hj hij e=>?_;simp only[List.length_map,Qe]at hi hj;simp only[M4,Array.getElem_toList]at e;have:=(h4 j (by omega) hj).2.2.2 i hi e
  omega
 ·intro x hx;obtain⟨e,he,rfl⟩:=MB.1 hx;obtain⟨j,hj,rfl⟩:=Mx he;simp only[Qe]at hj;simpa using(h4 j (by omega) hj).2.2.1
 ·refine {os:=h.os,tape:=h.tape,out:=h.out,fz:=h.fz,n:=h.n,old:=h.old,m:=h.m,box:=?_,inj:=λi j c h1 h2 l1 l2=>h.inj i j c h1 h2 (hlv i l1) (hlv j l2),dom:=λj c hj=>by have:=h.dom j c hj;simpa using this,live:=h.live,uniq:=h.uniq,ldom:=h.ldom,o:=h.o,nd:=h.nd,sz:=h.sz};intro j bx hj;by_cases e:j=b
  ·subst e;simp only at hj;rw[MH hlt]at hj;cases hj;exact⟨l,en,c,h1,h2,⟨h3,rfl,rfl⟩,h4⟩
  ·simp only at hj;rw[ME (by omega)]at hj;exact h.box j bx hj
def mc(d:D)(s:St)(K:D→St→Prop):Prop:=
 match d with
 |.map b=>match s.boxes[b]? with
  |some (.map es)=>∀(bs:List Nat)(c:Nat),bs.length=es.length→bs.Nodup→(∀x∈bs,x<c)→K (.box s.boxes.length 0) {s with boxes:=s.boxes.set b (.mapX es bs c)++[.iter b c []]}
  |_=>False
 |_=>False
def rj(d:D)(s:St)(K:D→St→Prop):Prop:=
 match d with
 |.box i 0=>match s.boxes[i]? with
  |some (.iter mb c seen)=>match s.boxes[mb]? with
   |some (.mapX es bs c')=>c'=c∧(∀x∈bs,x<c)∧(∀(j:Nat)(h:j<es.length)(h2:j<bs.length),bs[j] ∉ seen→K (.tup [.bool Qy,es[j].1,es[j].2]) {s with boxes:=s.boxes.set i (.iter mb c (seen++[bs[j]]))}) ∧
     ((∀x∈bs,x∈seen)→K (.tup [.bool Qw]) s)
   |_=>False
  |_=>False
 |_=>False
variable {d:D}{s:St}{K':D→St→Prop}
theorem wv{K:D→St→Prop}(hK:∀d s,K d s→K' d s)(h:mc d s K):mc d s K':=by
 unfold mc at *;split at h
 ·split at h
  ·exactλbs c h1 h2 h3=>hK _ _ (h bs c h1 h2 h3)
  ·exact h
 ·exact h
theorem zj{K:D→St→Prop}(hK:∀d s,K d s→K' d s)(h:rj d s K):rj d s K':=by
 unfold rj at *;split at h
 ·split at h
  ·split at h
   ·exact⟨h.1,h.2.1,λj q1 q2 q3=>hK _ _ (h.2.2.1 j q1 q2 q3),λq=>hK _ _ (h.2.2.2 q)⟩
   ·exact h
  ·exact h
 ·exact h
variable {P:QA}{w:QD}{g:G}{T:QB}{v:QF}{Z:D→St→Prop}
theorem EW{K K':QB}(hT:P.underlying T=Qv (.map K K'))(h:WRel w g s)(hd:R g d v)(hz:mc d s Z) :
  ∃d' s',Z d' s'∧Ok P (Instr.range T v) w g d' s':=by
 unfold mc at hz;split at hz
 ·rename_i b;split at hz
  ·rename_i es hb;obtain⟨bs,c,h1,h2,h3,hw⟩:=h.mapX hb;refine⟨_,_,hz bs c h1 h2 h3,?_⟩;cases hd with
   |map _ r hB =>
    have hlt:=(L5.1 hb).1;have hbx:({s with boxes:=s.boxes.set b (.mapX es bs c)}:St).boxes[b]?=Qv (.mapX es bs c):=by
     show(s.boxes.set b _)[b]?=_;rw[MH hlt]
    obtain⟨l,en,c',q1,q2,⟨q3,q4,rfl⟩,q5⟩:=hw.box b _ hbx;rw[hB]at q1;cases q1;have hlen:(s.boxes.set b (Box.mapX es bs c')).length=s.boxes.length:=Oo ..;have hn:g.B (s.boxes.set b (Box.mapX es bs c')).length=Qx:=jX hw (K5 _);obtain⟨k1,k2⟩:=hw.newBox (.mapIter (Qv r) c' #[] c') rfl (.iter b c' []) ⟨w.heap.size,r,by simp[G.addB],bq _ _,by
     simp only[G.addB];rw[if_neg (by show ¬b=(s.boxes.set b _).length;rw[hlen];omega)];exact hB⟩
    refine⟨.pointer (Qv ⟨w.heap.size,0,Qx⟩),w.alloc (.mapIter (Qv r) c' #[] c'),_,?_,k1,k2,?_⟩
    ·simp[Instr.range,run_underlying hT,dF q2,newObj,Sem.run]
    ·have:R (g.addB (s.boxes.set b (Box.mapX es bs c')).length w.heap.size) (.box s.boxes.length 0) (.pointer (Qv ⟨w.heap.size,0,Qx⟩)):=.box _ 0 w.heap.size (by simp[G.addB])
     exact this
  ·exact hz.elim
 ·exact hz.elim
theorem zz{en:Array MapEntry}{c:Nat}{seen:Array Nat}(h:∀e∈en,e.born<c):((en.filter λe=>!seen.contains e.born).filter (·.born<c))=en.filter (λe=>!seen.contains e.born)∧((en.filter λe=>!seen.contains e.born).filter (·.born≥c)) = #[]:=by
 refine⟨?_,?_⟩
 ·rw[Array.filter_eq_self];intro e he;simpa using h e (PY.1 he).1
 ·rw[PT];intro e he;have:=h e (PY.1 he).1
  simp;omega
theorem qx{n:Nat}(hn:0<n):∃(i:Nat)(w1:QD),i<n∧(w1=w∨w1=w.drew)∧(choose (.mapNext n)).run P w=.ok i w1:=by
 by_cases h:(Question.mapNext n).forced=Qy
 ·exact⟨0,w,hn,.inl rfl,by simp only[choose,Sem.run,if_pos h]⟩
 ·exact⟨_,w.drew,OU _ hn,.inr rfl,by simp only[choose,Sem.run,if_neg h];rfl⟩
theorem ET{r m c:Nat}{seen:Array Nat}{en:Array MapEntry}(hr:w.heap[r]?=Qv (.mapIter (Qv m) c seen c))(hm:w.heap[m]?=Qv (.map en c))(hb:∀e∈en,e.born<c) :
  (∃(w1:QD)(j:Nat)(hj:j<en.size),(w1=w∨w1=w.drew)∧¬en[j].born∈seen ∧
   (Instr.next (.pointer (Qv ⟨r,0,Qx⟩)) Qw T).run P w=.ok (.tuple #[.bool Qy,en[j].key,en[j].val]) {w1 with heap:=w1.heap.setIfInBounds r (.mapIter (Qv m) c (seen.push en[j].born) c)}) ∨
  ((∀e∈en,e.born∈seen)∧(Instr.next (.pointer (Qv ⟨r,0,Qx⟩)) Qw T).run P w=.ok (.tuple #[.bool Qw]) w):=by
 obtain⟨f1,f2⟩:=zz (seen:=seen) hb;have hno:(!seen.isEmpty && !en.isEmpty&&en.all (·.born≥c))=Qw:=by
  by_cases he:en.isEmpty=Qy
  ·simp[he]
  ·have:en.all (·.born≥c)=Qw:=by
    rw[O6];intro ha;have hpos:0<en.size:=by
     rcases Nt en.size with q|q
     ·exact absurd (by simpa using q) he
     ·exact q
    have h1:=Array.all_eq_true.1 ha 0 hpos;have h2:=hb en[0] (Qm hpos);simp at h1;omega
   rw[this];simp
 have hg1:(getObj r).run P w=.ok (.mapIter (Qv m) c seen c) w:=by simp[getObj,Sem.run,hr]
 have hg2:=dF (P:=P) hm;by_cases hl:(en.filter λe=>!seen.contains e.born) = #[]
 ·right;refine⟨λe he=>?_,?_⟩
  ·rw[PT]at hl;have:=hl e he
   simpa using this
  ·simp only[Instr.next,Sem.run_bind,hg1,Result.andThen_ok,hg2,hno,hl];simp[Sem.run,choose,Question.forced]
 ·left;generalize hL:(en.filter λe=>!seen.contains e.born)=l at f1 f2 hl;have hpos:0<l.size:=by
   rcases Nt l.size with q|q
   ·exact absurd (by simpa using q) hl
   ·exact q
  have hc:((if (l.filter λx=>decide (x.born<c)).isEmpty=Qy then #[Qx]else #[])++Array.map Qv (l.filter (λx=>decide (x.born<c))++l.filter λx=>decide (x.born≥c)))=l.map Qv:=by
   rw[f1,f2];have:¬l.isEmpty=Qy:=by simpa using hl
   rw[if_neg this];simp
  obtain⟨i,w1,hi,hw1,hch⟩:=qx (P:=P) (w:=w) hpos;have hei:l[i]∈en∧¬l[i].born∈seen:=by
   have hmem:∀x∈l,x∈en∧¬x.born∈seen:=λx hx=>by
    rw[←hL]at hx;have h2:=PY.1 hx;exact⟨h2.1,by simpa using h2.2⟩
   exact hmem _ (Qm hi)
  obtain⟨j,hj,ej⟩:=P9 hei.1;have hr1:w1.heap[r]?=Qv (.mapIter (Qv m) c seen c):=by rcases hw1 with rfl|rfl<;>exact hr
  refine⟨w1,j,hj,hw1,by rw[ej];exact hei.2,?_⟩;have hset:∀o,(setObj r o).run P w1=.ok () {w1 with heap:=w1.heap.setIfInBounds r o}:=λo=>by simp[setObj,Sem.run,hr1]
  have hget:(l.map Qv)[i]?=Qv (Qv l[i]):=by simp[hi]
  have hsz:(l.map Qv).size=l.size:=by simp
  have hff:(Qw=Qy)=False:=by simp
  simp only[Instr.next,Sem.run_bind,hg1,Result.andThen_ok,hg2,hno,hff,if_false,hL,hc,hsz,hch,hget,hset,ej,Sem.run_pure]
theorem IE(h:WRel w g s)(hd:R g d v)(hz:rj d s Z) :
  ∃d' s',Z d' s'∧Ok P (Instr.next v Qw T) w g d' s':=by
 unfold rj at hz;split at hz
 ·rename_i i;split at hz
  ·rename_i mb c seen hi;split at hz
   ·rename_i es bs c' hm;obtain⟨rfl,hlt,hz1,hz2⟩:=hz;obtain⟨r,m,q1,q2,q3⟩:=h.box i _ hi;obtain⟨l,en,c2,p1,p2,⟨p3,p4,rfl⟩,p5⟩:=h.box mb _ hm;rw[q3]at p1;cases p1;have hv:v=.pointer (Qv ⟨r,0,Qx⟩):=by
     cases hd with
     |box _ _ blk hB=>rw[q1]at hB;cases hB;rfl
    subst hv;have hbn:∀e∈en,e.born<c2:=λe he=>by
     obtain⟨j,hj,rfl⟩:=P9 he;exact(p5 j (by omega) hj).2.2.1
    rcases ET (T:=T) (P:=P) q2 p2 hbn with ⟨w1,j,hj,hw1,hns,hrun⟩|⟨hall,hrun⟩
    ·have hW1:WRel w1 g s:=by rcases hw1 with rfl|rfl;exact h;exact h.drew
     have q21:w1.heap[r]?=Qv (.mapIter (Qv m) c2 seen.toArray c2):=by rcases hw1 with rfl|rfl<;>exact q2
     have hje:j<es.length:=by omega
     have hjb:j<bs.length:=by rw[p4];simp;exact hj
     have hbj:bs[j]=en[j].born:=by simp[p4]
     have hlr:=bL q21;refine⟨_,_,hz1 j hje hjb (by rw[hbj];simpa using hns),_,_,g,hrun,.refl g,?_,?_⟩
     ·refine hW1.setObjB ⟨_,hi,by simp⟩ q1 q21 (by simp) (by simp) (by simp) ⟨r,m,q1,?_,q3⟩;rw[M2,if_pos hlr,hbj];simp
     ·have:=p5 j hje hj
      refine .tup _ _ rfl λk h1 h2=>?_;match k,h1,h2 with
      |0,_,_=>exact .bool _
      |1,_,_=>exact this.1
      |2,_,_=>exact this.2.1
    ·refine⟨_,_,hz2 λx hx=>?_,_,w,g,hrun,.refl g,h,.tup _ _ rfl λk h1 h2=>?_⟩
     ·rw[p4]at hx;obtain⟨e,he,rfl⟩:=MB.1 hx;have:=hall e (by simpa using he)
      simpa using this
     ·match k,h1,h2 with
      |0,_,_=>exact .bool _
   ·exact hz.elim
  ·exact hz.elim
 ·exact hz.elim
def mo(d:D)(s:St)(K:D→St→Prop):Prop:=
 match d with
 |.box i 0=>match s.boxes[i]? with
  |some (.iter mb c seen)=>match s.boxes[mb]? with
   |some (.mapX es bs c')=>c'=c∧∃(j:Nat)(h:j<es.length)(h2:j<bs.length),seen.getLast?=Qv bs[j]∧K (.tup [es[j].1,es[j].2]) s
   |_=>False
  |_=>False
 |_=>False
theorem wI{K:D→St→Prop}(hK:∀d s,K d s→K' d s)(h:mo d s K):mo d s K':=by
 unfold mo at *;split at h
 ·split at h
  ·split at h
   ·obtain⟨h1,j,h2,h3,h4,h5⟩:=h;exact⟨h1,j,h2,h3,h4,hK _ _ h5⟩
   ·exact h
  ·exact h
 ·exact h
theorem ux{b:Nat}:∀(l:List MapEntry)(j:Nat)(hj:j<l.length),l[j].born=b→(∀(k:Nat)(h:k<l.length),l[k].born=b→k=j)→l.find? (λe=>e.born == b)=Qv l[j]
 | [],j,hj,_,_=>by simp at hj
 |x::l,0,_,h1,_=>by
  have:(x.born == b)=Qy:=by simpa using h1
  rw[List.find?_cons,this];rfl
 |x::l,j+1,hj,h1,h2=>by
  have:(x.born == b)=Qw:=by
   rw[O6];intro e;have:=h2 0 (by simp) (by simpa using e)
   omega
  rw[List.find?_cons,this];exact ux l j (by simpa using hj) (by simpa using h1) λk hk e=>by
   have:=h2 (k+1) (by simpa using hk) (by simpa using e)
   omega
theorem FN(h:WRel w g s)(hd:R g d v)(hz:mo d s Z) :
  ∃d' s',Z d' s'∧Ok P (Instr.entry v) w g d' s':=by
 unfold mo at hz;split at hz
 ·rename_i i;split at hz
  ·rename_i mb c seen hi;split at hz
   ·rename_i es bs c' hm;obtain⟨rfl,j,hje,hjb,hl,hz⟩:=hz;obtain⟨r,m,q1,q2,q3⟩:=h.box i _ hi;obtain⟨l,en,c2,p1,p2,⟨p3,p4,rfl⟩,p5⟩:=h.box mb _ hm;rw[q3]at p1;cases p1;have hv:v=.pointer (Qv ⟨r,0,Qx⟩):=by
     cases hd with
     |box _ _ blk hB=>rw[q1]at hB;cases hB;rfl
    subst hv;have hj:j<en.size:=by omega
    have hbj:bs[j]=en[j].born:=by simp[p4]
    have hb:seen.toArray.back?=Qv en[j].born:=by rw[←hbj,←hl];simp
    have hf:en.find? (λe=>e.born == en[j].born)=Qv en[j]:=by
     rw[←Array.find?_toList];have:=ux (b:=en[j].born) en.toList j (by simpa using hj) (by simp) λk hk e=>by
      have hk':k<en.size:=by simpa using hk
      exact(p5 j hje hj).2.2.2 k hk' (by simpa using e)
     simpa using this
    refine⟨_,_,hz,.tuple #[en[j].key,en[j].val],w,g,?_,.refl g,h,.tup _ _ rfl λk h1 h2=>?_⟩
    ·have g1:(getObj r).run P w=.ok (.mapIter (Qv m) c2 seen.toArray c2) w:=by simp[getObj,Sem.run,q2]
     have g2:=dF (P:=P) p2;simp only[Instr.entry,Sem.run_bind,g1,Result.andThen_ok,hb,g2];have hne:(c2 != c2)=Qw:=by simp
     simp only[hne,hf];rfl
    ·have:=p5 j hje hj
     match k,h1,h2 with
     |0,_,_=>exact this.1
     |1,_,_=>exact this.2.1
   ·exact hz.elim
  ·exact hz.elim
 ·exact hz.elim
def optW(x:Option (D×St))(K:D→St→Prop):Prop:=
 match x with
 |some (d,s)=>K d s
 |none=>False
theorem cm{x:Option (D×St)}{K:D→St→Prop}:optW x K↔∃d s,x=Qv (d,s)∧K d s:=by
 unfold optW;split
 ·rename_i d s;exact⟨λh=>⟨d,s,rfl,h⟩,λ⟨d',s',e,h⟩=>by cases e;exact h⟩
 ·exact⟨λh=>h.elim,λ⟨_,_,e,_⟩=>by cases e⟩
def Kk(P:QA)(f:D)(args:List D)(s:St)(K:D→St→Prop):Prop:=∃d s',cT P f args s d s'∧K d s'
def ifB(c:D)(x y:Prop):Prop:=
 match c with
 |.bool Qy=>x
 |.bool Qw=>y
 |_=>False
def cR(P:QA)(op:Op)(ρ:QE→D)(s:St)(K:D→St→Prop):Prop:=
 match op with
 |.call {callee:=.value f,args,argTypes:=_}=>Kk P (ρ f) (argsOf ρ args) s K
 |op=>optW (evalOp P ρ s op) K
variable {o:QG}
theorem iM{ρ:QE→D}{K:D→St→Prop}(h:cR P o.op ρ s K):∃d s',tt P o ρ s d s'∧K d s':=by
 unfold cR at h;split at h
 ·rename_i f args ts he;obtain⟨d,s',h1,h2⟩:=h;exact⟨d,s',.inr ⟨f,args,ts,he,h1⟩,h2⟩
 ·obtain⟨d,s',h1,h2⟩:=cm.1 h;exact⟨d,s',.inl h1,h2⟩
def gdD(b:Bool):D→D
 |.tup []=>.bool (!b)
 |d=>d
def guardOf(full:List QG)(g:Option (Nat×Bool)):Option (Option (Nat×Bool)):=
 match g with
 |none=>Qv Qx
 |some (j,b)=>match full[j]? with
  |some p=>match p.dst with
   |some t=>Qv (Qv (t,b))
   |none=>Qx
  |none=>Qx
def cx(P:QA)(full:List QG):List QG→List D→St→(List D→St→Prop)→Prop
 | [],e,s,K=>K e s
 |o::os,e,s,K =>
  match guardOf full o.guard with
  |some Qx=>cR P o.op (val e) s λd s'=>cx P full os (putD e o.dst d) s' K
  |some (Qv (t,Qy))=>ifB (gdD Qy (e.getD t .junk)) (cR P o.op (val e) s λd s'=>cx P full os (putD e o.dst d) s' K) (cx P full os (putD e o.dst (.tup [])) s K)
  |some (Qv (t,Qw))=>ifB (gdD Qw (e.getD t .junk)) (cx P full os (putD e o.dst (.tup [])) s K) (cR P o.op (val e) s λd s'=>cx P full os (putD e o.dst d) s' K)
  |none=>False
def ue:QK→Prop
 |.normal=>True
 |.exit _=>True
 |.ret=>True
 |_=>False
def vJ(O0:Nat→Prop)(g:G)(Q:QK→List D→St→Prop):QK→Act→QD→Prop:=λx a' w'=>ue x∧∃e' s' g',g.le g'∧ARel O0 a' w' g' e' s'∧Q x e' s'
def AWp(ro:Option Nat)(P:QA)(c:QH)(Q:QK→List D→St→Prop)(e:List D)(s:St):Prop:=
 ∀O0 a w g,ARel O0 a w g e s→c.wpIn (W ro) 0 P (vJ O0 g Q) a w
theorem jJ{O0:Nat→Prop}{g':G}{Q Q':QK→List D→St→Prop}(hg:g.le g')(hQ:∀x e s,Q x e s→Q' x e s){x:QK}{a:Act}{w:QD}(h:vJ O0 g' Q x a w):vJ O0 g Q' x a w:=by
 obtain⟨hx,e',s',g'',h1,h2,h3⟩:=h;exact⟨hx,e',s',g'',hg.trans h1,h2,hQ _ _ _ h3⟩
theorem AWp.mono{ro:Option Nat}{P:QA}{c:QH}{Q Q':QK→List D→St→Prop}{e:List D}{s:St}(h:AWp ro P c Q e s)(hQ:∀x e s,Q x e s→Q' x e s):AWp ro P c Q' e s:=
 λO0 a w g ha=>wpIn_mono (h O0 a w g ha) λ_ _ _ hc=>jJ (.refl g) hQ hc
theorem ARel.step{O0:Nat→Prop}{a:Act}{w w':QD}{g g':G}{e:List D}{s s':St}(h:ARel O0 a w g e s)(hg:g.le g')(hw:WRel w' g' s')(dst:Option Tmp){d:D}{v:QF}(hd:R g' d v) :
  ARel O0 (a.put dst v) w' g' (putD e dst d) s':=by
 obtain⟨is,h1,h2,h3⟩:=h.df;refine⟨(h.env.mono hg).put dst hd,hw,λb hb=>hg.O b (h.sub b hb),is,h1,λi hi=>⟨hg.O i (h2 i hi).1,(h2 i hi).2⟩,?_⟩;have:(a.put dst v).defers=a.defers:=by cases dst<;>rfl
 rw[this,h3]
theorem ARel.mono{O0:Nat→Prop}{a:Act}{w:QD}{g:G}{e:List D}{s:St}(h:ARel O0 a w g e s):ARel O0 a w.drew g e s:=⟨h.env,h.wr.drew,h.sub,h.df⟩
variable {a:Act}{e:List D}{j t:Nat}{p:QG}
theorem wB{full:Array QG}{want b:Bool}(he:dy g e a.tmps)(hj:full.toList[j]?=Qv p)(hd:p.dst=Qv t)(hb:e.getD t .junk=.bool b) :
  yielded full a.tmps j=Qv b:=by
 have ht:t<e.length:=by
  rcases Nb t e.length with q|q
  ·exact q
  ·simp[NC,MS q]at hb
 have ht':t<a.tmps.size:=he.1▸ht;have hR:=he.2 t ht ht';simp only[NC,C0 ht,Nf]at hb;rw[hb]at hR;have hj':full[j]?=Qv p:=by simpa using hj
 unfold yielded;simp only[hj',Ni,hd];rw[MV ht'];cases hv:a.tmps[t]<;>rw[hv]at hR<;>cases hR;rfl
theorem FC{b c:Bool}{v:D}(h:gdD b v=.bool c):v=.bool c∨(v=.tup []∧c = !b):=by
 unfold gdD at h;split at h
 ·right;cases h;exact⟨rfl,rfl⟩
 ·left;exact h
theorem zx{full:Array QG}(he:dy g e a.tmps)(hj:full.toList[j]?=Qv p)(hd:p.dst=Qv t)(hb:e.getD t .junk=.tup []) :
  yielded full a.tmps j=Qx:=by
 have ht:t<e.length:=by
  rcases Nb t e.length with q|q
  ·exact q
  ·simp[NC,MS q]at hb
 have ht':t<a.tmps.size:=he.1▸ht;have hR:=he.2 t ht ht';simp only[NC,C0 ht,Nf]at hb;rw[hb]at hR;have hj':full[j]?=Qv p:=by simpa using hj
 unfold yielded;simp only[hj',Ni,hd];rw[MV ht'];cases hv:a.tmps[t]<;>rw[hv]at hR<;>cases hR<;>rfl
theorem rB{full:Array QG}{b c:Bool}(he:dy g e a.tmps)(hj:full.toList[j]?=Qv p)(hd:p.dst=Qv t)(hb:gdD b (e.getD t .junk)=.bool c) :
  (yielded full a.tmps j == Qv b)=(c == b):=by
 rcases FC hb with h|⟨h,rfl⟩
 ·rw[wB (want:=b) he hj hd h];rfl
 ·rw[zx he hj hd h];cases b<;>rfl
theorem tX{ro:Option Nat}{full:Array QG}{K:List D→St→Prop}{O0:Nat→Prop}{Q:QK→Act→QD→Prop} :
  ∀(l:List Nat)(os:List QG),l.length=os.length→(∀(i:Nat)(h1:i<l.length)(h2:i<os.length),full[l[i]]?=Qv os[i])→∀(e:List D)(s:St)(a:Act)(w:QD)(g:G),ARel O0 a w g e s→cx P full.toList os e s K →
   (∀a' w' g' e' s',g.le g'→ARel O0 a' w' g' e' s'→K e' s'→Q .normal a' w')→wpOpsIn (W ro) 0 P full Q l a w:=by
 intro l;induction l with
 |nil =>
  intro os hl _ e s a w g ha h hK;cases os with
  |nil=>exact hK a w g e s (.refl g) ha h
  |cons o os=>simp at hl
 |cons i l ih =>
  intro os hl hget e s a w g ha h hK;cases os with
  |nil=>simp at hl
  |cons o os =>
   have hi:full[i]?=Qv o:=hget 0 (by simp) (by simp);have hrest:=ih os (by simpa using hl) (λj h1 h2=>hget (j+1) (by simpa using h1) (by simpa using h2));have hstep:cR P o.op (val e) s (λd s'=>cx P full.toList os (putD e o.dst d) s' K)→o.wpIn (W ro) 0 P a w (wpOpsIn (W ro) 0 P full Q l) Q:=by
    intro hs;obtain⟨d,s',h1,h2⟩:=iM hs;refine AY h1 (λx _=>kN ha.env x) ha.wr λv w' g' hle hw' hv=>?_;exact hrest _ s' _ w' g' (ha.step hle hw' o.dst hv) h2 λa' w'' g'' e' s'' hle' ha' hk=>hK a' w'' g'' e' s'' (hle.trans hle') ha' hk
   have hskip:cx P full.toList os (putD e o.dst (.tup [])) s K→wpOpsIn (W ro) 0 P full Q l (a.put o.dst undef) w:=λhs =>
    hrest _ s _ w g (ha.step (.refl g) ha.wr o.dst (.tup [] #[] rfl (λi h1=>by simp at h1))) hs hK
   simp only[wpOpsIn,hi];simp only[cx]at h;cases hg:o.guard with
   |none =>
    rw[hg]at h;simp only[guardOf]at h;simp only[Region.wanted,hg,if_true];exact hstep h
   |some jb =>
    obtain⟨j,b⟩:=jb;rw[hg]at h;simp only[guardOf]at h;cases hj:full.toList[j]? with
    |none=>rw[hj]at h;exact h.elim
    |some p =>
     rw[hj]at h;cases hd:p.dst with
     |none=>simp only[hd]at h
     |some t =>
      simp only[hd]at h;have key:∀c,gdD b (e.getD t .junk)=.bool c→(yielded full a.tmps j == Qv b)=(c == b):=λc hc=>rB ha.env hj hd hc;simp only[Region.wanted,hg];cases b with
      |true =>
       simp only[ifB]at h;split at h
       ·rename_i hc;rw[key _ hc];exact hstep h
       ·rename_i hc;rw[key _ hc];exact⟨λ_ _=>trivial,hskip h⟩
       ·exact h.elim
      |false =>
       simp only[ifB]at h;split at h
       ·rename_i hc;rw[key _ hc];exact⟨λ_ _=>trivial,hskip h⟩
       ·rename_i hc;rw[key _ hc];exact hstep h
       ·exact h.elim
def Kl(P:QA)(f:D)(args:List D)(s:St)(K:D→St→Prop):Prop:=CallVQ P f args s K
def iY(P:QA)(op:Op)(ρ:QE→D)(s:St)(K:D→St→Prop):Prop:=
 match op with
 |.call {callee:=.value f,args,argTypes:=_}=>Kl P (ρ f) (argsOf ρ args) s K
 |.range T x=>match P.underlying T with
  |some (.map _ _)=>mc (ρ x) s K
  |_=>False
 |.next x Qw=>rj (ρ x) s K
 |.entry x=>mo (ρ x) s K
 |op=>optW (evalOp P ρ s op) K
theorem EO{ro:Option Nat}{ρ:QE→D}{K:Act→QD→Prop}{Q:QK→Act→QD→Prop}
  (h:iY P o.op ρ s Z) (hρ:∀x∈o.op.operands,R g (ρ x) (a.eval x)) (hw:WRel w g s)
  (hK:∀d s' v w' g',Z d s'→g.le g'→WRel w' g' s'→R g' d v→K (a.put o.dst v) w'):o.wpIn (W ro) 0 P a w K Q:=by
 unfold iY at h;split at h
 ·rename_i f args ts he;exact Bw he h hρ hw hK
 ·rename_i T x he;split at h
  ·rename_i K1 K2 hT;obtain⟨d',s',hz,v,w',g',h1,h2,h3,h4⟩:=EW hT hw (hρ x (by rw[he];simp[Op.operands])) h;refine jo (m:=.value v) (w':=w') ?_ (by intro c;rw[he];simp) (hK d' s' v w' g' hz h2 h3 h4);simp only[execOp,he,Sem.run_bind,h1,Result.andThen_ok,Sem.run_pure]
  ·exact h.elim
 ·rename_i x he;obtain⟨d',s',hz,v,w',g',h1,h2,h3,h4⟩:=IE (P:=P) (T:=o.type) hw (hρ x (by rw[he];simp[Op.operands])) h;refine jo (m:=.value v) (w':=w') ?_ (by intro c;rw[he];simp) (hK d' s' v w' g' hz h2 h3 h4);simp only[execOp,he,Sem.run_bind,h1,Result.andThen_ok,Sem.run_pure]
 ·rename_i x he;obtain⟨d',s',hz,v,w',g',h1,h2,h3,h4⟩:=FN (P:=P) hw (hρ x (by rw[he];simp[Op.operands])) h;refine jo (m:=.value v) (w':=w') ?_ (by intro c;rw[he];simp) (hK d' s' v w' g' hz h2 h3 h4);simp only[execOp,he,Sem.run_bind,h1,Result.andThen_ok,Sem.run_pure]
 ·obtain⟨d,s',h1,h2⟩:=cm.1 h;exact AY (.inl h1) hρ hw λv w' g'=>hK d s' v w' g' h2
theorem yK{op:Op}{ρ:QE→D}{K:D→St→Prop}(h:iY P op ρ s K)(hK:∀d s',K d s'→K' d s'):iY P op ρ s K':=by
 unfold iY at h⊢;split at h
 ·exact CallVQ.mono h hK
 ·split at h
  ·exact wv hK h
  ·exact h.elim
 ·exact zj hK h
 ·exact wI hK h
 ·obtain⟨d,s',h1,h2⟩:=cm.1 h;exact cm.2 ⟨d,s',h1,hK _ _ h2⟩
def iW(P:QA)(full:List QG):List QG→List D→St→(List D→St→Prop)→Prop
 | [],e,s,K=>K e s
 |o::os,e,s,K =>
  match guardOf full o.guard with
  |some Qx=>iY P o.op (val e) s λd s'=>iW P full os (putD e o.dst d) s' K
  |some (Qv (t,Qy))=>ifB (gdD Qy (e.getD t .junk)) (iY P o.op (val e) s λd s'=>iW P full os (putD e o.dst d) s' K) (iW P full os (putD e o.dst (.tup [])) s K)
  |some (Qv (t,Qw))=>ifB (gdD Qw (e.getD t .junk)) (iW P full os (putD e o.dst (.tup [])) s K) (iY P o.op (val e) s λd s'=>iW P full os (putD e o.dst d) s' K)
  |none=>False
theorem ma{ro:Option Nat}{full:Array QG}{K:List D→St→Prop}{O0:Nat→Prop}{Q:QK→Act→QD→Prop} :
  ∀(l:List Nat)(os:List QG),l.length=os.length→(∀(i:Nat)(h1:i<l.length)(h2:i<os.length),full[l[i]]?=Qv os[i])→∀(e:List D)(s:St)(a:Act)(w:QD)(g:G),ARel O0 a w g e s→iW P full.toList os e s K →
   (∀a' w' g' e' s',g.le g'→ARel O0 a' w' g' e' s'→K e' s'→Q .normal a' w')→wpOpsIn (W ro) 0 P full Q l a w:=by
 intro l;induction l with
 |nil =>
  intro os hl _ e s a w g ha h hK;cases os with
  |nil=>exact hK a w g e s (.refl g) ha h
  |cons o os=>simp at hl
 |cons i l ih =>
  intro os hl hget e s a w g ha h hK;cases os with
  |nil=>simp at hl
  |cons o os =>
   have hi:full[i]?=Qv o:=hget 0 (by simp) (by simp);have hrest:=ih os (by simpa using hl) (λj h1 h2=>hget (j+1) (by simpa using h1) (by simpa using h2));have hstep:iY P o.op (val e) s (λd s'=>iW P full.toList os (putD e o.dst d) s' K)→o.wpIn (W ro) 0 P a w (wpOpsIn (W ro) 0 P full Q l) Q:=by
    intro hs;refine EO hs (λx _=>kN ha.env x) ha.wr λd s' v w' g' h2 hle hw' hv=>?_;exact hrest _ s' _ w' g' (ha.step hle hw' o.dst hv) h2 λa' w'' g'' e' s'' hle' ha' hk=>hK a' w'' g'' e' s'' (hle.trans hle') ha' hk
   have hskip:iW P full.toList os (putD e o.dst (.tup [])) s K→wpOpsIn (W ro) 0 P full Q l (a.put o.dst undef) w:=λhs =>
    hrest _ s _ w g (ha.step (.refl g) ha.wr o.dst (.tup [] #[] rfl (λi h1=>by simp at h1))) hs hK
   simp only[wpOpsIn,hi];simp only[iW]at h;cases hg:o.guard with
   |none =>
    rw[hg]at h;simp only[guardOf]at h;simp only[Region.wanted,hg,if_true];exact hstep h
   |some jb =>
    obtain⟨j,b⟩:=jb;rw[hg]at h;simp only[guardOf]at h;cases hj:full.toList[j]? with
    |none=>rw[hj]at h;exact h.elim
    |some p =>
     rw[hj]at h;cases hd:p.dst with
     |none=>simp only[hd]at h
     |some t =>
      simp only[hd]at h;have key:∀c,gdD b (e.getD t .junk)=.bool c→(yielded full a.tmps j == Qv b)=(c == b):=λc hc=>rB ha.env hj hd hc;simp only[Region.wanted,hg];cases b with
      |true =>
       simp only[ifB]at h;split at h
       ·rename_i hc;rw[key _ hc];exact hstep h
       ·rename_i hc;rw[key _ hc];exact⟨λ_ _=>trivial,hskip h⟩
       ·exact h.elim
      |false =>
       simp only[ifB]at h;split at h
       ·rename_i hc;rw[key _ hc];exact⟨λ_ _=>trivial,hskip h⟩
       ·rename_i hc;rw[key _ hc];exact hstep h
       ·exact h.elim
def thenQ(K:List D→St→Prop)(Q:QK→List D→St→Prop):QK→List D→St→Prop
 |.normal,e,s=>K e s
 |x,e,s=>Q x e s
def mu(id:Nat)(Q:QK→List D→St→Prop):QK→List D→St→Prop
 |.exit id',e,s=>if id'=id then Q .normal e s else Q (.exit id') e s
 |x,e,s=>Q x e s
theorem wL{ro:Option Nat}{id:Nat}{ops:Array QG}{Q:QK→List D→St→Prop}(h:iW P ops.toList ops.toList e s (Q .normal)):AWp ro P (.region id ops Qw) Q e s:=by
 intro O0 a w g ha;refine wpIn_region (ma (O0:=O0) (MF ops.size) ops.toList (by simp) (λi h1 h2=>by simp) e s a w g ha h λa' w' g' e' s' hle ha' hk=>⟨trivial,e',s',g',hle,ha',hk⟩)
theorem Af{ro:Option Nat}{id:Nat}{ops:Array QG}{Q:QK→List D→St→Prop}(h:cx P ops.toList ops.toList e s (Q .normal)):AWp ro P (.region id ops Qw) Q e s:=by
 intro O0 a w g ha;refine wpIn_region (tX (O0:=O0) (MF ops.size) ops.toList (by simp) (λi h1 h2=>by simp) e s a w g ha h λa' w' g' e' s' hle ha' hk=>⟨trivial,e',s',g',hle,ha',hk⟩)
variable {y:QH}
theorem vO{ro:Option Nat}{x:QH}{Q:QK→List D→St→Prop}(h:AWp ro P x (thenQ (AWp ro P y Q) Q) e s):AWp ro P (.seq x y) Q e s:=by
 intro O0 a w g ha;refine wpIn_seq (wpIn_mono (h O0 a w g ha) λx' a' w' hc=>?_);obtain⟨hx,e',s',g',hle,ha',hq⟩:=hc;cases x'<;>first
  |exact hx.elim
  |exact wpIn_mono (hq O0 a' w' g' ha') λ_ _ _ hc=>jJ hle (λ_ _ _ h=>h) hc
  |exact⟨hx,e',s',g',hle,ha',hq⟩
theorem sP{ro:Option Nat}{c:QE}{x:QH}{Q:QK→List D→St→Prop}(h:ifB (val e c) (AWp ro P x Q e s) (AWp ro P y Q e s)):AWp ro P (.cond c x y) Q e s:=by
 intro O0 a w g ha;have hc:=kN ha.env c;unfold ifB at h;split at h
 ·rename_i hv;rw[hv]at hc;cases hcc:a.eval c<;>rw[hcc]at hc<;>cases hc;exact wpIn_cond (t:=Qy) hcc (h O0 a w g ha)
 ·rename_i hv;rw[hv]at hc;cases hcc:a.eval c<;>rw[hcc]at hc<;>cases hc;exact wpIn_cond (t:=Qw) hcc (h O0 a w g ha)
 ·exact h.elim
variable {c:QH}
theorem uE{ro:Option Nat}{id:Nat}{Q:QK→List D→St→Prop}(h:AWp ro P c (mu id Q) e s):AWp ro P (.block id c) Q e s:=by
 intro O0 a w g ha;refine wpIn_block (wpIn_mono (h O0 a w g ha) λx' a' w' hc=>?_);obtain⟨hx,e',s',g',hle,ha',hq⟩:=hc;cases x' with
 |exit id' =>
  simp only[mu]at hq;simp only[Exit.inBlock];split
  ·rename_i he;rw[if_pos he]at hq;exact⟨trivial,e',s',g',hle,ha',hq⟩
  ·rename_i he;rw[if_neg he]at hq;exact⟨trivial,e',s',g',hle,ha',hq⟩
 |_=>exact⟨hx,e',s',g',hle,ha',hq⟩
theorem yc{ro:Option Nat}{Q:QK→List D→St→Prop}(h:Q .normal e s):AWp ro P .skip Q e s:=
 λO0 a w g ha=>wpIn_skip ⟨trivial,e,s,g,.refl g,ha,h⟩
variable {l:Nat}
theorem uD{ro:Option Nat}{Q:QK→List D→St→Prop}(h:Q .normal e s):AWp ro P (.label l) Q e s:=
 λO0 a w g ha=>wpIn_label ⟨trivial,e,s,g,.refl g,ha,h⟩
theorem yd{ro:Option Nat}{id:Nat}{Q:QK→List D→St→Prop}(h:Q (.exit id) e s):AWp ro P (.exit id) Q e s:=
 λO0 a w g ha=>wpIn_exit ⟨trivial,e,s,g,.refl g,ha,h⟩
theorem BB{ro:Option Nat}{Q:QK→List D→St→Prop}(h:Q .ret e s):AWp ro P .ret Q e s:=
 λO0 a w g ha=>wpIn_ret ⟨trivial,e,s,g,.refl g,ha,h⟩
theorem te{id:Nat}:∀{k k':List Item},exitTo id k=Qv k'→k'.length≤k.length:=by
  intro k;induction k with
  |nil=>intro k' h;simp[exitTo]at h
  |cons x k ih =>
    intro k' h;cases x<;>simp only[exitTo]at h<;>first
      |(have:=ih h;simp;omega)
      | (split at h
         · cases h;simp
         · have:=ih h;simp;omega)
theorem sZ{I:Machine→Prop}{m1 m2 m' t:Machine}(h1:step P m1=.next m')(h2:step P m2=.next m')(hI:I m2)(h:StepsIn I P m1 t)(hne:m1≠t):StepsIn I P m2 t:=by
 cases h with
 |refl=>exact absurd rfl hne
 |head hi hs ht =>
  rw[h1]at hs;cases hs;exact .head hI h2 ht
theorem uo{fr fr':Frame}{cs cs':List Frame}{w':QD}(h:lone fr cs w=lone fr' cs' w'):fr=fr':=by
 have:(lone fr cs w).gs=(lone fr' cs' w').gs:=by rw[h]
 simp[lone]at this;exact this.1
theorem wg{ro:Option Nat}{Q:QK→Act→QD→Prop}(hQ:∀x a w,Q x a w→ue x)
  (h:c.wpIn (W ro) 0 P (Exit.then ((Code.loop c).wpIn (W ro) 0 P Q) Q) a w):(Code.loop c).wpIn (W ro) 0 P Q a w:=by
 intro b k cs hro hb hr;obtain⟨e,a₁,w₁,hq,harr⟩:=h b (.inLoop c::k) cs hro hb hr;have hl:∀a w,step P (lone (b.atR a (.code (.loop c)::k)) cs w)=.next (lone (b.atR a (.code c::.inLoop c::k)) cs w):=λa w=>stepR_loop;have hil:∀a w,step P (lone (b.atR a (.inLoop c::k)) cs w)=.next (lone (b.atR a (.code c::.inLoop c::k)) cs w):=λa w=>stepR_inLoop;have hf:∀m,Machine.fenced P (W ro) m:=λm=>by
  have:=fenced_wide P m
  exact this
 cases e with
 |normal =>
  obtain⟨e₂,a₂,w₂,hq₂,harr₂⟩:=hq b k cs hro hb hr;refine⟨e₂,a₂,w₂,hq₂,?_⟩;have hpl:=hQ _ _ _ hq₂;have s0:StepsIn (Machine.fenced P (W ro)) P (lone (b.atR a (.code (.loop c)::k)) cs w) (lone (b.atR a₁ (.inLoop c::k)) cs w₁):=.head (hf _) (hl a w) harr;have key:∀t,StepsIn (Machine.fenced P (W ro)) P (lone (b.atR a₁ (.code (.loop c)::k)) cs w₁) t→lone (b.atR a₁ (.code (.loop c)::k)) cs w₁≠t→StepsIn (Machine.fenced P (W ro)) P (lone (b.atR a (.code (.loop c)::k)) cs w) t:=λt ht hne =>
   s0.trans (sZ (hl a₁ w₁) (hil a₁ w₁) (hf _) ht hne)
  have ne_todo:∀a' w' todo,todo≠.code (.loop c)::k→lone (b.atR a₁ (.code (.loop c)::k)) cs w₁≠lone (b.atR a' todo) cs w':=by
   intro a' w' todo hne he;have:=uo he
   have h2:(b.atR a₁ (.code (.loop c)::k)).todo=(b.atR a' todo).todo:=by rw[this]
   exact hne (by simpa[Frame.atR]using h2.symm)
  cases e₂ with
  |normal=>exact key _ harr₂ (ne_todo _ _ _ (λe=>by have:=congrArg OJ e;simp at this))
  |exit id =>
   refine⟨λk' hk=>key _ (harr₂.1 k' hk) (ne_todo _ _ _ (λe=>by have:=congrArg OJ e;have:=te hk;simp at *;omega)),λhr' hk=>?_⟩;obtain⟨k₁,h1,h2⟩:=harr₂.2 hr' hk;exact⟨k₁,h1,key _ h2 (ne_todo _ _ _ (by simp))⟩
  |ret =>
   refine⟨λhr'=>?_,λhr'=>?_⟩
   ·obtain⟨todo,hs⟩:=harr₂.1 hr';refine⟨todo,key _ hs λhe=>?_⟩;have:=uo he
    have h2:(b.atR a₁ (.code (.loop c)::k)).mode=FrameMode.returning:=by rw[this]
    simp[Frame.atR]at h2
   ·obtain⟨k₁,h2⟩:=harr₂.2 hr';exact⟨k₁,key _ h2 (ne_todo _ _ _ (by simp))⟩
  |goto l=>exact hpl.elim
  |panic ch=>exact hpl.elim
  |outgrown=>exact hpl.elim
 |exit id=>exact⟨_,a₁,w₁,hq,.of_steps (.one (hf _) (hl a w)) (.pass (x:=.inLoop c) rfl (λ_ _=>.inl (by simp)) harr)⟩
 |goto l=>exact⟨_,a₁,w₁,hq,.of_steps (.one (hf _) (hl a w)) (.pass (x:=.inLoop c) rfl (λ_ _=>.inl (by simp)) harr)⟩
 |ret=>exact⟨_,a₁,w₁,hq,.of_steps (.one (hf _) (hl a w)) (.pass (x:=.inLoop c) rfl (λ_ _=>.inl (by simp)) harr)⟩
 |panic ch=>exact⟨_,a₁,w₁,hq,.of_steps (.one (hf _) (hl a w)) (.pass (x:=.inLoop c) rfl (λ_ _=>.inl (by simp)) harr)⟩
 |outgrown=>exact⟨_,a₁,w₁,hq,.of_steps (.one (hf _) (hl a w)) (.pass (x:=.inLoop c) rfl (λ_ _=>.inl (by simp)) harr)⟩
theorem F0{ro:Option Nat}{Q:QK→List D→St→Prop}(h:AWp ro P c (thenQ (AWp ro P (.loop c) Q) Q) e s):AWp ro P (.loop c) Q e s:=by
 intro O0 a w g ha;refine wg (λx a w h=>h.1) (wpIn_mono (h O0 a w g ha) λx' a' w' hc=>?_);obtain⟨hx,e',s',g',hle,ha',hq⟩:=hc;cases x'<;>first
  |exact hx.elim
  |exact wpIn_mono (hq O0 a' w' g' ha') λ_ _ _ hc=>jJ hle (λ_ _ _ h=>h) hc
  |exact⟨hx,e',s',g',hle,ha',hq⟩
def kc:D→D→Prop:=λd d'=>∀g v,R g d v→R g d' v
variable {e':List D}
theorem FZ{ro:Option Nat}{Q:QK→List D→St→Prop}(h:AWp ro P c Q e' s)(hl:e.length=e'.length)(hw:∀(i:Nat)(h1:i<e.length)(h2:i<e'.length),kc e[i] e'[i]):AWp ro P c Q e s:=by
 intro O0 a w g ha;exact h O0 a w g ⟨⟨by rw[←hl];exact ha.env.1,λi h1 h2=>hw i (by omega) h1 g _ (ha.env.2 i (by omega) h2)⟩,ha.wr,ha.sub,ha.df⟩
def keep(ks:List Nat)(e:List D):List D:=e.zipIdx.map λ(d,i)=>if ks.contains i then d else .junk
theorem F1{ro:Option Nat}{Q:QK→List D→St→Prop}(ks:List Nat)(h:AWp ro P c Q (keep ks e) s):AWp ro P c Q e s:=by
 refine FZ h (by simp[keep]) λi h1 h2 g v hv=>?_;simp only[keep,M4,List.getElem_zipIdx];split
 ·simpa using hv
 ·exact .junk _
def cw(ro:Option Nat)(P:QA):QH→(QK→List D→St→Prop)→List D→St→Prop
 |.skip,Q,e,s=>Q .normal e s
 |.label _,Q,e,s=>Q .normal e s
 |.exit id,Q,e,s=>Q (.exit id) e s
 |.ret,Q,e,s=>Q .ret e s
 |.seq a b,Q,e,s=>cw ro P a (thenQ (cw ro P b Q) Q) e s
 |.cond c a b,Q,e,s=>ifB (val e c) (cw ro P a Q e s) (cw ro P b Q e s)
 |.block id b,Q,e,s=>cw ro P b (mu id Q) e s
 |.region id ops Qw,Q,e,s=>cx P ops.toList ops.toList e s (Q .normal)
 |c,Q,e,s=>AWp ro P c Q e s
theorem kg{K K':List D→St→Prop}{Q:QK→List D→St→Prop}(h:∀e s,K e s→K' e s):∀x e s,thenQ K Q x e s→thenQ K' Q x e s:=by
 intro x e s hx;cases x<;>first|exact h _ _ hx|exact hx
theorem eJ{c:D}{x y x' y':Prop}(h:ifB c x y)(hx:x→x')(hy:y→y'):ifB c x' y':=by
 unfold ifB at *;split<;>simp_all
theorem Ma{ro:Option Nat}(c:QH):∀(Q:QK→List D→St→Prop)(e:List D)(s:St),cw ro P c Q e s→AWp ro P c Q e s:=by
 induction c with
 |skip=>intro Q e s h;exact yc h
 |label l=>intro Q e s h;exact uD h
 |exit id=>intro Q e s h;exact yd h
 |ret=>intro Q e s h;exact BB h
 |seq a b iha ihb=>intro Q e s h;exact vO ((iha _ e s h).mono (kg λe s h=>ihb Q e s h))
 |cond c a b iha ihb=>intro Q e s h;exact sP (eJ h (iha Q e s) (ihb Q e s))
 |block id b ih=>intro Q e s h;exact uE (ih _ e s h)
 |region id ops draw =>
  intro Q e s h;cases draw with
  |false=>exact Af h
  |true=>exact h
 |_=>intro Q e s h;exact h
def resD(P:QA)(e:List D)(s:St):List ResultVar→Option (List D)
 | []=>Qv []
 |.tmp t::rs=>(resD P e s rs).map λl=>(e.getD t .junk).plain::l
 |.cell a T::rs=>match evLoad P T (e.getD a .junk) s,resD P e s rs with
  |some d,Qv l=>Qv (d.plain::l)
  |_,_=>Qx
def kf:List D→D
 | [d]=>d
 |ds=>.tup ds
def retQ(P:QA)(rs:List ResultVar)(s:St)(r:D)(s':St):QK→List D→St→Prop
 |.normal,e,t=>∃ds,resD P e t rs=Qv ds∧kf ds=r∧Leave s t s'∧Bd s'.boxes.length s'.ctr r
 |.ret,e,t=>∃ds,resD P e t rs=Qv ds∧kf ds=r∧Leave s t s'∧Bd s'.boxes.length s'.ctr r
 |_,_,_=>False
theorem vD{tmps:Array QF}(h:dy g e tmps)(t:Nat):R g (e.getD t .junk) (tmps.getD t undef):=kN (a:=⟨tmps,[]⟩) h (.tmp t)
def yS(tmps:Array QF):ResultVar→Sem QF
 |.tmp t=>pure (tmps.getD t undef)
 |.cell a t=>do loadVar t (←asAddr (tmps.getD a undef))
theorem Ip{tmps:Array QF}(hE:dy g e tmps)(hw:WRel w g s):∀(rs:List ResultVar)(ds:List D),resD P e s rs=Qv ds →
  ∃vs:List QF,(rs.mapM (yS tmps)).run P w=Result.ok vs w∧ds.length=vs.length∧∀(i:Nat)(h1:i<ds.length)(h2:i<vs.length),R g ds[i] vs[i]:=by
 intro rs;induction rs with
 |nil=>intro ds h;cases h;exact⟨[],by simp,rfl,λi h1=>by simp at h1⟩
 |cons r rs ih =>
  intro ds h;cases r with
  |tmp t =>
   simp only[resD]at h;obtain⟨l,hl,rfl⟩:=map_some h;obtain⟨vs,h1,h2,h3⟩:=ih l hl;refine⟨tmps.getD t undef::vs,?_,by simp[h2],λi x y=>?_⟩
   ·rw[Pb];simp only[yS,Sem.run_bind,Sem.run_pure,Result.andThen_ok,h1]
   ·cases i with
    |zero=>exact(vD hE t).plain
    |succ i=>exact h3 i (by simpa using x) (by simpa using y)
  |cell a T =>
   simp only[resD]at h;split at h
   ·rename_i d l hd hl;cases h;obtain⟨vs,h1,h2,h3⟩:=ih l hl;have ha:=vD hE a;obtain⟨v,hr,hv⟩:=xG (P:=P) hw ha hd;have hr':∃ad,tmps.getD a undef=.pointer (Qv ad)∧(loadVar T ad).run P w=.ok v w:=by
     cases hq:tmps.getD a undef<;>rw[hq]at hr<;>simp[Instr.loadAt,Instr.sureAddr,Result.andThen]at hr;rename_i ad;cases ad with
     |none=>simp[Instr.sureAddr]at hr
     |some ad=>exact⟨ad,rfl,by simpa[Instr.sureAddr]using hr⟩
    obtain⟨ad,e1,e2⟩:=hr';refine⟨v::vs,?_,by simp[h2],λi x y=>?_⟩
    ·rw[Pb];simp only[yS,e1,asAddr,Sem.run_bind,Sem.run_pure,Result.andThen_ok,h1,e2]
    ·cases i with
     |zero=>exact hv.plain
     |succ i=>exact h3 i (by simpa using x) (by simpa using y)
   ·cases h
theorem qR{fn:Func}{ds:List D}(hE:dy g e a.tmps)(hw:WRel w g s)(h:resD P e s fn.results.toList=Qv ds) :
  ∃v,(results fn a.tmps).run P w=.ok v w∧R g (kf ds) v:=by
 obtain⟨vs,h1,h2,h3⟩:=Ip hE hw _ _ h;have hr:(fn.results.mapM (yS a.tmps)).run P w=.ok vs.toArray w:=by
  rw[Array.mapM_eq_mapM_toList];simp only[Sem.run_map,h1,Result.andThen_ok]
 refine⟨if h:vs.toArray.size=1 then vs.toArray[0]else .tuple vs.toArray,?_,?_⟩
 ·show(do let vs ←fn.results.mapM (yS a.tmps);pure (if h:vs.size=1 then vs[0]else .tuple vs):Sem QF).run P w=_;simp only[Sem.run_bind,hr,Result.andThen_ok,Sem.run_pure]
 ·match ds,vs,h2 with
  | [d],[v],_=>exact h3 0 (by simp) (by simp)
  | [],[],_=>exact .tup [] #[] rfl (λi h1=>by simp at h1)
  |d::d'::ds,v::v'::vs,hl =>
   rw[dif_neg (by simp)];exact .tup _ _ (by simpa using hl) (λi x y=>by simpa using h3 i x (by simpa using y))
theorem WRel.take{w:QD}{g:G}{s:St}{b:Nat}(h:WRel w g s)(hb:g.O b) :
  (∀P,(Instr.takeDeferred b).run P w=.ok [] {w with heap:=w.heap.setIfInBounds b (.deferred Qx)}) ∧
   WRel {w with heap:=w.heap.setIfInBounds b (.deferred Qx)} {g with O:=λc=>g.O c∧c≠b} s:=by
 obtain⟨hN,hh⟩:=h.o b hb;refine⟨λP=>by simp[Instr.takeDeferred,getObj,setObj,Sem.run,hh],?_⟩;have hheap:∀(c:Nat)(x:Obj),w.heap[c]?=Qv x→(∀cs,x≠Obj.deferred cs)→(w.heap.setIfInBounds b (.deferred Qx))[c]?=Qv x:=by
  intro c x hx hne;rw[M0]
  ·exact hx
  ·intro e;subst e;rw[hh]at hx;cases hx;exact hne _ rfl
 have hcell:∀a,World.cell? {w with heap:=w.heap.setIfInBounds b (.deferred Qx)} a=w.cell? a:=by
  intro a;simp only[World.cell?];by_cases e:a.block=b
  ·have hlt:=bL hh;rw[e,hh,M2];simp[hlt]
  ·rw[M0 (by omega)]
 have hmon:∀d v,R g d v→R {g with O:=λc=>g.O c∧c≠b} d v:=λd v hR=>hR.mono3 (λ_ _ _ h=>h) (λ_ _ h=>h) (λ_ _ h=>h) (λ_ _ h=>h);refine {os:=h.os,tape:=h.tape,out:=h.out,fz:=λa ha=>?_,n:=by have:=h.n;simp only[Oq];exact this,old:=λc hc=>?_,m:=λc o v hm=>by rw[hcell];exact h.m c o v hm,box:=λi bx hi=>?_,inj:=h.inj,dom:=λi c hi=>by have:=h.dom i c hi;simp only[Oq];exact this,live:=λk hk=>?_,uniq:=h.uniq,ldom:=h.ldom,o:=λc hc=>⟨(h.o c hc.1).1,?_⟩,nd:=h.nd,sz:=λc n hc=>by obtain⟨arr,T,fr,e1,e2⟩:=h.sz c n hc;exact⟨arr,T,fr,hheap c _ e1 (by simp),e2⟩}
 ·rw[←h.fz a ha];simp only[World.frozen?];by_cases e:a.block=b
  ·have hlt:=bL hh;rw[e,hh,M2];simp[hlt]
  ·rw[M0 (by omega)]
 ·show(w.heap.setIfInBounds b _)[c]?=_;rw[M0 (by have:c<g.w0.heap.size:=hc;have:g.w0.heap.size≤b:=hN;omega)];exact h.old c hc
 ·have:=h.box i bx hi
  cases bx with
  |dead=>trivial
  |cells cs=>obtain⟨c,arr,T,fr,h1,h2,h3,h4,h5⟩:=this;exact⟨c,arr,T,fr,h1,hheap c _ h2 (by simp),h3,λj x y=>⟨hmon _ _ (h4 j x y).1,(h4 j x y).2⟩,h5⟩
  |map es=>obtain⟨c,en,k,h1,h2,h3,h4⟩:=this;exact⟨c,en,k,h1,hheap c _ h2 (by simp),h3,λj x y=>⟨hmon _ _ (h4 j x y).1,hmon _ _ (h4 j x y).2.1,(h4 j x y).2.2⟩⟩
  |mapX es bs q=>obtain⟨c,en,k,h1,h2,h3,h4⟩:=this;exact⟨c,en,k,h1,hheap c _ h2 (by simp),h3,λj x y=>⟨hmon _ _ (h4 j x y).1,hmon _ _ (h4 j x y).2.1,(h4 j x y).2.2⟩⟩
  |iter mb q sn=>obtain⟨r,m,h1,h2,h3⟩:=this;exact⟨r,m,h1,hheap r _ h2 (by simp),h3⟩
  |loop ps as bo e st pe=>obtain⟨l,fn,t,df,h1,h2,h3,h4⟩:=this;exact⟨l,fn,t,df,h1,hheap l _ h2 (by simp),h3,λj x y=>hmon _ _ (h4 j x y)⟩
 ·obtain⟨a,len,cap,sz,h1,h2⟩:=h.live k hk;refine⟨a,len,cap,sz,h1,λh3 h4=>?_⟩;obtain⟨c,off,arr,T,fr,h5,h6,h7,h8⟩:=h2 h3 h4;exact⟨c,off,arr,T,fr,h5,h6,hheap c _ h7 (by simp),h8⟩
 ·show(w.heap.setIfInBounds b _)[c]?=_;rw[M0 (by intro e;exact hc.2 e.symm)];exact(h.o c hc.1).2
variable {s':St}
theorem CP{fn:Func}{t:St}{ds:List D}{r:D}{tmps:Array QF}{g0:G}{w0:QD}(h0:WRel w0 g0 s)(hZ:Z r s')(hres:resD P e t fn.results.toList=Qv ds)(hr:kf ds=r)(hL:Leave s t s')(hB:Bd s'.boxes.length s'.ctr r) :
  ∀(df:List Deferred)(bs:List Nat)w g,g0.le g→dy g e tmps→WRel w g t→bs.Nodup→(∀b,b∈bs→g.O b∧¬g0.O b)→df.map (·.target)=bs.map (λb=>.collected b) →
   LeavesInM (W Qx) 0 P fn tmps (Aj g0 Z) df .returning w:=by
 intro df;induction df with
 |nil =>
  intro bs w g hg hE hw _ _ _;obtain⟨v,h1,h2⟩:=qR (a:=⟨tmps,[]⟩) (fn:=fn) hE hw hres;obtain⟨h3,h4⟩:=hL.wrel h0 hg hw;exact⟨v,h1,v,_,r,s',hZ,rfl,h3,h4,by rw[hr]at h2;exact h2.cut hB⟩
 |cons d df ih =>
  intro bs w g hg hE hw hnd hbs hdf;cases bs with
  |nil=>simp at hdf
  |cons b bs =>
   simp only[M6,O7.injEq]at hdf;obtain⟨hrun,hw'⟩:=hw.take (hbs b (by simp)).1;refine⟨by simp,.inl ⟨b,_,hdf.1,hrun P,?_⟩⟩;refine ih bs _ {g with O:=λc=>g.O c∧c≠b} ⟨hg.w0,hg.M,hg.B,hg.L,λc hc=>⟨hg.O c hc,λe=>(hbs b (by simp)).2 (e▸hc)⟩,hg.S⟩ ⟨hE.1,λi h1 h2=>(hE.2 i h1 h2).mono3 (λ_ _ _ h=>h) (λ_ _ h=>h) (λ_ _ h=>h) (λ_ _ h=>h)⟩ hw' (Nk.1 hnd).2 (λc hc=>⟨⟨(hbs c (by simp[hc])).1,λe=>(Nk.1 hnd).1 (e▸hc)⟩,(hbs c (by simp[hc])).2⟩) hdf.2
def LX(P:QA)(rs:List ResultVar)(s:St)(Z:D→St→Prop):QK→List D→St→Prop
 |.normal,e,t=>∃ds r s',resD P e t rs=Qv ds∧kf ds=r∧Z r s'∧Leave s t s'∧Bd s'.boxes.length s'.ctr r
 |.ret,e,t=>∃ds r s',resD P e t rs=Qv ds∧kf ds=r∧Z r s'∧Leave s t s'∧Bd s'.boxes.length s'.ctr r
 |_,_,_=>False
theorem aP.intro {P:Program} {f:FuncId} {fn:Func} {c:Code} {args:List D} {s:St} {Z:D→St→Prop} (hf:P.funcs[f]? = some fn) (hb:fn.body = some c) (hn:(fn.name == "runtime.NumGoroutine") = false)
    (h:AWp Qx P c (LX P fn.results.toList s Z) (args++MD (fn.ntmps-args.length) .junk) s):aP P f args s Z:=by
  refineλvs w g hargs hw=>⟨lS hf hn (by rw[hb];rfl),?_⟩;refine callsIn_of_wp_marks hf hb trivial (wpIn_mono (h g.O _ w g ⟨⟨by simp[hargs.1],λi h1 h2=>?_⟩,hw,λ_ h=>h,[],by simp,by simp,rfl⟩) λx a' w' hc=>?_)
  · simp only at h2⊢;by_cases hi:i<args.length
    · rw[M9 hi,NI (by rw[←hargs.1];exact hi)];exact hargs.2 _ _ _
    · rw[M1 (by omega),List.getElem_replicate];exact .junk _
  · obtain⟨hx,e',t,g',hle,ha,hq⟩:=hc;obtain⟨bs,hnd,hbs,hdf⟩:=ha.df;cases x<;>first
      |exact hx.elim
      |exact hq.elim
      | (obtain ⟨ds,r,s',h1,h2,hZ,h3,h4⟩:=hq
         exact CP hw hZ h1 h2 h3 h4 a'.defers bs w' g' hle ha.env ha.wr hnd hbs hdf)
theorem ay.intro {P:Program} {f:FuncId} {fn:Func} {c:Code} {args:List D} {s s':St} {r:D} (hf:P.funcs[f]? = some fn) (hb:fn.body = some c) (hn:(fn.name == "runtime.NumGoroutine") = false)
  (h:AWp Qx P c (retQ P fn.results.toList s r s') (args++MD (fn.ntmps-args.length) .junk) s):ay P f args s r s':=
 aP.intro hf hb hn (h.mono λx e t hq=>by
  cases x<;>first
   |exact hq.elim
   |(obtain⟨ds,h1,h2,h3,h4⟩:=hq;exact⟨ds,r,s',h1,h2,⟨rfl,rfl⟩,h3,h4⟩))
class PC where p:Prop
class DC where f:D→St→Prop
class KC where f:List D→St→Prop
class QC where f:QK→List D→St→Prop
def pI[X:PC]:Prop:=X.p
def dI(d:D)(s:St)[K:DC]:Prop:=K.f d s
def kI(e:List D)(s:St)[K:KC]:Prop:=K.f e s
def qI(x:QK)(e:List D)(s:St)[Q:QC]:Prop:=Q.f x e s
def cwI(ro:Option Nat)(P:QA)(c:QH)(e:List D)(s:St)[Q:QC]:Prop:=cw ro P c Q.f e s
def AWI(ro:Option Nat)(P:QA)(c:QH)(e:List D)(s:St)[Q:QC]:Prop:=AWp ro P c Q.f e s
def yQ(P:QA)(full os:List QG)(e:List D)(s:St)[K:KC]:Prop:=cx P full os e s K.f
def bz(P:QA)(op:Op)(e:List D)(s:St)[K:DC]:Prop:=cR P op (val e) s K.f
def lx(x:Option (D×St))[K:DC]:Prop:=optW x K.f
def di(x:Option D)(s:St)[K:DC]:Prop:=optW (x.map (·,s)) K.f
def qZ(x:Option St)[K:DC]:Prop:=optW (x.map (D.junk,·)) K.f
def rZ(nd:Bool)(P:QA)(f:D)(args:List D)(s:St)[K:DC]:Prop:=match nd with
 |false=>Kk P f args s K.f
 |true=>Kl P f args s K.f
def lF(P:QA)(full os:List QG)(e:List D)(s:St)[K:KC]:Prop:=iW P full os e s K.f
def cv(P:QA)(op:Op)(e:List D)(s:St)[K:DC]:Prop:=iY P op (val e) s K.f
def ifI(c:D)(X Y:PC):Prop:=ifB c X.p Y.p
def needI(c:Prop)[X:PC]:Prop:=c∧X.p
def IR(o:Option (List D))(sz:Nat)(s:St)[K:DC]:Prop:=∃c,o=Qv c∧c.length=sz∧K.f (.pin c) s
def G2(P:QA)(full os:List QG)(dst:Option Tmp)(op:Op)(g:Option (Option (Nat×Bool)))(e:List D)(s:St)[K:KC]:Prop:=
 match g with
 |some Qx=>cR P op (val e) s λd s'=>cx P full os (putD e dst d) s' K.f
 |some (Qv (t,Qy))=>ifB (gdD Qy (e.getD t .junk)) (cR P op (val e) s λd s'=>cx P full os (putD e dst d) s' K.f) (cx P full os (putD e dst (.tup [])) s K.f)
 |some (Qv (t,Qw))=>ifB (gdD Qw (e.getD t .junk)) (cx P full os (putD e dst (.tup [])) s K.f) (cR P op (val e) s λd s'=>cx P full os (putD e dst d) s' K.f)
 |none=>False
def vY(P:QA)(full os:List QG)(dst:Option Tmp)(op:Op)(g:Option (Option (Nat×Bool)))(e:List D)(s:St)[K:KC]:Prop:=
 match g with
 |some Qx=>iY P op (val e) s λd s'=>iW P full os (putD e dst d) s' K.f
 |some (Qv (t,Qy))=>ifB (gdD Qy (e.getD t .junk)) (iY P op (val e) s λd s'=>iW P full os (putD e dst d) s' K.f) (iW P full os (putD e dst (.tup [])) s K.f)
 |some (Qv (t,Qw))=>ifB (gdD Qw (e.getD t .junk)) (iW P full os (putD e dst (.tup [])) s K.f) (iY P op (val e) s λd s'=>iW P full os (putD e dst d) s' K.f)
 |none=>False
@[reducible] def Dw (ro:Option Nat) (P:Program) (b:Code) (Q:QC):QC:=⟨thenQ (cw ro P b Q.f) Q.f⟩
@[reducible] def G7 (ro:Option Nat) (P:Program) (b:Code) (Q:QC):QC:=⟨thenQ (AWp ro P (.loop b) Q.f) Q.f⟩
@[reducible] def qn (id:Nat) (Q:QC):QC:=⟨mu id Q.f⟩
@[reducible] def lu (P:Program) (rs:List ResultVar) (s:St) (r:D) (s':St):QC:=⟨retQ P rs s r s'⟩
@[reducible] def JF (P:Program) (full os:List Oper) (dst:Option Tmp) (e:List D) (K:KC):DC:=⟨fun d s'=>iW P full os (putD e dst d) s' K.f⟩
@[reducible] def G1 (P:Program) (full os:List Oper) (e:List D) (s:St) (K:KC):PC:=⟨iW P full os e s K.f⟩
@[reducible] def Av (P:Program) (op:Op) (e:List D) (s:St) (K:DC):PC:=⟨iY P op (val e) s K.f⟩
@[reducible] def rh (Q:QC):KC:=⟨Q.f .normal⟩
@[reducible] def opC (P:Program) (full os:List Oper) (dst:Option Tmp) (e:List D) (K:KC):DC:=⟨fun d s'=>cx P full os (putD e dst d) s' K.f⟩
@[reducible] def cwC (ro:Option Nat) (P:Program) (c:Code) (e:List D) (s:St) (Q:QC):PC:=⟨cw ro P c Q.f e s⟩
@[reducible] def LE (P:Program) (full os:List Oper) (e:List D) (s:St) (K:KC):PC:=⟨cx P full os e s K.f⟩
@[reducible] def tz (P:Program) (op:Op) (e:List D) (s:St) (K:DC):PC:=⟨cR P op (val e) s K.f⟩
@[reducible] def dC (d:D) (s:St) (K:DC):PC:=⟨K.f d s⟩
@[reducible] def getC (o:Option (List D)) (sz:Nat) (s:St) (K:DC):PC:=⟨∃ c,o=some c∧c.length=sz∧K.f (.pin c) s⟩
@[reducible] def optC (x:Option (D × St)) (K:DC):PC:=⟨optW x K.f⟩
@[reducible] def zb (x:Option D) (s:St) (K:DC):PC:=⟨optW (x.map (·,s)) K.f⟩
@[reducible] def G5 (x:Option St) (K:DC):PC:=⟨optW (x.map (D.junk,·)) K.f⟩
@[reducible] def n9 (c:Prop) (K:PC):PC:=⟨c∧K.p⟩
theorem aA{c:Prop}{X:PC}(h:c)(k:@pI X):@needI c X:=⟨h,k⟩
theorem ak{b:Bool}{X Y:PC}(h1:b=Qy→@pI X)(h2:b=Qw→@pI Y):ifI (.bool b) X Y:=by
 cases b
 ·exact h2 rfl
 ·exact h1 rfl
variable {f:D}{K:DC}
theorem cM{nd:Bool}{args:List D}(h:cT P f args s d s')(hK:@dI d s' K):@rZ nd P f args s K:=by
 cases nd
 ·exact⟨d,s',h,hK⟩
 ·exact CallVQ.mono h λr t hz=>by obtain⟨rfl,rfl⟩:=hz;exact hK
theorem pA{args:List D}(h:CallVQ P f args s Z)(hK:∀d s',Z d s'→@dI d s' K):@rZ Qy P f args s K:=CallVQ.mono h hK
theorem aa{nd:Bool}{f:QI}{args:List D}(h:ay P f args s d s')(hK:@dI d s' K):@rZ nd P (.func (.func f) [] []) args s K:=
 cM (by simpa[cT,CallVQ,ay]using h) hK
theorem aY{f:QI}{args:List D}(h:aP P f args s Z)(hK:∀d s',Z d s'→@dI d s' K):@rZ Qy P (.func (.func f) [] []) args s K:=
 pA (by simpa[CallVQ]using h) hK
theorem lh{full:List QG}{K K':List D→St→Prop}(hK:∀e s,K e s→K' e s):∀(os:List QG)(e:List D)(s:St),cx P full os e s K→cx P full os e s K':=by
 intro os;induction os with
 |nil=>intro e s h;exact hK e s h
 |cons o os ih =>
  intro e s h;have hst:∀{op ρ s}{k k':D→St→Prop},(∀d s,k d s→k' d s)→cR P op ρ s k→cR P op ρ s k':=by
   intro op ρ s k k' hk h;unfold cR at h⊢;split at h
   ·obtain⟨d,s',h1,h2⟩:=h;exact⟨d,s',h1,hk _ _ h2⟩
   ·obtain⟨d,s',h1,h2⟩:=cm.1 h;exact cm.2 ⟨d,s',h1,hk _ _ h2⟩
  simp only[cx]at h⊢;split at h
  ·exact hst (λd s=>ih _ s) h
  ·exact eJ h (hst (λd s=>ih _ s)) (ih _ s)
  ·exact eJ h (ih _ s) (hst (λd s=>ih _ s))
  ·exact h.elim
theorem Cr{full:List QG}{K K':List D→St→Prop}(hK:∀e s,K e s→K' e s):∀(os:List QG)(e:List D)(s:St),iW P full os e s K→iW P full os e s K':=by
 intro os;induction os with
 |nil=>intro e s h;exact hK e s h
 |cons o os ih =>
  intro e s h;have hst:∀{op ρ s}{k k':D→St→Prop},(∀d s,k d s→k' d s)→iY P op ρ s k→iY P op ρ s k':=by
   intro op ρ s k k' hk h;exact yK h hk
  simp only[iW]at h⊢;split at h
  ·exact hst (λd s=>ih _ s) h
  ·exact eJ h (hst (λd s=>ih _ s)) (ih _ s)
  ·exact eJ h (ih _ s) (hst (λd s=>ih _ s))
  ·exact h.elim
theorem E3{c:Prop}[Decidable c]{x:Option (D×St)}{K:D→St→Prop}:optW (if c then x else Qx) K=(c∧optW x K):=by
 split<;>simp_all[optW]
variable {B:List Box}{L L':List Nat}{c':Nat}
theorem mZ{X:List Box}{c:Nat}(h2:∀k,k∈L→k∈L')(h3:c≤c'):Leave ⟨B,L,c⟩ ⟨B++X,L',c'⟩ ⟨B,L,c⟩ where
 len:=by simp
 pre:=λi bx hi=>by
  have hlt:i<B.length:=by
   rcases Nb i B.length with q|q
   ·exact q
   ·rw[MS q]at hi;cases hi
  rw[ML hlt];exact hi
 old:=λi bx hi=>.inl hi
 slen:=K5 _
 live:=λk hk=>⟨h2 k hk,.inl hk⟩
 ctr:=K5 _
 ctr':=h3
 nd:=.inl rfl
theorem yP:Leave s s s where
 len:=K5 _
 pre:=λi bx hi=>hi
 old:=λi bx hi=>.inl hi
 slen:=K5 _
 live:=λk hk=>⟨hk,.inl hk⟩
 ctr:=K5 _
 ctr':=K5 _
 nd:=.inl rfl
variable {x:QK}
theorem EV{rs:List ResultVar}{X:List Box}{c:Nat}{r:D}{ds:List D}(hx:x=.normal∨x=.ret)(h1:resD P e ⟨B++X,L',c'⟩ rs=Qv ds)(h2:kf ds=r)(hb:Bd 0 0 r)(hl:∀k,k∈L→k∈L')(hc:c≤c') :
  @qI x e ⟨B++X,L',c'⟩ (lu P rs ⟨B,L,c⟩ r ⟨B,L,c⟩):=by
 unfold lu;rcases hx with rfl|rfl<;>exact⟨ds,h1,h2,mZ hl hc,hb.mono (K9 _) (K9 _)⟩
theorem EU{rs:List ResultVar}{r:D}{ds:List D}(hx:x=.normal∨x=.ret)(h1:resD P e s rs=Qv ds)(h2:kf ds=r)(hb:Bd 0 0 r) :
  @qI x e s (lu P rs s r s):=by
 unfold lu;rcases hx with rfl|rfl<;>exact⟨ds,h1,h2,yP,hb.mono (K9 _) (K9 _)⟩
theorem bD{l:List Box}{k:Nat}:(B++l)[B.length+k]?=l[k]?:=by rw[My (by omega)];congr 1;omega
theorem bF{l:List Box}:(B++l)[B.length]?=l[0]?:=by rw[My (by omega)];congr 1;omega
theorem iJ{l:List Box}{k:Nat}{x:Box}:(B++l).set (B.length+k) x=B++l.set k x:=by rw[Nm _ _ (by omega)];congr 2;omega
theorem iU{l:List Box}{x:Box}:(B++l).set B.length x=B++l.set 0 x:=by rw[Nm _ _ (by omega)];congr 2;omega
variable {b:Nat}
theorem bO{l:List Box}{x:Box}(h:B[b]?=Qv x):(B++l)[b]?=Qv x:=by
 have hlt:b<B.length:=by
  rcases Nb b B.length with q|q
  ·exact q
  ·rw[MS q]at h;cases h
 rw[ML hlt];exact h
inductive Small:D→Prop
 |junk:Small .junk
 |int (k:IntKind) (n:Int):Small (.int k n)
 |bool (b:Bool):Small (.bool b)
 |str (s:ByteArray):Small (.str s)
 |slice (o:Own) (xs:List (List D)) (hm:xs.length≤me) (hx:∀x∈xs,∀d∈x,Small d):Small (.slice o xs)
 |agg (cs:List D) (h:∀d∈cs,Small d):Small (.agg cs)
 |tup (cs:List D) (h:∀d∈cs,Small d):Small (.tup cs)
 |nilp:Small .nilp
 |box (b off:Nat):Small (.box b off)
 |pin (cs:List D) (h:∀d∈cs,Small d):Small (.pin cs)
 |func (fn:Fn) (fi ca:List D) (h1:∀d∈fi,Small d) (h2:∀d∈ca,Small d):Small (.func fn fi ca)
 |nilf:Small .nilf
 |map (b:Nat):Small (.map b)
 |nilm:Small .nilm
 |yield (b:Nat):Small (.yield b)
 |msl (b off len cap sz:Nat):Small (.msl b off len cap sz)
 |row0:Small .row0
 |row (b off n sz:Nat) (hn:n≤me):Small (.row b off n sz)
theorem Small.of_R{g:G}{d:D}{v:QF}(h:R g d v):Small d:=by
 induction h with
 |junk v=>exact .junk
 |int k n=>exact .int _ _
 |bool b=>exact .bool _
 |str s=>exact .str _
 |slice o xs a cap sz blk off val hc hm ho hs ha hM hv hR ih =>
  refine .slice o xs hm λx hx d hd=>?_;obtain⟨i,hi,rfl⟩:=Mx hx;obtain⟨j,hj,rfl⟩:=Mx hd;exact ih i j hi hj
 |agg cs vs h hv hR ih=>exact .agg cs λd hd=>by obtain⟨i,hi,rfl⟩:=Mx hd;exact ih i hi (by omega)
 |tup cs vs h hR ih=>exact .tup cs λd hd=>by obtain⟨i,hi,rfl⟩:=Mx hd;exact ih i hi (by omega)
 |nilp=>exact .nilp
 |box b off blk h=>exact .box b off
 |pin cs blk off val hM hv hR ih=>exact .pin cs λd hd=>by obtain⟨i,hi,rfl⟩:=Mx hd;exact ih i hi
 |func fn fi ca vf vc h1 h2 hf hc ihf ihc =>
  exact .func fn fi ca (λd hd=>by obtain⟨i,hi,rfl⟩:=Mx hd;exact ihf i hi (by omega)) (λd hd=>by obtain⟨i,hi,rfl⟩:=Mx hd;exact ihc i hi (by omega))
 |nilf=>exact .nilf
 |map b r h=>exact .map b
 |nilm=>exact .nilm
 |yield b l h=>exact .yield b
 |msl b off len cap sz blk m h hS hc hz hm=>exact .msl b off len cap sz
 |row0 a=>exact .row0
 |row b off n sz blk m cap h hS hc hn hz hm=>exact .row b off n sz hn
theorem ay.small{P:QA}{f:QI}{args:List D}{s s':St}{r:D}(h:(∀d∈args,Small d)→ay P f args s r s'):ay P f args s r s':=by
 intro vs w g ha hw;exact h (λd hd=>by obtain⟨i,hi,rfl⟩:=Mx hd;exact .of_R (ha.2 i hi (by have:=ha.1;omega))) vs w g ha hw
theorem Small.len{o:Own}{xs:List (List D)}(h:Small (.slice o xs)):xs.length≤281474976710656:=by cases h with|slice _ _ hm _=>exact hm
theorem ap{k:Nat}(h:k<4611686018427387904):IntKind.i64.wrap ((k:Int)+1)=((k+1:Nat):Int):=by
 rw[IntWalk.i64_in _ (by omega)];omega
variable {n:Int}
theorem aG(h:-9223372036854775808≤n∧n≤9223372036854775807):IntKind.i64.wrap n=n:=IntWalk.i64_in _ h
def keepFrom(ks:List Nat)(n:Nat):List D→List D
 | []=>[]
 |d::ds=>(bif ks.contains n then d else .junk)::keepFrom ks (n+1) ds
theorem IK(ks:List Nat)(e:List D):keep ks e=keepFrom ks 0 e:=by
 have:∀(e:List D)(n:Nat),(e.zipIdx n).map (λ(d,i)=>if ks.contains i then d else D.junk)=keepFrom ks n e:=by
  intro e;induction e with
  |nil=>intro n;rfl
  |cons d ds ih=>intro n;simp only[List.zipIdx_cons,M6,keepFrom,ih (n+1)];congr 1;cases ks.contains n<;>rfl
 exact this e 0
variable {Q:QC}
theorem s5{id id':Nat}:@qI (.exit id') e s (qn id Q)=@qI (if id'=id then .normal else .exit id') e s Q:=by
 show mu id Q.f (.exit id') e s=Q.f (if id'=id then .normal else .exit id') e s;unfold mu;split
 ·rename_i h;cases h;split<;>rfl
 ·rename_i h;exact absurd rfl (h id')
theorem CF{c:Prop}[Decidable c]{x:Option D}{s:St}{K:DC}:@di (if c then x else Qx) s K=@needI c (zb x s K):=by
 show optW ((if c then x else Qx).map (·,s)) K.f=(c∧optW (x.map (·,s)) K.f);by_cases h:c<;>simp[h,optW]
theorem za{c:Prop}[Decidable c]{x:Option D}{s:St}{K:DC}:@di (if c then Qx else x) s K=@needI (¬c) (zb x s K):=by
 show optW ((if c then Qx else x).map (·,s)) K.f=(¬c∧optW (x.map (·,s)) K.f);by_cases h:c<;>simp[h,optW]
theorem CE{c:Prop}[Decidable c]{x:Option St}{K:DC}:@qZ (if c then x else Qx) K=@needI c (G5 x K):=by
 show optW ((if c then x else Qx).map (D.junk,·)) K.f=(c∧optW (x.map (D.junk,·)) K.f);by_cases h:c<;>simp[h,optW]
theorem uU{c:List D}{sz:Nat}:@IR (Qv c) sz s K=@needI (c.length=sz) (dC (.pin c) s K):=by
 show(∃c',Qv c=Qv c'∧c'.length=sz∧K.f (.pin c') s)=(c.length=sz∧K.f (.pin c) s);simp
theorem vsCode :
    (∀ro P Q e s,@cwI ro P .skip e s Q=@qI .normal e s Q) ∧
    (∀ro P Q e s l,@cwI ro P (.label l) e s Q=@qI .normal e s Q) ∧
    (∀ro P Q e s l,@cwI ro P (.exit l) e s Q=@qI (.exit l) e s Q) ∧
    (∀ro P Q e s,@cwI ro P .ret e s Q=@qI .ret e s Q) ∧
    (∀ro P Q e s a b,@cwI ro P (.seq a b) e s Q=@cwI ro P a e s (Dw ro P b Q)) ∧
    (∀ro P Q e s c a b,@cwI ro P (.cond c a b) e s Q=ifI (val e c) (cwC ro P a e s Q) (cwC ro P b e s Q)) ∧
    (∀ro P Q e s id b,@cwI ro P (.block id b) e s Q=@cwI ro P b e s (qn id Q)) ∧
    (∀ro P Q e s id(ops:List QG),@cwI ro P (.region id ops.toArray Qw) e s Q=@yQ P ops ops e s (rh Q)) ∧
    (∀ro P Q e s id ops,@cwI ro P (.region id ops Qy) e s Q=@AWI ro P (.region id ops Qy) e s Q) ∧
    (∀ro P Q e s b,@cwI ro P (.loop b) e s Q=@AWI ro P (.loop b) e s Q) ∧
    (∀ro P Q e s f ps a b,@cwI ro P (.rangeFunc f ps a b) e s Q=@AWI ro P (.rangeFunc f ps a b) e s Q) ∧
    (∀ro P Q e s b,@qI .normal e s (Dw ro P b Q)=@cwI ro P b e s Q) ∧
    (∀ro P Q e s b id,@qI (.exit id) e s (Dw ro P b Q)=@qI (.exit id) e s Q) ∧
    (∀ro P Q e s b,@qI .ret e s (Dw ro P b Q)=@qI .ret e s Q) ∧
    (∀ro P Q e s b,@qI .normal e s (G7 ro P b Q)=@AWI ro P (.loop b) e s Q) ∧
    (∀ro P Q e s b id,@qI (.exit id) e s (G7 ro P b Q)=@qI (.exit id) e s Q) ∧
    (∀ro P Q e s b,@qI .ret e s (G7 ro P b Q)=@qI .ret e s Q) ∧
    (∀id Q e s,@qI .normal e s (qn id Q)=@qI .normal e s Q) ∧
    (∀id Q e s,@qI .ret e s (qn id Q)=@qI .ret e s Q) ∧
    (∀id id' Q e s,@qI (.exit id') e s (qn id Q)=@qI (if id'=id then .normal else .exit id') e s Q) ∧
    (∀X Y,ifI (.bool Qy) X Y=@pI X) ∧
    (∀X Y,ifI (.bool Qw) X Y=@pI Y) ∧
    (∀ro P c e s Q,@pI (cwC ro P c e s Q)=@cwI ro P c e s Q) ∧
    (∀P full os e s K,@pI (LE P full os e s K)=@yQ P full os e s K) ∧
    (∀P op e s K,@pI (tz P op e s K)=@bz P op e s K) ∧
    (∀d s K,@pI (dC d s K)=@dI d s K) ∧
    (∀o sz s K,@pI (getC o sz s K)=@IR o sz s K) ∧
    (∀x K,@pI (optC x K)=@lx x K) ∧
    (∀x s K,@pI (zb x s K)=@di x s K) ∧
    (∀x K,@pI (G5 x K)=@qZ x K) ∧
    (∀c X,@pI (n9 c X)=@needI c X) ∧
    (∀X,@needI True X=@pI X)∧(∀(X:PC),@needI False X=False) ∧
    (∀P full e s K,@yQ P full [] e s K=@kI e s K) ∧
    (∀Q e s,@kI e s (rh Q)=@qI .normal e s Q) ∧
    (∀P full os e s K dst op(ty:QB)pos after,
      @yQ P full ({dst:=dst,op:=op,type:=ty,pos:=pos,after:=after,guard:=Qx}::os) e s K=@bz P op e s (opC P full os dst e K)) ∧
    (∀P full os e s K dst op(ty:QB)pos after j b,
      @yQ P full ({dst:=dst,op:=op,type:=ty,pos:=pos,after:=after,guard:=Qv (j,b)}::os) e s K =
        @G2 P full os dst op (guardOf full (Qv (j,b))) e s K) ∧
    (∀P full os e s K dst op t,
      @G2 P full os dst op (Qv (Qv (t,Qy))) e s K=ifI (gdD Qy (e.getD t .junk)) (tz P op e s (opC P full os dst e K)) (LE P full os (putD e dst (.tup [])) s K)) ∧
    (∀P full os e s K dst op t,
      @G2 P full os dst op (Qv (Qv (t,Qw))) e s K=ifI (gdD Qw (e.getD t .junk)) (LE P full os (putD e dst (.tup [])) s K) (tz P op e s (opC P full os dst e K))) ∧
    (∀b c,gdD b (.bool c)=.bool c)∧(gdD Qy (.tup [])=.bool Qw)∧(gdD Qw (.tup [])=.bool Qy) ∧
    (∀full j b,guardOf full (Qv (j,b))=(full[j]?).bind λp=>p.dst.map λt=>Qv (t,b)) ∧
    (∀P full os e s K dst d,@dI d s (opC P full os dst e K)=@yQ P full os (putD e dst d) s K) ∧
    (∀d s K,@lx (Qv (d,s)) K=@dI d s K)∧(∀(K:DC),@lx Qx K=False) ∧
    (∀d s K,@di (Qv d) s K=@dI d s K)∧(∀(s:St)(K:DC),@di Qx s K=False) ∧
    (∀s K,@qZ (Qv s) K=@dI .junk s K)∧(∀(K:DC),@qZ Qx K=False) ∧
    (∀c inst x K,@lx (@ite _ c inst x Qx) K=@needI c (optC x K)) ∧
    (∀c inst x s K,@di (@ite _ c inst x Qx) s K=@needI c (zb x s K)) ∧
    (∀c inst x s K,@di (@ite _ c inst Qx x) s K=@needI (¬c) (zb x s K)) ∧
    (∀c inst x K,@qZ (@ite _ c inst x Qx) K=@needI c (G5 x K)) ∧
    (∀(c:List D)sz s K,@IR (Qv c) sz s K=@needI (c.length=sz) (dC (.pin c) s K))∧(∀(sz:Nat)(s:St)(K:DC),@IR Qx sz s K=False):=by
  and_intros
  all_goals intros
  all_goals first
    |rfl
    |with_unfolding_all rfl
    | (apply propext;constructor;· exact fun h=>h.2
       · exactλh=>⟨trivial,h⟩)
    | (apply propext;constructor;· exact fun h=>h.1
       · exactλh=>h.elim)
    |exact s5
    |exact CF
    |exact za
    |exact CE
    |exact uU
    |(simp[IR];done)
    |exact E3
    |(simp only[guardOf];split<;>simp_all<;>(split<;>simp_all))
    |trace_state
def oK(z:Option (List D))(s:St):Option (D×St):=match z with
 |some zs=>zV zs s
 |none=>Qx
def rp(ag:Option Bool)(n:Option Nat)(cs:List D):Option D:=match ag,n with
 |some a,Qv n=>lI a n cs
 |_,_=>Qx
def v6(ag:Option Bool)(n:Option Nat)(b:Option Box)(off:Nat):Option D:=match ag,n,b with
 |some a,Qv n,Qv (.cells cs)=>lI a n (cs.drop off)
 |_,_,_=>Qx
def l8(n:Option Nat)(ds:Option (List D))(bx:Option Box)(B:List Box)(b off:Nat)(L:List Nat)(c:Nat):Option St:=match n,ds,bx with
 |some n,Qv ds,Qv (.cells cs)=>if ds.length=n∧off+n≤cs.length then Qv ⟨B.set b (.cells (storeD cs off ds)),L,c⟩else Qx
 |_,_,_=>Qx
def DT(x:Option (Nat×Nat×Bool))(b off:Nat):Option D:=match x with
 |some (o,n,_)=>if n=0 then Qx else Qv (.box b (off+o))
 |none=>Qx
def DS(x:Option (Nat×Nat×Bool))(cs:List D):Option D:=match x with
 |some (o,n,_)=>if n=0 then Qx else Qv (.pin (cs.drop o))
 |none=>Qx
def fieldOf(x:Option (Nat×Nat×Bool))(cs:List D):Option D:=match x with
 |some (o,n,ag)=>if ag then(if o+n≤cs.length then Qv (.agg ((cs.drop o).take n))else Qx)else cs[o]?
 |none=>Qx
def kR(u:Option TypeDesc)(n:Nat):Option D:=match u with
 |some (.slice _)=>Qv (.int .i64 n)
 |_=>Qx
def v7(u:Option TypeDesc)(n:Nat):Option D:=match u with
 |some .string=>Qv (.int .i64 n)
 |_=>Qx
def tq(u:Option TypeDesc)(a b:Bool):Option Bool:=match u with
 |some .bool=>Qv (a == b)
 |_=>Qx
def qm(u v:Option TypeDesc)(n:Int):Option D:=match u,v with
 |some (.int _),Qv (.int k)=>Qv (.int k (k.wrap n))
 |_,_=>Qx
def sa(ok:Bool)(z:Option (List D))(pl:Nat→Option (Nat×Nat))(ps:List (Nat×D)):Option D:=match ok,z with
 |true,Qv zs=>(ik pl zs ps).map .agg
 |_,_=>Qx
def v8(p:Option (Nat×Nat))(x:Option (List D))(pl:Nat→Option (Nat×Nat))(cs:List D)(rest:List (Nat×D)):Option (List D):=match p,x with
 |some (off,n),Qv ds=>if ds.length=n∧off+n≤cs.length then ik pl (storeD cs off (ds.map D.keep1)) rest else Qx
 |_,_=>Qx
def Kn(el:Option (QB×Nat×Nat×Bool))(P:QA)(len:Nat)(ps:List (Nat×D)):Option D:=match el with
 |some (e,sz,_,_)=>match zeroT P e with
  |some zs=>if len*sz≤16777216∧ps.length=len∧len≤1000000∧zs.length=sz then(er sz 0 ps).map (.slice .full)else Qx
  |none=>Qx
 |none=>Qx
def Km(z:Option (List D))(sz len:Nat)(ps:List (Nat×D)):Option D:=match z with
 |some zs=>if len*sz≤16777216∧ps.length=len∧len≤1000000∧zs.length=sz then(er sz 0 ps).map (.slice .full)else Qx
 |none=>Qx
def qX(x:Option (List D))(sz k i:Nat)(rest:List (Nat×D)):Option (List (List D)):=match x with
 |some ds=>if i=k∧ds.length=sz then(er sz (k+1) rest).map (ds.map D.plain1 :: ·)else Qx
 |none=>Qx
def apI(el el':Option (QB×Nat×Nat×Bool))(P:QA)(o:Own)(xs ys:List (List D))(s:St)[K:DC]:Prop:=match el,el' with
 |some (e,sz,b,_),Qv _=>match zeroT P e with
  |some zs=>(zs.length=sz∧0<sz∧0<b∧b≤1000000)∧aV o xs sz s=Qy∧(∀c∈ys,c.length=sz)∧xs.length+ys.length≤1000000∧K.f (.slice (.lab s.ctr sz) (xs++ys)) (s.relab o)
  |none=>False
 |_,_=>False
def apI2(z:Option (List D))(sz b:Nat)(o:Own)(xs ys:List (List D))(s:St)[K:DC]:Prop:=match z with
 |some zs=>(zs.length=sz∧0<sz∧0<b∧b≤1000000)∧aV o xs sz s=Qy∧(∀c∈ys,c.length=sz)∧xs.length+ys.length≤1000000∧K.f (.slice (.lab s.ctr sz) (xs++ys)) (s.relab o)
 |none=>False
def ixI(el:Option (QB×Nat×Nat×Bool))(xs:List (List D))(n:Int)(s:St)[K:DC]:Prop:=match el with
 |some (_,sz,_,_)=>0≤n∧∃c,xs[n.toNat]?=Qv c∧c.length=sz∧K.f (.pin c) s
 |none=>False
def G4(c a b:D):Option D:=match c with
 |.bool t=>Qv (bif t then a else b)
 |_=>Qx
variable {T':QB}{o':Own}
theorem zW{o:Own}{xs ys:List (List D)}:@lx (cL P T T' (.slice o xs) (.slice o' ys) s) K=@apI (elemT P T) (elemT P T') P o xs ys s K:=by
 apply propext;unfold lx;rw[cm];simp only[cL,lR,apI];cases h:elemT P T with
 |none=>simp
 |some el =>
  obtain⟨e,sz,b,ag⟩:=el;cases h':elemT P T' with
  |none=>simp
  |some el' =>
   dsimp only;cases hz:zeroT P e with
   |none=>simp
   |some zs =>
    dsimp only;constructor
    ·rintro⟨d,s',h1,h2⟩;split at h1
     ·rename_i hc;obtain⟨c1,c2,c3,c4,c5,c6,c7⟩:=hc;cases h1;exact⟨⟨c1,c2,c3,c4⟩,c5,λc hc=>by simpa using Mn.1 c6 c hc,c7,h2⟩
     ·cases h1
    ·rintro⟨⟨c1,c2,c3,c4⟩,c5,c6,c7,hK⟩;refine⟨_,_,?_,hK⟩;rw[if_pos ⟨c1,c2,c3,c4,c5,Mn.2 λc hc=>by simpa using c6 c hc,c7⟩]
variable {k:IntKind}
theorem Da{o:Own}{xs:List (List D)}:@di (cD P T (.slice o xs) (.int k n)) s K=@ixI (elemT P T) xs n s K:=by
 apply propext;unfold di;rw[cm];simp only[cD,fq,ixI];cases h:elemT P T with
 |none=>simp
 |some el =>
  obtain⟨e,sz,b,ag⟩:=el;simp only;constructor
  ·rintro⟨d,s',h1,h2⟩;split at h1
   ·rename_i c hc;split at hc
    ·split at h1
     ·rename_i hn hl;cases h1;exact⟨hn,c,hc,hl,h2⟩
     ·cases h1
    ·cases hc
   ·cases h1
  ·rintro⟨hn,c,hc,hl,hK⟩;refine⟨_,_,?_,hK⟩;simp[hn,hc,hl]
theorem Bi(a b:Int):(a == b)=decide (a=b):=by by_cases h:a=b<;>simp[h]
theorem IM(a b:Int):(a != b)=decide (a≠b):=by by_cases h:a=b<;>simp[h]
theorem pn{op:BinOp}{a b:Int}(h:op≠.shl)(h2:op≠.shr):dJ P op T (.int k a) (.int k b)=evInt op k a b:=by simp[dJ,h,h2]
theorem to{a b:Int}:dJ P .eql T (.int k a) (.int k b)=Qv (.bool (decide (a=b))):=by
 rw[pn (by simp) (by simp)];simp only[evInt,Bi]
theorem tn{a b:Int}:dJ P .neq T (.int k a) (.int k b)=Qv (.bool (decide (a≠b))):=by
 rw[pn (by simp) (by simp)];simp only[evInt,IM]
theorem FK{a b:List D}:vI P T (.agg a) (.agg b)=(eqT P T).bind λps=>eqParts a b ps:=by
 unfold vI;cases hu:P.underlying T with
 |none=>simp[eqT,hu]
 |some u=>cases u<;>simp[eqT,hu,isNilConst]
theorem Dd{a b:Bool}:vI P T (.bool a) (.bool b)=tq (P.underlying T) a b:=by
 unfold vI tq;cases hu:P.underlying T with
 |none=>rfl
 |some u=>cases u<;>simp[isNilConst]
theorem C6{x:D}{off:Nat}{c:Nat}:iF P T (.box b off) x ⟨B,L,c⟩=l8 (sizeT P T) (cellsD x) B[b]? B b off L c:=by
 unfold iF l8;cases sizeT P T with
 |none=>rfl
 |some n=>cases cellsD x with
  |none=>rfl
  |some ds=>dsimp only;cases B[b]? with
   |none=>rfl
   |some y=>cases y<;>rfl
theorem Db{S:QB}{cs:List D}{f:Nat}:iG P S (.agg cs) f=fieldOf (fieldT P S f) cs:=by
 unfold iG fieldOf;cases fieldT P S f with
 |none=>rfl
 |some x=>obtain⟨o,n,ag⟩:=x;rfl
theorem FL{U:QB}:kS P T U (.int k n)=qm (P.underlying T) (P.underlying U) n:=by
 unfold kS qm;cases P.underlying T with
 |none=>rfl
 |some u=>cases u<;>(try rfl)<;>(cases P.underlying U with
  |none=>rfl
  |some v=>cases v<;>rfl)
theorem vsOps :
  (∀P e s K f(args:List QE)ts,@bz P (.call {callee:=.value f,args:=args.toArray,argTypes:=ts}) e s K=@rZ Qw P (val e f) (args.map λx=>(val e x).plain) s K) ∧
  (∀P e s K x,@bz P (.move x) e s K=@dI (val e x) s K) ∧
  (∀P e s K x,@bz P (.assign x) e s K=@dI (val e x) s K) ∧
  (∀P e s K c a b,@bz P (.pick c a b) e s K=@di (G4 (val e c) (val e a) (val e b)) s K) ∧
  (∀P e s K(T:QB),@bz P (.alloc T) e s K=@lx (kH P T s) K) ∧
  (∀P e s K(T:QB)x,@bz P (.box T x) e s K=@lx (kG (val e x) s) K) ∧
  (∀P e s K(T:QB)(ps:List (Nat×QE)),@bz P (.build T ps.toArray) e s K=@di (kF P T (ps.map λq=>(q.1,val e q.2))) s K) ∧
  (∀P e s K(T:QB)n(ps:List (Nat×QE)),@bz P (.buildSlice T n ps.toArray) e s K=@di (dY P T n (ps.map λq=>(q.1,val e q.2))) s K) ∧
  (∀P e s K(T:QB)a,@bz P (.load T a) e s K=@di (evLoad P T (val e a) s) s K) ∧
  (∀P e s K(T:QB)a x,@bz P (.store T a x) e s K=@qZ (iF P T (val e a) (val e x) s) K) ∧
  (∀P e s K x,@bz P (.nilCheck x) e s K=@di (eW (val e x)) s K) ∧
  (∀P e s K op(T U:QB)x y,@bz P (.binOp op T x y U) e s K=@di (dJ P op T (val e x) (val e y)) s K) ∧
  (∀P e s K op(T:QB)x,@bz P (.unOp op T x) e s K=@di (GD op (val e x)) s K) ∧
  (∀P e s K(T U:QB)x,@bz P (.convert T U x) e s K=@di (kS P T U (val e x)) s K) ∧
  (∀P e s K fn(fi ca:List QE),@bz P (.makeFunc fn fi.toArray ca.toArray) e s K=@dI (.func fn (fi.map (val e)) (ca.map (val e))) s K) ∧
  (∀P e s K(T:QB)x(lo hi mx:Option QE),@bz P (.slice T x lo hi mx) e s K=@di (dz P T (val e x) (lo.map (val e)) (hi.map (val e)) (mx.map (val e))) s K) ∧
  (∀P e s K(T:QB)x f,@bz P (.fieldAddr T x f) e s K=@di (dW P T (val e x) f) s K) ∧
  (∀P e s K(T:QB)x f,@bz P (.field T x f) e s K=@di (iG P T (val e x) f) s K) ∧
  (∀P e s K(T:QB)x i,@bz P (.indexAddr T x i) e s K=@di (cD P T (val e x) (val e i)) s K) ∧
  (∀P e s K(T:QB)x i,@bz P (.index T x i) e s K=@di (kE P T (val e x) (val e i)) s K) ∧
  (∀P e s K x i,@bz P (.extract x i) e s K=@di (jF (val e x) i) s K) ∧
  (∀P e s K x(T:QB),@bz P (.call {callee:=.builtin .len,args:=#[x],argTypes:=#[T]}) e s K=@di (gd P T (val e x) s) s K) ∧
  (∀P e s K x y(T U:QB),@bz P (.call {callee:=.builtin .append,args:=#[x,y],argTypes:=#[T,U]}) e s K=@lx (cL P T U (val e x) (val e y) s) K) ∧
  (∀P e s K x y ts,@bz P (.call {callee:=.builtin .min,args:=#[x,y],argTypes:=ts}) e s K=@di (zN (val e x) (val e y)) s K) ∧
  (∀P e s K x y ts,@bz P (.call {callee:=.builtin .max,args:=#[x,y],argTypes:=ts}) e s K=@di (zO (val e x) (val e y)) s K) ∧
  (∀P(T T':QB)o o' xs ys s K,@lx (cL P T T' (.slice o xs) (.slice o' ys) s) K=@apI (elemT P T) (elemT P T') P o xs ys s K) ∧
  (∀P(e e':QB)sz b sz' b' ag ag' o xs ys s K,@apI (Qv (e,sz,b,ag)) (Qv (e',sz',b',ag')) P o xs ys s K=@apI2 (zeroT P e) sz b o xs ys s K) ∧
  (∀zs sz b o xs ys B L c K,@apI2 (Qv zs) sz b o xs ys ⟨B,L,c⟩ K =
   @needI (zs.length=sz∧0<sz∧0<b∧b≤1000000) (n9 (aV o xs sz ⟨B,L,c⟩=Qy) (n9 (∀c∈ys,c.length=sz) (n9 (xs.length+ys.length≤1000000) (dC (.slice (.lab c sz) (xs++ys)) (St.relab ⟨B,L,c⟩ o) K))))) ∧
  (∀P(T:QB)o xs k n s K,@di (cD P T (.slice o xs) (.int k n)) s K=@ixI (elemT P T) xs n s K) ∧
  (∀(e:QB)sz b ag xs(n:Int)s K,@ixI (Qv (e,sz,b,ag)) xs n s K=@needI (0≤n) (getC xs[n.toNat]? sz s K)):=by
 and_intros
 all_goals intros
 all_goals first
  |rfl
  |with_unfolding_all rfl
  |exact zW
  |exact Da
  |(simp only[bz,cR,evalOp,di,G4];cases val _ _<;>rfl)
  |trace_state
theorem vsEnv :
  (∀(e:List D)t,val e (.tmp t)=e.getD t .junk) ∧
  (∀e v,val e (.const v)=cst v) ∧
  (∀e f,val e (.func f)=.func (.func f) [] []) ∧
  (∀(x:D)(xs:List D)(d:D),(x::xs).getD 0 d=x) ∧
  (∀x(xs:List D)d n,(x::xs).getD (n+1) d=xs.getD n d) ∧
  (∀k n,cst (.int k n)=.int k n) ∧
  (∀b,cst (.bool b)=.bool b) ∧
  (∀b,cst (.string b)=.str b) ∧
  (cst (.pointer Qx)=.nilp)∧(cst .nilFunc=.nilf)∧(cst (.map Qx)=.nilm)∧(cst (.slice Qx 0 0)=.slice .nil []) ∧
  (∀(e:List D)t d,putD e (Qv t) d=e.set t d) ∧
  (∀e d,putD e Qx d=e) ∧
  (∀(x y:D)(xs:List D),(x::xs).set 0 y=y::xs) ∧
  (∀x y(xs:List D)n,(x::xs).set (n+1) y=x::xs.set n y) ∧
  (∀o xs,(D.slice o xs).plain=.slice .none xs) ∧
  (∀k n,(D.int k n).plain=.int k n)∧(∀b,(D.bool b).plain=.bool b)∧(∀b,(D.str b).plain=.str b)∧(∀cs,(D.agg cs).plain=.agg (cs.map D.plain1))∧(∀cs,(D.tup cs).plain=.tup cs) ∧
  (∀o xs,(D.slice o xs).plain1=.slice .none xs) ∧
  (∀xs,(D.slice .nil xs).keep1=.slice .nil xs)∧(∀(xs:List (List D)),(D.slice .none xs).keep1=.slice .none xs)∧(∀(xs:List (List D)),(D.slice .full xs).keep1=.slice .none xs)∧(∀(k z:Nat)(xs:List (List D)),(D.slice (.lab k z) xs).keep1=.slice .none xs) ∧
  (∀k n,(D.int k n).keep1=.int k n)∧(∀b,(D.bool b).keep1=.bool b)∧(∀b,(D.str b).keep1=.str b)∧(∀cs,(D.agg cs).keep1=.agg cs)∧(∀cs,(D.tup cs).keep1=.tup cs) ∧
  (∀b o,(D.box b o).keep1=.box b o)∧(∀cs,(D.pin cs).keep1=.pin cs)∧(∀f a c,(D.func f a c).keep1=.func f a c)∧(D.nilp.keep1=.nilp)∧(D.nilf.keep1=.nilf)∧(D.nilm.keep1=.nilm)∧(∀b,(D.map b).keep1=.map b)∧(∀b,(D.yield b).keep1=.yield b)∧(D.junk.keep1=.junk) ∧
  (∀k n,(D.int k n).plain1=.int k n)∧(∀b,(D.bool b).plain1=.bool b)∧(∀b,(D.str b).plain1=.str b)∧(∀cs,(D.agg cs).plain1=.agg cs)∧(∀cs,(D.tup cs).plain1=.tup cs) ∧
  (∀b o,(D.box b o).plain1=.box b o)∧(∀cs,(D.pin cs).plain1=.pin cs)∧(∀f a c,(D.func f a c).plain1=.func f a c)∧(D.nilp.plain1=.nilp)∧(D.nilf.plain1=.nilf)∧(D.nilm.plain1=.nilm)∧(∀b,(D.map b).plain1=.map b)∧(∀b,(D.yield b).plain1=.yield b)∧(D.junk.plain1=.junk) ∧
  (∀b o,(D.box b o).plain=.box b o)∧(∀cs,(D.pin cs).plain=.pin cs)∧(∀f a c,(D.func f a c).plain=.func f a c)∧(D.nilp.plain=.nilp)∧(D.nilf.plain=.nilf)∧(D.nilm.plain=.nilm)∧(∀b,(D.map b).plain=.map b)∧(∀b,(D.yield b).plain=.yield b)∧(D.junk.plain=.junk) ∧
  (∀cs,cellsD (.agg cs)=Qv cs)∧(∀o xs,cellsD (.slice o xs)=Qv [.slice o xs])∧(∀k n,cellsD (.int k n)=Qv [.int k n])∧(∀b,cellsD (.bool b)=Qv [.bool b])∧(∀b,cellsD (.str b)=Qv [.str b]) ∧
  (∀b o,cellsD (.box b o)=Qv [.box b o])∧(∀c,cellsD (.pin c)=Qv [.pin c])∧(∀f a c,cellsD (.func f a c)=Qv [.func f a c])∧(cellsD .nilp=Qv [.nilp])∧(cellsD .nilf=Qv [.nilf])∧(cellsD .nilm=Qv [.nilm])∧(∀b,cellsD (.map b)=Qv [.map b])∧(∀b,cellsD (.yield b)=Qv [.yield b]) ∧
  (∀(ks:List Nat)e,keep ks e=keepFrom ks 0 e)∧(∀(ks:List Nat)(n:Nat),keepFrom ks n []=[])∧(∀(ks:List Nat)(n:Nat)(d:D)(ds:List D),keepFrom ks n (d::ds)=(bif ks.contains n then d else .junk)::keepFrom ks (n+1) ds) ∧
  (∀(x y:D),(bif Qy then x else y)=x)∧(∀(x y:D),(bif Qw then x else y)=y):=by
 and_intros
 all_goals intros
 all_goals first
  |rfl
  |with_unfolding_all rfl
  |exact IK _ _
theorem vsEv :
  (∀c a b,G4 (.bool c) a b=Qv (bif c then a else b)) ∧
  (∀P(T:QB)s,kH P T s=oK (zeroT P T) s) ∧
  (∀zs(B:List Box)L c,oK (Qv zs) ⟨B,L,c⟩=Qv (.box B.length 0,⟨B++[.cells zs],L,c⟩)) ∧
  (∀x s,kG x s=oK (cellsD x) s) ∧
  (∀P(T:QB)cs s,evLoad P T (.pin cs) s=rp (aS P T) (sizeT P T) cs) ∧
  (∀P(T:QB)b off B L c,evLoad P T (.box b off) ⟨B,L,c⟩=v6 (aS P T) (sizeT P T) B[b]? off) ∧
  (∀ag n cs,rp (Qv ag) (Qv n) cs=lI ag n cs) ∧
  (∀ag n off(cs:List D),v6 (Qv ag) (Qv n) (Qv (.cells cs)) off=lI ag n (cs.drop off)) ∧
  (∀n(cs:List D),lI Qy n cs=if n≤cs.length then Qv (.agg ((cs.take n).map D.plain1))else Qx) ∧
  (∀n cs,lI Qw n cs=cs[0]?) ∧
  (∀P(T:QB)x b off B L c,iF P T (.box b off) x ⟨B,L,c⟩=l8 (sizeT P T) (cellsD x) B[b]? B b off L c) ∧
  (∀n(ds cs:List D)(B:List Box)b off L c,l8 (Qv n) (Qv ds) (Qv (.cells cs)) B b off L c=if ds.length=n∧off+n≤cs.length then Qv ⟨B.set b (.cells (storeD cs off ds)),L,c⟩else Qx) ∧
  (∀(cs:List D)off(ds:List D),storeD cs off ds=cs.take off++(ds++cs.drop (off+ds.length))) ∧
  (∀P(S:QB)b off f,dW P S (.box b off) f=DT (fieldT P S f) b off) ∧
  (∀P(S:QB)cs f,dW P S (.pin cs) f=DS (fieldT P S f) cs) ∧
  (∀o n b off ag,DT (Qv (o,n+1,ag)) b off=Qv (.box b (off+o))) ∧
  (∀o n ag(cs:List D),DS (Qv (o,n+1,ag)) cs=Qv (.pin (cs.drop o))) ∧
  (∀P(S:QB)cs f,iG P S (.agg cs) f=fieldOf (fieldT P S f) cs) ∧
  (∀(cs:List D)o n,fieldOf (Qv (o,n,Qy)) cs=if o+n≤cs.length then Qv (.agg ((cs.drop o).take n))else Qx) ∧
  (∀cs o n,fieldOf (Qv (o,n,Qw)) cs=cs[o]?) ∧
  (∀(P:QA)(T:QB)o(xs:List (List D))s,gd P T (.slice o xs) s=kR (P.underlying T) xs.length) ∧
  (∀e n,kR (Qv (.slice e)) n=Qv (.int .i64 n)) ∧
  (∀(P:QA)(T:QB)(b:ByteArray)s,gd P T (.str b) s=v7 (P.underlying T) b.size) ∧
  (∀n,v7 (Qv .string) n=Qv (.int .i64 n)) ∧
  (∀P(T:QB)(k:IntKind)a b,dJ P .add T (.int k a) (.int k b)=Qv (.int k (k.wrap (a+b)))) ∧
  (∀P(T:QB)(k:IntKind)a b,dJ P .sub T (.int k a) (.int k b)=Qv (.int k (k.wrap (a-b)))) ∧
  (∀P(T:QB)(k:IntKind)a b,dJ P .mul T (.int k a) (.int k b)=Qv (.int k (k.wrap (a*b)))) ∧
  (∀P(T:QB)(k:IntKind)(a b:Int),dJ P .quo T (.int k a) (.int k b)=if b=0 then Qx else Qv (.int k (k.wrap (a.tdiv b)))) ∧
  (∀P(T:QB)k(a b:Int),dJ P .rem T (.int k a) (.int k b)=if b=0 then Qx else Qv (.int k (a.tmod b))) ∧
  (∀P(T:QB)k a b,dJ P .and T (.int k a) (.int k b)=Qv (.int k (bits .and k a b))) ∧
  (∀P(T:QB)k a b,dJ P .or T (.int k a) (.int k b)=Qv (.int k (bits .or k a b))) ∧
  (∀P(T:QB)k a b,dJ P .xor T (.int k a) (.int k b)=Qv (.int k (bits .xor k a b))) ∧
  (∀P(T:QB)k a b,dJ P .andNot T (.int k a) (.int k b)=Qv (.int k (bits .andNot k a b))) ∧
  (∀P(T:QB)k a b,dJ P .eql T (.int k a) (.int k b)=Qv (.bool (decide (a=b)))) ∧
  (∀P(T:QB)k a b,dJ P .neq T (.int k a) (.int k b)=Qv (.bool (decide (a≠b)))) ∧
  (∀P(T:QB)k a b,dJ P .lss T (.int k a) (.int k b)=Qv (.bool (decide (a<b)))) ∧
  (∀P(T:QB)k a b,dJ P .leq T (.int k a) (.int k b)=Qv (.bool (decide (a≤b)))) ∧
  (∀P(T:QB)k a b,dJ P .gtr T (.int k a) (.int k b)=Qv (.bool (decide (b<a)))) ∧
  (∀P(T:QB)k a b,dJ P .geq T (.int k a) (.int k b)=Qv (.bool (decide (b≤a)))) ∧
  (∀P(T:QB)k k' a b,dJ P .shl T (.int k a) (.int k' b)=mm .shl k a b) ∧
  (∀P(T:QB)k k' a b,dJ P .shr T (.int k a) (.int k' b)=mm .shr k a b) ∧
  (∀P op(T:QB)a b,dJ P op T (.str a) (.str b)=zG op a b) ∧
  (∀(P:QA)(T:QB)a b,dJ P .eql T (.bool a) (.bool b)=(tq (P.underlying T) a b).map .bool) ∧
  (∀(P:QA)(T:QB)a b,dJ P .neq T (.bool a) (.bool b)=(tq (P.underlying T) a b).map λb=>.bool (!b)) ∧
  (∀a b,tq (Qv .bool) a b=Qv (a == b)) ∧
  (∀P(T:QB)a b,dJ P .eql T (.agg a) (.agg b)=((eqT P T).bind λps=>eqParts a b ps).map .bool) ∧
  (∀P(T:QB)a b,dJ P .neq T (.agg a) (.agg b)=((eqT P T).bind λps=>eqParts a b ps).map λb=>.bool (!b)) ∧
  (∀b,GD .not (.bool b)=Qv (.bool (!b))) ∧
  (∀(k:IntKind)n,GD .neg (.int k n)=Qv (.int k (k.wrap (0-n)))) ∧
  (∀(P:QA)(T U:QB)k n,kS P T U (.int k n)=qm (P.underlying T) (P.underlying U) n) ∧
  (∀(k k':IntKind)n,qm (Qv (.int k)) (Qv (.int k')) n=Qv (.int k' (k'.wrap n))) ∧
  (∀b o,eW (.box b o)=Qv (.box b o))∧(∀(cs:List D),eW (.pin cs)=Qv (.pin cs))∧(∀(f:Nat)(a c:List D),eW (.func (.func f) a c)=Qv (.func (.func f) a c))∧(∀(b:Nat),eW (.yield b)=Qv (.yield b)) ∧
  (∀k k' a b,zN (.int k a) (.int k' b)=Qv (.int k (if b<a then b else a))) ∧
  (∀k k' a b,zO (.int k a) (.int k' b)=Qv (.int k (if a<b then b else a))) ∧
  (∀vs i,jF (.tup vs) i=vs[i]?) ∧
  (∀P(T:QB)ps,kF P T ps=sa (bc P T) (zeroT P T) (aF P T) ps) ∧
  (∀zs pl ps,sa Qy (Qv zs) pl ps=(ik pl zs ps).map .agg) ∧
  (∀pl cs,ik pl cs []=Qv cs) ∧
  (∀pl cs i x rest,ik pl cs ((i,x)::rest)=v8 (pl i) (cellsD x) pl cs rest) ∧
  (∀off n(ds:List D)pl(cs:List D)rest,v8 (Qv (off,n)) (Qv ds) pl cs rest=if ds.length=n∧off+n≤cs.length then ik pl (storeD cs off (ds.map D.keep1)) rest else Qx) ∧
  (∀P(T:QB)len ps,dY P T len ps=Kn (elemT P T) P len ps) ∧
  (∀P(e:QB)sz b len ag ps,Kn (Qv (e,sz,b,ag)) P len ps=Km (zeroT P e) sz len ps) ∧
  (∀(zs:List D)sz len(ps:List (Nat×D)),Km (Qv zs) sz len ps=if len*sz≤16777216∧ps.length=len∧len≤1000000∧zs.length=sz then(er sz 0 ps).map (.slice .full)else Qx) ∧
  (∀sz k,er sz k []=Qv []) ∧
  (∀sz k i x rest,er sz k ((i,x)::rest)=qX (cellsD x) sz k i rest) ∧
  (∀(ds:List D)sz k i rest,qX (Qv ds) sz k i rest=if i=k∧ds.length=sz then(er sz (k+1) rest).map (ds.map D.plain1 :: ·)else Qx) ∧
  (∀B(L:List Nat)c k z,St.relab ⟨B,L,c⟩ (.lab k z)=⟨B,c::L.erase k,c+1⟩) ∧
  (∀B L c,St.relab ⟨B,L,c⟩ .full=⟨B,c::L,c+1⟩) ∧
  (∀B L c,St.relab ⟨B,L,c⟩ .nil=⟨B,c::L,c+1⟩) ∧
  (∀k z sz xs B(L:List Nat)c,aV (.lab k z) xs sz ⟨B,L,c⟩=(L.contains k&&z == sz)) ∧
  (∀sz(xs:List (List D))s,aV .full xs sz s=xs.all (·.length == sz)) ∧
  (∀sz(xs:List (List D))s,aV .nil xs sz s=xs.all (·.length == sz)) ∧
  (∀(α β:Type)(c:Prop)(inst:Decidable c)(x:Option α)(f:α→β),(@ite _ c inst x Qx).map f=@ite _ c inst (x.map f) Qx) ∧
  (∀(α β:Type)(x:α)(f:α→β),(Qv x).map f=Qv (f x))∧(∀(α β:Type)(f:α→β),(Qx:Option α).map f=Qx)∧(∀(α β:Type)(x:α)(f:α→Option β),(Qv x).bind f=f x):=by
 and_intros
 all_goals intros
 all_goals first
  |rfl
  |with_unfolding_all rfl
  |exact to
  |exact C6
  |exact Db
  |exact FL
  |exact tn
  |exact pn (by simp) (by simp)
  |(show(vI _ _ (.agg _) (.agg _)).map _=_;rw[FK])
  |(show(vI _ _ (.bool _) (.bool _)).map _=_;rw[Dd])
  |(split<;>rfl)
  |(simp only[evLoad,v6,gd,kR,v7,kF,sa,dY,Kn,er,qX];done)
  |(simp only[evLoad,v6,gd,kR,v7,kF,sa,dY,Kn,er,qX];(repeat' split)<;>simp_all)
  |trace_state
def pureOp:Op→Bool
 |.move _|.assign _|.pick .. |.build .. |.buildSlice .. |.nilCheck _|.binOp .. |.unOp .. |.convert .. |.makeFunc .. |.slice .. |.fieldAddr .. |.field .. |.indexAddr .. |.index .. |.extract .. => Qy
 |_=>Qw
theorem ub{ρ:QE→D}{op:Op}(hp:pureOp op=Qy)(h:evalOp P ρ s op=Qv (d,s')):s'=s∧∀s2,evalOp P ρ s2 op=Qv (d,s2):=by
 cases op<;>simp only[pureOp]at hp<;>first|(cases hp;done)|skip
 case pick c a b =>
  simp only[evalOp]at h⊢;split at h
  ·cases h;exact⟨rfl,λ_=>rfl⟩
  ·cases h
 all_goals
  simp only[evalOp]at h⊢;first
   |(cases h;exact⟨rfl,λ_=>rfl⟩)
   |(obtain⟨x,hx,e⟩:=map_some h;cases e;exact⟨rfl,λs2=>by rw[hx];rfl⟩)
def Gl(op:Op):List Nat:=op.operands.toList.filterMap λ|.tmp t=>Qv t|_=>Qx
theorem BI{op:Op}(h:∀t∈Gl op,e.getD t .junk=e'.getD t .junk):∀x∈op.operands,val e x=val e' x:=by
 intro x hx;cases x<;>simp only[val];exact h _ (PM.2 ⟨_,by simpa using hx,rfl⟩)
theorem uW{ρ ρ':QE→D}{op:Op}(h:∀x∈op.operands,ρ x=ρ' x):evalOp P ρ s op=evalOp P ρ' s op:=by
 cases op<;>simp only[evalOp];case build T ps=>rw[Og (λq hq=>by rw[h q.2 (by simp[Op.operands];exact⟨q.1,by simpa using hq⟩)])]
 case buildSlice T n ps=>rw[Og (λq hq=>by rw[h q.2 (by simp[Op.operands];exact⟨q.1,by simpa using hq⟩)])]
 case makeFunc fn fi ca =>
  rw[Og (l:=fi.toList) (λq hq=>h q (by simp[Op.operands];exact .inl (by simpa using hq))),Og (l:=ca.toList) (λq hq=>h q (by simp[Op.operands];exact .inr (by simpa using hq)))]
 case slice T x lo hi mx =>
  rw[h x (by simp[Op.operands])];have:∀(y:Option QE),(∀z,y=Qv z→ρ z=ρ' z)→y.map ρ=y.map ρ':=λy hy=>by cases y with
   |none=>rfl
   |some z=>simp[hy z rfl]
  rw[this lo (λz hz=>h z (by simp[Op.operands,hz])),this hi (λz hz=>h z (by simp[Op.operands,hz])),this mx (λz hz=>h z (by simp[Op.operands,hz]))]
 case makeMap T r=>cases r with
  |none=>rfl
  |some x=>simp only[h x (by simp[Op.operands])]
 case call c =>
  obtain⟨callee,args,ts⟩:=c;cases callee with
  |value f=>rfl
  |invoke r m=>rfl
  |builtin b=>simp only;rw[Og (λq hq=>h q (by simp[Op.operands,Call.operands];simpa using hq))]
 all_goals
  first
   |rfl
   |(simp[Op.operands]at h;simp only[h])
   |(simp[Op.operands]at h;simp only[h.1,h.2])
   |(simp[Op.operands]at h;simp only[h.1,h.2.1,h.2.2])
theorem qO{ρ ρ':QE→D}(h:∀x∈o.op.operands,ρ x=ρ' x)(hs:tt P o ρ s d s'):tt P o ρ' s d s':=by
 rcases hs with hs|⟨f,args,ts,ho,hc⟩
 ·exact .inl (by rw[←uW h];exact hs)
 ·refine .inr ⟨f,args,ts,ho,?_⟩;rw[ho]at h;rw[←h f (by simp[Op.operands,Call.operands])];have:argsOf ρ' args=argsOf ρ args:=by
   unfold argsOf;exact Og λx hx=>by rw[h x (by simp[Op.operands,Call.operands];exact .inr (by simpa using hx))]
  rw[this];exact hc
theorem xp{ρ:QE→D}{K:D→St→Prop}(h:tt P o ρ s d s')(hK:K d s'):cR P o.op ρ s K:=by
 rcases h with h|⟨f,args,ts,ho,hc⟩
 ·unfold cR;split
  ·rename_i f args ts heq;rw[heq]at h;simp[evalOp]at h
  ·exact cm.2 ⟨d,s',h,hK⟩
 ·rw[ho];exact⟨d,s',hc,hK⟩
def m5(full:List QG)(o:QG):List Nat:=
  (match guardOf full o.guard with
   |some (Qv (t,_))=>[t]
   |_=>[])++Gl o.op
def ib(P:QA)(full:List QG)(o:QG)(e:List D)(s:St)(d:D)(s':St):Prop:=
 match guardOf full o.guard with
 |some Qx=>tt P o (val e) s d s'
 |some (Qv (t,b))=>(gdD b (e.getD t .junk)=.bool b∧tt P o (val e) s d s')∨(gdD b (e.getD t .junk)=.bool (!b)∧d=.tup []∧s'=s)
 |none=>False
theorem jc{full:List QG}(h:∀t∈m5 full o,e.getD t .junk=e'.getD t .junk)(hs:ib P full o e s d s'):ib P full o e' s d s':=by
 have hv:∀x∈o.op.operands,val e x=val e' x:=BI λt ht=>h t (List.mem_append_right _ ht);unfold ib at hs⊢;unfold m5 at h;cases hg:guardOf full o.guard with
 |none=>rw[hg]at hs;exact hs.elim
 |some x =>
  rw[hg]at hs h;cases x with
  |none=>exact qO hv hs
  |some x =>
   obtain⟨t,b⟩:=x;have ht:=h t (by simp);rcases hs with ⟨h1,h2⟩|⟨h1,h2⟩
   ·exact .inl ⟨by rw[←ht];exact h1,qO hv h2⟩
   ·exact .inr ⟨by rw[←ht];exact h1,h2⟩
theorem y9{full:List QG}(hp:pureOp o.op=Qy)(h:ib P full o e s d s')(s2:St):ib P full o e s2 d s2:=by
 have hst:tt P o (val e) s d s'→tt P o (val e) s2 d s2:=by
  rintro(h|⟨f,args,ts,ho,_⟩)
  ·exact .inl ((ub hp h).2 s2)
  ·rw[ho]at hp;cases hp
 unfold ib at h⊢;cases hg:guardOf full o.guard with
 |none=>rw[hg]at h;exact h.elim
 |some x =>
  rw[hg]at h;cases x with
  |none=>exact hst h
  |some x =>
   obtain⟨t,b⟩:=x;rcases h with ⟨h1,h2⟩|⟨h1,h2,h3⟩
   ·exact .inl ⟨h1,hst h2⟩
   ·exact .inr ⟨h1,h2,rfl⟩
theorem tY{full os:List QG}{K:List D→St→Prop}(h:ib P full o e s d s')(hK:cx P full os (putD e o.dst d) s' K):cx P full (o::os) e s K:=by
 unfold ib at h;simp only[cx];cases hg:guardOf full o.guard with
 |none=>rw[hg]at h;exact h.elim
 |some x =>
  rw[hg]at h;cases x with
  |none=>exact xp h hK
  |some x =>
   obtain⟨t,b⟩:=x;rcases h with ⟨h1,h2⟩|⟨h1,rfl,rfl⟩
   ·cases b<;>simp only[h1,ifB]<;>exact xp h2 hK
   ·cases b<;>simp only[h1,ifB,Mp,Bool.not_false]<;>exact hK
def jt(P:QA)(full:List QG):List Bool→List QG→List D→St→List St→(List D→St→List St→Prop)→Prop
 | [],[],e,s,ss,K=>K e s ss
 |b::bs,o::os,e,s,ss,K =>
  match guardOf full o.guard with
  |some Qx=>cR P o.op (val e) s λd s'=>(b=Qy∨s'=s)∧jt P full bs os (putD e o.dst d) s' (bif b then s::ss else ss) K
  |some (Qv (t,Qy))=>ifB (gdD Qy (e.getD t .junk)) (cR P o.op (val e) s λd s'=>(b=Qy∨s'=s)∧jt P full bs os (putD e o.dst d) s' (bif b then s::ss else ss) K) (jt P full bs os (putD e o.dst (.tup [])) s (bif b then s::ss else ss) K)
  |some (Qv (t,Qw))=>ifB (gdD Qw (e.getD t .junk)) (jt P full bs os (putD e o.dst (.tup [])) s (bif b then s::ss else ss) K) (cR P o.op (val e) s λd s'=>(b=Qy∨s'=s)∧jt P full bs os (putD e o.dst d) s' (bif b then s::ss else ss) K)
  |none=>False
 |_,_,_,_,_,_=>False
def Tr(P:QA)(full:List QG):List Bool→List QG→List D→St→List D→List St→Prop
 | [],[],e,s,e',sts=>e'=e∧sts=[s]
 |true::bs,o::os,e,s,e',sts=>∃d s',ib P full o e s d s'∧∃r,sts=s::r∧Tr P full bs os (putD e o.dst d) s' e' r
 |false::bs,o::os,e,s,e',sts=>∃d,ib P full o e s d s∧Tr P full bs os (putD e o.dst d) s e' sts
 |_,_,_,_,_,_=>False
theorem lK{c:D}{x y:Prop}(h:ifB c x y):(c=.bool Qy∧x)∨(c=.bool Qw∧y):=by
 unfold ifB at h;split at h
 ·exact .inl ⟨rfl,h⟩
 ·exact .inr ⟨rfl,h⟩
 ·exact h.elim
theorem Ii{full:List QG}{K:List D→St→List St→Prop}:∀(bs:List Bool)(os:List QG)(e:List D)(s:St)(ss:List St),jt P full bs os e s ss K →
  ∃e' s' ss' sts,Tr P full bs os e s e' sts∧ss'.reverse++[s']=ss.reverse++sts∧K e' s' ss':=by
 intro bs;induction bs with
 |nil =>
  intro os e s ss h;cases os with
  |nil=>exact⟨e,s,ss,[s],⟨rfl,rfl⟩,rfl,h⟩
  |cons o os=>simp[jt]at h
 |cons b bs ih =>
  intro os e s ss h;cases os with
  |nil=>simp[jt]at h
  |cons o os =>
   have key:∀d s',ib P full o e s d s'→(b=Qy∨s'=s)→jt P full bs os (putD e o.dst d) s' (bif b then s::ss else ss) K →
     ∃e' s'' ss' sts,Tr P full (b::bs) (o::os) e s e' sts∧ss'.reverse++[s'']=ss.reverse++sts∧K e' s'' ss':=by
    intro d s' h1 h2 h3;obtain⟨e',s'',ss',sts,t1,t2,t3⟩:=ih os _ s' _ h3;cases b with
    |true=>exact⟨e',s'',ss',s::sts,⟨d,s',h1,sts,rfl,t1⟩,by rw[t2];simp,t3⟩
    |false =>
     rcases h2 with h2|rfl
     ·cases h2
     ·exact⟨e',s'',ss',sts,⟨d,h1,t1⟩,by rw[t2];simp,t3⟩
   simp only[jt]at h;have hO:∀d s',ib P full o e s d s'=match guardOf full o.guard with
    |some Qx=>tt P o (val e) s d s'
    |some (Qv (t,b))=>(gdD b (e.getD t .junk)=.bool b∧tt P o (val e) s d s')∨(gdD b (e.getD t .junk)=.bool (!b)∧d=.tup []∧s'=s)
    |none=>False:=λ_ _=>rfl
   cases hg:guardOf full o.guard with
   |none=>rw[hg]at h;exact h.elim
   |some x =>
    rw[hg]at h;cases x with
    |none =>
     obtain⟨d,s',h1,h2,h3⟩:=iM h;exact key d s' (by rw[hO,hg];exact h1) h2 h3
    |some x =>
     obtain⟨t,c⟩:=x;cases c with
     |true =>
      rcases lK h with ⟨q,h⟩|⟨q,h⟩
      ·obtain⟨d,s',h1,h2,h3⟩:=iM h;exact key d s' (by rw[hO,hg];exact .inl ⟨q,h1⟩) h2 h3
      ·exact key (.tup []) s (by rw[hO,hg];exact .inr ⟨q,rfl,rfl⟩) (.inr rfl) h
     |false =>
      rcases lK h with ⟨q,h⟩|⟨q,h⟩
      ·exact key (.tup []) s (by rw[hO,hg];exact .inr ⟨q,rfl,rfl⟩) (.inr rfl) h
      ·obtain⟨d,s',h1,h2,h3⟩:=iM h;exact key d s' (by rw[hO,hg];exact .inl ⟨q,h1⟩) h2 h3
def dstsOf(os:List QG):List Nat:=os.filterMap (·.dst)
theorem eX{dst:Option Tmp}:(putD e dst d).length=e.length:=by cases dst<;>simp[putD]
theorem nX{dst:Option Tmp}(h:dst≠Qv t):(putD e dst d)[t]?=e[t]?:=by
 cases dst with
 |none=>rfl
 |some u=>simp only[putD];rw[ME (λq=>h (by rw[q]))]
theorem sV{full:List QG}:∀(bs:List Bool)(os:List QG)(e:List D)(s:St)(e':List D)(sts:List St),Tr P full bs os e s e' sts →
  e'.length=e.length∧sts.length=bs.count Qy+1∧bs.length=os.length∧sts[0]?=Qv s:=by
 intro bs;induction bs with
 |nil =>
  intro os e s e' sts h;cases os with
  |nil=>obtain⟨rfl,rfl⟩:=h;exact⟨rfl,rfl,rfl,rfl⟩
  |cons o os=>simp[Tr]at h
 |cons b bs ih =>
  intro os e s e' sts h;cases os with
  |nil=>cases b<;>simp[Tr]at h
  |cons o os =>
   cases b with
   |true =>
    obtain⟨d,s',h1,r,rfl,h2⟩:=h;obtain⟨i1,i2,i3,i4⟩:=ih os _ _ _ _ h2;exact⟨i1.trans eX,by simp[i2],by simp[i3],rfl⟩
   |false =>
    obtain⟨d,h1,h2⟩:=h;obtain⟨i1,i2,i3,i4⟩:=ih os _ _ _ _ h2;exact⟨i1.trans eX,by simp[i2],by simp[i3],i4⟩
theorem va{full:List QG}:∀(bs:List Bool)(os:List QG)(e:List D)(s:St)(e':List D)(sts:List St),Tr P full bs os e s e' sts →
  ∀t,t ∉ dstsOf os→e'[t]?=e[t]?:=by
 intro bs;induction bs with
 |nil =>
  intro os e s e' sts h t _;cases os with
  |nil=>obtain⟨rfl,rfl⟩:=h;rfl
  |cons o os=>simp[Tr]at h
 |cons b bs ih =>
  intro os e s e' sts h t ht;cases os with
  |nil=>cases b<;>simp[Tr]at h
  |cons o os =>
   have h0:o.dst≠Qv t:=λq=>ht (by simp[dstsOf,q]);have h1:t ∉ dstsOf os:=λq=>ht (by
    unfold dstsOf at q⊢;rw[OV];split
    ·exact q
    ·exact .tail _ q)
   cases b with
   |true=>obtain⟨d,s',_,r,rfl,h2⟩:=h;rw[ih os _ _ _ _ h2 t h1,nX h0]
   |false=>obtain⟨d,_,h2⟩:=h;rw[ih os _ _ _ _ h2 t h1,nX h0]
theorem LP{full:List QG}:∀(bs:List Bool)(os:List QG)(e:List D)(s:St)(e':List D)(sts:List St),Tr P full bs os e s e' sts→(dstsOf os).Nodup →
  ∀p o b,os[p]?=Qv o→bs[p]?=Qv b→∃ep d sp sp',ib P full o ep sp d sp'∧sts[(bs.take p).count Qy]?=Qv sp∧(b=Qy→sts[(bs.take p).count Qy+1]?=Qv sp')∧(b=Qw→sp'=sp) ∧
   (∀t,ep[t]?=if t∈dstsOf (os.take p)then e'[t]? else e[t]?)∧(∀t,o.dst=Qv t→t<e.length→e'[t]?=Qv d):=by
 intro bs;induction bs with
 |nil=>intro os e s e' sts h _ p o b _ hb;simp at hb
 |cons b0 bs ih =>
  intro os e s e' sts h hn p o b ho hb;cases os with
  |nil=>simp at ho
  |cons o0 os =>
   have hn':(dstsOf os).Nodup∧∀t,o0.dst=Qv t→t ∉ dstsOf os:=by
    unfold dstsOf at hn⊢;rw[OV]at hn;split at hn
    ·rename_i q;exact⟨hn,λt ht=>by rw[q]at ht;cases ht⟩
    ·rename_i u q;exact⟨(Nk.1 hn).2,λt ht=>by rw[q]at ht;cases ht;exact(Nk.1 hn).1⟩
   have rest:∀d sn st',Tr P full bs os (putD e o0.dst d) sn e' st'→∀t,o0.dst=Qv t→t<e.length→e'[t]?=Qv d:=by
    intro d sn st' h2 t ht hl;rw[va _ _ _ _ _ _ h2 t (hn'.2 t ht),ht];simp[putD,hl]
   cases p with
   |zero =>
    simp only[List.getElem?_cons_zero,NJ.injEq]at ho hb;subst ho hb;cases b0 with
    |true =>
     obtain⟨d,s',h1,r,rfl,h2⟩:=h;refine⟨e,d,s,s',h1,rfl,λ_=>?_,λq=>(by cases q),λt=>by simp[dstsOf],rest d s' r h2⟩;simp only[List.take_zero,List.count_nil,Nat.zero_add,MZ];exact(sV _ _ _ _ _ _ h2).2.2.2
    |false =>
     obtain⟨d,h1,h2⟩:=h;exact⟨e,d,s,s,h1,(sV _ _ _ _ _ _ h2).2.2.2,λq=>(by cases q),λ_=>rfl,λt=>by simp[dstsOf],rest d s sts h2⟩
   |succ p =>
    simp only[MZ]at ho hb;have fin:∀d sn st',Tr P full bs os (putD e o0.dst d) sn e' st'→∀(ep:List D),(∀t,ep[t]?=if t∈dstsOf (os.take p)then e'[t]? else(putD e o0.dst d)[t]?)→∀t,ep[t]?=if t∈dstsOf ((o0::os).take (p+1))then e'[t]? else e[t]?:=by
     intro d sn st' h2 ep he t;rw[he t];have hd:t∈dstsOf ((o0::os).take (p+1))↔o0.dst=Qv t∨t∈dstsOf (os.take p):=by
      simp only[List.take_succ_cons,dstsOf,OV];split
      ·rename_i q;simp[q]
      ·rename_i u q;simp[q,eq_comm]
     by_cases c1:t∈dstsOf (os.take p)
     ·rw[if_pos c1,if_pos (hd.2 (.inr c1))]
     ·rw[if_neg c1];by_cases c2:o0.dst=Qv t
      ·rw[if_pos (hd.2 (.inl c2))];rw[va _ _ _ _ _ _ h2 t (hn'.2 t c2)]
      ·rw[if_neg (λq=>(hd.1 q).elim c2 c1),nX c2]
    cases b0 with
    |true =>
     obtain⟨d0,s',h1,r,rfl,h2⟩:=h;obtain⟨ep,d,sp,sp',k1,k2,k3,k4,k5,k6⟩:=ih os _ _ _ _ h2 hn'.1 p o b ho hb;exact⟨ep,d,sp,sp',k1,by simpa using k2,λq=>by simpa using k3 q,k4,fin d0 s' r h2 ep k5,λt ht hl=>k6 t ht (by rw[eX];exact hl)⟩
    |false =>
     obtain⟨d0,h1,h2⟩:=h;obtain⟨ep,d,sp,sp',k1,k2,k3,k4,k5,k6⟩:=ih os _ _ _ _ h2 hn'.1 p o b ho hb;exact⟨ep,d,sp,sp',k1,by simpa using k2,λq=>by simpa using k3 q,k4,fin d0 s sts h2 ep k5,λt ht hl=>k6 t ht (by rw[eX];exact hl)⟩
def BF(ops:List QG):List Nat→List Nat→Prop
 |done,[]=>∀i,i<ops.length→i∈done
 |done,i::π=>(∃o,ops[i]?=Qv o∧∀e∈o.after.toList,Region.binds .any e=Qy→e.on∈done)∧i ∉ done∧BF ops (i::done) π
def po(ops:List QG):Bool:=(MF ops.length).all λi=>match ops[i]? with
 |some o=>o.after.toList.all λe=>!Region.binds .any e ||decide (e.on<i)
 |none=>Qy
theorem ij{ops:List QG}(h:po ops=Qy){i:Nat}{o:QG}(hi:ops[i]?=Qv o):∀e∈o.after.toList,Region.binds .any e=Qy→e.on<i:=by
 intro e he hb;have hlt:i<ops.length:=by
  rcases Nb i ops.length with q|q
  ·exact q
  ·rw[MS q]at hi;cases hi
 have h1:=Mn.1 h i (MP.2 hlt);simp only[hi]at h1;have h2:=Mn.1 h1 e he;simpa[hb]using h2
theorem IJ{ops:Array QG}(hb:po ops.toList=Qy):∀(fuel t:Nat)(listed:Array Bool)(done:List Nat),listed.size=ops.size→(∀i,i<ops.size→listed.getD i Qy=decide (i∈done)) →
  (MF ops.size).countP (λi=>decide (i ∉ done))≤fuel→BF ops.toList done (Region.linearise.go .any ops fuel t listed []):=by
 intro fuel;induction fuel with
 |zero =>
  intro t listed done hs hl hf;simp only[Region.linearise.go,Qp,BF];intro i hi;simp only[Nat.le_zero,List.countP_eq_zero,MP,decide_eq_true_eq,Decidable.not_not]at hf;exact hf i (by simpa using hi)
 |succ fuel ih =>
  intro t listed done hs hl hf;have hgetF:∀i,i<ops.size→listed.getD i Qw=decide (i∈done):=λi hi=>by
   rw[←hl i hi];simp[PJ,hs,hi]
  have hmem:∀i,i∈Region.ready .any ops listed↔i<ops.size∧i ∉ done∧∃o,ops[i]?=Qv o∧∀e∈o.after.toList,Region.binds .any e=Qy→e.on∈done:=by
   intro i;unfold Region.ready;simp only[Nn,MP];constructor
   ·rintro⟨h1,h2⟩;simp only[Mh,MU,MV h1,NR,Nf]at h2;refine⟨h1,?_,ops[i],by simp[h1],?_⟩
    ·have:=h2.1;rw[hl i h1]at this;simpa using this
    ·intro e he hbe;have h3:=Qj.1 h2.2 e (by simpa using he);simp only[hbe,Mp,Mi]at h3;have hlt:e.on<ops.size:=by
      have:=ij hb (i:=i) (o:=ops[i]) (by simp[h1]) e he hbe
      omega
     rw[hgetF _ hlt]at h3;simpa using h3
   ·rintro⟨h1,h2,o,ho,h3⟩;refine⟨h1,?_⟩;have ho':ops[i]?=Qv o:=ho;simp only[ho',NR,Nf,Mh,MU];refine⟨by rw[hl i h1];simpa using h2,Qj.2 λe he=>?_⟩;cases hbe:Region.binds .any e with
    |false=>rfl
    |true =>
     simp only[Mp,Mi];have hlt:e.on<ops.size:=by
      have:=ij hb (i:=i) (o:=o) (by simpa using ho') e (by simpa using he) hbe
      omega
     rw[hgetF _ hlt];simpa using h3 e (by simpa using he) hbe
  simp only[Region.linearise.go];change BF ops.toList done (match (Region.ready .any ops listed)[t % (Region.ready .any ops listed).length]? with
   |some i=>Region.linearise.go .any ops fuel (t / (Region.ready .any ops listed).length) (listed.setIfInBounds i Qy) [i]
   |none=>[].reverse)
  cases hi:(Region.ready .any ops listed)[t % (Region.ready .any ops listed).length]? with
  |none =>
   have hnil:Region.ready .any ops listed=[]:=by
    cases hr:Region.ready .any ops listed with
    |nil=>rfl
    |cons x xs =>
     rw[hr]at hi;have hlt:t % (x::xs).length<(x::xs).length:=OU _ (by simp);simp at hi;simp at hlt;omega
   show ∀i,i<ops.toList.length→i∈done;have:∀n i,i<n→i<ops.size→i∈done:=by
    intro n;induction n with
    |zero=>intro i hi;omega
    |succ n ihn =>
     intro i hi hio;apply Decidable.byContradiction;intro hnd;have:i∈Region.ready .any ops listed:=(hmem i).2 ⟨hio,hnd,ops[i],by simp[hio],λe he hbe=>by
      have hlt:=ij hb (i:=i) (o:=ops[i]) (by simp[hio]) e he hbe;exact ihn e.on (by omega) (by omega)⟩
     rw[hnil]at this;cases this
   intro i hi;exact this (i+1) i (by omega) (by simpa using hi)
  |some i =>
   simp only[];rw[linearise_go_acc,List.reverse_singleton,List.singleton_append];obtain⟨h1,h2,h3⟩:=(hmem i).1 (Oc hi);refine⟨?_,h2,ih _ _ (i::done) (by simpa using hs) (λj hj=>?_) ?_⟩
   ·obtain⟨o,ho,h4⟩:=h3;exact⟨o,by simpa using ho,h4⟩
   ·by_cases hji:j=i
    ·subst hji;simp[PJ,hs,hj]
    ·have e1:(listed.setIfInBounds i Qy).getD j Qy=listed.getD j Qy:=by
      simp only[Array.getD_eq_getD_getElem?];rw[M0 (λq=>hji q.symm)]
     rw[e1,hl j hj];have:(j∈i::done)↔j∈done:=by simp[hji]
     simp[this]
   ·have hlt:(MF ops.size).countP (λj=>decide (j ∉ i::done))<(MF ops.size).countP (λj=>decide (j ∉ done)):=by
     have hsub:∀(l:List Nat),l.countP (λj=>decide (j ∉ i::done))≤l.countP (λj=>decide (j ∉ done)):=λl=>List.countP_mono_left λx _ hx=>by simp at hx⊢;exact hx.2
     have:∀(l:List Nat),i∈l→l.countP (λj=>decide (j ∉ i::done))<l.countP (λj=>decide (j ∉ done)):=by
      intro l;induction l with
      |nil=>intro h;cases h
      |cons x l ihl =>
       intro hm;rw[Qq,Qq];by_cases hx:i=x
       ·subst hx;have:=hsub l
        simp[h2];simp at this;omega
       ·have hl':=ihl ((Mj.1 hm).resolve_left hx);have hx':decide (x ∉ i::done)=decide (x ∉ done):=by simp[Ne.symm hx]
        rw[hx'];split<;>omega
     exact this _ (MP.2 h1)
    omega
abbrev Anc:=List (List Nat)
def Ls(ops:List QG):Anc:=ops.foldl (λacc o=>acc++[(o.after.toList.filter (Region.binds .any)).foldl (λl e=>(e.on::acc.getD e.on []).foldl (λl j=>if l.contains j then l else j::l) l) []]) []
def Ag(ops:List QG)(A:Anc):Bool:=(MF ops.length).all λi=>match ops[i]? with
 |some o=>(A.getD i []).all λa=>o.after.toList.any λe=>Region.binds .any e&&(a == e.on ||(A.getD e.on []).contains a)
 |none=>Qy
def AD(ops:List QG)(A:Anc):Bool:=(MF ops.length).all λi=>match ops[i]? with
 |some o =>
  let l:=m5 ops o
  (MF ops.length).all λj=>match (ops[j]?).bind (·.dst)with
   |some t=>!l.contains t ||(i != j&&((A.getD i []).contains j ||(A.getD j []).contains i))
   |none=>Qy
 |none=>Qy
def exts(A:Anc):Nat→List Nat→List (List Nat)
 |0,_=>[[]]
 |_+1,[]=>[[]]
 |f+1,i::l=>(i::l).flatMap λk=>if (i::l).any λj=>(A.getD k []).contains j then[]else(exts A f ((i::l).erase k)).map (k :: ·)
def tA:List Nat→Bool
 | []=>Qy
 |x::l=>!l.contains x&&tA l
structure Plan where
 ord:List Nat
 un:List (Nat×Nat)
def Ay(ops:List QG)(A:Anc)(effs:List Nat)(pl:Plan):Bool:=
 let E:=pl.ord.filter effs.contains
 tA pl.ord&&(MF ops.length).all pl.ord.contains&&pl.ord.all (· < ops.length) &&
 ((MF pl.ord.length).all λp=>match pl.ord[p]? with
  |some i=>(A.getD i []).all λa=>(pl.ord.take p).contains a
  |none=>Qy) &&
 ((MF pl.ord.length).all λp=>match pl.ord[p]? with
  |some i=>effs.contains i ||((ops[i]?).map (pureOp ·.op)).getD Qw ||
   (MF (E.length+1)).all λk =>
    k == ((pl.ord.take p).filter effs.contains).length ||pl.un.contains (i,k) ||
    !((MF E.length).all λq=>match E[q]? with
     |some j=>(!(A.getD i []).contains j ||decide (q<k))&&(!(A.getD j []).contains i ||decide (k≤q))
     |none=>Qy)
  |none=>Qy) &&
 (pl.un.all λ(i,_)=>match ops[i]? with
  |some o =>
   let l:=m5 ops o
   (MF ops.length).all λj=>match (ops[j]?).bind (·.dst)with
    |some t=>!l.contains t ||(A.getD i []).contains j
    |none=>Qy
  |none=>Qy)
def wa(ops:List QG)(effs:List Nat)(plans:List Plan):Bool:=
 let A:=Ls ops
 po ops&&Ag ops A&&AD ops A&&tA (dstsOf ops)&&plans.all (Ay ops A effs) &&
 (exts A ops.length ((MF ops.length).filter effs.contains)).all λo=>plans.any λpl=>pl.ord.filter effs.contains == o
theorem ri:∀{l:List Nat},tA l=Qy→l.Nodup:=by
 intro l;induction l with
 |nil=>intro _;exact .nil
 |cons x l ih =>
  intro h;simp only[tA,Mh,MU]at h;exact Nk.2 ⟨by simpa using h.1,ih h.2⟩
section
variable {ops:List QG} {A:Anc} {effs:List Nat}
def Je(A:Anc)(done:List Nat):Prop:=∀i∈done,∀a∈A.getD i [],a∈done
theorem px(hA:Ag ops A=Qy){done:List Nat}(hc:Je A done){i:Nat}(hi:∃o,ops[i]?=Qv o∧∀e∈o.after.toList,Region.binds .any e=Qy→e.on∈done):∀a∈A.getD i [],a∈done:=by
 obtain⟨o,ho,h⟩:=hi;intro a ha;have hlt:i<ops.length:=by
  rcases Nb i ops.length with q|q
  ·exact q
  ·rw[MS q]at ho;cases ho
 have h1:=Mn.1 hA i (MP.2 hlt);simp only[ho]at h1;obtain⟨e,he,h2⟩:=NT.1 (Mn.1 h1 a ha);simp only[Mh,N9,beq_iff_eq,NP]at h2;have hon:=h e he h2.1;rcases h2.2 with rfl|q
 ·exact hon
 ·exact hc _ hon a q
theorem py(hA:Ag ops A=Qy){done:List Nat}(hc:Je A done){i:Nat}(hi:∃o,ops[i]?=Qv o∧∀e∈o.after.toList,Region.binds .any e=Qy→e.on∈done):Je A (i::done):=by
 intro j hj a ha;rcases Mj.1 hj with rfl|hj
 ·exact .tail _ (px hA hc hi a ha)
 ·exact .tail _ (hc j hj a ha)
theorem FI(hA:Ag ops A=Qy)(p:Nat→Bool):∀(π done rem:List Nat)(f:Nat),BF ops done π→Je A done→rem.Nodup→(∀i,i∈rem↔i<ops.length∧p i=Qy∧i ∉ done)→rem.length≤f →
  π.filter p∈exts A f rem:=by
 intro π;induction π with
 |nil =>
  intro done rem f hl _ _ hr _;have:rem=[]:=by
   cases rem with
   |nil=>rfl
   |cons x l=>exact absurd (hl x ((hr x).1 (.head _)).1) ((hr x).1 (.head _)).2.2
  subst this;cases f<;>simp[exts]
 |cons i π ih =>
  intro done rem f hl hc hn hr hf;obtain⟨h1,h2,h3⟩:=hl;have hlt:i<ops.length:=by
   obtain⟨o,ho,_⟩:=h1;rcases Nb i ops.length with q|q
   ·exact q
   ·rw[MS q]at ho;cases ho
  cases hp:p i with
  |false =>
   rw[Pn (by simp[hp])];refine ih (i::done) rem f h3 (py hA hc h1) hn (λj=>?_) hf;rw[hr j];constructor
   ·rintro⟨a,b,c⟩;exact⟨a,b,by simp only[Mj,not_or];exact⟨λq=>(by rw[q,hp]at b;cases b),c⟩⟩
   ·rintro⟨a,b,c⟩;exact⟨a,b,λq=>c (.tail _ q)⟩
  |true =>
   rw[Po hp];have hi:i∈rem:=(hr i).2 ⟨hlt,hp,h2⟩;cases rem with
   |nil=>cases hi
   |cons x l =>
    cases f with
    |zero=>simp at hf
    |succ f =>
     simp only[exts];refine List.mem_flatMap.2 ⟨i,hi,?_⟩;have hno:((x::l).any λj=>(A.getD i []).contains j)=Qw:=by
      rw[List.any_eq_false];intro j hj q;exact((hr j).1 hj).2.2 (px hA hc h1 j (by simpa using q))
     rw[hno];simp only[MJ,if_false];refine MB.2 ⟨_,ih (i::done) ((x::l).erase i) f h3 (py hA hc h1) (hn.erase i) (λj=>?_) ?_,rfl⟩
     ·rw[hn.mem_erase_iff,hr j];simp only[Mj,not_or];constructor
      ·rintro⟨a,b,c,d⟩;exact⟨b,c,a,d⟩
      ·rintro⟨a,b,c,d⟩;exact⟨c,a,b,d⟩
     ·rw[List.length_erase_of_mem hi];omega
end
def I5(P:QA)(full:List QG)(o:QG)(e:List D)(s:St):Prop:=
 match guardOf full o.guard with
 |some Qx=>cR P o.op (val e) s λd s'=>(∀t,o.dst=Qv t→d=e.getD t .junk)∧s'=s
 |some (Qv (t,Qy))=>ifB (gdD Qy (e.getD t .junk)) (cR P o.op (val e) s λd s'=>(∀t,o.dst=Qv t→d=e.getD t .junk)∧s'=s) True
 |some (Qv (t,Qw))=>ifB (gdD Qw (e.getD t .junk)) True (cR P o.op (val e) s λd s'=>(∀t,o.dst=Qv t→d=e.getD t .junk)∧s'=s)
 |none=>False
def il(P:QA)(full:List QG)(e:List D)(sts:List St):List (Nat×Nat)→Prop
 | []=>True
 |(i,k)::un=>(match full[i]?,sts[k]? with
  |some o,Qv s=>I5 P full o e s
  |_,_=>False)∧il P full e sts un
theorem z8{full:List QG}{sts:List St}:∀{un:List (Nat×Nat)},il P full e sts un→∀i k,(i,k)∈un→∃o s,full[i]?=Qv o∧sts[k]?=Qv s∧I5 P full o e s:=by
 intro un;induction un with
 |nil=>intro _ i k h;cases h
 |cons x un ih =>
  obtain⟨i0,k0⟩:=x;intro h i k hm;rcases Mj.1 hm with q|hm
  ·cases q;have h1:=h.1;split at h1
   ·rename_i o s h2 h3;exact⟨o,s,h2,h3,h1⟩
   ·exact h1.elim
  ·exact ih h.2 i k hm
theorem Dp{full:List QG}(h:I5 P full o e s) :
  ∃d,ib P full o e s d s∧((∃t b,guardOf full o.guard=Qv (Qv (t,b))∧gdD b (e.getD t .junk)=.bool (!b)∧d=.tup [])∨∀t,o.dst=Qv t→d=e.getD t .junk):=by
 unfold I5 at h;have hO:∀d s',ib P full o e s d s'=match guardOf full o.guard with
  |some Qx=>tt P o (val e) s d s'
  |some (Qv (t,b))=>(gdD b (e.getD t .junk)=.bool b∧tt P o (val e) s d s')∨(gdD b (e.getD t .junk)=.bool (!b)∧d=.tup []∧s'=s)
  |none=>False:=λ_ _=>rfl
 cases hg:guardOf full o.guard with
 |none=>rw[hg]at h;exact h.elim
 |some x =>
  rw[hg]at h;cases x with
  |none =>
   obtain⟨d,s',h1,h2,rfl⟩:=iM h;exact⟨d,by rw[hO,hg];exact h1,.inr h2⟩
  |some x =>
   obtain⟨t,c⟩:=x;cases c with
   |true =>
    rcases lK h with ⟨q,h⟩|⟨q,h⟩
    ·obtain⟨d,s',h1,h2,rfl⟩:=iM h;exact⟨d,by rw[hO,hg];exact .inl ⟨q,h1⟩,.inr h2⟩
    ·exact⟨.tup [],by rw[hO,hg];exact .inr ⟨q,rfl,rfl⟩,.inl ⟨t,Qy,rfl,q,rfl⟩⟩
   |false =>
    rcases lK h with ⟨q,h⟩|⟨q,h⟩
    ·exact⟨.tup [],by rw[hO,hg];exact .inr ⟨q,rfl,rfl⟩,.inl ⟨t,Qw,rfl,q,rfl⟩⟩
    ·obtain⟨d,s',h1,h2,rfl⟩:=iM h;exact⟨d,by rw[hO,hg];exact .inl ⟨q,h1⟩,.inr h2⟩
theorem y6{full:List QG}{b:Bool}(h:ib P full o e s d s')(hg:guardOf full o.guard=Qv (Qv (t,b)))(hv:gdD b (e.getD t .junk)=.bool (!b)):d=.tup []:=by
 unfold ib at h;rw[hg]at h;rcases h with ⟨h1,_⟩|⟨_,h2,_⟩
 ·rw[h1]at hv;cases b<;>cases hv
 ·exact h2
section
variable {P:QA} {ops:List QG} {A:Anc} {effs:List Nat} {pl:Plan}
theorem eK{α:Type}{l:List α}{i:Nat}{x:α}(h:l[i]?=Qv x):i<l.length:=by
 rcases Nb i l.length with q|q
 ·exact q
 ·rw[MS q]at h;cases h
theorem fC{l:List Nat}:t∈dstsOf (l.map (ops.getD · default))↔∃j∈l,(ops.getD j default).dst=Qv t:=by
 simp only[dstsOf,PM,MB];constructor
 ·rintro⟨o,⟨j,hj,rfl⟩,h⟩;exact⟨j,hj,h⟩
 ·rintro⟨j,hj,h⟩;exact⟨_,⟨j,hj,rfl⟩,h⟩
theorem FQ(hn:tA (dstsOf ops)=Qy){i j t:Nat}(hi:i<ops.length)(hj:j<ops.length)(h1:(ops.getD i default).dst=Qv t)(h2:(ops.getD j default).dst=Qv t):i=j:=by
 replace hn:=ri hn
 induction ops generalizing i j with
 |nil=>simp at hi
 |cons o l ih =>
  have hsub:∀k,k<l.length→(l.getD k default).dst=Qv t→t∈dstsOf l:=λk hk h=>PM.2 ⟨l.getD k default,by simp[NC,C0 hk],h⟩;unfold dstsOf at hn;rw[OV]at hn;cases i with
  |zero =>
   cases j with
   |zero=>rfl
   |succ j =>
    simp only[M7,M3]at h1 h2;rw[h1]at hn;exact absurd (hsub j (by simpa using hj) h2) (Nk.1 hn).1
  |succ i =>
   cases j with
   |zero =>
    simp only[M7,M3]at h1 h2;rw[h2]at hn;exact absurd (hsub i (by simpa using hi) h1) (Nk.1 hn).1
   |succ j =>
    simp only[M3]at h1 h2;have hn':(List.filterMap (·.dst) l).Nodup:=by
     split at hn
     ·exact hn
     ·exact(Nk.1 hn).2
    rw[ih (by simpa using hi) (by simpa using hj) h1 h2 hn']
theorem p7(h:AD ops A=Qy){i j t:Nat}{o:QG}(hi:ops[i]?=Qv o)(hj:j<ops.length)(hd:(ops.getD j default).dst=Qv t)(ht:t∈m5 ops o):i≠j∧(j∈A.getD i []∨i∈A.getD j []):=by
 have h1:=Mn.1 h i (MP.2 (eK hi));simp only[hi]at h1;have h2:=Mn.1 h1 j (MP.2 hj);have hj':ops[j]?=Qv (ops.getD j default):=by simp[NC,C0 hj]
 rw[hj',Ni,hd]at h2;simpa[ht]using h2
structure PlanFacts (ops:List QG) (A:Anc) (effs:List Nat) (pl:Plan):Prop where
 nd:pl.ord.Nodup
 all:∀i,i<ops.length→i∈pl.ord
 lt:∀i∈pl.ord,i<ops.length
 anc:∀p i,pl.ord[p]?=Qv i→∀a∈A.getD i [],a∈pl.ord.take p
 st:∀p i,pl.ord[p]?=Qv i→effs.contains i=Qy∨((ops[i]?).map (pureOp ·.op)).getD Qw=Qy∨∀k,k≤(pl.ord.filter effs.contains).length →
  k=((pl.ord.take p).filter effs.contains).length∨(i,k)∈pl.un∨¬ ∀q j,(pl.ord.filter effs.contains)[q]?=Qv j→(j∈A.getD i []→q<k)∧(i∈A.getD j []→k≤q)
 rd:∀i k,(i,k)∈pl.un→∀o,ops[i]?=Qv o→∀j t,j<ops.length→(ops.getD j default).dst=Qv t→t∈m5 ops o→j∈A.getD i []
theorem CA(h:Ay ops A effs pl=Qy):PlanFacts ops A effs pl:=by
 unfold Ay at h;simp only[Mh]at h;obtain⟨⟨⟨⟨⟨h1,h2⟩,h3⟩,h4⟩,h5⟩,h6⟩:=h;refine⟨ri h1,λi hi=>by simpa using Mn.1 h2 i (MP.2 hi),λi hi=>by simpa using Mn.1 h3 i hi,λp i hp a ha=>?_,λp i hp=>?_,λi k hm o ho j t hj hd ht=>?_⟩
 ·have:=Mn.1 h4 p (MP.2 (eK hp))
  rw[hp]at this;simpa using Mn.1 this a ha
 ·have:=Mn.1 h5 p (MP.2 (eK hp))
  rw[hp]at this;simp only[N9]at this;rcases this with (q|q)|q
  ·exact .inl q
  ·exact .inr (.inl q)
  ·refine .inr (.inr λk hk=>?_);have:=Mn.1 q k (MP.2 (by omega))
   simp only[N9,beq_iff_eq,NP,MU]at this;rcases this with (q1|q1)|q1
   ·exact .inl q1
   ·exact .inr (.inl q1)
   ·refine .inr (.inr λhall=>?_);rw[List.all_eq_false]at q1;obtain⟨x,hx,q1⟩:=q1;apply q1;have hx':=MP.1 hx;rw[C0 hx'];obtain⟨a1,a2⟩:=hall x _ (C0 hx');simp only[Mh,N9,MU,decide_eq_true_eq];refine⟨?_,?_⟩
    ·by_cases c:(pl.ord.filter effs.contains)[x]∈A.getD i []
     ·exact .inr (a1 c)
     ·exact .inl (by simpa using c)
    ·by_cases c:i∈A.getD (pl.ord.filter effs.contains)[x] []
     ·exact .inr (a2 c)
     ·exact .inl (by simpa using c)
 ·have:=Mn.1 h6 (i,k) hm
  simp only[ho]at this;have:=Mn.1 this j (MP.2 hj)
  have hj':ops[j]?=Qv (ops.getD j default):=by simp[NC,C0 hj]
  rw[hj',Ni,hd]at this;simpa[ht]using this
end
theorem lX{ef:Nat→Bool}:∀(l:List Nat),(l.map ef).count Qy=(l.filter ef).length:=by
 intro l;induction l with
 |nil=>rfl
 |cons x l ih =>
  rw[M6,List.count_cons,ih];cases h:ef x<;>simp[h]
theorem pc{l:List Nat}(h:l.Nodup){i j x:Nat}(h1:l[i]?=Qv x)(h2:l[j]?=Qv x):i=j:=
 (List.getElem?_inj (eK h1) h).1 (h1.trans h2.symm)
theorem FR{ops:List QG}{A:Anc}{effs:List Nat}{pl:Plan}{e0 eF:List D}{s0:St}{sts:List St}
  (hA:Ag ops A=Qy) (hC:AD ops A=Qy) (hn:tA (dstsOf ops)=Qy) (hp:PlanFacts ops A effs pl)
  (hT:Tr P ops (pl.ord.map effs.contains) (pl.ord.map (ops.getD · default)) e0 s0 eF sts) (hc:il P ops eF sts pl.un) :
  ∀π done(e:List D)s k,BF ops done π→Je A done→(∀j∈done,j<ops.length)→e.length=e0.length →
   (∀t,e[t]?=if t∈dstsOf (done.map (ops.getD · default))then eF[t]? else e0[t]?)→sts[k]?=Qv s →
   π.filter effs.contains=(pl.ord.filter effs.contains).drop k→(∀j∈done,effs.contains j=Qy→∃q,q<k∧(pl.ord.filter effs.contains)[q]?=Qv j) →
   (∀q j,q<k→(pl.ord.filter effs.contains)[q]?=Qv j→j∈done) →
   cx P ops (π.map (ops.getD · default)) e s (λe' s'=>e'=eF∧sts[(pl.ord.filter effs.contains).length]?=Qv s'):=by
 have hlen:=sV _ _ _ _ _ _ hT;have hkeep:=va _ _ _ _ _ _ hT;have hndO:(dstsOf (pl.ord.map (ops.getD · default))).Nodup:=by
  have:∀(l:List Nat),l.Nodup→(∀i∈l,i<ops.length)→(dstsOf (l.map (ops.getD · default))).Nodup:=by
   intro l;induction l with
   |nil=>intro _ _;exact .nil
   |cons x l ih =>
    intro h1 h2;have hr:=ih (Nk.1 h1).2 λi hi=>h2 i (.tail _ hi);unfold dstsOf at hr⊢;rw[M6,OV];split
    ·exact hr
    ·rename_i t ht;refine Nk.2 ⟨λhm=>?_,hr⟩;obtain⟨j,hj,hd⟩:=fC.1 (show t∈dstsOf (l.map (ops.getD · default)) from hm);have:=FQ hn (h2 x (.head _)) (h2 j (.tail _ hj)) ht hd
     subst this;exact(Nk.1 h1).1 hj
  exact this _ hp.nd hp.lt
 have hat:=LP _ _ _ _ _ _ hT hndO;have hEn:(pl.ord.filter effs.contains).Nodup:=hp.nd.filter _;have hget:∀{i o},ops[i]?=Qv o→ops.getD i default=o:=λh=>by simp[NC,h]
 intro π;induction π with
 |nil =>
  intro done e s k hl _ hlt hel he hs hπ _ _;show e=eF∧_;refine⟨?_,?_⟩
  ·apply List.ext_getElem?;intro t;rw[he t];split
   ·rfl
   ·rename_i h;refine(hkeep t λhm=>h ?_).symm;obtain⟨j,hj,hd⟩:=fC.1 hm;exact fC.2 ⟨j,hl j (hp.lt j hj),hd⟩
  ·have h1:=eK hs;rw[hlen.2.1,lX]at h1;have h2:(pl.ord.filter effs.contains).length≤k:=List.drop_eq_nil_iff.1 hπ.symm;rw[show(pl.ord.filter effs.contains).length=k by omega];exact hs
 |cons i π ih =>
  intro done e s k hl hcl hlt hel he hs hπ hd1 hd2;obtain⟨h1,h2,h3⟩:=hl;obtain⟨o,ho,hedge⟩:=id h1;have hlti:=eK ho;have hAi:=px hA hcl h1;have hclos:=py hA hcl h1;obtain⟨p,hpl,hpi⟩:=Mx (hp.all i hlti);have hpi':pl.ord[p]?=Qv i:=by rw[C0 hpl,hpi]
  obtain⟨ep,d,sp,sp',k1,k2,k3,k4,k5,k6⟩:=hat p o (effs.contains i) (by rw[List.getElem?_map,hpi'];simp[ho]) (by rw[List.getElem?_map,hpi'];rfl);rw[←OB,lX]at k2 k3;rw[←OB]at k5;-- the slots that it m5 at hold the same
  have hslot:∀t∈m5 ops o,ep.getD t .junk=e.getD t .junk:=by
   intro t ht;have:ep[t]?=e[t]?:=by
    rw[k5 t,he t];have hiff:t∈dstsOf ((pl.ord.take p).map (ops.getD · default))↔t∈dstsOf (done.map (ops.getD · default)):=by
     rw[fC,fC];constructor
     ·rintro⟨j,hj,hd⟩;have hjo:j∈pl.ord:=List.mem_of_mem_take hj;obtain⟨hne,hor⟩:=p7 hC ho (hp.lt j hjo) hd ht;rcases hor with q|q
      ·exact⟨j,hAi j q,hd⟩
      ·exfalso;obtain⟨r,hr,hrj⟩:=Mx hj;have hr':r<p:=by rw[MN]at hr;omega
       rw[NV]at hrj;have hro:r<pl.ord.length:=by omega
       have hm:=hp.anc r j (by rw[C0 hro,hrj]) i q;obtain⟨u,hu,hui⟩:=Mx hm;rw[MN]at hu;rw[NV]at hui;have:=pc hp.nd (i:=u) (j:=p) (x:=i) (by rw[C0 (by omega),hui]) hpi'
       omega
     ·rintro⟨j,hj,hd⟩;obtain⟨hne,hor⟩:=p7 hC ho (hlt j hj) hd ht;rcases hor with q|q
      ·exact⟨j,hp.anc p i hpi' j q,hd⟩
      ·exact absurd (hcl j hj i q) h2
    by_cases c:t∈dstsOf (done.map (ops.getD · default))
    ·rw[if_pos c,if_pos (hiff.2 c)]
    ·rw[if_neg c,if_neg (λq=>c (hiff.1 q))]
   simp[NC,this]
  -- the slots after it
  have hafter:∀d',(∀t,o.dst=Qv t→t<e0.length→eF[t]?=Qv d')→∀t,(putD e o.dst d')[t]?=if t∈dstsOf ((i::done).map (ops.getD · default))then eF[t]? else e0[t]?:=by
   intro d' hd' t;have hm:t∈dstsOf ((i::done).map (ops.getD · default))↔o.dst=Qv t∨t∈dstsOf (done.map (ops.getD · default)):=by
    rw[fC,fC];constructor
    ·rintro⟨j,hj,hd⟩;rcases Mj.1 hj with rfl|hj
     ·rw[hget ho]at hd;exact .inl hd
     ·exact .inr ⟨j,hj,hd⟩
    ·rintro(q|⟨j,hj,hd⟩)
     ·exact⟨i,.head _,by rw[hget ho];exact q⟩
     ·exact⟨j,.tail _ hj,hd⟩
   by_cases c:o.dst=Qv t
   ·rw[if_pos (hm.2 (.inl c)),c];simp only[putD];by_cases hte:t<e.length
    ·rw[hd' t c (hel▸hte)];simp[hte]
    ·rw[MS (by simpa using Nat.le_of_not_lt hte),MS (by have:=hlen.1;omega)]
   ·rw[nX c,he t];by_cases c2:t∈dstsOf (done.map (ops.getD · default))
    ·rw[if_pos c2,if_pos (hm.2 (.inr c2))]
    ·rw[if_neg c2,if_neg (λq=>(hm.1 q).elim c c2)]
  have hlt':∀j∈i::done,j<ops.length:=λj hj=>by
   rcases Mj.1 hj with rfl|hj
   ·exact hlti
   ·exact hlt j hj
  rw[M6,hget ho];cases hef:effs.contains i with
  |true =>
   -- an effect: it comes where it came
   rw[Po hef]at hπ;have hEk:(pl.ord.filter effs.contains)[k]?=Qv i:=by
    have:((pl.ord.filter effs.contains).drop k)[0]?=Qv i:=by rw[←hπ];rfl
    simpa using this
   have hEp:(pl.ord.filter effs.contains)[((pl.ord.take p).filter effs.contains).length]?=Qv i:=by
    have hsplit:pl.ord=pl.ord.take p++i::pl.ord.drop (p+1):=by
     rw[←hpi,List.getElem_cons_drop,List.take_append_drop]
    conv=>lhs;rw[show pl.ord.filter effs.contains=(pl.ord.take p).filter effs.contains++i::(pl.ord.drop (p+1)).filter effs.contains by
     conv=>lhs;rw[hsplit]
     rw[List.filter_append,Po hef]]
    rw[My (K5 _)];simp
   have hk:((pl.ord.take p).filter effs.contains).length=k:=pc hEn hEp hEk;rw[hk]at k2 k3;rw[hs]at k2;cases k2;refine tY (jc hslot k1) (ih (i::done) _ sp' (k+1) h3 hclos hlt' (eX.trans hel) (hafter d k6) (k3 hef) ?_ ?_ ?_)
   ·have:(pl.ord.filter effs.contains).drop k=i::(pl.ord.filter effs.contains).drop (k+1):=by
     have a1:=eK hEk;rw[C0 a1]at hEk;rw[List.drop_eq_getElem_cons a1,NJ.inj hEk]
    rw[this]at hπ;exact(O7.inj hπ).2
   ·intro j hj hej;rcases Mj.1 hj with rfl|hj
    ·exact⟨k,by omega,hEk⟩
    ·obtain⟨q,h4,h5⟩:=hd1 j hj hej;exact⟨q,by omega,h5⟩
   ·intro q j hq hj;rcases Nb q k with c|c
    ·exact .tail _ (hd2 q j c hj)
    ·obtain rfl:q=k:=by omega
     rw[hEk]at hj;cases hj;exact .head _
  |false =>
   rw[Pn (by simp only[hef,MJ,not_false_eq_true])]at hπ;have cont:∀d',ib P ops o e s d' s→(∀t,o.dst=Qv t→t<e0.length→eF[t]?=Qv d')→cx P ops (o::π.map (ops.getD · default)) e s (λe' s'=>e'=eF∧sts[(pl.ord.filter effs.contains).length]?=Qv s'):=by
    intro d' q1 q2;refine tY q1 (ih (i::done) _ s k h3 hclos hlt' (eX.trans hel) (hafter d' q2) hs hπ ?_ ?_)
    ·intro j hj hej;rcases Mj.1 hj with rfl|hj
     ·rw[hef]at hej;cases hej
     ·exact hd1 j hj hej
    ·intro q j hq hj;exact .tail _ (hd2 q j hq hj)
   have hsp:=k4 hef;subst hsp;rcases hp.st p i hpi' with q|q|q
   ·rw[hef]at q;cases q
   ·rw[ho]at q;exact cont d (jc hslot (y9 (by simpa using q) k1 s)) k6
   ·have hkE:k≤(pl.ord.filter effs.contains).length:=by
     have h1:=eK hs;rw[hlen.2.1,lX]at h1;omega
    rcases q k hkE with q|q|q
    ·rw[←q,hs]at k2;cases k2;exact cont d (jc hslot k1) k6
    ·obtain⟨o',s',ho',hs',hchk⟩:=z8 hc i k q;rw[ho]at ho';cases ho';rw[hs]at hs';cases hs';obtain⟨d',hstep,hval⟩:=Dp hchk;have hsl:∀t∈m5 ops o,eF.getD t .junk=e.getD t .junk:=by
      intro t ht;have:eF[t]?=e[t]?:=by
       rw[he t];split
       ·rfl
       ·rename_i hnm;refine hkeep t λhm=>hnm ?_;obtain⟨j,hj,hd⟩:=fC.1 hm;exact fC.2 ⟨j,hAi j (hp.rd i k q o ho j t (hp.lt j hj) hd ht),hd⟩
      simp[NC,this]
     refine cont d' (jc hsl hstep) λt hdt htl=>?_;rcases hval with ⟨u,b,hg,hgv,rfl⟩|hval
     ·have hu:u∈m5 ops o:=by unfold m5;rw[hg];simp
      have:=y6 k1 hg (by rw[hslot u hu,←hsl u hu];exact hgv)
      rw[←this];exact k6 t hdt htl
     ·rw[k6 t hdt htl,hval t hdt];simp[NC,k6 t hdt htl]
    ·exfalso;apply q;intro r j hrj;refine⟨λha=>?_,λha=>?_⟩
     ·have hj:=hAi j ha;have hmem:j∈pl.ord.filter effs.contains:=Oc hrj;obtain⟨u,h4,h5⟩:=hd1 j hj (Nn.1 hmem).2;have:=pc hEn hrj h5
      omega
     ·apply Nat.le_of_not_lt;intro hlt2;exact h2 (hcl j (hd2 r j hlt2 hrj) i ha)
theorem uF{ro:Option Nat}{id:Nat}{ops:Array QG}(hm:P.follows .mixedOrders=Qy)(effs:List Nat)(plans:List Plan)(hok:wa ops.toList effs plans=Qy)
  (h:∀pl∈plans,jt P ops.toList (pl.ord.map effs.contains) (pl.ord.map (ops.toList.getD · default)) e s [] λe' s' ss=>il P ops.toList e' (ss.reverse++[s']) pl.un∧Q.f .normal e' s') :
  @AWI ro P (.region id ops Qy) e s Q:=by
 unfold wa at hok;simp only[Mh]at hok;obtain⟨⟨⟨⟨⟨o1,o2⟩,o3⟩,o4⟩,o5⟩,o6⟩:=hok;intro O0 a w g ha;refine wpIn_region_draw λt=>?_;simp only[Region.schedule,hm,Bool.true_or,if_true,Region.linearise];have hlin:BF ops.toList [] (Region.linearise.go .any ops ops.size t (Qt ops.size Qw) []):=
  IJ o1 ops.size t _ [] (by simp) (λi hi=>by simp[PJ,hi]) (by simp)
 generalize Region.linearise.go .any ops ops.size t (Qt ops.size Qw) []=π at hlin;have hmem:=FI o2 effs.contains π [] ((MF ops.toList.length).filter effs.contains) ops.toList.length hlin (λi hi=>by cases hi) ((List.nodup_range).filter _) (λi=>by simp) (by have:=List.length_filter_le effs.contains (MF ops.toList.length);simp at this⊢;exact this);obtain⟨pl,hpl,heq⟩:=NT.1 (Mn.1 o6 _ hmem);have heq:pl.ord.filter effs.contains=π.filter effs.contains:=by simpa using heq
 obtain⟨eF,sF,ss,sts,hT,hst,hchk,hQ⟩:=Ii _ _ _ _ _ (h pl hpl);simp only[Qp,List.nil_append]at hst;rw[hst]at hchk;have hp:=CA (Mn.1 o5 pl hpl);have hrun:=FR o2 o3 o4 hp hT hchk π [] e s 0 hlin (λi hi=>by cases hi) (λi hi=>by cases hi) rfl (λt=>by simp[dstsOf]) (sV _ _ _ _ _ _ hT).2.2.2 (by simp[heq]) (λj hj=>by cases hj) (λq j hq=>by omega);have hlast:sts[(pl.ord.filter effs.contains).length]?=Qv sF:=by
  have hl:=(sV _ _ _ _ _ _ hT).2.1;rw[lX]at hl;rw[←hst]at hl⊢;simp only[List.length_append,Qf,List.length_cons,List.length_nil]at hl;rw[My (by simp;omega)];simp only[Qf];rw[show(pl.ord.filter effs.contains).length-ss.length=0 by omega];rfl
 have hlt:∀i∈π,i<ops.size:=by
  have:∀(π done:List Nat),BF ops.toList done π→∀i∈π,i<ops.size:=by
   intro π;induction π with
   |nil=>intro _ _ i hi;cases hi
   |cons j π ih =>
    intro done hl i hi;rcases Mj.1 hi with rfl|hi
    ·obtain⟨o,ho,_⟩:=hl.1;have:=eK ho;simpa using this
    ·exact ih _ hl.2.2 i hi
  exact this _ _ hlin
 refine tX (O0:=O0) π (π.map (ops.toList.getD · default)) (by simp) (λi h1 h2=>?_) e s a _ g ha.mono hrun λa' w' g' e' s' hle ha' hk=>⟨trivial,e',s',g',hle,ha',?_⟩
 ·have:=hlt π[i] (List.getElem_mem h1)
  simp[NC,this]
 ·obtain⟨rfl,h2⟩:=hk;rw[hlast]at h2;cases h2;exact hQ
class TC where f:List D→St→List St→Prop
def tI(e:List D)(s:St)(ss:List St)[K:TC]:Prop:=K.f e s ss
def qe(P:QA)(full:List QG)(bs:List Bool)(os:List QG)(e:List D)(s:St)(ss:List St)[K:TC]:Prop:=jt P full bs os e s ss K.f
def Ax(P:QA)(full:List QG)(b:Bool)(bs:List Bool)(os:List QG)(dst:Option Tmp)(op:Op)(g:Option (Option (Nat×Bool)))(e:List D)(s:St)(ss:List St)[K:TC]:Prop:=
 match g with
 |some Qx=>cR P op (val e) s λd s'=>(b=Qy∨s'=s)∧jt P full bs os (putD e dst d) s' (bif b then s::ss else ss) K.f
 |some (Qv (t,Qy))=>ifB (gdD Qy (e.getD t .junk)) (cR P op (val e) s λd s'=>(b=Qy∨s'=s)∧jt P full bs os (putD e dst d) s' (bif b then s::ss else ss) K.f) (jt P full bs os (putD e dst (.tup [])) s (bif b then s::ss else ss) K.f)
 |some (Qv (t,Qw))=>ifB (gdD Qw (e.getD t .junk)) (jt P full bs os (putD e dst (.tup [])) s (bif b then s::ss else ss) K.f) (cR P op (val e) s λd s'=>(b=Qy∨s'=s)∧jt P full bs os (putD e dst d) s' (bif b then s::ss else ss) K.f)
 |none=>False
def revA:List St→List St→List St
 | [],acc=>acc
 |x::l,acc=>revA l (x::acc)
theorem Im:∀(l acc:List St),revA l acc=l.reverse++acc:=by
 intro l;induction l with
 |nil=>intro acc;rfl
 |cons x l ih=>intro acc;simp[revA,ih]
@[reducible] def wb (P:Program) (full:List Oper) (un:List (Nat × Nat)) (Q:QC):TC:=⟨fun e s ss=>il P full e (ss.reverse++[s]) un∧Q.f .normal e s⟩
@[reducible] def Ix (P:Program) (full:List Oper) (b:Bool) (bs:List Bool) (os:List Oper) (dst:Option Tmp) (e:List D) (s:St) (ss:List St) (K:TC):DC :=
 ⟨λd s'=>(b=Qy∨s'=s)∧jt P full bs os (putD e dst d) s' (bif b then s::ss else ss) K.f⟩
@[reducible] def DN (P:Program) (full:List Oper) (bs:List Bool) (os:List Oper) (e:List D) (s:St) (ss:List St) (K:TC):PC:=⟨jt P full bs os e s ss K.f⟩
@[reducible] def qC (x:Exit) (e:List D) (s:St) (Q:QC):PC:=⟨Q.f x e s⟩
@[reducible] def GY:PC:=⟨True⟩
@[reducible] def eqC (dst:Option Tmp) (e:List D) (s:St):DC:=⟨fun d s'=>(∀ t,dst=some t→d=e.getD t .junk)∧s'=s⟩
def Ki(P:QA)(g:Option (Option (Nat×Bool)))(dst:Option Tmp)(op:Op)(e:List D)(s:St):Prop:=
 match g with
 |some Qx=>cR P op (val e) s (eqC dst e s).f
 |some (Qv (t,Qy))=>ifB (gdD Qy (e.getD t .junk)) (cR P op (val e) s (eqC dst e s).f) True
 |some (Qv (t,Qw))=>ifB (gdD Qw (e.getD t .junk)) True (cR P op (val e) s (eqC dst e s).f)
 |none=>False
def chk1(P:QA)(full:List QG)(o:Option QG)(e:List D)(s:Option St):Prop:=
 match o,s with
 |some o,Qv s=>I5 P full o e s
 |_,_=>False
def kJ(ops:List QG)(bs:List Bool)(effs:List Nat)(un:List (Nat×Nat)):Bool:=wa ops effs [⟨MF ops.length,un⟩]&&bs == (MF ops.length).map effs.contains
theorem yU(ops:List QG):(MF ops.length).map (ops.getD · default)=ops:=by
 apply List.ext_getElem
 ·simp
 ·intro i h1 h2;simp[NC,C0 h2]
theorem lA{ro:Option Nat}{id:Nat}{ops:List QG}(hm:P.follows .mixedOrders=Qy)(bs:List Bool)(effs:List Nat)(un:List (Nat×Nat))(hok:kJ ops bs effs un=Qy)
  (h:@qe P ops bs ops e s [] (wb P ops un Q)):@AWI ro P (.region id ops.toArray Qy) e s Q:=by
 unfold kJ at hok;simp only[Mh,beq_iff_eq]at hok;refine uF hm effs [⟨MF ops.length,un⟩] hok.1 λpl hpl=>?_;obtain rfl:=List.mem_singleton.1 hpl;simp only[yU,←hok.2];exact h
theorem jK{ro:Option Nat}{id:Nat}{ops:List QG}(hm:P.follows .mixedOrders=Qy)(effs:List Nat)(plans:List Plan)(hok:wa ops effs plans=Qy)
  (h:∀pl∈plans,@qe P ops (pl.ord.map effs.contains) (pl.ord.map (ops.getD · default)) e s [] (wb P ops pl.un Q)):@AWI ro P (.region id ops.toArray Qy) e s Q:=
 uF hm effs plans hok h
theorem Id{full:List QG}{un:List (Nat×Nat)}{ss:List St}:@tI e s ss (wb P full un Q)=@needI (il P full e (revA ss [s]) un) (qC .normal e s Q):=by
 rw[Im];rfl
theorem FM:@dI d s' (eqC Qx e s)=(s'=s):=by
 show((∀t',(Qx:Option Tmp)=Qv t'→_)∧_)=_;apply propext;constructor
 ·exactλh=>h.2
 ·exactλh=>⟨(λt' ht=>by cases ht),h⟩
theorem vsDraw :
    (∀P full e s ss K,@qe P full [] [] e s ss K=@tI e s ss K) ∧
    (∀P full un Q e s ss,@tI e s ss (wb P full un Q)=@needI (il P full e (revA ss [s]) un) (qC .normal e s Q)) ∧
    (∀x e s Q,@pI (qC x e s Q)=@qI x e s Q) ∧
    (@pI GY=True) ∧
    (∀P full b bs os e s ss K dst op(ty:QB)pos after,
      @qe P full (b::bs) ({dst:=dst,op:=op,type:=ty,pos:=pos,after:=after,guard:=Qx}::os) e s ss K=@bz P op e s (Ix P full b bs os dst e s ss K)) ∧
    (∀P full b bs os e s ss K dst op(ty:QB)pos after j c,
      @qe P full (b::bs) ({dst:=dst,op:=op,type:=ty,pos:=pos,after:=after,guard:=Qv (j,c)}::os) e s ss K=@Ax P full b bs os dst op (guardOf full (Qv (j,c))) e s ss K) ∧
    (∀P full b bs os dst op t e s ss K,
      @Ax P full b bs os dst op (Qv (Qv (t,Qy))) e s ss K=ifI (gdD Qy (e.getD t .junk)) (tz P op e s (Ix P full b bs os dst e s ss K)) (DN P full bs os (putD e dst (.tup [])) s (bif b then s::ss else ss) K)) ∧
    (∀P full b bs os dst op t e s ss K,
      @Ax P full b bs os dst op (Qv (Qv (t,Qw))) e s ss K=ifI (gdD Qw (e.getD t .junk)) (DN P full bs os (putD e dst (.tup [])) s (bif b then s::ss else ss) K) (tz P op e s (Ix P full b bs os dst e s ss K))) ∧
    (∀P full bs os e s ss K,@pI (DN P full bs os e s ss K)=@qe P full bs os e s ss K) ∧
    (∀P full bs os dst e s ss K d s',
      @dI d s' (Ix P full Qy bs os dst e s ss K)=@qe P full bs os (putD e dst d) s' (s::ss) K) ∧
    (∀P full bs os dst e s ss K d s',
      @dI d s' (Ix P full Qw bs os dst e s ss K)=@needI (s'=s) (DN P full bs os (putD e dst d) s' ss K)) ∧
    (∀(s:St),(s=s)=True) ∧
    (∀acc,revA [] acc=acc)∧(∀(x:St)(l acc:List St),revA (x::l) acc=revA l (x::acc)) ∧
    (∀P full e sts,il P full e sts []=True) ∧
    (∀P full e sts i k un,il P full e sts ((i,k)::un)=(chk1 P full full[i]? e sts[k]?∧il P full e sts un)) ∧
    (∀P full e s dst op(ty:QB)pos after g,
      chk1 P full (Qv {dst:=dst,op:=op,type:=ty,pos:=pos,after:=after,guard:=g}) e (Qv s)=Ki P (guardOf full g) dst op e s) ∧
    (∀full,guardOf full Qx=Qv Qx) ∧
    (∀P dst op e s,Ki P (Qv Qx) dst op e s=@bz P op e s (eqC dst e s)) ∧
    (∀P dst op(e:List D)s t,Ki P (Qv (Qv (t,Qy))) dst op e s=ifI (gdD Qy (e.getD t .junk)) (tz P op e s (eqC dst e s)) GY) ∧
    (∀P dst op(e:List D)s t,Ki P (Qv (Qv (t,Qw))) dst op e s=ifI (gdD Qw (e.getD t .junk)) GY (tz P op e s (eqC dst e s))) ∧
    (∀t(e:List D)s s' d,@dI d s' (eqC (Qv t) e s)=(d=e.getD t .junk∧s'=s)) ∧
    (∀e s s' d,@dI d s' (eqC Qx e s)=(s'=s)) ∧
    (∀p,(True∧p)=p)∧(∀(p:Prop),(p∧True)=p)∧(∀(d:D),(d=d)=True) ∧
    (∀(x:St)(l:List St),(x::l)[0]?=Qv x)∧(∀(x:St)(l:List St)(n:Nat),(x::l)[n+1]?=l[n]?) ∧
    (∀(x:QG)(l:List QG),(x::l)[0]?=Qv x)∧(∀(x:QG)(l:List QG)(n:Nat),(x::l)[n+1]?=l[n]?):=by
  and_intros
  all_goals intros
  all_goals first
    |rfl
    |with_unfolding_all rfl
    |exact Id
    |exact FM
    |(show((Qw=Qy∨_)∧_)=(_∧_);simp only[MJ,false_or];rfl)
    |(show((Qy=Qy∨_)∧_)=_;simp only[true_or,true_and];rfl)
    | (show ((∀ t',Qv _=Qv t'→_)∧_)=_;apply propext;constructor
       · exactλh=>⟨h.1 _ rfl,h.2⟩
       · exactλh=>⟨λt' ht=>by cases ht;exact h.1,h.2⟩)
    | (show ((∀ t',Qx=Qv t'→_)∧_)=_;apply propext;constructor
       · exactλh=>h.2
       · exactλh=>⟨λt' ht=>by cases ht,h⟩)
    |(simp;done)
    |trace_state
theorem pJ(h:WRel w g s){b l:Nat}{r r':Loop}{bx:Box}(hl1:Live1 s b)(hb:g.B b=Qv l)(hh:w.heap[l]?=Qv (.loop r))
  (hbx:jh {w with heap:=w.heap.setIfInBounds l (.loop r')} g b bx) :
  WRel {w with heap:=w.heap.setIfInBounds l (.loop r')} g {s with boxes:=s.boxes.set b bx}:=by
 have hl:=h.dom b l hb;have hheap:∀(c:Nat)(x:Obj),w.heap[c]?=Qv x→(∀q,x≠Obj.loop q)→(w.heap.setIfInBounds l (.loop r'))[c]?=Qv x:=by
  intro c x hx hne;rw[M0]
  ·exact hx
  ·intro e;subst e;rw[hh]at hx;cases hx;exact hne _ rfl
 have hne:∀(c:Nat) ,c≠l→(w.heap.setIfInBounds l (Obj.loop r'))[c]?=w.heap[c]?:=λc hc=>M0 (by omega);have hcell:∀a,World.cell? {w with heap:=w.heap.setIfInBounds l (.loop r')} a=w.cell? a:=by
  intro a;simp only[World.cell?];by_cases e:a.block=l
  ·have hlt:=bL hh;rw[e,hh,M2];simp[hlt]
  ·rw[M0 (by omega)]
 refine {os:=h.os,tape:=h.tape,out:=h.out,fz:=λa ha=>?_,n:=by have:=h.n;simp only[Oq];exact this,old:=λc hc=>?_,m:=λc o v hm=>by rw[hcell];exact h.m c o v hm,box:=λi x hi=>?_,inj:=λj k c h1 h2 l1 l2=>h.inj j k c h1 h2 (l1.of_set hl1) (l2.of_set hl1),dom:=λi c hi=>by have:=h.dom i c hi;simp only[Oq,Oo];exact this,live:=λk hk=>?_,uniq:=h.uniq,ldom:=h.ldom,o:=λc hc=>⟨(h.o c hc).1,hheap c _ (h.o c hc).2 (by simp)⟩,nd:=h.nd,sz:=λc n hc=>by obtain⟨arr,T,fr,e1,e2⟩:=h.sz c n hc;exact⟨arr,T,fr,hheap c _ e1 (by simp),e2⟩}
 ·rw[←h.fz a ha];simp only[World.frozen?];by_cases e:a.block=l
  ·have hlt:=bL hh;rw[e,hh,M2];simp[hlt]
  ·rw[M0 (by omega)]
 ·show(w.heap.setIfInBounds l _)[c]?=_;rw[hne c (by have:=hl.2.1;omega)];exact h.old c hc
 ·by_cases e:i=b
  ·subst e;rw[MH hl.1]at hi;cases hi;exact hbx
  ·rw[ME (by omega)]at hi;have:=h.box i x hi
   cases x with
   |dead=>trivial
   |cells cs=>obtain⟨c,arr,T,fr,h1,h2,h3⟩:=this;exact⟨c,arr,T,fr,h1,hheap c _ h2 (by simp),h3⟩
   |map es=>obtain⟨c,en,k,h1,h2,h3⟩:=this;exact⟨c,en,k,h1,hheap c _ h2 (by simp),h3⟩
   |mapX es bs q=>obtain⟨c,en,k,h1,h2,h3⟩:=this;exact⟨c,en,k,h1,hheap c _ h2 (by simp),h3⟩
   |iter mb q sn=>obtain⟨r,m,h1,h2,h3⟩:=this;exact⟨r,m,h1,hheap r _ h2 (by simp),h3⟩
   |loop ps as bo e' st pe =>
    obtain⟨c,fn,t,df,h1,h2,h3⟩:=this;refine⟨c,fn,t,df,h1,?_,h3⟩;rw[hne c (by intro e2;subst e2;exact e (h.inj _ _ _ h1 hb ⟨_,hi,by simp⟩ hl1))];exact h2
 ·obtain⟨a,len,cap,sz,h1,h2⟩:=h.live k hk;refine⟨a,len,cap,sz,h1,λh3 h4=>?_⟩;obtain⟨c,off,arr,T,fr,h5,h6,h7,h8⟩:=h2 h3 h4;exact⟨c,off,arr,T,fr,h5,h6,hheap c _ h7 (by simp),h8⟩
variable {r:Loop}
theorem uM{o:Obj}(hh:w.heap[l]?=Qv (.loop r)):({w with heap:=w.heap.setIfInBounds l o}:QD).heap[l]?=Qv o:=by
 have hlt:=bL hh;simp[hlt]
theorem WRel.loopSt{w:QD}{g:G}{s:St}(h:WRel w g s){b l:Nat}{ps:List Tmp}{as bo:QH}{e:List D}{st st':LoopState}{pd pd':Option QH}{r:Loop}
  (hi:s.boxes[b]?=Qv (.loop ps as bo e st pd)) (hb:g.B b=Qv l) (hh:w.heap[l]?=Qv (.loop r)) :
  r.state=st∧r.pending=pd∧r.params=ps.toArray∧r.assign=as∧r.body=bo∧dy g e r.tmps ∧
  WRel {w with heap:=w.heap.setIfInBounds l (.loop {r with state:=st',pending:=pd'})} g {s with boxes:=s.boxes.set b (.loop ps as bo e st' pd')}:=by
 obtain⟨l',fn,t,df,h1,h2,h3,h4⟩:=h.box b _ hi;obtain rfl:l'=l:=by rw[hb]at h1;cases h1;rfl
 rw[hh]at h2;cases h2;refine⟨rfl,rfl,rfl,rfl,rfl,⟨h3,h4⟩,pJ h ⟨_,hi,by simp⟩ hb hh ?_⟩;exact⟨l',fn,t,df,hb,uM hh,h3,h4⟩
theorem ja(hh:w.heap[l]?=Qv (.loop r)):(Instr.getLoop l).run P w=.ok r w:=by
 simp[Instr.getLoop,getObj,Sem.run,hh]
theorem mU{o:Obj}(hh:w.heap[l]?=Qv (.loop r)):(setObj l o).run P w=.ok () {w with heap:=w.heap.setIfInBounds l o}:=by
 simp[setObj,Sem.run,hh]
theorem uN{j:Option QH}(hh:w.heap[l]?=Qv (.loop r)) :
  (Instr.endRound l j).run P w=.ok (.bool j.isNone) {w with heap:=w.heap.setIfInBounds l (.loop {r with state:=if j.isNone then .ready else .done,pending:=j})}:=by
 simp only[Instr.endRound,Sem.run_bind,ja hh,Result.andThen_ok,mU hh,Sem.run_pure]
theorem qy(hh:w.heap[l]?=Qv (.loop r))(hs:r.state=.ready) :
  (Instr.beginRound l).run P w=.ok () {w with heap:=w.heap.setIfInBounds l (.loop {r with state:=.busy})}:=by
 simp only[Instr.beginRound,Sem.run_bind,ja hh,Result.andThen_ok,mU hh,hs,Sem.run_pure]
def putArgs:List D→List Tmp→List D→List D
 |e,t::ts,d::ds=>putArgs (e.set t d) ts ds
 |e,_,_=>e
theorem yY:∀(ps:List Tmp)(ds:List D)(vs:List QF)(e:List D)(tmps:Array QF),dy g e tmps→ds.length=vs.length→(∀(i:Nat)(h1:i<ds.length)(h2:i<vs.length),R g ds[i] vs[i]) →
  dy g (putArgs e ps ds) ((ps.zip vs).foldl (λtmps(t,a)=>tmps.setIfInBounds t a) tmps):=by
 intro ps;induction ps with
 |nil=>intro ds vs e tmps h _ _;simpa[putArgs]using h
 |cons t ps ih =>
  intro ds vs e tmps h hl hR;cases ds with
  |nil=>cases vs with
   |nil=>simpa[putArgs]using h
   |cons v vs=>simp at hl
  |cons d ds =>
   cases vs with
   |nil=>simp at hl
   |cons v vs =>
    simp only[putArgs,List.zip_cons_cons,List.foldl_cons];refine ih ds vs _ _ ?_ (by simpa using hl) (λi h1 h2=>by have:=hR (i+1) (by simp;omega) (by simp;omega);simpa using this);exact dy.put (a:=⟨tmps,[]⟩) h (Qv t) (hR 0 (by simp) (by simp))
def G.addO(g:G)(b:Nat):G:={g with O:=λc=>g.O c∨c=b}
theorem vP:g.le (g.addO b):=⟨rfl,λ_ _ _ h=>h,λ_ _ h=>h,λ_ _ h=>h,λ_ h=>.inl h,λ_ _ h=>h⟩
theorem WRel.newMark{w:QD}{g:G}{s:St}(h:WRel w g s):WRel (w.alloc (.deferred (Qv []))) (g.addO w.heap.size) s:=by
 have h':=h.alloc (.deferred (Qv [])) rfl;refine {os:=h'.os,tape:=h'.tape,out:=h'.out,fz:=h'.fz,n:=h'.n,old:=h'.old,m:=h'.m,box:=λi bx hi=>(h'.box i bx hi).mono vP (λ_ _ h=>h),inj:=h'.inj,dom:=h'.dom,live:=h'.live,uniq:=h'.uniq,ldom:=h'.ldom,o:=?_,nd:=h'.nd,sz:=h'.sz};rintro b (hb|rfl)
 ·exact h'.o b hb
 ·exact⟨h.n,bq w _⟩
theorem qw{fn:QI}{tmps:Array QF}{ps:Array Tmp}{as bo:QH}(w:QD) :
  (Instr.enterLoop fn tmps ps as bo Qx).run P w=.ok (w.heap.size+1,[{target:=.collected w.heap.size,args:=#[]}])
   ((w.alloc (.deferred (Qv []))).alloc (.loop {state:=.ready,pending:=Qx,fn,tmps,params:=ps,assign:=as,body:=bo,defers:=w.heap.size})):=by
 simp[Instr.enterLoop,World.alloc_eq]
theorem ws(hh:w.heap[l]?=Qv (.loop r))(hs:r.state≠.busy) :
  (Instr.endLoop l).run P w=.ok r.pending {w with heap:=w.heap.setIfInBounds l (.loop {r with state:=.exhausted})}:=by
 have:(r.state == .busy)=Qw:=by cases h:r.state<;>first|rfl|exact absurd h hs
 simp only[Instr.endLoop,Sem.run_bind,ja hh,Result.andThen_ok,this,MJ,if_false,Sem.run_pure,mU hh]
def L0(P:QA)(ps:List Tmp)(as bo:QH)(Q:QK→List D→St→Prop)(e:List D)(b:Nat)(s1:St):Prop:=
 ∃st pd,s1.boxes[b]?=some (.loop ps as bo e st pd)∧st≠.busy∧match (generalizing:=false) pd with
   |none=>Q .normal e {s1 with boxes:=s1.boxes.set b .dead}
   |some c=>AWp Qx P c Q e {s1 with boxes:=s1.boxes.set b .dead}
theorem qA{f:QE}{ps:List Tmp}{as bo:QH}{Q:QK→List D→St→Prop}{k:QI}{fi ca:List D}
  (hf:val e f=.func (.func k) fi ca)
  (hs:aP P k (fi++([.yield s.boxes.length]++ca)) {s with boxes:=s.boxes++[.loop ps as bo e .ready Qx]} Z)
  (hz:∀r s1,Z r s1→L0 P ps as bo Q e s.boxes.length s1):AWp Qx P (.rangeFunc f ps.toArray as bo) Q e s:=by
 intro O0 a w g ha;refine wpIn_rangeFunc λfn _=>?_;have hfv:=kN ha.env f;rw[hf]at hfv;cases hav:a.eval f<;>rw[hav]at hfv<;>cases hfv;rename_i vf vc h1 hrf h2 hrc;have hw0:=ha.wr.newMark;obtain⟨hle1,hw1⟩:=hw0.newBox (.loop {state:=.ready,pending:=Qx,fn,tmps:=a.tmps,params:=ps.toArray,assign:=as,body:=bo,defers:=w.heap.size}) rfl (.loop ps as bo e .ready Qx)
  ⟨_,fn,a.tmps,w.heap.size,by simp[G.addB],bq _ _,ha.env.1,λj x y=>(ha.env.2 j x y).mono (vP.trans (ju (jX hw0 (K5 _))))⟩
 rw[World.size_alloc]at hle1 hw1;generalize hg1:(g.addO w.heap.size).addB s.boxes.length (w.heap.size+1)=g1 at hle1 hw1;have hle:g.le g1:=vP.trans hle1;have hB1:g1.B s.boxes.length=Qv (w.heap.size+1):=by rw[←hg1];simp[G.addB]
 have hO1:g1.O w.heap.size:=by rw[←hg1];exact .inr rfl
 have hall:tK g1 (fi++([.yield s.boxes.length]++ca)) (vf ++ #[.func (.yield (w.heap.size+1)) #[] #[]]++vc):=by
  refine⟨by simp;omega,λi x1 x2=>?_⟩;by_cases c1:i<fi.length
  ·rw[M9 c1,NI (by simp;omega),NI (by omega)];exact(hrf i c1 _).mono hle
  ·by_cases c2:i<fi.length+1
   ·rw[M1 (by omega),M9 (by simp;omega),NI (by simp;omega),ON (by omega)];have hi0:i-fi.length=0:=by omega
    have hi1:i-vf.size=0:=by omega
    simp only[hi0,hi1,List.getElem_cons_zero];exact .yield _ _ hB1
   ·rw[M1 (by omega),M1 (by simp;omega),ON (by simp;omega)];have e:i-fi.length-[D.yield s.boxes.length].length=i-(vf ++ #[Value.func (.yield (w.heap.size+1)) #[] #[]]).size:=by simp;omega
    simp only[e];exact(hrc _ _ _).mono hle
 obtain⟨hent,hsem⟩:=hs _ _ g1 hall hw1;have hen:=qw (P:=P) (fn:=fn) (tmps:=a.tmps) (ps:=ps.toArray) (as:=as) (bo:=bo) w;generalize(w.alloc (.deferred (Qv []))).alloc (.loop {state:=.ready,pending:=Qx,fn,tmps:=a.tmps,params:=ps.toArray,assign:=as,body:=bo,defers:=w.heap.size})=w1 at hw1 hsem hen;refine⟨w.heap.size+1,[{target:=.collected w.heap.size,args:=#[]}],w1,{target:=.fn (.func k) vc,args:=vf ++ #[.func (.yield (w.heap.size+1)) #[] #[]]},w1,k,vf ++ #[.func (.yield (w.heap.size+1)) #[] #[]]++vc,w1,hen,?_,λ_ _=>trivial,?_,λh=>(by cases h),?_⟩
 ·simp only[resolve,hav,Deferred.ofValue,Sem.run_pure];simp[Act.eval]
 ·simp only[invoke];exact hent _ _
 ·refine hsem.mono λen w' hbk=>?_;obtain⟨v,g2,r,s1,hZ,rfl,hle2,hw2,hRv⟩:=hbk;obtain⟨st,pd,hb,hst,hq⟩:=hz r s1 hZ;obtain⟨l',fn',tm,df,h3,h4,h5,h6⟩:=hw2.box _ _ hb;obtain rfl:l'=w.heap.size+1:=by rw[hle2.B _ _ hB1]at h3;cases h3;rfl
  refine⟨_,_,ws h4 hst,?_⟩;have hw3:=pJ (r':={state:=.exhausted,pending:=pd,fn:=fn',tmps:=tm,params:=ps.toArray,assign:=as,body:=bo,defers:=df}) (bx:=.dead) hw2 ⟨_,hb,by simp⟩ (hle2.B _ _ hB1) h4 trivial;have ha3:∀w4 s4,WRel w4 g2 s4→ARel O0 {a with defers:=[{target:=.collected w.heap.size,args:=#[]}]++a.defers} w4 g2 e s4:=by
   intro w4 s4 hw3;obtain⟨bs,hnd,hbs,hdf⟩:=ha.df;have hnew:∀c,g.O c→c≠w.heap.size:=λc hc e=>by have:=bL (ha.wr.o c hc).2;omega
   refine⟨ha.env.mono (hle.trans hle2),hw3,λb hb=>(hle.trans hle2).O b (ha.sub b hb),w.heap.size::bs,Nk.2 ⟨λhm=>hnew _ (hbs _ hm).1 rfl,hnd⟩,?_,by simp[hdf]⟩;intro b hb;rcases Mj.1 hb with rfl|hb
   ·exact⟨hle2.O _ hO1,λho=>hnew _ (ha.sub _ ho) rfl⟩
   ·exact⟨(hle.trans hle2).O _ (hbs b hb).1,(hbs b hb).2⟩
  cases pd with
  |none=>exact⟨trivial,e,_,g2,hle.trans hle2,ha3 _ _ hw3,hq⟩
  |some c=>exact wpIn_mono (hq O0 _ _ g2 (ha3 _ _ hw3)) λ_ _ _ hc=>jJ (hle.trans hle2) (λ_ _ _ h=>h) hc
structure Wf (s:St):Prop where
 nd:s.live.Nodup
 lt:∀k∈s.live,k<s.ctr
theorem WRel.wf{w:QD}{g:G}{s:St}(h:WRel w g s):Wf s:=⟨h.nd,λk hk=>by obtain⟨_,_,_,_,e1,_⟩:=h.live k hk;exact h.ldom k _ e1⟩
theorem ay.wf{P:QA}{f:QI}{args:List D}{s s':St}{r:D}(h:Wf s→ay P f args s r s'):ay P f args s r s':=λvs w g ha hw=>h hw.wf vs w g ha hw
inductive DrawX where
 |text (bs:List Bool) (un:List (Nat×Nat))
 |stop
 |meet
 |cut
 |cutT (bs:List Bool) (un:List (Nat×Nat))
abbrev Draws:=List (Nat×DrawX)
def findX(id:Nat):Draws→Option DrawX
 | []=>Qx
 |(i,x)::l=>bif i == id then Qv x else findX id l
def readOp:Op→Bool
 |.load .. => Qy
 |.lookup .. => Qy
 |.call {callee:=.builtin .len,args:=_,argTypes:=_}=>Qy
 |.call {callee:=.builtin .min,args:=_,argTypes:=_}=>Qy
 |.call {callee:=.builtin .max,args:=_,argTypes:=_}=>Qy
 |_=>Qw
def rR(os:List QG):List Bool:=os.map λo=>!(pureOp o.op ||readOp o.op)
def tp(bs:List Bool):List Nat:=(MF bs.length).filter λi=>bs.getD i Qw
def LY(x:Option DrawX)(ops:List QG):Bool:=
 match x with
 |none=>kJ ops (rR ops) (tp (rR ops)) []
 |some (.text bs un)=>kJ ops bs (tp bs) un
 |some .stop=>Qy
 |some .meet=>kJ ops (rR ops) (tp (rR ops)) []
 |some .cut=>kJ ops (rR ops) (tp (rR ops)) []
 |some (.cutT bs un)=>kJ ops bs (tp bs) un
def bw(X:Draws):QH→Bool
 |.seq a b=>bw X a&&bw X b
 |.cond _ a b=>bw X a&&bw X b
 |.block _ b=>bw X b
 |.loop b=>bw X b
 |.rangeFunc _ _ a b=>bw X a&&bw X b
 |.region id ops Qy=>LY (findX id X) ops.toList
 |_=>Qy
theorem Cv{ρ:QE→D}{op:Op}(hp:(pureOp op ||readOp op)=Qy)(h:evalOp P ρ s op=Qv (d,s')):s'=s:=by
 rcases N9 _ _▸hp with hp|hp
 ·exact(ub hp h).1
 ·unfold readOp at hp;split at hp
  ·simp only[evalOp]at h;obtain⟨x,_,e⟩:=map_some h;cases e;rfl
  ·simp only[evalOp]at h;obtain⟨x,_,e⟩:=map_some h;cases e;rfl
  ·simp only[evalOp,jG]at h;split at h;all_goals first
    |(obtain⟨x,_,e⟩:=map_some h;cases e;rfl)
    |(cases h;done)
    |simp_all
  ·simp only[evalOp,jG]at h;split at h;all_goals first
    |(obtain⟨x,_,e⟩:=map_some h;cases e;rfl)
    |(cases h;done)
    |simp_all
  ·simp only[evalOp,jG]at h;split at h;all_goals first
    |(obtain⟨x,_,e⟩:=map_some h;cases e;rfl)
    |(cases h;done)
    |simp_all
  ·cases hp
theorem oU{op:Op}{ρ:QE→D}{K:D→St→Prop}{b:Bool}(hb:b = !(pureOp op ||readOp op))(h:cR P op ρ s K):cR P op ρ s λd s'=>(b=Qy∨s'=s)∧K d s':=by
 cases b with
 |true =>
  unfold cR at h⊢;split
  ·obtain⟨d,s',h1,h2⟩:=h;exact⟨d,s',h1,.inl rfl,h2⟩
  ·rename_i hne;split at h
   ·rename_i f args ts;exact(hne f args ts rfl).elim
   ·obtain⟨d,s',h1,h2⟩:=cm.1 h;exact cm.2 ⟨d,s',h1,.inl rfl,h2⟩
 |false =>
  have hp:(pureOp op ||readOp op)=Qy:=by cases h2:(pureOp op ||readOp op)<;>simp_all
  unfold cR at h⊢;split
  ·rename_i f args ts;simp[pureOp,readOp]at hp
  ·rename_i hne;split at h
   ·rename_i f args ts;exact(hne f args ts rfl).elim
   ·obtain⟨d,s',h1,h2⟩:=cm.1 h;exact cm.2 ⟨d,s',h1,.inr (Cv hp h1),h2⟩
theorem vr{full:List QG}{K:List D→St→Prop}:∀(os:List QG)(e:List D)(s:St)(ss:List St),cx P full os e s K→jt P full (rR os) os e s ss (λe s _=>K e s):=by
 intro os;induction os with
 |nil=>intro e s ss h;exact h
 |cons o os ih =>
  intro e s ss h;have hst:∀{k k':D→St→Prop}{op ρ s},(∀d s,k d s→k' d s)→cR P op ρ s k→cR P op ρ s k':=by
   intro k k' op ρ s hk h;unfold cR at h⊢;split at h
   ·obtain⟨d,s',h1,h2⟩:=h;exact⟨d,s',h1,hk _ _ h2⟩
   ·obtain⟨d,s',h1,h2⟩:=cm.1 h;exact cm.2 ⟨d,s',h1,hk _ _ h2⟩
  simp only[rR,M6,jt,cx]at h⊢;generalize guardOf full o.guard=gx at h⊢;rcases gx with _|_|⟨t,_|_⟩
  ·exact h.elim
  ·exact oU rfl (hst (λd s' hk=>ih _ _ _ hk) h)
  ·exact eJ h (λh=>ih _ _ _ h) (λh=>oU rfl (hst (λd s' hk=>ih _ _ _ hk) h))
  ·exact eJ h (λh=>oU rfl (hst (λd s' hk=>ih _ _ _ hk) h)) (λh=>ih _ _ _ h)
theorem jB{full:List QG}{K K':List D→St→List St→Prop}(hK:∀e s ss,K e s ss→K' e s ss):∀(bs:List Bool)(os:List QG)(e:List D)(s:St)(ss:List St),jt P full bs os e s ss K→jt P full bs os e s ss K':=by
 intro bs;induction bs with
 |nil=>intro os e s ss h;cases os with
  |nil=>exact hK _ _ _ h
  |cons=>exact h.elim
 |cons b bs ih =>
  intro os e s ss h;cases os with
  |nil=>exact h.elim
  |cons o os =>
   have hst:∀{k k':D→St→Prop}{op ρ s},(∀d s,k d s→k' d s)→cR P op ρ s k→cR P op ρ s k':=by
    intro k k' op ρ s hk h;unfold cR at h⊢;split at h
    ·obtain⟨d,s',h1,h2⟩:=h;exact⟨d,s',h1,hk _ _ h2⟩
    ·obtain⟨d,s',h1,h2⟩:=cm.1 h;exact cm.2 ⟨d,s',h1,hk _ _ h2⟩
   simp only[jt]at h⊢;generalize guardOf full o.guard=gx at h⊢;rcases gx with _|_|⟨t,_|_⟩
   ·exact h.elim
   ·exact hst (λd s' hk=>⟨hk.1,ih _ _ _ _ hk.2⟩) h
   ·exact eJ h (λh=>ih _ _ _ _ h) (λh=>hst (λd s' hk=>⟨hk.1,ih _ _ _ _ hk.2⟩) h)
   ·exact eJ h (λh=>hst (λd s' hk=>⟨hk.1,ih _ _ _ _ hk.2⟩) h) (λh=>ih _ _ _ _ h)
def JD(x:Option DrawX)(ro:Option Nat)(P:QA)(id:Nat)(ops:Array QG)(Q:QK→List D→St→Prop)(e:List D)(s:St):Prop:=
 match x with
 |none=>cx P ops.toList ops.toList e s (Q .normal)
 |some (.text bs un)=>jt P ops.toList bs ops.toList e s [] λe s ss=>il P ops.toList e (ss.reverse++[s]) un∧Q .normal e s
 |some .stop=>AWp ro P (.region id ops Qy) Q e s
 |some .meet=>cx P ops.toList ops.toList e s (Q .normal)
 |some .cut=>cx P ops.toList ops.toList e s (Q .normal)
 |some (.cutT bs un)=>jt P ops.toList bs ops.toList e s [] λe s ss=>il P ops.toList e (ss.reverse++[s]) un∧Q .normal e s
def AWN(X:Draws)(ro:Option Nat)(P:QA)(c:QH)(Q:QK→List D→St→Prop)(e:List D)(s:St):Prop:=bw X c=Qy→AWp ro P c Q e s
def mg:Option DrawX→Bool
 |some .meet=>Qy
 |_=>Qw
def ru:Option DrawX→Bool
 |some .cut=>Qy
 |some (.cutT _ _)=>Qy
 |_=>Qw
def meets(X:Draws):QH→Bool
 |.seq (.region r _ _) _=>mg (findX r X)
 |.region r _ _=>ru (findX r X)
 |.block _ b=>meets X b
 |_=>Qw
def cwN(X:Draws)(ro:Option Nat)(P:QA):QH→(QK→List D→St→Prop)→List D→St→Prop
 |.skip,Q,e,s=>Q .normal e s
 |.label _,Q,e,s=>Q .normal e s
 |.exit id,Q,e,s=>Q (.exit id) e s
 |.ret,Q,e,s=>Q .ret e s
 |.seq a b,Q,e,s=>cwN X ro P a (thenQ (bif meets X a then AWN X ro P b Q else cwN X ro P b Q) Q) e s
 |.cond c a b,Q,e,s=>ifB (val e c) (cwN X ro P a Q e s) (cwN X ro P b Q e s)
 |.block id b,Q,e,s=>cwN X ro P b (mu id Q) e s
 |.region _ ops Qw,Q,e,s=>iW P ops.toList ops.toList e s (Q .normal)
 |.region id ops Qy,Q,e,s=>JD (findX id X) ro P id ops Q e s
 |c,Q,e,s=>AWN X ro P c Q e s
variable {X:Draws}
theorem nK{ro:Option Nat}(hm:P.follows .mixedOrders=Qy)(c:QH):bw X c=Qy→∀(Q:QK→List D→St→Prop)(e:List D)(s:St),cwN X ro P c Q e s→AWp ro P c Q e s:=by
 induction c with
 |skip=>intro _ Q e s h;exact yc h
 |label l=>intro _ Q e s h;exact uD h
 |exit id=>intro _ Q e s h;exact yd h
 |ret=>intro _ Q e s h;exact BB h
 |seq a b iha ihb =>
  intro hd Q e s h;simp only[bw,Mh]at hd;simp only[cwN]at h;refine vO ((iha hd.1 _ e s h).mono (kg λe s h=>?_));cases hme:meets X a<;>rw[hme]at h
  ·exact ihb hd.2 Q e s h
  ·exact h hd.2
 |cond c a b iha ihb =>
  intro hd Q e s h;simp only[bw,Mh]at hd;exact sP (eJ h (iha hd.1 Q e s) (ihb hd.2 Q e s))
 |block id b ih=>intro hd Q e s h;exact uE (ih hd _ e s h)
 |region id ops draw =>
  intro hd Q e s h;cases draw with
  |false=>exact wL h
  |true =>
   simp only[cwN]at h;simp only[bw]at hd;unfold JD at h;cases hx:findX id X with
   |none =>
    rw[hx]at h hd;exact lA (Q:=⟨Q⟩) hm _ _ [] hd (jB (λe s ss hk=>⟨trivial,hk⟩) _ _ _ _ _ (vr _ e s [] h))
   |some x =>
    rw[hx]at h hd;cases x with
    |stop=>exact h
    |meet=>exact lA (Q:=⟨Q⟩) hm _ _ [] hd (jB (λe s ss hk=>⟨trivial,hk⟩) _ _ _ _ _ (vr _ e s [] h))
    |cut=>exact lA (Q:=⟨Q⟩) hm _ _ [] hd (jB (λe s ss hk=>⟨trivial,hk⟩) _ _ _ _ _ (vr _ e s [] h))
    |cutT bs un=>exact lA (Q:=⟨Q⟩) hm bs _ un hd h
    |text bs un=>exact lA (Q:=⟨Q⟩) hm bs _ un hd h
 |_=>intro hd Q e s h;exact h hd
def fI(X:Draws)(ro:Option Nat)(P:QA)(c:QH)(e:List D)(s:St)[Q:QC]:Prop:=cwN X ro P c Q.f e s
def eP(X:Draws)(ro:Option Nat)(P:QA)(c:QH)(e:List D)(s:St)[Q:QC]:Prop:=AWN X ro P c Q.f e s
def D7(x:Option DrawX)(ro:Option Nat)(P:QA)(id:Nat)(ops:List QG)(e:List D)(s:St)[Q:QC]:Prop:=JD x ro P id ops.toArray Q.f e s
@[reducible] def vU (X:Draws) (ro:Option Nat) (P:Program) (b:Code) (Q:QC):QC:=⟨thenQ (cwN X ro P b Q.f) Q.f⟩
@[reducible] def An (X:Draws) (ro:Option Nat) (P:Program) (b:Code) (Q:QC):QC:=⟨thenQ (AWN X ro P b Q.f) Q.f⟩
def D5(m:Bool)(X:Draws)(ro:Option Nat)(P:QA)(a b:QH)(e:List D)(s:St)[Q:QC]:Prop:=cwN X ro P a (thenQ (bif m then AWN X ro P b Q.f else cwN X ro P b Q.f) Q.f) e s
@[reducible] def kQ (X:Draws) (ro:Option Nat) (P:Program) (b:Code) (Q:QC):QC:=⟨thenQ (AWN X ro P (.loop b) Q.f) Q.f⟩
@[reducible] def LI (X:Draws) (ro:Option Nat) (P:Program) (c:Code) (e:List D) (s:St) (Q:QC):PC:=⟨cwN X ro P c Q.f e s⟩
theorem vsN :
  (∀X ro P Q e s,@fI X ro P .skip e s Q=@qI .normal e s Q) ∧
  (∀X ro P Q e s l,@fI X ro P (.label l) e s Q=@qI .normal e s Q) ∧
  (∀X ro P Q e s l,@fI X ro P (.exit l) e s Q=@qI (.exit l) e s Q) ∧
  (∀X ro P Q e s,@fI X ro P .ret e s Q=@qI .ret e s Q) ∧
  (∀X ro P Q e s a b,@fI X ro P (.seq a b) e s Q=@D5 (meets X a) X ro P a b e s Q) ∧
  (∀X ro P Q e s a b,@D5 Qw X ro P a b e s Q=@fI X ro P a e s (vU X ro P b Q)) ∧
  (∀X ro P Q e s b,@qI .normal e s (An X ro P b Q)=@eP X ro P b e s Q) ∧
  (∀X ro P Q e s b id,@qI (.exit id) e s (An X ro P b Q)=@qI (.exit id) e s Q) ∧
  (∀X ro P Q e s b,@qI .ret e s (An X ro P b Q)=@qI .ret e s Q) ∧
  (∀X r o d c,meets X (.seq (.region r o d) c)=mg (findX r X)) ∧
  (∀X a b c,meets X (.seq (.seq a b) c)=Qw)∧(∀(X:Draws)(i:Nat)(a c:QH),meets X (.seq (.block i a) c)=Qw)∧(∀(X:Draws)(x:QE)(a b c:QH),meets X (.seq (.cond x a b) c)=Qw) ∧
  (∀X a c,meets X (.seq (.loop a) c)=Qw)∧(∀(X:Draws)(c:QH),meets X (.seq .skip c)=Qw)∧(∀(X:Draws)(l:Nat)(c:QH),meets X (.seq (.label l) c)=Qw) ∧
  (∀X f ps a b c,meets X (.seq (.rangeFunc f ps a b) c)=Qw) ∧
  (∀X r o d,meets X (.region r o d)=ru (findX r X))∧(ru Qx=Qw)∧(ru (Qv .meet)=Qw)∧(ru (Qv .stop)=Qw)∧(∀(bs:List Bool)(un:List (Nat×Nat)),ru (Qv (.text bs un))=Qw)∧(ru (Qv .cut)=Qy)∧(∀(bs:List Bool)(un:List (Nat×Nat)),ru (Qv (.cutT bs un))=Qy)∧(mg (Qv .cut)=Qw)∧(∀(bs:List Bool)(un:List (Nat×Nat)),mg (Qv (.cutT bs un))=Qw)∧(∀(X:Draws)(i:Nat)(a:QH),meets X (.block i a)=meets X a)∧(∀(X:Draws)(x:QE)(a b:QH),meets X (.cond x a b)=Qw) ∧
  (∀X a,meets X (.loop a)=Qw)∧(∀(X:Draws),meets X .skip=Qw)∧(∀(X:Draws)(l:Nat),meets X (.label l)=Qw)∧(∀(X:Draws)(l:Nat),meets X (.exit l)=Qw)∧(∀(X:Draws),meets X .ret=Qw) ∧
  (∀X f ps a b,meets X (.rangeFunc f ps a b)=Qw) ∧
  (mg Qx=Qw)∧(mg (Qv .meet)=Qy)∧(mg (Qv .stop)=Qw)∧(∀(bs:List Bool)(un:List (Nat×Nat)),mg (Qv (.text bs un))=Qw) ∧
  (∀X ro P Q e s c a b,@fI X ro P (.cond c a b) e s Q=ifI (val e c) (LI X ro P a e s Q) (LI X ro P b e s Q)) ∧
  (∀X ro P Q e s id b,@fI X ro P (.block id b) e s Q=@fI X ro P b e s (qn id Q)) ∧
  (∀X ro P Q e s id(ops:List QG),@fI X ro P (.region id ops.toArray Qw) e s Q=@lF P ops ops e s (rh Q)) ∧
  (∀X ro P Q e s id(ops:List QG),@fI X ro P (.region id ops.toArray Qy) e s Q=@D7 (findX id X) ro P id ops e s Q) ∧
  (∀ro P Q e s id ops,@D7 Qx ro P id ops e s Q=@yQ P ops ops e s (rh Q)) ∧
  (∀ro P Q e s id ops bs un,@D7 (Qv (.text bs un)) ro P id ops e s Q=@qe P ops bs ops e s [] (wb P ops un Q)) ∧
  (∀ro P Q e s id(ops:List QG),@D7 (Qv .stop) ro P id ops e s Q=@AWI ro P (.region id ops.toArray Qy) e s Q) ∧
  (∀ro P Q e s id ops,@D7 (Qv .meet) ro P id ops e s Q=@yQ P ops ops e s (rh Q)) ∧
  (∀ro P Q e s id ops,@D7 (Qv .cut) ro P id ops e s Q=@yQ P ops ops e s (rh Q)) ∧
  (∀ro P Q e s id ops bs un,@D7 (Qv (.cutT bs un)) ro P id ops e s Q=@qe P ops bs ops e s [] (wb P ops un Q)) ∧
  (∀id,findX id []=Qx) ∧
  (∀id i x l,findX id ((i,x)::l)=bif i == id then Qv x else findX id l) ∧
  (∀X ro P Q e s b,@fI X ro P (.loop b) e s Q=@eP X ro P (.loop b) e s Q) ∧
  (∀X ro P Q e s f ps a b,@fI X ro P (.rangeFunc f ps a b) e s Q=@eP X ro P (.rangeFunc f ps a b) e s Q) ∧
  (∀X ro P Q e s b,@qI .normal e s (vU X ro P b Q)=@fI X ro P b e s Q) ∧
  (∀X ro P Q e s b id,@qI (.exit id) e s (vU X ro P b Q)=@qI (.exit id) e s Q) ∧
  (∀X ro P Q e s b,@qI .ret e s (vU X ro P b Q)=@qI .ret e s Q) ∧
  (∀X ro P Q e s b,@qI .normal e s (kQ X ro P b Q)=@eP X ro P (.loop b) e s Q) ∧
  (∀X ro P Q e s b id,@qI (.exit id) e s (kQ X ro P b Q)=@qI (.exit id) e s Q) ∧
  (∀X ro P Q e s b,@qI .ret e s (kQ X ro P b Q)=@qI .ret e s Q) ∧
  (∀X ro P c e s Q,@pI (LI X ro P c e s Q)=@fI X ro P c e s Q) ∧
  (∀(α:Type)(x y:α),(bif Qy then x else y)=x)∧(∀(α:Type)(x y:α),(bif Qw then x else y)=y):=by
 and_intros
 all_goals intros
 all_goals first
  |rfl
  |with_unfolding_all rfl
  |trace_state
theorem ev{ro:Option Nat}(hm:P.follows .mixedOrders=Qy)(h:@fI X ro P c e s Q):@eP X ro P c e s Q:=λhd=>nK hm c hd _ e s h
theorem ye{ro:Option Nat}(h:bw X c=Qy→@AWI ro P c e s Q):@eP X ro P c e s Q:=h
theorem et{ro:Option Nat}{b:QH}(hm:P.follows .mixedOrders=Qy)(h:@fI X ro P b e s (kQ X ro P b Q)):@eP X ro P (.loop b) e s Q:=by
 intro hd;exact F0 ((nK hm b hd _ e s h).mono (kg λe s h=>h hd))
theorem ae{ro:Option Nat}(ks:List Nat)(h:@eP X ro P c (keep ks e) s Q):@eP X ro P c e s Q:=λhd=>F1 ks (h hd)
theorem aC{ro:Option Nat}{b:QH}(hm:P.follows .mixedOrders=Qy)(n:Nat)(Inv:Nat→List D→St→Prop)
  (step:∀k e s,k<n→Inv k e s→(∀e' s',Inv (k+1) e' s'→@eP X ro P (.loop b) e' s' Q)→@fI X ro P b e s (kQ X ro P b Q))
  (last:∀e s,Inv n e s→@fI X ro P b e s (kQ X ro P b Q)):∀k e s,k≤n→Inv k e s→@eP X ro P (.loop b) e s Q:=by
 have key:∀j k e s,k+j=n→Inv k e s→@eP X ro P (.loop b) e s Q:=by
  intro j;induction j with
  |zero =>
   intro k e s hk hI;obtain rfl:k=n:=by omega
   exact et hm (last e s hI)
  |succ j ih=>intro k e s hk hI;exact et hm (step k e s (by omega) hI λe' s' hI'=>ih (k+1) e' s' (by omega) hI')
 intro k e s hk hI;exact key (n-k) k e s (by omega) hI
theorem cf{ro:Option Nat}{b:QH}(hm:P.follows .mixedOrders=Qy)(n:Nat)(E:Nat→List D)(S:Nat→St)(Inv:Nat→Prop)
  (step:∀k,k<n→Inv k→(Inv (k+1)→@eP X ro P (.loop b) (E (k+1)) (S (k+1)) Q)→@fI X ro P b (E k) (S k) (kQ X ro P b Q))
  (last:Inv n→@fI X ro P b (E n) (S n) (kQ X ro P b Q)):∀k,k≤n→Inv k→@eP X ro P (.loop b) (E k) (S k) Q:=by
 intro k hk hI;refine aC hm n (λk e s=>e=E k∧s=S k∧Inv k) ?_ ?_ k _ _ hk ⟨rfl,rfl,hI⟩
 ·rintro k e s hk ⟨rfl,rfl,hI⟩ ih;exact step k hk hI λhI'=>ih _ _ ⟨rfl,rfl,hI'⟩
 ·rintro e s ⟨rfl,rfl,hI⟩;exact last hI
theorem ay.introN {P:Program} (X:Draws) {f:FuncId} {fn:Func} {c:Code} {args:List D} {s s':St} {r:D} (hf:P.funcs[f]? = some fn) (hb:fn.body = some c) (hn:(fn.name == "runtime.NumGoroutine") = false) (hm:P.follows .mixedOrders = true) (hd:bw X c = true) (rs:List ResultVar) (nt:Nat) (hr:fn.results.toList = rs) (hnt:fn.ntmps = nt)
  (h:@fI X Qx P c (args++MD (nt-args.length) .junk) s (lu P rs s r s')):ay P f args s r s':=by
 subst hr hnt;unfold lu at h;exact ay.intro hf hb hn (nK hm c hd _ _ _ h)
def JE(X:Draws)(P:QA)(ps:List Tmp)(as bo:QH)(e:List D)(b:Nat)(s1:St)[Q:QC]:Prop:=
 ∃st pd,s1.boxes[b]?=some (.loop ps as bo e st pd)∧st≠.busy∧match (generalizing:=false) pd with
   |none=>@qI .normal e ⟨s1.boxes.set b .dead,s1.live,s1.ctr⟩ Q
   |some c=>@cwI Qx P c e ⟨s1.boxes.set b .dead,s1.live,s1.ctr⟩ Q
theorem la{f:QE}{ps:List Tmp}{as bo:QH}{n:Nat}{k:QI}{fi ca:List D}
  (hf:val e f=.func (.func k) fi ca)
  (hs:bw X as=Qy→bw X bo=Qy→aP P k (fi++([.yield B.length]++ca)) ⟨B++[.loop ps as bo e .ready Qx],L,n⟩ Z)
  (hz:∀r s1,Z r s1→@JE X P ps as bo e B.length s1 Q):@eP X Qx P (.rangeFunc f ps.toArray as bo) e ⟨B,L,n⟩ Q:=by
 intro hd;simp only[bw,Mh]at hd;refine qA (s:=⟨B,L,n⟩) hf (hs hd.1 hd.2) λr s1 hZ=>?_;obtain⟨st,pd,h1,h2,h3⟩:=hz r s1 hZ;refine⟨st,pd,h1,h2,?_⟩;cases pd with
 |none=>exact h3
 |some c=>exact Ma c _ _ _ h3
theorem AWN.mono{X:Draws}{ro:Option Nat}{P:QA}{c:QH}{Q Q':QK→List D→St→Prop}{e:List D}{s:St}(h:AWN X ro P c Q e s)(hQ:∀x e s,Q x e s→Q' x e s):AWN X ro P c Q' e s:=λhd=>(h hd).mono hQ
theorem sL{ro:Option Nat}(c:QH):∀{Q Q':QK→List D→St→Prop}{e:List D}{s:St},cwN X ro P c Q e s→(∀x e s,Q x e s→Q' x e s)→cwN X ro P c Q' e s:=by
  induction c with
  |skip=>intro Q Q' e s h hQ;exact hQ _ _ _ h
  |label l=>intro Q Q' e s h hQ;exact hQ _ _ _ h
  |exit id=>intro Q Q' e s h hQ;exact hQ _ _ _ h
  |ret=>intro Q Q' e s h hQ;exact hQ _ _ _ h
  |seq a b iha ihb =>
    intro Q Q' e s h hQ;simp only[cwN]at h⊢;refine iha h λx e s hx=>?_;cases x<;>simp only[thenQ]at hx⊢ <;> first
      |exact hQ _ _ _ hx
      | (cases hme : meets X a <;> rw [hme] at hx <;> first
           |exact ihb hx hQ
           |exact AWN.mono hx hQ)
  |cond c a b iha ihb=>intro Q Q' e s h hQ;exact eJ h (λh=>iha h hQ) (λh=>ihb h hQ)
  |block id b ih =>
    intro Q Q' e s h hQ;refine ih h λx e s hx=>?_;cases x with
    |exit id' =>
      simp only[mu]at hx⊢;split
      · rename_i he;rw[if_pos he]at hx;exact hQ _ _ _ hx
      · rename_i he;rw[if_neg he]at hx;exact hQ _ _ _ hx
    |_=>exact hQ _ _ _ hx
  |region id ops draw =>
    intro Q Q' e s h hQ;cases draw with
    |false=>exact Cr (λe s=>hQ _ e s) _ _ _ h
    |true =>
      simp only[cwN]at h⊢;unfold JD at h⊢;generalize findX id X=fx at h⊢;rcases fx with _|⟨bs,un⟩|_|_|_|⟨bs,un⟩
      · exact lh (λe s=>hQ _ e s) _ _ _ h
      · exact jB (λe s ss hk=>⟨hk.1,hQ _ _ _ hk.2⟩) _ _ _ _ _ h
      · exact AWp.mono h hQ
      · exact lh (λe s=>hQ _ e s) _ _ _ h
      · exact lh (λe s=>hQ _ e s) _ _ _ h
      · exact jB (λe s ss hk=>⟨hk.1,hQ _ _ _ hk.2⟩) _ _ _ _ _ h
  |_=>intro Q Q' e s h hQ;exact AWN.mono h hQ
@[reducible] def meetC (I:List D→St→Prop):QC:=⟨fun x e s=>x=.normal∧I e s⟩
theorem aE{I:List D→St→Prop}(h:I e s):@qI .normal e s (meetC I):=⟨rfl,h⟩
theorem bn{ro:Option Nat}{a b:QH}(hm:P.follows .mixedOrders=Qy)(ks:List Nat)(E:List D)(I:St→Prop)
  (h:@fI X ro P a e s (meetC λe s=>keep ks e=E∧I s)) (hI:∀s,I s→@fI X ro P b E s Q):@D5 Qy X ro P a b e s Q:=by
 refine sL a h λx e s hx=>?_;obtain⟨rfl,h1,h2⟩:=hx;exact ae ks (by rw[h1];exact ev hm (hI s h2))
theorem BC{ro:Option Nat}(Q0:QK→List D→St→Prop)(h:@eP X ro P c e s ⟨Q0⟩)(hQ:∀x e s,Q0 x e s→@qI x e s Q):@eP X ro P c e s Q:=
 AWN.mono h hQ
theorem jI{Q0:QK→List D→St→Prop}(h:Q0 x e s):@qI x e s ⟨Q0⟩:=h
@[reducible] def joinC (ks:List Nat) (E:List D) (I:St→Prop) (Q:QC):QC:=⟨thenQ (fun e s=>keep ks e=E∧I s) Q.f⟩
theorem vsJ :
  (∀ks E I Q e s,@qI .ret e s (joinC ks E I Q)=@qI .ret e s Q) ∧
  (∀ks E I Q e s id,@qI (.exit id) e s (joinC ks E I Q)=@qI (.exit id) e s Q):=by
 and_intros
 all_goals intros
 all_goals rfl
theorem fY{ks:List Nat}{E:List D}{I:St→Prop}(h1:keep ks e=E)(h2:I s):@qI .normal e s (joinC ks E I Q):=⟨h1,h2⟩
theorem Cp{ro:Option Nat}{a b:QH}(hm:P.follows .mixedOrders=Qy)(ks:List Nat)(E:List D)(I:St→Prop)
  (h:@fI X ro P a e s (joinC ks E I Q)) (hI:∀s,I s→@fI X ro P b E s Q):@D5 Qy X ro P a b e s Q:=by
 refine sL a h λx e s hx=>?_;cases x<;>first
  |exact hx
  |(obtain⟨h1,h2⟩:=hx;exact ae ks (by rw[h1];exact ev hm (hI s h2)))
def apR(el el':Option (QB×Nat×Nat×Bool))(P:QA)(b off n rsz:Nat)(bx:Option Box)(ys:List (List D))(s:St)[K:DC]:Prop:=match el,el' with
 |some (e,sz,by_,_),Qv _=>match zeroT P e with
  |some zs=>match bx with
   |some (.cells cs)=>(zs.length=sz∧0<sz∧0<by_∧by_≤1000000)∧(∀c∈ys,c.length=sz)∧(rsz=sz∧off=0)∧cs.length=n*sz∧n+ys.length≤1000000∧K.f (.row s.boxes.length 0 (n+ys.length) sz) {s with boxes:=s.boxes.set b .dead++[.cells (cs++ys.flatten)]}
   |_=>False
  |none=>False
 |_,_=>False
def LJ(z:Option (List D))(sz by_ b off n rsz:Nat)(bx:Option Box)(ys:List (List D))(s:St)[K:DC]:Prop:=match z,bx with
 |some zs,Qv (.cells cs)=>(zs.length=sz∧0<sz∧0<by_∧by_≤1000000)∧(∀c∈ys,c.length=sz)∧(rsz=sz∧off=0)∧cs.length=n*sz∧n+ys.length≤1000000∧K.f (.row s.boxes.length 0 (n+ys.length) sz) {s with boxes:=s.boxes.set b .dead++[.cells (cs++ys.flatten)]}
 |_,_=>False
def apZ(el el':Option (QB×Nat×Nat×Bool))(P:QA)(ys:List (List D))(s:St)[K:DC]:Prop:=match el,el' with
 |some (e,sz,by_,_),Qv _=>match zeroT P e with
  |some zs=>(zs.length=sz∧0<sz∧0<by_∧by_≤1000000)∧(∀c∈ys,c.length=sz)∧if ys=[]then K.f .row0 s else ys.length≤1000000∧K.f (.row s.boxes.length 0 ys.length sz) {s with boxes:=s.boxes++[.cells ys.flatten]}
  |none=>False
 |_,_=>False
def Kp(z:Option (List D))(sz by_:Nat)(ys:List (List D))(s:St)[K:DC]:Prop:=match z with
 |some zs=>(zs.length=sz∧0<sz∧0<by_∧by_≤1000000)∧(∀c∈ys,c.length=sz)∧if ys=[]then K.f .row0 s else ys.length≤1000000∧K.f (.row s.boxes.length 0 ys.length sz) {s with boxes:=s.boxes++[.cells ys.flatten]}
 |none=>False
theorem lq{off n rsz:Nat}{ys:List (List D)}:@lx (cL P T T' (.row b off n rsz) (.slice o' ys) s) K=@apR (elemT P T) (elemT P T') P b off n rsz s.boxes[b]? ys s K:=by
 apply propext;unfold lx;rw[cm];simp only[cL,jH,apR];cases h:elemT P T with
 |none=>simp
 |some el =>
  obtain⟨e,sz,by_,ag⟩:=el;cases h':elemT P T' with
  |none=>simp
  |some el' =>
   dsimp only;cases hz:zeroT P e with
   |none=>simp
   |some zs =>
    dsimp only;cases hb:s.boxes[b]? with
    |none=>simp
    |some bx =>
     cases bx with
     |cells cs =>
      dsimp only;constructor
      ·rintro⟨d,s',h1,h2⟩;split at h1
       ·rename_i hc;obtain⟨c1,c2,c3,c4,c6⟩:=hc;split at h1
        ·rename_i hd;obtain⟨d1,d2,d3,d4⟩:=hd;cases h1;exact⟨⟨c1,c2,c3,c4⟩,λc hc=>by simpa using Mn.1 c6 c hc,⟨d1,d2⟩,d3,d4,h2⟩
        ·cases h1
       ·cases h1
      ·rintro⟨⟨c1,c2,c3,c4⟩,c6,⟨d1,d2⟩,d3,d4,hK⟩;refine⟨_,_,?_,hK⟩;rw[if_pos ⟨c1,c2,c3,c4,Mn.2 λc hc=>by simpa using c6 c hc⟩,if_pos ⟨d1,d2,d3,d4⟩]
     |_=>simp
theorem lp{ys:List (List D)}:@lx (cL P T T' .row0 (.slice o' ys) s) K=@apZ (elemT P T) (elemT P T') P ys s K:=by
 apply propext;unfold lx;rw[cm];simp only[cL,jH,apZ];cases h:elemT P T with
 |none=>simp
 |some el =>
  obtain⟨e,sz,by_,ag⟩:=el;cases h':elemT P T' with
  |none=>simp
  |some el' =>
   dsimp only;cases hz:zeroT P e with
   |none=>simp
   |some zs =>
    dsimp only;constructor
    ·rintro⟨d,s',h1,h2⟩;split at h1
     ·rename_i hc;obtain⟨c1,c2,c3,c4,c6⟩:=hc;refine⟨⟨c1,c2,c3,c4⟩,λc hc=>by simpa using Mn.1 c6 c hc,?_⟩;split at h1
      ·rename_i hn;cases h1;rw[if_pos hn];exact h2
      ·rename_i hn;rw[if_neg hn];split at h1
       ·rename_i hl;cases h1;exact⟨hl,h2⟩
       ·cases h1
     ·cases h1
    ·rintro⟨⟨c1,c2,c3,c4⟩,c6,hK⟩;split at hK
     ·rename_i hn;refine⟨_,_,?_,hK⟩;rw[if_pos ⟨c1,c2,c3,c4,Mn.2 λc hc=>by simpa using c6 c hc⟩,if_pos hn]
     ·rename_i hn;refine⟨_,_,?_,hK.2⟩;rw[if_pos ⟨c1,c2,c3,c4,Mn.2 λc hc=>by simpa using c6 c hc⟩,if_neg hn,if_pos hK.1]
def ixR(el:Option (QB×Nat×Nat×Bool))(b off len:Nat)(n:Int)(s:St)[K:DC]:Prop:=match el with
 |some (_,sz,_,_)=>(0≤n∧n<len)∧K.f (.box b (off+n.toNat*sz)) s
 |none=>False
theorem zT{off len rsz:Nat}:@di (cD P T (.row b off len rsz) (.int k n)) s K=@ixR (elemT P T) b off len n s K:=by
 apply propext;unfold di;rw[cm];simp only[cD,fq,ixR];cases h:elemT P T with
 |none=>simp
 |some el =>
  obtain⟨e,sz,by_,ag⟩:=el;dsimp only;constructor
  ·rintro⟨d,s',h1,h2⟩;split at h1
   ·rename_i hc;cases h1;exact⟨hc,h2⟩
   ·cases h1
  ·rintro⟨hc,h2⟩;exact⟨_,_,by rw[if_pos hc];rfl,h2⟩
def J7(u:Option TypeDesc)(P:QA)(es:Option (List (D×D)))(k:IntKind)(n:Int)(ok:Bool):Option D:=match u with
 |some (.map K V)=>match P.underlying K,zeroD P V,es with
  |some (.int _),Qv z,Qv es=>(bp k n es 0).map λr=>jy r z ok
  |_,_,_=>Qx
 |_=>Qx
def J6(u:Option TypeDesc)(z:Option D)(es:Option (List (D×D)))(k:IntKind)(n:Int)(ok:Bool):Option D:=match u,z,es with
 |some (.int _),Qv z,Qv es=>(bp k n es 0).map λr=>jy r z ok
 |_,_,_=>Qx
def rn(b:Option Box):Option (List (D×D)):=match b with
 |some (.map es)=>Qv es
 |_=>Qx
def JJ(u:Option TypeDesc)(P:QA)(es:Option (List (D×D)))(b:Nat)(k:IntKind)(n:Int)(x:D)(B:List Box)(L:List Nat)(c:Nat):Option St:=match u with
 |some (.map K _)=>match P.underlying K,es with
  |some (.int _),Qv es=>(bp k n es 0).map λr=>⟨B.set b (.map (mapPut k n x r es)),L,c⟩
  |_,_=>Qx
 |_=>Qx
def JI(u:Option TypeDesc)(es:Option (List (D×D)))(b:Nat)(k:IntKind)(n:Int)(x:D)(B:List Box)(L:List Nat)(c:Nat):Option St:=match u,es with
 |some (.int _),Qv es=>(bp k n es 0).map λr=>⟨B.set b (.map (mapPut k n x r es)),L,c⟩
 |_,_=>Qx
def J4(u:Option TypeDesc)(P:QA)(es:Option (List (D×D)))(b:Nat)(k:IntKind)(n:Int)(B:List Box)(L:List Nat)(c:Nat):Option St:=match u with
 |some (.map K _)=>match P.underlying K,es with
  |some (.int _),Qv es=>(bp k n es 0).map λr=>⟨B.set b (.map (mapCut r es)),L,c⟩
  |_,_=>Qx
 |_=>Qx
def J3(u:Option TypeDesc)(es:Option (List (D×D)))(b:Nat)(k:IntKind)(n:Int)(B:List Box)(L:List Nat)(c:Nat):Option St:=match u,es with
 |some (.int _),Qv es=>(bp k n es 0).map λr=>⟨B.set b (.map (mapCut r es)),L,c⟩
 |_,_=>Qx
def DO(x:Option St)[K:DC]:Prop:=optW (x.map (D.tup [],·)) K.f
def JL(el:Option (QB×Nat×Nat×Bool))(P:QA)(l c:Int)(B:List Box)(L:List Nat)(ct:Nat):Option (D×St):=match el with
 |some (e,sz,by_,_)=>match zeroT P e with
  |some zs=>if zs.length=sz∧0<sz∧0<by_∧by_≤1000000∧0≤l∧l≤c∧c≤1000000 then Qv (.row B.length 0 l.toNat sz,⟨B++[.cells (MD l.toNat zs).flatten],L,ct⟩)else Qx
  |none=>Qx
 |none=>Qx
def JK(z:Option (List D))(sz by_:Nat)(l c:Int)(B:List Box)(L:List Nat)(ct:Nat):Option (D×St):=match z with
 |some zs=>if zs.length=sz∧0<sz∧0<by_∧by_≤1000000∧0≤l∧l≤c∧c≤1000000 then Qv (.row B.length 0 l.toNat sz,⟨B++[.cells (MD l.toNat zs).flatten],L,ct⟩)else Qx
 |none=>Qx
theorem zP{m:D}{ok:Bool}:iS P T m (.int k n) ok s=J7 (P.underlying T) P (mapOf m s) k n ok:=by
 unfold iS J7;cases P.underlying T with
 |none=>rfl
 |some u=>cases u<;>(try rfl)<;>(dsimp only;cases P.underlying _ with
  |none=>rfl
  |some v=>cases v<;>cases zeroD P _<;>cases mapOf m s<;>rfl)
theorem tf{x:D}{c:Nat}:dB P T (.map b) (.int k n) x ⟨B,L,c⟩=JJ (P.underlying T) P (rn B[b]?) b k n x B L c:=by
 unfold dB JJ;cases P.underlying T with
 |none=>rfl
 |some u=>cases u<;>(try rfl)<;>(dsimp only;cases P.underlying _ with
  |none=>rfl
  |some v=>cases v<;>(try rfl)<;>(dsimp only;cases B[b]? with
   |none=>rfl
   |some bx=>cases bx<;>rfl))
theorem zU{c:Nat}:iT P T (.map b) (.int k n) ⟨B,L,c⟩=J4 (P.underlying T) P (rn B[b]?) b k n B L c:=by
 unfold iT J4;cases P.underlying T with
 |none=>rfl
 |some u=>cases u<;>(try rfl)<;>(dsimp only;cases P.underlying _ with
  |none=>rfl
  |some v=>cases v<;>(try rfl)<;>(dsimp only;cases B[b]? with
   |none=>rfl
   |some bx=>cases bx<;>rfl))
theorem ti{k':IntKind}{l c:Int}{ct:Nat}:ez P T (.int k l) (.int k' c) ⟨B,L,ct⟩=JL (elemT P T) P l c B L ct:=by
 unfold ez JL;cases elemT P T with
 |none=>rfl
 |some el=>obtain⟨e,sz,b,ag⟩:=el;rfl
def slR(u:Option TypeDesc)(el:Option (QB×Nat×Nat×Bool))(b off n rsz:Nat)(lo hi:Option D):Option D:=match u,el,evBd lo 0,evBd hi n with
 |some (.slice _),Qv (_,sz,_,_),Qv l,Qv h=>if l≤h∧h≤n∧rsz=sz then Qv (if l=0 then .row b off h rsz else if l<h then .row b (off+l*sz) (h-l) rsz else .slice .none [])else Qx
 |_,_,_,_=>Qx
theorem zI{off n rsz:Nat}{lo hi:Option D}:dz P T (.row b off n rsz) lo hi Qx=slR (P.underlying T) (elemT P T) b off n rsz lo hi:=by
 unfold dz slR;cases P.underlying T with
 |none=>rfl
 |some u =>
  cases u<;>(try rfl);dsimp only;cases elemT P T with
  |none=>rfl
  |some el =>
   obtain⟨e,sz,by_,ag⟩:=el;cases evBd lo 0 with
   |none=>rfl
   |some l=>cases evBd hi n with
    |none=>rfl
    |some h =>
     simp only[evBd];by_cases hc:l≤h∧h≤n∧rsz=sz
     ·rw[if_pos hc,if_pos ⟨hc.1,hc.2.1,K5 _,by simp,hc.2.2⟩]
     ·rw[if_neg hc,if_neg (λq=>hc ⟨q.1,q.2.1,q.2.2.2.2⟩)]
def slS(u:Option TypeDesc)(el:Option (QB×Nat×Nat×Bool))(o:Own)(xs:List (List D))(lo hi:Option D):Option D:=match u,el,evBd lo 0,evBd hi xs.length with
 |some (.slice _),Qv (_,sz,_,_),Qv l,Qv h=>if l≤h∧h≤xs.length∧(l=0∨xs.all (·.length == sz)=Qy)then Qv (.slice (if o=.full∧h=xs.length then .full else .none) ((xs.take h).drop l))else Qx
 |_,_,_,_=>Qx
theorem zH{o:Own}{xs:List (List D)}{lo hi:Option D}:dz P T (.slice o xs) lo hi Qx=slS (P.underlying T) (elemT P T) o xs lo hi:=by
 unfold dz slS;cases P.underlying T with
 |none=>rfl
 |some u =>
  cases u<;>(try rfl);dsimp only;cases elemT P T with
  |none=>rfl
  |some el =>
   obtain⟨e,sz,by_,ag⟩:=el;cases evBd lo 0 with
   |none=>rfl
   |some l=>cases evBd hi xs.length with
    |none=>rfl
    |some h =>
     simp only[evBd,Option.isSome_none,MJ,if_false,false_implies,true_and];by_cases hc:l≤h∧h≤xs.length∧(l=0∨xs.all (·.length == sz)=Qy)
     ·rw[if_pos hc,if_pos ⟨hc.1,hc.2.1,K5 _,hc.2.2⟩]
     ·rw[if_neg hc,if_neg (λq=>hc ⟨q.1,q.2.1,q.2.2.2⟩)]
theorem zQ:gd P T .row0 s=kR (P.underlying T) 0:=by
 unfold gd kR;cases P.underlying T with
 |none=>rfl
 |some u=>cases u<;>rfl
theorem C7{off n rsz:Nat}:gd P T (.row b off n rsz) s=kR (P.underlying T) n:=by
 unfold gd kR;cases P.underlying T with
 |none=>rfl
 |some u=>cases u<;>rfl
theorem vsM :
    (∀P e s K(T:QB),@bz P (.makeMap T Qx) e s K=@lx (lP s) K) ∧
    (∀P e s K(T:QB)l c,@bz P (.makeSlice T l c) e s K=@lx (ez P T (val e l) (val e c) s) K) ∧
    (∀P e s K(T:QB)m i ok,@bz P (.lookup T m i ok) e s K=@di (iS P T (val e m) (val e i) ok s) s K) ∧
    (∀P e s K(T:QB)m i x,@bz P (.mapUpdate T m i x) e s K=@qZ (dB P T (val e m) (val e i) (val e x) s) K) ∧
    (∀P e s K(T:QB)m i x,@bz P (.insert T m i x) e s K=@qZ (dB P T (val e m) (val e i) (val e x) s) K) ∧
    (∀P e s K x y(T U:QB),@bz P (.call {callee:=.builtin .delete,args:=#[x,y],argTypes:=#[T,U]}) e s K=@DO (iT P T (val e x) (val e y) s) K) ∧
    (∀P e s K x(T:QB),@bz P (.call {callee:=.builtin .clear,args:=#[x],argTypes:=#[T]}) e s K=@DO (oG P T (val e x) s) K) ∧
    (∀s K,@DO (Qv s) K=@dI (.tup []) s K)∧(∀(K:DC),@DO Qx K=False) ∧
    (∀(B:List Box)L c,lP ⟨B,L,c⟩=Qv (.map B.length,⟨B++[.map []],L,c⟩)) ∧
    (∀(P:QA)(T:QB)m k n ok s,iS P T m (.int k n) ok s=J7 (P.underlying T) P (mapOf m s) k n ok) ∧
    (∀(P:QA)(K V:QB)(es:Option (List (D×D)))(k:IntKind)(n:Int)(ok:Bool),J7 (Qv (.map K V)) P es k n ok=J6 (P.underlying K) (zeroD P V) es k n ok) ∧
    (∀kk z es k n ok,J6 (Qv (.int kk)) (Qv z) (Qv es) k n ok=(bp k n es 0).map λr=>jy r z ok) ∧
    (∀s,mapOf .nilm s=Qv [])∧(∀(b:Nat)(B:List Box)(L:List Nat)(c:Nat),mapOf (.map b) ⟨B,L,c⟩=rn B[b]?)∧(∀(es:List (D×D)),rn (Qv (.map es))=Qv es) ∧
    (∀i v z,jy (Qv (i,v)) z Qy=.tup [v,.bool Qy])∧(∀(i:Nat)(v z:D),jy (Qv (i,v)) z Qw=v)∧(∀(z:D),jy Qx z Qy=.tup [z,.bool Qw])∧(∀(z:D),jy Qx z Qw=z) ∧
    (∀(P:QA)(T:QB)b k n x B L c,dB P T (.map b) (.int k n) x ⟨B,L,c⟩=JJ (P.underlying T) P (rn B[b]?) b k n x B L c) ∧
    (∀(P:QA)(K V:QB)(es:Option (List (D×D)))(b:Nat)(k:IntKind)(n:Int)(x:D)(B:List Box)(L:List Nat)(c:Nat),JJ (Qv (.map K V)) P es b k n x B L c=JI (P.underlying K) es b k n x B L c) ∧
    (∀kk es b k n x(B:List Box)L c,JI (Qv (.int kk)) (Qv es) b k n x B L c=(bp k n es 0).map λr=>⟨B.set b (.map (mapPut k n x r es)),L,c⟩) ∧
    (∀(P:QA)(T:QB)b k n B L c,iT P T (.map b) (.int k n) ⟨B,L,c⟩=J4 (P.underlying T) P (rn B[b]?) b k n B L c) ∧
    (∀(P:QA)(K V:QB)(es:Option (List (D×D)))(b:Nat)(k:IntKind)(n:Int)(B:List Box)(L:List Nat)(c:Nat),J4 (Qv (.map K V)) P es b k n B L c=J3 (P.underlying K) es b k n B L c) ∧
    (∀kk es b k n(B:List Box)L c,J3 (Qv (.int kk)) (Qv es) b k n B L c=(bp k n es 0).map λr=>⟨B.set b (.map (mapCut r es)),L,c⟩) ∧
    (∀k n i,bp k n [] i=Qv Qx) ∧
    (∀P(T:QB)k k' l c B L ct,ez P T (.int k l) (.int k' c) ⟨B,L,ct⟩=JL (elemT P T) P l c B L ct) ∧
    (∀P(e:QB)sz b ag l c B L ct,JL (Qv (e,sz,b,ag)) P l c B L ct=JK (zeroT P e) sz b l c B L ct) ∧
    (∀(zs:List D)sz b(l c:Int)(B:List Box)L ct,JK (Qv zs) sz b l c B L ct=if zs.length=sz∧0<sz∧0<b∧b≤1000000∧0≤l∧l≤c∧c≤1000000 then Qv (.row B.length 0 l.toNat sz,⟨B++[.cells (MD l.toNat zs).flatten],L,ct⟩)else Qx) ∧
    (∀P(T T':QB)b off n rsz o' ys(s:St)K,@lx (cL P T T' (.row b off n rsz) (.slice o' ys) s) K=@apR (elemT P T) (elemT P T') P b off n rsz s.boxes[b]? ys s K) ∧
    (∀P(e e':QB)sz by_ sz' b' ag ag' b off n rsz cs ys s K,@apR (Qv (e,sz,by_,ag)) (Qv (e',sz',b',ag')) P b off n rsz (Qv (.cells cs)) ys s K=@LJ (zeroT P e) sz by_ b off n rsz (Qv (.cells cs)) ys s K) ∧
    (∀zs sz by_ b off n rsz cs ys B L c K,@LJ (Qv zs) sz by_ b off n rsz (Qv (.cells cs)) ys ⟨B,L,c⟩ K =
      @needI (zs.length=sz∧0<sz∧0<by_∧by_≤1000000) (n9 (∀c∈ys,c.length=sz) (n9 (rsz=sz∧off=0) (n9 (cs.length=n*sz) (n9 (n+ys.length≤1000000) (dC (.row B.length 0 (n+ys.length) sz) ⟨B.set b .dead++[.cells (cs++ys.flatten)],L,c⟩ K)))))) ∧
    (∀P(T T':QB)o' ys s K,@lx (cL P T T' .row0 (.slice o' ys) s) K=@apZ (elemT P T) (elemT P T') P ys s K) ∧
    (∀P(e e':QB)sz by_ sz' b' ag ag' ys s K,@apZ (Qv (e,sz,by_,ag)) (Qv (e',sz',b',ag')) P ys s K=@Kp (zeroT P e) sz by_ ys s K) ∧
    (∀(zs:List D)sz by_ s K,@Kp (Qv zs) sz by_ [] s K=@needI (zs.length=sz∧0<sz∧0<by_∧by_≤1000000) (dC .row0 s K)) ∧
    (∀zs sz by_ y ys B L c K,@Kp (Qv zs) sz by_ (y::ys) ⟨B,L,c⟩ K =
      @needI (zs.length=sz∧0<sz∧0<by_∧by_≤1000000) (n9 (∀c∈y::ys,c.length=sz) (n9 ((y::ys).length≤1000000) (dC (.row B.length 0 (y::ys).length sz) ⟨B++[.cells (y::ys).flatten],L,c⟩ K)))) ∧
    (∀P(T:QB)b off len rsz k n s K,@di (cD P T (.row b off len rsz) (.int k n)) s K=@ixR (elemT P T) b off len n s K) ∧
    (∀(e:QB)sz by_ ag b off len(n:Int)s K,@ixR (Qv (e,sz,by_,ag)) b off len n s K=@needI (0≤n∧n<len) (dC (.box b (off+n.toNat*sz)) s K)) ∧
    (∀(P:QA)(T:QB)s,gd P T .row0 s=kR (P.underlying T) 0)∧(∀(P:QA)(T:QB)(b off n rsz:Nat)(s:St),gd P T (.row b off n rsz) s=kR (P.underlying T) n) ∧
    (∀(P:QA)(T:QB)b off n rsz lo hi,dz P T (.row b off n rsz) lo hi Qx=slR (P.underlying T) (elemT P T) b off n rsz lo hi) ∧
    (∀(P:QA)(T:QB)o xs lo hi,dz P T (.slice o xs) lo hi Qx=slS (P.underlying T) (elemT P T) o xs lo hi) ∧
    (D.row0.plain=.row0)∧(D.row0.plain1=.row0)∧(D.row0.keep1=.row0)∧(cellsD .row0=Qv [.row0]) ∧
    (∀b o n z,(D.row b o n z).plain=.row b o n z)∧(∀b o n z,(D.row b o n z).plain1=.row b o n z)∧(∀b o n z,(D.row b o n z).keep1=.row b o n z)∧(∀b o n z,cellsD (.row b o n z)=Qv [.row b o n z]):=by
  and_intros
  all_goals intros
  all_goals first
    |rfl
    |with_unfolding_all rfl
    |exact lq
    |exact lp
    |exact zT
    |exact zP
    |exact tf
    |exact zU
    |exact ti
    |exact zI
    |exact zH
    |exact zQ
    |exact C7
    |(unfold apR LJ;dsimp only;cases zeroT _ _<;>rfl)
    | (apply propext;constructor
       · rintro⟨h1,h2,h3⟩;exact⟨h1,h3⟩
       · rintro⟨h1,h3⟩;exact⟨h1,(λ_ h=>(by cases h)),h3⟩)
    | (apply propext;constructor
       · rintro⟨h1,h2,h3,h4⟩;exact⟨h1,h2,h3,h4⟩
       · rintro⟨h1,h2,h3,h4⟩;exact⟨h1,h2,by rw[if_neg (by simp)];exact⟨h3,h4⟩⟩)
    |trace_state
theorem vsNd :
  (∀P e s K x,@cv P (.move x) e s K=@bz P (.move x) e s K) ∧
  (∀P e s K x,@cv P (.assign x) e s K=@bz P (.assign x) e s K) ∧
  (∀P e s K c a b,@cv P (.pick c a b) e s K=@bz P (.pick c a b) e s K) ∧
  (∀P e s K(T:QB),@cv P (.alloc T) e s K=@bz P (.alloc T) e s K) ∧
  (∀P e s K(T:QB)x,@cv P (.box T x) e s K=@bz P (.box T x) e s K) ∧
  (∀P e s K(T:QB)ps,@cv P (.build T ps) e s K=@bz P (.build T ps) e s K) ∧
  (∀P e s K(T:QB)n ps,@cv P (.buildSlice T n ps) e s K=@bz P (.buildSlice T n ps) e s K) ∧
  (∀P e s K(T:QB)a,@cv P (.load T a) e s K=@bz P (.load T a) e s K) ∧
  (∀P e s K(T:QB)a x,@cv P (.store T a x) e s K=@bz P (.store T a x) e s K) ∧
  (∀P e s K x,@cv P (.nilCheck x) e s K=@bz P (.nilCheck x) e s K) ∧
  (∀P e s K op(T U:QB)x y,@cv P (.binOp op T x y U) e s K=@bz P (.binOp op T x y U) e s K) ∧
  (∀P e s K op(T:QB)x,@cv P (.unOp op T x) e s K=@bz P (.unOp op T x) e s K) ∧
  (∀P e s K(T U:QB)x,@cv P (.convert T U x) e s K=@bz P (.convert T U x) e s K) ∧
  (∀P e s K fn fi ca,@cv P (.makeFunc fn fi ca) e s K=@bz P (.makeFunc fn fi ca) e s K) ∧
  (∀P e s K(T:QB)x lo hi mx,@cv P (.slice T x lo hi mx) e s K=@bz P (.slice T x lo hi mx) e s K) ∧
  (∀P e s K(T:QB)x f,@cv P (.fieldAddr T x f) e s K=@bz P (.fieldAddr T x f) e s K) ∧
  (∀P e s K(T:QB)x f,@cv P (.field T x f) e s K=@bz P (.field T x f) e s K) ∧
  (∀P e s K(T:QB)x i,@cv P (.indexAddr T x i) e s K=@bz P (.indexAddr T x i) e s K) ∧
  (∀P e s K(T:QB)x i,@cv P (.index T x i) e s K=@bz P (.index T x i) e s K) ∧
  (∀P e s K x i,@cv P (.extract x i) e s K=@bz P (.extract x i) e s K) ∧
  (∀P e s K(T:QB)r,@cv P (.makeMap T r) e s K=@bz P (.makeMap T r) e s K) ∧
  (∀P e s K(T:QB)l c,@cv P (.makeSlice T l c) e s K=@bz P (.makeSlice T l c) e s K) ∧
  (∀P e s K(T:QB)m i ok,@cv P (.lookup T m i ok) e s K=@bz P (.lookup T m i ok) e s K) ∧
  (∀P e s K(T:QB)m i x,@cv P (.mapUpdate T m i x) e s K=@bz P (.mapUpdate T m i x) e s K) ∧
  (∀P e s K(T:QB)m i x,@cv P (.insert T m i x) e s K=@bz P (.insert T m i x) e s K) ∧
  (∀P e s K b ar ts,@cv P (.call {callee:=.builtin b,args:=ar,argTypes:=ts}) e s K=@bz P (.call {callee:=.builtin b,args:=ar,argTypes:=ts}) e s K) ∧
  (∀P e s K f(args:List QE)ts,@cv P (.call {callee:=.value f,args:=args.toArray,argTypes:=ts}) e s K=@rZ Qy P (val e f) (args.map λx=>(val e x).plain) s K) ∧
  (∀P full e s K,@lF P full [] e s K=@kI e s K) ∧
  (∀P full os e s K,@pI (G1 P full os e s K)=@lF P full os e s K) ∧
  (∀P op e s K,@pI (Av P op e s K)=@cv P op e s K) ∧
  (∀P full os e s K dst op(ty:QB)pos after,@lF P full ({dst:=dst,op:=op,type:=ty,pos:=pos,after:=after,guard:=Qx}::os) e s K=@cv P op e s (JF P full os dst e K)) ∧
  (∀P full os e s K dst op(ty:QB)pos after j b,@lF P full ({dst:=dst,op:=op,type:=ty,pos:=pos,after:=after,guard:=Qv (j,b)}::os) e s K=@vY P full os dst op (guardOf full (Qv (j,b))) e s K) ∧
  (∀P full os(e:List D)s K dst op t,@vY P full os dst op (Qv (Qv (t,Qy))) e s K=ifI (gdD Qy (e.getD t .junk)) (Av P op e s (JF P full os dst e K)) (G1 P full os (putD e dst (.tup [])) s K)) ∧
  (∀P full os(e:List D)s K dst op t,@vY P full os dst op (Qv (Qv (t,Qw))) e s K=ifI (gdD Qw (e.getD t .junk)) (G1 P full os (putD e dst (.tup [])) s K) (Av P op e s (JF P full os dst e K))) ∧
  (∀P full os e s K dst d,@dI d s (JF P full os dst e K)=@lF P full os (putD e dst d) s K):=by
 and_intros
 all_goals intros
 all_goals first
  |rfl
  |with_unfolding_all rfl
  |(simp only[lF,vY,iW,guardOf];split<;>simp_all<;>(split<;>simp_all);done)
  |trace_state
end Go.V
