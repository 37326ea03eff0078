/-
  The value-level logic and its contracts, part 2 (texts V10b, V11, V12, V13, V14, V15, V16, V17, V18, V19, V20, V21, V22, V23, V15b).
-/
import Derived.Test.YtlobjjbchnjfiaaGreatBast1
open List renaming getElem?_eq_some_iff→M5,getElem?_set_ne→Oj,getElem_map→OL,mem_map→Og,getElem_of_mem→Oa,getElem?_set_self→Om,length_set→PU,getD→Pi,getElem?_eq_none→Oz,getElem?_eq_getElem→K4,range→Ol,length→Qh,mapM_cons→QR,map_cons→OJ,cons→QM,nodup_cons→OZ,replicate→Oi,getElem_append_left→OS,getElem_append_right→ON,getElem?_append_left→Ou,getElem?_append_right→Oc,set_append_right→O3,all_eq_true→N0,mem_filterMap→Rq,map_congr_left→P1,filterMap_cons→QF,getElem?_cons_succ→OK,mem_range→Ow,reverse_nil→R7,mem_filter→OW,mem_of_getElem?→PW,countP_cons→R8,mem_cons→NX,any_eq_true→PH,contains_iff_mem→PD,filter_cons_of_neg→Q2,filter_cons_of_pos→Q3,getD_cons_zero→N8,getD_cons_succ→N7,map_take→Qg,length_take→OD,getElem_take→PJ,length_reverse→RV
open Array renaming length_toList→RU,mem_filter→RC,filter_eq_empty_iff→Rx,getElem_mem→R4,getElem_of_mem→RN,getElem?_setIfInBounds_self→OO,getElem?_eq_getElem→OI,getElem?_setIfInBounds_ne→OM,size_setIfInBounds→P7,getElem_append_left→Pv,getD→Rm,all_eq_true'→R0,replicate→Sb,getElem_append_right→Qs
open Nat renaming le_refl→K6,mod_lt→QE,eq_zero_or_pos→O8,lt_or_ge→OU,zero_le→L7
open Bool renaming eq_false_iff→QN,not_true→N3,and_eq_true→M1,not_eq_true'→Oy,false_or→L5,or_eq_true→PF,false_eq_true→On
open Option renaming getD_some→OB,bind_some→OY,some→Pk,map_some→Po
open Nat renaming reduceAdd → zA, reduceSub → zS, reduceMul → zM, reduceLeDiff → zL, reduceEqDiff → zE, reduceBEq → zB
set_option linter.all false
set_option linter.unusedSimpArgs false
set_option linter.unusedVariables false
set_option linter.unnecessarySimpa false
open Option renaming some→Sd
open Bool renaming false→Se
open Option renaming none→Sf
open Bool renaming true→Sh
open Go renaming Program→Sj,TypeId→Sk,World→Sl,Operand→Sn,Value→So,Oper→Sp,Code→Sq,FuncId→Sr,Exit→Su
namespace Go.V
theorem WRel.mapX{w:Sl}{g:G}{s:St}(h:WRel w g s){b:Nat}{es:List (D×D)}(hb:s.boxes[b]?=Sd (.map es)) :
  ∃(bs:List Nat)(c:Nat),bs.length=es.length∧bs.Nodup∧(∀x∈bs,x<c)∧WRel w g {s with boxes:=s.boxes.set b (.mapX es bs c)}:=by
 obtain⟨l,en,c,h1,h2,h3,h4⟩:=h.box b _ hb;have hlt:=(M5.1 hb).1;have hlen:(en.toList.map (·.born)).length=es.length:=by simp[h3]
 have hlv:∀j,Live1 {s with boxes:=s.boxes.set b (.mapX es (en.toList.map (·.born)) c)} j→Live1 s j:=by
  rintro j ⟨bx,q1,q2⟩;by_cases e:j=b
  ·subst e;exact⟨_,hb,by simp⟩
  ·simp only at q1;rw[Oj (by omega)]at q1;exact⟨bx,q1,q2⟩
 refine⟨en.toList.map (·.born),c,hlen,?_,?_,?_⟩
 ·refine List.pairwise_iff_getElem.2 λi j hi hj hij e=>?_;simp only[List.length_map,RU]at hi hj;simp only[OL,Array.getElem_toList]at e;have:=(h4 j (by omega) hj).2.2.2 i hi e
  omega
 ·intro x hx;obtain⟨e,he,rfl⟩:=Og.1 hx;obtain⟨j,hj,rfl⟩:=Oa he;simp only[RU]at hj;simpa using(h4 j (by omega) hj).2.2.1
 ·refine {os:=h.os,tape:=h.tape,out:=h.out,fz:=h.fz,n:=h.n,old:=h.old,m:=h.m,box:=?_,inj:=λi j c h1 h2 l1 l2=>h.inj i j c h1 h2 (hlv i l1) (hlv j l2),dom:=λj c hj=>by have:=h.dom j c hj;simpa using this,live:=h.live,uniq:=h.uniq,ldom:=h.ldom,o:=h.o,nd:=h.nd,sz:=h.sz};intro j bx hj;by_cases e:j=b
  ·subst e;simp only at hj;rw[Om hlt]at hj;cases hj;exact⟨l,en,c,h1,h2,⟨h3,rfl,rfl⟩,h4⟩
  ·simp only at hj;rw[Oj (by omega)]at hj;exact h.box j bx hj
def mC(d:D)(s:St)(K:D→St→Prop):Prop:=
 match d with
 |.map b=>match s.boxes[b]? with
  |some (.map es)=>∀(bs:List Nat)(c:Nat),bs.length=es.length→bs.Nodup→(∀x∈bs,x<c)→K (.box s.boxes.length 0) {s with boxes:=s.boxes.set b (.mapX es bs c)++[.iter b c []]}
  |_=>False
 |_=>False
def s6(d:D)(s:St)(K:D→St→Prop):Prop:=
 match d with
 |.box i 0=>match s.boxes[i]? with
  |some (.iter mb c seen)=>match s.boxes[mb]? with
   |some (.mapX es bs c')=>c'=c∧(∀x∈bs,x<c)∧(∀(j:Nat)(h:j<es.length)(h2:j<bs.length),bs[j] ∉ seen→K (.tup [.bool Sh,es[j].1,es[j].2]) {s with boxes:=s.boxes.set i (.iter mb c (seen++[bs[j]]))}) ∧
     ((∀x∈bs,x∈seen)→K (.tup [.bool Se]) s)
   |_=>False
  |_=>False
 |_=>False
variable {d:D}{s:St}{K':D→St→Prop}
theorem x8{K:D→St→Prop}(hK:∀d s,K d s→K' d s)(h:mC d s K):mC d s K':=by
 unfold mC at *;split at h
 ·split at h
  ·exactλbs c h1 h2 h3=>hK _ _ (h bs c h1 h2 h3)
  ·exact h
 ·exact h
theorem AO{K:D→St→Prop}(hK:∀d s,K d s→K' d s)(h:s6 d s K):s6 d s K':=by
 unfold s6 at *;split at h
 ·split at h
  ·split at h
   ·exact⟨h.1,h.2.1,λj q1 q2 q3=>hK _ _ (h.2.2.1 j q1 q2 q3),λq=>hK _ _ (h.2.2.2 q)⟩
   ·exact h
  ·exact h
 ·exact h
variable {P:Sj}{w:Sl}{g:G}{T:Sk}{v:So}{Z:D→St→Prop}
theorem Gj{K K':Sk}(hT:P.underlying T=Sd (.map K K'))(h:WRel w g s)(hd:R g d v)(hz:mC d s Z) :
  ∃d' s',Z d' s'∧Ok P (Instr.range T v) w g d' s':=by
 unfold mC at hz;split at hz
 ·rename_i b;split at hz
  ·rename_i es hb;obtain⟨bs,c,h1,h2,h3,hw⟩:=h.mapX hb;refine⟨_,_,hz bs c h1 h2 h3,?_⟩;cases hd with
   |map _ r hB =>
    have hlt:=(M5.1 hb).1;have hbx:({s with boxes:=s.boxes.set b (.mapX es bs c)}:St).boxes[b]?=Sd (.mapX es bs c):=by
     show(s.boxes.set b _)[b]?=_;rw[Om hlt]
    obtain⟨l,en,c',q1,q2,⟨q3,q4,rfl⟩,q5⟩:=hw.box b _ hbx;rw[hB]at q1;cases q1;have hlen:(s.boxes.set b (Box.mapX es bs c')).length=s.boxes.length:=PU ..;have hn:g.B (s.boxes.set b (Box.mapX es bs c')).length=Sf:=kv hw (K6 _);obtain⟨k1,k2⟩:=hw.newBox (.mapIter (Sd r) c' #[] c') rfl (.iter b c' []) ⟨w.heap.size,r,by simp[G.addB],bB _ _,by
     simp only[G.addB];rw[if_neg (by show ¬b=(s.boxes.set b _).length;rw[hlen];omega)];exact hB⟩
    refine⟨.pointer (Sd ⟨w.heap.size,0,Sf⟩),w.alloc (.mapIter (Sd r) c' #[] c'),_,?_,k1,k2,?_⟩
    ·simp[Instr.range,run_underlying hT,dR q2,newObj,Sem.run]
    ·have:R (g.addB (s.boxes.set b (Box.mapX es bs c')).length w.heap.size) (.box s.boxes.length 0) (.pointer (Sd ⟨w.heap.size,0,Sf⟩)):=.box _ 0 w.heap.size (by simp[G.addB])
     exact this
  ·exact hz.elim
 ·exact hz.elim
theorem A3{en:Array MapEntry}{c:Nat}{seen:Array Nat}(h:∀e∈en,e.born<c):((en.filter λe=>!seen.contains e.born).filter (·.born<c))=en.filter (λe=>!seen.contains e.born)∧((en.filter λe=>!seen.contains e.born).filter (·.born≥c)) = #[]:=by
 refine⟨?_,?_⟩
 ·rw[Array.filter_eq_self];intro e he;simpa using h e (RC.1 he).1
 ·rw[Rx];intro e he;have:=h e (RC.1 he).1
  simp;omega
theorem sd{n:Nat}(hn:0<n):∃(i:Nat)(w1:Sl),i<n∧(w1=w∨w1=w.drew)∧(choose (.mapNext n)).run P w=.ok i w1:=by
 by_cases h:(Question.mapNext n).forced=Sh
 ·exact⟨0,w,hn,.inl rfl,by simp only[choose,Sem.run,if_pos h]⟩
 ·exact⟨_,w.drew,QE _ hn,.inr rfl,by simp only[choose,Sem.run,if_neg h];rfl⟩
theorem Gc{r m c:Nat}{seen:Array Nat}{en:Array MapEntry}(hr:w.heap[r]?=Sd (.mapIter (Sd m) c seen c))(hm:w.heap[m]?=Sd (.map en c))(hb:∀e∈en,e.born<c) :
  (∃(w1:Sl)(j:Nat)(hj:j<en.size),(w1=w∨w1=w.drew)∧¬en[j].born∈seen ∧
   (Instr.next (.pointer (Sd ⟨r,0,Sf⟩)) Se T).run P w=.ok (.tuple #[.bool Sh,en[j].key,en[j].val]) {w1 with heap:=w1.heap.setIfInBounds r (.mapIter (Sd m) c (seen.push en[j].born) c)}) ∨
  ((∀e∈en,e.born∈seen)∧(Instr.next (.pointer (Sd ⟨r,0,Sf⟩)) Se T).run P w=.ok (.tuple #[.bool Se]) w):=by
 obtain⟨f1,f2⟩:=A3 (seen:=seen) hb;have hno:(!seen.isEmpty && !en.isEmpty&&en.all (·.born≥c))=Se:=by
  by_cases he:en.isEmpty=Sh
  ·simp[he]
  ·have:en.all (·.born≥c)=Se:=by
    rw[QN];intro ha;have hpos:0<en.size:=by
     rcases O8 en.size with q|q
     ·exact absurd (by simpa using q) he
     ·exact q
    have h1:=Array.all_eq_true.1 ha 0 hpos;have h2:=hb en[0] (R4 hpos);simp at h1;omega
   rw[this];simp
 have hg1:(getObj r).run P w=.ok (.mapIter (Sd m) c seen c) w:=by simp[getObj,Sem.run,hr]
 have hg2:=dR (P:=P) hm;by_cases hl:(en.filter λe=>!seen.contains e.born) = #[]
 ·right;refine⟨λe he=>?_,?_⟩
  ·rw[Rx]at hl;have:=hl e he
   simpa using this
  ·simp only[Instr.next,Sem.run_bind,hg1,Result.andThen_ok,hg2,hno,hl];simp[Sem.run,choose,Question.forced]
 ·left;generalize hL:(en.filter λe=>!seen.contains e.born)=l at f1 f2 hl;have hpos:0<l.size:=by
   rcases O8 l.size with q|q
   ·exact absurd (by simpa using q) hl
   ·exact q
  have hc:((if (l.filter λx=>decide (x.born<c)).isEmpty=Sh then #[Sf]else #[])++Array.map Sd (l.filter (λx=>decide (x.born<c))++l.filter λx=>decide (x.born≥c)))=l.map Sd:=by
   rw[f1,f2];have:¬l.isEmpty=Sh:=by simpa using hl
   rw[if_neg this];simp
  obtain⟨i,w1,hi,hw1,hch⟩:=sd (P:=P) (w:=w) hpos;have hei:l[i]∈en∧¬l[i].born∈seen:=by
   have hmem:∀x∈l,x∈en∧¬x.born∈seen:=λx hx=>by
    rw[←hL]at hx;have h2:=RC.1 hx;exact⟨h2.1,by simpa using h2.2⟩
   exact hmem _ (R4 hi)
  obtain⟨j,hj,ej⟩:=RN hei.1;have hr1:w1.heap[r]?=Sd (.mapIter (Sd m) c seen c):=by rcases hw1 with rfl|rfl<;>exact hr
  refine⟨w1,j,hj,hw1,by rw[ej];exact hei.2,?_⟩;have hset:∀o,(setObj r o).run P w1=.ok () {w1 with heap:=w1.heap.setIfInBounds r o}:=λo=>by simp[setObj,Sem.run,hr1]
  have hget:(l.map Sd)[i]?=Sd (Sd l[i]):=by simp[hi]
  have hsz:(l.map Sd).size=l.size:=by simp
  have hff:(Se=Sh)=False:=by simp
  simp only[Instr.next,Sem.run_bind,hg1,Result.andThen_ok,hg2,hno,hff,if_false,hL,hc,hsz,hch,hget,hset,ej,Sem.run_pure]
theorem J7(h:WRel w g s)(hd:R g d v)(hz:s6 d s Z) :
  ∃d' s',Z d' s'∧Ok P (Instr.next v Se T) w g d' s':=by
 unfold s6 at hz;split at hz
 ·rename_i i;split at hz
  ·rename_i mb c seen hi;split at hz
   ·rename_i es bs c' hm;obtain⟨rfl,hlt,hz1,hz2⟩:=hz;obtain⟨r,m,q1,q2,q3⟩:=h.box i _ hi;obtain⟨l,en,c2,p1,p2,⟨p3,p4,rfl⟩,p5⟩:=h.box mb _ hm;rw[q3]at p1;cases p1;have hv:v=.pointer (Sd ⟨r,0,Sf⟩):=by
     cases hd with
     |box _ _ blk hB=>rw[q1]at hB;cases hB;rfl
    subst hv;have hbn:∀e∈en,e.born<c2:=λe he=>by
     obtain⟨j,hj,rfl⟩:=RN he;exact(p5 j (by omega) hj).2.2.1
    rcases Gc (T:=T) (P:=P) q2 p2 hbn with ⟨w1,j,hj,hw1,hns,hrun⟩|⟨hall,hrun⟩
    ·have hW1:WRel w1 g s:=by rcases hw1 with rfl|rfl;exact h;exact h.drew
     have q21:w1.heap[r]?=Sd (.mapIter (Sd m) c2 seen.toArray c2):=by rcases hw1 with rfl|rfl<;>exact q2
     have hje:j<es.length:=by omega
     have hjb:j<bs.length:=by rw[p4];simp;exact hj
     have hbj:bs[j]=en[j].born:=by simp[p4]
     have hlr:=bU q21;refine⟨_,_,hz1 j hje hjb (by rw[hbj];simpa using hns),_,_,g,hrun,.refl g,?_,?_⟩
     ·refine hW1.setObjB ⟨_,hi,by simp⟩ q1 q21 (by simp) (by simp) (by simp) ⟨r,m,q1,?_,q3⟩;rw[OO,if_pos hlr,hbj];simp
     ·have:=p5 j hje hj
      refine .tup _ _ rfl λk h1 h2=>?_;match k,h1,h2 with
      |0,_,_=>exact .bool _
      |1,_,_=>exact this.1
      |2,_,_=>exact this.2.1
    ·refine⟨_,_,hz2 λx hx=>?_,_,w,g,hrun,.refl g,h,.tup _ _ rfl λk h1 h2=>?_⟩
     ·rw[p4]at hx;obtain⟨e,he,rfl⟩:=Og.1 hx;have:=hall e (by simpa using he)
      simpa using this
     ·match k,h1,h2 with
      |0,_,_=>exact .bool _
   ·exact hz.elim
  ·exact hz.elim
 ·exact hz.elim
def mO(d:D)(s:St)(K:D→St→Prop):Prop:=
 match d with
 |.box i 0=>match s.boxes[i]? with
  |some (.iter mb c seen)=>match s.boxes[mb]? with
   |some (.mapX es bs c')=>c'=c∧∃(j:Nat)(h:j<es.length)(h2:j<bs.length),seen.getLast?=Sd bs[j]∧K (.tup [es[j].1,es[j].2]) s
   |_=>False
  |_=>False
 |_=>False
theorem yj{K:D→St→Prop}(hK:∀d s,K d s→K' d s)(h:mO d s K):mO d s K':=by
 unfold mO at *;split at h
 ·split at h
  ·split at h
   ·obtain⟨h1,j,h2,h3,h4,h5⟩:=h;exact⟨h1,j,h2,h3,h4,hK _ _ h5⟩
   ·exact h
  ·exact h
 ·exact h
theorem vY{b:Nat}:∀(l:List MapEntry)(j:Nat)(hj:j<l.length),l[j].born=b→(∀(k:Nat)(h:k<l.length),l[k].born=b→k=j)→l.find? (λe=>e.born == b)=Sd l[j]
 | [],j,hj,_,_=>by simp at hj
 |x::l,0,_,h1,_=>by
  have:(x.born == b)=Sh:=by simpa using h1
  rw[List.find?_cons,this];rfl
 |x::l,j+1,hj,h1,h2=>by
  have:(x.born == b)=Se:=by
   rw[QN];intro e;have:=h2 0 (by simp) (by simpa using e)
   omega
  rw[List.find?_cons,this];exact vY l j (by simpa using hj) (by simpa using h1) λk hk e=>by
   have:=h2 (k+1) (by simpa using hk) (by simpa using e)
   omega
theorem G8(h:WRel w g s)(hd:R g d v)(hz:mO d s Z) :
  ∃d' s',Z d' s'∧Ok P (Instr.entry v) w g d' s':=by
 unfold mO at hz;split at hz
 ·rename_i i;split at hz
  ·rename_i mb c seen hi;split at hz
   ·rename_i es bs c' hm;obtain⟨rfl,j,hje,hjb,hl,hz⟩:=hz;obtain⟨r,m,q1,q2,q3⟩:=h.box i _ hi;obtain⟨l,en,c2,p1,p2,⟨p3,p4,rfl⟩,p5⟩:=h.box mb _ hm;rw[q3]at p1;cases p1;have hv:v=.pointer (Sd ⟨r,0,Sf⟩):=by
     cases hd with
     |box _ _ blk hB=>rw[q1]at hB;cases hB;rfl
    subst hv;have hj:j<en.size:=by omega
    have hbj:bs[j]=en[j].born:=by simp[p4]
    have hb:seen.toArray.back?=Sd en[j].born:=by rw[←hbj,←hl];simp
    have hf:en.find? (λe=>e.born == en[j].born)=Sd en[j]:=by
     rw[←Array.find?_toList];have:=vY (b:=en[j].born) en.toList j (by simpa using hj) (by simp) λk hk e=>by
      have hk':k<en.size:=by simpa using hk
      exact(p5 j hje hj).2.2.2 k hk' (by simpa using e)
     simpa using this
    refine⟨_,_,hz,.tuple #[en[j].key,en[j].val],w,g,?_,.refl g,h,.tup _ _ rfl λk h1 h2=>?_⟩
    ·have g1:(getObj r).run P w=.ok (.mapIter (Sd m) c2 seen.toArray c2) w:=by simp[getObj,Sem.run,q2]
     have g2:=dR (P:=P) p2;simp only[Instr.entry,Sem.run_bind,g1,Result.andThen_ok,hb,g2];have hne:(c2 != c2)=Se:=by simp
     simp only[hne,hf];rfl
    ·have:=p5 j hje hj
     match k,h1,h2 with
     |0,_,_=>exact this.1
     |1,_,_=>exact this.2.1
   ·exact hz.elim
  ·exact hz.elim
 ·exact hz.elim
def optW(x:Option (D×St))(K:D→St→Prop):Prop:=
 match x with
 |some (d,s)=>K d s
 |none=>False
theorem cz{x:Option (D×St)}{K:D→St→Prop}:optW x K↔∃d s,x=Sd (d,s)∧K d s:=by
 unfold optW;split
 ·rename_i d s;exact⟨λh=>⟨d,s,rfl,h⟩,λ⟨d',s',e,h⟩=>by cases e;exact h⟩
 ·exact⟨λh=>h.elim,λ⟨_,_,e,_⟩=>by cases e⟩
def LV(P:Sj)(f:D)(args:List D)(s:St)(K:D→St→Prop):Prop:=∃d s',dh P f args s d s'∧K d s'
def ifB(c:D)(x y:Prop):Prop:=
 match c with
 |.bool Sh=>x
 |.bool Se=>y
 |_=>False
def dg(P:Sj)(op:Op)(ρ:Sn→D)(s:St)(K:D→St→Prop):Prop:=
 match op with
 |.call {callee:=.value f,args,argTypes:=_}=>LV P (ρ f) (argsOf ρ args) s K
 |op=>optW (evalOp P ρ s op) K
variable {o:Sp}
theorem iX{ρ:Sn→D}{K:D→St→Prop}(h:dg P o.op ρ s K):∃d s',uW P o ρ s d s'∧K d s':=by
 unfold dg at h;split at h
 ·rename_i f args ts he;obtain⟨d,s',h1,h2⟩:=h;exact⟨d,s',.inr ⟨f,args,ts,he,h1⟩,h2⟩
 ·obtain⟨d,s',h1,h2⟩:=cz.1 h;exact⟨d,s',.inl h1,h2⟩
def gdD(b:Bool):D→D
 |.tup []=>.bool (!b)
 |d=>d
def guardOf(full:List Sp)(g:Option (Nat×Bool)):Option (Option (Nat×Bool)):=
 match g with
 |none=>Sd Sf
 |some (j,b)=>match full[j]? with
  |some p=>match p.dst with
   |some t=>Sd (Sd (t,b))
   |none=>Sf
  |none=>Sf
def cE(P:Sj)(full:List Sp):List Sp→List D→St→(List D→St→Prop)→Prop
 | [],e,s,K=>K e s
 |o::os,e,s,K =>
  match guardOf full o.guard with
  |some Sf=>dg P o.op (val e) s λd s'=>cE P full os (putD e o.dst d) s' K
  |some (Sd (t,Sh))=>ifB (gdD Sh (e.getD t .junk)) (dg P o.op (val e) s λd s'=>cE P full os (putD e o.dst d) s' K) (cE P full os (putD e o.dst (.tup [])) s K)
  |some (Sd (t,Se))=>ifB (gdD Se (e.getD t .junk)) (cE P full os (putD e o.dst (.tup [])) s K) (dg P o.op (val e) s λd s'=>cE P full os (putD e o.dst d) s' K)
  |none=>False
def vK:Su→Prop
 |.normal=>True
 |.exit _=>True
 |.ret=>True
 |_=>False
def xh(O0:Nat→Prop)(g:G)(Q:Su→List D→St→Prop):Su→Act→Sl→Prop:=λx a' w'=>vK x∧∃e' s' g',g.le g'∧ARel O0 a' w' g' e' s'∧Q x e' s'
def AWp(ro:Option Nat)(P:Sj)(c:Sq)(Q:Su→List D→St→Prop)(e:List D)(s:St):Prop:=
 ∀O0 a w g,ARel O0 a w g e s→c.wpIn (W ro) 0 P (xh O0 g Q) a w
theorem kf{O0:Nat→Prop}{g':G}{Q Q':Su→List D→St→Prop}(hg:g.le g')(hQ:∀x e s,Q x e s→Q' x e s){x:Su}{a:Act}{w:Sl}(h:xh O0 g' Q x a w):xh O0 g Q' x a w:=by
 obtain⟨hx,e',s',g'',h1,h2,h3⟩:=h;exact⟨hx,e',s',g'',hg.trans h1,h2,hQ _ _ _ h3⟩
theorem AWp.mono{ro:Option Nat}{P:Sj}{c:Sq}{Q Q':Su→List D→St→Prop}{e:List D}{s:St}(h:AWp ro P c Q e s)(hQ:∀x e s,Q x e s→Q' x e s):AWp ro P c Q' e s:=
 λO0 a w g ha=>wpIn_mono (h O0 a w g ha) λ_ _ _ hc=>kf (.refl g) hQ hc
theorem ARel.step{O0:Nat→Prop}{a:Act}{w w':Sl}{g g':G}{e:List D}{s s':St}(h:ARel O0 a w g e s)(hg:g.le g')(hw:WRel w' g' s')(dst:Option Tmp){d:D}{v:So}(hd:R g' d v) :
  ARel O0 (a.put dst v) w' g' (putD e dst d) s':=by
 obtain⟨is,h1,h2,h3⟩:=h.df;refine⟨(h.env.mono hg).put dst hd,hw,λb hb=>hg.O b (h.sub b hb),is,h1,λi hi=>⟨hg.O i (h2 i hi).1,(h2 i hi).2⟩,?_⟩;have:(a.put dst v).defers=a.defers:=by cases dst<;>rfl
 rw[this,h3]
theorem ARel.mono{O0:Nat→Prop}{a:Act}{w:Sl}{g:G}{e:List D}{s:St}(h:ARel O0 a w g e s):ARel O0 a w.drew g e s:=⟨h.env,h.wr.drew,h.sub,h.df⟩
variable {a:Act}{e:List D}{j t:Nat}{p:Sp}
theorem yd{full:Array Sp}{want b:Bool}(he:dM g e a.tmps)(hj:full.toList[j]?=Sd p)(hd:p.dst=Sd t)(hb:e.getD t .junk=.bool b) :
  yielded full a.tmps j=Sd b:=by
 have ht:t<e.length:=by
  rcases OU t e.length with q|q
  ·exact q
  ·simp[Pi,Oz q]at hb
 have ht':t<a.tmps.size:=he.1▸ht;have hR:=he.2 t ht ht';simp only[Pi,K4 ht,OB]at hb;rw[hb]at hR;have hj':full[j]?=Sd p:=by simpa using hj
 unfold yielded;simp only[hj',OY,hd];rw[OI ht'];cases hv:a.tmps[t]<;>rw[hv]at hR<;>cases hR;rfl
theorem GX{b c:Bool}{v:D}(h:gdD b v=.bool c):v=.bool c∨(v=.tup []∧c = !b):=by
 unfold gdD at h;split at h
 ·right;cases h;exact⟨rfl,rfl⟩
 ·left;exact h
theorem A1{full:Array Sp}(he:dM g e a.tmps)(hj:full.toList[j]?=Sd p)(hd:p.dst=Sd t)(hb:e.getD t .junk=.tup []) :
  yielded full a.tmps j=Sf:=by
 have ht:t<e.length:=by
  rcases OU t e.length with q|q
  ·exact q
  ·simp[Pi,Oz q]at hb
 have ht':t<a.tmps.size:=he.1▸ht;have hR:=he.2 t ht ht';simp only[Pi,K4 ht,OB]at hb;rw[hb]at hR;have hj':full[j]?=Sd p:=by simpa using hj
 unfold yielded;simp only[hj',OY,hd];rw[OI ht'];cases hv:a.tmps[t]<;>rw[hv]at hR<;>cases hR<;>rfl
theorem tn{full:Array Sp}{b c:Bool}(he:dM g e a.tmps)(hj:full.toList[j]?=Sd p)(hd:p.dst=Sd t)(hb:gdD b (e.getD t .junk)=.bool c) :
  (yielded full a.tmps j == Sd b)=(c == b):=by
 rcases GX hb with h|⟨h,rfl⟩
 ·rw[yd (want:=b) he hj hd h];rfl
 ·rw[A1 he hj hd h];cases b<;>rfl
theorem vy{ro:Option Nat}{full:Array Sp}{K:List D→St→Prop}{O0:Nat→Prop}{Q:Su→Act→Sl→Prop} :
  ∀(l:List Nat)(os:List Sp),l.length=os.length→(∀(i:Nat)(h1:i<l.length)(h2:i<os.length),full[l[i]]?=Sd os[i])→∀(e:List D)(s:St)(a:Act)(w:Sl)(g:G),ARel O0 a w g e s→cE P full.toList os e s K →
   (∀a' w' g' e' s',g.le g'→ARel O0 a' w' g' e' s'→K e' s'→Q .normal a' w')→wpOpsIn (W ro) 0 P full Q l a w:=by
 intro l;induction l with
 |nil =>
  intro os hl _ e s a w g ha h hK;cases os with
  |nil=>exact hK a w g e s (.refl g) ha h
  |cons o os=>simp at hl
 |cons i l ih =>
  intro os hl hget e s a w g ha h hK;cases os with
  |nil=>simp at hl
  |cons o os =>
   have hi:full[i]?=Sd o:=hget 0 (by simp) (by simp);have hrest:=ih os (by simpa using hl) (λj h1 h2=>hget (j+1) (by simpa using h1) (by simpa using h2));have hstep:dg P o.op (val e) s (λd s'=>cE P full.toList os (putD e o.dst d) s' K)→o.wpIn (W ro) 0 P a w (wpOpsIn (W ro) 0 P full Q l) Q:=by
    intro hs;obtain⟨d,s',h1,h2⟩:=iX hs;refine Ci h1 (λx _=>li ha.env x) ha.wr λv w' g' hle hw' hv=>?_;exact hrest _ s' _ w' g' (ha.step hle hw' o.dst hv) h2 λa' w'' g'' e' s'' hle' ha' hk=>hK a' w'' g'' e' s'' (hle.trans hle') ha' hk
   have hskip:cE P full.toList os (putD e o.dst (.tup [])) s K→wpOpsIn (W ro) 0 P full Q l (a.put o.dst undef) w:=λhs =>
    hrest _ s _ w g (ha.step (.refl g) ha.wr o.dst (.tup [] #[] rfl (λi h1=>by simp at h1))) hs hK
   simp only[wpOpsIn,hi];simp only[cE]at h;cases hg:o.guard with
   |none =>
    rw[hg]at h;simp only[guardOf]at h;simp only[Region.wanted,hg,if_true];exact hstep h
   |some jb =>
    obtain⟨j,b⟩:=jb;rw[hg]at h;simp only[guardOf]at h;cases hj:full.toList[j]? with
    |none=>rw[hj]at h;exact h.elim
    |some p =>
     rw[hj]at h;cases hd:p.dst with
     |none=>simp only[hd]at h
     |some t =>
      simp only[hd]at h;have key:∀c,gdD b (e.getD t .junk)=.bool c→(yielded full a.tmps j == Sd b)=(c == b):=λc hc=>tn ha.env hj hd hc;simp only[Region.wanted,hg];cases b with
      |true =>
       simp only[ifB]at h;split at h
       ·rename_i hc;rw[key _ hc];exact hstep h
       ·rename_i hc;rw[key _ hc];exact⟨λ_ _=>trivial,hskip h⟩
       ·exact h.elim
      |false =>
       simp only[ifB]at h;split at h
       ·rename_i hc;rw[key _ hc];exact⟨λ_ _=>trivial,hskip h⟩
       ·rename_i hc;rw[key _ hc];exact hstep h
       ·exact h.elim
def LW(P:Sj)(f:D)(args:List D)(s:St)(K:D→St→Prop):Prop:=CallVQ P f args s K
def jp(P:Sj)(op:Op)(ρ:Sn→D)(s:St)(K:D→St→Prop):Prop:=
 match op with
 |.call {callee:=.value f,args,argTypes:=_}=>LW P (ρ f) (argsOf ρ args) s K
 |.range T x=>match P.underlying T with
  |some (.map _ _)=>mC (ρ x) s K
  |_=>False
 |.next x Se=>s6 (ρ x) s K
 |.entry x=>mO (ρ x) s K
 |op=>optW (evalOp P ρ s op) K
theorem F7{ro:Option Nat}{ρ:Sn→D}{K:Act→Sl→Prop}{Q:Su→Act→Sl→Prop}
  (h:jp P o.op ρ s Z) (hρ:∀x∈o.op.operands,R g (ρ x) (a.eval x)) (hw:WRel w g s)
  (hK:∀d s' v w' g',Z d s'→g.le g'→WRel w' g' s'→R g' d v→K (a.put o.dst v) w'):o.wpIn (W ro) 0 P a w K Q:=by
 unfold jp at h;split at h
 ·rename_i f args ts he;exact CW he h hρ hw hK
 ·rename_i T x he;split at h
  ·rename_i K1 K2 hT;obtain⟨d',s',hz,v,w',g',h1,h2,h3,h4⟩:=Gj hT hw (hρ x (by rw[he];simp[Op.operands])) h;refine jJ (m:=.value v) (w':=w') ?_ (by intro c;rw[he];simp) (hK d' s' v w' g' hz h2 h3 h4);simp only[execOp,he,Sem.run_bind,h1,Result.andThen_ok,Sem.run_pure]
  ·exact h.elim
 ·rename_i x he;obtain⟨d',s',hz,v,w',g',h1,h2,h3,h4⟩:=J7 (P:=P) (T:=o.type) hw (hρ x (by rw[he];simp[Op.operands])) h;refine jJ (m:=.value v) (w':=w') ?_ (by intro c;rw[he];simp) (hK d' s' v w' g' hz h2 h3 h4);simp only[execOp,he,Sem.run_bind,h1,Result.andThen_ok,Sem.run_pure]
 ·rename_i x he;obtain⟨d',s',hz,v,w',g',h1,h2,h3,h4⟩:=G8 (P:=P) hw (hρ x (by rw[he];simp[Op.operands])) h;refine jJ (m:=.value v) (w':=w') ?_ (by intro c;rw[he];simp) (hK d' s' v w' g' hz h2 h3 h4);simp only[execOp,he,Sem.run_bind,h1,Result.andThen_ok,Sem.run_pure]
 ·obtain⟨d,s',h1,h2⟩:=cz.1 h;exact Ci (.inl h1) hρ hw λv w' g'=>hK d s' v w' g' h2
theorem Ap{op:Op}{ρ:Sn→D}{K:D→St→Prop}(h:jp P op ρ s K)(hK:∀d s',K d s'→K' d s'):jp P op ρ s K':=by
 unfold jp at h⊢;split at h
 ·exact CallVQ.mono h hK
 ·split at h
  ·exact x8 hK h
  ·exact h.elim
 ·exact AO hK h
 ·exact yj hK h
 ·obtain⟨d,s',h1,h2⟩:=cz.1 h;exact cz.2 ⟨d,s',h1,hK _ _ h2⟩
def jl(P:Sj)(full:List Sp):List Sp→List D→St→(List D→St→Prop)→Prop
 | [],e,s,K=>K e s
 |o::os,e,s,K =>
  match guardOf full o.guard with
  |some Sf=>jp P o.op (val e) s λd s'=>jl P full os (putD e o.dst d) s' K
  |some (Sd (t,Sh))=>ifB (gdD Sh (e.getD t .junk)) (jp P o.op (val e) s λd s'=>jl P full os (putD e o.dst d) s' K) (jl P full os (putD e o.dst (.tup [])) s K)
  |some (Sd (t,Se))=>ifB (gdD Se (e.getD t .junk)) (jl P full os (putD e o.dst (.tup [])) s K) (jp P o.op (val e) s λd s'=>jl P full os (putD e o.dst d) s' K)
  |none=>False
theorem mB{ro:Option Nat}{full:Array Sp}{K:List D→St→Prop}{O0:Nat→Prop}{Q:Su→Act→Sl→Prop} :
  ∀(l:List Nat)(os:List Sp),l.length=os.length→(∀(i:Nat)(h1:i<l.length)(h2:i<os.length),full[l[i]]?=Sd os[i])→∀(e:List D)(s:St)(a:Act)(w:Sl)(g:G),ARel O0 a w g e s→jl P full.toList os e s K →
   (∀a' w' g' e' s',g.le g'→ARel O0 a' w' g' e' s'→K e' s'→Q .normal a' w')→wpOpsIn (W ro) 0 P full Q l a w:=by
 intro l;induction l with
 |nil =>
  intro os hl _ e s a w g ha h hK;cases os with
  |nil=>exact hK a w g e s (.refl g) ha h
  |cons o os=>simp at hl
 |cons i l ih =>
  intro os hl hget e s a w g ha h hK;cases os with
  |nil=>simp at hl
  |cons o os =>
   have hi:full[i]?=Sd o:=hget 0 (by simp) (by simp);have hrest:=ih os (by simpa using hl) (λj h1 h2=>hget (j+1) (by simpa using h1) (by simpa using h2));have hstep:jp P o.op (val e) s (λd s'=>jl P full.toList os (putD e o.dst d) s' K)→o.wpIn (W ro) 0 P a w (wpOpsIn (W ro) 0 P full Q l) Q:=by
    intro hs;refine F7 hs (λx _=>li ha.env x) ha.wr λd s' v w' g' h2 hle hw' hv=>?_;exact hrest _ s' _ w' g' (ha.step hle hw' o.dst hv) h2 λa' w'' g'' e' s'' hle' ha' hk=>hK a' w'' g'' e' s'' (hle.trans hle') ha' hk
   have hskip:jl P full.toList os (putD e o.dst (.tup [])) s K→wpOpsIn (W ro) 0 P full Q l (a.put o.dst undef) w:=λhs =>
    hrest _ s _ w g (ha.step (.refl g) ha.wr o.dst (.tup [] #[] rfl (λi h1=>by simp at h1))) hs hK
   simp only[wpOpsIn,hi];simp only[jl]at h;cases hg:o.guard with
   |none =>
    rw[hg]at h;simp only[guardOf]at h;simp only[Region.wanted,hg,if_true];exact hstep h
   |some jb =>
    obtain⟨j,b⟩:=jb;rw[hg]at h;simp only[guardOf]at h;cases hj:full.toList[j]? with
    |none=>rw[hj]at h;exact h.elim
    |some p =>
     rw[hj]at h;cases hd:p.dst with
     |none=>simp only[hd]at h
     |some t =>
      simp only[hd]at h;have key:∀c,gdD b (e.getD t .junk)=.bool c→(yielded full a.tmps j == Sd b)=(c == b):=λc hc=>tn ha.env hj hd hc;simp only[Region.wanted,hg];cases b with
      |true =>
       simp only[ifB]at h;split at h
       ·rename_i hc;rw[key _ hc];exact hstep h
       ·rename_i hc;rw[key _ hc];exact⟨λ_ _=>trivial,hskip h⟩
       ·exact h.elim
      |false =>
       simp only[ifB]at h;split at h
       ·rename_i hc;rw[key _ hc];exact⟨λ_ _=>trivial,hskip h⟩
       ·rename_i hc;rw[key _ hc];exact hstep h
       ·exact h.elim
def thenQ(K:List D→St→Prop)(Q:Su→List D→St→Prop):Su→List D→St→Prop
 |.normal,e,s=>K e s
 |x,e,s=>Q x e s
def mS(id:Nat)(Q:Su→List D→St→Prop):Su→List D→St→Prop
 |.exit id',e,s=>if id'=id then Q .normal e s else Q (.exit id') e s
 |x,e,s=>Q x e s
theorem ym{ro:Option Nat}{id:Nat}{ops:Array Sp}{Q:Su→List D→St→Prop}(h:jl P ops.toList ops.toList e s (Q .normal)):AWp ro P (.region id ops Se) Q e s:=by
 intro O0 a w g ha;refine wpIn_region (mB (O0:=O0) (Ol ops.size) ops.toList (by simp) (λi h1 h2=>by simp) e s a w g ha h λa' w' g' e' s' hle ha' hk=>⟨trivial,e',s',g',hle,ha',hk⟩)
theorem By{ro:Option Nat}{id:Nat}{ops:Array Sp}{Q:Su→List D→St→Prop}(h:cE P ops.toList ops.toList e s (Q .normal)):AWp ro P (.region id ops Se) Q e s:=by
 intro O0 a w g ha;refine wpIn_region (vy (O0:=O0) (Ol ops.size) ops.toList (by simp) (λi h1 h2=>by simp) e s a w g ha h λa' w' g' e' s' hle ha' hk=>⟨trivial,e',s',g',hle,ha',hk⟩)
variable {y:Sq}
theorem xl{ro:Option Nat}{x:Sq}{Q:Su→List D→St→Prop}(h:AWp ro P x (thenQ (AWp ro P y Q) Q) e s):AWp ro P (.seq x y) Q e s:=by
 intro O0 a w g ha;refine wpIn_seq (wpIn_mono (h O0 a w g ha) λx' a' w' hc=>?_);obtain⟨hx,e',s',g',hle,ha',hq⟩:=hc;cases x'<;>first
  |exact hx.elim
  |exact wpIn_mono (hq O0 a' w' g' ha') λ_ _ _ hc=>kf hle (λ_ _ _ h=>h) hc
  |exact⟨hx,e',s',g',hle,ha',hq⟩
theorem uu{ro:Option Nat}{c:Sn}{x:Sq}{Q:Su→List D→St→Prop}(h:ifB (val e c) (AWp ro P x Q e s) (AWp ro P y Q e s)):AWp ro P (.cond c x y) Q e s:=by
 intro O0 a w g ha;have hc:=li ha.env c;unfold ifB at h;split at h
 ·rename_i hv;rw[hv]at hc;cases hcc:a.eval c<;>rw[hcc]at hc<;>cases hc;exact wpIn_cond (t:=Sh) hcc (h O0 a w g ha)
 ·rename_i hv;rw[hv]at hc;cases hcc:a.eval c<;>rw[hcc]at hc<;>cases hc;exact wpIn_cond (t:=Se) hcc (h O0 a w g ha)
 ·exact h.elim
variable {c:Sq}
theorem wc{ro:Option Nat}{id:Nat}{Q:Su→List D→St→Prop}(h:AWp ro P c (mS id Q) e s):AWp ro P (.block id c) Q e s:=by
 intro O0 a w g ha;refine wpIn_block (wpIn_mono (h O0 a w g ha) λx' a' w' hc=>?_);obtain⟨hx,e',s',g',hle,ha',hq⟩:=hc;cases x' with
 |exit id' =>
  simp only[mS]at hq;simp only[Exit.inBlock];split
  ·rename_i he;rw[if_pos he]at hq;exact⟨trivial,e',s',g',hle,ha',hq⟩
  ·rename_i he;rw[if_neg he]at hq;exact⟨trivial,e',s',g',hle,ha',hq⟩
 |_=>exact⟨hx,e',s',g',hle,ha',hq⟩
theorem zO{ro:Option Nat}{Q:Su→List D→St→Prop}(h:Q .normal e s):AWp ro P .skip Q e s:=
 λO0 a w g ha=>wpIn_skip ⟨trivial,e,s,g,.refl g,ha,h⟩
variable {l:Nat}
theorem wb{ro:Option Nat}{Q:Su→List D→St→Prop}(h:Q .normal e s):AWp ro P (.label l) Q e s:=
 λO0 a w g ha=>wpIn_label ⟨trivial,e,s,g,.refl g,ha,h⟩
theorem zP{ro:Option Nat}{id:Nat}{Q:Su→List D→St→Prop}(h:Q (.exit id) e s):AWp ro P (.exit id) Q e s:=
 λO0 a w g ha=>wpIn_exit ⟨trivial,e,s,g,.refl g,ha,h⟩
theorem C1{ro:Option Nat}{Q:Su→List D→St→Prop}(h:Q .ret e s):AWp ro P .ret Q e s:=
 λO0 a w g ha=>wpIn_ret ⟨trivial,e,s,g,.refl g,ha,h⟩
theorem uN{id:Nat}:∀{k k':List Item},exitTo id k=Sd k'→k'.length≤k.length:=by
  intro k;induction k with
  |nil=>intro k' h;simp[exitTo]at h
  |cons x k ih =>
    intro k' h;cases x<;>simp only[exitTo]at h<;>first
      |(have:=ih h;simp;omega)
      | (split at h
         · cases h;simp
         · have:=ih h;simp;omega)
theorem uD{I:Machine→Prop}{m1 m2 m' t:Machine}(h1:step P m1=.next m')(h2:step P m2=.next m')(hI:I m2)(h:StepsIn I P m1 t)(hne:m1≠t):StepsIn I P m2 t:=by
 cases h with
 |refl=>exact absurd rfl hne
 |head hi hs ht =>
  rw[h1]at hs;cases hs;exact .head hI h2 ht
theorem vT{fr fr':Frame}{cs cs':List Frame}{w':Sl}(h:lone fr cs w=lone fr' cs' w'):fr=fr':=by
 have:(lone fr cs w).gs=(lone fr' cs' w').gs:=by rw[h]
 simp[lone]at this;exact this.1
theorem xP{ro:Option Nat}{Q:Su→Act→Sl→Prop}(hQ:∀x a w,Q x a w→vK x)
  (h:c.wpIn (W ro) 0 P (Exit.then ((Code.loop c).wpIn (W ro) 0 P Q) Q) a w):(Code.loop c).wpIn (W ro) 0 P Q a w:=by
 intro b k cs hro hb hr;obtain⟨e,a₁,w₁,hq,harr⟩:=h b (.inLoop c::k) cs hro hb hr;have hl:∀a w,step P (lone (b.atR a (.code (.loop c)::k)) cs w)=.next (lone (b.atR a (.code c::.inLoop c::k)) cs w):=λa w=>stepR_loop;have hil:∀a w,step P (lone (b.atR a (.inLoop c::k)) cs w)=.next (lone (b.atR a (.code c::.inLoop c::k)) cs w):=λa w=>stepR_inLoop;have hf:∀m,Machine.fenced P (W ro) m:=λm=>by
  have:=fenced_wide P m
  exact this
 cases e with
 |normal =>
  obtain⟨e₂,a₂,w₂,hq₂,harr₂⟩:=hq b k cs hro hb hr;refine⟨e₂,a₂,w₂,hq₂,?_⟩;have hpl:=hQ _ _ _ hq₂;have s0:StepsIn (Machine.fenced P (W ro)) P (lone (b.atR a (.code (.loop c)::k)) cs w) (lone (b.atR a₁ (.inLoop c::k)) cs w₁):=.head (hf _) (hl a w) harr;have key:∀t,StepsIn (Machine.fenced P (W ro)) P (lone (b.atR a₁ (.code (.loop c)::k)) cs w₁) t→lone (b.atR a₁ (.code (.loop c)::k)) cs w₁≠t→StepsIn (Machine.fenced P (W ro)) P (lone (b.atR a (.code (.loop c)::k)) cs w) t:=λt ht hne =>
   s0.trans (uD (hl a₁ w₁) (hil a₁ w₁) (hf _) ht hne)
  have ne_todo:∀a' w' todo,todo≠.code (.loop c)::k→lone (b.atR a₁ (.code (.loop c)::k)) cs w₁≠lone (b.atR a' todo) cs w':=by
   intro a' w' todo hne he;have:=vT he
   have h2:(b.atR a₁ (.code (.loop c)::k)).todo=(b.atR a' todo).todo:=by rw[this]
   exact hne (by simpa[Frame.atR]using h2.symm)
  cases e₂ with
  |normal=>exact key _ harr₂ (ne_todo _ _ _ (λe=>by have:=congrArg Qh e;simp at this))
  |exit id =>
   refine⟨λk' hk=>key _ (harr₂.1 k' hk) (ne_todo _ _ _ (λe=>by have:=congrArg Qh e;have:=uN hk;simp at *;omega)),λhr' hk=>?_⟩;obtain⟨k₁,h1,h2⟩:=harr₂.2 hr' hk;exact⟨k₁,h1,key _ h2 (ne_todo _ _ _ (by simp))⟩
  |ret =>
   refine⟨λhr'=>?_,λhr'=>?_⟩
   ·obtain⟨todo,hs⟩:=harr₂.1 hr';refine⟨todo,key _ hs λhe=>?_⟩;have:=vT he
    have h2:(b.atR a₁ (.code (.loop c)::k)).mode=FrameMode.returning:=by rw[this]
    simp[Frame.atR]at h2
   ·obtain⟨k₁,h2⟩:=harr₂.2 hr';exact⟨k₁,key _ h2 (ne_todo _ _ _ (by simp))⟩
  |goto l=>exact hpl.elim
  |panic ch=>exact hpl.elim
  |outgrown=>exact hpl.elim
 |exit id=>exact⟨_,a₁,w₁,hq,.of_steps (.one (hf _) (hl a w)) (.pass (x:=.inLoop c) rfl (λ_ _=>.inl (by simp)) harr)⟩
 |goto l=>exact⟨_,a₁,w₁,hq,.of_steps (.one (hf _) (hl a w)) (.pass (x:=.inLoop c) rfl (λ_ _=>.inl (by simp)) harr)⟩
 |ret=>exact⟨_,a₁,w₁,hq,.of_steps (.one (hf _) (hl a w)) (.pass (x:=.inLoop c) rfl (λ_ _=>.inl (by simp)) harr)⟩
 |panic ch=>exact⟨_,a₁,w₁,hq,.of_steps (.one (hf _) (hl a w)) (.pass (x:=.inLoop c) rfl (λ_ _=>.inl (by simp)) harr)⟩
 |outgrown=>exact⟨_,a₁,w₁,hq,.of_steps (.one (hf _) (hl a w)) (.pass (x:=.inLoop c) rfl (λ_ _=>.inl (by simp)) harr)⟩
theorem Hm{ro:Option Nat}{Q:Su→List D→St→Prop}(h:AWp ro P c (thenQ (AWp ro P (.loop c) Q) Q) e s):AWp ro P (.loop c) Q e s:=by
 intro O0 a w g ha;refine xP (λx a w h=>h.1) (wpIn_mono (h O0 a w g ha) λx' a' w' hc=>?_);obtain⟨hx,e',s',g',hle,ha',hq⟩:=hc;cases x'<;>first
  |exact hx.elim
  |exact wpIn_mono (hq O0 a' w' g' ha') λ_ _ _ hc=>kf hle (λ_ _ _ h=>h) hc
  |exact⟨hx,e',s',g',hle,ha',hq⟩
def kG:D→D→Prop:=λd d'=>∀g v,R g d v→R g d' v
variable {e':List D}
theorem Hl{ro:Option Nat}{Q:Su→List D→St→Prop}(h:AWp ro P c Q e' s)(hl:e.length=e'.length)(hw:∀(i:Nat)(h1:i<e.length)(h2:i<e'.length),kG e[i] e'[i]):AWp ro P c Q e s:=by
 intro O0 a w g ha;exact h O0 a w g ⟨⟨by rw[←hl];exact ha.env.1,λi h1 h2=>hw i (by omega) h1 g _ (ha.env.2 i (by omega) h2)⟩,ha.wr,ha.sub,ha.df⟩
def keep(ks:List Nat)(e:List D):List D:=e.zipIdx.map λ(d,i)=>if ks.contains i then d else .junk
theorem Hn{ro:Option Nat}{Q:Su→List D→St→Prop}(ks:List Nat)(h:AWp ro P c Q (keep ks e) s):AWp ro P c Q e s:=by
 refine Hl h (by simp[keep]) λi h1 h2 g v hv=>?_;simp only[keep,OL,List.getElem_zipIdx];split
 ·simpa using hv
 ·exact .junk _
def cw(ro:Option Nat)(P:Sj):Sq→(Su→List D→St→Prop)→List D→St→Prop
 |.skip,Q,e,s=>Q .normal e s
 |.label _,Q,e,s=>Q .normal e s
 |.exit id,Q,e,s=>Q (.exit id) e s
 |.ret,Q,e,s=>Q .ret e s
 |.seq a b,Q,e,s=>cw ro P a (thenQ (cw ro P b Q) Q) e s
 |.cond c a b,Q,e,s=>ifB (val e c) (cw ro P a Q e s) (cw ro P b Q e s)
 |.block id b,Q,e,s=>cw ro P b (mS id Q) e s
 |.region id ops Se,Q,e,s=>cE P ops.toList ops.toList e s (Q .normal)
 |c,Q,e,s=>AWp ro P c Q e s
theorem kL{K K':List D→St→Prop}{Q:Su→List D→St→Prop}(h:∀e s,K e s→K' e s):∀x e s,thenQ K Q x e s→thenQ K' Q x e s:=by
 intro x e s hx;cases x<;>first|exact h _ _ hx|exact hx
theorem eT{c:D}{x y x' y':Prop}(h:ifB c x y)(hx:x→x')(hy:y→y'):ifB c x' y':=by
 unfold ifB at *;split<;>simp_all
theorem NT{ro:Option Nat}(c:Sq):∀(Q:Su→List D→St→Prop)(e:List D)(s:St),cw ro P c Q e s→AWp ro P c Q e s:=by
 induction c with
 |skip=>intro Q e s h;exact zO h
 |label l=>intro Q e s h;exact wb h
 |exit id=>intro Q e s h;exact zP h
 |ret=>intro Q e s h;exact C1 h
 |seq a b iha ihb=>intro Q e s h;exact xl ((iha _ e s h).mono (kL λe s h=>ihb Q e s h))
 |cond c a b iha ihb=>intro Q e s h;exact uu (eT h (iha Q e s) (ihb Q e s))
 |block id b ih=>intro Q e s h;exact wc (ih _ e s h)
 |region id ops draw =>
  intro Q e s h;cases draw with
  |false=>exact By h
  |true=>exact h
 |_=>intro Q e s h;exact h
def resD(P:Sj)(e:List D)(s:St):List ResultVar→Option (List D)
 | []=>Sd []
 |.tmp t::rs=>(resD P e s rs).map λl=>(e.getD t .junk).plain::l
 |.cell a T::rs=>match evLoad P T (e.getD a .junk) s,resD P e s rs with
  |some d,Sd l=>Sd (d.plain::l)
  |_,_=>Sf
def kK:List D→D
 | [d]=>d
 |ds=>.tup ds
def retQ(P:Sj)(rs:List ResultVar)(s:St)(r:D)(s':St):Su→List D→St→Prop
 |.normal,e,t=>∃ds,resD P e t rs=Sd ds∧kK ds=r∧Leave s t s'∧Bd s'.boxes.length s'.ctr r
 |.ret,e,t=>∃ds,resD P e t rs=Sd ds∧kK ds=r∧Leave s t s'∧Bd s'.boxes.length s'.ctr r
 |_,_,_=>False
theorem xc{tmps:Array So}(h:dM g e tmps)(t:Nat):R g (e.getD t .junk) (tmps.getD t undef):=li (a:=⟨tmps,[]⟩) h (.tmp t)
def Aw(tmps:Array So):ResultVar→Sem So
 |.tmp t=>pure (tmps.getD t undef)
 |.cell a t=>do loadVar t (←asAddr (tmps.getD a undef))
theorem JS{tmps:Array So}(hE:dM g e tmps)(hw:WRel w g s):∀(rs:List ResultVar)(ds:List D),resD P e s rs=Sd ds →
  ∃vs:List So,(rs.mapM (Aw tmps)).run P w=Result.ok vs w∧ds.length=vs.length∧∀(i:Nat)(h1:i<ds.length)(h2:i<vs.length),R g ds[i] vs[i]:=by
 intro rs;induction rs with
 |nil=>intro ds h;cases h;exact⟨[],by simp,rfl,λi h1=>by simp at h1⟩
 |cons r rs ih =>
  intro ds h;cases r with
  |tmp t =>
   simp only[resD]at h;obtain⟨l,hl,rfl⟩:=map_some h;obtain⟨vs,h1,h2,h3⟩:=ih l hl;refine⟨tmps.getD t undef::vs,?_,by simp[h2],λi x y=>?_⟩
   ·rw[QR];simp only[Aw,Sem.run_bind,Sem.run_pure,Result.andThen_ok,h1]
   ·cases i with
    |zero=>exact(xc hE t).plain
    |succ i=>exact h3 i (by simpa using x) (by simpa using y)
  |cell a T =>
   simp only[resD]at h;split at h
   ·rename_i d l hd hl;cases h;obtain⟨vs,h1,h2,h3⟩:=ih l hl;have ha:=xc hE a;obtain⟨v,hr,hv⟩:=zd (P:=P) hw ha hd;have hr':∃ad,tmps.getD a undef=.pointer (Sd ad)∧(loadVar T ad).run P w=.ok v w:=by
     cases hq:tmps.getD a undef<;>rw[hq]at hr<;>simp[Instr.loadAt,Instr.sureAddr,Result.andThen]at hr;rename_i ad;cases ad with
     |none=>simp[Instr.sureAddr]at hr
     |some ad=>exact⟨ad,rfl,by simpa[Instr.sureAddr]using hr⟩
    obtain⟨ad,e1,e2⟩:=hr';refine⟨v::vs,?_,by simp[h2],λi x y=>?_⟩
    ·rw[QR];simp only[Aw,e1,asAddr,Sem.run_bind,Sem.run_pure,Result.andThen_ok,h1,e2]
    ·cases i with
     |zero=>exact hv.plain
     |succ i=>exact h3 i (by simpa using x) (by simpa using y)
   ·cases h
theorem sO{fn:Func}{ds:List D}(hE:dM g e a.tmps)(hw:WRel w g s)(h:resD P e s fn.results.toList=Sd ds) :
  ∃v,(results fn a.tmps).run P w=.ok v w∧R g (kK ds) v:=by
 obtain⟨vs,h1,h2,h3⟩:=JS hE hw _ _ h;have hr:(fn.results.mapM (Aw a.tmps)).run P w=.ok vs.toArray w:=by
  rw[Array.mapM_eq_mapM_toList];simp only[Sem.run_map,h1,Result.andThen_ok]
 refine⟨if h:vs.toArray.size=1 then vs.toArray[0]else .tuple vs.toArray,?_,?_⟩
 ·show(do let vs ←fn.results.mapM (Aw a.tmps);pure (if h:vs.size=1 then vs[0]else .tuple vs):Sem So).run P w=_;simp only[Sem.run_bind,hr,Result.andThen_ok,Sem.run_pure]
 ·match ds,vs,h2 with
  | [d],[v],_=>exact h3 0 (by simp) (by simp)
  | [],[],_=>exact .tup [] #[] rfl (λi h1=>by simp at h1)
  |d::d'::ds,v::v'::vs,hl =>
   rw[dif_neg (by simp)];exact .tup _ _ (by simpa using hl) (λi x y=>by simpa using h3 i x (by simpa using y))
theorem WRel.take{w:Sl}{g:G}{s:St}{b:Nat}(h:WRel w g s)(hb:g.O b) :
  (∀P,(Instr.takeDeferred b).run P w=.ok [] {w with heap:=w.heap.setIfInBounds b (.deferred Sf)}) ∧
   WRel {w with heap:=w.heap.setIfInBounds b (.deferred Sf)} {g with O:=λc=>g.O c∧c≠b} s:=by
 obtain⟨hN,hh⟩:=h.o b hb;refine⟨λP=>by simp[Instr.takeDeferred,getObj,setObj,Sem.run,hh],?_⟩;have hheap:∀(c:Nat)(x:Obj),w.heap[c]?=Sd x→(∀cs,x≠Obj.deferred cs)→(w.heap.setIfInBounds b (.deferred Sf))[c]?=Sd x:=by
  intro c x hx hne;rw[OM]
  ·exact hx
  ·intro e;subst e;rw[hh]at hx;cases hx;exact hne _ rfl
 have hcell:∀a,World.cell? {w with heap:=w.heap.setIfInBounds b (.deferred Sf)} a=w.cell? a:=by
  intro a;simp only[World.cell?];by_cases e:a.block=b
  ·have hlt:=bU hh;rw[e,hh,OO];simp[hlt]
  ·rw[OM (by omega)]
 have hmon:∀d v,R g d v→R {g with O:=λc=>g.O c∧c≠b} d v:=λd v hR=>hR.mono3 (λ_ _ _ h=>h) (λ_ _ h=>h) (λ_ _ h=>h) (λ_ _ h=>h);refine {os:=h.os,tape:=h.tape,out:=h.out,fz:=λa ha=>?_,n:=by have:=h.n;simp only[P7];exact this,old:=λc hc=>?_,m:=λc o v hm=>by rw[hcell];exact h.m c o v hm,box:=λi bx hi=>?_,inj:=h.inj,dom:=λi c hi=>by have:=h.dom i c hi;simp only[P7];exact this,live:=λk hk=>?_,uniq:=h.uniq,ldom:=h.ldom,o:=λc hc=>⟨(h.o c hc.1).1,?_⟩,nd:=h.nd,sz:=λc n hc=>by obtain⟨arr,T,fr,e1,e2⟩:=h.sz c n hc;exact⟨arr,T,fr,hheap c _ e1 (by simp),e2⟩}
 ·rw[←h.fz a ha];simp only[World.frozen?];by_cases e:a.block=b
  ·have hlt:=bU hh;rw[e,hh,OO];simp[hlt]
  ·rw[OM (by omega)]
 ·show(w.heap.setIfInBounds b _)[c]?=_;rw[OM (by have:c<g.w0.heap.size:=hc;have:g.w0.heap.size≤b:=hN;omega)];exact h.old c hc
 ·have:=h.box i bx hi
  cases bx with
  |dead=>trivial
  |cells cs=>obtain⟨c,arr,T,fr,h1,h2,h3,h4,h5⟩:=this;exact⟨c,arr,T,fr,h1,hheap c _ h2 (by simp),h3,λj x y=>⟨hmon _ _ (h4 j x y).1,(h4 j x y).2⟩,h5⟩
  |map es=>obtain⟨c,en,k,h1,h2,h3,h4⟩:=this;exact⟨c,en,k,h1,hheap c _ h2 (by simp),h3,λj x y=>⟨hmon _ _ (h4 j x y).1,hmon _ _ (h4 j x y).2.1,(h4 j x y).2.2⟩⟩
  |mapX es bs q=>obtain⟨c,en,k,h1,h2,h3,h4⟩:=this;exact⟨c,en,k,h1,hheap c _ h2 (by simp),h3,λj x y=>⟨hmon _ _ (h4 j x y).1,hmon _ _ (h4 j x y).2.1,(h4 j x y).2.2⟩⟩
  |iter mb q sn=>obtain⟨r,m,h1,h2,h3⟩:=this;exact⟨r,m,h1,hheap r _ h2 (by simp),h3⟩
  |loop ps as bo e st pe=>obtain⟨l,fn,t,df,h1,h2,h3,h4⟩:=this;exact⟨l,fn,t,df,h1,hheap l _ h2 (by simp),h3,λj x y=>hmon _ _ (h4 j x y)⟩
 ·obtain⟨a,len,cap,sz,h1,h2⟩:=h.live k hk;refine⟨a,len,cap,sz,h1,λh3 h4=>?_⟩;obtain⟨c,off,arr,T,fr,h5,h6,h7,h8⟩:=h2 h3 h4;exact⟨c,off,arr,T,fr,h5,h6,hheap c _ h7 (by simp),h8⟩
 ·show(w.heap.setIfInBounds b _)[c]?=_;rw[OM (by intro e;exact hc.2 e.symm)];exact(h.o c hc.1).2
variable {s':St}
theorem El{fn:Func}{t:St}{ds:List D}{r:D}{tmps:Array So}{g0:G}{w0:Sl}(h0:WRel w0 g0 s)(hZ:Z r s')(hres:resD P e t fn.results.toList=Sd ds)(hr:kK ds=r)(hL:Leave s t s')(hB:Bd s'.boxes.length s'.ctr r) :
  ∀(df:List Deferred)(bs:List Nat)w g,g0.le g→dM g e tmps→WRel w g t→bs.Nodup→(∀b,b∈bs→g.O b∧¬g0.O b)→df.map (·.target)=bs.map (λb=>.collected b) →
   LeavesInM (W Sf) 0 P fn tmps (BB g0 Z) df .returning w:=by
 intro df;induction df with
 |nil =>
  intro bs w g hg hE hw _ _ _;obtain⟨v,h1,h2⟩:=sO (a:=⟨tmps,[]⟩) (fn:=fn) hE hw hres;obtain⟨h3,h4⟩:=hL.wrel h0 hg hw;exact⟨v,h1,v,_,r,s',hZ,rfl,h3,h4,by rw[hr]at h2;exact h2.cut hB⟩
 |cons d df ih =>
  intro bs w g hg hE hw hnd hbs hdf;cases bs with
  |nil=>simp at hdf
  |cons b bs =>
   simp only[OJ,QM.injEq]at hdf;obtain⟨hrun,hw'⟩:=hw.take (hbs b (by simp)).1;refine⟨by simp,.inl ⟨b,_,hdf.1,hrun P,?_⟩⟩;refine ih bs _ {g with O:=λc=>g.O c∧c≠b} ⟨hg.w0,hg.M,hg.B,hg.L,λc hc=>⟨hg.O c hc,λe=>(hbs b (by simp)).2 (e▸hc)⟩,hg.S⟩ ⟨hE.1,λi h1 h2=>(hE.2 i h1 h2).mono3 (λ_ _ _ h=>h) (λ_ _ h=>h) (λ_ _ h=>h) (λ_ _ h=>h)⟩ hw' (OZ.1 hnd).2 (λc hc=>⟨⟨(hbs c (by simp[hc])).1,λe=>(OZ.1 hnd).1 (e▸hc)⟩,(hbs c (by simp[hc])).2⟩) hdf.2
def NM(P:Sj)(rs:List ResultVar)(s:St)(Z:D→St→Prop):Su→List D→St→Prop
 |.normal,e,t=>∃ds r s',resD P e t rs=Sd ds∧kK ds=r∧Z r s'∧Leave s t s'∧Bd s'.boxes.length s'.ctr r
 |.ret,e,t=>∃ds r s',resD P e t rs=Sd ds∧kK ds=r∧Z r s'∧Leave s t s'∧Bd s'.boxes.length s'.ctr r
 |_,_,_=>False
theorem aS.intro {P:Program} {f:FuncId} {fn:Func} {c:Code} {args:List D} {s:St} {Z:D→St→Prop} (hf:P.funcs[f]? = some fn) (hb:fn.body = some c) (hn:(fn.name == "runtime.NumGoroutine") = false)
    (h:AWp Sf P c (NM P fn.results.toList s Z) (args++Oi (fn.ntmps-args.length) .junk) s):aS P f args s Z:=by
  refineλvs w g hargs hw=>⟨mj hf hn (by rw[hb];rfl),?_⟩;refine callsIn_of_wp_marks hf hb trivial (wpIn_mono (h g.O _ w g ⟨⟨by simp[hargs.1],λi h1 h2=>?_⟩,hw,λ_ h=>h,[],by simp,by simp,rfl⟩) λx a' w' hc=>?_)
  · simp only at h2⊢;by_cases hi:i<args.length
    · rw[OS hi,Pv (by rw[←hargs.1];exact hi)];exact hargs.2 _ _ _
    · rw[ON (by omega),List.getElem_replicate];exact .junk _
  · obtain⟨hx,e',t,g',hle,ha,hq⟩:=hc;obtain⟨bs,hnd,hbs,hdf⟩:=ha.df;cases x<;>first
      |exact hx.elim
      |exact hq.elim
      | (obtain ⟨ds,r,s',h1,h2,hZ,h3,h4⟩:=hq
         exact El hw hZ h1 h2 h3 h4 a'.defers bs w' g' hle ha.env ha.wr hnd hbs hdf)
theorem az.intro {P:Program} {f:FuncId} {fn:Func} {c:Code} {args:List D} {s s':St} {r:D} (hf:P.funcs[f]? = some fn) (hb:fn.body = some c) (hn:(fn.name == "runtime.NumGoroutine") = false)
  (h:AWp Sf P c (retQ P fn.results.toList s r s') (args++Oi (fn.ntmps-args.length) .junk) s):az P f args s r s':=
 aS.intro hf hb hn (h.mono λx e t hq=>by
  cases x<;>first
   |exact hq.elim
   |(obtain⟨ds,h1,h2,h3,h4⟩:=hq;exact⟨ds,r,s',h1,h2,⟨rfl,rfl⟩,h3,h4⟩))
class PC where p:Prop
class DC where f:D→St→Prop
class KC where f:List D→St→Prop
class QC where f:Su→List D→St→Prop
def pI[X:PC]:Prop:=X.p
def dI(d:D)(s:St)[K:DC]:Prop:=K.f d s
def kI(e:List D)(s:St)[K:KC]:Prop:=K.f e s
def qI(x:Su)(e:List D)(s:St)[Q:QC]:Prop:=Q.f x e s
def cwI(ro:Option Nat)(P:Sj)(c:Sq)(e:List D)(s:St)[Q:QC]:Prop:=cw ro P c Q.f e s
def AWI(ro:Option Nat)(P:Sj)(c:Sq)(e:List D)(s:St)[Q:QC]:Prop:=AWp ro P c Q.f e s
def Av(P:Sj)(full os:List Sp)(e:List D)(s:St)[K:KC]:Prop:=cE P full os e s K.f
def bI(P:Sj)(op:Op)(e:List D)(s:St)[K:DC]:Prop:=dg P op (val e) s K.f
def lV(x:Option (D×St))[K:DC]:Prop:=optW x K.f
def dD(x:Option D)(s:St)[K:DC]:Prop:=optW (x.map (·,s)) K.f
def sV(x:Option St)[K:DC]:Prop:=optW (x.map (D.junk,·)) K.f
def tL(nd:Bool)(P:Sj)(f:D)(args:List D)(s:St)[K:DC]:Prop:=match nd with
 |false=>LV P f args s K.f
 |true=>LW P f args s K.f
def l6(P:Sj)(full os:List Sp)(e:List D)(s:St)[K:KC]:Prop:=jl P full os e s K.f
def cD(P:Sj)(op:Op)(e:List D)(s:St)[K:DC]:Prop:=jp P op (val e) s K.f
def ifI(c:D)(X Y:PC):Prop:=ifB c X.p Y.p
def needI(c:Prop)[X:PC]:Prop:=c∧X.p
def Kj(o:Option (List D))(sz:Nat)(s:St)[K:DC]:Prop:=∃c,o=Sd c∧c.length=sz∧K.f (.pin c) s
def Ir(P:Sj)(full os:List Sp)(dst:Option Tmp)(op:Op)(g:Option (Option (Nat×Bool)))(e:List D)(s:St)[K:KC]:Prop:=
 match g with
 |some Sf=>dg P op (val e) s λd s'=>cE P full os (putD e dst d) s' K.f
 |some (Sd (t,Sh))=>ifB (gdD Sh (e.getD t .junk)) (dg P op (val e) s λd s'=>cE P full os (putD e dst d) s' K.f) (cE P full os (putD e dst (.tup [])) s K.f)
 |some (Sd (t,Se))=>ifB (gdD Se (e.getD t .junk)) (cE P full os (putD e dst (.tup [])) s K.f) (dg P op (val e) s λd s'=>cE P full os (putD e dst d) s' K.f)
 |none=>False
def xA(P:Sj)(full os:List Sp)(dst:Option Tmp)(op:Op)(g:Option (Option (Nat×Bool)))(e:List D)(s:St)[K:KC]:Prop:=
 match g with
 |some Sf=>jp P op (val e) s λd s'=>jl P full os (putD e dst d) s' K.f
 |some (Sd (t,Sh))=>ifB (gdD Sh (e.getD t .junk)) (jp P op (val e) s λd s'=>jl P full os (putD e dst d) s' K.f) (jl P full os (putD e dst (.tup [])) s K.f)
 |some (Sd (t,Se))=>ifB (gdD Se (e.getD t .junk)) (jl P full os (putD e dst (.tup [])) s K.f) (jp P op (val e) s λd s'=>jl P full os (putD e dst d) s' K.f)
 |none=>False
@[reducible] def EZ (ro:Option Nat) (P:Program) (b:Code) (Q:QC):QC:=⟨thenQ (cw ro P b Q.f) Q.f⟩
@[reducible] def Iw (ro:Option Nat) (P:Program) (b:Code) (Q:QC):QC:=⟨thenQ (AWp ro P (.loop b) Q.f) Q.f⟩
@[reducible] def rS (id:Nat) (Q:QC):QC:=⟨mS id Q.f⟩
@[reducible] def lT (P:Program) (rs:List ResultVar) (s:St) (r:D) (s':St):QC:=⟨retQ P rs s r s'⟩
@[reducible] def Lg (P:Program) (full os:List Oper) (dst:Option Tmp) (e:List D) (K:KC):DC:=⟨fun d s'=>jl P full os (putD e dst d) s' K.f⟩
@[reducible] def Iq (P:Program) (full os:List Oper) (e:List D) (s:St) (K:KC):PC:=⟨jl P full os e s K.f⟩
@[reducible] def BJ (P:Program) (op:Op) (e:List D) (s:St) (K:DC):PC:=⟨jp P op (val e) s K.f⟩
@[reducible] def sZ (Q:QC):KC:=⟨Q.f .normal⟩
@[reducible] def opC (P:Program) (full os:List Oper) (dst:Option Tmp) (e:List D) (K:KC):DC:=⟨fun d s'=>cE P full os (putD e dst d) s' K.f⟩
@[reducible] def cwC (ro:Option Nat) (P:Program) (c:Code) (e:List D) (s:St) (Q:QC):PC:=⟨cw ro P c Q.f e s⟩
@[reducible] def Nm (P:Program) (full os:List Oper) (e:List D) (s:St) (K:KC):PC:=⟨cE P full os e s K.f⟩
@[reducible] def va (P:Program) (op:Op) (e:List D) (s:St) (K:DC):PC:=⟨dg P op (val e) s K.f⟩
@[reducible] def dC (d:D) (s:St) (K:DC):PC:=⟨K.f d s⟩
@[reducible] def getC (o:Option (List D)) (sz:Nat) (s:St) (K:DC):PC:=⟨∃ c,o=some c∧c.length=sz∧K.f (.pin c) s⟩
@[reducible] def optC (x:Option (D × St)) (K:DC):PC:=⟨optW x K.f⟩
@[reducible] def AH (x:Option D) (s:St) (K:DC):PC:=⟨optW (x.map (·,s)) K.f⟩
@[reducible] def Iu (x:Option St) (K:DC):PC:=⟨optW (x.map (D.junk,·)) K.f⟩
@[reducible] def o8 (c:Prop) (K:PC):PC:=⟨c∧K.p⟩
theorem aB{c:Prop}{X:PC}(h:c)(k:@pI X):@needI c X:=⟨h,k⟩
theorem am{b:Bool}{X Y:PC}(h1:b=Sh→@pI X)(h2:b=Se→@pI Y):ifI (.bool b) X Y:=by
 cases b
 ·exact h2 rfl
 ·exact h1 rfl
variable {f:D}{K:DC}
theorem cX{nd:Bool}{args:List D}(h:dh P f args s d s')(hK:@dI d s' K):@tL nd P f args s K:=by
 cases nd
 ·exact⟨d,s',h,hK⟩
 ·exact CallVQ.mono h λr t hz=>by obtain⟨rfl,rfl⟩:=hz;exact hK
theorem qz{args:List D}(h:CallVQ P f args s Z)(hK:∀d s',Z d s'→@dI d s' K):@tL Sh P f args s K:=CallVQ.mono h hK
theorem aa{nd:Bool}{f:Sr}{args:List D}(h:az P f args s d s')(hK:@dI d s' K):@tL nd P (.func (.func f) [] []) args s K:=
 cX (by simpa[dh,CallVQ,az]using h) hK
theorem bj{f:Sr}{args:List D}(h:aS P f args s Z)(hK:∀d s',Z d s'→@dI d s' K):@tL Sh P (.func (.func f) [] []) args s K:=
 qz (by simpa[CallVQ]using h) hK
theorem lL{full:List Sp}{K K':List D→St→Prop}(hK:∀e s,K e s→K' e s):∀(os:List Sp)(e:List D)(s:St),cE P full os e s K→cE P full os e s K':=by
 intro os;induction os with
 |nil=>intro e s h;exact hK e s h
 |cons o os ih =>
  intro e s h;have hst:∀{op ρ s}{k k':D→St→Prop},(∀d s,k d s→k' d s)→dg P op ρ s k→dg P op ρ s k':=by
   intro op ρ s k k' hk h;unfold dg at h⊢;split at h
   ·obtain⟨d,s',h1,h2⟩:=h;exact⟨d,s',h1,hk _ _ h2⟩
   ·obtain⟨d,s',h1,h2⟩:=cz.1 h;exact cz.2 ⟨d,s',h1,hk _ _ h2⟩
  simp only[cE]at h⊢;split at h
  ·exact hst (λd s=>ih _ s) h
  ·exact eT h (hst (λd s=>ih _ s)) (ih _ s)
  ·exact eT h (ih _ s) (hst (λd s=>ih _ s))
  ·exact h.elim
theorem DR{full:List Sp}{K K':List D→St→Prop}(hK:∀e s,K e s→K' e s):∀(os:List Sp)(e:List D)(s:St),jl P full os e s K→jl P full os e s K':=by
 intro os;induction os with
 |nil=>intro e s h;exact hK e s h
 |cons o os ih =>
  intro e s h;have hst:∀{op ρ s}{k k':D→St→Prop},(∀d s,k d s→k' d s)→jp P op ρ s k→jp P op ρ s k':=by
   intro op ρ s k k' hk h;exact Ap h hk
  simp only[jl]at h⊢;split at h
  ·exact hst (λd s=>ih _ s) h
  ·exact eT h (hst (λd s=>ih _ s)) (ih _ s)
  ·exact eT h (ih _ s) (hst (λd s=>ih _ s))
  ·exact h.elim
theorem Gu{c:Prop}[Decidable c]{x:Option (D×St)}{K:D→St→Prop}:optW (if c then x else Sf) K=(c∧optW x K):=by
 split<;>simp_all[optW]
variable {B:List Box}{L L':List Nat}{c':Nat}
theorem nc{X:List Box}{c:Nat}(h2:∀k,k∈L→k∈L')(h3:c≤c'):Leave ⟨B,L,c⟩ ⟨B++X,L',c'⟩ ⟨B,L,c⟩ where
 len:=by simp
 pre:=λi bx hi=>by
  have hlt:i<B.length:=by
   rcases OU i B.length with q|q
   ·exact q
   ·rw[Oz q]at hi;cases hi
  rw[Ou hlt];exact hi
 old:=λi bx hi=>.inl hi
 slen:=K6 _
 live:=λk hk=>⟨h2 k hk,.inl hk⟩
 ctr:=K6 _
 ctr':=h3
 nd:=.inl rfl
theorem Au:Leave s s s where
 len:=K6 _
 pre:=λi bx hi=>hi
 old:=λi bx hi=>.inl hi
 slen:=K6 _
 live:=λk hk=>⟨hk,.inl hk⟩
 ctr:=K6 _
 ctr':=K6 _
 nd:=.inl rfl
variable {x:Su}
theorem Gi{rs:List ResultVar}{X:List Box}{c:Nat}{r:D}{ds:List D}(hx:x=.normal∨x=.ret)(h1:resD P e ⟨B++X,L',c'⟩ rs=Sd ds)(h2:kK ds=r)(hb:Bd 0 0 r)(hl:∀k,k∈L→k∈L')(hc:c≤c') :
  @qI x e ⟨B++X,L',c'⟩ (lT P rs ⟨B,L,c⟩ r ⟨B,L,c⟩):=by
 unfold lT;rcases hx with rfl|rfl<;>exact⟨ds,h1,h2,nc hl hc,hb.mono (L7 _) (L7 _)⟩
theorem Gg{rs:List ResultVar}{r:D}{ds:List D}(hx:x=.normal∨x=.ret)(h1:resD P e s rs=Sd ds)(h2:kK ds=r)(hb:Bd 0 0 r) :
  @qI x e s (lT P rs s r s):=by
 unfold lT;rcases hx with rfl|rfl<;>exact⟨ds,h1,h2,Au,hb.mono (L7 _) (L7 _)⟩
theorem bq{l:List Box}{k:Nat}:(B++l)[B.length+k]?=l[k]?:=by rw[Oc (by omega)];congr 1;omega
theorem bL{l:List Box}:(B++l)[B.length]?=l[0]?:=by rw[Oc (by omega)];congr 1;omega
theorem iU{l:List Box}{k:Nat}{x:Box}:(B++l).set (B.length+k) x=B++l.set k x:=by rw[O3 _ _ (by omega)];congr 2;omega
theorem ji{l:List Box}{x:Box}:(B++l).set B.length x=B++l.set 0 x:=by rw[O3 _ _ (by omega)];congr 2;omega
variable {b:Nat}
theorem bP{l:List Box}{x:Box}(h:B[b]?=Sd x):(B++l)[b]?=Sd x:=by
 have hlt:b<B.length:=by
  rcases OU b B.length with q|q
  ·exact q
  ·rw[Oz q]at h;cases h
 rw[Ou hlt];exact h
inductive Small:D→Prop
 |junk:Small .junk
 |int (k:IntKind) (n:Int):Small (.int k n)
 |bool (b:Bool):Small (.bool b)
 |str (s:ByteArray):Small (.str s)
 |slice (o:Own) (xs:List (List D)) (hm:xs.length≤mE) (hx:∀x∈xs,∀d∈x,Small d):Small (.slice o xs)
 |agg (cs:List D) (h:∀d∈cs,Small d):Small (.agg cs)
 |tup (cs:List D) (h:∀d∈cs,Small d):Small (.tup cs)
 |nilp:Small .nilp
 |box (b off:Nat):Small (.box b off)
 |pin (cs:List D) (h:∀d∈cs,Small d):Small (.pin cs)
 |func (fn:Fn) (fi ca:List D) (h1:∀d∈fi,Small d) (h2:∀d∈ca,Small d):Small (.func fn fi ca)
 |nilf:Small .nilf
 |map (b:Nat):Small (.map b)
 |nilm:Small .nilm
 |yield (b:Nat):Small (.yield b)
 |msl (b off len cap sz:Nat):Small (.msl b off len cap sz)
 |row0:Small .row0
 |row (b off n sz:Nat) (hn:n≤mE):Small (.row b off n sz)
theorem Small.of_R{g:G}{d:D}{v:So}(h:R g d v):Small d:=by
 induction h with
 |junk v=>exact .junk
 |int k n=>exact .int _ _
 |bool b=>exact .bool _
 |str s=>exact .str _
 |slice o xs a cap sz blk off val hc hm ho hs ha hM hv hR ih =>
  refine .slice o xs hm λx hx d hd=>?_;obtain⟨i,hi,rfl⟩:=Oa hx;obtain⟨j,hj,rfl⟩:=Oa hd;exact ih i j hi hj
 |agg cs vs h hv hR ih=>exact .agg cs λd hd=>by obtain⟨i,hi,rfl⟩:=Oa hd;exact ih i hi (by omega)
 |tup cs vs h hR ih=>exact .tup cs λd hd=>by obtain⟨i,hi,rfl⟩:=Oa hd;exact ih i hi (by omega)
 |nilp=>exact .nilp
 |box b off blk h=>exact .box b off
 |pin cs blk off val hM hv hR ih=>exact .pin cs λd hd=>by obtain⟨i,hi,rfl⟩:=Oa hd;exact ih i hi
 |func fn fi ca vf vc h1 h2 hf hc ihf ihc =>
  exact .func fn fi ca (λd hd=>by obtain⟨i,hi,rfl⟩:=Oa hd;exact ihf i hi (by omega)) (λd hd=>by obtain⟨i,hi,rfl⟩:=Oa hd;exact ihc i hi (by omega))
 |nilf=>exact .nilf
 |map b r h=>exact .map b
 |nilm=>exact .nilm
 |yield b l h=>exact .yield b
 |msl b off len cap sz blk m h hS hc hz hm=>exact .msl b off len cap sz
 |row0 a=>exact .row0
 |row b off n sz blk m cap h hS hc hn hz hm=>exact .row b off n sz hn
theorem az.small{P:Sj}{f:Sr}{args:List D}{s s':St}{r:D}(h:(∀d∈args,Small d)→az P f args s r s'):az P f args s r s':=by
 intro vs w g ha hw;exact h (λd hd=>by obtain⟨i,hi,rfl⟩:=Oa hd;exact .of_R (ha.2 i hi (by have:=ha.1;omega))) vs w g ha hw
theorem Small.len{o:Own}{xs:List (List D)}(h:Small (.slice o xs)):xs.length≤281474976710656:=by cases h with|slice _ _ hm _=>exact hm
theorem ap{k:Nat}(h:k<4611686018427387904):IntKind.i64.wrap ((k:Int)+1)=((k+1:Nat):Int):=by
 rw[IntWalk.i64_in _ (by omega)];omega
variable {n:Int}
theorem aK(h:-9223372036854775808≤n∧n≤9223372036854775807):IntKind.i64.wrap n=n:=IntWalk.i64_in _ h
def keepFrom(ks:List Nat)(n:Nat):List D→List D
 | []=>[]
 |d::ds=>(bif ks.contains n then d else .junk)::keepFrom ks (n+1) ds
theorem Kd(ks:List Nat)(e:List D):keep ks e=keepFrom ks 0 e:=by
 have:∀(e:List D)(n:Nat),(e.zipIdx n).map (λ(d,i)=>if ks.contains i then d else D.junk)=keepFrom ks n e:=by
  intro e;induction e with
  |nil=>intro n;rfl
  |cons d ds ih=>intro n;simp only[List.zipIdx_cons,OJ,keepFrom,ih (n+1)];congr 1;cases ks.contains n<;>rfl
 exact this e 0
variable {Q:QC}
theorem uE{id id':Nat}:@qI (.exit id') e s (rS id Q)=@qI (if id'=id then .normal else .exit id') e s Q:=by
 show mS id Q.f (.exit id') e s=Q.f (if id'=id then .normal else .exit id') e s;unfold mS;split
 ·rename_i h;cases h;split<;>rfl
 ·rename_i h;exact absurd rfl (h id')
theorem D9{c:Prop}[Decidable c]{x:Option D}{s:St}{K:DC}:@dD (if c then x else Sf) s K=@needI c (AH x s K):=by
 show optW ((if c then x else Sf).map (·,s)) K.f=(c∧optW (x.map (·,s)) K.f);by_cases h:c<;>simp[h,optW]
theorem AG{c:Prop}[Decidable c]{x:Option D}{s:St}{K:DC}:@dD (if c then Sf else x) s K=@needI (¬c) (AH x s K):=by
 show optW ((if c then Sf else x).map (·,s)) K.f=(¬c∧optW (x.map (·,s)) K.f);by_cases h:c<;>simp[h,optW]
theorem D8{c:Prop}[Decidable c]{x:Option St}{K:DC}:@sV (if c then x else Sf) K=@needI c (Iu x K):=by
 show optW ((if c then x else Sf).map (D.junk,·)) K.f=(c∧optW (x.map (D.junk,·)) K.f);by_cases h:c<;>simp[h,optW]
theorem wz{c:List D}{sz:Nat}:@Kj (Sd c) sz s K=@needI (c.length=sz) (dC (.pin c) s K):=by
 show(∃c',Sd c=Sd c'∧c'.length=sz∧K.f (.pin c') s)=(c.length=sz∧K.f (.pin c) s);simp
theorem vsCode :
    (∀ro P Q e s,@cwI ro P .skip e s Q=@qI .normal e s Q) ∧
    (∀ro P Q e s l,@cwI ro P (.label l) e s Q=@qI .normal e s Q) ∧
    (∀ro P Q e s l,@cwI ro P (.exit l) e s Q=@qI (.exit l) e s Q) ∧
    (∀ro P Q e s,@cwI ro P .ret e s Q=@qI .ret e s Q) ∧
    (∀ro P Q e s a b,@cwI ro P (.seq a b) e s Q=@cwI ro P a e s (EZ ro P b Q)) ∧
    (∀ro P Q e s c a b,@cwI ro P (.cond c a b) e s Q=ifI (val e c) (cwC ro P a e s Q) (cwC ro P b e s Q)) ∧
    (∀ro P Q e s id b,@cwI ro P (.block id b) e s Q=@cwI ro P b e s (rS id Q)) ∧
    (∀ro P Q e s id(ops:List Sp),@cwI ro P (.region id ops.toArray Se) e s Q=@Av P ops ops e s (sZ Q)) ∧
    (∀ro P Q e s id ops,@cwI ro P (.region id ops Sh) e s Q=@AWI ro P (.region id ops Sh) e s Q) ∧
    (∀ro P Q e s b,@cwI ro P (.loop b) e s Q=@AWI ro P (.loop b) e s Q) ∧
    (∀ro P Q e s f ps a b,@cwI ro P (.rangeFunc f ps a b) e s Q=@AWI ro P (.rangeFunc f ps a b) e s Q) ∧
    (∀ro P Q e s b,@qI .normal e s (EZ ro P b Q)=@cwI ro P b e s Q) ∧
    (∀ro P Q e s b id,@qI (.exit id) e s (EZ ro P b Q)=@qI (.exit id) e s Q) ∧
    (∀ro P Q e s b,@qI .ret e s (EZ ro P b Q)=@qI .ret e s Q) ∧
    (∀ro P Q e s b,@qI .normal e s (Iw ro P b Q)=@AWI ro P (.loop b) e s Q) ∧
    (∀ro P Q e s b id,@qI (.exit id) e s (Iw ro P b Q)=@qI (.exit id) e s Q) ∧
    (∀ro P Q e s b,@qI .ret e s (Iw ro P b Q)=@qI .ret e s Q) ∧
    (∀id Q e s,@qI .normal e s (rS id Q)=@qI .normal e s Q) ∧
    (∀id Q e s,@qI .ret e s (rS id Q)=@qI .ret e s Q) ∧
    (∀id id' Q e s,@qI (.exit id') e s (rS id Q)=@qI (if id'=id then .normal else .exit id') e s Q) ∧
    (∀X Y,ifI (.bool Sh) X Y=@pI X) ∧
    (∀X Y,ifI (.bool Se) X Y=@pI Y) ∧
    (∀ro P c e s Q,@pI (cwC ro P c e s Q)=@cwI ro P c e s Q) ∧
    (∀P full os e s K,@pI (Nm P full os e s K)=@Av P full os e s K) ∧
    (∀P op e s K,@pI (va P op e s K)=@bI P op e s K) ∧
    (∀d s K,@pI (dC d s K)=@dI d s K) ∧
    (∀o sz s K,@pI (getC o sz s K)=@Kj o sz s K) ∧
    (∀x K,@pI (optC x K)=@lV x K) ∧
    (∀x s K,@pI (AH x s K)=@dD x s K) ∧
    (∀x K,@pI (Iu x K)=@sV x K) ∧
    (∀c X,@pI (o8 c X)=@needI c X) ∧
    (∀X,@needI True X=@pI X)∧(∀(X:PC),@needI False X=False) ∧
    (∀P full e s K,@Av P full [] e s K=@kI e s K) ∧
    (∀Q e s,@kI e s (sZ Q)=@qI .normal e s Q) ∧
    (∀P full os e s K dst op(ty:Sk)pos after,
      @Av P full ({dst:=dst,op:=op,type:=ty,pos:=pos,after:=after,guard:=Sf}::os) e s K=@bI P op e s (opC P full os dst e K)) ∧
    (∀P full os e s K dst op(ty:Sk)pos after j b,
      @Av P full ({dst:=dst,op:=op,type:=ty,pos:=pos,after:=after,guard:=Sd (j,b)}::os) e s K =
        @Ir P full os dst op (guardOf full (Sd (j,b))) e s K) ∧
    (∀P full os e s K dst op t,
      @Ir P full os dst op (Sd (Sd (t,Sh))) e s K=ifI (gdD Sh (e.getD t .junk)) (va P op e s (opC P full os dst e K)) (Nm P full os (putD e dst (.tup [])) s K)) ∧
    (∀P full os e s K dst op t,
      @Ir P full os dst op (Sd (Sd (t,Se))) e s K=ifI (gdD Se (e.getD t .junk)) (Nm P full os (putD e dst (.tup [])) s K) (va P op e s (opC P full os dst e K))) ∧
    (∀b c,gdD b (.bool c)=.bool c)∧(gdD Sh (.tup [])=.bool Se)∧(gdD Se (.tup [])=.bool Sh) ∧
    (∀full j b,guardOf full (Sd (j,b))=(full[j]?).bind λp=>p.dst.map λt=>Sd (t,b)) ∧
    (∀P full os e s K dst d,@dI d s (opC P full os dst e K)=@Av P full os (putD e dst d) s K) ∧
    (∀d s K,@lV (Sd (d,s)) K=@dI d s K)∧(∀(K:DC),@lV Sf K=False) ∧
    (∀d s K,@dD (Sd d) s K=@dI d s K)∧(∀(s:St)(K:DC),@dD Sf s K=False) ∧
    (∀s K,@sV (Sd s) K=@dI .junk s K)∧(∀(K:DC),@sV Sf K=False) ∧
    (∀c inst x K,@lV (@ite _ c inst x Sf) K=@needI c (optC x K)) ∧
    (∀c inst x s K,@dD (@ite _ c inst x Sf) s K=@needI c (AH x s K)) ∧
    (∀c inst x s K,@dD (@ite _ c inst Sf x) s K=@needI (¬c) (AH x s K)) ∧
    (∀c inst x K,@sV (@ite _ c inst x Sf) K=@needI c (Iu x K)) ∧
    (∀(c:List D)sz s K,@Kj (Sd c) sz s K=@needI (c.length=sz) (dC (.pin c) s K))∧(∀(sz:Nat)(s:St)(K:DC),@Kj Sf sz s K=False):=by
  and_intros
  all_goals intros
  all_goals first
    |rfl
    |with_unfolding_all rfl
    | (apply propext;constructor;· exact fun h=>h.2
       · exactλh=>⟨trivial,h⟩)
    | (apply propext;constructor;· exact fun h=>h.1
       · exactλh=>h.elim)
    |exact uE
    |exact D9
    |exact AG
    |exact D8
    |exact wz
    |(simp[Kj];done)
    |exact Gu
    |(simp only[guardOf];split<;>simp_all<;>(split<;>simp_all))
    |trace_state
def pS(z:Option (List D))(s:St):Option (D×St):=match z with
 |some zs=>Bj zs s
 |none=>Sf
def ta(ag:Option Bool)(n:Option Nat)(cs:List D):Option D:=match ag,n with
 |some a,Sd n=>l7 a n cs
 |_,_=>Sf
def xE(ag:Option Bool)(n:Option Nat)(b:Option Box)(off:Nat):Option D:=match ag,n,b with
 |some a,Sd n,Sd (.cells cs)=>l7 a n (cs.drop off)
 |_,_,_=>Sf
def mz(n:Option Nat)(ds:Option (List D))(bx:Option Box)(B:List Box)(b off:Nat)(L:List Nat)(c:Nat):Option St:=match n,ds,bx with
 |some n,Sd ds,Sd (.cells cs)=>if ds.length=n∧off+n≤cs.length then Sd ⟨B.set b (.cells (storeD cs off ds)),L,c⟩else Sf
 |_,_,_=>Sf
def Fp(x:Option (Nat×Nat×Bool))(b off:Nat):Option D:=match x with
 |some (o,n,_)=>if n=0 then Sf else Sd (.box b (off+o))
 |none=>Sf
def Fo(x:Option (Nat×Nat×Bool))(cs:List D):Option D:=match x with
 |some (o,n,_)=>if n=0 then Sf else Sd (.pin (cs.drop o))
 |none=>Sf
def fieldOf(x:Option (Nat×Nat×Bool))(cs:List D):Option D:=match x with
 |some (o,n,ag)=>if ag then(if o+n≤cs.length then Sd (.agg ((cs.drop o).take n))else Sf)else cs[o]?
 |none=>Sf
def ls(u:Option TypeDesc)(n:Nat):Option D:=match u with
 |some (.slice _)=>Sd (.int .i64 n)
 |_=>Sf
def xF(u:Option TypeDesc)(n:Nat):Option D:=match u with
 |some .string=>Sd (.int .i64 n)
 |_=>Sf
def uU(u:Option TypeDesc)(a b:Bool):Option Bool:=match u with
 |some .bool=>Sd (a == b)
 |_=>Sf
def rR(u v:Option TypeDesc)(n:Int):Option D:=match u,v with
 |some (.int _),Sd (.int k)=>Sd (.int k (k.wrap n))
 |_,_=>Sf
def tM(ok:Bool)(z:Option (List D))(pl:Nat→Option (Nat×Nat))(ps:List (Nat×D)):Option D:=match ok,z with
 |true,Sd zs=>(iD pl zs ps).map .agg
 |_,_=>Sf
def xH(p:Option (Nat×Nat))(x:Option (List D))(pl:Nat→Option (Nat×Nat))(cs:List D)(rest:List (Nat×D)):Option (List D):=match p,x with
 |some (off,n),Sd ds=>if ds.length=n∧off+n≤cs.length then iD pl (storeD cs off (ds.map D.keep1)) rest else Sf
 |_,_=>Sf
def LY(el:Option (Sk×Nat×Nat×Bool))(P:Sj)(len:Nat)(ps:List (Nat×D)):Option D:=match el with
 |some (e,sz,_,_)=>match zeroT P e with
  |some zs=>if len*sz≤16777216∧ps.length=len∧len≤1000000∧zs.length=sz then(eH sz 0 ps).map (.slice .full)else Sf
  |none=>Sf
 |none=>Sf
def LX(z:Option (List D))(sz len:Nat)(ps:List (Nat×D)):Option D:=match z with
 |some zs=>if len*sz≤16777216∧ps.length=len∧len≤1000000∧zs.length=sz then(eH sz 0 ps).map (.slice .full)else Sf
 |none=>Sf
def sU(x:Option (List D))(sz k i:Nat)(rest:List (Nat×D)):Option (List (List D)):=match x with
 |some ds=>if i=k∧ds.length=sz then(eH sz (k+1) rest).map (ds.map D.plain1 :: ·)else Sf
 |none=>Sf
def apI(el el':Option (Sk×Nat×Nat×Bool))(P:Sj)(o:Own)(xs ys:List (List D))(s:St)[K:DC]:Prop:=match el,el' with
 |some (e,sz,b,_),Sd _=>match zeroT P e with
  |some zs=>(zs.length=sz∧0<sz∧0<b∧b≤1000000)∧aZ o xs sz s=Sh∧(∀c∈ys,c.length=sz)∧xs.length+ys.length≤1000000∧K.f (.slice (.lab s.ctr sz) (xs++ys)) (s.relab o)
  |none=>False
 |_,_=>False
def apI2(z:Option (List D))(sz b:Nat)(o:Own)(xs ys:List (List D))(s:St)[K:DC]:Prop:=match z with
 |some zs=>(zs.length=sz∧0<sz∧0<b∧b≤1000000)∧aZ o xs sz s=Sh∧(∀c∈ys,c.length=sz)∧xs.length+ys.length≤1000000∧K.f (.slice (.lab s.ctr sz) (xs++ys)) (s.relab o)
 |none=>False
def ixI(el:Option (Sk×Nat×Nat×Bool))(xs:List (List D))(n:Int)(s:St)[K:DC]:Prop:=match el with
 |some (_,sz,_,_)=>0≤n∧∃c,xs[n.toNat]?=Sd c∧c.length=sz∧K.f (.pin c) s
 |none=>False
def It(c a b:D):Option D:=match c with
 |.bool t=>Sd (bif t then a else b)
 |_=>Sf
variable {T':Sk}{o':Own}
theorem Bk{o:Own}{xs ys:List (List D)}:@lV (cW P T T' (.slice o xs) (.slice o' ys) s) K=@apI (elemT P T) (elemT P T') P o xs ys s K:=by
 apply propext;unfold lV;rw[cz];simp only[cW,mi,apI];cases h:elemT P T with
 |none=>simp
 |some el =>
  obtain⟨e,sz,b,ag⟩:=el;cases h':elemT P T' with
  |none=>simp
  |some el' =>
   dsimp only;cases hz:zeroT P e with
   |none=>simp
   |some zs =>
    dsimp only;constructor
    ·rintro⟨d,s',h1,h2⟩;split at h1
     ·rename_i hc;obtain⟨c1,c2,c3,c4,c5,c6,c7⟩:=hc;cases h1;exact⟨⟨c1,c2,c3,c4⟩,c5,λc hc=>by simpa using N0.1 c6 c hc,c7,h2⟩
     ·cases h1
    ·rintro⟨⟨c1,c2,c3,c4⟩,c5,c6,c7,hK⟩;refine⟨_,_,?_,hK⟩;rw[if_pos ⟨c1,c2,c3,c4,c5,N0.2 λc hc=>by simpa using c6 c hc,c7⟩]
variable {k:IntKind}
theorem EE{o:Own}{xs:List (List D)}:@dD (cK P T (.slice o xs) (.int k n)) s K=@ixI (elemT P T) xs n s K:=by
 apply propext;unfold dD;rw[cz];simp only[cK,fI,ixI];cases h:elemT P T with
 |none=>simp
 |some el =>
  obtain⟨e,sz,b,ag⟩:=el;simp only;constructor
  ·rintro⟨d,s',h1,h2⟩;split at h1
   ·rename_i c hc;split at hc
    ·split at h1
     ·rename_i hn hl;cases h1;exact⟨hn,c,hc,hl,h2⟩
     ·cases h1
    ·cases hc
   ·cases h1
  ·rintro⟨hn,c,hc,hl,hK⟩;refine⟨_,_,?_,hK⟩;simp[hn,hc,hl]
theorem CG(a b:Int):(a == b)=decide (a=b):=by by_cases h:a=b<;>simp[h]
theorem Kf(a b:Int):(a != b)=decide (a≠b):=by by_cases h:a=b<;>simp[h]
theorem qr{op:BinOp}{a b:Int}(h:op≠.shl)(h2:op≠.shr):dW P op T (.int k a) (.int k b)=evInt op k a b:=by simp[dW,h,h2]
theorem uS{a b:Int}:dW P .eql T (.int k a) (.int k b)=Sd (.bool (decide (a=b))):=by
 rw[qr (by simp) (by simp)];simp only[evInt,CG]
theorem uR{a b:Int}:dW P .neq T (.int k a) (.int k b)=Sd (.bool (decide (a≠b))):=by
 rw[qr (by simp) (by simp)];simp only[evInt,Kf]
theorem G5{a b:List D}:xg P T (.agg a) (.agg b)=(eqT P T).bind λps=>eqParts a b ps:=by
 unfold xg;cases hu:P.underlying T with
 |none=>simp[eqT,hu]
 |some u=>cases u<;>simp[eqT,hu,isNilConst]
theorem EG{a b:Bool}:xg P T (.bool a) (.bool b)=uU (P.underlying T) a b:=by
 unfold xg uU;cases hu:P.underlying T with
 |none=>rfl
 |some u=>cases u<;>simp[isNilConst]
theorem EA{x:D}{off:Nat}{c:Nat}:iP P T (.box b off) x ⟨B,L,c⟩=mz (sizeT P T) (cellsD x) B[b]? B b off L c:=by
 unfold iP mz;cases sizeT P T with
 |none=>rfl
 |some n=>cases cellsD x with
  |none=>rfl
  |some ds=>dsimp only;cases B[b]? with
   |none=>rfl
   |some y=>cases y<;>rfl
theorem EF{S:Sk}{cs:List D}{f:Nat}:iQ P S (.agg cs) f=fieldOf (fieldT P S f) cs:=by
 unfold iQ fieldOf;cases fieldT P S f with
 |none=>rfl
 |some x=>obtain⟨o,n,ag⟩:=x;rfl
theorem G6{U:Sk}:lu P T U (.int k n)=rR (P.underlying T) (P.underlying U) n:=by
 unfold lu rR;cases P.underlying T with
 |none=>rfl
 |some u=>cases u<;>(try rfl)<;>(cases P.underlying U with
  |none=>rfl
  |some v=>cases v<;>rfl)
theorem vsOps :
  (∀P e s K f(args:List Sn)ts,@bI P (.call {callee:=.value f,args:=args.toArray,argTypes:=ts}) e s K=@tL Se P (val e f) (args.map λx=>(val e x).plain) s K) ∧
  (∀P e s K x,@bI P (.move x) e s K=@dI (val e x) s K) ∧
  (∀P e s K x,@bI P (.assign x) e s K=@dI (val e x) s K) ∧
  (∀P e s K c a b,@bI P (.pick c a b) e s K=@dD (It (val e c) (val e a) (val e b)) s K) ∧
  (∀P e s K(T:Sk),@bI P (.alloc T) e s K=@lV (lc P T s) K) ∧
  (∀P e s K(T:Sk)x,@bI P (.box T x) e s K=@lV (lb (val e x) s) K) ∧
  (∀P e s K(T:Sk)(ps:List (Nat×Sn)),@bI P (.build T ps.toArray) e s K=@dD (la P T (ps.map λq=>(q.1,val e q.2))) s K) ∧
  (∀P e s K(T:Sk)n(ps:List (Nat×Sn)),@bI P (.buildSlice T n ps.toArray) e s K=@dD (ez P T n (ps.map λq=>(q.1,val e q.2))) s K) ∧
  (∀P e s K(T:Sk)a,@bI P (.load T a) e s K=@dD (evLoad P T (val e a) s) s K) ∧
  (∀P e s K(T:Sk)a x,@bI P (.store T a x) e s K=@sV (iP P T (val e a) (val e x) s) K) ∧
  (∀P e s K x,@bI P (.nilCheck x) e s K=@dD (fq (val e x)) s K) ∧
  (∀P e s K op(T U:Sk)x y,@bI P (.binOp op T x y U) e s K=@dD (dW P op T (val e x) (val e y)) s K) ∧
  (∀P e s K op(T:Sk)x,@bI P (.unOp op T x) e s K=@dD (HZ op (val e x)) s K) ∧
  (∀P e s K(T U:Sk)x,@bI P (.convert T U x) e s K=@dD (lu P T U (val e x)) s K) ∧
  (∀P e s K fn(fi ca:List Sn),@bI P (.makeFunc fn fi.toArray ca.toArray) e s K=@dI (.func fn (fi.map (val e)) (ca.map (val e))) s K) ∧
  (∀P e s K(T:Sk)x(lo hi mx:Option Sn),@bI P (.slice T x lo hi mx) e s K=@dD (dN P T (val e x) (lo.map (val e)) (hi.map (val e)) (mx.map (val e))) s K) ∧
  (∀P e s K(T:Sk)x f,@bI P (.fieldAddr T x f) e s K=@dD (ev P T (val e x) f) s K) ∧
  (∀P e s K(T:Sk)x f,@bI P (.field T x f) e s K=@dD (iQ P T (val e x) f) s K) ∧
  (∀P e s K(T:Sk)x i,@bI P (.indexAddr T x i) e s K=@dD (cK P T (val e x) (val e i)) s K) ∧
  (∀P e s K(T:Sk)x i,@bI P (.index T x i) e s K=@dD (kZ P T (val e x) (val e i)) s K) ∧
  (∀P e s K x i,@bI P (.extract x i) e s K=@dD (kb (val e x) i) s K) ∧
  (∀P e s K x(T:Sk),@bI P (.call {callee:=.builtin .len,args:=#[x],argTypes:=#[T]}) e s K=@dD (gE P T (val e x) s) s K) ∧
  (∀P e s K x y(T U:Sk),@bI P (.call {callee:=.builtin .append,args:=#[x,y],argTypes:=#[T,U]}) e s K=@lV (cW P T U (val e x) (val e y) s) K) ∧
  (∀P e s K x y ts,@bI P (.call {callee:=.builtin .min,args:=#[x,y],argTypes:=ts}) e s K=@dD (Bb (val e x) (val e y)) s K) ∧
  (∀P e s K x y ts,@bI P (.call {callee:=.builtin .max,args:=#[x,y],argTypes:=ts}) e s K=@dD (Bc (val e x) (val e y)) s K) ∧
  (∀P(T T':Sk)o o' xs ys s K,@lV (cW P T T' (.slice o xs) (.slice o' ys) s) K=@apI (elemT P T) (elemT P T') P o xs ys s K) ∧
  (∀P(e e':Sk)sz b sz' b' ag ag' o xs ys s K,@apI (Sd (e,sz,b,ag)) (Sd (e',sz',b',ag')) P o xs ys s K=@apI2 (zeroT P e) sz b o xs ys s K) ∧
  (∀zs sz b o xs ys B L c K,@apI2 (Sd zs) sz b o xs ys ⟨B,L,c⟩ K =
   @needI (zs.length=sz∧0<sz∧0<b∧b≤1000000) (o8 (aZ o xs sz ⟨B,L,c⟩=Sh) (o8 (∀c∈ys,c.length=sz) (o8 (xs.length+ys.length≤1000000) (dC (.slice (.lab c sz) (xs++ys)) (St.relab ⟨B,L,c⟩ o) K))))) ∧
  (∀P(T:Sk)o xs k n s K,@dD (cK P T (.slice o xs) (.int k n)) s K=@ixI (elemT P T) xs n s K) ∧
  (∀(e:Sk)sz b ag xs(n:Int)s K,@ixI (Sd (e,sz,b,ag)) xs n s K=@needI (0≤n) (getC xs[n.toNat]? sz s K)):=by
 and_intros
 all_goals intros
 all_goals first
  |rfl
  |with_unfolding_all rfl
  |exact Bk
  |exact EE
  |(simp only[bI,dg,evalOp,dD,It];cases val _ _<;>rfl)
  |trace_state
theorem vsEnv :
  (∀(e:List D)t,val e (.tmp t)=e.getD t .junk) ∧
  (∀e v,val e (.const v)=cst v) ∧
  (∀e f,val e (.func f)=.func (.func f) [] []) ∧
  (∀(x:D)(xs:List D)(d:D),(x::xs).getD 0 d=x) ∧
  (∀x(xs:List D)d n,(x::xs).getD (n+1) d=xs.getD n d) ∧
  (∀k n,cst (.int k n)=.int k n) ∧
  (∀b,cst (.bool b)=.bool b) ∧
  (∀b,cst (.string b)=.str b) ∧
  (cst (.pointer Sf)=.nilp)∧(cst .nilFunc=.nilf)∧(cst (.map Sf)=.nilm)∧(cst (.slice Sf 0 0)=.slice .nil []) ∧
  (∀(e:List D)t d,putD e (Sd t) d=e.set t d) ∧
  (∀e d,putD e Sf d=e) ∧
  (∀(x y:D)(xs:List D),(x::xs).set 0 y=y::xs) ∧
  (∀(x y:D)(xs:List D)(n:Nat),(x::xs).set (n+1) y=x::xs.set n y) ∧
  (∀o xs,(D.slice o xs).plain=.slice .none xs) ∧
  (∀k n,(D.int k n).plain=.int k n)∧(∀b,(D.bool b).plain=.bool b)∧(∀b,(D.str b).plain=.str b)∧(∀cs,(D.agg cs).plain=.agg (cs.map D.plain1))∧(∀cs,(D.tup cs).plain=.tup cs) ∧
  (∀o xs,(D.slice o xs).plain1=.slice .none xs) ∧
  (∀xs,(D.slice .nil xs).keep1=.slice .nil xs)∧(∀(xs:List (List D)),(D.slice .none xs).keep1=.slice .none xs)∧(∀(xs:List (List D)),(D.slice .full xs).keep1=.slice .none xs)∧(∀(k z:Nat)(xs:List (List D)),(D.slice (.lab k z) xs).keep1=.slice .none xs) ∧
  (∀k n,(D.int k n).keep1=.int k n)∧(∀b,(D.bool b).keep1=.bool b)∧(∀b,(D.str b).keep1=.str b)∧(∀cs,(D.agg cs).keep1=.agg cs)∧(∀cs,(D.tup cs).keep1=.tup cs) ∧
  (∀b o,(D.box b o).keep1=.box b o)∧(∀cs,(D.pin cs).keep1=.pin cs)∧(∀f a c,(D.func f a c).keep1=.func f a c)∧(D.nilp.keep1=.nilp)∧(D.nilf.keep1=.nilf)∧(D.nilm.keep1=.nilm)∧(∀b,(D.map b).keep1=.map b)∧(∀b,(D.yield b).keep1=.yield b)∧(D.junk.keep1=.junk) ∧
  (∀k n,(D.int k n).plain1=.int k n)∧(∀b,(D.bool b).plain1=.bool b)∧(∀b,(D.str b).plain1=.str b)∧(∀cs,(D.agg cs).plain1=.agg cs)∧(∀cs,(D.tup cs).plain1=.tup cs) ∧
  (∀b o,(D.box b o).plain1=.box b o)∧(∀cs,(D.pin cs).plain1=.pin cs)∧(∀f a c,(D.func f a c).plain1=.func f a c)∧(D.nilp.plain1=.nilp)∧(D.nilf.plain1=.nilf)∧(D.nilm.plain1=.nilm)∧(∀b,(D.map b).plain1=.map b)∧(∀b,(D.yield b).plain1=.yield b)∧(D.junk.plain1=.junk) ∧
  (∀b o,(D.box b o).plain=.box b o)∧(∀cs,(D.pin cs).plain=.pin cs)∧(∀f a c,(D.func f a c).plain=.func f a c)∧(D.nilp.plain=.nilp)∧(D.nilf.plain=.nilf)∧(D.nilm.plain=.nilm)∧(∀b,(D.map b).plain=.map b)∧(∀b,(D.yield b).plain=.yield b)∧(D.junk.plain=.junk) ∧
  (∀cs,cellsD (.agg cs)=Sd cs)∧(∀o xs,cellsD (.slice o xs)=Sd [.slice o xs])∧(∀k n,cellsD (.int k n)=Sd [.int k n])∧(∀b,cellsD (.bool b)=Sd [.bool b])∧(∀b,cellsD (.str b)=Sd [.str b]) ∧
  (∀b o,cellsD (.box b o)=Sd [.box b o])∧(∀c,cellsD (.pin c)=Sd [.pin c])∧(∀f a c,cellsD (.func f a c)=Sd [.func f a c])∧(cellsD .nilp=Sd [.nilp])∧(cellsD .nilf=Sd [.nilf])∧(cellsD .nilm=Sd [.nilm])∧(∀b,cellsD (.map b)=Sd [.map b])∧(∀b,cellsD (.yield b)=Sd [.yield b]) ∧
  (∀(ks:List Nat)e,keep ks e=keepFrom ks 0 e)∧(∀(ks:List Nat)(n:Nat),keepFrom ks n []=[])∧(∀(ks:List Nat)(n:Nat)(d:D)(ds:List D),keepFrom ks n (d::ds)=(bif ks.contains n then d else .junk)::keepFrom ks (n+1) ds) ∧
  (∀(x y:D),(bif Sh then x else y)=x)∧(∀(x y:D),(bif Se then x else y)=y):=by
 and_intros
 all_goals intros
 all_goals first
  |rfl
  |with_unfolding_all rfl
  |exact Kd _ _
theorem vsEv :
  (∀c a b,It (.bool c) a b=Sd (bif c then a else b)) ∧
  (∀P(T:Sk)s,lc P T s=pS (zeroT P T) s) ∧
  (∀zs(B:List Box)L c,pS (Sd zs) ⟨B,L,c⟩=Sd (.box B.length 0,⟨B++[.cells zs],L,c⟩)) ∧
  (∀x s,lb x s=pS (cellsD x) s) ∧
  (∀P(T:Sk)cs s,evLoad P T (.pin cs) s=ta (aU P T) (sizeT P T) cs) ∧
  (∀P(T:Sk)b off B L c,evLoad P T (.box b off) ⟨B,L,c⟩=xE (aU P T) (sizeT P T) B[b]? off) ∧
  (∀ag n cs,ta (Sd ag) (Sd n) cs=l7 ag n cs) ∧
  (∀ag n off(cs:List D),xE (Sd ag) (Sd n) (Sd (.cells cs)) off=l7 ag n (cs.drop off)) ∧
  (∀n(cs:List D),l7 Sh n cs=if n≤cs.length then Sd (.agg ((cs.take n).map D.plain1))else Sf) ∧
  (∀n cs,l7 Se n cs=cs[0]?) ∧
  (∀P(T:Sk)x b off B L c,iP P T (.box b off) x ⟨B,L,c⟩=mz (sizeT P T) (cellsD x) B[b]? B b off L c) ∧
  (∀n(ds cs:List D)(B:List Box)b off L c,mz (Sd n) (Sd ds) (Sd (.cells cs)) B b off L c=if ds.length=n∧off+n≤cs.length then Sd ⟨B.set b (.cells (storeD cs off ds)),L,c⟩else Sf) ∧
  (∀(cs:List D)off(ds:List D),storeD cs off ds=cs.take off++(ds++cs.drop (off+ds.length))) ∧
  (∀P(S:Sk)b off f,ev P S (.box b off) f=Fp (fieldT P S f) b off) ∧
  (∀P(S:Sk)cs f,ev P S (.pin cs) f=Fo (fieldT P S f) cs) ∧
  (∀o n b off ag,Fp (Sd (o,n+1,ag)) b off=Sd (.box b (off+o))) ∧
  (∀o n ag(cs:List D),Fo (Sd (o,n+1,ag)) cs=Sd (.pin (cs.drop o))) ∧
  (∀P(S:Sk)cs f,iQ P S (.agg cs) f=fieldOf (fieldT P S f) cs) ∧
  (∀(cs:List D)o n,fieldOf (Sd (o,n,Sh)) cs=if o+n≤cs.length then Sd (.agg ((cs.drop o).take n))else Sf) ∧
  (∀cs o n,fieldOf (Sd (o,n,Se)) cs=cs[o]?) ∧
  (∀(P:Sj)(T:Sk)o(xs:List (List D))s,gE P T (.slice o xs) s=ls (P.underlying T) xs.length) ∧
  (∀e n,ls (Sd (.slice e)) n=Sd (.int .i64 n)) ∧
  (∀(P:Sj)(T:Sk)(b:ByteArray)s,gE P T (.str b) s=xF (P.underlying T) b.size) ∧
  (∀n,xF (Sd .string) n=Sd (.int .i64 n)) ∧
  (∀P(T:Sk)(k:IntKind)a b,dW P .add T (.int k a) (.int k b)=Sd (.int k (k.wrap (a+b)))) ∧
  (∀P(T:Sk)(k:IntKind)a b,dW P .sub T (.int k a) (.int k b)=Sd (.int k (k.wrap (a-b)))) ∧
  (∀P(T:Sk)(k:IntKind)a b,dW P .mul T (.int k a) (.int k b)=Sd (.int k (k.wrap (a*b)))) ∧
  (∀P(T:Sk)(k:IntKind)(a b:Int),dW P .quo T (.int k a) (.int k b)=if b=0 then Sf else Sd (.int k (k.wrap (a.tdiv b)))) ∧
  (∀P(T:Sk)k(a b:Int),dW P .rem T (.int k a) (.int k b)=if b=0 then Sf else Sd (.int k (a.tmod b))) ∧
  (∀P(T:Sk)k a b,dW P .and T (.int k a) (.int k b)=Sd (.int k (bits .and k a b))) ∧
  (∀P(T:Sk)k a b,dW P .or T (.int k a) (.int k b)=Sd (.int k (bits .or k a b))) ∧
  (∀P(T:Sk)k a b,dW P .xor T (.int k a) (.int k b)=Sd (.int k (bits .xor k a b))) ∧
  (∀P(T:Sk)k a b,dW P .andNot T (.int k a) (.int k b)=Sd (.int k (bits .andNot k a b))) ∧
  (∀P(T:Sk)k a b,dW P .eql T (.int k a) (.int k b)=Sd (.bool (decide (a=b)))) ∧
  (∀P(T:Sk)k a b,dW P .neq T (.int k a) (.int k b)=Sd (.bool (decide (a≠b)))) ∧
  (∀P(T:Sk)k a b,dW P .lss T (.int k a) (.int k b)=Sd (.bool (decide (a<b)))) ∧
  (∀P(T:Sk)k a b,dW P .leq T (.int k a) (.int k b)=Sd (.bool (decide (a≤b)))) ∧
  (∀P(T:Sk)k a b,dW P .gtr T (.int k a) (.int k b)=Sd (.bool (decide (b<a)))) ∧
  (∀P(T:Sk)k a b,dW P .geq T (.int k a) (.int k b)=Sd (.bool (decide (b≤a)))) ∧
  (∀P(T:Sk)k k' a b,dW P .shl T (.int k a) (.int k' b)=mM .shl k a b) ∧
  (∀P(T:Sk)k k' a b,dW P .shr T (.int k a) (.int k' b)=mM .shr k a b) ∧
  (∀P op(T:Sk)a b,dW P op T (.str a) (.str b)=A6 op a b) ∧
  (∀(P:Sj)(T:Sk)a b,dW P .eql T (.bool a) (.bool b)=(uU (P.underlying T) a b).map .bool) ∧
  (∀(P:Sj)(T:Sk)a b,dW P .neq T (.bool a) (.bool b)=(uU (P.underlying T) a b).map λb=>.bool (!b)) ∧
  (∀a b,uU (Sd .bool) a b=Sd (a == b)) ∧
  (∀P(T:Sk)a b,dW P .eql T (.agg a) (.agg b)=((eqT P T).bind λps=>eqParts a b ps).map .bool) ∧
  (∀P(T:Sk)a b,dW P .neq T (.agg a) (.agg b)=((eqT P T).bind λps=>eqParts a b ps).map λb=>.bool (!b)) ∧
  (∀b,HZ .not (.bool b)=Sd (.bool (!b))) ∧
  (∀(k:IntKind)n,HZ .neg (.int k n)=Sd (.int k (k.wrap (0-n)))) ∧
  (∀(P:Sj)(T U:Sk)k n,lu P T U (.int k n)=rR (P.underlying T) (P.underlying U) n) ∧
  (∀(k k':IntKind)n,rR (Sd (.int k)) (Sd (.int k')) n=Sd (.int k' (k'.wrap n))) ∧
  (∀b o,fq (.box b o)=Sd (.box b o))∧(∀(cs:List D),fq (.pin cs)=Sd (.pin cs))∧(∀(f:Nat)(a c:List D),fq (.func (.func f) a c)=Sd (.func (.func f) a c))∧(∀(b:Nat),fq (.yield b)=Sd (.yield b)) ∧
  (∀k k' a b,Bb (.int k a) (.int k' b)=Sd (.int k (if b<a then b else a))) ∧
  (∀k k' a b,Bc (.int k a) (.int k' b)=Sd (.int k (if a<b then b else a))) ∧
  (∀vs i,kb (.tup vs) i=vs[i]?) ∧
  (∀P(T:Sk)ps,la P T ps=tM (bk P T) (zeroT P T) (aH P T) ps) ∧
  (∀zs pl ps,tM Sh (Sd zs) pl ps=(iD pl zs ps).map .agg) ∧
  (∀pl cs,iD pl cs []=Sd cs) ∧
  (∀pl cs i x rest,iD pl cs ((i,x)::rest)=xH (pl i) (cellsD x) pl cs rest) ∧
  (∀off n(ds:List D)pl(cs:List D)rest,xH (Sd (off,n)) (Sd ds) pl cs rest=if ds.length=n∧off+n≤cs.length then iD pl (storeD cs off (ds.map D.keep1)) rest else Sf) ∧
  (∀P(T:Sk)len ps,ez P T len ps=LY (elemT P T) P len ps) ∧
  (∀P(e:Sk)sz b len ag ps,LY (Sd (e,sz,b,ag)) P len ps=LX (zeroT P e) sz len ps) ∧
  (∀(zs:List D)sz len(ps:List (Nat×D)),LX (Sd zs) sz len ps=if len*sz≤16777216∧ps.length=len∧len≤1000000∧zs.length=sz then(eH sz 0 ps).map (.slice .full)else Sf) ∧
  (∀sz k,eH sz k []=Sd []) ∧
  (∀sz k i x rest,eH sz k ((i,x)::rest)=sU (cellsD x) sz k i rest) ∧
  (∀(ds:List D)sz k i rest,sU (Sd ds) sz k i rest=if i=k∧ds.length=sz then(eH sz (k+1) rest).map (ds.map D.plain1 :: ·)else Sf) ∧
  (∀B(L:List Nat)c k z,St.relab ⟨B,L,c⟩ (.lab k z)=⟨B,c::L.erase k,c+1⟩) ∧
  (∀B L c,St.relab ⟨B,L,c⟩ .full=⟨B,c::L,c+1⟩) ∧
  (∀B L c,St.relab ⟨B,L,c⟩ .nil=⟨B,c::L,c+1⟩) ∧
  (∀k z sz xs B(L:List Nat)c,aZ (.lab k z) xs sz ⟨B,L,c⟩=(L.contains k&&z == sz)) ∧
  (∀sz(xs:List (List D))s,aZ .full xs sz s=xs.all (·.length == sz)) ∧
  (∀sz(xs:List (List D))s,aZ .nil xs sz s=xs.all (·.length == sz)) ∧
  (∀(α β:Type)(c:Prop)(inst:Decidable c)(x:Option α)(f:α→β),(@ite _ c inst x Sf).map f=@ite _ c inst (x.map f) Sf) ∧
  (∀(α β:Type)(x:α)(f:α→β),(Sd x).map f=Sd (f x))∧(∀(α β:Type)(f:α→β),(Sf:Option α).map f=Sf)∧(∀(α β:Type)(x:α)(f:α→Option β),(Sd x).bind f=f x):=by
 and_intros
 all_goals intros
 all_goals first
  |rfl
  |with_unfolding_all rfl
  |exact uS
  |exact EA
  |exact EF
  |exact G6
  |exact uR
  |exact qr (by simp) (by simp)
  |(show(xg _ _ (.agg _) (.agg _)).map _=_;rw[G5])
  |(show(xg _ _ (.bool _) (.bool _)).map _=_;rw[EG])
  |(split<;>rfl)
  |(simp only[evLoad,xE,gE,ls,xF,la,tM,ez,LY,eH,sU];done)
  |(simp only[evLoad,xE,gE,ls,xF,la,tM,ez,LY,eH,sU];(repeat' split)<;>simp_all)
  |trace_state
def pureOp:Op→Bool
 |.move _|.assign _|.pick .. |.build .. |.buildSlice .. |.nilCheck _|.binOp .. |.unOp .. |.convert .. |.makeFunc .. |.slice .. |.fieldAddr .. |.field .. |.indexAddr .. |.index .. |.extract .. => Sh
 |_=>Se
theorem vH{ρ:Sn→D}{op:Op}(hp:pureOp op=Sh)(h:evalOp P ρ s op=Sd (d,s')):s'=s∧∀s2,evalOp P ρ s2 op=Sd (d,s2):=by
 cases op<;>simp only[pureOp]at hp<;>first|(cases hp;done)|skip
 case pick c a b =>
  simp only[evalOp]at h⊢;split at h
  ·cases h;exact⟨rfl,λ_=>rfl⟩
  ·cases h
 all_goals
  simp only[evalOp]at h⊢;first
   |(cases h;exact⟨rfl,λ_=>rfl⟩)
   |(obtain⟨x,hx,e⟩:=map_some h;cases e;exact⟨rfl,λs2=>by rw[hx];rfl⟩)
def HG(op:Op):List Nat:=op.operands.toList.filterMap λ|.tmp t=>Sd t|_=>Sf
theorem De{op:Op}(h:∀t∈HG op,e.getD t .junk=e'.getD t .junk):∀x∈op.operands,val e x=val e' x:=by
 intro x hx;cases x<;>simp only[val];exact h _ (Rq.2 ⟨_,by simpa using hx,rfl⟩)
theorem wB{ρ ρ':Sn→D}{op:Op}(h:∀x∈op.operands,ρ x=ρ' x):evalOp P ρ s op=evalOp P ρ' s op:=by
 cases op<;>simp only[evalOp];case build T ps=>rw[P1 (λq hq=>by rw[h q.2 (by simp[Op.operands];exact⟨q.1,by simpa using hq⟩)])]
 case buildSlice T n ps=>rw[P1 (λq hq=>by rw[h q.2 (by simp[Op.operands];exact⟨q.1,by simpa using hq⟩)])]
 case makeFunc fn fi ca =>
  rw[P1 (l:=fi.toList) (λq hq=>h q (by simp[Op.operands];exact .inl (by simpa using hq))),P1 (l:=ca.toList) (λq hq=>h q (by simp[Op.operands];exact .inr (by simpa using hq)))]
 case slice T x lo hi mx =>
  rw[h x (by simp[Op.operands])];have:∀(y:Option Sn),(∀z,y=Sd z→ρ z=ρ' z)→y.map ρ=y.map ρ':=λy hy=>by cases y with
   |none=>rfl
   |some z=>simp[hy z rfl]
  rw[this lo (λz hz=>h z (by simp[Op.operands,hz])),this hi (λz hz=>h z (by simp[Op.operands,hz])),this mx (λz hz=>h z (by simp[Op.operands,hz]))]
 case makeMap T r=>cases r with
  |none=>rfl
  |some x=>simp only[h x (by simp[Op.operands])]
 case call c =>
  obtain⟨callee,args,ts⟩:=c;cases callee with
  |value f=>rfl
  |invoke r m=>rfl
  |builtin b=>simp only;rw[P1 (λq hq=>h q (by simp[Op.operands,Call.operands];simpa using hq))]
 all_goals
  first
   |rfl
   |(simp[Op.operands]at h;simp only[h])
   |(simp[Op.operands]at h;simp only[h.1,h.2])
   |(simp[Op.operands]at h;simp only[h.1,h.2.1,h.2.2])
theorem sL{ρ ρ':Sn→D}(h:∀x∈o.op.operands,ρ x=ρ' x)(hs:uW P o ρ s d s'):uW P o ρ' s d s':=by
 rcases hs with hs|⟨f,args,ts,ho,hc⟩
 ·exact .inl (by rw[←wB h];exact hs)
 ·refine .inr ⟨f,args,ts,ho,?_⟩;rw[ho]at h;rw[←h f (by simp[Op.operands,Call.operands])];have:argsOf ρ' args=argsOf ρ args:=by
   unfold argsOf;exact P1 λx hx=>by rw[h x (by simp[Op.operands,Call.operands];exact .inr (by simpa using hx))]
  rw[this];exact hc
theorem yU{ρ:Sn→D}{K:D→St→Prop}(h:uW P o ρ s d s')(hK:K d s'):dg P o.op ρ s K:=by
 rcases h with h|⟨f,args,ts,ho,hc⟩
 ·unfold dg;split
  ·rename_i f args ts heq;rw[heq]at h;simp[evalOp]at h
  ·exact cz.2 ⟨d,s',h,hK⟩
 ·rw[ho];exact⟨d,s',hc,hK⟩
def nh(full:List Sp)(o:Sp):List Nat:=
  (match guardOf full o.guard with
   |some (Sd (t,_))=>[t]
   |_=>[])++HG o.op
def iu(P:Sj)(full:List Sp)(o:Sp)(e:List D)(s:St)(d:D)(s':St):Prop:=
 match guardOf full o.guard with
 |some Sf=>uW P o (val e) s d s'
 |some (Sd (t,b))=>(gdD b (e.getD t .junk)=.bool b∧uW P o (val e) s d s')∨(gdD b (e.getD t .junk)=.bool (!b)∧d=.tup []∧s'=s)
 |none=>False
theorem jv{full:List Sp}(h:∀t∈nh full o,e.getD t .junk=e'.getD t .junk)(hs:iu P full o e s d s'):iu P full o e' s d s':=by
 have hv:∀x∈o.op.operands,val e x=val e' x:=De λt ht=>h t (List.mem_append_right _ ht);unfold iu at hs⊢;unfold nh at h;cases hg:guardOf full o.guard with
 |none=>rw[hg]at hs;exact hs.elim
 |some x =>
  rw[hg]at hs h;cases x with
  |none=>exact sL hv hs
  |some x =>
   obtain⟨t,b⟩:=x;have ht:=h t (by simp);rcases hs with ⟨h1,h2⟩|⟨h1,h2⟩
   ·exact .inl ⟨by rw[←ht];exact h1,sL hv h2⟩
   ·exact .inr ⟨by rw[←ht];exact h1,h2⟩
theorem AF{full:List Sp}(hp:pureOp o.op=Sh)(h:iu P full o e s d s')(s2:St):iu P full o e s2 d s2:=by
 have hst:uW P o (val e) s d s'→uW P o (val e) s2 d s2:=by
  rintro(h|⟨f,args,ts,ho,_⟩)
  ·exact .inl ((vH hp h).2 s2)
  ·rw[ho]at hp;cases hp
 unfold iu at h⊢;cases hg:guardOf full o.guard with
 |none=>rw[hg]at h;exact h.elim
 |some x =>
  rw[hg]at h;cases x with
  |none=>exact hst h
  |some x =>
   obtain⟨t,b⟩:=x;rcases h with ⟨h1,h2⟩|⟨h1,h2,h3⟩
   ·exact .inl ⟨h1,hst h2⟩
   ·exact .inr ⟨h1,h2,rfl⟩
theorem vz{full os:List Sp}{K:List D→St→Prop}(h:iu P full o e s d s')(hK:cE P full os (putD e o.dst d) s' K):cE P full (o::os) e s K:=by
 unfold iu at h;simp only[cE];cases hg:guardOf full o.guard with
 |none=>rw[hg]at h;exact h.elim
 |some x =>
  rw[hg]at h;cases x with
  |none=>exact yU h hK
  |some x =>
   obtain⟨t,b⟩:=x;rcases h with ⟨h1,h2⟩|⟨h1,rfl,rfl⟩
   ·cases b<;>simp only[h1,ifB]<;>exact yU h2 hK
   ·cases b<;>simp only[h1,ifB,N3,Bool.not_false]<;>exact hK
def jN(P:Sj)(full:List Sp):List Bool→List Sp→List D→St→List St→(List D→St→List St→Prop)→Prop
 | [],[],e,s,ss,K=>K e s ss
 |b::bs,o::os,e,s,ss,K =>
  match guardOf full o.guard with
  |some Sf=>dg P o.op (val e) s λd s'=>(b=Sh∨s'=s)∧jN P full bs os (putD e o.dst d) s' (bif b then s::ss else ss) K
  |some (Sd (t,Sh))=>ifB (gdD Sh (e.getD t .junk)) (dg P o.op (val e) s λd s'=>(b=Sh∨s'=s)∧jN P full bs os (putD e o.dst d) s' (bif b then s::ss else ss) K) (jN P full bs os (putD e o.dst (.tup [])) s (bif b then s::ss else ss) K)
  |some (Sd (t,Se))=>ifB (gdD Se (e.getD t .junk)) (jN P full bs os (putD e o.dst (.tup [])) s (bif b then s::ss else ss) K) (dg P o.op (val e) s λd s'=>(b=Sh∨s'=s)∧jN P full bs os (putD e o.dst d) s' (bif b then s::ss else ss) K)
  |none=>False
 |_,_,_,_,_,_=>False
def Tr(P:Sj)(full:List Sp):List Bool→List Sp→List D→St→List D→List St→Prop
 | [],[],e,s,e',sts=>e'=e∧sts=[s]
 |true::bs,o::os,e,s,e',sts=>∃d s',iu P full o e s d s'∧∃r,sts=s::r∧Tr P full bs os (putD e o.dst d) s' e' r
 |false::bs,o::os,e,s,e',sts=>∃d,iu P full o e s d s∧Tr P full bs os (putD e o.dst d) s e' sts
 |_,_,_,_,_,_=>False
theorem l9{c:D}{x y:Prop}(h:ifB c x y):(c=.bool Sh∧x)∨(c=.bool Se∧y):=by
 unfold ifB at h;split at h
 ·exact .inl ⟨rfl,h⟩
 ·exact .inr ⟨rfl,h⟩
 ·exact h.elim
theorem JM{full:List Sp}{K:List D→St→List St→Prop}:∀(bs:List Bool)(os:List Sp)(e:List D)(s:St)(ss:List St),jN P full bs os e s ss K →
  ∃e' s' ss' sts,Tr P full bs os e s e' sts∧ss'.reverse++[s']=ss.reverse++sts∧K e' s' ss':=by
 intro bs;induction bs with
 |nil =>
  intro os e s ss h;cases os with
  |nil=>exact⟨e,s,ss,[s],⟨rfl,rfl⟩,rfl,h⟩
  |cons o os=>simp[jN]at h
 |cons b bs ih =>
  intro os e s ss h;cases os with
  |nil=>simp[jN]at h
  |cons o os =>
   have key:∀d s',iu P full o e s d s'→(b=Sh∨s'=s)→jN P full bs os (putD e o.dst d) s' (bif b then s::ss else ss) K →
     ∃e' s'' ss' sts,Tr P full (b::bs) (o::os) e s e' sts∧ss'.reverse++[s'']=ss.reverse++sts∧K e' s'' ss':=by
    intro d s' h1 h2 h3;obtain⟨e',s'',ss',sts,t1,t2,t3⟩:=ih os _ s' _ h3;cases b with
    |true=>exact⟨e',s'',ss',s::sts,⟨d,s',h1,sts,rfl,t1⟩,by rw[t2];simp,t3⟩
    |false =>
     rcases h2 with h2|rfl
     ·cases h2
     ·exact⟨e',s'',ss',sts,⟨d,h1,t1⟩,by rw[t2];simp,t3⟩
   simp only[jN]at h;have hO:∀d s',iu P full o e s d s'=match guardOf full o.guard with
    |some Sf=>uW P o (val e) s d s'
    |some (Sd (t,b))=>(gdD b (e.getD t .junk)=.bool b∧uW P o (val e) s d s')∨(gdD b (e.getD t .junk)=.bool (!b)∧d=.tup []∧s'=s)
    |none=>False:=λ_ _=>rfl
   cases hg:guardOf full o.guard with
   |none=>rw[hg]at h;exact h.elim
   |some x =>
    rw[hg]at h;cases x with
    |none =>
     obtain⟨d,s',h1,h2,h3⟩:=iX h;exact key d s' (by rw[hO,hg];exact h1) h2 h3
    |some x =>
     obtain⟨t,c⟩:=x;cases c with
     |true =>
      rcases l9 h with ⟨q,h⟩|⟨q,h⟩
      ·obtain⟨d,s',h1,h2,h3⟩:=iX h;exact key d s' (by rw[hO,hg];exact .inl ⟨q,h1⟩) h2 h3
      ·exact key (.tup []) s (by rw[hO,hg];exact .inr ⟨q,rfl,rfl⟩) (.inr rfl) h
     |false =>
      rcases l9 h with ⟨q,h⟩|⟨q,h⟩
      ·exact key (.tup []) s (by rw[hO,hg];exact .inr ⟨q,rfl,rfl⟩) (.inr rfl) h
      ·obtain⟨d,s',h1,h2,h3⟩:=iX h;exact key d s' (by rw[hO,hg];exact .inl ⟨q,h1⟩) h2 h3
def dstsOf(os:List Sp):List Nat:=os.filterMap (·.dst)
theorem ft{dst:Option Tmp}:(putD e dst d).length=e.length:=by cases dst<;>simp[putD]
theorem oZ{dst:Option Tmp}(h:dst≠Sd t):(putD e dst d)[t]?=e[t]?:=by
 cases dst with
 |none=>rfl
 |some u=>simp only[putD];rw[Oj (λq=>h (by rw[q]))]
theorem uz{full:List Sp}:∀(bs:List Bool)(os:List Sp)(e:List D)(s:St)(e':List D)(sts:List St),Tr P full bs os e s e' sts →
  e'.length=e.length∧sts.length=bs.count Sh+1∧bs.length=os.length∧sts[0]?=Sd s:=by
 intro bs;induction bs with
 |nil =>
  intro os e s e' sts h;cases os with
  |nil=>obtain⟨rfl,rfl⟩:=h;exact⟨rfl,rfl,rfl,rfl⟩
  |cons o os=>simp[Tr]at h
 |cons b bs ih =>
  intro os e s e' sts h;cases os with
  |nil=>cases b<;>simp[Tr]at h
  |cons o os =>
   cases b with
   |true =>
    obtain⟨d,s',h1,r,rfl,h2⟩:=h;obtain⟨i1,i2,i3,i4⟩:=ih os _ _ _ _ h2;exact⟨i1.trans ft,by simp[i2],by simp[i3],rfl⟩
   |false =>
    obtain⟨d,h1,h2⟩:=h;obtain⟨i1,i2,i3,i4⟩:=ih os _ _ _ _ h2;exact⟨i1.trans ft,by simp[i2],by simp[i3],i4⟩
theorem wG{full:List Sp}:∀(bs:List Bool)(os:List Sp)(e:List D)(s:St)(e':List D)(sts:List St),Tr P full bs os e s e' sts →
  ∀t,t ∉ dstsOf os→e'[t]?=e[t]?:=by
 intro bs;induction bs with
 |nil =>
  intro os e s e' sts h t _;cases os with
  |nil=>obtain⟨rfl,rfl⟩:=h;rfl
  |cons o os=>simp[Tr]at h
 |cons b bs ih =>
  intro os e s e' sts h t ht;cases os with
  |nil=>cases b<;>simp[Tr]at h
  |cons o os =>
   have h0:o.dst≠Sd t:=λq=>ht (by simp[dstsOf,q]);have h1:t ∉ dstsOf os:=λq=>ht (by
    unfold dstsOf at q⊢;rw[QF];split
    ·exact q
    ·exact .tail _ q)
   cases b with
   |true=>obtain⟨d,s',_,r,rfl,h2⟩:=h;rw[ih os _ _ _ _ h2 t h1,oZ h0]
   |false=>obtain⟨d,_,h2⟩:=h;rw[ih os _ _ _ _ h2 t h1,oZ h0]
theorem NE{full:List Sp}:∀(bs:List Bool)(os:List Sp)(e:List D)(s:St)(e':List D)(sts:List St),Tr P full bs os e s e' sts→(dstsOf os).Nodup →
  ∀p o b,os[p]?=Sd o→bs[p]?=Sd b→∃ep d sp sp',iu P full o ep sp d sp'∧sts[(bs.take p).count Sh]?=Sd sp∧(b=Sh→sts[(bs.take p).count Sh+1]?=Sd sp')∧(b=Se→sp'=sp) ∧
   (∀t,ep[t]?=if t∈dstsOf (os.take p)then e'[t]? else e[t]?)∧(∀t,o.dst=Sd t→t<e.length→e'[t]?=Sd d):=by
 intro bs;induction bs with
 |nil=>intro os e s e' sts h _ p o b _ hb;simp at hb
 |cons b0 bs ih =>
  intro os e s e' sts h hn p o b ho hb;cases os with
  |nil=>simp at ho
  |cons o0 os =>
   have hn':(dstsOf os).Nodup∧∀t,o0.dst=Sd t→t ∉ dstsOf os:=by
    unfold dstsOf at hn⊢;rw[QF]at hn;split at hn
    ·rename_i q;exact⟨hn,λt ht=>by rw[q]at ht;cases ht⟩
    ·rename_i u q;exact⟨(OZ.1 hn).2,λt ht=>by rw[q]at ht;cases ht;exact(OZ.1 hn).1⟩
   have rest:∀d sn st',Tr P full bs os (putD e o0.dst d) sn e' st'→∀t,o0.dst=Sd t→t<e.length→e'[t]?=Sd d:=by
    intro d sn st' h2 t ht hl;rw[wG _ _ _ _ _ _ h2 t (hn'.2 t ht),ht];simp[putD,hl]
   cases p with
   |zero =>
    simp only[List.getElem?_cons_zero,Pk.injEq]at ho hb;subst ho hb;cases b0 with
    |true =>
     obtain⟨d,s',h1,r,rfl,h2⟩:=h;refine⟨e,d,s,s',h1,rfl,λ_=>?_,λq=>(by cases q),λt=>by simp[dstsOf],rest d s' r h2⟩;simp only[List.take_zero,List.count_nil,Nat.zero_add,OK];exact(uz _ _ _ _ _ _ h2).2.2.2
    |false =>
     obtain⟨d,h1,h2⟩:=h;exact⟨e,d,s,s,h1,(uz _ _ _ _ _ _ h2).2.2.2,λq=>(by cases q),λ_=>rfl,λt=>by simp[dstsOf],rest d s sts h2⟩
   |succ p =>
    simp only[OK]at ho hb;have fin:∀d sn st',Tr P full bs os (putD e o0.dst d) sn e' st'→∀(ep:List D),(∀t,ep[t]?=if t∈dstsOf (os.take p)then e'[t]? else(putD e o0.dst d)[t]?)→∀t,ep[t]?=if t∈dstsOf ((o0::os).take (p+1))then e'[t]? else e[t]?:=by
     intro d sn st' h2 ep he t;rw[he t];have hd:t∈dstsOf ((o0::os).take (p+1))↔o0.dst=Sd t∨t∈dstsOf (os.take p):=by
      simp only[List.take_succ_cons,dstsOf,QF];split
      ·rename_i q;simp[q]
      ·rename_i u q;simp[q,eq_comm]
     by_cases c1:t∈dstsOf (os.take p)
     ·rw[if_pos c1,if_pos (hd.2 (.inr c1))]
     ·rw[if_neg c1];by_cases c2:o0.dst=Sd t
      ·rw[if_pos (hd.2 (.inl c2))];rw[wG _ _ _ _ _ _ h2 t (hn'.2 t c2)]
      ·rw[if_neg (λq=>(hd.1 q).elim c2 c1),oZ c2]
    cases b0 with
    |true =>
     obtain⟨d0,s',h1,r,rfl,h2⟩:=h;obtain⟨ep,d,sp,sp',k1,k2,k3,k4,k5,k6⟩:=ih os _ _ _ _ h2 hn'.1 p o b ho hb;exact⟨ep,d,sp,sp',k1,by simpa using k2,λq=>by simpa using k3 q,k4,fin d0 s' r h2 ep k5,λt ht hl=>k6 t ht (by rw[ft];exact hl)⟩
    |false =>
     obtain⟨d0,h1,h2⟩:=h;obtain⟨ep,d,sp,sp',k1,k2,k3,k4,k5,k6⟩:=ih os _ _ _ _ h2 hn'.1 p o b ho hb;exact⟨ep,d,sp,sp',k1,by simpa using k2,λq=>by simpa using k3 q,k4,fin d0 s sts h2 ep k5,λt ht hl=>k6 t ht (by rw[ft];exact hl)⟩
def Da(ops:List Sp):List Nat→List Nat→Prop
 |done,[]=>∀i,i<ops.length→i∈done
 |done,i::π=>(∃o,ops[i]?=Sd o∧∀e∈o.after.toList,Region.binds .any e=Sh→e.on∈done)∧i ∉ done∧Da ops (i::done) π
def qt(ops:List Sp):Bool:=(Ol ops.length).all λi=>match ops[i]? with
 |some o=>o.after.toList.all λe=>!Region.binds .any e ||decide (e.on<i)
 |none=>Sh
theorem iz{ops:List Sp}(h:qt ops=Sh){i:Nat}{o:Sp}(hi:ops[i]?=Sd o):∀e∈o.after.toList,Region.binds .any e=Sh→e.on<i:=by
 intro e he hb;have hlt:i<ops.length:=by
  rcases OU i ops.length with q|q
  ·exact q
  ·rw[Oz q]at hi;cases hi
 have h1:=N0.1 h i (Ow.2 hlt);simp only[hi]at h1;have h2:=N0.1 h1 e he;simpa[hb]using h2
theorem Kc{ops:Array Sp}(hb:qt ops.toList=Sh):∀(fuel t:Nat)(listed:Array Bool)(done:List Nat),listed.size=ops.size→(∀i,i<ops.size→listed.getD i Sh=decide (i∈done)) →
  (Ol ops.size).countP (λi=>decide (i ∉ done))≤fuel→Da ops.toList done (Region.linearise.go .any ops fuel t listed []):=by
 intro fuel;induction fuel with
 |zero =>
  intro t listed done hs hl hf;simp only[Region.linearise.go,R7,Da];intro i hi;simp only[Nat.le_zero,List.countP_eq_zero,Ow,decide_eq_true_eq,Decidable.not_not]at hf;exact hf i (by simpa using hi)
 |succ fuel ih =>
  intro t listed done hs hl hf;have hgetF:∀i,i<ops.size→listed.getD i Se=decide (i∈done):=λi hi=>by
   rw[←hl i hi];simp[Rm,hs,hi]
  have hmem:∀i,i∈Region.ready .any ops listed↔i<ops.size∧i ∉ done∧∃o,ops[i]?=Sd o∧∀e∈o.after.toList,Region.binds .any e=Sh→e.on∈done:=by
   intro i;unfold Region.ready;simp only[OW,Ow];constructor
   ·rintro⟨h1,h2⟩;simp only[M1,Oy,OI h1,Po,OB]at h2;refine⟨h1,?_,ops[i],by simp[h1],?_⟩
    ·have:=h2.1;rw[hl i h1]at this;simpa using this
    ·intro e he hbe;have h3:=R0.1 h2.2 e (by simpa using he);simp only[hbe,N3,L5]at h3;have hlt:e.on<ops.size:=by
      have:=iz hb (i:=i) (o:=ops[i]) (by simp[h1]) e he hbe
      omega
     rw[hgetF _ hlt]at h3;simpa using h3
   ·rintro⟨h1,h2,o,ho,h3⟩;refine⟨h1,?_⟩;have ho':ops[i]?=Sd o:=ho;simp only[ho',Po,OB,M1,Oy];refine⟨by rw[hl i h1];simpa using h2,R0.2 λe he=>?_⟩;cases hbe:Region.binds .any e with
    |false=>rfl
    |true =>
     simp only[N3,L5];have hlt:e.on<ops.size:=by
      have:=iz hb (i:=i) (o:=o) (by simpa using ho') e (by simpa using he) hbe
      omega
     rw[hgetF _ hlt];simpa using h3 e (by simpa using he) hbe
  simp only[Region.linearise.go];change Da ops.toList done (match (Region.ready .any ops listed)[t % (Region.ready .any ops listed).length]? with
   |some i=>Region.linearise.go .any ops fuel (t / (Region.ready .any ops listed).length) (listed.setIfInBounds i Sh) [i]
   |none=>[].reverse)
  cases hi:(Region.ready .any ops listed)[t % (Region.ready .any ops listed).length]? with
  |none =>
   have hnil:Region.ready .any ops listed=[]:=by
    cases hr:Region.ready .any ops listed with
    |nil=>rfl
    |cons x xs =>
     rw[hr]at hi;have hlt:t % (x::xs).length<(x::xs).length:=QE _ (by simp);simp at hi;simp at hlt;omega
   show ∀i,i<ops.toList.length→i∈done;have:∀n i,i<n→i<ops.size→i∈done:=by
    intro n;induction n with
    |zero=>intro i hi;omega
    |succ n ihn =>
     intro i hi hio;apply Decidable.byContradiction;intro hnd;have:i∈Region.ready .any ops listed:=(hmem i).2 ⟨hio,hnd,ops[i],by simp[hio],λe he hbe=>by
      have hlt:=iz hb (i:=i) (o:=ops[i]) (by simp[hio]) e he hbe;exact ihn e.on (by omega) (by omega)⟩
     rw[hnil]at this;cases this
   intro i hi;exact this (i+1) i (by omega) (by simpa using hi)
  |some i =>
   simp only[];rw[linearise_go_acc,List.reverse_singleton,List.singleton_append];obtain⟨h1,h2,h3⟩:=(hmem i).1 (PW hi);refine⟨?_,h2,ih _ _ (i::done) (by simpa using hs) (λj hj=>?_) ?_⟩
   ·obtain⟨o,ho,h4⟩:=h3;exact⟨o,by simpa using ho,h4⟩
   ·by_cases hji:j=i
    ·subst hji;simp[Rm,hs,hj]
    ·have e1:(listed.setIfInBounds i Sh).getD j Sh=listed.getD j Sh:=by
      simp only[Array.getD_eq_getD_getElem?];rw[OM (λq=>hji q.symm)]
     rw[e1,hl j hj];have:(j∈i::done)↔j∈done:=by simp[hji]
     simp[this]
   ·have hlt:(Ol ops.size).countP (λj=>decide (j ∉ i::done))<(Ol ops.size).countP (λj=>decide (j ∉ done)):=by
     have hsub:∀(l:List Nat),l.countP (λj=>decide (j ∉ i::done))≤l.countP (λj=>decide (j ∉ done)):=λl=>List.countP_mono_left λx _ hx=>by simp at hx⊢;exact hx.2
     have:∀(l:List Nat),i∈l→l.countP (λj=>decide (j ∉ i::done))<l.countP (λj=>decide (j ∉ done)):=by
      intro l;induction l with
      |nil=>intro h;cases h
      |cons x l ihl =>
       intro hm;rw[R8,R8];by_cases hx:i=x
       ·subst hx;have:=hsub l
        simp[h2];simp at this;omega
       ·have hl':=ihl ((NX.1 hm).resolve_left hx);have hx':decide (x ∉ i::done)=decide (x ∉ done):=by simp[Ne.symm hx]
        rw[hx'];split<;>omega
     exact this _ (Ow.2 h1)
    omega
abbrev Anc:=List (List Nat)
def M9(ops:List Sp):Anc:=ops.foldl (λacc o=>acc++[(o.after.toList.filter (Region.binds .any)).foldl (λl e=>(e.on::acc.getD e.on []).foldl (λl j=>if l.contains j then l else j::l) l) []]) []
def Bz(ops:List Sp)(A:Anc):Bool:=(Ol ops.length).all λi=>match ops[i]? with
 |some o=>(A.getD i []).all λa=>o.after.toList.any λe=>Region.binds .any e&&(a == e.on ||(A.getD e.on []).contains a)
 |none=>Sh
def BT(ops:List Sp)(A:Anc):Bool:=(Ol ops.length).all λi=>match ops[i]? with
 |some o =>
  let l:=nh ops o
  (Ol ops.length).all λj=>match (ops[j]?).bind (·.dst)with
   |some t=>!l.contains t ||(i != j&&((A.getD i []).contains j ||(A.getD j []).contains i))
   |none=>Sh
 |none=>Sh
def exts(A:Anc):Nat→List Nat→List (List Nat)
 |0,_=>[[]]
 |_+1,[]=>[[]]
 |f+1,i::l=>(i::l).flatMap λk=>if (i::l).any λj=>(A.getD k []).contains j then[]else(exts A f ((i::l).erase k)).map (k :: ·)
def vd:List Nat→Bool
 | []=>Sh
 |x::l=>!l.contains x&&vd l
structure Plan where
 ord:List Nat
 un:List (Nat×Nat)
def BN(ops:List Sp)(A:Anc)(effs:List Nat)(pl:Plan):Bool:=
 let E:=pl.ord.filter effs.contains
 vd pl.ord&&(Ol ops.length).all pl.ord.contains&&pl.ord.all (· < ops.length) &&
 ((Ol pl.ord.length).all λp=>match pl.ord[p]? with
  |some i=>(A.getD i []).all λa=>(pl.ord.take p).contains a
  |none=>Sh) &&
 ((Ol pl.ord.length).all λp=>match pl.ord[p]? with
  |some i=>effs.contains i ||((ops[i]?).map (pureOp ·.op)).getD Se ||
   (Ol (E.length+1)).all λk =>
    k == ((pl.ord.take p).filter effs.contains).length ||pl.un.contains (i,k) ||
    !((Ol E.length).all λq=>match E[q]? with
     |some j=>(!(A.getD i []).contains j ||decide (q<k))&&(!(A.getD j []).contains i ||decide (k≤q))
     |none=>Sh)
  |none=>Sh) &&
 (pl.un.all λ(i,_)=>match ops[i]? with
  |some o =>
   let l:=nh ops o
   (Ol ops.length).all λj=>match (ops[j]?).bind (·.dst)with
    |some t=>!l.contains t ||(A.getD i []).contains j
    |none=>Sh
  |none=>Sh)
def xJ(ops:List Sp)(effs:List Nat)(plans:List Plan):Bool:=
 let A:=M9 ops
 qt ops&&Bz ops A&&BT ops A&&vd (dstsOf ops)&&plans.all (BN ops A effs) &&
 (exts A ops.length ((Ol ops.length).filter effs.contains)).all λo=>plans.any λpl=>pl.ord.filter effs.contains == o
theorem s5:∀{l:List Nat},vd l=Sh→l.Nodup:=by
 intro l;induction l with
 |nil=>intro _;exact .nil
 |cons x l ih =>
  intro h;simp only[vd,M1,Oy]at h;exact OZ.2 ⟨by simpa using h.1,ih h.2⟩
section
variable {ops:List Sp} {A:Anc} {effs:List Nat}
def KI(A:Anc)(done:List Nat):Prop:=∀i∈done,∀a∈A.getD i [],a∈done
theorem qx(hA:Bz ops A=Sh){done:List Nat}(hc:KI A done){i:Nat}(hi:∃o,ops[i]?=Sd o∧∀e∈o.after.toList,Region.binds .any e=Sh→e.on∈done):∀a∈A.getD i [],a∈done:=by
 obtain⟨o,ho,h⟩:=hi;intro a ha;have hlt:i<ops.length:=by
  rcases OU i ops.length with q|q
  ·exact q
  ·rw[Oz q]at ho;cases ho
 have h1:=N0.1 hA i (Ow.2 hlt);simp only[ho]at h1;obtain⟨e,he,h2⟩:=PH.1 (N0.1 h1 a ha);simp only[M1,PF,beq_iff_eq,PD]at h2;have hon:=h e he h2.1;rcases h2.2 with rfl|q
 ·exact hon
 ·exact hc _ hon a q
theorem qy(hA:Bz ops A=Sh){done:List Nat}(hc:KI A done){i:Nat}(hi:∃o,ops[i]?=Sd o∧∀e∈o.after.toList,Region.binds .any e=Sh→e.on∈done):KI A (i::done):=by
 intro j hj a ha;rcases NX.1 hj with rfl|hj
 ·exact .tail _ (qx hA hc hi a ha)
 ·exact .tail _ (hc j hj a ha)
theorem G3(hA:Bz ops A=Sh)(p:Nat→Bool):∀(π done rem:List Nat)(f:Nat),Da ops done π→KI A done→rem.Nodup→(∀i,i∈rem↔i<ops.length∧p i=Sh∧i ∉ done)→rem.length≤f →
  π.filter p∈exts A f rem:=by
 intro π;induction π with
 |nil =>
  intro done rem f hl _ _ hr _;have:rem=[]:=by
   cases rem with
   |nil=>rfl
   |cons x l=>exact absurd (hl x ((hr x).1 (.head _)).1) ((hr x).1 (.head _)).2.2
  subst this;cases f<;>simp[exts]
 |cons i π ih =>
  intro done rem f hl hc hn hr hf;obtain⟨h1,h2,h3⟩:=hl;have hlt:i<ops.length:=by
   obtain⟨o,ho,_⟩:=h1;rcases OU i ops.length with q|q
   ·exact q
   ·rw[Oz q]at ho;cases ho
  cases hp:p i with
  |false =>
   rw[Q2 (by simp[hp])];refine ih (i::done) rem f h3 (qy hA hc h1) hn (λj=>?_) hf;rw[hr j];constructor
   ·rintro⟨a,b,c⟩;exact⟨a,b,by simp only[NX,not_or];exact⟨λq=>(by rw[q,hp]at b;cases b),c⟩⟩
   ·rintro⟨a,b,c⟩;exact⟨a,b,λq=>c (.tail _ q)⟩
  |true =>
   rw[Q3 hp];have hi:i∈rem:=(hr i).2 ⟨hlt,hp,h2⟩;cases rem with
   |nil=>cases hi
   |cons x l =>
    cases f with
    |zero=>simp at hf
    |succ f =>
     simp only[exts];refine List.mem_flatMap.2 ⟨i,hi,?_⟩;have hno:((x::l).any λj=>(A.getD i []).contains j)=Se:=by
      rw[List.any_eq_false];intro j hj q;exact((hr j).1 hj).2.2 (qx hA hc h1 j (by simpa using q))
     rw[hno];simp only[On,if_false];refine Og.2 ⟨_,ih (i::done) ((x::l).erase i) f h3 (qy hA hc h1) (hn.erase i) (λj=>?_) ?_,rfl⟩
     ·rw[hn.mem_erase_iff,hr j];simp only[NX,not_or];constructor
      ·rintro⟨a,b,c,d⟩;exact⟨b,c,a,d⟩
      ·rintro⟨a,b,c,d⟩;exact⟨c,a,b,d⟩
     ·rw[List.length_erase_of_mem hi];omega
end
def Ky(P:Sj)(full:List Sp)(o:Sp)(e:List D)(s:St):Prop:=
 match guardOf full o.guard with
 |some Sf=>dg P o.op (val e) s λd s'=>(∀t,o.dst=Sd t→d=e.getD t .junk)∧s'=s
 |some (Sd (t,Sh))=>ifB (gdD Sh (e.getD t .junk)) (dg P o.op (val e) s λd s'=>(∀t,o.dst=Sd t→d=e.getD t .junk)∧s'=s) True
 |some (Sd (t,Se))=>ifB (gdD Se (e.getD t .junk)) True (dg P o.op (val e) s λd s'=>(∀t,o.dst=Sd t→d=e.getD t .junk)∧s'=s)
 |none=>False
def iE(P:Sj)(full:List Sp)(e:List D)(sts:List St):List (Nat×Nat)→Prop
 | []=>True
 |(i,k)::un=>(match full[i]?,sts[k]? with
  |some o,Sd s=>Ky P full o e s
  |_,_=>False)∧iE P full e sts un
theorem Bq{full:List Sp}{sts:List St}:∀{un:List (Nat×Nat)},iE P full e sts un→∀i k,(i,k)∈un→∃o s,full[i]?=Sd o∧sts[k]?=Sd s∧Ky P full o e s:=by
 intro un;induction un with
 |nil=>intro _ i k h;cases h
 |cons x un ih =>
  obtain⟨i0,k0⟩:=x;intro h i k hm;rcases NX.1 hm with q|hm
  ·cases q;have h1:=h.1;split at h1
   ·rename_i o s h2 h3;exact⟨o,s,h2,h3,h1⟩
   ·exact h1.elim
  ·exact ih h.2 i k hm
theorem ES{full:List Sp}(h:Ky P full o e s) :
  ∃d,iu P full o e s d s∧((∃t b,guardOf full o.guard=Sd (Sd (t,b))∧gdD b (e.getD t .junk)=.bool (!b)∧d=.tup [])∨∀t,o.dst=Sd t→d=e.getD t .junk):=by
 unfold Ky at h;have hO:∀d s',iu P full o e s d s'=match guardOf full o.guard with
  |some Sf=>uW P o (val e) s d s'
  |some (Sd (t,b))=>(gdD b (e.getD t .junk)=.bool b∧uW P o (val e) s d s')∨(gdD b (e.getD t .junk)=.bool (!b)∧d=.tup []∧s'=s)
  |none=>False:=λ_ _=>rfl
 cases hg:guardOf full o.guard with
 |none=>rw[hg]at h;exact h.elim
 |some x =>
  rw[hg]at h;cases x with
  |none =>
   obtain⟨d,s',h1,h2,rfl⟩:=iX h;exact⟨d,by rw[hO,hg];exact h1,.inr h2⟩
  |some x =>
   obtain⟨t,c⟩:=x;cases c with
   |true =>
    rcases l9 h with ⟨q,h⟩|⟨q,h⟩
    ·obtain⟨d,s',h1,h2,rfl⟩:=iX h;exact⟨d,by rw[hO,hg];exact .inl ⟨q,h1⟩,.inr h2⟩
    ·exact⟨.tup [],by rw[hO,hg];exact .inr ⟨q,rfl,rfl⟩,.inl ⟨t,Sh,rfl,q,rfl⟩⟩
   |false =>
    rcases l9 h with ⟨q,h⟩|⟨q,h⟩
    ·exact⟨.tup [],by rw[hO,hg];exact .inr ⟨q,rfl,rfl⟩,.inl ⟨t,Se,rfl,q,rfl⟩⟩
    ·obtain⟨d,s',h1,h2,rfl⟩:=iX h;exact⟨d,by rw[hO,hg];exact .inl ⟨q,h1⟩,.inr h2⟩
theorem AE{full:List Sp}{b:Bool}(h:iu P full o e s d s')(hg:guardOf full o.guard=Sd (Sd (t,b)))(hv:gdD b (e.getD t .junk)=.bool (!b)):d=.tup []:=by
 unfold iu at h;rw[hg]at h;rcases h with ⟨h1,_⟩|⟨_,h2,_⟩
 ·rw[h1]at hv;cases b<;>cases hv
 ·exact h2
section
variable {P:Sj} {ops:List Sp} {A:Anc} {effs:List Nat} {pl:Plan}
theorem eV{α:Type}{l:List α}{i:Nat}{x:α}(h:l[i]?=Sd x):i<l.length:=by
 rcases OU i l.length with q|q
 ·exact q
 ·rw[Oz q]at h;cases h
theorem fV{l:List Nat}:t∈dstsOf (l.map (ops.getD · default))↔∃j∈l,(ops.getD j default).dst=Sd t:=by
 simp only[dstsOf,Rq,Og];constructor
 ·rintro⟨o,⟨j,hj,rfl⟩,h⟩;exact⟨j,hj,h⟩
 ·rintro⟨j,hj,h⟩;exact⟨_,⟨j,hj,rfl⟩,h⟩
theorem Ha(hn:vd (dstsOf ops)=Sh){i j t:Nat}(hi:i<ops.length)(hj:j<ops.length)(h1:(ops.getD i default).dst=Sd t)(h2:(ops.getD j default).dst=Sd t):i=j:=by
 replace hn:=s5 hn
 induction ops generalizing i j with
 |nil=>simp at hi
 |cons o l ih =>
  have hsub:∀k,k<l.length→(l.getD k default).dst=Sd t→t∈dstsOf l:=λk hk h=>Rq.2 ⟨l.getD k default,by simp[Pi,K4 hk],h⟩;unfold dstsOf at hn;rw[QF]at hn;cases i with
  |zero =>
   cases j with
   |zero=>rfl
   |succ j =>
    simp only[N8,N7]at h1 h2;rw[h1]at hn;exact absurd (hsub j (by simpa using hj) h2) (OZ.1 hn).1
  |succ i =>
   cases j with
   |zero =>
    simp only[N8,N7]at h1 h2;rw[h2]at hn;exact absurd (hsub i (by simpa using hi) h1) (OZ.1 hn).1
   |succ j =>
    simp only[N7]at h1 h2;have hn':(List.filterMap (·.dst) l).Nodup:=by
     split at hn
     ·exact hn
     ·exact(OZ.1 hn).2
    rw[ih (by simpa using hi) (by simpa using hj) h1 h2 hn']
theorem qV(h:BT ops A=Sh){i j t:Nat}{o:Sp}(hi:ops[i]?=Sd o)(hj:j<ops.length)(hd:(ops.getD j default).dst=Sd t)(ht:t∈nh ops o):i≠j∧(j∈A.getD i []∨i∈A.getD j []):=by
 have h1:=N0.1 h i (Ow.2 (eV hi));simp only[hi]at h1;have h2:=N0.1 h1 j (Ow.2 hj);have hj':ops[j]?=Sd (ops.getD j default):=by simp[Pi,K4 hj]
 rw[hj',OY,hd]at h2;simpa[ht]using h2
structure PlanFacts (ops:List Sp) (A:Anc) (effs:List Nat) (pl:Plan):Prop where
 nd:pl.ord.Nodup
 all:∀i,i<ops.length→i∈pl.ord
 lt:∀i∈pl.ord,i<ops.length
 anc:∀p i,pl.ord[p]?=Sd i→∀a∈A.getD i [],a∈pl.ord.take p
 st:∀p i,pl.ord[p]?=Sd i→effs.contains i=Sh∨((ops[i]?).map (pureOp ·.op)).getD Se=Sh∨∀k,k≤(pl.ord.filter effs.contains).length →
  k=((pl.ord.take p).filter effs.contains).length∨(i,k)∈pl.un∨¬ ∀q j,(pl.ord.filter effs.contains)[q]?=Sd j→(j∈A.getD i []→q<k)∧(i∈A.getD j []→k≤q)
 rd:∀i k,(i,k)∈pl.un→∀o,ops[i]?=Sd o→∀j t,j<ops.length→(ops.getD j default).dst=Sd t→t∈nh ops o→j∈A.getD i []
theorem D3(h:BN ops A effs pl=Sh):PlanFacts ops A effs pl:=by
 unfold BN at h;simp only[M1]at h;obtain⟨⟨⟨⟨⟨h1,h2⟩,h3⟩,h4⟩,h5⟩,h6⟩:=h;refine⟨s5 h1,λi hi=>by simpa using N0.1 h2 i (Ow.2 hi),λi hi=>by simpa using N0.1 h3 i hi,λp i hp a ha=>?_,λp i hp=>?_,λi k hm o ho j t hj hd ht=>?_⟩
 ·have:=N0.1 h4 p (Ow.2 (eV hp))
  rw[hp]at this;simpa using N0.1 this a ha
 ·have:=N0.1 h5 p (Ow.2 (eV hp))
  rw[hp]at this;simp only[PF]at this;rcases this with (q|q)|q
  ·exact .inl q
  ·exact .inr (.inl q)
  ·refine .inr (.inr λk hk=>?_);have:=N0.1 q k (Ow.2 (by omega))
   simp only[PF,beq_iff_eq,PD,Oy]at this;rcases this with (q1|q1)|q1
   ·exact .inl q1
   ·exact .inr (.inl q1)
   ·refine .inr (.inr λhall=>?_);rw[List.all_eq_false]at q1;obtain⟨x,hx,q1⟩:=q1;apply q1;have hx':=Ow.1 hx;rw[K4 hx'];obtain⟨a1,a2⟩:=hall x _ (K4 hx');simp only[M1,PF,Oy,decide_eq_true_eq];refine⟨?_,?_⟩
    ·by_cases c:(pl.ord.filter effs.contains)[x]∈A.getD i []
     ·exact .inr (a1 c)
     ·exact .inl (by simpa using c)
    ·by_cases c:i∈A.getD (pl.ord.filter effs.contains)[x] []
     ·exact .inr (a2 c)
     ·exact .inl (by simpa using c)
 ·have:=N0.1 h6 (i,k) hm
  simp only[ho]at this;have:=N0.1 this j (Ow.2 hj)
  have hj':ops[j]?=Sd (ops.getD j default):=by simp[Pi,K4 hj]
  rw[hj',OY,hd]at this;simpa[ht]using this
end
theorem mo{ef:Nat→Bool}:∀(l:List Nat),(l.map ef).count Sh=(l.filter ef).length:=by
 intro l;induction l with
 |nil=>rfl
 |cons x l ih =>
  rw[OJ,List.count_cons,ih];cases h:ef x<;>simp[h]
theorem qj{l:List Nat}(h:l.Nodup){i j x:Nat}(h1:l[i]?=Sd x)(h2:l[j]?=Sd x):i=j:=
 (List.getElem?_inj (eV h1) h).1 (h1.trans h2.symm)
theorem Hb{ops:List Sp}{A:Anc}{effs:List Nat}{pl:Plan}{e0 eF:List D}{s0:St}{sts:List St}
  (hA:Bz ops A=Sh) (hC:BT ops A=Sh) (hn:vd (dstsOf ops)=Sh) (hp:PlanFacts ops A effs pl)
  (hT:Tr P ops (pl.ord.map effs.contains) (pl.ord.map (ops.getD · default)) e0 s0 eF sts) (hc:iE P ops eF sts pl.un) :
  ∀π done(e:List D)s k,Da ops done π→KI A done→(∀j∈done,j<ops.length)→e.length=e0.length →
   (∀t,e[t]?=if t∈dstsOf (done.map (ops.getD · default))then eF[t]? else e0[t]?)→sts[k]?=Sd s →
   π.filter effs.contains=(pl.ord.filter effs.contains).drop k→(∀j∈done,effs.contains j=Sh→∃q,q<k∧(pl.ord.filter effs.contains)[q]?=Sd j) →
   (∀q j,q<k→(pl.ord.filter effs.contains)[q]?=Sd j→j∈done) →
   cE P ops (π.map (ops.getD · default)) e s (λe' s'=>e'=eF∧sts[(pl.ord.filter effs.contains).length]?=Sd s'):=by
 have hlen:=uz _ _ _ _ _ _ hT;have hkeep:=wG _ _ _ _ _ _ hT;have hndO:(dstsOf (pl.ord.map (ops.getD · default))).Nodup:=by
  have:∀(l:List Nat),l.Nodup→(∀i∈l,i<ops.length)→(dstsOf (l.map (ops.getD · default))).Nodup:=by
   intro l;induction l with
   |nil=>intro _ _;exact .nil
   |cons x l ih =>
    intro h1 h2;have hr:=ih (OZ.1 h1).2 λi hi=>h2 i (.tail _ hi);unfold dstsOf at hr⊢;rw[OJ,QF];split
    ·exact hr
    ·rename_i t ht;refine OZ.2 ⟨λhm=>?_,hr⟩;obtain⟨j,hj,hd⟩:=fV.1 (show t∈dstsOf (l.map (ops.getD · default)) from hm);have:=Ha hn (h2 x (.head _)) (h2 j (.tail _ hj)) ht hd
     subst this;exact(OZ.1 h1).1 hj
  exact this _ hp.nd hp.lt
 have hat:=NE _ _ _ _ _ _ hT hndO;have hEn:(pl.ord.filter effs.contains).Nodup:=hp.nd.filter _;have hget:∀{i o},ops[i]?=Sd o→ops.getD i default=o:=λh=>by simp[Pi,h]
 intro π;induction π with
 |nil =>
  intro done e s k hl _ hlt hel he hs hπ _ _;show e=eF∧_;refine⟨?_,?_⟩
  ·apply List.ext_getElem?;intro t;rw[he t];split
   ·rfl
   ·rename_i h;refine(hkeep t λhm=>h ?_).symm;obtain⟨j,hj,hd⟩:=fV.1 hm;exact fV.2 ⟨j,hl j (hp.lt j hj),hd⟩
  ·have h1:=eV hs;rw[hlen.2.1,mo]at h1;have h2:(pl.ord.filter effs.contains).length≤k:=List.drop_eq_nil_iff.1 hπ.symm;rw[show(pl.ord.filter effs.contains).length=k by omega];exact hs
 |cons i π ih =>
  intro done e s k hl hcl hlt hel he hs hπ hd1 hd2;obtain⟨h1,h2,h3⟩:=hl;obtain⟨o,ho,hedge⟩:=id h1;have hlti:=eV ho;have hAi:=qx hA hcl h1;have hclos:=qy hA hcl h1;obtain⟨p,hpl,hpi⟩:=Oa (hp.all i hlti);have hpi':pl.ord[p]?=Sd i:=by rw[K4 hpl,hpi]
  obtain⟨ep,d,sp,sp',k1,k2,k3,k4,k5,k6⟩:=hat p o (effs.contains i) (by rw[List.getElem?_map,hpi'];simp[ho]) (by rw[List.getElem?_map,hpi'];rfl);rw[←Qg,mo]at k2 k3;rw[←Qg]at k5;-- the slots that it nh at hold the same
  have hslot:∀t∈nh ops o,ep.getD t .junk=e.getD t .junk:=by
   intro t ht;have:ep[t]?=e[t]?:=by
    rw[k5 t,he t];have hiff:t∈dstsOf ((pl.ord.take p).map (ops.getD · default))↔t∈dstsOf (done.map (ops.getD · default)):=by
     rw[fV,fV];constructor
     ·rintro⟨j,hj,hd⟩;have hjo:j∈pl.ord:=List.mem_of_mem_take hj;obtain⟨hne,hor⟩:=qV hC ho (hp.lt j hjo) hd ht;rcases hor with q|q
      ·exact⟨j,hAi j q,hd⟩
      ·exfalso;obtain⟨r,hr,hrj⟩:=Oa hj;have hr':r<p:=by rw[OD]at hr;omega
       rw[PJ]at hrj;have hro:r<pl.ord.length:=by omega
       have hm:=hp.anc r j (by rw[K4 hro,hrj]) i q;obtain⟨u,hu,hui⟩:=Oa hm;rw[OD]at hu;rw[PJ]at hui;have:=qj hp.nd (i:=u) (j:=p) (x:=i) (by rw[K4 (by omega),hui]) hpi'
       omega
     ·rintro⟨j,hj,hd⟩;obtain⟨hne,hor⟩:=qV hC ho (hlt j hj) hd ht;rcases hor with q|q
      ·exact⟨j,hp.anc p i hpi' j q,hd⟩
      ·exact absurd (hcl j hj i q) h2
    by_cases c:t∈dstsOf (done.map (ops.getD · default))
    ·rw[if_pos c,if_pos (hiff.2 c)]
    ·rw[if_neg c,if_neg (λq=>c (hiff.1 q))]
   simp[Pi,this]
  -- the slots after it
  have hafter:∀d',(∀t,o.dst=Sd t→t<e0.length→eF[t]?=Sd d')→∀t,(putD e o.dst d')[t]?=if t∈dstsOf ((i::done).map (ops.getD · default))then eF[t]? else e0[t]?:=by
   intro d' hd' t;have hm:t∈dstsOf ((i::done).map (ops.getD · default))↔o.dst=Sd t∨t∈dstsOf (done.map (ops.getD · default)):=by
    rw[fV,fV];constructor
    ·rintro⟨j,hj,hd⟩;rcases NX.1 hj with rfl|hj
     ·rw[hget ho]at hd;exact .inl hd
     ·exact .inr ⟨j,hj,hd⟩
    ·rintro(q|⟨j,hj,hd⟩)
     ·exact⟨i,.head _,by rw[hget ho];exact q⟩
     ·exact⟨j,.tail _ hj,hd⟩
   by_cases c:o.dst=Sd t
   ·rw[if_pos (hm.2 (.inl c)),c];simp only[putD];by_cases hte:t<e.length
    ·rw[hd' t c (hel▸hte)];simp[hte]
    ·rw[Oz (by simpa using Nat.le_of_not_lt hte),Oz (by have:=hlen.1;omega)]
   ·rw[oZ c,he t];by_cases c2:t∈dstsOf (done.map (ops.getD · default))
    ·rw[if_pos c2,if_pos (hm.2 (.inr c2))]
    ·rw[if_neg c2,if_neg (λq=>(hm.1 q).elim c c2)]
  have hlt':∀j∈i::done,j<ops.length:=λj hj=>by
   rcases NX.1 hj with rfl|hj
   ·exact hlti
   ·exact hlt j hj
  rw[OJ,hget ho];cases hef:effs.contains i with
  |true =>
   -- an effect: it comes where it came
   rw[Q3 hef]at hπ;have hEk:(pl.ord.filter effs.contains)[k]?=Sd i:=by
    have:((pl.ord.filter effs.contains).drop k)[0]?=Sd i:=by rw[←hπ];rfl
    simpa using this
   have hEp:(pl.ord.filter effs.contains)[((pl.ord.take p).filter effs.contains).length]?=Sd i:=by
    have hsplit:pl.ord=pl.ord.take p++i::pl.ord.drop (p+1):=by
     rw[←hpi,List.getElem_cons_drop,List.take_append_drop]
    conv=>lhs;rw[show pl.ord.filter effs.contains=(pl.ord.take p).filter effs.contains++i::(pl.ord.drop (p+1)).filter effs.contains by
     conv=>lhs;rw[hsplit]
     rw[List.filter_append,Q3 hef]]
    rw[Oc (K6 _)];simp
   have hk:((pl.ord.take p).filter effs.contains).length=k:=qj hEn hEp hEk;rw[hk]at k2 k3;rw[hs]at k2;cases k2;refine vz (jv hslot k1) (ih (i::done) _ sp' (k+1) h3 hclos hlt' (ft.trans hel) (hafter d k6) (k3 hef) ?_ ?_ ?_)
   ·have:(pl.ord.filter effs.contains).drop k=i::(pl.ord.filter effs.contains).drop (k+1):=by
     have a1:=eV hEk;rw[K4 a1]at hEk;rw[List.drop_eq_getElem_cons a1,Pk.inj hEk]
    rw[this]at hπ;exact(QM.inj hπ).2
   ·intro j hj hej;rcases NX.1 hj with rfl|hj
    ·exact⟨k,by omega,hEk⟩
    ·obtain⟨q,h4,h5⟩:=hd1 j hj hej;exact⟨q,by omega,h5⟩
   ·intro q j hq hj;rcases OU q k with c|c
    ·exact .tail _ (hd2 q j c hj)
    ·obtain rfl:q=k:=by omega
     rw[hEk]at hj;cases hj;exact .head _
  |false =>
   rw[Q2 (by simp only[hef,On,not_false_eq_true])]at hπ;have cont:∀d',iu P ops o e s d' s→(∀t,o.dst=Sd t→t<e0.length→eF[t]?=Sd d')→cE P ops (o::π.map (ops.getD · default)) e s (λe' s'=>e'=eF∧sts[(pl.ord.filter effs.contains).length]?=Sd s'):=by
    intro d' q1 q2;refine vz q1 (ih (i::done) _ s k h3 hclos hlt' (ft.trans hel) (hafter d' q2) hs hπ ?_ ?_)
    ·intro j hj hej;rcases NX.1 hj with rfl|hj
     ·rw[hef]at hej;cases hej
     ·exact hd1 j hj hej
    ·intro q j hq hj;exact .tail _ (hd2 q j hq hj)
   have hsp:=k4 hef;subst hsp;rcases hp.st p i hpi' with q|q|q
   ·rw[hef]at q;cases q
   ·rw[ho]at q;exact cont d (jv hslot (AF (by simpa using q) k1 s)) k6
   ·have hkE:k≤(pl.ord.filter effs.contains).length:=by
     have h1:=eV hs;rw[hlen.2.1,mo]at h1;omega
    rcases q k hkE with q|q|q
    ·rw[←q,hs]at k2;cases k2;exact cont d (jv hslot k1) k6
    ·obtain⟨o',s',ho',hs',hchk⟩:=Bq hc i k q;rw[ho]at ho';cases ho';rw[hs]at hs';cases hs';obtain⟨d',hstep,hval⟩:=ES hchk;have hsl:∀t∈nh ops o,eF.getD t .junk=e.getD t .junk:=by
      intro t ht;have:eF[t]?=e[t]?:=by
       rw[he t];split
       ·rfl
       ·rename_i hnm;refine hkeep t λhm=>hnm ?_;obtain⟨j,hj,hd⟩:=fV.1 hm;exact fV.2 ⟨j,hAi j (hp.rd i k q o ho j t (hp.lt j hj) hd ht),hd⟩
      simp[Pi,this]
     refine cont d' (jv hsl hstep) λt hdt htl=>?_;rcases hval with ⟨u,b,hg,hgv,rfl⟩|hval
     ·have hu:u∈nh ops o:=by unfold nh;rw[hg];simp
      have:=AE k1 hg (by rw[hslot u hu,←hsl u hu];exact hgv)
      rw[←this];exact k6 t hdt htl
     ·rw[k6 t hdt htl,hval t hdt];simp[Pi,k6 t hdt htl]
    ·exfalso;apply q;intro r j hrj;refine⟨λha=>?_,λha=>?_⟩
     ·have hj:=hAi j ha;have hmem:j∈pl.ord.filter effs.contains:=PW hrj;obtain⟨u,h4,h5⟩:=hd1 j hj (OW.1 hmem).2;have:=qj hEn hrj h5
      omega
     ·apply Nat.le_of_not_lt;intro hlt2;exact h2 (hcl j (hd2 r j hlt2 hrj) i ha)
theorem wd{ro:Option Nat}{id:Nat}{ops:Array Sp}(hm:P.follows .mixedOrders=Sh)(effs:List Nat)(plans:List Plan)(hok:xJ ops.toList effs plans=Sh)
  (h:∀pl∈plans,jN P ops.toList (pl.ord.map effs.contains) (pl.ord.map (ops.toList.getD · default)) e s [] λe' s' ss=>iE P ops.toList e' (ss.reverse++[s']) pl.un∧Q.f .normal e' s') :
  @AWI ro P (.region id ops Sh) e s Q:=by
 unfold xJ at hok;simp only[M1]at hok;obtain⟨⟨⟨⟨⟨o1,o2⟩,o3⟩,o4⟩,o5⟩,o6⟩:=hok;intro O0 a w g ha;refine wpIn_region_draw λt=>?_;simp only[Region.schedule,hm,Bool.true_or,if_true,Region.linearise];have hlin:Da ops.toList [] (Region.linearise.go .any ops ops.size t (Sb ops.size Se) []):=
  Kc o1 ops.size t _ [] (by simp) (λi hi=>by simp[Rm,hi]) (by simp)
 generalize Region.linearise.go .any ops ops.size t (Sb ops.size Se) []=π at hlin;have hmem:=G3 o2 effs.contains π [] ((Ol ops.toList.length).filter effs.contains) ops.toList.length hlin (λi hi=>by cases hi) ((List.nodup_range).filter _) (λi=>by simp) (by have:=List.length_filter_le effs.contains (Ol ops.toList.length);simp at this⊢;exact this);obtain⟨pl,hpl,heq⟩:=PH.1 (N0.1 o6 _ hmem);have heq:pl.ord.filter effs.contains=π.filter effs.contains:=by simpa using heq
 obtain⟨eF,sF,ss,sts,hT,hst,hchk,hQ⟩:=JM _ _ _ _ _ (h pl hpl);simp only[R7,List.nil_append]at hst;rw[hst]at hchk;have hp:=D3 (N0.1 o5 pl hpl);have hrun:=Hb o2 o3 o4 hp hT hchk π [] e s 0 hlin (λi hi=>by cases hi) (λi hi=>by cases hi) rfl (λt=>by simp[dstsOf]) (uz _ _ _ _ _ _ hT).2.2.2 (by simp[heq]) (λj hj=>by cases hj) (λq j hq=>by omega);have hlast:sts[(pl.ord.filter effs.contains).length]?=Sd sF:=by
  have hl:=(uz _ _ _ _ _ _ hT).2.1;rw[mo]at hl;rw[←hst]at hl⊢;simp only[List.length_append,RV,List.length_cons,List.length_nil]at hl;rw[Oc (by simp;omega)];simp only[RV];rw[show(pl.ord.filter effs.contains).length-ss.length=0 by omega];rfl
 have hlt:∀i∈π,i<ops.size:=by
  have:∀(π done:List Nat),Da ops.toList done π→∀i∈π,i<ops.size:=by
   intro π;induction π with
   |nil=>intro _ _ i hi;cases hi
   |cons j π ih =>
    intro done hl i hi;rcases NX.1 hi with rfl|hi
    ·obtain⟨o,ho,_⟩:=hl.1;have:=eV ho;simpa using this
    ·exact ih _ hl.2.2 i hi
  exact this _ _ hlin
 refine vy (O0:=O0) π (π.map (ops.toList.getD · default)) (by simp) (λi h1 h2=>?_) e s a _ g ha.mono hrun λa' w' g' e' s' hle ha' hk=>⟨trivial,e',s',g',hle,ha',?_⟩
 ·have:=hlt π[i] (List.getElem_mem h1)
  simp[Pi,this]
 ·obtain⟨rfl,h2⟩:=hk;rw[hlast]at h2;cases h2;exact hQ
class TC where f:List D→St→List St→Prop
def tI(e:List D)(s:St)(ss:List St)[K:TC]:Prop:=K.f e s ss
def rf(P:Sj)(full:List Sp)(bs:List Bool)(os:List Sp)(e:List D)(s:St)(ss:List St)[K:TC]:Prop:=jN P full bs os e s ss K.f
def BM(P:Sj)(full:List Sp)(b:Bool)(bs:List Bool)(os:List Sp)(dst:Option Tmp)(op:Op)(g:Option (Option (Nat×Bool)))(e:List D)(s:St)(ss:List St)[K:TC]:Prop:=
 match g with
 |some Sf=>dg P op (val e) s λd s'=>(b=Sh∨s'=s)∧jN P full bs os (putD e dst d) s' (bif b then s::ss else ss) K.f
 |some (Sd (t,Sh))=>ifB (gdD Sh (e.getD t .junk)) (dg P op (val e) s λd s'=>(b=Sh∨s'=s)∧jN P full bs os (putD e dst d) s' (bif b then s::ss else ss) K.f) (jN P full bs os (putD e dst (.tup [])) s (bif b then s::ss else ss) K.f)
 |some (Sd (t,Se))=>ifB (gdD Se (e.getD t .junk)) (jN P full bs os (putD e dst (.tup [])) s (bif b then s::ss else ss) K.f) (dg P op (val e) s λd s'=>(b=Sh∨s'=s)∧jN P full bs os (putD e dst d) s' (bif b then s::ss else ss) K.f)
 |none=>False
def revA:List St→List St→List St
 | [],acc=>acc
 |x::l,acc=>revA l (x::acc)
theorem JQ:∀(l acc:List St),revA l acc=l.reverse++acc:=by
 intro l;induction l with
 |nil=>intro acc;rfl
 |cons x l ih=>intro acc;simp[revA,ih]
@[reducible] def xK (P:Program) (full:List Oper) (un:List (Nat × Nat)) (Q:QC):TC:=⟨fun e s ss=>iE P full e (ss.reverse++[s]) un∧Q.f .normal e s⟩
@[reducible] def J0 (P:Program) (full:List Oper) (b:Bool) (bs:List Bool) (os:List Oper) (dst:Option Tmp) (e:List D) (s:St) (ss:List St) (K:TC):DC :=
 ⟨λd s'=>(b=Sh∨s'=s)∧jN P full bs os (putD e dst d) s' (bif b then s::ss else ss) K.f⟩
@[reducible] def Ff (P:Program) (full:List Oper) (bs:List Bool) (os:List Oper) (e:List D) (s:St) (ss:List St) (K:TC):PC:=⟨jN P full bs os e s ss K.f⟩
@[reducible] def qC (x:Exit) (e:List D) (s:St) (Q:QC):PC:=⟨Q.f x e s⟩
@[reducible] def Im:PC:=⟨True⟩
@[reducible] def eqC (dst:Option Tmp) (e:List D) (s:St):DC:=⟨fun d s'=>(∀ t,dst=some t→d=e.getD t .junk)∧s'=s⟩
def LT(P:Sj)(g:Option (Option (Nat×Bool)))(dst:Option Tmp)(op:Op)(e:List D)(s:St):Prop:=
 match g with
 |some Sf=>dg P op (val e) s (eqC dst e s).f
 |some (Sd (t,Sh))=>ifB (gdD Sh (e.getD t .junk)) (dg P op (val e) s (eqC dst e s).f) True
 |some (Sd (t,Se))=>ifB (gdD Se (e.getD t .junk)) True (dg P op (val e) s (eqC dst e s).f)
 |none=>False
def chk1(P:Sj)(full:List Sp)(o:Option Sp)(e:List D)(s:Option St):Prop:=
 match o,s with
 |some o,Sd s=>Ky P full o e s
 |_,_=>False
def ld(ops:List Sp)(bs:List Bool)(effs:List Nat)(un:List (Nat×Nat)):Bool:=xJ ops effs [⟨Ol ops.length,un⟩]&&bs == (Ol ops.length).map effs.contains
theorem Ax(ops:List Sp):(Ol ops.length).map (ops.getD · default)=ops:=by
 apply List.ext_getElem
 ·simp
 ·intro i h1 h2;simp[Pi,K4 h2]
theorem lY{ro:Option Nat}{id:Nat}{ops:List Sp}(hm:P.follows .mixedOrders=Sh)(bs:List Bool)(effs:List Nat)(un:List (Nat×Nat))(hok:ld ops bs effs un=Sh)
  (h:@rf P ops bs ops e s [] (xK P ops un Q)):@AWI ro P (.region id ops.toArray Sh) e s Q:=by
 unfold ld at hok;simp only[M1,beq_iff_eq]at hok;refine wd hm effs [⟨Ol ops.length,un⟩] hok.1 λpl hpl=>?_;obtain rfl:=List.mem_singleton.1 hpl;simp only[Ax,←hok.2];exact h
theorem eI{ro:Option Nat}{id:Nat}{ops:List Sp}(hm:P.follows .mixedOrders=Sh)(effs:List Nat)(plans:List Plan)(hok:xJ ops effs plans=Sh)
  (h:∀pl∈plans,@rf P ops (pl.ord.map effs.contains) (pl.ord.map (ops.getD · default)) e s [] (xK P ops pl.un Q)):@AWI ro P (.region id ops.toArray Sh) e s Q:=
 wd hm effs plans hok h
theorem JH{full:List Sp}{un:List (Nat×Nat)}{ss:List St}:@tI e s ss (xK P full un Q)=@needI (iE P full e (revA ss [s]) un) (qC .normal e s Q):=by
 rw[JQ];rfl
theorem G7:@dI d s' (eqC Sf e s)=(s'=s):=by
 show((∀t',(Sf:Option Tmp)=Sd t'→_)∧_)=_;apply propext;constructor
 ·exactλh=>h.2
 ·exactλh=>⟨(λt' ht=>by cases ht),h⟩
theorem vsDraw :
    (∀P full e s ss K,@rf P full [] [] e s ss K=@tI e s ss K) ∧
    (∀P full un Q e s ss,@tI e s ss (xK P full un Q)=@needI (iE P full e (revA ss [s]) un) (qC .normal e s Q)) ∧
    (∀x e s Q,@pI (qC x e s Q)=@qI x e s Q) ∧
    (@pI Im=True) ∧
    (∀P full b bs os e s ss K dst op(ty:Sk)pos after,
      @rf P full (b::bs) ({dst:=dst,op:=op,type:=ty,pos:=pos,after:=after,guard:=Sf}::os) e s ss K=@bI P op e s (J0 P full b bs os dst e s ss K)) ∧
    (∀P full b bs os e s ss K dst op(ty:Sk)pos after j c,
      @rf P full (b::bs) ({dst:=dst,op:=op,type:=ty,pos:=pos,after:=after,guard:=Sd (j,c)}::os) e s ss K=@BM P full b bs os dst op (guardOf full (Sd (j,c))) e s ss K) ∧
    (∀P full b bs os dst op t e s ss K,
      @BM P full b bs os dst op (Sd (Sd (t,Sh))) e s ss K=ifI (gdD Sh (e.getD t .junk)) (va P op e s (J0 P full b bs os dst e s ss K)) (Ff P full bs os (putD e dst (.tup [])) s (bif b then s::ss else ss) K)) ∧
    (∀P full b bs os dst op t e s ss K,
      @BM P full b bs os dst op (Sd (Sd (t,Se))) e s ss K=ifI (gdD Se (e.getD t .junk)) (Ff P full bs os (putD e dst (.tup [])) s (bif b then s::ss else ss) K) (va P op e s (J0 P full b bs os dst e s ss K))) ∧
    (∀P full bs os e s ss K,@pI (Ff P full bs os e s ss K)=@rf P full bs os e s ss K) ∧
    (∀P full bs os dst e s ss K d s',
      @dI d s' (J0 P full Sh bs os dst e s ss K)=@rf P full bs os (putD e dst d) s' (s::ss) K) ∧
    (∀P full bs os dst e s ss K d s',
      @dI d s' (J0 P full Se bs os dst e s ss K)=@needI (s'=s) (Ff P full bs os (putD e dst d) s' ss K)) ∧
    (∀(s:St),(s=s)=True) ∧
    (∀acc,revA [] acc=acc)∧(∀(x:St)(l acc:List St),revA (x::l) acc=revA l (x::acc)) ∧
    (∀P full e sts,iE P full e sts []=True) ∧
    (∀P full e sts i k un,iE P full e sts ((i,k)::un)=(chk1 P full full[i]? e sts[k]?∧iE P full e sts un)) ∧
    (∀P full e s dst op(ty:Sk)pos after g,
      chk1 P full (Sd {dst:=dst,op:=op,type:=ty,pos:=pos,after:=after,guard:=g}) e (Sd s)=LT P (guardOf full g) dst op e s) ∧
    (∀full,guardOf full Sf=Sd Sf) ∧
    (∀P dst op e s,LT P (Sd Sf) dst op e s=@bI P op e s (eqC dst e s)) ∧
    (∀P dst op(e:List D)s t,LT P (Sd (Sd (t,Sh))) dst op e s=ifI (gdD Sh (e.getD t .junk)) (va P op e s (eqC dst e s)) Im) ∧
    (∀P dst op(e:List D)s t,LT P (Sd (Sd (t,Se))) dst op e s=ifI (gdD Se (e.getD t .junk)) Im (va P op e s (eqC dst e s))) ∧
    (∀t(e:List D)s s' d,@dI d s' (eqC (Sd t) e s)=(d=e.getD t .junk∧s'=s)) ∧
    (∀e s s' d,@dI d s' (eqC Sf e s)=(s'=s)) ∧
    (∀p,(True∧p)=p)∧(∀(p:Prop),(p∧True)=p)∧(∀(d:D),(d=d)=True) ∧
    (∀(x:St)(l:List St),(x::l)[0]?=Sd x)∧(∀(x:St)(l:List St)(n:Nat),(x::l)[n+1]?=l[n]?) ∧
    (∀(x:Sp)(l:List Sp),(x::l)[0]?=Sd x)∧(∀(x:Sp)(l:List Sp)(n:Nat),(x::l)[n+1]?=l[n]?):=by
  and_intros
  all_goals intros
  all_goals first
    |rfl
    |with_unfolding_all rfl
    |exact JH
    |exact G7
    |(show((Se=Sh∨_)∧_)=(_∧_);simp only[On,false_or];rfl)
    |(show((Sh=Sh∨_)∧_)=_;simp only[true_or,true_and];rfl)
    | (show ((∀ t',Sd _=Sd t'→_)∧_)=_;apply propext;constructor
       · exactλh=>⟨h.1 _ rfl,h.2⟩
       · exactλh=>⟨λt' ht=>by cases ht;exact h.1,h.2⟩)
    | (show ((∀ t',Sf=Sd t'→_)∧_)=_;apply propext;constructor
       · exactλh=>h.2
       · exactλh=>⟨λt' ht=>by cases ht,h⟩)
    |(simp;done)
    |trace_state
theorem qG(h:WRel w g s){b l:Nat}{r r':Loop}{bx:Box}(hl1:Live1 s b)(hb:g.B b=Sd l)(hh:w.heap[l]?=Sd (.loop r))
  (hbx:jC {w with heap:=w.heap.setIfInBounds l (.loop r')} g b bx) :
  WRel {w with heap:=w.heap.setIfInBounds l (.loop r')} g {s with boxes:=s.boxes.set b bx}:=by
 have hl:=h.dom b l hb;have hheap:∀(c:Nat)(x:Obj),w.heap[c]?=Sd x→(∀q,x≠Obj.loop q)→(w.heap.setIfInBounds l (.loop r'))[c]?=Sd x:=by
  intro c x hx hne;rw[OM]
  ·exact hx
  ·intro e;subst e;rw[hh]at hx;cases hx;exact hne _ rfl
 have hne:∀(c:Nat) ,c≠l→(w.heap.setIfInBounds l (Obj.loop r'))[c]?=w.heap[c]?:=λc hc=>OM (by omega);have hcell:∀a,World.cell? {w with heap:=w.heap.setIfInBounds l (.loop r')} a=w.cell? a:=by
  intro a;simp only[World.cell?];by_cases e:a.block=l
  ·have hlt:=bU hh;rw[e,hh,OO];simp[hlt]
  ·rw[OM (by omega)]
 refine {os:=h.os,tape:=h.tape,out:=h.out,fz:=λa ha=>?_,n:=by have:=h.n;simp only[P7];exact this,old:=λc hc=>?_,m:=λc o v hm=>by rw[hcell];exact h.m c o v hm,box:=λi x hi=>?_,inj:=λj k c h1 h2 l1 l2=>h.inj j k c h1 h2 (l1.of_set hl1) (l2.of_set hl1),dom:=λi c hi=>by have:=h.dom i c hi;simp only[P7,PU];exact this,live:=λk hk=>?_,uniq:=h.uniq,ldom:=h.ldom,o:=λc hc=>⟨(h.o c hc).1,hheap c _ (h.o c hc).2 (by simp)⟩,nd:=h.nd,sz:=λc n hc=>by obtain⟨arr,T,fr,e1,e2⟩:=h.sz c n hc;exact⟨arr,T,fr,hheap c _ e1 (by simp),e2⟩}
 ·rw[←h.fz a ha];simp only[World.frozen?];by_cases e:a.block=l
  ·have hlt:=bU hh;rw[e,hh,OO];simp[hlt]
  ·rw[OM (by omega)]
 ·show(w.heap.setIfInBounds l _)[c]?=_;rw[hne c (by have:=hl.2.1;omega)];exact h.old c hc
 ·by_cases e:i=b
  ·subst e;rw[Om hl.1]at hi;cases hi;exact hbx
  ·rw[Oj (by omega)]at hi;have:=h.box i x hi
   cases x with
   |dead=>trivial
   |cells cs=>obtain⟨c,arr,T,fr,h1,h2,h3⟩:=this;exact⟨c,arr,T,fr,h1,hheap c _ h2 (by simp),h3⟩
   |map es=>obtain⟨c,en,k,h1,h2,h3⟩:=this;exact⟨c,en,k,h1,hheap c _ h2 (by simp),h3⟩
   |mapX es bs q=>obtain⟨c,en,k,h1,h2,h3⟩:=this;exact⟨c,en,k,h1,hheap c _ h2 (by simp),h3⟩
   |iter mb q sn=>obtain⟨r,m,h1,h2,h3⟩:=this;exact⟨r,m,h1,hheap r _ h2 (by simp),h3⟩
   |loop ps as bo e' st pe =>
    obtain⟨c,fn,t,df,h1,h2,h3⟩:=this;refine⟨c,fn,t,df,h1,?_,h3⟩;rw[hne c (by intro e2;subst e2;exact e (h.inj _ _ _ h1 hb ⟨_,hi,by simp⟩ hl1))];exact h2
 ·obtain⟨a,len,cap,sz,h1,h2⟩:=h.live k hk;refine⟨a,len,cap,sz,h1,λh3 h4=>?_⟩;obtain⟨c,off,arr,T,fr,h5,h6,h7,h8⟩:=h2 h3 h4;exact⟨c,off,arr,T,fr,h5,h6,hheap c _ h7 (by simp),h8⟩
variable {r:Loop}
theorem wn{o:Obj}(hh:w.heap[l]?=Sd (.loop r)):({w with heap:=w.heap.setIfInBounds l o}:Sl).heap[l]?=Sd o:=by
 have hlt:=bU hh;simp[hlt]
theorem WRel.loopSt{w:Sl}{g:G}{s:St}(h:WRel w g s){b l:Nat}{ps:List Tmp}{as bo:Sq}{e:List D}{st st':LoopState}{pd pd':Option Sq}{r:Loop}
  (hi:s.boxes[b]?=Sd (.loop ps as bo e st pd)) (hb:g.B b=Sd l) (hh:w.heap[l]?=Sd (.loop r)) :
  r.state=st∧r.pending=pd∧r.params=ps.toArray∧r.assign=as∧r.body=bo∧dM g e r.tmps ∧
  WRel {w with heap:=w.heap.setIfInBounds l (.loop {r with state:=st',pending:=pd'})} g {s with boxes:=s.boxes.set b (.loop ps as bo e st' pd')}:=by
 obtain⟨l',fn,t,df,h1,h2,h3,h4⟩:=h.box b _ hi;obtain rfl:l'=l:=by rw[hb]at h1;cases h1;rfl
 rw[hh]at h2;cases h2;refine⟨rfl,rfl,rfl,rfl,rfl,⟨h3,h4⟩,qG h ⟨_,hi,by simp⟩ hb hh ?_⟩;exact⟨l',fn,t,df,hb,wn hh,h3,h4⟩
theorem jt(hh:w.heap[l]?=Sd (.loop r)):(Instr.getLoop l).run P w=.ok r w:=by
 simp[Instr.getLoop,getObj,Sem.run,hh]
theorem m4{o:Obj}(hh:w.heap[l]?=Sd (.loop r)):(setObj l o).run P w=.ok () {w with heap:=w.heap.setIfInBounds l o}:=by
 simp[setObj,Sem.run,hh]
theorem wo{j:Option Sq}(hh:w.heap[l]?=Sd (.loop r)) :
  (Instr.endRound l j).run P w=.ok (.bool j.isNone) {w with heap:=w.heap.setIfInBounds l (.loop {r with state:=if j.isNone then .ready else .done,pending:=j})}:=by
 simp only[Instr.endRound,Sem.run_bind,jt hh,Result.andThen_ok,m4 hh,Sem.run_pure]
theorem se(hh:w.heap[l]?=Sd (.loop r))(hs:r.state=.ready) :
  (Instr.beginRound l).run P w=.ok () {w with heap:=w.heap.setIfInBounds l (.loop {r with state:=.busy})}:=by
 simp only[Instr.beginRound,Sem.run_bind,jt hh,Result.andThen_ok,m4 hh,hs,Sem.run_pure]
def putArgs:List D→List Tmp→List D→List D
 |e,t::ts,d::ds=>putArgs (e.set t d) ts ds
 |e,_,_=>e
theorem AB:∀(ps:List Tmp)(ds:List D)(vs:List So)(e:List D)(tmps:Array So),dM g e tmps→ds.length=vs.length→(∀(i:Nat)(h1:i<ds.length)(h2:i<vs.length),R g ds[i] vs[i]) →
  dM g (putArgs e ps ds) ((ps.zip vs).foldl (λtmps(t,a)=>tmps.setIfInBounds t a) tmps):=by
 intro ps;induction ps with
 |nil=>intro ds vs e tmps h _ _;simpa[putArgs]using h
 |cons t ps ih =>
  intro ds vs e tmps h hl hR;cases ds with
  |nil=>cases vs with
   |nil=>simpa[putArgs]using h
   |cons v vs=>simp at hl
  |cons d ds =>
   cases vs with
   |nil=>simp at hl
   |cons v vs =>
    simp only[putArgs,List.zip_cons_cons,List.foldl_cons];refine ih ds vs _ _ ?_ (by simpa using hl) (λi h1 h2=>by have:=hR (i+1) (by simp;omega) (by simp;omega);simpa using this);exact dM.put (a:=⟨tmps,[]⟩) h (Sd t) (hR 0 (by simp) (by simp))
def G.addO(g:G)(b:Nat):G:={g with O:=λc=>g.O c∨c=b}
theorem xm:g.le (g.addO b):=⟨rfl,λ_ _ _ h=>h,λ_ _ h=>h,λ_ _ h=>h,λ_ h=>.inl h,λ_ _ h=>h⟩
theorem WRel.newMark{w:Sl}{g:G}{s:St}(h:WRel w g s):WRel (w.alloc (.deferred (Sd []))) (g.addO w.heap.size) s:=by
 have h':=h.alloc (.deferred (Sd [])) rfl;refine {os:=h'.os,tape:=h'.tape,out:=h'.out,fz:=h'.fz,n:=h'.n,old:=h'.old,m:=h'.m,box:=λi bx hi=>(h'.box i bx hi).mono xm (λ_ _ h=>h),inj:=h'.inj,dom:=h'.dom,live:=h'.live,uniq:=h'.uniq,ldom:=h'.ldom,o:=?_,nd:=h'.nd,sz:=h'.sz};rintro b (hb|rfl)
 ·exact h'.o b hb
 ·exact⟨h.n,bB w _⟩
theorem sc{fn:Sr}{tmps:Array So}{ps:Array Tmp}{as bo:Sq}(w:Sl) :
  (Instr.enterLoop fn tmps ps as bo Sf).run P w=.ok (w.heap.size+1,[{target:=.collected w.heap.size,args:=#[]}])
   ((w.alloc (.deferred (Sd []))).alloc (.loop {state:=.ready,pending:=Sf,fn,tmps,params:=ps,assign:=as,body:=bo,defers:=w.heap.size})):=by
 simp[Instr.enterLoop,World.alloc_eq]
theorem x5(hh:w.heap[l]?=Sd (.loop r))(hs:r.state≠.busy) :
  (Instr.endLoop l).run P w=.ok r.pending {w with heap:=w.heap.setIfInBounds l (.loop {r with state:=.exhausted})}:=by
 have:(r.state == .busy)=Se:=by cases h:r.state<;>first|rfl|exact absurd h hs
 simp only[Instr.endLoop,Sem.run_bind,jt hh,Result.andThen_ok,this,On,if_false,Sem.run_pure,m4 hh]
def NQ(P:Sj)(ps:List Tmp)(as bo:Sq)(Q:Su→List D→St→Prop)(e:List D)(b:Nat)(s1:St):Prop:=
 ∃st pd,s1.boxes[b]?=Sd (.loop ps as bo e st pd)∧st≠.busy∧match (generalizing:=false) pd with
   |none=>Q .normal e {s1 with boxes:=s1.boxes.set b .dead}
   |some c=>AWp Sf P c Q e {s1 with boxes:=s1.boxes.set b .dead}
theorem su{f:Sn}{ps:List Tmp}{as bo:Sq}{Q:Su→List D→St→Prop}{k:Sr}{fi ca:List D}
  (hf:val e f=.func (.func k) fi ca)
  (hs:aS P k (fi++([.yield s.boxes.length]++ca)) {s with boxes:=s.boxes++[.loop ps as bo e .ready Sf]} Z)
  (hz:∀r s1,Z r s1→NQ P ps as bo Q e s.boxes.length s1):AWp Sf P (.rangeFunc f ps.toArray as bo) Q e s:=by
 intro O0 a w g ha;refine wpIn_rangeFunc λfn _=>?_;have hfv:=li ha.env f;rw[hf]at hfv;cases hav:a.eval f<;>rw[hav]at hfv<;>cases hfv;rename_i vf vc h1 hrf h2 hrc;have hw0:=ha.wr.newMark;obtain⟨hle1,hw1⟩:=hw0.newBox (.loop {state:=.ready,pending:=Sf,fn,tmps:=a.tmps,params:=ps.toArray,assign:=as,body:=bo,defers:=w.heap.size}) rfl (.loop ps as bo e .ready Sf)
  ⟨_,fn,a.tmps,w.heap.size,by simp[G.addB],bB _ _,ha.env.1,λj x y=>(ha.env.2 j x y).mono (xm.trans (jP (kv hw0 (K6 _))))⟩
 rw[World.size_alloc]at hle1 hw1;generalize hg1:(g.addO w.heap.size).addB s.boxes.length (w.heap.size+1)=g1 at hle1 hw1;have hle:g.le g1:=xm.trans hle1;have hB1:g1.B s.boxes.length=Sd (w.heap.size+1):=by rw[←hg1];simp[G.addB]
 have hO1:g1.O w.heap.size:=by rw[←hg1];exact .inr rfl
 have hall:vn g1 (fi++([.yield s.boxes.length]++ca)) (vf ++ #[.func (.yield (w.heap.size+1)) #[] #[]]++vc):=by
  refine⟨by simp;omega,λi x1 x2=>?_⟩;by_cases c1:i<fi.length
  ·rw[OS c1,Pv (by simp;omega),Pv (by omega)];exact(hrf i c1 _).mono hle
  ·by_cases c2:i<fi.length+1
   ·rw[ON (by omega),OS (by simp;omega),Pv (by simp;omega),Qs (by omega)];have hi0:i-fi.length=0:=by omega
    have hi1:i-vf.size=0:=by omega
    simp only[hi0,hi1,List.getElem_cons_zero];exact .yield _ _ hB1
   ·rw[ON (by omega),ON (by simp;omega),Qs (by simp;omega)];have e:i-fi.length-[D.yield s.boxes.length].length=i-(vf ++ #[Value.func (.yield (w.heap.size+1)) #[] #[]]).size:=by simp;omega
    simp only[e];exact(hrc _ _ _).mono hle
 obtain⟨hent,hsem⟩:=hs _ _ g1 hall hw1;have hen:=sc (P:=P) (fn:=fn) (tmps:=a.tmps) (ps:=ps.toArray) (as:=as) (bo:=bo) w;generalize(w.alloc (.deferred (Sd []))).alloc (.loop {state:=.ready,pending:=Sf,fn,tmps:=a.tmps,params:=ps.toArray,assign:=as,body:=bo,defers:=w.heap.size})=w1 at hw1 hsem hen;refine⟨w.heap.size+1,[{target:=.collected w.heap.size,args:=#[]}],w1,{target:=.fn (.func k) vc,args:=vf ++ #[.func (.yield (w.heap.size+1)) #[] #[]]},w1,k,vf ++ #[.func (.yield (w.heap.size+1)) #[] #[]]++vc,w1,hen,?_,λ_ _=>trivial,?_,λh=>(by cases h),?_⟩
 ·simp only[resolve,hav,Deferred.ofValue,Sem.run_pure];simp[Act.eval]
 ·simp only[invoke];exact hent _ _
 ·refine hsem.mono λen w' hbk=>?_;obtain⟨v,g2,r,s1,hZ,rfl,hle2,hw2,hRv⟩:=hbk;obtain⟨st,pd,hb,hst,hq⟩:=hz r s1 hZ;obtain⟨l',fn',tm,df,h3,h4,h5,h6⟩:=hw2.box _ _ hb;obtain rfl:l'=w.heap.size+1:=by rw[hle2.B _ _ hB1]at h3;cases h3;rfl
  refine⟨_,_,x5 h4 hst,?_⟩;have hw3:=qG (r':={state:=.exhausted,pending:=pd,fn:=fn',tmps:=tm,params:=ps.toArray,assign:=as,body:=bo,defers:=df}) (bx:=.dead) hw2 ⟨_,hb,by simp⟩ (hle2.B _ _ hB1) h4 trivial;have ha3:∀w4 s4,WRel w4 g2 s4→ARel O0 {a with defers:=[{target:=.collected w.heap.size,args:=#[]}]++a.defers} w4 g2 e s4:=by
   intro w4 s4 hw3;obtain⟨bs,hnd,hbs,hdf⟩:=ha.df;have hnew:∀c,g.O c→c≠w.heap.size:=λc hc e=>by have:=bU (ha.wr.o c hc).2;omega
   refine⟨ha.env.mono (hle.trans hle2),hw3,λb hb=>(hle.trans hle2).O b (ha.sub b hb),w.heap.size::bs,OZ.2 ⟨λhm=>hnew _ (hbs _ hm).1 rfl,hnd⟩,?_,by simp[hdf]⟩;intro b hb;rcases NX.1 hb with rfl|hb
   ·exact⟨hle2.O _ hO1,λho=>hnew _ (ha.sub _ ho) rfl⟩
   ·exact⟨(hle.trans hle2).O _ (hbs b hb).1,(hbs b hb).2⟩
  cases pd with
  |none=>exact⟨trivial,e,_,g2,hle.trans hle2,ha3 _ _ hw3,hq⟩
  |some c=>exact wpIn_mono (hq O0 _ _ g2 (ha3 _ _ hw3)) λ_ _ _ hc=>kf (hle.trans hle2) (λ_ _ _ h=>h) hc
structure Wf (s:St):Prop where
 nd:s.live.Nodup
 lt:∀k∈s.live,k<s.ctr
theorem WRel.wf{w:Sl}{g:G}{s:St}(h:WRel w g s):Wf s:=⟨h.nd,λk hk=>by obtain⟨_,_,_,_,e1,_⟩:=h.live k hk;exact h.ldom k _ e1⟩
theorem az.wf{P:Sj}{f:Sr}{args:List D}{s s':St}{r:D}(h:Wf s→az P f args s r s'):az P f args s r s':=λvs w g ha hw=>h hw.wf vs w g ha hw
inductive DrawX where
 |text (bs:List Bool) (un:List (Nat×Nat))
 |stop
 |meet
 |cut
 |cutT (bs:List Bool) (un:List (Nat×Nat))
abbrev Draws:=List (Nat×DrawX)
def findX(id:Nat):Draws→Option DrawX
 | []=>Sf
 |(i,x)::l=>bif i == id then Sd x else findX id l
def readOp:Op→Bool
 |.load .. => Sh
 |.lookup .. => Sh
 |.call {callee:=.builtin .len,args:=_,argTypes:=_}=>Sh
 |.call {callee:=.builtin .min,args:=_,argTypes:=_}=>Sh
 |.call {callee:=.builtin .max,args:=_,argTypes:=_}=>Sh
 |_=>Se
def tC(os:List Sp):List Bool:=os.map λo=>!(pureOp o.op ||readOp o.op)
def uT(bs:List Bool):List Nat:=(Ol bs.length).filter λi=>bs.getD i Se
def NN(x:Option DrawX)(ops:List Sp):Bool:=
 match x with
 |none=>ld ops (tC ops) (uT (tC ops)) []
 |some (.text bs un)=>ld ops bs (uT bs) un
 |some .stop=>Sh
 |some .meet=>ld ops (tC ops) (uT (tC ops)) []
 |some .cut=>ld ops (tC ops) (uT (tC ops)) []
 |some (.cutT bs un)=>ld ops bs (uT bs) un
def bH(X:Draws):Sq→Bool
 |.seq a b=>bH X a&&bH X b
 |.cond _ a b=>bH X a&&bH X b
 |.block _ b=>bH X b
 |.loop b=>bH X b
 |.rangeFunc _ _ a b=>bH X a&&bH X b
 |.region id ops Sh=>NN (findX id X) ops.toList
 |_=>Sh
theorem DZ{ρ:Sn→D}{op:Op}(hp:(pureOp op ||readOp op)=Sh)(h:evalOp P ρ s op=Sd (d,s')):s'=s:=by
 rcases PF _ _▸hp with hp|hp
 ·exact(vH hp h).1
 ·unfold readOp at hp;split at hp
  ·simp only[evalOp]at h;obtain⟨x,_,e⟩:=map_some h;cases e;rfl
  ·simp only[evalOp]at h;obtain⟨x,_,e⟩:=map_some h;cases e;rfl
  ·simp only[evalOp,kc]at h;split at h;all_goals first
    |(obtain⟨x,_,e⟩:=map_some h;cases e;rfl)
    |(cases h;done)
    |simp_all
  ·simp only[evalOp,kc]at h;split at h;all_goals first
    |(obtain⟨x,_,e⟩:=map_some h;cases e;rfl)
    |(cases h;done)
    |simp_all
  ·simp only[evalOp,kc]at h;split at h;all_goals first
    |(obtain⟨x,_,e⟩:=map_some h;cases e;rfl)
    |(cases h;done)
    |simp_all
  ·cases hp
theorem p9{op:Op}{ρ:Sn→D}{K:D→St→Prop}{b:Bool}(hb:b = !(pureOp op ||readOp op))(h:dg P op ρ s K):dg P op ρ s λd s'=>(b=Sh∨s'=s)∧K d s':=by
 cases b with
 |true =>
  unfold dg at h⊢;split
  ·obtain⟨d,s',h1,h2⟩:=h;exact⟨d,s',h1,.inl rfl,h2⟩
  ·rename_i hne;split at h
   ·rename_i f args ts;exact(hne f args ts rfl).elim
   ·obtain⟨d,s',h1,h2⟩:=cz.1 h;exact cz.2 ⟨d,s',h1,.inl rfl,h2⟩
 |false =>
  have hp:(pureOp op ||readOp op)=Sh:=by cases h2:(pureOp op ||readOp op)<;>simp_all
  unfold dg at h⊢;split
  ·rename_i f args ts;simp[pureOp,readOp]at hp
  ·rename_i hne;split at h
   ·rename_i f args ts;exact(hne f args ts rfl).elim
   ·obtain⟨d,s',h1,h2⟩:=cz.1 h;exact cz.2 ⟨d,s',h1,.inr (DZ hp h1),h2⟩
theorem wR{full:List Sp}{K:List D→St→Prop}:∀(os:List Sp)(e:List D)(s:St)(ss:List St),cE P full os e s K→jN P full (tC os) os e s ss (λe s _=>K e s):=by
 intro os;induction os with
 |nil=>intro e s ss h;exact h
 |cons o os ih =>
  intro e s ss h;have hst:∀{k k':D→St→Prop}{op ρ s},(∀d s,k d s→k' d s)→dg P op ρ s k→dg P op ρ s k':=by
   intro k k' op ρ s hk h;unfold dg at h⊢;split at h
   ·obtain⟨d,s',h1,h2⟩:=h;exact⟨d,s',h1,hk _ _ h2⟩
   ·obtain⟨d,s',h1,h2⟩:=cz.1 h;exact cz.2 ⟨d,s',h1,hk _ _ h2⟩
  simp only[tC,OJ,jN,cE]at h⊢;generalize guardOf full o.guard=gx at h⊢;rcases gx with _|_|⟨t,_|_⟩
  ·exact h.elim
  ·exact p9 rfl (hst (λd s' hk=>ih _ _ _ hk) h)
  ·exact eT h (λh=>ih _ _ _ h) (λh=>p9 rfl (hst (λd s' hk=>ih _ _ _ hk) h))
  ·exact eT h (λh=>p9 rfl (hst (λd s' hk=>ih _ _ _ hk) h)) (λh=>ih _ _ _ h)
theorem jX{full:List Sp}{K K':List D→St→List St→Prop}(hK:∀e s ss,K e s ss→K' e s ss):∀(bs:List Bool)(os:List Sp)(e:List D)(s:St)(ss:List St),jN P full bs os e s ss K→jN P full bs os e s ss K':=by
 intro bs;induction bs with
 |nil=>intro os e s ss h;cases os with
  |nil=>exact hK _ _ _ h
  |cons=>exact h.elim
 |cons b bs ih =>
  intro os e s ss h;cases os with
  |nil=>exact h.elim
  |cons o os =>
   have hst:∀{k k':D→St→Prop}{op ρ s},(∀d s,k d s→k' d s)→dg P op ρ s k→dg P op ρ s k':=by
    intro k k' op ρ s hk h;unfold dg at h⊢;split at h
    ·obtain⟨d,s',h1,h2⟩:=h;exact⟨d,s',h1,hk _ _ h2⟩
    ·obtain⟨d,s',h1,h2⟩:=cz.1 h;exact cz.2 ⟨d,s',h1,hk _ _ h2⟩
   simp only[jN]at h⊢;generalize guardOf full o.guard=gx at h⊢;rcases gx with _|_|⟨t,_|_⟩
   ·exact h.elim
   ·exact hst (λd s' hk=>⟨hk.1,ih _ _ _ _ hk.2⟩) h
   ·exact eT h (λh=>ih _ _ _ _ h) (λh=>hst (λd s' hk=>⟨hk.1,ih _ _ _ _ hk.2⟩) h)
   ·exact eT h (λh=>hst (λd s' hk=>⟨hk.1,ih _ _ _ _ hk.2⟩) h) (λh=>ih _ _ _ _ h)
def Le(x:Option DrawX)(ro:Option Nat)(P:Sj)(id:Nat)(ops:Array Sp)(Q:Su→List D→St→Prop)(e:List D)(s:St):Prop:=
 match x with
 |none=>cE P ops.toList ops.toList e s (Q .normal)
 |some (.text bs un)=>jN P ops.toList bs ops.toList e s [] λe s ss=>iE P ops.toList e (ss.reverse++[s]) un∧Q .normal e s
 |some .stop=>AWp ro P (.region id ops Sh) Q e s
 |some .meet=>cE P ops.toList ops.toList e s (Q .normal)
 |some .cut=>cE P ops.toList ops.toList e s (Q .normal)
 |some (.cutT bs un)=>jN P ops.toList bs ops.toList e s [] λe s ss=>iE P ops.toList e (ss.reverse++[s]) un∧Q .normal e s
def AWN(X:Draws)(ro:Option Nat)(P:Sj)(c:Sq)(Q:Su→List D→St→Prop)(e:List D)(s:St):Prop:=bH X c=Sh→AWp ro P c Q e s
def mG:Option DrawX→Bool
 |some .meet=>Sh
 |_=>Se
def tf:Option DrawX→Bool
 |some .cut=>Sh
 |some (.cutT _ _)=>Sh
 |_=>Se
def meets(X:Draws):Sq→Bool
 |.seq (.region r _ _) _=>mG (findX r X)
 |.region r _ _=>tf (findX r X)
 |.block _ b=>meets X b
 |_=>Se
def cwN(X:Draws)(ro:Option Nat)(P:Sj):Sq→(Su→List D→St→Prop)→List D→St→Prop
 |.skip,Q,e,s=>Q .normal e s
 |.label _,Q,e,s=>Q .normal e s
 |.exit id,Q,e,s=>Q (.exit id) e s
 |.ret,Q,e,s=>Q .ret e s
 |.seq a b,Q,e,s=>cwN X ro P a (thenQ (bif meets X a then AWN X ro P b Q else cwN X ro P b Q) Q) e s
 |.cond c a b,Q,e,s=>ifB (val e c) (cwN X ro P a Q e s) (cwN X ro P b Q e s)
 |.block id b,Q,e,s=>cwN X ro P b (mS id Q) e s
 |.region _ ops Se,Q,e,s=>jl P ops.toList ops.toList e s (Q .normal)
 |.region id ops Sh,Q,e,s=>Le (findX id X) ro P id ops Q e s
 |c,Q,e,s=>AWN X ro P c Q e s
variable {X:Draws}
theorem oN{ro:Option Nat}(hm:P.follows .mixedOrders=Sh)(c:Sq):bH X c=Sh→∀(Q:Su→List D→St→Prop)(e:List D)(s:St),cwN X ro P c Q e s→AWp ro P c Q e s:=by
 induction c with
 |skip=>intro _ Q e s h;exact zO h
 |label l=>intro _ Q e s h;exact wb h
 |exit id=>intro _ Q e s h;exact zP h
 |ret=>intro _ Q e s h;exact C1 h
 |seq a b iha ihb =>
  intro hd Q e s h;simp only[bH,M1]at hd;simp only[cwN]at h;refine xl ((iha hd.1 _ e s h).mono (kL λe s h=>?_));cases hme:meets X a<;>rw[hme]at h
  ·exact ihb hd.2 Q e s h
  ·exact h hd.2
 |cond c a b iha ihb =>
  intro hd Q e s h;simp only[bH,M1]at hd;exact uu (eT h (iha hd.1 Q e s) (ihb hd.2 Q e s))
 |block id b ih=>intro hd Q e s h;exact wc (ih hd _ e s h)
 |region id ops draw =>
  intro hd Q e s h;cases draw with
  |false=>exact ym h
  |true =>
   simp only[cwN]at h;simp only[bH]at hd;unfold Le at h;cases hx:findX id X with
   |none =>
    rw[hx]at h hd;exact lY (Q:=⟨Q⟩) hm _ _ [] hd (jX (λe s ss hk=>⟨trivial,hk⟩) _ _ _ _ _ (wR _ e s [] h))
   |some x =>
    rw[hx]at h hd;cases x with
    |stop=>exact h
    |meet=>exact lY (Q:=⟨Q⟩) hm _ _ [] hd (jX (λe s ss hk=>⟨trivial,hk⟩) _ _ _ _ _ (wR _ e s [] h))
    |cut=>exact lY (Q:=⟨Q⟩) hm _ _ [] hd (jX (λe s ss hk=>⟨trivial,hk⟩) _ _ _ _ _ (wR _ e s [] h))
    |cutT bs un=>exact lY (Q:=⟨Q⟩) hm bs _ un hd h
    |text bs un=>exact lY (Q:=⟨Q⟩) hm bs _ un hd h
 |_=>intro hd Q e s h;exact h hd
def ge(X:Draws)(ro:Option Nat)(P:Sj)(c:Sq)(e:List D)(s:St)[Q:QC]:Prop:=cwN X ro P c Q.f e s
def eZ(X:Draws)(ro:Option Nat)(P:Sj)(c:Sq)(e:List D)(s:St)[Q:QC]:Prop:=AWN X ro P c Q.f e s
def FC(x:Option DrawX)(ro:Option Nat)(P:Sj)(id:Nat)(ops:List Sp)(e:List D)(s:St)[Q:QC]:Prop:=Le x ro P id ops.toArray Q.f e s
@[reducible] def xv (X:Draws) (ro:Option Nat) (P:Program) (b:Code) (Q:QC):QC:=⟨thenQ (cwN X ro P b Q.f) Q.f⟩
@[reducible] def BE (X:Draws) (ro:Option Nat) (P:Program) (b:Code) (Q:QC):QC:=⟨thenQ (AWN X ro P b Q.f) Q.f⟩
def FA(m:Bool)(X:Draws)(ro:Option Nat)(P:Sj)(a b:Sq)(e:List D)(s:St)[Q:QC]:Prop:=cwN X ro P a (thenQ (bif m then AWN X ro P b Q.f else cwN X ro P b Q.f) Q.f) e s
@[reducible] def lr (X:Draws) (ro:Option Nat) (P:Program) (b:Code) (Q:QC):QC:=⟨thenQ (AWN X ro P (.loop b) Q.f) Q.f⟩
@[reducible] def Nx (X:Draws) (ro:Option Nat) (P:Program) (c:Code) (e:List D) (s:St) (Q:QC):PC:=⟨cwN X ro P c Q.f e s⟩
theorem vsN :
  (∀X ro P Q e s,@ge X ro P .skip e s Q=@qI .normal e s Q) ∧
  (∀X ro P Q e s l,@ge X ro P (.label l) e s Q=@qI .normal e s Q) ∧
  (∀X ro P Q e s l,@ge X ro P (.exit l) e s Q=@qI (.exit l) e s Q) ∧
  (∀X ro P Q e s,@ge X ro P .ret e s Q=@qI .ret e s Q) ∧
  (∀X ro P Q e s a b,@ge X ro P (.seq a b) e s Q=@FA (meets X a) X ro P a b e s Q) ∧
  (∀X ro P Q e s a b,@FA Se X ro P a b e s Q=@ge X ro P a e s (xv X ro P b Q)) ∧
  (∀X ro P Q e s b,@qI .normal e s (BE X ro P b Q)=@eZ X ro P b e s Q) ∧
  (∀X ro P Q e s b id,@qI (.exit id) e s (BE X ro P b Q)=@qI (.exit id) e s Q) ∧
  (∀X ro P Q e s b,@qI .ret e s (BE X ro P b Q)=@qI .ret e s Q) ∧
  (∀X r o d c,meets X (.seq (.region r o d) c)=mG (findX r X)) ∧
  (∀X a b c,meets X (.seq (.seq a b) c)=Se)∧(∀(X:Draws)(i:Nat)(a c:Sq),meets X (.seq (.block i a) c)=Se)∧(∀(X:Draws)(x:Sn)(a b c:Sq),meets X (.seq (.cond x a b) c)=Se) ∧
  (∀X a c,meets X (.seq (.loop a) c)=Se)∧(∀(X:Draws)(c:Sq),meets X (.seq .skip c)=Se)∧(∀(X:Draws)(l:Nat)(c:Sq),meets X (.seq (.label l) c)=Se) ∧
  (∀X f ps a b c,meets X (.seq (.rangeFunc f ps a b) c)=Se) ∧
  (∀X r o d,meets X (.region r o d)=tf (findX r X))∧(tf Sf=Se)∧(tf (Sd .meet)=Se)∧(tf (Sd .stop)=Se)∧(∀(bs:List Bool)(un:List (Nat×Nat)),tf (Sd (.text bs un))=Se)∧(tf (Sd .cut)=Sh)∧(∀(bs:List Bool)(un:List (Nat×Nat)),tf (Sd (.cutT bs un))=Sh)∧(mG (Sd .cut)=Se)∧(∀(bs:List Bool)(un:List (Nat×Nat)),mG (Sd (.cutT bs un))=Se)∧(∀(X:Draws)(i:Nat)(a:Sq),meets X (.block i a)=meets X a)∧(∀(X:Draws)(x:Sn)(a b:Sq),meets X (.cond x a b)=Se) ∧
  (∀X a,meets X (.loop a)=Se)∧(∀(X:Draws),meets X .skip=Se)∧(∀(X:Draws)(l:Nat),meets X (.label l)=Se)∧(∀(X:Draws)(l:Nat),meets X (.exit l)=Se)∧(∀(X:Draws),meets X .ret=Se) ∧
  (∀X f ps a b,meets X (.rangeFunc f ps a b)=Se) ∧
  (mG Sf=Se)∧(mG (Sd .meet)=Sh)∧(mG (Sd .stop)=Se)∧(∀(bs:List Bool)(un:List (Nat×Nat)),mG (Sd (.text bs un))=Se) ∧
  (∀X ro P Q e s c a b,@ge X ro P (.cond c a b) e s Q=ifI (val e c) (Nx X ro P a e s Q) (Nx X ro P b e s Q)) ∧
  (∀X ro P Q e s id b,@ge X ro P (.block id b) e s Q=@ge X ro P b e s (rS id Q)) ∧
  (∀X ro P Q e s id(ops:List Sp),@ge X ro P (.region id ops.toArray Se) e s Q=@l6 P ops ops e s (sZ Q)) ∧
  (∀X ro P Q e s id(ops:List Sp),@ge X ro P (.region id ops.toArray Sh) e s Q=@FC (findX id X) ro P id ops e s Q) ∧
  (∀ro P Q e s id ops,@FC Sf ro P id ops e s Q=@Av P ops ops e s (sZ Q)) ∧
  (∀ro P Q e s id ops bs un,@FC (Sd (.text bs un)) ro P id ops e s Q=@rf P ops bs ops e s [] (xK P ops un Q)) ∧
  (∀ro P Q e s id(ops:List Sp),@FC (Sd .stop) ro P id ops e s Q=@AWI ro P (.region id ops.toArray Sh) e s Q) ∧
  (∀ro P Q e s id ops,@FC (Sd .meet) ro P id ops e s Q=@Av P ops ops e s (sZ Q)) ∧
  (∀ro P Q e s id ops,@FC (Sd .cut) ro P id ops e s Q=@Av P ops ops e s (sZ Q)) ∧
  (∀ro P Q e s id ops bs un,@FC (Sd (.cutT bs un)) ro P id ops e s Q=@rf P ops bs ops e s [] (xK P ops un Q)) ∧
  (∀id,findX id []=Sf) ∧
  (∀id i x l,findX id ((i,x)::l)=bif i == id then Sd x else findX id l) ∧
  (∀X ro P Q e s b,@ge X ro P (.loop b) e s Q=@eZ X ro P (.loop b) e s Q) ∧
  (∀X ro P Q e s f ps a b,@ge X ro P (.rangeFunc f ps a b) e s Q=@eZ X ro P (.rangeFunc f ps a b) e s Q) ∧
  (∀X ro P Q e s b,@qI .normal e s (xv X ro P b Q)=@ge X ro P b e s Q) ∧
  (∀X ro P Q e s b id,@qI (.exit id) e s (xv X ro P b Q)=@qI (.exit id) e s Q) ∧
  (∀X ro P Q e s b,@qI .ret e s (xv X ro P b Q)=@qI .ret e s Q) ∧
  (∀X ro P Q e s b,@qI .normal e s (lr X ro P b Q)=@eZ X ro P (.loop b) e s Q) ∧
  (∀X ro P Q e s b id,@qI (.exit id) e s (lr X ro P b Q)=@qI (.exit id) e s Q) ∧
  (∀X ro P Q e s b,@qI .ret e s (lr X ro P b Q)=@qI .ret e s Q) ∧
  (∀X ro P c e s Q,@pI (Nx X ro P c e s Q)=@ge X ro P c e s Q) ∧
  (∀(α:Type)(x y:α),(bif Sh then x else y)=x)∧(∀(α:Type)(x y:α),(bif Se then x else y)=y):=by
 and_intros
 all_goals intros
 all_goals first
  |rfl
  |with_unfolding_all rfl
  |trace_state
theorem cI{ro:Option Nat}(hm:P.follows .mixedOrders=Sh)(h:@ge X ro P c e s Q):@eZ X ro P c e s Q:=λhd=>oN hm c hd _ e s h
theorem jj{ro:Option Nat}(h:bH X c=Sh→@AWI ro P c e s Q):@eZ X ro P c e s Q:=h
theorem fh{ro:Option Nat}{b:Sq}(hm:P.follows .mixedOrders=Sh)(h:@ge X ro P b e s (lr X ro P b Q)):@eZ X ro P (.loop b) e s Q:=by
 intro hd;exact Hm ((oN hm b hd _ e s h).mono (kL λe s h=>h hd))
theorem ae{ro:Option Nat}(ks:List Nat)(h:@eZ X ro P c (keep ks e) s Q):@eZ X ro P c e s Q:=λhd=>Hn ks (h hd)
theorem aE{ro:Option Nat}{b:Sq}(hm:P.follows .mixedOrders=Sh)(n:Nat)(Inv:Nat→List D→St→Prop)
  (step:∀k e s,k<n→Inv k e s→(∀e' s',Inv (k+1) e' s'→@eZ X ro P (.loop b) e' s' Q)→@ge X ro P b e s (lr X ro P b Q))
  (last:∀e s,Inv n e s→@ge X ro P b e s (lr X ro P b Q)):∀k e s,k≤n→Inv k e s→@eZ X ro P (.loop b) e s Q:=by
 have key:∀j k e s,k+j=n→Inv k e s→@eZ X ro P (.loop b) e s Q:=by
  intro j;induction j with
  |zero =>
   intro k e s hk hI;obtain rfl:k=n:=by omega
   exact fh hm (last e s hI)
  |succ j ih=>intro k e s hk hI;exact fh hm (step k e s (by omega) hI λe' s' hI'=>ih (k+1) e' s' (by omega) hI')
 intro k e s hk hI;exact key (n-k) k e s (by omega) hI
theorem cx{ro:Option Nat}{b:Sq}(hm:P.follows .mixedOrders=Sh)(n:Nat)(E:Nat→List D)(S:Nat→St)(Inv:Nat→Prop)
  (step:∀k,k<n→Inv k→(Inv (k+1)→@eZ X ro P (.loop b) (E (k+1)) (S (k+1)) Q)→@ge X ro P b (E k) (S k) (lr X ro P b Q))
  (last:Inv n→@ge X ro P b (E n) (S n) (lr X ro P b Q)):∀k,k≤n→Inv k→@eZ X ro P (.loop b) (E k) (S k) Q:=by
 intro k hk hI;refine aE hm n (λk e s=>e=E k∧s=S k∧Inv k) ?_ ?_ k _ _ hk ⟨rfl,rfl,hI⟩
 ·rintro k e s hk ⟨rfl,rfl,hI⟩ ih;exact step k hk hI λhI'=>ih _ _ ⟨rfl,rfl,hI'⟩
 ·rintro e s ⟨rfl,rfl,hI⟩;exact last hI
theorem az.introN {P:Program} (X:Draws) {f:FuncId} {fn:Func} {c:Code} {args:List D} {s s':St} {r:D} (hf:P.funcs[f]? = some fn) (hb:fn.body = some c) (hn:(fn.name == "runtime.NumGoroutine") = false) (hm:P.follows .mixedOrders = true) (hd:bH X c = true) (rs:List ResultVar) (nt:Nat) (hr:fn.results.toList = rs) (hnt:fn.ntmps = nt)
  (h:@ge X Sf P c (args++Oi (nt-args.length) .junk) s (lT P rs s r s')):az P f args s r s':=by
 subst hr hnt;unfold lT at h;exact az.intro hf hb hn (oN hm c hd _ _ _ h)
def Lf(X:Draws)(P:Sj)(ps:List Tmp)(as bo:Sq)(e:List D)(b:Nat)(s1:St)[Q:QC]:Prop:=
 ∃st pd,s1.boxes[b]?=Sd (.loop ps as bo e st pd)∧st≠.busy∧match (generalizing:=false) pd with
   |none=>@qI .normal e ⟨s1.boxes.set b .dead,s1.live,s1.ctr⟩ Q
   |some c=>@cwI Sf P c e ⟨s1.boxes.set b .dead,s1.live,s1.ctr⟩ Q
theorem lF{f:Sn}{ps:List Tmp}{as bo:Sq}{n:Nat}{k:Sr}{fi ca:List D}
  (hf:val e f=.func (.func k) fi ca)
  (hs:bH X as=Sh→bH X bo=Sh→aS P k (fi++([.yield B.length]++ca)) ⟨B++[.loop ps as bo e .ready Sf],L,n⟩ Z)
  (hz:∀r s1,Z r s1→@Lf X P ps as bo e B.length s1 Q):@eZ X Sf P (.rangeFunc f ps.toArray as bo) e ⟨B,L,n⟩ Q:=by
 intro hd;simp only[bH,M1]at hd;refine su (s:=⟨B,L,n⟩) hf (hs hd.1 hd.2) λr s1 hZ=>?_;obtain⟨st,pd,h1,h2,h3⟩:=hz r s1 hZ;refine⟨st,pd,h1,h2,?_⟩;cases pd with
 |none=>exact h3
 |some c=>exact NT c _ _ _ h3
theorem AWN.mono{X:Draws}{ro:Option Nat}{P:Sj}{c:Sq}{Q Q':Su→List D→St→Prop}{e:List D}{s:St}(h:AWN X ro P c Q e s)(hQ:∀x e s,Q x e s→Q' x e s):AWN X ro P c Q' e s:=λhd=>(h hd).mono hQ
theorem uo{ro:Option Nat}(c:Sq):∀{Q Q':Su→List D→St→Prop}{e:List D}{s:St},cwN X ro P c Q e s→(∀x e s,Q x e s→Q' x e s)→cwN X ro P c Q' e s:=by
  induction c with
  |skip=>intro Q Q' e s h hQ;exact hQ _ _ _ h
  |label l=>intro Q Q' e s h hQ;exact hQ _ _ _ h
  |exit id=>intro Q Q' e s h hQ;exact hQ _ _ _ h
  |ret=>intro Q Q' e s h hQ;exact hQ _ _ _ h
  |seq a b iha ihb =>
    intro Q Q' e s h hQ;simp only[cwN]at h⊢;refine iha h λx e s hx=>?_;cases x<;>simp only[thenQ]at hx⊢ <;> first
      |exact hQ _ _ _ hx
      | (cases hme : meets X a <;> rw [hme] at hx <;> first
           |exact ihb hx hQ
           |exact AWN.mono hx hQ)
  |cond c a b iha ihb=>intro Q Q' e s h hQ;exact eT h (λh=>iha h hQ) (λh=>ihb h hQ)
  |block id b ih =>
    intro Q Q' e s h hQ;refine ih h λx e s hx=>?_;cases x with
    |exit id' =>
      simp only[mS]at hx⊢;split
      · rename_i he;rw[if_pos he]at hx;exact hQ _ _ _ hx
      · rename_i he;rw[if_neg he]at hx;exact hQ _ _ _ hx
    |_=>exact hQ _ _ _ hx
  |region id ops draw =>
    intro Q Q' e s h hQ;cases draw with
    |false=>exact DR (λe s=>hQ _ e s) _ _ _ h
    |true =>
      simp only[cwN]at h⊢;unfold Le at h⊢;generalize findX id X=fx at h⊢;rcases fx with _|⟨bs,un⟩|_|_|_|⟨bs,un⟩
      · exact lL (λe s=>hQ _ e s) _ _ _ h
      · exact jX (λe s ss hk=>⟨hk.1,hQ _ _ _ hk.2⟩) _ _ _ _ _ h
      · exact AWp.mono h hQ
      · exact lL (λe s=>hQ _ e s) _ _ _ h
      · exact lL (λe s=>hQ _ e s) _ _ _ h
      · exact jX (λe s ss hk=>⟨hk.1,hQ _ _ _ hk.2⟩) _ _ _ _ _ h
  |_=>intro Q Q' e s h hQ;exact AWN.mono h hQ
@[reducible] def meetC (I:List D→St→Prop):QC:=⟨fun x e s=>x=.normal∧I e s⟩
theorem aD{I:List D→St→Prop}(h:I e s):@qI .normal e s (meetC I):=⟨rfl,h⟩
theorem bv{ro:Option Nat}{a b:Sq}(hm:P.follows .mixedOrders=Sh)(ks:List Nat)(E:List D)(I:St→Prop)
  (h:@ge X ro P a e s (meetC λe s=>keep ks e=E∧I s)) (hI:∀s,I s→@ge X ro P b E s Q):@FA Sh X ro P a b e s Q:=by
 refine uo a h λx e s hx=>?_;obtain⟨rfl,h1,h2⟩:=hx;exact ae ks (by rw[h1];exact cI hm (hI s h2))
theorem C4{ro:Option Nat}(Q0:Su→List D→St→Prop)(h:@eZ X ro P c e s ⟨Q0⟩)(hQ:∀x e s,Q0 x e s→@qI x e s Q):@eZ X ro P c e s Q:=
 AWN.mono h hQ
theorem ke{Q0:Su→List D→St→Prop}(h:Q0 x e s):@qI x e s ⟨Q0⟩:=h
@[reducible] def joinC (ks:List Nat) (E:List D) (I:St→Prop) (Q:QC):QC:=⟨thenQ (fun e s=>keep ks e=E∧I s) Q.f⟩
theorem vsJ :
  (∀ks E I Q e s,@qI .ret e s (joinC ks E I Q)=@qI .ret e s Q) ∧
  (∀ks E I Q e s id,@qI (.exit id) e s (joinC ks E I Q)=@qI (.exit id) e s Q):=by
 and_intros
 all_goals intros
 all_goals rfl
theorem gz{ks:List Nat}{E:List D}{I:St→Prop}(h1:keep ks e=E)(h2:I s):@qI .normal e s (joinC ks E I Q):=⟨h1,h2⟩
theorem DP{ro:Option Nat}{a b:Sq}(hm:P.follows .mixedOrders=Sh)(ks:List Nat)(E:List D)(I:St→Prop)
  (h:@ge X ro P a e s (joinC ks E I Q)) (hI:∀s,I s→@ge X ro P b E s Q):@FA Sh X ro P a b e s Q:=by
 refine uo a h λx e s hx=>?_;cases x<;>first
  |exact hx
  |(obtain⟨h1,h2⟩:=hx;exact ae ks (by rw[h1];exact cI hm (hI s h2)))
def apR(el el':Option (Sk×Nat×Nat×Bool))(P:Sj)(b off n rsz:Nat)(bx:Option Box)(ys:List (List D))(s:St)[K:DC]:Prop:=match el,el' with
 |some (e,sz,by_,_),Sd _=>match zeroT P e with
  |some zs=>match bx with
   |some (.cells cs)=>(zs.length=sz∧0<sz∧0<by_∧by_≤1000000)∧(∀c∈ys,c.length=sz)∧(rsz=sz∧off=0)∧cs.length=n*sz∧n+ys.length≤1000000∧K.f (.row s.boxes.length 0 (n+ys.length) sz) {s with boxes:=s.boxes.set b .dead++[.cells (cs++ys.flatten)]}
   |_=>False
  |none=>False
 |_,_=>False
def Ny(z:Option (List D))(sz by_ b off n rsz:Nat)(bx:Option Box)(ys:List (List D))(s:St)[K:DC]:Prop:=match z,bx with
 |some zs,Sd (.cells cs)=>(zs.length=sz∧0<sz∧0<by_∧by_≤1000000)∧(∀c∈ys,c.length=sz)∧(rsz=sz∧off=0)∧cs.length=n*sz∧n+ys.length≤1000000∧K.f (.row s.boxes.length 0 (n+ys.length) sz) {s with boxes:=s.boxes.set b .dead++[.cells (cs++ys.flatten)]}
 |_,_=>False
def apZ(el el':Option (Sk×Nat×Nat×Bool))(P:Sj)(ys:List (List D))(s:St)[K:DC]:Prop:=match el,el' with
 |some (e,sz,by_,_),Sd _=>match zeroT P e with
  |some zs=>(zs.length=sz∧0<sz∧0<by_∧by_≤1000000)∧(∀c∈ys,c.length=sz)∧if ys=[]then K.f .row0 s else ys.length≤1000000∧K.f (.row s.boxes.length 0 ys.length sz) {s with boxes:=s.boxes++[.cells ys.flatten]}
  |none=>False
 |_,_=>False
def L0(z:Option (List D))(sz by_:Nat)(ys:List (List D))(s:St)[K:DC]:Prop:=match z with
 |some zs=>(zs.length=sz∧0<sz∧0<by_∧by_≤1000000)∧(∀c∈ys,c.length=sz)∧if ys=[]then K.f .row0 s else ys.length≤1000000∧K.f (.row s.boxes.length 0 ys.length sz) {s with boxes:=s.boxes++[.cells ys.flatten]}
 |none=>False
theorem lS{off n rsz:Nat}{ys:List (List D)}:@lV (cW P T T' (.row b off n rsz) (.slice o' ys) s) K=@apR (elemT P T) (elemT P T') P b off n rsz s.boxes[b]? ys s K:=by
 apply propext;unfold lV;rw[cz];simp only[cW,kd,apR];cases h:elemT P T with
 |none=>simp
 |some el =>
  obtain⟨e,sz,by_,ag⟩:=el;cases h':elemT P T' with
  |none=>simp
  |some el' =>
   dsimp only;cases hz:zeroT P e with
   |none=>simp
   |some zs =>
    dsimp only;cases hb:s.boxes[b]? with
    |none=>simp
    |some bx =>
     cases bx with
     |cells cs =>
      dsimp only;constructor
      ·rintro⟨d,s',h1,h2⟩;split at h1
       ·rename_i hc;obtain⟨c1,c2,c3,c4,c6⟩:=hc;split at h1
        ·rename_i hd;obtain⟨d1,d2,d3,d4⟩:=hd;cases h1;exact⟨⟨c1,c2,c3,c4⟩,λc hc=>by simpa using N0.1 c6 c hc,⟨d1,d2⟩,d3,d4,h2⟩
        ·cases h1
       ·cases h1
      ·rintro⟨⟨c1,c2,c3,c4⟩,c6,⟨d1,d2⟩,d3,d4,hK⟩;refine⟨_,_,?_,hK⟩;rw[if_pos ⟨c1,c2,c3,c4,N0.2 λc hc=>by simpa using c6 c hc⟩,if_pos ⟨d1,d2,d3,d4⟩]
     |_=>simp
theorem lR{ys:List (List D)}:@lV (cW P T T' .row0 (.slice o' ys) s) K=@apZ (elemT P T) (elemT P T') P ys s K:=by
 apply propext;unfold lV;rw[cz];simp only[cW,kd,apZ];cases h:elemT P T with
 |none=>simp
 |some el =>
  obtain⟨e,sz,by_,ag⟩:=el;cases h':elemT P T' with
  |none=>simp
  |some el' =>
   dsimp only;cases hz:zeroT P e with
   |none=>simp
   |some zs =>
    dsimp only;constructor
    ·rintro⟨d,s',h1,h2⟩;split at h1
     ·rename_i hc;obtain⟨c1,c2,c3,c4,c6⟩:=hc;refine⟨⟨c1,c2,c3,c4⟩,λc hc=>by simpa using N0.1 c6 c hc,?_⟩;split at h1
      ·rename_i hn;cases h1;rw[if_pos hn];exact h2
      ·rename_i hn;rw[if_neg hn];split at h1
       ·rename_i hl;cases h1;exact⟨hl,h2⟩
       ·cases h1
     ·cases h1
    ·rintro⟨⟨c1,c2,c3,c4⟩,c6,hK⟩;split at hK
     ·rename_i hn;refine⟨_,_,?_,hK⟩;rw[if_pos ⟨c1,c2,c3,c4,N0.2 λc hc=>by simpa using c6 c hc⟩,if_pos hn]
     ·rename_i hn;refine⟨_,_,?_,hK.2⟩;rw[if_pos ⟨c1,c2,c3,c4,N0.2 λc hc=>by simpa using c6 c hc⟩,if_neg hn,if_pos hK.1]
def ixR(el:Option (Sk×Nat×Nat×Bool))(b off len:Nat)(n:Int)(s:St)[K:DC]:Prop:=match el with
 |some (_,sz,_,_)=>(0≤n∧n<len)∧K.f (.box b (off+n.toNat*sz)) s
 |none=>False
theorem Bh{off len rsz:Nat}:@dD (cK P T (.row b off len rsz) (.int k n)) s K=@ixR (elemT P T) b off len n s K:=by
 apply propext;unfold dD;rw[cz];simp only[cK,fI,ixR];cases h:elemT P T with
 |none=>simp
 |some el =>
  obtain⟨e,sz,by_,ag⟩:=el;dsimp only;constructor
  ·rintro⟨d,s',h1,h2⟩;split at h1
   ·rename_i hc;cases h1;exact⟨hc,h2⟩
   ·cases h1
  ·rintro⟨hc,h2⟩;exact⟨_,_,by rw[if_pos hc];rfl,h2⟩
def LH(u:Option TypeDesc)(P:Sj)(es:Option (List (D×D)))(k:IntKind)(n:Int)(ok:Bool):Option D:=match u with
 |some (.map K V)=>match P.underlying K,zeroD P V,es with
  |some (.int _),Sd z,Sd es=>(bw k n es 0).map λr=>jT r z ok
  |_,_,_=>Sf
 |_=>Sf
def LG(u:Option TypeDesc)(z:Option D)(es:Option (List (D×D)))(k:IntKind)(n:Int)(ok:Bool):Option D:=match u,z,es with
 |some (.int _),Sd z,Sd es=>(bw k n es 0).map λr=>jT r z ok
 |_,_,_=>Sf
def s9(b:Option Box):Option (List (D×D)):=match b with
 |some (.map es)=>Sd es
 |_=>Sf
def Lj(u:Option TypeDesc)(P:Sj)(es:Option (List (D×D)))(b:Nat)(k:IntKind)(n:Int)(x:D)(B:List Box)(L:List Nat)(c:Nat):Option St:=match u with
 |some (.map K _)=>match P.underlying K,es with
  |some (.int _),Sd es=>(bw k n es 0).map λr=>⟨B.set b (.map (mapPut k n x r es)),L,c⟩
  |_,_=>Sf
 |_=>Sf
def Li(u:Option TypeDesc)(es:Option (List (D×D)))(b:Nat)(k:IntKind)(n:Int)(x:D)(B:List Box)(L:List Nat)(c:Nat):Option St:=match u,es with
 |some (.int _),Sd es=>(bw k n es 0).map λr=>⟨B.set b (.map (mapPut k n x r es)),L,c⟩
 |_,_=>Sf
def LF(u:Option TypeDesc)(P:Sj)(es:Option (List (D×D)))(b:Nat)(k:IntKind)(n:Int)(B:List Box)(L:List Nat)(c:Nat):Option St:=match u with
 |some (.map K _)=>match P.underlying K,es with
  |some (.int _),Sd es=>(bw k n es 0).map λr=>⟨B.set b (.map (mapCut r es)),L,c⟩
  |_,_=>Sf
 |_=>Sf
def LE(u:Option TypeDesc)(es:Option (List (D×D)))(b:Nat)(k:IntKind)(n:Int)(B:List Box)(L:List Nat)(c:Nat):Option St:=match u,es with
 |some (.int _),Sd es=>(bw k n es 0).map λr=>⟨B.set b (.map (mapCut r es)),L,c⟩
 |_,_=>Sf
def Fg(x:Option St)[K:DC]:Prop:=optW (x.map (D.tup [],·)) K.f
def Lm(el:Option (Sk×Nat×Nat×Bool))(P:Sj)(l c:Int)(B:List Box)(L:List Nat)(ct:Nat):Option (D×St):=match el with
 |some (e,sz,by_,_)=>match zeroT P e with
  |some zs=>if zs.length=sz∧0<sz∧0<by_∧by_≤1000000∧0≤l∧l≤c∧c≤1000000 then Sd (.row B.length 0 l.toNat sz,⟨B++[.cells (Oi l.toNat zs).flatten],L,ct⟩)else Sf
  |none=>Sf
 |none=>Sf
def Ll(z:Option (List D))(sz by_:Nat)(l c:Int)(B:List Box)(L:List Nat)(ct:Nat):Option (D×St):=match z with
 |some zs=>if zs.length=sz∧0<sz∧0<by_∧by_≤1000000∧0≤l∧l≤c∧c≤1000000 then Sd (.row B.length 0 l.toNat sz,⟨B++[.cells (Oi l.toNat zs).flatten],L,ct⟩)else Sf
 |none=>Sf
theorem Be{m:D}{ok:Bool}:jf P T m (.int k n) ok s=LH (P.underlying T) P (mapOf m s) k n ok:=by
 unfold jf LH;cases P.underlying T with
 |none=>rfl
 |some u=>cases u<;>(try rfl)<;>(dsimp only;cases P.underlying _ with
  |none=>rfl
  |some v=>cases v<;>cases zeroD P _<;>cases mapOf m s<;>rfl)
theorem uO{x:D}{c:Nat}:dP P T (.map b) (.int k n) x ⟨B,L,c⟩=Lj (P.underlying T) P (s9 B[b]?) b k n x B L c:=by
 unfold dP Lj;cases P.underlying T with
 |none=>rfl
 |some u=>cases u<;>(try rfl)<;>(dsimp only;cases P.underlying _ with
  |none=>rfl
  |some v=>cases v<;>(try rfl)<;>(dsimp only;cases B[b]? with
   |none=>rfl
   |some bx=>cases bx<;>rfl))
theorem Bi{c:Nat}:jg P T (.map b) (.int k n) ⟨B,L,c⟩=LF (P.underlying T) P (s9 B[b]?) b k n B L c:=by
 unfold jg LF;cases P.underlying T with
 |none=>rfl
 |some u=>cases u<;>(try rfl)<;>(dsimp only;cases P.underlying _ with
  |none=>rfl
  |some v=>cases v<;>(try rfl)<;>(dsimp only;cases B[b]? with
   |none=>rfl
   |some bx=>cases bx<;>rfl))
theorem uP{k':IntKind}{l c:Int}{ct:Nat}:eL P T (.int k l) (.int k' c) ⟨B,L,ct⟩=Lm (elemT P T) P l c B L ct:=by
 unfold eL Lm;cases elemT P T with
 |none=>rfl
 |some el=>obtain⟨e,sz,b,ag⟩:=el;rfl
def slR(u:Option TypeDesc)(el:Option (Sk×Nat×Nat×Bool))(b off n rsz:Nat)(lo hi:Option D):Option D:=match u,el,evBd lo 0,evBd hi n with
 |some (.slice _),Sd (_,sz,_,_),Sd l,Sd h=>if l≤h∧h≤n∧rsz=sz then Sd (if l=0 then .row b off h rsz else if l<h then .row b (off+l*sz) (h-l) rsz else .slice .none [])else Sf
 |_,_,_,_=>Sf
theorem A8{off n rsz:Nat}{lo hi:Option D}:dN P T (.row b off n rsz) lo hi Sf=slR (P.underlying T) (elemT P T) b off n rsz lo hi:=by
 unfold dN slR;cases P.underlying T with
 |none=>rfl
 |some u =>
  cases u<;>(try rfl);dsimp only;cases elemT P T with
  |none=>rfl
  |some el =>
   obtain⟨e,sz,by_,ag⟩:=el;cases evBd lo 0 with
   |none=>rfl
   |some l=>cases evBd hi n with
    |none=>rfl
    |some h =>
     simp only[evBd];by_cases hc:l≤h∧h≤n∧rsz=sz
     ·rw[if_pos hc,if_pos ⟨hc.1,hc.2.1,K6 _,by simp,hc.2.2⟩]
     ·rw[if_neg hc,if_neg (λq=>hc ⟨q.1,q.2.1,q.2.2.2.2⟩)]
def slS(u:Option TypeDesc)(el:Option (Sk×Nat×Nat×Bool))(o:Own)(xs:List (List D))(lo hi:Option D):Option D:=match u,el,evBd lo 0,evBd hi xs.length with
 |some (.slice _),Sd (_,sz,_,_),Sd l,Sd h=>if l≤h∧h≤xs.length∧(l=0∨xs.all (·.length == sz)=Sh)then Sd (.slice (if o=.full∧h=xs.length then .full else .none) ((xs.take h).drop l))else Sf
 |_,_,_,_=>Sf
theorem A7{o:Own}{xs:List (List D)}{lo hi:Option D}:dN P T (.slice o xs) lo hi Sf=slS (P.underlying T) (elemT P T) o xs lo hi:=by
 unfold dN slS;cases P.underlying T with
 |none=>rfl
 |some u =>
  cases u<;>(try rfl);dsimp only;cases elemT P T with
  |none=>rfl
  |some el =>
   obtain⟨e,sz,by_,ag⟩:=el;cases evBd lo 0 with
   |none=>rfl
   |some l=>cases evBd hi xs.length with
    |none=>rfl
    |some h =>
     simp only[evBd,Option.isSome_none,On,if_false,false_implies,true_and];by_cases hc:l≤h∧h≤xs.length∧(l=0∨xs.all (·.length == sz)=Sh)
     ·rw[if_pos hc,if_pos ⟨hc.1,hc.2.1,K6 _,hc.2.2⟩]
     ·rw[if_neg hc,if_neg (λq=>hc ⟨q.1,q.2.1,q.2.2.2⟩)]
theorem Bf:gE P T .row0 s=ls (P.underlying T) 0:=by
 unfold gE ls;cases P.underlying T with
 |none=>rfl
 |some u=>cases u<;>rfl
theorem EB{off n rsz:Nat}:gE P T (.row b off n rsz) s=ls (P.underlying T) n:=by
 unfold gE ls;cases P.underlying T with
 |none=>rfl
 |some u=>cases u<;>rfl
theorem vsM :
    (∀P e s K(T:Sk),@bI P (.makeMap T Sf) e s K=@lV (mg s) K) ∧
    (∀P e s K(T:Sk)l c,@bI P (.makeSlice T l c) e s K=@lV (eL P T (val e l) (val e c) s) K) ∧
    (∀P e s K(T:Sk)m i ok,@bI P (.lookup T m i ok) e s K=@dD (jf P T (val e m) (val e i) ok s) s K) ∧
    (∀P e s K(T:Sk)m i x,@bI P (.mapUpdate T m i x) e s K=@sV (dP P T (val e m) (val e i) (val e x) s) K) ∧
    (∀P e s K(T:Sk)m i x,@bI P (.insert T m i x) e s K=@sV (dP P T (val e m) (val e i) (val e x) s) K) ∧
    (∀P e s K x y(T U:Sk),@bI P (.call {callee:=.builtin .delete,args:=#[x,y],argTypes:=#[T,U]}) e s K=@Fg (jg P T (val e x) (val e y) s) K) ∧
    (∀P e s K x(T:Sk),@bI P (.call {callee:=.builtin .clear,args:=#[x],argTypes:=#[T]}) e s K=@Fg (pM P T (val e x) s) K) ∧
    (∀s K,@Fg (Sd s) K=@dI (.tup []) s K)∧(∀(K:DC),@Fg Sf K=False) ∧
    (∀(B:List Box)L c,mg ⟨B,L,c⟩=Sd (.map B.length,⟨B++[.map []],L,c⟩)) ∧
    (∀(P:Sj)(T:Sk)m k n ok s,jf P T m (.int k n) ok s=LH (P.underlying T) P (mapOf m s) k n ok) ∧
    (∀(P:Sj)(K V:Sk)(es:Option (List (D×D)))(k:IntKind)(n:Int)(ok:Bool),LH (Sd (.map K V)) P es k n ok=LG (P.underlying K) (zeroD P V) es k n ok) ∧
    (∀kk z es k n ok,LG (Sd (.int kk)) (Sd z) (Sd es) k n ok=(bw k n es 0).map λr=>jT r z ok) ∧
    (∀s,mapOf .nilm s=Sd [])∧(∀(b:Nat)(B:List Box)(L:List Nat)(c:Nat),mapOf (.map b) ⟨B,L,c⟩=s9 B[b]?)∧(∀(es:List (D×D)),s9 (Sd (.map es))=Sd es) ∧
    (∀i v z,jT (Sd (i,v)) z Sh=.tup [v,.bool Sh])∧(∀(i:Nat)(v z:D),jT (Sd (i,v)) z Se=v)∧(∀(z:D),jT Sf z Sh=.tup [z,.bool Se])∧(∀(z:D),jT Sf z Se=z) ∧
    (∀(P:Sj)(T:Sk)b k n x B L c,dP P T (.map b) (.int k n) x ⟨B,L,c⟩=Lj (P.underlying T) P (s9 B[b]?) b k n x B L c) ∧
    (∀(P:Sj)(K V:Sk)(es:Option (List (D×D)))(b:Nat)(k:IntKind)(n:Int)(x:D)(B:List Box)(L:List Nat)(c:Nat),Lj (Sd (.map K V)) P es b k n x B L c=Li (P.underlying K) es b k n x B L c) ∧
    (∀kk es b k n x(B:List Box)L c,Li (Sd (.int kk)) (Sd es) b k n x B L c=(bw k n es 0).map λr=>⟨B.set b (.map (mapPut k n x r es)),L,c⟩) ∧
    (∀(P:Sj)(T:Sk)b k n B L c,jg P T (.map b) (.int k n) ⟨B,L,c⟩=LF (P.underlying T) P (s9 B[b]?) b k n B L c) ∧
    (∀(P:Sj)(K V:Sk)(es:Option (List (D×D)))(b:Nat)(k:IntKind)(n:Int)(B:List Box)(L:List Nat)(c:Nat),LF (Sd (.map K V)) P es b k n B L c=LE (P.underlying K) es b k n B L c) ∧
    (∀kk es b k n(B:List Box)L c,LE (Sd (.int kk)) (Sd es) b k n B L c=(bw k n es 0).map λr=>⟨B.set b (.map (mapCut r es)),L,c⟩) ∧
    (∀k n i,bw k n [] i=Sd Sf) ∧
    (∀P(T:Sk)k k' l c B L ct,eL P T (.int k l) (.int k' c) ⟨B,L,ct⟩=Lm (elemT P T) P l c B L ct) ∧
    (∀P(e:Sk)sz b ag l c B L ct,Lm (Sd (e,sz,b,ag)) P l c B L ct=Ll (zeroT P e) sz b l c B L ct) ∧
    (∀(zs:List D)sz b(l c:Int)(B:List Box)L ct,Ll (Sd zs) sz b l c B L ct=if zs.length=sz∧0<sz∧0<b∧b≤1000000∧0≤l∧l≤c∧c≤1000000 then Sd (.row B.length 0 l.toNat sz,⟨B++[.cells (Oi l.toNat zs).flatten],L,ct⟩)else Sf) ∧
    (∀P(T T':Sk)b off n rsz o' ys(s:St)K,@lV (cW P T T' (.row b off n rsz) (.slice o' ys) s) K=@apR (elemT P T) (elemT P T') P b off n rsz s.boxes[b]? ys s K) ∧
    (∀P(e e':Sk)sz by_ sz' b' ag ag' b off n rsz cs ys s K,@apR (Sd (e,sz,by_,ag)) (Sd (e',sz',b',ag')) P b off n rsz (Sd (.cells cs)) ys s K=@Ny (zeroT P e) sz by_ b off n rsz (Sd (.cells cs)) ys s K) ∧
    (∀zs sz by_ b off n rsz cs ys B L c K,@Ny (Sd zs) sz by_ b off n rsz (Sd (.cells cs)) ys ⟨B,L,c⟩ K =
      @needI (zs.length=sz∧0<sz∧0<by_∧by_≤1000000) (o8 (∀c∈ys,c.length=sz) (o8 (rsz=sz∧off=0) (o8 (cs.length=n*sz) (o8 (n+ys.length≤1000000) (dC (.row B.length 0 (n+ys.length) sz) ⟨B.set b .dead++[.cells (cs++ys.flatten)],L,c⟩ K)))))) ∧
    (∀P(T T':Sk)o' ys s K,@lV (cW P T T' .row0 (.slice o' ys) s) K=@apZ (elemT P T) (elemT P T') P ys s K) ∧
    (∀P(e e':Sk)sz by_ sz' b' ag ag' ys s K,@apZ (Sd (e,sz,by_,ag)) (Sd (e',sz',b',ag')) P ys s K=@L0 (zeroT P e) sz by_ ys s K) ∧
    (∀(zs:List D)sz by_ s K,@L0 (Sd zs) sz by_ [] s K=@needI (zs.length=sz∧0<sz∧0<by_∧by_≤1000000) (dC .row0 s K)) ∧
    (∀zs sz by_ y ys B L c K,@L0 (Sd zs) sz by_ (y::ys) ⟨B,L,c⟩ K =
      @needI (zs.length=sz∧0<sz∧0<by_∧by_≤1000000) (o8 (∀c∈y::ys,c.length=sz) (o8 ((y::ys).length≤1000000) (dC (.row B.length 0 (y::ys).length sz) ⟨B++[.cells (y::ys).flatten],L,c⟩ K)))) ∧
    (∀P(T:Sk)b off len rsz k n s K,@dD (cK P T (.row b off len rsz) (.int k n)) s K=@ixR (elemT P T) b off len n s K) ∧
    (∀(e:Sk)sz by_ ag b off len(n:Int)s K,@ixR (Sd (e,sz,by_,ag)) b off len n s K=@needI (0≤n∧n<len) (dC (.box b (off+n.toNat*sz)) s K)) ∧
    (∀(P:Sj)(T:Sk)s,gE P T .row0 s=ls (P.underlying T) 0)∧(∀(P:Sj)(T:Sk)(b off n rsz:Nat)(s:St),gE P T (.row b off n rsz) s=ls (P.underlying T) n) ∧
    (∀(P:Sj)(T:Sk)b off n rsz lo hi,dN P T (.row b off n rsz) lo hi Sf=slR (P.underlying T) (elemT P T) b off n rsz lo hi) ∧
    (∀(P:Sj)(T:Sk)o xs lo hi,dN P T (.slice o xs) lo hi Sf=slS (P.underlying T) (elemT P T) o xs lo hi) ∧
    (D.row0.plain=.row0)∧(D.row0.plain1=.row0)∧(D.row0.keep1=.row0)∧(cellsD .row0=Sd [.row0]) ∧
    (∀b o n z,(D.row b o n z).plain=.row b o n z)∧(∀b o n z,(D.row b o n z).plain1=.row b o n z)∧(∀b o n z,(D.row b o n z).keep1=.row b o n z)∧(∀b o n z,cellsD (.row b o n z)=Sd [.row b o n z]):=by
  and_intros
  all_goals intros
  all_goals first
    |rfl
    |with_unfolding_all rfl
    |exact lS
    |exact lR
    |exact Bh
    |exact Be
    |exact uO
    |exact Bi
    |exact uP
    |exact A8
    |exact A7
    |exact Bf
    |exact EB
    |(unfold apR Ny;dsimp only;cases zeroT _ _<;>rfl)
    | (apply propext;constructor
       · rintro⟨h1,h2,h3⟩;exact⟨h1,h3⟩
       · rintro⟨h1,h3⟩;exact⟨h1,(λ_ h=>(by cases h)),h3⟩)
    | (apply propext;constructor
       · rintro⟨h1,h2,h3,h4⟩;exact⟨h1,h2,h3,h4⟩
       · rintro⟨h1,h2,h3,h4⟩;exact⟨h1,h2,by rw[if_neg (by simp)];exact⟨h3,h4⟩⟩)
    |trace_state
theorem vsNd :
  (∀P e s K x,@cD P (.move x) e s K=@bI P (.move x) e s K) ∧
  (∀P e s K x,@cD P (.assign x) e s K=@bI P (.assign x) e s K) ∧
  (∀P e s K c a b,@cD P (.pick c a b) e s K=@bI P (.pick c a b) e s K) ∧
  (∀P e s K(T:Sk),@cD P (.alloc T) e s K=@bI P (.alloc T) e s K) ∧
  (∀P e s K(T:Sk)x,@cD P (.box T x) e s K=@bI P (.box T x) e s K) ∧
  (∀P e s K(T:Sk)ps,@cD P (.build T ps) e s K=@bI P (.build T ps) e s K) ∧
  (∀P e s K(T:Sk)n ps,@cD P (.buildSlice T n ps) e s K=@bI P (.buildSlice T n ps) e s K) ∧
  (∀P e s K(T:Sk)a,@cD P (.load T a) e s K=@bI P (.load T a) e s K) ∧
  (∀P e s K(T:Sk)a x,@cD P (.store T a x) e s K=@bI P (.store T a x) e s K) ∧
  (∀P e s K x,@cD P (.nilCheck x) e s K=@bI P (.nilCheck x) e s K) ∧
  (∀P e s K op(T U:Sk)x y,@cD P (.binOp op T x y U) e s K=@bI P (.binOp op T x y U) e s K) ∧
  (∀P e s K op(T:Sk)x,@cD P (.unOp op T x) e s K=@bI P (.unOp op T x) e s K) ∧
  (∀P e s K(T U:Sk)x,@cD P (.convert T U x) e s K=@bI P (.convert T U x) e s K) ∧
  (∀P e s K fn fi ca,@cD P (.makeFunc fn fi ca) e s K=@bI P (.makeFunc fn fi ca) e s K) ∧
  (∀P e s K(T:Sk)x lo hi mx,@cD P (.slice T x lo hi mx) e s K=@bI P (.slice T x lo hi mx) e s K) ∧
  (∀P e s K(T:Sk)x f,@cD P (.fieldAddr T x f) e s K=@bI P (.fieldAddr T x f) e s K) ∧
  (∀P e s K(T:Sk)x f,@cD P (.field T x f) e s K=@bI P (.field T x f) e s K) ∧
  (∀P e s K(T:Sk)x i,@cD P (.indexAddr T x i) e s K=@bI P (.indexAddr T x i) e s K) ∧
  (∀P e s K(T:Sk)x i,@cD P (.index T x i) e s K=@bI P (.index T x i) e s K) ∧
  (∀P e s K x i,@cD P (.extract x i) e s K=@bI P (.extract x i) e s K) ∧
  (∀P e s K(T:Sk)r,@cD P (.makeMap T r) e s K=@bI P (.makeMap T r) e s K) ∧
  (∀P e s K(T:Sk)l c,@cD P (.makeSlice T l c) e s K=@bI P (.makeSlice T l c) e s K) ∧
  (∀P e s K(T:Sk)m i ok,@cD P (.lookup T m i ok) e s K=@bI P (.lookup T m i ok) e s K) ∧
  (∀P e s K(T:Sk)m i x,@cD P (.mapUpdate T m i x) e s K=@bI P (.mapUpdate T m i x) e s K) ∧
  (∀P e s K(T:Sk)m i x,@cD P (.insert T m i x) e s K=@bI P (.insert T m i x) e s K) ∧
  (∀P e s K b ar ts,@cD P (.call {callee:=.builtin b,args:=ar,argTypes:=ts}) e s K=@bI P (.call {callee:=.builtin b,args:=ar,argTypes:=ts}) e s K) ∧
  (∀P e s K f(args:List Sn)ts,@cD P (.call {callee:=.value f,args:=args.toArray,argTypes:=ts}) e s K=@tL Sh P (val e f) (args.map λx=>(val e x).plain) s K) ∧
  (∀P full e s K,@l6 P full [] e s K=@kI e s K) ∧
  (∀P full os e s K,@pI (Iq P full os e s K)=@l6 P full os e s K) ∧
  (∀P op e s K,@pI (BJ P op e s K)=@cD P op e s K) ∧
  (∀P full os e s K dst op(ty:Sk)pos after,@l6 P full ({dst:=dst,op:=op,type:=ty,pos:=pos,after:=after,guard:=Sf}::os) e s K=@cD P op e s (Lg P full os dst e K)) ∧
  (∀P full os e s K dst op(ty:Sk)pos after j b,@l6 P full ({dst:=dst,op:=op,type:=ty,pos:=pos,after:=after,guard:=Sd (j,b)}::os) e s K=@xA P full os dst op (guardOf full (Sd (j,b))) e s K) ∧
  (∀P full os(e:List D)s K dst op t,@xA P full os dst op (Sd (Sd (t,Sh))) e s K=ifI (gdD Sh (e.getD t .junk)) (BJ P op e s (Lg P full os dst e K)) (Iq P full os (putD e dst (.tup [])) s K)) ∧
  (∀P full os(e:List D)s K dst op t,@xA P full os dst op (Sd (Sd (t,Se))) e s K=ifI (gdD Se (e.getD t .junk)) (Iq P full os (putD e dst (.tup [])) s K) (BJ P op e s (Lg P full os dst e K))) ∧
  (∀P full os e s K dst d,@dI d s (Lg P full os dst e K)=@l6 P full os (putD e dst d) s K):=by
 and_intros
 all_goals intros
 all_goals first
  |rfl
  |with_unfolding_all rfl
  |(simp only[l6,xA,jl,guardOf];split<;>simp_all<;>(split<;>simp_all);done)
  |trace_state
end Go.V
