/-
  The value-level logic and its contracts, part 7 (texts W19, M1, M4, N5, U1, U2, U3, U4, U5, U6, U7, P13, N1, N2, P14, N3, U8, U9, U10).
-/
import Derived.Test.YtlobjjbchnjfiaaGreatBast6
import Derived.Test.YtlobjjbchnjfiaaGreatBast5
import Derived.Test.YtlobjjbchnjfiaaGreatBast3
open List renaming mem_cons_of_mem→OG,length_append→K5,length_cons→K7,length_nil→L4,erase_cons_head→No,getElem?_eq_getElem→K4,take_length→N6,append_assoc→K9,take_of_length_le→N1,cons_append→Ob,nil_append→Oe,take_add_one→N4,length→Qh,cons→QM,getElem_mem→NY,all_eq_false→O4,mem_append→Od,all_eq_true→N0,mem_cons→NX,length_take→OD,all_append→Qn,take→Qc,mem_append_left→QU,mem_append_right→Qt,range→Ol,mem_range→Ow
open Bool renaming true_and→K8,and_eq_true→M1,false_and→M7,and_true→N5,and_false→N2,true_or→M6,false_or→L5,or_true→NW,or_false→M4,not_true→N3,not_false→NZ,not_or→Q1,not_not→QI,eq_iff_iff→O9,or_eq_true→PF,not_eq_true'→Oy,or_eq_false_iff→OP,not_eq_false'→Pu
open Nat renaming zero_le→L7,le_refl→K6,reduceLT→R3
open Int renaming toNat_natCast→K3,reduceLE→Rj,reduceLT→Rk,reduceToNat→RF
open Option renaming toList_some→Ov
open Nat renaming reduceAdd → zA, reduceSub → zS, reduceMul → zM, reduceLeDiff → zL, reduceEqDiff → zE, reduceBEq → zB
open Go.V.D renaming junk → J
set_option linter.all false
set_option linter.unusedSimpArgs false
set_option linter.unusedVariables false
set_option linter.unnecessarySimpa false
set_option maxHeartbeats 4000000
open Option renaming some→Sd
open Bool renaming false→Se
open Option renaming none→Sf
open Bool renaming true→Sh
open Go.Proofs.Tryz renaming prog→Si
open Go.ResultVar renaming tmp→Sy,cell→Sz
open Go.IntKind renaming i64→SA
open And renaming intro→Ss
namespace Go.V
open Go.Proofs Go.Proofs.Tryz
set_option maxRecDepth 20000
set_option maxHeartbeats 4000000
def OwW(L:List Nat)(c:Nat)(o:Own)(L':List Nat)(c':Nat):Prop:=(o=.full∧L'=L∧c'=c)∨∃x,o=.lab x 1∧L'=x::L∧c'=x+1∧c≤x
theorem OwW.fits{L:List Nat}{c:Nat}{o:Own}{L':List Nat}{c':Nat}(h:OwW L c o L' c')(m:List Int)(B:List Box):aZ o (aj m) 1 ⟨B,L',c'⟩=Sh:=by
 rcases h with ⟨rfl,rfl,rfl⟩|⟨x,rfl,rfl,rfl,_⟩
 ·simp[aZ,aj]
 ·simp[aZ]
theorem OwW.rel{L:List Nat}{c:Nat}{o:Own}{L':List Nat}{c':Nat}(h:OwW L c o L' c')(B:List Box):St.relab ⟨B,L',c'⟩ o=⟨B,c'::L,c'+1⟩:=by
 rw[iZ];rcases h with ⟨rfl,rfl,rfl⟩|⟨x,rfl,rfl,rfl,_⟩
 ·rfl
 ·simp[gF]
theorem OwW.le{L:List Nat}{c:Nat}{o:Own}{L':List Nat}{c':Nat}(h:OwW L c o L' c'):c≤c':=by
 rcases h with ⟨rfl,rfl,rfl⟩|⟨x,rfl,rfl,rfl,_⟩<;>omega
theorem OwW.sub{L:List Nat}{c:Nat}{o:Own}{L':List Nat}{c':Nat}(h:OwW L c o L' c'):∀k∈L,k∈L':=by
 rcases h with ⟨rfl,rfl,rfl⟩|⟨x,rfl,rfl,rfl,_⟩
 ·exactλ_ h=>h
 ·exactλ_ h=>OG _ h
theorem OwW.mk{L:List Nat}{c x:Nat}(h:c≤x):OwW L c (.lab x 1) (x::L) (x+1):=.inr ⟨x,rfl,rfl,rfl,h⟩
theorem OwW.start(L:List Nat)(c:Nat):OwW L c .full L c:=.inl ⟨rfl,rfl,rfl⟩
def wRg(r:Rg):List Int:=[r.lo,r.hi,r.mask]
def wRgs(l:List Rg):List Int:=(l.length:Int)::l.flatMap wRg
def wQu(q:Qu):List Int:=[q.cap,q.r.lo,q.r.hi,q.r.mask]
def wAr(r:Ar):List Int:=[r.len,r.of]
def wBy(b:UInt8):List Int:=[(b.toNat:Int)]
def wHd(h:Hd):List Int:=[h.id,h.firm,h.part]++wRgs h.params++wRgs h.given
def wDf(d:Df):List Int:=[1,d.id,d.site,(d.name.size:Int)]++d.name.data.toList.flatMap wBy++[d.firm,d.part]++wRgs d.params++wRgs d.given++[d.vars,d.refs,(d.arrays.length:Int)]++d.arrays.flatMap wAr++[d.budget]++wSms d.body
def wPg(p:Pg):List Int:=[2]++wRgs p.d.globals++wRgs p.d.classes++[(p.d.queues.length:Int)]++p.d.queues.flatMap wQu++wIs p.d.sinks++[p.d.locks,p.d.parts,p.d.firms,(p.heads.length:Int)]++p.heads.flatMap wHd++[(p.defs.length:Int)]++p.defs.flatMap wDf++wIs p.threads
theorem rQ{α:Type}(f:α→List Int)(hf:∀x,1≤(f x).length)(l:List α):l.length≤(l.flatMap f).length:=by
 induction l with
 |nil=>simp
 |cons x m ih=>have:=hf x;rw[List.flatMap_cons,K5,K7];omega
theorem gq(l:List Rg)(hl:(wRgs l).length≤1000000)(s:St):az Si 124 [.slice .none (aN l)] s (.slice .none (aj (wRgs l))) s:=by
 obtain⟨B,L,c⟩:=s;have hlen:(wRgs l).length=(l.flatMap wRg).length+1:=by simp[wRgs]
 have hle:=rQ wRg (λx=>by simp[wRg]) l;refine az.introN [] func124 rfl (by decide) aA (by kernel_rfl) [Sy 2] 33 rfl rfl ?_;simp only[vqM,tf3,eo,bY,bS,zA,zS,zM,zL,au,ic1];refine ae [0,3,4] ?_;simp only[vke,zB,zA];refine aE aA l.length (λk e s=>∃o L1 c1 out,OwW L c o L1 c1∧out=(l.length:Int)::(l.take k).flatMap wRg∧e=[.slice .none (aN l),J,J,.slice o (aj out),.int .i64 (k:Int),J,J,J,J,J,J,J,J,J,J,J,J,J,J,J,J,J,J,J,J,J,J,J,J,J,J,J,J]∧s=⟨B,L1,c1⟩) ?_ ?_ 0 _ _ (L7 _) ⟨_,_,_,[(l.length:Int)],.start L c,by simp,rfl,rfl⟩
 ·rintro k e s hk ⟨o,L1,c1,out,hO,hout,rfl,rfl⟩ ihl;have hx:l[k]?=Sd l[k]:=K4 hk;have hg:(aN l)[k]?=Sd l[k].cells:=by simp[aN,hx]
  have hklt:((k:Int)<(l.length:Int))=True:=by simp;exact hk
  have hnext:(l.length:Int)::(l.take (k+1)).flatMap wRg=out++wRg l[k]:=by rw[hout,iN _ hk];rfl
  have hcnt:(out++wRg l[k]).length≤(l.flatMap wRg).length+1:=by
   rw[←hnext,K7];have:=eB wRg (l:=l) (k:=k+1)
   omega
  rw[K5]at hcnt;have hof:=hO.fits out;have hrel:=hO.rel;generalize l[k]=x at hx hg hnext hcnt;simp only[wRg,K7,L4]at hcnt hnext;simp only[vqM,tf3,eo,bY,bS,zA,zM,zL,au,hklt,decide_true,natle0,K3,hg,hof,ic1,icc,ab,bC];refine aB (by omega) ?_;simp only[vqM,hrel,ay];rw[ap (by omega)];refine ae [0,3,4] ?_;simp only[vke,zB,zA];exact ihl _ _ ⟨_,_,_,_,.mk hO.le,hnext.symm,rfl,rfl⟩
 ·rintro e s ⟨o,L1,c1,out,hO,hout,rfl,rfl⟩;have hklt:((l.length:Int)<(l.length:Int))=False:=by simp
  rw[N6]at hout;simp only[vqM,tf3,eo,bY,bS,au,hklt,decide_false];refine gd (.inr rfl) ?_ (cq _) hO.sub hO.le;simp only[vqM];rw[hout];rfl
theorem wQ(d:Df)(hl:(wDf d).length≤1000000)(s:St):az Si 72 [.agg d.cells] s (.slice .none (aj (wDf d))) s:=by
 obtain⟨B,L,c⟩:=s;rw[wDf]at hl;simp only[K5,K7,L4]at hl;have hle1:=rQ wBy (λx=>by simp[wBy]) d.name.data.toList;have hle2:=rQ wAr (λx=>by simp[wAr]) d.arrays;have hsz:d.name.data.toList.length=d.name.size:=rfl;refine az.introN [(6,.text [Se,Se,Se,Se,Se,Se,Sh,Se,Se,Sh,Sh,Se,Se,Sh,Sh,Se] [(8,0),(12,0),(12,1),(12,2)]),(12,.text [Se,Se,Se,Se,Sh,Se,Se,Sh,Sh,Se] [(6,0)])] func72 rfl (by decide) aA (by kernel_rfl) [Sy 2] 85 rfl rfl ?_;simp only[vqM,pm,zA,zS,zM,zL,zB,ic1,icc];refine ae [1,3,4] ?_;simp only[vke,zB,zA];refine aE aA d.name.size (λk e s=>∃o L1 c1 out,OwW L c o L1 c1∧out=[1,d.id,d.site,(d.name.size:Int)]++(d.name.data.toList.take k).flatMap wBy∧e=[J,.box B.length 0,J,.slice o (aj out),.int .i64 (k:Int),J,J,J,J,J,J,J,J,J,J,J,J,J,J,J,J,J,J,J,J,J,J,J,J,J,J,J,J,J,J,J,J,J,J,J,J,J,J,J,J,J,J,J,J,J,J,J,J,J,J,J,J,J,J,J,J,J,J,J,J,J,J,J,J,J,J,J,J,J,J,J,J,J,J,J,J,J,J,J,J]∧s=⟨B++[.cells d.cells],L1,c1⟩) ?_ ?_ 0 _ _ (L7 _) ⟨_,_,_,[1,d.id,d.site,(d.name.size:Int)],.start L c,by simp,rfl,rfl⟩
 ·rintro k e s hk ⟨o,L1,c1,out,hO,hout,rfl,rfl⟩ ihl;have hkl:k<d.name.data.toList.length:=hk;have hb:=xj d.name k hk;have hklt:((k:Int)<(d.name.size:Int))=True:=by simp;exact hk
  have hnext:[1,d.id,d.site,(d.name.size:Int)]++(d.name.data.toList.take (k+1)).flatMap wBy=out++wBy d.name.data.toList[k]:=by rw[hout,iN _ hkl,K9]
  have hcnt:(out++wBy d.name.data.toList[k]).length≤(d.name.data.toList.flatMap wBy).length+4:=by
   rw[←hnext,K5];simp only[K7,L4];have:=eB wBy (l:=d.name.data.toList) (k:=k+1)
   omega
  rw[K5]at hcnt;have hof:=hO.fits out;have hrel:=hO.rel;generalize d.name.data.toList[k]=x at hb hnext hcnt;simp only[wBy,K7,L4]at hcnt hnext;have hxc:0≤(x.toNat:Int)∧(x.toNat:Int)<256:=by have:=x.toNat_lt;omega
  have hcw:SA.wrap (x.toNat:Int)=x.toNat:=aK (by omega);simp only[vqM,pm,zA,zM,zL,zB,hklt,decide_true,natle0,K3,hb,hof,ic1,ab,bC];refine aB (by omega) ?_;simp only[vqM,hcw,hrel,ay];rw[ap (by omega)];refine ae [1,3,4] ?_;simp only[vke,zB,zA];exact ihl _ _ ⟨_,_,_,_,.mk hO.le,hnext.symm,rfl,rfl⟩
 ·rintro e s ⟨o,L1,c1,out,hO,hout,rfl,rfl⟩;have hklt:((d.name.size:Int)<(d.name.size:Int))=False:=by simp
  rw[N1 (by omega)]at hout;have hol:out.length=4+(d.name.data.toList.flatMap wBy).length:=by rw[hout];simp;omega
  have hof:=hO.fits out;have hrel:=hO.rel;have hle0:=hO.le;simp only[vqM,pm,zA,zM,zL,zB,hklt,decide_false,hof,ic1,icc,ab,bC];refine aB (by omega) ?_;simp only[vqM,pm,zA,hrel,ay];refine aa (gq _ (by omega) _) ?_;simp only[vqM,pm,zA,zL,ab,K5,bC,cC];refine aB (by omega) ?_;simp only[vqM,pm,zA,No,ay];refine aa (gq _ (by omega) _) ?_;simp only[vqM,pm,zA,zL,ab,K5,bC,cC];refine aB (by omega) ?_;simp only[vqM,pm,zA,zM,zL,zB,ak,ic1,icc,ab,K5,bC,No,cC,ay];refine aB (by omega) ?_;simp only[vqM,zB,No,ay];refine ae [1,3,5] ?_;simp only[vke,zB,zA];obtain⟨pre,hpre⟩:∃pre:List Int,pre=out++d.firm::d.part::(wRgs d.params++(wRgs d.given++[d.vars,d.refs,(d.arrays.length:Int)])):=⟨_,rfl⟩;have hprl:pre.length=4+(d.name.data.toList.flatMap wBy).length+2+(wRgs d.params).length+(wRgs d.given).length+3:=by rw[hpre];simp only[K5,K7,L4];omega
  rw[←hpre];refine aE aA d.arrays.length (λk e s=>∃o L1 c1 out,OwW L c o L1 c1∧out=pre++(d.arrays.take k).flatMap wAr∧e=[J,.box B.length 0,J,.slice o (aj out),J,.int .i64 (k:Int),J,J,J,J,J,J,J,J,J,J,J,J,J,J,J,J,J,J,J,J,J,J,J,J,J,J,J,J,J,J,J,J,J,J,J,J,J,J,J,J,J,J,J,J,J,J,J,J,J,J,J,J,J,J,J,J,J,J,J,J,J,J,J,J,J,J,J,J,J,J,J,J,J,J,J,J,J,J,J]∧s=⟨B++[.cells d.cells],L1,c1⟩) ?_ ?_ 0 _ _ (L7 _) ⟨_,_,_,pre,.mk (by omega),by simp,rfl,rfl⟩
  ·clear hof hrel hle0 hO;rintro k e s hk ⟨o,L1,c1,out,hO,hout,rfl,rfl⟩ ihl;have hx:d.arrays[k]?=Sd d.arrays[k]:=K4 hk;have hg:(cy d.arrays)[k]?=Sd d.arrays[k].cells:=by simp[cy,hx]
   have hklt:((k:Int)<(d.arrays.length:Int))=True:=by simp;exact hk
   have hnext:pre++(d.arrays.take (k+1)).flatMap wAr=out++wAr d.arrays[k]:=by rw[hout,iN _ hk,K9]
   have hcnt:(out++wAr d.arrays[k]).length≤pre.length+(d.arrays.flatMap wAr).length:=by
    rw[←hnext,K5];have:=eB wAr (l:=d.arrays) (k:=k+1)
    omega
   rw[K5]at hcnt;have hof:=hO.fits out;have hrel:=hO.rel;generalize d.arrays[k]=x at hx hg hnext hcnt;simp only[wAr,K7,L4]at hcnt hnext;simp only[vqM,pm,zA,zM,zL,zB,ak,hklt,decide_true,natle0,K3,hg,hof,ic1,icc,ab,bC];refine aB (by omega) ?_;simp only[vqM,hrel,ay];rw[ap (by omega)];refine ae [1,3,5] ?_;simp only[vke,zB,zA];exact ihl _ _ ⟨_,_,_,_,.mk hO.le,hnext.symm,rfl,rfl⟩
  ·clear hof hrel hle0 hO;rintro e s ⟨o,L1,c1,out2,hO,hout2,rfl,rfl⟩;have hklt:((d.arrays.length:Int)<(d.arrays.length:Int))=False:=by simp
   rw[N6]at hout2;have hol2:out2.length=pre.length+(d.arrays.flatMap wAr).length:=by rw[hout2,K5]
   have hof:=hO.fits out2;have hrel:=hO.rel;have hle0:=hO.le;simp only[vqM,pm,zA,zM,zL,zB,ak,hklt,decide_false,hof,ic1,ab,bC];refine aB (by omega) ?_;simp only[vqM,pm,zA,hrel,ay];refine aa (Mb _ _ (by omega)) ?_;simp only[vqM,pm,zA,zL,ab,K5,bC,cC];refine aB (by omega) ?_;simp only[vqM,pm,No,ay];refine ao (.inr rfl) ?_ (cq _) (λ_ h=>OG _ h) (by omega);simp only[vqM];rw[hout2,hpre,hout,wDf];simp only[K9,Ob,Oe]
theorem ky(l m:List Int)(s:St):az Si 58 [.slice .none (aj l),.slice .none (aj m)] s (.bool (decide (l=m))) s:=by
 refine az.small λhsm=>?_;have hlen:=(hsm _ (.head _)).len;rw[ab]at hlen;clear hsm;refine az.introN [] func58 rfl (by decide) aA (by kernel_rfl) [Sy 4] 26 rfl rfl ?_;simp only[vqM,bW,zA,zS,ab];refine am (λhc=>?_) (λhc=>?_)
 ·simp only[vqM];refine SC ?_ (.bool _);have:l≠m:=by rintro rfl;simp at hc
  simp only[vqM];rw[decide_eq_false this]
 have hll:l.length=m.length:=by simp at hc;omega
 simp only[vqM];refine ae [0,1,5] ?_;simp only[vke,zB,zA];refine cx aA l.length (λk=>[.slice .none (aj l),.slice .none (aj m),J,J,J,.int .i64 (k:Int),J,J,J,J,J,J,J,J,J,J,J,J,J,J,J,J,J,J,J,J]) (λ_=>s) (λk=>l.take k=m.take k) ?_ ?_ 0 (L7 _) rfl
 ·intro k hk hI ih;have hkm:k<m.length:=by omega
  have hx:l[k]?=Sd l[k]:=K4 hk;have hy:m[k]?=Sd m[k]:=K4 hkm;have hg:=gA hk;have hh:=gA hkm;have hklt:((k:Int)<(l.length:Int))=True:=by simp;exact hk
  simp only[vqM,bW,zA,ab,hklt,decide_true,natle0,K3,hg,hh];refine am (λhc=>?_) (λhc=>?_)
  ·simp only[vqM];refine SC ?_ (.bool _);simp only[vqM];have:l≠m:=by rintro rfl;simp at hc
   rw[decide_eq_false this]
  ·simp only[vqM];rw[ap (by omega)];refine ae [0,1,5] ?_;simp only[vke,zB,zA];refine ih ?_;have hc':l[k]=m[k]:=by simpa using hc
   rw[N4,N4,hx,hy,hI,hc']
 ·intro hI;have hklt:((l.length:Int)<(l.length:Int))=False:=by simp
  simp only[vqM,bW,ab,hklt,decide_false];refine SC ?_ (.bool _);simp only[vqM];rw[N6,hll,N6]at hI;rw[decide_eq_true hI]
theorem xV(x y:Df)(hx:(wDf x).length≤1000000)(hy:(wDf y).length≤1000000)(s:St):az Si 23 [.agg x.cells,.agg y.cells] s (.bool (decide (wDf x=wDf y))) s:=by
 obtain⟨B,L,c⟩:=s;refine az.introN [(1,.text [Se,Sh,Se,Sh,Sh,Se] [(2,0)])] func23 rfl (by decide) aA (by kernel_rfl) [Sy 4] 10 rfl rfl ?_;simp only[vqM,zA,zS,zB,bi];refine aa (wQ _ hx _) ?_;simp only[vqM,bi];refine aa (wQ _ hy _) ?_;simp only[vqM];refine aa (ky _ _ _) ?_;simp only[vqM,bi];refine SB ?_ (.bool _);simp only[vqM]
theorem qE(p:Pg)(hl:(wPg p).length≤1000000)(s:St):az Si 94 [.agg p.cells] s (.slice .none (aj (wPg p))) s:=by
 obtain⟨B,L,c⟩:=s;rw[wPg]at hl;simp only[K5,K7,L4]at hl;have hle1:=rQ wQu (λx=>by simp[wQu]) p.d.queues;have hle2:=rQ wHd (λx=>by simp[wHd]) p.heads;have hle3:=rQ wDf (λx=>by simp[wDf]) p.defs;have hsk:(wIs p.d.sinks).length=p.d.sinks.length+1:=by simp[wIs]
 have hth:(wIs p.threads).length=p.threads.length+1:=by simp[wIs]
 refine az.introN [(1,.text [Se,Se,Se,Se,Sh,Sh,Se,Se,Se,Sh,Sh,Se] [(8,0),(8,1)]),(8,.text [Se,Se,Se,Se,Sh,Sh,Se,Se,Se,Se,Se,Se,Se,Se,Se,Se,Se,Se,Se,Sh,Se] [(8,0),(8,1),(11,0),(11,1),(14,0),(14,1),(16,0),(16,1),(17,0),(17,1)]),(13,.text [Se,Se,Se,Se,Se,Se,Se,Se,Sh,Se,Se,Sh,Sh,Se,Se,Sh,Sh,Se] [(10,0),(14,0),(14,1),(14,2)])] func94 rfl (by decide) aA (by kernel_rfl) [Sy 2] 130 rfl rfl ?_;simp only[vqM,jE,zA,zS,zM,zL,zB,ic1];refine aa (gq _ (by omega) _) ?_;simp only[vqM,jE,zA,zL,ab,bC,bF];refine aB (by omega) ?_;simp only[vqM,jE,zA,ay];refine aa (gq _ (by omega) _) ?_;simp only[vqM,jE,zA,zL,ab,bC,cC];refine aB (by omega) ?_;simp only[vqM,jE,zA,zM,zL,zB,aI,ic1,ab,K5,bC,No,cC,ay];refine aB (by omega) ?_;simp only[vqM,zB,No,ay];refine ae [1,3,4] ?_;simp only[vke,zB,zA];obtain⟨pre,hpre⟩:∃pre:List Int,pre=2::(wRgs p.d.globals++(wRgs p.d.classes++[(p.d.queues.length:Int)])):=⟨_,rfl⟩;have hprl:=congrArg Qh hpre;simp only[K5,K7,L4]at hprl;rw[←hpre];refine aE aA p.d.queues.length (λk e s=>∃o L1 c1 out X,OwW L c o L1 c1∧out=pre++(p.d.queues.take k).flatMap wQu∧e=[J,.box B.length 0,J,.slice o (aj out),.int .i64 (k:Int),J,J,J,J,J,J,J,J,J,J,J,J,J,J,J,J,J,J,J,J,J,J,J,J,J,J,J,J,J,J,J,J,J,J,J,J,J,J,J,J,J,J,J,J,J,J,J,J,J,J,J,J,J,J,J,J,J,J,J,J,J,J,J,J,J,J,J,J,J,J,J,J,J,J,J,J,J,J,J,J,J,J,J,J,J,J,J,J,J,J,J,J,J,J,J,J,J,J,J,J,J,J,J,J,J,J,J,J,J,J,J,J,J,J,J,J,J,J,J,J,J,J,J,J,J]∧s=⟨B++.cells p.cells::X,L1,c1⟩) ?_ ?_ 0 _ _ (L7 _) ⟨_,_,_,pre,[],.mk (by omega),by simp,rfl,rfl⟩
 ·clear hpre;rintro k e s hk ⟨o,L1,c1,out,X,hO,hout,rfl,rfl⟩ ihl;have hx:p.d.queues[k]?=Sd p.d.queues[k]:=K4 hk;have hg:(dt p.d.queues)[k]?=Sd p.d.queues[k].cells:=by simp[dt,hx]
  have hklt:((k:Int)<(p.d.queues.length:Int))=True:=by simp;exact hk
  have hnext:pre++(p.d.queues.take (k+1)).flatMap wQu=out++wQu p.d.queues[k]:=by rw[hout,iN _ hk,K9]
  have hcnt:(out++wQu p.d.queues[k]).length≤pre.length+(p.d.queues.flatMap wQu).length:=by
   rw[←hnext,K5];have:=eB wQu (l:=p.d.queues) (k:=k+1)
   omega
  rw[K5]at hcnt;have hof:=hO.fits out;have hrel:=hO.rel;generalize p.d.queues[k]=x at hx hg hnext hcnt;simp only[wQu,K7,L4]at hcnt hnext;simp only[vqM,jE,zA,zM,zL,zB,aI,hklt,decide_true,natle0,K3,hg,hof,ic1,icc,ab,K5,bC];refine aB (by omega) ?_;simp only[vqM,hrel,ay];rw[ap (by omega)];refine ae [1,3,4] ?_;simp only[vke,zB,zA];exact ihl _ _ ⟨_,_,_,_,_,.mk (by have:=hO.le;omega),by first|exact hnext.symm|(rw[hnext];simp only[K9,Ob,Oe]),rfl,rfl⟩
 ·rintro e s ⟨o,L1,c1,out,X,hO,hout4,rfl,rfl⟩;have hklt:((p.d.queues.length:Int)<(p.d.queues.length:Int))=False:=by simp
  rw[N6,hpre]at hout4;clear hpre;have hol:=congrArg Qh hout4;simp only[K5,K7,L4]at hol;have hof:=hO.fits out;have hrel:=hO.rel;have hle0:=hO.le;simp only[vqM,jE,zA,zB,aI,hklt,decide_false];refine aa (tZ _ (by omega) _) ?_;simp only[vqM,jE,zA,zL,hof,ab,bC];refine aB (by omega) ?_;simp only[vqM,jE,zA,zM,zL,aw,hrel,ic1,icc,ab,K5,bC,cC,ay];refine aB (by omega) ?_;simp only[vqM,jE,zB,aw,No,ay];refine ae [1,3,6] ?_;simp only[vke,zB,zA];obtain⟨pre,hpre⟩:∃pre:List Int,pre=out++(wIs p.d.sinks++[p.d.locks,p.d.parts,p.d.firms,(p.heads.length:Int)]):=⟨_,rfl⟩;have hprl:=congrArg Qh hpre;simp only[K5,K7,L4]at hprl;rw[←hpre];refine aE aA p.heads.length (λk e s=>∃o L1 c1 out X,OwW L c o L1 c1∧out=pre++(p.heads.take k).flatMap wHd∧e=[J,.box B.length 0,J,.slice o (aj out),J,J,.int .i64 (k:Int),J,J,J,J,J,J,J,J,J,J,J,J,J,J,J,J,J,J,J,J,J,J,J,J,J,J,J,J,J,J,J,J,J,J,J,J,J,J,J,J,J,J,J,J,J,J,J,J,J,J,J,J,J,J,J,J,J,J,J,J,J,J,J,J,J,J,J,J,J,J,J,J,J,J,J,J,J,J,J,J,J,J,J,J,J,J,J,J,J,J,J,J,J,J,J,J,J,J,J,J,J,J,J,J,J,J,J,J,J,J,J,J,J,J,J,J,J,J,J,J,J,J,J]∧s=⟨B++.cells p.cells::X,L1,c1⟩) ?_ ?_ 0 _ _ (L7 _) ⟨_,_,_,pre,X,.mk (by omega),by simp,rfl,rfl⟩
  ·clear hpre;rintro k e s hk ⟨o,L1,c1,out,X,hO,hout,rfl,rfl⟩ ihl;have hx:p.heads[k]?=Sd p.heads[k]:=K4 hk;have hg:(aO p.heads)[k]?=Sd p.heads[k].cells:=by simp[aO,hx]
   have hklt:((k:Int)<(p.heads.length:Int))=True:=by simp;exact hk
   have hnext:pre++(p.heads.take (k+1)).flatMap wHd=out++wHd p.heads[k]:=by rw[hout,iN _ hk,K9]
   have hcnt:(out++wHd p.heads[k]).length≤pre.length+(p.heads.flatMap wHd).length:=by
    rw[←hnext,K5];have:=eB wHd (l:=p.heads) (k:=k+1)
    omega
   rw[K5]at hcnt;have hof:=hO.fits out;have hrel:=hO.rel;generalize p.heads[k]=x at hx hg hnext hcnt;simp only[wHd,K5,K7,L4]at hcnt hnext;simp only[vqM,jE,zA,zM,zL,zB,aw,hklt,decide_true,natle0,K3,hg,hof,ic1,icc,ab,K5,bC];refine aB (by omega) ?_;simp only[vqM,jE,zA,hrel,ay];refine aa (gq _ (by omega) _) ?_;simp only[vqM,jE,zA,zL,ab,K5,bC,cC];refine aB (by omega) ?_;simp only[vqM,jE,zA,No,ay];refine aa (gq _ (by omega) _) ?_;simp only[vqM,jE,zA,zL,ab,K5,bC,cC];refine aB (by omega) ?_;simp only[vqM,jE,No,ay];rw[ap (by omega)];refine ae [1,3,6] ?_;simp only[vke,zB,zA];exact ihl _ _ ⟨_,_,_,_,_,.mk (by have:=hO.le;omega),by first|exact hnext.symm|(rw[hnext];simp only[K9,Ob,Oe]),rfl,rfl⟩
  ·rintro e s ⟨o,L1,c1,out,X,hO,hout6,rfl,rfl⟩;have hklt:((p.heads.length:Int)<(p.heads.length:Int))=False:=by simp
   rw[N6,hpre]at hout6;clear hpre;have hol:=congrArg Qh hout6;simp only[K5,K7,L4]at hol;have hof:=hO.fits out;have hrel:=hO.rel;have hle0:=hO.le;simp only[vqM,jE,zA,zM,zL,zB,aw,hklt,decide_false,hof,ic1,ab,bC];refine aB (by omega) ?_;simp only[vqM,zB,ah,hrel,ay];refine ae [1,3,8] ?_;simp only[vke,zB,zA];obtain⟨pre,hpre⟩:∃pre:List Int,pre=out++[(p.defs.length:Int)]:=⟨_,rfl⟩;have hprl:=congrArg Qh hpre;simp only[K5,K7,L4]at hprl;rw[←hpre];refine aE aA p.defs.length (λk e s=>∃o L1 c1 out X,OwW L c o L1 c1∧out=pre++(p.defs.take k).flatMap wDf∧e=[J,.box B.length 0,J,.slice o (aj out),J,J,J,J,.int .i64 (k:Int),J,J,J,J,J,J,J,J,J,J,J,J,J,J,J,J,J,J,J,J,J,J,J,J,J,J,J,J,J,J,J,J,J,J,J,J,J,J,J,J,J,J,J,J,J,J,J,J,J,J,J,J,J,J,J,J,J,J,J,J,J,J,J,J,J,J,J,J,J,J,J,J,J,J,J,J,J,J,J,J,J,J,J,J,J,J,J,J,J,J,J,J,J,J,J,J,J,J,J,J,J,J,J,J,J,J,J,J,J,J,J,J,J,J,J,J,J,J,J,J,J]∧s=⟨B++.cells p.cells::X,L1,c1⟩) ?_ ?_ 0 _ _ (L7 _) ⟨_,_,_,pre,X,.mk (by omega),by simp,rfl,rfl⟩
   ·clear hpre;rintro k e s hk ⟨o,L1,c1,out,X,hO,hout,rfl,rfl⟩ ihl;have hx:p.defs[k]?=Sd p.defs[k]:=K4 hk;have hg:(ax p.defs)[k]?=Sd p.defs[k].cells:=by simp[ax,hx]
    have hklt:((k:Int)<(p.defs.length:Int))=True:=by simp;exact hk
    have hnext:pre++(p.defs.take (k+1)).flatMap wDf=out++wDf p.defs[k]:=by rw[hout,iN _ hk,K9]
    have hcnt:(out++wDf p.defs[k]).length≤pre.length+(p.defs.flatMap wDf).length:=by
     rw[←hnext,K5];have:=eB wDf (l:=p.defs) (k:=k+1)
     omega
    rw[K5]at hcnt;have hof:=hO.fits out;have hrel:=hO.rel;generalize p.defs[k]=x at hx hg hnext hcnt;simp only[vqM,jE,zA,zB,ah,hklt,decide_true,natle0,K3,hg];refine aa (wQ _ (by omega) _) ?_;simp only[vqM,jE,zA,zL,hof,ab,bC];refine aB (by omega) ?_;simp only[vqM,hrel,ay];rw[ap (by omega)];refine ae [1,3,8] ?_;simp only[vke,zB,zA];exact ihl _ _ ⟨_,_,_,_,_,.mk (by have:=hO.le;omega),by first|exact hnext.symm|(rw[hnext];simp only[K9,Ob,Oe]),rfl,rfl⟩
   ·rintro e s ⟨o,L1,c1,out,X,hO,hout8,rfl,rfl⟩;have hklt:((p.defs.length:Int)<(p.defs.length:Int))=False:=by simp
    rw[N6,hpre]at hout8;clear hpre;have hol:=congrArg Qh hout8;simp only[K5,K7,L4]at hol;have hof:=hO.fits out;have hrel:=hO.rel;have hle0:=hO.le;simp only[vqM,jE,zA,zB,ah,hklt,decide_false];refine aa (tZ _ (by omega) _) ?_;simp only[vqM,jE,zA,zL,hof,ab,bC];refine aB (by omega) ?_;simp only[vqM,hrel,ay];refine ao (.inr rfl) ?_ (cq _) (λ_ h=>OG _ h) (by omega);simp only[vqM];rw[hout8,hout6,hout4,wPg];simp only[K9,Ob,Oe]
theorem gQ(x y:Pg)(hx:(wPg x).length≤1000000)(hy:(wPg y).length≤1000000)(s:St):az Si 57 [.agg x.cells,.agg y.cells] s (.bool (decide (wPg x=wPg y))) s:=by
 obtain⟨B,L,c⟩:=s;refine az.introN [(1,.text [Se,Sh,Se,Sh,Sh,Se] [(2,0)])] func57 rfl (by decide) aA (by kernel_rfl) [Sy 4] 10 rfl rfl ?_;simp only[vqM,zA,zS,zB,bK];refine aa (qE _ hx _) ?_;simp only[vqM,bK];refine aa (qE _ hy _) ?_;simp only[vqM];refine aa (ky _ _ _) ?_;simp only[vqM,bK];refine SB ?_ (.bool _);simp only[vqM]
mutual
def Ex.eqb:Ex→Ex→Bool
 |.mk o n v a,.mk o' n' v' a'=>decide (o=o')&&decide (n=n')&&decide (v=v')&&Ex.eqbs a a'
def Ex.eqbs:List Ex→List Ex→Bool
 | [],[]=>Sh
 |x::l,y::m=>Ex.eqb x y&&Ex.eqbs l m
 |_,_=>Se
end
mutual
theorem Ex.eqb_iff:∀x y:Ex,Ex.eqb x y=Sh↔x=y
 |.mk o n v a,.mk o' n' v' a'=>by simp only[Ex.eqb,M1,decide_eq_true_eq,Ex.eqbs_iff a a',Ex.mk.injEq,and_assoc]
theorem Ex.eqbs_iff:∀l m:List Ex,Ex.eqbs l m=Sh↔l=m
 | [],[]=>by simp[Ex.eqbs]
 | [],_::_=>by simp[Ex.eqbs]
 |_::_,[]=>by simp[Ex.eqbs]
 |x::l,y::m=>by simp only[Ex.eqbs,M1,Ex.eqb_iff x y,Ex.eqbs_iff l m,QM.injEq]
end
instance:DecidableEq Ex:=λa b=>decidable_of_iff _ (Ex.eqb_iff a b)
mutual
def Co.eqb:Co→Co→Bool
 |.mk o a c,.mk o' a' c'=>decide (o=o')&&decide (a=a')&&Co.eqbs c c'
def Co.eqbs:List Co→List Co→Bool
 | [],[]=>Sh
 |x::l,y::m=>Co.eqb x y&&Co.eqbs l m
 |_,_=>Se
end
mutual
theorem Co.eqb_iff:∀x y:Co,Co.eqb x y=Sh↔x=y
 |.mk o a c,.mk o' a' c'=>by simp only[Co.eqb,M1,decide_eq_true_eq,Co.eqbs_iff c c',Co.mk.injEq,and_assoc]
theorem Co.eqbs_iff:∀l m:List Co,Co.eqbs l m=Sh↔l=m
 | [],[]=>by simp[Co.eqbs]
 | [],_::_=>by simp[Co.eqbs]
 |_::_,[]=>by simp[Co.eqbs]
 |x::l,y::m=>by simp only[Co.eqbs,M1,Co.eqb_iff x y,Co.eqbs_iff l m,QM.injEq]
end
instance:DecidableEq Co:=λa b=>decidable_of_iff _ (Co.eqb_iff a b)
mutual
def Sm.eqb:Sm→Sm→Bool
 |.mk s o n m v x y c g p b e,.mk s' o' n' m' v' x' y' c' g' p' b' e'=>decide (s=s')&&decide (o=o')&&decide (n=n')&&decide (m=m')&&decide (v=v')&&decide (x=x')&&decide (y=y')&&decide (c=c')&&decide (g=g')&&decide (p=p')&&Sm.eqbs b b'&&Sm.eqbs e e'
def Sm.eqbs:List Sm→List Sm→Bool
 | [],[]=>Sh
 |x::l,y::m=>Sm.eqb x y&&Sm.eqbs l m
 |_,_=>Se
end
mutual
theorem Sm.eqb_iff:∀x y:Sm,Sm.eqb x y=Sh↔x=y
 |.mk s o n m v x y c g p b e,.mk s' o' n' m' v' x' y' c' g' p' b' e'=>by simp only[Sm.eqb,M1,decide_eq_true_eq,Sm.eqbs_iff b b',Sm.eqbs_iff e e',Sm.mk.injEq,and_assoc]
theorem Sm.eqbs_iff:∀l m:List Sm,Sm.eqbs l m=Sh↔l=m
 | [],[]=>by simp[Sm.eqbs]
 | [],_::_=>by simp[Sm.eqbs]
 |_::_,[]=>by simp[Sm.eqbs]
 |x::l,y::m=>by simp only[Sm.eqbs,M1,Sm.eqb_iff x y,Sm.eqbs_iff l m,QM.injEq]
end
instance:DecidableEq Sm:=λa b=>decidable_of_iff _ (Sm.eqb_iff a b)
theorem Ar.eq_iff(a b:Ar):(a.len=b.len∧a.of=b.of)↔a=b:=by cases a;cases b;simp
instance:DecidableEq Ar:=λa b=>decidable_of_iff _ (Ar.eq_iff a b)
theorem Hd.eq_iff(a b:Hd):(a.id=b.id∧a.firm=b.firm∧a.part=b.part∧a.params=b.params∧a.given=b.given)↔a=b:=by cases a;cases b;simp
instance:DecidableEq Hd:=λa b=>decidable_of_iff _ (Hd.eq_iff a b)
theorem Df.eq_iff(a b:Df):(a.id=b.id∧a.site=b.site∧a.name=b.name∧a.firm=b.firm∧a.part=b.part∧a.params=b.params∧a.given=b.given∧a.vars=b.vars∧a.refs=b.refs∧a.arrays=b.arrays∧a.budget=b.budget∧a.body=b.body)↔a=b:=by cases a;cases b;simp
instance:DecidableEq Df:=λa b=>decidable_of_iff _ (Df.eq_iff a b)
structure En where
 head:Bool
 opn:Bool
 h:Hd
 d:Df
 decl:Dc
 threads:List Int
def En.cells(x:En):List D:=[.bool x.head,.bool x.opn]++(x.h.cells++(x.d.cells++(x.decl.cells++([.slice .none (aj x.threads)]))))
theorem En.cells_len(x:En):x.cells.length=27:=rfl
theorem En.plain(x:En):x.cells.map D.plain1=x.cells:=rfl
theorem En.keep1(x:En):x.cells.map D.keep1=x.cells:=rfl
theorem En.t_d(x:En):(x.cells.drop 7).take 12=x.d.cells:=rfl
theorem En.f_d_id(x:En):(x.cells.drop 7)[0]?=Sd (.int .i64 x.d.id):=rfl
theorem En.f_d_site(x:En):(x.cells.drop 8)[0]?=Sd (.int .i64 x.d.site):=rfl
theorem En.f_d_name(x:En):(x.cells.drop 9)[0]?=Sd (.str x.d.name):=rfl
theorem En.f_d_firm(x:En):(x.cells.drop 10)[0]?=Sd (.int .i64 x.d.firm):=rfl
theorem En.f_d_part(x:En):(x.cells.drop 11)[0]?=Sd (.int .i64 x.d.part):=rfl
theorem En.f_d_params(x:En):(x.cells.drop 12)[0]?=Sd (.slice .none (aN x.d.params)):=rfl
theorem En.f_d_given(x:En):(x.cells.drop 13)[0]?=Sd (.slice .none (aN x.d.given)):=rfl
theorem En.f_d_vars(x:En):(x.cells.drop 14)[0]?=Sd (.int .i64 x.d.vars):=rfl
theorem En.f_d_refs(x:En):(x.cells.drop 15)[0]?=Sd (.int .i64 x.d.refs):=rfl
theorem En.f_d_arrays(x:En):(x.cells.drop 16)[0]?=Sd (.slice .none (cy x.d.arrays)):=rfl
theorem En.f_d_budget(x:En):(x.cells.drop 17)[0]?=Sd (.int .i64 x.d.budget):=rfl
theorem En.f_d_body(x:En):(x.cells.drop 18)[0]?=Sd (.slice .none (Sm.encs x.d.body)):=rfl
theorem En.f_threads(x:En):(x.cells.drop 26)[0]?=Sd (.slice .none (aj x.threads)):=rfl
def En.encs(l:List En):List (List D):=l.map En.cells
structure Mg where
 p:Pg
 c:List Int
 e:Int
def Mg.cells(x:Mg):List D:=x.p.cells++([.slice .none (aj x.c),.int .i64 x.e])
theorem Mg.cells_len(x:Mg):x.cells.length=12:=rfl
theorem Mg.plain(x:Mg):x.cells.map D.plain1=x.cells:=rfl
theorem Mg.keep1(x:Mg):x.cells.map D.keep1=x.cells:=rfl
theorem Mg.f_c(x:Mg):(x.cells.drop 10)[0]?=Sd (.slice .none (aj x.c)):=rfl
def Mg.encs(l:List Mg):List (List D):=l.map Mg.cells
structure Cg where
 kind:Int
 pos:Int
 n:Int
def Cg.cells(x:Cg):List D:=[.int .u8 x.kind,.int .u8 x.pos,.int .u8 x.n]
theorem Cg.cells_len(x:Cg):x.cells.length=3:=rfl
theorem Cg.plain(x:Cg):x.cells.map D.plain1=x.cells:=rfl
theorem Cg.keep1(x:Cg):x.cells.map D.keep1=x.cells:=rfl
theorem Cg.f_n(x:Cg):(x.cells.drop 2)[0]?=Sd (.int .u8 x.n):=rfl
def Cg.encs(l:List Cg):List (List D):=l.map Cg.cells
def Dc.zero:Dc:=⟨[],[],[],[],0,0,0⟩
def Pg.zero:Pg:=⟨Dc.zero,[],[],[]⟩
def En.zero:En:=⟨Se,Se,Hd.zero,Df.zero,Dc.zero,[]⟩
def seHd(x y:Hd):Bool:=decide (x.id=y.id)&&(decide (x.firm=y.firm)&&(decide (x.part=y.part)&&(decide (x.params=y.params)&&decide (x.given=y.given))))
theorem JL(x y:Hd):seHd x y=decide (x=y):=by cases x;cases y;simp[seHd]
theorem Small.sl{cs:List D}{o:Own}{xs:List (List D)}(h:Small (.agg cs))(hm:D.slice o xs∈cs):xs.length≤281474976710656:=by
 cases h with
 |agg _ h=>exact(h _ hm).len
theorem Rg.eqN_iff(a b:Rg):(a.lo=b.lo∧a.hi=b.hi∧a.mask=b.mask)↔a=b:=by cases a;cases b;simp
theorem uB(l m:List Rg)(s:St):az Si 73 [.slice .none (aN l),.slice .none (aN m)] s (.bool (decide (l=m))) s:=by
 refine az.small λhsm=>?_;have hlen:=(hsm _ (.head _)).len;rw[au]at hlen;clear hsm;obtain⟨B,L,c⟩:=s;refine az.introN [] func73 rfl (by decide) aA (by kernel_rfl) [Sy 4] 26 rfl rfl ?_;simp only[vqM,jk,zA,zS,au];refine am (λhc=>?_) (λhc=>?_)
 ·simp only[vqM];refine SC ?_ (.bool _);have:l≠m:=by rintro rfl;simp at hc
  simp only[vqM];rw[decide_eq_false this]
 have hll:l.length=m.length:=by simp at hc;omega
 simp only[vqM];refine ae [0,1,5] ?_;simp only[vke,zB,zA];refine aE aA l.length (λk e s=>l.take k=m.take k∧e=[.slice .none (aN l),.slice .none (aN m),J,J,J,.int .i64 (k:Int),J,J,J,J,J,J,J,J,J,J,J,J,J,J,J,J,J,J,J,J]∧s=⟨B,L,c⟩) ?_ ?_ 0 _ _ (L7 _) ⟨rfl,rfl,rfl⟩
 ·rintro k e s hk ⟨hI,rfl,rfl⟩ ihl;have hkm:k<m.length:=by omega
  have hx:l[k]?=Sd l[k]:=K4 hk;have hy:m[k]?=Sd m[k]:=K4 hkm;have hg:(aN l)[k]?=Sd (l[k].cells):=by simp[aN,hx]
  have hh:(aN m)[k]?=Sd (m[k].cells):=by simp[aN,hy]
  have hklt:((k:Int)<(l.length:Int))=True:=by simp;exact hk
  generalize l[k]=xx at hx hg;generalize m[k]=yy at hy hh;simp only[vqM,jk,au,hklt,decide_true,natle0,K3,hg,hh];refine am (λhc=>?_) (λhc=>?_)
  ·simp only[vqM];refine SC ?_ (.bool _);have:l≠m:=by
    rintro rfl;rw[hx]at hy;cases hy;simp at hc
   simp only[vqM];rw[decide_eq_false this]
  ·simp only[vqM];rw[ap (by omega)];refine ae [0,1,5] ?_;simp only[vke,zB,zA];have hc':xx=yy:=(Rg.eqN_iff xx yy).1 (by simpa using hc);subst hc';refine ihl _ _ ⟨?_,rfl,rfl⟩;rw[N4,N4,hx,hy,hI]
 ·rintro e s ⟨hI,rfl,rfl⟩;have hklt:((l.length:Int)<(l.length:Int))=False:=by simp
  rw[N6,hll,N6]at hI;simp only[vqM,jk,au,hklt,decide_false];refine SC ?_ (.bool _);simp only[vqM];rw[decide_eq_true hI]
theorem jo(x y:Hd)(s:St):az Si 24 [.agg x.cells,.agg y.cells] s (.bool (decide (x=y))) s:=by
 obtain⟨B,L,c⟩:=s;rw[←JL];refine az.introN [] func24 rfl (by decide) aA (by kernel_rfl) [Sy 4] 38 rfl rfl ?_;simp only[vqM,tf3,eo,dZ,bS,zA,zS];repeat' (first
  |((with_reducible refine aG ?_);refine aa (uB _ _ _) ?_;simp only[vqM])
  |(with_reducible refine am (λhc=>?_) (λhc=>?_)<;>simp only[vqM,tf3,eo,dZ,bS,hc,zA])
  |((with_reducible refine di ?_);refine SB ?_ (.bool _)<;>(try simp only[vqM])<;>(first|(simp only[seHd, *,K8,M7,N2];done)|(simp_all[seHd];done)|(simp_all[seHd];omega))))
theorem fR(n a b:Int)(s:St):az Si 145 [.int .i64 n,.int .i64 a,.int .i64 b] s (.bool (inB n a b)) s:=by
 obtain⟨B,L,c⟩:=s;refine az.introN [] func145 rfl (by decide) aA (by kernel_rfl) [Sy 6] 15 rfl rfl ?_;simp only[vqM,zA,zS];repeat' (first
  |(with_reducible refine am (λhc=>?_) (λhc=>?_)<;>simp only[vqM,hc])
  |((with_reducible refine di ?_);refine SC ?_ (.bool _)<;>(try simp only[vqM])<;>(first|(simp only[inB, *,K8,M7];done)|(simp_all[inB];done)|(simp_all[inB];omega))))
theorem yO(r:Rg)(s:St):az Si 146 [.agg r.cells] s (.bool (aR r)) s:=by
 obtain⟨B,L,c⟩:=s;refine az.introN [] func146 rfl (by decide) aA (by kernel_rfl) [Sy 2] 23 rfl rfl ?_;simp only[vqM,tf3,bS,zA,zS];repeat' (first
  |((with_reducible refine aG ?_);refine aa (fR _ _ _ _) ?_;simp only[vqM])
  |(with_reducible refine am (λhc=>?_) (λhc=>?_)<;>simp only[vqM,tf3,bS,hc,zA])
  |((with_reducible refine di ?_);refine SB ?_ (.bool _)<;>(try simp only[vqM])<;>(first|(simp only[aR,inB, *,K8,M7,N5,N2];done)|(simp_all[aR,inB];done)|(simp_all[aR,inB];omega))))
theorem l3(l:List Rg)(n:Int)(s:St):az Si 144 [.slice .none (aN l),.int .i64 n] s (.bool (bA l n aR)) s:=by
 refine az.small λhsm=>?_;have hlen:=(hsm _ (.head _)).len;rw[au]at hlen;clear hsm;obtain⟨B,L,c⟩:=s;refine az.introN [] func144 rfl (by decide) aA (by kernel_rfl) [Sy 4] 22 rfl rfl ?_;simp only[vqM,zA,zS];refine ae [0,1,5] ?_;simp only[vke,zB,zA];refine aE aA l.length (λk e s=>(∀z∈l.take k,aR z=Sh)∧e=[.slice .none (aN l),.int .i64 n,J,J,J,.int .i64 (k:Int),J,J,J,J,J,J,J,J,J,J,J,J,J,J,J,J]∧s=⟨B,L,c⟩) ?_ ?_ 0 _ _ (L7 _) ⟨λz h=>by simp at h,rfl,rfl⟩
 ·rintro k e s hk ⟨hI,rfl,rfl⟩ ihl;have hx:l[k]?=Sd l[k]:=K4 hk;have hg:(aN l)[k]?=Sd (l[k].cells):=by simp[aN,hx]
  have hklt:((k:Int)<(l.length:Int))=True:=by simp;exact hk
  have hxm:l[k]∈l:=NY hk;generalize l[k]=xx at hx hg hxm;simp only[vqM,tf3,tf4,eo,bS,au,hklt,decide_true,natle0,K3,hg];refine aa (yO _ _) ?_;simp only[vqM];refine am (λhc=>?_) (λhc=>?_)
  ·have hb:aR xx=Se:=by simpa using hc
   simp only[vqM];refine SC ?_ (.bool _);simp only[vqM];have:l.all aR=Se:=O4.2 ⟨xx,hxm,by simp[hb]⟩
   rw[bA,this,N2]
  ·have hb:aR xx=Sh:=by simpa using hc
   simp only[vqM];rw[ap (by omega)];refine ae [0,1,5] ?_;simp only[vke,zB,zA];refine ihl _ _ ⟨λz hz=>?_,rfl,rfl⟩;rw[N4,hx]at hz;rcases Od.1 hz with hz|hz
   ·exact hI z hz
   ·simp at hz;subst hz;exact hb
 ·rintro e s ⟨hI,rfl,rfl⟩;have hklt:((l.length:Int)<(l.length:Int))=False:=by simp
  rw[N6]at hI;simp only[vqM,tf3,tf4,eo,bS,au,hklt,decide_false];refine SC ?_ (.bool _);simp only[vqM];rw[bA,N0.2 hI,N5]
def rN(d:Dc):Bool:=!bA d.globals 8 aR ||(!bA d.classes 8 aR ||(decide (8<(d.sinks.length:Int)) ||(decide (4<(d.queues.length:Int)) ||(!inB d.locks 0 8 ||(!inB d.parts 1 16 || !inB d.firms 1 8)))))
theorem JD(d:Dc)(s:St):az Si 95 [.agg d.cells] s (.int .i64 (if declB d then 0 else 60)) s:=by
 refine az.small λhsm=>?_;have hlen:(dt d.queues).length≤281474976710656:=(hsm _ (.head _)).sl (o:=.none) (by cases d;simp[Dc.cells]);have hlen2:(aj d.sinks).length≤281474976710656:=(hsm _ (.head _)).sl (o:=.none) (by cases d;simp[Dc.cells]);rw[aI]at hlen;rw[ab]at hlen2;clear hsm;obtain⟨B,L,c⟩:=s;refine az.introN [(1,.cut),(6,.cut)] func95 rfl (by decide) aA (by kernel_rfl) [Sy 2] 84 rfl rfl ?_;simp only[vqM,zA,zS,zB];refine bv aA [1,44] [J,.box B.length 0,J,J,J,J,J,J,J,J,J,J,J,J,J,J,J,J,J,J,J,J,J,J,J,J,J,J,J,J,J,J,J,J,J,J,J,J,J,J,J,J,J,J,.bool (rN d),J,J,J,J,J,J,J,J,J,J,J,J,J,J,J,J,J,J,J,J,J,J,J,J,J,J,J,J,J,J,J,J,J,J,J,J,J,J,J] (λs=>s=⟨B++[.cells d.cells],L,c⟩) ?_ ?_
 ·simp only[vqM,vt78,zA];repeat' (first
   |((with_reducible refine aG ?_);refine aa (l3 _ _ _) ?_;simp only[vqM])
   |((with_reducible refine aG ?_);refine aa (fR _ _ _ _) ?_;simp only[vqM])
   |(with_reducible refine am (λhc=>?_) (λhc=>?_)<;>simp only[vqM,vt78,hc,zA,aI,ab])
   |((with_reducible refine di ?_);refine aD ⟨?_,rfl⟩<;>simp only[vke,zB,zA]<;>(first|(simp only[rN, *,M6,L5,NW];done)|(simp_all[rN];done)|(simp_all[rN];omega))))
 rintro s rfl;simp only[vqM];have hdcl:declB d=(!rN d&&(d.queues.all jz&&d.sinks.all (inB · 0 255))):=by
  simp only[declB,rN,bA,Q1,QI,Int.not_lt,←decide_not];rw[O9];simp only[M1,decide_eq_true_eq];constructor
  ·rintro⟨⟨⟨⟨⟨⟨h1,h2⟩,h3⟩,h4⟩,h5⟩,h6⟩,h7⟩;exact⟨⟨h1,h2,h4.1,h3.1,h5,h6,h7⟩,h3.2,h4.2⟩
  ·rintro⟨⟨h1,h2,h4,h3,h5,h6,h7⟩,h8,h9⟩;exact⟨⟨⟨⟨⟨⟨h1,h2⟩,h3,h8⟩,h4,h9⟩,h5⟩,h6⟩,h7⟩
 refine am (λhc=>?_) (λhc=>?_)
 ·simp only[vqM,zB];refine SB ?_ (.int _ _);simp only[vqM];rw[hdcl,hc];rfl
 rw[hc,NZ,K8]at hdcl;simp only[vqM,zB];refine ae [1,3] ?_;simp only[vke,zB,zA];refine aE aA d.queues.length (λk e s=>(∀z∈d.queues.take k,jz z=Sh)∧e=[J,.box B.length 0,J,.int .i64 (k:Int),J,J,J,J,J,J,J,J,J,J,J,J,J,J,J,J,J,J,J,J,J,J,J,J,J,J,J,J,J,J,J,J,J,J,J,J,J,J,J,J,J,J,J,J,J,J,J,J,J,J,J,J,J,J,J,J,J,J,J,J,J,J,J,J,J,J,J,J,J,J,J,J,J,J,J,J,J,J,J,J]∧s=⟨B++[.cells d.cells],L,c⟩) ?_ ?_ 0 _ _ (L7 _) ⟨λz h=>by simp at h,rfl,rfl⟩
 ·rintro k e s hk ⟨hI,rfl,rfl⟩ ihl;have hx:d.queues[k]?=Sd d.queues[k]:=K4 hk;have hg:(dt d.queues)[k]?=Sd (d.queues[k].cells):=by simp[dt,hx]
  have hklt:((k:Int)<(d.queues.length:Int))=True:=by simp;exact hk
  have hxm:d.queues[k]∈d.queues:=NY hk;generalize d.queues[k]=xx at hx hg hxm;simp only[vqM,vt78,zA,zB,aI,hklt,decide_true];refine bv aA [1,3,69] [J,.box B.length 0,J,.int .i64 (k:Int),J,J,J,J,J,J,J,J,J,J,J,J,J,J,J,J,J,J,J,J,J,J,J,J,J,J,J,J,J,J,J,J,J,J,J,J,J,J,J,J,J,J,J,J,J,J,J,J,J,J,J,J,J,J,J,J,J,J,J,J,J,J,J,J,J,.bool (!jz xx),J,J,J,J,J,J,J,J,J,J,J,J,J,J] (λs=>s=⟨B++[.cells d.cells],L,c⟩) ?_ ?_
  ·simp only[vqM,vt78,zA,zS,natle0,K3,hg];repeat' (first
    |((with_reducible refine aG ?_);refine aa (yO _ _) ?_;simp only[vqM])
    |((with_reducible refine aG ?_);refine aa (fR _ _ _ _) ?_;simp only[vqM])
    |(with_reducible refine am (λhc=>?_) (λhc=>?_)<;>simp only[vqM,vt78,hc,zA,natle0,K3,hg])
    |((with_reducible refine di ?_);refine aD ⟨?_,rfl⟩<;>simp only[vke,zB,zA]<;>(first|(simp only[jz, *];done)|(simp_all[jz];done)|(simp_all[jz];omega))))
  rintro s rfl;simp only[vqM];refine am (λhc=>?_) (λhc=>?_)
  ·have hb:jz xx=Se:=by simpa using hc
   simp only[vqM,zB];refine SB ?_ (.int _ _);simp only[vqM];have:d.queues.all jz=Se:=O4.2 ⟨xx,hxm,by simp[hb]⟩
   rw[hdcl,this];rfl
  ·have hb:jz xx=Sh:=by simpa using hc
   simp only[vqM];rw[ap (by omega)];refine ae [1,3] ?_;simp only[vke,zB,zA];refine ihl _ _ ⟨λz hz=>?_,rfl,rfl⟩;rw[N4,hx]at hz;rcases Od.1 hz with hz|hz
   ·exact hI z hz
   ·simp at hz;subst hz;exact hb
 ·rintro e s ⟨hI,rfl,rfl⟩;have hklt:((d.queues.length:Int)<(d.queues.length:Int))=False:=by simp
  rw[N6]at hI;simp only[vqM,vt78,zA,zB,aI,hklt,decide_false];have hq:d.queues.all jz=Sh:=N0.2 hI;rw[hq,K8]at hdcl;clear hI hklt;refine ae [1,4] ?_;simp only[vke,zB,zA];refine aE aA d.sinks.length (λk e s=>(∀z∈d.sinks.take k,inB z 0 255=Sh)∧e=[J,.box B.length 0,J,J,.int .i64 (k:Int),J,J,J,J,J,J,J,J,J,J,J,J,J,J,J,J,J,J,J,J,J,J,J,J,J,J,J,J,J,J,J,J,J,J,J,J,J,J,J,J,J,J,J,J,J,J,J,J,J,J,J,J,J,J,J,J,J,J,J,J,J,J,J,J,J,J,J,J,J,J,J,J,J,J,J,J,J,J,J]∧s=⟨B++[.cells d.cells],L,c⟩) ?_ ?_ 0 _ _ (L7 _) ⟨λz h=>by simp at h,rfl,rfl⟩
  ·rintro k e s hk ⟨hI,rfl,rfl⟩ ihl;have hx:d.sinks[k]?=Sd d.sinks[k]:=K4 hk;have hg:(aj d.sinks)[k]?=Sd ([.int .i64 d.sinks[k]]):=by simp[aj,hx]
   have hklt:((k:Int)<(d.sinks.length:Int))=True:=by simp;exact hk
   have hxm:d.sinks[k]∈d.sinks:=NY hk;generalize d.sinks[k]=xx at hx hg hxm;simp only[vqM,vt78,zA,zB,ab,hklt,decide_true,natle0,K3,hg];refine aa (fR _ _ _ _) ?_;simp only[vqM];refine am (λhc=>?_) (λhc=>?_)
   ·have hb:inB xx 0 255=Se:=by simpa using hc
    simp only[vqM,zB];refine SB ?_ (.int _ _);simp only[vqM];have:d.sinks.all (inB · 0 255)=Se:=O4.2 ⟨xx,hxm,by simp[hb]⟩
    rw[hdcl,this];rfl
   ·have hb:inB xx 0 255=Sh:=by simpa using hc
    simp only[vqM];rw[ap (by omega)];refine ae [1,4] ?_;simp only[vke,zB,zA];refine ihl _ _ ⟨λz hz=>?_,rfl,rfl⟩;rw[N4,hx]at hz;rcases Od.1 hz with hz|hz
    ·exact hI z hz
    ·simp at hz;subst hz;exact hb
  ·rintro e s ⟨hI,rfl,rfl⟩;have hklt:((d.sinks.length:Int)<(d.sinks.length:Int))=False:=by simp
   rw[N6]at hI;simp only[vqM,vt78,zA,zB,ab,hklt,decide_false];refine SB ?_ (.int _ _);simp only[vqM];have:d.sinks.all (inB · 0 255)=Sh:=N0.2 hI
   rw[hdcl,this];rfl
def sizeR(r:Int×Bool):Int:=if r.2 then r.1 else -1
theorem Eo{a:List Ex}{d:Int}(h:10<d):fG a d=Se:=by
 have:decide (d≤10)=Se:=decide_eq_false (by omega)
 rw[fG,this,N2]
theorem mf(k:Ck)(e:Ex){d:Int}(h:10<d):(exprS k e d).2=Se:=by
 obtain⟨op,n,v,a⟩:=e;simp only[exprS,Eo h];have h10:(10≤d)=True:=eq_true (by omega);repeat' split
 all_goals first
  |rfl
  |simp_all
theorem vO:∀d,1≤il d
 |0=>by simp[il]
 |d+1=>by have:=vO d;simp only[il];omega
theorem zf:∀d,d≤10→il d≤2047:=by decide
theorem HY(k:Ck)(x y:Ex)(d:Int)(hx:(exprS k x d).2=Sh→1≤(exprS k x d).1∧(exprS k x d).1≤3000)(hy:(exprS k y d).2=Sh→1≤(exprS k y d).1∧(exprS k y d).1≤3000) :
  exprsS k [x,y] d 1=if (exprS k x d).2=Sh∧(exprS k y d).2=Sh then(1+(exprS k x d).1+(exprS k y d).1,Sh)else(0,Se):=by
 simp only[exprsS];cases h1:(exprS k x d).2 with
 |false=>simp
 |true =>
  have b1:=hx h1;rw[bJ (n:=1+(exprS k x d).1) (by omega)];cases h2:(exprS k y d).2 with
  |false=>simp
  |true =>
   have b2:=hy h2;rw[bJ (n:=1+(exprS k x d).1+(exprS k y d).1) (by omega)];simp
mutual
theorem CO(k:Ck):(e:Ex)→∀d:Int,1≤d→d≤10→(exprS k e d).2=Sh→1≤(exprS k e d).1∧(exprS k e d).1≤il (10-d).toNat
 |.mk op n v a,d,h1,h2,h=>by
  have hp:=vO (10-d).toNat;simp only[exprS]at h⊢;by_cases o1:op=1
  ·rw[if_pos o1]at h⊢;simp only;omega
  rw[if_neg o1]at h⊢;by_cases o2:op=2
  ·rw[if_pos o2]at h⊢;simp only;omega
  rw[if_neg o2]at h⊢;by_cases o3:op=3
  ·rw[if_pos o3]at h⊢;simp only;omega
  rw[if_neg o3]at h⊢;split at h
  ·simp at h
  ·rename_i hc;rw[if_neg hc];simp only[PF,Oy,decide_eq_true_eq,not_or,Classical.not_not]at hc;obtain⟨⟨_,hl⟩,hd⟩:=hc;obtain⟨x,y,rfl⟩:∃x y,a=[x,y]:=by
    match a,hl with
    | [x,y],_=>exact⟨x,y,rfl⟩
   have hw:w64 (d+1)=d+1:=bJ (by omega);obtain⟨e,he⟩:∃m,(10-d).toNat=m+1:=⟨(10-(d+1)).toNat,by omega⟩;have he2:(10-(d+1)).toNat=e:=by omega
   have bx:=ul k [x,y] x (by simp) (d+1) (by omega) (by omega);have by_:=ul k [x,y] y (by simp) (d+1) (by omega) (by omega);have hm:=zf e (by omega);rw[he2]at bx by_;rw[hw,HY k x y (d+1) (λh=>by have:=bx h;omega) (λh=>by have:=by_ h;omega)]at h⊢;split at h
   ·rename_i hb;rw[if_pos hb,he];have b1:=bx hb.1;have b2:=by_ hb.2;simp only[il];omega
   ·simp at h
theorem ul(k:Ck):(l:List Ex)→∀x∈l,∀d:Int,1≤d→d≤10→(exprS k x d).2=Sh→1≤(exprS k x d).1∧(exprS k x d).1≤il (10-d).toNat
 | [],x,h=>by simp at h
 |y::l,x,h=>by
  rcases NX.1 h with e|h
  ·rw[e];exact CO k y
  ·exact ul k l x h
end
theorem kr(k:Ck)(e:Ex){d:Int}(h1:1≤d)(h:(exprS k e d).2=Sh):1≤(exprS k e d).1∧(exprS k e d).1≤2047:=by
 by_cases h2:d≤10
 ·have:=CO k e d h1 h2 h
  have:=zf (10-d).toNat (by omega)
  omega
 ·rw[mf k e (by omega)]at h;simp at h
def vj(op n v:Int)(a:List Ex):Bool:=!inB op 4 10 ||(decide (n≠0) ||(decide (v≠0) ||decide ((a.length:Int)≠2)))
theorem Ac(k:Ck)(e:Ex)(ih:∀x∈e.a,∀d:Int,1≤d→d≤11→∀s,az Si 282 [.agg k.d.cells,.agg x.cells,.int .i64 d] s (.int .i64 (sizeR (exprS k x d))) s)(d:Int)(h1:1≤d)(h2:d≤11)(s:St) :
  az Si 282 [.agg k.d.cells,.agg e.cells,.int .i64 d] s (.int .i64 (sizeR (exprS k e d))) s:=by
 obtain⟨B,L,c⟩:=s;obtain⟨op,n,v,a⟩:=e;have hal:Ex.a (.mk op n v a)=a:=rfl;rw[hal]at ih;have hw1:SA.wrap (k.d.vars-1)=w64 (k.d.vars-1):=rfl;have hw2:SA.wrap ((k.d.arrays.length:Int)-1)=w64 (k.d.arrays.length-1):=rfl;refine az.introN [(16,.cut),(18,.text [Se,Se,Se,Se,Se,Se,Se,Sh,Se,Se,Se,Se,Se,Se,Se,Sh,Se,Se] [(8,0),(10,0),(12,0)])] func282 rfl (by decide) aA (by kernel_rfl) [Sy 6] 114 rfl rfl ?_;simp only[vqM,zA,zS,zB];by_cases hd:10<d
 ·have:=mf k (.mk op n v a) hd
  have hd':(10<d)=True:=eq_true hd;simp only[vqM,zB,hd',decide_true];refine SB ?_ (.int _ _);simp only[vqM];rw[sizeR,this];rfl
 have hd0:(10<d)=False:=eq_false hd;have hd10:decide (d≤10)=Sh:=decide_eq_true (by omega);simp only[vqM,vt79,zA,zB,Ex.op,hd0,decide_false];refine am (λhc=>?_) (λhc=>?_)
 ·have o1:=of_decide_eq_true hc;simp only[vqM,vt79,zA,zB,Ex.n];repeat' (first
   |((with_reducible refine aG ?_);refine aa (fR _ _ _ _) ?_;simp only[vqM])
   |(with_reducible refine am (λhc=>?_) (λhc=>?_)<;>simp only[vqM,vt79,hc,zA,zB,ai,Ex.v,Ex.a])
   |((with_reducible refine di ?_);refine SB ?_ (.int _ _)<;>(try simp only[vqM])<;>(first|(simp only[sizeR,exprS,fG, *,K8,M7,N5,N2,if_true];done)|(simp_all[sizeR,exprS,fG];done)|(simp_all[sizeR,exprS,fG,hd10];omega))))
 have o1:=of_decide_eq_false hc;simp only[vqM,zB];refine am (λhc=>?_) (λhc=>?_)
 ·have o2:=of_decide_eq_true hc;simp only[vqM,vt79,zA,zB,Ex.v];repeat' (first
   |((with_reducible refine aG ?_);refine aa (fR _ _ _ _) ?_;simp only[vqM])
   |(with_reducible refine am (λhc=>?_) (λhc=>?_)<;>simp only[vqM,vt79,hc,zA,zB,ai,Ex.n,Ex.a,hw1])
   |((with_reducible refine di ?_);refine SB ?_ (.int _ _)<;>(try simp only[vqM])<;>(first|(simp only[sizeR,exprS,fG, *,K8,M7,N5,N2,if_true];done)|(simp_all[sizeR,exprS,fG];done)|(simp_all[sizeR,exprS,fG,hd10];omega))))
 have o2:=of_decide_eq_false hc;simp only[vqM,zB];refine am (λhc=>?_) (λhc=>?_)
 ·have o3:=of_decide_eq_true hc;simp only[vqM,vt79,zA,zB,Ex.v];repeat' (first
   |((with_reducible refine aG ?_);refine aa (fR _ _ _ _) ?_;simp only[vqM])
   |(with_reducible refine am (λhc=>?_) (λhc=>?_)<;>simp only[vqM,vt79,hc,zA,zB,ai,ak,Ex.n,Ex.a,hw2])
   |((with_reducible refine di ?_);refine SB ?_ (.int _ _)<;>(try simp only[vqM])<;>(first|(simp only[sizeR,exprS,fG, *,K8,M7,N5,N2,if_true];done)|(simp_all[sizeR,exprS,fG];done)|(simp_all[sizeR,exprS,fG,hd10];omega))))
 have o3:=of_decide_eq_false hc;simp only[vqM,zB];refine bv aA [2,3,4,87] [J,J,.int .i64 d,.box B.length 0,.box (B.length+1) 0,J,J,J,J,J,J,J,J,J,J,J,J,J,J,J,J,J,J,J,J,J,J,J,J,J,J,J,J,J,J,J,J,J,J,J,J,J,J,J,J,J,J,J,J,J,J,J,J,J,J,J,J,J,J,J,J,J,J,J,J,J,J,J,J,J,J,J,J,J,J,J,J,J,J,J,J,J,J,J,J,J,J,.bool (vj op n v a),J,J,J,J,J,J,J,J,J,J,J,J,J,J,J,J,J,J,J,J,J,J,J,J,J,J] (λs=>s=⟨B++[.cells k.d.cells,.cells (Ex.mk op n v a).cells],L,c⟩) ?_ ?_
 ·simp only[vqM,vt79,zA,Ex.op];repeat' (first
   |((with_reducible refine aG ?_);refine aa (fR _ _ _ _) ?_;simp only[vqM])
   |(with_reducible refine am (λhc=>?_) (λhc=>?_)<;>simp only[vqM,vt79,hc,zA,ai,Ex.n,Ex.v,Ex.a])
   |((with_reducible refine di ?_);refine aD ⟨?_,rfl⟩<;>simp only[vke,zB,zA]<;>(first|(simp only[vj, *,M6,L5,NW];done)|(simp_all[vj];done)|(simp_all[vj];omega))))
 rintro s rfl;simp only[vqM];have hex:exprS k (.mk op n v a) d=if vj op n v a ||decide (10≤d)then(0,Se)else exprsS k a (w64 (d+1)) 1:=by
  simp only[exprS,if_neg o1,if_neg o2,if_neg o3,vj];congr 1;simp only[PF,Oy,decide_eq_true_eq,or_assoc]
 refine am (λhc=>?_) (λhc=>?_)
 ·simp only[vqM,zB];refine SB ?_ (.int _ _);simp only[vqM];rw[sizeR,hex,hc];rfl
 rw[hc,L5]at hex;simp only[vj,OP,decide_eq_false_iff_not,ne_eq,Classical.not_not]at hc;obtain⟨_,_,_,hl⟩:=hc;obtain⟨x,y,rfl⟩:∃x y,a=[x,y]:=by
  match a,hl with
  | [x,y],_=>exact⟨x,y,rfl⟩
 have hwd:SA.wrap (d+1)=d+1:=aK (by omega);have hen:Ex.encs [x,y]=[x.cells,y.cells]:=rfl;have ihx:=ih x (by simp);have ihy:=ih y (by simp);have sx:(exprS k x (d+1)).2=Sh→1≤(exprS k x (d+1)).1∧(exprS k x (d+1)).1≤3000:=λh=>by have:=kr k x (d:=d+1) (by omega) h;omega
 have sy:(exprS k y (d+1)).2=Sh→1≤(exprS k y (d+1)).1∧(exprS k y (d+1)).1≤3000:=λh=>by have:=kr k y (d:=d+1) (by omega) h;omega
 have hw:w64 (d+1)=d+1:=hwd;have hfin:sizeR (exprS k (.mk op n v [x,y]) d)=if sizeR (exprS k x (d+1))<0∨sizeR (exprS k y (d+1))<0 then -1 else 1+sizeR (exprS k x (d+1))+sizeR (exprS k y (d+1)):=by
  rw[hex];by_cases h10:10≤d
  ·have dx:=mf k x (d:=d+1) (by omega);simp only[sizeR,h10,dx,decide_true,if_true];simp
  ·rw[if_neg (by simpa using h10),hw,HY k x y (d+1) sx sy];cases hx:(exprS k x (d+1)).2 with
   |false=>simp[sizeR,hx]
   |true =>
    cases hy:(exprS k y (d+1)).2 with
    |false=>simp[sizeR,hx,hy]
    |true =>
     have:=sx hx
     have:=sy hy
     simp only[sizeR,hx,hy,and_self,if_true];rw[if_neg (by omega)]
 simp only[vqM,vt79,zA,zB,Ex.a,hen,hwd,Rj,RF];refine aa (ihx (d+1) (by omega) (by omega) _) ?_;simp only[vqM,vt79,zA,Ex.a,hen,hwd,Rj,RF];refine aa (ihy (d+1) (by omega) (by omega) _) ?_;have kx:sizeR (exprS k x (d+1))≤4000∧sizeR (exprS k y (d+1))≤4000:=by
  constructor<;>(unfold sizeR;split)
  ·rename_i h;have:=sx h;omega
  ·omega
  ·rename_i h;have:=sy h;omega
  ·omega
 generalize sizeR (exprS k x (d+1))=rx at hfin kx⊢;generalize sizeR (exprS k y (d+1))=ry at hfin kx⊢;simp only[vqM,vt79,zB,Ex.a,hen];refine am (λha=>?_) (λha=>?_)
 ·have ha':=of_decide_eq_true ha;simp only[vqM,zB,ha];refine SB ?_ (.int _ _);simp only[vqM];rw[hfin,if_pos (.inl ha')]
 have ha':=of_decide_eq_false ha;simp only[vqM,ha];refine am (λhb=>?_) (λhb=>?_)
 ·have hb':=of_decide_eq_true hb;simp only[vqM,zB,hb];refine SB ?_ (.int _ _);simp only[vqM];rw[hfin,if_pos (.inr hb')]
 ·have hb':=of_decide_eq_false hb;have w1:SA.wrap (1+rx)=1+rx:=aK (by omega);have w2:SA.wrap (1+rx+ry)=1+rx+ry:=aK (by omega);simp only[vqM,zB,hb,w1,w2];refine SB ?_ (.int _ _);simp only[vqM];rw[hfin,if_neg (by omega)]
mutual
theorem wM(k:Ck):(e:Ex)→∀d:Int,1≤d→d≤11→∀s,az Si 282 [.agg k.d.cells,.agg e.cells,.int .i64 d] s (.int .i64 (sizeR (exprS k e d))) s
 |.mk op n v a,d,h1,h2,s=>Ac k (.mk op n v a) (yG k a) d h1 h2 s
theorem yG(k:Ck):(l:List Ex)→∀x∈l,∀d:Int,1≤d→d≤11→∀s,az Si 282 [.agg k.d.cells,.agg x.cells,.int .i64 d] s (.int .i64 (sizeR (exprS k x d))) s
 | [],x,h=>by simp at h
 |y::l,x,h=>by
  rcases NX.1 h with e|h
  ·rw[e];exact wM k y
  ·exact yG k l x h
end
theorem yC(k:Ck)(e:Ex)(s:St):az Si 250 [.agg k.d.cells,.agg e.cells] s (.bool (valueB k e)) s:=by
 have hv:inB (sizeR (exprS k e 1)) 1 60=valueB k e:=by
  cases h:(exprS k e 1).2 with
  |false=>simp[sizeR,valueB,h,inB]
  |true =>
   have:=kr k e (d:=1) (by omega) h
   simp only[sizeR,valueB,h,inB,if_true,K8];rw[decide_eq_true this.1,K8]
 obtain⟨B,L,c⟩:=s;refine az.introN [] func250 rfl (by decide) aA (by kernel_rfl) [Sy 4] 9 rfl rfl ?_;simp only[vqM,bi,bT,zA,zS];refine aa (wM k e 1 (by omega) (by omega) _) ?_;simp only[vqM];refine aa (fR _ _ _ _) ?_;rw[hv];simp only[vqM];refine SB ?_ (.bool _);simp only[vqM]
theorem Dj(e:Ex)(s:St):az Si 251 [.agg e.cells] s (.bool (decide (e.op=0)&&(decide (e.n=0)&&(decide (e.v=0)&&decide ((e.a.length:Int)=0))))) s:=by
 obtain⟨B,L,c⟩:=s;refine az.introN [] func251 rfl (by decide) aA (by kernel_rfl) [Sy 2] 22 rfl rfl ?_;simp only[vqM,tf3,dk,bT,zA,zS];repeat' (first
  |(with_reducible refine am (λhc=>?_) (λhc=>?_)<;>simp only[vqM,tf3,dk,bT,hc,zA,ai])
  |((with_reducible refine di ?_);refine SB ?_ (.bool _)<;>(try simp only[vqM])<;>(first|(simp only[*,K8,M7,N2];done)|(simp_all[];done)|(simp_all[];omega))))
theorem Dk(e:Co)(s:St):az Si 253 [.agg e.cells] s (.bool (decide (e.op=0)&&(decide ((e.a.length:Int)=0)&&decide ((e.c.length:Int)=0)))) s:=by
 obtain⟨B,L,c⟩:=s;refine az.introN [] func253 rfl (by decide) aA (by kernel_rfl) [Sy 2] 18 rfl rfl ?_;simp only[vqM,tf3,dk,bT,kN,eO,zA,zS];repeat' (first
  |(with_reducible refine am (λhc=>?_) (λhc=>?_)<;>simp only[vqM,tf3,dk,bT,kN,eO,hc,zA,ai,aF])
  |((with_reducible refine di ?_);refine SB ?_ (.bool _)<;>(try simp only[vqM])<;>(first|(simp only[*,K8,M7,N2];done)|(simp_all[];done)|(simp_all[];omega))))
theorem tv(k:Ck)(d:Int):∀(l:List Ex)(x:Ex)(acc:Int),exprsS k (l++[x]) d acc=bif (exprsS k l d acc).2 then(bif (exprS k x d).2 then(w64 ((exprsS k l d acc).1+(exprS k x d).1),Sh)else(0,Se))else(0,Se)
 | [],x,acc=>by simp only[Oe,exprsS,cond_true]
 |y::l,x,acc=>by
  simp only[Ob,exprsS];cases h:(exprS k y d).2 with
  |true=>simp only[cond_true];exact tv k d l x _
  |false=>simp only[cond_false]
theorem tK(k:Ck)(d:Int):∀(l:List Co)(x:Co)(acc:Int),condsS k (l++[x]) d acc=bif (condsS k l d acc).2 then(bif (condS k x d).2 then(w64 ((condsS k l d acc).1+(condS k x d).1),Sh)else(0,Se))else(0,Se)
 | [],x,acc=>by simp only[Oe,condsS,cond_true]
 |y::l,x,acc=>by
  simp only[Ob,condsS];cases h:(condS k y d).2 with
  |true=>simp only[cond_true];exact tK k d l x _
  |false=>simp only[cond_false]
theorem ka(k:Ck)(d:Int)(hd:1≤d):∀(l:List Ex)(acc:Int),1≤acc→acc+2047*l.length≤1000000000000→(exprsS k l d acc).2=Sh→acc≤(exprsS k l d acc).1∧(exprsS k l d acc).1≤acc+2047*l.length
 | [],acc,_,_,_=>by simp[exprsS]
 |x::l,acc,h1,h2,h=>by
  simp only[K7]at h2⊢;simp only[exprsS]at h⊢;cases hx:(exprS k x d).2 with
  |false=>rw[hx]at h;simp at h
  |true =>
   rw[hx]at h;simp only[cond_true]at h⊢;have b:=kr k x hd hx;rw[bJ (n:=acc+(exprS k x d).1) (by omega)]at h⊢;have:=ka k d hd l (acc+(exprS k x d).1) (by omega) (by omega) h
   omega
theorem tu(k:Ck)(d:Int):∀(l:List Ex)(acc:Int),(exprsS k l d acc).2=Sh↔∀x∈l,(exprS k x d).2=Sh
 | [],acc=>by simp[exprsS]
 |x::l,acc=>by
  simp only[exprsS];cases hx:(exprS k x d).2 with
  |false=>simp[hx]
  |true=>simp only[cond_true,tu k d l,NX,forall_eq_or_imp,hx,true_and]
theorem nn(k:Ck)(d:Int):∀(l:List Co)(acc:Int),(condsS k l d acc).2=Sh↔∀x∈l,(condS k x d).2=Sh
 | [],acc=>by simp[condsS]
 |x::l,acc=>by
  simp only[condsS];cases hx:(condS k x d).2 with
  |false=>simp[hx]
  |true=>simp only[cond_true,nn k d l,NX,forall_eq_or_imp,hx,true_and]
theorem mq(k:Ck)(e:Co){d:Int}(h:10<d):(condS k e d).2=Se:=by
 obtain⟨op,a,c⟩:=e;simp only[condS];cases wantOf op with
 |none=>rfl
 |some w=>simp only[decide_eq_true h,NW,cond_true]
def rL:Nat→Int
 |0=>5000
 |n+1=>5000+2*rL n
theorem mn:∀n,5000≤rL n
 |0=>by simp[rL]
 |n+1=>by have:=mn n;simp only[rL];omega
theorem zy:∀n,n≤10→rL n≤20000000:=by decide
theorem tV{op:Int}{w:Int×Int}(h:wantOf op=Sd w):(0≤w.1∧w.1≤2)∧(0≤w.2∧w.2≤2):=by
 unfold wantOf at h;repeat' split at h
 all_goals first
  |(cases h;simp)
  |cases h
theorem Bp(k:Ck)(d:Int)(m:Int):∀(l:List Co)(acc:Int),1≤acc→acc≤100000000→(0≤m∧m≤20000000)→l.length≤2→(∀x∈l,1≤(condS k x d).1∧(condS k x d).1≤m)→(∀x∈l,(condS k x d).2=Sh)→acc≤(condsS k l d acc).1∧(condsS k l d acc).1≤acc+m*l.length
 | [],acc,_,_,_,_,_,_=>by simp[condsS]
 | [x],acc,h1,h2,hm,_,hb,ho=>by
  have b:=hb x (by simp);simp only[condsS,ho x (by simp),cond_true];rw[bJ (n:=acc+(condS k x d).1) (by omega)];simp;omega
 | [x,y],acc,h1,h2,hm,_,hb,ho=>by
  have b:=hb x (by simp);have b2:=hb y (by simp);simp only[condsS,ho x (by simp),ho y (by simp),cond_true];rw[bJ (n:=acc+(condS k x d).1) (by omega),bJ (n:=acc+(condS k x d).1+(condS k y d).1) (by omega)];simp;omega
 |_::_::_::_,_,_,_,_,hl,_,_=>by simp at hl
mutual
theorem CU(k:Ck):(e:Co)→∀d:Int,1≤d→d≤10→(condS k e d).2=Sh→1≤(condS k e d).1∧(condS k e d).1≤rL (10-d).toNat
 |.mk op a c,d,h1,h2,h=>by
  simp only[condS]at h⊢;cases hw:wantOf op with
  |none=>rw[hw]at h;simp at h
  |some w =>
   rw[hw]at h;simp only at h⊢;have hwl:=tV hw;cases hb:(!(decide ((a.length:Int)=w.1)&&decide ((c.length:Int)=w.2)) ||decide (10<d))with
   |true=>rw[hb]at h;simp at h
   |false =>
    rw[hb]at h;simp only[OP,Pu,M1,decide_eq_true_eq]at hb;simp only[cond_false]at h⊢;have hwd:w64 (d+1)=d+1:=bJ (by omega);rw[hwd]at h⊢;cases he:(exprsS k a (d+1) 1).2 with
    |false=>rw[he]at h;simp at h
    |true =>
     rw[he]at h;simp only[cond_true]at h⊢;have b1:=ka k (d+1) (by omega) a 1 (by omega) (by omega) he;have hc:=(nn k (d+1) c _).1 h;by_cases h10:d=10
     ·have hc0:c=[]:=by
       cases c with
       |nil=>rfl
       |cons x c =>
        have:=hc x (by simp)
        rw[mq k x (by omega)]at this;simp at this
      subst hc0;have:=mn (10-d).toNat
      simp only[condsS];omega
     ·have bm:=v6 k c;have b2:=Bp k (d+1) (rL (10-(d+1)).toNat) c (exprsS k a (d+1) 1).1 (by omega) (by omega) (by have:=zy (10-(d+1)).toNat (by omega);have:=mn (10-(d+1)).toNat;omega) (by omega) (λx hx=>bm x hx (d+1) (by omega) (by omega) (hc x hx)) hc;obtain⟨q,hq⟩:∃m,(10-d).toNat=m+1:=⟨(10-(d+1)).toNat,by omega⟩;have hq2:(10-(d+1)).toNat=q:=by omega
      rw[hq2]at b2;rw[hq];simp only[rL];have:=mn q
      have h3:c.length=0∨c.length=1∨c.length=2:=by omega
      rcases h3 with h3|h3|h3<;>rw[h3]at b2<;>simp at b2<;>omega
theorem v6(k:Ck):(l:List Co)→∀x∈l,∀d:Int,1≤d→d≤10→(condS k x d).2=Sh→1≤(condS k x d).1∧(condS k x d).1≤rL (10-d).toNat
 | [],x,h=>by simp at h
 |y::l,x,h=>by
  rcases NX.1 h with e|h
  ·rw[e];exact CU k y
  ·exact v6 k l x h
end
theorem up(k:Ck)(e:Co){d:Int}(h1:1≤d)(h:(condS k e d).2=Sh):1≤(condS k e d).1∧(condS k e d).1≤20000000:=by
 by_cases h2:d≤10
 ·have:=CU k e d h1 h2 h
  have:=zy (10-d).toNat (by omega)
  omega
 ·rw[mq k e (by omega)]at h;simp at h
theorem Am(k:Ck)(e:Co)(ih:∀x∈e.c,∀d:Int,1≤d→d≤11→∀s,az Si 283 [.agg k.d.cells,.agg x.cells,.int .i64 d] s (.int .i64 (sizeR (condS k x d))) s)(d:Int)(h1:1≤d)(h2:d≤11)(s:St) :
  az Si 283 [.agg k.d.cells,.agg e.cells,.int .i64 d] s (.int .i64 (sizeR (condS k e d))) s:=by
 obtain⟨B,L,c⟩:=s;obtain⟨op,a,cc⟩:=e;have hal:Co.c (.mk op a cc)=cc:=rfl;rw[hal]at ih;refine az.introN [(3,.cut)] func283 rfl (by decide) aA (by kernel_rfl) [Sy 6] 80 rfl rfl ?_;simp only[vqM,zA,zS,zB];by_cases hd:10<d
 ·have:=mq k (.mk op a cc) hd
  have hd':(10<d)=True:=eq_true hd;simp only[vqM,zB,hd',decide_true];refine SB ?_ (.int _ _);simp only[vqM];rw[sizeR,this];rfl
 have hd0:(10<d)=False:=eq_false hd;have hwd:SA.wrap (d+1)=d+1:=aK (by omega);have hwd2:w64 (d+1)=d+1:=hwd;simp only[vqM,hd0,decide_false];refine kl ?_;simp only[vqM];cases hw:wantOf op with
 |none =>
  have hno:op≠1∧op≠2∧op≠3∧op≠4∧op≠5∧op≠6∧op≠7:=by
   refine⟨?_,?_,?_,?_,?_,?_,?_⟩<;>(rintro rfl;simp[wantOf]at hw)
  obtain⟨n1,n2,n3,n4,n5,n6,n7⟩:=hno;have hr:sizeR (condS k (.mk op a cc) d) = -1:=by simp[condS,hw,sizeR]
  refine cI aA ?_;simp only[vqM,jK,zA,zB,Co.op,eq_false n1,eq_false n2,eq_false n3,eq_false n4,eq_false n5,eq_false n6,eq_false n7,decide_false];refine SB ?_ (.int _ _);simp only[vqM];rw[hr]
 |some w =>
  have hwl:=tV hw;refine fD (λe s=>keep [2,3,4,7,8] e=[J,J,.int .i64 d,.box B.length 0,.box (B.length+1) 0,J,J,.int .i64 w.1,.int .i64 w.2,J,J,J,J,J,J,J,J,J,J,J,J,J,J,J,J,J,J,J,J,J,J,J,J,J,J,J,J,J,J,J,J,J,J,J,J,J,J,J,J,J,J,J,J,J,J,J,J,J,J,J,J,J,J,J,J,J,J,J,J,J,J,J,J,J,J,J,J,J,J,J]∧s=⟨B++[.cells k.d.cells,.cells (Co.mk op a cc).cells],L,c⟩) ?_ ?_
  ·have hop:(op=1∧w=(0,0))∨(op=2∧w=(2,0))∨(op=3∧w=(2,0))∨(op=4∧w=(2,0))∨(op=5∧w=(0,1))∨(op=6∧w=(0,2))∨(op=7∧w=(0,2)):=by
    unfold wantOf at hw;repeat' split at hw
    all_goals first
     |(cases hw;simp_all)
     |cases hw
   refine cI aA ?_;rcases hop with ⟨rfl,rfl⟩|⟨rfl,rfl⟩|⟨rfl,rfl⟩|⟨rfl,rfl⟩|⟨rfl,rfl⟩|⟨rfl,rfl⟩|⟨rfl,rfl⟩
   all_goals
    simp only[vqM,jK,zA,zB,Co.op,Int.reduceEq,decide_false,decide_true];exact bM ⟨by simp only[vke,zB,zA],rfl⟩
  rintro e s ⟨he,rfl⟩;refine ae [2,3,4,7,8] ?_;rw[he];clear he;refine cI aA ?_;simp only[vqM,jK,zA,zB,ai,Co.a];have hcs:condS k (.mk op a cc) d=bif (!(decide ((a.length:Int)=w.1)&&decide ((cc.length:Int)=w.2))) ||decide (10<d)then(0,Se)else bif (exprsS k a (d+1) 1).2 then condsS k cc (d+1) (exprsS k a (d+1) 1).1 else(0,Se):=by
   simp only[condS,hw,hwd2]
  have hd9:decide (10<d)=Se:=decide_eq_false hd;refine am (λhc=>?_) (λhc=>?_)
  ·have hc':decide ((a.length:Int)=w.1)=Se:=by simpa using hc
   simp only[vqM,zB,hc];refine SB ?_ (.int _ _);simp only[vqM];rw[hcs,hc'];rfl
  have ha:(a.length:Int)=w.1:=by simpa using hc
  simp only[vqM,jK,zA,aF,Co.c,hc];refine am (λhc=>?_) (λhc=>?_)
  ·have hc':decide ((cc.length:Int)=w.2)=Se:=by simpa using hc
   simp only[vqM,zB,hc];refine SB ?_ (.int _ _);simp only[vqM];rw[hcs,hc',N2];rfl
  have hb:(cc.length:Int)=w.2:=by simpa using hc
  rw[decide_eq_true ha,decide_eq_true hb,hd9]at hcs;simp only[Bool.and_self,N3,Bool.or_self,cond_false]at hcs;rw[←ha,←hb];rw[←ha,←hb]at hwl;simp only[vqM,zB];refine ae [2,3,4,7,8,9,10] ?_;simp only[vke,zB,zA];refine aE aA a.length (λi e s=>∃acc:Int,exprsS k (a.take i) (d+1) 1=(acc,Sh)∧e=[J,J,.int .i64 d,.box B.length 0,.box (B.length+1) 0,J,J,.int .i64 (a.length:Int),.int .i64 (cc.length:Int),.int .i64 acc,.int .i64 (i:Int),J,J,J,J,J,J,J,J,J,J,J,J,J,J,J,J,J,J,J,J,J,J,J,J,J,J,J,J,J,J,J,J,J,J,J,J,J,J,J,J,J,J,J,J,J,J,J,J,J,J,J,J,J,J,J,J,J,J,J,J,J,J,J,J,J,J,J,J,J]∧s=⟨B++[.cells k.d.cells,.cells (Co.mk op a cc).cells],L,c⟩) ?_ ?_ 0 _ _ (L7 _) ⟨1,rfl,rfl,rfl⟩
  ·rintro i e s hi ⟨acc,hacc,rfl,rfl⟩ ihl;have hx:a[i]?=Sd a[i]:=K4 hi;have hg:(Ex.encs a)[i]?=Sd (a[i].cells):=by simp[Ex.encs_map,hx]
   have hilt:((i:Int)<(a.length:Int))=True:=by simp;exact hi
   have hnx:exprsS k (a.take (i+1)) (d+1) 1=bif (exprS k a[i] (d+1)).2 then(w64 (acc+(exprS k a[i] (d+1)).1),Sh)else(0,Se):=by
    rw[N4,hx,Ov,tv,hacc];rfl
   have hbd:1≤acc∧acc≤5000:=by
    have:=ka k (d+1) (by omega) (a.take i) 1 (by omega) (by rw[OD];omega) (by rw[hacc])
    rw[hacc]at this;have hl:(a.take i).length≤2:=by rw[OD];omega
    simp only at this;omega
   have hmem:a[i]∈a:=NY hi;generalize a[i]=x at hx hg hnx hmem;simp only[vqM,jK,zA,zB,Co.a,hilt,decide_true,natle0,K3,hg,hwd];refine aa (wM k x (d+1) (by omega) (by omega) _) ?_;cases hxo:(exprS k x (d+1)).2 with
   |false =>
    have hs:sizeR (exprS k x (d+1)) = -1:=by rw[sizeR,hxo];rfl
    rw[hs];simp only[vqM,zB,Rk,Int.reduceNeg,decide_true];refine SB ?_ (.int _ _);have:(exprsS k a (d+1) 1).2=Se:=by
     cases h:(exprsS k a (d+1) 1).2 with
     |false=>rfl
     |true=>have:=(tu k (d+1) a 1).1 h x hmem;rw[hxo]at this;simp at this
    simp only[vqM];rw[hcs,this];rfl
   |true =>
    have hs:sizeR (exprS k x (d+1))=(exprS k x (d+1)).1:=by rw[sizeR,hxo];rfl
    have hb:=kr k x (d:=d+1) (by omega) hxo;rw[hs];rw[hxo]at hnx;generalize(exprS k x (d+1)).1=sz at hb hnx⊢;have hneg:(sz<0)=False:=eq_false (by omega);have hww:SA.wrap (acc+sz)=w64 (acc+sz):=rfl;simp only[vqM,zB,hneg,decide_false,hww];rw[ap (by omega)];refine ae [2,3,4,7,8,9,10] ?_;simp only[vke,zB,zA];exact ihl _ _ ⟨_,hnx,rfl,rfl⟩
  ·rintro e s ⟨acc,hacc,rfl,rfl⟩;have hilt:((a.length:Int)<(a.length:Int))=False:=by simp
   rw[N6]at hacc;rw[hacc]at hcs;simp only[cond_true]at hcs;have hbd:1≤acc∧acc≤5000:=by
    have:=ka k (d+1) (by omega) a 1 (by omega) (by omega) (by rw[hacc])
    rw[hacc]at this;simp only at this;omega
   simp only[vqM,zB,hilt,decide_false];refine ae [2,3,4,8,9,12] ?_;simp only[vke,zB,zA];refine aE aA cc.length (λi e s=>∃ac:Int,condsS k (cc.take i) (d+1) acc=(ac,Sh)∧e=[J,J,.int .i64 d,.box B.length 0,.box (B.length+1) 0,J,J,J,.int .i64 (cc.length:Int),.int .i64 ac,J,J,.int .i64 (i:Int),J,J,J,J,J,J,J,J,J,J,J,J,J,J,J,J,J,J,J,J,J,J,J,J,J,J,J,J,J,J,J,J,J,J,J,J,J,J,J,J,J,J,J,J,J,J,J,J,J,J,J,J,J,J,J,J,J,J,J,J,J,J,J,J,J,J,J]∧s=⟨B++[.cells k.d.cells,.cells (Co.mk op a cc).cells],L,c⟩) ?_ ?_ 0 _ _ (L7 _) ⟨acc,rfl,rfl,rfl⟩
   ·rintro i e s hi ⟨ac,hac,rfl,rfl⟩ ihl;have hx:cc[i]?=Sd cc[i]:=K4 hi;have hg:(Co.encs cc)[i]?=Sd (cc[i].cells):=by simp[Co.encs_map,hx]
    have hilt:((i:Int)<(cc.length:Int))=True:=by simp;exact hi
    have hnx:condsS k (cc.take (i+1)) (d+1) acc=bif (condS k cc[i] (d+1)).2 then(w64 (ac+(condS k cc[i] (d+1)).1),Sh)else(0,Se):=by
     rw[N4,hx,Ov,tK,hac];rfl
    have hmem:cc[i]∈cc:=NY hi;have ihx:=ih _ hmem;generalize cc[i]=x at hx hg hnx hmem ihx;simp only[vqM,jK,zA,zB,Co.c,hilt,decide_true,natle0,K3,hg,hwd];refine aa (ihx (d+1) (by omega) (by omega) _) ?_;cases hxo:(condS k x (d+1)).2 with
    |false =>
     have hs:sizeR (condS k x (d+1)) = -1:=by rw[sizeR,hxo];rfl
     rw[hs];simp only[vqM,zB,Rk,Int.reduceNeg,decide_true];refine SB ?_ (.int _ _);have:(condsS k cc (d+1) acc).2=Se:=by
      cases h:(condsS k cc (d+1) acc).2 with
      |false=>rfl
      |true=>have:=(nn k (d+1) cc acc).1 h x hmem;rw[hxo]at this;simp at this
     simp only[vqM];rw[hcs,sizeR,this];rfl
    |true =>
     have hs:sizeR (condS k x (d+1))=(condS k x (d+1)).1:=by rw[sizeR,hxo];rfl
     have hb:=up k x (d:=d+1) (by omega) hxo;rw[hs];rw[hxo]at hnx;generalize(condS k x (d+1)).1=sz at hb hnx⊢;have hneg:(sz<0)=False:=eq_false (by omega);have hww:SA.wrap (ac+sz)=w64 (ac+sz):=rfl;simp only[vqM,zB,hneg,decide_false,hww];rw[ap (by omega)];refine ae [2,3,4,8,9,12] ?_;simp only[vke,zB,zA];exact ihl _ _ ⟨_,hnx,rfl,rfl⟩
   ·rintro e s ⟨ac,hac,rfl,rfl⟩;have hilt:((cc.length:Int)<(cc.length:Int))=False:=by simp
    rw[N6]at hac;simp only[vqM,zB,hilt,decide_false];refine SB ?_ (.int _ _);simp only[vqM];rw[hcs,hac];rfl
mutual
theorem Cb(k:Ck):(e:Co)→∀d:Int,1≤d→d≤11→∀s,az Si 283 [.agg k.d.cells,.agg e.cells,.int .i64 d] s (.int .i64 (sizeR (condS k e d))) s
 |.mk op a c,d,h1,h2,s=>Am k (.mk op a c) (yI k c) d h1 h2 s
theorem yI(k:Ck):(l:List Co)→∀x∈l,∀d:Int,1≤d→d≤11→∀s,az Si 283 [.agg k.d.cells,.agg x.cells,.int .i64 d] s (.int .i64 (sizeR (condS k x d))) s
 | [],x,h=>by simp at h
 |y::l,x,h=>by
  rcases NX.1 h with e|h
  ·rw[e];exact Cb k y
  ·exact yI k l x h
end
theorem IS(k:Ck)(e:Co)(s:St):az Si 252 [.agg k.d.cells,.agg e.cells] s (.bool (testB k e)) s:=by
 have hv:inB (sizeR (condS k e 1)) 1 60=testB k e:=by
  cases h:(condS k e 1).2 with
  |false=>simp[sizeR,testB,h,inB]
  |true =>
   have:=up k e (d:=1) (by omega) h
   simp only[sizeR,testB,h,inB,if_true,K8];rw[decide_eq_true this.1,K8]
 obtain⟨B,L,c⟩:=s;refine az.introN [] func252 rfl (by decide) aA (by kernel_rfl) [Sy 4] 9 rfl rfl ?_;simp only[vqM,bi,eO,zA,zS];refine aa (Cb k e 1 (by omega) (by omega) _) ?_;simp only[vqM];refine aa (fR _ _ _ _) ?_;rw[hv];simp only[vqM];refine SB ?_ (.bool _);simp only[vqM]
structure Us where
 n:Int
 m:Int
 v:Bool
 x:Bool
 y:Bool
 c:Bool
 call:Bool
 body:Bool
 els:Bool
def Us.cells(x:Us):List D:=[.int .i64 x.n,.int .i64 x.m,.bool x.v,.bool x.x,.bool x.y,.bool x.c,.bool x.call,.bool x.body,.bool x.els]
theorem Us.cells_len(x:Us):x.cells.length=9:=rfl
theorem Us.plain(x:Us):x.cells.map D.plain1=x.cells:=rfl
theorem Us.keep1(x:Us):x.cells.map D.keep1=x.cells:=rfl
theorem Us.take0(x:Us):x.cells.take 9=x.cells:=N1 (by rw[Us.cells_len];decide)
theorem Us.drop0(x:Us)(l:List D):(x.cells++l).drop 9=l:=by have:=List.drop_left (l₁:=x.cells) (l₂:=l);rwa[Us.cells_len]at this
theorem Us.takeB(x:Us)(l:List D):(x.cells++l).take 9=x.cells:=by have:=List.take_left (l₁:=x.cells) (l₂:=l);rwa[Us.cells_len]at this
theorem Us.lenA(x:Us)(l:List D):(x.cells++l).length=9+l.length:=by rw[K5,Us.cells_len]
theorem Us.f_n(x:Us):x.cells[0]?=Sd (.int .i64 x.n):=rfl
theorem Us.f_m(x:Us):(x.cells.drop 1)[0]?=Sd (.int .i64 x.m):=rfl
theorem Us.f_v(x:Us):(x.cells.drop 2)[0]?=Sd (.bool x.v):=rfl
theorem Us.f_x(x:Us):(x.cells.drop 3)[0]?=Sd (.bool x.x):=rfl
theorem Us.f_y(x:Us):(x.cells.drop 4)[0]?=Sd (.bool x.y):=rfl
theorem Us.f_c(x:Us):(x.cells.drop 5)[0]?=Sd (.bool x.c):=rfl
theorem Us.f_call(x:Us):(x.cells.drop 6)[0]?=Sd (.bool x.call):=rfl
theorem Us.f_body(x:Us):(x.cells.drop 7)[0]?=Sd (.bool x.body):=rfl
theorem Us.f_els(x:Us):(x.cells.drop 8)[0]?=Sd (.bool x.els):=rfl
def vsUs:=Ss @Us.cells_len<|Ss @Us.plain<|Ss @Us.keep1<|Ss @Us.take0<|Ss @Us.drop0<|Ss @Us.takeB<|Ss @Us.lenA<|Ss @Us.f_n<|Ss @Us.f_m<|Ss @Us.f_v<|Ss @Us.f_x<|Ss @Us.f_y<|Ss @Us.f_c<|Ss @Us.f_call<|Ss @Us.f_body @Us.f_els
def Us.encs(l:List Us):List (List D):=l.map Us.cells
def H1(op:Int):Us×Bool:=
 if op=11 then(⟨0,0,Se,Se,Se,Sh,Se,Sh,Sh⟩,Sh)
 else if op=12 then(⟨0,0,Sh,Se,Se,Sh,Se,Sh,Se⟩,Sh)
 else if op=13 then(⟨11,10,Se,Se,Se,Se,Sh,Se,Se⟩,Sh)
 else if op=14 then(⟨0,0,Sh,Se,Se,Se,Se,Se,Se⟩,Sh)
 else if op=15 then(⟨1,0,Se,Se,Se,Se,Se,Sh,Sh⟩,Sh)
 else if op=16 then(⟨0,8,Se,Se,Se,Se,Se,Se,Se⟩,Sh)
 else if op=17 then(⟨0,8,Se,Se,Se,Se,Se,Se,Se⟩,Sh)
 else if op=22 then(⟨0,9,Se,Se,Se,Se,Se,Se,Se⟩,Sh)
 else if op=23 then(⟨0,0,Se,Se,Se,Sh,Se,Se,Se⟩,Sh)
 else if op=24 then(⟨0,0,Se,Sh,Se,Se,Se,Se,Se⟩,Sh)
 else(⟨0,0,Se,Se,Se,Se,Se,Se,Se⟩,Se)
def useF(op:Int):Us×Bool:=
 if op=1 then(⟨1,0,Se,Sh,Se,Se,Se,Se,Se⟩,Sh)
 else if op=2 then(⟨1,3,Se,Sh,Se,Se,Se,Se,Se⟩,Sh)
 else if op=3 then(⟨0,3,Se,Sh,Sh,Se,Se,Se,Se⟩,Sh)
 else if op=4 then(⟨1,4,Se,Se,Se,Se,Se,Se,Se⟩,Sh)
 else if op=20 then(⟨1,5,Se,Se,Se,Se,Se,Se,Se⟩,Sh)
 else if op=19 then(⟨1,6,Se,Se,Se,Se,Se,Se,Se⟩,Sh)
 else if op=5 then(⟨0,4,Se,Sh,Se,Se,Se,Se,Se⟩,Sh)
 else if op=18 then(⟨0,6,Se,Sh,Se,Se,Se,Se,Se⟩,Sh)
 else if op=21 then(⟨0,7,Se,Sh,Se,Se,Se,Se,Se⟩,Sh)
 else if op=6 then(⟨2,0,Se,Se,Se,Se,Se,Se,Se⟩,Sh)
 else if op=7 then(⟨2,0,Se,Se,Se,Se,Se,Se,Se⟩,Sh)
 else if op=8 then(⟨2,2,Se,Se,Se,Se,Se,Se,Se⟩,Sh)
 else if op=9 then(⟨2,0,Se,Sh,Se,Se,Se,Se,Se⟩,Sh)
 else if op=10 then(⟨1,2,Se,Se,Se,Se,Se,Se,Se⟩,Sh)
 else H1 op
def useD(r:Us×Bool):D:=.tup [.agg r.1.cells,.bool r.2]
theorem Us.bd(x:Us):∀d∈x.cells,Bd 0 0 d:=by
 intro d hd;simp only[Us.cells,NX,List.not_mem_nil,or_false]at hd;rcases hd with rfl|rfl|rfl|rfl|rfl|rfl|rfl|rfl|rfl<;>first|exact .int _ _|exact .bool _
theorem H5(r:Us×Bool):Bd 0 0 (useD r):=.tup _ λi hi=>by
 match i,hi with
 |0,_=>exact aL (Us.bd _)
 |1,_=>exact .bool _
theorem Al(op:Int)(s:St):az Si 281 [.int .i64 op] s (useD (H1 op)) s:=by
 obtain⟨B,L,c⟩:=s;refine az.introN [] func281 rfl (by decide) aA (by kernel_rfl) [Sz 2 312,Sy 3] 34 rfl rfl ?_;simp only[vqM,tf3,E0,zA,zS];repeat' (first
  |(with_reducible refine am (λhc=>?_) (λhc=>?_)<;>simp only[vqM,tf3,E0,hc,zA,zL])
  |((with_reducible refine di ?_);refine SB ?_ (H5 _)<;>(try simp only[vqM,tf3,E0,zA])<;>(first|(simp only[useD,H1,Us.cells, *];done)|(simp_all[useD,H1,Us.cells];done)|(simp_all[useD,H1,Us.cells];omega))))
theorem Mc(op:Int)(s:St):az Si 248 [.int .i64 op] s (useD (useF op)) s:=by
 obtain⟨B,L,c⟩:=s;refine az.introN [] func248 rfl (by decide) aA (by kernel_rfl) [Sz 2 312,Sy 3] 49 rfl rfl ?_;simp only[vqM,tf3,E0,zA,zS,useD];repeat' (first
  |((with_reducible refine aG ?_);refine aa (Al _ _) ?_;simp only[vqM,tf3,E0,zA,vsUs,useD])
  |(with_reducible refine am (λhc=>?_) (λhc=>?_)<;>simp only[vqM,tf3,E0,hc,zA,zL])
  |((with_reducible refine di ?_);refine SB ?_ (H5 _)<;>(try simp only[vqM,tf3,E0,zA,vsUs])<;>(first|(simp only[useF,Us.cells, *];done)|(simp_all[useF,Us.cells];done)|(simp_all[useD,useF,Us.cells];omega))))
def ze(k:Ck)(w n:Int):Bool:=
 if w=1 then inB n k.d.params.length (w64 (k.d.vars-1))
 else if w=2 then inB n 0 (w64 (k.d.refs-1))
 else if w=3 then inB n 0 (w64 (k.d.arrays.length-1))
 else if w=4 then inB n 0 (w64 (k.x.globals.length-1))
 else if w=5 then inB n 0 (w64 (k.x.classes.length-1))
 else if w=6 then inB n 0 (w64 (k.x.queues.length-1))
 else if w=7 then inB n 0 (w64 (k.x.sinks.length-1))
 else if w=8 then inB n 0 (w64 (k.x.locks-1))
 else if w=9 then inB n 0 (w64 (k.x.parts-1))
 else if w=10 then inB n 1 1073741824
 else if w=11 then decide (n = -1) ||inB n k.d.params.length (w64 (k.d.vars-1))
 else decide (n=0)
theorem Di(k:Ck)(w n:Int)(s:St):az Si 249 [.agg k.d.cells,.agg k.x.cells,.int .i64 w,.int .i64 n] s (.bool (ze k w n)) s:=by
 obtain⟨B,L,c⟩:=s;refine az.introN [] func249 rfl (by decide) aA (by kernel_rfl) [Sy 8] 101 rfl rfl ?_;simp only[vqM,zA,zS];repeat' (first
  |((with_reducible refine aG ?_);refine aa (fR _ _ _ _) ?_;simp only[vqM])
  |(with_reducible refine am (λhc=>?_) (λhc=>?_)<;>simp only[vqM,tf3,eo,sB,bY,fO,kM,bi,bS,ii,eE,hc,zA,au,ak,aI,ab,aT])
  |((with_reducible refine di ?_);refine SB ?_ (.bool _)<;>(try simp only[vqM])<;>(first|(simp only[ze, *,M6,L5];done)|(simp_all[ze];done)|(simp_all[ze];omega))))
def mQ(k:Ck)(s:Sm):Bool:=s.args.all (valueB k)&&(s.ptrs.all (λn=>inB n 0 (w64 (k.d.refs-1)))&&(decide ((s.args.length:Int)≤12)&&decide ((s.ptrs.length:Int)≤4)))
theorem FZ(q:Ck)(x:Sm)(s:St):az Si 254 [.agg q.d.cells,.agg x.cells] s (.bool (mQ q x)) s:=by
 refine az.small λhsm=>?_;have hlen:(Ex.encs x.args).length≤281474976710656:=(hsm _ (.tail _ (.head _))).sl (o:=.none) (by cases x;simp[Sm.cells,Sm.args]);have hlen2:(aj x.ptrs).length≤281474976710656:=(hsm _ (.tail _ (.head _))).sl (o:=.none) (by cases x;simp[Sm.cells,Sm.ptrs]);rw[ai]at hlen;rw[ab]at hlen2;clear hsm;obtain⟨B,L,c⟩:=s;refine az.introN [] func254 rfl (by decide) aA (by kernel_rfl) [Sy 4] 49 rfl rfl ?_;simp only[vqM,zA,zS];refine ae [2,3,5] ?_;simp only[vke,zB,zA];refine aE aA x.args.length (λk e s=>(∀z∈x.args.take k,valueB q z=Sh)∧e=[J,J,.box B.length 0,.box (B.length+1) 0,J,.int .i64 (k:Int),J,J,J,J,J,J,J,J,J,J,J,J,J,J,J,J,J,J,J,J,J,J,J,J,J,J,J,J,J,J,J,J,J,J,J,J,J,J,J,J,J,J,J]∧s=⟨B++[.cells q.d.cells,.cells x.cells],L,c⟩) ?_ ?_ 0 _ _ (L7 _) ⟨λz h=>by simp at h,rfl,rfl⟩
 ·rintro k e s hk ⟨hI,rfl,rfl⟩ ihl;have hx:x.args[k]?=Sd x.args[k]:=K4 hk;have hg:(Ex.encs x.args)[k]?=Sd (x.args[k].cells):=by simp[Ex.encs_map,hx]
  have hklt:((k:Int)<(x.args.length:Int))=True:=by simp;exact hk
  have hxm:x.args[k]∈x.args:=NY hk;generalize x.args[k]=xx at hx hg hxm;simp only[vqM,vt86,zA,ai,hklt,decide_true,natle0,K3,hg];refine aa (yC q _ _) ?_;simp only[vqM];refine am (λhc=>?_) (λhc=>?_)
  ·have hb:valueB q xx=Se:=by simpa using hc
   simp only[vqM];refine SB ?_ (.bool _);simp only[vqM];have:x.args.all (valueB q)=Se:=O4.2 ⟨xx,hxm,by simp[hb]⟩
   rw[mQ,this,M7]
  ·have hb:valueB q xx=Sh:=by simpa using hc
   simp only[vqM];rw[ap (by omega)];refine ae [2,3,5] ?_;simp only[vke,zB,zA];refine ihl _ _ ⟨λz hz=>?_,rfl,rfl⟩;rw[N4,hx]at hz;rcases Od.1 hz with hz|hz
   ·exact hI z hz
   ·simp at hz;subst hz;exact hb
 ·rintro e s ⟨hI,rfl,rfl⟩;have hklt:((x.args.length:Int)<(x.args.length:Int))=False:=by simp
  rw[N6]at hI;simp only[vqM,vt86,zA,ai,hklt,decide_false];have hq:x.args.all (valueB q)=Sh:=N0.2 hI;clear hI hklt;refine ae [2,3,6] ?_;simp only[vke,zB,zA];refine aE aA x.ptrs.length (λk e s=>(∀z∈x.ptrs.take k,inB z 0 (w64 (q.d.refs-1))=Sh)∧e=[J,J,.box B.length 0,.box (B.length+1) 0,J,J,.int .i64 (k:Int),J,J,J,J,J,J,J,J,J,J,J,J,J,J,J,J,J,J,J,J,J,J,J,J,J,J,J,J,J,J,J,J,J,J,J,J,J,J,J,J,J,J]∧s=⟨B++[.cells q.d.cells,.cells x.cells],L,c⟩) ?_ ?_ 0 _ _ (L7 _) ⟨λz h=>by simp at h,rfl,rfl⟩
  ·rintro k e s hk ⟨hI,rfl,rfl⟩ ihl;have hx:x.ptrs[k]?=Sd x.ptrs[k]:=K4 hk;have hg:(aj x.ptrs)[k]?=Sd ([.int .i64 x.ptrs[k]]):=by simp[aj,hx]
   have hklt:((k:Int)<(x.ptrs.length:Int))=True:=by simp;exact hk
   have hxm:x.ptrs[k]∈x.ptrs:=NY hk;generalize x.ptrs[k]=xx at hx hg hxm;simp only[vqM,vt86,zA,ab,hklt,decide_true,natle0,K3,hg,aT];refine aa (fR _ _ _ _) ?_;simp only[vqM];refine am (λhc=>?_) (λhc=>?_)
   ·have hb:inB xx 0 (w64 (q.d.refs-1))=Se:=by simpa using hc
    simp only[vqM];refine SB ?_ (.bool _);simp only[vqM];have:(x.ptrs.all λn=>inB n 0 (w64 (q.d.refs-1)))=Se:=O4.2 ⟨xx,hxm,by simp[hb]⟩
    rw[mQ,this,M7,N2]
   ·have hb:inB xx 0 (w64 (q.d.refs-1))=Sh:=by simpa using hc
    simp only[vqM];rw[ap (by omega)];refine ae [2,3,6] ?_;simp only[vke,zB,zA];refine ihl _ _ ⟨λz hz=>?_,rfl,rfl⟩;rw[N4,hx]at hz;rcases Od.1 hz with hz|hz
    ·exact hI z hz
    ·simp at hz;subst hz;exact hb
  ·rintro e s ⟨hI,rfl,rfl⟩;have hklt:((x.ptrs.length:Int)<(x.ptrs.length:Int))=False:=by simp
   rw[N6]at hI;simp only[vqM,vt86,zA,ab,hklt,decide_false,ai];have hq2:(x.ptrs.all λn=>inB n 0 (w64 (q.d.refs-1)))=Sh:=N0.2 hI;clear hI hklt;repeat' (first
    |(with_reducible refine am (λhc=>?_) (λhc=>?_)<;>simp only[vqM,vt86,hc,zA,ab])
    |((with_reducible refine di ?_);refine SB ?_ (.bool _)<;>(try simp only[vqM])<;>(first|(simp only[mQ, *,K8,M7,N2];done)|(simp_all[mQ,hq,hq2];done)|(simp_all[mQ,hq,hq2];omega))))
def HQ(e:Ex):Bool:=decide (e.op=0)&&(decide (e.n=0)&&(decide (e.v=0)&&decide ((e.a.length:Int)=0)))
def HR(e:Co):Bool:=decide (e.op=0)&&(decide ((e.a.length:Int)=0)&&decide ((e.c.length:Int)=0))
def rI(k:Ck)(u:Us×Bool)(s:Sm):Bool:=!u.2 ||(!inB s.site 1 1073741824 ||(!ze k u.1.n s.n || !ze k u.1.m s.m))
def vR1(s:Sm):Bool:=if s.op=12 then inB s.v 1 16 else decide (s.v=0)
def vR(s:Sm):Bool:=if s.op=14 then inB s.v 1 31 else vR1 s
def sQ(k:Ck)(u:Us)(s:Sm):Bool:=!vR s ||((u.x && !valueB k s.x) ||((!u.x && !HQ s.x) ||((u.y && !valueB k s.y) ||((!u.y && !HQ s.y) ||((u.c && !testB k s.c) ||(!u.c && !HR s.c))))))
def sP(k:Ck)(u:Us)(s:Sm):Bool:=(u.call && !mQ k s) ||(!u.call&&decide (0<w64 ((s.args.length:Int)+s.ptrs.length)))
def FB(u:Us)(s:Sm):Bool:=(u.body ||decide ((s.body.length:Int)=0))&&(u.els ||decide ((s.els.length:Int)=0))
def u0(k:Ck)(s:Sm):Bool:=!rI k (useF s.op) s&&(!sQ k (useF s.op).1 s&&(!sP k (useF s.op).1 s&&FB (useF s.op).1 s))
theorem Jp(q:Ck)(x:Sm)(s:St):az Si 206 [.agg q.d.cells,.agg q.x.cells,.agg x.cells] s (.bool (u0 q x)) s:=by
 obtain⟨B,L,c⟩:=s;have hst:u0 q x=(!rI q (useF x.op) x&&(!sQ q (useF x.op).1 x&&(!sP q (useF x.op).1 x&&FB (useF x.op).1 x))):=rfl;refine az.introN [(2,.cut),(4,.cut),(9,.cut),(11,.cut)] func206 rfl (by decide) aA (by kernel_rfl) [Sy 6] 168 rfl rfl ?_;simp only[vqM,vt87,zA,zS,zB];refine aa (Mc _ _) ?_;generalize useF x.op=u at hst⊢;obtain⟨u,is⟩:=u;simp only[vqM,vt87,zA,zB,useD,vsUs];refine bv aA [3,4,5,7,43] [J,J,J,.box B.length 0,.box (B.length+1) 0,.box (B.length+2) 0,J,.box (B.length+3) 0,J,J,J,J,J,J,J,J,J,J,J,J,J,J,J,J,J,J,J,J,J,J,J,J,J,J,J,J,J,J,J,J,J,J,J,.bool (rI q (u,is) x),J,J,J,J,J,J,J,J,J,J,J,J,J,J,J,J,J,J,J,J,J,J,J,J,J,J,J,J,J,J,J,J,J,J,J,J,J,J,J,J,J,J,J,J,J,J,J,J,J,J,J,J,J,J,J,J,J,J,J,J,J,J,J,J,J,J,J,J,J,J,J,J,J,J,J,J,J,J,J,J,J,J,J,J,J,J,J,J,J,J,J,J,J,J,J,J,J,J,J,J,J,J,J,J,J,J,J,J,J,J,J,J,J,J,J,J,J,J,J,J,J,J,J,J] (λs=>s=⟨B++[.cells q.d.cells,.cells q.x.cells,.cells x.cells,.cells u.cells],L,c⟩) ?_ ?_
 ·simp only[vqM];repeat' (first
   |((with_reducible refine aG ?_);refine aa (fR _ _ _ _) ?_;simp only[vqM])
   |((with_reducible refine aG ?_);refine aa (Di _ _ _ _) ?_;simp only[vqM])
   |(with_reducible refine am (λhc=>?_) (λhc=>?_)<;>simp only[vqM,vt87,hc,zA,vsUs])
   |((with_reducible refine di ?_);refine aD ⟨?_,rfl⟩<;>simp only[vke,zB,zA]<;>(first|(simp only[rI, *,M6,L5,NW];done)|(simp_all[rI];done)|(simp_all[rI];omega))))
 rintro s rfl;simp only[vqM];refine am (λhc=>?_) (λhc=>?_)
 ·simp only[vqM,zB];refine SB ?_ (.bool _);simp only[vqM];rw[hst,hc];rfl
 rw[hc,NZ,K8]at hst;simp only[vqM,zB];refine kl ?_;simp only[vqM,vt87,zA];refine fD (λe s=>keep [3,4,5,7,9] e=[J,J,J,.box B.length 0,.box (B.length+1) 0,.box (B.length+2) 0,J,.box (B.length+3) 0,J,.bool (vR1 x),J,J,J,J,J,J,J,J,J,J,J,J,J,J,J,J,J,J,J,J,J,J,J,J,J,J,J,J,J,J,J,J,J,J,J,J,J,J,J,J,J,J,J,J,J,J,J,J,J,J,J,J,J,J,J,J,J,J,J,J,J,J,J,J,J,J,J,J,J,J,J,J,J,J,J,J,J,J,J,J,J,J,J,J,J,J,J,J,J,J,J,J,J,J,J,J,J,J,J,J,J,J,J,J,J,J,J,J,J,J,J,J,J,J,J,J,J,J,J,J,J,J,J,J,J,J,J,J,J,J,J,J,J,J,J,J,J,J,J,J,J,J,J,J,J,J,J,J,J,J,J,J,J,J,J,J,J,J]∧s=⟨B++[.cells q.d.cells,.cells q.x.cells,.cells x.cells,.cells u.cells],L,c⟩) ?_ ?_
 ·refine cI aA ?_;simp only[vqM,vt87,zA,zB];refine am (λh=>?_) (λh=>?_)
  ·simp only[vqM,vt87,zA];refine aa (fR _ _ _ _) ?_;rw[show inB x.v 1 16=vR1 x by rw[vR1,if_pos (of_decide_eq_true h)]];simp only[vqM];exact bM ⟨by simp only[vke,zB,zA],rfl⟩
  ·rw[show decide (x.v=0)=vR1 x by rw[vR1,if_neg (of_decide_eq_false h)]];simp only[vqM];exact bM ⟨by simp only[vke,zB,zA],rfl⟩
 rintro e s ⟨he,rfl⟩;refine ae [3,4,5,7,9] ?_;rw[he];clear he;refine fD (λe s=>keep [3,4,5,7,9] e=[J,J,J,.box B.length 0,.box (B.length+1) 0,.box (B.length+2) 0,J,.box (B.length+3) 0,J,.bool (vR x),J,J,J,J,J,J,J,J,J,J,J,J,J,J,J,J,J,J,J,J,J,J,J,J,J,J,J,J,J,J,J,J,J,J,J,J,J,J,J,J,J,J,J,J,J,J,J,J,J,J,J,J,J,J,J,J,J,J,J,J,J,J,J,J,J,J,J,J,J,J,J,J,J,J,J,J,J,J,J,J,J,J,J,J,J,J,J,J,J,J,J,J,J,J,J,J,J,J,J,J,J,J,J,J,J,J,J,J,J,J,J,J,J,J,J,J,J,J,J,J,J,J,J,J,J,J,J,J,J,J,J,J,J,J,J,J,J,J,J,J,J,J,J,J,J,J,J,J,J,J,J,J,J,J,J,J,J,J]∧s=⟨B++[.cells q.d.cells,.cells q.x.cells,.cells x.cells,.cells u.cells],L,c⟩) ?_ ?_
 ·refine cI aA ?_;simp only[vqM,vt87,zA,zB];refine am (λh=>?_) (λh=>?_)
  ·simp only[vqM,vt87,zA];refine aa (fR _ _ _ _) ?_;rw[show inB x.v 1 31=vR x by rw[vR,if_pos (of_decide_eq_true h)]];simp only[vqM];exact bM ⟨by simp only[vke,zB,zA],rfl⟩
  ·rw[show vR1 x=vR x by rw[vR,if_neg (of_decide_eq_false h)]];simp only[vqM];exact bM ⟨by simp only[vke,zB,zA],rfl⟩
 rintro e s ⟨he,rfl⟩;refine ae [3,4,5,7,9] ?_;rw[he];clear he;refine cI aA ?_;simp only[vqM,zB];refine bv aA [3,4,5,7,126] [J,J,J,.box B.length 0,.box (B.length+1) 0,.box (B.length+2) 0,J,.box (B.length+3) 0,J,J,J,J,J,J,J,J,J,J,J,J,J,J,J,J,J,J,J,J,J,J,J,J,J,J,J,J,J,J,J,J,J,J,J,J,J,J,J,J,J,J,J,J,J,J,J,J,J,J,J,J,J,J,J,J,J,J,J,J,J,J,J,J,J,J,J,J,J,J,J,J,J,J,J,J,J,J,J,J,J,J,J,J,J,J,J,J,J,J,J,J,J,J,J,J,J,J,J,J,J,J,J,J,J,J,J,J,J,J,J,J,J,J,J,J,J,J,.bool (sQ q u x),J,J,J,J,J,J,J,J,J,J,J,J,J,J,J,J,J,J,J,J,J,J,J,J,J,J,J,J,J,J,J,J,J,J,J,J,J,J,J,J,J] (λs=>s=⟨B++[.cells q.d.cells,.cells q.x.cells,.cells x.cells,.cells u.cells],L,c⟩) ?_ ?_
 ·generalize hv:vR x=v;simp only[vqM];repeat' (first
   |((with_reducible refine aG ?_);refine aa (yC _ _ _) ?_;simp only[vqM])
   |((with_reducible refine aG ?_);refine aa (Dj _ _) ?_;simp only[vqM])
   |((with_reducible refine aG ?_);refine aa (IS _ _ _) ?_;simp only[vqM])
   |((with_reducible refine aG ?_);refine aa (Dk _ _) ?_;simp only[vqM])
   |(with_reducible refine am (λhc=>?_) (λhc=>?_)<;>simp only[vqM,vt87,hc,zA,zS,zL,vsUs])
   |((with_reducible refine di ?_);refine aD ⟨?_,rfl⟩<;>simp only[vke,zB,zA]<;>(first|(simp only[sQ,HQ,HR, *,K8,M7,N5,N2,M6,L5,NW,M4,N3,NZ];done)|(simp_all[sQ,HQ,HR];done)|(simp_all[sQ,HQ,HR,hv];omega))))
 rintro s rfl;simp only[vqM];refine am (λhc=>?_) (λhc=>?_)
 ·simp only[vqM,zB];refine SB ?_ (.bool _);simp only[vqM];rw[hst,hc];rfl
 rw[hc,NZ,K8]at hst;simp only[vqM,zB];refine bv aA [3,4,5,7,149] [J,J,J,.box B.length 0,.box (B.length+1) 0,.box (B.length+2) 0,J,.box (B.length+3) 0,J,J,J,J,J,J,J,J,J,J,J,J,J,J,J,J,J,J,J,J,J,J,J,J,J,J,J,J,J,J,J,J,J,J,J,J,J,J,J,J,J,J,J,J,J,J,J,J,J,J,J,J,J,J,J,J,J,J,J,J,J,J,J,J,J,J,J,J,J,J,J,J,J,J,J,J,J,J,J,J,J,J,J,J,J,J,J,J,J,J,J,J,J,J,J,J,J,J,J,J,J,J,J,J,J,J,J,J,J,J,J,J,J,J,J,J,J,J,J,J,J,J,J,J,J,J,J,J,J,J,J,J,J,J,J,J,J,J,J,J,J,.bool (sP q u x),J,J,J,J,J,J,J,J,J,J,J,J,J,J,J,J,J,J] (λs=>s=⟨B++[.cells q.d.cells,.cells q.x.cells,.cells x.cells,.cells u.cells],L,c⟩) ?_ ?_
 ·simp only[vqM,vt87,zA,vsUs];repeat' (first
   |((with_reducible refine aG ?_);refine aa (FZ _ _ _) ?_;simp only[vqM])
   |(with_reducible refine am (λhc=>?_) (λhc=>?_)<;>simp only[vqM,vt87,hc,zA,vsUs,ai,ab,aT])
   |((with_reducible refine di ?_);refine aD ⟨?_,rfl⟩<;>simp only[vke,zB,zA]<;>(first|(simp only[sP, *,K8,M7,N5,N2,L5,M4,N3,NZ];done)|(simp_all[sP];done)|(simp_all[sP];omega))))
 rintro s rfl;simp only[vqM];refine am (λhc=>?_) (λhc=>?_)
 ·simp only[vqM,zB];refine SB ?_ (.bool _);simp only[vqM];rw[hst,hc];rfl
 rw[hc,NZ,K8]at hst;simp only[vqM,vt87,zA,zB,vsUs];repeat' (first
  |(with_reducible refine am (λhc=>?_) (λhc=>?_)<;>simp only[vqM,vt87,hc,zA,vsUs,av])
  |((with_reducible refine di ?_);refine SB ?_ (.bool _)<;>(try simp only[vqM])<;>(first|(simp only[FB, *,K8,M7,N5,M6,L5,NW,M4];done)|(simp_all[hst,FB];done)|(simp_all[hst,FB];omega))))
structure SmallS (s:Sm):Prop where
 ar:s.args.length≤281474976710656
 pt:s.ptrs.length≤281474976710656
 ca:s.c.a.length≤281474976710656
 cc:s.c.c.length≤281474976710656
theorem BV{a b:Nat}(ha:a≤281474976710656)(hb:b≤281474976710656):w64 ((a:Int)+b)=a+b:=bJ (by omega)
theorem J6{s:Sm}(h:SmallS s):HR s.c=(decide (s.c.op=0)&&decide (w64 (s.c.a.length+s.c.c.length)=0)):=by
 rw[BV h.ca h.cc,HR,O9];simp only[M1,decide_eq_true_eq];omega
theorem Ee{s:Sm}(h:SmallS s):decide (0<w64 ((s.args.length:Int)+s.ptrs.length)) = !decide (w64 ((s.args.length:Int)+s.ptrs.length)=0):=by
 rw[BV h.ar h.pt,O9];simp only[Oy,decide_eq_true_eq,decide_eq_false_iff_not];omega
theorem J4(k:Ck):numberB k 3=λn=>inB n 0 (w64 (k.d.refs-1)):=by
 funext n;rfl
theorem F5(k:Ck)(s:Sm)(f:Fl)(u:Us)(h:SmallS s)(e1:ze k u.n s.n=numberB k f.n s.n)(e2:ze k u.m s.m=numberB k f.m s.m)(e3:vR s=numberB k f.v s.v)
  (ex:u.x=f.x) (ey:u.y=f.y) (ec:u.c=f.c) (el:u.call=f.call) (eb:u.body=f.body) (ee:u.els=f.rest) (hn:CA f=Se) :
  (!rI k (u,Sh) s&&(!sQ k u s&&(!sP k u s&&FB u s))) =
  (!(CA f || !inB s.site 1 1073741824 || !numberB k f.n s.n || !numberB k f.m s.m || !numberB k f.v s.v) &&
   (ei k f.x s.x&&ei k f.y s.y&&fw k f s.c&&gG k f s&&(f.body ||decide ((s.body.length:Int)=0))&&(f.rest ||decide ((s.els.length:Int)=0)))):=by
 have hc:=J6 h;have hl:=Ee h;simp only[rI,sQ,sP,FB,ei,fw,gG,e1,e2,e3,ex,ey,ec,el,eb,ee,hn,hc,hl,mQ,bA,J4,HQ];generalize inB s.site 1 1073741824=b1;generalize numberB k f.n s.n=b2;generalize numberB k f.m s.m=b3;generalize numberB k f.v s.v=b4;generalize f.x=b5;generalize f.y=b6;generalize f.c=b7;generalize f.call=b8;generalize f.body=b9;generalize f.rest=b10;generalize s.args.all (valueB k)=c1;generalize(s.ptrs.all λn=>inB n 0 (w64 (k.d.refs-1)))=c2;generalize decide ((s.args.length:Int)≤12)=c3;generalize decide ((s.ptrs.length:Int)≤4)=c4;generalize decide (w64 ((s.args.length:Int)+s.ptrs.length)=0)=c5;generalize decide (s.c.op=0)=c6;generalize decide (w64 (s.c.a.length+s.c.c.length)=0)=c0;generalize testB k s.c=c7;generalize valueB k s.x=c8;generalize valueB k s.y=c9;cases b1<;>simp only[N3,NZ,M6,NW,M7,L5,M4];cases b2<;>simp only[N3,NZ,M6,M7,L5];cases b3<;>simp only[N3,NZ,M6,M7,K8,L5];cases b4<;>simp only[N3,NZ,M6,M7,K8,L5];cases b5<;>cases b6<;>cases b7<;>cases b8<;>simp only[N3,NZ,M7,K8,L5,M4,Q1,QI,Bool.and_assoc]<;>ac_rfl
theorem F6(k:Ck)(s:Sm)(h:SmallS s):u0 k s=eG k s:=by
 have hop:∀{o:Int}{f:Fl}{u:Us},s.op=o→tableF o=f→useF o=(u,Sh)→ze k u.n s.n=numberB k f.n s.n→ze k u.m s.m=numberB k f.m s.m→vR s=numberB k f.v s.v→u.x=f.x→u.y=f.y→u.c=f.c→u.call=f.call→u.body=f.body→u.els=f.rest→CA f=Se→u0 k s=eG k s:=by
  intro o f u h1 h2 h3 e1 e2 e3 ex ey ec el eb ee hn;simp only[u0,eG,h1,h2,h3];exact F5 k s f u h e1 e2 e3 ex ey ec el eb ee hn
 have hv:∀{o:Int},s.op=o→vR s=if o=14 then inB s.v 1 31 else if o=12 then inB s.v 1 16 else decide (s.v=0):=by
  intro o h1;rw[vR,vR1,h1]
 have one:∀o:Int,1≤o→o≤24→s.op=o→u0 k s=eG k s:=by
  intro o h1 h2 h3;have:o=1∨o=2∨o=3∨o=4∨o=5∨o=6∨o=7∨o=8∨o=9∨o=10∨o=11∨o=12∨o=13∨o=14∨o=15∨o=16∨o=17∨o=18∨o=19∨o=20∨o=21∨o=22∨o=23∨o=24:=by omega
  rcases this with rfl|rfl|rfl|rfl|rfl|rfl|rfl|rfl|rfl|rfl|rfl|rfl|rfl|rfl|rfl|rfl|rfl|rfl|rfl|rfl|rfl|rfl|rfl|rfl
  all_goals exact hop h3 rfl rfl rfl rfl (hv h3) rfl rfl rfl rfl rfl rfl rfl
 by_cases hr:1≤s.op∧s.op≤24
 ·exact one _ hr.1 hr.2 rfl
 ·have hb:∀o:Int,1≤o→o≤24→(s.op=o)=False:=λo h1 h2=>eq_false (by omega);have h1:(useF s.op).2=Se:=by simp only[useF,H1,hb,Rj,if_false]
  have h2:CA (tableF s.op)=Sh:=by
   simp only[tableF,kW,hb,Rj,if_false];rfl
  simp only[u0,eG,rI,h1,h2,NZ,M6,N3,M7]
theorem Jq(q:Ck)(x:Sm)(s:St):az Si 206 [.agg q.d.cells,.agg q.x.cells,.agg x.cells] s (.bool (eG q x)) s:=by
 refine az.small λhsm=>?_;have h1:(Ex.encs x.args).length≤281474976710656:=(hsm _ (.tail _ (.tail _ (.head _)))).sl (o:=.none) (by cases x;simp[Sm.cells,Sm.args]);have h2:(aj x.ptrs).length≤281474976710656:=(hsm _ (.tail _ (.tail _ (.head _)))).sl (o:=.none) (by cases x;simp[Sm.cells,Sm.ptrs]);have h3:(Ex.encs x.c.a).length≤281474976710656:=(hsm _ (.tail _ (.tail _ (.head _)))).sl (o:=.none) (by
  obtain⟨site,op,n,m,v,x,y,⟨o,a,c⟩,args,ptrs,body,els⟩:=x;simp[Sm.cells,Sm.c,Co.cells,Co.a])
 have h4:(Co.encs x.c.c).length≤281474976710656:=(hsm _ (.tail _ (.tail _ (.head _)))).sl (o:=.none) (by
  obtain⟨site,op,n,m,v,x,y,⟨o,a,c⟩,args,ptrs,body,els⟩:=x;simp[Sm.cells,Sm.c,Co.cells,Co.c])
 rw[ai]at h1 h3;rw[ab]at h2;rw[aF]at h4;rw[←F6 q x ⟨h1,h2,h3,h4⟩];exact Jp q x s
theorem Jy(b:ByteArray)(hb:b.size≤1000000000)(s:St):az Si 147 [.str b] s (.bool (gT b)) s:=by
 refine az.introN [(4,.cut),(5,.cut)] func147 rfl (by decide) aA (by kernel_rfl) [Sy 2] 60 rfl rfl ?_;simp only[vqM,zA,zS,zB];refine ae [0,3] ?_;simp only[vke,zB,zA];refine cx aA b.size (λk=>[.str b,J,J,.int .i64 (k:Int),J,J,J,J,J,J,J,J,J,J,J,J,J,J,J,J,J,J,J,J,J,J,J,J,J,J,J,J,J,J,J,J,J,J,J,J,J,J,J,J,J,J,J,J,J,J,J,J,J,J,J,J,J,J,J,J]) (λ_=>s) (λk=>o9 b.data.toList 0=o9 (b.data.toList.drop k) k) ?_ ?_ 0 (L7 _) rfl
 ·intro k hk hI ih;have hg:=xj b k hk;have hkl:k<b.data.toList.length:=by simpa using hk
  have hd:b.data.toList.drop k=b.data.toList[k]::b.data.toList.drop (k+1):=List.drop_eq_getElem_cons hkl;rw[hd,o9]at hI;generalize b.data.toList[k]=c at hg hd hI;have hklt:((k:Int)<(b.size:Int))=True:=by simp;exact hk
  simp only[vqM,vt48,zB,hklt,decide_true];refine bv aA [0,3,4] [.str b,J,J,.int .i64 (k:Int),.bool (gZ c.toNat),J,J,J,J,J,J,J,J,J,J,J,J,J,J,J,J,J,J,J,J,J,J,J,J,J,J,J,J,J,J,J,J,J,J,J,J,J,J,J,J,J,J,J,J,J,J,J,J,J,J,J,J,J,J,J] (λs1=>s1=s) ?_ ?_
  ·simp only[vqM,vt48,natle0,K3,hg];repeat' (first
    |(with_reducible refine am (λhc=>?_) (λhc=>?_)<;>simp only[vqM,vt48,hc,natle0,K3,hg])
    |((with_reducible refine di ?_);refine aD ⟨?_,rfl⟩<;>simp only[vke,zB,zA]<;>(first|(simp only[gZ, *,K8,M7,N5,N2,M6,L5,M4];done)|(simp_all[gZ];done)|(simp_all[gZ];omega))))
  rintro s1 rfl;simp only[vqM,zB];refine bv aA [0,3,56] [.str b,J,J,.int .i64 (k:Int),J,J,J,J,J,J,J,J,J,J,J,J,J,J,J,J,J,J,J,J,J,J,J,J,J,J,J,J,J,J,J,J,J,J,J,J,J,J,J,J,J,J,J,J,J,J,J,J,J,J,J,J,.bool (Bw k c.toNat),J,J,J] (λs2=>s2=s1) ?_ ?_
  ·simp only[vqM];repeat' (first
    |(with_reducible refine am (λhc=>?_) (λhc=>?_)<;>simp only[vqM,vt48,hc,natle0,K3,hg])
    |((with_reducible refine di ?_);refine aD ⟨?_,rfl⟩<;>simp only[vke,zB,zA]<;>(first|(simp only[Bw, *,K8,M7,N5,N2,M6,L5,NW,M4];done)|(simp_all[Bw];done)|(simp_all[Bw];omega))))
  rintro s2 rfl;simp only[vqM];refine am (λhc=>?_) (λhc=>?_)
  ·simp only[vqM,zB];refine SC ?_ (.bool _);simp only[vqM];simp only[gT,hI,hc,N3,M7]
  ·simp only[vqM];rw[ap (by omega)];refine ae [0,3] ?_;simp only[vke,zB,zA];refine ih ?_;rw[hI,hc];rfl
 ·intro hI;rw[List.drop_of_length_le (by simp)]at hI;have hklt:((b.size:Int)<(b.size:Int))=False:=by simp
  simp only[vqM,vt48,zB,hklt,decide_false];refine aa (fR _ _ _ _) ?_;simp only[vqM];refine SC ?_ (.bool _);simp only[vqM];simp only[gT,hI,o9,K8]
mutual
def Sm.dp:Sm→Nat
 |.mk _ _ _ _ _ _ _ _ _ _ body els=>1+max (dpL body) (dpL els)
def dpL:List Sm→Nat
 | []=>0
 |x::l=>max x.dp (dpL l)
end
theorem Sm.dp_eq(x:Sm):x.dp=1+max (dpL x.body) (dpL x.els):=by cases x;simp only[Sm.dp,Sm.body,Sm.els]
theorem CQ:∀l m:List Sm,dpL (l++m)=max (dpL l) (dpL m)
 | [],m=>by simp[dpL]
 |x::l,m=>by rw[Ob,dpL,dpL,CQ l m,Nat.max_assoc]
mutual
theorem MW:(x:Sm)→x.dp≤1+(cu x.body+cu x.els)
 |.mk site op n m v x y c args ptrs body els=>by
  rw[Sm.dp_eq];simp only[Sm.body,Sm.els];have:=lf body
  have:=lf els
  omega
theorem lf:(l:List Sm)→dpL l≤cu l
 | []=>by simp[dpL]
 |x::l=>by
  have h1:=MW x;have h2:=lf l;have h3:=dA (x::l);rw[smsL,K5,Sm.sms_eq,K7,K5,dA,dA,dA]at h3;rw[dpL];omega
end
theorem HS(a b:Nat):(if (a:Int)<(b:Int)then(b:Int)else(a:Int))=((max a b:Nat):Int):=by
 split<;>omega
def Db(l:List Sm):Prop:=∀s:St,cu l<1000000→az Si 148 [.slice .none (Sm.encs l)] s (.int .i64 (dpL l:Nat)) s
theorem t6(l:List Sm)(ih:∀x∈l,Db x.body∧Db x.els):Db l:=by
 intro s hl;have hll:l.length≤cu l:=by rw[jO];omega
 refine az.introN [(5,.text [Se,Se,Se,Se,Se,Se,Sh,Se,Se,Se,Se,Se,Sh,Se,Se,Se,Se] [(11,0)])] func148 rfl (by decide) aA (by kernel_rfl) [Sy 2] 28 rfl rfl ?_;simp only[vqM,zA,zS,zB];refine ae [0,3,4] ?_;simp only[vke,zB,zA];refine aE aA l.length (λk e s1=>e=[.slice .none (Sm.encs l),J,J,.int .i64 ((dpL (l.take k):Nat):Int),.int .i64 (k:Int),J,J,J,J,J,J,J,J,J,J,J,J,J,J,J,J,J,J,J,J,J,J,J]∧s1=s) ?_ ?_ 0 _ _ (L7 _) ⟨rfl,rfl⟩
 ·rintro k e s1 hk ⟨rfl,rfl⟩ ihl;have hx:l[k]?=Sd l[k]:=K4 hk;have hg:(Sm.encs l)[k]?=Sd l[k].cells:=by simp[Sm.encs_map,hx]
  have hklt:((k:Int)<(l.length:Int))=True:=by simp;exact hk
  have hnext:dpL (l.take (k+1))=max (dpL (l.take k)) (1+max (dpL l[k].body) (dpL l[k].els)):=by
   rw[N4,hx,Ov,CQ,dpL,dpL,Sm.dp_eq];omega
  obtain⟨ih1,ih2⟩:=ih _ (NY hk);have hm:=uq _ _ (NY hk);have d1:=lf l[k].body;have d2:=lf l[k].els;have d3:=lf (l.take k);have d4:=v7 l k;generalize l[k]=x at hx hg hnext ih1 ih2 hm d1 d2;simp only[vqM,pn,zB,av,hklt,decide_true,natle0,K3,hg];refine aa (ih1 _ (by omega)) ?_;simp only[vqM,pn,natle0,K3,hg];refine aa (ih2 _ (by omega)) ?_;simp only[vqM,pn];rw[ap (by omega)];refine ae [0,3,4] ?_;simp only[vke,zB,zA];rw[HS,aK (n:=1+((max (dpL x.body) (dpL x.els):Nat):Int)) (by omega),show 1+((max (dpL x.body) (dpL x.els):Nat):Int)=((1+max (dpL x.body) (dpL x.els):Nat):Int) by omega,HS];exact ihl _ _ ⟨by rw[hnext],rfl⟩
 ·rintro e s1 ⟨rfl,rfl⟩;have hklt:((l.length:Int)<(l.length:Int))=False:=by simp
  rw[N6];simp only[vqM,pn,zB,av,hklt,decide_false];refine SC ?_ (.int _ _);simp only[vqM]
mutual
theorem Mm:(x:Sm)→Db x.body∧Db x.els
 |.mk site op n m v x y c args ptrs body els=>⟨t6 body (sI body),t6 els (sI els)⟩
theorem sI:(l:List Sm)→∀x∈l,Db x.body∧Db x.els
 | []=>by intro x hx;simp at hx
 |y::l=>by
  intro x hx;rcases NX.1 hx with e|hx
  ·rw[e];exact Mm y
  ·exact sI l x hx
end
theorem JC(l:List Sm):Db l:=t6 l (sI l)
def iM(k:Ck)(l:List Sm):Bool:=(smsL l).all (eG k)
def FE(k:Ck)(x:Sm):Bool:=!eG k x ||(!iM k x.body || !iM k x.els)
def tT(q:Ck)(l:List Sm):Prop:=∀s:St,az Si 149 [.agg q.d.cells,.agg q.x.cells,.slice .none (Sm.encs l)] s (.bool (iM q l)) s
theorem pV(q:Ck)(l:List Sm)(ih:∀x∈l,tT q x.body∧tT q x.els):tT q l:=by
 intro s;refine az.small λhsm=>?_;have hlen:=(hsm _ (.tail _ (.tail _ (.head _)))).len;rw[av]at hlen;clear hsm;obtain⟨B,L,c⟩:=s;refine az.introN [(4,.cut)] func149 rfl (by decide) aA (by kernel_rfl) [Sy 6] 44 rfl rfl ?_;simp only[vqM,zA,zS,zB];refine ae [2,3,4,7] ?_;simp only[vke,zB,zA];refine aE aA l.length (λk e s=>iM q (l.take k)=Sh∧e=[J,J,.slice .none (Sm.encs l),.box B.length 0,.box (B.length+1) 0,J,J,.int .i64 (k:Int),J,J,J,J,J,J,J,J,J,J,J,J,J,J,J,J,J,J,J,J,J,J,J,J,J,J,J,J,J,J,J,J,J,J,J,J]∧s=⟨B++[.cells q.d.cells,.cells q.x.cells],L,c⟩) ?_ ?_ 0 _ _ (L7 _) ⟨rfl,rfl,rfl⟩
 ·rintro k e s hk ⟨hI,rfl,rfl⟩ ihl;have hx:l[k]?=Sd l[k]:=K4 hk;have hg:(Sm.encs l)[k]?=Sd l[k].cells:=by simp[Sm.encs_map,hx]
  have hklt:((k:Int)<(l.length:Int))=True:=by simp;exact hk
  have hnext:iM q (l.take (k+1)) = !FE q l[k]:=by
   rw[N4,hx,Ov,iM,oV,Qn,←iM,hI,smsL,smsL,List.append_nil,Sm.sms_eq,List.all_cons,Qn];simp only[FE,iM,K8,Q1,QI]
  have hspl:iM q l=(!FE q l[k]&&iM q (l.drop (k+1))):=by
   conv=>lhs;rw[←List.take_append_drop (k+1) l]
   rw[iM,oV,Qn,←iM,←iM,hnext]
  obtain⟨ih1,ih2⟩:=ih _ (NY hk);generalize l[k]=x at hx hg hnext hspl ih1 ih2;simp only[vqM,tf3,tf4,fO,eN,bi,cg,zB,av,hklt,decide_true];refine bv aA [2,3,4,7,43] [J,J,.slice .none (Sm.encs l),.box B.length 0,.box (B.length+1) 0,J,J,.int .i64 (k:Int),J,J,J,J,J,J,J,J,J,J,J,J,J,J,J,J,J,J,J,J,J,J,J,J,J,J,J,J,J,J,J,J,J,J,J,.bool (FE q x)] (λs=>s=⟨B++[.cells q.d.cells,.cells q.x.cells],L,c⟩) ?_ ?_
  ·simp only[vqM,tf3,tf4,fO,eN,bi,cg,natle0,K3,hg];repeat' (first
    |((with_reducible refine aG ?_);refine aa (Jq _ _ _) ?_;simp only[vqM])
    |((with_reducible refine aG ?_);refine aa (ih1 _) ?_;simp only[vqM])
    |((with_reducible refine aG ?_);refine aa (ih2 _) ?_;simp only[vqM])
    |(with_reducible refine am (λhc=>?_) (λhc=>?_)<;>simp only[vqM,tf3,tf4,fO,eN,bi,cg,hc,natle0,K3,hg])
    |((with_reducible refine di ?_);refine aD ⟨?_,rfl⟩<;>simp only[vke,zB,zA]<;>(first|(simp only[FE, *,M6,L5,NW];done)|(simp_all[FE];done)|(simp_all[FE];omega))))
  rintro s rfl;simp only[vqM];refine am (λhc=>?_) (λhc=>?_)
  ·simp only[vqM,zB];refine SB ?_ (.bool _);simp only[vqM];rw[hspl,hc];rfl
  ·simp only[vqM];rw[ap (by omega)];refine ae [2,3,4,7] ?_;simp only[vke,zB,zA];exact ihl _ _ ⟨by rw[hnext,hc];rfl,rfl,rfl⟩
 ·rintro e s ⟨hI,rfl,rfl⟩;have hklt:((l.length:Int)<(l.length:Int))=False:=by simp
  rw[N6]at hI;simp only[vqM,tf3,tf4,fO,eN,bi,cg,zB,av,hklt,decide_false];refine SB ?_ (.bool _);simp only[vqM];rw[hI]
mutual
theorem I4(q:Ck):(x:Sm)→tT q x.body∧tT q x.els
 |.mk site op n m v x y c args ptrs body els=>⟨pV q body (oT q body),pV q els (oT q els)⟩
theorem oT(q:Ck):(l:List Sm)→∀x∈l,tT q x.body∧tT q x.els
 | []=>by intro x hx;simp at hx
 |y::l=>by
  intro x hx;rcases NX.1 hx with e|hx
  ·rw[e];exact I4 q y
  ·exact oT q l x hx
end
theorem I3(q:Ck)(l:List Sm):tT q l:=pV q l (oT q l)
structure SameK (k j:Ck):Prop where
 par:k.d.params.length=j.d.params.length
 vars:k.d.vars=j.d.vars
 arr:k.d.arrays.length=j.d.arrays.length
 refs:k.d.refs=j.d.refs
 gl:k.x.globals.length=j.x.globals.length
 cl:k.x.classes.length=j.x.classes.length
 qu:k.x.queues.length=j.x.queues.length
 si:k.x.sinks.length=j.x.sinks.length
 lo:k.x.locks=j.x.locks
 pa:k.x.parts=j.x.parts
mutual
theorem qR{k j:Ck}(h:SameK k j):(e:Ex)→∀d,exprS k e d=exprS j e d
 |.mk op n v a=>λd=>by
  simp only[exprS,h.vars,h.arr,kD h a]
theorem kD{k j:Ck}(h:SameK k j):(l:List Ex)→∀d acc,exprsS k l d acc=exprsS j l d acc
 | []=>λd acc=>by simp only[exprsS]
 |x::l=>λd acc=>by simp only[exprsS,qR h x,kD h l]
end
mutual
theorem qX{k j:Ck}(h:SameK k j):(e:Co)→∀d,condS k e d=condS j e d
 |.mk op a c=>λd=>by
  simp only[condS,kD h,oI h c]
theorem oI{k j:Ck}(h:SameK k j):(l:List Co)→∀d acc,condsS k l d acc=condsS j l d acc
 | []=>λd acc=>by simp only[condsS]
 |x::l=>λd acc=>by simp only[condsS,qX h x,oI h l]
end
theorem wj{k j:Ck}(h:SameK k j)(e:Ex):valueB k e=valueB j e:=by simp only[valueB,qR h]
theorem xQ{k j:Ck}(h:SameK k j)(e:Co):testB k e=testB j e:=by simp only[testB,qX h]
theorem mD{k j:Ck}(h:SameK k j)(w n:Int):numberB k w n=numberB j w n:=by simp only[numberB,h.par,h.vars,h.refs,h.arr,h.gl,h.cl,h.qu,h.si,h.lo,h.pa]
theorem xY{k j:Ck}(h:SameK k j)(s:Sm):eG k s=eG j s:=by
 have h1:valueB k=valueB j:=funext λe=>wj h e;have h2:numberB k 3=numberB j 3:=funext λn=>mD h 3 n;simp only[eG,ei,fw,gG,mD h,h1,h2,xQ h]
def PgW(p:Pg)(o:Own)(hs:List Hd):List D:=p.d.cells++[.slice o (aO hs),.slice .none (ax p.defs),.slice .none (aj p.threads)]
theorem PgW.len(p:Pg)(o:Own)(hs:List Hd):(PgW p o hs).length=10:=rfl
theorem PgW.hd(p:Pg)(o:Own)(hs:List Hd):((PgW p o hs).drop 7)[0]?=Sd (.slice o (aO hs)):=rfl
theorem PgW.df(p:Pg)(o:Own)(hs:List Hd):((PgW p o hs).drop 8)[0]?=Sd (.slice .none (ax p.defs)):=rfl
theorem PgW.set(p:Pg)(o o':Own)(hs hs':List Hd):(PgW p o hs).take 7++.slice o' (aO hs')::(PgW p o hs).drop 8=PgW p o' hs':=rfl
theorem PgW.take(p:Pg)(o:Own)(hs:List Hd):(PgW p o hs).take 10=PgW p o hs:=rfl
theorem PgW.plain(p:Pg)(o:Own)(hs:List Hd):(PgW p o hs).map D.plain1=({p with heads:=hs}:Pg).cells:=rfl
def movedL(pre:List Df)(x:Df):List Df:=pre.takeWhile (λd=>decide (d.id<x.id))++[x]++pre.filter (λd=>decide (d.id > x.id))
def dcl(f:Int):Dc:={declared with firms:=f}
structure VD (d:Df) (n:Nat):Prop where
 hb:jx d declared=Sh
 st:∀q∈flatL 1 d.body,eG ⟨d,declared⟩ q.s=Sh∧q.depth≤10
 fl:(sitesS d).length≤40+n
 cn:(rawC (flatL 1 d.body)).length≤9
 nm:d.name.size≤8
 id:11≤d.id∧d.id≤21
 sr:∀s∈sitesS d,(100<s∧s≤1000)∨(20≤d.id∧5000+10*d.id≤s∧s≤5001+10*d.id)∨(8000+10*d.id≤s∧s≤8002+10*d.id)
structure VL (ds:List Df) (n:Nat):Prop where
 ne:ds≠[]
 ln:ds.length≤4+n
 nd:(ds.map (·.id)).Nodup
 ok:∀d∈ds,VD d n
 ca:∀d∈ds,∀q∈flatL 1 d.body,q.s.op=13→∃e∈ds,e.id<d.id∧q.s.m=e.id∧q.s.args.length=e.params.length∧q.s.ptrs.length=e.given.length
 sn:∀d∈ds,(sitesS d).Nodup
 sx:∀a∈ds,∀b∈ds,a.id≠b.id→∀x∈sitesS a,x ∉ sitesS b
structure VarOk (p:Pg) (n:Nat):Prop where
 fm:∃f,(f=2∨f=3)∧p.d=dcl f
 hds:p.heads=p.defs.map hdOf
 pw:p.defs.Pairwise (λa b=>a.id<b.id)
 vl:VL p.defs n
 tl:1≤p.threads.length∧p.threads.length≤2
 th:∀t∈p.threads,∃d∈p.defs,d.id=t∧isT d=Sh
theorem Aq(l:List Sm):(smsL l).map Sm.site=sitesL (flatL 1 l):=by
 rw[←eg l 1,sitesL,List.map_map];rfl
theorem yN(d:Df)(hN:cu d.body<999999)(s:St):az Si 77 [.agg d.cells] s (.slice .none (aj (sitesS d))) s:=by
 obtain⟨B,L,c⟩:=s;have hll:=dA d.body;have hss:sitesS d=(smsL d.body).map Sm.site++[d.site]:=by rw[Aq,sitesS]
 have hof:∀(n:Nat)(xs:List Int)(B:List Box),aZ (dE c 1 n) (aj xs) 1 ⟨B,liveN L c n,c+n⟩=Sh:=λn xs B=>cv (ba _);refine az.introN [] func77 rfl (by decide) aA (by kernel_rfl) [Sy 2] 29 rfl rfl ?_;simp only[vqM,oC,zA,zS];refine aa (uC d.body _ (by omega)) ?_;simp only[vqM,oC,zA,zM];refine ae [1,3,4,5] ?_;simp only[vke,zB,zA];refine aE aA (smsL d.body).length (λk e s=>e=[J,.box B.length 0,J,.slice .none (Sm.encs (smsL d.body)),.slice (dE c 1 k) (aj (((smsL d.body).take k).map Sm.site)),.int .i64 (k:Int),J,J,J,J,J,J,J,J,J,J,J,J,J,J,J,J,J,J,J,J,J,J,J]∧s=⟨B++[.cells d.cells],liveN L c k,c+k⟩) ?_ ?_ 0 _ _ (L7 _) ⟨rfl,rfl⟩
 ·rintro k e s hk ⟨rfl,rfl⟩ ih;have hx:(smsL d.body)[k]?=Sd (smsL d.body)[k]:=K4 hk;have hg:(Sm.encs (smsL d.body))[k]?=Sd (smsL d.body)[k].cells:=by simp[Sm.encs_map,hx]
  have hklt:((k:Int)<((smsL d.body).length:Int))=True:=by simp;exact hk
  have hnext:((smsL d.body).take (k+1)).map Sm.site=((smsL d.body).take k).map Sm.site++[(smsL d.body)[k].site]:=by rw[N4,hx,List.map_append];rfl
  have hl1:((((smsL d.body).take k).map Sm.site).length+1≤1000000)=True:=eq_true (by simp;omega);generalize(smsL d.body)[k]=y at hx hg hnext;simp only[vqM,oC,zA,zM,zL,av,hklt,decide_true,natle0,K3,hg,hof,aX,ab,hl1,bD];rw[ap (by omega)];refine ae [1,3,4,5] ?_;simp only[vke,zB,zA];exact ih _ _ ⟨by rw[hnext];rfl,rfl⟩
 ·rintro e s ⟨rfl,rfl⟩;have hklt:(((smsL d.body).length:Int)<((smsL d.body).length:Int))=False:=by simp
  rw[N6];have hl1:(((smsL d.body).map Sm.site).length+1≤1000000)=True:=eq_true (by simp;omega);simp only[vqM,oC,zA,zM,zL,av,hklt,decide_false,hof,aX,ab,hl1,bD];refine ao (.inr rfl) ?_ (aV (uK _)) (λ_ h=>bu h) (by omega);simp only[vqM];rw[hss]
theorem ku:∀l m:List Sm,cu (l++m)=cu l+cu m
 | [],m=>by simp[cu]
 |x::l,m=>by rw[Ob,cu,cu,ku l m];omega
theorem Cp{e e' sz by_:Nat}{a:Bool}{o:Own}{xs:List (List D)}{k:Nat}(ho:o≠.full)(h:k≤xs.length):slS (Sd (.slice e)) (Sd (e',sz,by_,a)) o xs Sf (Sd (.int .i64 (k:Int)))=Sd (.slice .none (xs.take k)):=by
 simp[slS,evBd,h,ho]
theorem JJ{e e' sz by_:Nat}{a:Bool}{o:Own}{xs:List (List D)}{k:Nat}(ho:o≠.full)(h:k≤xs.length)(hs:∀x∈xs,x.length=sz):slS (Sd (.slice e)) (Sd (e',sz,by_,a)) o xs (Sd (.int .i64 (k:Int))) Sf=Sd (.slice .none (xs.drop k)):=by
 have:(xs.all λx=>x.length == sz)=Sh:=N0.2 λx hx=>by simp[hs x hx]
 simp[slS,evBd,h,ho,this]
theorem uL(l:List Int)(k:Nat):Qc k (aj l)=aj (l.take k):=by simp[aj,List.map_take]
mutual
theorem Kr:(x:Sm)→∀d:Int,1≤d→d+x.dp≤4000000000→((∀p∈x.flat d,p.depth≤10)↔d+x.dp≤11)
 |.mk site op n m v x y c args ptrs body els=>λd h1 h2=>by
  rw[Sm.dp_eq]at h2⊢;rw[Sm.flat_eq];simp only[Sm.body,Sm.els]at h2⊢;rw[bJ (n:=d+1) (by omega)];have hb:=pb body (d+1) (by omega) (by omega);have he:=pb els (d+1) (by omega) (by omega);constructor
  ·intro h;have h0:=h _ (List.mem_cons_self ..);have h3:=hb.1 λp hp=>h p (OG _ (QU _ hp));have h4:=he.1 λp hp=>h p (OG _ (Qt _ hp));simp only at h0;omega
  ·intro h p hp;rcases NX.1 hp with rfl|hp
   ·simp only;omega
   ·rcases Od.1 hp with hp|hp
    ·exact hb.2 (by omega) p hp
    ·exact he.2 (by omega) p hp
theorem pb:(l:List Sm)→∀d:Int,1≤d→d+dpL l≤4000000000→((∀p∈flatL d l,p.depth≤10)↔(dpL l=0∨d+dpL l≤11))
 | []=>λd _ _=>by simp[flatL,dpL]
 |x::l=>λd h1 h2=>by
  rw[dpL]at h2⊢;rw[flatL];have hx:=Kr x d h1 (by omega);have hl:=pb l d h1 (by omega);have hp1:1≤x.dp:=by rw[Sm.dp_eq];omega
  constructor
  ·intro h;have h3:=hx.1 λp hp=>h p (QU _ hp);have h4:=hl.1 λp hp=>h p (Qt _ hp);omega
  ·intro h p hp;rcases Od.1 hp with hp|hp
   ·exact hx.2 (by omega) p hp
   ·exact hl.2 (by omega) p hp
end
theorem ue(k:Ck):∀(ps:List Pl)(seen:List Int),seen.Nodup→seen.length≤201→jr k ps seen=Sh→(∀p∈ps,eG k p.s=Sh∧p.depth≤10)∧(seen++sitesL ps).Nodup∧seen.length+ps.length≤201:=by
 intro ps;induction ps with
 |nil=>intro seen h1 h2 _;exact⟨λp hp=>by simp at hp,by simpa[sitesL]using h1,by simpa using h2⟩
 |cons p ps ih =>
  intro seen h1 h2 h;simp only[jr,M1,Oy,OP,decide_eq_false_iff_not]at h;obtain⟨⟨⟨⟨ha,hb⟩,hc⟩,hd⟩,he⟩:=h;have hc':p.s.site ∉ seen:=by
   intro hm;have:seen.contains p.s.site=Sh:=by simpa using hm
   rw[this]at hc;cases hc
  obtain⟨i1,i2,i3⟩:=ih (seen++[p.s.site]) (by
   rw[List.nodup_append];exact⟨h1,by simp,λa hm b hb=>by simp at hb;subst hb;rintro rfl;exact hc' hm⟩) (by simp;omega) he
  refine⟨λq hq=>?_,by simpa[sitesL]using i2,by simp at i3⊢;omega⟩;rcases NX.1 hq with rfl|hq
  ·exact⟨by simpa using hd,by omega⟩
  ·exact i1 q hq
def FH(d:Df)(x:Dc):Bool:=!inB d.id 1 1073741824 ||(!inB d.site 1 1073741824 ||(!gT d.name ||(!inB d.firm 0 (w64 (x.firms-1)) ||(!inB d.part 0 (w64 (x.parts-1)) ||(!inB d.vars d.params.length 12 ||(!inB d.refs d.given.length 4 ||decide (4<(d.arrays.length:Int))))))))
def H8(d:Df):Bool:=!bA d.params 12 aR ||(!bA d.given 4 aR ||(!inB d.budget 1 20000 ||(decide (10<(dpL d.body:Int)) ||decide (200<((smsL d.body).length:Int)))))
def H7(d:Df)(x:Dc):Bool:=!iM ⟨d,x⟩ d.body || !diffB (sitesS d)
theorem Hf{d:Df}{x:Dc}(hN:cu d.body<999999):defB d x=(!FH d x&&(!H8 d&&(d.arrays.all (arrB d) && !H7 d x))):=by
 have hll:=dA d.body;have hfl:(flatL 1 d.body).length=cu d.body:=bQ d.body 1;have hdc:=lf d.body;have hdd:=pb d.body 1 (by omega) (by omega);have hss:([d.site]++sitesL (flatL 1 d.body)).Nodup↔(sitesS d).Nodup:=by rw[sitesS];exact List.perm_append_comm.nodup_iff
 have hst:iM ⟨d,x⟩ d.body=Sh↔∀p∈flatL 1 d.body,eG ⟨d,x⟩ p.s=Sh:=by
  rw[iM,←eg d.body 1,N0];simp only[List.mem_map,forall_exists_index,and_imp,forall_apply_eq_imp_iff₂]
 have hsc:jr ⟨d,x⟩ (flatL 1 d.body) [d.site]=Sh↔(iM ⟨d,x⟩ d.body=Sh∧dpL d.body≤10)∧(sitesS d).Nodup∧(smsL d.body).length≤200:=by
  constructor
  ·intro h;obtain⟨h1,h2,h3⟩:=ue _ _ _ (by simp) (by simp) h;have h4:=hdd.1 λp hp=>(h1 p hp).2;simp at h3;exact⟨⟨hst.2 λp hp=>(h1 p hp).1,by omega⟩,hss.1 h2,by omega⟩
  ·rintro⟨⟨h1,h2⟩,h3,h4⟩;have h5:=hdd.2 (by omega);exact Cq _ _ _ (λp hp=>⟨hst.1 h1 p hp,h5 p hp⟩) (hss.2 h3) (by simp;omega)
 rw[O9];simp only[defB,jx,FH,H8,H7,M1,Oy,OP,hsc,decide_eq_false_iff_not,Pu,diffB,decide_eq_true_eq];have ha:bA d.arrays 4 (arrB d)=Sh↔¬(4<(d.arrays.length:Int))∧d.arrays.all (arrB d)=Sh:=by
  simp only[bA,M1,decide_eq_true_eq];constructor
  ·rintro⟨h1,h2⟩;exact⟨by omega,h2⟩
  ·rintro⟨h1,h2⟩;exact⟨by omega,h2⟩
 rw[ha];constructor
 ·rintro⟨⟨⟨⟨⟨⟨⟨⟨⟨⟨⟨a1,a2⟩,a3⟩,a4⟩,a5⟩,a6⟩,a7⟩,a8⟩,a9⟩,a10⟩,a11,a12⟩,⟨a13,a14⟩,a15,a16⟩;exact⟨⟨a1,a2,a3,a4,a5,a6,a7,a11⟩,⟨a9,a10,a8,by omega,by omega⟩,a12,a13,a15⟩
 ·rintro⟨⟨a1,a2,a3,a4,a5,a6,a7,a11⟩,⟨a9,a10,a8,a14,a16⟩,a12,a13,a15⟩;exact⟨⟨⟨⟨⟨⟨⟨⟨⟨⟨⟨a1,a2⟩,a3⟩,a4⟩,a5⟩,a6⟩,a7⟩,a8⟩,a9⟩,a10⟩,a11,a12⟩,⟨a13,by omega⟩,a15,by omega⟩
theorem BI(d:Df)(x:Dc)(hnm:d.name.size≤1000000000)(hN:cu d.body<999999)(s:St):az Si 97 [.agg d.cells,.agg x.cells] s (.int .i64 (if defB d x then 0 else 60)) s:=by
 have hdef:=Hf (x:=x) hN;obtain⟨B,L,c⟩:=s;refine az.introN [(1,.cut),(3,.cut),(8,.cut),(10,.cut)] func97 rfl (by decide) aA (by kernel_rfl) [Sy 4] 133 rfl rfl ?_;simp only[vqM,zA,zS,zB];refine bv aA [2,3,63] [J,J,.box B.length 0,.box (B.length+1) 0,J,J,J,J,J,J,J,J,J,J,J,J,J,J,J,J,J,J,J,J,J,J,J,J,J,J,J,J,J,J,J,J,J,J,J,J,J,J,J,J,J,J,J,J,J,J,J,J,J,J,J,J,J,J,J,J,J,J,J,.bool (FH d x),J,J,J,J,J,J,J,J,J,J,J,J,J,J,J,J,J,J,J,J,J,J,J,J,J,J,J,J,J,J,J,J,J,J,J,J,J,J,J,J,J,J,J,J,J,J,J,J,J,J,J,J,J,J,J,J,J,J,J,J,J,J,J,J,J,J,J,J,J] (λs=>s=⟨B++[.cells d.cells,.cells x.cells],L,c⟩) ?_ ?_
 ·simp only[vqM,vt89,zA];repeat' (first
   |((with_reducible refine aG ?_);refine aa (fR _ _ _ _) ?_;simp only[vqM])
   |((with_reducible refine aG ?_);refine aa (Jy _ hnm _) ?_;simp only[vqM])
   |(with_reducible refine am (λhc=>?_) (λhc=>?_)<;>simp only[vqM,vt89,hc,zA,au,ak,aT])
   |((with_reducible refine di ?_);refine aD ⟨?_,rfl⟩<;>simp only[vke,zB,zA]<;>(first|(simp only[FH, *,M6,L5,NW];done)|(simp_all[FH];done)|(simp_all[FH];omega))))
 rintro s rfl;simp only[vqM];refine am (λhc=>?_) (λhc=>?_)
 ·simp only[vqM,zB];refine SB ?_ (.int _ _);simp only[vqM];rw[hdef,hc];rfl
 rw[hc,NZ,K8]at hdef;have har:d.arrays.length≤4:=by
  simp only[FH,OP,decide_eq_false_iff_not]at hc;omega
 simp only[vqM,zB];refine bv aA [2,3,92] [J,J,.box B.length 0,.box (B.length+1) 0,J,J,J,J,J,J,J,J,J,J,J,J,J,J,J,J,J,J,J,J,J,J,J,J,J,J,J,J,J,J,J,J,J,J,J,J,J,J,J,J,J,J,J,J,J,J,J,J,J,J,J,J,J,J,J,J,J,J,J,J,J,J,J,J,J,J,J,J,J,J,J,J,J,J,J,J,J,J,J,J,J,J,J,J,J,J,J,J,.bool (H8 d),J,J,J,J,J,J,J,J,J,J,J,J,J,J,J,J,J,J,J,J,J,J,J,J,J,J,J,J,J,J,J,J,J,J,J,J,J,J,J,J] (λs=>s=⟨B++[.cells d.cells,.cells x.cells],L,c⟩) ?_ ?_
 ·simp only[vqM,vt89,zA];repeat' (first
   |((with_reducible refine aG ?_);refine aa (fR _ _ _ _) ?_;simp only[vqM])
   |((with_reducible refine aG ?_);refine aa (l3 _ _ _) ?_;simp only[vqM])
   |((with_reducible refine aG ?_);refine aa (JC _ _ (by omega)) ?_;simp only[vqM])
   |((with_reducible refine aG ?_);refine aa (uC _ _ (by omega)) ?_;simp only[vqM,vt89,av])
   |(with_reducible refine am (λhc=>?_) (λhc=>?_)<;>simp only[vqM,vt89,hc,zA])
   |((with_reducible refine di ?_);refine aD ⟨?_,rfl⟩<;>simp only[vke,zB,zA]<;>(first|(simp only[H8, *,M6,L5,NW];done)|(simp_all[H8];done)|(simp_all[H8];omega))))
 rintro s rfl;simp only[vqM];refine am (λhc=>?_) (λhc=>?_)
 ·simp only[vqM,zB];refine SB ?_ (.int _ _);simp only[vqM];rw[hdef,hc];rfl
 rw[hc,NZ,K8]at hdef;simp only[vqM,zB];refine ae [2,3,5] ?_;simp only[vke,zB,zA];refine aE aA d.arrays.length (λk e s=>(∀z∈d.arrays.take k,arrB d z=Sh)∧e=[J,J,.box B.length 0,.box (B.length+1) 0,J,.int .i64 (k:Int),J,J,J,J,J,J,J,J,J,J,J,J,J,J,J,J,J,J,J,J,J,J,J,J,J,J,J,J,J,J,J,J,J,J,J,J,J,J,J,J,J,J,J,J,J,J,J,J,J,J,J,J,J,J,J,J,J,J,J,J,J,J,J,J,J,J,J,J,J,J,J,J,J,J,J,J,J,J,J,J,J,J,J,J,J,J,J,J,J,J,J,J,J,J,J,J,J,J,J,J,J,J,J,J,J,J,J,J,J,J,J,J,J,J,J,J,J,J,J,J,J,J,J,J,J,J,J]∧s=⟨B++[.cells d.cells,.cells x.cells],L,c⟩) ?_ ?_ 0 _ _ (L7 _) ⟨λz h=>by simp at h,rfl,rfl⟩
 ·rintro k e s hk ⟨hI,rfl,rfl⟩ ihl;have hx:d.arrays[k]?=Sd d.arrays[k]:=K4 hk;have hg:(cy d.arrays)[k]?=Sd (d.arrays[k].cells):=by simp[cy,hx]
  have hklt:((k:Int)<(d.arrays.length:Int))=True:=by simp;exact hk
  have hxm:d.arrays[k]∈d.arrays:=NY hk;generalize d.arrays[k]=xx at hx hg hxm;simp only[vqM,vt89,zA,zB,ak,hklt,decide_true];refine bv aA [2,3,5,120] [J,J,.box B.length 0,.box (B.length+1) 0,J,.int .i64 (k:Int),J,J,J,J,J,J,J,J,J,J,J,J,J,J,J,J,J,J,J,J,J,J,J,J,J,J,J,J,J,J,J,J,J,J,J,J,J,J,J,J,J,J,J,J,J,J,J,J,J,J,J,J,J,J,J,J,J,J,J,J,J,J,J,J,J,J,J,J,J,J,J,J,J,J,J,J,J,J,J,J,J,J,J,J,J,J,J,J,J,J,J,J,J,J,J,J,J,J,J,J,J,J,J,J,J,J,J,J,J,J,J,J,J,J,.bool (!arrB d xx),J,J,J,J,J,J,J,J,J,J,J,J] (λs=>s=⟨B++[.cells d.cells,.cells x.cells],L,c⟩) ?_ ?_
  ·simp only[vqM,vt89,zA,zB,natle0,K3,hg];repeat' (first
    |((with_reducible refine aG ?_);refine aa (fR _ _ _ _) ?_;simp only[vqM])
    |(with_reducible refine am (λhc=>?_) (λhc=>?_)<;>simp only[vqM,vt89,hc,zA,natle0,K3,hg,au])
    |((with_reducible refine di ?_);refine aD ⟨?_,rfl⟩<;>simp only[vke,zB,zA]<;>(first|(simp only[arrB, *];done)|(simp_all[arrB];done)|(simp_all[arrB];omega))))
  rintro s rfl;simp only[vqM];refine am (λhc=>?_) (λhc=>?_)
  ·have hb:arrB d xx=Se:=by simpa using hc
   simp only[vqM,zB];refine SB ?_ (.int _ _);simp only[vqM];have:d.arrays.all (arrB d)=Se:=O4.2 ⟨xx,hxm,by simp[hb]⟩
   rw[hdef,this];rfl
  ·have hb:arrB d xx=Sh:=by simpa using hc
   simp only[vqM];rw[ap (by omega)];refine ae [2,3,5] ?_;simp only[vke,zB,zA];refine ihl _ _ ⟨λz hz=>?_,rfl,rfl⟩;rw[N4,hx]at hz;rcases Od.1 hz with hz|hz
   ·exact hI z hz
   ·simp at hz;subst hz;exact hb
 ·rintro e s ⟨hI,rfl,rfl⟩;have hklt:((d.arrays.length:Int)<(d.arrays.length:Int))=False:=by simp
  rw[N6]at hI;simp only[vqM,vt89,zA,zB,ak,hklt,decide_false];have hq:d.arrays.all (arrB d)=Sh:=N0.2 hI;rw[hq,K8]at hdef;refine bv aA [2,3,132] [J,J,.box B.length 0,.box (B.length+1) 0,J,J,J,J,J,J,J,J,J,J,J,J,J,J,J,J,J,J,J,J,J,J,J,J,J,J,J,J,J,J,J,J,J,J,J,J,J,J,J,J,J,J,J,J,J,J,J,J,J,J,J,J,J,J,J,J,J,J,J,J,J,J,J,J,J,J,J,J,J,J,J,J,J,J,J,J,J,J,J,J,J,J,J,J,J,J,J,J,J,J,J,J,J,J,J,J,J,J,J,J,J,J,J,J,J,J,J,J,J,J,J,J,J,J,J,J,J,J,J,J,J,J,J,J,J,J,J,J,.bool (H7 d x)] (λs=>s=⟨B++[.cells d.cells,.cells x.cells],L,c⟩) ?_ ?_
  ·simp only[vqM,vt89,zA];repeat' (first
    |((with_reducible refine aG ?_);refine aa (I3 ⟨d,x⟩ _ _) ?_;simp only[vqM])
    |((with_reducible refine aG ?_);refine aa (yN _ hN _) ?_;simp only[vqM])
    |((with_reducible refine aG ?_);refine aa (qF _ _) ?_;simp only[vqM])
    |(with_reducible refine am (λhc=>?_) (λhc=>?_)<;>simp only[vqM,vt89,hc])
    |((with_reducible refine di ?_);refine aD ⟨?_,rfl⟩<;>simp only[vke,zB,zA]<;>(first|(simp only[H7, *,M6,L5];done)|(simp_all[H7];done)|(simp_all[H7];omega))))
  rintro s rfl;simp only[vqM];refine am (λhc=>?_) (λhc=>?_)
  ·simp only[vqM,zB];refine SB ?_ (.int _ _);simp only[vqM];rw[hdef,hc];rfl
  ·simp only[vqM,zB];refine SB ?_ (.int _ _);simp only[vqM];rw[hdef,hc];rfl
theorem zJ(p:Pg)(id:Int):Bd 0 0 (bz p id):=aL λx hx=>by
 rcases Od.1 hx with hx|hx
 ·exact Hd.bd _ x hx
 ·simp at hx;subst hx;exact .bool _
theorem GS{p:Pg}{id:Int}{k:Nat}(hk:k<p.heads.length)(hc:decide (p.heads[k].id=id)=Sh)(hI:∀j(h:j<p.heads.length),j<k→decide (p.heads[j].id=id)=Se):headS p id=Sd p.heads[k]:=by
 rw[headS,List.find?_eq_some_iff_getElem];refine⟨hc,k,hk,rfl,λj hj=>?_⟩;have:=hI j (by omega) hj
 simpa using this
theorem GR{p:Pg}{id:Int}(hI:∀j(h:j<p.heads.length),j<p.heads.length→decide (p.heads[j].id=id)=Se):headS p id=Sf:=by
 rw[headS,List.find?_eq_none];intro x hx;obtain⟨j,hj,rfl⟩:=List.getElem_of_mem hx;have:=hI j hj hj
 simpa using this
theorem iW(p:Pg)(id:Int)(s:St):az Si 22 [.agg p.cells,.int .i64 id] s (bz p id) s:=by
 refine az.small λhsm=>?_;have hlen:(aO p.heads).length≤281474976710656:=(hsm _ (.head _)).sl (o:=.none) (by cases p;simp[Pg.cells]);rw[aw]at hlen;clear hsm;obtain⟨B,L,c⟩:=s;have hzc:∀d:Hd,∀b,Qc 6 (d.cells++[D.bool b])=d.cells++[D.bool b]:=λd b=>rfl;refine az.introN [] func22 rfl (by decide) aA (by kernel_rfl) [Sz 4 64] 28 rfl rfl ?_;simp only[vqM,Fu,zA,zS];refine ae [1,2,4,5] ?_;simp only[vke,zB,zA];refine aE aA p.heads.length (λk e s=>e=[J,.int .i64 id,.box B.length 0,J,.box (B.length+1) 0,.int .i64 (k:Int),J,J,J,J,J,J,J,J,J,J,J,J,J,J,J,J,J,J,J,J,J,J]∧s=⟨B++[.cells p.cells,.cells (Hd.zc++[.bool Se])],L,c⟩∧∀j(h:j<p.heads.length),j<k→decide (p.heads[j].id=id)=Se) ?_ ?_ 0 _ _ (L7 _) ⟨rfl,rfl,by intro j _ h;omega⟩
 ·rintro k e s hk ⟨rfl,rfl,hI⟩ ih;have hx:p.heads[k]?=Sd p.heads[k]:=K4 hk;have hg:(aO p.heads)[k]?=Sd (p.heads[k].cells):=by simp[aO,hx]
  have hklt:((k:Int)<(p.heads.length:Int))=True:=by simp;exact hk
  simp only[vqM,Fu,zA,aw,Hd.zc,hklt,decide_true,natle0,K3,hg];refine am (λhc=>?_) (λhc=>?_)
  ·simp only[vqM,Fu,zA,zL,natle0,K3,hg];have hf:headS p id=Sd p.heads[k]:=GS hk hc hI;refine SB ?_ (zJ p id);simp only[vqM,Fu,zA,bz,hf,hzc,Option.getD_some,Option.isSome_some]
  ·simp only[vqM];rw[ap (by omega)];refine ae [1,2,4,5] ?_;simp only[vke,zB,zA];refine ih _ _ ⟨rfl,rfl,λj hj hjk=>?_⟩;by_cases e:j=k
   ·subst e;exact hc
   ·exact hI j hj (by omega)
 ·rintro e s ⟨rfl,rfl,hI⟩;have hklt:((p.heads.length:Int)<(p.heads.length:Int))=False:=by simp
  simp only[vqM,Fu,zA,aw,Hd.zc,hklt,decide_false];have hf:headS p id=Sf:=GR hI;refine SB ?_ (zJ p id);simp only[vqM,Fu,zA,bz,hf,Option.getD_none,Option.isSome_none];rfl
def iV(p:Pg)(k:Nat)(h:Hd):Bool:=!inB h.id 1 1073741824 ||((decide (0<(k:Int))&&decide (h.id≤ce p.heads k)) ||(!inB h.firm 0 (w64 (p.d.firms-1)) ||(!inB h.part 0 (w64 (p.d.parts-1)) ||(!bA h.params 12 aR || !bA h.given 4 aR))))
theorem vV{p:Pg}:∀{k:Nat},k≤p.heads.length→(∀j<k,eY p j=Se)→0≤ce p.heads k∧ce p.heads k≤1073741824
 |0,_,_=>by simp[ce]
 |k+1,hk,h=>by
  have ih:=vV (k:=k) (by omega) λj hj=>h j (by omega);have hx:p.heads[k]?=Sd p.heads[k]:=K4 (by omega);have h1:=h k (by omega);simp only[eY,hx,ie,Pu,M1,inB,decide_eq_true_eq]at h1;rw[bJ (n:=ce p.heads k+1) (by omega)]at h1;simp only[ce,hx];omega
theorem Bv{p:Pg}{k:Nat}{h:Hd}(hk:p.heads[k]?=Sd h)(hI:∀j<k,eY p j=Se):eY p k=iV p k h:=by
 have hb:=vV (k:=k) (by have:=(List.getElem?_eq_some_iff.1 hk).1;omega) hI;simp only[eY,hk,ie,iV];rw[bJ (n:=ce p.heads k+1) (by omega)];have h1:inB h.id (ce p.heads k+1) 1073741824=(inB h.id 1 1073741824 && !(decide (0<(k:Int))&&decide (h.id≤ce p.heads k))):=by
  rw[O9];simp only[inB,M1,decide_eq_true_eq,Oy,Bool.and_eq_false_iff,decide_eq_false_iff_not];cases k with
  |zero=>simp only[ce]at hb⊢;omega
  |succ k=>omega
 rw[h1];simp only[Bool.not_and,QI,Bool.or_assoc,Q1]
theorem FV(p:Pg)(s:St):az Si 96 [.agg p.cells] s (.bool (fv p)) s:=by
 refine az.small λhsm=>?_;have hlen:(aO p.heads).length≤281474976710656:=(hsm _ (.head _)).sl (o:=.none) (by cases p;simp[Pg.cells]);rw[aw]at hlen;clear hsm;obtain⟨B,L,c⟩:=s;refine az.introN [(5,.cut)] func96 rfl (by decide) aA (by kernel_rfl) [Sy 2] 73 rfl rfl ?_;simp only[vqM,zA,zS,zB];refine ae [1,3] ?_;simp only[vke,zB,zA];refine aE aA p.heads.length (λk e s=>(∀j<k,eY p j=Se)∧e=[J,.box B.length 0,J,.int .i64 (k:Int),J,J,J,J,J,J,J,J,J,J,J,J,J,J,J,J,J,J,J,J,J,J,J,J,J,J,J,J,J,J,J,J,J,J,J,J,J,J,J,J,J,J,J,J,J,J,J,J,J,J,J,J,J,J,J,J,J,J,J,J,J,J,J,J,J,J,J,J,J]∧∃X,s=⟨B++.cells p.cells::X,L,c⟩) ?_ ?_ 0 _ _ (L7 _) ⟨by intro j h;omega,rfl,[],rfl⟩
 ·rintro k e s hk ⟨hI,rfl,X,rfl⟩ ihl;have hx:p.heads[k]?=Sd p.heads[k]:=K4 hk;have hg:(aO p.heads)[k]?=Sd (p.heads[k].cells):=by simp[aO,hx]
  have hq:=Bv hx hI;have hklt:((k:Int)<(p.heads.length:Int))=True:=by simp;exact hk
  generalize p.heads[k]=h at hx hg hq;simp only[vqM,vt91,zA,zB,aw,hklt,decide_true,natle0,K3,hg];refine bv aA [1,3,68] [J,.box B.length 0,J,.int .i64 (k:Int),J,J,J,J,J,J,J,J,J,J,J,J,J,J,J,J,J,J,J,J,J,J,J,J,J,J,J,J,J,J,J,J,J,J,J,J,J,J,J,J,J,J,J,J,J,J,J,J,J,J,J,J,J,J,J,J,J,J,J,J,J,J,J,J,.bool (iV p k h),J,J,J,J] (λs=>s=⟨B++.cells p.cells::(X++[.cells h.cells]),L,c⟩) ?_ ?_
  ·rcases k with _|j
   ·have h00:((0:Int)<0)=False:=by simp
    simp only[vqM,vt91,zA];repeat' (first
     |((with_reducible refine aG ?_);refine aa (fR _ _ _ _) ?_;simp only[vqM])
     |((with_reducible refine aG ?_);refine aa (l3 _ _ _) ?_;simp only[vqM])
     |(with_reducible refine am (λhc=>?_) (λhc=>?_)<;>simp only[vqM,vt91,hc,zA,aT,h00,decide_false])
     |((with_reducible refine di ?_);refine aD ⟨?_,rfl⟩<;>simp only[vke,zB,zA]<;>(first|(simp only[iV, *,M6,L5,NW];done)|(simp_all[iV];done)|(simp_all[iV];omega))))
   ·have hxj:p.heads[j]?=Sd (p.heads[j]'(by omega)):=K4 (by omega);have hgj:(aO p.heads)[j]?=Sd ((p.heads[j]'(by omega)).cells):=by simp[aO,hxj]
    have hlj:ce p.heads (j+1)=(p.heads[j]'(by omega)).id:=by simp only[ce,hxj]
    have hwj:SA.wrap (((j+1:Nat):Int)-1)=(j:Int):=by rw[aK (by omega)];omega
    generalize p.heads[j]'(by omega)=h0 at hxj hgj hlj;simp only[vqM,vt91,zA];repeat' (first
     |((with_reducible refine aG ?_);refine aa (fR _ _ _ _) ?_;simp only[vqM])
     |((with_reducible refine aG ?_);refine aa (l3 _ _ _) ?_;simp only[vqM])
     |(with_reducible refine am (λhc=>?_) (λhc=>?_)<;>simp only[vqM,vt91,hc,zA,natle0,K3,hwj,hgj,aT])
     |((with_reducible refine di ?_);refine aD ⟨?_,rfl⟩<;>simp only[vke,zB,zA]<;>(first|(simp only[iV, *,M7,N5,N2,M6,L5,NW];done)|(simp_all[iV,hlj];done)|(simp_all[iV,hlj];omega))))
  rintro s rfl;simp only[vqM];refine am (λhc=>?_) (λhc=>?_)
  ·simp only[vqM,zB];refine SB ?_ (.bool _);simp only[vqM];have:(Ol p.heads.length).any (eY p)=Sh:=List.any_eq_true.2 ⟨k,Ow.2 hk,by rw[hq,hc]⟩
   rw[fv,this];simp
  ·simp only[vqM];rw[ap (by omega)];refine ae [1,3] ?_;simp only[vke,zB,zA];refine ihl _ _ ⟨λj hj=>?_,rfl,_,rfl⟩;by_cases e:j=k
   ·subst e;rw[hq,hc]
   ·exact hI j (by omega)
 ·rintro e s ⟨hI,rfl,X,rfl⟩;have hklt:((p.heads.length:Int)<(p.heads.length:Int))=False:=by simp
  have:(Ol p.heads.length).any (eY p)=Se:=List.any_eq_false.2 λj hj=>by simpa using hI j (Ow.1 hj)
  simp only[vqM,vt91,zA,zB,aw,hklt,decide_false];refine SB ?_ (.bool _);simp only[vqM];rw[fv,this];simp
theorem yL(p:Pg)(d:Df)(hN:cu d.body<1000000)(s:St):az Si 99 [.agg p.cells,.agg d.cells] s (.bool ((smsL d.body).all (eJ p))) s:=by
 obtain⟨B,L,c⟩:=s;have hll:=dA d.body;refine az.introN [(5,.text [Se,Se,Se,Se,Se,Se,Se,Sh,Sh] [(0,1),(5,1),(6,1)]),(6,.cut)] func99 rfl (by decide) aA (by kernel_rfl) [Sy 4] 61 rfl rfl ?_;simp only[vqM,vt92,zA,zS,zB];refine aa (uC d.body _ (by omega)) ?_;simp only[vqM,zB];refine ae [2,3,5,6] ?_;simp only[vke,zB,zA];refine aE aA (smsL d.body).length (λk e s=>(∀z∈(smsL d.body).take k,eJ p z=Sh)∧e=[J,J,.box B.length 0,.box (B.length+1) 0,J,.slice .none (Sm.encs (smsL d.body)),.int .i64 (k:Int),J,J,J,J,J,J,J,J,J,J,J,J,J,J,J,J,J,J,J,J,J,J,J,J,J,J,J,J,J,J,J,J,J,J,J,J,J,J,J,J,J,J,J,J,J,J,J,J,J,J,J,J,J,J]∧∃X,s=⟨B++.cells p.cells::.cells d.cells::X,L,c⟩) ?_ ?_ 0 _ _ (L7 _) ⟨λz h=>by simp at h,rfl,[],rfl⟩
 ·rintro k e s hk ⟨hI,rfl,X,rfl⟩ ihl;have hx:(smsL d.body)[k]?=Sd (smsL d.body)[k]:=K4 hk;have hg:(Sm.encs (smsL d.body))[k]?=Sd ((smsL d.body)[k].cells):=by simp[Sm.encs_map,hx]
  have hklt:((k:Int)<((smsL d.body).length:Int))=True:=by simp;exact hk
  have hxm:(smsL d.body)[k]∈(smsL d.body):=NY hk;generalize(smsL d.body)[k]=x at hx hg hxm;simp only[vqM,vt92,zB,av,hklt,decide_true,natle0,K3,hg];refine aa (iW p x.m _) ?_;simp only[vqM,vt92,zA,bz];refine aB (aa (iW p x.m _) ?_) ?_
  ·simp only[vqM,bz]
  simp only[vqM,zB];have hcb:(!eJ p x)=(decide (x.op=13)&&(!(headS p x.m).isSome ||(decide (((hdG p x.m).params.length:Int)≠x.args.length) ||decide (((hdG p x.m).given.length:Int)≠x.ptrs.length)))):=by
   simp only[eJ,mt,Q1,QI,Bool.or_assoc,decide_not,Bool.not_and]
  rw[hdG]at hcb;generalize(headS p x.m).isSome=fd at hcb⊢;generalize(headS p x.m).getD Hd.zero=h at hcb⊢;obtain⟨h1,h2,h3,h4,h5⟩:=h;simp only[Hd.cells,Ob,Oe]at hcb⊢;refine bv aA [2,3,5,6,60] [J,J,.box B.length 0,.box (B.length+1) 0,J,.slice .none (Sm.encs (smsL d.body)),.int .i64 (k:Int),J,J,J,J,J,J,J,J,J,J,J,J,J,J,J,J,J,J,J,J,J,J,J,J,J,J,J,J,J,J,J,J,J,J,J,J,J,J,J,J,J,J,J,J,J,J,J,J,J,J,J,J,J,.bool (!eJ p x)] (λs=>s=⟨B++.cells p.cells::.cells d.cells::(X++[.cells [.int .i64 h1,.int .i64 h2,.int .i64 h3,.slice .none (aN h4),.slice .none (aN h5),.bool fd]]),L,c⟩) ?_ ?_
  ·rw[hcb];simp only[vqM,vt92,zB,natle0,K3,hg];repeat' (first
    |(with_reducible refine am (λhc=>?_) (λhc=>?_)<;>simp only[vqM,vt92,hc,zA,natle0,K3,hg,au,ai,ab])
    |((with_reducible refine di ?_);refine aD ⟨?_,rfl⟩<;>simp only[vke,zB,zA]<;>(first|(simp only[*,K8,M7,N5];done)|(simp_all[];done)|(simp_all[];omega))))
  rintro s rfl;simp only[vqM];refine am (λhc=>?_) (λhc=>?_)
  ·have hb:eJ p x=Se:=by simpa using hc
   simp only[vqM,zB];refine SB ?_ (.bool _);simp only[vqM];have:(smsL d.body).all (eJ p)=Se:=O4.2 ⟨x,hxm,by simp[hb]⟩
   rw[this]
  ·have hb:eJ p x=Sh:=by simpa using hc
   simp only[vqM];rw[ap (by omega)];refine ae [2,3,5,6] ?_;simp only[vke,zB,zA];refine ihl _ _ ⟨λz hz=>?_,rfl,_,rfl⟩;rw[N4,hx]at hz;rcases Od.1 hz with hz|hz
   ·exact hI z hz
   ·simp at hz;subst hz;exact hb
 ·rintro e s ⟨hI,rfl,X,rfl⟩;have hklt:(((smsL d.body).length:Int)<((smsL d.body).length:Int))=False:=by simp
  rw[N6]at hI;simp only[vqM,vt92,zB,av,hklt,decide_false];refine SB ?_ (.bool _);simp only[vqM];rw[N0.2 hI]
end Go.V
