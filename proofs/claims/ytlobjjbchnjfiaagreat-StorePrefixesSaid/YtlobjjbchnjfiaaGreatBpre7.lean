/-
  The value-level logic and its contracts, part 7 (texts W19, M1, M4, N5, U1, U2, U3, U4, U5, U6, U7, P13, N1, N2, P14, N3, U8, U9, U10).
-/
import Derived.Test.YtlobjjbchnjfiaaGreatBpre6
import Derived.Test.YtlobjjbchnjfiaaGreatBpre5
import Derived.Test.YtlobjjbchnjfiaaGreatBpre3
open List renaming mem_cons_of_mem→MT,length_append→K4,length_cons→K7,length_nil→K8,erase_cons_head→L7,getElem?_eq_getElem→C0,take_length→Mv,append_assoc→L4,take_of_length_le→Mo,cons_append→Mw,nil_append→MA,take_add_one→Mt,length→OJ,cons→O7,getElem_mem→Mf,all_eq_false→No,mem_append→Mz,all_eq_true→Mn,mem_cons→Mj,length_take→MN,all_append→OI,take→O2,mem_append_left→OG,mem_append_right→OO,range→MF,mem_range→MP
open Bool renaming true_and→K6,and_eq_true→Mh,false_and→Me,and_true→Mu,and_false→Mq,true_or→Mr,false_or→Mi,or_true→Ms,or_false→Mm,not_true→Mp,not_false→Ml,not_or→Pm,not_not→O1,eq_iff_iff→Nv,or_eq_true→N9,not_eq_true'→MU,or_eq_false_iff→Ng,not_eq_false'→NO
open Nat renaming zero_le→K9,le_refl→K5,reduceLT→Ql
open Int renaming toNat_natCast→K3,reduceLE→PG,reduceLT→PH,reduceToNat→P1
open Option renaming toList_some→MO
open Nat renaming reduceAdd → zA, reduceSub → zS, reduceMul → zM, reduceLeDiff → zL, reduceEqDiff → zE, reduceBEq → zB
open Go.V.D renaming junk → J
set_option linter.all false
set_option linter.unusedSimpArgs false
set_option linter.unusedVariables false
set_option linter.unnecessarySimpa false
set_option maxHeartbeats 4000000
open Option renaming some→Qv
open Bool renaming false→Qw
open Option renaming none→Qx
open Bool renaming true→Qy
open Go.Proofs.Tryz renaming prog→Qz
open Go.ResultVar renaming tmp→QO,cell→QP
open Go.IntKind renaming i64→QQ
open And renaming intro→QJ
namespace Go.V
open Go.Proofs Go.Proofs.Tryz
set_option maxRecDepth 20000
set_option maxHeartbeats 4000000
def OwW(L:List Nat)(c:Nat)(o:Own)(L':List Nat)(c':Nat):Prop:=(o=.full∧L'=L∧c'=c)∨∃x,o=.lab x 1∧L'=x::L∧c'=x+1∧c≤x
theorem OwW.fits{L:List Nat}{c:Nat}{o:Own}{L':List Nat}{c':Nat}(h:OwW L c o L' c')(m:List Int)(B:List Box):aV o (ah m) 1 ⟨B,L',c'⟩=Qy:=by
 rcases h with ⟨rfl,rfl,rfl⟩|⟨x,rfl,rfl,rfl,_⟩
 ·simp[aV,ah]
 ·simp[aV]
theorem OwW.rel{L:List Nat}{c:Nat}{o:Own}{L':List Nat}{c':Nat}(h:OwW L c o L' c')(B:List Box):St.relab ⟨B,L',c'⟩ o=⟨B,c'::L,c'+1⟩:=by
 rw[iO];rcases h with ⟨rfl,rfl,rfl⟩|⟨x,rfl,rfl,rfl,_⟩
 ·rfl
 ·simp[ge]
theorem OwW.le{L:List Nat}{c:Nat}{o:Own}{L':List Nat}{c':Nat}(h:OwW L c o L' c'):c≤c':=by
 rcases h with ⟨rfl,rfl,rfl⟩|⟨x,rfl,rfl,rfl,_⟩<;>omega
theorem OwW.sub{L:List Nat}{c:Nat}{o:Own}{L':List Nat}{c':Nat}(h:OwW L c o L' c'):∀k∈L,k∈L':=by
 rcases h with ⟨rfl,rfl,rfl⟩|⟨x,rfl,rfl,rfl,_⟩
 ·exactλ_ h=>h
 ·exactλ_ h=>MT _ h
theorem OwW.mk{L:List Nat}{c x:Nat}(h:c≤x):OwW L c (.lab x 1) (x::L) (x+1):=.inr ⟨x,rfl,rfl,rfl,h⟩
theorem OwW.start(L:List Nat)(c:Nat):OwW L c .full L c:=.inl ⟨rfl,rfl,rfl⟩
def wRg(r:Rg):List Int:=[r.lo,r.hi,r.mask]
def wRgs(l:List Rg):List Int:=(l.length:Int)::l.flatMap wRg
def wQu(q:Qu):List Int:=[q.cap,q.r.lo,q.r.hi,q.r.mask]
def wAr(r:Ar):List Int:=[r.len,r.of]
def wBy(b:UInt8):List Int:=[(b.toNat:Int)]
def wHd(h:Hd):List Int:=[h.id,h.firm,h.part]++wRgs h.params++wRgs h.given
def wDf(d:Df):List Int:=[1,d.id,d.site,(d.name.size:Int)]++d.name.data.toList.flatMap wBy++[d.firm,d.part]++wRgs d.params++wRgs d.given++[d.vars,d.refs,(d.arrays.length:Int)]++d.arrays.flatMap wAr++[d.budget]++wSms d.body
def wPg(p:Pg):List Int:=[2]++wRgs p.d.globals++wRgs p.d.classes++[(p.d.queues.length:Int)]++p.d.queues.flatMap wQu++wIs p.d.sinks++[p.d.locks,p.d.parts,p.d.firms,(p.heads.length:Int)]++p.heads.flatMap wHd++[(p.defs.length:Int)]++p.defs.flatMap wDf++wIs p.threads
theorem ql{α:Type}(f:α→List Int)(hf:∀x,1≤(f x).length)(l:List α):l.length≤(l.flatMap f).length:=by
 induction l with
 |nil=>simp
 |cons x m ih=>have:=hf x;rw[List.flatMap_cons,K4,K7];omega
theorem fR(l:List Rg)(hl:(wRgs l).length≤1000000)(s:St):ay Qz 124 [.slice .none (aM l)] s (.slice .none (ah (wRgs l))) s:=by
 obtain⟨B,L,c⟩:=s;have hlen:(wRgs l).length=(l.flatMap wRg).length+1:=by simp[wRgs]
 have hle:=ql wRg (λx=>by simp[wRg]) l;refine ay.introN [] func124 rfl (by decide) az (by kernel_rfl) [QO 2] 33 rfl rfl ?_;simp only[vqM,Hj,zA,zS,zM,zL,ao,ic1];refine ae [0,3,4] ?_;simp only[vke,zB,zA];refine aC az l.length (λk e s=>∃o L1 c1 out,OwW L c o L1 c1∧out=(l.length:Int)::(l.take k).flatMap wRg∧e=[.slice .none (aM l),J,J,.slice o (ah out),.int .i64 (k:Int),J,J,J,J,J,J,J,J,J,J,J,J,J,J,J,J,J,J,J,J,J,J,J,J,J,J,J,J]∧s=⟨B,L1,c1⟩) ?_ ?_ 0 _ _ (K9 _) ⟨_,_,_,[(l.length:Int)],.start L c,by simp,rfl,rfl⟩
 ·rintro k e s hk ⟨o,L1,c1,out,hO,hout,rfl,rfl⟩ ihl;have hx:l[k]?=Qv l[k]:=C0 hk;have hg:(aM l)[k]?=Qv l[k].cells:=by simp[aM,hx]
  have hklt:((k:Int)<(l.length:Int))=True:=by simp;exact hk
  have hnext:(l.length:Int)::(l.take (k+1)).flatMap wRg=out++wRg l[k]:=by rw[hout,iD _ hk];rfl
  have hcnt:(out++wRg l[k]).length≤(l.flatMap wRg).length+1:=by
   rw[←hnext,K7];have:=eg wRg (l:=l) (k:=k+1)
   omega
  rw[K4]at hcnt;have hof:=hO.fits out;have hrel:=hO.rel;generalize l[k]=x at hx hg hnext hcnt;simp only[wRg,K7,K8]at hcnt hnext;simp only[vqM,Hj,zA,zM,zL,ao,hklt,decide_true,natle0,K3,hg,hof,ic1,icc,ab,br];refine aA (by omega) ?_;simp only[vqM,hrel,aw];rw[ap (by omega)];refine ae [0,3,4] ?_;simp only[vke,zB,zA];exact ihl _ _ ⟨_,_,_,_,.mk hO.le,hnext.symm,rfl,rfl⟩
 ·rintro e s ⟨o,L1,c1,out,hO,hout,rfl,rfl⟩;have hklt:((l.length:Int)<(l.length:Int))=False:=by simp
  rw[Mv]at hout;simp only[vqM,Hj,ao,hklt,decide_false];refine fH (.inr rfl) ?_ (ce _) hO.sub hO.le;simp only[vqM];rw[hout];rfl
theorem H8(d:Df)(hl:(wDf d).length≤1000000)(s:St):ay Qz 72 [.agg d.cells] s (.slice .none (ah (wDf d))) s:=by
 obtain⟨B,L,c⟩:=s;rw[wDf]at hl;simp only[K4,K7,K8]at hl;have hle1:=ql wBy (λx=>by simp[wBy]) d.name.data.toList;have hle2:=ql wAr (λx=>by simp[wAr]) d.arrays;have hsz:d.name.data.toList.length=d.name.size:=rfl;refine ay.introN [(6,.text [Qw,Qw,Qw,Qw,Qw,Qw,Qy,Qw,Qw,Qy,Qy,Qw,Qw,Qy,Qy,Qw] [(8,0),(12,0),(12,1),(12,2)]),(12,.text [Qw,Qw,Qw,Qw,Qy,Qw,Qw,Qy,Qy,Qw] [(6,0)])] func72 rfl (by decide) az (by kernel_rfl) [QO 2] 85 rfl rfl ?_;simp only[vqM,ov,zA,zS,zM,zL,zB,ic1,icc];refine ae [1,3,4] ?_;simp only[vke,zB,zA];refine aC az d.name.size (λk e s=>∃o L1 c1 out,OwW L c o L1 c1∧out=[1,d.id,d.site,(d.name.size:Int)]++(d.name.data.toList.take k).flatMap wBy∧e=[J,.box B.length 0,J,.slice o (ah out),.int .i64 (k:Int),J,J,J,J,J,J,J,J,J,J,J,J,J,J,J,J,J,J,J,J,J,J,J,J,J,J,J,J,J,J,J,J,J,J,J,J,J,J,J,J,J,J,J,J,J,J,J,J,J,J,J,J,J,J,J,J,J,J,J,J,J,J,J,J,J,J,J,J,J,J,J,J,J,J,J,J,J,J,J,J]∧s=⟨B++[.cells d.cells],L1,c1⟩) ?_ ?_ 0 _ _ (K9 _) ⟨_,_,_,[1,d.id,d.site,(d.name.size:Int)],.start L c,by simp,rfl,rfl⟩
 ·rintro k e s hk ⟨o,L1,c1,out,hO,hout,rfl,rfl⟩ ihl;have hkl:k<d.name.data.toList.length:=hk;have hb:=vM d.name k hk;have hklt:((k:Int)<(d.name.size:Int))=True:=by simp;exact hk
  have hnext:[1,d.id,d.site,(d.name.size:Int)]++(d.name.data.toList.take (k+1)).flatMap wBy=out++wBy d.name.data.toList[k]:=by rw[hout,iD _ hkl,L4]
  have hcnt:(out++wBy d.name.data.toList[k]).length≤(d.name.data.toList.flatMap wBy).length+4:=by
   rw[←hnext,K4];simp only[K7,K8];have:=eg wBy (l:=d.name.data.toList) (k:=k+1)
   omega
  rw[K4]at hcnt;have hof:=hO.fits out;have hrel:=hO.rel;generalize d.name.data.toList[k]=x at hb hnext hcnt;simp only[wBy,K7,K8]at hcnt hnext;have hxc:0≤(x.toNat:Int)∧(x.toNat:Int)<256:=by have:=x.toNat_lt;omega
  have hcw:QQ.wrap (x.toNat:Int)=x.toNat:=aG (by omega);simp only[vqM,ov,zA,zM,zL,zB,hklt,decide_true,natle0,K3,hb,hof,ic1,ab,br];refine aA (by omega) ?_;simp only[vqM,hcw,hrel,aw];rw[ap (by omega)];refine ae [1,3,4] ?_;simp only[vke,zB,zA];exact ihl _ _ ⟨_,_,_,_,.mk hO.le,hnext.symm,rfl,rfl⟩
 ·rintro e s ⟨o,L1,c1,out,hO,hout,rfl,rfl⟩;have hklt:((d.name.size:Int)<(d.name.size:Int))=False:=by simp
  rw[Mo (by omega)]at hout;have hol:out.length=4+(d.name.data.toList.flatMap wBy).length:=by rw[hout];simp;omega
  have hof:=hO.fits out;have hrel:=hO.rel;have hle0:=hO.le;simp only[vqM,ov,zA,zM,zL,zB,hklt,decide_false,hof,ic1,icc,ab,br];refine aA (by omega) ?_;simp only[vqM,ov,zA,hrel,aw];refine aa (fR _ (by omega) _) ?_;simp only[vqM,ov,zA,zL,ab,K4,br,cr];refine aA (by omega) ?_;simp only[vqM,ov,zA,L7,aw];refine aa (fR _ (by omega) _) ?_;simp only[vqM,ov,zA,zL,ab,K4,br,cr];refine aA (by omega) ?_;simp only[vqM,ov,zA,zM,zL,zB,ai,ic1,icc,ab,K4,br,L7,cr,aw];refine aA (by omega) ?_;simp only[vqM,zB,L7,aw];refine ae [1,3,5] ?_;simp only[vke,zB,zA];obtain⟨pre,hpre⟩:∃pre:List Int,pre=out++d.firm::d.part::(wRgs d.params++(wRgs d.given++[d.vars,d.refs,(d.arrays.length:Int)])):=⟨_,rfl⟩;have hprl:pre.length=4+(d.name.data.toList.flatMap wBy).length+2+(wRgs d.params).length+(wRgs d.given).length+3:=by rw[hpre];simp only[K4,K7,K8];omega
  rw[←hpre];refine aC az d.arrays.length (λk e s=>∃o L1 c1 out,OwW L c o L1 c1∧out=pre++(d.arrays.take k).flatMap wAr∧e=[J,.box B.length 0,J,.slice o (ah out),J,.int .i64 (k:Int),J,J,J,J,J,J,J,J,J,J,J,J,J,J,J,J,J,J,J,J,J,J,J,J,J,J,J,J,J,J,J,J,J,J,J,J,J,J,J,J,J,J,J,J,J,J,J,J,J,J,J,J,J,J,J,J,J,J,J,J,J,J,J,J,J,J,J,J,J,J,J,J,J,J,J,J,J,J,J]∧s=⟨B++[.cells d.cells],L1,c1⟩) ?_ ?_ 0 _ _ (K9 _) ⟨_,_,_,pre,.mk (by omega),by simp,rfl,rfl⟩
  ·clear hof hrel hle0 hO;rintro k e s hk ⟨o,L1,c1,out,hO,hout,rfl,rfl⟩ ihl;have hx:d.arrays[k]?=Qv d.arrays[k]:=C0 hk;have hg:(cj d.arrays)[k]?=Qv d.arrays[k].cells:=by simp[cj,hx]
   have hklt:((k:Int)<(d.arrays.length:Int))=True:=by simp;exact hk
   have hnext:pre++(d.arrays.take (k+1)).flatMap wAr=out++wAr d.arrays[k]:=by rw[hout,iD _ hk,L4]
   have hcnt:(out++wAr d.arrays[k]).length≤pre.length+(d.arrays.flatMap wAr).length:=by
    rw[←hnext,K4];have:=eg wAr (l:=d.arrays) (k:=k+1)
    omega
   rw[K4]at hcnt;have hof:=hO.fits out;have hrel:=hO.rel;generalize d.arrays[k]=x at hx hg hnext hcnt;simp only[wAr,K7,K8]at hcnt hnext;simp only[vqM,ov,zA,zM,zL,zB,ai,hklt,decide_true,natle0,K3,hg,hof,ic1,icc,ab,br];refine aA (by omega) ?_;simp only[vqM,hrel,aw];rw[ap (by omega)];refine ae [1,3,5] ?_;simp only[vke,zB,zA];exact ihl _ _ ⟨_,_,_,_,.mk hO.le,hnext.symm,rfl,rfl⟩
  ·clear hof hrel hle0 hO;rintro e s ⟨o,L1,c1,out2,hO,hout2,rfl,rfl⟩;have hklt:((d.arrays.length:Int)<(d.arrays.length:Int))=False:=by simp
   rw[Mv]at hout2;have hol2:out2.length=pre.length+(d.arrays.flatMap wAr).length:=by rw[hout2,K4]
   have hof:=hO.fits out2;have hrel:=hO.rel;have hle0:=hO.le;simp only[vqM,ov,zA,zM,zL,zB,ai,hklt,decide_false,hof,ic1,ab,br];refine aA (by omega) ?_;simp only[vqM,ov,zA,hrel,aw];refine aa (Kt _ _ (by omega)) ?_;simp only[vqM,ov,zA,zL,ab,K4,br,cr];refine aA (by omega) ?_;simp only[vqM,ov,L7,aw];refine am (.inr rfl) ?_ (ce _) (λ_ h=>MT _ h) (by omega);simp only[vqM];rw[hout2,hpre,hout,wDf];simp only[L4,Mw,MA]
theorem nz(l m:List Int)(s:St):ay Qz 58 [.slice .none (ah l),.slice .none (ah m)] s (.bool (decide (l=m))) s:=by
 refine ay.small λhsm=>?_;have hlen:=(hsm _ (.head _)).len;rw[ab]at hlen;clear hsm;refine ay.introN [] func58 rfl (by decide) az (by kernel_rfl) [QO 4] 26 rfl rfl ?_;simp only[vqM,bM,zA,zS,ab];refine ak (λhc=>?_) (λhc=>?_)
 ·simp only[vqM];refine QS ?_ (.bool _);have:l≠m:=by rintro rfl;simp at hc
  simp only[vqM];rw[decide_eq_false this]
 have hll:l.length=m.length:=by simp at hc;omega
 simp only[vqM];refine ae [0,1,5] ?_;simp only[vke,zB,zA];refine cf az l.length (λk=>[.slice .none (ah l),.slice .none (ah m),J,J,J,.int .i64 (k:Int),J,J,J,J,J,J,J,J,J,J,J,J,J,J,J,J,J,J,J,J]) (λ_=>s) (λk=>l.take k=m.take k) ?_ ?_ 0 (K9 _) rfl
 ·intro k hk hI ih;have hkm:k<m.length:=by omega
  have hx:l[k]?=Qv l[k]:=C0 hk;have hy:m[k]?=Qv m[k]:=C0 hkm;have hg:=fZ hk;have hh:=fZ hkm;have hklt:((k:Int)<(l.length:Int))=True:=by simp;exact hk
  simp only[vqM,bM,zA,ab,hklt,decide_true,natle0,K3,hg,hh];refine ak (λhc=>?_) (λhc=>?_)
  ·simp only[vqM];refine QS ?_ (.bool _);simp only[vqM];have:l≠m:=by rintro rfl;simp at hc
   rw[decide_eq_false this]
  ·simp only[vqM];rw[ap (by omega)];refine ae [0,1,5] ?_;simp only[vke,zB,zA];refine ih ?_;have hc':l[k]=m[k]:=by simpa using hc
   rw[Mt,Mt,hx,hy,hI,hc']
 ·intro hI;have hklt:((l.length:Int)<(l.length:Int))=False:=by simp
  simp only[vqM,bM,ab,hklt,decide_false];refine QS ?_ (.bool _);simp only[vqM];rw[Mv,hll,Mv]at hI;rw[decide_eq_true hI]
theorem pG(p:Pg)(hl:(wPg p).length≤1000000)(s:St):ay Qz 94 [.agg p.cells] s (.slice .none (ah (wPg p))) s:=by
 obtain⟨B,L,c⟩:=s;rw[wPg]at hl;simp only[K4,K7,K8]at hl;have hle1:=ql wQu (λx=>by simp[wQu]) p.d.queues;have hle2:=ql wHd (λx=>by simp[wHd]) p.heads;have hle3:=ql wDf (λx=>by simp[wDf]) p.defs;have hsk:(wIs p.d.sinks).length=p.d.sinks.length+1:=by simp[wIs]
 have hth:(wIs p.threads).length=p.threads.length+1:=by simp[wIs]
 refine ay.introN [(1,.text [Qw,Qw,Qw,Qw,Qy,Qy,Qw,Qw,Qw,Qy,Qy,Qw] [(8,0),(8,1)]),(8,.text [Qw,Qw,Qw,Qw,Qy,Qy,Qw,Qw,Qw,Qw,Qw,Qw,Qw,Qw,Qw,Qw,Qw,Qw,Qw,Qy,Qw] [(8,0),(8,1),(11,0),(11,1),(14,0),(14,1),(16,0),(16,1),(17,0),(17,1)]),(13,.text [Qw,Qw,Qw,Qw,Qw,Qw,Qw,Qw,Qy,Qw,Qw,Qy,Qy,Qw,Qw,Qy,Qy,Qw] [(10,0),(14,0),(14,1),(14,2)])] func94 rfl (by decide) az (by kernel_rfl) [QO 2] 130 rfl rfl ?_;simp only[vqM,ji,zA,zS,zM,zL,zB,ic1];refine aa (fR _ (by omega) _) ?_;simp only[vqM,ji,zA,zL,ab,br,bv];refine aA (by omega) ?_;simp only[vqM,ji,zA,aw];refine aa (fR _ (by omega) _) ?_;simp only[vqM,ji,zA,zL,ab,br,cr];refine aA (by omega) ?_;simp only[vqM,ji,zA,zM,zL,zB,aJ,ic1,ab,K4,br,L7,cr,aw];refine aA (by omega) ?_;simp only[vqM,zB,L7,aw];refine ae [1,3,4] ?_;simp only[vke,zB,zA];obtain⟨pre,hpre⟩:∃pre:List Int,pre=2::(wRgs p.d.globals++(wRgs p.d.classes++[(p.d.queues.length:Int)])):=⟨_,rfl⟩;have hprl:=congrArg OJ hpre;simp only[K4,K7,K8]at hprl;rw[←hpre];refine aC az p.d.queues.length (λk e s=>∃o L1 c1 out X,OwW L c o L1 c1∧out=pre++(p.d.queues.take k).flatMap wQu∧e=[J,.box B.length 0,J,.slice o (ah out),.int .i64 (k:Int),J,J,J,J,J,J,J,J,J,J,J,J,J,J,J,J,J,J,J,J,J,J,J,J,J,J,J,J,J,J,J,J,J,J,J,J,J,J,J,J,J,J,J,J,J,J,J,J,J,J,J,J,J,J,J,J,J,J,J,J,J,J,J,J,J,J,J,J,J,J,J,J,J,J,J,J,J,J,J,J,J,J,J,J,J,J,J,J,J,J,J,J,J,J,J,J,J,J,J,J,J,J,J,J,J,J,J,J,J,J,J,J,J,J,J,J,J,J,J,J,J,J,J,J,J]∧s=⟨B++.cells p.cells::X,L1,c1⟩) ?_ ?_ 0 _ _ (K9 _) ⟨_,_,_,pre,[],.mk (by omega),by simp,rfl,rfl⟩
 ·clear hpre;rintro k e s hk ⟨o,L1,c1,out,X,hO,hout,rfl,rfl⟩ ihl;have hx:p.d.queues[k]?=Qv p.d.queues[k]:=C0 hk;have hg:(cX p.d.queues)[k]?=Qv p.d.queues[k].cells:=by simp[cX,hx]
  have hklt:((k:Int)<(p.d.queues.length:Int))=True:=by simp;exact hk
  have hnext:pre++(p.d.queues.take (k+1)).flatMap wQu=out++wQu p.d.queues[k]:=by rw[hout,iD _ hk,L4]
  have hcnt:(out++wQu p.d.queues[k]).length≤pre.length+(p.d.queues.flatMap wQu).length:=by
   rw[←hnext,K4];have:=eg wQu (l:=p.d.queues) (k:=k+1)
   omega
  rw[K4]at hcnt;have hof:=hO.fits out;have hrel:=hO.rel;generalize p.d.queues[k]=x at hx hg hnext hcnt;simp only[wQu,K7,K8]at hcnt hnext;simp only[vqM,ji,zA,zM,zL,zB,aJ,hklt,decide_true,natle0,K3,hg,hof,ic1,icc,ab,K4,br];refine aA (by omega) ?_;simp only[vqM,hrel,aw];rw[ap (by omega)];refine ae [1,3,4] ?_;simp only[vke,zB,zA];exact ihl _ _ ⟨_,_,_,_,_,.mk (by have:=hO.le;omega),by first|exact hnext.symm|(rw[hnext];simp only[L4,Mw,MA]),rfl,rfl⟩
 ·rintro e s ⟨o,L1,c1,out,X,hO,hout4,rfl,rfl⟩;have hklt:((p.d.queues.length:Int)<(p.d.queues.length:Int))=False:=by simp
  rw[Mv,hpre]at hout4;clear hpre;have hol:=congrArg OJ hout4;simp only[K4,K7,K8]at hol;have hof:=hO.fits out;have hrel:=hO.rel;have hle0:=hO.le;simp only[vqM,ji,zA,zB,aJ,hklt,decide_false];refine aa (sq _ (by omega) _) ?_;simp only[vqM,ji,zA,zL,hof,ab,br];refine aA (by omega) ?_;simp only[vqM,ji,zA,zM,zL,aB,hrel,ic1,icc,ab,K4,br,cr,aw];refine aA (by omega) ?_;simp only[vqM,ji,zB,aB,L7,aw];refine ae [1,3,6] ?_;simp only[vke,zB,zA];obtain⟨pre,hpre⟩:∃pre:List Int,pre=out++(wIs p.d.sinks++[p.d.locks,p.d.parts,p.d.firms,(p.heads.length:Int)]):=⟨_,rfl⟩;have hprl:=congrArg OJ hpre;simp only[K4,K7,K8]at hprl;rw[←hpre];refine aC az p.heads.length (λk e s=>∃o L1 c1 out X,OwW L c o L1 c1∧out=pre++(p.heads.take k).flatMap wHd∧e=[J,.box B.length 0,J,.slice o (ah out),J,J,.int .i64 (k:Int),J,J,J,J,J,J,J,J,J,J,J,J,J,J,J,J,J,J,J,J,J,J,J,J,J,J,J,J,J,J,J,J,J,J,J,J,J,J,J,J,J,J,J,J,J,J,J,J,J,J,J,J,J,J,J,J,J,J,J,J,J,J,J,J,J,J,J,J,J,J,J,J,J,J,J,J,J,J,J,J,J,J,J,J,J,J,J,J,J,J,J,J,J,J,J,J,J,J,J,J,J,J,J,J,J,J,J,J,J,J,J,J,J,J,J,J,J,J,J,J,J,J,J]∧s=⟨B++.cells p.cells::X,L1,c1⟩) ?_ ?_ 0 _ _ (K9 _) ⟨_,_,_,pre,X,.mk (by omega),by simp,rfl,rfl⟩
  ·clear hpre;rintro k e s hk ⟨o,L1,c1,out,X,hO,hout,rfl,rfl⟩ ihl;have hx:p.heads[k]?=Qv p.heads[k]:=C0 hk;have hg:(aN p.heads)[k]?=Qv p.heads[k].cells:=by simp[aN,hx]
   have hklt:((k:Int)<(p.heads.length:Int))=True:=by simp;exact hk
   have hnext:pre++(p.heads.take (k+1)).flatMap wHd=out++wHd p.heads[k]:=by rw[hout,iD _ hk,L4]
   have hcnt:(out++wHd p.heads[k]).length≤pre.length+(p.heads.flatMap wHd).length:=by
    rw[←hnext,K4];have:=eg wHd (l:=p.heads) (k:=k+1)
    omega
   rw[K4]at hcnt;have hof:=hO.fits out;have hrel:=hO.rel;generalize p.heads[k]=x at hx hg hnext hcnt;simp only[wHd,K4,K7,K8]at hcnt hnext;simp only[vqM,ji,zA,zM,zL,zB,aB,hklt,decide_true,natle0,K3,hg,hof,ic1,icc,ab,K4,br];refine aA (by omega) ?_;simp only[vqM,ji,zA,hrel,aw];refine aa (fR _ (by omega) _) ?_;simp only[vqM,ji,zA,zL,ab,K4,br,cr];refine aA (by omega) ?_;simp only[vqM,ji,zA,L7,aw];refine aa (fR _ (by omega) _) ?_;simp only[vqM,ji,zA,zL,ab,K4,br,cr];refine aA (by omega) ?_;simp only[vqM,ji,L7,aw];rw[ap (by omega)];refine ae [1,3,6] ?_;simp only[vke,zB,zA];exact ihl _ _ ⟨_,_,_,_,_,.mk (by have:=hO.le;omega),by first|exact hnext.symm|(rw[hnext];simp only[L4,Mw,MA]),rfl,rfl⟩
  ·rintro e s ⟨o,L1,c1,out,X,hO,hout6,rfl,rfl⟩;have hklt:((p.heads.length:Int)<(p.heads.length:Int))=False:=by simp
   rw[Mv,hpre]at hout6;clear hpre;have hol:=congrArg OJ hout6;simp only[K4,K7,K8]at hol;have hof:=hO.fits out;have hrel:=hO.rel;have hle0:=hO.le;simp only[vqM,ji,zA,zM,zL,zB,aB,hklt,decide_false,hof,ic1,ab,br];refine aA (by omega) ?_;simp only[vqM,zB,aj,hrel,aw];refine ae [1,3,8] ?_;simp only[vke,zB,zA];obtain⟨pre,hpre⟩:∃pre:List Int,pre=out++[(p.defs.length:Int)]:=⟨_,rfl⟩;have hprl:=congrArg OJ hpre;simp only[K4,K7,K8]at hprl;rw[←hpre];refine aC az p.defs.length (λk e s=>∃o L1 c1 out X,OwW L c o L1 c1∧out=pre++(p.defs.take k).flatMap wDf∧e=[J,.box B.length 0,J,.slice o (ah out),J,J,J,J,.int .i64 (k:Int),J,J,J,J,J,J,J,J,J,J,J,J,J,J,J,J,J,J,J,J,J,J,J,J,J,J,J,J,J,J,J,J,J,J,J,J,J,J,J,J,J,J,J,J,J,J,J,J,J,J,J,J,J,J,J,J,J,J,J,J,J,J,J,J,J,J,J,J,J,J,J,J,J,J,J,J,J,J,J,J,J,J,J,J,J,J,J,J,J,J,J,J,J,J,J,J,J,J,J,J,J,J,J,J,J,J,J,J,J,J,J,J,J,J,J,J,J,J,J,J,J]∧s=⟨B++.cells p.cells::X,L1,c1⟩) ?_ ?_ 0 _ _ (K9 _) ⟨_,_,_,pre,X,.mk (by omega),by simp,rfl,rfl⟩
   ·clear hpre;rintro k e s hk ⟨o,L1,c1,out,X,hO,hout,rfl,rfl⟩ ihl;have hx:p.defs[k]?=Qv p.defs[k]:=C0 hk;have hg:(ax p.defs)[k]?=Qv p.defs[k].cells:=by simp[ax,hx]
    have hklt:((k:Int)<(p.defs.length:Int))=True:=by simp;exact hk
    have hnext:pre++(p.defs.take (k+1)).flatMap wDf=out++wDf p.defs[k]:=by rw[hout,iD _ hk,L4]
    have hcnt:(out++wDf p.defs[k]).length≤pre.length+(p.defs.flatMap wDf).length:=by
     rw[←hnext,K4];have:=eg wDf (l:=p.defs) (k:=k+1)
     omega
    rw[K4]at hcnt;have hof:=hO.fits out;have hrel:=hO.rel;generalize p.defs[k]=x at hx hg hnext hcnt;simp only[vqM,ji,zA,zB,aj,hklt,decide_true,natle0,K3,hg];refine aa (H8 _ (by omega) _) ?_;simp only[vqM,ji,zA,zL,hof,ab,br];refine aA (by omega) ?_;simp only[vqM,hrel,aw];rw[ap (by omega)];refine ae [1,3,8] ?_;simp only[vke,zB,zA];exact ihl _ _ ⟨_,_,_,_,_,.mk (by have:=hO.le;omega),by first|exact hnext.symm|(rw[hnext];simp only[L4,Mw,MA]),rfl,rfl⟩
   ·rintro e s ⟨o,L1,c1,out,X,hO,hout8,rfl,rfl⟩;have hklt:((p.defs.length:Int)<(p.defs.length:Int))=False:=by simp
    rw[Mv,hpre]at hout8;clear hpre;have hol:=congrArg OJ hout8;simp only[K4,K7,K8]at hol;have hof:=hO.fits out;have hrel:=hO.rel;have hle0:=hO.le;simp only[vqM,ji,zA,zB,aj,hklt,decide_false];refine aa (sq _ (by omega) _) ?_;simp only[vqM,ji,zA,zL,hof,ab,br];refine aA (by omega) ?_;simp only[vqM,hrel,aw];refine am (.inr rfl) ?_ (ce _) (λ_ h=>MT _ h) (by omega);simp only[vqM];rw[hout8,hout6,hout4,wPg];simp only[L4,Mw,MA]
theorem kl(x y:Pg)(hx:(wPg x).length≤1000000)(hy:(wPg y).length≤1000000)(s:St):ay Qz 57 [.agg x.cells,.agg y.cells] s (.bool (decide (wPg x=wPg y))) s:=by
 obtain⟨B,L,c⟩:=s;refine ay.introN [(1,.text [Qw,Qy,Qw,Qy,Qy,Qw] [(2,0)])] func57 rfl (by decide) az (by kernel_rfl) [QO 4] 10 rfl rfl ?_;simp only[vqM,zA,zS,zB,bE];refine aa (pG _ hx _) ?_;simp only[vqM,bE];refine aa (pG _ hy _) ?_;simp only[vqM];refine aa (nz _ _ _) ?_;simp only[vqM,bE];refine QR ?_ (.bool _);simp only[vqM]
mutual
def Ex.eqb:Ex→Ex→Bool
 |.mk o n v a,.mk o' n' v' a'=>decide (o=o')&&decide (n=n')&&decide (v=v')&&Ex.eqbs a a'
def Ex.eqbs:List Ex→List Ex→Bool
 | [],[]=>Qy
 |x::l,y::m=>Ex.eqb x y&&Ex.eqbs l m
 |_,_=>Qw
end
mutual
theorem Ex.eqb_iff:∀x y:Ex,Ex.eqb x y=Qy↔x=y
 |.mk o n v a,.mk o' n' v' a'=>by simp only[Ex.eqb,Mh,decide_eq_true_eq,Ex.eqbs_iff a a',Ex.mk.injEq,and_assoc]
theorem Ex.eqbs_iff:∀l m:List Ex,Ex.eqbs l m=Qy↔l=m
 | [],[]=>by simp[Ex.eqbs]
 | [],_::_=>by simp[Ex.eqbs]
 |_::_,[]=>by simp[Ex.eqbs]
 |x::l,y::m=>by simp only[Ex.eqbs,Mh,Ex.eqb_iff x y,Ex.eqbs_iff l m,O7.injEq]
end
instance:DecidableEq Ex:=λa b=>decidable_of_iff _ (Ex.eqb_iff a b)
mutual
def Co.eqb:Co→Co→Bool
 |.mk o a c,.mk o' a' c'=>decide (o=o')&&decide (a=a')&&Co.eqbs c c'
def Co.eqbs:List Co→List Co→Bool
 | [],[]=>Qy
 |x::l,y::m=>Co.eqb x y&&Co.eqbs l m
 |_,_=>Qw
end
mutual
theorem Co.eqb_iff:∀x y:Co,Co.eqb x y=Qy↔x=y
 |.mk o a c,.mk o' a' c'=>by simp only[Co.eqb,Mh,decide_eq_true_eq,Co.eqbs_iff c c',Co.mk.injEq,and_assoc]
theorem Co.eqbs_iff:∀l m:List Co,Co.eqbs l m=Qy↔l=m
 | [],[]=>by simp[Co.eqbs]
 | [],_::_=>by simp[Co.eqbs]
 |_::_,[]=>by simp[Co.eqbs]
 |x::l,y::m=>by simp only[Co.eqbs,Mh,Co.eqb_iff x y,Co.eqbs_iff l m,O7.injEq]
end
instance:DecidableEq Co:=λa b=>decidable_of_iff _ (Co.eqb_iff a b)
mutual
def Sm.eqb:Sm→Sm→Bool
 |.mk s o n m v x y c g p b e,.mk s' o' n' m' v' x' y' c' g' p' b' e'=>decide (s=s')&&decide (o=o')&&decide (n=n')&&decide (m=m')&&decide (v=v')&&decide (x=x')&&decide (y=y')&&decide (c=c')&&decide (g=g')&&decide (p=p')&&Sm.eqbs b b'&&Sm.eqbs e e'
def Sm.eqbs:List Sm→List Sm→Bool
 | [],[]=>Qy
 |x::l,y::m=>Sm.eqb x y&&Sm.eqbs l m
 |_,_=>Qw
end
mutual
theorem Sm.eqb_iff:∀x y:Sm,Sm.eqb x y=Qy↔x=y
 |.mk s o n m v x y c g p b e,.mk s' o' n' m' v' x' y' c' g' p' b' e'=>by simp only[Sm.eqb,Mh,decide_eq_true_eq,Sm.eqbs_iff b b',Sm.eqbs_iff e e',Sm.mk.injEq,and_assoc]
theorem Sm.eqbs_iff:∀l m:List Sm,Sm.eqbs l m=Qy↔l=m
 | [],[]=>by simp[Sm.eqbs]
 | [],_::_=>by simp[Sm.eqbs]
 |_::_,[]=>by simp[Sm.eqbs]
 |x::l,y::m=>by simp only[Sm.eqbs,Mh,Sm.eqb_iff x y,Sm.eqbs_iff l m,O7.injEq]
end
instance:DecidableEq Sm:=λa b=>decidable_of_iff _ (Sm.eqb_iff a b)
theorem Hd.eq_iff(a b:Hd):(a.id=b.id∧a.firm=b.firm∧a.part=b.part∧a.params=b.params∧a.given=b.given)↔a=b:=by cases a;cases b;simp
instance:DecidableEq Hd:=λa b=>decidable_of_iff _ (Hd.eq_iff a b)
structure En where
 head:Bool
 opn:Bool
 h:Hd
 d:Df
 decl:Dc
 threads:List Int
def En.cells(x:En):List D:=[.bool x.head,.bool x.opn]++(x.h.cells++(x.d.cells++(x.decl.cells++([.slice .none (ah x.threads)]))))
theorem En.cells_len(x:En):x.cells.length=27:=rfl
theorem En.plain(x:En):x.cells.map D.plain1=x.cells:=rfl
theorem En.keep1(x:En):x.cells.map D.keep1=x.cells:=rfl
theorem En.t_d(x:En):(x.cells.drop 7).take 12=x.d.cells:=rfl
theorem En.f_d_id(x:En):(x.cells.drop 7)[0]?=Qv (.int .i64 x.d.id):=rfl
theorem En.f_d_site(x:En):(x.cells.drop 8)[0]?=Qv (.int .i64 x.d.site):=rfl
theorem En.f_d_name(x:En):(x.cells.drop 9)[0]?=Qv (.str x.d.name):=rfl
theorem En.f_d_firm(x:En):(x.cells.drop 10)[0]?=Qv (.int .i64 x.d.firm):=rfl
theorem En.f_d_part(x:En):(x.cells.drop 11)[0]?=Qv (.int .i64 x.d.part):=rfl
theorem En.f_d_params(x:En):(x.cells.drop 12)[0]?=Qv (.slice .none (aM x.d.params)):=rfl
theorem En.f_d_given(x:En):(x.cells.drop 13)[0]?=Qv (.slice .none (aM x.d.given)):=rfl
theorem En.f_d_vars(x:En):(x.cells.drop 14)[0]?=Qv (.int .i64 x.d.vars):=rfl
theorem En.f_d_refs(x:En):(x.cells.drop 15)[0]?=Qv (.int .i64 x.d.refs):=rfl
theorem En.f_d_arrays(x:En):(x.cells.drop 16)[0]?=Qv (.slice .none (cj x.d.arrays)):=rfl
theorem En.f_d_budget(x:En):(x.cells.drop 17)[0]?=Qv (.int .i64 x.d.budget):=rfl
theorem En.f_d_body(x:En):(x.cells.drop 18)[0]?=Qv (.slice .none (Sm.encs x.d.body)):=rfl
theorem En.f_threads(x:En):(x.cells.drop 26)[0]?=Qv (.slice .none (ah x.threads)):=rfl
def En.encs(l:List En):List (List D):=l.map En.cells
structure Mg where
 p:Pg
 c:List Int
 e:Int
def Mg.cells(x:Mg):List D:=x.p.cells++([.slice .none (ah x.c),.int .i64 x.e])
theorem Mg.cells_len(x:Mg):x.cells.length=12:=rfl
theorem Mg.plain(x:Mg):x.cells.map D.plain1=x.cells:=rfl
theorem Mg.keep1(x:Mg):x.cells.map D.keep1=x.cells:=rfl
theorem Mg.f_c(x:Mg):(x.cells.drop 10)[0]?=Qv (.slice .none (ah x.c)):=rfl
def Mg.encs(l:List Mg):List (List D):=l.map Mg.cells
structure Cg where
 kind:Int
 pos:Int
 n:Int
def Cg.cells(x:Cg):List D:=[.int .u8 x.kind,.int .u8 x.pos,.int .u8 x.n]
theorem Cg.cells_len(x:Cg):x.cells.length=3:=rfl
theorem Cg.plain(x:Cg):x.cells.map D.plain1=x.cells:=rfl
theorem Cg.keep1(x:Cg):x.cells.map D.keep1=x.cells:=rfl
theorem Cg.f_n(x:Cg):(x.cells.drop 2)[0]?=Qv (.int .u8 x.n):=rfl
def Cg.encs(l:List Cg):List (List D):=l.map Cg.cells
def Dc.zero:Dc:=⟨[],[],[],[],0,0,0⟩
def Pg.zero:Pg:=⟨Dc.zero,[],[],[]⟩
def En.zero:En:=⟨Qw,Qw,Hd.zero,Df.zero,Dc.zero,[]⟩
def seHd(x y:Hd):Bool:=decide (x.id=y.id)&&(decide (x.firm=y.firm)&&(decide (x.part=y.part)&&(decide (x.params=y.params)&&decide (x.given=y.given))))
theorem Ih(x y:Hd):seHd x y=decide (x=y):=by cases x;cases y;simp[seHd]
theorem Small.sl{cs:List D}{o:Own}{xs:List (List D)}(h:Small (.agg cs))(hm:D.slice o xs∈cs):xs.length≤281474976710656:=by
 cases h with
 |agg _ h=>exact(h _ hm).len
theorem Rg.eqN_iff(a b:Rg):(a.lo=b.lo∧a.hi=b.hi∧a.mask=b.mask)↔a=b:=by cases a;cases b;simp
theorem sX(l m:List Rg)(s:St):ay Qz 73 [.slice .none (aM l),.slice .none (aM m)] s (.bool (decide (l=m))) s:=by
 refine ay.small λhsm=>?_;have hlen:=(hsm _ (.head _)).len;rw[ao]at hlen;clear hsm;obtain⟨B,L,c⟩:=s;refine ay.introN [] func73 rfl (by decide) az (by kernel_rfl) [QO 4] 26 rfl rfl ?_;simp only[vqM,iV,zA,zS,ao];refine ak (λhc=>?_) (λhc=>?_)
 ·simp only[vqM];refine QS ?_ (.bool _);have:l≠m:=by rintro rfl;simp at hc
  simp only[vqM];rw[decide_eq_false this]
 have hll:l.length=m.length:=by simp at hc;omega
 simp only[vqM];refine ae [0,1,5] ?_;simp only[vke,zB,zA];refine aC az l.length (λk e s=>l.take k=m.take k∧e=[.slice .none (aM l),.slice .none (aM m),J,J,J,.int .i64 (k:Int),J,J,J,J,J,J,J,J,J,J,J,J,J,J,J,J,J,J,J,J]∧s=⟨B,L,c⟩) ?_ ?_ 0 _ _ (K9 _) ⟨rfl,rfl,rfl⟩
 ·rintro k e s hk ⟨hI,rfl,rfl⟩ ihl;have hkm:k<m.length:=by omega
  have hx:l[k]?=Qv l[k]:=C0 hk;have hy:m[k]?=Qv m[k]:=C0 hkm;have hg:(aM l)[k]?=Qv (l[k].cells):=by simp[aM,hx]
  have hh:(aM m)[k]?=Qv (m[k].cells):=by simp[aM,hy]
  have hklt:((k:Int)<(l.length:Int))=True:=by simp;exact hk
  generalize l[k]=xx at hx hg;generalize m[k]=yy at hy hh;simp only[vqM,iV,ao,hklt,decide_true,natle0,K3,hg,hh];refine ak (λhc=>?_) (λhc=>?_)
  ·simp only[vqM];refine QS ?_ (.bool _);have:l≠m:=by
    rintro rfl;rw[hx]at hy;cases hy;simp at hc
   simp only[vqM];rw[decide_eq_false this]
  ·simp only[vqM];rw[ap (by omega)];refine ae [0,1,5] ?_;simp only[vke,zB,zA];have hc':xx=yy:=(Rg.eqN_iff xx yy).1 (by simpa using hc);subst hc';refine ihl _ _ ⟨?_,rfl,rfl⟩;rw[Mt,Mt,hx,hy,hI]
 ·rintro e s ⟨hI,rfl,rfl⟩;have hklt:((l.length:Int)<(l.length:Int))=False:=by simp
  rw[Mv,hll,Mv]at hI;simp only[vqM,iV,ao,hklt,decide_false];refine QS ?_ (.bool _);simp only[vqM];rw[decide_eq_true hI]
theorem pF(x y:Hd)(s:St):ay Qz 24 [.agg x.cells,.agg y.cells] s (.bool (decide (x=y))) s:=by
 obtain⟨B,L,c⟩:=s;rw[←Ih];refine ay.introN [] func24 rfl (by decide) az (by kernel_rfl) [QO 4] 38 rfl rfl ?_;simp only[vqM,tf3,dN,zA,zS];repeat' (first
  |((with_reducible refine aI ?_);refine aa (sX _ _ _) ?_;simp only[vqM])
  |(with_reducible refine ak (λhc=>?_) (λhc=>?_)<;>simp only[vqM,tf3,dS,dN,hc,zA])
  |((with_reducible refine cU ?_);refine QR ?_ (.bool _)<;>(try simp only[vqM])<;>(first|(simp only[seHd, *,K6,Me,Mq];done)|(simp_all[seHd];done)|(simp_all[seHd];omega))))
theorem fA(n a b:Int)(s:St):ay Qz 145 [.int .i64 n,.int .i64 a,.int .i64 b] s (.bool (inB n a b)) s:=by
 obtain⟨B,L,c⟩:=s;refine ay.introN [] func145 rfl (by decide) az (by kernel_rfl) [QO 6] 15 rfl rfl ?_;simp only[vqM,zA,zS];repeat' (first
  |(with_reducible refine ak (λhc=>?_) (λhc=>?_)<;>simp only[vqM,hc])
  |((with_reducible refine cU ?_);refine QS ?_ (.bool _)<;>(try simp only[vqM])<;>(first|(simp only[inB, *,K6,Me];done)|(simp_all[inB];done)|(simp_all[inB];omega))))
theorem xk(r:Rg)(s:St):ay Qz 146 [.agg r.cells] s (.bool (aQ r)) s:=by
 obtain⟨B,L,c⟩:=s;refine ay.introN [] func146 rfl (by decide) az (by kernel_rfl) [QO 2] 23 rfl rfl ?_;simp only[vqM,tf3,bJ,zA,zS];repeat' (first
  |((with_reducible refine aI ?_);refine aa (fA _ _ _ _) ?_;simp only[vqM])
  |(with_reducible refine ak (λhc=>?_) (λhc=>?_)<;>simp only[vqM,tf3,bJ,hc,zA])
  |((with_reducible refine cU ?_);refine QR ?_ (.bool _)<;>(try simp only[vqM])<;>(first|(simp only[aQ,inB, *,K6,Me,Mu,Mq];done)|(simp_all[aQ,inB];done)|(simp_all[aQ,inB];omega))))
theorem lC(l:List Rg)(n:Int)(s:St):ay Qz 144 [.slice .none (aM l),.int .i64 n] s (.bool (bA l n aQ)) s:=by
 refine ay.small λhsm=>?_;have hlen:=(hsm _ (.head _)).len;rw[ao]at hlen;clear hsm;obtain⟨B,L,c⟩:=s;refine ay.introN [] func144 rfl (by decide) az (by kernel_rfl) [QO 4] 22 rfl rfl ?_;simp only[vqM,zA,zS];refine ae [0,1,5] ?_;simp only[vke,zB,zA];refine aC az l.length (λk e s=>(∀z∈l.take k,aQ z=Qy)∧e=[.slice .none (aM l),.int .i64 n,J,J,J,.int .i64 (k:Int),J,J,J,J,J,J,J,J,J,J,J,J,J,J,J,J]∧s=⟨B,L,c⟩) ?_ ?_ 0 _ _ (K9 _) ⟨λz h=>by simp at h,rfl,rfl⟩
 ·rintro k e s hk ⟨hI,rfl,rfl⟩ ihl;have hx:l[k]?=Qv l[k]:=C0 hk;have hg:(aM l)[k]?=Qv (l[k].cells):=by simp[aM,hx]
  have hklt:((k:Int)<(l.length:Int))=True:=by simp;exact hk
  have hxm:l[k]∈l:=Mf hk;generalize l[k]=xx at hx hg hxm;simp only[vqM,AF,ao,hklt,decide_true,natle0,K3,hg];refine aa (xk _ _) ?_;simp only[vqM];refine ak (λhc=>?_) (λhc=>?_)
  ·have hb:aQ xx=Qw:=by simpa using hc
   simp only[vqM];refine QS ?_ (.bool _);simp only[vqM];have:l.all aQ=Qw:=No.2 ⟨xx,hxm,by simp[hb]⟩
   rw[bA,this,Mq]
  ·have hb:aQ xx=Qy:=by simpa using hc
   simp only[vqM];rw[ap (by omega)];refine ae [0,1,5] ?_;simp only[vke,zB,zA];refine ihl _ _ ⟨λz hz=>?_,rfl,rfl⟩;rw[Mt,hx]at hz;rcases Mz.1 hz with hz|hz
   ·exact hI z hz
   ·simp at hz;subst hz;exact hb
 ·rintro e s ⟨hI,rfl,rfl⟩;have hklt:((l.length:Int)<(l.length:Int))=False:=by simp
  rw[Mv]at hI;simp only[vqM,AF,ao,hklt,decide_false];refine QS ?_ (.bool _);simp only[vqM];rw[bA,Mn.2 hI,Mu]
def qi(d:Dc):Bool:=!bA d.globals 8 aQ ||(!bA d.classes 8 aQ ||(decide (8<(d.sinks.length:Int)) ||(decide (4<(d.queues.length:Int)) ||(!inB d.locks 0 8 ||(!inB d.parts 1 16 || !inB d.firms 1 8)))))
theorem H9(d:Dc)(s:St):ay Qz 95 [.agg d.cells] s (.int .i64 (if declB d then 0 else 60)) s:=by
 refine ay.small λhsm=>?_;have hlen:(cX d.queues).length≤281474976710656:=(hsm _ (.head _)).sl (o:=.none) (by cases d;simp[Dc.cells]);have hlen2:(ah d.sinks).length≤281474976710656:=(hsm _ (.head _)).sl (o:=.none) (by cases d;simp[Dc.cells]);rw[aJ]at hlen;rw[ab]at hlen2;clear hsm;obtain⟨B,L,c⟩:=s;refine ay.introN [(1,.cut),(6,.cut)] func95 rfl (by decide) az (by kernel_rfl) [QO 2] 84 rfl rfl ?_;simp only[vqM,zA,zS,zB];refine bn az [1,44] [J,.box B.length 0,J,J,J,J,J,J,J,J,J,J,J,J,J,J,J,J,J,J,J,J,J,J,J,J,J,J,J,J,J,J,J,J,J,J,J,J,J,J,J,J,J,J,.bool (qi d),J,J,J,J,J,J,J,J,J,J,J,J,J,J,J,J,J,J,J,J,J,J,J,J,J,J,J,J,J,J,J,J,J,J,J,J,J,J,J] (λs=>s=⟨B++[.cells d.cells],L,c⟩) ?_ ?_
 ·simp only[vqM,vt78,zA];repeat' (first
   |((with_reducible refine aI ?_);refine aa (lC _ _ _) ?_;simp only[vqM])
   |((with_reducible refine aI ?_);refine aa (fA _ _ _ _) ?_;simp only[vqM])
   |(with_reducible refine ak (λhc=>?_) (λhc=>?_)<;>simp only[vqM,vt78,hc,zA,aJ,ab])
   |((with_reducible refine cU ?_);refine aE ⟨?_,rfl⟩<;>simp only[vke,zB,zA]<;>(first|(simp only[qi, *,Mr,Mi,Ms];done)|(simp_all[qi];done)|(simp_all[qi];omega))))
 rintro s rfl;simp only[vqM];have hdcl:declB d=(!qi d&&(d.queues.all jf&&d.sinks.all (inB · 0 255))):=by
  simp only[declB,qi,bA,Pm,O1,Int.not_lt,←decide_not];rw[Nv];simp only[Mh,decide_eq_true_eq];constructor
  ·rintro⟨⟨⟨⟨⟨⟨h1,h2⟩,h3⟩,h4⟩,h5⟩,h6⟩,h7⟩;exact⟨⟨h1,h2,h4.1,h3.1,h5,h6,h7⟩,h3.2,h4.2⟩
  ·rintro⟨⟨h1,h2,h4,h3,h5,h6,h7⟩,h8,h9⟩;exact⟨⟨⟨⟨⟨⟨h1,h2⟩,h3,h8⟩,h4,h9⟩,h5⟩,h6⟩,h7⟩
 refine ak (λhc=>?_) (λhc=>?_)
 ·simp only[vqM,zB];refine QR ?_ (.int _ _);simp only[vqM];rw[hdcl,hc];rfl
 rw[hc,Ml,K6]at hdcl;simp only[vqM,zB];refine ae [1,3] ?_;simp only[vke,zB,zA];refine aC az d.queues.length (λk e s=>(∀z∈d.queues.take k,jf z=Qy)∧e=[J,.box B.length 0,J,.int .i64 (k:Int),J,J,J,J,J,J,J,J,J,J,J,J,J,J,J,J,J,J,J,J,J,J,J,J,J,J,J,J,J,J,J,J,J,J,J,J,J,J,J,J,J,J,J,J,J,J,J,J,J,J,J,J,J,J,J,J,J,J,J,J,J,J,J,J,J,J,J,J,J,J,J,J,J,J,J,J,J,J,J,J]∧s=⟨B++[.cells d.cells],L,c⟩) ?_ ?_ 0 _ _ (K9 _) ⟨λz h=>by simp at h,rfl,rfl⟩
 ·rintro k e s hk ⟨hI,rfl,rfl⟩ ihl;have hx:d.queues[k]?=Qv d.queues[k]:=C0 hk;have hg:(cX d.queues)[k]?=Qv (d.queues[k].cells):=by simp[cX,hx]
  have hklt:((k:Int)<(d.queues.length:Int))=True:=by simp;exact hk
  have hxm:d.queues[k]∈d.queues:=Mf hk;generalize d.queues[k]=xx at hx hg hxm;simp only[vqM,vt78,zA,zB,aJ,hklt,decide_true];refine bn az [1,3,69] [J,.box B.length 0,J,.int .i64 (k:Int),J,J,J,J,J,J,J,J,J,J,J,J,J,J,J,J,J,J,J,J,J,J,J,J,J,J,J,J,J,J,J,J,J,J,J,J,J,J,J,J,J,J,J,J,J,J,J,J,J,J,J,J,J,J,J,J,J,J,J,J,J,J,J,J,J,.bool (!jf xx),J,J,J,J,J,J,J,J,J,J,J,J,J,J] (λs=>s=⟨B++[.cells d.cells],L,c⟩) ?_ ?_
  ·simp only[vqM,vt78,zA,zS,natle0,K3,hg];repeat' (first
    |((with_reducible refine aI ?_);refine aa (xk _ _) ?_;simp only[vqM])
    |((with_reducible refine aI ?_);refine aa (fA _ _ _ _) ?_;simp only[vqM])
    |(with_reducible refine ak (λhc=>?_) (λhc=>?_)<;>simp only[vqM,vt78,hc,zA,natle0,K3,hg])
    |((with_reducible refine cU ?_);refine aE ⟨?_,rfl⟩<;>simp only[vke,zB,zA]<;>(first|(simp only[jf, *];done)|(simp_all[jf];done)|(simp_all[jf];omega))))
  rintro s rfl;simp only[vqM];refine ak (λhc=>?_) (λhc=>?_)
  ·have hb:jf xx=Qw:=by simpa using hc
   simp only[vqM,zB];refine QR ?_ (.int _ _);simp only[vqM];have:d.queues.all jf=Qw:=No.2 ⟨xx,hxm,by simp[hb]⟩
   rw[hdcl,this];rfl
  ·have hb:jf xx=Qy:=by simpa using hc
   simp only[vqM];rw[ap (by omega)];refine ae [1,3] ?_;simp only[vke,zB,zA];refine ihl _ _ ⟨λz hz=>?_,rfl,rfl⟩;rw[Mt,hx]at hz;rcases Mz.1 hz with hz|hz
   ·exact hI z hz
   ·simp at hz;subst hz;exact hb
 ·rintro e s ⟨hI,rfl,rfl⟩;have hklt:((d.queues.length:Int)<(d.queues.length:Int))=False:=by simp
  rw[Mv]at hI;simp only[vqM,vt78,zA,zB,aJ,hklt,decide_false];have hq:d.queues.all jf=Qy:=Mn.2 hI;rw[hq,K6]at hdcl;clear hI hklt;refine ae [1,4] ?_;simp only[vke,zB,zA];refine aC az d.sinks.length (λk e s=>(∀z∈d.sinks.take k,inB z 0 255=Qy)∧e=[J,.box B.length 0,J,J,.int .i64 (k:Int),J,J,J,J,J,J,J,J,J,J,J,J,J,J,J,J,J,J,J,J,J,J,J,J,J,J,J,J,J,J,J,J,J,J,J,J,J,J,J,J,J,J,J,J,J,J,J,J,J,J,J,J,J,J,J,J,J,J,J,J,J,J,J,J,J,J,J,J,J,J,J,J,J,J,J,J,J,J,J]∧s=⟨B++[.cells d.cells],L,c⟩) ?_ ?_ 0 _ _ (K9 _) ⟨λz h=>by simp at h,rfl,rfl⟩
  ·rintro k e s hk ⟨hI,rfl,rfl⟩ ihl;have hx:d.sinks[k]?=Qv d.sinks[k]:=C0 hk;have hg:(ah d.sinks)[k]?=Qv ([.int .i64 d.sinks[k]]):=by simp[ah,hx]
   have hklt:((k:Int)<(d.sinks.length:Int))=True:=by simp;exact hk
   have hxm:d.sinks[k]∈d.sinks:=Mf hk;generalize d.sinks[k]=xx at hx hg hxm;simp only[vqM,vt78,zA,zB,ab,hklt,decide_true,natle0,K3,hg];refine aa (fA _ _ _ _) ?_;simp only[vqM];refine ak (λhc=>?_) (λhc=>?_)
   ·have hb:inB xx 0 255=Qw:=by simpa using hc
    simp only[vqM,zB];refine QR ?_ (.int _ _);simp only[vqM];have:d.sinks.all (inB · 0 255)=Qw:=No.2 ⟨xx,hxm,by simp[hb]⟩
    rw[hdcl,this];rfl
   ·have hb:inB xx 0 255=Qy:=by simpa using hc
    simp only[vqM];rw[ap (by omega)];refine ae [1,4] ?_;simp only[vke,zB,zA];refine ihl _ _ ⟨λz hz=>?_,rfl,rfl⟩;rw[Mt,hx]at hz;rcases Mz.1 hz with hz|hz
    ·exact hI z hz
    ·simp at hz;subst hz;exact hb
  ·rintro e s ⟨hI,rfl,rfl⟩;have hklt:((d.sinks.length:Int)<(d.sinks.length:Int))=False:=by simp
   rw[Mv]at hI;simp only[vqM,vt78,zA,zB,ab,hklt,decide_false];refine QR ?_ (.int _ _);simp only[vqM];have:d.sinks.all (inB · 0 255)=Qy:=Mn.2 hI
   rw[hdcl,this];rfl
def sizeR(r:Int×Bool):Int:=if r.2 then r.1 else -1
theorem CR{a:List Ex}{d:Int}(h:10<d):fX a d=Qw:=by
 have:decide (d≤10)=Qw:=decide_eq_false (by omega)
 rw[fX,this,Mq]
theorem pm(k:Ck)(e:Ex){d:Int}(h:10<d):(exprS k e d).2=Qw:=by
 obtain⟨op,n,v,a⟩:=e;simp only[exprS,CR h];have h10:(10≤d)=True:=eq_true (by omega);repeat' split
 all_goals first
  |rfl
  |simp_all
theorem ui:∀d,1≤gX d
 |0=>by simp[gX]
 |d+1=>by have:=ui d;simp only[gX];omega
theorem xI:∀d,d≤10→gX d≤2047:=by decide
theorem GC(k:Ck)(x y:Ex)(d:Int)(hx:(exprS k x d).2=Qy→1≤(exprS k x d).1∧(exprS k x d).1≤3000)(hy:(exprS k y d).2=Qy→1≤(exprS k y d).1∧(exprS k y d).1≤3000) :
  exprsS k [x,y] d 1=if (exprS k x d).2=Qy∧(exprS k y d).2=Qy then(1+(exprS k x d).1+(exprS k y d).1,Qy)else(0,Qw):=by
 simp only[exprsS];cases h1:(exprS k x d).2 with
 |false=>simp
 |true =>
  have b1:=hx h1;rw[bG (n:=1+(exprS k x d).1) (by omega)];cases h2:(exprS k y d).2 with
  |false=>simp
  |true =>
   have b2:=hy h2;rw[bG (n:=1+(exprS k x d).1+(exprS k y d).1) (by omega)];simp
mutual
theorem Bp(k:Ck):(e:Ex)→∀d:Int,1≤d→d≤10→(exprS k e d).2=Qy→1≤(exprS k e d).1∧(exprS k e d).1≤gX (10-d).toNat
 |.mk op n v a,d,h1,h2,h=>by
  have hp:=ui (10-d).toNat;simp only[exprS]at h⊢;by_cases o1:op=1
  ·rw[if_pos o1]at h⊢;simp only;omega
  rw[if_neg o1]at h⊢;by_cases o2:op=2
  ·rw[if_pos o2]at h⊢;simp only;omega
  rw[if_neg o2]at h⊢;by_cases o3:op=3
  ·rw[if_pos o3]at h⊢;simp only;omega
  rw[if_neg o3]at h⊢;split at h
  ·simp at h
  ·rename_i hc;rw[if_neg hc];simp only[N9,MU,decide_eq_true_eq,not_or,Classical.not_not]at hc;obtain⟨⟨_,hl⟩,hd⟩:=hc;obtain⟨x,y,rfl⟩:∃x y,a=[x,y]:=by
    match a,hl with
    | [x,y],_=>exact⟨x,y,rfl⟩
   have hw:w64 (d+1)=d+1:=bG (by omega);obtain⟨e,he⟩:∃m,(10-d).toNat=m+1:=⟨(10-(d+1)).toNat,by omega⟩;have he2:(10-(d+1)).toNat=e:=by omega
   have bx:=sK k [x,y] x (by simp) (d+1) (by omega) (by omega);have by_:=sK k [x,y] y (by simp) (d+1) (by omega) (by omega);have hm:=xI e (by omega);rw[he2]at bx by_;rw[hw,GC k x y (d+1) (λh=>by have:=bx h;omega) (λh=>by have:=by_ h;omega)]at h⊢;split at h
   ·rename_i hb;rw[if_pos hb,he];have b1:=bx hb.1;have b2:=by_ hb.2;simp only[gX];omega
   ·simp at h
theorem sK(k:Ck):(l:List Ex)→∀x∈l,∀d:Int,1≤d→d≤10→(exprS k x d).2=Qy→1≤(exprS k x d).1∧(exprS k x d).1≤gX (10-d).toNat
 | [],x,h=>by simp at h
 |y::l,x,h=>by
  rcases Mj.1 h with e|h
  ·rw[e];exact Bp k y
  ·exact sK k l x h
end
theorem ly(k:Ck)(e:Ex){d:Int}(h1:1≤d)(h:(exprS k e d).2=Qy):1≤(exprS k e d).1∧(exprS k e d).1≤2047:=by
 by_cases h2:d≤10
 ·have:=Bp k e d h1 h2 h
  have:=xI (10-d).toNat (by omega)
  omega
 ·rw[pm k e (by omega)]at h;simp at h
def tG(op n v:Int)(a:List Ex):Bool:=!inB op 4 10 ||(decide (n≠0) ||(decide (v≠0) ||decide ((a.length:Int)≠2)))
theorem yw(k:Ck)(e:Ex)(ih:∀x∈e.a,∀d:Int,1≤d→d≤11→∀s,ay Qz 282 [.agg k.d.cells,.agg x.cells,.int .i64 d] s (.int .i64 (sizeR (exprS k x d))) s)(d:Int)(h1:1≤d)(h2:d≤11)(s:St) :
  ay Qz 282 [.agg k.d.cells,.agg e.cells,.int .i64 d] s (.int .i64 (sizeR (exprS k e d))) s:=by
 obtain⟨B,L,c⟩:=s;obtain⟨op,n,v,a⟩:=e;have hal:Ex.a (.mk op n v a)=a:=rfl;rw[hal]at ih;have hw1:QQ.wrap (k.d.vars-1)=w64 (k.d.vars-1):=rfl;have hw2:QQ.wrap ((k.d.arrays.length:Int)-1)=w64 (k.d.arrays.length-1):=rfl;refine ay.introN [(16,.cut),(18,.text [Qw,Qw,Qw,Qw,Qw,Qw,Qw,Qy,Qw,Qw,Qw,Qw,Qw,Qw,Qw,Qy,Qw,Qw] [(8,0),(10,0),(12,0)])] func282 rfl (by decide) az (by kernel_rfl) [QO 6] 114 rfl rfl ?_;simp only[vqM,zA,zS,zB];by_cases hd:10<d
 ·have:=pm k (.mk op n v a) hd
  have hd':(10<d)=True:=eq_true hd;simp only[vqM,zB,hd',decide_true];refine QR ?_ (.int _ _);simp only[vqM];rw[sizeR,this];rfl
 have hd0:(10<d)=False:=eq_false hd;have hd10:decide (d≤10)=Qy:=decide_eq_true (by omega);simp only[vqM,vt79,zA,zB,Ex.op,hd0,decide_false];refine ak (λhc=>?_) (λhc=>?_)
 ·have o1:=of_decide_eq_true hc;simp only[vqM,vt79,zA,zB,Ex.n];repeat' (first
   |((with_reducible refine aI ?_);refine aa (fA _ _ _ _) ?_;simp only[vqM])
   |(with_reducible refine ak (λhc=>?_) (λhc=>?_)<;>simp only[vqM,vt79,hc,zA,zB,af,Ex.v,Ex.a])
   |((with_reducible refine cU ?_);refine QR ?_ (.int _ _)<;>(try simp only[vqM])<;>(first|(simp only[sizeR,exprS,fX, *,K6,Me,Mu,Mq,if_true];done)|(simp_all[sizeR,exprS,fX];done)|(simp_all[sizeR,exprS,fX,hd10];omega))))
 have o1:=of_decide_eq_false hc;simp only[vqM,zB];refine ak (λhc=>?_) (λhc=>?_)
 ·have o2:=of_decide_eq_true hc;simp only[vqM,vt79,zA,zB,Ex.v];repeat' (first
   |((with_reducible refine aI ?_);refine aa (fA _ _ _ _) ?_;simp only[vqM])
   |(with_reducible refine ak (λhc=>?_) (λhc=>?_)<;>simp only[vqM,vt79,hc,zA,zB,af,Ex.n,Ex.a,hw1])
   |((with_reducible refine cU ?_);refine QR ?_ (.int _ _)<;>(try simp only[vqM])<;>(first|(simp only[sizeR,exprS,fX, *,K6,Me,Mu,Mq,if_true];done)|(simp_all[sizeR,exprS,fX];done)|(simp_all[sizeR,exprS,fX,hd10];omega))))
 have o2:=of_decide_eq_false hc;simp only[vqM,zB];refine ak (λhc=>?_) (λhc=>?_)
 ·have o3:=of_decide_eq_true hc;simp only[vqM,vt79,zA,zB,Ex.v];repeat' (first
   |((with_reducible refine aI ?_);refine aa (fA _ _ _ _) ?_;simp only[vqM])
   |(with_reducible refine ak (λhc=>?_) (λhc=>?_)<;>simp only[vqM,vt79,hc,zA,zB,af,ai,Ex.n,Ex.a,hw2])
   |((with_reducible refine cU ?_);refine QR ?_ (.int _ _)<;>(try simp only[vqM])<;>(first|(simp only[sizeR,exprS,fX, *,K6,Me,Mu,Mq,if_true];done)|(simp_all[sizeR,exprS,fX];done)|(simp_all[sizeR,exprS,fX,hd10];omega))))
 have o3:=of_decide_eq_false hc;simp only[vqM,zB];refine bn az [2,3,4,87] [J,J,.int .i64 d,.box B.length 0,.box (B.length+1) 0,J,J,J,J,J,J,J,J,J,J,J,J,J,J,J,J,J,J,J,J,J,J,J,J,J,J,J,J,J,J,J,J,J,J,J,J,J,J,J,J,J,J,J,J,J,J,J,J,J,J,J,J,J,J,J,J,J,J,J,J,J,J,J,J,J,J,J,J,J,J,J,J,J,J,J,J,J,J,J,J,J,J,.bool (tG op n v a),J,J,J,J,J,J,J,J,J,J,J,J,J,J,J,J,J,J,J,J,J,J,J,J,J,J] (λs=>s=⟨B++[.cells k.d.cells,.cells (Ex.mk op n v a).cells],L,c⟩) ?_ ?_
 ·simp only[vqM,vt79,zA,Ex.op];repeat' (first
   |((with_reducible refine aI ?_);refine aa (fA _ _ _ _) ?_;simp only[vqM])
   |(with_reducible refine ak (λhc=>?_) (λhc=>?_)<;>simp only[vqM,vt79,hc,zA,af,Ex.n,Ex.v,Ex.a])
   |((with_reducible refine cU ?_);refine aE ⟨?_,rfl⟩<;>simp only[vke,zB,zA]<;>(first|(simp only[tG, *,Mr,Mi,Ms];done)|(simp_all[tG];done)|(simp_all[tG];omega))))
 rintro s rfl;simp only[vqM];have hex:exprS k (.mk op n v a) d=if tG op n v a ||decide (10≤d)then(0,Qw)else exprsS k a (w64 (d+1)) 1:=by
  simp only[exprS,if_neg o1,if_neg o2,if_neg o3,tG];congr 1;simp only[N9,MU,decide_eq_true_eq,or_assoc]
 refine ak (λhc=>?_) (λhc=>?_)
 ·simp only[vqM,zB];refine QR ?_ (.int _ _);simp only[vqM];rw[sizeR,hex,hc];rfl
 rw[hc,Mi]at hex;simp only[tG,Ng,decide_eq_false_iff_not,ne_eq,Classical.not_not]at hc;obtain⟨_,_,_,hl⟩:=hc;obtain⟨x,y,rfl⟩:∃x y,a=[x,y]:=by
  match a,hl with
  | [x,y],_=>exact⟨x,y,rfl⟩
 have hwd:QQ.wrap (d+1)=d+1:=aG (by omega);have hen:Ex.encs [x,y]=[x.cells,y.cells]:=rfl;have ihx:=ih x (by simp);have ihy:=ih y (by simp);have sx:(exprS k x (d+1)).2=Qy→1≤(exprS k x (d+1)).1∧(exprS k x (d+1)).1≤3000:=λh=>by have:=ly k x (d:=d+1) (by omega) h;omega
 have sy:(exprS k y (d+1)).2=Qy→1≤(exprS k y (d+1)).1∧(exprS k y (d+1)).1≤3000:=λh=>by have:=ly k y (d:=d+1) (by omega) h;omega
 have hw:w64 (d+1)=d+1:=hwd;have hfin:sizeR (exprS k (.mk op n v [x,y]) d)=if sizeR (exprS k x (d+1))<0∨sizeR (exprS k y (d+1))<0 then -1 else 1+sizeR (exprS k x (d+1))+sizeR (exprS k y (d+1)):=by
  rw[hex];by_cases h10:10≤d
  ·have dx:=pm k x (d:=d+1) (by omega);simp only[sizeR,h10,dx,decide_true,if_true];simp
  ·rw[if_neg (by simpa using h10),hw,GC k x y (d+1) sx sy];cases hx:(exprS k x (d+1)).2 with
   |false=>simp[sizeR,hx]
   |true =>
    cases hy:(exprS k y (d+1)).2 with
    |false=>simp[sizeR,hx,hy]
    |true =>
     have:=sx hx
     have:=sy hy
     simp only[sizeR,hx,hy,and_self,if_true];rw[if_neg (by omega)]
 simp only[vqM,vt79,zA,zB,Ex.a,hen,hwd,PG,P1];refine aa (ihx (d+1) (by omega) (by omega) _) ?_;simp only[vqM,vt79,zA,Ex.a,hen,hwd,PG,P1];refine aa (ihy (d+1) (by omega) (by omega) _) ?_;have kx:sizeR (exprS k x (d+1))≤4000∧sizeR (exprS k y (d+1))≤4000:=by
  constructor<;>(unfold sizeR;split)
  ·rename_i h;have:=sx h;omega
  ·omega
  ·rename_i h;have:=sy h;omega
  ·omega
 generalize sizeR (exprS k x (d+1))=rx at hfin kx⊢;generalize sizeR (exprS k y (d+1))=ry at hfin kx⊢;simp only[vqM,vt79,zB,Ex.a,hen];refine ak (λha=>?_) (λha=>?_)
 ·have ha':=of_decide_eq_true ha;simp only[vqM,zB,ha];refine QR ?_ (.int _ _);simp only[vqM];rw[hfin,if_pos (.inl ha')]
 have ha':=of_decide_eq_false ha;simp only[vqM,ha];refine ak (λhb=>?_) (λhb=>?_)
 ·have hb':=of_decide_eq_true hb;simp only[vqM,zB,hb];refine QR ?_ (.int _ _);simp only[vqM];rw[hfin,if_pos (.inr hb')]
 ·have hb':=of_decide_eq_false hb;have w1:QQ.wrap (1+rx)=1+rx:=aG (by omega);have w2:QQ.wrap (1+rx+ry)=1+rx+ry:=aG (by omega);simp only[vqM,zB,hb,w1,w2];refine QR ?_ (.int _ _);simp only[vqM];rw[hfin,if_neg (by omega)]
mutual
theorem vj(k:Ck):(e:Ex)→∀d:Int,1≤d→d≤11→∀s,ay Qz 282 [.agg k.d.cells,.agg e.cells,.int .i64 d] s (.int .i64 (sizeR (exprS k e d))) s
 |.mk op n v a,d,h1,h2,s=>yw k (.mk op n v a) (xc k a) d h1 h2 s
theorem xc(k:Ck):(l:List Ex)→∀x∈l,∀d:Int,1≤d→d≤11→∀s,ay Qz 282 [.agg k.d.cells,.agg x.cells,.int .i64 d] s (.int .i64 (sizeR (exprS k x d))) s
 | [],x,h=>by simp at h
 |y::l,x,h=>by
  rcases Mj.1 h with e|h
  ·rw[e];exact vj k y
  ·exact xc k l x h
end
theorem wY(k:Ck)(e:Ex)(s:St):ay Qz 250 [.agg k.d.cells,.agg e.cells] s (.bool (valueB k e)) s:=by
 have hv:inB (sizeR (exprS k e 1)) 1 60=valueB k e:=by
  cases h:(exprS k e 1).2 with
  |false=>simp[sizeR,valueB,h,inB]
  |true =>
   have:=ly k e (d:=1) (by omega) h
   simp only[sizeR,valueB,h,inB,if_true,K6];rw[decide_eq_true this.1,K6]
 obtain⟨B,L,c⟩:=s;refine ay.introN [] func250 rfl (by decide) az (by kernel_rfl) [QO 4] 9 rfl rfl ?_;simp only[vqM,bg,bK,zA,zS];refine aa (vj k e 1 (by omega) (by omega) _) ?_;simp only[vqM];refine aa (fA _ _ _ _) ?_;rw[hv];simp only[vqM];refine QR ?_ (.bool _);simp only[vqM]
theorem BN(e:Ex)(s:St):ay Qz 251 [.agg e.cells] s (.bool (decide (e.op=0)&&(decide (e.n=0)&&(decide (e.v=0)&&decide ((e.a.length:Int)=0))))) s:=by
 obtain⟨B,L,c⟩:=s;refine ay.introN [] func251 rfl (by decide) az (by kernel_rfl) [QO 2] 22 rfl rfl ?_;simp only[vqM,vt31,zA,zS];repeat' (first
  |(with_reducible refine ak (λhc=>?_) (λhc=>?_)<;>simp only[vqM,vt31,hc,zA,af])
  |((with_reducible refine cU ?_);refine QR ?_ (.bool _)<;>(try simp only[vqM])<;>(first|(simp only[*,K6,Me,Mq];done)|(simp_all[];done)|(simp_all[];omega))))
theorem BO(e:Co)(s:St):ay Qz 253 [.agg e.cells] s (.bool (decide (e.op=0)&&(decide ((e.a.length:Int)=0)&&decide ((e.c.length:Int)=0)))) s:=by
 obtain⟨B,L,c⟩:=s;refine ay.introN [] func253 rfl (by decide) az (by kernel_rfl) [QO 2] 18 rfl rfl ?_;simp only[vqM,tf3,eC,zA,zS];repeat' (first
  |(with_reducible refine ak (λhc=>?_) (λhc=>?_)<;>simp only[vqM,cW,ki,eC,hc,zA,af,aD])
  |((with_reducible refine cU ?_);refine QR ?_ (.bool _)<;>(try simp only[vqM])<;>(first|(simp only[*,K6,Me,Mq];done)|(simp_all[];done)|(simp_all[];omega))))
theorem rL(k:Ck)(d:Int):∀(l:List Ex)(x:Ex)(acc:Int),exprsS k (l++[x]) d acc=bif (exprsS k l d acc).2 then(bif (exprS k x d).2 then(w64 ((exprsS k l d acc).1+(exprS k x d).1),Qy)else(0,Qw))else(0,Qw)
 | [],x,acc=>by simp only[MA,exprsS,cond_true]
 |y::l,x,acc=>by
  simp only[Mw,exprsS];cases h:(exprS k y d).2 with
  |true=>simp only[cond_true];exact rL k d l x _
  |false=>simp only[cond_false]
theorem rY(k:Ck)(d:Int):∀(l:List Co)(x:Co)(acc:Int),condsS k (l++[x]) d acc=bif (condsS k l d acc).2 then(bif (condS k x d).2 then(w64 ((condsS k l d acc).1+(condS k x d).1),Qy)else(0,Qw))else(0,Qw)
 | [],x,acc=>by simp only[MA,condsS,cond_true]
 |y::l,x,acc=>by
  simp only[Mw,condsS];cases h:(condS k y d).2 with
  |true=>simp only[cond_true];exact rY k d l x _
  |false=>simp only[cond_false]
theorem lO(k:Ck)(d:Int)(hd:1≤d):∀(l:List Ex)(acc:Int),1≤acc→acc+2047*l.length≤1000000000000→(exprsS k l d acc).2=Qy→acc≤(exprsS k l d acc).1∧(exprsS k l d acc).1≤acc+2047*l.length
 | [],acc,_,_,_=>by simp[exprsS]
 |x::l,acc,h1,h2,h=>by
  simp only[K7]at h2⊢;simp only[exprsS]at h⊢;cases hx:(exprS k x d).2 with
  |false=>rw[hx]at h;simp at h
  |true =>
   rw[hx]at h;simp only[cond_true]at h⊢;have b:=ly k x hd hx;rw[bG (n:=acc+(exprS k x d).1) (by omega)]at h⊢;have:=lO k d hd l (acc+(exprS k x d).1) (by omega) (by omega) h
   omega
theorem rK(k:Ck)(d:Int):∀(l:List Ex)(acc:Int),(exprsS k l d acc).2=Qy↔∀x∈l,(exprS k x d).2=Qy
 | [],acc=>by simp[exprsS]
 |x::l,acc=>by
  simp only[exprsS];cases hx:(exprS k x d).2 with
  |false=>simp[hx]
  |true=>simp only[cond_true,rK k d l,Mj,forall_eq_or_imp,hx,true_and]
theorem na(k:Ck)(d:Int):∀(l:List Co)(acc:Int),(condsS k l d acc).2=Qy↔∀x∈l,(condS k x d).2=Qy
 | [],acc=>by simp[condsS]
 |x::l,acc=>by
  simp only[condsS];cases hx:(condS k x d).2 with
  |false=>simp[hx]
  |true=>simp only[cond_true,na k d l,Mj,forall_eq_or_imp,hx,true_and]
theorem pu(k:Ck)(e:Co){d:Int}(h:10<d):(condS k e d).2=Qw:=by
 obtain⟨op,a,c⟩:=e;simp only[condS];cases wantOf op with
 |none=>rfl
 |some w=>simp only[decide_eq_true h,Ms,cond_true]
def qh:Nat→Int
 |0=>5000
 |n+1=>5000+2*qh n
theorem lV:∀n,5000≤qh n
 |0=>by simp[qh]
 |n+1=>by have:=lV n;simp only[qh];omega
theorem xX:∀n,n≤10→qh n≤20000000:=by decide
theorem wT{op:Int}{w:Int×Int}(h:wantOf op=Qv w):(0≤w.1∧w.1≤2)∧(0≤w.2∧w.2≤2):=by
 unfold wantOf at h;repeat' split at h
 all_goals first
  |(cases h;simp)
  |cases h
theorem z6(k:Ck)(d:Int)(m:Int):∀(l:List Co)(acc:Int),1≤acc→acc≤100000000→(0≤m∧m≤20000000)→l.length≤2→(∀x∈l,1≤(condS k x d).1∧(condS k x d).1≤m)→(∀x∈l,(condS k x d).2=Qy)→acc≤(condsS k l d acc).1∧(condsS k l d acc).1≤acc+m*l.length
 | [],acc,_,_,_,_,_,_=>by simp[condsS]
 | [x],acc,h1,h2,hm,_,hb,ho=>by
  have b:=hb x (by simp);simp only[condsS,ho x (by simp),cond_true];rw[bG (n:=acc+(condS k x d).1) (by omega)];simp;omega
 | [x,y],acc,h1,h2,hm,_,hb,ho=>by
  have b:=hb x (by simp);have b2:=hb y (by simp);simp only[condsS,ho x (by simp),ho y (by simp),cond_true];rw[bG (n:=acc+(condS k x d).1) (by omega),bG (n:=acc+(condS k x d).1+(condS k y d).1) (by omega)];simp;omega
 |_::_::_::_,_,_,_,_,hl,_,_=>by simp at hl
mutual
theorem Bu(k:Ck):(e:Co)→∀d:Int,1≤d→d≤10→(condS k e d).2=Qy→1≤(condS k e d).1∧(condS k e d).1≤qh (10-d).toNat
 |.mk op a c,d,h1,h2,h=>by
  simp only[condS]at h⊢;cases hw:wantOf op with
  |none=>rw[hw]at h;simp at h
  |some w =>
   rw[hw]at h;simp only at h⊢;have hwl:=wT hw;cases hb:(!(decide ((a.length:Int)=w.1)&&decide ((c.length:Int)=w.2)) ||decide (10<d))with
   |true=>rw[hb]at h;simp at h
   |false =>
    rw[hb]at h;simp only[Ng,NO,Mh,decide_eq_true_eq]at hb;simp only[cond_false]at h⊢;have hwd:w64 (d+1)=d+1:=bG (by omega);rw[hwd]at h⊢;cases he:(exprsS k a (d+1) 1).2 with
    |false=>rw[he]at h;simp at h
    |true =>
     rw[he]at h;simp only[cond_true]at h⊢;have b1:=lO k (d+1) (by omega) a 1 (by omega) (by omega) he;have hc:=(na k (d+1) c _).1 h;by_cases h10:d=10
     ·have hc0:c=[]:=by
       cases c with
       |nil=>rfl
       |cons x c =>
        have:=hc x (by simp)
        rw[pu k x (by omega)]at this;simp at this
      subst hc0;have:=lV (10-d).toNat
      simp only[condsS];omega
     ·have bm:=uz k c;have b2:=z6 k (d+1) (qh (10-(d+1)).toNat) c (exprsS k a (d+1) 1).1 (by omega) (by omega) (by have:=xX (10-(d+1)).toNat (by omega);have:=lV (10-(d+1)).toNat;omega) (by omega) (λx hx=>bm x hx (d+1) (by omega) (by omega) (hc x hx)) hc;obtain⟨q,hq⟩:∃m,(10-d).toNat=m+1:=⟨(10-(d+1)).toNat,by omega⟩;have hq2:(10-(d+1)).toNat=q:=by omega
      rw[hq2]at b2;rw[hq];simp only[qh];have:=lV q
      have h3:c.length=0∨c.length=1∨c.length=2:=by omega
      rcases h3 with h3|h3|h3<;>rw[h3]at b2<;>simp at b2<;>omega
theorem uz(k:Ck):(l:List Co)→∀x∈l,∀d:Int,1≤d→d≤10→(condS k x d).2=Qy→1≤(condS k x d).1∧(condS k x d).1≤qh (10-d).toNat
 | [],x,h=>by simp at h
 |y::l,x,h=>by
  rcases Mj.1 h with e|h
  ·rw[e];exact Bu k y
  ·exact uz k l x h
end
theorem xY(k:Ck)(e:Co){d:Int}(h1:1≤d)(h:(condS k e d).2=Qy):1≤(condS k e d).1∧(condS k e d).1≤20000000:=by
 by_cases h2:d≤10
 ·have:=Bu k e d h1 h2 h
  have:=xX (10-d).toNat (by omega)
  omega
 ·rw[pu k e (by omega)]at h;simp at h
theorem yH(k:Ck)(e:Co)(ih:∀x∈e.c,∀d:Int,1≤d→d≤11→∀s,ay Qz 283 [.agg k.d.cells,.agg x.cells,.int .i64 d] s (.int .i64 (sizeR (condS k x d))) s)(d:Int)(h1:1≤d)(h2:d≤11)(s:St) :
  ay Qz 283 [.agg k.d.cells,.agg e.cells,.int .i64 d] s (.int .i64 (sizeR (condS k e d))) s:=by
 obtain⟨B,L,c⟩:=s;obtain⟨op,a,cc⟩:=e;have hal:Co.c (.mk op a cc)=cc:=rfl;rw[hal]at ih;refine ay.introN [(3,.cut)] func283 rfl (by decide) az (by kernel_rfl) [QO 6] 80 rfl rfl ?_;simp only[vqM,zA,zS,zB];by_cases hd:10<d
 ·have:=pu k (.mk op a cc) hd
  have hd':(10<d)=True:=eq_true hd;simp only[vqM,zB,hd',decide_true];refine QR ?_ (.int _ _);simp only[vqM];rw[sizeR,this];rfl
 have hd0:(10<d)=False:=eq_false hd;have hwd:QQ.wrap (d+1)=d+1:=aG (by omega);have hwd2:w64 (d+1)=d+1:=hwd;simp only[vqM,hd0,decide_false];refine nJ ?_;simp only[vqM];cases hw:wantOf op with
 |none =>
  have hno:op≠1∧op≠2∧op≠3∧op≠4∧op≠5∧op≠6∧op≠7:=by
   refine⟨?_,?_,?_,?_,?_,?_,?_⟩<;>(rintro rfl;simp[wantOf]at hw)
  obtain⟨n1,n2,n3,n4,n5,n6,n7⟩:=hno;have hr:sizeR (condS k (.mk op a cc) d) = -1:=by simp[condS,hw,sizeR]
  refine ev az ?_;simp only[vqM,jp,zA,zB,Co.op,eq_false n1,eq_false n2,eq_false n3,eq_false n4,eq_false n5,eq_false n6,eq_false n7,decide_false];refine QR ?_ (.int _ _);simp only[vqM];rw[hr]
 |some w =>
  have hwl:=wT hw;refine lZ (λe s=>keep [2,3,4,7,8] e=[J,J,.int .i64 d,.box B.length 0,.box (B.length+1) 0,J,J,.int .i64 w.1,.int .i64 w.2,J,J,J,J,J,J,J,J,J,J,J,J,J,J,J,J,J,J,J,J,J,J,J,J,J,J,J,J,J,J,J,J,J,J,J,J,J,J,J,J,J,J,J,J,J,J,J,J,J,J,J,J,J,J,J,J,J,J,J,J,J,J,J,J,J,J,J,J,J,J,J]∧s=⟨B++[.cells k.d.cells,.cells (Co.mk op a cc).cells],L,c⟩) ?_ ?_
  ·have hop:(op=1∧w=(0,0))∨(op=2∧w=(2,0))∨(op=3∧w=(2,0))∨(op=4∧w=(2,0))∨(op=5∧w=(0,1))∨(op=6∧w=(0,2))∨(op=7∧w=(0,2)):=by
    unfold wantOf at hw;repeat' split at hw
    all_goals first
     |(cases hw;simp_all)
     |cases hw
   refine ev az ?_;rcases hop with ⟨rfl,rfl⟩|⟨rfl,rfl⟩|⟨rfl,rfl⟩|⟨rfl,rfl⟩|⟨rfl,rfl⟩|⟨rfl,rfl⟩|⟨rfl,rfl⟩
   all_goals
    simp only[vqM,jp,zA,zB,Co.op,Int.reduceEq,decide_false,decide_true];exact ew ⟨by simp only[vke,zB,zA],rfl⟩
  rintro e s ⟨he,rfl⟩;refine ae [2,3,4,7,8] ?_;rw[he];clear he;refine ev az ?_;simp only[vqM,jp,zA,zB,af,Co.a];have hcs:condS k (.mk op a cc) d=bif (!(decide ((a.length:Int)=w.1)&&decide ((cc.length:Int)=w.2))) ||decide (10<d)then(0,Qw)else bif (exprsS k a (d+1) 1).2 then condsS k cc (d+1) (exprsS k a (d+1) 1).1 else(0,Qw):=by
   simp only[condS,hw,hwd2]
  have hd9:decide (10<d)=Qw:=decide_eq_false hd;refine ak (λhc=>?_) (λhc=>?_)
  ·have hc':decide ((a.length:Int)=w.1)=Qw:=by simpa using hc
   simp only[vqM,zB,hc];refine QR ?_ (.int _ _);simp only[vqM];rw[hcs,hc'];rfl
  have ha:(a.length:Int)=w.1:=by simpa using hc
  simp only[vqM,jp,zA,aD,Co.c,hc];refine ak (λhc=>?_) (λhc=>?_)
  ·have hc':decide ((cc.length:Int)=w.2)=Qw:=by simpa using hc
   simp only[vqM,zB,hc];refine QR ?_ (.int _ _);simp only[vqM];rw[hcs,hc',Mq];rfl
  have hb:(cc.length:Int)=w.2:=by simpa using hc
  rw[decide_eq_true ha,decide_eq_true hb,hd9]at hcs;simp only[Bool.and_self,Mp,Bool.or_self,cond_false]at hcs;rw[←ha,←hb];rw[←ha,←hb]at hwl;simp only[vqM,zB];refine ae [2,3,4,7,8,9,10] ?_;simp only[vke,zB,zA];refine aC az a.length (λi e s=>∃acc:Int,exprsS k (a.take i) (d+1) 1=(acc,Qy)∧e=[J,J,.int .i64 d,.box B.length 0,.box (B.length+1) 0,J,J,.int .i64 (a.length:Int),.int .i64 (cc.length:Int),.int .i64 acc,.int .i64 (i:Int),J,J,J,J,J,J,J,J,J,J,J,J,J,J,J,J,J,J,J,J,J,J,J,J,J,J,J,J,J,J,J,J,J,J,J,J,J,J,J,J,J,J,J,J,J,J,J,J,J,J,J,J,J,J,J,J,J,J,J,J,J,J,J,J,J,J,J,J,J]∧s=⟨B++[.cells k.d.cells,.cells (Co.mk op a cc).cells],L,c⟩) ?_ ?_ 0 _ _ (K9 _) ⟨1,rfl,rfl,rfl⟩
  ·rintro i e s hi ⟨acc,hacc,rfl,rfl⟩ ihl;have hx:a[i]?=Qv a[i]:=C0 hi;have hg:(Ex.encs a)[i]?=Qv (a[i].cells):=by simp[Ex.encs_map,hx]
   have hilt:((i:Int)<(a.length:Int))=True:=by simp;exact hi
   have hnx:exprsS k (a.take (i+1)) (d+1) 1=bif (exprS k a[i] (d+1)).2 then(w64 (acc+(exprS k a[i] (d+1)).1),Qy)else(0,Qw):=by
    rw[Mt,hx,MO,rL,hacc];rfl
   have hbd:1≤acc∧acc≤5000:=by
    have:=lO k (d+1) (by omega) (a.take i) 1 (by omega) (by rw[MN];omega) (by rw[hacc])
    rw[hacc]at this;have hl:(a.take i).length≤2:=by rw[MN];omega
    simp only at this;omega
   have hmem:a[i]∈a:=Mf hi;generalize a[i]=x at hx hg hnx hmem;simp only[vqM,jp,zA,zB,Co.a,hilt,decide_true,natle0,K3,hg,hwd];refine aa (vj k x (d+1) (by omega) (by omega) _) ?_;cases hxo:(exprS k x (d+1)).2 with
   |false =>
    have hs:sizeR (exprS k x (d+1)) = -1:=by rw[sizeR,hxo];rfl
    rw[hs];simp only[vqM,zB,PH,Int.reduceNeg,decide_true];refine QR ?_ (.int _ _);have:(exprsS k a (d+1) 1).2=Qw:=by
     cases h:(exprsS k a (d+1) 1).2 with
     |false=>rfl
     |true=>have:=(rK k (d+1) a 1).1 h x hmem;rw[hxo]at this;simp at this
    simp only[vqM];rw[hcs,this];rfl
   |true =>
    have hs:sizeR (exprS k x (d+1))=(exprS k x (d+1)).1:=by rw[sizeR,hxo];rfl
    have hb:=ly k x (d:=d+1) (by omega) hxo;rw[hs];rw[hxo]at hnx;generalize(exprS k x (d+1)).1=sz at hb hnx⊢;have hneg:(sz<0)=False:=eq_false (by omega);have hww:QQ.wrap (acc+sz)=w64 (acc+sz):=rfl;simp only[vqM,zB,hneg,decide_false,hww];rw[ap (by omega)];refine ae [2,3,4,7,8,9,10] ?_;simp only[vke,zB,zA];exact ihl _ _ ⟨_,hnx,rfl,rfl⟩
  ·rintro e s ⟨acc,hacc,rfl,rfl⟩;have hilt:((a.length:Int)<(a.length:Int))=False:=by simp
   rw[Mv]at hacc;rw[hacc]at hcs;simp only[cond_true]at hcs;have hbd:1≤acc∧acc≤5000:=by
    have:=lO k (d+1) (by omega) a 1 (by omega) (by omega) (by rw[hacc])
    rw[hacc]at this;simp only at this;omega
   simp only[vqM,zB,hilt,decide_false];refine ae [2,3,4,8,9,12] ?_;simp only[vke,zB,zA];refine aC az cc.length (λi e s=>∃ac:Int,condsS k (cc.take i) (d+1) acc=(ac,Qy)∧e=[J,J,.int .i64 d,.box B.length 0,.box (B.length+1) 0,J,J,J,.int .i64 (cc.length:Int),.int .i64 ac,J,J,.int .i64 (i:Int),J,J,J,J,J,J,J,J,J,J,J,J,J,J,J,J,J,J,J,J,J,J,J,J,J,J,J,J,J,J,J,J,J,J,J,J,J,J,J,J,J,J,J,J,J,J,J,J,J,J,J,J,J,J,J,J,J,J,J,J,J,J,J,J,J,J,J]∧s=⟨B++[.cells k.d.cells,.cells (Co.mk op a cc).cells],L,c⟩) ?_ ?_ 0 _ _ (K9 _) ⟨acc,rfl,rfl,rfl⟩
   ·rintro i e s hi ⟨ac,hac,rfl,rfl⟩ ihl;have hx:cc[i]?=Qv cc[i]:=C0 hi;have hg:(Co.encs cc)[i]?=Qv (cc[i].cells):=by simp[Co.encs_map,hx]
    have hilt:((i:Int)<(cc.length:Int))=True:=by simp;exact hi
    have hnx:condsS k (cc.take (i+1)) (d+1) acc=bif (condS k cc[i] (d+1)).2 then(w64 (ac+(condS k cc[i] (d+1)).1),Qy)else(0,Qw):=by
     rw[Mt,hx,MO,rY,hac];rfl
    have hmem:cc[i]∈cc:=Mf hi;have ihx:=ih _ hmem;generalize cc[i]=x at hx hg hnx hmem ihx;simp only[vqM,jp,zA,zB,Co.c,hilt,decide_true,natle0,K3,hg,hwd];refine aa (ihx (d+1) (by omega) (by omega) _) ?_;cases hxo:(condS k x (d+1)).2 with
    |false =>
     have hs:sizeR (condS k x (d+1)) = -1:=by rw[sizeR,hxo];rfl
     rw[hs];simp only[vqM,zB,PH,Int.reduceNeg,decide_true];refine QR ?_ (.int _ _);have:(condsS k cc (d+1) acc).2=Qw:=by
      cases h:(condsS k cc (d+1) acc).2 with
      |false=>rfl
      |true=>have:=(na k (d+1) cc acc).1 h x hmem;rw[hxo]at this;simp at this
     simp only[vqM];rw[hcs,sizeR,this];rfl
    |true =>
     have hs:sizeR (condS k x (d+1))=(condS k x (d+1)).1:=by rw[sizeR,hxo];rfl
     have hb:=xY k x (d:=d+1) (by omega) hxo;rw[hs];rw[hxo]at hnx;generalize(condS k x (d+1)).1=sz at hb hnx⊢;have hneg:(sz<0)=False:=eq_false (by omega);have hww:QQ.wrap (ac+sz)=w64 (ac+sz):=rfl;simp only[vqM,zB,hneg,decide_false,hww];rw[ap (by omega)];refine ae [2,3,4,8,9,12] ?_;simp only[vke,zB,zA];exact ihl _ _ ⟨_,hnx,rfl,rfl⟩
   ·rintro e s ⟨ac,hac,rfl,rfl⟩;have hilt:((cc.length:Int)<(cc.length:Int))=False:=by simp
    rw[Mv]at hac;simp only[vqM,zB,hilt,decide_false];refine QR ?_ (.int _ _);simp only[vqM];rw[hcs,hac];rfl
mutual
theorem AS(k:Ck):(e:Co)→∀d:Int,1≤d→d≤11→∀s,ay Qz 283 [.agg k.d.cells,.agg e.cells,.int .i64 d] s (.int .i64 (sizeR (condS k e d))) s
 |.mk op a c,d,h1,h2,s=>yH k (.mk op a c) (xe k c) d h1 h2 s
theorem xe(k:Ck):(l:List Co)→∀x∈l,∀d:Int,1≤d→d≤11→∀s,ay Qz 283 [.agg k.d.cells,.agg x.cells,.int .i64 d] s (.int .i64 (sizeR (condS k x d))) s
 | [],x,h=>by simp at h
 |y::l,x,h=>by
  rcases Mj.1 h with e|h
  ·rw[e];exact AS k y
  ·exact xe k l x h
end
theorem Hp(k:Ck)(e:Co)(s:St):ay Qz 252 [.agg k.d.cells,.agg e.cells] s (.bool (testB k e)) s:=by
 have hv:inB (sizeR (condS k e 1)) 1 60=testB k e:=by
  cases h:(condS k e 1).2 with
  |false=>simp[sizeR,testB,h,inB]
  |true =>
   have:=xY k e (d:=1) (by omega) h
   simp only[sizeR,testB,h,inB,if_true,K6];rw[decide_eq_true this.1,K6]
 obtain⟨B,L,c⟩:=s;refine ay.introN [] func252 rfl (by decide) az (by kernel_rfl) [QO 4] 9 rfl rfl ?_;simp only[vqM,bg,eC,zA,zS];refine aa (AS k e 1 (by omega) (by omega) _) ?_;simp only[vqM];refine aa (fA _ _ _ _) ?_;rw[hv];simp only[vqM];refine QR ?_ (.bool _);simp only[vqM]
structure Us where
 n:Int
 m:Int
 v:Bool
 x:Bool
 y:Bool
 c:Bool
 call:Bool
 body:Bool
 els:Bool
def Us.cells(x:Us):List D:=[.int .i64 x.n,.int .i64 x.m,.bool x.v,.bool x.x,.bool x.y,.bool x.c,.bool x.call,.bool x.body,.bool x.els]
theorem Us.cells_len(x:Us):x.cells.length=9:=rfl
theorem Us.plain(x:Us):x.cells.map D.plain1=x.cells:=rfl
theorem Us.keep1(x:Us):x.cells.map D.keep1=x.cells:=rfl
theorem Us.take0(x:Us):x.cells.take 9=x.cells:=Mo (by rw[Us.cells_len];decide)
theorem Us.drop0(x:Us)(l:List D):(x.cells++l).drop 9=l:=by have:=List.drop_left (l₁:=x.cells) (l₂:=l);rwa[Us.cells_len]at this
theorem Us.takeB(x:Us)(l:List D):(x.cells++l).take 9=x.cells:=by have:=List.take_left (l₁:=x.cells) (l₂:=l);rwa[Us.cells_len]at this
theorem Us.lenA(x:Us)(l:List D):(x.cells++l).length=9+l.length:=by rw[K4,Us.cells_len]
theorem Us.f_n(x:Us):x.cells[0]?=Qv (.int .i64 x.n):=rfl
theorem Us.f_m(x:Us):(x.cells.drop 1)[0]?=Qv (.int .i64 x.m):=rfl
theorem Us.f_v(x:Us):(x.cells.drop 2)[0]?=Qv (.bool x.v):=rfl
theorem Us.f_x(x:Us):(x.cells.drop 3)[0]?=Qv (.bool x.x):=rfl
theorem Us.f_y(x:Us):(x.cells.drop 4)[0]?=Qv (.bool x.y):=rfl
theorem Us.f_c(x:Us):(x.cells.drop 5)[0]?=Qv (.bool x.c):=rfl
theorem Us.f_call(x:Us):(x.cells.drop 6)[0]?=Qv (.bool x.call):=rfl
theorem Us.f_body(x:Us):(x.cells.drop 7)[0]?=Qv (.bool x.body):=rfl
theorem Us.f_els(x:Us):(x.cells.drop 8)[0]?=Qv (.bool x.els):=rfl
def vsUs:=QJ @Us.cells_len<|QJ @Us.plain<|QJ @Us.keep1<|QJ @Us.take0<|QJ @Us.drop0<|QJ @Us.takeB<|QJ @Us.lenA<|QJ @Us.f_n<|QJ @Us.f_m<|QJ @Us.f_v<|QJ @Us.f_x<|QJ @Us.f_y<|QJ @Us.f_c<|QJ @Us.f_call<|QJ @Us.f_body @Us.f_els
def Us.encs(l:List Us):List (List D):=l.map Us.cells
def GF(op:Int):Us×Bool:=
 if op=11 then(⟨0,0,Qw,Qw,Qw,Qy,Qw,Qy,Qy⟩,Qy)
 else if op=12 then(⟨0,0,Qy,Qw,Qw,Qy,Qw,Qy,Qw⟩,Qy)
 else if op=13 then(⟨11,10,Qw,Qw,Qw,Qw,Qy,Qw,Qw⟩,Qy)
 else if op=14 then(⟨0,0,Qy,Qw,Qw,Qw,Qw,Qw,Qw⟩,Qy)
 else if op=15 then(⟨1,0,Qw,Qw,Qw,Qw,Qw,Qy,Qy⟩,Qy)
 else if op=16 then(⟨0,8,Qw,Qw,Qw,Qw,Qw,Qw,Qw⟩,Qy)
 else if op=17 then(⟨0,8,Qw,Qw,Qw,Qw,Qw,Qw,Qw⟩,Qy)
 else if op=22 then(⟨0,9,Qw,Qw,Qw,Qw,Qw,Qw,Qw⟩,Qy)
 else if op=23 then(⟨0,0,Qw,Qw,Qw,Qy,Qw,Qw,Qw⟩,Qy)
 else if op=24 then(⟨0,0,Qw,Qy,Qw,Qw,Qw,Qw,Qw⟩,Qy)
 else(⟨0,0,Qw,Qw,Qw,Qw,Qw,Qw,Qw⟩,Qw)
def useF(op:Int):Us×Bool:=
 if op=1 then(⟨1,0,Qw,Qy,Qw,Qw,Qw,Qw,Qw⟩,Qy)
 else if op=2 then(⟨1,3,Qw,Qy,Qw,Qw,Qw,Qw,Qw⟩,Qy)
 else if op=3 then(⟨0,3,Qw,Qy,Qy,Qw,Qw,Qw,Qw⟩,Qy)
 else if op=4 then(⟨1,4,Qw,Qw,Qw,Qw,Qw,Qw,Qw⟩,Qy)
 else if op=20 then(⟨1,5,Qw,Qw,Qw,Qw,Qw,Qw,Qw⟩,Qy)
 else if op=19 then(⟨1,6,Qw,Qw,Qw,Qw,Qw,Qw,Qw⟩,Qy)
 else if op=5 then(⟨0,4,Qw,Qy,Qw,Qw,Qw,Qw,Qw⟩,Qy)
 else if op=18 then(⟨0,6,Qw,Qy,Qw,Qw,Qw,Qw,Qw⟩,Qy)
 else if op=21 then(⟨0,7,Qw,Qy,Qw,Qw,Qw,Qw,Qw⟩,Qy)
 else if op=6 then(⟨2,0,Qw,Qw,Qw,Qw,Qw,Qw,Qw⟩,Qy)
 else if op=7 then(⟨2,0,Qw,Qw,Qw,Qw,Qw,Qw,Qw⟩,Qy)
 else if op=8 then(⟨2,2,Qw,Qw,Qw,Qw,Qw,Qw,Qw⟩,Qy)
 else if op=9 then(⟨2,0,Qw,Qy,Qw,Qw,Qw,Qw,Qw⟩,Qy)
 else if op=10 then(⟨1,2,Qw,Qw,Qw,Qw,Qw,Qw,Qw⟩,Qy)
 else GF op
def useD(r:Us×Bool):D:=.tup [.agg r.1.cells,.bool r.2]
theorem Us.bd(x:Us):∀d∈x.cells,Bd 0 0 d:=by
 intro d hd;simp only[Us.cells,Mj,List.not_mem_nil,or_false]at hd;rcases hd with rfl|rfl|rfl|rfl|rfl|rfl|rfl|rfl|rfl<;>first|exact .int _ _|exact .bool _
theorem GH(r:Us×Bool):Bd 0 0 (useD r):=.tup _ λi hi=>by
 match i,hi with
 |0,_=>exact aK (Us.bd _)
 |1,_=>exact .bool _
theorem yG(op:Int)(s:St):ay Qz 281 [.int .i64 op] s (useD (GF op)) s:=by
 obtain⟨B,L,c⟩:=s;refine ay.introN [] func281 rfl (by decide) az (by kernel_rfl) [QP 2 312,QO 3] 34 rfl rfl ?_;simp only[vqM,Dx,zA,zS];repeat' (first
  |(with_reducible refine ak (λhc=>?_) (λhc=>?_)<;>simp only[vqM,Dx,hc,zA,zL])
  |((with_reducible refine cU ?_);refine QR ?_ (GH _)<;>(try simp only[vqM,Dx,zA])<;>(first|(simp only[useD,GF,Us.cells, *];done)|(simp_all[useD,GF,Us.cells];done)|(simp_all[useD,GF,Us.cells];omega))))
theorem Ku(op:Int)(s:St):ay Qz 248 [.int .i64 op] s (useD (useF op)) s:=by
 obtain⟨B,L,c⟩:=s;refine ay.introN [] func248 rfl (by decide) az (by kernel_rfl) [QP 2 312,QO 3] 49 rfl rfl ?_;simp only[vqM,Dx,zA,zS,useD];repeat' (first
  |((with_reducible refine aI ?_);refine aa (yG _ _) ?_;simp only[vqM,Dx,zA,vsUs,useD])
  |(with_reducible refine ak (λhc=>?_) (λhc=>?_)<;>simp only[vqM,Dx,hc,zA,zL])
  |((with_reducible refine cU ?_);refine QR ?_ (GH _)<;>(try simp only[vqM,Dx,zA,vsUs])<;>(first|(simp only[useF,Us.cells, *];done)|(simp_all[useF,Us.cells];done)|(simp_all[useD,useF,Us.cells];omega))))
def xH(k:Ck)(w n:Int):Bool:=
 if w=1 then inB n k.d.params.length (w64 (k.d.vars-1))
 else if w=2 then inB n 0 (w64 (k.d.refs-1))
 else if w=3 then inB n 0 (w64 (k.d.arrays.length-1))
 else if w=4 then inB n 0 (w64 (k.x.globals.length-1))
 else if w=5 then inB n 0 (w64 (k.x.classes.length-1))
 else if w=6 then inB n 0 (w64 (k.x.queues.length-1))
 else if w=7 then inB n 0 (w64 (k.x.sinks.length-1))
 else if w=8 then inB n 0 (w64 (k.x.locks-1))
 else if w=9 then inB n 0 (w64 (k.x.parts-1))
 else if w=10 then inB n 1 1073741824
 else if w=11 then decide (n = -1) ||inB n k.d.params.length (w64 (k.d.vars-1))
 else decide (n=0)
theorem BM(k:Ck)(w n:Int)(s:St):ay Qz 249 [.agg k.d.cells,.agg k.x.cells,.int .i64 w,.int .i64 n] s (.bool (xH k w n)) s:=by
 obtain⟨B,L,c⟩:=s;refine ay.introN [] func249 rfl (by decide) az (by kernel_rfl) [QO 8] 101 rfl rfl ?_;simp only[vqM,zA,zS];repeat' (first
  |((with_reducible refine aI ?_);refine aa (fA _ _ _ _) ?_;simp only[vqM])
  |(with_reducible refine ak (λhc=>?_) (λhc=>?_)<;>simp only[vqM,vt85,hc,zA,ao,ai,aJ,ab,aR])
  |((with_reducible refine cU ?_);refine QR ?_ (.bool _)<;>(try simp only[vqM])<;>(first|(simp only[xH, *,Mr,Mi];done)|(simp_all[xH];done)|(simp_all[xH];omega))))
def ms(k:Ck)(s:Sm):Bool:=s.args.all (valueB k)&&(s.ptrs.all (λn=>inB n 0 (w64 (k.d.refs-1)))&&(decide ((s.args.length:Int)≤12)&&decide ((s.ptrs.length:Int)≤4)))
theorem Ey(q:Ck)(x:Sm)(s:St):ay Qz 254 [.agg q.d.cells,.agg x.cells] s (.bool (ms q x)) s:=by
 refine ay.small λhsm=>?_;have hlen:(Ex.encs x.args).length≤281474976710656:=(hsm _ (.tail _ (.head _))).sl (o:=.none) (by cases x;simp[Sm.cells,Sm.args]);have hlen2:(ah x.ptrs).length≤281474976710656:=(hsm _ (.tail _ (.head _))).sl (o:=.none) (by cases x;simp[Sm.cells,Sm.ptrs]);rw[af]at hlen;rw[ab]at hlen2;clear hsm;obtain⟨B,L,c⟩:=s;refine ay.introN [] func254 rfl (by decide) az (by kernel_rfl) [QO 4] 49 rfl rfl ?_;simp only[vqM,zA,zS];refine ae [2,3,5] ?_;simp only[vke,zB,zA];refine aC az x.args.length (λk e s=>(∀z∈x.args.take k,valueB q z=Qy)∧e=[J,J,.box B.length 0,.box (B.length+1) 0,J,.int .i64 (k:Int),J,J,J,J,J,J,J,J,J,J,J,J,J,J,J,J,J,J,J,J,J,J,J,J,J,J,J,J,J,J,J,J,J,J,J,J,J,J,J,J,J,J,J]∧s=⟨B++[.cells q.d.cells,.cells x.cells],L,c⟩) ?_ ?_ 0 _ _ (K9 _) ⟨λz h=>by simp at h,rfl,rfl⟩
 ·rintro k e s hk ⟨hI,rfl,rfl⟩ ihl;have hx:x.args[k]?=Qv x.args[k]:=C0 hk;have hg:(Ex.encs x.args)[k]?=Qv (x.args[k].cells):=by simp[Ex.encs_map,hx]
  have hklt:((k:Int)<(x.args.length:Int))=True:=by simp;exact hk
  have hxm:x.args[k]∈x.args:=Mf hk;generalize x.args[k]=xx at hx hg hxm;simp only[vqM,vt86,zA,af,hklt,decide_true,natle0,K3,hg];refine aa (wY q _ _) ?_;simp only[vqM];refine ak (λhc=>?_) (λhc=>?_)
  ·have hb:valueB q xx=Qw:=by simpa using hc
   simp only[vqM];refine QR ?_ (.bool _);simp only[vqM];have:x.args.all (valueB q)=Qw:=No.2 ⟨xx,hxm,by simp[hb]⟩
   rw[ms,this,Me]
  ·have hb:valueB q xx=Qy:=by simpa using hc
   simp only[vqM];rw[ap (by omega)];refine ae [2,3,5] ?_;simp only[vke,zB,zA];refine ihl _ _ ⟨λz hz=>?_,rfl,rfl⟩;rw[Mt,hx]at hz;rcases Mz.1 hz with hz|hz
   ·exact hI z hz
   ·simp at hz;subst hz;exact hb
 ·rintro e s ⟨hI,rfl,rfl⟩;have hklt:((x.args.length:Int)<(x.args.length:Int))=False:=by simp
  rw[Mv]at hI;simp only[vqM,vt86,zA,af,hklt,decide_false];have hq:x.args.all (valueB q)=Qy:=Mn.2 hI;clear hI hklt;refine ae [2,3,6] ?_;simp only[vke,zB,zA];refine aC az x.ptrs.length (λk e s=>(∀z∈x.ptrs.take k,inB z 0 (w64 (q.d.refs-1))=Qy)∧e=[J,J,.box B.length 0,.box (B.length+1) 0,J,J,.int .i64 (k:Int),J,J,J,J,J,J,J,J,J,J,J,J,J,J,J,J,J,J,J,J,J,J,J,J,J,J,J,J,J,J,J,J,J,J,J,J,J,J,J,J,J,J]∧s=⟨B++[.cells q.d.cells,.cells x.cells],L,c⟩) ?_ ?_ 0 _ _ (K9 _) ⟨λz h=>by simp at h,rfl,rfl⟩
  ·rintro k e s hk ⟨hI,rfl,rfl⟩ ihl;have hx:x.ptrs[k]?=Qv x.ptrs[k]:=C0 hk;have hg:(ah x.ptrs)[k]?=Qv ([.int .i64 x.ptrs[k]]):=by simp[ah,hx]
   have hklt:((k:Int)<(x.ptrs.length:Int))=True:=by simp;exact hk
   have hxm:x.ptrs[k]∈x.ptrs:=Mf hk;generalize x.ptrs[k]=xx at hx hg hxm;simp only[vqM,vt86,zA,ab,hklt,decide_true,natle0,K3,hg,aR];refine aa (fA _ _ _ _) ?_;simp only[vqM];refine ak (λhc=>?_) (λhc=>?_)
   ·have hb:inB xx 0 (w64 (q.d.refs-1))=Qw:=by simpa using hc
    simp only[vqM];refine QR ?_ (.bool _);simp only[vqM];have:(x.ptrs.all λn=>inB n 0 (w64 (q.d.refs-1)))=Qw:=No.2 ⟨xx,hxm,by simp[hb]⟩
    rw[ms,this,Me,Mq]
   ·have hb:inB xx 0 (w64 (q.d.refs-1))=Qy:=by simpa using hc
    simp only[vqM];rw[ap (by omega)];refine ae [2,3,6] ?_;simp only[vke,zB,zA];refine ihl _ _ ⟨λz hz=>?_,rfl,rfl⟩;rw[Mt,hx]at hz;rcases Mz.1 hz with hz|hz
    ·exact hI z hz
    ·simp at hz;subst hz;exact hb
  ·rintro e s ⟨hI,rfl,rfl⟩;have hklt:((x.ptrs.length:Int)<(x.ptrs.length:Int))=False:=by simp
   rw[Mv]at hI;simp only[vqM,vt86,zA,ab,hklt,decide_false,af];have hq2:(x.ptrs.all λn=>inB n 0 (w64 (q.d.refs-1)))=Qy:=Mn.2 hI;clear hI hklt;repeat' (first
    |(with_reducible refine ak (λhc=>?_) (λhc=>?_)<;>simp only[vqM,vt86,hc,zA,ab])
    |((with_reducible refine cU ?_);refine QR ?_ (.bool _)<;>(try simp only[vqM])<;>(first|(simp only[ms, *,K6,Me,Mq];done)|(simp_all[ms,hq,hq2];done)|(simp_all[ms,hq,hq2];omega))))
def Gv(e:Ex):Bool:=decide (e.op=0)&&(decide (e.n=0)&&(decide (e.v=0)&&decide ((e.a.length:Int)=0)))
def Gw(e:Co):Bool:=decide (e.op=0)&&(decide ((e.a.length:Int)=0)&&decide ((e.c.length:Int)=0))
def qf(k:Ck)(u:Us×Bool)(s:Sm):Bool:=!u.2 ||(!inB s.site 1 1073741824 ||(!xH k u.1.n s.n || !xH k u.1.m s.m))
def vR1(s:Sm):Bool:=if s.op=12 then inB s.v 1 16 else decide (s.v=0)
def vR(s:Sm):Bool:=if s.op=14 then inB s.v 1 31 else vR1 s
def qT(k:Ck)(u:Us)(s:Sm):Bool:=!vR s ||((u.x && !valueB k s.x) ||((!u.x && !Gv s.x) ||((u.y && !valueB k s.y) ||((!u.y && !Gv s.y) ||((u.c && !testB k s.c) ||(!u.c && !Gw s.c))))))
def qS(k:Ck)(u:Us)(s:Sm):Bool:=(u.call && !ms k s) ||(!u.call&&decide (0<w64 ((s.args.length:Int)+s.ptrs.length)))
def D6(u:Us)(s:Sm):Bool:=(u.body ||decide ((s.body.length:Int)=0))&&(u.els ||decide ((s.els.length:Int)=0))
def tx(k:Ck)(s:Sm):Bool:=!qf k (useF s.op) s&&(!qT k (useF s.op).1 s&&(!qS k (useF s.op).1 s&&D6 (useF s.op).1 s))
theorem HW(q:Ck)(x:Sm)(s:St):ay Qz 206 [.agg q.d.cells,.agg q.x.cells,.agg x.cells] s (.bool (tx q x)) s:=by
 obtain⟨B,L,c⟩:=s;have hst:tx q x=(!qf q (useF x.op) x&&(!qT q (useF x.op).1 x&&(!qS q (useF x.op).1 x&&D6 (useF x.op).1 x))):=rfl;refine ay.introN [(2,.cut),(4,.cut),(9,.cut),(11,.cut)] func206 rfl (by decide) az (by kernel_rfl) [QO 6] 168 rfl rfl ?_;simp only[vqM,vt87,zA,zS,zB];refine aa (Ku _ _) ?_;generalize useF x.op=u at hst⊢;obtain⟨u,is⟩:=u;simp only[vqM,vt87,zA,zB,useD,vsUs];refine bn az [3,4,5,7,43] [J,J,J,.box B.length 0,.box (B.length+1) 0,.box (B.length+2) 0,J,.box (B.length+3) 0,J,J,J,J,J,J,J,J,J,J,J,J,J,J,J,J,J,J,J,J,J,J,J,J,J,J,J,J,J,J,J,J,J,J,J,.bool (qf q (u,is) x),J,J,J,J,J,J,J,J,J,J,J,J,J,J,J,J,J,J,J,J,J,J,J,J,J,J,J,J,J,J,J,J,J,J,J,J,J,J,J,J,J,J,J,J,J,J,J,J,J,J,J,J,J,J,J,J,J,J,J,J,J,J,J,J,J,J,J,J,J,J,J,J,J,J,J,J,J,J,J,J,J,J,J,J,J,J,J,J,J,J,J,J,J,J,J,J,J,J,J,J,J,J,J,J,J,J,J,J,J,J,J,J,J,J,J,J,J,J,J,J,J,J,J,J] (λs=>s=⟨B++[.cells q.d.cells,.cells q.x.cells,.cells x.cells,.cells u.cells],L,c⟩) ?_ ?_
 ·simp only[vqM];repeat' (first
   |((with_reducible refine aI ?_);refine aa (fA _ _ _ _) ?_;simp only[vqM])
   |((with_reducible refine aI ?_);refine aa (BM _ _ _ _) ?_;simp only[vqM])
   |(with_reducible refine ak (λhc=>?_) (λhc=>?_)<;>simp only[vqM,vt87,hc,zA,vsUs])
   |((with_reducible refine cU ?_);refine aE ⟨?_,rfl⟩<;>simp only[vke,zB,zA]<;>(first|(simp only[qf, *,Mr,Mi,Ms];done)|(simp_all[qf];done)|(simp_all[qf];omega))))
 rintro s rfl;simp only[vqM];refine ak (λhc=>?_) (λhc=>?_)
 ·simp only[vqM,zB];refine QR ?_ (.bool _);simp only[vqM];rw[hst,hc];rfl
 rw[hc,Ml,K6]at hst;simp only[vqM,zB];refine nJ ?_;simp only[vqM,vt87,zA];refine lZ (λe s=>keep [3,4,5,7,9] e=[J,J,J,.box B.length 0,.box (B.length+1) 0,.box (B.length+2) 0,J,.box (B.length+3) 0,J,.bool (vR1 x),J,J,J,J,J,J,J,J,J,J,J,J,J,J,J,J,J,J,J,J,J,J,J,J,J,J,J,J,J,J,J,J,J,J,J,J,J,J,J,J,J,J,J,J,J,J,J,J,J,J,J,J,J,J,J,J,J,J,J,J,J,J,J,J,J,J,J,J,J,J,J,J,J,J,J,J,J,J,J,J,J,J,J,J,J,J,J,J,J,J,J,J,J,J,J,J,J,J,J,J,J,J,J,J,J,J,J,J,J,J,J,J,J,J,J,J,J,J,J,J,J,J,J,J,J,J,J,J,J,J,J,J,J,J,J,J,J,J,J,J,J,J,J,J,J,J,J,J,J,J,J,J,J,J,J,J,J,J]∧s=⟨B++[.cells q.d.cells,.cells q.x.cells,.cells x.cells,.cells u.cells],L,c⟩) ?_ ?_
 ·refine ev az ?_;simp only[vqM,vt87,zA,zB];refine ak (λh=>?_) (λh=>?_)
  ·simp only[vqM,vt87,zA];refine aa (fA _ _ _ _) ?_;rw[show inB x.v 1 16=vR1 x by rw[vR1,if_pos (of_decide_eq_true h)]];simp only[vqM];exact ew ⟨by simp only[vke,zB,zA],rfl⟩
  ·rw[show decide (x.v=0)=vR1 x by rw[vR1,if_neg (of_decide_eq_false h)]];simp only[vqM];exact ew ⟨by simp only[vke,zB,zA],rfl⟩
 rintro e s ⟨he,rfl⟩;refine ae [3,4,5,7,9] ?_;rw[he];clear he;refine lZ (λe s=>keep [3,4,5,7,9] e=[J,J,J,.box B.length 0,.box (B.length+1) 0,.box (B.length+2) 0,J,.box (B.length+3) 0,J,.bool (vR x),J,J,J,J,J,J,J,J,J,J,J,J,J,J,J,J,J,J,J,J,J,J,J,J,J,J,J,J,J,J,J,J,J,J,J,J,J,J,J,J,J,J,J,J,J,J,J,J,J,J,J,J,J,J,J,J,J,J,J,J,J,J,J,J,J,J,J,J,J,J,J,J,J,J,J,J,J,J,J,J,J,J,J,J,J,J,J,J,J,J,J,J,J,J,J,J,J,J,J,J,J,J,J,J,J,J,J,J,J,J,J,J,J,J,J,J,J,J,J,J,J,J,J,J,J,J,J,J,J,J,J,J,J,J,J,J,J,J,J,J,J,J,J,J,J,J,J,J,J,J,J,J,J,J,J,J,J,J]∧s=⟨B++[.cells q.d.cells,.cells q.x.cells,.cells x.cells,.cells u.cells],L,c⟩) ?_ ?_
 ·refine ev az ?_;simp only[vqM,vt87,zA,zB];refine ak (λh=>?_) (λh=>?_)
  ·simp only[vqM,vt87,zA];refine aa (fA _ _ _ _) ?_;rw[show inB x.v 1 31=vR x by rw[vR,if_pos (of_decide_eq_true h)]];simp only[vqM];exact ew ⟨by simp only[vke,zB,zA],rfl⟩
  ·rw[show vR1 x=vR x by rw[vR,if_neg (of_decide_eq_false h)]];simp only[vqM];exact ew ⟨by simp only[vke,zB,zA],rfl⟩
 rintro e s ⟨he,rfl⟩;refine ae [3,4,5,7,9] ?_;rw[he];clear he;refine ev az ?_;simp only[vqM,zB];refine bn az [3,4,5,7,126] [J,J,J,.box B.length 0,.box (B.length+1) 0,.box (B.length+2) 0,J,.box (B.length+3) 0,J,J,J,J,J,J,J,J,J,J,J,J,J,J,J,J,J,J,J,J,J,J,J,J,J,J,J,J,J,J,J,J,J,J,J,J,J,J,J,J,J,J,J,J,J,J,J,J,J,J,J,J,J,J,J,J,J,J,J,J,J,J,J,J,J,J,J,J,J,J,J,J,J,J,J,J,J,J,J,J,J,J,J,J,J,J,J,J,J,J,J,J,J,J,J,J,J,J,J,J,J,J,J,J,J,J,J,J,J,J,J,J,J,J,J,J,J,J,.bool (qT q u x),J,J,J,J,J,J,J,J,J,J,J,J,J,J,J,J,J,J,J,J,J,J,J,J,J,J,J,J,J,J,J,J,J,J,J,J,J,J,J,J,J] (λs=>s=⟨B++[.cells q.d.cells,.cells q.x.cells,.cells x.cells,.cells u.cells],L,c⟩) ?_ ?_
 ·generalize hv:vR x=v;simp only[vqM];repeat' (first
   |((with_reducible refine aI ?_);refine aa (wY _ _ _) ?_;simp only[vqM])
   |((with_reducible refine aI ?_);refine aa (BN _ _) ?_;simp only[vqM])
   |((with_reducible refine aI ?_);refine aa (Hp _ _ _) ?_;simp only[vqM])
   |((with_reducible refine aI ?_);refine aa (BO _ _) ?_;simp only[vqM])
   |(with_reducible refine ak (λhc=>?_) (λhc=>?_)<;>simp only[vqM,vt87,hc,zA,zS,zL,vsUs])
   |((with_reducible refine cU ?_);refine aE ⟨?_,rfl⟩<;>simp only[vke,zB,zA]<;>(first|(simp only[qT,Gv,Gw, *,K6,Me,Mu,Mq,Mr,Mi,Ms,Mm,Mp,Ml];done)|(simp_all[qT,Gv,Gw];done)|(simp_all[qT,Gv,Gw,hv];omega))))
 rintro s rfl;simp only[vqM];refine ak (λhc=>?_) (λhc=>?_)
 ·simp only[vqM,zB];refine QR ?_ (.bool _);simp only[vqM];rw[hst,hc];rfl
 rw[hc,Ml,K6]at hst;simp only[vqM,zB];refine bn az [3,4,5,7,149] [J,J,J,.box B.length 0,.box (B.length+1) 0,.box (B.length+2) 0,J,.box (B.length+3) 0,J,J,J,J,J,J,J,J,J,J,J,J,J,J,J,J,J,J,J,J,J,J,J,J,J,J,J,J,J,J,J,J,J,J,J,J,J,J,J,J,J,J,J,J,J,J,J,J,J,J,J,J,J,J,J,J,J,J,J,J,J,J,J,J,J,J,J,J,J,J,J,J,J,J,J,J,J,J,J,J,J,J,J,J,J,J,J,J,J,J,J,J,J,J,J,J,J,J,J,J,J,J,J,J,J,J,J,J,J,J,J,J,J,J,J,J,J,J,J,J,J,J,J,J,J,J,J,J,J,J,J,J,J,J,J,J,J,J,J,J,J,.bool (qS q u x),J,J,J,J,J,J,J,J,J,J,J,J,J,J,J,J,J,J] (λs=>s=⟨B++[.cells q.d.cells,.cells q.x.cells,.cells x.cells,.cells u.cells],L,c⟩) ?_ ?_
 ·simp only[vqM,vt87,zA,vsUs];repeat' (first
   |((with_reducible refine aI ?_);refine aa (Ey _ _ _) ?_;simp only[vqM])
   |(with_reducible refine ak (λhc=>?_) (λhc=>?_)<;>simp only[vqM,vt87,hc,zA,vsUs,af,ab,aR])
   |((with_reducible refine cU ?_);refine aE ⟨?_,rfl⟩<;>simp only[vke,zB,zA]<;>(first|(simp only[qS, *,K6,Me,Mu,Mq,Mi,Mm,Mp,Ml];done)|(simp_all[qS];done)|(simp_all[qS];omega))))
 rintro s rfl;simp only[vqM];refine ak (λhc=>?_) (λhc=>?_)
 ·simp only[vqM,zB];refine QR ?_ (.bool _);simp only[vqM];rw[hst,hc];rfl
 rw[hc,Ml,K6]at hst;simp only[vqM,vt87,zA,zB,vsUs];repeat' (first
  |(with_reducible refine ak (λhc=>?_) (λhc=>?_)<;>simp only[vqM,vt87,hc,zA,vsUs,au])
  |((with_reducible refine cU ?_);refine QR ?_ (.bool _)<;>(try simp only[vqM])<;>(first|(simp only[D6, *,K6,Me,Mu,Mr,Mi,Ms,Mm];done)|(simp_all[hst,D6];done)|(simp_all[hst,D6];omega))))
structure SmallS (s:Sm):Prop where
 ar:s.args.length≤281474976710656
 pt:s.ptrs.length≤281474976710656
 ca:s.c.a.length≤281474976710656
 cc:s.c.c.length≤281474976710656
theorem AE{a b:Nat}(ha:a≤281474976710656)(hb:b≤281474976710656):w64 ((a:Int)+b)=a+b:=bG (by omega)
theorem ID{s:Sm}(h:SmallS s):Gw s.c=(decide (s.c.op=0)&&decide (w64 (s.c.a.length+s.c.c.length)=0)):=by
 rw[AE h.ca h.cc,Gw,Nv];simp only[Mh,decide_eq_true_eq];omega
theorem CK{s:Sm}(h:SmallS s):decide (0<w64 ((s.args.length:Int)+s.ptrs.length)) = !decide (w64 ((s.args.length:Int)+s.ptrs.length)=0):=by
 rw[AE h.ar h.pt,Nv];simp only[MU,decide_eq_true_eq,decide_eq_false_iff_not];omega
theorem IB(k:Ck):numberB k 3=λn=>inB n 0 (w64 (k.d.refs-1)):=by
 funext n;rfl
theorem EM(k:Ck)(s:Sm)(f:Fl)(u:Us)(h:SmallS s)(e1:xH k u.n s.n=numberB k f.n s.n)(e2:xH k u.m s.m=numberB k f.m s.m)(e3:vR s=numberB k f.v s.v)
  (ex:u.x=f.x) (ey:u.y=f.y) (ec:u.c=f.c) (el:u.call=f.call) (eb:u.body=f.body) (ee:u.els=f.rest) (hn:Ba f=Qw) :
  (!qf k (u,Qy) s&&(!qT k u s&&(!qS k u s&&D6 u s))) =
  (!(Ba f || !inB s.site 1 1073741824 || !numberB k f.n s.n || !numberB k f.m s.m || !numberB k f.v s.v) &&
   (eG k f.x s.x&&eG k f.y s.y&&gf k f s.c&&io k f s&&(f.body ||decide ((s.body.length:Int)=0))&&(f.rest ||decide ((s.els.length:Int)=0)))):=by
 have hc:=ID h;have hl:=CK h;simp only[qf,qT,qS,D6,eG,gf,io,e1,e2,e3,ex,ey,ec,el,eb,ee,hn,hc,hl,ms,bA,IB,Gv];generalize inB s.site 1 1073741824=b1;generalize numberB k f.n s.n=b2;generalize numberB k f.m s.m=b3;generalize numberB k f.v s.v=b4;generalize f.x=b5;generalize f.y=b6;generalize f.c=b7;generalize f.call=b8;generalize f.body=b9;generalize f.rest=b10;generalize s.args.all (valueB k)=c1;generalize(s.ptrs.all λn=>inB n 0 (w64 (k.d.refs-1)))=c2;generalize decide ((s.args.length:Int)≤12)=c3;generalize decide ((s.ptrs.length:Int)≤4)=c4;generalize decide (w64 ((s.args.length:Int)+s.ptrs.length)=0)=c5;generalize decide (s.c.op=0)=c6;generalize decide (w64 (s.c.a.length+s.c.c.length)=0)=c0;generalize testB k s.c=c7;generalize valueB k s.x=c8;generalize valueB k s.y=c9;cases b1<;>simp only[Mp,Ml,Mr,Ms,Me,Mi,Mm];cases b2<;>simp only[Mp,Ml,Mr,Me,Mi];cases b3<;>simp only[Mp,Ml,Mr,Me,K6,Mi];cases b4<;>simp only[Mp,Ml,Mr,Me,K6,Mi];cases b5<;>cases b6<;>cases b7<;>cases b8<;>simp only[Mp,Ml,Me,K6,Mi,Mm,Pm,O1,Bool.and_assoc]<;>ac_rfl
theorem EN(k:Ck)(s:Sm)(h:SmallS s):tx k s=fk k s:=by
 have hop:∀{o:Int}{f:Fl}{u:Us},s.op=o→tableF o=f→useF o=(u,Qy)→xH k u.n s.n=numberB k f.n s.n→xH k u.m s.m=numberB k f.m s.m→vR s=numberB k f.v s.v→u.x=f.x→u.y=f.y→u.c=f.c→u.call=f.call→u.body=f.body→u.els=f.rest→Ba f=Qw→tx k s=fk k s:=by
  intro o f u h1 h2 h3 e1 e2 e3 ex ey ec el eb ee hn;simp only[tx,fk,h1,h2,h3];exact EM k s f u h e1 e2 e3 ex ey ec el eb ee hn
 have hv:∀{o:Int},s.op=o→vR s=if o=14 then inB s.v 1 31 else if o=12 then inB s.v 1 16 else decide (s.v=0):=by
  intro o h1;rw[vR,vR1,h1]
 have one:∀o:Int,1≤o→o≤24→s.op=o→tx k s=fk k s:=by
  intro o h1 h2 h3;have:o=1∨o=2∨o=3∨o=4∨o=5∨o=6∨o=7∨o=8∨o=9∨o=10∨o=11∨o=12∨o=13∨o=14∨o=15∨o=16∨o=17∨o=18∨o=19∨o=20∨o=21∨o=22∨o=23∨o=24:=by omega
  rcases this with rfl|rfl|rfl|rfl|rfl|rfl|rfl|rfl|rfl|rfl|rfl|rfl|rfl|rfl|rfl|rfl|rfl|rfl|rfl|rfl|rfl|rfl|rfl|rfl
  all_goals exact hop h3 rfl rfl rfl rfl (hv h3) rfl rfl rfl rfl rfl rfl rfl
 by_cases hr:1≤s.op∧s.op≤24
 ·exact one _ hr.1 hr.2 rfl
 ·have hb:∀o:Int,1≤o→o≤24→(s.op=o)=False:=λo h1 h2=>eq_false (by omega);have h1:(useF s.op).2=Qw:=by simp only[useF,GF,hb,PG,if_false]
  have h2:Ba (tableF s.op)=Qy:=by
   simp only[tableF,md,hb,PG,if_false];rfl
  simp only[tx,fk,qf,h1,h2,Ml,Mr,Mp,Me]
theorem HX(q:Ck)(x:Sm)(s:St):ay Qz 206 [.agg q.d.cells,.agg q.x.cells,.agg x.cells] s (.bool (fk q x)) s:=by
 refine ay.small λhsm=>?_;have h1:(Ex.encs x.args).length≤281474976710656:=(hsm _ (.tail _ (.tail _ (.head _)))).sl (o:=.none) (by cases x;simp[Sm.cells,Sm.args]);have h2:(ah x.ptrs).length≤281474976710656:=(hsm _ (.tail _ (.tail _ (.head _)))).sl (o:=.none) (by cases x;simp[Sm.cells,Sm.ptrs]);have h3:(Ex.encs x.c.a).length≤281474976710656:=(hsm _ (.tail _ (.tail _ (.head _)))).sl (o:=.none) (by
  obtain⟨site,op,n,m,v,x,y,⟨o,a,c⟩,args,ptrs,body,els⟩:=x;simp[Sm.cells,Sm.c,Co.cells,Co.a])
 have h4:(Co.encs x.c.c).length≤281474976710656:=(hsm _ (.tail _ (.tail _ (.head _)))).sl (o:=.none) (by
  obtain⟨site,op,n,m,v,x,y,⟨o,a,c⟩,args,ptrs,body,els⟩:=x;simp[Sm.cells,Sm.c,Co.cells,Co.c])
 rw[af]at h1 h3;rw[ab]at h2;rw[aD]at h4;rw[←EN q x ⟨h1,h2,h3,h4⟩];exact HW q x s
theorem H3(b:ByteArray)(hb:b.size≤1000000000)(s:St):ay Qz 147 [.str b] s (.bool (lG b)) s:=by
 refine ay.introN [(4,.cut),(5,.cut)] func147 rfl (by decide) az (by kernel_rfl) [QO 2] 60 rfl rfl ?_;simp only[vqM,zA,zS,zB];refine ae [0,3] ?_;simp only[vke,zB,zA];refine cf az b.size (λk=>[.str b,J,J,.int .i64 (k:Int),J,J,J,J,J,J,J,J,J,J,J,J,J,J,J,J,J,J,J,J,J,J,J,J,J,J,J,J,J,J,J,J,J,J,J,J,J,J,J,J,J,J,J,J,J,J,J,J,J,J,J,J,J,J,J,J]) (λ_=>s) (λk=>oc b.data.toList 0=oc (b.data.toList.drop k) k) ?_ ?_ 0 (K9 _) rfl
 ·intro k hk hI ih;have hg:=vM b k hk;have hkl:k<b.data.toList.length:=by simpa using hk
  have hd:b.data.toList.drop k=b.data.toList[k]::b.data.toList.drop (k+1):=List.drop_eq_getElem_cons hkl;rw[hd,oc]at hI;generalize b.data.toList[k]=c at hg hd hI;have hklt:((k:Int)<(b.size:Int))=True:=by simp;exact hk
  simp only[vqM,vt48,zB,hklt,decide_true];refine bn az [0,3,4] [.str b,J,J,.int .i64 (k:Int),.bool (gJ c.toNat),J,J,J,J,J,J,J,J,J,J,J,J,J,J,J,J,J,J,J,J,J,J,J,J,J,J,J,J,J,J,J,J,J,J,J,J,J,J,J,J,J,J,J,J,J,J,J,J,J,J,J,J,J,J,J] (λs1=>s1=s) ?_ ?_
  ·simp only[vqM,vt48,natle0,K3,hg];repeat' (first
    |(with_reducible refine ak (λhc=>?_) (λhc=>?_)<;>simp only[vqM,vt48,hc,natle0,K3,hg])
    |((with_reducible refine cU ?_);refine aE ⟨?_,rfl⟩<;>simp only[vke,zB,zA]<;>(first|(simp only[gJ, *,K6,Me,Mu,Mq,Mr,Mi,Mm];done)|(simp_all[gJ];done)|(simp_all[gJ];omega))))
  rintro s1 rfl;simp only[vqM,zB];refine bn az [0,3,56] [.str b,J,J,.int .i64 (k:Int),J,J,J,J,J,J,J,J,J,J,J,J,J,J,J,J,J,J,J,J,J,J,J,J,J,J,J,J,J,J,J,J,J,J,J,J,J,J,J,J,J,J,J,J,J,J,J,J,J,J,J,J,.bool (Ae k c.toNat),J,J,J] (λs2=>s2=s1) ?_ ?_
  ·simp only[vqM];repeat' (first
    |(with_reducible refine ak (λhc=>?_) (λhc=>?_)<;>simp only[vqM,vt48,hc,natle0,K3,hg])
    |((with_reducible refine cU ?_);refine aE ⟨?_,rfl⟩<;>simp only[vke,zB,zA]<;>(first|(simp only[Ae, *,K6,Me,Mu,Mq,Mr,Mi,Ms,Mm];done)|(simp_all[Ae];done)|(simp_all[Ae];omega))))
  rintro s2 rfl;simp only[vqM];refine ak (λhc=>?_) (λhc=>?_)
  ·simp only[vqM,zB];refine QS ?_ (.bool _);simp only[vqM];simp only[lG,hI,hc,Mp,Me]
  ·simp only[vqM];rw[ap (by omega)];refine ae [0,3] ?_;simp only[vke,zB,zA];refine ih ?_;rw[hI,hc];rfl
 ·intro hI;rw[List.drop_of_length_le (by simp)]at hI;have hklt:((b.size:Int)<(b.size:Int))=False:=by simp
  simp only[vqM,vt48,zB,hklt,decide_false];refine aa (fA _ _ _ _) ?_;simp only[vqM];refine QS ?_ (.bool _);simp only[vqM];simp only[lG,hI,oc,K6]
mutual
def Sm.dp:Sm→Nat
 |.mk _ _ _ _ _ _ _ _ _ _ body els=>1+max (dpL body) (dpL els)
def dpL:List Sm→Nat
 | []=>0
 |x::l=>max x.dp (dpL l)
end
theorem Sm.dp_eq(x:Sm):x.dp=1+max (dpL x.body) (dpL x.els):=by cases x;simp only[Sm.dp,Sm.body,Sm.els]
theorem Br:∀l m:List Sm,dpL (l++m)=max (dpL l) (dpL m)
 | [],m=>by simp[dpL]
 |x::l,m=>by rw[Mw,dpL,dpL,Br l m,Nat.max_assoc]
mutual
theorem Lj:(x:Sm)→x.dp≤1+(cq x.body+cq x.els)
 |.mk site op n m v x y c args ptrs body els=>by
  rw[Sm.dp_eq];simp only[Sm.body,Sm.els];have:=kK body
  have:=kK els
  omega
theorem kK:(l:List Sm)→dpL l≤cq l
 | []=>by simp[dpL]
 |x::l=>by
  have h1:=Lj x;have h2:=kK l;have h3:=dg (x::l);rw[smsL,K4,Sm.sms_eq,K7,K4,dg,dg,dg]at h3;rw[dpL];omega
end
theorem Gx(a b:Nat):(if (a:Int)<(b:Int)then(b:Int)else(a:Int))=((max a b:Nat):Int):=by
 split<;>omega
def BG(l:List Sm):Prop:=∀s:St,cq l<1000000→ay Qz 148 [.slice .none (Sm.encs l)] s (.int .i64 (dpL l:Nat)) s
theorem su(l:List Sm)(ih:∀x∈l,BG x.body∧BG x.els):BG l:=by
 intro s hl;have hll:l.length≤cq l:=by rw[mr];omega
 refine ay.introN [(5,.text [Qw,Qw,Qw,Qw,Qw,Qw,Qy,Qw,Qw,Qw,Qw,Qw,Qy,Qw,Qw,Qw,Qw] [(11,0)])] func148 rfl (by decide) az (by kernel_rfl) [QO 2] 28 rfl rfl ?_;simp only[vqM,zA,zS,zB];refine ae [0,3,4] ?_;simp only[vke,zB,zA];refine aC az l.length (λk e s1=>e=[.slice .none (Sm.encs l),J,J,.int .i64 ((dpL (l.take k):Nat):Int),.int .i64 (k:Int),J,J,J,J,J,J,J,J,J,J,J,J,J,J,J,J,J,J,J,J,J,J,J]∧s1=s) ?_ ?_ 0 _ _ (K9 _) ⟨rfl,rfl⟩
 ·rintro k e s1 hk ⟨rfl,rfl⟩ ihl;have hx:l[k]?=Qv l[k]:=C0 hk;have hg:(Sm.encs l)[k]?=Qv l[k].cells:=by simp[Sm.encs_map,hx]
  have hklt:((k:Int)<(l.length:Int))=True:=by simp;exact hk
  have hnext:dpL (l.take (k+1))=max (dpL (l.take k)) (1+max (dpL l[k].body) (dpL l[k].els)):=by
   rw[Mt,hx,MO,Br,dpL,dpL,Sm.dp_eq];omega
  obtain⟨ih1,ih2⟩:=ih _ (Mf hk);have hm:=sM _ _ (Mf hk);have d1:=kK l[k].body;have d2:=kK l[k].els;have d3:=kK (l.take k);have d4:=uA l k;generalize l[k]=x at hx hg hnext ih1 ih2 hm d1 d2;simp only[vqM,oz,zB,au,hklt,decide_true,natle0,K3,hg];refine aa (ih1 _ (by omega)) ?_;simp only[vqM,oz,natle0,K3,hg];refine aa (ih2 _ (by omega)) ?_;simp only[vqM,oz];rw[ap (by omega)];refine ae [0,3,4] ?_;simp only[vke,zB,zA];rw[Gx,aG (n:=1+((max (dpL x.body) (dpL x.els):Nat):Int)) (by omega),show 1+((max (dpL x.body) (dpL x.els):Nat):Int)=((1+max (dpL x.body) (dpL x.els):Nat):Int) by omega,Gx];exact ihl _ _ ⟨by rw[hnext],rfl⟩
 ·rintro e s1 ⟨rfl,rfl⟩;have hklt:((l.length:Int)<(l.length:Int))=False:=by simp
  rw[Mv];simp only[vqM,oz,zB,au,hklt,decide_false];refine QS ?_ (.int _ _);simp only[vqM]
mutual
theorem KD:(x:Sm)→BG x.body∧BG x.els
 |.mk site op n m v x y c args ptrs body els=>⟨su body (qL body),su els (qL els)⟩
theorem qL:(l:List Sm)→∀x∈l,BG x.body∧BG x.els
 | []=>by intro x hx;simp at hx
 |y::l=>by
  intro x hx;rcases Mj.1 hx with e|hx
  ·rw[e];exact KD y
  ·exact qL l x hx
end
theorem H7(l:List Sm):BG l:=su l (qL l)
def iA(k:Ck)(l:List Sm):Bool:=(smsL l).all (fk k)
def D8(k:Ck)(x:Sm):Bool:=!fk k x ||(!iA k x.body || !iA k x.els)
def sg(q:Ck)(l:List Sm):Prop:=∀s:St,ay Qz 149 [.agg q.d.cells,.agg q.x.cells,.slice .none (Sm.encs l)] s (.bool (iA q l)) s
theorem oP(q:Ck)(l:List Sm)(ih:∀x∈l,sg q x.body∧sg q x.els):sg q l:=by
 intro s;refine ay.small λhsm=>?_;have hlen:=(hsm _ (.tail _ (.tail _ (.head _)))).len;rw[au]at hlen;clear hsm;obtain⟨B,L,c⟩:=s;refine ay.introN [(4,.cut)] func149 rfl (by decide) az (by kernel_rfl) [QO 6] 44 rfl rfl ?_;simp only[vqM,zA,zS,zB];refine ae [2,3,4,7] ?_;simp only[vke,zB,zA];refine aC az l.length (λk e s=>iA q (l.take k)=Qy∧e=[J,J,.slice .none (Sm.encs l),.box B.length 0,.box (B.length+1) 0,J,J,.int .i64 (k:Int),J,J,J,J,J,J,J,J,J,J,J,J,J,J,J,J,J,J,J,J,J,J,J,J,J,J,J,J,J,J,J,J,J,J,J,J]∧s=⟨B++[.cells q.d.cells,.cells q.x.cells],L,c⟩) ?_ ?_ 0 _ _ (K9 _) ⟨rfl,rfl,rfl⟩
 ·rintro k e s hk ⟨hI,rfl,rfl⟩ ihl;have hx:l[k]?=Qv l[k]:=C0 hk;have hg:(Sm.encs l)[k]?=Qv l[k].cells:=by simp[Sm.encs_map,hx]
  have hklt:((k:Int)<(l.length:Int))=True:=by simp;exact hk
  have hnext:iA q (l.take (k+1)) = !D8 q l[k]:=by
   rw[Mt,hx,MO,iA,nU,OI,←iA,hI,smsL,smsL,List.append_nil,Sm.sms_eq,List.all_cons,OI];simp only[D8,iA,K6,Pm,O1]
  have hspl:iA q l=(!D8 q l[k]&&iA q (l.drop (k+1))):=by
   conv=>lhs;rw[←List.take_append_drop (k+1) l]
   rw[iA,nU,OI,←iA,←iA,hnext]
  obtain⟨ih1,ih2⟩:=ih _ (Mf hk);generalize l[k]=x at hx hg hnext hspl ih1 ih2;simp only[vqM,vt88,zB,au,hklt,decide_true];refine bn az [2,3,4,7,43] [J,J,.slice .none (Sm.encs l),.box B.length 0,.box (B.length+1) 0,J,J,.int .i64 (k:Int),J,J,J,J,J,J,J,J,J,J,J,J,J,J,J,J,J,J,J,J,J,J,J,J,J,J,J,J,J,J,J,J,J,J,J,.bool (D8 q x)] (λs=>s=⟨B++[.cells q.d.cells,.cells q.x.cells],L,c⟩) ?_ ?_
  ·simp only[vqM,vt88,natle0,K3,hg];repeat' (first
    |((with_reducible refine aI ?_);refine aa (HX _ _ _) ?_;simp only[vqM])
    |((with_reducible refine aI ?_);refine aa (ih1 _) ?_;simp only[vqM])
    |((with_reducible refine aI ?_);refine aa (ih2 _) ?_;simp only[vqM])
    |(with_reducible refine ak (λhc=>?_) (λhc=>?_)<;>simp only[vqM,vt88,hc,natle0,K3,hg])
    |((with_reducible refine cU ?_);refine aE ⟨?_,rfl⟩<;>simp only[vke,zB,zA]<;>(first|(simp only[D8, *,Mr,Mi,Ms];done)|(simp_all[D8];done)|(simp_all[D8];omega))))
  rintro s rfl;simp only[vqM];refine ak (λhc=>?_) (λhc=>?_)
  ·simp only[vqM,zB];refine QR ?_ (.bool _);simp only[vqM];rw[hspl,hc];rfl
  ·simp only[vqM];rw[ap (by omega)];refine ae [2,3,4,7] ?_;simp only[vke,zB,zA];exact ihl _ _ ⟨by rw[hnext,hc];rfl,rfl,rfl⟩
 ·rintro e s ⟨hI,rfl,rfl⟩;have hklt:((l.length:Int)<(l.length:Int))=False:=by simp
  rw[Mv]at hI;simp only[vqM,vt88,zB,au,hklt,decide_false];refine QR ?_ (.bool _);simp only[vqM];rw[hI]
mutual
theorem HC(q:Ck):(x:Sm)→sg q x.body∧sg q x.els
 |.mk site op n m v x y c args ptrs body els=>⟨oP q body (nR q body),oP q els (nR q els)⟩
theorem nR(q:Ck):(l:List Sm)→∀x∈l,sg q x.body∧sg q x.els
 | []=>by intro x hx;simp at hx
 |y::l=>by
  intro x hx;rcases Mj.1 hx with e|hx
  ·rw[e];exact HC q y
  ·exact nR q l x hx
end
theorem HB(q:Ck)(l:List Sm):sg q l:=oP q l (nR q l)
structure SameK (k j:Ck):Prop where
 par:k.d.params.length=j.d.params.length
 vars:k.d.vars=j.d.vars
 arr:k.d.arrays.length=j.d.arrays.length
 refs:k.d.refs=j.d.refs
 gl:k.x.globals.length=j.x.globals.length
 cl:k.x.classes.length=j.x.classes.length
 qu:k.x.queues.length=j.x.queues.length
 si:k.x.sinks.length=j.x.sinks.length
 lo:k.x.locks=j.x.locks
 pa:k.x.parts=j.x.parts
def PgW(p:Pg)(o:Own)(hs:List Hd):List D:=p.d.cells++[.slice o (aN hs),.slice .none (ax p.defs),.slice .none (ah p.threads)]
theorem PgW.len(p:Pg)(o:Own)(hs:List Hd):(PgW p o hs).length=10:=rfl
theorem PgW.hd(p:Pg)(o:Own)(hs:List Hd):((PgW p o hs).drop 7)[0]?=Qv (.slice o (aN hs)):=rfl
theorem PgW.df(p:Pg)(o:Own)(hs:List Hd):((PgW p o hs).drop 8)[0]?=Qv (.slice .none (ax p.defs)):=rfl
theorem PgW.set(p:Pg)(o o':Own)(hs hs':List Hd):(PgW p o hs).take 7++.slice o' (aN hs')::(PgW p o hs).drop 8=PgW p o' hs':=rfl
theorem PgW.take(p:Pg)(o:Own)(hs:List Hd):(PgW p o hs).take 10=PgW p o hs:=rfl
theorem PgW.plain(p:Pg)(o:Own)(hs:List Hd):(PgW p o hs).map D.plain1=({p with heads:=hs}:Pg).cells:=rfl
def movedL(pre:List Df)(x:Df):List Df:=pre.takeWhile (λd=>decide (d.id<x.id))++[x]++pre.filter (λd=>decide (d.id > x.id))
def dcl(f:Int):Dc:={declared with firms:=f}
structure VD (d:Df) (n:Nat):Prop where
 hb:kp d declared=Qy
 st:∀q∈flatL 1 d.body,fk ⟨d,declared⟩ q.s=Qy∧q.depth≤10
 fl:(sitesS d).length≤40+n
 cn:(rawC (flatL 1 d.body)).length≤9
 nm:d.name.size≤8
 id:11≤d.id∧d.id≤21
 sr:∀s∈sitesS d,(100<s∧s≤1000)∨(20≤d.id∧5000+10*d.id≤s∧s≤5001+10*d.id)∨(8000+10*d.id≤s∧s≤8002+10*d.id)
structure VL (ds:List Df) (n:Nat):Prop where
 ne:ds≠[]
 ln:ds.length≤4+n
 nd:(ds.map (·.id)).Nodup
 ok:∀d∈ds,VD d n
 ca:∀d∈ds,∀q∈flatL 1 d.body,q.s.op=13→∃e∈ds,e.id<d.id∧q.s.m=e.id∧q.s.args.length=e.params.length∧q.s.ptrs.length=e.given.length
 sn:∀d∈ds,(sitesS d).Nodup
 sx:∀a∈ds,∀b∈ds,a.id≠b.id→∀x∈sitesS a,x ∉ sitesS b
structure VarOk (p:Pg) (n:Nat):Prop where
 fm:∃f,(f=2∨f=3)∧p.d=dcl f
 hds:p.heads=p.defs.map hdOf
 pw:p.defs.Pairwise (λa b=>a.id<b.id)
 vl:VL p.defs n
 tl:1≤p.threads.length∧p.threads.length≤2
 th:∀t∈p.threads,∃d∈p.defs,d.id=t∧isT d=Qy
theorem yM(l:List Sm):(smsL l).map Sm.site=sitesL (flatL 1 l):=by
 rw[←eL l 1,sitesL,List.map_map];rfl
theorem xj(d:Df)(hN:cq d.body<999999)(s:St):ay Qz 77 [.agg d.cells] s (.slice .none (ah (sitesS d))) s:=by
 obtain⟨B,L,c⟩:=s;have hll:=dg d.body;have hss:sitesS d=(smsL d.body).map Sm.site++[d.site]:=by rw[yM,sitesS]
 have hof:∀(n:Nat)(xs:List Int)(B:List Box),aV (dj c 1 n) (ah xs) 1 ⟨B,liveN L c n,c+n⟩=Qy:=λn xs B=>cg (aW _);refine ay.introN [] func77 rfl (by decide) az (by kernel_rfl) [QO 2] 29 rfl rfl ?_;simp only[vqM,nv,zA,zS];refine aa (sY d.body _ (by omega)) ?_;simp only[vqM,nv,zA,zM];refine ae [1,3,4,5] ?_;simp only[vke,zB,zA];refine aC az (smsL d.body).length (λk e s=>e=[J,.box B.length 0,J,.slice .none (Sm.encs (smsL d.body)),.slice (dj c 1 k) (ah (((smsL d.body).take k).map Sm.site)),.int .i64 (k:Int),J,J,J,J,J,J,J,J,J,J,J,J,J,J,J,J,J,J,J,J,J,J,J]∧s=⟨B++[.cells d.cells],liveN L c k,c+k⟩) ?_ ?_ 0 _ _ (K9 _) ⟨rfl,rfl⟩
 ·rintro k e s hk ⟨rfl,rfl⟩ ih;have hx:(smsL d.body)[k]?=Qv (smsL d.body)[k]:=C0 hk;have hg:(Sm.encs (smsL d.body))[k]?=Qv (smsL d.body)[k].cells:=by simp[Sm.encs_map,hx]
  have hklt:((k:Int)<((smsL d.body).length:Int))=True:=by simp;exact hk
  have hnext:((smsL d.body).take (k+1)).map Sm.site=((smsL d.body).take k).map Sm.site++[(smsL d.body)[k].site]:=by rw[Mt,hx,List.map_append];rfl
  have hl1:((((smsL d.body).take k).map Sm.site).length+1≤1000000)=True:=eq_true (by simp;omega);generalize(smsL d.body)[k]=y at hx hg hnext;simp only[vqM,nv,zA,zM,zL,au,hklt,decide_true,natle0,K3,hg,hof,aU,ab,hl1,bt];rw[ap (by omega)];refine ae [1,3,4,5] ?_;simp only[vke,zB,zA];exact ih _ _ ⟨by rw[hnext];rfl,rfl⟩
 ·rintro e s ⟨rfl,rfl⟩;have hklt:(((smsL d.body).length:Int)<((smsL d.body).length:Int))=False:=by simp
  rw[Mv];have hl1:(((smsL d.body).map Sm.site).length+1≤1000000)=True:=eq_true (by simp;omega);simp only[vqM,nv,zA,zM,zL,au,hklt,decide_false,hof,aU,ab,hl1,bt];refine am (.inr rfl) ?_ (aT (ta _)) (λ_ h=>bk h) (by omega);simp only[vqM];rw[hss]
theorem jW:∀l m:List Sm,cq (l++m)=cq l+cq m
 | [],m=>by simp[cq]
 |x::l,m=>by rw[Mw,cq,cq,jW l m];omega
theorem A2{e e' sz by_:Nat}{a:Bool}{o:Own}{xs:List (List D)}{k:Nat}(ho:o≠.full)(h:k≤xs.length):slS (Qv (.slice e)) (Qv (e',sz,by_,a)) o xs Qx (Qv (.int .i64 (k:Int)))=Qv (.slice .none (xs.take k)):=by
 simp[slS,evBd,h,ho]
theorem If{e e' sz by_:Nat}{a:Bool}{o:Own}{xs:List (List D)}{k:Nat}(ho:o≠.full)(h:k≤xs.length)(hs:∀x∈xs,x.length=sz):slS (Qv (.slice e)) (Qv (e',sz,by_,a)) o xs (Qv (.int .i64 (k:Int))) Qx=Qv (.slice .none (xs.drop k)):=by
 have:(xs.all λx=>x.length == sz)=Qy:=Mn.2 λx hx=>by simp[hs x hx]
 simp[slS,evBd,h,ho,this]
theorem tc(l:List Int)(k:Nat):O2 k (ah l)=ah (l.take k):=by simp[ah,List.map_take]
mutual
theorem IY:(x:Sm)→∀d:Int,1≤d→d+x.dp≤4000000000→((∀p∈x.flat d,p.depth≤10)↔d+x.dp≤11)
 |.mk site op n m v x y c args ptrs body els=>λd h1 h2=>by
  rw[Sm.dp_eq]at h2⊢;rw[Sm.flat_eq];simp only[Sm.body,Sm.els]at h2⊢;rw[bG (n:=d+1) (by omega)];have hb:=oi body (d+1) (by omega) (by omega);have he:=oi els (d+1) (by omega) (by omega);constructor
  ·intro h;have h0:=h _ (List.mem_cons_self ..);have h3:=hb.1 λp hp=>h p (MT _ (OG _ hp));have h4:=he.1 λp hp=>h p (MT _ (OO _ hp));simp only at h0;omega
  ·intro h p hp;rcases Mj.1 hp with rfl|hp
   ·simp only;omega
   ·rcases Mz.1 hp with hp|hp
    ·exact hb.2 (by omega) p hp
    ·exact he.2 (by omega) p hp
theorem oi:(l:List Sm)→∀d:Int,1≤d→d+dpL l≤4000000000→((∀p∈flatL d l,p.depth≤10)↔(dpL l=0∨d+dpL l≤11))
 | []=>λd _ _=>by simp[flatL,dpL]
 |x::l=>λd h1 h2=>by
  rw[dpL]at h2⊢;rw[flatL];have hx:=IY x d h1 (by omega);have hl:=oi l d h1 (by omega);have hp1:1≤x.dp:=by rw[Sm.dp_eq];omega
  constructor
  ·intro h;have h3:=hx.1 λp hp=>h p (OG _ hp);have h4:=hl.1 λp hp=>h p (OO _ hp);omega
  ·intro h p hp;rcases Mz.1 hp with hp|hp
   ·exact hx.2 (by omega) p hp
   ·exact hl.2 (by omega) p hp
end
theorem sB(k:Ck):∀(ps:List Pl)(seen:List Int),seen.Nodup→seen.length≤201→kP k ps seen=Qy→(∀p∈ps,fk k p.s=Qy∧p.depth≤10)∧(seen++sitesL ps).Nodup∧seen.length+ps.length≤201:=by
 intro ps;induction ps with
 |nil=>intro seen h1 h2 _;exact⟨λp hp=>by simp at hp,by simpa[sitesL]using h1,by simpa using h2⟩
 |cons p ps ih =>
  intro seen h1 h2 h;simp only[kP,Mh,MU,Ng,decide_eq_false_iff_not]at h;obtain⟨⟨⟨⟨ha,hb⟩,hc⟩,hd⟩,he⟩:=h;have hc':p.s.site ∉ seen:=by
   intro hm;have:seen.contains p.s.site=Qy:=by simpa using hm
   rw[this]at hc;cases hc
  obtain⟨i1,i2,i3⟩:=ih (seen++[p.s.site]) (by
   rw[List.nodup_append];exact⟨h1,by simp,λa hm b hb=>by simp at hb;subst hb;rintro rfl;exact hc' hm⟩) (by simp;omega) he
  refine⟨λq hq=>?_,by simpa[sitesL]using i2,by simp at i3⊢;omega⟩;rcases Mj.1 hq with rfl|hq
  ·exact⟨by simpa using hd,by omega⟩
  ·exact i1 q hq
def Eb(d:Df)(x:Dc):Bool:=!inB d.id 1 1073741824 ||(!inB d.site 1 1073741824 ||(!lG d.name ||(!inB d.firm 0 (w64 (x.firms-1)) ||(!inB d.part 0 (w64 (x.parts-1)) ||(!inB d.vars d.params.length 12 ||(!inB d.refs d.given.length 4 ||decide (4<(d.arrays.length:Int))))))))
def GK(d:Df):Bool:=!bA d.params 12 aQ ||(!bA d.given 4 aQ ||(!inB d.budget 1 20000 ||(decide (10<(dpL d.body:Int)) ||decide (200<((smsL d.body).length:Int)))))
def GJ(d:Df)(x:Dc):Bool:=!iA ⟨d,x⟩ d.body || !diffB (sitesS d)
theorem FU{d:Df}{x:Dc}(hN:cq d.body<999999):defB d x=(!Eb d x&&(!GK d&&(d.arrays.all (arrB d) && !GJ d x))):=by
 have hll:=dg d.body;have hfl:(flatL 1 d.body).length=cq d.body:=bH d.body 1;have hdc:=kK d.body;have hdd:=oi d.body 1 (by omega) (by omega);have hss:([d.site]++sitesL (flatL 1 d.body)).Nodup↔(sitesS d).Nodup:=by rw[sitesS];exact List.perm_append_comm.nodup_iff
 have hst:iA ⟨d,x⟩ d.body=Qy↔∀p∈flatL 1 d.body,fk ⟨d,x⟩ p.s=Qy:=by
  rw[iA,←eL d.body 1,Mn];simp only[List.mem_map,forall_exists_index,and_imp,forall_apply_eq_imp_iff₂]
 have hsc:kP ⟨d,x⟩ (flatL 1 d.body) [d.site]=Qy↔(iA ⟨d,x⟩ d.body=Qy∧dpL d.body≤10)∧(sitesS d).Nodup∧(smsL d.body).length≤200:=by
  constructor
  ·intro h;obtain⟨h1,h2,h3⟩:=sB _ _ _ (by simp) (by simp) h;have h4:=hdd.1 λp hp=>(h1 p hp).2;simp at h3;exact⟨⟨hst.2 λp hp=>(h1 p hp).1,by omega⟩,hss.1 h2,by omega⟩
  ·rintro⟨⟨h1,h2⟩,h3,h4⟩;have h5:=hdd.2 (by omega);exact A3 _ _ _ (λp hp=>⟨hst.1 h1 p hp,h5 p hp⟩) (hss.2 h3) (by simp;omega)
 rw[Nv];simp only[defB,kp,Eb,GK,GJ,Mh,MU,Ng,hsc,decide_eq_false_iff_not,NO,diffB,decide_eq_true_eq];have ha:bA d.arrays 4 (arrB d)=Qy↔¬(4<(d.arrays.length:Int))∧d.arrays.all (arrB d)=Qy:=by
  simp only[bA,Mh,decide_eq_true_eq];constructor
  ·rintro⟨h1,h2⟩;exact⟨by omega,h2⟩
  ·rintro⟨h1,h2⟩;exact⟨by omega,h2⟩
 rw[ha];constructor
 ·rintro⟨⟨⟨⟨⟨⟨⟨⟨⟨⟨⟨a1,a2⟩,a3⟩,a4⟩,a5⟩,a6⟩,a7⟩,a8⟩,a9⟩,a10⟩,a11,a12⟩,⟨a13,a14⟩,a15,a16⟩;exact⟨⟨a1,a2,a3,a4,a5,a6,a7,a11⟩,⟨a9,a10,a8,by omega,by omega⟩,a12,a13,a15⟩
 ·rintro⟨⟨a1,a2,a3,a4,a5,a6,a7,a11⟩,⟨a9,a10,a8,a14,a16⟩,a12,a13,a15⟩;exact⟨⟨⟨⟨⟨⟨⟨⟨⟨⟨⟨a1,a2⟩,a3⟩,a4⟩,a5⟩,a6⟩,a7⟩,a8⟩,a9⟩,a10⟩,a11,a12⟩,⟨a13,by omega⟩,a15,by omega⟩
theorem Au(d:Df)(x:Dc)(hnm:d.name.size≤1000000000)(hN:cq d.body<999999)(s:St):ay Qz 97 [.agg d.cells,.agg x.cells] s (.int .i64 (if defB d x then 0 else 60)) s:=by
 have hdef:=FU (x:=x) hN;obtain⟨B,L,c⟩:=s;refine ay.introN [(1,.cut),(3,.cut),(8,.cut),(10,.cut)] func97 rfl (by decide) az (by kernel_rfl) [QO 4] 133 rfl rfl ?_;simp only[vqM,zA,zS,zB];refine bn az [2,3,63] [J,J,.box B.length 0,.box (B.length+1) 0,J,J,J,J,J,J,J,J,J,J,J,J,J,J,J,J,J,J,J,J,J,J,J,J,J,J,J,J,J,J,J,J,J,J,J,J,J,J,J,J,J,J,J,J,J,J,J,J,J,J,J,J,J,J,J,J,J,J,J,.bool (Eb d x),J,J,J,J,J,J,J,J,J,J,J,J,J,J,J,J,J,J,J,J,J,J,J,J,J,J,J,J,J,J,J,J,J,J,J,J,J,J,J,J,J,J,J,J,J,J,J,J,J,J,J,J,J,J,J,J,J,J,J,J,J,J,J,J,J,J,J,J,J] (λs=>s=⟨B++[.cells d.cells,.cells x.cells],L,c⟩) ?_ ?_
 ·simp only[vqM,vt89,zA];repeat' (first
   |((with_reducible refine aI ?_);refine aa (fA _ _ _ _) ?_;simp only[vqM])
   |((with_reducible refine aI ?_);refine aa (H3 _ hnm _) ?_;simp only[vqM])
   |(with_reducible refine ak (λhc=>?_) (λhc=>?_)<;>simp only[vqM,vt89,hc,zA,ao,ai,aR])
   |((with_reducible refine cU ?_);refine aE ⟨?_,rfl⟩<;>simp only[vke,zB,zA]<;>(first|(simp only[Eb, *,Mr,Mi,Ms];done)|(simp_all[Eb];done)|(simp_all[Eb];omega))))
 rintro s rfl;simp only[vqM];refine ak (λhc=>?_) (λhc=>?_)
 ·simp only[vqM,zB];refine QR ?_ (.int _ _);simp only[vqM];rw[hdef,hc];rfl
 rw[hc,Ml,K6]at hdef;have har:d.arrays.length≤4:=by
  simp only[Eb,Ng,decide_eq_false_iff_not]at hc;omega
 simp only[vqM,zB];refine bn az [2,3,92] [J,J,.box B.length 0,.box (B.length+1) 0,J,J,J,J,J,J,J,J,J,J,J,J,J,J,J,J,J,J,J,J,J,J,J,J,J,J,J,J,J,J,J,J,J,J,J,J,J,J,J,J,J,J,J,J,J,J,J,J,J,J,J,J,J,J,J,J,J,J,J,J,J,J,J,J,J,J,J,J,J,J,J,J,J,J,J,J,J,J,J,J,J,J,J,J,J,J,J,J,.bool (GK d),J,J,J,J,J,J,J,J,J,J,J,J,J,J,J,J,J,J,J,J,J,J,J,J,J,J,J,J,J,J,J,J,J,J,J,J,J,J,J,J] (λs=>s=⟨B++[.cells d.cells,.cells x.cells],L,c⟩) ?_ ?_
 ·simp only[vqM,vt89,zA];repeat' (first
   |((with_reducible refine aI ?_);refine aa (fA _ _ _ _) ?_;simp only[vqM])
   |((with_reducible refine aI ?_);refine aa (lC _ _ _) ?_;simp only[vqM])
   |((with_reducible refine aI ?_);refine aa (H7 _ _ (by omega)) ?_;simp only[vqM])
   |((with_reducible refine aI ?_);refine aa (sY _ _ (by omega)) ?_;simp only[vqM,vt89,au])
   |(with_reducible refine ak (λhc=>?_) (λhc=>?_)<;>simp only[vqM,vt89,hc,zA])
   |((with_reducible refine cU ?_);refine aE ⟨?_,rfl⟩<;>simp only[vke,zB,zA]<;>(first|(simp only[GK, *,Mr,Mi,Ms];done)|(simp_all[GK];done)|(simp_all[GK];omega))))
 rintro s rfl;simp only[vqM];refine ak (λhc=>?_) (λhc=>?_)
 ·simp only[vqM,zB];refine QR ?_ (.int _ _);simp only[vqM];rw[hdef,hc];rfl
 rw[hc,Ml,K6]at hdef;simp only[vqM,zB];refine ae [2,3,5] ?_;simp only[vke,zB,zA];refine aC az d.arrays.length (λk e s=>(∀z∈d.arrays.take k,arrB d z=Qy)∧e=[J,J,.box B.length 0,.box (B.length+1) 0,J,.int .i64 (k:Int),J,J,J,J,J,J,J,J,J,J,J,J,J,J,J,J,J,J,J,J,J,J,J,J,J,J,J,J,J,J,J,J,J,J,J,J,J,J,J,J,J,J,J,J,J,J,J,J,J,J,J,J,J,J,J,J,J,J,J,J,J,J,J,J,J,J,J,J,J,J,J,J,J,J,J,J,J,J,J,J,J,J,J,J,J,J,J,J,J,J,J,J,J,J,J,J,J,J,J,J,J,J,J,J,J,J,J,J,J,J,J,J,J,J,J,J,J,J,J,J,J,J,J,J,J,J,J]∧s=⟨B++[.cells d.cells,.cells x.cells],L,c⟩) ?_ ?_ 0 _ _ (K9 _) ⟨λz h=>by simp at h,rfl,rfl⟩
 ·rintro k e s hk ⟨hI,rfl,rfl⟩ ihl;have hx:d.arrays[k]?=Qv d.arrays[k]:=C0 hk;have hg:(cj d.arrays)[k]?=Qv (d.arrays[k].cells):=by simp[cj,hx]
  have hklt:((k:Int)<(d.arrays.length:Int))=True:=by simp;exact hk
  have hxm:d.arrays[k]∈d.arrays:=Mf hk;generalize d.arrays[k]=xx at hx hg hxm;simp only[vqM,vt89,zA,zB,ai,hklt,decide_true];refine bn az [2,3,5,120] [J,J,.box B.length 0,.box (B.length+1) 0,J,.int .i64 (k:Int),J,J,J,J,J,J,J,J,J,J,J,J,J,J,J,J,J,J,J,J,J,J,J,J,J,J,J,J,J,J,J,J,J,J,J,J,J,J,J,J,J,J,J,J,J,J,J,J,J,J,J,J,J,J,J,J,J,J,J,J,J,J,J,J,J,J,J,J,J,J,J,J,J,J,J,J,J,J,J,J,J,J,J,J,J,J,J,J,J,J,J,J,J,J,J,J,J,J,J,J,J,J,J,J,J,J,J,J,J,J,J,J,J,J,.bool (!arrB d xx),J,J,J,J,J,J,J,J,J,J,J,J] (λs=>s=⟨B++[.cells d.cells,.cells x.cells],L,c⟩) ?_ ?_
  ·simp only[vqM,vt89,zA,zB,natle0,K3,hg];repeat' (first
    |((with_reducible refine aI ?_);refine aa (fA _ _ _ _) ?_;simp only[vqM])
    |(with_reducible refine ak (λhc=>?_) (λhc=>?_)<;>simp only[vqM,vt89,hc,zA,natle0,K3,hg,ao])
    |((with_reducible refine cU ?_);refine aE ⟨?_,rfl⟩<;>simp only[vke,zB,zA]<;>(first|(simp only[arrB, *];done)|(simp_all[arrB];done)|(simp_all[arrB];omega))))
  rintro s rfl;simp only[vqM];refine ak (λhc=>?_) (λhc=>?_)
  ·have hb:arrB d xx=Qw:=by simpa using hc
   simp only[vqM,zB];refine QR ?_ (.int _ _);simp only[vqM];have:d.arrays.all (arrB d)=Qw:=No.2 ⟨xx,hxm,by simp[hb]⟩
   rw[hdef,this];rfl
  ·have hb:arrB d xx=Qy:=by simpa using hc
   simp only[vqM];rw[ap (by omega)];refine ae [2,3,5] ?_;simp only[vke,zB,zA];refine ihl _ _ ⟨λz hz=>?_,rfl,rfl⟩;rw[Mt,hx]at hz;rcases Mz.1 hz with hz|hz
   ·exact hI z hz
   ·simp at hz;subst hz;exact hb
 ·rintro e s ⟨hI,rfl,rfl⟩;have hklt:((d.arrays.length:Int)<(d.arrays.length:Int))=False:=by simp
  rw[Mv]at hI;simp only[vqM,vt89,zA,zB,ai,hklt,decide_false];have hq:d.arrays.all (arrB d)=Qy:=Mn.2 hI;rw[hq,K6]at hdef;refine bn az [2,3,132] [J,J,.box B.length 0,.box (B.length+1) 0,J,J,J,J,J,J,J,J,J,J,J,J,J,J,J,J,J,J,J,J,J,J,J,J,J,J,J,J,J,J,J,J,J,J,J,J,J,J,J,J,J,J,J,J,J,J,J,J,J,J,J,J,J,J,J,J,J,J,J,J,J,J,J,J,J,J,J,J,J,J,J,J,J,J,J,J,J,J,J,J,J,J,J,J,J,J,J,J,J,J,J,J,J,J,J,J,J,J,J,J,J,J,J,J,J,J,J,J,J,J,J,J,J,J,J,J,J,J,J,J,J,J,J,J,J,J,J,J,.bool (GJ d x)] (λs=>s=⟨B++[.cells d.cells,.cells x.cells],L,c⟩) ?_ ?_
  ·simp only[vqM,vt89,zA];repeat' (first
    |((with_reducible refine aI ?_);refine aa (HB ⟨d,x⟩ _ _) ?_;simp only[vqM])
    |((with_reducible refine aI ?_);refine aa (xj _ hN _) ?_;simp only[vqM])
    |((with_reducible refine aI ?_);refine aa (pH _ _) ?_;simp only[vqM])
    |(with_reducible refine ak (λhc=>?_) (λhc=>?_)<;>simp only[vqM,vt89,hc])
    |((with_reducible refine cU ?_);refine aE ⟨?_,rfl⟩<;>simp only[vke,zB,zA]<;>(first|(simp only[GJ, *,Mr,Mi];done)|(simp_all[GJ];done)|(simp_all[GJ];omega))))
  rintro s rfl;simp only[vqM];refine ak (λhc=>?_) (λhc=>?_)
  ·simp only[vqM,zB];refine QR ?_ (.int _ _);simp only[vqM];rw[hdef,hc];rfl
  ·simp only[vqM,zB];refine QR ?_ (.int _ _);simp only[vqM];rw[hdef,hc];rfl
theorem x9(p:Pg)(id:Int):Bd 0 0 (gK p id):=aK λx hx=>by
 rcases Mz.1 hx with hx|hx
 ·exact Hd.bd _ x hx
 ·simp at hx;subst hx;exact .bool _
theorem Fw{p:Pg}{id:Int}{k:Nat}(hk:k<p.heads.length)(hc:decide (p.heads[k].id=id)=Qy)(hI:∀j(h:j<p.heads.length),j<k→decide (p.heads[j].id=id)=Qw):headS p id=Qv p.heads[k]:=by
 rw[headS,List.find?_eq_some_iff_getElem];refine⟨hc,k,hk,rfl,λj hj=>?_⟩;have:=hI j (by omega) hj
 simpa using this
theorem Fv{p:Pg}{id:Int}(hI:∀j(h:j<p.heads.length),j<p.heads.length→decide (p.heads[j].id=id)=Qw):headS p id=Qx:=by
 rw[headS,List.find?_eq_none];intro x hx;obtain⟨j,hj,rfl⟩:=List.getElem_of_mem hx;have:=hI j hj hj
 simpa using this
theorem jO(p:Pg)(id:Int)(s:St):ay Qz 22 [.agg p.cells,.int .i64 id] s (gK p id) s:=by
 refine ay.small λhsm=>?_;have hlen:(aN p.heads).length≤281474976710656:=(hsm _ (.head _)).sl (o:=.none) (by cases p;simp[Pg.cells]);rw[aB]at hlen;clear hsm;obtain⟨B,L,c⟩:=s;have hzc:∀d:Hd,∀b,O2 6 (d.cells++[D.bool b])=d.cells++[D.bool b]:=λd b=>rfl;refine ay.introN [] func22 rfl (by decide) az (by kernel_rfl) [QP 4 64] 28 rfl rfl ?_;simp only[vqM,DY,zA,zS];refine ae [1,2,4,5] ?_;simp only[vke,zB,zA];refine aC az p.heads.length (λk e s=>e=[J,.int .i64 id,.box B.length 0,J,.box (B.length+1) 0,.int .i64 (k:Int),J,J,J,J,J,J,J,J,J,J,J,J,J,J,J,J,J,J,J,J,J,J]∧s=⟨B++[.cells p.cells,.cells (Hd.zc++[.bool Qw])],L,c⟩∧∀j(h:j<p.heads.length),j<k→decide (p.heads[j].id=id)=Qw) ?_ ?_ 0 _ _ (K9 _) ⟨rfl,rfl,by intro j _ h;omega⟩
 ·rintro k e s hk ⟨rfl,rfl,hI⟩ ih;have hx:p.heads[k]?=Qv p.heads[k]:=C0 hk;have hg:(aN p.heads)[k]?=Qv (p.heads[k].cells):=by simp[aN,hx]
  have hklt:((k:Int)<(p.heads.length:Int))=True:=by simp;exact hk
  simp only[vqM,DY,zA,aB,Hd.zc,hklt,decide_true,natle0,K3,hg];refine ak (λhc=>?_) (λhc=>?_)
  ·simp only[vqM,DY,zA,zL,natle0,K3,hg];have hf:headS p id=Qv p.heads[k]:=Fw hk hc hI;refine QR ?_ (x9 p id);simp only[vqM,DY,zA,gK,hf,hzc,Option.getD_some,Option.isSome_some]
  ·simp only[vqM];rw[ap (by omega)];refine ae [1,2,4,5] ?_;simp only[vke,zB,zA];refine ih _ _ ⟨rfl,rfl,λj hj hjk=>?_⟩;by_cases e:j=k
   ·subst e;exact hc
   ·exact hI j hj (by omega)
 ·rintro e s ⟨rfl,rfl,hI⟩;have hklt:((p.heads.length:Int)<(p.heads.length:Int))=False:=by simp
  simp only[vqM,DY,zA,aB,Hd.zc,hklt,decide_false];have hf:headS p id=Qx:=Fv hI;refine QR ?_ (x9 p id);simp only[vqM,DY,zA,gK,hf,Option.getD_none,Option.isSome_none];rfl
def iK(p:Pg)(k:Nat)(h:Hd):Bool:=!inB h.id 1 1073741824 ||((decide (0<(k:Int))&&decide (h.id≤bV p.heads k)) ||(!inB h.firm 0 (w64 (p.d.firms-1)) ||(!inB h.part 0 (w64 (p.d.parts-1)) ||(!bA h.params 12 aQ || !bA h.given 4 aQ))))
theorem uq{p:Pg}:∀{k:Nat},k≤p.heads.length→(∀j<k,eN p j=Qw)→0≤bV p.heads k∧bV p.heads k≤1073741824
 |0,_,_=>by simp[bV]
 |k+1,hk,h=>by
  have ih:=uq (k:=k) (by omega) λj hj=>h j (by omega);have hx:p.heads[k]?=Qv p.heads[k]:=C0 (by omega);have h1:=h k (by omega);simp only[eN,hx,gQ,NO,Mh,inB,decide_eq_true_eq]at h1;rw[bG (n:=bV p.heads k+1) (by omega)]at h1;simp only[bV,hx];omega
theorem Ad{p:Pg}{k:Nat}{h:Hd}(hk:p.heads[k]?=Qv h)(hI:∀j<k,eN p j=Qw):eN p k=iK p k h:=by
 have hb:=uq (k:=k) (by have:=(List.getElem?_eq_some_iff.1 hk).1;omega) hI;simp only[eN,hk,gQ,iK];rw[bG (n:=bV p.heads k+1) (by omega)];have h1:inB h.id (bV p.heads k+1) 1073741824=(inB h.id 1 1073741824 && !(decide (0<(k:Int))&&decide (h.id≤bV p.heads k))):=by
  rw[Nv];simp only[inB,Mh,decide_eq_true_eq,MU,Bool.and_eq_false_iff,decide_eq_false_iff_not];cases k with
  |zero=>simp only[bV]at hb⊢;omega
  |succ k=>omega
 rw[h1];simp only[Bool.not_and,O1,Bool.or_assoc,Pm]
theorem Et(p:Pg)(s:St):ay Qz 96 [.agg p.cells] s (.bool (f7 p)) s:=by
 refine ay.small λhsm=>?_;have hlen:(aN p.heads).length≤281474976710656:=(hsm _ (.head _)).sl (o:=.none) (by cases p;simp[Pg.cells]);rw[aB]at hlen;clear hsm;obtain⟨B,L,c⟩:=s;refine ay.introN [(5,.cut)] func96 rfl (by decide) az (by kernel_rfl) [QO 2] 73 rfl rfl ?_;simp only[vqM,zA,zS,zB];refine ae [1,3] ?_;simp only[vke,zB,zA];refine aC az p.heads.length (λk e s=>(∀j<k,eN p j=Qw)∧e=[J,.box B.length 0,J,.int .i64 (k:Int),J,J,J,J,J,J,J,J,J,J,J,J,J,J,J,J,J,J,J,J,J,J,J,J,J,J,J,J,J,J,J,J,J,J,J,J,J,J,J,J,J,J,J,J,J,J,J,J,J,J,J,J,J,J,J,J,J,J,J,J,J,J,J,J,J,J,J,J,J]∧∃X,s=⟨B++.cells p.cells::X,L,c⟩) ?_ ?_ 0 _ _ (K9 _) ⟨by intro j h;omega,rfl,[],rfl⟩
 ·rintro k e s hk ⟨hI,rfl,X,rfl⟩ ihl;have hx:p.heads[k]?=Qv p.heads[k]:=C0 hk;have hg:(aN p.heads)[k]?=Qv (p.heads[k].cells):=by simp[aN,hx]
  have hq:=Ad hx hI;have hklt:((k:Int)<(p.heads.length:Int))=True:=by simp;exact hk
  generalize p.heads[k]=h at hx hg hq;simp only[vqM,vt91,zA,zB,aB,hklt,decide_true,natle0,K3,hg];refine bn az [1,3,68] [J,.box B.length 0,J,.int .i64 (k:Int),J,J,J,J,J,J,J,J,J,J,J,J,J,J,J,J,J,J,J,J,J,J,J,J,J,J,J,J,J,J,J,J,J,J,J,J,J,J,J,J,J,J,J,J,J,J,J,J,J,J,J,J,J,J,J,J,J,J,J,J,J,J,J,J,.bool (iK p k h),J,J,J,J] (λs=>s=⟨B++.cells p.cells::(X++[.cells h.cells]),L,c⟩) ?_ ?_
  ·rcases k with _|j
   ·have h00:((0:Int)<0)=False:=by simp
    simp only[vqM,vt91,zA];repeat' (first
     |((with_reducible refine aI ?_);refine aa (fA _ _ _ _) ?_;simp only[vqM])
     |((with_reducible refine aI ?_);refine aa (lC _ _ _) ?_;simp only[vqM])
     |(with_reducible refine ak (λhc=>?_) (λhc=>?_)<;>simp only[vqM,vt91,hc,zA,aR,h00,decide_false])
     |((with_reducible refine cU ?_);refine aE ⟨?_,rfl⟩<;>simp only[vke,zB,zA]<;>(first|(simp only[iK, *,Mr,Mi,Ms];done)|(simp_all[iK];done)|(simp_all[iK];omega))))
   ·have hxj:p.heads[j]?=Qv (p.heads[j]'(by omega)):=C0 (by omega);have hgj:(aN p.heads)[j]?=Qv ((p.heads[j]'(by omega)).cells):=by simp[aN,hxj]
    have hlj:bV p.heads (j+1)=(p.heads[j]'(by omega)).id:=by simp only[bV,hxj]
    have hwj:QQ.wrap (((j+1:Nat):Int)-1)=(j:Int):=by rw[aG (by omega)];omega
    generalize p.heads[j]'(by omega)=h0 at hxj hgj hlj;simp only[vqM,vt91,zA];repeat' (first
     |((with_reducible refine aI ?_);refine aa (fA _ _ _ _) ?_;simp only[vqM])
     |((with_reducible refine aI ?_);refine aa (lC _ _ _) ?_;simp only[vqM])
     |(with_reducible refine ak (λhc=>?_) (λhc=>?_)<;>simp only[vqM,vt91,hc,zA,natle0,K3,hwj,hgj,aR])
     |((with_reducible refine cU ?_);refine aE ⟨?_,rfl⟩<;>simp only[vke,zB,zA]<;>(first|(simp only[iK, *,Me,Mu,Mq,Mr,Mi,Ms];done)|(simp_all[iK,hlj];done)|(simp_all[iK,hlj];omega))))
  rintro s rfl;simp only[vqM];refine ak (λhc=>?_) (λhc=>?_)
  ·simp only[vqM,zB];refine QR ?_ (.bool _);simp only[vqM];have:(MF p.heads.length).any (eN p)=Qy:=List.any_eq_true.2 ⟨k,MP.2 hk,by rw[hq,hc]⟩
   rw[f7,this];simp
  ·simp only[vqM];rw[ap (by omega)];refine ae [1,3] ?_;simp only[vke,zB,zA];refine ihl _ _ ⟨λj hj=>?_,rfl,_,rfl⟩;by_cases e:j=k
   ·subst e;rw[hq,hc]
   ·exact hI j (by omega)
 ·rintro e s ⟨hI,rfl,X,rfl⟩;have hklt:((p.heads.length:Int)<(p.heads.length:Int))=False:=by simp
  have:(MF p.heads.length).any (eN p)=Qw:=List.any_eq_false.2 λj hj=>by simpa using hI j (MP.1 hj)
  simp only[vqM,vt91,zA,zB,aB,hklt,decide_false];refine QR ?_ (.bool _);simp only[vqM];rw[f7,this];simp
theorem xh(p:Pg)(d:Df)(hN:cq d.body<1000000)(s:St):ay Qz 99 [.agg p.cells,.agg d.cells] s (.bool ((smsL d.body).all (eu p))) s:=by
 obtain⟨B,L,c⟩:=s;have hll:=dg d.body;refine ay.introN [(5,.text [Qw,Qw,Qw,Qw,Qw,Qw,Qw,Qy,Qy] [(0,1),(5,1),(6,1)]),(6,.cut)] func99 rfl (by decide) az (by kernel_rfl) [QO 4] 61 rfl rfl ?_;simp only[vqM,vt92,zA,zS,zB];refine aa (sY d.body _ (by omega)) ?_;simp only[vqM,zB];refine ae [2,3,5,6] ?_;simp only[vke,zB,zA];refine aC az (smsL d.body).length (λk e s=>(∀z∈(smsL d.body).take k,eu p z=Qy)∧e=[J,J,.box B.length 0,.box (B.length+1) 0,J,.slice .none (Sm.encs (smsL d.body)),.int .i64 (k:Int),J,J,J,J,J,J,J,J,J,J,J,J,J,J,J,J,J,J,J,J,J,J,J,J,J,J,J,J,J,J,J,J,J,J,J,J,J,J,J,J,J,J,J,J,J,J,J,J,J,J,J,J,J,J]∧∃X,s=⟨B++.cells p.cells::.cells d.cells::X,L,c⟩) ?_ ?_ 0 _ _ (K9 _) ⟨λz h=>by simp at h,rfl,[],rfl⟩
 ·rintro k e s hk ⟨hI,rfl,X,rfl⟩ ihl;have hx:(smsL d.body)[k]?=Qv (smsL d.body)[k]:=C0 hk;have hg:(Sm.encs (smsL d.body))[k]?=Qv ((smsL d.body)[k].cells):=by simp[Sm.encs_map,hx]
  have hklt:((k:Int)<((smsL d.body).length:Int))=True:=by simp;exact hk
  have hxm:(smsL d.body)[k]∈(smsL d.body):=Mf hk;generalize(smsL d.body)[k]=x at hx hg hxm;simp only[vqM,vt92,zB,au,hklt,decide_true,natle0,K3,hg];refine aa (jO p x.m _) ?_;simp only[vqM,vt92,zA,gK];refine aA (aa (jO p x.m _) ?_) ?_
  ·simp only[vqM,gK]
  simp only[vqM,zB];have hcb:(!eu p x)=(decide (x.op=13)&&(!(headS p x.m).isSome ||(decide (((hdG p x.m).params.length:Int)≠x.args.length) ||decide (((hdG p x.m).given.length:Int)≠x.ptrs.length)))):=by
   simp only[eu,l3,Pm,O1,Bool.or_assoc,decide_not,Bool.not_and]
  rw[hdG]at hcb;generalize(headS p x.m).isSome=fd at hcb⊢;generalize(headS p x.m).getD Hd.zero=h at hcb⊢;obtain⟨h1,h2,h3,h4,h5⟩:=h;simp only[Hd.cells,Mw,MA]at hcb⊢;refine bn az [2,3,5,6,60] [J,J,.box B.length 0,.box (B.length+1) 0,J,.slice .none (Sm.encs (smsL d.body)),.int .i64 (k:Int),J,J,J,J,J,J,J,J,J,J,J,J,J,J,J,J,J,J,J,J,J,J,J,J,J,J,J,J,J,J,J,J,J,J,J,J,J,J,J,J,J,J,J,J,J,J,J,J,J,J,J,J,J,.bool (!eu p x)] (λs=>s=⟨B++.cells p.cells::.cells d.cells::(X++[.cells [.int .i64 h1,.int .i64 h2,.int .i64 h3,.slice .none (aM h4),.slice .none (aM h5),.bool fd]]),L,c⟩) ?_ ?_
  ·rw[hcb];simp only[vqM,vt92,zB,natle0,K3,hg];repeat' (first
    |(with_reducible refine ak (λhc=>?_) (λhc=>?_)<;>simp only[vqM,vt92,hc,zA,natle0,K3,hg,ao,af,ab])
    |((with_reducible refine cU ?_);refine aE ⟨?_,rfl⟩<;>simp only[vke,zB,zA]<;>(first|(simp only[*,K6,Me,Mu];done)|(simp_all[];done)|(simp_all[];omega))))
  rintro s rfl;simp only[vqM];refine ak (λhc=>?_) (λhc=>?_)
  ·have hb:eu p x=Qw:=by simpa using hc
   simp only[vqM,zB];refine QR ?_ (.bool _);simp only[vqM];have:(smsL d.body).all (eu p)=Qw:=No.2 ⟨x,hxm,by simp[hb]⟩
   rw[this]
  ·have hb:eu p x=Qy:=by simpa using hc
   simp only[vqM];rw[ap (by omega)];refine ae [2,3,5,6] ?_;simp only[vke,zB,zA];refine ihl _ _ ⟨λz hz=>?_,rfl,_,rfl⟩;rw[Mt,hx]at hz;rcases Mz.1 hz with hz|hz
   ·exact hI z hz
   ·simp at hz;subst hz;exact hb
 ·rintro e s ⟨hI,rfl,X,rfl⟩;have hklt:(((smsL d.body).length:Int)<((smsL d.body).length:Int))=False:=by simp
  rw[Mv]at hI;simp only[vqM,vt92,zB,au,hklt,decide_false];refine QR ?_ (.bool _);simp only[vqM];rw[Mn.2 hI]
end Go.V
