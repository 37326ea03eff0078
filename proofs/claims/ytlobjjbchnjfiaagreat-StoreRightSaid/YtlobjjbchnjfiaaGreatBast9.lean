/-
  The value-level logic and its contracts, part 9 (texts W12, M5, M6, W13, W14, W15, W16, M7, W17, W20, Q6, W21, W23, W24, W26, W25).
-/
import Derived.Test.YtlobjjbchnjfiaaGreatBast8
import Derived.Test.YtlobjjbchnjfiaaGreatBast6
import Derived.Test.YtlobjjbchnjfiaaGreatBast4
import Derived.Test.YtlobjjbchnjfiaaGreatBast3
import Derived.Test.YtlobjjbchnjfiaaGreatBast5
import Derived.Shelf.Slices.In.SortNone
import Derived.Test.YtlobjjbchnjfiaaGreatBast7
open List renaming nil_append→Oe,all_eq_true→N0,all_eq_false→O4,mem_filter→OW,mem_append→Od,mem_map→Og,append_assoc→K9,cons_append→Ob,length_append→K5,length_cons→K7,length_nil→L4,take_succ_cons→P0,take_zero→Ql,take_nil→QX,range→Ol,mem_range→Ow,perm_ext_iff_of_nodup→Qw,nodup_range→QG,getD→Pi,getElem?_eq_getElem→K4,replicate→Oi,length_map→OH,foldl_append→Pq,getElem?_eq_some_iff→M5,drop_eq_getElem_cons→Oo,map_cons→OJ,set_append_right→O3,drop_length→PQ,take→Qc,drop→Qd,getElem?_set_self→Om,mem_singleton→OE,drop_zero→Pz,take_of_length_le→N1,length_filter_le→OV,filter_append→PL,take_append_drop→OC,take_add_one→N4,getElem_mem→NY,map_take→Qg,length_set→PU,getElem?_set_ne→Oj,mem_cons→NX,not_mem_nil→Ot,getD_cons_zero→N8,getD_cons_succ→N7,contains_cons→N9,contains_nil→Of,append_nil→Oq,flatMap_append→PM,any_eq_true→PH,set_append_left→PX,getElem?_append_left→Ou,getElem_of_mem→Oa,length_take→OD,mem_of_mem_take→Px,set_cons_succ→Ph,set_cons_zero→Qk,mergeSort_perm→Qp,length_singleton→OA,flatMap_cons→PS,getElem?_cons_succ→OK,take_length→N6,getElem?_cons_zero→PT,map_append→O2,foldl_cons→Pp,pairwise_cons→Pf,filter_eq_self→P3,takeWhile_cons→PN,filter_cons→Pm,Pairwise→RX,getElem_take→PJ,mem_iff_getElem→QA,getElem_map→OL,any_eq_false→OX
open Nat renaming le_refl→K6,zero_le→L7,zero_add→OF,mul_one→PO,add_mul→PK,mul_le_mul→Qr,le_trans→P4
open Bool renaming and_eq_true→M1,and_eq_false_iff→Qv,eq_iff_iff→O9,false_and→M7,or_false→M4,or_true→NW,true_or→M6,false_or→L5,not_eq_true'→Oy,true_and→K8,and_false→N2,not_true→N3,not_false→NZ,and_true→N5,false_eq_true→On
open Option renaming isSome_iff_exists→PB,isSome_eq_false_iff→Rw,isNone_iff_eq_none→RA,map_eq_some_iff→Ox,isSome_none→PV,isSome_some→OQ,getD_some→OB,toList_some→Ov,bind_some→OY
open Int renaming toNat_natCast→K3,le_refl→Pw
open Nat renaming reduceAdd → zA, reduceSub → zS, reduceMul → zM, reduceLeDiff → zL, reduceEqDiff → zE, reduceBEq → zB
open Go.V.D renaming junk → J
set_option linter.all false
set_option linter.unusedSimpArgs false
set_option linter.unusedVariables false
set_option linter.unnecessarySimpa false
set_option maxHeartbeats 4000000
open Option renaming some→Sd
open Bool renaming false→Se
open Option renaming none→Sf
open Bool renaming true→Sh
open Go.Proofs.Tryz renaming prog→Si
open Go.ResultVar renaming tmp→Sy,cell→Sz
open Go.IntKind renaming i64→SA
namespace Go.V
open Go.Proofs Go.Proofs.Tryz
set_option maxRecDepth 20000
set_option maxHeartbeats 4000000
def fn1:D:=.func (.func 154) [] []
def fn2:D:=.func (.func 155) [] []
def fn3:D:=.func (.func 156) [] []
def fn4:D:=.func (.func 157) [] []
def mP:List (D×D):=[(.int .i64 1,fn1),(.int .i64 2,fn2),(.int .i64 3,fn3),(.int .i64 4,fn4)]
theorem EK:∀(i:Nat)(hi:i<mP.length),Bd 0 0 mP[i].1∧Bd 0 0 mP[i].2:=λi hi=>by
 have hf:∀k,Bd 0 0 (.func (.func k) [] []):=λk=>.func _ _ _ (λi hi=>by simp at hi) (λi hi=>by simp at hi);have:i=0∨i=1∨i=2∨i=3:=by simp[mP]at hi;omega
 rcases this with rfl|rfl|rfl|rfl<;>exact⟨.int _ _,hf _⟩
theorem Jc(B:List Box)(L:List Nat)(c:Nat):az Si 106 [] ⟨B,L,c⟩ (.map B.length) ⟨B++[.map mP],L,c⟩:=by
 refine az.introN [] func106 rfl (by decide) aA (by kernel_rfl) [Sy 0] 3 rfl rfl ?_;simp only[vqM,tf3,Fb,Fa,zA,zS,mapPut,bw,Int.reduceEq];refine Cu (X:=[]) (.inr rfl) ?_ EK (λ_ h=>h) (K6 _);simp only[vqM]
def uV(r:Option Pg):D:=.tup [.agg (r.getD Pg.zero).cells,.int .i64 (if r.isSome then 0 else 220)]
theorem pg(r:Option Pg):Bd 0 0 (uV r):=.tup _ λi hi=>by
 match i,hi with
 |0,_=>exact aL (Pg.bd _)
 |1,_=>exact .int _ _
structure ApH (p:Pg) (e:Ed):Prop where
 pr:programS p=0
 nm:∀d∈p.defs,d.name.size≤1000
 ct:∀d∈p.defs,cu d.body≤10000
 ca:∀d∈p.defs,(rawC (flatL 1 d.body)).length≤12
 en:e.name.size≤1000
 dn:∀d∈e.defs,d.name.size≤1000
 dc:∀d∈e.defs,cu d.body≤10000
 da:∀d∈e.defs,(rawC (flatL 1 d.body)).length≤12
 el:e.defs.length≤50
 dl:e.drop.length≤1000
 fl:e.frm.length≤1000
 hl:∀l,editedS p e=Sd l→(kS p l).length≤12
theorem ApH.ids{p:Pg}{e:Ed}(H:ApH p e):nv p.defs:=by
 have R:=Gd.of H.pr;exact⟨R.df,λd hd=>by have:=tJ (R.defOk hd);omega,by have:=R.dl;omega⟩
theorem ApH.fit{p:Pg}{e:Ed}(H:ApH p e):FitH p e:=by
 have R:=Gd.of H.pr;exact⟨H.ids,by have:=R.dl;omega,H.el,λd hd=>⟨by have:=H.dn d hd;omega,by rw[bQ];have:=H.dc d hd;omega⟩,by have:=H.dl;omega,by have:=H.fl;omega,λd hd=>by rw[bQ];have:=H.ct d hd;omega⟩
def lw(p:Pg)(e:Ed):Pg:=if e.op=1 then afterD p e else if e.op=2 then {p with defs:=movedL p.defs (nameD p e)}else if e.op=3 then {p with defs:=movedL p.defs (partD p e)}else {p with threads:=e.drop}
def doneB(p:Pg)(e:Ed):Bool:=if e.op=1 then fitsC p e else if e.op=2 then(findS p e.a).isSome else if e.op=3 then(findS p e.a).isSome else decide (e.op=4)
def doF(e:Ed):Option D:=if e.op=1 then Sd fn1 else if e.op=2 then Sd fn2 else if e.op=3 then Sd fn3 else if e.op=4 then Sd fn4 else Sf
theorem AW(e:Ed):Option.map (λr=>jT r .nilf Sh) (bw .i64 e.op mP 0)=Sd (.tup [(doF e).getD .nilf,.bool (doF e).isSome]):=by
 simp only[mP,bw,if_true,doF];by_cases h1:e.op=1
 ·rw[if_pos h1,if_pos h1];rfl
 rw[if_neg h1,if_neg h1];by_cases h2:e.op=2
 ·rw[if_pos h2,if_pos h2];rfl
 rw[if_neg h2,if_neg h2];by_cases h3:e.op=3
 ·rw[if_pos h3,if_pos h3];rfl
 rw[if_neg h3,if_neg h3];by_cases h4:e.op=4
 ·rw[if_pos h4,if_pos h4];rfl
 rw[if_neg h4,if_neg h4];rfl
theorem t_do(p:Pg)(e:Ed)(H:ApH p e){f:D}(hf:doF e=Sd f)(B T:List Box)(L:List Nat)(c:Nat) :
  dh Si f [.box B.length 0,.agg e.cells] ⟨B++.cells p.cells::T,L,c⟩ (.bool (doneB p e)) ⟨B++.cells (lw p e).cells::T,L,c⟩:=by
 simp only[doF]at hf;by_cases h1:e.op=1
 ·rw[if_pos h1]at hf;cases hf;rw[doneB,lw,if_pos h1,if_pos h1];exact Jd p e H.fit B T L c
 rw[if_neg h1]at hf;by_cases h2:e.op=2
 ·rw[if_pos h2]at hf;cases hf;rw[doneB,lw,if_neg h1,if_neg h1,if_pos h2,if_pos h2];exact I2 p H.ids e B T L c
 rw[if_neg h2]at hf;by_cases h3:e.op=3
 ·rw[if_pos h3]at hf;cases hf;rw[doneB,lw,if_neg h1,if_neg h1,if_neg h2,if_neg h2,if_pos h3,if_pos h3];exact IZ p H.ids e B T L c
 rw[if_neg h3]at hf;by_cases h4:e.op=4
 ·rw[if_pos h4]at hf;cases hf;rw[doneB,lw,if_neg h1,if_neg h1,if_neg h2,if_neg h2,if_neg h3,if_neg h3,h4];exact Dg p e B T L c
 rw[if_neg h4]at hf;cases hf
theorem yu{p:Pg}{e:Ed}(h:fitsC p e=Sh):afterD p e={p with defs:=nextD p e}:=by rw[afterD,if_pos h]
theorem CL{p:Pg}{e:Ed}(h:fitsC p e=Sh):fitsB p e=Sh∧∀d∈e.defs,defB d p.d=Sh:=by
 simp only[fitsC,tH,okD,M1,N0]at h;obtain⟨⟨h1,h2⟩,h3,h4⟩:=h;simp only[fitsB,lx,M1,N0];exact⟨⟨h4,h3,h1,λd hd=>(h2 d hd).1⟩,λd hd=>(h2 d hd).2⟩
theorem EM{p:Pg}{e:Ed}(h:doneB p e=Sh):∃l,editedS p e=Sd l∧lw p e={p with defs:=l,threads:=if e.op=4 then e.drop else p.threads}:=by
 rw[doneB]at h;rw[editedS,lw];by_cases h1:e.op=1
 ·rw[if_pos h1]at h;rw[if_pos h1,if_pos h1,if_pos (CL h).1,yu h,h1];exact⟨_,rfl,rfl⟩
 rw[if_neg h1]at h;rw[if_neg h1,if_neg h1];by_cases h2:e.op=2
 ·rw[if_pos h2]at h;obtain⟨d,hd⟩:=PB.1 h;rw[if_pos h2,if_pos h2,hd,h2,nameD,hd];exact⟨_,rfl,rfl⟩
 rw[if_neg h2]at h;rw[if_neg h2,if_neg h2];by_cases h3:e.op=3
 ·rw[if_pos h3]at h;obtain⟨d,hd⟩:=PB.1 h;rw[if_pos h3,if_pos h3,hd,h3,partD,hd];exact⟨_,rfl,rfl⟩
 rw[if_neg h3]at h;rw[if_neg h3,if_neg h3];have h4:=of_decide_eq_true h;rw[if_pos h4,if_pos h4];exact⟨_,rfl,rfl⟩
theorem Bm{p:Pg}{e:Ed}(hp:programS p=0)(h:doneB p e=Se):applyS p e=Sf:=by
 rw[doneB]at h;by_cases h1:e.op=1
 ·rw[if_pos h1]at h;by_cases hb:e.defs.all (λd=>defB d p.d)=Sh
  ·have:fitsB p e=Se:=by
    simp only[fitsC,tH,okD,Qv,O4]at h;simp only[fitsB,lx,Qv,O4];rcases h with (h|⟨d,hd,h⟩)|h|h
    ·exact .inr (.inr (.inl h))
    ·refine .inr (.inr (.inr ⟨d,hd,?_⟩));have:=N0.1 hb d hd
     simpa[this]using h
    ·exact .inr (.inl h)
    ·exact .inl h
   rw[applyS,editedS,if_pos h1,this];rfl
  ·rw[N0]at hb;simp only[Classical.not_forall]at hb;obtain⟨d,hd,hb⟩:=hb;exact we hp h1 hd (by simpa using hb)
 rw[if_neg h1]at h;rw[applyS,editedS,if_neg h1];by_cases h2:e.op=2
 ·rw[if_pos h2]at h;rw[if_pos h2,Rw.1 h |> RA.1];rfl
 rw[if_neg h2]at h;rw[if_neg h2];by_cases h3:e.op=3
 ·rw[if_pos h3]at h;rw[if_pos h3,Rw.1 h |> RA.1];rfl
 rw[if_neg h3]at h;rw[if_neg h3,if_neg (of_decide_eq_false h)]
theorem Hc{p:Pg}{e:Ed}(h:doF e=Sf):applyS p e=Sf:=by
 rw[doF]at h;split at h
 ·cases h
 split at h
 ·cases h
 split at h
 ·cases h
 split at h
 ·cases h
 rename_i h1 h2 h3 h4;rw[applyS,editedS,if_neg h1,if_neg h2,if_neg h3,if_neg h4]
theorem qU{p:Pg}(R:Gd p){e:Ed}{l:List Df}(h:editedS p e=Sd l):∀d∈l,d∈p.defs∨(d∈e.defs∧e.op=1)∨∃x∈p.defs,d.id=x.id∧d.body=x.body∧(d.name=x.name∨d.name=e.name):=by
 rw[editedS]at h;split at h
 ·rename_i ho;split at h
  ·cases h;intro d hd;rcases kB (R.df.filter _) hd with h1|h1
   ·exact .inl (OW.1 h1).1
   ·exact .inr (.inl ⟨h1,ho⟩)
  ·cases h
 split at h
 ·obtain⟨x,hx,rfl⟩:=Ox.1 h;obtain⟨h1,h2⟩:=cY hx;intro d hd;rcases(ea R.df).1 hd with rfl|⟨h3,_⟩
  ·exact .inr (.inr ⟨x,h1,rfl,rfl,.inr rfl⟩)
  ·exact .inl h3
 split at h
 ·obtain⟨x,hx,rfl⟩:=Ox.1 h;obtain⟨h1,h2⟩:=cY hx;intro d hd;rcases(ea R.df).1 hd with rfl|⟨h3,_⟩
  ·exact .inr (.inr ⟨x,h1,rfl,rfl,.inl rfl⟩)
  ·exact .inl h3
 split at h
 ·cases h;exactλd hd=>.inl hd
 ·cases h
theorem ApH.pgOk{p:Pg}{e:Ed}(H:ApH p e){l:List Df}(h:editedS p e=Sd l):PgOk (candS p e l):=by
 have R:=Gd.of H.pr;have key:∀d∈l,d.name.size≤1000∧cu d.body≤10000∧(rawC (flatL 1 d.body)).length≤12:=by
  intro d hd;rcases qU R h d hd with h1|⟨h1,_⟩|⟨x,h1,_,h2,h3⟩
  ·exact⟨H.nm d h1,H.ct d h1,H.ca d h1⟩
  ·exact⟨H.dn d h1,H.dc d h1,H.da d h1⟩
  ·rw[h2];refine⟨?_,H.ct x h1,H.ca x h1⟩;rcases h3 with h3|h3<;>rw[h3]
   ·exact H.nm x h1
   ·exact H.en
 exact⟨λd hd=>by have:=(key d hd).1;omega,λd hd=>by have:=(key d hd).2.1;rw[bQ];omega,λd hd=>(key d hd).2.2⟩
theorem ApH.good{p:Pg}{e:Ed}(H:ApH p e)(hB:doneB p e=Sh){l:List Df}(h:editedS p e=Sd l):∀x∈kS p l,ms x:=by
 have R:=Gd.of H.pr;have hd:∀{d:Df},d∈p.defs→ms (headOf d):=λhd=>by
  have:=tJ (R.defOk hd)
  exact⟨by show 0≤Df.id _;omega,this.2.1⟩
 intro x hx;rw[kS,Od]at hx;rcases hx with hx|hx
 ·have:=R.hf x (OW.1 hx).1
  simp only[dT,M1]at this;have:=mH.1 this.1.1.1.1
  exact⟨by omega,by omega⟩
 ·obtain⟨d,hd1,rfl⟩:=Og.1 hx;rcases qU R h d hd1 with h1|⟨h1,ho⟩|⟨x,h1,h2,_⟩
  ·exact hd h1
  ·rw[doneB,if_pos ho]at hB;have:=tJ ((CL hB).2 d h1)
   exact⟨by show 0≤d.id;omega,this.2.1⟩
  ·have:=hd h1
   exact⟨by show 0≤d.id;rw[h2];exact this.1,by show d.id≤_;rw[h2];exact this.2⟩
theorem Cf(p:Pg)(e:Ed)(H:ApH p e)(s:St):az Si 65 [.agg p.cells,.agg e.cells] s (uV (applyS p e)) s:=by
 obtain⟨B,L,c⟩:=s;have hlk:=AW e;have R:=Gd.of H.pr;refine az.introN [(1,.text [Sh,Se,Se,Se,Se,Se,Se,Se,Se] [(2,0)])] func65 rfl (by decide) aA (by kernel_rfl) [Sz 4 38,Sy 5] 47 rfl rfl ?_;simp only[vqM,kJ,zA,zS,zB];refine aa (Jc _ L c) ?_;simp only[vqM,kJ,zA,vsE];rw[hlk];simp only[vqM,kJ,zA,zB,vsE];cases hf:doF e with
 |none =>
  rw[Hc hf];simp only[vqM,kJ,zA,zB,PV];refine SB ?_ (pg _);simp only[vqM,kJ,zA];rfl
 |some f =>
  simp only[vqM,kJ,vsE,OQ,OB];have hdo:=t_do p e H hf (B++[.cells p.cells,.cells e.cells,.cells [.slice .nil [],.slice .nil [],.slice .nil [],.slice .nil [],.int .i64 0,.int .i64 0,.int .i64 0,.slice .nil [],.slice .nil [],.slice .nil []],.map mP]) [] L c;simp only[K9,Ob,Oe,K5,K7,L4,zA]at hdo;refine cX hdo ?_;cases hB:doneB p e with
  |false =>
   rw[Bm H.pr hB];simp only[vqM,kJ,zA,zB];refine SB ?_ (pg _);simp only[vqM,kJ,zA];rfl
  |true =>
   obtain⟨l,hl,hq⟩:=EM hB;simp only[vqM,kJ,zB];have hqd:(lw p e).defs=l:=by rw[hq]
   have hpg:=H.pgOk hl;have hll:l.length≤1000:=by
    have h1:=nj R hl;have h2:=R.dl;have h3:=H.el;split at h1<;>omega
   have hap:applyS p e=if programS (candS p e l)=0 then Sd (candS p e l)else Sf:=by rw[applyS,hl]
   have hcc:(candS p e l).cells=(lw p e).cells.set 7 (.slice .none (aO (headsN p l))):=by rw[hq];rfl
   have hc0:(lw p e).cells.length=10:=by simp[Pg.cells_len]
   refine aa (FW p (lw p e) R (by rw[hqd];exact iS R hl) (by have:=R.hl;omega) (by rw[hqd];exact hll) (by rw[hqd];exact H.hl l hl) (by rw[hqd];exact H.good hB hl) ?_) ?_
   ·rw[List.getElem?_append_right (by omega),Nat.add_sub_cancel_left];rfl
   rw[hqd];have hd8:(lw p e).cells.drop 8=[.slice .none (ax l),.slice .none (aj (candS p e l).threads)]:=by rw[hq];rfl
   have hcl:(lw p e).d.cells++[.slice .none (aO (headsN p l)),.slice .none (ax l),.slice .none (aj (candS p e l).threads)]=(candS p e l).cells:=by rw[hq];rfl
   simp only[vqM,kJ,zA,zL,zB,hd8,hcl];refine aa (p8 (candS p e l) hpg _) ?_;have hpc:programS (candS p e l)=0∨programS (candS p e l)≠0:=Classical.em _;rcases hpc with h0|h0
   ·have hd0:decide (programS (candS p e l)≠0)=Se:=by simp[h0]
    rw[hap,if_pos h0];simp only[vqM,kJ,zA,zB,hd0];refine SB ?_ (pg _);simp only[vqM,kJ];rfl
   ·have hd0:decide (programS (candS p e l)≠0)=Sh:=by simp[h0]
    rw[hap,if_neg h0];simp only[vqM,kJ,zA,zB,hd0];refine SB ?_ (pg _);simp only[vqM,kJ,zA];rfl
structure Js (n:Nat) (js:List Nat):Prop where
 nd:js.Nodup
 lt:∀j∈js,j<n
theorem Js.le{n:Nat}{js:List Nat}(h:Js n js):js.length≤n:=by
 have:=h.nd.length_le_of_subset (l₂:=Ol n) λj hj=>Ow.2 (h.lt j hj)
 simpa using this
theorem Js.snoc{n j:Nat}{js:List Nat}(h:Js n js)(hj:j<n)(hn:j ∉ js):Js n (js++[j]) where
 nd:=List.nodup_append.2 ⟨h.nd,by simp,λa ha b hb e=>by simp at hb;subst hb;exact hn (e▸ha)⟩
 lt:=λi hi=>by
  rcases Od.1 hi with hi|hi
  ·exact h.lt i hi
  ·simp at hi;omega
theorem Js.all{n:Nat}{js:List Nat}(h:Js n js)(hl:js.length=n){j:Nat}(hj:j<n):j∈js:=by
 refine Classical.byContradiction λhn=>?_;have:=(h.snoc hj hn).le
 simp at this;omega
theorem Js.perm{n:Nat}{js:List Nat}(h:Js n js)(hl:js.length=n):js.Perm (Ol n):=
 (Qw h.nd QG).2 λj=>⟨λhj=>Ow.2 (h.lt j hj),λhj=>h.all hl (Ow.1 hj)⟩
def pickL(l:List Int)(js:List Nat):List Int:=js.map λj=>l.getD j 0
theorem ya(l:List Int):pickL l (Ol l.length)=l:=by
 refine List.ext_getElem (by simp[pickL]) λi h1 h2=>?_;simp[pickL,h2]
theorem AD{l:List Int}{js:List Nat}(h:Js l.length js)(hl:js.length=l.length):(pickL l js).Perm l:=by
 have:=(h.perm hl).map (λj=>l.getD j 0)
 rw[show(Ol l.length).map (λj=>l.getD j 0)=l from ya l]at this;exact this
def cj(l:List Nat)(js:List Nat):List Nat:=js.map λj=>l.getD j 0
theorem dQ{bs js:List Nat}(hnd:bs.Nodup)(hjs:∀j∈js,j<bs.length){j:Nat}(hj:j<bs.length):bs[j]∈cj bs js↔j∈js:=by
 simp only[cj,Og];constructor
 ·rintro⟨i,hi,e⟩;have hil:=hjs i hi;rw[show bs.getD i 0=bs[i] by simp[Pi,hil]]at e;rw[(List.getElem_inj hnd).1 e]at hi;exact hi
 ·intro h;exact⟨j,h,by simp[Pi,hj]⟩
theorem JF(l:List Ed)(hn:l.length≤100000){m n:Nat}{B:List Box}{L:List Nat}{c:Nat}(I:Nat→List Box→Prop)(h0:I l.length B)(hI:∀k C,I k C→C[m]?=Sd (.cells [.slice .none (aM l)]))
  (step:∀k x C,l[k]?=Sd x→I (k+1) C→YSemQ Si n [.int .i64 (k:Int),.agg x.cells] ⟨C,L,c⟩ λr s1=>r=.bool Sh∧∃C',I k C'∧s1=⟨C',L,c⟩) :
  aS Si 194 [.yield n,.box m 0] ⟨B,L,c⟩ λr s=>r=.tup []∧∃C,I 0 C∧s=⟨C,L,c⟩:=by
 have hm:=hI _ _ h0;refine aS.introA [] func194 rfl (by decide) aA (by kernel_rfl) [] 19 rfl rfl ?_;simp only[vqM,tf3,tf4,gW,dr,zA,zS,hm,af];rw[aK (by omega)];refine ae [0,1,3] ?_;simp only[vke,zB,zA];refine aE aA l.length (λk e s=>∃C,I (l.length-k) C∧e=[.yield n,.box m 0,J,.int .i64 ((l.length:Int)-1-(k:Int)),J,J,J,J,J,J,J,J,J,J,J,J,J,J,J]∧s=⟨C,L,c⟩) ?_ ?_ 0 _ _ (L7 _) ⟨B,h0,by simp,rfl⟩
 ·rintro k e s hk ⟨C,hC,rfl,rfl⟩ ih;have hm:=hI _ _ hC;have hlt:0≤(l.length:Int)-1-k:=by omega
  have hkl:l.length-(k+1)<l.length:=by omega
  have hx:l[l.length-(k+1)]?=Sd l[l.length-(k+1)]:=K4 hkl;have hg:(aM l)[l.length-(k+1)]?=Sd (l[l.length-(k+1)].cells):=by simp[aM,hx]
  have hst:=step (l.length-(k+1)) _ C hx (by rw[show l.length-(k+1)+1=l.length-k by omega];exact hC);have hi:((l.length:Int)-1-(k:Int))=((l.length-(k+1):Nat):Int):=by omega
  generalize l[l.length-(k+1)]=x at hx hg hst;rw[hi];simp only[vqM,tf3,tf4,gW,dr,hm,vsE,decide_true,natle0,K3,hg];refine qz (f:=.yield n) (show CallVQ _ (.yield n) _ _ _ from hst) ?_;rintro r s1 ⟨rfl,C2,hC2,rfl⟩;simp only[vqM];rw[aK (by omega)];refine ae [0,1,3] ?_;simp only[vke,zB,zA];refine ih _ _ ⟨C2,hC2,?_,rfl⟩;rw[show(((l.length-(k+1):Nat):Int)-1)=(l.length:Int)-1-((k+1:Nat):Int) by omega]
 ·rintro e s ⟨C,hC,rfl,rfl⟩;have hge:decide (((l.length:Int)-1-(l.length:Int))≥0)=Se:=by simp;omega
  simp only[vqM,hge];refine eK (.inl rfl) (r:=.tup []) ?_ ⟨rfl,C,by rw[Nat.sub_self]at hC;exact hC,rfl⟩;simp only[vqM];rfl
theorem Mz(l:List Ed)(B:List Box)(L:List Nat)(c:Nat):aS Si 136 [.slice .none (aM l)] ⟨B,L,c⟩ λr s =>
  r=.func (.func 194) [] [.box B.length 0]∧s=⟨B++[.cells [.slice .none (aM l)]],L,c⟩:=by
 refine aS.introA [] func136 rfl (by decide) aA (by kernel_rfl) [Sy 2] 4 rfl rfl ?_;simp only[vqM,zA,zS];refine eK (.inr rfl) (r:=.func (.func 194) [] [.box B.length 0]) ?_ ⟨rfl,rfl⟩;simp only[vqM]
theorem Ay{X:Draws}{f:Operand}{ps:List Tmp}{asg bo:Code}{Q:QC}{e:List D}{B:List Box}{L:List Nat}{n m:Nat}(l:List Ed)(hn:l.length≤100000)(I:Nat→List Box→Prop)
  (hf:val e f=.func (.func 194) [] [.box m 0]) (h0:I l.length B) (hI:∀k C,I k C→C.length=B.length∧C[m]?=Sd (.cells [.slice .none (aM l)]))
  (step:bH X asg=Sh→bH X bo=Sh→∀k x C Y,l[k]?=Sd x→I (k+1) C→YSemQ Si B.length [.int .i64 (k:Int),.agg x.cells] ⟨C++.loop ps asg bo e .ready Sf::Y,L,n⟩ λr s1=>r=.bool Sh∧∃C' Y',I k C'∧s1=⟨C'++.loop ps asg bo e .ready Sf::(Y++Y'),L,n⟩)
  (hend:∀C Y,I 0 C→@qI .normal e ⟨C++.dead::Y,L,n⟩ Q):@eZ X Sf Si (.rangeFunc f ps.toArray asg bo) e ⟨B,L,n⟩ Q:=by
 have key:bH X asg=Sh→bH X bo=Sh→aS Si 194 [.yield B.length,.box m 0] ⟨B++[.loop ps asg bo e .ready Sf],L,n⟩ λr s=>r=.tup []∧∃D,(∃C Y,I 0 C∧D=C++.loop ps asg bo e .ready Sf::Y)∧s=⟨D,L,n⟩:=by
  intro q1 q2;refine JF l hn (λk D=>∃C Y,I k C∧D=C++.loop ps asg bo e .ready Sf::Y) ⟨B,[],h0,rfl⟩ ?_ ?_
  ·rintro k D ⟨C,Y,hC,rfl⟩;exact bP (hI _ _ hC).2
  ·rintro k x D hx ⟨C,Y,hC,rfl⟩;refine CallVQ.mono (show CallVQ _ (.yield B.length) _ _ _ from step q1 q2 k x C Y hx hC) ?_;rintro r s1 ⟨rfl,C',Y',hC',rfl⟩;exact⟨rfl,_,⟨C',_,hC',rfl⟩,rfl⟩
 refine lF hf key ?_
 ·rintro r s1 ⟨rfl,D,⟨C,Y,hC,rfl⟩,rfl⟩;obtain⟨h1,h2⟩:=hI _ _ hC;refine⟨.ready,Sf,by rw[←h1,bL];rfl,by simp,?_⟩;show @qI .normal e ⟨(C++.loop ps asg bo e .ready Sf::Y).set B.length .dead,_,_⟩ Q;rw[←h1,ji];exact hend C Y hC
theorem qq{l:List Int}{n:Int}:∃r,bw .i64 n (mapB l) 0=Sd r∧mapPut .i64 n (.bool Sh) r (mapB l)=mapB (addS l n):=by
 by_cases h:n∈l
 ·obtain⟨r,h1,h2,h3⟩:=ql l 0 h;refine⟨Sd r,h1,?_⟩;rw[addS,if_pos (by simpa using h)];obtain⟨q,v⟩:=r;simp only[Nat.sub_zero]at h3;simp only[mapPut];rw[h3]
 ·exact⟨Sf,eu l 0 h,by rw[ja h,addS,if_neg (by simpa using h)]⟩
def cd(l:List Bool):List (List D):=l.map λb=>[.bool b]
theorem dy(l:List Bool):(cd l).length=l.length:=by simp[cd]
def rowF(l:List Ed)(k:Nat):List D:=Oi k (.bool Se)++(forceA (l.drop k) k).1.map .bool
def endK(l:List Ed)(k:Nat):List Int:=setS (forceA (l.drop k) k).2.reverse
theorem tt(l:List Ed)(i:Nat):(forceA l i).1.length=l.length:=by rw[mc,dV]
theorem oX{l:List Ed}{k:Nat}(h:k≤l.length):(rowF l k).length=l.length:=by
 rw[rowF,K5,List.length_replicate,OH,tt,List.length_drop];omega
theorem DO(m:List Int)(x:Int):setS (m++[x])=addS (setS m) x:=by rw[setS,Pq];rfl
theorem tr{l:List Ed}{k:Nat}{x:Ed}(h:l[k]?=Sd x):rowF l k=(rowF l (k+1)).set k (.bool (!(endK l (k+1)).contains (k:Int))) ∧
  endK l k=if !(endK l (k+1)).contains (k:Int)&&decide (x.op=5)then addS (endK l (k+1)) x.a else endK l (k+1):=by
 obtain⟨hk,rfl⟩:=M5.1 h;have hd:l.drop k=l[k]::l.drop (k+1):=Oo hk;have hc:(endK l (k+1)).contains (k:Int)=(forceA (l.drop (k+1)) (k+1)).2.contains (k:Int):=by
  rw[endK,gt,O9];simp
 constructor
 ·rw[rowF,hd,forceA,hc,rowF,List.replicate_succ'];simp only[OJ,K9];rw[O3 _ _ (by simp)];simp
 ·rw[hc,endK,hd,forceA];simp only;split
  ·rw[List.reverse_cons,DO];rfl
  ·rfl
theorem B9(l:List Ed)(hn:l.length≤100000)(s:St):az Si 82 [.slice .none (aM l)] s (.slice .none (cd (forceS l))) s:=by
 obtain⟨B,L,c⟩:=s;have hel:elemT Si 148=Sd (4,1,1,Se):=by kernel_rfl
 have hz:zeroT Si 4=Sd [.bool Se]:=by kernel_rfl
 refine aS.freeze (Z:=λr s=>r=.row B.length 0 l.length 1∧∃X,s=⟨B++.cells (rowF l 0)::X,L,c⟩) ?_ ?_ ?_
 ·refine aS.introA [] func82 rfl (by decide) aA (by kernel_rfl) [Sy 2] 35 rfl rfl ?_;simp only[vqM,gj,zA,zS,zL,af];refine aB ⟨by omega,by omega,by omega⟩ ?_;simp only[vqM,gj,zA];refine bj (Mz l _ L c) ?_;rintro r s ⟨rfl,rfl⟩;simp only[vqM,zA];refine ae [3,4,12] ?_;simp only[vke,zB,zA];refine Ay (m:=B.length+4) l hn (λk C=>k≤l.length∧C=B++[.cells (rowF l k),.cells [.row B.length 0 l.length 1],.map (mapB (endK l k)),.cells [.map (B.length+2)],.cells [.slice .none (aM l)]]) ?_ ⟨K6 _,?_⟩ ?_ ?_ ?_
  ·rfl
  ·rw[show endK l l.length=[] by rw[endK,PQ];rfl,show rowF l l.length=Oi l.length (.bool Se) by rw[rowF,PQ];simp[forceA]];simp[mapB]
  ·rintro k C ⟨_,rfl⟩;exact⟨by simp,by rw[bq];rfl⟩
  ·rintro q1 q2 k x C Y hx ⟨hk,rfl⟩;simp only[K9,Ob,Oe,K5,K7,L4];refine YSemQ.introA aA q1 q2 (pd:=Sf) (by rw[bq];rfl) (by rfl) λl1=>?_;clear q1 q2;obtain⟨h1,h2⟩:=tr hx;have h3:=oX hk;rw[h1,h2];generalize rowF l (k+1)=R1 at h3;generalize endK l (k+1)=K1;have hkn:k<l.length:=hk;simp only[vqM,gj,zA,vsE,putArgs];refine iK (pd1:=Sf) (by simp only[vqM,zA]) ?_;simp only[vqM,gj,zA,br];refine aB ⟨by omega,by omega⟩ ?_;simp only[vqM,gj,zA,K3,h3];refine aB (by omega) ?_;simp only[vqM,gj];refine aB ⟨by omega,by omega⟩ ?_;have hsr:∀v:D,Qc (0+k*1) R1++v::Qd (0+k*1+1) R1=R1.set k v:=λv=>by
    rw[OF,PO,List.set_eq_take_append_cons_drop,if_pos (by omega)]
   have hgr:∀v:D,(Qd (0+k*1) (R1.set k v))[0]?=Sd v:=λv=>by
    rw[OF,PO,List.getElem?_drop,Nat.add_zero,Om (by omega)]
   simp only[vqM,gj,zA,K3,hsr,hgr];obtain⟨fr,hfr,hpr⟩:=qq (l:=K1) (n:=x.a);generalize hck:K1.contains (k:Int)=ck;have h5:x.op=5∨x.op≠5:=Classical.em _;cases ck with
   |true =>
    simp only[vqM];refine cF (st:=.busy) (pd:=Sf) (by simp only[vqM]) ?_;refine⟨rfl,_,[.cells x.cells],⟨by omega,rfl⟩,?_⟩;simp only[vqM];rfl
   |false =>
    rcases h5 with h5|h5
    ·have h5':decide (x.op=5)=Sh:=by simp[h5]
     simp only[vqM,gj,zA,vsE,h5',hfr,hpr];refine cF (st:=.busy) (pd:=Sf) (by simp only[vqM]) ?_;refine⟨rfl,_,[.cells x.cells],⟨by omega,rfl⟩,?_⟩;simp only[vqM];all_goals rfl
    ·have h5':decide (x.op=5)=Se:=by simp[h5]
     simp only[vqM,gj,zA,vsE,h5'];refine cF (st:=.busy) (pd:=Sf) (by simp only[vqM]) ?_;refine⟨rfl,_,[.cells x.cells],⟨by omega,rfl⟩,?_⟩;simp only[vqM];all_goals rfl
  ·rintro C Y ⟨_,rfl⟩;simp only[K9,Ob,Oe];simp only[vqM,gj];refine eK (.inr rfl) (r:=.row B.length 0 l.length 1) ?_ ⟨rfl,_,rfl⟩;simp only[vqM]
 ·exact aV λx hx d hd=>by
   simp only[cd,Og]at hx;obtain⟨b,_,rfl⟩:=hx;simp only[OE]at hd;subst hd;exact .bool _
 ·rintro r s ⟨rfl,X,rfl⟩;refine⟨_,L,c,rfl,λ_ h=>h,K6 _,.inr ⟨B.length,0,_,1,_,rfl,by omega,bL,?_,?_,?_⟩⟩
  ·rw[Pz,N1 (by rw[oX (L7 _)];omega),rowF,Pz,List.replicate_zero,Oe,forceS,cd];induction (forceA l 0).1 with
   |nil=>rfl
   |cons b bs ih=>simp[ih]
  ·rw[dy,dU]
  ·intro x hx;simp only[cd,Og]at hx;obtain⟨b,_,rfl⟩:=hx;rfl
theorem ApH.of{n m:Nat}{p:Pg}{e:Ed}(h:PgN n m p)(he:EdN n e)(hn:n≤12)(hm:m+(if e.op=1 then e.defs.length else 0)≤12):ApH p e where
 pr:=h.pr
 nm:=λd hd=>(h.df d hd).nm
 ct:=λd hd=>by have:=(h.df d hd).ct;omega
 ca:=λd hd=>by have:=(h.df d hd).ca;omega
 en:=he.nm
 dn:=λd hd=>(he.df d hd).nm
 dc:=λd hd=>by have:=(he.df d hd).ct;omega
 da:=λd hd=>by have:=(he.df d hd).ca;omega
 el:=by have:=he.dl;omega
 dl:=by have:=he.rl;omega
 fl:=by have:=he.fl;omega
 hl:=λl hl=>by have:=wg (Gd.of h.pr) hl;have:=h.hl;omega
def Cr:Pg→List (Ed×Bool)→Pg×Bool
 |p,[]=>(p,Sh)
 |p,(e,f)::l=>if f&&decide (e.op≠5)then(match applyS p e with
  |some q=>Cr q l
  |none=>(p,Se))else Cr p l
theorem qf:∀(l:List (Ed×Bool))(p:Pg),iI p l=if (Cr p l).2 then Sd (Cr p l).1 else Sf
 | [],_=>rfl
 |(e,f)::l,p=>by
  rw[iI,Cr];split
  ·cases applyS p e with
   |none=>rfl
   |some q=>exact qf l q
  ·exact qf l p
def afterQ(p:Pg)(l:List Ed):Pg×Bool:=Cr p (l.zip (forceS l))
theorem Ht(p:Pg)(l:List Ed):ek p l=if (afterQ p l).2 then Sd (afterQ p l).1 else Sf:=qf _ _
def oO(r:Pg×Bool):D:=.tup [.agg r.1.cells,.bool r.2]
theorem wa(r:Pg×Bool):Bd 0 0 (oO r):=.tup _ λi hi=>by
 match i,hi with
 |0,_=>exact aL (Pg.bd _)
 |1,_=>exact .bool _
theorem d220:decide ((220:Int)≠0)=Sh:=rfl
theorem Nw:decide ((0:Int)≠0)=Se:=rfl
def cntD(l:List Ed):Nat:=(l.filter λe=>decide (e.op=1)).length
theorem pO(l:List Ed):cntD l≤l.length:=OV _ _
theorem lX(l m:List Ed):cntD (l++m)=cntD l+cntD m:=by rw[cntD,PL,K5];rfl
theorem v8(l:List Ed)(k:Nat):cntD (l.take k)≤cntD l:=by
 conv=>rhs;rw[←OC k l,lX]
 omega
theorem ER{l:List Ed}{k:Nat}{x:Ed}(h:l[k]?=Sd x):cntD (l.take (k+1))=cntD (l.take k)+(if x.op=1 then 1 else 0):=by
 rw[N4,h,Ov,lX];congr 1;by_cases e:x.op=1<;>simp[cntD,e]
theorem Jo{n m:Nat}(p:Pg)(l:List Ed)(hp:PgN n m p)(hl:∀e∈l,EdN n e∧e.defs.length≤1)(hn:n≤12)(hm:m+cntD l≤12)(hl2:l.length≤1000)(s:St) :
  az Si 83 [.agg p.cells,.slice .none (aM l)] s (oO (afterQ p l)) s:=by
 obtain⟨B,L,c⟩:=s;refine az.introN [] func83 rfl (by decide) aA (by kernel_rfl) [Sz 4 38,Sy 5] 42 rfl rfl ?_;simp only[vqM,mW,zA,zS];refine aa (B9 l (by omega) _) ?_;simp only[vqM,mW,af];refine ae [2,4,6,13,14,15] ?_;simp only[vke,zB,zA];refine aE aA l.length (λk e s=>∃q X,e=[J,J,.box B.length 0,J,.box (B.length+1) 0,J,.slice .none (cd (forceS l)),J,J,J,J,J,J,.slice .none (aM l),.int .i64 l.length,.int .i64 (k:Int),J,J,J,J,J,J,J,J,J,J,J,J,J,J,J,J,J,J,J,J,J,J,J,J,J,J] ∧
  s=⟨B++.cells q.cells::.cells [.slice .nil [],.slice .nil [],.slice .nil [],.slice .nil [],.int .i64 0,.int .i64 0,.int .i64 0,.slice .nil [],.slice .nil [],.slice .nil []]::X,L,c⟩∧PgN n (m+cntD (l.take k)) q∧afterQ p l=Cr q ((l.zip (forceS l)).drop k)) ?_ ?_ 0 _ _ (L7 _) ⟨p,[],rfl,rfl,hp,rfl⟩
 ·rintro k e s hk ⟨q,X,rfl,rfl,hq,hI⟩ ih;have hx:l[k]?=Sd l[k]:=K4 hk;have hg:(aM l)[k]?=Sd (l[k].cells):=by simp[aM,hx]
  have hfk:k<(forceS l).length:=by rw[dU];exact hk
  have hgf:(cd (forceS l))[k]?=Sd [.bool (forceS l)[k]]:=by simp[cd,hfk]
  have hlt:(k:Int)<(forceS l).length:=by omega
  have hklt:((k:Int)<(l.length:Int))=True:=by simp;exact hk
  have hflt:((k:Int)<((forceS l).length:Int))=True:=by simp;omega
  have hdr:(l.zip (forceS l)).drop k=(l[k],(forceS l)[k])::(l.zip (forceS l)).drop (k+1):=by
   rw[Oo (by rw[List.length_zip];omega),List.getElem_zip]
  have hel:=hl _ (NY hk);have hcs:=ER hx;have hct:=v8 l (k+1);rw[hdr,Cr]at hI;generalize l[k]=x at hx hg hI hel hcs;generalize(forceS l)[k]=f at hgf hI;simp only[vqM,mW,zA,vsE,hklt,decide_true,natle0,K3,hg,hgf];have h5:x.op=5∨x.op≠5:=Classical.em _;cases f with
  |false =>
   rw[M7,if_neg (by simp)]at hI;simp only[vqM];rw[ap (by omega)];refine ae [2,4,6,13,14,15] ?_;simp only[vke,zB,zA];exact ih _ _ ⟨q,_,rfl,rfl,⟨hq.pr,hq.df,by have:=hq.hl;omega⟩,hI⟩
  |true =>
   rcases h5 with h5|h5
   ·have h5':decide (x.op=5)=Sh:=by simp[h5]
    rw[if_neg (by simp[h5])]at hI;simp only[vqM,mW,zA,vsE,h5'];rw[ap (by omega)];refine ae [2,4,6,13,14,15] ?_;simp only[vke,zB,zA];exact ih _ _ ⟨q,_,rfl,rfl,⟨hq.pr,hq.df,by have:=hq.hl;omega⟩,hI⟩
   ·have h5':decide (x.op=5)=Se:=by simp[h5]
    have hd1:m+cntD (l.take k)+(if x.op=1 then x.defs.length else 0)≤12:=by
     have:=hel.2
     by_cases e1:x.op=1
     ·rw[if_pos e1]at hcs⊢;omega
     ·rw[if_neg e1]at hcs⊢;omega
    rw[if_pos (by simp[h5])]at hI;simp only[vqM,mW,zA,vsE,h5'];refine aa (Cf q x (ApH.of hq hel.1 hn hd1) _) ?_;cases ha:applyS q x with
    |none =>
     rw[ha]at hI;simp only[vqM,mW,zA,reduceCtorEq,uV,PV,Option.getD_none,d220];refine SB ?_ (wa _);simp only[vqM,mW];rw[hI];rfl
    |some r =>
     rw[ha]at hI;have hr:=hq.apply hel.1 ha;simp only[vqM,mW,zA,uV,OQ,OB,Nw];rw[ap (by omega)];refine ae [2,4,6,13,14,15] ?_;simp only[vke,zB,zA];have hd2:=hel.2;exact ih _ _ ⟨r,_,rfl,rfl,⟨hr.pr,hr.df,by
      have:=hr.hl
      by_cases e1:x.op=1
      ·rw[if_pos e1]at hcs this;omega
      ·rw[if_neg e1]at hcs this;omega⟩,hI⟩
 ·rintro e s ⟨q,X,rfl,rfl,hq,hI⟩;have hklt:((l.length:Int)<(l.length:Int))=False:=by simp
  rw[List.drop_of_length_le (by simp[dU])]at hI;simp only[vqM,mW,zA,hklt,decide_false];rw[hI];refine SB ?_ (wa _);simp only[vqM,mW];rfl
theorem Jm(f:D)(hfp:f.plain=f)(p:Df→Bool)(l:List Df)(s:St)(hp:∀x∈l,dh Si f [.agg x.cells] s (.bool (p x)) s) :
  az Si 79 [.slice .none (ax l),f] s (.bool (l.any p)) s:=by
 refine az.introN [] func79 rfl (by decide) aA (by kernel_rfl) [Sy 4] 9 rfl rfl ?_;simp only[vqM,zA,zS,hfp];refine aa (wL f p l _ hp) ?_;simp only[vqM];refine SC ?_ (.bool _);simp only[vqM];rw[←kp]
theorem Jw(d:Df)(hnm:d.name.size≤1000000000)(q:Pg){b:Nat}(s:St)(hb:s.boxes[b]?=Sd (.cells q.cells)):az Si 80 [.agg d.cells,.box b 0] s (.bool (!defB d q.d)) s:=by
 obtain⟨B,L,c⟩:=s;have hb:B[b]?=Sd (.cells q.cells):=hb;have hb2:∀X,(B++X)[b]?=Sd (.cells q.cells):=λX=>bP hb;have hdc:List.map D.plain1 (Qc 7 q.cells)=q.d.cells:=rfl;refine az.introN [] func80 rfl (by decide) aA (by kernel_rfl) [Sy 3] 9 rfl rfl ?_;simp only[vqM,fO,bK,fN,bi,zA,zS,zL,hb2];refine aa (xy d q.d hnm _) ?_;simp only[vqM];refine SB ?_ (.bool _);simp only[vqM];cases defB d q.d<;>rfl
def badE(p:Pg)(e:Ed):Bool:=e.defs.any λd=>!defB d p.d
def NB:List D:=[.slice .nil [],.slice .nil [],.slice .nil [],.slice .nil [],.int .i64 0,.int .i64 0,.int .i64 0,.slice .nil [],.slice .nil [],.slice .nil []]
def o7(h:Hi):D:=if programS h.first=0 then(match playS h with
 |some p=>.tup [.agg p.cells,.int .i64 0]
 |none=>.tup [.agg Pg.zero.cells,.int .i64 220])else .tup [.agg Pg.zero.cells,.int .i64 (programS h.first)]
theorem Kz(h:Hi):Bd 0 0 (o7 h):=by
 unfold o7;split
 ·split
  ·exact cQ (aL (Pg.bd _)) (.int _ _)
  ·exact cQ (aL (Pg.bd _)) (.int _ _)
 ·exact cQ (aL (Pg.bd _)) (.int _ _)
theorem iL{h:Hi}{k:Nat}(hk:k≤h.es.length)(e:dL h k=Sf):playS h=Sf:=by
 cases hp:playS h with
 |none=>rfl
 |some p =>
  obtain⟨q,hq⟩:=Gn hp hk;rw[e]at hq;cases hq
theorem vsH:(∀h:Hi,h.cells.length=11)∧(∀h:Hi,h.cells.take 10=h.first.cells)∧(∀h:Hi,(h.cells.drop 10)[0]?=Sd (.slice .none (aM h.es)))∧(∀h:Hi,(h.cells.drop 8)[0]?=Sd (.slice .none (ax h.first.defs)))∧((10≤11)=True):=
 ⟨λ_=>rfl,λ_=>rfl,λ_=>rfl,λ_=>rfl,by simp⟩
theorem Ho{ro:Option Nat}{P:Program}{c:Code}{e:List D}{s:St}{Q:QC}(I:List D→St→Prop)(h:@AWI ro P c e s (meetC I))(hQ:∀e s,I e s→@qI .normal e s Q):@AWI ro P c e s Q:=
 AWp.mono h λx e s hx=>by obtain⟨rfl,hx⟩:=hx;exact hQ e s hx
theorem rM{e e' sz by_:Nat}{a:Bool}{l:List Ed}{k:Nat}(h:k≤l.length):slS (Sd (.slice e)) (Sd (e',sz,by_,a)) .none (aM l) Sf (Sd (.int .i64 (k:Int)))=Sd (.slice .none (aM (l.take k))):=by
 simp[slS,evBd,h,aM,Qg]
theorem iY{P:Program}{rs:List ResultVar}{B C X:List Box}{L:List Nat}{c:Nat}{r:D}{e:List D}{x:Exit}(hx:x=.normal∨x=.ret)(h1:(resD P e ⟨C++X,L,c⟩ rs).map kK=Sd r)(hb:Bd 0 0 r)(hC:∃D,C=B++D) :
  @qI x e ⟨C++X,L,c⟩ (lT P rs ⟨B,L,c⟩ r ⟨B,L,c⟩):=by
 obtain⟨D,rfl⟩:=hC;rw[K9]at h1⊢;exact ao hx h1 hb (λ_ h=>h) (K6 _)
structure PlC (B C:List Box) (h:Hi) (q:Pg) (U:List Int) (im ip:Nat):Prop where
 ex:∃D,C=B++D
 ln:C.length=B.length+4
 h0:C[B.length]?=Sd (.cells h.cells)
 z0:C[B.length+1]?=Sd (.cells NB)
 mp:C[im]?=Sd (.map (mapB U))
 pr:C[ip]?=Sd (.cells q.cells)
 ml:B.length+2≤im
 pl:B.length+2≤ip
 ne:im≠ip
theorem PlC.setm{B C:List Box}{h:Hi}{q:Pg}{U:List Int}{im ip:Nat}(H:PlC B C h q U im ip)(U':List Int):PlC B (C.set im (.map (mapB U'))) h q U' im ip:=by
 have h1:=(M5.1 H.mp).1;have h2:=H.ml;obtain⟨D,hD⟩:=H.ex;refine⟨⟨D.set (im-B.length) (.map (mapB U')),?_⟩,by rw[PU];exact H.ln,?_,?_,Om h1,?_,H.ml,H.pl,H.ne⟩
 ·rw[hD,O3 _ _ (by omega)]
 ·rw[Oj (by omega)];exact H.h0
 ·rw[Oj (by omega)];exact H.z0
 ·rw[Oj H.ne];exact H.pr
theorem PlC.setp{B C:List Box}{h:Hi}{q:Pg}{U:List Int}{im ip:Nat}(H:PlC B C h q U im ip)(q':Pg):PlC B (C.set ip (.cells q'.cells)) h q' U im ip:=by
 have h1:=(M5.1 H.pr).1;have h2:=H.pl;obtain⟨D,hD⟩:=H.ex;refine⟨⟨D.set (ip-B.length) (.cells q'.cells),?_⟩,by rw[PU];exact H.ln,?_,?_,?_,Om h1,H.ml,H.pl,H.ne⟩
 ·rw[hD,O3 _ _ (by omega)]
 ·rw[Oj (by omega)];exact H.h0
 ·rw[Oj (by omega)];exact H.z0
 ·rw[Oj (λe=>H.ne e.symm)];exact H.mp
theorem PlC.set1{B C:List Box}{h:Hi}{q:Pg}{U:List Int}{im ip:Nat}(H:PlC B C h q U im ip)(v:Box):∃D,C.set (B.length+1) v=B++D:=by
 obtain⟨D,rfl⟩:=H.ex;exact⟨D.set 1 v,iU⟩
theorem PlC.lt{B C:List Box}{h:Hi}{q:Pg}{U:List Int}{im ip:Nat}(H:PlC B C h q U im ip):im<C.length:=(M5.1 H.mp).1
theorem PlC.len2{B C C':List Box}{h h':Hi}{q q':Pg}{U U':List Int}{im ip im' ip':Nat}(H:PlC B C h q U im ip)(H':PlC B C' h' q' U' im' ip'):C'.length=C.length:=by rw[H.ln,H'.ln]
theorem Jv(h:Hi){n m:Nat}(hok:PgOk h.first)(H:programS h.first=0→HiN n m h)(hn:n≤12)(hm:m+cntD h.es≤12)(hl30:h.es.length≤30)(s:St):az Si 36 [.agg h.cells] s (o7 h) s:=by
  obtain⟨B,L,c⟩:=s;refine az.introN [(4,.stop),(8,.meet),(17,.text [Se,Se,Se,Se,Se,Se,Se,Se,Se,Se,Se,Se,Se,Se,Se,Se,Se,Se,Sh,Se,Se,Se,Se,Se,Se,Se] [(20,0)]),(19,.text [Se,Se,Se,Se,Se,Se,Se,Se,Se,Se,Se,Sh,Sh,Se] [(1,1),(3,1),(7,1)])] func36 rfl (by decide) aA (by kernel_rfl) [Sz 2 38,Sy 3] 121 rfl rfl ?_;simp only[vqM,cb,zA,zS,zB,vsH];refine aa (p8 h.first hok _) ?_;by_cases h0:programS h.first=0;case neg =>
    have hd0:decide (programS h.first≠0)=Sh:=by simp[h0]
    simp only[vqM,cb,zA,zB,hd0];refine SB ?_ (Kz h);simp only[vqM,cb,zA];rw[o7,if_neg h0];rfl
  have H:=H h0;have R:=Gd.of h0;have hd0:decide (programS h.first≠0)=Se:=by simp[h0]
  have hpl:o7 h=match playS h with
    |some p=>.tup [.agg p.cells,.int .i64 0]
    |none=>.tup [.agg Pg.zero.cells,.int .i64 220]:=by rw[o7,if_pos h0]
  simp only[vqM,zB,hd0];refine Ho (λe s=>∃C im ip,e=[.agg h.cells,.box B.length 0,.box (B.length+1) 0,.int .i64 0,.int .i64 (programS h.first),.box ip 0,.map im,J,J,J,J,J,J,J,.box B.length 0,.agg h.first.cells,.int .i64 (programS h.first),.int .i64 (programS h.first),.bool Se,J,J,.box B.length 0,.agg h.first.cells,.box B.length 0,.box B.length 8,.slice .none (ax h.first.defs),.map im,J,J,J,J,J,J,J,J,J,J,J,J,J,J,J,J,J,J,J,J,J,J,J,J,J,J,J,J,J,J,J,J,J,J,J,J,J,J,J,J,J,J,J,J,J,J,J,J,J,J,J,J,J,J,J,J,J,J,J,J,J,J,J,J,J,J,J,J,J,J,J,J,J,J,J,J,J,J,J,J,J,J,J,J,J,J,J,J,J,J,J,J,J,J]∧s=⟨C,L,c⟩∧PlC B C h h.first (setS (sitesD h.first.defs)) im ip) ?_ ?_
  · skip
    refine eI aA [5,6,7] [⟨[0,1,2,3,4,5,6,7,8],[(1,1),(1,2)]⟩,⟨[0,1,2,3,4,6,5,7,8],[(1,1),(1,2),(4,1)]⟩] (by kernel_rfl) λpl hpl=>?_;simp only[NX,Ot,or_false]at hpl;rcases hpl with rfl|rfl
    all_goals
      simp only[vqM,cb,zA,zB,vsH,N8,N7,N9,Of,M4,NW];refine aa (jM h.first.defs (by have:=R.dl;omega) hok.fl _ L c) ?_;simp only[vqM,cb,zA,vsH,N8,N7];first
        |exact aD ⟨_,B.length+2,B.length+3,rfl,rfl,⟨_,rfl⟩,by simp,bL,bq,bq,bq,by omega,by omega,by omega⟩
        |exact aD ⟨_,B.length+3,B.length+2,rfl,rfl,⟨_,rfl⟩,by simp,bL,bq,bq,bq,by omega,by omega,by omega⟩
  rintro e s ⟨C,im,ip,rfl,rfl,hC⟩;have hh:=hC.h0;simp only[vqM,cb,zA,zB,vsH,hh,af];refine ae [1,2,5,6,28,29,30] ?_;simp only[vke,zB,zA];refine aE aA h.es.length (λk e s=>∃C X q U,e=[J,.box B.length 0,.box (B.length+1) 0,J,J,.box ip 0,.map im,J,J,J,J,J,J,J,J,J,J,J,J,J,J,J,J,J,J,J,J,J,.slice .none (aM h.es),.int .i64 h.es.length,.int .i64 (k:Int),J,J,J,J,J,J,J,J,J,J,J,J,J,J,J,J,J,J,J,J,J,J,J,J,J,J,J,J,J,J,J,J,J,J,J,J,J,J,J,J,J,J,J,J,J,J,J,J,J,J,J,J,J,J,J,J,J,J,J,J,J,J,J,J,J,J,J,J,J,J,J,J,J,J,J,J,J,J,J,J,J,J,J,J,J,J,J,J,J,J]∧s=⟨C++X,L,c⟩∧PlC B C h q U im ip∧dL h k=Sd q∧∀x,x∈U↔x∈cM h.first (h.es.take k)) ?_ ?_ 0 _ _ (L7 _) ⟨C,[],h.first,_,rfl,by rw[Oq],hC,rfl,λx=>by rw[fe];simp[cM]⟩
  · clear hC hh;rintro k e s hk ⟨C,X,q,U,rfl,rfl,hC,hpk,hU⟩ ih;have hx:h.es[k]?=Sd h.es[k]:=K4 hk;have hg:(aM h.es)[k]?=Sd (h.es[k].cells):=by simp[aM,hx]
    have hklt:((k:Int)<(h.es.length:Int))=True:=by simp;exact hk
    have hqN:=pK H hpk;have hel:=H.ed _ (NY hk);have hnext:dL h (k+1)=if freshB h.first (h.es.take k) q h.es[k]&&iw (h.es.take k) h.es[k]then ek h.first (h.es.take (k+1))else Sf:=by rw[dL,hpk,OY,hx]
    have hused:cM h.first (h.es.take (k+1))=cM h.first (h.es.take k)++(if h.es[k].op=1 then sitesD h.es[k].defs else[]):=by
      rw[N4,hx,Ov,cM,cM,PM,K9];simp
    have hbad:h.es[k].op=1→badE q h.es[k]=Sh→dL h (k+1)=Sf:=λho hb=>by
      obtain⟨d,hd,hb⟩:=PH.1 hb;refine D1 H hpk hx ho hd ?_;have:=Hs (ju hpk)
      rw[Oy]at hb;exact hb
    generalize h.es[k]=x at hx hg hel hnext hused hbad;have hl0:B.length<C.length:=by have:=hC.ln;omega
    have hl1:B.length+1<C.length:=by have:=hC.ln;omega
    have hlm:im<C.length:=(M5.1 hC.mp).1;have hlp:ip<C.length:=(M5.1 hC.pr).1;have g0:∀X:List Box,(C++X)[B.length]?=Sd (.cells h.cells):=λX=>bP hC.h0;have g1:∀X:List Box,(C++X)[B.length+1]?=Sd (.cells [.slice .nil [],.slice .nil [],.slice .nil [],.slice .nil [],.int .i64 0,.int .i64 0,.int .i64 0,.slice .nil [],.slice .nil [],.slice .nil []]):=λX=>bP hC.z0;have gm:∀X:List Box,(C++X)[im]?=Sd (.map (mapB U)):=λX=>bP hC.mp;have gp:∀X:List Box,(C++X)[ip]?=Sd (.cells q.cells):=λX=>bP hC.pr;have gs1:∀(X:List Box)(v:Box),(C++X).set (B.length+1) v=C.set (B.length+1) v++X:=λX v=>PX _ _ hl1;have gs2:∀(X:List Box)(v:Box),(C.set (B.length+1) v++X)[B.length+1]?=Sd v:=λX v=>by rw[Ou (by simp;exact hl1),Om hl1]
    simp only[vqM,cb,zA,zB,vsE,hklt,decide_true,natle0,K3,hg];refine qe [1,2,5,6,7,8,28,29,30] [J,.box B.length 0,.box (B.length+1) 0,J,J,.box ip 0,.map im,.int .i64 (k:Int),.box (C.length+X.length) 0,J,J,J,J,J,J,J,J,J,J,J,J,J,J,J,J,J,J,J,.slice .none (aM h.es),.int .i64 h.es.length,.int .i64 (k:Int),J,J,J,J,J,J,J,J,J,J,J,J,J,J,J,J,J,J,J,J,J,J,J,J,J,J,J,J,J,J,J,J,J,J,J,J,J,J,J,J,J,J,J,J,J,J,J,J,J,J,J,J,J,J,J,J,J,J,J,J,J,J,J,J,J,J,J,J,J,J,J,J,J,J,J,J,J,J,J,J,J,J,J,J,J,J,J,J,J,J] (λs=>(∃Y,s=⟨C++(X++.cells x.cells::Y),L,c⟩)∧(x.op=1→badE q x=Se)∧freshB h.first (h.es.take k) q x=Sh) ?_ ?_
    · by_cases h1:x.op=1;case neg =>
        have h1':decide (x.op=1)=Se:=by simp[h1]
        simp only[vqM,cb,zA,zB,vsE,h1'];exact gz (by simp only[vke,zB,zA]) ⟨⟨[],by simp⟩,λe=>absurd e h1,by simp[freshB,h1]⟩
      have h1':decide (x.op=1)=Sh:=by simp[h1]
      simp only[vqM,cb,zA,zB,vsE,h1'];refine aa (Jm _ rfl (λd=>!defB d q.d) x.defs _ λd hd=>?_) ?_
      · exact Jw d (by have:=(hel.1.df d hd).nm;omega) q _ (gp _)
      cases hb:badE q x with
      |true =>
        rw[badE]at hb;rw[hb];rw[hpl,iL (k:=k+1) (by omega) (hbad h1 hb)];simp only[vqM,cb,zA,zB,reduceCtorEq,g1,gs1];refine iY (.inr rfl) ?_ (cQ (aL (Pg.bd _)) (.int _ _)) (hC.set1 _);simp only[vqM,cb,zA,gs2];rfl
      |false =>
        have hb':=hb;rw[badE]at hb';rw[hb'];simp only[vqM,cb,zA,zB,gp];have hqR:=Gd.of hqN.pr;have hqk:=hqN.ok hn;refine aa (jM q.defs (by have:=hqR.dl;omega) hqk.fl _ L c) ?_;simp only[vqM,cb,zA,zB,vsE];obtain⟨G,hG⟩:∃G,G=C++(X++[Box.cells x.cells,Box.map (mapB (setS (sitesD q.defs)))]):=⟨_,rfl⟩;have hGl:C.length+(X.length+2)=G.length:=by rw[hG];simp
        rw[←hG];refine aa (jM x.defs (by have:=hel.2;omega) (λd hd=>by have:=(hel.1.df d hd).ct;rw[bQ];omega) G L c) ?_;have hUc:∀y,U.contains y=(cM h.first (h.es.take k)).contains y:=λy=>by rw[O9];simp only[List.contains_iff_mem,hU]
        have hfr:freshB h.first (h.es.take k) q x=(setS (sitesD x.defs)).all λy=>(setS (sitesD q.defs)).contains y || !U.contains y:=by
          rw[freshB,O9];simp only[h1,ne_eq,not_true_eq_false,decide_false,L5,N0,hUc,gt,fe]
        generalize hK:setS (sitesD x.defs)=K at hfr;have hKel:∀(j:Nat)(h1:j<(mapB K).length)(h2:j<K.length),(mapB K)[j].1=.int .i64 K[j]:=λj h1 h2=>by simp[mapB]
        have hKl:(mapB K).length=K.length:=dS K;have gGm:∀Z:List Box,(G++Z)[im]?=Sd (.map (mapB U)):=λZ=>by rw[hG,K9];exact gm _
        have gGo:∀Z:List Box,(G++Z)[C.length+(X.length+1)]?=Sd (.map (mapB (setS (sitesD q.defs)))):=λZ=>by
          rw[hG,K9,K9,bq,bq];rfl
        obtain⟨Z0,hZ0⟩:∃Z0,G=C++(X++.cells x.cells::Z0):=⟨_,hG⟩;have gG1:∀Z:List Box,(G++Z)[B.length+1]?=Sd (.cells [.slice .nil [],.slice .nil [],.slice .nil [],.slice .nil [],.int .i64 0,.int .i64 0,.int .i64 0,.slice .nil [],.slice .nil [],.slice .nil []]):=λZ=>by rw[hZ0,K9];exact g1 _
        have gsG:∀(Z:List Box)(v:Box),(G++Z).set (B.length+1) v=C.set (B.length+1) v++(X++.cells x.cells::(Z0++Z)):=λZ v=>by rw[hZ0,K9,gs1];simp
        clear hG;generalize setS (sitesD q.defs)=W at hfr gGo;simp only[vqM,vsIt];refine ik (by rfl) bL λbs c0 q1 q2 q3=>?_;simp only[vqM,zA];refine ae [1,2,5,6,7,8,9,28,29,30,49] ?_;simp only[vke,zB,zA];refine aE aA K.length (λj e s=>∃js,Js K.length js∧js.length=j∧(∀i∈js,∀(hi:i<K.length),(W.contains K[i] || !U.contains K[i])=Sh)∧e=[J,.box B.length 0,.box (B.length+1) 0,J,J,.box ip 0,.map im,.int .i64 (k:Int),.box (C.length+X.length) 0,.map (C.length+(X.length+1)),J,J,J,J,J,J,J,J,J,J,J,J,J,J,J,J,J,J,.slice .none (aM h.es),.int .i64 h.es.length,.int .i64 (k:Int),J,J,J,J,J,J,J,J,J,J,J,J,J,J,J,J,J,J,.box (G.length+1) 0,J,J,J,J,J,J,J,J,J,J,J,J,J,J,J,J,J,J,J,J,J,J,J,J,J,J,J,J,J,J,J,J,J,J,J,J,J,J,J,J,J,J,J,J,J,J,J,J,J,J,J,J,J,J,J,J,J,J,J,J,J,J,J,J,J,J,J,J,J,J,J]∧s=⟨G++[.mapX (mapB K) bs c0,.iter G.length c0 (cj bs js)],L,c⟩) ?_ ?_ 0 _ _ (L7 _) ⟨[],⟨.nil,by simp⟩,rfl,by simp,rfl,rfl⟩
        · rintro k2 e s hk2 ⟨js,hjs,hjl,hok2,rfl,rfl⟩ ih2;have hi:(G++[Box.mapX (mapB K) bs c0,.iter G.length c0 (cj bs js)])[G.length+1]?=Sd (.iter G.length c0 (cj bs js)):=bq;have hm2:(G++[Box.mapX (mapB K) bs c0,.iter G.length c0 (cj bs js)])[G.length]?=Sd (.mapX (mapB K) bs c0):=bL;simp only[vqM,zB,vsIt];refine et hi hm2 q3 (λj hj hjb hns=>?_) (λhall=>?_)
          · have hjk:j<K.length:=by omega
            have hjn:j ∉ js:=λh=>hns ((dQ q2 (λi hi=>by have:=hjs.lt i hi;omega) hjb).2 h);have hpb:cj bs js++[bs[j]]=cj bs (js++[j]):=by simp[cj,Pi,hjb]
            have hset:(G++[Box.mapX (mapB K) bs c0,.iter G.length c0 (cj bs js)]).set (G.length+1) (Box.iter G.length c0 (cj bs js++[bs[j]]))=G++[Box.mapX (mapB K) bs c0,.iter G.length c0 (cj bs js++[bs[j]])]:=iU;dsimp only;rw[hset];have hi2:(G++[Box.mapX (mapB K) bs c0,.iter G.length c0 (cj bs js++[bs[j]])])[G.length+1]?=Sd (.iter G.length c0 (cj bs js++[bs[j]])):=bq;have hm3:(G++[Box.mapX (mapB K) bs c0,.iter G.length c0 (cj bs js++[bs[j]])])[G.length]?=Sd (.mapX (mapB K) bs c0):=bL;simp only[vqM,zB,vsIt];refine iq hi2 hm3 hj hjb (by simp) ?_;rw[hKel j hj hjk];have hyK:K[j]∈K:=NY hjk;have hyj:∀i∈js++[j],∀(hi:i<K.length),(W.contains K[j] || !U.contains K[j])=Sh→(W.contains K[i] || !U.contains K[i])=Sh:=λi hi hil hh=>by
              rcases Od.1 hi with hi|hi
              · exact hok2 i hi hil
              · simp at hi;subst hi;exact hh
            generalize K[j]=y at hyK hyj;have hfin:(W.contains y || !U.contains y)=Se→dL h (k+1)=Sf:=λhh=>by
              rw[hnext];have:freshB h.first (h.es.take k) q x=Se:=by
                rw[hfr,O4];exact⟨y,hyK,by rw[hh];simp⟩
              rw[this];rfl
            rw[hpb];have lU:=br y U;have lW:=br y W;cases hu:U.contains y with
            |false =>
              rw[hu]at lU hyj;simp only[vqM,cb,zB,gGm,lU];refine ae [1,2,5,6,7,8,9,28,29,30,49] ?_;simp only[vke,zB,zA];exact ih2 _ _ ⟨js++[j],hjs.snoc hjk hjn,by simp[hjl],λi hi hil=>hyj i hi hil (by simp),rfl,rfl⟩
            |true =>
              rw[hu]at lU hyj hfin;cases hw:W.contains y with
              |true =>
                rw[hw]at lW hyj;simp only[vqM,cb,zB,gGm,gGo,lU,lW];refine ae [1,2,5,6,7,8,9,28,29,30,49] ?_;simp only[vke,zB,zA];exact ih2 _ _ ⟨js++[j],hjs.snoc hjk hjn,by simp[hjl],λi hi hil=>hyj i hi hil (by simp),rfl,rfl⟩
              |false =>
                rw[hw]at lW hfin;rw[hpl,iL (k:=k+1) (by omega) (hfin rfl)];simp only[vqM,cb,zA,zB,gGm,gGo,lU,lW,gG1,gsG];refine iY (.inr rfl) ?_ (cQ (aL (Pg.bd _)) (.int _ _)) (hC.set1 _);simp only[vqM,cb,zA,gs2];rfl
          · exfalso;have:Ol K.length ⊆ js:=λj hj=>by
              have hj:=Ow.1 hj;have hjb:j<bs.length:=by omega
              exact(dQ q2 (λi hi=>by have:=hjs.lt i hi;omega) hjb).1 (hall _ (NY hjb))
            have:=QG.length_le_of_subset this
            simp at this;omega
        · rintro e s ⟨js,hjs,hjl,hok2,rfl,rfl⟩;have hi:(G++[Box.mapX (mapB K) bs c0,.iter G.length c0 (cj bs js)])[G.length+1]?=Sd (.iter G.length c0 (cj bs js)):=bq;have hm2:(G++[Box.mapX (mapB K) bs c0,.iter G.length c0 (cj bs js)])[G.length]?=Sd (.mapX (mapB K) bs c0):=bL;simp only[vqM,zB,vsIt];refine et hi hm2 q3 (λj hj hjb hns=>?_) (λhall=>?_)
          · exact absurd ((dQ q2 (λi hi=>by have:=hjs.lt i hi;omega) hjb).2 (hjs.all hjl (by omega))) hns
          · simp only[vqM];refine gz (by simp only[vke,zB,zA]) ⟨⟨_,by rw[hZ0,K9,K9];rfl⟩,λ_=>by first|trivial|exact hb,?_⟩;rw[hfr,N0];intro y hy;obtain⟨i,hi,rfl⟩:=Oa hy;exact hok2 i (hjs.all hjl hi) hi
    · rintro s ⟨⟨Y,rfl⟩,hnb,hfr⟩;rw[hfr,K8]at hnext;have hrev:iw (h.es.take k) x=Se→playS h=Sf:=λhh=>iL (k:=k+1) (by omega) (by rw[hnext,hh];rfl);refine fD (λe s=>keep [1,2,5,6,7,8,28,29,30] e=[J,.box B.length 0,.box (B.length+1) 0,J,J,.box ip 0,.map im,.int .i64 (k:Int),.box (C.length+X.length) 0,J,J,J,J,J,J,J,J,J,J,J,J,J,J,J,J,J,J,J,.slice .none (aM h.es),.int .i64 h.es.length,.int .i64 (k:Int),J,J,J,J,J,J,J,J,J,J,J,J,J,J,J,J,J,J,J,J,J,J,J,J,J,J,J,J,J,J,J,J,J,J,J,J,J,J,J,J,J,J,J,J,J,J,J,J,J,J,J,J,J,J,J,J,J,J,J,J,J,J,J,J,J,J,J,J,J,J,J,J,J,J,J,J,J,J,J,J,J,J,J,J,J,J,J,J,J,J]∧s=⟨C++(X++.cells x.cells::Y),L,c⟩∧iw (h.es.take k) x=Sh) ?_ ?_
      · refine cI aA ?_;by_cases h5:x.op=5;case neg =>
          have h5':decide (x.op=5)=Se:=by simp[h5]
          have hrt:iw (h.es.take k) x=Sh:=by simp[iw,h5]
          simp only[vqM,cb,zA,zB,vsE,h5'];exact bM ⟨by simp only[vke,zB,zA],rfl,hrt⟩
        have h5':decide (x.op=5)=Sh:=by simp[h5]
        have hsl:=λ(e e' sz by_:Nat)(a:Bool)=>rM (e:=e) (e':=e') (sz:=sz) (by_:=by_) (a:=a) (show k≤h.es.length by omega);have hfail:iw (h.es.take k) x=Se→o7 h=.tup [.agg Pg.zero.cells,.int .i64 220]:=λhh=>by rw[hpl,hrev hh]
        have hlk:(h.es.take k).length=k:=by rw[OD];omega
        by_cases ha:x.a<0
        · have ha':decide (x.a<0)=Sh:=by simp[ha]
          rw [hfail (by simp only [iw, hlk]; have : ¬ 0 ≤ x.a := by omega
                        simp[h5,this])]
          simp only[vqM,cb,zA,zB,vsE,h5',ha',g1,gs1,vsJI];refine iY (.inr rfl) ?_ (cQ (aL (Pg.bd _)) (.int _ _)) (hC.set1 _);simp only[vqM,cb,zA,gs2];rfl
        have ha':decide (x.a<0)=Se:=by simp;omega
        by_cases hb:(k:Int)≤x.a
        · have hb':decide (x.a≥(k:Int))=Sh:=by simp;omega
          rw [hfail (by simp only [iw, hlk]; have : ¬ x.a < k := by omega
                        simp[h5,this])]
          simp only[vqM,cb,zA,zB,vsE,h5',ha',hb',g1,gs1,vsJI];refine iY (.inr rfl) ?_ (cQ (aL (Pg.bd _)) (.int _ _)) (hC.set1 _);simp only[vqM,cb,zA,gs2];rfl
        have hb':decide (x.a≥(k:Int))=Se:=by simp;omega
        obtain⟨i,hi⟩:∃i:Nat,x.a=i:=⟨x.a.toNat,by omega⟩;have hik:i<k:=by omega
        have hfl:(forceS (h.es.take k)).length=k:=by rw[dU,hlk]
        have hgf:(cd (forceS (h.es.take k)))[i]?=Sd [.bool (forceS (h.es.take k))[i]]:=by simp[cd,hfl,hik]
        have hrv:iw (h.es.take k) x=(forceS (h.es.take k))[i]:=by
          simp[iw,h5,hi,hlk,hik,hfl]
        have hbl:=dy (forceS (h.es.take k));generalize(forceS (h.es.take k))[i]=f at hgf hrv;simp only[vqM,cb,zA,zB,vsE,vsH,h5',g0,ha',hb',hsl];refine aa (B9 (h.es.take k) (by omega) _) ?_;rw[hi];have hix:(0≤(i:Int)∧(i:Int)<(k:Int))=True:=by simp;omega
        simp only[vqM,cb,zA,vsE,hi,K3,hgf,natle0];cases f with
        |true =>
          simp only[vqM];exact bM ⟨by simp only[vke,zB,zA],rfl,hrv⟩
        |false =>
          rw[hfail hrv];simp only[vqM,cb,zA,zB,g1,gs1,vsJI];refine iY (.inr rfl) ?_ (cQ (aL (Pg.bd _)) (.int _ _)) (hC.set1 _);simp only[vqM,cb,zA,gs2];rfl
      · rintro e s ⟨he,rfl,hrt⟩;rw[hrt,if_pos rfl]at hnext;refine ae [1,2,5,6,7,8,28,29,30] ?_;rw[he];refine cI aA ?_;have hsl:=λ(e e' sz by_:Nat)(a:Bool)=>rM (e:=e) (e':=e') (sz:=sz) (by_:=by_) (a:=a) (show k+1≤h.es.length by omega);have hwr:SA.wrap ((k:Int)+1)=((k+1:Nat):Int):=ap (by omega);simp only[vqM,cb,zA,zB,vsH,g0,hwr,hsl];have hta:=Jo h.first (h.es.take (k+1)) H.fi (λe he=>H.ed e (Px he)) hn (by have:=v8 h.es (k+1);omega) (by rw[OD];omega);have haf:=Ht h.first (h.es.take (k+1));rw[←hnext]at haf;generalize afterQ h.first (h.es.take (k+1))=aq at haf hta;obtain⟨r,ok⟩:=aq;refine aa (hta _) ?_;cases ok with
        |false =>
          have hfail:o7 h=.tup [.agg Pg.zero.cells,.int .i64 220]:=by rw[hpl,iL (k:=k+1) (by omega) haf]
          rw[hfail];simp only[vqM,cb,zA,vsH,g0,oO];refine aB (aa (hta _) ?_) ?_
          · simp only[vqM];rfl
          simp only[vqM,cb,zA,zB,g1,gs1];refine iY (.inr rfl) ?_ (cQ (aL (Pg.bd _)) (.int _ _)) (hC.set1 _);simp only[vqM,cb,zA,gs2];rfl
        |true =>
          simp only[vqM,cb,zA,vsH,g0,oO];refine aB (aa (hta _) ?_) ?_
          · simp only[vqM];rfl
          have hpk2:dL h (k+1)=Sd r:=haf;have hrN:=pK H hpk2;have gsp:∀(X:List Box)(v:Box),(C++X).set ip v=C.set ip v++X:=λX v=>PX _ _ hlp;have hr10:r.cells++Qd 10 q.cells=r.cells:=by rw[show Qd 10 q.cells=[] from rfl,Oq]
          have hC2:=hC.setp r;have hl2:(C.set ip (.cells r.cells)).length=C.length:=PU;have gC2:∀(Z:List Box)(j:Nat),(C.set ip (.cells r.cells)++Z)[C.length+j]?=Z[j]?:=λZ j=>by rw[←hl2,bq]
          have hwk:SA.wrap ((k:Int)+1)=((k+1:Nat):Int):=ap (by omega);by_cases h1:x.op=1;case neg =>
            have h1':decide (x.op≠1)=Sh:=by simp[h1]
            rw[if_neg h1,Oq]at hused;simp only[vqM,cb,zA,zB,vsE,gp,gsp,hr10,gC2,h1',hwk];refine ae [1,2,5,6,28,29,30] ?_;simp only[vke,zB,zA];exact ih _ _ ⟨_,_,r,U,rfl,rfl,hC2,hpk2,λy=>by rw[hU,hused]⟩
          have h1':decide (x.op≠1)=Se:=by simp[h1]
          rw[if_pos h1]at hused;simp only[vqM,cb,zA,zB,vsE,gp,gsp,hr10,gC2,h1'];obtain⟨C2,hC2e⟩:∃C2,C2=C.set ip (.cells r.cells):=⟨_,rfl⟩;rw[←hC2e]at hC2⊢;rw[←hC2e]at hl2 gC2;obtain⟨Z,hZ⟩:∃Z,Z=X++Box.cells x.cells::(Y++[Box.cells r.cells]):=⟨_,rfl⟩;rw[←hZ];refine aa (jM x.defs (by have:=hel.2;omega) (λd hd=>by have:=(hel.1.df d hd).ct;rw[bQ];omega) (C2++Z) L c) ?_;have hKm:∀y,y∈setS (sitesD x.defs)↔y∈sitesD x.defs:=λy=>fe;generalize setS (sitesD x.defs)=K at hKm;have hKel:∀(j:Nat)(h1:j<(mapB K).length)(h2:j<K.length),(mapB K)[j].1=.int .i64 K[j]:=λj h1 h2=>by simp[mapB]
          have hKl:(mapB K).length=K.length:=dS K;have gCi:∀(C3:List Box),C3.length=C2.length→∀(W:List Box)(j:Nat),(C3++(Z++W))[C2.length+(Z.length+j)]?=W[j]?:=λC3 h3 W j=>by rw[←h3,bq,bq]
          have gCi0:∀(C3:List Box),C3.length=C2.length→∀(W:List Box),(C3++(Z++W))[C2.length+Z.length]?=W[0]?:=λC3 h3 W=>by rw[←h3,bq,bL]
          have gsi:∀(C3:List Box),C3.length=C2.length→∀(W:List Box)(j:Nat)(v:Box),(C3++(Z++W)).set (C2.length+(Z.length+j)) v=C3++(Z++W.set j v):=λC3 h3 W j v=>by rw[←h3,iU,iU]
          simp only[vqM,vsIt];refine ik (by rfl) (gCi0 C2 rfl _) λbs c0 q1 q2 q3=>?_;simp only[vqM,zA];refine ae [1,2,5,6,28,29,30,112] ?_;simp only[vke,zB,zA];refine aE aA K.length (λj e s=>∃js C3 U3,Js K.length js∧js.length=j∧PlC B C3 h r U3 im ip∧(∀y,y∈U3↔y∈U∨∃i∈js,∃hi:i<K.length,K[i]=y)∧e=[J,.box B.length 0,.box (B.length+1) 0,J,J,.box ip 0,.map im,J,J,J,J,J,J,J,J,J,J,J,J,J,J,J,J,J,J,J,J,J,.slice .none (aM h.es),.int .i64 h.es.length,.int .i64 (k:Int),J,J,J,J,J,J,J,J,J,J,J,J,J,J,J,J,J,J,J,J,J,J,J,J,J,J,J,J,J,J,J,J,J,J,J,J,J,J,J,J,J,J,J,J,J,J,J,J,J,J,J,J,J,J,J,J,J,J,J,J,J,J,J,J,J,J,J,J,J,J,J,J,J,J,J,J,J,J,J,J,J,.box (C2.length+(Z.length+1)) 0,J,J,J,J,J,J,J,J]∧s=⟨C3++(Z++[.mapX (mapB K) bs c0,.iter (C2.length+Z.length) c0 (cj bs js)]),L,c⟩) ?_ ?_ 0 _ _ (L7 _) ⟨[],C2,U,⟨.nil,by simp⟩,rfl,hC2,by simp,rfl,?_⟩
          · rintro k2 e s hk2 ⟨js,C3,U3,hjs,hjl,hC3,hU3,rfl,rfl⟩ ih2;have h3:=hC2.len2 hC3;have hi:(C3++(Z++[Box.mapX (mapB K) bs c0,.iter (C2.length+Z.length) c0 (cj bs js)]))[C2.length+(Z.length+1)]?=Sd (.iter (C2.length+Z.length) c0 (cj bs js)):=gCi C3 h3 _ 1;have hm2:(C3++(Z++[Box.mapX (mapB K) bs c0,.iter (C2.length+Z.length) c0 (cj bs js)]))[C2.length+Z.length]?=Sd (.mapX (mapB K) bs c0):=gCi0 C3 h3 _;simp only[vqM,zB,vsIt];refine et hi hm2 q3 (λj hj hjb hns=>?_) (λhall=>?_)
            · have hjk:j<K.length:=by omega
              have hjn:j ∉ js:=λh=>hns ((dQ q2 (λi hi=>by have:=hjs.lt i hi;omega) hjb).2 h);have hpb:cj bs js++[bs[j]]=cj bs (js++[j]):=by simp[cj,Pi,hjb]
              dsimp only;rw[gsi C3 h3];simp only[Ph,Qk];have hi2:(C3++(Z++[Box.mapX (mapB K) bs c0,.iter (C2.length+Z.length) c0 (cj bs js++[bs[j]])]))[C2.length+(Z.length+1)]?=Sd (.iter (C2.length+Z.length) c0 (cj bs js++[bs[j]])):=gCi C3 h3 _ 1;have hm3:(C3++(Z++[Box.mapX (mapB K) bs c0,.iter (C2.length+Z.length) c0 (cj bs js++[bs[j]])]))[C2.length+Z.length]?=Sd (.mapX (mapB K) bs c0):=gCi0 C3 h3 _;simp only[vqM,zB,vsIt];refine iq hi2 hm3 hj hjb (by simp) ?_;rw[hKel j hj hjk];obtain⟨fr,hfr1,hfr2⟩:=qq (l:=U3) (n:=K[j]);have hU4:∀y,y∈addS U3 K[j]↔y∈U∨∃i∈js++[j],∃hi:i<K.length,K[i]=y:=λy=>by
                rw[uh,hU3];constructor
                · rintro((h|⟨i,hi,hil,rfl⟩)|rfl)
                  · exact .inl h
                  · exact .inr ⟨i,by simp[hi],hil,rfl⟩
                  · exact .inr ⟨j,by simp,hjk,rfl⟩
                · rintro(h|⟨i,hi,hil,rfl⟩)
                  · exact .inl (.inl h)
                  · rcases Od.1 hi with hi|hi
                    · exact .inl (.inr ⟨i,hi,hil,rfl⟩)
                    · simp at hi;subst hi;exact .inr rfl
              generalize K[j]=y at hfr1 hfr2 hU4;rw[hpb];have gm3:∀X:List Box,(C3++X)[im]?=Sd (.map (mapB U3)):=λX=>bP hC3.mp;have gs3:∀(X:List Box)(v:Box),(C3++X).set im v=C3.set im v++X:=λX v=>PX _ _ hC3.lt;simp only[vqM,cb,gm3,gs3,hfr1,hfr2];refine ae [1,2,5,6,28,29,30,112] ?_;simp only[vke,zB,zA];exact ih2 _ _ ⟨js++[j],_,_,hjs.snoc hjk hjn,by simp[hjl],hC3.setm (addS U3 y),hU4,rfl,rfl⟩
            · exfalso;have:Ol K.length ⊆ js:=λj hj=>by
                have hj:=Ow.1 hj;have hjb:j<bs.length:=by omega
                exact(dQ q2 (λi hi=>by have:=hjs.lt i hi;omega) hjb).1 (hall _ (NY hjb))
              have:=QG.length_le_of_subset this
              simp at this;omega
          · rintro e s ⟨js,C3,U3,hjs,hjl,hC3,hU3,rfl,rfl⟩;have h3:=hC2.len2 hC3;have hi:(C3++(Z++[Box.mapX (mapB K) bs c0,.iter (C2.length+Z.length) c0 (cj bs js)]))[C2.length+(Z.length+1)]?=Sd (.iter (C2.length+Z.length) c0 (cj bs js)):=gCi C3 h3 _ 1;have hm2:(C3++(Z++[Box.mapX (mapB K) bs c0,.iter (C2.length+Z.length) c0 (cj bs js)]))[C2.length+Z.length]?=Sd (.mapX (mapB K) bs c0):=gCi0 C3 h3 _;simp only[vqM,zB,vsIt];refine et hi hm2 q3 (λj hj hjb hns=>?_) (λhall=>?_)
            · exact absurd ((dQ q2 (λi hi=>by have:=hjs.lt i hi;omega) hjb).2 (hjs.all hjl (by omega))) hns
            · simp only[vqM,hwk];refine ae [1,2,5,6,28,29,30] ?_;simp only[vke,zB,zA];refine ih _ _ ⟨C3,_,r,U3,rfl,rfl,hC3,hpk2,λy=>?_⟩;rw[hU3,hused,Od,←hU,←hKm];constructor
              · rintro(h|⟨i,hi,hil,rfl⟩)
                · exact .inl h
                · exact .inr (NY hil)
              · rintro(h|h)
                · exact .inl h
                · obtain⟨i,hi,rfl⟩:=Oa h;exact .inr ⟨i,hjs.all hjl hi,hi,rfl⟩
          · rfl
  · rintro e s ⟨C,X,q,U,rfl,rfl,hC,hpk,hU⟩;have hklt:((h.es.length:Int)<(h.es.length:Int))=False:=by simp
    have hps:playS h=Sd q:=hpk;rw[hpl,hps];have hl1:B.length+1<C.length:=by have:=hC.ln;omega
    have g1:∀X:List Box,(C++X)[B.length+1]?=Sd (.cells [.slice .nil [],.slice .nil [],.slice .nil [],.slice .nil [],.int .i64 0,.int .i64 0,.int .i64 0,.slice .nil [],.slice .nil [],.slice .nil []]):=λX=>bP hC.z0;have gp:∀X:List Box,(C++X)[ip]?=Sd (.cells q.cells):=λX=>bP hC.pr;have gs1:∀(X:List Box)(v:Box),(C++X).set (B.length+1) v=C.set (B.length+1) v++X:=λX v=>PX _ _ hl1;have gs2:∀(X:List Box)(v:Box),(C.set (B.length+1) v++X)[B.length+1]?=Sd v:=λX v=>by rw[Ou (by simp;exact hl1),Om hl1]
    simp only[vqM,cb,zA,zB,hklt,decide_false,g1,gp,gs1];refine iY (.inr rfl) ?_ (cQ (aL (Pg.bd _)) (.int _ _)) (hC.set1 _);simp only[vqM,cb,gs2]
end Go.V
namespace Go.Proofs
open Go.Shelf
def Tryz.laysSort_ren:Go.Shelf.Ren:=⟨λ|189=>76|125=>130|257=>129|128=>183|129=>184|294=>174|295=>175|296=>176|297=>177|298=>178|299=>179|216=>180|300=>181|301=>182|328=>226|329=>227|330=>228|331=>229|332=>230|215=>204|343=>275|n=>n,λ|28=>32|3=>3|46=>209|0=>0|51=>256|53=>258|4=>4|183=>249|182=>248|131=>222|5=>5|9=>9|218=>294|222=>298|228=>331|229=>332|n=>n,λ|n=>n⟩
theorem Tryz.laysSort:Go.Proofs.Lays.n189 Si Tryz.laysSort_ren:={
 mixed:=by kernel_rfl
 f125:=func130.trans (congrArg Sd (by kernel_rfl))
 f128:=func183.trans (congrArg Sd (by kernel_rfl))
 f129:=func184.trans (congrArg Sd (by kernel_rfl))
 f189:=func76.trans (congrArg Sd (by kernel_rfl))
 f215:=func204.trans (congrArg Sd (by kernel_rfl))
 f216:=func180.trans (congrArg Sd (by kernel_rfl))
 f257:=func129.trans (congrArg Sd (by kernel_rfl))
 f294:=func174.trans (congrArg Sd (by kernel_rfl))
 f295:=func175.trans (congrArg Sd (by kernel_rfl))
 f296:=func176.trans (congrArg Sd (by kernel_rfl))
 f297:=func177.trans (congrArg Sd (by kernel_rfl))
 f298:=func178.trans (congrArg Sd (by kernel_rfl))
 f299:=func179.trans (congrArg Sd (by kernel_rfl))
 f300:=func181.trans (congrArg Sd (by kernel_rfl))
 f301:=func182.trans (congrArg Sd (by kernel_rfl))
 f328:=func226.trans (congrArg Sd (by kernel_rfl))
 f329:=func227.trans (congrArg Sd (by kernel_rfl))
 f330:=func228.trans (congrArg Sd (by kernel_rfl))
 f331:=func229.trans (congrArg Sd (by kernel_rfl))
 f332:=func230.trans (congrArg Sd (by kernel_rfl))
 f343:=func275.trans (congrArg Sd (by kernel_rfl))
 t0:=Tryz.underlying0
 a0:=Tryz.isAgg0
 z0:=Tryz.sizeOf0
 v0:=Tryz.zeroValue0
 t3:=Tryz.underlying3
 a3:=Tryz.isAgg3
 z3:=Tryz.sizeOf3
 v3:=Tryz.zeroValue3
 t4:=Tryz.underlying4
 a4:=Tryz.isAgg4
 z4:=Tryz.sizeOf4
 v4:=Tryz.zeroValue4
 t5:=Tryz.underlying5
 a5:=Tryz.isAgg5
 z5:=Tryz.sizeOf5
 v5:=Tryz.zeroValue5
 t9:=Tryz.underlying9
 a9:=Tryz.isAgg9
 z9:=Tryz.sizeOf9
 v9:=Tryz.zeroValue9
 t28:=Tryz.underlying32
 a28:=Tryz.isAgg32
 z28:=Tryz.sizeOf32
 v28:=Tryz.zeroValue32
 t46:=Tryz.underlying209
 a46:=Tryz.isAgg209
 z46:=Tryz.sizeOf209
 v46:=Tryz.zeroValue209
 t51:=Tryz.underlying256
 a51:=Tryz.isAgg256
 z51:=Tryz.sizeOf256
 v51:=Tryz.zeroValue256
 t53:=Tryz.underlying258
 a53:=Tryz.isAgg258
 z53:=Tryz.sizeOf258
 v53:=Tryz.zeroValue258
 t131:=Tryz.underlying222
 a131:=Tryz.isAgg222
 z131:=Tryz.sizeOf222
 v131:=Tryz.zeroValue222
 t182:=Tryz.underlying248
 a182:=Tryz.isAgg248
 z182:=Tryz.sizeOf248
 v182:=Tryz.zeroValue248
 t183:=Tryz.underlying249
 a183:=Tryz.isAgg249
 z183:=Tryz.sizeOf249
 v183:=Tryz.zeroValue249
 t218:=Tryz.underlying294
 a218:=Tryz.isAgg294
 z218:=Tryz.sizeOf294
 v218:=Tryz.zeroValue294
 t222:=Tryz.underlying298
 a222:=Tryz.isAgg298
 z222:=Tryz.sizeOf298
 v222:=Tryz.zeroValue298
 t228:=Tryz.underlying331
 a228:=Tryz.isAgg331
 z228:=Tryz.sizeOf331
 v228:=Tryz.zeroValue331
 t229:=Tryz.underlying332
 a229:=Tryz.isAgg332
 z229:=Tryz.sizeOf332
 v229:=Tryz.zeroValue332}
end Go.Proofs
namespace Go.V
open Go.Proofs Go.Proofs.Tryz Go.Sort
set_option maxRecDepth 20000
set_option maxHeartbeats 4000000
theorem Jr(l:List Int){b:Nat}{B:List Box}{L:List Nat}{c:Nat}(hb:B[b]?=Sd (.cells (cf l)))(hn:l.length≤1000000):aS Si 76 [.row b 0 l.length 1] ⟨B,L,c⟩
  λr s=>r=.tup []∧s=⟨B.set b (.cells (cf (fT l))),L,c⟩:=by
 intro vs w g ha hw;refine⟨mj func76 (by decide) rfl,?_⟩;have hsz:vs.size=1:=ha.1.symm;have hR:=ha.2 0 (by simp) (by omega);simp only[List.getElem_cons_zero]at hR;generalize hv:vs[0]=v at hR;have hvs:vs = #[v]:=by
  refine Array.ext (by simp[hsz]) λi h1 h2=>?_;have:i=0:=by simp at h2;omega
  subst this;simpa using hv
 subst hvs;obtain⟨blk,arr,T,fr,q1,q2,q3,q4,q5,rfl⟩:=hw.box b _ hb;cases hR with
 |row _ _ _ _ blk' m cap hB hS hcap hmax hz hm =>
  rw[q1]at hB;cases hB;have hil:(cf l).length=l.length:=by simp[cf]
  have hH:Holds (Value.int .i64) w blk 0 l.toArray:=by
   intro j hj;have hjl:j<l.length:=by simpa using hj
   have hja:j<arr.size:=by omega
   have h1:=(q4 j (by omega) hja).1;have h2:(cf l)[j]'(by omega)=.int .i64 l[j]:=by simp[cf]
   rw[h2]at h1;have h3':∀x:Value,R g (.int .i64 l[j]) x→x=.int .i64 l[j]:=λx h=>by cases h;rfl
   have h3:arr[j]=.int .i64 l[j]:=h3' _ h1;have h4:l.toArray[j]! = l[j]:=getElem!_pos l.toArray j hj;refine⟨?_,?_⟩
   ·simp only[World.cell?,q2,OF];rw[h4,←h3];simp[hja]
   ·simp[World.frozen?,q2]
  have hblk:blk<w.heap.size:=bU q2;have hc:Calls Si 76 #[.slice (Sd ⟨blk,0,Sf⟩) l.length cap] w λe w'=>e=.returned (.tuple #[])∧∃n os,w'=grow (putRow (Value.int .i64) (Sort.ahead w n) blk 0 (l.mergeSort λx y=>decide (x≤y)).toArray) os:=
   calls_of_every_depth λD=>AnyS.slices_Sort_int_alone Tryz.laysSort D blk 0 cap l w hH hblk (by omega)
  refine CallsIn.mono ((callsIn_wide (n:=0)).2 hc) λe w' h=>?_;obtain⟨rfl,n,os,rfl⟩:=h;have hsl:(l.mergeSort λx y=>decide (x≤y)).length=l.length:=(Qp _ _).length_eq;obtain⟨arr',e1,e2,e3,e4,e5,e6,e7,e8⟩:=xZ (n:=n) (os:=os) (ys:=l.mergeSort λx y=>decide (x≤y)) q2 (by omega);refine⟨_,g,.tup [],_,⟨rfl,rfl⟩,rfl,.refl g,?_,.tup _ _ rfl λi h1=>by simp at h1⟩;refine hw.swap (b:=b) hb q1 q2 e1 e2 e4 e5 e6 e7 e8 (by simp[cf,fT]) λj h1 h2=>?_;have hj:j<(l.mergeSort λx y=>decide (x≤y)).length:=by simpa[cf,fT]using h1
  rw[e3 j hj h2];have:(cf (fT l))[j]=.int .i64 (l.mergeSort λx y=>decide (x≤y))[j]:=by simp[cf,fT]
  rw[this];exact⟨.int _ _,rfl⟩
open Go.Proofs Go.Proofs.Tryz
def FI(bs:List Box)(lo:Nat)(row:D)(l:List Int):Prop:=(l=[]∧row=.row0)∨∃i,lo≤i∧row=.row i 0 l.length 1∧bs[i]?=Sd (.cells (cf l))
theorem FI.shift{bs:List Box}{lo:Nat}{row:D}{l:List Int}{x:Box}{j:Nat}(h:FI bs lo row l)(hj:j<lo):FI (bs.set j x) lo row l:=by
 rcases h with h|⟨i,h1,h2,h3⟩
 ·exact .inl h
 ·exact .inr ⟨i,h1,h2,by rw[Oj (by omega)];exact h3⟩
theorem GO(l m:List Int):cf (l++m)=cf l++cf m:=by simp[cf]
theorem vW(l:List Int):(cf l).length=l.length:=by simp[cf]
theorem M8{P:Program}{T e:TypeId}{by_:Nat}{ag:Bool}{zs:List D}(hel:elemT P T=Sd (e,1,by_,ag))(hz:zeroT P e=Sd zs)(hzl:zs.length=1)(hby:0<by_∧by_≤1000000){row:D}{l:List Int}{bs:List Box}{lo:Nat}(hlo:lo≤bs.length)(hr:FI bs lo row l)(hn:l.length+1≤1000000){o:Own}{h:Int}{L:List Nat}{c:Nat}{K:DC}
  (hK:∀row' X',FI (bs.take lo++X') lo row' (l++[h])→@dI row' ⟨bs.take lo++X',L,c⟩ K):@lV (cW P T T row (.slice o [[.int .i64 h]]) ⟨bs,L,c⟩) K:=by
 have hsp:bs=bs.take lo++bs.drop lo:=(OC lo bs).symm;rcases hr with ⟨rfl,rfl⟩|⟨i,h1,rfl,h3⟩
 ·rw[lR];unfold apZ;simp only[hel,hz];refine⟨⟨hzl,by omega,hby.1,hby.2⟩,λx hx=>by simp at hx;subst hx;rfl,?_⟩;rw[if_neg (by simp)];refine⟨by simp,?_⟩;have:=hK (.row bs.length 0 1 1) (bs.drop lo++[.cells [.int .i64 h]]) (.inr ⟨bs.length,hlo,rfl,by rw[←K9,OC,Oe];simp[cf]⟩)
  rw[←K9,OC]at this;unfold dI at this;simpa using this
 ·rw[lS];unfold apR;simp only[hel,hz,h3];refine⟨⟨hzl,by omega,hby.1,hby.2⟩,λx hx=>by simp at hx;subst hx;rfl,by simp,by rw[vW];omega,by simpa using hn,?_⟩;have hil:=(M5.1 h3).1;have hset:bs.set i .dead=bs.take lo++(bs.drop lo).set (i-lo) .dead:=by
   conv=>lhs;rw[hsp]
   rw[O3 _ _ (by simp;omega)];congr 2;simp;omega
  have:=hK (.row bs.length 0 (l.length+1) 1) ((bs.drop lo).set (i-lo) .dead++[.cells (cf l++[.int .i64 h])]) (.inr ⟨bs.length,hlo,by simp,by rw[←K9,←hset,GO];simp[cf]⟩)
  rw[←K9,←hset]at this;unfold dI at this;simpa using this
theorem DK{l m:List Int}(h1:l.Nodup)(h2:m.Nodup)(h:∀x,x∈l↔x∈m):fT l=fT m:=by
 have hp:l.Perm m:=(Qw h1 h2).2 h;refine uc ((Qp _ _).trans hp) ?_;have:=List.pairwise_mergeSort (le:=λa b=>decide (a≤b)) (λa b c h1 h2=>by simp at *;omega) (λa b=>by simp;omega) l
 exact this.imp λh=>by simpa using h
def usedL(h:Hi):List Int:=fT (setS (cM h.first h.es))
theorem m3{n:Nat}:∀{l:List Df},(∀d∈l,DfN n d)→(sitesD l).length≤l.length*(40+n)
 | [],_=>by simp[sitesD]
 |d::l,h=>by
  have h1:=m3 (l:=l) λx hx=>h x (by simp[hx]);have h2:=(h d (by simp)).ct;have h3:(sitesS d).length=cu d.body+1:=by simp only[sitesS,sitesL,K5,OH,OA,bQ]
  simp only[sitesD,PS,K5,K7]at h1⊢;rw[PK];omega
theorem lZ{n:Nat}{first:Pg}(h1:∀d∈first.defs,DfN n d)(h2:first.defs.length≤40)(hn:n≤12):∀{l:List Ed},(∀e∈l,EdN n e)→(cM first l).length≤41000+l.length*2100
 | [],_=>by
  have h3:=m3 h1;have h4:first.defs.length*(40+n)≤40*52:=Qr h2 (by omega)
  simp[cM];omega
 |e::l,h=>by
  have h3:=lZ (first:=first) h1 h2 hn (l:=l) λx hx=>h x (by simp[hx]);have he:=h e (by simp);have h4:=m3 he.df;have h5:e.defs.length*(40+n)≤2*52:=Qr he.dl (by omega);simp only[cM,PS,K5,K7]at h3⊢;rw[PK];split
  ·omega
  ·simp only[L4];omega
theorem Mq(h:Hi){n m:Nat}(H:HiN n m h)(hn:n≤12)(hm:h.es.length≤100)(hne:h.first.defs≠[])(s:St):az Si 32 [.agg h.cells] s (.slice .none (aj (usedL h))) s:=by
 obtain⟨B,L,c⟩:=s;have R:=Gd.of H.fi.pr;have hok:=H.fi.ok hn;have hel:elemT Si 32=Sd (3,1,8,Se):=by kernel_rfl
 have hz:zeroT Si 3=Sd [.int .i64 0]:=by kernel_rfl
 refine aS.freeze (Z:=λr s=>∃i X,B.length≤i∧r=.row i 0 (usedL h).length 1∧s=⟨B++X,L,c⟩∧(B++X)[i]?=Sd (.cells (cf (usedL h)))) ?_ (cq _) ?_
 ·refine aS.introA [] func32 rfl (by decide) aA (by kernel_rfl) [Sy 2] 47 rfl rfl ?_;simp only[vqM,fP,zA,zS,vsH];refine aa (jM h.first.defs (by have:=R.dl;omega) hok.fl _ L c) ?_;simp only[vqM,fP,zA,vsH,af];refine ae [3,14,15,16] ?_;simp only[vke,zB,zA];refine aE aA h.es.length (λk e s=>∃U X,e=[J,J,J,.map (B.length+1),J,J,J,J,J,J,J,J,J,J,.slice .none (aM h.es),.int .i64 h.es.length,.int .i64 (k:Int),J,J,J,J,J,J,J,J,J,J,J,J,J,J,J,J,J,J,J,J,J,J,J,J,J,J,J,J,J,J]∧s=⟨B++.cells h.cells::.map (mapB U)::X,L,c⟩∧U.Nodup∧∀x,x∈U↔x∈cM h.first (h.es.take k)) ?_ ?_ 0 _ _ (L7 _) ⟨_,[],rfl,rfl,iH _,λx=>by rw[fe];simp[cM]⟩
  ·rintro k e s hk ⟨U,X,rfl,rfl,hUn,hU⟩ ih;have hx:h.es[k]?=Sd h.es[k]:=K4 hk;have hg:(aM h.es)[k]?=Sd (h.es[k].cells):=by simp[aM,hx]
   have hklt:((k:Int)<(h.es.length:Int))=True:=by simp;exact hk
   have hused:cM h.first (h.es.take (k+1))=cM h.first (h.es.take k)++(if h.es[k].op=1 then sitesD h.es[k].defs else[]):=by
    rw[N4,hx,Ov,cM,cM,PM,K9];simp
   have hel2:=H.ed _ (NY hk);generalize h.es[k]=x at hx hg hused hel2;have hwk:SA.wrap ((k:Int)+1)=((k+1:Nat):Int):=ap (by omega);by_cases h1:x.op=1;case neg =>
    have h1':decide (x.op≠1)=Sh:=by simp[h1]
    rw[if_neg h1,Oq]at hused;simp only[vqM,fP,zA,vsE,hklt,decide_true,natle0,K3,hg,h1',hwk];refine ae [3,14,15,16] ?_;simp only[vke,zB,zA];exact ih _ _ ⟨U,_,rfl,rfl,hUn,λy=>by rw[hU,hused]⟩
   have h1':decide (x.op≠1)=Se:=by simp[h1]
   rw[if_pos h1]at hused;simp only[vqM,fP,zA,vsE,hklt,decide_true,natle0,K3,hg,h1'];obtain⟨Z,hZ⟩:∃Z,Z=X++[Box.cells x.cells]:=⟨_,rfl⟩;have hG:B++Box.cells h.cells::Box.map (mapB U)::Z=(B++Box.cells h.cells::Box.map (mapB U)::Z):=rfl;rw[←hZ];refine aa (jM x.defs (by have:=hel2.2;omega) (λd hd=>by have:=(hel2.1.df d hd).ct;rw[bQ];omega) (B++Box.cells h.cells::Box.map (mapB U)::Z) L c) ?_;have hKm:∀y,y∈setS (sitesD x.defs)↔y∈sitesD x.defs:=λy=>fe;generalize setS (sitesD x.defs)=K at hKm;have hKel:∀(j:Nat)(h1:j<(mapB K).length)(h2:j<K.length),(mapB K)[j].1=.int .i64 K[j]:=λj h1 h2=>by simp[mapB]
   have hKl:(mapB K).length=K.length:=dS K;have gi0:∀(es:List (D×D))(W:List Box),(B++Box.cells h.cells::Box.map es::(Z++W))[B.length+(Z.length+1+1)]?=W[0]?:=λes W=>by
    rw[bq,OK,OK,bL]
   have gi1:∀(es:List (D×D))(W:List Box),(B++Box.cells h.cells::Box.map es::(Z++W))[B.length+(Z.length+1+1+1)]?=W[1]?:=λes W=>by
    rw[bq,OK,OK,bq]
   have gs0:∀(es:List (D×D))(W:List Box)(v:Box),(B++Box.cells h.cells::Box.map es::(Z++W)).set (B.length+(Z.length+1+1)) v=B++Box.cells h.cells::Box.map es::(Z++W.set 0 v):=λes W v=>by
    rw[iU,Ph,Ph,ji]
   have gs1:∀(es:List (D×D))(W:List Box)(v:Box),(B++Box.cells h.cells::Box.map es::(Z++W)).set (B.length+(Z.length+1+1+1)) v=B++Box.cells h.cells::Box.map es::(Z++W.set 1 v):=λes W v=>by
    rw[iU,Ph,Ph,iU]
   simp only[vqM,vsIt];refine ik (by rfl) (gi0 _ _) λbs c0 q1 q2 q3=>?_;dsimp only;rw[gs0];simp only[vqM,zA];refine ae [3,14,15,16,26] ?_;simp only[vke,zB,zA];refine aE aA K.length (λj e s=>∃js U3,Js K.length js∧js.length=j∧U3.Nodup∧(∀y,y∈U3↔y∈U∨∃i∈js,∃hi:i<K.length,K[i]=y)∧e=[J,J,J,.map (B.length+1),J,J,J,J,J,J,J,J,J,J,.slice .none (aM h.es),.int .i64 h.es.length,.int .i64 (k:Int),J,J,J,J,J,J,J,J,J,.box (B.length+(Z.length+1+1+1)) 0,J,J,J,J,J,J,J,J,J,J,J,J,J,J,J,J,J,J,J,J]∧s=⟨B++.cells h.cells::.map (mapB U3)::(Z++[.mapX (mapB K) bs c0,.iter (B.length+(Z.length+1+1)) c0 (cj bs js)]),L,c⟩) ?_ ?_ 0 _ _ (L7 _) ⟨[],U,⟨.nil,by simp⟩,rfl,hUn,by simp,rfl,?_⟩
   ·rintro k2 e s hk2 ⟨js,U3,hjs,hjl,hU3n,hU3,rfl,rfl⟩ ih2;have hi:(B++Box.cells h.cells::Box.map (mapB U3)::(Z++[Box.mapX (mapB K) bs c0,.iter (B.length+(Z.length+1+1)) c0 (cj bs js)]))[B.length+(Z.length+1+1+1)]?=Sd (.iter (B.length+(Z.length+1+1)) c0 (cj bs js)):=gi1 _ _;have hm2:(B++Box.cells h.cells::Box.map (mapB U3)::(Z++[Box.mapX (mapB K) bs c0,.iter (B.length+(Z.length+1+1)) c0 (cj bs js)]))[B.length+(Z.length+1+1)]?=Sd (.mapX (mapB K) bs c0):=gi0 _ _;simp only[vqM,vsIt];refine et hi hm2 q3 (λj hj hjb hns=>?_) (λhall=>?_)
    ·have hjk:j<K.length:=by omega
     have hjn:j ∉ js:=λh=>hns ((dQ q2 (λi hi=>by have:=hjs.lt i hi;omega) hjb).2 h);have hpb:cj bs js++[bs[j]]=cj bs (js++[j]):=by simp[cj,Pi,hjb]
     dsimp only;rw[gs1];simp only[Ph,Qk];have hi2:(B++Box.cells h.cells::Box.map (mapB U3)::(Z++[Box.mapX (mapB K) bs c0,.iter (B.length+(Z.length+1+1)) c0 (cj bs js++[bs[j]])]))[B.length+(Z.length+1+1+1)]?=Sd (.iter (B.length+(Z.length+1+1)) c0 (cj bs js++[bs[j]])):=gi1 _ _;have hm3:(B++Box.cells h.cells::Box.map (mapB U3)::(Z++[Box.mapX (mapB K) bs c0,.iter (B.length+(Z.length+1+1)) c0 (cj bs js++[bs[j]])]))[B.length+(Z.length+1+1)]?=Sd (.mapX (mapB K) bs c0):=gi0 _ _;simp only[vqM,vsIt];refine iq hi2 hm3 hj hjb (by simp) ?_;rw[hKel j hj hjk];obtain⟨fr,hfr1,hfr2⟩:=qq (l:=U3) (n:=K[j]);have hU4:∀y,y∈addS U3 K[j]↔y∈U∨∃i∈js++[j],∃hi:i<K.length,K[i]=y:=λy=>by
      rw[uh,hU3];constructor
      ·rintro((h|⟨i,hi,hil,rfl⟩)|rfl)
       ·exact .inl h
       ·exact .inr ⟨i,by simp[hi],hil,rfl⟩
       ·exact .inr ⟨j,by simp,hjk,rfl⟩
      ·rintro(h|⟨i,hi,hil,rfl⟩)
       ·exact .inl (.inl h)
       ·rcases Od.1 hi with hi|hi
        ·exact .inl (.inr ⟨i,hi,hil,rfl⟩)
        ·simp at hi;subst hi;exact .inr rfl
     generalize K[j]=y at hfr1 hfr2 hU4;rw[hpb];simp only[vqM,fP,hfr1,hfr2];refine ae [3,14,15,16,26] ?_;simp only[vke,zB,zA];exact ih2 _ _ ⟨js++[j],_,hjs.snoc hjk hjn,by simp[hjl],tP hU3n,hU4,rfl,rfl⟩
    ·exfalso;have:Ol K.length ⊆ js:=λj hj=>by
      have hj:=Ow.1 hj;have hjb:j<bs.length:=by omega
      exact(dQ q2 (λi hi=>by have:=hjs.lt i hi;omega) hjb).1 (hall _ (NY hjb))
     have:=QG.length_le_of_subset this
     simp at this;omega
   ·rintro e s ⟨js,U3,hjs,hjl,hU3n,hU3,rfl,rfl⟩;have hi:(B++Box.cells h.cells::Box.map (mapB U3)::(Z++[Box.mapX (mapB K) bs c0,.iter (B.length+(Z.length+1+1)) c0 (cj bs js)]))[B.length+(Z.length+1+1+1)]?=Sd (.iter (B.length+(Z.length+1+1)) c0 (cj bs js)):=gi1 _ _;have hm2:(B++Box.cells h.cells::Box.map (mapB U3)::(Z++[Box.mapX (mapB K) bs c0,.iter (B.length+(Z.length+1+1)) c0 (cj bs js)]))[B.length+(Z.length+1+1)]?=Sd (.mapX (mapB K) bs c0):=gi0 _ _;simp only[vqM,vsIt];refine et hi hm2 q3 (λj hj hjb hns=>?_) (λhall=>?_)
    ·exact absurd ((dQ q2 (λi hi=>by have:=hjs.lt i hi;omega) hjb).2 (hjs.all hjl (by omega))) hns
    ·simp only[vqM,hwk];refine ae [3,14,15,16] ?_;simp only[vke,zB,zA];refine ih _ _ ⟨U3,_,rfl,rfl,hU3n,λy=>?_⟩;rw[hU3,hused,Od,←hU,←hKm];constructor
     ·rintro(h|⟨i,hi,hil,rfl⟩)
      ·exact .inl h
      ·exact .inr (NY hil)
     ·rintro(h|h)
      ·exact .inl h
      ·obtain⟨i,hi,rfl⟩:=Oa h;exact .inr ⟨i,hjs.all hjl hi,hi,rfl⟩
   ·rfl
  ·rintro e s ⟨U,X,rfl,rfl,hUn,hU⟩;have hklt:((h.es.length:Int)<(h.es.length:Int))=False:=by simp
   rw[N6]at hU;have hUl:U.length≤300000:=by
    have h1:=hUn.length_le_of_subset (l₂:=cM h.first h.es) λx hx=>(hU x).1 hx;have h2:=lZ H.fi.df R.dl hn λe he=>(H.ed e he).1;omega
   have hUe:U≠[]:=by
    intro e;obtain⟨d,hd⟩:=List.exists_mem_of_ne_nil _ hne;have h1:d.site∈cM h.first h.es:=by
     rw[cM,Od];exact .inl (List.mem_flatMap.2 ⟨d,hd,by simp[sitesS]⟩)
    rw[←hU,e]at h1;simp at h1
   simp only[vqM,hklt,decide_false,vsIt];refine ik (by rfl) (by rw[bq];rfl) λbs c0 q1 q2 q3=>?_;simp only[vqM];refine ae [7,35] ?_;simp only[vke,zB,zA];refine xN (to 7 (d:=.slice .nil []) rfl oP) ?_;simp only[Ph,Qk];have hKel:∀(j:Nat)(h1:j<(mapB U).length)(h2:j<U.length),(mapB U)[j].1=.int .i64 U[j]:=λj h1 h2=>by simp[mapB]
   have hKl:(mapB U).length=U.length:=dS U;have gi:∀(it:Box)(W:List Box),(B++Box.cells h.cells::Box.mapX (mapB U) bs c0::(X++it::W))[B.length+(X.length+1+1)]?=Sd it:=λit W=>by
    rw[bq,OK,OK,bL];rfl
   have gs:∀(it:Box)(W:List Box)(v:Box),(B++Box.cells h.cells::Box.mapX (mapB U) bs c0::(X++it::W)).set (B.length+(X.length+1+1)) v=B++Box.cells h.cells::Box.mapX (mapB U) bs c0::(X++v::W):=λit W v=>by
    rw[iU,Ph,Ph,ji];rfl
   have gmx:∀(W:List Box),(B++Box.cells h.cells::Box.mapX (mapB U) bs c0::W)[B.length+1]?=Sd (.mapX (mapB U) bs c0):=λW=>by rw[bq];rfl
   have gtk:∀(it:Box)(W:List Box),(B++Box.cells h.cells::Box.mapX (mapB U) bs c0::(X++it::W)).take (B.length+(X.length+3))=B++Box.cells h.cells::Box.mapX (mapB U) bs c0::(X++[it]):=λit W=>by
    have e1:B++Box.cells h.cells::Box.mapX (mapB U) bs c0::(X++it::W)=(B++Box.cells h.cells::Box.mapX (mapB U) bs c0::(X++[it]))++W:=by simp
    rw[e1,List.take_left'];simp
   refine aE aA U.length (λj e s=>∃js row X2,Js U.length js∧js.length=j∧FI s.boxes (B.length+(X.length+3)) row (pickL U js)∧e=[J,J,J,J,J,J,J,row,J,J,J,J,J,J,J,J,J,J,J,J,J,J,J,J,J,J,J,J,J,J,J,J,J,J,J,.box (B.length+(X.length+1+1)) 0,J,J,J,J,J,J,J,J,J,J,J]∧s=⟨B++.cells h.cells::.mapX (mapB U) bs c0::(X++.iter (B.length+1) c0 (cj bs js)::X2),L,c⟩) ?_ ?_ 0 _ _ (L7 _) ⟨[],.row0,[],⟨.nil,by simp⟩,rfl,.inl ⟨rfl,rfl⟩,rfl,rfl⟩
   ·rintro k2 e s hk2 ⟨js,row,X2,hjs,hjl,hrow,rfl,rfl⟩ ih2;simp only at hrow;simp only[vqM,vsIt];refine et (gi _ _) (gmx _) q3 (λj hj hjb hns=>?_) (λhall=>?_)
    ·have hjk:j<U.length:=by omega
     have hjn:j ∉ js:=λh=>hns ((dQ q2 (λi hi=>by have:=hjs.lt i hi;omega) hjb).2 h);have hpb:cj bs js++[bs[j]]=cj bs (js++[j]):=by simp[cj,Pi,hjb]
     have hpl:pickL U js++[U[j]]=pickL U (js++[j]):=by simp[pickL,Pi,hjk]
     dsimp only;rw[gs];simp only[vqM,vsIt];refine iq (gi _ _) (gmx _) hj hjb (by simp) ?_;rw[hKel j hj hjk,hpb];simp only[vqM,fP,zA,zM,zL];have hrow2:FI (B++.cells h.cells::.mapX (mapB U) bs c0::(X++.iter (B.length+1) c0 (cj bs (js++[j]))::X2)) (B.length+(X.length+3)) row (pickL U js):=by
      have:=hrow.shift (j:=B.length+(X.length+1+1)) (x:=.iter (B.length+1) c0 (cj bs (js++[j]))) (by omega)
      rw[gs]at this;exact this
     refine M8 hel hz rfl (by decide) (by simp) hrow2 (by simp[pickL];omega) λrow' X' hr'=>?_;rw[gtk]at hr'⊢;rw[hpl]at hr';simp only[K9,Ob,Oe]at hr';simp only[vqM];refine ae [7,35] ?_;simp only[vke,zB,zA];exact ih2 _ _ ⟨js++[j],row',X',hjs.snoc hjk hjn,by simp[hjl],hr',rfl,rfl⟩
    ·exfalso;have:Ol U.length ⊆ js:=λj hj=>by
      have hj:=Ow.1 hj;have hjb:j<bs.length:=by omega
      exact(dQ q2 (λi hi=>by have:=hjs.lt i hi;omega) hjb).1 (hall _ (NY hjb))
     have:=QG.length_le_of_subset this
     simp at this;omega
   ·rintro e s ⟨js,row,X2,hjs,hjl,hrow,rfl,rfl⟩;simp only at hrow;have hperm:=AD hjs hjl;have hus:fT (pickL U js)=usedL h:=by
     rw[usedL];refine DK (hperm.nodup_iff.2 hUn) (iH _) λx=>?_;rw[hperm.mem_iff,fe,hU]
    have hpl2:(pickL U js).length=U.length:=hperm.length_eq;generalize pickL U js=l at hrow hus hpl2 hperm;simp only[vqM,vsIt];refine et (gi _ _) (gmx _) q3 (λj hj hjb hns=>?_) (λhall=>?_)
    ·exact absurd ((dQ q2 (λi hi=>by have:=hjs.lt i hi;omega) hjb).2 (hjs.all hjl (by omega))) hns
    ·simp only[vqM];rcases hrow with ⟨h1,rfl⟩|⟨i,h1,rfl,h3⟩
     ·exfalso;rw[h1]at hpl2;exact hUe (List.length_eq_zero_iff.1 (by simpa using hpl2.symm))
     ·refine bj (Jr l h3 (by omega)) ?_;rintro r t ⟨rfl,rfl⟩;rw[hus];have hil:=(M5.1 h3).1;have hi2:B.length≤i:=by omega
      have hset:∀(W:List Box)(v:Box),(B++W).set i v=B++W.set (i-B.length) v:=λW v=>O3 _ _ hi2;have hll:l.length=(usedL h).length:=by rw[←hus,fT,List.length_mergeSort]
      rw[hset];simp only[vqM];rw[hll];refine eK (.inr rfl) (r:=.row i 0 (usedL h).length 1) ?_ ⟨i,_,hi2,rfl,rfl,?_⟩
      ·simp only[vqM]
      ·rw[←hset,Om hil]
 ·rintro r s ⟨i,X,hi,rfl,rfl,hX⟩;refine⟨X,L,c,rfl,λ_ h=>h,K6 _,.inr ⟨i,0,_,1,_,rfl,by omega,hX,?_,by simp[aj],ba _⟩⟩;rw[Pz,N1 (by rw[vW];omega)];induction usedL h with
  |nil=>rfl
  |cons y ys ih=>simp only[cf,aj,OJ,List.flatten_cons]at ih⊢;rw[ih];rfl
structure Cd where
 p:Pg
 e:Int
def Cd.cells(x:Cd):List D:=x.p.cells++[.int .i64 x.e]
def apC(r:Option Pg):Cd:=⟨r.getD Pg.zero,if r.isSome then 0 else 220⟩
def playC(h:Hi):Cd:=if programS h.first=0 then apC (playS h)else⟨Pg.zero,programS h.first⟩
theorem JX(h:Hi):o7 h=.tup [.agg (playC h).p.cells,.int .i64 (playC h).e]:=by
 rw[o7,playC];split
 ·cases playS h<;>rfl
 ·rfl
theorem Hr(r:Option Pg):uV r=.tup [.agg (apC r).p.cells,.int .i64 (apC r).e]:=rfl
theorem Cd.bd{nb nl:Nat}(x:Cd):∀d∈x.cells,Bd nb nl d:=by
 intro d hd;rcases Od.1 hd with h|h
 ·exact Pg.bd _ d h
 ·simp at h;subst h;exact .int _ _
theorem aW:(∀x:Cd,x.cells.length=11)∧(∀x:Cd,x.cells.take 10=x.p.cells)∧(∀x:Cd,(x.cells.drop 10)[0]?=Sd (.int .i64 x.e))∧((10≤11)=True)∧(∀x:Cd,x.p.cells++[D.int .i64 x.e]=x.cells)∧(∀x:Cd,x.cells.map D.plain1=x.cells)∧(∀x:Cd,x.cells.take 11=x.cells):=
 ⟨λ_=>rfl,λ_=>rfl,λ_=>rfl,by simp,λ_=>rfl,λ_=>rfl,λ_=>rfl⟩
theorem eU(p:Pg)(e:Ed)(H:ApH p e)(s:St):az Si 18 [.agg p.cells,.agg e.cells] s (.agg (apC (applyS p e)).cells) s:=by
 obtain⟨B,L,c⟩:=s;refine az.introN [] func18 rfl (by decide) aA (by kernel_rfl) [Sz 4 45] 16 rfl rfl ?_;simp only[vqM,bK,lA,dr,zA,zS,vsE];refine aa (Cf p e H _) ?_;rw[Hr];generalize apC (applyS p e)=r;simp only[vqM,bK,lA,dr,zA,aW];refine SB ?_ (aL (Cd.bd _));simp only[vqM,bK,lA,dr,aW]
theorem iA(h:Hi){n m:Nat}(hok:PgOk h.first)(H:programS h.first=0→HiN n m h)(hn:n≤12)(hm:m+cntD h.es≤12)(hl30:h.es.length≤30)(s:St):az Si 27 [.agg h.cells] s (.agg (playC h).cells) s:=by
 obtain⟨B,L,c⟩:=s;refine az.introN [] func27 rfl (by decide) aA (by kernel_rfl) [Sz 2 45] 13 rfl rfl ?_;simp only[vqM,bK,jL,lA,zA,zS,vsH];refine aa (Jv h hok H hn hm hl30 _) ?_;rw[JX];generalize playC h=r;simp only[vqM,bK,jL,lA,zA,aW];refine SB ?_ (aL (Cd.bd _));simp only[vqM,bK,jL,lA,aW]
theorem tX(h:Hi){n m:Nat}(hok:PgOk h.first)(H:programS h.first=0→HiN n m h)(hn:n≤12)(hm:m+h.es.length≤12)(s:St):az Si 27 [.agg h.cells] s (.agg (playC h).cells) s:=
 iA h hok H hn (by have:=pO h.es;omega) (by omega) s
def spS:Sm:=.mk 1 24 0 0 0 (.mk 1 0 5 []) (.mk 0 0 0 []) (.mk 0 [] []) [] [] [] []
def spD:Df:=⟨7,2,⟨#[97]⟩,0,0,[],[],1,0,[],9,[spS]⟩
def spP:Pg:=⟨⟨[],[],[],[],0,1,1⟩,[⟨7,0,0,[],[]⟩],[spD],[]⟩
theorem wO(n:Int)(s:St):az Si 64 [.int .i64 n] s (.agg (num n).cells) s:=by
 obtain⟨B,L,c⟩:=s;refine az.introN [] func64 rfl (by decide) aA (by kernel_rfl) [Sz 2 124] 5 rfl rfl ?_;simp only[vqM,zA,zS,zL,bT];refine SB ?_ (aL (Ex.bd _));simp only[vqM,zA,bT];rfl
theorem Dh(s:St):az Si 56 [] s (.agg spP.cells) s:=by
 obtain⟨B,L,c⟩:=s;refine az.introN [] func56 rfl (by decide) aA (by kernel_rfl) [Sz 0 38] 12 rfl rfl ?_;simp only[vqM,fO,gk,cR,bK,dZ,eN,bi,cg,zS];refine aa (wO 5 _) ?_;simp only[vqM,fO,gk,cR,bK,dZ,eN,bi,cg,zA,zM,zL];refine SB ?_ (aL (Pg.bd _));simp only[vqM,fO,gk,cR,bK,dZ,eN,bi,cg,zA];rfl
theorem dG(n:Int)(s:St):az Si 29 [.int .i64 n] s (.agg (revE n).cells) s:=by
 obtain⟨B,L,c⟩:=s;refine az.introN [] func29 rfl (by decide) aA (by kernel_rfl) [Sz 2 49] 5 rfl rfl ?_;simp only[vqM,zA,zS,zL,dr];refine SB ?_ (aL (Ed.bd _));simp only[vqM,zA,dr];rfl
theorem kP(x y:Cd)(hx:(wPg x.p).length≤1000000)(hy:(wPg y.p).length≤1000000)(s:St):az Si 30 [.agg x.cells,.agg y.cells] s (.bool (decide (x.e=y.e)&&decide (wPg x.p=wPg y.p))) s:=by
 obtain⟨B,L,c⟩:=s;refine az.introN [] func30 rfl (by decide) aA (by kernel_rfl) [Sy 4] 17 rfl rfl ?_;simp only[vqM,bK,fN,lA,zA,zS,aW];refine am (λhc=>?_) (λhc=>?_)
 ·simp only[vqM,bK,fN,lA,zA,aW,hc];refine aa (gQ _ _ hx hy _) ?_;simp only[vqM];refine SB ?_ (.bool _);simp only[vqM];simp only[K8]
 ·simp only[vqM,hc];refine SB ?_ (.bool _);simp only[vqM];simp only[M7]
theorem oH(l:List Ed):∀x∈aM l,x.length=7:=by
 intro x hx;obtain⟨e,_,rfl⟩:=Og.1 hx;rfl
theorem Hi.bd{nb nl:Nat}(h:Hi):∀d∈h.cells,Bd nb nl d:=by
 intro d hd;rcases Od.1 hd with h|h
 ·exact Pg.bd _ d h
 ·simp only[OE]at h;subst h;exact aV λx hx d hd=>by obtain⟨e,_,rfl⟩:=Og.1 hx;exact Ed.bd e d hd
theorem fQ(h:Hi)(l:List Ed)(hn:h.es.length+l.length≤1000)(s:St):az Si 28 [.agg h.cells,.slice .none (aM l)] s (.agg (Hi.mk h.first (h.es++l)).cells) s:=by
 obtain⟨B,L,c⟩:=s;have h1:(h.es.length≤1000000)=True:=eq_true (by omega);have h2:(h.es.length+l.length≤1000000)=True:=eq_true (by omega);have he:∀m:List Ed,(∀z,z∈aM m→z.length=7)=True:=λm=>eq_true (oH m);refine az.introN [] func28 rfl (by decide) aA (by kernel_rfl) [Sz 4 41] 13 rfl rfl ?_;simp only[vqM,gW,jL,dr,zA,zS,zM,zL,vsH,af,h1,h2,he,OF,List.erase_cons_head,cC];have hc:h.first.cells++[D.slice Own.none (aM h.es++aM l)]=(Hi.mk h.first (h.es++l)).cells:=by simp[Hi.cells,aM]
 rw[hc];refine ao (.inr rfl) ?_ (aL (Hi.bd _)) (λ_ h=>List.mem_cons_of_mem _ h) (by omega);simp only[vqM,gW,jL,dr,vsH];rfl
def nmF:ByteArray:=⟨#[102]⟩
def wY:ByteArray:=⟨#[49,102]⟩
def exN:Ed:=cm 7 nmF
def exE:List Ed:=[exN,revE 0,revE 1]
theorem sp0:programS spP=0:=by decide +kernel
theorem HM:jQ spP:=rfl
theorem spGd:Gd spP:=Gd.of sp0
theorem K0:spD∈spP.defs:=by simp[spP]
theorem spN:PgN 0 1 spP:=⟨sp0,λd hd=>by
 simp only[spP,OE]at hd;subst hd;refine⟨by decide,by decide,by decide,?_⟩;intro q hq;have:flatL 1 spD.body=[⟨spS,1⟩]:=rfl
 rw[this]at hq;simp only[OE]at hq;subst hq;exact⟨by decide,by decide,by decide,by decide⟩,by decide⟩
theorem jh(n:Nat)(id:Int){nm:ByteArray}(h:nm.size≤1000):EdN n (cm id nm):=⟨by simp[cm],h,by simp[cm],by simp[cm],by simp[cm]⟩
theorem G9(n:Nat)(id x:Int):EdN n (vb id x):=⟨by simp[vb],show(0:Nat)≤1000 by omega,by simp[vb],by simp[vb],by simp[vb]⟩
theorem tE(n:Nat)(a:Int):EdN n (revE a):=⟨by simp[revE],show(0:Nat)≤1000 by omega,by simp[revE],by simp[revE],by simp[revE]⟩
def spF:Df:={spD with name:=nmF}
theorem exA:applyS spP exN=Sd (upd spP spF):=by
 have:=tN spGd HM K0 nmF
 rw[if_pos (by decide +kernel)]at this;exact this
theorem exB:applyS spP (cm 8 nmF)=Sf:=by decide +kernel
theorem exC:applyS spP (cm 7 wY)=Sf:=by
 have:=tN spGd HM K0 wY
 rw[if_neg (by decide +kernel)]at this;exact this
theorem Nu:playS ⟨spP,[]⟩=Sd spP:=rfl
theorem exP1:playS ⟨spP,[exN]⟩=Sd (upd spP spF):=by
 have h:=gu spP [] exN;rw[Nu,OY]at h;have h1:(freshB spP [] spP exN&&iw [] exN)=Sh:=by decide +kernel
 rw[if_pos h1,qZ (by decide)]at h;have h2:ek spP []=Sd spP:=rfl;rw[h2,OY,exA]at h;exact h
theorem exX:playS ⟨spP,exE⟩=Sd (upd spP spF):=sN (l:=[]) Nu exP1
theorem exZ:playS ⟨spP,[exN,revE 0]⟩=Sd spP:=m7 (l:=[]) Nu exP1
theorem exY:playS ⟨spP,exE++[revE 1]⟩=Sf:=by
 rw[gu,exX,OY];have:iw exE (revE (1:Nat))=Se:=Ct (by decide +kernel)
 have h2:iw exE (revE 1)=Se:=this;rw[h2,N2];rfl
theorem exU:usedL ⟨spP,exE⟩=[1,2]:=by
 rw[usedL];have:setS (cM spP exE)=[1,2]:=by decide +kernel
 rw[this];exact(uc (List.Perm.refl _) (by decide)).symm
theorem Nv{l:List Ed}(h:∀e∈l,e=exN∨∃a,e=revE a):HiN 0 1 ⟨spP,l⟩:=⟨spN,λe he=>by
 rcases h e he with rfl|⟨a,rfl⟩
 ·exact⟨jh _ _ (by decide),by decide⟩
 ·exact⟨tE _ _,by simp[revE]⟩⟩
structure Bx3 (B pre C:List Box) (i j k:Nat) (x y z:List D):Prop where
 ex:∃X,C=B++(pre++X)
 a:C[i]?=Sd (.cells x)
 b:C[j]?=Sd (.cells y)
 c:C[k]?=Sd (.cells z)
theorem Bx3.mk'{B pre:List Box}{i j k:Nat}{x y z:List D}{C:List Box}(Y:List Box)(hC:C=B++(pre++Y))(h1:(pre++Y)[i]?=Sd (.cells x))(h2:(pre++Y)[j]?=Sd (.cells y))(h3:(pre++Y)[k]?=Sd (.cells z)):Bx3 B pre C (B.length+i) (B.length+j) (B.length+k) x y z:=by
 subst hC;exact⟨⟨Y,rfl⟩,by rw[bq];exact h1,by rw[bq];exact h2,by rw[bq];exact h3⟩
theorem Bx3.low{B pre C:List Box}{i j k:Nat}{x y z:List D}(h:Bx3 B pre C i j k x y z){m:Nat}{v:Box}(hm:pre[m]?=Sd v)(X:List Box):(C++X)[B.length+m]?=Sd v:=by
 obtain⟨Y,rfl⟩:=h.ex;rw[K9,bq,K9];exact bP hm
theorem Bx3.ga{B pre C:List Box}{i j k:Nat}{x y z:List D}(h:Bx3 B pre C i j k x y z)(X:List Box):(C++X)[i]?=Sd (.cells x):=bP h.a
theorem Bx3.gb{B pre C:List Box}{i j k:Nat}{x y z:List D}(h:Bx3 B pre C i j k x y z)(X:List Box):(C++X)[j]?=Sd (.cells y):=bP h.b
theorem Bx3.gc{B pre C:List Box}{i j k:Nat}{x y z:List D}(h:Bx3 B pre C i j k x y z)(X:List Box):(C++X)[k]?=Sd (.cells z):=bP h.c
def A5:List D:=[.int .i64 2,.int .i64 7,.int .i64 0,.str ⟨#[102]⟩,.slice .nil [],.slice .nil [],.slice .nil []]
theorem te{X:PC}(h:@pI X):@pI X:=h
def cA:Cd:=⟨upd spP spF,0⟩
def cN:Cd:=⟨Pg.zero,220⟩
def cS:Cd:=⟨spP,0⟩
theorem pX:playC ⟨spP,exE⟩=cA:=by rw[playC,if_pos sp0,exX];rfl
theorem pY:playC ⟨spP,exE++[revE 1]⟩=cN:=by rw[playC,if_pos sp0,exY];rfl
theorem pZ:playC ⟨spP,[exN,revE 0]⟩=cS:=by rw[playC,if_pos sp0,exZ];rfl
theorem mR:ax cA.p.defs=[spF.cells]:=rfl
theorem cA_w:(wPg cA.p).length≤1000000:=by decide +kernel
theorem cS_w:(wPg cS.p).length≤1000000:=by decide +kernel
theorem xu:(∀x:Cd,(x.cells.drop 8)[0]?=Sd (.slice .none (ax x.p.defs)))∧(cA.e=0)∧(cN.e=220)∧(cS.e=0):=⟨λ_=>rfl,rfl,rfl,rfl⟩
theorem kw(s:St):az Si 14 [] s (.bool Sh) s:=by
 obtain⟨B,L,c⟩:=s;have hA:=ApH.of spN (jh 0 7 (nm:=nmF) (by decide)) (by omega) (show 1+(if (2:Int)=1 then 0 else 0)≤12 by decide);have hB:=ApH.of spN (jh 0 8 (nm:=nmF) (by decide)) (by omega) (show 1+(if (2:Int)=1 then 0 else 0)≤12 by decide);have hC:=ApH.of spN (jh 0 7 (nm:=wY) (by decide)) (by omega) (show 1+(if (2:Int)=1 then 0 else 0)≤12 by decide);refine az.introN [(2,.cut),(3,.stop),(4,.cutT [Se,Se,Se,Se,Se,Se,Se,Sh,Sh] [(0,1),(2,1),(3,1),(4,1),(6,1)]),(5,.stop)] func14 rfl (by decide) aA (by kernel_rfl) [Sy 0] 102 rfl rfl ?_;simp only[vqM,zS,zB];refine aa (Dh _) ?_;simp only[vqM,dO,zA,zB];refine kl ?_;simp only[vqM,dO,zA,zL];refine dJ ?_;refine jj λ_=>?_;refine ic (λe s=>∃C i j k,keep [0,1,2,3,4,5] e=[.bool Se,.box B.length 0,.box (B.length+1) 0,.box i 0,.box j 0,.box k 0,J,J,J,J,J,J,J,J,J,J,J,J,J,J,J,J,J,J,J,J,J,J,J,J,J,J,J,J,J,J,J,J,J,J,J,J,J,J,J,J,J,J,J,J,J,J,J,J,J,J,J,J,J,J,J,J,J,J,J,J,J,J,J,J,J,J,J,J,J,J,J,J,J,J,J,J,J,J,J,J,J,J,J,J,J,J,J,J,J,J,J,J,J,J,J,J]∧s=⟨C,L,c⟩∧Bx3 B [.cells spP.cells,.cells A5] C i j k (apC (applyS spP exN)).cells (apC (applyS spP (cm 8 nmF))).cells (apC (applyS spP (cm 7 wY))).cells) ?_ ?_
 ·skip
  refine eI aA [9,10,11,12,13,14] [⟨[0,1,2,3,4,5,6,7,8,9,10,11,12,13,14],[(0,1),(0,2),(0,3),(1,1),(1,2),(1,3),(2,1),(2,2),(2,3),(3,1),(3,2),(3,3),(5,1),(5,2),(5,3),(6,1),(6,2),(6,3),(8,1),(8,2),(8,3)]⟩,⟨[0,1,2,3,4,5,6,7,8,9,11,10,12,13,14],[(0,1),(0,2),(0,3),(1,1),(1,2),(1,3),(2,1),(2,2),(2,3),(3,1),(3,2),(3,3),(5,1),(5,2),(5,3),(6,1),(6,2),(6,3),(8,1),(8,2),(8,3)]⟩,⟨[0,1,2,3,4,5,6,7,8,10,9,11,12,13,14],[(0,1),(0,2),(0,3),(1,1),(1,2),(1,3),(2,1),(2,2),(2,3),(3,1),(3,2),(3,3),(5,1),(5,2),(5,3),(6,1),(6,2),(6,3),(8,1),(8,2),(8,3)]⟩,⟨[0,1,2,3,4,5,6,7,8,10,11,9,12,13,14],[(0,1),(0,2),(0,3),(1,1),(1,2),(1,3),(2,1),(2,2),(2,3),(3,1),(3,2),(3,3),(5,1),(5,2),(5,3),(6,1),(6,2),(6,3),(8,1),(8,2),(8,3)]⟩,⟨[0,1,2,3,4,5,6,7,8,11,9,10,12,13,14],[(0,1),(0,2),(0,3),(1,1),(1,2),(1,3),(2,1),(2,2),(2,3),(3,1),(3,2),(3,3),(5,1),(5,2),(5,3),(6,1),(6,2),(6,3),(8,1),(8,2),(8,3)]⟩,⟨[0,1,2,3,4,5,6,7,8,11,10,9,12,13,14],[(0,1),(0,2),(0,3),(1,1),(1,2),(1,3),(2,1),(2,2),(2,3),(3,1),(3,2),(3,3),(5,1),(5,2),(5,3),(6,1),(6,2),(6,3),(8,1),(8,2),(8,3)]⟩] (by kernel_rfl) λpl hpl=>?_;simp only[NX,Ot,or_false]at hpl;rcases hpl with rfl|rfl|rfl|rfl|rfl|rfl
  all_goals
   simp only[vqM,dO,zA,zB,N8,N7,N9,Of,M4,NW]
  all_goals
   repeat' (first
    |(with_reducible refine aB ?_ ?_)
    |(with_reducible refine And.intro ?_ ?_)
    |((with_reducible refine aG ?_);refine aa (eU spP exN hA _) ?_;simp only[vqM,dO,zA,zL,N8,N7])
    |((with_reducible refine aG ?_);refine aa (eU spP (cm 8 nmF) hB _) ?_;simp only[vqM,dO,zA,zL,N8,N7])
    |((with_reducible refine aG ?_);refine aa (eU spP (cm 7 wY) hC _) ?_;simp only[vqM,dO,zA,aW,N8,N7])
    |(with_reducible refine te ?_;simp only[vqM]))
  all_goals
   first
    |exact aD ⟨_,B.length+2,B.length+3,B.length+4,by simp only[vke,zB,zA],rfl,.mk' [Box.cells (apC (applyS spP exN)).cells,Box.cells (apC (applyS spP (cm 8 nmF))).cells,Box.cells (apC (applyS spP (cm 7 wY))).cells] rfl rfl rfl rfl⟩
    |exact aD ⟨_,B.length+2,B.length+4,B.length+3,by simp only[vke,zB,zA],rfl,.mk' [Box.cells (apC (applyS spP exN)).cells,Box.cells (apC (applyS spP (cm 7 wY))).cells,Box.cells (apC (applyS spP (cm 8 nmF))).cells] rfl rfl rfl rfl⟩
    |exact aD ⟨_,B.length+3,B.length+2,B.length+4,by simp only[vke,zB,zA],rfl,.mk' [Box.cells (apC (applyS spP (cm 8 nmF))).cells,Box.cells (apC (applyS spP exN)).cells,Box.cells (apC (applyS spP (cm 7 wY))).cells] rfl rfl rfl rfl⟩
    |exact aD ⟨_,B.length+3,B.length+4,B.length+2,by simp only[vke,zB,zA],rfl,.mk' [Box.cells (apC (applyS spP (cm 7 wY))).cells,Box.cells (apC (applyS spP exN)).cells,Box.cells (apC (applyS spP (cm 8 nmF))).cells] rfl rfl rfl rfl⟩
    |exact aD ⟨_,B.length+4,B.length+2,B.length+3,by simp only[vke,zB,zA],rfl,.mk' [Box.cells (apC (applyS spP (cm 8 nmF))).cells,Box.cells (apC (applyS spP (cm 7 wY))).cells,Box.cells (apC (applyS spP exN)).cells] rfl rfl rfl rfl⟩
    |exact aD ⟨_,B.length+4,B.length+3,B.length+2,by simp only[vke,zB,zA],rfl,.mk' [Box.cells (apC (applyS spP (cm 7 wY))).cells,Box.cells (apC (applyS spP (cm 8 nmF))).cells,Box.cells (apC (applyS spP exN)).cells] rfl rfl rfl rfl⟩
 rintro e s ⟨C,i,j,k,he,rfl,hC⟩;simp only[vqM];refine ae [0,1,2,3,4,5] ?_;rw[he];have q1:∀X,(C++X)[B.length]?=Sd (.cells spP.cells):=λX=>hC.low (m:=0) rfl X;have q2:∀X,(C++X)[B.length+1]?=Sd (.cells A5):=λX=>hC.low (m:=1) rfl X;have q3:=hC.ga;have q4:=hC.gb;have q5:=hC.gc;rw[exA,exB,exC]at hC;rw[exA]at q3;rw[exB]at q4;rw[exC]at q5;have r1:C[B.length]?=Sd (.cells spP.cells):=by simpa using q1 []
 have r2:C[B.length+1]?=Sd (.cells A5):=by simpa using q2 []
 refine cI aA ?_;simp only[vqM,zB];refine kl ?_;simp only[vqM,dO,zA,zB,vsH,r1,r2,A5];refine aa (dG 0 _) ?_;simp only[vqM];refine aa (dG 1 _) ?_;simp only[vqM,dO,zA,zM,zL,vsE];refine aa (fQ ⟨spP,[]⟩ exE (by decide) _) ?_;simp only[vqM,dO,zA,vsH,q1,q2,A5];refine aB ⟨aa (dG 0 _) ?_,aa (dG 1 _) ?_,aa (fQ ⟨spP,[]⟩ exE (by decide) _) ?_⟩ ?_
 ·simp only[vqM]
 ·simp only[vqM]
 ·simp only[vqM]
 simp only[vqM];have q6:∀X,(C++Box.cells (Hi.mk spP exE).cells::X)[C.length]?=Sd (.cells (Hi.mk spP exE).cells):=λX=>bL;have hsl:∀(e e' sz by_:Nat)(a:Bool),slS (Sd (.slice e)) (Sd (e',sz,by_,a)) .none (aM exE) Sf (Sd (.int .i64 2))=Sd (.slice .none (aM [exN,revE 0])):=λe e' sz by_ a=>rM (e:=e) (e':=e') (sz:=sz) (by_:=by_) (a:=a) (l:=exE) (k:=2) (by decide);have hX:HiN 0 1 ⟨spP,exE⟩:=Nv (by intro e he;simp only[exE,NX,Ot,or_false]at he;rcases he with rfl|rfl|rfl;exact .inl rfl;exact .inr ⟨_,rfl⟩;exact .inr ⟨_,rfl⟩);have hY:HiN 0 1 ⟨spP,exE++[revE 1]⟩:=Nv (by intro e he;simp only[exE,Ob,Oe,NX,Ot,or_false]at he;rcases he with rfl|rfl|rfl|rfl;exact .inl rfl;exact .inr ⟨_,rfl⟩;exact .inr ⟨_,rfl⟩;exact .inr ⟨_,rfl⟩);have hZ:HiN 0 1 ⟨spP,[exN,revE 0]⟩:=Nv (by intro e he;simp only[NX,Ot,or_false]at he;rcases he with rfl|rfl;exact .inl rfl;exact .inr ⟨_,rfl⟩);have hok:PgOk spP:=spN.ok (by omega);refine dJ ?_;refine jj λ_=>?_;refine ic (λe s=>∃C2 i2 j2 k2,keep [0,1,3,4,5,6,7,8,9] e=[.bool Se,.box B.length 0,J,.box i 0,.box j 0,.box k 0,.box C.length 0,.box i2 0,.box j2 0,.box k2 0,J,J,J,J,J,J,J,J,J,J,J,J,J,J,J,J,J,J,J,J,J,J,J,J,J,J,J,J,J,J,J,J,J,J,J,J,J,J,J,J,J,J,J,J,J,J,J,J,J,J,J,J,J,J,J,J,J,J,J,J,J,J,J,J,J,J,J,J,J,J,J,J,J,J,J,J,J,J,J,J,J,J,J,J,J,J,J,J,J,J,J,J]∧s=⟨C2,L,c⟩∧Bx3 C [.cells (Hi.mk spP exE).cells] C2 i2 j2 k2 (playC ⟨spP,exE⟩).cells (playC ⟨spP,exE++[revE 1]⟩).cells (playC ⟨spP,[exN,revE 0]⟩).cells) ?_ ?_
 ·skip
  refine eI aA [13,14,15,16,17,18] [⟨[0,1,2,3,4,5,6,7,8,9,10,11,12,13,14,15,16,17,18],[(0,1),(0,2),(0,3),(1,1),(1,2),(1,3),(2,1),(2,2),(2,3),(3,1),(3,2),(3,3),(5,1),(5,2),(5,3),(6,1),(6,2),(6,3),(7,1),(7,2),(7,3),(9,1),(9,2),(9,3),(12,1),(12,2),(12,3)]⟩,⟨[0,1,2,3,4,5,6,7,8,9,10,11,12,13,15,14,16,17,18],[(0,1),(0,2),(0,3),(1,1),(1,2),(1,3),(2,1),(2,2),(2,3),(3,1),(3,2),(3,3),(5,1),(5,2),(5,3),(6,1),(6,2),(6,3),(7,1),(7,2),(7,3),(9,1),(9,2),(9,3),(12,1),(12,2),(12,3)]⟩,⟨[0,1,2,3,4,5,6,7,8,9,10,11,12,14,13,15,16,17,18],[(0,1),(0,2),(0,3),(1,1),(1,2),(1,3),(2,1),(2,2),(2,3),(3,1),(3,2),(3,3),(5,1),(5,2),(5,3),(6,1),(6,2),(6,3),(7,1),(7,2),(7,3),(9,1),(9,2),(9,3),(12,1),(12,2),(12,3)]⟩,⟨[0,1,2,3,4,5,6,7,8,9,10,11,12,14,15,13,16,17,18],[(0,1),(0,2),(0,3),(1,1),(1,2),(1,3),(2,1),(2,2),(2,3),(3,1),(3,2),(3,3),(5,1),(5,2),(5,3),(6,1),(6,2),(6,3),(7,1),(7,2),(7,3),(9,1),(9,2),(9,3),(12,1),(12,2),(12,3)]⟩,⟨[0,1,2,3,4,5,6,7,8,9,10,11,12,15,13,14,16,17,18],[(0,1),(0,2),(0,3),(1,1),(1,2),(1,3),(2,1),(2,2),(2,3),(3,1),(3,2),(3,3),(5,1),(5,2),(5,3),(6,1),(6,2),(6,3),(7,1),(7,2),(7,3),(9,1),(9,2),(9,3),(12,1),(12,2),(12,3)]⟩,⟨[0,1,2,3,4,5,6,7,8,9,10,11,12,15,14,13,16,17,18],[(0,1),(0,2),(0,3),(1,1),(1,2),(1,3),(2,1),(2,2),(2,3),(3,1),(3,2),(3,3),(5,1),(5,2),(5,3),(6,1),(6,2),(6,3),(7,1),(7,2),(7,3),(9,1),(9,2),(9,3),(12,1),(12,2),(12,3)]⟩] (by kernel_rfl) λpl hpl=>?_;simp only[NX,Ot,or_false]at hpl;rcases hpl with rfl|rfl|rfl|rfl|rfl|rfl
  all_goals
   simp only[vqM,dO,zB,q6,vsH,N8,N7,N9,Of,M4,NW]
  all_goals
   repeat' (first
    |(with_reducible refine aB ?_ ?_)
    |(with_reducible refine And.intro ?_ ?_)
    |((with_reducible refine aG ?_);refine aa (dG 1 _) ?_;simp only[vqM,dO,zA,zM,zL,vsE,N8,N7])
    |((with_reducible refine aG ?_);refine aa (fQ ⟨spP,exE⟩ [revE 1] (by decide) _) ?_;simp only[vqM,N8,N7])
    |((with_reducible refine aG ?_);refine aa (tX ⟨spP,exE⟩ hok (λ_=>hX) (by omega) (by decide) _) ?_;simp only[vqM,dO,q6,vsH,N8,N7])
    |((with_reducible refine aG ?_);refine aa (tX ⟨spP,exE++[revE 1]⟩ hok (λ_=>hY) (by omega) (by decide) _) ?_;simp only[vqM,dO,zA,hsl,q1,q6,vsH,aW,N8,N7])
    |((with_reducible refine aG ?_);refine aa (tX ⟨spP,[exN,revE 0]⟩ hok (λ_=>hZ) (by omega) (by decide) _) ?_;simp only[vqM,dO,zA,q1,q6,vsH,aW,N8,N7])
    |(with_reducible refine te ?_;simp only[vqM]))
  all_goals
   first
    |exact aD ⟨_,C.length+1,C.length+2,C.length+3,by simp only[vke,zB,zA],rfl,.mk' [Box.cells (playC ⟨spP,exE⟩).cells,Box.cells (playC ⟨spP,exE++[revE 1]⟩).cells,Box.cells (playC ⟨spP,[exN,revE 0]⟩).cells] rfl rfl rfl rfl⟩
    |exact aD ⟨_,C.length+1,C.length+3,C.length+2,by simp only[vke,zB,zA],rfl,.mk' [Box.cells (playC ⟨spP,exE⟩).cells,Box.cells (playC ⟨spP,[exN,revE 0]⟩).cells,Box.cells (playC ⟨spP,exE++[revE 1]⟩).cells] rfl rfl rfl rfl⟩
    |exact aD ⟨_,C.length+2,C.length+1,C.length+3,by simp only[vke,zB,zA],rfl,.mk' [Box.cells (playC ⟨spP,exE++[revE 1]⟩).cells,Box.cells (playC ⟨spP,exE⟩).cells,Box.cells (playC ⟨spP,[exN,revE 0]⟩).cells] rfl rfl rfl rfl⟩
    |exact aD ⟨_,C.length+2,C.length+3,C.length+1,by simp only[vke,zB,zA],rfl,.mk' [Box.cells (playC ⟨spP,[exN,revE 0]⟩).cells,Box.cells (playC ⟨spP,exE⟩).cells,Box.cells (playC ⟨spP,exE++[revE 1]⟩).cells] rfl rfl rfl rfl⟩
    |exact aD ⟨_,C.length+3,C.length+1,C.length+2,by simp only[vke,zB,zA],rfl,.mk' [Box.cells (playC ⟨spP,exE++[revE 1]⟩).cells,Box.cells (playC ⟨spP,[exN,revE 0]⟩).cells,Box.cells (playC ⟨spP,exE⟩).cells] rfl rfl rfl rfl⟩
    |exact aD ⟨_,C.length+3,C.length+2,C.length+1,by simp only[vke,zB,zA],rfl,.mk' [Box.cells (playC ⟨spP,[exN,revE 0]⟩).cells,Box.cells (playC ⟨spP,exE++[revE 1]⟩).cells,Box.cells (playC ⟨spP,exE⟩).cells] rfl rfl rfl rfl⟩
 rintro e s ⟨C2,i2,j2,k2,he2,rfl,hC2⟩;simp only[vqM];refine ae [0,1,3,4,5,6,7,8,9] ?_;rw[he2];rw[pX,pY,pZ]at hC2;obtain⟨Y,hY2⟩:=hC2.ex;have w1:∀X,(C2++X)[B.length]?=Sd (.cells spP.cells):=λX=>by rw[hY2,K9];exact q1 _
 have w3:∀X,(C2++X)[i]?=Sd (.cells cA.cells):=λX=>by rw[hY2,K9];exact q3 _
 have w4:∀X,(C2++X)[j]?=Sd (.cells cN.cells):=λX=>by rw[hY2,K9];exact q4 _
 have w5:∀X,(C2++X)[k]?=Sd (.cells cN.cells):=λX=>by rw[hY2,K9];exact q5 _
 have w6:∀X,(C2++X)[C.length]?=Sd (.cells (Hi.mk spP exE).cells):=λX=>by rw[hY2,K9];exact bL
 have w7:=hC2.ga;have w8:=hC2.gb;have w9:=hC2.gc;have u1:=w1 [];have u3:=w3 [];have u4:=w4 [];have u5:=w5 [];have u6:=w6 [];have u7:=w7 [];have u8:=w8 [];have u9:=w9 [];rw[Oq]at u1 u3 u4 u5 u6 u7 u8 u9;refine cI aA ?_;have d22:decide ((220:Int)≠220)=Se:=rfl;have dn1:decide ((1:Int)≠1)=Se:=rfl;have dnm:A6 .neq spF.name ⟨#[102]⟩=Sd (.bool Se):=by simp[A6,spF,nmF]
 simp only[vqM,dO,zA,zB,aW,xu,mR,u3,Nw,dn1,Pw,Int.toNat_zero,Int.natCast_one];simp only[vqM,dO,zA,zB,aW,xu,u3,u4,u5,u7,u8,u9,Nw,d22,dnm];refine aa (gQ _ _ cA_w cA_w _) ?_;simp only[vqM,dO,zA,aW,u1,u9,decide_true];refine aa (gQ cS.p spP cS_w cS_w _) ?_;have e1:decide (wPg cS.p=wPg spP)=Sh:=decide_eq_true rfl;rw[e1];simp only[vqM,dO,vsH,u6];refine aa (Mq ⟨spP,exE⟩ hX (by omega) (by decide) (by decide) _) ?_;rw[exU];simp only[vqM,dO,zA,zM,zL];refine aa (ky [1,2] [1,2] _) ?_;simp only[vqM,decide_true];rw[hY2];obtain⟨Y0,hY0⟩:=hC.ex;rw[hY0,K9];refine SB ?_ (.bool _);simp only[vqM]
theorem wI(l:List Df)(d:Df)(hn:l.length≤1000)(s:St):az Si 209 [.slice .none (ax l),.agg d.cells] s (.slice .none (ax (vG l d))) s:=by
 obtain⟨B,L,c⟩:=s;refine az.introN [] func209 rfl (by decide) aA (by kernel_rfl) [Sy 4] 53 rfl rfl ?_;simp only[vqM,fX,zA,zS,zM];refine ae [0,3,5,6,7] ?_;simp only[vke,zB,zA];refine aE aA l.length (λk e s=>∃q:List Df×Bool,q=AC d (l.take k)∧e=[.slice .none (ax l),J,J,.box B.length 0,J,.slice (dE c 12 q.1.length) (ax q.1),.bool q.2,.int .i64 (k:Int),J,J,J,J,J,J,J,J,J,J,J,J,J,J,J,J,J,J,J,J,J,J,J,J,J,J,J,J,J,J,J,J,J,J,J,J,J,J,J,J,J,J,J,J,J]∧s=⟨B++[.cells d.cells],liveN L c q.1.length,c+q.1.length⟩) ?_ ?_ 0 _ _ (L7 _) ⟨([],Se),rfl,rfl,rfl⟩
 ·rintro k e s hk ⟨q,hq,rfl,rfl⟩ ih;have hx:l[k]?=Sd l[k]:=K4 hk;have hg:(ax l)[k]?=Sd (l[k].cells):=by simp[ax,hx]
  have hklt:((k:Int)<(l.length:Int))=True:=by simp;exact hk
  have hnext:AC d (l.take (k+1))=du d q l[k]:=by
   rw[N4,hx,Ov,D0,←hq]
  have hql:q.1.length≤2000:=by
   have:=y9 d (q:=([],Se)) (l.take k)
   have e1:(l.take k).foldl (du d) ([],Se)=q:=hq.symm;rw[e1]at this;simp only[L4,OD]at this;omega
  generalize l[k]=x at hx hg hnext;obtain⟨q1,q2⟩:=q;simp only at hql⊢;have hof:∀B'(m:List Df)(n:Nat),aZ (dE c 12 n) (ax m) 12 ⟨B',liveN L c n,c+n⟩=Sh:=λB' m n=>cv (fJ _);have hl1:(q1.length+1≤1000000)=True:=eq_true (by omega);have hl2:(q1.length+1+1≤1000000)=True:=eq_true (by omega);have hcon:∀n,(liveN L c (n+1)).contains (c+n)=Sh:=λn=>by simp[liveN]
  have hrel:=λB n=>show St.relab ⟨B,liveN L c (n+1),c+(n+1)⟩ (.lab (c+n) 12)=⟨B,liveN L c (n+1+1),c+(n+1+1)⟩ from aX (k:=n+1)
  have hea:∀m:List Df,(∀z,z∈ax m→z.length=12)=True:=λm=>eq_true (fJ m);cases q2<;>cases h1:decide (x.id≥d.id)<;>cases h2:decide (x.id≠d.id);all_goals
   simp only[du,h1,N3,NZ,N5,N2,On,if_true,if_false]at hnext;first
    |rw[if_pos (of_decide_eq_true h2)]at hnext
    |rw[if_neg (of_decide_eq_false h2)]at hnext
   simp only[vqM,fX,zA,zM,zL,ah,hklt,decide_true,natle0,K3,hg,h1,h2,hof,aX,hl1,hl2,gP,K5,OF,hcon,hrel];rw[ap (by omega)];refine ae [0,3,5,6,7] ?_;simp only[vke,zB,zA];refine ih _ _ ⟨_,hnext.symm,?_,?_⟩<;>simp[dE]
 ·rintro e s ⟨q,hq,rfl,rfl⟩;have hklt:((l.length:Int)<(l.length:Int))=False:=by simp
  rw[N6]at hq;have hql:q.1.length≤2000:=by
   have:=y9 d (q:=([],Se)) l
   have e1:l.foldl (du d) ([],Se)=q:=hq.symm;rw[e1]at this;simp only[L4]at this;omega
  have hput:vG l d=if q.2 then q.1 else q.1++[d]:=by rw[vG,←hq]
  obtain⟨q1,q2⟩:=q;simp only at hql hput⊢;have hof:∀B'(m:List Df)(n:Nat),aZ (dE c 12 n) (ax m) 12 ⟨B',liveN L c n,c+n⟩=Sh:=λB' m n=>cv (fJ _);have hl1:(q1.length+1≤1000000)=True:=eq_true (by omega);cases q2
  ·simp only[vqM,fX,zA,zM,zL,ah,hklt,decide_false,hof,aX,hl1,gP];refine ao (.inr rfl) ?_ (ig _) (λ_ h=>bu h) (by omega);simp only[vqM];rw[hput,if_neg (by simp)]
  ·simp only[vqM,fX,ah,hklt,decide_false];refine ao (.inr rfl) ?_ (ig _) (λ_ h=>bu h) (by omega);simp only[vqM];rw[hput,if_pos rfl]
theorem xR(l:List Df)(id:Int)(hn:l.length≤1000)(s:St):az Si 208 [.slice .none (ax l),.int .i64 id] s (.slice .none (ax (withoutL l id))) s:=by
 obtain⟨B,L,c⟩:=s;refine az.introN [] func208 rfl (by decide) aA (by kernel_rfl) [Sy 4] 29 rfl rfl ?_;simp only[vqM,kH,zA,zS,zM];refine ae [0,1,5,6] ?_;simp only[vke,zB,zA];refine aE aA l.length (λk e s=>∃out:List Df,out=withoutL (l.take k) id∧e=[.slice .none (ax l),.int .i64 id,J,J,J,.slice (dE c 12 out.length) (ax out),.int .i64 (k:Int),J,J,J,J,J,J,J,J,J,J,J,J,J,J,J,J,J,J,J,J,J,J]∧s=⟨B,liveN L c out.length,c+out.length⟩) ?_ ?_ 0 _ _ (L7 _) ⟨[],rfl,rfl,rfl⟩
 ·rintro k e s hk ⟨out,hout,rfl,rfl⟩ ih;have hx:l[k]?=Sd l[k]:=K4 hk;have hg:(ax l)[k]?=Sd (l[k].cells):=by simp[ax,hx]
  have hklt:((k:Int)<(l.length:Int))=True:=by simp;exact hk
  have hnext:withoutL (l.take (k+1)) id=if l[k].id≠id then out++[l[k]]else out:=by
   rw[N4,hx,Ov,withoutL,PL,hout];by_cases h:l[k].id=id<;>simp[h,withoutL]
  have hol:out.length≤k:=by rw[hout];exact P4 (OV _ _) (by simp;omega)
  have hof:∀B',aZ (dE c 12 out.length) (ax out) 12 ⟨B',liveN L c out.length,c+out.length⟩=Sh:=λB'=>cv (fJ _);have hl1:(out.length+1≤1000000)=True:=eq_true (by omega);generalize l[k]=x at hx hg hnext;cases h2:decide (x.id≠id)
  ·rw[if_neg (of_decide_eq_false h2)]at hnext;simp only[vqM,kH,ah,hklt,decide_true,natle0,K3,hg,h2];rw[ap (by omega)];refine ae [0,1,5,6] ?_;simp only[vke,zB,zA];exact ih _ _ ⟨_,hnext.symm,rfl,rfl⟩
  ·rw[if_pos (of_decide_eq_true h2)]at hnext;simp only[vqM,kH,zA,zM,zL,ah,hklt,decide_true,natle0,K3,hg,h2,hof,aX,hl1,gP];rw[ap (by omega)];refine ae [0,1,5,6] ?_;simp only[vke,zB,zA];refine ih _ _ ⟨_,hnext.symm,?_,?_⟩<;>simp[dE]
 ·rintro e s ⟨out,hout,rfl,rfl⟩;have hklt:((l.length:Int)<(l.length:Int))=False:=by simp
  rw[N6]at hout;simp only[vqM,kH,ah,hklt,decide_false];refine gd (.inr rfl) ?_ (ig _) (λ_ h=>bu h) (by omega);simp only[vqM];rw[hout]
theorem tY(p:Pg)(id:Int)(hlen:p.defs.length<1000000)(s:St):az Si 210 [.agg p.cells,.int .i64 id] s (.bool (opnB p id)) s:=by
 obtain⟨B,L,c⟩:=s;refine az.introN [] func210 rfl (by decide) aA (by kernel_rfl) [Sy 4] 11 rfl rfl ?_;simp only[vqM,tf4,bK,sA,zA,zS];refine aa (fS p id hlen _) ?_;simp only[vqM,tf4,bK,sA,zA,foundD];refine SB ?_ (.bool _);simp only[vqM];rfl
theorem x3(l:List Sm):(smsL l).map Sm.site=sitesL (flatL 1 l):=by
 rw[←eg l 1,sitesL,List.map_map];rfl
theorem Dy(d:Df)(hN:cu d.body<999999)(s:St):az Si 77 [.agg d.cells] s (.slice .none (aj (sitesS d))) s:=by
 obtain⟨B,L,c⟩:=s;have hll:=dA d.body;have hss:sitesS d=(smsL d.body).map Sm.site++[d.site]:=by rw[x3,sitesS]
 have hof:∀(n:Nat)(xs:List Int)(B:List Box),aZ (dE c 1 n) (aj xs) 1 ⟨B,liveN L c n,c+n⟩=Sh:=λn xs B=>cv (ba _);refine az.introN [] func77 rfl (by decide) aA (by kernel_rfl) [Sy 2] 29 rfl rfl ?_;simp only[vqM,oC,zA,zS];refine aa (uC d.body _ (by omega)) ?_;simp only[vqM,oC,zA,zM];refine ae [1,3,4,5] ?_;simp only[vke,zB,zA];refine aE aA (smsL d.body).length (λk e s=>e=[J,.box B.length 0,J,.slice .none (Sm.encs (smsL d.body)),.slice (dE c 1 k) (aj (((smsL d.body).take k).map Sm.site)),.int .i64 (k:Int),J,J,J,J,J,J,J,J,J,J,J,J,J,J,J,J,J,J,J,J,J,J,J]∧s=⟨B++[.cells d.cells],liveN L c k,c+k⟩) ?_ ?_ 0 _ _ (L7 _) ⟨rfl,rfl⟩
 ·rintro k e s hk ⟨rfl,rfl⟩ ih;have hx:(smsL d.body)[k]?=Sd (smsL d.body)[k]:=K4 hk;have hg:(Sm.encs (smsL d.body))[k]?=Sd (smsL d.body)[k].cells:=by simp[Sm.encs_map,hx]
  have hklt:((k:Int)<((smsL d.body).length:Int))=True:=by simp;exact hk
  have hnext:((smsL d.body).take (k+1)).map Sm.site=((smsL d.body).take k).map Sm.site++[(smsL d.body)[k].site]:=by rw[N4,hx,O2];rfl
  have hl1:((((smsL d.body).take k).map Sm.site).length+1≤1000000)=True:=eq_true (by simp;omega);generalize(smsL d.body)[k]=y at hx hg hnext;simp only[vqM,oC,zA,zM,zL,av,hklt,decide_true,natle0,K3,hg,hof,aX,ab,hl1,bD];rw[ap (by omega)];refine ae [1,3,4,5] ?_;simp only[vke,zB,zA];exact ih _ _ ⟨by rw[hnext];rfl,rfl⟩
 ·rintro e s ⟨rfl,rfl⟩;have hklt:(((smsL d.body).length:Int)<((smsL d.body).length:Int))=False:=by simp
  rw[N6];have hl1:(((smsL d.body).map Sm.site).length+1≤1000000)=True:=eq_true (by simp;omega);simp only[vqM,oC,zA,zM,zL,av,hklt,decide_false,hof,aX,ab,hl1,bD];refine ao (.inr rfl) ?_ (cq _) (λ_ h=>bu h) (by omega);simp only[vqM];rw[hss]
theorem lK{n:Nat}:∀{l:List Df},(∀d∈l,cu d.body≤n)→(sitesD l).length≤(n+1)*l.length
 | [],_=>by simp[sitesD]
 |d::l,h=>by
  have h1:=lK (n:=n) (l:=l) λx hx=>h x (by simp[hx]);have h2:=h d (by simp);have h3:(sitesS d).length=cu d.body+1:=by simp[sitesS,sitesL,bQ]
  have h4:sitesD (d::l)=sitesS d++sitesD l:=by simp[sitesD]
  rw[h4,K5,K7,Nat.mul_add,PO];omega
theorem iB(l:List Df)(hn:l.length≤100)(hc:∀d∈l,cu d.body≤1000)(s:St):az Si 33 [.slice .none (ax l)] s (.slice .none (aj (sitesD l))) s:=by
 obtain⟨B,L,c⟩:=s;refine az.introN [] func33 rfl (by decide) aA (by kernel_rfl) [Sy 2] 20 rfl rfl ?_;simp only[vqM,tf3,bY,cR,bi,zA,zS,zM];refine ae [0,3,4] ?_;simp only[vke,zB,zA];refine aE aA l.length (λk e s=>e=[.slice .none (ax l),J,J,.slice (dE c 1 k) (aj (sitesD (l.take k))),.int .i64 (k:Int),J,J,J,J,J,J,J,J,J,J,J,J,J,J,J]∧s=⟨B,liveN L c k,c+k⟩) ?_ ?_ 0 _ _ (L7 _) ⟨rfl,rfl⟩
 ·rintro k e s hk ⟨rfl,rfl⟩ ih;have hx:l[k]?=Sd l[k]:=K4 hk;have hg:(ax l)[k]?=Sd (l[k].cells):=by simp[ax,hx]
  have hklt:((k:Int)<(l.length:Int))=True:=by simp;exact hk
  have hnext:sitesD (l.take (k+1))=sitesD (l.take k)++sitesS l[k]:=by
   rw[N4,hx,Ov,sitesD,sitesD,PM];simp
  have hcn:=hc _ (NY hk);have h3:(sitesS l[k]).length=cu l[k].body+1:=by simp[sitesS,sitesL,bQ]
  have h4:=lK (n:=1000) (l:=l.take k) λx hx=>hc x (Px hx);rw[OD]at h4;generalize l[k]=x at hx hg hnext hcn h3;have hof:∀n,aZ (dE c 1 n) (aj (sitesD (l.take k))) 1 ⟨B,liveN L c n,c+n⟩=Sh:=λn=>cv (ba _);have hl1:((sitesD (l.take k)).length+(sitesS x).length≤1000000)=True:=eq_true (by omega);have hea:∀m:List Int,(∀z,z∈aj m→z.length=1)=True:=λm=>eq_true (ba m);simp only[vqM,tf3,bY,cR,bi,ah,hklt,decide_true,natle0,K3,hg];refine aa (Dy x (by omega) _) ?_;simp only[vqM,tf3,bY,cR,bi,zA,zL,hof,aX,ab,hl1,ay,hea];rw[ap (by omega)];refine ae [0,3,4] ?_;simp only[vke,zB,zA];exact ih _ _ ⟨by rw[hnext];rfl,rfl⟩
 ·rintro e s ⟨rfl,rfl⟩;have hklt:((l.length:Int)<(l.length:Int))=False:=by simp
  rw[N6];simp only[vqM,tf3,bY,cR,bi,ah,hklt,decide_false];refine gd (.inr rfl) ?_ (cq _) (λ_ h=>bu h) (by omega);simp only[vqM]
theorem fo{l:List Hd}{i:Nat}{x:Hd}(h:l[i]?=Sd x):(aO l)[i]?=Sd x.cells:=by simp[aO,h]
theorem Do(p:Pg)(l:List Df)(R:Gd p)(N:NewOk p l)(hll:l.length≤1000)(s:St):az Si 153 [.agg p.cells,.slice .none (ax l)] s (.slice .none (aO (headsN p l))) s:=by
 obtain⟨B,L,c⟩:=s;have hpl:=R.hl;have hdl:=R.dl;refine az.introN [] func153 rfl (by decide) aA (by kernel_rfl) [Sy 4] 110 rfl rfl ?_;simp only[vqM,gh,zA,zS,zM];refine ae [1,2,5,6] ?_;simp only[vke,zB,zA];refine aE aA p.heads.length (λk e s=>∃out:List Hd,out=(p.heads.take k).filter (λh=>!opnB p h.id)∧e=[J,.slice .none (ax l),.box B.length 0,J,J,.slice (dE c 5 out.length) (aO out),.int .i64 (k:Int),J,J,J,J,J,J,J,J,J,J,J,J,J,J,J,J,J,J,J,J,J,J,J,J,J,J,J,J,J,J,J,J,J,J,J,J,J,J,J,J,J,J,J,J,J,J,J,J,J,J,J,J,J,J,J,J,J,J,J,J,J,J,J,J,J,J,J,J,J,J,J,J,J,J,J,J,J,J,J,J,J,J,J,J,J,J,J,J,J,J,J,J,J,J,J,J,J,J,J,J,J,J,J]∧s=⟨B++[.cells p.cells],liveN L c out.length,c+out.length⟩) ?_ ?_ 0 _ _ (L7 _) ⟨[],rfl,rfl,rfl⟩
 ·rintro k e s hk ⟨out,hout,rfl,rfl⟩ ih;have hx:p.heads[k]?=Sd p.heads[k]:=K4 hk;have hg:(aO p.heads)[k]?=Sd (p.heads[k].cells):=by simp[aO,hx]
  have hklt:((k:Int)<(p.heads.length:Int))=True:=by simp;exact hk
  have hnext:(p.heads.take (k+1)).filter (λh=>!opnB p h.id)=if opnB p p.heads[k].id then out else out++[p.heads[k]]:=by
   rw[N4,hx,Ov,PL,←hout];cases h:opnB p p.heads[k].id<;>simp[h]
  have hol:out.length≤k:=by rw[hout];exact P4 (OV _ _) (by simp;omega)
  have hof:∀B',aZ (dE c 5 out.length) (aO out) 5 ⟨B',liveN L c out.length,c+out.length⟩=Sh:=λB'=>cv (io _);have hl1:(out.length+1≤1000000)=True:=eq_true (by omega);generalize p.heads[k]=x at hx hg hnext;simp only[vqM,gh,zA,aw,hklt,decide_true,natle0,K3,hg];refine aa (tY p x.id (by omega) _) ?_;simp only[vqM];cases ho:opnB p x.id with
  |true =>
   rw[ho,if_pos rfl]at hnext;simp only[vqM];rw[ap (by omega)];refine ae [1,2,5,6] ?_;simp only[vke,zB,zA];exact ih _ _ ⟨_,hnext.symm,rfl,rfl⟩
  |false =>
   rw[ho]at hnext;simp only[vqM,gh,zA,zM,zL,aw,natle0,K3,hg,hof,aX,hl1,jy];rw[ap (by omega)];refine ae [1,2,5,6] ?_;simp only[vke,zB,zA];refine ih _ _ ⟨_,hnext.symm,?_,?_⟩<;>simp[dE]
 ·rintro e s ⟨out,hout,rfl,rfl⟩;have hklt:((p.heads.length:Int)<(p.heads.length:Int))=False:=by simp
  rw[N6]at hout;have hol:out.length≤40:=by rw[hout];exact P4 (OV _ _) hpl
  simp only[vqM,gh,zA,aw,hklt,decide_false];refine ae [1,5,7] ?_;simp only[vke,zB,zA];refine aE aA l.length (λk e s=>∃m:List Hd,m=out++(l.take k).map headOf∧e=[J,.slice .none (ax l),J,J,J,.slice (dE c 5 m.length) (aO m),J,.int .i64 (k:Int),J,J,J,J,J,J,J,J,J,J,J,J,J,J,J,J,J,J,J,J,J,J,J,J,J,J,J,J,J,J,J,J,J,J,J,J,J,J,J,J,J,J,J,J,J,J,J,J,J,J,J,J,J,J,J,J,J,J,J,J,J,J,J,J,J,J,J,J,J,J,J,J,J,J,J,J,J,J,J,J,J,J,J,J,J,J,J,J,J,J,J,J,J,J,J,J,J,J,J,J,J,J]∧∃X,s=⟨B++.cells p.cells::X,liveN L c m.length,c+m.length⟩) ?_ ?_ 0 _ _ (L7 _) ⟨out,by simp,rfl,[],rfl⟩
  ·rintro k e s hk ⟨m,hm,rfl,X,rfl⟩ ih;have hx:l[k]?=Sd l[k]:=K4 hk;have hg:(ax l)[k]?=Sd (l[k].cells):=by simp[ax,hx]
   have hklt:((k:Int)<(l.length:Int))=True:=by simp;exact hk
   have hnext:out++(l.take (k+1)).map headOf=m++[headOf l[k]]:=by
    rw[N4,hx,Ov,O2,hm,K9];rfl
   have hml:m.length≤40+k:=by rw[hm];simp;omega
   have hof:∀B',aZ (dE c 5 m.length) (aO m) 5 ⟨B',liveN L c m.length,c+m.length⟩=Sh:=λB'=>cv (io _);have hl1:(m.length+1≤1000000)=True:=eq_true (by omega);generalize l[k]=x at hx hg hnext;simp only[vqM,gh,ah,hklt,decide_true,natle0,K3,hg];refine aa (wP x _) ?_;simp only[vqM,gh,zA,zM,zL,aw,hof,aX,hl1,jy];rw[ap (by omega)];refine ae [1,5,7] ?_;simp only[vke,zB,zA];refine ih _ _ ⟨_,hnext.symm,?_,X,?_⟩<;>simp[dE]
  ·rintro e s ⟨m,hm,rfl,X,rfl⟩;have hklt:((l.length:Int)<(l.length:Int))=False:=by simp
   rw[N6]at hm;have hma:m=kS p l:=by rw[hm,hout,kS]
   have hml:m.length≤1040:=by rw[hm];simp;omega
   have hsp:(headsN p l).Perm m:=by rw[hma];exact fu p l
   have hss:=N.heads_pw R;have hsl:=hsp.length_eq;generalize headsN p l=hs at hsp hss hsl;clear hm hma hout;simp only[vqM,gh,zA,zM,ah,hklt,decide_false];refine ae [5,8] ?_;simp only[vke,zB,zA];refine aE aA m.length (λk e s=>e=[J,J,J,J,J,.slice (dE c 5 m.length) (aO m),J,J,.slice (dE (c+m.length) 5 k) (aO (hs.take k)),J,J,J,J,J,J,J,J,J,J,J,J,J,J,J,J,J,J,J,J,J,J,J,J,J,J,J,J,J,J,J,J,J,J,J,J,J,J,J,J,J,J,J,J,J,J,J,J,J,J,J,J,J,J,J,J,J,J,J,J,J,J,J,J,J,J,J,J,J,J,J,J,J,J,J,J,J,J,J,J,J,J,J,J,J,J,J,J,J,J,J,J,J,J,J,J,J,J,J,J,J]∧s=⟨B++.cells p.cells::X,liveN (liveN L c m.length) (c+m.length) k,c+m.length+k⟩) ?_ ?_ 0 _ _ (L7 _) ⟨rfl,rfl⟩
   ·rintro k e s hk ⟨rfl,rfl⟩ ih;have hkl:(hs.take k).length=k:=by rw[OD];omega
    have hklt:((k:Int)<(m.length:Int))=True:=by simp;exact hk
    obtain⟨i0,hi0,hm0⟩:=x9 hsp hss (show k<hs.length by omega);have hnext:hs.take (k+1)=hs.take k++[hs[k]'(by omega)]:=by rw[N4,K4 (by omega)];rfl
    simp only[vqM,gh,aw,hkl,hklt,decide_true];refine ae [5,8,9,10] ?_;simp only[vke,zB,zA];refine aE aA m.length (λj e s=>e=[J,J,J,J,J,.slice (dE c 5 m.length) (aO m),J,J,.slice (dE (c+m.length) 5 k) (aO (hs.take k)),.int .i64 (sS (pickH m hs k j)),.int .i64 (j:Int),J,J,J,J,J,J,J,J,J,J,J,J,J,J,J,J,J,J,J,J,J,J,J,J,J,J,J,J,J,J,J,J,J,J,J,J,J,J,J,J,J,J,J,J,J,J,J,J,J,J,J,J,J,J,J,J,J,J,J,J,J,J,J,J,J,J,J,J,J,J,J,J,J,J,J,J,J,J,J,J,J,J,J,J,J,J,J,J,J,J,J,J,J,J,J,J,J,J,J]∧s=⟨B++.cells p.cells::X,liveN (liveN L c m.length) (c+m.length) k,c+m.length+k⟩) ?_ ?_ 0 _ _ (L7 _) ⟨rfl,rfl⟩
    ·rintro j e s hj ⟨rfl,rfl⟩ ihj;have hx:m[j]?=Sd m[j]:=K4 hj;have hgx:=fo hx;have hjlt:((j:Int)<(m.length:Int))=True:=by simp;exact hj
     have hm1:((-1:Int)<0)=True:=eq_true (by omega);have hpk:=(wU m hs k j (by omega)).yes;have hny:pickH m hs k (j+1)=if (laterH hs k m[j]&&(match pickH m hs k j with
      |none=>Sh
      |some i=>match m[i]? with
       |some y=>decide (m[j].id<y.id)
       |none=>Se))=Sh then Sd j else pickH m hs k j:=by simp only[pickH,hx];rfl
     generalize hpp:pickH m hs k j=pk at hpk hny;generalize m[j]=x at hx hgx hny;cases k with
     |zero =>
      have hla:laterH hs 0 x=Sh:=rfl;rw[hla]at hny;cases pk with
      |none =>
       simp only[N5,if_true]at hny;simp only[vqM,gh,aw,hjlt,decide_true,sS,hm1];rw[ap (by omega)];refine ae [5,8,9,10] ?_;simp only[vke,zB,zA];exact ihj _ _ ⟨by rw[hny];rfl,rfl⟩
      |some i =>
       obtain⟨hij,hil,-⟩:=hpk i rfl;have hy:m[i]?=Sd m[i]:=K4 hil;have hgy:=fo hy;have hnn:((i:Int)<0)=False:=by simp
       simp only[K8,hy]at hny;have hilt:((i:Int)<(m.length:Int))=True:=by simp;exact hil
       generalize m[i]=y at hy hgy hny;cases hc:decide (x.id<y.id)
       ·rw[hc,if_neg (by simp)]at hny;simp only[vqM,gh,aw,hjlt,decide_true,decide_false,natle0,K3,hgx,hgy,sS,hnn,hc];rw[ap (by omega)];refine ae [5,8,9,10] ?_;simp only[vke,zB,zA];exact ihj _ _ ⟨by rw[hny];rfl,rfl⟩
       ·rw[hc,if_pos rfl]at hny;simp only[vqM,gh,aw,hjlt,decide_true,decide_false,natle0,K3,hgx,hgy,sS,hnn,hc];rw[ap (by omega)];refine ae [5,8,9,10] ?_;simp only[vke,zB,zA];exact ihj _ _ ⟨by rw[hny];rfl,rfl⟩
     |succ k =>
      have hz:hs[k]?=Sd (hs[k]'(by omega)):=K4 (by omega);have hgz:(aO (hs.take (k+1)))[k]?=Sd (hs[k]'(by omega)).cells:=fo (by rw[List.getElem?_take,if_pos (by omega)];exact hz);have hk0:(((k+1:Nat):Int)=0)=False:=eq_false (by omega);have hwk:SA.wrap (((k+1:Nat):Int)-1)=(k:Int):=by rw[aK (by omega)];omega
      have hla:laterH hs (k+1) x=decide (x.id > (hs[k]'(by omega)).id):=by simp only[laterH,hz]
      rw[hla]at hny;generalize hs[k]'(by omega)=z at hz hgz hla hny;cases hcl:decide (x.id > z.id)with
      |false =>
       rw[hcl,M7,if_neg (by simp)]at hny;simp only[vqM,gh,aw,hkl,hjlt,decide_true,decide_false,natle0,K3,hgx,hgz,hk0,hwk,hcl];rw[ap (by omega)];refine ae [5,8,9,10] ?_;simp only[vke,zB,zA];exact ihj _ _ ⟨by rw[hny],rfl⟩
      |true =>
       rw[hcl]at hny;cases pk with
       |none =>
        simp only[N5,if_true]at hny;simp only[vqM,gh,aw,hkl,hjlt,decide_true,decide_false,natle0,K3,hgx,hgz,hk0,hwk,hcl,sS,hm1];rw[ap (by omega)];refine ae [5,8,9,10] ?_;simp only[vke,zB,zA];exact ihj _ _ ⟨by rw[hny];rfl,rfl⟩
       |some i =>
        obtain⟨hij,hil,-⟩:=hpk i rfl;have hy:m[i]?=Sd m[i]:=K4 hil;have hgy:=fo hy;have hnn:((i:Int)<0)=False:=by simp
        simp only[K8,hy]at hny;generalize m[i]=y at hy hgy hny;cases hc:decide (x.id<y.id)
        ·rw[hc,if_neg (by simp)]at hny;simp only[vqM,gh,aw,hkl,hjlt,decide_true,decide_false,natle0,K3,hgx,hgy,hgz,hk0,hwk,hcl,sS,hnn,hc];rw[ap (by omega)];refine ae [5,8,9,10] ?_;simp only[vke,zB,zA];exact ihj _ _ ⟨by rw[hny];rfl,rfl⟩
        ·rw[hc,if_pos rfl]at hny;simp only[vqM,gh,aw,hkl,hjlt,decide_true,decide_false,natle0,K3,hgx,hgy,hgz,hk0,hwk,hcl,sS,hnn,hc];rw[ap (by omega)];refine ae [5,8,9,10] ?_;simp only[vke,zB,zA];exact ihj _ _ ⟨by rw[hny];rfl,rfl⟩
    ·rintro e s ⟨rfl,rfl⟩;have hjlt:((m.length:Int)<(m.length:Int))=False:=by simp
     have hgm:=fo hm0;have hnn:((i0:Int)<0)=False:=by simp
     have hof:∀B',aZ (dE (c+m.length) 5 k) (aO (hs.take k)) 5 ⟨B',liveN (liveN L c m.length) (c+m.length) k,c+m.length+k⟩=Sh:=λB'=>cv (io _);have hl1:(k+1≤1000000)=True:=eq_true (by omega);rw[hi0];simp only[vqM,gh,zA,zM,zL,aw,hkl,hjlt,decide_false,sS,hnn,natle0,K3,hgm,hof,aX,hl1,jy];refine ae [5,8] ?_;simp only[vke,zB,zA];exact ih _ _ ⟨by rw[hnext];rfl,rfl⟩
   ·rintro e s ⟨rfl,rfl⟩;have hklt:((m.length:Int)<(m.length:Int))=False:=by simp
    have htl:hs.take m.length=hs:=N1 (by omega);rw[htl];simp only[vqM,gh,aw,hsl,hklt,decide_false];refine ao (.inr rfl) ?_ (H6 _) (λ_ h=>bu (bu h)) (by omega);simp only[vqM]
theorem kV(l:List Int)(n:Int)(s:St):az Si 20 [.slice .none (aj l),.int .i64 n] s (.bool (l.contains n)) s:=by
 refine az.small λhsm=>?_;have hlen:=(hsm _ (.head _)).len;rw[ab]at hlen;clear hsm;refine az.introN [] func20 rfl (by decide) aA (by kernel_rfl) [Sy 4] 18 rfl rfl ?_;simp only[vqM,zA,zS];refine ae [0,1,5] ?_;simp only[vke,zB,zA];refine cx aA l.length (λk=>[.slice .none (aj l),.int .i64 n,J,J,J,.int .i64 (k:Int),J,J,J,J,J,J,J,J,J,J,J,J]) (λ_=>s) (λk=>l.contains n=(l.drop k).contains n) ?_ ?_ 0 (L7 _) rfl
 ·intro k hk hI ih;have hg:=gA hk;have hklt:((k:Int)<(l.length:Int))=True:=by simp;exact hk
  have hd:l.drop k=l[k]::l.drop (k+1):=Oo hk;rw[hd,N9]at hI;simp only[vqM,bW,zA,ab,hklt,decide_true,natle0,K3,hg];refine am (λhc=>?_) (λhc=>?_)
  ·have e:l[k]=n:=of_decide_eq_true hc;simp only[vqM];refine SC ?_ (.bool _);simp only[vqM];rw[hI,e];simp
  ·have e:¬l[k]=n:=of_decide_eq_false hc;simp only[vqM];rw[ap (by omega)];refine ae [0,1,5] ?_;simp only[vke,zB,zA];refine ih ?_;rw[hI,show(n == l[k])=Se from by simpa usingλh=>e h.symm,L5]
 ·intro hI;have hklt:((l.length:Int)<(l.length:Int))=False:=by simp
  simp only[vqM,bW,ab,hklt,decide_false];refine SC ?_ (.bool _);simp only[vqM];rw[hI];simp
def dj(n:Int)(q:List Int×Bool)(x:Int):List Int×Bool:=if (decide (x > n) && !q.2)=Sh then(q.1++[n]++[x],Sh)else(q.1++[x],q.2)
def Ib(n:Int)(l:List Int):List Int×Bool:=l.foldl (dj n) ([],Se)
theorem EY(n:Int)(l:List Int)(x:Int):Ib n (l++[x])=dj n (Ib n l) x:=by rw[Ib,Ib,Pq];rfl
theorem uw(n:Int):∀(l:List Int)(q:List Int×Bool),(l.foldl (dj n) q).1.length≤q.1.length+2*l.length
 | [],q=>by simp
 |x::l,q=>by
  have h1:(dj n q x).1.length≤q.1.length+2:=by
   simp only[dj];split<;>simp
  have:=uw n l (dj n q x)
  rw[Pp,K7];omega
theorem zU(n:Int):∀(l acc:List Int),l.foldl (dj n) (acc,Sh)=(acc++l,Sh)
 | [],acc=>by simp
 |x::l,acc=>by
  rw[Pp];have h1:dj n (acc,Sh) x=(acc++[x],Sh):=by simp[dj]
  rw[h1,zU n l];simp
theorem zT(n:Int):∀(l acc:List Int),l.Pairwise (· < ·)→n ∉ l→(if (l.foldl (dj n) (acc,Se)).2 then(l.foldl (dj n) (acc,Se)).1 else(l.foldl (dj n) (acc,Se)).1++[n])=acc++addedL l n
 | [],acc,_,_=>by simp[addedL]
 |x::l,acc,h,hn=>by
  rw[Pf]at h;simp only[NX,not_or]at hn;rw[Pp];by_cases hx:x > n
  ·have h1:dj n (acc,Se) x=(acc++[n]++[x],Sh):=by simp[dj,hx]
   rw[h1,zU];have h3:decide (x<n)=Se:=by simp;omega
   have h4:decide (x > n)=Sh:=by simpa using hx
   have h5:l.filter (λx=>decide (x > n))=l:=P3.2 λy hy=>by have:=h.1 y hy;simp;omega
   simp only[addedL,PN,h3,On,if_false,Pm,h4,if_true,h5];simp
  ·have h1:dj n (acc,Se) x=(acc++[x],Se):=by simp[dj,hx]
   rw[h1,zT n l _ h.2 hn.2];have h3:decide (x<n)=Sh:=by simp;omega
   have h4:decide (x > n)=Se:=by simp;omega
   simp[addedL,h3,h4]
theorem wh{n:Int}:∀{l:List Int},l.Pairwise (· < ·)→n∈l→addedL l n=l
 | [],_,h=>by simp at h
 |x::l,h,hn=>by
  rw[Pf]at h;by_cases hx:x=n
  ·subst hx;have h3:decide (x<x)=Se:=by simp
   have h4:decide (x > x)=Se:=by simp
   have h5:l.filter (λy=>decide (y > x))=l:=P3.2 λy hy=>by have:=h.1 y hy;simp;omega
   simp only[addedL,PN,h3,On,if_false,Pm,h5];simp
  ·have hm:n∈l:=by rcases NX.1 hn with e|e;exact absurd e.symm hx;exact e
   have:=h.1 n hm
   have ih:=wh h.2 hm;have h3:decide (x<n)=Sh:=by simp;omega
   have h4:decide (x > n)=Se:=by simp;omega
   simp only[addedL,K9,Ob,Oe]at ih;simp only[addedL,PN,h3,if_true,Pm,h4,On,if_false,Ob,K9,Oe];rw[ih]
theorem DJ(l:List Int)(n:Int)(hs:l.Pairwise (· < ·))(hn:l.length≤200000)(s:St):az Si 151 [.slice .none (aj l),.int .i64 n] s (.slice .none (aj (addedL l n))) s:=by
 obtain⟨B,L,c⟩:=s;refine az.introN [] func151 rfl (by decide) aA (by kernel_rfl) [Sy 4] 50 rfl rfl ?_;simp only[vqM,sv,zA,zS,zM];refine ae [0,1,5,6,7] ?_;simp only[vke,zB,zA];refine aE aA l.length (λk e s=>∃q:List Int×Bool,q=Ib n (l.take k)∧(∀i(h:i<l.length),i<k→l[i]≠n)∧e=[.slice .none (aj l),.int .i64 n,J,J,J,.slice (dE c 1 q.1.length) (aj q.1),.bool q.2,.int .i64 (k:Int),J,J,J,J,J,J,J,J,J,J,J,J,J,J,J,J,J,J,J,J,J,J,J,J,J,J,J,J,J,J,J,J,J,J,J,J,J,J,J,J,J,J]∧s=⟨B,liveN L c q.1.length,c+q.1.length⟩) ?_ ?_ 0 _ _ (L7 _) ⟨([],Se),rfl,λi _ h=>by omega,rfl,rfl⟩
 ·rintro k e s hk ⟨q,hq,hI,rfl,rfl⟩ ih;have hx:l[k]?=Sd l[k]:=K4 hk;have hg:=gA hk;have hklt:((k:Int)<(l.length:Int))=True:=by simp;exact hk
  have hnext:Ib n (l.take (k+1))=dj n q l[k]:=by
   rw[N4,hx,Ov,EY,←hq]
  have hql:q.1.length≤400000:=by
   have:=uw n (l.take k) ([],Se)
   have e1:(l.take k).foldl (dj n) ([],Se)=q:=hq.symm;rw[e1]at this;simp only[L4,OD]at this;omega
  have hin:decide (l[k]=n)=Sh→addedL l n=l:=λh=>wh hs (by rw[←of_decide_eq_true h];exact NY hk);have hI2:decide (l[k]=n)=Se→∀i(h:i<l.length),i<k+1→l[i]≠n:=λh i hi hik=>by
   by_cases e:i=k
   ·subst e;exact of_decide_eq_false h
   ·exact hI i hi (by omega)
  clear hI;generalize l[k]=x at hx hg hnext hin hI2;obtain⟨q1,q2⟩:=q;simp only at hql⊢;have hof:∀B'(m:List Int)(n:Nat),aZ (dE c 1 n) (aj m) 1 ⟨B',liveN L c n,c+n⟩=Sh:=λB' m n=>cv (ba _);have hl1:(q1.length+1≤1000000)=True:=eq_true (by omega);have hl2:(q1.length+1+1≤1000000)=True:=eq_true (by omega);have hcon:∀n,(liveN L c (n+1)).contains (c+n)=Sh:=λn=>by simp[liveN]
  have hrel:=λB n=>show St.relab ⟨B,liveN L c (n+1),c+(n+1)⟩ (.lab (c+n) 1)=⟨B,liveN L c (n+1+1),c+(n+1+1)⟩ from aX (k:=n+1)
  have hea:∀m:List Int,(∀z,z∈aj m→z.length=1)=True:=λm=>eq_true (ba m);cases h0:decide (x=n);case true =>
   simp only[vqM,sv,zA,ab,hklt,decide_true,natle0,K3,hg,h0];refine gd (.inr rfl) ?_ (cq _) (λ_ h=>bu h) (by omega);simp only[vqM];rw[hin h0]
  replace hI2:=hI2 h0
  clear hin;cases q2<;>cases h1:decide (x > n);all_goals
   simp only[dj,h1,N3,NZ,N5,N2,On,if_true,if_false]at hnext;simp only[vqM,sv,zM,zL,ab,hklt,decide_true,natle0,K3,hg,h0,h1,hof,aX,hl1,hl2,bD,K5,OF,hcon,hrel];rw[ap (by omega)];refine ae [0,1,5,6,7] ?_;simp only[vke,zB,zA];refine ih _ _ ⟨_,hnext.symm,hI2,?_,?_⟩<;>simp[dE]
 ·rintro e s ⟨q,hq,hI,rfl,rfl⟩;have hklt:((l.length:Int)<(l.length:Int))=False:=by simp
  rw[N6]at hq;have hql:q.1.length≤400000:=by
   have:=uw n l ([],Se)
   have e1:l.foldl (dj n) ([],Se)=q:=hq.symm;rw[e1]at this;simp only[L4]at this;omega
  have hnl:n ∉ l:=λh=>by
   obtain⟨i,hi,he⟩:=Oa h;exact hI i hi hi he
  have hput:=zT n l [] hs hnl;rw[show l.foldl (dj n) ([],Se)=q from hq.symm,Oe]at hput;obtain⟨q1,q2⟩:=q;simp only at hql hput⊢;have hof:∀B'(m:List Int)(n:Nat),aZ (dE c 1 n) (aj m) 1 ⟨B',liveN L c n,c+n⟩=Sh:=λB' m n=>cv (ba _);have hl1:(q1.length+1≤1000000)=True:=eq_true (by omega);cases q2
  ·simp only[vqM,sv,zA,zM,zL,ab,hklt,decide_false,hof,aX,hl1,bD];refine gd (.inr rfl) ?_ (cq _) (λ_ h=>bu h) (by omega);simp only[vqM];rw[←hput,if_neg (by simp)]
  ·simp only[vqM,sv,ab,hklt,decide_false];refine gd (.inr rfl) ?_ (cq _) (λ_ h=>bu h) (by omega);simp only[vqM];rw[←hput,if_pos rfl]
theorem vt(a b:List Int)(hs:a.Pairwise (· < ·))(hn:a.length+b.length≤200000)(s:St):az Si 102 [.slice .none (aj a),.slice .none (aj b)] s (.slice .none (aj (b.foldl addedL a))) s:=by
 refine az.introN [] func102 rfl (by decide) aA (by kernel_rfl) [Sy 4] 19 rfl rfl ?_;simp only[vqM,zA,zS];refine ae [0,1,5] ?_;simp only[vke,zB,zA];refine cx aA b.length (λk=>[.slice .none (aj ((b.take k).foldl addedL a)),.slice .none (aj b),J,J,J,.int .i64 (k:Int),J,J,J,J,J,J,J,J,J,J,J,J,J]) (λ_=>s) (λk=>True) ?_ ?_ 0 (L7 _) trivial
 ·intro k hk _ ih;have hg:=gA hk;have hklt:((k:Int)<(b.length:Int))=True:=by simp;exact hk
  have hnext:(b.take (k+1)).foldl addedL a=addedL ((b.take k).foldl addedL a) b[k]:=by
   rw[N4,K4 hk,Ov,Pq];rfl
  have hl:=jZ (b.take k) a;rw[OD]at hl;have hso:=(fH (x:=0) (b.take k) a hs).1;simp only[vqM,bW,zA,ab,hklt,decide_true,natle0,K3,hg];refine aa (DJ _ b[k] hso (by omega) _) ?_;simp only[vqM];rw[ap (by omega)];refine ae [0,1,5] ?_;simp only[vke,zB,zA];rw[←hnext];exact ih trivial
 ·intro _;have hklt:((b.length:Int)<(b.length:Int))=False:=by simp
  rw[N6];simp only[vqM,bW,ab,hklt,decide_false];refine SC ?_ (cq _);simp only[vqM]
theorem CB:∀{l m:List Int},l.Pairwise (· < ·)→m.Pairwise (· < ·)→(∀x,x∈l↔x∈m)→l=m
 | [],[],_,_,_=>rfl
 | [],y::m,_,_,h=>absurd ((h y).2 (by simp)) (by simp)
 |x::l,[],_,_,h=>absurd ((h x).1 (by simp)) (by simp)
 |x::l,y::m,h1,h2,h=>by
  obtain⟨a1,a2⟩:=Pf.1 h1;obtain⟨b1,b2⟩:=Pf.1 h2;have e:x=y:=by
   have m1:=(h x).1 (by simp);have m2:=(h y).2 (by simp);rcases NX.1 m1 with e|m1
   ·exact e
   ·rcases NX.1 m2 with e|m2
    ·exact e.symm
    ·have:=a1 y m2;have:=b1 x m1;omega
  subst e;refine congrArg _ (CB a2 b2 λz=>?_);have hz:=h z;constructor
  ·intro hm;have:=a1 z hm
   rcases NX.1 (hz.1 (by simp[hm]))with e|e
   ·omega
   ·exact e
  ·intro hm;have:=b1 z hm
   rcases NX.1 (hz.2 (by simp[hm]))with e|e
   ·omega
   ·exact e
theorem z7(h:Hi):(cM h.first h.es).foldl addedL []=usedL h:=by
 have h0:=λx:Int=>fH (x:=x) (cM h.first h.es) [] RX.nil;refine CB (h0 0).1 ?_ λx=>?_
 ·have h1:(usedL h).Pairwise (· ≤ ·):=by
   have:=List.pairwise_mergeSort (le:=λa b:Int=>decide (a≤b)) (λa b c h1 h2=>by simp at *;omega) (λa b=>by simp;omega) (setS (cM h.first h.es))
   exact this.imp λh=>by simpa using h
  have h2:(usedL h).Nodup:=(Qp _ _).nodup_iff.2 (iH _);exact(h1.and h2).imp λ⟨a,b⟩=>by omega
 ·rw[(h0 x).2,usedL,fT,List.mem_mergeSort,fe];simp
theorem z6{first:Pg}{l:List Ed}{k:Nat}(hk:k<l.length):cM first (l.take (k+1))=cM first (l.take k)++(if l[k].op=1 then sitesD l[k].defs else[]):=by
 rw[N4,K4 hk,Ov,cM,cM,PM,K9];simp
theorem yM(h:Hi){n m:Nat}(H:HiN n m h)(hn:n≤12)(hm:h.es.length≤30)(s:St):az Si 60 [.agg h.cells] s (.slice .none (aj (usedL h))) s:=by
 obtain⟨B,L,c⟩:=s;have R:=Gd.of H.fi.pr;have hul:(cM h.first h.es).length≤150000:=by
  have:=lZ H.fi.df R.dl hn λe he=>(H.ed e he).1
  omega
 have hpre:∀k,(cM h.first (h.es.take k)).length≤(cM h.first h.es).length:=λk=>by
  have:h.es=h.es.take k++h.es.drop k:=(OC _ _).symm
  conv=>rhs;rw[this]
  simp only[cM,PM,K5];omega
 have h0:cM h.first (h.es.take 0)=sitesD h.first.defs:=by simp[cM]
 have hp0:=hpre 0;rw[h0]at hp0;refine az.introN [] func60 rfl (by decide) aA (by kernel_rfl) [Sy 2] 34 rfl rfl ?_;simp only[vqM,rc,zA,zS,vsH];refine aa (iB h.first.defs (by have:=R.dl;omega) (λd hd=>by have:=(H.fi.df d hd).ct;omega) _) ?_;simp only[vqM];refine aa (vt [] (sitesD h.first.defs) RX.nil (by simp;omega) _) ?_;simp only[vqM];refine ae [1,3,4] ?_;simp only[vke,zB,zA];rw[show List.foldl addedL [] (sitesD h.first.defs)=List.foldl addedL [] (cM h.first (h.es.take 0)) by rw[h0]];refine cx aA h.es.length (λk=>[J,.box B.length 0,J,.slice .none (aj ((cM h.first (h.es.take k)).foldl addedL [])),.int .i64 (k:Int),J,J,J,J,J,J,J,J,J,J,J,J,J,J,J,J,J,J,J,J,J,J,J,J,J,J,J,J,J]) (λ_=>⟨B++[.cells h.cells],L,c⟩) (λk=>True) ?_ ?_ 0 (L7 _) trivial
 ·intro k hk _ ih;have hx:h.es[k]?=Sd h.es[k]:=K4 hk;have hg:(aM h.es)[k]?=Sd (h.es[k].cells):=by simp[aM,hx]
  have hklt:((k:Int)<(h.es.length:Int))=True:=by simp;exact hk
  have hnext:=z6 (first:=h.first) hk;have hel2:=H.ed _ (NY hk);have hl1:=hpre (k+1);have hl2:=jZ (cM h.first (h.es.take k)) [];have hso:=(fH (x:=0) (cM h.first (h.es.take k)) [] RX.nil).1;generalize h.es[k]=x at hx hg hnext hel2;cases h1:decide (x.op=1)
  ·rw[if_neg (of_decide_eq_false h1),Oq]at hnext;simp only[vqM,rc,zA,vsH,vsE,af,hklt,decide_true,natle0,K3,hg,h1];rw[ap (by omega)];refine ae [1,3,4] ?_;simp only[vke,zB,zA];rw[←hnext];exact ih trivial
  ·rw[if_pos (of_decide_eq_true h1)]at hnext;rw[hnext,K5]at hl1;simp only[vqM,rc,zA,vsH,vsE,af,hklt,decide_true,natle0,K3,hg,h1];refine aa (iB x.defs (by have:=hel2.2;omega) (λd hd=>by have:=(hel2.1.df d hd).ct;omega) _) ?_;simp only[vqM];refine aa (vt _ (sitesD x.defs) hso (by simp only[L4]at hl2;omega) _) ?_;simp only[vqM];rw[ap (by omega)];refine ae [1,3,4] ?_;simp only[vke,zB,zA];rw[←Pq,←hnext];exact ih trivial
 ·intro _;have hklt:((h.es.length:Int)<(h.es.length:Int))=False:=by simp
  rw[N6,z7];simp only[vqM,rc,zA,vsH,af,hklt,decide_false];refine SB ?_ (cq _);simp only[vqM]
def vi(p:Pg)(e:Ed)(i:Nat):Bool:=match e.drop[i]? with
 |none=>Sh
 |some x=>!(e.defs.any λd=>decide (d.id=x))&&(opnB p x && !(e.drop.take i).contains x)
def FF(p:Pg)(e:Ed)(i:Nat):Bool:=match e.defs[i]? with
 |none=>Sh
 |some d=>!((headS p d.id).isSome && !opnB p d.id) && !((e.defs.take i).any λx=>decide (x.id=d.id))
def tp(p:Pg)(e:Ed)(i:Nat):Bool:=match e.frm[i]? with
 |none=>Sh
 |some x=>!((e.frm.take i).any λy=>decide (y.1=x.1))&&((sitesD e.defs).contains x.1&&(!(sitesD p.defs).contains x.1&&(sitesD p.defs).contains x.2))
theorem lP{α:Type}{l:List α}:l.Nodup↔∀i(h:i<l.length),l[i] ∉ l.take i:=by
 rw[List.nodup_iff_pairwise_ne,List.pairwise_iff_getElem];constructor
 ·intro h i hi hm;obtain⟨j,hj,he⟩:=Oa hm;simp only[OD]at hj;rw[PJ]at he;exact h j i (by omega) hi (by omega) he
 ·intro h i j hi hj hij he;refine h j hj ?_;rw[←he];exact QA.2 ⟨i,by simp;omega,by rw[PJ]⟩
theorem mm{p:Pg}{e:Ed}:ir p e=Sh↔∀i,i<e.drop.length→vi p e i=Sh:=by
 rw[ir,M1,decide_eq_true_eq,lP,N0];constructor
 ·rintro⟨h1,h2⟩ i hi;have hx:e.drop[i]?=Sd e.drop[i]:=K4 hi;have h3:=h2 _ (NY hi);have h4:=h1 i hi;simp only[vi,hx];rw[M1]at h3⊢;rw[M1];exact⟨h3.2,h3.1,by simpa using h4⟩
 ·intro h;refine⟨λi hi=>?_,λx hx=>?_⟩
  ·have:=h i hi
   simp only[vi,K4 hi,M1]at this;simpa using this.2.2
  ·obtain⟨i,hi,rfl⟩:=Oa hx;have:=h i hi
   simp only[vi,K4 hi,M1]at this;rw[M1];exact⟨this.2.1,this.1⟩
theorem qw{p:Pg}{e:Ed}:lx p e=Sh↔∀i,i<e.defs.length→FF p e i=Sh:=by
 rw[lx,M1,decide_eq_true_eq,lP,N0];constructor
 ·rintro⟨h1,h2⟩ i hi;have hx:e.defs[i]?=Sd e.defs[i]:=K4 hi;have h3:=h2 _ (NY hi);have h4:=h1 i (by simpa using hi);simp only[FF,hx];rw[M1];refine⟨h3,?_⟩;rw[OL,←Qg,Og]at h4;rw[Oy,OX];intro y hy he;exact h4 ⟨y,hy,by simpa using he⟩
 ·intro h;refine⟨λi hi=>?_,λx hx=>?_⟩
  ·have:=h i (by simpa using hi)
   rw[OH]at hi;simp only[FF,K4 hi,M1,Oy,OX]at this;rw[OL,←Qg,Og];rintro⟨y,hy,he⟩;exact this.2 y hy (by simpa using he)
  ·obtain⟨i,hi,rfl⟩:=Oa hx;have:=h i hi
   simp only[FF,K4 hi,M1]at this;exact this.1
theorem qo{p:Pg}{e:Ed}:ni p e=Sh↔∀i,i<e.frm.length→tp p e i=Sh:=by
 rw[ni,M1,decide_eq_true_eq,lP,N0];constructor
 ·rintro⟨h1,h2⟩ i hi;have hx:e.frm[i]?=Sd e.frm[i]:=K4 hi;have h3:=h2 _ (NY hi);have h4:=h1 i (by simpa using hi);simp only[tp,hx];rw[M1];refine⟨?_,by simpa[Bool.and_assoc]using h3⟩;rw[OL,←Qg,Og]at h4;rw[Oy,OX];intro y hy he;exact h4 ⟨y,hy,by simpa using he⟩
 ·intro h;refine⟨λi hi=>?_,λx hx=>?_⟩
  ·have:=h i (by simpa using hi)
   rw[OH]at hi;simp only[tp,K4 hi,M1,Oy,OX]at this;rw[OL,←Qg,Og];rintro⟨y,hy,he⟩;exact this.1 y hy (by simpa using he)
  ·obtain⟨i,hi,rfl⟩:=Oa hx;have:=h i hi
   simp only[tp,K4 hi,M1]at this;simpa[Bool.and_assoc]using this.2
theorem gK{n:Nat}{f:Nat→Bool}{b:Bool}(h:b=Sh↔∀i,i<n→f i=Sh){i:Nat}(hi:i<n)(hf:f i=Se):b=Se:=by
 cases b with
 |false=>rfl
 |true=>rw[h.1 rfl i hi]at hf;cases hf
theorem uv{l:List Df}{x:Int}{j:Nat}(hj:j<l.length):(l.take (j+1)).any (λd=>decide (d.id=x))=((l.take j).any (λd=>decide (d.id=x)) ||decide (l[j].id=x)):=by
 rw[N4,K4 hj,Ov,List.any_append];simp
theorem Cn{e e' sz by_:Nat}{a:Bool}{l:List Int}{k:Nat}(h:k≤l.length):slS (Sd (.slice e)) (Sd (e',sz,by_,a)) .none (aj l) Sf (Sd (.int .i64 (k:Int)))=Sd (.slice .none (aj (l.take k))):=by
 rw[Cp (by simp) (by rw[ab];exact h),uL]
theorem Fk{p:Pg}{id:Int}{b:Bool}(h:(headS p id).isSome=b):bz p id=.agg (((headS p id).getD Hd.zero).cells++[.bool b]):=by rw[bz,h]
theorem xU(p:Pg)(e:Ed)(hpd:p.defs.length<1000000)(hdl:e.drop.length≤1000)(hel:e.defs.length≤1000)(s:St):az Si 255 [.agg p.cells,.agg e.cells] s (.bool (ir p e&&lx p e)) s:=by
 obtain⟨B,L,c⟩:=s;refine az.introN [(14,.text [Se,Se,Se,Se,Se,Se,Se,Se,Sh,Sh] [(0,1),(2,1),(6,1),(7,1)])] func255 rfl (by decide) aA (by kernel_rfl) [Sy 4] 102 rfl rfl ?_;simp only[vqM,zA,zS,zB];refine ae [2,3,5] ?_;simp only[vke,zB,zA];refine aE aA e.drop.length (λk en s=>(∀i,i<k→vi p e i=Sh)∧en=[J,J,.box B.length 0,.box (B.length+1) 0,J,.int .i64 (k:Int),J,J,J,J,J,J,J,J,J,J,J,J,J,J,J,J,J,J,J,J,J,J,J,J,J,J,J,J,J,J,J,J,J,J,J,J,J,J,J,J,J,J,J,J,J,J,J,J,J,J,J,J,J,J,J,J,J,J,J,J,J,J,J,J,J,J,J,J,J,J,J,J,J,J,J,J,J,J,J,J,J,J,J,J,J,J,J,J,J,J,J,J,J,J,J,J]∧s=⟨B++[.cells p.cells,.cells e.cells],L,c⟩) ?_ ?_ 0 _ _ (L7 _) ⟨by omega,rfl,rfl⟩
 ·rintro k en s hk ⟨hI,rfl,rfl⟩ ih;have hx:e.drop[k]?=Sd e.drop[k]:=K4 hk;have hg:=gA hk;have hklt:((k:Int)<(e.drop.length:Int))=True:=by simp;exact hk
  have hkk:vi p e k=(!(e.defs.any λd=>decide (d.id=e.drop[k]))&&(opnB p e.drop[k] && !(e.drop.take k).contains e.drop[k])):=by simp only[vi,hx]
  have hsl:=λ(e1 e2 sz by_:Nat)(a:Bool)=>Cn (e:=e1) (e':=e2) (sz:=sz) (by_:=by_) (a:=a) (l:=e.drop) (k:=k) (by omega);generalize e.drop[k]=x at hx hg hkk;simp only[vqM,eA,zA,zB,vsE,ab,hklt,decide_true];refine ae [2,3,5,6] ?_;simp only[vke,zB,zA];refine aE aA e.defs.length (λj en s=>(e.defs.take j).any (λd=>decide (d.id=x))=Se∧en=[J,J,.box B.length 0,.box (B.length+1) 0,J,.int .i64 (k:Int),.int .i64 (j:Int),J,J,J,J,J,J,J,J,J,J,J,J,J,J,J,J,J,J,J,J,J,J,J,J,J,J,J,J,J,J,J,J,J,J,J,J,J,J,J,J,J,J,J,J,J,J,J,J,J,J,J,J,J,J,J,J,J,J,J,J,J,J,J,J,J,J,J,J,J,J,J,J,J,J,J,J,J,J,J,J,J,J,J,J,J,J,J,J,J,J,J,J,J,J,J]∧s=⟨B++[.cells p.cells,.cells e.cells],L,c⟩) ?_ ?_ 0 _ _ (L7 _) ⟨rfl,rfl,rfl⟩
  ·rintro j en s hj ⟨hJ,rfl,rfl⟩ ihj;have hy:e.defs[j]?=Sd e.defs[j]:=K4 hj;have hgy:(ax e.defs)[j]?=Sd (e.defs[j].cells):=by simp[ax,hy]
   have hjlt:((j:Int)<(e.defs.length:Int))=True:=by simp;exact hj
   have hat:=uv (x:=x) hj;rw[hJ,L5]at hat;have hany:decide (e.defs[j].id=x)=Sh→(e.defs.any λd=>decide (d.id=x))=Sh:=λh=>PH.2 ⟨_,NY hj,h⟩;generalize e.defs[j]=y at hy hgy hat hany;cases hc:decide (y.id=x)
   ·rw[hc]at hat;simp only[vqM,eA,zA,zB,vsE,ah,hjlt,decide_true,natle0,K3,hg,hgy,hc];rw[ap (by omega)];refine ae [2,3,5,6] ?_;simp only[vke,zB,zA];exact ihj _ _ ⟨hat,rfl,rfl⟩
   ·rw[hany hc,N3,M7]at hkk;simp only[vqM,eA,zA,zB,vsE,ah,hjlt,decide_true,natle0,K3,hg,hgy,hc];refine SB ?_ (.bool _);simp only[vqM];rw[gK mm hk hkk];rfl
  ·rintro en s ⟨hJ,rfl,rfl⟩;have hjlt:((e.defs.length:Int)<(e.defs.length:Int))=False:=by simp
   rw[N6]at hJ;rw[hJ,NZ,K8]at hkk;simp only[vqM,eA,zA,zB,vsE,ah,hjlt,decide_false,natle0,K3,hg];refine aa (tY p x hpd _) ?_;cases ho:opnB p x with
   |false =>
    rw[ho,M7]at hkk;simp only[vqM,zB];refine SB ?_ (.bool _);simp only[vqM];rw[gK mm hk hkk];rfl
   |true =>
    rw[ho,K8]at hkk;simp only[vqM,eA,zA,vsE,natle0,K3,hg,hsl];refine aa (kV _ _ _) ?_;cases hh:(e.drop.take k).contains x with
    |true =>
     rw[hh,N3]at hkk;simp only[vqM,zB];refine SB ?_ (.bool _);simp only[vqM];rw[gK mm hk hkk];rfl
    |false =>
     rw[hh,NZ]at hkk;simp only[vqM];rw[ap (by omega)];refine ae [2,3,5] ?_;simp only[vke,zB,zA];refine ih _ _ ⟨λi hi=>?_,rfl,rfl⟩;by_cases e1:i=k
     ·subst e1;exact hkk
     ·exact hI i (by omega)
 ·rintro en s ⟨hI,rfl,rfl⟩;have hklt:((e.drop.length:Int)<(e.drop.length:Int))=False:=by simp
  rw[mm.2 hI,K8];simp only[vqM,eA,zA,zB,vsE,ab,hklt,decide_false];refine ae [2,3,7] ?_;simp only[vke,zB,zA];refine aE aA e.defs.length (λk en s=>(∀i,i<k→FF p e i=Sh)∧en=[J,J,.box B.length 0,.box (B.length+1) 0,J,J,J,.int .i64 (k:Int),J,J,J,J,J,J,J,J,J,J,J,J,J,J,J,J,J,J,J,J,J,J,J,J,J,J,J,J,J,J,J,J,J,J,J,J,J,J,J,J,J,J,J,J,J,J,J,J,J,J,J,J,J,J,J,J,J,J,J,J,J,J,J,J,J,J,J,J,J,J,J,J,J,J,J,J,J,J,J,J,J,J,J,J,J,J,J,J,J,J,J,J,J,J]∧∃X,s=⟨B++.cells p.cells::.cells e.cells::X,L,c⟩) ?_ ?_ 0 _ _ (L7 _) ⟨by omega,rfl,[],rfl⟩
  ·rintro k en s hk ⟨hI,rfl,X,rfl⟩ ih;have hx:e.defs[k]?=Sd e.defs[k]:=K4 hk;have hg:(ax e.defs)[k]?=Sd (e.defs[k].cells):=by simp[ax,hx]
   have hklt:((k:Int)<(e.defs.length:Int))=True:=by simp;exact hk
   have hkk:FF p e k=(!((headS p e.defs[k].id).isSome && !opnB p e.defs[k].id) && !((e.defs.take k).any λx=>decide (x.id=e.defs[k].id))):=by simp only[FF,hx]
   generalize e.defs[k]=x at hx hg hkk;have hz6:∀(h:Hd)(b:D),Qc 6 (h.cells++[b])=h.cells++[b]:=λ_ _=>rfl;have hz5:∀(h:Hd)(b:D),(Qd 5 (h.cells++[b]))[0]?=Sd b:=λ_ _=>rfl;have hzl:∀(h:Hd)(b:D),(h.cells++[b]).length=6:=λ_ _=>rfl;simp only[vqM,eA,zA,zB,vsE,ah,hklt,decide_true,natle0,K3,hg];refine aa (iW p x.id _) ?_;cases hs:(headS p x.id).isSome;case' false =>
    rw[hs,M7,NZ,K8]at hkk;rw[Fk hs];simp only[vqM,eA,zA,zS,zM,zL,zE,zB,reduceCtorEq,vsE,ah,hklt,decide_true,natle0,K3,hg,hz6,hz5,hzl];refine aB (aa (iW p x.id _) ?_) ?_
    ·rw[Fk hs];simp only[vqM,eA,zA,zS,zM,zL,zE,zB,reduceCtorEq,vsE,ah,hz6,hz5,hzl]
    simp only[vqM,eA,zA,zS,zM,zL,zE,zB,reduceCtorEq,vsE,ah,hklt,decide_true,natle0,K3,hg,hz6,hz5,hzl]
   case' true =>
    rw[hs,K8,Bool.not_not]at hkk;rw[Fk hs];simp only[vqM,eA,zA,zS,zM,zL,zE,zB,reduceCtorEq,vsE,ah,hklt,decide_true,natle0,K3,hg,hz6,hz5,hzl];refine aB (aa (iW p x.id _) ?_) ?_
    ·rw[Fk hs];simp only[vqM,eA,zA,zS,zM,zL,zE,zB,reduceCtorEq,vsE,ah,hz6,hz5,hzl]
    simp only[vqM,eA,zA,zS,zM,zL,zE,zB,reduceCtorEq,vsE,ah,hklt,decide_true,natle0,K3,hg,hz6,hz5,hzl];refine aa (tY p x.id hpd _) ?_;cases ho:opnB p x.id;case' false =>
     rw[ho,M7]at hkk;simp only[vqM,eA,zA,zS,zM,zL,zE,zB,reduceCtorEq];refine SB ?_ (.bool _);simp only[vqM,eA,zA,zS,zM,zL,zE,zB,reduceCtorEq];rw[gK qw hk hkk]
    case' true =>
     rw[ho,K8]at hkk;simp only[vqM,eA,zA,zS,zM,zL,zE,zB,reduceCtorEq]
   all_goals
    refine ae [2,3,7,9] ?_;simp only[vke,zB,zA];refine aE aA k (λj en s=>(e.defs.take j).any (λd=>decide (d.id=x.id))=Se∧en=[J,J,.box B.length 0,.box (B.length+1) 0,J,J,J,.int .i64 (k:Int),J,.int .i64 (j:Int),J,J,J,J,J,J,J,J,J,J,J,J,J,J,J,J,J,J,J,J,J,J,J,J,J,J,J,J,J,J,J,J,J,J,J,J,J,J,J,J,J,J,J,J,J,J,J,J,J,J,J,J,J,J,J,J,J,J,J,J,J,J,J,J,J,J,J,J,J,J,J,J,J,J,J,J,J,J,J,J,J,J,J,J,J,J,J,J,J,J,J,J]∧s=⟨B++.cells p.cells::.cells e.cells::(X++[.cells (((headS p x.id).getD Hd.zero).cells++[.bool (headS p x.id).isSome])]),L,c⟩) ?_ ?_ 0 _ _ (L7 _) ⟨rfl,rfl,by rw[hs]⟩
    ·rintro j en s hj ⟨hJ,rfl,rfl⟩ ihj;have hjl:j<e.defs.length:=by omega
     have hy:e.defs[j]?=Sd e.defs[j]:=K4 hjl;have hgy:(ax e.defs)[j]?=Sd (e.defs[j].cells):=by simp[ax,hy]
     have hjlt:((j:Int)<(k:Int))=True:=by simp;exact hj
     have hat:=uv (x:=x.id) hjl;rw[hJ,L5]at hat;have hany:decide (e.defs[j].id=x.id)=Sh→((e.defs.take k).any λd=>decide (d.id=x.id))=Sh:=λh=>PH.2 ⟨_,QA.2 ⟨j,by simp;omega,by rw[PJ]⟩,h⟩;generalize e.defs[j]=y at hy hgy hat hany;cases hc:decide (y.id=x.id)
     ·rw[hc]at hat;simp only[vqM,eA,zA,zS,zM,zL,zE,zB,reduceCtorEq,vsE,ah,hjlt,decide_true,natle0,K3,hg,hgy,hc];rw[ap (by omega)];refine ae [2,3,7,9] ?_;simp only[vke,zB,zA];exact ihj _ _ ⟨hat,rfl,rfl⟩
     ·rw[hany hc,N3]at hkk;simp only[vqM,eA,zA,zS,zM,zL,zE,zB,reduceCtorEq,vsE,ah,hjlt,decide_true,natle0,K3,hg,hgy,hc];refine SB ?_ (.bool _);simp only[vqM,eA,zA,zS,zM,zL,zE,zB,reduceCtorEq];rw[gK qw hk hkk]
    ·rintro en s ⟨hJ,rfl,rfl⟩;have hjlt:((k:Int)<(k:Int))=False:=by simp
     rw[hJ,NZ]at hkk;simp only[vqM,eA,zA,zS,zM,zL,zE,zB,reduceCtorEq,vsE,hjlt,decide_false];rw[ap (by omega)];refine ae [2,3,7] ?_;simp only[vke,zB,zA];refine ih _ _ ⟨λi hi=>?_,rfl,_,rfl⟩;by_cases e1:i=k
     ·subst e1;exact hkk
     ·exact hI i (by omega)
  ·rintro en s ⟨hI,rfl,X,rfl⟩;have hklt:((e.defs.length:Int)<(e.defs.length:Int))=False:=by simp
   rw[qw.2 hI];simp only[vqM,eA,zA,zB,vsE,ah,hklt,decide_false];refine SB ?_ (.bool _);simp only[vqM]
theorem tq{l:List (Int×Int)}{i:Nat}{x:Int×Int}(h:l[i]?=Sd x):(ib l)[i]?=Sd [.int .i64 x.1,.int .i64 x.2]:=by simp[ib,h]
theorem EW{l:List (Int×Int)}{x:Int}{j:Nat}(hj:j<l.length):(l.take (j+1)).any (λd=>decide (d.1=x))=((l.take j).any (λd=>decide (d.1=x)) ||decide (l[j].1=x)):=by
 rw[N4,K4 hj,Ov,List.any_append];simp
theorem FY(p:Pg)(e:Ed)(hpd:p.defs.length≤100)(hpc:∀d∈p.defs,cu d.body≤1000)(hdl:e.drop.length≤1000)(hel:e.defs.length≤100)(hec:∀d∈e.defs,cu d.body≤1000)(hfl:e.frm.length≤1000)(s:St):az Si 207 [.agg p.cells,.agg e.cells] s (.bool (fitsB p e)) s:=by
 obtain⟨B,L,c⟩:=s;rw[fitsB];refine az.introN [(1,.text [Se,Se,Sh,Se,Se,Sh,Se,Se] [(4,0)])] func207 rfl (by decide) aA (by kernel_rfl) [Sy 4] 63 rfl rfl ?_;simp only[vqM,gg,zA,zS,zB];refine aa (iB p.defs hpd hpc _) ?_;simp only[vqM,gg,zA,vsE];refine aa (iB e.defs hel hec _) ?_;simp only[vqM,gg,zB,vsE];refine ae [2,3,5,6,7] ?_;simp only[vke,zB,zA];refine aE aA e.frm.length (λk en s=>(∀i,i<k→tp p e i=Sh)∧en=[J,J,.box B.length 0,.box (B.length+1) 0,J,.slice .none (aj (sitesD p.defs)),.slice .none (aj (sitesD e.defs)),.int .i64 (k:Int),J,J,J,J,J,J,J,J,J,J,J,J,J,J,J,J,J,J,J,J,J,J,J,J,J,J,J,J,J,J,J,J,J,J,J,J,J,J,J,J,J,J,J,J,J,J,J,J,J,J,J,J,J,J,J]∧∃X,s=⟨B++.cells p.cells::.cells e.cells::X,L,c⟩) ?_ ?_ 0 _ _ (L7 _) ⟨by omega,rfl,[],rfl⟩
 ·rintro k en s hk ⟨hI,rfl,X,rfl⟩ ih;have hx:e.frm[k]?=Sd e.frm[k]:=K4 hk;have hg:=tq hx;have hklt:((k:Int)<(e.frm.length:Int))=True:=by simp;exact hk
  have hkk:tp p e k=(!((e.frm.take k).any λy=>decide (y.1=e.frm[k].1))&&((sitesD e.defs).contains e.frm[k].1&&(!(sitesD p.defs).contains e.frm[k].1&&(sitesD p.defs).contains e.frm[k].2))):=by simp only[tp,hx]
  generalize e.frm[k]=x at hx hg hkk;obtain⟨x0,x1⟩:=x;simp only at hg hkk;have hb8:∀W,(B++Box.cells p.cells::Box.cells e.cells::(X++Box.cells [.int .i64 x0,.int .i64 x1]::W))[B.length+(X.length+1+1)]?=Sd (.cells [.int .i64 x0,.int .i64 x1]):=λW=>by
   rw[bq,OK,OK,bL];rfl
  simp only[vqM,gg,zA,zB,vsE,db,hklt,decide_true,natle0,K3,hg];refine ae [2,3,5,6,7,8,9] ?_;simp only[vke,zB,zA];refine aE aA k (λj en s=>(e.frm.take j).any (λd=>decide (d.1=x0))=Se∧en=[J,J,.box B.length 0,.box (B.length+1) 0,J,.slice .none (aj (sitesD p.defs)),.slice .none (aj (sitesD e.defs)),.int .i64 (k:Int),.box (B.length+(X.length+1+1)) 0,.int .i64 (j:Int),J,J,J,J,J,J,J,J,J,J,J,J,J,J,J,J,J,J,J,J,J,J,J,J,J,J,J,J,J,J,J,J,J,J,J,J,J,J,J,J,J,J,J,J,J,J,J,J,J,J,J,J,J]∧s=⟨B++.cells p.cells::.cells e.cells::(X++[.cells [.int .i64 x0,.int .i64 x1]]),L,c⟩) ?_ ?_ 0 _ _ (L7 _) ⟨rfl,rfl,rfl⟩
  ·rintro j en s hj ⟨hJ,rfl,rfl⟩ ihj;have hjl:j<e.frm.length:=by omega
   have hy:e.frm[j]?=Sd e.frm[j]:=K4 hjl;have hgy:=tq hy;have hjlt:((j:Int)<(k:Int))=True:=by simp;exact hj
   have hat:=EW (x:=x0) hjl;rw[hJ,L5]at hat;have hany:decide (e.frm[j].1=x0)=Sh→((e.frm.take k).any λd=>decide (d.1=x0))=Sh:=λh=>PH.2 ⟨_,QA.2 ⟨j,by simp;omega,by rw[PJ]⟩,h⟩;generalize e.frm[j]=y at hy hgy hat hany;obtain⟨y0,y1⟩:=y;simp only at hgy hat hany;cases hc:decide (y0=x0)
   ·rw[hc]at hat;simp only[vqM,gg,zA,zB,vsE,vsA,hjlt,decide_true,natle0,K3,hgy,hb8,hc];rw[ap (by omega)];refine ae [2,3,5,6,7,8,9] ?_;simp only[vke,zB,zA];exact ihj _ _ ⟨hat,rfl,rfl⟩
   ·rw[hany hc,N3,M7]at hkk;simp only[vqM,gg,zA,zB,vsE,vsA,hjlt,decide_true,natle0,K3,hgy,hb8,hc];refine SB ?_ (.bool _);simp only[vqM];rw[gK qo hk hkk];rfl
  ·rintro en s ⟨hJ,rfl,rfl⟩;have hjlt:((k:Int)<(k:Int))=False:=by simp
   rw[hJ,NZ,K8]at hkk;simp only[vqM,gg,zB,vsA,hjlt,decide_false,hb8];refine aa (kV _ _ _) ?_;have fin:∀b:Bool,tp p e k=b→b=Se→(ni p e&&(ir p e&&lx p e))=Se:=λb h1 h2=>by rw[gK qo hk (h1.trans h2)];rfl
   cases h1:(sitesD e.defs).contains x0 with
   |false =>
    rw[h1]at hkk;simp only[vqM,zB];refine SB ?_ (.bool _);simp only[vqM];rw[fin _ hkk rfl]
   |true =>
    rw[h1,K8]at hkk;simp only[vqM,gg,vsA,hb8];refine aa (kV _ _ _) ?_;cases h2:(sitesD p.defs).contains x0 with
    |true =>
     rw[h2]at hkk;simp only[vqM,zB];refine SB ?_ (.bool _);simp only[vqM];rw[fin _ hkk rfl]
    |false =>
     rw[h2,NZ,K8]at hkk;simp only[vqM,gg,zA,vsA,hb8];refine aa (kV _ _ _) ?_;cases h3:(sitesD p.defs).contains x1 with
     |false =>
      rw[h3]at hkk;simp only[vqM,zB];refine SB ?_ (.bool _);simp only[vqM];rw[fin _ hkk rfl]
     |true =>
      rw[h3]at hkk;simp only[vqM];rw[ap (by omega)];refine ae [2,3,5,6,7] ?_;simp only[vke,zB,zA];refine ih _ _ ⟨λi hi=>?_,rfl,_,rfl⟩;by_cases e1:i=k
      ·subst e1;exact hkk
      ·exact hI i (by omega)
 ·rintro en s ⟨hI,rfl,X,rfl⟩;have hklt:((e.frm.length:Int)<(e.frm.length:Int))=False:=by simp
  rw[qo.2 hI,K8];simp only[vqM,gg,zA,zB,vsE,db,hklt,decide_false];refine aa (xU p e (by omega) hdl (by omega) _) ?_;simp only[vqM];refine SB ?_ (.bool _);simp only[vqM]
end Go.V
