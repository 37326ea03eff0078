/-
  The value-level logic and its contracts, part 9 (texts W12, M5, M6, W13, W14, W15, W16, M7, W17, W20, Q6, W21, W23, W24, W26, W25).
-/
import Derived.Test.YtlobjjbchnjfiaaGreatBpre8
import Derived.Test.YtlobjjbchnjfiaaGreatBpre6
import Derived.Test.YtlobjjbchnjfiaaGreatBpre4
import Derived.Test.YtlobjjbchnjfiaaGreatBpre3
import Derived.Test.YtlobjjbchnjfiaaGreatBpre5
import Derived.Shelf.Slices.In.SortNone
import Derived.Test.YtlobjjbchnjfiaaGreatBpre7
open List renaming nil_append→MA,all_eq_true→Mn,all_eq_false→No,mem_filter→Nn,mem_append→Mz,mem_map→MB,append_assoc→L4,cons_append→Mw,length_append→K4,length_cons→K7,length_nil→K8,take_succ_cons→Oh,take_zero→OF,take_nil→Pi,range→MF,mem_range→MP,perm_ext_iff_of_nodup→Pf,nodup_range→OW,getD→NC,getElem?_eq_getElem→C0,replicate→MD,length_map→MW,foldl_append→NG,getElem?_eq_some_iff→L5,drop_eq_getElem_cons→MG,map_cons→M6,set_append_right→Nm,drop_length→N4,take→O2,drop→OM,getElem?_set_self→MH,mem_singleton→MI,drop_zero→NL,take_of_length_le→Mo,length_filter_le→Nc,filter_append→NX,take_append_drop→MM,take_add_one→Mt,getElem_mem→Mf,map_take→OB,length_set→Oo,getElem?_set_ne→ME,mem_cons→Mj,not_mem_nil→MX,getD_cons_zero→M7,getD_cons_succ→M3,contains_cons→M5,contains_nil→Np,append_nil→MK,flatMap_append→N0,any_eq_true→NT,set_append_left→Od,getElem?_append_left→ML,getElem_of_mem→Mx,length_take→MN,mem_of_mem_take→Nu,set_cons_succ→NB,set_cons_zero→OD,mergeSort_perm→Oj,length_singleton→MY,flatMap_cons→Ox,getElem?_cons_succ→MZ,take_length→Mv,getElem?_cons_zero→N8,map_append→Ns,foldl_cons→Nz,pairwise_cons→NA,filter_eq_self→N6,takeWhile_cons→N1,filter_cons→NE,Pairwise→Qg,getElem_take→NV,mem_iff_getElem→OR,getElem_map→M4,any_eq_false→Nl
open Nat renaming le_refl→K5,zero_le→K9,zero_add→MR,mul_one→N7,add_mul→NW,mul_le_mul→OE,le_trans→Ol
open Bool renaming and_eq_true→Mh,eq_iff_iff→Nv,false_and→Me,or_false→Mm,or_true→Ms,true_or→Mr,false_or→Mi,not_eq_true'→MU,true_and→K6,and_false→Mq,not_true→Mp,not_false→Ml,and_true→Mu,false_eq_true→MJ
open Option renaming isSome_iff_exists→NZ,isSome_eq_false_iff→PS,isNone_iff_eq_none→PW,map_eq_some_iff→MQ,isSome_none→Oa,isSome_some→NN,getD_some→Nf,toList_some→MO,bind_some→Ni
open Int renaming toNat_natCast→K3,le_refl→NH
open Nat renaming reduceAdd → zA, reduceSub → zS, reduceMul → zM, reduceLeDiff → zL, reduceEqDiff → zE, reduceBEq → zB
open Go.V.D renaming junk → J
set_option linter.all false
set_option linter.unusedSimpArgs false
set_option linter.unusedVariables false
set_option linter.unnecessarySimpa false
set_option maxHeartbeats 4000000
open Option renaming some→Qv
open Bool renaming false→Qw
open Option renaming none→Qx
open Bool renaming true→Qy
open Go.Proofs.Tryz renaming prog→Qz
open Go.ResultVar renaming tmp→QO,cell→QP
open Go.IntKind renaming i64→QQ
namespace Go.V
open Go.Proofs Go.Proofs.Tryz
set_option maxRecDepth 20000
set_option maxHeartbeats 4000000
def fn1:D:=.func (.func 154) [] []
def fn2:D:=.func (.func 155) [] []
def fn3:D:=.func (.func 156) [] []
def fn4:D:=.func (.func 157) [] []
def mq:List (D×D):=[(.int .i64 1,fn1),(.int .i64 2,fn2),(.int .i64 3,fn3),(.int .i64 4,fn4)]
theorem Di:∀(i:Nat)(hi:i<mq.length),Bd 0 0 mq[i].1∧Bd 0 0 mq[i].2:=λi hi=>by
 have hf:∀k,Bd 0 0 (.func (.func k) [] []):=λk=>.func _ _ _ (λi hi=>by simp at hi) (λi hi=>by simp at hi);have:i=0∨i=1∨i=2∨i=3:=by simp[mq]at hi;omega
 rcases this with rfl|rfl|rfl|rfl<;>exact⟨.int _ _,hf _⟩
theorem HK(B:List Box)(L:List Nat)(c:Nat):ay Qz 106 [] ⟨B,L,c⟩ (.map B.length) ⟨B++[.map mq],L,c⟩:=by
 refine ay.introN [] func106 rfl (by decide) az (by kernel_rfl) [QO 0] 3 rfl rfl ?_;simp only[vqM,tf3,DJ,zA,zS,mapPut,bp,Int.reduceEq];refine A6 (X:=[]) (.inr rfl) ?_ Di (λ_ h=>h) (K5 _);simp only[vqM]
def tr(r:Option Pg):D:=.tup [.agg (r.getD Pg.zero).cells,.int .i64 (if r.isSome then 0 else 220)]
theorem om(r:Option Pg):Bd 0 0 (tr r):=.tup _ λi hi=>by
 match i,hi with
 |0,_=>exact aK (Pg.bd _)
 |1,_=>exact .int _ _
structure ApH (p:Pg) (e:Ed):Prop where
 pr:programS p=0
 nm:∀d∈p.defs,d.name.size≤1000
 ct:∀d∈p.defs,cq d.body≤10000
 ca:∀d∈p.defs,(rawC (flatL 1 d.body)).length≤12
 en:e.name.size≤1000
 dn:∀d∈e.defs,d.name.size≤1000
 dc:∀d∈e.defs,cq d.body≤10000
 da:∀d∈e.defs,(rawC (flatL 1 d.body)).length≤12
 el:e.defs.length≤50
 dl:e.drop.length≤1000
 fl:e.frm.length≤1000
 hl:∀l,editedS p e=Qv l→tH (jL p l)
theorem ApH.ids{p:Pg}{e:Ed}(H:ApH p e):nh p.defs:=by
 have R:=Gd.of H.pr;exact⟨R.df,λd hd=>by have:=rX (R.defOk hd);omega,by have:=R.dl;omega⟩
theorem ApH.fit{p:Pg}{e:Ed}(H:ApH p e):FitH p e:=by
 have R:=Gd.of H.pr;exact⟨H.ids,by have:=R.dl;omega,H.el,λd hd=>⟨by have:=H.dn d hd;omega,by rw[bH];have:=H.dc d hd;omega⟩,by have:=H.dl;omega,by have:=H.fl;omega,λd hd=>by rw[bH];have:=H.ct d hd;omega⟩
def kT(p:Pg)(e:Ed):Pg:=if e.op=1 then afterD p e else if e.op=2 then {p with defs:=movedL p.defs (nameD p e)}else if e.op=3 then {p with defs:=movedL p.defs (partD p e)}else {p with threads:=e.drop}
def doneB(p:Pg)(e:Ed):Bool:=if e.op=1 then fitsC p e else if e.op=2 then(findS p e.a).isSome else if e.op=3 then(findS p e.a).isSome else decide (e.op=4)
def doF(e:Ed):Option D:=if e.op=1 then Qv fn1 else if e.op=2 then Qv fn2 else if e.op=3 then Qv fn3 else if e.op=4 then Qv fn4 else Qx
theorem zq(e:Ed):Option.map (λr=>jy r .nilf Qy) (bp .i64 e.op mq 0)=Qv (.tup [(doF e).getD .nilf,.bool (doF e).isSome]):=by
 simp only[mq,bp,if_true,doF];by_cases h1:e.op=1
 ·rw[if_pos h1,if_pos h1];rfl
 rw[if_neg h1,if_neg h1];by_cases h2:e.op=2
 ·rw[if_pos h2,if_pos h2];rfl
 rw[if_neg h2,if_neg h2];by_cases h3:e.op=3
 ·rw[if_pos h3,if_pos h3];rfl
 rw[if_neg h3,if_neg h3];by_cases h4:e.op=4
 ·rw[if_pos h4,if_pos h4];rfl
 rw[if_neg h4,if_neg h4];rfl
theorem t_do(p:Pg)(e:Ed)(H:ApH p e){f:D}(hf:doF e=Qv f)(B T:List Box)(L:List Nat)(c:Nat) :
  cT Qz f [.box B.length 0,.agg e.cells] ⟨B++.cells p.cells::T,L,c⟩ (.bool (doneB p e)) ⟨B++.cells (kT p e).cells::T,L,c⟩:=by
 simp only[doF]at hf;by_cases h1:e.op=1
 ·rw[if_pos h1]at hf;cases hf;rw[doneB,kT,if_pos h1,if_pos h1];exact HL p e H.fit B T L c
 rw[if_neg h1]at hf;by_cases h2:e.op=2
 ·rw[if_pos h2]at hf;cases hf;rw[doneB,kT,if_neg h1,if_neg h1,if_pos h2,if_pos h2];exact HA p H.ids e B T L c
 rw[if_neg h2]at hf;by_cases h3:e.op=3
 ·rw[if_pos h3]at hf;cases hf;rw[doneB,kT,if_neg h1,if_neg h1,if_neg h2,if_neg h2,if_pos h3,if_pos h3];exact Hx p H.ids e B T L c
 rw[if_neg h3]at hf;by_cases h4:e.op=4
 ·rw[if_pos h4]at hf;cases hf;rw[doneB,kT,if_neg h1,if_neg h1,if_neg h2,if_neg h2,if_neg h3,if_neg h3,h4];exact BJ p e B T L c
 rw[if_neg h4]at hf;cases hf
theorem wR{p:Pg}{e:Ed}(h:fitsC p e=Qy):afterD p e={p with defs:=nextD p e}:=by rw[afterD,if_pos h]
theorem Bn{p:Pg}{e:Ed}(h:fitsC p e=Qy):fitsB p e=Qy∧∀d∈e.defs,defB d p.d=Qy:=by
 simp only[fitsC,rV,okD,Mh,Mn]at h;obtain⟨⟨h1,h2⟩,h3,h4⟩:=h;simp only[fitsB,m8,Mh,Mn];exact⟨⟨h4,h3,h1,λd hd=>(h2 d hd).1⟩,λd hd=>(h2 d hd).2⟩
theorem Dj{p:Pg}{e:Ed}(h:doneB p e=Qy):∃l,editedS p e=Qv l∧kT p e={p with defs:=l,threads:=if e.op=4 then e.drop else p.threads}:=by
 rw[doneB]at h;rw[editedS,kT];by_cases h1:e.op=1
 ·rw[if_pos h1]at h;rw[if_pos h1,if_pos h1,if_pos (Bn h).1,wR h,h1];exact⟨_,rfl,rfl⟩
 rw[if_neg h1]at h;rw[if_neg h1,if_neg h1];by_cases h2:e.op=2
 ·rw[if_pos h2]at h;obtain⟨d,hd⟩:=NZ.1 h;rw[if_pos h2,if_pos h2,hd,h2,nameD,hd];exact⟨_,rfl,rfl⟩
 rw[if_neg h2]at h;rw[if_neg h2,if_neg h2];by_cases h3:e.op=3
 ·rw[if_pos h3]at h;obtain⟨d,hd⟩:=NZ.1 h;rw[if_pos h3,if_pos h3,hd,h3,partD,hd];exact⟨_,rfl,rfl⟩
 rw[if_neg h3]at h;rw[if_neg h3,if_neg h3];have h4:=of_decide_eq_true h;rw[if_pos h4,if_pos h4];exact⟨_,rfl,rfl⟩
theorem zY{p:Pg}{e:Ed}(hp:programS p=0)(h:doneB p e=Qw):applyS p e=Qx:=by
 rw[doneB]at h;by_cases h1:e.op=1
 ·rw[if_pos h1]at h;by_cases hb:e.defs.all (λd=>defB d p.d)=Qy
  ·have:fitsB p e=Qw:=by
    simp only[fitsC,rV,okD,Bool.and_eq_false_iff,No]at h;simp only[fitsB,m8,Bool.and_eq_false_iff,No];rcases h with (h|⟨d,hd,h⟩)|h|h
    ·exact .inr (.inr (.inl h))
    ·refine .inr (.inr (.inr ⟨d,hd,?_⟩));have:=Mn.1 hb d hd
     simpa[this]using h
    ·exact .inr (.inl h)
    ·exact .inl h
   rw[applyS,editedS,if_pos h1,this];rfl
  ·rw[Mn]at hb;simp only[Classical.not_forall]at hb;obtain⟨d,hd,hb⟩:=hb;exact uG hp h1 hd (by simpa using hb)
 rw[if_neg h1]at h;rw[applyS,editedS,if_neg h1];by_cases h2:e.op=2
 ·rw[if_pos h2]at h;rw[if_pos h2,PS.1 h |> PW.1];rfl
 rw[if_neg h2]at h;rw[if_neg h2];by_cases h3:e.op=3
 ·rw[if_pos h3]at h;rw[if_pos h3,PS.1 h |> PW.1];rfl
 rw[if_neg h3]at h;rw[if_neg h3,if_neg (of_decide_eq_false h)]
theorem FS{p:Pg}{e:Ed}(h:doF e=Qx):applyS p e=Qx:=by
 rw[doF]at h;split at h
 ·cases h
 split at h
 ·cases h
 split at h
 ·cases h
 split at h
 ·cases h
 rename_i h1 h2 h3 h4;rw[applyS,editedS,if_neg h1,if_neg h2,if_neg h3,if_neg h4]
theorem pW{p:Pg}(R:Gd p){e:Ed}{l:List Df}(h:editedS p e=Qv l):∀d∈l,d∈p.defs∨(d∈e.defs∧e.op=1)∨∃x∈p.defs,d.id=x.id∧d.body=x.body∧(d.name=x.name∨d.name=e.name):=by
 rw[editedS]at h;split at h
 ·rename_i ho;split at h
  ·cases h;intro d hd;rcases gY (R.df.filter _) hd with h1|h1
   ·exact .inl (Nn.1 h1).1
   ·exact .inr (.inl ⟨h1,ho⟩)
  ·cases h
 split at h
 ·obtain⟨x,hx,rfl⟩:=MQ.1 h;obtain⟨h1,h2⟩:=dE hx;intro d hd;rcases(dk R.df).1 hd with rfl|⟨h3,_⟩
  ·exact .inr (.inr ⟨x,h1,rfl,rfl,.inr rfl⟩)
  ·exact .inl h3
 split at h
 ·obtain⟨x,hx,rfl⟩:=MQ.1 h;obtain⟨h1,h2⟩:=dE hx;intro d hd;rcases(dk R.df).1 hd with rfl|⟨h3,_⟩
  ·exact .inr (.inr ⟨x,h1,rfl,rfl,.inl rfl⟩)
  ·exact .inl h3
 split at h
 ·cases h;exactλd hd=>.inl hd
 ·cases h
theorem ApH.pgOk{p:Pg}{e:Ed}(H:ApH p e){l:List Df}(h:editedS p e=Qv l):PgOk (candS p e l):=by
 have R:=Gd.of H.pr;have key:∀d∈l,d.name.size≤1000∧cq d.body≤10000∧(rawC (flatL 1 d.body)).length≤12:=by
  intro d hd;rcases pW R h d hd with h1|⟨h1,_⟩|⟨x,h1,_,h2,h3⟩
  ·exact⟨H.nm d h1,H.ct d h1,H.ca d h1⟩
  ·exact⟨H.dn d h1,H.dc d h1,H.da d h1⟩
  ·rw[h2];refine⟨?_,H.ct x h1,H.ca x h1⟩;rcases h3 with h3|h3<;>rw[h3]
   ·exact H.nm x h1
   ·exact H.en
 exact⟨λd hd=>by have:=(key d hd).1;omega,λd hd=>by have:=(key d hd).2.1;rw[bH];omega,λd hd=>(key d hd).2.2⟩
theorem ApH.good{p:Pg}{e:Ed}(H:ApH p e)(hB:doneB p e=Qy){l:List Df}(h:editedS p e=Qv l):∀x∈jL p l,gE x:=by
 have R:=Gd.of H.pr;have hd:∀{d:Df},d∈p.defs→gE (headOf d):=λhd=>by
  have:=rX (R.defOk hd)
  exact⟨by show 0≤Df.id _;omega,this.2.1⟩
 intro x hx;rw[jL,Mz]at hx;rcases hx with hx|hx
 ·have:=R.hf x (Nn.1 hx).1
  simp only[dQ,Mh]at this;have:=kB.1 this.1.1.1.1
  exact⟨by omega,by omega⟩
 ·obtain⟨d,hd1,rfl⟩:=MB.1 hx;rcases pW R h d hd1 with h1|⟨h1,ho⟩|⟨x,h1,h2,_⟩
  ·exact hd h1
  ·rw[doneB,if_pos ho]at hB;have:=rX ((Bn hB).2 d h1)
   exact⟨by show 0≤d.id;omega,this.2.1⟩
  ·have:=hd h1
   exact⟨by show 0≤d.id;rw[h2];exact this.1,by show d.id≤_;rw[h2];exact this.2⟩
theorem AW(p:Pg)(e:Ed)(H:ApH p e)(s:St):ay Qz 65 [.agg p.cells,.agg e.cells] s (tr (applyS p e)) s:=by
 obtain⟨B,L,c⟩:=s;have hlk:=zq e;have R:=Gd.of H.pr;refine ay.introN [(1,.text [Qy,Qw,Qw,Qw,Qw,Qw,Qw,Qw,Qw] [(2,0)])] func65 rfl (by decide) az (by kernel_rfl) [QP 4 38,QO 5] 47 rfl rfl ?_;simp only[vqM,ke,zA,zS,zB];refine aa (HK _ L c) ?_;simp only[vqM,ke,zA,vsE];rw[hlk];simp only[vqM,ke,zA,zB,vsE];cases hf:doF e with
 |none =>
  rw[FS hf];simp only[vqM,ke,zA,zB,Oa];refine QR ?_ (om _);simp only[vqM,ke,zA];rfl
 |some f =>
  simp only[vqM,ke,vsE,NN,Nf];have hdo:=t_do p e H hf (B++[.cells p.cells,.cells e.cells,.cells [.slice .nil [],.slice .nil [],.slice .nil [],.slice .nil [],.int .i64 0,.int .i64 0,.int .i64 0,.slice .nil [],.slice .nil [],.slice .nil []],.map mq]) [] L c;simp only[L4,Mw,MA,K4,K7,K8,zA]at hdo;refine cM hdo ?_;cases hB:doneB p e with
  |false =>
   rw[zY H.pr hB];simp only[vqM,ke,zA,zB];refine QR ?_ (om _);simp only[vqM,ke,zA];rfl
  |true =>
   obtain⟨l,hl,hq⟩:=Dj hB;simp only[vqM,ke,zB];have hqd:(kT p e).defs=l:=by rw[hq]
   have hpg:=H.pgOk hl;have hll:l.length≤1000:=by
    have h1:=m7 R hl;have h2:=R.dl;have h3:=H.el;split at h1<;>omega
   have hap:applyS p e=if programS (candS p e l)=0 then Qv (candS p e l)else Qx:=by rw[applyS,hl]
   have hcc:(candS p e l).cells=(kT p e).cells.set 7 (.slice .none (aN (headsN p l))):=by rw[hq];rfl
   have hc0:(kT p e).cells.length=10:=by simp[Pg.cells_len]
   refine aa (Eu p (kT p e) R (by rw[hqd];exact kr R hl) (by have:=R.hl;omega) (by rw[hqd];exact hll) (by rw[hqd];exact H.hl l hl) (by rw[hqd];exact H.good hB hl) ?_) ?_
   ·rw[List.getElem?_append_right (by omega),Nat.add_sub_cancel_left];rfl
   rw[hqd];have hd8:(kT p e).cells.drop 8=[.slice .none (ax l),.slice .none (ah (candS p e l).threads)]:=by rw[hq];rfl
   have hcl:(kT p e).d.cells++[.slice .none (aN (headsN p l)),.slice .none (ax l),.slice .none (ah (candS p e l).threads)]=(candS p e l).cells:=by rw[hq];rfl
   simp only[vqM,ke,zA,zL,zB,hd8,hcl];refine aa (tQ (candS p e l) hpg _) ?_;have hpc:programS (candS p e l)=0∨programS (candS p e l)≠0:=Classical.em _;rcases hpc with h0|h0
   ·have hd0:decide (programS (candS p e l)≠0)=Qw:=by simp[h0]
    rw[hap,if_pos h0];simp only[vqM,ke,zA,zB,hd0];refine QR ?_ (om _);simp only[vqM,ke];rfl
   ·have hd0:decide (programS (candS p e l)≠0)=Qy:=by simp[h0]
    rw[hap,if_neg h0];simp only[vqM,ke,zA,zB,hd0];refine QR ?_ (om _);simp only[vqM,ke,zA];rfl
structure Js (n:Nat) (js:List Nat):Prop where
 nd:js.Nodup
 lt:∀j∈js,j<n
theorem Js.le{n:Nat}{js:List Nat}(h:Js n js):js.length≤n:=by
 have:=h.nd.length_le_of_subset (l₂:=MF n) λj hj=>MP.2 (h.lt j hj)
 simpa using this
theorem Js.snoc{n j:Nat}{js:List Nat}(h:Js n js)(hj:j<n)(hn:j ∉ js):Js n (js++[j]) where
 nd:=List.nodup_append.2 ⟨h.nd,by simp,λa ha b hb e=>by simp at hb;subst hb;exact hn (e▸ha)⟩
 lt:=λi hi=>by
  rcases Mz.1 hi with hi|hi
  ·exact h.lt i hi
  ·simp at hi;omega
theorem Js.all{n:Nat}{js:List Nat}(h:Js n js)(hl:js.length=n){j:Nat}(hj:j<n):j∈js:=by
 refine Classical.byContradiction λhn=>?_;have:=(h.snoc hj hn).le
 simp at this;omega
theorem Js.perm{n:Nat}{js:List Nat}(h:Js n js)(hl:js.length=n):js.Perm (MF n):=
 (Pf h.nd OW).2 λj=>⟨λhj=>MP.2 (h.lt j hj),λhj=>h.all hl (MP.1 hj)⟩
def pickL(l:List Int)(js:List Nat):List Int:=js.map λj=>l.getD j 0
theorem wx(l:List Int):pickL l (MF l.length)=l:=by
 refine List.ext_getElem (by simp[pickL]) λi h1 h2=>?_;simp[pickL,h2]
theorem y5{l:List Int}{js:List Nat}(h:Js l.length js)(hl:js.length=l.length):(pickL l js).Perm l:=by
 have:=(h.perm hl).map (λj=>l.getD j 0)
 rw[show(MF l.length).map (λj=>l.getD j 0)=l from wx l]at this;exact this
def cb(l:List Nat)(js:List Nat):List Nat:=js.map λj=>l.getD j 0
theorem dD{bs js:List Nat}(hnd:bs.Nodup)(hjs:∀j∈js,j<bs.length){j:Nat}(hj:j<bs.length):bs[j]∈cb bs js↔j∈js:=by
 simp only[cb,MB];constructor
 ·rintro⟨i,hi,e⟩;have hil:=hjs i hi;rw[show bs.getD i 0=bs[i] by simp[NC,hil]]at e;rw[(List.getElem_inj hnd).1 e]at hi;exact hi
 ·intro h;exact⟨j,h,by simp[NC,hj]⟩
theorem Ib(l:List Ed)(hn:l.length≤100000){m n:Nat}{B:List Box}{L:List Nat}{c:Nat}(I:Nat→List Box→Prop)(h0:I l.length B)(hI:∀k C,I k C→C[m]?=Qv (.cells [.slice .none (aL l)]))
  (step:∀k x C,l[k]?=Qv x→I (k+1) C→YSemQ Qz n [.int .i64 (k:Int),.agg x.cells] ⟨C,L,c⟩ λr s1=>r=.bool Qy∧∃C',I k C'∧s1=⟨C',L,c⟩) :
  aP Qz 194 [.yield n,.box m 0] ⟨B,L,c⟩ λr s=>r=.tup []∧∃C,I 0 C∧s=⟨C,L,c⟩:=by
 have hm:=hI _ _ h0;refine aP.introA [] func194 rfl (by decide) az (by kernel_rfl) [] 19 rfl rfl ?_;simp only[vqM,yp,zA,zS,hm,av];rw[aG (by omega)];refine ae [0,1,3] ?_;simp only[vke,zB,zA];refine aC az l.length (λk e s=>∃C,I (l.length-k) C∧e=[.yield n,.box m 0,J,.int .i64 ((l.length:Int)-1-(k:Int)),J,J,J,J,J,J,J,J,J,J,J,J,J,J,J]∧s=⟨C,L,c⟩) ?_ ?_ 0 _ _ (K9 _) ⟨B,h0,by simp,rfl⟩
 ·rintro k e s hk ⟨C,hC,rfl,rfl⟩ ih;have hm:=hI _ _ hC;have hlt:0≤(l.length:Int)-1-k:=by omega
  have hkl:l.length-(k+1)<l.length:=by omega
  have hx:l[l.length-(k+1)]?=Qv l[l.length-(k+1)]:=C0 hkl;have hg:(aL l)[l.length-(k+1)]?=Qv (l[l.length-(k+1)].cells):=by simp[aL,hx]
  have hst:=step (l.length-(k+1)) _ C hx (by rw[show l.length-(k+1)+1=l.length-k by omega];exact hC);have hi:((l.length:Int)-1-(k:Int))=((l.length-(k+1):Nat):Int):=by omega
  generalize l[l.length-(k+1)]=x at hx hg hst;rw[hi];simp only[vqM,yp,hm,vsE,decide_true,natle0,K3,hg];refine pA (f:=.yield n) (show CallVQ _ (.yield n) _ _ _ from hst) ?_;rintro r s1 ⟨rfl,C2,hC2,rfl⟩;simp only[vqM];rw[aG (by omega)];refine ae [0,1,3] ?_;simp only[vke,zB,zA];refine ih _ _ ⟨C2,hC2,?_,rfl⟩;rw[show(((l.length-(k+1):Nat):Int)-1)=(l.length:Int)-1-((k+1:Nat):Int) by omega]
 ·rintro e s ⟨C,hC,rfl,rfl⟩;have hge:decide (((l.length:Int)-1-(l.length:Int))≥0)=Qw:=by simp;omega
  simp only[vqM,hge];refine ei (.inl rfl) (r:=.tup []) ?_ ⟨rfl,C,by rw[Nat.sub_self]at hC;exact hC,rfl⟩;simp only[vqM];rfl
theorem KP(l:List Ed)(B:List Box)(L:List Nat)(c:Nat):aP Qz 136 [.slice .none (aL l)] ⟨B,L,c⟩ λr s =>
  r=.func (.func 194) [] [.box B.length 0]∧s=⟨B++[.cells [.slice .none (aL l)]],L,c⟩:=by
 refine aP.introA [] func136 rfl (by decide) az (by kernel_rfl) [QO 2] 4 rfl rfl ?_;simp only[vqM,zA,zS];refine ei (.inr rfl) (r:=.func (.func 194) [] [.box B.length 0]) ?_ ⟨rfl,rfl⟩;simp only[vqM]
theorem yV{X:Draws}{f:Operand}{ps:List Tmp}{asg bo:Code}{Q:QC}{e:List D}{B:List Box}{L:List Nat}{n m:Nat}(l:List Ed)(hn:l.length≤100000)(I:Nat→List Box→Prop)
  (hf:val e f=.func (.func 194) [] [.box m 0]) (h0:I l.length B) (hI:∀k C,I k C→C.length=B.length∧C[m]?=Qv (.cells [.slice .none (aL l)]))
  (step:bw X asg=Qy→bw X bo=Qy→∀k x C Y,l[k]?=Qv x→I (k+1) C→YSemQ Qz B.length [.int .i64 (k:Int),.agg x.cells] ⟨C++.loop ps asg bo e .ready Qx::Y,L,n⟩ λr s1=>r=.bool Qy∧∃C' Y',I k C'∧s1=⟨C'++.loop ps asg bo e .ready Qx::(Y++Y'),L,n⟩)
  (hend:∀C Y,I 0 C→@qI .normal e ⟨C++.dead::Y,L,n⟩ Q):@eP X Qx Qz (.rangeFunc f ps.toArray asg bo) e ⟨B,L,n⟩ Q:=by
 have key:bw X asg=Qy→bw X bo=Qy→aP Qz 194 [.yield B.length,.box m 0] ⟨B++[.loop ps asg bo e .ready Qx],L,n⟩ λr s=>r=.tup []∧∃D,(∃C Y,I 0 C∧D=C++.loop ps asg bo e .ready Qx::Y)∧s=⟨D,L,n⟩:=by
  intro q1 q2;refine Ib l hn (λk D=>∃C Y,I k C∧D=C++.loop ps asg bo e .ready Qx::Y) ⟨B,[],h0,rfl⟩ ?_ ?_
  ·rintro k D ⟨C,Y,hC,rfl⟩;exact bO (hI _ _ hC).2
  ·rintro k x D hx ⟨C,Y,hC,rfl⟩;refine CallVQ.mono (show CallVQ _ (.yield B.length) _ _ _ from step q1 q2 k x C Y hx hC) ?_;rintro r s1 ⟨rfl,C',Y',hC',rfl⟩;exact⟨rfl,_,⟨C',_,hC',rfl⟩,rfl⟩
 refine la hf key ?_
 ·rintro r s1 ⟨rfl,D,⟨C,Y,hC,rfl⟩,rfl⟩;obtain⟨h1,h2⟩:=hI _ _ hC;refine⟨.ready,Qx,by rw[←h1,bF];rfl,by simp,?_⟩;show @qI .normal e ⟨(C++.loop ps asg bo e .ready Qx::Y).set B.length .dead,_,_⟩ Q;rw[←h1,iU];exact hend C Y hC
theorem pj{l:List Int}{n:Int}:∃r,bp .i64 n (mapB l) 0=Qv r∧mapPut .i64 n (.bool Qy) r (mapB l)=mapB (addS l n):=by
 by_cases h:n∈l
 ·obtain⟨r,h1,h2,h3⟩:=pf l 0 h;refine⟨Qv r,h1,?_⟩;rw[addS,if_pos (by simpa using h)];obtain⟨q,v⟩:=r;simp only[Nat.sub_zero]at h3;simp only[mapPut];rw[h3]
 ·exact⟨Qx,dV l 0 h,by rw[iP h,addS,if_neg (by simpa using h)]⟩
def bU(l:List Bool):List (List D):=l.map λb=>[.bool b]
theorem db(l:List Bool):(bU l).length=l.length:=by simp[bU]
def rowF(l:List Ed)(k:Nat):List D:=MD k (.bool Qw)++(forceA (l.drop k) k).1.map .bool
def endK(l:List Ed)(k:Nat):List Int:=setS (forceA (l.drop k) k).2.reverse
theorem rJ(l:List Ed)(i:Nat):(forceA l i).1.length=l.length:=by rw[lL,eD]
theorem nW{l:List Ed}{k:Nat}(h:k≤l.length):(rowF l k).length=l.length:=by
 rw[rowF,K4,List.length_replicate,MW,rJ,List.length_drop];omega
theorem Cn(m:List Int)(x:Int):setS (m++[x])=addS (setS m) x:=by rw[setS,NG];rfl
theorem rI{l:List Ed}{k:Nat}{x:Ed}(h:l[k]?=Qv x):rowF l k=(rowF l (k+1)).set k (.bool (!(endK l (k+1)).contains (k:Int))) ∧
  endK l k=if !(endK l (k+1)).contains (k:Int)&&decide (x.op=5)then addS (endK l (k+1)) x.a else endK l (k+1):=by
 obtain⟨hk,rfl⟩:=L5.1 h;have hd:l.drop k=l[k]::l.drop (k+1):=MG hk;have hc:(endK l (k+1)).contains (k:Int)=(forceA (l.drop (k+1)) (k+1)).2.contains (k:Int):=by
  rw[endK,fT,Nv];simp
 constructor
 ·rw[rowF,hd,forceA,hc,rowF,List.replicate_succ'];simp only[M6,L4];rw[Nm _ _ (by simp)];simp
 ·rw[hc,endK,hd,forceA];simp only;split
  ·rw[List.reverse_cons,Cn];rfl
  ·rfl
theorem AQ(l:List Ed)(hn:l.length≤100000)(s:St):ay Qz 82 [.slice .none (aL l)] s (.slice .none (bU (forceS l))) s:=by
 obtain⟨B,L,c⟩:=s;have hel:elemT Qz 148=Qv (4,1,1,Qw):=by kernel_rfl
 have hz:zeroT Qz 4=Qv [.bool Qw]:=by kernel_rfl
 refine aP.freeze (Z:=λr s=>r=.row B.length 0 l.length 1∧∃X,s=⟨B++.cells (rowF l 0)::X,L,c⟩) ?_ ?_ ?_
 ·refine aP.introA [] func82 rfl (by decide) az (by kernel_rfl) [QO 2] 35 rfl rfl ?_;simp only[vqM,fM,zA,zS,zL,av];refine aA ⟨by omega,by omega,by omega⟩ ?_;simp only[vqM,fM,zA];refine aY (KP l _ L c) ?_;rintro r s ⟨rfl,rfl⟩;simp only[vqM,zA];refine ae [3,4,12] ?_;simp only[vke,zB,zA];refine yV (m:=B.length+4) l hn (λk C=>k≤l.length∧C=B++[.cells (rowF l k),.cells [.row B.length 0 l.length 1],.map (mapB (endK l k)),.cells [.map (B.length+2)],.cells [.slice .none (aL l)]]) ?_ ⟨K5 _,?_⟩ ?_ ?_ ?_
  ·rfl
  ·rw[show endK l l.length=[] by rw[endK,N4];rfl,show rowF l l.length=MD l.length (.bool Qw) by rw[rowF,N4];simp[forceA]];simp[mapB]
  ·rintro k C ⟨_,rfl⟩;exact⟨by simp,by rw[bD];rfl⟩
  ·rintro q1 q2 k x C Y hx ⟨hk,rfl⟩;simp only[L4,Mw,MA,K4,K7,K8];refine YSemQ.introA az q1 q2 (pd:=Qx) (by rw[bD];rfl) (by rfl) λl1=>?_;clear q1 q2;obtain⟨h1,h2⟩:=rI hx;have h3:=nW hk;rw[h1,h2];generalize rowF l (k+1)=R1 at h3;generalize endK l (k+1)=K1;have hkn:k<l.length:=hk;simp only[vqM,fM,zA,vsE,putArgs];refine ix (pd1:=Qx) (by simp only[vqM,zA]) ?_;simp only[vqM,fM,zA,bi];refine aA ⟨by omega,by omega⟩ ?_;simp only[vqM,fM,zA,K3,h3];refine aA (by omega) ?_;simp only[vqM,fM];refine aA ⟨by omega,by omega⟩ ?_;have hsr:∀v:D,O2 (0+k*1) R1++v::OM (0+k*1+1) R1=R1.set k v:=λv=>by
    rw[MR,N7,List.set_eq_take_append_cons_drop,if_pos (by omega)]
   have hgr:∀v:D,(OM (0+k*1) (R1.set k v))[0]?=Qv v:=λv=>by
    rw[MR,N7,List.getElem?_drop,Nat.add_zero,MH (by omega)]
   simp only[vqM,fM,zA,K3,hsr,hgr];obtain⟨fr,hfr,hpr⟩:=pj (l:=K1) (n:=x.a);generalize hck:K1.contains (k:Int)=ck;have h5:x.op=5∨x.op≠5:=Classical.em _;cases ck with
   |true =>
    simp only[vqM];refine cy (st:=.busy) (pd:=Qx) (by simp only[vqM]) ?_;refine⟨rfl,_,[.cells x.cells],⟨by omega,rfl⟩,?_⟩;simp only[vqM];rfl
   |false =>
    rcases h5 with h5|h5
    ·have h5':decide (x.op=5)=Qy:=by simp[h5]
     simp only[vqM,fM,zA,vsE,h5',hfr,hpr];refine cy (st:=.busy) (pd:=Qx) (by simp only[vqM]) ?_;refine⟨rfl,_,[.cells x.cells],⟨by omega,rfl⟩,?_⟩;simp only[vqM];all_goals rfl
    ·have h5':decide (x.op=5)=Qw:=by simp[h5]
     simp only[vqM,fM,zA,vsE,h5'];refine cy (st:=.busy) (pd:=Qx) (by simp only[vqM]) ?_;refine⟨rfl,_,[.cells x.cells],⟨by omega,rfl⟩,?_⟩;simp only[vqM];all_goals rfl
  ·rintro C Y ⟨_,rfl⟩;simp only[L4,Mw,MA];simp only[vqM,fM];refine ei (.inr rfl) (r:=.row B.length 0 l.length 1) ?_ ⟨rfl,_,rfl⟩;simp only[vqM]
 ·exact aT λx hx d hd=>by
   simp only[bU,MB]at hx;obtain⟨b,_,rfl⟩:=hx;simp only[MI]at hd;subst hd;exact .bool _
 ·rintro r s ⟨rfl,X,rfl⟩;refine⟨_,L,c,rfl,λ_ h=>h,K5 _,.inr ⟨B.length,0,_,1,_,rfl,by omega,bF,?_,?_,?_⟩⟩
  ·rw[NL,Mo (by rw[nW (K9 _)];omega),rowF,NL,List.replicate_zero,MA,forceS,bU];induction (forceA l 0).1 with
   |nil=>rfl
   |cons b bs ih=>simp[ih]
  ·rw[db,ea]
  ·intro x hx;simp only[bU,MB]at hx;obtain⟨b,_,rfl⟩:=hx;rfl
def OpP(p:Pg):Prop:=∀h∈p.heads,opnB p h.id=Qy
theorem OpP.all{p:Pg}(h:OpP p)(l:List Df):jL p l=l.map headOf:=by
 rw[jL,List.filter_eq_nil_iff.2 λx hx=>by simp[h x hx]];rfl
theorem OpP.room{p:Pg}{e:Ed}(h:OpP p)(R:Gd p){l:List Df}(hl:editedS p e=Qv l)(he:e.op=1→e.defs.length≤1):tH (jL p l):=by
 refine .inr ⟨?_,?_⟩
 ·have h1:=pC R hl;have h2:=R.hl;split at h1
  ·rename_i h3;have:=he h3;omega
  ·omega
 ·rw[h.all,List.pairwise_map];exact(kr R hl).pw.imp λ{a b}h=>by show a.id≤b.id;omega
theorem OpP.apply{p q:Pg}{e:Ed}(h:OpP p)(hq:applyS p e=Qv q):OpP q:=by
 obtain⟨l,hl,rfl,_⟩:=fa hq;intro x hx;have hx:x∈headsN p l:=hx;rw[(eZ p l).mem_iff,h.all]at hx;obtain⟨d,hd,rfl⟩:=MB.1 hx;exact fB.2 ⟨d,hd,rfl⟩
theorem ApH.ofR{n m:Nat}{p:Pg}{e:Ed}(h:PgN n m p)(he:EdN n e)(hn:n≤12)(hm:∀l,editedS p e=Qv l→tH (jL p l)):ApH p e where
 pr:=h.pr
 nm:=λd hd=>(h.df d hd).nm
 ct:=λd hd=>by have:=(h.df d hd).ct;omega
 ca:=λd hd=>by have:=(h.df d hd).ca;omega
 en:=he.nm
 dn:=λd hd=>(he.df d hd).nm
 dc:=λd hd=>by have:=(he.df d hd).ct;omega
 da:=λd hd=>by have:=(he.df d hd).ca;omega
 el:=by have:=he.dl;omega
 dl:=by have:=he.rl;omega
 fl:=by have:=he.fl;omega
 hl:=hm
theorem ApH.of{n m:Nat}{p:Pg}{e:Ed}(h:PgN n m p)(he:EdN n e)(hn:n≤12)(hm:m+(if e.op=1 then e.defs.length else 0)≤12):ApH p e:=
 ApH.ofR h he hn λl hl=>.inl (by have:=pC (Gd.of h.pr) hl;have:=h.hl;omega)
theorem ApH.ofO{n m:Nat}{p:Pg}{e:Ed}(h:PgN n m p)(he:EdN n e)(hn:n≤12)(ho:OpP p)(hd:e.op=1→e.defs.length≤1):ApH p e:=
 ApH.ofR h he hn λl hl=>ho.room (Gd.of h.pr) hl hd
def A4:Pg→List (Ed×Bool)→Pg×Bool
 |p,[]=>(p,Qy)
 |p,(e,f)::l=>if f&&decide (e.op≠5)then(match applyS p e with
  |some q=>A4 q l
  |none=>(p,Qw))else A4 p l
theorem o7:∀(l:List (Ed×Bool))(p:Pg),iv p l=if (A4 p l).2 then Qv (A4 p l).1 else Qx
 | [],_=>rfl
 |(e,f)::l,p=>by
  rw[iv,A4];split
  ·cases applyS p e with
   |none=>rfl
   |some q=>exact o7 l q
  ·exact o7 l p
def afterQ(p:Pg)(l:List Ed):Pg×Bool:=A4 p (l.zip (forceS l))
theorem F6(p:Pg)(l:List Ed):dw p l=if (afterQ p l).2 then Qv (afterQ p l).1 else Qx:=o7 _ _
def nL(r:Pg×Bool):D:=.tup [.agg r.1.cells,.bool r.2]
theorem uC(r:Pg×Bool):Bd 0 0 (nL r):=.tup _ λi hi=>by
 match i,hi with
 |0,_=>exact aK (Pg.bd _)
 |1,_=>exact .bool _
theorem d220:decide ((220:Int)≠0)=Qy:=rfl
theorem lz:decide ((0:Int)≠0)=Qw:=rfl
def cntD(l:List Ed):Nat:=(l.filter λe=>decide (e.op=1)).length
theorem I2(l:List Ed):cntD l≤l.length:=Nc _ _
theorem x5(l m:List Ed):cntD (l++m)=cntD l+cntD m:=by rw[cntD,NX,K4];rfl
theorem uB(l:List Ed)(k:Nat):cntD (l.take k)≤cntD l:=by
 conv=>rhs;rw[←MM k l,x5]
 omega
theorem Do{l:List Ed}{k:Nat}{x:Ed}(h:l[k]?=Qv x):cntD (l.take (k+1))=cntD (l.take k)+(if x.op=1 then 1 else 0):=by
 rw[Mt,h,MO,x5];congr 1;by_cases e:x.op=1<;>simp[cntD,e]
theorem Ez{n m:Nat}(p:Pg)(l:List Ed)(hp:PgN n m p)(hl:∀e∈l,EdN n e∧e.defs.length≤1)(hn:n≤12)(hm:m+cntD l≤12∨OpP p)(hl2:l.length≤1000)(s:St) :
  ay Qz 83 [.agg p.cells,.slice .none (aL l)] s (nL (afterQ p l)) s:=by
 obtain⟨B,L,c⟩:=s;refine ay.introN [] func83 rfl (by decide) az (by kernel_rfl) [QP 4 38,QO 5] 42 rfl rfl ?_;simp only[vqM,mR,zA,zS];refine aa (AQ l (by omega) _) ?_;simp only[vqM,mR,av];refine ae [2,4,6,13,14,15] ?_;simp only[vke,zB,zA];refine aC az l.length (λk e s=>∃q X,e=[J,J,.box B.length 0,J,.box (B.length+1) 0,J,.slice .none (bU (forceS l)),J,J,J,J,J,J,.slice .none (aL l),.int .i64 l.length,.int .i64 (k:Int),J,J,J,J,J,J,J,J,J,J,J,J,J,J,J,J,J,J,J,J,J,J,J,J,J,J] ∧
  s=⟨B++.cells q.cells::.cells [.slice .nil [],.slice .nil [],.slice .nil [],.slice .nil [],.int .i64 0,.int .i64 0,.int .i64 0,.slice .nil [],.slice .nil [],.slice .nil []]::X,L,c⟩∧PgN n (m+cntD (l.take k)) q∧(OpP p→OpP q)∧afterQ p l=A4 q ((l.zip (forceS l)).drop k)) ?_ ?_ 0 _ _ (K9 _) ⟨p,[],rfl,rfl,hp,λh=>h,rfl⟩
 ·rintro k e s hk ⟨q,X,rfl,rfl,hq,hOp,hI⟩ ih;have hx:l[k]?=Qv l[k]:=C0 hk;have hg:(aL l)[k]?=Qv (l[k].cells):=by simp[aL,hx]
  have hfk:k<(forceS l).length:=by rw[ea];exact hk
  have hgf:(bU (forceS l))[k]?=Qv [.bool (forceS l)[k]]:=by simp[bU,hfk]
  have hlt:(k:Int)<(forceS l).length:=by omega
  have hklt:((k:Int)<(l.length:Int))=True:=by simp;exact hk
  have hflt:((k:Int)<((forceS l).length:Int))=True:=by simp;omega
  have hdr:(l.zip (forceS l)).drop k=(l[k],(forceS l)[k])::(l.zip (forceS l)).drop (k+1):=by
   rw[MG (by rw[List.length_zip];omega),List.getElem_zip]
  have hel:=hl _ (Mf hk);have hcs:=Do hx;have hct:=uB l (k+1);rw[hdr,A4]at hI;generalize l[k]=x at hx hg hI hel hcs;generalize(forceS l)[k]=f at hgf hI;simp only[vqM,mR,zA,vsE,hklt,decide_true,natle0,K3,hg,hgf];have h5:x.op=5∨x.op≠5:=Classical.em _;cases f with
  |false =>
   rw[Me,if_neg (by simp)]at hI;simp only[vqM];rw[ap (by omega)];refine ae [2,4,6,13,14,15] ?_;simp only[vke,zB,zA];exact ih _ _ ⟨q,_,rfl,rfl,⟨hq.pr,hq.df,by have:=hq.hl;omega⟩,hOp,hI⟩
  |true =>
   rcases h5 with h5|h5
   ·have h5':decide (x.op=5)=Qy:=by simp[h5]
    rw[if_neg (by simp[h5])]at hI;simp only[vqM,mR,zA,vsE,h5'];rw[ap (by omega)];refine ae [2,4,6,13,14,15] ?_;simp only[vke,zB,zA];exact ih _ _ ⟨q,_,rfl,rfl,⟨hq.pr,hq.df,by have:=hq.hl;omega⟩,hOp,hI⟩
   ·have h5':decide (x.op=5)=Qw:=by simp[h5]
    have hApH:ApH q x:=by
     rcases hm with hm|hm
     ·refine ApH.of hq hel.1 hn ?_;have:=hel.2
      by_cases e1:x.op=1
      ·rw[if_pos e1]at hcs⊢;omega
      ·rw[if_neg e1]at hcs⊢;omega
     ·exact ApH.ofO hq hel.1 hn (hOp hm) λ_=>hel.2
    rw[if_pos (by simp[h5])]at hI;simp only[vqM,mR,zA,vsE,h5'];refine aa (AW q x hApH _) ?_;cases ha:applyS q x with
    |none =>
     rw[ha]at hI;simp only[vqM,mR,zA,reduceCtorEq,tr,Oa,Option.getD_none,d220];refine QR ?_ (uC _);simp only[vqM,mR];rw[hI];rfl
    |some r =>
     rw[ha]at hI;have hr:=hq.apply hel.1 ha;simp only[vqM,mR,zA,tr,NN,Nf,lz];rw[ap (by omega)];refine ae [2,4,6,13,14,15] ?_;simp only[vke,zB,zA];have hd2:=hel.2;exact ih _ _ ⟨r,_,rfl,rfl,⟨hr.pr,hr.df,by
      have:=hr.hl
      by_cases e1:x.op=1
      ·rw[if_pos e1]at hcs this;omega
      ·rw[if_neg e1]at hcs this;omega⟩,λh=>(hOp h).apply ha,hI⟩
 ·rintro e s ⟨q,X,rfl,rfl,hq,hOp,hI⟩;have hklt:((l.length:Int)<(l.length:Int))=False:=by simp
  rw[List.drop_of_length_le (by simp[ea])]at hI;simp only[vqM,mR,zA,hklt,decide_false];rw[hI];refine QR ?_ (uC _);simp only[vqM,mR];rfl
theorem HU(f:D)(hfp:f.plain=f)(p:Df→Bool)(l:List Df)(s:St)(hp:∀x∈l,cT Qz f [.agg x.cells] s (.bool (p x)) s) :
  ay Qz 79 [.slice .none (ax l),f] s (.bool (l.any p)) s:=by
 refine ay.introN [] func79 rfl (by decide) az (by kernel_rfl) [QO 4] 9 rfl rfl ?_;simp only[vqM,zA,zS,hfp];refine aa (vi f p l _ hp) ?_;simp only[vqM];refine QS ?_ (.bool _);simp only[vqM];rw[←jT]
theorem H1(d:Df)(hnm:d.name.size≤1000000000)(q:Pg){b:Nat}(s:St)(hb:s.boxes[b]?=Qv (.cells q.cells)):ay Qz 80 [.agg d.cells,.box b 0] s (.bool (!defB d q.d)) s:=by
 obtain⟨B,L,c⟩:=s;have hb:B[b]?=Qv (.cells q.cells):=hb;have hb2:∀X,(B++X)[b]?=Qv (.cells q.cells):=λX=>bO hb;have hdc:List.map D.plain1 (O2 7 q.cells)=q.d.cells:=rfl;refine ay.introN [] func80 rfl (by decide) az (by kernel_rfl) [QO 3] 9 rfl rfl ?_;simp only[vqM,fP,bE,bg,zA,zS,zL,hb2];refine aa (vW d q.d hnm _) ?_;simp only[vqM];refine QR ?_ (.bool _);simp only[vqM];cases defB d q.d<;>rfl
def badE(p:Pg)(e:Ed):Bool:=e.defs.any λd=>!defB d p.d
def LM:List D:=[.slice .nil [],.slice .nil [],.slice .nil [],.slice .nil [],.int .i64 0,.int .i64 0,.int .i64 0,.slice .nil [],.slice .nil [],.slice .nil []]
def nZ(h:Hi):D:=if programS h.first=0 then(match playS h with
 |some p=>.tup [.agg p.cells,.int .i64 0]
 |none=>.tup [.agg Pg.zero.cells,.int .i64 220])else .tup [.agg Pg.zero.cells,.int .i64 (programS h.first)]
theorem I6(h:Hi):Bd 0 0 (nZ h):=by
 unfold nZ;split
 ·split
  ·exact cu (aK (Pg.bd _)) (.int _ _)
  ·exact cu (aK (Pg.bd _)) (.int _ _)
 ·exact cu (aK (Pg.bd _)) (.int _ _)
theorem iz{h:Hi}{k:Nat}(hk:k≤h.es.length)(e:playK h k=Qx):playS h=Qx:=by
 cases hp:playS h with
 |none=>rfl
 |some p =>
  obtain⟨q,hq⟩:=nY hp hk;rw[e]at hq;cases hq
theorem vsH:(∀h:Hi,h.cells.length=11)∧(∀h:Hi,h.cells.take 10=h.first.cells)∧(∀h:Hi,(h.cells.drop 10)[0]?=Qv (.slice .none (aL h.es)))∧(∀h:Hi,(h.cells.drop 8)[0]?=Qv (.slice .none (ax h.first.defs)))∧((10≤11)=True):=
 ⟨λ_=>rfl,λ_=>rfl,λ_=>rfl,λ_=>rfl,by simp⟩
theorem F2{ro:Option Nat}{P:Program}{c:Code}{e:List D}{s:St}{Q:QC}(I:List D→St→Prop)(h:@AWI ro P c e s (meetC I))(hQ:∀e s,I e s→@qI .normal e s Q):@AWI ro P c e s Q:=
 AWp.mono h λx e s hx=>by obtain⟨rfl,hx⟩:=hx;exact hQ e s hx
theorem nI{e e' sz by_:Nat}{a:Bool}{l:List Ed}{k:Nat}(h:k≤l.length):slS (Qv (.slice e)) (Qv (e',sz,by_,a)) .none (aL l) Qx (Qv (.int .i64 (k:Int)))=Qv (.slice .none (aL (l.take k))):=by
 simp[slS,evBd,h,aL,OB]
theorem iN{P:Program}{rs:List ResultVar}{B C X:List Box}{L:List Nat}{c:Nat}{r:D}{e:List D}{x:Exit}(hx:x=.normal∨x=.ret)(h1:(resD P e ⟨C++X,L,c⟩ rs).map kf=Qv r)(hb:Bd 0 0 r)(hC:∃D,C=B++D) :
  @qI x e ⟨C++X,L,c⟩ (lu P rs ⟨B,L,c⟩ r ⟨B,L,c⟩):=by
 obtain⟨D,rfl⟩:=hC;rw[L4]at h1⊢;exact am hx h1 hb (λ_ h=>h) (K5 _)
structure PlC (B C:List Box) (h:Hi) (q:Pg) (U:List Int) (im ip:Nat):Prop where
 ex:∃D,C=B++D
 ln:C.length=B.length+4
 h0:C[B.length]?=Qv (.cells h.cells)
 z0:C[B.length+1]?=Qv (.cells LM)
 mp:C[im]?=Qv (.map (mapB U))
 pr:C[ip]?=Qv (.cells q.cells)
 ml:B.length+2≤im
 pl:B.length+2≤ip
 ne:im≠ip
theorem PlC.setm{B C:List Box}{h:Hi}{q:Pg}{U:List Int}{im ip:Nat}(H:PlC B C h q U im ip)(U':List Int):PlC B (C.set im (.map (mapB U'))) h q U' im ip:=by
 have h1:=(L5.1 H.mp).1;have h2:=H.ml;obtain⟨D,hD⟩:=H.ex;refine⟨⟨D.set (im-B.length) (.map (mapB U')),?_⟩,by rw[Oo];exact H.ln,?_,?_,MH h1,?_,H.ml,H.pl,H.ne⟩
 ·rw[hD,Nm _ _ (by omega)]
 ·rw[ME (by omega)];exact H.h0
 ·rw[ME (by omega)];exact H.z0
 ·rw[ME H.ne];exact H.pr
theorem PlC.setp{B C:List Box}{h:Hi}{q:Pg}{U:List Int}{im ip:Nat}(H:PlC B C h q U im ip)(q':Pg):PlC B (C.set ip (.cells q'.cells)) h q' U im ip:=by
 have h1:=(L5.1 H.pr).1;have h2:=H.pl;obtain⟨D,hD⟩:=H.ex;refine⟨⟨D.set (ip-B.length) (.cells q'.cells),?_⟩,by rw[Oo];exact H.ln,?_,?_,?_,MH h1,H.ml,H.pl,H.ne⟩
 ·rw[hD,Nm _ _ (by omega)]
 ·rw[ME (by omega)];exact H.h0
 ·rw[ME (by omega)];exact H.z0
 ·rw[ME (λe=>H.ne e.symm)];exact H.mp
theorem PlC.set1{B C:List Box}{h:Hi}{q:Pg}{U:List Int}{im ip:Nat}(H:PlC B C h q U im ip)(v:Box):∃D,C.set (B.length+1) v=B++D:=by
 obtain⟨D,rfl⟩:=H.ex;exact⟨D.set 1 v,iJ⟩
theorem PlC.lt{B C:List Box}{h:Hi}{q:Pg}{U:List Int}{im ip:Nat}(H:PlC B C h q U im ip):im<C.length:=(L5.1 H.mp).1
theorem PlC.len2{B C C':List Box}{h h':Hi}{q q':Pg}{U U':List Int}{im ip im' ip':Nat}(H:PlC B C h q U im ip)(H':PlC B C' h' q' U' im' ip'):C'.length=C.length:=by rw[H.ln,H'.ln]
theorem H0(h:Hi){n m:Nat}(hok:PgOk h.first)(H:programS h.first=0→HiN n m h)(hn:n≤12)(hm:m+cntD h.es≤12∨OpP h.first)(hl30:h.es.length≤30)(s:St):ay Qz 36 [.agg h.cells] s (nZ h) s:=by
  obtain⟨B,L,c⟩:=s;refine ay.introN [(4,.stop),(8,.meet),(17,.text [Qw,Qw,Qw,Qw,Qw,Qw,Qw,Qw,Qw,Qw,Qw,Qw,Qw,Qw,Qw,Qw,Qw,Qw,Qy,Qw,Qw,Qw,Qw,Qw,Qw,Qw] [(20,0)]),(19,.text [Qw,Qw,Qw,Qw,Qw,Qw,Qw,Qw,Qw,Qw,Qw,Qy,Qy,Qw] [(1,1),(3,1),(7,1)])] func36 rfl (by decide) az (by kernel_rfl) [QP 2 38,QO 3] 121 rfl rfl ?_;simp only[vqM,bR,zA,zS,zB,vsH];refine aa (tQ h.first hok _) ?_;by_cases h0:programS h.first=0;case neg =>
    have hd0:decide (programS h.first≠0)=Qy:=by simp[h0]
    simp only[vqM,bR,zA,zB,hd0];refine QR ?_ (I6 h);simp only[vqM,bR,zA];rw[nZ,if_neg h0];rfl
  have H:=H h0;have R:=Gd.of h0;have hd0:decide (programS h.first≠0)=Qw:=by simp[h0]
  have hpl:nZ h=match playS h with
    |some p=>.tup [.agg p.cells,.int .i64 0]
    |none=>.tup [.agg Pg.zero.cells,.int .i64 220]:=by rw[nZ,if_pos h0]
  simp only[vqM,zB,hd0];refine F2 (λe s=>∃C im ip,e=[.agg h.cells,.box B.length 0,.box (B.length+1) 0,.int .i64 0,.int .i64 (programS h.first),.box ip 0,.map im,J,J,J,J,J,J,J,.box B.length 0,.agg h.first.cells,.int .i64 (programS h.first),.int .i64 (programS h.first),.bool Qw,J,J,.box B.length 0,.agg h.first.cells,.box B.length 0,.box B.length 8,.slice .none (ax h.first.defs),.map im,J,J,J,J,J,J,J,J,J,J,J,J,J,J,J,J,J,J,J,J,J,J,J,J,J,J,J,J,J,J,J,J,J,J,J,J,J,J,J,J,J,J,J,J,J,J,J,J,J,J,J,J,J,J,J,J,J,J,J,J,J,J,J,J,J,J,J,J,J,J,J,J,J,J,J,J,J,J,J,J,J,J,J,J,J,J,J,J,J,J,J,J,J,J]∧s=⟨C,L,c⟩∧PlC B C h h.first (setS (sitesD h.first.defs)) im ip) ?_ ?_
  · skip
    refine jK az [5,6,7] [⟨[0,1,2,3,4,5,6,7,8],[(1,1),(1,2)]⟩,⟨[0,1,2,3,4,6,5,7,8],[(1,1),(1,2),(4,1)]⟩] (by kernel_rfl) λpl hpl=>?_;simp only[Mj,MX,or_false]at hpl;rcases hpl with rfl|rfl
    all_goals
      simp only[vqM,bR,zA,zB,vsH,M7,M3,M5,Np,Mm,Ms];refine aa (jq h.first.defs (by have:=R.dl;omega) hok.fl _ L c) ?_;simp only[vqM,bR,zA,vsH,M7,M3];first
        |exact aE ⟨_,B.length+2,B.length+3,rfl,rfl,⟨_,rfl⟩,by simp,bF,bD,bD,bD,by omega,by omega,by omega⟩
        |exact aE ⟨_,B.length+3,B.length+2,rfl,rfl,⟨_,rfl⟩,by simp,bF,bD,bD,bD,by omega,by omega,by omega⟩
  rintro e s ⟨C,im,ip,rfl,rfl,hC⟩;have hh:=hC.h0;simp only[vqM,bR,zA,zB,vsH,hh,av];refine ae [1,2,5,6,28,29,30] ?_;simp only[vke,zB,zA];refine aC az h.es.length (λk e s=>∃C X q U,e=[J,.box B.length 0,.box (B.length+1) 0,J,J,.box ip 0,.map im,J,J,J,J,J,J,J,J,J,J,J,J,J,J,J,J,J,J,J,J,J,.slice .none (aL h.es),.int .i64 h.es.length,.int .i64 (k:Int),J,J,J,J,J,J,J,J,J,J,J,J,J,J,J,J,J,J,J,J,J,J,J,J,J,J,J,J,J,J,J,J,J,J,J,J,J,J,J,J,J,J,J,J,J,J,J,J,J,J,J,J,J,J,J,J,J,J,J,J,J,J,J,J,J,J,J,J,J,J,J,J,J,J,J,J,J,J,J,J,J,J,J,J,J,J,J,J,J,J]∧s=⟨C++X,L,c⟩∧PlC B C h q U im ip∧playK h k=Qv q∧∀x,x∈U↔x∈bT h.first (h.es.take k)) ?_ ?_ 0 _ _ (K9 _) ⟨C,[],h.first,_,rfl,by rw[MK],hC,rfl,λx=>by rw[eI];simp[bT]⟩
  · clear hC hh;rintro k e s hk ⟨C,X,q,U,rfl,rfl,hC,hpk,hU⟩ ih;have hx:h.es[k]?=Qv h.es[k]:=C0 hk;have hg:(aL h.es)[k]?=Qv (h.es[k].cells):=by simp[aL,hx]
    have hklt:((k:Int)<(h.es.length:Int))=True:=by simp;exact hk
    have hqN:=kA H hpk;have hel:=H.ed _ (Mf hk);have hnext:playK h (k+1)=if freshB h.first (h.es.take k) q h.es[k]&&jk (h.es.take k) h.es[k]then dw h.first (h.es.take (k+1))else Qx:=by rw[playK,hpk,Ni,hx]
    have hused:bT h.first (h.es.take (k+1))=bT h.first (h.es.take k)++(if h.es[k].op=1 then sitesD h.es[k].defs else[]):=by
      rw[Mt,hx,MO,bT,bT,N0,L4];simp
    have hbad:h.es[k].op=1→badE q h.es[k]=Qy→playK h (k+1)=Qx:=λho hb=>by
      obtain⟨d,hd,hb⟩:=NT.1 hb;refine ud H hpk hx ho hd ?_;have:=yi (gz hpk)
      rw[MU]at hb;exact hb
    generalize h.es[k]=x at hx hg hel hnext hused hbad;have hl0:B.length<C.length:=by have:=hC.ln;omega
    have hl1:B.length+1<C.length:=by have:=hC.ln;omega
    have hlm:im<C.length:=(L5.1 hC.mp).1;have hlp:ip<C.length:=(L5.1 hC.pr).1;have g0:∀X:List Box,(C++X)[B.length]?=Qv (.cells h.cells):=λX=>bO hC.h0;have g1:∀X:List Box,(C++X)[B.length+1]?=Qv (.cells [.slice .nil [],.slice .nil [],.slice .nil [],.slice .nil [],.int .i64 0,.int .i64 0,.int .i64 0,.slice .nil [],.slice .nil [],.slice .nil []]):=λX=>bO hC.z0;have gm:∀X:List Box,(C++X)[im]?=Qv (.map (mapB U)):=λX=>bO hC.mp;have gp:∀X:List Box,(C++X)[ip]?=Qv (.cells q.cells):=λX=>bO hC.pr;have gs1:∀(X:List Box)(v:Box),(C++X).set (B.length+1) v=C.set (B.length+1) v++X:=λX v=>Od _ _ hl1;have gs2:∀(X:List Box)(v:Box),(C.set (B.length+1) v++X)[B.length+1]?=Qv v:=λX v=>by rw[ML (by simp;exact hl1),MH hl1]
    simp only[vqM,bR,zA,zB,vsE,hklt,decide_true,natle0,K3,hg];refine oZ [1,2,5,6,7,8,28,29,30] [J,.box B.length 0,.box (B.length+1) 0,J,J,.box ip 0,.map im,.int .i64 (k:Int),.box (C.length+X.length) 0,J,J,J,J,J,J,J,J,J,J,J,J,J,J,J,J,J,J,J,.slice .none (aL h.es),.int .i64 h.es.length,.int .i64 (k:Int),J,J,J,J,J,J,J,J,J,J,J,J,J,J,J,J,J,J,J,J,J,J,J,J,J,J,J,J,J,J,J,J,J,J,J,J,J,J,J,J,J,J,J,J,J,J,J,J,J,J,J,J,J,J,J,J,J,J,J,J,J,J,J,J,J,J,J,J,J,J,J,J,J,J,J,J,J,J,J,J,J,J,J,J,J,J,J,J,J,J] (λs=>(∃Y,s=⟨C++(X++.cells x.cells::Y),L,c⟩)∧(x.op=1→badE q x=Qw)∧freshB h.first (h.es.take k) q x=Qy) ?_ ?_
    · by_cases h1:x.op=1;case neg =>
        have h1':decide (x.op=1)=Qw:=by simp[h1]
        simp only[vqM,bR,zA,zB,vsE,h1'];exact fY (by simp only[vke,zB,zA]) ⟨⟨[],by simp⟩,λe=>absurd e h1,by simp[freshB,h1]⟩
      have h1':decide (x.op=1)=Qy:=by simp[h1]
      simp only[vqM,bR,zA,zB,vsE,h1'];refine aa (HU _ rfl (λd=>!defB d q.d) x.defs _ λd hd=>?_) ?_
      · exact H1 d (by have:=(hel.1.df d hd).nm;omega) q _ (gp _)
      cases hb:badE q x with
      |true =>
        rw[badE]at hb;rw[hb];rw[hpl,iz (k:=k+1) (by omega) (hbad h1 hb)];simp only[vqM,bR,zA,zB,reduceCtorEq,g1,gs1];refine iN (.inr rfl) ?_ (cu (aK (Pg.bd _)) (.int _ _)) (hC.set1 _);simp only[vqM,bR,zA,gs2];rfl
      |false =>
        have hb':=hb;rw[badE]at hb';rw[hb'];simp only[vqM,bR,zA,zB,gp];have hqR:=Gd.of hqN.pr;have hqk:=hqN.ok hn;refine aa (jq q.defs (by have:=hqR.dl;omega) hqk.fl _ L c) ?_;simp only[vqM,bR,zA,zB,vsE];obtain⟨G,hG⟩:∃G,G=C++(X++[Box.cells x.cells,Box.map (mapB (setS (sitesD q.defs)))]):=⟨_,rfl⟩;have hGl:C.length+(X.length+2)=G.length:=by rw[hG];simp
        rw[←hG];refine aa (jq x.defs (by have:=hel.2;omega) (λd hd=>by have:=(hel.1.df d hd).ct;rw[bH];omega) G L c) ?_;have hUc:∀y,U.contains y=(bT h.first (h.es.take k)).contains y:=λy=>by rw[Nv];simp only[List.contains_iff_mem,hU]
        have hfr:freshB h.first (h.es.take k) q x=(setS (sitesD x.defs)).all λy=>(setS (sitesD q.defs)).contains y || !U.contains y:=by
          rw[freshB,Nv];simp only[h1,ne_eq,not_true_eq_false,decide_false,Mi,Mn,hUc,fT,eI]
        generalize hK:setS (sitesD x.defs)=K at hfr;have hKel:∀(j:Nat)(h1:j<(mapB K).length)(h2:j<K.length),(mapB K)[j].1=.int .i64 K[j]:=λj h1 h2=>by simp[mapB]
        have hKl:(mapB K).length=K.length:=dG K;have gGm:∀Z:List Box,(G++Z)[im]?=Qv (.map (mapB U)):=λZ=>by rw[hG,L4];exact gm _
        have gGo:∀Z:List Box,(G++Z)[C.length+(X.length+1)]?=Qv (.map (mapB (setS (sitesD q.defs)))):=λZ=>by
          rw[hG,L4,L4,bD,bD];rfl
        obtain⟨Z0,hZ0⟩:∃Z0,G=C++(X++.cells x.cells::Z0):=⟨_,hG⟩;have gG1:∀Z:List Box,(G++Z)[B.length+1]?=Qv (.cells [.slice .nil [],.slice .nil [],.slice .nil [],.slice .nil [],.int .i64 0,.int .i64 0,.int .i64 0,.slice .nil [],.slice .nil [],.slice .nil []]):=λZ=>by rw[hZ0,L4];exact g1 _
        have gsG:∀(Z:List Box)(v:Box),(G++Z).set (B.length+1) v=C.set (B.length+1) v++(X++.cells x.cells::(Z0++Z)):=λZ v=>by rw[hZ0,L4,gs1];simp
        clear hG;generalize setS (sitesD q.defs)=W at hfr gGo;simp only[vqM,vsIt];refine gW (by rfl) bF λbs c0 q1 q2 q3=>?_;simp only[vqM,zA];refine ae [1,2,5,6,7,8,9,28,29,30,49] ?_;simp only[vke,zB,zA];refine aC az K.length (λj e s=>∃js,Js K.length js∧js.length=j∧(∀i∈js,∀(hi:i<K.length),(W.contains K[i] || !U.contains K[i])=Qy)∧e=[J,.box B.length 0,.box (B.length+1) 0,J,J,.box ip 0,.map im,.int .i64 (k:Int),.box (C.length+X.length) 0,.map (C.length+(X.length+1)),J,J,J,J,J,J,J,J,J,J,J,J,J,J,J,J,J,J,.slice .none (aL h.es),.int .i64 h.es.length,.int .i64 (k:Int),J,J,J,J,J,J,J,J,J,J,J,J,J,J,J,J,J,J,.box (G.length+1) 0,J,J,J,J,J,J,J,J,J,J,J,J,J,J,J,J,J,J,J,J,J,J,J,J,J,J,J,J,J,J,J,J,J,J,J,J,J,J,J,J,J,J,J,J,J,J,J,J,J,J,J,J,J,J,J,J,J,J,J,J,J,J,J,J,J,J,J,J,J,J,J]∧s=⟨G++[.mapX (mapB K) bs c0,.iter G.length c0 (cb bs js)],L,c⟩) ?_ ?_ 0 _ _ (K9 _) ⟨[],⟨.nil,by simp⟩,rfl,by simp,rfl,rfl⟩
        · rintro k2 e s hk2 ⟨js,hjs,hjl,hok2,rfl,rfl⟩ ih2;have hi:(G++[Box.mapX (mapB K) bs c0,.iter G.length c0 (cb bs js)])[G.length+1]?=Qv (.iter G.length c0 (cb bs js)):=bD;have hm2:(G++[Box.mapX (mapB K) bs c0,.iter G.length c0 (cb bs js)])[G.length]?=Qv (.mapX (mapB K) bs c0):=bF;simp only[vqM,zB,vsIt];refine dU hi hm2 q3 (λj hj hjb hns=>?_) (λhall=>?_)
          · have hjk:j<K.length:=by omega
            have hjn:j ∉ js:=λh=>hns ((dD q2 (λi hi=>by have:=hjs.lt i hi;omega) hjb).2 h);have hpb:cb bs js++[bs[j]]=cb bs (js++[j]):=by simp[cb,NC,hjb]
            have hset:(G++[Box.mapX (mapB K) bs c0,.iter G.length c0 (cb bs js)]).set (G.length+1) (Box.iter G.length c0 (cb bs js++[bs[j]]))=G++[Box.mapX (mapB K) bs c0,.iter G.length c0 (cb bs js++[bs[j]])]:=iJ;dsimp only;rw[hset];have hi2:(G++[Box.mapX (mapB K) bs c0,.iter G.length c0 (cb bs js++[bs[j]])])[G.length+1]?=Qv (.iter G.length c0 (cb bs js++[bs[j]])):=bD;have hm3:(G++[Box.mapX (mapB K) bs c0,.iter G.length c0 (cb bs js++[bs[j]])])[G.length]?=Qv (.mapX (mapB K) bs c0):=bF;simp only[vqM,zB,vsIt];refine ia hi2 hm3 hj hjb (by simp) ?_;rw[hKel j hj hjk];have hyK:K[j]∈K:=Mf hjk;have hyj:∀i∈js++[j],∀(hi:i<K.length),(W.contains K[j] || !U.contains K[j])=Qy→(W.contains K[i] || !U.contains K[i])=Qy:=λi hi hil hh=>by
              rcases Mz.1 hi with hi|hi
              · exact hok2 i hi hil
              · simp at hi;subst hi;exact hh
            generalize K[j]=y at hyK hyj;have hfin:(W.contains y || !U.contains y)=Qw→playK h (k+1)=Qx:=λhh=>by
              rw[hnext];have:freshB h.first (h.es.take k) q x=Qw:=by
                rw[hfr,No];exact⟨y,hyK,by rw[hh];simp⟩
              rw[this];rfl
            rw[hpb];have lU:=bi y U;have lW:=bi y W;cases hu:U.contains y with
            |false =>
              rw[hu]at lU hyj;simp only[vqM,bR,zB,gGm,lU];refine ae [1,2,5,6,7,8,9,28,29,30,49] ?_;simp only[vke,zB,zA];exact ih2 _ _ ⟨js++[j],hjs.snoc hjk hjn,by simp[hjl],λi hi hil=>hyj i hi hil (by simp),rfl,rfl⟩
            |true =>
              rw[hu]at lU hyj hfin;cases hw:W.contains y with
              |true =>
                rw[hw]at lW hyj;simp only[vqM,bR,zB,gGm,gGo,lU,lW];refine ae [1,2,5,6,7,8,9,28,29,30,49] ?_;simp only[vke,zB,zA];exact ih2 _ _ ⟨js++[j],hjs.snoc hjk hjn,by simp[hjl],λi hi hil=>hyj i hi hil (by simp),rfl,rfl⟩
              |false =>
                rw[hw]at lW hfin;rw[hpl,iz (k:=k+1) (by omega) (hfin rfl)];simp only[vqM,bR,zA,zB,gGm,gGo,lU,lW,gG1,gsG];refine iN (.inr rfl) ?_ (cu (aK (Pg.bd _)) (.int _ _)) (hC.set1 _);simp only[vqM,bR,zA,gs2];rfl
          · exfalso;have:MF K.length ⊆ js:=λj hj=>by
              have hj:=MP.1 hj;have hjb:j<bs.length:=by omega
              exact(dD q2 (λi hi=>by have:=hjs.lt i hi;omega) hjb).1 (hall _ (Mf hjb))
            have:=OW.length_le_of_subset this
            simp at this;omega
        · rintro e s ⟨js,hjs,hjl,hok2,rfl,rfl⟩;have hi:(G++[Box.mapX (mapB K) bs c0,.iter G.length c0 (cb bs js)])[G.length+1]?=Qv (.iter G.length c0 (cb bs js)):=bD;have hm2:(G++[Box.mapX (mapB K) bs c0,.iter G.length c0 (cb bs js)])[G.length]?=Qv (.mapX (mapB K) bs c0):=bF;simp only[vqM,zB,vsIt];refine dU hi hm2 q3 (λj hj hjb hns=>?_) (λhall=>?_)
          · exact absurd ((dD q2 (λi hi=>by have:=hjs.lt i hi;omega) hjb).2 (hjs.all hjl (by omega))) hns
          · simp only[vqM];refine fY (by simp only[vke,zB,zA]) ⟨⟨_,by rw[hZ0,L4,L4];rfl⟩,λ_=>by first|trivial|exact hb,?_⟩;rw[hfr,Mn];intro y hy;obtain⟨i,hi,rfl⟩:=Mx hy;exact hok2 i (hjs.all hjl hi) hi
    · rintro s ⟨⟨Y,rfl⟩,hnb,hfr⟩;rw[hfr,K6]at hnext;have hrev:jk (h.es.take k) x=Qw→playS h=Qx:=λhh=>iz (k:=k+1) (by omega) (by rw[hnext,hh];rfl);refine lZ (λe s=>keep [1,2,5,6,7,8,28,29,30] e=[J,.box B.length 0,.box (B.length+1) 0,J,J,.box ip 0,.map im,.int .i64 (k:Int),.box (C.length+X.length) 0,J,J,J,J,J,J,J,J,J,J,J,J,J,J,J,J,J,J,J,.slice .none (aL h.es),.int .i64 h.es.length,.int .i64 (k:Int),J,J,J,J,J,J,J,J,J,J,J,J,J,J,J,J,J,J,J,J,J,J,J,J,J,J,J,J,J,J,J,J,J,J,J,J,J,J,J,J,J,J,J,J,J,J,J,J,J,J,J,J,J,J,J,J,J,J,J,J,J,J,J,J,J,J,J,J,J,J,J,J,J,J,J,J,J,J,J,J,J,J,J,J,J,J,J,J,J,J]∧s=⟨C++(X++.cells x.cells::Y),L,c⟩∧jk (h.es.take k) x=Qy) ?_ ?_
      · refine ev az ?_;by_cases h5:x.op=5;case neg =>
          have h5':decide (x.op=5)=Qw:=by simp[h5]
          have hrt:jk (h.es.take k) x=Qy:=by simp[jk,h5]
          simp only[vqM,bR,zA,zB,vsE,h5'];exact ew ⟨by simp only[vke,zB,zA],rfl,hrt⟩
        have h5':decide (x.op=5)=Qy:=by simp[h5]
        have hsl:=λ(e e' sz by_:Nat)(a:Bool)=>nI (e:=e) (e':=e') (sz:=sz) (by_:=by_) (a:=a) (show k≤h.es.length by omega);have hfail:jk (h.es.take k) x=Qw→nZ h=.tup [.agg Pg.zero.cells,.int .i64 220]:=λhh=>by rw[hpl,hrev hh]
        have hlk:(h.es.take k).length=k:=by rw[MN];omega
        by_cases ha:x.a<0
        · have ha':decide (x.a<0)=Qy:=by simp[ha]
          rw [hfail (by simp only [jk, hlk]; have : ¬ 0 ≤ x.a := by omega
                        simp[h5,this])]
          simp only[vqM,bR,zA,zB,vsE,h5',ha',g1,gs1,vsJI];refine iN (.inr rfl) ?_ (cu (aK (Pg.bd _)) (.int _ _)) (hC.set1 _);simp only[vqM,bR,zA,gs2];rfl
        have ha':decide (x.a<0)=Qw:=by simp;omega
        by_cases hb:(k:Int)≤x.a
        · have hb':decide (x.a≥(k:Int))=Qy:=by simp;omega
          rw [hfail (by simp only [jk, hlk]; have : ¬ x.a < k := by omega
                        simp[h5,this])]
          simp only[vqM,bR,zA,zB,vsE,h5',ha',hb',g1,gs1,vsJI];refine iN (.inr rfl) ?_ (cu (aK (Pg.bd _)) (.int _ _)) (hC.set1 _);simp only[vqM,bR,zA,gs2];rfl
        have hb':decide (x.a≥(k:Int))=Qw:=by simp;omega
        obtain⟨i,hi⟩:∃i:Nat,x.a=i:=⟨x.a.toNat,by omega⟩;have hik:i<k:=by omega
        have hfl:(forceS (h.es.take k)).length=k:=by rw[ea,hlk]
        have hgf:(bU (forceS (h.es.take k)))[i]?=Qv [.bool (forceS (h.es.take k))[i]]:=by simp[bU,hfl,hik]
        have hrv:jk (h.es.take k) x=(forceS (h.es.take k))[i]:=by
          simp[jk,h5,hi,hlk,hik,hfl]
        have hbl:=db (forceS (h.es.take k));generalize(forceS (h.es.take k))[i]=f at hgf hrv;simp only[vqM,bR,zA,zB,vsE,vsH,h5',g0,ha',hb',hsl];refine aa (AQ (h.es.take k) (by omega) _) ?_;rw[hi];have hix:(0≤(i:Int)∧(i:Int)<(k:Int))=True:=by simp;omega
        simp only[vqM,bR,zA,vsE,hi,K3,hgf,natle0];cases f with
        |true =>
          simp only[vqM];exact ew ⟨by simp only[vke,zB,zA],rfl,hrv⟩
        |false =>
          rw[hfail hrv];simp only[vqM,bR,zA,zB,g1,gs1,vsJI];refine iN (.inr rfl) ?_ (cu (aK (Pg.bd _)) (.int _ _)) (hC.set1 _);simp only[vqM,bR,zA,gs2];rfl
      · rintro e s ⟨he,rfl,hrt⟩;rw[hrt,if_pos rfl]at hnext;refine ae [1,2,5,6,7,8,28,29,30] ?_;rw[he];refine ev az ?_;have hsl:=λ(e e' sz by_:Nat)(a:Bool)=>nI (e:=e) (e':=e') (sz:=sz) (by_:=by_) (a:=a) (show k+1≤h.es.length by omega);have hwr:QQ.wrap ((k:Int)+1)=((k+1:Nat):Int):=ap (by omega);simp only[vqM,bR,zA,zB,vsH,g0,hwr,hsl];have hta:=Ez h.first (h.es.take (k+1)) H.fi (λe he=>H.ed e (Nu he)) hn (hm.imp_left λh1=>by have:=uB h.es (k+1);omega) (by rw[MN];omega);have haf:=F6 h.first (h.es.take (k+1));rw[←hnext]at haf;generalize afterQ h.first (h.es.take (k+1))=aq at haf hta;obtain⟨r,ok⟩:=aq;refine aa (hta _) ?_;cases ok with
        |false =>
          have hfail:nZ h=.tup [.agg Pg.zero.cells,.int .i64 220]:=by rw[hpl,iz (k:=k+1) (by omega) haf]
          rw[hfail];simp only[vqM,bR,zA,vsH,g0,nL];refine aA (aa (hta _) ?_) ?_
          · simp only[vqM];rfl
          simp only[vqM,bR,zA,zB,g1,gs1];refine iN (.inr rfl) ?_ (cu (aK (Pg.bd _)) (.int _ _)) (hC.set1 _);simp only[vqM,bR,zA,gs2];rfl
        |true =>
          simp only[vqM,bR,zA,vsH,g0,nL];refine aA (aa (hta _) ?_) ?_
          · simp only[vqM];rfl
          have hpk2:playK h (k+1)=Qv r:=haf;have hrN:=kA H hpk2;have gsp:∀(X:List Box)(v:Box),(C++X).set ip v=C.set ip v++X:=λX v=>Od _ _ hlp;have hr10:r.cells++OM 10 q.cells=r.cells:=by rw[show OM 10 q.cells=[] from rfl,MK]
          have hC2:=hC.setp r;have hl2:(C.set ip (.cells r.cells)).length=C.length:=Oo;have gC2:∀(Z:List Box)(j:Nat),(C.set ip (.cells r.cells)++Z)[C.length+j]?=Z[j]?:=λZ j=>by rw[←hl2,bD]
          have hwk:QQ.wrap ((k:Int)+1)=((k+1:Nat):Int):=ap (by omega);by_cases h1:x.op=1;case neg =>
            have h1':decide (x.op≠1)=Qy:=by simp[h1]
            rw[if_neg h1,MK]at hused;simp only[vqM,bR,zA,zB,vsE,gp,gsp,hr10,gC2,h1',hwk];refine ae [1,2,5,6,28,29,30] ?_;simp only[vke,zB,zA];exact ih _ _ ⟨_,_,r,U,rfl,rfl,hC2,hpk2,λy=>by rw[hU,hused]⟩
          have h1':decide (x.op≠1)=Qw:=by simp[h1]
          rw[if_pos h1]at hused;simp only[vqM,bR,zA,zB,vsE,gp,gsp,hr10,gC2,h1'];obtain⟨C2,hC2e⟩:∃C2,C2=C.set ip (.cells r.cells):=⟨_,rfl⟩;rw[←hC2e]at hC2⊢;rw[←hC2e]at hl2 gC2;obtain⟨Z,hZ⟩:∃Z,Z=X++Box.cells x.cells::(Y++[Box.cells r.cells]):=⟨_,rfl⟩;rw[←hZ];refine aa (jq x.defs (by have:=hel.2;omega) (λd hd=>by have:=(hel.1.df d hd).ct;rw[bH];omega) (C2++Z) L c) ?_;have hKm:∀y,y∈setS (sitesD x.defs)↔y∈sitesD x.defs:=λy=>eI;generalize setS (sitesD x.defs)=K at hKm;have hKel:∀(j:Nat)(h1:j<(mapB K).length)(h2:j<K.length),(mapB K)[j].1=.int .i64 K[j]:=λj h1 h2=>by simp[mapB]
          have hKl:(mapB K).length=K.length:=dG K;have gCi:∀(C3:List Box),C3.length=C2.length→∀(W:List Box)(j:Nat),(C3++(Z++W))[C2.length+(Z.length+j)]?=W[j]?:=λC3 h3 W j=>by rw[←h3,bD,bD]
          have gCi0:∀(C3:List Box),C3.length=C2.length→∀(W:List Box),(C3++(Z++W))[C2.length+Z.length]?=W[0]?:=λC3 h3 W=>by rw[←h3,bD,bF]
          have gsi:∀(C3:List Box),C3.length=C2.length→∀(W:List Box)(j:Nat)(v:Box),(C3++(Z++W)).set (C2.length+(Z.length+j)) v=C3++(Z++W.set j v):=λC3 h3 W j v=>by rw[←h3,iJ,iJ]
          simp only[vqM,vsIt];refine gW (by rfl) (gCi0 C2 rfl _) λbs c0 q1 q2 q3=>?_;simp only[vqM,zA];refine ae [1,2,5,6,28,29,30,112] ?_;simp only[vke,zB,zA];refine aC az K.length (λj e s=>∃js C3 U3,Js K.length js∧js.length=j∧PlC B C3 h r U3 im ip∧(∀y,y∈U3↔y∈U∨∃i∈js,∃hi:i<K.length,K[i]=y)∧e=[J,.box B.length 0,.box (B.length+1) 0,J,J,.box ip 0,.map im,J,J,J,J,J,J,J,J,J,J,J,J,J,J,J,J,J,J,J,J,J,.slice .none (aL h.es),.int .i64 h.es.length,.int .i64 (k:Int),J,J,J,J,J,J,J,J,J,J,J,J,J,J,J,J,J,J,J,J,J,J,J,J,J,J,J,J,J,J,J,J,J,J,J,J,J,J,J,J,J,J,J,J,J,J,J,J,J,J,J,J,J,J,J,J,J,J,J,J,J,J,J,J,J,J,J,J,J,J,J,J,J,J,J,J,J,J,J,J,J,.box (C2.length+(Z.length+1)) 0,J,J,J,J,J,J,J,J]∧s=⟨C3++(Z++[.mapX (mapB K) bs c0,.iter (C2.length+Z.length) c0 (cb bs js)]),L,c⟩) ?_ ?_ 0 _ _ (K9 _) ⟨[],C2,U,⟨.nil,by simp⟩,rfl,hC2,by simp,rfl,?_⟩
          · rintro k2 e s hk2 ⟨js,C3,U3,hjs,hjl,hC3,hU3,rfl,rfl⟩ ih2;have h3:=hC2.len2 hC3;have hi:(C3++(Z++[Box.mapX (mapB K) bs c0,.iter (C2.length+Z.length) c0 (cb bs js)]))[C2.length+(Z.length+1)]?=Qv (.iter (C2.length+Z.length) c0 (cb bs js)):=gCi C3 h3 _ 1;have hm2:(C3++(Z++[Box.mapX (mapB K) bs c0,.iter (C2.length+Z.length) c0 (cb bs js)]))[C2.length+Z.length]?=Qv (.mapX (mapB K) bs c0):=gCi0 C3 h3 _;simp only[vqM,zB,vsIt];refine dU hi hm2 q3 (λj hj hjb hns=>?_) (λhall=>?_)
            · have hjk:j<K.length:=by omega
              have hjn:j ∉ js:=λh=>hns ((dD q2 (λi hi=>by have:=hjs.lt i hi;omega) hjb).2 h);have hpb:cb bs js++[bs[j]]=cb bs (js++[j]):=by simp[cb,NC,hjb]
              dsimp only;rw[gsi C3 h3];simp only[NB,OD];have hi2:(C3++(Z++[Box.mapX (mapB K) bs c0,.iter (C2.length+Z.length) c0 (cb bs js++[bs[j]])]))[C2.length+(Z.length+1)]?=Qv (.iter (C2.length+Z.length) c0 (cb bs js++[bs[j]])):=gCi C3 h3 _ 1;have hm3:(C3++(Z++[Box.mapX (mapB K) bs c0,.iter (C2.length+Z.length) c0 (cb bs js++[bs[j]])]))[C2.length+Z.length]?=Qv (.mapX (mapB K) bs c0):=gCi0 C3 h3 _;simp only[vqM,zB,vsIt];refine ia hi2 hm3 hj hjb (by simp) ?_;rw[hKel j hj hjk];obtain⟨fr,hfr1,hfr2⟩:=pj (l:=U3) (n:=K[j]);have hU4:∀y,y∈addS U3 K[j]↔y∈U∨∃i∈js++[j],∃hi:i<K.length,K[i]=y:=λy=>by
                rw[sG,hU3];constructor
                · rintro((h|⟨i,hi,hil,rfl⟩)|rfl)
                  · exact .inl h
                  · exact .inr ⟨i,by simp[hi],hil,rfl⟩
                  · exact .inr ⟨j,by simp,hjk,rfl⟩
                · rintro(h|⟨i,hi,hil,rfl⟩)
                  · exact .inl (.inl h)
                  · rcases Mz.1 hi with hi|hi
                    · exact .inl (.inr ⟨i,hi,hil,rfl⟩)
                    · simp at hi;subst hi;exact .inr rfl
              generalize K[j]=y at hfr1 hfr2 hU4;rw[hpb];have gm3:∀X:List Box,(C3++X)[im]?=Qv (.map (mapB U3)):=λX=>bO hC3.mp;have gs3:∀(X:List Box)(v:Box),(C3++X).set im v=C3.set im v++X:=λX v=>Od _ _ hC3.lt;simp only[vqM,bR,gm3,gs3,hfr1,hfr2];refine ae [1,2,5,6,28,29,30,112] ?_;simp only[vke,zB,zA];exact ih2 _ _ ⟨js++[j],_,_,hjs.snoc hjk hjn,by simp[hjl],hC3.setm (addS U3 y),hU4,rfl,rfl⟩
            · exfalso;have:MF K.length ⊆ js:=λj hj=>by
                have hj:=MP.1 hj;have hjb:j<bs.length:=by omega
                exact(dD q2 (λi hi=>by have:=hjs.lt i hi;omega) hjb).1 (hall _ (Mf hjb))
              have:=OW.length_le_of_subset this
              simp at this;omega
          · rintro e s ⟨js,C3,U3,hjs,hjl,hC3,hU3,rfl,rfl⟩;have h3:=hC2.len2 hC3;have hi:(C3++(Z++[Box.mapX (mapB K) bs c0,.iter (C2.length+Z.length) c0 (cb bs js)]))[C2.length+(Z.length+1)]?=Qv (.iter (C2.length+Z.length) c0 (cb bs js)):=gCi C3 h3 _ 1;have hm2:(C3++(Z++[Box.mapX (mapB K) bs c0,.iter (C2.length+Z.length) c0 (cb bs js)]))[C2.length+Z.length]?=Qv (.mapX (mapB K) bs c0):=gCi0 C3 h3 _;simp only[vqM,zB,vsIt];refine dU hi hm2 q3 (λj hj hjb hns=>?_) (λhall=>?_)
            · exact absurd ((dD q2 (λi hi=>by have:=hjs.lt i hi;omega) hjb).2 (hjs.all hjl (by omega))) hns
            · simp only[vqM,hwk];refine ae [1,2,5,6,28,29,30] ?_;simp only[vke,zB,zA];refine ih _ _ ⟨C3,_,r,U3,rfl,rfl,hC3,hpk2,λy=>?_⟩;rw[hU3,hused,Mz,←hU,←hKm];constructor
              · rintro(h|⟨i,hi,hil,rfl⟩)
                · exact .inl h
                · exact .inr (Mf hil)
              · rintro(h|h)
                · exact .inl h
                · obtain⟨i,hi,rfl⟩:=Mx h;exact .inr ⟨i,hjs.all hjl hi,hi,rfl⟩
          · rfl
  · rintro e s ⟨C,X,q,U,rfl,rfl,hC,hpk,hU⟩;have hklt:((h.es.length:Int)<(h.es.length:Int))=False:=by simp
    have hps:playS h=Qv q:=hpk;rw[hpl,hps];have hl1:B.length+1<C.length:=by have:=hC.ln;omega
    have g1:∀X:List Box,(C++X)[B.length+1]?=Qv (.cells [.slice .nil [],.slice .nil [],.slice .nil [],.slice .nil [],.int .i64 0,.int .i64 0,.int .i64 0,.slice .nil [],.slice .nil [],.slice .nil []]):=λX=>bO hC.z0;have gp:∀X:List Box,(C++X)[ip]?=Qv (.cells q.cells):=λX=>bO hC.pr;have gs1:∀(X:List Box)(v:Box),(C++X).set (B.length+1) v=C.set (B.length+1) v++X:=λX v=>Od _ _ hl1;have gs2:∀(X:List Box)(v:Box),(C.set (B.length+1) v++X)[B.length+1]?=Qv v:=λX v=>by rw[ML (by simp;exact hl1),MH hl1]
    simp only[vqM,bR,zA,zB,hklt,decide_false,g1,gp,gs1];refine iN (.inr rfl) ?_ (cu (aK (Pg.bd _)) (.int _ _)) (hC.set1 _);simp only[vqM,bR,gs2]
end Go.V
namespace Go.Proofs
open Go.Shelf
def Tryz.laysSort_ren:Go.Shelf.Ren:=⟨λ|189=>76|125=>130|257=>129|128=>183|129=>184|294=>174|295=>175|296=>176|297=>177|298=>178|299=>179|216=>180|300=>181|301=>182|328=>226|329=>227|330=>228|331=>229|332=>230|215=>204|343=>275|n=>n,λ|28=>32|3=>3|46=>209|0=>0|51=>256|53=>258|4=>4|183=>249|182=>248|131=>222|5=>5|9=>9|218=>294|222=>298|228=>331|229=>332|n=>n,λ|n=>n⟩
theorem Tryz.laysSort:Go.Proofs.Lays.n189 Qz Tryz.laysSort_ren:={
 mixed:=by kernel_rfl
 f125:=func130.trans (congrArg Qv (by kernel_rfl))
 f128:=func183.trans (congrArg Qv (by kernel_rfl))
 f129:=func184.trans (congrArg Qv (by kernel_rfl))
 f189:=func76.trans (congrArg Qv (by kernel_rfl))
 f215:=func204.trans (congrArg Qv (by kernel_rfl))
 f216:=func180.trans (congrArg Qv (by kernel_rfl))
 f257:=func129.trans (congrArg Qv (by kernel_rfl))
 f294:=func174.trans (congrArg Qv (by kernel_rfl))
 f295:=func175.trans (congrArg Qv (by kernel_rfl))
 f296:=func176.trans (congrArg Qv (by kernel_rfl))
 f297:=func177.trans (congrArg Qv (by kernel_rfl))
 f298:=func178.trans (congrArg Qv (by kernel_rfl))
 f299:=func179.trans (congrArg Qv (by kernel_rfl))
 f300:=func181.trans (congrArg Qv (by kernel_rfl))
 f301:=func182.trans (congrArg Qv (by kernel_rfl))
 f328:=func226.trans (congrArg Qv (by kernel_rfl))
 f329:=func227.trans (congrArg Qv (by kernel_rfl))
 f330:=func228.trans (congrArg Qv (by kernel_rfl))
 f331:=func229.trans (congrArg Qv (by kernel_rfl))
 f332:=func230.trans (congrArg Qv (by kernel_rfl))
 f343:=func275.trans (congrArg Qv (by kernel_rfl))
 t0:=Tryz.underlying0
 a0:=Tryz.isAgg0
 z0:=Tryz.sizeOf0
 v0:=Tryz.zeroValue0
 t3:=Tryz.underlying3
 a3:=Tryz.isAgg3
 z3:=Tryz.sizeOf3
 v3:=Tryz.zeroValue3
 t4:=Tryz.underlying4
 a4:=Tryz.isAgg4
 z4:=Tryz.sizeOf4
 v4:=Tryz.zeroValue4
 t5:=Tryz.underlying5
 a5:=Tryz.isAgg5
 z5:=Tryz.sizeOf5
 v5:=Tryz.zeroValue5
 t9:=Tryz.underlying9
 a9:=Tryz.isAgg9
 z9:=Tryz.sizeOf9
 v9:=Tryz.zeroValue9
 t28:=Tryz.underlying32
 a28:=Tryz.isAgg32
 z28:=Tryz.sizeOf32
 v28:=Tryz.zeroValue32
 t46:=Tryz.underlying209
 a46:=Tryz.isAgg209
 z46:=Tryz.sizeOf209
 v46:=Tryz.zeroValue209
 t51:=Tryz.underlying256
 a51:=Tryz.isAgg256
 z51:=Tryz.sizeOf256
 v51:=Tryz.zeroValue256
 t53:=Tryz.underlying258
 a53:=Tryz.isAgg258
 z53:=Tryz.sizeOf258
 v53:=Tryz.zeroValue258
 t131:=Tryz.underlying222
 a131:=Tryz.isAgg222
 z131:=Tryz.sizeOf222
 v131:=Tryz.zeroValue222
 t182:=Tryz.underlying248
 a182:=Tryz.isAgg248
 z182:=Tryz.sizeOf248
 v182:=Tryz.zeroValue248
 t183:=Tryz.underlying249
 a183:=Tryz.isAgg249
 z183:=Tryz.sizeOf249
 v183:=Tryz.zeroValue249
 t218:=Tryz.underlying294
 a218:=Tryz.isAgg294
 z218:=Tryz.sizeOf294
 v218:=Tryz.zeroValue294
 t222:=Tryz.underlying298
 a222:=Tryz.isAgg298
 z222:=Tryz.sizeOf298
 v222:=Tryz.zeroValue298
 t228:=Tryz.underlying331
 a228:=Tryz.isAgg331
 z228:=Tryz.sizeOf331
 v228:=Tryz.zeroValue331
 t229:=Tryz.underlying332
 a229:=Tryz.isAgg332
 z229:=Tryz.sizeOf332
 v229:=Tryz.zeroValue332}
end Go.Proofs
namespace Go.V
open Go.Proofs Go.Proofs.Tryz Go.Sort
set_option maxRecDepth 20000
set_option maxHeartbeats 4000000
theorem HY(l:List Int){b:Nat}{B:List Box}{L:List Nat}{c:Nat}(hb:B[b]?=Qv (.cells (bW l)))(hn:l.length≤1000000):aP Qz 76 [.row b 0 l.length 1] ⟨B,L,c⟩
  λr s=>r=.tup []∧s=⟨B.set b (.cells (bW (fo l))),L,c⟩:=by
 intro vs w g ha hw;refine⟨lS func76 (by decide) rfl,?_⟩;have hsz:vs.size=1:=ha.1.symm;have hR:=ha.2 0 (by simp) (by omega);simp only[List.getElem_cons_zero]at hR;generalize hv:vs[0]=v at hR;have hvs:vs = #[v]:=by
  refine Array.ext (by simp[hsz]) λi h1 h2=>?_;have:i=0:=by simp at h2;omega
  subst this;simpa using hv
 subst hvs;obtain⟨blk,arr,T,fr,q1,q2,q3,q4,q5,rfl⟩:=hw.box b _ hb;cases hR with
 |row _ _ _ _ blk' m cap hB hS hcap hmax hz hm =>
  rw[q1]at hB;cases hB;have hil:(bW l).length=l.length:=by simp[bW]
  have hH:Holds (Value.int .i64) w blk 0 l.toArray:=by
   intro j hj;have hjl:j<l.length:=by simpa using hj
   have hja:j<arr.size:=by omega
   have h1:=(q4 j (by omega) hja).1;have h2:(bW l)[j]'(by omega)=.int .i64 l[j]:=by simp[bW]
   rw[h2]at h1;have h3':∀x:Value,R g (.int .i64 l[j]) x→x=.int .i64 l[j]:=λx h=>by cases h;rfl
   have h3:arr[j]=.int .i64 l[j]:=h3' _ h1;have h4:l.toArray[j]! = l[j]:=getElem!_pos l.toArray j hj;refine⟨?_,?_⟩
   ·simp only[World.cell?,q2,MR];rw[h4,←h3];simp[hja]
   ·simp[World.frozen?,q2]
  have hblk:blk<w.heap.size:=bL q2;have hc:Calls Qz 76 #[.slice (Qv ⟨blk,0,Qx⟩) l.length cap] w λe w'=>e=.returned (.tuple #[])∧∃n os,w'=grow (putRow (Value.int .i64) (Sort.ahead w n) blk 0 (l.mergeSort λx y=>decide (x≤y)).toArray) os:=
   calls_of_every_depth λD=>AnyS.slices_Sort_int_alone Tryz.laysSort D blk 0 cap l w hH hblk (by omega)
  refine CallsIn.mono ((callsIn_wide (n:=0)).2 hc) λe w' h=>?_;obtain⟨rfl,n,os,rfl⟩:=h;have hsl:(l.mergeSort λx y=>decide (x≤y)).length=l.length:=(Oj _ _).length_eq;obtain⟨arr',e1,e2,e3,e4,e5,e6,e7,e8⟩:=wo (n:=n) (os:=os) (ys:=l.mergeSort λx y=>decide (x≤y)) q2 (by omega);refine⟨_,g,.tup [],_,⟨rfl,rfl⟩,rfl,.refl g,?_,.tup _ _ rfl λi h1=>by simp at h1⟩;refine hw.swap (b:=b) hb q1 q2 e1 e2 e4 e5 e6 e7 e8 (by simp[bW,fo]) λj h1 h2=>?_;have hj:j<(l.mergeSort λx y=>decide (x≤y)).length:=by simpa[bW,fo]using h1
  rw[e3 j hj h2];have:(bW (fo l))[j]=.int .i64 (l.mergeSort λx y=>decide (x≤y))[j]:=by simp[bW,fo]
  rw[this];exact⟨.int _ _,rfl⟩
open Go.Proofs Go.Proofs.Tryz
def Ec(bs:List Box)(lo:Nat)(row:D)(l:List Int):Prop:=(l=[]∧row=.row0)∨∃i,lo≤i∧row=.row i 0 l.length 1∧bs[i]?=Qv (.cells (bW l))
theorem Ec.shift{bs:List Box}{lo:Nat}{row:D}{l:List Int}{x:Box}{j:Nat}(h:Ec bs lo row l)(hj:j<lo):Ec (bs.set j x) lo row l:=by
 rcases h with h|⟨i,h1,h2,h3⟩
 ·exact .inl h
 ·exact .inr ⟨i,h1,h2,by rw[ME (by omega)];exact h3⟩
theorem Fr(l m:List Int):bW (l++m)=bW l++bW m:=by simp[bW]
theorem ur(l:List Int):(bW l).length=l.length:=by simp[bW]
theorem Lr{P:Program}{T e:TypeId}{by_:Nat}{ag:Bool}{zs:List D}(hel:elemT P T=Qv (e,1,by_,ag))(hz:zeroT P e=Qv zs)(hzl:zs.length=1)(hby:0<by_∧by_≤1000000){row:D}{l:List Int}{bs:List Box}{lo:Nat}(hlo:lo≤bs.length)(hr:Ec bs lo row l)(hn:l.length+1≤1000000){o:Own}{h:Int}{L:List Nat}{c:Nat}{K:DC}
  (hK:∀row' X',Ec (bs.take lo++X') lo row' (l++[h])→@dI row' ⟨bs.take lo++X',L,c⟩ K):@lx (cL P T T row (.slice o [[.int .i64 h]]) ⟨bs,L,c⟩) K:=by
 have hsp:bs=bs.take lo++bs.drop lo:=(MM lo bs).symm;rcases hr with ⟨rfl,rfl⟩|⟨i,h1,rfl,h3⟩
 ·rw[lp];unfold apZ;simp only[hel,hz];refine⟨⟨hzl,by omega,hby.1,hby.2⟩,λx hx=>by simp at hx;subst hx;rfl,?_⟩;rw[if_neg (by simp)];refine⟨by simp,?_⟩;have:=hK (.row bs.length 0 1 1) (bs.drop lo++[.cells [.int .i64 h]]) (.inr ⟨bs.length,hlo,rfl,by rw[←L4,MM,MA];simp[bW]⟩)
  rw[←L4,MM]at this;unfold dI at this;simpa using this
 ·rw[lq];unfold apR;simp only[hel,hz,h3];refine⟨⟨hzl,by omega,hby.1,hby.2⟩,λx hx=>by simp at hx;subst hx;rfl,by simp,by rw[ur];omega,by simpa using hn,?_⟩;have hil:=(L5.1 h3).1;have hset:bs.set i .dead=bs.take lo++(bs.drop lo).set (i-lo) .dead:=by
   conv=>lhs;rw[hsp]
   rw[Nm _ _ (by simp;omega)];congr 2;simp;omega
  have:=hK (.row bs.length 0 (l.length+1) 1) ((bs.drop lo).set (i-lo) .dead++[.cells (bW l++[.int .i64 h])]) (.inr ⟨bs.length,hlo,by simp,by rw[←L4,←hset,Fr];simp[bW]⟩)
  rw[←L4,←hset]at this;unfold dI at this;simpa using this
theorem Ci{l m:List Int}(h1:l.Nodup)(h2:m.Nodup)(h:∀x,x∈l↔x∈m):fo l=fo m:=by
 have hp:l.Perm m:=(Pf h1 h2).2 h;refine sw ((Oj _ _).trans hp) ?_;have:=List.pairwise_mergeSort (le:=λa b=>decide (a≤b)) (λa b c h1 h2=>by simp at *;omega) (λa b=>by simp;omega) l
 exact this.imp λh=>by simpa using h
def usedL(h:Hi):List Int:=fo (setS (bT h.first h.es))
theorem km{n:Nat}:∀{l:List Df},(∀d∈l,DfN n d)→(sitesD l).length≤l.length*(40+n)
 | [],_=>by simp[sitesD]
 |d::l,h=>by
  have h1:=km (l:=l) λx hx=>h x (by simp[hx]);have h2:=(h d (by simp)).ct;have h3:(sitesS d).length=cq d.body+1:=by simp only[sitesS,sitesL,K4,MW,MY,bH]
  simp only[sitesD,Ox,K4,K7]at h1⊢;rw[NW];omega
theorem lB{n:Nat}{first:Pg}(h1:∀d∈first.defs,DfN n d)(h2:first.defs.length≤40)(hn:n≤12):∀{l:List Ed},(∀e∈l,EdN n e)→(bT first l).length≤41000+l.length*2100
 | [],_=>by
  have h3:=km h1;have h4:first.defs.length*(40+n)≤40*52:=OE h2 (by omega)
  simp[bT];omega
 |e::l,h=>by
  have h3:=lB (first:=first) h1 h2 hn (l:=l) λx hx=>h x (by simp[hx]);have he:=h e (by simp);have h4:=km he.df;have h5:e.defs.length*(40+n)≤2*52:=OE he.dl (by omega);simp only[bT,Ox,K4,K7]at h3⊢;rw[NW];split
  ·omega
  ·simp only[K8];omega
theorem At(h:Hi){n m:Nat}(H:HiN n m h)(hn:n≤12)(hm:h.es.length≤100)(hne:h.first.defs≠[])(s:St):ay Qz 32 [.agg h.cells] s (.slice .none (ah (usedL h))) s:=by
 obtain⟨B,L,c⟩:=s;have R:=Gd.of H.fi.pr;have hok:=H.fi.ok hn;have hel:elemT Qz 32=Qv (3,1,8,Qw):=by kernel_rfl
 have hz:zeroT Qz 3=Qv [.int .i64 0]:=by kernel_rfl
 refine aP.freeze (Z:=λr s=>∃i X,B.length≤i∧r=.row i 0 (usedL h).length 1∧s=⟨B++X,L,c⟩∧(B++X)[i]?=Qv (.cells (bW (usedL h)))) ?_ (ce _) ?_
 ·refine aP.introA [] func32 rfl (by decide) az (by kernel_rfl) [QO 2] 47 rfl rfl ?_;simp only[vqM,fw,zA,zS,vsH];refine aa (jq h.first.defs (by have:=R.dl;omega) hok.fl _ L c) ?_;simp only[vqM,fw,zA,vsH,av];refine ae [3,14,15,16] ?_;simp only[vke,zB,zA];refine aC az h.es.length (λk e s=>∃U X,e=[J,J,J,.map (B.length+1),J,J,J,J,J,J,J,J,J,J,.slice .none (aL h.es),.int .i64 h.es.length,.int .i64 (k:Int),J,J,J,J,J,J,J,J,J,J,J,J,J,J,J,J,J,J,J,J,J,J,J,J,J,J,J,J,J,J]∧s=⟨B++.cells h.cells::.map (mapB U)::X,L,c⟩∧U.Nodup∧∀x,x∈U↔x∈bT h.first (h.es.take k)) ?_ ?_ 0 _ _ (K9 _) ⟨_,[],rfl,rfl,fS _,λx=>by rw[eI];simp[bT]⟩
  ·rintro k e s hk ⟨U,X,rfl,rfl,hUn,hU⟩ ih;have hx:h.es[k]?=Qv h.es[k]:=C0 hk;have hg:(aL h.es)[k]?=Qv (h.es[k].cells):=by simp[aL,hx]
   have hklt:((k:Int)<(h.es.length:Int))=True:=by simp;exact hk
   have hused:bT h.first (h.es.take (k+1))=bT h.first (h.es.take k)++(if h.es[k].op=1 then sitesD h.es[k].defs else[]):=by
    rw[Mt,hx,MO,bT,bT,N0,L4];simp
   have hel2:=H.ed _ (Mf hk);generalize h.es[k]=x at hx hg hused hel2;have hwk:QQ.wrap ((k:Int)+1)=((k+1:Nat):Int):=ap (by omega);by_cases h1:x.op=1;case neg =>
    have h1':decide (x.op≠1)=Qy:=by simp[h1]
    rw[if_neg h1,MK]at hused;simp only[vqM,fw,zA,vsE,hklt,decide_true,natle0,K3,hg,h1',hwk];refine ae [3,14,15,16] ?_;simp only[vke,zB,zA];exact ih _ _ ⟨U,_,rfl,rfl,hUn,λy=>by rw[hU,hused]⟩
   have h1':decide (x.op≠1)=Qw:=by simp[h1]
   rw[if_pos h1]at hused;simp only[vqM,fw,zA,vsE,hklt,decide_true,natle0,K3,hg,h1'];obtain⟨Z,hZ⟩:∃Z,Z=X++[Box.cells x.cells]:=⟨_,rfl⟩;have hG:B++Box.cells h.cells::Box.map (mapB U)::Z=(B++Box.cells h.cells::Box.map (mapB U)::Z):=rfl;rw[←hZ];refine aa (jq x.defs (by have:=hel2.2;omega) (λd hd=>by have:=(hel2.1.df d hd).ct;rw[bH];omega) (B++Box.cells h.cells::Box.map (mapB U)::Z) L c) ?_;have hKm:∀y,y∈setS (sitesD x.defs)↔y∈sitesD x.defs:=λy=>eI;generalize setS (sitesD x.defs)=K at hKm;have hKel:∀(j:Nat)(h1:j<(mapB K).length)(h2:j<K.length),(mapB K)[j].1=.int .i64 K[j]:=λj h1 h2=>by simp[mapB]
   have hKl:(mapB K).length=K.length:=dG K;have gi0:∀(es:List (D×D))(W:List Box),(B++Box.cells h.cells::Box.map es::(Z++W))[B.length+(Z.length+1+1)]?=W[0]?:=λes W=>by
    rw[bD,MZ,MZ,bF]
   have gi1:∀(es:List (D×D))(W:List Box),(B++Box.cells h.cells::Box.map es::(Z++W))[B.length+(Z.length+1+1+1)]?=W[1]?:=λes W=>by
    rw[bD,MZ,MZ,bD]
   have gs0:∀(es:List (D×D))(W:List Box)(v:Box),(B++Box.cells h.cells::Box.map es::(Z++W)).set (B.length+(Z.length+1+1)) v=B++Box.cells h.cells::Box.map es::(Z++W.set 0 v):=λes W v=>by
    rw[iJ,NB,NB,iU]
   have gs1:∀(es:List (D×D))(W:List Box)(v:Box),(B++Box.cells h.cells::Box.map es::(Z++W)).set (B.length+(Z.length+1+1+1)) v=B++Box.cells h.cells::Box.map es::(Z++W.set 1 v):=λes W v=>by
    rw[iJ,NB,NB,iJ]
   simp only[vqM,vsIt];refine gW (by rfl) (gi0 _ _) λbs c0 q1 q2 q3=>?_;dsimp only;rw[gs0];simp only[vqM,zA];refine ae [3,14,15,16,26] ?_;simp only[vke,zB,zA];refine aC az K.length (λj e s=>∃js U3,Js K.length js∧js.length=j∧U3.Nodup∧(∀y,y∈U3↔y∈U∨∃i∈js,∃hi:i<K.length,K[i]=y)∧e=[J,J,J,.map (B.length+1),J,J,J,J,J,J,J,J,J,J,.slice .none (aL h.es),.int .i64 h.es.length,.int .i64 (k:Int),J,J,J,J,J,J,J,J,J,.box (B.length+(Z.length+1+1+1)) 0,J,J,J,J,J,J,J,J,J,J,J,J,J,J,J,J,J,J,J,J]∧s=⟨B++.cells h.cells::.map (mapB U3)::(Z++[.mapX (mapB K) bs c0,.iter (B.length+(Z.length+1+1)) c0 (cb bs js)]),L,c⟩) ?_ ?_ 0 _ _ (K9 _) ⟨[],U,⟨.nil,by simp⟩,rfl,hUn,by simp,rfl,?_⟩
   ·rintro k2 e s hk2 ⟨js,U3,hjs,hjl,hU3n,hU3,rfl,rfl⟩ ih2;have hi:(B++Box.cells h.cells::Box.map (mapB U3)::(Z++[Box.mapX (mapB K) bs c0,.iter (B.length+(Z.length+1+1)) c0 (cb bs js)]))[B.length+(Z.length+1+1+1)]?=Qv (.iter (B.length+(Z.length+1+1)) c0 (cb bs js)):=gi1 _ _;have hm2:(B++Box.cells h.cells::Box.map (mapB U3)::(Z++[Box.mapX (mapB K) bs c0,.iter (B.length+(Z.length+1+1)) c0 (cb bs js)]))[B.length+(Z.length+1+1)]?=Qv (.mapX (mapB K) bs c0):=gi0 _ _;simp only[vqM,vsIt];refine dU hi hm2 q3 (λj hj hjb hns=>?_) (λhall=>?_)
    ·have hjk:j<K.length:=by omega
     have hjn:j ∉ js:=λh=>hns ((dD q2 (λi hi=>by have:=hjs.lt i hi;omega) hjb).2 h);have hpb:cb bs js++[bs[j]]=cb bs (js++[j]):=by simp[cb,NC,hjb]
     dsimp only;rw[gs1];simp only[NB,OD];have hi2:(B++Box.cells h.cells::Box.map (mapB U3)::(Z++[Box.mapX (mapB K) bs c0,.iter (B.length+(Z.length+1+1)) c0 (cb bs js++[bs[j]])]))[B.length+(Z.length+1+1+1)]?=Qv (.iter (B.length+(Z.length+1+1)) c0 (cb bs js++[bs[j]])):=gi1 _ _;have hm3:(B++Box.cells h.cells::Box.map (mapB U3)::(Z++[Box.mapX (mapB K) bs c0,.iter (B.length+(Z.length+1+1)) c0 (cb bs js++[bs[j]])]))[B.length+(Z.length+1+1)]?=Qv (.mapX (mapB K) bs c0):=gi0 _ _;simp only[vqM,vsIt];refine ia hi2 hm3 hj hjb (by simp) ?_;rw[hKel j hj hjk];obtain⟨fr,hfr1,hfr2⟩:=pj (l:=U3) (n:=K[j]);have hU4:∀y,y∈addS U3 K[j]↔y∈U∨∃i∈js++[j],∃hi:i<K.length,K[i]=y:=λy=>by
      rw[sG,hU3];constructor
      ·rintro((h|⟨i,hi,hil,rfl⟩)|rfl)
       ·exact .inl h
       ·exact .inr ⟨i,by simp[hi],hil,rfl⟩
       ·exact .inr ⟨j,by simp,hjk,rfl⟩
      ·rintro(h|⟨i,hi,hil,rfl⟩)
       ·exact .inl (.inl h)
       ·rcases Mz.1 hi with hi|hi
        ·exact .inl (.inr ⟨i,hi,hil,rfl⟩)
        ·simp at hi;subst hi;exact .inr rfl
     generalize K[j]=y at hfr1 hfr2 hU4;rw[hpb];simp only[vqM,fw,hfr1,hfr2];refine ae [3,14,15,16,26] ?_;simp only[vke,zB,zA];exact ih2 _ _ ⟨js++[j],_,hjs.snoc hjk hjn,by simp[hjl],se hU3n,hU4,rfl,rfl⟩
    ·exfalso;have:MF K.length ⊆ js:=λj hj=>by
      have hj:=MP.1 hj;have hjb:j<bs.length:=by omega
      exact(dD q2 (λi hi=>by have:=hjs.lt i hi;omega) hjb).1 (hall _ (Mf hjb))
     have:=OW.length_le_of_subset this
     simp at this;omega
   ·rintro e s ⟨js,U3,hjs,hjl,hU3n,hU3,rfl,rfl⟩;have hi:(B++Box.cells h.cells::Box.map (mapB U3)::(Z++[Box.mapX (mapB K) bs c0,.iter (B.length+(Z.length+1+1)) c0 (cb bs js)]))[B.length+(Z.length+1+1+1)]?=Qv (.iter (B.length+(Z.length+1+1)) c0 (cb bs js)):=gi1 _ _;have hm2:(B++Box.cells h.cells::Box.map (mapB U3)::(Z++[Box.mapX (mapB K) bs c0,.iter (B.length+(Z.length+1+1)) c0 (cb bs js)]))[B.length+(Z.length+1+1)]?=Qv (.mapX (mapB K) bs c0):=gi0 _ _;simp only[vqM,vsIt];refine dU hi hm2 q3 (λj hj hjb hns=>?_) (λhall=>?_)
    ·exact absurd ((dD q2 (λi hi=>by have:=hjs.lt i hi;omega) hjb).2 (hjs.all hjl (by omega))) hns
    ·simp only[vqM,hwk];refine ae [3,14,15,16] ?_;simp only[vke,zB,zA];refine ih _ _ ⟨U3,_,rfl,rfl,hU3n,λy=>?_⟩;rw[hU3,hused,Mz,←hU,←hKm];constructor
     ·rintro(h|⟨i,hi,hil,rfl⟩)
      ·exact .inl h
      ·exact .inr (Mf hil)
     ·rintro(h|h)
      ·exact .inl h
      ·obtain⟨i,hi,rfl⟩:=Mx h;exact .inr ⟨i,hjs.all hjl hi,hi,rfl⟩
   ·rfl
  ·rintro e s ⟨U,X,rfl,rfl,hUn,hU⟩;have hklt:((h.es.length:Int)<(h.es.length:Int))=False:=by simp
   rw[Mv]at hU;have hUl:U.length≤300000:=by
    have h1:=hUn.length_le_of_subset (l₂:=bT h.first h.es) λx hx=>(hU x).1 hx;have h2:=lB H.fi.df R.dl hn λe he=>(H.ed e he).1;omega
   have hUe:U≠[]:=by
    intro e;obtain⟨d,hd⟩:=List.exists_mem_of_ne_nil _ hne;have h1:d.site∈bT h.first h.es:=by
     rw[bT,Mz];exact .inl (List.mem_flatMap.2 ⟨d,hd,by simp[sitesS]⟩)
    rw[←hU,e]at h1;simp at h1
   simp only[vqM,hklt,decide_false,vsIt];refine gW (by rfl) (by rw[bD];rfl) λbs c0 q1 q2 q3=>?_;simp only[vqM];refine ae [7,35] ?_;simp only[vke,zB,zA];refine wd (rC 7 (d:=.slice .nil []) rfl nM) ?_;simp only[NB,OD];have hKel:∀(j:Nat)(h1:j<(mapB U).length)(h2:j<U.length),(mapB U)[j].1=.int .i64 U[j]:=λj h1 h2=>by simp[mapB]
   have hKl:(mapB U).length=U.length:=dG U;have gi:∀(it:Box)(W:List Box),(B++Box.cells h.cells::Box.mapX (mapB U) bs c0::(X++it::W))[B.length+(X.length+1+1)]?=Qv it:=λit W=>by
    rw[bD,MZ,MZ,bF];rfl
   have gs:∀(it:Box)(W:List Box)(v:Box),(B++Box.cells h.cells::Box.mapX (mapB U) bs c0::(X++it::W)).set (B.length+(X.length+1+1)) v=B++Box.cells h.cells::Box.mapX (mapB U) bs c0::(X++v::W):=λit W v=>by
    rw[iJ,NB,NB,iU];rfl
   have gmx:∀(W:List Box),(B++Box.cells h.cells::Box.mapX (mapB U) bs c0::W)[B.length+1]?=Qv (.mapX (mapB U) bs c0):=λW=>by rw[bD];rfl
   have gtk:∀(it:Box)(W:List Box),(B++Box.cells h.cells::Box.mapX (mapB U) bs c0::(X++it::W)).take (B.length+(X.length+3))=B++Box.cells h.cells::Box.mapX (mapB U) bs c0::(X++[it]):=λit W=>by
    have e1:B++Box.cells h.cells::Box.mapX (mapB U) bs c0::(X++it::W)=(B++Box.cells h.cells::Box.mapX (mapB U) bs c0::(X++[it]))++W:=by simp
    rw[e1,List.take_left'];simp
   refine aC az U.length (λj e s=>∃js row X2,Js U.length js∧js.length=j∧Ec s.boxes (B.length+(X.length+3)) row (pickL U js)∧e=[J,J,J,J,J,J,J,row,J,J,J,J,J,J,J,J,J,J,J,J,J,J,J,J,J,J,J,J,J,J,J,J,J,J,J,.box (B.length+(X.length+1+1)) 0,J,J,J,J,J,J,J,J,J,J,J]∧s=⟨B++.cells h.cells::.mapX (mapB U) bs c0::(X++.iter (B.length+1) c0 (cb bs js)::X2),L,c⟩) ?_ ?_ 0 _ _ (K9 _) ⟨[],.row0,[],⟨.nil,by simp⟩,rfl,.inl ⟨rfl,rfl⟩,rfl,rfl⟩
   ·rintro k2 e s hk2 ⟨js,row,X2,hjs,hjl,hrow,rfl,rfl⟩ ih2;simp only at hrow;simp only[vqM,vsIt];refine dU (gi _ _) (gmx _) q3 (λj hj hjb hns=>?_) (λhall=>?_)
    ·have hjk:j<U.length:=by omega
     have hjn:j ∉ js:=λh=>hns ((dD q2 (λi hi=>by have:=hjs.lt i hi;omega) hjb).2 h);have hpb:cb bs js++[bs[j]]=cb bs (js++[j]):=by simp[cb,NC,hjb]
     have hpl:pickL U js++[U[j]]=pickL U (js++[j]):=by simp[pickL,NC,hjk]
     dsimp only;rw[gs];simp only[vqM,vsIt];refine ia (gi _ _) (gmx _) hj hjb (by simp) ?_;rw[hKel j hj hjk,hpb];simp only[vqM,fw,zA,zM,zL];have hrow2:Ec (B++.cells h.cells::.mapX (mapB U) bs c0::(X++.iter (B.length+1) c0 (cb bs (js++[j]))::X2)) (B.length+(X.length+3)) row (pickL U js):=by
      have:=hrow.shift (j:=B.length+(X.length+1+1)) (x:=.iter (B.length+1) c0 (cb bs (js++[j]))) (by omega)
      rw[gs]at this;exact this
     refine Lr hel hz rfl (by decide) (by simp) hrow2 (by simp[pickL];omega) λrow' X' hr'=>?_;rw[gtk]at hr'⊢;rw[hpl]at hr';simp only[L4,Mw,MA]at hr';simp only[vqM];refine ae [7,35] ?_;simp only[vke,zB,zA];exact ih2 _ _ ⟨js++[j],row',X',hjs.snoc hjk hjn,by simp[hjl],hr',rfl,rfl⟩
    ·exfalso;have:MF U.length ⊆ js:=λj hj=>by
      have hj:=MP.1 hj;have hjb:j<bs.length:=by omega
      exact(dD q2 (λi hi=>by have:=hjs.lt i hi;omega) hjb).1 (hall _ (Mf hjb))
     have:=OW.length_le_of_subset this
     simp at this;omega
   ·rintro e s ⟨js,row,X2,hjs,hjl,hrow,rfl,rfl⟩;simp only at hrow;have hperm:=y5 hjs hjl;have hus:fo (pickL U js)=usedL h:=by
     rw[usedL];refine Ci (hperm.nodup_iff.2 hUn) (fS _) λx=>?_;rw[hperm.mem_iff,eI,hU]
    have hpl2:(pickL U js).length=U.length:=hperm.length_eq;generalize pickL U js=l at hrow hus hpl2 hperm;simp only[vqM,vsIt];refine dU (gi _ _) (gmx _) q3 (λj hj hjb hns=>?_) (λhall=>?_)
    ·exact absurd ((dD q2 (λi hi=>by have:=hjs.lt i hi;omega) hjb).2 (hjs.all hjl (by omega))) hns
    ·simp only[vqM];rcases hrow with ⟨h1,rfl⟩|⟨i,h1,rfl,h3⟩
     ·exfalso;rw[h1]at hpl2;exact hUe (List.length_eq_zero_iff.1 (by simpa using hpl2.symm))
     ·refine aY (HY l h3 (by omega)) ?_;rintro r t ⟨rfl,rfl⟩;rw[hus];have hil:=(L5.1 h3).1;have hi2:B.length≤i:=by omega
      have hset:∀(W:List Box)(v:Box),(B++W).set i v=B++W.set (i-B.length) v:=λW v=>Nm _ _ hi2;have hll:l.length=(usedL h).length:=by rw[←hus,fo,List.length_mergeSort]
      rw[hset];simp only[vqM];rw[hll];refine ei (.inr rfl) (r:=.row i 0 (usedL h).length 1) ?_ ⟨i,_,hi2,rfl,rfl,?_⟩
      ·simp only[vqM]
      ·rw[←hset,MH hil]
 ·rintro r s ⟨i,X,hi,rfl,rfl,hX⟩;refine⟨X,L,c,rfl,λ_ h=>h,K5 _,.inr ⟨i,0,_,1,_,rfl,by omega,hX,?_,by simp[ah],aW _⟩⟩;rw[NL,Mo (by rw[ur];omega)];induction usedL h with
  |nil=>rfl
  |cons y ys ih=>simp only[bW,ah,M6,List.flatten_cons]at ih⊢;rw[ih];rfl
structure Cd where
 p:Pg
 e:Int
def Cd.cells(x:Cd):List D:=x.p.cells++[.int .i64 x.e]
def apC(r:Option Pg):Cd:=⟨r.getD Pg.zero,if r.isSome then 0 else 220⟩
def playC(h:Hi):Cd:=if programS h.first=0 then apC (playS h)else⟨Pg.zero,programS h.first⟩
theorem Iu(h:Hi):nZ h=.tup [.agg (playC h).p.cells,.int .i64 (playC h).e]:=by
 rw[nZ,playC];split
 ·cases playS h<;>rfl
 ·rfl
theorem F5(r:Option Pg):tr r=.tup [.agg (apC r).p.cells,.int .i64 (apC r).e]:=rfl
theorem Cd.bd{nb nl:Nat}(x:Cd):∀d∈x.cells,Bd nb nl d:=by
 intro d hd;rcases Mz.1 hd with h|h
 ·exact Pg.bd _ d h
 ·simp at h;subst h;exact .int _ _
theorem bX:(∀x:Cd,x.cells.length=11)∧(∀x:Cd,x.cells.take 10=x.p.cells)∧(∀x:Cd,(x.cells.drop 10)[0]?=Qv (.int .i64 x.e))∧((10≤11)=True)∧(∀x:Cd,x.p.cells++[D.int .i64 x.e]=x.cells)∧(∀x:Cd,x.cells.map D.plain1=x.cells)∧(∀x:Cd,x.cells.take 11=x.cells):=
 ⟨λ_=>rfl,λ_=>rfl,λ_=>rfl,by simp,λ_=>rfl,λ_=>rfl,λ_=>rfl⟩
theorem oS(p:Pg)(e:Ed)(H:ApH p e)(s:St):ay Qz 18 [.agg p.cells,.agg e.cells] s (.agg (apC (applyS p e)).cells) s:=by
 obtain⟨B,L,c⟩:=s;refine ay.introN [] func18 rfl (by decide) az (by kernel_rfl) [QP 4 45] 16 rfl rfl ?_;simp only[vqM,bE,pE,dr,zA,zS,vsE];refine aa (AW p e H _) ?_;rw[F5];generalize apC (applyS p e)=r;simp only[vqM,bE,pE,zA,bX];refine QR ?_ (aK (Cd.bd _));simp only[vqM,pE,bX]
theorem oN(h:Hi){n m:Nat}(hok:PgOk h.first)(H:programS h.first=0→HiN n m h)(hn:n≤12)(hm:m+cntD h.es≤12∨OpP h.first)(hl30:h.es.length≤30)(s:St):ay Qz 27 [.agg h.cells] s (.agg (playC h).cells) s:=by
 obtain⟨B,L,c⟩:=s;refine ay.introN [] func27 rfl (by decide) az (by kernel_rfl) [QP 2 45] 13 rfl rfl ?_;simp only[vqM,kW,pE,zA,zS,vsH];refine aa (H0 h hok H hn hm hl30 _) ?_;rw[Iu];generalize playC h=r;simp only[vqM,bE,pE,zA,bX];refine QR ?_ (aK (Cd.bd _));simp only[vqM,pE,bX]
theorem BL(h:Hi){n m:Nat}(hok:PgOk h.first)(H:programS h.first=0→HiN n m h)(hn:n≤12)(hm:m+cntD h.es≤12)(hl30:h.es.length≤30)(s:St):ay Qz 27 [.agg h.cells] s (.agg (playC h).cells) s:=
 oN h hok H hn (.inl hm) hl30 s
theorem sk(h:Hi){n m:Nat}(hok:PgOk h.first)(H:programS h.first=0→HiN n m h)(hn:n≤12)(hm:m+h.es.length≤12)(s:St):ay Qz 27 [.agg h.cells] s (.agg (playC h).cells) s:=
 BL h hok H hn (by have:=I2 h.es;omega) (by omega) s
def spS:Sm:=.mk 1 24 0 0 0 (.mk 1 0 5 []) (.mk 0 0 0 []) (.mk 0 [] []) [] [] [] []
def spD:Df:=⟨7,2,⟨#[97]⟩,0,0,[],[],1,0,[],9,[spS]⟩
def spP:Pg:=⟨⟨[],[],[],[],0,1,1⟩,[⟨7,0,0,[],[]⟩],[spD],[]⟩
theorem vn(n:Int)(s:St):ay Qz 64 [.int .i64 n] s (.agg (num n).cells) s:=by
 obtain⟨B,L,c⟩:=s;refine ay.introN [] func64 rfl (by decide) az (by kernel_rfl) [QP 2 124] 5 rfl rfl ?_;simp only[vqM,zA,zS,zL,bK];refine QR ?_ (aK (Ex.bd _));simp only[vqM,zA,bK];rfl
theorem BK(s:St):ay Qz 56 [] s (.agg spP.cells) s:=by
 obtain⟨B,L,c⟩:=s;refine ay.introN [] func56 rfl (by decide) az (by kernel_rfl) [QP 0 38] 12 rfl rfl ?_;simp only[vqM,bE,zS];refine aa (vn 5 _) ?_;simp only[vqM,fP,fO,cO,bE,dN,eB,bg,bY,zA,zM,zL];refine QR ?_ (aK (Pg.bd _));simp only[vqM,bE,zA];rfl
theorem iu(n:Int)(s:St):ay Qz 29 [.int .i64 n] s (.agg (cG n).cells) s:=by
 obtain⟨B,L,c⟩:=s;refine ay.introN [] func29 rfl (by decide) az (by kernel_rfl) [QP 2 49] 5 rfl rfl ?_;simp only[vqM,zA,zS,zL,dr];refine QR ?_ (aK (Ed.bd _));simp only[vqM,zA,dr];rfl
theorem nD(l:List Ed):∀x∈aL l,x.length=7:=by
 intro x hx;obtain⟨e,_,rfl⟩:=MB.1 hx;rfl
theorem Hi.bd{nb nl:Nat}(h:Hi):∀d∈h.cells,Bd nb nl d:=by
 intro d hd;rcases Mz.1 hd with h|h
 ·exact Pg.bd _ d h
 ·simp only[MI]at h;subst h;exact aT λx hx d hd=>by obtain⟨e,_,rfl⟩:=MB.1 hx;exact Ed.bd e d hd
theorem nP(h:Hi)(l:List Ed)(hn:h.es.length+l.length≤1000)(s:St):ay Qz 28 [.agg h.cells,.slice .none (aL l)] s (.agg (Hi.mk h.first (h.es++l)).cells) s:=by
 obtain⟨B,L,c⟩:=s;have h1:(h.es.length≤1000000)=True:=eq_true (by omega);have h2:(h.es.length+l.length≤1000000)=True:=eq_true (by omega);have he:∀m:List Ed,(∀z,z∈aL m→z.length=7)=True:=λm=>eq_true (nD m);refine ay.introN [] func28 rfl (by decide) az (by kernel_rfl) [QP 4 41] 13 rfl rfl ?_;simp only[vqM,ig,kW,dr,zA,zS,zM,zL,vsH,av,h1,h2,he,MR,List.erase_cons_head,cr];have hc:h.first.cells++[D.slice Own.none (aL h.es++aL l)]=(Hi.mk h.first (h.es++l)).cells:=by simp[Hi.cells,aL]
 rw[hc];refine am (.inr rfl) ?_ (aK (Hi.bd _)) (λ_ h=>List.mem_cons_of_mem _ h) (by omega);simp only[vqM,kW,vsH];rfl
def nmF:ByteArray:=⟨#[102]⟩
def vA:ByteArray:=⟨#[49,102]⟩
def exN:Ed:=du 7 nmF
def exE:List Ed:=[exN,cG 0,cG 1]
theorem sp0:programS spP=0:=by decide +kernel
theorem Gt:jv spP:=rfl
theorem spGd:Gd spP:=Gd.of sp0
theorem Jy:spD∈spP.defs:=by simp[spP]
theorem spN:PgN 0 1 spP:=⟨sp0,λd hd=>by
 simp only[spP,MI]at hd;subst hd;refine⟨by decide,by decide,by decide,?_⟩;intro q hq;have:flatL 1 spD.body=[⟨spS,1⟩]:=rfl
 rw[this]at hq;simp only[MI]at hq;subst hq;exact⟨by decide,by decide,by decide,by decide⟩,by decide⟩
theorem jV(n:Nat)(id:Int){nm:ByteArray}(h:nm.size≤1000):EdN n (du id nm):=⟨by simp[du],h,by simp[du],by simp[du],by simp[du]⟩
theorem FP(n:Nat)(id x:Int):EdN n (qY id x):=⟨by simp[qY],show(0:Nat)≤1000 by omega,by simp[qY],by simp[qY],by simp[qY]⟩
theorem Bq(n:Nat)(a:Int):EdN n (cG a):=⟨by simp[cG],show(0:Nat)≤1000 by omega,by simp[cG],by simp[cG],by simp[cG]⟩
def spF:Df:={spD with name:=nmF}
theorem exA:applyS spP exN=Qv (upd spP spF):=by
 have:=sb spGd Gt Jy nmF
 rw[if_pos (by decide +kernel)]at this;exact this
theorem exB:applyS spP (du 8 nmF)=Qx:=by decide +kernel
theorem exC:applyS spP (du 7 vA)=Qx:=by
 have:=sb spGd Gt Jy vA
 rw[if_neg (by decide +kernel)]at this;exact this
theorem LG:playS ⟨spP,[]⟩=Qv spP:=rfl
theorem exP1:playS ⟨spP,[exN]⟩=Qv (upd spP spF):=by
 have h:=iy spP [] exN;rw[LG,Ni]at h;have h1:(freshB spP [] spP exN&&jk [] exN)=Qy:=by decide +kernel
 rw[if_pos h1,lr (by decide)]at h;have h2:dw spP []=Qv spP:=rfl;rw[h2,Ni,exA]at h;exact h
theorem exX:playS ⟨spP,exE⟩=Qv (upd spP spF):=yR (l:=[]) LG exP1
theorem exZ:playS ⟨spP,[exN,cG 0]⟩=Qv spP:=qQ (l:=[]) LG exP1
theorem exY:playS ⟨spP,exE++[cG 1]⟩=Qx:=by
 rw[iy,exX,Ni];have:jk exE (cG (1:Nat))=Qw:=Il (by decide +kernel)
 have h2:jk exE (cG 1)=Qw:=this;rw[h2,Mq];rfl
theorem exU:usedL ⟨spP,exE⟩=[1,2]:=by
 rw[usedL];have:setS (bT spP exE)=[1,2]:=by decide +kernel
 rw[this];exact(sw (List.Perm.refl _) (by decide)).symm
theorem LH{l:List Ed}(h:∀e∈l,e=exN∨∃a,e=cG a):HiN 0 1 ⟨spP,l⟩:=⟨spN,λe he=>by
 rcases h e he with rfl|⟨a,rfl⟩
 ·exact⟨jV _ _ (by decide),by decide⟩
 ·exact⟨Bq _ _,by simp[cG]⟩⟩
structure Bx3 (B pre C:List Box) (i j k:Nat) (x y z:List D):Prop where
 ex:∃X,C=B++(pre++X)
 a:C[i]?=Qv (.cells x)
 b:C[j]?=Qv (.cells y)
 c:C[k]?=Qv (.cells z)
theorem Bx3.mk'{B pre:List Box}{i j k:Nat}{x y z:List D}{C:List Box}(Y:List Box)(hC:C=B++(pre++Y))(h1:(pre++Y)[i]?=Qv (.cells x))(h2:(pre++Y)[j]?=Qv (.cells y))(h3:(pre++Y)[k]?=Qv (.cells z)):Bx3 B pre C (B.length+i) (B.length+j) (B.length+k) x y z:=by
 subst hC;exact⟨⟨Y,rfl⟩,by rw[bD];exact h1,by rw[bD];exact h2,by rw[bD];exact h3⟩
theorem Bx3.low{B pre C:List Box}{i j k:Nat}{x y z:List D}(h:Bx3 B pre C i j k x y z){m:Nat}{v:Box}(hm:pre[m]?=Qv v)(X:List Box):(C++X)[B.length+m]?=Qv v:=by
 obtain⟨Y,rfl⟩:=h.ex;rw[L4,bD,L4];exact bO hm
theorem Bx3.ga{B pre C:List Box}{i j k:Nat}{x y z:List D}(h:Bx3 B pre C i j k x y z)(X:List Box):(C++X)[i]?=Qv (.cells x):=bO h.a
theorem Bx3.gb{B pre C:List Box}{i j k:Nat}{x y z:List D}(h:Bx3 B pre C i j k x y z)(X:List Box):(C++X)[j]?=Qv (.cells y):=bO h.b
theorem Bx3.gc{B pre C:List Box}{i j k:Nat}{x y z:List D}(h:Bx3 B pre C i j k x y z)(X:List Box):(C++X)[k]?=Qv (.cells z):=bO h.c
def zF:List D:=[.int .i64 2,.int .i64 7,.int .i64 0,.str ⟨#[102]⟩,.slice .nil [],.slice .nil [],.slice .nil []]
theorem G8{X:PC}(h:@pI X):@pI X:=h
def cA:Cd:=⟨upd spP spF,0⟩
def cN:Cd:=⟨Pg.zero,220⟩
def cS:Cd:=⟨spP,0⟩
theorem pX:playC ⟨spP,exE⟩=cA:=by rw[playC,if_pos sp0,exX];rfl
theorem pY:playC ⟨spP,exE++[cG 1]⟩=cN:=by rw[playC,if_pos sp0,exY];rfl
theorem pZ:playC ⟨spP,[exN,cG 0]⟩=cS:=by rw[playC,if_pos sp0,exZ];rfl
theorem mt:ax cA.p.defs=[spF.cells]:=rfl
theorem cA_w:(wPg cA.p).length≤1000000:=by decide +kernel
theorem cS_w:(wPg cS.p).length≤1000000:=by decide +kernel
theorem vT:(∀x:Cd,(x.cells.drop 8)[0]?=Qv (.slice .none (ax x.p.defs)))∧(cA.e=0)∧(cN.e=220)∧(cS.e=0):=⟨λ_=>rfl,rfl,rfl,rfl⟩
theorem uL(s:St):ay Qz 14 [] s (.bool Qy) s:=by
 obtain⟨B,L,c⟩:=s;have hA:=ApH.of spN (jV 0 7 (nm:=nmF) (by decide)) (by omega) (show 1+(if (2:Int)=1 then 0 else 0)≤12 by decide);have hB:=ApH.of spN (jV 0 8 (nm:=nmF) (by decide)) (by omega) (show 1+(if (2:Int)=1 then 0 else 0)≤12 by decide);have hC:=ApH.of spN (jV 0 7 (nm:=vA) (by decide)) (by omega) (show 1+(if (2:Int)=1 then 0 else 0)≤12 by decide);refine ay.introN [(2,.cut),(3,.stop),(4,.cutT [Qw,Qw,Qw,Qw,Qw,Qw,Qw,Qy,Qy] [(0,1),(2,1),(3,1),(4,1),(6,1)]),(5,.stop)] func14 rfl (by decide) az (by kernel_rfl) [QO 0] 102 rfl rfl ?_;simp only[vqM,zS,zB];refine aa (BK _) ?_;simp only[vqM,dA,zA,zB];refine nJ ?_;simp only[vqM,dA,zA,zL];refine iL ?_;refine ye λ_=>?_;refine sQ (λe s=>∃C i j k,keep [0,1,2,3,4,5] e=[.bool Qw,.box B.length 0,.box (B.length+1) 0,.box i 0,.box j 0,.box k 0,J,J,J,J,J,J,J,J,J,J,J,J,J,J,J,J,J,J,J,J,J,J,J,J,J,J,J,J,J,J,J,J,J,J,J,J,J,J,J,J,J,J,J,J,J,J,J,J,J,J,J,J,J,J,J,J,J,J,J,J,J,J,J,J,J,J,J,J,J,J,J,J,J,J,J,J,J,J,J,J,J,J,J,J,J,J,J,J,J,J,J,J,J,J,J,J]∧s=⟨C,L,c⟩∧Bx3 B [.cells spP.cells,.cells zF] C i j k (apC (applyS spP exN)).cells (apC (applyS spP (du 8 nmF))).cells (apC (applyS spP (du 7 vA))).cells) ?_ ?_
 ·skip
  refine jK az [9,10,11,12,13,14] [⟨[0,1,2,3,4,5,6,7,8,9,10,11,12,13,14],[(0,1),(0,2),(0,3),(1,1),(1,2),(1,3),(2,1),(2,2),(2,3),(3,1),(3,2),(3,3),(5,1),(5,2),(5,3),(6,1),(6,2),(6,3),(8,1),(8,2),(8,3)]⟩,⟨[0,1,2,3,4,5,6,7,8,9,11,10,12,13,14],[(0,1),(0,2),(0,3),(1,1),(1,2),(1,3),(2,1),(2,2),(2,3),(3,1),(3,2),(3,3),(5,1),(5,2),(5,3),(6,1),(6,2),(6,3),(8,1),(8,2),(8,3)]⟩,⟨[0,1,2,3,4,5,6,7,8,10,9,11,12,13,14],[(0,1),(0,2),(0,3),(1,1),(1,2),(1,3),(2,1),(2,2),(2,3),(3,1),(3,2),(3,3),(5,1),(5,2),(5,3),(6,1),(6,2),(6,3),(8,1),(8,2),(8,3)]⟩,⟨[0,1,2,3,4,5,6,7,8,10,11,9,12,13,14],[(0,1),(0,2),(0,3),(1,1),(1,2),(1,3),(2,1),(2,2),(2,3),(3,1),(3,2),(3,3),(5,1),(5,2),(5,3),(6,1),(6,2),(6,3),(8,1),(8,2),(8,3)]⟩,⟨[0,1,2,3,4,5,6,7,8,11,9,10,12,13,14],[(0,1),(0,2),(0,3),(1,1),(1,2),(1,3),(2,1),(2,2),(2,3),(3,1),(3,2),(3,3),(5,1),(5,2),(5,3),(6,1),(6,2),(6,3),(8,1),(8,2),(8,3)]⟩,⟨[0,1,2,3,4,5,6,7,8,11,10,9,12,13,14],[(0,1),(0,2),(0,3),(1,1),(1,2),(1,3),(2,1),(2,2),(2,3),(3,1),(3,2),(3,3),(5,1),(5,2),(5,3),(6,1),(6,2),(6,3),(8,1),(8,2),(8,3)]⟩] (by kernel_rfl) λpl hpl=>?_;simp only[Mj,MX,or_false]at hpl;rcases hpl with rfl|rfl|rfl|rfl|rfl|rfl
  all_goals
   simp only[vqM,dA,zA,zB,M7,M3,M5,Np,Mm,Ms]
  all_goals
   repeat' (first
    |(with_reducible refine aA ?_ ?_)
    |(with_reducible refine And.intro ?_ ?_)
    |((with_reducible refine aI ?_);refine aa (oS spP exN hA _) ?_;simp only[vqM,dA,zA,zL,M7,M3])
    |((with_reducible refine aI ?_);refine aa (oS spP (du 8 nmF) hB _) ?_;simp only[vqM,dA,zA,zL,M7,M3])
    |((with_reducible refine aI ?_);refine aa (oS spP (du 7 vA) hC _) ?_;simp only[vqM,dA,zA,bX,M7,M3])
    |(with_reducible refine G8 ?_;simp only[vqM]))
  all_goals
   first
    |exact aE ⟨_,B.length+2,B.length+3,B.length+4,by simp only[vke,zB,zA],rfl,.mk' [Box.cells (apC (applyS spP exN)).cells,Box.cells (apC (applyS spP (du 8 nmF))).cells,Box.cells (apC (applyS spP (du 7 vA))).cells] rfl rfl rfl rfl⟩
    |exact aE ⟨_,B.length+2,B.length+4,B.length+3,by simp only[vke,zB,zA],rfl,.mk' [Box.cells (apC (applyS spP exN)).cells,Box.cells (apC (applyS spP (du 7 vA))).cells,Box.cells (apC (applyS spP (du 8 nmF))).cells] rfl rfl rfl rfl⟩
    |exact aE ⟨_,B.length+3,B.length+2,B.length+4,by simp only[vke,zB,zA],rfl,.mk' [Box.cells (apC (applyS spP (du 8 nmF))).cells,Box.cells (apC (applyS spP exN)).cells,Box.cells (apC (applyS spP (du 7 vA))).cells] rfl rfl rfl rfl⟩
    |exact aE ⟨_,B.length+3,B.length+4,B.length+2,by simp only[vke,zB,zA],rfl,.mk' [Box.cells (apC (applyS spP (du 7 vA))).cells,Box.cells (apC (applyS spP exN)).cells,Box.cells (apC (applyS spP (du 8 nmF))).cells] rfl rfl rfl rfl⟩
    |exact aE ⟨_,B.length+4,B.length+2,B.length+3,by simp only[vke,zB,zA],rfl,.mk' [Box.cells (apC (applyS spP (du 8 nmF))).cells,Box.cells (apC (applyS spP (du 7 vA))).cells,Box.cells (apC (applyS spP exN)).cells] rfl rfl rfl rfl⟩
    |exact aE ⟨_,B.length+4,B.length+3,B.length+2,by simp only[vke,zB,zA],rfl,.mk' [Box.cells (apC (applyS spP (du 7 vA))).cells,Box.cells (apC (applyS spP (du 8 nmF))).cells,Box.cells (apC (applyS spP exN)).cells] rfl rfl rfl rfl⟩
 rintro e s ⟨C,i,j,k,he,rfl,hC⟩;simp only[vqM];refine ae [0,1,2,3,4,5] ?_;rw[he];have q1:∀X,(C++X)[B.length]?=Qv (.cells spP.cells):=λX=>hC.low (m:=0) rfl X;have q2:∀X,(C++X)[B.length+1]?=Qv (.cells zF):=λX=>hC.low (m:=1) rfl X;have q3:=hC.ga;have q4:=hC.gb;have q5:=hC.gc;rw[exA,exB,exC]at hC;rw[exA]at q3;rw[exB]at q4;rw[exC]at q5;have r1:C[B.length]?=Qv (.cells spP.cells):=by simpa using q1 []
 have r2:C[B.length+1]?=Qv (.cells zF):=by simpa using q2 []
 refine ev az ?_;simp only[vqM,zB];refine nJ ?_;simp only[vqM,dA,zA,zB,vsH,r1,r2,zF];refine aa (iu 0 _) ?_;simp only[vqM];refine aa (iu 1 _) ?_;simp only[vqM,dA,zA,zM,zL,vsE];refine aa (nP ⟨spP,[]⟩ exE (by decide) _) ?_;simp only[vqM,dA,zA,vsH,q1,q2,zF];refine aA ⟨aa (iu 0 _) ?_,aa (iu 1 _) ?_,aa (nP ⟨spP,[]⟩ exE (by decide) _) ?_⟩ ?_
 ·simp only[vqM]
 ·simp only[vqM]
 ·simp only[vqM]
 simp only[vqM];have q6:∀X,(C++Box.cells (Hi.mk spP exE).cells::X)[C.length]?=Qv (.cells (Hi.mk spP exE).cells):=λX=>bF;have hsl:∀(e e' sz by_:Nat)(a:Bool),slS (Qv (.slice e)) (Qv (e',sz,by_,a)) .none (aL exE) Qx (Qv (.int .i64 2))=Qv (.slice .none (aL [exN,cG 0])):=λe e' sz by_ a=>nI (e:=e) (e':=e') (sz:=sz) (by_:=by_) (a:=a) (l:=exE) (k:=2) (by decide);have hX:HiN 0 1 ⟨spP,exE⟩:=LH (by intro e he;simp only[exE,Mj,MX,or_false]at he;rcases he with rfl|rfl|rfl;exact .inl rfl;exact .inr ⟨_,rfl⟩;exact .inr ⟨_,rfl⟩);have hY:HiN 0 1 ⟨spP,exE++[cG 1]⟩:=LH (by intro e he;simp only[exE,Mw,MA,Mj,MX,or_false]at he;rcases he with rfl|rfl|rfl|rfl;exact .inl rfl;exact .inr ⟨_,rfl⟩;exact .inr ⟨_,rfl⟩;exact .inr ⟨_,rfl⟩);have hZ:HiN 0 1 ⟨spP,[exN,cG 0]⟩:=LH (by intro e he;simp only[Mj,MX,or_false]at he;rcases he with rfl|rfl;exact .inl rfl;exact .inr ⟨_,rfl⟩);have hok:PgOk spP:=spN.ok (by omega);refine iL ?_;refine ye λ_=>?_;refine sQ (λe s=>∃C2 i2 j2 k2,keep [0,1,3,4,5,6,7,8,9] e=[.bool Qw,.box B.length 0,J,.box i 0,.box j 0,.box k 0,.box C.length 0,.box i2 0,.box j2 0,.box k2 0,J,J,J,J,J,J,J,J,J,J,J,J,J,J,J,J,J,J,J,J,J,J,J,J,J,J,J,J,J,J,J,J,J,J,J,J,J,J,J,J,J,J,J,J,J,J,J,J,J,J,J,J,J,J,J,J,J,J,J,J,J,J,J,J,J,J,J,J,J,J,J,J,J,J,J,J,J,J,J,J,J,J,J,J,J,J,J,J,J,J,J,J]∧s=⟨C2,L,c⟩∧Bx3 C [.cells (Hi.mk spP exE).cells] C2 i2 j2 k2 (playC ⟨spP,exE⟩).cells (playC ⟨spP,exE++[cG 1]⟩).cells (playC ⟨spP,[exN,cG 0]⟩).cells) ?_ ?_
 ·skip
  refine jK az [13,14,15,16,17,18] [⟨[0,1,2,3,4,5,6,7,8,9,10,11,12,13,14,15,16,17,18],[(0,1),(0,2),(0,3),(1,1),(1,2),(1,3),(2,1),(2,2),(2,3),(3,1),(3,2),(3,3),(5,1),(5,2),(5,3),(6,1),(6,2),(6,3),(7,1),(7,2),(7,3),(9,1),(9,2),(9,3),(12,1),(12,2),(12,3)]⟩,⟨[0,1,2,3,4,5,6,7,8,9,10,11,12,13,15,14,16,17,18],[(0,1),(0,2),(0,3),(1,1),(1,2),(1,3),(2,1),(2,2),(2,3),(3,1),(3,2),(3,3),(5,1),(5,2),(5,3),(6,1),(6,2),(6,3),(7,1),(7,2),(7,3),(9,1),(9,2),(9,3),(12,1),(12,2),(12,3)]⟩,⟨[0,1,2,3,4,5,6,7,8,9,10,11,12,14,13,15,16,17,18],[(0,1),(0,2),(0,3),(1,1),(1,2),(1,3),(2,1),(2,2),(2,3),(3,1),(3,2),(3,3),(5,1),(5,2),(5,3),(6,1),(6,2),(6,3),(7,1),(7,2),(7,3),(9,1),(9,2),(9,3),(12,1),(12,2),(12,3)]⟩,⟨[0,1,2,3,4,5,6,7,8,9,10,11,12,14,15,13,16,17,18],[(0,1),(0,2),(0,3),(1,1),(1,2),(1,3),(2,1),(2,2),(2,3),(3,1),(3,2),(3,3),(5,1),(5,2),(5,3),(6,1),(6,2),(6,3),(7,1),(7,2),(7,3),(9,1),(9,2),(9,3),(12,1),(12,2),(12,3)]⟩,⟨[0,1,2,3,4,5,6,7,8,9,10,11,12,15,13,14,16,17,18],[(0,1),(0,2),(0,3),(1,1),(1,2),(1,3),(2,1),(2,2),(2,3),(3,1),(3,2),(3,3),(5,1),(5,2),(5,3),(6,1),(6,2),(6,3),(7,1),(7,2),(7,3),(9,1),(9,2),(9,3),(12,1),(12,2),(12,3)]⟩,⟨[0,1,2,3,4,5,6,7,8,9,10,11,12,15,14,13,16,17,18],[(0,1),(0,2),(0,3),(1,1),(1,2),(1,3),(2,1),(2,2),(2,3),(3,1),(3,2),(3,3),(5,1),(5,2),(5,3),(6,1),(6,2),(6,3),(7,1),(7,2),(7,3),(9,1),(9,2),(9,3),(12,1),(12,2),(12,3)]⟩] (by kernel_rfl) λpl hpl=>?_;simp only[Mj,MX,or_false]at hpl;rcases hpl with rfl|rfl|rfl|rfl|rfl|rfl
  all_goals
   simp only[vqM,dA,zB,q6,vsH,M7,M3,M5,Np,Mm,Ms]
  all_goals
   repeat' (first
    |(with_reducible refine aA ?_ ?_)
    |(with_reducible refine And.intro ?_ ?_)
    |((with_reducible refine aI ?_);refine aa (iu 1 _) ?_;simp only[vqM,dA,zA,zM,zL,vsE,M7,M3])
    |((with_reducible refine aI ?_);refine aa (nP ⟨spP,exE⟩ [cG 1] (by decide) _) ?_;simp only[vqM,M7,M3])
    |((with_reducible refine aI ?_);refine aa (sk ⟨spP,exE⟩ hok (λ_=>hX) (by omega) (by decide) _) ?_;simp only[vqM,dA,q6,vsH,M7,M3])
    |((with_reducible refine aI ?_);refine aa (sk ⟨spP,exE++[cG 1]⟩ hok (λ_=>hY) (by omega) (by decide) _) ?_;simp only[vqM,dA,zA,hsl,q1,q6,vsH,bX,M7,M3])
    |((with_reducible refine aI ?_);refine aa (sk ⟨spP,[exN,cG 0]⟩ hok (λ_=>hZ) (by omega) (by decide) _) ?_;simp only[vqM,dA,zA,q1,q6,vsH,bX,M7,M3])
    |(with_reducible refine G8 ?_;simp only[vqM]))
  all_goals
   first
    |exact aE ⟨_,C.length+1,C.length+2,C.length+3,by simp only[vke,zB,zA],rfl,.mk' [Box.cells (playC ⟨spP,exE⟩).cells,Box.cells (playC ⟨spP,exE++[cG 1]⟩).cells,Box.cells (playC ⟨spP,[exN,cG 0]⟩).cells] rfl rfl rfl rfl⟩
    |exact aE ⟨_,C.length+1,C.length+3,C.length+2,by simp only[vke,zB,zA],rfl,.mk' [Box.cells (playC ⟨spP,exE⟩).cells,Box.cells (playC ⟨spP,[exN,cG 0]⟩).cells,Box.cells (playC ⟨spP,exE++[cG 1]⟩).cells] rfl rfl rfl rfl⟩
    |exact aE ⟨_,C.length+2,C.length+1,C.length+3,by simp only[vke,zB,zA],rfl,.mk' [Box.cells (playC ⟨spP,exE++[cG 1]⟩).cells,Box.cells (playC ⟨spP,exE⟩).cells,Box.cells (playC ⟨spP,[exN,cG 0]⟩).cells] rfl rfl rfl rfl⟩
    |exact aE ⟨_,C.length+2,C.length+3,C.length+1,by simp only[vke,zB,zA],rfl,.mk' [Box.cells (playC ⟨spP,[exN,cG 0]⟩).cells,Box.cells (playC ⟨spP,exE⟩).cells,Box.cells (playC ⟨spP,exE++[cG 1]⟩).cells] rfl rfl rfl rfl⟩
    |exact aE ⟨_,C.length+3,C.length+1,C.length+2,by simp only[vke,zB,zA],rfl,.mk' [Box.cells (playC ⟨spP,exE++[cG 1]⟩).cells,Box.cells (playC ⟨spP,[exN,cG 0]⟩).cells,Box.cells (playC ⟨spP,exE⟩).cells] rfl rfl rfl rfl⟩
    |exact aE ⟨_,C.length+3,C.length+2,C.length+1,by simp only[vke,zB,zA],rfl,.mk' [Box.cells (playC ⟨spP,[exN,cG 0]⟩).cells,Box.cells (playC ⟨spP,exE++[cG 1]⟩).cells,Box.cells (playC ⟨spP,exE⟩).cells] rfl rfl rfl rfl⟩
 rintro e s ⟨C2,i2,j2,k2,he2,rfl,hC2⟩;simp only[vqM];refine ae [0,1,3,4,5,6,7,8,9] ?_;rw[he2];rw[pX,pY,pZ]at hC2;obtain⟨Y,hY2⟩:=hC2.ex;have w1:∀X,(C2++X)[B.length]?=Qv (.cells spP.cells):=λX=>by rw[hY2,L4];exact q1 _
 have w3:∀X,(C2++X)[i]?=Qv (.cells cA.cells):=λX=>by rw[hY2,L4];exact q3 _
 have w4:∀X,(C2++X)[j]?=Qv (.cells cN.cells):=λX=>by rw[hY2,L4];exact q4 _
 have w5:∀X,(C2++X)[k]?=Qv (.cells cN.cells):=λX=>by rw[hY2,L4];exact q5 _
 have w6:∀X,(C2++X)[C.length]?=Qv (.cells (Hi.mk spP exE).cells):=λX=>by rw[hY2,L4];exact bF
 have w7:=hC2.ga;have w8:=hC2.gb;have w9:=hC2.gc;have u1:=w1 [];have u3:=w3 [];have u4:=w4 [];have u5:=w5 [];have u6:=w6 [];have u7:=w7 [];have u8:=w8 [];have u9:=w9 [];rw[MK]at u1 u3 u4 u5 u6 u7 u8 u9;refine ev az ?_;have d22:decide ((220:Int)≠220)=Qw:=rfl;have dn1:decide ((1:Int)≠1)=Qw:=rfl;have dnm:zG .neq spF.name ⟨#[102]⟩=Qv (.bool Qw):=by simp[zG,spF,nmF]
 simp only[vqM,dA,zA,zB,bX,vT,mt,u3,lz,dn1,NH,Int.toNat_zero,Int.natCast_one];simp only[vqM,dA,zA,zB,bX,vT,u3,u4,u5,u7,u8,u9,lz,d22,dnm];refine aa (kl _ _ cA_w cA_w _) ?_;simp only[vqM,dA,zA,bX,u1,u9,decide_true];refine aa (kl cS.p spP cS_w cS_w _) ?_;have e1:decide (wPg cS.p=wPg spP)=Qy:=decide_eq_true rfl;rw[e1];simp only[vqM,dA,vsH,u6];refine aa (At ⟨spP,exE⟩ hX (by omega) (by decide) (by decide) _) ?_;rw[exU];simp only[vqM,dA,zA,zM,zL];refine aa (nz [1,2] [1,2] _) ?_;simp only[vqM,decide_true];rw[hY2];obtain⟨Y0,hY0⟩:=hC.ex;rw[hY0,L4];refine QR ?_ (.bool _);simp only[vqM]
theorem vd(l:List Df)(d:Df)(hn:l.length≤1000)(s:St):ay Qz 209 [.slice .none (ax l),.agg d.cells] s (.slice .none (ax (ua l d))) s:=by
 obtain⟨B,L,c⟩:=s;refine ay.introN [] func209 rfl (by decide) az (by kernel_rfl) [QO 4] 53 rfl rfl ?_;simp only[vqM,fE,zA,zS,zM];refine ae [0,3,5,6,7] ?_;simp only[vke,zB,zA];refine aC az l.length (λk e s=>∃q:List Df×Bool,q=yZ d (l.take k)∧e=[.slice .none (ax l),J,J,.box B.length 0,J,.slice (dj c 12 q.1.length) (ax q.1),.bool q.2,.int .i64 (k:Int),J,J,J,J,J,J,J,J,J,J,J,J,J,J,J,J,J,J,J,J,J,J,J,J,J,J,J,J,J,J,J,J,J,J,J,J,J,J,J,J,J,J,J,J,J]∧s=⟨B++[.cells d.cells],liveN L c q.1.length,c+q.1.length⟩) ?_ ?_ 0 _ _ (K9 _) ⟨([],Qw),rfl,rfl,rfl⟩
 ·rintro k e s hk ⟨q,hq,rfl,rfl⟩ ih;have hx:l[k]?=Qv l[k]:=C0 hk;have hg:(ax l)[k]?=Qv (l[k].cells):=by simp[ax,hx]
  have hklt:((k:Int)<(l.length:Int))=True:=by simp;exact hk
  have hnext:yZ d (l.take (k+1))=cY d q l[k]:=by
   rw[Mt,hx,MO,Cx,←hq]
  have hql:q.1.length≤2000:=by
   have:=xC d (q:=([],Qw)) (l.take k)
   have e1:(l.take k).foldl (cY d) ([],Qw)=q:=hq.symm;rw[e1]at this;simp only[K8,MN]at this;omega
  generalize l[k]=x at hx hg hnext;obtain⟨q1,q2⟩:=q;simp only at hql⊢;have hof:∀B'(m:List Df)(n:Nat),aV (dj c 12 n) (ax m) 12 ⟨B',liveN L c n,c+n⟩=Qy:=λB' m n=>cg (ft _);have hl1:(q1.length+1≤1000000)=True:=eq_true (by omega);have hl2:(q1.length+1+1≤1000000)=True:=eq_true (by omega);have hcon:∀n,(liveN L c (n+1)).contains (c+n)=Qy:=λn=>by simp[liveN]
  have hrel:=λB n=>show St.relab ⟨B,liveN L c (n+1),c+(n+1)⟩ (.lab (c+n) 12)=⟨B,liveN L c (n+1+1),c+(n+1+1)⟩ from aU (k:=n+1)
  have hea:∀m:List Df,(∀z,z∈ax m→z.length=12)=True:=λm=>eq_true (ft m);cases q2<;>cases h1:decide (x.id≥d.id)<;>cases h2:decide (x.id≠d.id);all_goals
   simp only[cY,h1,Mp,Ml,Mu,Mq,MJ,if_true,if_false]at hnext;first
    |rw[if_pos (of_decide_eq_true h2)]at hnext
    |rw[if_neg (of_decide_eq_false h2)]at hnext
   simp only[vqM,fE,zA,zM,zL,aj,hklt,decide_true,natle0,K3,hg,h1,h2,hof,aU,hl1,hl2,gC,K4,MR,hcon,hrel];rw[ap (by omega)];refine ae [0,3,5,6,7] ?_;simp only[vke,zB,zA];refine ih _ _ ⟨_,hnext.symm,?_,?_⟩<;>simp[dj]
 ·rintro e s ⟨q,hq,rfl,rfl⟩;have hklt:((l.length:Int)<(l.length:Int))=False:=by simp
  rw[Mv]at hq;have hql:q.1.length≤2000:=by
   have:=xC d (q:=([],Qw)) l
   have e1:l.foldl (cY d) ([],Qw)=q:=hq.symm;rw[e1]at this;simp only[K8]at this;omega
  have hput:ua l d=if q.2 then q.1 else q.1++[d]:=by rw[ua,←hq]
  obtain⟨q1,q2⟩:=q;simp only at hql hput⊢;have hof:∀B'(m:List Df)(n:Nat),aV (dj c 12 n) (ax m) 12 ⟨B',liveN L c n,c+n⟩=Qy:=λB' m n=>cg (ft _);have hl1:(q1.length+1≤1000000)=True:=eq_true (by omega);cases q2
  ·simp only[vqM,fE,zA,zM,zL,aj,hklt,decide_false,hof,aU,hl1,gC];refine am (.inr rfl) ?_ (gR _) (λ_ h=>bk h) (by omega);simp only[vqM];rw[hput,if_neg (by simp)]
  ·simp only[vqM,fE,aj,hklt,decide_false];refine am (.inr rfl) ?_ (gR _) (λ_ h=>bk h) (by omega);simp only[vqM];rw[hput,if_pos rfl]
theorem wi(l:List Df)(id:Int)(hn:l.length≤1000)(s:St):ay Qz 208 [.slice .none (ax l),.int .i64 id] s (.slice .none (ax (withoutL l id))) s:=by
 obtain⟨B,L,c⟩:=s;refine ay.introN [] func208 rfl (by decide) az (by kernel_rfl) [QO 4] 29 rfl rfl ?_;simp only[vqM,kd,zA,zS,zM];refine ae [0,1,5,6] ?_;simp only[vke,zB,zA];refine aC az l.length (λk e s=>∃out:List Df,out=withoutL (l.take k) id∧e=[.slice .none (ax l),.int .i64 id,J,J,J,.slice (dj c 12 out.length) (ax out),.int .i64 (k:Int),J,J,J,J,J,J,J,J,J,J,J,J,J,J,J,J,J,J,J,J,J,J]∧s=⟨B,liveN L c out.length,c+out.length⟩) ?_ ?_ 0 _ _ (K9 _) ⟨[],rfl,rfl,rfl⟩
 ·rintro k e s hk ⟨out,hout,rfl,rfl⟩ ih;have hx:l[k]?=Qv l[k]:=C0 hk;have hg:(ax l)[k]?=Qv (l[k].cells):=by simp[ax,hx]
  have hklt:((k:Int)<(l.length:Int))=True:=by simp;exact hk
  have hnext:withoutL (l.take (k+1)) id=if l[k].id≠id then out++[l[k]]else out:=by
   rw[Mt,hx,MO,withoutL,NX,hout];by_cases h:l[k].id=id<;>simp[h,withoutL]
  have hol:out.length≤k:=by rw[hout];exact Ol (Nc _ _) (by simp;omega)
  have hof:∀B',aV (dj c 12 out.length) (ax out) 12 ⟨B',liveN L c out.length,c+out.length⟩=Qy:=λB'=>cg (ft _);have hl1:(out.length+1≤1000000)=True:=eq_true (by omega);generalize l[k]=x at hx hg hnext;cases h2:decide (x.id≠id)
  ·rw[if_neg (of_decide_eq_false h2)]at hnext;simp only[vqM,kd,aj,hklt,decide_true,natle0,K3,hg,h2];rw[ap (by omega)];refine ae [0,1,5,6] ?_;simp only[vke,zB,zA];exact ih _ _ ⟨_,hnext.symm,rfl,rfl⟩
  ·rw[if_pos (of_decide_eq_true h2)]at hnext;simp only[vqM,kd,zA,zM,zL,aj,hklt,decide_true,natle0,K3,hg,h2,hof,aU,hl1,gC];rw[ap (by omega)];refine ae [0,1,5,6] ?_;simp only[vke,zB,zA];refine ih _ _ ⟨_,hnext.symm,?_,?_⟩<;>simp[dj]
 ·rintro e s ⟨out,hout,rfl,rfl⟩;have hklt:((l.length:Int)<(l.length:Int))=False:=by simp
  rw[Mv]at hout;simp only[vqM,kd,aj,hklt,decide_false];refine fH (.inr rfl) ?_ (gR _) (λ_ h=>bk h) (by omega);simp only[vqM];rw[hout]
theorem so(p:Pg)(id:Int)(hlen:p.defs.length<1000000)(s:St):ay Qz 210 [.agg p.cells,.int .i64 id] s (.bool (opnB p id)) s:=by
 obtain⟨B,L,c⟩:=s;refine ay.introN [] func210 rfl (by decide) az (by kernel_rfl) [QO 4] 11 rfl rfl ?_;simp only[vqM,bE,zA,zS];refine aa (jP p id hlen _) ?_;simp only[vqM,tf4,wX,zA,foundD];refine QR ?_ (.bool _);simp only[vqM];rfl
theorem wp(l:List Sm):(smsL l).map Sm.site=sitesL (flatL 1 l):=by
 rw[←eL l 1,sitesL,List.map_map];rfl
theorem B6(d:Df)(hN:cq d.body<999999)(s:St):ay Qz 77 [.agg d.cells] s (.slice .none (ah (sitesS d))) s:=by
 obtain⟨B,L,c⟩:=s;have hll:=dg d.body;have hss:sitesS d=(smsL d.body).map Sm.site++[d.site]:=by rw[wp,sitesS]
 have hof:∀(n:Nat)(xs:List Int)(B:List Box),aV (dj c 1 n) (ah xs) 1 ⟨B,liveN L c n,c+n⟩=Qy:=λn xs B=>cg (aW _);refine ay.introN [] func77 rfl (by decide) az (by kernel_rfl) [QO 2] 29 rfl rfl ?_;simp only[vqM,nv,zA,zS];refine aa (sY d.body _ (by omega)) ?_;simp only[vqM,nv,zA,zM];refine ae [1,3,4,5] ?_;simp only[vke,zB,zA];refine aC az (smsL d.body).length (λk e s=>e=[J,.box B.length 0,J,.slice .none (Sm.encs (smsL d.body)),.slice (dj c 1 k) (ah (((smsL d.body).take k).map Sm.site)),.int .i64 (k:Int),J,J,J,J,J,J,J,J,J,J,J,J,J,J,J,J,J,J,J,J,J,J,J]∧s=⟨B++[.cells d.cells],liveN L c k,c+k⟩) ?_ ?_ 0 _ _ (K9 _) ⟨rfl,rfl⟩
 ·rintro k e s hk ⟨rfl,rfl⟩ ih;have hx:(smsL d.body)[k]?=Qv (smsL d.body)[k]:=C0 hk;have hg:(Sm.encs (smsL d.body))[k]?=Qv (smsL d.body)[k].cells:=by simp[Sm.encs_map,hx]
  have hklt:((k:Int)<((smsL d.body).length:Int))=True:=by simp;exact hk
  have hnext:((smsL d.body).take (k+1)).map Sm.site=((smsL d.body).take k).map Sm.site++[(smsL d.body)[k].site]:=by rw[Mt,hx,Ns];rfl
  have hl1:((((smsL d.body).take k).map Sm.site).length+1≤1000000)=True:=eq_true (by simp;omega);generalize(smsL d.body)[k]=y at hx hg hnext;simp only[vqM,nv,zA,zM,zL,au,hklt,decide_true,natle0,K3,hg,hof,aU,ab,hl1,bt];rw[ap (by omega)];refine ae [1,3,4,5] ?_;simp only[vke,zB,zA];exact ih _ _ ⟨by rw[hnext];rfl,rfl⟩
 ·rintro e s ⟨rfl,rfl⟩;have hklt:(((smsL d.body).length:Int)<((smsL d.body).length:Int))=False:=by simp
  rw[Mv];have hl1:(((smsL d.body).map Sm.site).length+1≤1000000)=True:=eq_true (by simp;omega);simp only[vqM,nv,zA,zM,zL,au,hklt,decide_false,hof,aU,ab,hl1,bt];refine am (.inr rfl) ?_ (ce _) (λ_ h=>bk h) (by omega);simp only[vqM];rw[hss]
theorem lg{n:Nat}:∀{l:List Df},(∀d∈l,cq d.body≤n)→(sitesD l).length≤(n+1)*l.length
 | [],_=>by simp[sitesD]
 |d::l,h=>by
  have h1:=lg (n:=n) (l:=l) λx hx=>h x (by simp[hx]);have h2:=h d (by simp);have h3:(sitesS d).length=cq d.body+1:=by simp[sitesS,sitesL,bH]
  have h4:sitesD (d::l)=sitesS d++sitesD l:=by simp[sitesD]
  rw[h4,K4,K7,Nat.mul_add,N7];omega
theorem gg(l:List Df)(hn:l.length≤100)(hc:∀d∈l,cq d.body≤1000)(s:St):ay Qz 33 [.slice .none (ax l)] s (.slice .none (ah (sitesD l))) s:=by
 obtain⟨B,L,c⟩:=s;refine ay.introN [] func33 rfl (by decide) az (by kernel_rfl) [QO 2] 20 rfl rfl ?_;simp only[vqM,yo,zA,zS,zM];refine ae [0,3,4] ?_;simp only[vke,zB,zA];refine aC az l.length (λk e s=>e=[.slice .none (ax l),J,J,.slice (dj c 1 k) (ah (sitesD (l.take k))),.int .i64 (k:Int),J,J,J,J,J,J,J,J,J,J,J,J,J,J,J]∧s=⟨B,liveN L c k,c+k⟩) ?_ ?_ 0 _ _ (K9 _) ⟨rfl,rfl⟩
 ·rintro k e s hk ⟨rfl,rfl⟩ ih;have hx:l[k]?=Qv l[k]:=C0 hk;have hg:(ax l)[k]?=Qv (l[k].cells):=by simp[ax,hx]
  have hklt:((k:Int)<(l.length:Int))=True:=by simp;exact hk
  have hnext:sitesD (l.take (k+1))=sitesD (l.take k)++sitesS l[k]:=by
   rw[Mt,hx,MO,sitesD,sitesD,N0];simp
  have hcn:=hc _ (Mf hk);have h3:(sitesS l[k]).length=cq l[k].body+1:=by simp[sitesS,sitesL,bH]
  have h4:=lg (n:=1000) (l:=l.take k) λx hx=>hc x (Nu hx);rw[MN]at h4;generalize l[k]=x at hx hg hnext hcn h3;have hof:∀n,aV (dj c 1 n) (ah (sitesD (l.take k))) 1 ⟨B,liveN L c n,c+n⟩=Qy:=λn=>cg (aW _);have hl1:((sitesD (l.take k)).length+(sitesS x).length≤1000000)=True:=eq_true (by omega);have hea:∀m:List Int,(∀z,z∈ah m→z.length=1)=True:=λm=>eq_true (aW m);simp only[vqM,yo,aj,hklt,decide_true,natle0,K3,hg];refine aa (B6 x (by omega) _) ?_;simp only[vqM,yo,zA,zL,hof,aU,ab,hl1,aw,hea];rw[ap (by omega)];refine ae [0,3,4] ?_;simp only[vke,zB,zA];exact ih _ _ ⟨by rw[hnext];rfl,rfl⟩
 ·rintro e s ⟨rfl,rfl⟩;have hklt:((l.length:Int)<(l.length:Int))=False:=by simp
  rw[Mv];simp only[vqM,yo,aj,hklt,decide_false];refine fH (.inr rfl) ?_ (ce _) (λ_ h=>bk h) (by omega);simp only[vqM]
theorem f8{l:List Hd}{i:Nat}{x:Hd}(h:l[i]?=Qv x):(aN l)[i]?=Qv x.cells:=by simp[aN,h]
theorem BT(p:Pg)(l:List Df)(R:Gd p)(N:NewOk p l)(hll:l.length≤1000)(s:St):ay Qz 153 [.agg p.cells,.slice .none (ax l)] s (.slice .none (aN (headsN p l))) s:=by
 obtain⟨B,L,c⟩:=s;have hpl:=R.hl;have hdl:=R.dl;refine ay.introN [] func153 rfl (by decide) az (by kernel_rfl) [QO 4] 110 rfl rfl ?_;simp only[vqM,fL,zA,zS,zM];refine ae [1,2,5,6] ?_;simp only[vke,zB,zA];refine aC az p.heads.length (λk e s=>∃out:List Hd,out=(p.heads.take k).filter (λh=>!opnB p h.id)∧e=[J,.slice .none (ax l),.box B.length 0,J,J,.slice (dj c 5 out.length) (aN out),.int .i64 (k:Int),J,J,J,J,J,J,J,J,J,J,J,J,J,J,J,J,J,J,J,J,J,J,J,J,J,J,J,J,J,J,J,J,J,J,J,J,J,J,J,J,J,J,J,J,J,J,J,J,J,J,J,J,J,J,J,J,J,J,J,J,J,J,J,J,J,J,J,J,J,J,J,J,J,J,J,J,J,J,J,J,J,J,J,J,J,J,J,J,J,J,J,J,J,J,J,J,J,J,J,J,J,J,J]∧s=⟨B++[.cells p.cells],liveN L c out.length,c+out.length⟩) ?_ ?_ 0 _ _ (K9 _) ⟨[],rfl,rfl,rfl⟩
 ·rintro k e s hk ⟨out,hout,rfl,rfl⟩ ih;have hx:p.heads[k]?=Qv p.heads[k]:=C0 hk;have hg:(aN p.heads)[k]?=Qv (p.heads[k].cells):=by simp[aN,hx]
  have hklt:((k:Int)<(p.heads.length:Int))=True:=by simp;exact hk
  have hnext:(p.heads.take (k+1)).filter (λh=>!opnB p h.id)=if opnB p p.heads[k].id then out else out++[p.heads[k]]:=by
   rw[Mt,hx,MO,NX,←hout];cases h:opnB p p.heads[k].id<;>simp[h]
  have hol:out.length≤k:=by rw[hout];exact Ol (Nc _ _) (by simp;omega)
  have hof:∀B',aV (dj c 5 out.length) (aN out) 5 ⟨B',liveN L c out.length,c+out.length⟩=Qy:=λB'=>cg (gZ _);have hl1:(out.length+1≤1000000)=True:=eq_true (by omega);generalize p.heads[k]=x at hx hg hnext;simp only[vqM,fL,zA,aB,hklt,decide_true,natle0,K3,hg];refine aa (so p x.id (by omega) _) ?_;simp only[vqM];cases ho:opnB p x.id with
  |true =>
   rw[ho,if_pos rfl]at hnext;simp only[vqM];rw[ap (by omega)];refine ae [1,2,5,6] ?_;simp only[vke,zB,zA];exact ih _ _ ⟨_,hnext.symm,rfl,rfl⟩
  |false =>
   rw[ho]at hnext;simp only[vqM,fL,zA,zM,zL,aB,natle0,K3,hg,hof,aU,hl1,je];rw[ap (by omega)];refine ae [1,2,5,6] ?_;simp only[vke,zB,zA];refine ih _ _ ⟨_,hnext.symm,?_,?_⟩<;>simp[dj]
 ·rintro e s ⟨out,hout,rfl,rfl⟩;have hklt:((p.heads.length:Int)<(p.heads.length:Int))=False:=by simp
  rw[Mv]at hout;have hol:out.length≤40:=by rw[hout];exact Ol (Nc _ _) hpl
  simp only[vqM,fL,zA,aB,hklt,decide_false];refine ae [1,5,7] ?_;simp only[vke,zB,zA];refine aC az l.length (λk e s=>∃m:List Hd,m=out++(l.take k).map headOf∧e=[J,.slice .none (ax l),J,J,J,.slice (dj c 5 m.length) (aN m),J,.int .i64 (k:Int),J,J,J,J,J,J,J,J,J,J,J,J,J,J,J,J,J,J,J,J,J,J,J,J,J,J,J,J,J,J,J,J,J,J,J,J,J,J,J,J,J,J,J,J,J,J,J,J,J,J,J,J,J,J,J,J,J,J,J,J,J,J,J,J,J,J,J,J,J,J,J,J,J,J,J,J,J,J,J,J,J,J,J,J,J,J,J,J,J,J,J,J,J,J,J,J,J,J,J,J,J,J]∧∃X,s=⟨B++.cells p.cells::X,liveN L c m.length,c+m.length⟩) ?_ ?_ 0 _ _ (K9 _) ⟨out,by simp,rfl,[],rfl⟩
  ·rintro k e s hk ⟨m,hm,rfl,X,rfl⟩ ih;have hx:l[k]?=Qv l[k]:=C0 hk;have hg:(ax l)[k]?=Qv (l[k].cells):=by simp[ax,hx]
   have hklt:((k:Int)<(l.length:Int))=True:=by simp;exact hk
   have hnext:out++(l.take (k+1)).map headOf=m++[headOf l[k]]:=by
    rw[Mt,hx,MO,Ns,hm,L4];rfl
   have hml:m.length≤40+k:=by rw[hm];simp;omega
   have hof:∀B',aV (dj c 5 m.length) (aN m) 5 ⟨B',liveN L c m.length,c+m.length⟩=Qy:=λB'=>cg (gZ _);have hl1:(m.length+1≤1000000)=True:=eq_true (by omega);generalize l[k]=x at hx hg hnext;simp only[vqM,fL,aj,hklt,decide_true,natle0,K3,hg];refine aa (vo x _) ?_;simp only[vqM,fL,zA,zM,zL,aB,hof,aU,hl1,je];rw[ap (by omega)];refine ae [1,5,7] ?_;simp only[vke,zB,zA];refine ih _ _ ⟨_,hnext.symm,?_,X,?_⟩<;>simp[dj]
  ·rintro e s ⟨m,hm,rfl,X,rfl⟩;have hklt:((l.length:Int)<(l.length:Int))=False:=by simp
   rw[Mv]at hm;have hma:m=jL p l:=by rw[hm,hout,jL]
   have hml:m.length≤1040:=by rw[hm];simp;omega
   have hsp:(headsN p l).Perm m:=by rw[hma];exact eZ p l
   have hss:=N.heads_pw R;have hsl:=hsp.length_eq;generalize headsN p l=hs at hsp hss hsl;clear hm hma hout;simp only[vqM,fL,zA,zM,aj,hklt,decide_false];refine ae [5,8] ?_;simp only[vke,zB,zA];refine aC az m.length (λk e s=>e=[J,J,J,J,J,.slice (dj c 5 m.length) (aN m),J,J,.slice (dj (c+m.length) 5 k) (aN (hs.take k)),J,J,J,J,J,J,J,J,J,J,J,J,J,J,J,J,J,J,J,J,J,J,J,J,J,J,J,J,J,J,J,J,J,J,J,J,J,J,J,J,J,J,J,J,J,J,J,J,J,J,J,J,J,J,J,J,J,J,J,J,J,J,J,J,J,J,J,J,J,J,J,J,J,J,J,J,J,J,J,J,J,J,J,J,J,J,J,J,J,J,J,J,J,J,J,J,J,J,J,J,J]∧s=⟨B++.cells p.cells::X,liveN (liveN L c m.length) (c+m.length) k,c+m.length+k⟩) ?_ ?_ 0 _ _ (K9 _) ⟨rfl,rfl⟩
   ·rintro k e s hk ⟨rfl,rfl⟩ ih;have hkl:(hs.take k).length=k:=by rw[MN];omega
    have hklt:((k:Int)<(m.length:Int))=True:=by simp;exact hk
    obtain⟨i0,hi0,hm0⟩:=ww hsp hss (show k<hs.length by omega);have hnext:hs.take (k+1)=hs.take k++[hs[k]'(by omega)]:=by rw[Mt,C0 (by omega)];rfl
    simp only[vqM,fL,aB,hkl,hklt,decide_true];refine ae [5,8,9,10] ?_;simp only[vke,zB,zA];refine aC az m.length (λj e s=>e=[J,J,J,J,J,.slice (dj c 5 m.length) (aN m),J,J,.slice (dj (c+m.length) 5 k) (aN (hs.take k)),.int .i64 (qV (pickH m hs k j)),.int .i64 (j:Int),J,J,J,J,J,J,J,J,J,J,J,J,J,J,J,J,J,J,J,J,J,J,J,J,J,J,J,J,J,J,J,J,J,J,J,J,J,J,J,J,J,J,J,J,J,J,J,J,J,J,J,J,J,J,J,J,J,J,J,J,J,J,J,J,J,J,J,J,J,J,J,J,J,J,J,J,J,J,J,J,J,J,J,J,J,J,J,J,J,J,J,J,J,J,J,J,J,J,J]∧s=⟨B++.cells p.cells::X,liveN (liveN L c m.length) (c+m.length) k,c+m.length+k⟩) ?_ ?_ 0 _ _ (K9 _) ⟨rfl,rfl⟩
    ·rintro j e s hj ⟨rfl,rfl⟩ ihj;have hx:m[j]?=Qv m[j]:=C0 hj;have hgx:=f8 hx;have hjlt:((j:Int)<(m.length:Int))=True:=by simp;exact hj
     have hm1:((-1:Int)<0)=True:=eq_true (by omega);have hpk:=(vv m hs k j (by omega)).yes;have hny:pickH m hs k (j+1)=if (laterH hs k m[j]&&(match pickH m hs k j with
      |none=>Qy
      |some i=>match m[i]? with
       |some y=>decide (m[j].id<y.id)
       |none=>Qw))=Qy then Qv j else pickH m hs k j:=by simp only[pickH,hx];rfl
     generalize hpp:pickH m hs k j=pk at hpk hny;generalize m[j]=x at hx hgx hny;cases k with
     |zero =>
      have hla:laterH hs 0 x=Qy:=rfl;rw[hla]at hny;cases pk with
      |none =>
       simp only[Mu,if_true]at hny;simp only[vqM,fL,aB,hjlt,decide_true,qV,hm1];rw[ap (by omega)];refine ae [5,8,9,10] ?_;simp only[vke,zB,zA];exact ihj _ _ ⟨by rw[hny];rfl,rfl⟩
      |some i =>
       obtain⟨hij,hil,-⟩:=hpk i rfl;have hy:m[i]?=Qv m[i]:=C0 hil;have hgy:=f8 hy;have hnn:((i:Int)<0)=False:=by simp
       simp only[K6,hy]at hny;have hilt:((i:Int)<(m.length:Int))=True:=by simp;exact hil
       generalize m[i]=y at hy hgy hny;cases hc:decide (x.id<y.id)
       ·rw[hc,if_neg (by simp)]at hny;simp only[vqM,fL,aB,hjlt,decide_true,decide_false,natle0,K3,hgx,hgy,qV,hnn,hc];rw[ap (by omega)];refine ae [5,8,9,10] ?_;simp only[vke,zB,zA];exact ihj _ _ ⟨by rw[hny];rfl,rfl⟩
       ·rw[hc,if_pos rfl]at hny;simp only[vqM,fL,aB,hjlt,decide_true,decide_false,natle0,K3,hgx,hgy,qV,hnn,hc];rw[ap (by omega)];refine ae [5,8,9,10] ?_;simp only[vke,zB,zA];exact ihj _ _ ⟨by rw[hny];rfl,rfl⟩
     |succ k =>
      have hz:hs[k]?=Qv (hs[k]'(by omega)):=C0 (by omega);have hgz:(aN (hs.take (k+1)))[k]?=Qv (hs[k]'(by omega)).cells:=f8 (by rw[List.getElem?_take,if_pos (by omega)];exact hz);have hk0:(((k+1:Nat):Int)=0)=False:=eq_false (by omega);have hwk:QQ.wrap (((k+1:Nat):Int)-1)=(k:Int):=by rw[aG (by omega)];omega
      have hla:laterH hs (k+1) x=decide (x.id > (hs[k]'(by omega)).id):=by simp only[laterH,hz]
      rw[hla]at hny;generalize hs[k]'(by omega)=z at hz hgz hla hny;cases hcl:decide (x.id > z.id)with
      |false =>
       rw[hcl,Me,if_neg (by simp)]at hny;simp only[vqM,fL,aB,hkl,hjlt,decide_true,decide_false,natle0,K3,hgx,hgz,hk0,hwk,hcl];rw[ap (by omega)];refine ae [5,8,9,10] ?_;simp only[vke,zB,zA];exact ihj _ _ ⟨by rw[hny],rfl⟩
      |true =>
       rw[hcl]at hny;cases pk with
       |none =>
        simp only[Mu,if_true]at hny;simp only[vqM,fL,aB,hkl,hjlt,decide_true,decide_false,natle0,K3,hgx,hgz,hk0,hwk,hcl,qV,hm1];rw[ap (by omega)];refine ae [5,8,9,10] ?_;simp only[vke,zB,zA];exact ihj _ _ ⟨by rw[hny];rfl,rfl⟩
       |some i =>
        obtain⟨hij,hil,-⟩:=hpk i rfl;have hy:m[i]?=Qv m[i]:=C0 hil;have hgy:=f8 hy;have hnn:((i:Int)<0)=False:=by simp
        simp only[K6,hy]at hny;generalize m[i]=y at hy hgy hny;cases hc:decide (x.id<y.id)
        ·rw[hc,if_neg (by simp)]at hny;simp only[vqM,fL,aB,hkl,hjlt,decide_true,decide_false,natle0,K3,hgx,hgy,hgz,hk0,hwk,hcl,qV,hnn,hc];rw[ap (by omega)];refine ae [5,8,9,10] ?_;simp only[vke,zB,zA];exact ihj _ _ ⟨by rw[hny];rfl,rfl⟩
        ·rw[hc,if_pos rfl]at hny;simp only[vqM,fL,aB,hkl,hjlt,decide_true,decide_false,natle0,K3,hgx,hgy,hgz,hk0,hwk,hcl,qV,hnn,hc];rw[ap (by omega)];refine ae [5,8,9,10] ?_;simp only[vke,zB,zA];exact ihj _ _ ⟨by rw[hny];rfl,rfl⟩
    ·rintro e s ⟨rfl,rfl⟩;have hjlt:((m.length:Int)<(m.length:Int))=False:=by simp
     have hgm:=f8 hm0;have hnn:((i0:Int)<0)=False:=by simp
     have hof:∀B',aV (dj (c+m.length) 5 k) (aN (hs.take k)) 5 ⟨B',liveN (liveN L c m.length) (c+m.length) k,c+m.length+k⟩=Qy:=λB'=>cg (gZ _);have hl1:(k+1≤1000000)=True:=eq_true (by omega);rw[hi0];simp only[vqM,fL,zA,zM,zL,aB,hkl,hjlt,decide_false,qV,hnn,natle0,K3,hgm,hof,aU,hl1,je];refine ae [5,8] ?_;simp only[vke,zB,zA];exact ih _ _ ⟨by rw[hnext];rfl,rfl⟩
   ·rintro e s ⟨rfl,rfl⟩;have hklt:((m.length:Int)<(m.length:Int))=False:=by simp
    have htl:hs.take m.length=hs:=Mo (by omega);rw[htl];simp only[vqM,fL,aB,hsl,hklt,decide_false];refine am (.inr rfl) ?_ (GI _) (λ_ h=>bk (bk h)) (by omega);simp only[vqM]
theorem jr(l:List Int)(n:Int)(s:St):ay Qz 20 [.slice .none (ah l),.int .i64 n] s (.bool (l.contains n)) s:=by
 refine ay.small λhsm=>?_;have hlen:=(hsm _ (.head _)).len;rw[ab]at hlen;clear hsm;refine ay.introN [] func20 rfl (by decide) az (by kernel_rfl) [QO 4] 18 rfl rfl ?_;simp only[vqM,zA,zS];refine ae [0,1,5] ?_;simp only[vke,zB,zA];refine cf az l.length (λk=>[.slice .none (ah l),.int .i64 n,J,J,J,.int .i64 (k:Int),J,J,J,J,J,J,J,J,J,J,J,J]) (λ_=>s) (λk=>l.contains n=(l.drop k).contains n) ?_ ?_ 0 (K9 _) rfl
 ·intro k hk hI ih;have hg:=fZ hk;have hklt:((k:Int)<(l.length:Int))=True:=by simp;exact hk
  have hd:l.drop k=l[k]::l.drop (k+1):=MG hk;rw[hd,M5]at hI;simp only[vqM,bM,zA,ab,hklt,decide_true,natle0,K3,hg];refine ak (λhc=>?_) (λhc=>?_)
  ·have e:l[k]=n:=of_decide_eq_true hc;simp only[vqM];refine QS ?_ (.bool _);simp only[vqM];rw[hI,e];simp
  ·have e:¬l[k]=n:=of_decide_eq_false hc;simp only[vqM];rw[ap (by omega)];refine ae [0,1,5] ?_;simp only[vke,zB,zA];refine ih ?_;rw[hI,show(n == l[k])=Qw from by simpa usingλh=>e h.symm,Mi]
 ·intro hI;have hklt:((l.length:Int)<(l.length:Int))=False:=by simp
  simp only[vqM,bM,ab,hklt,decide_false];refine QS ?_ (.bool _);simp only[vqM];rw[hI];simp
def cV(n:Int)(q:List Int×Bool)(x:Int):List Int×Bool:=if (decide (x > n) && !q.2)=Qy then(q.1++[n]++[x],Qy)else(q.1++[x],q.2)
def GM(n:Int)(l:List Int):List Int×Bool:=l.foldl (cV n) ([],Qw)
theorem Dv(n:Int)(l:List Int)(x:Int):GM n (l++[x])=cV n (GM n l) x:=by rw[GM,GM,NG];rfl
theorem sR(n:Int):∀(l:List Int)(q:List Int×Bool),(l.foldl (cV n) q).1.length≤q.1.length+2*l.length
 | [],q=>by simp
 |x::l,q=>by
  have h1:(cV n q x).1.length≤q.1.length+2:=by
   simp only[cV];split<;>simp
  have:=sR n l (cV n q x)
  rw[Nz,K7];omega
theorem yk(n:Int):∀(l acc:List Int),l.foldl (cV n) (acc,Qy)=(acc++l,Qy)
 | [],acc=>by simp
 |x::l,acc=>by
  rw[Nz];have h1:cV n (acc,Qy) x=(acc++[x],Qy):=by simp[cV]
  rw[h1,yk n l];simp
theorem yj(n:Int):∀(l acc:List Int),l.Pairwise (· < ·)→n ∉ l→(if (l.foldl (cV n) (acc,Qw)).2 then(l.foldl (cV n) (acc,Qw)).1 else(l.foldl (cV n) (acc,Qw)).1++[n])=acc++addedL l n
 | [],acc,_,_=>by simp[addedL]
 |x::l,acc,h,hn=>by
  rw[NA]at h;simp only[Mj,not_or]at hn;rw[Nz];by_cases hx:x > n
  ·have h1:cV n (acc,Qw) x=(acc++[n]++[x],Qy):=by simp[cV,hx]
   rw[h1,yk];have h3:decide (x<n)=Qw:=by simp;omega
   have h4:decide (x > n)=Qy:=by simpa using hx
   have h5:l.filter (λx=>decide (x > n))=l:=N6.2 λy hy=>by have:=h.1 y hy;simp;omega
   simp only[addedL,N1,h3,MJ,if_false,NE,h4,if_true,h5];simp
  ·have h1:cV n (acc,Qw) x=(acc++[x],Qw):=by simp[cV,hx]
   rw[h1,yj n l _ h.2 hn.2];have h3:decide (x<n)=Qy:=by simp;omega
   have h4:decide (x > n)=Qw:=by simp;omega
   simp[addedL,h3,h4]
theorem uH{n:Int}:∀{l:List Int},l.Pairwise (· < ·)→n∈l→addedL l n=l
 | [],_,h=>by simp at h
 |x::l,h,hn=>by
  rw[NA]at h;by_cases hx:x=n
  ·subst hx;have h3:decide (x<x)=Qw:=by simp
   have h4:decide (x > x)=Qw:=by simp
   have h5:l.filter (λy=>decide (y > x))=l:=N6.2 λy hy=>by have:=h.1 y hy;simp;omega
   simp only[addedL,N1,h3,MJ,if_false,NE,h5];simp
  ·have hm:n∈l:=by rcases Mj.1 hn with e|e;exact absurd e.symm hx;exact e
   have:=h.1 n hm
   have ih:=uH h.2 hm;have h3:decide (x<n)=Qy:=by simp;omega
   have h4:decide (x > n)=Qw:=by simp;omega
   simp only[addedL,L4,Mw,MA]at ih;simp only[addedL,N1,h3,if_true,NE,h4,MJ,if_false,Mw,L4,MA];rw[ih]
theorem Ch(l:List Int)(n:Int)(hs:l.Pairwise (· < ·))(hn:l.length≤200000)(s:St):ay Qz 151 [.slice .none (ah l),.int .i64 n] s (.slice .none (ah (addedL l n))) s:=by
 obtain⟨B,L,c⟩:=s;refine ay.introN [] func151 rfl (by decide) az (by kernel_rfl) [QO 4] 50 rfl rfl ?_;simp only[vqM,qB,zA,zS,zM];refine ae [0,1,5,6,7] ?_;simp only[vke,zB,zA];refine aC az l.length (λk e s=>∃q:List Int×Bool,q=GM n (l.take k)∧(∀i(h:i<l.length),i<k→l[i]≠n)∧e=[.slice .none (ah l),.int .i64 n,J,J,J,.slice (dj c 1 q.1.length) (ah q.1),.bool q.2,.int .i64 (k:Int),J,J,J,J,J,J,J,J,J,J,J,J,J,J,J,J,J,J,J,J,J,J,J,J,J,J,J,J,J,J,J,J,J,J,J,J,J,J,J,J,J,J]∧s=⟨B,liveN L c q.1.length,c+q.1.length⟩) ?_ ?_ 0 _ _ (K9 _) ⟨([],Qw),rfl,λi _ h=>by omega,rfl,rfl⟩
 ·rintro k e s hk ⟨q,hq,hI,rfl,rfl⟩ ih;have hx:l[k]?=Qv l[k]:=C0 hk;have hg:=fZ hk;have hklt:((k:Int)<(l.length:Int))=True:=by simp;exact hk
  have hnext:GM n (l.take (k+1))=cV n q l[k]:=by
   rw[Mt,hx,MO,Dv,←hq]
  have hql:q.1.length≤400000:=by
   have:=sR n (l.take k) ([],Qw)
   have e1:(l.take k).foldl (cV n) ([],Qw)=q:=hq.symm;rw[e1]at this;simp only[K8,MN]at this;omega
  have hin:decide (l[k]=n)=Qy→addedL l n=l:=λh=>uH hs (by rw[←of_decide_eq_true h];exact Mf hk);have hI2:decide (l[k]=n)=Qw→∀i(h:i<l.length),i<k+1→l[i]≠n:=λh i hi hik=>by
   by_cases e:i=k
   ·subst e;exact of_decide_eq_false h
   ·exact hI i hi (by omega)
  clear hI;generalize l[k]=x at hx hg hnext hin hI2;obtain⟨q1,q2⟩:=q;simp only at hql⊢;have hof:∀B'(m:List Int)(n:Nat),aV (dj c 1 n) (ah m) 1 ⟨B',liveN L c n,c+n⟩=Qy:=λB' m n=>cg (aW _);have hl1:(q1.length+1≤1000000)=True:=eq_true (by omega);have hl2:(q1.length+1+1≤1000000)=True:=eq_true (by omega);have hcon:∀n,(liveN L c (n+1)).contains (c+n)=Qy:=λn=>by simp[liveN]
  have hrel:=λB n=>show St.relab ⟨B,liveN L c (n+1),c+(n+1)⟩ (.lab (c+n) 1)=⟨B,liveN L c (n+1+1),c+(n+1+1)⟩ from aU (k:=n+1)
  have hea:∀m:List Int,(∀z,z∈ah m→z.length=1)=True:=λm=>eq_true (aW m);cases h0:decide (x=n);case true =>
   simp only[vqM,qB,zA,ab,hklt,decide_true,natle0,K3,hg,h0];refine fH (.inr rfl) ?_ (ce _) (λ_ h=>bk h) (by omega);simp only[vqM];rw[hin h0]
  replace hI2:=hI2 h0
  clear hin;cases q2<;>cases h1:decide (x > n);all_goals
   simp only[cV,h1,Mp,Ml,Mu,Mq,MJ,if_true,if_false]at hnext;simp only[vqM,qB,zM,zL,ab,hklt,decide_true,natle0,K3,hg,h0,h1,hof,aU,hl1,hl2,bt,K4,MR,hcon,hrel];rw[ap (by omega)];refine ae [0,1,5,6,7] ?_;simp only[vke,zB,zA];refine ih _ _ ⟨_,hnext.symm,hI2,?_,?_⟩<;>simp[dj]
 ·rintro e s ⟨q,hq,hI,rfl,rfl⟩;have hklt:((l.length:Int)<(l.length:Int))=False:=by simp
  rw[Mv]at hq;have hql:q.1.length≤400000:=by
   have:=sR n l ([],Qw)
   have e1:l.foldl (cV n) ([],Qw)=q:=hq.symm;rw[e1]at this;simp only[K8]at this;omega
  have hnl:n ∉ l:=λh=>by
   obtain⟨i,hi,he⟩:=Mx h;exact hI i hi hi he
  have hput:=yj n l [] hs hnl;rw[show l.foldl (cV n) ([],Qw)=q from hq.symm,MA]at hput;obtain⟨q1,q2⟩:=q;simp only at hql hput⊢;have hof:∀B'(m:List Int)(n:Nat),aV (dj c 1 n) (ah m) 1 ⟨B',liveN L c n,c+n⟩=Qy:=λB' m n=>cg (aW _);have hl1:(q1.length+1≤1000000)=True:=eq_true (by omega);cases q2
  ·simp only[vqM,qB,zA,zM,zL,ab,hklt,decide_false,hof,aU,hl1,bt];refine fH (.inr rfl) ?_ (ce _) (λ_ h=>bk h) (by omega);simp only[vqM];rw[←hput,if_neg (by simp)]
  ·simp only[vqM,qB,ab,hklt,decide_false];refine fH (.inr rfl) ?_ (ce _) (λ_ h=>bk h) (by omega);simp only[vqM];rw[←hput,if_pos rfl]
theorem tP(a b:List Int)(hs:a.Pairwise (· < ·))(hn:a.length+b.length≤200000)(s:St):ay Qz 102 [.slice .none (ah a),.slice .none (ah b)] s (.slice .none (ah (b.foldl addedL a))) s:=by
 refine ay.introN [] func102 rfl (by decide) az (by kernel_rfl) [QO 4] 19 rfl rfl ?_;simp only[vqM,zA,zS];refine ae [0,1,5] ?_;simp only[vke,zB,zA];refine cf az b.length (λk=>[.slice .none (ah ((b.take k).foldl addedL a)),.slice .none (ah b),J,J,J,.int .i64 (k:Int),J,J,J,J,J,J,J,J,J,J,J,J,J]) (λ_=>s) (λk=>True) ?_ ?_ 0 (K9 _) trivial
 ·intro k hk _ ih;have hg:=fZ hk;have hklt:((k:Int)<(b.length:Int))=True:=by simp;exact hk
  have hnext:(b.take (k+1)).foldl addedL a=addedL ((b.take k).foldl addedL a) b[k]:=by
   rw[Mt,C0 hk,MO,NG];rfl
  have hl:=jE (b.take k) a;rw[MN]at hl;have hso:=(fp (x:=0) (b.take k) a hs).1;simp only[vqM,bM,zA,ab,hklt,decide_true,natle0,K3,hg];refine aa (Ch _ b[k] hso (by omega) _) ?_;simp only[vqM];rw[ap (by omega)];refine ae [0,1,5] ?_;simp only[vke,zB,zA];rw[←hnext];exact ih trivial
 ·intro _;have hklt:((b.length:Int)<(b.length:Int))=False:=by simp
  rw[Mv];simp only[vqM,bM,ab,hklt,decide_false];refine QS ?_ (ce _);simp only[vqM]
theorem Bc:∀{l m:List Int},l.Pairwise (· < ·)→m.Pairwise (· < ·)→(∀x,x∈l↔x∈m)→l=m
 | [],[],_,_,_=>rfl
 | [],y::m,_,_,h=>absurd ((h y).2 (by simp)) (by simp)
 |x::l,[],_,_,h=>absurd ((h x).1 (by simp)) (by simp)
 |x::l,y::m,h1,h2,h=>by
  obtain⟨a1,a2⟩:=NA.1 h1;obtain⟨b1,b2⟩:=NA.1 h2;have e:x=y:=by
   have m1:=(h x).1 (by simp);have m2:=(h y).2 (by simp);rcases Mj.1 m1 with e|m1
   ·exact e
   ·rcases Mj.1 m2 with e|m2
    ·exact e.symm
    ·have:=a1 y m2;have:=b1 x m1;omega
  subst e;refine congrArg _ (Bc a2 b2 λz=>?_);have hz:=h z;constructor
  ·intro hm;have:=a1 z hm
   rcases Mj.1 (hz.1 (by simp[hm]))with e|e
   ·omega
   ·exact e
  ·intro hm;have:=b1 z hm
   rcases Mj.1 (hz.2 (by simp[hm]))with e|e
   ·omega
   ·exact e
theorem yr(h:Hi):(bT h.first h.es).foldl addedL []=usedL h:=by
 have h0:=λx:Int=>fp (x:=x) (bT h.first h.es) [] Qg.nil;refine Bc (h0 0).1 ?_ λx=>?_
 ·have h1:(usedL h).Pairwise (· ≤ ·):=by
   have:=List.pairwise_mergeSort (le:=λa b:Int=>decide (a≤b)) (λa b c h1 h2=>by simp at *;omega) (λa b=>by simp;omega) (setS (bT h.first h.es))
   exact this.imp λh=>by simpa using h
  have h2:(usedL h).Nodup:=(Oj _ _).nodup_iff.2 (fS _);exact(h1.and h2).imp λ⟨a,b⟩=>by omega
 ·rw[(h0 x).2,usedL,fo,List.mem_mergeSort,eI];simp
theorem yq{first:Pg}{l:List Ed}{k:Nat}(hk:k<l.length):bT first (l.take (k+1))=bT first (l.take k)++(if l[k].op=1 then sitesD l[k].defs else[]):=by
 rw[Mt,C0 hk,MO,bT,bT,N0,L4];simp
theorem xi(h:Hi){n m:Nat}(H:HiN n m h)(hn:n≤12)(hm:h.es.length≤30)(s:St):ay Qz 60 [.agg h.cells] s (.slice .none (ah (usedL h))) s:=by
 obtain⟨B,L,c⟩:=s;have R:=Gd.of H.fi.pr;have hul:(bT h.first h.es).length≤150000:=by
  have:=lB H.fi.df R.dl hn λe he=>(H.ed e he).1
  omega
 have hpre:∀k,(bT h.first (h.es.take k)).length≤(bT h.first h.es).length:=λk=>by
  have:h.es=h.es.take k++h.es.drop k:=(MM _ _).symm
  conv=>rhs;rw[this]
  simp only[bT,N0,K4];omega
 have h0:bT h.first (h.es.take 0)=sitesD h.first.defs:=by simp[bT]
 have hp0:=hpre 0;rw[h0]at hp0;refine ay.introN [] func60 rfl (by decide) az (by kernel_rfl) [QO 2] 34 rfl rfl ?_;simp only[vqM,qb,zA,zS,vsH];refine aa (gg h.first.defs (by have:=R.dl;omega) (λd hd=>by have:=(H.fi.df d hd).ct;omega) _) ?_;simp only[vqM];refine aa (tP [] (sitesD h.first.defs) Qg.nil (by simp;omega) _) ?_;simp only[vqM];refine ae [1,3,4] ?_;simp only[vke,zB,zA];rw[show List.foldl addedL [] (sitesD h.first.defs)=List.foldl addedL [] (bT h.first (h.es.take 0)) by rw[h0]];refine cf az h.es.length (λk=>[J,.box B.length 0,J,.slice .none (ah ((bT h.first (h.es.take k)).foldl addedL [])),.int .i64 (k:Int),J,J,J,J,J,J,J,J,J,J,J,J,J,J,J,J,J,J,J,J,J,J,J,J,J,J,J,J,J]) (λ_=>⟨B++[.cells h.cells],L,c⟩) (λk=>True) ?_ ?_ 0 (K9 _) trivial
 ·intro k hk _ ih;have hx:h.es[k]?=Qv h.es[k]:=C0 hk;have hg:(aL h.es)[k]?=Qv (h.es[k].cells):=by simp[aL,hx]
  have hklt:((k:Int)<(h.es.length:Int))=True:=by simp;exact hk
  have hnext:=yq (first:=h.first) hk;have hel2:=H.ed _ (Mf hk);have hl1:=hpre (k+1);have hl2:=jE (bT h.first (h.es.take k)) [];have hso:=(fp (x:=0) (bT h.first (h.es.take k)) [] Qg.nil).1;generalize h.es[k]=x at hx hg hnext hel2;cases h1:decide (x.op=1)
  ·rw[if_neg (of_decide_eq_false h1),MK]at hnext;simp only[vqM,qb,zA,vsH,vsE,av,hklt,decide_true,natle0,K3,hg,h1];rw[ap (by omega)];refine ae [1,3,4] ?_;simp only[vke,zB,zA];rw[←hnext];exact ih trivial
  ·rw[if_pos (of_decide_eq_true h1)]at hnext;rw[hnext,K4]at hl1;simp only[vqM,qb,zA,vsH,vsE,av,hklt,decide_true,natle0,K3,hg,h1];refine aa (gg x.defs (by have:=hel2.2;omega) (λd hd=>by have:=(hel2.1.df d hd).ct;omega) _) ?_;simp only[vqM];refine aa (tP _ (sitesD x.defs) hso (by simp only[K8]at hl2;omega) _) ?_;simp only[vqM];rw[ap (by omega)];refine ae [1,3,4] ?_;simp only[vke,zB,zA];rw[←NG,←hnext];exact ih trivial
 ·intro _;have hklt:((h.es.length:Int)<(h.es.length:Int))=False:=by simp
  rw[Mv,yr];simp only[vqM,qb,zA,vsH,av,hklt,decide_false];refine QR ?_ (ce _);simp only[vqM]
def tE(p:Pg)(e:Ed)(i:Nat):Bool:=match e.drop[i]? with
 |none=>Qy
 |some x=>!(e.defs.any λd=>decide (d.id=x))&&(opnB p x && !(e.drop.take i).contains x)
def D9(p:Pg)(e:Ed)(i:Nat):Bool:=match e.defs[i]? with
 |none=>Qy
 |some d=>!((headS p d.id).isSome && !opnB p d.id) && !((e.defs.take i).any λx=>decide (x.id=d.id))
def rD(p:Pg)(e:Ed)(i:Nat):Bool:=match e.frm[i]? with
 |none=>Qy
 |some x=>!((e.frm.take i).any λy=>decide (y.1=x.1))&&((sitesD e.defs).contains x.1&&(!(sitesD p.defs).contains x.1&&(sitesD p.defs).contains x.2))
theorem ll{α:Type}{l:List α}:l.Nodup↔∀i(h:i<l.length),l[i] ∉ l.take i:=by
 rw[List.nodup_iff_pairwise_ne,List.pairwise_iff_getElem];constructor
 ·intro h i hi hm;obtain⟨j,hj,he⟩:=Mx hm;simp only[MN]at hj;rw[NV]at he;exact h j i (by omega) hi (by omega) he
 ·intro h i j hi hj hij he;refine h j hj ?_;rw[←he];exact OR.2 ⟨i,by simp;omega,by rw[NV]⟩
theorem lT{p:Pg}{e:Ed}:ku p e=Qy↔∀i,i<e.drop.length→tE p e i=Qy:=by
 rw[ku,Mh,decide_eq_true_eq,ll,Mn];constructor
 ·rintro⟨h1,h2⟩ i hi;have hx:e.drop[i]?=Qv e.drop[i]:=C0 hi;have h3:=h2 _ (Mf hi);have h4:=h1 i hi;simp only[tE,hx];rw[Mh]at h3⊢;rw[Mh];exact⟨h3.2,h3.1,by simpa using h4⟩
 ·intro h;refine⟨λi hi=>?_,λx hx=>?_⟩
  ·have:=h i hi
   simp only[tE,C0 hi,Mh]at this;simpa using this.2.2
  ·obtain⟨i,hi,rfl⟩:=Mx hx;have:=h i hi
   simp only[tE,C0 hi,Mh]at this;rw[Mh];exact⟨this.2.1,this.1⟩
theorem pq{p:Pg}{e:Ed}:m8 p e=Qy↔∀i,i<e.defs.length→D9 p e i=Qy:=by
 rw[m8,Mh,decide_eq_true_eq,ll,Mn];constructor
 ·rintro⟨h1,h2⟩ i hi;have hx:e.defs[i]?=Qv e.defs[i]:=C0 hi;have h3:=h2 _ (Mf hi);have h4:=h1 i (by simpa using hi);simp only[D9,hx];rw[Mh];refine⟨h3,?_⟩;rw[M4,←OB,MB]at h4;rw[MU,Nl];intro y hy he;exact h4 ⟨y,hy,by simpa using he⟩
 ·intro h;refine⟨λi hi=>?_,λx hx=>?_⟩
  ·have:=h i (by simpa using hi)
   rw[MW]at hi;simp only[D9,C0 hi,Mh,MU,Nl]at this;rw[M4,←OB,MB];rintro⟨y,hy,he⟩;exact this.2 y hy (by simpa using he)
  ·obtain⟨i,hi,rfl⟩:=Mx hx;have:=h i hi
   simp only[D9,C0 hi,Mh]at this;exact this.1
theorem ph{p:Pg}{e:Ed}:m6 p e=Qy↔∀i,i<e.frm.length→rD p e i=Qy:=by
 rw[m6,Mh,decide_eq_true_eq,ll,Mn];constructor
 ·rintro⟨h1,h2⟩ i hi;have hx:e.frm[i]?=Qv e.frm[i]:=C0 hi;have h3:=h2 _ (Mf hi);have h4:=h1 i (by simpa using hi);simp only[rD,hx];rw[Mh];refine⟨?_,by simpa[Bool.and_assoc]using h3⟩;rw[M4,←OB,MB]at h4;rw[MU,Nl];intro y hy he;exact h4 ⟨y,hy,by simpa using he⟩
 ·intro h;refine⟨λi hi=>?_,λx hx=>?_⟩
  ·have:=h i (by simpa using hi)
   rw[MW]at hi;simp only[rD,C0 hi,Mh,MU,Nl]at this;rw[M4,←OB,MB];rintro⟨y,hy,he⟩;exact this.1 y hy (by simpa using he)
  ·obtain⟨i,hi,rfl⟩:=Mx hx;have:=h i hi
   simp only[rD,C0 hi,Mh]at this;simpa[Bool.and_assoc]using this.2
theorem gt{n:Nat}{f:Nat→Bool}{b:Bool}(h:b=Qy↔∀i,i<n→f i=Qy){i:Nat}(hi:i<n)(hf:f i=Qw):b=Qw:=by
 cases b with
 |false=>rfl
 |true=>rw[h.1 rfl i hi]at hf;cases hf
theorem yh{l:List Df}{x:Int}{j:Nat}(hj:j<l.length):(l.take (j+1)).any (λd=>decide (d.id=x))=((l.take j).any (λd=>decide (d.id=x)) ||decide (l[j].id=x)):=by
 rw[Mt,C0 hj,MO,List.any_append];simp
theorem vp{e e' sz by_:Nat}{a:Bool}{l:List Int}{k:Nat}(h:k≤l.length):slS (Qv (.slice e)) (Qv (e',sz,by_,a)) .none (ah l) Qx (Qv (.int .i64 (k:Int)))=Qv (.slice .none (ah (l.take k))):=by
 rw[A2 (by simp) (by rw[ab];exact h),tc]
theorem DR{p:Pg}{id:Int}{b:Bool}(h:(headS p id).isSome=b):gK p id=.agg (((headS p id).getD Hd.zero).cells++[.bool b]):=by rw[gK,h]
theorem wl(p:Pg)(e:Ed)(hpd:p.defs.length<1000000)(hdl:e.drop.length≤1000)(hel:e.defs.length≤1000)(s:St):ay Qz 255 [.agg p.cells,.agg e.cells] s (.bool (ku p e&&m8 p e)) s:=by
 obtain⟨B,L,c⟩:=s;refine ay.introN [(14,.text [Qw,Qw,Qw,Qw,Qw,Qw,Qw,Qw,Qy,Qy] [(0,1),(2,1),(6,1),(7,1)])] func255 rfl (by decide) az (by kernel_rfl) [QO 4] 102 rfl rfl ?_;simp only[vqM,zA,zS,zB];refine ae [2,3,5] ?_;simp only[vke,zB,zA];refine aC az e.drop.length (λk en s=>(∀i,i<k→tE p e i=Qy)∧en=[J,J,.box B.length 0,.box (B.length+1) 0,J,.int .i64 (k:Int),J,J,J,J,J,J,J,J,J,J,J,J,J,J,J,J,J,J,J,J,J,J,J,J,J,J,J,J,J,J,J,J,J,J,J,J,J,J,J,J,J,J,J,J,J,J,J,J,J,J,J,J,J,J,J,J,J,J,J,J,J,J,J,J,J,J,J,J,J,J,J,J,J,J,J,J,J,J,J,J,J,J,J,J,J,J,J,J,J,J,J,J,J,J,J,J]∧s=⟨B++[.cells p.cells,.cells e.cells],L,c⟩) ?_ ?_ 0 _ _ (K9 _) ⟨by omega,rfl,rfl⟩
 ·rintro k en s hk ⟨hI,rfl,rfl⟩ ih;have hx:e.drop[k]?=Qv e.drop[k]:=C0 hk;have hg:=fZ hk;have hklt:((k:Int)<(e.drop.length:Int))=True:=by simp;exact hk
  have hkk:tE p e k=(!(e.defs.any λd=>decide (d.id=e.drop[k]))&&(opnB p e.drop[k] && !(e.drop.take k).contains e.drop[k])):=by simp only[tE,hx]
  have hsl:=λ(e1 e2 sz by_:Nat)(a:Bool)=>vp (e:=e1) (e':=e2) (sz:=sz) (by_:=by_) (a:=a) (l:=e.drop) (k:=k) (by omega);generalize e.drop[k]=x at hx hg hkk;simp only[vqM,dZ,zA,zB,vsE,ab,hklt,decide_true];refine ae [2,3,5,6] ?_;simp only[vke,zB,zA];refine aC az e.defs.length (λj en s=>(e.defs.take j).any (λd=>decide (d.id=x))=Qw∧en=[J,J,.box B.length 0,.box (B.length+1) 0,J,.int .i64 (k:Int),.int .i64 (j:Int),J,J,J,J,J,J,J,J,J,J,J,J,J,J,J,J,J,J,J,J,J,J,J,J,J,J,J,J,J,J,J,J,J,J,J,J,J,J,J,J,J,J,J,J,J,J,J,J,J,J,J,J,J,J,J,J,J,J,J,J,J,J,J,J,J,J,J,J,J,J,J,J,J,J,J,J,J,J,J,J,J,J,J,J,J,J,J,J,J,J,J,J,J,J,J]∧s=⟨B++[.cells p.cells,.cells e.cells],L,c⟩) ?_ ?_ 0 _ _ (K9 _) ⟨rfl,rfl,rfl⟩
  ·rintro j en s hj ⟨hJ,rfl,rfl⟩ ihj;have hy:e.defs[j]?=Qv e.defs[j]:=C0 hj;have hgy:(ax e.defs)[j]?=Qv (e.defs[j].cells):=by simp[ax,hy]
   have hjlt:((j:Int)<(e.defs.length:Int))=True:=by simp;exact hj
   have hat:=yh (x:=x) hj;rw[hJ,Mi]at hat;have hany:decide (e.defs[j].id=x)=Qy→(e.defs.any λd=>decide (d.id=x))=Qy:=λh=>NT.2 ⟨_,Mf hj,h⟩;generalize e.defs[j]=y at hy hgy hat hany;cases hc:decide (y.id=x)
   ·rw[hc]at hat;simp only[vqM,dZ,zA,zB,vsE,aj,hjlt,decide_true,natle0,K3,hg,hgy,hc];rw[ap (by omega)];refine ae [2,3,5,6] ?_;simp only[vke,zB,zA];exact ihj _ _ ⟨hat,rfl,rfl⟩
   ·rw[hany hc,Mp,Me]at hkk;simp only[vqM,dZ,zA,zB,vsE,aj,hjlt,decide_true,natle0,K3,hg,hgy,hc];refine QR ?_ (.bool _);simp only[vqM];rw[gt lT hk hkk];rfl
  ·rintro en s ⟨hJ,rfl,rfl⟩;have hjlt:((e.defs.length:Int)<(e.defs.length:Int))=False:=by simp
   rw[Mv]at hJ;rw[hJ,Ml,K6]at hkk;simp only[vqM,dZ,zA,zB,vsE,aj,hjlt,decide_false,natle0,K3,hg];refine aa (so p x hpd _) ?_;cases ho:opnB p x with
   |false =>
    rw[ho,Me]at hkk;simp only[vqM,zB];refine QR ?_ (.bool _);simp only[vqM];rw[gt lT hk hkk];rfl
   |true =>
    rw[ho,K6]at hkk;simp only[vqM,dZ,zA,vsE,natle0,K3,hg,hsl];refine aa (jr _ _ _) ?_;cases hh:(e.drop.take k).contains x with
    |true =>
     rw[hh,Mp]at hkk;simp only[vqM,zB];refine QR ?_ (.bool _);simp only[vqM];rw[gt lT hk hkk];rfl
    |false =>
     rw[hh,Ml]at hkk;simp only[vqM];rw[ap (by omega)];refine ae [2,3,5] ?_;simp only[vke,zB,zA];refine ih _ _ ⟨λi hi=>?_,rfl,rfl⟩;by_cases e1:i=k
     ·subst e1;exact hkk
     ·exact hI i (by omega)
 ·rintro en s ⟨hI,rfl,rfl⟩;have hklt:((e.drop.length:Int)<(e.drop.length:Int))=False:=by simp
  rw[lT.2 hI,K6];simp only[vqM,dZ,zA,zB,vsE,ab,hklt,decide_false];refine ae [2,3,7] ?_;simp only[vke,zB,zA];refine aC az e.defs.length (λk en s=>(∀i,i<k→D9 p e i=Qy)∧en=[J,J,.box B.length 0,.box (B.length+1) 0,J,J,J,.int .i64 (k:Int),J,J,J,J,J,J,J,J,J,J,J,J,J,J,J,J,J,J,J,J,J,J,J,J,J,J,J,J,J,J,J,J,J,J,J,J,J,J,J,J,J,J,J,J,J,J,J,J,J,J,J,J,J,J,J,J,J,J,J,J,J,J,J,J,J,J,J,J,J,J,J,J,J,J,J,J,J,J,J,J,J,J,J,J,J,J,J,J,J,J,J,J,J,J]∧∃X,s=⟨B++.cells p.cells::.cells e.cells::X,L,c⟩) ?_ ?_ 0 _ _ (K9 _) ⟨by omega,rfl,[],rfl⟩
  ·rintro k en s hk ⟨hI,rfl,X,rfl⟩ ih;have hx:e.defs[k]?=Qv e.defs[k]:=C0 hk;have hg:(ax e.defs)[k]?=Qv (e.defs[k].cells):=by simp[ax,hx]
   have hklt:((k:Int)<(e.defs.length:Int))=True:=by simp;exact hk
   have hkk:D9 p e k=(!((headS p e.defs[k].id).isSome && !opnB p e.defs[k].id) && !((e.defs.take k).any λx=>decide (x.id=e.defs[k].id))):=by simp only[D9,hx]
   generalize e.defs[k]=x at hx hg hkk;have hz6:∀(h:Hd)(b:D),O2 6 (h.cells++[b])=h.cells++[b]:=λ_ _=>rfl;have hz5:∀(h:Hd)(b:D),(OM 5 (h.cells++[b]))[0]?=Qv b:=λ_ _=>rfl;have hzl:∀(h:Hd)(b:D),(h.cells++[b]).length=6:=λ_ _=>rfl;simp only[vqM,dZ,zA,zB,vsE,aj,hklt,decide_true,natle0,K3,hg];refine aa (jO p x.id _) ?_;cases hs:(headS p x.id).isSome;case' false =>
    rw[hs,Me,Ml,K6]at hkk;rw[DR hs];simp only[vqM,dZ,zA,vsE,hzl];refine aA (aa (jO p x.id _) ?_) ?_
    ·rw[DR hs];simp only[vqM]
    simp only[vqM,dZ,zA,zB]
   case' true =>
    rw[hs,K6,Bool.not_not]at hkk;rw[DR hs];simp only[vqM,dZ,zA,vsE,hzl];refine aA (aa (jO p x.id _) ?_) ?_
    ·rw[DR hs];simp only[vqM]
    simp only[vqM,dZ,zA,zB,vsE,natle0,K3,hg];refine aa (so p x.id hpd _) ?_;cases ho:opnB p x.id;case' false =>
     rw[ho,Me]at hkk;simp only[vqM,zB];refine QR ?_ (.bool _);simp only[vqM];rw[gt pq hk hkk]
    case' true =>
     rw[ho,K6]at hkk;simp only[vqM,zB]
   all_goals
    refine ae [2,3,7,9] ?_;simp only[vke,zB,zA];refine aC az k (λj en s=>(e.defs.take j).any (λd=>decide (d.id=x.id))=Qw∧en=[J,J,.box B.length 0,.box (B.length+1) 0,J,J,J,.int .i64 (k:Int),J,.int .i64 (j:Int),J,J,J,J,J,J,J,J,J,J,J,J,J,J,J,J,J,J,J,J,J,J,J,J,J,J,J,J,J,J,J,J,J,J,J,J,J,J,J,J,J,J,J,J,J,J,J,J,J,J,J,J,J,J,J,J,J,J,J,J,J,J,J,J,J,J,J,J,J,J,J,J,J,J,J,J,J,J,J,J,J,J,J,J,J,J,J,J,J,J,J,J]∧s=⟨B++.cells p.cells::.cells e.cells::(X++[.cells (((headS p x.id).getD Hd.zero).cells++[.bool (headS p x.id).isSome])]),L,c⟩) ?_ ?_ 0 _ _ (K9 _) ⟨rfl,rfl,by rw[hs]⟩
    ·rintro j en s hj ⟨hJ,rfl,rfl⟩ ihj;have hjl:j<e.defs.length:=by omega
     have hy:e.defs[j]?=Qv e.defs[j]:=C0 hjl;have hgy:(ax e.defs)[j]?=Qv (e.defs[j].cells):=by simp[ax,hy]
     have hjlt:((j:Int)<(k:Int))=True:=by simp;exact hj
     have hat:=yh (x:=x.id) hjl;rw[hJ,Mi]at hat;have hany:decide (e.defs[j].id=x.id)=Qy→((e.defs.take k).any λd=>decide (d.id=x.id))=Qy:=λh=>NT.2 ⟨_,OR.2 ⟨j,by simp;omega,by rw[NV]⟩,h⟩;generalize e.defs[j]=y at hy hgy hat hany;cases hc:decide (y.id=x.id)
     ·rw[hc]at hat;simp only[vqM,dZ,zA,zB,vsE,hjlt,decide_true,natle0,K3,hg,hgy,hc];rw[ap (by omega)];refine ae [2,3,7,9] ?_;simp only[vke,zB,zA];exact ihj _ _ ⟨hat,rfl,rfl⟩
     ·rw[hany hc,Mp]at hkk;simp only[vqM,dZ,zA,zB,vsE,hjlt,decide_true,natle0,K3,hg,hgy,hc];refine QR ?_ (.bool _);simp only[vqM];rw[gt pq hk hkk]
    ·rintro en s ⟨hJ,rfl,rfl⟩;have hjlt:((k:Int)<(k:Int))=False:=by simp
     rw[hJ,Ml]at hkk;simp only[vqM,zB,hjlt,decide_false];rw[ap (by omega)];refine ae [2,3,7] ?_;simp only[vke,zB,zA];refine ih _ _ ⟨λi hi=>?_,rfl,_,rfl⟩;by_cases e1:i=k
     ·subst e1;exact hkk
     ·exact hI i (by omega)
  ·rintro en s ⟨hI,rfl,X,rfl⟩;have hklt:((e.defs.length:Int)<(e.defs.length:Int))=False:=by simp
   rw[pq.2 hI];simp only[vqM,dZ,zA,zB,vsE,aj,hklt,decide_false];refine QR ?_ (.bool _);simp only[vqM]
theorem rH{l:List (Int×Int)}{i:Nat}{x:Int×Int}(h:l[i]?=Qv x):(gP l)[i]?=Qv [.int .i64 x.1,.int .i64 x.2]:=by simp[gP,h]
theorem Dt{l:List (Int×Int)}{x:Int}{j:Nat}(hj:j<l.length):(l.take (j+1)).any (λd=>decide (d.1=x))=((l.take j).any (λd=>decide (d.1=x)) ||decide (l[j].1=x)):=by
 rw[Mt,C0 hj,MO,List.any_append];simp
theorem Ew(p:Pg)(e:Ed)(hpd:p.defs.length≤100)(hpc:∀d∈p.defs,cq d.body≤1000)(hdl:e.drop.length≤1000)(hel:e.defs.length≤100)(hec:∀d∈e.defs,cq d.body≤1000)(hfl:e.frm.length≤1000)(s:St):ay Qz 207 [.agg p.cells,.agg e.cells] s (.bool (fitsB p e)) s:=by
 obtain⟨B,L,c⟩:=s;rw[fitsB];refine ay.introN [(1,.text [Qw,Qw,Qy,Qw,Qw,Qy,Qw,Qw] [(4,0)])] func207 rfl (by decide) az (by kernel_rfl) [QO 4] 63 rfl rfl ?_;simp only[vqM,fK,zA,zS,zB];refine aa (gg p.defs hpd hpc _) ?_;simp only[vqM,fK,zA,vsE];refine aa (gg e.defs hel hec _) ?_;simp only[vqM,fK,zB,vsE];refine ae [2,3,5,6,7] ?_;simp only[vke,zB,zA];refine aC az e.frm.length (λk en s=>(∀i,i<k→rD p e i=Qy)∧en=[J,J,.box B.length 0,.box (B.length+1) 0,J,.slice .none (ah (sitesD p.defs)),.slice .none (ah (sitesD e.defs)),.int .i64 (k:Int),J,J,J,J,J,J,J,J,J,J,J,J,J,J,J,J,J,J,J,J,J,J,J,J,J,J,J,J,J,J,J,J,J,J,J,J,J,J,J,J,J,J,J,J,J,J,J,J,J,J,J,J,J,J,J]∧∃X,s=⟨B++.cells p.cells::.cells e.cells::X,L,c⟩) ?_ ?_ 0 _ _ (K9 _) ⟨by omega,rfl,[],rfl⟩
 ·rintro k en s hk ⟨hI,rfl,X,rfl⟩ ih;have hx:e.frm[k]?=Qv e.frm[k]:=C0 hk;have hg:=rH hx;have hklt:((k:Int)<(e.frm.length:Int))=True:=by simp;exact hk
  have hkk:rD p e k=(!((e.frm.take k).any λy=>decide (y.1=e.frm[k].1))&&((sitesD e.defs).contains e.frm[k].1&&(!(sitesD p.defs).contains e.frm[k].1&&(sitesD p.defs).contains e.frm[k].2))):=by simp only[rD,hx]
  generalize e.frm[k]=x at hx hg hkk;obtain⟨x0,x1⟩:=x;simp only at hg hkk;have hb8:∀W,(B++Box.cells p.cells::Box.cells e.cells::(X++Box.cells [.int .i64 x0,.int .i64 x1]::W))[B.length+(X.length+1+1)]?=Qv (.cells [.int .i64 x0,.int .i64 x1]):=λW=>by
   rw[bD,MZ,MZ,bF];rfl
  simp only[vqM,fK,zA,zB,vsE,cP,hklt,decide_true,natle0,K3,hg];refine ae [2,3,5,6,7,8,9] ?_;simp only[vke,zB,zA];refine aC az k (λj en s=>(e.frm.take j).any (λd=>decide (d.1=x0))=Qw∧en=[J,J,.box B.length 0,.box (B.length+1) 0,J,.slice .none (ah (sitesD p.defs)),.slice .none (ah (sitesD e.defs)),.int .i64 (k:Int),.box (B.length+(X.length+1+1)) 0,.int .i64 (j:Int),J,J,J,J,J,J,J,J,J,J,J,J,J,J,J,J,J,J,J,J,J,J,J,J,J,J,J,J,J,J,J,J,J,J,J,J,J,J,J,J,J,J,J,J,J,J,J,J,J,J,J,J,J]∧s=⟨B++.cells p.cells::.cells e.cells::(X++[.cells [.int .i64 x0,.int .i64 x1]]),L,c⟩) ?_ ?_ 0 _ _ (K9 _) ⟨rfl,rfl,rfl⟩
  ·rintro j en s hj ⟨hJ,rfl,rfl⟩ ihj;have hjl:j<e.frm.length:=by omega
   have hy:e.frm[j]?=Qv e.frm[j]:=C0 hjl;have hgy:=rH hy;have hjlt:((j:Int)<(k:Int))=True:=by simp;exact hj
   have hat:=Dt (x:=x0) hjl;rw[hJ,Mi]at hat;have hany:decide (e.frm[j].1=x0)=Qy→((e.frm.take k).any λd=>decide (d.1=x0))=Qy:=λh=>NT.2 ⟨_,OR.2 ⟨j,by simp;omega,by rw[NV]⟩,h⟩;generalize e.frm[j]=y at hy hgy hat hany;obtain⟨y0,y1⟩:=y;simp only at hgy hat hany;cases hc:decide (y0=x0)
   ·rw[hc]at hat;simp only[vqM,fK,zA,zB,vsE,vsA,hjlt,decide_true,natle0,K3,hgy,hb8,hc];rw[ap (by omega)];refine ae [2,3,5,6,7,8,9] ?_;simp only[vke,zB,zA];exact ihj _ _ ⟨hat,rfl,rfl⟩
   ·rw[hany hc,Mp,Me]at hkk;simp only[vqM,fK,zA,zB,vsE,vsA,hjlt,decide_true,natle0,K3,hgy,hb8,hc];refine QR ?_ (.bool _);simp only[vqM];rw[gt ph hk hkk];rfl
  ·rintro en s ⟨hJ,rfl,rfl⟩;have hjlt:((k:Int)<(k:Int))=False:=by simp
   rw[hJ,Ml,K6]at hkk;simp only[vqM,fK,zB,vsA,hjlt,decide_false,hb8];refine aa (jr _ _ _) ?_;have fin:∀b:Bool,rD p e k=b→b=Qw→(m6 p e&&(ku p e&&m8 p e))=Qw:=λb h1 h2=>by rw[gt ph hk (h1.trans h2)];rfl
   cases h1:(sitesD e.defs).contains x0 with
   |false =>
    rw[h1]at hkk;simp only[vqM,zB];refine QR ?_ (.bool _);simp only[vqM];rw[fin _ hkk rfl]
   |true =>
    rw[h1,K6]at hkk;simp only[vqM,fK,vsA,hb8];refine aa (jr _ _ _) ?_;cases h2:(sitesD p.defs).contains x0 with
    |true =>
     rw[h2]at hkk;simp only[vqM,zB];refine QR ?_ (.bool _);simp only[vqM];rw[fin _ hkk rfl]
    |false =>
     rw[h2,Ml,K6]at hkk;simp only[vqM,fK,zA,vsA,hb8];refine aa (jr _ _ _) ?_;cases h3:(sitesD p.defs).contains x1 with
     |false =>
      rw[h3]at hkk;simp only[vqM,zB];refine QR ?_ (.bool _);simp only[vqM];rw[fin _ hkk rfl]
     |true =>
      rw[h3]at hkk;simp only[vqM];rw[ap (by omega)];refine ae [2,3,5,6,7] ?_;simp only[vke,zB,zA];refine ih _ _ ⟨λi hi=>?_,rfl,_,rfl⟩;by_cases e1:i=k
      ·subst e1;exact hkk
      ·exact hI i (by omega)
 ·rintro en s ⟨hI,rfl,X,rfl⟩;have hklt:((e.frm.length:Int)<(e.frm.length:Int))=False:=by simp
  rw[ph.2 hI,K6];simp only[vqM,fK,zA,zB,vsE,cP,hklt,decide_false];refine aa (wl p e (by omega) hdl (by omega) _) ?_;simp only[vqM];refine QR ?_ (.bool _);simp only[vqM]
end Go.V
