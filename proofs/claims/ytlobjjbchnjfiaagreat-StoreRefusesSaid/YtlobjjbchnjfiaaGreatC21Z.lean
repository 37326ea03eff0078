/-
  StoreRefuses answers true at every input. No condition.
-/
import Derived.Test.YtlobjjbchnjfiaaGreatBast10
import Derived.Test.YtlobjjbchnjfiaaGreatBast7
import Derived.Test.YtlobjjbchnjfiaaGreatRows
open Bool renaming and_eq_true→M1,not_eq_true'→Oy,or_false→M4,or_true→NW,true_or→M6,false_or→L5
open List renaming length→Qh,length_map→OH,nodup_iff_pairwise_ne→Pn,append_assoc→K9,mem_cons→NX,not_mem_nil→Ot,getD_cons_zero→N8,getD_cons_succ→N7,contains_cons→N9,contains_nil→Of,length_singleton→OA,all_eq_true→N0
open Option renaming map_some→Po
open Nat renaming reduceAdd → zA, reduceSub → zS, reduceMul → zM, reduceLeDiff → zL, reduceEqDiff → zE, reduceBEq → zB
open Go.V.D renaming junk → J
set_option linter.all false
set_option linter.unusedSimpArgs false
set_option linter.unusedVariables false
set_option linter.unnecessarySimpa false
open Option renaming some→Sd
open Bool renaming false→Se
open Option renaming none→Sf
open Bool renaming true→Sh
open Go.Proofs.Tryz renaming prog→Si
namespace Go.V
open Go.Proofs Go.Proofs.Tryz
set_option maxRecDepth 20000
set_option maxHeartbeats 4000000
theorem Hg(n:Int):cntD [revE n]=0:=by simp[cntD,revE]
theorem vsRaw:(∀b l,(rawD b l).length=2)∧(∀b l,(rawD b l).take 2=rawD b l)∧(∀b l,(rawD b l).map D.plain1=rawD b l)∧(∀h:Hi,(h.cells.drop 10)[0]?=Sd (.slice .none (aM h.es))):=⟨λ_ _=>rfl,λ_ _=>rfl,λ_ _=>rfl,λ_=>rfl⟩
theorem playC_some{h:Hi}(h0:programS h.first=0):playC h=apC (playS h):=by rw[playC,if_pos h0]
def rnm(id:Int)(nm:ByteArray)(d:Df):Df:=if d.id=id then {d with name:=nm}else d
theorem oY(id:Int)(nm:ByteArray)(d:Df):(rnm id nm d).id=d.id∧(rnm id nm d).site=d.site∧(rnm id nm d).firm=d.firm∧(rnm id nm d).part=d.part∧(rnm id nm d).params=d.params∧(rnm id nm d).given=d.given∧(rnm id nm d).vars=d.vars∧(rnm id nm d).refs=d.refs∧(rnm id nm d).arrays=d.arrays∧(rnm id nm d).budget=d.budget∧(rnm id nm d).body=d.body∧((rnm id nm d).name=nm∨(rnm id nm d).name=d.name):=by
 rw[rnm];split
 ·exact⟨rfl,rfl,rfl,rfl,rfl,rfl,rfl,rfl,rfl,rfl,rfl,.inl rfl⟩
 ·exact⟨rfl,rfl,rfl,rfl,rfl,rfl,rfl,rfl,rfl,rfl,rfl,.inr rfl⟩
theorem Ge(id:Int)(nm:ByteArray)(d:Df):headOf (rnm id nm d)=headOf d:=by
 obtain⟨h1,h2,h3,h4,h5,h6,_⟩:=oY id nm d;simp only[headOf,h1,h3,h4,h5,h6]
theorem DS(id:Int)(nm:ByteArray)(d:Df):sitesS (rnm id nm d)=sitesS d:=by
 obtain⟨h1,h2,h3,h4,h5,h6,h7,h8,h9,h10,h11,_⟩:=oY id nm d;simp only[sitesS,h2,h11]
theorem DU(id:Int)(nm:ByteArray)(d:Df):dY (rnm id nm d)=dY d:=by
 obtain⟨h1,h2,h3,h4,h5,h6,h7,h8,h9,h10,h11,_⟩:=oY id nm d;simp only[dY,h11]
def nmP(p:Pg)(id:Int)(nm:ByteArray):Pg:={p with defs:=p.defs.map (rnm id nm)}
theorem JP{id:Int}{nm:ByteArray}(hn:gT nm=Sh){d:Df}{x:Dc}(h:defB d x=Sh):defB (rnm id nm d) x=Sh:=by
 obtain⟨h1,h2,h3,h4,h5,h6,h7,h8,h9,h10,h11,h12⟩:=oY id nm d;rw[defB,M1]at h⊢;have hnm:gT (rnm id nm d).name=Sh:=by
  rcases h12 with e|e
  ·rw[e];exact hn
  ·rw[e];have:=h.1
   simp only[jx,M1]at this;exact this.1.1.1.1.1.1.1.1.2
 constructor
 ·have h0:=h.1;have e9:arrB (rnm id nm d)=arrB d:=by
   funext a;simp only[arrB,h5]
  simp only[jx,h1,h2,h3,h4,h5,h6,h7,h8,h9,h10,e9]at h0⊢;simp only[M1]at h0⊢;obtain⟨⟨⟨⟨⟨⟨⟨⟨⟨⟨a1,a2⟩,_⟩,a3⟩,a4⟩,a5⟩,a6⟩,a7⟩,a8⟩,a9⟩,a10⟩:=h0;exact⟨⟨⟨⟨⟨⟨⟨⟨⟨⟨a1,a2⟩,hnm⟩,a3⟩,a4⟩,a5⟩,a6⟩,a7⟩,a8⟩,a9⟩,a10⟩
 ·rw[h2,h11];have key:∀(ps:List Pl)(seen:List Int),jr ⟨rnm id nm d,x⟩ ps seen=jr ⟨d,x⟩ ps seen:=by
   intro ps;induction ps with
   |nil=>intro seen;rfl
   |cons p ps ih =>
    intro seen;have e:eG ⟨rnm id nm d,x⟩ p.s=eG ⟨d,x⟩ p.s:=xY (k:=⟨rnm id nm d,x⟩) (j:=⟨d,x⟩) ⟨congrArg Qh h5,h7,congrArg Qh h9,h8,rfl,rfl,rfl,rfl,rfl,rfl⟩ p.s;simp only[jr,ih,e]
  rw[key];exact h.2
theorem DT{p:Pg}{id:Int}{nm:ByteArray}(hn:gT nm=Sh){d:Df}(h:dF p d=Sh):dF (nmP p id nm) (rnm id nm d)=Sh:=by
 obtain⟨h1,h2,h3,h4,h5,h6,h7,h8,h9,h10,h11,h12⟩:=oY id nm d;simp only[dF,M1]at h⊢;refine⟨⟨JP hn h.1.1,?_⟩,?_⟩
 ·have:=h.1.2
  have e:∀i,headS (nmP p id nm) i=headS p i:=λ_=>rfl;have e2:∀i,hdG (nmP p id nm) i=hdG p i:=λ_=>rfl;simp only[fL,h1,h3,h4,h5,h6,e,e2]at this⊢;exact this
 ·rw[h11];exact h.2
theorem vA{p:Pg}{id:Int}{nm:ByteArray}(hn:gT nm=Sh):∀(l:List Df)(last:Int),chain p l last=Sh→chain (nmP p id nm) (l.map (rnm id nm)) last=Sh
 | [],_,_=>rfl
 |d::l,last,h=>by
  have h1:=(oY id nm d).1;simp only[chain,List.map_cons,M1,Oy,Bool.or_eq_false_iff,Bool.not_eq_false']at h⊢;rw[h1];exact⟨⟨h.1.1,DT hn h.1.2⟩,vA hn l _ h.2⟩
theorem Gf{p:Pg}(id:Int)(nm:ByteArray)(i:Int):findS (nmP p id nm) i=(findS p i).map (rnm id nm):=by
 show(p.defs.map (rnm id nm)).find? _=(p.defs.find? _).map _;rw[List.find?_map];congr 1;congr 1;funext d;simp only[Function.comp,(oY id nm d).1]
theorem zb{f:Df→Df}(h1:∀d,(f d).id=d.id)(h2:∀d,dY (f d)=dY d)(l:List Df):∀(n:Nat)(rem:List Int),rW (l.map f) n rem=rW l n rem
 |0,_=>rfl
 |n+1,rem=>by
  have hr:∀d,rdy rem (f d)=rdy rem d:=λd=>by simp only[rdy,h1,h2]
  have hi:∀i,jm (l.map f) i=jm l i:=λi=>by
   simp only[jm,List.getElem?_map];cases l[i]? with
   |none=>rfl
   |some d=>exact h1 d
  have hf:(l.map f).findIdx? (rdy rem)=l.findIdx? (rdy rem):=by
   rw[List.findIdx?_map];congr 1;funext d;exact hr d
  simp only[rW,hf,hi,zb h1 h2 l n]
theorem Ef{p:Pg}(h:programS p=0)(id:Int){nm:ByteArray}(hn:gT nm=Sh):programS (nmP p id nm)=0:=by
 rw[kA]at h⊢;have c0:faultB (nmP p id nm)=faultB p:=by
  have e:fv (nmP p id nm)=fv p:=rfl;have e2:(nmP p id nm).defs.length=p.defs.length:=OH _;simp only[faultB,e,e2];rfl
 have c1:chain p p.defs 0=Sh→chain (nmP p id nm) (nmP p id nm).defs 0=Sh:=λh=>vA hn _ _ h;have c2:(nmP p id nm).threads.any (noThr (nmP p id nm))=p.threads.any (noThr p):=by
  have:noThr (nmP p id nm)=noThr p:=by
   funext i;rw[noThr,noThr,Gf];cases findS p i with
   |none=>rfl
   |some d =>
    obtain⟨h1,h2,h3,h4,h5,h6,_⟩:=oY id nm d;simp only[Po,Option.isSome_some,Option.getD_some,h5,h6]
  rw[this];rfl
 have c3:(nmP p id nm).defs.flatMap sitesS=p.defs.flatMap sitesS:=by
  show(p.defs.map (rnm id nm)).flatMap sitesS=_;rw[List.flatMap_map];congr 1;funext d;exact DS id nm d
 have c4:eQ (nmP p id nm)=eQ p:=by
  show rW (p.defs.map (rnm id nm)) (p.defs.map (rnm id nm)).length ((p.defs.map (rnm id nm)).map (·.id))=_;rw[zb (λd=>(oY id nm d).1) (DU id nm),OH,List.map_map];have:((·.id) ∘ rnm id nm:Df→Int)=(·.id):=by funext d;exact(oY id nm d).1
  rw[this];rfl
 have c5:(nmP p id nm).defs.length=p.defs.length:=OH _;rw[c0,c2,c3,c4,c5];split at h
 ·cases h
 split at h
 ·cases h
 split at h
 ·cases h
 split at h
 ·cases h
 split at h
 ·cases h
 rename_i a1 a2 a3 a4 a5;rw[if_neg a1,if_neg (by simp only[Oy,Bool.not_eq_false]at a2⊢;exact c1 a2),if_neg a3,if_neg a4,if_neg a5]
theorem D4{p:Pg}(R:Gd p):p.heads.Perm ((p.heads.filter λh=>!opnB p h.id)++p.defs.map headOf):=by
 have n1:p.heads.Nodup:=R.hd.imp λh e=>by subst e;omega
 have n2:((p.heads.filter λh=>!opnB p h.id)++p.defs.map headOf).Nodup:=by
  have:=NewOk.nodup R (NewOk.self R)
  rw[kS,Pn,List.pairwise_map]at this;rw[Pn];exact this.imp λh e=>h (congrArg Hd.id e)
 rw[List.perm_ext_iff_of_nodup n1 n2];intro x;simp only[List.mem_append,List.mem_filter,List.mem_map];constructor
 ·intro hx;cases ho:opnB p x.id with
  |false=>exact .inl ⟨hx,by simp⟩
  |true =>
   obtain⟨d,hd,he⟩:=fU.1 ho;have h1:=R.own hd;have h2:=R.head hx;rw[he,h2]at h1;exact .inr ⟨d,hd,(Option.some.inj h1).symm⟩
 ·rintro(⟨h,_⟩|⟨d,hd,rfl⟩)
  ·exact h
  ·exact(ma (R.own hd)).1
theorem AS{l:List Df}(h:l.Pairwise (λa b=>a.id<b.id)){i:Nat}{d:Df}(hi:l[i]?=Sd d)(nm:ByteArray):l.set i {d with name:=nm}=l.map (rnm d.id nm):=by
 obtain⟨hil,rfl⟩:=List.getElem?_eq_some_iff.1 hi;refine List.ext_getElem (by simp) λj h1 h2=>?_;rw[List.length_set]at h1;rw[List.getElem_set,List.getElem_map];split
 ·rename_i e;subst e;rw[rnm,if_pos rfl]
 ·rename_i e;rw[rnm,if_neg];intro he;have hp:=List.pairwise_iff_getElem.1 h;rcases Nat.lt_or_gt_of_ne e with hlt|hlt
  ·have:=hp i j hil h1 hlt;omega
  ·have:=hp j i h1 hil hlt;omega
theorem DY{p:Pg}(h:programS p=0){id:Int}{nm:ByteArray}(hn:gT nm=Sh)(hf:(findS p id).isSome=Sh):∃q,applyS p (cm id nm)=Sd q:=by
 have R:=Gd.of h;obtain⟨d,hd⟩:=Option.isSome_iff_exists.1 hf;obtain⟨hm,rfl⟩:=cY hd;obtain⟨i,hi,hie⟩:=List.getElem_of_mem hm;have hi2:p.defs[i]?=Sd d:=by rw[List.getElem?_eq_getElem hi,hie]
 have hmv:movedL p.defs {d with name:=nm}=p.defs.map (rnm d.id nm):=by
  rw[(qk (x:={d with name:=nm}) R.df hi2 rfl).1,AS R.df hi2]
 have hed:editedS p (cm d.id nm)=Sd (p.defs.map (rnm d.id nm)):=by
  rw[editedS,if_neg (show ¬(cm d.id nm).op=1 from(by decide:¬(2:Int)=1)),if_pos (show(cm d.id nm).op=2 from rfl)];show(findS p d.id).map _=_;rw[hd,Po,←hmv];rfl
 have hc:candS p (cm d.id nm) (p.defs.map (rnm d.id nm))=nmP p d.id nm:=by
  have hh:headsN p (p.defs.map (rnm d.id nm))=p.heads:=by
   refine(qm R (iS R hed) (m:=p.heads) ?_ (R.hd.imp λh=>by omega)).symm;have e1:(p.defs.map (rnm d.id nm)).map headOf=p.defs.map headOf:=by
    rw[List.map_map];congr 1;funext x;exact Ge _ _ x
   rw[kS,e1];exact D4 R
  rw[candS,hh,if_neg (show ¬(cm d.id nm).op=4 from(by decide:¬(2:Int)=4))];rfl
 refine⟨nmP p d.id nm,?_⟩;rw[applyS,hed];simp only[hc];rw[if_pos (Ef h d.id hn)]
theorem EL{p:Pg}{id:Int}(h:(findS p id).isSome=Se):applyS p (dH [] [id] [])=Sf:=by
 have:ir p (dH [] [id] [])=Se:=by
  have:opnB p id=Se:=h
  simp[ir,dH,this]
 rw[applyS,editedS,if_pos (show(dH [] [id] []).op=1 from rfl)];simp[fitsB,this]
theorem Bl(p:Pg)(id:Int):applyS p (dH [] [id,id] [])=Sf:=by
 have:ir p (dH [] [id,id] [])=Se:=by simp[ir,dH]
 rw[applyS,editedS,if_pos (show(dH [] [id,id] []).op=1 from rfl)];simp[fitsB,this]
theorem Bn(p:Pg)(d:Df):applyS p (dH [d,d] [] [])=Sf:=by
 have:lx p (dH [d,d] [] [])=Se:=by simp[lx,dH]
 rw[applyS,editedS,if_pos (show(dH [d,d] [] []).op=1 from rfl)];simp[fitsB,this]
theorem Ei{p:Pg}{id:Int}(h:(findS p id).isSome=Se)(nm:ByteArray):applyS p (cm id nm)=Sf:=by
 have h2:findS p id=Sf:=by
  cases e:findS p id with
  |none=>rfl
  |some d=>rw[e]at h;cases h
 have h3:findS p (cm id nm).a=Sf:=h2;rw[applyS,editedS,if_neg (show ¬(cm id nm).op=1 from(by decide:¬(2:Int)=1)),if_pos (show(cm id nm).op=2 from rfl),h3];rfl
def opE(op:Int):Ed:=⟨op,0,0,⟨#[]⟩,[],[],[]⟩
theorem Cy(p:Pg){op:Int}(h:op<1∨op > 4):applyS p (opE op)=Sf:=by
 have e1:¬(opE op).op=1:=by show ¬op=1;omega
 have e2:¬(opE op).op=2:=by show ¬op=2;omega
 have e3:¬(opE op).op=3:=by show ¬op=3;omega
 have e4:¬(opE op).op=4:=by show ¬op=4;omega
 rw[applyS,editedS,if_neg e1,if_neg e2,if_neg e3,if_neg e4]
theorem MU(n:Nat)(op:Int):EdN n (opE op):=⟨by simp[opE],show(0:Nat)≤1000 by omega,by simp[opE],by simp[opE],by simp[opE]⟩
theorem zr(n:Nat){l:List Int}(h:l.length≤4):EdN n (dH [] l []):=⟨by simp[dH],show(0:Nat)≤1000 by omega,by simp[dH],h,by simp[dH]⟩
def Bu(p:Pg):Pg:={p with d:={p.d with firms:=0} }
theorem IC(p:Pg):programS (Bu p)=60:=by
 have:declB (Bu p).d=Se:=by
  simp only[declB,Bu];simp[inB]
 rw[programS,faultB,this];rfl
def HP(fr:Int):Df:=⟨fr,fr,⟨#[110]⟩,0,0,[],[],1,0,[],9,[]⟩
theorem MG(n:Nat)(fr:Int):DfN n (HP fr):=⟨show(1:Nat)≤1000 by omega,by simp[HP,cu],by simp[HP,flatL,rawC],λq hq=>by simp[HP,flatL]at hq⟩
theorem sa(b:List Int)(hb:∀x∈b,0≤x∧x<256)(l:List W4)(hl:∀z∈l,z.Ok)(id op:Int)(hid:-9223372036854775808≤id∧id≤9223372036854775807)(s:St) :
  az Si 7 [.agg (rawD b l),.int .i64 id,.int .i64 op] s (.bool Sh) s:=by
 obtain⟨B,L,c⟩:=s;have hI:=Fi hb (most:=4) (by omega) l;have hM:=λs=>t8 b hb l hl 4 (by omega) s;generalize madeA b l 4=q0 at hI hM;obtain⟨⟨p0,es⟩,p⟩:=q0;have hln:es.length≤4:=hI.ln;have hN:HiN (2+es.length) 4 ⟨p0,es⟩:=hI.hN;have hpl:playS ⟨p0,es⟩=Sd p:=hI.pl;have hpN:PgN (2+es.length) (4+es.length) p:=hI.pN;have hpR:=Gd.of hpN.pr;have hp0:programS p0=0:=hN.fi.pr;have hok:PgOk p0:=hN.fi.ok (by omega);have hpC:∀l:List Ed,playC ⟨p0,l⟩=apC (playS ⟨p0,l⟩):=λl=>playC_some hp0;have hPR:PgR p0:=⟨λd hd=>by have:=(hN.fi.df d hd).nm;omega,λd hd=>by have:=(hN.fi.df d hd).ct;omega⟩;have hpd:p.defs.length<1000000:=by have:=hpR.dl;omega
 have a1:=λs=>eU p (cm id nmF) (ApH.of hpN (jh (2+es.length) id (nm:=nmF) (by decide)) (by omega) (show 4+es.length+(if (2:Int)=1 then 0 else 0)≤12 by rw[if_neg (by decide)];omega)) s;have a2:=λs=>eU p (dH [] [id] []) (ApH.of hpN (zr (2+es.length) (by simp)) (by omega) (show 4+es.length+(if (1:Int)=1 then 0 else 0)≤12 by rw[if_pos rfl];omega)) s;have a3:=λs=>eU p (dH [] [id,id] []) (ApH.of hpN (zr (2+es.length) (by simp)) (by omega) (show 4+es.length+(if (1:Int)=1 then 0 else 0)≤12 by rw[if_pos rfl];omega)) s;rw[Bl]at a3;refine az.introN [(6,.cut),(7,.stop),(12,.text [Se,Se,Se,Se,Se,Se,Se,Se,Se,Se,Se,Se,Sh,Se,Sh,Sh,Se,Se,Se] [(10,1)]),(14,.text [Se,Se,Se,Se,Se,Sh,Sh] [(0,1),(1,1),(2,1),(3,1)])] func7 rfl (by decide) aA (by kernel_rfl) [ResultVar.tmp 6] 129 rfl rfl ?_;simp only[vqM,zA,zS,zB];refine aa (kw _) ?_;simp only[vqM,dq,zB,vsRaw];refine aa (hM _) ?_;simp only[vqM,dq,zA,zB,vsH,bf,bG];refine aa (t7 ⟨p0,es⟩ hPR (λ_=>hN) (by omega) (by show es.length≤30;omega) _) ?_;rw[hpC,hpl];simp only[vqM,dq,zA,zB,aW,aQ];refine kl ?_;simp only[vqM,dq];refine aa (fS p id hpd _) ?_;have hz13:∀(d:Df)(b:D),List.take 13 (d.cells++[b])=d.cells++[b]:=λ_ _=>rfl;have hzb:∀(d:Df)(b:D),(List.drop 12 (d.cells++[b]))[0]?=Sd b:=λ_ _=>rfl;simp only[vqM,dq,zA,foundD];refine ae [1,2,7,8,9,10] ?_;simp only[vke,zB,zA];obtain⟨bx,hbx⟩:∃bx,bx=[Box.cells (rawD b l),.cells (Hi.mk p0 es).cells,.cells p.cells,.cells (((findS p id).getD Df.zero).cells++[D.bool (findS p id).isSome])]:=⟨_,rfl⟩;rw[←hbx];have g8:∀X,(B++bx++X)[B.length+1]?=Sd (.cells (Hi.mk p0 es).cells):=λX=>by rw[K9,bq,hbx];rfl
 have g9:∀X,(B++bx++X)[B.length+2]?=Sd (.cells p.cells):=λX=>by rw[K9,bq,hbx];rfl
 have g10:∀X,(B++bx++X)[B.length+3]?=Sd (.cells (((findS p id).getD Df.zero).cells++[D.bool (findS p id).isSome])):=λX=>by rw[K9,bq,hbx];rfl
 obtain⟨C,hC⟩:∃C,C=B++bx:=⟨_,rfl⟩;have hCB:∃X,C=B++X:=⟨bx,hC⟩;rw[←hC]at g8 g9 g10⊢;clear hC hbx;have c8:=bV g8;have c9:=bV g9;have c10:=bV g10;refine dJ ?_;refine jj λ_=>?_;refine ic (λe1 s=>∃C5 i j k,keep [1,2,7,8,9,10,11,12,13] e1=[J,.int .i64 id,.int .i64 op,J,J,J,J,.bool Sh,.box (B.length+1) 0,.box (B.length+2) 0,.box (B.length+3) 0,.box i 0,.box j 0,.box k 0,J,J,J,J,J,J,J,J,J,J,J,J,J,J,J,J,J,J,J,J,J,J,J,J,J,J,J,J,J,J,J,J,J,J,J,J,J,J,J,J,J,J,J,J,J,J,J,J,J,J,J,J,J,J,J,J,J,J,J,J,J,J,J,J,J,J,J,J,J,J,J,J,J,J,J,J,J,J,J,J,J,J,J,J,J,J,J,J,J,J,J,J,J,J,J,J,J,J,J,J,J,J,J,J,J,J,J,J,J,J,J,J,J,J,J]∧s=⟨C5,L,c⟩∧Bx3 C [] C5 i j k (apC (applyS p (cm id nmF))).cells (apC (applyS p (dH [] [id] []))).cells (apC Sf).cells) ?_ ?_
 ·skip
  refine eI aA [15,16,17,18,19,20] [⟨[0,1,2,3,4,5,6,7,8,9,10,11,12,13,14,15,16,17,18,19,20],[(0,1),(0,2),(0,3),(3,1),(3,2),(3,3),(4,1),(4,2),(4,3),(8,1),(8,2),(8,3),(9,1),(9,2),(9,3),(14,1),(14,2),(14,3)]⟩,⟨[0,1,2,3,4,5,6,7,8,9,10,11,12,13,14,15,17,16,18,19,20],[(0,1),(0,2),(0,3),(3,1),(3,2),(3,3),(4,1),(4,2),(4,3),(8,1),(8,2),(8,3),(9,1),(9,2),(9,3),(14,1),(14,2),(14,3)]⟩,⟨[0,1,2,3,4,5,6,7,8,9,10,11,12,13,14,16,15,17,18,19,20],[(0,1),(0,2),(0,3),(3,1),(3,2),(3,3),(4,1),(4,2),(4,3),(8,1),(8,2),(8,3),(9,1),(9,2),(9,3),(14,1),(14,2),(14,3)]⟩,⟨[0,1,2,3,4,5,6,7,8,9,10,11,12,13,14,16,17,15,18,19,20],[(0,1),(0,2),(0,3),(3,1),(3,2),(3,3),(4,1),(4,2),(4,3),(8,1),(8,2),(8,3),(9,1),(9,2),(9,3),(14,1),(14,2),(14,3)]⟩,⟨[0,1,2,3,4,5,6,7,8,9,10,11,12,13,14,17,15,16,18,19,20],[(0,1),(0,2),(0,3),(3,1),(3,2),(3,3),(4,1),(4,2),(4,3),(8,1),(8,2),(8,3),(9,1),(9,2),(9,3),(14,1),(14,2),(14,3)]⟩,⟨[0,1,2,3,4,5,6,7,8,9,10,11,12,13,14,17,16,15,18,19,20],[(0,1),(0,2),(0,3),(3,1),(3,2),(3,3),(4,1),(4,2),(4,3),(8,1),(8,2),(8,3),(9,1),(9,2),(9,3),(14,1),(14,2),(14,3)]⟩] (by kernel_rfl) λpl hpl=>?_;simp only[NX,Ot,or_false]at hpl;rcases hpl with rfl|rfl|rfl|rfl|rfl|rfl
  all_goals
   simp only[vqM,dq,zA,zL,zB,N8,N7,N9,Of,M4,NW,c9]
  all_goals
   repeat' (first
    |(with_reducible refine aB ?_ ?_)
    |(with_reducible refine And.intro ?_ ?_)
    |((with_reducible refine aG ?_);refine aa (a1 _) ?_;simp only[vqM,dq,zA,zM,zL,N8,N7,c9])
    |((with_reducible refine aG ?_);refine aa (a2 _) ?_;simp only[vqM,dq,zA,zM,zL,N8,N7,c9])
    |((with_reducible refine aG ?_);refine aa (a3 _) ?_;simp only[vqM,dq,zA,aW,N8,N7,g9])
    |(with_reducible refine te ?_;simp only[vqM]))
  all_goals
   first
    |(refine aD ⟨_,C.length,C.length+1,C.length+2,?_,rfl,.mk' (pre:=[]) (i:=0) (j:=1) (k:=2) [Box.cells (apC (applyS p (cm id nmF))).cells,Box.cells (apC (applyS p (dH [] [id] []))).cells,Box.cells (apC Sf).cells] rfl rfl rfl rfl⟩;(simp only[vke,zB,zA]);done)
    |(refine aD ⟨_,C.length,C.length+2,C.length+1,?_,rfl,.mk' (pre:=[]) (i:=0) (j:=2) (k:=1) [Box.cells (apC (applyS p (cm id nmF))).cells,Box.cells (apC Sf).cells,Box.cells (apC (applyS p (dH [] [id] []))).cells] rfl rfl rfl rfl⟩;(simp only[vke,zB,zA]);done)
    |(refine aD ⟨_,C.length+1,C.length,C.length+2,?_,rfl,.mk' (pre:=[]) (i:=1) (j:=0) (k:=2) [Box.cells (apC (applyS p (dH [] [id] []))).cells,Box.cells (apC (applyS p (cm id nmF))).cells,Box.cells (apC Sf).cells] rfl rfl rfl rfl⟩;(simp only[vke,zB,zA]);done)
    |(refine aD ⟨_,C.length+1,C.length+2,C.length,?_,rfl,.mk' (pre:=[]) (i:=1) (j:=2) (k:=0) [Box.cells (apC Sf).cells,Box.cells (apC (applyS p (cm id nmF))).cells,Box.cells (apC (applyS p (dH [] [id] []))).cells] rfl rfl rfl rfl⟩;(simp only[vke,zB,zA]);done)
    |(refine aD ⟨_,C.length+2,C.length,C.length+1,?_,rfl,.mk' (pre:=[]) (i:=2) (j:=0) (k:=1) [Box.cells (apC (applyS p (dH [] [id] []))).cells,Box.cells (apC Sf).cells,Box.cells (apC (applyS p (cm id nmF))).cells] rfl rfl rfl rfl⟩;(simp only[vke,zB,zA]);done)
    |(refine aD ⟨_,C.length+2,C.length+1,C.length,?_,rfl,.mk' (pre:=[]) (i:=2) (j:=1) (k:=0) [Box.cells (apC Sf).cells,Box.cells (apC (applyS p (dH [] [id] []))).cells,Box.cells (apC (applyS p (cm id nmF))).cells] rfl rfl rfl rfl⟩;(simp only[vke,zB,zA]);done)
 rintro e1 s ⟨C5,i11,i12,i13,he,rfl,hB5⟩;replace g8:=cO g8 (show ∃X,C5=C++X from hB5.ex)
 replace g9:=cO g9 (show ∃X,C5=C++X from hB5.ex)
 replace g10:=cO g10 (show ∃X,C5=C++X from hB5.ex)
 have g11:=hB5.ga;have g12:=hB5.gb;have g13:=hB5.gc;replace hCB:∃X,C5=B++X:=by
  obtain⟨X,rfl⟩:=hCB;obtain⟨Y,hY⟩:=hB5.ex;exact⟨X++([]++Y),by rw[hY,K9]⟩
 clear hB5 c8 c9 c10 C;have c8:=bV g8;have c9:=bV g9;have c10:=bV g10;have c11:=bV g11;have c12:=bV g12;have c13:=bV g13;simp only[vqM];refine ae [1,2,7,8,9,10,11,12,13] ?_;rw[he];clear he;have dn0:decide ((0:Int)≠0)=Se:=rfl;have hcd:∀x:Cd,x.cells[10]?=Sd (.int .i64 x.e):=λ_=>rfl;have dn2:decide ((220:Int)≠220)=Se:=rfl;have dn3:decide ((220:Int)=220)=Sh:=rfl;refine fD (λe s=>keep [1,2,7,8,9] e=[J,.int .i64 id,.int .i64 op,J,J,J,J,.bool Sh,.box (B.length+1) 0,.box (B.length+2) 0,J,J,J,J,J,J,J,J,J,J,J,J,J,J,J,J,J,J,J,J,J,J,J,J,J,J,J,J,J,J,J,J,J,J,J,J,J,J,J,J,J,J,J,J,J,J,J,J,J,J,J,J,J,J,J,J,J,J,J,J,J,J,J,J,J,J,J,J,J,J,J,J,J,J,J,J,J,J,J,J,J,J,J,J,J,J,J,J,J,J,J,J,J,J,J,J,J,J,J,J,J,J,J,J,J,J,J,J,J,J,J,J,J,J,J,J,J,J,J]∧s=⟨C5,L,c⟩) ?_ ?_
 ·refine cI aA ?_;cases hf:(findS p id).isSome with
  |true =>
   obtain⟨q,hq⟩:=DY hpN.pr (nm:=nmF) (by decide +kernel) hf;rw[hq]at g11 c11;rw[hf]at g10 c10;simp only[vqM,dq,zA,zB,aW,aQ,c10,c11,c13,dn0,dn2];exact bM ⟨by simp only[vke,zB,zA],rfl⟩
  |false =>
   rw[Ei hf]at g11 c11;rw[EL hf]at g12 c12;rw[hf]at g10 c10;simp only[vqM,dq,zA,zB,aW,aQ,c10,c11,c12,c13,dn2];exact bM ⟨by simp only[vke,zB,zA],rfl⟩
 clear c10 c11 c12 c13 g10 g11 g12 g13;rintro e s ⟨he,rfl⟩;refine ae [1,2,7,8,9] ?_;rw[he];clear he;refine fD (λe s=>keep [1,7,8,9] e=[J,.int .i64 id,J,J,J,J,J,.bool Sh,.box (B.length+1) 0,.box (B.length+2) 0,J,J,J,J,J,J,J,J,J,J,J,J,J,J,J,J,J,J,J,J,J,J,J,J,J,J,J,J,J,J,J,J,J,J,J,J,J,J,J,J,J,J,J,J,J,J,J,J,J,J,J,J,J,J,J,J,J,J,J,J,J,J,J,J,J,J,J,J,J,J,J,J,J,J,J,J,J,J,J,J,J,J,J,J,J,J,J,J,J,J,J,J,J,J,J,J,J,J,J,J,J,J,J,J,J,J,J,J,J,J,J,J,J,J,J,J,J,J,J]∧s=⟨C5,L,c⟩) ?_ ?_
 ·refine cI aA ?_;have a4:=λs=>eU p (opE op) (ApH.of hpN (MU (2+es.length) op) (by omega) (show 4+es.length+(if op=1 then 0 else 0)≤12 by split<;>omega)) s;by_cases h1:op<1
  ·have d1:decide (op<1)=Sh:=decide_eq_true h1;rw[Cy p (.inl h1)]at a4;simp only[vqM,dq,zA,zL,zB,c9,d1];refine aa (a4 _) ?_;simp only[vqM,dq,aQ,hcd,dn2];exact bM ⟨by simp only[vke,zB,zA],rfl⟩
  have d1:decide (op<1)=Se:=decide_eq_false h1;by_cases h4:op > 4
  ·have d4:decide (op > 4)=Sh:=decide_eq_true h4;rw[Cy p (.inr h4)]at a4;simp only[vqM,dq,zA,zL,zB,c9,d1,d4];refine aa (a4 _) ?_;simp only[vqM,dq,aQ,hcd,dn2];exact bM ⟨by simp only[vke,zB,zA],rfl⟩
  have d4:decide (op > 4)=Se:=decide_eq_false h4;simp only[vqM,zB,d1,d4];exact bM ⟨by simp only[vke,zB,zA],rfl⟩
 rintro e s ⟨he,rfl⟩;refine ae [1,7,8,9] ?_;rw[he];clear he;refine fD (λe s=>keep [7,8,9] e=[J,J,J,J,J,J,J,.bool Sh,.box (B.length+1) 0,.box (B.length+2) 0,J,J,J,J,J,J,J,J,J,J,J,J,J,J,J,J,J,J,J,J,J,J,J,J,J,J,J,J,J,J,J,J,J,J,J,J,J,J,J,J,J,J,J,J,J,J,J,J,J,J,J,J,J,J,J,J,J,J,J,J,J,J,J,J,J,J,J,J,J,J,J,J,J,J,J,J,J,J,J,J,J,J,J,J,J,J,J,J,J,J,J,J,J,J,J,J,J,J,J,J,J,J,J,J,J,J,J,J,J,J,J,J,J,J,J,J,J,J,J]∧s=⟨C5,L,c⟩) ?_ ?_
 ·refine cI aA ?_;have hN3:HiN (2+es.length) 4 ⟨p0,es++[revE id]⟩:=hN.snoc ⟨tE _ _,by simp[revE]⟩;have hc3:cntD (es++[revE id])≤4:=by
   have h1:=pO es;have h2:=Hg id;rw[lX];omega
  have a5:=λs=>iA ⟨p0,es++[revE id]⟩ hok (λ_=>hN3) (by omega) (by show 4+cntD (es++[revE id])≤12;omega) (by simp only[List.length_append,OA];omega) s;have a6:=λs=>fQ ⟨p0,es⟩ [revE id] (by simp only[OA];omega) s;by_cases h1:id<0
  ·have d1:decide (id<0)=Sh:=decide_eq_true h1;rw[hpC,m8 (.inl h1)]at a5;simp only[vqM,dq,zB,vsH,bf,bG,c8,d1];refine aa (dG id _) ?_;simp only[vqM,dq,zA,zM,zL,bf,vsE];refine aa (a6 _) ?_;simp only[vqM,bf];refine aa (a5 _) ?_;simp only[vqM,dq,vsH,bf,aQ,bG,hcd,c8,dn2];exact bM ⟨by simp only[vke,zB,zA],rfl⟩
  have d1:decide (id<0)=Se:=decide_eq_false h1;by_cases h4:id≥(es.length:Int)
  ·have d4:decide (id≥(es.length:Int))=Sh:=decide_eq_true h4;rw[hpC,m8 (.inr h4)]at a5;simp only[vqM,dq,zA,zB,vsH,bf,bG,vsRaw,af,c8,d1,d4];refine aa (dG id _) ?_;simp only[vqM,dq,zA,zM,zL,bf,vsE];refine aa (a6 _) ?_;simp only[vqM,bf];refine aa (a5 _) ?_;simp only[vqM,dq,vsH,bf,aQ,bG,hcd,c8,dn2];exact bM ⟨by simp only[vke,zB,zA],rfl⟩
  have d4:decide (id≥(es.length:Int))=Se:=decide_eq_false h4;simp only[vqM,dq,zA,zB,vsRaw,af,c8,d1,d4];exact bM ⟨by simp only[vke,zB,zA],rfl⟩
 rintro e s ⟨he,rfl⟩;refine ae [7,8,9] ?_;rw[he];clear he;refine cI aA ?_;simp only[vqM,dq,zB,vsH,bf,bG,c8];refine aa (iC ⟨p0,es⟩ hN (by omega) (by show es.length≤30;omega) _) ?_;simp only[vqM,dq,vsH,bf,bG,c8];refine aa (iC ⟨p0,es⟩ hN (by omega) (by show es.length≤30;omega) _) ?_;generalize hfr:freshS ⟨p0,es⟩=fr;simp only[vqM,dq,zA,zL,vsH,bf,bG,g8];refine aB ⟨aa (iC ⟨p0,es⟩ hN (by omega) (by show es.length≤30;omega) _) ?_,aa (iC ⟨p0,es⟩ hN (by omega) (by show es.length≤30;omega) _) ?_⟩ ?_
 ·simp only[vqM,hfr]
 ·simp only[vqM,hfr]
 have a7:=λs=>eU p (dH [HP fr,HP fr] [] []) (ApH.of hpN ⟨λd hd=>by simp only[dH,NX,Ot,or_false,or_self]at hd;subst hd;exact MG _ _,show(0:Nat)≤1000 by omega,by simp[dH],by simp[dH],by simp[dH]⟩ (by omega) (show 4+es.length+(if (1:Int)=1 then 2 else 0)≤12 by rw[if_pos rfl];omega)) s;rw[Bn]at a7;have a8:=λs=>iA ⟨Bu p0,[]⟩ (n:=0) (m:=0) ⟨hok.nm,hok.fl,hok.ca⟩ (λh=>by rw[show programS (Bu p0)=60 from IC p0]at h;cases h) (by omega) (by show 0+0≤12;omega) (by show 0≤30;omega) s;have hpb:playC ⟨Bu p0,[]⟩=⟨Pg.zero,60⟩:=by
  rw[playC,if_neg (by rw[show programS (Bu p0)=60 from IC p0];decide),show programS (Bu p0)=60 from IC p0]
 rw[hpb]at a8;have hset6:∀q:Pg,q.cells.take 6++.int .i64 0::q.cells.drop 7=(Bu q).cells:=λ_=>rfl;have d60:decide ((60:Int)=60)=Sh:=rfl;have hdl:∀d:Df,d.cells.length=12:=λ_=>rfl;simp only[vqM,dq,zA,zM,zL,zB,vsH,aW,g8,g9,hset6];refine aa (a7 _) ?_;simp only[vqM,dq,zA,aW,aQ,hcd,decide_true];refine aa (a8 _) ?_;simp only[vqM,dq,hcd,decide_true];obtain⟨X9,rfl⟩:=hCB;rw[K9];refine ao (.inr rfl) ?_ (.bool _) (λ_ h=>h) (Nat.le_refl _);simp only[vqM]
end Go.V
namespace Go.Proofs.YtlobjjbchnjfiaaGreat
open Go.V Go.ChangeShapes Go.WideShapes Go.Proofs.Tryz
set_option maxRecDepth 20000
set_option maxHeartbeats 4000000
theorem lp(os:Os)(started:os.Started)(H:Type)(enc:TypeId×Value→H) :
  ReturnsInHanded {} Tryz.checked os 7 .any (Rows.storeRefusesSpec.pre6 enc Si f7 Rows.storeRefusesRow.domain Se) (Rows.storeRefusesSpec.post enc Si f7 Se Rows.storeRefusesRow.fresh Rows.storeRefusesRow.handsOn Rows.storeRefusesRow.again):=by
 refine returnsInHanded_of_change_sized (C:=Tryz.checked) own started (by kernel_rfl) func7
  (ChangeSpec.witness6 (enc:=enc) (C:=Tryz.checked) Se ⟨#[],#[.agg #[.slice Sf 0 0,.slice Sf 0 0],.int .i64 0,.int .i64 0],[]⟩ 8 (by kernel_rfl) (by kernel_rfl) (by kernel_rfl) (by kernel_rfl)) ?_
 intro W base args ds gs before hval0 hW _ hwt _;have hval:∀(j:Nat)t v,f7.params[j]?=Sd t→args[j]?=Sd v→Value.okWide Si W .any base t v:=hval0;have hW':=hW;obtain⟨p,q,hA0,hV,rfl,hfz,_⟩:=hW;obtain⟨rfl,rfl⟩:=trodVars_none hV;have hpar:f7.params.toList=[27,3,3]:=by kernel_rfl
 have hA:DataW.TrodAll enc Si W 0 (λ_=>Sh) Sh f7.params.toList args.toList ds p:=hA0;rw[hpar]at hA;obtain⟨v0,v1,v2,d0,d1,d2,p0,p1,p2,rfl,rfl,rfl,h0,h1,h2⟩:=trodAll_three hA;have hwt0:(d0.weights Si 27).all (· ≤ reachBytes)=Sh:=by
  refine N0.2 λx hx=>N0.1 hwt x ?_;exact DataW.weights_mem_each (j:=0) (t:=27) (d:=d0) (by kernel_rfl) rfl x hx
 obtain⟨xs0,hin0,hR0⟩:=BU 6 raw22T.st raw22Ok hwt0 (hval 0 27 v0 (by kernel_rfl) rfl) h0;obtain⟨b,l,hb,hl,hx0⟩:=In.raw22 raw22T hin0;rw[hx0]at hR0;obtain⟨n1,hn1,hR1⟩:=C7 (k:=.i64) (by kernel_rfl) (hval 1 3 v1 (by kernel_rfl) rfl) h1;obtain⟨n2,hn2,hR2⟩:=C7 (k:=.i64) (by kernel_rfl) (hval 2 3 v2 (by kernel_rfl) rfl) h2;have hspec:=sa b hb l hl n1 n2 (by have h:=hn1;simp only[Lit.wf,M1,decide_eq_true_eq]at h;exact⟨h.1,h.2⟩) ⟨[],[],0⟩;refine(mZ hspec (w:=W) (vs:=#[v0,v1,v2]) ⟨rfl,λi h1 h2=>?_⟩).mono λe W'⟨he,k1,k2,k3,k4⟩=>?_
 ·match i,h2 with
  |0,_=>exact hR0
  |1,_=>exact hR1
  |2,_=>exact hR2
 ·exact⟨_,he,qh (tb:=4) Np full (by rw[hpar];decide +kernel) rfl (by kernel_rfl) (by kernel_rfl) hW' rfl rfl rfl k1 k2 k3 k4⟩
theorem pJ:Rows.storeRefusesRow.wf (OpenSpec.ofChange Rows.storeRefusesSpec)=Sh:=by kernel_rfl
theorem pH:f7.params.all (Tryz.checked.prog.readableRec ·)=Sh:=by kernel_rfl
theorem pG:namedTie Tryz.checked.prog Rows.storeRefusesRow.named Rows.storeRefusesSpec.vars=Sh:=by kernel_rfl
theorem pF:(Rows.storeRefusesRow.stops == [])=Sh:=by kernel_rfl
theorem pE:(Rows.storeRefusesRow.knobs == [])=Sh:=by kernel_rfl
theorem pD:(Rows.storeRefusesRow.inPlace == Tryz.checked.prog.inPlace 7)=Sh:=by kernel_rfl
theorem oz:(Rows.storeRefusesRow.unfollowed == Tryz.checked.prog.unfollowed 7)=Sh:=by kernel_rfl
theorem ov:(Rows.storeRefusesRow.recurses == Tryz.checked.prog.recurses 7)=Sh:=by kernel_rfl
theorem ou:(Rows.storeRefusesRow.named == Tryz.checked.prog.varsNamed 7)=Sh:=by kernel_rfl
theorem oq:(Rows.storeRefusesRow.maps == (f7.params.toList++Rows.storeRefusesSpec.plain.varTypes Tryz.checked.prog).any (Tryz.checked.prog.mapsRec ·))=Sh:=by kernel_rfl
theorem oo:(Rows.storeRefusesRow.ifaces == (f7.params.toList++Rows.storeRefusesSpec.plain.varTypes Tryz.checked.prog).any (Tryz.checked.prog.ifacesRec ·))=Sh:=by kernel_rfl
theorem om:(Rows.storeRefusesRow.mapsOut == Tryz.checked.prog.mapsAmong f7.resultTypes.toList)=Sh:=by kernel_rfl
theorem ol:(Rows.storeRefusesRow.loops == (f7.params.toList++Rows.storeRefusesSpec.plain.varTypes Tryz.checked.prog).any (Tryz.checked.prog.loopsFrom ·))=Sh:=by kernel_rfl
theorem oj:(Rows.storeRefusesRow.wideKeys == (f7.params.toList++Rows.storeRefusesSpec.plain.varTypes Tryz.checked.prog++f7.resultTypes.toList).any (Tryz.checked.prog.wideKeysFrom ·))=Sh:=by kernel_rfl
theorem oi:Rows.storeRefusesSpec.vars.all (Tryz.checked.prog.varReadable ·)=Sh:=by kernel_rfl
theorem oe:f7.resultTypes.all (λt=>Tryz.checked.prog.readableRec t&&decide (t<Tryz.checked.prog.types.size))=Sh:=by kernel_rfl
theorem oc:(Rows.storeRefusesRow.ifacesOut == f7.resultTypes.toList.any (Tryz.checked.prog.ifacesRec ·))=Sh:=by kernel_rfl
theorem n8:(Rows.storeRefusesRow.loopsOut == f7.resultTypes.toList.any (Tryz.checked.prog.loopsFrom ·))=Sh:=by kernel_rfl
theorem nZ:(Rows.storeRefusesRow.plainKeys == Tryz.checked.prog.plainKeys)=Sh:=by kernel_rfl
theorem nY:Rows.storeRefusesRow.shortTexts.isNone=Sh:=by kernel_rfl
theorem nX:(Rows.storeRefusesRow.lifted == Tryz.checked.prog.liftsFinal)=Sh:=by kernel_rfl
theorem nW:(Tryz.checked.prog.make == Sd Rows.storeRefusesRow.make)=Sh:=by kernel_rfl
theorem nV:(Rows.storeRefusesRow.kinds == (if Rows.storeRefusesRow.domain.isEmpty then[]else f7.params.toList.map λt=>match Tryz.checked.prog.underlying t with|some (.int k)=>Sd k|_=>Sf))=Sh:=by kernel_rfl
theorem nU:(Rows.storeRefusesRow.pinned == Rows.storeRefusesRow.pinnedBy)=Sh:=by kernel_rfl
theorem nT:(Rows.storeRefusesRow.veiled == (f7.params.toList++Rows.storeRefusesSpec.plain.varTypes Tryz.checked.prog++f7.resultTypes.toList).any (Tryz.checked.prog.veiledRec ·))=Sh:=by kernel_rfl
theorem nS:Rows.storeRefusesRow.veiledFits Tryz.checked.prog f7.params.toList (f7.params.toList++Rows.storeRefusesSpec.plain.varTypes Tryz.checked.prog++f7.resultTypes.toList)=Sh:=by kernel_rfl
theorem lq:joinedFacts Tryz.checked.prog 7 f7 Rows.storeRefusesSpec Rows.storeRefusesRow=Sh:=by unfold joinedFacts;exact(aY (aY (aY (aY (aY (aY (aY (aY (aY (aY (aY (aY (aY (aY (aY (aY (aY (aY (aY (aY (aY (aY (aY (aY (aY (aY (aY (aY (aY (aY (aY pJ Nt) Ns) pH) pG) pF) Nr) pE) Nq) pD) oz) ov) ou) oq) oo) om) ol) oj) oi) oe) oc) n8) nZ) nY) Iy) Ix) nX) nW) nV) nU) nT) nS)
theorem refuses_holds:Rows.StoreRefusesSaid:=
 OpenClaim.holds_of_wide 7 f7 rfl rfl rfl rfl rfl rfl rfl ⟨rfl,rfl,rfl,rfl,rfl⟩ rfl rfl rfl rfl rfl (by kernel_rfl) func7 lq
  (of_decide_eq_true (by kernel_rfl)) (by unfold Func.isWrapper;first|(rw[if_pos (by decide +kernel)];kernel_rfl)|(rw[if_neg (by decide +kernel)];exact⟨rfl,rfl⟩))
  (λos started H enc _=>lp os started H enc)
#print axioms refuses_holds
end Go.Proofs.YtlobjjbchnjfiaaGreat
