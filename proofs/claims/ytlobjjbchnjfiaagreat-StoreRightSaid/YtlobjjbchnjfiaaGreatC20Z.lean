/-
  StoreRight answers true at every input. No condition.
-/
import Derived.Test.YtlobjjbchnjfiaaGreatBast10
import Derived.Test.YtlobjjbchnjfiaaGreatBast7
import Derived.Test.YtlobjjbchnjfiaaGreatRows
open Option renaming getD_some→OB,isSome_some→OQ
open Nat renaming le_refl→K6,zero_le→L7
open List renaming take→Qc,drop→Qd,append_assoc→K9,getElem?_eq_getElem→K4,getElem_mem→NY,getD_cons_zero→N8,getD_cons_succ→N7,contains_cons→N9,contains_nil→Of,all_eq_true→N0
open Int renaming toNat_natCast→K3
open Bool renaming true_or→M6,false_or→L5,true_and→K8,or_false→M4,or_true→NW
open Nat renaming reduceAdd → zA, reduceSub → zS, reduceMul → zM, reduceLeDiff → zL, reduceEqDiff → zE, reduceBEq → zB
open Go.V.D renaming junk → J
set_option linter.all false
set_option linter.unusedSimpArgs false
set_option linter.unusedVariables false
set_option linter.unnecessarySimpa false
open Option renaming some→Sd
open Bool renaming false→Se
open Option renaming none→Sf
open Bool renaming true→Sh
open Go.Proofs.Tryz renaming prog→Si
namespace Go.V
open Go.Proofs Go.Proofs.Tryz
set_option maxRecDepth 20000
set_option maxHeartbeats 4000000
theorem vsRaw:(∀b l,(rawD b l).length=2)∧(∀b l,(rawD b l).take 2=rawD b l)∧(∀b l,(rawD b l).map D.plain1=rawD b l)∧(∀h:Hi,(h.cells.drop 10)[0]?=Sd (.slice .none (aM h.es))):=⟨λ_ _=>rfl,λ_ _=>rfl,λ_ _=>rfl,λ_=>rfl⟩
theorem playC_some{h:Hi}(h0:programS h.first=0):playC h=apC (playS h):=by rw[playC,if_pos h0]
theorem Kk{n m:Nat}{p:Pg}(h:PgN n m p)(hn:n≤12)(id:Int):(wDf ((findS p id).getD Df.zero)).length≤1000000:=by
 cases hf:findS p id with
 |none=>decide
 |some d =>
  obtain⟨hd,_⟩:=cY hf;have h1:=LP ((Gd.of h.pr).defOk hd) (h.df d hd).sm;have h2:=(h.df d hd).ct;have h3:=(h.df d hd).ca;rw[OB];omega
def nam1(e:Ed)(id:Int):Bool:=(decide (id=e.a)&&decide (e.op≠1)) ||(e.drop.contains id&&decide (e.op=1))
theorem MM(e:Ed)(id:Int):namedB e id=(nam1 e id ||e.defs.any λd=>decide (d.id=id)):=rfl
theorem wm(b:List Int)(hb:∀x∈b,0≤x∧x<256)(l:List W4)(hl:∀z∈l,z.Ok)(x:W4)(hx:x.Ok)(s:St) :
  az Si 3 [.agg (rawD b l),.agg x.cells] s (.bool Sh) s:=by
 obtain⟨B,L,c⟩:=s;have hI:=Fi hb (most:=6) (by omega) l;have hM:=λs=>t8 b hb l hl 6 (by omega) s;generalize madeA b l 6=q0 at hI hM;obtain⟨⟨p0,es⟩,p⟩:=q0;have hln:es.length≤6:=hI.ln;have hN:HiN (2+es.length) 4 ⟨p0,es⟩:=hI.hN;have hpl:playS ⟨p0,es⟩=Sd p:=hI.pl;have hpN:PgN (2+es.length) (4+es.length) p:=hI.pN;have hpR:=Gd.of hpN.pr;have hp0:programS p0=0:=hN.fi.pr;have hpC:∀l:List Ed,playC ⟨p0,l⟩=apC (playS ⟨p0,l⟩):=λl=>playC_some hp0;have hPR:PgR p0:=⟨λd hd=>by have:=(hN.fi.df d hd).nm;omega,λd hd=>by have:=(hN.fi.df d hd).ct;omega⟩;have hbl:∀d∈p.defs,d.body.length≤100000:=λd hd=>by
  have h1:=(hpN.df d hd).ct;have h2:d.body.length≤cu d.body:=by rw[jO];omega
  omega
 have hed:=λs=>ua ⟨p0,es⟩ p x hx hN (by omega) (by show es.length≤30;omega) (by have:=hpR.dl;omega) hbl (by have:=hpR.tl;omega) s;have heN:EdN (2+es.length+1) (editS ⟨p0,es⟩ p x)∧(editS ⟨p0,es⟩ p x).defs.length≤1:=BR hpN (by omega) ⟨p0,es⟩ x;generalize editS ⟨p0,es⟩ p x=e at hed heN;have hpN':PgN (2+es.length+1) (4+es.length) p:=hpN.mono (by omega) (K6 _);have hma:4+es.length+(if e.op=1 then e.defs.length else 0)≤12:=by have:=heN.2;split<;>omega
 have hap:=λs=>eU p e (ApH.of hpN' heN.1 (by omega) hma) s;have hz13:∀(d:Df)(b:D),Qc 13 (d.cells++[b])=d.cells++[b]:=λ_ _=>rfl;have hzb:∀(d:Df)(b:D),(Qd 12 (d.cells++[b]))[0]?=Sd b:=λ_ _=>rfl;refine az.introN [(15,.cut),(21,.stop),(28,.text [Se,Se,Se,Se,Se,Se,Se,Se,Se,Se,Se,Se,Se,Sh,Sh,Se] [(1,1),(4,1),(8,1),(9,1)]),(29,.text [Se,Se,Se,Se,Se,Se,Se,Se,Se,Se,Sh,Sh,Se,Se] [(3,1)])] func3 rfl (by decide) aA (by kernel_rfl) [ResultVar.tmp 4] 186 rfl rfl ?_;simp only[vqM,zA,zS,zB];refine aa (kw _) ?_;simp only[vqM,cZ,zB,vsRaw];refine aa (hM _) ?_;simp only[vqM,cZ,zA,zB,vsH,bf,bG];refine aa (t7 ⟨p0,es⟩ hPR (λ_=>hN) (by omega) (by show es.length≤30;omega) _) ?_;rw[hpC,hpl];have hcd:∀x:Cd,x.cells[10]?=Sd (.int .i64 x.e):=λ_=>rfl;simp only[vqM,cZ,zA,zB,vsH,bf,fj,aW,aQ,bG];refine aa (hed _) ?_;simp only[vqM,cZ,zA,zB,vsE];refine aa (hap _) ?_;cases hq:applyS p e with
 |none =>
  have d1:decide ((220:Int)≠0)=Sh:=rfl;have d2:decide ((220:Int)=220)=Sh:=rfl;have hnd:∀r:Option Pg,((apC r).cells.drop 8)[0]?=Sd (.slice .none (ax (apC r).p.defs)):=λ_=>rfl;have hzd:(apC Sf).p.defs=[]:=rfl;simp only[vqM,cZ,zA,zB,aW,aQ,d1,hnd,hzd,ah,decide_true];refine SB ?_ (.bool _);simp only[vqM]
 |some q =>
  have d1:decide ((0:Int)≠0)=Se:=rfl;have hqN:PgN (2+es.length+1) (4+es.length+(if e.op=1 then e.defs.length else 0)) q:=hpN'.apply heN.1 hq;have hqR:=Gd.of hqN.pr;simp only[vqM,cZ,zA,zB,aW,aQ,d1];refine aa (p8 q (hqN.ok (by omega)) _) ?_;rw[hqN.pr];simp only[vqM,zB,d1];refine ae [5,7,8,9,10] ?_;simp only[vke,zB,zA];have hpg7:∀p:Pg,(p.cells.drop 7)[0]?=Sd (.slice .none (aO p.heads)):=λ_=>rfl;have hpq8:∀r:Option Pg,((apC r).cells.drop 8)[0]?=Sd (.slice .none (ax (apC r).p.defs)):=λ_=>rfl;obtain⟨bx,hbx⟩:∃bx,bx=[Box.cells (rawD b l),.cells x.cells,.cells (Hi.mk p0 es).cells,.cells p.cells,.cells e.cells,.cells (apC (Sd q)).cells]:=⟨_,rfl⟩;rw[←hbx];have f7:∀X,(B++bx++X)[B.length+3]?=Sd (.cells p.cells):=λX=>by rw[K9,bq,hbx];rfl
  have f8:∀X,(B++bx++X)[B.length+4]?=Sd (.cells e.cells):=λX=>by rw[K9,bq,hbx];rfl
  have f9:∀X,(B++bx++X)[B.length+5]?=Sd (.cells (apC (Sd q)).cells):=λX=>by rw[K9,bq,hbx];rfl
  obtain⟨C0,hC0⟩:∃C,C=B++bx:=⟨_,rfl⟩;have hCB:∃X,C0=B++X:=⟨bx,hC0⟩;rw[←hC0]at f7 f8 f9⊢;clear hC0 hbx;refine aE aA p.heads.length (λk en s=>∃C,(∃X,C=C0++X)∧en=[J,J,J,J,J,.bool Sh,J,.box (B.length+3) 0,.box (B.length+4) 0,.box (B.length+5) 0,.int .i64 (k:Int),J,J,J,J,J,J,J,J,J,J,J,J,J,J,J,J,J,J,J,J,J,J,J,J,J,J,J,J,J,J,J,J,J,J,J,J,J,J,J,J,J,J,J,J,J,J,J,J,J,J,J,J,J,J,J,J,J,J,J,J,J,J,J,J,J,J,J,J,J,J,J,J,J,J,J,J,J,J,J,J,J,J,J,J,J,J,J,J,J,J,J,J,J,J,J,J,J,J,J,J,J,J,J,J,J,J,J,J,J,J,J,J,J,J,J,J,J,J,J,J,J,J,J,J,J,J,J,J,J,J,J,J,J,J,J,J,J,J,J,J,J,J,J,J,J,J,J,J,J,J,J,J,J,J,J,J,J,J,J,J,J,J,J,J,J,J,J,J,J,J,J,J,J,J,J]∧s=⟨C,L,c⟩) ?_ ?_ 0 _ _ (L7 _) ⟨C0,⟨[],by simp⟩,rfl,rfl⟩
  ·rintro k en s hk ⟨C,hC,rfl,rfl⟩ ih;have g7:=cO f7 hC;have g8:=cO f8 hC;have g9:=cO f9 hC;have c7:=bV g7;have c8:=bV g8;have c9:=bV g9;have hy:p.heads[k]?=Sd p.heads[k]:=K4 hk;have hgy:=fo hy;have hklt:((k:Int)<(p.heads.length:Int))=True:=by simp;exact hk
   have hhd:=hpR.head (NY hk);generalize p.heads[k]=y at hy hgy hhd;simp only[vqM,cZ,zA,zB,aw,hpg7,decide_true,hklt,c7];refine kl ?_;simp only[vqM,cZ,zA,hpg7,natle0,K3,c7,hgy];refine ae [5,7,8,9,10,11] ?_;simp only[vke,zB,zA];refine fD (λe1 s=>keep [5,7,8,9,10,11,12] e1=[J,J,J,J,J,.bool Sh,J,.box (B.length+3) 0,.box (B.length+4) 0,.box (B.length+5) 0,.int .i64 (k:Int),.int .i64 y.id,.bool (nam1 e y.id),J,J,J,J,J,J,J,J,J,J,J,J,J,J,J,J,J,J,J,J,J,J,J,J,J,J,J,J,J,J,J,J,J,J,J,J,J,J,J,J,J,J,J,J,J,J,J,J,J,J,J,J,J,J,J,J,J,J,J,J,J,J,J,J,J,J,J,J,J,J,J,J,J,J,J,J,J,J,J,J,J,J,J,J,J,J,J,J,J,J,J,J,J,J,J,J,J,J,J,J,J,J,J,J,J,J,J,J,J,J,J,J,J,J,J,J,J,J,J,J,J,J,J,J,J,J,J,J,J,J,J,J,J,J,J,J,J,J,J,J,J,J,J,J,J,J,J,J,J,J,J,J,J,J,J,J,J,J,J,J,J,J,J,J,J,J,J,J,J,J,J,J,J]∧s=⟨C,L,c⟩) ?_ ?_
   ·refine cI aA ?_;have hnm:nam1 e y.id=((decide (y.id=e.a)&&decide (e.op≠1)) ||(e.drop.contains y.id&&decide (e.op=1))):=rfl;by_cases hc:(decide (y.id=e.a)&&decide (e.op≠1))=Sh
    ·rw[hc,M6]at hnm;rw[Bool.and_eq_true]at hc;rw[hnm];simp only[vqM,cZ,zA,vsE,c8,hc.1,hc.2];exact bM ⟨by simp only[vke,zB,zA],rfl⟩
    ·rw[Bool.not_eq_true]at hc;rw[hc,L5]at hnm;rw[hnm];cases c1:decide (y.id=e.a);case' true =>
      rw[c1,K8]at hc;simp only[vqM,cZ,zA,vsE,c8,c1,hc]
     case' false =>
      simp only[vqM,cZ,zA,vsE,c8,c1]
     all_goals
      refine aa (kV _ _ _) ?_;cases h2:e.drop.contains y.id with
      |true =>
       rw[K8];simp only[vqM,cZ,zA,vsE,c8];exact bM ⟨by simp only[vke,zB,zA],rfl⟩
      |false =>
       rw[Bool.false_and];simp only[vqM];exact bM ⟨by simp only[vke,zB,zA],rfl⟩
   rintro e1 s ⟨he,rfl⟩;refine ae [5,7,8,9,10,11,12] ?_;rw[he];clear he;refine dJ ?_;refine cI aA ?_;simp only[vqM,zB];refine ae [5,7,8,9,10,11,12,13] ?_;simp only[vke,zB,zA];refine aE aA e.defs.length (λj e1 s=>e1=[J,J,J,J,J,.bool Sh,J,.box (B.length+3) 0,.box (B.length+4) 0,.box (B.length+5) 0,.int .i64 (k:Int),.int .i64 y.id,.bool (nam1 e y.id ||(e.defs.take j).any λd=>decide (d.id=y.id)),.int .i64 (j:Int),J,J,J,J,J,J,J,J,J,J,J,J,J,J,J,J,J,J,J,J,J,J,J,J,J,J,J,J,J,J,J,J,J,J,J,J,J,J,J,J,J,J,J,J,J,J,J,J,J,J,J,J,J,J,J,J,J,J,J,J,J,J,J,J,J,J,J,J,J,J,J,J,J,J,J,J,J,J,J,J,J,J,J,J,J,J,J,J,J,J,J,J,J,J,J,J,J,J,J,J,J,J,J,J,J,J,J,J,J,J,J,J,J,J,J,J,J,J,J,J,J,J,J,J,J,J,J,J,J,J,J,J,J,J,J,J,J,J,J,J,J,J,J,J,J,J,J,J,J,J,J,J,J,J,J,J,J,J,J,J,J,J,J,J,J,J,J,J,J,J,J,J]∧s=⟨C,L,c⟩) ?_ ?_ 0 _ _ (L7 _) ⟨by simp,rfl⟩
   ·rintro j e1 s hj ⟨rfl,rfl⟩ ihj;have hgd:(ax e.defs)[j]?=Sd (e.defs[j].cells):=by simp[ax,K4 hj]
    have hjlt:((j:Int)<(e.defs.length:Int))=True:=by simp;exact hj
    have hat:=uv (x:=y.id) hj;rw[hat]  at ihj;generalize e.defs[j]=d at hgd hat ihj;generalize(e.defs.take j).any (λd=>decide (d.id=y.id))=a0 at ihj⊢;have hed2:=heN.2;cases hn:nam1 e y.id ||a0 with
    |true =>
     simp only[vqM,cZ,zA,zB,vsE,ah,decide_true,c8,hjlt];rw[ap (by omega)];refine ae [5,7,8,9,10,11,12,13] ?_;simp only[vke,zB,zA];exact ihj _ _ ⟨by rw[←Bool.or_assoc,hn,M6],rfl⟩
    |false =>
     simp only[vqM,cZ,zA,zB,vsE,ah,decide_true,natle0,K3,c8,hjlt,hgd];rw[ap (by omega)];refine ae [5,7,8,9,10,11,12,13] ?_;simp only[vke,zB,zA];exact ihj _ _ ⟨by rw[←Bool.or_assoc,hn,L5],rfl⟩
   rintro e1 s ⟨rfl,rfl⟩;have hjlt:((e.defs.length:Int)<(e.defs.length:Int))=False:=by simp
   rw[List.take_length,←MM];simp only[vqM,cZ,zA,zB,vsE,ah,decide_false,c8,hjlt];refine ae [5,7,8,9,10,11,12] ?_;simp only[vke,zB,zA];have hqd:q.defs.length<1000000:=by have:=hqR.dl;omega
   have hpd:p.defs.length<1000000:=by have:=hpR.dl;omega
   refine dJ ?_;refine jj λ_=>?_;refine ic (λe1 s=>∃C2 i j,keep [5,7,8,9,10,11,12,14,15] e1=[J,J,J,J,J,.bool Sh,J,.box (B.length+3) 0,.box (B.length+4) 0,.box (B.length+5) 0,.int .i64 (k:Int),.int .i64 y.id,.bool (namedB e y.id),J,.box i 0,.box j 0,J,J,J,J,J,J,J,J,J,J,J,J,J,J,J,J,J,J,J,J,J,J,J,J,J,J,J,J,J,J,J,J,J,J,J,J,J,J,J,J,J,J,J,J,J,J,J,J,J,J,J,J,J,J,J,J,J,J,J,J,J,J,J,J,J,J,J,J,J,J,J,J,J,J,J,J,J,J,J,J,J,J,J,J,J,J,J,J,J,J,J,J,J,J,J,J,J,J,J,J,J,J,J,J,J,J,J,J,J,J,J,J,J,J,J,J,J,J,J,J,J,J,J,J,J,J,J,J,J,J,J,J,J,J,J,J,J,J,J,J,J,J,J,J,J,J,J,J,J,J,J,J,J,J,J,J,J,J,J,J,J,J,J,J,J,J,J,J,J,J]∧s=⟨C2,L,c⟩∧Bx2 C C2 i j (((findS p y.id).getD Df.zero).cells++[.bool (findS p y.id).isSome]) (((findS q y.id).getD Df.zero).cells++[.bool (findS q y.id).isSome])) ?_ ?_
   ·skip
    refine eI aA [7,8,9,10] [⟨[0,1,2,3,4,5,6,7,8,9,10],[(0,1),(0,2),(2,1),(2,2),(4,1),(4,2),(6,1),(6,2)]⟩,⟨[0,1,2,3,4,5,6,8,7,9,10],[(0,1),(0,2),(2,1),(2,2),(4,1),(4,2),(6,1),(6,2)]⟩] (by kernel_rfl) λpl hpl=>?_;simp only[List.mem_cons,List.not_mem_nil,or_false]at hpl;rcases hpl with rfl|rfl
    all_goals
     simp only[vqM,cZ,zB,N8,N7,N9,Of,M4,NW,c7]
    all_goals
     repeat' (first
      |(with_reducible refine aB ?_ ?_)
      |(with_reducible refine And.intro ?_ ?_)
      |((with_reducible refine aG ?_);refine aa (fS p y.id hpd _) ?_;simp only[vqM,cZ,zA,aW,aQ,foundD,N8,N7,c9])
      |((with_reducible refine aG ?_);refine aa (fS q y.id hqd _) ?_;simp only[vqM,cZ,zA,aW,aQ,foundD,N8,N7,g7,g9])
      |(with_reducible refine te ?_;simp only[vqM]))
    all_goals
     first
      |(refine aD ⟨_,C.length,C.length+1,?_,rfl,.mk0 rfl⟩;(simp only[vke,zB,zA]);done)
      |(refine aD ⟨_,C.length+1,C.length,?_,rfl,.mk1 rfl⟩;(simp only[vke,zB,zA]);done)
   rintro e1 s ⟨C2,i14,i15,he,rfl,hB2⟩;have hC2:∃X,C2=C0++X:=by
    obtain⟨X,rfl⟩:=hC;obtain⟨Y,hY⟩:=hB2.ex;exact⟨X++Y,by rw[hY,K9]⟩
   have k7:=cO f7 hC2;have k9:=cO f9 hC2;have k14:∀X,(C2++X)[i14]?=_:=λX=>bP hB2.a;have k15:∀X,(C2++X)[i15]?=_:=λX=>bP hB2.b;have n7:=bV k7;have n9:=bV k9;have n14:=bV k14;have n15:=bV k15;clear g7 g8 g9 c7 c8 c9 hB2 hC;simp only[vqM];refine ae [5,7,8,9,10,11,12,14,15] ?_;rw[he];clear he;refine dJ ?_;refine cI aA ?_;simp only[vqM,cZ,zA,aW,aQ,n9];refine aa (iW q y.id _) ?_;have hz6:∀(h:Hd)(b:D),Qc 6 (h.cells++[b])=h.cells++[b]:=λ_ _=>rfl;have hzc:∀(h:Hd)(b:D),(Qd 5 (h.cells++[b]))[0]?=Sd b:=λ_ _=>rfl;have hwk:IntKind.i64.wrap ((k:Int)+1)=((k+1:Nat):Int):=ap (by have:=hpR.hl;omega);simp only[vqM,cZ,zA,bz];refine cI aA ?_;have hzl5:∀(h:Hd)(b:D),Qc 5 (h.cells++[b])=h.cells:=λ_ _=>rfl;have hzl12:∀(h:Df)(b:D),Qc 12 (h.cells++[b])=h.cells:=λ_ _=>rfl;cases hn:namedB e y.id with
   |true =>
    simp only[vqM,zB,hwk];refine ae [5,7,8,9,10] ?_;simp only[vke,zB,zA];refine ih _ _ ⟨_,?_,rfl,rfl⟩;obtain⟨X,rfl⟩:=hC2;exact⟨X++_,by rw[K9]⟩
   |false =>
    obtain⟨hf,hh⟩:=yt hpN.pr hq hn;rw[hhd]at hh;rw[hf]at k15 n15;rw[hh];have hw0:=Kk hpN (by omega) y.id;have hgb:∀b:Bool,decide (b≠b)=Se:=by simp
    generalize(findS p y.id).getD Df.zero=d0 at k14 k15 n14 n15 hw0;cases hfs:(findS p y.id).isSome;all_goals
     rw[hfs]at k14 k15 n14 n15;simp only[vqM,cZ,zA,zL,zB,k14,k15,hzl12,OB,OQ];refine aa (xV d0 d0 hw0 hw0 _) ?_;simp only[vqM,cZ,zA,zL,hpg7,decide_true,natle0,K3,hzl5,k7,hgy];refine aa (jo y y _) ?_;simp only[vqM,decide_true,hwk];refine ae [5,7,8,9,10] ?_;simp only[vke,zB,zA];refine ih _ _ ⟨_,?_,rfl,rfl⟩;obtain⟨X,rfl⟩:=hC2;exact⟨X++_,by rw[K9]⟩
  ·rintro en s ⟨C,hC,rfl,rfl⟩;have g9:=cO f9 hC;have c9:=bV g9;have g7:=cO f7 hC;have c7:=bV g7;have hklt:((p.heads.length:Int)<(p.heads.length:Int))=False:=by simp
   simp only[vqM,cZ,zA,zB,aw,hpg7,decide_false,hklt,c7];refine ae [5,9,17] ?_;simp only[vke,zB,zA];refine aE aA q.defs.length (λk en s=>∃C,(∃X,C=C0++X)∧en=[J,J,J,J,J,.bool Sh,J,J,J,.box (B.length+5) 0,J,J,J,J,J,J,J,.int .i64 (k:Int),J,J,J,J,J,J,J,J,J,J,J,J,J,J,J,J,J,J,J,J,J,J,J,J,J,J,J,J,J,J,J,J,J,J,J,J,J,J,J,J,J,J,J,J,J,J,J,J,J,J,J,J,J,J,J,J,J,J,J,J,J,J,J,J,J,J,J,J,J,J,J,J,J,J,J,J,J,J,J,J,J,J,J,J,J,J,J,J,J,J,J,J,J,J,J,J,J,J,J,J,J,J,J,J,J,J,J,J,J,J,J,J,J,J,J,J,J,J,J,J,J,J,J,J,J,J,J,J,J,J,J,J,J,J,J,J,J,J,J,J,J,J,J,J,J,J,J,J,J,J,J,J,J,J,J,J,J,J,J,J,J,J,J,J,J,J,J,J]∧s=⟨C,L,c⟩) ?_ ?_ 0 _ _ (L7 _) ⟨C,hC,rfl,rfl⟩
   ·clear g7 c7 g9 c9 hC hklt C;rintro k en s hk ⟨C,hC,rfl,rfl⟩ ih;have g9:=cO f9 hC;have c9:=bV g9;have hy:q.defs[k]?=Sd q.defs[k]:=K4 hk;have hgy:(ax q.defs)[k]?=Sd q.defs[k].cells:=by simp[ax,hy]
    have hown:=hqR.own (NY hk);have hklt:((k:Int)<(q.defs.length:Int))=True:=by simp;exact hk
    generalize q.defs[k]=d at hy hgy hown;simp only[vqM,cZ,zA,zB,aW,aQ,ah,hpq8,decide_true,natle0,K3,hklt,c9,hgy];refine aa (ki q d.id _) ?_;rw[hown];simp only[vqM,cZ,zA,aW,aQ,hpq8,dw,OB,OQ,g9];have hwk:IntKind.i64.wrap ((k:Int)+1)=((k+1:Nat):Int):=ap (by have:=hqR.dl;omega);refine aB (aa (ki q d.id _) ?_) ?_
    ·rw[hown];simp only[vqM,dw,OB,OQ]
    simp only[vqM,cZ,zA,zB,aQ,hpq8,natle0,K3,g9,hgy];refine aa (yQ d _) ?_;simp only[vqM];refine aa (jo _ _ _) ?_;simp only[vqM,cZ,decide_true,hwk];refine ae [5,9,17] ?_;simp only[vke,zB,zA];refine ih _ _ ⟨_,?_,rfl,rfl⟩;obtain⟨X,rfl⟩:=hC;exact⟨X++_,by rw[K9]⟩
   ·rintro en s ⟨C,hC,rfl,rfl⟩;have g9:=cO f9 hC;have c9:=bV g9;have hklt:((q.defs.length:Int)<(q.defs.length:Int))=False:=by simp
    simp only[vqM,cZ,zA,zB,aQ,ah,hpq8,decide_false,hklt,c9];obtain⟨X,rfl⟩:=hC;obtain⟨X0,rfl⟩:=hCB;rw[K9];refine SB ?_ (.bool _);simp only[vqM]
end Go.V
namespace Go.Proofs.YtlobjjbchnjfiaaGreat
open Go.V Go.ChangeShapes Go.WideShapes Go.Proofs.Tryz
set_option maxRecDepth 20000
set_option maxHeartbeats 4000000
theorem mT(os:Os)(started:os.Started)(H:Type)(enc:TypeId×Value→H) :
  ReturnsInHanded {} Tryz.checked os 3 .any (Rows.storeRightSpec.pre6 enc Si f3 Rows.storeRightRow.domain Se) (Rows.storeRightSpec.post enc Si f3 Se Rows.storeRightRow.fresh Rows.storeRightRow.handsOn Rows.storeRightRow.again):=by
 refine returnsInHanded_of_change_sized (C:=Tryz.checked) own started (by kernel_rfl) func3
  (ChangeSpec.witness6 (enc:=enc) (C:=Tryz.checked) Se ⟨#[],#[.agg #[.slice Sf 0 0,.slice Sf 0 0],.agg #[.int .u8 0,.int .u8 0,.int .u8 0,.int .u8 0]],[]⟩ 8 (by kernel_rfl) (by kernel_rfl) (by kernel_rfl) (by kernel_rfl)) ?_
 intro W base args ds gs before hval0 hW _ hwt _;have hval:∀(j:Nat)t v,f3.params[j]?=Sd t→args[j]?=Sd v→Value.okWide Si W .any base t v:=hval0;have hW':=hW;obtain⟨p,q,hA0,hV,rfl,hfz,_⟩:=hW;obtain⟨rfl,rfl⟩:=trodVars_none hV;have hpar:f3.params.toList=[27,28]:=by kernel_rfl
 have hA:DataW.TrodAll enc Si W 0 (λ_=>Sh) Sh f3.params.toList args.toList ds p:=hA0;rw[hpar]at hA;obtain⟨v0,v1,d0,d1,p0,p1,rfl,rfl,rfl,h0,h1⟩:=trodAll_two hA;have hwt0:(d0.weights Si 27).all (· ≤ reachBytes)=Sh:=by
  refine N0.2 λx hx=>N0.1 hwt x ?_;exact DataW.weights_mem_each (j:=0) (t:=27) (d:=d0) (by kernel_rfl) rfl x hx
 obtain⟨xs0,hin0,hR0⟩:=BU 6 raw22T.st raw22Ok hwt0 (hval 0 27 v0 (by kernel_rfl) rfl) h0;obtain⟨b,l,hb,hl,hx0⟩:=In.raw22 raw22T hin0;rw[hx0]at hR0;have hwt1:(d1.weights Si 28).all (· ≤ reachBytes)=Sh:=by
  refine N0.2 λx hx=>N0.1 hwt x ?_;exact DataW.weights_mem_each (j:=1) (t:=28) (d:=d1) (by kernel_rfl) rfl x hx
 obtain⟨xs1,hin1,hR1⟩:=C8 6 arr4T.ar arr4Ok hwt1 (hval 1 28 v1 (by kernel_rfl) rfl) h1;obtain⟨x1,hw1,hx1⟩:=In.arr4 arr4T hin1;rw[hx1]at hR1;have hspec:=wm b hb l hl x1 hw1 ⟨[],[],0⟩;refine(mZ hspec (w:=W) (vs:=#[v0,v1]) ⟨rfl,λi h1 h2=>?_⟩).mono λe W'⟨he,k1,k2,k3,k4⟩=>?_
 ·match i,h2 with
  |0,_=>exact hR0
  |1,_=>exact hR1
 ·exact⟨_,he,qh (tb:=4) Np full (by rw[hpar];decide +kernel) rfl (by kernel_rfl) (by kernel_rfl) hW' rfl rfl rfl k1 k2 k3 k4⟩
theorem so:Rows.storeRightRow.wf (OpenSpec.ofChange Rows.storeRightSpec)=Sh:=by kernel_rfl
theorem sk:f3.params.all (Tryz.checked.prog.readableRec ·)=Sh:=by kernel_rfl
theorem sj:namedTie Tryz.checked.prog Rows.storeRightRow.named Rows.storeRightSpec.vars=Sh:=by kernel_rfl
theorem sh:(Rows.storeRightRow.stops == [])=Sh:=by kernel_rfl
theorem sg:(Rows.storeRightRow.knobs == [])=Sh:=by kernel_rfl
theorem sf:(Rows.storeRightRow.inPlace == Tryz.checked.prog.inPlace 3)=Sh:=by kernel_rfl
theorem rH:(Rows.storeRightRow.unfollowed == Tryz.checked.prog.unfollowed 3)=Sh:=by kernel_rfl
theorem rG:(Rows.storeRightRow.recurses == Tryz.checked.prog.recurses 3)=Sh:=by kernel_rfl
theorem rF:(Rows.storeRightRow.named == Tryz.checked.prog.varsNamed 3)=Sh:=by kernel_rfl
theorem rE:(Rows.storeRightRow.maps == (f3.params.toList++Rows.storeRightSpec.plain.varTypes Tryz.checked.prog).any (Tryz.checked.prog.mapsRec ·))=Sh:=by kernel_rfl
theorem rD:(Rows.storeRightRow.ifaces == (f3.params.toList++Rows.storeRightSpec.plain.varTypes Tryz.checked.prog).any (Tryz.checked.prog.ifacesRec ·))=Sh:=by kernel_rfl
theorem rC:(Rows.storeRightRow.mapsOut == Tryz.checked.prog.mapsAmong f3.resultTypes.toList)=Sh:=by kernel_rfl
theorem rB:(Rows.storeRightRow.loops == (f3.params.toList++Rows.storeRightSpec.plain.varTypes Tryz.checked.prog).any (Tryz.checked.prog.loopsFrom ·))=Sh:=by kernel_rfl
theorem rA:(Rows.storeRightRow.wideKeys == (f3.params.toList++Rows.storeRightSpec.plain.varTypes Tryz.checked.prog++f3.resultTypes.toList).any (Tryz.checked.prog.wideKeysFrom ·))=Sh:=by kernel_rfl
theorem rz:Rows.storeRightSpec.vars.all (Tryz.checked.prog.varReadable ·)=Sh:=by kernel_rfl
theorem rv:f3.resultTypes.all (λt=>Tryz.checked.prog.readableRec t&&decide (t<Tryz.checked.prog.types.size))=Sh:=by kernel_rfl
theorem ru:(Rows.storeRightRow.ifacesOut == f3.resultTypes.toList.any (Tryz.checked.prog.ifacesRec ·))=Sh:=by kernel_rfl
theorem rr:(Rows.storeRightRow.loopsOut == f3.resultTypes.toList.any (Tryz.checked.prog.loopsFrom ·))=Sh:=by kernel_rfl
theorem rq:(Rows.storeRightRow.plainKeys == Tryz.checked.prog.plainKeys)=Sh:=by kernel_rfl
theorem rp:Rows.storeRightRow.shortTexts.isNone=Sh:=by kernel_rfl
theorem rn:(Rows.storeRightRow.lifted == Tryz.checked.prog.liftsFinal)=Sh:=by kernel_rfl
theorem rm:(Tryz.checked.prog.make == Sd Rows.storeRightRow.make)=Sh:=by kernel_rfl
theorem rk:(Rows.storeRightRow.kinds == (if Rows.storeRightRow.domain.isEmpty then[]else f3.params.toList.map λt=>match Tryz.checked.prog.underlying t with|some (.int k)=>Sd k|_=>Sf))=Sh:=by kernel_rfl
theorem rj:(Rows.storeRightRow.pinned == Rows.storeRightRow.pinnedBy)=Sh:=by kernel_rfl
theorem ri:(Rows.storeRightRow.veiled == (f3.params.toList++Rows.storeRightSpec.plain.varTypes Tryz.checked.prog++f3.resultTypes.toList).any (Tryz.checked.prog.veiledRec ·))=Sh:=by kernel_rfl
theorem rh:Rows.storeRightRow.veiledFits Tryz.checked.prog f3.params.toList (f3.params.toList++Rows.storeRightSpec.plain.varTypes Tryz.checked.prog++f3.resultTypes.toList)=Sh:=by kernel_rfl
theorem mU:joinedFacts Tryz.checked.prog 3 f3 Rows.storeRightSpec Rows.storeRightRow=Sh:=by unfold joinedFacts;exact(aY (aY (aY (aY (aY (aY (aY (aY (aY (aY (aY (aY (aY (aY (aY (aY (aY (aY (aY (aY (aY (aY (aY (aY (aY (aY (aY (aY (aY (aY (aY so Nt) Ns) sk) sj) sh) Nr) sg) Nq) sf) rH) rG) rF) rE) rD) rC) rB) rA) rz) rv) ru) rr) rq) rp) Iy) Ix) rn) rm) rk) rj) ri) rh)
theorem right_holds:Rows.StoreRightSaid:=
 OpenClaim.holds_of_wide 3 f3 rfl rfl rfl rfl rfl rfl rfl ⟨rfl,rfl,rfl,rfl,rfl⟩ rfl rfl rfl rfl rfl (by kernel_rfl) func3 mU
  (of_decide_eq_true (by kernel_rfl)) (by unfold Func.isWrapper;first|(rw[if_pos (by decide +kernel)];kernel_rfl)|(rw[if_neg (by decide +kernel)];exact⟨rfl,rfl⟩))
  (λos started H enc _=>mT os started H enc)
#print axioms right_holds
end Go.Proofs.YtlobjjbchnjfiaaGreat
