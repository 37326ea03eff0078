/-
  StoreReverts answers true at every input. No condition.
-/
import Derived.Test.YtlobjjbchnjfiaaGreatBast10
import Derived.Test.YtlobjjbchnjfiaaGreatRows
open Nat renaming le_refl→K6
open List renaming length_append→K5,length_singleton→OA,mem_cons→NX,not_mem_nil→Ot,getD_cons_zero→N8,getD_cons_succ→N7,contains_cons→N9,contains_nil→Of,append_assoc→K9,all_eq_true→N0
open Bool renaming or_false→M4,or_true→NW,true_or→M6,false_or→L5
open Nat renaming reduceAdd → zA, reduceSub → zS, reduceMul → zM, reduceLeDiff → zL, reduceEqDiff → zE, reduceBEq → zB
open Go.V.D renaming junk → J
set_option linter.all false
set_option linter.unusedSimpArgs false
set_option linter.unusedVariables false
set_option linter.unnecessarySimpa false
open Option renaming some→Sd
open Bool renaming false→Se
open Option renaming none→Sf
open Bool renaming true→Sh
open Go.Proofs.Tryz renaming prog→Si
namespace Go.V
open Go.Proofs Go.Proofs.Tryz
set_option maxRecDepth 20000
set_option maxHeartbeats 4000000
theorem BL{n:Nat}:∀{l:List (Ed×Bool)}{m:Nat}{p q:Pg},PgN n m p→(∀x∈l,EdN n x.1∧x.1.defs.length≤1)→iI p l=Sd q→PgN n (m+cntD (l.map (·.1))) q
 | [],m,p,q,h,_,e=>by cases e;exact h
 |(x,f)::l,m,p,q,h,hl,e=>by
  rw[iI]at e;have hx:=hl (x,f) (by simp);have hl':∀y∈l,EdN n y.1∧y.1.defs.length≤1:=λy hy=>hl y (by simp[hy]);have hc:cntD (((x,f)::l).map (·.1))=(if x.op=1 then 1 else 0)+cntD (l.map (·.1)):=by
   rw[List.map_cons,show x::l.map (·.1)=[x]++l.map (·.1) from rfl,lX];congr 1;by_cases e:x.op=1<;>simp[cntD,e]
  rw[hc];split at e
  ·obtain⟨r,h1,h2⟩:=Option.bind_eq_some_iff.1 e;have h3:=h.apply hx.1 h1;have h4:=BL h3 hl' h2;refine h4.mono (K6 _) ?_;have:=hx.2
   by_cases e1:x.op=1
   ·rw[if_pos e1,if_pos e1];omega
   ·rw[if_neg e1,if_neg e1];omega
  ·exact(BL h hl' e).mono (K6 _) (by omega)
theorem JW{n m:Nat}{h:Hi}{p:Pg}(H:HiN n m h)(e:playS h=Sd p):PgN n (m+cntD h.es) p:=by
 have h1:=lN e;have h2:=BL H.fi (λx hx=>H.ed _ (wE hx)) h1;rwa[List.map_fst_zip (by rw[dU];exact K6 _)]at h2
theorem Gm{n m:Nat}{h:Hi}{p:Pg}(H:HiN n m h)(hn:n≤12)(hm:m+cntD h.es≤12)(e:playS h=Sd p):(wPg p).length≤1000000:=by
 have:=ME (JW H e) hn hm;omega
theorem Ia{n m:Nat}{h:Hi}(H:HiN n m h)(hn:n≤12)(hm:m+cntD h.es≤12):(wPg (apC (playS h)).p).length≤1000000:=by
 cases e:playS h with
 |none=>have:=L8;show(wPg Pg.zero).length≤_;omega
 |some p=>exact Gm H hn hm e
theorem vsRaw:(∀b l,(rawD b l).length=2)∧(∀b l,(rawD b l).take 2=rawD b l)∧(∀b l,(rawD b l).map D.plain1=rawD b l)∧(∀h:Hi,(h.cells.drop 10)[0]?=Sd (.slice .none (aM h.es))):=⟨λ_ _=>rfl,λ_ _=>rfl,λ_ _=>rfl,λ_=>rfl⟩
theorem playC_some{h:Hi}(h0:programS h.first=0):playC h=apC (playS h):=by rw[playC,if_pos h0]
theorem rZ(b:List Int)(hb:∀x∈b,0≤x∧x<256)(l:List W4)(hl:∀z∈l,z.Ok)(x:W4)(hx:x.Ok)(s:St) :
  az Si 4 [.agg (rawD b l),.agg x.cells] s (.bool Sh) s:=by
 obtain⟨B,L,c⟩:=s;have hI:=Fi hb (most:=6) (by omega) l;have hM:=λs=>t8 b hb l hl 6 (by omega) s;generalize madeA b l 6=q0 at hI hM;obtain⟨⟨p0,es⟩,p⟩:=q0;have hln:es.length≤6:=hI.ln;have hN:HiN (2+es.length) 4 ⟨p0,es⟩:=hI.hN;have hpl:playS ⟨p0,es⟩=Sd p:=hI.pl;have hpN:PgN (2+es.length) (4+es.length) p:=hI.pN;have hpR:=Gd.of hpN.pr;have hp0:programS p0=0:=hN.fi.pr;have hok:PgOk p0:=hN.fi.ok (by omega);have hce:∀e:Ed,cntD (es++[e])≤7:=λe=>by have:=pO (es++[e]);simp only[K5,OA]at this;omega
 have hbl:∀d∈p.defs,d.body.length≤100000:=λd hd=>by
  have h1:=(hpN.df d hd).ct;have h2:d.body.length≤cu d.body:=by rw[jO];omega
  omega
 have hed:=λs=>ua ⟨p0,es⟩ p x hx hN (by omega) (by show es.length≤30;omega) (by have:=hpR.dl;omega) hbl (by have:=hpR.tl;omega) s;have hqe:HiN (2+(es.length+1)) 4 ⟨p0,es++[editS ⟨p0,es⟩ p x]⟩:=by
  have h1:=BR hpN (by omega) ⟨p0,es⟩ x;exact(hN.mono (by omega)).snoc ⟨h1.1.mono (by omega),h1.2⟩
 generalize editS ⟨p0,es⟩ p x=e at hed hqe;have hN2:∀m:List Ed,(∀y∈m,∃a,y=revE a)→HiN (2+(es.length+1)) 4 ⟨p0,es++[e]++m⟩:=λm hm=>⟨hqe.fi,λy hy=>by
  rcases List.mem_append.1 hy with h1|h1
  ·exact hqe.ed y h1
  ·obtain⟨a,rfl⟩:=hm y h1;exact⟨tE _ _,by simp[revE]⟩⟩
 have hc2:∀m:List Ed,(∀y∈m,∃a,y=revE a)→cntD (es++[e]++m)≤7:=λm hm=>by
  rw[lX];have:cntD m=0:=by
   rw[cntD,List.length_eq_zero_iff,List.filter_eq_nil_iff];intro y hy;obtain⟨a,rfl⟩:=hm y hy;simp[revE]
  have:=hce e
  omega
 have hpC:∀l:List Ed,playC ⟨p0,l⟩=apC (playS ⟨p0,l⟩):=λl=>playC_some hp0;refine az.introN [(6,.cut),(7,.stop),(13,.stop),(14,.stop)] func4 rfl (by decide) aA (by kernel_rfl) [ResultVar.tmp 4] 98 rfl rfl ?_;simp only[vqM,zA,zS,zB];refine aa (kw _) ?_;simp only[vqM,de,zB,vsRaw];refine aa (hM _) ?_;simp only[vqM,de,zA,zB,vsH,vsRaw,af];refine kl ?_;simp only[vqM,de,vsH,bf,bG];refine aa (iA ⟨p0,es⟩ hok (λ_=>hN) (by omega) (by have:=pO es;show 4+cntD es≤12;omega) (by show es.length≤30;omega) _) ?_;rw[hpC,hpl];simp only[vqM,de,zA,aW];refine ae [3,4,5,6,7,8] ?_;simp only[vke,zB,zA];refine dJ ?_;refine jj λ_=>?_;refine ic (λe1 s=>keep [3,4,5,6,7,8,9] e1=[J,J,J,.box (B.length+1) 0,.bool Se,.bool Sh,.box (B.length+2) 0,.int .i64 es.length,.box (B.length+3) 0,.box (B.length+4) 0,J,J,J,J,J,J,J,J,J,J,J,J,J,J,J,J,J,J,J,J,J,J,J,J,J,J,J,J,J,J,J,J,J,J,J,J,J,J,J,J,J,J,J,J,J,J,J,J,J,J,J,J,J,J,J,J,J,J,J,J,J,J,J,J,J,J,J,J,J,J,J,J,J,J,J,J,J,J,J,J,J,J,J,J,J,J,J,J]∧s=⟨B++[.cells (rawD b l),.cells x.cells,.cells (Hi.mk p0 es).cells,.cells (apC (Sd p)).cells,.cells (Hi.mk p0 (es++[e])).cells],L,c⟩) ?_ ?_
 ·skip
  refine eI aA [8,9] [⟨[0,1,2,3,4,5,6,7,8,9],[(0,1),(1,1),(3,1),(4,1),(5,1),(7,1)]⟩] (by kernel_rfl) λpl hpl=>?_;simp only[NX,Ot,or_false]at hpl;rcases hpl with rfl
  all_goals
   simp only[vqM,de,zA,zB,vsH,bf,fj,aW,aQ,bG,N8,N7,N9,Of,M4,NW]
  all_goals
   repeat' (first
    |(with_reducible refine aB ?_ ?_)
    |(with_reducible refine And.intro ?_ ?_)
    |((with_reducible refine aG ?_);refine aa (hed _) ?_;simp only[vqM,de,zA,zM,zL,bf,vsE,N8,N7])
    |((with_reducible refine aG ?_);refine aa (fQ ⟨p0,es⟩ [e] (by simp;omega) _) ?_;simp only[vqM,de,zA,vsH,bf,fj,aW,aQ,bG,N8,N7])
    |(with_reducible refine te ?_;simp only[vqM]))
  all_goals exact aD ⟨by simp only[vke,zB,zA],rfl⟩
 rintro e1 s ⟨he,rfl⟩;simp only[vqM];refine ae [3,4,5,6,7,8,9] ?_;rw[he];clear he;have dn0:decide ((0:Int)≠0)=Se:=rfl;have dn2:decide ((220:Int)≠0)=Sh:=rfl;have dn3:decide ((220:Int)=220)=Sh:=rfl;refine dJ ?_;refine cI aA ?_;simp only[vqM,de,vsH,bf,bG];refine aa (iA ⟨p0,es++[e]⟩ hok (λ_=>hqe) (by omega) (by have:=hce e;show 4+cntD (es++[e])≤12;omega) (by simp only[K5,OA];omega) _) ?_;rw[hpC];cases hq:playS ⟨p0,es++[e]⟩with
 |none =>
  simp only[vqM,de,zA,aW];refine cI aA ?_;simp only[vqM,de,zA,zB,aW,aQ,decide_true,dn0,dn2];refine SB ?_ (.bool _);simp only[vqM]
 |some q =>
  have r1:=m7 hpl hq;have r2:=sN hpl hq;have r3:=wt (first:=p0) (q:=p) (l:=es) (e:=e);have r4:=m8 (first:=p0) (l:=es++[e]) (a:=(es.length:Int)+1) (.inr (by simp));have hOne:playC ⟨p0,es++[e]++[revE es.length]⟩=apC (Sd p):=by rw[hpC,r1]
  have hTwo:playC ⟨p0,es++[e]++[revE es.length,revE ((es.length:Int)+1)]⟩=apC (Sd q):=by
   rw[hpC,←r2];congr 2;simp
  have hAgain:playC ⟨p0,es++[e]++[revE es.length,revE es.length]⟩=apC Sf:=by
   rw[hpC,←r3];congr 2;simp
  have hSelf:playC ⟨p0,es++[e]++[revE ((es.length:Int)+1)]⟩=apC Sf:=by rw[hpC,r4]
  have hw1:IntKind.i64.wrap ((es.length:Int)+1)=(es.length:Int)+1:=aK (by omega);have hP:=λ(m:List Ed)(hm:∀y∈m,∃a,y=revE a)(hl:m.length≤2)s=>iA ⟨p0,es++[e]++m⟩ hok (λ_=>hN2 m hm) (by omega) (by have:=hc2 m hm;show 4+cntD (es++[e]++m)≤12;omega) (by simp only[K5,OA];omega) s;have p1:=hP [revE es.length] (λy hy=>by simp only[NX,Ot,or_false]at hy;first|exact⟨_,hy⟩|(rcases hy with h|h<;>exact⟨_,h⟩)) (by simp);have p2:=hP [revE es.length,revE ((es.length:Int)+1)] (λy hy=>by simp only[NX,Ot,or_false]at hy;first|exact⟨_,hy⟩|(rcases hy with h|h<;>exact⟨_,h⟩)) (by simp);have p3:=hP [revE es.length,revE es.length] (λy hy=>by simp only[NX,Ot,or_false]at hy;first|exact⟨_,hy⟩|(rcases hy with h|h<;>exact⟨_,h⟩)) (by simp);have p4:=hP [revE ((es.length:Int)+1)] (λy hy=>by simp only[NX,Ot,or_false]at hy;first|exact⟨_,hy⟩|(rcases hy with h|h<;>exact⟨_,h⟩)) (by simp);rw[hOne]at p1;rw[hTwo]at p2;rw[hAgain]at p3;rw[hSelf]at p4;simp only[K9,List.cons_append,List.nil_append]at p1 p2 p3 p4;have hwl:∀m:List Ed,m.length≤2→(es++[e]).length+m.length≤1000:=λm hm=>by simp only[K5,OA];omega
  simp only[vqM,de,zA,aW];refine dJ ?_;refine cI aA ?_;simp only[vqM,de,zA,zB,aW,aQ,dn0];refine dJ ?_;refine cI aA ?_;simp only[vqM,de,zA,zB,aW,aQ,dn0];refine ae [5,7,8,9,10] ?_;simp only[vke,zB,zA];obtain⟨bx,hbx⟩:∃bx,bx=[Box.cells (rawD b l),.cells x.cells,.cells (Hi.mk p0 es).cells,.cells (apC (Sd p)).cells,.cells (Hi.mk p0 (es++[e])).cells,.cells (apC (Sd q)).cells]:=⟨_,rfl⟩;rw[←hbx];have g8:∀X,(B++bx++X)[B.length+3]?=Sd (.cells (apC (Sd p)).cells):=λX=>by rw[K9,bq,hbx];rfl
  have g9:∀X,(B++bx++X)[B.length+4]?=Sd (.cells (Hi.mk p0 (es++[e])).cells):=λX=>by rw[K9,bq,hbx];rfl
  have g10:∀X,(B++bx++X)[B.length+5]?=Sd (.cells (apC (Sd q)).cells):=λX=>by rw[K9,bq,hbx];rfl
  obtain⟨C,hC⟩:∃C,C=B++bx:=⟨_,rfl⟩;have hCB:∃X,C=B++X:=⟨bx,hC⟩;rw[←hC]at g8 g9 g10⊢;clear hC hbx;have c8:=bV g8;have c9:=bV g9;have c10:=bV g10;refine dJ ?_;refine jj λ_=>?_;refine ic (λe1 s=>∃C2 i j,keep [5,7,8,9,10,11,12] e1=[J,J,J,J,J,.bool Sh,J,.int .i64 es.length,.box (B.length+3) 0,.box (B.length+4) 0,.box (B.length+5) 0,.box i 0,.box j 0,J,J,J,J,J,J,J,J,J,J,J,J,J,J,J,J,J,J,J,J,J,J,J,J,J,J,J,J,J,J,J,J,J,J,J,J,J,J,J,J,J,J,J,J,J,J,J,J,J,J,J,J,J,J,J,J,J,J,J,J,J,J,J,J,J,J,J,J,J,J,J,J,J,J,J,J,J,J,J,J,J,J,J,J,J]∧s=⟨C2,L,c⟩∧Bx2 C C2 i j (apC (Sd p)).cells (apC (Sd q)).cells) ?_ ?_
  ·skip
   refine eI aA [15,16,17,18] [⟨[0,1,2,3,4,5,6,7,8,9,10,11,12,13,14,15,16,17,18],[(0,1),(0,2),(2,1),(2,2),(4,1),(4,2),(5,1),(5,2),(6,1),(6,2),(8,1),(8,2),(11,1),(11,2),(13,1),(13,2),(14,1),(14,2)]⟩,⟨[0,1,2,3,4,5,6,7,8,9,10,11,12,13,14,16,15,17,18],[(0,1),(0,2),(2,1),(2,2),(4,1),(4,2),(5,1),(5,2),(6,1),(6,2),(8,1),(8,2),(11,1),(11,2),(13,1),(13,2),(14,1),(14,2)]⟩] (by kernel_rfl) λpl hpl=>?_;simp only[NX,Ot,or_false]at hpl;rcases hpl with rfl|rfl
   all_goals
    simp only[vqM,de,zB,vsH,bf,bG,N8,N7,N9,Of,M4,NW,c9]
   all_goals
    repeat' (first
     |(with_reducible refine aB ?_ ?_)
     |(with_reducible refine And.intro ?_ ?_)
     |((with_reducible refine aG ?_);refine aa (dG (es.length:Int) _) ?_;simp only[vqM,de,zA,zM,zL,bf,vsE,N8,N7,hw1])
     |((with_reducible refine aG ?_);refine aa (dG ((es.length:Int)+1) _) ?_;simp only[vqM,de,zA,zM,zL,bf,vsE,N8,N7])
     |((with_reducible refine aG ?_);refine aa (fQ ⟨p0,es++[e]⟩ [revE es.length] (hwl _ (by simp)) _) ?_;simp only[vqM,bf,N8,N7])
     |((with_reducible refine aG ?_);refine aa (fQ ⟨p0,es++[e]⟩ [revE es.length,revE ((es.length:Int)+1)] (hwl _ (by simp)) _) ?_;simp only[vqM,bf,N8,N7])
     |((with_reducible refine aG ?_);refine aa (p1 _) ?_;simp only[vqM,de,vsH,bf,bG,N8,N7,c9])
     |((with_reducible refine aG ?_);refine aa (p2 _) ?_;simp only[vqM,de,zA,vsH,bf,aW,bG,N8,N7,g9])
     |(with_reducible refine te ?_;simp only[vqM]))
   all_goals
    first
     |exact aD ⟨_,C.length,C.length+1,by simp only[vke,zB,zA],rfl,.mk0 rfl⟩
     |exact aD ⟨_,C.length+1,C.length,by simp only[vke,zB,zA],rfl,.mk1 rfl⟩
  rintro e1 s ⟨C2,i11,i12,he,rfl,hB2⟩;replace g8:=cO g8 hB2.ex
  replace g9:=cO g9 hB2.ex
  replace g10:=cO g10 hB2.ex
  have g11:∀X,(C2++X)[i11]?=Sd (.cells (apC (Sd p)).cells):=λX=>bP hB2.a;have g12:∀X,(C2++X)[i12]?=Sd (.cells (apC (Sd q)).cells):=λX=>bP hB2.b;replace hCB:∃X,C2=B++X:=by
   obtain⟨X,rfl⟩:=hCB;obtain⟨Y,hY⟩:=hB2.ex;exact⟨X++Y,by rw[hY,K9]⟩
  clear hB2 c8 c9 c10 C;have c8:=bV g8;have c9:=bV g9;have c10:=bV g10;simp only[vqM];refine ae [5,7,8,9,10,11,12] ?_;rw[he];clear he;refine dJ ?_;refine jj λ_=>?_;refine ic (λe1 s=>∃C3 i j,keep [5,8,10,11,12,13,14] e1=[J,J,J,J,J,.bool Sh,J,J,.box (B.length+3) 0,J,.box (B.length+5) 0,.box i11 0,.box i12 0,.box i 0,.box j 0,J,J,J,J,J,J,J,J,J,J,J,J,J,J,J,J,J,J,J,J,J,J,J,J,J,J,J,J,J,J,J,J,J,J,J,J,J,J,J,J,J,J,J,J,J,J,J,J,J,J,J,J,J,J,J,J,J,J,J,J,J,J,J,J,J,J,J,J,J,J,J,J,J,J,J,J,J,J,J,J,J,J,J]∧s=⟨C3,L,c⟩∧Bx2 C2 C3 i j (apC Sf).cells (apC Sf).cells) ?_ ?_
  ·skip
   refine eI aA [15,16,17,18] [⟨[0,1,2,3,4,5,6,7,8,9,10,11,12,13,14,15,16,17,18],[(0,1),(0,2),(2,1),(2,2),(4,1),(4,2),(6,1),(6,2),(7,1),(7,2),(8,1),(8,2),(11,1),(11,2),(13,1),(13,2),(14,1),(14,2)]⟩,⟨[0,1,2,3,4,5,6,7,8,9,10,11,12,13,14,16,15,17,18],[(0,1),(0,2),(2,1),(2,2),(4,1),(4,2),(6,1),(6,2),(7,1),(7,2),(8,1),(8,2),(11,1),(11,2),(13,1),(13,2),(14,1),(14,2)]⟩] (by kernel_rfl) λpl hpl=>?_;simp only[NX,Ot,or_false]at hpl;rcases hpl with rfl|rfl
   all_goals
    simp only[vqM,de,zB,vsH,bf,bG,N8,N7,N9,Of,M4,NW,c9]
   all_goals
    repeat' (first
     |(with_reducible refine aB ?_ ?_)
     |(with_reducible refine And.intro ?_ ?_)
     |((with_reducible refine aG ?_);refine aa (dG (es.length:Int) _) ?_;simp only[vqM,de,zA,zM,zL,bf,vsE,N8,N7])
     |((with_reducible refine aG ?_);refine aa (dG ((es.length:Int)+1) _) ?_;simp only[vqM,de,zA,zM,zL,bf,vsE,N8,N7])
     |((with_reducible refine aG ?_);refine aa (fQ ⟨p0,es++[e]⟩ [revE es.length,revE es.length] (hwl _ (by simp)) _) ?_;simp only[vqM,bf,N8,N7])
     |((with_reducible refine aG ?_);refine aa (fQ ⟨p0,es++[e]⟩ [revE ((es.length:Int)+1)] (hwl _ (by simp)) _) ?_;simp only[vqM,bf,N8,N7])
     |((with_reducible refine aG ?_);refine aa (p3 _) ?_;simp only[vqM,de,vsH,bf,bG,N8,N7,c9,hw1])
     |((with_reducible refine aG ?_);refine aa (p4 _) ?_;simp only[vqM,de,zA,vsH,bf,aW,bG,N8,N7,g9])
     |(with_reducible refine te ?_;simp only[vqM]))
   all_goals
    first
     |(refine aD ⟨_,C2.length,C2.length+1,?_,rfl,.mk0 rfl⟩;(simp only[vke,zB,zA]);done)
     |(refine aD ⟨_,C2.length+1,C2.length,?_,rfl,.mk1 rfl⟩;(simp only[vke,zB,zA]);done)
  rintro e1 s ⟨C3,i13,i14,he,rfl,hB3⟩;have k8:=bV (cO g8 hB3.ex);have k10:=bV (cO g10 hB3.ex);have k11:=bV (cO g11 hB3.ex);have k12:=bV (cO g12 hB3.ex);have k13:=hB3.a;have k14:=hB3.b;replace hCB:∃X,C3=B++X:=by
   obtain⟨X,rfl⟩:=hCB;obtain⟨Y,hY⟩:=hB3.ex;exact⟨X++Y,by rw[hY,K9]⟩
  clear g8 g9 g10 g11 g12 c8 c9 c10 hB3;simp only[vqM];refine ae [5,8,10,11,12,13,14] ?_;rw[he];clear he;have wp:(wPg (apC (Sd p)).p).length≤1000000:=by
   have:=Ia hN (by omega) (by have:=pO es;show 4+cntD es≤12;omega)
   rwa[hpl]at this
  have wq:(wPg (apC (Sd q)).p).length≤1000000:=by
   have:=Ia hqe (by omega) (by have:=hce e;show 4+cntD (es++[e])≤12;omega)
   rwa[hq]at this
  refine cI aA ?_;simp only[vqM,de,zB,aW,k8,k11];refine aa (kP _ _ wp wp _) ?_;rw[decide_eq_true rfl,decide_eq_true rfl,Bool.and_self];simp only[vqM,de,aW,k10,k12];refine aa (kP _ _ wq wq _) ?_;rw[decide_eq_true rfl,decide_eq_true rfl,Bool.and_self];simp only[vqM,de,zA,aW,aQ,decide_true,k13,k14];obtain⟨X9,rfl⟩:=hCB;refine SB ?_ (.bool _);simp only[vqM]
end Go.V
namespace Go.Proofs.YtlobjjbchnjfiaaGreat
open Go.V Go.ChangeShapes Go.WideShapes Go.Proofs.Tryz
set_option maxRecDepth 20000
set_option maxHeartbeats 4000000
theorem ll(os:Os)(started:os.Started)(H:Type)(enc:TypeId×Value→H) :
  ReturnsInHanded {} Tryz.checked os 4 .any (Rows.storeRevertsSpec.pre6 enc Si f4 Rows.storeRevertsRow.domain Se) (Rows.storeRevertsSpec.post enc Si f4 Se Rows.storeRevertsRow.fresh Rows.storeRevertsRow.handsOn Rows.storeRevertsRow.again):=by
 refine returnsInHanded_of_change_sized (C:=Tryz.checked) own started (by kernel_rfl) func4
  (ChangeSpec.witness6 (enc:=enc) (C:=Tryz.checked) Se ⟨#[],#[.agg #[.slice Sf 0 0,.slice Sf 0 0],.agg #[.int .u8 0,.int .u8 0,.int .u8 0,.int .u8 0]],[]⟩ 8 (by kernel_rfl) (by kernel_rfl) (by kernel_rfl) (by kernel_rfl)) ?_
 intro W base args ds gs before hval0 hW _ hwt _;have hval:∀(j:Nat)t v,f4.params[j]?=Sd t→args[j]?=Sd v→Value.okWide Si W .any base t v:=hval0;have hW':=hW;obtain⟨p,q,hA0,hV,rfl,hfz,_⟩:=hW;obtain⟨rfl,rfl⟩:=trodVars_none hV;have hpar:f4.params.toList=[27,28]:=by kernel_rfl
 have hA:DataW.TrodAll enc Si W 0 (λ_=>Sh) Sh f4.params.toList args.toList ds p:=hA0;rw[hpar]at hA;obtain⟨v0,v1,d0,d1,p0,p1,rfl,rfl,rfl,h0,h1⟩:=trodAll_two hA;have hwt0:(d0.weights Si 27).all (· ≤ reachBytes)=Sh:=by
  refine N0.2 λx hx=>N0.1 hwt x ?_;exact DataW.weights_mem_each (j:=0) (t:=27) (d:=d0) (by kernel_rfl) rfl x hx
 obtain⟨xs0,hin0,hR0⟩:=BU 6 raw22T.st raw22Ok hwt0 (hval 0 27 v0 (by kernel_rfl) rfl) h0;obtain⟨b,l,hb,hl,hx0⟩:=In.raw22 raw22T hin0;rw[hx0]at hR0;have hwt1:(d1.weights Si 28).all (· ≤ reachBytes)=Sh:=by
  refine N0.2 λx hx=>N0.1 hwt x ?_;exact DataW.weights_mem_each (j:=1) (t:=28) (d:=d1) (by kernel_rfl) rfl x hx
 obtain⟨xs1,hin1,hR1⟩:=C8 6 arr4T.ar arr4Ok hwt1 (hval 1 28 v1 (by kernel_rfl) rfl) h1;obtain⟨x1,hw1,hx1⟩:=In.arr4 arr4T hin1;rw[hx1]at hR1;have hspec:=rZ b hb l hl x1 hw1 ⟨[],[],0⟩;refine(mZ hspec (w:=W) (vs:=#[v0,v1]) ⟨rfl,λi h1 h2=>?_⟩).mono λe W'⟨he,k1,k2,k3,k4⟩=>?_
 ·match i,h2 with
  |0,_=>exact hR0
  |1,_=>exact hR1
 ·exact⟨_,he,qh (tb:=4) Np full (by rw[hpar];decide +kernel) rfl (by kernel_rfl) (by kernel_rfl) hW' rfl rfl rfl k1 k2 k3 k4⟩
theorem pC:Rows.storeRevertsRow.wf (OpenSpec.ofChange Rows.storeRevertsSpec)=Sh:=by kernel_rfl
theorem pB:f4.params.all (Tryz.checked.prog.readableRec ·)=Sh:=by kernel_rfl
theorem pA:namedTie Tryz.checked.prog Rows.storeRevertsRow.named Rows.storeRevertsSpec.vars=Sh:=by kernel_rfl
theorem py:(Rows.storeRevertsRow.stops == [])=Sh:=by kernel_rfl
theorem px:(Rows.storeRevertsRow.knobs == [])=Sh:=by kernel_rfl
theorem pu:(Rows.storeRevertsRow.inPlace == Tryz.checked.prog.inPlace 4)=Sh:=by kernel_rfl
theorem nR:(Rows.storeRevertsRow.unfollowed == Tryz.checked.prog.unfollowed 4)=Sh:=by kernel_rfl
theorem nQ:(Rows.storeRevertsRow.recurses == Tryz.checked.prog.recurses 4)=Sh:=by kernel_rfl
theorem nP:(Rows.storeRevertsRow.named == Tryz.checked.prog.varsNamed 4)=Sh:=by kernel_rfl
theorem nO:(Rows.storeRevertsRow.maps == (f4.params.toList++Rows.storeRevertsSpec.plain.varTypes Tryz.checked.prog).any (Tryz.checked.prog.mapsRec ·))=Sh:=by kernel_rfl
theorem nN:(Rows.storeRevertsRow.ifaces == (f4.params.toList++Rows.storeRevertsSpec.plain.varTypes Tryz.checked.prog).any (Tryz.checked.prog.ifacesRec ·))=Sh:=by kernel_rfl
theorem nM:(Rows.storeRevertsRow.mapsOut == Tryz.checked.prog.mapsAmong f4.resultTypes.toList)=Sh:=by kernel_rfl
theorem nL:(Rows.storeRevertsRow.loops == (f4.params.toList++Rows.storeRevertsSpec.plain.varTypes Tryz.checked.prog).any (Tryz.checked.prog.loopsFrom ·))=Sh:=by kernel_rfl
theorem nK:(Rows.storeRevertsRow.wideKeys == (f4.params.toList++Rows.storeRevertsSpec.plain.varTypes Tryz.checked.prog++f4.resultTypes.toList).any (Tryz.checked.prog.wideKeysFrom ·))=Sh:=by kernel_rfl
theorem nJ:Rows.storeRevertsSpec.vars.all (Tryz.checked.prog.varReadable ·)=Sh:=by kernel_rfl
theorem nI:f4.resultTypes.all (λt=>Tryz.checked.prog.readableRec t&&decide (t<Tryz.checked.prog.types.size))=Sh:=by kernel_rfl
theorem nH:(Rows.storeRevertsRow.ifacesOut == f4.resultTypes.toList.any (Tryz.checked.prog.ifacesRec ·))=Sh:=by kernel_rfl
theorem nG:(Rows.storeRevertsRow.loopsOut == f4.resultTypes.toList.any (Tryz.checked.prog.loopsFrom ·))=Sh:=by kernel_rfl
theorem nF:(Rows.storeRevertsRow.plainKeys == Tryz.checked.prog.plainKeys)=Sh:=by kernel_rfl
theorem nE:Rows.storeRevertsRow.shortTexts.isNone=Sh:=by kernel_rfl
theorem nD:(Rows.storeRevertsRow.lifted == Tryz.checked.prog.liftsFinal)=Sh:=by kernel_rfl
theorem nC:(Tryz.checked.prog.make == Sd Rows.storeRevertsRow.make)=Sh:=by kernel_rfl
theorem nB:(Rows.storeRevertsRow.kinds == (if Rows.storeRevertsRow.domain.isEmpty then[]else f4.params.toList.map λt=>match Tryz.checked.prog.underlying t with|some (.int k)=>Sd k|_=>Sf))=Sh:=by kernel_rfl
theorem nA:(Rows.storeRevertsRow.pinned == Rows.storeRevertsRow.pinnedBy)=Sh:=by kernel_rfl
theorem nz:(Rows.storeRevertsRow.veiled == (f4.params.toList++Rows.storeRevertsSpec.plain.varTypes Tryz.checked.prog++f4.resultTypes.toList).any (Tryz.checked.prog.veiledRec ·))=Sh:=by kernel_rfl
theorem ny:Rows.storeRevertsRow.veiledFits Tryz.checked.prog f4.params.toList (f4.params.toList++Rows.storeRevertsSpec.plain.varTypes Tryz.checked.prog++f4.resultTypes.toList)=Sh:=by kernel_rfl
theorem lm:joinedFacts Tryz.checked.prog 4 f4 Rows.storeRevertsSpec Rows.storeRevertsRow=Sh:=by unfold joinedFacts;exact(aY (aY (aY (aY (aY (aY (aY (aY (aY (aY (aY (aY (aY (aY (aY (aY (aY (aY (aY (aY (aY (aY (aY (aY (aY (aY (aY (aY (aY (aY (aY pC Nt) Ns) pB) pA) py) Nr) px) Nq) pu) nR) nQ) nP) nO) nN) nM) nL) nK) nJ) nI) nH) nG) nF) nE) Iy) Ix) nD) nC) nB) nA) nz) ny)
theorem reverts_holds:Rows.StoreRevertsSaid:=
 OpenClaim.holds_of_wide 4 f4 rfl rfl rfl rfl rfl rfl rfl ⟨rfl,rfl,rfl,rfl,rfl⟩ rfl rfl rfl rfl rfl (by kernel_rfl) func4 lm
  (of_decide_eq_true (by kernel_rfl)) (by unfold Func.isWrapper;first|(rw[if_pos (by decide +kernel)];kernel_rfl)|(rw[if_neg (by decide +kernel)];exact⟨rfl,rfl⟩))
  (λos started H enc _=>ll os started H enc)
#print axioms reverts_holds
end Go.Proofs.YtlobjjbchnjfiaaGreat
