/-
  The value-level logic and its contracts, part 8 (texts P14, N3, U8, U9, U10, U11, U12, U13, M5, M6, M7, M8, M2, M9, M10, M11).
-/
import Derived.Test.YtmfmcdomgagebaaGreatBasm7
import Derived.Test.YtmfmcdomgagebaaGreatBasm6
import Derived.Test.YtmfmcdomgagebaaGreatBasm3
import Derived.Test.YtmfmcdomgagebaaGreatBasm4
import Derived.Test.YtmfmcdomgagebaaGreatBasm5
import Derived.Shelf.Slices.In.SortNone
set_option linter.all false
open Nat renaming reduceAdd → zA, reduceSub → zS, reduceMul → zM, reduceLeDiff → zL, reduceEqDiff → zE, reduceBEq → zB
open Go.V.D renaming junk → Jk
namespace Go.V
set_option maxRecDepth 20000
set_option maxHeartbeats 4000000
def abcN (n:Int):ByteArray:=if n=0 then ⟨#[97,108,112,104,97]⟩ else if n=1 then ⟨#[98,101,116,97]⟩ else ⟨#[103,97,109,109,97]⟩
def newStmt (d:Df) (n:Int):Sm:=.mk (w64 (w64 (8000+w64 (10 * d.id))+n.tmod 3)) 6 (n.tmod 2) 0 0 (.mk 0 0 0 []) (.mk 0 0 0 []) (.mk 0 [] []) [] [] [] []
def sortedS (p:Pg):Pg:=withH { p with defs:=movedL p.defs.dropLast (p.defs.getLast?.getD Df.zero) }
def chgD (p:Pg) (z:Cg):Df:=(p.defs[z.pos.toNat % p.defs.length]?).getD Df.zero
def setV (p:Pg) (z:Cg) (d:Df):Pg:=sortedS { p with defs:=p.defs.set (z.pos.toNat % p.defs.length) d }
def chg1 (p:Pg) (z:Cg):Pg :=
 if z.kind.tmod 7=0 then setV p z { chgD p z with name:=abcN (z.n.tmod 3) }
 else if z.kind.tmod 7=1 then setV p z { chgD p z with budget:=w64 (1+z.n) }
 else if z.kind.tmod 7=2 then setV p z { chgD p z with part:=z.n.tmod 3 }
 else if z.kind.tmod 7=3 then sortedS { p with defs:=if (findS p (20+z.n.tmod 2)).isSome then p.defs else p.defs++[spareD (20+z.n.tmod 2) (z.n.tmod 4)] }
 else if z.kind.tmod 7=4 then if calledB p (chgD p z).id || decide (p.defs.length=1) then p else withH { p with defs:=p.defs.take (z.pos.toNat % p.defs.length)++p.defs.drop (z.pos.toNat % p.defs.length+1) }
 else if z.kind.tmod 7=5 then if (chgD p z).refs<2 ∨ ¬ (sitesS { chgD p z with body:=(chgD p z).body++[newStmt (chgD p z) z.n] }).Nodup then p else setV p z { chgD p z with body:=(chgD p z).body++[newStmt (chgD p z) z.n] }
 else sortedS { p with threads:=p.threads.take 1,d:={ p.d with firms:=w64 (2+z.n.tmod 2) } }
def variantS (p:Pg) (l:List Cg):Pg:=(l.take 5).foldl chg1 p
def dcl (f:Int):Dc:={ declared with firms:=f }
structure VD (d:Df) (n:Nat):Prop where
 hb:headB d declared=true
 st:∀ q ∈ flatL 1 d.body,stmtB ⟨d,declared⟩ q.s=true∧q.depth≤10
 fl:(sitesS d).length≤40+n
 cn:(rawC (flatL 1 d.body)).length≤9
 nm:d.name.size≤8
 id:11≤d.id∧d.id≤21
 sr:∀ s ∈ sitesS d,(100<s∧s≤1000)∨(20≤d.id∧5000+10 * d.id≤s∧s≤5001+10 * d.id)∨(8000+10 * d.id≤s∧s≤8002+10 * d.id)
structure VL (ds:List Df) (n:Nat):Prop where
 ne:ds≠[]
 ln:ds.length≤4+n
 nd:(ds.map (·.id)).Nodup
 ok:∀ d ∈ ds,VD d n
 ca:∀ d ∈ ds,∀ q ∈ flatL 1 d.body,q.s.op=13→∃ e ∈ ds,e.id<d.id∧q.s.m=e.id∧q.s.args.length=e.params.length∧q.s.ptrs.length=e.given.length
 sn:∀ d ∈ ds,(sitesS d).Nodup
 sx:∀ a ∈ ds,∀ b ∈ ds,a.id≠b.id→∀ x ∈ sitesS a,x ∉ sitesS b
structure VarOk (p:Pg) (n:Nat):Prop where
 fm:∃ f,(f=2∨f=3)∧p.d=dcl f
 hds:p.heads=p.defs.map hdOf
 pw:p.defs.Pairwise (fun a b=>a.id<b.id)
 vl:VL p.defs n
 tl:1≤p.threads.length∧p.threads.length≤2
 th:∀ t ∈ p.threads,∃ d ∈ p.defs,d.id=t∧isT d=true
theorem VD.mono {d:Df} {n m:Nat} (h:VD d n) (hm:n≤m):VD d m:={ h with fl:=by have:=h.fl;omega }
theorem VL.mono {ds:List Df} {n m:Nat} (h:VL ds n) (hm:n≤m):VL ds m:={ h with ok:=fun d hd=>(h.ok d hd).mono hm,ln:=by have:=h.ln;omega }
theorem VarOk.mono {p:Pg} {n m:Nat} (h:VarOk p n) (hm:n≤m):VarOk p m:={ h with vl:=h.vl.mono hm }
theorem VL.perm {ds es:List Df} {n:Nat} (h:VL ds n) (hp:es.Perm ds):VL es n where
 ne:=fun e=>h.ne (by rw [e] at hp;exact hp.symm.eq_nil)
 ln:=by rw [hp.length_eq];exact h.ln
 nd:=(hp.map _).nodup_iff.2 h.nd
 ok:=fun d hd=>h.ok d (hp.mem_iff.1 hd)
 ca:=fun d hd q hq h13=>by obtain ⟨e,he,r⟩:=h.ca d (hp.mem_iff.1 hd) q hq h13;exact ⟨e,hp.mem_iff.2 he,r⟩
 sn:=fun d hd=>h.sn d (hp.mem_iff.1 hd)
 sx:=fun a ha b hb=>h.sx a (hp.mem_iff.1 ha) b (hp.mem_iff.1 hb)
theorem set_mem {ds:List Df} {k:Nat} {d d' e:Df} (hk:ds[k]? = some d) (e1:d'.id=d.id) (e2:d'.params=d.params) (e3:d'.given=d.given) (he:e ∈ ds):∃ e' ∈ ds.set k d',e'.id=e.id∧e'.params=e.params∧e'.given=e.given:=by
 obtain ⟨j,hj,rfl⟩:=List.getElem_of_mem he
 obtain ⟨hkl,hke⟩:=List.getElem?_eq_some_iff.1 hk
 by_cases h:k=j
 ·subst h
  exact ⟨d',List.mem_set hkl d',by rw [e1,hke],by rw [e2,hke],by rw [e3,hke]⟩
 ·refine ⟨ds[j],?_,rfl,rfl,rfl⟩
  rw [List.mem_iff_getElem?]
  exact ⟨j,by rw [List.getElem?_set_ne h];exact List.getElem?_eq_getElem hj⟩
theorem set_ids {ds:List Df} {k:Nat} {d d':Df} (hk:ds[k]? = some d) (e1:d'.id=d.id):(ds.set k d').map (·.id)=ds.map (·.id):=by
 obtain ⟨hk,rfl⟩:=List.getElem?_eq_some_iff.1 hk
 rw [List.map_set]
 refine List.ext_getElem (by simp) fun i h1 h2=>?_
 rw [List.getElem_set]
 split
 ·rename_i h;subst h;simpa using e1
 ·rfl
theorem VL.set {ds:List Df} {n k:Nat} {d d':Df} (h:VL ds n) (hk:ds[k]? = some d) (e1:d'.id=d.id) (e2:d'.params=d.params) (e3:d'.given=d.given) (ok:VD d' (n+1)) (cs:∀ q ∈ flatL 1 d'.body,q.s.op=13→q ∈ flatL 1 d.body)
  (sn:(sitesS d').Nodup) (ss:∀ x ∈ sitesS d',x ∈ sitesS d∨(8000+10 * d.id≤x∧x≤8002+10 * d.id)):VL (ds.set k d') (n+1):=by
 have hd:d ∈ ds:=List.mem_of_getElem? hk
 have hm:∀ x ∈ ds.set k d',x ∈ ds∨x=d':=fun x hx=>List.mem_or_eq_of_mem_set hx
 have hfar:∀ b ∈ ds,b.id≠d.id→∀ x ∈ sitesS d',x ∉ sitesS b:=by
  intro b hb hne x hx hxb
  rcases ss x hx with h1 | h1
  ·exact h.sx d hd b hb (fun e=>hne e.symm) x h1 hxb
  ·have:=(h.ok b hb).sr x hxb
   have h2:=(h.ok b hb).id
   have h3:=(h.ok d hd).id
   omega
 refine ⟨?_,?_,?_,?_,?_,?_,?_⟩
 ·intro e;exact h.ne (by simpa using e)
 ·have:=h.ln;simp;omega
 ·rw [set_ids hk e1];exact h.nd
 ·intro x hx
  rcases hm x hx with hx | rfl
  ·exact (h.ok x hx).mono (by omega)
  ·exact ok
 ·intro x hx q hq h13
  rcases hm x hx with hx | rfl
  ·obtain ⟨e,he,r1,r2,r3,r4⟩:=h.ca x hx q hq h13
   obtain ⟨e',he',q1,q2,q3⟩:=set_mem hk e1 e2 e3 he
   exact ⟨e',he',by rw [q1];exact r1,by rw [q1];exact r2,by rw [q2];exact r3,by rw [q3];exact r4⟩
  ·obtain ⟨e,he,r1,r2,r3,r4⟩:=h.ca d hd q (cs q hq h13) h13
   obtain ⟨e',he',q1,q2,q3⟩:=set_mem hk e1 e2 e3 he
   exact ⟨e',he',by rw [q1,e1];exact r1,by rw [q1];exact r2,by rw [q2];exact r3,by rw [q3];exact r4⟩
 ·intro x hx
  rcases hm x hx with hx | rfl
  ·exact h.sn x hx
  ·exact sn
 ·intro a ha b hb hne x hx hxb
  rcases hm a ha with ha | ha <;> rcases hm b hb with hb | hb
  ·exact h.sx a ha b hb hne x hx hxb
  ·exact hfar a ha (by rw [← e1,← hb];exact hne) x (hb ▸ hxb) hx
  ·exact hfar b hb (by rw [← e1,← ha];exact fun e=>hne e.symm) x (ha ▸ hx) hxb
  ·exact hne (by rw [ha,hb])
theorem filter_gt {x:Int}:∀ {l:List Df},l.Pairwise (fun a b=>a.id<b.id)→(∀ d ∈ l,d.id≠x)→l.takeWhile (fun d=>decide (d.id<x))++l.filter (fun d=>decide (d.id > x))=l
 | [],_,_=>rfl
 | y::l,h,hx=>by
  obtain ⟨h1,h2⟩:=List.pairwise_cons.1 h
  have hy:=hx y (by simp)
  by_cases e:y.id<x
  ·have e':¬ y.id > x:=by omega
   rw [List.takeWhile_cons_of_pos (by simpa using e),List.filter_cons_of_neg (by simpa using e'),List.cons_append,filter_gt h2 fun d hd=>hx d (by simp [hd])]
  ·rw [List.takeWhile_cons_of_neg (by simpa using e),List.nil_append,List.filter_eq_self.2]
   intro d hd
   rcases List.mem_cons.1 hd with rfl | hd
   ·simp;omega
   ·have:=h1 d hd;simp;omega
theorem takeWhile_lt {x:Int}:∀ {l:List Df},∀ d ∈ l.takeWhile (fun d=>decide (d.id<x)),d.id<x
 | [],d,h=>by simp at h
 | y::l,d,h=>by
  by_cases e:y.id<x
  ·rw [List.takeWhile_cons_of_pos (by simpa using e)] at h
   rcases List.mem_cons.1 h with rfl | h
   ·exact e
   ·exact takeWhile_lt d h
  ·rw [List.takeWhile_cons_of_neg (by simpa using e)] at h;simp at h
theorem moved_perm {l:List Df} {x:Df} (h:l.Pairwise (fun a b=>a.id<b.id)) (hx:∀ d ∈ l,d.id≠x.id):(movedL l x).Perm (l++[x])∧(movedL l x).Pairwise (fun a b=>a.id<b.id):=by
 have e:=filter_gt h hx
 constructor
 ·unfold movedL
  rw [List.append_assoc]
  refine (List.Perm.append_left _ List.perm_append_comm).trans ?_
  rw [← List.append_assoc,e]
 ·unfold movedL
  have h':=h
  rw [← e] at h'
  obtain ⟨p1,p2,p3⟩:=List.pairwise_append.1 h'
  refine List.pairwise_append.2 ⟨List.pairwise_append.2 ⟨p1,by simp,fun a ha b hb=>?_⟩,p2,fun a ha b hb=>?_⟩
  ·simp at hb;subst hb;exact takeWhile_lt a ha
  ·rcases List.mem_append.1 ha with ha | ha
   ·exact p3 a ha b hb
   ·simp at ha;subst ha
    have:=(List.mem_filter.1 hb).2
    simpa using this
theorem last_split {ds:List Df} (h:ds≠[]):ds=ds.dropLast++[ds.getLast?.getD Df.zero]:=by
 rw [List.getLast?_eq_some_getLast h]
 exact (List.dropLast_concat_getLast h).symm
theorem VarOk.sorted {p:Pg} {n:Nat} (fm:∃ f,(f=2∨f=3)∧p.d=dcl f) (pw:p.defs.dropLast.Pairwise (fun a b=>a.id<b.id)) (vl:VL p.defs n) (tl:1≤p.threads.length∧p.threads.length≤2) (th:∀ t ∈ p.threads,∃ d ∈ p.defs,d.id=t∧isT d=true):VarOk (sortedS p) n:=by
 have hs:=last_split vl.ne
 have hx:∀ d ∈ p.defs.dropLast,d.id≠(p.defs.getLast?.getD Df.zero).id:=by
  have:=vl.nd
  rw [hs,List.map_append] at this
  intro d hd e
  exact (List.nodup_append.1 this).2.2 d.id (List.mem_map.2 ⟨d,hd,rfl⟩) _ (by simp) e
 obtain ⟨h1,h2⟩:=moved_perm pw hx
 rw [← hs] at h1
 exact ⟨fm,rfl,h2,vl.perm h1,tl,fun t ht=>by obtain ⟨d,hd,r⟩:=th t ht;exact ⟨d,h1.mem_iff.2 hd,r⟩⟩
theorem isT_of {d d':Df} (e2:d'.params=d.params) (e3:d'.given=d.given):isT d'=isT d:=by simp only [isT,e2,e3]
theorem VarOk.set {p:Pg} {n:Nat} {z:Cg} {d':Df} (h:VarOk p n) (e1:d'.id=(chgD p z).id) (e2:d'.params=(chgD p z).params) (e3:d'.given=(chgD p z).given) (ok:VD d' (n+1)) (cs:∀ q ∈ flatL 1 d'.body,q.s.op=13→q ∈ flatL 1 (chgD p z).body)
  (sn:(sitesS d').Nodup) (ss:∀ x ∈ sitesS d',x ∈ sitesS (chgD p z)∨(8000+10 * (chgD p z).id≤x∧x≤8002+10 * (chgD p z).id)):VarOk (setV p z d') (n+1):=by
 have hl:z.pos.toNat % p.defs.length<p.defs.length:=Nat.mod_lt _ (List.length_pos_iff.2 h.vl.ne)
 have hk:p.defs[z.pos.toNat % p.defs.length]? = some (chgD p z):=by rw [chgD,List.getElem?_eq_getElem hl];rfl
 refine VarOk.sorted (p:={ p with defs:=p.defs.set (z.pos.toNat % p.defs.length) d' }) h.fm ?_ (h.vl.set hk e1 e2 e3 ok cs sn ss) h.tl fun t ht=>?_
 ·have:(p.defs.set (z.pos.toNat % p.defs.length) d').Pairwise (fun a b=>a.id<b.id):=by
   rw [← List.pairwise_map (f:=fun d:Df=>d.id) (R:=(· < ·)),set_ids hk e1,List.pairwise_map]
   exact h.pw
  exact this.sublist (List.dropLast_sublist _)
 ·obtain ⟨d,hd,r1,r2⟩:=h.th t ht
  obtain ⟨e',he',q1,q2,q3⟩:=set_mem hk e1 e2 e3 hd
  exact ⟨e',he',by rw [q1];exact r1,by rw [isT_of q2 q3];exact r2⟩
theorem VarOk.chgD_mem {p:Pg} {n:Nat} (h:VarOk p n) (z:Cg):chgD p z ∈ p.defs:=by
 have hl:z.pos.toNat % p.defs.length<p.defs.length:=Nat.mod_lt _ (List.length_pos_iff.2 h.vl.ne)
 rw [chgD,List.getElem?_eq_getElem hl]
 exact List.getElem_mem hl
theorem VarOk.set0 {p:Pg} {n:Nat} {z:Cg} {d':Df} (h:VarOk p n) (e1:d'.id=(chgD p z).id) (e2:d'.params=(chgD p z).params) (e3:d'.given=(chgD p z).given) (e4:d'.body=(chgD p z).body) (e5:d'.site=(chgD p z).site) (e6:d'.vars=(chgD p z).vars) (e7:d'.arrays=(chgD p z).arrays) (e8:d'.refs=(chgD p z).refs)
  (hb:headB d' declared=true) (nm:d'.name.size≤8):VarOk (setV p z d') (n+1):=by
 have hm:=h.chgD_mem z
 have hv:=h.vl.ok _ hm
 have es:sitesS d'=sitesS (chgD p z):=by rw [sitesS,sitesS,e4,e5]
 have hk:SameK ⟨d',declared⟩ ⟨chgD p z,declared⟩:=⟨by simp only [e2],by simp only [e6],by simp only [e7],by simp only [e8],rfl,rfl,rfl,rfl,rfl,rfl⟩
 refine h.set e1 e2 e3 ?_ (fun q hq _=>by rw [e4] at hq;exact hq) (by rw [es];exact h.vl.sn _ hm) fun x hx=>.inl (by rw [← es];exact hx)
 exact { hb:=hb,st:=fun q hq=>by rw [stmtB_congr hk];rw [e4] at hq;exact hv.st q hq,fl:=by rw [es];have:=hv.fl;omega,cn:=by rw [e4];exact hv.cn,nm:=nm,id:=by rw [e1];exact hv.id,sr:=by rw [es,e1];exact hv.sr }
theorem name_var {n:Int}:nameB (abcN n)=true∧(abcN n).size≤8:=by
 unfold abcN
 split
 ·decide +kernel
 split <;> decide +kernel
theorem headB_name {d:Df} {s:ByteArray} (h:headB d declared=true) (hn:nameB s=true):headB { d with name:=s } declared=true:=by
 have e:∀ a,arrB { d with name:=s } a=arrB d a:=fun a=>rfl
 have e':arrB { d with name:=s }=arrB d:=funext e
 simp only [headB,Bool.and_eq_true,e'] at h ⊢
 exact ⟨⟨⟨⟨⟨⟨⟨⟨⟨⟨h.1.1.1.1.1.1.1.1.1.1,h.1.1.1.1.1.1.1.1.1.2⟩,hn⟩,h.1.1.1.1.1.1.1.2⟩,h.1.1.1.1.1.1.2⟩,h.1.1.1.1.1.2⟩,h.1.1.1.1.2⟩,h.1.1.1.2⟩,h.1.1.2⟩,h.1.2⟩,h.2⟩
theorem headB_budget {d:Df} {n:Int} (h:headB d declared=true) (hn:inB n 1 20000=true):headB { d with budget:=n } declared=true:=by
 have e':arrB { d with budget:=n }=arrB d:=funext fun a=>rfl
 simp only [headB,Bool.and_eq_true,e'] at h ⊢
 exact ⟨⟨⟨⟨⟨⟨⟨⟨⟨⟨h.1.1.1.1.1.1.1.1.1.1,h.1.1.1.1.1.1.1.1.1.2⟩,h.1.1.1.1.1.1.1.1.2⟩,h.1.1.1.1.1.1.1.2⟩,h.1.1.1.1.1.1.2⟩,h.1.1.1.1.1.2⟩,h.1.1.1.1.2⟩,hn⟩,h.1.1.2⟩,h.1.2⟩,h.2⟩
theorem headB_part {d:Df} {n:Int} (h:headB d declared=true) (hn:inB n 0 (w64 (declared.parts - 1))=true):headB { d with part:=n } declared=true:=by
 have e':arrB { d with part:=n }=arrB d:=funext fun a=>rfl
 simp only [headB,Bool.and_eq_true,e'] at h ⊢
 exact ⟨⟨⟨⟨⟨⟨⟨⟨⟨⟨h.1.1.1.1.1.1.1.1.1.1,h.1.1.1.1.1.1.1.1.1.2⟩,h.1.1.1.1.1.1.1.1.2⟩,h.1.1.1.1.1.1.1.2⟩,hn⟩,h.1.1.1.1.1.2⟩,h.1.1.1.1.2⟩,h.1.1.1.2⟩,h.1.1.2⟩,h.1.2⟩,h.2⟩
theorem headB_body {d:Df} {l:List Sm} (h:headB d declared=true):headB { d with body:=l } declared=true:=h
theorem tmod_rg {n k:Int} (hn:0≤n) (hk:0<k):0≤n.tmod k∧n.tmod k<k:=by
 rw [Int.tmod_eq_emod_of_nonneg hn]
 exact ⟨Int.emod_nonneg _ (by omega),Int.emod_lt_of_pos _ hk⟩
theorem new_flat (d:Df) (n:Int):flatL 1 (d.body++[newStmt d n])=flatL 1 d.body++[⟨newStmt d n,1⟩]:=by
 rw [flatL_app];simp [flatL,Sm.flat,newStmt]
theorem new_sites (d:Df) (n:Int):sitesS { d with body:=d.body++[newStmt d n] }=sitesL (flatL 1 d.body)++[(newStmt d n).site]++[d.site]:=by
 show sitesL (flatL 1 (d.body++[newStmt d n]))++[d.site]=_
 rw [new_flat];simp [sitesL]
theorem new_raw (d:Df) (n:Int):rawC (flatL 1 (d.body++[newStmt d n]))=rawC (flatL 1 d.body):=by
 rw [new_flat,rawC_app];simp [rawC,newStmt,Sm.op]
theorem new_site {d:Df} {n:Int} (hd:11≤d.id∧d.id≤21) (hn:0≤n):(newStmt d n).site=8000+10 * d.id+n.tmod 3:=by
 have h:=tmod_rg hn (show (0:Int)<3 by omega)
 show w64 (w64 (8000+w64 (10 * d.id))+n.tmod 3)=_
 rw [qs9 (n:=10 * d.id) (by omega),qs9 (n:=8000+10 * d.id) (by omega),qs9 (by omega)]
theorem new_right {d:Df} {n:Int} (hd:11≤d.id∧d.id≤21) (hn:0≤n) (hr:2≤d.refs∧d.refs≤4):stmtB ⟨d,declared⟩ (newStmt d n)=true:=by
 have h:=tmod_rg hn (show (0:Int)<2 by omega)
 have h3:=tmod_rg hn (show (0:Int)<3 by omega)
 have e:=new_site hd hn
 have hs:inB (newStmt d n).site 1 1073741824=true:=by rw [e];exact wh9 (by omega)
 have hw:w64 (d.refs - 1)=d.refs - 1:=qs9 (by omega)
 have hN:inB (n.tmod 2) 0 (d.refs - 1)=true:=wh9 (by omega)
 have t:tableF (newStmt d n).op=tableF 6:=rfl
 have t2:(newStmt d n).n=n.tmod 2:=rfl
 simp only [stmtB,t,hs,t2]
 simp [tableF,numberB,hw,hN,newStmt,yc9,condFB,callFB,nofl,Sm.m,Sm.v,Sm.x,Sm.y,Sm.c,Sm.args,Sm.ptrs,Sm.body,Sm.els,Ex.op,Ex.n,Ex.v,Ex.a,Co.op,Co.a,Co.c]
 try exact qs9 (by omega)
theorem spare_ok {i v:Int} (hi:0≤i∧i<2) (hv:0≤v∧v<4):VD (spareD (20+i) v) 0∧sitesS (spareD (20+i) v)=[5001+10 * (20+i),5000+10 * (20+i)]∧rawC (flatL 1 (spareD (20+i) v).body)=[]∧∀ q ∈ flatL 1 (spareD (20+i) v).body,¬ q.s.op=13:=by
 have hi':i=0∨i=1:=by omega
 have hv':v=0∨v=1∨v=2∨v=3:=by omega
 rcases hi' with rfl | rfl <;> rcases hv' with rfl | rfl | rfl | rfl <;>
  exact ⟨{ hb:=by decide +kernel,st:=by decide +kernel,fl:=by decide +kernel,cn:=by decide +kernel,nm:=by decide +kernel,id:=by decide +kernel,sr:=by decide +kernel },by decide +kernel,by decide +kernel,by decide +kernel⟩
theorem chgD_refs {p:Pg} {n:Nat} (h:VarOk p n) (z:Cg):(chgD p z).refs≤4:=by
 have:=(h.vl.ok _ (h.chgD_mem z)).hb
 simp only [headB,Bool.and_eq_true] at this
 exact (inB_iff.1 this.1.1.1.1.2).2
theorem VarOk.chg {p:Pg} {n:Nat} {z:Cg} (h:VarOk p n) (hz:(0≤z.kind∧z.kind<256)∧(0≤z.pos∧z.pos<256)∧(0≤z.n∧z.n<256)):VarOk (chg1 p z) (n+1):=by
 have hm:=h.chgD_mem z
 have hv:=h.vl.ok _ hm
 obtain ⟨_,_,hz1,hz2⟩:=hz
 unfold chg1
 split
 ·exact h.set0 rfl rfl rfl rfl rfl rfl rfl rfl (headB_name hv.hb name_var.1) name_var.2
 split
 ·refine h.set0 rfl rfl rfl rfl rfl rfl rfl rfl (headB_budget hv.hb ?_) hv.nm
  rw [qs9 (by omega)];exact wh9 (by omega)
 split
 ·have:=tmod_rg hz1 (show (0:Int)<3 by omega)
  exact h.set0 rfl rfl rfl rfl rfl rfl rfl rfl (headB_part hv.hb (by rw [show w64 (declared.parts - 1)=2 from qs9 (by decide)];exact wh9 (by omega))) hv.nm
 split
 ·have h2:=tmod_rg hz1 (show (0:Int)<2 by omega)
  have h4:=tmod_rg hz1 (show (0:Int)<4 by omega)
  obtain ⟨s1,s2,s3,s4⟩:=spare_ok h2 h4
  by_cases hf:(findS p (20+z.n.tmod 2)).isSome=true
  ·rw [if_pos hf]
   exact VarOk.sorted (p:={ p with defs:=p.defs }) h.fm (h.pw.sublist (List.dropLast_sublist _)) (h.vl.mono (by omega)) h.tl h.th
  ·rw [if_neg hf]
   have hno:∀ d ∈ p.defs,d.id≠20+z.n.tmod 2:=by
    intro d hd e
    have:findS p (20+z.n.tmod 2)=some d:=by rw [← e];exact find_pw h.pw d hd
    rw [this] at hf;exact hf rfl
   generalize hx:spareD (20+z.n.tmod 2) (z.n.tmod 4)=x at s1 s2 s3 s4 ⊢
   have hxi:x.id=20+z.n.tmod 2:=by rw [← hx];rfl
   have hdrop:(p.defs++[x]).dropLast=p.defs:=List.dropLast_concat
   refine VarOk.sorted (p:={ p with defs:=p.defs++[x] }) h.fm (by show (p.defs++[x]).dropLast.Pairwise _;rw [hdrop];exact h.pw) ?_ h.tl (fun t ht=>by obtain ⟨d,hd,r⟩:=h.th t ht;exact ⟨d,List.mem_append_left _ hd,r⟩)
   have hl:=h.vl.ln
   have far:∀ b ∈ p.defs,∀ y ∈ sitesS x,y ∉ sitesS b:=by
    intro b hb y hy hyb
    have h1:=(h.vl.ok b hb).sr y hyb
    have h3:=(h.vl.ok b hb).id
    have h5:=hno b hb
    rw [s2] at hy
    simp only [List.mem_cons,List.not_mem_nil,or_false] at hy
    omega
   refine ⟨by simp,by simp;omega,?_,?_,?_,?_,?_⟩
   ·rw [List.map_append]
    refine List.nodup_append.2 ⟨h.vl.nd,by simp,fun a ha b hb=>?_⟩
    obtain ⟨d,hd,rfl⟩:=List.mem_map.1 ha
    simp at hb;subst hb
    rw [hxi];exact hno d hd
   ·intro d hd
    rcases List.mem_append.1 hd with hd | hd
    ·exact (h.vl.ok d hd).mono (by omega)
    ·simp at hd;subst hd;exact s1.mono (by omega)
   ·intro d hd q hq h13
    rcases List.mem_append.1 hd with hd | hd
    ·obtain ⟨e,he,r⟩:=h.vl.ca d hd q hq h13;exact ⟨e,List.mem_append_left _ he,r⟩
    ·simp at hd;subst hd;exact absurd h13 (s4 q hq)
   ·intro d hd
    rcases List.mem_append.1 hd with hd | hd
    ·exact h.vl.sn d hd
    ·simp at hd;subst hd;rw [s2];simp
   ·intro a ha b hb hne y hy hyb
    rcases List.mem_append.1 ha with ha | ha <;> rcases List.mem_append.1 hb with hb | hb
    ·exact h.vl.sx a ha b hb hne y hy hyb
    ·exact far a ha y (List.mem_singleton.1 hb ▸ hyb) hy
    ·exact far b hb y (List.mem_singleton.1 ha ▸ hy) hyb
    ·simp at ha hb;exact hne (by rw [ha,hb])
 split
 ·split
  ·exact h.mono (by omega)
  ·rename_i hc
   simp only [Bool.or_eq_true,decide_eq_true_eq,not_or,Bool.not_eq_true] at hc
   obtain ⟨hc1,hc2⟩:=hc
   have hl:z.pos.toNat % p.defs.length<p.defs.length:=Nat.mod_lt _ (List.length_pos_iff.2 h.vl.ne)
   have hk:p.defs[z.pos.toNat % p.defs.length]? = some (chgD p z):=by rw [chgD,List.getElem?_eq_getElem hl];rfl
   generalize chgD p z=d at hm hv hc1 hk ⊢
   generalize z.pos.toNat % p.defs.length=k at hl hk ⊢
   have hsp:p.defs=p.defs.take k++d::p.defs.drop (k+1):=by
    obtain ⟨h1,h2⟩:=List.getElem?_eq_some_iff.1 hk
    rw [← h2,← List.drop_eq_getElem_cons h1,List.take_append_drop]
   have hsub:(p.defs.take k++p.defs.drop (k+1)).Sublist p.defs:=by
    conv=>rhs;rw [hsp]
    exact (List.Sublist.refl _).append (List.sublist_cons_self _ _)
   have hin:∀ e ∈ p.defs,e.id≠d.id→e ∈ p.defs.take k++p.defs.drop (k+1):=by
    intro e he hne
    rw [hsp] at he
    rcases List.mem_append.1 he with he | he
    ·exact List.mem_append_left _ he
    ·rcases List.mem_cons.1 he with rfl | he
     ·exact absurd rfl hne
     ·exact List.mem_append_right _ he
   have hlen:(p.defs.take k++p.defs.drop (k+1)).length+1=p.defs.length:=by
    conv=>rhs;rw [hsp]
    simp;omega
   have hno:∀ e ∈ p.defs,∀ q ∈ flatL 1 e.body,q.s.op=13→q.s.m≠d.id:=by
    intro e he q hq h13 hqm
    have:calledB p d.id=true:=by
     simp only [calledB,Bool.or_eq_true,List.any_eq_true]
     exact .inl ⟨e,he,by simpa using mem_callsR.2 ⟨q,hq,h13,hqm⟩⟩
    rw [this] at hc1;simp at hc1
   have hnt:∀ t ∈ p.threads,t≠d.id:=by
    intro t ht e
    have:calledB p d.id=true:=by
     simp only [calledB,Bool.or_eq_true]
     exact .inr (by rw [← e];simpa using ht)
    rw [this] at hc1;simp at hc1
   have hp:=hsub
   generalize hds:p.defs.take k++p.defs.drop (k+1)=ds at hsub hin hlen hp ⊢
   refine ⟨h.fm,rfl,h.pw.sublist hp,⟨?_,?_,h.vl.nd.sublist (hp.map _),fun e he=>(h.vl.ok e (hsub.mem he)).mono (by omega),?_,fun e he=>h.vl.sn e (hsub.mem he),fun a ha b hb=>h.vl.sx a (hsub.mem ha) b (hsub.mem hb)⟩,h.tl,?_⟩
   ·show ds≠[]
    intro e;rw [e] at hlen;simp at hlen;omega
   ·show ds.length≤_
    have:=h.vl.ln;omega
   ·intro e he q hq h13
    obtain ⟨f,hf,r1,r2,r3⟩:=h.vl.ca e (hsub.mem he) q hq h13
    exact ⟨f,hin f hf (by rw [← r2];exact hno e (hsub.mem he) q hq h13),r1,r2,r3⟩
   ·intro t ht
    obtain ⟨f,hf,r1,r2⟩:=h.th t ht
    exact ⟨f,hin f hf (by rw [r1];exact hnt t ht),r1,r2⟩
 split
 ·split
  ·exact h.mono (by omega)
  ·rename_i hc
   simp only [not_or,Classical.not_not] at hc
   obtain ⟨hc1,hc2⟩:=hc
   have hr:=chgD_refs h z
   have hsn:=new_sites (chgD p z) z.n
   have hns:=new_site hv.id hz1
   have h3:=tmod_rg hz1 (show (0:Int)<3 by omega)
   have hsites:∀ x ∈ sitesS { chgD p z with body:=(chgD p z).body++[newStmt (chgD p z) z.n] },x ∈ sitesS (chgD p z)∨(8000+10 * (chgD p z).id≤x∧x≤8002+10 * (chgD p z).id):=by
    intro x hx
    rw [hsn] at hx
    simp only [sitesS,List.mem_append,List.mem_singleton] at hx ⊢
    rcases hx with (hx | hx) | hx
    ·exact .inl (.inl hx)
    ·right;omega
    ·exact .inl (.inr hx)
   have hk:SameK ⟨{ chgD p z with body:=(chgD p z).body++[newStmt (chgD p z) z.n] },declared⟩ ⟨chgD p z,declared⟩:=⟨rfl,rfl,rfl,rfl,rfl,rfl,rfl,rfl,rfl,rfl⟩
   refine h.set (d':={ chgD p z with body:=(chgD p z).body++[newStmt (chgD p z) z.n] }) rfl rfl rfl ?_ ?_ hc2 hsites
   ·refine { hb:=headB_body hv.hb,st:=fun q hq=>?_,fl:=?_,cn:=?_,nm:=hv.nm,id:=hv.id,sr:=fun x hx=>?_ }
    ·rw [stmtB_congr hk]
     have hq':q ∈ flatL 1 (chgD p z).body++[⟨newStmt (chgD p z) z.n,1⟩]:=by rw [← new_flat];exact hq
     rcases List.mem_append.1 hq' with hq' | hq'
     ·exact hv.st q hq'
     ·rw [List.mem_singleton.1 hq']
      exact ⟨new_right hv.id hz1 (by omega),show (1:Int)≤10 by omega⟩
    ·rw [hsn];have:=hv.fl;simp [sitesS] at this ⊢;omega
    ·show (rawC (flatL 1 ((chgD p z).body++[newStmt (chgD p z) z.n]))).length≤9
     rw [new_raw];exact hv.cn
    ·rcases hsites x hx with hx | hx
     ·exact hv.sr x hx
     ·exact .inr (.inr hx)
   ·intro q hq h13
    have hq':q ∈ flatL 1 (chgD p z).body++[⟨newStmt (chgD p z) z.n,1⟩]:=by rw [← new_flat];exact hq
    rcases List.mem_append.1 hq' with hq' | hq'
    ·exact hq'
    ·rw [List.mem_singleton.1 hq'] at h13;exact absurd (show (6:Int)=13 from h13) (by decide)
 ·have h2:=tmod_rg hz1 (show (0:Int)<2 by omega)
  obtain ⟨f,_,hf⟩:=h.fm
  refine VarOk.sorted (p:={ p with threads:=p.threads.take 1,d:={ p.d with firms:=w64 (2+z.n.tmod 2) } }) ⟨w64 (2+z.n.tmod 2),?_,?_⟩ (h.pw.sublist (List.dropLast_sublist _)) (h.vl.mono (by omega)) ?_ fun t ht=>h.th t (List.mem_of_mem_take ht)
  ·rw [qs9 (by omega)];omega
  ·simp only [hf];rfl
  ·have:=h.tl
   show 1≤(p.threads.take 1).length∧(p.threads.take 1).length≤2
   rw [List.length_take];omega
theorem VarOk.variant {p:Pg} {l:List Cg} (h:VarOk p 0) (hz:∀ z ∈ l,(0≤z.kind∧z.kind<256)∧(0≤z.pos∧z.pos<256)∧(0≤z.n∧z.n<256)) (k:Nat):VarOk ((l.take k).foldl chg1 p) (l.take k).length:=by
 induction k with
 | zero=>exact h
 | succ k ih =>
  rw [List.take_add_one]
  cases hx:l[k]? with
  | none=>simpa using ih
  | some z =>
   simp only [Option.toList_some,List.foldl_append,List.foldl_cons,List.foldl_nil,List.length_append,List.length_singleton]
   exact ih.chg (hz z (List.mem_of_getElem? hx))
theorem variant_ok {p:Pg} {l:List Cg} (h:VarOk p 0) (hz:∀ z ∈ l,(0≤z.kind∧z.kind<256)∧(0≤z.pos∧z.pos<256)∧(0≤z.n∧z.n<256)):VarOk (variantS p l) 5 :=
 (h.variant hz 5).mono (by rw [List.length_take];omega)
theorem headB_dcl {d:Df} {f:Int} (hf:f=2∨f=3) (h:headB d declared=true):headB d (dcl f)=true:=by
 simp only [headB,Bool.and_eq_true] at h ⊢
 refine ⟨⟨⟨⟨⟨⟨⟨⟨⟨⟨h.1.1.1.1.1.1.1.1.1.1,h.1.1.1.1.1.1.1.1.1.2⟩,h.1.1.1.1.1.1.1.1.2⟩,?_⟩,h.1.1.1.1.1.1.2⟩,h.1.1.1.1.1.2⟩,h.1.1.1.1.2⟩,h.1.1.1.2⟩,h.1.1.2⟩,h.1.2⟩,h.2⟩
 have h1:=inB_iff.1 h.1.1.1.1.1.1.1.2
 rw [show w64 (declared.firms - 1)=1 from qs9 (by decide)] at h1
 have h2:w64 ((dcl f).firms - 1)=f - 1:=qs9 (by show -9223372036854775808≤f - 1∧f - 1≤9223372036854775807;omega)
 rw [h2];exact wh9 (by omega)
theorem VD.def {d:Df} {n:Nat} {f:Int} (hf:f=2∨f=3) (h:VD d n) (hn:n≤100) (hs:(sitesS d).Nodup):defB d (dcl f)=true:=by
 have hk:SameK ⟨d,dcl f⟩ ⟨d,declared⟩:=⟨rfl,rfl,rfl,rfl,rfl,rfl,rfl,rfl,rfl,rfl⟩
 have hsc:scanB ⟨d,dcl f⟩ (flatL 1 d.body) [d.site]=true:=by
  refine scan_ok _ _ _ (fun p hp=>?_) ?_ ?_
  ·rw [stmtB_congr hk];exact h.st p hp
  ·exact (List.perm_append_comm.nodup_iff).1 hs
  ·have:=h.fl;simp [sitesS,sitesL] at this ⊢;omega
 rw [defB,headB_dcl hf h.hb,hsc];rfl
theorem VarOk.right {p:Pg} {n:Nat} (h:VarOk p n) (hn:n≤30):Right p:=by
 obtain ⟨f,hf,hd⟩:=h.fm
 have hl:=h.vl.ln
 exact {
  dc:=by rw [hd];rcases hf with rfl | rfl <;> decide +kernel
  hl:=by rw [h.hds];simp;omega
  hid:=by rw [h.hds,List.pairwise_map];exact h.pw
  hok:=by
   rw [h.hds,hd];intro x hx
   obtain ⟨d,hdm,rfl⟩:=List.mem_map.1 hx
   have:=headB_dcl hf (h.vl.ok d hdm).hb
   simp only [headB,Bool.and_eq_true] at this
   simp only [headFine,hdOf,this.1.1.1.1.1.1.1.1.1.1,this.1.1.1.1.1.1.1.2,this.1.1.1.1.1.1.2,this.1.1.2,this.1.2];rfl
  dl:=by omega
  did:=h.pw
  hof:=fun d hd=>by rw [h.hds];exact List.mem_map.2 ⟨d,hd,rfl⟩
  dok:=fun d hdm=>by rw [hd];exact (h.vl.ok d hdm).def hf (by omega) (h.vl.sn d hdm)
  ca:=fun d hdm q hq h13=>by
   obtain ⟨e,he,r⟩:=h.vl.ca d hdm q hq h13
   exact ⟨hdOf e,by rw [h.hds];exact List.mem_map.2 ⟨e,he,rfl⟩,r⟩
  st:=List.pairwise_flatMap.2 ⟨h.vl.sn,h.pw.imp_of_mem fun ha hb hab x hx y hy e=>h.vl.sx _ ha _ hb (by omega) x hx (e ▸ hy)⟩
  tl:=by have:=h.tl;omega
  th:=h.th
  sz:=fun d hdm=>by
   have hv:=h.vl.ok d hdm
   have h1:=hv.nm
   have h2:=hv.fl
   have h3:=hv.cn
   refine ⟨by omega,?_,by omega⟩
   have h4:(sitesS d).length=(flatL 1 d.body).length+1:=by simp [sitesS,sitesL]
   omega }
theorem scanB_st {d:Df} (h:defB d declared=true):headB d declared=true∧∀ q ∈ flatL 1 d.body,stmtB ⟨d,declared⟩ q.s=true∧q.depth≤10:=by
 rw [defB,Bool.and_eq_true] at h
 exact ⟨h.1,scanB_mem h.2⟩
theorem MadeOk.var {p:Pg} {k:Nat} (M:MadeOk p k):VarOk p 0:=by
 have R:=M.right
 have hk:=M.k4
 have hlen:=M.len
 have hsn:=List.pairwise_flatMap.1 R.st
 have hsi:∀ d ∈ p.defs,∀ s ∈ sitesS d,100<s∧s≤1000:=fun d hd s hs=>M.st.rg s (List.mem_flatMap.2 ⟨d,hd,hs⟩)
 refine ⟨⟨2,.inl rfl,M.dc⟩,M.hds,R.did,⟨?_,by omega,R.ids,fun d hd=>?_,fun d hd q hq h13=>?_,hsn.1,?_⟩,?_,R.th⟩
 ·intro e;rw [e] at hlen;simp at hlen;omega
 ·have h:=M.ok d hd
  obtain ⟨h1,h2⟩:=scanB_st h.df
  have hid:=M.mem hd
  exact { hb:=h1,st:=h2,fl:=h.fl,cn:=h.cn,nm:=h.nm,id:=by omega,sr:=fun s hs=>.inl (hsi d hd s hs) }
 ·obtain ⟨x,hx,r⟩:=R.ca d hd q hq h13
  rw [M.hds] at hx
  obtain ⟨e,he,rfl⟩:=List.mem_map.1 hx
  exact ⟨e,he,r⟩
 ·intro a ha b hb hne x hx hxb
  have hp:p.defs.Pairwise (fun a b=>∀ x ∈ sitesS a,∀ y ∈ sitesS b,x≠y):=hsn.2
  obtain ⟨i,hi,rfl⟩:=List.getElem_of_mem ha
  obtain ⟨j,hj,rfl⟩:=List.getElem_of_mem hb
  rcases Nat.lt_trichotomy i j with e | e | e
  ·exact List.pairwise_iff_getElem.1 hp i j hi hj e x hx x hxb rfl
  ·subst e;exact hne rfl
  ·exact List.pairwise_iff_getElem.1 hp j i hj hi e x hxb x hx rfl
 ·have h2:(thr p.defs).length≤2:=by simp only [thr,List.length_take];omega
  have h1:1≤(thr p.defs).length:=by
   obtain ⟨ds,d,e,hT⟩:=M.last
   rw [e,thr,List.reverse_append]
   have hT':(d.params.length+d.given.length == 0)=true:=hT
   simp [hT']
  rcases M.th with e | e <;> rw [e]
  ·omega
  ·rw [List.length_take];omega
theorem made_var {b:List Int} (hb:∀ x ∈ b,0≤x∧x<256):VarOk (made b) 0:=by
 obtain ⟨k,M⟩:=made_ok hb
 exact M.var
open Go.Proofs
theorem sms_sitesN (l:List Sm):(smsL l).map Sm.site=sitesL (flatL 1 l):=by
 rw [← flatL_sms l 1,sitesL,List.map_map];rfl
theorem t_SitesN (d:Df) (hN:cntL d.body<999999) (s:St):Spec Tryz.prog 56 [.agg d.cells] s (.slice .none (intCells (sitesS d))) s:=by
 obtain ⟨B,L,c⟩:=s
 have hll:=xg9 d.body
 have hss:sitesS d=(smsL d.body).map Sm.site++[d.site]:=by rw [sms_sitesN,sitesS]
 have hof:∀ (n:Nat) (xs:List Int) (B:List Box),qa9 (ownF c 1 n) (intCells xs) 1 ⟨B,liveN L c n,c+n⟩=true:=fun n xs B=>yf9 (qb9 _)
 refine Spec.introN [] Tryz.func56 rfl (by decide) hmix (by kernel_rfl) [ResultVar.tmp 2] 29 rfl rfl ?_
 simp only [vqM,vt89,zA,zS]
 refine ka9 (t_Flat d.body _ (by omega)) ?_
 simp only [vqM,vt89,zA,zM]
 refine kc9 [1,3,4,5] ?_
 simp only [vke,zB,zA]
 refine km9 hmix (smsL d.body).length (fun k e s=>e=[Jk,.box B.length 0,Jk,.slice .none (Sm.encs (smsL d.body)),.slice (ownF c 1 k) (intCells (((smsL d.body).take k).map Sm.site)),.int .i64 (k:Int),Jk,Jk,Jk,Jk,Jk,Jk,Jk,Jk,Jk,Jk,Jk,Jk,Jk,Jk,Jk,Jk,Jk,Jk,Jk,Jk,Jk,Jk,Jk]∧s=⟨B++[.cells d.cells],liveN L c k,c+k⟩) ?_ ?_ 0 _ _ (Nat.zero_le _) ⟨rfl,rfl⟩
 ·rintro k e s hk ⟨rfl,rfl⟩ ih
  have hx:(smsL d.body)[k]? = some (smsL d.body)[k]:=List.getElem?_eq_getElem hk
  have hg:(Sm.encs (smsL d.body))[k]? = some (smsL d.body)[k].cells:=by simp [Sm.encs_map,hx]
  have hklt:((k:Int)<((smsL d.body).length:Int))=True:=by simp;exact hk
  have hnext:((smsL d.body).take (k+1)).map Sm.site=((smsL d.body).take k).map Sm.site++[(smsL d.body)[k].site]:=by rw [List.take_add_one,hx,List.map_append];rfl
  have hl1:((((smsL d.body).take k).map Sm.site).length+1≤1000000)=True:=eq_true (by simp;omega)
  generalize (smsL d.body)[k]=y at hx hg hnext
  simp only [vqM,vt89,zA,zM,zL,kp9,hklt,decide_true,natle0,Int.toNat_natCast,hg,hof,qp9,kd9,hl1,qq9]
  rw [kf9 (by omega)]
  refine kc9 [1,3,4,5] ?_
  simp only [vke,zB,zA]
  exact ih _ _ ⟨by rw [hnext];rfl,rfl⟩
 ·rintro e s ⟨rfl,rfl⟩
  have hklt:(((smsL d.body).length:Int)<((smsL d.body).length:Int))=False:=by simp
  rw [List.take_length]
  have hl1:(((smsL d.body).map Sm.site).length+1≤1000000)=True:=eq_true (by simp;omega)
  simp only [vqM,vt89,zA,zM,zL,kp9,hklt,decide_false,hof,qp9,kd9,hl1,qq9]
  refine ke9 (.inr rfl) ?_ (qd9 (int_bd _)) (fun _ h=>wg9 h) (by omega)
  simp only [vqM]
  rw [hss]
theorem tmodN {n:Int} {l:Nat} (h:0≤n):n.tmod (l:Int)=((n.toNat % l:Nat):Int):=by
 obtain ⟨a,rfl⟩:=Int.eq_ofNat_of_zero_le h
 rw [Int.tmod_eq_emod_of_nonneg h,Int.toNat_natCast]
 exact (Int.natCast_emod a l).symm
def dfR (l:List Df):List D:=(dfCells l).flatten
theorem dfEachN (l:List Df):∀ x ∈ dfCells l,x.length=12:=by
 intro x hx;obtain ⟨y,_,rfl⟩:=List.mem_map.1 hx;rfl
theorem dfR_len (l:List Df):(dfR l).length=l.length * 12:=by rw [dfR,wm9 _ (dfEachN _),kg9]
theorem row_get {l:List Df} {k:Nat} {d:Df} (h:l[k]? = some d):((dfCells l).flatten.drop (k * 12)).take 12=d.cells:=by
 obtain ⟨hk,rfl⟩:=List.getElem?_eq_some_iff.1 h
 have e:l=l.take k++l[k]::l.drop (k+1):=by rw [← List.drop_eq_getElem_cons hk,List.take_append_drop]
 have hl:(dfCells (l.take k)).flatten.length=k * 12:=by
  have:=dfR_len (l.take k)
  rw [dfR] at this
  rw [this,List.length_take,Nat.min_eq_left (by omega)]
 generalize l[k]=x at e ⊢
 generalize l.take k=a at e hl
 generalize l.drop (k+1)=b at e
 subst e
 rw [dfCells,List.map_append,List.flatten_append,List.drop_append_of_le_length (by rw [show (List.map Df.cells a).flatten.length=k * 12 from hl];exact Nat.le_refl _),List.drop_of_length_le (by rw [show (List.map Df.cells a).flatten.length=k * 12 from hl];exact Nat.le_refl _)]
 rfl
theorem flat_setN {xs:List (List D)} {z k:Nat} (v:List D) (hz:∀ x ∈ xs,x.length=z) (hk:k<xs.length):xs.flatten.take (k * z)++(v++xs.flatten.drop (k * z+z))=(xs.set k v).flatten:=by
 induction xs generalizing k with
 | nil=>simp at hk
 | cons x xs ih =>
  have hx:=hz x (by simp)
  cases k with
  | zero=>simp [hx]
  | succ k =>
   have e:(k+1) * z=z+k * z:=by rw [Nat.add_mul];omega
   have:=ih (k:=k) (fun y hy=>hz y (by simp [hy])) (by simpa using hk)
   rw [List.flatten_cons,List.set_cons_succ,List.flatten_cons,← this,e,show z+k * z+z=z+(k * z+z) by omega,List.take_append,List.drop_append,hx,List.take_of_length_le (by omega),List.drop_of_length_le (by omega),List.nil_append,show z+k * z - z=k * z by omega,show z+(k * z+z) - z=k * z+z by omega,List.append_assoc]
theorem row_set {l:List Df} {k:Nat} (hk:k<l.length) (v:Df):(dfCells l).flatten.take (k * 12)++(v.cells++(dfCells l).flatten.drop (k * 12+12))=(dfCells (l.set k v)).flatten:=by
 rw [flat_setN v.cells (dfEachN _) (by rw [kg9];exact hk)]
 simp [dfCells,List.map_set]
theorem awN_frzS (ks:List Nat) {X:Draws} {ro:Option Nat} {P:Program} {c:Code} {Q:QC} {e:List D} {B:List Box} {L:List Nat} {k b n sz:Nat} {cs:List D} {xs:List (List D)} (cc:Nat) {ds:List D} (hb:B[b]? = some (.cells cs)) (hc:B[cc]? = some (.cells ds)) (hbc:b≠cc) (hx:xs.flatten=cs) (hn:xs.length=n) (hs:∀ x ∈ xs,x.length=sz)
  (he:rowZ b n sz (keep ks e)) (hd:ds.all noRow=true) (E:List D) (hE:(keep ks e).map (fz b n xs)=E) (h:@AWNI X ro P c E ⟨B.set b .dead,L,k⟩ Q):@AWNI X ro P c e ⟨B,L,k⟩ Q:=by
 refine awN_gh (Gh.trans (gh_keep ks) ?_) h
 have hfl:cs.length=n * sz:=by rw [← hx,wm9 xs hs,hn]
 have:=gh_freezeIn (e:=keep ks e) (s:=⟨B,L,k⟩) hb hc hbc (by rw [hx,← hfl,List.take_length]) hn hs he (rowZ_no hd)
 rw [fz_map hd,hE] at this
 have h2:(B.set b .dead).set cc (.cells ds)=B.set b .dead:=by
  refine List.ext_getElem? fun i=>?_
  by_cases e:i=cc
  ·subst e
   rw [List.getElem?_set_self (by rw [List.length_set];exact (List.getElem?_eq_some_iff.1 hc).1),List.getElem?_set_ne hbc,hc]
  ·rw [List.getElem?_set_ne (by omega)]
 simp only [h2] at this
 exact this
theorem rowZ_fz {b n sz:Nat} {e:List D} (h:∀ d ∈ e,noRow d=true∨d=.row b 0 n sz):rowZ b n sz e:=fun off z hm=>by
 rcases h _ hm with h | h
 ·simp [noRow] at h
 ·cases h;rfl
theorem cntL_ge:∀ l:List Sm,l.length≤cntL l
 | []=>Nat.zero_le _
 | x::l=>by have:=cntL_ge l;have h:=Sm.cnt_eq x;rw [List.length_cons,cntL];omega
theorem cntL_app:∀ l m:List Sm,cntL (l++m)=cntL l+cntL m
 | [],m=>by simp [cntL]
 | x::l,m=>by rw [List.cons_append,cntL,cntL,cntL_app l m];omega
theorem slS_hiN {e e' sz by_:Nat} {a:Bool} {o:Own} {xs:List (List D)} {k:Nat} (ho:o≠.full) (h:k≤xs.length):slS (some (.slice e)) (some (e',sz,by_,a)) o xs none (some (.int .i64 (k:Int)))=some (.slice .none (xs.take k)):=by
 simp [slS,evBd,h,ho]
theorem slS_loN {e e' sz by_:Nat} {a:Bool} {o:Own} {xs:List (List D)} {k:Nat} (ho:o≠.full) (h:k≤xs.length) (hs:∀ x ∈ xs,x.length=sz):slS (some (.slice e)) (some (e',sz,by_,a)) o xs (some (.int .i64 (k:Int))) none=some (.slice .none (xs.drop k)):=by
 have:(xs.all fun x=>x.length == sz)=true:=List.all_eq_true.2 fun x hx=>by simp [hs x hx]
 simp [slS,evBd,h,ho,this]
theorem nsN (d:Df) (n:Int) (l:List Sm):Sm.encs l++[[.int .i64 (IntKind.i64.wrap (IntKind.i64.wrap (8000+IntKind.i64.wrap (10 * d.id))+n.tmod 3)),.int .i64 6,.int .i64 (n.tmod 2),.int .i64 0,.int .i64 0,.int .i64 0,.int .i64 0,.int .i64 0,.slice .none [],.int .i64 0,.int .i64 0,.int .i64 0,.slice .none [],.int .i64 0,.slice .none [],.slice .none [],.slice .none [],.slice .none [],.slice .none [],.slice .none []]]=Sm.encs (l++[newStmt d n]):=smEncs_app1 l (newStmt d n)
def dcsN (d:Df) (o:Own) (l:List Sm):List D:=List.take 11 d.cells++[.slice o (Sm.encs l)]
theorem dcsN1 (d:Df) (o:Own) (l:List Sm):List.take 11 d.cells++D.slice o (Sm.encs l)::List.drop 12 d.cells=dcsN d o l:=rfl
theorem dcsN2 (d:Df) (o:Own) (l:List Sm):(dcsN d o l).map D.plain1=({ d with body:=l }:Df).cells:=rfl
theorem dcsN3 (d:Df) (o:Own) (l:List Sm):(dcsN d o l).take 12=dcsN d o l:=rfl
theorem dcsN4 (d:Df) (o:Own) (l:List Sm):(dcsN d o l).length=12:=rfl
theorem dcsN5 (d:Df) (o:Own) (l:List Sm):(List.drop 8 (dcsN d o l))[0]? = some (.int .i64 d.refs):=rfl
def pcsN (x:Dc) (a b c:D):List D:=x.cells++[a,b,c]
theorem pcsN1 (p:Pg) (x:D):List.take 9 p.cells++x::List.drop 10 p.cells=pcsN p.d (.slice .none (kr9 p.heads)) (.slice .none (dfCells p.defs)) x:=rfl
theorem pcsN2 (x:Dc) (a b c y:D):List.take 9 (pcsN x a b c)++y::List.drop 10 (pcsN x a b c)=pcsN x a b y:=rfl
theorem pcsN3 (x:Dc) (a b c:D):(List.drop 9 (pcsN x a b c))[0]? = some c:=rfl
theorem pcsN4 (x:Dc) (a b c:D):(pcsN x a b c).length=10:=rfl
theorem pcsN6 (p:Pg) (x:D):List.take 8 p.cells++x::List.drop 9 p.cells=pcsN p.d (.slice .none (kr9 p.heads)) x (.slice .none (intCells p.threads)):=rfl
theorem pcsN7 (x:Dc) (a b c:D):List.take 10 (pcsN x a b c)=pcsN x a b c:=rfl
theorem pcsN8 (p:Pg) (o:Own) (l:List Df):(pcsN p.d (.slice .none (kr9 p.heads)) (.slice o (dfCells l)) (.slice .none (intCells p.threads))).map D.plain1=({ p with defs:=l }:Pg).cells:=rfl
theorem dfCells_td (l:List Df) (k:Nat):List.take k (dfCells l)++List.drop (k+1) (dfCells l)=dfCells (l.take k++l.drop (k+1)):=by simp [dfCells,List.map_take,List.map_drop]
theorem intCells_take (l:List Int) (k:Nat):List.take k (intCells l)=intCells (l.take k):=by simp [intCells,List.map_take]
theorem pcsN5 (x:Dc) (a b c:D) (n:Int):List.take 6 (pcsN x a b c)++.int .i64 n::List.drop 7 (pcsN x a b c)=pcsN { x with firms:=n } a b c:=rfl
def SwRow (p:Pg) (z:Cg) (B:List Box) (L:List Nat) (c k:Nat) (e:List D) (s:St):Prop :=
 ∃ (X:List Box) (L':List Nat) (c':Nat) (d':Df) (p':Pg) (DC:List D),keep [2,3,4,5,6,7] e=[Jk,Jk,.box B.length 0,.box (B.length+1) 0,.box (B.length+2) 0,.int .i64 (k:Int),.row (B.length+3) 0 p.defs.length 12,.box (B.length+4) 0,Jk,Jk,Jk,Jk,Jk,Jk,Jk,Jk,Jk,Jk,Jk,Jk,Jk,Jk,Jk,Jk,Jk,Jk,Jk,Jk,Jk,Jk,Jk,Jk,Jk,Jk,Jk,Jk,Jk,Jk,Jk,Jk,Jk,Jk,Jk,Jk,Jk,Jk,Jk,Jk,Jk,Jk,Jk,Jk,Jk,Jk,Jk,Jk,Jk,Jk,Jk,Jk,Jk,Jk,Jk,Jk,Jk,Jk,Jk,Jk,Jk,Jk,Jk,Jk,Jk,Jk,Jk,Jk,Jk,Jk,Jk,Jk,Jk,Jk,Jk,Jk,Jk,Jk,Jk,Jk,Jk,Jk,Jk,Jk,Jk,Jk,Jk,Jk,Jk,Jk,Jk,Jk,Jk,Jk,Jk,Jk,Jk,Jk,Jk,Jk,Jk,Jk,Jk,Jk,Jk,Jk,Jk,Jk,Jk,Jk,Jk,Jk,Jk,Jk,Jk,Jk,Jk,Jk,Jk,Jk,Jk,Jk,Jk,Jk,Jk,Jk,Jk,Jk,Jk,Jk,Jk,Jk,Jk,Jk,Jk,Jk,Jk,Jk,Jk,Jk,Jk,Jk,Jk,Jk,Jk,Jk,Jk,Jk,Jk,Jk,Jk,Jk,Jk,Jk] ∧
  s=⟨B++([.cells p'.cells,.cells z.cells,.cells Pg.zc,.cells (dfCells p.defs).flatten,.cells DC]++X),L',c'⟩∧(DC.map D.plain1=d'.cells∧DC.length=12)∧z.kind.tmod 7≠3∧p'.defs=p.defs∧chg1 p z=sortedS { p' with defs:=p.defs.set k d' }∧(∀ k ∈ L,k ∈ L')∧c≤c'
def SwSl (p:Pg) (z:Cg) (B:List Box) (L:List Nat) (c k:Nat) (e:List D) (s:St):Prop :=
 ∃ (X:List Box) (L':List Nat) (c':Nat) (o:Own) (l:List Df),keep [2,3,4,5,6] e=[Jk,Jk,.box B.length 0,.box (B.length+1) 0,.box (B.length+2) 0,.int .i64 (k:Int),.slice o (dfCells l),Jk,Jk,Jk,Jk,Jk,Jk,Jk,Jk,Jk,Jk,Jk,Jk,Jk,Jk,Jk,Jk,Jk,Jk,Jk,Jk,Jk,Jk,Jk,Jk,Jk,Jk,Jk,Jk,Jk,Jk,Jk,Jk,Jk,Jk,Jk,Jk,Jk,Jk,Jk,Jk,Jk,Jk,Jk,Jk,Jk,Jk,Jk,Jk,Jk,Jk,Jk,Jk,Jk,Jk,Jk,Jk,Jk,Jk,Jk,Jk,Jk,Jk,Jk,Jk,Jk,Jk,Jk,Jk,Jk,Jk,Jk,Jk,Jk,Jk,Jk,Jk,Jk,Jk,Jk,Jk,Jk,Jk,Jk,Jk,Jk,Jk,Jk,Jk,Jk,Jk,Jk,Jk,Jk,Jk,Jk,Jk,Jk,Jk,Jk,Jk,Jk,Jk,Jk,Jk,Jk,Jk,Jk,Jk,Jk,Jk,Jk,Jk,Jk,Jk,Jk,Jk,Jk,Jk,Jk,Jk,Jk,Jk,Jk,Jk,Jk,Jk,Jk,Jk,Jk,Jk,Jk,Jk,Jk,Jk,Jk,Jk,Jk,Jk,Jk,Jk,Jk,Jk,Jk,Jk,Jk,Jk,Jk,Jk,Jk,Jk,Jk,Jk,Jk,Jk,Jk] ∧
  s=⟨B++([.cells p.cells,.cells z.cells,.cells Pg.zc]++X),L',c'⟩∧l.length≤p.defs.length+1∧l≠[]∧chg1 p z=sortedS { p with defs:=l }∧(∀ k ∈ L,k ∈ L')∧c≤c'
theorem sorted_eq (p:Pg) (l:List Df):withH { withH { p with defs:=l } with defs:=movedL l.dropLast (l.getLast?.getD Df.zero) }=sortedS { p with defs:=l }:=rfl
theorem pzc_len:Pg.zc.length=10:=rfl
theorem box3 {B X:List Box} {a b c:Box}:B++([a,b,c]++X)=B++(a::b::c::X):=rfl
theorem dfCells_app1 (l:List Df) (x:Df):dfCells l++[x.cells]=dfCells (l++[x]):=by simp [dfCells]
theorem t_Changed1 (p:Pg) (z:Cg) (hz:(0≤z.kind∧z.kind<256)∧(0≤z.pos∧z.pos<256)∧(0≤z.n∧z.n<256)) (hpos:0<p.defs.length) (hn:p.defs.length≤900) (hN:∀ d ∈ p.defs,cntL d.body<90000) (htl:1≤p.threads.length∧p.threads.length≤4) (s:St) :
  Spec Tryz.prog 49 [.agg p.cells,.agg z.cells] s (.agg (chg1 p z).cells) s:=by
 obtain ⟨B,L,c⟩:=s
 have hk:z.pos.tmod (p.defs.length:Int)=((z.pos.toNat % p.defs.length:Nat):Int):=tmodN hz.2.1.1
 have hkl:z.pos.toNat % p.defs.length<p.defs.length:=Nat.mod_lt _ hpos
 have hne:¬ (p.defs.length:Int)=0:=by omega
 have hw:IntKind.i64.wrap z.pos=z.pos:=ky9 (by omega)
 refine Spec.introN [(1,.cut),(4,.meet),(15,.cut),(21,.text [false,false,false,false,false,true,false,false,false,false,false,true,false] [(7,0)]),(25,.text [false,false,false,true,false,false,false,false,false,false,false,false,false,false,false,false,false,false,false,true,false,true] [(5,0),(9,0),(14,0)]),(30,.cut)] Tryz.func49 rfl (by decide) hmix (by kernel_rfl) [ResultVar.cell 4 37] 162 rfl rfl ?_
 simp only [vqM,vt94,zA,zS,zB]
 refine seq_go ?_
 simp only [vqM,vt94,zA,vsCg,kg9,hw,hne,hk]
 by_cases k3:z.kind.tmod 7=3
 ·obtain ⟨k,hkd⟩:∃ k,k=z.pos.toNat % p.defs.length:=⟨_,rfl⟩
  rw [← hkd] at hkl hk ⊢
  have hx:p.defs[k]? = some p.defs[k]:=List.getElem?_eq_getElem hkl
  have hg:(dfCells p.defs)[k]? = some (p.defs[k].cells):=by simp [dfCells,hx]
  generalize p.defs[k]=d at hg
  have hdf:(∀ c,c ∈ dfCells p.defs→c.length=12)=True:=eq_true (dfEachN _)
  have hd1:(0+p.defs.length≤1000000)=True:=eq_true (by omega)
  have h70:(¬ (7:Int)=0)=True:=by simp
  have h20:(¬ (2:Int)=0)=True:=by simp
  have h40:(¬ (4:Int)=0)=True:=by simp
  have r2:=tmod_rg hz.2.2.1 (show (0:Int)<2 by omega)
  have r4:=tmod_rg hz.2.2.1 (show (0:Int)<4 by omega)
  have w2:IntKind.i64.wrap (z.n.tmod 2)=z.n.tmod 2:=ky9 (by omega)
  have w4:IntKind.i64.wrap (z.n.tmod 4)=z.n.tmod 4:=ky9 (by omega)
  have w20:IntKind.i64.wrap (20+z.n.tmod 2)=20+z.n.tmod 2:=ky9 (by omega)
  have hid:(spareD (20+z.n.tmod 2) (z.n.tmod 4)).id=20+z.n.tmod 2:=rfl
  have hce:chg1 p z=sortedS { p with defs:=if (findS p (20+z.n.tmod 2)).isSome then p.defs else p.defs++[spareD (20+z.n.tmod 2) (z.n.tmod 4)] }:=by rw [chg1,if_neg (by omega),if_neg (by omega),if_neg (by omega),if_pos k3]
  have hfd:∀ (x:Df) (b:D),(x.cells++[b])[12]? = some b:=fun _ _=>rfl
  refine xk9 hmix ?_
  simp only [vqM,vt94,zA,zM,zL,zB,Int.toNat_natCast,hdf,kg9,hd1,natle0,hg]
  refine seq_joinI (SwSl p z B L c k) ?_ ?_
  ·simp only [vqM,vt94,zA,zB,vsCg,k3,Int.reduceEq,decide_false,decide_true]
   refine seq_go ?_
   simp only [vqM,vt94,zA,vsCg,h20,h40,w2,w4,w20]
   refine ka9 (t_spare _ _ _) ?_
   simp only [vqM,vt94,zA]
   refine xk9 hmix ?_
   simp only [vqM,vt94,zA,zB]
   refine ka9 (t_FindIn _ _ (by omega) _) ?_
   simp only [vqM,vt94,foundD,hid,hfd]
   have hof:∀ (B':List Box),qa9 (.lab c 12) (dfCells p.defs) 12 ⟨B',c::L,c+1⟩=true:=fun B'=>by simp [qa9]
   have hl1:(p.defs.length≤999999)=True:=eq_true (by omega)
   refine kb9 (fun cf=>?_) (fun cf=>?_)
   ·rw [if_neg (by simpa using cf)] at hce
    simp only [vqM,vt94,zA,zM,zL,kg9,hof,hl1,dfCells_app1]
    exact qi9 ⟨_,_,_,.lab (c+1) 12,p.defs++[spareD (20+z.n.tmod 2) (z.n.tmod 4)],by simp only [vke,zB,zA],rfl,by simp,by simp,hce,fun _ h=>by simp [h],by omega⟩
   ·rw [if_pos (by simpa using cf)] at hce
    simp only [vqM]
    exact qi9 ⟨_,_,_,.lab c 12,p.defs,by simp only [vke,zB,zA],rfl,by simp,by intro h;rw [h] at hpos;simp at hpos,hce,fun _ h=>by simp [h],by omega⟩
  ·rintro e s ⟨X,L',c',o,l,he,rfl,hll,hl0,hch,hsub,hle⟩
   refine kc9 [2,3,4,5,6] ?_
   rw [he]
   clear he
   refine xk9 hmix ?_
   simp only [vqM,vt94,zA,zB,vsCg,k3,ne_eq,Int.reduceEq,not_true_eq_false,decide_false]
   refine seq_go ?_
   simp only [vqM,vt94,zA,zL,pcsN6]
   refine xk9 hmix ?_
   simp only [vqM,vt94,zB,pcsN4,pcsN7,pcsN8]
   refine ka9 (t_WithHeads _ (by show l.length≤_;omega) _) ?_
   simp only [vqM]
   refine ka9 (t_sorted _ l.dropLast (l.getLast?.getD Df.zero) (last_split hl0) (by rw [List.length_dropLast];omega) _) ?_
   simp only [vqM,vt94,zA,pzc_len,sorted_eq]
   refine ke9 (.inr rfl) ?_ (kv9 (Pg.bd _)) hsub hle
   rw [hch]
   simp only [vqM,vt94,zA,zS,pzc_len]
 refine awN_seq ?_
 refine awN_region2a 1 rfl rfl ?_
 simp only [vqM,vt94,zA,zM]
 refine kI_gh (gh_slot 16 (d:=.slice .full []) rfl weak_full) ?_
 simp only [vqM,vt94,zA]
 refine apZ2_intro (by decide) (dfEachN _) (by rw [kg9];exact hpos) (by rw [kg9];omega) ?_
 rw [kg9]
 simp only [vqM,zA]
 refine xk9 hmix ?_
 simp only [vqM,vt94,zB]
 obtain ⟨k,hkd⟩:∃ k,k=z.pos.toNat % p.defs.length:=⟨_,rfl⟩
 rw [← hkd] at hkl hk ⊢
 have hx:p.defs[k]? = some p.defs[k]:=List.getElem?_eq_getElem hkl
 have hR1:=row_get hx
 have hR2:(k * 12+12≤(dfCells p.defs).flatten.length)=True:=eq_true (by have:=dfR_len p.defs;unfold dfR at this;omega)
 have hR3:(12≤(dfCells p.defs).flatten.length - k * 12)=True:=eq_true (by rw [eq_iff_iff,iff_true] at hR2;omega)
 have hRs:∀ v:Df,(dfCells p.defs).flatten.take (k * 12)++(v.cells++(dfCells p.defs).flatten.drop (k * 12+12))=(dfCells (p.defs.set k v)).flatten:=fun v=>row_set hkl v
 have hki:(0≤(k:Int)∧(k:Int)<(p.defs.length:Int))=True:=by simp;exact hkl
 have hdm:p.defs[k] ∈ p.defs:=List.getElem_mem hkl
 generalize p.defs[k]=d at hx hR1 hdm
 generalize hR:(dfCells p.defs).flatten=R at hR1 hR2 hR3 hRs ⊢
 simp only [vqM,vt94,zA,zB,hki,Int.toNat_natCast,Nat.zero_add,hR1,hR3]
 refine seq_joinI (SwRow p z B L c k) ?_ ?_
 ·have h70:(¬ (7:Int)=0)=True:=by simp
  have h30:(¬ (3:Int)=0)=True:=by simp
  have h20:(¬ (2:Int)=0)=True:=by simp
  have h40:(¬ (4:Int)=0)=True:=by simp
  have r3:=tmod_rg hz.2.2.1 (show (0:Int)<3 by omega)
  have r2:=tmod_rg hz.2.2.1 (show (0:Int)<2 by omega)
  have r4:=tmod_rg hz.2.2.1 (show (0:Int)<4 by omega)
  have hchg:chgD p z=d:=by rw [chgD,← hkd,hx];rfl
  have hset:∀ v,setV p z v=sortedS { p with defs:=p.defs.set k v }:=fun v=>by rw [setV,← hkd]
  have w3:IntKind.i64.wrap (z.n.tmod 3)=z.n.tmod 3:=ky9 (by omega)
  have w2:IntKind.i64.wrap (z.n.tmod 2)=z.n.tmod 2:=ky9 (by omega)
  have w4:IntKind.i64.wrap (z.n.tmod 4)=z.n.tmod 4:=ky9 (by omega)
  have wn:IntKind.i64.wrap z.n=z.n:=ky9 (by omega)
  simp only [vqM,vt94,zA,zB,vsCg,h70]
  refine kb9 (fun c0=>?_) (fun c0=>?_)
  ·have c0':=of_decide_eq_true c0
   have c03:z.kind.tmod 7≠3:=by omega
   obtain h | h | h:z.n.tmod 3=0∨z.n.tmod 3=1∨z.n.tmod 3=2:=by omega
   all_goals
    have hce:chg1 p z=sortedS { p with defs:=p.defs.set k { d with name:=abcN (z.n.tmod 3) } }:=by rw [chg1,if_pos c0',hset,hchg]
    simp only [vqM,vt94,zA,zM,zL,vsCg,h30,h,Int.reduceLE,Int.reduceToNat]
    refine qi9 ⟨[],L,c,_,p,({ d with name:=abcN (z.n.tmod 3) }:Df).cells,by simp only [vke,zB,zA],?_,⟨rfl,rfl⟩,c03,rfl,hce,fun _ h=>h,Nat.le_refl _⟩
    rw [hR,h];rfl
  have c0':=of_decide_eq_false c0
  simp only [vqM,zB]
  refine kb9 (fun c1=>?_) (fun c1=>?_)
  ·have c1':=of_decide_eq_true c1
   have c13:z.kind.tmod 7≠3:=by omega
   simp only [vqM,vt94,zA,zL,vsCg,wn]
   have hce:chg1 p z=sortedS { p with defs:=p.defs.set k { d with budget:=w64 (1+z.n) } }:=by rw [chg1,if_neg c0',if_pos c1',hset,hchg]
   exact qi9 ⟨[],L,c,_,p,_,by simp only [vke,zB,zA],by rw [hR];rfl,⟨rfl,rfl⟩,c13,rfl,hce,fun _ h=>h,Nat.le_refl _⟩
  have c1':=of_decide_eq_false c1
  simp only [vqM,zB]
  refine kb9 (fun c2=>?_) (fun c2=>?_)
  ·have c2':=of_decide_eq_true c2
   have c23:z.kind.tmod 7≠3:=by omega
   simp only [vqM,vt94,zA,zL,vsCg,h30,w3]
   have hce:chg1 p z=sortedS { p with defs:=p.defs.set k { d with part:=z.n.tmod 3 } }:=by rw [chg1,if_neg c0',if_neg c1',if_pos c2',hset,hchg]
   exact qi9 ⟨[],L,c,_,p,_,by simp only [vke,zB,zA],by rw [hR];rfl,⟨rfl,rfl⟩,c23,rfl,hce,fun _ h=>h,Nat.le_refl _⟩
  have c2':=of_decide_eq_false c2
  simp only [vqM,zB]
  refine kb9 (fun c3=>?_) (fun c3=>?_)
  ·exact absurd (of_decide_eq_true c3) k3
  have c3':=of_decide_eq_false c3
  simp only [vqM,zB]
  refine kb9 (fun c4=>?_) (fun c4=>?_)
  ·have c4':=of_decide_eq_true c4
   simp only [vqM,vt94,zA,zB]
   refine ka9 (t_called _ _ (by omega) (fun d hd=>by have:=hN d hd;omega) _) ?_
   simp only [vqM]
   have hce:(calledB p d.id || decide (p.defs.length=1))=true→chg1 p z=p:=fun hb=>by rw [chg1,if_neg c0',if_neg c1',if_neg c2',if_neg c3',if_pos c4',hchg,if_pos hb]
   have hcf:(calledB p d.id || decide (p.defs.length=1))=false→chg1 p z=withH { p with defs:=p.defs.take k++p.defs.drop (k+1) }:=fun hb=>by rw [chg1,if_neg c0',if_neg c1',if_neg c2',if_neg c3',if_pos c4',hchg,if_neg (by simp [hb]),← hkd]
   have hpz:Pg.zc.length=10:=rfl
   refine kb9 (fun cc=>?_) (fun cc=>?_)
   ·simp only [vqM,vt94,zA,zB,cc]
    refine ke9 (.inr rfl) ?_ (kv9 (Pg.bd _)) (fun _ h=>h) (Nat.le_refl _)
    rw [hce (by rw [cc];rfl)]
    simp only [vqM,vt94]
   simp only [vqM,vt94,cc]
   refine kb9 (fun ce=>?_) (fun ce=>?_)
   ·simp only [vqM,vt94,zA,zB]
    refine ke9 (.inr rfl) ?_ (kv9 (Pg.bd _)) (fun _ h=>h) (Nat.le_refl _)
    rw [hce (by rw [cc];simp at ce ⊢;omega)]
    simp only [vqM,vt94]
   have t12:(∀ c,c ∈ List.take k (dfCells p.defs)→c.length=12)=True:=eq_true fun c hc=>dfEachN _ c (List.mem_of_mem_take hc)
   have t13:(∀ c,c ∈ List.drop (k+1) (dfCells p.defs)→c.length=12)=True:=eq_true fun c hc=>dfEachN _ c (List.mem_of_mem_drop hc)
   have l1:(List.take k (dfCells p.defs)).length=k:=by rw [List.length_take,kg9];omega
   have l2:(0+k≤1000000)=True:=eq_true (by omega)
   have l3:(k+(p.defs.length - (k+1))≤1000000)=True:=eq_true (by omega)
   have s1:=@slS_hiN 55 55 12 168 true .none (dfCells p.defs) k (by simp) (by rw [kg9];omega)
   have s2:=@slS_loN 55 55 12 168 true .none (dfCells p.defs) (k+1) (by simp) (by rw [kg9];omega) (dfEachN _)
   have wk:IntKind.i64.wrap ((k:Int)+1)=((k+1:Nat):Int):=kf9 (by omega)
   simp only [vqM,vt94,zA,zM,zL,zB,kg9,s1,s2,wk,t12,t13,l1,l2,l3,List.contains_cons,Bool.true_or,List.erase_cons_head,pcsN6,pcsN4,pcsN7,pcsN8,dfCells_td]
   refine ka9 (t_WithHeads _ (by show (p.defs.take k++p.defs.drop (k+1)).length≤_;rw [List.length_append,List.length_take,List.length_drop];omega) _) ?_
   simp only [vqM,vt94,zA]
   refine ke9 (.inr rfl) ?_ (kv9 (Pg.bd _)) (fun _ h=>by simp [h]) (by omega)
   rw [hcf (by rw [cc];simp at ce ⊢;omega)]
   simp only [vqM,vt94]
  have c4':=of_decide_eq_false c4
  simp only [vqM,zB]
  have s3:slS (some (.slice 3)) (some (3,1,8,false)) (.lab c 1) (intCells p.threads) none (some (.int .i64 1))=some (.slice .none ((intCells p.threads).take 1)):=@slS_hiN 3 3 1 8 false (.lab c 1) (intCells p.threads) 1 (by simp) (by rw [kd9];omega)
  have htl1:(0+p.threads.length≤1000000)=True:=eq_true (by omega)
  have hsm:(∀ c,c ∈ Sm.encs d.body→c.length=20)=True:=eq_true (smEncs_each _)
  have hth:(∀ c,c ∈ intCells p.threads→c.length=1)=True:=eq_true (qb9 _)
  have hbl2:(d.body.length≤999999)=True:=eq_true (by have h1:=hN d hdm;have h2:=cntL_ge d.body;omega)
  have hbl:(0+d.body.length≤1000000)=True:=eq_true (by have h1:=hN d hdm;have h2:=cntL_ge d.body;omega)
  refine kb9 (fun c5=>?_) (fun c5=>?_)
  ·simp only [vqM,vt94,zA,zM,zL,zB,vsCg,h20,h30,hsm,kp9,hbl,hbl2,w2,w3,nsN,dcsN1,dcsN5,List.contains_cons,Bool.true_or,List.erase_cons_head]
   have hpz:Pg.zc.length=10:=rfl
   have hce:(d.refs<2 ∨ ¬ (sitesS { d with body:=d.body++[newStmt d z.n] }).Nodup)→chg1 p z=p:=fun hb=>by rw [chg1,if_neg c0',if_neg c1',if_neg c2',if_neg k3,if_neg c4',if_pos (of_decide_eq_true c5),hchg,if_pos hb]
   have hcf:¬ (d.refs<2 ∨ ¬ (sitesS { d with body:=d.body++[newStmt d z.n] }).Nodup)→chg1 p z=sortedS { p with defs:=p.defs.set k { d with body:=d.body++[newStmt d z.n] } }:=fun hb=>by rw [chg1,if_neg c0',if_neg c1',if_neg c2',if_neg k3,if_neg c4',if_pos (of_decide_eq_true c5),hchg,if_neg hb,hset]
   refine kb9 (fun cc=>?_) (fun cc=>?_)
   ·simp only [vqM,vt94,zA,zB,cc]
    refine ke9 (.inr rfl) ?_ (kv9 (Pg.bd _)) (fun _ h=>by simp [h]) (by omega)
    rw [hce (.inl (of_decide_eq_true cc))]
    simp only [vqM,vt94]
   simp only [vqM,vt94,cc,dcsN3,dcsN2,dcsN4]
   refine ka9 (t_SitesN _ (by have:=hN d hdm;show cntL (d.body++[newStmt d z.n])<_;rw [cntL_app];have e:cntL [newStmt d z.n]=1:=rfl;omega) _) ?_
   simp only [vqM]
   refine ka9 (t_Different _ _) ?_
   simp only [vqM,diffB]
   refine kb9 (fun ce=>?_) (fun ce=>?_)
   ·simp only [vqM,vt94,zA,zB]
    refine ke9 (.inr rfl) ?_ (kv9 (Pg.bd _)) (fun _ h=>by simp [h]) (by omega)
    rw [hce (.inr (by simpa using ce))]
    simp only [vqM,vt94]
   ·simp only [vqM]
    exact qi9 ⟨[],_,_,{ d with body:=d.body++[newStmt d z.n] },p,dcsN d (.lab (c+1) 20) (d.body++[newStmt d z.n]),by simp only [vke,zB,zA],by rw [hR];rfl,⟨rfl,rfl⟩,k3,rfl,hcf (by rw [not_or];exact ⟨of_decide_eq_false cc,by simpa using ce⟩),fun _ h=>by simp [h],by omega⟩
  ·simp only [vqM,vt94,zA,zM,zL,zB,vsCg,h20,hth,kd9,htl1,s3,pcsN1,pcsN2,pcsN3,pcsN4,pcsN5,w2]
   have w21:IntKind.i64.wrap (2+z.n.tmod 2)=w64 (2+z.n.tmod 2):=rfl
   have hce:chg1 p z=sortedS { p with threads:=p.threads.take 1,d:={ p.d with firms:=w64 (2+z.n.tmod 2) },defs:=p.defs.set k d }:=by
    rw [chg1,if_neg c0',if_neg c1',if_neg c2',if_neg k3,if_neg c4',if_neg (of_decide_eq_false c5)]
    rw [show p.defs.set k d=p.defs by
     refine List.ext_getElem? fun i=>?_
     by_cases e:i=k
     ·subst e;rw [List.getElem?_set_self hkl,hx]
     ·rw [List.getElem?_set_ne (by omega)]]
   refine qi9 ⟨[],c::L,c+1,d,{ p with threads:=p.threads.take 1,d:={ p.d with firms:=w64 (2+z.n.tmod 2) } },d.cells,by simp only [vke,zB,zA],?_,⟨rfl,rfl⟩,k3,rfl,hce,fun _ h=>by simp [h],by omega⟩
   rw [hR,intCells_take];rfl
 ·rintro e s ⟨X,L',c',d',p',DC,he,rfl,⟨hd1,hd2⟩,hk3,hp',hch,hsub,hle⟩
  refine kc9 [2,3,4,5,6,7] ?_
  rw [he]
  clear he
  have h70:(¬ (7:Int)=0)=True:=by simp
  have hk4:(z.kind.tmod 7=3)=False:=eq_false hk3
  have hd3:DC.take 12=DC:=List.take_of_length_le (by omega)
  have hd4:(12≤DC.length)=True:=eq_true (by omega)
  refine awN_joinI (fun e s=>keep [2,3,4,6] e=[Jk,Jk,.box B.length 0,.box (B.length+1) 0,.box (B.length+2) 0,Jk,.row (B.length+3) 0 p.defs.length 12,Jk,Jk,Jk,Jk,Jk,Jk,Jk,Jk,Jk,Jk,Jk,Jk,Jk,Jk,Jk,Jk,Jk,Jk,Jk,Jk,Jk,Jk,Jk,Jk,Jk,Jk,Jk,Jk,Jk,Jk,Jk,Jk,Jk,Jk,Jk,Jk,Jk,Jk,Jk,Jk,Jk,Jk,Jk,Jk,Jk,Jk,Jk,Jk,Jk,Jk,Jk,Jk,Jk,Jk,Jk,Jk,Jk,Jk,Jk,Jk,Jk,Jk,Jk,Jk,Jk,Jk,Jk,Jk,Jk,Jk,Jk,Jk,Jk,Jk,Jk,Jk,Jk,Jk,Jk,Jk,Jk,Jk,Jk,Jk,Jk,Jk,Jk,Jk,Jk,Jk,Jk,Jk,Jk,Jk,Jk,Jk,Jk,Jk,Jk,Jk,Jk,Jk,Jk,Jk,Jk,Jk,Jk,Jk,Jk,Jk,Jk,Jk,Jk,Jk,Jk,Jk,Jk,Jk,Jk,Jk,Jk,Jk,Jk,Jk,Jk,Jk,Jk,Jk,Jk,Jk,Jk,Jk,Jk,Jk,Jk,Jk,Jk,Jk,Jk,Jk,Jk,Jk,Jk,Jk,Jk,Jk,Jk,Jk,Jk,Jk,Jk,Jk,Jk,Jk,Jk]∧s=⟨B++([.cells p'.cells,.cells z.cells,.cells Pg.zc,.cells (dfCells (p.defs.set k d')).flatten,.cells DC]++X),L',c'⟩) ?_ ?_
  ·refine xk9 hmix ?_
   have box5:∀ a b c d e:Box,B++([a,b,c,d,e]++X)=B++(a::b::c::d::e::X):=fun _ _ _ _ _=>rfl
   rw [hR]
   have hl12:d'.cells.length=12:=rfl
   have hfit:(12=12∧0+k * 12+12≤R.length)=True:=eq_true ⟨rfl,by rw [eq_iff_iff,iff_true] at hR2;omega⟩
   simp only [vqM,vt94,zB,vsCg,h70,hk4,ne_eq,not_false_eq_true,decide_true,hki,Int.toNat_natCast,hd3,hd2,hd1,hl12,hR2,Nat.zero_add,hRs]
   exact qi9 ⟨by simp only [vke,zB,zA],rfl⟩
  ·rintro e s ⟨he,rfl⟩
   have hR':(dfCells (p.defs.set k d')).flatten=(dfCells (p.defs.set k d')).flatten:=rfl
   refine kc9 [2,3,4,6] ?_
   rw [he]
   clear he
   refine awN_frzS [2,3,4,6] (B.length+2) (b:=B.length+3) (xs:=dfCells (p.defs.set k d')) (by rw [wi9];rfl) (by rw [wi9];rfl) (by omega) rfl (by rw [kg9,List.length_set]) (dfEachN _) ?_ rfl [Jk,Jk,.box B.length 0,.box (B.length+1) 0,.box (B.length+2) 0,Jk,.slice .none (dfCells (p.defs.set k d')),Jk,Jk,Jk,Jk,Jk,Jk,Jk,Jk,Jk,Jk,Jk,Jk,Jk,Jk,Jk,Jk,Jk,Jk,Jk,Jk,Jk,Jk,Jk,Jk,Jk,Jk,Jk,Jk,Jk,Jk,Jk,Jk,Jk,Jk,Jk,Jk,Jk,Jk,Jk,Jk,Jk,Jk,Jk,Jk,Jk,Jk,Jk,Jk,Jk,Jk,Jk,Jk,Jk,Jk,Jk,Jk,Jk,Jk,Jk,Jk,Jk,Jk,Jk,Jk,Jk,Jk,Jk,Jk,Jk,Jk,Jk,Jk,Jk,Jk,Jk,Jk,Jk,Jk,Jk,Jk,Jk,Jk,Jk,Jk,Jk,Jk,Jk,Jk,Jk,Jk,Jk,Jk,Jk,Jk,Jk,Jk,Jk,Jk,Jk,Jk,Jk,Jk,Jk,Jk,Jk,Jk,Jk,Jk,Jk,Jk,Jk,Jk,Jk,Jk,Jk,Jk,Jk,Jk,Jk,Jk,Jk,Jk,Jk,Jk,Jk,Jk,Jk,Jk,Jk,Jk,Jk,Jk,Jk,Jk,Jk,Jk,Jk,Jk,Jk,Jk,Jk,Jk,Jk,Jk,Jk,Jk,Jk,Jk,Jk,Jk,Jk,Jk,Jk,Jk,Jk] ?_ ?_
   ·simp only [vke,zB,zA]
    refine rowZ_fz ?_
    simp [noRow]
   ·simp only [vke,zB,zA]
    simp [fz]
   rw [box_set]
   have hp2:p'={ p' with defs:=p.defs }:=by rw [← hp']
   have box5:∀ a b c d e:Box,B++(([a,b,c,d,e]++X).set 3 .dead)=B++(a::b::c::.dead::e::X):=fun _ _ _ _ _=>rfl
   have hne2:p.defs.set k d'≠[]:=by intro h;have:=congrArg List.length h;simp at this;rw [this] at hpos;simp at hpos
   rw [box5]
   refine xk9 hmix ?_
   simp only [vqM,zB]
   refine seq_go ?_
   simp only [vqM,vt94,zA,zL,pcsN6]
   refine xk9 hmix ?_
   simp only [vqM,vt94,zB,pcsN4,pcsN7,pcsN8]
   refine ka9 (t_WithHeads _ (by show (p.defs.set k d').length≤_;rw [List.length_set];omega) _) ?_
   simp only [vqM]
   refine ka9 (t_sorted _ (p.defs.set k d').dropLast ((p.defs.set k d').getLast?.getD Df.zero) (last_split hne2) (by rw [List.length_dropLast,List.length_set];omega) _) ?_
   simp only [vqM,vt94,zA,pzc_len,sorted_eq]
   refine ke9 (.inr rfl) ?_ (kv9 (Pg.bd _)) hsub hle
   rw [hch]
   simp only [vqM,vt94,zA,zS,pzc_len]
mutual
theorem dp_deep:(x:Sm)→∀ d:Int,1≤d→d+x.dp≤4000000000→((∀ p ∈ x.flat d,p.depth≤10)↔d+x.dp≤11)
 | .mk site op n m v x y c args ptrs body els=>fun d h1 h2=>by
  rw [Sm.dp_eq] at h2 ⊢
  rw [Sm.flat_eq]
  simp only [Sm.body,Sm.els] at h2 ⊢
  rw [qs9 (n:=d+1) (by omega)]
  have hb:=dpL_deep body (d+1) (by omega) (by omega)
  have he:=dpL_deep els (d+1) (by omega) (by omega)
  constructor
  ·intro h
   have h0:=h _ (List.mem_cons_self ..)
   have h3:=hb.1 fun p hp=>h p (List.mem_cons_of_mem _ (List.mem_append_left _ hp))
   have h4:=he.1 fun p hp=>h p (List.mem_cons_of_mem _ (List.mem_append_right _ hp))
   simp only at h0
   omega
  ·intro h p hp
   rcases List.mem_cons.1 hp with rfl | hp
   ·simp only;omega
   ·rcases List.mem_append.1 hp with hp | hp
    ·exact hb.2 (by omega) p hp
    ·exact he.2 (by omega) p hp
theorem dpL_deep:(l:List Sm)→∀ d:Int,1≤d→d+dpL l≤4000000000→((∀ p ∈ flatL d l,p.depth≤10)↔(dpL l=0∨d+dpL l≤11))
 | []=>fun d _ _=>by simp [flatL,dpL]
 | x::l=>fun d h1 h2=>by
  rw [dpL] at h2 ⊢
  rw [flatL]
  have hx:=dp_deep x d h1 (by omega)
  have hl:=dpL_deep l d h1 (by omega)
  have hp1:1≤x.dp:=by rw [Sm.dp_eq];omega
  constructor
  ·intro h
   have h3:=hx.1 fun p hp=>h p (List.mem_append_left _ hp)
   have h4:=hl.1 fun p hp=>h p (List.mem_append_right _ hp)
   omega
  ·intro h p hp
   rcases List.mem_append.1 hp with hp | hp
   ·exact hx.2 (by omega) p hp
   ·exact hl.2 (by omega) p hp
end
theorem scan_inv (k:Ck):∀ (ps:List Pl) (seen:List Int),seen.Nodup→seen.length≤201→scanB k ps seen=true→(∀ p ∈ ps,stmtB k p.s=true∧p.depth≤10)∧(seen++sitesL ps).Nodup∧seen.length+ps.length≤201:=by
 intro ps
 induction ps with
 | nil=>intro seen h1 h2 _;exact ⟨fun p hp=>by simp at hp,by simpa [sitesL] using h1,by simpa using h2⟩
 | cons p ps ih =>
  intro seen h1 h2 h
  simp only [scanB,Bool.and_eq_true,Bool.not_eq_true',Bool.or_eq_false_iff,decide_eq_false_iff_not] at h
  obtain ⟨⟨⟨⟨ha,hb⟩,hc⟩,hd⟩,he⟩:=h
  have hc':p.s.site ∉ seen:=by
   intro hm
   have:seen.contains p.s.site=true:=by simpa using hm
   rw [this] at hc;cases hc
  obtain ⟨i1,i2,i3⟩:=ih (seen++[p.s.site]) (by
   rw [List.nodup_append]
   exact ⟨h1,by simp,fun a hm b hb=>by simp at hb;subst hb;rintro rfl;exact hc' hm⟩) (by simp;omega) he
  refine ⟨fun q hq=>?_,by simpa [sitesL] using i2,by simp at i3 ⊢;omega⟩
  rcases List.mem_cons.1 hq with rfl | hq
  ·exact ⟨by simpa using hd,by omega⟩
  ·exact i1 q hq
def bad1 (d:Df) (x:Dc):Bool:=!inB d.id 1 1073741824 || (!inB d.site 1 1073741824 || (!nameB d.name || (!inB d.firm 0 (w64 (x.firms - 1)) || (!inB d.part 0 (w64 (x.parts - 1)) || (!inB d.vars d.params.length 12 || (!inB d.refs d.given.length 4 || decide (4<(d.arrays.length:Int))))))))
def bad2 (d:Df):Bool:=!qy9 d.params 12 ku9 || (!qy9 d.given 4 ku9 || (!inB d.budget 1 20000 || (decide (10<(dpL d.body:Int)) || decide (200<((smsL d.body).length:Int)))))
def bad3 (d:Df) (x:Dc):Bool:=!listB ⟨d,x⟩ d.body || !diffB (sitesS d)
theorem defB_ref {d:Df} {x:Dc} (hN:cntL d.body<999999):defB d x=(!bad1 d x && (!bad2 d && (d.arrays.all (arrB d) && !bad3 d x))):=by
 have hll:=xg9 d.body
 have hfl:(flatL 1 d.body).length=cntL d.body:=xr9 d.body 1
 have hdc:=dpL_cnt d.body
 have hdd:=dpL_deep d.body 1 (by omega) (by omega)
 have hss:([d.site]++sitesL (flatL 1 d.body)).Nodup↔(sitesS d).Nodup:=by rw [sitesS];exact List.perm_append_comm.nodup_iff
 have hst:listB ⟨d,x⟩ d.body=true ↔ ∀ p ∈ flatL 1 d.body,stmtB ⟨d,x⟩ p.s=true:=by
  rw [listB,← flatL_sms d.body 1,List.all_eq_true]
  simp only [List.mem_map,forall_exists_index,and_imp,forall_apply_eq_imp_iff₂]
 have hsc:scanB ⟨d,x⟩ (flatL 1 d.body) [d.site]=true↔(listB ⟨d,x⟩ d.body=true∧dpL d.body≤10)∧(sitesS d).Nodup∧(smsL d.body).length≤200:=by
  constructor
  ·intro h
   obtain ⟨h1,h2,h3⟩:=scan_inv _ _ _ (by simp) (by simp) h
   have h4:=hdd.1 fun p hp=>(h1 p hp).2
   simp at h3
   exact ⟨⟨hst.2 fun p hp=>(h1 p hp).1,by omega⟩,hss.1 h2,by omega⟩
  ·rintro ⟨⟨h1,h2⟩,h3,h4⟩
   have h5:=hdd.2 (by omega)
   exact scan_ok _ _ _ (fun p hp=>⟨hst.1 h1 p hp,h5 p hp⟩) (hss.2 h3) (by simp;omega)
 rw [Bool.eq_iff_iff]
 simp only [defB,headB,bad1,bad2,bad3,Bool.and_eq_true,Bool.not_eq_true',Bool.or_eq_false_iff,hsc,decide_eq_false_iff_not,Bool.not_eq_false',diffB,decide_eq_true_eq]
 have ha:qy9 d.arrays 4 (arrB d)=true ↔ ¬ (4<(d.arrays.length:Int))∧d.arrays.all (arrB d)=true:=by
  simp only [qy9,Bool.and_eq_true,decide_eq_true_eq]
  constructor
  ·rintro ⟨h1,h2⟩;exact ⟨by omega,h2⟩
  ·rintro ⟨h1,h2⟩;exact ⟨by omega,h2⟩
 rw [ha]
 constructor
 ·rintro ⟨⟨⟨⟨⟨⟨⟨⟨⟨⟨⟨a1,a2⟩,a3⟩,a4⟩,a5⟩,a6⟩,a7⟩,a8⟩,a9⟩,a10⟩,a11,a12⟩,⟨a13,a14⟩,a15,a16⟩
  exact ⟨⟨a1,a2,a3,a4,a5,a6,a7,a11⟩,⟨a9,a10,a8,by omega,by omega⟩,a12,a13,a15⟩
 ·rintro ⟨⟨a1,a2,a3,a4,a5,a6,a7,a11⟩,⟨a9,a10,a8,a14,a16⟩,a12,a13,a15⟩
  exact ⟨⟨⟨⟨⟨⟨⟨⟨⟨⟨⟨a1,a2⟩,a3⟩,a4⟩,a5⟩,a6⟩,a7⟩,a8⟩,a9⟩,a10⟩,a11,a12⟩,⟨a13,by omega⟩,a15,by omega⟩
theorem t_DefR (d:Df) (x:Dc) (hnm:d.name.size≤1000000000) (hN:cntL d.body<999999) (s:St):Spec Tryz.prog 54 [.agg d.cells,.agg x.cells] s (.int .i64 (if defB d x then 0 else 60)) s:=by
 have hdef:=defB_ref (x:=x) hN
 obtain ⟨B,L,c⟩:=s
 refine Spec.introN [(1,.cut),(3,.cut),(8,.cut),(10,.cut)] Tryz.func54 rfl (by decide) hmix (by kernel_rfl) [ResultVar.tmp 4] 133 rfl rfl ?_
 simp only [vqM,zA,zS,zB]
 refine qe9 hmix [2,3,63] [Jk,Jk,.box B.length 0,.box (B.length+1) 0,Jk,Jk,Jk,Jk,Jk,Jk,Jk,Jk,Jk,Jk,Jk,Jk,Jk,Jk,Jk,Jk,Jk,Jk,Jk,Jk,Jk,Jk,Jk,Jk,Jk,Jk,Jk,Jk,Jk,Jk,Jk,Jk,Jk,Jk,Jk,Jk,Jk,Jk,Jk,Jk,Jk,Jk,Jk,Jk,Jk,Jk,Jk,Jk,Jk,Jk,Jk,Jk,Jk,Jk,Jk,Jk,Jk,Jk,Jk,.bool (bad1 d x),Jk,Jk,Jk,Jk,Jk,Jk,Jk,Jk,Jk,Jk,Jk,Jk,Jk,Jk,Jk,Jk,Jk,Jk,Jk,Jk,Jk,Jk,Jk,Jk,Jk,Jk,Jk,Jk,Jk,Jk,Jk,Jk,Jk,Jk,Jk,Jk,Jk,Jk,Jk,Jk,Jk,Jk,Jk,Jk,Jk,Jk,Jk,Jk,Jk,Jk,Jk,Jk,Jk,Jk,Jk,Jk,Jk,Jk,Jk,Jk,Jk,Jk,Jk,Jk,Jk,Jk,Jk,Jk,Jk] (fun s=>s=⟨B++[.cells d.cells,.cells x.cells],L,c⟩) ?_ ?_
 ·simp only [vqM,vt95,zA]
  repeat' (first
   | ((with_reducible refine kh9 ?_);refine ka9 (t_inR _ _ _ _) ?_;simp only [vqM])
   | ((with_reducible refine kh9 ?_);refine ka9 (t_NameR _ hnm _) ?_;simp only [vqM])
   | (with_reducible refine kb9 (fun hc=>?_) (fun hc=>?_) <;> simp only [vqM,vt95,hc,zA,kk9,kq9,wv9])
   | ((with_reducible refine is_q ?_);refine kj9 ⟨?_,rfl⟩ <;> simp only [vke,zB,zA] <;> (first | (simp only [bad1, *,Bool.true_or,Bool.false_or,Bool.or_true];done) | (simp_all [bad1];done) | (simp_all [bad1];omega))))
 rintro s rfl
 simp only [vqM]
 refine kb9 (fun hc=>?_) (fun hc=>?_)
 ·simp only [vqM,zB]
  refine ke9 (.inr rfl) ?_ (.int _ _) (fun _ h=>h) (Nat.le_refl _)
  simp only [vqM]
  rw [hdef,hc];rfl
 rw [hc,Bool.not_false,Bool.true_and] at hdef
 have har:d.arrays.length≤4:=by
  simp only [bad1,Bool.or_eq_false_iff,decide_eq_false_iff_not] at hc
  omega
 simp only [vqM,zB]
 refine qe9 hmix [2,3,92] [Jk,Jk,.box B.length 0,.box (B.length+1) 0,Jk,Jk,Jk,Jk,Jk,Jk,Jk,Jk,Jk,Jk,Jk,Jk,Jk,Jk,Jk,Jk,Jk,Jk,Jk,Jk,Jk,Jk,Jk,Jk,Jk,Jk,Jk,Jk,Jk,Jk,Jk,Jk,Jk,Jk,Jk,Jk,Jk,Jk,Jk,Jk,Jk,Jk,Jk,Jk,Jk,Jk,Jk,Jk,Jk,Jk,Jk,Jk,Jk,Jk,Jk,Jk,Jk,Jk,Jk,Jk,Jk,Jk,Jk,Jk,Jk,Jk,Jk,Jk,Jk,Jk,Jk,Jk,Jk,Jk,Jk,Jk,Jk,Jk,Jk,Jk,Jk,Jk,Jk,Jk,Jk,Jk,Jk,Jk,.bool (bad2 d),Jk,Jk,Jk,Jk,Jk,Jk,Jk,Jk,Jk,Jk,Jk,Jk,Jk,Jk,Jk,Jk,Jk,Jk,Jk,Jk,Jk,Jk,Jk,Jk,Jk,Jk,Jk,Jk,Jk,Jk,Jk,Jk,Jk,Jk,Jk,Jk,Jk,Jk,Jk,Jk] (fun s=>s=⟨B++[.cells d.cells,.cells x.cells],L,c⟩) ?_ ?_
 ·simp only [vqM,vt95,zA]
  repeat' (first
   | ((with_reducible refine kh9 ?_);refine ka9 (t_inR _ _ _ _) ?_;simp only [vqM])
   | ((with_reducible refine kh9 ?_);refine ka9 (t_rangesR _ _ _) ?_;simp only [vqM])
   | ((with_reducible refine kh9 ?_);refine ka9 (t_Depth _ _ (by omega)) ?_;simp only [vqM])
   | ((with_reducible refine kh9 ?_);refine ka9 (t_Flat _ _ (by omega)) ?_;simp only [vqM,vt95,kp9])
   | (with_reducible refine kb9 (fun hc=>?_) (fun hc=>?_) <;> simp only [vqM,vt95,hc,zA])
   | ((with_reducible refine is_q ?_);refine kj9 ⟨?_,rfl⟩ <;> simp only [vke,zB,zA] <;> (first | (simp only [bad2, *,Bool.true_or,Bool.false_or,Bool.or_true];done) | (simp_all [bad2];done) | (simp_all [bad2];omega))))
 rintro s rfl
 simp only [vqM]
 refine kb9 (fun hc=>?_) (fun hc=>?_)
 ·simp only [vqM,zB]
  refine ke9 (.inr rfl) ?_ (.int _ _) (fun _ h=>h) (Nat.le_refl _)
  simp only [vqM]
  rw [hdef,hc];rfl
 rw [hc,Bool.not_false,Bool.true_and] at hdef
 simp only [vqM,zB]
 refine kc9 [2,3,5] ?_
 simp only [vke,zB,zA]
 refine km9 hmix d.arrays.length (fun k e s=>(∀ z ∈ d.arrays.take k,arrB d z=true)∧e=[Jk,Jk,.box B.length 0,.box (B.length+1) 0,Jk,.int .i64 (k:Int),Jk,Jk,Jk,Jk,Jk,Jk,Jk,Jk,Jk,Jk,Jk,Jk,Jk,Jk,Jk,Jk,Jk,Jk,Jk,Jk,Jk,Jk,Jk,Jk,Jk,Jk,Jk,Jk,Jk,Jk,Jk,Jk,Jk,Jk,Jk,Jk,Jk,Jk,Jk,Jk,Jk,Jk,Jk,Jk,Jk,Jk,Jk,Jk,Jk,Jk,Jk,Jk,Jk,Jk,Jk,Jk,Jk,Jk,Jk,Jk,Jk,Jk,Jk,Jk,Jk,Jk,Jk,Jk,Jk,Jk,Jk,Jk,Jk,Jk,Jk,Jk,Jk,Jk,Jk,Jk,Jk,Jk,Jk,Jk,Jk,Jk,Jk,Jk,Jk,Jk,Jk,Jk,Jk,Jk,Jk,Jk,Jk,Jk,Jk,Jk,Jk,Jk,Jk,Jk,Jk,Jk,Jk,Jk,Jk,Jk,Jk,Jk,Jk,Jk,Jk,Jk,Jk,Jk,Jk,Jk,Jk,Jk,Jk,Jk,Jk,Jk,Jk]∧s=⟨B++[.cells d.cells,.cells x.cells],L,c⟩) ?_ ?_ 0 _ _ (Nat.zero_le _) ⟨fun z h=>by simp at h,rfl,rfl⟩
 ·rintro k e s hk ⟨hI,rfl,rfl⟩ ihl
  have hx:d.arrays[k]? = some d.arrays[k]:=List.getElem?_eq_getElem hk
  have hg:(qr9 d.arrays)[k]? = some (d.arrays[k].cells):=by simp [qr9,hx]
  have hklt:((k:Int)<(d.arrays.length:Int))=True:=by simp;exact hk
  have hxm:d.arrays[k] ∈ d.arrays:=List.getElem_mem hk
  generalize d.arrays[k]=xx at hx hg hxm
  simp only [vqM,vt95,zA,zB,kq9,hklt,decide_true]
  refine qe9 hmix [2,3,5,120] [Jk,Jk,.box B.length 0,.box (B.length+1) 0,Jk,.int .i64 (k:Int),Jk,Jk,Jk,Jk,Jk,Jk,Jk,Jk,Jk,Jk,Jk,Jk,Jk,Jk,Jk,Jk,Jk,Jk,Jk,Jk,Jk,Jk,Jk,Jk,Jk,Jk,Jk,Jk,Jk,Jk,Jk,Jk,Jk,Jk,Jk,Jk,Jk,Jk,Jk,Jk,Jk,Jk,Jk,Jk,Jk,Jk,Jk,Jk,Jk,Jk,Jk,Jk,Jk,Jk,Jk,Jk,Jk,Jk,Jk,Jk,Jk,Jk,Jk,Jk,Jk,Jk,Jk,Jk,Jk,Jk,Jk,Jk,Jk,Jk,Jk,Jk,Jk,Jk,Jk,Jk,Jk,Jk,Jk,Jk,Jk,Jk,Jk,Jk,Jk,Jk,Jk,Jk,Jk,Jk,Jk,Jk,Jk,Jk,Jk,Jk,Jk,Jk,Jk,Jk,Jk,Jk,Jk,Jk,Jk,Jk,Jk,Jk,Jk,Jk,.bool (!arrB d xx),Jk,Jk,Jk,Jk,Jk,Jk,Jk,Jk,Jk,Jk,Jk,Jk] (fun s=>s=⟨B++[.cells d.cells,.cells x.cells],L,c⟩) ?_ ?_
  ·simp only [vqM,vt95,zA,zB,natle0,Int.toNat_natCast,hg]
   repeat' (first
    | ((with_reducible refine kh9 ?_);refine ka9 (t_inR _ _ _ _) ?_;simp only [vqM])
    | (with_reducible refine kb9 (fun hc=>?_) (fun hc=>?_) <;> simp only [vqM,vt95,hc,zA,natle0,Int.toNat_natCast,hg,kk9])
    | ((with_reducible refine is_q ?_);refine kj9 ⟨?_,rfl⟩ <;> simp only [vke,zB,zA] <;> (first | (simp only [arrB, *];done) | (simp_all [arrB];done) | (simp_all [arrB];omega))))
  rintro s rfl
  simp only [vqM]
  refine kb9 (fun hc=>?_) (fun hc=>?_)
  ·have hb:arrB d xx=false:=by simpa using hc
   simp only [vqM,zB]
   refine ke9 (.inr rfl) ?_ (.int _ _) (fun _ h=>h) (Nat.le_refl _)
   simp only [vqM]
   have:d.arrays.all (arrB d)=false:=List.all_eq_false.2 ⟨xx,hxm,by simp [hb]⟩
   rw [hdef,this];rfl
  ·have hb:arrB d xx=true:=by simpa using hc
   simp only [vqM]
   rw [kf9 (by omega)]
   refine kc9 [2,3,5] ?_
   simp only [vke,zB,zA]
   refine ihl _ _ ⟨fun z hz=>?_,rfl,rfl⟩
   rw [List.take_add_one,hx] at hz
   rcases List.mem_append.1 hz with hz | hz
   ·exact hI z hz
   ·simp at hz;subst hz;exact hb
 ·rintro e s ⟨hI,rfl,rfl⟩
  have hklt:((d.arrays.length:Int)<(d.arrays.length:Int))=False:=by simp
  rw [List.take_length] at hI
  simp only [vqM,vt95,zA,zB,kq9,hklt,decide_false]
  have hq:d.arrays.all (arrB d)=true:=List.all_eq_true.2 hI
  rw [hq,Bool.true_and] at hdef
  refine qe9 hmix [2,3,132] [Jk,Jk,.box B.length 0,.box (B.length+1) 0,Jk,Jk,Jk,Jk,Jk,Jk,Jk,Jk,Jk,Jk,Jk,Jk,Jk,Jk,Jk,Jk,Jk,Jk,Jk,Jk,Jk,Jk,Jk,Jk,Jk,Jk,Jk,Jk,Jk,Jk,Jk,Jk,Jk,Jk,Jk,Jk,Jk,Jk,Jk,Jk,Jk,Jk,Jk,Jk,Jk,Jk,Jk,Jk,Jk,Jk,Jk,Jk,Jk,Jk,Jk,Jk,Jk,Jk,Jk,Jk,Jk,Jk,Jk,Jk,Jk,Jk,Jk,Jk,Jk,Jk,Jk,Jk,Jk,Jk,Jk,Jk,Jk,Jk,Jk,Jk,Jk,Jk,Jk,Jk,Jk,Jk,Jk,Jk,Jk,Jk,Jk,Jk,Jk,Jk,Jk,Jk,Jk,Jk,Jk,Jk,Jk,Jk,Jk,Jk,Jk,Jk,Jk,Jk,Jk,Jk,Jk,Jk,Jk,Jk,Jk,Jk,Jk,Jk,Jk,Jk,Jk,Jk,Jk,Jk,Jk,Jk,Jk,Jk,.bool (bad3 d x)] (fun s=>s=⟨B++[.cells d.cells,.cells x.cells],L,c⟩) ?_ ?_
  ·simp only [vqM,vt95,zA]
   repeat' (first
    | ((with_reducible refine kh9 ?_);refine ka9 (t_listR ⟨d,x⟩ _ _) ?_;simp only [vqM])
    | ((with_reducible refine kh9 ?_);refine ka9 (t_SitesN _ hN _) ?_;simp only [vqM])
    | ((with_reducible refine kh9 ?_);refine ka9 (t_Different _ _) ?_;simp only [vqM])
    | (with_reducible refine kb9 (fun hc=>?_) (fun hc=>?_) <;> simp only [vqM,vt95,hc])
    | ((with_reducible refine is_q ?_);refine kj9 ⟨?_,rfl⟩ <;> simp only [vke,zB,zA] <;> (first | (simp only [bad3, *,Bool.true_or,Bool.false_or];done) | (simp_all [bad3];done) | (simp_all [bad3];omega))))
  rintro s rfl
  simp only [vqM]
  refine kb9 (fun hc=>?_) (fun hc=>?_)
  ·simp only [vqM,zB]
   refine ke9 (.inr rfl) ?_ (.int _ _) (fun _ h=>h) (Nat.le_refl _)
   simp only [vqM]
   rw [hdef,hc];rfl
  ·simp only [vqM,zB]
   refine ke9 (.inr rfl) ?_ (.int _ _) (fun _ h=>h) (Nat.le_refl _)
   simp only [vqM]
   rw [hdef,hc];rfl
theorem bd_headD (p:Pg) (id:Int):Bd 0 0 (headedD p id):=kv9 fun x hx=>by
 rcases List.mem_append.1 hx with hx | hx
 ·exact Hd.bd _ x hx
 ·simp at hx;subst hx;exact .bool _
theorem headS_at {p:Pg} {id:Int} {k:Nat} (hk:k<p.heads.length) (hc:decide (p.heads[k].id=id)=true) (hI:∀ j (h:j<p.heads.length),j<k→decide (p.heads[j].id=id)=false):headS p id=some p.heads[k]:=by
 rw [headS,List.find?_eq_some_iff_getElem]
 refine ⟨hc,k,hk,rfl,fun j hj=>?_⟩
 have:=hI j (by omega) hj
 simpa using this
theorem headS_no {p:Pg} {id:Int} (hI:∀ j (h:j<p.heads.length),j<p.heads.length→decide (p.heads[j].id=id)=false):headS p id=none:=by
 rw [headS,List.find?_eq_none]
 intro x hx
 obtain ⟨j,hj,rfl⟩:=List.getElem_of_mem hx
 have:=hI j hj hj
 simpa using this
theorem t_HeadIn (p:Pg) (id:Int) (s:St):Spec Tryz.prog 51 [.agg p.cells,.int .i64 id] s (headedD p id) s:=by
 refine Spec.small fun hsm=>?_
 have hlen:(kr9 p.heads).length≤281474976710656:=(hsm _ (.head _)).sl (o:=.none) (by cases p;simp [Pg.cells])
 rw [ki9] at hlen
 clear hsm
 obtain ⟨B,L,c⟩:=s
 have hzc:∀ d:Hd,∀ b,List.take 6 (d.cells++[D.bool b])=d.cells++[D.bool b]:=fun d b=>rfl
 refine Spec.introN [] Tryz.func51 rfl (by decide) hmix (by kernel_rfl) [ResultVar.cell 4 104] 28 rfl rfl ?_
 simp only [vqM,vt96,zA,zS]
 refine kc9 [1,2,4,5] ?_
 simp only [vke,zB,zA]
 refine km9 hmix p.heads.length (fun k e s=>e=[Jk,.int .i64 id,.box B.length 0,Jk,.box (B.length+1) 0,.int .i64 (k:Int),Jk,Jk,Jk,Jk,Jk,Jk,Jk,Jk,Jk,Jk,Jk,Jk,Jk,Jk,Jk,Jk,Jk,Jk,Jk,Jk,Jk,Jk]∧s=⟨B++[.cells p.cells,.cells (Hd.zc++[.bool false])],L,c⟩∧∀ j (h:j<p.heads.length),j<k→decide (p.heads[j].id=id)=false) ?_ ?_ 0 _ _ (Nat.zero_le _) ⟨rfl,rfl,by intro j _ h;omega⟩
 ·rintro k e s hk ⟨rfl,rfl,hI⟩ ih
  have hx:p.heads[k]? = some p.heads[k]:=List.getElem?_eq_getElem hk
  have hg:(kr9 p.heads)[k]? = some (p.heads[k].cells):=by simp [kr9,hx]
  have hklt:((k:Int)<(p.heads.length:Int))=True:=by simp;exact hk
  simp only [vqM,vt96,zA,ki9,Hd.zc,hklt,decide_true,natle0,Int.toNat_natCast,hg]
  refine kb9 (fun hc=>?_) (fun hc=>?_)
  ·simp only [vqM,vt96,zA,zL,natle0,Int.toNat_natCast,hg]
   have hf:headS p id=some p.heads[k]:=headS_at hk hc hI
   refine ke9 (.inr rfl) ?_ (bd_headD p id) (fun _ h=>h) (Nat.le_refl _)
   simp only [vqM,vt96,zA,headedD,hf,hzc,Option.getD_some,Option.isSome_some]
  ·simp only [vqM]
   rw [kf9 (by omega)]
   refine kc9 [1,2,4,5] ?_
   simp only [vke,zB,zA]
   refine ih _ _ ⟨rfl,rfl,fun j hj hjk=>?_⟩
   by_cases e:j=k
   ·subst e;exact hc
   ·exact hI j hj (by omega)
 ·rintro e s ⟨rfl,rfl,hI⟩
  have hklt:((p.heads.length:Int)<(p.heads.length:Int))=False:=by simp
  simp only [vqM,vt96,zA,ki9,Hd.zc,hklt,decide_false]
  have hf:headS p id=none:=headS_no hI
  refine ke9 (.inr rfl) ?_ (bd_headD p id) (fun _ h=>h) (Nat.le_refl _)
  simp only [vqM,vt96,zA,headedD,hf,Option.getD_none,Option.isSome_none]
  rfl
def badHead (p:Pg) (k:Nat) (h:Hd):Bool:=!inB h.id 1 1073741824 || ((decide (0<(k:Int)) && decide (h.id≤xj9 p.heads k)) || (!inB h.firm 0 (w64 (p.d.firms - 1)) || (!inB h.part 0 (w64 (p.d.parts - 1)) || (!qy9 h.params 12 ku9 || !qy9 h.given 4 ku9))))
theorem lastId_bd {p:Pg}:∀ {k:Nat},k≤p.heads.length→(∀ j<k,headsQ p j=false)→0≤xj9 p.heads k∧xj9 p.heads k≤1073741824
 | 0,_,_=>by simp [xj9]
 | k+1,hk,h=>by
  have ih:=lastId_bd (k:=k) (by omega) fun j hj=>h j (by omega)
  have hx:p.heads[k]? = some p.heads[k]:=List.getElem?_eq_getElem (by omega)
  have h1:=h k (by omega)
  simp only [headsQ,hx,headOk,Bool.not_eq_false',Bool.and_eq_true,inB,decide_eq_true_eq] at h1
  rw [qs9 (n:=xj9 p.heads k+1) (by omega)] at h1
  simp only [xj9,hx]
  omega
theorem badHead_eq {p:Pg} {k:Nat} {h:Hd} (hk:p.heads[k]? = some h) (hI:∀ j<k,headsQ p j=false):headsQ p k=badHead p k h:=by
 have hb:=lastId_bd (k:=k) (by have:=(List.getElem?_eq_some_iff.1 hk).1;omega) hI
 simp only [headsQ,hk,headOk,badHead]
 rw [qs9 (n:=xj9 p.heads k+1) (by omega)]
 have h1:inB h.id (xj9 p.heads k+1) 1073741824=(inB h.id 1 1073741824 && !(decide (0<(k:Int)) && decide (h.id≤xj9 p.heads k))):=by
  rw [Bool.eq_iff_iff]
  simp only [inB,Bool.and_eq_true,decide_eq_true_eq,Bool.not_eq_true',Bool.and_eq_false_iff,decide_eq_false_iff_not]
  cases k with
  | zero=>simp only [xj9] at hb ⊢;omega
  | succ k=>omega
 rw [h1]
 simp only [Bool.not_and,Bool.not_not,Bool.or_assoc,Bool.not_or]
theorem t_headsR (p:Pg) (s:St):Spec Tryz.prog 53 [.agg p.cells] s (.bool (headsB p)) s:=by
 refine Spec.small fun hsm=>?_
 have hlen:(kr9 p.heads).length≤281474976710656:=(hsm _ (.head _)).sl (o:=.none) (by cases p;simp [Pg.cells])
 rw [ki9] at hlen
 clear hsm
 obtain ⟨B,L,c⟩:=s
 refine Spec.introN [(5,.cut)] Tryz.func53 rfl (by decide) hmix (by kernel_rfl) [ResultVar.tmp 2] 73 rfl rfl ?_
 simp only [vqM,zA,zS,zB]
 refine kc9 [1,3] ?_
 simp only [vke,zB,zA]
 refine km9 hmix p.heads.length (fun k e s=>(∀ j<k,headsQ p j=false)∧e=[Jk,.box B.length 0,Jk,.int .i64 (k:Int),Jk,Jk,Jk,Jk,Jk,Jk,Jk,Jk,Jk,Jk,Jk,Jk,Jk,Jk,Jk,Jk,Jk,Jk,Jk,Jk,Jk,Jk,Jk,Jk,Jk,Jk,Jk,Jk,Jk,Jk,Jk,Jk,Jk,Jk,Jk,Jk,Jk,Jk,Jk,Jk,Jk,Jk,Jk,Jk,Jk,Jk,Jk,Jk,Jk,Jk,Jk,Jk,Jk,Jk,Jk,Jk,Jk,Jk,Jk,Jk,Jk,Jk,Jk,Jk,Jk,Jk,Jk,Jk,Jk]∧∃ X,s=⟨B++.cells p.cells::X,L,c⟩) ?_ ?_ 0 _ _ (Nat.zero_le _) ⟨by intro j h;omega,rfl,[],rfl⟩
 ·rintro k e s hk ⟨hI,rfl,X,rfl⟩ ihl
  have hx:p.heads[k]? = some p.heads[k]:=List.getElem?_eq_getElem hk
  have hg:(kr9 p.heads)[k]? = some (p.heads[k].cells):=by simp [kr9,hx]
  have hq:=badHead_eq hx hI
  have hklt:((k:Int)<(p.heads.length:Int))=True:=by simp;exact hk
  generalize p.heads[k]=h at hx hg hq
  simp only [vqM,vt97,zA,zB,ki9,hklt,decide_true,natle0,Int.toNat_natCast,hg]
  refine qe9 hmix [1,3,68] [Jk,.box B.length 0,Jk,.int .i64 (k:Int),Jk,Jk,Jk,Jk,Jk,Jk,Jk,Jk,Jk,Jk,Jk,Jk,Jk,Jk,Jk,Jk,Jk,Jk,Jk,Jk,Jk,Jk,Jk,Jk,Jk,Jk,Jk,Jk,Jk,Jk,Jk,Jk,Jk,Jk,Jk,Jk,Jk,Jk,Jk,Jk,Jk,Jk,Jk,Jk,Jk,Jk,Jk,Jk,Jk,Jk,Jk,Jk,Jk,Jk,Jk,Jk,Jk,Jk,Jk,Jk,Jk,Jk,Jk,Jk,.bool (badHead p k h),Jk,Jk,Jk,Jk] (fun s=>s=⟨B++.cells p.cells::(X++[.cells h.cells]),L,c⟩) ?_ ?_
  ·rcases k with _ | j
   ·have h00:((0:Int)<0)=False:=by simp
    simp only [vqM,vt97,zA]
    repeat' (first
     | ((with_reducible refine kh9 ?_);refine ka9 (t_inR _ _ _ _) ?_;simp only [vqM])
     | ((with_reducible refine kh9 ?_);refine ka9 (t_rangesR _ _ _) ?_;simp only [vqM])
     | (with_reducible refine kb9 (fun hc=>?_) (fun hc=>?_) <;> simp only [vqM,vt97,hc,zA,wv9,h00,decide_false])
     | ((with_reducible refine is_q ?_);refine kj9 ⟨?_,rfl⟩ <;> simp only [vke,zB,zA] <;> (first | (simp only [badHead, *,Bool.true_or,Bool.false_or,Bool.or_true];done) | (simp_all [badHead];done) | (simp_all [badHead];omega))))
   ·have hxj:p.heads[j]? = some (p.heads[j]'(by omega)):=List.getElem?_eq_getElem (by omega)
    have hgj:(kr9 p.heads)[j]? = some ((p.heads[j]'(by omega)).cells):=by simp [kr9,hxj]
    have hlj:xj9 p.heads (j+1)=(p.heads[j]'(by omega)).id:=by simp only [xj9,hxj]
    have hwj:IntKind.i64.wrap (((j+1:Nat):Int) - 1)=(j:Int):=by rw [ky9 (by omega)];omega
    generalize p.heads[j]'(by omega)=h0 at hxj hgj hlj
    simp only [vqM,vt97,zA]
    repeat' (first
     | ((with_reducible refine kh9 ?_);refine ka9 (t_inR _ _ _ _) ?_;simp only [vqM])
     | ((with_reducible refine kh9 ?_);refine ka9 (t_rangesR _ _ _) ?_;simp only [vqM])
     | (with_reducible refine kb9 (fun hc=>?_) (fun hc=>?_) <;> simp only [vqM,vt97,hc,zA,natle0,Int.toNat_natCast,hwj,hgj,wv9])
     | ((with_reducible refine is_q ?_);refine kj9 ⟨?_,rfl⟩ <;> simp only [vke,zB,zA] <;> (first | (simp only [badHead, *,Bool.false_and,Bool.and_true,Bool.and_false,Bool.true_or,Bool.false_or,Bool.or_true];done) | (simp_all [badHead,hlj];done) | (simp_all [badHead,hlj];omega))))
  rintro s rfl
  simp only [vqM]
  refine kb9 (fun hc=>?_) (fun hc=>?_)
  ·simp only [vqM,zB]
   refine ke9 (.inr rfl) ?_ (.bool _) (fun _ h=>h) (Nat.le_refl _)
   simp only [vqM]
   have:(List.range p.heads.length).any (headsQ p)=true:=List.any_eq_true.2 ⟨k,List.mem_range.2 hk,by rw [hq,hc]⟩
   rw [headsB,this];simp
  ·simp only [vqM]
   rw [kf9 (by omega)]
   refine kc9 [1,3] ?_
   simp only [vke,zB,zA]
   refine ihl _ _ ⟨fun j hj=>?_,rfl,_,rfl⟩
   by_cases e:j=k
   ·subst e;rw [hq,hc]
   ·exact hI j (by omega)
 ·rintro e s ⟨hI,rfl,X,rfl⟩
  have hklt:((p.heads.length:Int)<(p.heads.length:Int))=False:=by simp
  have:(List.range p.heads.length).any (headsQ p)=false:=List.any_eq_false.2 fun j hj=>by simpa using hI j (List.mem_range.1 hj)
  simp only [vqM,vt97,zA,zB,ki9,hklt,decide_false]
  refine ke9 (.inr rfl) ?_ (.bool _) (fun _ h=>h) (Nat.le_refl _)
  simp only [vqM]
  rw [headsB,this];simp
theorem t_callsB (p:Pg) (d:Df) (hN:cntL d.body<1000000) (s:St):Spec Tryz.prog 55 [.agg p.cells,.agg d.cells] s (.bool ((smsL d.body).all (callB p))) s:=by
 obtain ⟨B,L,c⟩:=s
 have hll:=xg9 d.body
 refine Spec.introN [(5,.text [false,false,false,false,false,false,false,true,true] [(0,1),(5,1),(6,1)]),(6,.cut)] Tryz.func55 rfl (by decide) hmix (by kernel_rfl) [ResultVar.tmp 4] 61 rfl rfl ?_
 simp only [vqM,vt98,zA,zS,zB]
 refine ka9 (t_Flat d.body _ (by omega)) ?_
 simp only [vqM,zB]
 refine kc9 [2,3,5,6] ?_
 simp only [vke,zB,zA]
 refine km9 hmix (smsL d.body).length (fun k e s=>(∀ z ∈ (smsL d.body).take k,callB p z=true)∧e=[Jk,Jk,.box B.length 0,.box (B.length+1) 0,Jk,.slice .none (Sm.encs (smsL d.body)),.int .i64 (k:Int),Jk,Jk,Jk,Jk,Jk,Jk,Jk,Jk,Jk,Jk,Jk,Jk,Jk,Jk,Jk,Jk,Jk,Jk,Jk,Jk,Jk,Jk,Jk,Jk,Jk,Jk,Jk,Jk,Jk,Jk,Jk,Jk,Jk,Jk,Jk,Jk,Jk,Jk,Jk,Jk,Jk,Jk,Jk,Jk,Jk,Jk,Jk,Jk,Jk,Jk,Jk,Jk,Jk,Jk]∧∃ X,s=⟨B++.cells p.cells::.cells d.cells::X,L,c⟩) ?_ ?_ 0 _ _ (Nat.zero_le _) ⟨fun z h=>by simp at h,rfl,[],rfl⟩
 ·rintro k e s hk ⟨hI,rfl,X,rfl⟩ ihl
  have hx:(smsL d.body)[k]? = some (smsL d.body)[k]:=List.getElem?_eq_getElem hk
  have hg:(Sm.encs (smsL d.body))[k]? = some ((smsL d.body)[k].cells):=by simp [Sm.encs_map,hx]
  have hklt:((k:Int)<((smsL d.body).length:Int))=True:=by simp;exact hk
  have hxm:(smsL d.body)[k] ∈ (smsL d.body):=List.getElem_mem hk
  generalize (smsL d.body)[k]=x at hx hg hxm
  simp only [vqM,vt98,zB,kp9,hklt,decide_true,natle0,Int.toNat_natCast,hg]
  refine ka9 (t_HeadIn p x.m _) ?_
  simp only [vqM,vt98,zA,headedD]
  refine xq9 (ka9 (t_HeadIn p x.m _) ?_) ?_
  ·simp only [vqM,headedD]
  simp only [vqM,zB]
  have hcb:(!callB p x)=(decide (x.op=13) && (!(headS p x.m).isSome || (decide (((hdG p x.m).params.length:Int)≠x.args.length) || decide (((hdG p x.m).given.length:Int)≠x.ptrs.length)))):=by
   simp only [callB,wrongB,Bool.not_or,Bool.not_not,Bool.or_assoc,decide_not,Bool.not_and]
  rw [hdG] at hcb
  generalize (headS p x.m).isSome=fd at hcb ⊢
  generalize (headS p x.m).getD Hd.zero=h at hcb ⊢
  obtain ⟨h1,h2,h3,h4,h5⟩:=h
  simp only [Hd.cells,List.cons_append,List.nil_append] at hcb ⊢
  refine qe9 hmix [2,3,5,6,60] [Jk,Jk,.box B.length 0,.box (B.length+1) 0,Jk,.slice .none (Sm.encs (smsL d.body)),.int .i64 (k:Int),Jk,Jk,Jk,Jk,Jk,Jk,Jk,Jk,Jk,Jk,Jk,Jk,Jk,Jk,Jk,Jk,Jk,Jk,Jk,Jk,Jk,Jk,Jk,Jk,Jk,Jk,Jk,Jk,Jk,Jk,Jk,Jk,Jk,Jk,Jk,Jk,Jk,Jk,Jk,Jk,Jk,Jk,Jk,Jk,Jk,Jk,Jk,Jk,Jk,Jk,Jk,Jk,Jk,.bool (!callB p x)] (fun s=>s=⟨B++.cells p.cells::.cells d.cells::(X++[.cells [.int .i64 h1,.int .i64 h2,.int .i64 h3,.slice .none (ks9 h4),.slice .none (ks9 h5),.bool fd]]),L,c⟩) ?_ ?_
  ·rw [hcb]
   simp only [vqM,vt98,zB,natle0,Int.toNat_natCast,hg]
   repeat' (first
    | (with_reducible refine kb9 (fun hc=>?_) (fun hc=>?_) <;> simp only [vqM,vt98,hc,zA,natle0,Int.toNat_natCast,hg,kk9,kn9,kd9])
    | ((with_reducible refine is_q ?_);refine kj9 ⟨?_,rfl⟩ <;> simp only [vke,zB,zA] <;> (first | (simp only [*,Bool.true_and,Bool.false_and,Bool.and_true];done) | (simp_all [];done) | (simp_all [];omega))))
  rintro s rfl
  simp only [vqM]
  refine kb9 (fun hc=>?_) (fun hc=>?_)
  ·have hb:callB p x=false:=by simpa using hc
   simp only [vqM,zB]
   refine ke9 (.inr rfl) ?_ (.bool _) (fun _ h=>h) (Nat.le_refl _)
   simp only [vqM]
   have:(smsL d.body).all (callB p)=false:=List.all_eq_false.2 ⟨x,hxm,by simp [hb]⟩
   rw [this]
  ·have hb:callB p x=true:=by simpa using hc
   simp only [vqM]
   rw [kf9 (by omega)]
   refine kc9 [2,3,5,6] ?_
   simp only [vke,zB,zA]
   refine ihl _ _ ⟨fun z hz=>?_,rfl,_,rfl⟩
   rw [List.take_add_one,hx] at hz
   rcases List.mem_append.1 hz with hz | hz
   ·exact hI z hz
   ·simp at hz;subst hz;exact hb
 ·rintro e s ⟨hI,rfl,X,rfl⟩
  have hklt:(((smsL d.body).length:Int)<((smsL d.body).length:Int))=False:=by simp
  rw [List.take_length] at hI
  simp only [vqM,vt98,zB,kp9,hklt,decide_false]
  refine ke9 (.inr rfl) ?_ (.bool _) (fun _ h=>h) (Nat.le_refl _)
  simp only [vqM]
  rw [List.all_eq_true.2 hI]
def okC (p:Pg) (out:List Int) (c:Int):Bool:=!(findS p c).isSome || out.contains c
def rdyO (p:Pg) (out:List Int) (d:Df):Bool:=!out.contains d.id && (callsR d).all (okC p out)
structure OrdI (p:Pg) (out rem:List Int):Prop where
 nd:rem.Nodup
 mem:∀ i,i ∈ rem↔i ∈ p.defs.map (·.id)∧i ∉ out
 len:out.length+rem.length=p.defs.length
 ord:out++ordS p.defs rem.length rem=orderS p
theorem findS_mem {p:Pg} {c:Int}:(findS p c).isSome=true↔c ∈ p.defs.map (·.id):=by
 rw [findS,List.find?_isSome]
 simp only [decide_eq_true_eq,List.mem_map]
theorem rdyO_eq {p:Pg} {out rem:List Int} {d:Df} (h:OrdI p out rem) (hd:d ∈ p.defs):rdyO p out d=rdy rem d:=by
 have hid:d.id ∈ p.defs.map (·.id):=List.mem_map.2 ⟨d,hd,rfl⟩
 have hm:∀ c,c ∈ callsR d↔c ∈ callsS d:=fun c=>by rw [mem_callsR,mem_callsS]
 rw [Bool.eq_iff_iff]
 simp only [rdyO,rdy,Bool.and_eq_true,Bool.not_eq_true',List.all_eq_true,okC,Bool.or_eq_true,List.any_eq_false,List.contains_iff_mem,hm]
 have hc:∀ c:Int,((findS p c).isSome=false∨c ∈ out) ↔ ¬ c ∈ rem:=by
  intro c
  rw [h.mem c,← findS_mem]
  cases (findS p c).isSome <;> simp
 simp only [hc]
 have hi:out.contains d.id=false↔d.id ∈ rem:=by
  rw [h.mem]
  simp [hid]
 rw [hi]
theorem OrdI.start {p:Pg} (hnd:(p.defs.map (·.id)).Nodup):OrdI p [] (p.defs.map (·.id)) :=
 ⟨hnd,fun i=>by simp,by simp,by simp [orderS]⟩
theorem OrdI.step {p:Pg} {out rem:List Int} {i:Nat} (h:OrdI p out rem) (hf:p.defs.findIdx? (rdy rem)=some i):OrdI p (out++[idAt p.defs i]) (rem.erase (idAt p.defs i)):=by
 obtain ⟨hil,hri,-⟩:=List.findIdx?_eq_some_iff_getElem.1 hf
 have hat:idAt p.defs i=p.defs[i].id:=by simp [idAt,List.getElem?_eq_getElem hil]
 have hmem:idAt p.defs i ∈ rem:=by rw [hat];simp [rdy] at hri;exact hri.1
 have hpos:=List.length_pos_of_mem hmem
 have hlen:=List.length_erase_of_mem hmem
 refine ⟨h.nd.erase _,fun j=>?_,?_,?_⟩
 ·rw [h.nd.mem_erase_iff,h.mem]
  simp only [List.mem_append,List.mem_singleton]
  constructor
  ·rintro ⟨h1,h2,h3⟩;exact ⟨h2,by rintro (h4 | h4) <;> contradiction⟩
  ·rintro ⟨h1,h2⟩;exact ⟨fun e=>h2 (.inr e),h1,fun e=>h2 (.inl e)⟩
 ·have:=h.len
  rw [List.length_append,hlen];simp;omega
 ·rw [← h.ord,hlen]
  obtain ⟨n,hn⟩:∃ n,rem.length=n+1:=⟨rem.length - 1,by omega⟩
  rw [hn,ordS,hf]
  simp
theorem OrdI.stop {p:Pg} {out rem:List Int} (h:OrdI p out rem) (hf:p.defs.findIdx? (rdy rem)=none):orderS p=out:=by
 rw [← h.ord]
 cases rem.length with
 | zero=>rw [ordS,List.append_nil]
 | succ n=>rw [ordS,hf,List.append_nil]
theorem t_OrderR (p:Pg) (hnd:(p.defs.map (·.id)).Nodup) (hN:∀ d ∈ p.defs,cntL d.body<100000) (hlen:p.defs.length<500000) (s:St):Spec Tryz.prog 58 [.agg p.cells] s (.slice .none (intCells (orderS p))) s:=by
 obtain ⟨B,L,c⟩:=s
 refine Spec.introN [(13,.cut)] Tryz.func58 rfl (by decide) hmix (by kernel_rfl) [ResultVar.tmp 2] 73 rfl rfl ?_
 simp only [vqM,vt99,zA,zS,zM,zB]
 refine kc9 [1,3,4] ?_
 simp only [vke,zB,zA]
 refine km9 hmix (p.defs.length+2) (fun k e s=>∃ (out rem:List Int) (again:Bool),e=[Jk,.box B.length 0,Jk,.slice (ownF c 1 out.length) (intCells out),.bool again,Jk,Jk,Jk,Jk,Jk,Jk,Jk,Jk,Jk,Jk,Jk,Jk,Jk,Jk,Jk,Jk,Jk,Jk,Jk,Jk,Jk,Jk,Jk,Jk,Jk,Jk,Jk,Jk,Jk,Jk,Jk,Jk,Jk,Jk,Jk,Jk,Jk,Jk,Jk,Jk,Jk,Jk,Jk,Jk,Jk,Jk,Jk,Jk,Jk,Jk,Jk,Jk,Jk,Jk,Jk,Jk,Jk,Jk,Jk,Jk,Jk,Jk,Jk,Jk,Jk,Jk,Jk,Jk]∧s=⟨B++[.cells p.cells],liveN L c out.length,c+out.length⟩∧OrdI p out rem∧(again=true→out.length=k)∧(again=false→out.length+1=k∧orderS p=out)) ?_ ?_ 0 _ _ (Nat.zero_le _) ⟨[],_,true,rfl,rfl,.start hnd,fun _=>rfl,fun h=>by cases h⟩
 ·rintro k e s hk ⟨out,rem,again,rfl,rfl,hO,h1,h2⟩ ih
  cases again with
  | false =>
   obtain ⟨-,h3⟩:=h2 rfl
   simp only [vqM,zB]
   refine ke9 (.inr rfl) ?_ (xx9 _) (fun _ h=>wg9 h) (by omega)
   simp only [vqM]
   rw [h3]
  | true =>
   have h3:=h1 rfl
   have hol:out.length≤p.defs.length:=by have:=hO.len;omega
   clear h1 h2
   simp only [vqM,zB]
   refine kc9 [1,3,4,5] ?_
   simp only [vke,zB,zA]
   refine km9 hmix (p.defs.length+1) (fun i e s=>i≤p.defs.length∧((e=[Jk,.box B.length 0,Jk,.slice (ownF c 1 out.length) (intCells out),.bool false,.int .i64 (i:Int),Jk,Jk,Jk,Jk,Jk,Jk,Jk,Jk,Jk,Jk,Jk,Jk,Jk,Jk,Jk,Jk,Jk,Jk,Jk,Jk,Jk,Jk,Jk,Jk,Jk,Jk,Jk,Jk,Jk,Jk,Jk,Jk,Jk,Jk,Jk,Jk,Jk,Jk,Jk,Jk,Jk,Jk,Jk,Jk,Jk,Jk,Jk,Jk,Jk,Jk,Jk,Jk,Jk,Jk,Jk,Jk,Jk,Jk,Jk,Jk,Jk,Jk,Jk,Jk,Jk,Jk,Jk]∧s=⟨B++[.cells p.cells],liveN L c out.length,c+out.length⟩∧∀ j (h:j<p.defs.length),j<i→rdy rem p.defs[j]=false) ∨
    (∃ i0,p.defs.findIdx? (rdy rem)=some i0∧e=[Jk,.box B.length 0,Jk,.slice (ownF c 1 (out.length+1)) (intCells (out++[idAt p.defs i0])),.bool true,.int .i64 (i:Int),Jk,Jk,Jk,Jk,Jk,Jk,Jk,Jk,Jk,Jk,Jk,Jk,Jk,Jk,Jk,Jk,Jk,Jk,Jk,Jk,Jk,Jk,Jk,Jk,Jk,Jk,Jk,Jk,Jk,Jk,Jk,Jk,Jk,Jk,Jk,Jk,Jk,Jk,Jk,Jk,Jk,Jk,Jk,Jk,Jk,Jk,Jk,Jk,Jk,Jk,Jk,Jk,Jk,Jk,Jk,Jk,Jk,Jk,Jk,Jk,Jk,Jk,Jk,Jk,Jk,Jk,Jk]∧s=⟨B++[.cells p.cells],liveN L c (out.length+1),c+(out.length+1)⟩))) ?_ ?_ 0 _ _ (Nat.zero_le _) ⟨Nat.zero_le _,.inl ⟨rfl,rfl,by intro j _ h;omega⟩⟩
   ·rintro i e s hi ⟨hin,⟨rfl,rfl,hJ⟩ | ⟨i0,hf,rfl,rfl⟩⟩ ihi
    ·by_cases hii:i<p.defs.length
     ·have hklt:((i:Int)<(p.defs.length:Int))=True:=by simp;exact hii
      have hx:p.defs[i]? = some p.defs[i]:=List.getElem?_eq_getElem hii
      have hg:(dfCells p.defs)[i]? = some (p.defs[i].cells):=by simp [dfCells,hx]
      have hmem:=List.getElem_mem hii
      have hrd:=rdyO_eq hO hmem
      have hNd:=hN _ hmem
      have hat:idAt p.defs i=p.defs[i].id:=by simp [idAt,hx]
      have hJ2:rdy rem p.defs[i]=true→p.defs.findIdx? (rdy rem)=some i:=fun h=>List.findIdx?_eq_some_iff_getElem.2 ⟨hii,h,fun j hj=>by simpa using hJ j (by omega) hj⟩
      have hJ3:rdy rem p.defs[i]=false→∀ j (h:j<p.defs.length),j<i+1→rdy rem p.defs[j]=false:=fun h j hj hji=>by
       by_cases e:j=i
       ·subst e;exact h
       ·exact hJ j hj (by omega)
      have hof:∀ xs B,qa9 (ownF c 1 out.length) (intCells xs) 1 ⟨B,liveN L c out.length,c+out.length⟩=true:=fun xs B=>yf9 (qb9 _)
      have hl1:(out.length+1≤1000000)=True:=eq_true (by omega)
      generalize p.defs[i]=d at hx hg hmem hrd hNd hat hJ2 hJ3
      have hcl:(callsR d).length≤cntL d.body:=by
       have h1:=foldl_len (rawC (flatL 1 d.body)) []
       have h2:(rawC (flatL 1 d.body)).length≤(flatL 1 d.body).length:=by rw [rawC,List.length_map];exact List.length_filter_le _ _
       rw [xr9] at h2
       simp at h1
       rw [callsR];omega
      simp only [vqM,vt99,zA,zB,kg9,hklt,decide_true,natle0,Int.toNat_natCast,hg]
      refine ka9 (t_Has out d.id _) ?_
      simp only [vqM,vt99,zA,zB,natle0,Int.toNat_natCast,hg]
      refine ka9 (t_CallsR d hNd _) ?_
      simp only [vqM,zB]
      refine kc9 [1,3,4,5,6,7,8] ?_
      simp only [vke,zB,zA]
      rw [← hrd] at hJ2 hJ3
      have hr0:rdyO p out d=(!out.contains d.id && (callsR d).all (okC p out)):=rfl
      generalize callsR d=cs at hcl hr0
      refine km9 hmix cs.length (fun j e s=>e=[Jk,.box B.length 0,Jk,.slice (ownF c 1 out.length) (intCells out),.bool false,.int .i64 (i:Int),.bool (!out.contains d.id && (cs.take j).all (okC p out)),.slice .none (intCells cs),.int .i64 (j:Int),Jk,Jk,Jk,Jk,Jk,Jk,Jk,Jk,Jk,Jk,Jk,Jk,Jk,Jk,Jk,Jk,Jk,Jk,Jk,Jk,Jk,Jk,Jk,Jk,Jk,Jk,Jk,Jk,Jk,Jk,Jk,Jk,Jk,Jk,Jk,Jk,Jk,Jk,Jk,Jk,Jk,Jk,Jk,Jk,Jk,Jk,Jk,Jk,Jk,Jk,Jk,Jk,Jk,Jk,Jk,Jk,Jk,Jk,Jk,Jk,Jk,Jk,Jk,Jk]∧s=⟨B++[.cells p.cells],liveN L c out.length,c+out.length⟩) ?_ ?_ 0 _ _ (Nat.zero_le _) ⟨by simp,rfl⟩
      ·rintro j e s hj ⟨rfl,rfl⟩ ihj
       have hgj:=intAt hj
       have hjlt:((j:Int)<(cs.length:Int))=True:=by simp;exact hj
       have hnx:(cs.take (j+1)).all (okC p out)=((cs.take j).all (okC p out) && okC p out cs[j]):=by
        rw [List.take_add_one,List.getElem?_eq_getElem hj,List.all_append];simp
       generalize cs[j]=y at hgj hnx
       simp only [vqM,vt99,zB,kd9,hjlt,decide_true]
       refine qe9 hmix [1,3,4,5,6,7,8] [Jk,.box B.length 0,Jk,.slice (ownF c 1 out.length) (intCells out),.bool false,.int .i64 (i:Int),.bool ((!out.contains d.id && (cs.take j).all (okC p out)) && okC p out y),.slice .none (intCells cs),.int .i64 (j:Int),Jk,Jk,Jk,Jk,Jk,Jk,Jk,Jk,Jk,Jk,Jk,Jk,Jk,Jk,Jk,Jk,Jk,Jk,Jk,Jk,Jk,Jk,Jk,Jk,Jk,Jk,Jk,Jk,Jk,Jk,Jk,Jk,Jk,Jk,Jk,Jk,Jk,Jk,Jk,Jk,Jk,Jk,Jk,Jk,Jk,Jk,Jk,Jk,Jk,Jk,Jk,Jk,Jk,Jk,Jk,Jk,Jk,Jk,Jk,Jk,Jk,Jk,Jk,Jk] (fun s=>s=⟨B++[.cells p.cells],liveN L c out.length,c+out.length⟩) ?_ ?_
       ·generalize (!out.contains d.id && (cs.take j).all (okC p out))=r0
        simp only [vqM]
        repeat' (first
         | ((with_reducible refine kh9 ?_);refine ka9 (t_FindIn p y (by omega) _) ?_;simp only [vqM,vt99,foundD,df_fld])
         | ((with_reducible refine kh9 ?_);refine ka9 (t_Has out y _) ?_;simp only [vqM])
         | (with_reducible refine kb9 (fun hc=>?_) (fun hc=>?_) <;> simp only [vqM,vt99,hc,zA,natle0,Int.toNat_natCast,hgj])
         | ((with_reducible refine is_q ?_);refine kj9 ⟨?_,rfl⟩ <;> simp only [vke,zB,zA] <;> (first | (simp only [okC, *,Bool.true_and,Bool.false_and,Bool.and_true,Bool.true_or,Bool.false_or];done) | (simp_all [okC];done) | (simp_all [okC];omega))))
       rintro s rfl
       simp only [vqM]
       rw [kf9 (by omega)]
       refine kc9 [1,3,4,5,6,7,8] ?_
       simp only [vke,zB,zA]
       exact ihj _ _ ⟨by rw [hnx,Bool.and_assoc],rfl⟩
      ·rintro e s ⟨rfl,rfl⟩
       have hjlt:((cs.length:Int)<(cs.length:Int))=False:=by simp
       rw [List.take_length,← hr0]
       simp only [vqM,vt99,zB,kd9,hjlt,decide_false]
       refine kb9 (fun hc=>?_) (fun hc=>?_)
       ·simp only [vqM,vt99,zA,zM,zL,zB,natle0,Int.toNat_natCast,hg,hof,qp9,kd9,hl1,qq9]
        rw [kf9 (by omega)]
        refine kc9 [1,3,4,5] ?_
        simp only [vke,zB,zA]
        refine ihi _ _ ⟨by omega,.inr ⟨i,hJ2 hc,?_,rfl⟩⟩
        rw [hat];rfl
       ·simp only [vqM]
        rw [kf9 (by omega)]
        refine kc9 [1,3,4,5] ?_
        simp only [vke,zB,zA]
        exact ihi _ _ ⟨by omega,.inl ⟨rfl,rfl,hJ3 hc⟩⟩
     ·have hie:i=p.defs.length:=by omega
      subst hie
      have hklt:((p.defs.length:Int)<(p.defs.length:Int))=False:=by simp
      simp only [vqM,vt99,zA,zB,kg9,hklt,decide_false]
      refine kc9 [1,3,4] ?_
      simp only [vke,zB,zA]
      have hno:p.defs.findIdx? (rdy rem)=none:=by
       rw [List.findIdx?_eq_none_iff]
       intro x hx
       obtain ⟨j,hj,rfl⟩:=List.getElem_of_mem hx
       exact hJ j hj hj
      exact ih _ _ ⟨out,rem,false,rfl,rfl,hO,(fun h=>by cases h),fun _=>⟨by omega,hO.stop hno⟩⟩
    ·have hl:(out++[idAt p.defs i0]).length=out.length+1:=by simp
     cases hd:decide ((i:Int)<(p.defs.length:Int))
     all_goals
      simp only [vqM,vt99,zA,zB,kg9,hd]
      refine kc9 [1,3,4] ?_
      simp only [vke,zB,zA]
      exact ih _ _ ⟨_,_,true,by rw [hl],by rw [hl],hO.step hf,(fun _=>by rw [hl];omega),(fun h=>by cases h)⟩
   ·rintro e s ⟨hin,_⟩
    omega
 ·rintro e s ⟨out,rem,again,rfl,rfl,hO,h1,h2⟩
  have:=hO.len
  cases again with
  | false=>have:=(h2 rfl).1;omega
  | true=>have:=h1 rfl;omega
theorem dis_iff:∀ (l seen:List Int),seen.Nodup→(dis l seen=true↔(seen++l).Nodup)
 | [],seen,h=>by simp [dis,h]
 | x::l,seen,h=>by
  rw [dis,Bool.and_eq_true,Bool.not_eq_true']
  have e:seen++x::l=(seen++[x])++l:=by simp
  by_cases hx:x ∈ seen
  ·have h1:seen.contains x=true:=by simpa using hx
   rw [h1]
   constructor
   ·rintro ⟨h2,_⟩;cases h2
   ·intro h2
    exact absurd rfl ((List.nodup_append.1 h2).2.2 x hx x (by simp))
  ·have h1:seen.contains x=false:=by
    rw [Bool.eq_false_iff];intro h2;exact hx (by simpa using h2)
   have hn:(seen++[x]).Nodup:=by
    rw [List.nodup_append]
    exact ⟨h,by simp,fun a ha b hb=>by simp at hb;subst hb;rintro rfl;exact hx ha⟩
   rw [h1,e,dis_iff l (seen++[x]) hn]
   simp
def chain (p:Pg):List Df→Int→Bool
 | [],_=>true
 | d::l,last=>!(decide (d.id≤last) || !rightB p d) && chain p l d.id
theorem chain_ok {p:Pg}:∀ (l:List Df) (seen:List Int) (last:Int),seen.Nodup→(scanD p l seen last=true↔chain p l last=true∧(seen++l.flatMap sitesS).Nodup)
 | [],seen,last,h=>by simp [scanD,chain,h]
 | d::l,seen,last,h=>by
  rw [scanD,chain,Bool.and_eq_true,Bool.and_eq_true,Bool.and_eq_true,dis_iff _ _ h,List.flatMap_cons,← List.append_assoc]
  constructor
  ·rintro ⟨h1,h2,h3⟩
   obtain ⟨h4,h5⟩:=(chain_ok l _ _ h2).1 h3
   exact ⟨⟨h1,h4⟩,h5⟩
  ·rintro ⟨⟨h1,h2⟩,h3⟩
   have h4:(seen++sitesS d).Nodup:=(List.nodup_append.1 h3).1
   exact ⟨h1,h4,(chain_ok l _ _ h4).2 ⟨h2,h3⟩⟩
def badD (p:Pg) (k:Nat) (d:Df):Bool :=
 !defB d p.d || ((decide (0<(k:Int)) && decide (d.id≤idAt p.defs (k - 1))) || (!(headS p d.id).isSome || (!decide (hdG p d.id=headOf d) || !(smsL d.body).all (callB p))))
theorem other_eq {p:Pg} {d:Df}:otherB p d=(!(headS p d.id).isSome || !decide (hdG p d.id=headOf d)):=by
 cases h:headS p d.id with
 | none=>simp [otherB,h]
 | some x =>
  have hid:x.id=d.id:=by
   have:=List.find?_some h
   simpa using this
  obtain ⟨a,b,c,e,f⟩:=x
  simp only at hid
  simp only [otherB,h,hdG,Option.getD_some,Option.isSome_some,Bool.not_true,Bool.false_or,headOf,hid]
  rw [Bool.eq_iff_iff]
  simp only [Bool.or_eq_true,decide_eq_true_eq,Bool.not_eq_true',decide_eq_false_iff_not,Hd.mk.injEq,true_and,or_assoc,ne_eq]
  by_cases h1:b=d.firm <;> by_cases h2:c=d.part <;> by_cases h3:e=d.params <;> by_cases h4:f=d.given <;> simp [h1,h2,h3,h4]
theorem all_sms {p:Pg} {d:Df}:((flatL 1 d.body).all fun q=>callB p q.s)=(smsL d.body).all (callB p):=by
 rw [← flatL_sms d.body 1,List.all_map];rfl
theorem badD_eq {p:Pg} {k:Nat} {d:Df} (last:Int) (h0:k=0→last=0) (h1:0<k→last=idAt p.defs (k - 1)):badD p k d=(decide (d.id≤last) || !rightB p d):=by
 have hr:rightB p d=(defB d p.d && !otherB p d && (smsL d.body).all (callB p)):=by rw [rightB,all_sms]
 rw [hr,badD,other_eq]
 cases hd:defB d p.d with
 | false=>simp
 | true =>
  have hid:1≤d.id:=by
   simp only [defB,headB,Bool.and_eq_true] at hd
   have:=hd.1.1.1.1.1.1.1.1.1.1.1
   simp only [inB,Bool.and_eq_true,decide_eq_true_eq] at this
   exact this.1
  have hb:(decide (0<(k:Int)) && decide (d.id≤idAt p.defs (k - 1)))=decide (d.id≤last):=by
   by_cases e:k=0
   ·rw [h0 e];subst e
    simp;omega
   ·rw [h1 (by omega)]
    have:decide (0<(k:Int))=true:=decide_eq_true (by omega)
    rw [this,Bool.true_and]
  rw [hb]
  simp only [Bool.not_true,Bool.false_or,Bool.true_and,Bool.not_and,Bool.not_not,Bool.not_or]
  cases decide (d.id≤last) <;> simp [Bool.or_assoc]
def lastAt (defs:List Df):Nat→Int
 | 0=>0
 | k+1=>idAt defs k
theorem chain_step {p:Pg} {k:Nat} {d:Df} (hk:p.defs[k]? = some d):chain p (p.defs.drop k) (lastAt p.defs k)=(!badD p k d && chain p (p.defs.drop (k+1)) (lastAt p.defs (k+1))):=by
 obtain ⟨hkl,rfl⟩:=List.getElem?_eq_some_iff.1 hk
 rw [List.drop_eq_getElem_cons hkl,chain,badD_eq (lastAt p.defs k)]
 ·simp [lastAt,idAt,hk]
 ·rintro rfl;rfl
 ·intro h;cases k with
  | zero=>omega
  | succ k=>rfl
theorem chain_lt {p:Pg}:∀ (l:List Df) (last:Int),chain p l last=true→(l.map (·.id)).Pairwise (· < ·)∧∀ d ∈ l,last<d.id:=by
 intro l
 induction l with
 | nil=>intro _ _;simp
 | cons d l ih =>
  intro last h
  simp only [chain,Bool.and_eq_true,Bool.not_eq_true',Bool.or_eq_false_iff,decide_eq_false_iff_not] at h
  obtain ⟨h1,h2⟩:=ih _ h.2
  refine ⟨by simpa using ⟨h2,by simpa using h1⟩,fun x hx=>?_⟩
  rcases List.mem_cons.1 hx with rfl | hx
  ·omega
  ·have:=h2 x hx;omega
theorem chain_nodup {p:Pg} (h:chain p p.defs 0=true):(p.defs.map (·.id)).Nodup:=(chain_lt _ _ h).1.imp fun h=>by omega
theorem programS_ref (p:Pg):wf9 p=if faultB p then 60 else if !chain p p.defs 0 then 60 else if p.threads.any (noThr p) then 60 else if !diffB (p.defs.flatMap sitesS) then 60 else if (orderS p).length≠p.defs.length then 180 else 0:=by
 rw [wf9]
 have h:=chain_ok (p:=p) p.defs [] 0 (by simp)
 rw [List.nil_append] at h
 have h2:scanD p p.defs [] 0=(chain p p.defs 0 && diffB (p.defs.flatMap sitesS)):=by
  rw [Bool.eq_iff_iff,h,Bool.and_eq_true,diffB,decide_eq_true_eq]
 rw [h2]
 cases faultB p <;> cases chain p p.defs 0 <;> cases diffB (p.defs.flatMap sitesS) <;> cases p.threads.any (noThr p) <;> simp
theorem sites_len {p:Pg} {d:Df} (h:rightB p d=true):(sitesS d).length≤201:=by
 simp only [rightB,defB,Bool.and_eq_true] at h
 have:=(scan_inv _ _ _ (by simp) (by simp) h.1.1.2).2.2
 rw [sitesS,List.length_append,sitesL,List.length_map]
 simp at this ⊢
 omega
theorem bad_right {p:Pg} {k:Nat} {d:Df} (hk:p.defs[k]? = some d) (h:badD p k d=false):rightB p d=true:=by
 rw [badD_eq (lastAt p.defs k) (by rintro rfl;rfl) (by intro h;cases k with
  | zero=>omega
  | succ k=>rfl)] at h
 simp only [Bool.or_eq_false_iff,Bool.not_eq_false'] at h
 exact h.2
structure PgR (p:Pg):Prop where
 nm:∀ d ∈ p.defs,d.name.size≤1000000000
 cn:∀ d ∈ p.defs,cntL d.body<90000
theorem yj9 (h:Hd) (d:D):(h.cells++[d]).take 5=h.cells:=rfl
theorem hd_get5 (h:Hd) (d:D):(h.cells++[d])[5]? = some d:=rfl
theorem intCells_add (l m:List Int):intCells l++intCells m=intCells (l++m):=by simp [intCells]
theorem t_ProgramR (p:Pg) (H:PgR p) (s:St):Spec Tryz.prog 30 [.agg p.cells] s (.int .i64 (wf9 p)) s:=by
 have hP0:=programS_ref p
 obtain ⟨B,L,c⟩:=s
 refine Spec.introN [(1,.cut),(9,.cutT [false,false,false,true,false,false,false,false,false,false,false,false,false,false,false,false,false,false,false,false,false,false,false,false,false,false,false,false,false,false,true,true,false,false,false,false,false,true,false,false] [(28,2)]),(15,.text [false,false,false,false,false,false,false,true,true] [(0,1),(2,1),(5,1),(6,1)]),(16,.cut),(20,.text [false,true,false,false,false,false,false] [(4,0),(5,0)])] Tryz.func30 rfl (by decide) hmix (by kernel_rfl) [ResultVar.tmp 2] 130 rfl rfl ?_
 simp only [vqM,zA,zS,zB]
 refine seq_joinS hmix [1,29] [Jk,.box B.length 0,Jk,Jk,Jk,Jk,Jk,Jk,Jk,Jk,Jk,Jk,Jk,Jk,Jk,Jk,Jk,Jk,Jk,Jk,Jk,Jk,Jk,Jk,Jk,Jk,Jk,Jk,Jk,.bool (faultB p),Jk,Jk,Jk,Jk,Jk,Jk,Jk,Jk,Jk,Jk,Jk,Jk,Jk,Jk,Jk,Jk,Jk,Jk,Jk,Jk,Jk,Jk,Jk,Jk,Jk,Jk,Jk,Jk,Jk,Jk,Jk,Jk,Jk,Jk,Jk,Jk,Jk,Jk,Jk,Jk,Jk,Jk,Jk,Jk,Jk,Jk,Jk,Jk,Jk,Jk,Jk,Jk,Jk,Jk,Jk,Jk,Jk,Jk,Jk,Jk,Jk,Jk,Jk,Jk,Jk,Jk,Jk,Jk,Jk,Jk,Jk,Jk,Jk,Jk,Jk,Jk,Jk,Jk,Jk,Jk,Jk,Jk,Jk,Jk,Jk,Jk,Jk,Jk,Jk,Jk,Jk,Jk,Jk,Jk,Jk,Jk,Jk,Jk,Jk,Jk] ?_ ?_
 ·simp only [vqM,vt100,zA,zL]
  refine ka9 (t_DeclR _ _) ?_
  cases hd:declB p.d
  ·simp only [vqM,reduceCtorEq,dn60]
   refine kj9 ⟨?_,rfl⟩
   simp only [vke,zB,zA]
   simp [faultB,hd]
  ·simp only [vqM,vt100,dn00]
   repeat' (first
    | ((with_reducible refine kh9 ?_);refine ka9 (t_headsR _ _) ?_;simp only [vqM])
    | (with_reducible refine kb9 (fun hc=>?_) (fun hc=>?_) <;> simp only [vqM,vt100,hc,zA,kg9,kd9])
    | ((with_reducible refine is_q ?_);refine kj9 ⟨?_,rfl⟩ <;> simp only [vke,zB,zA] <;> (first | (simp only [faultB, *,Bool.true_or,Bool.false_or,Bool.or_true,Bool.or_false,Bool.not_true];done) | (simp_all [faultB,hd];done) | (simp_all [faultB,hd];omega))))
 simp only [vqM]
 refine kb9 (fun hc=>?_) (fun hc=>?_)
 ·simp only [vqM,zB]
  refine ke9 (.inr rfl) ?_ (.int _ _) (fun _ h=>h) (Nat.le_refl _)
  simp only [vqM]
  rw [hP0,hc];rfl
 have hdl:p.defs.length≤40:=by
  simp only [faultB,Bool.or_eq_false_iff,decide_eq_false_iff_not] at hc
  omega
 have htl:p.threads.length≤4:=by
  simp only [faultB,Bool.or_eq_false_iff,decide_eq_false_iff_not] at hc
  omega
 have hP1:wf9 p=if !chain p p.defs 0 then 60 else if p.threads.any (noThr p) then 60 else if !diffB (p.defs.flatMap sitesS) then 60 else if (orderS p).length≠p.defs.length then 180 else 0:=by rw [hP0,hc];rfl
 clear hP0
 simp only [vqM,vt100,zA,zM,zB]
 refine kc9 [1,3,4] ?_
 simp only [vke,zB,zA]
 refine km9 hmix p.defs.length (fun k e s=>∃ X:List Box,e=[Jk,.box B.length 0,Jk,.slice (ownF c 1 k) (intCells ((p.defs.take k).flatMap sitesS)),.int .i64 (k:Int),Jk,Jk,Jk,Jk,Jk,Jk,Jk,Jk,Jk,Jk,Jk,Jk,Jk,Jk,Jk,Jk,Jk,Jk,Jk,Jk,Jk,Jk,Jk,Jk,Jk,Jk,Jk,Jk,Jk,Jk,Jk,Jk,Jk,Jk,Jk,Jk,Jk,Jk,Jk,Jk,Jk,Jk,Jk,Jk,Jk,Jk,Jk,Jk,Jk,Jk,Jk,Jk,Jk,Jk,Jk,Jk,Jk,Jk,Jk,Jk,Jk,Jk,Jk,Jk,Jk,Jk,Jk,Jk,Jk,Jk,Jk,Jk,Jk,Jk,Jk,Jk,Jk,Jk,Jk,Jk,Jk,Jk,Jk,Jk,Jk,Jk,Jk,Jk,Jk,Jk,Jk,Jk,Jk,Jk,Jk,Jk,Jk,Jk,Jk,Jk,Jk,Jk,Jk,Jk,Jk,Jk,Jk,Jk,Jk,Jk,Jk,Jk,Jk,Jk,Jk,Jk,Jk,Jk,Jk,Jk,Jk,Jk,Jk,Jk,Jk]∧s=⟨B++.cells p.cells::X,liveN L c k,c+k⟩∧chain p p.defs 0=chain p (p.defs.drop k) (lastAt p.defs k)∧((p.defs.take k).flatMap sitesS).length≤201 * k) ?_ ?_ 0 _ _ (Nat.zero_le _) ⟨[],rfl,rfl,rfl,by simp⟩
 ·rintro k e s hk ⟨X,rfl,rfl,hI,hS⟩ ih
  have hx:p.defs[k]? = some p.defs[k]:=List.getElem?_eq_getElem hk
  have hg:(dfCells p.defs)[k]? = some (p.defs[k].cells):=by simp [dfCells,hx]
  have hklt:((k:Int)<(p.defs.length:Int))=True:=by simp;exact hk
  have hmem:=List.getElem_mem hk
  have hnm:=H.nm _ hmem
  have hcn:=H.cn _ hmem
  have hst:=chain_step hx
  have hrt:badD p k p.defs[k]=false→rightB p p.defs[k]=true:=bad_right hx
  have hnext:(p.defs.take (k+1)).flatMap sitesS=(p.defs.take k).flatMap sitesS++sitesS p.defs[k]:=by
   rw [List.take_add_one,hx,List.flatMap_append];simp
  generalize p.defs[k]=d at hx hg hmem hnm hcn hst hrt hnext
  simp only [vqM,vt100,zA,zB,kg9,hklt,decide_true,natle0,Int.toNat_natCast,hg]
  refine ka9 (t_HeadIn p d.id _) ?_
  simp only [vqM,vt100,zA,zB,headedD]
  have hb:badD p k d=(!defB d p.d || ((decide (0<(k:Int)) && decide (d.id≤idAt p.defs (k - 1))) || (!(headS p d.id).isSome || (!decide ((headS p d.id).getD Hd.zero=headOf d) || !(smsL d.body).all (callB p))))):=rfl
  refine qe9 hmix [1,3,4,5,86] [Jk,.box B.length 0,Jk,.slice (ownF c 1 k) (intCells ((p.defs.take k).flatMap sitesS)),.int .i64 (k:Int),.box (B.length+(X.length+1)) 0,Jk,Jk,Jk,Jk,Jk,Jk,Jk,Jk,Jk,Jk,Jk,Jk,Jk,Jk,Jk,Jk,Jk,Jk,Jk,Jk,Jk,Jk,Jk,Jk,Jk,Jk,Jk,Jk,Jk,Jk,Jk,Jk,Jk,Jk,Jk,Jk,Jk,Jk,Jk,Jk,Jk,Jk,Jk,Jk,Jk,Jk,Jk,Jk,Jk,Jk,Jk,Jk,Jk,Jk,Jk,Jk,Jk,Jk,Jk,Jk,Jk,Jk,Jk,Jk,Jk,Jk,Jk,Jk,Jk,Jk,Jk,Jk,Jk,Jk,Jk,Jk,Jk,Jk,Jk,Jk,.bool (badD p k d),Jk,Jk,Jk,Jk,Jk,Jk,Jk,Jk,Jk,Jk,Jk,Jk,Jk,Jk,Jk,Jk,Jk,Jk,Jk,Jk,Jk,Jk,Jk,Jk,Jk,Jk,Jk,Jk,Jk,Jk,Jk,Jk,Jk,Jk,Jk,Jk,Jk,Jk,Jk,Jk,Jk,Jk,Jk] (fun s=>s=⟨B++.cells p.cells::(X++[.cells d.cells,.cells (((headS p d.id).getD Hd.zero).cells++[.bool (headS p d.id).isSome])]),liveN L c k,c+k⟩) ?_ ?_
  ·rw [hb]
   clear hb hst hrt hI hS hnext ih
   generalize (headS p d.id).isSome=fd
   generalize (headS p d.id).getD Hd.zero=h
   cases hdb:defB d p.d
   ·simp only [vqM,vt100,zA,zL,zB]
    refine ka9 (t_DefR d p.d hnm (by omega) _) ?_
    simp only [vqM,reduceCtorEq,hdb,dn60]
    refine kj9 ⟨?_,rfl⟩
    simp only [vke,zB,zA]
   ·rcases k with _ | j
    ·have h00:((0:Int)<0)=False:=by simp
     simp only [vqM,vt100,zA,zL,zB]
     refine ka9 (t_DefR d p.d hnm (by omega) _) ?_
     simp only [vqM,vt100,zA,zS,hdb,dn00,h00,decide_false]
     repeat' (first
      | ((with_reducible refine kh9 ?_);refine ka9 (t_HeadR d _) ?_;simp only [vqM])
      | ((with_reducible refine kh9 ?_);refine ka9 (t_SameHeadF h (headOf d) _) ?_;simp only [vqM])
      | ((with_reducible refine kh9 ?_);refine ka9 (t_callsB p d (by omega) _) ?_;simp only [vqM,vt100,zA,zL])
      | (with_reducible refine kb9 (fun hc=>?_) (fun hc=>?_) <;> simp only [vqM,vt100,hc,zA,zL])
      | ((with_reducible refine is_q ?_);refine kj9 ⟨?_,rfl⟩ <;> simp only [vke,zB,zA] <;> (first | (simp only [*,Bool.false_and,Bool.false_or];done) | (simp_all [];done) | (simp_all [];omega))))
    ·have hxj:p.defs[j]? = some (p.defs[j]'(by omega)):=List.getElem?_eq_getElem (by omega)
     have hgj:(dfCells p.defs)[j]? = some ((p.defs[j]'(by omega)).cells):=by simp [dfCells,hxj]
     have hlj:idAt p.defs (j+1 - 1)=(p.defs[j]'(by omega)).id:=by simp [idAt,hxj]
     have hwj:IntKind.i64.wrap (((j+1:Nat):Int) - 1)=(j:Int):=by rw [ky9 (by omega)];omega
     generalize p.defs[j]'(by omega)=d0 at hxj hgj hlj
     simp only [vqM,vt100,zA,zL,zB]
     refine ka9 (t_DefR d p.d hnm (by omega) _) ?_
     simp only [vqM,hdb,dn00]
     repeat' (first
      | ((with_reducible refine kh9 ?_);refine ka9 (t_HeadR d _) ?_;simp only [vqM])
      | ((with_reducible refine kh9 ?_);refine ka9 (t_SameHeadF h (headOf d) _) ?_;simp only [vqM])
      | ((with_reducible refine kh9 ?_);refine ka9 (t_callsB p d (by omega) _) ?_;simp only [vqM,vt100,zA,zL])
      | (with_reducible refine kb9 (fun hc=>?_) (fun hc=>?_) <;> simp only [vqM,vt100,hc,zA,zL,natle0,Int.toNat_natCast,hwj,hgj])
      | ((with_reducible refine is_q ?_);refine kj9 ⟨?_,rfl⟩ <;> simp only [vke,zB,zA] <;> (first | (simp only [ *,Bool.false_and,Bool.and_true,Bool.and_false,Bool.true_or,Bool.false_or];done) | (simp_all [hlj];done) | (simp_all [hlj];omega))))
  rintro s rfl
  simp only [vqM]
  refine kb9 (fun hc=>?_) (fun hc=>?_)
  ·simp only [vqM,zB]
   refine ke9 (.inr rfl) ?_ (.int _ _) (fun _ h=>wg9 h) (by omega)
   simp only [vqM]
   rw [hP1,hI,hst,hc];rfl
  have hsl:=sites_len (hrt hc)
  have hof:∀ xs B,qa9 (ownF c 1 k) (intCells xs) 1 ⟨B,liveN L c k,c+k⟩=true:=fun xs B=>yf9 (qb9 _)
  have hl1:(((p.defs.take k).flatMap sitesS).length+(sitesS d).length≤1000000)=True:=eq_true (by omega)
  have hall:∀ m:List Int,(∀ z,z ∈ intCells m→z.length=1)=True:=fun m=>eq_true (qb9 m)
  simp only [vqM,vt100]
  refine ka9 (t_SitesN d (by omega) _) ?_
  simp only [vqM,vt100,zA,zL,hof,qp9,kd9,hl1,hall,intCells_add]
  rw [kf9 (by omega),← hnext]
  refine kc9 [1,3,4] ?_
  simp only [vke,zB,zA]
  refine ih _ _ ⟨_,rfl,rfl,?_,?_⟩
  ·rw [hI,hst,hc];rfl
  ·rw [hnext,List.length_append];omega
 ·rintro e s ⟨X,rfl,rfl,hI,hS⟩
  have hklt:((p.defs.length:Int)<(p.defs.length:Int))=False:=by simp
  rw [List.drop_length,chain] at hI
  rw [List.take_length]
  have hP2:wf9 p=if p.threads.any (noThr p) then 60 else if !diffB (p.defs.flatMap sitesS) then 60 else if (orderS p).length≠p.defs.length then 180 else 0:=by rw [hP1,hI];rfl
  clear hP1
  simp only [vqM,vt100,zA,zB,kg9,hklt,decide_false]
  refine kc9 [1,3,7] ?_
  simp only [vke,zB,zA]
  refine km9 hmix p.threads.length (fun k e s=>∃ X:List Box,e=[Jk,.box B.length 0,Jk,.slice (ownF c 1 p.defs.length) (intCells (p.defs.flatMap sitesS)),Jk,Jk,Jk,.int .i64 (k:Int),Jk,Jk,Jk,Jk,Jk,Jk,Jk,Jk,Jk,Jk,Jk,Jk,Jk,Jk,Jk,Jk,Jk,Jk,Jk,Jk,Jk,Jk,Jk,Jk,Jk,Jk,Jk,Jk,Jk,Jk,Jk,Jk,Jk,Jk,Jk,Jk,Jk,Jk,Jk,Jk,Jk,Jk,Jk,Jk,Jk,Jk,Jk,Jk,Jk,Jk,Jk,Jk,Jk,Jk,Jk,Jk,Jk,Jk,Jk,Jk,Jk,Jk,Jk,Jk,Jk,Jk,Jk,Jk,Jk,Jk,Jk,Jk,Jk,Jk,Jk,Jk,Jk,Jk,Jk,Jk,Jk,Jk,Jk,Jk,Jk,Jk,Jk,Jk,Jk,Jk,Jk,Jk,Jk,Jk,Jk,Jk,Jk,Jk,Jk,Jk,Jk,Jk,Jk,Jk,Jk,Jk,Jk,Jk,Jk,Jk,Jk,Jk,Jk,Jk,Jk,Jk,Jk,Jk,Jk,Jk,Jk,Jk]∧s=⟨B++.cells p.cells::X,liveN L c p.defs.length,c+p.defs.length⟩∧∀ j (h:j<p.threads.length),j<k→noThr p p.threads[j]=false) ?_ ?_ 0 _ _ (Nat.zero_le _) ⟨X,rfl,rfl,by intro j _ h;omega⟩
  ·rintro k e s hk ⟨X,rfl,rfl,hJ⟩ ih
   have hg:=intAt hk
   have hklt:((k:Int)<(p.threads.length:Int))=True:=by simp;exact hk
   have hany:noThr p p.threads[k]=true→p.threads.any (noThr p)=true:=fun h=>List.any_eq_true.2 ⟨_,List.getElem_mem hk,h⟩
   have hJk:noThr p p.threads[k]=false→∀ j (h:j<p.threads.length),j<k+1→noThr p p.threads[j]=false:=fun h j hj hjk=>by
    by_cases e:j=k
    ·subst e;exact h
    ·exact hJ j hj (by omega)
   generalize p.threads[k]=y at hg hany hJk
   simp only [vqM,vt100,zA,zB,kd9,hklt,decide_true,natle0,Int.toNat_natCast,hg]
   refine ka9 (t_FindIn p y (by omega) _) ?_
   simp only [vqM,vt100,zA,foundD]
   refine xq9 (ka9 (t_FindIn p y (by omega) _) ?_) ?_
   ·simp only [vqM,foundD]
   simp only [vqM,zB]
   have hb:noThr p y=(!(findS p y).isSome || decide (0<w64 ((((findS p y).getD Df.zero).params.length:Int)+((findS p y).getD Df.zero).given.length))):=rfl
   generalize (findS p y).isSome=fd at hb ⊢
   generalize (findS p y).getD Df.zero=d at hb ⊢
   refine qe9 hmix [1,3,7,119] [Jk,.box B.length 0,Jk,.slice (ownF c 1 p.defs.length) (intCells (p.defs.flatMap sitesS)),Jk,Jk,Jk,.int .i64 (k:Int),Jk,Jk,Jk,Jk,Jk,Jk,Jk,Jk,Jk,Jk,Jk,Jk,Jk,Jk,Jk,Jk,Jk,Jk,Jk,Jk,Jk,Jk,Jk,Jk,Jk,Jk,Jk,Jk,Jk,Jk,Jk,Jk,Jk,Jk,Jk,Jk,Jk,Jk,Jk,Jk,Jk,Jk,Jk,Jk,Jk,Jk,Jk,Jk,Jk,Jk,Jk,Jk,Jk,Jk,Jk,Jk,Jk,Jk,Jk,Jk,Jk,Jk,Jk,Jk,Jk,Jk,Jk,Jk,Jk,Jk,Jk,Jk,Jk,Jk,Jk,Jk,Jk,Jk,Jk,Jk,Jk,Jk,Jk,Jk,Jk,Jk,Jk,Jk,Jk,Jk,Jk,Jk,Jk,Jk,Jk,Jk,Jk,Jk,Jk,Jk,Jk,Jk,Jk,Jk,Jk,Jk,Jk,Jk,Jk,Jk,Jk,.bool (noThr p y),Jk,Jk,Jk,Jk,Jk,Jk,Jk,Jk,Jk,Jk] (fun s=>s=⟨B++.cells p.cells::(X++[.cells (d.cells++[.bool fd])]),liveN L c p.defs.length,c+p.defs.length⟩) ?_ ?_
   ·rw [hb]
    obtain ⟨d1,d2,d3,d4,d5,d6,d7,d8,d9,d10,d11,d12⟩:=d
    simp only [Df.cells,List.cons_append,List.nil_append]
    simp only [vqM,vt100,zA]
    repeat' (first
     | (with_reducible refine kb9 (fun hc=>?_) (fun hc=>?_) <;> simp only [vqM,vt100,hc,zA,kk9,wv9])
     | ((with_reducible refine is_q ?_);refine kj9 ⟨?_,rfl⟩ <;> simp only [vke,zB,zA] <;> (first | (simp only [*,Bool.true_and,Bool.false_and,Bool.and_true,Bool.and_false,Bool.true_or,Bool.false_or,Bool.or_true,Bool.or_false,Bool.not_true,Bool.not_false,cond_true,cond_false,if_true,if_false];done) | (simp_all [];done) | (simp_all [];omega))))
   rintro s rfl
   simp only [vqM]
   refine kb9 (fun h1=>?_) (fun h1=>?_)
   ·simp only [vqM,zB]
    refine ke9 (.inr rfl) ?_ (.int _ _) (fun _ h=>wg9 h) (by omega)
    simp only [vqM]
    rw [hP2,hany h1];rfl
   simp only [vqM]
   rw [kf9 (by omega)]
   refine kc9 [1,3,7] ?_
   simp only [vke,zB,zA]
   exact ih _ _ ⟨_,rfl,rfl,hJk h1⟩
  ·rintro e s ⟨X,rfl,rfl,hJ⟩
   have hno:p.threads.any (noThr p)=false:=List.any_eq_false.2 fun x hx=>by
    obtain ⟨j,hj,rfl⟩:=List.getElem_of_mem hx
    simpa using hJ j hj hj
   have hP3:wf9 p=if !diffB (p.defs.flatMap sitesS) then 60 else if (orderS p).length≠p.defs.length then 180 else 0:=by rw [hP2,hno];rfl
   have hklt:((p.threads.length:Int)<(p.threads.length:Int))=False:=by simp
   simp only [vqM,vt100,zA,zB,kd9,hklt,decide_false]
   refine ka9 (t_Different _ _) ?_
   simp only [vqM]
   refine kb9 (fun h0=>?_) (fun h0=>?_)
   ·simp only [vqM,zB]
    refine ke9 (.inr rfl) ?_ (.int _ _) (fun _ h=>wg9 h) (by omega)
    simp only [vqM]
    rw [hP3,h0];rfl
   simp only [vqM,vt100,zB]
   refine ka9 (t_OrderR p (chain_nodup hI) (fun d hd=>by have:=H.cn d hd;omega) (by omega) _) ?_
   simp only [vqM,vt100,zA,kd9,kg9]
   refine kb9 (fun h1=>?_) (fun h1=>?_)
   ·simp only [vqM,zB]
    refine ke9 (.inr rfl) ?_ (.int _ _) (fun _ h=>wg9 h) (by omega)
    simp only [vqM]
    rw [hP3,h0,if_neg (by simp),if_pos (by simp at h1;omega)]
   ·simp only [vqM,zB]
    refine ke9 (.inr rfl) ?_ (.int _ _) (fun _ h=>wg9 h) (by omega)
    simp only [vqM]
    rw [hP3,h0,if_neg (by simp),if_neg (by simp at h1;omega)]
theorem SpecQ.unMapX {P:Program} {f:FuncId} {args:List D} {s:St} {Z Z2:D→St→Prop} (h:SpecQ P f args s Z)
  (hz:∀ r t,Z r t→∃ b es bs c,t.boxes[b]? = some (.mapX es bs c)∧Z2 r { t with boxes:=t.boxes.set b (.map es) }):SpecQ P f args s Z2 :=
 SpecQ.ghost h fun r s1 hZ w0 g0 w g v h0 hle hw hv=>by
  obtain ⟨b,es,bs,c,h1,h2⟩:=hz r s1 hZ
  exact ⟨g,r,_,h2,hle,hw.unMapX h1,hv⟩
theorem SpecQ.letQ {P:Program} {f:FuncId} {args:List D} {s s':St} {Z:D→St→Prop} {Z':D→Prop} (h:SpecQ P f args s Z) (hz:∀ r t,Z r t→∃ r',weakD r r'∧Bd 0 0 r'∧Z' r'∧Leave s t s'):SpecQ P f args s fun r t=>Z' r∧t=s':=by
 refine SpecQ.ghost h fun r t hZ w0 g0 w g v h0 hle hw hv=>?_
 obtain ⟨r',h1,h2,h3,hl⟩:=hz r t hZ
 obtain ⟨q1,q2⟩:=hl.wrel h0 hle hw
 exact ⟨_,_,_,⟨h3,rfl⟩,q1,q2,(h1 _ _ hv).cut (h2.mono (Nat.zero_le _) (Nat.zero_le _))⟩
structure Js (n:Nat) (js:List Nat):Prop where
 nd:js.Nodup
 lt:∀ j ∈ js,j<n
theorem Js.le {n:Nat} {js:List Nat} (h:Js n js):js.length≤n:=by
 have:=h.nd.length_le_of_subset (l₂:=List.range n) fun j hj=>List.mem_range.2 (h.lt j hj)
 simpa using this
theorem Js.snoc {n j:Nat} {js:List Nat} (h:Js n js) (hj:j<n) (hn:j ∉ js):Js n (js++[j]) where
 nd:=List.nodup_append.2 ⟨h.nd,by simp,fun a ha b hb e=>by simp at hb;subst hb;exact hn (e ▸ ha)⟩
 lt:=fun i hi=>by
  rcases List.mem_append.1 hi with hi | hi
  ·exact h.lt i hi
  ·simp at hi;omega
theorem Js.all {n:Nat} {js:List Nat} (h:Js n js) (hl:js.length=n) {j:Nat} (hj:j<n):j ∈ js:=by
 refine Classical.byContradiction fun hn=>?_
 have:=(h.snoc hj hn).le
 simp at this;omega
theorem Js.perm {n:Nat} {js:List Nat} (h:Js n js) (hl:js.length=n):js.Perm (List.range n) :=
 (List.perm_ext_iff_of_nodup h.nd List.nodup_range).2 fun j=>⟨fun hj=>List.mem_range.2 (h.lt j hj),fun hj=>h.all hl (List.mem_range.1 hj)⟩
def pickL (l:List Int) (js:List Nat):List Int:=js.map fun j=>l.getD j 0
theorem pickL_range (l:List Int):pickL l (List.range l.length)=l:=by
 refine List.ext_getElem (by simp [pickL]) fun i h1 h2=>?_
 simp [pickL,h2]
theorem pickL_perm {l:List Int} {js:List Nat} (h:Js l.length js) (hl:js.length=l.length):(pickL l js).Perm l:=by
 have:=(h.perm hl).map (fun j=>l.getD j 0)
 rw [show (List.range l.length).map (fun j=>l.getD j 0)=l from pickL_range l] at this
 exact this
def pickB (l:List Nat) (js:List Nat):List Nat:=js.map fun j=>l.getD j 0
theorem mem_pickB {bs js:List Nat} (hnd:bs.Nodup) (hjs:∀ j ∈ js,j<bs.length) {j:Nat} (hj:j<bs.length):bs[j] ∈ pickB bs js↔j ∈ js:=by
 simp only [pickB,List.mem_map]
 constructor
 ·rintro ⟨i,hi,e⟩
  have hil:=hjs i hi
  rw [show bs.getD i 0=bs[i] by simp [List.getD,hil]] at e
  rw [(List.getElem_inj hnd).1 e] at hi
  exact hi
 ·intro h;exact ⟨j,h,by simp [List.getD,hj]⟩
theorem t_Keys1 (ks:List Int) (es:List (D × D)) (hes:es.map (·.1)=ks.map (D.int .i64 ·)) {B:List Box} {L:List Nat} {c n b m:Nat} (hm:B[m]? = some (.cells [.map b])) (hb:B[b]? = some (.map es))
  (J:List Nat→Nat→List Int→List Box→List Nat→Nat→Prop) (h0:∀ bs c0,J bs c0 [] (B.set b (.mapX es bs c0)) L c) (hJ:∀ bs c0 out C L c,J bs c0 out C L c→C.length=B.length∧C[b]? = some (.mapX es bs c0))
  (step:∀ bs c0 out C L c x it,J bs c0 out C L c→out.length<ks.length→YSemQ Tryz.prog n [.int .i64 x] ⟨C++[it],L,c⟩ fun r s1=>r=.bool true∧∃ C' L' c',J bs c0 (out++[x]) C' L' c'∧s1=⟨C'++[it],L',c'⟩) :
  SpecQ Tryz.prog 103 [.yield n,.box m 0] ⟨B,L,c⟩ fun r s=>r=.tup []∧∃ bs c0 out C L' c' it,out.Perm ks∧J bs c0 out C L' c'∧s=⟨C++[it],L',c'⟩:=by
 have hmb:m≠b:=by rintro rfl;rw [hm] at hb;cases hb
 have hel:es.length=ks.length:=by have:=congrArg List.length hes;simpa using this
 have hek:∀ (j:Nat) (h:j<es.length) (h2:j<ks.length),es[j].1=.int .i64 ks[j]:=fun j h h2=>by
  have:=congrArg (fun l=>l[j]?) hes
  simpa [h,h2] using this
 refine SpecQ.introA [] Tryz.func103 rfl (by decide) hmix (by kernel_rfl) [] 14 rfl rfl ?_
 simp only [vqM,vt101,zA,zS,vsIt,hm]
 refine rangeI_intro (by rfl) hb fun bs c0 q1 q2 q3=>?_
 simp only [vqM]
 refine kc9 [0,5] ?_
 simp only [vke,zB,zA]
 refine km9 hmix ks.length (fun k e s=>∃ js C L' c',Js ks.length js∧js.length=k∧J bs c0 (pickL ks js) C L' c'∧e=[.yield n,Jk,Jk,Jk,Jk,.box B.length 0,Jk,Jk,Jk,Jk,Jk,Jk,Jk,Jk]∧s=⟨C++[.iter b c0 (pickB bs js)],L',c'⟩) ?_ ?_ 0 _ _ (Nat.zero_le _) ⟨[],_,_,_,⟨.nil,by simp⟩,rfl,h0 bs c0,rfl,rfl⟩
 ·rintro k e s hk ⟨js,C,L',c',hjs,hjl,hJc,rfl,rfl⟩ ih
  obtain ⟨hCl,hCb⟩:=hJ _ _ _ _ _ _ hJc
  have hi:(C++[Box.iter b c0 (pickB bs js)])[B.length]? = some (.iter b c0 (pickB bs js)):=by rw [← hCl];simp
  have hbl:=(List.getElem?_eq_some_iff.1 hCb).1
  have hm2:(C++[Box.iter b c0 (pickB bs js)])[b]? = some (.mapX es bs c0):=by rw [List.getElem?_append_left hbl];exact hCb
  simp only [vqM,vsIt]
  refine nextI_intro hi hm2 q3 (fun j hj hjb hns=>?_) (fun hall=>?_)
  ·have hset:(C++[Box.iter b c0 (pickB bs js)]).set B.length (Box.iter b c0 (pickB bs js++[bs[j]]))=C++[.iter b c0 (pickB bs js++[bs[j]])]:=by rw [← hCl];simp
   have hjk:j<ks.length:=by omega
   have hjn:j ∉ js:=fun h=>hns ((mem_pickB q2 (fun i hi=>by have:=hjs.lt i hi;omega) hjb).2 h)
   have hpb:pickB bs js++[bs[j]]=pickB bs (js++[j]):=by simp [pickB,List.getD,hjb]
   have hpl:pickL ks js++[ks[j]]=pickL ks (js++[j]):=by simp [pickL,List.getD,hjk]
   dsimp only
   rw [hset]
   have hi2:(C++[Box.iter b c0 (pickB bs js++[bs[j]])])[B.length]? = some (.iter b c0 (pickB bs js++[bs[j]])):=by rw [← hCl];simp
   have hm3:(C++[Box.iter b c0 (pickB bs js++[bs[j]])])[b]? = some (.mapX es bs c0):=by rw [List.getElem?_append_left hbl];exact hCb
   have hst:=step bs c0 (pickL ks js) C L' c' ks[j] (.iter b c0 (pickB bs js++[bs[j]])) hJc (by simp [pickL];omega)
   have hk1:=hek j hj hjk
   simp only [vqM,vsIt]
   refine entryI_intro hi2 hm3 hj hjb (by simp) ?_
   rw [hk1]
   simp only [vqM]
   refine callI_ofQ (f:=.yield n) (show CallVQ _ (.yield n) _ _ _ from hst) ?_
   rintro r s1 ⟨rfl,C2,L2,c2,hJ2,rfl⟩
   simp only [vqM]
   refine kc9 [0,5] ?_
   simp only [vke,zB,zA]
   rw [hpl] at hJ2
   rw [hpb]
   exact ih _ _ ⟨js++[j],C2,L2,c2,hjs.snoc hjk hjn,by simp [hjl],hJ2,rfl,rfl⟩
  ·exfalso
   have:List.range ks.length ⊆ js:=fun j hj=>by
    have hj:=List.mem_range.1 hj
    have hjb:j<bs.length:=by omega
    exact (mem_pickB q2 (fun i hi=>by have:=hjs.lt i hi;omega) hjb).1 (hall _ (List.getElem_mem hjb))
   have:=List.nodup_range.length_le_of_subset this
   simp at this;omega
 ·rintro e s ⟨js,C,L',c',hjs,hjl,hJc,rfl,rfl⟩
  obtain ⟨hCl,hCb⟩:=hJ _ _ _ _ _ _ hJc
  have hi:(C++[Box.iter b c0 (pickB bs js)])[B.length]? = some (.iter b c0 (pickB bs js)):=by rw [← hCl];simp
  have hbl:=(List.getElem?_eq_some_iff.1 hCb).1
  have hm2:(C++[Box.iter b c0 (pickB bs js)])[b]? = some (.mapX es bs c0):=by rw [List.getElem?_append_left hbl];exact hCb
  simp only [vqM,vsIt]
  refine nextI_intro hi hm2 q3 (fun j hj hjb hns=>?_) (fun hall=>?_)
  ·exact absurd ((mem_pickB q2 (fun i hi=>by have:=hjs.lt i hi;omega) hjb).2 (hjs.all hjl (by omega))) hns
  ·simp only [vqM]
   refine retA (.inl rfl) (r:=.tup []) ?_ ⟨rfl,bs,c0,_,C,L',c',_,pickL_perm hjs hjl,hJc,rfl⟩
   simp only [vqM]
   rfl
theorem range_keys {X:Draws} {f:Operand} {ps:List Tmp} {asg bo:Code} {Q:QC} {e:List D} {B:List Box} {L:List Nat} {n m b:Nat} (ks:List Int) (es:List (D × D)) (hes:es.map (·.1)=ks.map (D.int .i64 ·)) (I:List Nat→Nat→List Int→List Box→List Nat→Nat→Prop)
  (hf:val e f=.func (.func 103) [] [.box m 0]) (hm:B[m]? = some (.cells [.map b])) (hb:B[b]? = some (.map es))
  (hI0:∀ bs c0,I bs c0 [] (B.set b (.mapX es bs c0)) L n) (hI:∀ bs c0 out C L c,I bs c0 out C L c→C.length=B.length∧C[b]? = some (.mapX es bs c0))
  (step:qx9 X asg=true→qx9 X bo=true→∀ bs c0 out C L c x it,I bs c0 out C L c→out.length<ks.length→YSemQ Tryz.prog B.length [.int .i64 x] ⟨C++.loop ps asg bo e .ready none::[it],L,c⟩ fun r s1=>r=.bool true∧∃ C' L' c',I bs c0 (out++[x]) C' L' c'∧s1=⟨C'++.loop ps asg bo e .ready none::[it],L',c'⟩)
  (hend:∀ bs c0 out C L c it,out.Perm ks→I bs c0 out C L c→@qI .normal e ⟨C.set b (.map es)++.dead::[it],L,c⟩ Q):@AWNI X none Tryz.prog (.rangeFunc f ps.toArray asg bo) e ⟨B,L,n⟩ Q:=by
 have hbl:=(List.getElem?_eq_some_iff.1 hb).1
 have key:qx9 X asg=true→qx9 X bo=true→SpecQ Tryz.prog 103 [.yield B.length,.box m 0] ⟨B++[.loop ps asg bo e .ready none],L,n⟩ fun r s=>∃ bs c0 out C L' c' it,out.Perm ks∧I bs c0 out C L' c'∧s=⟨C.set b (.map es)++.loop ps asg bo e .ready none::[it],L',c'⟩:=by
  intro q1 q2
  refine SpecQ.unMapX (t_Keys1 ks es hes (B:=B++[.loop ps asg bo e .ready none]) (kx9 hm) (kx9 hb) (fun bs c0 out C L' c'=>∃ C0,I bs c0 out C0 L' c'∧C=C0++[.loop ps asg bo e .ready none]) (fun bs c0=>⟨_,hI0 bs c0,by rw [List.set_append_left _ _ hbl]⟩) ?_ ?_) ?_
  ·rintro bs c0 out C L c ⟨C0,h,rfl⟩
   obtain ⟨h1,h2⟩:=hI _ _ _ _ _ _ h
   exact ⟨by simp [h1],kx9 h2⟩
  ·rintro bs c0 out C L c x it ⟨C0,h,rfl⟩ hlt
   have:=step q1 q2 bs c0 out C0 L c x it h hlt
   simp only [List.append_assoc,List.cons_append,List.nil_append] at this ⊢
   refine CallVQ.mono (show CallVQ _ (.yield B.length) _ _ _ from this) ?_
   rintro r s1 ⟨rfl,C',L',c',h',rfl⟩
   exact ⟨rfl,_,L',c',⟨C',h',rfl⟩,by simp⟩
  ·rintro r t ⟨rfl,bs,c0,out,C,L',c',it,hp,⟨C0,h,rfl⟩,rfl⟩
   obtain ⟨h1,h2⟩:=hI _ _ _ _ _ _ h
   have h3:=(List.getElem?_eq_some_iff.1 h2).1
   refine ⟨b,es,bs,c0,?_,bs,c0,out,C0,L',c',it,hp,h,?_⟩
   ·simp only [List.append_assoc];exact kx9 h2
   ·simp only [List.append_assoc,List.cons_append,List.nil_append]
    rw [List.set_append_left _ _ h3]
 refine awN_rangeFuncQ hf key ?_
 ·rintro r s1 ⟨bs,c0,out,C,L',c',it,hp,h,rfl⟩
  obtain ⟨h1,h2⟩:=hI _ _ _ _ _ _ h
  have hl:(C.set b (Box.map es)).length=B.length:=by simp [h1]
  refine ⟨.ready,none,by rw [← hl,wd9];rfl,by simp,?_⟩
  have:=hend bs c0 out C L' c' it hp h
  show @qI .normal e ⟨(C.set b (Box.map es)++.loop ps asg bo e .ready none::[it]).set B.length .dead,_,_⟩ Q
  rw [← hl,box_set0]
  exact this
theorem leave_app {B X:List Box} {L L':List Nat} {c c':Nat} (hl:∀ k,k ∈ L→k ∈ L') (hc:c≤c'):Leave ⟨B,L,c⟩ ⟨B++X,L',c'⟩ ⟨B,L,c⟩ where
 len:=by simp
 pre:=fun i bx h=>kx9 h
 old:=fun i bx h=>.inl h
 slen:=Nat.le_refl _
 live:=fun k hk=>⟨hl k hk,.inl hk⟩
 ctr:=Nat.le_refl _
 ctr':=hc
 nd:=.inl rfl
theorem t_AppendSeq (ks:List Int) (es:List (D × D)) (hes:es.map (·.1)=ks.map (D.int .i64 ·)) (hn:ks.length≤100000) {B:List Box} {L:List Nat} {c m b:Nat} (hm:B[m]? = some (.cells [.map b])) (hb:B[b]? = some (.map es)) (hW0:WfL L c) :
  SpecQ Tryz.prog 102 [.slice .nil [],.func (.func 103) [] [.box m 0]] ⟨B,L,c⟩ fun r t=>(∃ out,out.Perm ks∧r=.slice .none (intCells out))∧t=⟨B,L,c⟩:=by
 have hbl:=(List.getElem?_eq_some_iff.1 hb).1
 have hset:B.set b (.map es)=B:=by
  refine List.ext_getElem? fun i=>?_
  by_cases e:i=b
  ·subst e;rw [List.getElem?_set_self hbl,hb]
  ·rw [List.getElem?_set_ne (fun h=>e h.symm)]
 refine SpecQ.letQ (Z:=fun r t=>∃ out o L' c' it,out.Perm ks∧r=.slice .none (intCells out)∧OutO L c 1 o L' c'∧t=⟨B++[.cells [.slice o (intCells out)],.dead,it],L',c'⟩) ?_ ?_
 ·refine SpecQ.introA [] Tryz.func102 rfl (by decide) hmix (by kernel_rfl) [ResultVar.tmp 4] 13 rfl rfl ?_
  simp only [vqM,zA,zS]
  refine range_keys (m:=m) (b:=b) ks es hes (fun bs c0 out C L' c'=>∃ o,OutO L c 1 o L' c'∧C=B.set b (.mapX es bs c0)++[.cells [.slice o (intCells out)]]) rfl (kx9 hm) (kx9 hb) (fun bs c0=>⟨.nil,.start hW0 1,by rw [List.set_append_left _ _ hbl];rfl⟩) ?_ ?_ ?_
  ·rintro bs c0 out C L' c' ⟨o,hO,rfl⟩
   refine ⟨by simp,?_⟩
   rw [List.getElem?_append_left (by simpa using hbl),List.getElem?_set_self hbl]
  ·rintro q1 q2 bs c0 out C L' c' x it ⟨o,hO,rfl⟩ hlt
   obtain ⟨B1,hB1⟩:∃ B1,B1=B.set b (.mapX es bs c0):=⟨_,rfl⟩
   have hl:B1.length=B.length:=by rw [hB1];simp
   rw [← hB1,← hl,show (B++[Box.cells [D.slice Own.nil []]]).length=B1.length+1 by simp [hl]]
   have hof:∀ B',qa9 o (intCells out) 1 ⟨B',L',c'⟩=true:=fun B'=>hO.lv.fits (qb9 _) B' c'
   have hl1:(out.length+1≤1000000)=True:=eq_true (by omega)
   refine YSemQ.introA hmix q1 q2 (pd:=none) (by rw [List.append_assoc,wi9];rfl) (by rfl) fun l=>?_
   clear q1 q2
   simp only [vqM,putArgs]
   refine qI_assignA (pd1:=none) (by simp only [vqM]) ?_
   simp only [vqM,vt25,zA,zM,zL,hof,qg9,kd9,hl1,qq9]
   refine ww9 (st:=.busy) (pd:=none) (by simp only [vqM]) ?_
   refine ⟨rfl,_,_,_,⟨_,hO.step hW0,rfl⟩,?_⟩
   simp only [vqM]
  ·rintro bs c0 out C L' c' it hp ⟨o,hO,rfl⟩
   rw [List.set_append_left _ _ (by simpa using hbl),List.set_set,hset]
   simp only [vqM,vt25]
   refine retA (.inr rfl) ?_ ⟨out,o,L',c',it,hp,rfl,hO,rfl⟩
   simp only [vqM]
 ·rintro r t ⟨out,o,L',c',it,hp,rfl,hO,rfl⟩
  exact ⟨_,weak_refl _,xx9 _,⟨out,hp,rfl⟩,leave_app hO.sub hO.le⟩
theorem t_Collect (ks:List Int) (es:List (D × D)) (hes:es.map (·.1)=ks.map (D.int .i64 ·)) (hn:ks.length≤100000) {B:List Box} {L:List Nat} {c m b:Nat} (hm:B[m]? = some (.cells [.map b])) (hb:B[b]? = some (.map es)) (hW0:WfL L c) :
  SpecQ Tryz.prog 60 [.func (.func 103) [] [.box m 0]] ⟨B,L,c⟩ fun r t=>(∃ out,out.Perm ks∧r=.slice .none (intCells out))∧t=⟨B,L,c⟩:=by
 refine SpecQ.introA [(0,.cut),(1,.cut)] Tryz.func60 rfl (by decide) hmix (by kernel_rfl) [ResultVar.tmp 2] 5 rfl rfl ?_
 simp only [vqM,zA,zS,zB]
 refine seq_go ?_
 simp only [vqM]
 refine awN_seq ?_
 refine awN_callRaw 1 rfl rfl rfl rfl ?_
 simp only [vqM]
 refine kI_raw (ds:=[.slice .nil [],.func (.func 103) [] [.box m 0]]) (by rfl) (by rfl) (show CallVQ _ (.func (.func 102) [] []) _ _ _ from by simpa only [CallVQ,List.nil_append,List.append_nil] using t_AppendSeq ks es hes hn hm hb hW0) ?_
 rintro r t ⟨⟨out,hp,rfl⟩,rfl⟩
 simp only [vqM]
 refine xk9 hmix ?_
 simp only [vqM]
 refine retA (.inr rfl) ?_ ⟨⟨out,hp,rfl⟩,rfl⟩
 simp only [vqM]
theorem t_KeysM (b:Nat) (B:List Box) (L:List Nat) (c:Nat):Spec Tryz.prog 61 [.map b] ⟨B,L,c⟩ (.func (.func 103) [] [.box B.length 0]) ⟨B++[.cells [.map b]],L,c⟩:=by
 show SpecQ _ _ _ _ _
 refine SpecQ.introA [] Tryz.func61 rfl (by decide) hmix (by kernel_rfl) [ResultVar.tmp 2] 4 rfl rfl ?_
 simp only [vqM,zA,zS]
 refine retA (.inr rfl) ?_ ⟨rfl,rfl⟩
 simp only [vqM]
end Go.V
namespace Go.Proofs
open Go.Shelf
def Tryz.laysSort_ren:Go.Shelf.Ren:=⟨fun | 189=>62 | 125=>105 | 257=>104 | 128=>137 | 129=>138 | 294=>128 | 295=>129 | 296=>130 | 297=>131 | 298=>132 | 299=>133 | 216=>134 | 300=>135 | 301=>136 | 328=>163 | 329=>164 | 330=>165 | 331=>166 | 332=>167 | 215=>168 | 343=>185 | n=>n,fun | 28=>31 | 3=>3 | 46=>165 | 0=>0 | 51=>198 | 53=>200 | 4=>4 | 183=>190 | 182=>189 | 131=>195 | 5=>5 | 9=>9 | 218=>227 | 222=>231 | 228=>243 | 229=>244 | n=>n,fun | n=>n⟩
theorem Tryz.laysSort:Go.Proofs.Lays.n189 Tryz.prog Tryz.laysSort_ren:={
 mixed:=by kernel_rfl
 f125:=Tryz.func105.trans (congrArg some (by kernel_rfl))
 f128:=Tryz.func137.trans (congrArg some (by kernel_rfl))
 f129:=Tryz.func138.trans (congrArg some (by kernel_rfl))
 f189:=Tryz.func62.trans (congrArg some (by kernel_rfl))
 f215:=Tryz.func168.trans (congrArg some (by kernel_rfl))
 f216:=Tryz.func134.trans (congrArg some (by kernel_rfl))
 f257:=Tryz.func104.trans (congrArg some (by kernel_rfl))
 f294:=Tryz.func128.trans (congrArg some (by kernel_rfl))
 f295:=Tryz.func129.trans (congrArg some (by kernel_rfl))
 f296:=Tryz.func130.trans (congrArg some (by kernel_rfl))
 f297:=Tryz.func131.trans (congrArg some (by kernel_rfl))
 f298:=Tryz.func132.trans (congrArg some (by kernel_rfl))
 f299:=Tryz.func133.trans (congrArg some (by kernel_rfl))
 f300:=Tryz.func135.trans (congrArg some (by kernel_rfl))
 f301:=Tryz.func136.trans (congrArg some (by kernel_rfl))
 f328:=Tryz.func163.trans (congrArg some (by kernel_rfl))
 f329:=Tryz.func164.trans (congrArg some (by kernel_rfl))
 f330:=Tryz.func165.trans (congrArg some (by kernel_rfl))
 f331:=Tryz.func166.trans (congrArg some (by kernel_rfl))
 f332:=Tryz.func167.trans (congrArg some (by kernel_rfl))
 f343:=Tryz.func185.trans (congrArg some (by kernel_rfl))
 t0:=Tryz.underlying0
 a0:=Tryz.isAgg0
 z0:=Tryz.sizeOf0
 v0:=Tryz.zeroValue0
 t3:=Tryz.underlying3
 a3:=Tryz.isAgg3
 z3:=Tryz.sizeOf3
 v3:=Tryz.zeroValue3
 t4:=Tryz.underlying4
 a4:=Tryz.isAgg4
 z4:=Tryz.sizeOf4
 v4:=Tryz.zeroValue4
 t5:=Tryz.underlying5
 a5:=Tryz.isAgg5
 z5:=Tryz.sizeOf5
 v5:=Tryz.zeroValue5
 t9:=Tryz.underlying9
 a9:=Tryz.isAgg9
 z9:=Tryz.sizeOf9
 v9:=Tryz.zeroValue9
 t28:=Tryz.underlying31
 a28:=Tryz.isAgg31
 z28:=Tryz.sizeOf31
 v28:=Tryz.zeroValue31
 t46:=Tryz.underlying165
 a46:=Tryz.isAgg165
 z46:=Tryz.sizeOf165
 v46:=Tryz.zeroValue165
 t51:=Tryz.underlying198
 a51:=Tryz.isAgg198
 z51:=Tryz.sizeOf198
 v51:=Tryz.zeroValue198
 t53:=Tryz.underlying200
 a53:=Tryz.isAgg200
 z53:=Tryz.sizeOf200
 v53:=Tryz.zeroValue200
 t131:=Tryz.underlying195
 a131:=Tryz.isAgg195
 z131:=Tryz.sizeOf195
 v131:=Tryz.zeroValue195
 t182:=Tryz.underlying189
 a182:=Tryz.isAgg189
 z182:=Tryz.sizeOf189
 v182:=Tryz.zeroValue189
 t183:=Tryz.underlying190
 a183:=Tryz.isAgg190
 z183:=Tryz.sizeOf190
 v183:=Tryz.zeroValue190
 t218:=Tryz.underlying227
 a218:=Tryz.isAgg227
 z218:=Tryz.sizeOf227
 v218:=Tryz.zeroValue227
 t222:=Tryz.underlying231
 a222:=Tryz.isAgg231
 z222:=Tryz.sizeOf231
 v222:=Tryz.zeroValue231
 t228:=Tryz.underlying243
 a228:=Tryz.isAgg243
 z228:=Tryz.sizeOf243
 v228:=Tryz.zeroValue243
 t229:=Tryz.underlying244
 a229:=Tryz.isAgg244
 z229:=Tryz.sizeOf244
 v229:=Tryz.zeroValue244 }
end Go.Proofs
namespace Go.V
open Go.Proofs Go.Sort
set_option maxRecDepth 20000
set_option maxHeartbeats 4000000
theorem t_SortK (l:List Int) {b:Nat} {B:List Box} {L:List Nat} {c:Nat} (hb:B[b]? = some (.cells (ints l))) (hn:l.length≤1000000):SpecQ Tryz.prog 62 [.row b 0 l.length 1] ⟨B,L,c⟩
  fun r s=>r=.tup []∧s=⟨B.set b (.cells (ints (xw9 l))),L,c⟩:=by
 intro vs w g ha hw
 refine ⟨enters_of Tryz.func62 (by decide) rfl,?_⟩
 have hsz:vs.size=1:=ha.1.symm
 have hR:=ha.2 0 (by simp) (by omega)
 simp only [List.getElem_cons_zero] at hR
 generalize hv:vs[0]=v at hR
 have hvs:vs = #[v]:=by
  refine Array.ext (by simp [hsz]) fun i h1 h2=>?_
  have:i=0:=by simp at h2;omega
  subst this;simpa using hv
 subst hvs
 obtain ⟨blk,arr,T,fr,q1,q2,q3,q4,q5,rfl⟩:=hw.box b _ hb
 cases hR with
 | row _ _ _ _ blk' m cap hB hS hcap hmax hz hm =>
  rw [q1] at hB;cases hB
  have hil:(ints l).length=l.length:=by simp [ints]
  have hH:Holds (Value.int .i64) w blk 0 l.toArray:=by
   intro j hj
   have hjl:j<l.length:=by simpa using hj
   have hja:j<arr.size:=by omega
   have h1:=(q4 j (by omega) hja).1
   have h2:(ints l)[j]'(by omega)=.int .i64 l[j]:=by simp [ints]
   rw [h2] at h1
   have h3':∀ x:Value,R g (.int .i64 l[j]) x→x=.int .i64 l[j]:=fun x h=>by cases h;rfl
   have h3:arr[j]=.int .i64 l[j]:=h3' _ h1
   have h4:l.toArray[j]! = l[j]:=getElem!_pos l.toArray j hj
   refine ⟨?_,?_⟩
   ·simp only [World.cell?,q2,Nat.zero_add]
    rw [h4,← h3]
    simp [hja]
   ·simp [World.frozen?,q2]
  have hblk:blk<w.heap.size:=wa9 q2
  have hc:Calls Tryz.prog 62 #[.slice (some ⟨blk,0,none⟩) l.length cap] w fun e w'=>e=.returned (.tuple #[])∧∃ n os,w'=grow (putRow (Value.int .i64) (Sort.ahead w n) blk 0 (l.mergeSort fun x y=>decide (x≤y)).toArray) os :=
   calls_of_every_depth fun D=>AnyS.slices_Sort_int_alone Tryz.laysSort D blk 0 cap l w hH hblk (by omega)
  refine CallsIn.mono ((callsIn_wide (n:=0)).2 hc) fun e w' h=>?_
  obtain ⟨rfl,n,os,rfl⟩:=h
  have hsl:(l.mergeSort fun x y=>decide (x≤y)).length=l.length:=(List.mergeSort_perm _ _).length_eq
  obtain ⟨arr',e1,e2,e3,e4,e5,e6,e7,e8⟩:=sorted_heap (n:=n) (os:=os) (ys:=l.mergeSort fun x y=>decide (x≤y)) q2 (by omega)
  refine ⟨_,g,.tup [],_,⟨rfl,rfl⟩,rfl,.refl g,?_,.tup _ _ rfl fun i h1=>by simp at h1⟩
  refine hw.swap (b:=b) hb q1 q2 e1 e2 e4 e5 e6 e7 e8 (by simp [ints,xw9]) fun j h1 h2=>?_
  have hj:j<(l.mergeSort fun x y=>decide (x≤y)).length:=by simpa [ints,xw9] using h1
  rw [e3 j hj h2]
  have:(ints (xw9 l))[j]=.int .i64 (l.mergeSort fun x y=>decide (x≤y))[j]:=by simp [ints,xw9]
  rw [this]
  exact ⟨.int _ _,rfl⟩
open Go.Proofs
structure Ms where
 b:Nat
 es:List (D × D)
 ks:List Int
def Ms.cells (l:List Ms):List (List D):=l.map fun x=>[.map x.b]
structure Ms.Ok (B:List Box) (x:Ms):Prop where
 bx:B[x.b]? = some (.map x.es)
 ks:x.es.map (·.1)=x.ks.map (D.int .i64 ·)
 ln:x.ks.length≤1000
 ne:x.ks≠[]
def RowK (B:List Box) (row:D) (l:List Int) (X:List Box):Prop :=
 (row=.row0∧l=[]) ∨ ∃ j,row=.row (B.length+j) 0 l.length 1∧l≠[]∧X[j]? = some (.cells (ints l))
def allK (l:List Ms):List Int:=l.flatMap (·.ks)
theorem sortI_congrK {l m:List Int} (h:l.Perm m):xw9 l=xw9 m :=
 sortI_of (((List.mergeSort_perm _ _:(xw9 l).Perm l)).trans h) ((List.pairwise_mergeSort (fun a b c h1 h2=>by simp at *;omega) (fun a b=>by simp;omega) l).imp fun h=>by simpa using h)
theorem ints_flat (l:List Int):(intCells l).flatten=ints l:=by induction l <;> simp_all [intCells,ints]
theorem ints_app (l m:List Int):ints (l++m)=ints l++ints m:=by simp [ints]
theorem allK_len:∀ {ms:List Ms} {k:Nat},(∀ x ∈ ms,x.ks.length≤1000)→ms.length≤k→(allK ms).length≤1000 * k
 | [],k,_,_=>by simp [allK]
 | x::ms,k,h,hk=>by
  have h1:=h x (by simp)
  simp only [List.length_cons] at hk
  have h2:=allK_len (ms:=ms) (k:=k - 1) (fun y hy=>h y (by simp [hy])) (by omega)
  have:allK (x::ms)=x.ks++allK ms:=by simp [allK]
  rw [this,List.length_append]
  omega
theorem t_keys (ms:List Ms) (B:List Box) (hms:∀ x ∈ ms,x.Ok B) (hl:ms.length≤10) (hne:ms≠[]) (L:List Nat) (c:Nat) (hW0:WfL L c) :
  SpecQ Tryz.prog 33 [.slice .none (Ms.cells ms)] ⟨B,L,c⟩ fun r s=>∃ b cs X,r=.row (B.length+b) 0 (compL (xw9 (allK ms))).length 1∧X[b]? = some (.cells cs)∧cs.take (compL (xw9 (allK ms))).length=ints (compL (xw9 (allK ms)))∧s=⟨B++X,L,c⟩:=by
 have hcl:(Ms.cells ms).length=ms.length:=by simp [Ms.cells]
 refine SpecQ.introA [(1,.cut)] Tryz.func33 rfl (by decide) hmix (by kernel_rfl) [ResultVar.tmp 2] 22 rfl rfl ?_
 simp only [vqM,zA,zS,zB]
 refine seq_go ?_
 simp only [vqM]
 refine awN_gh (gh_slot 3 (d:=.slice .nil []) rfl weak_nil) ?_
 refine xk9 hmix ?_
 simp only [vqM,vt103,zB,hcl]
 refine kc9 [3,6,7,8] ?_
 simp only [vke,zB,zA]
 refine km9 hmix ms.length (fun k e s=>∃ row l X,l.Perm (allK (ms.take k))∧RowK B row l X∧e=[Jk,Jk,Jk,row,Jk,Jk,.slice .none (Ms.cells ms),.int .i64 ms.length,.int .i64 (k:Int),Jk,Jk,Jk,Jk,Jk,Jk,Jk,Jk,Jk,Jk,Jk,Jk,Jk]∧s=⟨B++X,L,c⟩) ?_ ?_ 0 _ _ (Nat.zero_le _) ⟨.row0,[],[],.nil,.inl ⟨rfl,rfl⟩,rfl,by simp⟩
 ·rintro k e s hk ⟨row,l,X,hp,hrow,rfl,rfl⟩ ih
  have hx:ms[k]? = some ms[k]:=List.getElem?_eq_getElem hk
  have hok:=hms _ (List.getElem_mem hk)
  have hg:(Ms.cells ms)[k]? = some [.map ms[k].b]:=by simp [Ms.cells,hx]
  have hklt:((k:Int)<(ms.length:Int))=True:=by simp;exact hk
  have hnext:allK (ms.take (k+1))=allK (ms.take k)++ms[k].ks:=by rw [allK,List.take_add_one,hx,List.flatMap_append];simp [allK]
  generalize ms[k]=x at hx hok hg hnext
  simp only [vqM,vt103,zA,zB,hklt,decide_true,natle0,Int.toNat_natCast,hg]
  refine ka9 (t_KeysM x.b _ _ _) ?_
  simp only [vqM]
  refine qo9 (t_Collect x.ks x.es hok.ks (by have:=hok.ln;omega) (m:=B.length+X.length) (b:=x.b) ?_ ?_ hW0) ?_
  ·rw [← List.append_assoc,List.getElem?_append_right (by simp)];simp
  ·exact kx9 hok.bx
  rintro r t ⟨⟨out,ho,rfl⟩,rfl⟩
  have hol:out.length=x.ks.length:=ho.length_eq
  have hpos:0<out.length:=by have:=hok.ne;have:=List.length_pos_iff.2 this;omega
  have hxl:=hok.ln
  rcases hrow with ⟨rfl,rfl⟩ | ⟨j,rfl,hl0,hXj⟩
  ·simp only [vqM,vt103]
   refine apZ2_intro (by decide) (qb9 _) (by rw [kd9];exact hpos) (by rw [kd9];omega) ?_
   rw [kd9,ints_flat]
   simp only [vqM,zA]
   rw [kf9 (by omega)]
   refine kc9 [3,6,7,8] ?_
   simp only [vke,zB,zA]
   refine ih _ _ ⟨_,out,X++([.cells [.map x.b],.cells (ints out)]:List Box),?_,.inr ⟨X.length+1,?_,?_,?_⟩,rfl,?_⟩
   ·rw [hnext]
    have h0:allK (ms.take k)=[]:=List.length_eq_zero_iff.1 (by have:=hp.length_eq;simpa using this.symm)
    rw [h0];exact ho
   ·simp
   ·exact List.length_pos_iff.1 hpos
   ·rw [List.getElem?_append_right (by omega)];simp
   ·simp
  ·have hXj2:∀ Z,(X++Z)[j]? = some (.cells (ints l)):=fun Z=>kx9 hXj
   have hll:l.length≤1000 * k:=by
    rw [hp.length_eq]
    exact allK_len (fun y hy=>(hms y (List.mem_of_mem_take hy)).ln) (by simp;omega)
   have g1:((ints l).length=l.length * 1)=True:=by simp [ints]
   have g2:(l.length+out.length≤1000000)=True:=eq_true (by omega)
   have g3:(∀ c ∈ intCells out,c.length=1)=True:=eq_true (qb9 _)
   have g4:ints l++(intCells out).flatten=ints (l++out):=by rw [ints_flat,ints_app]
   simp only [vqM,vt103,zA,zL,hXj2,kd9,g1,g2,g3,g4]
   rw [kf9 (by omega)]
   refine kc9 [3,6,7,8] ?_
   simp only [vke,zB,zA]
   have hjl:=(List.getElem?_eq_some_iff.1 hXj).1
   refine ih _ _ ⟨_,l++out,(X++[Box.cells [.map x.b]]).set j .dead++[.cells (ints (l++out))],?_,.inr ⟨X.length+1,?_,?_,?_⟩,rfl,?_⟩
   ·rw [hnext];exact hp.append ho
   ·simp
   ·intro h;exact hl0 (List.append_eq_nil_iff.1 h).1
   ·rw [List.getElem?_append_right (by simp)];simp
   ·simp
 ·rintro e s ⟨row,l,X,hp,hrow,rfl,rfl⟩
  have hklt:((ms.length:Int)<(ms.length:Int))=False:=by simp
  rw [List.take_length] at hp
  have hll:l.length≤1000 * ms.length:=by
   rw [hp.length_eq]
   exact allK_len (fun y hy=>(hms y hy).ln) (Nat.le_refl _)
  have hs:xw9 l=xw9 (allK ms):=sortI_congrK hp
  rcases hrow with ⟨rfl,rfl⟩ | ⟨j,rfl,hl0,hXj⟩
  ·exfalso
   obtain ⟨x,ms',rfl⟩:=List.exists_cons_of_ne_nil hne
   have h1:=(hms x (by simp)).ne
   have h2:=hp.length_eq
   simp [allK] at h2
   exact h1 (List.length_eq_zero_iff.1 (by omega))
  ·have hjl:=(List.getElem?_eq_some_iff.1 hXj).1
   have hXj2:(B++X)[B.length+j]? = some (.cells (ints l)):=by rw [List.getElem?_append_right (by omega),Nat.add_sub_cancel_left];exact hXj
   have hset:∀ y,(B++X).set (B.length+j) y=B++X.set j y:=fun y=>by rw [List.set_append_right _ _ (by omega),Nat.add_sub_cancel_left]
   have hsl:(xw9 l).length=l.length:=(List.mergeSort_perm _ _).length_eq
   have hpos:0<l.length:=List.length_pos_iff.2 hl0
   simp only [vqM,zB,hklt,decide_false]
   refine qo9 (t_SortK l hXj2 (by omega)) ?_
   rintro r t ⟨rfl,rfl⟩
   rw [hset]
   simp only [vqM,zB]
   rw [← hsl]
   refine qo9 (t_CompactAt (xw9 l) (b:=B.length+j) (by rw [List.getElem?_append_right (by omega),Nat.add_sub_cancel_left,List.getElem?_set_self hjl]) (by omega) (by omega)) ?_
   rintro r t ⟨cs,rfl,hcs,rfl⟩
   rw [List.set_append_right _ _ (by omega),Nat.add_sub_cancel_left,List.set_set]
   simp only [vqM]
   rw [hs] at hcs ⊢
   refine retA (.inr rfl) (r:=.row (B.length+j) 0 (compL (xw9 (allK ms))).length 1) ?_ ⟨j,cs,_,rfl,by rw [List.getElem?_set_self hjl],hcs,rfl⟩
   simp only [vqM]
def openE (p:Pg) (h:Hd):En:=⟨true,(findS p h.id).isSome,h,(findS p h.id).getD Df.zero,Dc.zero,[]⟩
def entE (p:Pg) (id:Int):En :=
 if id=0 then ⟨false,false,Hd.zero,Df.zero,p.d,p.threads⟩ else
 match headS p id with
 | none=>En.zero
 | some h=>openE p h
def idsS (p:Pg):List Int:=0::p.heads.map (·.id)
def keysS (l:List Pg):List Int:=compL (xw9 (l.flatMap idsS))
def wy9 (p q:Pg):List Int:=(keysS [p,q]).filter fun id=>!decide (entE p id=entE q id)
def agreeE (x y z:En):Bool:=decide (y=z) || decide (x=z) || decide (x=y)
def pickE (x y z:En):En:=if decide (y=z) || decide (x=z) then y else if decide (x=y) then z else y
def addE (o:Pg) (id:Int) (e:En):Pg :=
 {d:=if id=0 then e.decl else o.d,threads:=if id=0 then e.threads else o.threads,heads:=if e.head then o.heads++[e.h] else o.heads,defs:=if e.opn then o.defs++[e.d] else o.defs }
def pickAt (p a b:Pg) (id:Int):En:=pickE (entE p id) (entE a id) (entE b id)
def foldE (f:Int→En) (l:List Int):Pg:=l.foldl (fun o id=>addE o id (f id)) Pg.zero
def wu9 (p a b:Pg):Pg:=foldE (pickAt p a b) (keysS [p,a,b])
def conflS (p a b:Pg):List Int:=(keysS [p,a,b]).filter fun id=>!agreeE (entE p id) (entE a id) (entE b id)
def threeS (p a b:Pg):Pg × List Int × Int :=
 if (conflS p a b).length > 0 then (Pg.zero,conflS p a b,270) else if wf9 (wu9 p a b)≠0 then (Pg.zero,[],wf9 (wu9 p a b)) else (wu9 p a b,[],0)
theorem sortI_perm (l:List Int):(xw9 l).Perm l:=List.mergeSort_perm _ _
theorem sortI_sorted (l:List Int):(xw9 l).Pairwise (· ≤ ·):=(List.pairwise_mergeSort (fun a b c h1 h2=>by simp at *;omega) (fun a b=>by simp;omega) l).imp fun h=>by simpa using h
theorem compL_lt:∀ l:List Int,l.Pairwise (· ≤ ·)→(compL l).Pairwise (· < ·)
 | [],_=>by simp [compL]
 | [x],_=>by simp [compL]
 | x::y::l,h=>by
  obtain ⟨h1,h2⟩:=List.pairwise_cons.1 h
  have ih:=compL_lt (y::l) h2
  simp only [compL]
  split
  ·exact ih
  ·rename_i hne
   refine List.pairwise_cons.2 ⟨fun z hz=>?_,ih⟩
   have hz':=(mem_compL z (y::l)).1 hz
   have hxy:=h1 y (by simp)
   rcases List.mem_cons.1 hz' with rfl | hz'
   ·omega
   ·have:=(List.pairwise_cons.1 h2).1 z hz';omega
theorem keys_lt (l:List Pg):(keysS l).Pairwise (· < ·):=compL_lt _ (sortI_sorted _)
theorem mem_keys {l:List Pg} {id:Int}:id ∈ keysS l ↔ ∃ p ∈ l,id ∈ idsS p:=by
 rw [keysS,mem_compL,(sortI_perm _).mem_iff,List.mem_flatMap]
theorem lt_ext:∀ {l m:List Int},l.Pairwise (· < ·)→m.Pairwise (· < ·)→(∀ x,x ∈ l↔x ∈ m)→l=m
 | [],[],_,_,_=>rfl
 | [],y::m,_,_,h=>absurd ((h y).2 (by simp)) (by simp)
 | x::l,[],_,_,h=>absurd ((h x).1 (by simp)) (by simp)
 | x::l,y::m,h1,h2,h=>by
  obtain ⟨a1,a2⟩:=List.pairwise_cons.1 h1
  obtain ⟨b1,b2⟩:=List.pairwise_cons.1 h2
  have e:x=y:=by
   have m1:=(h x).1 (by simp)
   have m2:=(h y).2 (by simp)
   rcases List.mem_cons.1 m1 with e | m1
   ·exact e
   ·rcases List.mem_cons.1 m2 with e | m2
    ·exact e.symm
    ·have:=a1 y m2;have:=b1 x m1;omega
  subst e
  refine congrArg _ (lt_ext a2 b2 fun z=>?_)
  have hz:=h z
  constructor
  ·intro hm
   have:=a1 z hm
   rcases List.mem_cons.1 (hz.1 (by simp [hm])) with e | e
   ·omega
   ·exact e
  ·intro hm
   have:=b1 z hm
   rcases List.mem_cons.1 (hz.2 (by simp [hm])) with e | e
   ·omega
   ·exact e
theorem foldE_heads (f:Int→En):∀ (l:List Int) (o:Pg),(l.foldl (fun o id=>addE o id (f id)) o).heads=o.heads++l.filterMap fun id=>if (f id).head then some (f id).h else none
 | [],o=>by simp
 | id::l,o=>by
  rw [List.foldl_cons,foldE_heads f l,List.filterMap_cons]
  cases h:(f id).head <;> simp [addE,h]
theorem foldE_defs (f:Int→En):∀ (l:List Int) (o:Pg),(l.foldl (fun o id=>addE o id (f id)) o).defs=o.defs++l.filterMap fun id=>if (f id).opn then some (f id).d else none
 | [],o=>by simp
 | id::l,o=>by
  rw [List.foldl_cons,foldE_defs f l,List.filterMap_cons]
  cases h:(f id).opn <;> simp [addE,h]
theorem foldE_d (f:Int→En):∀ (l:List Int) (o:Pg),(l.foldl (fun o id=>addE o id (f id)) o).d=if (0:Int) ∈ l then (f 0).decl else o.d
 | [],o=>by simp
 | id::l,o=>by
  rw [List.foldl_cons,foldE_d f l]
  by_cases h:(0:Int) ∈ l
  ·simp [h]
  ·by_cases e:id=0
   ·subst e;simp [h,addE]
   ·have:¬ (0:Int)=id:=fun h=>e h.symm
    simp [h,addE,e,this]
theorem foldE_t (f:Int→En):∀ (l:List Int) (o:Pg),(l.foldl (fun o id=>addE o id (f id)) o).threads=if (0:Int) ∈ l then (f 0).threads else o.threads
 | [],o=>by simp
 | id::l,o=>by
  rw [List.foldl_cons,foldE_t f l]
  by_cases h:(0:Int) ∈ l
  ·simp [h]
  ·by_cases e:id=0
   ·subst e;simp [h,addE]
   ·have:¬ (0:Int)=id:=fun h=>e h.symm
    simp [h,addE,e,this]
theorem Pg.ext4 {a b:Pg} (h1:a.d=b.d) (h2:a.heads=b.heads) (h3:a.defs=b.defs) (h4:a.threads=b.threads):a=b:=by
 cases a;cases b;simp at *;exact ⟨h1,h2,h3,h4⟩
theorem foldE_congr {f g:Int→En} {l:List Int} (h:∀ id ∈ l,f id=g id):foldE f l=foldE g l:=by
 unfold foldE
 generalize Pg.zero=o
 induction l generalizing o with
 | nil=>rfl
 | cons id l ih=>rw [List.foldl_cons,List.foldl_cons,h id (by simp),ih fun x hx=>h x (by simp [hx])]
theorem filterMap_supp {α:Type} {f:Int→Option α} {l m:List Int} (hl:l.Pairwise (· < ·)) (hm:m.Pairwise (· < ·)) (h:∀ id,f id≠none→(id ∈ l↔id ∈ m)):l.filterMap f=m.filterMap f:=by
 have e:∀ k:List Int,k.filterMap f=(k.filter fun id=>(f id).isSome).filterMap f:=by
  intro k
  induction k with
  | nil=>rfl
  | cons x k ih =>
   cases hx:f x with
   | none=>rw [List.filterMap_cons_none hx,List.filter_cons_of_neg (by simp [hx]),ih]
   | some y=>rw [List.filterMap_cons_some hx,List.filter_cons_of_pos (by simp [hx]),List.filterMap_cons_some hx,ih]
 rw [e l,e m,lt_ext (hl.filter _) (hm.filter _) fun x=>?_]
 simp only [List.mem_filter]
 constructor
 ·rintro ⟨h1,h2⟩;exact ⟨(h x (by intro e;rw [e] at h2;simp at h2)).1 h1,h2⟩
 ·rintro ⟨h1,h2⟩;exact ⟨(h x (by intro e;rw [e] at h2;simp at h2)).2 h1,h2⟩
theorem foldE_keys {f:Int→En} {l m:List Int} (hl:l.Pairwise (· < ·)) (hm:m.Pairwise (· < ·)) (h0:(0:Int) ∈ l∧(0:Int) ∈ m) (h:∀ id,f id≠En.zero→(id ∈ l↔id ∈ m)):foldE f l=foldE f m:=by
 refine Pg.ext4 ?_ ?_ ?_ ?_
 ·simp only [foldE,foldE_d,h0.1,h0.2]
 ·simp only [foldE,foldE_heads]
  rw [filterMap_supp hl hm fun id hn=>h id fun e=>hn (by rw [e];rfl)]
 ·simp only [foldE,foldE_defs]
  rw [filterMap_supp hl hm fun id hn=>h id fun e=>hn (by rw [e];rfl)]
 ·simp only [foldE,foldE_t,h0.1,h0.2]
structure Nrm (p:Pg):Prop where
 hid:p.heads.Pairwise (fun a b=>a.id<b.id)
 pos:∀ h ∈ p.heads,0<h.id
theorem headS_of {p:Pg} (N:Nrm p) {h:Hd} (hh:h ∈ p.heads):headS p h.id=some h:=find_pw N.hid h hh
theorem headS_id {p:Pg} {id:Int} {h:Hd} (hh:headS p id=some h):h ∈ p.heads∧h.id=id:=⟨List.mem_of_find?_eq_some hh,of_decide_eq_true (List.find?_some (p:=fun d:Hd=>decide (d.id=id)) hh)⟩
theorem findS_id {p:Pg} {id:Int} {h:Df} (hh:findS p id=some h):h ∈ p.defs∧h.id=id:=⟨List.mem_of_find?_eq_some hh,of_decide_eq_true (List.find?_some (p:=fun d:Df=>decide (d.id=id)) hh)⟩
theorem entE_out {p:Pg} {id:Int} (h:id ∉ idsS p):entE p id=En.zero:=by
 simp only [idsS,List.mem_cons,not_or] at h
 rw [entE,if_neg h.1]
 cases e:headS p id with
 | none=>rfl
 | some x=>exact absurd (List.mem_map.2 ⟨x,(headS_id e).1,(headS_id e).2⟩) h.2
theorem pickE_cases (x y z:En):pickE x y z=y∨pickE x y z=z:=by
 unfold pickE
 split
 ·exact .inl rfl
 ·split
  ·exact .inr rfl
  ·exact .inl rfl
theorem WRel.plainMap {w:World} {g:G} {s:St} (h:WRel w g s) {b:Nat} {es:List (D × D)} (hb:s.boxes[b]? = some (.map es)):WRel w g { s with boxes:=s.boxes.set b (.map (es.map fun e=>(e.1,e.2.plain))) }:=by
 have hlt:=(List.getElem?_eq_some_iff.1 hb).1
 have hlv:∀ j,Live1 { s with boxes:=s.boxes.set b (.map (es.map fun e=>(e.1,e.2.plain))) } j→Live1 s j:=by
  rintro j ⟨bx,h1,h2⟩
  by_cases e:j=b
  ·subst e;exact ⟨_,hb,by simp⟩
  ·simp only at h1;rw [List.getElem?_set_ne (by omega)] at h1;exact ⟨bx,h1,h2⟩
 refine { os:=h.os,tape:=h.tape,out:=h.out,fz:=h.fz,n:=h.n,old:=h.old,m:=h.m,box:=?_,inj:=fun i j c h1 h2 l1 l2=>h.inj i j c h1 h2 (hlv i l1) (hlv j l2),dom:=fun j c hj=>by have:=h.dom j c hj;simpa using this,live:=h.live,uniq:=h.uniq,ldom:=h.ldom,o:=h.o,nd:=h.nd,sz:=h.sz }
 intro j bx hj
 by_cases e:j=b
 ·subst e
  simp only at hj
  rw [List.getElem?_set_self hlt] at hj;cases hj
  obtain ⟨r,en,k,h1,h2,h3,h4⟩:=h.box j _ hb
  refine ⟨r,en,k,h1,h2,by simpa using h3,fun i q1 q2=>?_⟩
  have hi:i<es.length:=by simpa using q1
  have:=h4 i hi q2
  simp only [List.getElem_map]
  exact ⟨this.1,this.2.1.plain,this.2.2⟩
 ·simp only at hj;rw [List.getElem?_set_ne (by omega)] at hj;exact h.box j bx hj
theorem SpecQ.plainMap {P:Program} {f:FuncId} {args:List D} {s:St} {Z Z2:D→St→Prop} (h:SpecQ P f args s Z)
  (hz:∀ r t,Z r t→∃ b es,t.boxes[b]? = some (.map es)∧Z2 r { t with boxes:=t.boxes.set b (.map (es.map fun e=>(e.1,e.2.plain))) }):SpecQ P f args s Z2 :=
 SpecQ.ghost h fun r s1 hZ w0 g0 w g v h0 hle hw hv=>by
  obtain ⟨b,es,h1,h2⟩:=hz r s1 hZ
  exact ⟨g,r,_,h2,hle,hw.plainMap h1,hv⟩
def entE0 (p:Pg):En:=⟨false,false,Hd.zero,Df.zero,p.d,p.threads⟩
def entM (p:Pg):List (D × D):=(.int .i64 0,.agg (entE0 p).cells)::p.heads.map fun h=>(.int .i64 h.id,.agg (openE p h).cells)
def rawE0 (p:Pg):D:=.agg (.bool false::.bool false::.int .i64 0::.int .i64 0::.int .i64 0::.slice .nil []::.slice .nil []::.int .i64 0::.int .i64 0::.str ⟨#[]⟩::.int .i64 0::.int .i64 0::.slice .nil []::.slice .nil []::.int .i64 0::.int .i64 0::.slice .nil []::.int .i64 0::.slice .nil []::(p.d.cells++[.slice .none (intCells p.threads)]))
def rawO (p:Pg) (h:Hd):D:=.agg (.bool true::.bool (findS p h.id).isSome::(h.cells++(((findS p h.id).getD Df.zero).cells++[.slice .nil [],.slice .nil [],.slice .nil [],.slice .nil [],.int .i64 0,.int .i64 0,.int .i64 0,.slice .nil []])))
def rawM (p:Pg) (l:List Hd):List (D × D):=(.int .i64 0,rawE0 p)::l.map fun h=>(.int .i64 h.id,rawO p h)
theorem rawM_plain (p:Pg):(rawM p p.heads).map (fun e=>(e.1,e.2.plain))=entM p:=by
 simp only [rawM,entM,List.map_cons,List.map_map]
 rfl
theorem mapFind_raw {p:Pg} {n:Int}:∀ {l:List Hd},n ∉ l.map (·.id)→∀ i,qv9 .i64 n (l.map fun h=>(D.int .i64 h.id,rawO p h)) i=some none
 | [],_,_=>rfl
 | h::l,hn,i=>by
  simp only [List.map_cons,List.mem_cons,not_or] at hn
  simp only [List.map_cons,qv9,if_true,if_neg hn.1]
  exact mapFind_raw hn.2 _
def entX (p:Pg) (l:List Hd):List Box:=l.flatMap fun h=>[.cells h.cells,.cells ((findS p h.id).getD Df.zero).cells]
theorem t_entries (p:Pg) (hnd:(idsS p).Nodup) (B:List Box) (L:List Nat) (c:Nat):Spec Tryz.prog 31 [.agg p.cells] ⟨B,L,c⟩ (.map (B.length+1)) ⟨B++.cells p.cells::.map (entM p)::entX p p.heads,L,c⟩:=by
 show SpecQ _ _ _ _ _
 refine SpecQ.small fun hsm=>?_
 have hlen:p.heads.length≤281474976710656:=by
  have h1:=hsm (.agg p.cells) (by simp)
  cases h1 with
  | agg _ h1 =>
   have h2:=h1 (.slice .none (kr9 p.heads)) (by simp [Pg.cells])
   have:=h2.len;rw [ki9] at this;exact this
 clear hsm
 refine SpecQ.plainMap (Z:=fun r s=>r=.map (B.length+1)∧s=⟨B++.cells p.cells::.map (rawM p p.heads)::entX p p.heads,L,c⟩) ?_ ?_
 rotate_left
 ·rintro r t ⟨rfl,rfl⟩
  generalize entX p p.heads=X
  have hs:B++Box.cells p.cells::.map (rawM p p.heads)::X=(B++[Box.cells p.cells])++.map (rawM p p.heads)::X:=by simp
  have hl:(B++[Box.cells p.cells]).length=B.length+1:=by simp
  refine ⟨B.length+1,rawM p p.heads,?_,rfl,?_⟩
  ·show (B++Box.cells p.cells::.map (rawM p p.heads)::X)[B.length+1]? = _
   rw [hs,← hl,List.getElem?_append_right (Nat.le_refl _),Nat.sub_self];rfl
  ·rw [rawM_plain]
   show (⟨(B++Box.cells p.cells::.map (rawM p p.heads)::X).set (B.length+1) (.map (entM p)),L,c⟩:St)=_
   rw [hs,← hl,List.set_append_right _ _ (Nat.le_refl _),Nat.sub_self]
   simp
 refine SpecQ.introA [] Tryz.func31 rfl (by decide) hmix (by kernel_rfl) [ResultVar.tmp 2] 38 rfl rfl ?_
 simp only [vqM,vt104,zA,zS,zL,ki9]
 have hput0:∀ es,mapPut .i64 0 es none []=[(.int .i64 0,es)]:=fun es=>rfl
 rw [hput0]
 refine kc9 [1,3,16,17,18] ?_
 simp only [vke,zB,zA]
 refine km9 hmix p.heads.length (fun k e s=>e=[Jk,.box B.length 0,Jk,.map (B.length+1),Jk,Jk,Jk,Jk,Jk,Jk,Jk,Jk,Jk,Jk,Jk,Jk,.slice .none (kr9 p.heads),.int .i64 p.heads.length,.int .i64 (k:Int),Jk,Jk,Jk,Jk,Jk,Jk,Jk,Jk,Jk,Jk,Jk,Jk,Jk,Jk,Jk,Jk,Jk,Jk,Jk]∧s=⟨B++.cells p.cells::.map (rawM p (p.heads.take k))::entX p (p.heads.take k),L,c⟩) ?_ ?_ 0 _ _ (Nat.zero_le _) ⟨rfl,rfl⟩
 ·rintro k e s hk ⟨rfl,rfl⟩ ih
  have hx:p.heads[k]? = some p.heads[k]:=List.getElem?_eq_getElem hk
  have hg:(kr9 p.heads)[k]? = some (p.heads[k].cells):=by simp [kr9,hx]
  have hklt:((k:Int)<(p.heads.length:Int))=True:=by simp;exact hk
  have hnext:p.heads.take (k+1)=p.heads.take k++[p.heads[k]]:=by rw [List.take_add_one,hx];rfl
  obtain ⟨hn0,hnd2⟩:=List.nodup_cons.1 hnd
  have hne:p.heads[k].id≠0:=fun e=>hn0 (List.mem_map.2 ⟨_,List.getElem_mem hk,e⟩)
  have hni:p.heads[k].id ∉ (p.heads.take k).map (·.id):=by
   intro hm
   obtain ⟨j,hj,he⟩:=List.getElem_of_mem hm
   simp at hj
   have:=(List.getElem_inj (h₀:=by simp;omega) (h₁:=by simpa using hk) hnd2 (i:=j) (j:=k)).1 (by simpa using he)
   omega
  generalize p.heads[k]=h at hx hg hnext hne hni
  have hfind:qv9 .i64 h.id (rawM p (p.heads.take k)) 0=some none:=by
   simp only [rawM,qv9,if_true,if_neg hne]
   exact mapFind_raw hni _
  have hput:∀ v,mapPut .i64 h.id v none (rawM p (p.heads.take k))=rawM p (p.heads.take k)++[(.int .i64 h.id,v)]:=fun v=>rfl
  simp only [vqM,vt104,zA,hklt,decide_true,natle0,Int.toNat_natCast,hg]
  refine ka9 (t_Find p h.id _) ?_
  simp only [vqM,vt104,zA,zL,findSD,hfind,hput]
  rw [kf9 (by omega)]
  refine kc9 [1,3,16,17,18] ?_
  simp only [vke,zB,zA]
  refine ih _ _ ⟨rfl,?_⟩
  have hxn:entX p (p.heads.take k++[h])=entX p (p.heads.take k)++([.cells h.cells,.cells ((findS p h.id).getD Df.zero).cells]:List Box):=by simp [entX]
  have hsn:rawM p (p.heads.take k++[h])=rawM p (p.heads.take k)++[(.int .i64 h.id,rawO p h)]:=by simp [rawM]
  rw [hnext,hsn,hxn]
  rfl
 ·rintro e s ⟨rfl,rfl⟩
  have hklt:((p.heads.length:Int)<(p.heads.length:Int))=False:=by simp
  rw [List.take_length]
  simp only [vqM,hklt,decide_false]
  refine retA (.inr rfl) ?_ ⟨rfl,rfl⟩
  simp only [vqM]
theorem at_ints {l:List Int} {rest:List D} {i:Nat} (h:i<l.length):((ints l++rest).drop i)[0]? = some (.int .i64 l[i]):=by
 rw [List.getElem?_drop,Nat.add_zero,List.getElem?_append_left (by simpa [ints] using h)]
 simp [ints,h]
theorem t_idxK (f:D) (p:Int→Bool) (l:List Int) (rest:List D) {C:List Box} {b:Nat} {L:List Nat} {c:Nat} (hb:C[b]? = some (.cells (ints l++rest))) (hl:l.length≤1000000) (hp:∀ x,xo9 Tryz.prog f [.int .i64 x] ⟨C,L,c⟩ (.bool (p x)) ⟨C,L,c⟩) :
  Spec Tryz.prog 59 [.row b 0 l.length 1,f] ⟨C,L,c⟩ (.int .i64 (idxP p l)) ⟨C,L,c⟩:=by
 refine Spec.introN [] Tryz.func59 rfl (by decide) hmix (by kernel_rfl) [ResultVar.tmp 4] 19 rfl rfl ?_
 simp only [vqM,vt25,zA,zS]
 refine kc9 [0,1,7,8] ?_
 simp only [vke,zB,zA]
 refine xc9 hmix l.length (fun k=>[.row b 0 l.length 1,f,Jk,Jk,Jk,Jk,Jk,.int .i64 l.length,.int .i64 (k:Int),Jk,Jk,Jk,Jk,Jk,Jk,Jk,Jk,Jk,Jk]) (fun _=>⟨C,L,c⟩) (fun k=>∀ j (h:j<l.length),j<k→p l[j]=false) ?_ ?_ 0 (Nat.zero_le _) (by intro j _ h;omega)
 ·intro k hk hI ih
  have hg:=at_ints (rest:=rest) hk
  have hklt:((k:Int)<(l.length:Int))=True:=by simp;exact hk
  have hkl:(0≤(k:Int)∧(k:Int)<(l.length:Int))=True:=by simp;exact hk
  simp only [vqM,vt25,hb,hklt,decide_true,natle0,Int.toNat_natCast,hg,Nat.mul_one,Nat.zero_add]
  refine wz9 (hp _) ?_
  simp only [vqM]
  refine kb9 (fun hc=>?_) (fun hc=>?_)
  ·simp only [vqM]
   refine ko9 (.inr rfl) ?_ (.int _ _)
   simp only [vqM]
   rw [idxP_at hk hc hI]
  ·simp only [vqM]
   rw [kf9 (by omega)]
   refine kc9 [0,1,7,8] ?_
   simp only [vke,zB,zA]
   refine ih fun j hj hjk=>?_
   by_cases e:j=k
   ·subst e;exact hc
   ·exact hI j hj (by omega)
 ·intro hI
  have hklt:((l.length:Int)<(l.length:Int))=False:=by simp
  simp only [vqM,hklt,decide_false]
  refine ko9 (.inr rfl) ?_ (.int _ _)
  simp only [vqM]
  rw [idxP_none hI]
def keepP (p:Int→Bool) (l:List Int):List Int:=l.filter fun x=>!p x
theorem keepP_succ {p:Int→Bool} {l:List Int} {j:Nat} (h:j<l.length):keepP p (l.take (j+1))=if p l[j] then keepP p (l.take j) else keepP p (l.take j)++[l[j]]:=by
 rw [List.take_add_one,List.getElem?_eq_getElem h,keepP,Option.toList_some,List.filter_append]
 cases hp:p l[j] <;> simp [keepP,hp]
theorem sl_fromA {E e:TypeId} {by_:Nat} {ag:Bool} {b off n k:Nat} (h2:k<n):slR (some (.slice E)) (some (e,1,by_,ag)) b off n 1 (some (.int .i64 (k:Int))) none=some (.row b (off+k * 1) (n - k) 1):=by
 by_cases h:k=0
 ·subst h;simp [slR,evBd]
 ·exact sl_from (by omega) h2
theorem t_DeleteF (f:D) (hfp:f.plain=f) (p:Int→Bool) (l:List Int) (rest:List D) {C:List Box} {b:Nat} {L:List Nat} {c:Nat} (hb:C[b]? = some (.cells (ints l++rest))) (hl:l.length≤100000)
  (hp:∀ cs x,xo9 Tryz.prog f [.int .i64 x] ⟨C.set b (.cells cs),L,c⟩ (.bool (p x)) ⟨C.set b (.cells cs),L,c⟩) :
  SpecQ Tryz.prog 32 [.row b 0 l.length 1,f] ⟨C,L,c⟩ fun r s=>∃ cs,r=.row b 0 (keepP p l).length 1∧cs.take (keepP p l).length=ints (keepP p l)∧s=⟨C.set b (.cells cs),L,c⟩:=by
 have hbl:=(List.getElem?_eq_some_iff.1 hb).1
 have hself:C.set b (.cells (ints l++rest))=C:=by
  refine List.ext_getElem? fun i=>?_
  by_cases e:i=b
  ·subst e;rw [List.getElem?_set_self hbl,hb]
  ·rw [List.getElem?_set_ne (fun h=>e h.symm)]
 have hget:∀ X,(C.set b (.cells X))[b]? = some (.cells X):=fun X=>List.getElem?_set_self hbl
 have hset:∀ X Y,(C.set b (.cells X)).set b (.cells Y)=C.set b (.cells Y):=fun X Y=>List.set_set ..
 have hp0:∀ x,xo9 Tryz.prog f [.int .i64 x] ⟨C,L,c⟩ (.bool (p x)) ⟨C,L,c⟩:=fun x=>by have:=hp (ints l++rest) x;rwa [hself] at this
 refine SpecQ.introA [] Tryz.func32 rfl (by decide) hmix (by kernel_rfl) [ResultVar.tmp 4] 42 rfl rfl ?_
 simp only [vqM,zA,zS,hfp]
 refine ka9 (t_idxK f p l rest hb (by omega) hp0) ?_
 cases hfi:l.findIdx? p with
 | none =>
  have hid:idxP p l = -1:=by simp [idxP,hfi]
  rw [List.findIdx?_eq_none_iff] at hfi
  have hk:keepP p l=l:=List.filter_eq_self.2 fun x hx=>by simp [hfi x hx]
  rw [hid]
  simp only [vqM,decide_true]
  refine retA (.inr rfl) (r:=.row b 0 l.length 1) ?_ ⟨ints l++rest,by rw [hk],by rw [hk,List.take_append_of_le_length (by simp [ints]),List.take_of_length_le (by simp [ints])],by rw [hself]⟩
  simp only [vqM]
 | some i0 =>
  have hid:idxP p l=i0:=by simp [idxP,hfi]
  obtain ⟨hil,hpi,hbef⟩:=List.findIdx?_eq_some_iff_getElem.1 hfi
  have hk0:keepP p (l.take i0)=l.take i0:=List.filter_eq_self.2 fun x hx=>by
   obtain ⟨j,hj,rfl⟩:=List.getElem_of_mem hx
   simp at hj
   have:=hbef j (by omega)
   simpa using this
  have hk1:keepP p (l.take (i0+1))=l.take i0:=by rw [keepP_succ hil,if_pos hpi,hk0]
  have d1:((i0:Int) = -1)=False:=by simp
  rw [hid]
  simp only [vqM,d1,decide_false]
  rw [kf9 (by omega),← hself]
  refine kc9 [0,1,5,6] ?_
  simp only [vke,zB,zA]
  refine km9 hmix (l.length - (i0+1)) (fun k e s=>∃ (cur:List Int) (K:Nat),e=[.row b 0 l.length 1,f,Jk,Jk,Jk,.int .i64 (K:Int),.int .i64 ((i0+1+k:Nat):Int),Jk,Jk,Jk,Jk,Jk,Jk,Jk,Jk,Jk,Jk,Jk,Jk,Jk,Jk,Jk,Jk,Jk,Jk,Jk,Jk,Jk,Jk,Jk,Jk,Jk,Jk,Jk,Jk,Jk,Jk,Jk,Jk,Jk,Jk,Jk]∧cur.length=l.length∧K=(keepP p (l.take (i0+1+k))).length ∧
    cur.take K=keepP p (l.take (i0+1+k))∧cur.drop (i0+1+k)=l.drop (i0+1+k)∧K<i0+1+k∧s=⟨C.set b (.cells (ints cur++rest)),L,c⟩) ?_ ?_ 0 _ _ (Nat.zero_le _) ⟨l,i0,rfl,rfl,by rw [Nat.add_zero,hk1];simp;omega,by rw [Nat.add_zero,hk1],by rfl,by omega,rfl⟩
  ·rintro k e s hk ⟨cur,K,rfl,q1,q2,q3,q4,q5,rfl⟩ ih
   have hj:i0+1+k<l.length:=by omega
   have a0:decide (((i0+1+k:Nat):Int)<(l.length:Int))=true:=by simp;omega
   have a2:(0≤((i0+1+k:Nat):Int)∧((i0+1+k:Nat):Int)<(l.length:Int))=True:=by simp;omega
   have a4:(0≤(K:Int)∧(K:Int)<(l.length:Int))=True:=by simp;omega
   have hcj:cur[i0+1+k]'(by omega)=l[i0+1+k]:=by
    have:=congrArg (fun z=>z[0]?) q4
    simpa [q1,hj] using this
   have b1:((ints cur++rest).drop (i0+1+k))[0]? = some (.int .i64 l[i0+1+k]):=by rw [at_ints (by omega),hcj]
   have hsn:=keepP_succ (p:=p) hj
   generalize l[i0+1+k]=x at hcj b1 hsn
   simp only [vqM,vt105,a0,a2,b1,hget,Int.toNat_natCast,Nat.mul_one,Nat.zero_add]
   refine wz9 (hp _ x) ?_
   simp only [vqM]
   refine kb9 (fun hx=>?_) (fun hx=>?_)
   ·have hx':p x=false:=by simpa using hx
    rw [hx'] at hsn
    have a5:(K+1≤(ints cur++rest).length)=True:=by simp [ints];omega
    have c1:(ints cur++rest).take K++D.int .i64 x::(ints cur++rest).drop (K+1)=ints (cur.take K++x::cur.drop (K+1))++rest:=by
     rw [List.take_append_of_le_length (by simp [ints];omega),List.drop_append_of_le_length (by simp [ints];omega)]
     simp [ints]
    simp only [vqM,vt105,a4,a5,c1,hget,hset,Int.toNat_natCast,Nat.mul_one,Nat.zero_add]
    rw [show IntKind.i64.wrap ((K:Int)+1)=((K+1:Nat):Int) from kf9 (by omega),show IntKind.i64.wrap (((i0+1+k:Nat):Int)+1)=((i0+1+(k+1):Nat):Int) from kf9 (by omega)]
    refine kc9 [0,1,5,6] ?_
    simp only [vke,zB,zA]
    have hlt:(cur.take K).length=K:=by simp;omega
    refine ih _ _ ⟨_,K+1,rfl,?_,?_,?_,?_,by omega,rfl⟩
    ·simp;omega
    ·rw [show i0+1+(k+1)=i0+1+k+1 from by omega,hsn,q2];simp
    ·rw [show i0+1+(k+1)=i0+1+k+1 from by omega,hsn,← q3,List.take_append,List.take_of_length_le (by omega),hlt]
     simp [show K+1 - K=1 from by omega]
    ·rw [List.drop_append,List.drop_of_length_le (by omega),hlt,show i0+1+(k+1) - K=(i0+1+k - K)+1 from by omega]
     simp only [List.nil_append,List.drop_succ_cons,List.drop_drop]
     have:=congrArg (List.drop 1) q4
     rw [List.drop_drop,List.drop_drop] at this
     rw [show K+1+(i0+1+k - K)=i0+1+k+1 from by omega,this];rfl
   ·have hx':p x=true:=by simpa using hx
    rw [hx'] at hsn
    simp only [vqM]
    rw [show IntKind.i64.wrap (((i0+1+k:Nat):Int)+1)=((i0+1+(k+1):Nat):Int) from kf9 (by omega)]
    refine kc9 [0,1,5,6] ?_
    simp only [vke,zB,zA]
    refine ih _ _ ⟨cur,K,rfl,q1,?_,?_,?_,by omega,rfl⟩
    ·rw [show i0+1+(k+1)=i0+1+k+1 from by omega,hsn,q2];rfl
    ·rw [show i0+1+(k+1)=i0+1+k+1 from by omega,hsn,q3];rfl
    ·have:=congrArg (List.drop 1) q4
     rw [List.drop_drop,List.drop_drop] at this;exact this
  ·rintro e s ⟨cur,K,rfl,q1,q2,q3,q4,q5,rfl⟩
   have hall:l.take (i0+1+(l.length - (i0+1)))=l:=List.take_of_length_le (by omega)
   rw [hall] at q2 q3
   have a0:decide (((i0+1+(l.length - (i0+1)):Nat):Int)<(l.length:Int))=false:=by simp;omega
   have hcl:K+(l.length - K) * 1≤(ints cur++rest).length:=by simp [ints];omega
   simp only [vqM,vt105,a0,hget,hset,sl_fromA (show K<l.length by omega),sl_to (show K≤l.length by omega),Nat.mul_one,Nat.zero_add,evClear_rw,clR_w,clR2_w hcl]
   refine retA (.inr rfl) (r:=.row b 0 K 1) ?_ ⟨_,by rw [q2],?_,rfl⟩
   ·simp only [vqM]
   ·rw [← q2];(try rw [storeD]);rw [List.take_append_of_le_length (by simp [ints];omega),List.take_of_length_le (by simp [ints];omega),List.take_append_of_le_length (by simp [ints];omega)]
    rw [show (ints cur).take K=ints (cur.take K) from by simp [ints],q3]
def En.zc:List D:=[.bool false,.bool false,.int .i64 0,.int .i64 0,.int .i64 0,.slice .nil [],.slice .nil [],.int .i64 0,.int .i64 0,.str ⟨#[]⟩,.int .i64 0,.int .i64 0,.slice .nil [],.slice .nil [],.int .i64 0,.int .i64 0,.slice .nil [],.int .i64 0,.slice .nil [],.slice .nil [],.slice .nil [],.slice .nil [],.slice .nil [],.int .i64 0,.int .i64 0,.int .i64 0,.slice .nil []]
def lookE (p:Pg) (id:Int):D:=if id ∈ idsS p then .agg (entE p id).cells else .agg En.zc
theorem lookE_plain (p:Pg) (id:Int):(lookE p id).plain=.agg (entE p id).cells:=by
 unfold lookE
 split
 ·exact congrArg D.agg (En.plain _)
 ·rename_i h
  rw [entE_out h];rfl
theorem mapFind_some {f:Hd→D} {h:Hd}:∀ {l:List Hd},l.Pairwise (fun a b=>a.id<b.id)→h ∈ l→∀ i,∃ q,qv9 .i64 h.id (l.map fun x=>(D.int .i64 x.id,f x)) i=some (some (q,f h))
 | [],_,hm,_=>by simp at hm
 | x::l,hp,hm,i=>by
  obtain ⟨h1,h2⟩:=List.pairwise_cons.1 hp
  simp only [List.map_cons,qv9,if_true]
  rcases List.mem_cons.1 hm with rfl | hm
  ·exact ⟨i,by simp⟩
  ·have:=h1 h hm
   have hne:¬ h.id=x.id:=by omega
   rw [if_neg hne]
   exact mapFind_some h2 hm _
theorem mapFind_none {f:Hd→D} {n:Int}:∀ {l:List Hd},n ∉ l.map (·.id)→∀ i,qv9 .i64 n (l.map fun x=>(D.int .i64 x.id,f x)) i=some none
 | [],_,_=>rfl
 | h::l,hn,i=>by
  simp only [List.map_cons,List.mem_cons,not_or] at hn
  simp only [List.map_cons,qv9,if_true,if_neg hn.1]
  exact mapFind_none hn.2 _
theorem look_ent {p:Pg} (N:Nrm p) (id:Int):Option.map (fun r=>lookD r (.agg En.zc) false) (qv9 .i64 id (entM p) 0)=some (lookE p id):=by
 unfold lookE
 by_cases h0:id=0
 ·subst h0
  have e0:entE p 0=entE0 p:=by rw [entE,if_pos rfl];rfl
  simp only [entM,qv9,if_true,idsS,List.mem_cons,true_or,e0]
  rfl
 ·by_cases hm:id ∈ p.heads.map (·.id)
  ·obtain ⟨h,hh,rfl⟩:=List.mem_map.1 hm
   obtain ⟨q,hq⟩:=mapFind_some (f:=fun h=>.agg (openE p h).cells) N.hid hh 1
   have e0:entE p h.id=openE p h:=by rw [entE,if_neg h0,headS_of N hh]
   simp only [entM,qv9,if_true,if_neg h0,hq,idsS,List.mem_cons,hm,or_true,e0]
   rfl
  ·have hq:=mapFind_none (f:=fun h=>.agg (openE p h).cells) hm 1
   have hni:¬ id ∈ idsS p:=by simp [idsS,h0];simpa using hm
   simp only [entM,qv9,if_true,if_neg h0,hq,if_neg hni]
   rfl
theorem t_chg1 {p q:Pg} (N1:Nrm p) (N2:Nrm q) (id:Int) {C:List Box} {ix iy mx my:Nat} {L:List Nat} {c:Nat} (h1:C[ix]? = some (.cells [.map mx])) (h2:C[iy]? = some (.cells [.map my])) (h3:C[mx]? = some (.map (entM p))) (h4:C[my]? = some (.map (entM q))) :
  Spec Tryz.prog 34 [.int .i64 id,.box ix 0,.box iy 0] ⟨C,L,c⟩ (.bool (decide (entE p id=entE q id))) ⟨C,L,c⟩:=by
 have l1:=look_ent N1 id
 have l2:=look_ent N2 id
 have p1:=lookE_plain p id
 have p2:=lookE_plain q id
 unfold En.zc at l1 l2
 refine Spec.introN [] Tryz.func34 rfl (by decide) hmix (by kernel_rfl) [ResultVar.tmp 4] 12 rfl rfl ?_
 simp only [vqM,vt102,zA,zS,h1,h2,h3,h4,l1,l2,p1,p2]
 refine ka9 (t_same _ _ _) ?_
 simp only [vqM]
 refine ko9 (.inr rfl) ?_ (.bool _)
 simp only [vqM]
theorem ms_ok {p:Pg} (hl:p.heads.length≤900) {B:List Box} {b:Nat} (hb:B[b]? = some (.map (entM p))):Ms.Ok B ⟨b,entM p,idsS p⟩ where
 bx:=hb
 ks:=by simp [entM,idsS]
 ln:=by simp [idsS];omega
 ne:=by simp [idsS]
def Ch2 (p q:Pg) (B:List Box) (L:List Nat) (c:Nat) (e:List D) (s:St):Prop :=
 ∃ ix iy mx my X,keep [5,6,8,10] e=[Jk,Jk,Jk,Jk,Jk,.box ix 0,.box iy 0,Jk,.map mx,Jk,.map my,Jk,Jk,Jk,Jk,Jk,Jk]∧s=⟨B++X,L,c⟩∧(B++X)[ix]? = some (.cells [.map mx])∧(B++X)[iy]? = some (.cells [.map my])∧(B++X)[mx]? = some (.map (entM p))∧(B++X)[my]? = some (.map (entM q))
theorem ch2_mk {p q:Pg} {B X:List Box} {L:List Nat} {c ix iy mx my:Nat} {e:List D} {s:St} (h1:keep [5,6,8,10] e=[Jk,Jk,Jk,Jk,Jk,.box ix 0,.box iy 0,Jk,.map mx,Jk,.map my,Jk,Jk,Jk,Jk,Jk,Jk]) (h2:s=⟨B++X,L,c⟩) (h3:(B++X)[ix]? = some (.cells [.map mx])) (h4:(B++X)[iy]? = some (.cells [.map my])) (h5:(B++X)[mx]? = some (.map (entM p))) (h6:(B++X)[my]? = some (.map (entM q))):Ch2 p q B L c e s :=
 ⟨ix,iy,mx,my,X,h1,h2,h3,h4,h5,h6⟩
theorem Nrm.ids {p:Pg} (N:Nrm p):(idsS p).Nodup:=by
 refine List.nodup_cons.2 ⟨fun h=>?_,?_⟩
 ·obtain ⟨x,hx,e⟩:=List.mem_map.1 h
  have:=N.pos x hx
  omega
 ·rw [List.nodup_iff_pairwise_ne,List.pairwise_map]
  exact N.hid.imp fun h=>by omega
theorem t_Changed (p q:Pg) (N1:Nrm p) (N2:Nrm q) (hl1:p.heads.length≤900) (hl2:q.heads.length≤900) (s:St):Spec Tryz.prog 16 [.agg p.cells,.agg q.cells] s (.slice .none (intCells (wy9 p q))) s:=by
 refine Spec.wf fun hW=>?_
 obtain ⟨B,L,c⟩:=s
 have hW0:WfL L c:=⟨hW.nd,hW.lt⟩
 refine SpecQ.freeze (Z:=fun r s=>∃ X L' c',s=⟨B++X,L',c'⟩∧(∀ k ∈ L,k ∈ L')∧c≤c'∧((r=.row0∧intCells (wy9 p q)=[]) ∨ ∃ b off n sz cs,r=.row b off n sz∧B.length≤b∧(B++X)[b]? = some (.cells cs)∧(intCells (wy9 p q)).flatten=(cs.drop off).take (n * sz)∧(intCells (wy9 p q)).length=n∧(∀ x ∈ intCells (wy9 p q),x.length=sz))) ?_ (xx9 _) (fun r s h=>h)
 have hk1:(idsS p).Nodup:=N1.ids
 have hk2:(idsS q).Nodup:=N2.ids
 refine SpecQ.introA [(0,.cut),(1,.stop)] Tryz.func16 rfl (by decide) hmix (by kernel_rfl) [ResultVar.tmp 4] 17 rfl rfl ?_
 simp only [vqM,zA,zS,zB]
 refine seq_go ?_
 simp only [vqM,zA]
 refine awN_seq ?_
 refine awN_open fun _=>?_
 refine awI_cutI (Ch2 p q B L c) ?_ ?_
 ·skip
  refine awI_drawM hmix [1,3,4,5,6,7] [⟨[0,1,2,3,4,5,6,7],[(2,0)]⟩,⟨[0,1,2,3,5,4,6,7],[(2,0)]⟩,⟨[0,1,2,4,3,5,6,7],[(2,0),(2,2)]⟩,⟨[0,1,2,4,5,3,6,7],[(2,0),(2,2),(2,3)]⟩,⟨[0,1,2,5,3,4,6,7],[(2,0),(2,2)]⟩,⟨[0,1,2,5,4,3,6,7],[(2,0),(2,2),(2,3)]⟩,⟨[0,4,1,2,3,5,6,7],[(0,1),(2,0),(2,1)]⟩,⟨[0,4,1,2,5,3,6,7],[(0,1),(2,0),(2,1),(2,3)]⟩,⟨[0,4,5,1,2,3,6,7],[(0,1),(0,2),(2,0),(2,1),(2,2)]⟩,⟨[0,5,1,2,3,4,6,7],[(0,1),(2,0),(2,1)]⟩,⟨[0,5,1,2,4,3,6,7],[(0,1),(2,0),(2,1),(2,3)]⟩,⟨[0,5,4,1,2,3,6,7],[(0,1),(0,2),(2,0),(2,1),(2,2)]⟩] (by kernel_rfl) fun pl hpl=>?_
  simp only [List.mem_cons,List.not_mem_nil,or_false] at hpl
  rcases hpl with rfl | rfl | rfl | rfl | rfl | rfl | rfl | rfl | rfl | rfl | rfl | rfl
  all_goals
   simp only [vqM,vt106,zA,zB,List.getD_cons_zero,List.getD_cons_succ,List.contains_cons,List.contains_nil,Bool.or_false,Bool.or_true]
   refine ka9 (t_entries p hk1 _ _ _) ?_
   simp only [vqM,vt106,zA,List.getD_cons_zero,List.getD_cons_succ]
   refine ka9 (t_entries q hk2 _ _ _) ?_
   simp only [vqM,vt106,zA,List.getD_cons_zero,List.getD_cons_succ]
   generalize entX p p.heads=XP
   generalize entX q q.heads=XQ
   have hadd:∀ a,B.length+a+1=B.length+(a+1):=fun _=>rfl
   refine kj9 ?_
   apply ch2_mk
   ·simp only [vke,zB,zA]
    rfl
   ·rfl
   all_goals (first | (simp only [hadd,wi9,wd9,List.getElem?_cons_succ,List.getElem?_cons_zero];done) | (simp only [hadd,wi9,wd9,List.getElem?_cons_succ,List.getElem?_cons_zero];rfl) | (simp only [hadd,zA,wi9];rfl) | trace_state)
 ·rintro e s ⟨ix,iy,mx,my,X,he,rfl,h1,h2,h3,h4⟩
  have g1:∀ Y,(B++X++Y)[ix]? = some (.cells [.map mx]):=fun Y=>kx9 h1
  have g2:∀ Y,(B++X++Y)[iy]? = some (.cells [.map my]):=fun Y=>kx9 h2
  have g3:∀ Y,(B++X++Y)[mx]? = some (.map (entM p)):=fun Y=>kx9 h3
  have g4:∀ Y,(B++X++Y)[my]? = some (.map (entM q)):=fun Y=>kx9 h4
  have lx:=(List.getElem?_eq_some_iff.1 h1).1
  have ly:=(List.getElem?_eq_some_iff.1 h2).1
  have lmx:=(List.getElem?_eq_some_iff.1 h3).1
  have lmy:=(List.getElem?_eq_some_iff.1 h4).1
  simp only [vqM]
  refine kc9 [5,6,8,10] ?_
  rw [he]
  refine xk9 hmix ?_
  simp only [vqM,vt106,zA,zM,zL,zB,h1,h2]
  refine qo9 (t_keys [⟨mx,entM p,idsS p⟩,⟨my,entM q,idsS q⟩] (B++X) ?_ (by simp) (by simp) L c hW0) ?_
  ·intro x hx
   rcases List.mem_cons.1 hx with rfl | hx
   ·exact ms_ok hl1 h3
   ·rcases List.mem_cons.1 hx with rfl | hx
    ·exact ms_ok hl2 h4
    ·simp at hx
  rintro r t ⟨b,cs,X2,rfl,hX2,hcs,rfl⟩
  have hk:compL (xw9 (allK [⟨mx,entM p,idsS p⟩,⟨my,entM q,idsS q⟩]))=keysS [p,q]:=rfl
  rw [hk] at hcs ⊢
  have hbl:=(List.getElem?_eq_some_iff.1 hX2).1
  have hlen:(keysS [p,q]).length≤100000:=by
   have h1:=compL_le (xw9 (allK [⟨mx,entM p,idsS p⟩,⟨my,entM q,idsS q⟩]))
   have h2:(xw9 (allK [⟨mx,entM p,idsS p⟩,⟨my,entM q,idsS q⟩])).length=_:=(List.mergeSort_perm _ _).length_eq
   rw [hk,h2] at h1
   simp [allK,idsS] at h1
   omega
  have hcs2:cs=ints (keysS [p,q])++cs.drop (keysS [p,q]).length:=by rw [← hcs];exact (List.take_append_drop _ _).symm
  have hb:(B++X++X2)[(B++X).length+b]? = some (.cells (ints (keysS [p,q])++cs.drop (keysS [p,q]).length)):=by rw [wi9,← hcs2];exact hX2
  simp only [vqM]
  rw [List.append_assoc] at hb
  rw [show (B++X).length=B.length+X.length from List.length_append] at hb
  have hge:∀ i,i<(B++X).length→∀ y,((B++(X++X2)).set (B.length+X.length+b) y)[i]? = (B++X)[i]?:=fun i hi y=>by
   rw [List.getElem?_set_ne (by simp at hi;omega),← List.append_assoc,List.getElem?_append_left hi]
  refine qo9 (t_DeleteF (.func (.func 34) [] [.box ix 0,.box iy 0]) rfl (fun id=>decide (entE p id=entE q id)) (keysS [p,q]) _ hb hlen fun cs x=>?_) ?_
  ·refine (show CallVQ _ _ _ _ _ from ?_)
   simp only [CallVQ,List.nil_append,List.cons_append]
   exact t_chg1 N1 N2 x (by rw [hge _ lx];exact h1) (by rw [hge _ ly];exact h2) (by rw [hge _ lmx];exact h3) (by rw [hge _ lmy];exact h4)
  rintro r t ⟨cs2,rfl,hcs3,rfl⟩
  have hkp:keepP (fun id=>decide (entE p id=entE q id)) (keysS [p,q])=wy9 p q:=rfl
  rw [hkp] at hcs3 ⊢
  have hbig:B.length+X.length+b<(B++(X++X2)).length:=(List.getElem?_eq_some_iff.1 hb).1
  have hset:(B++(X++X2)).set (B.length+X.length+b) (.cells cs2)=B++(X++X2).set (X.length+b) (.cells cs2):=by
   rw [List.set_append_right _ _ (by omega)]
   congr 2
   omega
  simp only [vqM]
  refine retA (.inr rfl) (r:=.row (B.length+X.length+b) 0 (wy9 p q).length 1) ?_ ⟨(X++X2).set (X.length+b) (.cells cs2),L,c,by rw [hset],fun _ h=>h,Nat.le_refl _,.inr ⟨_,_,_,_,cs2,rfl,by omega,?_,?_,by simp [intCells],?_⟩⟩
  ·simp only [vqM]
  ·rw [← hset,List.getElem?_set_self hbig]
  ·rw [Nat.mul_one,List.drop_zero,hcs3,ints_flat]
  ·intro x hx
   obtain ⟨y,_,rfl⟩:=List.mem_map.1 hx
   rfl
end Go.V
