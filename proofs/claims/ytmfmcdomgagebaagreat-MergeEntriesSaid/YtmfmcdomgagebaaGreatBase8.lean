/-
  The value-level logic and its contracts, part 8 (texts M9, M10, M11, M12, M3, N7, N8, C0).
-/
import Derived.Test.YtmfmcdomgagebaaGreatBase7
import Derived.Test.YtmfmcdomgagebaaGreatBase6
import Derived.Test.YtmfmcdomgagebaaGreatBase3
import Derived.Test.YtmfmcdomgagebaaGreatBase4
open Nat renaming reduceAdd → zA, reduceSub → zS, reduceMul → zM, reduceLeDiff → zL, reduceEqDiff → zE, reduceBEq → zB
set_option linter.all false
set_option linter.unusedSimpArgs false
set_option linter.unusedVariables false
set_option linter.unnecessarySimpa false
namespace Go.V
open Go.Proofs
set_option maxRecDepth 20000
set_option maxHeartbeats 4000000
theorem WRel.plainMap {w:World} {g:G} {s:St} (h:WRel w g s) {b:Nat} {es:List (D × D)} (hb:s.boxes[b]? = some (.map es)):WRel w g { s with boxes:=s.boxes.set b (.map (es.map fun e=>(e.1,e.2.plain))) }:=by
  have hlt:=(List.getElem?_eq_some_iff.1 hb).1
  have hlv:∀ j,Live1 { s with boxes:=s.boxes.set b (.map (es.map fun e=>(e.1,e.2.plain))) } j→Live1 s j:=by
    rintro j ⟨bx,h1,h2⟩
    by_cases e:j=b
    · subst e;exact ⟨_,hb,by simp⟩
    · simp only at h1;rw [List.getElem?_set_ne (by omega)] at h1;exact ⟨bx,h1,h2⟩
  refine { os:=h.os,tape:=h.tape,out:=h.out,fz:=h.fz,n:=h.n,old:=h.old,m:=h.m,box:=?_,inj:=fun i j c h1 h2 l1 l2=>h.inj i j c h1 h2 (hlv i l1) (hlv j l2),dom:=fun j c hj=>by have:=h.dom j c hj;simpa using this,live:=h.live,uniq:=h.uniq,ldom:=h.ldom,o:=h.o,nd:=h.nd,sz:=h.sz }
  intro j bx hj
  by_cases e:j=b
  · subst e
    simp only at hj
    rw [List.getElem?_set_self hlt] at hj;cases hj
    obtain ⟨r,en,k,h1,h2,h3,h4⟩:=h.box j _ hb
    refine ⟨r,en,k,h1,h2,by simpa using h3,fun i q1 q2=>?_⟩
    have hi:i<es.length:=by simpa using q1
    have:=h4 i hi q2
    simp only [List.getElem_map]
    exact ⟨this.1,this.2.1.plain,this.2.2⟩
  · simp only at hj;rw [List.getElem?_set_ne (by omega)] at hj;exact h.box j bx hj
theorem SpecQ.plainMap {P:Program} {f:FuncId} {args:List D} {s:St} {Z Z2:D→St→Prop} (h:SpecQ P f args s Z)
    (hz:∀ r t,Z r t→∃ b es,t.boxes[b]? = some (.map es)∧Z2 r { t with boxes:=t.boxes.set b (.map (es.map fun e=>(e.1,e.2.plain))) }):SpecQ P f args s Z2 :=
  SpecQ.ghost h fun r s1 hZ w0 g0 w g v h0 hle hw hv=>by
    obtain ⟨b,es,h1,h2⟩:=hz r s1 hZ
    exact ⟨g,r,_,h2,hle,hw.plainMap h1,hv⟩
def entE0 (p:Pg):En:=⟨false,false,Hd.zero,Df.zero,p.d,p.threads⟩
def entM (p:Pg):List (D × D):=(.int .i64 0,.agg (entE0 p).cells)::p.heads.map fun h=>(.int .i64 h.id,.agg (openE p h).cells)
def rawE0 (p:Pg):D:=.agg (.bool false::.bool false::.int .i64 0::.int .i64 0::.int .i64 0::.slice .nil []::.slice .nil []::.int .i64 0::.int .i64 0::.str ⟨#[]⟩::.int .i64 0::.int .i64 0::.slice .nil []::.slice .nil []::.int .i64 0::.int .i64 0::.slice .nil []::.int .i64 0::.slice .nil []::(p.d.cells++[.slice .none (intCells p.threads)]))
def rawO (p:Pg) (h:Hd):D:=.agg (.bool true::.bool (findS p h.id).isSome::(h.cells++(((findS p h.id).getD Df.zero).cells++[.slice .nil [],.slice .nil [],.slice .nil [],.slice .nil [],.int .i64 0,.int .i64 0,.int .i64 0,.slice .nil []])))
def rawM (p:Pg) (l:List Hd):List (D × D):=(.int .i64 0,rawE0 p)::l.map fun h=>(.int .i64 h.id,rawO p h)
theorem rawM_plain (p:Pg):(rawM p p.heads).map (fun e=>(e.1,e.2.plain))=entM p:=by
  simp only [rawM,entM,List.map_cons,List.map_map]
  rfl
theorem mapFind_raw {p:Pg} {n:Int}:∀ {l:List Hd},n ∉ l.map (·.id)→∀ i,mapFind .i64 n (l.map fun h=>(D.int .i64 h.id,rawO p h)) i=some none
  | [],_,_=>rfl
  | h::l,hn,i=>by
    simp only [List.map_cons,List.mem_cons,not_or] at hn
    simp only [List.map_cons,mapFind,if_true,if_neg hn.1]
    exact mapFind_raw hn.2 _
def entX (p:Pg) (l:List Hd):List Box:=l.flatMap fun h=>[.cells h.cells,.cells ((findS p h.id).getD Df.zero).cells]
theorem t_entries (p:Pg) (hnd:(idsS p).Nodup) (B:List Box) (L:List Nat) (c:Nat):Spec Tryz.prog 31 [.agg p.cells] ⟨B,L,c⟩ (.map (B.length+1)) ⟨B++.cells p.cells::.map (entM p)::entX p p.heads,L,c⟩:=by
  show SpecQ _ _ _ _ _
  refine SpecQ.small fun hsm=>?_
  have hlen:p.heads.length≤281474976710656:=by
    have h1:=hsm (.agg p.cells) (by simp)
    cases h1 with
    | agg _ h1 =>
      have h2:=h1 (.slice .none (hdCells p.heads)) (by simp [Pg.cells])
      have:=h2.len;rw [hdCells_len] at this;exact this
  clear hsm
  refine SpecQ.plainMap (Z:=fun r s=>r=.map (B.length+1)∧s=⟨B++.cells p.cells::.map (rawM p p.heads)::entX p p.heads,L,c⟩) ?_ ?_
  rotate_left
  · rintro r t ⟨rfl,rfl⟩
    generalize entX p p.heads=X
    have hs:B++Box.cells p.cells::.map (rawM p p.heads)::X=(B++[Box.cells p.cells])++.map (rawM p p.heads)::X:=by simp
    have hl:(B++[Box.cells p.cells]).length=B.length+1:=by simp
    refine ⟨B.length+1,rawM p p.heads,?_,rfl,?_⟩
    · show (B++Box.cells p.cells::.map (rawM p p.heads)::X)[B.length+1]? = _
      rw [hs,← hl,List.getElem?_append_right (Nat.le_refl _),Nat.sub_self];rfl
    · rw [rawM_plain]
      show (⟨(B++Box.cells p.cells::.map (rawM p p.heads)::X).set (B.length+1) (.map (entM p)),L,c⟩:St)=_
      rw [hs,← hl,List.set_append_right _ _ (Nat.le_refl _),Nat.sub_self]
      simp
  refine SpecQ.introA [] Tryz.func31 rfl (by decide) hmix (by kernel_rfl) [ResultVar.tmp 2] 38 rfl rfl ?_
  simp only [vqM,vt91,Tryz.f31,zA,zS,zM,zL,zE,zB,reduceCtorEq,hdCells_len]
  have hput0:∀ es,mapPut .i64 0 es none []=[(.int .i64 0,es)]:=fun es=>rfl
  rw [hput0]
  refine awN_keep [1,3,16,17,18] ?_
  simp only [vke,zB,zA]
  refine awN_forR hmix p.heads.length (fun k e s=>e=[.junk,.box B.length 0,.junk,.map (B.length+1),.junk,.junk,.junk,.junk,.junk,.junk,.junk,.junk,.junk,.junk,.junk,.junk,.slice .none (hdCells p.heads),.int .i64 p.heads.length,.int .i64 (k:Int),.junk,.junk,.junk,.junk,.junk,.junk,.junk,.junk,.junk,.junk,.junk,.junk,.junk,.junk,.junk,.junk,.junk,.junk,.junk]∧s=⟨B++.cells p.cells::.map (rawM p (p.heads.take k))::entX p (p.heads.take k),L,c⟩) ?_ ?_ 0 _ _ (Nat.zero_le _) ⟨rfl,rfl⟩
  · rintro k e s hk ⟨rfl,rfl⟩ ih
    have hx:p.heads[k]? = some p.heads[k]:=List.getElem?_eq_getElem hk
    have hg:(hdCells p.heads)[k]? = some (p.heads[k].cells):=by simp [hdCells,hx]
    have hklt:((k:Int)<(p.heads.length:Int))=True:=by simp;exact hk
    have hnext:p.heads.take (k+1)=p.heads.take k++[p.heads[k]]:=by rw [List.take_add_one,hx];rfl
    obtain ⟨hn0,hnd2⟩:=List.nodup_cons.1 hnd
    have hne:p.heads[k].id≠0:=fun e=>hn0 (List.mem_map.2 ⟨_,List.getElem_mem hk,e⟩)
    have hni:p.heads[k].id ∉ (p.heads.take k).map (·.id):=by
      intro hm
      obtain ⟨j,hj,he⟩:=List.getElem_of_mem hm
      simp at hj
      have:=(List.getElem_inj (h₀:=by simp;omega) (h₁:=by simpa using hk) hnd2 (i:=j) (j:=k)).1 (by simpa using he)
      omega
    generalize p.heads[k]=h at hx hg hnext hne hni
    have hfind:mapFind .i64 h.id (rawM p (p.heads.take k)) 0=some none:=by
      simp only [rawM,mapFind,if_true,if_neg hne]
      exact mapFind_raw hni _
    have hput:∀ v,mapPut .i64 h.id v none (rawM p (p.heads.take k))=rawM p (p.heads.take k)++[(.int .i64 h.id,v)]:=fun v=>rfl
    simp only [vqM,vt91,zA,zS,zM,zL,zE,zB,reduceCtorEq,hklt,decide_true,natle0,Int.toNat_natCast,hg]
    refine callI_spec (t_Find p h.id _) ?_
    simp only [vqM,vt91,zA,zS,zM,zL,zE,zB,reduceCtorEq,findSD,hklt,decide_true,natle0,Int.toNat_natCast,hg,hfind,hput]
    rw [wrap_succ (by omega)]
    refine awN_keep [1,3,16,17,18] ?_
    simp only [vke,zB,zA]
    refine ih _ _ ⟨rfl,?_⟩
    have hxn:entX p (p.heads.take k++[h])=entX p (p.heads.take k)++([.cells h.cells,.cells ((findS p h.id).getD Df.zero).cells]:List Box):=by simp [entX]
    have hsn:rawM p (p.heads.take k++[h])=rawM p (p.heads.take k)++[(.int .i64 h.id,rawO p h)]:=by simp [rawM]
    rw [hnext,hsn,hxn]
    rfl
  · rintro e s ⟨rfl,rfl⟩
    have hklt:((p.heads.length:Int)<(p.heads.length:Int))=False:=by simp
    rw [List.take_length]
    simp only [vqM,vt91,zA,zS,zM,zL,zE,zB,reduceCtorEq,hklt,decide_false]
    refine retA (.inr rfl) ?_ ⟨rfl,rfl⟩
    simp only [vqM,vt91,zA,zS,zM,zL,zE,zB,reduceCtorEq]
theorem at_ints {l:List Int} {rest:List D} {i:Nat} (h:i<l.length):((ints l++rest).drop i)[0]? = some (.int .i64 l[i]):=by
  rw [List.getElem?_drop,Nat.add_zero,List.getElem?_append_left (by simpa [ints] using h)]
  simp [ints,h]
theorem t_idxK (f:D) (p:Int→Bool) (l:List Int) (rest:List D) {C:List Box} {b:Nat} {L:List Nat} {c:Nat} (hb:C[b]? = some (.cells (ints l++rest))) (hl:l.length≤1000000) (hp:∀ x,CallV Tryz.prog f [.int .i64 x] ⟨C,L,c⟩ (.bool (p x)) ⟨C,L,c⟩) :
    Spec Tryz.prog 59 [.row b 0 l.length 1,f] ⟨C,L,c⟩ (.int .i64 (idxP p l)) ⟨C,L,c⟩:=by
  refine Spec.introN [] Tryz.func59 rfl (by decide) hmix (by kernel_rfl) [ResultVar.tmp 4] 19 rfl rfl ?_
  simp only [vqM,vt25,Tryz.f59,zA,zS,zM,zL,zE,zB,reduceCtorEq]
  refine awN_keep [0,1,7,8] ?_
  simp only [vke,zB,zA]
  refine awN_for hmix l.length (fun k=>[.row b 0 l.length 1,f,.junk,.junk,.junk,.junk,.junk,.int .i64 l.length,.int .i64 (k:Int),.junk,.junk,.junk,.junk,.junk,.junk,.junk,.junk,.junk,.junk]) (fun _=>⟨C,L,c⟩) (fun k=>∀ j (h:j<l.length),j<k→p l[j]=false) ?_ ?_ 0 (Nat.zero_le _) (by intro j _ h;omega)
  · intro k hk hI ih
    have hg:=at_ints (rest:=rest) hk
    have hklt:((k:Int)<(l.length:Int))=True:=by simp;exact hk
    have hkl:(0≤(k:Int)∧(k:Int)<(l.length:Int))=True:=by simp;exact hk
    simp only [vqM,vt25,zA,zS,zM,zL,zE,zB,reduceCtorEq,hb,hklt,hkl,decide_true,natle0,Int.toNat_natCast,hg,Nat.mul_one,Nat.zero_add]
    refine callI_of (hp _) ?_
    simp only [vqM,vt25,zA,zS,zM,zL,zE,zB,reduceCtorEq]
    refine ifI_intro (fun hc=>?_) (fun hc=>?_)
    · simp only [vqM,vt25,zA,zS,zM,zL,zE,zB,reduceCtorEq]
      refine ret_here (.inr rfl) ?_ (.int _ _)
      simp only [vqM,vt25,zA,zS,zM,zL,zE,zB,reduceCtorEq]
      rw [idxP_at hk hc hI]
    · simp only [vqM,vt25,zA,zS,zM,zL,zE,zB,reduceCtorEq]
      rw [wrap_succ (by omega)]
      refine awN_keep [0,1,7,8] ?_
      simp only [vke,zB,zA]
      refine ih fun j hj hjk=>?_
      by_cases e:j=k
      · subst e;exact hc
      · exact hI j hj (by omega)
  · intro hI
    have hklt:((l.length:Int)<(l.length:Int))=False:=by simp
    simp only [vqM,vt25,zA,zS,zM,zL,zE,zB,reduceCtorEq,hklt,decide_false]
    refine ret_here (.inr rfl) ?_ (.int _ _)
    simp only [vqM,vt25,zA,zS,zM,zL,zE,zB,reduceCtorEq]
    rw [idxP_none hI]
def keepP (p:Int→Bool) (l:List Int):List Int:=l.filter fun x=>!p x
theorem keepP_succ {p:Int→Bool} {l:List Int} {j:Nat} (h:j<l.length):keepP p (l.take (j+1))=if p l[j] then keepP p (l.take j) else keepP p (l.take j)++[l[j]]:=by
  rw [List.take_add_one,List.getElem?_eq_getElem h,keepP,Option.toList_some,List.filter_append]
  cases hp:p l[j] <;> simp [keepP,hp]
theorem sl_fromA {E e:TypeId} {by_:Nat} {ag:Bool} {b off n k:Nat} (h2:k<n):slR (some (.slice E)) (some (e,1,by_,ag)) b off n 1 (some (.int .i64 (k:Int))) none=some (.row b (off+k * 1) (n - k) 1):=by
  by_cases h:k=0
  · subst h;simp [slR,evBd]
  · exact sl_from (by omega) h2
theorem t_DeleteF (f:D) (hfp:f.plain=f) (p:Int→Bool) (l:List Int) (rest:List D) {C:List Box} {b:Nat} {L:List Nat} {c:Nat} (hb:C[b]? = some (.cells (ints l++rest))) (hl:l.length≤100000)
    (hp:∀ cs x,CallV Tryz.prog f [.int .i64 x] ⟨C.set b (.cells cs),L,c⟩ (.bool (p x)) ⟨C.set b (.cells cs),L,c⟩) :
    SpecQ Tryz.prog 32 [.row b 0 l.length 1,f] ⟨C,L,c⟩ fun r s=>∃ cs,r=.row b 0 (keepP p l).length 1∧cs.take (keepP p l).length=ints (keepP p l)∧s=⟨C.set b (.cells cs),L,c⟩:=by
  have hbl:=(List.getElem?_eq_some_iff.1 hb).1
  have hself:C.set b (.cells (ints l++rest))=C:=by
    refine List.ext_getElem? fun i=>?_
    by_cases e:i=b
    · subst e;rw [List.getElem?_set_self hbl,hb]
    · rw [List.getElem?_set_ne (fun h=>e h.symm)]
  have hget:∀ X,(C.set b (.cells X))[b]? = some (.cells X):=fun X=>List.getElem?_set_self hbl
  have hset:∀ X Y,(C.set b (.cells X)).set b (.cells Y)=C.set b (.cells Y):=fun X Y=>List.set_set ..
  have hp0:∀ x,CallV Tryz.prog f [.int .i64 x] ⟨C,L,c⟩ (.bool (p x)) ⟨C,L,c⟩:=fun x=>by have:=hp (ints l++rest) x;rwa [hself] at this
  refine SpecQ.introA [] Tryz.func32 rfl (by decide) hmix (by kernel_rfl) [ResultVar.tmp 4] 42 rfl rfl ?_
  simp only [vqM,vt92,Tryz.f32,zA,zS,zM,zL,zE,zB,reduceCtorEq,hfp]
  refine callI_spec (t_idxK f p l rest hb (by omega) hp0) ?_
  cases hfi:l.findIdx? p with
  | none =>
    have hid:idxP p l = -1:=by simp [idxP,hfi]
    rw [List.findIdx?_eq_none_iff] at hfi
    have hk:keepP p l=l:=List.filter_eq_self.2 fun x hx=>by simp [hfi x hx]
    rw [hid]
    simp only [vqM,vt92,zA,zS,zM,zL,zE,zB,reduceCtorEq,decide_true,decide_false]
    refine retA (.inr rfl) (r:=.row b 0 l.length 1) ?_ ⟨ints l++rest,by rw [hk],by rw [hk,List.take_append_of_le_length (by simp [ints]),List.take_of_length_le (by simp [ints])],by rw [hself]⟩
    simp only [vqM,vt92,zA,zS,zM,zL,zE,zB,reduceCtorEq]
  | some i0 =>
    have hid:idxP p l=i0:=by simp [idxP,hfi]
    obtain ⟨hil,hpi,hbef⟩:=List.findIdx?_eq_some_iff_getElem.1 hfi
    have hk0:keepP p (l.take i0)=l.take i0:=List.filter_eq_self.2 fun x hx=>by
      obtain ⟨j,hj,rfl⟩:=List.getElem_of_mem hx
      simp at hj
      have:=hbef j (by omega)
      simpa using this
    have hk1:keepP p (l.take (i0+1))=l.take i0:=by rw [keepP_succ hil,if_pos hpi,hk0]
    have d1:((i0:Int) = -1)=False:=by simp
    rw [hid]
    simp only [vqM,vt92,zA,zS,zM,zL,zE,zB,reduceCtorEq,d1,decide_false]
    rw [wrap_succ (by omega),← hself]
    refine awN_keep [0,1,5,6] ?_
    simp only [vke,zB,zA]
    refine awN_forR hmix (l.length - (i0+1)) (fun k e s=>∃ (cur:List Int) (K:Nat),e=[.row b 0 l.length 1,f,.junk,.junk,.junk,.int .i64 (K:Int),.int .i64 ((i0+1+k:Nat):Int),.junk,.junk,.junk,.junk,.junk,.junk,.junk,.junk,.junk,.junk,.junk,.junk,.junk,.junk,.junk,.junk,.junk,.junk,.junk,.junk,.junk,.junk,.junk,.junk,.junk,.junk,.junk,.junk,.junk,.junk,.junk,.junk,.junk,.junk,.junk]∧cur.length=l.length∧K=(keepP p (l.take (i0+1+k))).length ∧
        cur.take K=keepP p (l.take (i0+1+k))∧cur.drop (i0+1+k)=l.drop (i0+1+k)∧K<i0+1+k∧s=⟨C.set b (.cells (ints cur++rest)),L,c⟩) ?_ ?_ 0 _ _ (Nat.zero_le _) ⟨l,i0,rfl,rfl,by rw [Nat.add_zero,hk1];simp;omega,by rw [Nat.add_zero,hk1],by rfl,by omega,rfl⟩
    · rintro k e s hk ⟨cur,K,rfl,q1,q2,q3,q4,q5,rfl⟩ ih
      have hj:i0+1+k<l.length:=by omega
      have a0:decide (((i0+1+k:Nat):Int)<(l.length:Int))=true:=by simp;omega
      have a2:(0≤((i0+1+k:Nat):Int)∧((i0+1+k:Nat):Int)<(l.length:Int))=True:=by simp;omega
      have a4:(0≤(K:Int)∧(K:Int)<(l.length:Int))=True:=by simp;omega
      have hcj:cur[i0+1+k]'(by omega)=l[i0+1+k]:=by
        have:=congrArg (fun z=>z[0]?) q4
        simpa [q1,hj] using this
      have b1:((ints cur++rest).drop (i0+1+k))[0]? = some (.int .i64 l[i0+1+k]):=by rw [at_ints (by omega),hcj]
      have hsn:=keepP_succ (p:=p) hj
      generalize l[i0+1+k]=x at hcj b1 hsn
      simp only [vqM,vt92,zA,zS,zM,zL,zE,zB,reduceCtorEq,a0,a2,b1,hget,Int.toNat_natCast,Nat.mul_one,Nat.zero_add]
      refine callI_of (hp _ x) ?_
      simp only [vqM,vt92,zA,zS,zM,zL,zE,zB,reduceCtorEq,a0,a2,b1,hget,Int.toNat_natCast,Nat.mul_one,Nat.zero_add]
      refine ifI_intro (fun hx=>?_) (fun hx=>?_)
      · have hx':p x=false:=by simpa using hx
        rw [hx'] at hsn
        have a5:(K+1≤(ints cur++rest).length)=True:=by simp [ints];omega
        have c1:(ints cur++rest).take K++D.int .i64 x::(ints cur++rest).drop (K+1)=ints (cur.take K++x::cur.drop (K+1))++rest:=by
          rw [List.take_append_of_le_length (by simp [ints];omega),List.drop_append_of_le_length (by simp [ints];omega)]
          simp [ints]
        simp only [vqM,vt92,zA,zS,zM,zL,zE,zB,reduceCtorEq,a0,a2,a4,a5,b1,c1,hget,hset,Int.toNat_natCast,Nat.mul_one,Nat.zero_add]
        rw [show IntKind.i64.wrap ((K:Int)+1)=((K+1:Nat):Int) from wrap_succ (by omega),show IntKind.i64.wrap (((i0+1+k:Nat):Int)+1)=((i0+1+(k+1):Nat):Int) from wrap_succ (by omega)]
        refine awN_keep [0,1,5,6] ?_
        simp only [vke,zB,zA]
        have hlt:(cur.take K).length=K:=by simp;omega
        refine ih _ _ ⟨_,K+1,rfl,?_,?_,?_,?_,by omega,rfl⟩
        · simp;omega
        · rw [show i0+1+(k+1)=i0+1+k+1 from by omega,hsn,q2];simp
        · rw [show i0+1+(k+1)=i0+1+k+1 from by omega,hsn,← q3,List.take_append,List.take_of_length_le (by omega),hlt]
          simp [show K+1 - K=1 from by omega]
        · rw [List.drop_append,List.drop_of_length_le (by omega),hlt,show i0+1+(k+1) - K=(i0+1+k - K)+1 from by omega]
          simp only [List.nil_append,List.drop_succ_cons,List.drop_drop]
          have:=congrArg (List.drop 1) q4
          rw [List.drop_drop,List.drop_drop] at this
          rw [show K+1+(i0+1+k - K)=i0+1+k+1 from by omega,this];rfl
      · have hx':p x=true:=by simpa using hx
        rw [hx'] at hsn
        simp only [vqM,vt92,zA,zS,zM,zL,zE,zB,reduceCtorEq]
        rw [show IntKind.i64.wrap (((i0+1+k:Nat):Int)+1)=((i0+1+(k+1):Nat):Int) from wrap_succ (by omega)]
        refine awN_keep [0,1,5,6] ?_
        simp only [vke,zB,zA]
        refine ih _ _ ⟨cur,K,rfl,q1,?_,?_,?_,by omega,rfl⟩
        · rw [show i0+1+(k+1)=i0+1+k+1 from by omega,hsn,q2];rfl
        · rw [show i0+1+(k+1)=i0+1+k+1 from by omega,hsn,q3];rfl
        · have:=congrArg (List.drop 1) q4
          rw [List.drop_drop,List.drop_drop] at this;exact this
    · rintro e s ⟨cur,K,rfl,q1,q2,q3,q4,q5,rfl⟩
      have hall:l.take (i0+1+(l.length - (i0+1)))=l:=List.take_of_length_le (by omega)
      rw [hall] at q2 q3
      have a0:decide (((i0+1+(l.length - (i0+1)):Nat):Int)<(l.length:Int))=false:=by simp;omega
      have hcl:K+(l.length - K) * 1≤(ints cur++rest).length:=by simp [ints];omega
      simp only [vqM,vt92,zA,zS,zM,zL,zE,zB,reduceCtorEq,a0,hget,hset,sl_fromA (show K<l.length by omega),sl_to (show K≤l.length by omega),Nat.mul_one,Nat.zero_add,evClear_rw,clR_w,clR2_w hcl]
      refine retA (.inr rfl) (r:=.row b 0 K 1) ?_ ⟨_,by rw [q2],?_,rfl⟩
      · simp only [vqM,vt92,zA,zS,zM,zL,zE,zB,reduceCtorEq]
      · rw [← q2];(try rw [storeD]);rw [List.take_append_of_le_length (by simp [ints];omega),List.take_of_length_le (by simp [ints];omega),List.take_append_of_le_length (by simp [ints];omega)]
        rw [show (ints cur).take K=ints (cur.take K) from by simp [ints],q3]
def En.zc:List D:=[.bool false,.bool false,.int .i64 0,.int .i64 0,.int .i64 0,.slice .nil [],.slice .nil [],.int .i64 0,.int .i64 0,.str ⟨#[]⟩,.int .i64 0,.int .i64 0,.slice .nil [],.slice .nil [],.int .i64 0,.int .i64 0,.slice .nil [],.int .i64 0,.slice .nil [],.slice .nil [],.slice .nil [],.slice .nil [],.slice .nil [],.int .i64 0,.int .i64 0,.int .i64 0,.slice .nil []]
def lookE (p:Pg) (id:Int):D:=if id ∈ idsS p then .agg (entE p id).cells else .agg En.zc
theorem lookE_plain (p:Pg) (id:Int):(lookE p id).plain=.agg (entE p id).cells:=by
  unfold lookE
  split
  · exact congrArg D.agg (En.plain _)
  · rename_i h
    rw [entE_out h];rfl
theorem mapFind_some {f:Hd→D} {h:Hd}:∀ {l:List Hd},l.Pairwise (fun a b=>a.id<b.id)→h ∈ l→∀ i,∃ q,mapFind .i64 h.id (l.map fun x=>(D.int .i64 x.id,f x)) i=some (some (q,f h))
  | [],_,hm,_=>by simp at hm
  | x::l,hp,hm,i=>by
    obtain ⟨h1,h2⟩:=List.pairwise_cons.1 hp
    simp only [List.map_cons,mapFind,if_true]
    rcases List.mem_cons.1 hm with rfl | hm
    · exact ⟨i,by simp⟩
    · have:=h1 h hm
      have hne:¬ h.id=x.id:=by omega
      rw [if_neg hne]
      exact mapFind_some h2 hm _
theorem mapFind_none {f:Hd→D} {n:Int}:∀ {l:List Hd},n ∉ l.map (·.id)→∀ i,mapFind .i64 n (l.map fun x=>(D.int .i64 x.id,f x)) i=some none
  | [],_,_=>rfl
  | h::l,hn,i=>by
    simp only [List.map_cons,List.mem_cons,not_or] at hn
    simp only [List.map_cons,mapFind,if_true,if_neg hn.1]
    exact mapFind_none hn.2 _
theorem look_ent {p:Pg} (N:Nrm p) (id:Int):Option.map (fun r=>lookD r (.agg En.zc) false) (mapFind .i64 id (entM p) 0)=some (lookE p id):=by
  unfold lookE
  by_cases h0:id=0
  · subst h0
    have e0:entE p 0=entE0 p:=by rw [entE,if_pos rfl];rfl
    simp only [entM,mapFind,if_true,idsS,List.mem_cons,true_or,e0]
    rfl
  · by_cases hm:id ∈ p.heads.map (·.id)
    · obtain ⟨h,hh,rfl⟩:=List.mem_map.1 hm
      obtain ⟨q,hq⟩:=mapFind_some (f:=fun h=>.agg (openE p h).cells) N.hid hh 1
      have e0:entE p h.id=openE p h:=by rw [entE,if_neg h0,headS_of N hh]
      simp only [entM,mapFind,if_true,if_neg h0,hq,idsS,List.mem_cons,hm,or_true,e0]
      rfl
    · have hq:=mapFind_none (f:=fun h=>.agg (openE p h).cells) hm 1
      have hni:¬ id ∈ idsS p:=by simp [idsS,h0];simpa using hm
      simp only [entM,mapFind,if_true,if_neg h0,hq,if_neg hni]
      rfl
theorem t_chg1 {p q:Pg} (N1:Nrm p) (N2:Nrm q) (id:Int) {C:List Box} {ix iy mx my:Nat} {L:List Nat} {c:Nat} (h1:C[ix]? = some (.cells [.map mx])) (h2:C[iy]? = some (.cells [.map my])) (h3:C[mx]? = some (.map (entM p))) (h4:C[my]? = some (.map (entM q))) :
    Spec Tryz.prog 34 [.int .i64 id,.box ix 0,.box iy 0] ⟨C,L,c⟩ (.bool (decide (entE p id=entE q id))) ⟨C,L,c⟩:=by
  have l1:=look_ent N1 id
  have l2:=look_ent N2 id
  have p1:=lookE_plain p id
  have p2:=lookE_plain q id
  unfold En.zc at l1 l2
  refine Spec.introN [] Tryz.func34 rfl (by decide) hmix (by kernel_rfl) [ResultVar.tmp 4] 12 rfl rfl ?_
  simp only [vqM,vt89,Tryz.f34,zA,zS,zM,zL,zE,zB,reduceCtorEq,h1,h2,h3,h4,l1,l2,p1,p2]
  refine callI_spec (t_same _ _ _) ?_
  simp only [vqM,vt89,zA,zS,zM,zL,zE,zB,reduceCtorEq]
  refine ret_here (.inr rfl) ?_ (.bool _)
  simp only [vqM,vt89,zA,zS,zM,zL,zE,zB,reduceCtorEq]
theorem ms_ok {p:Pg} (hl:p.heads.length≤900) {B:List Box} {b:Nat} (hb:B[b]? = some (.map (entM p))):Ms.Ok B ⟨b,entM p,idsS p⟩ where
  bx:=hb
  ks:=by simp [entM,idsS]
  ln:=by simp [idsS];omega
  ne:=by simp [idsS]
def Ch2 (p q:Pg) (B:List Box) (L:List Nat) (c:Nat) (e:List D) (s:St):Prop :=
  ∃ ix iy mx my X,keep [5,6,8,10] e=[.junk,.junk,.junk,.junk,.junk,.box ix 0,.box iy 0,.junk,.map mx,.junk,.map my,.junk,.junk,.junk,.junk,.junk,.junk]∧s=⟨B++X,L,c⟩∧(B++X)[ix]? = some (.cells [.map mx])∧(B++X)[iy]? = some (.cells [.map my])∧(B++X)[mx]? = some (.map (entM p))∧(B++X)[my]? = some (.map (entM q))
theorem ch2_mk {p q:Pg} {B X:List Box} {L:List Nat} {c ix iy mx my:Nat} {e:List D} {s:St} (h1:keep [5,6,8,10] e=[.junk,.junk,.junk,.junk,.junk,.box ix 0,.box iy 0,.junk,.map mx,.junk,.map my,.junk,.junk,.junk,.junk,.junk,.junk]) (h2:s=⟨B++X,L,c⟩) (h3:(B++X)[ix]? = some (.cells [.map mx])) (h4:(B++X)[iy]? = some (.cells [.map my])) (h5:(B++X)[mx]? = some (.map (entM p))) (h6:(B++X)[my]? = some (.map (entM q))):Ch2 p q B L c e s :=
  ⟨ix,iy,mx,my,X,h1,h2,h3,h4,h5,h6⟩
theorem Nrm.ids {p:Pg} (N:Nrm p):(idsS p).Nodup:=by
  refine List.nodup_cons.2 ⟨fun h=>?_,?_⟩
  · obtain ⟨x,hx,e⟩:=List.mem_map.1 h
    have:=N.pos x hx
    omega
  · rw [List.nodup_iff_pairwise_ne,List.pairwise_map]
    exact N.hid.imp fun h=>by omega
theorem t_Changed (p q:Pg) (N1:Nrm p) (N2:Nrm q) (hl1:p.heads.length≤900) (hl2:q.heads.length≤900) (s:St):Spec Tryz.prog 16 [.agg p.cells,.agg q.cells] s (.slice .none (intCells (changedS p q))) s:=by
  refine Spec.wf fun hW=>?_
  obtain ⟨B,L,c⟩:=s
  have hW0:WfL L c:=⟨hW.nd,hW.lt⟩
  refine SpecQ.freeze (Z:=fun r s=>∃ X L' c',s=⟨B++X,L',c'⟩∧(∀ k ∈ L,k ∈ L')∧c≤c'∧((r=.row0∧intCells (changedS p q)=[]) ∨ ∃ b off n sz cs,r=.row b off n sz∧B.length≤b∧(B++X)[b]? = some (.cells cs)∧(intCells (changedS p q)).flatten=(cs.drop off).take (n * sz)∧(intCells (changedS p q)).length=n∧(∀ x ∈ intCells (changedS p q),x.length=sz))) ?_ (bd_intSl _) (fun r s h=>h)
  have hk1:(idsS p).Nodup:=N1.ids
  have hk2:(idsS q).Nodup:=N2.ids
  refine SpecQ.introA [(0,.cut),(1,.stop)] Tryz.func16 rfl (by decide) hmix (by kernel_rfl) [ResultVar.tmp 4] 17 rfl rfl ?_
  simp only [vqM,vt93,Tryz.f16,zA,zS,zM,zL,zE,zB,reduceCtorEq]
  refine seq_go ?_
  simp only [vqM,vt93,zA,zS,zM,zL,zE,zB,reduceCtorEq,vsK]
  refine awN_seq ?_
  refine awN_open fun _=>?_
  refine awI_cutI (Ch2 p q B L c) ?_ ?_
  · skip
    refine awI_drawM hmix [1,3,4,5,6,7] [⟨[0,1,2,3,4,5,6,7],[(2,0)]⟩,⟨[0,1,2,3,5,4,6,7],[(2,0)]⟩,⟨[0,1,2,4,3,5,6,7],[(2,0),(2,2)]⟩,⟨[0,1,2,4,5,3,6,7],[(2,0),(2,2),(2,3)]⟩,⟨[0,1,2,5,3,4,6,7],[(2,0),(2,2)]⟩,⟨[0,1,2,5,4,3,6,7],[(2,0),(2,2),(2,3)]⟩,⟨[0,4,1,2,3,5,6,7],[(0,1),(2,0),(2,1)]⟩,⟨[0,4,1,2,5,3,6,7],[(0,1),(2,0),(2,1),(2,3)]⟩,⟨[0,4,5,1,2,3,6,7],[(0,1),(0,2),(2,0),(2,1),(2,2)]⟩,⟨[0,5,1,2,3,4,6,7],[(0,1),(2,0),(2,1)]⟩,⟨[0,5,1,2,4,3,6,7],[(0,1),(2,0),(2,1),(2,3)]⟩,⟨[0,5,4,1,2,3,6,7],[(0,1),(0,2),(2,0),(2,1),(2,2)]⟩] (by kernel_rfl) fun pl hpl=>?_
    simp only [List.mem_cons,List.not_mem_nil,or_false] at hpl
    rcases hpl with rfl | rfl | rfl | rfl | rfl | rfl | rfl | rfl | rfl | rfl | rfl | rfl
    all_goals
      simp only [vqM,vt93,zA,zS,zM,zL,zE,zB,reduceCtorEq,List.getD_cons_zero,List.getD_cons_succ,List.contains_cons,List.contains_nil,Bool.or_false,Bool.or_true,Bool.true_or,Bool.false_or]
      refine callI_spec (t_entries p hk1 _ _ _) ?_
      simp only [vqM,vt93,zA,zS,zM,zL,zE,zB,reduceCtorEq,List.getD_cons_zero,List.getD_cons_succ,List.contains_cons,List.contains_nil,Bool.or_false,Bool.or_true,Bool.true_or,Bool.false_or]
      refine callI_spec (t_entries q hk2 _ _ _) ?_
      simp only [vqM,vt93,zA,zS,zM,zL,zE,zB,reduceCtorEq,List.getD_cons_zero,List.getD_cons_succ,List.contains_cons,List.contains_nil,Bool.or_false,Bool.or_true,Bool.true_or,Bool.false_or]
      generalize entX p p.heads=XP
      generalize entX q q.heads=XQ
      have hadd:∀ a,B.length+a+1=B.length+(a+1):=fun _=>rfl
      refine meet_intro ?_
      apply ch2_mk
      · simp only [vke,zB,zA]
        rfl
      · rfl
      all_goals (first | (simp only [hadd,box_at,box_at0,List.getElem?_cons_succ,List.getElem?_cons_zero];done) | (simp only [hadd,box_at,box_at0,List.getElem?_cons_succ,List.getElem?_cons_zero];rfl) | (simp only [hadd,zA,box_at];rfl) | trace_state)
  · rintro e s ⟨ix,iy,mx,my,X,he,rfl,h1,h2,h3,h4⟩
    have g1:∀ Y,(B++X++Y)[ix]? = some (.cells [.map mx]):=fun Y=>box_lt h1
    have g2:∀ Y,(B++X++Y)[iy]? = some (.cells [.map my]):=fun Y=>box_lt h2
    have g3:∀ Y,(B++X++Y)[mx]? = some (.map (entM p)):=fun Y=>box_lt h3
    have g4:∀ Y,(B++X++Y)[my]? = some (.map (entM q)):=fun Y=>box_lt h4
    have lx:=(List.getElem?_eq_some_iff.1 h1).1
    have ly:=(List.getElem?_eq_some_iff.1 h2).1
    have lmx:=(List.getElem?_eq_some_iff.1 h3).1
    have lmy:=(List.getElem?_eq_some_iff.1 h4).1
    simp only [vqM,vt93,zA,zS,zM,zL,zE,zB,reduceCtorEq,vsK]
    refine awN_keep [5,6,8,10] ?_
    rw [he]
    refine awN_cw hmix ?_
    simp only [vqM,vt93,zA,zS,zM,zL,zE,zB,reduceCtorEq,h1,h2]
    refine callI_specQ (t_keys [⟨mx,entM p,idsS p⟩,⟨my,entM q,idsS q⟩] (B++X) ?_ (by simp) (by simp) L c hW0) ?_
    · intro x hx
      rcases List.mem_cons.1 hx with rfl | hx
      · exact ms_ok hl1 h3
      · rcases List.mem_cons.1 hx with rfl | hx
        · exact ms_ok hl2 h4
        · simp at hx
    rintro r t ⟨b,cs,X2,rfl,hX2,hcs,rfl⟩
    have hk:compL (sortI (allK [⟨mx,entM p,idsS p⟩,⟨my,entM q,idsS q⟩]))=keysS [p,q]:=rfl
    rw [hk] at hcs ⊢
    have hbl:=(List.getElem?_eq_some_iff.1 hX2).1
    have hlen:(keysS [p,q]).length≤100000:=by
      have h1:=compL_le (sortI (allK [⟨mx,entM p,idsS p⟩,⟨my,entM q,idsS q⟩]))
      have h2:(sortI (allK [⟨mx,entM p,idsS p⟩,⟨my,entM q,idsS q⟩])).length=_:=(List.mergeSort_perm _ _).length_eq
      rw [hk,h2] at h1
      simp [allK,idsS] at h1
      omega
    have hcs2:cs=ints (keysS [p,q])++cs.drop (keysS [p,q]).length:=by rw [← hcs];exact (List.take_append_drop _ _).symm
    have hb:(B++X++X2)[(B++X).length+b]? = some (.cells (ints (keysS [p,q])++cs.drop (keysS [p,q]).length)):=by rw [box_at,← hcs2];exact hX2
    simp only [vqM,vt93,zA,zS,zM,zL,zE,zB,reduceCtorEq,h1,h2]
    rw [List.append_assoc] at hb
    rw [show (B++X).length=B.length+X.length from List.length_append] at hb
    have hge:∀ i,i<(B++X).length→∀ y,((B++(X++X2)).set (B.length+X.length+b) y)[i]? = (B++X)[i]?:=fun i hi y=>by
      rw [List.getElem?_set_ne (by simp at hi;omega),← List.append_assoc,List.getElem?_append_left hi]
    refine callI_specQ (t_DeleteF (.func (.func 34) [] [.box ix 0,.box iy 0]) rfl (fun id=>decide (entE p id=entE q id)) (keysS [p,q]) _ hb hlen fun cs x=>?_) ?_
    · refine (show CallVQ _ _ _ _ _ from ?_)
      simp only [CallVQ,List.nil_append,List.cons_append]
      exact t_chg1 N1 N2 x (by rw [hge _ lx];exact h1) (by rw [hge _ ly];exact h2) (by rw [hge _ lmx];exact h3) (by rw [hge _ lmy];exact h4)
    rintro r t ⟨cs2,rfl,hcs3,rfl⟩
    have hkp:keepP (fun id=>decide (entE p id=entE q id)) (keysS [p,q])=changedS p q:=rfl
    rw [hkp] at hcs3 ⊢
    have hbig:B.length+X.length+b<(B++(X++X2)).length:=(List.getElem?_eq_some_iff.1 hb).1
    have hset:(B++(X++X2)).set (B.length+X.length+b) (.cells cs2)=B++(X++X2).set (X.length+b) (.cells cs2):=by
      rw [List.set_append_right _ _ (by omega)]
      congr 2
      omega
    simp only [vqM,vt93,zA,zS,zM,zL,zE,zB,reduceCtorEq]
    refine retA (.inr rfl) (r:=.row (B.length+X.length+b) 0 (changedS p q).length 1) ?_ ⟨(X++X2).set (X.length+b) (.cells cs2),L,c,by rw [hset],fun _ h=>h,Nat.le_refl _,.inr ⟨_,_,_,_,cs2,rfl,by omega,?_,?_,by simp [intCells],?_⟩⟩
    · simp only [vqM,vt93,zA,zS,zM,zL,zE,zB,reduceCtorEq]
    · rw [← hset,List.getElem?_set_self hbig]
    · rw [Nat.mul_one,List.drop_zero,hcs3,ints_flat]
    · intro x hx
      obtain ⟨y,_,rfl⟩:=List.mem_map.1 hx
      rfl
structure Own3 (L:List Nat) (c za zb zd:Nat) (a b d:Own) (L':List Nat) (c':Nat):Prop where
  wf:WfL L' c'
  la:LiveO a za L'
  lb:LiveO b zb L'
  ld:LiveO d zd L'
  ab:Apart a b
  bd:Apart b d
  da:Apart d a
  sub:∀ k ∈ L,k ∈ L'
  le:c≤c'
  na:∀ k y,a=.lab k y→c≤k
  nb:∀ k y,b=.lab k y→c≤k
  nd:∀ k y,d=.lab k y→c≤k
theorem Apart.symm {a b:Own} (h:Apart a b):Apart b a:=fun k z k' z' e1 e2=>(h k' z' k z e2 e1).symm
theorem Own3.rot {L:List Nat} {c za zb zd:Nat} {a b d:Own} {L':List Nat} {c':Nat} (h:Own3 L c za zb zd a b d L' c'):Own3 L c zb zd za b d a L' c' :=
  ⟨h.wf,h.lb,h.ld,h.la,h.bd,h.da,h.ab,h.sub,h.le,h.nb,h.nd,h.na⟩
theorem Own3.start {L:List Nat} {c:Nat} (h:WfL L c) (za zb zd:Nat):Own3 L c za zb zd .nil .nil .nil L c :=
  ⟨h,.inl rfl,.inl rfl,.inl rfl,fun _ _ _ _ e=>(by cases e),fun _ _ _ _ e=>(by cases e),fun _ _ _ _ e=>(by cases e),fun _ h=>h,Nat.le_refl _,fun _ _ e=>(by cases e),fun _ _ e=>(by cases e),fun _ _ e=>(by cases e)⟩
theorem LiveO.lt {o:Own} {z:Nat} {L:List Nat} {c:Nat} (h:LiveO o z L) (hw:WfL L c):∀ k y,o=.lab k y→k<c:=fun k y e=>by
  rcases h with h | ⟨j,h,hj⟩
  · rw [h] at e;cases e
  · rw [h] at e;cases e;exact hw.lt _ hj
theorem Own3.step {L:List Nat} {c za zb zd:Nat} {a b d:Own} {L':List Nat} {c':Nat} (h0:WfL L c) (h:Own3 L c za zb zd a b d L' c'):Own3 L c za zb zd (.lab c' za) b d (c'::eraseO L' a) (c'+1) where
  wf:=h.wf.relab a
  la:=.inr ⟨c',rfl,by simp⟩
  lb:=h.lb.erase h.ab
  ld:=h.ld.erase h.da.symm
  ab:=fun k z k' z' e1 e2=>by cases e1;have:=h.lb.lt h.wf _ _ e2;omega
  bd:=h.bd
  da:=fun k z k' z' e1 e2=>by cases e2;have:=h.ld.lt h.wf _ _ e1;omega
  sub:=fun q hq=>List.mem_cons_of_mem _ (eraseO_mem (h.sub q hq) fun y e=>by have:=h.na _ _ e;have:=h0.lt q hq;omega)
  le:=by have:=h.le;omega
  na:=fun k y e=>by cases e;exact h.le
  nb:=h.nb
  nd:=h.nd
theorem Own3.stepB {L:List Nat} {c za zb zd:Nat} {a b d:Own} {L':List Nat} {c':Nat} (h0:WfL L c) (h:Own3 L c za zb zd a b d L' c'):Own3 L c za zb zd a (.lab c' zb) d (c'::eraseO L' b) (c'+1):=((h.rot.step h0).rot).rot
theorem Own3.stepD {L:List Nat} {c za zb zd:Nat} {a b d:Own} {L':List Nat} {c':Nat} (h0:WfL L c) (h:Own3 L c za zb zd a b d L' c'):Own3 L c za zb zd a b (.lab c' zd) (c'::eraseO L' d) (c'+1):=(h.rot.rot.step h0).rot
theorem lookE_agg (p:Pg) (id:Int):∃ zs,lookE p id=.agg zs∧zs.map D.plain1=(entE p id).cells∧zs.map D.keep1=zs∧zs.length=27∧(zs=(entE p id).cells∨(zs=En.zc∧entE p id=En.zero∧id≠0)):=by
  unfold lookE
  split
  · exact ⟨_,rfl,En.plain _,En.keep1 _,En.cells_len _,.inl rfl⟩
  · rename_i h
    have h0:id≠0:=by rintro rfl;exact h (by simp [idsS])
    rw [entE_out h]
    exact ⟨_,rfl,rfl,rfl,rfl,.inr ⟨rfl,rfl,h0⟩⟩
def threeD (r:Pg × List Int × Int):D:=.tup [.agg r.1.cells,.slice .none (intCells r.2.1),.int .i64 r.2.2]
structure Th (p a b:Pg) (B X:List Box) (mx my mz:Nat):Prop where
  r:(B++X)[B.length+3]? = some (.cells Pg.zc)
  x:(B++X)[mx]? = some (.map (entM p))
  y:(B++X)[my]? = some (.map (entM a))
  z:(B++X)[mz]? = some (.map (entM b))
def Th0 (p a b:Pg) (B:List Box) (L:List Nat) (c:Nat) (e:List D) (s:St):Prop :=
  ∃ X mx my mz w,keep [6,9,10,11,12,13] e=[.junk,.junk,.junk,.junk,.junk,.junk,.box (B.length+3) 0,.junk,.junk,.map mx,.map my,.map mz,.slice .nil [],.box w 0,.junk,.junk,.junk,.junk,.junk,.junk,.junk,.junk,.junk,.junk,.junk,.junk,.junk,.junk,.junk,.junk,.junk,.junk,.junk,.junk,.junk,.junk,.junk,.junk,.junk,.junk,.junk,.junk,.junk,.junk,.junk,.junk,.junk,.junk,.junk,.junk,.junk,.junk,.junk,.junk,.junk,.junk,.junk,.junk,.junk,.junk,.junk,.junk,.junk,.junk,.junk,.junk,.junk,.junk,.junk,.junk,.junk,.junk,.junk,.junk,.junk,.junk,.junk,.junk,.junk,.junk,.junk,.junk,.junk,.junk,.junk,.junk,.junk,.junk,.junk,.junk,.junk,.junk,.junk,.junk,.junk,.junk,.junk,.junk,.junk,.junk,.junk,.junk,.junk,.junk,.junk,.junk,.junk]∧s=⟨B++X,L,c⟩∧Th p a b B X mx my mz∧B.length+3<w∧(B++X)[w]? = some (.cells Pg.zc)
theorem th0_mk {p a b:Pg} {B X:List Box} {L:List Nat} {c mx my mz w:Nat} {e:List D} {s:St} (h1:keep [6,9,10,11,12,13] e=[.junk,.junk,.junk,.junk,.junk,.junk,.box (B.length+3) 0,.junk,.junk,.map mx,.map my,.map mz,.slice .nil [],.box w 0,.junk,.junk,.junk,.junk,.junk,.junk,.junk,.junk,.junk,.junk,.junk,.junk,.junk,.junk,.junk,.junk,.junk,.junk,.junk,.junk,.junk,.junk,.junk,.junk,.junk,.junk,.junk,.junk,.junk,.junk,.junk,.junk,.junk,.junk,.junk,.junk,.junk,.junk,.junk,.junk,.junk,.junk,.junk,.junk,.junk,.junk,.junk,.junk,.junk,.junk,.junk,.junk,.junk,.junk,.junk,.junk,.junk,.junk,.junk,.junk,.junk,.junk,.junk,.junk,.junk,.junk,.junk,.junk,.junk,.junk,.junk,.junk,.junk,.junk,.junk,.junk,.junk,.junk,.junk,.junk,.junk,.junk,.junk,.junk,.junk,.junk,.junk,.junk,.junk,.junk,.junk,.junk,.junk]) (h2:s=⟨B++X,L,c⟩) (h3:(B++X)[B.length+3]? = some (.cells Pg.zc)) (h4:(B++X)[mx]? = some (.map (entM p))) (h5:(B++X)[my]? = some (.map (entM a))) (h6:(B++X)[mz]? = some (.map (entM b))) (h7:B.length+3<w) (h8:(B++X)[w]? = some (.cells Pg.zc)):Th0 p a b B L c e s :=
  ⟨X,mx,my,mz,w,h1,h2,⟨h3,h4,h5,h6⟩,h7,h8⟩
theorem list7 {l:List D} (h:l.length=7):∃ d0 d1 d2 d3 d4 d5 d6,l=[d0,d1,d2,d3,d4,d5,d6]:=by
  match l,h with
  | [d0,d1,d2,d3,d4,d5,d6],_=>exact ⟨_,_,_,_,_,_,_,rfl⟩
theorem t_Three (p a b:Pg) (N1:Nrm p) (N2:Nrm a) (N3:Nrm b) (hl1:p.heads.length≤900) (hl2:a.heads.length≤900) (hl3:b.heads.length≤900) (PO:PgOk (mergedS p a b)) (s:St):Spec Tryz.prog 26 [.agg p.cells,.agg a.cells,.agg b.cells] s (threeD (threeS p a b)) s:=by
  refine Spec.wf fun hW=>?_
  obtain ⟨B,L,c⟩:=s
  have hW0:WfL L c:=⟨hW.nd,hW.lt⟩
  have hk1:(idsS p).Nodup:=N1.ids
  have hk2:(idsS a).Nodup:=N2.ids
  have hk3:(idsS b).Nodup:=N3.ids
  refine Spec.introN [(1,.text [false,true,false,true,false,true,false,false,false] [(2,0),(4,0),(4,1)]),(3,.cut),(7,.cut),(14,.text [false,false,false,false,false,true,false,true] [(3,1)])] Tryz.func26 rfl (by decide) hmix (by kernel_rfl) [ResultVar.cell 6 37,ResultVar.tmp 7,ResultVar.tmp 8] 107 rfl rfl ?_
  simp only [vqM,vt94,Tryz.f26,zA,zS,zM,zL,zE,zB,reduceCtorEq]
  refine callI_spec (t_entries p hk1 _ _ _) ?_
  simp only [vqM,vt94,zA,zS,zM,zL,zE,zB,reduceCtorEq]
  refine callI_spec (t_entries a hk2 _ _ _) ?_
  simp only [vqM,vt94,zA,zS,zM,zL,zE,zB,reduceCtorEq]
  refine callI_spec (t_entries b hk3 _ _ _) ?_
  simp only [vqM,vt94,zA,zS,zM,zL,zE,zB,reduceCtorEq]
  refine seq_joinI (Th0 p a b B L c) ?_ ?_
  · simp only [vqM,vt94,zA,zS,zM,zL,zE,zB,reduceCtorEq]
    generalize entX p p.heads=XP
    generalize entX a a.heads=XA
    generalize entX b b.heads=XB
    have hadd:∀ a,B.length+a+1=B.length+(a+1):=fun _=>rfl
    have haddP:∀ a,XP.length+a+1=XP.length+(a+1):=fun _=>rfl
    refine joinI_intro ?_
    apply th0_mk
    · simp only [vke,zB,zA]
      rfl
    · rfl
    all_goals (first | (simp only [hadd,box_at,box_at0,List.getElem?_cons_succ,List.getElem?_cons_zero];done) | (simp only [hadd,box_at,box_at0,List.getElem?_cons_succ,List.getElem?_cons_zero];rfl) | (simp only [hadd,zA,box_at];rfl) | omega | (simp only [hadd,box_at,box_at0,List.getElem?_cons_succ,List.getElem?_cons_zero];simp only [haddP,box_at,box_at0,List.getElem?_cons_succ,List.getElem?_cons_zero];done) | trace_state)
  rintro e s ⟨X,mx,my,mz,w,he,rfl,hT,hw,hb⟩
  refine awN_keep [6,9,10,11,12,13] ?_
  rw [he]
  clear he
  refine awN_cw hmix ?_
  simp only [vqM,vt94,zA,zS,zM,zL,zE,zB,reduceCtorEq]
  refine callI_specQ (t_keys [⟨mx,entM p,idsS p⟩,⟨my,entM a,idsS a⟩,⟨mz,entM b,idsS b⟩] (B++X) ?_ (by simp) (by simp) L c hW0) ?_
  · intro x hx
    rcases List.mem_cons.1 hx with rfl | hx
    · exact ms_ok hl1 hT.x
    · rcases List.mem_cons.1 hx with rfl | hx
      · exact ms_ok hl2 hT.y
      · rcases List.mem_cons.1 hx with rfl | hx
        · exact ms_ok hl3 hT.z
        · simp at hx
  rintro r t ⟨b0,cs,X2,rfl,hX2,hcs,rfl⟩
  have hk:compL (sortI (allK [⟨mx,entM p,idsS p⟩,⟨my,entM a,idsS a⟩,⟨mz,entM b,idsS b⟩]))=keysS [p,a,b]:=rfl
  rw [hk] at hcs ⊢
  have hlen:(keysS [p,a,b]).length≤100000:=by
    have h1:=compL_le (sortI (allK [⟨mx,entM p,idsS p⟩,⟨my,entM a,idsS a⟩,⟨mz,entM b,idsS b⟩]))
    have h2:(sortI (allK [⟨mx,entM p,idsS p⟩,⟨my,entM a,idsS a⟩,⟨mz,entM b,idsS b⟩])).length=_:=(List.mergeSort_perm _ _).length_eq
    rw [hk,h2] at h1
    simp [allK,idsS] at h1
    omega
  generalize hKS:keysS [p,a,b]=ks at hcs hlen ⊢
  have hT2:Th p a b B (X++X2) mx my mz:=⟨by rw [← List.append_assoc];exact box_lt hT.r,by rw [← List.append_assoc];exact box_lt hT.x,by rw [← List.append_assoc];exact box_lt hT.y,by rw [← List.append_assoc];exact box_lt hT.z⟩
  have hb2:(B++(X++X2))[w]? = some (.cells Pg.zc):=by rw [← List.append_assoc];exact box_lt hb
  have hwl:=(List.getElem?_eq_some_iff.1 hb).1
  have hr2:(B++(X++X2))[B.length+X.length+b0]? = some (.cells cs):=by
    rw [← List.append_assoc,← List.length_append,box_at];exact hX2
  have hwr:w<B.length+X.length+b0:=by simp at hwl;omega
  rw [List.append_assoc,show (B++X).length=B.length+X.length from List.length_append]
  generalize B.length+X.length+b0=rb at hr2 hwr ⊢
  generalize X++X2=X3 at hT2 hb2 hr2 ⊢
  simp only [vqM,vt94,zA,zS,zM,zL,zE,zB,reduceCtorEq]
  refine awN_keep [6,9,10,11,12,13,29,30,31] ?_
  simp only [vke,zB,zA]
  refine awN_forR hmix ks.length (fun k e s=>∃ (X:List Box) (hs:List Hd) (ds:List Df) (cf:List Int) (oh od oc:Own) (L':List Nat) (c':Nat) (DC:List D) (TH:D),Own3 L c 5 12 1 oh od oc L' c' ∧
      e=[.junk,.junk,.junk,.junk,.junk,.junk,.box (B.length+3) 0,.junk,.junk,.map mx,.map my,.map mz,.slice oc (intCells cf),.box w 0,.junk,.junk,.junk,.junk,.junk,.junk,.junk,.junk,.junk,.junk,.junk,.junk,.junk,.junk,.junk,.row rb 0 ks.length 1,.int .i64 ks.length,.int .i64 (k:Int),.junk,.junk,.junk,.junk,.junk,.junk,.junk,.junk,.junk,.junk,.junk,.junk,.junk,.junk,.junk,.junk,.junk,.junk,.junk,.junk,.junk,.junk,.junk,.junk,.junk,.junk,.junk,.junk,.junk,.junk,.junk,.junk,.junk,.junk,.junk,.junk,.junk,.junk,.junk,.junk,.junk,.junk,.junk,.junk,.junk,.junk,.junk,.junk,.junk,.junk,.junk,.junk,.junk,.junk,.junk,.junk,.junk,.junk,.junk,.junk,.junk,.junk,.junk,.junk,.junk,.junk,.junk,.junk,.junk,.junk,.junk,.junk,.junk,.junk,.junk]∧s=⟨B++X,L',c'⟩∧Th p a b B X mx my mz∧(B++X)[rb]? = some (.cells cs) ∧
      (B++X)[w]? = some (.cells (DC++[.slice oh (hdCells hs),.slice od (dfCells ds),TH]))∧DC.length=7∧DC.map D.plain1=(foldE (pickAt p a b) (ks.take k)).d.cells∧DC.map D.keep1=DC∧TH.plain1=.slice .none (intCells (foldE (pickAt p a b) (ks.take k)).threads)∧TH.keep1=TH ∧
      hs=(foldE (pickAt p a b) (ks.take k)).heads∧ds=(foldE (pickAt p a b) (ks.take k)).defs∧cf=(ks.take k).filter (fun id=>!agreeE (entE p id) (entE a id) (entE b id))∧hs.length≤k∧ds.length≤k) ?_ ?_ 0 _ _ (Nat.zero_le _) ?_
  · rintro k e s hk ⟨X,hs,ds,cf,oh,od,oc,L',c',DC,TH,hO,rfl,rfl,hT,hr,hw2,dc1,dc2,dc3,th1,th2,hhs,hds,hcf,hln1,hln2⟩ ih
    have hkl:(0≤(k:Int)∧(k:Int)<(ks.length:Int))=True:=by simp;exact hk
    have hklt:((k:Int)<(ks.length:Int))=True:=by simp;exact hk
    have hg:(cs.drop k)[0]? = some (.int .i64 ks[k]):=by
      have h1:cs[k]? = (ints ks)[k]?:=by rw [← hcs,List.getElem?_take,if_pos hk]
      rw [List.getElem?_drop,Nat.add_zero,h1]
      simp [ints,hk]
    have hnext:ks.take (k+1)=ks.take k++[ks[k]]:=by rw [List.take_add_one,List.getElem?_eq_getElem hk];rfl
    generalize ks[k]=id at hg hnext
    obtain ⟨zx,x1,x2,x3,x4,x5⟩:=lookE_agg p id
    obtain ⟨zy,y1,y2,y3,y4,y5⟩:=lookE_agg a id
    obtain ⟨zz,z1,z2,z3,z4,z5⟩:=lookE_agg b id
    have l1:=look_ent N1 id
    have l2:=look_ent N2 id
    have l3:=look_ent N3 id
    rw [x1] at l1
    rw [y1] at l2
    rw [z1] at l3
    unfold En.zc at l1 l2 l3
    have hT':∀ Z,Th p a b B (X++Z) mx my mz:=fun Z=>⟨by rw [← List.append_assoc];exact box_lt hT.r,by rw [← List.append_assoc];exact box_lt hT.x,by rw [← List.append_assoc];exact box_lt hT.y,by rw [← List.append_assoc];exact box_lt hT.z⟩
    simp only [vqM,vt94,zA,zS,zM,zL,zE,zB,reduceCtorEq,hkl,hklt,decide_true,natle0,Int.toNat_natCast,hr,hg,Nat.mul_one,Nat.zero_add]
    refine seq_go ?_
    simp only [vqM,vt94,zA,zS,zM,zL,zE,zB,reduceCtorEq,vsK,hT.y,l2,y3,y4]
    refine awN_joinI (fun e s=>∃ (X':List Box) (zs:List D) (cf':List Int) (oc':Own) (L2:List Nat) (c2:Nat),Own3 L c 5 12 1 oh od oc' L2 c2∧keep [6,9,10,11,12,13,15,16,29,30,31] e=[.junk,.junk,.junk,.junk,.junk,.junk,.box (B.length+3) 0,.junk,.junk,.map mx,.map my,.map mz,.slice oc' (intCells cf'),.box w 0,.junk,.int .i64 id,.box (B.length+X.length) 0,.junk,.junk,.junk,.junk,.junk,.junk,.junk,.junk,.junk,.junk,.junk,.junk,.row rb 0 ks.length 1,.int .i64 ks.length,.int .i64 (k:Int),.junk,.junk,.junk,.junk,.junk,.junk,.junk,.junk,.junk,.junk,.junk,.junk,.junk,.junk,.junk,.junk,.junk,.junk,.junk,.junk,.junk,.junk,.junk,.junk,.junk,.junk,.junk,.junk,.junk,.junk,.junk,.junk,.junk,.junk,.junk,.junk,.junk,.junk,.junk,.junk,.junk,.junk,.junk,.junk,.junk,.junk,.junk,.junk,.junk,.junk,.junk,.junk,.junk,.junk,.junk,.junk,.junk,.junk,.junk,.junk,.junk,.junk,.junk,.junk,.junk,.junk,.junk,.junk,.junk,.junk,.junk,.junk,.junk,.junk,.junk] ∧
      s=⟨B++X',L2,c2⟩∧Th p a b B X' mx my mz∧(B++X')[rb]? = some (.cells cs)∧(B++X')[w]? = some (.cells (DC++[.slice oh (hdCells hs),.slice od (dfCells ds),TH]))∧(B++X')[B.length+X.length]? = some (.cells zs)∧(zs=(pickAt p a b id).cells∨(zs=En.zc∧pickAt p a b id=En.zero∧id≠0)) ∧
      cf'=cf++(if agreeE (entE p id) (entE a id) (entE b id) then [] else [id])) ?_ ?_
    · refine awN_cw hmix ?_
      have gx:∀ Z,(B++(X++Z))[mx]? = some (.map (entM p)):=fun Z=>(hT' Z).x
      have gy:∀ Z,(B++(X++Z))[my]? = some (.map (entM a)):=fun Z=>(hT' Z).y
      have gz:∀ Z,(B++(X++Z))[mz]? = some (.map (entM b)):=fun Z=>(hT' Z).z
      have ga:∀ Z:List Box,(B++(X++Z))[rb]? = some (.cells cs):=fun Z=>by rw [← List.append_assoc];exact box_lt hr
      have gw:∀ Z:List Box,(B++(X++Z))[w]? = some (.cells (DC++[.slice oh (hdCells hs),.slice od (dfCells ds),TH])):=fun Z=>by rw [← List.append_assoc];exact box_lt hw2
      have gq:∀ z:Box,(B++(X++[z]))[B.length+X.length]? = some z:=fun z=>by rw [← List.append_assoc,← List.length_append,box_at0];rfl
      have hof:∀ B',ownFits oc (intCells cf) 1 ⟨B',L',c'⟩=true:=fun B'=>hO.ld.fits (intCells_each _) B' c'
      have hcl:cf.length≤k:=by rw [hcf];exact Nat.le_trans (List.length_filter_le _ _) (by simp;omega)
      have hl1':(cf.length+1≤1000000)=True:=eq_true (by omega)
      simp only [vqM,vt94,zA,zS,zM,zL,zE,zB,reduceCtorEq,gx,gy,gz,l1,l2,l3,x2,y2,z2]
      refine callI_spec (t_same _ _ _) ?_
      simp only [vqM,vt94,zA,zS,zM,zL,zE,zB,reduceCtorEq,gx,gy,gz,l1,l2,l3,x2,y2,z2]
      refine ifI_intro (fun h1=>?_) (fun h1=>?_)
      · have e1:entE a id=entE b id:=of_decide_eq_true h1
        simp only [vqM,vt94,zA,zS,zM,zL,zE,zB,reduceCtorEq,gx,gy,gz,l1,l2,l3,x2,y2,z2,h1,vsJI]
        refine joinI_intro ⟨X++[Box.cells zy],zy,cf,oc,L',c',hO,by simp only [vke,zB,zA],rfl,hT' _,ga _,gw _,by first | exact gq _ | simp,?_,?_⟩
        · have:pickAt p a b id=entE a id:=by simp [pickAt,pickE,e1]
          rw [this];exact y5
        · simp [agreeE,e1]
      · have e1:¬ entE a id=entE b id:=of_decide_eq_false h1
        simp only [vqM,vt94,zA,zS,zM,zL,zE,zB,reduceCtorEq,gx,gy,gz,l1,l2,l3,x2,y2,z2,h1]
        refine callI_spec (t_same _ _ _) ?_
        simp only [vqM,vt94,zA,zS,zM,zL,zE,zB,reduceCtorEq,gx,gy,gz,l1,l2,l3,x2,y2,z2,h1]
        refine ifI_intro (fun h2=>?_) (fun h2=>?_)
        · have e2:entE p id=entE b id:=of_decide_eq_true h2
          simp only [vqM,vt94,zA,zS,zM,zL,zE,zB,reduceCtorEq,gx,gy,gz,l1,l2,l3,x2,y2,z2,h1,h2,vsJI]
          refine joinI_intro ⟨X++[Box.cells zy],zy,cf,oc,L',c',hO,by simp only [vke,zB,zA],rfl,hT' _,ga _,gw _,by first | exact gq _ | simp,?_,?_⟩
          · have:pickAt p a b id=entE a id:=by simp [pickAt,pickE,e2]
            rw [this];exact y5
          · simp [agreeE,e2]
        · have e2:¬ entE p id=entE b id:=of_decide_eq_false h2
          simp only [vqM,vt94,zA,zS,zM,zL,zE,zB,reduceCtorEq,gx,gy,gz,l1,l2,l3,x2,y2,z2,h1,h2]
          refine callI_spec (t_same _ _ _) ?_
          simp only [vqM,vt94,zA,zS,zM,zL,zE,zB,reduceCtorEq,gx,gy,gz,l1,l2,l3,x2,y2,z2,h1,h2]
          refine ifI_intro (fun h3=>?_) (fun h3=>?_)
          · have e3:entE p id=entE a id:=of_decide_eq_true h3
            have hzd:zz++List.drop 27 zy=zz:=by rw [List.drop_of_length_le (by omega),List.append_nil]
            simp only [vqM,vt94,zA,zS,zM,zL,zE,zB,reduceCtorEq,gx,gy,gz,l1,l2,l3,x2,y2,z2,gq,z3,z4,y4,h1,h2,h3,hzd,vsJI]
            refine joinI_intro ⟨X++[Box.cells zz],zz,cf,oc,L',c',hO,by simp only [vke,zB,zA],rfl,hT' _,ga _,gw _,by first | exact gq _ | simp,?_,?_⟩
            · have:pickAt p a b id=entE b id:=by
                simp only [pickAt,pickE,e1,e2,e3,decide_false,Bool.or_false,decide_true,if_true]
                simp
              rw [this];exact z5
            · simp [agreeE,e3]
          · have e3:¬ entE p id=entE a id:=of_decide_eq_false h3
            simp only [vqM,vt94,zA,zS,zM,zL,zE,zB,reduceCtorEq,gx,gy,gz,l1,l2,l3,x2,y2,z2,h1,h2,h3,vsJI,hof,relab_eq,intCells_len,hl1',intCells_app]
            refine joinI_intro ⟨X++[Box.cells zy],zy,cf++[id],_,_,_,hO.stepD hW0,by simp only [vke,zB,zA],rfl,hT' _,ga _,gw _,by first | exact gq _ | simp,?_,?_⟩
            · have:pickAt p a b id=entE a id:=by simp [pickAt,pickE,e1,e2,e3]
              rw [this];exact y5
            · simp [agreeE,e1,e2,e3]
    · rintro e s ⟨X',zs,cf',oc',L2,c2,hO2,he,rfl,hT2',hr2',hw2',hq,hz,hcf'⟩
      have hzl:zs.length=27:=by
        rcases hz with rfl | ⟨rfl,_⟩
        · exact En.cells_len _
        · rfl
      have f3:zs[0]? = some (.bool (pickAt p a b id).head):=by
        rcases hz with rfl | ⟨rfl,h,_⟩
        · rfl
        · rw [h];rfl
      have f4:(zs.drop 1)[0]? = some (.bool (pickAt p a b id).opn):=by
        rcases hz with rfl | ⟨rfl,h,_⟩
        · rfl
        · rw [h];rfl
      have f0:id=0→(zs.drop 19).take 7=(pickAt p a b id).decl.cells∧(zs.drop 26)[0]? = some (.slice .none (intCells (pickAt p a b id).threads)):=by
        intro h
        rcases hz with rfl | ⟨_,_,h0⟩
        · exact ⟨rfl,rfl⟩
        · exact absurd h h0
      have f1:(pickAt p a b id).head=true→(zs.drop 2).take 5=(pickAt p a b id).h.cells:=by
        intro h
        rcases hz with rfl | ⟨_,h0,_⟩
        · rfl
        · rw [h0] at h;cases h
      have f2:(pickAt p a b id).opn=true→(zs.drop 7).take 12=(pickAt p a b id).d.cells:=by
        intro h
        rcases hz with rfl | ⟨_,h0,_⟩
        · rfl
        · rw [h0] at h;cases h
      have hfold:foldE (pickAt p a b) (ks.take (k+1))=addE (foldE (pickAt p a b) (ks.take k)) id (pickAt p a b id):=by rw [hnext,foldE,List.foldl_append];rfl
      have hcf2:cf'=(ks.take (k+1)).filter (fun id=>!agreeE (entE p id) (entE a id) (entE b id)):=by
        rw [hcf',hnext,List.filter_append,← hcf]
        cases hh:agreeE (entE p id) (entE a id) (entE b id) <;> simp [hh]
      clear hz hcf' x1 x2 x3 x4 x5 y1 y2 y3 y4 y5 z1 z2 z3 z4 z5 l1 l2 l3 hcf hT' hT
      generalize pickAt p a b id=E at f0 f1 f2 f3 f4 hfold
      generalize foldE (pickAt p a b) (ks.take k)=o at dc2 th1 hhs hds hfold
      have hwlt:=(List.getElem?_eq_some_iff.1 hw2).1
      have hqw:B.length+X.length≠w:=by simp at hwlt;omega
      clear hw2 hr
      generalize B.length+X.length=q at he hq hqw
      have hwl2:=(List.getElem?_eq_some_iff.1 hw2').1
      have gq2:∀ y,((B++X').set w y)[q]? = some (.cells zs):=fun y=>by rw [List.getElem?_set_ne (fun e=>hqw e.symm)];exact hq
      have gw2:∀ y:Box,((B++X').set w y)[w]? = some y:=fun y=>List.getElem?_set_self hwl2
      have gss:∀ y y':Box,((B++X').set w y).set w y'=(B++X').set w y':=fun y y'=>List.set_set ..
      have gself:(B++X').set w (.cells (DC++[.slice oh (hdCells hs),.slice od (dfCells ds),TH]))=B++X':=by
        refine List.ext_getElem? fun i=>?_
        by_cases h:i=w
        · subst h;rw [gw2,hw2']
        · rw [List.getElem?_set_ne (fun e=>h e.symm)]
      rw [← gself]
      refine awN_keep [6,9,10,11,12,13,15,16,29,30,31] ?_
      rw [he]
      clear he
      refine awN_joinI (fun e s=>∃ (D1:List D) (T1:D),keep [6,9,10,11,12,13,15,16,29,30,31] e=[.junk,.junk,.junk,.junk,.junk,.junk,.box (B.length+3) 0,.junk,.junk,.map mx,.map my,.map mz,.slice oc' (intCells cf'),.box w 0,.junk,.int .i64 id,.box q 0,.junk,.junk,.junk,.junk,.junk,.junk,.junk,.junk,.junk,.junk,.junk,.junk,.row rb 0 ks.length 1,.int .i64 ks.length,.int .i64 (k:Int),.junk,.junk,.junk,.junk,.junk,.junk,.junk,.junk,.junk,.junk,.junk,.junk,.junk,.junk,.junk,.junk,.junk,.junk,.junk,.junk,.junk,.junk,.junk,.junk,.junk,.junk,.junk,.junk,.junk,.junk,.junk,.junk,.junk,.junk,.junk,.junk,.junk,.junk,.junk,.junk,.junk,.junk,.junk,.junk,.junk,.junk,.junk,.junk,.junk,.junk,.junk,.junk,.junk,.junk,.junk,.junk,.junk,.junk,.junk,.junk,.junk,.junk,.junk,.junk,.junk,.junk,.junk,.junk,.junk,.junk,.junk,.junk,.junk,.junk,.junk]∧s=⟨(B++X').set w (.cells (D1++[.slice oh (hdCells hs),.slice od (dfCells ds),T1])),L2,c2⟩ ∧
        D1.length=7∧D1.map D.plain1=(addE o id E).d.cells∧D1.map D.keep1=D1∧T1.plain1=.slice .none (intCells (addE o id E).threads)∧T1.keep1=T1) ?_ ?_
      · obtain ⟨d0,d1,d2,d3,d4,d5,d6,rfl⟩:=list7 dc1
        refine awN_cw hmix ?_
        simp only [vqM,vt94,zA,zS,zM,zL,zE,zB,reduceCtorEq]
        refine ifI_intro (fun h0=>?_) (fun h0=>?_)
        · have hid0:id=0:=of_decide_eq_true h0
          obtain ⟨f5,f6⟩:=f0 hid0
          have hdl:E.decl.cells.length=7:=rfl
          have hdk:E.decl.cells.map D.keep1=E.decl.cells:=rfl
          have hda:∀ r,(E.decl.cells++r).drop 7=r:=fun r=>rfl
          simp only [vqM,vt94,zA,zS,zM,zL,zE,zB,reduceCtorEq,gq2,gw2,gss,f5,f6,hzl,hdl,hdk,hda,List.length_append,List.length_cons,List.length_nil,vsJI]
          exact joinI_intro ⟨E.decl.cells,.slice .none (intCells E.threads),by simp only [vke,zB,zA],rfl,hdl,by simp only [addE,hid0,if_true];rfl,hdk,by simp only [addE,hid0,if_true];rfl,rfl⟩
        · have hid0:¬ id=0:=of_decide_eq_false h0
          simp only [vqM,vt94,zA,zS,zM,zL,zE,zB,reduceCtorEq,vsJI]
          refine joinI_intro ⟨[d0,d1,d2,d3,d4,d5,d6],TH,by simp only [vke,zB,zA],rfl,dc1,by rw [dc2];simp [addE,hid0],dc3,by rw [th1];simp [addE,hid0],th2⟩
      rintro e s ⟨D1,T1,he,rfl,e1,e2,e3,e4,e5⟩
      obtain ⟨d0,d1,d2,d3,d4,d5,d6,rfl⟩:=list7 e1
      have hofh:∀ B',ownFits oh (hdCells hs) 5 ⟨B',L2,c2⟩=true:=fun B'=>hO2.la.fits (hdCells_each _) B' c2
      have hlh:(hs.length+1≤1000000)=True:=eq_true (by omega)
      have hld:(ds.length+1≤1000000)=True:=eq_true (by omega)
      refine awN_keep [6,9,10,11,12,13,15,16,29,30,31] ?_
      rw [he]
      clear he
      refine awN_joinI (fun e s=>∃ (oh1:Own) (L3:List Nat) (c3:Nat),Own3 L c 5 12 1 oh1 od oc' L3 c3∧keep [6,9,10,11,12,13,15,16,29,30,31] e=[.junk,.junk,.junk,.junk,.junk,.junk,.box (B.length+3) 0,.junk,.junk,.map mx,.map my,.map mz,.slice oc' (intCells cf'),.box w 0,.junk,.int .i64 id,.box q 0,.junk,.junk,.junk,.junk,.junk,.junk,.junk,.junk,.junk,.junk,.junk,.junk,.row rb 0 ks.length 1,.int .i64 ks.length,.int .i64 (k:Int),.junk,.junk,.junk,.junk,.junk,.junk,.junk,.junk,.junk,.junk,.junk,.junk,.junk,.junk,.junk,.junk,.junk,.junk,.junk,.junk,.junk,.junk,.junk,.junk,.junk,.junk,.junk,.junk,.junk,.junk,.junk,.junk,.junk,.junk,.junk,.junk,.junk,.junk,.junk,.junk,.junk,.junk,.junk,.junk,.junk,.junk,.junk,.junk,.junk,.junk,.junk,.junk,.junk,.junk,.junk,.junk,.junk,.junk,.junk,.junk,.junk,.junk,.junk,.junk,.junk,.junk,.junk,.junk,.junk,.junk,.junk,.junk,.junk,.junk,.junk]∧s=⟨(B++X').set w (.cells ([d0,d1,d2,d3,d4,d5,d6]++[.slice oh1 (hdCells (addE o id E).heads),.slice od (dfCells ds),T1])),L3,c3⟩) ?_ ?_
      · refine awN_cw hmix ?_
        simp only [vqM,vt94,zA,zS,zM,zL,zE,zB,reduceCtorEq,gq2,gw2,f3]
        refine ifI_intro (fun h0=>?_) (fun h0=>?_)
        · have f5:=f1 h0
          have hhn:hs++[E.h]=(addE o id E).heads:=by simp [addE,h0,hhs]
          simp only [vqM,vt94,zA,zS,zM,zL,zE,zB,reduceCtorEq,gq2,gw2,gss,f5,hzl,hofh,relab_eq,hdCells_len,hlh,hdCells_app,vsJI]
          rw [hhn]
          exact joinI_intro ⟨_,_,_,hO2.step hW0,by simp only [vke,zB,zA],rfl⟩
        · have hhn:hs=(addE o id E).heads:=by simp [addE,h0,hhs]
          simp only [vqM,vt94,zA,zS,zM,zL,zE,zB,reduceCtorEq,vsJI]
          exact joinI_intro ⟨_,_,_,hO2,by simp only [vke,zB,zA],by rw [hhn]⟩
      rintro e s ⟨oh1,L3,c3,hO3,he,rfl⟩
      have hofd:∀ B',ownFits od (dfCells ds) 12 ⟨B',L3,c3⟩=true:=fun B'=>hO3.lb.fits (dfCells_each _) B' c3
      have hX':∀ y,(B++X').set w y=B++X'.set (w - B.length) y:=fun y=>List.set_append_right _ _ (by omega)
      have gx:∀ i,i≠w→∀ y,((B++X').set w y)[i]? = (B++X')[i]?:=fun i hi y=>List.getElem?_set_ne (fun e=>hi e.symm)
      have hTn:∀ y,Th p a b B (X'.set (w - B.length) (.cells y)) mx my mz:=fun y=>by
        have nm:∀ (m:Nat) (es:List (D × D)),(B++X')[m]? = some (.map es)→m≠w:=fun m es h e=>by rw [e,hw2'] at h;cases h
        exact ⟨by rw [← hX',gx _ (by omega)];exact hT2'.r,by rw [← hX',gx _ (nm _ _ hT2'.x)];exact hT2'.x,by rw [← hX',gx _ (nm _ _ hT2'.y)];exact hT2'.y,by rw [← hX',gx _ (nm _ _ hT2'.z)];exact hT2'.z⟩
      have hlen1:(addE o id E).heads.length≤k+1:=by
        have:(addE o id E).heads=if E.head then o.heads++[E.h] else o.heads:=rfl
        rw [this]
        split <;> simp <;> (rw [← hhs];omega)
      refine awN_keep [6,9,10,11,12,13,15,16,29,30,31] ?_
      rw [he]
      clear he
      refine awN_cw hmix ?_
      simp only [vqM,vt94,zA,zS,zM,zL,zE,zB,reduceCtorEq,gq2,gw2,f4]
      refine ifI_intro (fun h0=>?_) (fun h0=>?_)
      · have f5:=f2 h0
        have hdn:ds++[E.d]=(addE o id E).defs:=by simp [addE,h0,hds]
        simp only [vqM,vt94,zA,zS,zM,zL,zE,zB,reduceCtorEq,gq2,gw2,gss,f5,hzl,hofd,relab_eq,dfCells_len,hld,dfCells_app]
        rw [wrap_succ (by omega)]
        refine awN_keep [6,9,10,11,12,13,29,30,31] ?_
        simp only [vke,zB,zA]
        refine ih _ _ ⟨X'.set (w - B.length) (.cells ([d0,d1,d2,d3,d4,d5,d6]++[.slice oh1 (hdCells (addE o id E).heads),.slice (.lab c3 12) (dfCells (ds++[E.d])),T1])),(addE o id E).heads,ds++[E.d],cf',oh1,.lab c3 12,oc',_,_,[d0,d1,d2,d3,d4,d5,d6],T1,hO3.stepB hW0,rfl,by (first | (rw [← hX'];done) | (rw [← hX'];rfl)),hTn _,by rw [← hX',gx _ (by omega)];exact hr2',by rw [← hX',gw2],rfl,by rw [hfold];exact e2,e3,by rw [hfold];exact e4,e5,by rw [hfold],by rw [hfold,← hdn],hcf2,hlen1,by simp;omega⟩
      · have hdn:ds=(addE o id E).defs:=by simp [addE,h0,hds]
        simp only [vqM,vt94,zA,zS,zM,zL,zE,zB,reduceCtorEq,gq2,gw2,gss]
        rw [wrap_succ (by omega)]
        refine awN_keep [6,9,10,11,12,13,29,30,31] ?_
        simp only [vke,zB,zA]
        refine ih _ _ ⟨X'.set (w - B.length) (.cells ([d0,d1,d2,d3,d4,d5,d6]++[.slice oh1 (hdCells (addE o id E).heads),.slice od (dfCells ds),T1])),(addE o id E).heads,ds,cf',oh1,od,oc',L3,c3,[d0,d1,d2,d3,d4,d5,d6],T1,hO3,rfl,by (first | (rw [← hX'];done) | (rw [← hX'];rfl)),hTn _,by rw [← hX',gx _ (by omega)];exact hr2',by rw [← hX',gw2],rfl,by rw [hfold];exact e2,e3,by rw [hfold];exact e4,e5,by rw [hfold],by rw [hfold,← hdn],hcf2,hlen1,by omega⟩
  · rintro e s ⟨X,hs,ds,cf,oh,od,oc,L',c',DC,TH,hO,rfl,rfl,hT,hr,hw2,dc1,dc2,dc3,th1,th2,hhs,hds,hcf,hln1,hln2⟩
    obtain ⟨d0,d1,d2,d3,d4,d5,d6,rfl⟩:=list7 dc1
    have hklt:((ks.length:Int)<(ks.length:Int))=False:=by simp
    rw [List.take_length] at dc2 th1 hhs hds hcf
    have hm:foldE (pickAt p a b) ks=mergedS p a b:=by rw [mergedS,hKS]
    have hc:cf=conflS p a b:=by rw [hcf,conflS,hKS]
    rw [hm] at dc2 th1 hhs hds
    have hrl:=(List.getElem?_eq_some_iff.1 hT.r).1
    have hz:(10≤Pg.zc.length)=True:=by simp [Pg.zc]
    have hz2:List.drop 10 Pg.zc=[]:=rfl
    have hset3:∀ y,(B++X).set (B.length+3) y=B++X.set 3 y:=fun y=>by rw [List.set_append_right _ _ (by omega),Nat.add_sub_cancel_left]
    have hx3:3<X.length:=by simp at hrl;omega
    have hget3:∀ y,(B++X.set 3 y)[B.length+3]? = some y:=fun y=>by rw [box_at,List.getElem?_set_self hx3]
    have hbd:∀ r,Bd 0 0 (threeD r):=fun r=>.tup _ fun i hi=>by
      match i,hi with
      | 0,_=>exact bd_agg (Pg.bd _)
      | 1,_=>exact bd_intSl _
      | 2,_=>exact .int _ _
    simp only [vqM,vt94,zA,zS,zM,zL,zE,zB,reduceCtorEq,hklt,decide_false,intCells_len]
    refine ifI_intro (fun h0=>?_) (fun h0=>?_)
    · have hpos:(conflS p a b).length > 0:=by have:=of_decide_eq_true h0;rw [← hc];omega
      have h3:threeS p a b=(Pg.zero,conflS p a b,270):=if_pos hpos
      simp only [vqM,vt94,zA,zS,zM,zL,zE,zB,reduceCtorEq,hT.r,hz,hz2,hset3]
      refine ret_loc (.inr rfl) ?_ (hbd _) hO.sub hO.le
      simp only [vqM,vt94,zA,zS,zM,zL,zE,zB,reduceCtorEq,hget3,hz,hz2]
      rw [h3,← hc]
      rfl
    · have hpos:¬ (conflS p a b).length > 0:=by have:=of_decide_eq_false h0;rw [← hc];omega
      have hpl:([d0,d1,d2,d3,d4,d5,d6]++[D.slice oh (hdCells hs),.slice od (dfCells ds),TH]).map D.plain1=(mergedS p a b).cells:=by
        show List.map D.plain1 [d0,d1,d2,d3,d4,d5,d6]++[D.slice .none (hdCells hs),.slice .none (dfCells ds),TH.plain1]=_
        rw [dc2,th1,hhs,hds]
        rfl
      have hpl2:[d0.plain1,d1.plain1,d2.plain1,d3.plain1,d4.plain1,d5.plain1,d6.plain1,D.slice .none (hdCells hs),.slice .none (dfCells ds),TH.plain1]=(mergedS p a b).cells:=hpl
      have hpp:∀ d:D,d.plain1.plain1=d.plain1:=fun d=>by cases d <;> rfl
      simp only [vqM,vt94,zA,zS,zM,zL,zE,zB,reduceCtorEq,hw2,hpp,hpl2]
      refine callI_spec (t_Program _ PO _) ?_
      simp only [vqM,vt94,zA,zS,zM,zL,zE,zB,reduceCtorEq,hw2,hpp,hpl2]
      refine ifI_intro (fun h1=>?_) (fun h1=>?_)
      · have h2:=of_decide_eq_true h1
        have h3:threeS p a b=(Pg.zero,[],programS (mergedS p a b)):=by rw [threeS,if_neg hpos,if_pos h2]
        simp only [vqM,vt94,zA,zS,zM,zL,zE,zB,reduceCtorEq,hT.r,hz,hz2,hset3]
        refine ret_loc (.inr rfl) ?_ (hbd _) hO.sub hO.le
        simp only [vqM,vt94,zA,zS,zM,zL,zE,zB,reduceCtorEq,hget3,hz,hz2]
        rw [h3]
        rfl
      · have h2:=of_decide_eq_false h1
        have h3:threeS p a b=(mergedS p a b,[],0):=by rw [threeS,if_neg hpos,if_neg h2]
        simp only [vqM,vt94,zA,zS,zM,zL,zE,zB,reduceCtorEq,hT.r,hz,hz2,hw2,hset3]
        refine ret_loc (.inr rfl) ?_ (hbd _) hO.sub hO.le
        simp only [vqM,vt94,zA,zS,zM,zL,zE,zB,reduceCtorEq,hget3,hz,hz2,hpp,hpl2]
        rw [h3]
        rfl
  · exact ⟨X3,[],[],[],.nil,.nil,.nil,L,c,[.slice .nil [],.slice .nil [],.slice .nil [],.slice .nil [],.int .i64 0,.int .i64 0,.int .i64 0],.slice .nil [],.start hW0 _ _ _,rfl,rfl,hT2,hr2,hb2,rfl,rfl,rfl,rfl,rfl,rfl,rfl,rfl,Nat.le_refl _,Nat.le_refl _⟩
theorem mem_keys3 {p a b:Pg} {id:Int}:id ∈ keysS [p,a,b]↔id ∈ idsS p∨id ∈ idsS a∨id ∈ idsS b:=by rw [mem_keys];simp
theorem mem_keys2 {p a:Pg} {id:Int}:id ∈ keysS [p,a]↔id ∈ idsS p∨id ∈ idsS a:=by rw [mem_keys];simp
theorem keys_swap (p a b:Pg):keysS [p,a,b]=keysS [p,b,a]:=keys_perm (.cons _ (.swap _ _ _))
theorem agree_swap (x y z:En):agreeE x y z=agreeE x z y:=by
  simp only [agreeE]
  have e:decide (y=z)=decide (z=y):=by simp [eq_comm]
  rw [e,Bool.or_assoc,Bool.or_assoc]
  congr 1
  rw [Bool.or_comm]
theorem pick_swap {x y z:En} (h:agreeE x y z=true):pickE x y z=pickE x z y:=by
  simp only [agreeE,Bool.or_eq_true,decide_eq_true_eq] at h
  by_cases h1:y=z
  · subst h1;rfl
  have h1':¬ z=y:=fun e=>h1 e.symm
  by_cases h2:x=z
  · have h3:¬ x=y:=fun e=>h1 (e.symm.trans h2)
    simp [pickE,h1,h1',h2]
  · have h3:x=y:=by
      rcases h with (h | h) | h
      · exact absurd h h1
      · exact absurd h h2
      · exact h
    subst h3
    have h2':¬ z=x:=fun e=>h2 e.symm
    simp [pickE,h2,h2']
theorem three_swap (p a b:Pg):threeS p a b=threeS p b a:=by
  have hc:conflS p a b=conflS p b a:=by
    unfold conflS
    rw [keys_swap]
    refine List.filter_congr fun id _=>?_
    rw [agree_swap]
  unfold threeS
  rw [hc]
  by_cases h:(conflS p b a).length > 0
  · rw [if_pos h,if_pos h]
  · rw [if_neg h,if_neg h]
    have hm:mergedS p a b=mergedS p b a:=by
      unfold mergedS
      rw [keys_swap p a b]
      refine foldE_congr fun id hid=>?_
      have h0:conflS p b a=[]:=List.eq_nil_of_length_eq_zero (by omega)
      have h1:=List.filter_eq_nil_iff.1 h0 id hid
      rw [agree_swap] at h1
      exact pick_swap (by simpa using h1)
    rw [hm]
theorem changed_swap (a b:Pg):changedS a b=changedS b a:=by
  unfold changedS
  rw [keys_perm (show [a,b].Perm [b,a] from .swap _ _ _)]
  refine List.filter_congr fun id _=>?_
  congr 1
  simp [eq_comm]
theorem mem_changed {p q:Pg} {id:Int}:id ∈ changedS p q↔entE p id≠entE q id:=by
  unfold changedS
  rw [List.mem_filter,mem_keys2]
  constructor
  · rintro ⟨_,h⟩;simpa using h
  · intro h
    refine ⟨?_,by simpa using h⟩
    by_cases h1:id ∈ idsS p
    · exact .inl h1
    by_cases h2:id ∈ idsS q
    · exact .inr h2
    exact absurd ((entE_out h1).trans (entE_out h2).symm) h
theorem agree_all {p a b:Pg} (h:conflS p a b=[]) (id:Int):agreeE (entE p id) (entE a id) (entE b id)=true:=by
  by_cases hid:id ∈ keysS [p,a,b]
  · have:=List.filter_eq_nil_iff.1 h id hid
    simpa using this
  · rw [mem_keys3,not_or,not_or] at hid
    rw [entE_out hid.1,entE_out hid.2.1,entE_out hid.2.2]
    simp [agreeE]
theorem pick_zero {p a b:Pg} {id:Int} (h:pickAt p a b id≠En.zero):id ∈ keysS [p,a,b]:=by
  rw [mem_keys3]
  rcases pickE_cases (entE p id) (entE a id) (entE b id) with e | e
  · refine .inr (.inl ?_)
    by_cases hm:id ∈ idsS a
    · exact hm
    · exact absurd ((show pickAt p a b id=_ from e).trans (entE_out hm)) h
  · refine .inr (.inr ?_)
    by_cases hm:id ∈ idsS b
    · exact hm
    · exact absurd ((show pickAt p a b id=_ from e).trans (entE_out hm)) h
theorem entE_merged (p a b:Pg) (id:Int):entE (mergedS p a b) id=pickAt p a b id :=
  entE_fold (zero_keys (by simp)) (pickAt_shp p a b) (fun _ h=>pick_zero h) id
structure Nice (p:Pg):Prop extends Nrm p where
  hds:p.heads=p.defs.map hdOf
theorem Nice.pw {p:Pg} (N:Nice p):p.defs.Pairwise (fun a b=>a.id<b.id):=by
  have:=N.hid
  rw [N.hds,List.pairwise_map] at this
  exact this
theorem Nice.find {p:Pg} (N:Nice p) {d:Df} (hd:d ∈ p.defs):findS p d.id=some d:=find_pw N.pw d hd
theorem Nice.keys {p:Pg} (N:Nice p):(idsS p).Pairwise (· < ·):=by
  refine List.pairwise_cons.2 ⟨fun x hx=>?_,?_⟩
  · obtain ⟨h,hh,rfl⟩:=List.mem_map.1 hx;exact N.pos h hh
  · rw [List.pairwise_map];exact N.hid
theorem Nice.ent {p:Pg} (N:Nice p) {d:Df} (hd:d ∈ p.defs):entE p d.id=⟨true,true,hdOf d,d,Dc.zero,[]⟩:=by
  have h1:hdOf d ∈ p.heads:=by rw [N.hds];exact List.mem_map.2 ⟨d,hd,rfl⟩
  have h2:=N.pos _ h1
  have h3:(hdOf d).id=d.id:=rfl
  have h4:=headS_of N.toNrm h1
  rw [h3] at h4
  have h5:¬ d.id=0:=by rw [h3] at h2;omega
  rw [entE,if_neg h5,h4]
  simp only [openE,h3,N.find hd]
  rfl
theorem Nice.fold {p:Pg} (N:Nice p):foldE (entE p) (idsS p)=p:=by
  have key:∀ {α:Type} (f:En→Option α) (g:Df→α),(∀ d ∈ p.defs,f (entE p d.id)=some (g d))→f (entE p 0)=none→(idsS p).filterMap (fun id=>f (entE p id))=p.defs.map g:=by
    intro α f g h h0
    rw [idsS,List.filterMap_cons_none (f:=fun id=>f (entE p id)) h0,N.hds,List.map_map]
    clear h0
    generalize p.defs=l at h
    induction l with
    | nil=>rfl
    | cons d l ih =>
      rw [List.map_cons,List.map_cons]
      show List.filterMap (fun id=>f (entE p id)) (d.id::List.map ((fun x=>x.id) ∘ hdOf) l)=_
      rw [List.filterMap_cons_some (f:=fun id=>f (entE p id)) (h d (by simp)),ih fun x hx=>h x (by simp [hx])]
  have e0:entE p 0=⟨false,false,Hd.zero,Df.zero,p.d,p.threads⟩:=by rw [entE,if_pos rfl]
  have h0:(0:Int) ∈ idsS p:=by simp [idsS]
  refine Pg.ext4 ?_ ?_ ?_ ?_
  · rw [foldE,foldE_d,if_pos h0,e0]
  · rw [foldE,foldE_heads,key (fun e=>if e.head then some e.h else none) hdOf (fun d hd=>by rw [N.ent hd];rfl) (by rw [e0];rfl),N.hds];rfl
  · rw [foldE,foldE_defs,key (fun e=>if e.opn then some e.d else none) id (fun d hd=>by rw [N.ent hd];rfl) (by rw [e0];rfl)];simp [Pg.zero]
  · rw [foldE,foldE_t,if_pos h0,e0]
theorem fold_nice {p:Pg} (N:Nice p) {l:List Int} (hl:l.Pairwise (· < ·)) (h:∀ id ∈ idsS p,id ∈ l):foldE (entE p) l=p:=by
  rw [← foldE_keys N.keys hl ⟨by simp [idsS],h 0 (by simp [idsS])⟩ fun id hn=>⟨h id,fun _=>?_⟩]
  · exact N.fold
  · by_cases hm:id ∈ idsS p
    · exact hm
    · exact absurd (entE_out hm) hn
theorem fold_merged (p a b:Pg) {l:List Int} (hl:l.Pairwise (· < ·)) (h:∀ id ∈ idsS (mergedS p a b),id ∈ l) (h0:(0:Int) ∈ l):foldE (entE (mergedS p a b)) l=mergedS p a b:=by
  have e:entE (mergedS p a b)=pickAt p a b:=funext fun id=>entE_merged p a b id
  have hz:∀ id,pickAt p a b id≠En.zero→id ∈ l:=fun id hn=>by
    rw [← entE_merged] at hn
    refine h id ?_
    by_cases hm:id ∈ idsS (mergedS p a b)
    · exact hm
    · exact absurd (entE_out hm) hn
  rw [e,mergedS,foldE_keys hl (keys_lt _) ⟨h0,zero_keys (by simp)⟩ fun id hn=>⟨fun _=>pick_zero hn,fun _=>hz id hn⟩]
theorem three_ok {p a b:Pg} (hc:∀ id,agreeE (entE p id) (entE a id) (entE b id)=true) {m:Pg} (hm:mergedS p a b=m) (hr:programS m=0):threeS p a b=(m,[],0):=by
  have h0:conflS p a b=[]:=List.filter_eq_nil_iff.2 fun id _=>by simp [hc id]
  unfold threeS
  rw [h0,hm,hr]
  rfl
theorem side_left {p a:Pg} (N:Nice a) (R:programS a=0):threeS p a p=(a,[],0):=by
  refine three_ok (fun id=>by simp [agreeE]) ?_ R
  unfold mergedS
  rw [foldE_congr (g:=entE a) fun id _=>by simp [pickAt,pickE],fold_nice N (keys_lt _) fun id h=>mem_keys3.2 (.inr (.inl h))]
theorem side_right {p b:Pg} (N:Nice b) (R:programS b=0):threeS p p b=(b,[],0):=by rw [three_swap];exact side_left N R
theorem side_same {p a:Pg} (N:Nice a) (R:programS a=0):threeS p a a=(a,[],0):=by
  refine three_ok (fun id=>by simp [agreeE]) ?_ R
  unfold mergedS
  rw [foldE_congr (g:=entE a) fun id _=>by simp [pickAt,pickE],fold_nice N (keys_lt _) fun id h=>mem_keys3.2 (.inr (.inl h))]
theorem three_ok_iff {p a b:Pg} (h:(threeS p a b).2.2=0):conflS p a b=[]∧programS (mergedS p a b)=0∧threeS p a b=(mergedS p a b,[],0):=by
  unfold threeS at h ⊢
  by_cases h1:(conflS p a b).length > 0
  · rw [if_pos h1] at h;simp at h
  · rw [if_neg h1] at h ⊢
    have h0:conflS p a b=[]:=List.eq_nil_of_length_eq_zero (by omega)
    by_cases h2:programS (mergedS p a b)≠0
    · rw [if_pos h2] at h;exact absurd h h2
    · rw [if_neg h2];exact ⟨h0,by simpa using h2,rfl⟩
theorem three_zero {p a b:Pg} (h:(threeS p a b).2.2≠0):(threeS p a b).1=Pg.zero:=by
  unfold threeS at h ⊢
  split
  · rfl
  · split
    · rfl
    · rename_i h1 h2;rw [if_neg h1,if_neg h2] at h;simp at h
theorem again {p a b:Pg} (h:(threeS p a b).2.2=0) :
    threeS p (mergedS p a b) a=(mergedS p a b,[],0)∧threeS a (mergedS p a b) a=(mergedS p a b,[],0)∧threeS p b (mergedS p a b)=(mergedS p a b,[],0):=by
  obtain ⟨h0,hr,_⟩:=three_ok_iff h
  have hag:=agree_all h0
  generalize hm:mergedS p a b=m at hr ⊢
  have he:∀ id,entE m id=pickE (entE p id) (entE a id) (entE b id):=fun id=>by rw [← hm,entE_merged];rfl
  have hfold:∀ l:List Int,l.Pairwise (· < ·)→(0:Int) ∈ l→(∀ id ∈ idsS m,id ∈ l)→foldE (entE m) l=m:=fun l h1 h2 h3=>by
    rw [← hm] at h3 ⊢;exact fold_merged p a b h1 h3 h2
  have hA:∀ x y z:En,agreeE x y z=true→(agreeE x (pickE x y z) y=true∧pickE x (pickE x y z) y=pickE x y z)∧(agreeE y (pickE x y z) y=true∧pickE y (pickE x y z) y=pickE x y z)∧(agreeE x z (pickE x y z)=true∧pickE x z (pickE x y z)=pickE x y z):=by
    intro x y z h
    simp only [agreeE,Bool.or_eq_true,decide_eq_true_eq] at h
    rcases h with (h | h) | h
    · subst h;simp [pickE,agreeE]
    · subst h
      by_cases e:x=y
      · subst e;simp [pickE,agreeE]
      · have e':¬ y=x:=fun h=>e h.symm
        simp [pickE,agreeE,e,e']
    · subst h
      by_cases e:x=z
      · subst e;simp [pickE,agreeE]
      · have e':¬ z=x:=fun h=>e h.symm
        simp [pickE,agreeE,e,e']
  refine ⟨?_,?_,?_⟩
  · refine three_ok (fun id=>by rw [he];exact (hA _ _ _ (hag id)).1.1) ?_ hr
    unfold mergedS
    rw [foldE_congr (g:=entE m) fun id _=>by rw [pickAt,he];exact (hA _ _ _ (hag id)).1.2]
    exact hfold _ (keys_lt _) (zero_keys (by simp)) fun id h=>mem_keys3.2 (.inr (.inl h))
  · refine three_ok (fun id=>by rw [he];exact (hA _ _ _ (hag id)).2.1.1) ?_ hr
    unfold mergedS
    rw [foldE_congr (g:=entE m) fun id _=>by rw [pickAt,he];exact (hA _ _ _ (hag id)).2.1.2]
    exact hfold _ (keys_lt _) (zero_keys (by simp)) fun id h=>mem_keys3.2 (.inr (.inl h))
  · refine three_ok (fun id=>by rw [he];exact (hA _ _ _ (hag id)).2.2.1) ?_ hr
    unfold mergedS
    rw [foldE_congr (g:=entE m) fun id _=>by rw [pickAt,he];exact (hA _ _ _ (hag id)).2.2.2]
    exact hfold _ (keys_lt _) (zero_keys (by simp)) fun id h=>mem_keys3.2 (.inr (.inr h))
theorem findS_merged {p a b:Pg} (A:Nice p) (hA:Nice a) (hB:Nice b) (h:conflS p a b=[]) {id:Int} (hid:id≠0) :
    findS (mergedS p a b) id=if id ∈ changedS p b then findS b id else if id ∈ changedS p a then findS a id else findS p id:=by
  have hag:=agree_all h id
  have hm:=entE_merged p a b id
  have hf:∀ q:Pg,Nice q→findS q id=if (entE q id).opn then some (entE q id).d else none:=by
    intro q N
    cases e:findS q id with
    | none =>
      have:(entE q id).opn=false:=by
        rw [entE,if_neg hid]
        cases e2:headS q id with
        | none=>rfl
        | some x=>simp only [openE,(headS_id e2).2,e];rfl
      rw [this];rfl
    | some d =>
      have:=N.ent (findS_id e).1
      rw [(findS_id e).2] at this
      rw [this];rfl
  have hfm:findS (mergedS p a b) id=if (entE (mergedS p a b) id).opn then some (entE (mergedS p a b) id).d else none:=by
    have hd:∀ i x,(if (pickAt p a b i).opn then some (pickAt p a b i).d else none)=some x→x.id=i:=fun i x e=>by
      rcases pickAt_shp p a b i with ⟨_,_,h1,_⟩ | ⟨_,h1⟩ | ⟨_,_,_,_,_,⟨h1,h2⟩ | ⟨h1,h2⟩⟩
      · rw [h1] at e;simp at e
      · rw [h1] at e;simp [En.zero] at e
      · rw [h1] at e;simp at e;rw [← e];exact h2
      · rw [h1] at e;simp at e
    rw [findS,show (mergedS p a b).defs=_ from foldE_defs _ _ _,show Pg.zero.defs=[] from rfl,List.nil_append,find_filterMap hd,hm]
    split
    · rfl
    · rename_i hk
      by_cases e:pickAt p a b id=En.zero
      · rw [e];rfl
      · exact absurd (pick_zero e) hk
  rw [hfm,hm,hf p A,hf a hA,hf b hB,pickAt]
  simp only [mem_changed]
  simp only [agreeE,Bool.or_eq_true,decide_eq_true_eq] at hag
  generalize entE p id=x at *
  generalize entE a id=y at *
  generalize entE b id=z at *
  by_cases h1:x=z
  · subst h1
    by_cases h2:x=y
    · subst h2;simp [pickE]
    · simp [pickE,h2]
  · by_cases h2:y=z
    · subst h2;simp [pickE,h1]
    · have h3:x=y:=by
        rcases hag with (h | h) | h
        · exact absurd h h2
        · exact absurd h h1
        · exact h
      subst h3
      simp [pickE,h1]
theorem confl_eq (p a b:Pg):conflS p a b=(changedS p a).filter fun id=>(changedS p b).contains id && (changedS a b).contains id:=by
  refine lt_ext ((keys_lt _).filter _) (((keys_lt _).filter _).filter _) fun id=>?_
  have h1:id ∈ conflS p a b↔agreeE (entE p id) (entE a id) (entE b id)=false:=by
    rw [conflS,List.mem_filter]
    constructor
    · rintro ⟨_,h⟩;simpa using h
    · intro h
      refine ⟨?_,by simp [h]⟩
      rw [mem_keys3]
      by_cases h1:id ∈ idsS p
      · exact .inl h1
      by_cases h2:id ∈ idsS a
      · exact .inr (.inl h2)
      by_cases h3:id ∈ idsS b
      · exact .inr (.inr h3)
      rw [entE_out h1,entE_out h2,entE_out h3] at h
      simp [agreeE] at h
  have h2:id ∈ (changedS p a).filter (fun id=>(changedS p b).contains id && (changedS a b).contains id)↔entE p id≠entE a id∧entE p id≠entE b id∧entE a id≠entE b id:=by
    rw [List.mem_filter,mem_changed]
    simp only [Bool.and_eq_true,List.contains_iff_mem,mem_changed]
  rw [h1,show (id ∈ (changedS p a).filter _↔_) from h2]
  simp only [agreeE,Bool.or_eq_false_iff,decide_eq_false_iff_not]
  constructor
  · rintro ⟨⟨h1,h2⟩,h3⟩;exact ⟨h3,h2,h1⟩
  · rintro ⟨h1,h2,h3⟩;exact ⟨⟨h3,h2⟩,h1⟩
theorem is_pN {X:PC} (h:@pI X):@pI X:=h
structure Mrg (p:Pg):Prop where
  nc:Nice p
  pr:programS p=0
  ok:PgOk p
  hl:p.heads.length≤40
theorem VarOk.mrg {p:Pg} {n:Nat} (h:VarOk p n) (hn:n≤30):Mrg p where
  nc := { hid := by rw [h.hds, List.pairwise_map]; exact h.pw
          pos:=fun x hx=>by
            rw [h.hds] at hx
            obtain ⟨d,hd,rfl⟩:=List.mem_map.1 hx
            have:=(h.vl.ok d hd).id
            rw [hdOf_id];omega
          hds:=h.hds }
  pr:=(h.right hn).prog
  ok:=(h.right hn).pgok
  hl:=(h.right hn).hl
structure MrgN (p:Pg):Prop where
  nc:Nrm p
  ok:PgOk p
  hl:p.heads.length≤900
theorem Mrg.n {p:Pg} (h:Mrg p):MrgN p:=⟨h.nc.toNrm,h.ok,by have:=h.hl;omega⟩
theorem merged_defs {p a b:Pg} {d:Df} (h:d ∈ (mergedS p a b).defs):d ∈ a.defs∨d ∈ b.defs:=by
  rw [show (mergedS p a b).defs=_ from foldE_defs _ _ _,show Pg.zero.defs=[] from rfl,List.nil_append] at h
  obtain ⟨id,_,hd⟩:=List.mem_filterMap.1 h
  have key:∀ q:Pg,(entE q id).opn=true→(entE q id).d ∈ q.defs:=by
    intro q hq
    unfold entE at hq ⊢
    split at hq
    · simp at hq
    · rename_i hne
      rw [if_neg hne]
      cases e:headS q id with
      | none=>rw [e] at hq;simp [En.zero] at hq
      | some x =>
        rw [e] at hq
        simp only [openE] at hq ⊢
        obtain ⟨y,hy⟩:=Option.isSome_iff_exists.1 hq
        rw [hy];exact (findS_id hy).1
  rcases pickE_cases (entE p id) (entE a id) (entE b id) with e | e
  · have e':pickAt p a b id=entE a id:=e
    rw [e'] at hd
    cases ho:(entE a id).opn with
    | false=>rw [ho] at hd;simp at hd
    | true=>rw [ho] at hd;simp at hd;rw [← hd];exact .inl (key a ho)
  · have e':pickAt p a b id=entE b id:=e
    rw [e'] at hd
    cases ho:(entE b id).opn with
    | false=>rw [ho] at hd;simp at hd
    | true=>rw [ho] at hd;simp at hd;rw [← hd];exact .inr (key b ho)
theorem merged_ok {p a b:Pg} (ha:PgOk a) (hb:PgOk b):PgOk (mergedS p a b) where
  nm:=fun d hd=>by exact (merged_defs hd).elim (ha.nm d) (hb.nm d)
  fl:=fun d hd=>by exact (merged_defs hd).elim (ha.fl d) (hb.fl d)
  ca:=fun d hd=>by exact (merged_defs hd).elim (ha.ca d) (hb.ca d)
theorem merged_nrm {p a b:Pg} (hp:Nrm p) (ha:Nrm a) (hb:Nrm b):Nrm (mergedS p a b):=by
  have hh:(mergedS p a b).heads=(keysS [p,a,b]).filterMap fun id=>if (pickAt p a b id).head then some (pickAt p a b id).h else none:=by
    rw [show (mergedS p a b).heads=_ from foldE_heads _ _ _];rfl
  have hi:∀ i x,(if (pickAt p a b i).head then some (pickAt p a b i).h else none)=some x→x.id=i∧i≠0:=fun i x e=>by
    rcases pickAt_shp p a b i with ⟨_,h1,_⟩ | ⟨_,h1⟩ | ⟨h0,h1,h2,_⟩
    · rw [h1] at e;simp at e
    · rw [h1] at e;simp [En.zero] at e
    · rw [h1] at e;simp at e;rw [← e];exact ⟨h2,h0⟩
  refine ⟨?_,?_⟩
  · rw [hh]
    refine List.Pairwise.filterMap _ (fun i j hij x hx y hy=>?_) (keys_lt _)
    rw [(hi i x hx).1,(hi j y hy).1];exact hij
  · rw [hh]
    intro x hx
    obtain ⟨i,hm,e⟩:=List.mem_filterMap.1 hx
    have h0:0≤i:=by
      rcases mem_keys3.1 hm with h | h | h
      · exact idsS_pos hp h
      · exact idsS_pos ha h
      · exact idsS_pos hb h
    have:=hi i x e
    omega
theorem right_hl {p:Pg} (h:programS p=0):p.heads.length≤40:=by
  have:faultB p=false:=by
    cases e:faultB p with
    | false=>rfl
    | true=>rw [programS,e] at h;simp at h
  simp only [faultB,Bool.or_eq_false_iff,Bool.not_eq_false'] at this
  have h2:=this.1.1.2
  rw [headsB,Bool.and_eq_true] at h2
  have:=of_decide_eq_true h2.1
  omega
theorem merged_n {p a b:Pg} (hp:MrgN p) (ha:MrgN a) (hb:MrgN b) (h:programS (mergedS p a b)=0):MrgN (mergedS p a b):=⟨merged_nrm hp.nc ha.nc hb.nc,merged_ok ha.ok hb.ok,by have:=right_hl h;omega⟩
theorem Mg.bd {nb nl:Nat} (r:Mg):∀ d ∈ r.cells,Bd nb nl d:=fun d hd=>by
  rcases List.mem_append.1 hd with hd | hd
  · exact Pg.bd _ d hd
  · simp only [List.mem_cons,List.not_mem_nil,or_false] at hd
    rcases hd with rfl | rfl
    · exact bd_intSl _
    · exact .int _ _
def mgS (r:Pg × List Int × Int):Mg:=⟨r.1,r.2.1,r.2.2⟩
theorem t_three27 (p a b:Pg) (hp:MrgN p) (ha:MrgN a) (hb:MrgN b) (s:St):Spec Tryz.prog 13 [.agg p.cells,.agg a.cells,.agg b.cells] s (.agg (mgS (threeS p a b)).cells) s:=by
  obtain ⟨B,L,c⟩:=s
  refine Spec.introN [] Tryz.func13 rfl (by decide) hmix (by kernel_rfl) [ResultVar.cell 6 44] 22 rfl rfl ?_
  simp only [vqM,vt95,Tryz.f13,zA,zS,zM,zL,zE,zB,reduceCtorEq,vsMg]
  refine callI_spec (t_Three p a b hp.nc ha.nc hb.nc hp.hl ha.hl hb.hl (merged_ok ha.ok hb.ok) _) ?_
  generalize threeS p a b=r
  simp only [vqM,vt95,zA,zS,zM,zL,zE,zB,reduceCtorEq,vsMg,threeD]
  refine ret_loc (.inr rfl) ?_ (bd_agg (Mg.bd _)) (fun _ h=>h) (Nat.le_refl _)
  simp only [vqM,vt95,zA,zS,zM,zL,zE,zB,reduceCtorEq,vsMg,mgS]
  rfl
theorem bd_tup3 {nb nl:Nat} (p a b:Pg):Bd nb nl (.tup [.agg p.cells,.agg a.cells,.agg b.cells]):=.tup _ fun i hi=>by
  match i,hi with
  | 0,_=>exact bd_agg (Pg.bd _)
  | 1,_=>exact bd_agg (Pg.bd _)
  | 2,_=>exact bd_agg (Pg.bd _)
theorem t_made27 (b:List Int) (hb:∀ x ∈ b,0≤x∧x<256) (l m:List Cg) (hl:∀ z ∈ l,z.Ok) (hm:∀ z ∈ m,z.Ok) (s:St):Spec Tryz.prog 10 [.agg [.slice .none (byteCells b),.slice .none (cgCells l),.slice .none (cgCells m)]] s (.tup [.agg (made b).cells,.agg (variantS (made b) l).cells,.agg (variantS (made b) m).cells]) s:=by
  refine Spec.small fun hsm=>?_
  have h1:(cgCells l).length≤281474976710656:=(hsm _ (.head _)).sl (o:=.none) (by simp)
  have h2:(cgCells m).length≤281474976710656:=(hsm _ (.head _)).sl (o:=.none) (by simp)
  rw [cgCells_len] at h1 h2
  obtain ⟨B,L,c⟩:=s
  refine Spec.introN [(2,.text [false,false,false,false,true,false,false,false,true,true,true,true] [(0,1),(0,2),(5,0),(7,0)])] Tryz.func10 rfl (by decide) hmix (by kernel_rfl) [ResultVar.cell 2 37,ResultVar.cell 3 37,ResultVar.cell 4 37] 18 rfl rfl ?_
  simp only [vqM,vt96,Tryz.f10,zA,zS,zM,zL,zE,zB,reduceCtorEq]
  refine callI_spec (t_Made b hb _) ?_
  simp only [vqM,vt96,zA,zS,zM,zL,zE,zB,reduceCtorEq]
  refine callI_spec (t_Variant _ l hl (made_var hb) _) ?_
  simp only [vqM,vt96,zA,zS,zM,zL,zE,zB,reduceCtorEq]
  refine callI_spec (t_Variant _ m hm (made_var hb) _) ?_
  have hz:∀ q:Pg,List.drop 10 q.cells=[]:=fun _=>rfl
  simp only [vqM,vt96,zA,zS,zM,zL,zE,zB,reduceCtorEq,hz]
  refine ret_loc (.inr rfl) ?_ (bd_tup3 _ _ _) (fun _ h=>h) (Nat.le_refl _)
  simp only [vqM,vt96,zA,zS,zM,zL,zE,zB,reduceCtorEq,hz]
def namedD (id site:Int) (s:ByteArray):Df:=⟨id,site,s,0,0,[],[],0,0,[],1,[]⟩
def named (a b:ByteArray):Pg:=withH ⟨declared,[],[namedD 11 1 a,namedD 12 2 b],[]⟩
structure NmOk (a:ByteArray):Prop where
  nm:nameB a=true
  sz:a.size≤8
theorem headB_named {id site:Int} {s:ByteArray} (h:NmOk s) (h1:inB id 1 1073741824=true) (h2:inB site 1 1073741824=true):headB (namedD id site s) declared=true:=by
  have e:headB (namedD id site s) declared=(inB id 1 1073741824 && inB site 1 1073741824 && nameB s && inB 0 0 (w64 (declared.firms - 1)) && inB 0 0 (w64 (declared.parts - 1)) && inB 0 0 12 && inB 0 0 4 && inB 1 1 20000 && true && true && true):=rfl
  rw [e,h1,h2,h.nm]
  decide +kernel
theorem defB_named {id site:Int} {s:ByteArray} (h:NmOk s) (h1:inB id 1 1073741824=true) (h2:inB site 1 1073741824=true):defB (namedD id site s) declared=true:=by
  rw [defB,headB_named h h1 h2];rfl
theorem named_right {a b:ByteArray} (ha:NmOk a) (hb:NmOk b):Right (named a b) where
  dc:=declared_ok
  hl:=by show 2≤40;omega
  hid:=by show List.Pairwise (fun a b:Hd=>a.id<b.id) [headOf (namedD 11 1 a),headOf (namedD 12 2 b)];simp [headOf,namedD]
  hok:=fun h hh=>by
    have:h=headOf (namedD 11 1 a)∨h=headOf (namedD 12 2 b):=by
      have h':h ∈ [headOf (namedD 11 1 a),headOf (namedD 12 2 b)]:=hh
      simpa using h'
    rcases this with rfl | rfl
    · show headFine declared ⟨11,0,0,[],[]⟩=true
      decide +kernel
    · show headFine declared ⟨12,0,0,[],[]⟩=true
      decide +kernel
  dl:=by show 2≤40;omega
  did:=by show List.Pairwise (fun a b:Df=>a.id<b.id) [namedD 11 1 a,namedD 12 2 b];simp [namedD]
  hof:=fun d hd=>by
    have hd':d ∈ [namedD 11 1 a,namedD 12 2 b]:=hd
    exact List.mem_map.2 ⟨d,hd',rfl⟩
  dok:=fun d hd=>by
    have hd':d ∈ [namedD 11 1 a,namedD 12 2 b]:=hd
    simp only [List.mem_cons,List.not_mem_nil,or_false] at hd'
    rcases hd' with rfl | rfl
    · exact defB_named ha (by decide +kernel) (by decide +kernel)
    · exact defB_named hb (by decide +kernel) (by decide +kernel)
  ca:=fun d hd q hq=>by
    have hd':d ∈ [namedD 11 1 a,namedD 12 2 b]:=hd
    simp only [List.mem_cons,List.not_mem_nil,or_false] at hd'
    rcases hd' with rfl | rfl <;> (have hq':q ∈ ([]:List Pl):=hq) <;> simp at hq'
  st:=by show ([1,2]:List Int).Nodup;decide
  tl:=by show 0≤4;omega
  th:=fun t ht=>by
    have ht':t ∈ ([]:List Int):=ht
    simp at ht'
  sz:=fun d hd=>by
    have hd':d ∈ [namedD 11 1 a,namedD 12 2 b]:=hd
    have h1:=ha.sz
    have h2:=hb.sz
    simp only [List.mem_cons,List.not_mem_nil,or_false] at hd'
    rcases hd' with rfl | rfl
    · exact ⟨by show a.size≤_;omega,by show 0<1000000;omega,by show 0≤12;omega⟩
    · exact ⟨by show b.size≤_;omega,by show 0<1000000;omega,by show 0≤12;omega⟩
theorem named_mrg {a b:ByteArray} (ha:NmOk a) (hb:NmOk b):Mrg (named a b) where
  nc:={ hid:=(named_right ha hb).hid,pos:=fun h hh=>by have:=headFine_id ((named_right ha hb).hok h hh);omega,hds:=rfl }
  pr:=(named_right ha hb).prog
  ok:=(named_right ha hb).pgok
  hl:=(named_right ha hb).hl
def entN (id:Int) (s:ByteArray) (site:Int):En:=⟨true,true,headOf (namedD id site s),namedD id site s,Dc.zero,[]⟩
theorem entE_named (a b:ByteArray) (id:Int):entE (named a b) id=if id=0 then ⟨false,false,Hd.zero,Df.zero,declared,[]⟩ else if id=11 then entN 11 a 1 else if id=12 then entN 12 b 2 else En.zero:=by
  unfold entE
  by_cases h0:id=0
  · rw [if_pos h0,if_pos h0];rfl
  rw [if_neg h0,if_neg h0]
  have e1:headS (named a b) id=if id=11 then some (headOf (namedD 11 1 a)) else if id=12 then some (headOf (namedD 12 2 b)) else none:=by
    show List.find? _ [headOf (namedD 11 1 a),headOf (namedD 12 2 b)]=_
    by_cases h1:id=11
    · subst h1;rfl
    rw [if_neg h1,List.find?_cons_of_neg (fun h=>h1 (of_decide_eq_true h).symm)]
    by_cases h2:id=12
    · subst h2;rfl
    rw [if_neg h2,List.find?_cons_of_neg (fun h=>h2 (of_decide_eq_true h).symm)];rfl
  rw [e1]
  by_cases h1:id=11
  · subst h1;rfl
  rw [if_neg h1,if_neg h1]
  by_cases h2:id=12
  · subst h2;rfl
  rw [if_neg h2,if_neg h2]
theorem entN_eq {id site:Int} {a b:ByteArray}:entN id a site=entN id b site↔a=b:=by
  constructor
  · intro h
    have:=congrArg (fun e:En=>e.d.name) h
    exact this
  · rintro rfl;rfl
theorem three_named {a b c d e f x y:ByteArray} (hx:NmOk x) (hy:NmOk y) (h1:(c=e∧x=c)∨(c≠e∧a=e∧x=c)∨(c≠e∧a≠e∧a=c∧x=e)) (h2:(d=f∧y=d)∨(d≠f∧b=f∧y=d)∨(d≠f∧b≠f∧b=d∧y=f)) :
    threeS (named a b) (named c d) (named e f)=(named x y,[],0):=by
  have hp:∀ id,agreeE (entE (named a b) id) (entE (named c d) id) (entE (named e f) id)=true∧pickAt (named a b) (named c d) (named e f) id=entE (named x y) id:=by
    intro id
    rw [pickAt]
    simp only [entE_named]
    by_cases h0:id=0
    · subst h0;simp [agreeE,pickE]
    by_cases h11:id=11
    · subst h11
      simp only [h0,if_false,if_true,agreeE,pickE,entN_eq,Bool.or_eq_true,decide_eq_true_eq]
      rcases h1 with ⟨p1,p2⟩ | ⟨p1,p2,p3⟩ | ⟨p1,p2,p3,p4⟩
      · simp [p1,p2]
      · simp [p2,p3]
      · simp [p1,p2,p3,p4] <;> simp_all
    by_cases h12:id=12
    · subst h12
      simp only [h0,h11,if_false,if_true,agreeE,pickE,entN_eq,Bool.or_eq_true,decide_eq_true_eq]
      rcases h2 with ⟨p1,p2⟩ | ⟨p1,p2,p3⟩ | ⟨p1,p2,p3,p4⟩
      · simp [p1,p2]
      · simp [p2,p3]
      · simp [p1,p2,p3,p4] <;> simp_all
    simp [h0,h11,h12,agreeE,pickE]
  refine three_ok (fun id=>(hp id).1) ?_ (named_right hx hy).prog
  unfold mergedS
  rw [foldE_congr (g:=entE (named x y)) fun id _=>(hp id).2]
  exact fold_nice (named_mrg hx hy).nc (keys_lt _) fun id hid=>mem_keys3.2 (.inl hid)
theorem named_confl {a b c d e f:ByteArray} (h1:c≠e∧a≠e∧a≠c) (h2:d=f):threeS (named a b) (named c d) (named e f)=(Pg.zero,[11],270):=by
  have hc:conflS (named a b) (named c d) (named e f)=[11]:=by
    refine lt_ext ((keys_lt _).filter _) (by simp) fun id=>?_
    unfold conflS
    rw [List.mem_filter,mem_keys3]
    simp only [List.mem_singleton,entE_named]
    constructor
    · rintro ⟨_,h⟩
      by_cases h11:id=11
      · exact h11
      by_cases h0:id=0
      · subst h0;simp [agreeE] at h
      by_cases h12:id=12
      · subst h12;subst h2;simp [agreeE] at h
      simp [h0,h11,h12,agreeE] at h
    · rintro rfl
      refine ⟨.inl (by show (11:Int) ∈ [0,11,12];simp),?_⟩
      simp [agreeE,entN_eq,h1.1,h1.2.1,h1.2.2]
  rw [threeS,hc];rfl
theorem changed_named {a b c d:ByteArray} (h1:a≠c) (h2:b≠d):changedS (named a b) (named c d)=[11,12]:=by
  refine lt_ext (l:=changedS (named a b) (named c d)) ((keys_lt _).filter _) (by simp) fun id=>?_
  rw [show (id ∈ changedS (named a b) (named c d)↔_) from mem_changed]
  simp only [entE_named]
  constructor
  · intro h
    by_cases h11:id=11
    · simp [h11]
    by_cases h0:id=0
    · subst h0;simp at h
    by_cases h12:id=12
    · simp [h12]
    simp [h0,h11,h12] at h
  · intro h
    simp only [List.mem_cons,List.not_mem_nil,or_false] at h
    rcases h with rfl | rfl
    · simp [entN_eq,h1]
    · simp [entN_eq,h2]
theorem changed_self (p:Pg):changedS p p=[]:=by
  refine List.filter_eq_nil_iff.2 fun id _=>by simp
theorem t_named27 (a b:ByteArray) (s:St):Spec Tryz.prog 23 [.str a,.str b] s (.agg (named a b).cells) s:=by
  obtain ⟨B,L,c⟩:=s
  refine Spec.introN [] Tryz.func23 rfl (by decide) hmix (by kernel_rfl) [ResultVar.cell 4 37] 15 rfl rfl ?_
  simp only [vqM,vt97,Tryz.f23,zA,zS,zM,zL,zE,zB,reduceCtorEq]
  refine callI_spec (t_declared _) ?_
  simp only [vqM,vt97,zA,zS,zM,zL,zE,zB,reduceCtorEq]
  refine callI_spec (t_WithHeads ⟨declared,[],[namedD 11 1 a,namedD 12 2 b],[]⟩ (by show 2≤100000;omega) _) ?_
  have hpz:Pg.zc.length=10:=rfl
  simp only [vqM,vt97,zA,zS,zM,zL,zE,zB,reduceCtorEq,hpz]
  refine ret_loc (.inr rfl) ?_ (bd_agg (Pg.bd _)) (fun _ h=>h) (Nat.le_refl _)
  simp only [vqM,vt97,zA,zS,zM,zL,zE,zB,reduceCtorEq,hpz]
  rfl
theorem nmOk1 {c:UInt8} (h:nameB ⟨#[c]⟩=true):NmOk ⟨#[c]⟩:=⟨h,by show 1≤8;omega⟩
theorem nmX:NmOk ⟨#[120]⟩:=nmOk1 (by decide +kernel)
theorem nmY:NmOk ⟨#[121]⟩:=nmOk1 (by decide +kernel)
theorem nmA:NmOk ⟨#[97]⟩:=nmOk1 (by decide +kernel)
theorem nmB:NmOk ⟨#[98]⟩:=nmOk1 (by decide +kernel)
theorem nmC:NmOk ⟨#[99]⟩:=nmOk1 (by decide +kernel)
def Ex27 (B:List Box) (L:List Nat) (c:Nat) (e:List D) (s:St):Prop:=∃ i j C,keep [1,2,3] e=[.junk,.box B.length 0,.box i 0,.box j 0,.junk,.junk,.junk,.junk,.junk,.junk,.junk,.junk,.junk,.junk,.junk,.junk,.junk,.junk,.junk,.junk,.junk,.junk,.junk,.junk,.junk,.junk,.junk,.junk,.junk,.junk,.junk,.junk,.junk,.junk,.junk,.junk,.junk,.junk,.junk,.junk,.junk,.junk,.junk,.junk,.junk,.junk,.junk,.junk,.junk,.junk,.junk,.junk,.junk,.junk,.junk,.junk,.junk,.junk,.junk,.junk,.junk,.junk,.junk,.junk,.junk,.junk,.junk,.junk,.junk,.junk]∧s=⟨B++C,L,c⟩∧(B++C)[B.length]? = some (.cells (named ⟨#[120]⟩ ⟨#[121]⟩).cells)∧(B++C)[i]? = some (.cells (mgS (named ⟨#[97]⟩ ⟨#[98]⟩,[],0)).cells)∧(B++C)[j]? = some (.cells (mgS (Pg.zero,[11],270)).cells)
theorem ex27_mk {B C:List Box} {L:List Nat} {c i j:Nat} {e:List D} {s:St} (h1:keep [1,2,3] e=[.junk,.box B.length 0,.box i 0,.box j 0,.junk,.junk,.junk,.junk,.junk,.junk,.junk,.junk,.junk,.junk,.junk,.junk,.junk,.junk,.junk,.junk,.junk,.junk,.junk,.junk,.junk,.junk,.junk,.junk,.junk,.junk,.junk,.junk,.junk,.junk,.junk,.junk,.junk,.junk,.junk,.junk,.junk,.junk,.junk,.junk,.junk,.junk,.junk,.junk,.junk,.junk,.junk,.junk,.junk,.junk,.junk,.junk,.junk,.junk,.junk,.junk,.junk,.junk,.junk,.junk,.junk,.junk,.junk,.junk,.junk,.junk]) (h2:s=⟨B++C,L,c⟩) (h3:(B++C)[B.length]? = some (.cells (named ⟨#[120]⟩ ⟨#[121]⟩).cells)) (h4:(B++C)[i]? = some (.cells (mgS (named ⟨#[97]⟩ ⟨#[98]⟩,[],0)).cells)) (h5:(B++C)[j]? = some (.cells (mgS (Pg.zero,[11],270)).cells)):Ex27 B L c e s:=⟨i,j,C,h1,h2,h3,h4,h5⟩
theorem t_examples27 (s:St):Spec Tryz.prog 9 [] s (.bool true) s:=by
  have e1:=@three_named ⟨#[120]⟩ ⟨#[121]⟩ ⟨#[97]⟩ ⟨#[121]⟩ ⟨#[120]⟩ ⟨#[98]⟩ ⟨#[97]⟩ ⟨#[98]⟩ nmA nmB (by decide +kernel) (by decide +kernel)
  have e2:=@named_confl ⟨#[120]⟩ ⟨#[121]⟩ ⟨#[97]⟩ ⟨#[121]⟩ ⟨#[99]⟩ ⟨#[121]⟩ (by decide +kernel) rfl
  have e3:=@three_named ⟨#[120]⟩ ⟨#[121]⟩ ⟨#[97]⟩ ⟨#[121]⟩ ⟨#[97]⟩ ⟨#[98]⟩ ⟨#[97]⟩ ⟨#[98]⟩ nmA nmB (by decide +kernel) (by decide +kernel)
  have e4:=@changed_named ⟨#[120]⟩ ⟨#[121]⟩ ⟨#[97]⟩ ⟨#[98]⟩ (by decide +kernel) (by decide +kernel)
  have e5:=changed_self (named ⟨#[120]⟩ ⟨#[121]⟩)
  have m0:=(named_mrg nmX nmY).n
  have m1:=(named_mrg nmA nmY).n
  have m2:=(named_mrg nmX nmB).n
  have m3:=(named_mrg nmC nmY).n
  have m4:=(named_mrg nmA nmB).n
  obtain ⟨B,L,c⟩:=s
  refine Spec.introN [(1,.cut),(2,.stop),(3,.text [false,false,false,false,true,true] [(0,1),(1,1),(2,1),(3,1)]),(4,.text [false,false,false,false,false,false,true,true,false,false,false,false,false,false,false,false,false,false,true,false,false,false,false,false,false,false,false,false,false,false,false,false,false,false,false,true,true,false,false,false,true,true,false,true,false,false,false,false,true,false,false,false,false] [(5,1),(34,4),(39,6)])] Tryz.func9 rfl (by decide) hmix (by kernel_rfl) [ResultVar.tmp 0] 70 rfl rfl ?_
  simp only [vqM,vt98,Tryz.f9,zA,zS,zM,zL,zE,zB,reduceCtorEq]
  refine seq_go ?_
  simp only [vqM,vt98,zA,zS,zM,zL,zE,zB,reduceCtorEq,vsK]
  refine callI_spec (t_named27 _ _ _) ?_
  simp only [vqM,vt98,zA,zS,zM,zL,zE,zB,reduceCtorEq,vsK]
  refine awN_seq ?_
  refine awN_open fun _=>?_
  refine awI_cutI (Ex27 B L c) ?_ ?_
  · skip
    refine awI_drawM hmix [8,9,10,11] [⟨[0,1,2,3,4,5,6,7,8,9,10,11],[(0,1),(0,2),(1,1),(1,2),(2,1),(2,2),(3,1),(3,2),(4,1),(4,2),(5,1),(5,2),(6,1),(6,2),(7,1),(7,2)]⟩,⟨[0,1,2,3,4,5,6,7,9,8,10,11],[(0,1),(0,2),(1,1),(1,2),(2,1),(2,2),(3,1),(3,2),(4,1),(4,2),(5,1),(5,2),(6,1),(6,2),(7,1),(7,2)]⟩] (by kernel_rfl) fun pl hpl=>?_
    simp only [List.mem_cons,List.not_mem_nil,or_false] at hpl
    rcases hpl with rfl | rfl
    all_goals
      simp only [vqM,vt98,zA,zS,zM,zL,zE,zB,reduceCtorEq,vsMg,List.getD_cons_zero,List.getD_cons_succ,List.contains_cons,List.contains_nil,Bool.or_false,Bool.or_true,Bool.true_or,Bool.false_or,e1,e2]
    all_goals
      repeat' (first
        | (with_reducible refine needI_intro ?_ ?_)
        | (with_reducible refine And.intro ?_ ?_)
        | ((with_reducible refine is_call ?_);refine callI_spec (t_named27 _ _ _) ?_;simp only [vqM,vt98,zA,zS,zM,zL,zE,zB,reduceCtorEq,vsMg,List.getD_cons_zero,List.getD_cons_succ,List.contains_cons,List.contains_nil,Bool.or_false,Bool.or_true,Bool.true_or,Bool.false_or,e1,e2])
        | ((with_reducible refine is_call ?_);refine callI_spec (t_three27 _ _ _ m0 m1 m2 _) ?_;simp only [vqM,vt98,zA,zS,zM,zL,zE,zB,reduceCtorEq,vsMg,List.getD_cons_zero,List.getD_cons_succ,List.contains_cons,List.contains_nil,Bool.or_false,Bool.or_true,Bool.true_or,Bool.false_or,e1,e2])
        | ((with_reducible refine is_call ?_);refine callI_spec (t_three27 _ _ _ m0 m1 m3 _) ?_;simp only [vqM,vt98,zA,zS,zM,zL,zE,zB,reduceCtorEq,vsMg,List.getD_cons_zero,List.getD_cons_succ,List.contains_cons,List.contains_nil,Bool.or_false,Bool.or_true,Bool.true_or,Bool.false_or,e1,e2])
        | ((with_reducible refine is_call ?_);refine callI_spec (t_three27 _ _ _ m0 m1 m4 _) ?_;simp only [vqM,vt98,zA,zS,zM,zL,zE,zB,reduceCtorEq,vsMg,List.getD_cons_zero,List.getD_cons_succ,List.contains_cons,List.contains_nil,Bool.or_false,Bool.or_true,Bool.true_or,Bool.false_or,e1,e2])
        | (with_reducible refine is_pN ?_;simp only [vqM,vt98,zA,zS,zM,zL,zE,zB,reduceCtorEq,vsMg,List.getD_cons_zero,List.getD_cons_succ,List.contains_cons,List.contains_nil,Bool.or_false,Bool.or_true,Bool.true_or,Bool.false_or,e1,e2]))
    all_goals
      refine meet_intro ?_
      apply ex27_mk
      · simp only [vke,zB,zA]
        rfl
      · rfl
      all_goals (first | (simp only [box_at,box_at0,List.getElem?_cons_succ,List.getElem?_cons_zero];done) | (simp only [box_at,box_at0,List.getElem?_cons_succ,List.getElem?_cons_zero];rfl) | (simp only [zA,box_at];rfl) | trace_state)
  rintro e s ⟨i2,i3,C,he,rfl,h0,h2,h3⟩
  simp only [vqM,vt98,zA,zS,zM,zL,zE,zB,reduceCtorEq,vsK]
  refine awN_keep [1,2,3] ?_
  rw [he]
  clear he
  obtain ⟨B2,hB2⟩:∃ B2,B2=B++C:=⟨_,rfl⟩
  rw [← hB2] at h0 h2 h3 ⊢
  refine awN_cw hmix ?_
  have d0:∀ q:Mg,List.drop 12 q.cells=[]:=fun _=>rfl
  have d1:(mgS (named ⟨#[97]⟩ ⟨#[98]⟩,[],0)).e=0:=rfl
  have d2:(mgS (Pg.zero,[11],270)).e=270:=rfl
  have d3:(mgS (named ⟨#[97]⟩ ⟨#[98]⟩,[],0)).p=named ⟨#[97]⟩ ⟨#[98]⟩:=rfl
  have d4:(mgS (Pg.zero,[11],270)).c=[11]:=rfl
  have d5:(dfCells (mgS (Pg.zero,[11],270)).p.defs).length=0:=rfl
  simp only [vqM,vt98,zA,zS,zM,zL,zE,zB,reduceCtorEq,h0,h2,h3,vsMg]
  repeat' (first
    | (with_reducible refine needI_intro ?_ ?_)
    | (with_reducible refine And.intro ?_ ?_)
    | ((with_reducible refine is_call ?_);refine callI_spec (t_named27 _ _ _) ?_;simp only [vqM,vt98,zA,zS,zM,zL,zE,zB,reduceCtorEq,h0,h2,h3,vsMg,e3,e4,e5,d0,List.append_nil,box_lt h2,box_lt h3,box_lt h0,d1,d2,d3,d4,d5,decide_true,intCells_len])
    | ((with_reducible refine is_call ?_);refine callI_spec (t_three27 _ _ _ m0 m1 m2 _) ?_;simp only [vqM,vt98,zA,zS,zM,zL,zE,zB,reduceCtorEq,h0,h2,h3,vsMg,e3,e4,e5,d0,List.append_nil,box_lt h2,box_lt h3,box_lt h0,d1,d2,d3,d4,d5,decide_true,intCells_len])
    | ((with_reducible refine is_call ?_);refine callI_spec (t_three27 _ _ _ m0 m1 m3 _) ?_;simp only [vqM,vt98,zA,zS,zM,zL,zE,zB,reduceCtorEq,h0,h2,h3,vsMg,e3,e4,e5,d0,List.append_nil,box_lt h2,box_lt h3,box_lt h0,d1,d2,d3,d4,d5,decide_true,intCells_len])
    | ((with_reducible refine is_call ?_);refine callI_spec (t_three27 _ _ _ m0 m1 m4 _) ?_;simp only [vqM,vt98,zA,zS,zM,zL,zE,zB,reduceCtorEq,h0,h2,h3,vsMg,e3,e4,e5,d0,List.append_nil,box_lt h2,box_lt h3,box_lt h0,d1,d2,d3,d4,d5,decide_true,intCells_len])
    | ((with_reducible refine is_call ?_);refine callI_spec (t_Changed _ _ m0.nc m4.nc m0.hl m4.hl _) ?_;simp only [vqM,vt98,zA,zS,zM,zL,zE,zB,reduceCtorEq,h0,h2,h3,vsMg,e3,e4,e5,d0,List.append_nil,box_lt h2,box_lt h3,box_lt h0,d1,d2,d3,d4,d5,decide_true,intCells_len])
    | ((with_reducible refine is_call ?_);refine callI_spec (t_Changed _ _ m0.nc m0.nc m0.hl m0.hl _) ?_;simp only [vqM,vt98,zA,zS,zM,zL,zE,zB,reduceCtorEq,h0,h2,h3,vsMg,e3,e4,e5,d0,List.append_nil,box_lt h2,box_lt h3,box_lt h0,d1,d2,d3,d4,d5,decide_true,intCells_len])
    | ((with_reducible refine is_call ?_);refine callI_spec (t_SameProgramF _ _ _) ?_;simp only [vqM,vt98,zA,zS,zM,zL,zE,zB,reduceCtorEq,h0,h2,h3,vsMg,e3,e4,e5,d0,List.append_nil,box_lt h2,box_lt h3,box_lt h0,d1,d2,d3,d4,d5,decide_true,intCells_len])
    | ((with_reducible refine is_call ?_);refine callI_spec (t_SameInts _ [11] _) ?_;simp only [vqM,vt98,zA,zS,zM,zL,zE,zB,reduceCtorEq,h0,h2,h3,vsMg,e3,e4,e5,d0,List.append_nil,box_lt h2,box_lt h3,box_lt h0,d1,d2,d3,d4,d5,decide_true,intCells_len])
    | ((with_reducible refine is_call ?_);refine callI_spec (t_SameInts _ [11,12] _) ?_;simp only [vqM,vt98,zA,zS,zM,zL,zE,zB,reduceCtorEq,h0,h2,h3,vsMg,e3,e4,e5,d0,List.append_nil,box_lt h2,box_lt h3,box_lt h0,d1,d2,d3,d4,d5,decide_true,intCells_len])
    | (with_reducible refine is_pN ?_;simp only [vqM,vt98,zA,zS,zM,zL,zE,zB,reduceCtorEq,h0,h2,h3,vsMg,e3,e4,e5,d0,List.append_nil,box_lt h2,box_lt h3,box_lt h0,d1,d2,d3,d4,d5,decide_true,intCells_len]))
  rw [hB2,List.append_assoc]
  refine ret_loc (.inr rfl) ?_ (.bool _) (fun _ h=>h) (Nat.le_refl _)
  simp only [vqM,vt98,zA,zS,zM,zL,zE,zB,reduceCtorEq]
end Go.V
namespace Go.Proofs.YtmfmcdomgagebaaGreat
open Go.V Go.ChangeShapes Go.WideShapes
set_option maxRecDepth 20000
set_option maxHeartbeats 4000000
theorem own:ownKnob Tryz.prog.godebug=none:=by kernel_rfl
theorem kids:Kids Tryz.prog (· < Tryz.prog.types.size):=kids_rows (by kernel_rfl) (by kernel_rfl)
theorem full:∀ t e,t<Tryz.prog.types.size→Tryz.prog.underlying t=some (.slice e)→0<Tryz.prog.cellsOf e:=slices_full_of Tryz.prog (by kernel_rfl)
structure RawT (P:Program) (t e:TypeId) (f0:Field):Prop where
  st:P.underlying t=some (.struct #[f0])
  sl:P.underlying f0.type=some (.slice e)
  el:P.underlying e=some (.int .u8)
  c1:P.cellsOf e=1
  c2:P.cellsOf t=1
  c3:P.cellsOf f0.type=1
  o0:f0.offset=0
  by1:P.bytesOf e=1
def fieldOf (P:Program) (t:TypeId):Field:=match P.underlying t with
  | some (.struct fs)=>fs.toList.headD default
  | _=>default
def elemOf (P:Program) (t:TypeId):TypeId:=match P.underlying t with
  | some (.slice e)=>e
  | _=>0
end Go.Proofs.YtmfmcdomgagebaaGreat
