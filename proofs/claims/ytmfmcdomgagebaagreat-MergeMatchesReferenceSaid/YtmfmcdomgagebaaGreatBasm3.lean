/-
  The value-level logic and its contracts, part 3 (texts V26, V27, V28, V29, V30, V31, V32, V25, V33).
-/
import Derived.Test.YtmfmcdomgagebaaGreatBasm2
import Derived.Sort.EveryDepth
import Derived.Sort.Grow
import Derived.JoinedOf
import Derived.ChangeSame
import Derived.ChangeSlices
import Derived.ChangeStays
import Derived.ReadAgain
import Derived.RowKit3
import Derived.SizedLaws
set_option linter.all false
open Nat renaming reduceAdd → zA, reduceSub → zS, reduceMul → zM, reduceLeDiff → zL, reduceEqDiff → zE, reduceBEq → zB
namespace Go.V
theorem vsA:(type_of% @vsN)∧(type_of% @vsCode)∧(type_of% @vsOps)∧(type_of% @vsEnv)∧(type_of% @vsEv)∧(type_of% @vsM)∧(type_of% @vsNd)∧(type_of% @vsJ)∧(type_of% @vsQ)∧(type_of% @vsDraw) :=
 ⟨@vsN,@vsCode,@vsOps,@vsEnv,@vsEv,@vsM,@vsNd,@vsJ,@vsQ,@vsDraw⟩
theorem vsB :
  (∀ (α:Type) (n:Nat) (l:List α),(l.drop n).length=l.length - n)∧(∀ (α β:Type) (f:α→β) (x:α) (l:List α),(x::l).map f=f x::l.map f)∧(∀ (α β:Type) (f:α→β),([]:List α).map f=[]) ∧
  (∀ (α:Type) (a b c:List α),(a++b)++c=a++(b++c))∧(∀ n:Nat,n≤n)∧(∀ n:Nat,0<n.succ)∧(∀ n:Nat,0<n+1)∧(∀ (α:Type) (x y:α),(x ∈ [y])=(x=y))∧(∀ n:Nat,0≤n) ∧
  (∀ (α:Type) (p:α→Bool) (x:α) (l:List α),(x::l).all p=(p x && l.all p))∧(∀ (α:Type) (p:α→Bool),([]:List α).all p=true)∧(∀ b:Bool,(b && true)=b)∧((!true)=false)∧((!false)=true):=by
 refine ⟨fun _ _ _=>List.length_drop,fun _ _ _ _ _=>rfl,fun _ _ _=>rfl,fun _ _ _ _=>List.append_assoc _ _ _,fun _=>Nat.le_refl _,fun _=>Nat.zero_lt_succ _,fun _=>Nat.zero_lt_succ _,fun _ _ _=>by simp,fun _=>Nat.zero_le _,fun _ _ _ _=>rfl,fun _ _=>rfl,fun b=>by cases b <;> rfl,rfl,rfl⟩
theorem vsC :
  (∀ (α:Type) (h:Decidable True) (x y:α),(@ite α True h x y)=x)∧(∀ (α:Type) (h:Decidable False) (x y:α),(@ite α False h x y)=y) ∧
  (∀ (h:Decidable True) (x y:Prop),(@ite Prop True h x y)=x)∧(∀ (h:Decidable False) (x y:Prop),(@ite Prop False h x y)=y) ∧
  (∀ p:Prop,(p∧True)=p)∧(∀ p:Prop,(True∧p)=p)∧(∀ p:Prop,(p∧p)=p) ∧
  (∀ (α:Type) [BEq α] [ReflBEq α] (a:α),(a == a)=true)∧(∀ (α:Type) (p:α→Prop) (a':α),(∀ a,a=a'→p a)=p a'):=by
 refine ⟨fun _ _ _ _=>if_pos trivial,fun _ _ _ _=>if_neg id,fun _ _ _=>if_pos trivial,fun _ _ _=>if_neg id,fun p=>and_true p,fun p=>true_and p,fun p=>and_self p,fun α _ _ a=>beq_self_eq_true a,fun _ _ _=>propext forall_eq⟩
def vq:=And.intro vsA (And.intro vsB vsC)
theorem vkp :
  (∀ (a x:Nat) (l:List Nat),(a::l).contains x=(x == a || l.contains x))∧(∀ x:Nat,([]:List Nat).contains x=false) ∧
  (∀ b:Bool,(b || false)=b)∧(∀ b:Bool,(b || true)=true)∧(∀ b:Bool,(true || b)=true)∧(∀ b:Bool,(false || b)=b) :=
 ⟨fun _ _ _=>List.contains_cons,fun _=>rfl,Bool.or_false,Bool.or_true,Bool.true_or,Bool.false_or⟩
def vke:=And.intro vsEnv vkp
theorem wpOpsIn_app {F:Fence} {n:Nat} {P:Program} {ops:Array Oper} {Q Q':Exit→Act→World→Prop} {l2:List Nat} (h0:∀ a w,Q' .normal a w→wpOpsIn F n P ops Q l2 a w) (hQ:∀ x a w,(∀ q:x=.normal,False)→Q' x a w→Q x a w) (hL:LetsOut Q'→LetsOut Q) :
  ∀ (l1:List Nat) (a:Act) (w:World),wpOpsIn F n P ops Q' l1 a w→wpOpsIn F n P ops Q (l1++l2) a w:=by
 intro l1
 induction l1 with
 | nil=>intro a w h;exact h0 a w h
 | cons i l1 ih =>
  intro a w h
  simp only [List.cons_append,wpOpsIn] at h ⊢
  split
  ·rename_i hi;simp only [hi] at h;exact ih a w h
  ·rename_i o hi
   simp only [hi] at h
   split
   ·rename_i hw
    simp only [hw,if_true] at h
    unfold Oper.wpIn at *
    refine ⟨h.1,?_⟩
    have hh:=h.2
    generalize (o.semAt F.round a.eval).run P w=r at *
    cases r with
    | ok x w' =>
     cases x <;> simp only [Oper.uponIn] at hh ⊢ <;>
      first
       | exact ih _ _ hh
       | exact ⟨hh.1,CallsIn.mono hh.2 (fun e w'' he=>by cases e <;> first | exact ih _ _ he | exact hQ _ _ _ (fun q=>by cases q) he | exact hL he)⟩
       | exact ⟨hh.1,RowsIn.mono hh.2 (fun _ _ he=>ih _ _ he)⟩
       | exact ⟨hh.1,RoundIn.mono hh.2 (fun e w'' he=>by cases e <;> first | exact ih _ _ he | exact hQ _ _ _ (fun q=>by cases q) he | exact hL he)⟩
    | halt x w'=>cases x <;> simp only [Oper.uponIn] at hh ⊢ <;> first | exact hh | exact hQ _ _ _ (fun q=>by cases q) hh | exact hL hh
   ·rename_i hw
    simp only [hw] at h
    exact ⟨h.1,ih _ _ h.2⟩
def ghQ (P:Program) (full os2:List Oper) (K:List D→St→Prop):List D→St→Prop:=fun e s=>∃ e' s',Gh e s e' s'∧runN P full os2 e' s' K
@[reducible] def ghC (P:Program) (full os2:List Oper) (K:KC):KC:=⟨ghQ P full os2 K.f⟩
theorem awp_region2 {ro:Option Nat} {P:Program} {id:Nat} {os1 os2:List Oper} {Q:Exit→List D→St→Prop} {e:List D} {s:St} (h:runN P (os1++os2) os1 e s (ghQ P (os1++os2) os2 (Q .normal))) :
  AWp ro P (.region id (os1++os2).toArray false) Q e s:=by
 intro O0 a w g ha
 refine wpIn_region ?_
 have hr:List.range (os1++os2).toArray.size=List.range os1.length++(List.range os2.length).map (os1.length + ·):=by
  rw [List.size_toArray,List.length_append,List.range_add]
 rw [hr]
 refine wpOpsIn_app (Q':=fun x a w=>match x with | .normal=>wpOpsIn (W ro) 0 P (os1++os2).toArray (conc O0 g Q) ((List.range os2.length).map (os1.length + ·)) a w | x=>conc O0 g Q x a w) (fun a w h=>h) (fun x a w hx h=>by cases x <;> first | exact absurd rfl (fun q=>hx q) | exact h) (fun h=>h) _ a w ?_
 refine runN_ok (O0:=O0) (List.range os1.length) os1 (by simp) (fun i h1 h2=>by simp only [List.getElem_range,List.getElem?_toArray];rw [List.getElem?_append_left h2,List.getElem?_eq_getElem h2]) e s a w g ha (by simpa using h) fun a' w' g' e' s' hle ha' hk=>?_
 obtain ⟨e2,s2,hg,hr2⟩:=hk
 obtain ⟨g2,hle2,ha2⟩:=hg O0 a' w' g' ha'
 refine runN_ok (O0:=O0) ((List.range os2.length).map (os1.length + ·)) os2 (by simp) (fun i h1 h2=>by simp at h1;simp [h1]) e2 s2 a' w' g2 ha2 (by simpa using hr2) fun a3 w3 g3 e3 s3 hle3 ha3 hk3=>?_
 exact ⟨trivial,e3,s3,g3,(hle.trans hle2).trans hle3,ha3,hk3⟩
theorem awN_region2a {X:Draws} {ro:Option Nat} {P:Program} {id:Nat} {os1 os2 ops:List Oper} {e:List D} {s:St} {Q:QC} (k:Nat) (h1:ops.take k=os1) (h2:ops.drop k=os2)
  (h:@runNI P ops os1 e s (ghC P ops os2 (normC Q))):@AWNI X ro P (.region id ops.toArray false) e s Q:=by
 have ho:os1++os2=ops:=by rw [← h1,← h2];exact List.take_append_drop _ _
 intro _
 rw [← ho]
 refine awp_region2 ?_
 rw [ho]
 exact h
theorem kI_gh {P:Program} {full os2:List Oper} {e e':List D} {s s':St} {K:KC} (hg:Gh e s e' s') (h:@runNI P full os2 e' s' K):@kI e s (ghC P full os2 K):=⟨e',s',hg,h⟩
theorem gh_weak {e e':List D} {s:St} (hl:e.length=e'.length) (hw:∀ (i:Nat) (h1:i<e.length) (h2:i<e'.length),weakD e[i] e'[i]):Gh e s e' s:=fun O0 a w g ha =>
 ⟨g,.refl g,⟨⟨by rw [← hl];exact ha.env.1,fun i h1 h2=>hw i (by omega) h1 g _ (ha.env.2 i (by omega) h2)⟩,ha.wr,ha.sub,ha.df⟩⟩
theorem Gh.trans {e e1 e2:List D} {s s1 s2:St} (h:Gh e s e1 s1) (k:Gh e1 s1 e2 s2):Gh e s e2 s2:=fun O0 a w g ha=>by
 obtain ⟨g1,l1,a1⟩:=h O0 a w g ha
 obtain ⟨g2,l2,a2⟩:=k O0 a w g1 a1
 exact ⟨g2,l1.trans l2,a2⟩
theorem gh_slot {e:List D} {s:St} (i:Nat) {d d':D} (hi:e[i]? = some d) (hw:weakD d d'):Gh e s (e.set i d') s:=by
 refine gh_weak (by simp) fun j h1 h2=>?_
 rw [List.getElem_set]
 split
 ·rename_i hij;subst hij
  obtain ⟨h3,h4⟩:=List.getElem?_eq_some_iff.1 hi
  rw [h4];exact hw
 ·exact weak_refl _
def rowZ (b n sz:Nat) (e:List D):Prop:=∀ off z,(D.row b off n z) ∈ e→z=sz
theorem fz_ok {g g':G} {b n sz:Nat} {xs:List (List D)} (hle:g.le g') (hf:∀ v,R g (.row b 0 n sz) v→R g' (.slice .none xs) v) {d:D} {v:Value} (hz:∀ off z,d=.row b off n z→z=sz) (h:R g d v):R g' (fz b n xs d) v:=by
 unfold fz
 split
 ·rename_i b' off n' z
  split
  ·rename_i hq
   obtain ⟨rfl,rfl,rfl⟩:=hq
   obtain rfl:=hz _ _ rfl
   exact hf v h
  ·exact h.mono hle
 ·exact h.mono hle
theorem gh_freezeIn {e:List D} {s:St} {b n sz c:Nat} {cs ds:List D} {xs:List (List D)} (hb:s.boxes[b]? = some (.cells cs)) (hc:s.boxes[c]? = some (.cells ds)) (hbc:b≠c) (hx:xs.flatten=cs.take (n * sz)) (hn:xs.length=n) (hs:∀ x ∈ xs,x.length=sz)
  (h1:rowZ b n sz e) (h2:rowZ b n sz ds):Gh e s (e.map (fz b n xs)) { s with boxes:=(s.boxes.set b .dead).set c (.cells (ds.map (fz b n xs))) }:=by
 intro O0 a w g h
 obtain ⟨g',hle,hw,hf⟩:=h.wr.freeze hb
 have hf':∀ v,R g (.row b 0 n sz) v→R g' (.slice .none xs) v:=fun v hv=>hf 0 n sz xs v hv (by simpa using hx) hn hs
 refine ⟨g',hle,h.le hle ⟨by rw [List.length_map];exact h.env.1,fun i p1 p2=>?_⟩ ?_⟩
 ·rw [List.getElem_map]
  have hi:i<e.length:=by simpa using p1
  exact fz_ok hle hf' (fun off z hd=>h1 off z (hd ▸ List.getElem_mem hi)) (h.env.2 i hi p2)
 ·have hcl:c<s.boxes.length:=(List.getElem?_eq_some_iff.1 hc).1
  have hcd:(s.boxes.set b .dead)[c]? = some (.cells ds):=by rw [List.getElem?_set_ne hbc];exact hc
  obtain ⟨blk,arr,T,fr,q1,q2,q3,q4,q5⟩:=h.wr.box c _ hc
  obtain ⟨blk',arr',T',fr',r1,r2,r3,r4,r5⟩:=hw.box c _ hcd
  have e1:blk'=blk:=by have:=hle.B _ _ q1;rw [r1] at this;exact Option.some.inj this
  subst e1
  have hnew:BoxOk w g' c (.cells (ds.map (fz b n xs))):=by
   refine ⟨blk',arr,T,fr,r1,q2,by rw [List.length_map];exact q3,fun j j1 j2=>?_,r5.1,q5.2⟩
   have hj:j<ds.length:=by simpa using j1
   rw [List.getElem_map]
   exact ⟨fz_ok hle hf' (fun off z hd=>h2 off z (hd ▸ List.getElem_mem hj)) (q4 j hj j2).1,(q4 j hj j2).2⟩
  refine { hw with box:=fun i bx hi=>?_,inj:=fun i j k e1 e2 l1 l2=>hw.inj i j k e1 e2 (l1' l1) (l1' l2),dom:=fun i k hi=>by have:=hw.dom i k hi;exact ⟨by simpa using this.1,this.2⟩ }
  ·simp only at hi
   by_cases e:i=c
   ·subst e
    rw [List.getElem?_set_self (by simpa using hcl)] at hi;cases hi
    exact hnew
   ·rw [List.getElem?_set_ne (by omega)] at hi
    exact hw.box i bx hi
 where
 l1' {i:Nat} (h:Live1 { s with boxes:=(s.boxes.set b .dead).set c (.cells (ds.map (fz b n xs))) } i):Live1 { s with boxes:=s.boxes.set b .dead } i:=by
  obtain ⟨bx,h1,h2⟩:=h
  by_cases e:i=c
  ·subst e
   exact ⟨.cells ds,by simp only;rw [List.getElem?_set_ne hbc];exact hc,by simp⟩
  ·simp only at h1
   rw [List.getElem?_set_ne (by omega)] at h1
   exact ⟨bx,h1,h2⟩
@[reducible] def thenKC (X:Draws) (ro:Option Nat) (P:Program) (b:Code) (Q:QC):QC:=⟨thenQ (AWN X ro P b Q.f) Q.f⟩
theorem seq_go {X:Draws} {ro:Option Nat} {P:Program} {a b:Code} {e:List D} {s:St} {Q:QC} (h:@cwNI X ro P a e s (thenKC X ro P b Q)):@seqI true X ro P a b e s Q:=h
theorem awN_seq {X:Draws} {ro:Option Nat} {P:Program} {a b:Code} {e:List D} {s:St} {Q:QC} (h:@AWNI X ro P a e s (thenKC X ro P b Q)):@AWNI X ro P (.seq a b) e s Q:=fun hd=>by
 simp only [qx9,Bool.and_eq_true] at hd
 refine awp_seq ((h hd.1).mono fun x e s hx=>?_)
 cases x <;> first | exact hx hd.2 | exact hx
def noRow:D→Bool
 | .row _ _ _ _=>false
 | _=>true
theorem fz_no {b n:Nat} {xs:List (List D)} {d:D} (h:noRow d=true):fz b n xs d=d:=by
 cases d <;> first | rfl | (simp [noRow] at h)
theorem fz_map {b n:Nat} {xs:List (List D)} {e:List D} (h:e.all noRow=true):e.map (fz b n xs)=e:=by
 rw [List.all_eq_true] at h
 conv=>rhs;rw [← List.map_id e]
 exact List.map_congr_left fun d hd=>fz_no (h d hd)
theorem rowZ_no {b n sz:Nat} {e:List D} (h:e.all noRow=true):rowZ b n sz e:=fun off z hm=>by
 have:=List.all_eq_true.1 h _ hm
 simp [noRow] at this
theorem gh_keep (ks:List Nat) {e:List D} {s:St}:Gh e s (keep ks e) s:=gh_weak (by simp [keep]) fun i h1 h2 g v hv=>by
 simp only [keep,List.getElem_map,List.getElem_zipIdx]
 split
 ·simpa using hv
 ·exact .junk _
theorem vsK :
  (∀ (X:Draws) (ro:Option Nat) (P:Program) (b:Code) (e:List D) (s:St) (Q:QC),@qI .normal e s (thenKC X ro P b Q) = @AWNI X ro P b e s Q) ∧
  (∀ (X:Draws) (ro:Option Nat) (P:Program) (b:Code) (e:List D) (s:St) (Q:QC),@qI .ret e s (thenKC X ro P b Q) = @qI .ret e s Q) ∧
  (∀ (X:Draws) (ro:Option Nat) (P:Program) (b:Code) (e:List D) (s:St) (Q:QC) (id:Nat),@qI (.exit id) e s (thenKC X ro P b Q) = @qI (.exit id) e s Q):=by
 and_intros
 all_goals intros
 all_goals rfl
theorem apZ2_intro {zs:List D} {sz by_:Nat} {ys:List (List D)} {B:List Box} {L:List Nat} {c:Nat} {K:DC} (h0:zs.length=sz∧0<sz∧0<by_∧by_≤1000000) (h1:∀ c ∈ ys,c.length=sz) (h2:0<ys.length) (h3:ys.length≤1000000) (hK:@dI (.row B.length 0 ys.length sz) ⟨B++[.cells ys.flatten],L,c⟩ K):@apZ2 (some zs) sz by_ ys ⟨B,L,c⟩ K :=
 ⟨h0,h1,by rw [if_neg (by rintro rfl;simp at h2)];exact ⟨h3,hK⟩⟩
def rangeI (P:Program) (T:TypeId) (d:D) (s:St) [K:DC]:Prop:=match P.underlying T with
 | some (.map _ _)=>rangeW d s K.f
 | _=>False
def nextI (d:D) (s:St) [K:DC]:Prop:=nextW d s K.f
def entryI (d:D) (s:St) [K:DC]:Prop:=entryW d s K.f
theorem vsIt :
  (∀ (P:Program) (e:List D) (s:St) (K:DC) (T:TypeId) (x:Operand),@wo9 P (.range T x) e s K = @rangeI P T (val e x) s K) ∧
  (∀ (P:Program) (e:List D) (s:St) (K:DC) (x:Operand),@wo9 P (.next x false) e s K = @nextI (val e x) s K) ∧
  (∀ (P:Program) (e:List D) (s:St) (K:DC) (x:Operand),@wo9 P (.entry x) e s K = @entryI (val e x) s K):=by
 and_intros
 all_goals intros
 all_goals rfl
theorem rangeI_intro {P:Program} {T k v:TypeId} {b:Nat} {es:List (D × D)} {s:St} {K:DC} (hT:P.underlying T=some (.map k v)) (hb:s.boxes[b]? = some (.map es))
  (h:∀ (bs:List Nat) (c:Nat),bs.length=es.length→bs.Nodup→(∀ x ∈ bs,x<c)→@dI (.box s.boxes.length 0) { s with boxes:=s.boxes.set b (.mapX es bs c)++[.iter b c []] } K):@rangeI P T (.map b) s K:=by
 unfold rangeI rangeW
 rw [hT]
 simp only [hb]
 exact h
theorem nextI_intro {i mb c:Nat} {seen:List Nat} {es:List (D × D)} {bs:List Nat} {s:St} {K:DC} (hi:s.boxes[i]? = some (.iter mb c seen)) (hm:s.boxes[mb]? = some (.mapX es bs c)) (hlt:∀ x ∈ bs,x<c)
  (h1:∀ (j:Nat) (h:j<es.length) (h2:j<bs.length),bs[j] ∉ seen→@dI (.tup [.bool true,es[j].1,es[j].2]) { s with boxes:=s.boxes.set i (.iter mb c (seen++[bs[j]])) } K)
  (h2:(∀ x ∈ bs,x ∈ seen)→@dI (.tup [.bool false]) s K):@nextI (.box i 0) s K:=by
 unfold nextI nextW
 simp only [hi,hm]
 exact ⟨trivial,hlt,h1,h2⟩
theorem entryI_intro {i mb c:Nat} {seen:List Nat} {es:List (D × D)} {bs:List Nat} {s:St} {K:DC} (hi:s.boxes[i]? = some (.iter mb c seen)) (hm:s.boxes[mb]? = some (.mapX es bs c)) {j:Nat} (h:j<es.length) (h2:j<bs.length) (hl:seen.getLast? = some bs[j])
  (hK:@dI (.tup [es[j].1,es[j].2]) s K):@entryI (.box i 0) s K:=by
 unfold entryI entryW
 simp only [hi,hm]
 exact ⟨trivial,j,h,h2,hl,hK⟩
theorem WRel.swap {w w':World} {g:G} {s:St} (h:WRel w g s) {b blk:Nat} {arr arr':Array Value} {T T':TypeId} {cs cs':List D} (hb:s.boxes[b]? = some (.cells cs)) (hB:g.B b=some blk) (hh:w.heap[blk]? = some (.cells arr T (0,0))) (hh':w'.heap[blk]? = some (.cells arr' T' (0,0)))
  (hsz:arr'.size=arr.size) (hheap:∀ c,c<w.heap.size→c≠blk→w'.heap[c]? = w.heap[c]?) (hle:w.heap.size≤w'.heap.size) (hos:w'.os=w.os) (htape:w'.tape=w.tape) (hout:w'.output=w.output)
  (hlen:cs'.length=cs.length) (hR:∀ (j:Nat) (h1:j<cs'.length) (h2:j<arr'.size),R g cs'[j] arr'[j]∧arr'[j].oneCell'=true):WRel w' g { s with boxes:=s.boxes.set b (.cells cs') }:=by
 obtain ⟨blk',ar,Tx,fr,q1,q2,q3,q4,q5⟩:=h.box b _ hb
 rw [hB] at q1;cases q1
 rw [hh] at q2;cases q2
 have hN:=(h.dom b blk hB).2.1
 have hlt:=(List.getElem?_eq_some_iff.1 hb).1
 have hl1:Live1 s b:=⟨_,hb,by simp⟩
 have hget:∀ {c:Nat} {x:Obj},w.heap[c]? = some x→c≠blk→w'.heap[c]? = some x:=fun {c x} hx hne=>by rw [hheap c (wa9 hx) hne];exact hx
 have hold:∀ c,c<g.N→w'.heap[c]? = w.heap[c]?:=fun c hc=>hheap c (by have:=h.n;omega) (by omega)
 refine { os:=hos.trans h.os,tape:=htape.trans h.tape,out:=hout.trans h.out,fz:=fun a ha=>?_,n:=by have:=h.n;omega,old:=fun c hc=>(hold c hc).trans (h.old c hc),m:=fun c o v hm=>?_,box:=fun i bx hi=>?_,inj:=fun i j c e1 e2 l1 l2=>h.inj i j c e1 e2 (l1.of_set hl1) (l2.of_set hl1),dom:=fun i c hi=>?_,live:=fun k hk=>?_,uniq:=h.uniq,ldom:=h.ldom,o:=fun c hc=>⟨(h.o c hc).1,?_⟩,nd:=h.nd,sz:=fun c n hc=>?_ }
 ·rw [← h.fz a ha]
  simp only [World.frozen?,hold _ ha]
 ·have hc:=h.m c o v hm
  have hne:c≠blk:=fun e=>by subst e;rw [q5.1] at hm;cases hm
  have hlt:=cell_lt hc
  rw [← hc]
  simp only [World.cell?]
  rw [hheap c hlt hne]
 ·by_cases e:i=b
  ·subst e
   simp only at hi
   rw [List.getElem?_set_self hlt] at hi;cases hi
   exact ⟨blk,arr',T',(0,0),hB,hh',by omega,hR,q5.1,rfl⟩
  ·simp only at hi
   rw [List.getElem?_set_ne (by omega)] at hi
   have hx:=h.box i bx hi
   by_cases hdead:bx=.dead
   ·subst hdead;trivial
   have hne:∀ c,g.B i=some c→c≠blk:=fun c hc e'=>e (h.inj i b blk (by rw [hc,e']) hB ⟨_,hi,hdead⟩ hl1)
   cases bx with
   | dead=>trivial
   | cells cs=>obtain ⟨c,ar,T',fr',h1,h2,h3⟩:=hx;exact ⟨c,ar,T',fr',h1,hget h2 (hne c h1),h3⟩
   | map es=>obtain ⟨c,en,k,h1,h2,h3⟩:=hx;exact ⟨c,en,k,h1,hget h2 (hne c h1),h3⟩
   | mapX es bs q=>obtain ⟨c,en,k,h1,h2,h3⟩:=hx;exact ⟨c,en,k,h1,hget h2 (hne c h1),h3⟩
   | iter mb q sn=>obtain ⟨r,m,h1,h2,h3⟩:=hx;exact ⟨r,m,h1,hget h2 (hne r h1),h3⟩
   | loop ps as bo e st pe=>obtain ⟨l,fn,t,df,h1,h2,h3⟩:=hx;exact ⟨l,fn,t,df,h1,hget h2 (hne l h1),h3⟩
 ·have:=h.dom i c hi
  exact ⟨by simpa using this.1,this.2.1,by omega⟩
 ·obtain ⟨a,len,cap,sz,h1,h2⟩:=h.live k hk
  refine ⟨a,len,cap,sz,h1,fun h3 h4=>?_⟩
  obtain ⟨c,of,ar,T',fr',h5,h6,h7,h8,h9,h10⟩:=h2 h3 h4
  exact ⟨c,of,ar,T',fr',h5,h6,hget h7 (fun e=>h10.1 b (by rw [hB,e])),h8,h9,h10⟩
 ·have:=(h.o c hc).2
  exact hget this (fun e=>by subst e;rw [hh] at this;cases this)
 ·obtain ⟨ar,Ty,fr,e1,e2⟩:=h.sz c n hc
  by_cases e:c=blk
  ·subst e
   rw [hh] at e1;cases e1
   exact ⟨arr',T',(0,0),hh',by omega⟩
  ·exact ⟨ar,Ty,fr,hget e1 e,e2⟩
open Go.Sort in
theorem sorted_heap {w:World} {blk n:Nat} {arr:Array Value} {T:TypeId} {ys:List Int} {os:Array Obj} (hh:w.heap[blk]? = some (.cells arr T (0,0))) (hl:ys.length≤arr.size) :
  let w':=grow (putRow (Value.int .i64) (Sort.ahead w n) blk 0 ys.toArray) os
  ∃ arr',w'.heap[blk]? = some (.cells arr' T (0,0))∧arr'.size=arr.size∧(∀ (j:Nat) (h1:j<ys.length) (h2:j<arr'.size),arr'[j]=.int .i64 ys[j])∧(∀ c,c<w.heap.size→c≠blk→w'.heap[c]? = w.heap[c]?)∧w.heap.size≤w'.heap.size∧w'.os=w.os∧w'.tape=w.tape∧w'.output=w.output:=by
 have hlt:=wa9 hh
 have hsize:(w.heap.modify blk (onCells (putCells (Value.int .i64) 0 ys.toArray))).size=w.heap.size:=by simp
 refine ⟨putCells (Value.int .i64) 0 ys.toArray arr,?_,by simp [putCells],fun j h1 h2=>?_,fun c hc hne=>?_,?_,rfl,rfl,rfl⟩
 ·show (w.heap.modify blk (onCells (putCells (Value.int .i64) 0 ys.toArray))++os)[blk]? = _
  rw [Array.getElem?_append_left (by rw [hsize];exact hlt),Array.getElem?_modify,if_pos rfl,hh]
  rfl
 ·simp only [putCells,Array.getElem_mapIdx,Nat.zero_le,Nat.zero_add,List.size_toArray,true_and,Nat.sub_zero,if_pos h1]
  congr 1
  exact getElem!_pos ys.toArray j (by simpa using h1)
 ·show (w.heap.modify blk (onCells (putCells (Value.int .i64) 0 ys.toArray))++os)[c]? = _
  rw [Array.getElem?_append_left (by rw [hsize];exact hc),Array.getElem?_modify,if_neg (fun e=>hne e.symm)]
 ·show w.heap.size≤(w.heap.modify blk (onCells (putCells (Value.int .i64) 0 ys.toArray))++os).size
  simp
theorem call_okR {P:Program} {ro:Option Nat} {o:Oper} {ρ:Operand→D} {s:St} {Z:D→St→Prop} {f:Operand} {args:Array Operand} {ts:Array TypeId} {a:Act} {w:World} {g:G} {K:Act→World→Prop} {Q:Exit→Act→World→Prop}
  (ho:o.op=.call { callee:=.value f,args,argTypes:=ts }) {ds:List D} (hc:CallVQ P (ρ f) ds s Z) (hargs:ArgsR g ds (args.map a.eval)) (hρ:∀ x ∈ o.op.operands,R g (ρ x) (a.eval x)) (hw:WRel w g s)
  (hK:∀ d s' v w' g',Z d s'→g.le g'→WRel w' g' s'→R g' d v→K (a.put o.dst v) w'):o.wpIn (W ro) 0 P a w K Q:=by
 obtain ⟨dst,op,type,pos,after,guard⟩:=o
 simp only at ho hρ hK
 subst ho
 have hf:R g (ρ f) (a.eval f):=hρ f (by simp [Op.operands,Call.operands])
 cases hd:ρ f <;> rw [hd] at hc hf <;> simp only [CallVQ] at hc <;> try exact hc.elim
 case func fn fi ca =>
  cases fn <;> simp only at hc <;> try exact hc.elim
  rename_i k
  cases hfv:a.eval f <;> rw [hfv] at hf <;> cases hf
  rename_i vf vc h1 hrf h2 hrc
  have hall:ArgsR g (fi++(ds++ca)) (vf++args.map a.eval++vc):=by
   refine ⟨by have:=hargs.1;simp at this ⊢;omega,fun i x1 x2=>?_⟩
   by_cases c1:i<fi.length
   ·rw [List.getElem_append_left c1,Array.getElem_append_left (by simp;omega),Array.getElem_append_left (by omega)];exact hrf i c1 _
   ·by_cases c2:i<fi.length+(ds).length
    ·rw [List.getElem_append_right (by omega),List.getElem_append_left (by omega),Array.getElem_append_left (by have:=hargs.1;simp at this ⊢;omega),Array.getElem_append_right (by omega)]
     simp only [h1]
     exact hargs.2 _ _ _
    ·rw [List.getElem_append_right (by omega),List.getElem_append_right (by omega),Array.getElem_append_right (by have:=hargs.1;simp at this ⊢;omega)]
     have e:i - fi.length - (ds).length=i - (vf++args.map a.eval).size:=by have:=hargs.1;simp at this ⊢;omega
     simp only [e]
     exact hrc _ _ _
  obtain ⟨hent,hsem⟩:=hc _ w g hall hw
  have hr:(execOp a.eval { dst,op:=.call { callee:=.value f,args,argTypes:=ts },type,pos,after,guard }).run P w=.ok (.enter k (vf++args.map a.eval++vc)) w:=by
   simp only [execOp,resolve,hfv,Deferred.ofValue,Sem.run_bind,Sem.run_pure,Result.andThen_ok,invoke]
   exact hent _ _
  refine wpIn_ok hr (by simp) ?_
  rw [Oper.uponIn_enter]
  refine ⟨fun h=>(by cases h),?_⟩
  have:=hsem
  refine ⟨this.1,fun cs hcs=>?_⟩
  obtain ⟨e,w',fr,hR,hsteps,hfr,hlv⟩:=this.2 cs (fun d hd=>by cases hd)
  refine ⟨e,w',fr,?_,hsteps,hfr,hlv⟩
  obtain ⟨v,g',r,s',hZ,rfl,hle,hw',hRv⟩:=hR
  exact hK r s' v w' g' hZ hle hw' hRv
 case yield b =>
  cases hfv:a.eval f <;> rw [hfv] at hf <;> cases hf
  rename_i l hl
  obtain ⟨fn,tmps,assign,body,w1,hy,hround⟩:=hc _ w g l hl hargs hw
  have hr:(execOp a.eval { dst,op:=.call { callee:=.value f,args,argTypes:=ts },type,pos,after,guard }).run P w=.ok (.round l fn tmps assign body) w1:=by
   simp only [execOp,resolve,hfv,Deferred.ofValue,Sem.run_bind,Sem.run_pure,Result.andThen_ok,invoke]
   simpa using hy
  refine wpIn_ok hr (by simp) ?_
  rw [Oper.uponIn_round]
  refine ⟨fun h=>(by cases h),hround.1,fun c cs hcs=>?_⟩
  obtain ⟨e,w',hR,hcomes⟩:=hround.2 c cs (fun d hd=>by cases hd)
  refine ⟨e,w',?_,hcomes⟩
  obtain ⟨v,g',r,s',hZ,rfl,hle,hw',hRv⟩:=hR
  exact hK r s' v w' g' hZ hle hw' hRv
def rawCallQ (P:Program) (full:List Oper) (o:Oper) (os2:List Oper) (f:Operand) (args:Array Operand) (K:List D→St→Prop) (e:List D) (s:St):Prop :=
 CallVQ P (val e f) (args.toList.map (val e)) s fun d s'=>runN P full os2 (putD e o.dst d) s' K
@[reducible] def rawCallC (P:Program) (full:List Oper) (o:Oper) (os2:List Oper) (f:Operand) (args:Array Operand) (K:KC):KC:=⟨rawCallQ P full o os2 f args K.f⟩
theorem awp_callRaw {ro:Option Nat} {P:Program} {id:Nat} {os1 os2:List Oper} {o:Oper} {f:Operand} {args:Array Operand} {ts:Array TypeId} {Q:Exit→List D→St→Prop} {e:List D} {s:St} (ho:o.op=.call { callee:=.value f,args,argTypes:=ts }) (hg:o.guard=none)
  (h:runN P (os1++o::os2) os1 e s (rawCallQ P (os1++o::os2) o os2 f args (Q .normal))):AWp ro P (.region id (os1++o::os2).toArray false) Q e s:=by
 intro O0 a w g ha
 refine wpIn_region ?_
 have hr:List.range (os1++o::os2).toArray.size=List.range os1.length++(os1.length::(List.range os2.length).map (os1.length+1 + ·)):=by
  rw [List.size_toArray,List.length_append,List.range_add,List.length_cons,List.range_succ_eq_map]
  simp [Function.comp_def,Nat.add_comm,Nat.add_left_comm]
 rw [hr]
 refine wpOpsIn_app (Q':=fun x a w=>match x with | .normal=>wpOpsIn (W ro) 0 P (os1++o::os2).toArray (conc O0 g Q) (os1.length::(List.range os2.length).map (os1.length+1 + ·)) a w | x=>conc O0 g Q x a w) (fun a w h=>h) (fun x a w hx h=>by cases x <;> first | exact absurd rfl (fun q=>hx q) | exact h) (fun h=>h) _ a w ?_
 refine runN_ok (O0:=O0) (List.range os1.length) os1 (by simp) (fun i h1 h2=>by simp only [List.getElem_range,List.getElem?_toArray];rw [List.getElem?_append_left h2,List.getElem?_eq_getElem h2]) e s a w g ha (by simpa using h) fun a' w' g' e' s' hle ha' hk=>?_
 have hi:(os1++o::os2).toArray[os1.length]? = some o:=by simp
 show wpOpsIn (W ro) 0 P (os1++o::os2).toArray (conc O0 g Q) (os1.length::(List.range os2.length).map (os1.length+1 + ·)) a' w'
 simp only [wpOpsIn,hi,Region.wanted,hg,if_true]
 refine call_okR ho hk ⟨by simp,fun i h1 h2=>by simp only [List.getElem_map,Array.getElem_map,Array.getElem_toList];exact val_ok ha'.env _⟩ (fun x _=>val_ok ha'.env x) ha'.wr fun d s2 v w2 g2 hz hle2 hw2 hv=>?_
 refine runN_ok (O0:=O0) ((List.range os2.length).map (os1.length+1 + ·)) os2 (by simp) (fun i h1 h2=>by simp only [List.getElem_map,List.getElem_range,List.getElem?_toArray];rw [List.getElem?_append_right (by omega)];simp [show os1.length+1+i - os1.length=i+1 by omega,List.getElem?_eq_getElem h2]) _ s2 _ w2 g2 (ha'.step hle2 hw2 o.dst hv) (by simpa using hz) fun a3 w3 g3 e3 s3 hle3 ha3 hk3=>?_
 exact ⟨trivial,e3,s3,g3,(hle.trans hle2).trans hle3,ha3,hk3⟩
theorem awN_callRaw {X:Draws} {ro:Option Nat} {P:Program} {id:Nat} {os1 os2 ops:List Oper} {o:Oper} {f:Operand} {args:Array Operand} {ts:Array TypeId} {e:List D} {s:St} {Q:QC} (k:Nat) (h1:ops.take k=os1) (h2:ops.drop k=o::os2) (ho:o.op=.call { callee:=.value f,args,argTypes:=ts }) (hg:o.guard=none)
  (h:@runNI P ops os1 e s (rawCallC P ops o os2 f args (normC Q))):@AWNI X ro P (.region id ops.toArray false) e s Q:=by
 have hp:os1++o::os2=ops:=by rw [← h1,← h2];exact List.take_append_drop _ _
 intro _
 rw [← hp]
 refine awp_callRaw ho hg ?_
 rw [hp]
 exact h
theorem kI_raw {P:Program} {full os2:List Oper} {o:Oper} {f:Operand} {args:Array Operand} {K:KC} {e:List D} {s:St} {fd:D} {ds:List D} {Z:D→St→Prop} (h1:val e f=fd) (h2:args.toList.map (val e)=ds) (h:CallVQ P fd ds s Z) (hK:∀ d s',Z d s'→@runNI P full os2 (putD e o.dst d) s' K):@kI e s (rawCallC P full o os2 f args K):=by
 subst h1 h2
 exact CallVQ.mono h hK
@[reducible] def joinIC (I:List D→St→Prop) (Q:QC):QC:=⟨thenQ I Q.f⟩
theorem vsJI :
  (∀ (I:List D→St→Prop) (Q:QC) (e:List D) (s:St),@qI .ret e s (joinIC I Q) = @qI .ret e s Q) ∧
  (∀ (I:List D→St→Prop) (Q:QC) (e:List D) (s:St) (id:Nat),@qI (.exit id) e s (joinIC I Q) = @qI (.exit id) e s Q):=by
 and_intros
 all_goals intros
 all_goals rfl
theorem qi9 {I:List D→St→Prop} {Q:QC} {e:List D} {s:St} (h:I e s):@qI .normal e s (joinIC I Q):=h
theorem seq_joinI {X:Draws} {ro:Option Nat} {P:Program} {a b:Code} {e:List D} {s:St} {Q:QC} (I:List D→St→Prop)
  (h:@cwNI X ro P a e s (joinIC I Q)) (hI:∀ e s,I e s→@AWNI X ro P b e s Q):@seqI true X ro P a b e s Q:=by
 refine cwN_mono a h fun x e s hx=>?_
 cases x <;> first
  | exact hx
  | exact hI e s hx
theorem awN_joinI {X:Draws} {ro:Option Nat} {P:Program} {a b:Code} {e:List D} {s:St} {Q:QC} (I:List D→St→Prop)
  (h:@AWNI X ro P a e s (joinIC I Q)) (hI:∀ e s,I e s→@AWNI X ro P b e s Q):@AWNI X ro P (.seq a b) e s Q:=by
 refine awN_seq (AWN.mono h fun x e s hx=>?_)
 cases x <;> first
  | exact hx
  | exact hI e s hx
theorem awI_cutI {ro:Option Nat} {P:Program} {c:Code} {e:List D} {s:St} {Q:QC} (I:List D→St→Prop) (h:@AWI ro P c e s (meetC I)) (hQ:∀ e s,I e s→@qI .normal e s Q):@AWI ro P c e s Q :=
 AWp.mono h fun x e s hx=>by obtain ⟨rfl,hx⟩:=hx;exact hQ e s hx
open Go.ChangeShapes Go.WideShapes
def g0 (w:World):G:=⟨w,fun b o=>w.cell? ⟨b,o,none⟩,fun _=>none,fun _=>none,fun _=>False,fun _=>none⟩
theorem wrel0 (w:World):WRel w (g0 w) ⟨[],[],0⟩ where
 os:=rfl
 tape:=rfl
 out:=rfl
 fz:=fun _ _=>rfl
 n:=Nat.le_refl _
 old:=fun _ _=>rfl
 m:=fun _ _ _ h=>h
 box:=fun i bx h=>by simp at h
 inj:=fun i j b h=>by cases h
 dom:=fun i b h=>by cases h
 live:=fun k h=>by simp at h
 uniq:=fun k k' h=>by simp at h
 ldom:=fun k x h=>by cases h
 o:=fun b h=>h.elim
 nd:=.nil
 sz:=fun b n h=>by cases h
theorem spec_calls {P:Program} {f:FuncId} {args:List D} {vs:Array Value} {w:World} (h:Spec P f args ⟨[],[],0⟩ (.bool true) ⟨[],[],0⟩) (ha:ArgsR (g0 w) args vs) :
  Calls P f vs w fun e w'=>e=.returned (.bool true)∧w'.os=w.os∧w'.output=w.output∧(∀ a,a.block<w.heap.size→w'.frozen? a=w.frozen? a)∧∀ b,b<w.heap.size→w'.heap[b]? = w.heap[b]?:=by
 refine (callsIn_wide.1 (h vs w (g0 w) ha (wrel0 w)).2).mono fun e w' hb=>?_
 obtain ⟨v,g',r,s',⟨rfl,rfl⟩,rfl,hle,hw,hR⟩:=hb
 have e0:g'.w0=w:=hle.w0
 have:=hw.os;have:=hw.out;have:=hw.fz;have:=hw.old
 simp only [G.N,e0] at *
 cases hR
 exact ⟨rfl,by assumption,by assumption,by assumption,by assumption⟩
theorem old_cell {w w':World} (h:∀ b,b<w.heap.size→w'.heap[b]? = w.heap[b]?) {b o:Nat} (hb:b<w.heap.size):w'.cell? ⟨b,o,none⟩=w.cell? ⟨b,o,none⟩:=by
 simp only [World.cell?,h b hb]
theorem old_same {w w':World} (h:∀ b,b<w.heap.size→w'.heap[b]? = w.heap[b]?) {p:MemPlace} (hp:p.block<w.heap.size):w.sameAt w' p:=by
 cases p with
 | cell b o=>exact old_cell h hp
 | map b=>exact h b hp
theorem old_kept {w w':World} (h1:w'.os=w.os) (h2:w'.output=w.output) (h:∀ b,b<w.heap.size→w'.heap[b]? = w.heap[b]?) (may:MemPlace→Prop):w.keptBut w' may:=by
 refine ⟨h1,h2,fun i hi=>?_⟩
 rw [h i hi]
 exact (World.keptBut_refl w may).2.2 i hi
section
variable {H:Type} {enc:TypeId × Value→H} {P:Program} {T:TypeId→Prop}
theorem stays_all {w w':World} (K:Kids P T) (hz:∀ t e,T t→P.underlying t=some (.slice e)→0<P.cellsOf e) (hold:∀ b,b<w.heap.size→w'.heap[b]? = w.heap[b]?) {sp:Nat→Bool} :
  ∀ {ts:List TypeId} {vs:List Value} {ds:List (DataW H)} {ps:List MemPlace},(∀ t ∈ ts,T t)→DataW.TrodAll enc P w 0 (fun _=>true) true ts vs ds ps→(∀ p ∈ ps,p.block<w.heap.size)→(∀ p ∈ ps,sp p.block=true)→DataW.TrodAll enc P w' 0 sp true ts vs ds ps
 | [],[],[],_,_,h,_,_=>h
 | _::_,_::_,_::_,_,hT,⟨p,q,⟨fuel,h1⟩,h2,e⟩,hlt,hs =>
  ⟨p,q,⟨fuel,DataW.trod_stays K (fun ht hu=>hz _ _ ht hu) (fun h=>by cases h) (hT _ (List.mem_cons.2 (Or.inl rfl))) h1 (fun x hx=>old_same hold (hlt x (by rw [e];exact List.mem_append_left _ hx))) (fun x hx=>hs x (by rw [e];exact List.mem_append_left _ hx))⟩,
   stays_all K hz hold (fun t ht=>hT t (List.mem_cons.2 (Or.inr ht))) h2 (fun x hx=>hlt x (by rw [e];exact List.mem_append_right _ hx)) (fun x hx=>hs x (by rw [e];exact List.mem_append_right _ hx)),e⟩
theorem post_same_old {f:Func} {s:ChangeSpec} {apart fresh handsOn again:Bool} {W W':World} {args:Array Value} {v:Value} {ds gs:List (DataW H)} {before pa pv:List MemPlace}
  (hW:DataW.Whole enc P f.params.toList s.vars apart W args.toList ds gs before)
  (hres:∀ (b:Nat) (sp:Nat→Bool) (hd:Bool),DataW.TrodAll enc P W' b sp hd f.resultTypes.toList (v.resultList f.resultTypes.size) (s.fn H (ds++gs)).results [])
  (hargs:∀ sp:Nat→Bool,(∀ p ∈ before,sp p.block=true)→DataW.TrodAll enc P W' 0 sp true f.params.toList args.toList (s.fn H (ds++gs)).args pa)
  (hvars:∀ sp:Nat→Bool,(∀ p ∈ before,sp p.block=true)→DataW.TrodVars enc P W' sp s.vars (s.fn H (ds++gs)).vars pv)
  (hps:before=pa++pv) (hk:W.keptBut W' (· ∈ before)) (hfz:∀ a,a.block<W.heap.size→W'.frozen? a=W.frozen? a)
  (hok:∀ (j:Nat) (t:TypeId) (r:Value),f.resultTypes[j]? = some t→(v.resultList f.resultTypes.size)[j]? = some r→Value.okWide P W' .any 0 t r) :
  s.post enc P f apart fresh handsOn again W args v W':=by
 have hlt:∀ p ∈ before,p.block<W.heap.size:=hW.lt
 refine ⟨ds,gs,before,[],pa,pv,hW,hres _ _ _,hargs _ (fun p hp=>by simpa using hlt p hp),hvars _ (fun p hp=>by simpa using hlt p hp),World.keptBut_mono (fun p hp=>⟨hp,by rw [hps,List.mem_append] at hp;exact .inr hp⟩) hk,fun _=>?_⟩
 obtain ⟨_,_,_,_,_,hz,hn⟩:=hW
 refine ⟨hok,_,_,([]++pa)++pv,⟨[]++pa,pv,trodAll_append (hargs _ (fun _ _=>rfl)) (hres _ _ _),hvars _ (fun _ _=>rfl),rfl,fun b off hp=>?_,fun ha=>?_⟩,fun p hp _=>by rw [hps];simpa using hp⟩
 ·have hp':MemPlace.cell b off ∈ before:=by rw [hps];simpa using hp
  rw [hfz _ (hlt _ hp')]
  exact hz b off hp'
 ·have:=hn ha
  rw [hps] at this
  simpa using this
theorem post_true {f:Func} {s:ChangeSpec} {apart fresh handsOn again:Bool} {w w':World} {args:Array Value} {ds:List (DataW H)} {before:List MemPlace} {tb:TypeId} (K:Kids P T) (hz:∀ t e,T t→P.underlying t=some (.slice e)→0<P.cellsOf e)
  (hT:∀ t ∈ f.params.toList,T t) (hv:s.vars=[]) (hres:f.resultTypes = #[tb]) (hb:P.underlying tb=some .bool)
  (hW:DataW.Whole enc P f.params.toList s.vars apart w args.toList ds [] before) (h1:(s.fn H (ds++[])).results=[.lit (.bool true)]) (h2:(s.fn H (ds++[])).args=ds) (h3:(s.fn H (ds++[])).vars=[])
  (k1:w'.os=w.os) (k2:w'.output=w.output) (k3:∀ a,a.block<w.heap.size→w'.frozen? a=w.frozen? a) (k4:∀ b,b<w.heap.size→w'.heap[b]? = w.heap[b]?):s.post enc P f apart fresh handsOn again w args (.bool true) w':=by
 have hlt:=hW.lt
 have hW':=hW
 obtain ⟨p,q,hA,hV,rfl,hfz,_⟩:=hW
 rw [hv] at hV
 obtain ⟨-,rfl⟩:=trodVars_none hV
 refine post_same_old (pa:=p) (pv:=[]) hW' ?_ ?_ ?_ rfl (old_kept k1 k2 k4 _) k3 ?_
 ·intro b sp hd
  rw [h1,hres]
  exact trodAll_mk1 (RowKit.shut_bool hb true)
 ·intro sp hsp
  rw [h2]
  exact stays_all K hz k4 hT hA (fun x hx=>hlt x (by simpa using hx)) (fun x hx=>hsp x (by simpa using hx))
 ·intro sp hsp
  rw [h3,hv]
  rfl
 ·exact RowKit.ok_one hres rfl (RowKit.okWide_bool_mk hb true)
theorem arg_int {w:World} {base:Nat} {t:TypeId} {k:IntKind} {v:Value} {d:DataW H} {ps:List MemPlace} (ht:P.underlying t=some (.int k)) (hok:Value.okWide P w .any base t v) (hd:DataW.Trod enc P w 0 (fun _=>true) true t v d ps) :
  ∃ n,(Lit.int k n).wf=true∧R (g0 w) (.int k n) v:=by
 obtain ⟨n,rfl,_,_,hw⟩:=open_int ht hok hd
 exact ⟨n,hw,.int _ _⟩
end
open Go.ChangeShapes Go.WideShapes
def layF (P:Program):List Field→Nat→Option Nat
 | [],o=>some o
 | f::fs,o=>if f.offset=o then layF P fs (o+P.cellsOf f.type) else none
def okIn (P:Program):Nat→TypeId→Bool
 | 0,_=>false
 | n+1,t=>match P.underlying t with
  | some (.int _)=>P.cellsOf t == 1
  | some .bool=>P.cellsOf t == 1
  | some (.slice e)=>P.cellsOf t == 1 && okIn P n e && decide (0<P.cellsOf e) && decide (0<P.bytesOf e)
  | some (.struct fs)=>(layF P fs.toList 0 == some (P.cellsOf t)) && fs.toList.all fun f=>okIn P n f.type
  | _=>false
inductive In (P:Program):TypeId→List D→Prop
 | int {t:TypeId} {k:IntKind} (n:Int) (h:P.underlying t=some (.int k)) (hw:(Lit.int k n).wf=true):In P t [.int k n]
 | bool {t:TypeId} (b:Bool) (h:P.underlying t=some .bool):In P t [.bool b]
 | slice {t e:TypeId} (xs:List (List D)) (h:P.underlying t=some (.slice e)) (hx:∀ x ∈ xs,In P e x) (hl:∀ x ∈ xs,x.length=P.cellsOf e) (hb:xs.length * P.bytesOf e≤reachBytes):In P t [.slice .none xs]
 | struct {t:TypeId} {fs:Array Field} (ds:List D) (h:P.underlying t=some (.struct fs)) (hl:ds.length=P.cellsOf t) (hf:∀ f ∈ fs.toList,In P f.type ((ds.drop f.offset).take (P.cellsOf f.type))):In P t ds
theorem In.int_inv {P:Program} {t:TypeId} {k:IntKind} {ds:List D} (h:In P t ds) (ht:P.underlying t=some (.int k)):∃ n,ds=[.int k n]∧(Lit.int k n).wf=true:=by
 cases h with
 | int n h hw=>rw [ht] at h;cases h;exact ⟨n,rfl,hw⟩
 | bool b h=>rw [ht] at h;cases h
 | slice xs h hx hl hb=>rw [ht] at h;cases h
 | struct ds h hl hf=>rw [ht] at h;cases h
theorem In.slice_inv {P:Program} {t e:TypeId} {ds:List D} (h:In P t ds) (ht:P.underlying t=some (.slice e)):∃ xs,ds=[.slice .none xs]∧(∀ x ∈ xs,In P e x)∧(∀ x ∈ xs,x.length=P.cellsOf e)∧xs.length * P.bytesOf e≤reachBytes:=by
 cases h with
 | int n h hw=>rw [ht] at h;cases h
 | bool b h=>rw [ht] at h;cases h
 | slice xs h hx hl hb=>rw [ht] at h;cases h;exact ⟨xs,rfl,hx,hl,hb⟩
 | struct ds h hl hf=>rw [ht] at h;cases h
theorem In.struct_inv {P:Program} {t:TypeId} {fs:Array Field} {ds:List D} (h:In P t ds) (ht:P.underlying t=some (.struct fs)):ds.length=P.cellsOf t∧∀ f ∈ fs.toList,In P f.type ((ds.drop f.offset).take (P.cellsOf f.type)):=by
 cases h with
 | int n h hw=>rw [ht] at h;cases h
 | bool b h=>rw [ht] at h;cases h
 | slice xs h hx hl hb=>rw [ht] at h;cases h
 | struct ds h hl hf=>rw [ht] at h;cases h;exact ⟨hl,hf⟩
def RR (w:World) (ds:List D) (cs:List Value):Prop:=ds.length=cs.length∧∀ (i:Nat) (h1:i<ds.length) (h2:i<cs.length),R (g0 w) ds[i] cs[i]∧cs[i].oneCell'=true
theorem RR.one {w:World} {d:D} {v:Value} (h:R (g0 w) d v) (hv:v.oneCell'=true):RR w [d] [v]:=⟨rfl,fun i h1 h2=>by
 have:i=0:=by simp at h1;omega
 subst this
 exact ⟨h,hv⟩⟩
theorem RR.app {w:World} {ds es:List D} {cs bs:List Value} (h:RR w ds cs) (k:RR w es bs):RR w (ds++es) (cs++bs):=by
 refine ⟨by rw [List.length_append,List.length_append,h.1,k.1],fun i h1 h2=>?_⟩
 by_cases hi:i<ds.length
 ·rw [List.getElem_append_left hi,List.getElem_append_left (by rw [← h.1];exact hi)]
  exact h.2 i hi _
 ·have:=h.1
  rw [List.getElem_append_right (by omega),List.getElem_append_right (by omega)]
  simp only [this]
  exact k.2 _ (by simp at h1;omega) _
theorem layF_le {P:Program}:∀ {fs:List Field} {o n:Nat},layF P fs o=some n→o≤n
 | [],o,n,h=>by cases h;exact Nat.le_refl _
 | f::fs,o,n,h=>by
  rw [layF] at h
  split at h
  ·have:=layF_le h;omega
  ·cases h
theorem layF_ge {P:Program}:∀ {fs:List Field} {o n:Nat},layF P fs o=some n→∀ f ∈ fs,o≤f.offset∧f.offset+P.cellsOf f.type≤n
 | [],o,n,h,f,hf=>by simp at hf
 | g::fs,o,n,h,f,hf=>by
  rw [layF] at h
  split at h
  ·rename_i e
   rcases List.mem_cons.1 hf with rfl | hf
   ·have:=layF_le h;omega
   ·have:=layF_ge h f hf;omega
  ·cases h
theorem lay_in {P:Program} {w:World}:∀ (fs:List Field) (o n:Nat) (cs:List Value),layF P fs o=some n→cs.length=n→(∀ f ∈ fs,∃ ds,In P f.type ds∧RR w ds ((cs.drop f.offset).take (P.cellsOf f.type))) →
  ∃ ds,RR w ds (cs.drop o)∧∀ f ∈ fs,In P f.type ((ds.drop (f.offset - o)).take (P.cellsOf f.type))
 | [],o,n,cs,h,hl,_=>by
  cases h
  exact ⟨[],⟨by rw [List.drop_of_length_le (by omega)];rfl,fun i h1=>by simp at h1⟩,fun f hf=>by simp at hf⟩
 | f::fs,o,n,cs,h,hl,hp=>by
  rw [layF] at h
  split at h
  ·rename_i e
   obtain ⟨d1,i1,r1⟩:=hp f (by simp)
   obtain ⟨d2,r2,i2⟩:=lay_in fs _ n cs h hl fun g hg=>hp g (by simp [hg])
   have hle:=layF_le h
   have hl1:d1.length=P.cellsOf f.type:=by rw [r1.1,List.length_take,List.length_drop];omega
   refine ⟨d1++d2,?_,fun g hg=>?_⟩
   ·have:=r1.app r2
    rw [e,← List.drop_drop,List.take_append_drop] at this
    exact this
   ·rcases List.mem_cons.1 hg with rfl | hg
    ·rw [e,Nat.sub_self,List.drop_zero,List.take_append_of_le_length (by omega),List.take_of_length_le (by omega)];exact i1
    ·have hge:=(layF_ge h g hg).1
     have:=i2 g hg
     rw [List.drop_append,List.drop_of_length_le (by omega),List.nil_append,hl1,show g.offset - o - P.cellsOf f.type=g.offset - (o+P.cellsOf f.type) by omega]
     exact this
  ·cases h
section
variable {H:Type} {enc:TypeId × Value→H} {P:Program}
theorem cells_in {w:World}:∀ (n:Nat) (t:TypeId) (fuel:Nat) (cs:List Value) (x:DataW H × List MemPlace),okIn P n t=true→(x.1.weights P t).all (· ≤ reachBytes)=true→DataW.trod enc P w 0 (fun _=>true) true fuel t cs=some x →
  ∃ ds,In P t ds∧RR w ds cs:=by
 intro n
 induction n with
 | zero=>intro t fuel cs x h;simp [okIn] at h
 | succ n ih =>
  intro t fuel cs x hok hwt hd
  rw [okIn] at hok
  split at hok
  ·rename_i k ht
   obtain ⟨m,rfl,_,hw⟩:=DataW.trod_int ht hd
   exact ⟨_,.int m ht hw,.one (.int _ _) rfl⟩
  ·rename_i ht
   obtain ⟨b,rfl,_⟩:=DataW.trod_bool ht hd
   exact ⟨_,.bool b ht,.one (.bool _) rfl⟩
  ·rename_i e ht
   simp only [Bool.and_eq_true,decide_eq_true_eq,beq_iff_eq] at hok
   obtain ⟨⟨⟨_,hoe⟩,hce⟩,hbe⟩:=hok
   rcases DataW.trod_slice ht hd with ⟨rfl,-⟩ | ⟨a,len,cap,elems,rest,m,_,rfl,rfl,_,hl,hm,hlen,hel,_,_⟩
   ·refine ⟨_,.slice [] ht (fun x h=>by simp at h) (fun x h=>by simp at h) (by simp),.one ?_ rfl⟩
    exact .slice .none [] none 0 0 0 0 (fun _ _=>.nilFunc) (Nat.zero_le _) (Nat.zero_le _) trivial (fun i hi=>by simp at hi) (fun h=>by simp at h) (fun i j hi=>by simp at hi) (fun i j hi=>by simp at hi) (fun i j hi=>by simp at hi)
   ·simp only [DataW.weights,ht,List.all_cons,List.all_append,Bool.and_eq_true,decide_eq_true_eq] at hwt
    obtain ⟨hw1,hw2,_⟩:=hwt
    have key:∀ i,i<len→∃ vs ds,w.cells? 0 (a.add (i * P.cellsOf e)) (P.cellsOf e)=some vs∧In P e ds∧RR w ds vs:=by
     intro i hi
     have h1:=hel i hi
     have hy:elems[i]? = some (elems[i]'(by omega)):=List.getElem?_eq_getElem _
     rw [hy,Option.bind_eq_some_iff] at h1
     obtain ⟨vs,hvs,ht2⟩:=h1
     obtain ⟨ds,q1,q2⟩:=ih e m vs _ hoe (by
      refine List.all_eq_true.2 fun z hz=>List.all_eq_true.1 hw2 z ?_
      have:∀ (l:List (DataW H)) (y:DataW H),y ∈ l→∀ z ∈ y.weights P e,z ∈ DataW.weightsAll P e l:=by
       intro l
       induction l with
       | nil=>intro y hy;simp at hy
       | cons y0 l ihl =>
        intro y hy z hz
        simp only [DataW.weightsAll,List.mem_append]
        rcases List.mem_cons.1 hy with rfl | hy
        ·exact .inl hz
        ·exact .inr (ihl y hy z hz)
      exact this _ _ (List.mem_map.2 ⟨elems[i]'(by omega),List.getElem_mem _,rfl⟩) z hz) ht2
     exact ⟨vs,ds,hvs,q1,q2⟩
    let vf:Nat→List Value:=fun i=>if h:i<len then (key i h).choose else []
    let df:Nat→List D:=fun i=>if h:i<len then (key i h).choose_spec.choose else []
    have hk:∀ i,i<len→w.cells? 0 (a.add (i * P.cellsOf e)) (P.cellsOf e)=some (vf i)∧In P e (df i)∧RR w (df i) (vf i):=by
     intro i hi
     have:=(key i hi).choose_spec.choose_spec
     simp only [vf,df,hi,dif_pos]
     exact this
    have hvl:∀ i,i<len→(vf i).length=P.cellsOf e:=fun i hi=>(World.cells?_some (hk i hi).1).2.1
    have hdl:∀ i,i<len→(df i).length=P.cellsOf e:=fun i hi=>by rw [(hk i hi).2.2.1,hvl i hi]
    have hxl:((List.range len).map df).length=len:=by simp
    have hsp:0<len→a=⟨a.block,a.off,none⟩:=fun h0=>by
     have h1:=(World.cells?_some (hk 0 h0).1).2.2 0 hce
     have h2:(vf 0)[0]? = some ((vf 0)[0]'(by rw [hvl 0 h0];exact hce)):=List.getElem?_eq_getElem _
     rw [h2] at h1
     have:=World.cell?_spot h1
     obtain ⟨b1,o1,s1⟩:=a
     simp [Addr.add] at this
     subst this;rfl
    have hat:∀ i j,i<len→j<P.cellsOf e→w.cell? ⟨a.block,a.off+i * P.cellsOf e+j,none⟩=some ((vf i).getD j .nilFunc):=fun i j hi hj=>by
     have h1:=(World.cells?_some (hk i hi).1).2.2 j hj
     have h2:(vf i)[j]? = some ((vf i)[j]'(by rw [hvl i hi];exact hj)):=List.getElem?_eq_getElem _
     rw [h2,hsp (by omega),add_plain,add_plain] at h1
     rw [List.getD_eq_getElem?_getD,h2]
     exact h1
    have hmax:len≤maxN:=by
     have h1:len * 1≤(elems.length+rest.length) * P.bytesOf e:=Nat.mul_le_mul (by omega) hbe
     have h2:=reachBytes_lt
     simp only [List.length_map] at hw1
     simp only [maxN];omega
    refine ⟨[.slice .none ((List.range len).map df)],.slice _ ht (fun x hx=>?_) (fun x hx=>?_) ?_,.one ?_ rfl⟩
    ·obtain ⟨i,hi,rfl⟩:=List.mem_map.1 hx;exact (hk i (List.mem_range.1 hi)).2.1
    ·obtain ⟨i,hi,rfl⟩:=List.mem_map.1 hx;exact hdl i (List.mem_range.1 hi)
    ·rw [hxl]
     simp only [List.length_map] at hw1
     exact Nat.le_trans (Nat.mul_le_mul_right _ (by omega)) hw1
    ·have:=R.slice (g:=g0 w) .none ((List.range len).map df) (some a) cap (P.cellsOf e) a.block a.off (fun i j=>(vf i).getD j .nilFunc) (by rw [hxl];exact hl) (by rw [hxl];exact hmax) trivial (fun i hi=>?_) (fun h0=>?_) (fun i j hi hj=>?_) (fun i j hi hj=>?_) (fun i j hi hj=>?_)
     ·rw [hxl] at this;exact this
     ·rw [hxl] at hi;simp only [List.getElem_map,List.getElem_range];exact hdl i hi
     ·rw [hxl] at h0;rw [← hsp h0]
     ·rw [hxl] at hi;exact hat i j hi hj
     ·rw [hxl] at hi
      have hj':j<(vf i).length:=by rw [hvl i hi];exact hj
      have:=((hk i hi).2.2.2 j (by rw [hdl i hi];exact hj) hj').2
      simp only [List.getD_eq_getElem?_getD,List.getElem?_eq_getElem hj',Option.getD_some]
      exact this
     ·rw [hxl] at hi
      simp only [List.getElem_map,List.getElem_range] at hj ⊢
      have hj':j<(vf i).length:=by rw [← (hk i hi).2.2.1];exact hj
      have:=((hk i hi).2.2.2 j hj hj').1
      simp only [List.getD_eq_getElem?_getD,List.getElem?_eq_getElem hj',Option.getD_some]
      exact this
  ·rename_i fs ht
   simp only [Bool.and_eq_true,beq_iff_eq] at hok
   obtain ⟨hlay,hall⟩:=hok
   obtain ⟨xs,m,_,rfl,hl,hlen,hf⟩:=DataW.trod_struct ht hd
   have hwt':(DataW.weightsEach P (fs.toList.map (·.type)) (xs.map (·.1))).all (· ≤ reachBytes)=true:=by simpa only [DataW.weights,ht] using hwt
   obtain ⟨ds,r1,r2⟩:=lay_in (P:=P) (w:=w) fs.toList 0 (P.cellsOf t) cs hlay hl fun f hfm=>by
    obtain ⟨i,hi,rfl⟩:=List.getElem_of_mem hfm
    have hi':i<fs.size:=by simpa using hi
    have h1:=hf i fs[i] (by simp [hi'])
    have h2:xs[i]? = some (xs[i]'(by omega)):=List.getElem?_eq_getElem _
    rw [h2] at h1
    have h3:fs.toList[i]=fs[i]:=by simp
    rw [h3]
    refine ih fs[i].type m _ _ (by have:=List.all_eq_true.1 hall _ (List.getElem_mem hi);rwa [h3] at this) ?_ h1
    refine List.all_eq_true.2 fun z hz=>List.all_eq_true.1 hwt' z ?_
    exact DataW.weights_mem_each (j:=i) (t:=fs[i].type) (d:=(xs[i]'(by omega)).1) (by simp [hi']) (by simp [show i<xs.length by omega]) z hz
   rw [List.drop_zero] at r1
   refine ⟨ds,.struct ds ht (by rw [r1.1,hl]) fun f hfm=>?_,r1⟩
   have:=r2 f hfm
   rwa [Nat.sub_zero] at this
  ·cases hok
theorem arg_in {w:World} {base:Nat} {t:TypeId} {fs:Array Field} {v:Value} {d:DataW H} {ps:List MemPlace} (n:Nat) (ht:P.underlying t=some (.struct fs)) (ho:okIn P n t=true) (hwt:(d.weights P t).all (· ≤ reachBytes)=true) (hok:Value.okWide P w .any base t v) (hd:DataW.Trod enc P w 0 (fun _=>true) true t v d ps) :
  ∃ ds,In P t ds∧R (g0 w) (.agg ds) v:=by
 obtain ⟨cs,rfl,hsz⟩:=okWide_struct ht hok
 obtain ⟨fuel,hd⟩:=hd
 have hcell:(Value.cells (.agg cs)).toList=cs.toList:=rfl
 rw [hcell] at hd
 obtain ⟨ds,h1,h2⟩:=cells_in n t fuel _ _ ho hwt hd
 refine ⟨ds,h1,.agg _ _ (by simpa using h2.1) (fun i hi=>?_) (fun i h3 h4=>?_)⟩
 ·have:=(h2.2 i (by rw [h2.1];simpa using hi) (by simpa using hi)).2
  simpa using this
 ·have:=(h2.2 i h3 (by simpa using h4)).1
  simpa using this
end
end Go.V
