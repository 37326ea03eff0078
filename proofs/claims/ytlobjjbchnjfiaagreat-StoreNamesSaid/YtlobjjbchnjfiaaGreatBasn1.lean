/-
  The value-level logic and its contracts, part 1 (texts V1, V2, V3, V4, V5, V6, V7, V8, V8b, V9, V10).
-/
import Derived.RangeFuncIn
import Derived.RangeFuncLeaves
import Derived.OrdersIn
import Derived.LoopNIn
import Derived.KernelRfl
import Derived.Laws.World
import Derived.Laws.Cells
import Derived.Below
import Derived.Laws.Entries
import Derived.Lib.AppendZerosOnto
import Derived.Laws.AppendOwn
import Derived.Laws.StructEq
import Derived.IntWalk
import Derived.Laws.MakeOwn
open Nat renaming reduceAdd → zA, reduceSub → zS, reduceMul → zM, reduceLeDiff → zL, reduceEqDiff → zE, reduceBEq → zB
set_option linter.all false
set_option linter.unusedSimpArgs false
set_option linter.unusedVariables false
set_option linter.unnecessarySimpa false
namespace Go.V
inductive Own where
 | none
 | full
 | nil
 | lab (k sz:Nat)
 deriving DecidableEq
inductive D where
 | junk
 | int (k:IntKind) (n:Int)
 | bool (b:Bool)
 | str (s:ByteArray)
 | slice (o:Own) (xs:List (List D))
 | agg (cs:List D)
 | tup (vs:List D)
 | nilp
 | box (b off:Nat)
 | pin (cs:List D)
 | func (fn:Fn) (first cap:List D)
 | nilf
 | map (b:Nat)
 | nilm
 | yield (b:Nat)
 | msl (b off len cap sz:Nat)
 | row0
 | row (b off n sz:Nat)
instance:Inhabited D:=⟨.junk⟩
structure G where
 w0:World
 M:Nat→Nat→Option Value
 B:Nat→Option Nat
 L:Nat→Option (Option Addr × Nat × Nat × Nat)
 O:Nat→Prop
 S:Nat→Option Nat
def G.N (g:G):Nat:=g.w0.heap.size
def OwnOk (g:G):Own→Option Addr→Nat→Nat→Nat→Prop
 | .none,_,_,_,_=>True
 | .full,_,len,cap,_=>cap=len
 | .nil,a,len,cap,_=>a=.none∧len=0∧cap=0
 | .lab k z,a,len,cap,sz=>g.L k=some (a,len,cap,z)∧sz=z
def maxN:Nat:=281474976710656
inductive R (g:G):D→Value→Prop
 | junk (v:Value):R g .junk v
 | int (k:IntKind) (n:Int):R g (.int k n) (.int k n)
 | bool (b:Bool):R g (.bool b) (.bool b)
 | str (s:ByteArray):R g (.str s) (.string s)
 | slice (o:Own) (xs:List (List D)) (a:Option Addr) (cap sz blk off:Nat) (val:Nat→Nat→Value)
   (hc:xs.length≤cap) (hm:xs.length≤maxN) (ho:OwnOk g o a xs.length cap sz)
   (hs:∀ (i:Nat) (hi:i<xs.length),xs[i].length=sz)
   (ha:0<xs.length→a=some ⟨blk,off,none⟩)
   (hM:∀ i j:Nat,i<xs.length→j<sz→g.M blk (off+i * sz+j)=some (val i j))
   (hv:∀ i j:Nat,i<xs.length→j<sz→(val i j).oneCell'=true)
   (hR:∀ (i j:Nat) (hi:i<xs.length) (hj:j<xs[i].length),R g (xs[i][j]) (val i j)) :
   R g (.slice o xs) (.slice a xs.length cap)
 | agg (cs:List D) (vs:Array Value) (h:cs.length=vs.size) (hv:∀ (i:Nat) (h2:i<vs.size),vs[i].oneCell'=true)
   (hR:∀ (i:Nat) (h1:i<cs.length) (h2:i<vs.size),R g cs[i] vs[i]):R g (.agg cs) (.agg vs)
 | tup (cs:List D) (vs:Array Value) (h:cs.length=vs.size)
   (hR:∀ (i:Nat) (h1:i<cs.length) (h2:i<vs.size),R g cs[i] vs[i]):R g (.tup cs) (.tuple vs)
 | nilp:R g .nilp (.pointer .none)
 | box (b off blk:Nat) (h:g.B b=some blk):R g (.box b off) (.pointer (some ⟨blk,off,.none⟩))
 | pin (cs:List D) (blk off:Nat) (val:Nat→Value)
   (hM:∀ j:Nat,j<cs.length→g.M blk (off+j)=some (val j)) (hv:∀ j:Nat,j<cs.length→(val j).oneCell'=true)
   (hR:∀ (j:Nat) (hj:j<cs.length),R g cs[j] (val j)):R g (.pin cs) (.pointer (some ⟨blk,off,.none⟩))
 | func (fn:Fn) (fi ca:List D) (vf vc:Array Value) (h1:fi.length=vf.size) (h2:ca.length=vc.size)
   (hf:∀ (i:Nat) (h1:i<fi.length) (h2:i<vf.size),R g fi[i] vf[i])
   (hc:∀ (i:Nat) (h1:i<ca.length) (h2:i<vc.size),R g ca[i] vc[i]):R g (.func fn fi ca) (.func fn vf vc)
 | nilf:R g .nilf .nilFunc
 | map (b r:Nat) (h:g.B b=some r):R g (.map b) (.map (some r))
 | nilm:R g .nilm (.map .none)
 | yield (b l:Nat) (h:g.B b=some l):R g (.yield b) (.func (.yield l) #[] #[])
 | msl (b off len cap sz blk m:Nat) (h:g.B b=some blk) (hS:g.S blk=some m) (hc:len≤cap) (hz:0<sz) (hm:off+cap * sz≤m):R g (.msl b off len cap sz) (.slice (some ⟨blk,off,.none⟩) len cap)
 | row0 (a:Option Addr):R g .row0 (.slice a 0 0)
 | row (b off n sz blk m cap:Nat) (h:g.B b=some blk) (hS:g.S blk=some m) (hc:n≤cap) (hn:n≤maxN) (hz:0<sz) (hm:off+cap * sz≤m):R g (.row b off n sz) (.slice (some ⟨blk,off,.none⟩) n cap)
structure G.le (g g':G):Prop where
 w0:g'.w0=g.w0
 M:∀ b o v,g.M b o=some v→g'.M b o=some v
 B:∀ i b,g.B i=some b→g'.B i=some b
 L:∀ k x,g.L k=some x→g'.L k=some x
 O:∀ b,g.O b→g'.O b
 S:∀ b n,g.S b=some n→g'.S b=some n
theorem G.le.refl (g:G):g.le g:=⟨rfl,fun _ _ _ h=>h,fun _ _ h=>h,fun _ _ h=>h,fun _ h=>h,fun _ _ h=>h⟩
theorem G.le.trans {a b c:G} (h:a.le b) (k:b.le c):a.le c :=
 ⟨k.w0.trans h.w0,fun _ _ _ x=>k.M _ _ _ (h.M _ _ _ x),fun _ _ x=>k.B _ _ (h.B _ _ x),fun _ _ x=>k.L _ _ (h.L _ _ x),fun _ x=>k.O _ (h.O _ x),fun _ _ x=>k.S _ _ (h.S _ _ x)⟩
theorem OwnOk.mono {g g':G} {o:Own} {a:Option Addr} {l c z:Nat} (h:OwnOk g o a l c z) (hg:g.le g'):OwnOk g' o a l c z:=by
 cases o <;> simp only [OwnOk] at h ⊢ <;> first | exact h | exact ⟨hg.L _ _ h.1,h.2⟩
theorem R.mono3 {g g':G} {d:D} {v:Value} (h:R g d v) (gM:∀ b o v,g.M b o=some v→g'.M b o=some v) (gB:∀ i b,g.B i=some b→g'.B i=some b) (gL:∀ k x,g.L k=some x→g'.L k=some x) (gS:∀ b n,g.S b=some n→g'.S b=some n):R g' d v:=by
 induction h with
 | junk v=>exact .junk v
 | int k n=>exact .int k n
 | bool b=>exact .bool b
 | str s=>exact .str s
 | slice o xs a cap sz blk off val hc hm ho hs ha hM hv hR ih =>
  exact .slice o xs a cap sz blk off val hc hm (by cases o <;> simp only [OwnOk] at ho ⊢ <;> first | exact ho | exact ⟨gL _ _ ho.1,ho.2⟩) hs ha (fun i j hi hj=>gM _ _ _ (hM i j hi hj)) hv ih
 | agg cs vs h hv hR ih=>exact .agg cs vs h hv ih
 | tup cs vs h hR ih=>exact .tup cs vs h ih
 | nilp=>exact .nilp
 | box b off blk h=>exact .box b off blk (gB _ _ h)
 | pin cs blk off val hM hv hR ih=>exact .pin cs blk off val (fun j hj=>gM _ _ _ (hM j hj)) hv ih
 | func fn fi ca vf vc h1 h2 hf hc ihf ihc=>exact .func fn fi ca vf vc h1 h2 ihf ihc
 | nilf=>exact .nilf
 | map b r h=>exact .map b r (gB _ _ h)
 | nilm=>exact .nilm
 | yield b l h=>exact .yield b l (gB _ _ h)
 | msl b off len cap sz blk m h hS hc hz hm=>exact .msl b off len cap sz blk m (gB _ _ h) (gS _ _ hS) hc hz hm
 | row0 a=>exact .row0 a
 | row b off n sz blk m cap h hS hc hn hz hm=>exact .row b off n sz blk m cap (gB _ _ h) (gS _ _ hS) hc hn hz hm
theorem R.mono {g g':G} {d:D} {v:Value} (h:R g d v) (hg:g.le g'):R g' d v:=h.mono3 hg.M hg.B hg.L hg.S
inductive Box where
 | dead
 | cells (cs:List D)
 | map (es:List (D × D))
 | mapX (es:List (D × D)) (bs:List Nat) (c:Nat)
 | iter (mb c:Nat) (seen:List Nat)
 | loop (ps:List Tmp) (assign body:Code) (e:List D) (st:LoopState) (pend:Option Code)
structure St where
 boxes:List Box
 live:List Nat
 ctr:Nat
def BoxOk (w:World) (g:G) (i:Nat):Box→Prop
 | .dead=>True
 | .cells cs=>∃ b arr T fr,g.B i=some b∧w.heap[b]? = some (.cells arr T fr)∧cs.length≤arr.size ∧
   (∀ (j:Nat) (h1:j<cs.length) (h2:j<arr.size),R g cs[j] arr[j]∧arr[j].oneCell'=true)∧(∀ o,g.M b o=none)∧fr=(0,0)
 | .map es=>∃ b ents clock,g.B i=some b∧w.heap[b]? = some (.map ents clock)∧es.length=ents.size ∧
   ∀ (j:Nat) (h1:j<es.length) (h2:j<ents.size),R g es[j].1 ents[j].key∧R g es[j].2 ents[j].val∧ents[j].born<clock∧∀ (k:Nat) (h3:k<ents.size),ents[k].born=ents[j].born→k=j
 | .mapX es bs c=>∃ b ents clock,g.B i=some b∧w.heap[b]? = some (.map ents clock)∧(es.length=ents.size∧bs=ents.toList.map (·.born)∧clock=c) ∧
   ∀ (j:Nat) (h1:j<es.length) (h2:j<ents.size),R g es[j].1 ents[j].key∧R g es[j].2 ents[j].val∧ents[j].born<clock∧∀ (k:Nat) (h3:k<ents.size),ents[k].born=ents[j].born→k=j
 | .iter mb c seen=>∃ r m,g.B i=some r∧w.heap[r]? = some (.mapIter (some m) c seen.toArray c)∧g.B mb=some m
 | .loop ps assign body e st pend=>∃ l fn tmps df,g.B i=some l∧w.heap[l]? = some (.loop { state:=st,pending:=pend,fn,tmps,params:=ps.toArray,assign,body,defers:=df }) ∧
   e.length=tmps.size∧∀ (j:Nat) (h1:j<e.length) (h2:j<tmps.size),R g e[j] tmps[j]
def LiveOk (w:World) (g:G) (k:Nat):Prop :=
 ∃ a len cap sz,g.L k=some (a,len,cap,sz) ∧
  (len<cap→0<sz→∃ b off arr T fr,a=some ⟨b,off,none⟩∧g.N≤b∧w.heap[b]? = some (.cells arr T fr)∧off+cap * sz≤arr.size ∧
   (∀ o,off+len * sz≤o→g.M b o=none)∧(∀ i,g.B i≠some b)∧fr=(0,0))
def Live1 (s:St) (i:Nat):Prop:=∃ bx,s.boxes[i]? = some bx∧bx≠.dead
structure WRel (w:World) (g:G) (s:St):Prop where
 os:w.os=g.w0.os
 tape:w.tape=g.w0.tape
 out:w.output=g.w0.output
 fz:∀ a,a.block<g.N→w.frozen? a=g.w0.frozen? a
 n:g.N≤w.heap.size
 old:∀ b,b<g.N→w.heap[b]? = g.w0.heap[b]?
 m:∀ b o v,g.M b o=some v→w.cell? ⟨b,o,none⟩=some v
 box:∀ i bx,s.boxes[i]? = some bx→BoxOk w g i bx
 inj:∀ i j b,g.B i=some b→g.B j=some b→Live1 s i→Live1 s j→i=j
 dom:∀ i b,g.B i=some b→i<s.boxes.length∧g.N≤b∧b<w.heap.size
 live:∀ k,k ∈ s.live→LiveOk w g k
 uniq:∀ k k',k ∈ s.live→k' ∈ s.live→∀ b o len cap sz b' o' len' cap' sz',g.L k=some (some ⟨b,o,none⟩,len,cap,sz)→g.L k'=some (some ⟨b',o',none⟩,len',cap',sz') →
  len<cap→len'<cap'→0<sz→0<sz'→b=b'→k=k'
 ldom:∀ k x,g.L k=some x→k<s.ctr
 o:∀ b,g.O b→g.N≤b∧w.heap[b]? = some (.deferred (some []))
 nd:s.live.Nodup
 sz:∀ b n,g.S b=some n→∃ arr T fr,w.heap[b]? = some (.cells arr T fr)∧arr.size=n
def D.plain1:D→D
 | .slice _ xs=>.slice .none xs
 | d=>d
def D.plain:D→D
 | .slice _ xs=>.slice .none xs
 | .agg cs=>.agg (cs.map D.plain1)
 | d=>d
theorem R.plain1 {g:G} {d:D} {v:Value} (h:R g d v):R g d.plain1 v:=by
 cases h with
 | slice o xs a cap sz blk off val hc hm ho hs ha hM hv hR=>exact .slice .none xs a cap sz blk off val hc hm trivial hs ha hM hv hR
 | _=>simp only [D.plain1];constructor <;> assumption
def D.keep1:D→D
 | .slice .nil xs=>.slice .nil xs
 | .slice _ xs=>.slice .none xs
 | d=>d
theorem R.keep1 {g:G} {d:D} {v:Value} (h:R g d v):R g d.keep1 v:=by
 cases h with
 | slice o xs a cap sz blk off val hc hm ho hs ha hM hv hR =>
  cases o with
  | nil=>exact .slice .nil xs a cap sz blk off val hc hm ho hs ha hM hv hR
  | _=>exact .slice .none xs a cap sz blk off val hc hm trivial hs ha hM hv hR
 | _=>simp only [D.keep1];constructor <;> assumption
theorem R.plain {g:G} {d:D} {v:Value} (h:R g d v):R g d.plain v:=by
 cases h with
 | slice o xs a cap sz blk off val hc hm ho hs ha hM hv hR=>exact .slice .none xs a cap sz blk off val hc hm trivial hs ha hM hv hR
 | agg cs vs h hv hR=>exact .agg _ vs (by simpa using h) hv (fun i h1 h2=>by simp only [List.getElem_map];exact (hR i (by simpa using h1) h2).plain1)
 | _=>simp only [D.plain];constructor <;> assumption
theorem WRel.drew {w:World} {g:G} {s:St} (h:WRel w g s):WRel w.drew g s :=
 ⟨h.os,h.tape,h.out,h.fz,h.n,h.old,h.m,h.box,h.inj,h.dom,h.live,h.uniq,h.ldom,h.o,h.nd,h.sz⟩
def Obj.plainCells:Obj→Bool
 | .cells _ _ fr=>fr.1 == 0 && fr.2 == 0
 | _=>true
theorem heap_alloc_lt {w:World} {o:Obj} {b:Nat} {x:Obj} (h:w.heap[b]? = some x):(w.alloc o).heap[b]? = some x:=by
 have:b<w.heap.size:=by
  rcases Nat.lt_or_ge b w.heap.size with h' | h'
  ·exact h'
  ·rw [Array.getElem?_eq_none h'] at h;cases h
 show (w.heap.push o)[b]? = _
 rw [Array.getElem?_push,if_neg (by omega)];exact h
theorem heap_alloc_new (w:World) (o:Obj):(w.alloc o).heap[w.heap.size]? = some o:=by
 show (w.heap.push o)[w.heap.size]? = _
 simp
theorem lt_of_heap {w:World} {b:Nat} {x:Obj} (h:w.heap[b]? = some x):b<w.heap.size:=by
 rcases Nat.lt_or_ge b w.heap.size with h' | h'
 ·exact h'
 ·rw [Array.getElem?_eq_none h'] at h;cases h
theorem BoxOk.alloc {w:World} {g:G} {i:Nat} {bx:Box} (o:Obj) (h:BoxOk w g i bx):BoxOk (w.alloc o) g i bx:=by
 cases bx with
 | dead=>trivial
 | cells cs=>obtain ⟨b,arr,T,fr,h1,h2,h3⟩:=h;exact ⟨b,arr,T,fr,h1,heap_alloc_lt h2,h3⟩
 | map es=>obtain ⟨b,en,c,h1,h2,h3⟩:=h;exact ⟨b,en,c,h1,heap_alloc_lt h2,h3⟩
 | mapX es bs k=>obtain ⟨b,en,c,h1,h2,h3⟩:=h;exact ⟨b,en,c,h1,heap_alloc_lt h2,h3⟩
 | iter mb k sn=>obtain ⟨r,m,h1,h2,h3⟩:=h;exact ⟨r,m,h1,heap_alloc_lt h2,h3⟩
 | loop ps as bo e st pe=>obtain ⟨l,fn,t,df,h1,h2,h3⟩:=h;exact ⟨l,fn,t,df,h1,heap_alloc_lt h2,h3⟩
theorem LiveOk.alloc {w:World} {g:G} {k:Nat} (o:Obj) (h:LiveOk w g k):LiveOk (w.alloc o) g k:=by
 obtain ⟨a,len,cap,sz,h1,h2⟩:=h
 refine ⟨a,len,cap,sz,h1,fun h3 h4=>?_⟩
 obtain ⟨b,off,arr,T,fr,h5,h6,h7,h8⟩:=h2 h3 h4
 exact ⟨b,off,arr,T,fr,h5,h6,heap_alloc_lt h7,h8⟩
theorem cell_lt {w:World} {a:Addr} {v:Value} (h:w.cell? a=some v):a.block<w.heap.size:=World.block_lt_of_cell? _ _ h
theorem WRel.alloc {w:World} {g:G} {s:St} (h:WRel w g s) (o:Obj) (ho:Obj.plainCells o=true):WRel (w.alloc o) g s where
 os:=h.os
 tape:=h.tape
 out:=h.out
 fz:=fun a ha=>by rw [World.frozen?_alloc_old _ _ _ (by have:=h.n;omega)];exact h.fz a ha
 n:=by have:=h.n;simp;omega
 old:=fun b hb=>by rw [Go.RowKit.Below.heap_alloc _ _ _ (by have:=h.n;omega)];exact h.old b hb
 m:=fun b o' v hm=>by
  have:=h.m b o' v hm
  rw [World.cell?_alloc_lt _ _ _ (cell_lt this)];exact this
 box:=fun i bx hi=>(h.box i bx hi).alloc o
 inj:=h.inj
 dom:=fun i b hi=>by have:=h.dom i b hi;simp;omega
 live:=fun k hk=>(h.live k hk).alloc o
 uniq:=h.uniq
 ldom:=h.ldom
 o:=fun b hb=>⟨(h.o b hb).1,heap_alloc_lt (h.o b hb).2⟩
 nd:=h.nd
 sz:=fun b n hb=>by obtain ⟨arr,T,fr,h1,h2⟩:=h.sz b n hb;exact ⟨arr,T,fr,heap_alloc_lt h1,h2⟩
def G.addB (g:G) (i b:Nat):G:={ g with B:=fun j=>if j=i then some b else g.B j }
def G.addM (g:G) (b:Nat) (f:Nat→Option Value):G:={ g with M:=fun c o=>if c=b then f o else g.M c o }
def G.addL (g:G) (k:Nat) (x:Option Addr × Nat × Nat × Nat):G:={ g with L:=fun j=>if j=k then some x else g.L j }
theorem M_none {w:World} {g:G} {s:St} (h:WRel w g s) {b:Nat} (hb:w.heap.size≤b) (o:Nat):g.M b o=none:=by
 cases hm:g.M b o with
 | none=>rfl
 | some v=>have:=cell_lt (h.m b o v hm);simp at this;omega
theorem BoxOk.mono {w:World} {g g':G} {i:Nat} {bx:Box} (h:BoxOk w g i bx) (hg:g.le g') (hM:∀ b,g.B i=some b→(∀ o,g.M b o=none)→∀ o,g'.M b o=none):BoxOk w g' i bx:=by
 cases bx with
 | dead=>trivial
 | cells cs=>obtain ⟨b,arr,T,fr,h1,h2,h3,h4,h5⟩:=h;exact ⟨b,arr,T,fr,hg.B _ _ h1,h2,h3,fun j x y=>⟨(h4 j x y).1.mono hg,(h4 j x y).2⟩,hM b h1 h5.1,h5.2⟩
 | map es=>obtain ⟨b,en,c,h1,h2,h3,h4⟩:=h;exact ⟨b,en,c,hg.B _ _ h1,h2,h3,fun j x y=>⟨(h4 j x y).1.mono hg,(h4 j x y).2.1.mono hg,(h4 j x y).2.2⟩⟩
 | mapX es bs k=>obtain ⟨b,en,c,h1,h2,h3,h4⟩:=h;exact ⟨b,en,c,hg.B _ _ h1,h2,h3,fun j x y=>⟨(h4 j x y).1.mono hg,(h4 j x y).2.1.mono hg,(h4 j x y).2.2⟩⟩
 | iter mb k sn=>obtain ⟨r,m,h1,h2,h3⟩:=h;exact ⟨r,m,hg.B _ _ h1,h2,hg.B _ _ h3⟩
 | loop ps as bo e st pe=>obtain ⟨l,fn,t,df,h1,h2,h3,h4⟩:=h;exact ⟨l,fn,t,df,hg.B _ _ h1,h2,h3,fun j x y=>(h4 j x y).mono hg⟩
theorem addB_le {g:G} {i b:Nat} (hi:g.B i=none):g.le (g.addB i b) :=
 ⟨rfl,fun _ _ _ h=>h,fun j c h=>by simp only [G.addB];split <;> simp_all,fun _ _ h=>h,fun _ h=>h,fun _ _ h=>h⟩
theorem B_none {w:World} {g:G} {s:St} (h:WRel w g s) {i:Nat} (hi:s.boxes.length≤i):g.B i=none:=by
 cases hb:g.B i with
 | none=>rfl
 | some b=>have:=h.dom i b hb;omega
theorem WRel.newBox {w:World} {g:G} {s:St} (h:WRel w g s) (o:Obj) (ho:Obj.plainCells o=true) (bx:Box)
  (hbx:BoxOk (w.alloc o) (g.addB s.boxes.length w.heap.size) s.boxes.length bx) :
  g.le (g.addB s.boxes.length w.heap.size)∧WRel (w.alloc o) (g.addB s.boxes.length w.heap.size) { s with boxes:=s.boxes++[bx] }:=by
 have hn:g.B s.boxes.length=none:=B_none h (Nat.le_refl _)
 have hle:g.le (g.addB s.boxes.length w.heap.size):=addB_le hn
 have h':=h.alloc o ho
 refine ⟨hle,?_⟩
 refine { os:=h'.os,tape:=h'.tape,out:=h'.out,fz:=h'.fz,n:=h'.n,old:=h'.old,m:=h'.m,box:=?_,inj:=?_,dom:=?_,live:=?_,uniq:=h'.uniq,ldom:=h'.ldom,o:=h'.o,nd:=h'.nd,sz:=h'.sz }
 ·intro i b hi
  rw [List.getElem?_append] at hi
  split at hi
  ·exact (h'.box i b hi).mono hle fun _ _ h=>h
  ·rename_i hlt
   have:i=s.boxes.length:=by
    rcases Nat.lt_or_ge s.boxes.length i with hgt | hge
    ·rw [List.getElem?_eq_none (by simp;omega)] at hi;cases hi
    ·omega
   subst this
   simp at hi
   subst hi
   exact hbx
 ·intro i j b hi hj l1 l2
  simp only [G.addB] at hi hj
  split at hi <;> split at hj
  ·omega
  ·cases hi;have:=h.dom j _ hj;omega
  ·cases hj;have:=h.dom i _ hi;omega
  ·have d1:=(h.dom i _ hi).1
   have d2:=(h.dom j _ hj).1
   refine h.inj i j b hi hj ?_ ?_
   ·obtain ⟨bx,e1,e2⟩:=l1;rw [List.getElem?_append_left d1] at e1;exact ⟨bx,e1,e2⟩
   ·obtain ⟨bx,e1,e2⟩:=l2;rw [List.getElem?_append_left d2] at e1;exact ⟨bx,e1,e2⟩
 ·intro i b hi
  simp only [G.addB] at hi
  split at hi
  ·cases hi;have:=h.n;subst i;simp only [List.length_append,List.length_singleton,World.size_alloc];refine ⟨by omega,?_,by omega⟩;exact h.n
  ·have:=h.dom i b hi;simp only [List.length_append,List.length_singleton,World.size_alloc];refine ⟨by omega,this.2.1,by omega⟩
 ·intro k hk
  obtain ⟨a,len,cap,sz,h1,h2⟩:=h.live k hk
  refine ⟨a,len,cap,sz,h1,fun h3 h4=>?_⟩
  obtain ⟨b,off,arr,T,fr,h5,h6,h7,h8,h9,h10⟩:=h2 h3 h4
  refine ⟨b,off,arr,T,fr,h5,h6,heap_alloc_lt h7,h8,h9,fun i hi=>?_,h10.2⟩
  simp only [G.addB] at hi
  split at hi
  ·cases hi;have:=lt_of_heap h7;omega
  ·exact h10.1 i hi
theorem addM_le {w:World} {g:G} {s:St} (h:WRel w g s) {b:Nat} (hb:w.heap.size≤b) (f:Nat→Option Value):g.le (g.addM b f) :=
 ⟨rfl,fun c o v hm=>by
  simp only [G.addM]
  split
  ·subst c;rw [M_none h hb] at hm;cases hm
  ·exact hm,fun _ _ h=>h,fun _ _ h=>h,fun _ h=>h,fun _ _ h=>h⟩
theorem WRel.newCells {w:World} {g:G} {s:St} (h:WRel w g s) (arr:Array Value) (T:TypeId) (f:Nat→Option Value) (hf:∀ o v,f o=some v→arr[o]? = some v) :
  g.le (g.addM w.heap.size f)∧WRel (w.alloc (.cells arr T)) (g.addM w.heap.size f) s:=by
 have hle:=addM_le h (Nat.le_refl _) f
 have h':=h.alloc (.cells arr T) rfl
 refine ⟨hle,?_⟩
 refine { os:=h'.os,tape:=h'.tape,out:=h'.out,fz:=h'.fz,n:=h'.n,old:=h'.old,m:=?_,box:=?_,inj:=h'.inj,dom:=h'.dom,live:=?_,uniq:=h'.uniq,ldom:=h'.ldom,o:=h'.o,nd:=h'.nd,sz:=h'.sz }
 ·intro b o v hm
  simp only [G.addM] at hm
  split at hm
  ·subst b;rw [World.cell?_alloc_new];exact hf o v hm
  ·exact h'.m b o v hm
 ·intro i bx hi
  refine (h'.box i bx hi).mono hle fun b hb hn o=>?_
  have:=h.dom i b hb
  simp only [G.addM];rw [if_neg (by omega)];exact hn o
 ·intro k hk
  obtain ⟨a,len,cap,sz,h1,h2⟩:=h.live k hk
  refine ⟨a,len,cap,sz,h1,fun h3 h4=>?_⟩
  obtain ⟨b,off,arr,T,fr,h5,h6,h7,h8,h9,h10⟩:=h2 h3 h4
  refine ⟨b,off,arr,T,fr,h5,h6,heap_alloc_lt h7,h8,fun o ho=>?_,h10⟩
  simp only [G.addM];rw [if_neg (by have:=lt_of_heap h7;omega)];exact h9 o ho
theorem addL_le {w:World} {g:G} {s:St} (h:WRel w g s) {k:Nat} (hk:s.ctr≤k) (x:Option Addr × Nat × Nat × Nat):g.le (g.addL k x) :=
 ⟨rfl,fun _ _ _ h=>h,fun _ _ h=>h,fun j y hj=>by
  simp only [G.addL]
  split
  ·subst j;have:=h.ldom _ _ hj;omega
  ·exact hj,fun _ h=>h,fun _ _ h=>h⟩
def setR (cs:List D) (off:Nat):List D→List D
 | []=>cs
 | d::ds=>setR (cs.set off d) (off+1) ds
theorem heap_setCell_ne {w:World} {a:Addr} {v:Value} {b:Nat} (h:b≠a.block):(w.setCell a v).heap[b]? = w.heap[b]?:=Go.RowKit.Below.heap_setCell _ _ _ _ h
theorem heap_setCell_eq {w:World} {b off:Nat} {v:Value} {arr:Array Value} {T:TypeId} {fr:Nat × Nat} (h:w.heap[b]? = some (.cells arr T fr)) :
  (w.setCell ⟨b,off,none⟩ v).heap[b]? = some (.cells (arr.setIfInBounds off v) T fr):=by
 simp [World.setCell,Array.getElem?_modify,h]
theorem frozen_of {w:World} {b:Nat} {arr:Array Value} {T:TypeId} {fr:Nat × Nat} (hh:w.heap[b]? = some (.cells arr T fr)) (hf:fr=(0,0)) (o:Nat):w.frozen? ⟨b,o,none⟩=false:=by
 subst hf
 simp [World.frozen?,hh]
theorem sz_setCell {w:World} {g:G} (h:∀ b n,g.S b=some n→∃ arr T fr,w.heap[b]? = some (.cells arr T fr)∧arr.size=n) (c off:Nat) (v:Value) :
  ∀ b n,g.S b=some n→∃ arr T fr,(w.setCell ⟨c,off,none⟩ v).heap[b]? = some (.cells arr T fr)∧arr.size=n:=by
 intro b n hb
 obtain ⟨arr,T,fr,h1,h2⟩:=h b n hb
 by_cases e:b=c
 ·subst e;exact ⟨_,T,fr,heap_setCell_eq h1,by simpa using h2⟩
 ·exact ⟨arr,T,fr,by rw [heap_setCell_ne (by simpa using e)];exact h1,h2⟩
theorem Live1.of_set {s:St} {i j:Nat} {bx:Box} {L:List Nat} {c:Nat} (h:Live1 ⟨s.boxes.set i bx,L,c⟩ j) (hi:Live1 s i):Live1 s j:=by
 obtain ⟨x,h1,h2⟩:=h
 by_cases e:j=i
 ·subst e;exact hi
 ·simp only at h1;rw [List.getElem?_set_ne (by omega)] at h1;exact ⟨x,h1,h2⟩
theorem WRel.setFree {w:World} {g:G} {s:St} (h:WRel w g s) {b off:Nat} {v:Value} {arr:Array Value} {T:TypeId} {fr:Nat × Nat}
  (hb:g.N≤b) (hh:w.heap[b]? = some (.cells arr T fr)) (hM:g.M b off=none) (hB:∀ i,Live1 s i→g.B i≠some b) :
  WRel (w.setCell ⟨b,off,none⟩ v) g s where
 os:=h.os
 tape:=h.tape
 out:=h.out
 fz:=fun a ha=>by rw [World.frozen?_setCell];exact h.fz a ha
 n:=by simpa using h.n
 old:=fun c hc=>by rw [heap_setCell_ne (by simp;omega)];exact h.old c hc
 m:=fun c o u hm=>by
  rw [World.cell?_setCell_other]
  ·exact h.m c o u hm
  ·intro e;cases e;rw [hM] at hm;cases hm
 box:=fun i bx hi=>by
  have:=h.box i bx hi
  by_cases hdead:bx=.dead
  ·subst hdead;trivial
  have hB:=hB i ⟨_,hi,hdead⟩
  cases bx with
  | dead=>trivial
  | cells cs=>obtain ⟨c,ar,T',fr',h1,h2,h3⟩:=this;exact ⟨c,ar,T',fr',h1,by rw [heap_setCell_ne (by intro e;exact hB (by rw [h1,e]))];exact h2,h3⟩
  | map es=>obtain ⟨c,en,k,h1,h2,h3⟩:=this;exact ⟨c,en,k,h1,by rw [heap_setCell_ne (by intro e;exact hB (by rw [h1,e]))];exact h2,h3⟩
  | mapX es bs q=>obtain ⟨c,en,k,h1,h2,h3⟩:=this;exact ⟨c,en,k,h1,by rw [heap_setCell_ne (by intro e;exact hB (by rw [h1,e]))];exact h2,h3⟩
  | iter mb q sn=>obtain ⟨r,m,h1,h2,h3⟩:=this;exact ⟨r,m,h1,by rw [heap_setCell_ne (by intro e;exact hB (by rw [h1,e]))];exact h2,h3⟩
  | loop ps as bo e st pe=>obtain ⟨l,fn,t,df,h1,h2,h3⟩:=this;exact ⟨l,fn,t,df,h1,by rw [heap_setCell_ne (by intro e;exact hB (by rw [h1,e]))];exact h2,h3⟩
 inj:=h.inj
 dom:=fun i c hi=>by have:=h.dom i c hi;simpa using this
 live:=fun k hk=>by
  obtain ⟨a,len,cap,sz,h1,h2⟩:=h.live k hk
  refine ⟨a,len,cap,sz,h1,fun h3 h4=>?_⟩
  obtain ⟨c,of,ar,T',fr',h5,h6,h7,h8,h9⟩:=h2 h3 h4
  by_cases e:c=b
  ·subst e;rw [hh] at h7;cases h7;exact ⟨c,of,_,T,fr,h5,h6,heap_setCell_eq hh,by simpa using h8,h9⟩
  ·exact ⟨c,of,ar,T',fr',h5,h6,by rw [heap_setCell_ne (by simpa using e)];exact h7,h8,h9⟩
 uniq:=h.uniq
 ldom:=h.ldom
 o:=fun c hc=>⟨(h.o c hc).1,by rw [heap_setCell_ne (by intro e;simp only at e;subst e;have:=(h.o _ hc).2;rw [hh] at this;cases this)];exact (h.o c hc).2⟩
 nd:=h.nd
 sz:=sz_setCell h.sz _ _ _
theorem WRel.setBox {w:World} {g:G} {s:St} (h:WRel w g s) {i b off:Nat} {v:Value} {d:D} {cs:List D}
  (hi:s.boxes[i]? = some (.cells cs)) (hb:g.B i=some b) (ho:off<cs.length) (hd:R g d v) (hv:v.oneCell'=true) :
  w.cell? ⟨b,off,none⟩≠none∧w.frozen? ⟨b,off,none⟩=false∧WRel (w.setCell ⟨b,off,none⟩ v) g { s with boxes:=s.boxes.set i (.cells (cs.set off d)) }:=by
 obtain ⟨b',arr,T,fr,h1,h2,h3,h4,h5⟩:=h.box i _ hi
 rw [hb] at h1;cases h1
 have hli:Live1 s i:=⟨_,hi,by simp⟩
 have hN:=(h.dom i b hb).2.1
 refine ⟨by simp [World.cell?,h2];omega,frozen_of h2 h5.2 off,?_⟩
 refine { os:=h.os,tape:=h.tape,out:=h.out,fz:=fun a ha=>by rw [World.frozen?_setCell];exact h.fz a ha,n:=by simpa using h.n,old:=?_,m:=?_,box:=?_,inj:=fun j k c h1 h2 l1 l2=>h.inj j k c h1 h2 (l1.of_set hli) (l2.of_set hli),dom:=?_,live:=?_,uniq:=h.uniq,ldom:=h.ldom,o:=fun c hc=>⟨(h.o c hc).1,by rw [heap_setCell_ne (by intro e;simp only at e;subst e;have:=(h.o _ hc).2;rw [h2] at this;cases this)];exact (h.o c hc).2⟩,nd:=h.nd,sz:=sz_setCell h.sz _ _ _ }
 ·intro c hc;rw [heap_setCell_ne (by simp;omega)];exact h.old c hc
 ·intro c o u hm
  rw [World.cell?_setCell_other]
  ·exact h.m c o u hm
  ·intro e;cases e;rw [h5.1] at hm;cases hm
 ·intro j bx hj
  by_cases e:j=i
  ·subst e
   have hlt:j<s.boxes.length:=by
    rcases Nat.lt_or_ge j s.boxes.length with q | q
    ·exact q
    ·rw [List.getElem?_eq_none q] at hi;cases hi
   rw [List.getElem?_set_self hlt] at hj
   cases hj
   refine ⟨b,arr.setIfInBounds off v,T,fr,hb,heap_setCell_eq h2,by simpa using h3,fun q q1 q2=>?_,h5⟩
   by_cases eq:q=off
   ·subst eq;simp [List.getElem_set];exact ⟨hd,hv⟩
   ·have:=h4 q (by simpa using q1) (by simpa using q2)
    rw [List.getElem_set_ne (by omega),Array.getElem_setIfInBounds_ne (by simpa using q2) (by omega)]
    exact this
  ·rw [List.getElem?_set_ne (by omega)] at hj
   by_cases hdead:bx=.dead
   ·subst hdead;trivial
   have hne:∀ c,g.B j=some c→c≠b:=fun c hc e'=>e (h.inj j i b (by rw [hc,e']) hb ⟨_,hj,hdead⟩ hli)
   have:=h.box j bx hj
   cases bx with
   | dead=>trivial
   | cells cs=>obtain ⟨c,ar,T',fr',h1,h2,h3⟩:=this;exact ⟨c,ar,T',fr',h1,by rw [heap_setCell_ne (hne c h1)];exact h2,h3⟩
   | map es=>obtain ⟨c,en,k,h1,h2,h3⟩:=this;exact ⟨c,en,k,h1,by rw [heap_setCell_ne (hne c h1)];exact h2,h3⟩
   | mapX es bs q=>obtain ⟨c,en,k,h1,h2,h3⟩:=this;exact ⟨c,en,k,h1,by rw [heap_setCell_ne (hne c h1)];exact h2,h3⟩
   | iter mb q sn=>obtain ⟨r,m,h1,h2,h3⟩:=this;exact ⟨r,m,h1,by rw [heap_setCell_ne (hne r h1)];exact h2,h3⟩
   | loop ps as bo e st pe=>obtain ⟨l,fn,t,df,h1,h2,h3⟩:=this;exact ⟨l,fn,t,df,h1,by rw [heap_setCell_ne (hne l h1)];exact h2,h3⟩
 ·intro j c hj;have:=h.dom j c hj;simpa using this
 ·intro k hk
  obtain ⟨a,len,cap,sz,h1,h2'⟩:=h.live k hk
  refine ⟨a,len,cap,sz,h1,fun h3 h4=>?_⟩
  obtain ⟨c,of,ar,T',fr',h5,h6,h7,h8,h9,h10⟩:=h2' h3 h4
  exact ⟨c,of,ar,T',fr',h5,h6,by rw [heap_setCell_ne (fun e=>h10.1 i (by rw [hb,e]))];exact h7,h8,h9,h10⟩
theorem WRel.storeBox {P:Program} {g:G}:∀ (ds:List D) (vs:List Value) (w:World) (s:St) (i b off k:Nat) (cs:List D),WRel w g s →
  s.boxes[i]? = some (.cells cs)→g.B i=some b→off+k+ds.length≤cs.length→ds.length=vs.length →
  (∀ (j:Nat) (h1:j<ds.length) (h2:j<vs.length),R g ds[j] vs[j]∧vs[j].oneCell'=true) →
  ∃ w',(storeCells ⟨b,off,none⟩ vs k).run P w=.ok () w'∧WRel w' g { s with boxes:=s.boxes.set i (.cells (setR cs (off+k) ds)) }:=by
 intro ds
 induction ds with
 | nil =>
  intro vs w s i b off k cs h hi hb ho hl hR
  cases vs with
  | nil =>
   refine ⟨w,rfl,?_⟩
   have:s.boxes.set i (.cells cs)=s.boxes:=by
    apply List.ext_getElem?;intro j
    by_cases e:j=i
    ·subst e
     have hlt:j<s.boxes.length:=by
      rcases Nat.lt_or_ge j s.boxes.length with q | q
      ·exact q
      ·rw [List.getElem?_eq_none q] at hi;cases hi
     rw [List.getElem?_set_self hlt,hi]
    ·rw [List.getElem?_set_ne (by omega)]
   simp only [setR,this];exact h
  | cons v vs=>simp at hl
 | cons d ds ih =>
  intro vs w s i b off k cs h hi hb ho hl hR
  cases vs with
  | nil=>simp at hl
  | cons v vs =>
   have h0:=hR 0 (by simp) (by simp)
   simp only [List.getElem_cons_zero] at h0
   obtain ⟨hc,hf,hW⟩:=h.setBox (off:=off+k) hi hb (by simp at ho;omega) h0.1 h0.2
   have hlt:i<s.boxes.length:=by
    rcases Nat.lt_or_ge i s.boxes.length with q | q
    ·exact q
    ·rw [List.getElem?_eq_none q] at hi;cases hi
   obtain ⟨w',hr,hw'⟩:=ih vs (w.setCell ⟨b,off+k,none⟩ v) _ i b off (k+1) (cs.set (off+k) d) hW (by simp [hlt]) hb (by simp at ho ⊢;omega) (by simpa using hl)
    (fun j h1 h2=>hR (j+1) (by simpa using h1) (by simpa using h2))
   refine ⟨w',?_,?_⟩
   ·simp only [storeCells,Sem.run_bind]
    have hadd:(Addr.mk b off none).add k=⟨b,off+k,none⟩:=by
     unfold Addr.add;split
     ·subst k;rfl
     ·rfl
    rw [hadd,run_store P w _ v .plain h0.2]
    cases hcc:w.cell? ⟨b,off+k,none⟩ with
    | none=>exact absurd hcc hc
    | some u=>simp only [hf,Bool.false_eq_true,if_false,Result.andThen_ok];exact hr
   ·simpa [setR,List.set_set,Nat.add_assoc] using hw'
theorem WRel.storeFree {P:Program} {g:G} {s:St} {b off:Nat} (hb:g.N≤b) (hB:∀ i,Live1 s i→g.B i≠some b):∀ (vs:List Value) (w:World) (k:Nat) (arr:Array Value) (T:TypeId) (fr:Nat × Nat),fr=(0,0)→WRel w g s →
  w.heap[b]? = some (.cells arr T fr)→off+k+vs.length≤arr.size→(∀ j,j<vs.length→g.M b (off+k+j)=none)→(∀ v,v ∈ vs→v.oneCell'=true) →
  ∃ w' arr',(storeCells ⟨b,off,none⟩ vs k).run P w=.ok () w'∧WRel w' g s∧w'.heap[b]? = some (.cells arr' T fr)∧arr'.size=arr.size ∧
   (∀ j (hj:j<vs.length),arr'[off+k+j]? = some vs[j])∧(∀ o,o<off+k→arr'[o]? = arr[o]?):=by
 intro vs
 induction vs with
 | nil =>
  intro w k arr T fr hf0 h hh ho hM hv
  exact ⟨w,arr,rfl,h,hh,rfl,fun j hj=>by simp at hj,fun _ _=>rfl⟩
 | cons v vs ih =>
  intro w k arr T fr hf0 h hh ho hM hv
  simp only [List.length_cons] at ho hM
  have hlt:off+k<arr.size:=by omega
  have hW:=h.setFree (off:=off+k) (v:=v) hb hh (by simpa using hM 0 (by omega)) hB
  obtain ⟨w',arr',hr,hw',hh',hs',hc',hk'⟩:=ih (w.setCell ⟨b,off+k,none⟩ v) (k+1) (arr.setIfInBounds (off+k) v) T fr hf0 hW (heap_setCell_eq hh) (by simp;omega)
   (fun j hj=>by have:=hM (j+1) (by omega);rwa [show off+k+(j+1)=off+(k+1)+j by omega] at this) (fun u hu=>hv u (by simp [hu]))
  refine ⟨w',arr',?_,hw',hh',by simpa using hs',?_,?_⟩
  ·simp only [storeCells,Sem.run_bind]
   have hadd:(Addr.mk b off none).add k=⟨b,off+k,none⟩:=by
    unfold Addr.add;split
    ·subst k;rfl
    ·rfl
   rw [hadd,run_store P w _ v .plain (hv v (by simp))]
   have hcell:w.cell? ⟨b,off+k,none⟩=some arr[off+k]:=by simp [World.cell?,hh,hlt]
   simp only [hcell,frozen_of hh hf0,Bool.false_eq_true,if_false,Result.andThen_ok];exact hr
  ·intro j hj
   cases j with
   | zero =>
    simp only [Nat.add_zero,List.getElem_cons_zero]
    rw [hk' (off+k) (by omega)]
    simp [hlt]
   | succ j =>
    have:=hc' j (by simpa using hj)
    rw [show off+(k+1)+j=off+k+(j+1) by omega] at this
    simpa using this
  ·intro o ho'
   rw [hk' o (by omega),Array.getElem?_setIfInBounds_ne (by omega)]
def G.addR (g:G) (b lo hi:Nat) (f:Nat→Value):G:={ g with M:=fun c o=>if c=b∧lo≤o∧o<hi then some (f o) else g.M c o }
theorem addR_le {g:G} {b lo hi:Nat} {f:Nat→Value} (hn:∀ o,lo≤o→o<hi→g.M b o=none):g.le (g.addR b lo hi f) :=
 ⟨rfl,fun c o v hm=>by
  simp only [G.addR]
  split
  ·rename_i h;obtain ⟨rfl,h1,h2⟩:=h;rw [hn o h1 h2] at hm;cases hm
  ·exact hm,fun _ _ h=>h,fun _ _ h=>h,fun _ h=>h,fun _ _ h=>h⟩
def St.relab (s:St) (o:Own):St :=
 { s with live:=s.ctr::(match o with | .lab k _=>s.live.erase k | _=>s.live),ctr:=s.ctr+1 }
theorem relab_live {s:St} {o:Own} {k:Nat} (hnd:s.live.Nodup) (h:k ∈ (s.relab o).live):k=s.ctr∨(k ∈ s.live∧∀ z j,o=.lab j z→k≠j):=by
 simp only [St.relab,List.mem_cons] at h
 rcases h with h | h
 ·exact .inl h
 ·right
  cases o with
  | lab j z=>have:=(List.Nodup.mem_erase_iff hnd).1 h;exact ⟨this.2,fun z' j' e=>by cases e;exact this.1⟩
  | _=>exact ⟨h,fun _ _ e=>by cases e⟩
theorem relab_nd {w:World} {g:G} {s:St} (h:WRel w g s) (o:Own):(s.relab o).live.Nodup:=by
 have hc:s.ctr ∉ s.live:=fun hk=>by obtain ⟨a,l,c,z,e,_⟩:=h.live _ hk;have:=h.ldom _ _ e;omega
 cases o with
 | lab j z=>exact List.nodup_cons.2 ⟨fun hk=>hc (List.mem_of_mem_erase hk),h.nd.erase j⟩
 | _=>exact List.nodup_cons.2 ⟨hc,h.nd⟩
theorem WRel.labelFull {w:World} {g:G} {s:St} (h:WRel w g s) (a:Option Addr) (n sz:Nat) (o:Own) :
  g.le (g.addL s.ctr (a,n,n,sz))∧WRel w (g.addL s.ctr (a,n,n,sz)) (s.relab o):=by
 have hle:=addL_le h (Nat.le_refl _) (a,n,n,sz)
 refine ⟨hle,?_⟩
 refine { os:=h.os,tape:=h.tape,out:=h.out,fz:=h.fz,n:=h.n,old:=h.old,m:=h.m,box:=fun i bx hi=>(h.box i bx hi).mono hle fun _ _ h=>h,inj:=h.inj,dom:=h.dom,live:=?_,uniq:=?_,ldom:=?_,o:=h.o,nd:=relab_nd h _,sz:=h.sz }
 ·intro k hk
  rcases relab_live h.nd hk with rfl | ⟨hk,_⟩
  ·exact ⟨a,n,n,sz,by simp [G.addL],fun h=>absurd h (Nat.lt_irrefl _)⟩
  ·obtain ⟨a',len,cap,sz',h1,h2⟩:=h.live k hk
   refine ⟨a',len,cap,sz',hle.L _ _ h1,h2⟩
 ·intro k k' hk hk' b o1 len cap sz1 b' o2 len' cap' sz2 e1 e2 l1 l2 z1 z2 eb
  simp only [G.addL] at e1 e2
  split at e1
  ·cases e1;omega
  ·split at e2
   ·cases e2;omega
   ·rename_i n1 n2
    rcases relab_live h.nd hk with q | ⟨hk,_⟩
    ·exact absurd q n1
    ·rcases relab_live h.nd hk' with q | ⟨hk',_⟩
     ·exact absurd q n2
     ·exact h.uniq k k' hk hk' b o1 len cap sz1 b' o2 len' cap' sz2 e1 e2 l1 l2 z1 z2 eb
 ·intro k x hx
  simp only [G.addL] at hx
  simp only [St.relab]
  split at hx
  ·omega
  ·have:=h.ldom k x hx;omega
theorem WRel.labelTake {w:World} {g:G} {s:St} (h:WRel w g s) {k b off len cap sz n:Nat} {arr:Array Value} {T:TypeId} {fr:Nat × Nat} {f:Nat→Value} (hk:k ∈ s.live)
  (hL:g.L k=some (some ⟨b,off,none⟩,len,cap,sz)) (hlc:len<cap) (hz:0<sz) (hcap:len+n≤cap) (hb:g.N≤b) (hh:w.heap[b]? = some (.cells arr T fr)) (hfr:fr=(0,0)) (hsz:off+cap * sz≤arr.size)
  (hM:∀ o,off+len * sz≤o→g.M b o=none) (hB:∀ i,g.B i≠some b) (hf:∀ o,off+len * sz≤o→o<off+(len+n) * sz→arr[o]? = some (f o)) :
  g.le ((g.addR b (off+len * sz) (off+(len+n) * sz) f).addL s.ctr (some ⟨b,off,none⟩,len+n,cap,sz)) ∧
   WRel w ((g.addR b (off+len * sz) (off+(len+n) * sz) f).addL s.ctr (some ⟨b,off,none⟩,len+n,cap,sz)) (s.relab (.lab k sz)):=by
 have hle1:g.le (g.addR b (off+len * sz) (off+(len+n) * sz) f):=addR_le fun o h1 _=>hM o h1
 have hl:∀ k x,g.L k=some x→((g.addR b (off+len * sz) (off+(len+n) * sz) f).addL s.ctr (some ⟨b,off,none⟩,len+n,cap,sz)).L k=some x:=by
  intro j x hx
  simp only [G.addL]
  split
  ·subst j;have:=h.ldom _ _ hx;omega
  ·exact hx
 have hle:g.le ((g.addR b (off+len * sz) (off+(len+n) * sz) f).addL s.ctr (some ⟨b,off,none⟩,len+n,cap,sz)):=⟨rfl,hle1.M,hle1.B,hl,fun _ h=>h,fun _ _ h=>h⟩
 refine ⟨hle,?_⟩
 refine { os:=h.os,tape:=h.tape,out:=h.out,fz:=h.fz,n:=h.n,old:=h.old,m:=?_,box:=?_,inj:=h.inj,dom:=h.dom,live:=?_,uniq:=?_,ldom:=?_,o:=h.o,nd:=relab_nd h _,sz:=h.sz }
 ·intro c o v hm
  simp only [G.addL,G.addR] at hm
  split at hm
  ·rename_i q;obtain ⟨rfl,q1,q2⟩:=q
   cases hm
   simp [World.cell?,hh,hf o q1 q2]
  ·exact h.m c o v hm
 ·intro i bx hi
  refine (h.box i bx hi).mono hle fun c hc hn o=>?_
  simp only [G.addL,G.addR]
  rw [if_neg (fun q=>hB i (by rw [hc,q.1]))]
  exact hn o
 ·intro j hj
  rcases relab_live h.nd hj with rfl | ⟨hj,hne⟩
  ·refine ⟨some ⟨b,off,none⟩,len+n,cap,sz,by simp [G.addL],fun h1 h2=>?_⟩
   refine ⟨b,off,arr,T,fr,rfl,hb,hh,hsz,fun o ho=>?_,hB,hfr⟩
   simp only [G.addL,G.addR]
   rw [if_neg (by omega)]
   refine hM o (Nat.le_trans ?_ ho)
   have:=Nat.mul_le_mul_right sz (Nat.le_add_right len n)
   omega
  ·obtain ⟨a',len',cap',sz',h1,h2⟩:=h.live j hj
   refine ⟨a',len',cap',sz',hl _ _ h1,fun h3 h4=>?_⟩
   obtain ⟨c,of,ar,T',fr',h5,h6,h7,h8,h9,h10⟩:=h2 h3 h4
   refine ⟨c,of,ar,T',fr',h5,h6,h7,h8,fun o ho=>?_,h10⟩
   simp only [G.addL,G.addR]
   have hcb:c≠b:=by
    intro e
    subst h5
    exact hne sz k rfl (h.uniq j k hj hk c of len' cap' sz' b off len cap sz h1 hL h3 hlc h4 hz e)
   rw [if_neg (fun q=>hcb q.1)]
   exact h9 o ho
 ·intro j j' hj hj' b1 o1 len1 cap1 sz1 b2 o2 len2 cap2 sz2 e1 e2 l1 l2 z1 z2 eb
  simp only [G.addL] at e1 e2
  split at e1
  ·split at e2
   ·omega
   ·rename_i n1 n2
    cases e1
    subst eb
    rcases relab_live h.nd hj' with q | ⟨hj',hne'⟩
    ·exact absurd q n2
    ·exact absurd (h.uniq j' k hj' hk _ _ _ _ _ _ _ _ _ _ e2 hL l2 (by omega) z2 hz rfl) (hne' sz k rfl)
  ·split at e2
   ·rename_i n1 n2
    cases e2
    subst eb
    rcases relab_live h.nd hj with q | ⟨hj,hne⟩
    ·exact absurd q n1
    ·exact absurd (h.uniq j k hj hk _ _ _ _ _ _ _ _ _ _ e1 hL l1 (by omega) z1 hz rfl) (hne sz k rfl)
   ·rename_i n1 n2
    rcases relab_live h.nd hj with q | ⟨hj,_⟩
    ·exact absurd q n1
    ·rcases relab_live h.nd hj' with q | ⟨hj',_⟩
     ·exact absurd q n2
     ·exact h.uniq j j' hj hj' _ _ _ _ _ _ _ _ _ _ e1 e2 l1 l2 z1 z2 eb
 ·intro j x hx
  simp only [G.addL] at hx
  simp only [St.relab]
  split at hx
  ·omega
  ·have:=h.ldom j x hx;omega
theorem WRel.labelNew {w:World} {g:G} {s:St} (h:WRel w g s) (o:Own) (arr:Array Value) (T:TypeId) (n cap sz:Nat) (f:Nat→Value) (hcap:cap * sz≤arr.size) (hn:n≤cap)
  (hf:∀ j,j<n * sz→arr[j]? = some (f j)) :
  let g':=(g.addM w.heap.size (fun j=>if j<n * sz then some (f j) else none)).addL s.ctr (some ⟨w.heap.size,0,none⟩,n,cap,sz)
  g.le g'∧WRel (w.alloc (.cells arr T)) g' (s.relab o):=by
 intro g'
 obtain ⟨hle1,hW1⟩:=h.newCells arr T (fun j=>if j<n * sz then some (f j) else none) (fun o v hv=>by
  split at hv
  ·cases hv;exact hf _ (by assumption)
  ·cases hv)
 have hl:∀ k x,g.L k=some x→g'.L k=some x:=by
  intro j x hx
  simp only [g',G.addL]
  split
  ·subst j;have:=h.ldom _ _ hx;omega
  ·exact hx
 have hle:g.le g':=⟨rfl,hle1.M,hle1.B,hl,fun _ h=>h,fun _ _ h=>h⟩
 refine ⟨hle,?_⟩
 refine { os:=hW1.os,tape:=hW1.tape,out:=hW1.out,fz:=hW1.fz,n:=hW1.n,old:=hW1.old,m:=hW1.m,box:=?_,inj:=hW1.inj,dom:=hW1.dom,live:=?_,uniq:=?_,ldom:=?_,o:=hW1.o,nd:=relab_nd h _,sz:=hW1.sz }
 ·intro i bx hi
  exact (hW1.box i bx hi).mono (g':=g') ⟨rfl,fun _ _ _ h=>h,fun _ _ h=>h,fun k x hx=>hl k x hx,fun _ h=>h,fun _ _ h=>h⟩ fun _ _ h=>h
 ·intro j hj
  rcases relab_live h.nd hj with rfl | ⟨hj,hne⟩
  ·refine ⟨some ⟨w.heap.size,0,none⟩,n,cap,sz,by simp [g',G.addL],fun h1 h2=>?_⟩
   refine ⟨w.heap.size,0,arr,T,(0,0),rfl,h.n,heap_alloc_new w _,by omega,fun o ho=>?_,fun i hi=>?_,rfl⟩
   ·simp only [g',G.addL,G.addM,if_true];rw [if_neg (by omega)]
   ·have:=h.dom i _ hi;omega
  ·obtain ⟨a',len',cap',sz',h1,h2⟩:=hW1.live j hj
   exact ⟨a',len',cap',sz',hl _ _ h1,h2⟩
 ·intro j j' hj hj' b1 o1 len1 cap1 sz1 b2 o2 len2 cap2 sz2 e1 e2 l1 l2 z1 z2 eb
  simp only [g',G.addL] at e1 e2
  have key:∀ q b of le ca z,q ∈ s.live→g.L q=some (some ⟨b,of,none⟩,le,ca,z)→le<ca→b=w.heap.size→0<z→False:=by
   intro q b of le ca z hq hl hlt hb hz
   obtain ⟨a',len',cap',sz',h1,h2⟩:=h.live q hq
   rw [hl] at h1;cases h1
   obtain ⟨c,of',ar,T',fr',h5,h6,h7,_⟩:=h2 hlt hz
   cases h5
   have:=lt_of_heap h7
   omega
  split at e1
  ·split at e2
   ·omega
   ·rename_i n1 n2
    cases e1
    rcases relab_live h.nd hj' with q | ⟨hj',_⟩
    ·exact absurd q n2
    ·exact (key j' _ _ _ _ _ hj' e2 l2 eb.symm z2).elim
  ·split at e2
   ·rename_i n1 n2
    cases e2
    rcases relab_live h.nd hj with q | ⟨hj,_⟩
    ·exact absurd q n1
    ·exact (key j _ _ _ _ _ hj e1 l1 eb z1).elim
   ·rename_i n1 n2
    rcases relab_live h.nd hj with q | ⟨hj,_⟩
    ·exact absurd q n1
    ·rcases relab_live h.nd hj' with q | ⟨hj',_⟩
     ·exact absurd q n2
     ·exact h.uniq j j' hj hj' _ _ _ _ _ _ _ _ _ _ e1 e2 l1 l2 z1 z2 eb
 ·intro j x hx
  simp only [g',G.addL] at hx
  simp only [St.relab]
  split at hx
  ·omega
  ·have:=h.ldom j x hx;omega
theorem live1_kill {s:St} {i j:Nat} {L:List Nat} {c:Nat} (h:Live1 ⟨s.boxes.set i .dead,L,c⟩ j):Live1 s j∧j≠i:=by
 obtain ⟨x,h1,h2⟩:=h
 simp only at h1
 by_cases e:j=i
 ·subst e
  rcases Nat.lt_or_ge j s.boxes.length with q | q
  ·rw [List.getElem?_set_self q] at h1;cases h1;exact absurd rfl h2
  ·rw [List.getElem?_eq_none (by simpa using q)] at h1;cases h1
 ·rw [List.getElem?_set_ne (by omega)] at h1;exact ⟨⟨x,h1,h2⟩,e⟩
theorem WRel.kill {w:World} {g:G} {s:St} (h:WRel w g s) (i:Nat):WRel w g { s with boxes:=s.boxes.set i .dead }:=by
 refine { os:=h.os,tape:=h.tape,out:=h.out,fz:=h.fz,n:=h.n,old:=h.old,m:=h.m,box:=?_,inj:=fun j k b h1 h2 l1 l2=>h.inj j k b h1 h2 (live1_kill l1).1 (live1_kill l2).1,dom:=fun j b hb=>by have:=h.dom j b hb;simpa using this,live:=h.live,uniq:=h.uniq,ldom:=h.ldom,o:=h.o,nd:=h.nd,sz:=h.sz }
 intro j bx hj
 by_cases e:j=i
 ·subst e
  rcases Nat.lt_or_ge j s.boxes.length with q | q
  ·rw [List.getElem?_set_self q] at hj;cases hj;trivial
  ·rw [List.getElem?_eq_none (by simpa using q)] at hj;cases hj
 ·rw [List.getElem?_set_ne (by omega)] at hj;exact h.box j bx hj
def G.addS (g:G) (b n:Nat):G:={ g with S:=fun c=>if c=b then some n else g.S c }
theorem WRel.addS {w:World} {g:G} {s:St} (h:WRel w g s) {b:Nat} {arr:Array Value} {T:TypeId} {fr:Nat × Nat} (hh:w.heap[b]? = some (.cells arr T fr)):g.le (g.addS b arr.size)∧WRel w (g.addS b arr.size) s:=by
 have hle:g.le (g.addS b arr.size):=⟨rfl,fun _ _ _ h=>h,fun _ _ h=>h,fun _ _ h=>h,fun _ h=>h,fun c n hc=>by
  simp only [G.addS]
  split
  ·subst c;obtain ⟨a2,T2,f2,e1,e2⟩:=h.sz b n hc;rw [hh] at e1;cases e1;rw [e2]
  ·exact hc⟩
 refine ⟨hle,{ os:=h.os,tape:=h.tape,out:=h.out,fz:=h.fz,n:=h.n,old:=h.old,m:=h.m,box:=fun j bx hj=>(h.box j bx hj).mono hle (fun _ _ h=>h),inj:=h.inj,dom:=h.dom,live:=h.live,uniq:=h.uniq,ldom:=h.ldom,o:=h.o,nd:=h.nd,sz:=?_ }⟩
 intro c n hc
 simp only [G.addS] at hc
 split at hc
 ·subst c;cases hc;exact ⟨arr,T,fr,hh,rfl⟩
 ·exact h.sz c n hc
theorem WRel.rebox {w:World} {g:G} {s:St} (h:WRel w g s) {b:Nat} {arr:Array Value} {T:TypeId} {fr:Nat × Nat} {cs:List D} (hN:g.N≤b) (hh:w.heap[b]? = some (.cells arr T fr)) (hfr:fr=(0,0)) (hlen:cs.length≤arr.size)
  (hR:∀ (j:Nat) (h1:j<cs.length) (h2:j<arr.size),R g cs[j] arr[j]∧arr[j].oneCell'=true) (hM:∀ o,g.M b o=none) (hB:∀ i,Live1 s i→g.B i≠some b) (hex:∃ i,g.B i=some b) :
  g.le (g.addB s.boxes.length b)∧WRel w (g.addB s.boxes.length b) { s with boxes:=s.boxes++[.cells cs] }:=by
 have hn:g.B s.boxes.length=none:=B_none h (Nat.le_refl _)
 have hle:g.le (g.addB s.boxes.length b):=addB_le hn
 have hl1:∀ i,i<s.boxes.length→Live1 { s with boxes:=s.boxes++[.cells cs] } i→Live1 s i:=fun i hi ⟨bx,e1,e2⟩=>by
  simp only at e1;rw [List.getElem?_append_left hi] at e1;exact ⟨bx,e1,e2⟩
 refine ⟨hle,{ os:=h.os,tape:=h.tape,out:=h.out,fz:=h.fz,n:=h.n,old:=h.old,m:=h.m,box:=?_,inj:=?_,dom:=?_,live:=?_,uniq:=h.uniq,ldom:=h.ldom,o:=h.o,nd:=h.nd,sz:=h.sz }⟩
 ·intro i bx hi
  simp only at hi
  rw [List.getElem?_append] at hi
  split at hi
  ·exact (h.box i bx hi).mono hle fun _ _ h=>h
  ·rename_i hlt
   have:i=s.boxes.length:=by
    rcases Nat.lt_or_ge s.boxes.length i with hgt | hge
    ·rw [List.getElem?_eq_none (by simp;omega)] at hi;cases hi
    ·omega
   subst this
   simp at hi
   subst hi
   exact ⟨b,arr,T,fr,by simp [G.addB],hh,hlen,fun j h1 h2=>⟨(hR j h1 h2).1.mono hle,(hR j h1 h2).2⟩,hM,hfr⟩
 ·intro i j c hi hj l1 l2
  simp only [G.addB] at hi hj
  split at hi <;> split at hj
  ·omega
  ·cases hi;have d2:=(h.dom j _ hj).1;exact absurd hj (hB j (hl1 j d2 l2))
  ·cases hj;have d2:=(h.dom i _ hi).1;exact absurd hi (hB i (hl1 i d2 l1))
  ·exact h.inj i j c hi hj (hl1 i (h.dom i _ hi).1 l1) (hl1 j (h.dom j _ hj).1 l2)
 ·intro i c hi
  simp only [G.addB] at hi
  split at hi
  ·cases hi;subst i;simp only [List.length_append,List.length_singleton];exact ⟨by omega,hN,lt_of_heap hh⟩
  ·have:=h.dom i c hi;simp only [List.length_append,List.length_singleton];exact ⟨by omega,this.2⟩
 ·intro k hk
  obtain ⟨a,len,cap,sz,h1,h2⟩:=h.live k hk
  refine ⟨a,len,cap,sz,h1,fun h3 h4=>?_⟩
  obtain ⟨c,off,ar,T',fr',h5,h6,h7,h8,h9,h10⟩:=h2 h3 h4
  refine ⟨c,off,ar,T',fr',h5,h6,h7,h8,h9,fun i hi=>?_,h10.2⟩
  simp only [G.addB] at hi
  split at hi
  ·cases hi;obtain ⟨j,hj⟩:=hex;exact h10.1 j hj
  ·exact h10.1 i hi
def isAggT (P:Program) (t:TypeId):Option Bool :=
 match P.underlying t with
 | some (.struct _)=>some true
 | some (.array _ _)=>some true
 | some _=>some false
 | none=>none
def sizeT (P:Program) (t:TypeId):Option Nat:=(P.info? t).map (·.size)
def zD:Value→D
 | .int k n=>.int k n
 | .bool b=>.bool b
 | .string s=>.str s
 | .pointer none=>.nilp
 | .slice none 0 0=>.slice .nil []
 | .nilFunc=>.nilf
 | .map none=>.nilm
 | _=>.junk
def zeroV (P:Program) (t:TypeId):Option Value:=(P.info? t).bind (·.zero)
def zeroT (P:Program) (t:TypeId):Option (List D):=(zeroV P t).bind fun v=>if v.cells.toList.all (·.oneCell') then some (v.cells.toList.map zD) else none
def fieldT (P:Program) (t:TypeId) (f:Nat):Option (Nat × Nat × Bool) :=
 match P.underlying t with
 | some (.struct fs)=>match fs[f]? with
  | some x=>match sizeT P x.type,isAggT P x.type with
   | some n,some a=>some (x.offset,n,a)
   | _,_=>none
  | none=>none
 | _=>none
def elemT (P:Program) (t:TypeId):Option (TypeId × Nat × Nat × Bool) :=
 match P.underlying t with
 | some (.slice e)=>match P.info? e,isAggT P e with
  | some i,some a=>some (e,i.size,i.bytes,a)
  | _,_=>none
 | _=>none
theorem run_isAgg {P:Program} {t:TypeId} {a:Bool} (h:isAggT P t=some a) (w:World):(isAgg t).run P w=.ok a w:=by
 unfold isAggT at h
 cases hu:P.underlying t with
 | none=>rw [hu] at h;cases h
 | some d =>
  rw [hu] at h
  simp only [isAgg,Sem.run_bind,run_underlying hu,Result.andThen_ok]
  cases d <;> simp at h <;> subst h <;> rfl
theorem run_sizeOf' {P:Program} {t:TypeId} {n:Nat} (h:sizeT P t=some n) (w:World):(sizeOf t).run P w=.ok n w:=by
 unfold sizeT at h
 cases hi:P.info? t with
 | none=>rw [hi] at h;cases h
 | some i =>
  rw [hi] at h;cases h
  simp [sizeOf,typeInfo,hi]
theorem run_zeroV {P:Program} {t:TypeId} {z:Value} (h:zeroV P t=some z) (w:World):(zeroValue t).run P w=.ok z w:=by
 unfold zeroV at h
 cases hi:P.info? t with
 | none=>rw [hi] at h;cases h
 | some i =>
  rw [hi] at h;simp at h
  simp [zeroValue,typeInfo,hi,h]
def CellsOk (g:G) (cs:List D) (vs:List Value):Prop :=
 cs.length=vs.length∧∀ (j:Nat) (h1:j<cs.length) (h2:j<vs.length),R g cs[j] vs[j]∧vs[j].oneCell'=true
theorem CellsOk.mono {g g':G} {cs:List D} {vs:List Value} (h:CellsOk g cs vs) (hg:g.le g'):CellsOk g' cs vs :=
 ⟨h.1,fun j h1 h2=>⟨(h.2 j h1 h2).1.mono hg,(h.2 j h1 h2).2⟩⟩
theorem CellsOk.nil {g:G}:CellsOk g [] []:=⟨rfl,fun j h1=>by simp at h1⟩
theorem CellsOk.cons {g:G} {d:D} {v:Value} {cs:List D} {vs:List Value} (h0:R g d v) (h1:v.oneCell'=true) (h:CellsOk g cs vs):CellsOk g (d::cs) (v::vs) :=
 ⟨by simp [h.1],fun j h1' h2'=>by cases j with
  | zero=>exact ⟨h0,h1⟩
  | succ j=>exact h.2 j (by simpa using h1') (by simpa using h2')⟩
theorem CellsOk.append {g:G} {cs ds:List D} {vs us:List Value} (h:CellsOk g cs vs) (k:CellsOk g ds us):CellsOk g (cs++ds) (vs++us) :=
 ⟨by simp [h.1,k.1],fun j h1 h2=>by
  by_cases hj:j<cs.length
  ·have hj':j<vs.length:=by rw [← h.1];exact hj
   rw [List.getElem_append_left hj,List.getElem_append_left hj']
   exact h.2 j hj hj'
  ·have hj':¬ j<vs.length:=by rw [← h.1];exact hj
   rw [List.getElem_append_right (by omega),List.getElem_append_right (by omega)]
   simp only [h.1]
   exact k.2 (j - vs.length) (by simp [h.1] at h1;omega) (by simp at h2;omega)⟩
theorem CellsOk.plain {g:G} {cs:List D} {vs:List Value} (h:CellsOk g cs vs):CellsOk g (cs.map D.plain1) vs :=
 ⟨by simp [h.1],fun j h1 h2=>by
  have:=h.2 j (by simpa using h1) h2
  simp only [List.getElem_map]
  exact ⟨this.1.plain1,this.2⟩⟩
theorem CellsOk.keep1 {g:G} {cs:List D} {vs:List Value} (h:CellsOk g cs vs):CellsOk g (cs.map D.keep1) vs :=
 ⟨by simp [h.1],fun j h1 h2=>by
  have:=h.2 j (by simpa using h1) h2
  simp only [List.getElem_map]
  exact ⟨this.1.keep1,this.2⟩⟩
theorem CellsOk.take {g:G} {cs:List D} {vs:List Value} (h:CellsOk g cs vs) (n:Nat):CellsOk g (cs.take n) (vs.take n) :=
 ⟨by simp [h.1],fun j h1 h2=>by
  simp only [List.getElem_take]
  exact h.2 j _ _⟩
theorem CellsOk.drop {g:G} {cs:List D} {vs:List Value} (h:CellsOk g cs vs) (n:Nat):CellsOk g (cs.drop n) (vs.drop n) :=
 ⟨by simp [h.1],fun j h1 h2=>by
  simp only [List.getElem_drop]
  exact h.2 _ _ _⟩
theorem CellsOk.agg {g:G} {cs:List D} {vs:List Value} (h:CellsOk g cs vs):R g (.agg cs) (.agg vs.toArray) :=
 .agg cs vs.toArray (by simp [h.1]) (fun i h2=>by simpa using (h.2 i (by rw [h.1];simpa using h2) (by simpa using h2)).2) (fun i h1 h2=>by simpa using (h.2 i h1 (by simpa using h2)).1)
theorem CellsOk.get {g:G} {cs:List D} {vs:Array Value} (h:CellsOk g cs vs.toList) (j:Nat) (h1:j<cs.length) (h2:j<vs.size):R g cs[j] vs[j]∧vs[j].oneCell'=true:=by
 have:=h.2 j h1 (by simpa using h2)
 rw [Array.getElem_toList] at this
 exact this
theorem CellsOk.of_agg {g:G} {cs:List D} {v:Value} (h:R g (.agg cs) v):∃ vs:Array Value,v=.agg vs∧CellsOk g cs vs.toList:=by
 cases h with
 | agg _ vs h hv hR=>exact ⟨vs,rfl,by simpa using h,fun j h1 h2=>⟨by simpa using hR j h1 (by simpa using h2),by simpa using hv j (by simpa using h2)⟩⟩
def cellsD:D→Option (List D)
 | .agg cs=>some cs
 | .junk=>none
 | .tup _=>none
 | d=>some [d]
theorem cellsD_ok {g:G} {d:D} {v:Value} {cs:List D} (h:R g d v) (hc:cellsD d=some cs):CellsOk g cs v.cells.toList:=by
 cases d with
 | agg cs' =>
  obtain ⟨vs,rfl,hk⟩:=CellsOk.of_agg h
  cases hc;exact hk
 | junk=>cases hc
 | tup _=>cases hc
 | _ =>
  cases hc
  cases h <;> exact CellsOk.cons (by constructor <;> assumption) rfl CellsOk.nil
theorem zD_ok {g:G} {v:Value}:R g (zD v) v:=by
 unfold zD
 split <;> first
  | exact .junk _
  | (constructor;done)
  | exact .slice .nil [] none 0 0 0 0 (fun _ _=>.nilFunc) (Nat.zero_le _) (Nat.zero_le _) ⟨rfl,rfl,rfl⟩ (fun i hi=>by simp at hi) (fun h=>by simp at h) (fun i j hi=>by simp at hi) (fun i j hi=>by simp at hi) (fun i j hi=>by simp at hi)
theorem zeroT_ok {P:Program} {t:TypeId} {zs:List D} (h:zeroT P t=some zs):∃ z,zeroV P t=some z∧∀ g,CellsOk g zs z.cells.toList:=by
 unfold zeroT at h
 cases hz:zeroV P t with
 | none=>rw [hz] at h;cases h
 | some z =>
  rw [hz] at h
  simp only [Option.bind_some] at h
  split at h
  ·rename_i hall
   cases h
   refine ⟨z,rfl,fun g=>⟨by simp,fun j h1 h2=>?_⟩⟩
   simp only [List.getElem_map]
   exact ⟨zD_ok,List.all_eq_true.1 hall _ (List.getElem_mem h2)⟩
  ·cases h
def Ok (P:Program) (m:Sem Value) (w:World) (g:G) (d:D) (s':St):Prop :=
 ∃ v w' g',m.run P w=.ok v w'∧g.le g'∧WRel w' g' s'∧R g' d v
def evBox (cs:List D) (s:St):Option (D × St):=some (.box s.boxes.length 0,{ s with boxes:=s.boxes++[.cells cs] })
theorem ok_newVar {P:Program} {w:World} {g:G} {s:St} (h:WRel w g s) (T:TypeId) {cs:List D} {vs:Array Value} (hc:CellsOk g cs vs.toList) :
  Ok P (do pure (.pointer (some (← newRow T vs)))) w g (.box s.boxes.length 0) { s with boxes:=s.boxes++[.cells cs] }:=by
 have hB:g.B s.boxes.length=none:=B_none h (Nat.le_refl _)
 have hle:g.le (g.addB s.boxes.length w.heap.size):=addB_le hB
 obtain ⟨h1,h2⟩:=h.newBox (.cells vs T) rfl (.cells cs) ⟨w.heap.size,vs,T,(0,0),by simp [G.addB],heap_alloc_new _ _,by have:=hc.1;simp at this;omega,
  fun j h1 h2=>⟨(hc.get j h1 h2).1.mono hle,(hc.get j h1 h2).2⟩,fun o=>M_none h (Nat.le_refl _) o,rfl⟩
 exact ⟨.pointer (some ⟨w.heap.size,0,none⟩),w.alloc (.cells vs T),_,by simp [newRow],h1,h2,.box _ _ _ (by simp [G.addB])⟩
def evAlloc (P:Program) (T:TypeId) (s:St):Option (D × St) :=
 match zeroT P T with
 | some zs=>evBox zs s
 | none=>none
theorem ok_alloc {P:Program} {w:World} {g:G} {s s':St} {T:TypeId} {d:D} (h:WRel w g s) (he:evAlloc P T s=some (d,s')) :
  Ok P (Instr.alloc T true (.tuple #[])) w g d s':=by
 unfold evAlloc at he
 split at he
 ·rename_i zs hz
  cases he
  obtain ⟨z,hzv,hok⟩:=zeroT_ok hz
  have:=ok_newVar (P:=P) h T (hok g)
  simpa only [Ok,Instr.alloc,newVar,Sem.run_bind,run_zeroV hzv,Result.andThen_ok] using this
 ·cases he
def evBoxOp (x:D) (s:St):Option (D × St) :=
 match cellsD x with
 | some cs=>evBox cs s
 | none=>none
theorem ok_box {P:Program} {w:World} {g:G} {s s':St} {T:TypeId} {x d:D} {v:Value} (h:WRel w g s) (hx:R g x v) (he:evBoxOp x s=some (d,s')) :
  Ok P (Instr.box T v) w g d s':=by
 unfold evBoxOp at he
 split at he
 ·rename_i cs hc
  cases he
  exact ok_newVar (P:=P) h T (cellsD_ok hx hc)
 ·cases he
def loadD (agg:Bool) (n:Nat) (cs:List D):Option D :=
 if agg then (if n≤cs.length then some (.agg ((cs.take n).map D.plain1)) else none) else cs[0]?
def evLoad (P:Program) (T:TypeId) (a:D) (s:St):Option D :=
 match isAggT P T,sizeT P T with
 | some ag,some n=>match a with
  | .box b off=>match s.boxes[b]? with
   | some (.cells cs)=>loadD ag n (cs.drop off)
   | _=>none
  | .pin cs=>loadD ag n cs
  | _=>none
 | _,_=>none
theorem add_none (b off n:Nat):(Addr.mk b off none).add n=⟨b,off+n,none⟩:=by
 unfold Addr.add;split
 ·subst n;rfl
 ·rfl
theorem run_loadVar {P:Program} {w:World} {g:G} {T:TypeId} {ag:Bool} {n b off:Nat} {cs:List D} {d:D} {vs:List Value} (h1:isAggT P T=some ag) (h2:sizeT P T=some n)
  (hk:CellsOk g cs vs) (hc:∀ (j:Nat) (hj:j<vs.length),w.cell? ⟨b,off+j,none⟩=some vs[j]) (hd:loadD ag n cs=some d) :
  ∃ v,(loadVar T ⟨b,off,none⟩).run P w=.ok v w∧R g d v:=by
 unfold loadD at hd
 cases ag with
 | true =>
  simp only [if_true] at hd
  split at hd
  ·rename_i hn
   cases hd
   have hn':n≤vs.length:=by rw [← hk.1];exact hn
   have hl:=run_loadCells_list (P:=P) w ⟨b,off,none⟩ (vs.take n) (fun j v hj=>by
    obtain ⟨hlt,rfl⟩:=List.getElem?_eq_some_iff.1 hj
    rw [add_none,List.getElem_take]
    exact hc j _)
   rw [show (vs.take n).length=n by simp [hn']] at hl
   refine ⟨.agg (vs.take n).toArray,?_,(hk.take n).plain.agg⟩
   simp only [loadVar,Sem.run_bind,run_isAgg h1,Result.andThen_ok,if_true,run_sizeOf' h2,hl,Sem.run_pure]
  ·cases hd
 | false =>
  simp only [Bool.false_eq_true,if_false] at hd
  obtain ⟨hlt,rfl⟩:=List.getElem?_eq_some_iff.1 hd
  have hlt':0<vs.length:=by rw [← hk.1];exact hlt
  refine ⟨vs[0],?_,(hk.2 0 hlt hlt').1⟩
  have:=hc 0 hlt'
  simp only [Nat.add_zero] at this
  simp only [loadVar,Sem.run_bind,run_isAgg h1,Result.andThen_ok,Bool.false_eq_true,if_false,run_load,this]
theorem ok_load' {P:Program} {w:World} {g:G} {s:St} {T:TypeId} {a d:D} {v:Value} (h:WRel w g s) (ha:R g a v) (he:evLoad P T a s=some d) :
  ∃ u,(Instr.loadAt T v).run P w=.ok u w∧R g d u:=by
 unfold evLoad at he
 split at he
 ·rename_i ag n h1 h2
  split at he
  ·rename_i b off
   split at he
   ·rename_i cs hb
    obtain ⟨blk,arr,T',fr,e1,e2,e3,e4,e5⟩:=h.box b _ hb
    cases ha with
    | box _ _ blk' hB =>
     rw [e1] at hB;cases hB
     have hk:CellsOk g cs (arr.toList.take cs.length):=⟨by simp;omega,fun j x y=>by simpa using e4 j x (by simp at y;omega)⟩
     obtain ⟨u,hu,hRu⟩:=run_loadVar (P:=P) (w:=w) (b:=blk) (off:=off) h1 h2 (hk.drop off) (fun j hj=>by
      have hlt:off+j<arr.size:=by simp at hj;omega
      simp [World.cell?,e2,hlt]) he
     exact ⟨u,by simpa [Instr.loadAt,Instr.sureAddr] using hu,hRu⟩
   ·cases he
  ·rename_i cs
   cases ha with
   | pin _ blk off val hM hv hR =>
    have hk:CellsOk g cs ((List.range cs.length).map val):=⟨by simp,fun j x y=>by simp;exact ⟨hR j x,hv j x⟩⟩
    obtain ⟨u,hu,hRu⟩:=run_loadVar (P:=P) (w:=w) (b:=blk) (off:=off) h1 h2 hk (fun j hj=>by simpa using h.m _ _ _ (hM j (by simpa using hj))) he
    exact ⟨u,by simpa [Instr.loadAt,Instr.sureAddr] using hu,hRu⟩
  ·cases he
 ·cases he
theorem ok_load {P:Program} {w:World} {g:G} {s:St} {T:TypeId} {a d:D} {v:Value} (h:WRel w g s) (ha:R g a v) (he:evLoad P T a s=some d) :
  Ok P (Instr.loadAt T v) w g d s:=by
 obtain ⟨u,h1,h2⟩:=ok_load' h ha he
 exact ⟨u,w,g,h1,.refl g,h,h2⟩
def storeD (cs:List D) (off:Nat) (ds:List D):List D:=cs.take off++(ds++cs.drop (off+ds.length))
theorem storeD_eq (ds:List D):∀ (cs:List D) (off:Nat),off+ds.length≤cs.length→storeD cs off ds=setR cs off ds:=by
 induction ds with
 | nil=>intro cs off _;simp [storeD,setR]
 | cons d ds ih =>
  intro cs off h
  simp only [List.length_cons] at h
  rw [setR,← ih (cs.set off d) (off+1) (by simp;omega)]
  simp only [storeD,List.length_cons]
  have h1:(cs.set off d).take (off+1)=cs.take off++[d]:=by
   rw [List.set_eq_take_append_cons_drop,if_pos (by omega)]
   have:off+1=(cs.take off).length+1:=by simp;omega
   rw [this,List.take_length_add_append]
   simp
  have h2:(cs.set off d).drop (off+1+ds.length)=cs.drop (off+(ds.length+1)):=by
   rw [List.drop_set_of_lt (by omega)];congr 1;omega
  rw [h1,h2]
  simp
def evStore (P:Program) (T:TypeId) (a x:D) (s:St):Option St :=
 match sizeT P T,cellsD x with
 | some n,some ds=>match a with
  | .box b off=>match s.boxes[b]? with
   | some (.cells cs)=>if ds.length=n∧off+n≤cs.length then some { s with boxes:=s.boxes.set b (.cells (storeD cs off ds)) } else none
   | _=>none
  | _=>none
 | _,_=>none
theorem ok_store {P:Program} {w:World} {g:G} {s s':St} {T:TypeId} {a x:D} {v u:Value} (h:WRel w g s) (ha:R g a v) (hx:R g x u) (he:evStore P T a x s=some s') :
  ∃ w',(Instr.storeAt T v u).run P w=.ok () w'∧WRel w' g s':=by
 unfold evStore at he
 split at he
 ·rename_i n ds h1 h2
  split at he
  ·rename_i b off
   split at he
   ·rename_i cs hb
    split at he
    ·rename_i hn
     cases he
     cases ha with
     | box _ _ blk hB =>
      have hk:=cellsD_ok hx h2
      obtain ⟨w',hr,hw'⟩:=WRel.storeBox (P:=P) ds u.cells.toList w s b blk off 0 cs h hb hB (by omega) hk.1 hk.2
      refine ⟨w',?_,by rw [storeD_eq _ _ _ (by omega)];simpa using hw'⟩
      have hsz:u.cells.size=n:=by have:=hk.1;simp at this;omega
      simp [Instr.storeAt,Instr.sureAddr,storeVar,run_sizeOf' h1,hsz,hr]
    ·cases he
   ·cases he
  ·cases he
 ·cases he
def evFieldAddr (P:Program) (S:TypeId) (a:D) (f:Nat):Option D :=
 match fieldT P S f with
 | some (o,n,_)=>if n=0 then none else match a with
  | .box b off=>some (.box b (off+o))
  | .pin cs=>some (.pin (cs.drop o))
  | _=>none
 | none=>none
theorem fieldT_some {P:Program} {S:TypeId} {f o n:Nat} {ag:Bool} (h:fieldT P S f=some (o,n,ag)) :
  ∃ fs x,P.underlying S=some (.struct fs)∧fs[f]? = some x∧sizeT P x.type=some n∧isAggT P x.type=some ag∧x.offset=o:=by
 unfold fieldT at h
 split at h
 ·rename_i fs hu
  split at h
  ·rename_i x hx
   split at h
   ·rename_i n' a' h1 h2
    cases h
    exact ⟨fs,x,hu,hx,h1,h2,rfl⟩
   ·cases h
  ·cases h
 ·cases h
theorem ok_fieldAddr {P:Program} {w:World} {g:G} {s:St} {S:TypeId} {a d:D} {f:Nat} {v:Value} (h:WRel w g s) (ha:R g a v) (he:evFieldAddr P S a f=some d) :
  Ok P (Instr.fieldAt S v f) w g d s:=by
 unfold evFieldAddr at he
 split at he
 ·rename_i o n ag hf
  obtain ⟨fs,x,hu,hx,hs,_,ho⟩:=fieldT_some hf
  split at he
  ·cases he
  ·rename_i hn
   have key:∀ b off,(Instr.fieldAt S (.pointer (some ⟨b,off,none⟩)) f).run P w=.ok (.pointer (some ⟨b,off+o,none⟩)) w:=by
    intro b off
    simp [Instr.fieldAt,run_underlying hu,hx,Instr.sureAddr,fieldPlace,run_sizeOf' hs,hn,add_none,ho]
   split at he
   ·rename_i b off
    cases he
    cases ha with
    | box _ _ blk hB=>exact ⟨_,w,g,key _ _,.refl g,h,.box _ _ _ hB⟩
   ·rename_i cs
    cases he
    cases ha with
    | pin _ blk off val hM hv hR =>
     refine ⟨_,w,g,key _ _,.refl g,h,.pin _ _ _ (fun j=>val (o+j)) (fun j hj=>?_) (fun j hj=>?_) (fun j hj=>?_)⟩
     ·have:=hM (o+j) (by simp at hj;omega);rwa [← Nat.add_assoc] at this
     ·exact hv (o+j) (by simp at hj;omega)
     ·simp only [List.getElem_drop];exact hR (o+j) (by simp at hj;omega)
   ·cases he
 ·cases he
def evField (P:Program) (S:TypeId) (x:D) (f:Nat):Option D :=
 match fieldT P S f,x with
 | some (o,n,ag),.agg cs=>if ag then (if o+n≤cs.length then some (.agg ((cs.drop o).take n)) else none) else cs[o]?
 | _,_=>none
theorem ok_field {P:Program} {w:World} {g:G} {s:St} {S:TypeId} {x d:D} {f:Nat} {v:Value} (h:WRel w g s) (hx:R g x v) (he:evField P S x f=some d) :
  Ok P (Instr.field S v f) w g d s:=by
 unfold evField at he
 split at he
 ·rename_i o n ag cs hf
  obtain ⟨fs,y,hu,hy,hs,hag,ho⟩:=fieldT_some hf
  obtain ⟨vs,rfl,hk⟩:=CellsOk.of_agg hx
  cases ag with
  | true =>
   simp only [if_true] at he
   split at he
   ·rename_i hlen
    cases he
    refine ⟨.agg (vs.extract o (o+n)),w,g,?_,.refl g,h,?_⟩
    ·simp [Instr.field,run_underlying hu,hy,asAgg,part,run_isAgg hag,run_sizeOf' hs,ho]
    ·have:=((hk.drop o).take n).agg
     rw [show (vs.extract o (o+n))=((vs.toList.drop o).take n).toArray from ?_]
     ·exact this
     ·apply Array.ext';simp [Array.toList_extract,List.extract]
   ·cases he
  | false =>
   simp only [Bool.false_eq_true,if_false] at he
   obtain ⟨hlt,rfl⟩:=List.getElem?_eq_some_iff.1 he
   have hlt':o<vs.size:=by have:=hk.1;simp at this;omega
   refine ⟨vs[o],w,g,?_,.refl g,h,(hk.get o hlt hlt').1⟩
   simp [Instr.field,run_underlying hu,hy,asAgg,part,run_isAgg hag,ho,hlt']
 ·cases he
theorem flatten_length {sz:Nat}:∀ (xs:List (List D)),(∀ x ∈ xs,x.length=sz)→xs.flatten.length=xs.length * sz
 | [],_=>by simp
 | x::xs,h=>by
  have ih:=flatten_length xs (fun y hy=>h y (by simp [hy]))
  simp only [List.flatten_cons,List.length_append,ih,h x (by simp),List.length_cons,Nat.succ_mul]
  omega
theorem flatten_get {sz:Nat}:∀ (xs:List (List D)),(∀ x ∈ xs,x.length=sz)→∀ (i j:Nat) (_:i<xs.length) (_:j<sz),xs.flatten[i * sz+j]? = (xs[i]?).bind (·[j]?)
 | [],_,i,j,hi,_=>by simp at hi
 | x::xs,h,i,j,hi,hj=>by
  have hx:=h x (by simp)
  cases i with
  | zero =>
   simp only [List.flatten_cons,Nat.zero_mul,Nat.zero_add,List.getElem?_cons_zero,Option.bind_some]
   rw [List.getElem?_append_left (by omega)]
  | succ i =>
   have ih:=flatten_get xs (fun y hy=>h y (by simp [hy])) i j (by simpa using hi) hj
   simp only [List.flatten_cons,List.getElem?_cons_succ]
   rw [List.getElem?_append_right (by rw [hx,Nat.succ_mul];omega),hx,Nat.succ_mul,show i * sz+sz+j - sz=i * sz+j by omega]
   exact ih
theorem sizes_mem {xs:List (List D)} {sz:Nat} (h:∀ (i:Nat) (hi:i<xs.length),xs[i].length=sz):∀ x ∈ xs,x.length=sz:=by
 intro x hx
 obtain ⟨i,hi,rfl⟩:=List.getElem_of_mem hx
 exact h i hi
theorem slice_fl {g:G} {o:Own} {xs:List (List D)} {v:Value} (h:R g (.slice o xs) v) :
    ∃ a cap sz fl,v=.slice a xs.length cap∧xs.length≤cap∧xs.length≤maxN∧OwnOk g o a xs.length cap sz∧(∀ x ∈ xs,x.length=sz)∧CellsOk g xs.flatten fl ∧
      (0<xs.length→∃ blk off,a=some ⟨blk,off,none⟩∧∀ j u,fl[j]? = some u→g.M blk (off+j)=some u):=by
  cases h with
  | slice _ _ a cap sz blk off val hc hm ho hs ha hM hv hR =>
    have hss:=sizes_mem hs
    have hlen:=flatten_length xs hss
    refine ⟨a,cap,sz,(List.range (xs.length * sz)).map (fun q=>val (q / sz) (q % sz)),rfl,hc,hm,ho,hss,⟨by simp [hlen],fun q h1 h2=>?_⟩,fun h0=>⟨blk,off,ha h0,fun q u hq=>?_⟩⟩
    · have hq:q<xs.length * sz:=by rw [← hlen];exact h1
      have hsz : 0 < sz := by rcases Nat.eq_zero_or_pos sz with e | e; · rw [e] at hq; simp at hq
                              · exact e
      have hi:q / sz<xs.length:=Nat.div_lt_of_lt_mul (by rw [Nat.mul_comm];exact hq)
      have hj:q % sz<sz:=Nat.mod_lt _ hsz
      have:=flatten_get xs hss (q / sz) (q % sz) hi hj
      rw [Nat.div_add_mod' q sz,List.getElem?_eq_getElem h1,List.getElem?_eq_getElem hi] at this
      simp only [Option.bind_some] at this
      rw [List.getElem?_eq_getElem (by rw [hs _ hi];exact hj)] at this
      simp only [List.getElem_map,List.getElem_range]
      rw [Option.some.inj this]
      exact ⟨hR _ _ hi _,hv _ _ hi hj⟩
    · obtain ⟨hlt,rfl⟩:=List.getElem?_eq_some_iff.1 hq
      simp only [List.length_map,List.length_range] at hlt
      have hsz : 0 < sz := by rcases Nat.eq_zero_or_pos sz with e | e; · rw [e] at hlt; simp at hlt
                              · exact e
      have:=hM (q / sz) (q % sz) (Nat.div_lt_of_lt_mul (by rw [Nat.mul_comm];exact hlt)) (Nat.mod_lt _ hsz)
      rw [Nat.add_assoc,Nat.div_add_mod' q sz] at this
      simpa using this
theorem slice_mk {g:G} {o:Own} {xs:List (List D)} {a:Option Addr} {cap sz:Nat} {fl:List Value} (hc:xs.length≤cap) (hm:xs.length≤maxN) (ho:OwnOk g o a xs.length cap sz)
  (hs:∀ x ∈ xs,x.length=sz) (hk:CellsOk g xs.flatten fl) (ha:0<xs.length→∃ blk off,a=some ⟨blk,off,none⟩∧∀ j u,fl[j]? = some u→g.M blk (off+j)=some u) :
  R g (.slice o xs) (.slice a xs.length cap):=by
 have hlen:=flatten_length xs hs
 have hfl:fl.length=xs.length * sz:=by rw [← hk.1,hlen]
 obtain ⟨blk,off,h1⟩:∃ blk off,0<xs.length→a=some ⟨blk,off,none⟩∧∀ j u,fl[j]? = some u→g.M blk (off+j)=some u:=by
  rcases Nat.eq_zero_or_pos xs.length with e | e
  ·exact ⟨0,0,fun h=>by omega⟩
  ·obtain ⟨blk,off,h⟩:=ha e;exact ⟨blk,off,fun _=>h⟩
 have key:∀ i j,i<xs.length→j<sz→i * sz+j<fl.length:=by
  intro i j hi hj
  rw [hfl]
  calc i * sz+j<i * sz+sz:=by omega
   _=(i+1) * sz:=by rw [Nat.succ_mul]
   _≤xs.length * sz:=Nat.mul_le_mul_right _ hi
 refine .slice o xs a cap sz blk off (fun i j=>fl.getD (i * sz+j) undef) hc hm ho (fun i hi=>hs _ (List.getElem_mem hi)) (fun h=>(h1 h).1) ?_ ?_ ?_
 ·intro i j hi hj
  have:=(h1 (by omega)).2 (i * sz+j) (fl[i * sz+j]'(key i j hi hj)) (List.getElem?_eq_getElem (key i j hi hj))
  rw [← Nat.add_assoc] at this
  rw [this]
  simp [List.getD,List.getElem?_eq_getElem (key i j hi hj)]
 ·intro i j hi hj
  have hlt:=key i j hi hj
  simp only [List.getD,List.getElem?_eq_getElem hlt,Option.getD_some]
  exact (hk.2 _ (by rw [hk.1];exact hlt) hlt).2
 ·intro i j hi hj
  have hj':j<sz:=by rw [hs _ (List.getElem_mem hi)] at hj;exact hj
  have hlt:=key i j hi hj'
  have:=flatten_get xs hs i j hi hj'
  rw [List.getElem?_eq_getElem (by rw [hk.1];exact hlt),List.getElem?_eq_getElem hi] at this
  simp only [Option.bind_some] at this
  rw [List.getElem?_eq_getElem hj] at this
  simp only [List.getD,List.getElem?_eq_getElem hlt,Option.getD_some]
  rw [← Option.some.inj this]
  exact (hk.2 _ (by rw [hk.1];exact hlt) hlt).1
theorem slice_mk' {g:G} {o:Own} {xs:List (List D)} {a:Option Addr} {cap sz n:Nat} {fl:List Value} (hn:xs.length=n) (hc:n≤cap) (hm:n≤maxN) (ho:OwnOk g o a n cap sz)
  (hs:∀ x ∈ xs,x.length=sz) (hk:CellsOk g xs.flatten fl) (ha:0<n→∃ blk off,a=some ⟨blk,off,none⟩∧∀ j u,fl[j]? = some u→g.M blk (off+j)=some u) :
  R g (.slice o xs) (.slice a n cap):=by
 subst hn;exact slice_mk hc hm ho hs hk ha
theorem elemT_some {P:Program} {t e:TypeId} {n b:Nat} {ag:Bool} (h:elemT P t=some (e,n,b,ag)):P.underlying t=some (.slice e)∧(∃ i,P.info? e=some i∧i.size=n∧i.bytes=b)∧isAggT P e=some ag:=by
 unfold elemT at h
 split at h
 ·rename_i e' hu
  split at h
  ·rename_i i a hi ha
   cases h
   exact ⟨hu,⟨i,hi,rfl,rfl⟩,ha⟩
  ·cases h
 ·cases h
def ownFits (o:Own) (xs:List (List D)) (sz:Nat) (s:St):Bool :=
 match o with
 | .none=>false
 | .lab k z=>s.live.contains k && z == sz
 | _=>xs.all (·.length == sz)
def evAppend0 (P:Program) (T T':TypeId) (x y:D) (s:St):Option (D × St) :=
 match elemT P T,elemT P T' with
 | some (e,sz,by_,_),some _=>match zeroT P e with
  | some zs=>match x,y with
   | .slice o xs,.slice _ ys =>
    if zs.length=sz∧0<sz∧0<by_∧by_≤1000000∧ownFits o xs sz s=true∧ys.all (·.length == sz)=true∧xs.length+ys.length≤1000000 then
     some (.slice (.lab s.ctr sz) (xs++ys),s.relab o) else none
   | _,_=>none
  | none=>none
 | _,_=>none
theorem ok_append0 {P:Program} {w:World} {g:G} {s s':St} {T T' ty:TypeId} {x y d:D} {v u:Value} (h:WRel w g s) (hx:R g x v) (hy:R g y u) (he:evAppend0 P T T' x y s=some (d,s')) :
    Ok P (Builtin.append_ #[T,T'] ty #[v,u]) w g d s':=by
  unfold evAppend0 at he
  split at he
  · rename_i e sz by_ ag el' h1 h1'
    split at he
    · rename_i zs hz
      split at he
      · rename_i o xs oy ys
        split at he
        · rename_i hcond
          obtain ⟨hzs,hsz,hby0,hby,hown,hys,hlen⟩:=hcond
          cases he
          obtain ⟨hu,⟨i,hi,rfl,rfl⟩,_⟩:=elemT_some h1
          obtain ⟨e',n',b',ag'⟩:=el'
          obtain ⟨hu',_,_⟩:=elemT_some h1'
          obtain ⟨z,hzv,hzok⟩:=zeroT_ok hz
          have hiz:i.zero=some z:=by simpa [zeroV,hi] using hzv
          have hzc:z.cells.size=i.size:=by have:=(hzok g).1;simp at this;omega
          obtain ⟨a,cap,szx,fx,rfl,hcx,hmx,hox,hsx,hkx,hax⟩:=slice_fl hx
          obtain ⟨b,capy,szy,fy,rfl,hcy,hmy,hoy,hsy,hky,hay⟩:=slice_fl hy
          have hys':∀ c ∈ ys,c.length=i.size:=by
            intro c hc;simpa using List.all_eq_true.1 hys c hc
          have hxs':∀ c ∈ xs,c.length=i.size:=by
            cases o with
            | none=>simp [ownFits] at hown
            | lab k z' =>
              simp only [ownFits,Bool.and_eq_true,beq_iff_eq] at hown
              have:=hox.2
              intro c hc;rw [hsx c hc,this,hown.2]
            | full=>intro c hc;simpa using List.all_eq_true.1 hown c hc
            | nil=>intro c hc;simpa using List.all_eq_true.1 hown c hc
          have hfx:fx.length=xs.length * i.size:=by rw [← hkx.1,flatten_length xs hxs']
          have hfy:fy.length=ys.length * i.size:=by rw [← hky.1,flatten_length ys hys']
          have hsize:∀ c ∈ xs++ys,c.length=i.size:=by
            intro c hc;rcases List.mem_append.1 hc with hc | hc
            · exact hxs' c hc
            · exact hys' c hc
          have hkk:CellsOk g (xs++ys).flatten (fx++fy):=by rw [List.flatten_append];exact hkx.append hky
          have hnm:xs.length+ys.length≤maxN:=by simp [maxN];omega
          -- reading the second operand
          have hry:∀ W:World,(∀ b o v,g.M b o=some v→W.cell? ⟨b,o,none⟩=some v)→(Builtin.firstCells i.size ys.length (.slice b ys.length capy)).run P W=.ok fy.toArray W:=by
            intro W hW
            rcases Nat.eq_zero_or_pos ys.length with e0 | e0
            · have:fy=[]:=List.eq_nil_of_length_eq_zero (by rw [hfy,e0];simp)
              subst this
              cases b with
              | none=>exact run_firstCells_none _ _ _ _ _
              | some b=>exact run_firstCells_some _ _ _ _ _ _ [] (by simp [e0]) (fun j v hj=>by simp at hj)
            · obtain ⟨blk,off,rfl,hMy⟩:=hay e0
              exact run_firstCells_some _ _ _ _ _ _ fy hfy (fun j v hj=>by rw [add_none];exact hW _ _ _ (hMy j v hj))
          have hrx:∀ W:World,(∀ b o v,g.M b o=some v→W.cell? ⟨b,o,none⟩=some v)→(Builtin.firstCells i.size xs.length (.slice a xs.length cap)).run P W=.ok fx.toArray W:=by
            intro W hW
            rcases Nat.eq_zero_or_pos xs.length with e0 | e0
            · have:fx=[]:=List.eq_nil_of_length_eq_zero (by rw [hfx,e0];simp)
              subst this
              cases a with
              | none=>exact run_firstCells_none _ _ _ _ _
              | some b=>exact run_firstCells_some _ _ _ _ _ _ [] (by simp [e0]) (fun j v hj=>by simp at hj)
            · obtain ⟨blk,off,rfl,hMx⟩:=hax e0
              exact run_firstCells_some _ _ _ _ _ _ fx hfx (fun j v hj=>by rw [add_none];exact hW _ _ _ (hMx j v hj))
          by_cases hroom:xs.length+ys.length≤cap
          · -- it fits
            by_cases hfull:cap=xs.length
            · -- nothing is appended
              have hy0:ys.length=0:=by omega
              have hy0':ys=[]:=List.eq_nil_of_length_eq_zero hy0
              subst hy0'
              have hfy0:fy=[]:=List.eq_nil_of_length_eq_zero (by rw [hfy];simp)
              subst hfy0
              obtain ⟨hle,hW⟩:=h.labelFull a xs.length i.size o
              refine ⟨.slice a xs.length cap,w,_,?_,hle,hW,?_⟩
              · have:=hry w h.m
                have hc0:xs.length≤cap:=by omega
                simp only [List.length_nil] at this
                cases a <;> simp [Builtin.append_,run_underlying hu,run_underlying hu',sizeOf,typeInfo,hi,Builtin.lenOf,storeCells,hc0,this]
              · rw [List.append_nil]
                refine slice_mk hcx hmx ⟨by simp [G.addL,hfull],rfl⟩ hxs' (hkx.mono hle) (fun h0=>?_)
                obtain ⟨blk,off,e1,e2⟩:=hax h0
                exact ⟨blk,off,e1,fun j u hj=>hle.M _ _ _ (e2 j u hj)⟩
            · -- the room is that of a live label
              cases o with
              | none=>simp [ownFits] at hown
              | full=>exact absurd hox hfull
              | nil=>exact absurd (by have:=hox.2;omega) hfull
              | lab k z' =>
                simp only [ownFits,Bool.and_eq_true,beq_iff_eq,List.contains_iff_mem] at hown
                obtain ⟨hkl,rfl⟩:=hown
                obtain ⟨a',len',cap',sz',hL,hlive⟩:=h.live k hkl
                have hLk:=hox.1
                rw [hLk] at hL;cases hL
                obtain ⟨blk,off,arr,T0,fr,rfl,hN,hh,hcap,hM,hB⟩:=hlive (by omega) hsz
                have hmul:xs.length * i.size+fy.length≤cap * i.size:=by
                  rw [hfy,← Nat.add_mul];exact Nat.mul_le_mul_right _ hroom
                obtain ⟨w',arr',hr,hw',hh',hs',hcc,hkeep⟩:=WRel.storeFree (P:=P) (off:=off+xs.length * i.size) hN (fun i _=>hB.1 i) fy w 0 arr T0 fr hB.2 h hh (by omega)
                  (fun j hj=>hM _ (by omega)) (fun v hv=>by obtain ⟨j,hj,rfl⟩:=List.getElem_of_mem hv;exact (hky.2 j (by rw [hky.1];exact hj) hj).2)
                obtain ⟨hle,hW⟩:=hw'.labelTake (n:=ys.length) (f:=fun o=>fy.getD (o - (off+xs.length * i.size)) undef) hkl hLk (by omega) hsz hroom hN hh' hB.2 (by omega) hM hB.1 (fun o h1 h2=>by
                  have hj:o - (off+xs.length * i.size)<fy.length:=by rw [hfy];rw [Nat.add_mul] at h2;omega
                  have:=hcc _ hj
                  rw [show off+xs.length * i.size+0+(o - (off+xs.length * i.size))=o by omega] at this
                  rw [this];simp [List.getD,List.getElem?_eq_getElem hj])
                refine ⟨.slice (some ⟨blk,off,none⟩) (xs.length+ys.length) cap,w',_,?_,hle,hW,?_⟩
                · simp [Builtin.append_,run_underlying hu,run_underlying hu',sizeOf,typeInfo,hi,Builtin.lenOf,hroom,hry w h.m,add_none,hr]
                · refine slice_mk' List.length_append hroom hnm ⟨by simp [G.addL],rfl⟩ hsize (hkk.mono hle) (fun _=>⟨blk,off,rfl,fun j u hj=>?_⟩)
                  rcases Nat.lt_or_ge j fx.length with hj' | hj'
                  · rw [List.getElem?_append_left hj'] at hj
                    obtain ⟨blk', off', e1, e2⟩ := hax (by rcases Nat.eq_zero_or_pos xs.length with e | e; · rw [hfx, e] at hj'; simp at hj'
                                                           · exact e)
                    cases e1
                    exact hle.M _ _ _ (e2 j u hj)
                  · rw [List.getElem?_append_right hj'] at hj
                    obtain ⟨hlt,rfl⟩:=List.getElem?_eq_some_iff.1 hj
                    simp only [G.addL,G.addR]
                    rw [if_pos ⟨trivial,by omega,by rw [Nat.add_mul];omega⟩]
                    rw [show off+j - (off+xs.length * i.size)=j - fx.length by omega]
                    simp [List.getD,List.getElem?_eq_getElem hlt]
          · -- a new row
            have h63:¬ (9223372036854775807<(xs.length:Int)+(ys.length:Int)):=by omega
            have hfit:Builtin.nextslicecap (xs.length+ys.length) cap * i.bytes≤281474976710656:=growslice_fits (by omega) (by
              calc (xs.length+ys.length) * i.bytes≤1000000 * 1000000:=Nat.mul_le_mul hlen hby
                _≤140737488355328:=by omega)
            have hfit':¬ (281474976710656<Builtin.nextslicecap (xs.length+ys.length) cap * i.bytes):=by omega
            have hge:=grownCap_ge w (xs.length+ys.length) cap e
            generalize hC:grownCap w (xs.length+ys.length) cap e=C at hge
            have hne:i.bytes≠0:=by omega
            obtain ⟨hle,hW⟩:=(h.drew).labelNew o (fx.toArray++fy.toArray++Builtin.zeroCells z.cells (C - (xs.length+ys.length))) e (xs.length+ys.length) C i.size
              (fun j=>(fx++fy).getD j undef) (by
                simp only [Array.size_append,List.size_toArray,hfx,hfy,size_zeroCells,hzc,← Nat.add_mul]
                exact Nat.mul_le_mul_right _ (by omega)) hge (fun j hj=>by
                have hjl:j<(fx++fy).length:=by simp [hfx,hfy,← Nat.add_mul];exact hj
                rw [Array.getElem?_append_left (by simpa using hjl)]
                rw [show fx.toArray++fy.toArray=(fx++fy).toArray by simp]
                simp only [List.getElem?_toArray]
                simp [List.getD,List.getElem?_eq_getElem hjl])
            refine ⟨.slice (some ⟨w.heap.size,0,none⟩) (xs.length+ys.length) C,w.drew.alloc _,_,?_,hle,hW,?_⟩
            · have e1:=hry w.drew h.m
              have e2:=hrx w.drew h.m
              simp [Builtin.append_,run_underlying hu,run_underlying hu',sizeOf,typeInfo,hi,Builtin.lenOf,hroom,h63,hfit',hne,Question.forced,e1,e2,newRow,zeroValue,hiz]
              rw [show (Question.appendCap (xs.length+ys.length) cap e).cut (w.tape w.drawn (Question.appendCap (xs.length+ys.length) cap e))=C from hC]
              exact ⟨rfl,by congr 2;apply Array.ext';simp⟩
            · refine slice_mk' List.length_append hge hnm ⟨by simp [G.addL],rfl⟩ hsize (hkk.mono hle) (fun _=>⟨w.heap.size,0,rfl,fun j u hj=>?_⟩)
              obtain ⟨hlt,rfl⟩:=List.getElem?_eq_some_iff.1 hj
              simp only [G.addL,G.addM,Nat.zero_add,World.size_drew,if_true]
              rw [if_pos (by simp [hfx,hfy,← Nat.add_mul] at hlt;exact hlt)]
              simp [List.getD,List.getElem?_eq_getElem hlt]
        · cases he
      · cases he
    · cases he
  · cases he
def evAppendR (P:Program) (T T':TypeId) (x y:D) (s:St):Option (D × St) :=
 match elemT P T,elemT P T' with
 | some (e,sz,by_,_),some _=>match zeroT P e with
  | some zs=>match y with
   | .slice _ ys =>
    if zs.length=sz∧0<sz∧0<by_∧by_≤1000000∧ys.all (·.length == sz)=true then
     match x with
     | .row0=>if ys=[] then some (.row0,s) else if ys.length≤1000000 then some (.row s.boxes.length 0 ys.length sz,{ s with boxes:=s.boxes++[.cells ys.flatten] }) else none
     | .row b off n rsz=>match s.boxes[b]? with
      | some (.cells cs)=>if rsz=sz∧off=0∧cs.length=n * sz∧n+ys.length≤1000000 then some (.row s.boxes.length 0 (n+ys.length) sz,{ s with boxes:=s.boxes.set b .dead++[.cells (cs++ys.flatten)] }) else none
      | _=>none
     | _=>none
    else none
   | _=>none
  | none=>none
 | _,_=>none
theorem ok_appendR {P:Program} {w:World} {g:G} {s s':St} {T T' ty:TypeId} {x y d:D} {v u:Value} (h:WRel w g s) (hx:R g x v) (hy:R g y u) (he:evAppendR P T T' x y s=some (d,s')) :
  Ok P (Builtin.append_ #[T,T'] ty #[v,u]) w g d s':=by
 unfold evAppendR at he
 split at he
 ·rename_i e sz by_ ag el' h1 h1'
  split at he
  ·rename_i zs hz
   split at he
   ·rename_i oy ys
    split at he
    ·rename_i hcond
     obtain ⟨hzs,hsz,hby0,hby,hys⟩:=hcond
     obtain ⟨hu,⟨i,hi,rfl,rfl⟩,_⟩:=elemT_some h1
     obtain ⟨e',n',b',ag'⟩:=el'
     obtain ⟨hu',_,_⟩:=elemT_some h1'
     obtain ⟨z,hzv,hzok⟩:=zeroT_ok hz
     have hiz:i.zero=some z:=by simpa [zeroV,hi] using hzv
     have hzc:z.cells.size=i.size:=by have:=(hzok g).1;simp at this;omega
     obtain ⟨b,capy,szy,fy,rfl,hcy,hmy,hoy,hsy,hky,hay⟩:=slice_fl hy
     have hys':∀ c ∈ ys,c.length=i.size:=by
      intro c hc;simpa using List.all_eq_true.1 hys c hc
     have hfy:fy.length=ys.length * i.size:=by rw [← hky.1,flatten_length ys hys']
     have hne:i.bytes≠0:=by omega
     have hry:∀ W:World,(∀ b o v,g.M b o=some v→W.cell? ⟨b,o,none⟩=some v)→(Builtin.firstCells i.size ys.length (.slice b ys.length capy)).run P W=.ok fy.toArray W:=by
      intro W hW
      rcases Nat.eq_zero_or_pos ys.length with e0 | e0
      ·have:fy=[]:=List.eq_nil_of_length_eq_zero (by rw [hfy,e0];simp)
       subst this
       cases b with
       | none=>exact run_firstCells_none _ _ _ _ _
       | some b=>exact run_firstCells_some _ _ _ _ _ _ [] (by simp [e0]) (fun j v hj=>by simp at hj)
      ·obtain ⟨blk,off,rfl,hMy⟩:=hay e0
       exact run_firstCells_some _ _ _ _ _ _ fy hfy (fun j v hj=>by rw [add_none];exact hW _ _ _ (hMy j v hj))
     split at he
     ·-- nil
      cases hx with
      | row0 a =>
       split at he
       ·rename_i hnil
        subst hnil
        cases he
        have hfy0:fy=[]:=List.eq_nil_of_length_eq_zero (by rw [hfy];simp)
        subst hfy0
        have:=hry w h.m
        simp only [List.length_nil] at this
        refine ⟨.slice a 0 0,w,g,?_,.refl g,h,.row0 a⟩
        cases a <;> simp [Builtin.append_,run_underlying hu,run_underlying hu',sizeOf,typeInfo,hi,Builtin.lenOf,storeCells,this]
       ·rename_i hnil
        split at he
        ·rename_i hlen
         cases he
         have hpos:0<ys.length:=List.length_pos_iff.2 hnil
         have hroom:¬ (0+ys.length≤0):=by omega
         have h63:¬ (9223372036854775807<((0:Nat):Int)+(ys.length:Int)):=by omega
         have hfit:Builtin.nextslicecap (0+ys.length) 0 * i.bytes≤281474976710656:=growslice_fits (by omega) (by
          calc (0+ys.length) * i.bytes≤1000000 * 1000000:=Nat.mul_le_mul (by omega) hby
           _≤140737488355328:=by omega)
         have hfit':¬ (281474976710656<Builtin.nextslicecap (0+ys.length) 0 * i.bytes):=by omega
         have hge:=grownCap_ge w (0+ys.length) 0 e
         generalize hC:grownCap w (0+ys.length) 0 e=C at hge
         obtain ⟨arr,harr⟩:∃ arr,arr=fy.toArray++Builtin.zeroCells z.cells (C - (0+ys.length)):=⟨_,rfl⟩
         have hasz:arr.size=C * i.size:=by rw [harr];simp only [Array.size_append,List.size_toArray,hfy,size_zeroCells,hzc,← Nat.add_mul];congr 1;omega
         have hBn:g.B s.boxes.length=none:=B_none h (Nat.le_refl _)
         have hle0:g.le (g.addB s.boxes.length w.heap.size):=addB_le hBn
         obtain ⟨hle1,hW1⟩:=h.drew.newBox (.cells arr e) rfl (.cells ys.flatten) ⟨w.heap.size,arr,e,(0,0),by simp [G.addB],heap_alloc_new _ _,by rw [hky.1,harr];simp,
          fun j q1 q2=>by
           have hj:j<fy.length:=by rw [← hky.1];exact q1
           have:=hky.2 j q1 hj
           have e2:arr[j]=fy[j]:=by
            have:arr[j]? = some fy[j]:=by rw [harr,Array.getElem?_append_left (by simpa using hj)];simp [hj]
            rw [Array.getElem?_eq_getElem q2] at this;exact Option.some.inj this
           rw [e2];exact ⟨this.1.mono hle0,this.2⟩,fun o=>M_none h (Nat.le_refl _) o,rfl⟩
         obtain ⟨hle2,hW2⟩:=hW1.addS (heap_alloc_new _ _)
         refine ⟨.slice (some ⟨w.heap.size,0,none⟩) ys.length C,w.drew.alloc (.cells arr e),_,?_,hle1.trans hle2,hW2,?_⟩
         ·have e1:=hry w.drew h.m
          have e2:∀ W:World,(Builtin.firstCells i.size 0 (.slice a 0 0)).run P W=.ok #[] W:=by
           intro W
           cases a with
           | none=>exact run_firstCells_none _ _ _ _ _
           | some b=>exact run_firstCells_some _ _ _ _ _ _ [] (by simp) (fun j v hj=>by simp at hj)
          simp only [Nat.zero_add] at h63 hfit' hC hroom
          have hroom':¬ ys=[]:=hnil
          have h63':¬ (9223372036854775807<(ys.length:Int)):=by omega
          simp [Builtin.append_,run_underlying hu,run_underlying hu',sizeOf,typeInfo,hi,Builtin.lenOf,hroom',h63',hfit',hne,Question.forced,e1,e2,newRow,zeroValue,hiz]
          rw [show (Question.appendCap ys.length 0 e).cut (w.tape w.drawn (Question.appendCap ys.length 0 e))=C from hC]
          rw [harr]
          refine ⟨rfl,by congr 2;simp [Nat.zero_add]⟩
         ·refine .row _ _ _ _ w.heap.size arr.size C (by simp [G.addB,G.addS]) (by simp [G.addS]) (by omega) (by simp [maxN];omega) hsz (by omega)
        ·cases he
     ·-- a row
      rename_i bx off n rsz
      split at he
      ·rename_i cs hbx
       split at he
       ·rename_i hc
        obtain ⟨rfl,rfl,hcs,hlen⟩:=hc
        cases he
        cases hx with
        | row _ _ _ _ blk m cap hB hS hcap hn hz0 hm =>
         obtain ⟨blk',arr,T0,fr,q1,q2,q3,q4,q5⟩:=h.box bx _ hbx
         rw [hB] at q1;cases q1
         have hN:=(h.dom bx blk hB).2.1
         obtain ⟨a2,T2,f2,e1,e2⟩:=h.sz blk m hS
         rw [q2] at e1;cases e1
         have hlive:∀ i,Live1 { s with boxes:=s.boxes.set bx .dead } i→g.B i≠some blk:=by
          intro j hj hjB
          obtain ⟨l1,l2⟩:=live1_kill hj
          exact l2 (h.inj j bx blk hjB hB l1 ⟨_,hbx,by simp⟩)
         by_cases hroom:n+ys.length≤cap
         ·-- it fits
          have hmul:n * i.size+fy.length≤cap * i.size:=by
           rw [hfy,← Nat.add_mul];exact Nat.mul_le_mul_right _ hroom
          obtain ⟨w',arr',hr,hw',hh',hs',hcc,hkeep⟩:=WRel.storeFree (P:=P) (off:=n * i.size) hN hlive fy w 0 arr T0 fr q5.2 (h.kill bx) q2 (by omega)
           (fun j hj=>q5.1 _) (fun v hv=>by obtain ⟨j,hj,rfl⟩:=List.getElem_of_mem hv;exact (hky.2 j (by rw [hky.1];exact hj) hj).2)
          obtain ⟨hle,hW⟩:=hw'.rebox (cs:=cs++ys.flatten) hN hh' q5.2 (by rw [List.length_append,hky.1];omega) (fun j h1 h2=>by
           by_cases hj:j<cs.length
           ·rw [List.getElem_append_left hj]
            have e3:=hkeep j (by omega)
            rw [Array.getElem?_eq_getElem h2,Array.getElem?_eq_getElem (by omega)] at e3
            rw [Option.some.inj e3];exact q4 j hj (by omega)
           ·rw [List.getElem_append_right (by omega)]
            have hj2:j - cs.length<fy.length:=by rw [List.length_append,hky.1] at h1;omega
            have e3:=hcc (j - cs.length) hj2
            rw [show n * i.size+0+(j - cs.length)=j by omega,Array.getElem?_eq_getElem h2] at e3
            rw [Option.some.inj e3];exact hky.2 _ _ _) q5.1 hlive ⟨bx,hB⟩
          refine ⟨.slice (some ⟨blk,0,none⟩) (n+ys.length) cap,w',_,?_,hle,by simpa using hW,?_⟩
          ·simp [Builtin.append_,run_underlying hu,run_underlying hu',sizeOf,typeInfo,hi,Builtin.lenOf,hroom,hry w h.m,add_none,hr]
          ·exact .row _ _ _ _ blk arr.size cap (by simp [G.addB]) (by simp only [G.addB];rw [e2];exact hS) hroom (by simp [maxN];omega) hsz (by omega)
         ·-- a new row
          have h63:¬ (9223372036854775807<(n:Int)+(ys.length:Int)):=by omega
          have hfit:Builtin.nextslicecap (n+ys.length) cap * i.bytes≤281474976710656:=growslice_fits (by omega) (by
           calc (n+ys.length) * i.bytes≤1000000 * 1000000:=Nat.mul_le_mul hlen hby
            _≤140737488355328:=by omega)
          have hfit':¬ (281474976710656<Builtin.nextslicecap (n+ys.length) cap * i.bytes):=by omega
          have hge:=grownCap_ge w (n+ys.length) cap e
          generalize hC:grownCap w (n+ys.length) cap e=C at hge
          obtain ⟨fx,hfx⟩:∃ fx,fx=arr.toList.take (n * i.size):=⟨_,rfl⟩
          have hfxl:fx.length=n * i.size:=by rw [hfx];simp;omega
          have hrx:∀ W:World,W.heap=w.heap→(Builtin.firstCells i.size n (.slice (some ⟨blk,0,none⟩) n cap)).run P W=.ok fx.toArray W:=by
           intro W hW
           refine run_firstCells_some _ _ _ _ _ _ fx hfxl (fun j v hj=>?_)
           rw [add_none]
           obtain ⟨hlt,rfl⟩:=List.getElem?_eq_some_iff.1 hj
           have hlt2:j<arr.size:=by rw [hfxl] at hlt;omega
           simp [World.cell?,hW,q2,hlt2,hfx]
          obtain ⟨arr2,harr⟩:∃ arr2,arr2=fx.toArray++fy.toArray++Builtin.zeroCells z.cells (C - (n+ys.length)):=⟨_,rfl⟩
          have hasz:arr2.size=C * i.size:=by rw [harr];simp only [Array.size_append,List.size_toArray,hfxl,hfy,size_zeroCells,hzc,← Nat.add_mul];congr 1;omega
          have hkk:CellsOk g (cs++ys.flatten) (fx++fy):=CellsOk.append ⟨by omega,fun j h1 h2=>by
           have hlt2:j<arr.size:=by omega
           have e3:fx[j]=arr[j]:=by simp [hfx]
           rw [e3];exact q4 j h1 hlt2⟩ hky
          have hk:=h.drew.kill bx
          have hBn:g.B s.boxes.length=none:=B_none h (Nat.le_refl _)
          have hle0:g.le (g.addB s.boxes.length w.heap.size):=addB_le hBn
          obtain ⟨hle1,hW1⟩:=hk.newBox (.cells arr2 e) rfl (.cells (cs++ys.flatten)) ⟨w.heap.size,arr2,e,(0,0),by simp [G.addB],heap_alloc_new _ _,by rw [hkk.1,harr];simp,
           fun j p1 p2=>by
            have hj:j<(fx++fy).length:=by rw [← hkk.1];exact p1
            have:=hkk.2 j p1 hj
            have e2:arr2[j]=(fx++fy)[j]:=by
             have:arr2[j]? = some (fx++fy)[j]:=by
              rw [harr,Array.getElem?_append_left (by simpa using hj)]
              rw [show fx.toArray++fy.toArray=(fx++fy).toArray by simp]
              simp only [List.getElem?_toArray];exact List.getElem?_eq_getElem hj
             rw [Array.getElem?_eq_getElem p2] at this;exact Option.some.inj this
            rw [e2];exact ⟨this.1.mono (by simpa using hle0),this.2⟩,fun o=>M_none h (Nat.le_refl _) o,rfl⟩
          obtain ⟨hle2,hW2⟩:=hW1.addS (heap_alloc_new _ _)
          refine ⟨.slice (some ⟨w.heap.size,0,none⟩) (n+ys.length) C,w.drew.alloc (.cells arr2 e),_,?_,hle1.trans hle2,by simpa using hW2,?_⟩
          ·have e1:=hry w.drew h.m
           have e2:=hrx w.drew rfl
           simp [Builtin.append_,run_underlying hu,run_underlying hu',sizeOf,typeInfo,hi,Builtin.lenOf,hroom,h63,hfit',hne,Question.forced,e1,e2,newRow,zeroValue,hiz]
           rw [show (Question.appendCap (n+ys.length) cap e).cut (w.tape w.drawn (Question.appendCap (n+ys.length) cap e))=C from hC]
           rw [harr]
           exact ⟨rfl,by congr 2;apply Array.ext';simp⟩
          ·refine .row _ _ _ _ w.heap.size arr2.size C (by simp [G.addB,G.addS]) (by simp [G.addS]) (by omega) (by simp [maxN];omega) hsz (by omega)
       ·cases he
      ·cases he
     ·cases he
    ·cases he
   ·cases he
  ·cases he
 ·cases he
theorem repl_get0 {zs:List D}:∀ (n j:Nat) (h:j<(List.replicate n zs).flatten.length),0<zs.length→∃ h2:j % zs.length<zs.length,(List.replicate n zs).flatten[j]=zs[j % zs.length]:=by
 intro n
 induction n with
 | zero=>intro j h;simp at h
 | succ n ih =>
  intro j h hz
  have h':j<zs.length+(List.replicate n zs).flatten.length:=by simpa [List.replicate_succ] using h
  refine ⟨Nat.mod_lt _ hz,?_⟩
  have e:(List.replicate (n+1) zs).flatten=zs++(List.replicate n zs).flatten:=by simp [List.replicate_succ]
  by_cases hj:j<zs.length
  ·have:(List.replicate (n+1) zs).flatten[j]? = zs[j]?:=by rw [e,List.getElem?_append_left hj]
   rw [List.getElem?_eq_getElem h,List.getElem?_eq_getElem hj] at this
   rw [Option.some.inj this]
   congr 1;exact (Nat.mod_eq_of_lt hj).symm
  ·obtain ⟨h2,e2⟩:=ih (j - zs.length) (by omega) hz
   have:(List.replicate (n+1) zs).flatten[j]? = (List.replicate n zs).flatten[j - zs.length]?:=by rw [e,List.getElem?_append_right (by omega)]
   rw [List.getElem?_eq_getElem h,List.getElem?_eq_getElem (by omega)] at this
   rw [Option.some.inj this,e2]
   congr 1
   rw [Nat.mod_eq_sub_mod (by omega:j ≥ zs.length)]
def evAppendM (P:Program) (T T':TypeId) (b off n c rsz:Nat) (y:D) (s:St):Option (D × St) :=
 match elemT P T,P.underlying T',y with
 | some (e,sz,by_,_),some (.int _),.int _ k=>match zeroT P e,s.boxes[b]? with
  | some zs,some (.cells cs)=>if zs.length=sz∧0<sz∧0<by_∧by_≤1000000∧rsz=sz∧0<k∧(c:Int)<n+k∧n+k≤1000000∧off+n * sz≤cs.length then
    some (.row s.boxes.length 0 (n+k.toNat) sz,{ s with boxes:=s.boxes++[.cells ((cs.drop off).take (n * sz)++(List.replicate k.toNat zs).flatten)] }) else none
  | _,_=>none
 | _,_,_=>none
theorem ok_appendM {P:Program} {w:World} {g:G} {s s':St} {T T' ty:TypeId} {b off n c rsz:Nat} {y d:D} {v u:Value} (h:WRel w g s) (hx:R g (.msl b off n c rsz) v) (hy:R g y u) (he:evAppendM P T T' b off n c rsz y s=some (d,s')) :
  Ok P (Builtin.append_ #[T,T'] ty #[v,u]) w g d s':=by
 unfold evAppendM at he
 split at he
 ·rename_i e sz by_ ag kn kq k h1 h2
  split at he
  ·rename_i zs cs hz hb
   split at he
   ·rename_i hc
    obtain ⟨c1,c2,c3,c4,rfl,c5,c6,c7,c8⟩:=hc
    cases he
    cases hy
    obtain ⟨hu,⟨i,hi,rfl,rfl⟩,_⟩:=elemT_some h1
    obtain ⟨z,hzv,hzok⟩:=zeroT_ok hz
    have hiz:i.zero=some z:=by simpa [zeroV,hi] using hzv
    have hzk:=hzok g
    have hzc:z.cells.size=i.size:=by have:=hzk.1;simp at this;omega
    obtain ⟨k,rfl⟩:∃ m:Nat,(m:Int)=k:=⟨k.toNat,by omega⟩
    simp only [Int.toNat_natCast] at *
    cases hx with
    | msl _ _ _ _ _ blk M hB hS hcap hz0 hM =>
     obtain ⟨blk',arr,T0,fr,q1,q2,q3,q4,q5⟩:=h.box b _ hb
     rw [hB] at q1;cases q1
     obtain ⟨fx,hfx⟩:∃ fx,fx=(arr.toList.drop off).take (n * i.size):=⟨_,rfl⟩
     have hfxl:fx.length=n * i.size:=by rw [hfx];simp;omega
     have hold:(Builtin.firstCells i.size n (.slice (some ⟨blk,off,none⟩) n c)).run P w.drew=.ok fx.toArray w.drew:=by
      refine run_firstCells_some _ _ _ _ _ _ fx hfxl (fun j v hj=>?_)
      rw [add_none]
      obtain ⟨hlt,rfl⟩:=List.getElem?_eq_some_iff.1 hj
      have hlt2:off+j<arr.size:=by rw [hfxl] at hlt;omega
      simp [World.cell?,show w.drew.heap=w.heap from rfl,q2,hlt2,hfx]
     have hfit:Builtin.nextslicecap (n+k) c * i.bytes≤281474976710656:=growslice_fits (by omega) (by
      calc (n+k) * i.bytes≤1000000 * 1000000:=Nat.mul_le_mul (by omega) c4
       _≤140737488355328:=by omega)
     have hkb:k * i.bytes≤281474976710656:=by
      calc k * i.bytes≤1000000 * 1000000:=Nat.mul_le_mul (by omega) c4
       _≤281474976710656:=by omega
     have hrun:=Lib.run_append_grow_zeros (P:=P) w T T' ty e i z kq kn hu h2 hi hiz (some ⟨blk,off,none⟩) n c fx hold k (by omega) c2 (by omega) (by omega) hkb hfit
     have hge:=grownCap_ge w (n+k) c e
     generalize hC:grownCap w (n+k) c e=C at hge hrun
     obtain ⟨arr2,harr⟩:∃ arr2,arr2=fx.toArray++Builtin.zeroCells z.cells k++Builtin.zeroCells z.cells (C - (n+k)):=⟨_,rfl⟩
     rw [← harr] at hrun
     have hasz:arr2.size=C * i.size:=by rw [harr];simp only [Array.size_append,List.size_toArray,hfxl,size_zeroCells,hzc,← Nat.add_mul];congr 1;omega
     have hlen:((cs.drop off).take (n * i.size)).length=n * i.size:=by simp;omega
     have hll:(n+k) * i.size≤C * i.size:=Nat.mul_le_mul_right _ hge
     have hrl:(List.replicate k zs).flatten.length=k * i.size:=by simp [c1]
     have hBn:g.B s.boxes.length=none:=B_none h (Nat.le_refl _)
     have hle0:g.le (g.addB s.boxes.length w.heap.size):=addB_le hBn
     obtain ⟨hle1,hW1⟩:=h.drew.newBox (.cells arr2 e) rfl (.cells ((cs.drop off).take (n * i.size)++(List.replicate k zs).flatten)) ⟨w.heap.size,arr2,e,(0,0),by simp [G.addB],heap_alloc_new _ _,by rw [List.length_append,hlen,hrl,hasz,← Nat.add_mul];exact hll,
      fun j p1 p2=>by
       by_cases hj:j<n * i.size
       ·have hja:off+j<arr.size:=by omega
        have hjc:off+j<cs.length:=by omega
        have:=q4 (off+j) hjc hja
        have e2:arr2[j]? = some arr[off+j]:=by
         rw [harr,Array.getElem?_append_left (by simp [hfxl];omega),Array.getElem?_append_left (by simp [hfxl];omega)]
         simp only [List.getElem?_toArray,hfx]
         rw [List.getElem?_take_of_lt hj,List.getElem?_drop]
         simp [hja]
        rw [Array.getElem?_eq_getElem p2] at e2
        rw [Option.some.inj e2,List.getElem_append_left (by rw [hlen];exact hj)]
        simp only [List.getElem_take,List.getElem_drop]
        exact ⟨this.1.mono (by simpa using hle0),this.2⟩
       ·have hj2:j - n * i.size<(List.replicate k zs).flatten.length:=by rw [List.length_append,hlen] at p1;omega
        obtain ⟨h3,e3⟩:=repl_get0 k (j - n * i.size) hj2 (by omega)
        have hjk:j - n * i.size<k * i.size:=by rw [← hrl];exact hj2
        have hm:(j - n * i.size) % i.size<z.cells.size:=by rw [hzc];exact Nat.mod_lt _ c2
        have e2:arr2[j]? = some z.cells[(j - n * i.size) % i.size]:=by
         rw [harr,Array.getElem?_append_left (by simp [hfxl,size_zeroCells,hzc];omega),Array.getElem?_append_right (by simp [hfxl];omega)]
         simp only [List.size_toArray,hfxl,Builtin.zeroCells,Array.getElem?_map,hzc]
         rw [Array.getElem?_range,if_pos (by omega)]
         simp only [Option.map_some,Option.some.injEq]
         exact getElem!_pos z.cells _ hm
        rw [Array.getElem?_eq_getElem p2] at e2
        rw [Option.some.inj e2,List.getElem_append_right (by rw [hlen];omega)]
        have:=hzk.2 ((j - n * i.size) % zs.length) h3 (by simp;omega)
        simp only [hlen,e3]
        simp only [c1,Array.getElem_toList] at this ⊢
        exact ⟨this.1.mono (by simpa using hle0),this.2⟩,fun o=>M_none h (Nat.le_refl _) o,rfl⟩
     obtain ⟨hle2,hW2⟩:=hW1.addS (heap_alloc_new _ _)
     refine ⟨.slice (some ⟨w.heap.size,0,none⟩) (n+k) C,w.drew.alloc (.cells arr2 e),_,hrun,hle1.trans hle2,by simpa using hW2,?_⟩
     exact .row _ _ _ _ w.heap.size arr2.size C (by simp [G.addB,G.addS]) (by simp [G.addS]) (by omega) (by simp [maxN];omega) c2 (by omega)
   ·cases he
  ·cases he
 ·cases he
def evAppend (P:Program) (T T':TypeId) (x y:D) (s:St):Option (D × St) :=
 match x with
 | .slice o xs=>evAppend0 P T T' (.slice o xs) y s
 | .msl b off n c rsz=>evAppendM P T T' b off n c rsz y s
 | x=>evAppendR P T T' x y s
theorem ok_append {P:Program} {w:World} {g:G} {s s':St} {T T' ty:TypeId} {x y d:D} {v u:Value} (h:WRel w g s) (hx:R g x v) (hy:R g y u) (he:evAppend P T T' x y s=some (d,s')) :
  Ok P (Builtin.append_ #[T,T'] ty #[v,u]) w g d s':=by
 unfold evAppend at he
 split at he
 ·exact ok_append0 h hx hy he
 ·exact ok_appendM h hx hy he
 ·exact ok_appendR h hx hy he
def evLen (P:Program) (T:TypeId) (x:D) (s:St):Option D :=
 match P.underlying T,x with
 | some (.slice _),.slice _ xs=>some (.int .i64 xs.length)
 | some (.slice _),.msl _ _ len _ _=>some (.int .i64 len)
 | some (.slice _),.row0=>some (.int .i64 0)
 | some (.slice _),.row _ _ n _=>some (.int .i64 n)
 | some .string,.str b=>some (.int .i64 b.size)
 | some (.map _ _),.nilm=>some (.int .i64 0)
 | some (.map _ _),.map b=>match s.boxes[b]? with
  | some (.map es)=>some (.int .i64 es.length)
  | _=>none
 | _,_=>none
theorem ok_len {P:Program} {w:World} {g:G} {s:St} {T ty:TypeId} {x d:D} {v:Value} (h:WRel w g s) (hx:R g x v) (he:evLen P T x s=some d) :
  Ok P (Builtin.len_ #[T] ty #[v]) w g d s:=by
 unfold evLen at he
 split at he
 ·rename_i e o xs hu
  cases he
  obtain ⟨a,cap,_,_,rfl,_⟩:=slice_fl hx
  exact ⟨_,w,g,by simp [Builtin.len_,run_underlying hu,goInt],.refl g,h,.int _ _⟩
 ·rename_i e b off len cap msz hu
  cases he
  cases hx
  exact ⟨_,w,g,by simp [Builtin.len_,run_underlying hu,goInt],.refl g,h,.int _ _⟩
 ·rename_i e hu
  cases he
  cases hx
  exact ⟨_,w,g,by simp [Builtin.len_,run_underlying hu,goInt],.refl g,h,.int _ _⟩
 ·rename_i e b off n sz hu
  cases he
  cases hx
  exact ⟨_,w,g,by simp [Builtin.len_,run_underlying hu,goInt],.refl g,h,.int _ _⟩
 ·rename_i b hu
  cases he
  cases hx
  exact ⟨_,w,g,by simp [Builtin.len_,run_underlying hu,goInt],.refl g,h,.int _ _⟩
 ·rename_i a b hu
  cases he
  cases hx
  exact ⟨_,w,g,by simp [Builtin.len_,run_underlying hu,goInt],.refl g,h,.int _ _⟩
 ·rename_i a b c hu
  split at he
  ·rename_i es hb
   cases he
   cases hx with
   | map _ r hB =>
    obtain ⟨b',ents,clock,h1,h2,h3,h4⟩:=h.box c _ hb
    rw [hB] at h1;cases h1
    exact ⟨.int .i64 es.length,w,g,by simp [Builtin.len_,run_underlying hu,getObj,Sem.run,h2,goInt,h3],.refl g,h,.int _ _⟩
  ·cases he
 ·cases he
def evIndexAddr0 (P:Program) (T:TypeId) (x i:D):Option D :=
 match elemT P T,x,i with
 | some (_,sz,_,_),.slice _ xs,.int _ n=>match (if 0≤n then xs[n.toNat]? else none) with
  | some c=>if c.length=sz then some (.pin c) else none
  | none=>none
 | some (_,sz,_,_),.msl b off len _ _,.int _ n=>if 0≤n∧n<len then some (.box b (off+n.toNat * sz)) else none
 | some (_,sz,_,_),.row b off len _,.int _ n=>if 0≤n∧n<len then some (.box b (off+n.toNat * sz)) else none
 | _,_,_=>none
theorem ok_indexAddr0 {P:Program} {w:World} {g:G} {s:St} {T:TypeId} {x i d:D} {v u:Value} (h:WRel w g s) (hx:R g x v) (hi:R g i u) (he:evIndexAddr0 P T x i=some d) :
  Ok P (Instr.indexAt T v u) w g d s:=by
 unfold evIndexAddr0 at he
 split at he
 ·rename_i e sz by_ ag o xs k n h1
  obtain ⟨hu,⟨inf,hinf,rfl,rfl⟩,_⟩:=elemT_some h1
  split at he
  ·rename_i c hc
   split at he
   ·rename_i hlen
    cases he
    split at hc
    ·rename_i hn
     obtain ⟨hlt,rfl⟩:=List.getElem?_eq_some_iff.1 hc
     cases hi
     cases hx with
     | slice _ _ a cap sz blk off val hc' hm ho hs ha hM hv hR =>
      have ha':=ha (by omega)
      subst ha'
      have hsz:sz=inf.size:=by rw [← hs _ hlt,hlen]
      subst hsz
      refine ⟨.pointer (some ⟨blk,off+n.toNat * inf.size,none⟩),w,g,?_,.refl g,h,.pin _ blk _ (fun j=>val n.toNat j) (fun j hj=>hM _ _ hlt (by omega)) (fun j hj=>hv _ _ hlt (by omega)) (fun j hj=>hR _ _ hlt hj)⟩
      have hn':n<(xs.length:Int):=by omega
      simp [Instr.indexAt,asIntOf,run_underlying hu,hn,hn',sizeOf,typeInfo,hinf,add_none]
    ·cases hc
   ·cases he
  ·cases he
 ·rename_i e sz by_ ag b off len cap msz k n h1
  obtain ⟨hu,⟨inf,hinf,rfl,rfl⟩,_⟩:=elemT_some h1
  split at he
  ·rename_i hn
   cases he
   cases hi
   cases hx with
   | msl _ _ _ _ _ blk m hB hS hc hz hm =>
    refine ⟨.pointer (some ⟨blk,off+n.toNat * inf.size,none⟩),w,g,?_,.refl g,h,.box _ _ _ hB⟩
    simp [Instr.indexAt,asIntOf,run_underlying hu,hn.1,hn.2,sizeOf,typeInfo,hinf,add_none]
  ·cases he
 ·rename_i e sz by_ ag b off len rsz k n h1
  obtain ⟨hu,⟨inf,hinf,rfl,rfl⟩,_⟩:=elemT_some h1
  split at he
  ·rename_i hn
   cases he
   cases hi
   cases hx with
   | row _ _ _ _ blk m cap hB hS hc hn' hz hm =>
    refine ⟨.pointer (some ⟨blk,off+n.toNat * inf.size,none⟩),w,g,?_,.refl g,h,.box _ _ _ hB⟩
    simp [Instr.indexAt,asIntOf,run_underlying hu,hn.1,hn.2,sizeOf,typeInfo,hinf,add_none]
  ·cases he
 ·cases he
def arrT (P:Program) (T:TypeId):Option (Nat × Nat) :=
 match P.underlying T with
 | some (.array n e)=>(sizeT P e).map fun z=>(n,z)
 | _=>none
def evIndexAddr (P:Program) (T:TypeId) (x i:D):Option D :=
 match x,i with
 | .box b off,.int _ n=>match arrT P T with
  | some (len,z)=>if 0≤n∧n<len then some (.box b (off+n.toNat * z)) else none
  | none=>none
 | .pin cs,.int _ n=>match arrT P T with
  | some (len,z)=>if 0≤n∧n<len then some (.pin (cs.drop (n.toNat * z))) else none
  | none=>none
 | x,i=>evIndexAddr0 P T x i
theorem run_indexArr {P:Program} {T:TypeId} {len z:Nat} {k:IntKind} {n:Int} {a:Addr} (ha:arrT P T=some (len,z)) (hn:0≤n∧n<len) (w:World):(Instr.indexAt T (.pointer (some a)) (.int k n)).run P w=.ok (.pointer (some (a.add (n.toNat * z)))) w:=by
 unfold arrT at ha
 split at ha
 ·rename_i m e hu
  obtain ⟨q,hq,e1⟩:=Option.map_eq_some_iff.1 ha
  cases e1
  simp [Instr.indexAt,asIntOf,run_underlying hu,Instr.sureAddr,hn.1,hn.2,run_sizeOf' hq]
 ·cases ha
theorem ok_indexAddr {P:Program} {w:World} {g:G} {s:St} {T:TypeId} {x i d:D} {v u:Value} (h:WRel w g s) (hx:R g x v) (hi:R g i u) (he:evIndexAddr P T x i=some d) :
  Ok P (Instr.indexAt T v u) w g d s:=by
 unfold evIndexAddr at he
 split at he
 ·rename_i b off k n
  split at he
  ·rename_i len z ha
   split at he
   ·rename_i hn
    cases he
    cases hi
    cases hx with
    | box _ _ blk hB =>
     refine ⟨_,w,g,run_indexArr ha hn w,.refl g,h,?_⟩
     rw [add_none]
     exact .box _ _ _ hB
   ·cases he
  ·cases he
 ·rename_i cs k n
  split at he
  ·rename_i len z ha
   split at he
   ·rename_i hn
    cases he
    cases hi
    cases hx with
    | pin _ blk off val hM hv hR =>
     refine ⟨_,w,g,run_indexArr ha hn w,.refl g,h,?_⟩
     rw [add_none]
     refine .pin _ blk _ (fun j=>val (n.toNat * z+j)) (fun j hj=>?_) (fun j hj=>hv _ (by simp at hj;omega)) (fun j hj=>?_)
     ·have:=hM (n.toNat * z+j) (by simp at hj;omega)
      rwa [← Nat.add_assoc] at this
     ·simp only [List.getElem_drop]
      exact hR _ (by simp at hj;omega)
   ·cases he
  ·cases he
 ·exact ok_indexAddr0 h hx hi he
def evIndex (P:Program) (T:TypeId) (x i:D):Option D :=
 match P.underlying T,x,i with
 | some .string,.str b,.int _ n=>match (if 0≤n then b[n.toNat]? else none) with
  | some c=>some (.int .u8 c.toNat)
  | none=>none
 | _,_,_=>none
theorem ok_index {P:Program} {w:World} {g:G} {s:St} {T:TypeId} {x i d:D} {v u:Value} (h:WRel w g s) (hx:R g x v) (hi:R g i u) (he:evIndex P T x i=some d) :
  Ok P (Instr.index T v u) w g d s:=by
 unfold evIndex at he
 split at he
 ·rename_i b k n hu
  split at he
  ·rename_i c hc
   cases he
   cases hx
   cases hi
   refine ⟨.int .u8 c.toNat,w,g,?_,.refl g,h,.int _ _⟩
   simp only [Instr.index,asIntOf,Sem.run_bind,Sem.run_pure,Result.andThen_ok,run_underlying hu]
   rw [hc]
   rfl
  ·cases he
 ·cases he
def evFill (place:Nat→Option (Nat × Nat)) (cs:List D):List (Nat × D)→Option (List D)
 | []=>some cs
 | (i,x)::rest =>
  match place i,cellsD x with
  | some (off,n),some ds=>if ds.length=n∧off+n≤cs.length then evFill place (storeD cs off (ds.map D.keep1)) rest else none
  | _,_=>none
theorem foldl_set {g:G}:∀ (us:List Value) (k off:Nat) (ds cs:List D) (vs:Array Value),CellsOk g cs vs.toList→CellsOk g ds us→off+k+ds.length≤cs.length →
  CellsOk g (setR cs (off+k) ds) ((us.zipIdx k).foldl (fun c x=>c.setIfInBounds (off+x.2) x.1) vs).toList∧((us.zipIdx k).foldl (fun c x=>c.setIfInBounds (off+x.2) x.1) vs).size=vs.size:=by
 intro us
 induction us with
 | nil =>
  intro k off ds cs vs h hd _
  have:ds=[]:=List.eq_nil_of_length_eq_zero (by rw [hd.1];rfl)
  subst this
  exact ⟨h,rfl⟩
 | cons u us ih =>
  intro k off ds cs vs h hd hl
  cases ds with
  | nil=>have:=hd.1;simp at this
  | cons d ds =>
   simp only [List.length_cons] at hl
   have h0:=hd.2 0 (by simp) (by simp)
   simp only [List.getElem_cons_zero] at h0
   have hcs:CellsOk g (cs.set (off+k) d) (vs.setIfInBounds (off+k) u).toList:=by
    refine ⟨by simpa using h.1,fun j h1 h2=>?_⟩
    simp only [Array.toList_setIfInBounds]
    by_cases e:off+k=j
    ·subst e;simp only [List.getElem_set_self];exact h0
    ·rw [List.getElem_set_ne e,List.getElem_set_ne e]
     exact h.2 j (by simpa using h1) (by simpa using h2)
   have:=ih (k+1) off ds (cs.set (off+k) d) (vs.setIfInBounds (off+k) u) hcs ⟨by have:=hd.1;simpa using this,fun j h1 h2=>hd.2 (j+1) (by simpa using h1) (by simpa using h2)⟩ (by simp;omega)
   refine ⟨by simpa [setR,List.zipIdx_cons,Nat.add_assoc] using this.1,by simpa [List.zipIdx_cons] using this.2⟩
theorem fill_ok {g:G} {place:Nat→Option (Nat × Nat)}:∀ (ps:List (Nat × D)) (qs:List (Nat × Value)) (cs cs':List D) (vs:Array Value),CellsOk g cs vs.toList →
  ps.length=qs.length→(∀ (j:Nat) (h1:j<ps.length) (h2:j<qs.length),ps[j].1=qs[j].1∧R g ps[j].2 qs[j].2)→evFill place cs ps=some cs' →
  ∃ vs',Instr.fill place vs qs=some vs'∧CellsOk g cs' vs'.toList:=by
 intro ps
 induction ps with
 | nil =>
  intro qs cs cs' vs h hl _ he
  cases qs with
  | nil=>cases he;exact ⟨vs,rfl,h⟩
  | cons q qs=>simp at hl
 | cons p ps ih =>
  intro qs cs cs' vs h hl hR he
  cases qs with
  | nil=>simp at hl
  | cons q qs =>
   obtain ⟨i,x⟩:=p
   obtain ⟨i',v⟩:=q
   have h0:=hR 0 (by simp) (by simp)
   simp only [List.getElem_cons_zero] at h0
   obtain ⟨rfl,hx⟩:=h0
   simp only [evFill] at he
   split at he
   ·rename_i off n ds hp hd
    split at he
    ·rename_i hcond
     have hk:=(cellsD_ok hx hd).keep1
     have hsz:v.cells.size=n:=by have:=hk.1;simp at this;omega
     have hvs:vs.size=cs.length:=by have:=h.1;simp at this;exact this.symm
     obtain ⟨f1,f2⟩:=foldl_set v.cells.toList 0 off (ds.map D.keep1) cs vs h hk (by simp;omega)
     rw [storeD_eq _ _ _ (by simp;omega)] at he
     obtain ⟨vs',e1,e2⟩:=ih qs _ cs' _ (by simpa using f1) (by simpa using hl) (fun j h1 h2=>hR (j+1) (by simpa using h1) (by simpa using h2)) he
     refine ⟨vs',?_,e2⟩
     simp only [Instr.fill,hp]
     rw [if_neg (by simp [hsz,hvs];omega)]
     rw [← e1]
     congr 1
     rw [← Array.foldl_toList,Array.toList_zipIdx]
    ·cases he
   ·cases he
def partsOk (g:G) (ps:List (Nat × D)) (qs:Array (Nat × Value)):Prop :=
 ps.length=qs.size∧∀ (j:Nat) (h1:j<ps.length) (h2:j<qs.size),ps[j].1=qs[j].1∧R g ps[j].2 qs[j].2
def placeT (P:Program) (T:TypeId) (f:Nat):Option (Nat × Nat):=match P.underlying T with
 | some (.array _ e)=>(sizeT P e).map fun z=>(f * z,z)
 | _=>(fieldT P T f).map fun x=>(x.1,x.2.1)
theorem run_places {P:Program} (w:World):∀ (fs:List Field) (_:∀ f ∈ fs,(sizeT P f.type).isSome=true),
  (fs.mapM (fun f=>do pure (f.offset,← sizeOf f.type):Field→Sem (Nat × Nat))).run P w=.ok (fs.map fun f=>(f.offset,(sizeT P f.type).getD 0)) w
 | [],_=>by simp
 | f::fs,h=>by
  obtain ⟨n,hn⟩:=Option.isSome_iff_exists.1 (h f (by simp))
  have ih:=run_places w fs (fun f hf=>h f (by simp [hf]))
  rw [List.mapM_cons]
  simp only [Sem.run_bind,run_sizeOf' hn,Result.andThen_ok,Sem.run_pure,ih,List.map_cons,hn,Option.getD_some]
def structOkT (P:Program) (T:TypeId):Bool :=
 match P.underlying T with
 | some (.struct fs)=>fs.toList.all fun f=>(sizeT P f.type).isSome && (isAggT P f.type).isSome
 | some (.array _ e)=>(sizeT P e).isSome
 | _=>false
def evBuild (P:Program) (T:TypeId) (ps:List (Nat × D)):Option D :=
 if structOkT P T then match zeroT P T with
  | some zs=>match evFill (placeT P T) zs ps with
   | some cs=>some (.agg cs)
   | none=>none
  | none=>none
 else none
theorem ok_build {P:Program} {w:World} {g:G} {s:St} {T:TypeId} {ps:List (Nat × D)} {qs:Array (Nat × Value)} {d:D} (h:WRel w g s) (hp:partsOk g ps qs) (he:evBuild P T ps=some d) :
  Ok P (Instr.build T qs) w g d s:=by
 unfold evBuild at he
 split at he
 ·rename_i hst
  split at he
  ·rename_i zs hz
   split at he
   ·rename_i cs hf
    cases he
    obtain ⟨z,hzv,hzok⟩:=zeroT_ok hz
    unfold structOkT at hst
    split at hst
    ·rename_i fs hu
     have hall:=List.all_eq_true.1 hst
     obtain ⟨vs',e1,e2⟩:=fill_ok ps qs.toList zs cs z.cells (hzok g) (by simpa using hp.1) (fun j h1 h2=>by
      have:=hp.2 j h1 (by simpa using h2);simpa using this) hf
     refine ⟨.agg vs',w,g,?_,.refl g,h,?_⟩
     ·have hpl:=run_places (P:=P) w fs.toList (fun f hf=>by have:=hall f hf;simp at this;simp [this.1])
      have hpl':(fs.mapM (fun f=>do pure (f.offset,← sizeOf f.type):Field→Sem (Nat × Nat))).run P w=.ok (fs.map fun f=>(f.offset,(sizeT P f.type).getD 0)) w:=by
       rw [Array.mapM_eq_mapM_toList]
       simp only [Sem.run_map,hpl,Result.andThen_ok]
       congr 1
       apply Array.ext';simp
      have hplace:(fun i=>(fs.map fun f=>(f.offset,(sizeT P f.type).getD 0))[i]?)=placeT P T:=by
       funext i
       simp only [placeT,fieldT,hu,Array.getElem?_map]
       cases hfi:fs[i]? with
       | none=>simp
       | some f =>
        have hm:f ∈ fs.toList:=by
         obtain ⟨hlt,rfl⟩:=Array.getElem?_eq_some_iff.1 hfi;simp
        have:=hall f hm
        simp only [Bool.and_eq_true] at this
        obtain ⟨n,hn⟩:=Option.isSome_iff_exists.1 this.1
        obtain ⟨a,ha⟩:=Option.isSome_iff_exists.1 this.2
        simp [hn,ha]
      simp only [Instr.build,Sem.run_bind,run_zeroV hzv,Result.andThen_ok,run_underlying hu,hpl',hplace,e1,Sem.run_pure]
     ·exact e2.agg
    ·rename_i m e hu
     obtain ⟨q,hq⟩:=Option.isSome_iff_exists.1 hst
     obtain ⟨vs',e1,e2⟩:=fill_ok ps qs.toList zs cs z.cells (hzok g) (by simpa using hp.1) (fun j h1 h2=>by
      have:=hp.2 j h1 (by simpa using h2);simpa using this) hf
     refine ⟨.agg vs',w,g,?_,.refl g,h,?_⟩
     ·have hplace:(fun i=>some (i * q,q))=placeT P T:=by
       funext i
       simp only [placeT,hu,hq,Option.map_some]
      simp only [Instr.build,Sem.run_bind,run_zeroV hzv,Result.andThen_ok,run_underlying hu,run_sizeOf' hq,hplace,e1,Sem.run_pure]
     ·exact e2.agg
    ·cases hst
   ·cases he
  ·cases he
 ·cases he
def evParts (sz:Nat) (k:Nat):List (Nat × D)→Option (List (List D))
 | []=>some []
 | (i,x)::rest =>
  match cellsD x with
  | some ds=>if i=k∧ds.length=sz then match evParts sz (k+1) rest with
    | some r=>some (ds.map D.plain1::r)
    | none=>none
   else none
  | none=>none
theorem evParts_sz {sz:Nat}:∀ (ps:List (Nat × D)) (k:Nat) (r:List (List D)),evParts sz k ps=some r→(∀ x ∈ r,x.length=sz)∧r.length=ps.length:=by
 intro ps
 induction ps with
 | nil=>intro k r h;cases h;simp
 | cons p ps ih =>
  intro k r h
  obtain ⟨i,x⟩:=p
  simp only [evParts] at h
  split at h
  ·split at h
   ·rename_i hc
    split at h
    ·rename_i ds _ r' hr
     cases h
     have:=ih _ _ hr
     refine ⟨fun y hy=>?_,by simp [this.2]⟩
     rcases List.mem_cons.1 hy with rfl | hy
     ·simp [hc.2]
     ·exact this.1 y hy
    ·cases h
   ·cases h
  ·cases h
theorem setR_mid (ds:List D):∀ (pre cs:List D),ds.length≤cs.length→setR (pre++cs) pre.length ds=pre++(ds++cs.drop ds.length):=by
 intro pre cs h
 rw [← storeD_eq _ _ _ (by simp;omega)]
 simp [storeD,List.drop_append]
theorem fill_parts {g:G} {sz:Nat}:∀ (ps:List (Nat × D)) (qs:List (Nat × Value)) (k:Nat) (r:List (List D)) (pre:List D) (vs:Array Value) (post:List D),
  CellsOk g (pre++post) vs.toList→pre.length=k * sz→post.length=ps.length * sz→ps.length=qs.length →
  (∀ (j:Nat) (h1:j<ps.length) (h2:j<qs.length),ps[j].1=qs[j].1∧R g ps[j].2 qs[j].2)→evParts sz k ps=some r →
  ∃ vs',Instr.fill (fun i=>some (i * sz,sz)) vs qs=some vs'∧CellsOk g (pre++r.flatten) vs'.toList:=by
 intro ps
 induction ps with
 | nil =>
  intro qs k r pre vs post h hpre hpost hl hR he
  cases qs with
  | cons q qs=>simp at hl
  | nil =>
   cases he
   have:post=[]:=List.eq_nil_of_length_eq_zero (by simpa using hpost)
   subst this
   exact ⟨vs,rfl,by simpa using h⟩
 | cons p ps ih =>
  intro qs k r pre vs post h hpre hpost hl hR he
  cases qs with
  | nil=>simp at hl
  | cons q qs =>
   obtain ⟨i,x⟩:=p
   obtain ⟨i',v⟩:=q
   have h0:=hR 0 (by simp) (by simp)
   simp only [List.getElem_cons_zero] at h0
   obtain ⟨rfl,hx⟩:=h0
   simp only [evParts] at he
   split at he
   ·rename_i ds hd
    split at he
    ·rename_i hcond
     obtain ⟨rfl,hdl⟩:=hcond
     split at he
     ·rename_i r' hr'
      cases he
      have hk:=(cellsD_ok hx hd).plain
      have hpl:ds.length≤post.length:=by rw [hpost,hdl,List.length_cons,Nat.succ_mul];omega
      have hsz:v.cells.size=sz:=by have:=hk.1;simp at this;omega
      have hvs:vs.size=pre.length+post.length:=by have:=h.1;simp at this;omega
      obtain ⟨f1,f2⟩:=foldl_set v.cells.toList 0 (i * sz) (ds.map D.plain1) (pre++post) vs h hk (by simp;omega)
      rw [Nat.add_zero,← hpre,setR_mid _ _ _ (by simpa using hpl)] at f1
      have f1':CellsOk g ((pre++ds.map D.plain1)++post.drop ds.length) ((v.cells.toList.zipIdx 0).foldl (fun c x=>c.setIfInBounds (pre.length+x.2) x.1) vs).toList:=by
       simpa using f1
      obtain ⟨vs',e1,e2⟩:=ih qs (i+1) r' _ _ _ f1' (by simp [hpre,hdl,Nat.succ_mul]) (by simp [hpost,hdl,Nat.succ_mul]) (by simpa using hl)
       (fun j h1 h2=>hR (j+1) (by simpa using h1) (by simpa using h2)) hr'
      refine ⟨vs',?_,by simpa using e2⟩
      simp only [Instr.fill]
      rw [if_neg (by simp only [hsz,hvs,← hpre,ne_eq,not_true_eq_false,gt_iff_lt,Bool.or_eq_true,decide_eq_true_eq,false_or];omega)]
      rw [← e1]
      congr 1
      rw [← Array.foldl_toList,Array.toList_zipIdx,hpre]
     ·cases he
    ·cases he
   ·cases he
def evBuildSlice (P:Program) (T:TypeId) (len:Nat) (ps:List (Nat × D)):Option D :=
 match elemT P T with
 | some (e,sz,_,_)=>match zeroT P e with
  | some zs=>if len * sz≤16777216∧ps.length=len∧len≤1000000∧zs.length=sz then match evParts sz 0 ps with
   | some r=>some (.slice .full r)
   | none=>none
   else none
  | none=>none
 | none=>none
theorem ok_buildSlice {P:Program} {w:World} {g:G} {s:St} {T:TypeId} {len:Nat} {ps:List (Nat × D)} {qs:Array (Nat × Value)} {d:D} (h:WRel w g s) (hp:partsOk g ps qs)
    (he:evBuildSlice P T len ps=some d):Ok P (Instr.buildSlice T len qs) w g d s:=by
  unfold evBuildSlice at he
  split at he
  · rename_i e sz by_ ag h1
    obtain ⟨hu,⟨inf,hinf,rfl,rfl⟩,_⟩:=elemT_some h1
    split at he
    · rename_i zs hz
      split at he
      · rename_i hcond
        obtain ⟨hbig,hlen,hmax,hzs⟩:=hcond
        split at he
        · rename_i r hr
          cases he
          obtain ⟨hrs,hrl⟩:=evParts_sz _ _ _ hr
          obtain ⟨z,hzv,hzok⟩:=zeroT_ok hz
          have hzc:z.cells.size=inf.size:=by have:=(hzok g).1;simp at this;omega
          have hgen:∀ z0:Array Value,(len * inf.size≠0→z0=z.cells)→∃ cells,Instr.fill (fun i=>some (i * inf.size,inf.size)) ((Array.range (len * inf.size)).map (z0[· % z0.size]!)) qs.toList=some cells∧CellsOk g r.flatten cells.toList:=by
            intro z0 hz0
            have:=fill_parts (g:=g) (sz:=inf.size) ps qs.toList 0 r [] ((Array.range (len * inf.size)).map (z0[· % z0.size]!)) (List.replicate (len * inf.size) .junk)
              ⟨by simp,fun j x1 x2=>by
                simp only [List.nil_append,List.getElem_replicate]
                refine ⟨.junk _,?_⟩
                have hj:j<len * inf.size:=by simpa using x1
                have hz0':=hz0 (by omega)
                have hpos : 0 < inf.size := by rcases Nat.eq_zero_or_pos inf.size with e | e; · rw [e] at hj; simp at hj
                                               · exact e
                have hlt:j % inf.size<z.cells.size:=by rw [hzc];exact Nat.mod_lt _ hpos
                simp only [Array.toList_map,List.getElem_map,Array.toList_range,List.getElem_range,hz0',hzc]
                rw [getElem!_pos z.cells _ hlt]
                exact ((hzok g).get (j % inf.size) (by have:=(hzok g).1;simp at this;omega) hlt).2⟩
              (by simp) (by simp [hlen]) (by simpa using hp.1) (fun j x1 x2=>by have:=hp.2 j x1 (by simpa using x2);simpa using this) hr
            simpa using this
          have hfin:∀ cells:Array Value,CellsOk g r.flatten cells.toList→∃ g',g.le g'∧WRel (w.alloc (.cells cells e)) g' s∧R g' (.slice .full r) (.slice (some ⟨w.heap.size,0,none⟩) len len):=by
            intro cells hk
            obtain ⟨hle,hW⟩:=h.newCells cells e (fun o=>cells[o]?) (fun _ _ h=>h)
            refine ⟨_,hle,hW,slice_mk' (by omega) (Nat.le_refl _) (by simp [maxN];omega) rfl hrs (hk.mono hle) (fun _=>⟨w.heap.size,0,rfl,fun j u hj=>?_⟩)⟩
            simp only [G.addM,Nat.zero_add,if_true]
            simpa using hj
          by_cases hzero:len * inf.size=0
          · obtain ⟨cells,e1,e2⟩:=hgen #[] (fun h=>absurd hzero h)
            obtain ⟨g',hle,hW,hR⟩:=hfin cells e2
            refine ⟨_,_,g',?_,hle,hW,hR⟩
            simp only [Instr.buildSlice,Sem.run_bind,run_underlying hu,Result.andThen_ok,run_sizeOf' (show sizeT P e=some inf.size by simp [sizeT,hinf])]
            rw [if_neg (by omega),if_pos hzero]
            simp only [Sem.run_bind,Sem.run_pure,Result.andThen_ok,e1,newRow,run_newObj,World.alloc_eq]
          · obtain ⟨cells,e1,e2⟩:=hgen z.cells (fun _=>rfl)
            obtain ⟨g',hle,hW,hR⟩:=hfin cells e2
            refine ⟨_,_,g',?_,hle,hW,hR⟩
            simp only [Instr.buildSlice,Sem.run_bind,run_underlying hu,Result.andThen_ok,run_sizeOf' (show sizeT P e=some inf.size by simp [sizeT,hinf])]
            rw [if_neg (by omega),if_neg hzero]
            simp only [Sem.run_bind,run_zeroV hzv,Sem.run_pure,Result.andThen_ok,e1,newRow,run_newObj,World.alloc_eq]
        · cases he
      · cases he
    · cases he
  · cases he
def evInt (op:BinOp) (k:IntKind) (a b:Int):Option D :=
 match op with
 | .add=>some (.int k (k.wrap (a+b)))
 | .sub=>some (.int k (k.wrap (a - b)))
 | .mul=>some (.int k (k.wrap (a * b)))
 | .quo=>if b=0 then none else some (.int k (k.wrap (a.tdiv b)))
 | .rem=>if b=0 then none else some (.int k (a.tmod b))
 | .and=>some (.int k (bits .and k a b))
 | .or=>some (.int k (bits .or k a b))
 | .xor=>some (.int k (bits .xor k a b))
 | .andNot=>some (.int k (bits .andNot k a b))
 | .eql=>some (.bool (a == b))
 | .neq=>some (.bool (a != b))
 | .lss=>some (.bool (decide (a<b)))
 | .leq=>some (.bool (decide (a≤b)))
 | .gtr=>some (.bool (decide (a > b)))
 | .geq=>some (.bool (decide (a ≥ b)))
 | _=>none
def evShift (op:BinOp) (k:IntKind) (a b:Int):Option D :=
 if b<0 then none else match op with
 | .shl=>some (.int k (k.wrap (a * 2 ^ (min b.toNat k.bits))))
 | .shr=>some (.int k (a.fdiv (2 ^ (min b.toNat k.bits))))
 | _=>none
inductive Prim where
 | int | bool | str
 deriving DecidableEq
def primT (P:Program) (t:TypeId):Option Prim :=
 match P.underlying t with
 | some (.int _)=>some .int
 | some .bool=>some .bool
 | some .string=>some .str
 | _=>none
def eqT0 (P:Program) (t:TypeId):Option (List (Nat × Prim)) :=
 if P.eqGuardType P.depth t=false∧P.stoodInHeld t=false then
  match P.underlying t with
  | some (.struct fs) => fs.toList.mapM fun f => if f.name ≠ "_" then (primT P f.type).map fun p => (f.offset,p) else none
  | _=>none
 else none
def nestT (P:Program) (f:Field):Option (List (Nat × Prim)) :=
 match isAggT P f.type,sizeT P f.type,eqT0 P f.type with
 | some true,some z,some ps=>if ps.all (fun q=>decide (q.1<z)) then some (ps.map fun q=>(f.offset+q.1,q.2)) else none
 | _,_,_=>none
def fieldP (P:Program) (f:Field):Option (List (Nat × Prim)) :=
 if f.name ≠ "_" then match primT P f.type with
  | some p=>some [(f.offset,p)]
  | none=>nestT P f
 else none
def eqT (P:Program) (t:TypeId):Option (List (Nat × Prim)) :=
 if P.eqGuardType P.depth t=false∧P.stoodInHeld t=false then
  match P.underlying t with
  | some (.struct fs)=>(fs.toList.mapM (fieldP P)).map List.flatten
  | _=>none
 else none
def eqPrim (p:Prim) (x y:Option D):Option Bool :=
 match p with
 | .int=>match x,y with
  | some (.int k a),some (.int k' b)=>if k=k' then some (a == b) else none
  | _,_=>none
 | .bool=>match x,y with
  | some (.bool a),some (.bool b)=>some (a == b)
  | _,_=>none
 | .str=>match x,y with
  | some (.str a),some (.str b)=>some (a.toList == b.toList)
  | _,_=>none
def eqParts (xs ys:List D):List (Nat × Prim)→Option Bool
 | []=>some true
 | (o,p)::rest=>match eqPrim p xs[o]? ys[o]?,eqParts xs ys rest with
  | some a,some b=>some (a && b)
  | _,_=>none
theorem eqPrim_ok {P:Program} {t:TypeId} {p:Prim} {g:G} {x y:D} {u v:Value} {r:Bool} (hp:primT P t=some p) (hx:R g x u) (hy:R g y v) (h:eqPrim p (some x) (some y)=some r) (n:Nat) (w:World) :
  (Op.equalIn (n+1) t u v).run P w=.ok r w:=by
 unfold primT at hp
 split at hp
 ·rename_i k hu
  cases hp
  simp only [eqPrim] at h
  split at h
  ·rename_i k1 a k2 b e1 e2
   cases e1;cases e2
   split at h
   ·rename_i hk;subst hk;cases h;cases hx;cases hy;exact run_equalIn_int w n t _ _ _ _ hu
   ·cases h
  ·cases h
 ·rename_i hu
  cases hp
  simp only [eqPrim] at h
  split at h
  ·rename_i a b e1 e2
   cases e1;cases e2;cases h;cases hx;cases hy;exact run_equalIn_bool' w n t _ _ hu
  ·cases h
 ·rename_i hu
  cases hp
  simp only [eqPrim] at h
  split at h
  ·rename_i a b e1 e2
   cases e1;cases e2;cases h;cases hx;cases hy;exact run_equalIn_string w n t _ _ hu
  ·cases h
 ·cases hp
theorem eqFields_ok {P:Program} {g:G} {xs ys:List D} {us vs:Array Value} (hx:CellsOk g xs us.toList) (hy:CellsOk g ys vs.toList) (n:Nat) (w:World) :
  ∀ (fs:List Field) (ps:List (Nat × Prim)) (r:Bool),(fs.mapM fun f => if f.name ≠ "_" then (primT P f.type).map fun p => (f.offset,p) else none) = some ps→eqParts xs ys ps = some r →
   (Op.eqFields (n+1) us vs fs).run P w=.ok r w:=by
 intro fs
 induction fs with
 | nil=>intro ps r h he;simp at h;subst h;cases he;rfl
 | cons f fs ih =>
  intro ps r h he
  simp only [List.mapM_cons] at h
  split at h
  ·rename_i hname
   cases hpr:primT P f.type with
   | none=>rw [hpr] at h;cases h
   | some p =>
    rw [hpr] at h
    cases hrest:(fs.mapM fun f => if f.name ≠ "_" then (primT P f.type).map fun p => (f.offset,p) else none) with
    | none=>rw [hrest] at h;cases h
    | some ps' =>
     rw [hrest] at h
     cases h
     simp only [eqParts] at he
     split at he
     ·rename_i a b ha hb
      cases he
      have ih':=ih ps' b hrest hb
      cases hxo:xs[f.offset]? with
      | none=>rw [hxo] at ha;cases p <;> simp [eqPrim] at ha
      | some x =>
       cases hyo:ys[f.offset]? with
       | none=>rw [hxo,hyo] at ha;cases p <;> cases x <;> simp [eqPrim] at ha
       | some y =>
        rw [hxo,hyo] at ha
        obtain ⟨hl1,rfl⟩:=List.getElem?_eq_some_iff.1 hxo
        obtain ⟨hl2,rfl⟩:=List.getElem?_eq_some_iff.1 hyo
        have hs1:f.offset<us.size:=by have:=hx.1;simp at this;omega
        have hs2:f.offset<vs.size:=by have:=hy.1;simp at this;omega
        have hag:isAggT P f.type=some false:=by
         unfold primT at hpr;unfold isAggT
         split at hpr <;> simp_all
        have e:=eqPrim_ok hpr (hx.get _ hl1 hs1).1 (hy.get _ hl2 hs2).1 ha n w
        simp only [Op.eqFields]
        rw [if_pos hname]
        simp only [part,Sem.run_bind,run_isAgg hag,Result.andThen_ok,Bool.false_eq_true,if_false,Array.getElem?_eq_getElem hs1,Array.getElem?_eq_getElem hs2,Sem.run_pure,e]
        cases a
        ·simp
        ·simp [ih']
     ·cases he
  ·cases h
theorem eqParts_app {xs ys:List D}:∀ (l m:List (Nat × Prim)) {r:Bool},eqParts xs ys (l++m)=some r→∃ a b,eqParts xs ys l=some a∧eqParts xs ys m=some b∧r=(a && b)
 | [],m,r,h=>⟨true,r,rfl,h,by simp⟩
 | (o,p)::l,m,r,h=>by
  simp only [List.cons_append,eqParts] at h
  split at h
  ·rename_i a b ha hb
   cases h
   obtain ⟨c,d,h1,h2,rfl⟩:=eqParts_app l m hb
   exact ⟨a && c,d,by simp only [eqParts,ha,h1],h2,by rw [Bool.and_assoc]⟩
  ·cases h
theorem eqParts_shift {xs ys:List D} {off z:Nat}:∀ (ps:List (Nat × Prim)),(∀ q ∈ ps,q.1<z)→eqParts xs ys (ps.map fun q=>(off+q.1,q.2))=eqParts ((xs.drop off).take z) ((ys.drop off).take z) ps
 | [],_=>rfl
 | (o,p)::ps,h=>by
  have ho:o<z:=h (o,p) (by simp)
  simp only [List.map_cons,eqParts]
  rw [eqParts_shift ps fun q hq=>h q (by simp [hq])]
  simp only [List.getElem?_take,if_pos ho,List.getElem?_drop]
theorem extract_toList (us:Array Value) (off z:Nat):(us.extract off (off+z)).toList=(us.toList.drop off).take z:=by
 rw [Array.toList_extract]
 simp only [List.extract]
 rw [show off+z - off=z by omega]
theorem eqFields2_ok {P:Program} {g:G} {xs ys:List D} {us vs:Array Value} (hx:CellsOk g xs us.toList) (hy:CellsOk g ys vs.toList) (n:Nat) (w:World) :
  ∀ (fs:List Field) (pss:List (List (Nat × Prim))) (r:Bool),fs.mapM (fieldP P)=some pss→eqParts xs ys pss.flatten=some r→(Op.eqFields (n+2) us vs fs).run P w=.ok r w:=by
 intro fs
 induction fs with
 | nil=>intro pss r h he;simp at h;subst h;cases he;rfl
 | cons f fs ih =>
  intro pss r h he
  simp only [List.mapM_cons] at h
  cases hf:fieldP P f with
  | none=>rw [hf] at h;cases h
  | some ps =>
   rw [hf] at h
   cases hrest:fs.mapM (fieldP P) with
   | none=>rw [hrest] at h;cases h
   | some pss' =>
    rw [hrest] at h
    cases h
    rw [List.flatten_cons] at he
    obtain ⟨a,b,ha,hb,rfl⟩:=eqParts_app _ _ he
    have ih':=ih pss' b hrest hb
    unfold fieldP at hf
    split at hf
    ·rename_i hname
     simp only [Op.eqFields]
     rw [if_pos hname]
     split at hf
     ·rename_i p hpr
      cases hf
      simp only [eqParts] at ha
      split at ha
      ·rename_i a1 b1 ha1 hb1
       cases ha;cases hb1
       cases hxo:xs[f.offset]? with
       | none=>rw [hxo] at ha1;cases p <;> simp [eqPrim] at ha1
       | some x =>
        cases hyo:ys[f.offset]? with
        | none=>rw [hxo,hyo] at ha1;cases p <;> cases x <;> simp [eqPrim] at ha1
        | some y =>
         rw [hxo,hyo] at ha1
         obtain ⟨hl1,rfl⟩:=List.getElem?_eq_some_iff.1 hxo
         obtain ⟨hl2,rfl⟩:=List.getElem?_eq_some_iff.1 hyo
         have hs1:f.offset<us.size:=by have:=hx.1;simp at this;omega
         have hs2:f.offset<vs.size:=by have:=hy.1;simp at this;omega
         have hag:isAggT P f.type=some false:=by
          unfold primT at hpr;unfold isAggT
          split at hpr <;> simp_all
         have e:=eqPrim_ok hpr (hx.get _ hl1 hs1).1 (hy.get _ hl2 hs2).1 ha1 (n+1) w
         simp only [part,Sem.run_bind,run_isAgg hag,Result.andThen_ok,Bool.false_eq_true,if_false,Array.getElem?_eq_getElem hs1,Array.getElem?_eq_getElem hs2,Sem.run_pure,e,Bool.and_true]
         cases a1
         ·simp
         ·simp [ih']
      ·cases ha
     ·unfold nestT at hf
      split at hf
      ·rename_i z ps0 hag hz hps
       split at hf
       ·rename_i hall
        cases hf
        have hlt:∀ q ∈ ps0,q.1<z:=fun q hq=>of_decide_eq_true (List.all_eq_true.1 hall q hq)
        rw [eqParts_shift ps0 hlt] at ha
        unfold eqT0 at hps
        split at hps
        ·rename_i hg
         cases hu:P.underlying f.type with
         | none=>rw [hu] at hps;cases hps
         | some t =>
          rw [hu] at hps
          cases t with
          | struct gs =>
           have hfo:P.fieldsOf f.type=gs:=by simp [Program.fieldsOf,hu]
           have hx':CellsOk g ((xs.drop f.offset).take z) (us.extract f.offset (f.offset+z)).toList:=by rw [extract_toList];exact (hx.drop _).take _
           have hy':CellsOk g ((ys.drop f.offset).take z) (vs.extract f.offset (f.offset+z)).toList:=by rw [extract_toList];exact (hy.drop _).take _
           have e:=eqFields_ok hx' hy' n w gs.toList ps0 a hps ha
           have e2:=run_equalIn_struct w (n+1) f.type (us.extract f.offset (f.offset+z)) (vs.extract f.offset (f.offset+z)) (by rw [hfo];exact hu) hg.2
           rw [hfo,e] at e2
           have k1:(isAgg f.type).run P w=.ok true w:=run_isAgg hag w
           have k2:(sizeOf f.type).run P w=.ok z w:=run_sizeOf' hz w
           simp only [part,Sem.run_bind,k1,k2,Result.andThen_ok,if_true,Sem.run_pure,e2]
           cases a
           ·simp
           ·simp [ih']
          | _=>cases hps
        ·cases hps
       ·cases hf
      ·cases hf
    ·cases hf
def nilPtr:D→Option Bool
 | .nilp=>some true
 | .box _ _=>some false
 | .pin _=>some false
 | _=>none
def nilFn:D→Option Bool
 | .nilf=>some true
 | .func _ _ _=>some false
 | _=>none
def nilMap:D→Option Bool
 | .nilm=>some true
 | .map _=>some false
 | _=>none
def nilSl:D→Option Bool
 | .slice o xs=>if o=.nil then some true else if 0<xs.length then some false else none
 | .msl _ _ _ _ _=>some false
 | _=>none
theorem nilPtr_ok {g:G} {x:D} {u:Value} {b:Bool} (hx:R g x u) (h:nilPtr x=some b):∃ a,u=.pointer a∧a.isNone=b:=by
 cases hx <;> cases h <;> exact ⟨_,rfl,rfl⟩
theorem nilFn_ok {g:G} {x:D} {u:Value} {b:Bool} (hx:R g x u) (h:nilFn x=some b):(u=.nilFunc∧b=true)∨(∃ f a c,u=.func f a c)∧b=false:=by
 cases hx <;> cases h <;> first | exact .inl ⟨rfl,rfl⟩ | exact .inr ⟨⟨_,_,_,rfl⟩,rfl⟩
theorem nilMap_ok {g:G} {x:D} {u:Value} {b:Bool} (hx:R g x u) (h:nilMap x=some b):∃ a,u=.map a∧a.isNone=b:=by
 cases hx <;> cases h <;> exact ⟨_,rfl,rfl⟩
theorem nilSl_ok {g:G} {x:D} {u:Value} {b:Bool} (hx:R g x u) (h:nilSl x=some b):∃ a l c,u=.slice a l c∧a.isNone=b:=by
 cases hx with
 | slice o xs a cap sz blk off val hc hm ho hs ha hM hv hR =>
  simp only [nilSl] at h
  split at h
  ·rename_i e;subst e;cases h;exact ⟨a,_,_,rfl,by rw [ho.1];rfl⟩
  ·split at h
   ·rename_i e;cases h;exact ⟨a,_,_,rfl,by rw [ha e];rfl⟩
   ·cases h
 | msl=>cases h;exact ⟨_,_,_,rfl,rfl⟩
 | _=>cases h
def isNilConst:D→Bool
 | .nilp=>true
 | .nilf=>true
 | .nilm=>true
 | .slice .nil []=>true
 | _=>false
def evEq (P:Program) (T:TypeId) (x y:D):Option Bool :=
 match P.underlying T with
 | some .bool=>match x,y with
  | .bool a,.bool b=>some (a == b)
  | _,_=>none
 | some (.pointer _)=>if isNilConst y then (nilPtr y).bind fun _=>nilPtr x else if isNilConst x then (nilPtr x).bind fun _=>nilPtr y else none
 | some (.func _ _ _)=>if isNilConst y then (nilFn y).bind fun _=>nilFn x else none
 | some (.slice _)=>if isNilConst y then (nilSl y).bind fun _=>nilSl x else none
 | some (.map _ _)=>if isNilConst y then (nilMap y).bind fun _=>nilMap x else none
 | some (.struct _)=>match x,y with
  | .agg xs,.agg ys=>(eqT P T).bind fun ps=>eqParts xs ys ps
  | _,_=>none
 | _=>none
def evStr (op:BinOp) (a b:ByteArray):Option D :=
 match op with
 | .add=>if a.size+b.size≤281474976710656 then some (.str (a++b)) else none
 | .eql=>some (.bool (a.toList == b.toList))
 | .neq=>some (.bool (!(a.toList == b.toList)))
 | .lss=>some (.bool (Op.bytesLess a.toList b.toList))
 | .leq=>some (.bool (Op.bytesLess a.toList b.toList || a.toList == b.toList))
 | .gtr=>some (.bool (!(Op.bytesLess a.toList b.toList || a.toList == b.toList)))
 | .geq=>some (.bool (!(Op.bytesLess a.toList b.toList)))
 | _=>none
def evBin (P:Program) (op:BinOp) (T:TypeId) (x y:D):Option D :=
 match x,y with
 | .int k a,.int k' b=>if op=.shl∨op=.shr then evShift op k a b else if k=k' then evInt op k a b else none
 | .str a,.str b=>evStr op a b
 | x,y=>match op with
  | .eql=>(evEq P T x y).map .bool
  | .neq=>(evEq P T x y).map fun b=>.bool (!b)
  | _=>none
theorem run_eqGuard_ne {P:Program} {w:World} (op:BinOp) (t:TypeId) (x y:Operand) (u v:Value) (h:u≠.nilIface) (h2:∀ vs,u≠.agg vs):(eqGuard op t x y u v).run P w=.ok () w:=by
 cases op <;> simp only [eqGuard] <;> first
  | (cases u <;> first | (simp at h;done) | (exact absurd rfl (h2 _)) | rfl)
  | rfl
theorem eq_of_equalIn {P:Program} {T:TypeId} {u v:Value} {b:Bool} {w:World} (h:(Op.equalIn 10000 T u v).run P w=.ok b w) (hu:∀ k n,u≠.int k n) (hf:∀ k n,u≠.float k n) (hc:∀ k n m,u≠.complex k n m) (hs:∀ s,u≠.string s) :
  (binOp .eql T u v).run P w=.ok (.bool b) w∧(binOp .neq T u v).run P w=.ok (.bool (!b)) w:=by
 cases u <;> first
  | exact absurd rfl (hu _ _)
  | exact absurd rfl (hf _ _)
  | exact absurd rfl (hc _ _ _)
  | exact absurd rfl (hs _)
  | (constructor <;> (simp only [binOp];simp [Op.equal,Op.maxDepth,h]))
theorem isNilConst_ptr {g:G} {y:D} {v:Value} {b:Bool} (hy:R g y v) (h:isNilConst y=true) (h2:nilPtr y=some b):v=.pointer none:=by
 cases hy <;> first | rfl | (cases h;done) | (cases h2;done)
theorem isNilConst_fn {g:G} {y:D} {v:Value} {b:Bool} (hy:R g y v) (h:isNilConst y=true) (h2:nilFn y=some b):v=.nilFunc:=by
 cases hy <;> first | rfl | (cases h;done) | (cases h2;done)
theorem isNilConst_map {g:G} {y:D} {v:Value} {b:Bool} (hy:R g y v) (h:isNilConst y=true) (h2:nilMap y=some b):v=.map none:=by
 cases hy <;> first | rfl | (cases h;done) | (cases h2;done)
theorem isNilConst_sl {g:G} {y:D} {v:Value} {b:Bool} (hy:R g y v) (h:isNilConst y=true) (h2:nilSl y=some b):v=.slice none 0 0:=by
 cases hy with
 | slice o xs a cap sz blk off val hc hm ho hs ha hM hv hR =>
  cases o with
  | nil=>obtain ⟨rfl,h1,rfl⟩:=ho;rw [h1]
  | _=>cases xs <;> cases h
 | _=>first | (cases h;done) | (cases h2;done)
theorem equalIn_ptr {P:Program} {T e:TypeId} (hu:P.underlying T=some (.pointer e)) (a:Option Addr) (n:Nat) (w:World) :
  (Op.equalIn (n+1) T (.pointer a) (.pointer none)).run P w=.ok a.isNone w∧(Op.equalIn (n+1) T (.pointer none) (.pointer a)).run P w=.ok a.isNone w:=by
 cases a <;> simp [Op.equalIn,run_underlying hu]
theorem equalIn_fn {P:Program} {T:TypeId} {e1 e2 e3} (hu:P.underlying T=some (.func e1 e2 e3)) (n:Nat) (w:World) :
  (Op.equalIn (n+1) T .nilFunc .nilFunc).run P w=.ok true w∧∀ f a c,(Op.equalIn (n+1) T (.func f a c) .nilFunc).run P w=.ok false w:=by
 constructor
 ·simp [Op.equalIn,run_underlying hu]
 ·intro f a c;simp [Op.equalIn,run_underlying hu]
theorem equalIn_sl {P:Program} {T e:TypeId} (hu:P.underlying T=some (.slice e)) (a:Option Addr) (l c n:Nat) (w:World) :
  (Op.equalIn (n+1) T (.slice a l c) (.slice none 0 0)).run P w=.ok a.isNone w:=by
 cases a <;> simp [Op.equalIn,run_underlying hu]
theorem equalIn_map {P:Program} {T e1 e2:TypeId} (hu:P.underlying T=some (.map e1 e2)) (a:Option Nat) (n:Nat) (w:World) :
  (Op.equalIn (n+1) T (.map a) (.map none)).run P w=.ok a.isNone w:=by
 cases a <;> simp [Op.equalIn,run_underlying hu]
theorem ok_evEq {P:Program} {g:G} {T:TypeId} {x y:D} {u v:Value} {b:Bool} (hx:R g x u) (hy:R g y v) (he:evEq P T x y=some b) (w:World) :
  (∀ op ox oy,(eqGuard op T ox oy u v).run P w=.ok () w)∧(binOp .eql T u v).run P w=.ok (.bool b) w∧(binOp .neq T u v).run P w=.ok (.bool (!b)) w:=by
 unfold evEq at he
 split at he
 ·rename_i hu
  split at he
  ·rename_i a c
   cases he;cases hx;cases hy
   exact ⟨fun op ox oy=>run_eqGuard_ne _ _ _ _ _ _ (by simp) (by simp),eq_of_equalIn (run_equalIn_bool' w 9999 T _ _ hu) (by simp) (by simp) (by simp) (by simp)⟩
  ·cases he
 ·rename_i e hu
  split at he
  ·rename_i hn
   obtain ⟨c,hc,he⟩:=Option.bind_eq_some_iff.1 he
   have:=isNilConst_ptr hy hn hc
   subst this
   obtain ⟨a,rfl,rfl⟩:=nilPtr_ok hx he
   exact ⟨fun op ox oy=>run_eqGuard_ne _ _ _ _ _ _ (by simp) (by simp),eq_of_equalIn (equalIn_ptr hu a 9999 w).1 (by simp) (by simp) (by simp) (by simp)⟩
  ·split at he
   ·rename_i hn' hn
    obtain ⟨c,hc,he⟩:=Option.bind_eq_some_iff.1 he
    have:=isNilConst_ptr hx hn hc
    subst this
    obtain ⟨a,rfl,rfl⟩:=nilPtr_ok hy he
    exact ⟨fun op ox oy=>run_eqGuard_ne _ _ _ _ _ _ (by simp) (by simp),eq_of_equalIn (equalIn_ptr hu a 9999 w).2 (by simp) (by simp) (by simp) (by simp)⟩
   ·cases he
 ·rename_i e1 e2 e3 hu
  split at he
  ·rename_i hn
   obtain ⟨c,hc,he⟩:=Option.bind_eq_some_iff.1 he
   have:=isNilConst_fn hy hn hc
   subst this
   rcases nilFn_ok hx he with ⟨rfl,rfl⟩ | ⟨⟨f,a,c,rfl⟩,rfl⟩
   ·exact ⟨fun op ox oy=>run_eqGuard_ne _ _ _ _ _ _ (by simp) (by simp),eq_of_equalIn (equalIn_fn hu 9999 w).1 (by simp) (by simp) (by simp) (by simp)⟩
   ·exact ⟨fun op ox oy=>run_eqGuard_ne _ _ _ _ _ _ (by simp) (by simp),eq_of_equalIn ((equalIn_fn hu 9999 w).2 _ _ _) (by simp) (by simp) (by simp) (by simp)⟩
  ·cases he
 ·rename_i e hu
  split at he
  ·rename_i hn
   obtain ⟨c,hc,he⟩:=Option.bind_eq_some_iff.1 he
   have:=isNilConst_sl hy hn hc
   subst this
   obtain ⟨a,l,c,rfl,rfl⟩:=nilSl_ok hx he
   exact ⟨fun op ox oy=>run_eqGuard_ne _ _ _ _ _ _ (by simp) (by simp),eq_of_equalIn (equalIn_sl hu a l c 9999 w) (by simp) (by simp) (by simp) (by simp)⟩
  ·cases he
 ·rename_i e1 e2 hu
  split at he
  ·rename_i hn
   obtain ⟨c,hc,he⟩:=Option.bind_eq_some_iff.1 he
   have:=isNilConst_map hy hn hc
   subst this
   obtain ⟨a,rfl,rfl⟩:=nilMap_ok hx he
   exact ⟨fun op ox oy=>run_eqGuard_ne _ _ _ _ _ _ (by simp) (by simp),eq_of_equalIn (equalIn_map hu a 9999 w) (by simp) (by simp) (by simp) (by simp)⟩
  ·cases he
 ·rename_i fs hu
  split at he
  ·rename_i xs ys
   obtain ⟨ps,hps,he⟩:=Option.bind_eq_some_iff.1 he
   unfold eqT at hps
   split at hps
   ·rename_i hg
    rw [hu] at hps
    obtain ⟨us,rfl,hk1⟩:=CellsOk.of_agg hx
    obtain ⟨vs,rfl,hk2⟩:=CellsOk.of_agg hy
    have hfo:P.fieldsOf T=fs:=by simp [Program.fieldsOf,hu]
    obtain ⟨pss,hpss,rfl⟩:=Option.map_eq_some_iff.1 hps
    have e:=eqFields2_ok hk1 hk2 9997 w fs.toList pss b hpss he
    have e2:=run_equalIn_struct w 9999 T us vs (by rw [hfo];exact hu) hg.2
    rw [hfo,e] at e2
    exact ⟨fun op ox oy=>run_eqGuard_agg w op T ox oy us vs hg.1,eq_of_equalIn e2 (by simp) (by simp) (by simp) (by simp)⟩
   ·cases hps
  ·cases he
 ·cases he
theorem run_evInt {P:Program} {g:G} {T:TypeId} {op:BinOp} {k:IntKind} {a b:Int} {d:D} (h:evInt op k a b=some d) (w:World):∃ v,(binOp op T (.int k a) (.int k b)).run P w=.ok v w∧R g d v:=by
 cases op <;> simp only [evInt] at h
 case add=>cases h;exact ⟨_,by rw [binOp_add];rfl,.int _ _⟩
 case sub=>cases h;exact ⟨_,by rw [binOp_sub];rfl,.int _ _⟩
 case mul=>cases h;exact ⟨_,by rw [binOp_mul];rfl,.int _ _⟩
 case quo =>
  by_cases hb:b=0
  ·rw [if_pos hb] at h;cases h
  ·rw [if_neg hb] at h;cases h;exact ⟨_,by rw [binOp_quo];simp only [Op.intDiv,if_neg hb];rfl,.int _ _⟩
 case rem =>
  by_cases hb:b=0
  ·rw [if_pos hb] at h;cases h
  ·rw [if_neg hb] at h;cases h;exact ⟨_,by rw [binOp_rem];simp only [Op.intDiv,if_neg hb];rfl,.int _ _⟩
 case and=>cases h;exact ⟨_,by rw [binOp_and,intBits_and];rfl,.int _ _⟩
 case or=>cases h;exact ⟨_,by rw [binOp_or,intBits_or];rfl,.int _ _⟩
 case xor=>cases h;exact ⟨_,by rw [binOp_xor,intBits_xor];rfl,.int _ _⟩
 case andNot=>cases h;exact ⟨_,by rw [binOp_andNot,intBits_andNot];rfl,.int _ _⟩
 case eql=>cases h;exact ⟨_,by rw [binOp_eql];rfl,.bool _⟩
 case neq=>cases h;exact ⟨_,by rw [binOp_neq];rfl,.bool _⟩
 case lss=>cases h;exact ⟨_,by rw [binOp_lss];rfl,.bool _⟩
 case leq=>cases h;exact ⟨_,by rw [binOp_leq];rfl,.bool _⟩
 case gtr=>cases h;exact ⟨_,by rw [binOp_gtr];rfl,.bool _⟩
 case geq=>cases h;exact ⟨_,by rw [binOp_geq];rfl,.bool _⟩
 all_goals cases h
theorem ok_binOp {P:Program} {w:World} {g:G} {s:St} {op:BinOp} {T:TypeId} {ox oy:Operand} {x y d:D} {u v:Value} (h:WRel w g s) (hx:R g x u) (hy:R g y v) (he:evBin P op T x y=some d) :
  Ok P (do eqGuard op T ox oy u v;binOp op T u v) w g d s:=by
 unfold evBin at he
 split at he
 ·rename_i k a k' b
  cases hx;cases hy
  have hg:(eqGuard op T ox oy (.int k a) (.int k' b)).run P w=.ok () w:=run_eqGuard_ne _ _ _ _ _ _ (by simp) (by simp)
  split at he
  ·rename_i hop
   unfold evShift at he
   split at he
   ·cases he
   ·rename_i hb
    rcases hop with rfl | rfl <;> cases he
    ·exact ⟨_,w,g,by simp only [Sem.run_bind,hg,Result.andThen_ok];rw [binOp_shl];simp only [Op.shift,if_neg hb];rfl,.refl g,h,.int _ _⟩
    ·exact ⟨_,w,g,by simp only [Sem.run_bind,hg,Result.andThen_ok];rw [binOp_shr];simp only [Op.shift,if_neg hb];rfl,.refl g,h,.int _ _⟩
  ·split at he
   ·rename_i hop hk
    subst hk
    obtain ⟨v,hv,hR⟩:=run_evInt (P:=P) (g:=g) (T:=T) he w
    exact ⟨v,w,g,by simp only [Sem.run_bind,hg,Result.andThen_ok];exact hv,.refl g,h,hR⟩
   ·cases he
 ·rename_i a b
  cases hx;cases hy
  have hg:(eqGuard op T ox oy (.string a) (.string b)).run P w=.ok () w:=run_eqGuard_ne _ _ _ _ _ _ (by simp) (by simp)
  unfold evStr at he
  split at he
  ·split at he
   ·rename_i hl
    cases he
    refine ⟨.string (a++b),w,g,?_,.refl g,h,.str _⟩
    simp only [Sem.run_bind,hg,Result.andThen_ok,binOp,Op.stringOp]
    rw [if_neg (by simp;omega)]
    rfl
   ·cases he
  all_goals first
   | (cases he;exact ⟨_,w,g,by simp only [Sem.run_bind,hg,Result.andThen_ok];simp only [binOp,Op.stringOp,Sem.run_pure],.refl g,h,.bool _⟩)
   | cases he
 ·rename_i x' y' hn1 hn2
  split at he
  ·obtain ⟨b,hb,rfl⟩:=Option.map_eq_some_iff.1 he
   obtain ⟨e1,e2,e3⟩:=ok_evEq hx hy hb w
   exact ⟨_,w,g,by simp only [Sem.run_bind,e1,Result.andThen_ok,e2],.refl g,h,.bool _⟩
  ·obtain ⟨b,hb,rfl⟩:=Option.map_eq_some_iff.1 he
   obtain ⟨e1,e2,e3⟩:=ok_evEq hx hy hb w
   exact ⟨_,w,g,by simp only [Sem.run_bind,e1,Result.andThen_ok,e3],.refl g,h,.bool _⟩
  ·cases he
def evUn (op:UnOp) (x:D):Option D :=
 match op,x with
 | .not,.bool b=>some (.bool !b)
 | .neg,.int k n=>some (.int k (k.wrap (0 - n)))
 | .xor,.int k n=>some (.int k (bits .xor k (if k.signed then -1 else k.max) n))
 | _,_=>none
theorem ok_unOp {P:Program} {w:World} {g:G} {s:St} {op:UnOp} {x d:D} {u:Value} (h:WRel w g s) (hx:R g x u) (he:evUn op x=some d):Ok P (Op.unary op u) w g d s:=by
 unfold evUn at he
 split at he
 ·cases he;cases hx;exact ⟨_,w,g,rfl,.refl g,h,.bool _⟩
 ·cases he;cases hx;exact ⟨_,w,g,rfl,.refl g,h,.int _ _⟩
 ·cases he;cases hx;exact ⟨_,w,g,rfl,.refl g,h,.int _ _⟩
 ·cases he
def evConv (P:Program) (src dst:TypeId) (x:D):Option D :=
 match P.underlying src,P.underlying dst,x with
 | some (.int _),some (.int k),.int _ n=>some (.int k (k.wrap n))
 | some .string,some .string,.str b=>some (.str b)
 | _,_,_=>none
theorem ok_convert {P:Program} {w:World} {g:G} {s:St} {src dst:TypeId} {x d:D} {u:Value} (h:WRel w g s) (hx:R g x u) (he:evConv P src dst x=some d):Ok P (convert src dst u) w g d s:=by
 unfold evConv at he
 split at he
 ·rename_i k0 k kk n h1 h2
  cases he;cases hx
  exact ⟨_,w,g,by simp only [convert,Sem.run_bind,run_underlying h1,run_underlying h2,Result.andThen_ok,Conv.intToInt];rfl,.refl g,h,.int _ _⟩
 ·rename_i b h1 h2
  cases he;cases hx
  exact ⟨_,w,g,by simp only [convert,Sem.run_bind,run_underlying h1,run_underlying h2,Result.andThen_ok];rfl,.refl g,h,.str _⟩
 ·cases he
def evExtract (x:D) (i:Nat):Option D :=
 match x with
 | .tup vs=>vs[i]?
 | _=>none
theorem ok_extract {P:Program} {w:World} {g:G} {s:St} {x d:D} {i:Nat} {u:Value} (h:WRel w g s) (hx:R g x u) (he:evExtract x i=some d):Ok P (Instr.extract u i) w g d s:=by
 unfold evExtract at he
 split at he
 ·rename_i vs
  cases hx with
  | tup _ us hl hR =>
   obtain ⟨hlt,rfl⟩:=List.getElem?_eq_some_iff.1 he
   have hlt':i<us.size:=by omega
   exact ⟨us[i],w,g,by simp [Instr.extract,hlt'],.refl g,h,hR i hlt hlt'⟩
 ·cases he
theorem WRel.setObjB {w:World} {g:G} {s:St} (h:WRel w g s) {b l:Nat} {o o':Obj} {bx:Box} (hl1:Live1 s b) (hb:g.B b=some l) (hh:w.heap[l]? = some o) (hnc:∀ c T f,o≠.cells c T f) (hnc':∀ c T f,o'≠.cells c T f) (hnd:∀ c,o≠.deferred c)
    (hbx:BoxOk { w with heap:=w.heap.setIfInBounds l o' } g b bx) :
    WRel { w with heap:=w.heap.setIfInBounds l o' } g { s with boxes:=s.boxes.set b bx }:=by
  have hl:=h.dom b l hb
  have hlt:=lt_of_heap hh
  have hheap:∀ (c:Nat) (x:Obj),w.heap[c]? = some x→c≠l→(w.heap.setIfInBounds l o')[c]? = some x:=by
    intro c x hx hne;rw [Array.getElem?_setIfInBounds_ne (by omega)];exact hx
  have hne:∀ (c:Nat) ,c≠l→(w.heap.setIfInBounds l o')[c]? = w.heap[c]?:=fun c hc=>Array.getElem?_setIfInBounds_ne (by omega)
  have hcl:∀ {c:Nat} {arr T fr},w.heap[c]? = some (.cells arr T fr)→c≠l:=by
    intro c arr T fr hc e;subst e;rw [hh] at hc;cases hc;exact hnc _ _ _ rfl
  have hcell:∀ a,World.cell? { w with heap:=w.heap.setIfInBounds l o' } a=w.cell? a:=by
    intro a
    simp only [World.cell?]
    by_cases e:a.block=l
    · rw [e,hh,Array.getElem?_setIfInBounds_self];simp only [hlt,if_true]
      cases o <;> cases o' <;> first | rfl | (exact absurd rfl (hnc _ _ _)) | (exact absurd rfl (hnc' _ _ _))
    · rw [hne _ e]
  have hfr:∀ a,World.frozen? { w with heap:=w.heap.setIfInBounds l o' } a=w.frozen? a:=by
    intro a
    simp only [World.frozen?]
    by_cases e:a.block=l
    · rw [e,hh,Array.getElem?_setIfInBounds_self];simp only [hlt,if_true]
      cases o <;> cases o' <;> first | rfl | (exact absurd rfl (hnc _ _ _)) | (exact absurd rfl (hnc' _ _ _))
    · rw [hne _ e]
  refine { os := h.os, tape := h.tape, out := h.out, fz := fun a ha => (hfr a).trans (h.fz a ha), n := by have := h.n; simp only [Array.size_setIfInBounds]; exact this, old := fun c hc => ?_, m := fun c o v hm => by rw [hcell]; exact h.m c o v hm, box := fun i x hi => ?_,
           inj:=fun j k c h1 h2 l1 l2=>h.inj j k c h1 h2 (l1.of_set hl1) (l2.of_set hl1),dom:=fun i c hi=>by have:=h.dom i c hi;simp only [Array.size_setIfInBounds,List.length_set];exact this,live:=fun k hk=>?_,uniq:=h.uniq,ldom:=h.ldom,
           o:=fun c hc=>⟨(h.o c hc).1,hheap c _ (h.o c hc).2 (by intro e;subst e;have:=(h.o _ hc).2;rw [hh] at this;cases this;exact hnd _ rfl)⟩,nd:=h.nd,
           sz:=fun c n hc=>by obtain ⟨arr,T,fr,e1,e2⟩:=h.sz c n hc;exact ⟨arr,T,fr,hheap c _ e1 (hcl e1),e2⟩ }
  · show (w.heap.setIfInBounds l _)[c]? = _
    rw [hne c (by have:=hl.2.1;omega)]
    exact h.old c hc
  · by_cases e:i=b
    · subst e
      rw [List.getElem?_set_self hl.1] at hi
      cases hi
      exact hbx
    · rw [List.getElem?_set_ne (by omega)] at hi
      have:=h.box i x hi
      cases x with
      | dead=>trivial
      | cells cs=>obtain ⟨c,arr,T,fr,h1,h2,h3⟩:=this;exact ⟨c,arr,T,fr,h1,hheap c _ h2 (hcl h2),h3⟩
      | map es =>
        obtain ⟨c,en,k,h1,h2,h3⟩:=this
        exact ⟨c,en,k,h1,hheap c _ h2 (by intro e2;subst e2;exact e (h.inj _ _ _ h1 hb ⟨_,hi,by simp⟩ hl1)),h3⟩
      | mapX es bs q =>
        obtain ⟨c,en,k,h1,h2,h3⟩:=this
        exact ⟨c,en,k,h1,hheap c _ h2 (by intro e2;subst e2;exact e (h.inj _ _ _ h1 hb ⟨_,hi,by simp⟩ hl1)),h3⟩
      | iter mb q sn =>
        obtain ⟨c,m,h1,h2,h3⟩:=this
        exact ⟨c,m,h1,hheap c _ h2 (by intro e2;subst e2;exact e (h.inj _ _ _ h1 hb ⟨_,hi,by simp⟩ hl1)),h3⟩
      | loop ps as bo e' st pe =>
        obtain ⟨c,fn,t,df,h1,h2,h3⟩:=this
        exact ⟨c,fn,t,df,h1,hheap c _ h2 (by intro e2;subst e2;exact e (h.inj _ _ _ h1 hb ⟨_,hi,by simp⟩ hl1)),h3⟩
  · obtain ⟨a,len,cap,sz,h1,h2⟩:=h.live k hk
    refine ⟨a,len,cap,sz,h1,fun h3 h4=>?_⟩
    obtain ⟨c,off,arr,T,fr,h5,h6,h7,h8⟩:=h2 h3 h4
    exact ⟨c,off,arr,T,fr,h5,h6,hheap c _ h7 (hcl h7),h8⟩
def evMakeMap (s:St):Option (D × St):=some (.map s.boxes.length,{ s with boxes:=s.boxes++[.map []] })
theorem ok_makeMap {P:Program} {w:World} {g:G} {s:St} {T:TypeId} {ro:Option Value} (h:WRel w g s) (hr:∀ u,ro=some u→(∃ k n,u=.int k n)∧∃ a b,P.underlying T=some (.map a b)) :
  Ok P (Instr.makeMap T ro) w g (.map s.boxes.length) { s with boxes:=s.boxes++[.map []] }:=by
 have hB:g.B s.boxes.length=none:=B_none h (Nat.le_refl _)
 obtain ⟨h1,h2⟩:=h.newBox (.map #[] 0) rfl (.map []) ⟨w.heap.size,#[],0,by simp [G.addB],heap_alloc_new _ _,rfl,fun j x=>by simp at x⟩
 refine ⟨.map (some w.heap.size),w.alloc (.map #[] 0),_,?_,h1,h2,.map _ _ (by simp [G.addB])⟩
 cases ro with
 | none=>simp [Instr.makeMap]
 | some u =>
  obtain ⟨⟨k,n,rfl⟩,a,b,hu⟩:=hr _ rfl
  simp [Instr.makeMap,run_underlying hu,asInt,asIntOf]
def mapFind (k:IntKind) (n:Int):List (D × D)→Nat→Option (Option (Nat × D))
 | [],_=>some none
 | (.int k' m,v)::es,i=>if k=k' then (if n=m then some (some (i,v)) else mapFind k n es (i+1)) else none
 | _::_,_=>none
theorem mapFind_ok {g:G} {k:IntKind} {n:Int}:∀ (es:List (D × D)) (en:List MapEntry) (i:Nat) (r:Option (Nat × D)),es.length=en.length→(∀ (j:Nat) (h1:j<es.length) (h2:j<en.length),R g es[j].1 en[j].key∧R g es[j].2 en[j].val) →
  mapFind k n es i=some r→∀ K,(match r with
   | none=>Instr.findNow (.int K) (.int k n) en i=some none
   | some (j,d)=>∃ (q:Nat) (hq:q<en.length) (hq':q<es.length),j=i+q∧es[q].2=d∧es[q].1=.int k n∧en[q].key=.int k n∧Instr.findNow (.int K) (.int k n) en i=some (some (j,en[q].val))):=by
 intro es
 induction es with
 | nil =>
  intro en i r hl hR h K
  cases en with
  | nil=>cases h;rfl
  | cons=>simp at hl
 | cons p es ih =>
  intro en i r hl hR h K
  cases en with
  | nil=>simp at hl
  | cons e en =>
   obtain ⟨pk,pv⟩:=p
   have h0:=hR 0 (by simp) (by simp)
   simp only [List.getElem_cons_zero] at h0
   cases pk with
   | int k' m =>
    simp only [mapFind] at h
    split at h
    ·rename_i hk
     subst hk
     have hkey:e.key=.int k m:=by cases hv:e.key <;> rw [hv] at h0 <;> cases h0.1;rfl
     split at h
     ·rename_i hn
      subst hn
      cases h
      exact ⟨0,by simp,by simp,rfl,rfl,rfl,hkey,by simp [Instr.findNow,hkey,Instr.sameNow]⟩
     ·rename_i hn
      have hb:(n == m)=false:=by simpa using hn
      have:=ih en (i+1) r (by simpa using hl) (fun j h1 h2=>hR (j+1) (by simpa using h1) (by simpa using h2)) h K
      cases r with
      | none=>simpa [Instr.findNow,hkey,Instr.sameNow,hb] using this
      | some jd =>
       obtain ⟨j,d⟩:=jd
       obtain ⟨q,hq,hq',a1,a2,a3,a4,a5⟩:=this
       exact ⟨q+1,by simpa using hq,by simpa using hq',by omega,by simpa using a2,by simpa using a3,by simpa using a4,by simpa [Instr.findNow,hkey,Instr.sameNow,hb] using a5⟩
    ·cases h
   | _=>cases h
def zeroD (P:Program) (T:TypeId):Option D :=
 match isAggT P T,zeroV P T with
 | some true,some (.agg cs)=>if cs.toList.all (·.oneCell') then some (.agg (cs.toList.map zD)) else none
 | some false,some z=>some (zD z)
 | _,_=>none
theorem zeroD_ok {P:Program} {T:TypeId} {d:D} (h:zeroD P T=some d):∃ z,zeroV P T=some z∧∀ g,R g d z:=by
 unfold zeroD at h
 split at h
 ·rename_i cs h1 h2
  split at h
  ·rename_i hall
   cases h
   exact ⟨_,h2,fun g=>.agg _ _ (by simp) (fun i hi=>List.all_eq_true.1 hall _ (by simp)) (fun i h1 h2=>by simpa using zD_ok)⟩
  ·cases h
 ·rename_i z h1 h2
  cases h
  exact ⟨_,h2,fun g=>zD_ok⟩
 ·cases h
def lookD (r:Option (Nat × D)) (z:D) (ok:Bool):D :=
 match r with
 | some (_,v)=>if ok then .tup [v,.bool true] else v
 | none=>if ok then .tup [z,.bool false] else z
def mapOf (m:D) (s:St):Option (List (D × D)) :=
 match m with
 | .nilm=>some []
 | .map b=>match s.boxes[b]? with
  | some (.map es)=>some es
  | _=>none
 | _=>none
def evLookup (P:Program) (T:TypeId) (m i:D) (ok:Bool) (s:St):Option D :=
 match P.underlying T with
 | some (.map K V)=>match P.underlying K,zeroD P V,mapOf m s,i with
  | some (.int _),some z,some es,.int k n=>(mapFind k n es 0).map fun r=>lookD r z ok
  | _,_,_,_=>none
 | _=>none
theorem run_checkKey_int {P:Program} {K:TypeId} {kk:IntKind} (hK:P.underlying K=some (.int kk)) (b:Bool) (n:Nat) (v:Value) (w:World):(Instr.checkKey b (n+1) K v).run P w=.ok () w:=by
 simp only [Instr.checkKey,Sem.run_bind,run_underlying hK,Result.andThen_ok];rfl
theorem run_findKey_int {P:Program} {K:TypeId} {kk:IntKind} (hK:P.underlying K=some (.int kk)) {v:Value} {en:List MapEntry} {r:Option (Nat × Value)} (h:Instr.findNow (.int kk) v en 0=some r) (w:World):(Instr.findKey K v en).run P w=.ok r w:=by
 simp only [Instr.findKey,Sem.run_bind,run_underlying hK,Result.andThen_ok,h,Sem.run_pure]
theorem run_getObj {P:Program} {w:World} {l:Nat} {en:Array MapEntry} {c:Nat} (h:w.heap[l]? = some (.map en c)):(getObj l).run P w=.ok (.map en c) w:=by simp [getObj,Sem.run,h]
theorem run_setObjV {P:Program} {w:World} {l:Nat} {en:Array MapEntry} {c:Nat} {o':Obj} (h:w.heap[l]? = some (.map en c)):(setObj l o').run P w=.ok () { w with heap:=w.heap.setIfInBounds l o' }:=by simp [setObj,Sem.run,h]
theorem mapOf_ok {w:World} {g:G} {s:St} (h:WRel w g s) {m:D} {v:Value} (hm:R g m v) {es:List (D × D)} (he:mapOf m s=some es) :
  ∃ en:Array MapEntry,((v=.map none∧en = #[]) ∨ ∃ r clock,v=.map (some r)∧w.heap[r]? = some (.map en clock))∧es.length=en.size ∧
   ∀ (j:Nat) (h1:j<es.length) (h2:j<en.toList.length),R g es[j].1 en.toList[j].key∧R g es[j].2 en.toList[j].val:=by
 unfold mapOf at he
 split at he
 ·cases he;cases hm;exact ⟨#[],.inl ⟨rfl,rfl⟩,rfl,fun j h1=>by simp at h1⟩
 ·rename_i b
  split at he
  ·rename_i es' hb
   cases he
   cases hm with
   | map _ r hB =>
    obtain ⟨b',ents,clock,h1,h2,h3,h4⟩:=h.box b _ hb
    rw [hB] at h1;cases h1
    exact ⟨ents,.inr ⟨r,clock,rfl,h2⟩,h3,fun j q1 q2=>by have:=h4 j q1 (by simpa using q2);simp only [Array.getElem_toList];exact ⟨this.1,this.2.1⟩⟩
  ·cases he
 ·cases he
theorem ok_lookup {P:Program} {w:World} {g:G} {s:St} {T:TypeId} {m i d:D} {u v:Value} {ok:Bool} (h:WRel w g s) (hm:R g m u) (hi:R g i v) (he:evLookup P T m i ok s=some d) :
  Ok P (Instr.lookup T u v ok) w g d s:=by
 unfold evLookup at he
 split at he
 ·rename_i K V hu
  split at he
  ·rename_i kk z es k n hK hz hes
   obtain ⟨r,hr,rfl⟩:=Option.map_eq_some_iff.1 he
   cases hi
   obtain ⟨zv,hzv,hzR⟩:=zeroD_ok hz
   obtain ⟨en,hen,hlen,hR⟩:=mapOf_ok h hm hes
   have hf:=mapFind_ok es en.toList 0 r (by simpa using hlen) hR hr kk
   cases r with
   | none =>
    have hf2:=run_findKey_int hK hf w
    refine ⟨if ok then .tuple #[zv,.bool false] else zv,w,g,?_,.refl g,h,?_⟩
    ·rcases hen with ⟨rfl,rfl⟩ | ⟨r,clock,rfl,hh⟩
     ·simp only [Instr.lookup,Sem.run_bind,run_underlying hu,Result.andThen_ok,run_checkKey_int hK,hf2,run_zeroV hzv,Sem.run_pure]
     ·simp only [Instr.lookup,Sem.run_bind,run_underlying hu,Result.andThen_ok,run_getObj hh,run_checkKey_int hK,hf2,run_zeroV hzv,Sem.run_pure]
    ·cases ok
     ·exact hzR g
     ·refine .tup _ _ rfl fun i h1 h2=>?_
      match i,h1,h2 with
      | 0,_,_=>exact hzR g
      | 1,_,_=>exact .bool _
   | some jd =>
    obtain ⟨j,dv⟩:=jd
    obtain ⟨q,hq,hq',a1,rfl,a3,a4,a5⟩:=hf
    have hf2:=run_findKey_int hK a5 w
    have hRv:=(hR q hq' hq).2
    refine ⟨if ok then .tuple #[en.toList[q].val,.bool true] else en.toList[q].val,w,g,?_,.refl g,h,?_⟩
    ·rcases hen with ⟨rfl,rfl⟩ | ⟨r,clock,rfl,hh⟩
     ·simp at hq
     ·simp only [Instr.lookup,Sem.run_bind,run_underlying hu,Result.andThen_ok,run_getObj hh,run_checkKey_int hK,hf2,Sem.run_pure]
    ·cases ok
     ·exact hRv
     ·refine .tup _ _ rfl fun i h1 h2=>?_
      match i,h1,h2 with
      | 0,_,_=>exact hRv
      | 1,_,_=>exact .bool _
  ·cases he
 ·cases he
def mapPut (k:IntKind) (n:Int) (v:D) (r:Option (Nat × D)) (es:List (D × D)):List (D × D) :=
 match r with
 | some (i,_)=>es.set i (.int k n,v)
 | none=>es++[(.int k n,v)]
def evMapUpdate (P:Program) (T:TypeId) (m i x:D) (s:St):Option St :=
 match P.underlying T with
 | some (.map K _)=>match P.underlying K,m,i with
  | some (.int _),.map b,.int k n=>match s.boxes[b]? with
   | some (.map es)=>(mapFind k n es 0).map fun r=>{ s with boxes:=s.boxes.set b (.map (mapPut k n x r es)) }
   | _=>none
  | _,_,_=>none
 | _=>none
theorem ok_mapUpdate {P:Program} {w:World} {g:G} {s s':St} {T:TypeId} {m i x:D} {u v y:Value} (h:WRel w g s) (hm:R g m u) (hi:R g i v) (hx:R g x y) (he:evMapUpdate P T m i x s=some s') :
  ∃ w',(Instr.mapUpdate T u v y).run P w=.ok () w'∧WRel w' g s':=by
 unfold evMapUpdate at he
 split at he
 ·rename_i K V hu
  split at he
  ·rename_i kk b k n hK
   split at he
   ·rename_i es hb
    obtain ⟨r,hr,rfl⟩:=Option.map_eq_some_iff.1 he
    cases hi
    cases hm with
    | map _ l hB =>
     obtain ⟨l',en,clock,h1,h2,h3,h4⟩:=h.box b _ hb
     rw [hB] at h1;cases h1
     have hR:∀ (j:Nat) (h1:j<es.length) (h2:j<en.toList.length),R g es[j].1 en.toList[j].key∧R g es[j].2 en.toList[j].val:=fun j q1 q2=>by
      have:=h4 j q1 (by simpa using q2);simp only [Array.getElem_toList];exact ⟨this.1,this.2.1⟩
     have hf:=mapFind_ok es en.toList 0 r (by simpa using h3) hR hr kk
     have hlt:=lt_of_heap h2
     have hl1:Live1 s b:=⟨_,hb,by simp⟩
     cases r with
     | none =>
      have hf2:=run_findKey_int hK hf w
      refine ⟨{ w with heap:=w.heap.setIfInBounds l (.map (en.push { key:=.int k n,val:=y,born:=clock }) (clock+1)) },?_,h.setObjB hl1 hB h2 (by simp) (by simp) (by simp) ⟨l,en.push { key:=.int k n,val:=y,born:=clock },clock+1,hB,by rw [Array.getElem?_setIfInBounds_self];simp [hlt],by simp [mapPut,h3],fun j q1 q2=>?_⟩⟩
      ·simp only [Instr.mapUpdate,Sem.run_bind,run_underlying hu,Result.andThen_ok,run_getObj h2,run_checkKey_int hK,hf2,run_setObjV h2]
      ·simp only [mapPut]
       by_cases hj:j<es.length
       ·rw [List.getElem_append_left hj,Array.getElem_push_lt (by omega)]
        have:=h4 j hj (by omega)
        refine ⟨this.1,this.2.1,by omega,fun k q3 hk=>?_⟩
        by_cases hk2:k<en.size
        ·rw [Array.getElem_push_lt hk2] at hk;exact this.2.2.2 k hk2 hk
        ·have hk3:k=en.size:=by simp at q3;omega
         subst hk3
         rw [Array.getElem_push_eq] at hk
         have:=this.2.2.1
         simp only at hk;omega
       ·have hj2:j=es.length:=by simp [mapPut] at q1;omega
        subst hj2
        simp only [List.getElem_concat_length,h3,Array.getElem_push_eq]
        refine ⟨.int _ _,hx,by omega,fun k q3 hk=>?_⟩
        by_cases hk2:k<en.size
        ·rw [Array.getElem_push_lt hk2] at hk
         have:=(h4 k (by omega) hk2).2.2.1
         omega
        ·simp at q3;omega
     | some jd =>
      obtain ⟨j0,dv⟩:=jd
      obtain ⟨q,hq,hq',a1,a2,a3,a4,a5⟩:=hf
      simp only [Nat.zero_add] at a1
      subst a1
      have hf2:=run_findKey_int hK a5 w
      have hqs:j0<en.size:=by simpa using hq
      have hkey:((en[j0]?).map (·.key)).getD (.int k n)=.int k n:=by
       rw [Array.getElem?_eq_getElem hqs]
       simpa using a4
      have hks:(Instr.keyThatStays (.int k n) (.int k n)).run P w=.ok (.int k n) w:=by simp [Instr.keyThatStays,Instr.sameBits]
      refine ⟨{ w with heap:=w.heap.setIfInBounds l (.map (en.modify j0 fun e=>{ e with key:=.int k n,val:=y }) clock) },?_,h.setObjB hl1 hB h2 (by simp) (by simp) (by simp) ⟨l,en.modify j0 fun e=>{ e with key:=.int k n,val:=y },clock,hB,by rw [Array.getElem?_setIfInBounds_self];simp [hlt],by simp [mapPut,h3],fun j q1 q2=>?_⟩⟩
      ·simp only [Instr.mapUpdate,Sem.run_bind,run_underlying hu,Result.andThen_ok,run_getObj h2,run_checkKey_int hK,hf2,hkey,hks,run_setObjV h2]
      ·simp only [mapPut,List.length_set] at q1
       simp only [mapPut]
       rw [Array.getElem_modify]
       by_cases hj:j0=j
       ·subst hj
        simp only [if_true,List.getElem_set_self]
        refine ⟨.int _ _,hx,(h4 j0 q1 hqs).2.2.1,fun k q3 hk=>?_⟩
        have hks:k<en.size:=by simpa using q3
        refine (h4 j0 q1 hqs).2.2.2 k hks ?_
        rw [Array.getElem_modify] at hk
        split at hk <;> exact hk
       ·rw [List.getElem_set_ne hj];simp only [hj,if_false]
        have:=h4 j q1 (by omega)
        refine ⟨this.1,this.2.1,this.2.2.1,fun k q3 hk=>?_⟩
        have hks:k<en.size:=by simpa using q3
        refine this.2.2.2 k hks ?_
        rw [Array.getElem_modify] at hk
        split at hk <;> exact hk
   ·cases he
  ·cases he
 ·cases he
def mapCut (r:Option (Nat × D)) (es:List (D × D)):List (D × D) :=
 match r with
 | some (i,_)=>es.eraseIdx i
 | none=>es
def evDelete (P:Program) (T:TypeId) (m i:D) (s:St):Option St :=
 match P.underlying T with
 | some (.map K _)=>match P.underlying K,m,i with
  | some (.int _),.map b,.int k n=>match s.boxes[b]? with
   | some (.map es)=>(mapFind k n es 0).map fun r=>{ s with boxes:=s.boxes.set b (.map (mapCut r es)) }
   | _=>none
  | _,_,_=>none
 | _=>none
theorem ok_delete {P:Program} {w:World} {g:G} {s s':St} {T T' ty:TypeId} {m i:D} {u v:Value} (h:WRel w g s) (hm:R g m u) (hi:R g i v) (he:evDelete P T m i s=some s') :
  Ok P (Builtin.delete_ #[T,T'] ty #[u,v]) w g (.tup []) s':=by
 unfold evDelete at he
 split at he
 ·rename_i K V hu
  split at he
  ·rename_i kk b k n hK
   split at he
   ·rename_i es hb
    obtain ⟨r,hr,rfl⟩:=Option.map_eq_some_iff.1 he
    cases hi
    cases hm with
    | map _ l hB =>
     obtain ⟨l',en,clock,h1,h2,h3,h4⟩:=h.box b _ hb
     rw [hB] at h1;cases h1
     have hR:∀ (j:Nat) (h1:j<es.length) (h2:j<en.toList.length),R g es[j].1 en.toList[j].key∧R g es[j].2 en.toList[j].val:=fun j q1 q2=>by
      have:=h4 j q1 (by simpa using q2);simp only [Array.getElem_toList];exact ⟨this.1,this.2.1⟩
     have hf:=mapFind_ok es en.toList 0 r (by simpa using h3) hR hr kk
     have hlt:=lt_of_heap h2
     have hl1:Live1 s b:=⟨_,hb,by simp⟩
     cases r with
     | none =>
      have hf2:=run_findKey_int hK hf w
      refine ⟨.tuple #[],{ w with heap:=w.heap.setIfInBounds l (.map en clock) },g,?_,.refl g,h.setObjB hl1 hB h2 (by simp) (by simp) (by simp) ⟨l,en,clock,hB,by rw [Array.getElem?_setIfInBounds_self];simp [hlt],by simp [mapCut,h3],fun j q1 q2=>h4 j q1 q2⟩,.tup _ _ rfl fun i h=>by simp at h⟩
      simp [Builtin.delete_,run_underlying hu,run_getObj h2,run_checkKey_int hK,hf2,run_setObjV h2]
     | some jd =>
      obtain ⟨j0,dv⟩:=jd
      obtain ⟨q,hq,hq',a1,a2,a3,a4,a5⟩:=hf
      simp only [Nat.zero_add] at a1
      subst a1
      have hf2:=run_findKey_int hK a5 w
      have hqs:j0<en.size:=by simpa using hq
      refine ⟨.tuple #[],{ w with heap:=w.heap.setIfInBounds l (.map (en.eraseIdxIfInBounds j0) clock) },g,?_,.refl g,h.setObjB hl1 hB h2 (by simp) (by simp) (by simp) ⟨l,en.eraseIdxIfInBounds j0,clock,hB,by rw [Array.getElem?_setIfInBounds_self];simp [hlt],?_,fun j q1 q2=>?_⟩,.tup _ _ rfl fun i h=>by simp at h⟩
      ·simp [Builtin.delete_,run_underlying hu,run_getObj h2,run_checkKey_int hK,hf2,run_setObjV h2]
      ·simp only [mapCut,Array.eraseIdxIfInBounds,hqs,dif_pos,Array.size_eraseIdx]
       rw [List.length_eraseIdx_of_lt hq',h3]
      ·simp only [mapCut] at q1 ⊢
       simp only [Array.eraseIdxIfInBounds,hqs,dif_pos] at q2 ⊢
       have hq1:j<es.length - 1:=by rw [List.length_eraseIdx_of_lt hq'] at q1;exact q1
       have hq2:j<en.size - 1:=by rw [Array.size_eraseIdx] at q2;exact q2
       have hdist:∀ (j':Nat) (h1:j'<es.length) (h2:j'<en.size),(if j<j0 then j'=j else j'=j+1)→∀ (k:Nat) (h3:k<(en.eraseIdx j0 hqs).size),(en.eraseIdx j0 hqs)[k].born=en[j'].born→k=j:=fun j' p1 p2 hj' k h3 hk=>by
        rw [Array.size_eraseIdx] at h3
        rw [Array.getElem_eraseIdx] at hk
        split at hk
        ·have:=(h4 j' p1 p2).2.2.2 k (by omega) hk
         split at hj' <;> omega
        ·have:=(h4 j' p1 p2).2.2.2 (k+1) (by omega) hk
         split at hj' <;> omega
       by_cases hjj:j<j0
       ·have e1:(es.eraseIdx j0)[j]=es[j]'(by omega):=by rw [List.getElem_eraseIdx,dif_pos hjj]
        have e2:(en.eraseIdx j0 hqs)[j]=en[j]'(by omega):=by rw [Array.getElem_eraseIdx,dif_pos hjj]
        rw [e1,e2]
        have:=h4 j (by omega) (by omega)
        exact ⟨this.1,this.2.1,this.2.2.1,hdist j (by omega) (by omega) (by rw [if_pos hjj])⟩
       ·have e1:(es.eraseIdx j0)[j]=es[j+1]'(by omega):=by rw [List.getElem_eraseIdx,dif_neg hjj]
        have e2:(en.eraseIdx j0 hqs)[j]=en[j+1]'(by omega):=by rw [Array.getElem_eraseIdx,dif_neg hjj]
        rw [e1,e2]
        have:=h4 (j+1) (by omega) (by omega)
        exact ⟨this.1,this.2.1,this.2.2.1,hdist (j+1) (by omega) (by omega) (by rw [if_neg hjj])⟩
   ·cases he
  ·cases he
 ·cases he
def evMakeSlice (P:Program) (T:TypeId) (l c:D) (s:St):Option (D × St) :=
 match elemT P T,l,c with
 | some (e,sz,by_,_),.int _ l,.int _ c=>match zeroT P e with
  | some zs=>if zs.length=sz∧0<sz∧0<by_∧by_≤1000000∧0≤l∧l≤c∧c≤1000000 then
    some (.row s.boxes.length 0 l.toNat sz,{ s with boxes:=s.boxes++[.cells (List.replicate l.toNat zs).flatten] }) else none
  | none=>none
 | _,_,_=>none
theorem repl_get {zs:List D}:∀ (n j:Nat) (h:j<(List.replicate n zs).flatten.length),0<zs.length→∃ h2:j % zs.length<zs.length,(List.replicate n zs).flatten[j]=zs[j % zs.length]:=by
 intro n
 induction n with
 | zero=>intro j h;simp at h
 | succ n ih =>
  intro j h hz
  have h':j<zs.length+(List.replicate n zs).flatten.length:=by simpa [List.replicate_succ] using h
  refine ⟨Nat.mod_lt _ hz,?_⟩
  have e:(List.replicate (n+1) zs).flatten=zs++(List.replicate n zs).flatten:=by simp [List.replicate_succ]
  by_cases hj:j<zs.length
  ·have:(List.replicate (n+1) zs).flatten[j]? = zs[j]?:=by rw [e,List.getElem?_append_left hj]
   rw [List.getElem?_eq_getElem h,List.getElem?_eq_getElem hj] at this
   rw [Option.some.inj this]
   congr 1;exact (Nat.mod_eq_of_lt hj).symm
  ·obtain ⟨h2,e2⟩:=ih (j - zs.length) (by omega) hz
   have:(List.replicate (n+1) zs).flatten[j]? = (List.replicate n zs).flatten[j - zs.length]?:=by rw [e,List.getElem?_append_right (by omega)]
   rw [List.getElem?_eq_getElem h,List.getElem?_eq_getElem (by omega)] at this
   rw [Option.some.inj this,e2]
   congr 1
   rw [Nat.mod_eq_sub_mod (by omega:j ≥ zs.length)]
theorem ok_makeSlice {P:Program} {w:World} {g:G} {s s':St} {T:TypeId} {l c d:D} {u v:Value} (h:WRel w g s) (hl:R g l u) (hc:R g c v) (he:evMakeSlice P T l c s=some (d,s')) :
  Ok P (Instr.makeSlice T u v) w g d s':=by
 unfold evMakeSlice at he
 split at he
 ·rename_i e sz by_ ag k l k' c h1
  split at he
  ·rename_i zs hz
   split at he
   ·rename_i hcond
    obtain ⟨c1,c2,c3,c4,c5,c6,c7⟩:=hcond
    cases he
    cases hl;cases hc
    obtain ⟨hu,⟨i,hi,rfl,rfl⟩,_⟩:=elemT_some h1
    obtain ⟨z,hzv,hzok⟩:=zeroT_ok hz
    have hzk:=hzok g
    have hzc:z.cells.size=i.size:=by have:=hzk.1;simp at this;omega
    have hbig:(i.bytes:Int) * c≤1000000000000:=by
     calc (i.bytes:Int) * c≤1000000 * 1000000:=Int.mul_le_mul (by omega) c7 (by omega) (by omega)
      _=1000000000000:=by rfl
    obtain ⟨arr,harr⟩:∃ arr:Array Value,arr=madeCells z.cells (c.toNat * i.size):=⟨_,rfl⟩
    have hasz:arr.size=c.toNat * i.size:=by rw [harr];exact size_madeCells _ _
    have hlen:(List.replicate l.toNat zs).flatten.length=l.toNat * i.size:=by simp [c1]
    have hll:l.toNat * i.size≤c.toNat * i.size:=Nat.mul_le_mul_right _ (by omega)
    have hBn:g.B s.boxes.length=none:=B_none h (Nat.le_refl _)
    have hle0:g.le (g.addB s.boxes.length w.heap.size):=addB_le hBn
    obtain ⟨hle1,hW1⟩:=h.newBox (.cells arr e) rfl (.cells (List.replicate l.toNat zs).flatten) ⟨w.heap.size,arr,e,(0,0),by simp [G.addB],heap_alloc_new _ _,by omega,
     fun j q1 q2=>by
      obtain ⟨h2,e2⟩:=repl_get l.toNat j q1 (by omega)
      have hn0:¬ (c.toNat * i.size=0):=by omega
      have hm:j % i.size<z.cells.size:=by rw [hzc];exact Nat.mod_lt _ c2
      have e3:arr[j]=z.cells[j % i.size]:=by
       simp only [harr,madeCells,Array.getElem_map,Array.getElem_range,hzc]
       exact getElem!_pos z.cells (j % i.size) hm
      have:=hzk.2 (j % zs.length) h2 (by simp;omega)
      rw [e2,e3]
      simp only [c1,Array.getElem_toList] at this ⊢
      exact ⟨this.1.mono hle0,this.2⟩,fun o=>M_none h (Nat.le_refl _) o,rfl⟩
    obtain ⟨hle2,hW2⟩:=hW1.addS (heap_alloc_new _ _)
    refine ⟨.slice (some ⟨w.heap.size,0,none⟩) l.toNat c.toNat,w.alloc (.cells arr e),_,?_,hle1.trans hle2,hW2,.row _ _ _ _ w.heap.size arr.size c.toNat (by simp [G.addB,G.addS]) (by simp [G.addS]) (by omega) (by simp [maxN];omega) c2 (by omega)⟩
    rw [harr]
    exact run_make w T e i z hu hi (by simpa [zeroV,hi] using hzv) k k' l c c5 c6 (by omega) (by omega)
   ·cases he
  ·cases he
 ·cases he
def evClear (P:Program) (T:TypeId) (x:D) (s:St):Option St :=
 match x with
 | .slice _ []=>match P.underlying T with
  | some (.slice _)=>some s
  | _=>none
 | .row0=>match P.underlying T with
  | some (.slice _)=>some s
  | _=>none
 | .row b off n rsz=>match elemT P T with
  | some (e,sz,_,_)=>match zeroT P e,s.boxes[b]? with
   | some zs,some (.cells cs)=>if zs.length=sz∧0<sz∧off+n * sz≤cs.length then some { s with boxes:=s.boxes.set b (.cells (storeD cs off (List.replicate n zs).flatten)) } else none
   | _,_=>none
  | none=>none
 | .map b=>match P.underlying T,s.boxes[b]? with
  | some (.map _ _),some (.map _)=>some { s with boxes:=s.boxes.set b (.map []) }
  | _,_=>none
 | _=>none
theorem ok_clear {P:Program} {w:World} {g:G} {s s':St} {T ty:TypeId} {x:D} {v:Value} (h:WRel w g s) (hx:R g x v) (he:evClear P T x s=some s') :
  Ok P (Builtin.clear_ #[T] ty #[v]) w g (.tup []) s':=by
 have ht:R g (.tup []) (.tuple #[]):=.tup _ _ rfl fun i h=>by simp at h
 unfold evClear at he
 split at he
 ·rename_i o
  split at he
  ·rename_i e hu
   cases he
   obtain ⟨a,cap,szx,fx,rfl,_⟩:=slice_fl hx
   refine ⟨.tuple #[],w,g,?_,.refl g,h,ht⟩
   cases a <;> simp [Builtin.clear_,run_underlying hu]
  ·cases he
 ·split at he
  ·rename_i e hu
   cases he
   cases hx with
   | row0 a =>
    refine ⟨.tuple #[],w,g,?_,.refl g,h,ht⟩
    cases a <;> simp [Builtin.clear_,run_underlying hu]
  ·cases he
 ·rename_i b off n rsz
  split at he
  ·rename_i e sz by_ ag h1
   obtain ⟨hu,⟨i,hi,rfl,rfl⟩,_⟩:=elemT_some h1
   split at he
   ·rename_i zs cs hz hb
    split at he
    ·rename_i hc
     obtain ⟨c1,c2,c3⟩:=hc
     cases he
     obtain ⟨z,hzv,hzok⟩:=zeroT_ok hz
     have hzk:=hzok g
     have hzc:z.cells.size=i.size:=by have:=hzk.1;simp at this;omega
     cases hx with
     | row _ _ _ _ blk m cap hB hS hcap hn hz0 hm =>
      have hlen:(List.replicate n zs).flatten.length=n * i.size:=by simp [c1]
      have hcl:(Builtin.zeroCells z.cells n).toList.length=n * i.size:=by simp [size_zeroCells,hzc]
      obtain ⟨w',hr,hw'⟩:=WRel.storeBox (P:=P) (List.replicate n zs).flatten (Builtin.zeroCells z.cells n).toList w s b blk off 0 cs h hb hB (by omega) (by omega) (fun j q1 q2=>by
       obtain ⟨h2,e2⟩:=repl_get n j q1 (by omega)
       have hm:j % i.size<z.cells.size:=by rw [hzc];exact Nat.mod_lt _ c2
       have e3:(Builtin.zeroCells z.cells n).toList[j]=z.cells[j % i.size]:=by
        simp only [Builtin.zeroCells,Array.getElem_toList,Array.getElem_map,Array.getElem_range,hzc]
        exact getElem!_pos z.cells (j % i.size) hm
       have:=hzk.2 (j % zs.length) h2 (by simp;omega)
       rw [e2,e3]
       simp only [c1,Array.getElem_toList] at this ⊢
       exact this)
      refine ⟨.tuple #[],w',g,?_,.refl g,by rw [storeD_eq _ _ _ (by omega)];simpa using hw',ht⟩
      rcases Nat.eq_zero_or_pos n with rfl | hn0
      ·have e0:(Builtin.zeroCells z.cells 0).toList=[]:=by simp [Builtin.zeroCells]
       rw [e0] at hr
       simp only [storeCells,Sem.run_pure] at hr
       cases hr
       simp [Builtin.clear_,run_underlying hu]
      ·obtain ⟨n,rfl⟩:∃ k,n=k+1:=⟨n - 1,by omega⟩
       simp only [Builtin.clear_]
       simp [run_underlying hu,run_zeroV hzv,hr]
    ·cases he
   ·cases he
  ·cases he
 ·rename_i b
  split at he
  ·rename_i K V es hu hb
   cases he
   cases hx with
   | map _ l hB =>
    obtain ⟨l',en,clock,h1,h2,h3,h4⟩:=h.box b _ hb
    rw [hB] at h1;cases h1
    have hlt:=lt_of_heap h2
    refine ⟨.tuple #[],{ w with heap:=w.heap.setIfInBounds l (.map #[] clock) },g,?_,.refl g,h.setObjB ⟨_,hb,by simp⟩ hB h2 (by simp) (by simp) (by simp) ⟨l,#[],clock,hB,by rw [Array.getElem?_setIfInBounds_self];simp [hlt],rfl,fun j q1=>by simp at q1⟩,ht⟩
    simp [Builtin.clear_,run_underlying hu,run_getObj h2,run_setObjV h2]
  ·cases he
 ·cases he
def evBd (o:Option D) (dflt:Nat):Option Nat :=
 match o with
 | none=>some dflt
 | some (.int _ n)=>if 0≤n then some n.toNat else none
 | _=>none
def evSlice (P:Program) (T:TypeId) (x:D) (lo hi mx:Option D):Option D :=
 match P.underlying T,x with
 | some .string,.str b=>match evBd lo 0,evBd hi b.size,mx with
  | some l,some h,none=>if l≤h∧h≤b.size then some (.str (b.extract l h)) else none
  | _,_,_=>none
 | some (.slice e),.slice o xs=>match elemT P T,evBd lo 0,evBd hi xs.length,evBd mx xs.length with
  | some (_,sz,_,_),some l,some h,some m =>
   if l≤h∧h≤m∧m≤xs.length∧(mx.isSome=true→hi.isSome=true)∧(l=0∨xs.all (·.length == sz)=true) then
    some (.slice (if mx.isSome=true then (if m=h then .full else .none) else if o=.full∧h=xs.length then .full else .none) ((xs.take h).drop l)) else none
  | _,_,_,_=>none
 | some (.slice e),.row0=>match elemT P T,evBd lo 0,evBd hi 0,evBd mx 0 with
  | some _,some 0,some 0,some 0=>if mx.isSome=true→hi.isSome=true then some .row0 else none
  | _,_,_,_=>none
 | some (.slice e),.row b off n rsz=>match elemT P T,evBd lo 0,evBd hi n,evBd mx n with
  | some (_,sz,_,_),some l,some h,some m =>
   if l≤h∧h≤m∧m≤n∧(mx.isSome=true→hi.isSome=true)∧rsz=sz then
    some (if l=0 then .row b off h rsz else if l<h then .row b (off+l * sz) (h - l) rsz else .slice .none []) else none
  | _,_,_,_=>none
 | some (.slice e),.msl b off n c rsz=>match elemT P T,evBd lo 0,evBd hi n,mx with
  | some (_,sz,_,_),some l,some h,none =>
   if l≤h∧h≤c∧rsz=sz then some (if l=0 then .msl b off h c rsz else if l<c then .msl b (off+l * sz) (h - l) (c - l) rsz else .junk) else none
  | _,_,_,_=>none
 | _,_=>none
def RO (g:G) (o:Option D) (v:Option Value):Prop :=
 match o,v with
 | none,none=>True
 | some d,some u=>R g d u
 | _,_=>False
theorem run_sliceBound {P:Program} {g:G} {d:D} {v:Value} {n y:Nat} {c:BoundsCode} (h:R g d v) (he:evBd (some d) 0=some n) (hy:n≤y) (w:World):(Instr.sliceBound v y c).run P w=.ok n w:=by
 unfold evBd at he
 split at he
 ·cases ‹some d=none›
 ·rename_i k q heq
  cases heq
  split at he
  ·rename_i hq
   cases he
   cases h
   simp only [Instr.sliceBound,asIntOf,Sem.run_bind,Sem.run_pure,Result.andThen_ok]
   rw [if_pos ⟨hq,by omega⟩]
   rfl
  ·cases he
 ·cases he
theorem evBd_some {d:D} {a n:Nat} (h:evBd (some d) a=some n):evBd (some d) 0=some n:=by
 unfold evBd at h ⊢
 split at h <;> simp_all
theorem run_bounds {P:Program} {w:World} {isS:Bool} {len cap l h m:Nat} {vl vh vm:Option Value} (h1:vm=none→m=cap) (h2:∀ u,vm=some u→∀ c,(Instr.sliceBound u cap c).run P w=.ok m w)
  (h3:vh=none→vm=none∧h=len) (h4:∀ u,vh=some u→∀ c,(Instr.sliceBound u m c).run P w=.ok h w) (h5:vl=none→l=0) (h6:∀ u,vl=some u→∀ c,(Instr.sliceBound u h c).run P w=.ok l w) :
  (Instr.sliceBounds isS len cap vl vh vm).run P w=.ok (l,h,m) w:=by
 cases vm with
 | none =>
  cases h1 rfl
  cases vh with
  | none =>
   cases (h3 rfl).2
   cases vl with
   | none=>cases h5 rfl;rfl
   | some u=>simp [Instr.sliceBounds,h6 u rfl]
  | some v =>
   cases vl with
   | none=>cases h5 rfl;simp [Instr.sliceBounds,h4 v rfl]
   | some u=>simp [Instr.sliceBounds,h4 v rfl,h6 u rfl]
 | some x =>
  cases vh with
  | none=>exact absurd (h3 rfl).1 (by simp)
  | some v =>
   cases vl with
   | none=>cases h5 rfl;simp [Instr.sliceBounds,h2 x rfl,h4 v rfl]
   | some u=>simp [Instr.sliceBounds,h2 x rfl,h4 v rfl,h6 u rfl]
theorem bd_of {P:Program} {g:G} {o:Option D} {v:Option Value} {dflt n y:Nat} (h:RO g o v) (he:evBd o dflt=some n) (hy:n≤y) (w:World) :
  (v=none→o=none∧n=dflt)∧(∀ u,v=some u→o.isSome=true∧∀ c,(Instr.sliceBound u y c).run P w=.ok n w):=by
 cases o with
 | none=>cases v with
  | none=>cases he;exact ⟨fun _=>⟨rfl,rfl⟩,fun u hu=>by cases hu⟩
  | some _=>exact h.elim
 | some d=>cases v with
  | none=>exact h.elim
  | some u=>exact ⟨fun hu=>(by cases hu),fun u' hu=>by cases hu;exact ⟨rfl,fun c=>run_sliceBound h (evBd_some he) hy w⟩⟩
theorem run_sliceAt {P:Program} {w:World} {g:G} {T e:TypeId} {inf:TypeInfo} {a:Option Addr} {len cap l h' m:Nat} {lo hi mx:Option D} {vl vh vm:Option Value} (hl:RO g lo vl) (hh:RO g hi vh) (hm:RO g mx vm)
  (hu:P.underlying T=some (.slice e)) (hinf:P.info? e=some inf) (h1:evBd lo 0=some l) (h2:evBd hi len=some h') (h3:evBd mx len=some m) (c1:l≤h') (c2:h'≤m) (c3:m≤len) (hcap:len≤cap) (c4:mx.isSome=true→hi.isSome=true) :
  ∃ m',m≤m'∧m'≤cap∧(Instr.sliceAt T (.slice a len cap) vl vh vm).run P w=.ok (.slice (if m'=l then a else a.map (·.add (l * inf.size))) (h' - l) (m' - l)) w:=by
 have bm:=bd_of (P:=P) (y:=cap) hm h3 (by omega) w
 obtain ⟨m',hm1,hm2,hm3,hm4⟩:∃ m',(vm=none→m'=cap)∧(∀ u,vm=some u→m'=m)∧m≤m'∧m'≤cap:=by
  cases vm with
  | none=>exact ⟨cap,fun _=>rfl,fun u hu=>(by cases hu),by omega,Nat.le_refl _⟩
  | some u=>exact ⟨m,fun e=>(by cases e),fun _ _=>rfl,Nat.le_refl _,by omega⟩
 have bh:=bd_of (P:=P) (y:=m') hh h2 (by omega) w
 have bl:=bd_of (P:=P) (y:=h') hl h1 c1 w
 have hbounds:(Instr.sliceBounds true len cap vl vh vm).run P w=.ok (l,h',m') w :=
  run_bounds hm1 (fun u e c=>by rw [hm2 u e];exact (bm.2 u e).2 c) (fun e=>⟨(by
   cases hvm:vm with
   | none=>rfl
   | some u =>
    have:=c4 (bm.2 u hvm).1
    rw [(bh.1 e).1] at this;cases this),(bh.1 e).2⟩) (fun u e=>(bh.2 u e).2) (fun e=>(bl.1 e).2) (fun u e=>(bl.2 u e).2)
 refine ⟨m',hm3,hm4,?_⟩
 simp only [Instr.sliceAt,Sem.run_bind,run_underlying hu,Result.andThen_ok,Instr.slice,hbounds,run_sizeOf' (show sizeT P e=some inf.size by simp [sizeT,hinf]),Sem.run_pure]
theorem ok_slice {P:Program} {w:World} {g:G} {s:St} {T:TypeId} {x d:D} {lo hi mx:Option D} {v:Value} {vl vh vm:Option Value} (h:WRel w g s) (hx:R g x v) (hl:RO g lo vl) (hh:RO g hi vh) (hm:RO g mx vm)
  (he:evSlice P T x lo hi mx=some d):Ok P (Instr.sliceAt T v vl vh vm) w g d s:=by
 unfold evSlice at he
 split at he
 ·rename_i b hu
  cases hx
  split at he
  ·rename_i l h' h1 h2
   split at he
   ·rename_i hc
    cases he
    cases vm with
    | some _=>exact hm.elim
    | none =>
     refine ⟨.string (b.extract l h'),w,g,?_,.refl g,h,.str _⟩
     have bh:=bd_of (P:=P) hh h2 hc.2 w
     have bl:=bd_of (P:=P) hl h1 hc.1 w
     have hb:=run_bounds (P:=P) (w:=w) (isS:=false) (len:=b.size) (cap:=b.size) (l:=l) (h:=h') (m:=b.size) (vl:=vl) (vh:=vh) (vm:=none) (fun _=>rfl) (fun u hu=>(by cases hu)) (fun e=>⟨rfl,(bh.1 e).2⟩)
      (fun u e=>(bh.2 u e).2) (fun e=>(bl.1 e).2) (fun u e=>(bl.2 u e).2)
     simp [Instr.sliceAt,run_underlying hu,Instr.slice,hb]
   ·cases he
  ·cases he
 ·rename_i e o xs hu
  split at he
  ·rename_i e' sz by_ ag l h' m h0 h1 h2 h3
   obtain ⟨hu',⟨inf,hinf,rfl,rfl⟩,_⟩:=elemT_some h0
   rw [hu] at hu';cases hu'
   split at he
   ·rename_i hc
    obtain ⟨c1,c2,c3,c4,c5⟩:=hc
    cases he
    obtain ⟨a,cap,szx,fx,rfl,hcx,hmx,hox,hsx,hkx,hax⟩:=slice_fl hx
    -- the real third bound
    have bm:=bd_of (P:=P) (y:=cap) hm h3 (by omega) w
    obtain ⟨m',hm1,hm2,hm3,hm4⟩:∃ m',(vm=none→m'=cap)∧(∀ u,vm=some u→m'=m)∧m≤m'∧(mx.isSome=true→m'=m):=by
     cases vm with
     | none=>exact ⟨cap,fun _=>rfl,fun u hu=>(by cases hu),by omega,fun e=>(by rw [(bm.1 rfl).1] at e;cases e)⟩
     | some u=>exact ⟨m,fun e=>(by cases e),fun _ _=>rfl,Nat.le_refl _,fun _=>rfl⟩
    have bh:=bd_of (P:=P) (y:=m') hh h2 (by omega) w
    have bl:=bd_of (P:=P) (y:=h') hl h1 c1 w
    have hbounds:(Instr.sliceBounds true xs.length cap vl vh vm).run P w=.ok (l,h',m') w :=
     run_bounds hm1 (fun u e c=>by rw [hm2 u e];exact (bm.2 u e).2 c) (fun e=>⟨(by
      cases hvm:vm with
      | none=>rfl
      | some u =>
       have:=c4 (bm.2 u hvm).1
       rw [(bh.1 e).1] at this;cases this),(bh.1 e).2⟩) (fun u e=>(bh.2 u e).2) (fun e=>(bl.1 e).2) (fun u e=>(bl.2 u e).2)
    refine ⟨.slice (if m'=l then a else a.map (·.add (l * inf.size))) (h' - l) (m' - l),w,g,?_,.refl g,h,?_⟩
    ·simp only [Instr.sliceAt,Sem.run_bind,run_underlying hu,Result.andThen_ok,Instr.slice,hbounds,run_sizeOf' (show sizeT P e=some inf.size by simp [sizeT,hinf]),Sem.run_pure]
    ·cases hx with
     | slice _ _ _ _ sz blk off val hc' hm0 ho hs ha hM hv hR =>
      have hlen:((xs.take h').drop l).length=h' - l:=by simp;omega
      rw [← hlen]
      have hsz:l≠0→0<xs.length→sz=inf.size:=by
       intro hl0 hx0
       rcases c5 with c5 | c5
       ·exact absurd c5 hl0
       ·have h1:=List.all_eq_true.1 c5 _ (List.getElem_mem hx0)
        have h2:=hs 0 hx0
        simp at h1;omega
      refine .slice _ _ _ _ sz blk (off+l * sz) (fun i j=>val (l+i) j) (by rw [hlen];omega) (by rw [hlen];omega) ?_ (fun i hi=>?_) (fun hpos=>?_) (fun i j hi hj=>?_) (fun i j hi hj=>?_) (fun i j hi hj=>?_)
      ·by_cases hmx:mx.isSome=true
       ·rw [if_pos hmx]
        split
        ·rename_i e1;show m' - l=_;rw [hlen,hm4 hmx];omega
        ·trivial
       ·rw [if_neg hmx]
        split
        ·rename_i e1
         obtain ⟨rfl,e2⟩:=e1
         show m' - l=_
         have hvm:vm=none:=by
          cases hvm:vm with
          | none=>rfl
          | some u=>exact absurd (bm.2 u hvm).1 hmx
         have hcap:cap=xs.length:=hox
         rw [hlen,hm1 hvm];omega
        ·trivial
      ·simp only [List.getElem_drop,List.getElem_take]
       exact hs _ _
      ·rw [hlen] at hpos
       have hx0:0<xs.length:=by omega
       rw [if_neg (by omega),ha hx0]
       simp only [Option.map_some,add_none]
       by_cases hl0:l=0
       ·subst hl0;simp
       ·rw [hsz hl0 hx0]
      ·rw [hlen] at hi
       have:=hM (l+i) j (by omega) hj
       rw [Nat.add_mul,← Nat.add_assoc] at this
       exact this
      ·rw [hlen] at hi
       exact hv (l+i) j (by omega) hj
      ·simp only [List.getElem_drop,List.getElem_take]
       rw [hlen] at hi
       exact hR (l+i) j (by omega) (by simpa using hj)
   ·cases he
  ·cases he
 ·rename_i e hu
  split at he
  ·rename_i el h0 h1 h2 h3
   obtain ⟨e',sz,by_,ag⟩:=el
   obtain ⟨hu',⟨inf,hinf,rfl,rfl⟩,_⟩:=elemT_some h0
   rw [hu] at hu';cases hu'
   split at he
   ·rename_i c4
    cases he
    cases hx with
    | row0 a =>
     obtain ⟨m',q1,q2,q3⟩:=run_sliceAt (P:=P) (w:=w) (a:=a) (cap:=0) hl hh hm hu hinf h1 h2 h3 (by omega) (by omega) (by omega) (by omega) c4
     obtain rfl:m'=0:=by omega
     exact ⟨_,w,g,q3,.refl g,h,.row0 _⟩
   ·cases he
  ·cases he
 ·rename_i e b off n rsz hu
  split at he
  ·rename_i e' sz by_ ag l h' m h0 h1 h2 h3
   obtain ⟨hu',⟨inf,hinf,rfl,rfl⟩,_⟩:=elemT_some h0
   rw [hu] at hu';cases hu'
   split at he
   ·rename_i hc
    obtain ⟨c1,c2,c3,c4,rfl⟩:=hc
    cases he
    cases hx with
    | row _ _ _ _ blk M cap hB hS hcap hn hz0 hM =>
     obtain ⟨m',q1,q2,q3⟩:=run_sliceAt (P:=P) (w:=w) (a:=some ⟨blk,off,none⟩) (cap:=cap) hl hh hm hu hinf h1 h2 h3 c1 c2 c3 hcap c4
     refine ⟨_,w,g,q3,.refl g,h,?_⟩
     have hmul:(m' - l) * inf.size+l * inf.size≤cap * inf.size:=by
      rw [← Nat.add_mul];exact Nat.mul_le_mul_right _ (by omega)
     split
     ·rename_i hl0
      subst hl0
      have e1:(if m'=0 then some (⟨blk,off,none⟩:Addr) else (some ⟨blk,off,none⟩:Option Addr).map (·.add (0 * inf.size)))=some ⟨blk,off,none⟩:=by
       simp [add_none]
      rw [e1]
      exact .row _ _ _ _ blk M _ hB hS (by omega) (by omega) hz0 (by omega)
     ·rename_i hl0
      split
      ·rename_i hlt
       rw [if_neg (by omega)]
       simp only [Option.map_some,add_none]
       exact .row _ _ _ _ blk M _ hB hS (by omega) (by omega) hz0 (by omega)
      ·rename_i hlt
       rw [show h' - l=([]:List (List D)).length by simp;omega]
       exact .slice .none [] _ _ 0 0 0 (fun _ _=>.nilFunc) (by simp) (by simp) trivial (fun i hi=>by simp at hi) (fun h=>by simp at h) (fun i j hi=>by simp at hi) (fun i j hi=>by simp at hi) (fun i j hi=>by simp at hi)
   ·cases he
  ·cases he
 ·rename_i e b off n c rsz hu
  split at he
  ·rename_i e' sz by_ ag l h' h0 h1 h2
   obtain ⟨hu',⟨inf,hinf,rfl,rfl⟩,_⟩:=elemT_some h0
   rw [hu] at hu';cases hu'
   split at he
   ·rename_i hc
    obtain ⟨c1,c2,rfl⟩:=hc
    cases he
    cases vm with
    | some _=>exact hm.elim
    | none =>
    cases hx with
    | msl _ _ _ _ _ blk M hB hS hcap hz0 hM =>
     have bh:=bd_of (P:=P) (y:=c) hh h2 c2 w
     have bl:=bd_of (P:=P) (y:=h') hl h1 c1 w
     have hbounds:(Instr.sliceBounds true n c vl vh none).run P w=.ok (l,h',c) w :=
      run_bounds (fun _=>rfl) (fun u e=>(by cases e)) (fun e=>⟨rfl,(bh.1 e).2⟩) (fun u e=>(bh.2 u e).2) (fun e=>(bl.1 e).2) (fun u e=>(bl.2 u e).2)
     refine ⟨.slice (if c=l then some ⟨blk,off,none⟩ else (some ⟨blk,off,none⟩:Option Addr).map (·.add (l * inf.size))) (h' - l) (c - l),w,g,?_,.refl g,h,?_⟩
     ·simp only [Instr.sliceAt,Sem.run_bind,run_underlying hu,Result.andThen_ok,Instr.slice,hbounds,run_sizeOf' (show sizeT P e=some inf.size by simp [sizeT,hinf]),Sem.run_pure]
     ·have hmul:(c - l) * inf.size+l * inf.size=c * inf.size:=by
       rw [← Nat.add_mul];congr 1;omega
      split
      ·rename_i hl0
       subst hl0
       have e1:(if c=0 then some (⟨blk,off,none⟩:Addr) else (some ⟨blk,off,none⟩:Option Addr).map (·.add (0 * inf.size)))=some ⟨blk,off,none⟩:=by
        simp [add_none]
       rw [e1]
       exact .msl _ _ _ _ _ blk M hB hS (by omega) hz0 (by omega)
      ·split
       ·rename_i hlt
        rw [if_neg (by omega)]
        simp only [Option.map_some,add_none]
        exact .msl _ _ _ _ _ blk M hB hS (by omega) hz0 (by omega)
       ·exact .junk _
   ·cases he
  ·cases he
 ·cases he
def evMin (x y:D):Option D:=match x,y with
 | .int k a,.int _ b=>some (.int k (if b<a then b else a))
 | _,_=>none
def evMax (x y:D):Option D:=match x,y with
 | .int k a,.int _ b=>some (.int k (if b > a then b else a))
 | _,_=>none
theorem ok_min {P:Program} {w:World} {g:G} {s:St} {ts:Array TypeId} {ty:TypeId} {x y d:D} {u v:Value} (h:WRel w g s) (hx:R g x u) (hy:R g y v) (he:evMin x y=some d):Ok P (Builtin.min_ ts ty #[u,v]) w g d s:=by
 unfold evMin at he
 split at he
 ·cases he;cases hx;cases hy
  exact ⟨_,w,g,by simp only [Builtin.min_,List.foldlM,Builtin.min2,Sem.run_bind,Sem.run_pure,Result.andThen_ok],.refl g,h,.int _ _⟩
 ·cases he
theorem ok_max {P:Program} {w:World} {g:G} {s:St} {ts:Array TypeId} {ty:TypeId} {x y d:D} {u v:Value} (h:WRel w g s) (hx:R g x u) (hy:R g y v) (he:evMax x y=some d):Ok P (Builtin.max_ ts ty #[u,v]) w g d s:=by
 unfold evMax at he
 split at he
 ·cases he;cases hx;cases hy
  exact ⟨_,w,g,by simp only [Builtin.max_,List.foldlM,Builtin.max2,Sem.run_bind,Sem.run_pure,Result.andThen_ok],.refl g,h,.int _ _⟩
 ·cases he
def evNilCheck (x:D):Option D :=
 match x with
 | .box b o=>some (.box b o)
 | .pin cs=>some (.pin cs)
 | .func (.func f) a c=>some (.func (.func f) a c)
 | .yield b=>some (.yield b)
 | _=>none
def evCap (P:Program) (T:TypeId) (x:D):Option D :=
 match P.underlying T,x with
 | some (.slice _),.msl _ _ _ c _=>some (.int .i64 c)
 | _,_=>none
theorem ok_cap {P:Program} {w:World} {g:G} {s:St} {T ty:TypeId} {x d:D} {v:Value} (h:WRel w g s) (hx:R g x v) (he:evCap P T x=some d):Ok P (Builtin.cap_ #[T] ty #[v]) w g d s:=by
 unfold evCap at he
 split at he
 ·rename_i e b off n c rsz hu
  cases he
  cases hx
  exact ⟨_,w,g,by simp [Builtin.cap_,run_underlying hu,goInt],.refl g,h,.int _ _⟩
 ·cases he
theorem WRel.revive {w:World} {g:G} {s:St} {i b:Nat} {cs:List D} {arr:Array Value} {T:TypeId} (h:WRel w g { s with boxes:=s.boxes.set i .dead }) (hi:i<s.boxes.length) (hB:g.B i=some b) (hh:w.heap[b]? = some (.cells arr T (0,0))) (hlen:cs.length≤arr.size)
  (hR:∀ (j:Nat) (h1:j<cs.length) (h2:j<arr.size),R g cs[j] arr[j]∧arr[j].oneCell'=true) (hM:∀ o,g.M b o=none) (ho:∀ j,Live1 { s with boxes:=s.boxes.set i .dead } j→g.B j≠some b):WRel w g { s with boxes:=s.boxes.set i (.cells cs) }:=by
 have hl:∀ j,j≠i→Live1 { s with boxes:=s.boxes.set i (.cells cs) } j→Live1 { s with boxes:=s.boxes.set i .dead } j:=fun j hj ⟨bx,e1,e2⟩=>by
  simp only at e1
  rw [List.getElem?_set_ne (by omega)] at e1
  exact ⟨bx,by simp only;rw [List.getElem?_set_ne (by omega)];exact e1,e2⟩
 refine { os:=h.os,tape:=h.tape,out:=h.out,fz:=h.fz,n:=h.n,old:=h.old,m:=h.m,box:=fun j bx hj=>?_,inj:=fun j k c h1 h2 l1 l2=>?_,dom:=fun j c hj=>by have:=h.dom j c hj;simpa using this,live:=h.live,uniq:=h.uniq,ldom:=h.ldom,o:=h.o,nd:=h.nd,sz:=h.sz }
 ·by_cases e:j=i
  ·subst e
   simp only at hj
   rw [List.getElem?_set_self hi] at hj;cases hj
   exact ⟨b,arr,T,(0,0),hB,hh,hlen,hR,hM,rfl⟩
  ·simp only at hj
   rw [List.getElem?_set_ne (by omega)] at hj
   exact h.box j bx (by simp only;rw [List.getElem?_set_ne (by omega)];exact hj)
 ·by_cases e:j=i
  ·by_cases e2:k=i
   ·omega
   ·subst e;rw [hB] at h1;cases h1;exact absurd h2 (ho k (hl k e2 l2))
  ·by_cases e2:k=i
   ·subst e2;rw [hB] at h2;cases h2;exact absurd h1 (ho j (hl j e l1))
   ·exact h.inj j k c h1 h2 (hl j e l1) (hl k e2 l2)
def dstOf:D→Option (Nat × Nat × Nat × Nat)
 | .row b off n z=>some (b,off,n,z)
 | .msl b off n _ z=>some (b,off,n,z)
 | _=>none
def cntOf:D→Option Nat
 | .slice _ xs=>some xs.length
 | .row0=>some 0
 | .row _ _ n _=>some n
 | .msl _ _ n _ _=>some n
 | _=>none
def srcOf (sz n:Nat) (s:St):D→Option (List D)
 | .slice _ xs=>if xs.all (·.length == sz)=true then some (xs.take n).flatten else none
 | .row b off _ z=>match s.boxes[b]? with
  | some (.cells cs)=>if z=sz∧off+n * sz≤cs.length then some ((cs.drop off).take (n * sz)) else none
  | _=>none
 | .msl b off _ _ z=>match s.boxes[b]? with
  | some (.cells cs)=>if z=sz∧off+n * sz≤cs.length then some ((cs.drop off).take (n * sz)) else none
  | _=>none
 | _=>none
def evCopy (P:Program) (T:TypeId) (x y:D) (s:St):Option (D × St) :=
 match elemT P T,dstOf x,cntOf y with
 | some (_,sz,_,_),some (b,off,n,z),some k=>match s.boxes[b]?,srcOf sz (min k n) s y with
  | some (.cells cs),some ds=>if z=sz∧0<sz∧off≤cs.length then some (.int .i64 (min k n:Nat),{ s with boxes:=s.boxes.set b (.cells (storeD cs off ds)) }) else none
  | _,_=>none
 | _,_,_=>none
theorem dst_ok {g:G} {x:D} {v:Value} {b off n z:Nat} (hx:R g x v) (h:dstOf x=some (b,off,n,z)):∃ blk m cap,v=.slice (some ⟨blk,off,none⟩) n cap∧g.B b=some blk∧g.S blk=some m∧n≤cap∧off+cap * z≤m:=by
 cases hx <;> cases h <;> exact ⟨_,_,_,rfl,by assumption,by assumption,by assumption,by assumption⟩
theorem src_ok {P:Program} {w:World} {g:G} {s:St} {y:D} {u:Value} {k n sz:Nat} {ds:List D} (h:WRel w g s) (hy:R g y u) (hk:cntOf y=some k) (hn:n≤k) (hd:srcOf sz n s y=some ds) :
    ∃ a c vs,u=.slice a k c∧CellsOk g ds vs∧vs.length=n * sz∧(Builtin.firstCells sz n u).run P w=.ok vs.toArray w:=by
  have box:∀ (b off z blk c:Nat) (cs:List D),s.boxes[b]? = some (.cells cs)→g.B b=some blk→u=.slice (some ⟨blk,off,none⟩) k c→off+n * sz≤cs.length→ds=(cs.drop off).take (n * sz)→∃ a c vs,u=.slice a k c∧CellsOk g ds vs∧vs.length=n * sz∧(Builtin.firstCells sz n u).run P w=.ok vs.toArray w:=by
    intro b off z blk c cs hb hB hu ho hds
    obtain ⟨blk',arr,T0,fr,q1,q2,q3,q4,q5⟩:=h.box b _ hb
    rw [hB] at q1;cases q1
    have hvl:((arr.toList.drop off).take (n * sz)).length=n * sz:=by simp;omega
    refine ⟨_,c,(arr.toList.drop off).take (n * sz),hu,⟨by rw [hds,hvl];simp;omega,fun j j1 j2=>?_⟩,hvl,?_⟩
    · rw [hvl] at j2
      have:=q4 (off+j) (by omega) (by omega)
      subst hds
      simpa using this
    · subst hu
      refine run_firstCells_some _ _ _ _ _ _ _ hvl (fun j v hj=>?_)
      rw [add_none]
      obtain ⟨hlt,rfl⟩:=List.getElem?_eq_some_iff.1 hj
      have hlt2:off+j<arr.size:=by rw [hvl] at hlt;omega
      simp [World.cell?,q2,hlt2]
  cases y with
  | slice o xs =>
    cases hk
    simp only [srcOf] at hd
    split at hd
    · rename_i hall
      cases hd
      obtain ⟨a,cap,sz',fl,rfl,hc,hm,ho,hs,hkk,ha⟩:=slice_fl hy
      have hall':∀ x ∈ xs,x.length=sz:=fun x hx=>by simpa using List.all_eq_true.1 hall x hx
      have hfl:fl.length=xs.length * sz:=by rw [← hkk.1,flatten_length xs hall']
      have hns:n * sz≤xs.length * sz:=Nat.mul_le_mul_right _ hn
      have hft:(xs.take n).flatten=xs.flatten.take (n * sz):=by
        have e:xs.flatten=(xs.take n).flatten++(xs.drop n).flatten:=by rw [← List.flatten_append,List.take_append_drop]
        have hl:(xs.take n).flatten.length=n * sz:=by rw [flatten_length _ (fun x hx=>hall' x (List.mem_of_mem_take hx)),List.length_take,Nat.min_eq_left hn]
        rw [e,← hl,List.take_left']
        rfl
      refine ⟨a,cap,fl.take (n * sz),rfl,by rw [hft];exact hkk.take _,by simp;omega,?_⟩
      rcases Nat.eq_zero_or_pos (n * sz) with e0 | e0
      · rw [e0]
        cases a with
        | none=>exact run_firstCells_none _ _ _ _ _
        | some b=>exact run_firstCells_some _ _ _ _ _ _ [] (by simp [e0]) (fun j v hj=>by simp at hj)
      · have hn0 : 0 < n := by rcases Nat.eq_zero_or_pos n with e | e; · rw [e] at e0; simp at e0
                               · exact e
        obtain ⟨blk,off,rfl,hMy⟩:=ha (by omega)
        refine run_firstCells_some _ _ _ _ _ _ _ (by simp;omega) (fun j v hj=>?_)
        rw [add_none]
        rw [List.getElem?_take] at hj
        split at hj
        · exact h.m _ _ _ (hMy j v hj)
        · cases hj
    · cases hd
  | row b off m z =>
    cases hk
    simp only [srcOf] at hd
    split at hd
    · rename_i cs hb
      split at hd
      · rename_i hc
        cases hd
        cases hy with
        | row _ _ _ _ blk M cap hB hS hcap hn' hz hm=>exact box b off z blk cap cs hb hB rfl hc.2 rfl
      · cases hd
    · cases hd
  | msl b off m c z =>
    cases hk
    simp only [srcOf] at hd
    split at hd
    · rename_i cs hb
      split at hd
      · rename_i hc
        cases hd
        cases hy with
        | msl _ _ _ _ _ blk M hB hS hcap hz hm=>exact box b off z blk c cs hb hB rfl hc.2 rfl
      · cases hd
    · cases hd
  | _=>simp [srcOf] at hd
theorem ok_copy {P:Program} {w:World} {g:G} {s s':St} {T T' ty:TypeId} {x y d:D} {v u:Value} (h:WRel w g s) (hx:R g x v) (hy:R g y u) (he:evCopy P T x y s=some (d,s')) :
  Ok P (Builtin.copy_ #[T,T'] ty #[v,u]) w g d s':=by
 unfold evCopy at he
 split at he
 ·rename_i e sz by_ ag b off n z k h1 h2 h3
  split at he
  ·rename_i cs ds hb hs
   split at he
   ·rename_i hc
    obtain ⟨rfl,hz0,hoff⟩:=hc
    cases he
    obtain ⟨hu,⟨i,hi,rfl,rfl⟩,_⟩:=elemT_some h1
    obtain ⟨blk,m,cap,rfl,hB,hS,hcap,hm⟩:=dst_ok hx h2
    obtain ⟨a,c,vs,rfl,hkk,hvl,hrun⟩:=src_ok (P:=P) h hy h3 (Nat.min_le_left k n) hs
    obtain ⟨blk',arr,T0,fr,q1,q2,q3,q4,q5⟩:=h.box b _ hb
    rw [hB] at q1;cases q1
    obtain ⟨a2,T2,f2,e1,e2⟩:=h.sz blk m hS
    rw [q2] at e1;cases e1
    have hbl:=(List.getElem?_eq_some_iff.1 hb).1
    have hN:=(h.dom b blk hB).2.1
    have hdl:ds.length=min k n * i.size:=by rw [hkk.1,hvl]
    have hroom:off+ds.length≤arr.size:=by
     have:min k n * i.size≤cap * i.size:=Nat.mul_le_mul_right _ (by omega)
     omega
    have key:∃ w',(storeCells ⟨blk,off,none⟩ vs 0).run P w=.ok () w'∧WRel w' g { s with boxes:=s.boxes.set b (.cells (storeD cs off ds)) }:=by
     by_cases hin:off+ds.length≤cs.length
     ·obtain ⟨w',hr,hw'⟩:=WRel.storeBox (P:=P) ds vs w s b blk off 0 cs h hb hB (by omega) hkk.1 hkk.2
      exact ⟨w',hr,by rw [storeD_eq _ _ _ hin];simpa using hw'⟩
     ·have hlive:∀ j,Live1 { s with boxes:=s.boxes.set b .dead } j→g.B j≠some blk:=by
       intro j hj hjB
       obtain ⟨l1,l2⟩:=live1_kill hj
       exact l2 (h.inj j b blk hjB hB l1 ⟨_,hb,by simp⟩)
      obtain ⟨w',arr',hr,hw',hh',hs',hcc,hkeep⟩:=WRel.storeFree (P:=P) (off:=off) hN hlive vs w 0 arr T0 fr q5.2 (h.kill b) q2 (by rw [hvl,← hdl];omega)
       (fun j hj=>q5.1 _) (fun v hv=>by obtain ⟨j,hj,rfl⟩:=List.getElem_of_mem hv;exact (hkk.2 j (by rw [hkk.1];exact hj) hj).2)
      have hfr:=q5.2
      subst hfr
      refine ⟨w',hr,hw'.revive hbl hB hh' ?_ (fun j p1 p2=>?_) q5.1 hlive⟩
      ·simp only [storeD,List.length_append,List.length_take,List.length_drop];omega
      ·have hst:storeD cs off ds=cs.take off++ds:=by
        simp only [storeD]
        rw [List.drop_eq_nil_of_le (by omega),List.append_nil]
       simp only [hst] at p1 ⊢
       have hto:(cs.take off).length=off:=by simp;omega
       by_cases hj:j<off
       ·rw [List.getElem_append_left (by rw [hto];exact hj)]
        have e3:=hkeep j (by omega)
        rw [Array.getElem?_eq_getElem p2,Array.getElem?_eq_getElem (by omega)] at e3
        rw [Option.some.inj e3]
        simpa using q4 j (by omega) (by omega)
       ·have hj2:j - off<ds.length:=by rw [List.length_append,hto] at p1;omega
        have hj3:j - off<vs.length:=by rw [← hkk.1];exact hj2
        rw [List.getElem_append_right (by rw [hto];omega)]
        have e3:=hcc (j - off) hj3
        rw [show off+0+(j - off)=j by omega,Array.getElem?_eq_getElem p2] at e3
        rw [Option.some.inj e3]
        simp only [hto]
        exact hkk.2 _ hj2 hj3
    obtain ⟨w',hr,hw'⟩:=key
    refine ⟨.int .i64 (min k n:Nat),w',g,?_,.refl g,hw',.int _ _⟩
    simp [Builtin.copy_,run_underlying hu,Builtin.lenOf,sizeOf,typeInfo,hi,hrun,hr,goInt]
   ·cases he
  ·cases he
 ·cases he
def evBuiltin (P:Program) (b:Builtin) (ts:List TypeId) (xs:List D) (s:St):Option (D × St) :=
 match b,ts,xs with
 | .len,[T],[x]=>(evLen P T x s).map (·,s)
 | .append,[T,T'],[x,y]=>evAppend P T T' x y s
 | .min,_,[x,y]=>(evMin x y).map (·,s)
 | .max,_,[x,y]=>(evMax x y).map (·,s)
 | .delete,[T,_],[m,k]=>(evDelete P T m k s).map (.tup [],·)
 | .clear,[T],[x]=>(evClear P T x s).map (.tup [],·)
 | .cap,[T],[x]=>(evCap P T x).map (·,s)
 | .copy,[T,_],[x,y]=>evCopy P T x y s
 | _,_,_=>none
def evalOp (P:Program) (ρ:Operand→D) (s:St) (op:Op):Option (D × St) :=
 match op with
 | .move x=>some (ρ x,s)
 | .assign x=>some (ρ x,s)
 | .pick c a b=>match ρ c with
  | .bool t=>some (bif t then ρ a else ρ b,s)
  | _=>none
 | .alloc T=>evAlloc P T s
 | .box _ x=>evBoxOp (ρ x) s
 | .build T ps=>(evBuild P T (ps.toList.map fun q=>(q.1,ρ q.2))).map (·,s)
 | .buildSlice T n ps=>(evBuildSlice P T n (ps.toList.map fun q=>(q.1,ρ q.2))).map (·,s)
 | .load T a=>(evLoad P T (ρ a) s).map (·,s)
 | .store T a x=>(evStore P T (ρ a) (ρ x) s).map (.junk,·)
 | .nilCheck x=>(evNilCheck (ρ x)).map (·,s)
 | .binOp op T x y _=>(evBin P op T (ρ x) (ρ y)).map (·,s)
 | .unOp op _ x=>(evUn op (ρ x)).map (·,s)
 | .convert src dst x=>(evConv P src dst (ρ x)).map (·,s)
 | .makeFunc fn fi ca=>some (.func fn (fi.toList.map ρ) (ca.toList.map ρ),s)
 | .slice T x lo hi mx=>(evSlice P T (ρ x) (lo.map ρ) (hi.map ρ) (mx.map ρ)).map (·,s)
 | .fieldAddr T x f=>(evFieldAddr P T (ρ x) f).map (·,s)
 | .field T x f=>(evField P T (ρ x) f).map (·,s)
 | .indexAddr T x i=>(evIndexAddr P T (ρ x) (ρ i)).map (·,s)
 | .index T x i=>(evIndex P T (ρ x) (ρ i)).map (·,s)
 | .extract t i=>(evExtract (ρ t) i).map (·,s)
 | .makeMap T r=>match r with
  | none=>evMakeMap s
  | some x=>match ρ x,P.underlying T with
   | .int _ _,some (.map _ _)=>evMakeMap s
   | _,_=>none
 | .makeSlice T l c=>evMakeSlice P T (ρ l) (ρ c) s
 | .lookup T m i ok=>(evLookup P T (ρ m) (ρ i) ok s).map (·,s)
 | .mapUpdate T m i x=>(evMapUpdate P T (ρ m) (ρ i) (ρ x) s).map (.junk,·)
 | .insert T m i x=>(evMapUpdate P T (ρ m) (ρ i) (ρ x) s).map (.junk,·)
 | .call { callee:=.builtin b,args,argTypes }=>evBuiltin P b argTypes.toList (args.toList.map ρ) s
 | _=>none
def OpOk (P:Program) (m:Sem Next) (w:World) (g:G) (d:D) (s':St):Prop :=
 ∃ nx w' g',m.run P w=.ok nx w'∧g.le g'∧WRel w' g' s'∧((∃ v,nx=.value v∧R g' d v)∨(nx=.skip∧d=.junk))
theorem OpOk.of {P:Program} {m:Sem Value} {w:World} {g:G} {d:D} {s':St} (h:Ok P m w g d s'):OpOk P (do pure (.value (← m))) w g d s':=by
 obtain ⟨v,w',g',h1,h2,h3,h4⟩:=h
 exact ⟨.value v,w',g',by simp only [Sem.run_bind,h1,Result.andThen_ok,Sem.run_pure],h2,h3,.inl ⟨v,rfl,h4⟩⟩
theorem map_some {α β:Type} {o:Option α} {f:α→β} {y:β} (h:o.map f=some y):∃ x,o=some x∧f x=y:=Option.map_eq_some_iff.1 h
theorem partsOk_of {g:G} {ρ:Operand→D} {ρc:Operand→Value} {ps:Array (Nat × Operand)} (h:∀ x ∈ (ps.toList.map (·.2)),R g (ρ x) (ρc x)) :
  partsOk g (ps.toList.map fun q=>(q.1,ρ q.2)) (ps.map fun q=>(q.1,ρc q.2)):=by
 refine ⟨by simp,fun j h1 h2=>?_⟩
 simp only [List.getElem_map,Array.getElem_map,Array.getElem_toList]
 refine ⟨trivial,h _ ?_⟩
 simp only [List.mem_map]
 exact ⟨ps[j]'(by simpa using h2),by simp,rfl⟩
theorem evalOp_ok {P:Program} {ρ:Operand→D} {ρc:Operand→Value} {w:World} {g:G} {s s':St} {o:Oper} {d:D} (hρ:∀ x ∈ o.op.operands,R g (ρ x) (ρc x)) (h:WRel w g s)
  (he:evalOp P ρ s o.op=some (d,s')):OpOk P (execOp ρc o) w g d s'∧(∀ c,o.op≠.defer c):=by
 obtain ⟨dst,op,type,pos,after,guard⟩:=o
 simp only at he hρ
 refine ⟨?_,fun c hc=>by simp only at hc;subst hc;cases he⟩
 cases op <;> simp only [evalOp] at he <;> simp only [execOp]
 case move x=>cases he;exact ⟨_,w,g,rfl,.refl g,h,.inl ⟨_,rfl,hρ x (by simp [Op.operands])⟩⟩
 case assign x=>cases he;exact ⟨_,w,g,rfl,.refl g,h,.inl ⟨_,rfl,hρ x (by simp [Op.operands])⟩⟩
 case pick c a b =>
  have hc:=hρ c (by simp [Op.operands])
  split at he
  ·rename_i t ht
   cases he
   rw [ht] at hc
   cases hcc:ρc c <;> rw [hcc] at hc <;> cases hc
   refine ⟨.value (if t then ρc a else ρc b),w,g,by simp [asBool],.refl g,h,.inl ⟨_,rfl,?_⟩⟩
   cases t
   ·exact hρ b (by simp [Op.operands])
   ·exact hρ a (by simp [Op.operands])
  ·cases he
 case alloc T=>exact .of (ok_alloc h he)
 case box T x=>exact .of (ok_box h (hρ x (by simp [Op.operands])) he)
 case build T ps =>
  obtain ⟨x,hx,e⟩:=map_some he;cases e
  exact .of (ok_build h (partsOk_of fun x hx=>hρ x (by simpa [Op.operands] using hx)) hx)
 case buildSlice T n ps =>
  obtain ⟨x,hx,e⟩:=map_some he;cases e
  exact .of (ok_buildSlice h (partsOk_of fun x hx=>hρ x (by simpa [Op.operands] using hx)) hx)
 case load T a =>
  obtain ⟨x,hx,e⟩:=map_some he;cases e
  exact .of (ok_load h (hρ a (by simp [Op.operands])) hx)
 case store T a x =>
  obtain ⟨s1,hx,e⟩:=map_some he;cases e
  obtain ⟨w',h1,h2⟩:=ok_store h (hρ a (by simp [Op.operands])) (hρ x (by simp [Op.operands])) hx
  exact ⟨.skip,w',g,by simp only [Sem.run_bind,h1,Result.andThen_ok,Sem.run_pure],.refl g,h2,.inr ⟨rfl,rfl⟩⟩
 case nilCheck x =>
  obtain ⟨y,hy,e⟩:=map_some he;cases e
  have hx:=hρ x (by simp [Op.operands])
  unfold evNilCheck at hy
  split at hy <;> first | cases hy | skip
  all_goals (rename_i heq;rw [heq] at hx;cases hcc:ρc x <;> rw [hcc] at hx <;> cases hx;exact ⟨_,w,g,rfl,.refl g,h,.inl ⟨_,rfl,by rw [← hcc,← heq];exact hρ x (by simp [Op.operands])⟩⟩)
 case binOp op T x y yT =>
  obtain ⟨z,hz,e⟩:=map_some he;cases e
  exact .of (ok_binOp h (hρ x (by simp [Op.operands])) (hρ y (by simp [Op.operands])) hz)
 case unOp op T x =>
  obtain ⟨z,hz,e⟩:=map_some he;cases e
  exact .of (ok_unOp h (hρ x (by simp [Op.operands])) hz)
 case convert src dst' x =>
  obtain ⟨z,hz,e⟩:=map_some he;cases e
  exact .of (ok_convert h (hρ x (by simp [Op.operands])) hz)
 case makeFunc fn fi ca =>
  cases he
  refine ⟨_,w,g,rfl,.refl g,h,.inl ⟨_,rfl,.func _ _ _ _ _ (by simp) (by simp) (fun i h1 h2=>?_) (fun i h1 h2=>?_)⟩⟩
  ·simp only [List.getElem_map,Array.getElem_map,Array.getElem_toList];exact hρ _ (by simp [Op.operands])
  ·simp only [List.getElem_map,Array.getElem_map,Array.getElem_toList];exact hρ _ (by simp [Op.operands])
 case slice T x lo hi mx =>
  obtain ⟨z,hz,e⟩:=map_some he;cases e
  refine .of (ok_slice h (hρ x (by simp [Op.operands])) ?_ ?_ ?_ hz)
  ·cases lo with
   | none=>trivial
   | some y=>exact hρ y (by simp [Op.operands])
  ·cases hi with
   | none=>trivial
   | some y=>exact hρ y (by simp [Op.operands])
  ·cases mx with
   | none=>trivial
   | some y=>exact hρ y (by simp [Op.operands])
 case fieldAddr T x f =>
  obtain ⟨z,hz,e⟩:=map_some he;cases e
  exact .of (ok_fieldAddr h (hρ x (by simp [Op.operands])) hz)
 case field T x f =>
  obtain ⟨z,hz,e⟩:=map_some he;cases e
  exact .of (ok_field h (hρ x (by simp [Op.operands])) hz)
 case indexAddr T x i =>
  obtain ⟨z,hz,e⟩:=map_some he;cases e
  exact .of (ok_indexAddr h (hρ x (by simp [Op.operands])) (hρ i (by simp [Op.operands])) hz)
 case index T x i =>
  obtain ⟨z,hz,e⟩:=map_some he;cases e
  exact .of (ok_index h (hρ x (by simp [Op.operands])) (hρ i (by simp [Op.operands])) hz)
 case extract t i =>
  obtain ⟨z,hz,e⟩:=map_some he;cases e
  exact .of (ok_extract h (hρ t (by simp [Op.operands])) hz)
 case makeMap T r =>
  split at he
  ·cases he
   exact .of (ok_makeMap h (fun u hu=>by cases hu))
  ·rename_i x
   split at he
   ·rename_i k n a b hx hu
    cases he
    refine .of (ok_makeMap h (fun u hu'=>?_))
    simp only [Option.map_some,Option.some.injEq] at hu'
    have hR:=hρ x (by simp [Op.operands])
    rw [hx,hu'] at hR
    cases hR
    exact ⟨⟨_,_,rfl⟩,_,_,hu⟩
   ·cases he
 case makeSlice T l c=>exact .of (ok_makeSlice h (hρ l (by simp [Op.operands])) (hρ c (by simp [Op.operands])) he)
 case lookup T m i ok =>
  obtain ⟨z,hz,e⟩:=map_some he;cases e
  exact .of (ok_lookup h (hρ m (by simp [Op.operands])) (hρ i (by simp [Op.operands])) hz)
 case mapUpdate T m i x =>
  obtain ⟨s1,hx,e⟩:=map_some he;cases e
  obtain ⟨w',h1,h2⟩:=ok_mapUpdate h (hρ m (by simp [Op.operands])) (hρ i (by simp [Op.operands])) (hρ x (by simp [Op.operands])) hx
  exact ⟨.skip,w',g,by simp only [Sem.run_bind,h1,Result.andThen_ok,Sem.run_pure],.refl g,h2,.inr ⟨rfl,rfl⟩⟩
 case insert T m i x =>
  obtain ⟨s1,hx,e⟩:=map_some he;cases e
  obtain ⟨w',h1,h2⟩:=ok_mapUpdate h (hρ m (by simp [Op.operands])) (hρ i (by simp [Op.operands])) (hρ x (by simp [Op.operands])) hx
  exact ⟨.skip,w',g,by simp only [Sem.run_bind,h1,Result.andThen_ok,Sem.run_pure],.refl g,h2,.inr ⟨rfl,rfl⟩⟩
 case call c =>
  obtain ⟨callee,args,ts⟩:=c
  cases callee with
  | value f=>cases he
  | invoke r m=>cases he
  | builtin b =>
   simp only at he
   unfold evBuiltin at he
   split at he
   ·rename_i T x hts hargs
    obtain rfl:ts = #[T]:=by apply Array.ext';simpa using hts
    obtain ⟨z,hz,e⟩:=map_some he;cases e
    obtain ⟨q,hq⟩:∃ q,args = #[q]:=by
     have:args.toList.length=1:=by rw [← List.length_map (f:=ρ),hargs];rfl
     obtain ⟨q,hq⟩:=List.length_eq_one_iff.1 this
     exact ⟨q,by apply Array.ext';simpa using hq⟩
    subst hq
    cases hargs
    have:=OpOk.of (ok_len (ty:=type) h (hρ q (by simp [Op.operands,Call.operands])) hz)
    simpa [resolve,invoke,builtin,OpOk] using this
   ·rename_i T T' x y hts hargs
    obtain rfl:ts = #[T,T']:=by apply Array.ext';simpa using hts
    obtain ⟨q,r,hq⟩:∃ q r,args = #[q,r]:=by
     have:args.toList.length=2:=by rw [← List.length_map (f:=ρ),hargs];rfl
     match hl:args.toList,this with
     | [q,r],_=>exact ⟨q,r,by apply Array.ext';simpa using hl⟩
    subst hq
    cases hargs
    have:=OpOk.of (ok_append (ty:=type) h (hρ q (by simp [Op.operands,Call.operands])) (hρ r (by simp [Op.operands,Call.operands])) he)
    simpa [resolve,invoke,builtin,OpOk] using this
   ·rename_i x y hargs
    obtain ⟨z,hz,e⟩:=map_some he;cases e
    obtain ⟨q,r,hq⟩:∃ q r,args = #[q,r]:=by
     have:args.toList.length=2:=by rw [← List.length_map (f:=ρ),hargs];rfl
     match hl:args.toList,this with
     | [q,r],_=>exact ⟨q,r,by apply Array.ext';simpa using hl⟩
    subst hq
    cases hargs
    have:=OpOk.of (ok_min (ts:=ts) (ty:=type) (P:=P) h (hρ q (by simp [Op.operands,Call.operands])) (hρ r (by simp [Op.operands,Call.operands])) hz)
    simpa [resolve,invoke,builtin,OpOk] using this
   ·rename_i x y hargs
    obtain ⟨z,hz,e⟩:=map_some he;cases e
    obtain ⟨q,r,hq⟩:∃ q r,args = #[q,r]:=by
     have:args.toList.length=2:=by rw [← List.length_map (f:=ρ),hargs];rfl
     match hl:args.toList,this with
     | [q,r],_=>exact ⟨q,r,by apply Array.ext';simpa using hl⟩
    subst hq
    cases hargs
    have:=OpOk.of (ok_max (ts:=ts) (ty:=type) (P:=P) h (hρ q (by simp [Op.operands,Call.operands])) (hρ r (by simp [Op.operands,Call.operands])) hz)
    simpa [resolve,invoke,builtin,OpOk] using this
   ·rename_i T T' x y hts hargs
    obtain rfl:ts = #[T,T']:=by apply Array.ext';simpa using hts
    obtain ⟨z,hz,e⟩:=map_some he;cases e
    obtain ⟨q,r,hq⟩:∃ q r,args = #[q,r]:=by
     have:args.toList.length=2:=by rw [← List.length_map (f:=ρ),hargs];rfl
     match hl:args.toList,this with
     | [q,r],_=>exact ⟨q,r,by apply Array.ext';simpa using hl⟩
    subst hq
    cases hargs
    have:=OpOk.of (ok_delete (T':=T') (ty:=type) (P:=P) h (hρ q (by simp [Op.operands,Call.operands])) (hρ r (by simp [Op.operands,Call.operands])) hz)
    simpa [resolve,invoke,builtin,OpOk] using this
   ·rename_i T x hts hargs
    obtain rfl:ts = #[T]:=by apply Array.ext';simpa using hts
    obtain ⟨z,hz,e⟩:=map_some he;cases e
    obtain ⟨q,hq⟩:∃ q,args = #[q]:=by
     have:args.toList.length=1:=by rw [← List.length_map (f:=ρ),hargs];rfl
     obtain ⟨q,hq⟩:=List.length_eq_one_iff.1 this
     exact ⟨q,by apply Array.ext';simpa using hq⟩
    subst hq
    cases hargs
    have:=OpOk.of (ok_clear (ty:=type) h (hρ q (by simp [Op.operands,Call.operands])) hz)
    simpa [resolve,invoke,builtin,OpOk] using this
   ·rename_i T x hts hargs
    obtain rfl:ts = #[T]:=by apply Array.ext';simpa using hts
    obtain ⟨z,hz,e⟩:=map_some he;cases e
    obtain ⟨q,hq⟩:∃ q,args = #[q]:=by
     have:args.toList.length=1:=by rw [← List.length_map (f:=ρ),hargs];rfl
     obtain ⟨q,hq⟩:=List.length_eq_one_iff.1 this
     exact ⟨q,by apply Array.ext';simpa using hq⟩
    subst hq
    cases hargs
    have:=OpOk.of (ok_cap (ty:=type) h (hρ q (by simp [Op.operands,Call.operands])) hz)
    simpa [resolve,invoke,builtin,OpOk] using this
   ·rename_i T T' x y hts hargs
    obtain rfl:ts = #[T,T']:=by apply Array.ext';simpa using hts
    obtain ⟨q,r,hq⟩:∃ q r,args = #[q,r]:=by
     have:args.toList.length=2:=by rw [← List.length_map (f:=ρ),hargs];rfl
     match hl:args.toList,this with
     | [q,r],_=>exact ⟨q,r,by apply Array.ext';simpa using hl⟩
    subst hq
    cases hargs
    have:=OpOk.of (ok_copy (T':=T') (ty:=type) h (hρ q (by simp [Op.operands,Call.operands])) (hρ r (by simp [Op.operands,Call.operands])) he)
    simpa [resolve,invoke,builtin,OpOk] using this
   ·cases he
 all_goals cases he
inductive Bd (nb nl:Nat):D→Prop
 | junk:Bd nb nl .junk
 | int (k:IntKind) (n:Int):Bd nb nl (.int k n)
 | bool (b:Bool):Bd nb nl (.bool b)
 | str (s:ByteArray):Bd nb nl (.str s)
 | slice (o:Own) (xs:List (List D)) (ho:∀ k z,o=.lab k z→k<nl) (hx:∀ (i j:Nat) (hi:i<xs.length) (hj:j<xs[i].length),Bd nb nl xs[i][j]):Bd nb nl (.slice o xs)
 | agg (cs:List D) (h:∀ (i:Nat) (hi:i<cs.length),Bd nb nl cs[i]):Bd nb nl (.agg cs)
 | tup (cs:List D) (h:∀ (i:Nat) (hi:i<cs.length),Bd nb nl cs[i]):Bd nb nl (.tup cs)
 | nilp:Bd nb nl .nilp
 | box (b off:Nat) (h:b<nb):Bd nb nl (.box b off)
 | pin (cs:List D) (h:∀ (i:Nat) (hi:i<cs.length),Bd nb nl cs[i]):Bd nb nl (.pin cs)
 | func (fn:Fn) (fi ca:List D) (h1:∀ (i:Nat) (hi:i<fi.length),Bd nb nl fi[i]) (h2:∀ (i:Nat) (hi:i<ca.length),Bd nb nl ca[i]):Bd nb nl (.func fn fi ca)
 | nilf:Bd nb nl .nilf
 | map (b:Nat) (h:b<nb):Bd nb nl (.map b)
 | nilm:Bd nb nl .nilm
 | yield (b:Nat) (h:b<nb):Bd nb nl (.yield b)
 | msl (b off len cap sz:Nat) (h:b<nb):Bd nb nl (.msl b off len cap sz)
 | row0:Bd nb nl .row0
 | row (b off n sz:Nat) (h:b<nb):Bd nb nl (.row b off n sz)
theorem Bd.mono {nb nl nb' nl':Nat} {d:D} (h:Bd nb nl d) (h1:nb≤nb') (h2:nl≤nl'):Bd nb' nl' d:=by
 induction h with
 | junk=>exact .junk
 | int=>exact .int _ _
 | bool=>exact .bool _
 | str=>exact .str _
 | slice o xs ho hx ih=>exact .slice o xs (fun k z e=>Nat.lt_of_lt_of_le (ho k z e) h2) ih
 | agg cs h ih=>exact .agg cs ih
 | tup cs h ih=>exact .tup cs ih
 | nilp=>exact .nilp
 | box b off h=>exact .box b off (by omega)
 | pin cs h ih=>exact .pin cs ih
 | func fn fi ca h1 h2 ih1 ih2=>exact .func fn fi ca ih1 ih2
 | nilf=>exact .nilf
 | map b h=>exact .map b (by omega)
 | nilm=>exact .nilm
 | yield b h=>exact .yield b (by omega)
 | msl b off len cap sz h=>exact .msl b off len cap sz (by omega)
 | row0=>exact .row0
 | row b off n sz h=>exact .row b off n sz (by omega)
theorem Bd.of_R {g:G} {d:D} {v:Value} {nb nl:Nat} (h:R g d v) (hB:∀ i b,g.B i=some b→i<nb) (hL:∀ k x,g.L k=some x→k<nl):Bd nb nl d:=by
 induction h with
 | junk v=>exact .junk
 | int k n=>exact .int _ _
 | bool b=>exact .bool _
 | str s=>exact .str _
 | slice o xs a cap sz blk off val hc hm ho hs ha hM hv hR ih =>
  exact .slice o xs (fun k z e=>by subst e;exact hL _ _ ho.1) ih
 | agg cs vs h hv hR ih=>exact .agg cs (fun i hi=>ih i hi (by omega))
 | tup cs vs h hR ih=>exact .tup cs (fun i hi=>ih i hi (by omega))
 | nilp=>exact .nilp
 | box b off blk h=>exact .box b off (hB _ _ h)
 | pin cs blk off val hM hv hR ih=>exact .pin cs ih
 | func fn fi ca vf vc h1 h2 hf hc ihf ihc=>exact .func fn fi ca (fun i hi=>ihf i hi (by omega)) (fun i hi=>ihc i hi (by omega))
 | nilf=>exact .nilf
 | map b r h=>exact .map b (hB _ _ h)
 | nilm=>exact .nilm
 | yield b l h=>exact .yield b (hB _ _ h)
 | msl b off len cap sz blk m h hS hc hz hm=>exact .msl b off len cap sz (hB _ _ h)
 | row0 a=>exact .row0
 | row b off n sz blk m cap h hS hc hn hz hm=>exact .row b off n sz (hB _ _ h)
def G.cut (g:G) (nb nl:Nat) (O0:Nat→Prop):G:={ g with O:=O0,B:=fun i=>if i<nb then g.B i else none,L:=fun k=>if k<nl then g.L k else none }
theorem R.cut {g:G} {d:D} {v:Value} {nb nl:Nat} {O0:Nat→Prop} (h:R g d v) (hb:Bd nb nl d):R (g.cut nb nl O0) d v:=by
 induction h with
 | junk v=>exact .junk v
 | int k n=>exact .int k n
 | bool b=>exact .bool b
 | str s=>exact .str s
 | slice o xs a cap sz blk off val hc hm ho hs ha hM hv hR ih =>
  cases hb with
  | slice _ _ hbo hbx =>
   refine .slice o xs a cap sz blk off val hc hm ?_ hs ha hM hv (fun i j hi hj=>ih i j hi hj (hbx i j hi hj))
   cases o with
   | lab k z=>exact ⟨by simp only [G.cut];rw [if_pos (hbo k z rfl)];exact ho.1,ho.2⟩
   | _=>exact ho
 | agg cs vs h hv hR ih=>cases hb with | agg _ hb=>exact .agg cs vs h hv (fun i h1 h2=>ih i h1 h2 (hb i h1))
 | tup cs vs h hR ih=>cases hb with | tup _ hb=>exact .tup cs vs h (fun i h1 h2=>ih i h1 h2 (hb i h1))
 | nilp=>exact .nilp
 | box b off blk h=>cases hb with | box _ _ hb=>exact .box b off blk (by simp only [G.cut];rw [if_pos hb];exact h)
 | pin cs blk off val hM hv hR ih=>cases hb with | pin _ hb=>exact .pin cs blk off val hM hv (fun j hj=>ih j hj (hb j hj))
 | func fn fi ca vf vc h1 h2 hf hc ihf ihc=>cases hb with | func _ _ _ b1 b2=>exact .func fn fi ca vf vc h1 h2 (fun i x y=>ihf i x y (b1 i x)) (fun i x y=>ihc i x y (b2 i x))
 | nilf=>exact .nilf
 | map b r h=>cases hb with | map _ hb=>exact .map b r (by simp only [G.cut];rw [if_pos hb];exact h)
 | nilm=>exact .nilm
 | yield b l h=>cases hb with | yield _ hb=>exact .yield b l (by simp only [G.cut];rw [if_pos hb];exact h)
 | msl b off len cap sz blk m h hS hc hz hm=>cases hb with | msl _ _ _ _ _ hb=>exact .msl b off len cap sz blk m (by simp only [G.cut];rw [if_pos hb];exact h) hS hc hz hm
 | row0 a=>exact .row0 a
 | row b off n sz blk m cap h hS hc hn hz hm=>cases hb with | row _ _ _ _ hb=>exact .row b off n sz blk m cap (by simp only [G.cut];rw [if_pos hb];exact h) hS hc hn hz hm
def BdBox (nb nl:Nat):Box→Prop
 | .dead=>True
 | .cells cs=>∀ (i:Nat) (hi:i<cs.length),Bd nb nl cs[i]
 | .map es=>∀ (i:Nat) (hi:i<es.length),Bd nb nl es[i].1∧Bd nb nl es[i].2
 | .mapX es _ _=>∀ (i:Nat) (hi:i<es.length),Bd nb nl es[i].1∧Bd nb nl es[i].2
 | .iter mb _ _=>mb<nb
 | .loop _ _ _ e _ _=>∀ (i:Nat) (hi:i<e.length),Bd nb nl e[i]
theorem BoxOk.bd {w:World} {g:G} {i:Nat} {bx:Box} {nb nl:Nat} (h:BoxOk w g i bx) (hB:∀ i b,g.B i=some b→i<nb) (hL:∀ k x,g.L k=some x→k<nl):BdBox nb nl bx:=by
 cases bx with
 | dead=>trivial
 | cells cs=>obtain ⟨b,arr,T,fr,h1,h2,h3,h4,h5⟩:=h;exact fun i hi=>Bd.of_R (h4 i hi (by omega)).1 hB hL
 | map es=>obtain ⟨b,en,c,h1,h2,h3,h4⟩:=h;exact fun i hi=>⟨Bd.of_R (h4 i hi (by omega)).1 hB hL,Bd.of_R (h4 i hi (by omega)).2.1 hB hL⟩
 | mapX es bs k=>obtain ⟨b,en,c,h1,h2,⟨h3,_⟩,h4⟩:=h;exact fun i hi=>⟨Bd.of_R (h4 i hi (by omega)).1 hB hL,Bd.of_R (h4 i hi (by omega)).2.1 hB hL⟩
 | iter mb k sn=>obtain ⟨r,m,h1,h2,h3⟩:=h;exact hB mb m h3
 | loop ps as bo e st pe=>obtain ⟨l,fn,t,df,h1,h2,h3,h4⟩:=h;exact fun i hi=>Bd.of_R (h4 i hi (by omega)) hB hL
theorem BoxOk.cut {w:World} {g:G} {i:Nat} {bx:Box} {nb nl:Nat} {O0:Nat→Prop} (h:BoxOk w g i bx) (hi:i<nb) (hb:BdBox nb nl bx):BoxOk w (g.cut nb nl O0) i bx:=by
 have hBi:∀ b,g.B i=some b→(g.cut nb nl O0).B i=some b:=fun b hb=>by simp only [G.cut];rw [if_pos hi];exact hb
 cases bx with
 | dead=>trivial
 | cells cs=>obtain ⟨b,arr,T,fr,h1,h2,h3,h4,h5⟩:=h;exact ⟨b,arr,T,fr,hBi b h1,h2,h3,fun j x y=>⟨(h4 j x y).1.cut (hb j x),(h4 j x y).2⟩,h5⟩
 | map es=>obtain ⟨b,en,c,h1,h2,h3,h4⟩:=h;exact ⟨b,en,c,hBi b h1,h2,h3,fun j x y=>⟨(h4 j x y).1.cut (hb j x).1,(h4 j x y).2.1.cut (hb j x).2,(h4 j x y).2.2⟩⟩
 | mapX es bs k=>obtain ⟨b,en,c,h1,h2,h3,h4⟩:=h;exact ⟨b,en,c,hBi b h1,h2,h3,fun j x y=>⟨(h4 j x y).1.cut (hb j x).1,(h4 j x y).2.1.cut (hb j x).2,(h4 j x y).2.2⟩⟩
 | iter mb k sn=>obtain ⟨r,m,h1,h2,h3⟩:=h;exact ⟨r,m,hBi r h1,h2,by simp only [G.cut];rw [if_pos (show mb<nb from hb)];exact h3⟩
 | loop ps as bo e st pe=>obtain ⟨l,fn,t,df,h1,h2,h3,h4⟩:=h;exact ⟨l,fn,t,df,hBi l h1,h2,h3,fun j x y=>(h4 j x y).cut (hb j x)⟩
def sameLoop (nb nl:Nat):Box→Box→Prop
 | .loop _ _ _ e _ _,.loop _ _ _ e' _ _=>e'=e
 | .cells cs,.cells cs'=>∀ d ∈ cs',d ∈ cs∨Bd nb nl d
 | _,_=>False
structure Leave (s t:St) (s':St):Prop where
 len:s'.boxes.length≤t.boxes.length
 pre:∀ (i:Nat) (bx:Box),s'.boxes[i]? = some bx→t.boxes[i]? = some bx
 old:∀ (i:Nat) (bx:Box),s'.boxes[i]? = some bx→s.boxes[i]? = some bx∨BdBox s'.boxes.length s'.ctr bx ∨ ∃ b0,s.boxes[i]? = some b0∧sameLoop s'.boxes.length s'.ctr b0 bx
 slen:s.boxes.length≤s'.boxes.length
 live:∀ k,k ∈ s'.live→k ∈ t.live∧(k ∈ s.live∨k<s'.ctr)
 ctr:s.ctr≤s'.ctr
 ctr':s'.ctr≤t.ctr
 nd:s'.live=s.live∨s'.live.Nodup
theorem Leave.wrel {w0 w:World} {g0 g:G} {s t s':St} (h:Leave s t s') (h0:WRel w0 g0 s) (hg:g0.le g) (hw:WRel w g t) :
    g0.le (g.cut s'.boxes.length s'.ctr g0.O)∧WRel w (g.cut s'.boxes.length s'.ctr g0.O) s':=by
  have hdB:∀ i b,g0.B i=some b→i<s'.boxes.length:=fun i b hb=>Nat.lt_of_lt_of_le (h0.dom i b hb).1 h.slen
  have hdL:∀ k x,g0.L k=some x→k<s'.ctr:=fun k x hx=>Nat.lt_of_lt_of_le (h0.ldom k x hx) h.ctr
  have hcB:∀ {i b},(g.cut s'.boxes.length s'.ctr g0.O).B i=some b→i<s'.boxes.length∧g.B i=some b:=by
    intro i b hi
    simp only [G.cut] at hi
    split at hi
    · exact ⟨by assumption,hi⟩
    · cases hi
  have hcL:∀ {k x},(g.cut s'.boxes.length s'.ctr g0.O).L k=some x→k<s'.ctr∧g.L k=some x:=by
    intro i b hi
    simp only [G.cut] at hi
    split at hi
    · exact ⟨by assumption,hi⟩
    · cases hi
  refine ⟨⟨hg.w0,hg.M,fun i b hb=>?_,fun k x hx=>?_,fun _ h=>h,hg.S⟩,?_⟩
  · simp only [G.cut];rw [if_pos (hdB i b hb)];exact hg.B i b hb
  · simp only [G.cut];rw [if_pos (hdL k x hx)];exact hg.L k x hx
  refine { os:=hw.os,tape:=hw.tape,out:=hw.out,fz:=hw.fz,n:=hw.n,old:=hw.old,m:=hw.m,box:=?_,inj:=?_,dom:=?_,live:=?_,uniq:=?_,ldom:=?_,o:=fun b hb=>hw.o b (hg.O b hb),nd:=h.nd.elim (fun e=>e ▸ h0.nd) id,sz:=hw.sz }
  · intro i bx hi
    have hlt:i<s'.boxes.length:=by
      rcases Nat.lt_or_ge i s'.boxes.length with q | q
      · exact q
      · rw [List.getElem?_eq_none q] at hi;cases hi
    refine (hw.box i bx (h.pre i bx hi)).cut hlt ?_
    rcases h.old i bx hi with ho | ho | ⟨b0,ho,hsl⟩
    · exact (h0.box i bx ho).bd hdB hdL
    · exact ho
    · have:=(h0.box i b0 ho).bd hdB hdL
      cases b0 <;> cases bx <;> simp only [sameLoop] at hsl <;> first
        | exact hsl.elim
        | (subst hsl;exact this)
        | (intro j hj
           rcases hsl _ (List.getElem_mem hj) with q | q
           · obtain ⟨k,hk,e⟩:=List.getElem_of_mem q
             exact e ▸ this k hk
           · exact q)
  · intro i j b hi hj l1 l2
    exact hw.inj i j b (hcB hi).2 (hcB hj).2 (by obtain ⟨x,e1,e2⟩:=l1;exact ⟨x,h.pre _ _ e1,e2⟩) (by obtain ⟨x,e1,e2⟩:=l2;exact ⟨x,h.pre _ _ e1,e2⟩)
  · intro i b hi
    have:=hw.dom i b (hcB hi).2
    exact ⟨(hcB hi).1,this.2⟩
  · intro k hk
    obtain ⟨hkt,hks⟩:=h.live k hk
    obtain ⟨a,len,cap,sz,h1,h2⟩:=hw.live k hkt
    have hlt:k<s'.ctr:=by
      rcases hks with hks | hks
      · obtain ⟨_,_,_,_,e1,_⟩:=h0.live k hks;exact hdL k _ e1
      · exact hks
    refine ⟨a,len,cap,sz,by simp only [G.cut];rw [if_pos hlt];exact h1,fun h3 h4=>?_⟩
    obtain ⟨b,off,arr,T,fr,h5,h6,h7,h8,h9,h10⟩:=h2 h3 h4
    exact ⟨b,off,arr,T,fr,h5,h6,h7,h8,h9,fun i hi=>h10.1 i (hcB hi).2,h10.2⟩
  · intro k k' hk hk' b o len cap sz b' o' len' cap' sz' e1 e2
    exact hw.uniq k k' (h.live k hk).1 (h.live k' hk').1 b o len cap sz b' o' len' cap' sz' (hcL e1).2 (hcL e2).2
  · intro k x hx
    exact (hcL hx).1
def W (ro:Option Nat):Fence:={ Fence.wide with round:=ro }
def Enters (P:Program) (f:FuncId):Prop:=∀ args w,(callFunc f args).run P w=.ok (.enter f args) w
theorem enters_of {P:Program} {f:FuncId} {fn:Func} (hf:P.funcs[f]? = some fn) (hn:(fn.name == "runtime.NumGoroutine") = false) (hb:fn.body.isSome = true):Enters P f:=by
 intro args w
 have hb':fn.body.isNone=false:=by cases h:fn.body <;> simp_all
 simp only [callFunc,Sem.run_bind,run_program,Result.andThen_ok,hf,hn,hb',Bool.false_eq_true,if_false,Sem.run_pure]
def ArgsR (g:G) (ds:List D) (vs:Array Value):Prop:=ds.length=vs.size∧∀ (i:Nat) (h1:i<ds.length) (h2:i<vs.size),R g ds[i] vs[i]
def Back (g:G) (Q:D→St→Prop) (e:Ending) (w':World):Prop:=∃ v g' r s',Q r s'∧e=.returned v∧g.le g'∧WRel w' g' s'∧R g' r v
def SpecQ (P:Program) (f:FuncId) (args:List D) (s:St) (Q:D→St→Prop):Prop :=
 ∀ vs w g,ArgsR g args vs→WRel w g s→Enters P f∧CallsIn (W none) 0 P f vs w (Back g Q)
def YSemQ (P:Program) (b:Nat) (args:List D) (s:St) (Q:D→St→Prop):Prop :=
 ∀ vs w g l,g.B b=some l→ArgsR g args vs→WRel w g s→∃ fn tmps assign body w1,(Instr.yield l vs).run P w=.ok (.round l fn tmps assign body) w1∧RoundIn (W none) 0 P l fn tmps assign body w1 (Back g Q)
def CallVQ (P:Program) (d:D) (args:List D) (s:St) (Q:D→St→Prop):Prop :=
 match d with
 | .func (.func f) fi ca=>SpecQ P f (fi++(args++ca)) s Q
 | .yield b=>YSemQ P b args s Q
 | _=>False
def one (r:D) (s':St):D→St→Prop:=fun d t=>d=r∧t=s'
def Spec (P:Program) (f:FuncId) (args:List D) (s:St) (r:D) (s':St):Prop:=SpecQ P f args s (one r s')
def YSem (P:Program) (b:Nat) (args:List D) (s:St) (r:D) (s':St):Prop:=YSemQ P b args s (one r s')
def CallV (P:Program) (d:D) (args:List D) (s:St) (r:D) (s':St):Prop:=CallVQ P d args s (one r s')
theorem Back.mono {g:G} {Q Q':D→St→Prop} {e:Ending} {w':World} (h:Back g Q e w') (hQ:∀ r s',Q r s'→Q' r s'):Back g Q' e w':=by
 obtain ⟨v,g',r,s',h1,h2⟩:=h;exact ⟨v,g',r,s',hQ _ _ h1,h2⟩
theorem SpecQ.mono {P:Program} {f:FuncId} {args:List D} {s:St} {Q Q':D→St→Prop} (h:SpecQ P f args s Q) (hQ:∀ r s',Q r s'→Q' r s'):SpecQ P f args s Q' :=
 fun vs w g ha hw=>⟨(h vs w g ha hw).1,(h vs w g ha hw).2.mono fun _ _ hb=>hb.mono hQ⟩
theorem YSemQ.mono {P:Program} {b:Nat} {args:List D} {s:St} {Q Q':D→St→Prop} (h:YSemQ P b args s Q) (hQ:∀ r s',Q r s'→Q' r s'):YSemQ P b args s Q':=by
 intro vs w g l hl ha hw
 obtain ⟨fn,t,as,bo,w1,h1,h2⟩:=h vs w g l hl ha hw
 refine ⟨fn,t,as,bo,w1,h1,h2.1,fun c cs hcs=>?_⟩
 obtain ⟨e,w',hR,hc⟩:=h2.2 c cs hcs
 exact ⟨e,w',hR.mono hQ,hc⟩
theorem CallVQ.mono {P:Program} {d:D} {args:List D} {s:St} {Q Q':D→St→Prop} (h:CallVQ P d args s Q) (hQ:∀ r s',Q r s'→Q' r s'):CallVQ P d args s Q':=by
 unfold CallVQ at h ⊢
 split
 ·exact SpecQ.mono h hQ
 ·exact YSemQ.mono h hQ
 ·rename_i h1 h2
  split at h
  ·exact absurd rfl (h1 _ _ _)
  ·exact absurd rfl (h2 _)
  ·exact h
def EnvRel (g:G) (e:List D) (tmps:Array Value):Prop:=e.length=tmps.size∧∀ (i:Nat) (h1:i<e.length) (h2:i<tmps.size),R g e[i] tmps[i]
structure ARel (O0:Nat→Prop) (a:Act) (w:World) (g:G) (e:List D) (s:St):Prop where
 env:EnvRel g e a.tmps
 wr:WRel w g s
 sub:∀ b,O0 b→g.O b
 df:∃ bs:List Nat,bs.Nodup∧(∀ b,b ∈ bs→g.O b∧¬ O0 b)∧a.defers.map (·.target)=bs.map fun b=>.collected b
def cst1:Value→D
 | .int k n=>.int k n
 | .bool b=>.bool b
 | .string s=>.str s
 | .pointer none=>.nilp
 | .slice none 0 0=>.slice .nil []
 | .nilFunc=>.nilf
 | .map none=>.nilm
 | _=>.junk
def cst:Value→D
 | .agg cs=>if cs.toList.all (·.oneCell') then .agg (cs.toList.map cst1) else .junk
 | v=>cst1 v
theorem cst1_ok {g:G} (v:Value):R g (cst1 v) v:=by
 unfold cst1
 split <;> first
  | exact .junk _
  | (constructor;done)
  | exact .slice .nil [] none 0 0 0 0 (fun _ _=>.nilFunc) (Nat.zero_le _) (Nat.zero_le _) ⟨rfl,rfl,rfl⟩ (fun i hi=>by simp at hi) (fun h=>by simp at h) (fun i j hi=>by simp at hi) (fun i j hi=>by simp at hi) (fun i j hi=>by simp at hi)
theorem cst_ok {g:G} (v:Value):R g (cst v) v:=by
 unfold cst
 split
 ·rename_i cs
  split
  ·rename_i h
   refine .agg _ _ (by simp) (fun i h2=>List.all_eq_true.1 h _ (by simp)) (fun i h1 h2=>?_)
   simp only [List.getElem_map,Array.getElem_toList]
   exact cst1_ok _
  ·exact .junk _
 ·exact cst1_ok _
def val (e:List D):Operand→D
 | .tmp t=>e.getD t .junk
 | .const v=>cst v
 | .global _=>.junk
 | .func f=>.func (.func f) [] []
theorem val_ok {g:G} {e:List D} {a:Act} (h:EnvRel g e a.tmps) (x:Operand):R g (val e x) (a.eval x):=by
 cases x with
 | tmp t =>
  simp only [val,Act.eval]
  by_cases ht:t<e.length
  ·have ht':t<a.tmps.size:=h.1 ▸ ht
   simp only [List.getD,List.getElem?_eq_getElem ht,Option.getD_some]
   rw [show a.tmps.getD t undef=a.tmps[t] by simp [Array.getD,ht']]
   exact h.2 t ht ht'
  ·simp only [List.getD,List.getElem?_eq_none (Nat.le_of_not_lt ht),Option.getD_none];exact .junk _
 | const v=>exact cst_ok v
 | global g'=>exact .junk _
 | func f=>exact .func _ [] [] #[] #[] rfl rfl (fun i h1=>by simp at h1) (fun i h1=>by simp at h1)
def putD (e:List D) (dst:Option Tmp) (d:D):List D :=
 match dst with
 | some t=>e.set t d
 | none=>e
theorem EnvRel.put {g:G} {e:List D} {a:Act} (h:EnvRel g e a.tmps) (dst:Option Tmp) {d:D} {v:Value} (hd:R g d v):EnvRel g (putD e dst d) (a.put dst v).tmps:=by
 cases dst with
 | none=>exact h
 | some t =>
  simp only [putD,Act.put]
  refine ⟨by simpa using h.1,fun i h1 h2=>?_⟩
  by_cases e':t=i
  ·subst e';simp only [List.getElem_set_self,Array.getElem_setIfInBounds_self];exact hd
  ·rw [List.getElem_set_ne e',Array.getElem_setIfInBounds_ne (by simpa using h2) e'];exact h.2 i (by simpa using h1) (by simpa using h2)
theorem EnvRel.mono {g g':G} {e:List D} {t:Array Value} (h:EnvRel g e t) (hg:g.le g'):EnvRel g' e t:=⟨h.1,fun i h1 h2=>(h.2 i h1 h2).mono hg⟩
def argsOf (ρ:Operand→D) (args:Array Operand):List D:=args.toList.map fun x=>(ρ x).plain
def Step (P:Program) (o:Oper) (ρ:Operand→D) (s:St) (d:D) (s':St):Prop :=
 evalOp P ρ s o.op=some (d,s') ∨ ∃ f args ts,o.op=.call { callee:=.value f,args,argTypes:=ts }∧CallV P (ρ f) (argsOf ρ args) s d s'
theorem wpIn_ok {P:Program} {ro:Option Nat} {o:Oper} {a:Act} {w:World} {K:Act→World→Prop} {Q:Exit→Act→World→Prop} {m:Next} {w':World} (hr:(execOp a.eval o).run P w=.ok m w') (hd:∀ c,o.op≠.defer c)
  (h:o.uponIn (W ro) 0 P a K Q (.ok m w')):o.wpIn (W ro) 0 P a w K Q:=by
 refine ⟨fun _ _=>trivial,?_⟩
 rw [Oper.semAt_eq _ _ _ hd,hr]
 exact h
theorem call_ok {P:Program} {ro:Option Nat} {o:Oper} {ρ:Operand→D} {s:St} {Z:D→St→Prop} {f:Operand} {args:Array Operand} {ts:Array TypeId} {a:Act} {w:World} {g:G} {K:Act→World→Prop} {Q:Exit→Act→World→Prop}
  (ho:o.op=.call { callee:=.value f,args,argTypes:=ts }) (hc:CallVQ P (ρ f) (argsOf ρ args) s Z) (hρ:∀ x ∈ o.op.operands,R g (ρ x) (a.eval x)) (hw:WRel w g s)
  (hK:∀ d s' v w' g',Z d s'→g.le g'→WRel w' g' s'→R g' d v→K (a.put o.dst v) w'):o.wpIn (W ro) 0 P a w K Q:=by
 obtain ⟨dst,op,type,pos,after,guard⟩:=o
 simp only at ho hρ hK
 subst ho
 have hf:R g (ρ f) (a.eval f):=hρ f (by simp [Op.operands,Call.operands])
 have hargs:ArgsR g (argsOf ρ args) (args.map a.eval):=by
  refine ⟨by simp [argsOf],fun i h1 h2=>?_⟩
  simp only [argsOf,List.getElem_map,Array.getElem_map,Array.getElem_toList]
  exact (hρ _ (by simp [Op.operands,Call.operands])).plain
 cases hd:ρ f <;> rw [hd] at hc hf <;> simp only [CallVQ] at hc <;> try exact hc.elim
 case func fn fi ca =>
  cases fn <;> simp only at hc <;> try exact hc.elim
  rename_i k
  cases hfv:a.eval f <;> rw [hfv] at hf <;> cases hf
  rename_i vf vc h1 hrf h2 hrc
  have hall:ArgsR g (fi++(argsOf ρ args++ca)) (vf++args.map a.eval++vc):=by
   refine ⟨by have:=hargs.1;simp at this ⊢;omega,fun i x1 x2=>?_⟩
   by_cases c1:i<fi.length
   ·rw [List.getElem_append_left c1,Array.getElem_append_left (by simp;omega),Array.getElem_append_left (by omega)];exact hrf i c1 _
   ·by_cases c2:i<fi.length+(argsOf ρ args).length
    ·rw [List.getElem_append_right (by omega),List.getElem_append_left (by omega),Array.getElem_append_left (by have:=hargs.1;simp at this ⊢;omega),Array.getElem_append_right (by omega)]
     simp only [h1]
     exact hargs.2 _ _ _
    ·rw [List.getElem_append_right (by omega),List.getElem_append_right (by omega),Array.getElem_append_right (by have:=hargs.1;simp at this ⊢;omega)]
     have e:i - fi.length - (argsOf ρ args).length=i - (vf++args.map a.eval).size:=by have:=hargs.1;simp at this ⊢;omega
     simp only [e]
     exact hrc _ _ _
  obtain ⟨hent,hsem⟩:=hc _ w g hall hw
  have hr:(execOp a.eval { dst,op:=.call { callee:=.value f,args,argTypes:=ts },type,pos,after,guard }).run P w=.ok (.enter k (vf++args.map a.eval++vc)) w:=by
   simp only [execOp,resolve,hfv,Deferred.ofValue,Sem.run_bind,Sem.run_pure,Result.andThen_ok,invoke]
   exact hent _ _
  refine wpIn_ok hr (by simp) ?_
  rw [Oper.uponIn_enter]
  refine ⟨fun h=>(by cases h),?_⟩
  have:=hsem
  refine ⟨this.1,fun cs hcs=>?_⟩
  obtain ⟨e,w',fr,hR,hsteps,hfr,hlv⟩:=this.2 cs (fun d hd=>by cases hd)
  refine ⟨e,w',fr,?_,hsteps,hfr,hlv⟩
  obtain ⟨v,g',r,s',hZ,rfl,hle,hw',hRv⟩:=hR
  exact hK r s' v w' g' hZ hle hw' hRv
 case yield b =>
  cases hfv:a.eval f <;> rw [hfv] at hf <;> cases hf
  rename_i l hl
  obtain ⟨fn,tmps,assign,body,w1,hy,hround⟩:=hc _ w g l hl hargs hw
  have hr:(execOp a.eval { dst,op:=.call { callee:=.value f,args,argTypes:=ts },type,pos,after,guard }).run P w=.ok (.round l fn tmps assign body) w1:=by
   simp only [execOp,resolve,hfv,Deferred.ofValue,Sem.run_bind,Sem.run_pure,Result.andThen_ok,invoke]
   simpa using hy
  refine wpIn_ok hr (by simp) ?_
  rw [Oper.uponIn_round]
  refine ⟨fun h=>(by cases h),hround.1,fun c cs hcs=>?_⟩
  obtain ⟨e,w',hR,hcomes⟩:=hround.2 c cs (fun d hd=>by cases hd)
  refine ⟨e,w',?_,hcomes⟩
  obtain ⟨v,g',r,s',hZ,rfl,hle,hw',hRv⟩:=hR
  exact hK r s' v w' g' hZ hle hw' hRv
theorem step_ok {P:Program} {ro:Option Nat} {o:Oper} {ρ:Operand→D} {s s':St} {d:D} {a:Act} {w:World} {g:G} {K:Act→World→Prop} {Q:Exit→Act→World→Prop}
  (h:Step P o ρ s d s') (hρ:∀ x ∈ o.op.operands,R g (ρ x) (a.eval x)) (hw:WRel w g s)
  (hK:∀ v w' g',g.le g'→WRel w' g' s'→R g' d v→K (a.put o.dst v) w'):o.wpIn (W ro) 0 P a w K Q:=by
 rcases h with h | ⟨f,args,ts,ho,hc⟩
 ·obtain ⟨⟨nx,w',g',hr,hle,hw',hn⟩,hd⟩:=evalOp_ok hρ hw h
  refine wpIn_ok hr hd ?_
  rcases hn with ⟨v,rfl,hv⟩ | ⟨rfl,rfl⟩
  ·exact hK v w' g' hle hw' hv
  ·exact hK undef w' g' hle hw' (.junk _)
 ·exact call_ok ho hc hρ hw fun d' s'' v w' g' hz=>by obtain ⟨rfl,rfl⟩:=hz;exact hK v w' g'
end Go.V
