/-
  The value-level logic and its contracts, part 1 (texts V1, V2, V3, V4, V5, V6, V7, V8, V8b, V9, V10).
-/
import Derived.RangeFuncIn
import Derived.RangeFuncLeaves
import Derived.OrdersIn
import Derived.LoopNIn
import Derived.KernelRfl
import Derived.Laws.World
import Derived.Laws.Cells
import Derived.Below
import Derived.Laws.Entries
import Derived.Lib.AppendZerosOnto
import Derived.Laws.AppendOwn
import Derived.Laws.StructEq
import Derived.IntWalk
import Derived.Laws.MakeOwn
open List renaming getElem_map→M4,getElem?_append→PE,getElem?_eq_none→MS,getElem?_append_left→ML,length_append→K4,length_singleton→MY,getElem?_set_ne→ME,getElem?_set_self→MH,getElem_set_ne→OT,getElem_cons_zero→ND,length_cons→K7,mem_cons→Mj,nodup_cons→Nk,getElem_append_left→M9,getElem_append_right→M1,getElem_take→NV,getElem_drop→Oe,all_eq_true→Mn,getElem_mem→Mf,getElem?_eq_some_iff→L5,range→MF,flatten_cons→OQ,getElem?_append_right→My,getElem_of_mem→Mx,getElem?_eq_getElem→C0,getElem_range→Ot,length_map→MW,getD→NC,flatten_append→Qb,eq_nil_of_length_eq_zero→Nd,length_nil→K8,append_nil→MK,size_toArray→Of,getElem?_toArray→On,replicate→MD,replicate_succ→Ph,getElem?_drop→OC,getElem_set_self→Py,mapM_cons→Pb,map_cons→M6,length_set→Oo,length_eraseIdx_of_lt→PO,getElem_eraseIdx→P5,length_take→MN,length_eq_one_iff→Pv
open Nat renaming lt_or_ge→Nb,le_refl→K5,add_assoc→N3,add_zero→Ov,mul_le_mul_right→Na,zero_le→K9,succ_mul→OP,zero_add→MR,eq_zero_or_pos→Nt,div_lt_of_lt_mul→P8,mod_lt→OU,div_add_mod'→Qn,add_mul→NW,mul_le_mul→OE,mod_eq_of_lt→Qo,mod_eq_sub_mod→Qh,lt_of_lt_of_le→PL
open Array renaming getElem?_eq_none→PZ,getElem_setIfInBounds_ne→PB,getElem?_setIfInBounds_ne→M0,getElem_toList→Nr,ext'→N5,toList_extract→P7,size_append→Pq,getElem?_append_left→NQ,getElem?_eq_getElem→MV,getElem?_map→Qi,foldl_toList→PK,toList_zipIdx→Qc,getElem?_setIfInBounds_self→M2,size_setIfInBounds→Oq,getElem_push_lt→Pz,getElem_push_eq→P4,getElem_modify→PF,eraseIdxIfInBounds→PX,size_eraseIdx→PI,getElem_eraseIdx→Pu,getElem_map→OH,getElem_range→Qd,getElem_append_left→NI,getElem_append_right→ON
open Bool renaming false_eq_true→MJ,and_eq_true→Mh
open Option renaming bind_some→Ni,some→NJ,getD_some→Nf,map_some→NR,map_eq_some_iff→MQ,isSome_iff_exists→NZ,bind_eq_some_iff→Nq
open Nat renaming reduceAdd → zA, reduceSub → zS, reduceMul → zM, reduceLeDiff → zL, reduceEqDiff → zE, reduceBEq → zB
set_option linter.all false
set_option linter.unusedSimpArgs false
set_option linter.unusedVariables false
set_option linter.unnecessarySimpa false
open Option renaming some→Qv
open Bool renaming false→Qw
open Option renaming none→Qx
open Bool renaming true→Qy
open Go renaming Program→QA,TypeId→QB,World→QD,Operand→QE,Value→QF
namespace Go.V
inductive Own where
 |none
 |full
 |nil
 |lab (k sz:Nat)
 deriving DecidableEq
inductive D where
 |junk
 |int (k:IntKind) (n:Int)
 |bool (b:Bool)
 |str (s:ByteArray)
 |slice (o:Own) (xs:List (List D))
 |agg (cs:List D)
 |tup (vs:List D)
 |nilp
 |box (b off:Nat)
 |pin (cs:List D)
 |func (fn:Fn) (first cap:List D)
 |nilf
 |map (b:Nat)
 |nilm
 |yield (b:Nat)
 |msl (b off len cap sz:Nat)
 |row0
 |row (b off n sz:Nat)
instance:Inhabited D:=⟨.junk⟩
structure G where
 w0:QD
 M:Nat→Nat→Option QF
 B:Nat→Option Nat
 L:Nat→Option (Option Addr×Nat×Nat×Nat)
 O:Nat→Prop
 S:Nat→Option Nat
def G.N(g:G):Nat:=g.w0.heap.size
def OwnOk(g:G):Own→Option Addr→Nat→Nat→Nat→Prop
 |.none,_,_,_,_=>True
 |.full,_,len,cap,_=>cap=len
 |.nil,a,len,cap,_=>a=.none∧len=0∧cap=0
 |.lab k z,a,len,cap,sz=>g.L k=Qv (a,len,cap,z)∧sz=z
def me:Nat:=281474976710656
inductive R (g:G):D→QF→Prop
 |junk (v:QF):R g .junk v
 |int (k:IntKind) (n:Int):R g (.int k n) (.int k n)
 |bool (b:Bool):R g (.bool b) (.bool b)
 |str (s:ByteArray):R g (.str s) (.string s)
 |slice (o:Own) (xs:List (List D)) (a:Option Addr) (cap sz blk off:Nat) (val:Nat→Nat→QF)
   (hc:xs.length≤cap) (hm:xs.length≤me) (ho:OwnOk g o a xs.length cap sz)
   (hs:∀(i:Nat)(hi:i<xs.length),xs[i].length=sz)
   (ha:0<xs.length→a=Qv ⟨blk,off,Qx⟩)
   (hM:∀i j:Nat,i<xs.length→j<sz→g.M blk (off+i*sz+j)=Qv (val i j))
   (hv:∀i j:Nat,i<xs.length→j<sz→(val i j).oneCell'=Qy)
   (hR:∀(i j:Nat)(hi:i<xs.length)(hj:j<xs[i].length),R g (xs[i][j]) (val i j)) :
   R g (.slice o xs) (.slice a xs.length cap)
 |agg (cs:List D) (vs:Array QF) (h:cs.length=vs.size) (hv:∀(i:Nat)(h2:i<vs.size),vs[i].oneCell'=Qy)
   (hR:∀(i:Nat)(h1:i<cs.length)(h2:i<vs.size),R g cs[i] vs[i]):R g (.agg cs) (.agg vs)
 |tup (cs:List D) (vs:Array QF) (h:cs.length=vs.size)
   (hR:∀(i:Nat)(h1:i<cs.length)(h2:i<vs.size),R g cs[i] vs[i]):R g (.tup cs) (.tuple vs)
 |nilp:R g .nilp (.pointer .none)
 |box (b off blk:Nat) (h:g.B b=Qv blk):R g (.box b off) (.pointer (Qv ⟨blk,off,.none⟩))
 |pin (cs:List D) (blk off:Nat) (val:Nat→QF)
   (hM:∀j:Nat,j<cs.length→g.M blk (off+j)=Qv (val j)) (hv:∀j:Nat,j<cs.length→(val j).oneCell'=Qy)
   (hR:∀(j:Nat)(hj:j<cs.length),R g cs[j] (val j)):R g (.pin cs) (.pointer (Qv ⟨blk,off,.none⟩))
 |func (fn:Fn) (fi ca:List D) (vf vc:Array QF) (h1:fi.length=vf.size) (h2:ca.length=vc.size)
   (hf:∀(i:Nat)(h1:i<fi.length)(h2:i<vf.size),R g fi[i] vf[i])
   (hc:∀(i:Nat)(h1:i<ca.length)(h2:i<vc.size),R g ca[i] vc[i]):R g (.func fn fi ca) (.func fn vf vc)
 |nilf:R g .nilf .nilFunc
 |map (b r:Nat) (h:g.B b=Qv r):R g (.map b) (.map (Qv r))
 |nilm:R g .nilm (.map .none)
 |yield (b l:Nat) (h:g.B b=Qv l):R g (.yield b) (.func (.yield l) #[] #[])
 |msl (b off len cap sz blk m:Nat) (h:g.B b=Qv blk) (hS:g.S blk=Qv m) (hc:len≤cap) (hz:0<sz) (hm:off+cap*sz≤m):R g (.msl b off len cap sz) (.slice (Qv ⟨blk,off,.none⟩) len cap)
 |row0 (a:Option Addr):R g .row0 (.slice a 0 0)
 |row (b off n sz blk m cap:Nat) (h:g.B b=Qv blk) (hS:g.S blk=Qv m) (hc:n≤cap) (hn:n≤me) (hz:0<sz) (hm:off+cap*sz≤m):R g (.row b off n sz) (.slice (Qv ⟨blk,off,.none⟩) n cap)
structure G.le (g g':G):Prop where
 w0:g'.w0=g.w0
 M:∀b o v,g.M b o=Qv v→g'.M b o=Qv v
 B:∀i b,g.B i=Qv b→g'.B i=Qv b
 L:∀k x,g.L k=Qv x→g'.L k=Qv x
 O:∀b,g.O b→g'.O b
 S:∀b n,g.S b=Qv n→g'.S b=Qv n
theorem G.le.refl(g:G):g.le g:=⟨rfl,λ_ _ _ h=>h,λ_ _ h=>h,λ_ _ h=>h,λ_ h=>h,λ_ _ h=>h⟩
theorem G.le.trans{a b c:G}(h:a.le b)(k:b.le c):a.le c:=
 ⟨k.w0.trans h.w0,λ_ _ _ x=>k.M _ _ _ (h.M _ _ _ x),λ_ _ x=>k.B _ _ (h.B _ _ x),λ_ _ x=>k.L _ _ (h.L _ _ x),λ_ x=>k.O _ (h.O _ x),λ_ _ x=>k.S _ _ (h.S _ _ x)⟩
theorem R.mono3{g g':G}{d:D}{v:QF}(h:R g d v)(gM:∀b o v,g.M b o=Qv v→g'.M b o=Qv v)(gB:∀i b,g.B i=Qv b→g'.B i=Qv b)(gL:∀k x,g.L k=Qv x→g'.L k=Qv x)(gS:∀b n,g.S b=Qv n→g'.S b=Qv n):R g' d v:=by
 induction h with
 |junk v=>exact .junk v
 |int k n=>exact .int k n
 |bool b=>exact .bool b
 |str s=>exact .str s
 |slice o xs a cap sz blk off val hc hm ho hs ha hM hv hR ih =>
  exact .slice o xs a cap sz blk off val hc hm (by cases o<;>simp only[OwnOk]at ho⊢ <;> first|exact ho|exact⟨gL _ _ ho.1,ho.2⟩) hs ha (λi j hi hj=>gM _ _ _ (hM i j hi hj)) hv ih
 |agg cs vs h hv hR ih=>exact .agg cs vs h hv ih
 |tup cs vs h hR ih=>exact .tup cs vs h ih
 |nilp=>exact .nilp
 |box b off blk h=>exact .box b off blk (gB _ _ h)
 |pin cs blk off val hM hv hR ih=>exact .pin cs blk off val (λj hj=>gM _ _ _ (hM j hj)) hv ih
 |func fn fi ca vf vc h1 h2 hf hc ihf ihc=>exact .func fn fi ca vf vc h1 h2 ihf ihc
 |nilf=>exact .nilf
 |map b r h=>exact .map b r (gB _ _ h)
 |nilm=>exact .nilm
 |yield b l h=>exact .yield b l (gB _ _ h)
 |msl b off len cap sz blk m h hS hc hz hm=>exact .msl b off len cap sz blk m (gB _ _ h) (gS _ _ hS) hc hz hm
 |row0 a=>exact .row0 a
 |row b off n sz blk m cap h hS hc hn hz hm=>exact .row b off n sz blk m cap (gB _ _ h) (gS _ _ hS) hc hn hz hm
theorem R.mono{g g':G}{d:D}{v:QF}(h:R g d v)(hg:g.le g'):R g' d v:=h.mono3 hg.M hg.B hg.L hg.S
inductive Box where
 |dead
 |cells (cs:List D)
 |map (es:List (D×D))
 |mapX (es:List (D×D)) (bs:List Nat) (c:Nat)
 |iter (mb c:Nat) (seen:List Nat)
 |loop (ps:List Tmp) (assign body:Code) (e:List D) (st:LoopState) (pend:Option Code)
structure St where
 boxes:List Box
 live:List Nat
 ctr:Nat
def jh(w:QD)(g:G)(i:Nat):Box→Prop
 |.dead=>True
 |.cells cs=>∃b arr T fr,g.B i=Qv b∧w.heap[b]?=Qv (.cells arr T fr)∧cs.length≤arr.size ∧
   (∀(j:Nat)(h1:j<cs.length)(h2:j<arr.size),R g cs[j] arr[j]∧arr[j].oneCell'=Qy)∧(∀o,g.M b o=Qx)∧fr=(0,0)
 |.map es=>∃b ents clock,g.B i=Qv b∧w.heap[b]?=Qv (.map ents clock)∧es.length=ents.size ∧
   ∀(j:Nat)(h1:j<es.length)(h2:j<ents.size),R g es[j].1 ents[j].key∧R g es[j].2 ents[j].val∧ents[j].born<clock∧∀(k:Nat)(h3:k<ents.size),ents[k].born=ents[j].born→k=j
 |.mapX es bs c=>∃b ents clock,g.B i=Qv b∧w.heap[b]?=Qv (.map ents clock)∧(es.length=ents.size∧bs=ents.toList.map (·.born)∧clock=c) ∧
   ∀(j:Nat)(h1:j<es.length)(h2:j<ents.size),R g es[j].1 ents[j].key∧R g es[j].2 ents[j].val∧ents[j].born<clock∧∀(k:Nat)(h3:k<ents.size),ents[k].born=ents[j].born→k=j
 |.iter mb c seen=>∃r m,g.B i=Qv r∧w.heap[r]?=Qv (.mapIter (Qv m) c seen.toArray c)∧g.B mb=Qv m
 |.loop ps assign body e st pend=>∃l fn tmps df,g.B i=Qv l∧w.heap[l]?=Qv (.loop {state:=st,pending:=pend,fn,tmps,params:=ps.toArray,assign,body,defers:=df}) ∧
   e.length=tmps.size∧∀(j:Nat)(h1:j<e.length)(h2:j<tmps.size),R g e[j] tmps[j]
def we(w:QD)(g:G)(k:Nat):Prop:=
 ∃a len cap sz,g.L k=Qv (a,len,cap,sz) ∧
  (len<cap→0<sz→∃b off arr T fr,a=Qv ⟨b,off,Qx⟩∧g.N≤b∧w.heap[b]?=Qv (.cells arr T fr)∧off+cap*sz≤arr.size ∧
   (∀o,off+len*sz≤o→g.M b o=Qx)∧(∀i,g.B i≠Qv b)∧fr=(0,0))
def Live1(s:St)(i:Nat):Prop:=∃bx,s.boxes[i]?=Qv bx∧bx≠.dead
structure WRel (w:QD) (g:G) (s:St):Prop where
 os:w.os=g.w0.os
 tape:w.tape=g.w0.tape
 out:w.output=g.w0.output
 fz:∀a,a.block<g.N→w.frozen? a=g.w0.frozen? a
 n:g.N≤w.heap.size
 old:∀b,b<g.N→w.heap[b]?=g.w0.heap[b]?
 m:∀b o v,g.M b o=Qv v→w.cell? ⟨b,o,Qx⟩=Qv v
 box:∀i bx,s.boxes[i]?=Qv bx→jh w g i bx
 inj:∀i j b,g.B i=Qv b→g.B j=Qv b→Live1 s i→Live1 s j→i=j
 dom:∀i b,g.B i=Qv b→i<s.boxes.length∧g.N≤b∧b<w.heap.size
 live:∀k,k∈s.live→we w g k
 uniq:∀k k',k∈s.live→k'∈s.live→∀b o len cap sz b' o' len' cap' sz',g.L k=Qv (Qv ⟨b,o,Qx⟩,len,cap,sz)→g.L k'=Qv (Qv ⟨b',o',Qx⟩,len',cap',sz') →
  len<cap→len'<cap'→0<sz→0<sz'→b=b'→k=k'
 ldom:∀k x,g.L k=Qv x→k<s.ctr
 o:∀b,g.O b→g.N≤b∧w.heap[b]?=Qv (.deferred (Qv []))
 nd:s.live.Nodup
 sz:∀b n,g.S b=Qv n→∃arr T fr,w.heap[b]?=Qv (.cells arr T fr)∧arr.size=n
def D.plain1:D→D
 |.slice _ xs=>.slice .none xs
 |d=>d
def D.plain:D→D
 |.slice _ xs=>.slice .none xs
 |.agg cs=>.agg (cs.map D.plain1)
 |d=>d
theorem R.plain1{g:G}{d:D}{v:QF}(h:R g d v):R g d.plain1 v:=by
 cases h with
 |slice o xs a cap sz blk off val hc hm ho hs ha hM hv hR=>exact .slice .none xs a cap sz blk off val hc hm trivial hs ha hM hv hR
 |_=>simp only[D.plain1];constructor<;>assumption
def D.keep1:D→D
 |.slice .nil xs=>.slice .nil xs
 |.slice _ xs=>.slice .none xs
 |d=>d
theorem R.keep1{g:G}{d:D}{v:QF}(h:R g d v):R g d.keep1 v:=by
 cases h with
 |slice o xs a cap sz blk off val hc hm ho hs ha hM hv hR =>
  cases o with
  |nil=>exact .slice .nil xs a cap sz blk off val hc hm ho hs ha hM hv hR
  |_=>exact .slice .none xs a cap sz blk off val hc hm trivial hs ha hM hv hR
 |_=>simp only[D.keep1];constructor<;>assumption
theorem R.plain{g:G}{d:D}{v:QF}(h:R g d v):R g d.plain v:=by
 cases h with
 |slice o xs a cap sz blk off val hc hm ho hs ha hM hv hR=>exact .slice .none xs a cap sz blk off val hc hm trivial hs ha hM hv hR
 |agg cs vs h hv hR=>exact .agg _ vs (by simpa using h) hv (λi h1 h2=>by simp only[M4];exact(hR i (by simpa using h1) h2).plain1)
 |_=>simp only[D.plain];constructor<;>assumption
theorem WRel.drew{w:QD}{g:G}{s:St}(h:WRel w g s):WRel w.drew g s:=
 ⟨h.os,h.tape,h.out,h.fz,h.n,h.old,h.m,h.box,h.inj,h.dom,h.live,h.uniq,h.ldom,h.o,h.nd,h.sz⟩
def Obj.plainCells:Obj→Bool
 |.cells _ _ fr=>fr.1 == 0&&fr.2 == 0
 |_=>Qy
variable {w:QD}{b:Nat}
theorem cB{o:Obj}{x:Obj}(h:w.heap[b]?=Qv x):(w.alloc o).heap[b]?=Qv x:=by
 have:b<w.heap.size:=by
  rcases Nb b w.heap.size with h'|h'
  ·exact h'
  ·rw[PZ h']at h;cases h
 show(w.heap.push o)[b]?=_;rw[Array.getElem?_push,if_neg (by omega)];exact h
theorem bq(w:QD)(o:Obj):(w.alloc o).heap[w.heap.size]?=Qv o:=by
 show(w.heap.push o)[w.heap.size]?=_;simp
theorem bL{x:Obj}(h:w.heap[b]?=Qv x):b<w.heap.size:=by
 rcases Nb b w.heap.size with h'|h'
 ·exact h'
 ·rw[PZ h']at h;cases h
theorem jh.alloc{w:QD}{g:G}{i:Nat}{bx:Box}(o:Obj)(h:jh w g i bx):jh (w.alloc o) g i bx:=by
 cases bx with
 |dead=>trivial
 |cells cs=>obtain⟨b,arr,T,fr,h1,h2,h3⟩:=h;exact⟨b,arr,T,fr,h1,cB h2,h3⟩
 |map es=>obtain⟨b,en,c,h1,h2,h3⟩:=h;exact⟨b,en,c,h1,cB h2,h3⟩
 |mapX es bs k=>obtain⟨b,en,c,h1,h2,h3⟩:=h;exact⟨b,en,c,h1,cB h2,h3⟩
 |iter mb k sn=>obtain⟨r,m,h1,h2,h3⟩:=h;exact⟨r,m,h1,cB h2,h3⟩
 |loop ps as bo e st pe=>obtain⟨l,fn,t,df,h1,h2,h3⟩:=h;exact⟨l,fn,t,df,h1,cB h2,h3⟩
theorem we.alloc{w:QD}{g:G}{k:Nat}(o:Obj)(h:we w g k):we (w.alloc o) g k:=by
 obtain⟨a,len,cap,sz,h1,h2⟩:=h;refine⟨a,len,cap,sz,h1,λh3 h4=>?_⟩;obtain⟨b,off,arr,T,fr,h5,h6,h7,h8⟩:=h2 h3 h4;exact⟨b,off,arr,T,fr,h5,h6,cB h7,h8⟩
variable {v:QF}
theorem vL{a:Addr}(h:w.cell? a=Qv v):a.block<w.heap.size:=World.block_lt_of_cell? _ _ h
theorem WRel.alloc{w:QD}{g:G}{s:St}(h:WRel w g s)(o:Obj)(ho:Obj.plainCells o=Qy):WRel (w.alloc o) g s where
 os:=h.os
 tape:=h.tape
 out:=h.out
 fz:=λa ha=>by rw[World.frozen?_alloc_old _ _ _ (by have:=h.n;omega)];exact h.fz a ha
 n:=by have:=h.n;simp;omega
 old:=λb hb=>by rw[Go.RowKit.Below.heap_alloc _ _ _ (by have:=h.n;omega)];exact h.old b hb
 m:=λb o' v hm=>by
  have:=h.m b o' v hm
  rw[World.cell?_alloc_lt _ _ _ (vL this)];exact this
 box:=λi bx hi=>(h.box i bx hi).alloc o
 inj:=h.inj
 dom:=λi b hi=>by have:=h.dom i b hi;simp;omega
 live:=λk hk=>(h.live k hk).alloc o
 uniq:=h.uniq
 ldom:=h.ldom
 o:=λb hb=>⟨(h.o b hb).1,cB (h.o b hb).2⟩
 nd:=h.nd
 sz:=λb n hb=>by obtain⟨arr,T,fr,h1,h2⟩:=h.sz b n hb;exact⟨arr,T,fr,cB h1,h2⟩
def G.addB(g:G)(i b:Nat):G:={g with B:=λj=>if j=i then Qv b else g.B j}
def G.addM(g:G)(b:Nat)(f:Nat→Option QF):G:={g with M:=λc o=>if c=b then f o else g.M c o}
def G.addL(g:G)(k:Nat)(x:Option Addr×Nat×Nat×Nat):G:={g with L:=λj=>if j=k then Qv x else g.L j}
variable {g:G}{s:St}
theorem qp(h:WRel w g s){b:Nat}(hb:w.heap.size≤b)(o:Nat):g.M b o=Qx:=by
 cases hm:g.M b o with
 |none=>rfl
 |some v=>have:=vL (h.m b o v hm);simp at this;omega
theorem jh.mono{w:QD}{g g':G}{i:Nat}{bx:Box}(h:jh w g i bx)(hg:g.le g')(hM:∀b,g.B i=Qv b→(∀o,g.M b o=Qx)→∀o,g'.M b o=Qx):jh w g' i bx:=by
 cases bx with
 |dead=>trivial
 |cells cs=>obtain⟨b,arr,T,fr,h1,h2,h3,h4,h5⟩:=h;exact⟨b,arr,T,fr,hg.B _ _ h1,h2,h3,λj x y=>⟨(h4 j x y).1.mono hg,(h4 j x y).2⟩,hM b h1 h5.1,h5.2⟩
 |map es=>obtain⟨b,en,c,h1,h2,h3,h4⟩:=h;exact⟨b,en,c,hg.B _ _ h1,h2,h3,λj x y=>⟨(h4 j x y).1.mono hg,(h4 j x y).2.1.mono hg,(h4 j x y).2.2⟩⟩
 |mapX es bs k=>obtain⟨b,en,c,h1,h2,h3,h4⟩:=h;exact⟨b,en,c,hg.B _ _ h1,h2,h3,λj x y=>⟨(h4 j x y).1.mono hg,(h4 j x y).2.1.mono hg,(h4 j x y).2.2⟩⟩
 |iter mb k sn=>obtain⟨r,m,h1,h2,h3⟩:=h;exact⟨r,m,hg.B _ _ h1,h2,hg.B _ _ h3⟩
 |loop ps as bo e st pe=>obtain⟨l,fn,t,df,h1,h2,h3,h4⟩:=h;exact⟨l,fn,t,df,hg.B _ _ h1,h2,h3,λj x y=>(h4 j x y).mono hg⟩
theorem ju{i:Nat}(hi:g.B i=Qx):g.le (g.addB i b):=
 ⟨rfl,λ_ _ _ h=>h,λj c h=>by simp only[G.addB];split<;>simp_all,λ_ _ h=>h,λ_ h=>h,λ_ _ h=>h⟩
theorem jX(h:WRel w g s){i:Nat}(hi:s.boxes.length≤i):g.B i=Qx:=by
 cases hb:g.B i with
 |none=>rfl
 |some b=>have:=h.dom i b hb;omega
theorem WRel.newBox{w:QD}{g:G}{s:St}(h:WRel w g s)(o:Obj)(ho:Obj.plainCells o=Qy)(bx:Box)
  (hbx:jh (w.alloc o) (g.addB s.boxes.length w.heap.size) s.boxes.length bx) :
  g.le (g.addB s.boxes.length w.heap.size)∧WRel (w.alloc o) (g.addB s.boxes.length w.heap.size) {s with boxes:=s.boxes++[bx]}:=by
 have hn:g.B s.boxes.length=Qx:=jX h (K5 _);have hle:g.le (g.addB s.boxes.length w.heap.size):=ju hn;have h':=h.alloc o ho;refine⟨hle,?_⟩;refine {os:=h'.os,tape:=h'.tape,out:=h'.out,fz:=h'.fz,n:=h'.n,old:=h'.old,m:=h'.m,box:=?_,inj:=?_,dom:=?_,live:=?_,uniq:=h'.uniq,ldom:=h'.ldom,o:=h'.o,nd:=h'.nd,sz:=h'.sz}
 ·intro i b hi;rw[PE]at hi;split at hi
  ·exact(h'.box i b hi).mono hle λ_ _ h=>h
  ·rename_i hlt;have:i=s.boxes.length:=by
    rcases Nb s.boxes.length i with hgt|hge
    ·rw[MS (by simp;omega)]at hi;cases hi
    ·omega
   subst this;simp at hi;subst hi;exact hbx
 ·intro i j b hi hj l1 l2;simp only[G.addB]at hi hj;split at hi<;>split at hj
  ·omega
  ·cases hi;have:=h.dom j _ hj;omega
  ·cases hj;have:=h.dom i _ hi;omega
  ·have d1:=(h.dom i _ hi).1;have d2:=(h.dom j _ hj).1;refine h.inj i j b hi hj ?_ ?_
   ·obtain⟨bx,e1,e2⟩:=l1;rw[ML d1]at e1;exact⟨bx,e1,e2⟩
   ·obtain⟨bx,e1,e2⟩:=l2;rw[ML d2]at e1;exact⟨bx,e1,e2⟩
 ·intro i b hi;simp only[G.addB]at hi;split at hi
  ·cases hi;have:=h.n;subst i;simp only[K4,MY,World.size_alloc];refine⟨by omega,?_,by omega⟩;exact h.n
  ·have:=h.dom i b hi;simp only[K4,MY,World.size_alloc];refine⟨by omega,this.2.1,by omega⟩
 ·intro k hk;obtain⟨a,len,cap,sz,h1,h2⟩:=h.live k hk;refine⟨a,len,cap,sz,h1,λh3 h4=>?_⟩;obtain⟨b,off,arr,T,fr,h5,h6,h7,h8,h9,h10⟩:=h2 h3 h4;refine⟨b,off,arr,T,fr,h5,h6,cB h7,h8,h9,λi hi=>?_,h10.2⟩;simp only[G.addB]at hi;split at hi
  ·cases hi;have:=bL h7;omega
  ·exact h10.1 i hi
theorem Jc(h:WRel w g s){b:Nat}(hb:w.heap.size≤b)(f:Nat→Option QF):g.le (g.addM b f):=
 ⟨rfl,λc o v hm=>by
  simp only[G.addM];split
  ·subst c;rw[qp h hb]at hm;cases hm
  ·exact hm,λ_ _ h=>h,λ_ _ h=>h,λ_ h=>h,λ_ _ h=>h⟩
theorem WRel.newCells{w:QD}{g:G}{s:St}(h:WRel w g s)(arr:Array QF)(T:QB)(f:Nat→Option QF)(hf:∀o v,f o=Qv v→arr[o]?=Qv v) :
  g.le (g.addM w.heap.size f)∧WRel (w.alloc (.cells arr T)) (g.addM w.heap.size f) s:=by
 have hle:=Jc h (K5 _) f;have h':=h.alloc (.cells arr T) rfl;refine⟨hle,?_⟩;refine {os:=h'.os,tape:=h'.tape,out:=h'.out,fz:=h'.fz,n:=h'.n,old:=h'.old,m:=?_,box:=?_,inj:=h'.inj,dom:=h'.dom,live:=?_,uniq:=h'.uniq,ldom:=h'.ldom,o:=h'.o,nd:=h'.nd,sz:=h'.sz}
 ·intro b o v hm;simp only[G.addM]at hm;split at hm
  ·subst b;rw[World.cell?_alloc_new];exact hf o v hm
  ·exact h'.m b o v hm
 ·intro i bx hi;refine(h'.box i bx hi).mono hle λb hb hn o=>?_;have:=h.dom i b hb
  simp only[G.addM];rw[if_neg (by omega)];exact hn o
 ·intro k hk;obtain⟨a,len,cap,sz,h1,h2⟩:=h.live k hk;refine⟨a,len,cap,sz,h1,λh3 h4=>?_⟩;obtain⟨b,off,arr,T,fr,h5,h6,h7,h8,h9,h10⟩:=h2 h3 h4;refine⟨b,off,arr,T,fr,h5,h6,cB h7,h8,λo ho=>?_,h10⟩;simp only[G.addM];rw[if_neg (by have:=bL h7;omega)];exact h9 o ho
theorem Jd(h:WRel w g s){k:Nat}(hk:s.ctr≤k)(x:Option Addr×Nat×Nat×Nat):g.le (g.addL k x):=
 ⟨rfl,λ_ _ _ h=>h,λ_ _ h=>h,λj y hj=>by
  simp only[G.addL];split
  ·subst j;have:=h.ldom _ _ hj;omega
  ·exact hj,λ_ h=>h,λ_ _ h=>h⟩
def setR(cs:List D)(off:Nat):List D→List D
 | []=>cs
 |d::ds=>setR (cs.set off d) (off+1) ds
theorem aX{a:Addr}(h:b≠a.block):(w.setCell a v).heap[b]?=w.heap[b]?:=Go.RowKit.Below.heap_setCell _ _ _ _ h
variable {T:QB}
theorem eQ{off:Nat}{arr:Array QF}{fr:Nat×Nat}(h:w.heap[b]?=Qv (.cells arr T fr)) :
  (w.setCell ⟨b,off,Qx⟩ v).heap[b]?=Qv (.cells (arr.setIfInBounds off v) T fr):=by
 simp[World.setCell,Array.getElem?_modify,h]
theorem pg{arr:Array QF}{fr:Nat×Nat}(hh:w.heap[b]?=Qv (.cells arr T fr))(hf:fr=(0,0))(o:Nat):w.frozen? ⟨b,o,Qx⟩=Qw:=by
 subst hf;simp[World.frozen?,hh]
theorem qN(h:∀b n,g.S b=Qv n→∃arr T fr,w.heap[b]?=Qv (.cells arr T fr)∧arr.size=n)(c off:Nat)(v:QF) :
  ∀b n,g.S b=Qv n→∃arr T fr,(w.setCell ⟨c,off,Qx⟩ v).heap[b]?=Qv (.cells arr T fr)∧arr.size=n:=by
 intro b n hb;obtain⟨arr,T,fr,h1,h2⟩:=h b n hb;by_cases e:b=c
 ·subst e;exact⟨_,T,fr,eQ h1,by simpa using h2⟩
 ·exact⟨arr,T,fr,by rw[aX (by simpa using e)];exact h1,h2⟩
theorem Live1.of_set{s:St}{i j:Nat}{bx:Box}{L:List Nat}{c:Nat}(h:Live1 ⟨s.boxes.set i bx,L,c⟩ j)(hi:Live1 s i):Live1 s j:=by
 obtain⟨x,h1,h2⟩:=h;by_cases e:j=i
 ·subst e;exact hi
 ·simp only at h1;rw[ME (by omega)]at h1;exact⟨x,h1,h2⟩
theorem WRel.setFree{w:QD}{g:G}{s:St}(h:WRel w g s){b off:Nat}{v:QF}{arr:Array QF}{T:QB}{fr:Nat×Nat}
  (hb:g.N≤b) (hh:w.heap[b]?=Qv (.cells arr T fr)) (hM:g.M b off=Qx) (hB:∀i,Live1 s i→g.B i≠Qv b) :
  WRel (w.setCell ⟨b,off,Qx⟩ v) g s where
 os:=h.os
 tape:=h.tape
 out:=h.out
 fz:=λa ha=>by rw[World.frozen?_setCell];exact h.fz a ha
 n:=by simpa using h.n
 old:=λc hc=>by rw[aX (by simp;omega)];exact h.old c hc
 m:=λc o u hm=>by
  rw[World.cell?_setCell_other]
  ·exact h.m c o u hm
  ·intro e;cases e;rw[hM]at hm;cases hm
 box:=λi bx hi=>by
  have:=h.box i bx hi
  by_cases hdead:bx=.dead
  ·subst hdead;trivial
  have hB:=hB i ⟨_,hi,hdead⟩;cases bx with
  |dead=>trivial
  |cells cs=>obtain⟨c,ar,T',fr',h1,h2,h3⟩:=this;exact⟨c,ar,T',fr',h1,by rw[aX (by intro e;exact hB (by rw[h1,e]))];exact h2,h3⟩
  |map es=>obtain⟨c,en,k,h1,h2,h3⟩:=this;exact⟨c,en,k,h1,by rw[aX (by intro e;exact hB (by rw[h1,e]))];exact h2,h3⟩
  |mapX es bs q=>obtain⟨c,en,k,h1,h2,h3⟩:=this;exact⟨c,en,k,h1,by rw[aX (by intro e;exact hB (by rw[h1,e]))];exact h2,h3⟩
  |iter mb q sn=>obtain⟨r,m,h1,h2,h3⟩:=this;exact⟨r,m,h1,by rw[aX (by intro e;exact hB (by rw[h1,e]))];exact h2,h3⟩
  |loop ps as bo e st pe=>obtain⟨l,fn,t,df,h1,h2,h3⟩:=this;exact⟨l,fn,t,df,h1,by rw[aX (by intro e;exact hB (by rw[h1,e]))];exact h2,h3⟩
 inj:=h.inj
 dom:=λi c hi=>by have:=h.dom i c hi;simpa using this
 live:=λk hk=>by
  obtain⟨a,len,cap,sz,h1,h2⟩:=h.live k hk;refine⟨a,len,cap,sz,h1,λh3 h4=>?_⟩;obtain⟨c,of,ar,T',fr',h5,h6,h7,h8,h9⟩:=h2 h3 h4;by_cases e:c=b
  ·subst e;rw[hh]at h7;cases h7;exact⟨c,of,_,T,fr,h5,h6,eQ hh,by simpa using h8,h9⟩
  ·exact⟨c,of,ar,T',fr',h5,h6,by rw[aX (by simpa using e)];exact h7,h8,h9⟩
 uniq:=h.uniq
 ldom:=h.ldom
 o:=λc hc=>⟨(h.o c hc).1,by rw[aX (by intro e;simp only at e;subst e;have:=(h.o _ hc).2;rw[hh]at this;cases this)];exact(h.o c hc).2⟩
 nd:=h.nd
 sz:=qN h.sz _ _ _
theorem WRel.setBox{w:QD}{g:G}{s:St}(h:WRel w g s){i b off:Nat}{v:QF}{d:D}{cs:List D}
  (hi:s.boxes[i]?=Qv (.cells cs)) (hb:g.B i=Qv b) (ho:off<cs.length) (hd:R g d v) (hv:v.oneCell'=Qy) :
  w.cell? ⟨b,off,Qx⟩≠Qx∧w.frozen? ⟨b,off,Qx⟩=Qw∧WRel (w.setCell ⟨b,off,Qx⟩ v) g {s with boxes:=s.boxes.set i (.cells (cs.set off d))}:=by
 obtain⟨b',arr,T,fr,h1,h2,h3,h4,h5⟩:=h.box i _ hi;rw[hb]at h1;cases h1;have hli:Live1 s i:=⟨_,hi,by simp⟩;have hN:=(h.dom i b hb).2.1;refine⟨by simp[World.cell?,h2];omega,pg h2 h5.2 off,?_⟩;refine {os:=h.os,tape:=h.tape,out:=h.out,fz:=λa ha=>by rw[World.frozen?_setCell];exact h.fz a ha,n:=by simpa using h.n,old:=?_,m:=?_,box:=?_,inj:=λj k c h1 h2 l1 l2=>h.inj j k c h1 h2 (l1.of_set hli) (l2.of_set hli),dom:=?_,live:=?_,uniq:=h.uniq,ldom:=h.ldom,o:=λc hc=>⟨(h.o c hc).1,by rw[aX (by intro e;simp only at e;subst e;have:=(h.o _ hc).2;rw[h2]at this;cases this)];exact(h.o c hc).2⟩,nd:=h.nd,sz:=qN h.sz _ _ _}
 ·intro c hc;rw[aX (by simp;omega)];exact h.old c hc
 ·intro c o u hm;rw[World.cell?_setCell_other]
  ·exact h.m c o u hm
  ·intro e;cases e;rw[h5.1]at hm;cases hm
 ·intro j bx hj;by_cases e:j=i
  ·subst e;have hlt:j<s.boxes.length:=by
    rcases Nb j s.boxes.length with q|q
    ·exact q
    ·rw[MS q]at hi;cases hi
   rw[MH hlt]at hj;cases hj;refine⟨b,arr.setIfInBounds off v,T,fr,hb,eQ h2,by simpa using h3,λq q1 q2=>?_,h5⟩;by_cases eq:q=off
   ·subst eq;simp[List.getElem_set];exact⟨hd,hv⟩
   ·have:=h4 q (by simpa using q1) (by simpa using q2)
    rw[OT (by omega),PB (by simpa using q2) (by omega)];exact this
  ·rw[ME (by omega)]at hj;by_cases hdead:bx=.dead
   ·subst hdead;trivial
   have hne:∀c,g.B j=Qv c→c≠b:=λc hc e'=>e (h.inj j i b (by rw[hc,e']) hb ⟨_,hj,hdead⟩ hli);have:=h.box j bx hj
   cases bx with
   |dead=>trivial
   |cells cs=>obtain⟨c,ar,T',fr',h1,h2,h3⟩:=this;exact⟨c,ar,T',fr',h1,by rw[aX (hne c h1)];exact h2,h3⟩
   |map es=>obtain⟨c,en,k,h1,h2,h3⟩:=this;exact⟨c,en,k,h1,by rw[aX (hne c h1)];exact h2,h3⟩
   |mapX es bs q=>obtain⟨c,en,k,h1,h2,h3⟩:=this;exact⟨c,en,k,h1,by rw[aX (hne c h1)];exact h2,h3⟩
   |iter mb q sn=>obtain⟨r,m,h1,h2,h3⟩:=this;exact⟨r,m,h1,by rw[aX (hne r h1)];exact h2,h3⟩
   |loop ps as bo e st pe=>obtain⟨l,fn,t,df,h1,h2,h3⟩:=this;exact⟨l,fn,t,df,h1,by rw[aX (hne l h1)];exact h2,h3⟩
 ·intro j c hj;have:=h.dom j c hj;simpa using this
 ·intro k hk;obtain⟨a,len,cap,sz,h1,h2'⟩:=h.live k hk;refine⟨a,len,cap,sz,h1,λh3 h4=>?_⟩;obtain⟨c,of,ar,T',fr',h5,h6,h7,h8,h9,h10⟩:=h2' h3 h4;exact⟨c,of,ar,T',fr',h5,h6,by rw[aX (λe=>h10.1 i (by rw[hb,e]))];exact h7,h8,h9,h10⟩
theorem WRel.storeBox{P:QA}{g:G}:∀(ds:List D)(vs:List QF)(w:QD)(s:St)(i b off k:Nat)(cs:List D),WRel w g s →
  s.boxes[i]?=Qv (.cells cs)→g.B i=Qv b→off+k+ds.length≤cs.length→ds.length=vs.length →
  (∀(j:Nat)(h1:j<ds.length)(h2:j<vs.length),R g ds[j] vs[j]∧vs[j].oneCell'=Qy) →
  ∃w',(storeCells ⟨b,off,Qx⟩ vs k).run P w=.ok () w'∧WRel w' g {s with boxes:=s.boxes.set i (.cells (setR cs (off+k) ds))}:=by
 intro ds;induction ds with
 |nil =>
  intro vs w s i b off k cs h hi hb ho hl hR;cases vs with
  |nil =>
   refine⟨w,rfl,?_⟩;have:s.boxes.set i (.cells cs)=s.boxes:=by
    apply List.ext_getElem?;intro j;by_cases e:j=i
    ·subst e;have hlt:j<s.boxes.length:=by
      rcases Nb j s.boxes.length with q|q
      ·exact q
      ·rw[MS q]at hi;cases hi
     rw[MH hlt,hi]
    ·rw[ME (by omega)]
   simp only[setR,this];exact h
  |cons v vs=>simp at hl
 |cons d ds ih =>
  intro vs w s i b off k cs h hi hb ho hl hR;cases vs with
  |nil=>simp at hl
  |cons v vs =>
   have h0:=hR 0 (by simp) (by simp);simp only[ND]at h0;obtain⟨hc,hf,hW⟩:=h.setBox (off:=off+k) hi hb (by simp at ho;omega) h0.1 h0.2;have hlt:i<s.boxes.length:=by
    rcases Nb i s.boxes.length with q|q
    ·exact q
    ·rw[MS q]at hi;cases hi
   obtain⟨w',hr,hw'⟩:=ih vs (w.setCell ⟨b,off+k,Qx⟩ v) _ i b off (k+1) (cs.set (off+k) d) hW (by simp[hlt]) hb (by simp at ho⊢;omega) (by simpa using hl)
    (λj h1 h2=>hR (j+1) (by simpa using h1) (by simpa using h2))
   refine⟨w',?_,?_⟩
   ·simp only[storeCells,Sem.run_bind];have hadd:(Addr.mk b off Qx).add k=⟨b,off+k,Qx⟩:=by
     unfold Addr.add;split
     ·subst k;rfl
     ·rfl
    rw[hadd,run_store P w _ v .plain h0.2];cases hcc:w.cell? ⟨b,off+k,Qx⟩with
    |none=>exact absurd hcc hc
    |some u=>simp only[hf,MJ,if_false,Result.andThen_ok];exact hr
   ·simpa[setR,List.set_set,N3]using hw'
theorem WRel.storeFree{P:QA}{g:G}{s:St}{b off:Nat}(hb:g.N≤b)(hB:∀i,Live1 s i→g.B i≠Qv b):∀(vs:List QF)(w:QD)(k:Nat)(arr:Array QF)(T:QB)(fr:Nat×Nat),fr=(0,0)→WRel w g s →
  w.heap[b]?=Qv (.cells arr T fr)→off+k+vs.length≤arr.size→(∀j,j<vs.length→g.M b (off+k+j)=Qx)→(∀v,v∈vs→v.oneCell'=Qy) →
  ∃w' arr',(storeCells ⟨b,off,Qx⟩ vs k).run P w=.ok () w'∧WRel w' g s∧w'.heap[b]?=Qv (.cells arr' T fr)∧arr'.size=arr.size ∧
   (∀j(hj:j<vs.length),arr'[off+k+j]?=Qv vs[j])∧(∀o,o<off+k→arr'[o]?=arr[o]?):=by
 intro vs;induction vs with
 |nil =>
  intro w k arr T fr hf0 h hh ho hM hv;exact⟨w,arr,rfl,h,hh,rfl,λj hj=>by simp at hj,λ_ _=>rfl⟩
 |cons v vs ih =>
  intro w k arr T fr hf0 h hh ho hM hv;simp only[K7]at ho hM;have hlt:off+k<arr.size:=by omega
  have hW:=h.setFree (off:=off+k) (v:=v) hb hh (by simpa using hM 0 (by omega)) hB;obtain⟨w',arr',hr,hw',hh',hs',hc',hk'⟩:=ih (w.setCell ⟨b,off+k,Qx⟩ v) (k+1) (arr.setIfInBounds (off+k) v) T fr hf0 hW (eQ hh) (by simp;omega)
   (λj hj=>by have:=hM (j+1) (by omega);rwa[show off+k+(j+1)=off+(k+1)+j by omega]at this) (λu hu=>hv u (by simp[hu]))
  refine⟨w',arr',?_,hw',hh',by simpa using hs',?_,?_⟩
  ·simp only[storeCells,Sem.run_bind];have hadd:(Addr.mk b off Qx).add k=⟨b,off+k,Qx⟩:=by
    unfold Addr.add;split
    ·subst k;rfl
    ·rfl
   rw[hadd,run_store P w _ v .plain (hv v (by simp))];have hcell:w.cell? ⟨b,off+k,Qx⟩=Qv arr[off+k]:=by simp[World.cell?,hh,hlt]
   simp only[hcell,pg hh hf0,MJ,if_false,Result.andThen_ok];exact hr
  ·intro j hj;cases j with
   |zero =>
    simp only[Ov,ND];rw[hk' (off+k) (by omega)];simp[hlt]
   |succ j =>
    have:=hc' j (by simpa using hj)
    rw[show off+(k+1)+j=off+k+(j+1) by omega]at this;simpa using this
  ·intro o ho';rw[hk' o (by omega),M0 (by omega)]
def G.addR(g:G)(b lo hi:Nat)(f:Nat→QF):G:={g with M:=λc o=>if c=b∧lo≤o∧o<hi then Qv (f o)else g.M c o}
theorem BE{lo hi:Nat}{f:Nat→QF}(hn:∀o,lo≤o→o<hi→g.M b o=Qx):g.le (g.addR b lo hi f):=
 ⟨rfl,λc o v hm=>by
  simp only[G.addR];split
  ·rename_i h;obtain⟨rfl,h1,h2⟩:=h;rw[hn o h1 h2]at hm;cases hm
  ·exact hm,λ_ _ h=>h,λ_ _ h=>h,λ_ h=>h,λ_ _ h=>h⟩
def St.relab(s:St)(o:Own):St:=
 {s with live:=s.ctr::(match o with|.lab k _=>s.live.erase k|_=>s.live),ctr:=s.ctr+1}
theorem cH{o:Own}{k:Nat}(hnd:s.live.Nodup)(h:k∈(s.relab o).live):k=s.ctr∨(k∈s.live∧∀z j,o=.lab j z→k≠j):=by
 simp only[St.relab,Mj]at h;rcases h with h|h
 ·exact .inl h
 ·right;cases o with
  |lab j z=>have:=(List.Nodup.mem_erase_iff hnd).1 h;exact⟨this.2,λz' j' e=>by cases e;exact this.1⟩
  |_=>exact⟨h,λ_ _ e=>by cases e⟩
theorem sE(h:WRel w g s)(o:Own):(s.relab o).live.Nodup:=by
 have hc:s.ctr ∉ s.live:=λhk=>by obtain⟨a,l,c,z,e,_⟩:=h.live _ hk;have:=h.ldom _ _ e;omega
 cases o with
 |lab j z=>exact Nk.2 ⟨λhk=>hc (List.mem_of_mem_erase hk),h.nd.erase j⟩
 |_=>exact Nk.2 ⟨hc,h.nd⟩
theorem WRel.labelFull{w:QD}{g:G}{s:St}(h:WRel w g s)(a:Option Addr)(n sz:Nat)(o:Own) :
  g.le (g.addL s.ctr (a,n,n,sz))∧WRel w (g.addL s.ctr (a,n,n,sz)) (s.relab o):=by
 have hle:=Jd h (K5 _) (a,n,n,sz);refine⟨hle,?_⟩;refine {os:=h.os,tape:=h.tape,out:=h.out,fz:=h.fz,n:=h.n,old:=h.old,m:=h.m,box:=λi bx hi=>(h.box i bx hi).mono hle λ_ _ h=>h,inj:=h.inj,dom:=h.dom,live:=?_,uniq:=?_,ldom:=?_,o:=h.o,nd:=sE h _,sz:=h.sz}
 ·intro k hk;rcases cH h.nd hk with rfl|⟨hk,_⟩
  ·exact⟨a,n,n,sz,by simp[G.addL],λh=>absurd h (Nat.lt_irrefl _)⟩
  ·obtain⟨a',len,cap,sz',h1,h2⟩:=h.live k hk;refine⟨a',len,cap,sz',hle.L _ _ h1,h2⟩
 ·intro k k' hk hk' b o1 len cap sz1 b' o2 len' cap' sz2 e1 e2 l1 l2 z1 z2 eb;simp only[G.addL]at e1 e2;split at e1
  ·cases e1;omega
  ·split at e2
   ·cases e2;omega
   ·rename_i n1 n2;rcases cH h.nd hk with q|⟨hk,_⟩
    ·exact absurd q n1
    ·rcases cH h.nd hk' with q|⟨hk',_⟩
     ·exact absurd q n2
     ·exact h.uniq k k' hk hk' b o1 len cap sz1 b' o2 len' cap' sz2 e1 e2 l1 l2 z1 z2 eb
 ·intro k x hx;simp only[G.addL]at hx;simp only[St.relab];split at hx
  ·omega
  ·have:=h.ldom k x hx;omega
theorem WRel.labelTake{w:QD}{g:G}{s:St}(h:WRel w g s){k b off len cap sz n:Nat}{arr:Array QF}{T:QB}{fr:Nat×Nat}{f:Nat→QF}(hk:k∈s.live)
  (hL:g.L k=Qv (Qv ⟨b,off,Qx⟩,len,cap,sz)) (hlc:len<cap) (hz:0<sz) (hcap:len+n≤cap) (hb:g.N≤b) (hh:w.heap[b]?=Qv (.cells arr T fr)) (hfr:fr=(0,0)) (hsz:off+cap*sz≤arr.size)
  (hM:∀o,off+len*sz≤o→g.M b o=Qx) (hB:∀i,g.B i≠Qv b) (hf:∀o,off+len*sz≤o→o<off+(len+n)*sz→arr[o]?=Qv (f o)) :
  g.le ((g.addR b (off+len*sz) (off+(len+n)*sz) f).addL s.ctr (Qv ⟨b,off,Qx⟩,len+n,cap,sz)) ∧
   WRel w ((g.addR b (off+len*sz) (off+(len+n)*sz) f).addL s.ctr (Qv ⟨b,off,Qx⟩,len+n,cap,sz)) (s.relab (.lab k sz)):=by
 have hle1:g.le (g.addR b (off+len*sz) (off+(len+n)*sz) f):=BE λo h1 _=>hM o h1;have hl:∀k x,g.L k=Qv x→((g.addR b (off+len*sz) (off+(len+n)*sz) f).addL s.ctr (Qv ⟨b,off,Qx⟩,len+n,cap,sz)).L k=Qv x:=by
  intro j x hx;simp only[G.addL];split
  ·subst j;have:=h.ldom _ _ hx;omega
  ·exact hx
 have hle:g.le ((g.addR b (off+len*sz) (off+(len+n)*sz) f).addL s.ctr (Qv ⟨b,off,Qx⟩,len+n,cap,sz)):=⟨rfl,hle1.M,hle1.B,hl,λ_ h=>h,λ_ _ h=>h⟩;refine⟨hle,?_⟩;refine {os:=h.os,tape:=h.tape,out:=h.out,fz:=h.fz,n:=h.n,old:=h.old,m:=?_,box:=?_,inj:=h.inj,dom:=h.dom,live:=?_,uniq:=?_,ldom:=?_,o:=h.o,nd:=sE h _,sz:=h.sz}
 ·intro c o v hm;simp only[G.addL,G.addR]at hm;split at hm
  ·rename_i q;obtain⟨rfl,q1,q2⟩:=q;cases hm;simp[World.cell?,hh,hf o q1 q2]
  ·exact h.m c o v hm
 ·intro i bx hi;refine(h.box i bx hi).mono hle λc hc hn o=>?_;simp only[G.addL,G.addR];rw[if_neg (λq=>hB i (by rw[hc,q.1]))];exact hn o
 ·intro j hj;rcases cH h.nd hj with rfl|⟨hj,hne⟩
  ·refine⟨Qv ⟨b,off,Qx⟩,len+n,cap,sz,by simp[G.addL],λh1 h2=>?_⟩;refine⟨b,off,arr,T,fr,rfl,hb,hh,hsz,λo ho=>?_,hB,hfr⟩;simp only[G.addL,G.addR];rw[if_neg (by omega)];refine hM o (Nat.le_trans ?_ ho);have:=Na sz (Nat.le_add_right len n)
   omega
  ·obtain⟨a',len',cap',sz',h1,h2⟩:=h.live j hj;refine⟨a',len',cap',sz',hl _ _ h1,λh3 h4=>?_⟩;obtain⟨c,of,ar,T',fr',h5,h6,h7,h8,h9,h10⟩:=h2 h3 h4;refine⟨c,of,ar,T',fr',h5,h6,h7,h8,λo ho=>?_,h10⟩;simp only[G.addL,G.addR];have hcb:c≠b:=by
    intro e;subst h5;exact hne sz k rfl (h.uniq j k hj hk c of len' cap' sz' b off len cap sz h1 hL h3 hlc h4 hz e)
   rw[if_neg (λq=>hcb q.1)];exact h9 o ho
 ·intro j j' hj hj' b1 o1 len1 cap1 sz1 b2 o2 len2 cap2 sz2 e1 e2 l1 l2 z1 z2 eb;simp only[G.addL]at e1 e2;split at e1
  ·split at e2
   ·omega
   ·rename_i n1 n2;cases e1;subst eb;rcases cH h.nd hj' with q|⟨hj',hne'⟩
    ·exact absurd q n2
    ·exact absurd (h.uniq j' k hj' hk _ _ _ _ _ _ _ _ _ _ e2 hL l2 (by omega) z2 hz rfl) (hne' sz k rfl)
  ·split at e2
   ·rename_i n1 n2;cases e2;subst eb;rcases cH h.nd hj with q|⟨hj,hne⟩
    ·exact absurd q n1
    ·exact absurd (h.uniq j k hj hk _ _ _ _ _ _ _ _ _ _ e1 hL l1 (by omega) z1 hz rfl) (hne sz k rfl)
   ·rename_i n1 n2;rcases cH h.nd hj with q|⟨hj,_⟩
    ·exact absurd q n1
    ·rcases cH h.nd hj' with q|⟨hj',_⟩
     ·exact absurd q n2
     ·exact h.uniq j j' hj hj' _ _ _ _ _ _ _ _ _ _ e1 e2 l1 l2 z1 z2 eb
 ·intro j x hx;simp only[G.addL]at hx;simp only[St.relab];split at hx
  ·omega
  ·have:=h.ldom j x hx;omega
theorem WRel.labelNew{w:QD}{g:G}{s:St}(h:WRel w g s)(o:Own)(arr:Array QF)(T:QB)(n cap sz:Nat)(f:Nat→QF)(hcap:cap*sz≤arr.size)(hn:n≤cap)
  (hf:∀j,j<n*sz→arr[j]?=Qv (f j)) :
  let g':=(g.addM w.heap.size (λj=>if j<n*sz then Qv (f j)else Qx)).addL s.ctr (Qv ⟨w.heap.size,0,Qx⟩,n,cap,sz)
  g.le g'∧WRel (w.alloc (.cells arr T)) g' (s.relab o):=by
 intro g';obtain⟨hle1,hW1⟩:=h.newCells arr T (λj=>if j<n*sz then Qv (f j)else Qx) (λo v hv=>by
  split at hv
  ·cases hv;exact hf _ (by assumption)
  ·cases hv)
 have hl:∀k x,g.L k=Qv x→g'.L k=Qv x:=by
  intro j x hx;simp only[g',G.addL];split
  ·subst j;have:=h.ldom _ _ hx;omega
  ·exact hx
 have hle:g.le g':=⟨rfl,hle1.M,hle1.B,hl,λ_ h=>h,λ_ _ h=>h⟩;refine⟨hle,?_⟩;refine {os:=hW1.os,tape:=hW1.tape,out:=hW1.out,fz:=hW1.fz,n:=hW1.n,old:=hW1.old,m:=hW1.m,box:=?_,inj:=hW1.inj,dom:=hW1.dom,live:=?_,uniq:=?_,ldom:=?_,o:=hW1.o,nd:=sE h _,sz:=hW1.sz}
 ·intro i bx hi;exact(hW1.box i bx hi).mono (g':=g') ⟨rfl,λ_ _ _ h=>h,λ_ _ h=>h,λk x hx=>hl k x hx,λ_ h=>h,λ_ _ h=>h⟩ λ_ _ h=>h
 ·intro j hj;rcases cH h.nd hj with rfl|⟨hj,hne⟩
  ·refine⟨Qv ⟨w.heap.size,0,Qx⟩,n,cap,sz,by simp[g',G.addL],λh1 h2=>?_⟩;refine⟨w.heap.size,0,arr,T,(0,0),rfl,h.n,bq w _,by omega,λo ho=>?_,λi hi=>?_,rfl⟩
   ·simp only[g',G.addL,G.addM,if_true];rw[if_neg (by omega)]
   ·have:=h.dom i _ hi;omega
  ·obtain⟨a',len',cap',sz',h1,h2⟩:=hW1.live j hj;exact⟨a',len',cap',sz',hl _ _ h1,h2⟩
 ·intro j j' hj hj' b1 o1 len1 cap1 sz1 b2 o2 len2 cap2 sz2 e1 e2 l1 l2 z1 z2 eb;simp only[g',G.addL]at e1 e2;have key:∀q b of le ca z,q∈s.live→g.L q=Qv (Qv ⟨b,of,Qx⟩,le,ca,z)→le<ca→b=w.heap.size→0<z→False:=by
   intro q b of le ca z hq hl hlt hb hz;obtain⟨a',len',cap',sz',h1,h2⟩:=h.live q hq;rw[hl]at h1;cases h1;obtain⟨c,of',ar,T',fr',h5,h6,h7,_⟩:=h2 hlt hz;cases h5;have:=bL h7
   omega
  split at e1
  ·split at e2
   ·omega
   ·rename_i n1 n2;cases e1;rcases cH h.nd hj' with q|⟨hj',_⟩
    ·exact absurd q n2
    ·exact(key j' _ _ _ _ _ hj' e2 l2 eb.symm z2).elim
  ·split at e2
   ·rename_i n1 n2;cases e2;rcases cH h.nd hj with q|⟨hj,_⟩
    ·exact absurd q n1
    ·exact(key j _ _ _ _ _ hj e1 l1 eb z1).elim
   ·rename_i n1 n2;rcases cH h.nd hj with q|⟨hj,_⟩
    ·exact absurd q n1
    ·rcases cH h.nd hj' with q|⟨hj',_⟩
     ·exact absurd q n2
     ·exact h.uniq j j' hj hj' _ _ _ _ _ _ _ _ _ _ e1 e2 l1 l2 z1 z2 eb
 ·intro j x hx;simp only[g',G.addL]at hx;simp only[St.relab];split at hx
  ·omega
  ·have:=h.ldom j x hx;omega
variable {c:Nat}
theorem fW{i j:Nat}{L:List Nat}(h:Live1 ⟨s.boxes.set i .dead,L,c⟩ j):Live1 s j∧j≠i:=by
 obtain⟨x,h1,h2⟩:=h;simp only at h1;by_cases e:j=i
 ·subst e;rcases Nb j s.boxes.length with q|q
  ·rw[MH q]at h1;cases h1;exact absurd rfl h2
  ·rw[MS (by simpa using q)]at h1;cases h1
 ·rw[ME (by omega)]at h1;exact⟨⟨x,h1,h2⟩,e⟩
theorem WRel.kill{w:QD}{g:G}{s:St}(h:WRel w g s)(i:Nat):WRel w g {s with boxes:=s.boxes.set i .dead}:=by
 refine {os:=h.os,tape:=h.tape,out:=h.out,fz:=h.fz,n:=h.n,old:=h.old,m:=h.m,box:=?_,inj:=λj k b h1 h2 l1 l2=>h.inj j k b h1 h2 (fW l1).1 (fW l2).1,dom:=λj b hb=>by have:=h.dom j b hb;simpa using this,live:=h.live,uniq:=h.uniq,ldom:=h.ldom,o:=h.o,nd:=h.nd,sz:=h.sz};intro j bx hj;by_cases e:j=i
 ·subst e;rcases Nb j s.boxes.length with q|q
  ·rw[MH q]at hj;cases hj;trivial
  ·rw[MS (by simpa using q)]at hj;cases hj
 ·rw[ME (by omega)]at hj;exact h.box j bx hj
def G.addS(g:G)(b n:Nat):G:={g with S:=λc=>if c=b then Qv n else g.S c}
theorem WRel.addS{w:QD}{g:G}{s:St}(h:WRel w g s){b:Nat}{arr:Array QF}{T:QB}{fr:Nat×Nat}(hh:w.heap[b]?=Qv (.cells arr T fr)):g.le (g.addS b arr.size)∧WRel w (g.addS b arr.size) s:=by
 have hle:g.le (g.addS b arr.size):=⟨rfl,λ_ _ _ h=>h,λ_ _ h=>h,λ_ _ h=>h,λ_ h=>h,λc n hc=>by
  simp only[G.addS];split
  ·subst c;obtain⟨a2,T2,f2,e1,e2⟩:=h.sz b n hc;rw[hh]at e1;cases e1;rw[e2]
  ·exact hc⟩
 refine⟨hle,{os:=h.os,tape:=h.tape,out:=h.out,fz:=h.fz,n:=h.n,old:=h.old,m:=h.m,box:=λj bx hj=>(h.box j bx hj).mono hle (λ_ _ h=>h),inj:=h.inj,dom:=h.dom,live:=h.live,uniq:=h.uniq,ldom:=h.ldom,o:=h.o,nd:=h.nd,sz:=?_}⟩;intro c n hc;simp only[G.addS]at hc;split at hc
 ·subst c;cases hc;exact⟨arr,T,fr,hh,rfl⟩
 ·exact h.sz c n hc
theorem WRel.rebox{w:QD}{g:G}{s:St}(h:WRel w g s){b:Nat}{arr:Array QF}{T:QB}{fr:Nat×Nat}{cs:List D}(hN:g.N≤b)(hh:w.heap[b]?=Qv (.cells arr T fr))(hfr:fr=(0,0))(hlen:cs.length≤arr.size)
  (hR:∀(j:Nat)(h1:j<cs.length)(h2:j<arr.size),R g cs[j] arr[j]∧arr[j].oneCell'=Qy) (hM:∀o,g.M b o=Qx) (hB:∀i,Live1 s i→g.B i≠Qv b) (hex:∃i,g.B i=Qv b) :
  g.le (g.addB s.boxes.length b)∧WRel w (g.addB s.boxes.length b) {s with boxes:=s.boxes++[.cells cs]}:=by
 have hn:g.B s.boxes.length=Qx:=jX h (K5 _);have hle:g.le (g.addB s.boxes.length b):=ju hn;have hl1:∀i,i<s.boxes.length→Live1 {s with boxes:=s.boxes++[.cells cs]} i→Live1 s i:=λi hi⟨bx,e1,e2⟩=>by
  simp only at e1;rw[ML hi]at e1;exact⟨bx,e1,e2⟩
 refine⟨hle,{os:=h.os,tape:=h.tape,out:=h.out,fz:=h.fz,n:=h.n,old:=h.old,m:=h.m,box:=?_,inj:=?_,dom:=?_,live:=?_,uniq:=h.uniq,ldom:=h.ldom,o:=h.o,nd:=h.nd,sz:=h.sz}⟩
 ·intro i bx hi;simp only at hi;rw[PE]at hi;split at hi
  ·exact(h.box i bx hi).mono hle λ_ _ h=>h
  ·rename_i hlt;have:i=s.boxes.length:=by
    rcases Nb s.boxes.length i with hgt|hge
    ·rw[MS (by simp;omega)]at hi;cases hi
    ·omega
   subst this;simp at hi;subst hi;exact⟨b,arr,T,fr,by simp[G.addB],hh,hlen,λj h1 h2=>⟨(hR j h1 h2).1.mono hle,(hR j h1 h2).2⟩,hM,hfr⟩
 ·intro i j c hi hj l1 l2;simp only[G.addB]at hi hj;split at hi<;>split at hj
  ·omega
  ·cases hi;have d2:=(h.dom j _ hj).1;exact absurd hj (hB j (hl1 j d2 l2))
  ·cases hj;have d2:=(h.dom i _ hi).1;exact absurd hi (hB i (hl1 i d2 l1))
  ·exact h.inj i j c hi hj (hl1 i (h.dom i _ hi).1 l1) (hl1 j (h.dom j _ hj).1 l2)
 ·intro i c hi;simp only[G.addB]at hi;split at hi
  ·cases hi;subst i;simp only[K4,MY];exact⟨by omega,hN,bL hh⟩
  ·have:=h.dom i c hi;simp only[K4,MY];exact⟨by omega,this.2⟩
 ·intro k hk;obtain⟨a,len,cap,sz,h1,h2⟩:=h.live k hk;refine⟨a,len,cap,sz,h1,λh3 h4=>?_⟩;obtain⟨c,off,ar,T',fr',h5,h6,h7,h8,h9,h10⟩:=h2 h3 h4;refine⟨c,off,ar,T',fr',h5,h6,h7,h8,h9,λi hi=>?_,h10.2⟩;simp only[G.addB]at hi;split at hi
  ·cases hi;obtain⟨j,hj⟩:=hex;exact h10.1 j hj
  ·exact h10.1 i hi
def aS(P:QA)(t:QB):Option Bool:=
 match P.underlying t with
 |some (.struct _)=>Qv Qy
 |some (.array _ _)=>Qv Qy
 |some _=>Qv Qw
 |none=>Qx
def sizeT(P:QA)(t:QB):Option Nat:=(P.info? t).map (·.size)
def zD:QF→D
 |.int k n=>.int k n
 |.bool b=>.bool b
 |.string s=>.str s
 |.pointer Qx=>.nilp
 |.slice Qx 0 0=>.slice .nil []
 |.nilFunc=>.nilf
 |.map Qx=>.nilm
 |_=>.junk
def zeroV(P:QA)(t:QB):Option QF:=(P.info? t).bind (·.zero)
def zeroT(P:QA)(t:QB):Option (List D):=(zeroV P t).bind λv=>if v.cells.toList.all (·.oneCell')then Qv (v.cells.toList.map zD)else Qx
def fieldT(P:QA)(t:QB)(f:Nat):Option (Nat×Nat×Bool):=
 match P.underlying t with
 |some (.struct fs)=>match fs[f]? with
  |some x=>match sizeT P x.type,aS P x.type with
   |some n,Qv a=>Qv (x.offset,n,a)
   |_,_=>Qx
  |none=>Qx
 |_=>Qx
def elemT(P:QA)(t:QB):Option (QB×Nat×Nat×Bool):=
 match P.underlying t with
 |some (.slice e)=>match P.info? e,aS P e with
  |some i,Qv a=>Qv (e,i.size,i.bytes,a)
  |_,_=>Qx
 |_=>Qx
variable {P:QA}{t:QB}
theorem gk{a:Bool}(h:aS P t=Qv a)(w:QD):(isAgg t).run P w=.ok a w:=by
 unfold aS at h;cases hu:P.underlying t with
 |none=>rw[hu]at h;cases h
 |some d =>
  rw[hu]at h;simp only[isAgg,Sem.run_bind,run_underlying hu,Result.andThen_ok];cases d<;>simp at h<;>subst h<;>rfl
variable {n:Nat}
theorem bZ(h:sizeT P t=Qv n)(w:QD):(sizeOf t).run P w=.ok n w:=by
 unfold sizeT at h;cases hi:P.info? t with
 |none=>rw[hi]at h;cases h
 |some i =>
  rw[hi]at h;cases h;simp[sizeOf,typeInfo,hi]
theorem gh{z:QF}(h:zeroV P t=Qv z)(w:QD):(zeroValue t).run P w=.ok z w:=by
 unfold zeroV at h;cases hi:P.info? t with
 |none=>rw[hi]at h;cases h
 |some i =>
  rw[hi]at h;simp at h;simp[zeroValue,typeInfo,hi,h]
def CellsOk(g:G)(cs:List D)(vs:List QF):Prop:=
 cs.length=vs.length∧∀(j:Nat)(h1:j<cs.length)(h2:j<vs.length),R g cs[j] vs[j]∧vs[j].oneCell'=Qy
theorem CellsOk.mono{g g':G}{cs:List D}{vs:List QF}(h:CellsOk g cs vs)(hg:g.le g'):CellsOk g' cs vs:=
 ⟨h.1,λj h1 h2=>⟨(h.2 j h1 h2).1.mono hg,(h.2 j h1 h2).2⟩⟩
theorem CellsOk.nil{g:G}:CellsOk g [] []:=⟨rfl,λj h1=>by simp at h1⟩
theorem CellsOk.cons{g:G}{d:D}{v:QF}{cs:List D}{vs:List QF}(h0:R g d v)(h1:v.oneCell'=Qy)(h:CellsOk g cs vs):CellsOk g (d::cs) (v::vs):=
 ⟨by simp[h.1],λj h1' h2'=>by cases j with
  |zero=>exact⟨h0,h1⟩
  |succ j=>exact h.2 j (by simpa using h1') (by simpa using h2')⟩
theorem CellsOk.append{g:G}{cs ds:List D}{vs us:List QF}(h:CellsOk g cs vs)(k:CellsOk g ds us):CellsOk g (cs++ds) (vs++us):=
 ⟨by simp[h.1,k.1],λj h1 h2=>by
  by_cases hj:j<cs.length
  ·have hj':j<vs.length:=by rw[←h.1];exact hj
   rw[M9 hj,M9 hj'];exact h.2 j hj hj'
  ·have hj':¬j<vs.length:=by rw[←h.1];exact hj
   rw[M1 (by omega),M1 (by omega)];simp only[h.1];exact k.2 (j-vs.length) (by simp[h.1]at h1;omega) (by simp at h2;omega)⟩
theorem CellsOk.plain{g:G}{cs:List D}{vs:List QF}(h:CellsOk g cs vs):CellsOk g (cs.map D.plain1) vs:=
 ⟨by simp[h.1],λj h1 h2=>by
  have:=h.2 j (by simpa using h1) h2
  simp only[M4];exact⟨this.1.plain1,this.2⟩⟩
theorem CellsOk.keep1{g:G}{cs:List D}{vs:List QF}(h:CellsOk g cs vs):CellsOk g (cs.map D.keep1) vs:=
 ⟨by simp[h.1],λj h1 h2=>by
  have:=h.2 j (by simpa using h1) h2
  simp only[M4];exact⟨this.1.keep1,this.2⟩⟩
theorem CellsOk.take{g:G}{cs:List D}{vs:List QF}(h:CellsOk g cs vs)(n:Nat):CellsOk g (cs.take n) (vs.take n):=
 ⟨by simp[h.1],λj h1 h2=>by
  simp only[NV];exact h.2 j _ _⟩
theorem CellsOk.drop{g:G}{cs:List D}{vs:List QF}(h:CellsOk g cs vs)(n:Nat):CellsOk g (cs.drop n) (vs.drop n):=
 ⟨by simp[h.1],λj h1 h2=>by
  simp only[Oe];exact h.2 _ _ _⟩
theorem CellsOk.agg{g:G}{cs:List D}{vs:List QF}(h:CellsOk g cs vs):R g (.agg cs) (.agg vs.toArray):=
 .agg cs vs.toArray (by simp[h.1]) (λi h2=>by simpa using(h.2 i (by rw[h.1];simpa using h2) (by simpa using h2)).2) (λi h1 h2=>by simpa using(h.2 i h1 (by simpa using h2)).1)
theorem CellsOk.get{g:G}{cs:List D}{vs:Array QF}(h:CellsOk g cs vs.toList)(j:Nat)(h1:j<cs.length)(h2:j<vs.size):R g cs[j] vs[j]∧vs[j].oneCell'=Qy:=by
 have:=h.2 j h1 (by simpa using h2)
 rw[Nr]at this;exact this
theorem CellsOk.of_agg{g:G}{cs:List D}{v:QF}(h:R g (.agg cs) v):∃vs:Array QF,v=.agg vs∧CellsOk g cs vs.toList:=by
 cases h with
 |agg _ vs h hv hR=>exact⟨vs,rfl,by simpa using h,λj h1 h2=>⟨by simpa using hR j h1 (by simpa using h2),by simpa using hv j (by simpa using h2)⟩⟩
def cellsD:D→Option (List D)
 |.agg cs=>Qv cs
 |.junk=>Qx
 |.tup _=>Qx
 |d=>Qv [d]
variable {d:D}
theorem lY{cs:List D}(h:R g d v)(hc:cellsD d=Qv cs):CellsOk g cs v.cells.toList:=by
 cases d with
 |agg cs' =>
  obtain⟨vs,rfl,hk⟩:=CellsOk.of_agg h;cases hc;exact hk
 |junk=>cases hc
 |tup _=>cases hc
 |_ =>
  cases hc;cases h<;>exact CellsOk.cons (by constructor<;>assumption) rfl CellsOk.nil
theorem GQ:R g (zD v) v:=by
 unfold zD;split<;>first
  |exact .junk _
  |(constructor;done)
  |exact .slice .nil [] Qx 0 0 0 0 (λ_ _=>.nilFunc) (K9 _) (K9 _) ⟨rfl,rfl,rfl⟩ (λi hi=>by simp at hi) (λh=>by simp at h) (λi j hi=>by simp at hi) (λi j hi=>by simp at hi) (λi j hi=>by simp at hi)
theorem gF{zs:List D}(h:zeroT P t=Qv zs):∃z,zeroV P t=Qv z∧∀g,CellsOk g zs z.cells.toList:=by
 unfold zeroT at h;cases hz:zeroV P t with
 |none=>rw[hz]at h;cases h
 |some z =>
  rw[hz]at h;simp only[Ni]at h;split at h
  ·rename_i hall;cases h;refine⟨z,rfl,λg=>⟨by simp,λj h1 h2=>?_⟩⟩;simp only[M4];exact⟨GQ,Mn.1 hall _ (Mf h2)⟩
  ·cases h
def Ok(P:QA)(m:Sem QF)(w:QD)(g:G)(d:D)(s':St):Prop:=
 ∃v w' g',m.run P w=.ok v w'∧g.le g'∧WRel w' g' s'∧R g' d v
def zV(cs:List D)(s:St):Option (D×St):=Qv (.box s.boxes.length 0,{s with boxes:=s.boxes++[.cells cs]})
theorem ug(h:WRel w g s)(T:QB){cs:List D}{vs:Array QF}(hc:CellsOk g cs vs.toList) :
  Ok P (do pure (.pointer (Qv (←newRow T vs)))) w g (.box s.boxes.length 0) {s with boxes:=s.boxes++[.cells cs]}:=by
 have hB:g.B s.boxes.length=Qx:=jX h (K5 _);have hle:g.le (g.addB s.boxes.length w.heap.size):=ju hB;obtain⟨h1,h2⟩:=h.newBox (.cells vs T) rfl (.cells cs) ⟨w.heap.size,vs,T,(0,0),by simp[G.addB],bq _ _,by have:=hc.1;simp at this;omega,
  λj h1 h2=>⟨(hc.get j h1 h2).1.mono hle,(hc.get j h1 h2).2⟩,λo=>qp h (K5 _) o,rfl⟩
 exact⟨.pointer (Qv ⟨w.heap.size,0,Qx⟩),w.alloc (.cells vs T),_,by simp[newRow],h1,h2,.box _ _ _ (by simp[G.addB])⟩
def kH(P:QA)(T:QB)(s:St):Option (D×St):=
 match zeroT P T with
 |some zs=>zV zs s
 |none=>Qx
variable {s':St}
theorem Ff(h:WRel w g s)(he:kH P T s=Qv (d,s')) :
  Ok P (Instr.alloc T Qy (.tuple #[])) w g d s':=by
 unfold kH at he;split at he
 ·rename_i zs hz;cases he;obtain⟨z,hzv,hok⟩:=gF hz;have:=ug (P:=P) h T (hok g)
  simpa only[Ok,Instr.alloc,newVar,Sem.run_bind,gh hzv,Result.andThen_ok]using this
 ·cases he
def kG(x:D)(s:St):Option (D×St):=
 match cellsD x with
 |some cs=>zV cs s
 |none=>Qx
variable {x:D}
theorem K0(h:WRel w g s)(hx:R g x v)(he:kG x s=Qv (d,s')) :
  Ok P (Instr.box T v) w g d s':=by
 unfold kG at he;split at he
 ·rename_i cs hc;cases he;exact ug (P:=P) h T (lY hx hc)
 ·cases he
def lI(agg:Bool)(n:Nat)(cs:List D):Option D:=
 if agg then(if n≤cs.length then Qv (.agg ((cs.take n).map D.plain1))else Qx)else cs[0]?
def evLoad(P:QA)(T:QB)(a:D)(s:St):Option D:=
 match aS P T,sizeT P T with
 |some ag,Qv n=>match a with
  |.box b off=>match s.boxes[b]? with
   |some (.cells cs)=>lI ag n (cs.drop off)
   |_=>Qx
  |.pin cs=>lI ag n cs
  |_=>Qx
 |_,_=>Qx
theorem co(b off n:Nat):(Addr.mk b off Qx).add n=⟨b,off+n,Qx⟩:=by
 unfold Addr.add;split
 ·subst n;rfl
 ·rfl
theorem pL{ag:Bool}{off:Nat}{cs:List D}{vs:List QF}(h1:aS P T=Qv ag)(h2:sizeT P T=Qv n)
  (hk:CellsOk g cs vs) (hc:∀(j:Nat)(hj:j<vs.length),w.cell? ⟨b,off+j,Qx⟩=Qv vs[j]) (hd:lI ag n cs=Qv d) :
  ∃v,(loadVar T ⟨b,off,Qx⟩).run P w=.ok v w∧R g d v:=by
 unfold lI at hd;cases ag with
 |true =>
  simp only[if_true]at hd;split at hd
  ·rename_i hn;cases hd;have hn':n≤vs.length:=by rw[←hk.1];exact hn
   have hl:=run_loadCells_list (P:=P) w ⟨b,off,Qx⟩ (vs.take n) (λj v hj=>by
    obtain⟨hlt,rfl⟩:=L5.1 hj;rw[co,NV];exact hc j _)
   rw[show(vs.take n).length=n by simp[hn']]at hl;refine⟨.agg (vs.take n).toArray,?_,(hk.take n).plain.agg⟩;simp only[loadVar,Sem.run_bind,gk h1,Result.andThen_ok,if_true,bZ h2,hl,Sem.run_pure]
  ·cases hd
 |false =>
  simp only[MJ,if_false]at hd;obtain⟨hlt,rfl⟩:=L5.1 hd;have hlt':0<vs.length:=by rw[←hk.1];exact hlt
  refine⟨vs[0],?_,(hk.2 0 hlt hlt').1⟩;have:=hc 0 hlt'
  simp only[Ov]at this;simp only[loadVar,Sem.run_bind,gk h1,Result.andThen_ok,MJ,if_false,run_load,this]
variable {a:D}
theorem xG(h:WRel w g s)(ha:R g a v)(he:evLoad P T a s=Qv d) :
  ∃u,(Instr.loadAt T v).run P w=.ok u w∧R g d u:=by
 unfold evLoad at he;split at he
 ·rename_i ag n h1 h2;split at he
  ·rename_i b off;split at he
   ·rename_i cs hb;obtain⟨blk,arr,T',fr,e1,e2,e3,e4,e5⟩:=h.box b _ hb;cases ha with
    |box _ _ blk' hB =>
     rw[e1]at hB;cases hB;have hk:CellsOk g cs (arr.toList.take cs.length):=⟨by simp;omega,λj x y=>by simpa using e4 j x (by simp at y;omega)⟩;obtain⟨u,hu,hRu⟩:=pL (P:=P) (w:=w) (b:=blk) (off:=off) h1 h2 (hk.drop off) (λj hj=>by
      have hlt:off+j<arr.size:=by simp at hj;omega
      simp[World.cell?,e2,hlt]) he
     exact⟨u,by simpa[Instr.loadAt,Instr.sureAddr]using hu,hRu⟩
   ·cases he
  ·rename_i cs;cases ha with
   |pin _ blk off val hM hv hR =>
    have hk:CellsOk g cs ((MF cs.length).map val):=⟨by simp,λj x y=>by simp;exact⟨hR j x,hv j x⟩⟩;obtain⟨u,hu,hRu⟩:=pL (P:=P) (w:=w) (b:=blk) (off:=off) h1 h2 hk (λj hj=>by simpa using h.m _ _ _ (hM j (by simpa using hj))) he;exact⟨u,by simpa[Instr.loadAt,Instr.sureAddr]using hu,hRu⟩
  ·cases he
 ·cases he
theorem Iz(h:WRel w g s)(ha:R g a v)(he:evLoad P T a s=Qv d) :
  Ok P (Instr.loadAt T v) w g d s:=by
 obtain⟨u,h1,h2⟩:=xG h ha he;exact⟨u,w,g,h1,.refl g,h,h2⟩
def storeD(cs:List D)(off:Nat)(ds:List D):List D:=cs.take off++(ds++cs.drop (off+ds.length))
theorem jA(ds:List D):∀(cs:List D)(off:Nat),off+ds.length≤cs.length→storeD cs off ds=setR cs off ds:=by
 induction ds with
 |nil=>intro cs off _;simp[storeD,setR]
 |cons d ds ih =>
  intro cs off h;simp only[K7]at h;rw[setR,←ih (cs.set off d) (off+1) (by simp;omega)];simp only[storeD,K7];have h1:(cs.set off d).take (off+1)=cs.take off++[d]:=by
   rw[List.set_eq_take_append_cons_drop,if_pos (by omega)];have:off+1=(cs.take off).length+1:=by simp;omega
   rw[this,List.take_length_add_append];simp
  have h2:(cs.set off d).drop (off+1+ds.length)=cs.drop (off+(ds.length+1)):=by
   rw[List.drop_set_of_lt (by omega)];congr 1;omega
  rw[h1,h2];simp
def iF(P:QA)(T:QB)(a x:D)(s:St):Option St:=
 match sizeT P T,cellsD x with
 |some n,Qv ds=>match a with
  |.box b off=>match s.boxes[b]? with
   |some (.cells cs)=>if ds.length=n∧off+n≤cs.length then Qv {s with boxes:=s.boxes.set b (.cells (storeD cs off ds))}else Qx
   |_=>Qx
  |_=>Qx
 |_,_=>Qx
variable {u:QF}
theorem E7(h:WRel w g s)(ha:R g a v)(hx:R g x u)(he:iF P T a x s=Qv s') :
  ∃w',(Instr.storeAt T v u).run P w=.ok () w'∧WRel w' g s':=by
 unfold iF at he;split at he
 ·rename_i n ds h1 h2;split at he
  ·rename_i b off;split at he
   ·rename_i cs hb;split at he
    ·rename_i hn;cases he;cases ha with
     |box _ _ blk hB =>
      have hk:=lY hx h2;obtain⟨w',hr,hw'⟩:=WRel.storeBox (P:=P) ds u.cells.toList w s b blk off 0 cs h hb hB (by omega) hk.1 hk.2;refine⟨w',?_,by rw[jA _ _ _ (by omega)];simpa using hw'⟩;have hsz:u.cells.size=n:=by have:=hk.1;simp at this;omega
      simp[Instr.storeAt,Instr.sureAddr,storeVar,bZ h1,hsz,hr]
    ·cases he
   ·cases he
  ·cases he
 ·cases he
def dW(P:QA)(S:QB)(a:D)(f:Nat):Option D:=
 match fieldT P S f with
 |some (o,n,_)=>if n=0 then Qx else match a with
  |.box b off=>Qv (.box b (off+o))
  |.pin cs=>Qv (.pin (cs.drop o))
  |_=>Qx
 |none=>Qx
variable {S:QB}{f:Nat}
theorem pT{o:Nat}{ag:Bool}(h:fieldT P S f=Qv (o,n,ag)) :
  ∃fs x,P.underlying S=Qv (.struct fs)∧fs[f]?=Qv x∧sizeT P x.type=Qv n∧aS P x.type=Qv ag∧x.offset=o:=by
 unfold fieldT at h;split at h
 ·rename_i fs hu;split at h
  ·rename_i x hx;split at h
   ·rename_i n' a' h1 h2;cases h;exact⟨fs,x,hu,hx,h1,h2,rfl⟩
   ·cases h
  ·cases h
 ·cases h
theorem uS(h:WRel w g s)(ha:R g a v)(he:dW P S a f=Qv d) :
  Ok P (Instr.fieldAt S v f) w g d s:=by
 unfold dW at he;split at he
 ·rename_i o n ag hf;obtain⟨fs,x,hu,hx,hs,_,ho⟩:=pT hf;split at he
  ·cases he
  ·rename_i hn;have key:∀b off,(Instr.fieldAt S (.pointer (Qv ⟨b,off,Qx⟩)) f).run P w=.ok (.pointer (Qv ⟨b,off+o,Qx⟩)) w:=by
    intro b off;simp[Instr.fieldAt,run_underlying hu,hx,Instr.sureAddr,fieldPlace,bZ hs,hn,co,ho]
   split at he
   ·rename_i b off;cases he;cases ha with
    |box _ _ blk hB=>exact⟨_,w,g,key _ _,.refl g,h,.box _ _ _ hB⟩
   ·rename_i cs;cases he;cases ha with
    |pin _ blk off val hM hv hR =>
     refine⟨_,w,g,key _ _,.refl g,h,.pin _ _ _ (λj=>val (o+j)) (λj hj=>?_) (λj hj=>?_) (λj hj=>?_)⟩
     ·have:=hM (o+j) (by simp at hj;omega);rwa[←N3]at this
     ·exact hv (o+j) (by simp at hj;omega)
     ·simp only[Oe];exact hR (o+j) (by simp at hj;omega)
   ·cases he
 ·cases he
def iG(P:QA)(S:QB)(x:D)(f:Nat):Option D:=
 match fieldT P S f,x with
 |some (o,n,ag),.agg cs=>if ag then(if o+n≤cs.length then Qv (.agg ((cs.drop o).take n))else Qx)else cs[o]?
 |_,_=>Qx
theorem Fa(h:WRel w g s)(hx:R g x v)(he:iG P S x f=Qv d) :
  Ok P (Instr.field S v f) w g d s:=by
 unfold iG at he;split at he
 ·rename_i o n ag cs hf;obtain⟨fs,y,hu,hy,hs,hag,ho⟩:=pT hf;obtain⟨vs,rfl,hk⟩:=CellsOk.of_agg hx;cases ag with
  |true =>
   simp only[if_true]at he;split at he
   ·rename_i hlen;cases he;refine⟨.agg (vs.extract o (o+n)),w,g,?_,.refl g,h,?_⟩
    ·simp[Instr.field,run_underlying hu,hy,asAgg,part,gk hag,bZ hs,ho]
    ·have:=((hk.drop o).take n).agg
     rw[show(vs.extract o (o+n))=((vs.toList.drop o).take n).toArray from ?_]
     ·exact this
     ·apply N5;simp[P7,List.extract]
   ·cases he
  |false =>
   simp only[MJ,if_false]at he;obtain⟨hlt,rfl⟩:=L5.1 he;have hlt':o<vs.size:=by have:=hk.1;simp at this;omega
   refine⟨vs[o],w,g,?_,.refl g,h,(hk.get o hlt hlt').1⟩;simp[Instr.field,run_underlying hu,hy,asAgg,part,gk hag,ho,hlt']
 ·cases he
theorem bN{sz:Nat}:∀(xs:List (List D)),(∀x∈xs,x.length=sz)→xs.flatten.length=xs.length*sz
 | [],_=>by simp
 |x::xs,h=>by
  have ih:=bN xs (λy hy=>h y (by simp[hy]));simp only[OQ,K4,ih,h x (by simp),K7,OP];omega
theorem lm{sz:Nat}:∀(xs:List (List D)),(∀x∈xs,x.length=sz)→∀(i j:Nat)(_:i<xs.length)(_:j<sz),xs.flatten[i*sz+j]?=(xs[i]?).bind (·[j]?)
 | [],_,i,j,hi,_=>by simp at hi
 |x::xs,h,i,j,hi,hj=>by
  have hx:=h x (by simp);cases i with
  |zero =>
   simp only[OQ,Nat.zero_mul,MR,List.getElem?_cons_zero,Ni];rw[ML (by omega)]
  |succ i =>
   have ih:=lm xs (λy hy=>h y (by simp[hy])) i j (by simpa using hi) hj;simp only[OQ,List.getElem?_cons_succ];rw[My (by rw[hx,OP];omega),hx,OP,show i*sz+sz+j-sz=i*sz+j by omega];exact ih
theorem Cj{xs:List (List D)}{sz:Nat}(h:∀(i:Nat)(hi:i<xs.length),xs[i].length=sz):∀x∈xs,x.length=sz:=by
 intro x hx;obtain⟨i,hi,rfl⟩:=Mx hx;exact h i hi
theorem gH {g:G} {o:Own} {xs:List (List D)} {v:QF} (h:R g (.slice o xs) v) :
    ∃a cap sz fl,v=.slice a xs.length cap∧xs.length≤cap∧xs.length≤me∧OwnOk g o a xs.length cap sz∧(∀x∈xs,x.length=sz)∧CellsOk g xs.flatten fl ∧
      (0<xs.length→∃blk off,a=Qv ⟨blk,off,Qx⟩∧∀j u,fl[j]?=Qv u→g.M blk (off+j)=Qv u):=by
  cases h with
  |slice _ _ a cap sz blk off val hc hm ho hs ha hM hv hR =>
    have hss:=Cj hs;have hlen:=bN xs hss;refine⟨a,cap,sz,(MF (xs.length*sz)).map (λq=>val (q / sz) (q % sz)),rfl,hc,hm,ho,hss,⟨by simp[hlen],λq h1 h2=>?_⟩,λh0=>⟨blk,off,ha h0,λq u hq=>?_⟩⟩
    · have hq:q<xs.length*sz:=by rw[←hlen];exact h1
      have hsz : 0 < sz := by rcases Nt sz with e | e; · rw [e] at hq; simp at hq
                              · exact e
      have hi:q / sz<xs.length:=P8 (by rw[Nat.mul_comm];exact hq);have hj:q % sz<sz:=OU _ hsz;have:=lm xs hss (q / sz) (q % sz) hi hj
      rw[Qn q sz,C0 h1,C0 hi]at this;simp only[Ni]at this;rw[C0 (by rw[hs _ hi];exact hj)]at this;simp only[M4,Ot];rw[NJ.inj this];exact⟨hR _ _ hi _,hv _ _ hi hj⟩
    · obtain⟨hlt,rfl⟩:=L5.1 hq;simp only[MW,List.length_range]at hlt
      have hsz : 0 < sz := by rcases Nt sz with e | e; · rw [e] at hlt; simp at hlt
                              · exact e
      have:=hM (q / sz) (q % sz) (P8 (by rw[Nat.mul_comm];exact hlt)) (OU _ hsz)
      rw[N3,Qn q sz]at this;simpa using this
theorem xr{o:Own}{xs:List (List D)}{a:Option Addr}{cap sz:Nat}{fl:List QF}(hc:xs.length≤cap)(hm:xs.length≤me)(ho:OwnOk g o a xs.length cap sz)
  (hs:∀x∈xs,x.length=sz) (hk:CellsOk g xs.flatten fl) (ha:0<xs.length→∃blk off,a=Qv ⟨blk,off,Qx⟩∧∀j u,fl[j]?=Qv u→g.M blk (off+j)=Qv u) :
  R g (.slice o xs) (.slice a xs.length cap):=by
 have hlen:=bN xs hs;have hfl:fl.length=xs.length*sz:=by rw[←hk.1,hlen]
 obtain⟨blk,off,h1⟩:∃blk off,0<xs.length→a=Qv ⟨blk,off,Qx⟩∧∀j u,fl[j]?=Qv u→g.M blk (off+j)=Qv u:=by
  rcases Nt xs.length with e|e
  ·exact⟨0,0,λh=>by omega⟩
  ·obtain⟨blk,off,h⟩:=ha e;exact⟨blk,off,λ_=>h⟩
 have key:∀i j,i<xs.length→j<sz→i*sz+j<fl.length:=by
  intro i j hi hj;rw[hfl];calc i*sz+j<i*sz+sz:=by omega
   _=(i+1)*sz:=by rw[OP]
   _≤xs.length*sz:=Na _ hi
 refine .slice o xs a cap sz blk off (λi j=>fl.getD (i*sz+j) undef) hc hm ho (λi hi=>hs _ (Mf hi)) (λh=>(h1 h).1) ?_ ?_ ?_
 ·intro i j hi hj;have:=(h1 (by omega)).2 (i*sz+j) (fl[i*sz+j]'(key i j hi hj)) (C0 (key i j hi hj))
  rw[←N3]at this;rw[this];simp[NC,C0 (key i j hi hj)]
 ·intro i j hi hj;have hlt:=key i j hi hj;simp only[NC,C0 hlt,Nf];exact(hk.2 _ (by rw[hk.1];exact hlt) hlt).2
 ·intro i j hi hj;have hj':j<sz:=by rw[hs _ (Mf hi)]at hj;exact hj
  have hlt:=key i j hi hj';have:=lm xs hs i j hi hj'
  rw[C0 (by rw[hk.1];exact hlt),C0 hi]at this;simp only[Ni]at this;rw[C0 hj]at this;simp only[NC,C0 hlt,Nf];rw[←NJ.inj this];exact(hk.2 _ (by rw[hk.1];exact hlt) hlt).1
theorem lD{o:Own}{xs:List (List D)}{a:Option Addr}{cap sz:Nat}{fl:List QF}(hn:xs.length=n)(hc:n≤cap)(hm:n≤me)(ho:OwnOk g o a n cap sz)
  (hs:∀x∈xs,x.length=sz) (hk:CellsOk g xs.flatten fl) (ha:0<n→∃blk off,a=Qv ⟨blk,off,Qx⟩∧∀j u,fl[j]?=Qv u→g.M blk (off+j)=Qv u) :
  R g (.slice o xs) (.slice a n cap):=by
 subst hn;exact xr hc hm ho hs hk ha
variable {e:QB}
theorem bP{ag:Bool}(h:elemT P t=Qv (e,n,b,ag)):P.underlying t=Qv (.slice e)∧(∃i,P.info? e=Qv i∧i.size=n∧i.bytes=b)∧aS P e=Qv ag:=by
 unfold elemT at h;split at h
 ·rename_i e' hu;split at h
  ·rename_i i a hi ha;cases h;exact⟨hu,⟨i,hi,rfl,rfl⟩,ha⟩
  ·cases h
 ·cases h
def aV(o:Own)(xs:List (List D))(sz:Nat)(s:St):Bool:=
 match o with
 |.none=>Qw
 |.lab k z=>s.live.contains k&&z == sz
 |_=>xs.all (·.length == sz)
def lR(P:QA)(T T':QB)(x y:D)(s:St):Option (D×St):=
 match elemT P T,elemT P T' with
 |some (e,sz,by_,_),Qv _=>match zeroT P e with
  |some zs=>match x,y with
   |.slice o xs,.slice _ ys =>
    if zs.length=sz∧0<sz∧0<by_∧by_≤1000000∧aV o xs sz s=Qy∧ys.all (·.length == sz)=Qy∧xs.length+ys.length≤1000000 then
     Qv (.slice (.lab s.ctr sz) (xs++ys),s.relab o)else Qx
   |_,_=>Qx
  |none=>Qx
 |_,_=>Qx
theorem zh {P:QA} {w:QD} {g:G} {s s':St} {T T' ty:QB} {x y d:D} {v u:QF} (h:WRel w g s) (hx:R g x v) (hy:R g y u) (he:lR P T T' x y s=Qv (d,s')) :
    Ok P (Builtin.append_ #[T,T'] ty #[v,u]) w g d s':=by
  unfold lR at he;split at he
  · rename_i e sz by_ ag el' h1 h1';split at he
    · rename_i zs hz;split at he
      · rename_i o xs oy ys;split at he
        · rename_i hcond;obtain⟨hzs,hsz,hby0,hby,hown,hys,hlen⟩:=hcond;cases he;obtain⟨hu,⟨i,hi,rfl,rfl⟩,_⟩:=bP h1;obtain⟨e',n',b',ag'⟩:=el';obtain⟨hu',_,_⟩:=bP h1';obtain⟨z,hzv,hzok⟩:=gF hz;have hiz:i.zero=Qv z:=by simpa[zeroV,hi]using hzv
          have hzc:z.cells.size=i.size:=by have:=(hzok g).1;simp at this;omega
          obtain⟨a,cap,szx,fx,rfl,hcx,hmx,hox,hsx,hkx,hax⟩:=gH hx;obtain⟨b,capy,szy,fy,rfl,hcy,hmy,hoy,hsy,hky,hay⟩:=gH hy;have hys':∀c∈ys,c.length=i.size:=by
            intro c hc;simpa using Mn.1 hys c hc
          have hxs':∀c∈xs,c.length=i.size:=by
            cases o with
            |none=>simp[aV]at hown
            |lab k z' =>
              simp only[aV,Mh,beq_iff_eq]at hown;have:=hox.2
              intro c hc;rw[hsx c hc,this,hown.2]
            |full=>intro c hc;simpa using Mn.1 hown c hc
            |nil=>intro c hc;simpa using Mn.1 hown c hc
          have hfx:fx.length=xs.length*i.size:=by rw[←hkx.1,bN xs hxs']
          have hfy:fy.length=ys.length*i.size:=by rw[←hky.1,bN ys hys']
          have hsize:∀c∈xs++ys,c.length=i.size:=by
            intro c hc;rcases List.mem_append.1 hc with hc|hc
            · exact hxs' c hc
            · exact hys' c hc
          have hkk:CellsOk g (xs++ys).flatten (fx++fy):=by rw[Qb];exact hkx.append hky
          have hnm:xs.length+ys.length≤me:=by simp[me];omega
          -- reading the second operand
          have hry:∀W:QD,(∀b o v,g.M b o=Qv v→W.cell? ⟨b,o,Qx⟩=Qv v)→(Builtin.firstCells i.size ys.length (.slice b ys.length capy)).run P W=.ok fy.toArray W:=by
            intro W hW;rcases Nt ys.length with e0|e0
            · have:fy=[]:=Nd (by rw[hfy,e0];simp)
              subst this;cases b with
              |none=>exact run_firstCells_none _ _ _ _ _
              |some b=>exact run_firstCells_some _ _ _ _ _ _ [] (by simp[e0]) (λj v hj=>by simp at hj)
            · obtain⟨blk,off,rfl,hMy⟩:=hay e0;exact run_firstCells_some _ _ _ _ _ _ fy hfy (λj v hj=>by rw[co];exact hW _ _ _ (hMy j v hj))
          have hrx:∀W:QD,(∀b o v,g.M b o=Qv v→W.cell? ⟨b,o,Qx⟩=Qv v)→(Builtin.firstCells i.size xs.length (.slice a xs.length cap)).run P W=.ok fx.toArray W:=by
            intro W hW;rcases Nt xs.length with e0|e0
            · have:fx=[]:=Nd (by rw[hfx,e0];simp)
              subst this;cases a with
              |none=>exact run_firstCells_none _ _ _ _ _
              |some b=>exact run_firstCells_some _ _ _ _ _ _ [] (by simp[e0]) (λj v hj=>by simp at hj)
            · obtain⟨blk,off,rfl,hMx⟩:=hax e0;exact run_firstCells_some _ _ _ _ _ _ fx hfx (λj v hj=>by rw[co];exact hW _ _ _ (hMx j v hj))
          by_cases hroom:xs.length+ys.length≤cap
          · -- it fits
            by_cases hfull:cap=xs.length
            · -- nothing is appended
              have hy0:ys.length=0:=by omega
              have hy0':ys=[]:=Nd hy0;subst hy0';have hfy0:fy=[]:=Nd (by rw[hfy];simp);subst hfy0;obtain⟨hle,hW⟩:=h.labelFull a xs.length i.size o;refine⟨.slice a xs.length cap,w,_,?_,hle,hW,?_⟩
              · have:=hry w h.m
                have hc0:xs.length≤cap:=by omega
                simp only[K8]at this;cases a<;>simp[Builtin.append_,run_underlying hu,run_underlying hu',sizeOf,typeInfo,hi,Builtin.lenOf,storeCells,hc0,this]
              · rw[MK];refine xr hcx hmx ⟨by simp[G.addL,hfull],rfl⟩ hxs' (hkx.mono hle) (λh0=>?_);obtain⟨blk,off,e1,e2⟩:=hax h0;exact⟨blk,off,e1,λj u hj=>hle.M _ _ _ (e2 j u hj)⟩
            · -- the room is that of a live label
              cases o with
              |none=>simp[aV]at hown
              |full=>exact absurd hox hfull
              |nil=>exact absurd (by have:=hox.2;omega) hfull
              |lab k z' =>
                simp only[aV,Mh,beq_iff_eq,List.contains_iff_mem]at hown;obtain⟨hkl,rfl⟩:=hown;obtain⟨a',len',cap',sz',hL,hlive⟩:=h.live k hkl;have hLk:=hox.1;rw[hLk]at hL;cases hL;obtain⟨blk,off,arr,T0,fr,rfl,hN,hh,hcap,hM,hB⟩:=hlive (by omega) hsz;have hmul:xs.length*i.size+fy.length≤cap*i.size:=by
                  rw[hfy,←NW];exact Na _ hroom
                obtain⟨w',arr',hr,hw',hh',hs',hcc,hkeep⟩:=WRel.storeFree (P:=P) (off:=off+xs.length*i.size) hN (λi _=>hB.1 i) fy w 0 arr T0 fr hB.2 h hh (by omega)
                  (λj hj=>hM _ (by omega)) (λv hv=>by obtain⟨j,hj,rfl⟩:=Mx hv;exact(hky.2 j (by rw[hky.1];exact hj) hj).2)
                obtain⟨hle,hW⟩:=hw'.labelTake (n:=ys.length) (f:=λo=>fy.getD (o-(off+xs.length*i.size)) undef) hkl hLk (by omega) hsz hroom hN hh' hB.2 (by omega) hM hB.1 (λo h1 h2=>by
                  have hj:o-(off+xs.length*i.size)<fy.length:=by rw[hfy];rw[NW]at h2;omega
                  have:=hcc _ hj
                  rw[show off+xs.length*i.size+0+(o-(off+xs.length*i.size))=o by omega]at this;rw[this];simp[NC,C0 hj])
                refine⟨.slice (Qv ⟨blk,off,Qx⟩) (xs.length+ys.length) cap,w',_,?_,hle,hW,?_⟩
                · simp[Builtin.append_,run_underlying hu,run_underlying hu',sizeOf,typeInfo,hi,Builtin.lenOf,hroom,hry w h.m,co,hr]
                · refine lD K4 hroom hnm ⟨by simp[G.addL],rfl⟩ hsize (hkk.mono hle) (λ_=>⟨blk,off,rfl,λj u hj=>?_⟩);rcases Nb j fx.length with hj'|hj'
                  · rw[ML hj']at hj
                    obtain ⟨blk', off', e1, e2⟩ := hax (by rcases Nt xs.length with e | e; · rw [hfx, e] at hj'; simp at hj'
                                                           · exact e)
                    cases e1;exact hle.M _ _ _ (e2 j u hj)
                  · rw[My hj']at hj;obtain⟨hlt,rfl⟩:=L5.1 hj;simp only[G.addL,G.addR];rw[if_pos ⟨trivial,by omega,by rw[NW];omega⟩];rw[show off+j-(off+xs.length*i.size)=j-fx.length by omega];simp[NC,C0 hlt]
          · -- a new row
            have h63:¬(9223372036854775807<(xs.length:Int)+(ys.length:Int)):=by omega
            have hfit:Builtin.nextslicecap (xs.length+ys.length) cap*i.bytes≤281474976710656:=growslice_fits (by omega) (by
              calc (xs.length+ys.length)*i.bytes≤1000000*1000000:=OE hlen hby
                _≤140737488355328:=by omega)
            have hfit':¬(281474976710656<Builtin.nextslicecap (xs.length+ys.length) cap*i.bytes):=by omega
            have hge:=grownCap_ge w (xs.length+ys.length) cap e;generalize hC:grownCap w (xs.length+ys.length) cap e=C at hge;have hne:i.bytes≠0:=by omega
            obtain⟨hle,hW⟩:=(h.drew).labelNew o (fx.toArray++fy.toArray++Builtin.zeroCells z.cells (C-(xs.length+ys.length))) e (xs.length+ys.length) C i.size
              (λj=>(fx++fy).getD j undef) (by
                simp only[Pq,Of,hfx,hfy,size_zeroCells,hzc,←NW];exact Na _ (by omega)) hge (λj hj=>by
                have hjl:j<(fx++fy).length:=by simp[hfx,hfy,←NW];exact hj
                rw[NQ (by simpa using hjl)];rw[show fx.toArray++fy.toArray=(fx++fy).toArray by simp];simp only[On];simp[NC,C0 hjl])
            refine⟨.slice (Qv ⟨w.heap.size,0,Qx⟩) (xs.length+ys.length) C,w.drew.alloc _,_,?_,hle,hW,?_⟩
            · have e1:=hry w.drew h.m;have e2:=hrx w.drew h.m;simp[Builtin.append_,run_underlying hu,run_underlying hu',sizeOf,typeInfo,hi,Builtin.lenOf,hroom,h63,hfit',hne,Question.forced,e1,e2,newRow,zeroValue,hiz];rw[show(Question.appendCap (xs.length+ys.length) cap e).cut (w.tape w.drawn (Question.appendCap (xs.length+ys.length) cap e))=C from hC];exact⟨rfl,by congr 2;apply N5;simp⟩
            · refine lD K4 hge hnm ⟨by simp[G.addL],rfl⟩ hsize (hkk.mono hle) (λ_=>⟨w.heap.size,0,rfl,λj u hj=>?_⟩);obtain⟨hlt,rfl⟩:=L5.1 hj;simp only[G.addL,G.addM,MR,World.size_drew,if_true];rw[if_pos (by simp[hfx,hfy,←NW]at hlt;exact hlt)];simp[NC,C0 hlt]
        · cases he
      · cases he
    · cases he
  · cases he
def jH(P:QA)(T T':QB)(x y:D)(s:St):Option (D×St):=
 match elemT P T,elemT P T' with
 |some (e,sz,by_,_),Qv _=>match zeroT P e with
  |some zs=>match y with
   |.slice _ ys =>
    if zs.length=sz∧0<sz∧0<by_∧by_≤1000000∧ys.all (·.length == sz)=Qy then
     match x with
     |.row0=>if ys=[]then Qv (.row0,s)else if ys.length≤1000000 then Qv (.row s.boxes.length 0 ys.length sz,{s with boxes:=s.boxes++[.cells ys.flatten]})else Qx
     |.row b off n rsz=>match s.boxes[b]? with
      |some (.cells cs)=>if rsz=sz∧off=0∧cs.length=n*sz∧n+ys.length≤1000000 then Qv (.row s.boxes.length 0 (n+ys.length) sz,{s with boxes:=s.boxes.set b .dead++[.cells (cs++ys.flatten)]})else Qx
      |_=>Qx
     |_=>Qx
    else Qx
   |_=>Qx
  |none=>Qx
 |_,_=>Qx
variable {T':QB}{y:D}
theorem zf{ty:QB}(h:WRel w g s)(hx:R g x v)(hy:R g y u)(he:jH P T T' x y s=Qv (d,s')) :
  Ok P (Builtin.append_ #[T,T'] ty #[v,u]) w g d s':=by
 unfold jH at he;split at he
 ·rename_i e sz by_ ag el' h1 h1';split at he
  ·rename_i zs hz;split at he
   ·rename_i oy ys;split at he
    ·rename_i hcond;obtain⟨hzs,hsz,hby0,hby,hys⟩:=hcond;obtain⟨hu,⟨i,hi,rfl,rfl⟩,_⟩:=bP h1;obtain⟨e',n',b',ag'⟩:=el';obtain⟨hu',_,_⟩:=bP h1';obtain⟨z,hzv,hzok⟩:=gF hz;have hiz:i.zero=Qv z:=by simpa[zeroV,hi]using hzv
     have hzc:z.cells.size=i.size:=by have:=(hzok g).1;simp at this;omega
     obtain⟨b,capy,szy,fy,rfl,hcy,hmy,hoy,hsy,hky,hay⟩:=gH hy;have hys':∀c∈ys,c.length=i.size:=by
      intro c hc;simpa using Mn.1 hys c hc
     have hfy:fy.length=ys.length*i.size:=by rw[←hky.1,bN ys hys']
     have hne:i.bytes≠0:=by omega
     have hry:∀W:QD,(∀b o v,g.M b o=Qv v→W.cell? ⟨b,o,Qx⟩=Qv v)→(Builtin.firstCells i.size ys.length (.slice b ys.length capy)).run P W=.ok fy.toArray W:=by
      intro W hW;rcases Nt ys.length with e0|e0
      ·have:fy=[]:=Nd (by rw[hfy,e0];simp)
       subst this;cases b with
       |none=>exact run_firstCells_none _ _ _ _ _
       |some b=>exact run_firstCells_some _ _ _ _ _ _ [] (by simp[e0]) (λj v hj=>by simp at hj)
      ·obtain⟨blk,off,rfl,hMy⟩:=hay e0;exact run_firstCells_some _ _ _ _ _ _ fy hfy (λj v hj=>by rw[co];exact hW _ _ _ (hMy j v hj))
     split at he
     ·-- nil
      cases hx with
      |row0 a =>
       split at he
       ·rename_i hnil;subst hnil;cases he;have hfy0:fy=[]:=Nd (by rw[hfy];simp);subst hfy0;have:=hry w h.m
        simp only[K8]at this;refine⟨.slice a 0 0,w,g,?_,.refl g,h,.row0 a⟩;cases a<;>simp[Builtin.append_,run_underlying hu,run_underlying hu',sizeOf,typeInfo,hi,Builtin.lenOf,storeCells,this]
       ·rename_i hnil;split at he
        ·rename_i hlen;cases he;have hpos:0<ys.length:=List.length_pos_iff.2 hnil;have hroom:¬(0+ys.length≤0):=by omega
         have h63:¬(9223372036854775807<((0:Nat):Int)+(ys.length:Int)):=by omega
         have hfit:Builtin.nextslicecap (0+ys.length) 0*i.bytes≤281474976710656:=growslice_fits (by omega) (by
          calc (0+ys.length)*i.bytes≤1000000*1000000:=OE (by omega) hby
           _≤140737488355328:=by omega)
         have hfit':¬(281474976710656<Builtin.nextslicecap (0+ys.length) 0*i.bytes):=by omega
         have hge:=grownCap_ge w (0+ys.length) 0 e;generalize hC:grownCap w (0+ys.length) 0 e=C at hge;obtain⟨arr,harr⟩:∃arr,arr=fy.toArray++Builtin.zeroCells z.cells (C-(0+ys.length)):=⟨_,rfl⟩;have hasz:arr.size=C*i.size:=by rw[harr];simp only[Pq,Of,hfy,size_zeroCells,hzc,←NW];congr 1;omega
         have hBn:g.B s.boxes.length=Qx:=jX h (K5 _);have hle0:g.le (g.addB s.boxes.length w.heap.size):=ju hBn;obtain⟨hle1,hW1⟩:=h.drew.newBox (.cells arr e) rfl (.cells ys.flatten) ⟨w.heap.size,arr,e,(0,0),by simp[G.addB],bq _ _,by rw[hky.1,harr];simp,
          λj q1 q2=>by
           have hj:j<fy.length:=by rw[←hky.1];exact q1
           have:=hky.2 j q1 hj
           have e2:arr[j]=fy[j]:=by
            have:arr[j]?=Qv fy[j]:=by rw[harr,NQ (by simpa using hj)];simp[hj]
            rw[MV q2]at this;exact NJ.inj this
           rw[e2];exact⟨this.1.mono hle0,this.2⟩,λo=>qp h (K5 _) o,rfl⟩
         obtain⟨hle2,hW2⟩:=hW1.addS (bq _ _);refine⟨.slice (Qv ⟨w.heap.size,0,Qx⟩) ys.length C,w.drew.alloc (.cells arr e),_,?_,hle1.trans hle2,hW2,?_⟩
         ·have e1:=hry w.drew h.m;have e2:∀W:QD,(Builtin.firstCells i.size 0 (.slice a 0 0)).run P W=.ok #[] W:=by
           intro W;cases a with
           |none=>exact run_firstCells_none _ _ _ _ _
           |some b=>exact run_firstCells_some _ _ _ _ _ _ [] (by simp) (λj v hj=>by simp at hj)
          simp only[MR]at h63 hfit' hC hroom;have hroom':¬ys=[]:=hnil;have h63':¬(9223372036854775807<(ys.length:Int)):=by omega
          simp[Builtin.append_,run_underlying hu,run_underlying hu',sizeOf,typeInfo,hi,Builtin.lenOf,hroom',h63',hfit',hne,Question.forced,e1,e2,newRow,zeroValue,hiz];rw[show(Question.appendCap ys.length 0 e).cut (w.tape w.drawn (Question.appendCap ys.length 0 e))=C from hC];rw[harr];refine⟨rfl,by congr 2;simp[MR]⟩
         ·refine .row _ _ _ _ w.heap.size arr.size C (by simp[G.addB,G.addS]) (by simp[G.addS]) (by omega) (by simp[me];omega) hsz (by omega)
        ·cases he
     ·-- a row
      rename_i bx off n rsz;split at he
      ·rename_i cs hbx;split at he
       ·rename_i hc;obtain⟨rfl,rfl,hcs,hlen⟩:=hc;cases he;cases hx with
        |row _ _ _ _ blk m cap hB hS hcap hn hz0 hm =>
         obtain⟨blk',arr,T0,fr,q1,q2,q3,q4,q5⟩:=h.box bx _ hbx;rw[hB]at q1;cases q1;have hN:=(h.dom bx blk hB).2.1;obtain⟨a2,T2,f2,e1,e2⟩:=h.sz blk m hS;rw[q2]at e1;cases e1;have hlive:∀i,Live1 {s with boxes:=s.boxes.set bx .dead} i→g.B i≠Qv blk:=by
          intro j hj hjB;obtain⟨l1,l2⟩:=fW hj;exact l2 (h.inj j bx blk hjB hB l1 ⟨_,hbx,by simp⟩)
         by_cases hroom:n+ys.length≤cap
         ·-- it fits
          have hmul:n*i.size+fy.length≤cap*i.size:=by
           rw[hfy,←NW];exact Na _ hroom
          obtain⟨w',arr',hr,hw',hh',hs',hcc,hkeep⟩:=WRel.storeFree (P:=P) (off:=n*i.size) hN hlive fy w 0 arr T0 fr q5.2 (h.kill bx) q2 (by omega)
           (λj hj=>q5.1 _) (λv hv=>by obtain⟨j,hj,rfl⟩:=Mx hv;exact(hky.2 j (by rw[hky.1];exact hj) hj).2)
          obtain⟨hle,hW⟩:=hw'.rebox (cs:=cs++ys.flatten) hN hh' q5.2 (by rw[K4,hky.1];omega) (λj h1 h2=>by
           by_cases hj:j<cs.length
           ·rw[M9 hj];have e3:=hkeep j (by omega);rw[MV h2,MV (by omega)]at e3;rw[NJ.inj e3];exact q4 j hj (by omega)
           ·rw[M1 (by omega)];have hj2:j-cs.length<fy.length:=by rw[K4,hky.1]at h1;omega
            have e3:=hcc (j-cs.length) hj2;rw[show n*i.size+0+(j-cs.length)=j by omega,MV h2]at e3;rw[NJ.inj e3];exact hky.2 _ _ _) q5.1 hlive ⟨bx,hB⟩
          refine⟨.slice (Qv ⟨blk,0,Qx⟩) (n+ys.length) cap,w',_,?_,hle,by simpa using hW,?_⟩
          ·simp[Builtin.append_,run_underlying hu,run_underlying hu',sizeOf,typeInfo,hi,Builtin.lenOf,hroom,hry w h.m,co,hr]
          ·exact .row _ _ _ _ blk arr.size cap (by simp[G.addB]) (by simp only[G.addB];rw[e2];exact hS) hroom (by simp[me];omega) hsz (by omega)
         ·-- a new row
          have h63:¬(9223372036854775807<(n:Int)+(ys.length:Int)):=by omega
          have hfit:Builtin.nextslicecap (n+ys.length) cap*i.bytes≤281474976710656:=growslice_fits (by omega) (by
           calc (n+ys.length)*i.bytes≤1000000*1000000:=OE hlen hby
            _≤140737488355328:=by omega)
          have hfit':¬(281474976710656<Builtin.nextslicecap (n+ys.length) cap*i.bytes):=by omega
          have hge:=grownCap_ge w (n+ys.length) cap e;generalize hC:grownCap w (n+ys.length) cap e=C at hge;obtain⟨fx,hfx⟩:∃fx,fx=arr.toList.take (n*i.size):=⟨_,rfl⟩;have hfxl:fx.length=n*i.size:=by rw[hfx];simp;omega
          have hrx:∀W:QD,W.heap=w.heap→(Builtin.firstCells i.size n (.slice (Qv ⟨blk,0,Qx⟩) n cap)).run P W=.ok fx.toArray W:=by
           intro W hW;refine run_firstCells_some _ _ _ _ _ _ fx hfxl (λj v hj=>?_);rw[co];obtain⟨hlt,rfl⟩:=L5.1 hj;have hlt2:j<arr.size:=by rw[hfxl]at hlt;omega
           simp[World.cell?,hW,q2,hlt2,hfx]
          obtain⟨arr2,harr⟩:∃arr2,arr2=fx.toArray++fy.toArray++Builtin.zeroCells z.cells (C-(n+ys.length)):=⟨_,rfl⟩;have hasz:arr2.size=C*i.size:=by rw[harr];simp only[Pq,Of,hfxl,hfy,size_zeroCells,hzc,←NW];congr 1;omega
          have hkk:CellsOk g (cs++ys.flatten) (fx++fy):=CellsOk.append ⟨by omega,λj h1 h2=>by
           have hlt2:j<arr.size:=by omega
           have e3:fx[j]=arr[j]:=by simp[hfx]
           rw[e3];exact q4 j h1 hlt2⟩ hky
          have hk:=h.drew.kill bx;have hBn:g.B s.boxes.length=Qx:=jX h (K5 _);have hle0:g.le (g.addB s.boxes.length w.heap.size):=ju hBn;obtain⟨hle1,hW1⟩:=hk.newBox (.cells arr2 e) rfl (.cells (cs++ys.flatten)) ⟨w.heap.size,arr2,e,(0,0),by simp[G.addB],bq _ _,by rw[hkk.1,harr];simp,
           λj p1 p2=>by
            have hj:j<(fx++fy).length:=by rw[←hkk.1];exact p1
            have:=hkk.2 j p1 hj
            have e2:arr2[j]=(fx++fy)[j]:=by
             have:arr2[j]?=Qv (fx++fy)[j]:=by
              rw[harr,NQ (by simpa using hj)];rw[show fx.toArray++fy.toArray=(fx++fy).toArray by simp];simp only[On];exact C0 hj
             rw[MV p2]at this;exact NJ.inj this
            rw[e2];exact⟨this.1.mono (by simpa using hle0),this.2⟩,λo=>qp h (K5 _) o,rfl⟩
          obtain⟨hle2,hW2⟩:=hW1.addS (bq _ _);refine⟨.slice (Qv ⟨w.heap.size,0,Qx⟩) (n+ys.length) C,w.drew.alloc (.cells arr2 e),_,?_,hle1.trans hle2,by simpa using hW2,?_⟩
          ·have e1:=hry w.drew h.m;have e2:=hrx w.drew rfl;simp[Builtin.append_,run_underlying hu,run_underlying hu',sizeOf,typeInfo,hi,Builtin.lenOf,hroom,h63,hfit',hne,Question.forced,e1,e2,newRow,zeroValue,hiz];rw[show(Question.appendCap (n+ys.length) cap e).cut (w.tape w.drawn (Question.appendCap (n+ys.length) cap e))=C from hC];rw[harr];exact⟨rfl,by congr 2;apply N5;simp⟩
          ·refine .row _ _ _ _ w.heap.size arr2.size C (by simp[G.addB,G.addS]) (by simp[G.addS]) (by omega) (by simp[me];omega) hsz (by omega)
       ·cases he
      ·cases he
     ·cases he
    ·cases he
   ·cases he
  ·cases he
 ·cases he
theorem Cu{zs:List D}:∀(n j:Nat)(h:j<(MD n zs).flatten.length),0<zs.length→∃h2:j % zs.length<zs.length,(MD n zs).flatten[j]=zs[j % zs.length]:=by
 intro n;induction n with
 |zero=>intro j h;simp at h
 |succ n ih =>
  intro j h hz;have h':j<zs.length+(MD n zs).flatten.length:=by simpa[Ph]using h
  refine⟨OU _ hz,?_⟩;have e:(MD (n+1) zs).flatten=zs++(MD n zs).flatten:=by simp[Ph]
  by_cases hj:j<zs.length
  ·have:(MD (n+1) zs).flatten[j]?=zs[j]?:=by rw[e,ML hj]
   rw[C0 h,C0 hj]at this;rw[NJ.inj this];congr 1;exact(Qo hj).symm
  ·obtain⟨h2,e2⟩:=ih (j-zs.length) (by omega) hz;have:(MD (n+1) zs).flatten[j]?=(MD n zs).flatten[j-zs.length]?:=by rw[e,My (by omega)]
   rw[C0 h,C0 (by omega)]at this;rw[NJ.inj this,e2];congr 1;rw[Qh (by omega:j≥zs.length)]
def lQ(P:QA)(T T':QB)(b off n c rsz:Nat)(y:D)(s:St):Option (D×St):=
 match elemT P T,P.underlying T',y with
 |some (e,sz,by_,_),Qv (.int _),.int _ k=>match zeroT P e,s.boxes[b]? with
  |some zs,Qv (.cells cs)=>if zs.length=sz∧0<sz∧0<by_∧by_≤1000000∧rsz=sz∧0<k∧(c:Int)<n+k∧n+k≤1000000∧off+n*sz≤cs.length then
    Qv (.row s.boxes.length 0 (n+k.toNat) sz,{s with boxes:=s.boxes++[.cells ((cs.drop off).take (n*sz)++(MD k.toNat zs).flatten)]})else Qx
  |_,_=>Qx
 |_,_,_=>Qx
theorem zg{ty:QB}{off rsz:Nat}(h:WRel w g s)(hx:R g (.msl b off n c rsz) v)(hy:R g y u)(he:lQ P T T' b off n c rsz y s=Qv (d,s')) :
  Ok P (Builtin.append_ #[T,T'] ty #[v,u]) w g d s':=by
 unfold lQ at he;split at he
 ·rename_i e sz by_ ag kn kq k h1 h2;split at he
  ·rename_i zs cs hz hb;split at he
   ·rename_i hc;obtain⟨c1,c2,c3,c4,rfl,c5,c6,c7,c8⟩:=hc;cases he;cases hy;obtain⟨hu,⟨i,hi,rfl,rfl⟩,_⟩:=bP h1;obtain⟨z,hzv,hzok⟩:=gF hz;have hiz:i.zero=Qv z:=by simpa[zeroV,hi]using hzv
    have hzk:=hzok g;have hzc:z.cells.size=i.size:=by have:=hzk.1;simp at this;omega
    obtain⟨k,rfl⟩:∃m:Nat,(m:Int)=k:=⟨k.toNat,by omega⟩;simp only[Int.toNat_natCast]at *;cases hx with
    |msl _ _ _ _ _ blk M hB hS hcap hz0 hM =>
     obtain⟨blk',arr,T0,fr,q1,q2,q3,q4,q5⟩:=h.box b _ hb;rw[hB]at q1;cases q1;obtain⟨fx,hfx⟩:∃fx,fx=(arr.toList.drop off).take (n*i.size):=⟨_,rfl⟩;have hfxl:fx.length=n*i.size:=by rw[hfx];simp;omega
     have hold:(Builtin.firstCells i.size n (.slice (Qv ⟨blk,off,Qx⟩) n c)).run P w.drew=.ok fx.toArray w.drew:=by
      refine run_firstCells_some _ _ _ _ _ _ fx hfxl (λj v hj=>?_);rw[co];obtain⟨hlt,rfl⟩:=L5.1 hj;have hlt2:off+j<arr.size:=by rw[hfxl]at hlt;omega
      simp[World.cell?,show w.drew.heap=w.heap from rfl,q2,hlt2,hfx]
     have hfit:Builtin.nextslicecap (n+k) c*i.bytes≤281474976710656:=growslice_fits (by omega) (by
      calc (n+k)*i.bytes≤1000000*1000000:=OE (by omega) c4
       _≤140737488355328:=by omega)
     have hkb:k*i.bytes≤281474976710656:=by
      calc k*i.bytes≤1000000*1000000:=OE (by omega) c4
       _≤281474976710656:=by omega
     have hrun:=Lib.run_append_grow_zeros (P:=P) w T T' ty e i z kq kn hu h2 hi hiz (Qv ⟨blk,off,Qx⟩) n c fx hold k (by omega) c2 (by omega) (by omega) hkb hfit;have hge:=grownCap_ge w (n+k) c e;generalize hC:grownCap w (n+k) c e=C at hge hrun;obtain⟨arr2,harr⟩:∃arr2,arr2=fx.toArray++Builtin.zeroCells z.cells k++Builtin.zeroCells z.cells (C-(n+k)):=⟨_,rfl⟩;rw[←harr]at hrun;have hasz:arr2.size=C*i.size:=by rw[harr];simp only[Pq,Of,hfxl,size_zeroCells,hzc,←NW];congr 1;omega
     have hlen:((cs.drop off).take (n*i.size)).length=n*i.size:=by simp;omega
     have hll:(n+k)*i.size≤C*i.size:=Na _ hge;have hrl:(MD k zs).flatten.length=k*i.size:=by simp[c1]
     have hBn:g.B s.boxes.length=Qx:=jX h (K5 _);have hle0:g.le (g.addB s.boxes.length w.heap.size):=ju hBn;obtain⟨hle1,hW1⟩:=h.drew.newBox (.cells arr2 e) rfl (.cells ((cs.drop off).take (n*i.size)++(MD k zs).flatten)) ⟨w.heap.size,arr2,e,(0,0),by simp[G.addB],bq _ _,by rw[K4,hlen,hrl,hasz,←NW];exact hll,
      λj p1 p2=>by
       by_cases hj:j<n*i.size
       ·have hja:off+j<arr.size:=by omega
        have hjc:off+j<cs.length:=by omega
        have:=q4 (off+j) hjc hja
        have e2:arr2[j]?=Qv arr[off+j]:=by
         rw[harr,NQ (by simp[hfxl];omega),NQ (by simp[hfxl];omega)];simp only[On,hfx];rw[List.getElem?_take_of_lt hj,OC];simp[hja]
        rw[MV p2]at e2;rw[NJ.inj e2,M9 (by rw[hlen];exact hj)];simp only[NV,Oe];exact⟨this.1.mono (by simpa using hle0),this.2⟩
       ·have hj2:j-n*i.size<(MD k zs).flatten.length:=by rw[K4,hlen]at p1;omega
        obtain⟨h3,e3⟩:=Cu k (j-n*i.size) hj2 (by omega);have hjk:j-n*i.size<k*i.size:=by rw[←hrl];exact hj2
        have hm:(j-n*i.size) % i.size<z.cells.size:=by rw[hzc];exact OU _ c2
        have e2:arr2[j]?=Qv z.cells[(j-n*i.size) % i.size]:=by
         rw[harr,NQ (by simp[hfxl,size_zeroCells,hzc];omega),Array.getElem?_append_right (by simp[hfxl];omega)];simp only[Of,hfxl,Builtin.zeroCells,Qi,hzc];rw[Array.getElem?_range,if_pos (by omega)];simp only[NR,NJ.injEq];exact getElem!_pos z.cells _ hm
        rw[MV p2]at e2;rw[NJ.inj e2,M1 (by rw[hlen];omega)];have:=hzk.2 ((j-n*i.size) % zs.length) h3 (by simp;omega)
        simp only[hlen,e3];simp only[c1,Nr]at this⊢;exact⟨this.1.mono (by simpa using hle0),this.2⟩,λo=>qp h (K5 _) o,rfl⟩
     obtain⟨hle2,hW2⟩:=hW1.addS (bq _ _);refine⟨.slice (Qv ⟨w.heap.size,0,Qx⟩) (n+k) C,w.drew.alloc (.cells arr2 e),_,hrun,hle1.trans hle2,by simpa using hW2,?_⟩;exact .row _ _ _ _ w.heap.size arr2.size C (by simp[G.addB,G.addS]) (by simp[G.addS]) (by omega) (by simp[me];omega) c2 (by omega)
   ·cases he
  ·cases he
 ·cases he
def cL(P:QA)(T T':QB)(x y:D)(s:St):Option (D×St):=
 match x with
 |.slice o xs=>lR P T T' (.slice o xs) y s
 |.msl b off n c rsz=>lQ P T T' b off n c rsz y s
 |x=>jH P T T' x y s
theorem CI{ty:QB}(h:WRel w g s)(hx:R g x v)(hy:R g y u)(he:cL P T T' x y s=Qv (d,s')) :
  Ok P (Builtin.append_ #[T,T'] ty #[v,u]) w g d s':=by
 unfold cL at he;split at he
 ·exact zh h hx hy he
 ·exact zg h hx hy he
 ·exact zf h hx hy he
def gd(P:QA)(T:QB)(x:D)(s:St):Option D:=
 match P.underlying T,x with
 |some (.slice _),.slice _ xs=>Qv (.int .i64 xs.length)
 |some (.slice _),.msl _ _ len _ _=>Qv (.int .i64 len)
 |some (.slice _),.row0=>Qv (.int .i64 0)
 |some (.slice _),.row _ _ n _=>Qv (.int .i64 n)
 |some .string,.str b=>Qv (.int .i64 b.size)
 |some (.map _ _),.nilm=>Qv (.int .i64 0)
 |some (.map _ _),.map b=>match s.boxes[b]? with
  |some (.map es)=>Qv (.int .i64 es.length)
  |_=>Qx
 |_,_=>Qx
theorem KY{ty:QB}(h:WRel w g s)(hx:R g x v)(he:gd P T x s=Qv d) :
  Ok P (Builtin.len_ #[T] ty #[v]) w g d s:=by
 unfold gd at he;split at he
 ·rename_i e o xs hu;cases he;obtain⟨a,cap,_,_,rfl,_⟩:=gH hx;exact⟨_,w,g,by simp[Builtin.len_,run_underlying hu,goInt],.refl g,h,.int _ _⟩
 ·rename_i e b off len cap msz hu;cases he;cases hx;exact⟨_,w,g,by simp[Builtin.len_,run_underlying hu,goInt],.refl g,h,.int _ _⟩
 ·rename_i e hu;cases he;cases hx;exact⟨_,w,g,by simp[Builtin.len_,run_underlying hu,goInt],.refl g,h,.int _ _⟩
 ·rename_i e b off n sz hu;cases he;cases hx;exact⟨_,w,g,by simp[Builtin.len_,run_underlying hu,goInt],.refl g,h,.int _ _⟩
 ·rename_i b hu;cases he;cases hx;exact⟨_,w,g,by simp[Builtin.len_,run_underlying hu,goInt],.refl g,h,.int _ _⟩
 ·rename_i a b hu;cases he;cases hx;exact⟨_,w,g,by simp[Builtin.len_,run_underlying hu,goInt],.refl g,h,.int _ _⟩
 ·rename_i a b c hu;split at he
  ·rename_i es hb;cases he;cases hx with
   |map _ r hB =>
    obtain⟨b',ents,clock,h1,h2,h3,h4⟩:=h.box c _ hb;rw[hB]at h1;cases h1;exact⟨.int .i64 es.length,w,g,by simp[Builtin.len_,run_underlying hu,getObj,Sem.run,h2,goInt,h3],.refl g,h,.int _ _⟩
  ·cases he
 ·cases he
def fq(P:QA)(T:QB)(x i:D):Option D:=
 match elemT P T,x,i with
 |some (_,sz,_,_),.slice _ xs,.int _ n=>match (if 0≤n then xs[n.toNat]? else Qx)with
  |some c=>if c.length=sz then Qv (.pin c)else Qx
  |none=>Qx
 |some (_,sz,_,_),.msl b off len _ _,.int _ n=>if 0≤n∧n<len then Qv (.box b (off+n.toNat*sz))else Qx
 |some (_,sz,_,_),.row b off len _,.int _ n=>if 0≤n∧n<len then Qv (.box b (off+n.toNat*sz))else Qx
 |_,_,_=>Qx
variable {i:D}
theorem s7(h:WRel w g s)(hx:R g x v)(hi:R g i u)(he:fq P T x i=Qv d) :
  Ok P (Instr.indexAt T v u) w g d s:=by
 unfold fq at he;split at he
 ·rename_i e sz by_ ag o xs k n h1;obtain⟨hu,⟨inf,hinf,rfl,rfl⟩,_⟩:=bP h1;split at he
  ·rename_i c hc;split at he
   ·rename_i hlen;cases he;split at hc
    ·rename_i hn;obtain⟨hlt,rfl⟩:=L5.1 hc;cases hi;cases hx with
     |slice _ _ a cap sz blk off val hc' hm ho hs ha hM hv hR =>
      have ha':=ha (by omega);subst ha';have hsz:sz=inf.size:=by rw[←hs _ hlt,hlen]
      subst hsz;refine⟨.pointer (Qv ⟨blk,off+n.toNat*inf.size,Qx⟩),w,g,?_,.refl g,h,.pin _ blk _ (λj=>val n.toNat j) (λj hj=>hM _ _ hlt (by omega)) (λj hj=>hv _ _ hlt (by omega)) (λj hj=>hR _ _ hlt hj)⟩;have hn':n<(xs.length:Int):=by omega
      simp[Instr.indexAt,asIntOf,run_underlying hu,hn,hn',sizeOf,typeInfo,hinf,co]
    ·cases hc
   ·cases he
  ·cases he
 ·rename_i e sz by_ ag b off len cap msz k n h1;obtain⟨hu,⟨inf,hinf,rfl,rfl⟩,_⟩:=bP h1;split at he
  ·rename_i hn;cases he;cases hi;cases hx with
   |msl _ _ _ _ _ blk m hB hS hc hz hm =>
    refine⟨.pointer (Qv ⟨blk,off+n.toNat*inf.size,Qx⟩),w,g,?_,.refl g,h,.box _ _ _ hB⟩;simp[Instr.indexAt,asIntOf,run_underlying hu,hn.1,hn.2,sizeOf,typeInfo,hinf,co]
  ·cases he
 ·rename_i e sz by_ ag b off len rsz k n h1;obtain⟨hu,⟨inf,hinf,rfl,rfl⟩,_⟩:=bP h1;split at he
  ·rename_i hn;cases he;cases hi;cases hx with
   |row _ _ _ _ blk m cap hB hS hc hn' hz hm =>
    refine⟨.pointer (Qv ⟨blk,off+n.toNat*inf.size,Qx⟩),w,g,?_,.refl g,h,.box _ _ _ hB⟩;simp[Instr.indexAt,asIntOf,run_underlying hu,hn.1,hn.2,sizeOf,typeInfo,hinf,co]
  ·cases he
 ·cases he
def BD(P:QA)(T:QB):Option (Nat×Nat):=
 match P.underlying T with
 |some (.array n e)=>(sizeT P e).map λz=>(n,z)
 |_=>Qx
def cD(P:QA)(T:QB)(x i:D):Option D:=
 match x,i with
 |.box b off,.int _ n=>match BD P T with
  |some (len,z)=>if 0≤n∧n<len then Qv (.box b (off+n.toNat*z))else Qx
  |none=>Qx
 |.pin cs,.int _ n=>match BD P T with
  |some (len,z)=>if 0≤n∧n<len then Qv (.pin (cs.drop (n.toNat*z)))else Qx
  |none=>Qx
 |x,i=>fq P T x i
variable {z:Nat}{k:IntKind}
theorem nA{len:Nat}{n:Int}{a:Addr}(ha:BD P T=Qv (len,z))(hn:0≤n∧n<len)(w:QD):(Instr.indexAt T (.pointer (Qv a)) (.int k n)).run P w=.ok (.pointer (Qv (a.add (n.toNat*z)))) w:=by
 unfold BD at ha;split at ha
 ·rename_i m e hu;obtain⟨q,hq,e1⟩:=MQ.1 ha;cases e1;simp[Instr.indexAt,asIntOf,run_underlying hu,Instr.sureAddr,hn.1,hn.2,bZ hq]
 ·cases ha
theorem uR(h:WRel w g s)(hx:R g x v)(hi:R g i u)(he:cD P T x i=Qv d) :
  Ok P (Instr.indexAt T v u) w g d s:=by
 unfold cD at he;split at he
 ·rename_i b off k n;split at he
  ·rename_i len z ha;split at he
   ·rename_i hn;cases he;cases hi;cases hx with
    |box _ _ blk hB =>
     refine⟨_,w,g,nA ha hn w,.refl g,h,?_⟩;rw[co];exact .box _ _ _ hB
   ·cases he
  ·cases he
 ·rename_i cs k n;split at he
  ·rename_i len z ha;split at he
   ·rename_i hn;cases he;cases hi;cases hx with
    |pin _ blk off val hM hv hR =>
     refine⟨_,w,g,nA ha hn w,.refl g,h,?_⟩;rw[co];refine .pin _ blk _ (λj=>val (n.toNat*z+j)) (λj hj=>?_) (λj hj=>hv _ (by simp at hj;omega)) (λj hj=>?_)
     ·have:=hM (n.toNat*z+j) (by simp at hj;omega)
      rwa[←N3]at this
     ·simp only[Oe];exact hR _ (by simp at hj;omega)
   ·cases he
  ·cases he
 ·exact s7 h hx hi he
def kE(P:QA)(T:QB)(x i:D):Option D:=
 match P.underlying T,x,i with
 |some .string,.str b,.int _ n=>match (if 0≤n then b[n.toNat]? else Qx)with
  |some c=>Qv (.int .u8 c.toNat)
  |none=>Qx
 |_,_,_=>Qx
theorem E9(h:WRel w g s)(hx:R g x v)(hi:R g i u)(he:kE P T x i=Qv d) :
  Ok P (Instr.index T v u) w g d s:=by
 unfold kE at he;split at he
 ·rename_i b k n hu;split at he
  ·rename_i c hc;cases he;cases hx;cases hi;refine⟨.int .u8 c.toNat,w,g,?_,.refl g,h,.int _ _⟩;simp only[Instr.index,asIntOf,Sem.run_bind,Sem.run_pure,Result.andThen_ok,run_underlying hu];rw[hc];rfl
  ·cases he
 ·cases he
def ik(place:Nat→Option (Nat×Nat))(cs:List D):List (Nat×D)→Option (List D)
 | []=>Qv cs
 |(i,x)::rest =>
  match place i,cellsD x with
  |some (off,n),Qv ds=>if ds.length=n∧off+n≤cs.length then ik place (storeD cs off (ds.map D.keep1)) rest else Qx
  |_,_=>Qx
theorem uw:∀(us:List QF)(k off:Nat)(ds cs:List D)(vs:Array QF),CellsOk g cs vs.toList→CellsOk g ds us→off+k+ds.length≤cs.length →
  CellsOk g (setR cs (off+k) ds) ((us.zipIdx k).foldl (λc x=>c.setIfInBounds (off+x.2) x.1) vs).toList∧((us.zipIdx k).foldl (λc x=>c.setIfInBounds (off+x.2) x.1) vs).size=vs.size:=by
 intro us;induction us with
 |nil =>
  intro k off ds cs vs h hd _;have:ds=[]:=Nd (by rw[hd.1];rfl)
  subst this;exact⟨h,rfl⟩
 |cons u us ih =>
  intro k off ds cs vs h hd hl;cases ds with
  |nil=>have:=hd.1;simp at this
  |cons d ds =>
   simp only[K7]at hl;have h0:=hd.2 0 (by simp) (by simp);simp only[ND]at h0;have hcs:CellsOk g (cs.set (off+k) d) (vs.setIfInBounds (off+k) u).toList:=by
    refine⟨by simpa using h.1,λj h1 h2=>?_⟩;simp only[Array.toList_setIfInBounds];by_cases e:off+k=j
    ·subst e;simp only[Py];exact h0
    ·rw[OT e,OT e];exact h.2 j (by simpa using h1) (by simpa using h2)
   have:=ih (k+1) off ds (cs.set (off+k) d) (vs.setIfInBounds (off+k) u) hcs ⟨by have:=hd.1;simpa using this,λj h1 h2=>hd.2 (j+1) (by simpa using h1) (by simpa using h2)⟩ (by simp;omega)
   refine⟨by simpa[setR,List.zipIdx_cons,N3]using this.1,by simpa[List.zipIdx_cons]using this.2⟩
theorem Bo{place:Nat→Option (Nat×Nat)}:∀(ps:List (Nat×D))(qs:List (Nat×QF))(cs cs':List D)(vs:Array QF),CellsOk g cs vs.toList →
  ps.length=qs.length→(∀(j:Nat)(h1:j<ps.length)(h2:j<qs.length),ps[j].1=qs[j].1∧R g ps[j].2 qs[j].2)→ik place cs ps=Qv cs' →
  ∃vs',Instr.fill place vs qs=Qv vs'∧CellsOk g cs' vs'.toList:=by
 intro ps;induction ps with
 |nil =>
  intro qs cs cs' vs h hl _ he;cases qs with
  |nil=>cases he;exact⟨vs,rfl,h⟩
  |cons q qs=>simp at hl
 |cons p ps ih =>
  intro qs cs cs' vs h hl hR he;cases qs with
  |nil=>simp at hl
  |cons q qs =>
   obtain⟨i,x⟩:=p;obtain⟨i',v⟩:=q;have h0:=hR 0 (by simp) (by simp);simp only[ND]at h0;obtain⟨rfl,hx⟩:=h0;simp only[ik]at he;split at he
   ·rename_i off n ds hp hd;split at he
    ·rename_i hcond;have hk:=(lY hx hd).keep1;have hsz:v.cells.size=n:=by have:=hk.1;simp at this;omega
     have hvs:vs.size=cs.length:=by have:=h.1;simp at this;exact this.symm
     obtain⟨f1,f2⟩:=uw v.cells.toList 0 off (ds.map D.keep1) cs vs h hk (by simp;omega);rw[jA _ _ _ (by simp;omega)]at he;obtain⟨vs',e1,e2⟩:=ih qs _ cs' _ (by simpa using f1) (by simpa using hl) (λj h1 h2=>hR (j+1) (by simpa using h1) (by simpa using h2)) he;refine⟨vs',?_,e2⟩;simp only[Instr.fill,hp];rw[if_neg (by simp[hsz,hvs];omega)];rw[←e1];congr 1;rw[←PK,Qc]
    ·cases he
   ·cases he
def vx(g:G)(ps:List (Nat×D))(qs:Array (Nat×QF)):Prop:=
 ps.length=qs.size∧∀(j:Nat)(h1:j<ps.length)(h2:j<qs.size),ps[j].1=qs[j].1∧R g ps[j].2 qs[j].2
def aF(P:QA)(T:QB)(f:Nat):Option (Nat×Nat):=match P.underlying T with
 |some (.array _ e)=>(sizeT P e).map λz=>(f*z,z)
 |_=>(fieldT P T f).map λx=>(x.1,x.2.1)
theorem qP{P:QA}(w:QD):∀(fs:List Field)(_:∀f∈fs,(sizeT P f.type).isSome=Qy),
  (fs.mapM (λf=>do pure (f.offset,←sizeOf f.type):Field→Sem (Nat×Nat))).run P w=.ok (fs.map λf=>(f.offset,(sizeT P f.type).getD 0)) w
 | [],_=>by simp
 |f::fs,h=>by
  obtain⟨n,hn⟩:=NZ.1 (h f (by simp));have ih:=qP w fs (λf hf=>h f (by simp[hf]));rw[Pb];simp only[Sem.run_bind,bZ hn,Result.andThen_ok,Sem.run_pure,ih,M6,hn,Nf]
def bc(P:QA)(T:QB):Bool:=
 match P.underlying T with
 |some (.struct fs)=>fs.toList.all λf=>(sizeT P f.type).isSome&&(aS P f.type).isSome
 |some (.array _ e)=>(sizeT P e).isSome
 |_=>Qw
def kF(P:QA)(T:QB)(ps:List (Nat×D)):Option D:=
 if bc P T then match zeroT P T with
  |some zs=>match ik (aF P T) zs ps with
   |some cs=>Qv (.agg cs)
   |none=>Qx
  |none=>Qx
 else Qx
theorem Fc{ps:List (Nat×D)}{qs:Array (Nat×QF)}(h:WRel w g s)(hp:vx g ps qs)(he:kF P T ps=Qv d) :
  Ok P (Instr.build T qs) w g d s:=by
 unfold kF at he;split at he
 ·rename_i hst;split at he
  ·rename_i zs hz;split at he
   ·rename_i cs hf;cases he;obtain⟨z,hzv,hzok⟩:=gF hz;unfold bc at hst;split at hst
    ·rename_i fs hu;have hall:=Mn.1 hst;obtain⟨vs',e1,e2⟩:=Bo ps qs.toList zs cs z.cells (hzok g) (by simpa using hp.1) (λj h1 h2=>by
      have:=hp.2 j h1 (by simpa using h2);simpa using this) hf
     refine⟨.agg vs',w,g,?_,.refl g,h,?_⟩
     ·have hpl:=qP (P:=P) w fs.toList (λf hf=>by have:=hall f hf;simp at this;simp[this.1]);have hpl':(fs.mapM (λf=>do pure (f.offset,←sizeOf f.type):Field→Sem (Nat×Nat))).run P w=.ok (fs.map λf=>(f.offset,(sizeT P f.type).getD 0)) w:=by
       rw[Array.mapM_eq_mapM_toList];simp only[Sem.run_map,hpl,Result.andThen_ok];congr 1;apply N5;simp
      have hplace:(λi=>(fs.map λf=>(f.offset,(sizeT P f.type).getD 0))[i]?)=aF P T:=by
       funext i;simp only[aF,fieldT,hu,Qi];cases hfi:fs[i]? with
       |none=>simp
       |some f =>
        have hm:f∈fs.toList:=by
         obtain⟨hlt,rfl⟩:=Array.getElem?_eq_some_iff.1 hfi;simp
        have:=hall f hm
        simp only[Mh]at this;obtain⟨n,hn⟩:=NZ.1 this.1;obtain⟨a,ha⟩:=NZ.1 this.2;simp[hn,ha]
      simp only[Instr.build,Sem.run_bind,gh hzv,Result.andThen_ok,run_underlying hu,hpl',hplace,e1,Sem.run_pure]
     ·exact e2.agg
    ·rename_i m e hu;obtain⟨q,hq⟩:=NZ.1 hst;obtain⟨vs',e1,e2⟩:=Bo ps qs.toList zs cs z.cells (hzok g) (by simpa using hp.1) (λj h1 h2=>by
      have:=hp.2 j h1 (by simpa using h2);simpa using this) hf
     refine⟨.agg vs',w,g,?_,.refl g,h,?_⟩
     ·have hplace:(λi=>Qv (i*q,q))=aF P T:=by
       funext i;simp only[aF,hu,hq,NR]
      simp only[Instr.build,Sem.run_bind,gh hzv,Result.andThen_ok,run_underlying hu,bZ hq,hplace,e1,Sem.run_pure]
     ·exact e2.agg
    ·cases hst
   ·cases he
  ·cases he
 ·cases he
def er(sz:Nat)(k:Nat):List (Nat×D)→Option (List (List D))
 | []=>Qv []
 |(i,x)::rest =>
  match cellsD x with
  |some ds=>if i=k∧ds.length=sz then match er sz (k+1) rest with
    |some r=>Qv (ds.map D.plain1::r)
    |none=>Qx
   else Qx
  |none=>Qx
theorem zK{sz:Nat}:∀(ps:List (Nat×D))(k:Nat)(r:List (List D)),er sz k ps=Qv r→(∀x∈r,x.length=sz)∧r.length=ps.length:=by
 intro ps;induction ps with
 |nil=>intro k r h;cases h;simp
 |cons p ps ih =>
  intro k r h;obtain⟨i,x⟩:=p;simp only[er]at h;split at h
  ·split at h
   ·rename_i hc;split at h
    ·rename_i ds _ r' hr;cases h;have:=ih _ _ hr
     refine⟨λy hy=>?_,by simp[this.2]⟩;rcases Mj.1 hy with rfl|hy
     ·simp[hc.2]
     ·exact this.1 y hy
    ·cases h
   ·cases h
  ·cases h
theorem EQ(ds:List D):∀(pre cs:List D),ds.length≤cs.length→setR (pre++cs) pre.length ds=pre++(ds++cs.drop ds.length):=by
 intro pre cs h;rw[←jA _ _ _ (by simp;omega)];simp[storeD,List.drop_append]
theorem zC{sz:Nat}:∀(ps:List (Nat×D))(qs:List (Nat×QF))(k:Nat)(r:List (List D))(pre:List D)(vs:Array QF)(post:List D),
  CellsOk g (pre++post) vs.toList→pre.length=k*sz→post.length=ps.length*sz→ps.length=qs.length →
  (∀(j:Nat)(h1:j<ps.length)(h2:j<qs.length),ps[j].1=qs[j].1∧R g ps[j].2 qs[j].2)→er sz k ps=Qv r →
  ∃vs',Instr.fill (λi=>Qv (i*sz,sz)) vs qs=Qv vs'∧CellsOk g (pre++r.flatten) vs'.toList:=by
 intro ps;induction ps with
 |nil =>
  intro qs k r pre vs post h hpre hpost hl hR he;cases qs with
  |cons q qs=>simp at hl
  |nil =>
   cases he;have:post=[]:=Nd (by simpa using hpost)
   subst this;exact⟨vs,rfl,by simpa using h⟩
 |cons p ps ih =>
  intro qs k r pre vs post h hpre hpost hl hR he;cases qs with
  |nil=>simp at hl
  |cons q qs =>
   obtain⟨i,x⟩:=p;obtain⟨i',v⟩:=q;have h0:=hR 0 (by simp) (by simp);simp only[ND]at h0;obtain⟨rfl,hx⟩:=h0;simp only[er]at he;split at he
   ·rename_i ds hd;split at he
    ·rename_i hcond;obtain⟨rfl,hdl⟩:=hcond;split at he
     ·rename_i r' hr';cases he;have hk:=(lY hx hd).plain;have hpl:ds.length≤post.length:=by rw[hpost,hdl,K7,OP];omega
      have hsz:v.cells.size=sz:=by have:=hk.1;simp at this;omega
      have hvs:vs.size=pre.length+post.length:=by have:=h.1;simp at this;omega
      obtain⟨f1,f2⟩:=uw v.cells.toList 0 (i*sz) (ds.map D.plain1) (pre++post) vs h hk (by simp;omega);rw[Ov,←hpre,EQ _ _ _ (by simpa using hpl)]at f1;have f1':CellsOk g ((pre++ds.map D.plain1)++post.drop ds.length) ((v.cells.toList.zipIdx 0).foldl (λc x=>c.setIfInBounds (pre.length+x.2) x.1) vs).toList:=by
       simpa using f1
      obtain⟨vs',e1,e2⟩:=ih qs (i+1) r' _ _ _ f1' (by simp[hpre,hdl,OP]) (by simp[hpost,hdl,OP]) (by simpa using hl)
       (λj h1 h2=>hR (j+1) (by simpa using h1) (by simpa using h2)) hr'
      refine⟨vs',?_,by simpa using e2⟩;simp only[Instr.fill];rw[if_neg (by simp only[hsz,hvs,←hpre,ne_eq,not_true_eq_false,gt_iff_lt,Bool.or_eq_true,decide_eq_true_eq,false_or];omega)];rw[←e1];congr 1;rw[←PK,Qc,hpre]
     ·cases he
    ·cases he
   ·cases he
def dY(P:QA)(T:QB)(len:Nat)(ps:List (Nat×D)):Option D:=
 match elemT P T with
 |some (e,sz,_,_)=>match zeroT P e with
  |some zs=>if len*sz≤16777216∧ps.length=len∧len≤1000000∧zs.length=sz then match er sz 0 ps with
   |some r=>Qv (.slice .full r)
   |none=>Qx
   else Qx
  |none=>Qx
 |none=>Qx
theorem s8 {P:QA} {w:QD} {g:G} {s:St} {T:QB} {len:Nat} {ps:List (Nat × D)} {qs:Array (Nat × QF)} {d:D} (h:WRel w g s) (hp:vx g ps qs)
    (he:dY P T len ps=Qv d):Ok P (Instr.buildSlice T len qs) w g d s:=by
  unfold dY at he;split at he
  · rename_i e sz by_ ag h1;obtain⟨hu,⟨inf,hinf,rfl,rfl⟩,_⟩:=bP h1;split at he
    · rename_i zs hz;split at he
      · rename_i hcond;obtain⟨hbig,hlen,hmax,hzs⟩:=hcond;split at he
        · rename_i r hr;cases he;obtain⟨hrs,hrl⟩:=zK _ _ _ hr;obtain⟨z,hzv,hzok⟩:=gF hz;have hzc:z.cells.size=inf.size:=by have:=(hzok g).1;simp at this;omega
          have hgen:∀z0:Array QF,(len*inf.size≠0→z0=z.cells)→∃cells,Instr.fill (λi=>Qv (i*inf.size,inf.size)) ((Array.range (len*inf.size)).map (z0[· % z0.size]!)) qs.toList=Qv cells∧CellsOk g r.flatten cells.toList:=by
            intro z0 hz0;have:=zC (g:=g) (sz:=inf.size) ps qs.toList 0 r [] ((Array.range (len*inf.size)).map (z0[· % z0.size]!)) (MD (len*inf.size) .junk)
              ⟨by simp,λj x1 x2=>by
                simp only[List.nil_append,List.getElem_replicate];refine⟨.junk _,?_⟩;have hj:j<len*inf.size:=by simpa using x1
                have hz0':=hz0 (by omega)
                have hpos : 0 < inf.size := by rcases Nt inf.size with e | e; · rw [e] at hj; simp at hj
                                               · exact e
                have hlt:j % inf.size<z.cells.size:=by rw[hzc];exact OU _ hpos
                simp only[Array.toList_map,M4,Array.toList_range,Ot,hz0',hzc];rw[getElem!_pos z.cells _ hlt];exact((hzok g).get (j % inf.size) (by have:=(hzok g).1;simp at this;omega) hlt).2⟩
              (by simp) (by simp[hlen]) (by simpa using hp.1) (λj x1 x2=>by have:=hp.2 j x1 (by simpa using x2);simpa using this) hr
            simpa using this
          have hfin:∀cells:Array QF,CellsOk g r.flatten cells.toList→∃g',g.le g'∧WRel (w.alloc (.cells cells e)) g' s∧R g' (.slice .full r) (.slice (Qv ⟨w.heap.size,0,Qx⟩) len len):=by
            intro cells hk;obtain⟨hle,hW⟩:=h.newCells cells e (λo=>cells[o]?) (λ_ _ h=>h);refine⟨_,hle,hW,lD (by omega) (K5 _) (by simp[me];omega) rfl hrs (hk.mono hle) (λ_=>⟨w.heap.size,0,rfl,λj u hj=>?_⟩)⟩;simp only[G.addM,MR,if_true];simpa using hj
          by_cases hzero:len*inf.size=0
          · obtain⟨cells,e1,e2⟩:=hgen #[] (λh=>absurd hzero h);obtain⟨g',hle,hW,hR⟩:=hfin cells e2;refine⟨_,_,g',?_,hle,hW,hR⟩;simp only[Instr.buildSlice,Sem.run_bind,run_underlying hu,Result.andThen_ok,bZ (show sizeT P e=Qv inf.size by simp[sizeT,hinf])];rw[if_neg (by omega),if_pos hzero];simp only[Sem.run_bind,Sem.run_pure,Result.andThen_ok,e1,newRow,run_newObj,World.alloc_eq]
          · obtain⟨cells,e1,e2⟩:=hgen z.cells (λ_=>rfl);obtain⟨g',hle,hW,hR⟩:=hfin cells e2;refine⟨_,_,g',?_,hle,hW,hR⟩;simp only[Instr.buildSlice,Sem.run_bind,run_underlying hu,Result.andThen_ok,bZ (show sizeT P e=Qv inf.size by simp[sizeT,hinf])];rw[if_neg (by omega),if_neg hzero];simp only[Sem.run_bind,gh hzv,Sem.run_pure,Result.andThen_ok,e1,newRow,run_newObj,World.alloc_eq]
        · cases he
      · cases he
    · cases he
  · cases he
def evInt(op:BinOp)(k:IntKind)(a b:Int):Option D:=
 match op with
 |.add=>Qv (.int k (k.wrap (a+b)))
 |.sub=>Qv (.int k (k.wrap (a-b)))
 |.mul=>Qv (.int k (k.wrap (a*b)))
 |.quo=>if b=0 then Qx else Qv (.int k (k.wrap (a.tdiv b)))
 |.rem=>if b=0 then Qx else Qv (.int k (a.tmod b))
 |.and=>Qv (.int k (bits .and k a b))
 |.or=>Qv (.int k (bits .or k a b))
 |.xor=>Qv (.int k (bits .xor k a b))
 |.andNot=>Qv (.int k (bits .andNot k a b))
 |.eql=>Qv (.bool (a == b))
 |.neq=>Qv (.bool (a != b))
 |.lss=>Qv (.bool (decide (a<b)))
 |.leq=>Qv (.bool (decide (a≤b)))
 |.gtr=>Qv (.bool (decide (a > b)))
 |.geq=>Qv (.bool (decide (a≥b)))
 |_=>Qx
def mm(op:BinOp)(k:IntKind)(a b:Int):Option D:=
 if b<0 then Qx else match op with
 |.shl=>Qv (.int k (k.wrap (a*2 ^ (min b.toNat k.bits))))
 |.shr=>Qv (.int k (a.fdiv (2 ^ (min b.toNat k.bits))))
 |_=>Qx
inductive Prim where
 |int|bool|str
 deriving DecidableEq
def primT(P:QA)(t:QB):Option Prim:=
 match P.underlying t with
 |some (.int _)=>Qv .int
 |some .bool=>Qv .bool
 |some .string=>Qv .str
 |_=>Qx
def eqT0(P:QA)(t:QB):Option (List (Nat×Prim)):=
 if P.eqGuardType P.depth t=Qw∧P.stoodInHeld t=Qw then
  match P.underlying t with
  | some (.struct fs) => fs.toList.mapM fun f => if f.name ≠ "_" then (primT P f.type).map fun p => (f.offset,p) else none
  |_=>Qx
 else Qx
def JH(P:QA)(f:Field):Option (List (Nat×Prim)):=
 match aS P f.type,sizeT P f.type,eqT0 P f.type with
 |some Qy,Qv z,Qv ps=>if ps.all (λq=>decide (q.1<z))then Qv (ps.map λq=>(f.offset+q.1,q.2))else Qx
 |_,_,_=>Qx
def fieldP(P:QA)(f:Field):Option (List (Nat×Prim)):=
 if f.name ≠ "_" then match primT P f.type with
  |some p=>Qv [(f.offset,p)]
  |none=>JH P f
 else Qx
def eqT(P:QA)(t:QB):Option (List (Nat×Prim)):=
 if P.eqGuardType P.depth t=Qw∧P.stoodInHeld t=Qw then
  match P.underlying t with
  |some (.struct fs)=>(fs.toList.mapM (fieldP P)).map List.flatten
  |_=>Qx
 else Qx
def eqPrim(p:Prim)(x y:Option D):Option Bool:=
 match p with
 |.int=>match x,y with
  |some (.int k a),Qv (.int k' b)=>if k=k' then Qv (a == b)else Qx
  |_,_=>Qx
 |.bool=>match x,y with
  |some (.bool a),Qv (.bool b)=>Qv (a == b)
  |_,_=>Qx
 |.str=>match x,y with
  |some (.str a),Qv (.str b)=>Qv (a.toList == b.toList)
  |_,_=>Qx
def eqParts(xs ys:List D):List (Nat×Prim)→Option Bool
 | []=>Qv Qy
 |(o,p)::rest=>match eqPrim p xs[o]? ys[o]?,eqParts xs ys rest with
  |some a,Qv b=>Qv (a&&b)
  |_,_=>Qx
theorem uy{p:Prim}{r:Bool}(hp:primT P t=Qv p)(hx:R g x u)(hy:R g y v)(h:eqPrim p (Qv x) (Qv y)=Qv r)(n:Nat)(w:QD) :
  (Op.equalIn (n+1) t u v).run P w=.ok r w:=by
 unfold primT at hp;split at hp
 ·rename_i k hu;cases hp;simp only[eqPrim]at h;split at h
  ·rename_i k1 a k2 b e1 e2;cases e1;cases e2;split at h
   ·rename_i hk;subst hk;cases h;cases hx;cases hy;exact run_equalIn_int w n t _ _ _ _ hu
   ·cases h
  ·cases h
 ·rename_i hu;cases hp;simp only[eqPrim]at h;split at h
  ·rename_i a b e1 e2;cases e1;cases e2;cases h;cases hx;cases hy;exact run_equalIn_bool' w n t _ _ hu
  ·cases h
 ·rename_i hu;cases hp;simp only[eqPrim]at h;split at h
  ·rename_i a b e1 e2;cases e1;cases e2;cases h;cases hx;cases hy;exact run_equalIn_string w n t _ _ hu
  ·cases h
 ·cases hp
theorem wH{xs ys:List D}{us vs:Array QF}(hx:CellsOk g xs us.toList)(hy:CellsOk g ys vs.toList)(n:Nat)(w:QD) :
  ∀ (fs:List Field) (ps:List (Nat × Prim)) (r:Bool),(fs.mapM fun f => if f.name ≠ "_" then (primT P f.type).map fun p => (f.offset,p) else none) = some ps→eqParts xs ys ps = some r →
   (Op.eqFields (n+1) us vs fs).run P w=.ok r w:=by
 intro fs;induction fs with
 |nil=>intro ps r h he;simp at h;subst h;cases he;rfl
 |cons f fs ih =>
  intro ps r h he;simp only[Pb]at h;split at h
  ·rename_i hname;cases hpr:primT P f.type with
   |none=>rw[hpr]at h;cases h
   |some p =>
    rw[hpr]at h
    cases hrest:(fs.mapM fun f => if f.name ≠ "_" then (primT P f.type).map fun p => (f.offset,p) else none) with
    |none=>rw[hrest]at h;cases h
    |some ps' =>
     rw[hrest]at h;cases h;simp only[eqParts]at he;split at he
     ·rename_i a b ha hb;cases he;have ih':=ih ps' b hrest hb;cases hxo:xs[f.offset]? with
      |none=>rw[hxo]at ha;cases p<;>simp[eqPrim]at ha
      |some x =>
       cases hyo:ys[f.offset]? with
       |none=>rw[hxo,hyo]at ha;cases p<;>cases x<;>simp[eqPrim]at ha
       |some y =>
        rw[hxo,hyo]at ha;obtain⟨hl1,rfl⟩:=L5.1 hxo;obtain⟨hl2,rfl⟩:=L5.1 hyo;have hs1:f.offset<us.size:=by have:=hx.1;simp at this;omega
        have hs2:f.offset<vs.size:=by have:=hy.1;simp at this;omega
        have hag:aS P f.type=Qv Qw:=by
         unfold primT at hpr;unfold aS;split at hpr<;>simp_all
        have e:=uy hpr (hx.get _ hl1 hs1).1 (hy.get _ hl2 hs2).1 ha n w;simp only[Op.eqFields];rw[if_pos hname];simp only[part,Sem.run_bind,gk hag,Result.andThen_ok,MJ,if_false,MV hs1,MV hs2,Sem.run_pure,e];cases a
        ·simp
        ·simp[ih']
     ·cases he
  ·cases h
theorem pV{xs ys:List D}:∀(l m:List (Nat×Prim)){r:Bool},eqParts xs ys (l++m)=Qv r→∃a b,eqParts xs ys l=Qv a∧eqParts xs ys m=Qv b∧r=(a&&b)
 | [],m,r,h=>⟨Qy,r,rfl,h,by simp⟩
 |(o,p)::l,m,r,h=>by
  simp only[List.cons_append,eqParts]at h;split at h
  ·rename_i a b ha hb;cases h;obtain⟨c,d,h1,h2,rfl⟩:=pV l m hb;exact⟨a&&c,d,by simp only[eqParts,ha,h1],h2,by rw[Bool.and_assoc]⟩
  ·cases h
theorem mn{xs ys:List D}{off z:Nat}:∀(ps:List (Nat×Prim)),(∀q∈ps,q.1<z)→eqParts xs ys (ps.map λq=>(off+q.1,q.2))=eqParts ((xs.drop off).take z) ((ys.drop off).take z) ps
 | [],_=>rfl
 |(o,p)::ps,h=>by
  have ho:o<z:=h (o,p) (by simp);simp only[M6,eqParts];rw[mn ps λq hq=>h q (by simp[hq])];simp only[List.getElem?_take,if_pos ho,OC]
theorem k9(us:Array QF)(off z:Nat):(us.extract off (off+z)).toList=(us.toList.drop off).take z:=by
 rw[P7];simp only[List.extract];rw[show off+z-off=z by omega]
theorem uX{xs ys:List D}{us vs:Array QF}(hx:CellsOk g xs us.toList)(hy:CellsOk g ys vs.toList)(n:Nat)(w:QD) :
  ∀(fs:List Field)(pss:List (List (Nat×Prim)))(r:Bool),fs.mapM (fieldP P)=Qv pss→eqParts xs ys pss.flatten=Qv r→(Op.eqFields (n+2) us vs fs).run P w=.ok r w:=by
 intro fs;induction fs with
 |nil=>intro pss r h he;simp at h;subst h;cases he;rfl
 |cons f fs ih =>
  intro pss r h he;simp only[Pb]at h;cases hf:fieldP P f with
  |none=>rw[hf]at h;cases h
  |some ps =>
   rw[hf]at h;cases hrest:fs.mapM (fieldP P)with
   |none=>rw[hrest]at h;cases h
   |some pss' =>
    rw[hrest]at h;cases h;rw[OQ]at he;obtain⟨a,b,ha,hb,rfl⟩:=pV _ _ he;have ih':=ih pss' b hrest hb;unfold fieldP at hf;split at hf
    ·rename_i hname;simp only[Op.eqFields];rw[if_pos hname];split at hf
     ·rename_i p hpr;cases hf;simp only[eqParts]at ha;split at ha
      ·rename_i a1 b1 ha1 hb1;cases ha;cases hb1;cases hxo:xs[f.offset]? with
       |none=>rw[hxo]at ha1;cases p<;>simp[eqPrim]at ha1
       |some x =>
        cases hyo:ys[f.offset]? with
        |none=>rw[hxo,hyo]at ha1;cases p<;>cases x<;>simp[eqPrim]at ha1
        |some y =>
         rw[hxo,hyo]at ha1;obtain⟨hl1,rfl⟩:=L5.1 hxo;obtain⟨hl2,rfl⟩:=L5.1 hyo;have hs1:f.offset<us.size:=by have:=hx.1;simp at this;omega
         have hs2:f.offset<vs.size:=by have:=hy.1;simp at this;omega
         have hag:aS P f.type=Qv Qw:=by
          unfold primT at hpr;unfold aS;split at hpr<;>simp_all
         have e:=uy hpr (hx.get _ hl1 hs1).1 (hy.get _ hl2 hs2).1 ha1 (n+1) w;simp only[part,Sem.run_bind,gk hag,Result.andThen_ok,MJ,if_false,MV hs1,MV hs2,Sem.run_pure,e,Bool.and_true];cases a1
         ·simp
         ·simp[ih']
      ·cases ha
     ·unfold JH at hf;split at hf
      ·rename_i z ps0 hag hz hps;split at hf
       ·rename_i hall;cases hf;have hlt:∀q∈ps0,q.1<z:=λq hq=>of_decide_eq_true (Mn.1 hall q hq);rw[mn ps0 hlt]at ha;unfold eqT0 at hps;split at hps
        ·rename_i hg;cases hu:P.underlying f.type with
         |none=>rw[hu]at hps;cases hps
         |some t =>
          rw[hu]at hps;cases t with
          |struct gs =>
           have hfo:P.fieldsOf f.type=gs:=by simp[Program.fieldsOf,hu]
           have hx':CellsOk g ((xs.drop f.offset).take z) (us.extract f.offset (f.offset+z)).toList:=by rw[k9];exact(hx.drop _).take _
           have hy':CellsOk g ((ys.drop f.offset).take z) (vs.extract f.offset (f.offset+z)).toList:=by rw[k9];exact(hy.drop _).take _
           have e:=wH hx' hy' n w gs.toList ps0 a hps ha;have e2:=run_equalIn_struct w (n+1) f.type (us.extract f.offset (f.offset+z)) (vs.extract f.offset (f.offset+z)) (by rw[hfo];exact hu) hg.2;rw[hfo,e]at e2;have k1:(isAgg f.type).run P w=.ok Qy w:=gk hag w;have k2:(sizeOf f.type).run P w=.ok z w:=bZ hz w;simp only[part,Sem.run_bind,k1,k2,Result.andThen_ok,if_true,Sem.run_pure,e2];cases a
           ·simp
           ·simp[ih']
          |_=>cases hps
        ·cases hps
       ·cases hf
      ·cases hf
    ·cases hf
def qj:D→Option Bool
 |.nilp=>Qv Qy
 |.box _ _=>Qv Qw
 |.pin _=>Qv Qw
 |_=>Qx
def DP:D→Option Bool
 |.nilf=>Qv Qy
 |.func _ _ _=>Qv Qw
 |_=>Qx
def v2:D→Option Bool
 |.nilm=>Qv Qy
 |.map _=>Qv Qw
 |_=>Qx
def tB:D→Option Bool
 |.slice o xs=>if o=.nil then Qv Qy else if 0<xs.length then Qv Qw else Qx
 |.msl _ _ _ _ _=>Qv Qw
 |_=>Qx
theorem uh{b:Bool}(hx:R g x u)(h:qj x=Qv b):∃a,u=.pointer a∧a.isNone=b:=by
 cases hx<;>cases h<;>exact⟨_,rfl,rfl⟩
theorem Fh{b:Bool}(hx:R g x u)(h:DP x=Qv b):(u=.nilFunc∧b=Qy)∨(∃f a c,u=.func f a c)∧b=Qw:=by
 cases hx<;>cases h<;>first|exact .inl ⟨rfl,rfl⟩|exact .inr ⟨⟨_,_,_,rfl⟩,rfl⟩
theorem CL{b:Bool}(hx:R g x u)(h:v2 x=Qv b):∃a,u=.map a∧a.isNone=b:=by
 cases hx<;>cases h<;>exact⟨_,rfl,rfl⟩
theorem Fg{b:Bool}(hx:R g x u)(h:tB x=Qv b):∃a l c,u=.slice a l c∧a.isNone=b:=by
 cases hx with
 |slice o xs a cap sz blk off val hc hm ho hs ha hM hv hR =>
  simp only[tB]at h;split at h
  ·rename_i e;subst e;cases h;exact⟨a,_,_,rfl,by rw[ho.1];rfl⟩
  ·split at h
   ·rename_i e;cases h;exact⟨a,_,_,rfl,by rw[ha e];rfl⟩
   ·cases h
 |msl=>cases h;exact⟨_,_,_,rfl,rfl⟩
 |_=>cases h
def isNilConst:D→Bool
 |.nilp=>Qy
 |.nilf=>Qy
 |.nilm=>Qy
 |.slice .nil []=>Qy
 |_=>Qw
def vI(P:QA)(T:QB)(x y:D):Option Bool:=
 match P.underlying T with
 |some .bool=>match x,y with
  |.bool a,.bool b=>Qv (a == b)
  |_,_=>Qx
 |some (.pointer _)=>if isNilConst y then(qj y).bind λ_=>qj x else if isNilConst x then(qj x).bind λ_=>qj y else Qx
 |some (.func _ _ _)=>if isNilConst y then(DP y).bind λ_=>DP x else Qx
 |some (.slice _)=>if isNilConst y then(tB y).bind λ_=>tB x else Qx
 |some (.map _ _)=>if isNilConst y then(v2 y).bind λ_=>v2 x else Qx
 |some (.struct _)=>match x,y with
  |.agg xs,.agg ys=>(eqT P T).bind λps=>eqParts xs ys ps
  |_,_=>Qx
 |_=>Qx
def zG(op:BinOp)(a b:ByteArray):Option D:=
 match op with
 |.add=>if a.size+b.size≤281474976710656 then Qv (.str (a++b))else Qx
 |.eql=>Qv (.bool (a.toList == b.toList))
 |.neq=>Qv (.bool (!(a.toList == b.toList)))
 |.lss=>Qv (.bool (Op.bytesLess a.toList b.toList))
 |.leq=>Qv (.bool (Op.bytesLess a.toList b.toList ||a.toList == b.toList))
 |.gtr=>Qv (.bool (!(Op.bytesLess a.toList b.toList ||a.toList == b.toList)))
 |.geq=>Qv (.bool (!(Op.bytesLess a.toList b.toList)))
 |_=>Qx
def dJ(P:QA)(op:BinOp)(T:QB)(x y:D):Option D:=
 match x,y with
 |.int k a,.int k' b=>if op=.shl∨op=.shr then mm op k a b else if k=k' then evInt op k a b else Qx
 |.str a,.str b=>zG op a b
 |x,y=>match op with
  |.eql=>(vI P T x y).map .bool
  |.neq=>(vI P T x y).map λb=>.bool (!b)
  |_=>Qx
theorem cd(op:BinOp)(t:QB)(x y:QE)(u v:QF)(h:u≠.nilIface)(h2:∀vs,u≠.agg vs):(eqGuard op t x y u v).run P w=.ok () w:=by
 cases op<;>simp only[eqGuard]<;>first
  |(cases u<;>first|(simp at h;done)|(exact absurd rfl (h2 _))|rfl)
  |rfl
theorem cI{b:Bool}(h:(Op.equalIn 10000 T u v).run P w=.ok b w)(hu:∀k n,u≠.int k n)(hf:∀k n,u≠.float k n)(hc:∀k n m,u≠.complex k n m)(hs:∀s,u≠.string s) :
  (binOp .eql T u v).run P w=.ok (.bool b) w∧(binOp .neq T u v).run P w=.ok (.bool (!b)) w:=by
 cases u<;>first
  |exact absurd rfl (hu _ _)
  |exact absurd rfl (hf _ _)
  |exact absurd rfl (hc _ _ _)
  |exact absurd rfl (hs _)
  |(constructor<;>(simp only[binOp];simp[Op.equal,Op.maxDepth,h]))
theorem k8{b:Bool}(hy:R g y v)(h:isNilConst y=Qy)(h2:qj y=Qv b):v=.pointer Qx:=by
 cases hy<;>first|rfl|(cases h;done)|(cases h2;done)
theorem s9{b:Bool}(hy:R g y v)(h:isNilConst y=Qy)(h2:DP y=Qv b):v=.nilFunc:=by
 cases hy<;>first|rfl|(cases h;done)|(cases h2;done)
theorem qz{b:Bool}(hy:R g y v)(h:isNilConst y=Qy)(h2:v2 y=Qv b):v=.map Qx:=by
 cases hy<;>first|rfl|(cases h;done)|(cases h2;done)
theorem mf{b:Bool}(hy:R g y v)(h:isNilConst y=Qy)(h2:tB y=Qv b):v=.slice Qx 0 0:=by
 cases hy with
 |slice o xs a cap sz blk off val hc hm ho hs ha hM hv hR =>
  cases o with
  |nil=>obtain⟨rfl,h1,rfl⟩:=ho;rw[h1]
  |_=>cases xs<;>cases h
 |_=>first|(cases h;done)|(cases h2;done)
theorem pU(hu:P.underlying T=Qv (.pointer e))(a:Option Addr)(n:Nat)(w:QD) :
  (Op.equalIn (n+1) T (.pointer a) (.pointer Qx)).run P w=.ok a.isNone w∧(Op.equalIn (n+1) T (.pointer Qx) (.pointer a)).run P w=.ok a.isNone w:=by
 cases a<;>simp[Op.equalIn,run_underlying hu]
theorem rQ{P:QA}{T:QB}{e1 e2 e3}(hu:P.underlying T=Qv (.func e1 e2 e3))(n:Nat)(w:QD) :
  (Op.equalIn (n+1) T .nilFunc .nilFunc).run P w=.ok Qy w∧∀f a c,(Op.equalIn (n+1) T (.func f a c) .nilFunc).run P w=.ok Qw w:=by
 constructor
 ·simp[Op.equalIn,run_underlying hu]
 ·intro f a c;simp[Op.equalIn,run_underlying hu]
theorem rP(hu:P.underlying T=Qv (.slice e))(a:Option Addr)(l c n:Nat)(w:QD) :
  (Op.equalIn (n+1) T (.slice a l c) (.slice Qx 0 0)).run P w=.ok a.isNone w:=by
 cases a<;>simp[Op.equalIn,run_underlying hu]
theorem wG{e1 e2:QB}(hu:P.underlying T=Qv (.map e1 e2))(a:Option Nat)(n:Nat)(w:QD) :
  (Op.equalIn (n+1) T (.map a) (.map Qx)).run P w=.ok a.isNone w:=by
 cases a<;>simp[Op.equalIn,run_underlying hu]
theorem A9{b:Bool}(hx:R g x u)(hy:R g y v)(he:vI P T x y=Qv b)(w:QD) :
  (∀op ox oy,(eqGuard op T ox oy u v).run P w=.ok () w)∧(binOp .eql T u v).run P w=.ok (.bool b) w∧(binOp .neq T u v).run P w=.ok (.bool (!b)) w:=by
 unfold vI at he;split at he
 ·rename_i hu;split at he
  ·rename_i a c;cases he;cases hx;cases hy;exact⟨λop ox oy=>cd _ _ _ _ _ _ (by simp) (by simp),cI (run_equalIn_bool' w 9999 T _ _ hu) (by simp) (by simp) (by simp) (by simp)⟩
  ·cases he
 ·rename_i e hu;split at he
  ·rename_i hn;obtain⟨c,hc,he⟩:=Nq.1 he;have:=k8 hy hn hc
   subst this;obtain⟨a,rfl,rfl⟩:=uh hx he;exact⟨λop ox oy=>cd _ _ _ _ _ _ (by simp) (by simp),cI (pU hu a 9999 w).1 (by simp) (by simp) (by simp) (by simp)⟩
  ·split at he
   ·rename_i hn' hn;obtain⟨c,hc,he⟩:=Nq.1 he;have:=k8 hx hn hc
    subst this;obtain⟨a,rfl,rfl⟩:=uh hy he;exact⟨λop ox oy=>cd _ _ _ _ _ _ (by simp) (by simp),cI (pU hu a 9999 w).2 (by simp) (by simp) (by simp) (by simp)⟩
   ·cases he
 ·rename_i e1 e2 e3 hu;split at he
  ·rename_i hn;obtain⟨c,hc,he⟩:=Nq.1 he;have:=s9 hy hn hc
   subst this;rcases Fh hx he with ⟨rfl,rfl⟩|⟨⟨f,a,c,rfl⟩,rfl⟩
   ·exact⟨λop ox oy=>cd _ _ _ _ _ _ (by simp) (by simp),cI (rQ hu 9999 w).1 (by simp) (by simp) (by simp) (by simp)⟩
   ·exact⟨λop ox oy=>cd _ _ _ _ _ _ (by simp) (by simp),cI ((rQ hu 9999 w).2 _ _ _) (by simp) (by simp) (by simp) (by simp)⟩
  ·cases he
 ·rename_i e hu;split at he
  ·rename_i hn;obtain⟨c,hc,he⟩:=Nq.1 he;have:=mf hy hn hc
   subst this;obtain⟨a,l,c,rfl,rfl⟩:=Fg hx he;exact⟨λop ox oy=>cd _ _ _ _ _ _ (by simp) (by simp),cI (rP hu a l c 9999 w) (by simp) (by simp) (by simp) (by simp)⟩
  ·cases he
 ·rename_i e1 e2 hu;split at he
  ·rename_i hn;obtain⟨c,hc,he⟩:=Nq.1 he;have:=qz hy hn hc
   subst this;obtain⟨a,rfl,rfl⟩:=CL hx he;exact⟨λop ox oy=>cd _ _ _ _ _ _ (by simp) (by simp),cI (wG hu a 9999 w) (by simp) (by simp) (by simp) (by simp)⟩
  ·cases he
 ·rename_i fs hu;split at he
  ·rename_i xs ys;obtain⟨ps,hps,he⟩:=Nq.1 he;unfold eqT at hps;split at hps
   ·rename_i hg;rw[hu]at hps;obtain⟨us,rfl,hk1⟩:=CellsOk.of_agg hx;obtain⟨vs,rfl,hk2⟩:=CellsOk.of_agg hy;have hfo:P.fieldsOf T=fs:=by simp[Program.fieldsOf,hu]
    obtain⟨pss,hpss,rfl⟩:=MQ.1 hps;have e:=uX hk1 hk2 9997 w fs.toList pss b hpss he;have e2:=run_equalIn_struct w 9999 T us vs (by rw[hfo];exact hu) hg.2;rw[hfo,e]at e2;exact⟨λop ox oy=>run_eqGuard_agg w op T ox oy us vs hg.1,cI e2 (by simp) (by simp) (by simp) (by simp)⟩
   ·cases hps
  ·cases he
 ·cases he
theorem Cq{op:BinOp}{a b:Int}(h:evInt op k a b=Qv d)(w:QD):∃v,(binOp op T (.int k a) (.int k b)).run P w=.ok v w∧R g d v:=by
 cases op<;>simp only[evInt]at h;case add=>cases h;exact⟨_,by rw[binOp_add];rfl,.int _ _⟩
 case sub=>cases h;exact⟨_,by rw[binOp_sub];rfl,.int _ _⟩
 case mul=>cases h;exact⟨_,by rw[binOp_mul];rfl,.int _ _⟩
 case quo =>
  by_cases hb:b=0
  ·rw[if_pos hb]at h;cases h
  ·rw[if_neg hb]at h;cases h;exact⟨_,by rw[binOp_quo];simp only[Op.intDiv,if_neg hb];rfl,.int _ _⟩
 case rem =>
  by_cases hb:b=0
  ·rw[if_pos hb]at h;cases h
  ·rw[if_neg hb]at h;cases h;exact⟨_,by rw[binOp_rem];simp only[Op.intDiv,if_neg hb];rfl,.int _ _⟩
 case and=>cases h;exact⟨_,by rw[binOp_and,intBits_and];rfl,.int _ _⟩
 case or=>cases h;exact⟨_,by rw[binOp_or,intBits_or];rfl,.int _ _⟩
 case xor=>cases h;exact⟨_,by rw[binOp_xor,intBits_xor];rfl,.int _ _⟩
 case andNot=>cases h;exact⟨_,by rw[binOp_andNot,intBits_andNot];rfl,.int _ _⟩
 case eql=>cases h;exact⟨_,by rw[binOp_eql];rfl,.bool _⟩
 case neq=>cases h;exact⟨_,by rw[binOp_neq];rfl,.bool _⟩
 case lss=>cases h;exact⟨_,by rw[binOp_lss];rfl,.bool _⟩
 case leq=>cases h;exact⟨_,by rw[binOp_leq];rfl,.bool _⟩
 case gtr=>cases h;exact⟨_,by rw[binOp_gtr];rfl,.bool _⟩
 case geq=>cases h;exact⟨_,by rw[binOp_geq];rfl,.bool _⟩
 all_goals cases h
theorem Fe{op:BinOp}{ox oy:QE}(h:WRel w g s)(hx:R g x u)(hy:R g y v)(he:dJ P op T x y=Qv d) :
  Ok P (do eqGuard op T ox oy u v;binOp op T u v) w g d s:=by
 unfold dJ at he;split at he
 ·rename_i k a k' b;cases hx;cases hy;have hg:(eqGuard op T ox oy (.int k a) (.int k' b)).run P w=.ok () w:=cd _ _ _ _ _ _ (by simp) (by simp);split at he
  ·rename_i hop;unfold mm at he;split at he
   ·cases he
   ·rename_i hb;rcases hop with rfl|rfl<;>cases he
    ·exact⟨_,w,g,by simp only[Sem.run_bind,hg,Result.andThen_ok];rw[binOp_shl];simp only[Op.shift,if_neg hb];rfl,.refl g,h,.int _ _⟩
    ·exact⟨_,w,g,by simp only[Sem.run_bind,hg,Result.andThen_ok];rw[binOp_shr];simp only[Op.shift,if_neg hb];rfl,.refl g,h,.int _ _⟩
  ·split at he
   ·rename_i hop hk;subst hk;obtain⟨v,hv,hR⟩:=Cq (P:=P) (g:=g) (T:=T) he w;exact⟨v,w,g,by simp only[Sem.run_bind,hg,Result.andThen_ok];exact hv,.refl g,h,hR⟩
   ·cases he
 ·rename_i a b;cases hx;cases hy;have hg:(eqGuard op T ox oy (.string a) (.string b)).run P w=.ok () w:=cd _ _ _ _ _ _ (by simp) (by simp);unfold zG at he;split at he
  ·split at he
   ·rename_i hl;cases he;refine⟨.string (a++b),w,g,?_,.refl g,h,.str _⟩;simp only[Sem.run_bind,hg,Result.andThen_ok,binOp,Op.stringOp];rw[if_neg (by simp;omega)];rfl
   ·cases he
  all_goals first
   |(cases he;exact⟨_,w,g,by simp only[Sem.run_bind,hg,Result.andThen_ok];simp only[binOp,Op.stringOp,Sem.run_pure],.refl g,h,.bool _⟩)
   |cases he
 ·rename_i x' y' hn1 hn2;split at he
  ·obtain⟨b,hb,rfl⟩:=MQ.1 he;obtain⟨e1,e2,e3⟩:=A9 hx hy hb w;exact⟨_,w,g,by simp only[Sem.run_bind,e1,Result.andThen_ok,e2],.refl g,h,.bool _⟩
  ·obtain⟨b,hb,rfl⟩:=MQ.1 he;obtain⟨e1,e2,e3⟩:=A9 hx hy hb w;exact⟨_,w,g,by simp only[Sem.run_bind,e1,Result.andThen_ok,e3],.refl g,h,.bool _⟩
  ·cases he
def GD(op:UnOp)(x:D):Option D:=
 match op,x with
 |.not,.bool b=>Qv (.bool !b)
 |.neg,.int k n=>Qv (.int k (k.wrap (0-n)))
 |.xor,.int k n=>Qv (.int k (bits .xor k (if k.signed then -1 else k.max) n))
 |_,_=>Qx
theorem Iy{op:UnOp}(h:WRel w g s)(hx:R g x u)(he:GD op x=Qv d):Ok P (Op.unary op u) w g d s:=by
 unfold GD at he;split at he
 ·cases he;cases hx;exact⟨_,w,g,rfl,.refl g,h,.bool _⟩
 ·cases he;cases hx;exact⟨_,w,g,rfl,.refl g,h,.int _ _⟩
 ·cases he;cases hx;exact⟨_,w,g,rfl,.refl g,h,.int _ _⟩
 ·cases he
def kS(P:QA)(src dst:QB)(x:D):Option D:=
 match P.underlying src,P.underlying dst,x with
 |some (.int _),Qv (.int k),.int _ n=>Qv (.int k (k.wrap n))
 |some .string,Qv .string,.str b=>Qv (.str b)
 |_,_,_=>Qx
theorem ze{src dst:QB}(h:WRel w g s)(hx:R g x u)(he:kS P src dst x=Qv d):Ok P (convert src dst u) w g d s:=by
 unfold kS at he;split at he
 ·rename_i k0 k kk n h1 h2;cases he;cases hx;exact⟨_,w,g,by simp only[convert,Sem.run_bind,run_underlying h1,run_underlying h2,Result.andThen_ok,Conv.intToInt];rfl,.refl g,h,.int _ _⟩
 ·rename_i b h1 h2;cases he;cases hx;exact⟨_,w,g,by simp only[convert,Sem.run_bind,run_underlying h1,run_underlying h2,Result.andThen_ok];rfl,.refl g,h,.str _⟩
 ·cases he
def jF(x:D)(i:Nat):Option D:=
 match x with
 |.tup vs=>vs[i]?
 |_=>Qx
theorem zd{i:Nat}(h:WRel w g s)(hx:R g x u)(he:jF x i=Qv d):Ok P (Instr.extract u i) w g d s:=by
 unfold jF at he;split at he
 ·rename_i vs;cases hx with
  |tup _ us hl hR =>
   obtain⟨hlt,rfl⟩:=L5.1 he;have hlt':i<us.size:=by omega
   exact⟨us[i],w,g,by simp[Instr.extract,hlt'],.refl g,h,hR i hlt hlt'⟩
 ·cases he
theorem WRel.setObjB {w:QD} {g:G} {s:St} (h:WRel w g s) {b l:Nat} {o o':Obj} {bx:Box} (hl1:Live1 s b) (hb:g.B b=Qv l) (hh:w.heap[l]? = Qv o) (hnc:∀ c T f,o≠.cells c T f) (hnc':∀ c T f,o'≠.cells c T f) (hnd:∀ c,o≠.deferred c)
    (hbx:jh {w with heap:=w.heap.setIfInBounds l o'} g b bx) :
    WRel {w with heap:=w.heap.setIfInBounds l o'} g {s with boxes:=s.boxes.set b bx}:=by
  have hl:=h.dom b l hb;have hlt:=bL hh;have hheap:∀(c:Nat)(x:Obj),w.heap[c]?=Qv x→c≠l→(w.heap.setIfInBounds l o')[c]?=Qv x:=by
    intro c x hx hne;rw[M0 (by omega)];exact hx
  have hne:∀(c:Nat) ,c≠l→(w.heap.setIfInBounds l o')[c]?=w.heap[c]?:=λc hc=>M0 (by omega);have hcl:∀{c:Nat}{arr T fr},w.heap[c]?=Qv (.cells arr T fr)→c≠l:=by
    intro c arr T fr hc e;subst e;rw[hh]at hc;cases hc;exact hnc _ _ _ rfl
  have hcell:∀a,World.cell? {w with heap:=w.heap.setIfInBounds l o'} a=w.cell? a:=by
    intro a;simp only[World.cell?];by_cases e:a.block=l
    · rw[e,hh,M2];simp only[hlt,if_true];cases o<;>cases o'<;>first|rfl|(exact absurd rfl (hnc _ _ _))|(exact absurd rfl (hnc' _ _ _))
    · rw[hne _ e]
  have hfr:∀a,World.frozen? {w with heap:=w.heap.setIfInBounds l o'} a=w.frozen? a:=by
    intro a;simp only[World.frozen?];by_cases e:a.block=l
    · rw[e,hh,M2];simp only[hlt,if_true];cases o<;>cases o'<;>first|rfl|(exact absurd rfl (hnc _ _ _))|(exact absurd rfl (hnc' _ _ _))
    · rw[hne _ e]
  refine { os := h.os, tape := h.tape, out := h.out, fz := fun a ha => (hfr a).trans (h.fz a ha), n := by have := h.n; simp only [Oq]; exact this, old := fun c hc => ?_, m := fun c o v hm => by rw [hcell]; exact h.m c o v hm, box := fun i x hi => ?_,
           inj:=λj k c h1 h2 l1 l2=>h.inj j k c h1 h2 (l1.of_set hl1) (l2.of_set hl1),dom:=λi c hi=>by have:=h.dom i c hi;simp only[Oq,Oo];exact this,live:=λk hk=>?_,uniq:=h.uniq,ldom:=h.ldom,
           o:=λc hc=>⟨(h.o c hc).1,hheap c _ (h.o c hc).2 (by intro e;subst e;have:=(h.o _ hc).2;rw[hh]at this;cases this;exact hnd _ rfl)⟩,nd:=h.nd,
           sz:=λc n hc=>by obtain⟨arr,T,fr,e1,e2⟩:=h.sz c n hc;exact⟨arr,T,fr,hheap c _ e1 (hcl e1),e2⟩}
  · show(w.heap.setIfInBounds l _)[c]?=_;rw[hne c (by have:=hl.2.1;omega)];exact h.old c hc
  · by_cases e:i=b
    · subst e;rw[MH hl.1]at hi;cases hi;exact hbx
    · rw[ME (by omega)]at hi;have:=h.box i x hi
      cases x with
      |dead=>trivial
      |cells cs=>obtain⟨c,arr,T,fr,h1,h2,h3⟩:=this;exact⟨c,arr,T,fr,h1,hheap c _ h2 (hcl h2),h3⟩
      |map es =>
        obtain⟨c,en,k,h1,h2,h3⟩:=this;exact⟨c,en,k,h1,hheap c _ h2 (by intro e2;subst e2;exact e (h.inj _ _ _ h1 hb ⟨_,hi,by simp⟩ hl1)),h3⟩
      |mapX es bs q =>
        obtain⟨c,en,k,h1,h2,h3⟩:=this;exact⟨c,en,k,h1,hheap c _ h2 (by intro e2;subst e2;exact e (h.inj _ _ _ h1 hb ⟨_,hi,by simp⟩ hl1)),h3⟩
      |iter mb q sn =>
        obtain⟨c,m,h1,h2,h3⟩:=this;exact⟨c,m,h1,hheap c _ h2 (by intro e2;subst e2;exact e (h.inj _ _ _ h1 hb ⟨_,hi,by simp⟩ hl1)),h3⟩
      |loop ps as bo e' st pe =>
        obtain⟨c,fn,t,df,h1,h2,h3⟩:=this;exact⟨c,fn,t,df,h1,hheap c _ h2 (by intro e2;subst e2;exact e (h.inj _ _ _ h1 hb ⟨_,hi,by simp⟩ hl1)),h3⟩
  · obtain⟨a,len,cap,sz,h1,h2⟩:=h.live k hk;refine⟨a,len,cap,sz,h1,λh3 h4=>?_⟩;obtain⟨c,off,arr,T,fr,h5,h6,h7,h8⟩:=h2 h3 h4;exact⟨c,off,arr,T,fr,h5,h6,hheap c _ h7 (hcl h7),h8⟩
def lP(s:St):Option (D×St):=Qv (.map s.boxes.length,{s with boxes:=s.boxes++[.map []]})
theorem ra{ro:Option QF}(h:WRel w g s)(hr:∀u,ro=Qv u→(∃k n,u=.int k n)∧∃a b,P.underlying T=Qv (.map a b)) :
  Ok P (Instr.makeMap T ro) w g (.map s.boxes.length) {s with boxes:=s.boxes++[.map []]}:=by
 have hB:g.B s.boxes.length=Qx:=jX h (K5 _);obtain⟨h1,h2⟩:=h.newBox (.map #[] 0) rfl (.map []) ⟨w.heap.size,#[],0,by simp[G.addB],bq _ _,rfl,λj x=>by simp at x⟩;refine⟨.map (Qv w.heap.size),w.alloc (.map #[] 0),_,?_,h1,h2,.map _ _ (by simp[G.addB])⟩;cases ro with
 |none=>simp[Instr.makeMap]
 |some u =>
  obtain⟨⟨k,n,rfl⟩,a,b,hu⟩:=hr _ rfl;simp[Instr.makeMap,run_underlying hu,asInt,asIntOf]
def bp(k:IntKind)(n:Int):List (D×D)→Nat→Option (Option (Nat×D))
 | [],_=>Qv Qx
 |(.int k' m,v)::es,i=>if k=k' then(if n=m then Qv (Qv (i,v))else bp k n es (i+1))else Qx
 |_::_,_=>Qx
theorem m4{n:Int}:∀(es:List (D×D))(en:List MapEntry)(i:Nat)(r:Option (Nat×D)),es.length=en.length→(∀(j:Nat)(h1:j<es.length)(h2:j<en.length),R g es[j].1 en[j].key∧R g es[j].2 en[j].val) →
  bp k n es i=Qv r→∀K,(match r with
   |none=>Instr.findNow (.int K) (.int k n) en i=Qv Qx
   |some (j,d)=>∃(q:Nat)(hq:q<en.length)(hq':q<es.length),j=i+q∧es[q].2=d∧es[q].1=.int k n∧en[q].key=.int k n∧Instr.findNow (.int K) (.int k n) en i=Qv (Qv (j,en[q].val))):=by
 intro es;induction es with
 |nil =>
  intro en i r hl hR h K;cases en with
  |nil=>cases h;rfl
  |cons=>simp at hl
 |cons p es ih =>
  intro en i r hl hR h K;cases en with
  |nil=>simp at hl
  |cons e en =>
   obtain⟨pk,pv⟩:=p;have h0:=hR 0 (by simp) (by simp);simp only[ND]at h0;cases pk with
   |int k' m =>
    simp only[bp]at h;split at h
    ·rename_i hk;subst hk;have hkey:e.key=.int k m:=by cases hv:e.key<;>rw[hv]at h0<;>cases h0.1;rfl
     split at h
     ·rename_i hn;subst hn;cases h;exact⟨0,by simp,by simp,rfl,rfl,rfl,hkey,by simp[Instr.findNow,hkey,Instr.sameNow]⟩
     ·rename_i hn;have hb:(n == m)=Qw:=by simpa using hn
      have:=ih en (i+1) r (by simpa using hl) (λj h1 h2=>hR (j+1) (by simpa using h1) (by simpa using h2)) h K
      cases r with
      |none=>simpa[Instr.findNow,hkey,Instr.sameNow,hb]using this
      |some jd =>
       obtain⟨j,d⟩:=jd;obtain⟨q,hq,hq',a1,a2,a3,a4,a5⟩:=this;exact⟨q+1,by simpa using hq,by simpa using hq',by omega,by simpa using a2,by simpa using a3,by simpa using a4,by simpa[Instr.findNow,hkey,Instr.sameNow,hb]using a5⟩
    ·cases h
   |_=>cases h
def zeroD(P:QA)(T:QB):Option D:=
 match aS P T,zeroV P T with
 |some Qy,Qv (.agg cs)=>if cs.toList.all (·.oneCell')then Qv (.agg (cs.toList.map zD))else Qx
 |some Qw,Qv z=>Qv (zD z)
 |_,_=>Qx
theorem Ef(h:zeroD P T=Qv d):∃z,zeroV P T=Qv z∧∀g,R g d z:=by
 unfold zeroD at h;split at h
 ·rename_i cs h1 h2;split at h
  ·rename_i hall;cases h;exact⟨_,h2,λg=>.agg _ _ (by simp) (λi hi=>Mn.1 hall _ (by simp)) (λi h1 h2=>by simpa using GQ)⟩
  ·cases h
 ·rename_i z h1 h2;cases h;exact⟨_,h2,λg=>GQ⟩
 ·cases h
def jy(r:Option (Nat×D))(z:D)(ok:Bool):D:=
 match r with
 |some (_,v)=>if ok then .tup [v,.bool Qy]else v
 |none=>if ok then .tup [z,.bool Qw]else z
def mapOf(m:D)(s:St):Option (List (D×D)):=
 match m with
 |.nilm=>Qv []
 |.map b=>match s.boxes[b]? with
  |some (.map es)=>Qv es
  |_=>Qx
 |_=>Qx
def iS(P:QA)(T:QB)(m i:D)(ok:Bool)(s:St):Option D:=
 match P.underlying T with
 |some (.map K V)=>match P.underlying K,zeroD P V,mapOf m s,i with
  |some (.int _),Qv z,Qv es,.int k n=>(bp k n es 0).map λr=>jy r z ok
  |_,_,_,_=>Qx
 |_=>Qx
theorem cF{K:QB}{kk:IntKind}(hK:P.underlying K=Qv (.int kk))(b:Bool)(n:Nat)(v:QF)(w:QD):(Instr.checkKey b (n+1) K v).run P w=.ok () w:=by
 simp only[Instr.checkKey,Sem.run_bind,run_underlying hK,Result.andThen_ok];rfl
theorem dt{K:QB}{kk:IntKind}(hK:P.underlying K=Qv (.int kk)){v:QF}{en:List MapEntry}{r:Option (Nat×QF)}(h:Instr.findNow (.int kk) v en 0=Qv r)(w:QD):(Instr.findKey K v en).run P w=.ok r w:=by
 simp only[Instr.findKey,Sem.run_bind,run_underlying hK,Result.andThen_ok,h,Sem.run_pure]
variable {l:Nat}
theorem dF{en:Array MapEntry}(h:w.heap[l]?=Qv (.map en c)):(getObj l).run P w=.ok (.map en c) w:=by simp[getObj,Sem.run,h]
theorem gv{en:Array MapEntry}{o':Obj}(h:w.heap[l]?=Qv (.map en c)):(setObj l o').run P w=.ok () {w with heap:=w.heap.setIfInBounds l o'}:=by simp[setObj,Sem.run,h]
theorem Fo(h:WRel w g s){m:D}{v:QF}(hm:R g m v){es:List (D×D)}(he:mapOf m s=Qv es) :
  ∃en:Array MapEntry,((v=.map Qx∧en = #[])∨∃r clock,v=.map (Qv r)∧w.heap[r]?=Qv (.map en clock))∧es.length=en.size ∧
   ∀(j:Nat)(h1:j<es.length)(h2:j<en.toList.length),R g es[j].1 en.toList[j].key∧R g es[j].2 en.toList[j].val:=by
 unfold mapOf at he;split at he
 ·cases he;cases hm;exact⟨#[],.inl ⟨rfl,rfl⟩,rfl,λj h1=>by simp at h1⟩
 ·rename_i b;split at he
  ·rename_i es' hb;cases he;cases hm with
   |map _ r hB =>
    obtain⟨b',ents,clock,h1,h2,h3,h4⟩:=h.box b _ hb;rw[hB]at h1;cases h1;exact⟨ents,.inr ⟨r,clock,rfl,h2⟩,h3,λj q1 q2=>by have:=h4 j q1 (by simpa using q2);simp only[Nr];exact⟨this.1,this.2.1⟩⟩
  ·cases he
 ·cases he
variable {m:D}
theorem CG{ok:Bool}(h:WRel w g s)(hm:R g m u)(hi:R g i v)(he:iS P T m i ok s=Qv d) :
  Ok P (Instr.lookup T u v ok) w g d s:=by
 unfold iS at he;split at he
 ·rename_i K V hu;split at he
  ·rename_i kk z es k n hK hz hes;obtain⟨r,hr,rfl⟩:=MQ.1 he;cases hi;obtain⟨zv,hzv,hzR⟩:=Ef hz;obtain⟨en,hen,hlen,hR⟩:=Fo h hm hes;have hf:=m4 es en.toList 0 r (by simpa using hlen) hR hr kk;cases r with
   |none =>
    have hf2:=dt hK hf w;refine⟨if ok then .tuple #[zv,.bool Qw]else zv,w,g,?_,.refl g,h,?_⟩
    ·rcases hen with ⟨rfl,rfl⟩|⟨r,clock,rfl,hh⟩
     ·simp only[Instr.lookup,Sem.run_bind,run_underlying hu,Result.andThen_ok,cF hK,hf2,gh hzv,Sem.run_pure]
     ·simp only[Instr.lookup,Sem.run_bind,run_underlying hu,Result.andThen_ok,dF hh,cF hK,hf2,gh hzv,Sem.run_pure]
    ·cases ok
     ·exact hzR g
     ·refine .tup _ _ rfl λi h1 h2=>?_;match i,h1,h2 with
      |0,_,_=>exact hzR g
      |1,_,_=>exact .bool _
   |some jd =>
    obtain⟨j,dv⟩:=jd;obtain⟨q,hq,hq',a1,rfl,a3,a4,a5⟩:=hf;have hf2:=dt hK a5 w;have hRv:=(hR q hq' hq).2;refine⟨if ok then .tuple #[en.toList[q].val,.bool Qy]else en.toList[q].val,w,g,?_,.refl g,h,?_⟩
    ·rcases hen with ⟨rfl,rfl⟩|⟨r,clock,rfl,hh⟩
     ·simp at hq
     ·simp only[Instr.lookup,Sem.run_bind,run_underlying hu,Result.andThen_ok,dF hh,cF hK,hf2,Sem.run_pure]
    ·cases ok
     ·exact hRv
     ·refine .tup _ _ rfl λi h1 h2=>?_;match i,h1,h2 with
      |0,_,_=>exact hRv
      |1,_,_=>exact .bool _
  ·cases he
 ·cases he
def mapPut(k:IntKind)(n:Int)(v:D)(r:Option (Nat×D))(es:List (D×D)):List (D×D):=
 match r with
 |some (i,_)=>es.set i (.int k n,v)
 |none=>es++[(.int k n,v)]
def dB(P:QA)(T:QB)(m i x:D)(s:St):Option St:=
 match P.underlying T with
 |some (.map K _)=>match P.underlying K,m,i with
  |some (.int _),.map b,.int k n=>match s.boxes[b]? with
   |some (.map es)=>(bp k n es 0).map λr=>{s with boxes:=s.boxes.set b (.map (mapPut k n x r es))}
   |_=>Qx
  |_,_,_=>Qx
 |_=>Qx
theorem nC{y:QF}(h:WRel w g s)(hm:R g m u)(hi:R g i v)(hx:R g x y)(he:dB P T m i x s=Qv s') :
  ∃w',(Instr.mapUpdate T u v y).run P w=.ok () w'∧WRel w' g s':=by
 unfold dB at he;split at he
 ·rename_i K V hu;split at he
  ·rename_i kk b k n hK;split at he
   ·rename_i es hb;obtain⟨r,hr,rfl⟩:=MQ.1 he;cases hi;cases hm with
    |map _ l hB =>
     obtain⟨l',en,clock,h1,h2,h3,h4⟩:=h.box b _ hb;rw[hB]at h1;cases h1;have hR:∀(j:Nat)(h1:j<es.length)(h2:j<en.toList.length),R g es[j].1 en.toList[j].key∧R g es[j].2 en.toList[j].val:=λj q1 q2=>by
      have:=h4 j q1 (by simpa using q2);simp only[Nr];exact⟨this.1,this.2.1⟩
     have hf:=m4 es en.toList 0 r (by simpa using h3) hR hr kk;have hlt:=bL h2;have hl1:Live1 s b:=⟨_,hb,by simp⟩;cases r with
     |none =>
      have hf2:=dt hK hf w;refine⟨{w with heap:=w.heap.setIfInBounds l (.map (en.push {key:=.int k n,val:=y,born:=clock}) (clock+1))},?_,h.setObjB hl1 hB h2 (by simp) (by simp) (by simp) ⟨l,en.push {key:=.int k n,val:=y,born:=clock},clock+1,hB,by rw[M2];simp[hlt],by simp[mapPut,h3],λj q1 q2=>?_⟩⟩
      ·simp only[Instr.mapUpdate,Sem.run_bind,run_underlying hu,Result.andThen_ok,dF h2,cF hK,hf2,gv h2]
      ·simp only[mapPut];by_cases hj:j<es.length
       ·rw[M9 hj,Pz (by omega)];have:=h4 j hj (by omega)
        refine⟨this.1,this.2.1,by omega,λk q3 hk=>?_⟩;by_cases hk2:k<en.size
        ·rw[Pz hk2]at hk;exact this.2.2.2 k hk2 hk
        ·have hk3:k=en.size:=by simp at q3;omega
         subst hk3;rw[P4]at hk;have:=this.2.2.1
         simp only at hk;omega
       ·have hj2:j=es.length:=by simp[mapPut]at q1;omega
        subst hj2;simp only[List.getElem_concat_length,h3,P4];refine⟨.int _ _,hx,by omega,λk q3 hk=>?_⟩;by_cases hk2:k<en.size
        ·rw[Pz hk2]at hk;have:=(h4 k (by omega) hk2).2.2.1
         omega
        ·simp at q3;omega
     |some jd =>
      obtain⟨j0,dv⟩:=jd;obtain⟨q,hq,hq',a1,a2,a3,a4,a5⟩:=hf;simp only[MR]at a1;subst a1;have hf2:=dt hK a5 w;have hqs:j0<en.size:=by simpa using hq
      have hkey:((en[j0]?).map (·.key)).getD (.int k n)=.int k n:=by
       rw[MV hqs];simpa using a4
      have hks:(Instr.keyThatStays (.int k n) (.int k n)).run P w=.ok (.int k n) w:=by simp[Instr.keyThatStays,Instr.sameBits]
      refine⟨{w with heap:=w.heap.setIfInBounds l (.map (en.modify j0 λe=>{e with key:=.int k n,val:=y}) clock)},?_,h.setObjB hl1 hB h2 (by simp) (by simp) (by simp) ⟨l,en.modify j0 λe=>{e with key:=.int k n,val:=y},clock,hB,by rw[M2];simp[hlt],by simp[mapPut,h3],λj q1 q2=>?_⟩⟩
      ·simp only[Instr.mapUpdate,Sem.run_bind,run_underlying hu,Result.andThen_ok,dF h2,cF hK,hf2,hkey,hks,gv h2]
      ·simp only[mapPut,Oo]at q1;simp only[mapPut];rw[PF];by_cases hj:j0=j
       ·subst hj;simp only[if_true,Py];refine⟨.int _ _,hx,(h4 j0 q1 hqs).2.2.1,λk q3 hk=>?_⟩;have hks:k<en.size:=by simpa using q3
        refine(h4 j0 q1 hqs).2.2.2 k hks ?_;rw[PF]at hk;split at hk<;>exact hk
       ·rw[OT hj];simp only[hj,if_false];have:=h4 j q1 (by omega)
        refine⟨this.1,this.2.1,this.2.2.1,λk q3 hk=>?_⟩;have hks:k<en.size:=by simpa using q3
        refine this.2.2.2 k hks ?_;rw[PF]at hk;split at hk<;>exact hk
   ·cases he
  ·cases he
 ·cases he
def mapCut(r:Option (Nat×D))(es:List (D×D)):List (D×D):=
 match r with
 |some (i,_)=>es.eraseIdx i
 |none=>es
def iT(P:QA)(T:QB)(m i:D)(s:St):Option St:=
 match P.underlying T with
 |some (.map K _)=>match P.underlying K,m,i with
  |some (.int _),.map b,.int k n=>match s.boxes[b]? with
   |some (.map es)=>(bp k n es 0).map λr=>{s with boxes:=s.boxes.set b (.map (mapCut r es))}
   |_=>Qx
  |_,_,_=>Qx
 |_=>Qx
theorem CH{ty:QB}(h:WRel w g s)(hm:R g m u)(hi:R g i v)(he:iT P T m i s=Qv s') :
  Ok P (Builtin.delete_ #[T,T'] ty #[u,v]) w g (.tup []) s':=by
 unfold iT at he;split at he
 ·rename_i K V hu;split at he
  ·rename_i kk b k n hK;split at he
   ·rename_i es hb;obtain⟨r,hr,rfl⟩:=MQ.1 he;cases hi;cases hm with
    |map _ l hB =>
     obtain⟨l',en,clock,h1,h2,h3,h4⟩:=h.box b _ hb;rw[hB]at h1;cases h1;have hR:∀(j:Nat)(h1:j<es.length)(h2:j<en.toList.length),R g es[j].1 en.toList[j].key∧R g es[j].2 en.toList[j].val:=λj q1 q2=>by
      have:=h4 j q1 (by simpa using q2);simp only[Nr];exact⟨this.1,this.2.1⟩
     have hf:=m4 es en.toList 0 r (by simpa using h3) hR hr kk;have hlt:=bL h2;have hl1:Live1 s b:=⟨_,hb,by simp⟩;cases r with
     |none =>
      have hf2:=dt hK hf w;refine⟨.tuple #[],{w with heap:=w.heap.setIfInBounds l (.map en clock)},g,?_,.refl g,h.setObjB hl1 hB h2 (by simp) (by simp) (by simp) ⟨l,en,clock,hB,by rw[M2];simp[hlt],by simp[mapCut,h3],λj q1 q2=>h4 j q1 q2⟩,.tup _ _ rfl λi h=>by simp at h⟩;simp[Builtin.delete_,run_underlying hu,dF h2,cF hK,hf2,gv h2]
     |some jd =>
      obtain⟨j0,dv⟩:=jd;obtain⟨q,hq,hq',a1,a2,a3,a4,a5⟩:=hf;simp only[MR]at a1;subst a1;have hf2:=dt hK a5 w;have hqs:j0<en.size:=by simpa using hq
      refine⟨.tuple #[],{w with heap:=w.heap.setIfInBounds l (.map (en.eraseIdxIfInBounds j0) clock)},g,?_,.refl g,h.setObjB hl1 hB h2 (by simp) (by simp) (by simp) ⟨l,en.eraseIdxIfInBounds j0,clock,hB,by rw[M2];simp[hlt],?_,λj q1 q2=>?_⟩,.tup _ _ rfl λi h=>by simp at h⟩
      ·simp[Builtin.delete_,run_underlying hu,dF h2,cF hK,hf2,gv h2]
      ·simp only[mapCut,PX,hqs,dif_pos,PI];rw[PO hq',h3]
      ·simp only[mapCut]at q1⊢;simp only[PX,hqs,dif_pos]at q2⊢;have hq1:j<es.length-1:=by rw[PO hq']at q1;exact q1
       have hq2:j<en.size-1:=by rw[PI]at q2;exact q2
       have hdist:∀(j':Nat)(h1:j'<es.length)(h2:j'<en.size),(if j<j0 then j'=j else j'=j+1)→∀(k:Nat)(h3:k<(en.eraseIdx j0 hqs).size),(en.eraseIdx j0 hqs)[k].born=en[j'].born→k=j:=λj' p1 p2 hj' k h3 hk=>by
        rw[PI]at h3;rw[Pu]at hk;split at hk
        ·have:=(h4 j' p1 p2).2.2.2 k (by omega) hk
         split at hj'<;>omega
        ·have:=(h4 j' p1 p2).2.2.2 (k+1) (by omega) hk
         split at hj'<;>omega
       by_cases hjj:j<j0
       ·have e1:(es.eraseIdx j0)[j]=es[j]'(by omega):=by rw[P5,dif_pos hjj]
        have e2:(en.eraseIdx j0 hqs)[j]=en[j]'(by omega):=by rw[Pu,dif_pos hjj]
        rw[e1,e2];have:=h4 j (by omega) (by omega)
        exact⟨this.1,this.2.1,this.2.2.1,hdist j (by omega) (by omega) (by rw[if_pos hjj])⟩
       ·have e1:(es.eraseIdx j0)[j]=es[j+1]'(by omega):=by rw[P5,dif_neg hjj]
        have e2:(en.eraseIdx j0 hqs)[j]=en[j+1]'(by omega):=by rw[Pu,dif_neg hjj]
        rw[e1,e2];have:=h4 (j+1) (by omega) (by omega)
        exact⟨this.1,this.2.1,this.2.2.1,hdist (j+1) (by omega) (by omega) (by rw[if_neg hjj])⟩
   ·cases he
  ·cases he
 ·cases he
def ez(P:QA)(T:QB)(l c:D)(s:St):Option (D×St):=
 match elemT P T,l,c with
 |some (e,sz,by_,_),.int _ l,.int _ c=>match zeroT P e with
  |some zs=>if zs.length=sz∧0<sz∧0<by_∧by_≤1000000∧0≤l∧l≤c∧c≤1000000 then
    Qv (.row s.boxes.length 0 l.toNat sz,{s with boxes:=s.boxes++[.cells (MD l.toNat zs).flatten]})else Qx
  |none=>Qx
 |_,_,_=>Qx
theorem xw{zs:List D}:∀(n j:Nat)(h:j<(MD n zs).flatten.length),0<zs.length→∃h2:j % zs.length<zs.length,(MD n zs).flatten[j]=zs[j % zs.length]:=by
 intro n;induction n with
 |zero=>intro j h;simp at h
 |succ n ih =>
  intro j h hz;have h':j<zs.length+(MD n zs).flatten.length:=by simpa[Ph]using h
  refine⟨OU _ hz,?_⟩;have e:(MD (n+1) zs).flatten=zs++(MD n zs).flatten:=by simp[Ph]
  by_cases hj:j<zs.length
  ·have:(MD (n+1) zs).flatten[j]?=zs[j]?:=by rw[e,ML hj]
   rw[C0 h,C0 hj]at this;rw[NJ.inj this];congr 1;exact(Qo hj).symm
  ·obtain⟨h2,e2⟩:=ih (j-zs.length) (by omega) hz;have:(MD (n+1) zs).flatten[j]?=(MD n zs).flatten[j-zs.length]?:=by rw[e,My (by omega)]
   rw[C0 h,C0 (by omega)]at this;rw[NJ.inj this,e2];congr 1;rw[Qh (by omega:j≥zs.length)]
theorem uQ{l c:D}(h:WRel w g s)(hl:R g l u)(hc:R g c v)(he:ez P T l c s=Qv (d,s')) :
  Ok P (Instr.makeSlice T u v) w g d s':=by
 unfold ez at he;split at he
 ·rename_i e sz by_ ag k l k' c h1;split at he
  ·rename_i zs hz;split at he
   ·rename_i hcond;obtain⟨c1,c2,c3,c4,c5,c6,c7⟩:=hcond;cases he;cases hl;cases hc;obtain⟨hu,⟨i,hi,rfl,rfl⟩,_⟩:=bP h1;obtain⟨z,hzv,hzok⟩:=gF hz;have hzk:=hzok g;have hzc:z.cells.size=i.size:=by have:=hzk.1;simp at this;omega
    have hbig:(i.bytes:Int)*c≤1000000000000:=by
     calc (i.bytes:Int)*c≤1000000*1000000:=Int.mul_le_mul (by omega) c7 (by omega) (by omega)
      _=1000000000000:=by rfl
    obtain⟨arr,harr⟩:∃arr:Array QF,arr=madeCells z.cells (c.toNat*i.size):=⟨_,rfl⟩;have hasz:arr.size=c.toNat*i.size:=by rw[harr];exact size_madeCells _ _
    have hlen:(MD l.toNat zs).flatten.length=l.toNat*i.size:=by simp[c1]
    have hll:l.toNat*i.size≤c.toNat*i.size:=Na _ (by omega);have hBn:g.B s.boxes.length=Qx:=jX h (K5 _);have hle0:g.le (g.addB s.boxes.length w.heap.size):=ju hBn;obtain⟨hle1,hW1⟩:=h.newBox (.cells arr e) rfl (.cells (MD l.toNat zs).flatten) ⟨w.heap.size,arr,e,(0,0),by simp[G.addB],bq _ _,by omega,
     λj q1 q2=>by
      obtain⟨h2,e2⟩:=xw l.toNat j q1 (by omega);have hn0:¬(c.toNat*i.size=0):=by omega
      have hm:j % i.size<z.cells.size:=by rw[hzc];exact OU _ c2
      have e3:arr[j]=z.cells[j % i.size]:=by
       simp only[harr,madeCells,OH,Qd,hzc];exact getElem!_pos z.cells (j % i.size) hm
      have:=hzk.2 (j % zs.length) h2 (by simp;omega)
      rw[e2,e3];simp only[c1,Nr]at this⊢;exact⟨this.1.mono hle0,this.2⟩,λo=>qp h (K5 _) o,rfl⟩
    obtain⟨hle2,hW2⟩:=hW1.addS (bq _ _);refine⟨.slice (Qv ⟨w.heap.size,0,Qx⟩) l.toNat c.toNat,w.alloc (.cells arr e),_,?_,hle1.trans hle2,hW2,.row _ _ _ _ w.heap.size arr.size c.toNat (by simp[G.addB,G.addS]) (by simp[G.addS]) (by omega) (by simp[me];omega) c2 (by omega)⟩;rw[harr];exact run_make w T e i z hu hi (by simpa[zeroV,hi]using hzv) k k' l c c5 c6 (by omega) (by omega)
   ·cases he
  ·cases he
 ·cases he
def oG(P:QA)(T:QB)(x:D)(s:St):Option St:=
 match x with
 |.slice _ []=>match P.underlying T with
  |some (.slice _)=>Qv s
  |_=>Qx
 |.row0=>match P.underlying T with
  |some (.slice _)=>Qv s
  |_=>Qx
 |.row b off n rsz=>match elemT P T with
  |some (e,sz,_,_)=>match zeroT P e,s.boxes[b]? with
   |some zs,Qv (.cells cs)=>if zs.length=sz∧0<sz∧off+n*sz≤cs.length then Qv {s with boxes:=s.boxes.set b (.cells (storeD cs off (MD n zs).flatten))}else Qx
   |_,_=>Qx
  |none=>Qx
 |.map b=>match P.underlying T,s.boxes[b]? with
  |some (.map _ _),Qv (.map _)=>Qv {s with boxes:=s.boxes.set b (.map [])}
  |_,_=>Qx
 |_=>Qx
theorem Fb{ty:QB}(h:WRel w g s)(hx:R g x v)(he:oG P T x s=Qv s') :
  Ok P (Builtin.clear_ #[T] ty #[v]) w g (.tup []) s':=by
 have ht:R g (.tup []) (.tuple #[]):=.tup _ _ rfl λi h=>by simp at h
 unfold oG at he;split at he
 ·rename_i o;split at he
  ·rename_i e hu;cases he;obtain⟨a,cap,szx,fx,rfl,_⟩:=gH hx;refine⟨.tuple #[],w,g,?_,.refl g,h,ht⟩;cases a<;>simp[Builtin.clear_,run_underlying hu]
  ·cases he
 ·split at he
  ·rename_i e hu;cases he;cases hx with
   |row0 a =>
    refine⟨.tuple #[],w,g,?_,.refl g,h,ht⟩;cases a<;>simp[Builtin.clear_,run_underlying hu]
  ·cases he
 ·rename_i b off n rsz;split at he
  ·rename_i e sz by_ ag h1;obtain⟨hu,⟨i,hi,rfl,rfl⟩,_⟩:=bP h1;split at he
   ·rename_i zs cs hz hb;split at he
    ·rename_i hc;obtain⟨c1,c2,c3⟩:=hc;cases he;obtain⟨z,hzv,hzok⟩:=gF hz;have hzk:=hzok g;have hzc:z.cells.size=i.size:=by have:=hzk.1;simp at this;omega
     cases hx with
     |row _ _ _ _ blk m cap hB hS hcap hn hz0 hm =>
      have hlen:(MD n zs).flatten.length=n*i.size:=by simp[c1]
      have hcl:(Builtin.zeroCells z.cells n).toList.length=n*i.size:=by simp[size_zeroCells,hzc]
      obtain⟨w',hr,hw'⟩:=WRel.storeBox (P:=P) (MD n zs).flatten (Builtin.zeroCells z.cells n).toList w s b blk off 0 cs h hb hB (by omega) (by omega) (λj q1 q2=>by
       obtain⟨h2,e2⟩:=xw n j q1 (by omega);have hm:j % i.size<z.cells.size:=by rw[hzc];exact OU _ c2
       have e3:(Builtin.zeroCells z.cells n).toList[j]=z.cells[j % i.size]:=by
        simp only[Builtin.zeroCells,Nr,OH,Qd,hzc];exact getElem!_pos z.cells (j % i.size) hm
       have:=hzk.2 (j % zs.length) h2 (by simp;omega)
       rw[e2,e3];simp only[c1,Nr]at this⊢;exact this)
      refine⟨.tuple #[],w',g,?_,.refl g,by rw[jA _ _ _ (by omega)];simpa using hw',ht⟩;rcases Nt n with rfl|hn0
      ·have e0:(Builtin.zeroCells z.cells 0).toList=[]:=by simp[Builtin.zeroCells]
       rw[e0]at hr;simp only[storeCells,Sem.run_pure]at hr;cases hr;simp[Builtin.clear_,run_underlying hu]
      ·obtain⟨n,rfl⟩:∃k,n=k+1:=⟨n-1,by omega⟩;simp only[Builtin.clear_];simp[run_underlying hu,gh hzv,hr]
    ·cases he
   ·cases he
  ·cases he
 ·rename_i b;split at he
  ·rename_i K V es hu hb;cases he;cases hx with
   |map _ l hB =>
    obtain⟨l',en,clock,h1,h2,h3,h4⟩:=h.box b _ hb;rw[hB]at h1;cases h1;have hlt:=bL h2;refine⟨.tuple #[],{w with heap:=w.heap.setIfInBounds l (.map #[] clock)},g,?_,.refl g,h.setObjB ⟨_,hb,by simp⟩ hB h2 (by simp) (by simp) (by simp) ⟨l,#[],clock,hB,by rw[M2];simp[hlt],rfl,λj q1=>by simp at q1⟩,ht⟩;simp[Builtin.clear_,run_underlying hu,dF h2,gv h2]
  ·cases he
 ·cases he
def evBd(o:Option D)(dflt:Nat):Option Nat:=
 match o with
 |none=>Qv dflt
 |some (.int _ n)=>if 0≤n then Qv n.toNat else Qx
 |_=>Qx
def dz(P:QA)(T:QB)(x:D)(lo hi mx:Option D):Option D:=
 match P.underlying T,x with
 |some .string,.str b=>match evBd lo 0,evBd hi b.size,mx with
  |some l,Qv h,Qx=>if l≤h∧h≤b.size then Qv (.str (b.extract l h))else Qx
  |_,_,_=>Qx
 |some (.slice e),.slice o xs=>match elemT P T,evBd lo 0,evBd hi xs.length,evBd mx xs.length with
  |some (_,sz,_,_),Qv l,Qv h,Qv m =>
   if l≤h∧h≤m∧m≤xs.length∧(mx.isSome=Qy→hi.isSome=Qy)∧(l=0∨xs.all (·.length == sz)=Qy)then
    Qv (.slice (if mx.isSome=Qy then(if m=h then .full else .none)else if o=.full∧h=xs.length then .full else .none) ((xs.take h).drop l))else Qx
  |_,_,_,_=>Qx
 |some (.slice e),.row0=>match elemT P T,evBd lo 0,evBd hi 0,evBd mx 0 with
  |some _,Qv 0,Qv 0,Qv 0=>if mx.isSome=Qy→hi.isSome=Qy then Qv .row0 else Qx
  |_,_,_,_=>Qx
 |some (.slice e),.row b off n rsz=>match elemT P T,evBd lo 0,evBd hi n,evBd mx n with
  |some (_,sz,_,_),Qv l,Qv h,Qv m =>
   if l≤h∧h≤m∧m≤n∧(mx.isSome=Qy→hi.isSome=Qy)∧rsz=sz then
    Qv (if l=0 then .row b off h rsz else if l<h then .row b (off+l*sz) (h-l) rsz else .slice .none [])else Qx
  |_,_,_,_=>Qx
 |some (.slice e),.msl b off n c rsz=>match elemT P T,evBd lo 0,evBd hi n,mx with
  |some (_,sz,_,_),Qv l,Qv h,Qx =>
   if l≤h∧h≤c∧rsz=sz then Qv (if l=0 then .msl b off h c rsz else if l<c then .msl b (off+l*sz) (h-l) (c-l) rsz else .junk)else Qx
  |_,_,_,_=>Qx
 |_,_=>Qx
def RO(g:G)(o:Option D)(v:Option QF):Prop:=
 match o,v with
 |none,Qx=>True
 |some d,Qv u=>R g d u
 |_,_=>False
theorem qv{y:Nat}{c:BoundsCode}(h:R g d v)(he:evBd (Qv d) 0=Qv n)(hy:n≤y)(w:QD):(Instr.sliceBound v y c).run P w=.ok n w:=by
 unfold evBd at he;split at he
 ·cases ‹Qv d=Qx›
 ·rename_i k q heq;cases heq;split at he
  ·rename_i hq;cases he;cases h;simp only[Instr.sliceBound,asIntOf,Sem.run_bind,Sem.run_pure,Result.andThen_ok];rw[if_pos ⟨hq,by omega⟩];rfl
  ·cases he
 ·cases he
theorem De{a:Nat}(h:evBd (Qv d) a=Qv n):evBd (Qv d) 0=Qv n:=by
 unfold evBd at h⊢;split at h<;>simp_all
theorem ko{isS:Bool}{len cap h m:Nat}{vl vh vm:Option QF}(h1:vm=Qx→m=cap)(h2:∀u,vm=Qv u→∀c,(Instr.sliceBound u cap c).run P w=.ok m w)
  (h3:vh=Qx→vm=Qx∧h=len) (h4:∀u,vh=Qv u→∀c,(Instr.sliceBound u m c).run P w=.ok h w) (h5:vl=Qx→l=0) (h6:∀u,vl=Qv u→∀c,(Instr.sliceBound u h c).run P w=.ok l w) :
  (Instr.sliceBounds isS len cap vl vh vm).run P w=.ok (l,h,m) w:=by
 cases vm with
 |none =>
  cases h1 rfl;cases vh with
  |none =>
   cases(h3 rfl).2;cases vl with
   |none=>cases h5 rfl;rfl
   |some u=>simp[Instr.sliceBounds,h6 u rfl]
  |some v =>
   cases vl with
   |none=>cases h5 rfl;simp[Instr.sliceBounds,h4 v rfl]
   |some u=>simp[Instr.sliceBounds,h4 v rfl,h6 u rfl]
 |some x =>
  cases vh with
  |none=>exact absurd (h3 rfl).1 (by simp)
  |some v =>
   cases vl with
   |none=>cases h5 rfl;simp[Instr.sliceBounds,h2 x rfl,h4 v rfl]
   |some u=>simp[Instr.sliceBounds,h2 x rfl,h4 v rfl,h6 u rfl]
theorem ol{o:Option D}{v:Option QF}{dflt y:Nat}(h:RO g o v)(he:evBd o dflt=Qv n)(hy:n≤y)(w:QD) :
  (v=Qx→o=Qx∧n=dflt)∧(∀u,v=Qv u→o.isSome=Qy∧∀c,(Instr.sliceBound u y c).run P w=.ok n w):=by
 cases o with
 |none=>cases v with
  |none=>cases he;exact⟨λ_=>⟨rfl,rfl⟩,λu hu=>by cases hu⟩
  |some _=>exact h.elim
 |some d=>cases v with
  |none=>exact h.elim
  |some u=>exact⟨λhu=>(by cases hu),λu' hu=>by cases hu;exact⟨rfl,λc=>qv h (De he) hy w⟩⟩
theorem pK{inf:TypeInfo}{a:Option Addr}{len cap h' m:Nat}{lo hi mx:Option D}{vl vh vm:Option QF}(hl:RO g lo vl)(hh:RO g hi vh)(hm:RO g mx vm)
  (hu:P.underlying T=Qv (.slice e)) (hinf:P.info? e=Qv inf) (h1:evBd lo 0=Qv l) (h2:evBd hi len=Qv h') (h3:evBd mx len=Qv m) (c1:l≤h') (c2:h'≤m) (c3:m≤len) (hcap:len≤cap) (c4:mx.isSome=Qy→hi.isSome=Qy) :
  ∃m',m≤m'∧m'≤cap∧(Instr.sliceAt T (.slice a len cap) vl vh vm).run P w=.ok (.slice (if m'=l then a else a.map (·.add (l*inf.size))) (h'-l) (m'-l)) w:=by
 have bm:=ol (P:=P) (y:=cap) hm h3 (by omega) w;obtain⟨m',hm1,hm2,hm3,hm4⟩:∃m',(vm=Qx→m'=cap)∧(∀u,vm=Qv u→m'=m)∧m≤m'∧m'≤cap:=by
  cases vm with
  |none=>exact⟨cap,λ_=>rfl,λu hu=>(by cases hu),by omega,K5 _⟩
  |some u=>exact⟨m,λe=>(by cases e),λ_ _=>rfl,K5 _,by omega⟩
 have bh:=ol (P:=P) (y:=m') hh h2 (by omega) w;have bl:=ol (P:=P) (y:=h') hl h1 c1 w;have hbounds:(Instr.sliceBounds Qy len cap vl vh vm).run P w=.ok (l,h',m') w:=
  ko hm1 (λu e c=>by rw[hm2 u e];exact(bm.2 u e).2 c) (λe=>⟨(by
   cases hvm:vm with
   |none=>rfl
   |some u =>
    have:=c4 (bm.2 u hvm).1
    rw[(bh.1 e).1]at this;cases this),(bh.1 e).2⟩) (λu e=>(bh.2 u e).2) (λe=>(bl.1 e).2) (λu e=>(bl.2 u e).2)
 refine⟨m',hm3,hm4,?_⟩;simp only[Instr.sliceAt,Sem.run_bind,run_underlying hu,Result.andThen_ok,Instr.slice,hbounds,bZ (show sizeT P e=Qv inf.size by simp[sizeT,hinf]),Sem.run_pure]
theorem E8{lo hi mx:Option D}{vl vh vm:Option QF}(h:WRel w g s)(hx:R g x v)(hl:RO g lo vl)(hh:RO g hi vh)(hm:RO g mx vm)
  (he:dz P T x lo hi mx=Qv d):Ok P (Instr.sliceAt T v vl vh vm) w g d s:=by
 unfold dz at he;split at he
 ·rename_i b hu;cases hx;split at he
  ·rename_i l h' h1 h2;split at he
   ·rename_i hc;cases he;cases vm with
    |some _=>exact hm.elim
    |none =>
     refine⟨.string (b.extract l h'),w,g,?_,.refl g,h,.str _⟩;have bh:=ol (P:=P) hh h2 hc.2 w;have bl:=ol (P:=P) hl h1 hc.1 w;have hb:=ko (P:=P) (w:=w) (isS:=Qw) (len:=b.size) (cap:=b.size) (l:=l) (h:=h') (m:=b.size) (vl:=vl) (vh:=vh) (vm:=Qx) (λ_=>rfl) (λu hu=>(by cases hu)) (λe=>⟨rfl,(bh.1 e).2⟩)
      (λu e=>(bh.2 u e).2) (λe=>(bl.1 e).2) (λu e=>(bl.2 u e).2)
     simp[Instr.sliceAt,run_underlying hu,Instr.slice,hb]
   ·cases he
  ·cases he
 ·rename_i e o xs hu;split at he
  ·rename_i e' sz by_ ag l h' m h0 h1 h2 h3;obtain⟨hu',⟨inf,hinf,rfl,rfl⟩,_⟩:=bP h0;rw[hu]at hu';cases hu';split at he
   ·rename_i hc;obtain⟨c1,c2,c3,c4,c5⟩:=hc;cases he;obtain⟨a,cap,szx,fx,rfl,hcx,hmx,hox,hsx,hkx,hax⟩:=gH hx;-- the real third bound
    have bm:=ol (P:=P) (y:=cap) hm h3 (by omega) w;obtain⟨m',hm1,hm2,hm3,hm4⟩:∃m',(vm=Qx→m'=cap)∧(∀u,vm=Qv u→m'=m)∧m≤m'∧(mx.isSome=Qy→m'=m):=by
     cases vm with
     |none=>exact⟨cap,λ_=>rfl,λu hu=>(by cases hu),by omega,λe=>(by rw[(bm.1 rfl).1]at e;cases e)⟩
     |some u=>exact⟨m,λe=>(by cases e),λ_ _=>rfl,K5 _,λ_=>rfl⟩
    have bh:=ol (P:=P) (y:=m') hh h2 (by omega) w;have bl:=ol (P:=P) (y:=h') hl h1 c1 w;have hbounds:(Instr.sliceBounds Qy xs.length cap vl vh vm).run P w=.ok (l,h',m') w:=
     ko hm1 (λu e c=>by rw[hm2 u e];exact(bm.2 u e).2 c) (λe=>⟨(by
      cases hvm:vm with
      |none=>rfl
      |some u =>
       have:=c4 (bm.2 u hvm).1
       rw[(bh.1 e).1]at this;cases this),(bh.1 e).2⟩) (λu e=>(bh.2 u e).2) (λe=>(bl.1 e).2) (λu e=>(bl.2 u e).2)
    refine⟨.slice (if m'=l then a else a.map (·.add (l*inf.size))) (h'-l) (m'-l),w,g,?_,.refl g,h,?_⟩
    ·simp only[Instr.sliceAt,Sem.run_bind,run_underlying hu,Result.andThen_ok,Instr.slice,hbounds,bZ (show sizeT P e=Qv inf.size by simp[sizeT,hinf]),Sem.run_pure]
    ·cases hx with
     |slice _ _ _ _ sz blk off val hc' hm0 ho hs ha hM hv hR =>
      have hlen:((xs.take h').drop l).length=h'-l:=by simp;omega
      rw[←hlen];have hsz:l≠0→0<xs.length→sz=inf.size:=by
       intro hl0 hx0;rcases c5 with c5|c5
       ·exact absurd c5 hl0
       ·have h1:=Mn.1 c5 _ (Mf hx0);have h2:=hs 0 hx0;simp at h1;omega
      refine .slice _ _ _ _ sz blk (off+l*sz) (λi j=>val (l+i) j) (by rw[hlen];omega) (by rw[hlen];omega) ?_ (λi hi=>?_) (λhpos=>?_) (λi j hi hj=>?_) (λi j hi hj=>?_) (λi j hi hj=>?_)
      ·by_cases hmx:mx.isSome=Qy
       ·rw[if_pos hmx];split
        ·rename_i e1;show m'-l=_;rw[hlen,hm4 hmx];omega
        ·trivial
       ·rw[if_neg hmx];split
        ·rename_i e1;obtain⟨rfl,e2⟩:=e1;show m'-l=_;have hvm:vm=Qx:=by
          cases hvm:vm with
          |none=>rfl
          |some u=>exact absurd (bm.2 u hvm).1 hmx
         have hcap:cap=xs.length:=hox;rw[hlen,hm1 hvm];omega
        ·trivial
      ·simp only[Oe,NV];exact hs _ _
      ·rw[hlen]at hpos;have hx0:0<xs.length:=by omega
       rw[if_neg (by omega),ha hx0];simp only[NR,co];by_cases hl0:l=0
       ·subst hl0;simp
       ·rw[hsz hl0 hx0]
      ·rw[hlen]at hi;have:=hM (l+i) j (by omega) hj
       rw[NW,←N3]at this;exact this
      ·rw[hlen]at hi;exact hv (l+i) j (by omega) hj
      ·simp only[Oe,NV];rw[hlen]at hi;exact hR (l+i) j (by omega) (by simpa using hj)
   ·cases he
  ·cases he
 ·rename_i e hu;split at he
  ·rename_i el h0 h1 h2 h3;obtain⟨e',sz,by_,ag⟩:=el;obtain⟨hu',⟨inf,hinf,rfl,rfl⟩,_⟩:=bP h0;rw[hu]at hu';cases hu';split at he
   ·rename_i c4;cases he;cases hx with
    |row0 a =>
     obtain⟨m',q1,q2,q3⟩:=pK (P:=P) (w:=w) (a:=a) (cap:=0) hl hh hm hu hinf h1 h2 h3 (by omega) (by omega) (by omega) (by omega) c4;obtain rfl:m'=0:=by omega
     exact⟨_,w,g,q3,.refl g,h,.row0 _⟩
   ·cases he
  ·cases he
 ·rename_i e b off n rsz hu;split at he
  ·rename_i e' sz by_ ag l h' m h0 h1 h2 h3;obtain⟨hu',⟨inf,hinf,rfl,rfl⟩,_⟩:=bP h0;rw[hu]at hu';cases hu';split at he
   ·rename_i hc;obtain⟨c1,c2,c3,c4,rfl⟩:=hc;cases he;cases hx with
    |row _ _ _ _ blk M cap hB hS hcap hn hz0 hM =>
     obtain⟨m',q1,q2,q3⟩:=pK (P:=P) (w:=w) (a:=Qv ⟨blk,off,Qx⟩) (cap:=cap) hl hh hm hu hinf h1 h2 h3 c1 c2 c3 hcap c4;refine⟨_,w,g,q3,.refl g,h,?_⟩;have hmul:(m'-l)*inf.size+l*inf.size≤cap*inf.size:=by
      rw[←NW];exact Na _ (by omega)
     split
     ·rename_i hl0;subst hl0;have e1:(if m'=0 then Qv (⟨blk,off,Qx⟩:Addr)else(Qv ⟨blk,off,Qx⟩:Option Addr).map (·.add (0*inf.size)))=Qv ⟨blk,off,Qx⟩:=by
       simp[co]
      rw[e1];exact .row _ _ _ _ blk M _ hB hS (by omega) (by omega) hz0 (by omega)
     ·rename_i hl0;split
      ·rename_i hlt;rw[if_neg (by omega)];simp only[NR,co];exact .row _ _ _ _ blk M _ hB hS (by omega) (by omega) hz0 (by omega)
      ·rename_i hlt;rw[show h'-l=([]:List (List D)).length by simp;omega];exact .slice .none [] _ _ 0 0 0 (λ_ _=>.nilFunc) (by simp) (by simp) trivial (λi hi=>by simp at hi) (λh=>by simp at h) (λi j hi=>by simp at hi) (λi j hi=>by simp at hi) (λi j hi=>by simp at hi)
   ·cases he
  ·cases he
 ·rename_i e b off n c rsz hu;split at he
  ·rename_i e' sz by_ ag l h' h0 h1 h2;obtain⟨hu',⟨inf,hinf,rfl,rfl⟩,_⟩:=bP h0;rw[hu]at hu';cases hu';split at he
   ·rename_i hc;obtain⟨c1,c2,rfl⟩:=hc;cases he;cases vm with
    |some _=>exact hm.elim
    |none =>
    cases hx with
    |msl _ _ _ _ _ blk M hB hS hcap hz0 hM =>
     have bh:=ol (P:=P) (y:=c) hh h2 c2 w;have bl:=ol (P:=P) (y:=h') hl h1 c1 w;have hbounds:(Instr.sliceBounds Qy n c vl vh Qx).run P w=.ok (l,h',c) w:=
      ko (λ_=>rfl) (λu e=>(by cases e)) (λe=>⟨rfl,(bh.1 e).2⟩) (λu e=>(bh.2 u e).2) (λe=>(bl.1 e).2) (λu e=>(bl.2 u e).2)
     refine⟨.slice (if c=l then Qv ⟨blk,off,Qx⟩else(Qv ⟨blk,off,Qx⟩:Option Addr).map (·.add (l*inf.size))) (h'-l) (c-l),w,g,?_,.refl g,h,?_⟩
     ·simp only[Instr.sliceAt,Sem.run_bind,run_underlying hu,Result.andThen_ok,Instr.slice,hbounds,bZ (show sizeT P e=Qv inf.size by simp[sizeT,hinf]),Sem.run_pure]
     ·have hmul:(c-l)*inf.size+l*inf.size=c*inf.size:=by
       rw[←NW];congr 1;omega
      split
      ·rename_i hl0;subst hl0;have e1:(if c=0 then Qv (⟨blk,off,Qx⟩:Addr)else(Qv ⟨blk,off,Qx⟩:Option Addr).map (·.add (0*inf.size)))=Qv ⟨blk,off,Qx⟩:=by
        simp[co]
       rw[e1];exact .msl _ _ _ _ _ blk M hB hS (by omega) hz0 (by omega)
      ·split
       ·rename_i hlt;rw[if_neg (by omega)];simp only[NR,co];exact .msl _ _ _ _ _ blk M hB hS (by omega) hz0 (by omega)
       ·exact .junk _
   ·cases he
  ·cases he
 ·cases he
def zN(x y:D):Option D:=match x,y with
 |.int k a,.int _ b=>Qv (.int k (if b<a then b else a))
 |_,_=>Qx
def zO(x y:D):Option D:=match x,y with
 |.int k a,.int _ b=>Qv (.int k (if b > a then b else a))
 |_,_=>Qx
theorem KW{ts:Array QB}{ty:QB}(h:WRel w g s)(hx:R g x u)(hy:R g y v)(he:zN x y=Qv d):Ok P (Builtin.min_ ts ty #[u,v]) w g d s:=by
 unfold zN at he;split at he
 ·cases he;cases hx;cases hy;exact⟨_,w,g,by simp only[Builtin.min_,List.foldlM,Builtin.min2,Sem.run_bind,Sem.run_pure,Result.andThen_ok],.refl g,h,.int _ _⟩
 ·cases he
theorem KX{ts:Array QB}{ty:QB}(h:WRel w g s)(hx:R g x u)(hy:R g y v)(he:zO x y=Qv d):Ok P (Builtin.max_ ts ty #[u,v]) w g d s:=by
 unfold zO at he;split at he
 ·cases he;cases hx;cases hy;exact⟨_,w,g,by simp only[Builtin.max_,List.foldlM,Builtin.max2,Sem.run_bind,Sem.run_pure,Result.andThen_ok],.refl g,h,.int _ _⟩
 ·cases he
def eW(x:D):Option D:=
 match x with
 |.box b o=>Qv (.box b o)
 |.pin cs=>Qv (.pin cs)
 |.func (.func f) a c=>Qv (.func (.func f) a c)
 |.yield b=>Qv (.yield b)
 |_=>Qx
def tD(P:QA)(T:QB)(x:D):Option D:=
 match P.underlying T,x with
 |some (.slice _),.msl _ _ _ c _=>Qv (.int .i64 c)
 |_,_=>Qx
theorem KZ{ty:QB}(h:WRel w g s)(hx:R g x v)(he:tD P T x=Qv d):Ok P (Builtin.cap_ #[T] ty #[v]) w g d s:=by
 unfold tD at he;split at he
 ·rename_i e b off n c rsz hu;cases he;cases hx;exact⟨_,w,g,by simp[Builtin.cap_,run_underlying hu,goInt],.refl g,h,.int _ _⟩
 ·cases he
theorem WRel.revive{w:QD}{g:G}{s:St}{i b:Nat}{cs:List D}{arr:Array QF}{T:QB}(h:WRel w g {s with boxes:=s.boxes.set i .dead})(hi:i<s.boxes.length)(hB:g.B i=Qv b)(hh:w.heap[b]?=Qv (.cells arr T (0,0)))(hlen:cs.length≤arr.size)
  (hR:∀(j:Nat)(h1:j<cs.length)(h2:j<arr.size),R g cs[j] arr[j]∧arr[j].oneCell'=Qy) (hM:∀o,g.M b o=Qx) (ho:∀j,Live1 {s with boxes:=s.boxes.set i .dead} j→g.B j≠Qv b):WRel w g {s with boxes:=s.boxes.set i (.cells cs)}:=by
 have hl:∀j,j≠i→Live1 {s with boxes:=s.boxes.set i (.cells cs)} j→Live1 {s with boxes:=s.boxes.set i .dead} j:=λj hj⟨bx,e1,e2⟩=>by
  simp only at e1;rw[ME (by omega)]at e1;exact⟨bx,by simp only;rw[ME (by omega)];exact e1,e2⟩
 refine {os:=h.os,tape:=h.tape,out:=h.out,fz:=h.fz,n:=h.n,old:=h.old,m:=h.m,box:=λj bx hj=>?_,inj:=λj k c h1 h2 l1 l2=>?_,dom:=λj c hj=>by have:=h.dom j c hj;simpa using this,live:=h.live,uniq:=h.uniq,ldom:=h.ldom,o:=h.o,nd:=h.nd,sz:=h.sz}
 ·by_cases e:j=i
  ·subst e;simp only at hj;rw[MH hi]at hj;cases hj;exact⟨b,arr,T,(0,0),hB,hh,hlen,hR,hM,rfl⟩
  ·simp only at hj;rw[ME (by omega)]at hj;exact h.box j bx (by simp only;rw[ME (by omega)];exact hj)
 ·by_cases e:j=i
  ·by_cases e2:k=i
   ·omega
   ·subst e;rw[hB]at h1;cases h1;exact absurd h2 (ho k (hl k e2 l2))
  ·by_cases e2:k=i
   ·subst e2;rw[hB]at h2;cases h2;exact absurd h1 (ho j (hl j e l1))
   ·exact h.inj j k c h1 h2 (hl j e l1) (hl k e2 l2)
def DU:D→Option (Nat×Nat×Nat×Nat)
 |.row b off n z=>Qv (b,off,n,z)
 |.msl b off n _ z=>Qv (b,off,n,z)
 |_=>Qx
def DV:D→Option Nat
 |.slice _ xs=>Qv xs.length
 |.row0=>Qv 0
 |.row _ _ n _=>Qv n
 |.msl _ _ n _ _=>Qv n
 |_=>Qx
def kO(sz n:Nat)(s:St):D→Option (List D)
 |.slice _ xs=>if xs.all (·.length == sz)=Qy then Qv (xs.take n).flatten else Qx
 |.row b off _ z=>match s.boxes[b]? with
  |some (.cells cs)=>if z=sz∧off+n*sz≤cs.length then Qv ((cs.drop off).take (n*sz))else Qx
  |_=>Qx
 |.msl b off _ _ z=>match s.boxes[b]? with
  |some (.cells cs)=>if z=sz∧off+n*sz≤cs.length then Qv ((cs.drop off).take (n*sz))else Qx
  |_=>Qx
 |_=>Qx
def tj(P:QA)(T:QB)(x y:D)(s:St):Option (D×St):=
 match elemT P T,DU x,DV y with
 |some (_,sz,_,_),Qv (b,off,n,z),Qv k=>match s.boxes[b]?,kO sz (min k n) s y with
  |some (.cells cs),Qv ds=>if z=sz∧0<sz∧off≤cs.length then Qv (.int .i64 (min k n:Nat),{s with boxes:=s.boxes.set b (.cells (storeD cs off ds))})else Qx
  |_,_=>Qx
 |_,_,_=>Qx
theorem Li{off:Nat}(hx:R g x v)(h:DU x=Qv (b,off,n,z)):∃blk m cap,v=.slice (Qv ⟨blk,off,Qx⟩) n cap∧g.B b=Qv blk∧g.S blk=Qv m∧n≤cap∧off+cap*z≤m:=by
 cases hx<;>cases h<;>exact⟨_,_,_,rfl,by assumption,by assumption,by assumption,by assumption⟩
theorem KQ {P:QA} {w:QD} {g:G} {s:St} {y:D} {u:QF} {k n sz:Nat} {ds:List D} (h:WRel w g s) (hy:R g y u) (hk:DV y=Qv k) (hn:n≤k) (hd:kO sz n s y=Qv ds) :
    ∃a c vs,u=.slice a k c∧CellsOk g ds vs∧vs.length=n*sz∧(Builtin.firstCells sz n u).run P w=.ok vs.toArray w:=by
  have box:∀(b off z blk c:Nat)(cs:List D),s.boxes[b]?=Qv (.cells cs)→g.B b=Qv blk→u=.slice (Qv ⟨blk,off,Qx⟩) k c→off+n*sz≤cs.length→ds=(cs.drop off).take (n*sz)→∃a c vs,u=.slice a k c∧CellsOk g ds vs∧vs.length=n*sz∧(Builtin.firstCells sz n u).run P w=.ok vs.toArray w:=by
    intro b off z blk c cs hb hB hu ho hds;obtain⟨blk',arr,T0,fr,q1,q2,q3,q4,q5⟩:=h.box b _ hb;rw[hB]at q1;cases q1;have hvl:((arr.toList.drop off).take (n*sz)).length=n*sz:=by simp;omega
    refine⟨_,c,(arr.toList.drop off).take (n*sz),hu,⟨by rw[hds,hvl];simp;omega,λj j1 j2=>?_⟩,hvl,?_⟩
    · rw[hvl]at j2;have:=q4 (off+j) (by omega) (by omega)
      subst hds;simpa using this
    · subst hu;refine run_firstCells_some _ _ _ _ _ _ _ hvl (λj v hj=>?_);rw[co];obtain⟨hlt,rfl⟩:=L5.1 hj;have hlt2:off+j<arr.size:=by rw[hvl]at hlt;omega
      simp[World.cell?,q2,hlt2]
  cases y with
  |slice o xs =>
    cases hk;simp only[kO]at hd;split at hd
    · rename_i hall;cases hd;obtain⟨a,cap,sz',fl,rfl,hc,hm,ho,hs,hkk,ha⟩:=gH hy;have hall':∀x∈xs,x.length=sz:=λx hx=>by simpa using Mn.1 hall x hx
      have hfl:fl.length=xs.length*sz:=by rw[←hkk.1,bN xs hall']
      have hns:n*sz≤xs.length*sz:=Na _ hn;have hft:(xs.take n).flatten=xs.flatten.take (n*sz):=by
        have e:xs.flatten=(xs.take n).flatten++(xs.drop n).flatten:=by rw[←Qb,List.take_append_drop]
        have hl:(xs.take n).flatten.length=n*sz:=by rw[bN _ (λx hx=>hall' x (List.mem_of_mem_take hx)),MN,Nat.min_eq_left hn]
        rw[e,←hl,List.take_left'];rfl
      refine⟨a,cap,fl.take (n*sz),rfl,by rw[hft];exact hkk.take _,by simp;omega,?_⟩;rcases Nt (n*sz)with e0|e0
      · rw[e0];cases a with
        |none=>exact run_firstCells_none _ _ _ _ _
        |some b=>exact run_firstCells_some _ _ _ _ _ _ [] (by simp[e0]) (λj v hj=>by simp at hj)
      · have hn0 : 0 < n := by rcases Nt n with e | e; · rw [e] at e0; simp at e0
                               · exact e
        obtain⟨blk,off,rfl,hMy⟩:=ha (by omega);refine run_firstCells_some _ _ _ _ _ _ _ (by simp;omega) (λj v hj=>?_);rw[co];rw[List.getElem?_take]at hj;split at hj
        · exact h.m _ _ _ (hMy j v hj)
        · cases hj
    · cases hd
  |row b off m z =>
    cases hk;simp only[kO]at hd;split at hd
    · rename_i cs hb;split at hd
      · rename_i hc;cases hd;cases hy with
        |row _ _ _ _ blk M cap hB hS hcap hn' hz hm=>exact box b off z blk cap cs hb hB rfl hc.2 rfl
      · cases hd
    · cases hd
  |msl b off m c z =>
    cases hk;simp only[kO]at hd;split at hd
    · rename_i cs hb;split at hd
      · rename_i hc;cases hd;cases hy with
        |msl _ _ _ _ _ blk M hB hS hcap hz hm=>exact box b off z blk c cs hb hB rfl hc.2 rfl
      · cases hd
    · cases hd
  |_=>simp[kO]at hd
theorem IA{ty:QB}(h:WRel w g s)(hx:R g x v)(hy:R g y u)(he:tj P T x y s=Qv (d,s')) :
  Ok P (Builtin.copy_ #[T,T'] ty #[v,u]) w g d s':=by
 unfold tj at he;split at he
 ·rename_i e sz by_ ag b off n z k h1 h2 h3;split at he
  ·rename_i cs ds hb hs;split at he
   ·rename_i hc;obtain⟨rfl,hz0,hoff⟩:=hc;cases he;obtain⟨hu,⟨i,hi,rfl,rfl⟩,_⟩:=bP h1;obtain⟨blk,m,cap,rfl,hB,hS,hcap,hm⟩:=Li hx h2;obtain⟨a,c,vs,rfl,hkk,hvl,hrun⟩:=KQ (P:=P) h hy h3 (Nat.min_le_left k n) hs;obtain⟨blk',arr,T0,fr,q1,q2,q3,q4,q5⟩:=h.box b _ hb;rw[hB]at q1;cases q1;obtain⟨a2,T2,f2,e1,e2⟩:=h.sz blk m hS;rw[q2]at e1;cases e1;have hbl:=(L5.1 hb).1;have hN:=(h.dom b blk hB).2.1;have hdl:ds.length=min k n*i.size:=by rw[hkk.1,hvl]
    have hroom:off+ds.length≤arr.size:=by
     have:min k n*i.size≤cap*i.size:=Na _ (by omega)
     omega
    have key:∃w',(storeCells ⟨blk,off,Qx⟩ vs 0).run P w=.ok () w'∧WRel w' g {s with boxes:=s.boxes.set b (.cells (storeD cs off ds))}:=by
     by_cases hin:off+ds.length≤cs.length
     ·obtain⟨w',hr,hw'⟩:=WRel.storeBox (P:=P) ds vs w s b blk off 0 cs h hb hB (by omega) hkk.1 hkk.2;exact⟨w',hr,by rw[jA _ _ _ hin];simpa using hw'⟩
     ·have hlive:∀j,Live1 {s with boxes:=s.boxes.set b .dead} j→g.B j≠Qv blk:=by
       intro j hj hjB;obtain⟨l1,l2⟩:=fW hj;exact l2 (h.inj j b blk hjB hB l1 ⟨_,hb,by simp⟩)
      obtain⟨w',arr',hr,hw',hh',hs',hcc,hkeep⟩:=WRel.storeFree (P:=P) (off:=off) hN hlive vs w 0 arr T0 fr q5.2 (h.kill b) q2 (by rw[hvl,←hdl];omega)
       (λj hj=>q5.1 _) (λv hv=>by obtain⟨j,hj,rfl⟩:=Mx hv;exact(hkk.2 j (by rw[hkk.1];exact hj) hj).2)
      have hfr:=q5.2;subst hfr;refine⟨w',hr,hw'.revive hbl hB hh' ?_ (λj p1 p2=>?_) q5.1 hlive⟩
      ·simp only[storeD,K4,MN,List.length_drop];omega
      ·have hst:storeD cs off ds=cs.take off++ds:=by
        simp only[storeD];rw[List.drop_eq_nil_of_le (by omega),MK]
       simp only[hst]at p1⊢;have hto:(cs.take off).length=off:=by simp;omega
       by_cases hj:j<off
       ·rw[M9 (by rw[hto];exact hj)];have e3:=hkeep j (by omega);rw[MV p2,MV (by omega)]at e3;rw[NJ.inj e3];simpa using q4 j (by omega) (by omega)
       ·have hj2:j-off<ds.length:=by rw[K4,hto]at p1;omega
        have hj3:j-off<vs.length:=by rw[←hkk.1];exact hj2
        rw[M1 (by rw[hto];omega)];have e3:=hcc (j-off) hj3;rw[show off+0+(j-off)=j by omega,MV p2]at e3;rw[NJ.inj e3];simp only[hto];exact hkk.2 _ hj2 hj3
    obtain⟨w',hr,hw'⟩:=key;refine⟨.int .i64 (min k n:Nat),w',g,?_,.refl g,hw',.int _ _⟩;simp[Builtin.copy_,run_underlying hu,Builtin.lenOf,sizeOf,typeInfo,hi,hrun,hr,goInt]
   ·cases he
  ·cases he
 ·cases he
def jG(P:QA)(b:Builtin)(ts:List QB)(xs:List D)(s:St):Option (D×St):=
 match b,ts,xs with
 |.len,[T],[x]=>(gd P T x s).map (·,s)
 |.append,[T,T'],[x,y]=>cL P T T' x y s
 |.min,_,[x,y]=>(zN x y).map (·,s)
 |.max,_,[x,y]=>(zO x y).map (·,s)
 |.delete,[T,_],[m,k]=>(iT P T m k s).map (.tup [],·)
 |.clear,[T],[x]=>(oG P T x s).map (.tup [],·)
 |.cap,[T],[x]=>(tD P T x).map (·,s)
 |.copy,[T,_],[x,y]=>tj P T x y s
 |_,_,_=>Qx
def evalOp(P:QA)(ρ:QE→D)(s:St)(op:Op):Option (D×St):=
 match op with
 |.move x=>Qv (ρ x,s)
 |.assign x=>Qv (ρ x,s)
 |.pick c a b=>match ρ c with
  |.bool t=>Qv (bif t then ρ a else ρ b,s)
  |_=>Qx
 |.alloc T=>kH P T s
 |.box _ x=>kG (ρ x) s
 |.build T ps=>(kF P T (ps.toList.map λq=>(q.1,ρ q.2))).map (·,s)
 |.buildSlice T n ps=>(dY P T n (ps.toList.map λq=>(q.1,ρ q.2))).map (·,s)
 |.load T a=>(evLoad P T (ρ a) s).map (·,s)
 |.store T a x=>(iF P T (ρ a) (ρ x) s).map (.junk,·)
 |.nilCheck x=>(eW (ρ x)).map (·,s)
 |.binOp op T x y _=>(dJ P op T (ρ x) (ρ y)).map (·,s)
 |.unOp op _ x=>(GD op (ρ x)).map (·,s)
 |.convert src dst x=>(kS P src dst (ρ x)).map (·,s)
 |.makeFunc fn fi ca=>Qv (.func fn (fi.toList.map ρ) (ca.toList.map ρ),s)
 |.slice T x lo hi mx=>(dz P T (ρ x) (lo.map ρ) (hi.map ρ) (mx.map ρ)).map (·,s)
 |.fieldAddr T x f=>(dW P T (ρ x) f).map (·,s)
 |.field T x f=>(iG P T (ρ x) f).map (·,s)
 |.indexAddr T x i=>(cD P T (ρ x) (ρ i)).map (·,s)
 |.index T x i=>(kE P T (ρ x) (ρ i)).map (·,s)
 |.extract t i=>(jF (ρ t) i).map (·,s)
 |.makeMap T r=>match r with
  |none=>lP s
  |some x=>match ρ x,P.underlying T with
   |.int _ _,Qv (.map _ _)=>lP s
   |_,_=>Qx
 |.makeSlice T l c=>ez P T (ρ l) (ρ c) s
 |.lookup T m i ok=>(iS P T (ρ m) (ρ i) ok s).map (·,s)
 |.mapUpdate T m i x=>(dB P T (ρ m) (ρ i) (ρ x) s).map (.junk,·)
 |.insert T m i x=>(dB P T (ρ m) (ρ i) (ρ x) s).map (.junk,·)
 |.call {callee:=.builtin b,args,argTypes}=>jG P b argTypes.toList (args.toList.map ρ) s
 |_=>Qx
def ng(P:QA)(m:Sem Next)(w:QD)(g:G)(d:D)(s':St):Prop:=
 ∃nx w' g',m.run P w=.ok nx w'∧g.le g'∧WRel w' g' s'∧((∃v,nx=.value v∧R g' d v)∨(nx=.skip∧d=.junk))
theorem ng.of{P:QA}{m:Sem QF}{w:QD}{g:G}{d:D}{s':St}(h:Ok P m w g d s'):ng P (do pure (.value (←m))) w g d s':=by
 obtain⟨v,w',g',h1,h2,h3,h4⟩:=h;exact⟨.value v,w',g',by simp only[Sem.run_bind,h1,Result.andThen_ok,Sem.run_pure],h2,h3,.inl ⟨v,rfl,h4⟩⟩
theorem map_some{α β:Type}{o:Option α}{f:α→β}{y:β}(h:o.map f=Qv y):∃x,o=Qv x∧f x=y:=MQ.1 h
theorem qW{ρ:QE→D}{ρc:QE→QF}{ps:Array (Nat×QE)}(h:∀x∈(ps.toList.map (·.2)),R g (ρ x) (ρc x)) :
  vx g (ps.toList.map λq=>(q.1,ρ q.2)) (ps.map λq=>(q.1,ρc q.2)):=by
 refine⟨by simp,λj h1 h2=>?_⟩;simp only[M4,OH,Nr];refine⟨trivial,h _ ?_⟩;simp only[List.mem_map];exact⟨ps[j]'(by simpa using h2),by simp,rfl⟩
variable {o:Oper}
theorem C5{ρ:QE→D}{ρc:QE→QF}(hρ:∀x∈o.op.operands,R g (ρ x) (ρc x))(h:WRel w g s)
  (he:evalOp P ρ s o.op=Qv (d,s')):ng P (execOp ρc o) w g d s'∧(∀c,o.op≠.defer c):=by
 obtain⟨dst,op,type,pos,after,guard⟩:=o;simp only at he hρ;refine⟨?_,λc hc=>by simp only at hc;subst hc;cases he⟩;cases op<;>simp only[evalOp]at he<;>simp only[execOp];case move x=>cases he;exact⟨_,w,g,rfl,.refl g,h,.inl ⟨_,rfl,hρ x (by simp[Op.operands])⟩⟩
 case assign x=>cases he;exact⟨_,w,g,rfl,.refl g,h,.inl ⟨_,rfl,hρ x (by simp[Op.operands])⟩⟩
 case pick c a b =>
  have hc:=hρ c (by simp[Op.operands]);split at he
  ·rename_i t ht;cases he;rw[ht]at hc;cases hcc:ρc c<;>rw[hcc]at hc<;>cases hc;refine⟨.value (if t then ρc a else ρc b),w,g,by simp[asBool],.refl g,h,.inl ⟨_,rfl,?_⟩⟩;cases t
   ·exact hρ b (by simp[Op.operands])
   ·exact hρ a (by simp[Op.operands])
  ·cases he
 case alloc T=>exact .of (Ff h he)
 case box T x=>exact .of (K0 h (hρ x (by simp[Op.operands])) he)
 case build T ps =>
  obtain⟨x,hx,e⟩:=map_some he;cases e;exact .of (Fc h (qW λx hx=>hρ x (by simpa[Op.operands]using hx)) hx)
 case buildSlice T n ps =>
  obtain⟨x,hx,e⟩:=map_some he;cases e;exact .of (s8 h (qW λx hx=>hρ x (by simpa[Op.operands]using hx)) hx)
 case load T a =>
  obtain⟨x,hx,e⟩:=map_some he;cases e;exact .of (Iz h (hρ a (by simp[Op.operands])) hx)
 case store T a x =>
  obtain⟨s1,hx,e⟩:=map_some he;cases e;obtain⟨w',h1,h2⟩:=E7 h (hρ a (by simp[Op.operands])) (hρ x (by simp[Op.operands])) hx;exact⟨.skip,w',g,by simp only[Sem.run_bind,h1,Result.andThen_ok,Sem.run_pure],.refl g,h2,.inr ⟨rfl,rfl⟩⟩
 case nilCheck x =>
  obtain⟨y,hy,e⟩:=map_some he;cases e;have hx:=hρ x (by simp[Op.operands]);unfold eW at hy;split at hy<;>first|cases hy|skip
  all_goals(rename_i heq;rw[heq]at hx;cases hcc:ρc x<;>rw[hcc]at hx<;>cases hx;exact⟨_,w,g,rfl,.refl g,h,.inl ⟨_,rfl,by rw[←hcc,←heq];exact hρ x (by simp[Op.operands])⟩⟩)
 case binOp op T x y yT =>
  obtain⟨z,hz,e⟩:=map_some he;cases e;exact .of (Fe h (hρ x (by simp[Op.operands])) (hρ y (by simp[Op.operands])) hz)
 case unOp op T x =>
  obtain⟨z,hz,e⟩:=map_some he;cases e;exact .of (Iy h (hρ x (by simp[Op.operands])) hz)
 case convert src dst' x =>
  obtain⟨z,hz,e⟩:=map_some he;cases e;exact .of (ze h (hρ x (by simp[Op.operands])) hz)
 case makeFunc fn fi ca =>
  cases he;refine⟨_,w,g,rfl,.refl g,h,.inl ⟨_,rfl,.func _ _ _ _ _ (by simp) (by simp) (λi h1 h2=>?_) (λi h1 h2=>?_)⟩⟩
  ·simp only[M4,OH,Nr];exact hρ _ (by simp[Op.operands])
  ·simp only[M4,OH,Nr];exact hρ _ (by simp[Op.operands])
 case slice T x lo hi mx =>
  obtain⟨z,hz,e⟩:=map_some he;cases e;refine .of (E8 h (hρ x (by simp[Op.operands])) ?_ ?_ ?_ hz)
  ·cases lo with
   |none=>trivial
   |some y=>exact hρ y (by simp[Op.operands])
  ·cases hi with
   |none=>trivial
   |some y=>exact hρ y (by simp[Op.operands])
  ·cases mx with
   |none=>trivial
   |some y=>exact hρ y (by simp[Op.operands])
 case fieldAddr T x f =>
  obtain⟨z,hz,e⟩:=map_some he;cases e;exact .of (uS h (hρ x (by simp[Op.operands])) hz)
 case field T x f =>
  obtain⟨z,hz,e⟩:=map_some he;cases e;exact .of (Fa h (hρ x (by simp[Op.operands])) hz)
 case indexAddr T x i =>
  obtain⟨z,hz,e⟩:=map_some he;cases e;exact .of (uR h (hρ x (by simp[Op.operands])) (hρ i (by simp[Op.operands])) hz)
 case index T x i =>
  obtain⟨z,hz,e⟩:=map_some he;cases e;exact .of (E9 h (hρ x (by simp[Op.operands])) (hρ i (by simp[Op.operands])) hz)
 case extract t i =>
  obtain⟨z,hz,e⟩:=map_some he;cases e;exact .of (zd h (hρ t (by simp[Op.operands])) hz)
 case makeMap T r =>
  split at he
  ·cases he;exact .of (ra h (λu hu=>by cases hu))
  ·rename_i x;split at he
   ·rename_i k n a b hx hu;cases he;refine .of (ra h (λu hu'=>?_));simp only[NR,NJ.injEq]at hu';have hR:=hρ x (by simp[Op.operands]);rw[hx,hu']at hR;cases hR;exact⟨⟨_,_,rfl⟩,_,_,hu⟩
   ·cases he
 case makeSlice T l c=>exact .of (uQ h (hρ l (by simp[Op.operands])) (hρ c (by simp[Op.operands])) he)
 case lookup T m i ok =>
  obtain⟨z,hz,e⟩:=map_some he;cases e;exact .of (CG h (hρ m (by simp[Op.operands])) (hρ i (by simp[Op.operands])) hz)
 case mapUpdate T m i x =>
  obtain⟨s1,hx,e⟩:=map_some he;cases e;obtain⟨w',h1,h2⟩:=nC h (hρ m (by simp[Op.operands])) (hρ i (by simp[Op.operands])) (hρ x (by simp[Op.operands])) hx;exact⟨.skip,w',g,by simp only[Sem.run_bind,h1,Result.andThen_ok,Sem.run_pure],.refl g,h2,.inr ⟨rfl,rfl⟩⟩
 case insert T m i x =>
  obtain⟨s1,hx,e⟩:=map_some he;cases e;obtain⟨w',h1,h2⟩:=nC h (hρ m (by simp[Op.operands])) (hρ i (by simp[Op.operands])) (hρ x (by simp[Op.operands])) hx;exact⟨.skip,w',g,by simp only[Sem.run_bind,h1,Result.andThen_ok,Sem.run_pure],.refl g,h2,.inr ⟨rfl,rfl⟩⟩
 case call c =>
  obtain⟨callee,args,ts⟩:=c;cases callee with
  |value f=>cases he
  |invoke r m=>cases he
  |builtin b =>
   simp only at he;unfold jG at he;split at he
   ·rename_i T x hts hargs;obtain rfl:ts = #[T]:=by apply N5;simpa using hts
    obtain⟨z,hz,e⟩:=map_some he;cases e;obtain⟨q,hq⟩:∃q,args = #[q]:=by
     have:args.toList.length=1:=by rw[←MW (f:=ρ),hargs];rfl
     obtain⟨q,hq⟩:=Pv.1 this;exact⟨q,by apply N5;simpa using hq⟩
    subst hq;cases hargs;have:=ng.of (KY (ty:=type) h (hρ q (by simp[Op.operands,Call.operands])) hz)
    simpa[resolve,invoke,builtin,ng]using this
   ·rename_i T T' x y hts hargs;obtain rfl:ts = #[T,T']:=by apply N5;simpa using hts
    obtain⟨q,r,hq⟩:∃q r,args = #[q,r]:=by
     have:args.toList.length=2:=by rw[←MW (f:=ρ),hargs];rfl
     match hl:args.toList,this with
     | [q,r],_=>exact⟨q,r,by apply N5;simpa using hl⟩
    subst hq;cases hargs;have:=ng.of (CI (ty:=type) h (hρ q (by simp[Op.operands,Call.operands])) (hρ r (by simp[Op.operands,Call.operands])) he)
    simpa[resolve,invoke,builtin,ng]using this
   ·rename_i x y hargs;obtain⟨z,hz,e⟩:=map_some he;cases e;obtain⟨q,r,hq⟩:∃q r,args = #[q,r]:=by
     have:args.toList.length=2:=by rw[←MW (f:=ρ),hargs];rfl
     match hl:args.toList,this with
     | [q,r],_=>exact⟨q,r,by apply N5;simpa using hl⟩
    subst hq;cases hargs;have:=ng.of (KW (ts:=ts) (ty:=type) (P:=P) h (hρ q (by simp[Op.operands,Call.operands])) (hρ r (by simp[Op.operands,Call.operands])) hz)
    simpa[resolve,invoke,builtin,ng]using this
   ·rename_i x y hargs;obtain⟨z,hz,e⟩:=map_some he;cases e;obtain⟨q,r,hq⟩:∃q r,args = #[q,r]:=by
     have:args.toList.length=2:=by rw[←MW (f:=ρ),hargs];rfl
     match hl:args.toList,this with
     | [q,r],_=>exact⟨q,r,by apply N5;simpa using hl⟩
    subst hq;cases hargs;have:=ng.of (KX (ts:=ts) (ty:=type) (P:=P) h (hρ q (by simp[Op.operands,Call.operands])) (hρ r (by simp[Op.operands,Call.operands])) hz)
    simpa[resolve,invoke,builtin,ng]using this
   ·rename_i T T' x y hts hargs;obtain rfl:ts = #[T,T']:=by apply N5;simpa using hts
    obtain⟨z,hz,e⟩:=map_some he;cases e;obtain⟨q,r,hq⟩:∃q r,args = #[q,r]:=by
     have:args.toList.length=2:=by rw[←MW (f:=ρ),hargs];rfl
     match hl:args.toList,this with
     | [q,r],_=>exact⟨q,r,by apply N5;simpa using hl⟩
    subst hq;cases hargs;have:=ng.of (CH (T':=T') (ty:=type) (P:=P) h (hρ q (by simp[Op.operands,Call.operands])) (hρ r (by simp[Op.operands,Call.operands])) hz)
    simpa[resolve,invoke,builtin,ng]using this
   ·rename_i T x hts hargs;obtain rfl:ts = #[T]:=by apply N5;simpa using hts
    obtain⟨z,hz,e⟩:=map_some he;cases e;obtain⟨q,hq⟩:∃q,args = #[q]:=by
     have:args.toList.length=1:=by rw[←MW (f:=ρ),hargs];rfl
     obtain⟨q,hq⟩:=Pv.1 this;exact⟨q,by apply N5;simpa using hq⟩
    subst hq;cases hargs;have:=ng.of (Fb (ty:=type) h (hρ q (by simp[Op.operands,Call.operands])) hz)
    simpa[resolve,invoke,builtin,ng]using this
   ·rename_i T x hts hargs;obtain rfl:ts = #[T]:=by apply N5;simpa using hts
    obtain⟨z,hz,e⟩:=map_some he;cases e;obtain⟨q,hq⟩:∃q,args = #[q]:=by
     have:args.toList.length=1:=by rw[←MW (f:=ρ),hargs];rfl
     obtain⟨q,hq⟩:=Pv.1 this;exact⟨q,by apply N5;simpa using hq⟩
    subst hq;cases hargs;have:=ng.of (KZ (ty:=type) h (hρ q (by simp[Op.operands,Call.operands])) hz)
    simpa[resolve,invoke,builtin,ng]using this
   ·rename_i T T' x y hts hargs;obtain rfl:ts = #[T,T']:=by apply N5;simpa using hts
    obtain⟨q,r,hq⟩:∃q r,args = #[q,r]:=by
     have:args.toList.length=2:=by rw[←MW (f:=ρ),hargs];rfl
     match hl:args.toList,this with
     | [q,r],_=>exact⟨q,r,by apply N5;simpa using hl⟩
    subst hq;cases hargs;have:=ng.of (IA (T':=T') (ty:=type) h (hρ q (by simp[Op.operands,Call.operands])) (hρ r (by simp[Op.operands,Call.operands])) he)
    simpa[resolve,invoke,builtin,ng]using this
   ·cases he
 all_goals cases he
inductive Bd (nb nl:Nat):D→Prop
 |junk:Bd nb nl .junk
 |int (k:IntKind) (n:Int):Bd nb nl (.int k n)
 |bool (b:Bool):Bd nb nl (.bool b)
 |str (s:ByteArray):Bd nb nl (.str s)
 |slice (o:Own) (xs:List (List D)) (ho:∀k z,o=.lab k z→k<nl) (hx:∀(i j:Nat)(hi:i<xs.length)(hj:j<xs[i].length),Bd nb nl xs[i][j]):Bd nb nl (.slice o xs)
 |agg (cs:List D) (h:∀(i:Nat)(hi:i<cs.length),Bd nb nl cs[i]):Bd nb nl (.agg cs)
 |tup (cs:List D) (h:∀(i:Nat)(hi:i<cs.length),Bd nb nl cs[i]):Bd nb nl (.tup cs)
 |nilp:Bd nb nl .nilp
 |box (b off:Nat) (h:b<nb):Bd nb nl (.box b off)
 |pin (cs:List D) (h:∀(i:Nat)(hi:i<cs.length),Bd nb nl cs[i]):Bd nb nl (.pin cs)
 |func (fn:Fn) (fi ca:List D) (h1:∀(i:Nat)(hi:i<fi.length),Bd nb nl fi[i]) (h2:∀(i:Nat)(hi:i<ca.length),Bd nb nl ca[i]):Bd nb nl (.func fn fi ca)
 |nilf:Bd nb nl .nilf
 |map (b:Nat) (h:b<nb):Bd nb nl (.map b)
 |nilm:Bd nb nl .nilm
 |yield (b:Nat) (h:b<nb):Bd nb nl (.yield b)
 |msl (b off len cap sz:Nat) (h:b<nb):Bd nb nl (.msl b off len cap sz)
 |row0:Bd nb nl .row0
 |row (b off n sz:Nat) (h:b<nb):Bd nb nl (.row b off n sz)
theorem Bd.mono{nb nl nb' nl':Nat}{d:D}(h:Bd nb nl d)(h1:nb≤nb')(h2:nl≤nl'):Bd nb' nl' d:=by
 induction h with
 |junk=>exact .junk
 |int=>exact .int _ _
 |bool=>exact .bool _
 |str=>exact .str _
 |slice o xs ho hx ih=>exact .slice o xs (λk z e=>PL (ho k z e) h2) ih
 |agg cs h ih=>exact .agg cs ih
 |tup cs h ih=>exact .tup cs ih
 |nilp=>exact .nilp
 |box b off h=>exact .box b off (by omega)
 |pin cs h ih=>exact .pin cs ih
 |func fn fi ca h1 h2 ih1 ih2=>exact .func fn fi ca ih1 ih2
 |nilf=>exact .nilf
 |map b h=>exact .map b (by omega)
 |nilm=>exact .nilm
 |yield b h=>exact .yield b (by omega)
 |msl b off len cap sz h=>exact .msl b off len cap sz (by omega)
 |row0=>exact .row0
 |row b off n sz h=>exact .row b off n sz (by omega)
theorem Bd.of_R{g:G}{d:D}{v:QF}{nb nl:Nat}(h:R g d v)(hB:∀i b,g.B i=Qv b→i<nb)(hL:∀k x,g.L k=Qv x→k<nl):Bd nb nl d:=by
 induction h with
 |junk v=>exact .junk
 |int k n=>exact .int _ _
 |bool b=>exact .bool _
 |str s=>exact .str _
 |slice o xs a cap sz blk off val hc hm ho hs ha hM hv hR ih =>
  exact .slice o xs (λk z e=>by subst e;exact hL _ _ ho.1) ih
 |agg cs vs h hv hR ih=>exact .agg cs (λi hi=>ih i hi (by omega))
 |tup cs vs h hR ih=>exact .tup cs (λi hi=>ih i hi (by omega))
 |nilp=>exact .nilp
 |box b off blk h=>exact .box b off (hB _ _ h)
 |pin cs blk off val hM hv hR ih=>exact .pin cs ih
 |func fn fi ca vf vc h1 h2 hf hc ihf ihc=>exact .func fn fi ca (λi hi=>ihf i hi (by omega)) (λi hi=>ihc i hi (by omega))
 |nilf=>exact .nilf
 |map b r h=>exact .map b (hB _ _ h)
 |nilm=>exact .nilm
 |yield b l h=>exact .yield b (hB _ _ h)
 |msl b off len cap sz blk m h hS hc hz hm=>exact .msl b off len cap sz (hB _ _ h)
 |row0 a=>exact .row0
 |row b off n sz blk m cap h hS hc hn hz hm=>exact .row b off n sz (hB _ _ h)
def G.cut(g:G)(nb nl:Nat)(O0:Nat→Prop):G:={g with O:=O0,B:=λi=>if i<nb then g.B i else Qx,L:=λk=>if k<nl then g.L k else Qx}
theorem R.cut{g:G}{d:D}{v:QF}{nb nl:Nat}{O0:Nat→Prop}(h:R g d v)(hb:Bd nb nl d):R (g.cut nb nl O0) d v:=by
 induction h with
 |junk v=>exact .junk v
 |int k n=>exact .int k n
 |bool b=>exact .bool b
 |str s=>exact .str s
 |slice o xs a cap sz blk off val hc hm ho hs ha hM hv hR ih =>
  cases hb with
  |slice _ _ hbo hbx =>
   refine .slice o xs a cap sz blk off val hc hm ?_ hs ha hM hv (λi j hi hj=>ih i j hi hj (hbx i j hi hj));cases o with
   |lab k z=>exact⟨by simp only[G.cut];rw[if_pos (hbo k z rfl)];exact ho.1,ho.2⟩
   |_=>exact ho
 |agg cs vs h hv hR ih=>cases hb with|agg _ hb=>exact .agg cs vs h hv (λi h1 h2=>ih i h1 h2 (hb i h1))
 |tup cs vs h hR ih=>cases hb with|tup _ hb=>exact .tup cs vs h (λi h1 h2=>ih i h1 h2 (hb i h1))
 |nilp=>exact .nilp
 |box b off blk h=>cases hb with|box _ _ hb=>exact .box b off blk (by simp only[G.cut];rw[if_pos hb];exact h)
 |pin cs blk off val hM hv hR ih=>cases hb with|pin _ hb=>exact .pin cs blk off val hM hv (λj hj=>ih j hj (hb j hj))
 |func fn fi ca vf vc h1 h2 hf hc ihf ihc=>cases hb with|func _ _ _ b1 b2=>exact .func fn fi ca vf vc h1 h2 (λi x y=>ihf i x y (b1 i x)) (λi x y=>ihc i x y (b2 i x))
 |nilf=>exact .nilf
 |map b r h=>cases hb with|map _ hb=>exact .map b r (by simp only[G.cut];rw[if_pos hb];exact h)
 |nilm=>exact .nilm
 |yield b l h=>cases hb with|yield _ hb=>exact .yield b l (by simp only[G.cut];rw[if_pos hb];exact h)
 |msl b off len cap sz blk m h hS hc hz hm=>cases hb with|msl _ _ _ _ _ hb=>exact .msl b off len cap sz blk m (by simp only[G.cut];rw[if_pos hb];exact h) hS hc hz hm
 |row0 a=>exact .row0 a
 |row b off n sz blk m cap h hS hc hn hz hm=>cases hb with|row _ _ _ _ hb=>exact .row b off n sz blk m cap (by simp only[G.cut];rw[if_pos hb];exact h) hS hc hn hz hm
def Hb(nb nl:Nat):Box→Prop
 |.dead=>True
 |.cells cs=>∀(i:Nat)(hi:i<cs.length),Bd nb nl cs[i]
 |.map es=>∀(i:Nat)(hi:i<es.length),Bd nb nl es[i].1∧Bd nb nl es[i].2
 |.mapX es _ _=>∀(i:Nat)(hi:i<es.length),Bd nb nl es[i].1∧Bd nb nl es[i].2
 |.iter mb _ _=>mb<nb
 |.loop _ _ _ e _ _=>∀(i:Nat)(hi:i<e.length),Bd nb nl e[i]
theorem jh.bd{w:QD}{g:G}{i:Nat}{bx:Box}{nb nl:Nat}(h:jh w g i bx)(hB:∀i b,g.B i=Qv b→i<nb)(hL:∀k x,g.L k=Qv x→k<nl):Hb nb nl bx:=by
 cases bx with
 |dead=>trivial
 |cells cs=>obtain⟨b,arr,T,fr,h1,h2,h3,h4,h5⟩:=h;exactλi hi=>Bd.of_R (h4 i hi (by omega)).1 hB hL
 |map es=>obtain⟨b,en,c,h1,h2,h3,h4⟩:=h;exactλi hi=>⟨Bd.of_R (h4 i hi (by omega)).1 hB hL,Bd.of_R (h4 i hi (by omega)).2.1 hB hL⟩
 |mapX es bs k=>obtain⟨b,en,c,h1,h2,⟨h3,_⟩,h4⟩:=h;exactλi hi=>⟨Bd.of_R (h4 i hi (by omega)).1 hB hL,Bd.of_R (h4 i hi (by omega)).2.1 hB hL⟩
 |iter mb k sn=>obtain⟨r,m,h1,h2,h3⟩:=h;exact hB mb m h3
 |loop ps as bo e st pe=>obtain⟨l,fn,t,df,h1,h2,h3,h4⟩:=h;exactλi hi=>Bd.of_R (h4 i hi (by omega)) hB hL
theorem jh.cut{w:QD}{g:G}{i:Nat}{bx:Box}{nb nl:Nat}{O0:Nat→Prop}(h:jh w g i bx)(hi:i<nb)(hb:Hb nb nl bx):jh w (g.cut nb nl O0) i bx:=by
 have hBi:∀b,g.B i=Qv b→(g.cut nb nl O0).B i=Qv b:=λb hb=>by simp only[G.cut];rw[if_pos hi];exact hb
 cases bx with
 |dead=>trivial
 |cells cs=>obtain⟨b,arr,T,fr,h1,h2,h3,h4,h5⟩:=h;exact⟨b,arr,T,fr,hBi b h1,h2,h3,λj x y=>⟨(h4 j x y).1.cut (hb j x),(h4 j x y).2⟩,h5⟩
 |map es=>obtain⟨b,en,c,h1,h2,h3,h4⟩:=h;exact⟨b,en,c,hBi b h1,h2,h3,λj x y=>⟨(h4 j x y).1.cut (hb j x).1,(h4 j x y).2.1.cut (hb j x).2,(h4 j x y).2.2⟩⟩
 |mapX es bs k=>obtain⟨b,en,c,h1,h2,h3,h4⟩:=h;exact⟨b,en,c,hBi b h1,h2,h3,λj x y=>⟨(h4 j x y).1.cut (hb j x).1,(h4 j x y).2.1.cut (hb j x).2,(h4 j x y).2.2⟩⟩
 |iter mb k sn=>obtain⟨r,m,h1,h2,h3⟩:=h;exact⟨r,m,hBi r h1,h2,by simp only[G.cut];rw[if_pos (show mb<nb from hb)];exact h3⟩
 |loop ps as bo e st pe=>obtain⟨l,fn,t,df,h1,h2,h3,h4⟩:=h;exact⟨l,fn,t,df,hBi l h1,h2,h3,λj x y=>(h4 j x y).cut (hb j x)⟩
def sameLoop(nb nl:Nat):Box→Box→Prop
 |.loop _ _ _ e _ _,.loop _ _ _ e' _ _=>e'=e
 |.cells cs,.cells cs'=>∀d∈cs',d∈cs∨Bd nb nl d
 |_,_=>False
structure Leave (s t:St) (s':St):Prop where
 len:s'.boxes.length≤t.boxes.length
 pre:∀(i:Nat)(bx:Box),s'.boxes[i]?=Qv bx→t.boxes[i]?=Qv bx
 old:∀(i:Nat)(bx:Box),s'.boxes[i]?=Qv bx→s.boxes[i]?=Qv bx∨Hb s'.boxes.length s'.ctr bx∨∃b0,s.boxes[i]?=Qv b0∧sameLoop s'.boxes.length s'.ctr b0 bx
 slen:s.boxes.length≤s'.boxes.length
 live:∀k,k∈s'.live→k∈t.live∧(k∈s.live∨k<s'.ctr)
 ctr:s.ctr≤s'.ctr
 ctr':s'.ctr≤t.ctr
 nd:s'.live=s.live∨s'.live.Nodup
theorem Leave.wrel {w0 w:QD} {g0 g:G} {s t s':St} (h:Leave s t s') (h0:WRel w0 g0 s) (hg:g0.le g) (hw:WRel w g t) :
    g0.le (g.cut s'.boxes.length s'.ctr g0.O)∧WRel w (g.cut s'.boxes.length s'.ctr g0.O) s':=by
  have hdB:∀i b,g0.B i=Qv b→i<s'.boxes.length:=λi b hb=>PL (h0.dom i b hb).1 h.slen;have hdL:∀k x,g0.L k=Qv x→k<s'.ctr:=λk x hx=>PL (h0.ldom k x hx) h.ctr;have hcB:∀{i b},(g.cut s'.boxes.length s'.ctr g0.O).B i=Qv b→i<s'.boxes.length∧g.B i=Qv b:=by
    intro i b hi;simp only[G.cut]at hi;split at hi
    · exact⟨by assumption,hi⟩
    · cases hi
  have hcL:∀{k x},(g.cut s'.boxes.length s'.ctr g0.O).L k=Qv x→k<s'.ctr∧g.L k=Qv x:=by
    intro i b hi;simp only[G.cut]at hi;split at hi
    · exact⟨by assumption,hi⟩
    · cases hi
  refine⟨⟨hg.w0,hg.M,λi b hb=>?_,λk x hx=>?_,λ_ h=>h,hg.S⟩,?_⟩
  · simp only[G.cut];rw[if_pos (hdB i b hb)];exact hg.B i b hb
  · simp only[G.cut];rw[if_pos (hdL k x hx)];exact hg.L k x hx
  refine {os:=hw.os,tape:=hw.tape,out:=hw.out,fz:=hw.fz,n:=hw.n,old:=hw.old,m:=hw.m,box:=?_,inj:=?_,dom:=?_,live:=?_,uniq:=?_,ldom:=?_,o:=λb hb=>hw.o b (hg.O b hb),nd:=h.nd.elim (λe=>e▸h0.nd) id,sz:=hw.sz}
  · intro i bx hi;have hlt:i<s'.boxes.length:=by
      rcases Nb i s'.boxes.length with q|q
      · exact q
      · rw[MS q]at hi;cases hi
    refine(hw.box i bx (h.pre i bx hi)).cut hlt ?_;rcases h.old i bx hi with ho|ho|⟨b0,ho,hsl⟩
    · exact(h0.box i bx ho).bd hdB hdL
    · exact ho
    · have:=(h0.box i b0 ho).bd hdB hdL
      cases b0<;>cases bx<;>simp only[sameLoop]at hsl<;>first
        |exact hsl.elim
        |(subst hsl;exact this)
        | (intro j hj
           rcases hsl _ (Mf hj)with q|q
           · obtain⟨k,hk,e⟩:=Mx q;exact e▸this k hk
           · exact q)
  · intro i j b hi hj l1 l2;exact hw.inj i j b (hcB hi).2 (hcB hj).2 (by obtain⟨x,e1,e2⟩:=l1;exact⟨x,h.pre _ _ e1,e2⟩) (by obtain⟨x,e1,e2⟩:=l2;exact⟨x,h.pre _ _ e1,e2⟩)
  · intro i b hi;have:=hw.dom i b (hcB hi).2
    exact⟨(hcB hi).1,this.2⟩
  · intro k hk;obtain⟨hkt,hks⟩:=h.live k hk;obtain⟨a,len,cap,sz,h1,h2⟩:=hw.live k hkt;have hlt:k<s'.ctr:=by
      rcases hks with hks|hks
      · obtain⟨_,_,_,_,e1,_⟩:=h0.live k hks;exact hdL k _ e1
      · exact hks
    refine⟨a,len,cap,sz,by simp only[G.cut];rw[if_pos hlt];exact h1,λh3 h4=>?_⟩;obtain⟨b,off,arr,T,fr,h5,h6,h7,h8,h9,h10⟩:=h2 h3 h4;exact⟨b,off,arr,T,fr,h5,h6,h7,h8,h9,λi hi=>h10.1 i (hcB hi).2,h10.2⟩
  · intro k k' hk hk' b o len cap sz b' o' len' cap' sz' e1 e2;exact hw.uniq k k' (h.live k hk).1 (h.live k' hk').1 b o len cap sz b' o' len' cap' sz' (hcL e1).2 (hcL e2).2
  · intro k x hx;exact(hcL hx).1
def W(ro:Option Nat):Fence:={Fence.wide with round:=ro}
def GP(P:QA)(f:FuncId):Prop:=∀args w,(callFunc f args).run P w=.ok (.enter f args) w
theorem lS {P:Program} {f:FuncId} {fn:Func} (hf:P.funcs[f]? = some fn) (hn:(fn.name == "runtime.NumGoroutine") = false) (hb:fn.body.isSome = true):GP P f:=by
 intro args w;have hb':fn.body.isNone=Qw:=by cases h:fn.body<;>simp_all
 simp only[callFunc,Sem.run_bind,run_program,Result.andThen_ok,hf,hn,hb',MJ,if_false,Sem.run_pure]
def tK(g:G)(ds:List D)(vs:Array QF):Prop:=ds.length=vs.size∧∀(i:Nat)(h1:i<ds.length)(h2:i<vs.size),R g ds[i] vs[i]
def Aj(g:G)(Q:D→St→Prop)(e:Ending)(w':QD):Prop:=∃v g' r s',Q r s'∧e=.returned v∧g.le g'∧WRel w' g' s'∧R g' r v
def aP(P:QA)(f:FuncId)(args:List D)(s:St)(Q:D→St→Prop):Prop:=
 ∀vs w g,tK g args vs→WRel w g s→GP P f∧CallsIn (W Qx) 0 P f vs w (Aj g Q)
def YSemQ(P:QA)(b:Nat)(args:List D)(s:St)(Q:D→St→Prop):Prop:=
 ∀vs w g l,g.B b=Qv l→tK g args vs→WRel w g s→∃fn tmps assign body w1,(Instr.yield l vs).run P w=.ok (.round l fn tmps assign body) w1∧RoundIn (W Qx) 0 P l fn tmps assign body w1 (Aj g Q)
def CallVQ(P:QA)(d:D)(args:List D)(s:St)(Q:D→St→Prop):Prop:=
 match d with
 |.func (.func f) fi ca=>aP P f (fi++(args++ca)) s Q
 |.yield b=>YSemQ P b args s Q
 |_=>False
def one(r:D)(s':St):D→St→Prop:=λd t=>d=r∧t=s'
def ay(P:QA)(f:FuncId)(args:List D)(s:St)(r:D)(s':St):Prop:=aP P f args s (one r s')
def cT(P:QA)(d:D)(args:List D)(s:St)(r:D)(s':St):Prop:=CallVQ P d args s (one r s')
theorem Aj.mono{g:G}{Q Q':D→St→Prop}{e:Ending}{w':QD}(h:Aj g Q e w')(hQ:∀r s',Q r s'→Q' r s'):Aj g Q' e w':=by
 obtain⟨v,g',r,s',h1,h2⟩:=h;exact⟨v,g',r,s',hQ _ _ h1,h2⟩
theorem aP.mono{P:QA}{f:FuncId}{args:List D}{s:St}{Q Q':D→St→Prop}(h:aP P f args s Q)(hQ:∀r s',Q r s'→Q' r s'):aP P f args s Q':=
 λvs w g ha hw=>⟨(h vs w g ha hw).1,(h vs w g ha hw).2.mono λ_ _ hb=>hb.mono hQ⟩
theorem YSemQ.mono{P:QA}{b:Nat}{args:List D}{s:St}{Q Q':D→St→Prop}(h:YSemQ P b args s Q)(hQ:∀r s',Q r s'→Q' r s'):YSemQ P b args s Q':=by
 intro vs w g l hl ha hw;obtain⟨fn,t,as,bo,w1,h1,h2⟩:=h vs w g l hl ha hw;refine⟨fn,t,as,bo,w1,h1,h2.1,λc cs hcs=>?_⟩;obtain⟨e,w',hR,hc⟩:=h2.2 c cs hcs;exact⟨e,w',hR.mono hQ,hc⟩
theorem CallVQ.mono{P:QA}{d:D}{args:List D}{s:St}{Q Q':D→St→Prop}(h:CallVQ P d args s Q)(hQ:∀r s',Q r s'→Q' r s'):CallVQ P d args s Q':=by
 unfold CallVQ at h⊢;split
 ·exact aP.mono h hQ
 ·exact YSemQ.mono h hQ
 ·rename_i h1 h2;split at h
  ·exact absurd rfl (h1 _ _ _)
  ·exact absurd rfl (h2 _)
  ·exact h
def dy(g:G)(e:List D)(tmps:Array QF):Prop:=e.length=tmps.size∧∀(i:Nat)(h1:i<e.length)(h2:i<tmps.size),R g e[i] tmps[i]
structure ARel (O0:Nat→Prop) (a:Act) (w:QD) (g:G) (e:List D) (s:St):Prop where
 env:dy g e a.tmps
 wr:WRel w g s
 sub:∀b,O0 b→g.O b
 df:∃bs:List Nat,bs.Nodup∧(∀b,b∈bs→g.O b∧¬O0 b)∧a.defers.map (·.target)=bs.map λb=>.collected b
def Kg:QF→D
 |.int k n=>.int k n
 |.bool b=>.bool b
 |.string s=>.str s
 |.pointer Qx=>.nilp
 |.slice Qx 0 0=>.slice .nil []
 |.nilFunc=>.nilf
 |.map Qx=>.nilm
 |_=>.junk
def cst:QF→D
 |.agg cs=>if cs.toList.all (·.oneCell')then .agg (cs.toList.map Kg)else .junk
 |v=>Kg v
theorem Bt(v:QF):R g (Kg v) v:=by
 unfold Kg;split<;>first
  |exact .junk _
  |(constructor;done)
  |exact .slice .nil [] Qx 0 0 0 0 (λ_ _=>.nilFunc) (K9 _) (K9 _) ⟨rfl,rfl,rfl⟩ (λi hi=>by simp at hi) (λh=>by simp at h) (λi j hi=>by simp at hi) (λi j hi=>by simp at hi) (λi j hi=>by simp at hi)
theorem Lm(v:QF):R g (cst v) v:=by
 unfold cst;split
 ·rename_i cs;split
  ·rename_i h;refine .agg _ _ (by simp) (λi h2=>Mn.1 h _ (by simp)) (λi h1 h2=>?_);simp only[M4,Nr];exact Bt _
  ·exact .junk _
 ·exact Bt _
def val(e:List D):QE→D
 |.tmp t=>e.getD t .junk
 |.const v=>cst v
 |.global _=>.junk
 |.func f=>.func (.func f) [] []
theorem kN{e:List D}{a:Act}(h:dy g e a.tmps)(x:QE):R g (val e x) (a.eval x):=by
 cases x with
 |tmp t =>
  simp only[val,Act.eval];by_cases ht:t<e.length
  ·have ht':t<a.tmps.size:=h.1▸ht;simp only[NC,C0 ht,Nf];rw[show a.tmps.getD t undef=a.tmps[t] by simp[Array.getD,ht']];exact h.2 t ht ht'
  ·simp only[NC,MS (Nat.le_of_not_lt ht),Option.getD_none];exact .junk _
 |const v=>exact Lm v
 |global g'=>exact .junk _
 |func f=>exact .func _ [] [] #[] #[] rfl rfl (λi h1=>by simp at h1) (λi h1=>by simp at h1)
def putD(e:List D)(dst:Option Tmp)(d:D):List D:=
 match dst with
 |some t=>e.set t d
 |none=>e
theorem dy.put{g:G}{e:List D}{a:Act}(h:dy g e a.tmps)(dst:Option Tmp){d:D}{v:QF}(hd:R g d v):dy g (putD e dst d) (a.put dst v).tmps:=by
 cases dst with
 |none=>exact h
 |some t =>
  simp only[putD,Act.put];refine⟨by simpa using h.1,λi h1 h2=>?_⟩;by_cases e':t=i
  ·subst e';simp only[Py,Array.getElem_setIfInBounds_self];exact hd
  ·rw[OT e',PB (by simpa using h2) e'];exact h.2 i (by simpa using h1) (by simpa using h2)
theorem dy.mono{g g':G}{e:List D}{t:Array QF}(h:dy g e t)(hg:g.le g'):dy g' e t:=⟨h.1,λi h1 h2=>(h.2 i h1 h2).mono hg⟩
def argsOf(ρ:QE→D)(args:Array QE):List D:=args.toList.map λx=>(ρ x).plain
def tt(P:QA)(o:Oper)(ρ:QE→D)(s:St)(d:D)(s':St):Prop:=
 evalOp P ρ s o.op=Qv (d,s')∨∃f args ts,o.op=.call {callee:=.value f,args,argTypes:=ts}∧cT P (ρ f) (argsOf ρ args) s d s'
variable {K:Act→QD→Prop}{Q:Exit→Act→QD→Prop}
theorem jo{ro:Option Nat}{a:Act}{m:Next}{w':QD}(hr:(execOp a.eval o).run P w=.ok m w')(hd:∀c,o.op≠.defer c)
  (h:o.uponIn (W ro) 0 P a K Q (.ok m w')):o.wpIn (W ro) 0 P a w K Q:=by
 refine⟨λ_ _=>trivial,?_⟩;rw[Oper.semAt_eq _ _ _ hd,hr];exact h
theorem Bw{ro:Option Nat}{ρ:QE→D}{Z:D→St→Prop}{f:QE}{args:Array QE}{ts:Array QB}{a:Act}
  (ho:o.op=.call {callee:=.value f,args,argTypes:=ts}) (hc:CallVQ P (ρ f) (argsOf ρ args) s Z) (hρ:∀x∈o.op.operands,R g (ρ x) (a.eval x)) (hw:WRel w g s)
  (hK:∀d s' v w' g',Z d s'→g.le g'→WRel w' g' s'→R g' d v→K (a.put o.dst v) w'):o.wpIn (W ro) 0 P a w K Q:=by
 obtain⟨dst,op,type,pos,after,guard⟩:=o;simp only at ho hρ hK;subst ho;have hf:R g (ρ f) (a.eval f):=hρ f (by simp[Op.operands,Call.operands]);have hargs:tK g (argsOf ρ args) (args.map a.eval):=by
  refine⟨by simp[argsOf],λi h1 h2=>?_⟩;simp only[argsOf,M4,OH,Nr];exact(hρ _ (by simp[Op.operands,Call.operands])).plain
 cases hd:ρ f<;>rw[hd]at hc hf<;>simp only[CallVQ]at hc<;>try exact hc.elim
 case func fn fi ca =>
  cases fn<;>simp only at hc<;>try exact hc.elim
  rename_i k;cases hfv:a.eval f<;>rw[hfv]at hf<;>cases hf;rename_i vf vc h1 hrf h2 hrc;have hall:tK g (fi++(argsOf ρ args++ca)) (vf++args.map a.eval++vc):=by
   refine⟨by have:=hargs.1;simp at this⊢;omega,λi x1 x2=>?_⟩;by_cases c1:i<fi.length
   ·rw[M9 c1,NI (by simp;omega),NI (by omega)];exact hrf i c1 _
   ·by_cases c2:i<fi.length+(argsOf ρ args).length
    ·rw[M1 (by omega),M9 (by omega),NI (by have:=hargs.1;simp at this⊢;omega),ON (by omega)];simp only[h1];exact hargs.2 _ _ _
    ·rw[M1 (by omega),M1 (by omega),ON (by have:=hargs.1;simp at this⊢;omega)];have e:i-fi.length-(argsOf ρ args).length=i-(vf++args.map a.eval).size:=by have:=hargs.1;simp at this⊢;omega
     simp only[e];exact hrc _ _ _
  obtain⟨hent,hsem⟩:=hc _ w g hall hw;have hr:(execOp a.eval {dst,op:=.call {callee:=.value f,args,argTypes:=ts},type,pos,after,guard}).run P w=.ok (.enter k (vf++args.map a.eval++vc)) w:=by
   simp only[execOp,resolve,hfv,Deferred.ofValue,Sem.run_bind,Sem.run_pure,Result.andThen_ok,invoke];exact hent _ _
  refine jo hr (by simp) ?_;rw[Oper.uponIn_enter];refine⟨λh=>(by cases h),?_⟩;have:=hsem
  refine⟨this.1,λcs hcs=>?_⟩;obtain⟨e,w',fr,hR,hsteps,hfr,hlv⟩:=this.2 cs (λd hd=>by cases hd);refine⟨e,w',fr,?_,hsteps,hfr,hlv⟩;obtain⟨v,g',r,s',hZ,rfl,hle,hw',hRv⟩:=hR;exact hK r s' v w' g' hZ hle hw' hRv
 case yield b =>
  cases hfv:a.eval f<;>rw[hfv]at hf<;>cases hf;rename_i l hl;obtain⟨fn,tmps,assign,body,w1,hy,hround⟩:=hc _ w g l hl hargs hw;have hr:(execOp a.eval {dst,op:=.call {callee:=.value f,args,argTypes:=ts},type,pos,after,guard}).run P w=.ok (.round l fn tmps assign body) w1:=by
   simp only[execOp,resolve,hfv,Deferred.ofValue,Sem.run_bind,Sem.run_pure,Result.andThen_ok,invoke];simpa using hy
  refine jo hr (by simp) ?_;rw[Oper.uponIn_round];refine⟨λh=>(by cases h),hround.1,λc cs hcs=>?_⟩;obtain⟨e,w',hR,hcomes⟩:=hround.2 c cs (λd hd=>by cases hd);refine⟨e,w',?_,hcomes⟩;obtain⟨v,g',r,s',hZ,rfl,hle,hw',hRv⟩:=hR;exact hK r s' v w' g' hZ hle hw' hRv
theorem AY{ro:Option Nat}{ρ:QE→D}{a:Act}
  (h:tt P o ρ s d s') (hρ:∀x∈o.op.operands,R g (ρ x) (a.eval x)) (hw:WRel w g s)
  (hK:∀v w' g',g.le g'→WRel w' g' s'→R g' d v→K (a.put o.dst v) w'):o.wpIn (W ro) 0 P a w K Q:=by
 rcases h with h|⟨f,args,ts,ho,hc⟩
 ·obtain⟨⟨nx,w',g',hr,hle,hw',hn⟩,hd⟩:=C5 hρ hw h;refine jo hr hd ?_;rcases hn with ⟨v,rfl,hv⟩|⟨rfl,rfl⟩
  ·exact hK v w' g' hle hw' hv
  ·exact hK undef w' g' hle hw' (.junk _)
 ·exact Bw ho hc hρ hw λd' s'' v w' g' hz=>by obtain⟨rfl,rfl⟩:=hz;exact hK v w' g'
end Go.V
