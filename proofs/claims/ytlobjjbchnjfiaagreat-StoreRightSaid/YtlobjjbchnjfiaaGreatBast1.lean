/-
  The value-level logic and its contracts, part 1 (texts V1, V2, V3, V4, V5, V6, V7, V8, V8b, V9, V10).
-/
import Derived.RangeFuncIn
import Derived.RangeFuncLeaves
import Derived.OrdersIn
import Derived.LoopNIn
import Derived.KernelRfl
import Derived.Laws.World
import Derived.Laws.Cells
import Derived.Below
import Derived.Laws.Entries
import Derived.Lib.AppendZerosOnto
import Derived.Laws.AppendOwn
import Derived.Laws.StructEq
import Derived.IntWalk
import Derived.Laws.MakeOwn
open List renaming getElem_map→OL,getElem?_append→Rh,getElem?_eq_none→Oz,getElem?_append_left→Ou,length_append→K5,length_singleton→OA,getElem?_set_ne→Oj,getElem?_set_self→Om,getElem_set_ne→QD,getElem_cons_zero→Pj,length_cons→K7,mem_cons→NX,nodup_cons→OZ,getElem_append_left→OS,getElem_append_right→ON,getElem_take→PJ,getElem_drop→PY,all_eq_true→N0,getElem_mem→NY,getElem?_eq_some_iff→M5,range→Ol,flatten_cons→Qz,getElem?_append_right→Oc,getElem_of_mem→Oa,getElem?_eq_getElem→K4,getElem_range→P8,length_map→OH,getD→Pi,flatten_append→RQ,eq_nil_of_length_eq_zero→O1,length_nil→L4,append_nil→Oq,size_toArray→PZ,getElem?_toArray→P6,replicate→Oi,replicate_succ→QW,getElem?_drop→Qi,getElem_set_self→Rb,mapM_cons→QR,map_cons→OJ,length_set→PU,length_eraseIdx_of_lt→Rs,getElem_eraseIdx→RJ,length_take→OD,length_eq_one_iff→Q8
open Nat renaming lt_or_ge→OU,le_refl→K6,add_assoc→PP,add_zero→P9,mul_le_mul_right→OT,zero_le→L7,succ_mul→Qx,zero_add→OF,eq_zero_or_pos→O8,div_lt_of_lt_mul→RM,mod_lt→QE,div_add_mod'→R5,add_mul→PK,mul_le_mul→Qr,mod_eq_of_lt→R6,mod_eq_sub_mod→RY,lt_of_lt_of_le→Rp
open Array renaming getElem?_eq_none→RD,getElem_setIfInBounds_ne→Re,getElem?_setIfInBounds_ne→OM,getElem_toList→O7,ext'→PR,toList_extract→RL,size_append→Q5,getElem?_append_left→PE,getElem?_eq_getElem→OI,getElem?_map→RZ,foldl_toList→Ro,toList_zipIdx→RS,getElem?_setIfInBounds_self→OO,size_setIfInBounds→P7,getElem_push_lt→Rc,getElem_push_eq→RI,getElem_modify→Ri,eraseIdxIfInBounds→RB,size_eraseIdx→Rl,getElem_eraseIdx→Q7,getElem_map→Qm,getElem_range→RT,getElem_append_left→Pv,getElem_append_right→Qs
open Bool renaming false_eq_true→On,and_eq_true→M1
open Option renaming bind_some→OY,some→Pk,getD_some→OB,map_some→Po,map_eq_some_iff→Ox,isSome_iff_exists→PB,bind_eq_some_iff→Pa
open Nat renaming reduceAdd → zA, reduceSub → zS, reduceMul → zM, reduceLeDiff → zL, reduceEqDiff → zE, reduceBEq → zB
set_option linter.all false
set_option linter.unusedSimpArgs false
set_option linter.unusedVariables false
set_option linter.unnecessarySimpa false
open Option renaming some→Sd
open Bool renaming false→Se
open Option renaming none→Sf
open Bool renaming true→Sh
open Go renaming Program→Sj,TypeId→Sk,World→Sl,Operand→Sn,Value→So
namespace Go.V
inductive Own where
 |none
 |full
 |nil
 |lab (k sz:Nat)
 deriving DecidableEq
inductive D where
 |junk
 |int (k:IntKind) (n:Int)
 |bool (b:Bool)
 |str (s:ByteArray)
 |slice (o:Own) (xs:List (List D))
 |agg (cs:List D)
 |tup (vs:List D)
 |nilp
 |box (b off:Nat)
 |pin (cs:List D)
 |func (fn:Fn) (first cap:List D)
 |nilf
 |map (b:Nat)
 |nilm
 |yield (b:Nat)
 |msl (b off len cap sz:Nat)
 |row0
 |row (b off n sz:Nat)
instance:Inhabited D:=⟨.junk⟩
structure G where
 w0:Sl
 M:Nat→Nat→Option So
 B:Nat→Option Nat
 L:Nat→Option (Option Addr×Nat×Nat×Nat)
 O:Nat→Prop
 S:Nat→Option Nat
def G.N(g:G):Nat:=g.w0.heap.size
def OwnOk(g:G):Own→Option Addr→Nat→Nat→Nat→Prop
 |.none,_,_,_,_=>True
 |.full,_,len,cap,_=>cap=len
 |.nil,a,len,cap,_=>a=.none∧len=0∧cap=0
 |.lab k z,a,len,cap,sz=>g.L k=Sd (a,len,cap,z)∧sz=z
def mE:Nat:=281474976710656
inductive R (g:G):D→So→Prop
 |junk (v:So):R g .junk v
 |int (k:IntKind) (n:Int):R g (.int k n) (.int k n)
 |bool (b:Bool):R g (.bool b) (.bool b)
 |str (s:ByteArray):R g (.str s) (.string s)
 |slice (o:Own) (xs:List (List D)) (a:Option Addr) (cap sz blk off:Nat) (val:Nat→Nat→So)
   (hc:xs.length≤cap) (hm:xs.length≤mE) (ho:OwnOk g o a xs.length cap sz)
   (hs:∀(i:Nat)(hi:i<xs.length),xs[i].length=sz)
   (ha:0<xs.length→a=Sd ⟨blk,off,Sf⟩)
   (hM:∀i j:Nat,i<xs.length→j<sz→g.M blk (off+i*sz+j)=Sd (val i j))
   (hv:∀i j:Nat,i<xs.length→j<sz→(val i j).oneCell'=Sh)
   (hR:∀(i j:Nat)(hi:i<xs.length)(hj:j<xs[i].length),R g (xs[i][j]) (val i j)) :
   R g (.slice o xs) (.slice a xs.length cap)
 |agg (cs:List D) (vs:Array So) (h:cs.length=vs.size) (hv:∀(i:Nat)(h2:i<vs.size),vs[i].oneCell'=Sh)
   (hR:∀(i:Nat)(h1:i<cs.length)(h2:i<vs.size),R g cs[i] vs[i]):R g (.agg cs) (.agg vs)
 |tup (cs:List D) (vs:Array So) (h:cs.length=vs.size)
   (hR:∀(i:Nat)(h1:i<cs.length)(h2:i<vs.size),R g cs[i] vs[i]):R g (.tup cs) (.tuple vs)
 |nilp:R g .nilp (.pointer .none)
 |box (b off blk:Nat) (h:g.B b=Sd blk):R g (.box b off) (.pointer (Sd ⟨blk,off,.none⟩))
 |pin (cs:List D) (blk off:Nat) (val:Nat→So)
   (hM:∀j:Nat,j<cs.length→g.M blk (off+j)=Sd (val j)) (hv:∀j:Nat,j<cs.length→(val j).oneCell'=Sh)
   (hR:∀(j:Nat)(hj:j<cs.length),R g cs[j] (val j)):R g (.pin cs) (.pointer (Sd ⟨blk,off,.none⟩))
 |func (fn:Fn) (fi ca:List D) (vf vc:Array So) (h1:fi.length=vf.size) (h2:ca.length=vc.size)
   (hf:∀(i:Nat)(h1:i<fi.length)(h2:i<vf.size),R g fi[i] vf[i])
   (hc:∀(i:Nat)(h1:i<ca.length)(h2:i<vc.size),R g ca[i] vc[i]):R g (.func fn fi ca) (.func fn vf vc)
 |nilf:R g .nilf .nilFunc
 |map (b r:Nat) (h:g.B b=Sd r):R g (.map b) (.map (Sd r))
 |nilm:R g .nilm (.map .none)
 |yield (b l:Nat) (h:g.B b=Sd l):R g (.yield b) (.func (.yield l) #[] #[])
 |msl (b off len cap sz blk m:Nat) (h:g.B b=Sd blk) (hS:g.S blk=Sd m) (hc:len≤cap) (hz:0<sz) (hm:off+cap*sz≤m):R g (.msl b off len cap sz) (.slice (Sd ⟨blk,off,.none⟩) len cap)
 |row0 (a:Option Addr):R g .row0 (.slice a 0 0)
 |row (b off n sz blk m cap:Nat) (h:g.B b=Sd blk) (hS:g.S blk=Sd m) (hc:n≤cap) (hn:n≤mE) (hz:0<sz) (hm:off+cap*sz≤m):R g (.row b off n sz) (.slice (Sd ⟨blk,off,.none⟩) n cap)
structure G.le (g g':G):Prop where
 w0:g'.w0=g.w0
 M:∀b o v,g.M b o=Sd v→g'.M b o=Sd v
 B:∀i b,g.B i=Sd b→g'.B i=Sd b
 L:∀k x,g.L k=Sd x→g'.L k=Sd x
 O:∀b,g.O b→g'.O b
 S:∀b n,g.S b=Sd n→g'.S b=Sd n
theorem G.le.refl(g:G):g.le g:=⟨rfl,λ_ _ _ h=>h,λ_ _ h=>h,λ_ _ h=>h,λ_ h=>h,λ_ _ h=>h⟩
theorem G.le.trans{a b c:G}(h:a.le b)(k:b.le c):a.le c:=
 ⟨k.w0.trans h.w0,λ_ _ _ x=>k.M _ _ _ (h.M _ _ _ x),λ_ _ x=>k.B _ _ (h.B _ _ x),λ_ _ x=>k.L _ _ (h.L _ _ x),λ_ x=>k.O _ (h.O _ x),λ_ _ x=>k.S _ _ (h.S _ _ x)⟩
theorem R.mono3{g g':G}{d:D}{v:So}(h:R g d v)(gM:∀b o v,g.M b o=Sd v→g'.M b o=Sd v)(gB:∀i b,g.B i=Sd b→g'.B i=Sd b)(gL:∀k x,g.L k=Sd x→g'.L k=Sd x)(gS:∀b n,g.S b=Sd n→g'.S b=Sd n):R g' d v:=by
 induction h with
 |junk v=>exact .junk v
 |int k n=>exact .int k n
 |bool b=>exact .bool b
 |str s=>exact .str s
 |slice o xs a cap sz blk off val hc hm ho hs ha hM hv hR ih =>
  exact .slice o xs a cap sz blk off val hc hm (by cases o<;>simp only[OwnOk]at ho⊢ <;> first|exact ho|exact⟨gL _ _ ho.1,ho.2⟩) hs ha (λi j hi hj=>gM _ _ _ (hM i j hi hj)) hv ih
 |agg cs vs h hv hR ih=>exact .agg cs vs h hv ih
 |tup cs vs h hR ih=>exact .tup cs vs h ih
 |nilp=>exact .nilp
 |box b off blk h=>exact .box b off blk (gB _ _ h)
 |pin cs blk off val hM hv hR ih=>exact .pin cs blk off val (λj hj=>gM _ _ _ (hM j hj)) hv ih
 |func fn fi ca vf vc h1 h2 hf hc ihf ihc=>exact .func fn fi ca vf vc h1 h2 ihf ihc
 |nilf=>exact .nilf
 |map b r h=>exact .map b r (gB _ _ h)
 |nilm=>exact .nilm
 |yield b l h=>exact .yield b l (gB _ _ h)
 |msl b off len cap sz blk m h hS hc hz hm=>exact .msl b off len cap sz blk m (gB _ _ h) (gS _ _ hS) hc hz hm
 |row0 a=>exact .row0 a
 |row b off n sz blk m cap h hS hc hn hz hm=>exact .row b off n sz blk m cap (gB _ _ h) (gS _ _ hS) hc hn hz hm
theorem R.mono{g g':G}{d:D}{v:So}(h:R g d v)(hg:g.le g'):R g' d v:=h.mono3 hg.M hg.B hg.L hg.S
inductive Box where
 |dead
 |cells (cs:List D)
 |map (es:List (D×D))
 |mapX (es:List (D×D)) (bs:List Nat) (c:Nat)
 |iter (mb c:Nat) (seen:List Nat)
 |loop (ps:List Tmp) (assign body:Code) (e:List D) (st:LoopState) (pend:Option Code)
structure St where
 boxes:List Box
 live:List Nat
 ctr:Nat
def jC(w:Sl)(g:G)(i:Nat):Box→Prop
 |.dead=>True
 |.cells cs=>∃b arr T fr,g.B i=Sd b∧w.heap[b]?=Sd (.cells arr T fr)∧cs.length≤arr.size ∧
   (∀(j:Nat)(h1:j<cs.length)(h2:j<arr.size),R g cs[j] arr[j]∧arr[j].oneCell'=Sh)∧(∀o,g.M b o=Sf)∧fr=(0,0)
 |.map es=>∃b ents clock,g.B i=Sd b∧w.heap[b]?=Sd (.map ents clock)∧es.length=ents.size ∧
   ∀(j:Nat)(h1:j<es.length)(h2:j<ents.size),R g es[j].1 ents[j].key∧R g es[j].2 ents[j].val∧ents[j].born<clock∧∀(k:Nat)(h3:k<ents.size),ents[k].born=ents[j].born→k=j
 |.mapX es bs c=>∃b ents clock,g.B i=Sd b∧w.heap[b]?=Sd (.map ents clock)∧(es.length=ents.size∧bs=ents.toList.map (·.born)∧clock=c) ∧
   ∀(j:Nat)(h1:j<es.length)(h2:j<ents.size),R g es[j].1 ents[j].key∧R g es[j].2 ents[j].val∧ents[j].born<clock∧∀(k:Nat)(h3:k<ents.size),ents[k].born=ents[j].born→k=j
 |.iter mb c seen=>∃r m,g.B i=Sd r∧w.heap[r]?=Sd (.mapIter (Sd m) c seen.toArray c)∧g.B mb=Sd m
 |.loop ps assign body e st pend=>∃l fn tmps df,g.B i=Sd l∧w.heap[l]?=Sd (.loop {state:=st,pending:=pend,fn,tmps,params:=ps.toArray,assign,body,defers:=df}) ∧
   e.length=tmps.size∧∀(j:Nat)(h1:j<e.length)(h2:j<tmps.size),R g e[j] tmps[j]
def xO(w:Sl)(g:G)(k:Nat):Prop:=
 ∃a len cap sz,g.L k=Sd (a,len,cap,sz) ∧
  (len<cap→0<sz→∃b off arr T fr,a=Sd ⟨b,off,Sf⟩∧g.N≤b∧w.heap[b]?=Sd (.cells arr T fr)∧off+cap*sz≤arr.size ∧
   (∀o,off+len*sz≤o→g.M b o=Sf)∧(∀i,g.B i≠Sd b)∧fr=(0,0))
def Live1(s:St)(i:Nat):Prop:=∃bx,s.boxes[i]?=Sd bx∧bx≠.dead
structure WRel (w:Sl) (g:G) (s:St):Prop where
 os:w.os=g.w0.os
 tape:w.tape=g.w0.tape
 out:w.output=g.w0.output
 fz:∀a,a.block<g.N→w.frozen? a=g.w0.frozen? a
 n:g.N≤w.heap.size
 old:∀b,b<g.N→w.heap[b]?=g.w0.heap[b]?
 m:∀b o v,g.M b o=Sd v→w.cell? ⟨b,o,Sf⟩=Sd v
 box:∀i bx,s.boxes[i]?=Sd bx→jC w g i bx
 inj:∀i j b,g.B i=Sd b→g.B j=Sd b→Live1 s i→Live1 s j→i=j
 dom:∀i b,g.B i=Sd b→i<s.boxes.length∧g.N≤b∧b<w.heap.size
 live:∀k,k∈s.live→xO w g k
 uniq:∀k k',k∈s.live→k'∈s.live→∀b o len cap sz b' o' len' cap' sz',g.L k=Sd (Sd ⟨b,o,Sf⟩,len,cap,sz)→g.L k'=Sd (Sd ⟨b',o',Sf⟩,len',cap',sz') →
  len<cap→len'<cap'→0<sz→0<sz'→b=b'→k=k'
 ldom:∀k x,g.L k=Sd x→k<s.ctr
 o:∀b,g.O b→g.N≤b∧w.heap[b]?=Sd (.deferred (Sd []))
 nd:s.live.Nodup
 sz:∀b n,g.S b=Sd n→∃arr T fr,w.heap[b]?=Sd (.cells arr T fr)∧arr.size=n
def D.plain1:D→D
 |.slice _ xs=>.slice .none xs
 |d=>d
def D.plain:D→D
 |.slice _ xs=>.slice .none xs
 |.agg cs=>.agg (cs.map D.plain1)
 |d=>d
theorem R.plain1{g:G}{d:D}{v:So}(h:R g d v):R g d.plain1 v:=by
 cases h with
 |slice o xs a cap sz blk off val hc hm ho hs ha hM hv hR=>exact .slice .none xs a cap sz blk off val hc hm trivial hs ha hM hv hR
 |_=>simp only[D.plain1];constructor<;>assumption
def D.keep1:D→D
 |.slice .nil xs=>.slice .nil xs
 |.slice _ xs=>.slice .none xs
 |d=>d
theorem R.keep1{g:G}{d:D}{v:So}(h:R g d v):R g d.keep1 v:=by
 cases h with
 |slice o xs a cap sz blk off val hc hm ho hs ha hM hv hR =>
  cases o with
  |nil=>exact .slice .nil xs a cap sz blk off val hc hm ho hs ha hM hv hR
  |_=>exact .slice .none xs a cap sz blk off val hc hm trivial hs ha hM hv hR
 |_=>simp only[D.keep1];constructor<;>assumption
theorem R.plain{g:G}{d:D}{v:So}(h:R g d v):R g d.plain v:=by
 cases h with
 |slice o xs a cap sz blk off val hc hm ho hs ha hM hv hR=>exact .slice .none xs a cap sz blk off val hc hm trivial hs ha hM hv hR
 |agg cs vs h hv hR=>exact .agg _ vs (by simpa using h) hv (λi h1 h2=>by simp only[OL];exact(hR i (by simpa using h1) h2).plain1)
 |_=>simp only[D.plain];constructor<;>assumption
theorem WRel.drew{w:Sl}{g:G}{s:St}(h:WRel w g s):WRel w.drew g s:=
 ⟨h.os,h.tape,h.out,h.fz,h.n,h.old,h.m,h.box,h.inj,h.dom,h.live,h.uniq,h.ldom,h.o,h.nd,h.sz⟩
def Obj.plainCells:Obj→Bool
 |.cells _ _ fr=>fr.1 == 0&&fr.2 == 0
 |_=>Sh
variable {w:Sl}{b:Nat}
theorem cH{o:Obj}{x:Obj}(h:w.heap[b]?=Sd x):(w.alloc o).heap[b]?=Sd x:=by
 have:b<w.heap.size:=by
  rcases OU b w.heap.size with h'|h'
  ·exact h'
  ·rw[RD h']at h;cases h
 show(w.heap.push o)[b]?=_;rw[Array.getElem?_push,if_neg (by omega)];exact h
theorem bB(w:Sl)(o:Obj):(w.alloc o).heap[w.heap.size]?=Sd o:=by
 show(w.heap.push o)[w.heap.size]?=_;simp
theorem bU{x:Obj}(h:w.heap[b]?=Sd x):b<w.heap.size:=by
 rcases OU b w.heap.size with h'|h'
 ·exact h'
 ·rw[RD h']at h;cases h
theorem jC.alloc{w:Sl}{g:G}{i:Nat}{bx:Box}(o:Obj)(h:jC w g i bx):jC (w.alloc o) g i bx:=by
 cases bx with
 |dead=>trivial
 |cells cs=>obtain⟨b,arr,T,fr,h1,h2,h3⟩:=h;exact⟨b,arr,T,fr,h1,cH h2,h3⟩
 |map es=>obtain⟨b,en,c,h1,h2,h3⟩:=h;exact⟨b,en,c,h1,cH h2,h3⟩
 |mapX es bs k=>obtain⟨b,en,c,h1,h2,h3⟩:=h;exact⟨b,en,c,h1,cH h2,h3⟩
 |iter mb k sn=>obtain⟨r,m,h1,h2,h3⟩:=h;exact⟨r,m,h1,cH h2,h3⟩
 |loop ps as bo e st pe=>obtain⟨l,fn,t,df,h1,h2,h3⟩:=h;exact⟨l,fn,t,df,h1,cH h2,h3⟩
theorem xO.alloc{w:Sl}{g:G}{k:Nat}(o:Obj)(h:xO w g k):xO (w.alloc o) g k:=by
 obtain⟨a,len,cap,sz,h1,h2⟩:=h;refine⟨a,len,cap,sz,h1,λh3 h4=>?_⟩;obtain⟨b,off,arr,T,fr,h5,h6,h7,h8⟩:=h2 h3 h4;exact⟨b,off,arr,T,fr,h5,h6,cH h7,h8⟩
variable {v:So}
theorem xi{a:Addr}(h:w.cell? a=Sd v):a.block<w.heap.size:=World.block_lt_of_cell? _ _ h
theorem WRel.alloc{w:Sl}{g:G}{s:St}(h:WRel w g s)(o:Obj)(ho:Obj.plainCells o=Sh):WRel (w.alloc o) g s where
 os:=h.os
 tape:=h.tape
 out:=h.out
 fz:=λa ha=>by rw[World.frozen?_alloc_old _ _ _ (by have:=h.n;omega)];exact h.fz a ha
 n:=by have:=h.n;simp;omega
 old:=λb hb=>by rw[Go.RowKit.Below.heap_alloc _ _ _ (by have:=h.n;omega)];exact h.old b hb
 m:=λb o' v hm=>by
  have:=h.m b o' v hm
  rw[World.cell?_alloc_lt _ _ _ (xi this)];exact this
 box:=λi bx hi=>(h.box i bx hi).alloc o
 inj:=h.inj
 dom:=λi b hi=>by have:=h.dom i b hi;simp;omega
 live:=λk hk=>(h.live k hk).alloc o
 uniq:=h.uniq
 ldom:=h.ldom
 o:=λb hb=>⟨(h.o b hb).1,cH (h.o b hb).2⟩
 nd:=h.nd
 sz:=λb n hb=>by obtain⟨arr,T,fr,h1,h2⟩:=h.sz b n hb;exact⟨arr,T,fr,cH h1,h2⟩
def G.addB(g:G)(i b:Nat):G:={g with B:=λj=>if j=i then Sd b else g.B j}
def G.addM(g:G)(b:Nat)(f:Nat→Option So):G:={g with M:=λc o=>if c=b then f o else g.M c o}
def G.addL(g:G)(k:Nat)(x:Option Addr×Nat×Nat×Nat):G:={g with L:=λj=>if j=k then Sd x else g.L j}
variable {g:G}{s:St}
theorem rU(h:WRel w g s){b:Nat}(hb:w.heap.size≤b)(o:Nat):g.M b o=Sf:=by
 cases hm:g.M b o with
 |none=>rfl
 |some v=>have:=xi (h.m b o v hm);simp at this;omega
theorem jC.mono{w:Sl}{g g':G}{i:Nat}{bx:Box}(h:jC w g i bx)(hg:g.le g')(hM:∀b,g.B i=Sd b→(∀o,g.M b o=Sf)→∀o,g'.M b o=Sf):jC w g' i bx:=by
 cases bx with
 |dead=>trivial
 |cells cs=>obtain⟨b,arr,T,fr,h1,h2,h3,h4,h5⟩:=h;exact⟨b,arr,T,fr,hg.B _ _ h1,h2,h3,λj x y=>⟨(h4 j x y).1.mono hg,(h4 j x y).2⟩,hM b h1 h5.1,h5.2⟩
 |map es=>obtain⟨b,en,c,h1,h2,h3,h4⟩:=h;exact⟨b,en,c,hg.B _ _ h1,h2,h3,λj x y=>⟨(h4 j x y).1.mono hg,(h4 j x y).2.1.mono hg,(h4 j x y).2.2⟩⟩
 |mapX es bs k=>obtain⟨b,en,c,h1,h2,h3,h4⟩:=h;exact⟨b,en,c,hg.B _ _ h1,h2,h3,λj x y=>⟨(h4 j x y).1.mono hg,(h4 j x y).2.1.mono hg,(h4 j x y).2.2⟩⟩
 |iter mb k sn=>obtain⟨r,m,h1,h2,h3⟩:=h;exact⟨r,m,hg.B _ _ h1,h2,hg.B _ _ h3⟩
 |loop ps as bo e st pe=>obtain⟨l,fn,t,df,h1,h2,h3,h4⟩:=h;exact⟨l,fn,t,df,hg.B _ _ h1,h2,h3,λj x y=>(h4 j x y).mono hg⟩
theorem jP{i:Nat}(hi:g.B i=Sf):g.le (g.addB i b):=
 ⟨rfl,λ_ _ _ h=>h,λj c h=>by simp only[G.addB];split<;>simp_all,λ_ _ h=>h,λ_ h=>h,λ_ _ h=>h⟩
theorem kv(h:WRel w g s){i:Nat}(hi:s.boxes.length≤i):g.B i=Sf:=by
 cases hb:g.B i with
 |none=>rfl
 |some b=>have:=h.dom i b hb;omega
theorem WRel.newBox{w:Sl}{g:G}{s:St}(h:WRel w g s)(o:Obj)(ho:Obj.plainCells o=Sh)(bx:Box)
  (hbx:jC (w.alloc o) (g.addB s.boxes.length w.heap.size) s.boxes.length bx) :
  g.le (g.addB s.boxes.length w.heap.size)∧WRel (w.alloc o) (g.addB s.boxes.length w.heap.size) {s with boxes:=s.boxes++[bx]}:=by
 have hn:g.B s.boxes.length=Sf:=kv h (K6 _);have hle:g.le (g.addB s.boxes.length w.heap.size):=jP hn;have h':=h.alloc o ho;refine⟨hle,?_⟩;refine {os:=h'.os,tape:=h'.tape,out:=h'.out,fz:=h'.fz,n:=h'.n,old:=h'.old,m:=h'.m,box:=?_,inj:=?_,dom:=?_,live:=?_,uniq:=h'.uniq,ldom:=h'.ldom,o:=h'.o,nd:=h'.nd,sz:=h'.sz}
 ·intro i b hi;rw[Rh]at hi;split at hi
  ·exact(h'.box i b hi).mono hle λ_ _ h=>h
  ·rename_i hlt;have:i=s.boxes.length:=by
    rcases OU s.boxes.length i with hgt|hge
    ·rw[Oz (by simp;omega)]at hi;cases hi
    ·omega
   subst this;simp at hi;subst hi;exact hbx
 ·intro i j b hi hj l1 l2;simp only[G.addB]at hi hj;split at hi<;>split at hj
  ·omega
  ·cases hi;have:=h.dom j _ hj;omega
  ·cases hj;have:=h.dom i _ hi;omega
  ·have d1:=(h.dom i _ hi).1;have d2:=(h.dom j _ hj).1;refine h.inj i j b hi hj ?_ ?_
   ·obtain⟨bx,e1,e2⟩:=l1;rw[Ou d1]at e1;exact⟨bx,e1,e2⟩
   ·obtain⟨bx,e1,e2⟩:=l2;rw[Ou d2]at e1;exact⟨bx,e1,e2⟩
 ·intro i b hi;simp only[G.addB]at hi;split at hi
  ·cases hi;have:=h.n;subst i;simp only[K5,OA,World.size_alloc];refine⟨by omega,?_,by omega⟩;exact h.n
  ·have:=h.dom i b hi;simp only[K5,OA,World.size_alloc];refine⟨by omega,this.2.1,by omega⟩
 ·intro k hk;obtain⟨a,len,cap,sz,h1,h2⟩:=h.live k hk;refine⟨a,len,cap,sz,h1,λh3 h4=>?_⟩;obtain⟨b,off,arr,T,fr,h5,h6,h7,h8,h9,h10⟩:=h2 h3 h4;refine⟨b,off,arr,T,fr,h5,h6,cH h7,h8,h9,λi hi=>?_,h10.2⟩;simp only[G.addB]at hi;split at hi
  ·cases hi;have:=bU h7;omega
  ·exact h10.1 i hi
theorem KF(h:WRel w g s){b:Nat}(hb:w.heap.size≤b)(f:Nat→Option So):g.le (g.addM b f):=
 ⟨rfl,λc o v hm=>by
  simp only[G.addM];split
  ·subst c;rw[rU h hb]at hm;cases hm
  ·exact hm,λ_ _ h=>h,λ_ _ h=>h,λ_ h=>h,λ_ _ h=>h⟩
theorem WRel.newCells{w:Sl}{g:G}{s:St}(h:WRel w g s)(arr:Array So)(T:Sk)(f:Nat→Option So)(hf:∀o v,f o=Sd v→arr[o]?=Sd v) :
  g.le (g.addM w.heap.size f)∧WRel (w.alloc (.cells arr T)) (g.addM w.heap.size f) s:=by
 have hle:=KF h (K6 _) f;have h':=h.alloc (.cells arr T) rfl;refine⟨hle,?_⟩;refine {os:=h'.os,tape:=h'.tape,out:=h'.out,fz:=h'.fz,n:=h'.n,old:=h'.old,m:=?_,box:=?_,inj:=h'.inj,dom:=h'.dom,live:=?_,uniq:=h'.uniq,ldom:=h'.ldom,o:=h'.o,nd:=h'.nd,sz:=h'.sz}
 ·intro b o v hm;simp only[G.addM]at hm;split at hm
  ·subst b;rw[World.cell?_alloc_new];exact hf o v hm
  ·exact h'.m b o v hm
 ·intro i bx hi;refine(h'.box i bx hi).mono hle λb hb hn o=>?_;have:=h.dom i b hb
  simp only[G.addM];rw[if_neg (by omega)];exact hn o
 ·intro k hk;obtain⟨a,len,cap,sz,h1,h2⟩:=h.live k hk;refine⟨a,len,cap,sz,h1,λh3 h4=>?_⟩;obtain⟨b,off,arr,T,fr,h5,h6,h7,h8,h9,h10⟩:=h2 h3 h4;refine⟨b,off,arr,T,fr,h5,h6,cH h7,h8,λo ho=>?_,h10⟩;simp only[G.addM];rw[if_neg (by have:=bU h7;omega)];exact h9 o ho
theorem KG(h:WRel w g s){k:Nat}(hk:s.ctr≤k)(x:Option Addr×Nat×Nat×Nat):g.le (g.addL k x):=
 ⟨rfl,λ_ _ _ h=>h,λ_ _ h=>h,λj y hj=>by
  simp only[G.addL];split
  ·subst j;have:=h.ldom _ _ hj;omega
  ·exact hj,λ_ h=>h,λ_ _ h=>h⟩
def setR(cs:List D)(off:Nat):List D→List D
 | []=>cs
 |d::ds=>setR (cs.set off d) (off+1) ds
theorem bb{a:Addr}(h:b≠a.block):(w.setCell a v).heap[b]?=w.heap[b]?:=Go.RowKit.Below.heap_setCell _ _ _ _ h
variable {T:Sk}
theorem fa{off:Nat}{arr:Array So}{fr:Nat×Nat}(h:w.heap[b]?=Sd (.cells arr T fr)) :
  (w.setCell ⟨b,off,Sf⟩ v).heap[b]?=Sd (.cells (arr.setIfInBounds off v) T fr):=by
 simp[World.setCell,Array.getElem?_modify,h]
theorem qn{arr:Array So}{fr:Nat×Nat}(hh:w.heap[b]?=Sd (.cells arr T fr))(hf:fr=(0,0))(o:Nat):w.frozen? ⟨b,o,Sf⟩=Se:=by
 subst hf;simp[World.frozen?,hh]
theorem sK(h:∀b n,g.S b=Sd n→∃arr T fr,w.heap[b]?=Sd (.cells arr T fr)∧arr.size=n)(c off:Nat)(v:So) :
  ∀b n,g.S b=Sd n→∃arr T fr,(w.setCell ⟨c,off,Sf⟩ v).heap[b]?=Sd (.cells arr T fr)∧arr.size=n:=by
 intro b n hb;obtain⟨arr,T,fr,h1,h2⟩:=h b n hb;by_cases e:b=c
 ·subst e;exact⟨_,T,fr,fa h1,by simpa using h2⟩
 ·exact⟨arr,T,fr,by rw[bb (by simpa using e)];exact h1,h2⟩
theorem Live1.of_set{s:St}{i j:Nat}{bx:Box}{L:List Nat}{c:Nat}(h:Live1 ⟨s.boxes.set i bx,L,c⟩ j)(hi:Live1 s i):Live1 s j:=by
 obtain⟨x,h1,h2⟩:=h;by_cases e:j=i
 ·subst e;exact hi
 ·simp only at h1;rw[Oj (by omega)]at h1;exact⟨x,h1,h2⟩
theorem WRel.setFree{w:Sl}{g:G}{s:St}(h:WRel w g s){b off:Nat}{v:So}{arr:Array So}{T:Sk}{fr:Nat×Nat}
  (hb:g.N≤b) (hh:w.heap[b]?=Sd (.cells arr T fr)) (hM:g.M b off=Sf) (hB:∀i,Live1 s i→g.B i≠Sd b) :
  WRel (w.setCell ⟨b,off,Sf⟩ v) g s where
 os:=h.os
 tape:=h.tape
 out:=h.out
 fz:=λa ha=>by rw[World.frozen?_setCell];exact h.fz a ha
 n:=by simpa using h.n
 old:=λc hc=>by rw[bb (by simp;omega)];exact h.old c hc
 m:=λc o u hm=>by
  rw[World.cell?_setCell_other]
  ·exact h.m c o u hm
  ·intro e;cases e;rw[hM]at hm;cases hm
 box:=λi bx hi=>by
  have:=h.box i bx hi
  by_cases hdead:bx=.dead
  ·subst hdead;trivial
  have hB:=hB i ⟨_,hi,hdead⟩;cases bx with
  |dead=>trivial
  |cells cs=>obtain⟨c,ar,T',fr',h1,h2,h3⟩:=this;exact⟨c,ar,T',fr',h1,by rw[bb (by intro e;exact hB (by rw[h1,e]))];exact h2,h3⟩
  |map es=>obtain⟨c,en,k,h1,h2,h3⟩:=this;exact⟨c,en,k,h1,by rw[bb (by intro e;exact hB (by rw[h1,e]))];exact h2,h3⟩
  |mapX es bs q=>obtain⟨c,en,k,h1,h2,h3⟩:=this;exact⟨c,en,k,h1,by rw[bb (by intro e;exact hB (by rw[h1,e]))];exact h2,h3⟩
  |iter mb q sn=>obtain⟨r,m,h1,h2,h3⟩:=this;exact⟨r,m,h1,by rw[bb (by intro e;exact hB (by rw[h1,e]))];exact h2,h3⟩
  |loop ps as bo e st pe=>obtain⟨l,fn,t,df,h1,h2,h3⟩:=this;exact⟨l,fn,t,df,h1,by rw[bb (by intro e;exact hB (by rw[h1,e]))];exact h2,h3⟩
 inj:=h.inj
 dom:=λi c hi=>by have:=h.dom i c hi;simpa using this
 live:=λk hk=>by
  obtain⟨a,len,cap,sz,h1,h2⟩:=h.live k hk;refine⟨a,len,cap,sz,h1,λh3 h4=>?_⟩;obtain⟨c,of,ar,T',fr',h5,h6,h7,h8,h9⟩:=h2 h3 h4;by_cases e:c=b
  ·subst e;rw[hh]at h7;cases h7;exact⟨c,of,_,T,fr,h5,h6,fa hh,by simpa using h8,h9⟩
  ·exact⟨c,of,ar,T',fr',h5,h6,by rw[bb (by simpa using e)];exact h7,h8,h9⟩
 uniq:=h.uniq
 ldom:=h.ldom
 o:=λc hc=>⟨(h.o c hc).1,by rw[bb (by intro e;simp only at e;subst e;have:=(h.o _ hc).2;rw[hh]at this;cases this)];exact(h.o c hc).2⟩
 nd:=h.nd
 sz:=sK h.sz _ _ _
theorem WRel.setBox{w:Sl}{g:G}{s:St}(h:WRel w g s){i b off:Nat}{v:So}{d:D}{cs:List D}
  (hi:s.boxes[i]?=Sd (.cells cs)) (hb:g.B i=Sd b) (ho:off<cs.length) (hd:R g d v) (hv:v.oneCell'=Sh) :
  w.cell? ⟨b,off,Sf⟩≠Sf∧w.frozen? ⟨b,off,Sf⟩=Se∧WRel (w.setCell ⟨b,off,Sf⟩ v) g {s with boxes:=s.boxes.set i (.cells (cs.set off d))}:=by
 obtain⟨b',arr,T,fr,h1,h2,h3,h4,h5⟩:=h.box i _ hi;rw[hb]at h1;cases h1;have hli:Live1 s i:=⟨_,hi,by simp⟩;have hN:=(h.dom i b hb).2.1;refine⟨by simp[World.cell?,h2];omega,qn h2 h5.2 off,?_⟩;refine {os:=h.os,tape:=h.tape,out:=h.out,fz:=λa ha=>by rw[World.frozen?_setCell];exact h.fz a ha,n:=by simpa using h.n,old:=?_,m:=?_,box:=?_,inj:=λj k c h1 h2 l1 l2=>h.inj j k c h1 h2 (l1.of_set hli) (l2.of_set hli),dom:=?_,live:=?_,uniq:=h.uniq,ldom:=h.ldom,o:=λc hc=>⟨(h.o c hc).1,by rw[bb (by intro e;simp only at e;subst e;have:=(h.o _ hc).2;rw[h2]at this;cases this)];exact(h.o c hc).2⟩,nd:=h.nd,sz:=sK h.sz _ _ _}
 ·intro c hc;rw[bb (by simp;omega)];exact h.old c hc
 ·intro c o u hm;rw[World.cell?_setCell_other]
  ·exact h.m c o u hm
  ·intro e;cases e;rw[h5.1]at hm;cases hm
 ·intro j bx hj;by_cases e:j=i
  ·subst e;have hlt:j<s.boxes.length:=by
    rcases OU j s.boxes.length with q|q
    ·exact q
    ·rw[Oz q]at hi;cases hi
   rw[Om hlt]at hj;cases hj;refine⟨b,arr.setIfInBounds off v,T,fr,hb,fa h2,by simpa using h3,λq q1 q2=>?_,h5⟩;by_cases eq:q=off
   ·subst eq;simp[List.getElem_set];exact⟨hd,hv⟩
   ·have:=h4 q (by simpa using q1) (by simpa using q2)
    rw[QD (by omega),Re (by simpa using q2) (by omega)];exact this
  ·rw[Oj (by omega)]at hj;by_cases hdead:bx=.dead
   ·subst hdead;trivial
   have hne:∀c,g.B j=Sd c→c≠b:=λc hc e'=>e (h.inj j i b (by rw[hc,e']) hb ⟨_,hj,hdead⟩ hli);have:=h.box j bx hj
   cases bx with
   |dead=>trivial
   |cells cs=>obtain⟨c,ar,T',fr',h1,h2,h3⟩:=this;exact⟨c,ar,T',fr',h1,by rw[bb (hne c h1)];exact h2,h3⟩
   |map es=>obtain⟨c,en,k,h1,h2,h3⟩:=this;exact⟨c,en,k,h1,by rw[bb (hne c h1)];exact h2,h3⟩
   |mapX es bs q=>obtain⟨c,en,k,h1,h2,h3⟩:=this;exact⟨c,en,k,h1,by rw[bb (hne c h1)];exact h2,h3⟩
   |iter mb q sn=>obtain⟨r,m,h1,h2,h3⟩:=this;exact⟨r,m,h1,by rw[bb (hne r h1)];exact h2,h3⟩
   |loop ps as bo e st pe=>obtain⟨l,fn,t,df,h1,h2,h3⟩:=this;exact⟨l,fn,t,df,h1,by rw[bb (hne l h1)];exact h2,h3⟩
 ·intro j c hj;have:=h.dom j c hj;simpa using this
 ·intro k hk;obtain⟨a,len,cap,sz,h1,h2'⟩:=h.live k hk;refine⟨a,len,cap,sz,h1,λh3 h4=>?_⟩;obtain⟨c,of,ar,T',fr',h5,h6,h7,h8,h9,h10⟩:=h2' h3 h4;exact⟨c,of,ar,T',fr',h5,h6,by rw[bb (λe=>h10.1 i (by rw[hb,e]))];exact h7,h8,h9,h10⟩
theorem WRel.storeBox{P:Sj}{g:G}:∀(ds:List D)(vs:List So)(w:Sl)(s:St)(i b off k:Nat)(cs:List D),WRel w g s →
  s.boxes[i]?=Sd (.cells cs)→g.B i=Sd b→off+k+ds.length≤cs.length→ds.length=vs.length →
  (∀(j:Nat)(h1:j<ds.length)(h2:j<vs.length),R g ds[j] vs[j]∧vs[j].oneCell'=Sh) →
  ∃w',(storeCells ⟨b,off,Sf⟩ vs k).run P w=.ok () w'∧WRel w' g {s with boxes:=s.boxes.set i (.cells (setR cs (off+k) ds))}:=by
 intro ds;induction ds with
 |nil =>
  intro vs w s i b off k cs h hi hb ho hl hR;cases vs with
  |nil =>
   refine⟨w,rfl,?_⟩;have:s.boxes.set i (.cells cs)=s.boxes:=by
    apply List.ext_getElem?;intro j;by_cases e:j=i
    ·subst e;have hlt:j<s.boxes.length:=by
      rcases OU j s.boxes.length with q|q
      ·exact q
      ·rw[Oz q]at hi;cases hi
     rw[Om hlt,hi]
    ·rw[Oj (by omega)]
   simp only[setR,this];exact h
  |cons v vs=>simp at hl
 |cons d ds ih =>
  intro vs w s i b off k cs h hi hb ho hl hR;cases vs with
  |nil=>simp at hl
  |cons v vs =>
   have h0:=hR 0 (by simp) (by simp);simp only[Pj]at h0;obtain⟨hc,hf,hW⟩:=h.setBox (off:=off+k) hi hb (by simp at ho;omega) h0.1 h0.2;have hlt:i<s.boxes.length:=by
    rcases OU i s.boxes.length with q|q
    ·exact q
    ·rw[Oz q]at hi;cases hi
   obtain⟨w',hr,hw'⟩:=ih vs (w.setCell ⟨b,off+k,Sf⟩ v) _ i b off (k+1) (cs.set (off+k) d) hW (by simp[hlt]) hb (by simp at ho⊢;omega) (by simpa using hl)
    (λj h1 h2=>hR (j+1) (by simpa using h1) (by simpa using h2))
   refine⟨w',?_,?_⟩
   ·simp only[storeCells,Sem.run_bind];have hadd:(Addr.mk b off Sf).add k=⟨b,off+k,Sf⟩:=by
     unfold Addr.add;split
     ·subst k;rfl
     ·rfl
    rw[hadd,run_store P w _ v .plain h0.2];cases hcc:w.cell? ⟨b,off+k,Sf⟩with
    |none=>exact absurd hcc hc
    |some u=>simp only[hf,On,if_false,Result.andThen_ok];exact hr
   ·simpa[setR,List.set_set,PP]using hw'
theorem WRel.storeFree{P:Sj}{g:G}{s:St}{b off:Nat}(hb:g.N≤b)(hB:∀i,Live1 s i→g.B i≠Sd b):∀(vs:List So)(w:Sl)(k:Nat)(arr:Array So)(T:Sk)(fr:Nat×Nat),fr=(0,0)→WRel w g s →
  w.heap[b]?=Sd (.cells arr T fr)→off+k+vs.length≤arr.size→(∀j,j<vs.length→g.M b (off+k+j)=Sf)→(∀v,v∈vs→v.oneCell'=Sh) →
  ∃w' arr',(storeCells ⟨b,off,Sf⟩ vs k).run P w=.ok () w'∧WRel w' g s∧w'.heap[b]?=Sd (.cells arr' T fr)∧arr'.size=arr.size ∧
   (∀j(hj:j<vs.length),arr'[off+k+j]?=Sd vs[j])∧(∀o,o<off+k→arr'[o]?=arr[o]?):=by
 intro vs;induction vs with
 |nil =>
  intro w k arr T fr hf0 h hh ho hM hv;exact⟨w,arr,rfl,h,hh,rfl,λj hj=>by simp at hj,λ_ _=>rfl⟩
 |cons v vs ih =>
  intro w k arr T fr hf0 h hh ho hM hv;simp only[K7]at ho hM;have hlt:off+k<arr.size:=by omega
  have hW:=h.setFree (off:=off+k) (v:=v) hb hh (by simpa using hM 0 (by omega)) hB;obtain⟨w',arr',hr,hw',hh',hs',hc',hk'⟩:=ih (w.setCell ⟨b,off+k,Sf⟩ v) (k+1) (arr.setIfInBounds (off+k) v) T fr hf0 hW (fa hh) (by simp;omega)
   (λj hj=>by have:=hM (j+1) (by omega);rwa[show off+k+(j+1)=off+(k+1)+j by omega]at this) (λu hu=>hv u (by simp[hu]))
  refine⟨w',arr',?_,hw',hh',by simpa using hs',?_,?_⟩
  ·simp only[storeCells,Sem.run_bind];have hadd:(Addr.mk b off Sf).add k=⟨b,off+k,Sf⟩:=by
    unfold Addr.add;split
    ·subst k;rfl
    ·rfl
   rw[hadd,run_store P w _ v .plain (hv v (by simp))];have hcell:w.cell? ⟨b,off+k,Sf⟩=Sd arr[off+k]:=by simp[World.cell?,hh,hlt]
   simp only[hcell,qn hh hf0,On,if_false,Result.andThen_ok];exact hr
  ·intro j hj;cases j with
   |zero =>
    simp only[P9,Pj];rw[hk' (off+k) (by omega)];simp[hlt]
   |succ j =>
    have:=hc' j (by simpa using hj)
    rw[show off+(k+1)+j=off+k+(j+1) by omega]at this;simpa using this
  ·intro o ho';rw[hk' o (by omega),OM (by omega)]
def G.addR(g:G)(b lo hi:Nat)(f:Nat→So):G:={g with M:=λc o=>if c=b∧lo≤o∧o<hi then Sd (f o)else g.M c o}
theorem C9{lo hi:Nat}{f:Nat→So}(hn:∀o,lo≤o→o<hi→g.M b o=Sf):g.le (g.addR b lo hi f):=
 ⟨rfl,λc o v hm=>by
  simp only[G.addR];split
  ·rename_i h;obtain⟨rfl,h1,h2⟩:=h;rw[hn o h1 h2]at hm;cases hm
  ·exact hm,λ_ _ h=>h,λ_ _ h=>h,λ_ h=>h,λ_ _ h=>h⟩
def St.relab(s:St)(o:Own):St:=
 {s with live:=s.ctr::(match o with|.lab k _=>s.live.erase k|_=>s.live),ctr:=s.ctr+1}
theorem cT{o:Own}{k:Nat}(hnd:s.live.Nodup)(h:k∈(s.relab o).live):k=s.ctr∨(k∈s.live∧∀z j,o=.lab j z→k≠j):=by
 simp only[St.relab,NX]at h;rcases h with h|h
 ·exact .inl h
 ·right;cases o with
  |lab j z=>have:=(List.Nodup.mem_erase_iff hnd).1 h;exact⟨this.2,λz' j' e=>by cases e;exact this.1⟩
  |_=>exact⟨h,λ_ _ e=>by cases e⟩
theorem ug(h:WRel w g s)(o:Own):(s.relab o).live.Nodup:=by
 have hc:s.ctr ∉ s.live:=λhk=>by obtain⟨a,l,c,z,e,_⟩:=h.live _ hk;have:=h.ldom _ _ e;omega
 cases o with
 |lab j z=>exact OZ.2 ⟨λhk=>hc (List.mem_of_mem_erase hk),h.nd.erase j⟩
 |_=>exact OZ.2 ⟨hc,h.nd⟩
theorem WRel.labelFull{w:Sl}{g:G}{s:St}(h:WRel w g s)(a:Option Addr)(n sz:Nat)(o:Own) :
  g.le (g.addL s.ctr (a,n,n,sz))∧WRel w (g.addL s.ctr (a,n,n,sz)) (s.relab o):=by
 have hle:=KG h (K6 _) (a,n,n,sz);refine⟨hle,?_⟩;refine {os:=h.os,tape:=h.tape,out:=h.out,fz:=h.fz,n:=h.n,old:=h.old,m:=h.m,box:=λi bx hi=>(h.box i bx hi).mono hle λ_ _ h=>h,inj:=h.inj,dom:=h.dom,live:=?_,uniq:=?_,ldom:=?_,o:=h.o,nd:=ug h _,sz:=h.sz}
 ·intro k hk;rcases cT h.nd hk with rfl|⟨hk,_⟩
  ·exact⟨a,n,n,sz,by simp[G.addL],λh=>absurd h (Nat.lt_irrefl _)⟩
  ·obtain⟨a',len,cap,sz',h1,h2⟩:=h.live k hk;refine⟨a',len,cap,sz',hle.L _ _ h1,h2⟩
 ·intro k k' hk hk' b o1 len cap sz1 b' o2 len' cap' sz2 e1 e2 l1 l2 z1 z2 eb;simp only[G.addL]at e1 e2;split at e1
  ·cases e1;omega
  ·split at e2
   ·cases e2;omega
   ·rename_i n1 n2;rcases cT h.nd hk with q|⟨hk,_⟩
    ·exact absurd q n1
    ·rcases cT h.nd hk' with q|⟨hk',_⟩
     ·exact absurd q n2
     ·exact h.uniq k k' hk hk' b o1 len cap sz1 b' o2 len' cap' sz2 e1 e2 l1 l2 z1 z2 eb
 ·intro k x hx;simp only[G.addL]at hx;simp only[St.relab];split at hx
  ·omega
  ·have:=h.ldom k x hx;omega
theorem WRel.labelTake{w:Sl}{g:G}{s:St}(h:WRel w g s){k b off len cap sz n:Nat}{arr:Array So}{T:Sk}{fr:Nat×Nat}{f:Nat→So}(hk:k∈s.live)
  (hL:g.L k=Sd (Sd ⟨b,off,Sf⟩,len,cap,sz)) (hlc:len<cap) (hz:0<sz) (hcap:len+n≤cap) (hb:g.N≤b) (hh:w.heap[b]?=Sd (.cells arr T fr)) (hfr:fr=(0,0)) (hsz:off+cap*sz≤arr.size)
  (hM:∀o,off+len*sz≤o→g.M b o=Sf) (hB:∀i,g.B i≠Sd b) (hf:∀o,off+len*sz≤o→o<off+(len+n)*sz→arr[o]?=Sd (f o)) :
  g.le ((g.addR b (off+len*sz) (off+(len+n)*sz) f).addL s.ctr (Sd ⟨b,off,Sf⟩,len+n,cap,sz)) ∧
   WRel w ((g.addR b (off+len*sz) (off+(len+n)*sz) f).addL s.ctr (Sd ⟨b,off,Sf⟩,len+n,cap,sz)) (s.relab (.lab k sz)):=by
 have hle1:g.le (g.addR b (off+len*sz) (off+(len+n)*sz) f):=C9 λo h1 _=>hM o h1;have hl:∀k x,g.L k=Sd x→((g.addR b (off+len*sz) (off+(len+n)*sz) f).addL s.ctr (Sd ⟨b,off,Sf⟩,len+n,cap,sz)).L k=Sd x:=by
  intro j x hx;simp only[G.addL];split
  ·subst j;have:=h.ldom _ _ hx;omega
  ·exact hx
 have hle:g.le ((g.addR b (off+len*sz) (off+(len+n)*sz) f).addL s.ctr (Sd ⟨b,off,Sf⟩,len+n,cap,sz)):=⟨rfl,hle1.M,hle1.B,hl,λ_ h=>h,λ_ _ h=>h⟩;refine⟨hle,?_⟩;refine {os:=h.os,tape:=h.tape,out:=h.out,fz:=h.fz,n:=h.n,old:=h.old,m:=?_,box:=?_,inj:=h.inj,dom:=h.dom,live:=?_,uniq:=?_,ldom:=?_,o:=h.o,nd:=ug h _,sz:=h.sz}
 ·intro c o v hm;simp only[G.addL,G.addR]at hm;split at hm
  ·rename_i q;obtain⟨rfl,q1,q2⟩:=q;cases hm;simp[World.cell?,hh,hf o q1 q2]
  ·exact h.m c o v hm
 ·intro i bx hi;refine(h.box i bx hi).mono hle λc hc hn o=>?_;simp only[G.addL,G.addR];rw[if_neg (λq=>hB i (by rw[hc,q.1]))];exact hn o
 ·intro j hj;rcases cT h.nd hj with rfl|⟨hj,hne⟩
  ·refine⟨Sd ⟨b,off,Sf⟩,len+n,cap,sz,by simp[G.addL],λh1 h2=>?_⟩;refine⟨b,off,arr,T,fr,rfl,hb,hh,hsz,λo ho=>?_,hB,hfr⟩;simp only[G.addL,G.addR];rw[if_neg (by omega)];refine hM o (Nat.le_trans ?_ ho);have:=OT sz (Nat.le_add_right len n)
   omega
  ·obtain⟨a',len',cap',sz',h1,h2⟩:=h.live j hj;refine⟨a',len',cap',sz',hl _ _ h1,λh3 h4=>?_⟩;obtain⟨c,of,ar,T',fr',h5,h6,h7,h8,h9,h10⟩:=h2 h3 h4;refine⟨c,of,ar,T',fr',h5,h6,h7,h8,λo ho=>?_,h10⟩;simp only[G.addL,G.addR];have hcb:c≠b:=by
    intro e;subst h5;exact hne sz k rfl (h.uniq j k hj hk c of len' cap' sz' b off len cap sz h1 hL h3 hlc h4 hz e)
   rw[if_neg (λq=>hcb q.1)];exact h9 o ho
 ·intro j j' hj hj' b1 o1 len1 cap1 sz1 b2 o2 len2 cap2 sz2 e1 e2 l1 l2 z1 z2 eb;simp only[G.addL]at e1 e2;split at e1
  ·split at e2
   ·omega
   ·rename_i n1 n2;cases e1;subst eb;rcases cT h.nd hj' with q|⟨hj',hne'⟩
    ·exact absurd q n2
    ·exact absurd (h.uniq j' k hj' hk _ _ _ _ _ _ _ _ _ _ e2 hL l2 (by omega) z2 hz rfl) (hne' sz k rfl)
  ·split at e2
   ·rename_i n1 n2;cases e2;subst eb;rcases cT h.nd hj with q|⟨hj,hne⟩
    ·exact absurd q n1
    ·exact absurd (h.uniq j k hj hk _ _ _ _ _ _ _ _ _ _ e1 hL l1 (by omega) z1 hz rfl) (hne sz k rfl)
   ·rename_i n1 n2;rcases cT h.nd hj with q|⟨hj,_⟩
    ·exact absurd q n1
    ·rcases cT h.nd hj' with q|⟨hj',_⟩
     ·exact absurd q n2
     ·exact h.uniq j j' hj hj' _ _ _ _ _ _ _ _ _ _ e1 e2 l1 l2 z1 z2 eb
 ·intro j x hx;simp only[G.addL]at hx;simp only[St.relab];split at hx
  ·omega
  ·have:=h.ldom j x hx;omega
theorem WRel.labelNew{w:Sl}{g:G}{s:St}(h:WRel w g s)(o:Own)(arr:Array So)(T:Sk)(n cap sz:Nat)(f:Nat→So)(hcap:cap*sz≤arr.size)(hn:n≤cap)
  (hf:∀j,j<n*sz→arr[j]?=Sd (f j)) :
  let g':=(g.addM w.heap.size (λj=>if j<n*sz then Sd (f j)else Sf)).addL s.ctr (Sd ⟨w.heap.size,0,Sf⟩,n,cap,sz)
  g.le g'∧WRel (w.alloc (.cells arr T)) g' (s.relab o):=by
 intro g';obtain⟨hle1,hW1⟩:=h.newCells arr T (λj=>if j<n*sz then Sd (f j)else Sf) (λo v hv=>by
  split at hv
  ·cases hv;exact hf _ (by assumption)
  ·cases hv)
 have hl:∀k x,g.L k=Sd x→g'.L k=Sd x:=by
  intro j x hx;simp only[g',G.addL];split
  ·subst j;have:=h.ldom _ _ hx;omega
  ·exact hx
 have hle:g.le g':=⟨rfl,hle1.M,hle1.B,hl,λ_ h=>h,λ_ _ h=>h⟩;refine⟨hle,?_⟩;refine {os:=hW1.os,tape:=hW1.tape,out:=hW1.out,fz:=hW1.fz,n:=hW1.n,old:=hW1.old,m:=hW1.m,box:=?_,inj:=hW1.inj,dom:=hW1.dom,live:=?_,uniq:=?_,ldom:=?_,o:=hW1.o,nd:=ug h _,sz:=hW1.sz}
 ·intro i bx hi;exact(hW1.box i bx hi).mono (g':=g') ⟨rfl,λ_ _ _ h=>h,λ_ _ h=>h,λk x hx=>hl k x hx,λ_ h=>h,λ_ _ h=>h⟩ λ_ _ h=>h
 ·intro j hj;rcases cT h.nd hj with rfl|⟨hj,hne⟩
  ·refine⟨Sd ⟨w.heap.size,0,Sf⟩,n,cap,sz,by simp[g',G.addL],λh1 h2=>?_⟩;refine⟨w.heap.size,0,arr,T,(0,0),rfl,h.n,bB w _,by omega,λo ho=>?_,λi hi=>?_,rfl⟩
   ·simp only[g',G.addL,G.addM,if_true];rw[if_neg (by omega)]
   ·have:=h.dom i _ hi;omega
  ·obtain⟨a',len',cap',sz',h1,h2⟩:=hW1.live j hj;exact⟨a',len',cap',sz',hl _ _ h1,h2⟩
 ·intro j j' hj hj' b1 o1 len1 cap1 sz1 b2 o2 len2 cap2 sz2 e1 e2 l1 l2 z1 z2 eb;simp only[g',G.addL]at e1 e2;have key:∀q b of le ca z,q∈s.live→g.L q=Sd (Sd ⟨b,of,Sf⟩,le,ca,z)→le<ca→b=w.heap.size→0<z→False:=by
   intro q b of le ca z hq hl hlt hb hz;obtain⟨a',len',cap',sz',h1,h2⟩:=h.live q hq;rw[hl]at h1;cases h1;obtain⟨c,of',ar,T',fr',h5,h6,h7,_⟩:=h2 hlt hz;cases h5;have:=bU h7
   omega
  split at e1
  ·split at e2
   ·omega
   ·rename_i n1 n2;cases e1;rcases cT h.nd hj' with q|⟨hj',_⟩
    ·exact absurd q n2
    ·exact(key j' _ _ _ _ _ hj' e2 l2 eb.symm z2).elim
  ·split at e2
   ·rename_i n1 n2;cases e2;rcases cT h.nd hj with q|⟨hj,_⟩
    ·exact absurd q n1
    ·exact(key j _ _ _ _ _ hj e1 l1 eb z1).elim
   ·rename_i n1 n2;rcases cT h.nd hj with q|⟨hj,_⟩
    ·exact absurd q n1
    ·rcases cT h.nd hj' with q|⟨hj',_⟩
     ·exact absurd q n2
     ·exact h.uniq j j' hj hj' _ _ _ _ _ _ _ _ _ _ e1 e2 l1 l2 z1 z2 eb
 ·intro j x hx;simp only[g',G.addL]at hx;simp only[St.relab];split at hx
  ·omega
  ·have:=h.ldom j x hx;omega
variable {c:Nat}
theorem gw{i j:Nat}{L:List Nat}(h:Live1 ⟨s.boxes.set i .dead,L,c⟩ j):Live1 s j∧j≠i:=by
 obtain⟨x,h1,h2⟩:=h;simp only at h1;by_cases e:j=i
 ·subst e;rcases OU j s.boxes.length with q|q
  ·rw[Om q]at h1;cases h1;exact absurd rfl h2
  ·rw[Oz (by simpa using q)]at h1;cases h1
 ·rw[Oj (by omega)]at h1;exact⟨⟨x,h1,h2⟩,e⟩
theorem WRel.kill{w:Sl}{g:G}{s:St}(h:WRel w g s)(i:Nat):WRel w g {s with boxes:=s.boxes.set i .dead}:=by
 refine {os:=h.os,tape:=h.tape,out:=h.out,fz:=h.fz,n:=h.n,old:=h.old,m:=h.m,box:=?_,inj:=λj k b h1 h2 l1 l2=>h.inj j k b h1 h2 (gw l1).1 (gw l2).1,dom:=λj b hb=>by have:=h.dom j b hb;simpa using this,live:=h.live,uniq:=h.uniq,ldom:=h.ldom,o:=h.o,nd:=h.nd,sz:=h.sz};intro j bx hj;by_cases e:j=i
 ·subst e;rcases OU j s.boxes.length with q|q
  ·rw[Om q]at hj;cases hj;trivial
  ·rw[Oz (by simpa using q)]at hj;cases hj
 ·rw[Oj (by omega)]at hj;exact h.box j bx hj
def G.addS(g:G)(b n:Nat):G:={g with S:=λc=>if c=b then Sd n else g.S c}
theorem WRel.addS{w:Sl}{g:G}{s:St}(h:WRel w g s){b:Nat}{arr:Array So}{T:Sk}{fr:Nat×Nat}(hh:w.heap[b]?=Sd (.cells arr T fr)):g.le (g.addS b arr.size)∧WRel w (g.addS b arr.size) s:=by
 have hle:g.le (g.addS b arr.size):=⟨rfl,λ_ _ _ h=>h,λ_ _ h=>h,λ_ _ h=>h,λ_ h=>h,λc n hc=>by
  simp only[G.addS];split
  ·subst c;obtain⟨a2,T2,f2,e1,e2⟩:=h.sz b n hc;rw[hh]at e1;cases e1;rw[e2]
  ·exact hc⟩
 refine⟨hle,{os:=h.os,tape:=h.tape,out:=h.out,fz:=h.fz,n:=h.n,old:=h.old,m:=h.m,box:=λj bx hj=>(h.box j bx hj).mono hle (λ_ _ h=>h),inj:=h.inj,dom:=h.dom,live:=h.live,uniq:=h.uniq,ldom:=h.ldom,o:=h.o,nd:=h.nd,sz:=?_}⟩;intro c n hc;simp only[G.addS]at hc;split at hc
 ·subst c;cases hc;exact⟨arr,T,fr,hh,rfl⟩
 ·exact h.sz c n hc
theorem WRel.rebox{w:Sl}{g:G}{s:St}(h:WRel w g s){b:Nat}{arr:Array So}{T:Sk}{fr:Nat×Nat}{cs:List D}(hN:g.N≤b)(hh:w.heap[b]?=Sd (.cells arr T fr))(hfr:fr=(0,0))(hlen:cs.length≤arr.size)
  (hR:∀(j:Nat)(h1:j<cs.length)(h2:j<arr.size),R g cs[j] arr[j]∧arr[j].oneCell'=Sh) (hM:∀o,g.M b o=Sf) (hB:∀i,Live1 s i→g.B i≠Sd b) (hex:∃i,g.B i=Sd b) :
  g.le (g.addB s.boxes.length b)∧WRel w (g.addB s.boxes.length b) {s with boxes:=s.boxes++[.cells cs]}:=by
 have hn:g.B s.boxes.length=Sf:=kv h (K6 _);have hle:g.le (g.addB s.boxes.length b):=jP hn;have hl1:∀i,i<s.boxes.length→Live1 {s with boxes:=s.boxes++[.cells cs]} i→Live1 s i:=λi hi⟨bx,e1,e2⟩=>by
  simp only at e1;rw[Ou hi]at e1;exact⟨bx,e1,e2⟩
 refine⟨hle,{os:=h.os,tape:=h.tape,out:=h.out,fz:=h.fz,n:=h.n,old:=h.old,m:=h.m,box:=?_,inj:=?_,dom:=?_,live:=?_,uniq:=h.uniq,ldom:=h.ldom,o:=h.o,nd:=h.nd,sz:=h.sz}⟩
 ·intro i bx hi;simp only at hi;rw[Rh]at hi;split at hi
  ·exact(h.box i bx hi).mono hle λ_ _ h=>h
  ·rename_i hlt;have:i=s.boxes.length:=by
    rcases OU s.boxes.length i with hgt|hge
    ·rw[Oz (by simp;omega)]at hi;cases hi
    ·omega
   subst this;simp at hi;subst hi;exact⟨b,arr,T,fr,by simp[G.addB],hh,hlen,λj h1 h2=>⟨(hR j h1 h2).1.mono hle,(hR j h1 h2).2⟩,hM,hfr⟩
 ·intro i j c hi hj l1 l2;simp only[G.addB]at hi hj;split at hi<;>split at hj
  ·omega
  ·cases hi;have d2:=(h.dom j _ hj).1;exact absurd hj (hB j (hl1 j d2 l2))
  ·cases hj;have d2:=(h.dom i _ hi).1;exact absurd hi (hB i (hl1 i d2 l1))
  ·exact h.inj i j c hi hj (hl1 i (h.dom i _ hi).1 l1) (hl1 j (h.dom j _ hj).1 l2)
 ·intro i c hi;simp only[G.addB]at hi;split at hi
  ·cases hi;subst i;simp only[K5,OA];exact⟨by omega,hN,bU hh⟩
  ·have:=h.dom i c hi;simp only[K5,OA];exact⟨by omega,this.2⟩
 ·intro k hk;obtain⟨a,len,cap,sz,h1,h2⟩:=h.live k hk;refine⟨a,len,cap,sz,h1,λh3 h4=>?_⟩;obtain⟨c,off,ar,T',fr',h5,h6,h7,h8,h9,h10⟩:=h2 h3 h4;refine⟨c,off,ar,T',fr',h5,h6,h7,h8,h9,λi hi=>?_,h10.2⟩;simp only[G.addB]at hi;split at hi
  ·cases hi;obtain⟨j,hj⟩:=hex;exact h10.1 j hj
  ·exact h10.1 i hi
def aU(P:Sj)(t:Sk):Option Bool:=
 match P.underlying t with
 |some (.struct _)=>Sd Sh
 |some (.array _ _)=>Sd Sh
 |some _=>Sd Se
 |none=>Sf
def sizeT(P:Sj)(t:Sk):Option Nat:=(P.info? t).map (·.size)
def zD:So→D
 |.int k n=>.int k n
 |.bool b=>.bool b
 |.string s=>.str s
 |.pointer Sf=>.nilp
 |.slice Sf 0 0=>.slice .nil []
 |.nilFunc=>.nilf
 |.map Sf=>.nilm
 |_=>.junk
def zeroV(P:Sj)(t:Sk):Option So:=(P.info? t).bind (·.zero)
def zeroT(P:Sj)(t:Sk):Option (List D):=(zeroV P t).bind λv=>if v.cells.toList.all (·.oneCell')then Sd (v.cells.toList.map zD)else Sf
def fieldT(P:Sj)(t:Sk)(f:Nat):Option (Nat×Nat×Bool):=
 match P.underlying t with
 |some (.struct fs)=>match fs[f]? with
  |some x=>match sizeT P x.type,aU P x.type with
   |some n,Sd a=>Sd (x.offset,n,a)
   |_,_=>Sf
  |none=>Sf
 |_=>Sf
def elemT(P:Sj)(t:Sk):Option (Sk×Nat×Nat×Bool):=
 match P.underlying t with
 |some (.slice e)=>match P.info? e,aU P e with
  |some i,Sd a=>Sd (e,i.size,i.bytes,a)
  |_,_=>Sf
 |_=>Sf
variable {P:Sj}{t:Sk}
theorem gI{a:Bool}(h:aU P t=Sd a)(w:Sl):(isAgg t).run P w=.ok a w:=by
 unfold aU at h;cases hu:P.underlying t with
 |none=>rw[hu]at h;cases h
 |some d =>
  rw[hu]at h;simp only[isAgg,Sem.run_bind,run_underlying hu,Result.andThen_ok];cases d<;>simp at h<;>subst h<;>rfl
variable {n:Nat}
theorem ci(h:sizeT P t=Sd n)(w:Sl):(sizeOf t).run P w=.ok n w:=by
 unfold sizeT at h;cases hi:P.info? t with
 |none=>rw[hi]at h;cases h
 |some i =>
  rw[hi]at h;cases h;simp[sizeOf,typeInfo,hi]
theorem gH{z:So}(h:zeroV P t=Sd z)(w:Sl):(zeroValue t).run P w=.ok z w:=by
 unfold zeroV at h;cases hi:P.info? t with
 |none=>rw[hi]at h;cases h
 |some i =>
  rw[hi]at h;simp at h;simp[zeroValue,typeInfo,hi,h]
def CellsOk(g:G)(cs:List D)(vs:List So):Prop:=
 cs.length=vs.length∧∀(j:Nat)(h1:j<cs.length)(h2:j<vs.length),R g cs[j] vs[j]∧vs[j].oneCell'=Sh
theorem CellsOk.mono{g g':G}{cs:List D}{vs:List So}(h:CellsOk g cs vs)(hg:g.le g'):CellsOk g' cs vs:=
 ⟨h.1,λj h1 h2=>⟨(h.2 j h1 h2).1.mono hg,(h.2 j h1 h2).2⟩⟩
theorem CellsOk.nil{g:G}:CellsOk g [] []:=⟨rfl,λj h1=>by simp at h1⟩
theorem CellsOk.cons{g:G}{d:D}{v:So}{cs:List D}{vs:List So}(h0:R g d v)(h1:v.oneCell'=Sh)(h:CellsOk g cs vs):CellsOk g (d::cs) (v::vs):=
 ⟨by simp[h.1],λj h1' h2'=>by cases j with
  |zero=>exact⟨h0,h1⟩
  |succ j=>exact h.2 j (by simpa using h1') (by simpa using h2')⟩
theorem CellsOk.append{g:G}{cs ds:List D}{vs us:List So}(h:CellsOk g cs vs)(k:CellsOk g ds us):CellsOk g (cs++ds) (vs++us):=
 ⟨by simp[h.1,k.1],λj h1 h2=>by
  by_cases hj:j<cs.length
  ·have hj':j<vs.length:=by rw[←h.1];exact hj
   rw[OS hj,OS hj'];exact h.2 j hj hj'
  ·have hj':¬j<vs.length:=by rw[←h.1];exact hj
   rw[ON (by omega),ON (by omega)];simp only[h.1];exact k.2 (j-vs.length) (by simp[h.1]at h1;omega) (by simp at h2;omega)⟩
theorem CellsOk.plain{g:G}{cs:List D}{vs:List So}(h:CellsOk g cs vs):CellsOk g (cs.map D.plain1) vs:=
 ⟨by simp[h.1],λj h1 h2=>by
  have:=h.2 j (by simpa using h1) h2
  simp only[OL];exact⟨this.1.plain1,this.2⟩⟩
theorem CellsOk.keep1{g:G}{cs:List D}{vs:List So}(h:CellsOk g cs vs):CellsOk g (cs.map D.keep1) vs:=
 ⟨by simp[h.1],λj h1 h2=>by
  have:=h.2 j (by simpa using h1) h2
  simp only[OL];exact⟨this.1.keep1,this.2⟩⟩
theorem CellsOk.take{g:G}{cs:List D}{vs:List So}(h:CellsOk g cs vs)(n:Nat):CellsOk g (cs.take n) (vs.take n):=
 ⟨by simp[h.1],λj h1 h2=>by
  simp only[PJ];exact h.2 j _ _⟩
theorem CellsOk.drop{g:G}{cs:List D}{vs:List So}(h:CellsOk g cs vs)(n:Nat):CellsOk g (cs.drop n) (vs.drop n):=
 ⟨by simp[h.1],λj h1 h2=>by
  simp only[PY];exact h.2 _ _ _⟩
theorem CellsOk.agg{g:G}{cs:List D}{vs:List So}(h:CellsOk g cs vs):R g (.agg cs) (.agg vs.toArray):=
 .agg cs vs.toArray (by simp[h.1]) (λi h2=>by simpa using(h.2 i (by rw[h.1];simpa using h2) (by simpa using h2)).2) (λi h1 h2=>by simpa using(h.2 i h1 (by simpa using h2)).1)
theorem CellsOk.get{g:G}{cs:List D}{vs:Array So}(h:CellsOk g cs vs.toList)(j:Nat)(h1:j<cs.length)(h2:j<vs.size):R g cs[j] vs[j]∧vs[j].oneCell'=Sh:=by
 have:=h.2 j h1 (by simpa using h2)
 rw[O7]at this;exact this
theorem CellsOk.of_agg{g:G}{cs:List D}{v:So}(h:R g (.agg cs) v):∃vs:Array So,v=.agg vs∧CellsOk g cs vs.toList:=by
 cases h with
 |agg _ vs h hv hR=>exact⟨vs,rfl,by simpa using h,λj h1 h2=>⟨by simpa using hR j h1 (by simpa using h2),by simpa using hv j (by simpa using h2)⟩⟩
def cellsD:D→Option (List D)
 |.agg cs=>Sd cs
 |.junk=>Sf
 |.tup _=>Sf
 |d=>Sd [d]
variable {d:D}
theorem mr{cs:List D}(h:R g d v)(hc:cellsD d=Sd cs):CellsOk g cs v.cells.toList:=by
 cases d with
 |agg cs' =>
  obtain⟨vs,rfl,hk⟩:=CellsOk.of_agg h;cases hc;exact hk
 |junk=>cases hc
 |tup _=>cases hc
 |_ =>
  cases hc;cases h<;>exact CellsOk.cons (by constructor<;>assumption) rfl CellsOk.nil
theorem Ie:R g (zD v) v:=by
 unfold zD;split<;>first
  |exact .junk _
  |(constructor;done)
  |exact .slice .nil [] Sf 0 0 0 0 (λ_ _=>.nilFunc) (L7 _) (L7 _) ⟨rfl,rfl,rfl⟩ (λi hi=>by simp at hi) (λh=>by simp at h) (λi j hi=>by simp at hi) (λi j hi=>by simp at hi) (λi j hi=>by simp at hi)
theorem gU{zs:List D}(h:zeroT P t=Sd zs):∃z,zeroV P t=Sd z∧∀g,CellsOk g zs z.cells.toList:=by
 unfold zeroT at h;cases hz:zeroV P t with
 |none=>rw[hz]at h;cases h
 |some z =>
  rw[hz]at h;simp only[OY]at h;split at h
  ·rename_i hall;cases h;refine⟨z,rfl,λg=>⟨by simp,λj h1 h2=>?_⟩⟩;simp only[OL];exact⟨Ie,N0.1 hall _ (NY h2)⟩
  ·cases h
def Ok(P:Sj)(m:Sem So)(w:Sl)(g:G)(d:D)(s':St):Prop:=
 ∃v w' g',m.run P w=.ok v w'∧g.le g'∧WRel w' g' s'∧R g' d v
def Bj(cs:List D)(s:St):Option (D×St):=Sd (.box s.boxes.length 0,{s with boxes:=s.boxes++[.cells cs]})
theorem vM(h:WRel w g s)(T:Sk){cs:List D}{vs:Array So}(hc:CellsOk g cs vs.toList) :
  Ok P (do pure (.pointer (Sd (←newRow T vs)))) w g (.box s.boxes.length 0) {s with boxes:=s.boxes++[.cells cs]}:=by
 have hB:g.B s.boxes.length=Sf:=kv h (K6 _);have hle:g.le (g.addB s.boxes.length w.heap.size):=jP hB;obtain⟨h1,h2⟩:=h.newBox (.cells vs T) rfl (.cells cs) ⟨w.heap.size,vs,T,(0,0),by simp[G.addB],bB _ _,by have:=hc.1;simp at this;omega,
  λj h1 h2=>⟨(hc.get j h1 h2).1.mono hle,(hc.get j h1 h2).2⟩,λo=>rU h (K6 _) o,rfl⟩
 exact⟨.pointer (Sd ⟨w.heap.size,0,Sf⟩),w.alloc (.cells vs T),_,by simp[newRow],h1,h2,.box _ _ _ (by simp[G.addB])⟩
def lc(P:Sj)(T:Sk)(s:St):Option (D×St):=
 match zeroT P T with
 |some zs=>Bj zs s
 |none=>Sf
variable {s':St}
theorem GF(h:WRel w g s)(he:lc P T s=Sd (d,s')) :
  Ok P (Instr.alloc T Sh (.tuple #[])) w g d s':=by
 unfold lc at he;split at he
 ·rename_i zs hz;cases he;obtain⟨z,hzv,hok⟩:=gU hz;have:=vM (P:=P) h T (hok g)
  simpa only[Ok,Instr.alloc,newVar,Sem.run_bind,gH hzv,Result.andThen_ok]using this
 ·cases he
def lb(x:D)(s:St):Option (D×St):=
 match cellsD x with
 |some cs=>Bj cs s
 |none=>Sf
variable {x:D}
theorem ML(h:WRel w g s)(hx:R g x v)(he:lb x s=Sd (d,s')) :
  Ok P (Instr.box T v) w g d s':=by
 unfold lb at he;split at he
 ·rename_i cs hc;cases he;exact vM (P:=P) h T (mr hx hc)
 ·cases he
def l7(agg:Bool)(n:Nat)(cs:List D):Option D:=
 if agg then(if n≤cs.length then Sd (.agg ((cs.take n).map D.plain1))else Sf)else cs[0]?
def evLoad(P:Sj)(T:Sk)(a:D)(s:St):Option D:=
 match aU P T,sizeT P T with
 |some ag,Sd n=>match a with
  |.box b off=>match s.boxes[b]? with
   |some (.cells cs)=>l7 ag n (cs.drop off)
   |_=>Sf
  |.pin cs=>l7 ag n cs
  |_=>Sf
 |_,_=>Sf
theorem cB(b off n:Nat):(Addr.mk b off Sf).add n=⟨b,off+n,Sf⟩:=by
 unfold Addr.add;split
 ·subst n;rfl
 ·rfl
theorem qJ{ag:Bool}{off:Nat}{cs:List D}{vs:List So}(h1:aU P T=Sd ag)(h2:sizeT P T=Sd n)
  (hk:CellsOk g cs vs) (hc:∀(j:Nat)(hj:j<vs.length),w.cell? ⟨b,off+j,Sf⟩=Sd vs[j]) (hd:l7 ag n cs=Sd d) :
  ∃v,(loadVar T ⟨b,off,Sf⟩).run P w=.ok v w∧R g d v:=by
 unfold l7 at hd;cases ag with
 |true =>
  simp only[if_true]at hd;split at hd
  ·rename_i hn;cases hd;have hn':n≤vs.length:=by rw[←hk.1];exact hn
   have hl:=run_loadCells_list (P:=P) w ⟨b,off,Sf⟩ (vs.take n) (λj v hj=>by
    obtain⟨hlt,rfl⟩:=M5.1 hj;rw[cB,PJ];exact hc j _)
   rw[show(vs.take n).length=n by simp[hn']]at hl;refine⟨.agg (vs.take n).toArray,?_,(hk.take n).plain.agg⟩;simp only[loadVar,Sem.run_bind,gI h1,Result.andThen_ok,if_true,ci h2,hl,Sem.run_pure]
  ·cases hd
 |false =>
  simp only[On,if_false]at hd;obtain⟨hlt,rfl⟩:=M5.1 hd;have hlt':0<vs.length:=by rw[←hk.1];exact hlt
  refine⟨vs[0],?_,(hk.2 0 hlt hlt').1⟩;have:=hc 0 hlt'
  simp only[P9]at this;simp only[loadVar,Sem.run_bind,gI h1,Result.andThen_ok,On,if_false,run_load,this]
variable {a:D}
theorem zd(h:WRel w g s)(ha:R g a v)(he:evLoad P T a s=Sd d) :
  ∃u,(Instr.loadAt T v).run P w=.ok u w∧R g d u:=by
 unfold evLoad at he;split at he
 ·rename_i ag n h1 h2;split at he
  ·rename_i b off;split at he
   ·rename_i cs hb;obtain⟨blk,arr,T',fr,e1,e2,e3,e4,e5⟩:=h.box b _ hb;cases ha with
    |box _ _ blk' hB =>
     rw[e1]at hB;cases hB;have hk:CellsOk g cs (arr.toList.take cs.length):=⟨by simp;omega,λj x y=>by simpa using e4 j x (by simp at y;omega)⟩;obtain⟨u,hu,hRu⟩:=qJ (P:=P) (w:=w) (b:=blk) (off:=off) h1 h2 (hk.drop off) (λj hj=>by
      have hlt:off+j<arr.size:=by simp at hj;omega
      simp[World.cell?,e2,hlt]) he
     exact⟨u,by simpa[Instr.loadAt,Instr.sureAddr]using hu,hRu⟩
   ·cases he
  ·rename_i cs;cases ha with
   |pin _ blk off val hM hv hR =>
    have hk:CellsOk g cs ((Ol cs.length).map val):=⟨by simp,λj x y=>by simp;exact⟨hR j x,hv j x⟩⟩;obtain⟨u,hu,hRu⟩:=qJ (P:=P) (w:=w) (b:=blk) (off:=off) h1 h2 hk (λj hj=>by simpa using h.m _ _ _ (hM j (by simpa using hj))) he;exact⟨u,by simpa[Instr.loadAt,Instr.sureAddr]using hu,hRu⟩
  ·cases he
 ·cases he
theorem J2(h:WRel w g s)(ha:R g a v)(he:evLoad P T a s=Sd d) :
  Ok P (Instr.loadAt T v) w g d s:=by
 obtain⟨u,h1,h2⟩:=zd h ha he;exact⟨u,w,g,h1,.refl g,h,h2⟩
def storeD(cs:List D)(off:Nat)(ds:List D):List D:=cs.take off++(ds++cs.drop (off+ds.length))
theorem jW(ds:List D):∀(cs:List D)(off:Nat),off+ds.length≤cs.length→storeD cs off ds=setR cs off ds:=by
 induction ds with
 |nil=>intro cs off _;simp[storeD,setR]
 |cons d ds ih =>
  intro cs off h;simp only[K7]at h;rw[setR,←ih (cs.set off d) (off+1) (by simp;omega)];simp only[storeD,K7];have h1:(cs.set off d).take (off+1)=cs.take off++[d]:=by
   rw[List.set_eq_take_append_cons_drop,if_pos (by omega)];have:off+1=(cs.take off).length+1:=by simp;omega
   rw[this,List.take_length_add_append];simp
  have h2:(cs.set off d).drop (off+1+ds.length)=cs.drop (off+(ds.length+1)):=by
   rw[List.drop_set_of_lt (by omega)];congr 1;omega
  rw[h1,h2];simp
def iP(P:Sj)(T:Sk)(a x:D)(s:St):Option St:=
 match sizeT P T,cellsD x with
 |some n,Sd ds=>match a with
  |.box b off=>match s.boxes[b]? with
   |some (.cells cs)=>if ds.length=n∧off+n≤cs.length then Sd {s with boxes:=s.boxes.set b (.cells (storeD cs off ds))}else Sf
   |_=>Sf
  |_=>Sf
 |_,_=>Sf
variable {u:So}
theorem Gy(h:WRel w g s)(ha:R g a v)(hx:R g x u)(he:iP P T a x s=Sd s') :
  ∃w',(Instr.storeAt T v u).run P w=.ok () w'∧WRel w' g s':=by
 unfold iP at he;split at he
 ·rename_i n ds h1 h2;split at he
  ·rename_i b off;split at he
   ·rename_i cs hb;split at he
    ·rename_i hn;cases he;cases ha with
     |box _ _ blk hB =>
      have hk:=mr hx h2;obtain⟨w',hr,hw'⟩:=WRel.storeBox (P:=P) ds u.cells.toList w s b blk off 0 cs h hb hB (by omega) hk.1 hk.2;refine⟨w',?_,by rw[jW _ _ _ (by omega)];simpa using hw'⟩;have hsz:u.cells.size=n:=by have:=hk.1;simp at this;omega
      simp[Instr.storeAt,Instr.sureAddr,storeVar,ci h1,hsz,hr]
    ·cases he
   ·cases he
  ·cases he
 ·cases he
def ev(P:Sj)(S:Sk)(a:D)(f:Nat):Option D:=
 match fieldT P S f with
 |some (o,n,_)=>if n=0 then Sf else match a with
  |.box b off=>Sd (.box b (off+o))
  |.pin cs=>Sd (.pin (cs.drop o))
  |_=>Sf
 |none=>Sf
variable {S:Sk}{f:Nat}
theorem qQ{o:Nat}{ag:Bool}(h:fieldT P S f=Sd (o,n,ag)) :
  ∃fs x,P.underlying S=Sd (.struct fs)∧fs[f]?=Sd x∧sizeT P x.type=Sd n∧aU P x.type=Sd ag∧x.offset=o:=by
 unfold fieldT at h;split at h
 ·rename_i fs hu;split at h
  ·rename_i x hx;split at h
   ·rename_i n' a' h1 h2;cases h;exact⟨fs,x,hu,hx,h1,h2,rfl⟩
   ·cases h
  ·cases h
 ·cases h
theorem wx(h:WRel w g s)(ha:R g a v)(he:ev P S a f=Sd d) :
  Ok P (Instr.fieldAt S v f) w g d s:=by
 unfold ev at he;split at he
 ·rename_i o n ag hf;obtain⟨fs,x,hu,hx,hs,_,ho⟩:=qQ hf;split at he
  ·cases he
  ·rename_i hn;have key:∀b off,(Instr.fieldAt S (.pointer (Sd ⟨b,off,Sf⟩)) f).run P w=.ok (.pointer (Sd ⟨b,off+o,Sf⟩)) w:=by
    intro b off;simp[Instr.fieldAt,run_underlying hu,hx,Instr.sureAddr,fieldPlace,ci hs,hn,cB,ho]
   split at he
   ·rename_i b off;cases he;cases ha with
    |box _ _ blk hB=>exact⟨_,w,g,key _ _,.refl g,h,.box _ _ _ hB⟩
   ·rename_i cs;cases he;cases ha with
    |pin _ blk off val hM hv hR =>
     refine⟨_,w,g,key _ _,.refl g,h,.pin _ _ _ (λj=>val (o+j)) (λj hj=>?_) (λj hj=>?_) (λj hj=>?_)⟩
     ·have:=hM (o+j) (by simp at hj;omega);rwa[←PP]at this
     ·exact hv (o+j) (by simp at hj;omega)
     ·simp only[PY];exact hR (o+j) (by simp at hj;omega)
   ·cases he
 ·cases he
def iQ(P:Sj)(S:Sk)(x:D)(f:Nat):Option D:=
 match fieldT P S f,x with
 |some (o,n,ag),.agg cs=>if ag then(if o+n≤cs.length then Sd (.agg ((cs.drop o).take n))else Sf)else cs[o]?
 |_,_=>Sf
theorem GB(h:WRel w g s)(hx:R g x v)(he:iQ P S x f=Sd d) :
  Ok P (Instr.field S v f) w g d s:=by
 unfold iQ at he;split at he
 ·rename_i o n ag cs hf;obtain⟨fs,y,hu,hy,hs,hag,ho⟩:=qQ hf;obtain⟨vs,rfl,hk⟩:=CellsOk.of_agg hx;cases ag with
  |true =>
   simp only[if_true]at he;split at he
   ·rename_i hlen;cases he;refine⟨.agg (vs.extract o (o+n)),w,g,?_,.refl g,h,?_⟩
    ·simp[Instr.field,run_underlying hu,hy,asAgg,part,gI hag,ci hs,ho]
    ·have:=((hk.drop o).take n).agg
     rw[show(vs.extract o (o+n))=((vs.toList.drop o).take n).toArray from ?_]
     ·exact this
     ·apply PR;simp[RL,List.extract]
   ·cases he
  |false =>
   simp only[On,if_false]at he;obtain⟨hlt,rfl⟩:=M5.1 he;have hlt':o<vs.size:=by have:=hk.1;simp at this;omega
   refine⟨vs[o],w,g,?_,.refl g,h,(hk.get o hlt hlt').1⟩;simp[Instr.field,run_underlying hu,hy,asAgg,part,gI hag,ho,hlt']
 ·cases he
theorem bX{sz:Nat}:∀(xs:List (List D)),(∀x∈xs,x.length=sz)→xs.flatten.length=xs.length*sz
 | [],_=>by simp
 |x::xs,h=>by
  have ih:=bX xs (λy hy=>h y (by simp[hy]));simp only[Qz,K5,ih,h x (by simp),K7,Qx];omega
theorem lQ{sz:Nat}:∀(xs:List (List D)),(∀x∈xs,x.length=sz)→∀(i j:Nat)(_:i<xs.length)(_:j<sz),xs.flatten[i*sz+j]?=(xs[i]?).bind (·[j]?)
 | [],_,i,j,hi,_=>by simp at hi
 |x::xs,h,i,j,hi,hj=>by
  have hx:=h x (by simp);cases i with
  |zero =>
   simp only[Qz,Nat.zero_mul,OF,List.getElem?_cons_zero,OY];rw[Ou (by omega)]
  |succ i =>
   have ih:=lQ xs (λy hy=>h y (by simp[hy])) i j (by simpa using hi) hj;simp only[Qz,List.getElem?_cons_succ];rw[Oc (by rw[hx,Qx];omega),hx,Qx,show i*sz+sz+j-sz=i*sz+j by omega];exact ih
theorem DL{xs:List (List D)}{sz:Nat}(h:∀(i:Nat)(hi:i<xs.length),xs[i].length=sz):∀x∈xs,x.length=sz:=by
 intro x hx;obtain⟨i,hi,rfl⟩:=Oa hx;exact h i hi
theorem gX {g:G} {o:Own} {xs:List (List D)} {v:So} (h:R g (.slice o xs) v) :
    ∃a cap sz fl,v=.slice a xs.length cap∧xs.length≤cap∧xs.length≤mE∧OwnOk g o a xs.length cap sz∧(∀x∈xs,x.length=sz)∧CellsOk g xs.flatten fl ∧
      (0<xs.length→∃blk off,a=Sd ⟨blk,off,Sf⟩∧∀j u,fl[j]?=Sd u→g.M blk (off+j)=Sd u):=by
  cases h with
  |slice _ _ a cap sz blk off val hc hm ho hs ha hM hv hR =>
    have hss:=DL hs;have hlen:=bX xs hss;refine⟨a,cap,sz,(Ol (xs.length*sz)).map (λq=>val (q / sz) (q % sz)),rfl,hc,hm,ho,hss,⟨by simp[hlen],λq h1 h2=>?_⟩,λh0=>⟨blk,off,ha h0,λq u hq=>?_⟩⟩
    · have hq:q<xs.length*sz:=by rw[←hlen];exact h1
      have hsz : 0 < sz := by rcases O8 sz with e | e; · rw [e] at hq; simp at hq
                              · exact e
      have hi:q / sz<xs.length:=RM (by rw[Nat.mul_comm];exact hq);have hj:q % sz<sz:=QE _ hsz;have:=lQ xs hss (q / sz) (q % sz) hi hj
      rw[R5 q sz,K4 h1,K4 hi]at this;simp only[OY]at this;rw[K4 (by rw[hs _ hi];exact hj)]at this;simp only[OL,P8];rw[Pk.inj this];exact⟨hR _ _ hi _,hv _ _ hi hj⟩
    · obtain⟨hlt,rfl⟩:=M5.1 hq;simp only[OH,List.length_range]at hlt
      have hsz : 0 < sz := by rcases O8 sz with e | e; · rw [e] at hlt; simp at hlt
                              · exact e
      have:=hM (q / sz) (q % sz) (RM (by rw[Nat.mul_comm];exact hlt)) (QE _ hsz)
      rw[PP,R5 q sz]at this;simpa using this
theorem yW{o:Own}{xs:List (List D)}{a:Option Addr}{cap sz:Nat}{fl:List So}(hc:xs.length≤cap)(hm:xs.length≤mE)(ho:OwnOk g o a xs.length cap sz)
  (hs:∀x∈xs,x.length=sz) (hk:CellsOk g xs.flatten fl) (ha:0<xs.length→∃blk off,a=Sd ⟨blk,off,Sf⟩∧∀j u,fl[j]?=Sd u→g.M blk (off+j)=Sd u) :
  R g (.slice o xs) (.slice a xs.length cap):=by
 have hlen:=bX xs hs;have hfl:fl.length=xs.length*sz:=by rw[←hk.1,hlen]
 obtain⟨blk,off,h1⟩:∃blk off,0<xs.length→a=Sd ⟨blk,off,Sf⟩∧∀j u,fl[j]?=Sd u→g.M blk (off+j)=Sd u:=by
  rcases O8 xs.length with e|e
  ·exact⟨0,0,λh=>by omega⟩
  ·obtain⟨blk,off,h⟩:=ha e;exact⟨blk,off,λ_=>h⟩
 have key:∀i j,i<xs.length→j<sz→i*sz+j<fl.length:=by
  intro i j hi hj;rw[hfl];calc i*sz+j<i*sz+sz:=by omega
   _=(i+1)*sz:=by rw[Qx]
   _≤xs.length*sz:=OT _ hi
 refine .slice o xs a cap sz blk off (λi j=>fl.getD (i*sz+j) undef) hc hm ho (λi hi=>hs _ (NY hi)) (λh=>(h1 h).1) ?_ ?_ ?_
 ·intro i j hi hj;have:=(h1 (by omega)).2 (i*sz+j) (fl[i*sz+j]'(key i j hi hj)) (K4 (key i j hi hj))
  rw[←PP]at this;rw[this];simp[Pi,K4 (key i j hi hj)]
 ·intro i j hi hj;have hlt:=key i j hi hj;simp only[Pi,K4 hlt,OB];exact(hk.2 _ (by rw[hk.1];exact hlt) hlt).2
 ·intro i j hi hj;have hj':j<sz:=by rw[hs _ (NY hi)]at hj;exact hj
  have hlt:=key i j hi hj';have:=lQ xs hs i j hi hj'
  rw[K4 (by rw[hk.1];exact hlt),K4 hi]at this;simp only[OY]at this;rw[K4 hj]at this;simp only[Pi,K4 hlt,OB];rw[←Pk.inj this];exact(hk.2 _ (by rw[hk.1];exact hlt) hlt).1
theorem l4{o:Own}{xs:List (List D)}{a:Option Addr}{cap sz:Nat}{fl:List So}(hn:xs.length=n)(hc:n≤cap)(hm:n≤mE)(ho:OwnOk g o a n cap sz)
  (hs:∀x∈xs,x.length=sz) (hk:CellsOk g xs.flatten fl) (ha:0<n→∃blk off,a=Sd ⟨blk,off,Sf⟩∧∀j u,fl[j]?=Sd u→g.M blk (off+j)=Sd u) :
  R g (.slice o xs) (.slice a n cap):=by
 subst hn;exact yW hc hm ho hs hk ha
variable {e:Sk}
theorem bZ{ag:Bool}(h:elemT P t=Sd (e,n,b,ag)):P.underlying t=Sd (.slice e)∧(∃i,P.info? e=Sd i∧i.size=n∧i.bytes=b)∧aU P e=Sd ag:=by
 unfold elemT at h;split at h
 ·rename_i e' hu;split at h
  ·rename_i i a hi ha;cases h;exact⟨hu,⟨i,hi,rfl,rfl⟩,ha⟩
  ·cases h
 ·cases h
def aZ(o:Own)(xs:List (List D))(sz:Nat)(s:St):Bool:=
 match o with
 |.none=>Se
 |.lab k z=>s.live.contains k&&z == sz
 |_=>xs.all (·.length == sz)
def mi(P:Sj)(T T':Sk)(x y:D)(s:St):Option (D×St):=
 match elemT P T,elemT P T' with
 |some (e,sz,by_,_),Sd _=>match zeroT P e with
  |some zs=>match x,y with
   |.slice o xs,.slice _ ys =>
    if zs.length=sz∧0<sz∧0<by_∧by_≤1000000∧aZ o xs sz s=Sh∧ys.all (·.length == sz)=Sh∧xs.length+ys.length≤1000000 then
     Sd (.slice (.lab s.ctr sz) (xs++ys),s.relab o)else Sf
   |_,_=>Sf
  |none=>Sf
 |_,_=>Sf
theorem AM {P:Sj} {w:Sl} {g:G} {s s':St} {T T' ty:Sk} {x y d:D} {v u:So} (h:WRel w g s) (hx:R g x v) (hy:R g y u) (he:mi P T T' x y s=Sd (d,s')) :
    Ok P (Builtin.append_ #[T,T'] ty #[v,u]) w g d s':=by
  unfold mi at he;split at he
  · rename_i e sz by_ ag el' h1 h1';split at he
    · rename_i zs hz;split at he
      · rename_i o xs oy ys;split at he
        · rename_i hcond;obtain⟨hzs,hsz,hby0,hby,hown,hys,hlen⟩:=hcond;cases he;obtain⟨hu,⟨i,hi,rfl,rfl⟩,_⟩:=bZ h1;obtain⟨e',n',b',ag'⟩:=el';obtain⟨hu',_,_⟩:=bZ h1';obtain⟨z,hzv,hzok⟩:=gU hz;have hiz:i.zero=Sd z:=by simpa[zeroV,hi]using hzv
          have hzc:z.cells.size=i.size:=by have:=(hzok g).1;simp at this;omega
          obtain⟨a,cap,szx,fx,rfl,hcx,hmx,hox,hsx,hkx,hax⟩:=gX hx;obtain⟨b,capy,szy,fy,rfl,hcy,hmy,hoy,hsy,hky,hay⟩:=gX hy;have hys':∀c∈ys,c.length=i.size:=by
            intro c hc;simpa using N0.1 hys c hc
          have hxs':∀c∈xs,c.length=i.size:=by
            cases o with
            |none=>simp[aZ]at hown
            |lab k z' =>
              simp only[aZ,M1,beq_iff_eq]at hown;have:=hox.2
              intro c hc;rw[hsx c hc,this,hown.2]
            |full=>intro c hc;simpa using N0.1 hown c hc
            |nil=>intro c hc;simpa using N0.1 hown c hc
          have hfx:fx.length=xs.length*i.size:=by rw[←hkx.1,bX xs hxs']
          have hfy:fy.length=ys.length*i.size:=by rw[←hky.1,bX ys hys']
          have hsize:∀c∈xs++ys,c.length=i.size:=by
            intro c hc;rcases List.mem_append.1 hc with hc|hc
            · exact hxs' c hc
            · exact hys' c hc
          have hkk:CellsOk g (xs++ys).flatten (fx++fy):=by rw[RQ];exact hkx.append hky
          have hnm:xs.length+ys.length≤mE:=by simp[mE];omega
          -- reading the second operand
          have hry:∀W:Sl,(∀b o v,g.M b o=Sd v→W.cell? ⟨b,o,Sf⟩=Sd v)→(Builtin.firstCells i.size ys.length (.slice b ys.length capy)).run P W=.ok fy.toArray W:=by
            intro W hW;rcases O8 ys.length with e0|e0
            · have:fy=[]:=O1 (by rw[hfy,e0];simp)
              subst this;cases b with
              |none=>exact run_firstCells_none _ _ _ _ _
              |some b=>exact run_firstCells_some _ _ _ _ _ _ [] (by simp[e0]) (λj v hj=>by simp at hj)
            · obtain⟨blk,off,rfl,hMy⟩:=hay e0;exact run_firstCells_some _ _ _ _ _ _ fy hfy (λj v hj=>by rw[cB];exact hW _ _ _ (hMy j v hj))
          have hrx:∀W:Sl,(∀b o v,g.M b o=Sd v→W.cell? ⟨b,o,Sf⟩=Sd v)→(Builtin.firstCells i.size xs.length (.slice a xs.length cap)).run P W=.ok fx.toArray W:=by
            intro W hW;rcases O8 xs.length with e0|e0
            · have:fx=[]:=O1 (by rw[hfx,e0];simp)
              subst this;cases a with
              |none=>exact run_firstCells_none _ _ _ _ _
              |some b=>exact run_firstCells_some _ _ _ _ _ _ [] (by simp[e0]) (λj v hj=>by simp at hj)
            · obtain⟨blk,off,rfl,hMx⟩:=hax e0;exact run_firstCells_some _ _ _ _ _ _ fx hfx (λj v hj=>by rw[cB];exact hW _ _ _ (hMx j v hj))
          by_cases hroom:xs.length+ys.length≤cap
          · -- it fits
            by_cases hfull:cap=xs.length
            · -- nothing is appended
              have hy0:ys.length=0:=by omega
              have hy0':ys=[]:=O1 hy0;subst hy0';have hfy0:fy=[]:=O1 (by rw[hfy];simp);subst hfy0;obtain⟨hle,hW⟩:=h.labelFull a xs.length i.size o;refine⟨.slice a xs.length cap,w,_,?_,hle,hW,?_⟩
              · have:=hry w h.m
                have hc0:xs.length≤cap:=by omega
                simp only[L4]at this;cases a<;>simp[Builtin.append_,run_underlying hu,run_underlying hu',sizeOf,typeInfo,hi,Builtin.lenOf,storeCells,hc0,this]
              · rw[Oq];refine yW hcx hmx ⟨by simp[G.addL,hfull],rfl⟩ hxs' (hkx.mono hle) (λh0=>?_);obtain⟨blk,off,e1,e2⟩:=hax h0;exact⟨blk,off,e1,λj u hj=>hle.M _ _ _ (e2 j u hj)⟩
            · -- the room is that of a live label
              cases o with
              |none=>simp[aZ]at hown
              |full=>exact absurd hox hfull
              |nil=>exact absurd (by have:=hox.2;omega) hfull
              |lab k z' =>
                simp only[aZ,M1,beq_iff_eq,List.contains_iff_mem]at hown;obtain⟨hkl,rfl⟩:=hown;obtain⟨a',len',cap',sz',hL,hlive⟩:=h.live k hkl;have hLk:=hox.1;rw[hLk]at hL;cases hL;obtain⟨blk,off,arr,T0,fr,rfl,hN,hh,hcap,hM,hB⟩:=hlive (by omega) hsz;have hmul:xs.length*i.size+fy.length≤cap*i.size:=by
                  rw[hfy,←PK];exact OT _ hroom
                obtain⟨w',arr',hr,hw',hh',hs',hcc,hkeep⟩:=WRel.storeFree (P:=P) (off:=off+xs.length*i.size) hN (λi _=>hB.1 i) fy w 0 arr T0 fr hB.2 h hh (by omega)
                  (λj hj=>hM _ (by omega)) (λv hv=>by obtain⟨j,hj,rfl⟩:=Oa hv;exact(hky.2 j (by rw[hky.1];exact hj) hj).2)
                obtain⟨hle,hW⟩:=hw'.labelTake (n:=ys.length) (f:=λo=>fy.getD (o-(off+xs.length*i.size)) undef) hkl hLk (by omega) hsz hroom hN hh' hB.2 (by omega) hM hB.1 (λo h1 h2=>by
                  have hj:o-(off+xs.length*i.size)<fy.length:=by rw[hfy];rw[PK]at h2;omega
                  have:=hcc _ hj
                  rw[show off+xs.length*i.size+0+(o-(off+xs.length*i.size))=o by omega]at this;rw[this];simp[Pi,K4 hj])
                refine⟨.slice (Sd ⟨blk,off,Sf⟩) (xs.length+ys.length) cap,w',_,?_,hle,hW,?_⟩
                · simp[Builtin.append_,run_underlying hu,run_underlying hu',sizeOf,typeInfo,hi,Builtin.lenOf,hroom,hry w h.m,cB,hr]
                · refine l4 K5 hroom hnm ⟨by simp[G.addL],rfl⟩ hsize (hkk.mono hle) (λ_=>⟨blk,off,rfl,λj u hj=>?_⟩);rcases OU j fx.length with hj'|hj'
                  · rw[Ou hj']at hj
                    obtain ⟨blk', off', e1, e2⟩ := hax (by rcases O8 xs.length with e | e; · rw [hfx, e] at hj'; simp at hj'
                                                           · exact e)
                    cases e1;exact hle.M _ _ _ (e2 j u hj)
                  · rw[Oc hj']at hj;obtain⟨hlt,rfl⟩:=M5.1 hj;simp only[G.addL,G.addR];rw[if_pos ⟨trivial,by omega,by rw[PK];omega⟩];rw[show off+j-(off+xs.length*i.size)=j-fx.length by omega];simp[Pi,K4 hlt]
          · -- a new row
            have h63:¬(9223372036854775807<(xs.length:Int)+(ys.length:Int)):=by omega
            have hfit:Builtin.nextslicecap (xs.length+ys.length) cap*i.bytes≤281474976710656:=growslice_fits (by omega) (by
              calc (xs.length+ys.length)*i.bytes≤1000000*1000000:=Qr hlen hby
                _≤140737488355328:=by omega)
            have hfit':¬(281474976710656<Builtin.nextslicecap (xs.length+ys.length) cap*i.bytes):=by omega
            have hge:=grownCap_ge w (xs.length+ys.length) cap e;generalize hC:grownCap w (xs.length+ys.length) cap e=C at hge;have hne:i.bytes≠0:=by omega
            obtain⟨hle,hW⟩:=(h.drew).labelNew o (fx.toArray++fy.toArray++Builtin.zeroCells z.cells (C-(xs.length+ys.length))) e (xs.length+ys.length) C i.size
              (λj=>(fx++fy).getD j undef) (by
                simp only[Q5,PZ,hfx,hfy,size_zeroCells,hzc,←PK];exact OT _ (by omega)) hge (λj hj=>by
                have hjl:j<(fx++fy).length:=by simp[hfx,hfy,←PK];exact hj
                rw[PE (by simpa using hjl)];rw[show fx.toArray++fy.toArray=(fx++fy).toArray by simp];simp only[P6];simp[Pi,K4 hjl])
            refine⟨.slice (Sd ⟨w.heap.size,0,Sf⟩) (xs.length+ys.length) C,w.drew.alloc _,_,?_,hle,hW,?_⟩
            · have e1:=hry w.drew h.m;have e2:=hrx w.drew h.m;simp[Builtin.append_,run_underlying hu,run_underlying hu',sizeOf,typeInfo,hi,Builtin.lenOf,hroom,h63,hfit',hne,Question.forced,e1,e2,newRow,zeroValue,hiz];rw[show(Question.appendCap (xs.length+ys.length) cap e).cut (w.tape w.drawn (Question.appendCap (xs.length+ys.length) cap e))=C from hC];exact⟨rfl,by congr 2;apply PR;simp⟩
            · refine l4 K5 hge hnm ⟨by simp[G.addL],rfl⟩ hsize (hkk.mono hle) (λ_=>⟨w.heap.size,0,rfl,λj u hj=>?_⟩);obtain⟨hlt,rfl⟩:=M5.1 hj;simp only[G.addL,G.addM,OF,World.size_drew,if_true];rw[if_pos (by simp[hfx,hfy,←PK]at hlt;exact hlt)];simp[Pi,K4 hlt]
        · cases he
      · cases he
    · cases he
  · cases he
def kd(P:Sj)(T T':Sk)(x y:D)(s:St):Option (D×St):=
 match elemT P T,elemT P T' with
 |some (e,sz,by_,_),Sd _=>match zeroT P e with
  |some zs=>match y with
   |.slice _ ys =>
    if zs.length=sz∧0<sz∧0<by_∧by_≤1000000∧ys.all (·.length == sz)=Sh then
     match x with
     |.row0=>if ys=[]then Sd (.row0,s)else if ys.length≤1000000 then Sd (.row s.boxes.length 0 ys.length sz,{s with boxes:=s.boxes++[.cells ys.flatten]})else Sf
     |.row b off n rsz=>match s.boxes[b]? with
      |some (.cells cs)=>if rsz=sz∧off=0∧cs.length=n*sz∧n+ys.length≤1000000 then Sd (.row s.boxes.length 0 (n+ys.length) sz,{s with boxes:=s.boxes.set b .dead++[.cells (cs++ys.flatten)]})else Sf
      |_=>Sf
     |_=>Sf
    else Sf
   |_=>Sf
  |none=>Sf
 |_,_=>Sf
variable {T':Sk}{y:D}
theorem AK{ty:Sk}(h:WRel w g s)(hx:R g x v)(hy:R g y u)(he:kd P T T' x y s=Sd (d,s')) :
  Ok P (Builtin.append_ #[T,T'] ty #[v,u]) w g d s':=by
 unfold kd at he;split at he
 ·rename_i e sz by_ ag el' h1 h1';split at he
  ·rename_i zs hz;split at he
   ·rename_i oy ys;split at he
    ·rename_i hcond;obtain⟨hzs,hsz,hby0,hby,hys⟩:=hcond;obtain⟨hu,⟨i,hi,rfl,rfl⟩,_⟩:=bZ h1;obtain⟨e',n',b',ag'⟩:=el';obtain⟨hu',_,_⟩:=bZ h1';obtain⟨z,hzv,hzok⟩:=gU hz;have hiz:i.zero=Sd z:=by simpa[zeroV,hi]using hzv
     have hzc:z.cells.size=i.size:=by have:=(hzok g).1;simp at this;omega
     obtain⟨b,capy,szy,fy,rfl,hcy,hmy,hoy,hsy,hky,hay⟩:=gX hy;have hys':∀c∈ys,c.length=i.size:=by
      intro c hc;simpa using N0.1 hys c hc
     have hfy:fy.length=ys.length*i.size:=by rw[←hky.1,bX ys hys']
     have hne:i.bytes≠0:=by omega
     have hry:∀W:Sl,(∀b o v,g.M b o=Sd v→W.cell? ⟨b,o,Sf⟩=Sd v)→(Builtin.firstCells i.size ys.length (.slice b ys.length capy)).run P W=.ok fy.toArray W:=by
      intro W hW;rcases O8 ys.length with e0|e0
      ·have:fy=[]:=O1 (by rw[hfy,e0];simp)
       subst this;cases b with
       |none=>exact run_firstCells_none _ _ _ _ _
       |some b=>exact run_firstCells_some _ _ _ _ _ _ [] (by simp[e0]) (λj v hj=>by simp at hj)
      ·obtain⟨blk,off,rfl,hMy⟩:=hay e0;exact run_firstCells_some _ _ _ _ _ _ fy hfy (λj v hj=>by rw[cB];exact hW _ _ _ (hMy j v hj))
     split at he
     ·-- nil
      cases hx with
      |row0 a =>
       split at he
       ·rename_i hnil;subst hnil;cases he;have hfy0:fy=[]:=O1 (by rw[hfy];simp);subst hfy0;have:=hry w h.m
        simp only[L4]at this;refine⟨.slice a 0 0,w,g,?_,.refl g,h,.row0 a⟩;cases a<;>simp[Builtin.append_,run_underlying hu,run_underlying hu',sizeOf,typeInfo,hi,Builtin.lenOf,storeCells,this]
       ·rename_i hnil;split at he
        ·rename_i hlen;cases he;have hpos:0<ys.length:=List.length_pos_iff.2 hnil;have hroom:¬(0+ys.length≤0):=by omega
         have h63:¬(9223372036854775807<((0:Nat):Int)+(ys.length:Int)):=by omega
         have hfit:Builtin.nextslicecap (0+ys.length) 0*i.bytes≤281474976710656:=growslice_fits (by omega) (by
          calc (0+ys.length)*i.bytes≤1000000*1000000:=Qr (by omega) hby
           _≤140737488355328:=by omega)
         have hfit':¬(281474976710656<Builtin.nextslicecap (0+ys.length) 0*i.bytes):=by omega
         have hge:=grownCap_ge w (0+ys.length) 0 e;generalize hC:grownCap w (0+ys.length) 0 e=C at hge;obtain⟨arr,harr⟩:∃arr,arr=fy.toArray++Builtin.zeroCells z.cells (C-(0+ys.length)):=⟨_,rfl⟩;have hasz:arr.size=C*i.size:=by rw[harr];simp only[Q5,PZ,hfy,size_zeroCells,hzc,←PK];congr 1;omega
         have hBn:g.B s.boxes.length=Sf:=kv h (K6 _);have hle0:g.le (g.addB s.boxes.length w.heap.size):=jP hBn;obtain⟨hle1,hW1⟩:=h.drew.newBox (.cells arr e) rfl (.cells ys.flatten) ⟨w.heap.size,arr,e,(0,0),by simp[G.addB],bB _ _,by rw[hky.1,harr];simp,
          λj q1 q2=>by
           have hj:j<fy.length:=by rw[←hky.1];exact q1
           have:=hky.2 j q1 hj
           have e2:arr[j]=fy[j]:=by
            have:arr[j]?=Sd fy[j]:=by rw[harr,PE (by simpa using hj)];simp[hj]
            rw[OI q2]at this;exact Pk.inj this
           rw[e2];exact⟨this.1.mono hle0,this.2⟩,λo=>rU h (K6 _) o,rfl⟩
         obtain⟨hle2,hW2⟩:=hW1.addS (bB _ _);refine⟨.slice (Sd ⟨w.heap.size,0,Sf⟩) ys.length C,w.drew.alloc (.cells arr e),_,?_,hle1.trans hle2,hW2,?_⟩
         ·have e1:=hry w.drew h.m;have e2:∀W:Sl,(Builtin.firstCells i.size 0 (.slice a 0 0)).run P W=.ok #[] W:=by
           intro W;cases a with
           |none=>exact run_firstCells_none _ _ _ _ _
           |some b=>exact run_firstCells_some _ _ _ _ _ _ [] (by simp) (λj v hj=>by simp at hj)
          simp only[OF]at h63 hfit' hC hroom;have hroom':¬ys=[]:=hnil;have h63':¬(9223372036854775807<(ys.length:Int)):=by omega
          simp[Builtin.append_,run_underlying hu,run_underlying hu',sizeOf,typeInfo,hi,Builtin.lenOf,hroom',h63',hfit',hne,Question.forced,e1,e2,newRow,zeroValue,hiz];rw[show(Question.appendCap ys.length 0 e).cut (w.tape w.drawn (Question.appendCap ys.length 0 e))=C from hC];rw[harr];refine⟨rfl,by congr 2;simp[OF]⟩
         ·refine .row _ _ _ _ w.heap.size arr.size C (by simp[G.addB,G.addS]) (by simp[G.addS]) (by omega) (by simp[mE];omega) hsz (by omega)
        ·cases he
     ·-- a row
      rename_i bx off n rsz;split at he
      ·rename_i cs hbx;split at he
       ·rename_i hc;obtain⟨rfl,rfl,hcs,hlen⟩:=hc;cases he;cases hx with
        |row _ _ _ _ blk m cap hB hS hcap hn hz0 hm =>
         obtain⟨blk',arr,T0,fr,q1,q2,q3,q4,q5⟩:=h.box bx _ hbx;rw[hB]at q1;cases q1;have hN:=(h.dom bx blk hB).2.1;obtain⟨a2,T2,f2,e1,e2⟩:=h.sz blk m hS;rw[q2]at e1;cases e1;have hlive:∀i,Live1 {s with boxes:=s.boxes.set bx .dead} i→g.B i≠Sd blk:=by
          intro j hj hjB;obtain⟨l1,l2⟩:=gw hj;exact l2 (h.inj j bx blk hjB hB l1 ⟨_,hbx,by simp⟩)
         by_cases hroom:n+ys.length≤cap
         ·-- it fits
          have hmul:n*i.size+fy.length≤cap*i.size:=by
           rw[hfy,←PK];exact OT _ hroom
          obtain⟨w',arr',hr,hw',hh',hs',hcc,hkeep⟩:=WRel.storeFree (P:=P) (off:=n*i.size) hN hlive fy w 0 arr T0 fr q5.2 (h.kill bx) q2 (by omega)
           (λj hj=>q5.1 _) (λv hv=>by obtain⟨j,hj,rfl⟩:=Oa hv;exact(hky.2 j (by rw[hky.1];exact hj) hj).2)
          obtain⟨hle,hW⟩:=hw'.rebox (cs:=cs++ys.flatten) hN hh' q5.2 (by rw[K5,hky.1];omega) (λj h1 h2=>by
           by_cases hj:j<cs.length
           ·rw[OS hj];have e3:=hkeep j (by omega);rw[OI h2,OI (by omega)]at e3;rw[Pk.inj e3];exact q4 j hj (by omega)
           ·rw[ON (by omega)];have hj2:j-cs.length<fy.length:=by rw[K5,hky.1]at h1;omega
            have e3:=hcc (j-cs.length) hj2;rw[show n*i.size+0+(j-cs.length)=j by omega,OI h2]at e3;rw[Pk.inj e3];exact hky.2 _ _ _) q5.1 hlive ⟨bx,hB⟩
          refine⟨.slice (Sd ⟨blk,0,Sf⟩) (n+ys.length) cap,w',_,?_,hle,by simpa using hW,?_⟩
          ·simp[Builtin.append_,run_underlying hu,run_underlying hu',sizeOf,typeInfo,hi,Builtin.lenOf,hroom,hry w h.m,cB,hr]
          ·exact .row _ _ _ _ blk arr.size cap (by simp[G.addB]) (by simp only[G.addB];rw[e2];exact hS) hroom (by simp[mE];omega) hsz (by omega)
         ·-- a new row
          have h63:¬(9223372036854775807<(n:Int)+(ys.length:Int)):=by omega
          have hfit:Builtin.nextslicecap (n+ys.length) cap*i.bytes≤281474976710656:=growslice_fits (by omega) (by
           calc (n+ys.length)*i.bytes≤1000000*1000000:=Qr hlen hby
            _≤140737488355328:=by omega)
          have hfit':¬(281474976710656<Builtin.nextslicecap (n+ys.length) cap*i.bytes):=by omega
          have hge:=grownCap_ge w (n+ys.length) cap e;generalize hC:grownCap w (n+ys.length) cap e=C at hge;obtain⟨fx,hfx⟩:∃fx,fx=arr.toList.take (n*i.size):=⟨_,rfl⟩;have hfxl:fx.length=n*i.size:=by rw[hfx];simp;omega
          have hrx:∀W:Sl,W.heap=w.heap→(Builtin.firstCells i.size n (.slice (Sd ⟨blk,0,Sf⟩) n cap)).run P W=.ok fx.toArray W:=by
           intro W hW;refine run_firstCells_some _ _ _ _ _ _ fx hfxl (λj v hj=>?_);rw[cB];obtain⟨hlt,rfl⟩:=M5.1 hj;have hlt2:j<arr.size:=by rw[hfxl]at hlt;omega
           simp[World.cell?,hW,q2,hlt2,hfx]
          obtain⟨arr2,harr⟩:∃arr2,arr2=fx.toArray++fy.toArray++Builtin.zeroCells z.cells (C-(n+ys.length)):=⟨_,rfl⟩;have hasz:arr2.size=C*i.size:=by rw[harr];simp only[Q5,PZ,hfxl,hfy,size_zeroCells,hzc,←PK];congr 1;omega
          have hkk:CellsOk g (cs++ys.flatten) (fx++fy):=CellsOk.append ⟨by omega,λj h1 h2=>by
           have hlt2:j<arr.size:=by omega
           have e3:fx[j]=arr[j]:=by simp[hfx]
           rw[e3];exact q4 j h1 hlt2⟩ hky
          have hk:=h.drew.kill bx;have hBn:g.B s.boxes.length=Sf:=kv h (K6 _);have hle0:g.le (g.addB s.boxes.length w.heap.size):=jP hBn;obtain⟨hle1,hW1⟩:=hk.newBox (.cells arr2 e) rfl (.cells (cs++ys.flatten)) ⟨w.heap.size,arr2,e,(0,0),by simp[G.addB],bB _ _,by rw[hkk.1,harr];simp,
           λj p1 p2=>by
            have hj:j<(fx++fy).length:=by rw[←hkk.1];exact p1
            have:=hkk.2 j p1 hj
            have e2:arr2[j]=(fx++fy)[j]:=by
             have:arr2[j]?=Sd (fx++fy)[j]:=by
              rw[harr,PE (by simpa using hj)];rw[show fx.toArray++fy.toArray=(fx++fy).toArray by simp];simp only[P6];exact K4 hj
             rw[OI p2]at this;exact Pk.inj this
            rw[e2];exact⟨this.1.mono (by simpa using hle0),this.2⟩,λo=>rU h (K6 _) o,rfl⟩
          obtain⟨hle2,hW2⟩:=hW1.addS (bB _ _);refine⟨.slice (Sd ⟨w.heap.size,0,Sf⟩) (n+ys.length) C,w.drew.alloc (.cells arr2 e),_,?_,hle1.trans hle2,by simpa using hW2,?_⟩
          ·have e1:=hry w.drew h.m;have e2:=hrx w.drew rfl;simp[Builtin.append_,run_underlying hu,run_underlying hu',sizeOf,typeInfo,hi,Builtin.lenOf,hroom,h63,hfit',hne,Question.forced,e1,e2,newRow,zeroValue,hiz];rw[show(Question.appendCap (n+ys.length) cap e).cut (w.tape w.drawn (Question.appendCap (n+ys.length) cap e))=C from hC];rw[harr];exact⟨rfl,by congr 2;apply PR;simp⟩
          ·refine .row _ _ _ _ w.heap.size arr2.size C (by simp[G.addB,G.addS]) (by simp[G.addS]) (by omega) (by simp[mE];omega) hsz (by omega)
       ·cases he
      ·cases he
     ·cases he
    ·cases he
   ·cases he
  ·cases he
 ·cases he
theorem DX{zs:List D}:∀(n j:Nat)(h:j<(Oi n zs).flatten.length),0<zs.length→∃h2:j % zs.length<zs.length,(Oi n zs).flatten[j]=zs[j % zs.length]:=by
 intro n;induction n with
 |zero=>intro j h;simp at h
 |succ n ih =>
  intro j h hz;have h':j<zs.length+(Oi n zs).flatten.length:=by simpa[QW]using h
  refine⟨QE _ hz,?_⟩;have e:(Oi (n+1) zs).flatten=zs++(Oi n zs).flatten:=by simp[QW]
  by_cases hj:j<zs.length
  ·have:(Oi (n+1) zs).flatten[j]?=zs[j]?:=by rw[e,Ou hj]
   rw[K4 h,K4 hj]at this;rw[Pk.inj this];congr 1;exact(R6 hj).symm
  ·obtain⟨h2,e2⟩:=ih (j-zs.length) (by omega) hz;have:(Oi (n+1) zs).flatten[j]?=(Oi n zs).flatten[j-zs.length]?:=by rw[e,Oc (by omega)]
   rw[K4 h,K4 (by omega)]at this;rw[Pk.inj this,e2];congr 1;rw[RY (by omega:j≥zs.length)]
def mh(P:Sj)(T T':Sk)(b off n c rsz:Nat)(y:D)(s:St):Option (D×St):=
 match elemT P T,P.underlying T',y with
 |some (e,sz,by_,_),Sd (.int _),.int _ k=>match zeroT P e,s.boxes[b]? with
  |some zs,Sd (.cells cs)=>if zs.length=sz∧0<sz∧0<by_∧by_≤1000000∧rsz=sz∧0<k∧(c:Int)<n+k∧n+k≤1000000∧off+n*sz≤cs.length then
    Sd (.row s.boxes.length 0 (n+k.toNat) sz,{s with boxes:=s.boxes++[.cells ((cs.drop off).take (n*sz)++(Oi k.toNat zs).flatten)]})else Sf
  |_,_=>Sf
 |_,_,_=>Sf
theorem AL{ty:Sk}{off rsz:Nat}(h:WRel w g s)(hx:R g (.msl b off n c rsz) v)(hy:R g y u)(he:mh P T T' b off n c rsz y s=Sd (d,s')) :
  Ok P (Builtin.append_ #[T,T'] ty #[v,u]) w g d s':=by
 unfold mh at he;split at he
 ·rename_i e sz by_ ag kn kq k h1 h2;split at he
  ·rename_i zs cs hz hb;split at he
   ·rename_i hc;obtain⟨c1,c2,c3,c4,rfl,c5,c6,c7,c8⟩:=hc;cases he;cases hy;obtain⟨hu,⟨i,hi,rfl,rfl⟩,_⟩:=bZ h1;obtain⟨z,hzv,hzok⟩:=gU hz;have hiz:i.zero=Sd z:=by simpa[zeroV,hi]using hzv
    have hzk:=hzok g;have hzc:z.cells.size=i.size:=by have:=hzk.1;simp at this;omega
    obtain⟨k,rfl⟩:∃m:Nat,(m:Int)=k:=⟨k.toNat,by omega⟩;simp only[Int.toNat_natCast]at *;cases hx with
    |msl _ _ _ _ _ blk M hB hS hcap hz0 hM =>
     obtain⟨blk',arr,T0,fr,q1,q2,q3,q4,q5⟩:=h.box b _ hb;rw[hB]at q1;cases q1;obtain⟨fx,hfx⟩:∃fx,fx=(arr.toList.drop off).take (n*i.size):=⟨_,rfl⟩;have hfxl:fx.length=n*i.size:=by rw[hfx];simp;omega
     have hold:(Builtin.firstCells i.size n (.slice (Sd ⟨blk,off,Sf⟩) n c)).run P w.drew=.ok fx.toArray w.drew:=by
      refine run_firstCells_some _ _ _ _ _ _ fx hfxl (λj v hj=>?_);rw[cB];obtain⟨hlt,rfl⟩:=M5.1 hj;have hlt2:off+j<arr.size:=by rw[hfxl]at hlt;omega
      simp[World.cell?,show w.drew.heap=w.heap from rfl,q2,hlt2,hfx]
     have hfit:Builtin.nextslicecap (n+k) c*i.bytes≤281474976710656:=growslice_fits (by omega) (by
      calc (n+k)*i.bytes≤1000000*1000000:=Qr (by omega) c4
       _≤140737488355328:=by omega)
     have hkb:k*i.bytes≤281474976710656:=by
      calc k*i.bytes≤1000000*1000000:=Qr (by omega) c4
       _≤281474976710656:=by omega
     have hrun:=Lib.run_append_grow_zeros (P:=P) w T T' ty e i z kq kn hu h2 hi hiz (Sd ⟨blk,off,Sf⟩) n c fx hold k (by omega) c2 (by omega) (by omega) hkb hfit;have hge:=grownCap_ge w (n+k) c e;generalize hC:grownCap w (n+k) c e=C at hge hrun;obtain⟨arr2,harr⟩:∃arr2,arr2=fx.toArray++Builtin.zeroCells z.cells k++Builtin.zeroCells z.cells (C-(n+k)):=⟨_,rfl⟩;rw[←harr]at hrun;have hasz:arr2.size=C*i.size:=by rw[harr];simp only[Q5,PZ,hfxl,size_zeroCells,hzc,←PK];congr 1;omega
     have hlen:((cs.drop off).take (n*i.size)).length=n*i.size:=by simp;omega
     have hll:(n+k)*i.size≤C*i.size:=OT _ hge;have hrl:(Oi k zs).flatten.length=k*i.size:=by simp[c1]
     have hBn:g.B s.boxes.length=Sf:=kv h (K6 _);have hle0:g.le (g.addB s.boxes.length w.heap.size):=jP hBn;obtain⟨hle1,hW1⟩:=h.drew.newBox (.cells arr2 e) rfl (.cells ((cs.drop off).take (n*i.size)++(Oi k zs).flatten)) ⟨w.heap.size,arr2,e,(0,0),by simp[G.addB],bB _ _,by rw[K5,hlen,hrl,hasz,←PK];exact hll,
      λj p1 p2=>by
       by_cases hj:j<n*i.size
       ·have hja:off+j<arr.size:=by omega
        have hjc:off+j<cs.length:=by omega
        have:=q4 (off+j) hjc hja
        have e2:arr2[j]?=Sd arr[off+j]:=by
         rw[harr,PE (by simp[hfxl];omega),PE (by simp[hfxl];omega)];simp only[P6,hfx];rw[List.getElem?_take_of_lt hj,Qi];simp[hja]
        rw[OI p2]at e2;rw[Pk.inj e2,OS (by rw[hlen];exact hj)];simp only[PJ,PY];exact⟨this.1.mono (by simpa using hle0),this.2⟩
       ·have hj2:j-n*i.size<(Oi k zs).flatten.length:=by rw[K5,hlen]at p1;omega
        obtain⟨h3,e3⟩:=DX k (j-n*i.size) hj2 (by omega);have hjk:j-n*i.size<k*i.size:=by rw[←hrl];exact hj2
        have hm:(j-n*i.size) % i.size<z.cells.size:=by rw[hzc];exact QE _ c2
        have e2:arr2[j]?=Sd z.cells[(j-n*i.size) % i.size]:=by
         rw[harr,PE (by simp[hfxl,size_zeroCells,hzc];omega),Array.getElem?_append_right (by simp[hfxl];omega)];simp only[PZ,hfxl,Builtin.zeroCells,RZ,hzc];rw[Array.getElem?_range,if_pos (by omega)];simp only[Po,Pk.injEq];exact getElem!_pos z.cells _ hm
        rw[OI p2]at e2;rw[Pk.inj e2,ON (by rw[hlen];omega)];have:=hzk.2 ((j-n*i.size) % zs.length) h3 (by simp;omega)
        simp only[hlen,e3];simp only[c1,O7]at this⊢;exact⟨this.1.mono (by simpa using hle0),this.2⟩,λo=>rU h (K6 _) o,rfl⟩
     obtain⟨hle2,hW2⟩:=hW1.addS (bB _ _);refine⟨.slice (Sd ⟨w.heap.size,0,Sf⟩) (n+k) C,w.drew.alloc (.cells arr2 e),_,hrun,hle1.trans hle2,by simpa using hW2,?_⟩;exact .row _ _ _ _ w.heap.size arr2.size C (by simp[G.addB,G.addS]) (by simp[G.addS]) (by omega) (by simp[mE];omega) c2 (by omega)
   ·cases he
  ·cases he
 ·cases he
def cW(P:Sj)(T T':Sk)(x y:D)(s:St):Option (D×St):=
 match x with
 |.slice o xs=>mi P T T' (.slice o xs) y s
 |.msl b off n c rsz=>mh P T T' b off n c rsz y s
 |x=>kd P T T' x y s
theorem Ec{ty:Sk}(h:WRel w g s)(hx:R g x v)(hy:R g y u)(he:cW P T T' x y s=Sd (d,s')) :
  Ok P (Builtin.append_ #[T,T'] ty #[v,u]) w g d s':=by
 unfold cW at he;split at he
 ·exact AM h hx hy he
 ·exact AL h hx hy he
 ·exact AK h hx hy he
def gE(P:Sj)(T:Sk)(x:D)(s:St):Option D:=
 match P.underlying T,x with
 |some (.slice _),.slice _ xs=>Sd (.int .i64 xs.length)
 |some (.slice _),.msl _ _ len _ _=>Sd (.int .i64 len)
 |some (.slice _),.row0=>Sd (.int .i64 0)
 |some (.slice _),.row _ _ n _=>Sd (.int .i64 n)
 |some .string,.str b=>Sd (.int .i64 b.size)
 |some (.map _ _),.nilm=>Sd (.int .i64 0)
 |some (.map _ _),.map b=>match s.boxes[b]? with
  |some (.map es)=>Sd (.int .i64 es.length)
  |_=>Sf
 |_,_=>Sf
theorem MJ{ty:Sk}(h:WRel w g s)(hx:R g x v)(he:gE P T x s=Sd d) :
  Ok P (Builtin.len_ #[T] ty #[v]) w g d s:=by
 unfold gE at he;split at he
 ·rename_i e o xs hu;cases he;obtain⟨a,cap,_,_,rfl,_⟩:=gX hx;exact⟨_,w,g,by simp[Builtin.len_,run_underlying hu,goInt],.refl g,h,.int _ _⟩
 ·rename_i e b off len cap msz hu;cases he;cases hx;exact⟨_,w,g,by simp[Builtin.len_,run_underlying hu,goInt],.refl g,h,.int _ _⟩
 ·rename_i e hu;cases he;cases hx;exact⟨_,w,g,by simp[Builtin.len_,run_underlying hu,goInt],.refl g,h,.int _ _⟩
 ·rename_i e b off n sz hu;cases he;cases hx;exact⟨_,w,g,by simp[Builtin.len_,run_underlying hu,goInt],.refl g,h,.int _ _⟩
 ·rename_i b hu;cases he;cases hx;exact⟨_,w,g,by simp[Builtin.len_,run_underlying hu,goInt],.refl g,h,.int _ _⟩
 ·rename_i a b hu;cases he;cases hx;exact⟨_,w,g,by simp[Builtin.len_,run_underlying hu,goInt],.refl g,h,.int _ _⟩
 ·rename_i a b c hu;split at he
  ·rename_i es hb;cases he;cases hx with
   |map _ r hB =>
    obtain⟨b',ents,clock,h1,h2,h3,h4⟩:=h.box c _ hb;rw[hB]at h1;cases h1;exact⟨.int .i64 es.length,w,g,by simp[Builtin.len_,run_underlying hu,getObj,Sem.run,h2,goInt,h3],.refl g,h,.int _ _⟩
  ·cases he
 ·cases he
def fI(P:Sj)(T:Sk)(x i:D):Option D:=
 match elemT P T,x,i with
 |some (_,sz,_,_),.slice _ xs,.int _ n=>match (if 0≤n then xs[n.toNat]? else Sf)with
  |some c=>if c.length=sz then Sd (.pin c)else Sf
  |none=>Sf
 |some (_,sz,_,_),.msl b off len _ _,.int _ n=>if 0≤n∧n<len then Sd (.box b (off+n.toNat*sz))else Sf
 |some (_,sz,_,_),.row b off len _,.int _ n=>if 0≤n∧n<len then Sd (.box b (off+n.toNat*sz))else Sf
 |_,_,_=>Sf
variable {i:D}
theorem uG(h:WRel w g s)(hx:R g x v)(hi:R g i u)(he:fI P T x i=Sd d) :
  Ok P (Instr.indexAt T v u) w g d s:=by
 unfold fI at he;split at he
 ·rename_i e sz by_ ag o xs k n h1;obtain⟨hu,⟨inf,hinf,rfl,rfl⟩,_⟩:=bZ h1;split at he
  ·rename_i c hc;split at he
   ·rename_i hlen;cases he;split at hc
    ·rename_i hn;obtain⟨hlt,rfl⟩:=M5.1 hc;cases hi;cases hx with
     |slice _ _ a cap sz blk off val hc' hm ho hs ha hM hv hR =>
      have ha':=ha (by omega);subst ha';have hsz:sz=inf.size:=by rw[←hs _ hlt,hlen]
      subst hsz;refine⟨.pointer (Sd ⟨blk,off+n.toNat*inf.size,Sf⟩),w,g,?_,.refl g,h,.pin _ blk _ (λj=>val n.toNat j) (λj hj=>hM _ _ hlt (by omega)) (λj hj=>hv _ _ hlt (by omega)) (λj hj=>hR _ _ hlt hj)⟩;have hn':n<(xs.length:Int):=by omega
      simp[Instr.indexAt,asIntOf,run_underlying hu,hn,hn',sizeOf,typeInfo,hinf,cB]
    ·cases hc
   ·cases he
  ·cases he
 ·rename_i e sz by_ ag b off len cap msz k n h1;obtain⟨hu,⟨inf,hinf,rfl,rfl⟩,_⟩:=bZ h1;split at he
  ·rename_i hn;cases he;cases hi;cases hx with
   |msl _ _ _ _ _ blk m hB hS hc hz hm =>
    refine⟨.pointer (Sd ⟨blk,off+n.toNat*inf.size,Sf⟩),w,g,?_,.refl g,h,.box _ _ _ hB⟩;simp[Instr.indexAt,asIntOf,run_underlying hu,hn.1,hn.2,sizeOf,typeInfo,hinf,cB]
  ·cases he
 ·rename_i e sz by_ ag b off len rsz k n h1;obtain⟨hu,⟨inf,hinf,rfl,rfl⟩,_⟩:=bZ h1;split at he
  ·rename_i hn;cases he;cases hi;cases hx with
   |row _ _ _ _ blk m cap hB hS hc hn' hz hm =>
    refine⟨.pointer (Sd ⟨blk,off+n.toNat*inf.size,Sf⟩),w,g,?_,.refl g,h,.box _ _ _ hB⟩;simp[Instr.indexAt,asIntOf,run_underlying hu,hn.1,hn.2,sizeOf,typeInfo,hinf,cB]
  ·cases he
 ·cases he
def C6(P:Sj)(T:Sk):Option (Nat×Nat):=
 match P.underlying T with
 |some (.array n e)=>(sizeT P e).map λz=>(n,z)
 |_=>Sf
def cK(P:Sj)(T:Sk)(x i:D):Option D:=
 match x,i with
 |.box b off,.int _ n=>match C6 P T with
  |some (len,z)=>if 0≤n∧n<len then Sd (.box b (off+n.toNat*z))else Sf
  |none=>Sf
 |.pin cs,.int _ n=>match C6 P T with
  |some (len,z)=>if 0≤n∧n<len then Sd (.pin (cs.drop (n.toNat*z)))else Sf
  |none=>Sf
 |x,i=>fI P T x i
variable {z:Nat}{k:IntKind}
theorem oF{len:Nat}{n:Int}{a:Addr}(ha:C6 P T=Sd (len,z))(hn:0≤n∧n<len)(w:Sl):(Instr.indexAt T (.pointer (Sd a)) (.int k n)).run P w=.ok (.pointer (Sd (a.add (n.toNat*z)))) w:=by
 unfold C6 at ha;split at ha
 ·rename_i m e hu;obtain⟨q,hq,e1⟩:=Ox.1 ha;cases e1;simp[Instr.indexAt,asIntOf,run_underlying hu,Instr.sureAddr,hn.1,hn.2,ci hq]
 ·cases ha
theorem ww(h:WRel w g s)(hx:R g x v)(hi:R g i u)(he:cK P T x i=Sd d) :
  Ok P (Instr.indexAt T v u) w g d s:=by
 unfold cK at he;split at he
 ·rename_i b off k n;split at he
  ·rename_i len z ha;split at he
   ·rename_i hn;cases he;cases hi;cases hx with
    |box _ _ blk hB =>
     refine⟨_,w,g,oF ha hn w,.refl g,h,?_⟩;rw[cB];exact .box _ _ _ hB
   ·cases he
  ·cases he
 ·rename_i cs k n;split at he
  ·rename_i len z ha;split at he
   ·rename_i hn;cases he;cases hi;cases hx with
    |pin _ blk off val hM hv hR =>
     refine⟨_,w,g,oF ha hn w,.refl g,h,?_⟩;rw[cB];refine .pin _ blk _ (λj=>val (n.toNat*z+j)) (λj hj=>?_) (λj hj=>hv _ (by simp at hj;omega)) (λj hj=>?_)
     ·have:=hM (n.toNat*z+j) (by simp at hj;omega)
      rwa[←PP]at this
     ·simp only[PY];exact hR _ (by simp at hj;omega)
   ·cases he
  ·cases he
 ·exact uG h hx hi he
def kZ(P:Sj)(T:Sk)(x i:D):Option D:=
 match P.underlying T,x,i with
 |some .string,.str b,.int _ n=>match (if 0≤n then b[n.toNat]? else Sf)with
  |some c=>Sd (.int .u8 c.toNat)
  |none=>Sf
 |_,_,_=>Sf
theorem GA(h:WRel w g s)(hx:R g x v)(hi:R g i u)(he:kZ P T x i=Sd d) :
  Ok P (Instr.index T v u) w g d s:=by
 unfold kZ at he;split at he
 ·rename_i b k n hu;split at he
  ·rename_i c hc;cases he;cases hx;cases hi;refine⟨.int .u8 c.toNat,w,g,?_,.refl g,h,.int _ _⟩;simp only[Instr.index,asIntOf,Sem.run_bind,Sem.run_pure,Result.andThen_ok,run_underlying hu];rw[hc];rfl
  ·cases he
 ·cases he
def iD(place:Nat→Option (Nat×Nat))(cs:List D):List (Nat×D)→Option (List D)
 | []=>Sd cs
 |(i,x)::rest =>
  match place i,cellsD x with
  |some (off,n),Sd ds=>if ds.length=n∧off+n≤cs.length then iD place (storeD cs off (ds.map D.keep1)) rest else Sf
  |_,_=>Sf
theorem vX:∀(us:List So)(k off:Nat)(ds cs:List D)(vs:Array So),CellsOk g cs vs.toList→CellsOk g ds us→off+k+ds.length≤cs.length →
  CellsOk g (setR cs (off+k) ds) ((us.zipIdx k).foldl (λc x=>c.setIfInBounds (off+x.2) x.1) vs).toList∧((us.zipIdx k).foldl (λc x=>c.setIfInBounds (off+x.2) x.1) vs).size=vs.size:=by
 intro us;induction us with
 |nil =>
  intro k off ds cs vs h hd _;have:ds=[]:=O1 (by rw[hd.1];rfl)
  subst this;exact⟨h,rfl⟩
 |cons u us ih =>
  intro k off ds cs vs h hd hl;cases ds with
  |nil=>have:=hd.1;simp at this
  |cons d ds =>
   simp only[K7]at hl;have h0:=hd.2 0 (by simp) (by simp);simp only[Pj]at h0;have hcs:CellsOk g (cs.set (off+k) d) (vs.setIfInBounds (off+k) u).toList:=by
    refine⟨by simpa using h.1,λj h1 h2=>?_⟩;simp only[Array.toList_setIfInBounds];by_cases e:off+k=j
    ·subst e;simp only[Rb];exact h0
    ·rw[QD e,QD e];exact h.2 j (by simpa using h1) (by simpa using h2)
   have:=ih (k+1) off ds (cs.set (off+k) d) (vs.setIfInBounds (off+k) u) hcs ⟨by have:=hd.1;simpa using this,λj h1 h2=>hd.2 (j+1) (by simpa using h1) (by simpa using h2)⟩ (by simp;omega)
   refine⟨by simpa[setR,List.zipIdx_cons,PP]using this.1,by simpa[List.zipIdx_cons]using this.2⟩
theorem CM{place:Nat→Option (Nat×Nat)}:∀(ps:List (Nat×D))(qs:List (Nat×So))(cs cs':List D)(vs:Array So),CellsOk g cs vs.toList →
  ps.length=qs.length→(∀(j:Nat)(h1:j<ps.length)(h2:j<qs.length),ps[j].1=qs[j].1∧R g ps[j].2 qs[j].2)→iD place cs ps=Sd cs' →
  ∃vs',Instr.fill place vs qs=Sd vs'∧CellsOk g cs' vs'.toList:=by
 intro ps;induction ps with
 |nil =>
  intro qs cs cs' vs h hl _ he;cases qs with
  |nil=>cases he;exact⟨vs,rfl,h⟩
  |cons q qs=>simp at hl
 |cons p ps ih =>
  intro qs cs cs' vs h hl hR he;cases qs with
  |nil=>simp at hl
  |cons q qs =>
   obtain⟨i,x⟩:=p;obtain⟨i',v⟩:=q;have h0:=hR 0 (by simp) (by simp);simp only[Pj]at h0;obtain⟨rfl,hx⟩:=h0;simp only[iD]at he;split at he
   ·rename_i off n ds hp hd;split at he
    ·rename_i hcond;have hk:=(mr hx hd).keep1;have hsz:v.cells.size=n:=by have:=hk.1;simp at this;omega
     have hvs:vs.size=cs.length:=by have:=h.1;simp at this;exact this.symm
     obtain⟨f1,f2⟩:=vX v.cells.toList 0 off (ds.map D.keep1) cs vs h hk (by simp;omega);rw[jW _ _ _ (by simp;omega)]at he;obtain⟨vs',e1,e2⟩:=ih qs _ cs' _ (by simpa using f1) (by simpa using hl) (λj h1 h2=>hR (j+1) (by simpa using h1) (by simpa using h2)) he;refine⟨vs',?_,e2⟩;simp only[Instr.fill,hp];rw[if_neg (by simp[hsz,hvs];omega)];rw[←e1];congr 1;rw[←Ro,RS]
    ·cases he
   ·cases he
def wW(g:G)(ps:List (Nat×D))(qs:Array (Nat×So)):Prop:=
 ps.length=qs.size∧∀(j:Nat)(h1:j<ps.length)(h2:j<qs.size),ps[j].1=qs[j].1∧R g ps[j].2 qs[j].2
def aH(P:Sj)(T:Sk)(f:Nat):Option (Nat×Nat):=match P.underlying T with
 |some (.array _ e)=>(sizeT P e).map λz=>(f*z,z)
 |_=>(fieldT P T f).map λx=>(x.1,x.2.1)
theorem sM{P:Sj}(w:Sl):∀(fs:List Field)(_:∀f∈fs,(sizeT P f.type).isSome=Sh),
  (fs.mapM (λf=>do pure (f.offset,←sizeOf f.type):Field→Sem (Nat×Nat))).run P w=.ok (fs.map λf=>(f.offset,(sizeT P f.type).getD 0)) w
 | [],_=>by simp
 |f::fs,h=>by
  obtain⟨n,hn⟩:=PB.1 (h f (by simp));have ih:=sM w fs (λf hf=>h f (by simp[hf]));rw[QR];simp only[Sem.run_bind,ci hn,Result.andThen_ok,Sem.run_pure,ih,OJ,hn,OB]
def bk(P:Sj)(T:Sk):Bool:=
 match P.underlying T with
 |some (.struct fs)=>fs.toList.all λf=>(sizeT P f.type).isSome&&(aU P f.type).isSome
 |some (.array _ e)=>(sizeT P e).isSome
 |_=>Se
def la(P:Sj)(T:Sk)(ps:List (Nat×D)):Option D:=
 if bk P T then match zeroT P T with
  |some zs=>match iD (aH P T) zs ps with
   |some cs=>Sd (.agg cs)
   |none=>Sf
  |none=>Sf
 else Sf
theorem GD{ps:List (Nat×D)}{qs:Array (Nat×So)}(h:WRel w g s)(hp:wW g ps qs)(he:la P T ps=Sd d) :
  Ok P (Instr.build T qs) w g d s:=by
 unfold la at he;split at he
 ·rename_i hst;split at he
  ·rename_i zs hz;split at he
   ·rename_i cs hf;cases he;obtain⟨z,hzv,hzok⟩:=gU hz;unfold bk at hst;split at hst
    ·rename_i fs hu;have hall:=N0.1 hst;obtain⟨vs',e1,e2⟩:=CM ps qs.toList zs cs z.cells (hzok g) (by simpa using hp.1) (λj h1 h2=>by
      have:=hp.2 j h1 (by simpa using h2);simpa using this) hf
     refine⟨.agg vs',w,g,?_,.refl g,h,?_⟩
     ·have hpl:=sM (P:=P) w fs.toList (λf hf=>by have:=hall f hf;simp at this;simp[this.1]);have hpl':(fs.mapM (λf=>do pure (f.offset,←sizeOf f.type):Field→Sem (Nat×Nat))).run P w=.ok (fs.map λf=>(f.offset,(sizeT P f.type).getD 0)) w:=by
       rw[Array.mapM_eq_mapM_toList];simp only[Sem.run_map,hpl,Result.andThen_ok];congr 1;apply PR;simp
      have hplace:(λi=>(fs.map λf=>(f.offset,(sizeT P f.type).getD 0))[i]?)=aH P T:=by
       funext i;simp only[aH,fieldT,hu,RZ];cases hfi:fs[i]? with
       |none=>simp
       |some f =>
        have hm:f∈fs.toList:=by
         obtain⟨hlt,rfl⟩:=Array.getElem?_eq_some_iff.1 hfi;simp
        have:=hall f hm
        simp only[M1]at this;obtain⟨n,hn⟩:=PB.1 this.1;obtain⟨a,ha⟩:=PB.1 this.2;simp[hn,ha]
      simp only[Instr.build,Sem.run_bind,gH hzv,Result.andThen_ok,run_underlying hu,hpl',hplace,e1,Sem.run_pure]
     ·exact e2.agg
    ·rename_i m e hu;obtain⟨q,hq⟩:=PB.1 hst;obtain⟨vs',e1,e2⟩:=CM ps qs.toList zs cs z.cells (hzok g) (by simpa using hp.1) (λj h1 h2=>by
      have:=hp.2 j h1 (by simpa using h2);simpa using this) hf
     refine⟨.agg vs',w,g,?_,.refl g,h,?_⟩
     ·have hplace:(λi=>Sd (i*q,q))=aH P T:=by
       funext i;simp only[aH,hu,hq,Po]
      simp only[Instr.build,Sem.run_bind,gH hzv,Result.andThen_ok,run_underlying hu,ci hq,hplace,e1,Sem.run_pure]
     ·exact e2.agg
    ·cases hst
   ·cases he
  ·cases he
 ·cases he
def eH(sz:Nat)(k:Nat):List (Nat×D)→Option (List (List D))
 | []=>Sd []
 |(i,x)::rest =>
  match cellsD x with
  |some ds=>if i=k∧ds.length=sz then match eH sz (k+1) rest with
    |some r=>Sd (ds.map D.plain1::r)
    |none=>Sf
   else Sf
  |none=>Sf
theorem Ba{sz:Nat}:∀(ps:List (Nat×D))(k:Nat)(r:List (List D)),eH sz k ps=Sd r→(∀x∈r,x.length=sz)∧r.length=ps.length:=by
 intro ps;induction ps with
 |nil=>intro k r h;cases h;simp
 |cons p ps ih =>
  intro k r h;obtain⟨i,x⟩:=p;simp only[eH]at h;split at h
  ·split at h
   ·rename_i hc;split at h
    ·rename_i ds _ r' hr;cases h;have:=ih _ _ hr
     refine⟨λy hy=>?_,by simp[this.2]⟩;rcases NX.1 hy with rfl|hy
     ·simp[hc.2]
     ·exact this.1 y hy
    ·cases h
   ·cases h
  ·cases h
theorem F9(ds:List D):∀(pre cs:List D),ds.length≤cs.length→setR (pre++cs) pre.length ds=pre++(ds++cs.drop ds.length):=by
 intro pre cs h;rw[←jW _ _ _ (by simp;omega)];simp[storeD,List.drop_append]
theorem A4{sz:Nat}:∀(ps:List (Nat×D))(qs:List (Nat×So))(k:Nat)(r:List (List D))(pre:List D)(vs:Array So)(post:List D),
  CellsOk g (pre++post) vs.toList→pre.length=k*sz→post.length=ps.length*sz→ps.length=qs.length →
  (∀(j:Nat)(h1:j<ps.length)(h2:j<qs.length),ps[j].1=qs[j].1∧R g ps[j].2 qs[j].2)→eH sz k ps=Sd r →
  ∃vs',Instr.fill (λi=>Sd (i*sz,sz)) vs qs=Sd vs'∧CellsOk g (pre++r.flatten) vs'.toList:=by
 intro ps;induction ps with
 |nil =>
  intro qs k r pre vs post h hpre hpost hl hR he;cases qs with
  |cons q qs=>simp at hl
  |nil =>
   cases he;have:post=[]:=O1 (by simpa using hpost)
   subst this;exact⟨vs,rfl,by simpa using h⟩
 |cons p ps ih =>
  intro qs k r pre vs post h hpre hpost hl hR he;cases qs with
  |nil=>simp at hl
  |cons q qs =>
   obtain⟨i,x⟩:=p;obtain⟨i',v⟩:=q;have h0:=hR 0 (by simp) (by simp);simp only[Pj]at h0;obtain⟨rfl,hx⟩:=h0;simp only[eH]at he;split at he
   ·rename_i ds hd;split at he
    ·rename_i hcond;obtain⟨rfl,hdl⟩:=hcond;split at he
     ·rename_i r' hr';cases he;have hk:=(mr hx hd).plain;have hpl:ds.length≤post.length:=by rw[hpost,hdl,K7,Qx];omega
      have hsz:v.cells.size=sz:=by have:=hk.1;simp at this;omega
      have hvs:vs.size=pre.length+post.length:=by have:=h.1;simp at this;omega
      obtain⟨f1,f2⟩:=vX v.cells.toList 0 (i*sz) (ds.map D.plain1) (pre++post) vs h hk (by simp;omega);rw[P9,←hpre,F9 _ _ _ (by simpa using hpl)]at f1;have f1':CellsOk g ((pre++ds.map D.plain1)++post.drop ds.length) ((v.cells.toList.zipIdx 0).foldl (λc x=>c.setIfInBounds (pre.length+x.2) x.1) vs).toList:=by
       simpa using f1
      obtain⟨vs',e1,e2⟩:=ih qs (i+1) r' _ _ _ f1' (by simp[hpre,hdl,Qx]) (by simp[hpost,hdl,Qx]) (by simpa using hl)
       (λj h1 h2=>hR (j+1) (by simpa using h1) (by simpa using h2)) hr'
      refine⟨vs',?_,by simpa using e2⟩;simp only[Instr.fill];rw[if_neg (by simp only[hsz,hvs,←hpre,ne_eq,not_true_eq_false,gt_iff_lt,Bool.or_eq_true,decide_eq_true_eq,false_or];omega)];rw[←e1];congr 1;rw[←Ro,RS,hpre]
     ·cases he
    ·cases he
   ·cases he
def ez(P:Sj)(T:Sk)(len:Nat)(ps:List (Nat×D)):Option D:=
 match elemT P T with
 |some (e,sz,_,_)=>match zeroT P e with
  |some zs=>if len*sz≤16777216∧ps.length=len∧len≤1000000∧zs.length=sz then match eH sz 0 ps with
   |some r=>Sd (.slice .full r)
   |none=>Sf
   else Sf
  |none=>Sf
 |none=>Sf
theorem uH {P:Sj} {w:Sl} {g:G} {s:St} {T:Sk} {len:Nat} {ps:List (Nat × D)} {qs:Array (Nat × So)} {d:D} (h:WRel w g s) (hp:wW g ps qs)
    (he:ez P T len ps=Sd d):Ok P (Instr.buildSlice T len qs) w g d s:=by
  unfold ez at he;split at he
  · rename_i e sz by_ ag h1;obtain⟨hu,⟨inf,hinf,rfl,rfl⟩,_⟩:=bZ h1;split at he
    · rename_i zs hz;split at he
      · rename_i hcond;obtain⟨hbig,hlen,hmax,hzs⟩:=hcond;split at he
        · rename_i r hr;cases he;obtain⟨hrs,hrl⟩:=Ba _ _ _ hr;obtain⟨z,hzv,hzok⟩:=gU hz;have hzc:z.cells.size=inf.size:=by have:=(hzok g).1;simp at this;omega
          have hgen:∀z0:Array So,(len*inf.size≠0→z0=z.cells)→∃cells,Instr.fill (λi=>Sd (i*inf.size,inf.size)) ((Array.range (len*inf.size)).map (z0[· % z0.size]!)) qs.toList=Sd cells∧CellsOk g r.flatten cells.toList:=by
            intro z0 hz0;have:=A4 (g:=g) (sz:=inf.size) ps qs.toList 0 r [] ((Array.range (len*inf.size)).map (z0[· % z0.size]!)) (Oi (len*inf.size) .junk)
              ⟨by simp,λj x1 x2=>by
                simp only[List.nil_append,List.getElem_replicate];refine⟨.junk _,?_⟩;have hj:j<len*inf.size:=by simpa using x1
                have hz0':=hz0 (by omega)
                have hpos : 0 < inf.size := by rcases O8 inf.size with e | e; · rw [e] at hj; simp at hj
                                               · exact e
                have hlt:j % inf.size<z.cells.size:=by rw[hzc];exact QE _ hpos
                simp only[Array.toList_map,OL,Array.toList_range,P8,hz0',hzc];rw[getElem!_pos z.cells _ hlt];exact((hzok g).get (j % inf.size) (by have:=(hzok g).1;simp at this;omega) hlt).2⟩
              (by simp) (by simp[hlen]) (by simpa using hp.1) (λj x1 x2=>by have:=hp.2 j x1 (by simpa using x2);simpa using this) hr
            simpa using this
          have hfin:∀cells:Array So,CellsOk g r.flatten cells.toList→∃g',g.le g'∧WRel (w.alloc (.cells cells e)) g' s∧R g' (.slice .full r) (.slice (Sd ⟨w.heap.size,0,Sf⟩) len len):=by
            intro cells hk;obtain⟨hle,hW⟩:=h.newCells cells e (λo=>cells[o]?) (λ_ _ h=>h);refine⟨_,hle,hW,l4 (by omega) (K6 _) (by simp[mE];omega) rfl hrs (hk.mono hle) (λ_=>⟨w.heap.size,0,rfl,λj u hj=>?_⟩)⟩;simp only[G.addM,OF,if_true];simpa using hj
          by_cases hzero:len*inf.size=0
          · obtain⟨cells,e1,e2⟩:=hgen #[] (λh=>absurd hzero h);obtain⟨g',hle,hW,hR⟩:=hfin cells e2;refine⟨_,_,g',?_,hle,hW,hR⟩;simp only[Instr.buildSlice,Sem.run_bind,run_underlying hu,Result.andThen_ok,ci (show sizeT P e=Sd inf.size by simp[sizeT,hinf])];rw[if_neg (by omega),if_pos hzero];simp only[Sem.run_bind,Sem.run_pure,Result.andThen_ok,e1,newRow,run_newObj,World.alloc_eq]
          · obtain⟨cells,e1,e2⟩:=hgen z.cells (λ_=>rfl);obtain⟨g',hle,hW,hR⟩:=hfin cells e2;refine⟨_,_,g',?_,hle,hW,hR⟩;simp only[Instr.buildSlice,Sem.run_bind,run_underlying hu,Result.andThen_ok,ci (show sizeT P e=Sd inf.size by simp[sizeT,hinf])];rw[if_neg (by omega),if_neg hzero];simp only[Sem.run_bind,gH hzv,Sem.run_pure,Result.andThen_ok,e1,newRow,run_newObj,World.alloc_eq]
        · cases he
      · cases he
    · cases he
  · cases he
def evInt(op:BinOp)(k:IntKind)(a b:Int):Option D:=
 match op with
 |.add=>Sd (.int k (k.wrap (a+b)))
 |.sub=>Sd (.int k (k.wrap (a-b)))
 |.mul=>Sd (.int k (k.wrap (a*b)))
 |.quo=>if b=0 then Sf else Sd (.int k (k.wrap (a.tdiv b)))
 |.rem=>if b=0 then Sf else Sd (.int k (a.tmod b))
 |.and=>Sd (.int k (bits .and k a b))
 |.or=>Sd (.int k (bits .or k a b))
 |.xor=>Sd (.int k (bits .xor k a b))
 |.andNot=>Sd (.int k (bits .andNot k a b))
 |.eql=>Sd (.bool (a == b))
 |.neq=>Sd (.bool (a != b))
 |.lss=>Sd (.bool (decide (a<b)))
 |.leq=>Sd (.bool (decide (a≤b)))
 |.gtr=>Sd (.bool (decide (a > b)))
 |.geq=>Sd (.bool (decide (a≥b)))
 |_=>Sf
def mM(op:BinOp)(k:IntKind)(a b:Int):Option D:=
 if b<0 then Sf else match op with
 |.shl=>Sd (.int k (k.wrap (a*2 ^ (min b.toNat k.bits))))
 |.shr=>Sd (.int k (a.fdiv (2 ^ (min b.toNat k.bits))))
 |_=>Sf
inductive Prim where
 |int|bool|str
 deriving DecidableEq
def primT(P:Sj)(t:Sk):Option Prim:=
 match P.underlying t with
 |some (.int _)=>Sd .int
 |some .bool=>Sd .bool
 |some .string=>Sd .str
 |_=>Sf
def eqT0(P:Sj)(t:Sk):Option (List (Nat×Prim)):=
 if P.eqGuardType P.depth t=Se∧P.stoodInHeld t=Se then
  match P.underlying t with
  | some (.struct fs) => fs.toList.mapM fun f => if f.name ≠ "_" then (primT P f.type).map fun p => (f.offset,p) else none
  |_=>Sf
 else Sf
def Lh(P:Sj)(f:Field):Option (List (Nat×Prim)):=
 match aU P f.type,sizeT P f.type,eqT0 P f.type with
 |some Sh,Sd z,Sd ps=>if ps.all (λq=>decide (q.1<z))then Sd (ps.map λq=>(f.offset+q.1,q.2))else Sf
 |_,_,_=>Sf
def fieldP(P:Sj)(f:Field):Option (List (Nat×Prim)):=
 if f.name ≠ "_" then match primT P f.type with
  |some p=>Sd [(f.offset,p)]
  |none=>Lh P f
 else Sf
def eqT(P:Sj)(t:Sk):Option (List (Nat×Prim)):=
 if P.eqGuardType P.depth t=Se∧P.stoodInHeld t=Se then
  match P.underlying t with
  |some (.struct fs)=>(fs.toList.mapM (fieldP P)).map List.flatten
  |_=>Sf
 else Sf
def eqPrim(p:Prim)(x y:Option D):Option Bool:=
 match p with
 |.int=>match x,y with
  |some (.int k a),Sd (.int k' b)=>if k=k' then Sd (a == b)else Sf
  |_,_=>Sf
 |.bool=>match x,y with
  |some (.bool a),Sd (.bool b)=>Sd (a == b)
  |_,_=>Sf
 |.str=>match x,y with
  |some (.str a),Sd (.str b)=>Sd (a.toList == b.toList)
  |_,_=>Sf
def eqParts(xs ys:List D):List (Nat×Prim)→Option Bool
 | []=>Sd Sh
 |(o,p)::rest=>match eqPrim p xs[o]? ys[o]?,eqParts xs ys rest with
  |some a,Sd b=>Sd (a&&b)
  |_,_=>Sf
theorem vZ{p:Prim}{r:Bool}(hp:primT P t=Sd p)(hx:R g x u)(hy:R g y v)(h:eqPrim p (Sd x) (Sd y)=Sd r)(n:Nat)(w:Sl) :
  (Op.equalIn (n+1) t u v).run P w=.ok r w:=by
 unfold primT at hp;split at hp
 ·rename_i k hu;cases hp;simp only[eqPrim]at h;split at h
  ·rename_i k1 a k2 b e1 e2;cases e1;cases e2;split at h
   ·rename_i hk;subst hk;cases h;cases hx;cases hy;exact run_equalIn_int w n t _ _ _ _ hu
   ·cases h
  ·cases h
 ·rename_i hu;cases hp;simp only[eqPrim]at h;split at h
  ·rename_i a b e1 e2;cases e1;cases e2;cases h;cases hx;cases hy;exact run_equalIn_bool' w n t _ _ hu
  ·cases h
 ·rename_i hu;cases hp;simp only[eqPrim]at h;split at h
  ·rename_i a b e1 e2;cases e1;cases e2;cases h;cases hx;cases hy;exact run_equalIn_string w n t _ _ hu
  ·cases h
 ·cases hp
theorem yi{xs ys:List D}{us vs:Array So}(hx:CellsOk g xs us.toList)(hy:CellsOk g ys vs.toList)(n:Nat)(w:Sl) :
  ∀ (fs:List Field) (ps:List (Nat × Prim)) (r:Bool),(fs.mapM fun f => if f.name ≠ "_" then (primT P f.type).map fun p => (f.offset,p) else none) = some ps→eqParts xs ys ps = some r →
   (Op.eqFields (n+1) us vs fs).run P w=.ok r w:=by
 intro fs;induction fs with
 |nil=>intro ps r h he;simp at h;subst h;cases he;rfl
 |cons f fs ih =>
  intro ps r h he;simp only[QR]at h;split at h
  ·rename_i hname;cases hpr:primT P f.type with
   |none=>rw[hpr]at h;cases h
   |some p =>
    rw[hpr]at h
    cases hrest:(fs.mapM fun f => if f.name ≠ "_" then (primT P f.type).map fun p => (f.offset,p) else none) with
    |none=>rw[hrest]at h;cases h
    |some ps' =>
     rw[hrest]at h;cases h;simp only[eqParts]at he;split at he
     ·rename_i a b ha hb;cases he;have ih':=ih ps' b hrest hb;cases hxo:xs[f.offset]? with
      |none=>rw[hxo]at ha;cases p<;>simp[eqPrim]at ha
      |some x =>
       cases hyo:ys[f.offset]? with
       |none=>rw[hxo,hyo]at ha;cases p<;>cases x<;>simp[eqPrim]at ha
       |some y =>
        rw[hxo,hyo]at ha;obtain⟨hl1,rfl⟩:=M5.1 hxo;obtain⟨hl2,rfl⟩:=M5.1 hyo;have hs1:f.offset<us.size:=by have:=hx.1;simp at this;omega
        have hs2:f.offset<vs.size:=by have:=hy.1;simp at this;omega
        have hag:aU P f.type=Sd Se:=by
         unfold primT at hpr;unfold aU;split at hpr<;>simp_all
        have e:=vZ hpr (hx.get _ hl1 hs1).1 (hy.get _ hl2 hs2).1 ha n w;simp only[Op.eqFields];rw[if_pos hname];simp only[part,Sem.run_bind,gI hag,Result.andThen_ok,On,if_false,OI hs1,OI hs2,Sem.run_pure,e];cases a
        ·simp
        ·simp[ih']
     ·cases he
  ·cases h
theorem qT{xs ys:List D}:∀(l m:List (Nat×Prim)){r:Bool},eqParts xs ys (l++m)=Sd r→∃a b,eqParts xs ys l=Sd a∧eqParts xs ys m=Sd b∧r=(a&&b)
 | [],m,r,h=>⟨Sh,r,rfl,h,by simp⟩
 |(o,p)::l,m,r,h=>by
  simp only[List.cons_append,eqParts]at h;split at h
  ·rename_i a b ha hb;cases h;obtain⟨c,d,h1,h2,rfl⟩:=qT l m hb;exact⟨a&&c,d,by simp only[eqParts,ha,h1],h2,by rw[Bool.and_assoc]⟩
  ·cases h
theorem mN{xs ys:List D}{off z:Nat}:∀(ps:List (Nat×Prim)),(∀q∈ps,q.1<z)→eqParts xs ys (ps.map λq=>(off+q.1,q.2))=eqParts ((xs.drop off).take z) ((ys.drop off).take z) ps
 | [],_=>rfl
 |(o,p)::ps,h=>by
  have ho:o<z:=h (o,p) (by simp);simp only[OJ,eqParts];rw[mN ps λq hq=>h q (by simp[hq])];simp only[List.getElem?_take,if_pos ho,Qi]
theorem lE(us:Array So)(off z:Nat):(us.extract off (off+z)).toList=(us.toList.drop off).take z:=by
 rw[RL];simp only[List.extract];rw[show off+z-off=z by omega]
theorem wC{xs ys:List D}{us vs:Array So}(hx:CellsOk g xs us.toList)(hy:CellsOk g ys vs.toList)(n:Nat)(w:Sl) :
  ∀(fs:List Field)(pss:List (List (Nat×Prim)))(r:Bool),fs.mapM (fieldP P)=Sd pss→eqParts xs ys pss.flatten=Sd r→(Op.eqFields (n+2) us vs fs).run P w=.ok r w:=by
 intro fs;induction fs with
 |nil=>intro pss r h he;simp at h;subst h;cases he;rfl
 |cons f fs ih =>
  intro pss r h he;simp only[QR]at h;cases hf:fieldP P f with
  |none=>rw[hf]at h;cases h
  |some ps =>
   rw[hf]at h;cases hrest:fs.mapM (fieldP P)with
   |none=>rw[hrest]at h;cases h
   |some pss' =>
    rw[hrest]at h;cases h;rw[Qz]at he;obtain⟨a,b,ha,hb,rfl⟩:=qT _ _ he;have ih':=ih pss' b hrest hb;unfold fieldP at hf;split at hf
    ·rename_i hname;simp only[Op.eqFields];rw[if_pos hname];split at hf
     ·rename_i p hpr;cases hf;simp only[eqParts]at ha;split at ha
      ·rename_i a1 b1 ha1 hb1;cases ha;cases hb1;cases hxo:xs[f.offset]? with
       |none=>rw[hxo]at ha1;cases p<;>simp[eqPrim]at ha1
       |some x =>
        cases hyo:ys[f.offset]? with
        |none=>rw[hxo,hyo]at ha1;cases p<;>cases x<;>simp[eqPrim]at ha1
        |some y =>
         rw[hxo,hyo]at ha1;obtain⟨hl1,rfl⟩:=M5.1 hxo;obtain⟨hl2,rfl⟩:=M5.1 hyo;have hs1:f.offset<us.size:=by have:=hx.1;simp at this;omega
         have hs2:f.offset<vs.size:=by have:=hy.1;simp at this;omega
         have hag:aU P f.type=Sd Se:=by
          unfold primT at hpr;unfold aU;split at hpr<;>simp_all
         have e:=vZ hpr (hx.get _ hl1 hs1).1 (hy.get _ hl2 hs2).1 ha1 (n+1) w;simp only[part,Sem.run_bind,gI hag,Result.andThen_ok,On,if_false,OI hs1,OI hs2,Sem.run_pure,e,Bool.and_true];cases a1
         ·simp
         ·simp[ih']
      ·cases ha
     ·unfold Lh at hf;split at hf
      ·rename_i z ps0 hag hz hps;split at hf
       ·rename_i hall;cases hf;have hlt:∀q∈ps0,q.1<z:=λq hq=>of_decide_eq_true (N0.1 hall q hq);rw[mN ps0 hlt]at ha;unfold eqT0 at hps;split at hps
        ·rename_i hg;cases hu:P.underlying f.type with
         |none=>rw[hu]at hps;cases hps
         |some t =>
          rw[hu]at hps;cases t with
          |struct gs =>
           have hfo:P.fieldsOf f.type=gs:=by simp[Program.fieldsOf,hu]
           have hx':CellsOk g ((xs.drop f.offset).take z) (us.extract f.offset (f.offset+z)).toList:=by rw[lE];exact(hx.drop _).take _
           have hy':CellsOk g ((ys.drop f.offset).take z) (vs.extract f.offset (f.offset+z)).toList:=by rw[lE];exact(hy.drop _).take _
           have e:=yi hx' hy' n w gs.toList ps0 a hps ha;have e2:=run_equalIn_struct w (n+1) f.type (us.extract f.offset (f.offset+z)) (vs.extract f.offset (f.offset+z)) (by rw[hfo];exact hu) hg.2;rw[hfo,e]at e2;have k1:(isAgg f.type).run P w=.ok Sh w:=gI hag w;have k2:(sizeOf f.type).run P w=.ok z w:=ci hz w;simp only[part,Sem.run_bind,k1,k2,Result.andThen_ok,if_true,Sem.run_pure,e2];cases a
           ·simp
           ·simp[ih']
          |_=>cases hps
        ·cases hps
       ·cases hf
      ·cases hf
    ·cases hf
def rO:D→Option Bool
 |.nilp=>Sd Sh
 |.box _ _=>Sd Se
 |.pin _=>Sd Se
 |_=>Sf
def Fh:D→Option Bool
 |.nilf=>Sd Sh
 |.func _ _ _=>Sd Se
 |_=>Sf
def xC:D→Option Bool
 |.nilm=>Sd Sh
 |.map _=>Sd Se
 |_=>Sf
def ve:D→Option Bool
 |.slice o xs=>if o=.nil then Sd Sh else if 0<xs.length then Sd Se else Sf
 |.msl _ _ _ _ _=>Sd Se
 |_=>Sf
theorem vN{b:Bool}(hx:R g x u)(h:rO x=Sd b):∃a,u=.pointer a∧a.isNone=b:=by
 cases hx<;>cases h<;>exact⟨_,rfl,rfl⟩
theorem GH{b:Bool}(hx:R g x u)(h:Fh x=Sd b):(u=.nilFunc∧b=Sh)∨(∃f a c,u=.func f a c)∧b=Se:=by
 cases hx<;>cases h<;>first|exact .inl ⟨rfl,rfl⟩|exact .inr ⟨⟨_,_,_,rfl⟩,rfl⟩
theorem Eg{b:Bool}(hx:R g x u)(h:xC x=Sd b):∃a,u=.map a∧a.isNone=b:=by
 cases hx<;>cases h<;>exact⟨_,rfl,rfl⟩
theorem GG{b:Bool}(hx:R g x u)(h:ve x=Sd b):∃a l c,u=.slice a l c∧a.isNone=b:=by
 cases hx with
 |slice o xs a cap sz blk off val hc hm ho hs ha hM hv hR =>
  simp only[ve]at h;split at h
  ·rename_i e;subst e;cases h;exact⟨a,_,_,rfl,by rw[ho.1];rfl⟩
  ·split at h
   ·rename_i e;cases h;exact⟨a,_,_,rfl,by rw[ha e];rfl⟩
   ·cases h
 |msl=>cases h;exact⟨_,_,_,rfl,rfl⟩
 |_=>cases h
def isNilConst:D→Bool
 |.nilp=>Sh
 |.nilf=>Sh
 |.nilm=>Sh
 |.slice .nil []=>Sh
 |_=>Se
def xg(P:Sj)(T:Sk)(x y:D):Option Bool:=
 match P.underlying T with
 |some .bool=>match x,y with
  |.bool a,.bool b=>Sd (a == b)
  |_,_=>Sf
 |some (.pointer _)=>if isNilConst y then(rO y).bind λ_=>rO x else if isNilConst x then(rO x).bind λ_=>rO y else Sf
 |some (.func _ _ _)=>if isNilConst y then(Fh y).bind λ_=>Fh x else Sf
 |some (.slice _)=>if isNilConst y then(ve y).bind λ_=>ve x else Sf
 |some (.map _ _)=>if isNilConst y then(xC y).bind λ_=>xC x else Sf
 |some (.struct _)=>match x,y with
  |.agg xs,.agg ys=>(eqT P T).bind λps=>eqParts xs ys ps
  |_,_=>Sf
 |_=>Sf
def A6(op:BinOp)(a b:ByteArray):Option D:=
 match op with
 |.add=>if a.size+b.size≤281474976710656 then Sd (.str (a++b))else Sf
 |.eql=>Sd (.bool (a.toList == b.toList))
 |.neq=>Sd (.bool (!(a.toList == b.toList)))
 |.lss=>Sd (.bool (Op.bytesLess a.toList b.toList))
 |.leq=>Sd (.bool (Op.bytesLess a.toList b.toList ||a.toList == b.toList))
 |.gtr=>Sd (.bool (!(Op.bytesLess a.toList b.toList ||a.toList == b.toList)))
 |.geq=>Sd (.bool (!(Op.bytesLess a.toList b.toList)))
 |_=>Sf
def dW(P:Sj)(op:BinOp)(T:Sk)(x y:D):Option D:=
 match x,y with
 |.int k a,.int k' b=>if op=.shl∨op=.shr then mM op k a b else if k=k' then evInt op k a b else Sf
 |.str a,.str b=>A6 op a b
 |x,y=>match op with
  |.eql=>(xg P T x y).map .bool
  |.neq=>(xg P T x y).map λb=>.bool (!b)
  |_=>Sf
theorem co(op:BinOp)(t:Sk)(x y:Sn)(u v:So)(h:u≠.nilIface)(h2:∀vs,u≠.agg vs):(eqGuard op t x y u v).run P w=.ok () w:=by
 cases op<;>simp only[eqGuard]<;>first
  |(cases u<;>first|(simp at h;done)|(exact absurd rfl (h2 _))|rfl)
  |rfl
theorem cU{b:Bool}(h:(Op.equalIn 10000 T u v).run P w=.ok b w)(hu:∀k n,u≠.int k n)(hf:∀k n,u≠.float k n)(hc:∀k n m,u≠.complex k n m)(hs:∀s,u≠.string s) :
  (binOp .eql T u v).run P w=.ok (.bool b) w∧(binOp .neq T u v).run P w=.ok (.bool (!b)) w:=by
 cases u<;>first
  |exact absurd rfl (hu _ _)
  |exact absurd rfl (hf _ _)
  |exact absurd rfl (hc _ _ _)
  |exact absurd rfl (hs _)
  |(constructor<;>(simp only[binOp];simp[Op.equal,Op.maxDepth,h]))
theorem lD{b:Bool}(hy:R g y v)(h:isNilConst y=Sh)(h2:rO y=Sd b):v=.pointer Sf:=by
 cases hy<;>first|rfl|(cases h;done)|(cases h2;done)
theorem uJ{b:Bool}(hy:R g y v)(h:isNilConst y=Sh)(h2:Fh y=Sd b):v=.nilFunc:=by
 cases hy<;>first|rfl|(cases h;done)|(cases h2;done)
theorem sq{b:Bool}(hy:R g y v)(h:isNilConst y=Sh)(h2:xC y=Sd b):v=.map Sf:=by
 cases hy<;>first|rfl|(cases h;done)|(cases h2;done)
theorem mF{b:Bool}(hy:R g y v)(h:isNilConst y=Sh)(h2:ve y=Sd b):v=.slice Sf 0 0:=by
 cases hy with
 |slice o xs a cap sz blk off val hc hm ho hs ha hM hv hR =>
  cases o with
  |nil=>obtain⟨rfl,h1,rfl⟩:=ho;rw[h1]
  |_=>cases xs<;>cases h
 |_=>first|(cases h;done)|(cases h2;done)
theorem qS(hu:P.underlying T=Sd (.pointer e))(a:Option Addr)(n:Nat)(w:Sl) :
  (Op.equalIn (n+1) T (.pointer a) (.pointer Sf)).run P w=.ok a.isNone w∧(Op.equalIn (n+1) T (.pointer Sf) (.pointer a)).run P w=.ok a.isNone w:=by
 cases a<;>simp[Op.equalIn,run_underlying hu]
theorem tB{P:Sj}{T:Sk}{e1 e2 e3}(hu:P.underlying T=Sd (.func e1 e2 e3))(n:Nat)(w:Sl) :
  (Op.equalIn (n+1) T .nilFunc .nilFunc).run P w=.ok Sh w∧∀f a c,(Op.equalIn (n+1) T (.func f a c) .nilFunc).run P w=.ok Se w:=by
 constructor
 ·simp[Op.equalIn,run_underlying hu]
 ·intro f a c;simp[Op.equalIn,run_underlying hu]
theorem tA(hu:P.underlying T=Sd (.slice e))(a:Option Addr)(l c n:Nat)(w:Sl) :
  (Op.equalIn (n+1) T (.slice a l c) (.slice Sf 0 0)).run P w=.ok a.isNone w:=by
 cases a<;>simp[Op.equalIn,run_underlying hu]
theorem yh{e1 e2:Sk}(hu:P.underlying T=Sd (.map e1 e2))(a:Option Nat)(n:Nat)(w:Sl) :
  (Op.equalIn (n+1) T (.map a) (.map Sf)).run P w=.ok a.isNone w:=by
 cases a<;>simp[Op.equalIn,run_underlying hu]
theorem Cz{b:Bool}(hx:R g x u)(hy:R g y v)(he:xg P T x y=Sd b)(w:Sl) :
  (∀op ox oy,(eqGuard op T ox oy u v).run P w=.ok () w)∧(binOp .eql T u v).run P w=.ok (.bool b) w∧(binOp .neq T u v).run P w=.ok (.bool (!b)) w:=by
 unfold xg at he;split at he
 ·rename_i hu;split at he
  ·rename_i a c;cases he;cases hx;cases hy;exact⟨λop ox oy=>co _ _ _ _ _ _ (by simp) (by simp),cU (run_equalIn_bool' w 9999 T _ _ hu) (by simp) (by simp) (by simp) (by simp)⟩
  ·cases he
 ·rename_i e hu;split at he
  ·rename_i hn;obtain⟨c,hc,he⟩:=Pa.1 he;have:=lD hy hn hc
   subst this;obtain⟨a,rfl,rfl⟩:=vN hx he;exact⟨λop ox oy=>co _ _ _ _ _ _ (by simp) (by simp),cU (qS hu a 9999 w).1 (by simp) (by simp) (by simp) (by simp)⟩
  ·split at he
   ·rename_i hn' hn;obtain⟨c,hc,he⟩:=Pa.1 he;have:=lD hx hn hc
    subst this;obtain⟨a,rfl,rfl⟩:=vN hy he;exact⟨λop ox oy=>co _ _ _ _ _ _ (by simp) (by simp),cU (qS hu a 9999 w).2 (by simp) (by simp) (by simp) (by simp)⟩
   ·cases he
 ·rename_i e1 e2 e3 hu;split at he
  ·rename_i hn;obtain⟨c,hc,he⟩:=Pa.1 he;have:=uJ hy hn hc
   subst this;rcases GH hx he with ⟨rfl,rfl⟩|⟨⟨f,a,c,rfl⟩,rfl⟩
   ·exact⟨λop ox oy=>co _ _ _ _ _ _ (by simp) (by simp),cU (tB hu 9999 w).1 (by simp) (by simp) (by simp) (by simp)⟩
   ·exact⟨λop ox oy=>co _ _ _ _ _ _ (by simp) (by simp),cU ((tB hu 9999 w).2 _ _ _) (by simp) (by simp) (by simp) (by simp)⟩
  ·cases he
 ·rename_i e hu;split at he
  ·rename_i hn;obtain⟨c,hc,he⟩:=Pa.1 he;have:=mF hy hn hc
   subst this;obtain⟨a,l,c,rfl,rfl⟩:=GG hx he;exact⟨λop ox oy=>co _ _ _ _ _ _ (by simp) (by simp),cU (tA hu a l c 9999 w) (by simp) (by simp) (by simp) (by simp)⟩
  ·cases he
 ·rename_i e1 e2 hu;split at he
  ·rename_i hn;obtain⟨c,hc,he⟩:=Pa.1 he;have:=sq hy hn hc
   subst this;obtain⟨a,rfl,rfl⟩:=Eg hx he;exact⟨λop ox oy=>co _ _ _ _ _ _ (by simp) (by simp),cU (yh hu a 9999 w) (by simp) (by simp) (by simp) (by simp)⟩
  ·cases he
 ·rename_i fs hu;split at he
  ·rename_i xs ys;obtain⟨ps,hps,he⟩:=Pa.1 he;unfold eqT at hps;split at hps
   ·rename_i hg;rw[hu]at hps;obtain⟨us,rfl,hk1⟩:=CellsOk.of_agg hx;obtain⟨vs,rfl,hk2⟩:=CellsOk.of_agg hy;have hfo:P.fieldsOf T=fs:=by simp[Program.fieldsOf,hu]
    obtain⟨pss,hpss,rfl⟩:=Ox.1 hps;have e:=wC hk1 hk2 9997 w fs.toList pss b hpss he;have e2:=run_equalIn_struct w 9999 T us vs (by rw[hfo];exact hu) hg.2;rw[hfo,e]at e2;exact⟨λop ox oy=>run_eqGuard_agg w op T ox oy us vs hg.1,cU e2 (by simp) (by simp) (by simp) (by simp)⟩
   ·cases hps
  ·cases he
 ·cases he
theorem DQ{op:BinOp}{a b:Int}(h:evInt op k a b=Sd d)(w:Sl):∃v,(binOp op T (.int k a) (.int k b)).run P w=.ok v w∧R g d v:=by
 cases op<;>simp only[evInt]at h;case add=>cases h;exact⟨_,by rw[binOp_add];rfl,.int _ _⟩
 case sub=>cases h;exact⟨_,by rw[binOp_sub];rfl,.int _ _⟩
 case mul=>cases h;exact⟨_,by rw[binOp_mul];rfl,.int _ _⟩
 case quo =>
  by_cases hb:b=0
  ·rw[if_pos hb]at h;cases h
  ·rw[if_neg hb]at h;cases h;exact⟨_,by rw[binOp_quo];simp only[Op.intDiv,if_neg hb];rfl,.int _ _⟩
 case rem =>
  by_cases hb:b=0
  ·rw[if_pos hb]at h;cases h
  ·rw[if_neg hb]at h;cases h;exact⟨_,by rw[binOp_rem];simp only[Op.intDiv,if_neg hb];rfl,.int _ _⟩
 case and=>cases h;exact⟨_,by rw[binOp_and,intBits_and];rfl,.int _ _⟩
 case or=>cases h;exact⟨_,by rw[binOp_or,intBits_or];rfl,.int _ _⟩
 case xor=>cases h;exact⟨_,by rw[binOp_xor,intBits_xor];rfl,.int _ _⟩
 case andNot=>cases h;exact⟨_,by rw[binOp_andNot,intBits_andNot];rfl,.int _ _⟩
 case eql=>cases h;exact⟨_,by rw[binOp_eql];rfl,.bool _⟩
 case neq=>cases h;exact⟨_,by rw[binOp_neq];rfl,.bool _⟩
 case lss=>cases h;exact⟨_,by rw[binOp_lss];rfl,.bool _⟩
 case leq=>cases h;exact⟨_,by rw[binOp_leq];rfl,.bool _⟩
 case gtr=>cases h;exact⟨_,by rw[binOp_gtr];rfl,.bool _⟩
 case geq=>cases h;exact⟨_,by rw[binOp_geq];rfl,.bool _⟩
 all_goals cases h
theorem GE{op:BinOp}{ox oy:Sn}(h:WRel w g s)(hx:R g x u)(hy:R g y v)(he:dW P op T x y=Sd d) :
  Ok P (do eqGuard op T ox oy u v;binOp op T u v) w g d s:=by
 unfold dW at he;split at he
 ·rename_i k a k' b;cases hx;cases hy;have hg:(eqGuard op T ox oy (.int k a) (.int k' b)).run P w=.ok () w:=co _ _ _ _ _ _ (by simp) (by simp);split at he
  ·rename_i hop;unfold mM at he;split at he
   ·cases he
   ·rename_i hb;rcases hop with rfl|rfl<;>cases he
    ·exact⟨_,w,g,by simp only[Sem.run_bind,hg,Result.andThen_ok];rw[binOp_shl];simp only[Op.shift,if_neg hb];rfl,.refl g,h,.int _ _⟩
    ·exact⟨_,w,g,by simp only[Sem.run_bind,hg,Result.andThen_ok];rw[binOp_shr];simp only[Op.shift,if_neg hb];rfl,.refl g,h,.int _ _⟩
  ·split at he
   ·rename_i hop hk;subst hk;obtain⟨v,hv,hR⟩:=DQ (P:=P) (g:=g) (T:=T) he w;exact⟨v,w,g,by simp only[Sem.run_bind,hg,Result.andThen_ok];exact hv,.refl g,h,hR⟩
   ·cases he
 ·rename_i a b;cases hx;cases hy;have hg:(eqGuard op T ox oy (.string a) (.string b)).run P w=.ok () w:=co _ _ _ _ _ _ (by simp) (by simp);unfold A6 at he;split at he
  ·split at he
   ·rename_i hl;cases he;refine⟨.string (a++b),w,g,?_,.refl g,h,.str _⟩;simp only[Sem.run_bind,hg,Result.andThen_ok,binOp,Op.stringOp];rw[if_neg (by simp;omega)];rfl
   ·cases he
  all_goals first
   |(cases he;exact⟨_,w,g,by simp only[Sem.run_bind,hg,Result.andThen_ok];simp only[binOp,Op.stringOp,Sem.run_pure],.refl g,h,.bool _⟩)
   |cases he
 ·rename_i x' y' hn1 hn2;split at he
  ·obtain⟨b,hb,rfl⟩:=Ox.1 he;obtain⟨e1,e2,e3⟩:=Cz hx hy hb w;exact⟨_,w,g,by simp only[Sem.run_bind,e1,Result.andThen_ok,e2],.refl g,h,.bool _⟩
  ·obtain⟨b,hb,rfl⟩:=Ox.1 he;obtain⟨e1,e2,e3⟩:=Cz hx hy hb w;exact⟨_,w,g,by simp only[Sem.run_bind,e1,Result.andThen_ok,e3],.refl g,h,.bool _⟩
  ·cases he
def HZ(op:UnOp)(x:D):Option D:=
 match op,x with
 |.not,.bool b=>Sd (.bool !b)
 |.neg,.int k n=>Sd (.int k (k.wrap (0-n)))
 |.xor,.int k n=>Sd (.int k (bits .xor k (if k.signed then -1 else k.max) n))
 |_,_=>Sf
theorem J1{op:UnOp}(h:WRel w g s)(hx:R g x u)(he:HZ op x=Sd d):Ok P (Op.unary op u) w g d s:=by
 unfold HZ at he;split at he
 ·cases he;cases hx;exact⟨_,w,g,rfl,.refl g,h,.bool _⟩
 ·cases he;cases hx;exact⟨_,w,g,rfl,.refl g,h,.int _ _⟩
 ·cases he;cases hx;exact⟨_,w,g,rfl,.refl g,h,.int _ _⟩
 ·cases he
def lu(P:Sj)(src dst:Sk)(x:D):Option D:=
 match P.underlying src,P.underlying dst,x with
 |some (.int _),Sd (.int k),.int _ n=>Sd (.int k (k.wrap n))
 |some .string,Sd .string,.str b=>Sd (.str b)
 |_,_,_=>Sf
theorem AJ{src dst:Sk}(h:WRel w g s)(hx:R g x u)(he:lu P src dst x=Sd d):Ok P (convert src dst u) w g d s:=by
 unfold lu at he;split at he
 ·rename_i k0 k kk n h1 h2;cases he;cases hx;exact⟨_,w,g,by simp only[convert,Sem.run_bind,run_underlying h1,run_underlying h2,Result.andThen_ok,Conv.intToInt];rfl,.refl g,h,.int _ _⟩
 ·rename_i b h1 h2;cases he;cases hx;exact⟨_,w,g,by simp only[convert,Sem.run_bind,run_underlying h1,run_underlying h2,Result.andThen_ok];rfl,.refl g,h,.str _⟩
 ·cases he
def kb(x:D)(i:Nat):Option D:=
 match x with
 |.tup vs=>vs[i]?
 |_=>Sf
theorem AI{i:Nat}(h:WRel w g s)(hx:R g x u)(he:kb x i=Sd d):Ok P (Instr.extract u i) w g d s:=by
 unfold kb at he;split at he
 ·rename_i vs;cases hx with
  |tup _ us hl hR =>
   obtain⟨hlt,rfl⟩:=M5.1 he;have hlt':i<us.size:=by omega
   exact⟨us[i],w,g,by simp[Instr.extract,hlt'],.refl g,h,hR i hlt hlt'⟩
 ·cases he
theorem WRel.setObjB {w:Sl} {g:G} {s:St} (h:WRel w g s) {b l:Nat} {o o':Obj} {bx:Box} (hl1:Live1 s b) (hb:g.B b=Sd l) (hh:w.heap[l]? = Sd o) (hnc:∀ c T f,o≠.cells c T f) (hnc':∀ c T f,o'≠.cells c T f) (hnd:∀ c,o≠.deferred c)
    (hbx:jC {w with heap:=w.heap.setIfInBounds l o'} g b bx) :
    WRel {w with heap:=w.heap.setIfInBounds l o'} g {s with boxes:=s.boxes.set b bx}:=by
  have hl:=h.dom b l hb;have hlt:=bU hh;have hheap:∀(c:Nat)(x:Obj),w.heap[c]?=Sd x→c≠l→(w.heap.setIfInBounds l o')[c]?=Sd x:=by
    intro c x hx hne;rw[OM (by omega)];exact hx
  have hne:∀(c:Nat) ,c≠l→(w.heap.setIfInBounds l o')[c]?=w.heap[c]?:=λc hc=>OM (by omega);have hcl:∀{c:Nat}{arr T fr},w.heap[c]?=Sd (.cells arr T fr)→c≠l:=by
    intro c arr T fr hc e;subst e;rw[hh]at hc;cases hc;exact hnc _ _ _ rfl
  have hcell:∀a,World.cell? {w with heap:=w.heap.setIfInBounds l o'} a=w.cell? a:=by
    intro a;simp only[World.cell?];by_cases e:a.block=l
    · rw[e,hh,OO];simp only[hlt,if_true];cases o<;>cases o'<;>first|rfl|(exact absurd rfl (hnc _ _ _))|(exact absurd rfl (hnc' _ _ _))
    · rw[hne _ e]
  have hfr:∀a,World.frozen? {w with heap:=w.heap.setIfInBounds l o'} a=w.frozen? a:=by
    intro a;simp only[World.frozen?];by_cases e:a.block=l
    · rw[e,hh,OO];simp only[hlt,if_true];cases o<;>cases o'<;>first|rfl|(exact absurd rfl (hnc _ _ _))|(exact absurd rfl (hnc' _ _ _))
    · rw[hne _ e]
  refine { os := h.os, tape := h.tape, out := h.out, fz := fun a ha => (hfr a).trans (h.fz a ha), n := by have := h.n; simp only [P7]; exact this, old := fun c hc => ?_, m := fun c o v hm => by rw [hcell]; exact h.m c o v hm, box := fun i x hi => ?_,
           inj:=λj k c h1 h2 l1 l2=>h.inj j k c h1 h2 (l1.of_set hl1) (l2.of_set hl1),dom:=λi c hi=>by have:=h.dom i c hi;simp only[P7,PU];exact this,live:=λk hk=>?_,uniq:=h.uniq,ldom:=h.ldom,
           o:=λc hc=>⟨(h.o c hc).1,hheap c _ (h.o c hc).2 (by intro e;subst e;have:=(h.o _ hc).2;rw[hh]at this;cases this;exact hnd _ rfl)⟩,nd:=h.nd,
           sz:=λc n hc=>by obtain⟨arr,T,fr,e1,e2⟩:=h.sz c n hc;exact⟨arr,T,fr,hheap c _ e1 (hcl e1),e2⟩}
  · show(w.heap.setIfInBounds l _)[c]?=_;rw[hne c (by have:=hl.2.1;omega)];exact h.old c hc
  · by_cases e:i=b
    · subst e;rw[Om hl.1]at hi;cases hi;exact hbx
    · rw[Oj (by omega)]at hi;have:=h.box i x hi
      cases x with
      |dead=>trivial
      |cells cs=>obtain⟨c,arr,T,fr,h1,h2,h3⟩:=this;exact⟨c,arr,T,fr,h1,hheap c _ h2 (hcl h2),h3⟩
      |map es =>
        obtain⟨c,en,k,h1,h2,h3⟩:=this;exact⟨c,en,k,h1,hheap c _ h2 (by intro e2;subst e2;exact e (h.inj _ _ _ h1 hb ⟨_,hi,by simp⟩ hl1)),h3⟩
      |mapX es bs q =>
        obtain⟨c,en,k,h1,h2,h3⟩:=this;exact⟨c,en,k,h1,hheap c _ h2 (by intro e2;subst e2;exact e (h.inj _ _ _ h1 hb ⟨_,hi,by simp⟩ hl1)),h3⟩
      |iter mb q sn =>
        obtain⟨c,m,h1,h2,h3⟩:=this;exact⟨c,m,h1,hheap c _ h2 (by intro e2;subst e2;exact e (h.inj _ _ _ h1 hb ⟨_,hi,by simp⟩ hl1)),h3⟩
      |loop ps as bo e' st pe =>
        obtain⟨c,fn,t,df,h1,h2,h3⟩:=this;exact⟨c,fn,t,df,h1,hheap c _ h2 (by intro e2;subst e2;exact e (h.inj _ _ _ h1 hb ⟨_,hi,by simp⟩ hl1)),h3⟩
  · obtain⟨a,len,cap,sz,h1,h2⟩:=h.live k hk;refine⟨a,len,cap,sz,h1,λh3 h4=>?_⟩;obtain⟨c,off,arr,T,fr,h5,h6,h7,h8⟩:=h2 h3 h4;exact⟨c,off,arr,T,fr,h5,h6,hheap c _ h7 (hcl h7),h8⟩
def mg(s:St):Option (D×St):=Sd (.map s.boxes.length,{s with boxes:=s.boxes++[.map []]})
theorem sW{ro:Option So}(h:WRel w g s)(hr:∀u,ro=Sd u→(∃k n,u=.int k n)∧∃a b,P.underlying T=Sd (.map a b)) :
  Ok P (Instr.makeMap T ro) w g (.map s.boxes.length) {s with boxes:=s.boxes++[.map []]}:=by
 have hB:g.B s.boxes.length=Sf:=kv h (K6 _);obtain⟨h1,h2⟩:=h.newBox (.map #[] 0) rfl (.map []) ⟨w.heap.size,#[],0,by simp[G.addB],bB _ _,rfl,λj x=>by simp at x⟩;refine⟨.map (Sd w.heap.size),w.alloc (.map #[] 0),_,?_,h1,h2,.map _ _ (by simp[G.addB])⟩;cases ro with
 |none=>simp[Instr.makeMap]
 |some u =>
  obtain⟨⟨k,n,rfl⟩,a,b,hu⟩:=hr _ rfl;simp[Instr.makeMap,run_underlying hu,asInt,asIntOf]
def bw(k:IntKind)(n:Int):List (D×D)→Nat→Option (Option (Nat×D))
 | [],_=>Sd Sf
 |(.int k' m,v)::es,i=>if k=k' then(if n=m then Sd (Sd (i,v))else bw k n es (i+1))else Sf
 |_::_,_=>Sf
theorem ng{n:Int}:∀(es:List (D×D))(en:List MapEntry)(i:Nat)(r:Option (Nat×D)),es.length=en.length→(∀(j:Nat)(h1:j<es.length)(h2:j<en.length),R g es[j].1 en[j].key∧R g es[j].2 en[j].val) →
  bw k n es i=Sd r→∀K,(match r with
   |none=>Instr.findNow (.int K) (.int k n) en i=Sd Sf
   |some (j,d)=>∃(q:Nat)(hq:q<en.length)(hq':q<es.length),j=i+q∧es[q].2=d∧es[q].1=.int k n∧en[q].key=.int k n∧Instr.findNow (.int K) (.int k n) en i=Sd (Sd (j,en[q].val))):=by
 intro es;induction es with
 |nil =>
  intro en i r hl hR h K;cases en with
  |nil=>cases h;rfl
  |cons=>simp at hl
 |cons p es ih =>
  intro en i r hl hR h K;cases en with
  |nil=>simp at hl
  |cons e en =>
   obtain⟨pk,pv⟩:=p;have h0:=hR 0 (by simp) (by simp);simp only[Pj]at h0;cases pk with
   |int k' m =>
    simp only[bw]at h;split at h
    ·rename_i hk;subst hk;have hkey:e.key=.int k m:=by cases hv:e.key<;>rw[hv]at h0<;>cases h0.1;rfl
     split at h
     ·rename_i hn;subst hn;cases h;exact⟨0,by simp,by simp,rfl,rfl,rfl,hkey,by simp[Instr.findNow,hkey,Instr.sameNow]⟩
     ·rename_i hn;have hb:(n == m)=Se:=by simpa using hn
      have:=ih en (i+1) r (by simpa using hl) (λj h1 h2=>hR (j+1) (by simpa using h1) (by simpa using h2)) h K
      cases r with
      |none=>simpa[Instr.findNow,hkey,Instr.sameNow,hb]using this
      |some jd =>
       obtain⟨j,d⟩:=jd;obtain⟨q,hq,hq',a1,a2,a3,a4,a5⟩:=this;exact⟨q+1,by simpa using hq,by simpa using hq',by omega,by simpa using a2,by simpa using a3,by simpa using a4,by simpa[Instr.findNow,hkey,Instr.sameNow,hb]using a5⟩
    ·cases h
   |_=>cases h
def zeroD(P:Sj)(T:Sk):Option D:=
 match aU P T,zeroV P T with
 |some Sh,Sd (.agg cs)=>if cs.toList.all (·.oneCell')then Sd (.agg (cs.toList.map zD))else Sf
 |some Se,Sd z=>Sd (zD z)
 |_,_=>Sf
theorem FK(h:zeroD P T=Sd d):∃z,zeroV P T=Sd z∧∀g,R g d z:=by
 unfold zeroD at h;split at h
 ·rename_i cs h1 h2;split at h
  ·rename_i hall;cases h;exact⟨_,h2,λg=>.agg _ _ (by simp) (λi hi=>N0.1 hall _ (by simp)) (λi h1 h2=>by simpa using Ie)⟩
  ·cases h
 ·rename_i z h1 h2;cases h;exact⟨_,h2,λg=>Ie⟩
 ·cases h
def jT(r:Option (Nat×D))(z:D)(ok:Bool):D:=
 match r with
 |some (_,v)=>if ok then .tup [v,.bool Sh]else v
 |none=>if ok then .tup [z,.bool Se]else z
def mapOf(m:D)(s:St):Option (List (D×D)):=
 match m with
 |.nilm=>Sd []
 |.map b=>match s.boxes[b]? with
  |some (.map es)=>Sd es
  |_=>Sf
 |_=>Sf
def jf(P:Sj)(T:Sk)(m i:D)(ok:Bool)(s:St):Option D:=
 match P.underlying T with
 |some (.map K V)=>match P.underlying K,zeroD P V,mapOf m s,i with
  |some (.int _),Sd z,Sd es,.int k n=>(bw k n es 0).map λr=>jT r z ok
  |_,_,_,_=>Sf
 |_=>Sf
theorem cP{K:Sk}{kk:IntKind}(hK:P.underlying K=Sd (.int kk))(b:Bool)(n:Nat)(v:So)(w:Sl):(Instr.checkKey b (n+1) K v).run P w=.ok () w:=by
 simp only[Instr.checkKey,Sem.run_bind,run_underlying hK,Result.andThen_ok];rfl
theorem dK{K:Sk}{kk:IntKind}(hK:P.underlying K=Sd (.int kk)){v:So}{en:List MapEntry}{r:Option (Nat×So)}(h:Instr.findNow (.int kk) v en 0=Sd r)(w:Sl):(Instr.findKey K v en).run P w=.ok r w:=by
 simp only[Instr.findKey,Sem.run_bind,run_underlying hK,Result.andThen_ok,h,Sem.run_pure]
variable {l:Nat}
theorem dR{en:Array MapEntry}(h:w.heap[l]?=Sd (.map en c)):(getObj l).run P w=.ok (.map en c) w:=by simp[getObj,Sem.run,h]
theorem gO{en:Array MapEntry}{o':Obj}(h:w.heap[l]?=Sd (.map en c)):(setObj l o').run P w=.ok () {w with heap:=w.heap.setIfInBounds l o'}:=by simp[setObj,Sem.run,h]
theorem GM(h:WRel w g s){m:D}{v:So}(hm:R g m v){es:List (D×D)}(he:mapOf m s=Sd es) :
  ∃en:Array MapEntry,((v=.map Sf∧en = #[])∨∃r clock,v=.map (Sd r)∧w.heap[r]?=Sd (.map en clock))∧es.length=en.size ∧
   ∀(j:Nat)(h1:j<es.length)(h2:j<en.toList.length),R g es[j].1 en.toList[j].key∧R g es[j].2 en.toList[j].val:=by
 unfold mapOf at he;split at he
 ·cases he;cases hm;exact⟨#[],.inl ⟨rfl,rfl⟩,rfl,λj h1=>by simp at h1⟩
 ·rename_i b;split at he
  ·rename_i es' hb;cases he;cases hm with
   |map _ r hB =>
    obtain⟨b',ents,clock,h1,h2,h3,h4⟩:=h.box b _ hb;rw[hB]at h1;cases h1;exact⟨ents,.inr ⟨r,clock,rfl,h2⟩,h3,λj q1 q2=>by have:=h4 j q1 (by simpa using q2);simp only[O7];exact⟨this.1,this.2.1⟩⟩
  ·cases he
 ·cases he
variable {m:D}
theorem Ea{ok:Bool}(h:WRel w g s)(hm:R g m u)(hi:R g i v)(he:jf P T m i ok s=Sd d) :
  Ok P (Instr.lookup T u v ok) w g d s:=by
 unfold jf at he;split at he
 ·rename_i K V hu;split at he
  ·rename_i kk z es k n hK hz hes;obtain⟨r,hr,rfl⟩:=Ox.1 he;cases hi;obtain⟨zv,hzv,hzR⟩:=FK hz;obtain⟨en,hen,hlen,hR⟩:=GM h hm hes;have hf:=ng es en.toList 0 r (by simpa using hlen) hR hr kk;cases r with
   |none =>
    have hf2:=dK hK hf w;refine⟨if ok then .tuple #[zv,.bool Se]else zv,w,g,?_,.refl g,h,?_⟩
    ·rcases hen with ⟨rfl,rfl⟩|⟨r,clock,rfl,hh⟩
     ·simp only[Instr.lookup,Sem.run_bind,run_underlying hu,Result.andThen_ok,cP hK,hf2,gH hzv,Sem.run_pure]
     ·simp only[Instr.lookup,Sem.run_bind,run_underlying hu,Result.andThen_ok,dR hh,cP hK,hf2,gH hzv,Sem.run_pure]
    ·cases ok
     ·exact hzR g
     ·refine .tup _ _ rfl λi h1 h2=>?_;match i,h1,h2 with
      |0,_,_=>exact hzR g
      |1,_,_=>exact .bool _
   |some jd =>
    obtain⟨j,dv⟩:=jd;obtain⟨q,hq,hq',a1,rfl,a3,a4,a5⟩:=hf;have hf2:=dK hK a5 w;have hRv:=(hR q hq' hq).2;refine⟨if ok then .tuple #[en.toList[q].val,.bool Sh]else en.toList[q].val,w,g,?_,.refl g,h,?_⟩
    ·rcases hen with ⟨rfl,rfl⟩|⟨r,clock,rfl,hh⟩
     ·simp at hq
     ·simp only[Instr.lookup,Sem.run_bind,run_underlying hu,Result.andThen_ok,dR hh,cP hK,hf2,Sem.run_pure]
    ·cases ok
     ·exact hRv
     ·refine .tup _ _ rfl λi h1 h2=>?_;match i,h1,h2 with
      |0,_,_=>exact hRv
      |1,_,_=>exact .bool _
  ·cases he
 ·cases he
def mapPut(k:IntKind)(n:Int)(v:D)(r:Option (Nat×D))(es:List (D×D)):List (D×D):=
 match r with
 |some (i,_)=>es.set i (.int k n,v)
 |none=>es++[(.int k n,v)]
def dP(P:Sj)(T:Sk)(m i x:D)(s:St):Option St:=
 match P.underlying T with
 |some (.map K _)=>match P.underlying K,m,i with
  |some (.int _),.map b,.int k n=>match s.boxes[b]? with
   |some (.map es)=>(bw k n es 0).map λr=>{s with boxes:=s.boxes.set b (.map (mapPut k n x r es))}
   |_=>Sf
  |_,_,_=>Sf
 |_=>Sf
theorem oG{y:So}(h:WRel w g s)(hm:R g m u)(hi:R g i v)(hx:R g x y)(he:dP P T m i x s=Sd s') :
  ∃w',(Instr.mapUpdate T u v y).run P w=.ok () w'∧WRel w' g s':=by
 unfold dP at he;split at he
 ·rename_i K V hu;split at he
  ·rename_i kk b k n hK;split at he
   ·rename_i es hb;obtain⟨r,hr,rfl⟩:=Ox.1 he;cases hi;cases hm with
    |map _ l hB =>
     obtain⟨l',en,clock,h1,h2,h3,h4⟩:=h.box b _ hb;rw[hB]at h1;cases h1;have hR:∀(j:Nat)(h1:j<es.length)(h2:j<en.toList.length),R g es[j].1 en.toList[j].key∧R g es[j].2 en.toList[j].val:=λj q1 q2=>by
      have:=h4 j q1 (by simpa using q2);simp only[O7];exact⟨this.1,this.2.1⟩
     have hf:=ng es en.toList 0 r (by simpa using h3) hR hr kk;have hlt:=bU h2;have hl1:Live1 s b:=⟨_,hb,by simp⟩;cases r with
     |none =>
      have hf2:=dK hK hf w;refine⟨{w with heap:=w.heap.setIfInBounds l (.map (en.push {key:=.int k n,val:=y,born:=clock}) (clock+1))},?_,h.setObjB hl1 hB h2 (by simp) (by simp) (by simp) ⟨l,en.push {key:=.int k n,val:=y,born:=clock},clock+1,hB,by rw[OO];simp[hlt],by simp[mapPut,h3],λj q1 q2=>?_⟩⟩
      ·simp only[Instr.mapUpdate,Sem.run_bind,run_underlying hu,Result.andThen_ok,dR h2,cP hK,hf2,gO h2]
      ·simp only[mapPut];by_cases hj:j<es.length
       ·rw[OS hj,Rc (by omega)];have:=h4 j hj (by omega)
        refine⟨this.1,this.2.1,by omega,λk q3 hk=>?_⟩;by_cases hk2:k<en.size
        ·rw[Rc hk2]at hk;exact this.2.2.2 k hk2 hk
        ·have hk3:k=en.size:=by simp at q3;omega
         subst hk3;rw[RI]at hk;have:=this.2.2.1
         simp only at hk;omega
       ·have hj2:j=es.length:=by simp[mapPut]at q1;omega
        subst hj2;simp only[List.getElem_concat_length,h3,RI];refine⟨.int _ _,hx,by omega,λk q3 hk=>?_⟩;by_cases hk2:k<en.size
        ·rw[Rc hk2]at hk;have:=(h4 k (by omega) hk2).2.2.1
         omega
        ·simp at q3;omega
     |some jd =>
      obtain⟨j0,dv⟩:=jd;obtain⟨q,hq,hq',a1,a2,a3,a4,a5⟩:=hf;simp only[OF]at a1;subst a1;have hf2:=dK hK a5 w;have hqs:j0<en.size:=by simpa using hq
      have hkey:((en[j0]?).map (·.key)).getD (.int k n)=.int k n:=by
       rw[OI hqs];simpa using a4
      have hks:(Instr.keyThatStays (.int k n) (.int k n)).run P w=.ok (.int k n) w:=by simp[Instr.keyThatStays,Instr.sameBits]
      refine⟨{w with heap:=w.heap.setIfInBounds l (.map (en.modify j0 λe=>{e with key:=.int k n,val:=y}) clock)},?_,h.setObjB hl1 hB h2 (by simp) (by simp) (by simp) ⟨l,en.modify j0 λe=>{e with key:=.int k n,val:=y},clock,hB,by rw[OO];simp[hlt],by simp[mapPut,h3],λj q1 q2=>?_⟩⟩
      ·simp only[Instr.mapUpdate,Sem.run_bind,run_underlying hu,Result.andThen_ok,dR h2,cP hK,hf2,hkey,hks,gO h2]
      ·simp only[mapPut,PU]at q1;simp only[mapPut];rw[Ri];by_cases hj:j0=j
       ·subst hj;simp only[if_true,Rb];refine⟨.int _ _,hx,(h4 j0 q1 hqs).2.2.1,λk q3 hk=>?_⟩;have hks:k<en.size:=by simpa using q3
        refine(h4 j0 q1 hqs).2.2.2 k hks ?_;rw[Ri]at hk;split at hk<;>exact hk
       ·rw[QD hj];simp only[hj,if_false];have:=h4 j q1 (by omega)
        refine⟨this.1,this.2.1,this.2.2.1,λk q3 hk=>?_⟩;have hks:k<en.size:=by simpa using q3
        refine this.2.2.2 k hks ?_;rw[Ri]at hk;split at hk<;>exact hk
   ·cases he
  ·cases he
 ·cases he
def mapCut(r:Option (Nat×D))(es:List (D×D)):List (D×D):=
 match r with
 |some (i,_)=>es.eraseIdx i
 |none=>es
def jg(P:Sj)(T:Sk)(m i:D)(s:St):Option St:=
 match P.underlying T with
 |some (.map K _)=>match P.underlying K,m,i with
  |some (.int _),.map b,.int k n=>match s.boxes[b]? with
   |some (.map es)=>(bw k n es 0).map λr=>{s with boxes:=s.boxes.set b (.map (mapCut r es))}
   |_=>Sf
  |_,_,_=>Sf
 |_=>Sf
theorem Eb{ty:Sk}(h:WRel w g s)(hm:R g m u)(hi:R g i v)(he:jg P T m i s=Sd s') :
  Ok P (Builtin.delete_ #[T,T'] ty #[u,v]) w g (.tup []) s':=by
 unfold jg at he;split at he
 ·rename_i K V hu;split at he
  ·rename_i kk b k n hK;split at he
   ·rename_i es hb;obtain⟨r,hr,rfl⟩:=Ox.1 he;cases hi;cases hm with
    |map _ l hB =>
     obtain⟨l',en,clock,h1,h2,h3,h4⟩:=h.box b _ hb;rw[hB]at h1;cases h1;have hR:∀(j:Nat)(h1:j<es.length)(h2:j<en.toList.length),R g es[j].1 en.toList[j].key∧R g es[j].2 en.toList[j].val:=λj q1 q2=>by
      have:=h4 j q1 (by simpa using q2);simp only[O7];exact⟨this.1,this.2.1⟩
     have hf:=ng es en.toList 0 r (by simpa using h3) hR hr kk;have hlt:=bU h2;have hl1:Live1 s b:=⟨_,hb,by simp⟩;cases r with
     |none =>
      have hf2:=dK hK hf w;refine⟨.tuple #[],{w with heap:=w.heap.setIfInBounds l (.map en clock)},g,?_,.refl g,h.setObjB hl1 hB h2 (by simp) (by simp) (by simp) ⟨l,en,clock,hB,by rw[OO];simp[hlt],by simp[mapCut,h3],λj q1 q2=>h4 j q1 q2⟩,.tup _ _ rfl λi h=>by simp at h⟩;simp[Builtin.delete_,run_underlying hu,dR h2,cP hK,hf2,gO h2]
     |some jd =>
      obtain⟨j0,dv⟩:=jd;obtain⟨q,hq,hq',a1,a2,a3,a4,a5⟩:=hf;simp only[OF]at a1;subst a1;have hf2:=dK hK a5 w;have hqs:j0<en.size:=by simpa using hq
      refine⟨.tuple #[],{w with heap:=w.heap.setIfInBounds l (.map (en.eraseIdxIfInBounds j0) clock)},g,?_,.refl g,h.setObjB hl1 hB h2 (by simp) (by simp) (by simp) ⟨l,en.eraseIdxIfInBounds j0,clock,hB,by rw[OO];simp[hlt],?_,λj q1 q2=>?_⟩,.tup _ _ rfl λi h=>by simp at h⟩
      ·simp[Builtin.delete_,run_underlying hu,dR h2,cP hK,hf2,gO h2]
      ·simp only[mapCut,RB,hqs,dif_pos,Rl];rw[Rs hq',h3]
      ·simp only[mapCut]at q1⊢;simp only[RB,hqs,dif_pos]at q2⊢;have hq1:j<es.length-1:=by rw[Rs hq']at q1;exact q1
       have hq2:j<en.size-1:=by rw[Rl]at q2;exact q2
       have hdist:∀(j':Nat)(h1:j'<es.length)(h2:j'<en.size),(if j<j0 then j'=j else j'=j+1)→∀(k:Nat)(h3:k<(en.eraseIdx j0 hqs).size),(en.eraseIdx j0 hqs)[k].born=en[j'].born→k=j:=λj' p1 p2 hj' k h3 hk=>by
        rw[Rl]at h3;rw[Q7]at hk;split at hk
        ·have:=(h4 j' p1 p2).2.2.2 k (by omega) hk
         split at hj'<;>omega
        ·have:=(h4 j' p1 p2).2.2.2 (k+1) (by omega) hk
         split at hj'<;>omega
       by_cases hjj:j<j0
       ·have e1:(es.eraseIdx j0)[j]=es[j]'(by omega):=by rw[RJ,dif_pos hjj]
        have e2:(en.eraseIdx j0 hqs)[j]=en[j]'(by omega):=by rw[Q7,dif_pos hjj]
        rw[e1,e2];have:=h4 j (by omega) (by omega)
        exact⟨this.1,this.2.1,this.2.2.1,hdist j (by omega) (by omega) (by rw[if_pos hjj])⟩
       ·have e1:(es.eraseIdx j0)[j]=es[j+1]'(by omega):=by rw[RJ,dif_neg hjj]
        have e2:(en.eraseIdx j0 hqs)[j]=en[j+1]'(by omega):=by rw[Q7,dif_neg hjj]
        rw[e1,e2];have:=h4 (j+1) (by omega) (by omega)
        exact⟨this.1,this.2.1,this.2.2.1,hdist (j+1) (by omega) (by omega) (by rw[if_neg hjj])⟩
   ·cases he
  ·cases he
 ·cases he
def eL(P:Sj)(T:Sk)(l c:D)(s:St):Option (D×St):=
 match elemT P T,l,c with
 |some (e,sz,by_,_),.int _ l,.int _ c=>match zeroT P e with
  |some zs=>if zs.length=sz∧0<sz∧0<by_∧by_≤1000000∧0≤l∧l≤c∧c≤1000000 then
    Sd (.row s.boxes.length 0 l.toNat sz,{s with boxes:=s.boxes++[.cells (Oi l.toNat zs).flatten]})else Sf
  |none=>Sf
 |_,_,_=>Sf
theorem y2{zs:List D}:∀(n j:Nat)(h:j<(Oi n zs).flatten.length),0<zs.length→∃h2:j % zs.length<zs.length,(Oi n zs).flatten[j]=zs[j % zs.length]:=by
 intro n;induction n with
 |zero=>intro j h;simp at h
 |succ n ih =>
  intro j h hz;have h':j<zs.length+(Oi n zs).flatten.length:=by simpa[QW]using h
  refine⟨QE _ hz,?_⟩;have e:(Oi (n+1) zs).flatten=zs++(Oi n zs).flatten:=by simp[QW]
  by_cases hj:j<zs.length
  ·have:(Oi (n+1) zs).flatten[j]?=zs[j]?:=by rw[e,Ou hj]
   rw[K4 h,K4 hj]at this;rw[Pk.inj this];congr 1;exact(R6 hj).symm
  ·obtain⟨h2,e2⟩:=ih (j-zs.length) (by omega) hz;have:(Oi (n+1) zs).flatten[j]?=(Oi n zs).flatten[j-zs.length]?:=by rw[e,Oc (by omega)]
   rw[K4 h,K4 (by omega)]at this;rw[Pk.inj this,e2];congr 1;rw[RY (by omega:j≥zs.length)]
theorem wv{l c:D}(h:WRel w g s)(hl:R g l u)(hc:R g c v)(he:eL P T l c s=Sd (d,s')) :
  Ok P (Instr.makeSlice T u v) w g d s':=by
 unfold eL at he;split at he
 ·rename_i e sz by_ ag k l k' c h1;split at he
  ·rename_i zs hz;split at he
   ·rename_i hcond;obtain⟨c1,c2,c3,c4,c5,c6,c7⟩:=hcond;cases he;cases hl;cases hc;obtain⟨hu,⟨i,hi,rfl,rfl⟩,_⟩:=bZ h1;obtain⟨z,hzv,hzok⟩:=gU hz;have hzk:=hzok g;have hzc:z.cells.size=i.size:=by have:=hzk.1;simp at this;omega
    have hbig:(i.bytes:Int)*c≤1000000000000:=by
     calc (i.bytes:Int)*c≤1000000*1000000:=Int.mul_le_mul (by omega) c7 (by omega) (by omega)
      _=1000000000000:=by rfl
    obtain⟨arr,harr⟩:∃arr:Array So,arr=madeCells z.cells (c.toNat*i.size):=⟨_,rfl⟩;have hasz:arr.size=c.toNat*i.size:=by rw[harr];exact size_madeCells _ _
    have hlen:(Oi l.toNat zs).flatten.length=l.toNat*i.size:=by simp[c1]
    have hll:l.toNat*i.size≤c.toNat*i.size:=OT _ (by omega);have hBn:g.B s.boxes.length=Sf:=kv h (K6 _);have hle0:g.le (g.addB s.boxes.length w.heap.size):=jP hBn;obtain⟨hle1,hW1⟩:=h.newBox (.cells arr e) rfl (.cells (Oi l.toNat zs).flatten) ⟨w.heap.size,arr,e,(0,0),by simp[G.addB],bB _ _,by omega,
     λj q1 q2=>by
      obtain⟨h2,e2⟩:=y2 l.toNat j q1 (by omega);have hn0:¬(c.toNat*i.size=0):=by omega
      have hm:j % i.size<z.cells.size:=by rw[hzc];exact QE _ c2
      have e3:arr[j]=z.cells[j % i.size]:=by
       simp only[harr,madeCells,Qm,RT,hzc];exact getElem!_pos z.cells (j % i.size) hm
      have:=hzk.2 (j % zs.length) h2 (by simp;omega)
      rw[e2,e3];simp only[c1,O7]at this⊢;exact⟨this.1.mono hle0,this.2⟩,λo=>rU h (K6 _) o,rfl⟩
    obtain⟨hle2,hW2⟩:=hW1.addS (bB _ _);refine⟨.slice (Sd ⟨w.heap.size,0,Sf⟩) l.toNat c.toNat,w.alloc (.cells arr e),_,?_,hle1.trans hle2,hW2,.row _ _ _ _ w.heap.size arr.size c.toNat (by simp[G.addB,G.addS]) (by simp[G.addS]) (by omega) (by simp[mE];omega) c2 (by omega)⟩;rw[harr];exact run_make w T e i z hu hi (by simpa[zeroV,hi]using hzv) k k' l c c5 c6 (by omega) (by omega)
   ·cases he
  ·cases he
 ·cases he
def pM(P:Sj)(T:Sk)(x:D)(s:St):Option St:=
 match x with
 |.slice _ []=>match P.underlying T with
  |some (.slice _)=>Sd s
  |_=>Sf
 |.row0=>match P.underlying T with
  |some (.slice _)=>Sd s
  |_=>Sf
 |.row b off n rsz=>match elemT P T with
  |some (e,sz,_,_)=>match zeroT P e,s.boxes[b]? with
   |some zs,Sd (.cells cs)=>if zs.length=sz∧0<sz∧off+n*sz≤cs.length then Sd {s with boxes:=s.boxes.set b (.cells (storeD cs off (Oi n zs).flatten))}else Sf
   |_,_=>Sf
  |none=>Sf
 |.map b=>match P.underlying T,s.boxes[b]? with
  |some (.map _ _),Sd (.map _)=>Sd {s with boxes:=s.boxes.set b (.map [])}
  |_,_=>Sf
 |_=>Sf
theorem GC{ty:Sk}(h:WRel w g s)(hx:R g x v)(he:pM P T x s=Sd s') :
  Ok P (Builtin.clear_ #[T] ty #[v]) w g (.tup []) s':=by
 have ht:R g (.tup []) (.tuple #[]):=.tup _ _ rfl λi h=>by simp at h
 unfold pM at he;split at he
 ·rename_i o;split at he
  ·rename_i e hu;cases he;obtain⟨a,cap,szx,fx,rfl,_⟩:=gX hx;refine⟨.tuple #[],w,g,?_,.refl g,h,ht⟩;cases a<;>simp[Builtin.clear_,run_underlying hu]
  ·cases he
 ·split at he
  ·rename_i e hu;cases he;cases hx with
   |row0 a =>
    refine⟨.tuple #[],w,g,?_,.refl g,h,ht⟩;cases a<;>simp[Builtin.clear_,run_underlying hu]
  ·cases he
 ·rename_i b off n rsz;split at he
  ·rename_i e sz by_ ag h1;obtain⟨hu,⟨i,hi,rfl,rfl⟩,_⟩:=bZ h1;split at he
   ·rename_i zs cs hz hb;split at he
    ·rename_i hc;obtain⟨c1,c2,c3⟩:=hc;cases he;obtain⟨z,hzv,hzok⟩:=gU hz;have hzk:=hzok g;have hzc:z.cells.size=i.size:=by have:=hzk.1;simp at this;omega
     cases hx with
     |row _ _ _ _ blk m cap hB hS hcap hn hz0 hm =>
      have hlen:(Oi n zs).flatten.length=n*i.size:=by simp[c1]
      have hcl:(Builtin.zeroCells z.cells n).toList.length=n*i.size:=by simp[size_zeroCells,hzc]
      obtain⟨w',hr,hw'⟩:=WRel.storeBox (P:=P) (Oi n zs).flatten (Builtin.zeroCells z.cells n).toList w s b blk off 0 cs h hb hB (by omega) (by omega) (λj q1 q2=>by
       obtain⟨h2,e2⟩:=y2 n j q1 (by omega);have hm:j % i.size<z.cells.size:=by rw[hzc];exact QE _ c2
       have e3:(Builtin.zeroCells z.cells n).toList[j]=z.cells[j % i.size]:=by
        simp only[Builtin.zeroCells,O7,Qm,RT,hzc];exact getElem!_pos z.cells (j % i.size) hm
       have:=hzk.2 (j % zs.length) h2 (by simp;omega)
       rw[e2,e3];simp only[c1,O7]at this⊢;exact this)
      refine⟨.tuple #[],w',g,?_,.refl g,by rw[jW _ _ _ (by omega)];simpa using hw',ht⟩;rcases O8 n with rfl|hn0
      ·have e0:(Builtin.zeroCells z.cells 0).toList=[]:=by simp[Builtin.zeroCells]
       rw[e0]at hr;simp only[storeCells,Sem.run_pure]at hr;cases hr;simp[Builtin.clear_,run_underlying hu]
      ·obtain⟨n,rfl⟩:∃k,n=k+1:=⟨n-1,by omega⟩;simp only[Builtin.clear_];simp[run_underlying hu,gH hzv,hr]
    ·cases he
   ·cases he
  ·cases he
 ·rename_i b;split at he
  ·rename_i K V es hu hb;cases he;cases hx with
   |map _ l hB =>
    obtain⟨l',en,clock,h1,h2,h3,h4⟩:=h.box b _ hb;rw[hB]at h1;cases h1;have hlt:=bU h2;refine⟨.tuple #[],{w with heap:=w.heap.setIfInBounds l (.map #[] clock)},g,?_,.refl g,h.setObjB ⟨_,hb,by simp⟩ hB h2 (by simp) (by simp) (by simp) ⟨l,#[],clock,hB,by rw[OO];simp[hlt],rfl,λj q1=>by simp at q1⟩,ht⟩;simp[Builtin.clear_,run_underlying hu,dR h2,gO h2]
  ·cases he
 ·cases he
def evBd(o:Option D)(dflt:Nat):Option Nat:=
 match o with
 |none=>Sd dflt
 |some (.int _ n)=>if 0≤n then Sd n.toNat else Sf
 |_=>Sf
def dN(P:Sj)(T:Sk)(x:D)(lo hi mx:Option D):Option D:=
 match P.underlying T,x with
 |some .string,.str b=>match evBd lo 0,evBd hi b.size,mx with
  |some l,Sd h,Sf=>if l≤h∧h≤b.size then Sd (.str (b.extract l h))else Sf
  |_,_,_=>Sf
 |some (.slice e),.slice o xs=>match elemT P T,evBd lo 0,evBd hi xs.length,evBd mx xs.length with
  |some (_,sz,_,_),Sd l,Sd h,Sd m =>
   if l≤h∧h≤m∧m≤xs.length∧(mx.isSome=Sh→hi.isSome=Sh)∧(l=0∨xs.all (·.length == sz)=Sh)then
    Sd (.slice (if mx.isSome=Sh then(if m=h then .full else .none)else if o=.full∧h=xs.length then .full else .none) ((xs.take h).drop l))else Sf
  |_,_,_,_=>Sf
 |some (.slice e),.row0=>match elemT P T,evBd lo 0,evBd hi 0,evBd mx 0 with
  |some _,Sd 0,Sd 0,Sd 0=>if mx.isSome=Sh→hi.isSome=Sh then Sd .row0 else Sf
  |_,_,_,_=>Sf
 |some (.slice e),.row b off n rsz=>match elemT P T,evBd lo 0,evBd hi n,evBd mx n with
  |some (_,sz,_,_),Sd l,Sd h,Sd m =>
   if l≤h∧h≤m∧m≤n∧(mx.isSome=Sh→hi.isSome=Sh)∧rsz=sz then
    Sd (if l=0 then .row b off h rsz else if l<h then .row b (off+l*sz) (h-l) rsz else .slice .none [])else Sf
  |_,_,_,_=>Sf
 |some (.slice e),.msl b off n c rsz=>match elemT P T,evBd lo 0,evBd hi n,mx with
  |some (_,sz,_,_),Sd l,Sd h,Sf =>
   if l≤h∧h≤c∧rsz=sz then Sd (if l=0 then .msl b off h c rsz else if l<c then .msl b (off+l*sz) (h-l) (c-l) rsz else .junk)else Sf
  |_,_,_,_=>Sf
 |_,_=>Sf
def RO(g:G)(o:Option D)(v:Option So):Prop:=
 match o,v with
 |none,Sf=>True
 |some d,Sd u=>R g d u
 |_,_=>False
theorem sb{y:Nat}{c:BoundsCode}(h:R g d v)(he:evBd (Sd d) 0=Sd n)(hy:n≤y)(w:Sl):(Instr.sliceBound v y c).run P w=.ok n w:=by
 unfold evBd at he;split at he
 ·cases ‹Sd d=Sf›
 ·rename_i k q heq;cases heq;split at he
  ·rename_i hq;cases he;cases h;simp only[Instr.sliceBound,asIntOf,Sem.run_bind,Sem.run_pure,Result.andThen_ok];rw[if_pos ⟨hq,by omega⟩];rfl
  ·cases he
 ·cases he
theorem EH{a:Nat}(h:evBd (Sd d) a=Sd n):evBd (Sd d) 0=Sd n:=by
 unfold evBd at h⊢;split at h<;>simp_all
theorem kQ{isS:Bool}{len cap h m:Nat}{vl vh vm:Option So}(h1:vm=Sf→m=cap)(h2:∀u,vm=Sd u→∀c,(Instr.sliceBound u cap c).run P w=.ok m w)
  (h3:vh=Sf→vm=Sf∧h=len) (h4:∀u,vh=Sd u→∀c,(Instr.sliceBound u m c).run P w=.ok h w) (h5:vl=Sf→l=0) (h6:∀u,vl=Sd u→∀c,(Instr.sliceBound u h c).run P w=.ok l w) :
  (Instr.sliceBounds isS len cap vl vh vm).run P w=.ok (l,h,m) w:=by
 cases vm with
 |none =>
  cases h1 rfl;cases vh with
  |none =>
   cases(h3 rfl).2;cases vl with
   |none=>cases h5 rfl;rfl
   |some u=>simp[Instr.sliceBounds,h6 u rfl]
  |some v =>
   cases vl with
   |none=>cases h5 rfl;simp[Instr.sliceBounds,h4 v rfl]
   |some u=>simp[Instr.sliceBounds,h4 v rfl,h6 u rfl]
 |some x =>
  cases vh with
  |none=>exact absurd (h3 rfl).1 (by simp)
  |some v =>
   cases vl with
   |none=>cases h5 rfl;simp[Instr.sliceBounds,h2 x rfl,h4 v rfl]
   |some u=>simp[Instr.sliceBounds,h2 x rfl,h4 v rfl,h6 u rfl]
theorem pf{o:Option D}{v:Option So}{dflt y:Nat}(h:RO g o v)(he:evBd o dflt=Sd n)(hy:n≤y)(w:Sl) :
  (v=Sf→o=Sf∧n=dflt)∧(∀u,v=Sd u→o.isSome=Sh∧∀c,(Instr.sliceBound u y c).run P w=.ok n w):=by
 cases o with
 |none=>cases v with
  |none=>cases he;exact⟨λ_=>⟨rfl,rfl⟩,λu hu=>by cases hu⟩
  |some _=>exact h.elim
 |some d=>cases v with
  |none=>exact h.elim
  |some u=>exact⟨λhu=>(by cases hu),λu' hu=>by cases hu;exact⟨rfl,λc=>sb h (EH he) hy w⟩⟩
theorem qH{inf:TypeInfo}{a:Option Addr}{len cap h' m:Nat}{lo hi mx:Option D}{vl vh vm:Option So}(hl:RO g lo vl)(hh:RO g hi vh)(hm:RO g mx vm)
  (hu:P.underlying T=Sd (.slice e)) (hinf:P.info? e=Sd inf) (h1:evBd lo 0=Sd l) (h2:evBd hi len=Sd h') (h3:evBd mx len=Sd m) (c1:l≤h') (c2:h'≤m) (c3:m≤len) (hcap:len≤cap) (c4:mx.isSome=Sh→hi.isSome=Sh) :
  ∃m',m≤m'∧m'≤cap∧(Instr.sliceAt T (.slice a len cap) vl vh vm).run P w=.ok (.slice (if m'=l then a else a.map (·.add (l*inf.size))) (h'-l) (m'-l)) w:=by
 have bm:=pf (P:=P) (y:=cap) hm h3 (by omega) w;obtain⟨m',hm1,hm2,hm3,hm4⟩:∃m',(vm=Sf→m'=cap)∧(∀u,vm=Sd u→m'=m)∧m≤m'∧m'≤cap:=by
  cases vm with
  |none=>exact⟨cap,λ_=>rfl,λu hu=>(by cases hu),by omega,K6 _⟩
  |some u=>exact⟨m,λe=>(by cases e),λ_ _=>rfl,K6 _,by omega⟩
 have bh:=pf (P:=P) (y:=m') hh h2 (by omega) w;have bl:=pf (P:=P) (y:=h') hl h1 c1 w;have hbounds:(Instr.sliceBounds Sh len cap vl vh vm).run P w=.ok (l,h',m') w:=
  kQ hm1 (λu e c=>by rw[hm2 u e];exact(bm.2 u e).2 c) (λe=>⟨(by
   cases hvm:vm with
   |none=>rfl
   |some u =>
    have:=c4 (bm.2 u hvm).1
    rw[(bh.1 e).1]at this;cases this),(bh.1 e).2⟩) (λu e=>(bh.2 u e).2) (λe=>(bl.1 e).2) (λu e=>(bl.2 u e).2)
 refine⟨m',hm3,hm4,?_⟩;simp only[Instr.sliceAt,Sem.run_bind,run_underlying hu,Result.andThen_ok,Instr.slice,hbounds,ci (show sizeT P e=Sd inf.size by simp[sizeT,hinf]),Sem.run_pure]
theorem Gz{lo hi mx:Option D}{vl vh vm:Option So}(h:WRel w g s)(hx:R g x v)(hl:RO g lo vl)(hh:RO g hi vh)(hm:RO g mx vm)
  (he:dN P T x lo hi mx=Sd d):Ok P (Instr.sliceAt T v vl vh vm) w g d s:=by
 unfold dN at he;split at he
 ·rename_i b hu;cases hx;split at he
  ·rename_i l h' h1 h2;split at he
   ·rename_i hc;cases he;cases vm with
    |some _=>exact hm.elim
    |none =>
     refine⟨.string (b.extract l h'),w,g,?_,.refl g,h,.str _⟩;have bh:=pf (P:=P) hh h2 hc.2 w;have bl:=pf (P:=P) hl h1 hc.1 w;have hb:=kQ (P:=P) (w:=w) (isS:=Se) (len:=b.size) (cap:=b.size) (l:=l) (h:=h') (m:=b.size) (vl:=vl) (vh:=vh) (vm:=Sf) (λ_=>rfl) (λu hu=>(by cases hu)) (λe=>⟨rfl,(bh.1 e).2⟩)
      (λu e=>(bh.2 u e).2) (λe=>(bl.1 e).2) (λu e=>(bl.2 u e).2)
     simp[Instr.sliceAt,run_underlying hu,Instr.slice,hb]
   ·cases he
  ·cases he
 ·rename_i e o xs hu;split at he
  ·rename_i e' sz by_ ag l h' m h0 h1 h2 h3;obtain⟨hu',⟨inf,hinf,rfl,rfl⟩,_⟩:=bZ h0;rw[hu]at hu';cases hu';split at he
   ·rename_i hc;obtain⟨c1,c2,c3,c4,c5⟩:=hc;cases he;obtain⟨a,cap,szx,fx,rfl,hcx,hmx,hox,hsx,hkx,hax⟩:=gX hx;-- the real third bound
    have bm:=pf (P:=P) (y:=cap) hm h3 (by omega) w;obtain⟨m',hm1,hm2,hm3,hm4⟩:∃m',(vm=Sf→m'=cap)∧(∀u,vm=Sd u→m'=m)∧m≤m'∧(mx.isSome=Sh→m'=m):=by
     cases vm with
     |none=>exact⟨cap,λ_=>rfl,λu hu=>(by cases hu),by omega,λe=>(by rw[(bm.1 rfl).1]at e;cases e)⟩
     |some u=>exact⟨m,λe=>(by cases e),λ_ _=>rfl,K6 _,λ_=>rfl⟩
    have bh:=pf (P:=P) (y:=m') hh h2 (by omega) w;have bl:=pf (P:=P) (y:=h') hl h1 c1 w;have hbounds:(Instr.sliceBounds Sh xs.length cap vl vh vm).run P w=.ok (l,h',m') w:=
     kQ hm1 (λu e c=>by rw[hm2 u e];exact(bm.2 u e).2 c) (λe=>⟨(by
      cases hvm:vm with
      |none=>rfl
      |some u =>
       have:=c4 (bm.2 u hvm).1
       rw[(bh.1 e).1]at this;cases this),(bh.1 e).2⟩) (λu e=>(bh.2 u e).2) (λe=>(bl.1 e).2) (λu e=>(bl.2 u e).2)
    refine⟨.slice (if m'=l then a else a.map (·.add (l*inf.size))) (h'-l) (m'-l),w,g,?_,.refl g,h,?_⟩
    ·simp only[Instr.sliceAt,Sem.run_bind,run_underlying hu,Result.andThen_ok,Instr.slice,hbounds,ci (show sizeT P e=Sd inf.size by simp[sizeT,hinf]),Sem.run_pure]
    ·cases hx with
     |slice _ _ _ _ sz blk off val hc' hm0 ho hs ha hM hv hR =>
      have hlen:((xs.take h').drop l).length=h'-l:=by simp;omega
      rw[←hlen];have hsz:l≠0→0<xs.length→sz=inf.size:=by
       intro hl0 hx0;rcases c5 with c5|c5
       ·exact absurd c5 hl0
       ·have h1:=N0.1 c5 _ (NY hx0);have h2:=hs 0 hx0;simp at h1;omega
      refine .slice _ _ _ _ sz blk (off+l*sz) (λi j=>val (l+i) j) (by rw[hlen];omega) (by rw[hlen];omega) ?_ (λi hi=>?_) (λhpos=>?_) (λi j hi hj=>?_) (λi j hi hj=>?_) (λi j hi hj=>?_)
      ·by_cases hmx:mx.isSome=Sh
       ·rw[if_pos hmx];split
        ·rename_i e1;show m'-l=_;rw[hlen,hm4 hmx];omega
        ·trivial
       ·rw[if_neg hmx];split
        ·rename_i e1;obtain⟨rfl,e2⟩:=e1;show m'-l=_;have hvm:vm=Sf:=by
          cases hvm:vm with
          |none=>rfl
          |some u=>exact absurd (bm.2 u hvm).1 hmx
         have hcap:cap=xs.length:=hox;rw[hlen,hm1 hvm];omega
        ·trivial
      ·simp only[PY,PJ];exact hs _ _
      ·rw[hlen]at hpos;have hx0:0<xs.length:=by omega
       rw[if_neg (by omega),ha hx0];simp only[Po,cB];by_cases hl0:l=0
       ·subst hl0;simp
       ·rw[hsz hl0 hx0]
      ·rw[hlen]at hi;have:=hM (l+i) j (by omega) hj
       rw[PK,←PP]at this;exact this
      ·rw[hlen]at hi;exact hv (l+i) j (by omega) hj
      ·simp only[PY,PJ];rw[hlen]at hi;exact hR (l+i) j (by omega) (by simpa using hj)
   ·cases he
  ·cases he
 ·rename_i e hu;split at he
  ·rename_i el h0 h1 h2 h3;obtain⟨e',sz,by_,ag⟩:=el;obtain⟨hu',⟨inf,hinf,rfl,rfl⟩,_⟩:=bZ h0;rw[hu]at hu';cases hu';split at he
   ·rename_i c4;cases he;cases hx with
    |row0 a =>
     obtain⟨m',q1,q2,q3⟩:=qH (P:=P) (w:=w) (a:=a) (cap:=0) hl hh hm hu hinf h1 h2 h3 (by omega) (by omega) (by omega) (by omega) c4;obtain rfl:m'=0:=by omega
     exact⟨_,w,g,q3,.refl g,h,.row0 _⟩
   ·cases he
  ·cases he
 ·rename_i e b off n rsz hu;split at he
  ·rename_i e' sz by_ ag l h' m h0 h1 h2 h3;obtain⟨hu',⟨inf,hinf,rfl,rfl⟩,_⟩:=bZ h0;rw[hu]at hu';cases hu';split at he
   ·rename_i hc;obtain⟨c1,c2,c3,c4,rfl⟩:=hc;cases he;cases hx with
    |row _ _ _ _ blk M cap hB hS hcap hn hz0 hM =>
     obtain⟨m',q1,q2,q3⟩:=qH (P:=P) (w:=w) (a:=Sd ⟨blk,off,Sf⟩) (cap:=cap) hl hh hm hu hinf h1 h2 h3 c1 c2 c3 hcap c4;refine⟨_,w,g,q3,.refl g,h,?_⟩;have hmul:(m'-l)*inf.size+l*inf.size≤cap*inf.size:=by
      rw[←PK];exact OT _ (by omega)
     split
     ·rename_i hl0;subst hl0;have e1:(if m'=0 then Sd (⟨blk,off,Sf⟩:Addr)else(Sd ⟨blk,off,Sf⟩:Option Addr).map (·.add (0*inf.size)))=Sd ⟨blk,off,Sf⟩:=by
       simp[cB]
      rw[e1];exact .row _ _ _ _ blk M _ hB hS (by omega) (by omega) hz0 (by omega)
     ·rename_i hl0;split
      ·rename_i hlt;rw[if_neg (by omega)];simp only[Po,cB];exact .row _ _ _ _ blk M _ hB hS (by omega) (by omega) hz0 (by omega)
      ·rename_i hlt;rw[show h'-l=([]:List (List D)).length by simp;omega];exact .slice .none [] _ _ 0 0 0 (λ_ _=>.nilFunc) (by simp) (by simp) trivial (λi hi=>by simp at hi) (λh=>by simp at h) (λi j hi=>by simp at hi) (λi j hi=>by simp at hi) (λi j hi=>by simp at hi)
   ·cases he
  ·cases he
 ·rename_i e b off n c rsz hu;split at he
  ·rename_i e' sz by_ ag l h' h0 h1 h2;obtain⟨hu',⟨inf,hinf,rfl,rfl⟩,_⟩:=bZ h0;rw[hu]at hu';cases hu';split at he
   ·rename_i hc;obtain⟨c1,c2,rfl⟩:=hc;cases he;cases vm with
    |some _=>exact hm.elim
    |none =>
    cases hx with
    |msl _ _ _ _ _ blk M hB hS hcap hz0 hM =>
     have bh:=pf (P:=P) (y:=c) hh h2 c2 w;have bl:=pf (P:=P) (y:=h') hl h1 c1 w;have hbounds:(Instr.sliceBounds Sh n c vl vh Sf).run P w=.ok (l,h',c) w:=
      kQ (λ_=>rfl) (λu e=>(by cases e)) (λe=>⟨rfl,(bh.1 e).2⟩) (λu e=>(bh.2 u e).2) (λe=>(bl.1 e).2) (λu e=>(bl.2 u e).2)
     refine⟨.slice (if c=l then Sd ⟨blk,off,Sf⟩else(Sd ⟨blk,off,Sf⟩:Option Addr).map (·.add (l*inf.size))) (h'-l) (c-l),w,g,?_,.refl g,h,?_⟩
     ·simp only[Instr.sliceAt,Sem.run_bind,run_underlying hu,Result.andThen_ok,Instr.slice,hbounds,ci (show sizeT P e=Sd inf.size by simp[sizeT,hinf]),Sem.run_pure]
     ·have hmul:(c-l)*inf.size+l*inf.size=c*inf.size:=by
       rw[←PK];congr 1;omega
      split
      ·rename_i hl0;subst hl0;have e1:(if c=0 then Sd (⟨blk,off,Sf⟩:Addr)else(Sd ⟨blk,off,Sf⟩:Option Addr).map (·.add (0*inf.size)))=Sd ⟨blk,off,Sf⟩:=by
        simp[cB]
       rw[e1];exact .msl _ _ _ _ _ blk M hB hS (by omega) hz0 (by omega)
      ·split
       ·rename_i hlt;rw[if_neg (by omega)];simp only[Po,cB];exact .msl _ _ _ _ _ blk M hB hS (by omega) hz0 (by omega)
       ·exact .junk _
   ·cases he
  ·cases he
 ·cases he
def Bb(x y:D):Option D:=match x,y with
 |.int k a,.int _ b=>Sd (.int k (if b<a then b else a))
 |_,_=>Sf
def Bc(x y:D):Option D:=match x,y with
 |.int k a,.int _ b=>Sd (.int k (if b > a then b else a))
 |_,_=>Sf
theorem MH{ts:Array Sk}{ty:Sk}(h:WRel w g s)(hx:R g x u)(hy:R g y v)(he:Bb x y=Sd d):Ok P (Builtin.min_ ts ty #[u,v]) w g d s:=by
 unfold Bb at he;split at he
 ·cases he;cases hx;cases hy;exact⟨_,w,g,by simp only[Builtin.min_,List.foldlM,Builtin.min2,Sem.run_bind,Sem.run_pure,Result.andThen_ok],.refl g,h,.int _ _⟩
 ·cases he
theorem MI{ts:Array Sk}{ty:Sk}(h:WRel w g s)(hx:R g x u)(hy:R g y v)(he:Bc x y=Sd d):Ok P (Builtin.max_ ts ty #[u,v]) w g d s:=by
 unfold Bc at he;split at he
 ·cases he;cases hx;cases hy;exact⟨_,w,g,by simp only[Builtin.max_,List.foldlM,Builtin.max2,Sem.run_bind,Sem.run_pure,Result.andThen_ok],.refl g,h,.int _ _⟩
 ·cases he
def fq(x:D):Option D:=
 match x with
 |.box b o=>Sd (.box b o)
 |.pin cs=>Sd (.pin cs)
 |.func (.func f) a c=>Sd (.func (.func f) a c)
 |.yield b=>Sd (.yield b)
 |_=>Sf
def vg(P:Sj)(T:Sk)(x:D):Option D:=
 match P.underlying T,x with
 |some (.slice _),.msl _ _ _ c _=>Sd (.int .i64 c)
 |_,_=>Sf
theorem MK{ty:Sk}(h:WRel w g s)(hx:R g x v)(he:vg P T x=Sd d):Ok P (Builtin.cap_ #[T] ty #[v]) w g d s:=by
 unfold vg at he;split at he
 ·rename_i e b off n c rsz hu;cases he;cases hx;exact⟨_,w,g,by simp[Builtin.cap_,run_underlying hu,goInt],.refl g,h,.int _ _⟩
 ·cases he
theorem WRel.revive{w:Sl}{g:G}{s:St}{i b:Nat}{cs:List D}{arr:Array So}{T:Sk}(h:WRel w g {s with boxes:=s.boxes.set i .dead})(hi:i<s.boxes.length)(hB:g.B i=Sd b)(hh:w.heap[b]?=Sd (.cells arr T (0,0)))(hlen:cs.length≤arr.size)
  (hR:∀(j:Nat)(h1:j<cs.length)(h2:j<arr.size),R g cs[j] arr[j]∧arr[j].oneCell'=Sh) (hM:∀o,g.M b o=Sf) (ho:∀j,Live1 {s with boxes:=s.boxes.set i .dead} j→g.B j≠Sd b):WRel w g {s with boxes:=s.boxes.set i (.cells cs)}:=by
 have hl:∀j,j≠i→Live1 {s with boxes:=s.boxes.set i (.cells cs)} j→Live1 {s with boxes:=s.boxes.set i .dead} j:=λj hj⟨bx,e1,e2⟩=>by
  simp only at e1;rw[Oj (by omega)]at e1;exact⟨bx,by simp only;rw[Oj (by omega)];exact e1,e2⟩
 refine {os:=h.os,tape:=h.tape,out:=h.out,fz:=h.fz,n:=h.n,old:=h.old,m:=h.m,box:=λj bx hj=>?_,inj:=λj k c h1 h2 l1 l2=>?_,dom:=λj c hj=>by have:=h.dom j c hj;simpa using this,live:=h.live,uniq:=h.uniq,ldom:=h.ldom,o:=h.o,nd:=h.nd,sz:=h.sz}
 ·by_cases e:j=i
  ·subst e;simp only at hj;rw[Om hi]at hj;cases hj;exact⟨b,arr,T,(0,0),hB,hh,hlen,hR,hM,rfl⟩
  ·simp only at hj;rw[Oj (by omega)]at hj;exact h.box j bx (by simp only;rw[Oj (by omega)];exact hj)
 ·by_cases e:j=i
  ·by_cases e2:k=i
   ·omega
   ·subst e;rw[hB]at h1;cases h1;exact absurd h2 (ho k (hl k e2 l2))
  ·by_cases e2:k=i
   ·subst e2;rw[hB]at h2;cases h2;exact absurd h1 (ho j (hl j e l1))
   ·exact h.inj j k c h1 h2 (hl j e l1) (hl k e2 l2)
def Fq:D→Option (Nat×Nat×Nat×Nat)
 |.row b off n z=>Sd (b,off,n,z)
 |.msl b off n _ z=>Sd (b,off,n,z)
 |_=>Sf
def Fr:D→Option Nat
 |.slice _ xs=>Sd xs.length
 |.row0=>Sd 0
 |.row _ _ n _=>Sd n
 |.msl _ _ n _ _=>Sd n
 |_=>Sf
def lj(sz n:Nat)(s:St):D→Option (List D)
 |.slice _ xs=>if xs.all (·.length == sz)=Sh then Sd (xs.take n).flatten else Sf
 |.row b off _ z=>match s.boxes[b]? with
  |some (.cells cs)=>if z=sz∧off+n*sz≤cs.length then Sd ((cs.drop off).take (n*sz))else Sf
  |_=>Sf
 |.msl b off _ _ z=>match s.boxes[b]? with
  |some (.cells cs)=>if z=sz∧off+n*sz≤cs.length then Sd ((cs.drop off).take (n*sz))else Sf
  |_=>Sf
 |_=>Sf
def uQ(P:Sj)(T:Sk)(x y:D)(s:St):Option (D×St):=
 match elemT P T,Fq x,Fr y with
 |some (_,sz,_,_),Sd (b,off,n,z),Sd k=>match s.boxes[b]?,lj sz (min k n) s y with
  |some (.cells cs),Sd ds=>if z=sz∧0<sz∧off≤cs.length then Sd (.int .i64 (min k n:Nat),{s with boxes:=s.boxes.set b (.cells (storeD cs off ds))})else Sf
  |_,_=>Sf
 |_,_,_=>Sf
theorem MV{off:Nat}(hx:R g x v)(h:Fq x=Sd (b,off,n,z)):∃blk m cap,v=.slice (Sd ⟨blk,off,Sf⟩) n cap∧g.B b=Sd blk∧g.S blk=Sd m∧n≤cap∧off+cap*z≤m:=by
 cases hx<;>cases h<;>exact⟨_,_,_,rfl,by assumption,by assumption,by assumption,by assumption⟩
theorem MA {P:Sj} {w:Sl} {g:G} {s:St} {y:D} {u:So} {k n sz:Nat} {ds:List D} (h:WRel w g s) (hy:R g y u) (hk:Fr y=Sd k) (hn:n≤k) (hd:lj sz n s y=Sd ds) :
    ∃a c vs,u=.slice a k c∧CellsOk g ds vs∧vs.length=n*sz∧(Builtin.firstCells sz n u).run P w=.ok vs.toArray w:=by
  have box:∀(b off z blk c:Nat)(cs:List D),s.boxes[b]?=Sd (.cells cs)→g.B b=Sd blk→u=.slice (Sd ⟨blk,off,Sf⟩) k c→off+n*sz≤cs.length→ds=(cs.drop off).take (n*sz)→∃a c vs,u=.slice a k c∧CellsOk g ds vs∧vs.length=n*sz∧(Builtin.firstCells sz n u).run P w=.ok vs.toArray w:=by
    intro b off z blk c cs hb hB hu ho hds;obtain⟨blk',arr,T0,fr,q1,q2,q3,q4,q5⟩:=h.box b _ hb;rw[hB]at q1;cases q1;have hvl:((arr.toList.drop off).take (n*sz)).length=n*sz:=by simp;omega
    refine⟨_,c,(arr.toList.drop off).take (n*sz),hu,⟨by rw[hds,hvl];simp;omega,λj j1 j2=>?_⟩,hvl,?_⟩
    · rw[hvl]at j2;have:=q4 (off+j) (by omega) (by omega)
      subst hds;simpa using this
    · subst hu;refine run_firstCells_some _ _ _ _ _ _ _ hvl (λj v hj=>?_);rw[cB];obtain⟨hlt,rfl⟩:=M5.1 hj;have hlt2:off+j<arr.size:=by rw[hvl]at hlt;omega
      simp[World.cell?,q2,hlt2]
  cases y with
  |slice o xs =>
    cases hk;simp only[lj]at hd;split at hd
    · rename_i hall;cases hd;obtain⟨a,cap,sz',fl,rfl,hc,hm,ho,hs,hkk,ha⟩:=gX hy;have hall':∀x∈xs,x.length=sz:=λx hx=>by simpa using N0.1 hall x hx
      have hfl:fl.length=xs.length*sz:=by rw[←hkk.1,bX xs hall']
      have hns:n*sz≤xs.length*sz:=OT _ hn;have hft:(xs.take n).flatten=xs.flatten.take (n*sz):=by
        have e:xs.flatten=(xs.take n).flatten++(xs.drop n).flatten:=by rw[←RQ,List.take_append_drop]
        have hl:(xs.take n).flatten.length=n*sz:=by rw[bX _ (λx hx=>hall' x (List.mem_of_mem_take hx)),OD,Nat.min_eq_left hn]
        rw[e,←hl,List.take_left'];rfl
      refine⟨a,cap,fl.take (n*sz),rfl,by rw[hft];exact hkk.take _,by simp;omega,?_⟩;rcases O8 (n*sz)with e0|e0
      · rw[e0];cases a with
        |none=>exact run_firstCells_none _ _ _ _ _
        |some b=>exact run_firstCells_some _ _ _ _ _ _ [] (by simp[e0]) (λj v hj=>by simp at hj)
      · have hn0 : 0 < n := by rcases O8 n with e | e; · rw [e] at e0; simp at e0
                               · exact e
        obtain⟨blk,off,rfl,hMy⟩:=ha (by omega);refine run_firstCells_some _ _ _ _ _ _ _ (by simp;omega) (λj v hj=>?_);rw[cB];rw[List.getElem?_take]at hj;split at hj
        · exact h.m _ _ _ (hMy j v hj)
        · cases hj
    · cases hd
  |row b off m z =>
    cases hk;simp only[lj]at hd;split at hd
    · rename_i cs hb;split at hd
      · rename_i hc;cases hd;cases hy with
        |row _ _ _ _ blk M cap hB hS hcap hn' hz hm=>exact box b off z blk cap cs hb hB rfl hc.2 rfl
      · cases hd
    · cases hd
  |msl b off m c z =>
    cases hk;simp only[lj]at hd;split at hd
    · rename_i cs hb;split at hd
      · rename_i hc;cases hd;cases hy with
        |msl _ _ _ _ _ blk M hB hS hcap hz hm=>exact box b off z blk c cs hb hB rfl hc.2 rfl
      · cases hd
    · cases hd
  |_=>simp[lj]at hd
theorem J3{ty:Sk}(h:WRel w g s)(hx:R g x v)(hy:R g y u)(he:uQ P T x y s=Sd (d,s')) :
  Ok P (Builtin.copy_ #[T,T'] ty #[v,u]) w g d s':=by
 unfold uQ at he;split at he
 ·rename_i e sz by_ ag b off n z k h1 h2 h3;split at he
  ·rename_i cs ds hb hs;split at he
   ·rename_i hc;obtain⟨rfl,hz0,hoff⟩:=hc;cases he;obtain⟨hu,⟨i,hi,rfl,rfl⟩,_⟩:=bZ h1;obtain⟨blk,m,cap,rfl,hB,hS,hcap,hm⟩:=MV hx h2;obtain⟨a,c,vs,rfl,hkk,hvl,hrun⟩:=MA (P:=P) h hy h3 (Nat.min_le_left k n) hs;obtain⟨blk',arr,T0,fr,q1,q2,q3,q4,q5⟩:=h.box b _ hb;rw[hB]at q1;cases q1;obtain⟨a2,T2,f2,e1,e2⟩:=h.sz blk m hS;rw[q2]at e1;cases e1;have hbl:=(M5.1 hb).1;have hN:=(h.dom b blk hB).2.1;have hdl:ds.length=min k n*i.size:=by rw[hkk.1,hvl]
    have hroom:off+ds.length≤arr.size:=by
     have:min k n*i.size≤cap*i.size:=OT _ (by omega)
     omega
    have key:∃w',(storeCells ⟨blk,off,Sf⟩ vs 0).run P w=.ok () w'∧WRel w' g {s with boxes:=s.boxes.set b (.cells (storeD cs off ds))}:=by
     by_cases hin:off+ds.length≤cs.length
     ·obtain⟨w',hr,hw'⟩:=WRel.storeBox (P:=P) ds vs w s b blk off 0 cs h hb hB (by omega) hkk.1 hkk.2;exact⟨w',hr,by rw[jW _ _ _ hin];simpa using hw'⟩
     ·have hlive:∀j,Live1 {s with boxes:=s.boxes.set b .dead} j→g.B j≠Sd blk:=by
       intro j hj hjB;obtain⟨l1,l2⟩:=gw hj;exact l2 (h.inj j b blk hjB hB l1 ⟨_,hb,by simp⟩)
      obtain⟨w',arr',hr,hw',hh',hs',hcc,hkeep⟩:=WRel.storeFree (P:=P) (off:=off) hN hlive vs w 0 arr T0 fr q5.2 (h.kill b) q2 (by rw[hvl,←hdl];omega)
       (λj hj=>q5.1 _) (λv hv=>by obtain⟨j,hj,rfl⟩:=Oa hv;exact(hkk.2 j (by rw[hkk.1];exact hj) hj).2)
      have hfr:=q5.2;subst hfr;refine⟨w',hr,hw'.revive hbl hB hh' ?_ (λj p1 p2=>?_) q5.1 hlive⟩
      ·simp only[storeD,K5,OD,List.length_drop];omega
      ·have hst:storeD cs off ds=cs.take off++ds:=by
        simp only[storeD];rw[List.drop_eq_nil_of_le (by omega),Oq]
       simp only[hst]at p1⊢;have hto:(cs.take off).length=off:=by simp;omega
       by_cases hj:j<off
       ·rw[OS (by rw[hto];exact hj)];have e3:=hkeep j (by omega);rw[OI p2,OI (by omega)]at e3;rw[Pk.inj e3];simpa using q4 j (by omega) (by omega)
       ·have hj2:j-off<ds.length:=by rw[K5,hto]at p1;omega
        have hj3:j-off<vs.length:=by rw[←hkk.1];exact hj2
        rw[ON (by rw[hto];omega)];have e3:=hcc (j-off) hj3;rw[show off+0+(j-off)=j by omega,OI p2]at e3;rw[Pk.inj e3];simp only[hto];exact hkk.2 _ hj2 hj3
    obtain⟨w',hr,hw'⟩:=key;refine⟨.int .i64 (min k n:Nat),w',g,?_,.refl g,hw',.int _ _⟩;simp[Builtin.copy_,run_underlying hu,Builtin.lenOf,sizeOf,typeInfo,hi,hrun,hr,goInt]
   ·cases he
  ·cases he
 ·cases he
def kc(P:Sj)(b:Builtin)(ts:List Sk)(xs:List D)(s:St):Option (D×St):=
 match b,ts,xs with
 |.len,[T],[x]=>(gE P T x s).map (·,s)
 |.append,[T,T'],[x,y]=>cW P T T' x y s
 |.min,_,[x,y]=>(Bb x y).map (·,s)
 |.max,_,[x,y]=>(Bc x y).map (·,s)
 |.delete,[T,_],[m,k]=>(jg P T m k s).map (.tup [],·)
 |.clear,[T],[x]=>(pM P T x s).map (.tup [],·)
 |.cap,[T],[x]=>(vg P T x).map (·,s)
 |.copy,[T,_],[x,y]=>uQ P T x y s
 |_,_,_=>Sf
def evalOp(P:Sj)(ρ:Sn→D)(s:St)(op:Op):Option (D×St):=
 match op with
 |.move x=>Sd (ρ x,s)
 |.assign x=>Sd (ρ x,s)
 |.pick c a b=>match ρ c with
  |.bool t=>Sd (bif t then ρ a else ρ b,s)
  |_=>Sf
 |.alloc T=>lc P T s
 |.box _ x=>lb (ρ x) s
 |.build T ps=>(la P T (ps.toList.map λq=>(q.1,ρ q.2))).map (·,s)
 |.buildSlice T n ps=>(ez P T n (ps.toList.map λq=>(q.1,ρ q.2))).map (·,s)
 |.load T a=>(evLoad P T (ρ a) s).map (·,s)
 |.store T a x=>(iP P T (ρ a) (ρ x) s).map (.junk,·)
 |.nilCheck x=>(fq (ρ x)).map (·,s)
 |.binOp op T x y _=>(dW P op T (ρ x) (ρ y)).map (·,s)
 |.unOp op _ x=>(HZ op (ρ x)).map (·,s)
 |.convert src dst x=>(lu P src dst (ρ x)).map (·,s)
 |.makeFunc fn fi ca=>Sd (.func fn (fi.toList.map ρ) (ca.toList.map ρ),s)
 |.slice T x lo hi mx=>(dN P T (ρ x) (lo.map ρ) (hi.map ρ) (mx.map ρ)).map (·,s)
 |.fieldAddr T x f=>(ev P T (ρ x) f).map (·,s)
 |.field T x f=>(iQ P T (ρ x) f).map (·,s)
 |.indexAddr T x i=>(cK P T (ρ x) (ρ i)).map (·,s)
 |.index T x i=>(kZ P T (ρ x) (ρ i)).map (·,s)
 |.extract t i=>(kb (ρ t) i).map (·,s)
 |.makeMap T r=>match r with
  |none=>mg s
  |some x=>match ρ x,P.underlying T with
   |.int _ _,Sd (.map _ _)=>mg s
   |_,_=>Sf
 |.makeSlice T l c=>eL P T (ρ l) (ρ c) s
 |.lookup T m i ok=>(jf P T (ρ m) (ρ i) ok s).map (·,s)
 |.mapUpdate T m i x=>(dP P T (ρ m) (ρ i) (ρ x) s).map (.junk,·)
 |.insert T m i x=>(dP P T (ρ m) (ρ i) (ρ x) s).map (.junk,·)
 |.call {callee:=.builtin b,args,argTypes}=>kc P b argTypes.toList (args.toList.map ρ) s
 |_=>Sf
def nu(P:Sj)(m:Sem Next)(w:Sl)(g:G)(d:D)(s':St):Prop:=
 ∃nx w' g',m.run P w=.ok nx w'∧g.le g'∧WRel w' g' s'∧((∃v,nx=.value v∧R g' d v)∨(nx=.skip∧d=.junk))
theorem nu.of{P:Sj}{m:Sem So}{w:Sl}{g:G}{d:D}{s':St}(h:Ok P m w g d s'):nu P (do pure (.value (←m))) w g d s':=by
 obtain⟨v,w',g',h1,h2,h3,h4⟩:=h;exact⟨.value v,w',g',by simp only[Sem.run_bind,h1,Result.andThen_ok,Sem.run_pure],h2,h3,.inl ⟨v,rfl,h4⟩⟩
theorem map_some{α β:Type}{o:Option α}{f:α→β}{y:β}(h:o.map f=Sd y):∃x,o=Sd x∧f x=y:=Ox.1 h
theorem sT{ρ:Sn→D}{ρc:Sn→So}{ps:Array (Nat×Sn)}(h:∀x∈(ps.toList.map (·.2)),R g (ρ x) (ρc x)) :
  wW g (ps.toList.map λq=>(q.1,ρ q.2)) (ps.map λq=>(q.1,ρc q.2)):=by
 refine⟨by simp,λj h1 h2=>?_⟩;simp only[OL,Qm,O7];refine⟨trivial,h _ ?_⟩;simp only[List.mem_map];exact⟨ps[j]'(by simpa using h2),by simp,rfl⟩
variable {o:Oper}
theorem Ez{ρ:Sn→D}{ρc:Sn→So}(hρ:∀x∈o.op.operands,R g (ρ x) (ρc x))(h:WRel w g s)
  (he:evalOp P ρ s o.op=Sd (d,s')):nu P (execOp ρc o) w g d s'∧(∀c,o.op≠.defer c):=by
 obtain⟨dst,op,type,pos,after,guard⟩:=o;simp only at he hρ;refine⟨?_,λc hc=>by simp only at hc;subst hc;cases he⟩;cases op<;>simp only[evalOp]at he<;>simp only[execOp];case move x=>cases he;exact⟨_,w,g,rfl,.refl g,h,.inl ⟨_,rfl,hρ x (by simp[Op.operands])⟩⟩
 case assign x=>cases he;exact⟨_,w,g,rfl,.refl g,h,.inl ⟨_,rfl,hρ x (by simp[Op.operands])⟩⟩
 case pick c a b =>
  have hc:=hρ c (by simp[Op.operands]);split at he
  ·rename_i t ht;cases he;rw[ht]at hc;cases hcc:ρc c<;>rw[hcc]at hc<;>cases hc;refine⟨.value (if t then ρc a else ρc b),w,g,by simp[asBool],.refl g,h,.inl ⟨_,rfl,?_⟩⟩;cases t
   ·exact hρ b (by simp[Op.operands])
   ·exact hρ a (by simp[Op.operands])
  ·cases he
 case alloc T=>exact .of (GF h he)
 case box T x=>exact .of (ML h (hρ x (by simp[Op.operands])) he)
 case build T ps =>
  obtain⟨x,hx,e⟩:=map_some he;cases e;exact .of (GD h (sT λx hx=>hρ x (by simpa[Op.operands]using hx)) hx)
 case buildSlice T n ps =>
  obtain⟨x,hx,e⟩:=map_some he;cases e;exact .of (uH h (sT λx hx=>hρ x (by simpa[Op.operands]using hx)) hx)
 case load T a =>
  obtain⟨x,hx,e⟩:=map_some he;cases e;exact .of (J2 h (hρ a (by simp[Op.operands])) hx)
 case store T a x =>
  obtain⟨s1,hx,e⟩:=map_some he;cases e;obtain⟨w',h1,h2⟩:=Gy h (hρ a (by simp[Op.operands])) (hρ x (by simp[Op.operands])) hx;exact⟨.skip,w',g,by simp only[Sem.run_bind,h1,Result.andThen_ok,Sem.run_pure],.refl g,h2,.inr ⟨rfl,rfl⟩⟩
 case nilCheck x =>
  obtain⟨y,hy,e⟩:=map_some he;cases e;have hx:=hρ x (by simp[Op.operands]);unfold fq at hy;split at hy<;>first|cases hy|skip
  all_goals(rename_i heq;rw[heq]at hx;cases hcc:ρc x<;>rw[hcc]at hx<;>cases hx;exact⟨_,w,g,rfl,.refl g,h,.inl ⟨_,rfl,by rw[←hcc,←heq];exact hρ x (by simp[Op.operands])⟩⟩)
 case binOp op T x y yT =>
  obtain⟨z,hz,e⟩:=map_some he;cases e;exact .of (GE h (hρ x (by simp[Op.operands])) (hρ y (by simp[Op.operands])) hz)
 case unOp op T x =>
  obtain⟨z,hz,e⟩:=map_some he;cases e;exact .of (J1 h (hρ x (by simp[Op.operands])) hz)
 case convert src dst' x =>
  obtain⟨z,hz,e⟩:=map_some he;cases e;exact .of (AJ h (hρ x (by simp[Op.operands])) hz)
 case makeFunc fn fi ca =>
  cases he;refine⟨_,w,g,rfl,.refl g,h,.inl ⟨_,rfl,.func _ _ _ _ _ (by simp) (by simp) (λi h1 h2=>?_) (λi h1 h2=>?_)⟩⟩
  ·simp only[OL,Qm,O7];exact hρ _ (by simp[Op.operands])
  ·simp only[OL,Qm,O7];exact hρ _ (by simp[Op.operands])
 case slice T x lo hi mx =>
  obtain⟨z,hz,e⟩:=map_some he;cases e;refine .of (Gz h (hρ x (by simp[Op.operands])) ?_ ?_ ?_ hz)
  ·cases lo with
   |none=>trivial
   |some y=>exact hρ y (by simp[Op.operands])
  ·cases hi with
   |none=>trivial
   |some y=>exact hρ y (by simp[Op.operands])
  ·cases mx with
   |none=>trivial
   |some y=>exact hρ y (by simp[Op.operands])
 case fieldAddr T x f =>
  obtain⟨z,hz,e⟩:=map_some he;cases e;exact .of (wx h (hρ x (by simp[Op.operands])) hz)
 case field T x f =>
  obtain⟨z,hz,e⟩:=map_some he;cases e;exact .of (GB h (hρ x (by simp[Op.operands])) hz)
 case indexAddr T x i =>
  obtain⟨z,hz,e⟩:=map_some he;cases e;exact .of (ww h (hρ x (by simp[Op.operands])) (hρ i (by simp[Op.operands])) hz)
 case index T x i =>
  obtain⟨z,hz,e⟩:=map_some he;cases e;exact .of (GA h (hρ x (by simp[Op.operands])) (hρ i (by simp[Op.operands])) hz)
 case extract t i =>
  obtain⟨z,hz,e⟩:=map_some he;cases e;exact .of (AI h (hρ t (by simp[Op.operands])) hz)
 case makeMap T r =>
  split at he
  ·cases he;exact .of (sW h (λu hu=>by cases hu))
  ·rename_i x;split at he
   ·rename_i k n a b hx hu;cases he;refine .of (sW h (λu hu'=>?_));simp only[Po,Pk.injEq]at hu';have hR:=hρ x (by simp[Op.operands]);rw[hx,hu']at hR;cases hR;exact⟨⟨_,_,rfl⟩,_,_,hu⟩
   ·cases he
 case makeSlice T l c=>exact .of (wv h (hρ l (by simp[Op.operands])) (hρ c (by simp[Op.operands])) he)
 case lookup T m i ok =>
  obtain⟨z,hz,e⟩:=map_some he;cases e;exact .of (Ea h (hρ m (by simp[Op.operands])) (hρ i (by simp[Op.operands])) hz)
 case mapUpdate T m i x =>
  obtain⟨s1,hx,e⟩:=map_some he;cases e;obtain⟨w',h1,h2⟩:=oG h (hρ m (by simp[Op.operands])) (hρ i (by simp[Op.operands])) (hρ x (by simp[Op.operands])) hx;exact⟨.skip,w',g,by simp only[Sem.run_bind,h1,Result.andThen_ok,Sem.run_pure],.refl g,h2,.inr ⟨rfl,rfl⟩⟩
 case insert T m i x =>
  obtain⟨s1,hx,e⟩:=map_some he;cases e;obtain⟨w',h1,h2⟩:=oG h (hρ m (by simp[Op.operands])) (hρ i (by simp[Op.operands])) (hρ x (by simp[Op.operands])) hx;exact⟨.skip,w',g,by simp only[Sem.run_bind,h1,Result.andThen_ok,Sem.run_pure],.refl g,h2,.inr ⟨rfl,rfl⟩⟩
 case call c =>
  obtain⟨callee,args,ts⟩:=c;cases callee with
  |value f=>cases he
  |invoke r m=>cases he
  |builtin b =>
   simp only at he;unfold kc at he;split at he
   ·rename_i T x hts hargs;obtain rfl:ts = #[T]:=by apply PR;simpa using hts
    obtain⟨z,hz,e⟩:=map_some he;cases e;obtain⟨q,hq⟩:∃q,args = #[q]:=by
     have:args.toList.length=1:=by rw[←OH (f:=ρ),hargs];rfl
     obtain⟨q,hq⟩:=Q8.1 this;exact⟨q,by apply PR;simpa using hq⟩
    subst hq;cases hargs;have:=nu.of (MJ (ty:=type) h (hρ q (by simp[Op.operands,Call.operands])) hz)
    simpa[resolve,invoke,builtin,nu]using this
   ·rename_i T T' x y hts hargs;obtain rfl:ts = #[T,T']:=by apply PR;simpa using hts
    obtain⟨q,r,hq⟩:∃q r,args = #[q,r]:=by
     have:args.toList.length=2:=by rw[←OH (f:=ρ),hargs];rfl
     match hl:args.toList,this with
     | [q,r],_=>exact⟨q,r,by apply PR;simpa using hl⟩
    subst hq;cases hargs;have:=nu.of (Ec (ty:=type) h (hρ q (by simp[Op.operands,Call.operands])) (hρ r (by simp[Op.operands,Call.operands])) he)
    simpa[resolve,invoke,builtin,nu]using this
   ·rename_i x y hargs;obtain⟨z,hz,e⟩:=map_some he;cases e;obtain⟨q,r,hq⟩:∃q r,args = #[q,r]:=by
     have:args.toList.length=2:=by rw[←OH (f:=ρ),hargs];rfl
     match hl:args.toList,this with
     | [q,r],_=>exact⟨q,r,by apply PR;simpa using hl⟩
    subst hq;cases hargs;have:=nu.of (MH (ts:=ts) (ty:=type) (P:=P) h (hρ q (by simp[Op.operands,Call.operands])) (hρ r (by simp[Op.operands,Call.operands])) hz)
    simpa[resolve,invoke,builtin,nu]using this
   ·rename_i x y hargs;obtain⟨z,hz,e⟩:=map_some he;cases e;obtain⟨q,r,hq⟩:∃q r,args = #[q,r]:=by
     have:args.toList.length=2:=by rw[←OH (f:=ρ),hargs];rfl
     match hl:args.toList,this with
     | [q,r],_=>exact⟨q,r,by apply PR;simpa using hl⟩
    subst hq;cases hargs;have:=nu.of (MI (ts:=ts) (ty:=type) (P:=P) h (hρ q (by simp[Op.operands,Call.operands])) (hρ r (by simp[Op.operands,Call.operands])) hz)
    simpa[resolve,invoke,builtin,nu]using this
   ·rename_i T T' x y hts hargs;obtain rfl:ts = #[T,T']:=by apply PR;simpa using hts
    obtain⟨z,hz,e⟩:=map_some he;cases e;obtain⟨q,r,hq⟩:∃q r,args = #[q,r]:=by
     have:args.toList.length=2:=by rw[←OH (f:=ρ),hargs];rfl
     match hl:args.toList,this with
     | [q,r],_=>exact⟨q,r,by apply PR;simpa using hl⟩
    subst hq;cases hargs;have:=nu.of (Eb (T':=T') (ty:=type) (P:=P) h (hρ q (by simp[Op.operands,Call.operands])) (hρ r (by simp[Op.operands,Call.operands])) hz)
    simpa[resolve,invoke,builtin,nu]using this
   ·rename_i T x hts hargs;obtain rfl:ts = #[T]:=by apply PR;simpa using hts
    obtain⟨z,hz,e⟩:=map_some he;cases e;obtain⟨q,hq⟩:∃q,args = #[q]:=by
     have:args.toList.length=1:=by rw[←OH (f:=ρ),hargs];rfl
     obtain⟨q,hq⟩:=Q8.1 this;exact⟨q,by apply PR;simpa using hq⟩
    subst hq;cases hargs;have:=nu.of (GC (ty:=type) h (hρ q (by simp[Op.operands,Call.operands])) hz)
    simpa[resolve,invoke,builtin,nu]using this
   ·rename_i T x hts hargs;obtain rfl:ts = #[T]:=by apply PR;simpa using hts
    obtain⟨z,hz,e⟩:=map_some he;cases e;obtain⟨q,hq⟩:∃q,args = #[q]:=by
     have:args.toList.length=1:=by rw[←OH (f:=ρ),hargs];rfl
     obtain⟨q,hq⟩:=Q8.1 this;exact⟨q,by apply PR;simpa using hq⟩
    subst hq;cases hargs;have:=nu.of (MK (ty:=type) h (hρ q (by simp[Op.operands,Call.operands])) hz)
    simpa[resolve,invoke,builtin,nu]using this
   ·rename_i T T' x y hts hargs;obtain rfl:ts = #[T,T']:=by apply PR;simpa using hts
    obtain⟨q,r,hq⟩:∃q r,args = #[q,r]:=by
     have:args.toList.length=2:=by rw[←OH (f:=ρ),hargs];rfl
     match hl:args.toList,this with
     | [q,r],_=>exact⟨q,r,by apply PR;simpa using hl⟩
    subst hq;cases hargs;have:=nu.of (J3 (T':=T') (ty:=type) h (hρ q (by simp[Op.operands,Call.operands])) (hρ r (by simp[Op.operands,Call.operands])) he)
    simpa[resolve,invoke,builtin,nu]using this
   ·cases he
 all_goals cases he
inductive Bd (nb nl:Nat):D→Prop
 |junk:Bd nb nl .junk
 |int (k:IntKind) (n:Int):Bd nb nl (.int k n)
 |bool (b:Bool):Bd nb nl (.bool b)
 |str (s:ByteArray):Bd nb nl (.str s)
 |slice (o:Own) (xs:List (List D)) (ho:∀k z,o=.lab k z→k<nl) (hx:∀(i j:Nat)(hi:i<xs.length)(hj:j<xs[i].length),Bd nb nl xs[i][j]):Bd nb nl (.slice o xs)
 |agg (cs:List D) (h:∀(i:Nat)(hi:i<cs.length),Bd nb nl cs[i]):Bd nb nl (.agg cs)
 |tup (cs:List D) (h:∀(i:Nat)(hi:i<cs.length),Bd nb nl cs[i]):Bd nb nl (.tup cs)
 |nilp:Bd nb nl .nilp
 |box (b off:Nat) (h:b<nb):Bd nb nl (.box b off)
 |pin (cs:List D) (h:∀(i:Nat)(hi:i<cs.length),Bd nb nl cs[i]):Bd nb nl (.pin cs)
 |func (fn:Fn) (fi ca:List D) (h1:∀(i:Nat)(hi:i<fi.length),Bd nb nl fi[i]) (h2:∀(i:Nat)(hi:i<ca.length),Bd nb nl ca[i]):Bd nb nl (.func fn fi ca)
 |nilf:Bd nb nl .nilf
 |map (b:Nat) (h:b<nb):Bd nb nl (.map b)
 |nilm:Bd nb nl .nilm
 |yield (b:Nat) (h:b<nb):Bd nb nl (.yield b)
 |msl (b off len cap sz:Nat) (h:b<nb):Bd nb nl (.msl b off len cap sz)
 |row0:Bd nb nl .row0
 |row (b off n sz:Nat) (h:b<nb):Bd nb nl (.row b off n sz)
theorem Bd.mono{nb nl nb' nl':Nat}{d:D}(h:Bd nb nl d)(h1:nb≤nb')(h2:nl≤nl'):Bd nb' nl' d:=by
 induction h with
 |junk=>exact .junk
 |int=>exact .int _ _
 |bool=>exact .bool _
 |str=>exact .str _
 |slice o xs ho hx ih=>exact .slice o xs (λk z e=>Rp (ho k z e) h2) ih
 |agg cs h ih=>exact .agg cs ih
 |tup cs h ih=>exact .tup cs ih
 |nilp=>exact .nilp
 |box b off h=>exact .box b off (by omega)
 |pin cs h ih=>exact .pin cs ih
 |func fn fi ca h1 h2 ih1 ih2=>exact .func fn fi ca ih1 ih2
 |nilf=>exact .nilf
 |map b h=>exact .map b (by omega)
 |nilm=>exact .nilm
 |yield b h=>exact .yield b (by omega)
 |msl b off len cap sz h=>exact .msl b off len cap sz (by omega)
 |row0=>exact .row0
 |row b off n sz h=>exact .row b off n sz (by omega)
theorem Bd.of_R{g:G}{d:D}{v:So}{nb nl:Nat}(h:R g d v)(hB:∀i b,g.B i=Sd b→i<nb)(hL:∀k x,g.L k=Sd x→k<nl):Bd nb nl d:=by
 induction h with
 |junk v=>exact .junk
 |int k n=>exact .int _ _
 |bool b=>exact .bool _
 |str s=>exact .str _
 |slice o xs a cap sz blk off val hc hm ho hs ha hM hv hR ih =>
  exact .slice o xs (λk z e=>by subst e;exact hL _ _ ho.1) ih
 |agg cs vs h hv hR ih=>exact .agg cs (λi hi=>ih i hi (by omega))
 |tup cs vs h hR ih=>exact .tup cs (λi hi=>ih i hi (by omega))
 |nilp=>exact .nilp
 |box b off blk h=>exact .box b off (hB _ _ h)
 |pin cs blk off val hM hv hR ih=>exact .pin cs ih
 |func fn fi ca vf vc h1 h2 hf hc ihf ihc=>exact .func fn fi ca (λi hi=>ihf i hi (by omega)) (λi hi=>ihc i hi (by omega))
 |nilf=>exact .nilf
 |map b r h=>exact .map b (hB _ _ h)
 |nilm=>exact .nilm
 |yield b l h=>exact .yield b (hB _ _ h)
 |msl b off len cap sz blk m h hS hc hz hm=>exact .msl b off len cap sz (hB _ _ h)
 |row0 a=>exact .row0
 |row b off n sz blk m cap h hS hc hn hz hm=>exact .row b off n sz (hB _ _ h)
def G.cut(g:G)(nb nl:Nat)(O0:Nat→Prop):G:={g with O:=O0,B:=λi=>if i<nb then g.B i else Sf,L:=λk=>if k<nl then g.L k else Sf}
theorem R.cut{g:G}{d:D}{v:So}{nb nl:Nat}{O0:Nat→Prop}(h:R g d v)(hb:Bd nb nl d):R (g.cut nb nl O0) d v:=by
 induction h with
 |junk v=>exact .junk v
 |int k n=>exact .int k n
 |bool b=>exact .bool b
 |str s=>exact .str s
 |slice o xs a cap sz blk off val hc hm ho hs ha hM hv hR ih =>
  cases hb with
  |slice _ _ hbo hbx =>
   refine .slice o xs a cap sz blk off val hc hm ?_ hs ha hM hv (λi j hi hj=>ih i j hi hj (hbx i j hi hj));cases o with
   |lab k z=>exact⟨by simp only[G.cut];rw[if_pos (hbo k z rfl)];exact ho.1,ho.2⟩
   |_=>exact ho
 |agg cs vs h hv hR ih=>cases hb with|agg _ hb=>exact .agg cs vs h hv (λi h1 h2=>ih i h1 h2 (hb i h1))
 |tup cs vs h hR ih=>cases hb with|tup _ hb=>exact .tup cs vs h (λi h1 h2=>ih i h1 h2 (hb i h1))
 |nilp=>exact .nilp
 |box b off blk h=>cases hb with|box _ _ hb=>exact .box b off blk (by simp only[G.cut];rw[if_pos hb];exact h)
 |pin cs blk off val hM hv hR ih=>cases hb with|pin _ hb=>exact .pin cs blk off val hM hv (λj hj=>ih j hj (hb j hj))
 |func fn fi ca vf vc h1 h2 hf hc ihf ihc=>cases hb with|func _ _ _ b1 b2=>exact .func fn fi ca vf vc h1 h2 (λi x y=>ihf i x y (b1 i x)) (λi x y=>ihc i x y (b2 i x))
 |nilf=>exact .nilf
 |map b r h=>cases hb with|map _ hb=>exact .map b r (by simp only[G.cut];rw[if_pos hb];exact h)
 |nilm=>exact .nilm
 |yield b l h=>cases hb with|yield _ hb=>exact .yield b l (by simp only[G.cut];rw[if_pos hb];exact h)
 |msl b off len cap sz blk m h hS hc hz hm=>cases hb with|msl _ _ _ _ _ hb=>exact .msl b off len cap sz blk m (by simp only[G.cut];rw[if_pos hb];exact h) hS hc hz hm
 |row0 a=>exact .row0 a
 |row b off n sz blk m cap h hS hc hn hz hm=>cases hb with|row _ _ _ _ hb=>exact .row b off n sz blk m cap (by simp only[G.cut];rw[if_pos hb];exact h) hS hc hn hz hm
def ID(nb nl:Nat):Box→Prop
 |.dead=>True
 |.cells cs=>∀(i:Nat)(hi:i<cs.length),Bd nb nl cs[i]
 |.map es=>∀(i:Nat)(hi:i<es.length),Bd nb nl es[i].1∧Bd nb nl es[i].2
 |.mapX es _ _=>∀(i:Nat)(hi:i<es.length),Bd nb nl es[i].1∧Bd nb nl es[i].2
 |.iter mb _ _=>mb<nb
 |.loop _ _ _ e _ _=>∀(i:Nat)(hi:i<e.length),Bd nb nl e[i]
theorem jC.bd{w:Sl}{g:G}{i:Nat}{bx:Box}{nb nl:Nat}(h:jC w g i bx)(hB:∀i b,g.B i=Sd b→i<nb)(hL:∀k x,g.L k=Sd x→k<nl):ID nb nl bx:=by
 cases bx with
 |dead=>trivial
 |cells cs=>obtain⟨b,arr,T,fr,h1,h2,h3,h4,h5⟩:=h;exactλi hi=>Bd.of_R (h4 i hi (by omega)).1 hB hL
 |map es=>obtain⟨b,en,c,h1,h2,h3,h4⟩:=h;exactλi hi=>⟨Bd.of_R (h4 i hi (by omega)).1 hB hL,Bd.of_R (h4 i hi (by omega)).2.1 hB hL⟩
 |mapX es bs k=>obtain⟨b,en,c,h1,h2,⟨h3,_⟩,h4⟩:=h;exactλi hi=>⟨Bd.of_R (h4 i hi (by omega)).1 hB hL,Bd.of_R (h4 i hi (by omega)).2.1 hB hL⟩
 |iter mb k sn=>obtain⟨r,m,h1,h2,h3⟩:=h;exact hB mb m h3
 |loop ps as bo e st pe=>obtain⟨l,fn,t,df,h1,h2,h3,h4⟩:=h;exactλi hi=>Bd.of_R (h4 i hi (by omega)) hB hL
theorem jC.cut{w:Sl}{g:G}{i:Nat}{bx:Box}{nb nl:Nat}{O0:Nat→Prop}(h:jC w g i bx)(hi:i<nb)(hb:ID nb nl bx):jC w (g.cut nb nl O0) i bx:=by
 have hBi:∀b,g.B i=Sd b→(g.cut nb nl O0).B i=Sd b:=λb hb=>by simp only[G.cut];rw[if_pos hi];exact hb
 cases bx with
 |dead=>trivial
 |cells cs=>obtain⟨b,arr,T,fr,h1,h2,h3,h4,h5⟩:=h;exact⟨b,arr,T,fr,hBi b h1,h2,h3,λj x y=>⟨(h4 j x y).1.cut (hb j x),(h4 j x y).2⟩,h5⟩
 |map es=>obtain⟨b,en,c,h1,h2,h3,h4⟩:=h;exact⟨b,en,c,hBi b h1,h2,h3,λj x y=>⟨(h4 j x y).1.cut (hb j x).1,(h4 j x y).2.1.cut (hb j x).2,(h4 j x y).2.2⟩⟩
 |mapX es bs k=>obtain⟨b,en,c,h1,h2,h3,h4⟩:=h;exact⟨b,en,c,hBi b h1,h2,h3,λj x y=>⟨(h4 j x y).1.cut (hb j x).1,(h4 j x y).2.1.cut (hb j x).2,(h4 j x y).2.2⟩⟩
 |iter mb k sn=>obtain⟨r,m,h1,h2,h3⟩:=h;exact⟨r,m,hBi r h1,h2,by simp only[G.cut];rw[if_pos (show mb<nb from hb)];exact h3⟩
 |loop ps as bo e st pe=>obtain⟨l,fn,t,df,h1,h2,h3,h4⟩:=h;exact⟨l,fn,t,df,hBi l h1,h2,h3,λj x y=>(h4 j x y).cut (hb j x)⟩
def sameLoop(nb nl:Nat):Box→Box→Prop
 |.loop _ _ _ e _ _,.loop _ _ _ e' _ _=>e'=e
 |.cells cs,.cells cs'=>∀d∈cs',d∈cs∨Bd nb nl d
 |_,_=>False
structure Leave (s t:St) (s':St):Prop where
 len:s'.boxes.length≤t.boxes.length
 pre:∀(i:Nat)(bx:Box),s'.boxes[i]?=Sd bx→t.boxes[i]?=Sd bx
 old:∀(i:Nat)(bx:Box),s'.boxes[i]?=Sd bx→s.boxes[i]?=Sd bx∨ID s'.boxes.length s'.ctr bx∨∃b0,s.boxes[i]?=Sd b0∧sameLoop s'.boxes.length s'.ctr b0 bx
 slen:s.boxes.length≤s'.boxes.length
 live:∀k,k∈s'.live→k∈t.live∧(k∈s.live∨k<s'.ctr)
 ctr:s.ctr≤s'.ctr
 ctr':s'.ctr≤t.ctr
 nd:s'.live=s.live∨s'.live.Nodup
theorem Leave.wrel {w0 w:Sl} {g0 g:G} {s t s':St} (h:Leave s t s') (h0:WRel w0 g0 s) (hg:g0.le g) (hw:WRel w g t) :
    g0.le (g.cut s'.boxes.length s'.ctr g0.O)∧WRel w (g.cut s'.boxes.length s'.ctr g0.O) s':=by
  have hdB:∀i b,g0.B i=Sd b→i<s'.boxes.length:=λi b hb=>Rp (h0.dom i b hb).1 h.slen;have hdL:∀k x,g0.L k=Sd x→k<s'.ctr:=λk x hx=>Rp (h0.ldom k x hx) h.ctr;have hcB:∀{i b},(g.cut s'.boxes.length s'.ctr g0.O).B i=Sd b→i<s'.boxes.length∧g.B i=Sd b:=by
    intro i b hi;simp only[G.cut]at hi;split at hi
    · exact⟨by assumption,hi⟩
    · cases hi
  have hcL:∀{k x},(g.cut s'.boxes.length s'.ctr g0.O).L k=Sd x→k<s'.ctr∧g.L k=Sd x:=by
    intro i b hi;simp only[G.cut]at hi;split at hi
    · exact⟨by assumption,hi⟩
    · cases hi
  refine⟨⟨hg.w0,hg.M,λi b hb=>?_,λk x hx=>?_,λ_ h=>h,hg.S⟩,?_⟩
  · simp only[G.cut];rw[if_pos (hdB i b hb)];exact hg.B i b hb
  · simp only[G.cut];rw[if_pos (hdL k x hx)];exact hg.L k x hx
  refine {os:=hw.os,tape:=hw.tape,out:=hw.out,fz:=hw.fz,n:=hw.n,old:=hw.old,m:=hw.m,box:=?_,inj:=?_,dom:=?_,live:=?_,uniq:=?_,ldom:=?_,o:=λb hb=>hw.o b (hg.O b hb),nd:=h.nd.elim (λe=>e▸h0.nd) id,sz:=hw.sz}
  · intro i bx hi;have hlt:i<s'.boxes.length:=by
      rcases OU i s'.boxes.length with q|q
      · exact q
      · rw[Oz q]at hi;cases hi
    refine(hw.box i bx (h.pre i bx hi)).cut hlt ?_;rcases h.old i bx hi with ho|ho|⟨b0,ho,hsl⟩
    · exact(h0.box i bx ho).bd hdB hdL
    · exact ho
    · have:=(h0.box i b0 ho).bd hdB hdL
      cases b0<;>cases bx<;>simp only[sameLoop]at hsl<;>first
        |exact hsl.elim
        |(subst hsl;exact this)
        | (intro j hj
           rcases hsl _ (NY hj)with q|q
           · obtain⟨k,hk,e⟩:=Oa q;exact e▸this k hk
           · exact q)
  · intro i j b hi hj l1 l2;exact hw.inj i j b (hcB hi).2 (hcB hj).2 (by obtain⟨x,e1,e2⟩:=l1;exact⟨x,h.pre _ _ e1,e2⟩) (by obtain⟨x,e1,e2⟩:=l2;exact⟨x,h.pre _ _ e1,e2⟩)
  · intro i b hi;have:=hw.dom i b (hcB hi).2
    exact⟨(hcB hi).1,this.2⟩
  · intro k hk;obtain⟨hkt,hks⟩:=h.live k hk;obtain⟨a,len,cap,sz,h1,h2⟩:=hw.live k hkt;have hlt:k<s'.ctr:=by
      rcases hks with hks|hks
      · obtain⟨_,_,_,_,e1,_⟩:=h0.live k hks;exact hdL k _ e1
      · exact hks
    refine⟨a,len,cap,sz,by simp only[G.cut];rw[if_pos hlt];exact h1,λh3 h4=>?_⟩;obtain⟨b,off,arr,T,fr,h5,h6,h7,h8,h9,h10⟩:=h2 h3 h4;exact⟨b,off,arr,T,fr,h5,h6,h7,h8,h9,λi hi=>h10.1 i (hcB hi).2,h10.2⟩
  · intro k k' hk hk' b o len cap sz b' o' len' cap' sz' e1 e2;exact hw.uniq k k' (h.live k hk).1 (h.live k' hk').1 b o len cap sz b' o' len' cap' sz' (hcL e1).2 (hcL e2).2
  · intro k x hx;exact(hcL hx).1
def W(ro:Option Nat):Fence:={Fence.wide with round:=ro}
def Id(P:Sj)(f:FuncId):Prop:=∀args w,(callFunc f args).run P w=.ok (.enter f args) w
theorem mj {P:Program} {f:FuncId} {fn:Func} (hf:P.funcs[f]? = some fn) (hn:(fn.name == "runtime.NumGoroutine") = false) (hb:fn.body.isSome = true):Id P f:=by
 intro args w;have hb':fn.body.isNone=Se:=by cases h:fn.body<;>simp_all
 simp only[callFunc,Sem.run_bind,run_program,Result.andThen_ok,hf,hn,hb',On,if_false,Sem.run_pure]
def vn(g:G)(ds:List D)(vs:Array So):Prop:=ds.length=vs.size∧∀(i:Nat)(h1:i<ds.length)(h2:i<vs.size),R g ds[i] vs[i]
def BB(g:G)(Q:D→St→Prop)(e:Ending)(w':Sl):Prop:=∃v g' r s',Q r s'∧e=.returned v∧g.le g'∧WRel w' g' s'∧R g' r v
def aS(P:Sj)(f:FuncId)(args:List D)(s:St)(Q:D→St→Prop):Prop:=
 ∀vs w g,vn g args vs→WRel w g s→Id P f∧CallsIn (W Sf) 0 P f vs w (BB g Q)
def YSemQ(P:Sj)(b:Nat)(args:List D)(s:St)(Q:D→St→Prop):Prop:=
 ∀vs w g l,g.B b=Sd l→vn g args vs→WRel w g s→∃fn tmps assign body w1,(Instr.yield l vs).run P w=.ok (.round l fn tmps assign body) w1∧RoundIn (W Sf) 0 P l fn tmps assign body w1 (BB g Q)
def CallVQ(P:Sj)(d:D)(args:List D)(s:St)(Q:D→St→Prop):Prop:=
 match d with
 |.func (.func f) fi ca=>aS P f (fi++(args++ca)) s Q
 |.yield b=>YSemQ P b args s Q
 |_=>False
def one(r:D)(s':St):D→St→Prop:=λd t=>d=r∧t=s'
def az(P:Sj)(f:FuncId)(args:List D)(s:St)(r:D)(s':St):Prop:=aS P f args s (one r s')
def dh(P:Sj)(d:D)(args:List D)(s:St)(r:D)(s':St):Prop:=CallVQ P d args s (one r s')
theorem BB.mono{g:G}{Q Q':D→St→Prop}{e:Ending}{w':Sl}(h:BB g Q e w')(hQ:∀r s',Q r s'→Q' r s'):BB g Q' e w':=by
 obtain⟨v,g',r,s',h1,h2⟩:=h;exact⟨v,g',r,s',hQ _ _ h1,h2⟩
theorem aS.mono{P:Sj}{f:FuncId}{args:List D}{s:St}{Q Q':D→St→Prop}(h:aS P f args s Q)(hQ:∀r s',Q r s'→Q' r s'):aS P f args s Q':=
 λvs w g ha hw=>⟨(h vs w g ha hw).1,(h vs w g ha hw).2.mono λ_ _ hb=>hb.mono hQ⟩
theorem YSemQ.mono{P:Sj}{b:Nat}{args:List D}{s:St}{Q Q':D→St→Prop}(h:YSemQ P b args s Q)(hQ:∀r s',Q r s'→Q' r s'):YSemQ P b args s Q':=by
 intro vs w g l hl ha hw;obtain⟨fn,t,as,bo,w1,h1,h2⟩:=h vs w g l hl ha hw;refine⟨fn,t,as,bo,w1,h1,h2.1,λc cs hcs=>?_⟩;obtain⟨e,w',hR,hc⟩:=h2.2 c cs hcs;exact⟨e,w',hR.mono hQ,hc⟩
theorem CallVQ.mono{P:Sj}{d:D}{args:List D}{s:St}{Q Q':D→St→Prop}(h:CallVQ P d args s Q)(hQ:∀r s',Q r s'→Q' r s'):CallVQ P d args s Q':=by
 unfold CallVQ at h⊢;split
 ·exact aS.mono h hQ
 ·exact YSemQ.mono h hQ
 ·rename_i h1 h2;split at h
  ·exact absurd rfl (h1 _ _ _)
  ·exact absurd rfl (h2 _)
  ·exact h
def dM(g:G)(e:List D)(tmps:Array So):Prop:=e.length=tmps.size∧∀(i:Nat)(h1:i<e.length)(h2:i<tmps.size),R g e[i] tmps[i]
structure ARel (O0:Nat→Prop) (a:Act) (w:Sl) (g:G) (e:List D) (s:St):Prop where
 env:dM g e a.tmps
 wr:WRel w g s
 sub:∀b,O0 b→g.O b
 df:∃bs:List Nat,bs.Nodup∧(∀b,b∈bs→g.O b∧¬O0 b)∧a.defers.map (·.target)=bs.map λb=>.collected b
def LR:So→D
 |.int k n=>.int k n
 |.bool b=>.bool b
 |.string s=>.str s
 |.pointer Sf=>.nilp
 |.slice Sf 0 0=>.slice .nil []
 |.nilFunc=>.nilf
 |.map Sf=>.nilm
 |_=>.junk
def cst:So→D
 |.agg cs=>if cs.toList.all (·.oneCell')then .agg (cs.toList.map LR)else .junk
 |v=>LR v
theorem CS(v:So):R g (LR v) v:=by
 unfold LR;split<;>first
  |exact .junk _
  |(constructor;done)
  |exact .slice .nil [] Sf 0 0 0 0 (λ_ _=>.nilFunc) (L7 _) (L7 _) ⟨rfl,rfl,rfl⟩ (λi hi=>by simp at hi) (λh=>by simp at h) (λi j hi=>by simp at hi) (λi j hi=>by simp at hi) (λi j hi=>by simp at hi)
theorem MY(v:So):R g (cst v) v:=by
 unfold cst;split
 ·rename_i cs;split
  ·rename_i h;refine .agg _ _ (by simp) (λi h2=>N0.1 h _ (by simp)) (λi h1 h2=>?_);simp only[OL,O7];exact CS _
  ·exact .junk _
 ·exact CS _
def val(e:List D):Sn→D
 |.tmp t=>e.getD t .junk
 |.const v=>cst v
 |.global _=>.junk
 |.func f=>.func (.func f) [] []
theorem li{e:List D}{a:Act}(h:dM g e a.tmps)(x:Sn):R g (val e x) (a.eval x):=by
 cases x with
 |tmp t =>
  simp only[val,Act.eval];by_cases ht:t<e.length
  ·have ht':t<a.tmps.size:=h.1▸ht;simp only[Pi,K4 ht,OB];rw[show a.tmps.getD t undef=a.tmps[t] by simp[Array.getD,ht']];exact h.2 t ht ht'
  ·simp only[Pi,Oz (Nat.le_of_not_lt ht),Option.getD_none];exact .junk _
 |const v=>exact MY v
 |global g'=>exact .junk _
 |func f=>exact .func _ [] [] #[] #[] rfl rfl (λi h1=>by simp at h1) (λi h1=>by simp at h1)
def putD(e:List D)(dst:Option Tmp)(d:D):List D:=
 match dst with
 |some t=>e.set t d
 |none=>e
theorem dM.put{g:G}{e:List D}{a:Act}(h:dM g e a.tmps)(dst:Option Tmp){d:D}{v:So}(hd:R g d v):dM g (putD e dst d) (a.put dst v).tmps:=by
 cases dst with
 |none=>exact h
 |some t =>
  simp only[putD,Act.put];refine⟨by simpa using h.1,λi h1 h2=>?_⟩;by_cases e':t=i
  ·subst e';simp only[Rb,Array.getElem_setIfInBounds_self];exact hd
  ·rw[QD e',Re (by simpa using h2) e'];exact h.2 i (by simpa using h1) (by simpa using h2)
theorem dM.mono{g g':G}{e:List D}{t:Array So}(h:dM g e t)(hg:g.le g'):dM g' e t:=⟨h.1,λi h1 h2=>(h.2 i h1 h2).mono hg⟩
def argsOf(ρ:Sn→D)(args:Array Sn):List D:=args.toList.map λx=>(ρ x).plain
def uW(P:Sj)(o:Oper)(ρ:Sn→D)(s:St)(d:D)(s':St):Prop:=
 evalOp P ρ s o.op=Sd (d,s')∨∃f args ts,o.op=.call {callee:=.value f,args,argTypes:=ts}∧dh P (ρ f) (argsOf ρ args) s d s'
variable {K:Act→Sl→Prop}{Q:Exit→Act→Sl→Prop}
theorem jJ{ro:Option Nat}{a:Act}{m:Next}{w':Sl}(hr:(execOp a.eval o).run P w=.ok m w')(hd:∀c,o.op≠.defer c)
  (h:o.uponIn (W ro) 0 P a K Q (.ok m w')):o.wpIn (W ro) 0 P a w K Q:=by
 refine⟨λ_ _=>trivial,?_⟩;rw[Oper.semAt_eq _ _ _ hd,hr];exact h
theorem CW{ro:Option Nat}{ρ:Sn→D}{Z:D→St→Prop}{f:Sn}{args:Array Sn}{ts:Array Sk}{a:Act}
  (ho:o.op=.call {callee:=.value f,args,argTypes:=ts}) (hc:CallVQ P (ρ f) (argsOf ρ args) s Z) (hρ:∀x∈o.op.operands,R g (ρ x) (a.eval x)) (hw:WRel w g s)
  (hK:∀d s' v w' g',Z d s'→g.le g'→WRel w' g' s'→R g' d v→K (a.put o.dst v) w'):o.wpIn (W ro) 0 P a w K Q:=by
 obtain⟨dst,op,type,pos,after,guard⟩:=o;simp only at ho hρ hK;subst ho;have hf:R g (ρ f) (a.eval f):=hρ f (by simp[Op.operands,Call.operands]);have hargs:vn g (argsOf ρ args) (args.map a.eval):=by
  refine⟨by simp[argsOf],λi h1 h2=>?_⟩;simp only[argsOf,OL,Qm,O7];exact(hρ _ (by simp[Op.operands,Call.operands])).plain
 cases hd:ρ f<;>rw[hd]at hc hf<;>simp only[CallVQ]at hc<;>try exact hc.elim
 case func fn fi ca =>
  cases fn<;>simp only at hc<;>try exact hc.elim
  rename_i k;cases hfv:a.eval f<;>rw[hfv]at hf<;>cases hf;rename_i vf vc h1 hrf h2 hrc;have hall:vn g (fi++(argsOf ρ args++ca)) (vf++args.map a.eval++vc):=by
   refine⟨by have:=hargs.1;simp at this⊢;omega,λi x1 x2=>?_⟩;by_cases c1:i<fi.length
   ·rw[OS c1,Pv (by simp;omega),Pv (by omega)];exact hrf i c1 _
   ·by_cases c2:i<fi.length+(argsOf ρ args).length
    ·rw[ON (by omega),OS (by omega),Pv (by have:=hargs.1;simp at this⊢;omega),Qs (by omega)];simp only[h1];exact hargs.2 _ _ _
    ·rw[ON (by omega),ON (by omega),Qs (by have:=hargs.1;simp at this⊢;omega)];have e:i-fi.length-(argsOf ρ args).length=i-(vf++args.map a.eval).size:=by have:=hargs.1;simp at this⊢;omega
     simp only[e];exact hrc _ _ _
  obtain⟨hent,hsem⟩:=hc _ w g hall hw;have hr:(execOp a.eval {dst,op:=.call {callee:=.value f,args,argTypes:=ts},type,pos,after,guard}).run P w=.ok (.enter k (vf++args.map a.eval++vc)) w:=by
   simp only[execOp,resolve,hfv,Deferred.ofValue,Sem.run_bind,Sem.run_pure,Result.andThen_ok,invoke];exact hent _ _
  refine jJ hr (by simp) ?_;rw[Oper.uponIn_enter];refine⟨λh=>(by cases h),?_⟩;have:=hsem
  refine⟨this.1,λcs hcs=>?_⟩;obtain⟨e,w',fr,hR,hsteps,hfr,hlv⟩:=this.2 cs (λd hd=>by cases hd);refine⟨e,w',fr,?_,hsteps,hfr,hlv⟩;obtain⟨v,g',r,s',hZ,rfl,hle,hw',hRv⟩:=hR;exact hK r s' v w' g' hZ hle hw' hRv
 case yield b =>
  cases hfv:a.eval f<;>rw[hfv]at hf<;>cases hf;rename_i l hl;obtain⟨fn,tmps,assign,body,w1,hy,hround⟩:=hc _ w g l hl hargs hw;have hr:(execOp a.eval {dst,op:=.call {callee:=.value f,args,argTypes:=ts},type,pos,after,guard}).run P w=.ok (.round l fn tmps assign body) w1:=by
   simp only[execOp,resolve,hfv,Deferred.ofValue,Sem.run_bind,Sem.run_pure,Result.andThen_ok,invoke];simpa using hy
  refine jJ hr (by simp) ?_;rw[Oper.uponIn_round];refine⟨λh=>(by cases h),hround.1,λc cs hcs=>?_⟩;obtain⟨e,w',hR,hcomes⟩:=hround.2 c cs (λd hd=>by cases hd);refine⟨e,w',?_,hcomes⟩;obtain⟨v,g',r,s',hZ,rfl,hle,hw',hRv⟩:=hR;exact hK r s' v w' g' hZ hle hw' hRv
theorem Ci{ro:Option Nat}{ρ:Sn→D}{a:Act}
  (h:uW P o ρ s d s') (hρ:∀x∈o.op.operands,R g (ρ x) (a.eval x)) (hw:WRel w g s)
  (hK:∀v w' g',g.le g'→WRel w' g' s'→R g' d v→K (a.put o.dst v) w'):o.wpIn (W ro) 0 P a w K Q:=by
 rcases h with h|⟨f,args,ts,ho,hc⟩
 ·obtain⟨⟨nx,w',g',hr,hle,hw',hn⟩,hd⟩:=Ez hρ hw h;refine jJ hr hd ?_;rcases hn with ⟨v,rfl,hv⟩|⟨rfl,rfl⟩
  ·exact hK v w' g' hle hw' hv
  ·exact hK undef w' g' hle hw' (.junk _)
 ·exact CW ho hc hρ hw λd' s'' v w' g' hz=>by obtain⟨rfl,rfl⟩:=hz;exact hK v w' g'
end Go.V
