/-
  The value-level logic and its contracts, part 5 (texts K9, K10, S1, S2, S3, S4, S5, S6, S7, S8, S9).
-/
import Derived.Test.YtlobjjbchnjfiaaGreatBasn4
open Nat renaming reduceAdd → zA, reduceSub → zS, reduceMul → zM, reduceLeDiff → zL, reduceEqDiff → zE, reduceBEq → zB
open Go.V.D renaming junk → Jk
set_option linter.all false
set_option linter.unusedSimpArgs false
set_option linter.unusedVariables false
set_option linter.unnecessarySimpa false
set_option maxHeartbeats 4000000
namespace Go.V
open Go.Proofs
set_option maxRecDepth 20000
set_option maxHeartbeats 4000000
theorem mkw0 (f:Fx) (m:Mk) (n:Int):(f.cells m).take 13++(.int .i64 n::(f.cells m).drop 14)=Fx.cells ({ f with d:={ f.d with site:=n } }) m:=rfl
theorem mkw1 (f:Fx) (m:Mk) (n:Int):(f.cells m).take 16++(.int .i64 n::(f.cells m).drop 17)=Fx.cells ({ f with d:={ f.d with part:=n } }) m:=rfl
theorem mkw2 (f:Fx) (m:Mk) (o:Own) (l:List Rg):(f.cells m).take 17++(.slice o (rgCells l)::(f.cells m).drop 18)=Fx.cells ({ f with d:={ f.d with params:=l },op:=o }) m:=rfl
theorem mkw3 (f:Fx) (m:Mk) (o:Own) (a b c:Int):(f.cells m).take 18++(.slice o [[.int .i64 a,.int .i64 b,.int .i64 c]]::(f.cells m).drop 19)=Fx.cells ({ f with d:={ f.d with given:=[⟨a,b,c⟩] },og:=o }) m:=rfl
theorem mkw4 (f:Fx) (m:Mk) (n:Int):(f.cells m).take 19++(.int .i64 n::(f.cells m).drop 20)=Fx.cells ({ f with d:={ f.d with vars:=n } }) m:=rfl
theorem mkw5 (f:Fx) (m:Mk) (n:Int):(f.cells m).take 20++(.int .i64 n::(f.cells m).drop 21)=Fx.cells ({ f with d:={ f.d with refs:=n } }) m:=rfl
theorem mkw6 (f:Fx) (m:Mk) (o:Own) (a b:Int):(f.cells m).take 21++(.slice o [[.int .i64 a,.int .i64 b]]::(f.cells m).drop 22)=Fx.cells ({ f with d:={ f.d with arrays:=[⟨a,b⟩] },oa:=o }) m:=rfl
theorem mkw7 (f:Fx) (m:Mk) (o:Own) (l:List Ar):(f.cells m).take 21++(.slice o (arCells l)::(f.cells m).drop 22)=Fx.cells ({ f with d:={ f.d with arrays:=l },oa:=o }) m:=rfl
theorem mkw8 (f:Fx) (m:Mk) (o:Own) (l:List Sm):(f.cells m).take 23++(.slice o (Sm.encs l)::(f.cells m).drop 24)=Fx.cells ({ f with d:={ f.d with body:=l },ob:=o }) m:=rfl
theorem mkw9 (f:Fx) (m:Mk) (o:Own) (l:List Df):(f.cells m).take 10++(.slice o (dfCells l)::(f.cells m).drop 11)=Fx.cells ({ f with defs:=l,od:=o }) m:=rfl
theorem mkw10 (f:Fx) (m:Mk) (o:Own) (l:List Hd):(f.cells m).take 9++(.slice o (hdCells l)::(f.cells m).drop 10)=Fx.cells ({ f with heads:=l,oh:=o }) m:=rfl
theorem mkw11 (f:Fx) (m:Mk) (o:Own) (l:List Int):(f.cells m).take 11++(.slice o (intCells l)::(f.cells m).drop 12)=Fx.cells ({ f with threads:=l,ot:=o }) m:=rfl
theorem mkw12 (f:Fx) (m:Mk) (a b c d e g h:Int) (s:ByteArray) (o1 o2 o3 o4:Own):(f.cells m).take 12++(.int .i64 a::.int .i64 b::.str s::.int .i64 c::.int .i64 d::.slice o1 []::.slice o2 []::.int .i64 e::.int .i64 g::.slice o3 []::.int .i64 h::.slice o4 []::(f.cells m).drop 24)=Fx.cells { f with d:=⟨a,b,s,c,d,[],[],e,g,[],h,[]⟩,op:=o1,og:=o2,oa:=o3,ob:=o4 } m:=rfl
theorem mkw13 (f:Fx) (m:Mk):(((f.cells m).drop 12).take 12).map D.plain1=f.d.cells:=rfl
theorem vsMw:(type_of% @mkw0)∧(type_of% @mkw1)∧(type_of% @mkw2)∧(type_of% @mkw3)∧(type_of% @mkw4)∧(type_of% @mkw5)∧(type_of% @mkw6)∧(type_of% @mkw7)∧(type_of% @mkw8)∧(type_of% @mkw9)∧(type_of% @mkw10)∧(type_of% @mkw11)∧(type_of% @mkw12)∧(type_of% @mkw13) :=
 ⟨@mkw0,@mkw1,@mkw2,@mkw3,@mkw4,@mkw5,@mkw6,@mkw7,@mkw8,@mkw9,@mkw10,@mkw11,@mkw12,@mkw13⟩
def setD (f:Fx) (d:Df) (op og oa ob:Own):Fx:={ f with d:=d,op:=op,og:=og,oa:=oa,ob:=ob }
theorem mks0 (f:Fx) (d:Df) (op og oa ob:Own) (m:Mk) (n:Int):((setD f d op og oa ob).cells m).take 13++(.int .i64 n::((setD f d op og oa ob).cells m).drop 14)=(setD f { d with site:=n } op og oa ob).cells m:=rfl
theorem mks1 (f:Fx) (d:Df) (op og oa ob:Own) (m:Mk) (n:Int):((setD f d op og oa ob).cells m).take 16++(.int .i64 n::((setD f d op og oa ob).cells m).drop 17)=(setD f { d with part:=n } op og oa ob).cells m:=rfl
theorem mks2 (f:Fx) (d:Df) (op og oa ob:Own) (m:Mk) (o:Own) (l:List Rg):((setD f d op og oa ob).cells m).take 17++(.slice o (rgCells l)::((setD f d op og oa ob).cells m).drop 18)=(setD f { d with params:=l } o og oa ob).cells m:=rfl
theorem mks3 (f:Fx) (d:Df) (op og oa ob:Own) (m:Mk) (o:Own) (a b c:Int):((setD f d op og oa ob).cells m).take 18++(.slice o [[.int .i64 a,.int .i64 b,.int .i64 c]]::((setD f d op og oa ob).cells m).drop 19)=(setD f { d with given:=[⟨a,b,c⟩] } op o oa ob).cells m:=rfl
theorem mks4 (f:Fx) (d:Df) (op og oa ob:Own) (m:Mk) (n:Int):((setD f d op og oa ob).cells m).take 19++(.int .i64 n::((setD f d op og oa ob).cells m).drop 20)=(setD f { d with vars:=n } op og oa ob).cells m:=rfl
theorem mks5 (f:Fx) (d:Df) (op og oa ob:Own) (m:Mk) (n:Int):((setD f d op og oa ob).cells m).take 20++(.int .i64 n::((setD f d op og oa ob).cells m).drop 21)=(setD f { d with refs:=n } op og oa ob).cells m:=rfl
theorem mks6 (f:Fx) (d:Df) (op og oa ob:Own) (m:Mk) (o:Own) (a b:Int):((setD f d op og oa ob).cells m).take 21++(.slice o [[.int .i64 a,.int .i64 b]]::((setD f d op og oa ob).cells m).drop 22)=(setD f { d with arrays:=[⟨a,b⟩] } op og o ob).cells m:=rfl
theorem mks7 (f:Fx) (d:Df) (op og oa ob:Own) (m:Mk) (o:Own) (l:List Ar):((setD f d op og oa ob).cells m).take 21++(.slice o (arCells l)::((setD f d op og oa ob).cells m).drop 22)=(setD f { d with arrays:=l } op og o ob).cells m:=rfl
theorem mks8 (f:Fx) (d:Df) (op og oa ob:Own) (m:Mk) (o:Own) (l:List Sm):((setD f d op og oa ob).cells m).take 23++(.slice o (Sm.encs l)::((setD f d op og oa ob).cells m).drop 24)=(setD f { d with body:=l } op og oa o).cells m:=rfl
theorem mks9 (f:Fx) (d:Df) (op og oa ob:Own):(setD f d op og oa ob).bytes=f.bytes:=rfl
theorem mks10 (f:Fx) (d:Df) (op og oa ob:Own):(setD f d op og oa ob).dc=f.dc:=rfl
theorem mks11 (f:Fx) (d:Df) (op og oa ob:Own):(setD f d op og oa ob).heads=f.heads:=rfl
theorem mks12 (f:Fx) (d:Df) (op og oa ob:Own):(setD f d op og oa ob).defs=f.defs:=rfl
theorem mks13 (f:Fx) (d:Df) (op og oa ob:Own):(setD f d op og oa ob).threads=f.threads:=rfl
theorem mks14 (f:Fx) (d:Df) (op og oa ob:Own):(setD f d op og oa ob).d=d:=rfl
theorem mks15 (f:Fx) (d:Df) (op og oa ob:Own):(setD f d op og oa ob).oh=f.oh:=rfl
theorem mks16 (f:Fx) (d:Df) (op og oa ob:Own):(setD f d op og oa ob).od=f.od:=rfl
theorem mks17 (f:Fx) (d:Df) (op og oa ob:Own):(setD f d op og oa ob).ot=f.ot:=rfl
theorem mks18 (f:Fx) (d:Df) (op og oa ob:Own):(setD f d op og oa ob).op=op:=rfl
theorem mks19 (f:Fx) (d:Df) (op og oa ob:Own):(setD f d op og oa ob).og=og:=rfl
theorem mks20 (f:Fx) (d:Df) (op og oa ob:Own):(setD f d op og oa ob).oa=oa:=rfl
theorem mks21 (f:Fx) (d:Df) (op og oa ob:Own):(setD f d op og oa ob).ob=ob:=rfl
theorem mks22 (f:Fx) (d:Df) (op og oa ob:Own) (m:Mk):((((setD f d op og oa ob).cells m).drop 12).take 12).map D.plain1=d.cells:=rfl
theorem vsMs:(type_of% @mks0)∧(type_of% @mks1)∧(type_of% @mks2)∧(type_of% @mks3)∧(type_of% @mks4)∧(type_of% @mks5)∧(type_of% @mks6)∧(type_of% @mks7)∧(type_of% @mks8)∧(type_of% @mks9)∧(type_of% @mks10)∧(type_of% @mks11)∧(type_of% @mks12)∧(type_of% @mks13)∧(type_of% @mks14)∧(type_of% @mks15)∧(type_of% @mks16)∧(type_of% @mks17)∧(type_of% @mks18)∧(type_of% @mks19)∧(type_of% @mks20)∧(type_of% @mks21)∧(type_of% @mks22) :=
 ⟨@mks0,@mks1,@mks2,@mks3,@mks4,@mks5,@mks6,@mks7,@mks8,@mks9,@mks10,@mks11,@mks12,@mks13,@mks14,@mks15,@mks16,@mks17,@mks18,@mks19,@mks20,@mks21,@mks22⟩
theorem rgCells_app (l:List Rg) (r:Rg):rgCells l++[r.cells]=rgCells (l++[r]):=by simp [rgCells]
theorem arCells_app (l:List Ar) (a b:Int):arCells l++[[.int .i64 a,.int .i64 b]]=arCells (l++[⟨a,b⟩]):=by simp [arCells,Ar.cells]
theorem dfCells_app (l:List Df) (d:Df):dfCells l++[d.cells]=dfCells (l++[d]):=by simp [dfCells]
theorem hdCells_app (l:List Hd) (d:Hd):hdCells l++[d.cells]=hdCells (l++[d]):=by simp [hdCells]
theorem rgCells_each (l:List Rg):∀ x ∈ rgCells l,x.length=3:=by intro x hx;obtain ⟨y,_,rfl⟩:=List.mem_map.1 hx;rfl
theorem dfCells_each (l:List Df):∀ x ∈ dfCells l,x.length=12:=by intro x hx;obtain ⟨y,_,rfl⟩:=List.mem_map.1 hx;rfl
theorem hdCells_each (l:List Hd):∀ x ∈ hdCells l,x.length=5:=by intro x hx;obtain ⟨y,_,rfl⟩:=List.mem_map.1 hx;rfl
theorem rg_bd {nb nl:Nat} (l:List Rg):∀ x ∈ rgCells l,∀ d ∈ x,Bd nb nl d:=by
 intro x hx d hd;obtain ⟨y,_,rfl⟩:=List.mem_map.1 hx
 simp only [Rg.cells,List.mem_cons,List.not_mem_nil,or_false] at hd
 rcases hd with rfl | rfl | rfl <;> exact .int _ _
theorem ar_bd {nb nl:Nat} (l:List Ar):∀ x ∈ arCells l,∀ d ∈ x,Bd nb nl d:=by
 intro x hx d hd;obtain ⟨y,_,rfl⟩:=List.mem_map.1 hx
 simp only [Ar.cells,List.mem_cons,List.not_mem_nil,or_false] at hd
 rcases hd with rfl | rfl <;> exact .int _ _
theorem Hd.bd {nb nl:Nat} (h:Hd):∀ d ∈ h.cells,Bd nb nl d:=by
 intro d hd
 simp only [Hd.cells,List.mem_cons,List.not_mem_nil,or_false] at hd
 rcases hd with rfl | rfl | rfl | rfl | rfl
 ·exact .int _ _
 ·exact .int _ _
 ·exact .int _ _
 ·exact bd_slice (rg_bd _)
 ·exact bd_slice (rg_bd _)
theorem Df.bd {nb nl:Nat} (h:Df):∀ d ∈ h.cells,Bd nb nl d:=by
 intro d hd
 simp only [Df.cells,List.mem_cons,List.not_mem_nil,or_false] at hd
 rcases hd with rfl | rfl | rfl | rfl | rfl | rfl | rfl | rfl | rfl | rfl | rfl | rfl <;> first
  | exact .int _ _
  | exact .str _
  | exact bd_slice (rg_bd _)
  | exact bd_slice (ar_bd _)
  | exact bd_slice (Sm.bds _)
def hdOf (d:Df):Hd:=⟨d.id,d.firm,d.part,d.params,d.given⟩
theorem t_head (d:Df) (s:St):Spec Tryz.prog 98 [.agg d.cells] s (.agg (hdOf d).cells) s:=by
 obtain ⟨B,L,c⟩:=s
 refine Spec.introN [] Tryz.func98 rfl (by decide) hmix (by kernel_rfl) [ResultVar.cell 2 54] 14 rfl rfl ?_
 simp only [vqM,vt14,zA,zS,zL]
 refine ret_loc (.inr rfl) ?_ (bd_agg (Hd.bd _)) (fun _ h=>h) (Nat.le_refl _)
 simp only [vqM,vt14,zA,Hd.cells,hdOf]
def abc:ByteArray:=⟨#[97,98,99,100,101,102,103,104]⟩
theorem ev_name (i:Int) (h:0≤i∧i<8):evSlice Tryz.prog 9 (.str ⟨#[97,98,99,100,101,102,103,104]⟩) (some (.int .i64 i)) (some (.int .i64 (i+1))) none=some (.str (abc.extract i.toNat (i+1).toNat)):=by
 have h1:0≤i+1:=by omega
 have h2:i.toNat≤(i+1).toNat:=by omega
 have h3:(i+1).toNat≤(ByteArray.mk #[97,98,99,100,101,102,103,104]).size:=by show _≤8;omega
 have h4:Tryz.prog.underlying 9=some .string:=by kernel_rfl
 unfold evSlice
 rw [h4]
 simp only [evBd,h.1,if_true,h1]
 rw [if_pos ⟨h2,h3⟩];rfl
def rgv (i:Int):Rg:=if i=0 then ⟨0,3,0⟩ else if i=1 then ⟨-2,5,1⟩ else if i=2 then ⟨0,9,3⟩ else ⟨2,2,0⟩
def budg (i:Int):Int:=if i=0 then 400 else if i=1 then 60 else if i=2 then 20 else 2000
def parK (b:List Int) (p:Int):Nat→List Rg × Int
 | 0=>([],p)
 | k+1=>((parK b p k).1++[rgv (rnd b (parK b p k).2 4)],(parK b p k).2+1)
def arrs (b:List Int) (np:Nat) (q:Int):List Ar × Int:=if 0<np then (if rnd b q 2=0 then [⟨4,0⟩,⟨8,1⟩] else [⟨4,0⟩],q+1) else ([⟨4,0⟩],q)
def parN (b:List Int) (p:Int) (th:Bool):Nat:=if th then 0 else (rnd b (p+1+1+1+1) 3).toNat
def defD (b:List Int) (p id:Int) (th:Bool):Df × Int :=
 let P:=parK b (p+1+1+1+1+1) (parN b p th)
 let A:=arrs b P.1.length (P.2+1+1)
 (⟨id,0,abc.extract (id.tmod 8).toNat (id.tmod 8+1).toNat,rnd b p 2,if rnd b (p+1+1+1) 2=0 then 0 else ((rnd b (p+1) 6).tdiv 2).tmod 3,P.1,if rnd b P.2 4=0∧th=false then [⟨-10,10,1⟩] else [],
  P.1.length+2+rnd b (P.2+1) 2,2,A.1,budg (rnd b (p+1+1) 4),[]⟩,A.2)
def defS (f:Fd) (a:Mk) (id:Int) (th:Bool):Df × Mk :=
 let D:=defD f.bytes a.pos id th
 let b:=stmts { f with d:=D.1 } 2 (1+rnd f.bytes D.2 5) { a with pos:=D.2+1,left:=9,done:=0 }
 ({ D.1 with body:=b.1,site:=b.2.site+1 },{ b.2 with site:=b.2.site+1 })
theorem parK_len (b:List Int) (p:Int):∀ k,(parK b p k).1.length=k∧(parK b p k).2=p+k:=by
 intro k
 induction k with
 | zero=>simp [parK]
 | succ k ih =>
  have h1:=ih.1
  have h2:=ih.2
  refine ⟨by simp only [parK,List.length_append,List.length_singleton,h1],?_⟩
  simp only [parK,h2];omega
def LiveO (o:Own) (z:Nat) (L:List Nat):Prop:=o=.nil ∨ ∃ k,o=.lab k z∧k ∈ L
def Apart (o o':Own):Prop:=∀ k z k' z',o=.lab k z→o'=.lab k' z'→k≠k'
def eraseO (L:List Nat):Own→List Nat
 | .lab k _=>L.erase k
 | _=>L
theorem relab_eq {B:List Box} {L:List Nat} {c:Nat} {o:Own}:St.relab ⟨B,L,c⟩ o=⟨B,c::eraseO L o,c+1⟩:=by cases o <;> rfl
theorem LiveO.fits {o:Own} {z:Nat} {L:List Nat} (h:LiveO o z L) {xs:List (List D)} (hx:∀ x ∈ xs,x.length=z) (B:List Box) (c:Nat):ownFits o xs z ⟨B,L,c⟩=true:=by
 rcases h with rfl | ⟨k,rfl,hk⟩
 ·simpa [ownFits] using hx
 ·simp [ownFits,hk]
theorem LiveO.mono {o:Own} {z:Nat} {L L':List Nat} (h:LiveO o z L) (hl:∀ k ∈ L,k ∈ L'):LiveO o z L':=by
 rcases h with rfl | ⟨k,rfl,hk⟩
 ·exact .inl rfl
 ·exact .inr ⟨k,rfl,hl k hk⟩
theorem LiveO.erase {o o':Own} {z c:Nat} {L:List Nat} (h:LiveO o z L) (ha:Apart o' o):LiveO o z (c::eraseO L o'):=by
 rcases h with rfl | ⟨k,rfl,hk⟩
 ·exact .inl rfl
 ·refine .inr ⟨k,rfl,List.mem_cons_of_mem _ ?_⟩
  cases o' with
  | lab j w=>exact (List.mem_erase_of_ne (fun e=>ha j w k z rfl rfl e.symm)).2 hk
  | _=>exact hk
theorem eraseO_sub {L:List Nat} {o:Own} {k:Nat} (h:k ∈ eraseO L o):k ∈ L:=by
 cases o with
 | lab j w=>exact List.mem_of_mem_erase h
 | _=>exact h
theorem eraseO_mem {L:List Nat} {o:Own} {k:Nat} (h:k ∈ L) (hn:∀ z,o≠.lab k z):k ∈ eraseO L o:=by
 cases o with
 | lab j w=>exact (List.mem_erase_of_ne (fun e=>hn w (by rw [e]))).2 h
 | _=>exact h
theorem eraseO_nd {L:List Nat} {o:Own} (h:L.Nodup):(eraseO L o).Nodup:=by
 cases o with
 | lab j w=>exact h.erase _
 | _=>exact h
structure WfL (L:List Nat) (c:Nat):Prop where
 nd:L.Nodup
 lt:∀ k ∈ L,k<c
theorem WfL.relab {L:List Nat} {c:Nat} (h:WfL L c) (o:Own):WfL (c::eraseO L o) (c+1):=by
 refine ⟨List.nodup_cons.2 ⟨fun hm=>by have:=h.lt c (eraseO_sub hm);omega,eraseO_nd h.nd⟩,fun k hk=>?_⟩
 rcases List.mem_cons.1 hk with rfl | hk
 ·omega
 ·have:=h.lt k (eraseO_sub hk);omega
theorem WfL.grown {L:List Nat} {c:Nat} (h:WfL L c) (k:Nat):WfL (liveN L c k) (c+k):=by
 cases k with
 | zero=>exact h
 | succ k =>
  refine ⟨List.nodup_cons.2 ⟨fun hm=>by have:=h.lt _ hm;omega,h.nd⟩,fun j hj=>?_⟩
  rcases List.mem_cons.1 hj with rfl | hj
  ·omega
  ·have:=h.lt j hj;omega
def OwnLt (o:Own) (c:Nat):Prop:=∀ k z,o=.lab k z→k<c
theorem bd_own {nb c:Nat} {o:Own} {xs:List (List D)} (ho:OwnLt o c) (h:∀ x ∈ xs,∀ d ∈ x,Bd nb c d):Bd nb c (.slice o xs) :=
 .slice _ _ ho fun i j hi hj=>h _ (List.getElem_mem hi) _ (List.getElem_mem hj)
theorem leave_two {B T X:List Box} {L L':List Nat} {c c':Nat} {x y:Box} (h:∀ nb,sameLoop nb c' x y) (hc:c≤c') (hw:WfL L' c'):Leave ⟨B++x::T,L,c⟩ ⟨B++y::(T++X),L',c'⟩ ⟨B++y::T,L',c'⟩ where
 len:=by simp
 pre:=(leave_one (B:=B) (T:=T) (X:=X) (L:=L') (L':=L') (c:=c') (c':=c') (x:=x) (y:=y) h (fun _ h=>h) (Nat.le_refl _)).pre
 old:=(leave_one (B:=B) (T:=T) (X:=X) (L:=L') (L':=L') (c:=c') (c':=c') (x:=x) (y:=y) h (fun _ h=>h) (Nat.le_refl _)).old
 slen:=by simp
 live:=fun k hk=>⟨hk,.inr (hw.lt k hk)⟩
 ctr:=hc
 ctr':=Nat.le_refl _
 nd:=.inr hw.nd
theorem ret_two {P:Program} {B T:List Box} {L L':List Nat} {c c':Nat} {xs ys:List D} {e:List D} {x:Exit} (hx:x=.normal∨x=.ret) (h:∀ nb,∀ d ∈ ys,d ∈ xs∨Bd nb c' d) (hc:c≤c') (hw:WfL L' c') :
  @qI x e ⟨B++.cells ys::T,L',c'⟩ (retC P [] ⟨B++.cells xs::T,L,c⟩ (.tup []) ⟨B++.cells ys::T,L',c'⟩):=by
 unfold retC
 have hl:Leave ⟨B++.cells xs::T,L,c⟩ ⟨B++.cells ys::T,L',c'⟩ ⟨B++.cells ys::T,L',c'⟩:=by simpa using leave_two (X:=[]) (B:=B) (T:=T) (L:=L) (L':=L') (x:=.cells xs) (y:=.cells ys) h hc hw
 rcases hx with rfl | rfl <;> exact ⟨[],rfl,rfl,hl,.tup _ (fun i hi=>by simp at hi)⟩
def pfx (f:Fd) (p id:Int):Df:=⟨id,0,abc.extract (id.tmod 8).toNat (id.tmod 8+1).toNat,rnd f.bytes p 2,if rnd f.bytes (p+1+1+1) 2=0 then 0 else ((rnd f.bytes (p+1) 6).tdiv 2).tmod 3,[],[],0,0,[],budg (rnd f.bytes (p+1+1) 4),[]⟩
theorem hd_bd {nb nl:Nat} (l:List Hd):∀ x ∈ hdCells l,∀ d ∈ x,Bd nb nl d:=by
 intro x hx;obtain ⟨y,_,rfl⟩:=List.mem_map.1 hx;exact Hd.bd y
theorem df_bd {nb nl:Nat} (l:List Df):∀ x ∈ dfCells l,∀ d ∈ x,Bd nb nl d:=by
 intro x hx;obtain ⟨y,_,rfl⟩:=List.mem_map.1 hx;exact Df.bd y
theorem Fx.sub2 {nb c:Nat} (f f':Fx) (m m':Mk) (h1:f'.bytes=f.bytes) (h2:f'.dc=f.dc) (h3:f'.threads=f.threads) (h4:f'.ot=f.ot) (k1:OwnLt f'.oh c) (k2:OwnLt f'.od c) (k3:OwnLt f'.op c) (k4:OwnLt f'.og c) (k5:OwnLt f'.oa c) (k6:OwnLt f'.ob c) :
  ∀ d ∈ f'.cells m',d ∈ f.cells m∨Bd nb c d:=by
 intro d hd
 simp only [Fx.cells,List.mem_cons,List.not_mem_nil,or_false] at hd
 rcases hd with rfl | rfl | rfl | rfl | rfl | rfl | rfl | rfl | rfl | rfl | rfl | rfl | rfl | rfl | rfl | rfl | rfl | rfl | rfl | rfl | rfl | rfl | rfl | rfl | rfl | rfl | rfl | rfl | rfl
 ·left;rw [h1];simp [Fx.cells]
 ·exact .inr (.int _ _)
 ·left;rw [h2];simp [Fx.cells]
 ·left;rw [h2];simp [Fx.cells]
 ·left;rw [h2];simp [Fx.cells]
 ·left;rw [h2];simp [Fx.cells]
 ·exact .inr (.int _ _)
 ·exact .inr (.int _ _)
 ·exact .inr (.int _ _)
 ·exact .inr (bd_own k1 (hd_bd _))
 ·exact .inr (bd_own k2 (df_bd _))
 ·left;rw [h3,h4];simp [Fx.cells]
 ·exact .inr (.int _ _)
 ·exact .inr (.int _ _)
 ·exact .inr (.str _)
 ·exact .inr (.int _ _)
 ·exact .inr (.int _ _)
 ·exact .inr (bd_own k3 (rg_bd _))
 ·exact .inr (bd_own k4 (rg_bd _))
 ·exact .inr (.int _ _)
 ·exact .inr (.int _ _)
 ·exact .inr (bd_own k5 (ar_bd _))
 ·exact .inr (.int _ _)
 ·exact .inr (bd_own k6 (Sm.bds _))
 ·exact .inr (.int _ _)
 ·exact .inr (.int _ _)
 ·exact .inr (.int _ _)
 ·exact .inr (.int _ _)
 ·exact .inr (.bool _)
theorem t_def (f:Fx) (a:Mk) (id:Int) (th:Bool) (B T:List Box) (L:List Nat) (c:Nat) (hb:FxOk f) (hh:∀ h ∈ f.heads,h.params.length≤10∧h.given.length≤10) (hhl:f.heads.length≤900) (hdl:f.defs.length≤900) (hid:0≤id∧id≤1000) (hp:0≤a.pos∧a.pos≤800000) (hs:0≤a.site∧a.site≤800000) (hlo:a.loop=0)
  (hW:WfL L c) (hod:LiveO f.od 12 L) (hoh:LiveO f.oh 5 L) (hap:Apart f.od f.oh) :
  ∃ (f':Fx) (L':List Nat) (c':Nat),f'.toFd={ f.toFd with d:=(defS f a id th).1,defs:=f.defs++[(defS f a id th).1],heads:=f.heads++[hdOf (defS f a id th).1] }∧f'.ot=f.ot∧WfL L' c'∧LiveO f'.od 12 L'∧LiveO f'.oh 5 L'∧Apart f'.od f'.oh ∧
  c≤c'∧(∀ k ∈ L,(∀ z,f.od≠.lab k z)→(∀ z,f.oh≠.lab k z)→k ∈ L')∧(∀ k z,f'.od=.lab k z→c≤k)∧(∀ k z,f'.oh=.lab k z→c≤k) ∧
  Spec Tryz.prog 128 [.box B.length 0,.int .i64 id,.bool th] ⟨B++.cells (f.cells a)::T,L,c⟩ (.tup []) ⟨B++.cells (f'.cells (defS f a id th).2)::T,L',c'⟩:=by
 have hi:0≤id.tmod 8∧id.tmod 8<8:=⟨Int.tmod_nonneg _ hid.1,Int.tmod_lt_of_pos _ (by omega)⟩
 have hwi:IntKind.i64.wrap (id.tmod 8+1)=id.tmod 8+1:=wrap_in (by omega)
 have h80:((8:Int)=0)=False:=by simp
 have h20:((2:Int)=0)=False:=by simp
 have h30:((3:Int)=0)=False:=by simp
 have hn:=ev_name _ hi
 have hq:∀ p,IntKind.i64.wrap ((rnd f.bytes p 6).tdiv 2)=(rnd f.bytes p 6).tdiv 2:=fun p=>wrap_in (by have h1:=@rnd_nonneg _ p 6 hb;have:=@rnd_lt f.bytes p 6 (by omega);have:=Int.tdiv_nonneg h1 (b:=2) (by omega);have:=Int.tdiv_le_self 2 h1;omega)
 have hbg:∀ p,([[.int .i64 400],[.int .i64 60],[.int .i64 20],[.int .i64 2000]]:List (List D))[(rnd f.bytes p 4).toNat]? = some [.int .i64 (budg (rnd f.bytes p 4))]:=by
  intro p
  have h1:=@rnd_nonneg _ p 4 hb;have h2:=@rnd_lt f.bytes p 4 (by omega)
  generalize rnd f.bytes p 4=x at h1 h2
  have:x=0∨x=1∨x=2∨x=3:=by omega
  rcases this with rfl | rfl | rfl | rfl <;> rfl
 have hrg:∀ p,([[.int .i64 0,.int .i64 3,.int .i64 0],[.int .i64 (-2),.int .i64 5,.int .i64 1],[.int .i64 0,.int .i64 9,.int .i64 3],[.int .i64 2,.int .i64 2,.int .i64 0]]:List (List D))[(rnd f.bytes p 4).toNat]? = some (rgv (rnd f.bytes p 4)).cells:=by
  intro p
  have h1:=@rnd_nonneg _ p 4 hb;have h2:=@rnd_lt f.bytes p 4 (by omega)
  generalize rnd f.bytes p 4=x at h1 h2
  have:x=0∨x=1∨x=2∨x=3:=by omega
  rcases this with rfl | rfl | rfl | rfl <;> rfl
 have h04:∀ p,(0≤rnd f.bytes p 4)=True:=fun p=>eq_true (rnd_nonneg hb)
 obtain ⟨n,hnn⟩:∃ n,n=parN f.bytes a.pos th:=⟨_,rfl⟩
 obtain ⟨P,hP⟩:∃ P,P=parK f.bytes (a.pos+1+1+1+1+1) n:=⟨_,rfl⟩
 obtain ⟨ar,har⟩:∃ ar:Bool,ar=decide (0<n∧rnd f.bytes (P.2+1+1) 2=0):=⟨_,rfl⟩
 obtain ⟨L2,hL2⟩:∃ L2,L2=if ar=true then (c+n)::liveN L c n else liveN L c n:=⟨_,rfl⟩
 obtain ⟨c2,hc2⟩:∃ c2,c2=if ar=true then c+n+1 else c+n:=⟨_,rfl⟩
 obtain ⟨oa,hoa⟩:∃ oa,oa=if ar=true then Own.lab (c+n) 2 else .full:=⟨_,rfl⟩
 obtain ⟨og,hog⟩:∃ og,og=if rnd f.bytes P.2 4=0∧th=false then Own.full else .nil:=⟨_,rfl⟩
 have hW2:WfL L2 c2:=by
  rw [hL2,hc2]
  cases ar with
  | false=>exact hW.grown n
  | true=>exact (hW.grown n).relab .full
 have hsub:∀ k ∈ L,k ∈ L2:=by
  intro k hk
  rw [hL2]
  cases ar with
  | false=>exact mem_liveN hk
  | true=>exact List.mem_cons_of_mem _ (mem_liveN hk)
 have hod2:=hod.mono hsub
 have hoh2:=hoh.mono hsub
 have hc2c:c≤c2:=by rw [hc2];split <;> omega
 have hod3:LiveO (.lab c2 12) 12 (c2::eraseO L2 f.od):=.inr ⟨c2,rfl,by simp⟩
 have hoh3:LiveO f.oh 5 (c2::eraseO L2 f.od):=hoh2.erase hap
 have hap3:Apart f.oh (.lab c2 12):=by
  intro k z k' z' e1 e2
  cases e2
  rcases hoh2 with q | ⟨j,q,hj⟩
  ·rw [q] at e1;cases e1
  ·rw [q] at e1;cases e1
   have:=hW2.lt _ hj;omega
 refine ⟨{ f with d:=(defS f a id th).1,defs:=f.defs++[(defS f a id th).1],heads:=f.heads++[hdOf (defS f a id th).1],od:=.lab c2 12,oh:=.lab (c2+1) 5,op:=ownN c 3 n,og:=og,oa:=oa,ob:=.none },
  (c2+1)::eraseO (c2::eraseO L2 f.od) f.oh,c2+1+1,rfl,rfl,(hW2.relab _).relab _,hod3.erase hap3,.inr ⟨c2+1,rfl,by simp⟩,(fun k z k' z' e1 e2=>by cases e1;cases e2;omega),by omega,(fun k hk n1 n2=>List.mem_cons_of_mem _ (eraseO_mem (List.mem_cons_of_mem _ (eraseO_mem (hsub k hk) n1)) n2)),(fun k z e=>by cases e;exact hc2c),(fun k z e=>by cases e;omega),?_⟩
 refine Spec.introN [(1,.meet),(9,.text [false,false,false,false,false,false,false,false,true,false,false,false,true,false,false,false,true] [(5,1)]),(10,.meet),(12,.text [false,false,false,false,false,false,false,false,false,true,false,false,false,false,true] [(5,1),(6,1)]),(15,.meet),(21,.text [false,false,true,false,false,false,false,false,false,false,true,false,false,false,true] [(9,0)]),(24,.text [false,false,false,false,false,false,false,false,false,false,true,false,true,false,false,false,true] [(5,1)])] Tryz.func128 rfl (by decide) hmix (by kernel_rfl) [] 216 rfl rfl ?_
 simp only [vqM,zA,zS,zB,h80,hwi,hn]
 refine callI_spec (t_next _ _ _ B _ _ _ (by omega) (by first | omega | (simp only;omega)) hb) ?_
 simp only [vqM]
 refine callI_spec (t_next _ _ _ B _ _ _ (by omega) (by first | omega | (simp only;omega)) hb) ?_
 simp only [vqM,vt15,zA,zM,zL,h20,h30,hq]
 refine callI_spec (t_next _ _ _ B _ _ _ (by omega) (by first | omega | (simp only;omega)) hb) ?_
 simp only [vqM,vt15,zA,zL,zB,hbg,h04,vsMw]
 refine seq_join hmix [0,1,2] [.box B.length 0,.int .i64 id,.bool th,Jk,Jk,Jk,Jk,Jk,Jk,Jk,Jk,Jk,Jk,Jk,Jk,Jk,Jk,Jk,Jk,Jk,Jk,Jk,Jk,Jk,Jk,Jk,Jk,Jk,Jk,Jk,Jk,Jk,Jk,Jk,Jk,Jk,Jk,Jk,Jk,Jk,Jk,Jk,Jk,Jk,Jk,Jk,Jk,Jk,Jk,Jk,Jk,Jk,Jk,Jk,Jk,Jk,Jk,Jk,Jk,Jk,Jk,Jk,Jk,Jk,Jk,Jk,Jk,Jk,Jk,Jk,Jk,Jk,Jk,Jk,Jk,Jk,Jk,Jk,Jk,Jk,Jk,Jk,Jk,Jk,Jk,Jk,Jk,Jk,Jk,Jk,Jk,Jk,Jk,Jk,Jk,Jk,Jk,Jk,Jk,Jk,Jk,Jk,Jk,Jk,Jk,Jk,Jk,Jk,Jk,Jk,Jk,Jk,Jk,Jk,Jk,Jk,Jk,Jk,Jk,Jk,Jk,Jk,Jk,Jk,Jk,Jk,Jk,Jk,Jk,Jk,Jk,Jk,Jk,Jk,Jk,Jk,Jk,Jk,Jk,Jk,Jk,Jk,Jk,Jk,Jk,Jk,Jk,Jk,Jk,Jk,Jk,Jk,Jk,Jk,Jk,Jk,Jk,Jk,Jk,Jk,Jk,Jk,Jk,Jk,Jk,Jk,Jk,Jk,Jk,Jk,Jk,Jk,Jk,Jk,Jk,Jk,Jk,Jk,Jk,Jk,Jk,Jk,Jk,Jk,Jk,Jk,Jk,Jk,Jk,Jk,Jk,Jk,Jk,Jk,Jk,Jk,Jk,Jk,Jk,Jk,Jk,Jk,Jk,Jk,Jk,Jk,Jk,Jk,Jk,Jk,Jk,Jk,Jk,Jk,Jk,Jk] (fun s=>s=⟨B++.cells ((setD f (pfx f a.pos id) .nil .nil .nil .nil).cells { a with pos:=a.pos+1+1+1+1 })::T,L,c⟩) ?_ ?_
 ·simp only [vqM,zB]
  refine callI_spec (t_next _ _ _ B _ _ _ (by omega) (by first | omega | (simp only;omega)) hb) ?_
  simp only [vqM]
  refine ifI_intro (fun h=>?_) (fun h=>?_)
  ·simp only [vqM,vt15,zA,zL,vsMw]
   refine meet_intro ⟨?_,?_⟩
   ·simp only [vke,zB,zA]
   ·simp only [setD,pfx,of_decide_eq_true h,if_true]
  ·simp only [vqM]
   refine meet_intro ⟨?_,?_⟩
   ·simp only [vke,zB,zA]
   ·simp only [setD,pfx,of_decide_eq_false h,if_false]
 rintro s rfl
 have hr3:=@rnd_nonneg _ (a.pos+1+1+1+1) 3 hb
 have hr3':=@rnd_lt f.bytes (a.pos+1+1+1+1) 3 (by omega)
 have hnle:n≤2:=by rw [hnn];unfold parN;split <;> omega
 simp only [vqM,vt15,zA,zM,zL,zB]
 refine callI_spec (t_next _ _ _ B _ _ _ (by omega) (by first | omega | (simp only;omega)) hb) ?_
 simp only [vqM]
 simp only [vsMs]
 refine awN_keep [0,1,2,6,7] ?_
 simp only [vke,zB,zA]
 refine awN_cut (fun x e s=>x=.exit 0∧∃ y7 y52 y53 y54 y55 y56 y57,e=[.box B.length 0,.int .i64 id,.bool th,Jk,Jk,Jk,.slice .full [[.int .i64 0,.int .i64 3,.int .i64 0],[.int .i64 (-2),.int .i64 5,.int .i64 1],[.int .i64 0,.int .i64 9,.int .i64 3],[.int .i64 2,.int .i64 2,.int .i64 0]],y7,Jk,Jk,Jk,Jk,Jk,Jk,Jk,Jk,Jk,Jk,Jk,Jk,Jk,Jk,Jk,Jk,Jk,Jk,Jk,Jk,Jk,Jk,Jk,Jk,Jk,Jk,Jk,Jk,Jk,Jk,Jk,Jk,Jk,Jk,Jk,Jk,Jk,Jk,Jk,Jk,Jk,Jk,Jk,Jk,y52,y53,y54,y55,y56,y57,Jk,Jk,Jk,Jk,Jk,Jk,Jk,Jk,Jk,Jk,Jk,Jk,Jk,Jk,Jk,Jk,Jk,Jk,Jk,Jk,Jk,Jk,Jk,Jk,Jk,Jk,Jk,Jk,Jk,Jk,Jk,Jk,Jk,Jk,Jk,Jk,Jk,Jk,Jk,Jk,Jk,Jk,Jk,Jk,Jk,Jk,Jk,Jk,Jk,Jk,Jk,Jk,Jk,Jk,Jk,Jk,Jk,Jk,Jk,Jk,Jk,Jk,Jk,Jk,Jk,Jk,Jk,Jk,Jk,Jk,Jk,Jk,Jk,Jk,Jk,Jk,Jk,Jk,Jk,Jk,Jk,Jk,Jk,Jk,Jk,Jk,Jk,Jk,Jk,Jk,Jk,Jk,Jk,Jk,Jk,Jk,Jk,Jk,Jk,Jk,Jk,Jk,Jk,Jk,Jk,Jk,Jk,Jk,Jk,Jk,Jk,Jk,Jk,Jk,Jk,Jk,Jk,Jk,Jk,Jk,Jk,Jk,Jk,Jk,Jk,Jk,Jk,Jk,Jk,Jk,Jk,Jk,Jk,Jk,Jk,Jk,Jk,Jk,Jk,Jk,Jk,Jk,Jk,Jk,Jk,Jk,Jk,Jk,Jk,Jk,Jk,Jk,Jk,Jk,Jk,Jk,Jk,Jk] ∧
  s=⟨B++.cells ((setD f { pfx f a.pos id with params:=P.1 } (ownN c 3 n) .nil .nil .nil).cells { a with pos:=P.2 })::T,liveN L c n,c+n⟩) ?_ ?_
 ·refine awN_forR hmix n (fun k e s=>e=[.box B.length 0,.int .i64 id,.bool th,Jk,Jk,Jk,.slice .full [[.int .i64 0,.int .i64 3,.int .i64 0],[.int .i64 (-2),.int .i64 5,.int .i64 1],[.int .i64 0,.int .i64 9,.int .i64 3],[.int .i64 2,.int .i64 2,.int .i64 0]],.int .i64 (rnd f.bytes (a.pos+1+1+1+1) 3 - k),Jk,Jk,Jk,Jk,Jk,Jk,Jk,Jk,Jk,Jk,Jk,Jk,Jk,Jk,Jk,Jk,Jk,Jk,Jk,Jk,Jk,Jk,Jk,Jk,Jk,Jk,Jk,Jk,Jk,Jk,Jk,Jk,Jk,Jk,Jk,Jk,Jk,Jk,Jk,Jk,Jk,Jk,Jk,Jk,Jk,Jk,Jk,Jk,Jk,Jk,Jk,Jk,Jk,Jk,Jk,Jk,Jk,Jk,Jk,Jk,Jk,Jk,Jk,Jk,Jk,Jk,Jk,Jk,Jk,Jk,Jk,Jk,Jk,Jk,Jk,Jk,Jk,Jk,Jk,Jk,Jk,Jk,Jk,Jk,Jk,Jk,Jk,Jk,Jk,Jk,Jk,Jk,Jk,Jk,Jk,Jk,Jk,Jk,Jk,Jk,Jk,Jk,Jk,Jk,Jk,Jk,Jk,Jk,Jk,Jk,Jk,Jk,Jk,Jk,Jk,Jk,Jk,Jk,Jk,Jk,Jk,Jk,Jk,Jk,Jk,Jk,Jk,Jk,Jk,Jk,Jk,Jk,Jk,Jk,Jk,Jk,Jk,Jk,Jk,Jk,Jk,Jk,Jk,Jk,Jk,Jk,Jk,Jk,Jk,Jk,Jk,Jk,Jk,Jk,Jk,Jk,Jk,Jk,Jk,Jk,Jk,Jk,Jk,Jk,Jk,Jk,Jk,Jk,Jk,Jk,Jk,Jk,Jk,Jk,Jk,Jk,Jk,Jk,Jk,Jk,Jk,Jk,Jk,Jk,Jk,Jk,Jk,Jk,Jk,Jk,Jk,Jk,Jk,Jk,Jk,Jk,Jk,Jk,Jk,Jk,Jk,Jk,Jk,Jk,Jk,Jk,Jk,Jk] ∧
   s=⟨B++.cells ((setD f { pfx f a.pos id with params:=(parK f.bytes (a.pos+1+1+1+1+1) k).1 } (ownN c 3 k) .nil .nil .nil).cells { a with pos:=(parK f.bytes (a.pos+1+1+1+1+1) k).2 })::T,liveN L c k,c+k⟩) ?_ ?_ 0 _ _ (Nat.zero_le _) ⟨?_,rfl⟩
  ·rintro k e s hk ⟨rfl,rfl⟩ ih
   obtain ⟨hk1,hk2⟩:=parK_len f.bytes (a.pos+1+1+1+1+1) k
   have hth:th=false:=by cases th with
    | false=>rfl
    | true=>simp [parN] at hnn;omega
   subst hth
   have hnr:n=(rnd f.bytes (a.pos+1+1+1+1) 3).toNat:=hnn
   have hkl:((0:Int)<rnd f.bytes (a.pos+1+1+1+1) 3 - k)=True:=eq_true (by omega)
   have hwk:IntKind.i64.wrap (rnd f.bytes (a.pos+1+1+1+1) 3 - k - 1)=rnd f.bytes (a.pos+1+1+1+1) 3 - ((k+1:Nat):Int):=by rw [wrap_in (by omega)];omega
   have hl1:(k+1≤1000000)=True:=eq_true (by omega)
   have hof:∀ B',ownFits (ownN c 3 k) (rgCells (parK f.bytes (a.pos+1+1+1+1+1) k).1) 3 ⟨B',liveN L c k,c+k⟩=true:=fun B'=>ownN_fits (rgCells_each _)
   simp only [vqM,vt15,zA,zB,vsMs,hkl,decide_true]
   refine callI_spec (t_next _ _ _ B _ _ _ (by omega) (by first | omega | (simp only;omega)) hb) ?_
   simp only [vqM,vt15,zA,zM,zL,vsMs,hrg,h04,hof,ownN_relab,rgCells_len,hk1,hl1,rgCells_app,hwk]
   refine awN_keep [0,1,2,6,7] ?_
   simp only [vke,zB,zA]
   exact ih _ _ ⟨rfl,rfl⟩
  ·rintro e s ⟨rfl,rfl⟩
   rw [← hP]
   cases th with
   | true =>
    by_cases h0:(0:Int)<rnd f.bytes (a.pos+1+1+1+1) 3 - n
    ·simp only [vqM,zB,h0,decide_true]
     exact cut_intro ⟨rfl,_,_,_,_,_,_,_,rfl,rfl⟩
    ·simp only [vqM,zB,h0,decide_false]
     exact cut_intro ⟨rfl,_,_,_,_,_,_,_,rfl,rfl⟩
   | false =>
    have hnr:n=(rnd f.bytes (a.pos+1+1+1+1) 3).toNat:=hnn
    have h0:((0:Int)<rnd f.bytes (a.pos+1+1+1+1) 3 - n)=False:=eq_false (by omega)
    simp only [vqM,zB,h0,decide_false]
    exact cut_intro ⟨rfl,_,_,_,_,_,_,_,rfl,rfl⟩
  ·simp only [Int.natCast_zero,Int.sub_zero]
 rintro x e s ⟨rfl,y7,y52,y53,y54,y55,y56,y57,rfl,rfl⟩
 have hPl:P.1.length=n∧P.2=a.pos+1+1+1+1+1+n:=by rw [hP];exact parK_len _ _ n
 obtain ⟨hPn,hPp⟩:=hPl
 simp only [vqM,zB]
 refine seq_join hmix [0,1,2] [.box B.length 0,.int .i64 id,.bool th,Jk,Jk,Jk,Jk,Jk,Jk,Jk,Jk,Jk,Jk,Jk,Jk,Jk,Jk,Jk,Jk,Jk,Jk,Jk,Jk,Jk,Jk,Jk,Jk,Jk,Jk,Jk,Jk,Jk,Jk,Jk,Jk,Jk,Jk,Jk,Jk,Jk,Jk,Jk,Jk,Jk,Jk,Jk,Jk,Jk,Jk,Jk,Jk,Jk,Jk,Jk,Jk,Jk,Jk,Jk,Jk,Jk,Jk,Jk,Jk,Jk,Jk,Jk,Jk,Jk,Jk,Jk,Jk,Jk,Jk,Jk,Jk,Jk,Jk,Jk,Jk,Jk,Jk,Jk,Jk,Jk,Jk,Jk,Jk,Jk,Jk,Jk,Jk,Jk,Jk,Jk,Jk,Jk,Jk,Jk,Jk,Jk,Jk,Jk,Jk,Jk,Jk,Jk,Jk,Jk,Jk,Jk,Jk,Jk,Jk,Jk,Jk,Jk,Jk,Jk,Jk,Jk,Jk,Jk,Jk,Jk,Jk,Jk,Jk,Jk,Jk,Jk,Jk,Jk,Jk,Jk,Jk,Jk,Jk,Jk,Jk,Jk,Jk,Jk,Jk,Jk,Jk,Jk,Jk,Jk,Jk,Jk,Jk,Jk,Jk,Jk,Jk,Jk,Jk,Jk,Jk,Jk,Jk,Jk,Jk,Jk,Jk,Jk,Jk,Jk,Jk,Jk,Jk,Jk,Jk,Jk,Jk,Jk,Jk,Jk,Jk,Jk,Jk,Jk,Jk,Jk,Jk,Jk,Jk,Jk,Jk,Jk,Jk,Jk,Jk,Jk,Jk,Jk,Jk,Jk,Jk,Jk,Jk,Jk,Jk,Jk,Jk,Jk,Jk,Jk,Jk,Jk,Jk,Jk,Jk,Jk,Jk,Jk] (fun s=>s=⟨B++.cells ((setD f { pfx f a.pos id with params:=P.1,given:=if rnd f.bytes P.2 4=0∧th=false then [⟨-10,10,1⟩] else [] } (ownN c 3 n) og .nil .nil).cells { a with pos:=P.2+1 })::T,liveN L c n,c+n⟩) ?_ ?_
 ·simp only [vqM,zB]
  refine callI_spec (t_next _ _ _ B _ _ _ (by omega) (by first | omega | (simp only;omega)) hb) ?_
  simp only [vqM,vsMs]
  by_cases h0:rnd f.bytes P.2 4=0
  ·have h0t:(rnd f.bytes P.2 4=0)=True:=eq_true h0
   cases th with
   | false =>
    simp only [vqM,vt15,zA,zM,zL,vsMs,h0t,decide_true]
    refine meet_intro ⟨?_,?_⟩
    ·simp only [vke,zB,zA]
    ·simp only [setD,pfx,hog,h0,and_self,if_true]
   | true =>
    simp only [vqM,reduceCtorEq,h0t,decide_true]
    refine meet_intro ⟨?_,?_⟩
    ·simp only [vke,zB,zA]
    ·simp only [setD,pfx,hog,h0,true_and,Bool.true_eq_false,if_false]
  ·have h0t:(rnd f.bytes P.2 4=0)=False:=eq_false h0
   simp only [vqM,h0t,decide_false]
   refine meet_intro ⟨?_,?_⟩
   ·simp only [vke,zB,zA]
   ·simp only [setD,pfx,hog,h0,false_and,if_false]
 rintro s rfl
 have hr2a:=@rnd_nonneg _ (P.2+1) 2 hb
 have hr2b:=@rnd_lt f.bytes (P.2+1) 2 (by omega)
 have hw1:IntKind.i64.wrap ((n:Int)+2)=n+2:=wrap_in (by omega)
 have hw2:IntKind.i64.wrap ((n:Int)+2+rnd f.bytes (P.2+1) 2)=n+2+rnd f.bytes (P.2+1) 2:=wrap_in (by omega)
 simp only [vqM,vt15,zA,zB,vsMs,rgCells_len,hPn,hw1]
 refine callI_spec (t_next _ _ _ B _ _ _ (by omega) (by first | omega | (simp only;omega)) hb) ?_
 simp only [vqM,vt15,zA,zM,zL,zB,vsMs,rgCells_len,hPn,hw2]
 have hdd:defD f.bytes a.pos id th=({ pfx f a.pos id with params:=P.1,given:=if rnd f.bytes P.2 4=0∧th=false then [⟨-10,10,1⟩] else [],vars:=n+2+rnd f.bytes (P.2+1) 2,refs:=2,arrays:=(arrs f.bytes n (P.2+1+1)).1 },(arrs f.bytes n (P.2+1+1)).2):=by
  simp only [defD,pfx,← hnn,← hP,hPn]
 refine seq_join hmix [0,1,2] [.box B.length 0,.int .i64 id,.bool th,Jk,Jk,Jk,Jk,Jk,Jk,Jk,Jk,Jk,Jk,Jk,Jk,Jk,Jk,Jk,Jk,Jk,Jk,Jk,Jk,Jk,Jk,Jk,Jk,Jk,Jk,Jk,Jk,Jk,Jk,Jk,Jk,Jk,Jk,Jk,Jk,Jk,Jk,Jk,Jk,Jk,Jk,Jk,Jk,Jk,Jk,Jk,Jk,Jk,Jk,Jk,Jk,Jk,Jk,Jk,Jk,Jk,Jk,Jk,Jk,Jk,Jk,Jk,Jk,Jk,Jk,Jk,Jk,Jk,Jk,Jk,Jk,Jk,Jk,Jk,Jk,Jk,Jk,Jk,Jk,Jk,Jk,Jk,Jk,Jk,Jk,Jk,Jk,Jk,Jk,Jk,Jk,Jk,Jk,Jk,Jk,Jk,Jk,Jk,Jk,Jk,Jk,Jk,Jk,Jk,Jk,Jk,Jk,Jk,Jk,Jk,Jk,Jk,Jk,Jk,Jk,Jk,Jk,Jk,Jk,Jk,Jk,Jk,Jk,Jk,Jk,Jk,Jk,Jk,Jk,Jk,Jk,Jk,Jk,Jk,Jk,Jk,Jk,Jk,Jk,Jk,Jk,Jk,Jk,Jk,Jk,Jk,Jk,Jk,Jk,Jk,Jk,Jk,Jk,Jk,Jk,Jk,Jk,Jk,Jk,Jk,Jk,Jk,Jk,Jk,Jk,Jk,Jk,Jk,Jk,Jk,Jk,Jk,Jk,Jk,Jk,Jk,Jk,Jk,Jk,Jk,Jk,Jk,Jk,Jk,Jk,Jk,Jk,Jk,Jk,Jk,Jk,Jk,Jk,Jk,Jk,Jk,Jk,Jk,Jk,Jk,Jk,Jk,Jk,Jk,Jk,Jk,Jk,Jk,Jk,Jk,Jk,Jk] (fun s=>s=⟨B++.cells ((setD f (defD f.bytes a.pos id th).1 (ownN c 3 n) og oa .nil).cells { a with pos:=(defD f.bytes a.pos id th).2 })::T,L2,c2⟩) ?_ ?_
 ·rw [hdd]
  by_cases hn0:0<n
  ·have hnt:((0:Int)<(n:Int))=True:=eq_true (by omega)
   simp only [vqM,vt15,zA,zB,vsMs,rgCells_len,hPn,hnt,decide_true]
   refine callI_spec (t_next _ _ _ B _ _ _ (by omega) (by first | omega | (simp only;omega)) hb) ?_
   simp only [vqM,vsMs]
   refine ifI_intro (fun h=>?_) (fun h=>?_)
   ·have h':=of_decide_eq_true h
    have hof:∀ B',ownFits .full (arCells [⟨4,0⟩]) 2 ⟨B',liveN L c n,c+n⟩=true:=fun _=>rfl
    have hl1:(arCells [⟨4,0⟩]).length=1:=rfl
    have har1:ar=true:=by rw [har];exact decide_eq_true ⟨hn0,h'⟩
    simp only [vqM,vt15,zA,zM,zL,vsMs,hof,hl1,arCells_app]
    refine meet_intro ⟨?_,?_⟩
    ·simp only [vke,zB,zA]
    ·rw [hL2,hc2,hoa,har1]
     simp only [if_true,arrs,hn0,h']
   ·have h':=of_decide_eq_false h
    have har1:ar=false:=by rw [har];exact decide_eq_false fun q=>h' q.2
    simp only [vqM]
    refine meet_intro ⟨?_,?_⟩
    ·simp only [vke,zB,zA]
    ·rw [hL2,hc2,hoa,har1]
     simp only [if_true,arrs,hn0,h',if_false,Bool.false_eq_true]
  ·have hnt:((0:Int)<(n:Int))=False:=eq_false (by omega)
   have har1:ar=false:=by rw [har];exact decide_eq_false fun q=>hn0 q.1
   simp only [vqM,vt15,zA,zB,vsMs,rgCells_len,hPn,hnt,decide_false]
   refine meet_intro ⟨?_,?_⟩
   ·simp only [vke,zB,zA]
   ·rw [hL2,hc2,hoa,har1]
    simp only [arrs,hn0,if_false,Bool.false_eq_true]
 rintro s rfl
 have hD1:(defD f.bytes a.pos id th).1.params.length=n:=by rw [hdd];exact hPn
 have hD2:(n:Int)<(defD f.bytes a.pos id th).1.vars∧(defD f.bytes a.pos id th).1.vars≤1000:=by rw [hdd];simp only;omega
 have hD3:0<(defD f.bytes a.pos id th).1.arrays.length∧(defD f.bytes a.pos id th).1.arrays.length≤1000:=by
  rw [hdd];simp only [arrs]
  split
  ·split <;> simp
  ·simp
 have hD4:a.pos≤(defD f.bytes a.pos id th).2∧(defD f.bytes a.pos id th).2≤a.pos+20:=by
  rw [hdd];simp only [arrs]
  split <;> (simp only;omega)
 have hds:defS f a id th=({ (defD f.bytes a.pos id th).1 with body:=(stmts { f.toFd with d:=(defD f.bytes a.pos id th).1 } 2 (1+rnd f.bytes (defD f.bytes a.pos id th).2 5) { a with pos:=(defD f.bytes a.pos id th).2+1,left:=9,done:=0 }).1,site:=(stmts { f.toFd with d:=(defD f.bytes a.pos id th).1 } 2 (1+rnd f.bytes (defD f.bytes a.pos id th).2 5) { a with pos:=(defD f.bytes a.pos id th).2+1,left:=9,done:=0 }).2.site+1 },
   { (stmts { f.toFd with d:=(defD f.bytes a.pos id th).1 } 2 (1+rnd f.bytes (defD f.bytes a.pos id th).2 5) { a with pos:=(defD f.bytes a.pos id th).2+1,left:=9,done:=0 }).2 with site:=(stmts { f.toFd with d:=(defD f.bytes a.pos id th).1 } 2 (1+rnd f.bytes (defD f.bytes a.pos id th).2 5) { a with pos:=(defD f.bytes a.pos id th).2+1,left:=9,done:=0 }).2.site+1 }):=rfl
 generalize hDD:defD f.bytes a.pos id th=DD at hD1 hD2 hD3 hD4 hds ⊢
 obtain ⟨D2,q3⟩:=DD
 simp only at hD1 hD2 hD3 hD4 hds
 have hA:FxH (setD f D2 (ownN c 3 n) og oa .nil):={ ok:=hb,par:=by show D2.params.length≤100;omega,vars:=by show (D2.params.length:Int)<D2.vars∧D2.vars≤1000;rw [hD1];exact hD2,arr:=hD3,hd:=hh,hds:=by show f.heads.length≤1000;omega }
 have hr5a:=@rnd_nonneg _ q3 5 hb
 have hr5b:=@rnd_lt f.bytes q3 5 (by omega)
 have hw5:IntKind.i64.wrap (1+rnd f.bytes q3 5)=1+rnd f.bytes q3 5:=wrap_in (by omega)
 simp only [vqM,vt15,zA,zL,zB]
 refine callI_spec (t_next _ _ _ B _ _ _ (by omega) (by first | omega | (simp only;omega)) hb) ?_
 simp only [vqM,vsMs,hw5]
 have hR:Rdy 2 ({ pos:=q3+1,site:=a.site,left:=9,loop:=a.loop,done:=0 }:Mk):=⟨⟨by simp only;omega,by simp only;omega⟩,⟨by simp only;omega,by simp only;omega⟩,by simp only;omega,⟨by simp only;omega,by simp only;omega⟩,⟨by simp only;omega,by simp only;omega⟩⟩
 refine callI_spec (t_stmts (setD f D2 (ownN c 3 n) og oa .nil) hA 2 (t_nested _ hA 2) (1+rnd f.bytes q3 5) { pos:=q3+1,site:=a.site,left:=9,loop:=a.loop,done:=0 } B T L2 c2 (by omega) hR) ?_
 have hg:=gr_it hA (ngr_nest hA 2) 2 ({ pos:=q3+1,site:=a.site,left:=9,loop:=a.loop,done:=0 }:Mk) (1+rnd f.bytes q3 5).toNat
 change Gr _ (stmts (setD f D2 (ownN c 3 n) og oa .nil) 2 (1+rnd f.bytes q3 5) { pos:=q3+1,site:=a.site,left:=9,loop:=a.loop,done:=0 }).2 at hg
 change defS f a id th=({ D2 with body:=(stmts (setD f D2 (ownN c 3 n) og oa .nil) 2 (1+rnd f.bytes q3 5) { pos:=q3+1,site:=a.site,left:=9,loop:=a.loop,done:=0 }).1,site:=(stmts (setD f D2 (ownN c 3 n) og oa .nil) 2 (1+rnd f.bytes q3 5) { pos:=q3+1,site:=a.site,left:=9,loop:=a.loop,done:=0 }).2.site+1 },
   { (stmts (setD f D2 (ownN c 3 n) og oa .nil) 2 (1+rnd f.bytes q3 5) { pos:=q3+1,site:=a.site,left:=9,loop:=a.loop,done:=0 }).2 with site:=(stmts (setD f D2 (ownN c 3 n) og oa .nil) 2 (1+rnd f.bytes q3 5) { pos:=q3+1,site:=a.site,left:=9,loop:=a.loop,done:=0 }).2.site+1 }) at hds
 generalize stmts (setD f D2 (ownN c 3 n) og oa .nil) 2 (1+rnd f.bytes q3 5) { pos:=q3+1,site:=a.site,left:=9,loop:=a.loop,done:=0 }=W at hg hds ⊢
 obtain ⟨bl,mb⟩:=W
 obtain ⟨g1,g2,g3,g4,g5,g6,g7,g8,g9⟩:=hg
 simp only at g1 g2 g3 g4 g5 g6 g7 g8 g9 hds
 have g60:=g6 (by omega)
 have hofd:∀ B',ownFits f.od (dfCells f.defs) 12 ⟨B',L2,c2⟩=true:=fun B'=>hod2.fits (dfCells_each _) B' c2
 have hofh:∀ B',ownFits f.oh (hdCells f.heads) 5 ⟨B',c2::eraseO L2 f.od,c2+1⟩=true:=fun B'=>hoh3.fits (hdCells_each _) B' (c2+1)
 have hld:(f.defs.length+1≤1000000)=True:=eq_true (by omega)
 have hlh:(f.heads.length+1≤1000000)=True:=eq_true (by omega)
 rw [hds]
 simp only [vqM,vt15,zA,zL,zB,vsMs]
 refine callI_spec (t_site _ _ B _ _ _ (by first | omega | (simp only;omega))) ?_
 simp only [vqM,vt15,zA,zS,zM,zL,zB,vsMs,hofd,relab_eq,dfCells_len,dfCells_app,hld,vsMw]
 refine callI_spec (t_head _ _) ?_
 simp only [vqM,vt15,zA,zM,zL,hofh,relab_eq,hdCells_len,hdCells_app,hlh,vsMw]
 refine ret_two (.inl rfl) (fun nb=>?_) (by omega) ((hW2.relab _).relab _)
 refine Fx.sub2 f _ a _ rfl rfl rfl rfl ?_ ?_ ?_ ?_ ?_ ?_
 ·intro k z e;cases e;omega
 ·intro k z e;cases e;omega
 ·intro k z e
  cases n with
  | zero=>cases e
  | succ n=>cases e;rw [hc2];split <;> omega
 ·intro k z e
  change og=_ at e
  rw [hog] at e;split at e <;> cases e
 ·intro k z e
  change oa=_ at e
  rw [hoa] at e;rw [hc2]
  split at e
  ·rename_i q;cases e;rw [if_pos q];omega
  ·cases e
 ·intro k z e;cases e
def declared:Dc:=⟨[⟨0,20,1⟩,⟨-5,5,0⟩],[⟨0,9,1⟩,⟨0,100,2⟩],[⟨2,⟨0,15,1⟩⟩],[0,1,3],3,3,2⟩
theorem int_bd {nb nl:Nat} (l:List Int):∀ x ∈ intCells l,∀ d ∈ x,Bd nb nl d:=bd_ints
theorem qu_bd {nb nl:Nat} (l:List Qu):∀ x ∈ quCells l,∀ d ∈ x,Bd nb nl d:=by
 intro x hx d hd;obtain ⟨y,_,rfl⟩:=List.mem_map.1 hx
 simp only [Qu.cells,List.mem_cons,List.not_mem_nil,or_false] at hd
 rcases hd with rfl | rfl | rfl | rfl <;> exact .int _ _
theorem Dc.bd {nb nl:Nat} (h:Dc):∀ d ∈ h.cells,Bd nb nl d:=by
 intro d hd
 simp only [Dc.cells,List.mem_cons,List.not_mem_nil,or_false] at hd
 rcases hd with rfl | rfl | rfl | rfl | rfl | rfl | rfl <;> first
  | exact .int _ _
  | exact bd_slice (rg_bd _)
  | exact bd_slice (qu_bd _)
  | exact bd_slice (int_bd _)
theorem Pg.bd {nb nl:Nat} (h:Pg):∀ d ∈ h.cells,Bd nb nl d:=by
 intro d hd
 simp only [Pg.cells,List.mem_append,List.mem_cons,List.not_mem_nil,or_false] at hd
 rcases hd with hd | rfl | rfl | rfl
 ·exact Dc.bd _ d hd
 ·exact bd_slice (hd_bd _)
 ·exact bd_slice (df_bd _)
 ·exact bd_slice (int_bd _)
theorem t_declared (s:St):Spec Tryz.prog 126 [] s (.agg declared.cells) s:=by
 obtain ⟨B,L,c⟩:=s
 refine Spec.introN [] Tryz.func126 rfl (by decide) hmix (by kernel_rfl) [ResultVar.cell 0 34] 12 rfl rfl ?_
 simp only [vqM,vt16,zA,zS,zM,zL]
 refine ret_loc (.inr rfl) ?_ (bd_agg (Dc.bd _)) (fun _ h=>h) (Nat.le_refl _)
 simp only [vqM,vt16,zA]
 rfl
def addDef (f:Fd) (d:Df):Fd:={ f with d:=d,defs:=f.defs++[d],heads:=f.heads++[hdOf d] }
def isTh (b:List Int) (n p:Int) (k:Nat):Bool:=decide ((k:Int)=n - 1∨rnd b p 5=0)
def defsK (b:List Int) (n:Int):Nat→Fd × Mk
 | 0=>(⟨b,declared,[],[],[],⟨0,0,⟨#[]⟩,0,0,[],[],0,0,[],0,[]⟩⟩,⟨1,100,0,0,0⟩)
 | k+1 =>
  let q:=defsK b n k
  let D:=defS q.1 (if (k:Int)=n - 1 then q.2 else { q.2 with pos:=q.2.pos+1 }) (11+k) (isTh b n q.2.pos k)
  (addDef q.1 D.1,D.2)
def thr (ds:List Df):List Int:=((ds.reverse.filter fun d=>d.params.length+d.given.length == 0).map (·.id)).take 2
def made (b:List Int):Pg :=
 let n:=1+rnd b 0 4
 let q:=defsK b n n.toNat
 ⟨declared,q.1.heads,q.1.defs,if rnd b q.2.pos 3=0 then (thr q.1.defs).take 1 else thr q.1.defs⟩
theorem defS_par (f:Fd) (hb:FxOk f) (a:Mk) (id:Int) (th:Bool):(defS f a id th).1.params.length≤2∧(defS f a id th).1.given.length≤1:=by
 have hr3:=@rnd_nonneg _ (a.pos+1+1+1+1) 3 hb
 have hr3':=@rnd_lt f.bytes (a.pos+1+1+1+1) 3 (by omega)
 have hn:parN f.bytes a.pos th≤2:=by unfold parN;split <;> omega
 constructor
 ·show (parK f.bytes (a.pos+1+1+1+1+1) (parN f.bytes a.pos th)).1.length≤2
  rw [(parK_len _ _ _).1];exact hn
 ·simp only [defS,defD]
  split <;> simp
theorem defS_frame (f:Fd) (hb:FxOk f) (hh:∀ h ∈ f.heads,h.params.length≤10∧h.given.length≤10) (hhl:f.heads.length≤900) (a:Mk) (id:Int) (th:Bool) :
  a.pos≤(defS f a id th).2.pos∧(defS f a id th).2.pos≤a.pos+2000∧a.site<(defS f a id th).2.site∧(defS f a id th).2.site≤a.site+40∧(defS f a id th).2.loop=a.loop:=by
 have hr3:=@rnd_nonneg _ (a.pos+1+1+1+1) 3 hb
 have hr3':=@rnd_lt f.bytes (a.pos+1+1+1+1) 3 (by omega)
 have hn:parN f.bytes a.pos th≤2:=by unfold parN;split <;> omega
 obtain ⟨hP1,hP2⟩:=parK_len f.bytes (a.pos+1+1+1+1+1) (parN f.bytes a.pos th)
 have hr2a:=@rnd_nonneg _ ((parK f.bytes (a.pos+1+1+1+1+1) (parN f.bytes a.pos th)).2+1) 2 hb
 have hr2b:=@rnd_lt f.bytes ((parK f.bytes (a.pos+1+1+1+1+1) (parN f.bytes a.pos th)).2+1) 2 (by omega)
 have hA:FxH { f with d:=(defD f.bytes a.pos id th).1 }:={
  ok:=hb
  par:=by show (parK f.bytes (a.pos+1+1+1+1+1) (parN f.bytes a.pos th)).1.length≤100;omega
  vars:=by
   show ((parK f.bytes (a.pos+1+1+1+1+1) (parN f.bytes a.pos th)).1.length:Int)<(parK f.bytes (a.pos+1+1+1+1+1) (parN f.bytes a.pos th)).1.length+2+rnd f.bytes ((parK f.bytes (a.pos+1+1+1+1+1) (parN f.bytes a.pos th)).2+1) 2∧_
   constructor
   ·omega
   ·show ((parK f.bytes (a.pos+1+1+1+1+1) (parN f.bytes a.pos th)).1.length:Int)+2+rnd f.bytes ((parK f.bytes (a.pos+1+1+1+1+1) (parN f.bytes a.pos th)).2+1) 2≤1000
    omega
  arr:=by
   simp only [defD,arrs]
   split
   ·split <;> simp
   ·simp
  hd:=hh
  hds:=by show f.heads.length≤1000;omega }
 have hD4:a.pos≤(defD f.bytes a.pos id th).2∧(defD f.bytes a.pos id th).2≤a.pos+20:=by
  simp only [defD,arrs]
  split <;> (simp only;omega)
 have hg:Gr _ (stmts { f with d:=(defD f.bytes a.pos id th).1 } 2 (1+rnd f.bytes (defD f.bytes a.pos id th).2 5) { pos:=(defD f.bytes a.pos id th).2+1,site:=a.site,left:=9,loop:=a.loop,done:=0 }).2:=gr_it hA (ngr_nest hA 2) 2 ({ pos:=(defD f.bytes a.pos id th).2+1,site:=a.site,left:=9,loop:=a.loop,done:=0 }:Mk) (1+rnd f.bytes (defD f.bytes a.pos id th).2 5).toNat
 obtain ⟨g1,g2,g3,g4,g5,g6,g7,g8,g9⟩:=hg
 simp only at g1 g2 g3 g4 g5 g6 g7 g8 g9
 have g60:=g6 (by omega)
 simp only [defS]
 refine ⟨?_,?_,?_,?_,?_⟩
 ·exact Int.le_trans (by omega) g1
 ·omega
 ·omega
 ·omega
 ·exact g7
theorem defsK_inv {b:List Int} (hb:∀ x ∈ b,0≤x∧x<256) (n:Int):∀ k:Nat,k≤100→(defsK b n k).1.bytes=b∧(defsK b n k).1.dc=declared∧(defsK b n k).1.threads=[]∧(defsK b n k).1.heads.length=k∧(defsK b n k).1.defs.length=k ∧
  (∀ h ∈ (defsK b n k).1.heads,h.params.length≤10∧h.given.length≤10)∧(∀ d ∈ (defsK b n k).1.defs,d.params.length≤10∧d.given.length≤10)∧1≤(defsK b n k).2.pos∧(defsK b n k).2.pos≤1+2001 * k∧100≤(defsK b n k).2.site∧(defsK b n k).2.site≤100+40 * k∧(defsK b n k).2.loop=0:=by
 intro k
 induction k with
 | zero=>intro _;simp [defsK]
 | succ k ih =>
  intro hk
  obtain ⟨h1,h2,h3,h4,h5,h6,h6b,h7,h8,h9,h10,h11⟩:=ih (by omega)
  have hb':FxOk (defsK b n k).1:=by unfold FxOk;rw [h1];exact hb
  simp only [defsK]
  generalize hq:defsK b n k=q at *
  have hfr:=fun a id th=>defS_frame q.1 hb' h6 (by omega) a id th
  have hpr:=fun a id th=>defS_par q.1 hb' a id th
  obtain ⟨m,hm⟩:∃ m:Mk,m=if (k:Int)=n - 1 then q.2 else { q.2 with pos:=q.2.pos+1 }:=⟨_,rfl⟩
  have hm1:q.2.pos≤m.pos∧m.pos≤q.2.pos+1∧m.site=q.2.site∧m.loop=q.2.loop:=by
   rw [hm];split
   ·exact ⟨Int.le_refl _,by omega,rfl,rfl⟩
   ·exact ⟨by simp only;omega,Int.le_refl _,rfl,rfl⟩
  rw [← hm]
  have hf:=hfr m (11+k) (isTh b n q.2.pos k)
  have hp:=hpr m (11+k) (isTh b n q.2.pos k)
  generalize defS q.1 m (11+k) (isTh b n q.2.pos k)=D at hf hp ⊢
  refine ⟨h1,h2,h3,by simp [addDef,h4],by simp [addDef,h5],?_,?_,by omega,by omega,by omega,by omega,by omega⟩
  ·intro h hh
   simp only [addDef,List.mem_append,List.mem_singleton] at hh
   rcases hh with hh | rfl
   ·exact h6 h hh
   ·simp only [hdOf];omega
  ·intro h hh
   simp only [addDef,List.mem_append,List.mem_singleton] at hh
   rcases hh with hh | rfl
   ·exact h6b h hh
   ·omega
def isT (d:Df):Bool:=d.params.length+d.given.length == 0
def thrJ (ds:List Df) (j:Nat):List Int:=(((ds.reverse.take j).filter isT).map (·.id)).take 2
theorem thr_all (ds:List Df):thr ds=thrJ ds ds.length:=by
 have:ds.reverse.take ds.length=ds.reverse:=List.take_of_length_le (by simp)
 simp only [thr,thrJ,this];rfl
theorem thr_done {ds:List Df} {j:Nat} (h:2≤(thrJ ds j).length):thr ds=thrJ ds j:=by
 have e:ds.reverse=ds.reverse.take j++ds.reverse.drop j:=(List.take_append_drop j _).symm
 have h2:2≤(((ds.reverse.take j).filter isT).map (·.id)).length:=by
  simp only [thrJ,List.length_take] at h;omega
 have:thr ds=(((ds.reverse.take j++ds.reverse.drop j).filter isT).map (·.id)).take 2:=by rw [← e];rfl
 rw [this,List.filter_append,List.map_append,List.take_append_of_le_length h2];rfl
theorem thr_step {ds:List Df} {j:Nat} {d:Df} (hd:ds.reverse[j]? = some d) (hl:(thrJ ds j).length<2):thrJ ds (j+1)=if isT d then thrJ ds j++[d.id] else thrJ ds j:=by
 have hl':(((ds.reverse.take j).filter isT).map (·.id)).length<2:=by
  simp only [thrJ,List.length_take] at hl;omega
 have e1:thrJ ds j=((ds.reverse.take j).filter isT).map (·.id):=List.take_of_length_le (by omega)
 have e2:ds.reverse.take (j+1)=ds.reverse.take j++[d]:=by rw [List.take_add_one,hd];rfl
 rw [e1]
 simp only [thrJ]
 rw [e2,List.filter_append,List.map_append]
 cases hi:isT d with
 | true=>simp only [List.filter_cons,hi,if_true,List.filter_nil,List.map_cons,List.map_nil];exact List.take_of_length_le (by simp at hl' ⊢;omega)
 | false=>simp only [List.filter_cons,hi,List.filter_nil,List.map_nil,List.append_nil,Bool.false_eq_true,if_false];exact List.take_of_length_le (by omega)
theorem thrJ_len (ds:List Df) (j:Nat):(thrJ ds j).length≤2:=by simp only [thrJ,List.length_take];omega
theorem last_isT {b:List Int} {n:Int} (hn:1≤n):∃ ds d,(defsK b n n.toNat).1.defs=ds++[d]∧isT d=true:=by
 obtain ⟨k,hk⟩:∃ k:Nat,n.toNat=k+1:=⟨n.toNat - 1,by omega⟩
 have hkn:(k:Int)=n - 1:=by omega
 rw [hk]
 simp only [defsK]
 refine ⟨_,_,rfl,?_⟩
 have hth:isTh b n (defsK b n k).2.pos k=true:=decide_eq_true (.inl hkn)
 rw [hth]
 simp [isT,defS,defD,parN,parK]
theorem thr_pos {b:List Int} {n:Int} (hn:1≤n):1≤(thr (defsK b n n.toNat).1.defs).length:=by
 obtain ⟨ds,d,e,hd⟩:=last_isT (b:=b) hn
 rw [e]
 have:(ds++[d]).reverse=d::ds.reverse:=by simp
 simp only [thr,this]
 have hd':(d.params.length+d.given.length == 0)=true:=hd
 simp only [List.filter_cons,hd',if_true,List.map_cons]
 simp
theorem ev_cut1 {o:Own} {xs:List (List D)} (ho:o≠.full) (h:1≤xs.length):evSlice Tryz.prog 32 (.slice o xs) none (some (.int .i64 1)) none=some (.slice .none (xs.take 1)):=by
 have h4:Tryz.prog.underlying 32=some (.slice 3):=by kernel_rfl
 have h5:elemT Tryz.prog 32=some (3,1,8,false):=by kernel_rfl
 unfold evSlice
 rw [h4]
 simp only [h5,evBd]
 simp [ho,h]
theorem mkP (f:Fx) (m:Mk):(((f.cells m).drop 2).take 10).map D.plain1=Pg.cells ⟨f.dc,f.heads,f.defs,f.threads⟩:=rfl
def pz:List D:=[.slice .nil [],.slice .nil [],.slice .nil [],.slice .nil [],.int .i64 0,.int .i64 0,.int .i64 0,.slice .nil [],.slice .nil [],.slice .nil []]
theorem t_made (b:List Int) (hb:∀ x ∈ b,0≤x∧x<256) (s:St):Spec Tryz.prog 74 [.agg [.slice .none (byteCells b)],.bool false] s (.agg (made b).cells) s:=by
 refine Spec.wf fun hW=>?_
 obtain ⟨B,L,c⟩:=s
 have hW0:WfL L c:=⟨hW.nd,hW.lt⟩
 have hr1:=@rnd_nonneg _ 0 4 hb
 have hr2:=@rnd_lt b 0 4 (by omega)
 have hw4:IntKind.i64.wrap (1+rnd b 0 4)=1+rnd b 0 4:=wrap_in (by omega)
 obtain ⟨n,hn⟩:∃ n,n=1+rnd b 0 4:=⟨_,rfl⟩
 have hwn:IntKind.i64.wrap (n - 1)=n - 1:=wrap_in (by omega)
 have hmade:made b=⟨declared,(defsK b n n.toNat).1.heads,(defsK b n n.toNat).1.defs,if rnd b (defsK b n n.toNat).2.pos 3=0 then (thr (defsK b n n.toNat).1.defs).take 1 else thr (defsK b n n.toNat).1.defs⟩:=by
  unfold made;rw [← hn]
 refine Spec.introN [(1,.text [false,false,false,true,false,false,true,false] [(1,1)]),(12,.meet)] Tryz.func74 rfl (by decide) hmix (by kernel_rfl) [ResultVar.cell 4 38] 111 rfl rfl ?_
 simp only [vqM,vt17,zA,zS,zB]
 refine callI_spec (t_declared _) ?_
 simp only [vqM,vt17,zA,zL,zB]
 obtain ⟨B',hB'⟩:∃ B',B'=B++[.cells [.slice .none (byteCells b)],.cells pz]:=⟨_,rfl⟩
 have hlen:B.length+2=B'.length:=by rw [hB'];simp
 have hbx:B++[.cells [.slice .none (byteCells b)],.cells pz,.cells (.slice .none (byteCells b)::.int .i64 0::(declared.cells++[.slice .nil [],.slice .nil [],.slice .nil [],.int .i64 0,.int .i64 0,.str ⟨#[]⟩,.int .i64 0,.int .i64 0,.slice .nil [],.slice .nil [],.int .i64 0,.int .i64 0,.slice .nil [],.int .i64 0,.slice .nil [],.int .i64 100,.int .i64 0,.int .i64 0,.int .i64 0,.bool false]))] =
   B'++.cells (Fx.cells ⟨⟨b,declared,[],[],[],⟨0,0,⟨#[]⟩,0,0,[],[],0,0,[],0,[]⟩⟩,.nil,.nil,.nil,.nil,.nil,.nil,.nil⟩ ⟨0,100,0,0,0⟩)::[]:=by
  rw [hB',List.append_assoc];rfl
 rw [hlen]
 simp only [pz] at hbx
 rw [hbx]
 refine callI_spec (t_next _ _ _ B' _ _ _ (by omega) (by first | omega | (simp only;omega)) hb) ?_
 simp only [vqM,zB,hw4]
 rw [← hn]
 refine awN_keep [4,5,6,7] ?_
 simp only [vke,zB,zA]
 refine awN_forR hmix n.toNat (fun k e s=>e=[Jk,Jk,Jk,Jk,.box (B.length+1) 0,.box B'.length 0,.int .i64 n,.int .i64 (k:Int),Jk,Jk,Jk,Jk,Jk,Jk,Jk,Jk,Jk,Jk,Jk,Jk,Jk,Jk,Jk,Jk,Jk,Jk,Jk,Jk,Jk,Jk,Jk,Jk,Jk,Jk,Jk,Jk,Jk,Jk,Jk,Jk,Jk,Jk,Jk,Jk,Jk,Jk,Jk,Jk,Jk,Jk,Jk,Jk,Jk,Jk,Jk,Jk,Jk,Jk,Jk,Jk,Jk,Jk,Jk,Jk,Jk,Jk,Jk,Jk,Jk,Jk,Jk,Jk,Jk,Jk,Jk,Jk,Jk,Jk,Jk,Jk,Jk,Jk,Jk,Jk,Jk,Jk,Jk,Jk,Jk,Jk,Jk,Jk,Jk,Jk,Jk,Jk,Jk,Jk,Jk,Jk,Jk,Jk,Jk,Jk,Jk,Jk,Jk,Jk,Jk,Jk,Jk]∧∃ (F:Fx) (L':List Nat) (c':Nat),F.toFd=(defsK b n k).1∧F.ot=.nil∧WfL L' c'∧LiveO F.od 12 L'∧LiveO F.oh 5 L'∧Apart F.od F.oh∧c≤c' ∧
  (∀ k ∈ L,k ∈ L')∧(∀ k z,F.od=.lab k z→c≤k)∧(∀ k z,F.oh=.lab k z→c≤k)∧s=⟨B'++.cells (F.cells (defsK b n k).2)::[],L',c'⟩) ?_ ?_ 0 _ _ (Nat.zero_le _) ⟨rfl,_,L,c,rfl,rfl,hW0,.inl rfl,.inl rfl,(fun k z k' z' e=>by cases e),Nat.le_refl _,fun _ h=>h,(fun k z e=>by cases e),(fun k z e=>by cases e),rfl⟩
 ·rintro k e s hk ⟨rfl,F,L',c',i1,i2,i3,i4,i5,i6,i7,i8,i9,i10,rfl⟩ ih
  obtain ⟨h1,h2,h3,h4,h5,h6,h6b,h7,h8,h9,h10,h11⟩:=defsK_inv hb n k (by omega)
  have hkl:((k:Int)<n)=True:=eq_true (by omega)
  have hw11:IntKind.i64.wrap (11+(k:Int))=11+k:=wrap_in (by omega)
  have hbF:FxOk F:=by unfold FxOk;rw [i1,h1];exact hb
  have hnx:defsK b n (k+1)=(addDef (defsK b n k).1 (defS (defsK b n k).1 (if (k:Int)=n - 1 then (defsK b n k).2 else { (defsK b n k).2 with pos:=(defsK b n k).2.pos+1 }) (11+k) (isTh b n (defsK b n k).2.pos k)).1,
   (defS (defsK b n k).1 (if (k:Int)=n - 1 then (defsK b n k).2 else { (defsK b n k).2 with pos:=(defsK b n k).2.pos+1 }) (11+k) (isTh b n (defsK b n k).2.pos k)).2):=rfl
  rw [← i1] at h1 h2 h3 h4 h5 h6 h6b hnx
  generalize (defsK b n k).2=m at h7 h8 h9 h10 h11 hnx ⊢
  by_cases hlast:(k:Int)=n - 1
  ·have hlt:((k:Int)=n - 1)=True:=eq_true hlast
   have hth:isTh b n m.pos k=true:=decide_eq_true (.inl hlast)
   rw [if_pos hlast,hth] at hnx
   obtain ⟨f',L2,c2,j1,j2,j3,j4,j5,j6,j7,j8,j9,j10,hsp⟩:=t_def F m (11+k) true B' [] L' c' hbF h6 (by omega) (by omega) (by omega) (by omega) (by omega) h11 i3 i4 i5 i6
   simp only [vqM,zB,hkl,decide_true,hw11,hwn,hlt]
   refine callI_spec hsp ?_
   simp only [vqM]
   rw [wrap_succ (by omega)]
   refine awN_keep [4,5,6,7] ?_
   simp only [vke,zB,zA]
   refine ih _ _ ⟨rfl,f',L2,c2,?_,by rw [j2,i2],j3,j4,j5,j6,by omega,?_,?_,?_,?_⟩
   ·rw [j1,hnx];rfl
   ·exact fun q hq=>j8 q (i8 q hq) (fun z e=>by have:=i9 _ _ e;have:=hW0.lt q hq;omega) (fun z e=>by have:=i10 _ _ e;have:=hW0.lt q hq;omega)
   ·exact fun q z e=>by have:=j9 _ _ e;omega
   ·exact fun q z e=>by have:=j10 _ _ e;omega
   ·rw [hnx]
  ·have hlt:((k:Int)=n - 1)=False:=eq_false hlast
   have hth:isTh b n m.pos k=decide (rnd b m.pos 5=0):=by unfold isTh;simp [hlast]
   rw [if_neg hlast,hth] at hnx
   simp only [vqM,zB,hkl,decide_true,hw11,hwn,hlt,decide_false]
   refine callI_spec (t_next _ _ _ B' _ _ _ (by omega) (by first | omega | (simp only;omega)) hbF) ?_
   obtain ⟨f',L2,c2,j1,j2,j3,j4,j5,j6,j7,j8,j9,j10,hsp⟩:=t_def F { m with pos:=m.pos+1 } (11+k) (decide (rnd b m.pos 5=0)) B' [] L' c' hbF h6 (by omega) (by omega) (by omega) (by simp only;omega) (by simp only;omega) h11 i3 i4 i5 i6
   simp only [vqM,h1]
   refine callI_spec hsp ?_
   simp only [vqM]
   rw [wrap_succ (by omega)]
   refine awN_keep [4,5,6,7] ?_
   simp only [vke,zB,zA]
   refine ih _ _ ⟨rfl,f',L2,c2,?_,by rw [j2,i2],j3,j4,j5,j6,by omega,?_,?_,?_,?_⟩
   ·rw [j1,hnx];rfl
   ·exact fun q hq=>j8 q (i8 q hq) (fun z e=>by have:=i9 _ _ e;have:=hW0.lt q hq;omega) (fun z e=>by have:=i10 _ _ e;have:=hW0.lt q hq;omega)
   ·exact fun q z e=>by have:=j9 _ _ e;omega
   ·exact fun q z e=>by have:=j10 _ _ e;omega
   ·rw [hnx]
 ·rintro e s ⟨rfl,F,L1,c1,i1,i2,i3,i4,i5,i6,i7,i8,i9,i10,rfl⟩
  have hkl:((n.toNat:Int)<n)=False:=eq_false (by omega)
  simp only [vqM,zB,hkl,decide_false,hwn]
  obtain ⟨h1,h2,h3,h4,h5,h6,h6b,h7,h8,h9,h10,h11⟩:=defsK_inv hb n n.toNat (by omega)
  have htp:=thr_pos (b:=b) (n:=n) (by omega)
  rw [← i1] at h1 h2 h3 h4 h5 h6 h6b htp hmade
  generalize (defsK b n n.toNat).2=m at h7 h8 h9 h10 h11 hmade ⊢
  have hbF:FxOk F:=by unfold FxOk;rw [h1];exact hb
  refine awN_keep [4,5,8] ?_
  simp only [vke,zB,zA]
  refine awN_cut (fun x e s=>x=.exit 2∧∃ y8 y39 y40 y41 y42 y43 y44 y45 y46 y47 y48 y49,e=[Jk,Jk,Jk,Jk,.box (B.length+1) 0,.box B'.length 0,Jk,Jk,y8,Jk,Jk,Jk,Jk,Jk,Jk,Jk,Jk,Jk,Jk,Jk,Jk,Jk,Jk,Jk,Jk,Jk,Jk,Jk,Jk,Jk,Jk,Jk,Jk,Jk,Jk,Jk,Jk,Jk,Jk,y39,y40,y41,y42,y43,y44,y45,y46,y47,y48,y49,Jk,Jk,Jk,Jk,Jk,Jk,Jk,Jk,Jk,Jk,Jk,Jk,Jk,Jk,Jk,Jk,Jk,Jk,Jk,Jk,Jk,Jk,Jk,Jk,Jk,Jk,Jk,Jk,Jk,Jk,Jk,Jk,Jk,Jk,Jk,Jk,Jk,Jk,Jk,Jk,Jk,Jk,Jk,Jk,Jk,Jk,Jk,Jk,Jk,Jk,Jk,Jk,Jk,Jk,Jk,Jk,Jk,Jk,Jk,Jk,Jk]∧∃ (ot:Own) (L2:List Nat) (c2:Nat),ot≠.full∧(∀ k ∈ L,k ∈ L2)∧c≤c2 ∧
   s=⟨B'++.cells (Fx.cells { F with threads:=thr F.defs,ot:=ot } m)::[],L2,c2⟩) ?_ ?_
  ·refine awN_forR hmix n.toNat (fun j e s=>e=[Jk,Jk,Jk,Jk,.box (B.length+1) 0,.box B'.length 0,Jk,Jk,.int .i64 (n - 1 - j),Jk,Jk,Jk,Jk,Jk,Jk,Jk,Jk,Jk,Jk,Jk,Jk,Jk,Jk,Jk,Jk,Jk,Jk,Jk,Jk,Jk,Jk,Jk,Jk,Jk,Jk,Jk,Jk,Jk,Jk,Jk,Jk,Jk,Jk,Jk,Jk,Jk,Jk,Jk,Jk,Jk,Jk,Jk,Jk,Jk,Jk,Jk,Jk,Jk,Jk,Jk,Jk,Jk,Jk,Jk,Jk,Jk,Jk,Jk,Jk,Jk,Jk,Jk,Jk,Jk,Jk,Jk,Jk,Jk,Jk,Jk,Jk,Jk,Jk,Jk,Jk,Jk,Jk,Jk,Jk,Jk,Jk,Jk,Jk,Jk,Jk,Jk,Jk,Jk,Jk,Jk,Jk,Jk,Jk,Jk,Jk,Jk,Jk,Jk,Jk,Jk,Jk]∧∃ (ot:Own) (L2:List Nat) (c2:Nat),WfL L2 c2∧LiveO ot 1 L2∧c≤c2∧(∀ k ∈ L,k ∈ L2)∧(∀ k z,ot=.lab k z→c≤k) ∧
    s=⟨B'++.cells (Fx.cells { F with threads:=thrJ F.defs j,ot:=ot } m)::[],L2,c2⟩) ?_ ?_ 0 _ _ (Nat.zero_le _) ⟨?_,.nil,L1,c1,i3,.inl rfl,i7,i8,(fun k z e=>by cases e),?_⟩
   ·rintro j e s hj ⟨rfl,ot,L2,c2,k1,k2,k3,k4,k5,rfl⟩ ih
    have hjl:((0:Int)≤n - 1 - j)=True:=eq_true (by omega)
    have hnf:ot≠.full:=by rcases k2 with rfl | ⟨q,rfl,_⟩ <;> simp
    have htl:=thrJ_len F.defs j
    by_cases hl:(thrJ F.defs j).length<2
    ·have hlt:(((thrJ F.defs j).length:Int)<2)=True:=eq_true (by omega)
     have hjr:j<F.defs.reverse.length:=by simp [h5];omega
     have hd:F.defs.reverse[j]? = some F.defs.reverse[j]:=List.getElem?_eq_getElem hjr
     have hst:=thr_step hd hl
     have hdd:(dfCells F.defs)[(n - 1 - (j:Int)).toNat]? = some F.defs.reverse[j].cells:=by
      have e:(n - 1 - (j:Int)).toNat=F.defs.length - 1 - j:=by rw [h5];omega
      rw [List.getElem_reverse]
      rw [e];simp only [dfCells,List.getElem?_map]
      rw [List.getElem?_eq_getElem (by omega)];rfl
     have hmem:F.defs.reverse[j] ∈ F.defs:=by have:=List.getElem_mem hjr;simpa using this
     obtain ⟨hpl,hgl⟩:=h6b _ hmem
     generalize F.defs.reverse[j]=d at hd hst hdd hmem hpl hgl
     have hws:IntKind.i64.wrap ((d.params.length:Int)+d.given.length)=d.params.length+d.given.length:=wrap_in (by omega)
     have hwj:IntKind.i64.wrap (n - 1 - (j:Int) - 1)=n - 1 - ((j+1:Nat):Int):=by rw [wrap_in (by omega)];omega
     simp only [vqM,vt17,zA,zB,hjl,decide_true,intCells_len,hlt,hdd,rgCells_len,hws]
     refine ifI_intro (fun hc=>?_) (fun hc=>?_)
     ·have hc':=of_decide_eq_true hc
      have hT:isT d=true:=by simp only [isT,beq_iff_eq];omega
      rw [hT,if_pos rfl] at hst
      have hof:∀ B'',ownFits ot (intCells (thrJ F.defs j)) 1 ⟨B'',L2,c2⟩=true:=fun B''=>k2.fits (intCells_each _) B'' c2
      have hl1:((thrJ F.defs j).length+1≤1000000)=True:=eq_true (by omega)
      simp only [vqM,vt17,zA,zM,zL,zB,hjl,hdd,hof,relab_eq,intCells_len,hl1,intCells_app,vsMw,hwj]
      refine awN_keep [4,5,8] ?_
      simp only [vke,zB,zA]
      refine ih _ _ ⟨rfl,.lab c2 1,c2::eraseO L2 ot,c2+1,k1.relab ot,.inr ⟨c2,rfl,by simp⟩,by omega,fun q hq=>List.mem_cons_of_mem _ (eraseO_mem (k4 q hq) (fun z e=>by have:=k5 _ _ e;have:=hW0.lt q hq;omega)),(fun k z e=>by cases e;omega),?_⟩
      rw [hst]
     ·have hc':=of_decide_eq_false hc
      have hT:isT d=false:=by simp only [isT,beq_eq_false_iff_ne,ne_eq];omega
      rw [hT] at hst
      simp only [Bool.false_eq_true,if_false] at hst
      simp only [vqM,hwj]
      refine awN_keep [4,5,8] ?_
      simp only [vke,zB,zA]
      refine ih _ _ ⟨rfl,ot,L2,c2,k1,k2,k3,k4,k5,?_⟩
      rw [hst]
    ·have hlt:(((thrJ F.defs j).length:Int)<2)=False:=eq_false (by omega)
     simp only [vqM,vt17,zA,zB,hjl,decide_true,intCells_len,hlt,decide_false]
     refine cut_intro ⟨rfl,_,_,_,_,_,_,_,_,_,_,_,_,rfl,ot,L2,c2,hnf,k4,k3,?_⟩
     rw [thr_done (ds:=F.defs) (j:=j) (by omega)]
   ·rintro e s ⟨rfl,ot,L2,c2,k1,k2,k3,k4,k5,rfl⟩
    have hnf:ot≠.full:=by rcases k2 with rfl | ⟨q,rfl,_⟩ <;> simp
    have hjl:((0:Int)≤n - 1 - (n.toNat:Int))=False:=eq_false (by omega)
    simp only [vqM,zB,hjl,decide_false]
    refine cut_intro ⟨rfl,_,_,_,_,_,_,_,_,_,_,_,_,rfl,ot,L2,c2,hnf,k4,k3,?_⟩
    rw [thr_all,h5]
   ·simp only [Int.natCast_zero,Int.sub_zero]
   ·simp only [thrJ,List.take_zero,List.filter_nil,List.map_nil,List.take_nil]
    rw [← i2,← h3]
  rintro x e s ⟨rfl,y8,y39,y40,y41,y42,y43,y44,y45,y46,y47,y48,y49,rfl,ot,L2,c2,hnf,k4,k3,rfl⟩
  simp only [vqM,zB]
  have k4s:=And.intro k4 k3
  refine seq_join hmix [4,5] [Jk,Jk,Jk,Jk,.box (B.length+1) 0,.box B'.length 0,Jk,Jk,Jk,Jk,Jk,Jk,Jk,Jk,Jk,Jk,Jk,Jk,Jk,Jk,Jk,Jk,Jk,Jk,Jk,Jk,Jk,Jk,Jk,Jk,Jk,Jk,Jk,Jk,Jk,Jk,Jk,Jk,Jk,Jk,Jk,Jk,Jk,Jk,Jk,Jk,Jk,Jk,Jk,Jk,Jk,Jk,Jk,Jk,Jk,Jk,Jk,Jk,Jk,Jk,Jk,Jk,Jk,Jk,Jk,Jk,Jk,Jk,Jk,Jk,Jk,Jk,Jk,Jk,Jk,Jk,Jk,Jk,Jk,Jk,Jk,Jk,Jk,Jk,Jk,Jk,Jk,Jk,Jk,Jk,Jk,Jk,Jk,Jk,Jk,Jk,Jk,Jk,Jk,Jk,Jk,Jk,Jk,Jk,Jk,Jk,Jk,Jk,Jk,Jk,Jk] (fun s=>∃ (ot:Own) (m:Mk),s=⟨B'++.cells (Fx.cells { F with threads:=(made b).threads,ot:=ot } m)::[],L2,c2⟩) ?_ ?_
  ·simp only [vqM,zB]
   refine callI_spec (t_next _ _ _ B' _ _ _ (by omega) (by first | omega | (simp only;omega)) hbF) ?_
   simp only [vqM,h1]
   refine ifI_intro (fun hc=>?_) (fun hc=>?_)
   ·have hc':=of_decide_eq_true hc
    have hev:=ev_cut1 (o:=ot) (xs:=intCells (thr F.defs)) hnf (by rw [intCells_len];exact htp)
    have hev2:(intCells (thr F.defs)).take 1=intCells ((thr F.defs).take 1):=by simp [intCells,List.map_take]
    rw [hev2] at hev
    simp only [vqM,vt17,zA,zL,hev,vsMw]
    refine meet_intro ⟨?_,.none,{ m with pos:=m.pos+1 },?_⟩
    ·simp only [vke,zB,zA]
    ·rw [hmade];simp only [hc',if_true]
   ·have hc':=of_decide_eq_false hc
    simp only [vqM]
    refine meet_intro ⟨?_,ot,{ m with pos:=m.pos+1 },?_⟩
    ·simp only [vke,zB,zA]
    ·rw [hmade];simp only [hc',if_false]
  ·rintro s ⟨ot,m,rfl⟩
   simp only [vqM,vt17,zA,zS,zL,zB,mkP]
   rw [hB',List.append_assoc]
   simp only [vqM,zA,pz]
   refine ret_loc (.inr rfl) ?_ (bd_agg (Pg.bd _)) k4s.1 k4s.2
   simp only [vqM,vt17]
   rw [hmade,h2]
theorem t_Made (b:List Int) (hb:∀ x ∈ b,0≤x∧x<256) (s:St):Spec Tryz.prog 31 [.agg [.slice .none (byteCells b)]] s (.agg (made b).cells) s:=by
 obtain ⟨B,L,c⟩:=s
 refine Spec.introN [] Tryz.func31 rfl (by decide) hmix (by kernel_rfl) [ResultVar.cell 2 38] 5 rfl rfl ?_
 simp only [vqM,vt18,zA,zS]
 refine callI_spec (t_made b hb _) ?_
 simp only [vqM,vt18,zA]
 refine ret_loc (.inr rfl) ?_ (bd_agg (Pg.bd _)) (fun _ h=>h) (Nat.le_refl _)
 simp only [vqM,vt18]
set_option maxHeartbeats 1000000
theorem quCells_len (l:List Qu):(quCells l).length=l.length:=by simp [quCells]
theorem exCells_len (l:List Ex):(Ex.encs l).length=l.length:=by simp [Ex.encs_map]
theorem smCells_len (l:List Sm):(Sm.encs l).length=l.length:=by simp [Sm.encs_map]
theorem coCells_len (l:List Co):(Co.encs l).length=l.length:=by simp [Co.encs_map]
theorem natle0 {k:Nat}:(0≤(k:Int))=True:=by simp
def idxP {α:Type} (p:α→Bool) (l:List α):Int:=match l.findIdx? p with
 | some k=>k
 | none=>-1
theorem idxP_at {α:Type} {p:α→Bool} {l:List α} {k:Nat} (hk:k<l.length) (h:p l[k]=true) (hI:∀ j (h:j<l.length),j<k→p l[j]=false):idxP p l=k:=by
 have:l.findIdx? p=some k:=by
  rw [List.findIdx?_eq_some_iff_getElem]
  exact ⟨hk,h,fun j hj=>by simp [hI j (by omega) hj]⟩
 simp [idxP,this]
theorem idxP_none {α:Type} {p:α→Bool} {l:List α} (hI:∀ j (h:j<l.length),j<l.length→p l[j]=false):idxP p l = -1:=by
 have:l.findIdx? p=none:=by
  rw [List.findIdx?_eq_none_iff]
  intro x hx
  obtain ⟨j,hj,rfl⟩:=List.getElem_of_mem hx
  simp [hI j hj hj]
 simp [idxP,this]
theorem idxP_any {α:Type} {p:α→Bool} {l:List α}:decide (0≤idxP p l)=l.any p:=by
 unfold idxP
 cases h:l.findIdx? p with
 | none =>
  rw [List.findIdx?_eq_none_iff] at h
  have:l.any p=false:=by rw [List.any_eq_false];intro x hx;simp [h x hx]
  rw [this];rfl
 | some k =>
  rw [List.findIdx?_eq_some_iff_getElem] at h
  obtain ⟨hk,h1,_⟩:=h
  have:l.any p=true:=List.any_eq_true.2 ⟨_,List.getElem_mem hk,h1⟩
  rw [this];simp
def inB (n a b:Int):Bool:=decide (a≤n) && decide (n≤b)
def everyB {α:Type} (l:List α) (most:Int) (p:α→Bool):Bool:=decide ((l.length:Int)≤most) && l.all p
theorem any_not {α:Type} (l:List α) (p:α→Bool):(!l.any fun x=>!p x)=l.all p:=by
 induction l with
 | nil=>rfl
 | cons x l ih=>simp only [List.any_cons,List.all_cons,Bool.not_or,ih,Bool.not_not]
theorem t_idxRg (f:D) (p:Rg→Bool) (l:List Rg) (s:St) (hp:∀ x ∈ l,CallV Tryz.prog f [.agg x.cells] s (.bool (p x)) s) :
  Spec Tryz.prog 218 [.slice .none (rgCells l),f] s (.int .i64 (idxP p l)) s:=by
 refine Spec.small fun hsm=>?_
 have hlen:=(hsm _ (.head _)).len
 rw [rgCells_len] at hlen
 refine Spec.introN [] Tryz.func218 rfl (by decide) hmix (by kernel_rfl) [ResultVar.tmp 4] 19 rfl rfl ?_
 simp only [vqM,vt19,zA,zS,rgCells_len]
 refine awN_keep [0,1,7,8] ?_
 simp only [vke,zB,zA]
 refine awN_for hmix l.length (fun k=>[.slice .none (rgCells l),f,Jk,Jk,Jk,Jk,Jk,.int .i64 l.length,.int .i64 (k:Int),Jk,Jk,Jk,Jk,Jk,Jk,Jk,Jk,Jk,Jk]) (fun _=>s) (fun k=>∀ j (h:j<l.length),j<k→p l[j]=false) ?_ ?_ 0 (Nat.zero_le _) (by intro j _ h;omega)
 ·intro k hk hI ih
  have hx:l[k]? = some l[k]:=List.getElem?_eq_getElem hk
  have hg:(rgCells l)[k]? = some (l[k].cells):=by simp [rgCells,hx]
  have hklt:((k:Int)<(l.length:Int))=True:=by simp;exact hk
  simp only [vqM,vt19,hklt,decide_true,natle0,Int.toNat_natCast,hg]
  refine callI_of (hp _ (List.getElem_mem hk)) ?_
  simp only [vqM]
  refine ifI_intro (fun hc=>?_) (fun hc=>?_)
  ·simp only [vqM]
   refine ret_here (.inr rfl) ?_ (.int _ _)
   simp only [vqM]
   rw [idxP_at hk hc hI]
  ·simp only [vqM]
   rw [wrap_succ (by omega)]
   refine awN_keep [0,1,7,8] ?_
   simp only [vke,zB,zA]
   refine ih fun j hj hjk=>?_
   by_cases e:j=k
   ·subst e;exact hc
   ·exact hI j hj (by omega)
 ·intro hI
  have hklt:((l.length:Int)<(l.length:Int))=False:=by simp
  simp only [vqM,hklt,decide_false]
  refine ret_here (.inr rfl) ?_ (.int _ _)
  simp only [vqM]
  rw [idxP_none hI]
theorem t_conRg (f:D) (hfp:f.plain=f) (p:Rg→Bool) (l:List Rg) (s:St) (hp:∀ x ∈ l,CallV Tryz.prog f [.agg x.cells] s (.bool (p x)) s) :
  Spec Tryz.prog 160 [.slice .none (rgCells l),f] s (.bool (l.any p)) s:=by
 refine Spec.introN [] Tryz.func160 rfl (by decide) hmix (by kernel_rfl) [ResultVar.tmp 4] 9 rfl rfl ?_
 simp only [vqM,zA,zS,hfp]
 refine callI_spec (t_idxRg f p l _ hp) ?_
 simp only [vqM]
 refine ret_here (.inr rfl) ?_ (.bool _)
 simp only [vqM]
 rw [← idxP_any]
theorem t_everyRg1 (f:D) (b:Nat) (r:Bool) (x:Rg) (B:List Box) (L:List Nat) (c:Nat) (hb:B[b]? = some (.cells [f])) (hp:∀ X,CallV Tryz.prog f [.agg x.cells] ⟨B++X,L,c⟩ (.bool r) ⟨B++X,L,c⟩) :
  Spec Tryz.prog 161 [.agg x.cells,.box b 0] ⟨B,L,c⟩ (.bool (!r)) ⟨B,L,c⟩:=by
 have hb2:∀ X,(B++X)[b]? = some (.cells [f]):=fun X=>box_lt hb
 refine Spec.introN [] Tryz.func161 rfl (by decide) hmix (by kernel_rfl) [ResultVar.tmp 3] 8 rfl rfl ?_
 simp only [vqM,vt20,zA,zS,hb2]
 refine callI_of (by first | exact hp _ | simpa using hp []) ?_
 simp only [vqM]
 refine ret_loc (.inr rfl) ?_ (.bool _) (fun _ h=>h) (Nat.le_refl _)
 simp only [vqM]
theorem t_everyRg (f:D) (p:Rg→Bool) (l:List Rg) (m:Int) (B:List Box) (L:List Nat) (c:Nat) (hf:cellsD f=some [f]) (hfp:f.plain=f) (hfp1:f.plain1=f) (hp:∀ x ∈ l,∀ X,CallV Tryz.prog f [.agg x.cells] ⟨B++X,L,c⟩ (.bool (p x)) ⟨B++X,L,c⟩) :
  Spec Tryz.prog 112 [.slice .none (rgCells l),.int .i64 m,f] ⟨B,L,c⟩ (.bool (everyB l m p)) ⟨B,L,c⟩:=by
 refine Spec.introN [] Tryz.func112 rfl (by decide) hmix (by kernel_rfl) [ResultVar.tmp 6] 17 rfl rfl ?_
 simp only [vqM,vt21,zA,zS,hf,rgCells_len]
 refine ifI_intro (fun hc=>?_) (fun hc=>?_)
 ·simp only [vqM,hc]
  refine callI_spec (t_conRg (.func (.func 161) [] [.box B.length 0]) rfl (fun x=>!p x) l ⟨B++[.cells [f]],L,c⟩ fun x hx=>?_) ?_
  ·refine (show CallVQ _ _ _ _ _ from ?_)
   simp only [CallVQ,List.nil_append,List.cons_append]
   exact t_everyRg1 f B.length (p x) x (B++[.cells [f]]) L c (by rw [box_at0];rfl) fun X=>by rw [List.append_assoc];exact hp x hx _
  ·simp only [vqM]
   refine ret_loc (.inr rfl) ?_ (.bool _) (fun _ h=>h) (Nat.le_refl _)
   simp only [vqM]
   rw [any_not];simp [everyB,hc]
 ·simp only [vqM,hc]
  refine ret_loc (.inr rfl) ?_ (.bool _) (fun _ h=>h) (Nat.le_refl _)
  simp only [vqM]
  simp [everyB,hc]
theorem t_idxQu (f:D) (p:Qu→Bool) (l:List Qu) (s:St) (hp:∀ x ∈ l,CallV Tryz.prog f [.agg x.cells] s (.bool (p x)) s) :
  Spec Tryz.prog 219 [.slice .none (quCells l),f] s (.int .i64 (idxP p l)) s:=by
 refine Spec.small fun hsm=>?_
 have hlen:=(hsm _ (.head _)).len
 rw [quCells_len] at hlen
 refine Spec.introN [] Tryz.func219 rfl (by decide) hmix (by kernel_rfl) [ResultVar.tmp 4] 19 rfl rfl ?_
 simp only [vqM,vt22,zA,zS,quCells_len]
 refine awN_keep [0,1,7,8] ?_
 simp only [vke,zB,zA]
 refine awN_for hmix l.length (fun k=>[.slice .none (quCells l),f,Jk,Jk,Jk,Jk,Jk,.int .i64 l.length,.int .i64 (k:Int),Jk,Jk,Jk,Jk,Jk,Jk,Jk,Jk,Jk,Jk]) (fun _=>s) (fun k=>∀ j (h:j<l.length),j<k→p l[j]=false) ?_ ?_ 0 (Nat.zero_le _) (by intro j _ h;omega)
 ·intro k hk hI ih
  have hx:l[k]? = some l[k]:=List.getElem?_eq_getElem hk
  have hg:(quCells l)[k]? = some (l[k].cells):=by simp [quCells,hx]
  have hklt:((k:Int)<(l.length:Int))=True:=by simp;exact hk
  simp only [vqM,vt22,hklt,decide_true,natle0,Int.toNat_natCast,hg]
  refine callI_of (hp _ (List.getElem_mem hk)) ?_
  simp only [vqM]
  refine ifI_intro (fun hc=>?_) (fun hc=>?_)
  ·simp only [vqM]
   refine ret_here (.inr rfl) ?_ (.int _ _)
   simp only [vqM]
   rw [idxP_at hk hc hI]
  ·simp only [vqM]
   rw [wrap_succ (by omega)]
   refine awN_keep [0,1,7,8] ?_
   simp only [vke,zB,zA]
   refine ih fun j hj hjk=>?_
   by_cases e:j=k
   ·subst e;exact hc
   ·exact hI j hj (by omega)
 ·intro hI
  have hklt:((l.length:Int)<(l.length:Int))=False:=by simp
  simp only [vqM,hklt,decide_false]
  refine ret_here (.inr rfl) ?_ (.int _ _)
  simp only [vqM]
  rw [idxP_none hI]
theorem t_conQu (f:D) (hfp:f.plain=f) (p:Qu→Bool) (l:List Qu) (s:St) (hp:∀ x ∈ l,CallV Tryz.prog f [.agg x.cells] s (.bool (p x)) s) :
  Spec Tryz.prog 162 [.slice .none (quCells l),f] s (.bool (l.any p)) s:=by
 refine Spec.introN [] Tryz.func162 rfl (by decide) hmix (by kernel_rfl) [ResultVar.tmp 4] 9 rfl rfl ?_
 simp only [vqM,zA,zS,hfp]
 refine callI_spec (t_idxQu f p l _ hp) ?_
 simp only [vqM]
 refine ret_here (.inr rfl) ?_ (.bool _)
 simp only [vqM]
 rw [← idxP_any]
theorem t_everyQu1 (f:D) (b:Nat) (r:Bool) (x:Qu) (B:List Box) (L:List Nat) (c:Nat) (hb:B[b]? = some (.cells [f])) (hp:∀ X,CallV Tryz.prog f [.agg x.cells] ⟨B++X,L,c⟩ (.bool r) ⟨B++X,L,c⟩) :
  Spec Tryz.prog 163 [.agg x.cells,.box b 0] ⟨B,L,c⟩ (.bool (!r)) ⟨B,L,c⟩:=by
 have hb2:∀ X,(B++X)[b]? = some (.cells [f]):=fun X=>box_lt hb
 refine Spec.introN [] Tryz.func163 rfl (by decide) hmix (by kernel_rfl) [ResultVar.tmp 3] 8 rfl rfl ?_
 simp only [vqM,vt23,zA,zS,hb2]
 refine callI_of (by first | exact hp _ | simpa using hp []) ?_
 simp only [vqM]
 refine ret_loc (.inr rfl) ?_ (.bool _) (fun _ h=>h) (Nat.le_refl _)
 simp only [vqM]
theorem t_everyQu (f:D) (p:Qu→Bool) (l:List Qu) (m:Int) (B:List Box) (L:List Nat) (c:Nat) (hf:cellsD f=some [f]) (hfp:f.plain=f) (hfp1:f.plain1=f) (hp:∀ x ∈ l,∀ X,CallV Tryz.prog f [.agg x.cells] ⟨B++X,L,c⟩ (.bool (p x)) ⟨B++X,L,c⟩) :
  Spec Tryz.prog 113 [.slice .none (quCells l),.int .i64 m,f] ⟨B,L,c⟩ (.bool (everyB l m p)) ⟨B,L,c⟩:=by
 refine Spec.introN [] Tryz.func113 rfl (by decide) hmix (by kernel_rfl) [ResultVar.tmp 6] 17 rfl rfl ?_
 simp only [vqM,vt24,zA,zS,hf,quCells_len]
 refine ifI_intro (fun hc=>?_) (fun hc=>?_)
 ·simp only [vqM,hc]
  refine callI_spec (t_conQu (.func (.func 163) [] [.box B.length 0]) rfl (fun x=>!p x) l ⟨B++[.cells [f]],L,c⟩ fun x hx=>?_) ?_
  ·refine (show CallVQ _ _ _ _ _ from ?_)
   simp only [CallVQ,List.nil_append,List.cons_append]
   exact t_everyQu1 f B.length (p x) x (B++[.cells [f]]) L c (by rw [box_at0];rfl) fun X=>by rw [List.append_assoc];exact hp x hx _
  ·simp only [vqM]
   refine ret_loc (.inr rfl) ?_ (.bool _) (fun _ h=>h) (Nat.le_refl _)
   simp only [vqM]
   rw [any_not];simp [everyB,hc]
 ·simp only [vqM,hc]
  refine ret_loc (.inr rfl) ?_ (.bool _) (fun _ h=>h) (Nat.le_refl _)
  simp only [vqM]
  simp [everyB,hc]
theorem t_idxInt (f:D) (p:Int→Bool) (l:List Int) (s:St) (hp:∀ x ∈ l,CallV Tryz.prog f [.int .i64 x] s (.bool (p x)) s) :
  Spec Tryz.prog 169 [.slice .none (intCells l),f] s (.int .i64 (idxP p l)) s:=by
 refine Spec.small fun hsm=>?_
 have hlen:=(hsm _ (.head _)).len
 rw [intCells_len] at hlen
 refine Spec.introN [] Tryz.func169 rfl (by decide) hmix (by kernel_rfl) [ResultVar.tmp 4] 19 rfl rfl ?_
 simp only [vqM,vt25,zA,zS,intCells_len]
 refine awN_keep [0,1,7,8] ?_
 simp only [vke,zB,zA]
 refine awN_for hmix l.length (fun k=>[.slice .none (intCells l),f,Jk,Jk,Jk,Jk,Jk,.int .i64 l.length,.int .i64 (k:Int),Jk,Jk,Jk,Jk,Jk,Jk,Jk,Jk,Jk,Jk]) (fun _=>s) (fun k=>∀ j (h:j<l.length),j<k→p l[j]=false) ?_ ?_ 0 (Nat.zero_le _) (by intro j _ h;omega)
 ·intro k hk hI ih
  have hx:l[k]? = some l[k]:=List.getElem?_eq_getElem hk
  have hg:(intCells l)[k]? = some ([.int .i64 l[k]]):=by simp [intCells,hx]
  have hklt:((k:Int)<(l.length:Int))=True:=by simp;exact hk
  simp only [vqM,vt25,zA,hklt,decide_true,natle0,Int.toNat_natCast,hg]
  refine callI_of (hp _ (List.getElem_mem hk)) ?_
  simp only [vqM]
  refine ifI_intro (fun hc=>?_) (fun hc=>?_)
  ·simp only [vqM]
   refine ret_here (.inr rfl) ?_ (.int _ _)
   simp only [vqM]
   rw [idxP_at hk hc hI]
  ·simp only [vqM]
   rw [wrap_succ (by omega)]
   refine awN_keep [0,1,7,8] ?_
   simp only [vke,zB,zA]
   refine ih fun j hj hjk=>?_
   by_cases e:j=k
   ·subst e;exact hc
   ·exact hI j hj (by omega)
 ·intro hI
  have hklt:((l.length:Int)<(l.length:Int))=False:=by simp
  simp only [vqM,hklt,decide_false]
  refine ret_here (.inr rfl) ?_ (.int _ _)
  simp only [vqM]
  rw [idxP_none hI]
theorem t_conInt (f:D) (hfp:f.plain=f) (p:Int→Bool) (l:List Int) (s:St) (hp:∀ x ∈ l,CallV Tryz.prog f [.int .i64 x] s (.bool (p x)) s) :
  Spec Tryz.prog 120 [.slice .none (intCells l),f] s (.bool (l.any p)) s:=by
 refine Spec.introN [] Tryz.func120 rfl (by decide) hmix (by kernel_rfl) [ResultVar.tmp 4] 9 rfl rfl ?_
 simp only [vqM,zA,zS,hfp]
 refine callI_spec (t_idxInt f p l _ hp) ?_
 simp only [vqM]
 refine ret_here (.inr rfl) ?_ (.bool _)
 simp only [vqM]
 rw [← idxP_any]
theorem t_everyInt1 (f:D) (b:Nat) (r:Bool) (x:Int) (B:List Box) (L:List Nat) (c:Nat) (hb:B[b]? = some (.cells [f])) (hp:∀ X,CallV Tryz.prog f [.int .i64 x] ⟨B++X,L,c⟩ (.bool r) ⟨B++X,L,c⟩) :
  Spec Tryz.prog 164 [.int .i64 x,.box b 0] ⟨B,L,c⟩ (.bool (!r)) ⟨B,L,c⟩:=by
 have hb2:∀ X,(B++X)[b]? = some (.cells [f]):=fun X=>box_lt hb
 refine Spec.introN [] Tryz.func164 rfl (by decide) hmix (by kernel_rfl) [ResultVar.tmp 3] 8 rfl rfl ?_
 simp only [vqM,vt26,zA,zS,hb]
 refine callI_of (by first | exact hp _ | simpa using hp []) ?_
 simp only [vqM]
 refine ret_here (.inr rfl) ?_ (.bool _)
 simp only [vqM]
theorem t_everyInt (f:D) (p:Int→Bool) (l:List Int) (m:Int) (B:List Box) (L:List Nat) (c:Nat) (hf:cellsD f=some [f]) (hfp:f.plain=f) (hfp1:f.plain1=f) (hp:∀ x ∈ l,∀ X,CallV Tryz.prog f [.int .i64 x] ⟨B++X,L,c⟩ (.bool (p x)) ⟨B++X,L,c⟩) :
  Spec Tryz.prog 114 [.slice .none (intCells l),.int .i64 m,f] ⟨B,L,c⟩ (.bool (everyB l m p)) ⟨B,L,c⟩:=by
 refine Spec.introN [] Tryz.func114 rfl (by decide) hmix (by kernel_rfl) [ResultVar.tmp 6] 17 rfl rfl ?_
 simp only [vqM,vt27,zA,zS,hf,intCells_len]
 refine ifI_intro (fun hc=>?_) (fun hc=>?_)
 ·simp only [vqM,hc]
  refine callI_spec (t_conInt (.func (.func 164) [] [.box B.length 0]) rfl (fun x=>!p x) l ⟨B++[.cells [f]],L,c⟩ fun x hx=>?_) ?_
  ·refine (show CallVQ _ _ _ _ _ from ?_)
   simp only [CallVQ,List.nil_append,List.cons_append]
   exact t_everyInt1 f B.length (p x) x (B++[.cells [f]]) L c (by rw [box_at0];rfl) fun X=>by rw [List.append_assoc];exact hp x hx _
  ·simp only [vqM]
   refine ret_loc (.inr rfl) ?_ (.bool _) (fun _ h=>h) (Nat.le_refl _)
   simp only [vqM]
   rw [any_not];simp [everyB,hc]
 ·simp only [vqM,hc]
  refine ret_loc (.inr rfl) ?_ (.bool _) (fun _ h=>h) (Nat.le_refl _)
  simp only [vqM]
  simp [everyB,hc]
theorem t_idxAr (f:D) (p:Ar→Bool) (l:List Ar) (s:St) (hp:∀ x ∈ l,CallV Tryz.prog f [.agg x.cells] s (.bool (p x)) s) :
  Spec Tryz.prog 231 [.slice .none (arCells l),f] s (.int .i64 (idxP p l)) s:=by
 refine Spec.small fun hsm=>?_
 have hlen:=(hsm _ (.head _)).len
 rw [arCells_len] at hlen
 refine Spec.introN [] Tryz.func231 rfl (by decide) hmix (by kernel_rfl) [ResultVar.tmp 4] 19 rfl rfl ?_
 simp only [vqM,vt28,zA,zS,arCells_len]
 refine awN_keep [0,1,7,8] ?_
 simp only [vke,zB,zA]
 refine awN_for hmix l.length (fun k=>[.slice .none (arCells l),f,Jk,Jk,Jk,Jk,Jk,.int .i64 l.length,.int .i64 (k:Int),Jk,Jk,Jk,Jk,Jk,Jk,Jk,Jk,Jk,Jk]) (fun _=>s) (fun k=>∀ j (h:j<l.length),j<k→p l[j]=false) ?_ ?_ 0 (Nat.zero_le _) (by intro j _ h;omega)
 ·intro k hk hI ih
  have hx:l[k]? = some l[k]:=List.getElem?_eq_getElem hk
  have hg:(arCells l)[k]? = some (l[k].cells):=by simp [arCells,hx]
  have hklt:((k:Int)<(l.length:Int))=True:=by simp;exact hk
  simp only [vqM,vt28,hklt,decide_true,natle0,Int.toNat_natCast,hg]
  refine callI_of (hp _ (List.getElem_mem hk)) ?_
  simp only [vqM]
  refine ifI_intro (fun hc=>?_) (fun hc=>?_)
  ·simp only [vqM]
   refine ret_here (.inr rfl) ?_ (.int _ _)
   simp only [vqM]
   rw [idxP_at hk hc hI]
  ·simp only [vqM]
   rw [wrap_succ (by omega)]
   refine awN_keep [0,1,7,8] ?_
   simp only [vke,zB,zA]
   refine ih fun j hj hjk=>?_
   by_cases e:j=k
   ·subst e;exact hc
   ·exact hI j hj (by omega)
 ·intro hI
  have hklt:((l.length:Int)<(l.length:Int))=False:=by simp
  simp only [vqM,hklt,decide_false]
  refine ret_here (.inr rfl) ?_ (.int _ _)
  simp only [vqM]
  rw [idxP_none hI]
theorem t_conAr (f:D) (hfp:f.plain=f) (p:Ar→Bool) (l:List Ar) (s:St) (hp:∀ x ∈ l,CallV Tryz.prog f [.agg x.cells] s (.bool (p x)) s) :
  Spec Tryz.prog 185 [.slice .none (arCells l),f] s (.bool (l.any p)) s:=by
 refine Spec.introN [] Tryz.func185 rfl (by decide) hmix (by kernel_rfl) [ResultVar.tmp 4] 9 rfl rfl ?_
 simp only [vqM,zA,zS,hfp]
 refine callI_spec (t_idxAr f p l _ hp) ?_
 simp only [vqM]
 refine ret_here (.inr rfl) ?_ (.bool _)
 simp only [vqM]
 rw [← idxP_any]
theorem t_everyAr1 (f:D) (b:Nat) (r:Bool) (x:Ar) (B:List Box) (L:List Nat) (c:Nat) (hb:B[b]? = some (.cells [f])) (hp:∀ X,CallV Tryz.prog f [.agg x.cells] ⟨B++X,L,c⟩ (.bool r) ⟨B++X,L,c⟩) :
  Spec Tryz.prog 186 [.agg x.cells,.box b 0] ⟨B,L,c⟩ (.bool (!r)) ⟨B,L,c⟩:=by
 have hb2:∀ X,(B++X)[b]? = some (.cells [f]):=fun X=>box_lt hb
 refine Spec.introN [] Tryz.func186 rfl (by decide) hmix (by kernel_rfl) [ResultVar.tmp 3] 8 rfl rfl ?_
 simp only [vqM,vt29,zA,zS,hb2]
 refine callI_of (by first | exact hp _ | simpa using hp []) ?_
 simp only [vqM]
 refine ret_loc (.inr rfl) ?_ (.bool _) (fun _ h=>h) (Nat.le_refl _)
 simp only [vqM]
theorem t_everyAr (f:D) (p:Ar→Bool) (l:List Ar) (m:Int) (B:List Box) (L:List Nat) (c:Nat) (hf:cellsD f=some [f]) (hfp:f.plain=f) (hfp1:f.plain1=f) (hp:∀ x ∈ l,∀ X,CallV Tryz.prog f [.agg x.cells] ⟨B++X,L,c⟩ (.bool (p x)) ⟨B++X,L,c⟩) :
  Spec Tryz.prog 134 [.slice .none (arCells l),.int .i64 m,f] ⟨B,L,c⟩ (.bool (everyB l m p)) ⟨B,L,c⟩:=by
 refine Spec.introN [] Tryz.func134 rfl (by decide) hmix (by kernel_rfl) [ResultVar.tmp 6] 17 rfl rfl ?_
 simp only [vqM,vt30,zA,zS,hf,arCells_len]
 refine ifI_intro (fun hc=>?_) (fun hc=>?_)
 ·simp only [vqM,hc]
  refine callI_spec (t_conAr (.func (.func 186) [] [.box B.length 0]) rfl (fun x=>!p x) l ⟨B++[.cells [f]],L,c⟩ fun x hx=>?_) ?_
  ·refine (show CallVQ _ _ _ _ _ from ?_)
   simp only [CallVQ,List.nil_append,List.cons_append]
   exact t_everyAr1 f B.length (p x) x (B++[.cells [f]]) L c (by rw [box_at0];rfl) fun X=>by rw [List.append_assoc];exact hp x hx _
  ·simp only [vqM]
   refine ret_loc (.inr rfl) ?_ (.bool _) (fun _ h=>h) (Nat.le_refl _)
   simp only [vqM]
   rw [any_not];simp [everyB,hc]
 ·simp only [vqM,hc]
  refine ret_loc (.inr rfl) ?_ (.bool _) (fun _ h=>h) (Nat.le_refl _)
  simp only [vqM]
  simp [everyB,hc]
theorem t_idxEx (f:D) (p:Ex→Bool) (l:List Ex) (s:St) (hp:∀ x ∈ l,CallV Tryz.prog f [.agg x.cells] s (.bool (p x)) s) :
  Spec Tryz.prog 276 [.slice .none (Ex.encs l),f] s (.int .i64 (idxP p l)) s:=by
 refine Spec.small fun hsm=>?_
 have hlen:=(hsm _ (.head _)).len
 rw [exCells_len] at hlen
 refine Spec.introN [] Tryz.func276 rfl (by decide) hmix (by kernel_rfl) [ResultVar.tmp 4] 19 rfl rfl ?_
 simp only [vqM,vt31,zA,zS,exCells_len]
 refine awN_keep [0,1,7,8] ?_
 simp only [vke,zB,zA]
 refine awN_for hmix l.length (fun k=>[.slice .none (Ex.encs l),f,Jk,Jk,Jk,Jk,Jk,.int .i64 l.length,.int .i64 (k:Int),Jk,Jk,Jk,Jk,Jk,Jk,Jk,Jk,Jk,Jk]) (fun _=>s) (fun k=>∀ j (h:j<l.length),j<k→p l[j]=false) ?_ ?_ 0 (Nat.zero_le _) (by intro j _ h;omega)
 ·intro k hk hI ih
  have hx:l[k]? = some l[k]:=List.getElem?_eq_getElem hk
  have hg:(Ex.encs l)[k]? = some (l[k].cells):=by simp [Ex.encs_map,hx]
  have hklt:((k:Int)<(l.length:Int))=True:=by simp;exact hk
  simp only [vqM,vt31,hklt,decide_true,natle0,Int.toNat_natCast,hg]
  refine callI_of (hp _ (List.getElem_mem hk)) ?_
  simp only [vqM]
  refine ifI_intro (fun hc=>?_) (fun hc=>?_)
  ·simp only [vqM]
   refine ret_here (.inr rfl) ?_ (.int _ _)
   simp only [vqM]
   rw [idxP_at hk hc hI]
  ·simp only [vqM]
   rw [wrap_succ (by omega)]
   refine awN_keep [0,1,7,8] ?_
   simp only [vke,zB,zA]
   refine ih fun j hj hjk=>?_
   by_cases e:j=k
   ·subst e;exact hc
   ·exact hI j hj (by omega)
 ·intro hI
  have hklt:((l.length:Int)<(l.length:Int))=False:=by simp
  simp only [vqM,hklt,decide_false]
  refine ret_here (.inr rfl) ?_ (.int _ _)
  simp only [vqM]
  rw [idxP_none hI]
theorem t_conEx (f:D) (hfp:f.plain=f) (p:Ex→Bool) (l:List Ex) (s:St) (hp:∀ x ∈ l,CallV Tryz.prog f [.agg x.cells] s (.bool (p x)) s) :
  Spec Tryz.prog 235 [.slice .none (Ex.encs l),f] s (.bool (l.any p)) s:=by
 refine Spec.introN [] Tryz.func235 rfl (by decide) hmix (by kernel_rfl) [ResultVar.tmp 4] 9 rfl rfl ?_
 simp only [vqM,zA,zS,hfp]
 refine callI_spec (t_idxEx f p l _ hp) ?_
 simp only [vqM]
 refine ret_here (.inr rfl) ?_ (.bool _)
 simp only [vqM]
 rw [← idxP_any]
theorem t_everyEx1 (f:D) (b:Nat) (r:Bool) (x:Ex) (B:List Box) (L:List Nat) (c:Nat) (hb:B[b]? = some (.cells [f])) (hp:∀ X,CallV Tryz.prog f [.agg x.cells] ⟨B++X,L,c⟩ (.bool r) ⟨B++X,L,c⟩) :
  Spec Tryz.prog 236 [.agg x.cells,.box b 0] ⟨B,L,c⟩ (.bool (!r)) ⟨B,L,c⟩:=by
 have hb2:∀ X,(B++X)[b]? = some (.cells [f]):=fun X=>box_lt hb
 refine Spec.introN [] Tryz.func236 rfl (by decide) hmix (by kernel_rfl) [ResultVar.tmp 3] 8 rfl rfl ?_
 simp only [vqM,vt32,zA,zS,hb2]
 refine callI_of (by first | exact hp _ | simpa using hp []) ?_
 simp only [vqM]
 refine ret_loc (.inr rfl) ?_ (.bool _) (fun _ h=>h) (Nat.le_refl _)
 simp only [vqM]
theorem t_everyEx (f:D) (p:Ex→Bool) (l:List Ex) (m:Int) (B:List Box) (L:List Nat) (c:Nat) (hf:cellsD f=some [f]) (hfp:f.plain=f) (hfp1:f.plain1=f) (hp:∀ x ∈ l,∀ X,CallV Tryz.prog f [.agg x.cells] ⟨B++X,L,c⟩ (.bool (p x)) ⟨B++X,L,c⟩) :
  Spec Tryz.prog 193 [.slice .none (Ex.encs l),.int .i64 m,f] ⟨B,L,c⟩ (.bool (everyB l m p)) ⟨B,L,c⟩:=by
 refine Spec.introN [] Tryz.func193 rfl (by decide) hmix (by kernel_rfl) [ResultVar.tmp 6] 17 rfl rfl ?_
 simp only [vqM,vt33,zA,zS,hf,exCells_len]
 refine ifI_intro (fun hc=>?_) (fun hc=>?_)
 ·simp only [vqM,hc]
  refine callI_spec (t_conEx (.func (.func 236) [] [.box B.length 0]) rfl (fun x=>!p x) l ⟨B++[.cells [f]],L,c⟩ fun x hx=>?_) ?_
  ·refine (show CallVQ _ _ _ _ _ from ?_)
   simp only [CallVQ,List.nil_append,List.cons_append]
   exact t_everyEx1 f B.length (p x) x (B++[.cells [f]]) L c (by rw [box_at0];rfl) fun X=>by rw [List.append_assoc];exact hp x hx _
  ·simp only [vqM]
   refine ret_loc (.inr rfl) ?_ (.bool _) (fun _ h=>h) (Nat.le_refl _)
   simp only [vqM]
   rw [any_not];simp [everyB,hc]
 ·simp only [vqM,hc]
  refine ret_loc (.inr rfl) ?_ (.bool _) (fun _ h=>h) (Nat.le_refl _)
  simp only [vqM]
  simp [everyB,hc]
theorem t_idxDf (f:D) (p:Df→Bool) (l:List Df) (s:St) (hp:∀ x ∈ l,CallV Tryz.prog f [.agg x.cells] s (.bool (p x)) s) :
  Spec Tryz.prog 123 [.slice .none (dfCells l),f] s (.int .i64 (idxP p l)) s:=by
 refine Spec.small fun hsm=>?_
 have hlen:=(hsm _ (.head _)).len
 rw [dfCells_len] at hlen
 refine Spec.introN [] Tryz.func123 rfl (by decide) hmix (by kernel_rfl) [ResultVar.tmp 4] 19 rfl rfl ?_
 simp only [vqM,vt34,zA,zS,dfCells_len]
 refine awN_keep [0,1,7,8] ?_
 simp only [vke,zB,zA]
 refine awN_for hmix l.length (fun k=>[.slice .none (dfCells l),f,Jk,Jk,Jk,Jk,Jk,.int .i64 l.length,.int .i64 (k:Int),Jk,Jk,Jk,Jk,Jk,Jk,Jk,Jk,Jk,Jk]) (fun _=>s) (fun k=>∀ j (h:j<l.length),j<k→p l[j]=false) ?_ ?_ 0 (Nat.zero_le _) (by intro j _ h;omega)
 ·intro k hk hI ih
  have hx:l[k]? = some l[k]:=List.getElem?_eq_getElem hk
  have hg:(dfCells l)[k]? = some (l[k].cells):=by simp [dfCells,hx]
  have hklt:((k:Int)<(l.length:Int))=True:=by simp;exact hk
  simp only [vqM,vt34,hklt,decide_true,natle0,Int.toNat_natCast,hg]
  refine callI_of (hp _ (List.getElem_mem hk)) ?_
  simp only [vqM]
  refine ifI_intro (fun hc=>?_) (fun hc=>?_)
  ·simp only [vqM]
   refine ret_here (.inr rfl) ?_ (.int _ _)
   simp only [vqM]
   rw [idxP_at hk hc hI]
  ·simp only [vqM]
   rw [wrap_succ (by omega)]
   refine awN_keep [0,1,7,8] ?_
   simp only [vke,zB,zA]
   refine ih fun j hj hjk=>?_
   by_cases e:j=k
   ·subst e;exact hc
   ·exact hI j hj (by omega)
 ·intro hI
  have hklt:((l.length:Int)<(l.length:Int))=False:=by simp
  simp only [vqM,hklt,decide_false]
  refine ret_here (.inr rfl) ?_ (.int _ _)
  simp only [vqM]
  rw [idxP_none hI]
theorem t_in (n a b:Int) (s:St):Spec Tryz.prog 110 [.int .i64 n,.int .i64 a,.int .i64 b] s (.bool (inB n a b)) s:=by
 refine Spec.introN [] Tryz.func110 rfl (by decide) hmix (by kernel_rfl) [ResultVar.tmp 6] 15 rfl rfl ?_
 simp only [vqM,zA,zS]
 repeat' (first
  | (with_reducible refine ifI_intro (fun hc=>?_) (fun hc=>?_) <;> simp only [vqM,hc])
  | ((with_reducible refine is_q ?_);refine ret_here (.inr rfl) ?_ (.bool _) <;> (try simp only [vqM]) <;> (first | (simp only [inB, *,Bool.true_and,Bool.false_and];done) | (simp_all [inB];done) | (simp_all [inB];omega))))
def rightRange (r:Rg):Bool:=inB r.lo (-2147483648) r.hi && decide (r.hi≤2147483647) && inB r.mask 0 255
theorem t_rightRange (r:Rg) (s:St):Spec Tryz.prog 109 [.agg r.cells] s (.bool (rightRange r)) s:=by
 obtain ⟨B,L,c⟩:=s
 refine Spec.introN [] Tryz.func109 rfl (by decide) hmix (by kernel_rfl) [ResultVar.tmp 2] 18 rfl rfl ?_
 simp only [vqM,vt35,zA,zS]
 repeat' (first
  | ((with_reducible refine is_call ?_);refine callI_spec (t_in _ _ _ _) ?_;simp only [vqM])
  | (with_reducible refine ifI_intro (fun hc=>?_) (fun hc=>?_) <;> simp only [vqM,vt35,hc,zA])
  | ((with_reducible refine is_q ?_);refine ret_loc (.inr rfl) ?_ (.bool _) (fun _ h=>h) (Nat.le_refl _) <;> (try simp only [vqM]) <;> (first | (simp only [rightRange, *,Bool.true_and,Bool.false_and,Bool.and_true,Bool.and_false];done) | (simp_all [rightRange];done) | (simp_all [rightRange];omega))))
theorem c_rightRange (r:Rg) (s:St):CallV Tryz.prog (.func (.func 109) [] []) [.agg r.cells] s (.bool (rightRange r)) s:=t_rightRange r s
def declQ (q:Qu):Bool:=rightRange q.r && inB q.cap 1 16
theorem t_declQ (q:Qu) (s:St):CallV Tryz.prog (.func (.func 108) [] []) [.agg q.cells] s (.bool (declQ q)) s:=by
 obtain ⟨B,L,c⟩:=s
 show Spec Tryz.prog 108 [.agg q.cells] _ _ _
 refine Spec.introN [] Tryz.func108 rfl (by decide) hmix (by kernel_rfl) [ResultVar.tmp 2] 11 rfl rfl ?_
 simp only [vqM,vt36,zA,zS]
 repeat' (first
  | ((with_reducible refine is_call ?_);refine callI_spec (t_in _ _ _ _) ?_;simp only [vqM])
  | ((with_reducible refine is_call ?_);refine callI_spec (t_rightRange _ _) ?_;simp only [vqM])
  | (with_reducible refine ifI_intro (fun hc=>?_) (fun hc=>?_) <;> simp only [vqM,vt36,hc,zA])
  | ((with_reducible refine is_q ?_);refine ret_loc (.inr rfl) ?_ (.bool _) (fun _ h=>h) (Nat.le_refl _) <;> (try simp only [vqM]) <;> (first | (simp only [declQ, *,Bool.true_and,Bool.false_and];done) | (simp_all [declQ];done) | (simp_all [declQ];omega))))
theorem t_declS (n:Int) (s:St):CallV Tryz.prog (.func (.func 111) [] []) [.int .i64 n] s (.bool (inB n 0 255)) s:=by
 show Spec Tryz.prog 111 [.int .i64 n] _ _ _
 refine Spec.introN [] Tryz.func111 rfl (by decide) hmix (by kernel_rfl) [ResultVar.tmp 2] 5 rfl rfl ?_
 simp only [vqM,zA,zS]
 repeat' (first
  | ((with_reducible refine is_call ?_);refine callI_spec (t_in _ _ _ _) ?_;simp only [vqM])
  | (with_reducible refine ifI_intro (fun hc=>?_) (fun hc=>?_) <;> simp only [vqM,hc,zA,zS,zM,zL,zE,zB,reduceCtorEq])
  | ((with_reducible refine is_q ?_);refine ret_here (.inr rfl) ?_ (.bool _) <;> (try simp only [vqM]) <;> (first | (simp only [*,Bool.true_and,Bool.false_and,Bool.and_true,Bool.and_false,Bool.true_or,Bool.false_or,Bool.or_true,Bool.or_false,Bool.not_true,Bool.not_false,cond_true,cond_false,if_true,if_false];done) | (simp_all [];done) | (simp_all [];omega))))
def declB (d:Dc):Bool:=everyB d.globals 8 rightRange && everyB d.classes 8 rightRange && everyB d.queues 4 declQ && everyB d.sinks 8 (inB · 0 255) && inB d.locks 0 8 && inB d.parts 1 16 && inB d.firms 1 8
theorem t_Decl (d:Dc) (s:St):Spec Tryz.prog 66 [.agg d.cells] s (.int .i64 (if declB d then 0 else 60)) s:=by
 obtain ⟨B,L,c⟩:=s
 refine Spec.introN [] Tryz.func66 rfl (by decide) hmix (by kernel_rfl) [ResultVar.tmp 2] 40 rfl rfl ?_
 simp only [vqM,vt16,zA,zS]
 repeat' (first
  | ((with_reducible refine is_call ?_);refine callI_spec (t_in _ _ _ _) ?_;simp only [vqM])
  | ((with_reducible refine is_call ?_);refine callI_spec (t_everyRg _ rightRange _ _ _ _ _ rfl rfl rfl fun x _ X=>c_rightRange x _) ?_;simp only [vqM])
  | ((with_reducible refine is_call ?_);refine callI_spec (t_everyQu _ declQ _ _ _ _ _ rfl rfl rfl fun x _ X=>t_declQ x _) ?_;simp only [vqM])
  | ((with_reducible refine is_call ?_);refine callI_spec (t_everyInt _ (inB · 0 255) _ _ _ _ _ rfl rfl rfl fun x _ X=>t_declS x _) ?_;simp only [vqM])
  | (with_reducible refine ifI_intro (fun hc=>?_) (fun hc=>?_) <;> simp only [vqM,vt16,hc,zA])
  | ((with_reducible refine is_q ?_);refine ret_loc (.inr rfl) ?_ (.int _ _) (fun _ h=>h) (Nat.le_refl _) <;> (try simp only [vqM]) <;> (first | (simp only [declB, *,Bool.false_and,Bool.and_true,Bool.and_false,if_true];done) | (simp_all [declB];done) | (simp_all [declB];omega))))
set_option maxHeartbeats 2000000
structure Ck where
 d:Df
 x:Dc
def Ck.cells (x:Ck):List D:=x.d.cells++(x.x.cells)
theorem Ck.cells_len (x:Ck):x.cells.length=19:=rfl
theorem Ck.plain (x:Ck):x.cells.map D.plain1=x.cells:=rfl
theorem Ck.keep1 (x:Ck):x.cells.map D.keep1=x.cells:=rfl
theorem Ck.take0 (x:Ck):x.cells.take 19=x.cells:=List.take_of_length_le (by rw [Ck.cells_len];decide)
theorem Ck.drop0 (x:Ck) (l:List D):(x.cells++l).drop 19=l:=by have:=List.drop_left (l₁:=x.cells) (l₂:=l);rwa [Ck.cells_len] at this
theorem Ck.takeB (x:Ck) (l:List D):(x.cells++l).take 19=x.cells:=by have:=List.take_left (l₁:=x.cells) (l₂:=l);rwa [Ck.cells_len] at this
theorem Ck.lenA (x:Ck) (l:List D):(x.cells++l).length=19+l.length:=by rw [List.length_append,Ck.cells_len]
theorem Ck.t_d (x:Ck):x.cells.take 12=x.d.cells:=rfl
theorem Ck.f_d_id (x:Ck):x.cells[0]? = some (.int .i64 x.d.id):=rfl
theorem Ck.f_d_site (x:Ck):(x.cells.drop 1)[0]? = some (.int .i64 x.d.site):=rfl
theorem Ck.f_d_name (x:Ck):(x.cells.drop 2)[0]? = some (.str x.d.name):=rfl
theorem Ck.f_d_firm (x:Ck):(x.cells.drop 3)[0]? = some (.int .i64 x.d.firm):=rfl
theorem Ck.f_d_part (x:Ck):(x.cells.drop 4)[0]? = some (.int .i64 x.d.part):=rfl
theorem Ck.f_d_params (x:Ck):(x.cells.drop 5)[0]? = some (.slice .none (rgCells x.d.params)):=rfl
theorem Ck.f_d_given (x:Ck):(x.cells.drop 6)[0]? = some (.slice .none (rgCells x.d.given)):=rfl
theorem Ck.f_d_vars (x:Ck):(x.cells.drop 7)[0]? = some (.int .i64 x.d.vars):=rfl
theorem Ck.f_d_refs (x:Ck):(x.cells.drop 8)[0]? = some (.int .i64 x.d.refs):=rfl
theorem Ck.f_d_arrays (x:Ck):(x.cells.drop 9)[0]? = some (.slice .none (arCells x.d.arrays)):=rfl
theorem Ck.f_d_budget (x:Ck):(x.cells.drop 10)[0]? = some (.int .i64 x.d.budget):=rfl
theorem Ck.f_d_body (x:Ck):(x.cells.drop 11)[0]? = some (.slice .none (Sm.encs x.d.body)):=rfl
theorem Ck.t_x (x:Ck):(x.cells.drop 12).take 7=x.x.cells:=rfl
theorem Ck.f_x_globals (x:Ck):(x.cells.drop 12)[0]? = some (.slice .none (rgCells x.x.globals)):=rfl
theorem Ck.f_x_classes (x:Ck):(x.cells.drop 13)[0]? = some (.slice .none (rgCells x.x.classes)):=rfl
theorem Ck.f_x_queues (x:Ck):(x.cells.drop 14)[0]? = some (.slice .none (quCells x.x.queues)):=rfl
theorem Ck.f_x_sinks (x:Ck):(x.cells.drop 15)[0]? = some (.slice .none (intCells x.x.sinks)):=rfl
theorem Ck.f_x_locks (x:Ck):(x.cells.drop 16)[0]? = some (.int .i64 x.x.locks):=rfl
theorem Ck.f_x_parts (x:Ck):(x.cells.drop 17)[0]? = some (.int .i64 x.x.parts):=rfl
theorem Ck.f_x_firms (x:Ck):(x.cells.drop 18)[0]? = some (.int .i64 x.x.firms):=rfl
theorem vsCk:(type_of% @Ck.cells_len)∧(type_of% @Ck.plain)∧(type_of% @Ck.keep1)∧(type_of% @Ck.take0)∧(type_of% @Ck.drop0)∧(type_of% @Ck.takeB)∧(type_of% @Ck.lenA)∧(type_of% @Ck.t_d)∧(type_of% @Ck.f_d_id)∧(type_of% @Ck.f_d_site)∧(type_of% @Ck.f_d_name)∧(type_of% @Ck.f_d_firm)∧(type_of% @Ck.f_d_part)∧(type_of% @Ck.f_d_params)∧(type_of% @Ck.f_d_given)∧(type_of% @Ck.f_d_vars)∧(type_of% @Ck.f_d_refs)∧(type_of% @Ck.f_d_arrays)∧(type_of% @Ck.f_d_budget)∧(type_of% @Ck.f_d_body)∧(type_of% @Ck.t_x)∧(type_of% @Ck.f_x_globals)∧(type_of% @Ck.f_x_classes)∧(type_of% @Ck.f_x_queues)∧(type_of% @Ck.f_x_sinks)∧(type_of% @Ck.f_x_locks)∧(type_of% @Ck.f_x_parts)∧(type_of% @Ck.f_x_firms) :=
 ⟨@Ck.cells_len,@Ck.plain,@Ck.keep1,@Ck.take0,@Ck.drop0,@Ck.takeB,@Ck.lenA,@Ck.t_d,@Ck.f_d_id,@Ck.f_d_site,@Ck.f_d_name,@Ck.f_d_firm,@Ck.f_d_part,@Ck.f_d_params,@Ck.f_d_given,@Ck.f_d_vars,@Ck.f_d_refs,@Ck.f_d_arrays,@Ck.f_d_budget,@Ck.f_d_body,@Ck.t_x,@Ck.f_x_globals,@Ck.f_x_classes,@Ck.f_x_queues,@Ck.f_x_sinks,@Ck.f_x_locks,@Ck.f_x_parts,@Ck.f_x_firms⟩
def Ck.encs (l:List Ck):List (List D):=l.map Ck.cells
theorem Ck.encs_len (l:List Ck):(Ck.encs l).length=l.length:=by simp [Ck.encs]
def w64 (n:Int):Int:=IntKind.i64.wrap n
theorem w64_eq (n:Int):IntKind.i64.wrap n=w64 n:=rfl
def leafB (a:List Ex) (depth:Int):Bool:=decide ((a.length:Int)=0) && decide (depth≤10)
mutual
def exprS (k:Ck):Ex→Int→Int × Bool
 | .mk op n v a,depth =>
  if op=1 then (1,leafB a depth && decide (n=0) && inB v (-2147483648) 2147483647)
  else if op=2 then (1,leafB a depth && decide (v=0) && inB n 0 (w64 (k.d.vars - 1)))
  else if op=3 then (1,leafB a depth && decide (v=0) && inB n 0 (w64 (k.d.arrays.length - 1)))
  else if !inB op 4 10 || decide (n≠0) || decide (v≠0) || decide ((a.length:Int)≠2) || decide (10≤depth) then (0,false)
  else exprsS k a (w64 (depth+1)) 1
def exprsS (k:Ck):List Ex→Int→Int→Int × Bool
 | [],_,acc=>(acc,true)
 | x::l,d,acc=>bif (exprS k x d).2 then exprsS k l d (w64 (acc+(exprS k x d).1)) else (0,false)
end
def pairD (r:Int × Bool):D:=.tup [.int .i64 r.1,.bool r.2]
theorem t_expr_of (k:Ck) (e:Ex) (ih:∀ x ∈ e.a,∀ (d:Int) (s:St),Spec Tryz.prog 233 [.agg k.cells,.agg x.cells,.int .i64 d] s (pairD (exprS k x d)) s) (depth:Int) (s:St) :
  Spec Tryz.prog 233 [.agg k.cells,.agg e.cells,.int .i64 depth] s (pairD (exprS k e depth)) s:=by
 obtain ⟨B,L,c⟩:=s
 refine Spec.small fun hsm=>?_
 have hlen:e.a.length≤281474976710656:=by
  have h1:=hsm (.agg e.cells) (by simp)
  cases h1 with
  | agg _ h1 =>
   have h2:=h1 (.slice .none (Ex.encs e.a)) (by obtain ⟨_,_,_,_⟩:=e;simp [Ex.cells,Ex.a])
   have:=h2.len;rw [exCells_len] at this;exact this
 clear hsm
 obtain ⟨op,n,v,a⟩:=e
 have hal:Ex.a (.mk op n v a)=a:=rfl
 rw [hal] at ih hlen
 refine Spec.introN [(1,.cut)] Tryz.func233 rfl (by decide) hmix (by kernel_rfl) [ResultVar.tmp 6,ResultVar.tmp 7] 118 rfl rfl ?_
 simp only [vqM,zA,zS,zB]
 refine seq_join hmix [2,3,4,8] [Jk,Jk,.int .i64 depth,.box B.length 0,.box (B.length+1) 0,Jk,Jk,Jk,.bool (leafB a depth),Jk,Jk,Jk,Jk,Jk,Jk,Jk,Jk,Jk,Jk,Jk,Jk,Jk,Jk,Jk,Jk,Jk,Jk,Jk,Jk,Jk,Jk,Jk,Jk,Jk,Jk,Jk,Jk,Jk,Jk,Jk,Jk,Jk,Jk,Jk,Jk,Jk,Jk,Jk,Jk,Jk,Jk,Jk,Jk,Jk,Jk,Jk,Jk,Jk,Jk,Jk,Jk,Jk,Jk,Jk,Jk,Jk,Jk,Jk,Jk,Jk,Jk,Jk,Jk,Jk,Jk,Jk,Jk,Jk,Jk,Jk,Jk,Jk,Jk,Jk,Jk,Jk,Jk,Jk,Jk,Jk,Jk,Jk,Jk,Jk,Jk,Jk,Jk,Jk,Jk,Jk,Jk,Jk,Jk,Jk,Jk,Jk,Jk,Jk,Jk,Jk,Jk,Jk,Jk,Jk,Jk,Jk,Jk,Jk] (fun s=>s=⟨B++[.cells k.cells,.cells (Ex.cells (.mk op n v a))],L,c⟩) ?_ ?_
 ·simp only [vqM,vt37,zA,exCells_len,Ex.a]
  repeat' (first
   | (with_reducible refine ifI_intro (fun hc=>?_) (fun hc=>?_) <;> simp only [vqM,hc])
   | ((with_reducible refine is_q ?_);refine meet_intro ⟨?_,rfl⟩ <;> simp only [vke,zB,zA] <;> (first | (simp only [leafB, *,Bool.true_and,Bool.false_and];done) | (simp_all [leafB];done) | (simp_all [leafB];omega))))
 ·rintro s rfl
  simp only [vqM,vt37,zA,zB,Ex.op]
  have hbd:∀ r,Bd 0 0 (pairD r):=fun r=>.tup _ fun i hi=>by
   match i,hi with
   | 0,_=>exact .int _ _
   | 1,_=>exact .bool _
  have hw1:IntKind.i64.wrap (k.d.vars - 1)=w64 (k.d.vars - 1):=rfl
  have hw2:IntKind.i64.wrap ((k.d.arrays.length:Int) - 1)=w64 (k.d.arrays.length - 1):=rfl
  repeat' (first
   | ((with_reducible refine is_call ?_);refine callI_spec (t_in _ _ _ _) ?_;simp only [vqM])
   | (with_reducible refine ifI_intro (fun hc=>?_) (fun hc=>?_) <;> simp only [vqM,vt37,hc,zA,zB,vsCk,exCells_len,arCells_len,Ex.op,Ex.n,Ex.v,Ex.a,hw1,hw2])
   | ((with_reducible refine is_q ?_);refine ret_loc (.inr rfl) ?_ (hbd _) (fun _ h=>h) (Nat.le_refl _) <;> (try simp only [vqM]) <;> (first | (simp only [exprS,pairD, *,Bool.true_and,Bool.false_and,Bool.and_true,Bool.and_false,Bool.true_or,Bool.or_true,Bool.or_false,if_true];done) | (simp_all [exprS,pairD];done) | (simp_all [exprS,pairD];omega))))
  have hx:exprS k (.mk op n v a) depth=exprsS k a (w64 (depth+1)) 1:=by simp_all [exprS] <;> (intro h;omega)
  rw [hx]
  clear hx
  refine awN_keep [2,3,4,9,97,98,99] ?_
  simp only [vke,zB,zA]
  refine awN_forR hmix a.length (fun j e s=>∃ acc X,e=[Jk,Jk,.int .i64 depth,.box B.length 0,.box (B.length+1) 0,Jk,Jk,Jk,Jk,.int .i64 acc,Jk,Jk,Jk,Jk,Jk,Jk,Jk,Jk,Jk,Jk,Jk,Jk,Jk,Jk,Jk,Jk,Jk,Jk,Jk,Jk,Jk,Jk,Jk,Jk,Jk,Jk,Jk,Jk,Jk,Jk,Jk,Jk,Jk,Jk,Jk,Jk,Jk,Jk,Jk,Jk,Jk,Jk,Jk,Jk,Jk,Jk,Jk,Jk,Jk,Jk,Jk,Jk,Jk,Jk,Jk,Jk,Jk,Jk,Jk,Jk,Jk,Jk,Jk,Jk,Jk,Jk,Jk,Jk,Jk,Jk,Jk,Jk,Jk,Jk,Jk,Jk,Jk,Jk,Jk,Jk,Jk,Jk,Jk,Jk,Jk,Jk,Jk,.slice .none (Ex.encs a),.int .i64 a.length,.int .i64 (j:Int),Jk,Jk,Jk,Jk,Jk,Jk,Jk,Jk,Jk,Jk,Jk,Jk,Jk,Jk,Jk,Jk,Jk,Jk]∧s=⟨B++.cells k.cells::.cells (Ex.cells (.mk op n v a))::X,L,c⟩∧exprsS k a (w64 (depth+1)) 1=exprsS k (a.drop j) (w64 (depth+1)) acc) ?_ ?_ 0 _ _ (Nat.zero_le _) ⟨1,[],rfl,rfl,rfl⟩
  ·rintro j e s hj ⟨acc,X,rfl,rfl,hi⟩ ihl
   have hx:a[j]? = some a[j]:=List.getElem?_eq_getElem hj
   have hg:(Ex.encs a)[j]? = some a[j].cells:=by simp [Ex.encs_map,hx]
   have hklt:((j:Int)<(a.length:Int))=True:=by simp;exact hj
   have hd:a.drop j=a[j]::a.drop (j+1):=List.drop_eq_getElem_cons hj
   rw [hd,exprsS] at hi
   have ihx:=ih _ (List.getElem_mem hj)
   generalize a[j]=x at hx hg hd hi ihx
   simp only [vqM,vt37,zA,zB,vsCk,hklt,decide_true,natle0,Int.toNat_natCast,hg,w64_eq]
   refine callI_spec (ihx _ _) ?_
   simp only [vqM,zB,pairD]
   refine ifI_intro (fun hc=>?_) (fun hc=>?_)
   ·simp only [vqM,zB,hc]
    refine ret_loc (.inr rfl) ?_ (hbd _) (fun _ h=>h) (Nat.le_refl _)
    simp only [vqM]
    rw [hi]
    have:(exprS k x (w64 (depth+1))).2=false:=by simpa using hc
    simp [this]
   ·simp only [vqM,hc]
    have h2:(exprS k x (w64 (depth+1))).2=true:=by simpa using hc
    rw [h2] at hi
    rw [wrap_succ (by omega)]
    refine awN_keep [2,3,4,9,97,98,99] ?_
    simp only [vke,zB,zA]
    exact ihl _ _ ⟨_,_,rfl,rfl,hi⟩
  ·rintro e s ⟨acc,X,rfl,rfl,hi⟩
   have hklt:((a.length:Int)<(a.length:Int))=False:=by simp
   simp only [vqM,zB,hklt,decide_false]
   refine ret_loc (.inr rfl) ?_ (hbd _) (fun _ h=>h) (Nat.le_refl _)
   simp only [vqM]
   rw [hi,List.drop_length]
   rfl
mutual
theorem t_exprC (k:Ck):(e:Ex)→∀ (depth:Int) (s:St),Spec Tryz.prog 233 [.agg k.cells,.agg e.cells,.int .i64 depth] s (pairD (exprS k e depth)) s
 | .mk op n v a=>t_expr_of k (.mk op n v a) (t_exprsC k a)
theorem t_exprsC (k:Ck):(l:List Ex)→∀ x ∈ l,∀ (depth:Int) (s:St),Spec Tryz.prog 233 [.agg k.cells,.agg x.cells,.int .i64 depth] s (pairD (exprS k x depth)) s
 | []=>by intro x hx;simp at hx
 | y::l=>by
  intro x hx
  rcases List.mem_cons.1 hx with e | hx
  ·rw [e];exact t_exprC k y
  ·exact t_exprsC k l x hx
end
def wantOf (op:Int):Option (Int × Int) :=
 if op=1 then some (0,0) else if op=2 then some (2,0) else if op=3 then some (2,0) else if op=4 then some (2,0)
 else if op=5 then some (0,1) else if op=6 then some (0,2) else if op=7 then some (0,2) else none
mutual
def condS (k:Ck):Co→Int→Int × Bool
 | .mk op a c,depth =>
  match wantOf op with
  | none=>(0,false)
  | some w =>
   bif (!(decide ((a.length:Int)=w.1) && decide ((c.length:Int)=w.2))) || decide (10<depth) then (0,false)
   else bif (exprsS k a (w64 (depth+1)) 1).2 then condsS k c (w64 (depth+1)) (exprsS k a (w64 (depth+1)) 1).1 else (0,false)
def condsS (k:Ck):List Co→Int→Int→Int × Bool
 | [],_,acc=>(acc,true)
 | x::l,d,acc=>bif (condS k x d).2 then condsS k l d (w64 (acc+(condS k x d).1)) else (0,false)
end
theorem bd_pair (r:Int × Bool):Bd 0 0 (pairD r):=.tup _ fun i hi=>by
 match i,hi with
 | 0,_=>exact .int _ _
 | 1,_=>exact .bool _
theorem t_cond_of (k:Ck) (e:Co) (ih:∀ x ∈ e.c,∀ (d:Int) (s:St),Spec Tryz.prog 234 [.agg k.cells,.agg x.cells,.int .i64 d] s (pairD (condS k x d)) s) (depth:Int) (s:St) :
  Spec Tryz.prog 234 [.agg k.cells,.agg e.cells,.int .i64 depth] s (pairD (condS k e depth)) s:=by
 obtain ⟨B,L,c⟩:=s
 refine Spec.small fun hsm=>?_
 have h1:=hsm (.agg e.cells) (by simp)
 have hlen:e.a.length≤281474976710656:=by
  cases h1 with
  | agg _ h1 =>
   have h2:=h1 (.slice .none (Ex.encs e.a)) (by obtain ⟨_,_,_⟩:=e;simp [Co.cells,Co.a])
   have:=h2.len;rw [exCells_len] at this;exact this
 have hlen2:e.c.length≤281474976710656:=by
  cases h1 with
  | agg _ h1 =>
   have h2:=h1 (.slice .none (Co.encs e.c)) (by obtain ⟨_,_,_⟩:=e;simp [Co.cells,Co.c])
   have:=h2.len;rw [coCells_len] at this;exact this
 clear hsm h1
 obtain ⟨op,a,cs⟩:=e
 have hal:Co.a (.mk op a cs)=a:=rfl
 have hcl:Co.c (.mk op a cs)=cs:=rfl
 rw [hal] at hlen
 rw [hcl] at hlen2 ih
 refine Spec.introN [(3,.meet)] Tryz.func234 rfl (by decide) hmix (by kernel_rfl) [ResultVar.tmp 6,ResultVar.tmp 7] 93 rfl rfl ?_
 simp only [vqM,vt38,zA,zS,zL,zB,exCells_len,coCells_len,Co.a,Co.c]
 refine seq_joinR hmix [2,3,4,8,9] [Jk,Jk,.int .i64 depth,.box B.length 0,.box (B.length+1) 0,Jk,Jk,Jk,.box (B.length+2) 0,.box (B.length+3) 0,Jk,Jk,Jk,Jk,Jk,Jk,Jk,Jk,Jk,Jk,Jk,Jk,Jk,Jk,Jk,Jk,Jk,Jk,Jk,Jk,Jk,Jk,Jk,Jk,Jk,Jk,Jk,Jk,Jk,Jk,Jk,Jk,Jk,Jk,Jk,Jk,Jk,Jk,Jk,Jk,Jk,Jk,Jk,Jk,Jk,Jk,Jk,Jk,Jk,Jk,Jk,Jk,Jk,Jk,Jk,Jk,Jk,Jk,Jk,Jk,Jk,Jk,Jk,Jk,Jk,Jk,Jk,Jk,Jk,Jk,Jk,Jk,Jk,Jk,Jk,Jk,Jk,Jk,Jk,Jk,Jk,Jk,Jk]
  (fun s=>∃ w1 w2,wantOf op=some (w1,w2)∧s=⟨B++[.cells k.cells,.cells (Co.cells (.mk op a cs)),.cells [.int .i64 a.length,.int .i64 cs.length],.cells [.int .i64 w1,.int .i64 w2]],L,c⟩) ?_ ?_
 ·simp only [vqM,vt38,zA,zB,Co.op]
  repeat' (first
   | (with_reducible refine ifI_intro (fun hc=>?_) (fun hc=>?_) <;> simp only [vqM,vt38,hc,zA,zL,zB])
   | ((with_reducible refine is_q ?_);refine join_intro ?_ ⟨_,_,?_,rfl⟩ <;> (try simp only [vke,zB,zA]) <;> (first | (simp only [wantOf, *];done) | (simp_all [wantOf,pairD];done) | (simp_all [condS,wantOf,pairD];omega)))
   | ((with_reducible refine is_q ?_);refine ret_loc (.inr rfl) ?_ (bd_pair _) (fun _ h=>h) (Nat.le_refl _) <;> (try simp only [vqM]) <;> (first | (simp only [condS,wantOf,pairD, *];done) | (simp_all [condS,wantOf,pairD];done) | (simp_all [condS,wantOf,pairD];omega))))
 ·rintro s ⟨w1,w2,hw,rfl⟩
  simp only [vqM,vt38,zA,zB]
  repeat' (first
   | (with_reducible refine ifI_intro (fun hc=>?_) (fun hc=>?_) <;> simp only [vqM,vt38,hc,zA,zB,exCells_len,Co.a])
   | ((with_reducible refine is_q ?_);refine ret_loc (.inr rfl) ?_ (bd_pair _) (fun _ h=>h) (Nat.le_refl _) <;> (try simp only [vqM]) <;> (first | (simp only [condS,pairD, *,Bool.true_or,Bool.or_true,cond_true];done) | (simp_all [condS,pairD];done) | (simp_all [condS,pairD];omega))))
  have hx:condS k (.mk op a cs) depth=bif (exprsS k a (w64 (depth+1)) 1).2 then condsS k cs (w64 (depth+1)) (exprsS k a (w64 (depth+1)) 1).1 else (0,false):=by simp only [condS, *,Bool.or_false,cond_false]
  rw [hx]
  clear hx
  refine awN_keep [2,3,4,10,51,52,53] ?_
  simp only [vke,zB,zA]
  refine awN_forR hmix a.length (fun j e s=>∃ acc X,e=[Jk,Jk,.int .i64 depth,.box B.length 0,.box (B.length+1) 0,Jk,Jk,Jk,Jk,Jk,.int .i64 acc,Jk,Jk,Jk,Jk,Jk,Jk,Jk,Jk,Jk,Jk,Jk,Jk,Jk,Jk,Jk,Jk,Jk,Jk,Jk,Jk,Jk,Jk,Jk,Jk,Jk,Jk,Jk,Jk,Jk,Jk,Jk,Jk,Jk,Jk,Jk,Jk,Jk,Jk,Jk,Jk,.slice .none (Ex.encs a),.int .i64 a.length,.int .i64 (j:Int),Jk,Jk,Jk,Jk,Jk,Jk,Jk,Jk,Jk,Jk,Jk,Jk,Jk,Jk,Jk,Jk,Jk,Jk,Jk,Jk,Jk,Jk,Jk,Jk,Jk,Jk,Jk,Jk,Jk,Jk,Jk,Jk,Jk,Jk,Jk,Jk,Jk,Jk,Jk]∧s=⟨B++.cells k.cells::.cells (Co.cells (.mk op a cs))::X,L,c⟩∧exprsS k a (w64 (depth+1)) 1=exprsS k (a.drop j) (w64 (depth+1)) acc) ?_ ?_ 0 _ _ (Nat.zero_le _) ⟨1,_,rfl,rfl,rfl⟩
  ·rintro j e s hj ⟨acc,X,rfl,rfl,hi⟩ ihl
   have hx:a[j]? = some a[j]:=List.getElem?_eq_getElem hj
   have hg:(Ex.encs a)[j]? = some a[j].cells:=by simp [Ex.encs_map,hx]
   have hklt:((j:Int)<(a.length:Int))=True:=by simp;exact hj
   have hd:a.drop j=a[j]::a.drop (j+1):=List.drop_eq_getElem_cons hj
   rw [hd,exprsS] at hi
   generalize a[j]=x at hx hg hd hi
   simp only [vqM,vt38,zA,zB,vsCk,hklt,decide_true,natle0,Int.toNat_natCast,hg,w64_eq]
   refine callI_spec (t_exprC k x _ _) ?_
   simp only [vqM,zB,pairD]
   refine ifI_intro (fun hc=>?_) (fun hc=>?_)
   ·simp only [vqM,zB,hc]
    refine ret_loc (.inr rfl) ?_ (bd_pair _) (fun _ h=>h) (Nat.le_refl _)
    simp only [vqM]
    have:(exprS k x (w64 (depth+1))).2=false:=by simpa using hc
    simp [hi,this]
   ·simp only [vqM,hc]
    have h2:(exprS k x (w64 (depth+1))).2=true:=by simpa using hc
    rw [h2] at hi
    rw [wrap_succ (by omega)]
    refine awN_keep [2,3,4,10,51,52,53] ?_
    simp only [vke,zB,zA]
    exact ihl _ _ ⟨_,_,rfl,rfl,hi⟩
  ·rintro e s ⟨acc0,X,rfl,rfl,hi⟩
   have hklt:((a.length:Int)<(a.length:Int))=False:=by simp
   rw [List.drop_length] at hi
   have hi2:exprsS k a (w64 (depth+1)) 1=(acc0,true):=hi
   rw [hi2]
   simp only [vqM,vt38,zA,zB,coCells_len,Co.c,hklt,decide_false]
   refine awN_keep [2,3,4,10,72,73,74] ?_
   simp only [vke,zB,zA]
   refine awN_forR hmix cs.length (fun j e s=>∃ acc X,e=[Jk,Jk,.int .i64 depth,.box B.length 0,.box (B.length+1) 0,Jk,Jk,Jk,Jk,Jk,.int .i64 acc,Jk,Jk,Jk,Jk,Jk,Jk,Jk,Jk,Jk,Jk,Jk,Jk,Jk,Jk,Jk,Jk,Jk,Jk,Jk,Jk,Jk,Jk,Jk,Jk,Jk,Jk,Jk,Jk,Jk,Jk,Jk,Jk,Jk,Jk,Jk,Jk,Jk,Jk,Jk,Jk,Jk,Jk,Jk,Jk,Jk,Jk,Jk,Jk,Jk,Jk,Jk,Jk,Jk,Jk,Jk,Jk,Jk,Jk,Jk,Jk,Jk,.slice .none (Co.encs cs),.int .i64 cs.length,.int .i64 (j:Int),Jk,Jk,Jk,Jk,Jk,Jk,Jk,Jk,Jk,Jk,Jk,Jk,Jk,Jk,Jk,Jk,Jk,Jk]∧s=⟨B++.cells k.cells::.cells (Co.cells (.mk op a cs))::X,L,c⟩∧condsS k cs (w64 (depth+1)) acc0=condsS k (cs.drop j) (w64 (depth+1)) acc) ?_ ?_ 0 _ _ (Nat.zero_le _) ⟨acc0,_,rfl,rfl,rfl⟩
   ·rintro j e s hj ⟨acc,X,rfl,rfl,hi⟩ ihl
    have hx:cs[j]? = some cs[j]:=List.getElem?_eq_getElem hj
    have hg:(Co.encs cs)[j]? = some cs[j].cells:=by simp [Co.encs_map,hx]
    have hklt:((j:Int)<(cs.length:Int))=True:=by simp;exact hj
    have hd:cs.drop j=cs[j]::cs.drop (j+1):=List.drop_eq_getElem_cons hj
    rw [hd,condsS] at hi
    have ihx:=ih _ (List.getElem_mem hj)
    generalize cs[j]=x at hx hg hd hi ihx
    simp only [vqM,vt38,zA,zB,vsCk,hklt,decide_true,natle0,Int.toNat_natCast,hg,w64_eq]
    refine callI_spec (ihx _ _) ?_
    simp only [vqM,zB,pairD]
    refine ifI_intro (fun hc=>?_) (fun hc=>?_)
    ·simp only [vqM,zB,hc]
     refine ret_loc (.inr rfl) ?_ (bd_pair _) (fun _ h=>h) (Nat.le_refl _)
     simp only [vqM]
     have:(condS k x (w64 (depth+1))).2=false:=by simpa using hc
     simp [hi,this]
    ·simp only [vqM,hc]
     have h2:(condS k x (w64 (depth+1))).2=true:=by simpa using hc
     rw [h2] at hi
     rw [wrap_succ (by omega)]
     refine awN_keep [2,3,4,10,72,73,74] ?_
     simp only [vke,zB,zA]
     exact ihl _ _ ⟨_,_,rfl,rfl,hi⟩
   ·rintro e s ⟨acc,X,rfl,rfl,hi⟩
    have hklt:((cs.length:Int)<(cs.length:Int))=False:=by simp
    simp only [vqM,zB,hklt,decide_false]
    refine ret_loc (.inr rfl) ?_ (bd_pair _) (fun _ h=>h) (Nat.le_refl _)
    simp only [vqM]
    simp [hi,condsS,pairD]
mutual
theorem t_condC (k:Ck):(e:Co)→∀ (depth:Int) (s:St),Spec Tryz.prog 234 [.agg k.cells,.agg e.cells,.int .i64 depth] s (pairD (condS k e depth)) s
 | .mk op a c=>t_cond_of k (.mk op a c) (t_condsC k c)
theorem t_condsC (k:Ck):(l:List Co)→∀ x ∈ l,∀ (depth:Int) (s:St),Spec Tryz.prog 234 [.agg k.cells,.agg x.cells,.int .i64 depth] s (pairD (condS k x depth)) s
 | []=>by intro x hx;simp at hx
 | y::l=>by
  intro x hx
  rcases List.mem_cons.1 hx with e | hx
  ·rw [e];exact t_condC k y
  ·exact t_condsC k l x hx
end
def valueB (k:Ck) (e:Ex):Bool:=(exprS k e 1).2 && decide ((exprS k e 1).1≤60)
def testB (k:Ck) (e:Co):Bool:=(condS k e 1).2 && decide ((condS k e 1).1≤60)
theorem t_valueC (k:Ck) (e:Ex) (s:St):Spec Tryz.prog 190 [.agg k.cells,.agg e.cells] s (.bool (valueB k e)) s:=by
 obtain ⟨B,L,c⟩:=s
 refine Spec.introN [] Tryz.func190 rfl (by decide) hmix (by kernel_rfl) [ResultVar.tmp 4] 18 rfl rfl ?_
 simp only [vqM,vt39,zA,zS,vsCk]
 repeat' (first
  | ((with_reducible refine is_call ?_);refine callI_spec (t_exprC _ _ _ _) ?_;simp only [vqM,pairD])
  | (with_reducible refine ifI_intro (fun hc=>?_) (fun hc=>?_) <;> simp only [vqM,hc])
  | ((with_reducible refine is_q ?_);refine ret_loc (.inr rfl) ?_ (.bool _) (fun _ h=>h) (Nat.le_refl _) <;> (try simp only [vqM]) <;> (first | (simp only [valueB, *,Bool.true_and,Bool.false_and];done) | (simp_all [valueB];done) | (simp_all [valueB];omega))))
theorem t_testC (k:Ck) (e:Co) (s:St):Spec Tryz.prog 191 [.agg k.cells,.agg e.cells] s (.bool (testB k e)) s:=by
 obtain ⟨B,L,c⟩:=s
 refine Spec.introN [] Tryz.func191 rfl (by decide) hmix (by kernel_rfl) [ResultVar.tmp 4] 18 rfl rfl ?_
 simp only [vqM,vt40,zA,zS,vsCk]
 repeat' (first
  | ((with_reducible refine is_call ?_);refine callI_spec (t_condC _ _ _ _) ?_;simp only [vqM,pairD])
  | (with_reducible refine ifI_intro (fun hc=>?_) (fun hc=>?_) <;> simp only [vqM,hc])
  | ((with_reducible refine is_q ?_);refine ret_loc (.inr rfl) ?_ (.bool _) (fun _ h=>h) (Nat.le_refl _) <;> (try simp only [vqM]) <;> (first | (simp only [testB, *,Bool.true_and,Bool.false_and];done) | (simp_all [testB];done) | (simp_all [testB];omega))))
structure Fl where
 n:Int
 m:Int
 v:Int
 x:Bool
 y:Bool
 c:Bool
 call:Bool
 body:Bool
 rest:Bool
def Fl.cells (x:Fl):List D:=[.int .i64 x.n,.int .i64 x.m,.int .i64 x.v,.bool x.x,.bool x.y,.bool x.c,.bool x.call,.bool x.body,.bool x.rest]
theorem Fl.cells_len (x:Fl):x.cells.length=9:=rfl
theorem Fl.plain (x:Fl):x.cells.map D.plain1=x.cells:=rfl
theorem Fl.keep1 (x:Fl):x.cells.map D.keep1=x.cells:=rfl
theorem Fl.take0 (x:Fl):x.cells.take 9=x.cells:=List.take_of_length_le (by rw [Fl.cells_len];decide)
theorem Fl.drop0 (x:Fl) (l:List D):(x.cells++l).drop 9=l:=by have:=List.drop_left (l₁:=x.cells) (l₂:=l);rwa [Fl.cells_len] at this
theorem Fl.takeB (x:Fl) (l:List D):(x.cells++l).take 9=x.cells:=by have:=List.take_left (l₁:=x.cells) (l₂:=l);rwa [Fl.cells_len] at this
theorem Fl.lenA (x:Fl) (l:List D):(x.cells++l).length=9+l.length:=by rw [List.length_append,Fl.cells_len]
theorem Fl.f_n (x:Fl):x.cells[0]? = some (.int .i64 x.n):=rfl
theorem Fl.f_m (x:Fl):(x.cells.drop 1)[0]? = some (.int .i64 x.m):=rfl
theorem Fl.f_v (x:Fl):(x.cells.drop 2)[0]? = some (.int .i64 x.v):=rfl
theorem Fl.f_x (x:Fl):(x.cells.drop 3)[0]? = some (.bool x.x):=rfl
theorem Fl.f_y (x:Fl):(x.cells.drop 4)[0]? = some (.bool x.y):=rfl
theorem Fl.f_c (x:Fl):(x.cells.drop 5)[0]? = some (.bool x.c):=rfl
theorem Fl.f_call (x:Fl):(x.cells.drop 6)[0]? = some (.bool x.call):=rfl
theorem Fl.f_body (x:Fl):(x.cells.drop 7)[0]? = some (.bool x.body):=rfl
theorem Fl.f_rest (x:Fl):(x.cells.drop 8)[0]? = some (.bool x.rest):=rfl
theorem vsFl:(type_of% @Fl.cells_len)∧(type_of% @Fl.plain)∧(type_of% @Fl.keep1)∧(type_of% @Fl.take0)∧(type_of% @Fl.drop0)∧(type_of% @Fl.takeB)∧(type_of% @Fl.lenA)∧(type_of% @Fl.f_n)∧(type_of% @Fl.f_m)∧(type_of% @Fl.f_v)∧(type_of% @Fl.f_x)∧(type_of% @Fl.f_y)∧(type_of% @Fl.f_c)∧(type_of% @Fl.f_call)∧(type_of% @Fl.f_body)∧(type_of% @Fl.f_rest) :=
 ⟨@Fl.cells_len,@Fl.plain,@Fl.keep1,@Fl.take0,@Fl.drop0,@Fl.takeB,@Fl.lenA,@Fl.f_n,@Fl.f_m,@Fl.f_v,@Fl.f_x,@Fl.f_y,@Fl.f_c,@Fl.f_call,@Fl.f_body,@Fl.f_rest⟩
def Fl.encs (l:List Fl):List (List D):=l.map Fl.cells
theorem Fl.encs_len (l:List Fl):(Fl.encs l).length=l.length:=by simp [Fl.encs]
def othersF (op:Int):Fl :=
 if op=11 then ⟨0,0,0,false,false,true,false,true,true⟩
 else if op=12 then ⟨0,0,12,false,false,true,false,true,false⟩
 else if op=13 then ⟨2,11,0,false,false,false,true,false,false⟩
 else if op=14 then ⟨0,0,13,false,false,false,false,false,false⟩
 else if op=15 then ⟨1,0,0,false,false,false,false,true,true⟩
 else if op=16 then ⟨0,9,0,false,false,false,false,false,false⟩
 else if op=17 then ⟨0,9,0,false,false,false,false,false,false⟩
 else if op=22 then ⟨0,10,0,false,false,false,false,false,false⟩
 else if op=23 then ⟨0,0,0,false,false,true,false,false,false⟩
 else if op=24 then ⟨0,0,0,true,false,false,false,false,false⟩
 else ⟨0,0,0,false,false,false,false,false,false⟩
def tableF (op:Int):Fl :=
 if op=1 then ⟨1,0,0,true,false,false,false,false,false⟩
 else if op=2 then ⟨1,4,0,true,false,false,false,false,false⟩
 else if op=3 then ⟨0,4,0,true,true,false,false,false,false⟩
 else if op=4 then ⟨1,5,0,false,false,false,false,false,false⟩
 else if op=20 then ⟨1,6,0,false,false,false,false,false,false⟩
 else if op=19 then ⟨1,7,0,false,false,false,false,false,false⟩
 else if op=5 then ⟨0,5,0,true,false,false,false,false,false⟩
 else if op=18 then ⟨0,7,0,true,false,false,false,false,false⟩
 else if op=21 then ⟨0,8,0,true,false,false,false,false,false⟩
 else if op=6 then ⟨3,0,0,false,false,false,false,false,false⟩
 else if op=7 then ⟨3,0,0,false,false,false,false,false,false⟩
 else if op=8 then ⟨3,3,0,false,false,false,false,false,false⟩
 else if op=9 then ⟨3,0,0,true,false,false,false,false,false⟩
 else if op=10 then ⟨1,3,0,false,false,false,false,false,false⟩
 else othersF op
theorem Fl.bd (x:Fl):∀ d ∈ x.cells,Bd 0 0 d:=by
 intro d hd
 simp only [Fl.cells,List.mem_cons,List.not_mem_nil,or_false] at hd
 rcases hd with rfl | rfl | rfl | rfl | rfl | rfl | rfl | rfl | rfl <;> first | exact .int _ _ | exact .bool _
theorem t_others (op:Int) (s:St):Spec Tryz.prog 232 [.int .i64 op] s (.agg (othersF op).cells) s:=by
 obtain ⟨B,L,c⟩:=s
 refine Spec.introN [] Tryz.func232 rfl (by decide) hmix (by kernel_rfl) [ResultVar.cell 2 262] 33 rfl rfl ?_
 simp only [vqM,vt41,zA,zS]
 repeat' (first
  | (with_reducible refine ifI_intro (fun hc=>?_) (fun hc=>?_) <;> simp only [vqM,vt41,hc,zA,zL])
  | ((with_reducible refine is_q ?_);refine ret_loc (.inr rfl) ?_ (bd_agg (Fl.bd _)) (fun _ h=>h) (Nat.le_refl _) <;> (try simp only [vqM,vt41,zA]) <;> (first | (simp only [othersF,Fl.cells, *];done) | (simp_all [othersF,Fl.cells];done) | (simp_all [othersF,Fl.cells];omega))))
theorem t_table (op:Int) (s:St):Spec Tryz.prog 187 [.int .i64 op] s (.agg (tableF op).cells) s:=by
 obtain ⟨B,L,c⟩:=s
 refine Spec.introN [] Tryz.func187 rfl (by decide) hmix (by kernel_rfl) [ResultVar.cell 2 262] 46 rfl rfl ?_
 simp only [vqM,vt41,zA,zS]
 repeat' (first
  | ((with_reducible refine is_call ?_);refine callI_spec (t_others _ _) ?_;simp only [vqM,vt41,zA,vsFl])
  | (with_reducible refine ifI_intro (fun hc=>?_) (fun hc=>?_) <;> simp only [vqM,vt41,hc,zA,zL])
  | ((with_reducible refine is_q ?_);refine ret_loc (.inr rfl) ?_ (bd_agg (Fl.bd _)) (fun _ h=>h) (Nat.le_refl _) <;> (try simp only [vqM,vt41,zA,vsFl]) <;> (first | (simp only [tableF,Fl.cells, *];done) | (simp_all [tableF,Fl.cells];done) | (simp_all [tableF,Fl.cells];omega))))
def numberB (k:Ck) (w n:Int):Bool :=
 if w=1 then inB n k.d.params.length (w64 (k.d.vars - 1))
 else if w=2 then decide (n = -1) || inB n k.d.params.length (w64 (k.d.vars - 1))
 else if w=3 then inB n 0 (w64 (k.d.refs - 1))
 else if w=4 then inB n 0 (w64 (k.d.arrays.length - 1))
 else if w=5 then inB n 0 (w64 (k.x.globals.length - 1))
 else if w=6 then inB n 0 (w64 (k.x.classes.length - 1))
 else if w=7 then inB n 0 (w64 (k.x.queues.length - 1))
 else if w=8 then inB n 0 (w64 (k.x.sinks.length - 1))
 else if w=9 then inB n 0 (w64 (k.x.locks - 1))
 else if w=10 then inB n 0 (w64 (k.x.parts - 1))
 else if w=11 then inB n 1 1073741824
 else if w=12 then inB n 1 16
 else if w=13 then inB n 1 31
 else decide (n=0)
theorem t_number (k:Ck) (w n:Int) (s:St):Spec Tryz.prog 188 [.agg k.cells,.int .i64 w,.int .i64 n] s (.bool (numberB k w n)) s:=by
 obtain ⟨B,L,c⟩:=s
 refine Spec.introN [] Tryz.func188 rfl (by decide) hmix (by kernel_rfl) [ResultVar.tmp 6] 119 rfl rfl ?_
 simp only [vqM,zA,zS]
 repeat' (first
  | ((with_reducible refine is_call ?_);refine callI_spec (t_in _ _ _ _) ?_;simp only [vqM])
  | (with_reducible refine ifI_intro (fun hc=>?_) (fun hc=>?_) <;> simp only [vqM,vt42,hc,zA,vsCk,rgCells_len,arCells_len,quCells_len,intCells_len,w64_eq])
  | ((with_reducible refine is_q ?_);refine ret_loc (.inr rfl) ?_ (.bool _) (fun _ h=>h) (Nat.le_refl _) <;> (try simp only [vqM]) <;> (first | (simp only [numberB, *,Bool.true_or,Bool.false_or];done) | (simp_all [numberB];done) | (simp_all [numberB];omega))))
def exprFB (k:Ck) (has:Bool) (e:Ex):Bool:=(has && valueB k e) || (!has && decide (e.op=0) && decide (e.n=0) && decide (e.v=0) && decide ((e.a.length:Int)=0))
theorem t_stmt1 (k:Ck) (has:Bool) (e:Ex) (b:Nat) (B:List Box) (L:List Nat) (c:Nat) (hb:B[b]? = some (.cells k.cells)) :
  Spec Tryz.prog 189 [.bool has,.agg e.cells,.box b 0] ⟨B,L,c⟩ (.bool (exprFB k has e)) ⟨B,L,c⟩:=by
 have hb2:∀ X,(B++X)[b]? = some (.cells k.cells):=fun X=>box_lt hb
 refine Spec.introN [] Tryz.func189 rfl (by decide) hmix (by kernel_rfl) [ResultVar.tmp 5] 37 rfl rfl ?_
 simp only [vqM,zA,zS]
 repeat' (first
  | ((with_reducible refine is_call ?_);refine callI_spec (t_valueC _ _ _) ?_;simp only [vqM])
  | (with_reducible refine ifI_intro (fun hc=>?_) (fun hc=>?_) <;> simp only [vqM,vt43,hc,zA,vsCk,exCells_len,hb2])
  | ((with_reducible refine is_q ?_);refine ret_loc (.inr rfl) ?_ (.bool _) (fun _ h=>h) (Nat.le_refl _) <;> (try simp only [vqM]) <;> (first | (simp only [exprFB, *,Bool.true_and,Bool.false_and,Bool.and_true,Bool.and_false,Bool.false_or,Bool.or_false,Bool.not_true,Bool.not_false];done) | (simp_all [exprFB];done) | (simp_all [exprFB];omega))))
theorem t_stmt2 (k:Ck) (n:Int) (b:Nat) (B:List Box) (L:List Nat) (c:Nat) (hb:B[b]? = some (.cells k.cells)) :
  Spec Tryz.prog 192 [.int .i64 n,.box b 0] ⟨B,L,c⟩ (.bool (numberB k 3 n)) ⟨B,L,c⟩:=by
 refine Spec.introN [] Tryz.func192 rfl (by decide) hmix (by kernel_rfl) [ResultVar.tmp 3] 7 rfl rfl ?_
 simp only [vqM,zA,zS,tf211,vsCk,hb]
 repeat' (first
  | ((with_reducible refine is_call ?_);refine callI_spec (t_number _ _ _ _) ?_;simp only [vqM])
  | (with_reducible refine ifI_intro (fun hc=>?_) (fun hc=>?_) <;> simp only [vqM,hc,zA,zS,zM,zL,zE,zB,reduceCtorEq,tf211,vsCk,hb])
  | ((with_reducible refine is_q ?_);refine ret_here (.inr rfl) ?_ (.bool _) <;> (try simp only [vqM]) <;> (first | (simp only [*,Bool.true_and,Bool.false_and,Bool.and_true,Bool.and_false,Bool.true_or,Bool.false_or,Bool.or_true,Bool.or_false,Bool.not_true,Bool.not_false,cond_true,cond_false,if_true,if_false];done) | (simp_all [];done) | (simp_all [];omega))))
def condFB (k:Ck) (f:Fl) (c:Co):Bool:=(f.c && testB k c) || (!f.c && decide (c.op=0) && decide (w64 (c.a.length+c.c.length)=0))
def callFB (k:Ck) (f:Fl) (s:Sm):Bool:=(f.call && everyB s.args 12 (valueB k) && everyB s.ptrs 4 (numberB k 3)) || (!f.call && decide (w64 (s.args.length+s.ptrs.length)=0))
def nofl (f:Fl):Bool:=decide (f.n=0) && (decide (f.m=0) && (decide (f.v=0) && ((f.x == false) && ((f.y == false) && ((f.c == false) && ((f.call == false) && ((f.body == false) && (f.rest == false))))))))
theorem nofl_eq (f:Fl):(decide (f.n=0) && (decide (f.m=0) && (decide (f.v=0) && ((f.x == false) && ((f.y == false) && ((f.c == false) && ((f.call == false) && ((f.body == false) && (f.rest == false)))))))))=nofl f:=rfl
def stmtB (k:Ck) (s:Sm):Bool :=
 !(nofl (tableF s.op) || !inB s.site 1 1073741824 || !numberB k (tableF s.op).n s.n || !numberB k (tableF s.op).m s.m || !numberB k (tableF s.op).v s.v) &&
 (exprFB k (tableF s.op).x s.x && exprFB k (tableF s.op).y s.y && condFB k (tableF s.op) s.c && callFB k (tableF s.op) s && ((tableF s.op).body || decide ((s.body.length:Int)=0)) && ((tableF s.op).rest || decide ((s.els.length:Int)=0)))
theorem t_stmtC (k:Ck) (m:Sm) (s:St):Spec Tryz.prog 135 [.agg k.cells,.agg m.cells] s (.bool (stmtB k m)) s:=by
 obtain ⟨B,L,c⟩:=s
 refine Spec.introN [(5,.cut),(7,.cut)] Tryz.func135 rfl (by decide) hmix (by kernel_rfl) [ResultVar.tmp 4] 152 rfl rfl ?_
 simp only [vqM,vt44,zA,zS,zB]
 refine callI_spec (t_table _ _) ?_
 generalize hf:tableF m.op=f
 have hp2:∀ (n:Int) (X:List Box),CallV Tryz.prog (.func (.func 192) [] [.box B.length 0]) [.int .i64 n] ⟨(B++[.cells k.cells,.cells m.cells,.cells f.cells])++X,L,c⟩ (.bool (numberB k 3 n)) ⟨(B++[.cells k.cells,.cells m.cells,.cells f.cells])++X,L,c⟩ :=
  fun n X=>t_stmt2 k n B.length _ L c (by rw [List.append_assoc,box_at0];rfl)
 simp only [vqM,vt44,zA,zB,vsFl,nofl_eq]
 repeat' (first
  | ((with_reducible refine is_call ?_);refine callI_spec (t_in _ _ _ _) ?_;simp only [vqM])
  | ((with_reducible refine is_call ?_);refine callI_spec (t_number _ _ _ _) ?_;simp only [vqM])
  | (with_reducible refine ifI_intro (fun hc=>?_) (fun hc=>?_) <;> simp only [vqM,vt44,hc,zA,zB,vsCk,vsFl])
  | ((with_reducible refine is_q ?_);refine ret_loc (.inr rfl) ?_ (.bool _) (fun _ h=>h) (Nat.le_refl _) <;> (try simp only [vqM]) <;> (first | (simp only [stmtB, *,Bool.false_and,Bool.true_or,Bool.or_true,Bool.or_false,Bool.not_true];done) | (simp_all [stmtB];done) | (simp_all [stmtB];omega))))
 refine seq_join hmix [2,3,5,6,7] [Jk,Jk,.box B.length 0,.box (B.length+1) 0,Jk,.box (B.length+2) 0,.func (.func 189) [] [.box B.length 0],.bool (condFB k f m.c),Jk,Jk,Jk,Jk,Jk,Jk,Jk,Jk,Jk,Jk,Jk,Jk,Jk,Jk,Jk,Jk,Jk,Jk,Jk,Jk,Jk,Jk,Jk,Jk,Jk,Jk,Jk,Jk,Jk,Jk,Jk,Jk,Jk,Jk,Jk,Jk,Jk,Jk,Jk,Jk,Jk,Jk,Jk,Jk,Jk,Jk,Jk,Jk,Jk,Jk,Jk,Jk,Jk,Jk,Jk,Jk,Jk,Jk,Jk,Jk,Jk,Jk,Jk,Jk,Jk,Jk,Jk,Jk,Jk,Jk,Jk,Jk,Jk,Jk,Jk,Jk,Jk,Jk,Jk,Jk,Jk,Jk,Jk,Jk,Jk,Jk,Jk,Jk,Jk,Jk,Jk,Jk,Jk,Jk,Jk,Jk,Jk,Jk,Jk,Jk,Jk,Jk,Jk,Jk,Jk,Jk,Jk,Jk,Jk,Jk,Jk,Jk,Jk,Jk,Jk,Jk,Jk,Jk,Jk,Jk,Jk,Jk,Jk,Jk,Jk,Jk,Jk,Jk,Jk,Jk,Jk,Jk,Jk,Jk,Jk,Jk,Jk,Jk,Jk,Jk,Jk,Jk,Jk,Jk] (fun s=>s=⟨B++[.cells k.cells,.cells m.cells,.cells f.cells],L,c⟩) ?_ ?_
 ·simp only [vqM,vt44,zA,vsFl]
  repeat' (first
   | ((with_reducible refine is_call ?_);refine callI_spec (t_testC _ _ _) ?_;simp only [vqM])
   | (with_reducible refine ifI_intro (fun hc=>?_) (fun hc=>?_) <;> simp only [vqM,vt44,hc,zA,zS,zL,vsCk,vsFl,exCells_len,coCells_len,w64_eq])
   | ((with_reducible refine is_q ?_);refine meet_intro ⟨?_,rfl⟩ <;> simp only [vke,zB,zA] <;> (first | (simp only [condFB, *,Bool.true_and,Bool.false_and,Bool.and_true,Bool.and_false,Bool.false_or,Bool.or_false,Bool.not_true,Bool.not_false];done) | (simp_all [condFB];done) | (simp_all [condFB];omega))))
 rintro s rfl
 simp only [vqM,zB]
 refine seq_join hmix [2,3,5,6,7,9] [Jk,Jk,.box B.length 0,.box (B.length+1) 0,Jk,.box (B.length+2) 0,.func (.func 189) [] [.box B.length 0],.bool (condFB k f m.c),Jk,.bool (callFB k f m),Jk,Jk,Jk,Jk,Jk,Jk,Jk,Jk,Jk,Jk,Jk,Jk,Jk,Jk,Jk,Jk,Jk,Jk,Jk,Jk,Jk,Jk,Jk,Jk,Jk,Jk,Jk,Jk,Jk,Jk,Jk,Jk,Jk,Jk,Jk,Jk,Jk,Jk,Jk,Jk,Jk,Jk,Jk,Jk,Jk,Jk,Jk,Jk,Jk,Jk,Jk,Jk,Jk,Jk,Jk,Jk,Jk,Jk,Jk,Jk,Jk,Jk,Jk,Jk,Jk,Jk,Jk,Jk,Jk,Jk,Jk,Jk,Jk,Jk,Jk,Jk,Jk,Jk,Jk,Jk,Jk,Jk,Jk,Jk,Jk,Jk,Jk,Jk,Jk,Jk,Jk,Jk,Jk,Jk,Jk,Jk,Jk,Jk,Jk,Jk,Jk,Jk,Jk,Jk,Jk,Jk,Jk,Jk,Jk,Jk,Jk,Jk,Jk,Jk,Jk,Jk,Jk,Jk,Jk,Jk,Jk,Jk,Jk,Jk,Jk,Jk,Jk,Jk,Jk,Jk,Jk,Jk,Jk,Jk,Jk,Jk,Jk,Jk,Jk,Jk,Jk,Jk] (fun s=>s=⟨B++[.cells k.cells,.cells m.cells,.cells f.cells],L,c⟩) ?_ ?_
 ·simp only [vqM,vt44,zA,vsFl]
  repeat' (first
   | ((with_reducible refine is_call ?_);refine callI_spec (t_everyEx (.func (.func 190) [.agg k.cells] []) (valueB k) _ _ _ _ _ rfl rfl rfl fun x _ Y=>t_valueC k x _) ?_;simp only [vqM])
   | ((with_reducible refine is_call ?_);refine callI_spec (t_everyInt (.func (.func 192) [] [.box B.length 0]) (numberB k 3) _ _ _ _ _ rfl rfl rfl fun x _ Y=>hp2 x Y) ?_;simp only [vqM])
   | (with_reducible refine ifI_intro (fun hc=>?_) (fun hc=>?_) <;> simp only [vqM,vt44,hc,zA,vsCk,vsFl,exCells_len,intCells_len,w64_eq])
   | ((with_reducible refine is_q ?_);refine meet_intro ⟨?_,rfl⟩ <;> simp only [vke,zB,zA] <;> (first | (simp only [callFB, *,Bool.true_and,Bool.false_and,Bool.and_true,Bool.and_false,Bool.false_or,Bool.or_false,Bool.not_true,Bool.not_false];done) | (simp_all [callFB];done) | (simp_all [callFB];omega))))
 rintro s rfl
 simp only [vqM,vt44,zA,zS,zL,zB,vsFl]
 have hp1:∀ (b:Bool) (e:Ex),CallV Tryz.prog (.func (.func 189) [] [.box B.length 0]) [.bool b,.agg e.cells] ⟨B++[.cells k.cells,.cells m.cells,.cells f.cells],L,c⟩ (.bool (exprFB k b e)) ⟨B++[.cells k.cells,.cells m.cells,.cells f.cells],L,c⟩ :=
  fun b e=>t_stmt1 k b e B.length _ L c (by rw [box_at0];rfl)
 repeat' (first
  | (refine callI_of (hp1 _ _) ?_;simp only [vqM])
  | (with_reducible refine ifI_intro (fun hc=>?_) (fun hc=>?_) <;> simp only [vqR,vt44,hc,zA,zS,zL,vsFl,smCells_len])
  | ((with_reducible refine is_q ?_);refine ret_loc (.inr rfl) ?_ (.bool _) (fun _ h=>h) (Nat.le_refl _) <;> (try simp only [vqM]) <;> (simp only [stmtB, *,Bool.true_and,Bool.false_and,Bool.and_true,Bool.and_false,Bool.true_or,Bool.false_or,Bool.or_true,Bool.or_false,Bool.not_false];done)))
structure Pl where
 s:Sm
 depth:Int
def Pl.cells (x:Pl):List D:=x.s.cells++([.int .i64 x.depth])
theorem Pl.cells_len (x:Pl):x.cells.length=21:=by obtain ⟨⟨_,_,_,_,_,⟨_,_,_,_⟩,⟨_,_,_,_⟩,⟨_,_,_⟩,_,_,_,_⟩,_⟩:=x;rfl
theorem Pl.plain (x:Pl):x.cells.map D.plain1=x.cells:=by obtain ⟨⟨_,_,_,_,_,⟨_,_,_,_⟩,⟨_,_,_,_⟩,⟨_,_,_⟩,_,_,_,_⟩,_⟩:=x;rfl
theorem Pl.keep1 (x:Pl):x.cells.map D.keep1=x.cells:=by obtain ⟨⟨_,_,_,_,_,⟨_,_,_,_⟩,⟨_,_,_,_⟩,⟨_,_,_⟩,_,_,_,_⟩,_⟩:=x;rfl
theorem Pl.take0 (x:Pl):x.cells.take 21=x.cells:=List.take_of_length_le (by rw [Pl.cells_len];decide)
theorem Pl.drop0 (x:Pl) (l:List D):(x.cells++l).drop 21=l:=by have:=List.drop_left (l₁:=x.cells) (l₂:=l);rwa [Pl.cells_len] at this
theorem Pl.takeB (x:Pl) (l:List D):(x.cells++l).take 21=x.cells:=by have:=List.take_left (l₁:=x.cells) (l₂:=l);rwa [Pl.cells_len] at this
theorem Pl.lenA (x:Pl) (l:List D):(x.cells++l).length=21+l.length:=by rw [List.length_append,Pl.cells_len]
theorem Pl.t_s (x:Pl):x.cells.take 20=x.s.cells:=by obtain ⟨⟨_,_,_,_,_,⟨_,_,_,_⟩,⟨_,_,_,_⟩,⟨_,_,_⟩,_,_,_,_⟩,_⟩:=x;rfl
theorem Pl.f_s_site (x:Pl):x.cells[0]? = some (.int .i64 x.s.site):=by obtain ⟨⟨_,_,_,_,_,⟨_,_,_,_⟩,⟨_,_,_,_⟩,⟨_,_,_⟩,_,_,_,_⟩,_⟩:=x;rfl
theorem Pl.f_s_op (x:Pl):(x.cells.drop 1)[0]? = some (.int .i64 x.s.op):=by obtain ⟨⟨_,_,_,_,_,⟨_,_,_,_⟩,⟨_,_,_,_⟩,⟨_,_,_⟩,_,_,_,_⟩,_⟩:=x;rfl
theorem Pl.f_s_n (x:Pl):(x.cells.drop 2)[0]? = some (.int .i64 x.s.n):=by obtain ⟨⟨_,_,_,_,_,⟨_,_,_,_⟩,⟨_,_,_,_⟩,⟨_,_,_⟩,_,_,_,_⟩,_⟩:=x;rfl
theorem Pl.f_s_m (x:Pl):(x.cells.drop 3)[0]? = some (.int .i64 x.s.m):=by obtain ⟨⟨_,_,_,_,_,⟨_,_,_,_⟩,⟨_,_,_,_⟩,⟨_,_,_⟩,_,_,_,_⟩,_⟩:=x;rfl
theorem Pl.f_s_v (x:Pl):(x.cells.drop 4)[0]? = some (.int .i64 x.s.v):=by obtain ⟨⟨_,_,_,_,_,⟨_,_,_,_⟩,⟨_,_,_,_⟩,⟨_,_,_⟩,_,_,_,_⟩,_⟩:=x;rfl
theorem Pl.t_s_x (x:Pl):(x.cells.drop 5).take 4=x.s.x.cells:=by obtain ⟨⟨_,_,_,_,_,⟨_,_,_,_⟩,⟨_,_,_,_⟩,⟨_,_,_⟩,_,_,_,_⟩,_⟩:=x;rfl
theorem Pl.f_s_x_op (x:Pl):(x.cells.drop 5)[0]? = some (.int .i64 x.s.x.op):=by obtain ⟨⟨_,_,_,_,_,⟨_,_,_,_⟩,⟨_,_,_,_⟩,⟨_,_,_⟩,_,_,_,_⟩,_⟩:=x;rfl
theorem Pl.f_s_x_n (x:Pl):(x.cells.drop 6)[0]? = some (.int .i64 x.s.x.n):=by obtain ⟨⟨_,_,_,_,_,⟨_,_,_,_⟩,⟨_,_,_,_⟩,⟨_,_,_⟩,_,_,_,_⟩,_⟩:=x;rfl
theorem Pl.f_s_x_v (x:Pl):(x.cells.drop 7)[0]? = some (.int .i64 x.s.x.v):=by obtain ⟨⟨_,_,_,_,_,⟨_,_,_,_⟩,⟨_,_,_,_⟩,⟨_,_,_⟩,_,_,_,_⟩,_⟩:=x;rfl
theorem Pl.f_s_x_a (x:Pl):(x.cells.drop 8)[0]? = some (.slice .none (Ex.encs x.s.x.a)):=by obtain ⟨⟨_,_,_,_,_,⟨_,_,_,_⟩,⟨_,_,_,_⟩,⟨_,_,_⟩,_,_,_,_⟩,_⟩:=x;rfl
theorem Pl.t_s_y (x:Pl):(x.cells.drop 9).take 4=x.s.y.cells:=by obtain ⟨⟨_,_,_,_,_,⟨_,_,_,_⟩,⟨_,_,_,_⟩,⟨_,_,_⟩,_,_,_,_⟩,_⟩:=x;rfl
theorem Pl.f_s_y_op (x:Pl):(x.cells.drop 9)[0]? = some (.int .i64 x.s.y.op):=by obtain ⟨⟨_,_,_,_,_,⟨_,_,_,_⟩,⟨_,_,_,_⟩,⟨_,_,_⟩,_,_,_,_⟩,_⟩:=x;rfl
theorem Pl.f_s_y_n (x:Pl):(x.cells.drop 10)[0]? = some (.int .i64 x.s.y.n):=by obtain ⟨⟨_,_,_,_,_,⟨_,_,_,_⟩,⟨_,_,_,_⟩,⟨_,_,_⟩,_,_,_,_⟩,_⟩:=x;rfl
theorem Pl.f_s_y_v (x:Pl):(x.cells.drop 11)[0]? = some (.int .i64 x.s.y.v):=by obtain ⟨⟨_,_,_,_,_,⟨_,_,_,_⟩,⟨_,_,_,_⟩,⟨_,_,_⟩,_,_,_,_⟩,_⟩:=x;rfl
theorem Pl.f_s_y_a (x:Pl):(x.cells.drop 12)[0]? = some (.slice .none (Ex.encs x.s.y.a)):=by obtain ⟨⟨_,_,_,_,_,⟨_,_,_,_⟩,⟨_,_,_,_⟩,⟨_,_,_⟩,_,_,_,_⟩,_⟩:=x;rfl
theorem Pl.t_s_c (x:Pl):(x.cells.drop 13).take 3=x.s.c.cells:=by obtain ⟨⟨_,_,_,_,_,⟨_,_,_,_⟩,⟨_,_,_,_⟩,⟨_,_,_⟩,_,_,_,_⟩,_⟩:=x;rfl
theorem Pl.f_s_c_op (x:Pl):(x.cells.drop 13)[0]? = some (.int .i64 x.s.c.op):=by obtain ⟨⟨_,_,_,_,_,⟨_,_,_,_⟩,⟨_,_,_,_⟩,⟨_,_,_⟩,_,_,_,_⟩,_⟩:=x;rfl
theorem Pl.f_s_c_a (x:Pl):(x.cells.drop 14)[0]? = some (.slice .none (Ex.encs x.s.c.a)):=by obtain ⟨⟨_,_,_,_,_,⟨_,_,_,_⟩,⟨_,_,_,_⟩,⟨_,_,_⟩,_,_,_,_⟩,_⟩:=x;rfl
theorem Pl.f_s_c_c (x:Pl):(x.cells.drop 15)[0]? = some (.slice .none (Co.encs x.s.c.c)):=by obtain ⟨⟨_,_,_,_,_,⟨_,_,_,_⟩,⟨_,_,_,_⟩,⟨_,_,_⟩,_,_,_,_⟩,_⟩:=x;rfl
theorem Pl.f_s_args (x:Pl):(x.cells.drop 16)[0]? = some (.slice .none (Ex.encs x.s.args)):=by obtain ⟨⟨_,_,_,_,_,⟨_,_,_,_⟩,⟨_,_,_,_⟩,⟨_,_,_⟩,_,_,_,_⟩,_⟩:=x;rfl
theorem Pl.f_s_ptrs (x:Pl):(x.cells.drop 17)[0]? = some (.slice .none (intCells x.s.ptrs)):=by obtain ⟨⟨_,_,_,_,_,⟨_,_,_,_⟩,⟨_,_,_,_⟩,⟨_,_,_⟩,_,_,_,_⟩,_⟩:=x;rfl
theorem Pl.f_s_body (x:Pl):(x.cells.drop 18)[0]? = some (.slice .none (Sm.encs x.s.body)):=by obtain ⟨⟨_,_,_,_,_,⟨_,_,_,_⟩,⟨_,_,_,_⟩,⟨_,_,_⟩,_,_,_,_⟩,_⟩:=x;rfl
theorem Pl.f_s_els (x:Pl):(x.cells.drop 19)[0]? = some (.slice .none (Sm.encs x.s.els)):=by obtain ⟨⟨_,_,_,_,_,⟨_,_,_,_⟩,⟨_,_,_,_⟩,⟨_,_,_⟩,_,_,_,_⟩,_⟩:=x;rfl
theorem Pl.f_depth (x:Pl):(x.cells.drop 20)[0]? = some (.int .i64 x.depth):=by obtain ⟨⟨_,_,_,_,_,⟨_,_,_,_⟩,⟨_,_,_,_⟩,⟨_,_,_⟩,_,_,_,_⟩,_⟩:=x;rfl
theorem vsPl:(type_of% @Pl.cells_len)∧(type_of% @Pl.plain)∧(type_of% @Pl.keep1)∧(type_of% @Pl.take0)∧(type_of% @Pl.drop0)∧(type_of% @Pl.takeB)∧(type_of% @Pl.lenA)∧(type_of% @Pl.t_s)∧(type_of% @Pl.f_s_site)∧(type_of% @Pl.f_s_op)∧(type_of% @Pl.f_s_n)∧(type_of% @Pl.f_s_m)∧(type_of% @Pl.f_s_v)∧(type_of% @Pl.t_s_x)∧(type_of% @Pl.f_s_x_op)∧(type_of% @Pl.f_s_x_n)∧(type_of% @Pl.f_s_x_v)∧(type_of% @Pl.f_s_x_a)∧(type_of% @Pl.t_s_y)∧(type_of% @Pl.f_s_y_op)∧(type_of% @Pl.f_s_y_n)∧(type_of% @Pl.f_s_y_v)∧(type_of% @Pl.f_s_y_a)∧(type_of% @Pl.t_s_c)∧(type_of% @Pl.f_s_c_op)∧(type_of% @Pl.f_s_c_a)∧(type_of% @Pl.f_s_c_c)∧(type_of% @Pl.f_s_args)∧(type_of% @Pl.f_s_ptrs)∧(type_of% @Pl.f_s_body)∧(type_of% @Pl.f_s_els)∧(type_of% @Pl.f_depth) :=
 ⟨@Pl.cells_len,@Pl.plain,@Pl.keep1,@Pl.take0,@Pl.drop0,@Pl.takeB,@Pl.lenA,@Pl.t_s,@Pl.f_s_site,@Pl.f_s_op,@Pl.f_s_n,@Pl.f_s_m,@Pl.f_s_v,@Pl.t_s_x,@Pl.f_s_x_op,@Pl.f_s_x_n,@Pl.f_s_x_v,@Pl.f_s_x_a,@Pl.t_s_y,@Pl.f_s_y_op,@Pl.f_s_y_n,@Pl.f_s_y_v,@Pl.f_s_y_a,@Pl.t_s_c,@Pl.f_s_c_op,@Pl.f_s_c_a,@Pl.f_s_c_c,@Pl.f_s_args,@Pl.f_s_ptrs,@Pl.f_s_body,@Pl.f_s_els,@Pl.f_depth⟩
def Pl.encs (l:List Pl):List (List D):=l.map Pl.cells
theorem Pl.encs_len (l:List Pl):(Pl.encs l).length=l.length:=by simp [Pl.encs]
mutual
def Sm.flat (d:Int):Sm→List Pl
 | .mk site op n m v x y c args ptrs body els=>⟨.mk site op n m v x y c args ptrs body els,d⟩::(flatL (w64 (d+1)) body++flatL (w64 (d+1)) els)
def flatL (d:Int):List Sm→List Pl
 | []=>[]
 | x::l=>Sm.flat d x++flatL d l
end
theorem Sm.flat_eq (d:Int) (x:Sm):Sm.flat d x=⟨x,d⟩::(flatL (w64 (d+1)) x.body++flatL (w64 (d+1)) x.els):=by cases x;rfl
abbrev Pt:=Nat→Box→Prop
def Prs (Pr:Pt) (s:St):Prop:=∀ i x,Pr i x→s.boxes[i]? = some x
def ext (Pr:Pt) (s:St) (X:List Box):Pt:=fun i x=>Pr i x∨(s.boxes.length≤i∧X[i - s.boxes.length]? = some x)
theorem ext_ext (Pr:Pt) (B:List Box) (L:List Nat) (c:Nat) (X Y:List Box):ext (ext Pr ⟨B,L,c⟩ X) ⟨B++X,L,c⟩ Y=ext Pr ⟨B,L,c⟩ (X++Y):=by
 funext i x
 simp only [ext,List.length_append,eq_iff_iff]
 constructor
 ·rintro ((h | ⟨h1,h2⟩) | ⟨h1,h2⟩)
  ·exact .inl h
  ·refine .inr ⟨h1,?_⟩
   have:i - B.length<X.length:=by
    rcases Nat.lt_or_ge (i - B.length) X.length with q | q
    ·exact q
    ·rw [List.getElem?_eq_none q] at h2;cases h2
   rw [List.getElem?_append_left this];exact h2
  ·refine .inr ⟨by omega,?_⟩
   rw [List.getElem?_append_right (by omega),show i - B.length - X.length=i - (B.length+X.length) by omega];exact h2
 ·rintro (h | ⟨h1,h2⟩)
  ·exact .inl (.inl h)
  ·by_cases hx:i - B.length<X.length
   ·rw [List.getElem?_append_left hx] at h2;exact .inl (.inr ⟨h1,h2⟩)
   ·rw [List.getElem?_append_right (by omega)] at h2
    exact .inr ⟨by omega,by rw [show i - (B.length+X.length)=i - B.length - X.length by omega];exact h2⟩
theorem prs_ext {Pr:Pt} {B:List Box} {L:List Nat} {c:Nat} (h:Prs Pr ⟨B,L,c⟩) (X:List Box):Prs (ext Pr ⟨B,L,c⟩ X) ⟨B++X,L,c⟩:=by
 rintro i x (q | ⟨q1,q2⟩)
 ·exact box_lt (h i x q)
 ·rw [List.getElem?_append_right q1];exact q2
abbrev Zt:=Bool→Pt→St→Prop
def Yw (P:Program) (y:D):List Pl→Zt→Pt→St→Prop
 | [],Z,Pr,s=>Z true Pr s
 | p::ps,Z,Pr,s=>∀ X:List Box,CallVQ P y [.agg p.cells] ⟨s.boxes++X,s.live,s.ctr⟩ fun d s1=>Prs (ext Pr s X) s1∧((d=.bool true∧Yw P y ps Z (ext Pr s X) s1)∨(d=.bool false∧Z false (ext Pr s X) s1))
def Stb (Z:Zt):Prop:=∀ b Pr s X,Z b Pr s→Z b (ext Pr s X) ⟨s.boxes++X,s.live,s.ctr⟩
theorem Yw_stb {P:Program} {y:D} {Z:Zt} (hZ:Stb Z):∀ (ps:List Pl) (Pr:Pt) (s:St) (X:List Box),Yw P y ps Z Pr s→Yw P y ps Z (ext Pr s X) ⟨s.boxes++X,s.live,s.ctr⟩:=by
 intro ps
 cases ps with
 | nil=>intro Pr s X h;exact hZ _ _ _ _ h
 | cons p ps=>intro Pr s X h Y;obtain ⟨B,L,c⟩:=s;simp only [ext_ext,List.append_assoc];exact h (X++Y)
def ZThen (P:Program) (y:D) (qs:List Pl) (Z:Zt):Zt:=fun b Pr s=>if b=true then Yw P y qs Z Pr s else Z false Pr s
theorem Yw_append {P:Program} {y:D} {Z:Zt} (qs:List Pl):∀ (ps:List Pl) (Pr:Pt) (s:St),Yw P y (ps++qs) Z Pr s→Yw P y ps (ZThen P y qs Z) Pr s:=by
 intro ps
 induction ps with
 | nil=>intro Pr s hs;simpa [Yw,ZThen] using hs
 | cons p ps ih=>intro Pr s hs X;exact (hs X).mono fun d s1 hd=>⟨hd.1,hd.2.imp (fun q=>⟨q.1,ih _ _ q.2⟩) (fun q=>⟨q.1,by simpa [ZThen] using q.2⟩)⟩
theorem stb_then {P:Program} {y:D} {Z:Zt} (hZ:Stb Z) (qs:List Pl):Stb (ZThen P y qs Z):=by
 intro b Pr s X h
 unfold ZThen at h ⊢
 split
 ·rename_i hb;rw [if_pos hb] at h;exact Yw_stb hZ _ _ _ _ h
 ·rename_i hb;rw [if_neg hb] at h;exact hZ _ _ _ _ h
def Wend (Z:Zt) (Pr:Pt):D→St→Prop:=fun r s'=>∃ q Pr',r=.bool q∧(∀ i x,Pr i x→Pr' i x)∧Prs Pr' s'∧Z q Pr' s'
def WalkS (l:List Sm):Prop:=∀ (d:Int) (b:Nat) (Z:Zt) (Pr:Pt) (s:St),Stb Z→Prs Pr s→Yw Tryz.prog (.yield b) (flatL d l) Z Pr s →
 SpecQ Tryz.prog 168 [.slice .none (Sm.encs l),.int .i64 d,.yield b] s (Wend Z Pr)
theorem t_walk_of (l:List Sm) (ih:∀ x ∈ l,WalkS x.body∧WalkS x.els):WalkS l:=by
 intro d b Z Pr s hZ hPr hY
 refine SpecQ.small fun hsm=>?_
 have hlen:=(hsm _ (.head _)).len
 rw [smCells_len] at hlen
 clear hsm
 refine SpecQ.introA [] Tryz.func168 rfl (by decide) hmix (by kernel_rfl) [ResultVar.tmp 6] 40 rfl rfl ?_
 simp only [vqM,vt45,zA,zS,smCells_len]
 refine awN_keep [1,2,9,10,11] ?_
 simp only [vke,zB,zA]
 refine awN_forR hmix l.length (fun j e s=>e=[Jk,.int .i64 d,.yield b,Jk,Jk,Jk,Jk,Jk,Jk,.slice .none (Sm.encs l),.int .i64 l.length,.int .i64 (j:Int),Jk,Jk,Jk,Jk,Jk,Jk,Jk,Jk,Jk,Jk,Jk,Jk,Jk,Jk,Jk,Jk,Jk,Jk,Jk,Jk,Jk,Jk,Jk,Jk,Jk,Jk,Jk,Jk]∧∃ Pr',(∀ i x,Pr i x→Pr' i x)∧Prs Pr' s∧Yw Tryz.prog (.yield b) (flatL d (l.drop j)) Z Pr' s) ?_ ?_ 0 _ _ (Nat.zero_le _) ⟨rfl,Pr,fun _ _ h=>h,hPr,hY⟩
 ·rintro j e s hj ⟨rfl,Pr0,hle,hPr,hY⟩ ihl
  have hx:l[j]? = some l[j]:=List.getElem?_eq_getElem hj
  have hg:(Sm.encs l)[j]? = some l[j].cells:=by simp [Sm.encs_map,hx]
  have hklt:((j:Int)<(l.length:Int))=True:=by simp;exact hj
  have hd:l.drop j=l[j]::l.drop (j+1):=List.drop_eq_getElem_cons hj
  rw [hd,flatL,Sm.flat_eq] at hY
  obtain ⟨ih1,ih2⟩:=ih _ (List.getElem_mem hj)
  generalize l[j]=x at hx hg hd hY ih1 ih2
  simp only [List.cons_append,List.append_assoc] at hY
  obtain ⟨B,L,c⟩:=s
  simp only [vqM,vt45,zA,zL,hklt,decide_true,natle0,Int.toNat_natCast,hg]
  refine callI_ofQ (hY [.cells x.cells]) ?_
  have hin:ext Pr0 ⟨B,L,c⟩ [.cells x.cells] B.length (.cells x.cells):=.inr ⟨Nat.le_refl _,by simp⟩
  have hle1:∀ i x',Pr i x'→ext Pr0 ⟨B,L,c⟩ [.cells x.cells] i x':=fun i x' h=>.inl (hle i x' h)
  generalize ext Pr0 ⟨B,L,c⟩ [.cells x.cells]=Pr1 at hin hle1
  rintro dd ⟨B1,L1,c1⟩ ⟨hP1,⟨rfl,hY1⟩ | ⟨rfl,hF⟩⟩
  ·have hb1:B1[B.length]? = some (.cells x.cells):=hP1 _ _ hin
   simp only [vqM,vt45,zA,hb1,w64_eq]
   refine callI_specQ (ih1 _ _ _ _ _ (stb_then hZ _) hP1 (Yw_append _ _ _ _ hY1)) ?_
   rintro dd ⟨B2,L2,c2⟩ ⟨q,Pr2,rfl,hle2,hP2,hZ2⟩
   have hb2:B2[B.length]? = some (.cells x.cells):=hP2 _ _ (hle2 _ _ hin)
   cases q with
   | true =>
    have hY2:Yw Tryz.prog (.yield b) (flatL (w64 (d+1)) x.els++flatL d (l.drop (j+1))) Z Pr2 ⟨B2,L2,c2⟩:=hZ2
    simp only [vqM,vt45,zA,hb2,w64_eq]
    refine callI_specQ (ih2 _ _ _ _ _ (stb_then hZ _) hP2 (Yw_append _ _ _ _ hY2)) ?_
    rintro dd ⟨B3,L3,c3⟩ ⟨q,Pr3,rfl,hle3,hP3,hZ3⟩
    cases q with
    | true =>
     have hY3:Yw Tryz.prog (.yield b) (flatL d (l.drop (j+1))) Z Pr3 ⟨B3,L3,c3⟩:=hZ3
     simp only [vqM]
     rw [wrap_succ (by omega)]
     refine awN_keep [1,2,9,10,11] ?_
     simp only [vke,zB,zA]
     exact ihl _ _ ⟨rfl,Pr3,fun i x h=>hle3 _ _ (hle2 _ _ (hle1 _ _ h)),hP3,hY3⟩
    | false =>
     have hY3:Z false Pr3 ⟨B3,L3,c3⟩:=hZ3
     simp only [vqM]
     refine retA (.inr rfl) ?_ ⟨false,Pr3,rfl,fun i x h=>hle3 _ _ (hle2 _ _ (hle1 _ _ h)),hP3,hY3⟩
     simp only [vqM]
   | false =>
    have hY2:Z false Pr2 ⟨B2,L2,c2⟩:=hZ2
    simp only [vqM]
    refine retA (.inr rfl) ?_ ⟨false,Pr2,rfl,fun i x h=>hle2 _ _ (hle1 _ _ h),hP2,hY2⟩
    simp only [vqM]
  ·simp only [vqM]
   refine retA (.inr rfl) ?_ ⟨false,Pr1,rfl,hle1,hP1,hF⟩
   simp only [vqM]
 ·rintro e s ⟨rfl,Pr',hle,hPr,hY⟩
  have hklt:((l.length:Int)<(l.length:Int))=False:=by simp
  rw [List.drop_length] at hY
  simp only [vqM,hklt,decide_false]
  refine retA (.inr rfl) ?_ ⟨true,Pr',rfl,hle,hPr,hY⟩
  simp only [vqM]
mutual
theorem t_walkM:(x:Sm)→WalkS x.body∧WalkS x.els
 | .mk site op n m v x y c args ptrs body els=>⟨t_walk_of body (t_walkMs body),t_walk_of els (t_walkMs els)⟩
theorem t_walkMs:(l:List Sm)→∀ x ∈ l,WalkS x.body∧WalkS x.els
 | []=>by intro x hx;simp at hx
 | y::l=>by
  intro x hx
  rcases List.mem_cons.1 hx with e | hx
  ·rw [e];exact t_walkM y
  ·exact t_walkMs l x hx
end
theorem t_walk (l:List Sm):WalkS l:=t_walk_of l (t_walkMs l)
theorem t_all (l:List Sm) (d:Int) (B:List Box) (L:List Nat) (c:Nat):Spec Tryz.prog 118 [.slice .none (Sm.encs l),.int .i64 d] ⟨B,L,c⟩ (.func (.func 167) [] [.box B.length 0,.box (B.length+1) 0])
  ⟨B++[.cells [.slice .none (Sm.encs l)],.cells [.int .i64 d]],L,c⟩:=by
 show SpecQ _ _ _ _ _
 refine SpecQ.introA [] Tryz.func118 rfl (by decide) hmix (by kernel_rfl) [ResultVar.tmp 4] 6 rfl rfl ?_
 simp only [vqM,zA,zS]
 refine retA (.inr rfl) ?_ ⟨rfl,rfl⟩
 simp only [vqM]
theorem t_all1 (l:List Sm) (d:Int) (b b1 b2:Nat) (Z:Zt) (Pr:Pt) (s:St) (h1:s.boxes[b1]? = some (.cells [.slice .none (Sm.encs l)])) (h2:s.boxes[b2]? = some (.cells [.int .i64 d])) (hZ:Stb Z) (hPr:Prs Pr s) (hY:Yw Tryz.prog (.yield b) (flatL d l) Z Pr s) :
  SpecQ Tryz.prog 167 [.yield b,.box b1 0,.box b2 0] s fun _ s'=>∃ q Pr',(∀ i x,Pr i x→Pr' i x)∧Prs Pr' s'∧Z q Pr' s':=by
 obtain ⟨B,L,c⟩:=s
 have h1:B[b1]? = some (.cells [.slice .none (Sm.encs l)]):=h1
 have h2:B[b2]? = some (.cells [.int .i64 d]):=h2
 refine SpecQ.introA [] Tryz.func167 rfl (by decide) hmix (by kernel_rfl) [] 8 rfl rfl ?_
 simp only [vqM,vt46,zA,zS,h1,h2]
 refine callI_specQ (t_walk l _ _ _ _ _ hZ hPr hY) ?_
 rintro r s' ⟨q,Pr',rfl,q1,q2,q3⟩
 simp only [vqM]
 refine retA (.inl rfl) (r:=.tup []) ?_ ⟨q,Pr',q1,q2,q3⟩
 simp only [vqM]
 rfl
theorem range_all {X:Draws} {f:Operand} {ps:List Tmp} {asg bo:Code} {Q:QC} {e:List D} {B:List Box} {L:List Nat} {n:Nat} (b1 b2:Nat) (l:List Sm) (d:Int) (Z:Zt)
  (hf:val e f=.func (.func 167) [] [.box b1 0,.box b2 0]) (h1:B[b1]? = some (.cells [.slice .none (Sm.encs l)])) (h2:B[b2]? = some (.cells [.int .i64 d])) (hZ:Stb Z)
  (hY:drawsOk X asg=true→drawsOk X bo=true→Yw Tryz.prog (.yield B.length) (flatL d l) Z (fun _ _=>False) ⟨B++[.loop ps asg bo e .ready none],L,n⟩)
  (hz:∀ q Pr s1,Prs Pr s1→Z q Pr s1→@overI X Tryz.prog ps asg bo e B.length s1 Q):@AWNI X none Tryz.prog (.rangeFunc f ps.toArray asg bo) e ⟨B,L,n⟩ Q:=by
 refine awN_rangeFuncQ hf (fun q1 q2=>t_all1 l d B.length b1 b2 Z (fun _ _=>False) _ (box_lt h1) (box_lt h2) hZ (fun _ _ h=>h.elim) (hY q1 q2)) ?_
 rintro r s1 ⟨q,Pr',_,p1,p2⟩
 exact hz q Pr' s1 p1 p2
theorem Yw_inv {P:Program} {y:D} {Z:Zt} (ps:List Pl) (I:Nat→Pt→St→Prop) (hend:∀ Pr s,Prs Pr s→I ps.length Pr s→Z true Pr s)
  (step:∀ k p Pr s X,ps[k]? = some p→Prs Pr s→I k Pr s→CallVQ P y [.agg p.cells] ⟨s.boxes++X,s.live,s.ctr⟩ fun d s1=>Prs (ext Pr s X) s1∧((d=.bool true∧I (k+1) (ext Pr s X) s1)∨(d=.bool false∧Z false (ext Pr s X) s1))) :
  ∀ Pr s,Prs Pr s→I 0 Pr s→Yw P y ps Z Pr s:=by
 have key:∀ m k Pr s,k+m=ps.length→Prs Pr s→I k Pr s→Yw P y (ps.drop k) Z Pr s:=by
  intro m
  induction m with
  | zero =>
   intro k Pr s hk hP hI
   obtain rfl:k=ps.length:=by omega
   rw [List.drop_length];exact hend _ _ hP hI
  | succ m ih =>
   intro k Pr s hk hP hI
   have hlt:k<ps.length:=by omega
   rw [List.drop_eq_getElem_cons hlt]
   intro X
   exact (step k ps[k] Pr s X (List.getElem?_eq_getElem hlt) hP hI).mono fun d s1 hd=>⟨hd.1,hd.2.imp (fun q=>⟨q.1,ih _ _ _ (by omega) hd.1 q.2⟩) id⟩
 intro Pr s hP hI
 exact key ps.length 0 Pr s (by omega) hP hI
theorem range_allI {X:Draws} {f:Operand} {ps:List Tmp} {asg bo:Code} {Q:QC} {e:List D} {B:List Box} {L:List Nat} {n:Nat} (b1 b2:Nat) (l:List Sm) (d:Int) (I:Nat→List Box→List Nat→Nat→Prop) (G:List Box→List Nat→Nat→Code→Prop)
  (hf:val e f=.func (.func 167) [] [.box b1 0,.box b2 0]) (h1:B[b1]? = some (.cells [.slice .none (Sm.encs l)])) (h2:B[b2]? = some (.cells [.int .i64 d]))
  (hI0:I 0 B L n)
  (step:drawsOk X asg=true→drawsOk X bo=true→∀ k p C L c Y,(flatL d l)[k]? = some p→C.length=B.length→I k C L c→YSemQ Tryz.prog B.length [.agg p.cells] ⟨C++.loop ps asg bo e .ready none::Y,L,c⟩ fun r s1=>∃ C' L' c' Y',C'.length=B.length ∧
   ((r=.bool true∧I (k+1) C' L' c'∧s1=⟨C'++.loop ps asg bo e .ready none::(Y++Y'),L',c'⟩)∨(r=.bool false∧∃ x,G C' L' c' x∧s1=⟨C'++.loop ps asg bo e .done (some x)::(Y++Y'),L',c'⟩)))
  (hend:∀ C L c Y,C.length=B.length→I (flatL d l).length C L c→@qI .normal e ⟨C++.dead::Y,L,c⟩ Q)
  (hstop:∀ C' L' c' x Y,C'.length=B.length→G C' L' c' x→@cwI none Tryz.prog x e ⟨C'++.dead::Y,L',c'⟩ Q):@AWNI X none Tryz.prog (.rangeFunc f ps.toArray asg bo) e ⟨B,L,n⟩ Q:=by
 have hbx:∀ (C:List Box) (x:Box) (Y:List Box),C.length=B.length→(C++x::Y)[B.length]? = some x:=fun C x Y h=>by rw [← h,box_at0];rfl
 refine range_all b1 b2 l d (fun q Pr s=>(q=true∧∃ C L c Y,C.length=B.length∧I (flatL d l).length C L c∧s=⟨C++.loop ps asg bo e .ready none::Y,L,c⟩)∨(q=false∧∃ C' L' c' x Y,C'.length=B.length∧s=⟨C'++.loop ps asg bo e .done (some x)::Y,L',c'⟩∧G C' L' c' x)) hf h1 h2 ?_ (fun q1 q2=>?_) ?_
 ·rintro b Pr s Y (⟨rfl,C,L,c,Y0,hl,hi,rfl⟩ | ⟨rfl,C',L',c',x,Y0,q1,rfl,q2⟩)
  ·exact .inl ⟨rfl,C,L,c,Y0++Y,hl,hi,by simp⟩
  ·exact .inr ⟨rfl,C',L',c',x,Y0++Y,q1,by simp,q2⟩
 ·refine Yw_inv _ (fun k Pr s=>(∀ i x,Pr i x→B.length+1≤i)∧∃ C L c Y,C.length=B.length∧I k C L c∧s=⟨C++.loop ps asg bo e .ready none::Y,L,c⟩) ?_ ?_ _ _ (fun _ _ h=>h.elim) ⟨fun _ _ h=>h.elim,B,L,n,[],rfl,hI0,rfl⟩
  ·rintro Pr s _ ⟨_,C,L,c,Y,hl,hi,rfl⟩;exact .inl ⟨rfl,C,L,c,Y,hl,hi,rfl⟩
  ·rintro k p Pr s Y hk hP ⟨hi,C,L,c,Y0,hlC,hIk,rfl⟩
   refine CallVQ.mono (show CallVQ _ (.yield B.length) _ _ _ from (by simpa only [CallVQ,List.append_assoc,List.cons_append] using step q1 q2 k p C L c (Y0++Y) hk hlC hIk)) ?_
   have hpr:∀ (C':List Box) (x:Box) (L':List Nat) (c':Nat) (Y':List Box),C'.length=B.length→Prs (ext Pr ⟨C++.loop ps asg bo e .ready none::Y0,L,c⟩ Y) ⟨C'++x::(Y0++(Y++Y')),L',c'⟩:=by
    intro C' x L' c' Y' hl
    have h0:=prs_ext hP Y
    intro i y hy
    have h3:=h0 i y hy
    have hge:B.length+1≤i:=by
     rcases hy with hy | ⟨hy,_⟩
     ·exact hi i y hy
     ·simp only [List.length_append,hlC,List.length_cons] at hy;omega
    simp only at h3 ⊢
    rw [List.append_assoc,List.getElem?_append_right (by rw [hlC];omega),hlC] at h3
    rw [List.getElem?_append_right (by omega),hl]
    obtain ⟨j,hj⟩:∃ j,i - B.length=j+1:=⟨i - B.length - 1,by omega⟩
    rw [hj] at h3 ⊢
    simp only [List.cons_append,List.getElem?_cons_succ] at h3 ⊢
    rw [← List.append_assoc]
    exact box_lt h3
   have hi2:∀ i x,ext Pr ⟨C++.loop ps asg bo e .ready none::Y0,L,c⟩ Y i x→B.length+1≤i:=by
    rintro i x (hx | ⟨hx,_⟩)
    ·exact hi i x hx
    ·simp only [List.length_append,hlC,List.length_cons] at hx;omega
   rintro r s1 ⟨C',L',c',Y',hl,⟨rfl,hI2,rfl⟩ | ⟨rfl,x,hG,rfl⟩⟩
   ·simp only [List.append_assoc]
    exact ⟨hpr _ _ _ _ _ hl,.inl ⟨trivial,hi2,C',L',c',_,hl,hI2,rfl⟩⟩
   ·simp only [List.append_assoc]
    exact ⟨hpr _ _ _ _ _ hl,.inr ⟨trivial,.inr ⟨trivial,C',L',c',x,_,hl,rfl,hG⟩⟩⟩
 ·rintro q Pr s1 _ (⟨rfl,C,L,c,Y,hl,hi,rfl⟩ | ⟨rfl,C',L',c',x,Y,q1,rfl,q2⟩)
  ·refine ⟨.ready,none,hbx _ _ _ hl,by simp,?_⟩
   have e1:(C++.loop ps asg bo e .ready none::Y).set B.length .dead=C++.dead::Y:=by rw [← hl,box_set0];rfl
   show @qI .normal e ⟨(C++.loop ps asg bo e .ready none::Y).set B.length .dead,_,_⟩ Q
   rw [e1];exact hend C L c Y hl hi
  ·refine ⟨.done,some x,hbx _ _ _ q1,by simp,?_⟩
   have e1:(C'++.loop ps asg bo e .done (some x)::Y).set B.length .dead=C'++.dead::Y:=by rw [← q1,box_set0];rfl
   show @cwI none _ x e ⟨(C'++.loop ps asg bo e .done (some x)::Y).set B.length .dead,_,_⟩ Q
   rw [e1];exact hstop C' L' c' x Y q1 q2
theorem range_allP {X:Draws} {f:Operand} {ps:List Tmp} {asg bo:Code} {Q:QC} {e:List D} {B:List Box} {L:List Nat} {n:Nat} (b1 b2:Nat) (l:List Sm) (d:Int) (Ck:Nat→List Box) (Lk:Nat→List Nat) (ck:Nat→Nat) (G:List Box→List Nat→Nat→Code→Prop) (J:Nat→Prop)
  (hf:val e f=.func (.func 167) [] [.box b1 0,.box b2 0]) (h1:B[b1]? = some (.cells [.slice .none (Sm.encs l)])) (h2:B[b2]? = some (.cells [.int .i64 d]))
  (hC0:Ck 0=B) (hlen:∀ k,(Ck k).length=(Ck 0).length) (hL0:Lk 0=L) (hc0:ck 0=n) (hJ0:J 0)
  (step:drawsOk X asg=true→drawsOk X bo=true→∀ k p Y,(flatL d l)[k]? = some p→J k→YSemQ Tryz.prog B.length [.agg p.cells] ⟨Ck k++.loop ps asg bo e .ready none::Y,Lk k,ck k⟩ fun r s1=>∃ C' L' c' Y',
   (r=.bool true∧C'=Ck (k+1)∧L'=Lk (k+1)∧c'=ck (k+1)∧J (k+1)∧s1=⟨C'++.loop ps asg bo e .ready none::(Y++Y'),L',c'⟩)∨(r=.bool false∧∃ x,C'.length=B.length∧G C' L' c' x∧s1=⟨C'++.loop ps asg bo e .done (some x)::(Y++Y'),L',c'⟩))
  (hend:∀ Y,J (flatL d l).length→@qI .normal e ⟨Ck (flatL d l).length++.dead::Y,Lk (flatL d l).length,ck (flatL d l).length⟩ Q)
  (hstop:∀ C' L' c' x Y,C'.length=B.length→G C' L' c' x→@cwI none Tryz.prog x e ⟨C'++.dead::Y,L',c'⟩ Q):@AWNI X none Tryz.prog (.rangeFunc f ps.toArray asg bo) e ⟨B,L,n⟩ Q:=by
 have hlB:∀ k,(Ck k).length=B.length:=fun k=>by rw [hlen k,hC0]
 refine range_allI b1 b2 l d (fun k C L c=>C=Ck k∧L=Lk k∧c=ck k∧J k) G hf h1 h2 ⟨hC0.symm,hL0.symm,hc0.symm,hJ0⟩ ?_ ?_ hstop
 ·rintro q1 q2 k p C L c Y hk _ ⟨rfl,rfl,rfl,hj⟩
  refine (step q1 q2 k p Y hk hj).mono ?_
  rintro r s1 ⟨C',L',c',Y',⟨rfl,rfl,rfl,rfl,hj2,rfl⟩ | ⟨rfl,x,hl,hG,rfl⟩⟩
  ·exact ⟨_,_,_,_,hlB _,.inl ⟨rfl,⟨rfl,rfl,rfl,hj2⟩,rfl⟩⟩
  ·exact ⟨_,_,_,_,hl,.inr ⟨rfl,x,hG,rfl⟩⟩
 ·rintro C L c Y _ ⟨rfl,rfl,rfl,hj⟩
  exact hend Y hj
structure OutO (L:List Nat) (c z:Nat) (o:Own) (L':List Nat) (c':Nat):Prop where
 wf:WfL L' c'
 lv:LiveO o z L'
 le:c≤c'
 sub:∀ k ∈ L,k ∈ L'
 new:∀ k y,o=.lab k y→c≤k
theorem OutO.start {L:List Nat} {c:Nat} (h:WfL L c) (z:Nat):OutO L c z .nil L c:=⟨h,.inl rfl,Nat.le_refl _,fun _ h=>h,fun k y e=>by cases e⟩
theorem OutO.step {L:List Nat} {c z:Nat} {o:Own} {L':List Nat} {c':Nat} (h0:WfL L c) (h:OutO L c z o L' c'):OutO L c z (.lab c' z) (c'::eraseO L' o) (c'+1) :=
 ⟨h.wf.relab o,.inr ⟨c',rfl,by simp⟩,by have:=h.le;omega,fun q hq=>List.mem_cons_of_mem _ (eraseO_mem (h.sub q hq) (fun y e=>by have:=h.new _ _ e;have:=h0.lt q hq;omega)),fun k y e=>by cases e;exact h.le⟩
def Sm.zero:Sm:=.mk 0 0 0 0 0 (.mk 0 0 0 []) (.mk 0 0 0 []) (.mk 0 [] []) [] [] [] []
def sitesL (l:List Pl):List Int:=l.map (·.s.site)
def sitesS (d:Df):List Int:=sitesL (flatL 1 d.body)++[d.site]
theorem take_succ_map {α β:Type} {l:List α} {k:Nat} {x:α} (f:α→β) (h:l[k]? = some x):(l.take (k+1)).map f=(l.take k).map f++[f x]:=by
 rw [List.take_add_one,h];simp
theorem bd_intSl {nb nl:Nat} (l:List Int):Bd nb nl (.slice .none (intCells l)):=bd_slice bd_ints
theorem t_Sites (d:Df) (hN:(flatL 1 d.body).length<1000000) (s:St):Spec Tryz.prog 69 [.agg d.cells] s (.slice .none (intCells (sitesS d))) s:=by
 refine Spec.wf fun hW=>?_
 obtain ⟨B,L,c⟩:=s
 have hW0:WfL L c:=⟨hW.nd,hW.lt⟩
 refine Spec.introN [] Tryz.func69 rfl (by decide) hmix (by kernel_rfl) [ResultVar.tmp 2] 20 rfl rfl ?_
 simp only [vqM,vt47,zA,zS]
 refine callI_spec (t_all _ _ _ _ _) ?_
 simp only [vqM,zA]
 refine range_allI (B.length+2) (B.length+2+1) d.body 1 (fun k C L' c'=>∃ o,OutO L c 1 o L' c'∧C=B++[.cells d.cells,.cells [.slice o (intCells (sitesL ((flatL 1 d.body).take k)))],.cells [.slice .none (Sm.encs d.body)],.cells [.int .i64 1]]) (fun _ _ _ _=>False) ?_ ?_ ?_ ⟨.nil,.start hW0 1,?_⟩ ?_ ?_ ?_
 ·rfl
 ·rw [box_at];rfl
 ·rw [Nat.add_assoc,box_at];rfl
 ·simp [sitesL,intCells]
 ·rintro q1 q2 k p C L1 c1 Y hk hlC ⟨o,ho,rfl⟩
  refine YSemQ.introA hmix q1 q2 (pd:=none) (by rw [← hlC,box_at0];rfl) (by rfl) fun l=>?_
  clear q1 q2
  have hkl:=(List.getElem?_eq_some_iff.1 hk).1
  have hof:∀ B',ownFits o (intCells (sitesL ((flatL 1 d.body).take k))) 1 ⟨B',L1,c1⟩=true:=fun B'=>ho.lv.fits (intCells_each _) B' c1
  have hl1:((sitesL ((flatL 1 d.body).take k)).length+1≤1000000)=True:=eq_true (by simp [sitesL];omega)
  simp only [vqM,vt47,zA,putArgs,vsPl]
  refine qI_assignA (pd1:=none) (by simp only [vqM,zA]) ?_
  simp only [vqM,vt47,zA,zM,zL,vsPl,hof,relab_eq,intCells_len,hl1,intCells_app]
  refine roundA_normal (st:=.busy) (pd:=none) (by simp only [vqM,zA]) ?_
  refine ⟨_,_,_,[.cells p.cells],?_,.inl ⟨rfl,⟨_,ho.step hW0,rfl⟩,?_⟩⟩
  ·simp only [List.length_append,List.length_cons,List.length_nil]
  ·simp only [vqM,zA]
   rw [show sitesL ((flatL 1 d.body).take (k+1))=sitesL ((flatL 1 d.body).take k)++[p.s.site] from take_succ_map _ hk]
 ·rintro C L1 c1 Y - ⟨o,ho,rfl⟩
  have hof:∀ B',ownFits o (intCells (sitesL ((flatL 1 d.body).take (flatL 1 d.body).length))) 1 ⟨B',L1,c1⟩=true:=fun B'=>ho.lv.fits (intCells_each _) B' c1
  have hl1:((sitesL ((flatL 1 d.body).take (flatL 1 d.body).length)).length+1≤1000000)=True:=eq_true (by simp [sitesL];omega)
  simp only [vqM,vt47,zA,zM,zL,hof,relab_eq,intCells_len,hl1,intCells_app]
  refine ret_loc (.inr rfl) ?_ (bd_intSl _) (fun k hk=>List.mem_cons_of_mem _ (eraseO_mem (ho.sub k hk) (fun y e=>by have:=ho.new _ _ e;have:=hW0.lt k hk;omega))) (by have:=ho.le;omega)
  simp only [vqM]
  rw [List.take_length,sitesS]
 ·intro _ _ _ _ _ _ h;exact h.elim
def letterB (c:Int):Bool:=(decide (97≤c) && decide (c≤122)) || (decide (65≤c) && decide (c≤90))
def badB (i:Nat) (c:Int):Bool:=!letterB c && (decide ((i:Int)=0) || (decide (c≠95) && (decide (c<48) || decide (57<c))))
def nameL:List UInt8→Nat→Bool
 | [],_=>true
 | c::l,i=>!badB i c.toNat && nameL l (i+1)
def nameB (s:ByteArray):Bool:=nameL s.data.toList 0 && inB s.size 1 20
theorem byte_at (s:ByteArray) (k:Nat) (h:k<s.size):s[k]? = some (s.data.toList[k]'(by simpa using h)):=by
 show (if h:k<s.size then some s[k] else none)=_
 rw [dif_pos h];rfl
theorem t_named (b:ByteArray) (hb:b.size≤1000000000) (s:St):Spec Tryz.prog 133 [.str b] s (.bool (nameB b)) s:=by
 refine Spec.introN [(5,.cut),(6,.cut)] Tryz.func133 rfl (by decide) hmix (by kernel_rfl) [ResultVar.tmp 2] 50 rfl rfl ?_
 simp only [vqM,vt48,zA,zS,zB]
 refine awN_keep [0,7,8] ?_
 simp only [vke,zB,zA]
 refine awN_for hmix b.size (fun k=>[.str b,Jk,Jk,Jk,Jk,Jk,Jk,.int .i64 b.size,.int .i64 (k:Int),Jk,Jk,Jk,Jk,Jk,Jk,Jk,Jk,Jk,Jk,Jk,Jk,Jk,Jk,Jk,Jk,Jk,Jk,Jk,Jk,Jk,Jk,Jk,Jk,Jk,Jk,Jk,Jk,Jk,Jk,Jk,Jk,Jk,Jk,Jk,Jk,Jk,Jk,Jk,Jk,Jk]) (fun _=>s) (fun k=>nameL b.data.toList 0=nameL (b.data.toList.drop k) k) ?_ ?_ 0 (Nat.zero_le _) rfl
 ·intro k hk hI ih
  have hg:=byte_at b k hk
  have hkl:k<b.data.toList.length:=by simpa using hk
  have hd:b.data.toList.drop k=b.data.toList[k]::b.data.toList.drop (k+1):=List.drop_eq_getElem_cons hkl
  rw [hd,nameL] at hI
  generalize b.data.toList[k]=c at hg hd hI
  have hklt:((k:Int)<(b.size:Int))=True:=by simp;exact hk
  have hcw:IntKind.i64.wrap (c.toNat:Int)=c.toNat:=wrap_in (by have:=c.toNat_lt;omega)
  simp only [vqM,vt48,zB,hklt,decide_true,natle0,Int.toNat_natCast,hg]
  refine seq_join hmix [0,3,4,5,7,8] [.str b,Jk,Jk,.int .i64 (k:Int),.int .u8 c.toNat,.bool (letterB c.toNat),Jk,.int .i64 b.size,.int .i64 (k:Int),Jk,Jk,Jk,Jk,Jk,Jk,Jk,Jk,Jk,Jk,Jk,Jk,Jk,Jk,Jk,Jk,Jk,Jk,Jk,Jk,Jk,Jk,Jk,Jk,Jk,Jk,Jk,Jk,Jk,Jk,Jk,Jk,Jk,Jk,Jk,Jk,Jk,Jk,Jk,Jk,Jk] (fun s1=>s1=s) ?_ ?_
  ·simp only [vqM]
   repeat' (first
    | (with_reducible refine ifI_intro (fun hc=>?_) (fun hc=>?_) <;> simp only [vqM,hc])
    | ((with_reducible refine is_q ?_);refine meet_intro ⟨?_,rfl⟩ <;> simp only [vke,zB,zA] <;> (first | (simp only [letterB, *,Bool.true_and,Bool.false_and,Bool.and_true,Bool.and_false,Bool.true_or,Bool.false_or,Bool.or_false];done) | (simp_all [letterB];done) | (simp_all [letterB];omega))))
  rintro s1 rfl
  simp only [vqM,zB]
  refine seq_join hmix [0,3,4,5,7,8,45] [.str b,Jk,Jk,.int .i64 (k:Int),.int .u8 c.toNat,.bool (letterB c.toNat),Jk,.int .i64 b.size,.int .i64 (k:Int),Jk,Jk,Jk,Jk,Jk,Jk,Jk,Jk,Jk,Jk,Jk,Jk,Jk,Jk,Jk,Jk,Jk,Jk,Jk,Jk,Jk,Jk,Jk,Jk,Jk,Jk,Jk,Jk,Jk,Jk,Jk,Jk,Jk,Jk,Jk,Jk,.bool (badB k c.toNat),Jk,Jk,Jk,Jk] (fun s2=>s2=s1) ?_ ?_
  ·simp only [vqM]
   repeat' (first
    | (with_reducible refine ifI_intro (fun hc=>?_) (fun hc=>?_) <;> simp only [vqM,hc])
    | ((with_reducible refine is_q ?_);refine meet_intro ⟨?_,rfl⟩ <;> simp only [vke,zB,zA] <;> (first | (simp only [badB, *,Bool.true_and,Bool.false_and,Bool.and_true,Bool.and_false,Bool.true_or,Bool.false_or,Bool.or_true,Bool.or_false];done) | (simp_all [badB];done) | (simp_all [badB];omega))))
  rintro s2 rfl
  simp only [vqM]
  refine ifI_intro (fun hc=>?_) (fun hc=>?_)
  ·simp only [vqM,zB]
   refine ret_here (.inr rfl) ?_ (.bool _)
   simp only [vqM]
   simp only [nameB,hI,hc,Bool.not_true,Bool.false_and]
  ·simp only [vqM]
   rw [wrap_succ (by omega)]
   refine awN_keep [0,7,8] ?_
   simp only [vke,zB,zA]
   refine ih ?_
   rw [hI,hc];rfl
 ·intro hI
  rw [List.drop_of_length_le (by simp)] at hI
  have hklt:((b.size:Int)<(b.size:Int))=False:=by simp
  simp only [vqM,vt48,zB,hklt,decide_false]
  refine callI_spec (t_in _ _ _ _) ?_
  simp only [vqM]
  refine ret_here (.inr rfl) ?_ (.bool _)
  simp only [vqM]
  simp only [nameB,hI,nameL,Bool.true_and]
def mapB (l:List Int):List (D × D):=l.map fun n=>(.int .i64 n,.bool true)
theorem mapFind_out {n:Int}:∀ (l:List Int) (i:Nat),n ∉ l→mapFind .i64 n (mapB l) i=some none:=by
 intro l
 induction l with
 | nil=>intro i _;rfl
 | cons m l ih =>
  intro i h
  simp only [List.mem_cons,not_or] at h
  simp only [mapB,List.map_cons,mapFind,if_true]
  rw [if_neg h.1];exact ih _ h.2
theorem mapFind_in {n:Int}:∀ (l:List Int) (i:Nat),n ∈ l→∃ j,mapFind .i64 n (mapB l) i=some (some (j,.bool true)):=by
 intro l
 induction l with
 | nil=>intro i h;simp at h
 | cons m l ih =>
  intro i h
  simp only [mapB,List.map_cons,mapFind,if_true]
  by_cases e:n=m
  ·rw [if_pos e];exact ⟨_,rfl⟩
  ·rw [if_neg e]
   rcases List.mem_cons.1 h with h | h
   ·exact absurd h e
   ·exact ih _ h
theorem mapB_len (l:List Int):(mapB l).length=l.length:=by simp [mapB]
theorem look_mapB (n:Int) (l:List Int):Option.map (fun r=>lookD r (.bool false) false) (mapFind .i64 n (mapB l) 0)=some (.bool (l.contains n)):=by
 by_cases h:n ∈ l
 ·obtain ⟨j,hj⟩:=mapFind_in l 0 h
  rw [hj];simp [lookD,h]
 ·rw [mapFind_out l 0 h];simp [lookD,h]
theorem put_mapB {n:Int} {l:List Int} (h:n ∉ l):mapPut .i64 n (.bool true) none (mapB l)=mapB (l++[n]):=by simp [mapPut,mapB]
def arrB (d:Df) (a:Ar):Bool:=inB a.len 1 64 && inB a.of 0 d.params.length
theorem t_Def1 (d:Df) (a:Ar) (b:Nat) (B:List Box) (L:List Nat) (c:Nat) (hb:B[b]? = some (.cells d.cells)):Spec Tryz.prog 132 [.agg a.cells,.box b 0] ⟨B,L,c⟩ (.bool (arrB d a)) ⟨B,L,c⟩:=by
 have hb2:∀ X,(B++X)[b]? = some (.cells d.cells):=fun X=>box_lt hb
 refine Spec.introN [] Tryz.func132 rfl (by decide) hmix (by kernel_rfl) [ResultVar.tmp 3] 15 rfl rfl ?_
 simp only [vqM,vt49,zA,zS]
 repeat' (first
  | ((with_reducible refine is_call ?_);refine callI_spec (t_in _ _ _ _) ?_;simp only [vqM])
  | (with_reducible refine ifI_intro (fun hc=>?_) (fun hc=>?_) <;> simp only [vqM,vt49,hc,zA,hb2,rgCells_len])
  | ((with_reducible refine is_q ?_);refine ret_loc (.inr rfl) ?_ (.bool _) (fun _ h=>h) (Nat.le_refl _) <;> (try simp only [vqM]) <;> (first | (simp only [arrB, *,Bool.true_and,Bool.false_and];done) | (simp_all [arrB];done) | (simp_all [arrB];omega))))
def headB (d:Df) (x:Dc):Bool :=
 inB d.id 1 1073741824 && inB d.site 1 1073741824 && nameB d.name && inB d.firm 0 (w64 (x.firms - 1)) && inB d.part 0 (w64 (x.parts - 1)) && inB d.vars d.params.length 12 && inB d.refs d.given.length 4 && inB d.budget 1 20000 &&
 everyB d.params 12 rightRange && everyB d.given 4 rightRange && everyB d.arrays 4 (arrB d)
def scanB (k:Ck):List Pl→List Int→Bool
 | [],_=>true
 | p::ps,seen=>!(decide (10<p.depth) || decide (200<(seen.length:Int)) || seen.contains p.s.site || !stmtB k p.s) && scanB k ps (seen++[p.s.site])
def defB (d:Df) (x:Dc):Bool:=headB d x && scanB ⟨d,x⟩ (flatL 1 d.body) [d.site]
theorem t_Def (d:Df) (x:Dc) (hnm:d.name.size≤1000000000) (s:St):Spec Tryz.prog 81 [.agg d.cells,.agg x.cells] s (.int .i64 (if defB d x then 0 else 60)) s:=by
 obtain ⟨B,L,c⟩:=s
 have hck:d.cells++x.cells=(Ck.mk d x).cells:=rfl
 have hp1:∀ (a:Ar) (Y:List Box),CallV Tryz.prog (.func (.func 132) [] [.box B.length 0]) [.agg a.cells] ⟨(B++[.cells d.cells,.cells x.cells,.cells [.int .i64 0],.cells (Ck.mk d x).cells])++Y,L,c⟩ (.bool (arrB d a)) ⟨(B++[.cells d.cells,.cells x.cells,.cells [.int .i64 0],.cells (Ck.mk d x).cells])++Y,L,c⟩ :=
  fun a Y=>t_Def1 d a B.length _ L c (by rw [List.append_assoc,box_at0];rfl)
 refine Spec.introN [(3,.cut)] Tryz.func81 rfl (by decide) hmix (by kernel_rfl) [ResultVar.cell 4 43] 116 rfl rfl ?_
 simp only [vqM,vt50,zA,zS,zL,zB,vsCk,hck]
 refine seq_join hmix [2,4,5,7] [Jk,Jk,.box B.length 0,Jk,.box (B.length+2) 0,.box (B.length+3) 0,Jk,.bool (headB d x),Jk,Jk,Jk,Jk,Jk,Jk,Jk,Jk,Jk,Jk,Jk,Jk,Jk,Jk,Jk,Jk,Jk,Jk,Jk,Jk,Jk,Jk,Jk,Jk,Jk,Jk,Jk,Jk,Jk,Jk,Jk,Jk,Jk,Jk,Jk,Jk,Jk,Jk,Jk,Jk,Jk,Jk,Jk,Jk,Jk,Jk,Jk,Jk,Jk,Jk,Jk,Jk,Jk,Jk,Jk,Jk,Jk,Jk,Jk,Jk,Jk,Jk,Jk,Jk,Jk,Jk,Jk,Jk,Jk,Jk,Jk,Jk,Jk,Jk,Jk,Jk,Jk,Jk,Jk,Jk,Jk,Jk,Jk,Jk,Jk,Jk,Jk,Jk,Jk,Jk,Jk,Jk,Jk,Jk,Jk,Jk,Jk,Jk,Jk,Jk,Jk,Jk,Jk,Jk,Jk,Jk,Jk,Jk] (fun s=>s=⟨B++[.cells d.cells,.cells x.cells,.cells [.int .i64 0],.cells (Ck.mk d x).cells],L,c⟩) ?_ ?_
 ·simp only [vqM,vt50,zA]
  repeat' (first
   | ((with_reducible refine is_call ?_);refine callI_spec (t_in _ _ _ _) ?_;simp only [vqM])
   | ((with_reducible refine is_call ?_);refine callI_spec (t_named _ hnm _) ?_;simp only [vqM])
   | ((with_reducible refine is_call ?_);refine callI_spec (t_everyRg _ rightRange _ _ _ _ _ rfl rfl rfl fun x _ Y=>c_rightRange x _) ?_;simp only [vqM])
   | ((with_reducible refine is_call ?_);refine callI_spec (t_everyAr (.func (.func 132) [] [.box B.length 0]) (arrB d) _ _ _ _ _ rfl rfl rfl fun x _ Y=>hp1 x Y) ?_;simp only [vqM])
   | (with_reducible refine ifI_intro (fun hc=>?_) (fun hc=>?_) <;> simp only [vqM,vt50,hc,zA,rgCells_len,w64_eq])
   | ((with_reducible refine is_q ?_);refine meet_intro ⟨?_,rfl⟩ <;> simp only [vke,zB,zA] <;> (first | (simp only [headB, *,Bool.true_and,Bool.false_and,Bool.and_true,Bool.and_false];done) | (simp_all [headB];done) | (simp_all [headB];omega))))
 rintro s rfl
 simp only [vqM,zB]
 refine ifI_intro (fun hc=>?_) (fun hc=>?_)
 ·simp only [vqM,vt50,zA,zB]
  refine ret_loc (.inr rfl) ?_ (.int _ _) (fun _ h=>h) (Nat.le_refl _)
  have hh:headB d x=false:=by simpa using hc
  simp only [vqM,vt50]
  simp [defB,hh]
 have hh:headB d x=true:=by simpa using hc
 have hdef:defB d x=scanB ⟨d,x⟩ (flatL 1 d.body) [d.site]:=by simp [defB,hh]
 rw [hdef]
 have hput0:mapPut .i64 d.site (.bool true) none []=mapB [d.site]:=rfl
 simp only [vqM,vt50,zA,zB,hput0]
 refine callI_spec (t_all _ _ _ _ _) ?_
 simp only [vqM,zA]
 refine range_allI (B.length+6) (B.length+6+1) d.body 1 (fun k C L' c'=>C=B++[.cells d.cells,.cells x.cells,.cells [.int .i64 0],.cells (Ck.mk d x).cells,.map (mapB (d.site::sitesL ((flatL 1 d.body).take k))),.cells [.map (B.length+4)],.cells [.slice .none (Sm.encs d.body)],.cells [.int .i64 1]]∧L'=L∧c'=c ∧
   scanB ⟨d,x⟩ (flatL 1 d.body) [d.site]=scanB ⟨d,x⟩ ((flatL 1 d.body).drop k) (d.site::sitesL ((flatL 1 d.body).take k)))
  (fun C L' c' y=>scanB ⟨d,x⟩ (flatL 1 d.body) [d.site]=false∧(∃ es,C=B++[.cells d.cells,.cells x.cells,.cells [.int .i64 60],.cells (Ck.mk d x).cells,.map es,.cells [.map (B.length+4)],.cells [.slice .none (Sm.encs d.body)],.cells [.int .i64 1]])∧L'=L∧c'=c∧y=.ret) ?_ ?_ ?_ ⟨?_,rfl,rfl,rfl⟩ ?_ ?_ ?_
 ·rfl
 ·rw [box_at];rfl
 ·rw [Nat.add_assoc,box_at];rfl
 ·rfl
 ·rintro q1 q2 k p C L1 c1 Y hk hlC ⟨rfl,rfl,rfl,hI⟩
  refine YSemQ.introA hmix q1 q2 (pd:=none) (by rw [← hlC,box_at0];rfl) (by rfl) fun l=>?_
  clear q1 q2
  have hkl:=(List.getElem?_eq_some_iff.1 hk).1
  have hd:(flatL 1 d.body).drop k=p::(flatL 1 d.body).drop (k+1):=by
   obtain ⟨h1,rfl⟩:=List.getElem?_eq_some_iff.1 hk;exact List.drop_eq_getElem_cons h1
  rw [hd,scanB] at hI
  have hsn:sitesL ((flatL 1 d.body).take (k+1))=sitesL ((flatL 1 d.body).take k)++[p.s.site]:=take_succ_map _ hk
  obtain ⟨seen,hseen⟩:∃ seen,seen=d.site::sitesL ((flatL 1 d.body).take k):=⟨_,rfl⟩
  have hsn2:d.site::sitesL ((flatL 1 d.body).take (k+1))=seen++[p.s.site]:=by rw [hsn,hseen];rfl
  rw [← hseen] at hI ⊢
  rw [hsn2]
  simp only [vqM,vt50,zA,vsPl,putArgs]
  refine qI_assignA (pd1:=none) (by simp only [vqM,zA]) ?_
  simp only [vqM,vt50,zA,zB,vsPl]
  refine ifI_intro (fun h1=>?_) (fun h1=>?_)
  ·clear hp1 hd hseen hsn2
   simp only [vqM,vt50,zA,zB,h1]
   refine roundA_ret (st:=.busy) (pd:=none) (by simp only [vqM]) ?_
   refine ⟨_,_,_,[.cells p.cells],?_,.inr ⟨rfl,.ret,⟨?_,⟨mapB seen,rfl⟩,rfl,rfl,rfl⟩,?_⟩⟩
   ·simp only [List.length_append,List.length_cons,List.length_nil]
   ·rw [hI];simp only [*,Bool.true_or,Bool.not_true,Bool.false_and]
   ·simp only [vqM]
  simp only [vqM,vt50,mapB_len,h1]
  refine ifI_intro (fun h2=>?_) (fun h2=>?_)
  ·clear hp1 hd hseen hsn2
   simp only [vqM,vt50,zA,zB,h2]
   refine roundA_ret (st:=.busy) (pd:=none) (by simp only [vqM]) ?_
   refine ⟨_,_,_,[.cells p.cells],?_,.inr ⟨rfl,.ret,⟨?_,⟨mapB seen,rfl⟩,rfl,rfl,rfl⟩,?_⟩⟩
   ·simp only [List.length_append,List.length_cons,List.length_nil]
   ·rw [hI];simp only [*,Bool.true_or,Bool.or_true,Bool.not_true,Bool.false_and]
   ·simp only [vqM]
  simp only [vqM,vt50,zA,vsPl,look_mapB,h2]
  refine ifI_intro (fun h3=>?_) (fun h3=>?_)
  ·clear hp1 hd hseen hsn2
   simp only [vqM,vt50,zA,zB,h3]
   refine roundA_ret (st:=.busy) (pd:=none) (by simp only [vqM]) ?_
   refine ⟨_,_,_,[.cells p.cells],?_,.inr ⟨rfl,.ret,⟨?_,⟨mapB seen,rfl⟩,rfl,rfl,rfl⟩,?_⟩⟩
   ·simp only [List.length_append,List.length_cons,List.length_nil]
   ·rw [hI];simp only [*,Bool.true_or,Bool.or_true,Bool.not_true,Bool.false_and]
   ·simp only [vqM]
  simp only [vqM,vt50,zA,zL,vsCk,vsPl,h3]
  refine callI_spec (t_stmtC ⟨d,x⟩ p.s _) ?_
  simp only [vqM]
  refine ifI_intro (fun h4=>?_) (fun h4=>?_)
  ·clear hp1 hd hseen hsn2
   simp only [vqM,vt50,zA,zB,h4]
   refine roundA_ret (st:=.busy) (pd:=none) (by simp only [vqM]) ?_
   refine ⟨_,_,_,[.cells p.cells],?_,.inr ⟨rfl,.ret,⟨?_,⟨mapB seen,rfl⟩,rfl,rfl,rfl⟩,?_⟩⟩
   ·simp only [List.length_append,List.length_cons,List.length_nil]
   ·rw [hI];simp only [*,Bool.or_true,Bool.not_true,Bool.false_and]
   ·simp only [vqM]
  have hni:p.s.site ∉ seen:=by simpa using h3
  have hfind:=mapFind_out seen 0 hni
  have hput:=put_mapB hni
  simp only [vqM,vt50,zA,vsPl,h4,hfind,hput]
  refine roundA_normal (st:=.busy) (pd:=none) (by simp only [vqM]) ?_
  refine ⟨_,_,_,[.cells p.cells],?_,.inl ⟨rfl,⟨rfl,rfl,rfl,?_⟩,?_⟩⟩
  ·simp only [List.length_append,List.length_cons,List.length_nil]
  ·rw [hI];simp only [h1,h2,h3,h4,Bool.or_false,Bool.not_false,Bool.true_and]
  ·simp only [vqM]
 ·rintro C L1 c1 Y - ⟨rfl,rfl,rfl,hI⟩
  rw [List.drop_length] at hI
  simp only [vqM,vt50,zA,zB]
  refine ret_loc (.inr rfl) ?_ (.int _ _) (fun _ h=>h) (Nat.le_refl _)
  simp only [vqM,vt50]
  rw [hI];rfl
 ·rintro C L1 c1 y Y - ⟨hF,⟨es,rfl⟩,rfl,rfl,rfl⟩
  simp only [vqM]
  refine ret_loc (.inr rfl) ?_ (.int _ _) (fun _ h=>h) (Nat.le_refl _)
  simp only [vqM,vt50]
  rw [hF];rfl
def Df.zero:Df:=⟨0,0,⟨#[]⟩,0,0,[],[],0,0,[],0,[]⟩
def Hd.zero:Hd:=⟨0,0,0,[],[]⟩
def Df.zc:List D:=[.int .i64 0,.int .i64 0,.str ⟨#[]⟩,.int .i64 0,.int .i64 0,.slice .nil [],.slice .nil [],.int .i64 0,.int .i64 0,.slice .nil [],.int .i64 0,.slice .nil []]
def Hd.zc:List D:=[.int .i64 0,.int .i64 0,.int .i64 0,.slice .nil [],.slice .nil []]
theorem find_at {α:Type} {p:α→Bool} {l:List α} {k:Nat} {x:α} (hx:l[k]? = some x) (hp:p x=true) (h:∀ j (h:j<l.length),j<k→p l[j]=false):l.find? p=some x:=by
 obtain ⟨hlt,rfl⟩:=List.getElem?_eq_some_iff.1 hx
 rw [List.find?_eq_some_iff_getElem]
 exact ⟨hp,k,hlt,rfl,fun j hj=>by simpa using h j (by omega) hj⟩
theorem find_no {α:Type} {p:α→Bool} {l:List α} (h:∀ j (h:j<l.length),j<l.length→p l[j]=false):l.find? p=none:=by
 rw [List.find?_eq_none]
 intro x hx
 obtain ⟨j,hj,rfl⟩:=List.getElem_of_mem hx
 simpa using h j hj hj
def findS (p:Pg) (id:Int):Option Df:=p.defs.find? fun d=>decide (d.id=id)
def findSD (r:Option Df):D:=.tup [.agg (r.getD Df.zero).cells,.bool r.isSome]
theorem bd_findS (r:Option Df):Bd 0 0 (findSD r):=.tup _ fun i hi=>by
 match i,hi with
 | 0,_=>exact bd_agg (Df.bd _)
 | 1,_=>exact .bool _
theorem t_Find (p:Pg) (id:Int) (s:St):Spec Tryz.prog 70 [.agg p.cells,.int .i64 id] s (findSD (findS p id)) s:=by
 obtain ⟨B,L,c⟩:=s
 refine Spec.small fun hsm=>?_
 have hlen:p.defs.length≤281474976710656:=by
  have h1:=hsm (.agg p.cells) (by simp)
  cases h1 with
  | agg _ h1 =>
   have h2:=(h1 (.slice .none (dfCells p.defs)) (by simp [Pg.cells])).len
   rw [dfCells_len] at h2;exact h2
 clear hsm
 refine Spec.introN [] Tryz.func70 rfl (by decide) hmix (by kernel_rfl) [ResultVar.cell 4 59,ResultVar.tmp 5] 22 rfl rfl ?_
 simp only [vqM,vt51,zA,zS,dfCells_len]
 refine awN_keep [1,4,9,10,11] ?_
 simp only [vke,zB,zA]
 refine awN_forR hmix p.defs.length (fun k e s=>e=[Jk,.int .i64 id,Jk,Jk,.box (B.length+1) 0,Jk,Jk,Jk,Jk,.slice .none (dfCells p.defs),.int .i64 p.defs.length,.int .i64 (k:Int),Jk,Jk,Jk,Jk,Jk,Jk,Jk,Jk,Jk,Jk]∧∃ X,s=⟨B++.cells p.cells::.cells Df.zc::X,L,c⟩∧∀ j (h:j<p.defs.length),j<k→decide (p.defs[j].id=id)=false) ?_ ?_ 0 _ _ (Nat.zero_le _) ⟨rfl,[],rfl,by intro j _ h;omega⟩
 ·rintro k e s hk ⟨rfl,X,rfl,hI⟩ ih
  have hx:p.defs[k]? = some p.defs[k]:=List.getElem?_eq_getElem hk
  have hg:(dfCells p.defs)[k]? = some (p.defs[k].cells):=by simp [dfCells,hx]
  have hklt:((k:Int)<(p.defs.length:Int))=True:=by simp;exact hk
  simp only [vqM,vt51,zA,Df.zc,hklt,decide_true,natle0,Int.toNat_natCast,hg]
  refine ifI_intro (fun hc=>?_) (fun hc=>?_)
  ·simp only [vqM,vt51,zA]
   refine ret_loc (.inr rfl) ?_ (bd_findS (findS p id)) (fun _ h=>h) (Nat.le_refl _)
   have hf:findS p id=some p.defs[k]:=find_at hx hc hI
   simp only [vqM,vt51,findSD,hf,Option.getD_some,Option.isSome_some]
  ·simp only [vqM]
   rw [wrap_succ (by omega)]
   refine awN_keep [1,4,9,10,11] ?_
   simp only [vke,zB,zA]
   refine ih _ _ ⟨rfl,_,rfl,fun j hj hjk=>?_⟩
   by_cases e:j=k
   ·subst e;exact hc
   ·exact hI j hj (by omega)
 ·rintro e s ⟨rfl,X,rfl,hI⟩
  have hklt:((p.defs.length:Int)<(p.defs.length:Int))=False:=by simp
  simp only [vqM,vt51,zA,Df.zc,hklt,decide_false]
  refine ret_loc (.inr rfl) ?_ (bd_findS (findS p id)) (fun _ h=>h) (Nat.le_refl _)
  have hf:findS p id=none:=find_no hI
  simp only [vqM,vt51,zA,findSD,hf,Option.getD_none,Option.isSome_none]
  rfl
def headS (p:Pg) (id:Int):Option Hd:=p.heads.find? fun d=>decide (d.id=id)
def headSD (r:Option Hd):D:=.tup [.agg (r.getD Hd.zero).cells,.bool r.isSome]
theorem bd_headS (r:Option Hd):Bd 0 0 (headSD r):=.tup _ fun i hi=>by
 match i,hi with
 | 0,_=>exact bd_agg (Hd.bd _)
 | 1,_=>exact .bool _
theorem t_HeadOf (p:Pg) (id:Int) (s:St):Spec Tryz.prog 25 [.agg p.cells,.int .i64 id] s (headSD (headS p id)) s:=by
 obtain ⟨B,L,c⟩:=s
 refine Spec.small fun hsm=>?_
 have hlen:p.heads.length≤281474976710656:=by
  have h1:=hsm (.agg p.cells) (by simp)
  cases h1 with
  | agg _ h1 =>
   have h2:=(h1 (.slice .none (hdCells p.heads)) (by simp [Pg.cells])).len
   rw [hdCells_len] at h2;exact h2
 clear hsm
 refine Spec.introN [] Tryz.func25 rfl (by decide) hmix (by kernel_rfl) [ResultVar.cell 4 54,ResultVar.tmp 5] 22 rfl rfl ?_
 simp only [vqM,vt52,zA,zS,hdCells_len]
 refine awN_keep [1,4,9,10,11] ?_
 simp only [vke,zB,zA]
 refine awN_forR hmix p.heads.length (fun k e s=>e=[Jk,.int .i64 id,Jk,Jk,.box (B.length+1) 0,Jk,Jk,Jk,Jk,.slice .none (hdCells p.heads),.int .i64 p.heads.length,.int .i64 (k:Int),Jk,Jk,Jk,Jk,Jk,Jk,Jk,Jk,Jk,Jk]∧∃ X,s=⟨B++.cells p.cells::.cells Hd.zc::X,L,c⟩∧∀ j (h:j<p.heads.length),j<k→decide (p.heads[j].id=id)=false) ?_ ?_ 0 _ _ (Nat.zero_le _) ⟨rfl,[],rfl,by intro j _ h;omega⟩
 ·rintro k e s hk ⟨rfl,X,rfl,hI⟩ ih
  have hx:p.heads[k]? = some p.heads[k]:=List.getElem?_eq_getElem hk
  have hg:(hdCells p.heads)[k]? = some (p.heads[k].cells):=by simp [hdCells,hx]
  have hklt:((k:Int)<(p.heads.length:Int))=True:=by simp;exact hk
  simp only [vqM,vt52,zA,Hd.zc,hklt,decide_true,natle0,Int.toNat_natCast,hg]
  refine ifI_intro (fun hc=>?_) (fun hc=>?_)
  ·simp only [vqM,vt52,zA]
   refine ret_loc (.inr rfl) ?_ (bd_headS (headS p id)) (fun _ h=>h) (Nat.le_refl _)
   have hf:headS p id=some p.heads[k]:=find_at hx hc hI
   simp only [vqM,vt52,headSD,hf,Option.getD_some,Option.isSome_some]
  ·simp only [vqM]
   rw [wrap_succ (by omega)]
   refine awN_keep [1,4,9,10,11] ?_
   simp only [vke,zB,zA]
   refine ih _ _ ⟨rfl,_,rfl,fun j hj hjk=>?_⟩
   by_cases e:j=k
   ·subst e;exact hc
   ·exact hI j hj (by omega)
 ·rintro e s ⟨rfl,X,rfl,hI⟩
  have hklt:((p.heads.length:Int)<(p.heads.length:Int))=False:=by simp
  simp only [vqM,vt52,zA,Hd.zc,hklt,decide_false]
  refine ret_loc (.inr rfl) ?_ (bd_headS (headS p id)) (fun _ h=>h) (Nat.le_refl _)
  have hf:headS p id=none:=find_no hI
  simp only [vqM,vt52,zA,headSD,hf,Option.getD_none,Option.isSome_none]
  rfl
theorem Rg.ext2 {a b:Rg} (h:(decide (a.lo=b.lo) && (decide (a.hi=b.hi) && (decide (a.mask=b.mask) && true)))=true):a=b:=by
 obtain ⟨_,_,_⟩:=a
 obtain ⟨_,_,_⟩:=b
 simp at h
 simp [h.1,h.2.1,h.2.2]
instance:DecidableEq Rg:=fun a b=>if h:(decide (a.lo=b.lo) && (decide (a.hi=b.hi) && (decide (a.mask=b.mask) && true)))=true then .isTrue (Rg.ext2 h) else .isFalse fun e=>h (by subst e;simp)
theorem t_Equal (l m:List Rg) (s:St):Spec Tryz.prog 117 [.slice .none (rgCells l),.slice .none (rgCells m)] s (.bool (decide (l=m))) s:=by
 refine Spec.small fun hsm=>?_
 have hlen:=(hsm _ (.head _)).len
 rw [rgCells_len] at hlen
 clear hsm
 refine Spec.introN [] Tryz.func117 rfl (by decide) hmix (by kernel_rfl) [ResultVar.tmp 4] 26 rfl rfl ?_
 simp only [vqM,vt19,zA,zS,rgCells_len]
 refine ifI_intro (fun hc=>?_) (fun hc=>?_)
 ·simp only [vqM]
  refine ret_here (.inr rfl) ?_ (.bool _)
  have:l≠m:=by rintro rfl;simp at hc
  simp only [vqM]
  rw [decide_eq_false this]
 have hll:l.length=m.length:=by simp at hc;omega
 simp only [vqM,vt19,rgCells_len]
 refine awN_keep [0,1,12,13] ?_
 simp only [vke,zB,zA]
 refine awN_for hmix l.length (fun k=>[.slice .none (rgCells l),.slice .none (rgCells m),Jk,Jk,Jk,Jk,Jk,Jk,Jk,Jk,Jk,Jk,.int .i64 l.length,.int .i64 (k:Int),Jk,Jk,Jk,Jk,Jk,Jk,Jk,Jk,Jk,Jk,Jk,Jk]) (fun _=>s) (fun k=>l.take k=m.take k) ?_ ?_ 0 (Nat.zero_le _) rfl
 ·intro k hk hI ih
  have hkm:k<m.length:=by omega
  have hx:l[k]? = some l[k]:=List.getElem?_eq_getElem hk
  have hy:m[k]? = some m[k]:=List.getElem?_eq_getElem hkm
  have hg:(rgCells l)[k]? = some (l[k].cells):=by simp [rgCells,hx]
  have hh:(rgCells m)[k]? = some (m[k].cells):=by simp [rgCells,hy]
  have hklt:((k:Int)<(l.length:Int))=True:=by simp;exact hk
  simp only [vqM,vt19,hklt,decide_true,natle0,Int.toNat_natCast,hg,hh]
  have heq:(decide (l[k].lo=m[k].lo) && (decide (l[k].hi=m[k].hi) && decide (l[k].mask=m[k].mask)))=decide (l[k]=m[k]):=by
   generalize l[k]=a
   generalize m[k]=b
   obtain ⟨_,_,_⟩:=a
   obtain ⟨_,_,_⟩:=b
   simp
  rw [heq]
  clear heq
  refine ifI_intro (fun hc=>?_) (fun hc=>?_)
  ·simp only [vqM]
   refine ret_here (.inr rfl) ?_ (.bool _)
   have:l≠m:=by rintro rfl;simp at hc
   simp only [vqM]
   rw [decide_eq_false this]
  ·simp only [vqM]
   rw [wrap_succ (by omega)]
   refine awN_keep [0,1,12,13] ?_
   simp only [vke,zB,zA]
   refine ih ?_
   have hc':l[k]=m[k]:=by simpa using hc
   rw [List.take_add_one,List.take_add_one,hx,hy,hI,hc']
 ·intro hI
  have hklt:((l.length:Int)<(l.length:Int))=False:=by simp
  simp only [vqM,hklt,decide_false]
  refine ret_here (.inr rfl) ?_ (.bool _)
  simp only [vqM]
  rw [List.take_length,hll,List.take_length] at hI
  rw [decide_eq_true hI]
end Go.V
