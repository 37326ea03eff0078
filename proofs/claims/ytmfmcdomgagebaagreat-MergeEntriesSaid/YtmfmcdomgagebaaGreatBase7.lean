/-
  The value-level logic and its contracts, part 7 (texts M1, P13, P14, N3, N4, M4, N5, M2, N6, M5, M6, M7, M8).
-/
import Derived.Test.YtmfmcdomgagebaaGreatBase6
import Derived.Test.YtmfmcdomgagebaaGreatBase3
import Derived.Test.YtmfmcdomgagebaaGreatBase4
import Derived.Test.YtmfmcdomgagebaaGreatBase5
import Derived.Shelf.Slices.In.SortNone
open Nat renaming reduceAdd → zA, reduceSub → zS, reduceMul → zM, reduceLeDiff → zL, reduceEqDiff → zE, reduceBEq → zB
set_option linter.all false
set_option linter.unusedSimpArgs false
set_option linter.unusedVariables false
set_option linter.unnecessarySimpa false
namespace Go.V
set_option maxRecDepth 20000
mutual
def Ex.eqb:Ex→Ex→Bool
  | .mk o n v a,.mk o' n' v' a'=>decide (o=o') && decide (n=n') && decide (v=v') && Ex.eqbs a a'
def Ex.eqbs:List Ex→List Ex→Bool
  | [],[]=>true
  | x::l,y::m=>Ex.eqb x y && Ex.eqbs l m
  | _,_=>false
end
mutual
theorem Ex.eqb_iff:∀ x y:Ex,Ex.eqb x y=true↔x=y
  | .mk o n v a,.mk o' n' v' a'=>by simp only [Ex.eqb,Bool.and_eq_true,decide_eq_true_eq,Ex.eqbs_iff a a',Ex.mk.injEq,and_assoc]
theorem Ex.eqbs_iff:∀ l m:List Ex,Ex.eqbs l m=true↔l=m
  | [],[]=>by simp [Ex.eqbs]
  | [],_::_=>by simp [Ex.eqbs]
  | _::_,[]=>by simp [Ex.eqbs]
  | x::l,y::m=>by simp only [Ex.eqbs,Bool.and_eq_true,Ex.eqb_iff x y,Ex.eqbs_iff l m,List.cons.injEq]
end
instance:DecidableEq Ex:=fun a b=>decidable_of_iff _ (Ex.eqb_iff a b)
mutual
def Co.eqb:Co→Co→Bool
  | .mk o a c,.mk o' a' c'=>decide (o=o') && decide (a=a') && Co.eqbs c c'
def Co.eqbs:List Co→List Co→Bool
  | [],[]=>true
  | x::l,y::m=>Co.eqb x y && Co.eqbs l m
  | _,_=>false
end
mutual
theorem Co.eqb_iff:∀ x y:Co,Co.eqb x y=true↔x=y
  | .mk o a c,.mk o' a' c'=>by simp only [Co.eqb,Bool.and_eq_true,decide_eq_true_eq,Co.eqbs_iff c c',Co.mk.injEq,and_assoc]
theorem Co.eqbs_iff:∀ l m:List Co,Co.eqbs l m=true↔l=m
  | [],[]=>by simp [Co.eqbs]
  | [],_::_=>by simp [Co.eqbs]
  | _::_,[]=>by simp [Co.eqbs]
  | x::l,y::m=>by simp only [Co.eqbs,Bool.and_eq_true,Co.eqb_iff x y,Co.eqbs_iff l m,List.cons.injEq]
end
instance:DecidableEq Co:=fun a b=>decidable_of_iff _ (Co.eqb_iff a b)
mutual
def Sm.eqb:Sm→Sm→Bool
  | .mk s o n m v x y c g p b e,.mk s' o' n' m' v' x' y' c' g' p' b' e'=>decide (s=s') && decide (o=o') && decide (n=n') && decide (m=m') && decide (v=v') && decide (x=x') && decide (y=y') && decide (c=c') && decide (g=g') && decide (p=p') && Sm.eqbs b b' && Sm.eqbs e e'
def Sm.eqbs:List Sm→List Sm→Bool
  | [],[]=>true
  | x::l,y::m=>Sm.eqb x y && Sm.eqbs l m
  | _,_=>false
end
mutual
theorem Sm.eqb_iff:∀ x y:Sm,Sm.eqb x y=true↔x=y
  | .mk s o n m v x y c g p b e,.mk s' o' n' m' v' x' y' c' g' p' b' e'=>by simp only [Sm.eqb,Bool.and_eq_true,decide_eq_true_eq,Sm.eqbs_iff b b',Sm.eqbs_iff e e',Sm.mk.injEq,and_assoc]
theorem Sm.eqbs_iff:∀ l m:List Sm,Sm.eqbs l m=true↔l=m
  | [],[]=>by simp [Sm.eqbs]
  | [],_::_=>by simp [Sm.eqbs]
  | _::_,[]=>by simp [Sm.eqbs]
  | x::l,y::m=>by simp only [Sm.eqbs,Bool.and_eq_true,Sm.eqb_iff x y,Sm.eqbs_iff l m,List.cons.injEq]
end
instance:DecidableEq Sm:=fun a b=>decidable_of_iff _ (Sm.eqb_iff a b)
theorem Ex.eta (x:Ex):x=.mk x.op x.n x.v x.a:=by cases x;rfl
theorem Co.eta (x:Co):x=.mk x.op x.a x.c:=by cases x;rfl
theorem Sm.eta (x:Sm):x=.mk x.site x.op x.n x.m x.v x.x x.y x.c x.args x.ptrs x.body x.els:=by cases x;rfl
theorem Ar.eq_iff (a b:Ar):(a.len=b.len∧a.of=b.of)↔a=b:=by cases a;cases b;simp
instance:DecidableEq Ar:=fun a b=>decidable_of_iff _ (Ar.eq_iff a b)
theorem Qu.eq_iff (a b:Qu):(a.cap=b.cap∧a.r=b.r)↔a=b:=by cases a;cases b;simp
instance:DecidableEq Qu:=fun a b=>decidable_of_iff _ (Qu.eq_iff a b)
theorem Hd.eq_iff (a b:Hd):(a.id=b.id∧a.firm=b.firm∧a.part=b.part∧a.params=b.params∧a.given=b.given)↔a=b:=by cases a;cases b;simp
instance:DecidableEq Hd:=fun a b=>decidable_of_iff _ (Hd.eq_iff a b)
theorem Dc.eq_iff (a b:Dc):(a.globals=b.globals∧a.classes=b.classes∧a.queues=b.queues∧a.sinks=b.sinks∧a.locks=b.locks∧a.parts=b.parts∧a.firms=b.firms)↔a=b:=by cases a;cases b;simp
instance:DecidableEq Dc:=fun a b=>decidable_of_iff _ (Dc.eq_iff a b)
theorem Df.eq_iff (a b:Df):(a.id=b.id∧a.site=b.site∧a.name=b.name∧a.firm=b.firm∧a.part=b.part∧a.params=b.params∧a.given=b.given∧a.vars=b.vars∧a.refs=b.refs∧a.arrays=b.arrays∧a.budget=b.budget∧a.body=b.body)↔a=b:=by cases a;cases b;simp
instance:DecidableEq Df:=fun a b=>decidable_of_iff _ (Df.eq_iff a b)
structure En where
  head:Bool
  opn:Bool
  h:Hd
  d:Df
  decl:Dc
  threads:List Int
def En.cells (x:En):List D:=[.bool x.head,.bool x.opn]++(x.h.cells++(x.d.cells++(x.decl.cells++([.slice .none (intCells x.threads)]))))
theorem En.cells_len (x:En):x.cells.length=27:=rfl
theorem En.plain (x:En):x.cells.map D.plain1=x.cells:=rfl
theorem En.keep1 (x:En):x.cells.map D.keep1=x.cells:=rfl
theorem En.take0 (x:En):x.cells.take 27=x.cells:=List.take_of_length_le (by rw [En.cells_len];decide)
theorem En.drop0 (x:En) (l:List D):(x.cells++l).drop 27=l:=by have:=List.drop_left (l₁:=x.cells) (l₂:=l);rwa [En.cells_len] at this
theorem En.takeB (x:En) (l:List D):(x.cells++l).take 27=x.cells:=by have:=List.take_left (l₁:=x.cells) (l₂:=l);rwa [En.cells_len] at this
theorem En.lenA (x:En) (l:List D):(x.cells++l).length=27+l.length:=by rw [List.length_append,En.cells_len]
theorem En.f_head (x:En):x.cells[0]? = some (.bool x.head):=rfl
theorem En.f_opn (x:En):(x.cells.drop 1)[0]? = some (.bool x.opn):=rfl
theorem En.t_h (x:En):(x.cells.drop 2).take 5=x.h.cells:=rfl
theorem En.f_h_id (x:En):(x.cells.drop 2)[0]? = some (.int .i64 x.h.id):=rfl
theorem En.f_h_firm (x:En):(x.cells.drop 3)[0]? = some (.int .i64 x.h.firm):=rfl
theorem En.f_h_part (x:En):(x.cells.drop 4)[0]? = some (.int .i64 x.h.part):=rfl
theorem En.f_h_params (x:En):(x.cells.drop 5)[0]? = some (.slice .none (rgCells x.h.params)):=rfl
theorem En.f_h_given (x:En):(x.cells.drop 6)[0]? = some (.slice .none (rgCells x.h.given)):=rfl
theorem En.t_d (x:En):(x.cells.drop 7).take 12=x.d.cells:=rfl
theorem En.f_d_id (x:En):(x.cells.drop 7)[0]? = some (.int .i64 x.d.id):=rfl
theorem En.f_d_site (x:En):(x.cells.drop 8)[0]? = some (.int .i64 x.d.site):=rfl
theorem En.f_d_name (x:En):(x.cells.drop 9)[0]? = some (.str x.d.name):=rfl
theorem En.f_d_firm (x:En):(x.cells.drop 10)[0]? = some (.int .i64 x.d.firm):=rfl
theorem En.f_d_part (x:En):(x.cells.drop 11)[0]? = some (.int .i64 x.d.part):=rfl
theorem En.f_d_params (x:En):(x.cells.drop 12)[0]? = some (.slice .none (rgCells x.d.params)):=rfl
theorem En.f_d_given (x:En):(x.cells.drop 13)[0]? = some (.slice .none (rgCells x.d.given)):=rfl
theorem En.f_d_vars (x:En):(x.cells.drop 14)[0]? = some (.int .i64 x.d.vars):=rfl
theorem En.f_d_refs (x:En):(x.cells.drop 15)[0]? = some (.int .i64 x.d.refs):=rfl
theorem En.f_d_arrays (x:En):(x.cells.drop 16)[0]? = some (.slice .none (arCells x.d.arrays)):=rfl
theorem En.f_d_budget (x:En):(x.cells.drop 17)[0]? = some (.int .i64 x.d.budget):=rfl
theorem En.f_d_body (x:En):(x.cells.drop 18)[0]? = some (.slice .none (Sm.encs x.d.body)):=rfl
theorem En.t_decl (x:En):(x.cells.drop 19).take 7=x.decl.cells:=rfl
theorem En.f_decl_globals (x:En):(x.cells.drop 19)[0]? = some (.slice .none (rgCells x.decl.globals)):=rfl
theorem En.f_decl_classes (x:En):(x.cells.drop 20)[0]? = some (.slice .none (rgCells x.decl.classes)):=rfl
theorem En.f_decl_queues (x:En):(x.cells.drop 21)[0]? = some (.slice .none (quCells x.decl.queues)):=rfl
theorem En.f_decl_sinks (x:En):(x.cells.drop 22)[0]? = some (.slice .none (intCells x.decl.sinks)):=rfl
theorem En.f_decl_locks (x:En):(x.cells.drop 23)[0]? = some (.int .i64 x.decl.locks):=rfl
theorem En.f_decl_parts (x:En):(x.cells.drop 24)[0]? = some (.int .i64 x.decl.parts):=rfl
theorem En.f_decl_firms (x:En):(x.cells.drop 25)[0]? = some (.int .i64 x.decl.firms):=rfl
theorem En.f_threads (x:En):(x.cells.drop 26)[0]? = some (.slice .none (intCells x.threads)):=rfl
theorem vsEn:(type_of% @En.cells_len)∧(type_of% @En.plain)∧(type_of% @En.keep1)∧(type_of% @En.take0)∧(type_of% @En.drop0)∧(type_of% @En.takeB)∧(type_of% @En.lenA)∧(type_of% @En.f_head)∧(type_of% @En.f_opn)∧(type_of% @En.t_h)∧(type_of% @En.f_h_id)∧(type_of% @En.f_h_firm)∧(type_of% @En.f_h_part)∧(type_of% @En.f_h_params)∧(type_of% @En.f_h_given)∧(type_of% @En.t_d)∧(type_of% @En.f_d_id)∧(type_of% @En.f_d_site)∧(type_of% @En.f_d_name)∧(type_of% @En.f_d_firm)∧(type_of% @En.f_d_part)∧(type_of% @En.f_d_params)∧(type_of% @En.f_d_given)∧(type_of% @En.f_d_vars)∧(type_of% @En.f_d_refs)∧(type_of% @En.f_d_arrays)∧(type_of% @En.f_d_budget)∧(type_of% @En.f_d_body)∧(type_of% @En.t_decl)∧(type_of% @En.f_decl_globals)∧(type_of% @En.f_decl_classes)∧(type_of% @En.f_decl_queues)∧(type_of% @En.f_decl_sinks)∧(type_of% @En.f_decl_locks)∧(type_of% @En.f_decl_parts)∧(type_of% @En.f_decl_firms)∧(type_of% @En.f_threads) :=
  ⟨@En.cells_len,@En.plain,@En.keep1,@En.take0,@En.drop0,@En.takeB,@En.lenA,@En.f_head,@En.f_opn,@En.t_h,@En.f_h_id,@En.f_h_firm,@En.f_h_part,@En.f_h_params,@En.f_h_given,@En.t_d,@En.f_d_id,@En.f_d_site,@En.f_d_name,@En.f_d_firm,@En.f_d_part,@En.f_d_params,@En.f_d_given,@En.f_d_vars,@En.f_d_refs,@En.f_d_arrays,@En.f_d_budget,@En.f_d_body,@En.t_decl,@En.f_decl_globals,@En.f_decl_classes,@En.f_decl_queues,@En.f_decl_sinks,@En.f_decl_locks,@En.f_decl_parts,@En.f_decl_firms,@En.f_threads⟩
def En.encs (l:List En):List (List D):=l.map En.cells
theorem En.encs_len (l:List En):(En.encs l).length=l.length:=by simp [En.encs]
structure Mg where
  p:Pg
  c:List Int
  e:Int
def Mg.cells (x:Mg):List D:=x.p.cells++([.slice .none (intCells x.c),.int .i64 x.e])
theorem Mg.cells_len (x:Mg):x.cells.length=12:=rfl
theorem Mg.plain (x:Mg):x.cells.map D.plain1=x.cells:=rfl
theorem Mg.keep1 (x:Mg):x.cells.map D.keep1=x.cells:=rfl
theorem Mg.take0 (x:Mg):x.cells.take 12=x.cells:=List.take_of_length_le (by rw [Mg.cells_len];decide)
theorem Mg.drop0 (x:Mg) (l:List D):(x.cells++l).drop 12=l:=by have:=List.drop_left (l₁:=x.cells) (l₂:=l);rwa [Mg.cells_len] at this
theorem Mg.takeB (x:Mg) (l:List D):(x.cells++l).take 12=x.cells:=by have:=List.take_left (l₁:=x.cells) (l₂:=l);rwa [Mg.cells_len] at this
theorem Mg.lenA (x:Mg) (l:List D):(x.cells++l).length=12+l.length:=by rw [List.length_append,Mg.cells_len]
theorem Mg.t_p (x:Mg):x.cells.take 10=x.p.cells:=rfl
theorem Mg.t_p_d (x:Mg):x.cells.take 7=x.p.d.cells:=rfl
theorem Mg.f_p_d_globals (x:Mg):x.cells[0]? = some (.slice .none (rgCells x.p.d.globals)):=rfl
theorem Mg.f_p_d_classes (x:Mg):(x.cells.drop 1)[0]? = some (.slice .none (rgCells x.p.d.classes)):=rfl
theorem Mg.f_p_d_queues (x:Mg):(x.cells.drop 2)[0]? = some (.slice .none (quCells x.p.d.queues)):=rfl
theorem Mg.f_p_d_sinks (x:Mg):(x.cells.drop 3)[0]? = some (.slice .none (intCells x.p.d.sinks)):=rfl
theorem Mg.f_p_d_locks (x:Mg):(x.cells.drop 4)[0]? = some (.int .i64 x.p.d.locks):=rfl
theorem Mg.f_p_d_parts (x:Mg):(x.cells.drop 5)[0]? = some (.int .i64 x.p.d.parts):=rfl
theorem Mg.f_p_d_firms (x:Mg):(x.cells.drop 6)[0]? = some (.int .i64 x.p.d.firms):=rfl
theorem Mg.f_p_heads (x:Mg):(x.cells.drop 7)[0]? = some (.slice .none (hdCells x.p.heads)):=rfl
theorem Mg.f_p_defs (x:Mg):(x.cells.drop 8)[0]? = some (.slice .none (dfCells x.p.defs)):=rfl
theorem Mg.f_p_threads (x:Mg):(x.cells.drop 9)[0]? = some (.slice .none (intCells x.p.threads)):=rfl
theorem Mg.f_c (x:Mg):(x.cells.drop 10)[0]? = some (.slice .none (intCells x.c)):=rfl
theorem Mg.f_e (x:Mg):(x.cells.drop 11)[0]? = some (.int .i64 x.e):=rfl
theorem vsMg:(type_of% @Mg.cells_len)∧(type_of% @Mg.plain)∧(type_of% @Mg.keep1)∧(type_of% @Mg.take0)∧(type_of% @Mg.drop0)∧(type_of% @Mg.takeB)∧(type_of% @Mg.lenA)∧(type_of% @Mg.t_p)∧(type_of% @Mg.t_p_d)∧(type_of% @Mg.f_p_d_globals)∧(type_of% @Mg.f_p_d_classes)∧(type_of% @Mg.f_p_d_queues)∧(type_of% @Mg.f_p_d_sinks)∧(type_of% @Mg.f_p_d_locks)∧(type_of% @Mg.f_p_d_parts)∧(type_of% @Mg.f_p_d_firms)∧(type_of% @Mg.f_p_heads)∧(type_of% @Mg.f_p_defs)∧(type_of% @Mg.f_p_threads)∧(type_of% @Mg.f_c)∧(type_of% @Mg.f_e) :=
  ⟨@Mg.cells_len,@Mg.plain,@Mg.keep1,@Mg.take0,@Mg.drop0,@Mg.takeB,@Mg.lenA,@Mg.t_p,@Mg.t_p_d,@Mg.f_p_d_globals,@Mg.f_p_d_classes,@Mg.f_p_d_queues,@Mg.f_p_d_sinks,@Mg.f_p_d_locks,@Mg.f_p_d_parts,@Mg.f_p_d_firms,@Mg.f_p_heads,@Mg.f_p_defs,@Mg.f_p_threads,@Mg.f_c,@Mg.f_e⟩
def Mg.encs (l:List Mg):List (List D):=l.map Mg.cells
theorem Mg.encs_len (l:List Mg):(Mg.encs l).length=l.length:=by simp [Mg.encs]
structure Cg where
  kind:Int
  pos:Int
  n:Int
def Cg.cells (x:Cg):List D:=[.int .u8 x.kind,.int .u8 x.pos,.int .u8 x.n]
theorem Cg.cells_len (x:Cg):x.cells.length=3:=rfl
theorem Cg.plain (x:Cg):x.cells.map D.plain1=x.cells:=rfl
theorem Cg.keep1 (x:Cg):x.cells.map D.keep1=x.cells:=rfl
theorem Cg.take0 (x:Cg):x.cells.take 3=x.cells:=List.take_of_length_le (by rw [Cg.cells_len];decide)
theorem Cg.drop0 (x:Cg) (l:List D):(x.cells++l).drop 3=l:=by have:=List.drop_left (l₁:=x.cells) (l₂:=l);rwa [Cg.cells_len] at this
theorem Cg.takeB (x:Cg) (l:List D):(x.cells++l).take 3=x.cells:=by have:=List.take_left (l₁:=x.cells) (l₂:=l);rwa [Cg.cells_len] at this
theorem Cg.lenA (x:Cg) (l:List D):(x.cells++l).length=3+l.length:=by rw [List.length_append,Cg.cells_len]
theorem Cg.f_kind (x:Cg):x.cells[0]? = some (.int .u8 x.kind):=rfl
theorem Cg.f_pos (x:Cg):(x.cells.drop 1)[0]? = some (.int .u8 x.pos):=rfl
theorem Cg.f_n (x:Cg):(x.cells.drop 2)[0]? = some (.int .u8 x.n):=rfl
theorem vsCg:(type_of% @Cg.cells_len)∧(type_of% @Cg.plain)∧(type_of% @Cg.keep1)∧(type_of% @Cg.take0)∧(type_of% @Cg.drop0)∧(type_of% @Cg.takeB)∧(type_of% @Cg.lenA)∧(type_of% @Cg.f_kind)∧(type_of% @Cg.f_pos)∧(type_of% @Cg.f_n) :=
  ⟨@Cg.cells_len,@Cg.plain,@Cg.keep1,@Cg.take0,@Cg.drop0,@Cg.takeB,@Cg.lenA,@Cg.f_kind,@Cg.f_pos,@Cg.f_n⟩
def Cg.encs (l:List Cg):List (List D):=l.map Cg.cells
theorem Cg.encs_len (l:List Cg):(Cg.encs l).length=l.length:=by simp [Cg.encs]
theorem En.eq_iff (a b:En):(a.head=b.head∧a.opn=b.opn∧a.h=b.h∧a.d=b.d∧a.decl=b.decl∧a.threads=b.threads)↔a=b:=by cases a;cases b;simp
instance:DecidableEq En:=fun a b=>decidable_of_iff _ (En.eq_iff a b)
def Dc.zero:Dc:=⟨[],[],[],[],0,0,0⟩
def Pg.zero:Pg:=⟨Dc.zero,[],[],[]⟩
def En.zero:En:=⟨false,false,Hd.zero,Df.zero,Dc.zero,[]⟩
set_option maxHeartbeats 4000000
structure SameK (k j:Ck):Prop where
  par:k.d.params.length=j.d.params.length
  vars:k.d.vars=j.d.vars
  arr:k.d.arrays.length=j.d.arrays.length
  refs:k.d.refs=j.d.refs
  gl:k.x.globals.length=j.x.globals.length
  cl:k.x.classes.length=j.x.classes.length
  qu:k.x.queues.length=j.x.queues.length
  si:k.x.sinks.length=j.x.sinks.length
  lo:k.x.locks=j.x.locks
  pa:k.x.parts=j.x.parts
mutual
theorem exprS_congr {k j:Ck} (h:SameK k j):(e:Ex)→∀ d,exprS k e d=exprS j e d
  | .mk op n v a=>fun d=>by
    simp only [exprS,h.vars,h.arr,exprsS_congr h a]
theorem exprsS_congr {k j:Ck} (h:SameK k j):(l:List Ex)→∀ d acc,exprsS k l d acc=exprsS j l d acc
  | []=>fun d acc=>by simp only [exprsS]
  | x::l=>fun d acc=>by simp only [exprsS,exprS_congr h x,exprsS_congr h l]
end
mutual
theorem condS_congr {k j:Ck} (h:SameK k j):(e:Co)→∀ d,condS k e d=condS j e d
  | .mk op a c=>fun d=>by
    simp only [condS,exprsS_congr h,condsS_congr h c]
theorem condsS_congr {k j:Ck} (h:SameK k j):(l:List Co)→∀ d acc,condsS k l d acc=condsS j l d acc
  | []=>fun d acc=>by simp only [condsS]
  | x::l=>fun d acc=>by simp only [condsS,condS_congr h x,condsS_congr h l]
end
theorem valueB_congr {k j:Ck} (h:SameK k j) (e:Ex):valueB k e=valueB j e:=by simp only [valueB,exprS_congr h]
theorem testB_congr {k j:Ck} (h:SameK k j) (e:Co):testB k e=testB j e:=by simp only [testB,condS_congr h]
theorem numberB_congr {k j:Ck} (h:SameK k j) (w n:Int):numberB k w n=numberB j w n:=by simp only [numberB,h.par,h.vars,h.refs,h.arr,h.gl,h.cl,h.qu,h.si,h.lo,h.pa]
theorem stmtB_congr {k j:Ck} (h:SameK k j) (s:Sm):stmtB k s=stmtB j s:=by
  have h1:valueB k=valueB j:=funext fun e=>valueB_congr h e
  have h2:numberB k 3=numberB j 3:=funext fun n=>numberB_congr h 3 n
  simp only [stmtB,exprFB,condFB,callFB,numberB_congr h,h1,h2,testB_congr h]
theorem scanB_mem {k:Ck}:∀ {ps:List Pl} {seen:List Int},scanB k ps seen=true→∀ q ∈ ps,stmtB k q.s=true∧q.depth≤10
  | [],_,_,q,hq=>by simp at hq
  | p::ps,seen,h,q,hq=>by
    simp only [scanB,Bool.and_eq_true,Bool.not_eq_true',Bool.or_eq_false_iff,decide_eq_false_iff_not] at h
    obtain ⟨⟨⟨⟨h1,_⟩,_⟩,h2⟩,h3⟩:=h
    rcases List.mem_cons.1 hq with rfl | hq
    · exact ⟨by simpa using h2,by omega⟩
    · exact scanB_mem h3 q hq
def abcN (n:Int):ByteArray:=if n=0 then ⟨#[97,108,112,104,97]⟩ else if n=1 then ⟨#[98,101,116,97]⟩ else ⟨#[103,97,109,109,97]⟩
def newStmt (d:Df) (n:Int):Sm:=.mk (w64 (w64 (8000+w64 (10 * d.id))+n.tmod 3)) 6 (n.tmod 2) 0 0 (.mk 0 0 0 []) (.mk 0 0 0 []) (.mk 0 [] []) [] [] [] []
def sortedS (p:Pg):Pg:=withH { p with defs:=movedL p.defs.dropLast (p.defs.getLast?.getD Df.zero) }
def chgD (p:Pg) (z:Cg):Df:=(p.defs[z.pos.toNat % p.defs.length]?).getD Df.zero
def setV (p:Pg) (z:Cg) (d:Df):Pg:=sortedS { p with defs:=p.defs.set (z.pos.toNat % p.defs.length) d }
def chg1 (p:Pg) (z:Cg):Pg :=
  if z.kind.tmod 7=0 then setV p z { chgD p z with name:=abcN (z.n.tmod 3) }
  else if z.kind.tmod 7=1 then setV p z { chgD p z with budget:=w64 (1+z.n) }
  else if z.kind.tmod 7=2 then setV p z { chgD p z with part:=z.n.tmod 3 }
  else if z.kind.tmod 7=3 then sortedS { p with defs:=if (findS p (20+z.n.tmod 2)).isSome then p.defs else p.defs++[spareD (20+z.n.tmod 2) (z.n.tmod 4)] }
  else if z.kind.tmod 7=4 then if calledB p (chgD p z).id || decide (p.defs.length=1) then p else withH { p with defs:=p.defs.take (z.pos.toNat % p.defs.length)++p.defs.drop (z.pos.toNat % p.defs.length+1) }
  else if z.kind.tmod 7=5 then if (chgD p z).refs<2 ∨ ¬ (sitesS { chgD p z with body:=(chgD p z).body++[newStmt (chgD p z) z.n] }).Nodup then p else setV p z { chgD p z with body:=(chgD p z).body++[newStmt (chgD p z) z.n] }
  else sortedS { p with threads:=p.threads.take 1,d:={ p.d with firms:=w64 (2+z.n.tmod 2) } }
def variantS (p:Pg) (l:List Cg):Pg:=(l.take 5).foldl chg1 p
def dcl (f:Int):Dc:={ declared with firms:=f }
structure VD (d:Df) (n:Nat):Prop where
  hb:headB d declared=true
  st:∀ q ∈ flatL 1 d.body,stmtB ⟨d,declared⟩ q.s=true∧q.depth≤10
  fl:(sitesS d).length≤40+n
  cn:(rawC (flatL 1 d.body)).length≤9
  nm:d.name.size≤8
  id:11≤d.id∧d.id≤21
  sr:∀ s ∈ sitesS d,(100<s∧s≤1000)∨(20≤d.id∧5000+10 * d.id≤s∧s≤5001+10 * d.id)∨(8000+10 * d.id≤s∧s≤8002+10 * d.id)
structure VL (ds:List Df) (n:Nat):Prop where
  ne:ds≠[]
  ln:ds.length≤4+n
  nd:(ds.map (·.id)).Nodup
  ok:∀ d ∈ ds,VD d n
  ca:∀ d ∈ ds,∀ q ∈ flatL 1 d.body,q.s.op=13→∃ e ∈ ds,e.id<d.id∧q.s.m=e.id∧q.s.args.length=e.params.length∧q.s.ptrs.length=e.given.length
  sn:∀ d ∈ ds,(sitesS d).Nodup
  sx:∀ a ∈ ds,∀ b ∈ ds,a.id≠b.id→∀ x ∈ sitesS a,x ∉ sitesS b
structure VarOk (p:Pg) (n:Nat):Prop where
  fm:∃ f,(f=2∨f=3)∧p.d=dcl f
  hds:p.heads=p.defs.map hdOf
  pw:p.defs.Pairwise (fun a b=>a.id<b.id)
  vl:VL p.defs n
  tl:1≤p.threads.length∧p.threads.length≤2
  th:∀ t ∈ p.threads,∃ d ∈ p.defs,d.id=t∧isT d=true
theorem VD.mono {d:Df} {n m:Nat} (h:VD d n) (hm:n≤m):VD d m:={ h with fl:=by have:=h.fl;omega }
theorem VL.mono {ds:List Df} {n m:Nat} (h:VL ds n) (hm:n≤m):VL ds m:={ h with ok:=fun d hd=>(h.ok d hd).mono hm,ln:=by have:=h.ln;omega }
theorem VarOk.mono {p:Pg} {n m:Nat} (h:VarOk p n) (hm:n≤m):VarOk p m:={ h with vl:=h.vl.mono hm }
theorem VL.perm {ds es:List Df} {n:Nat} (h:VL ds n) (hp:es.Perm ds):VL es n where
  ne:=fun e=>h.ne (by rw [e] at hp;exact hp.symm.eq_nil)
  ln:=by rw [hp.length_eq];exact h.ln
  nd:=(hp.map _).nodup_iff.2 h.nd
  ok:=fun d hd=>h.ok d (hp.mem_iff.1 hd)
  ca:=fun d hd q hq h13=>by obtain ⟨e,he,r⟩:=h.ca d (hp.mem_iff.1 hd) q hq h13;exact ⟨e,hp.mem_iff.2 he,r⟩
  sn:=fun d hd=>h.sn d (hp.mem_iff.1 hd)
  sx:=fun a ha b hb=>h.sx a (hp.mem_iff.1 ha) b (hp.mem_iff.1 hb)
theorem set_mem {ds:List Df} {k:Nat} {d d' e:Df} (hk:ds[k]? = some d) (e1:d'.id=d.id) (e2:d'.params=d.params) (e3:d'.given=d.given) (he:e ∈ ds):∃ e' ∈ ds.set k d',e'.id=e.id∧e'.params=e.params∧e'.given=e.given:=by
  obtain ⟨j,hj,rfl⟩:=List.getElem_of_mem he
  obtain ⟨hkl,hke⟩:=List.getElem?_eq_some_iff.1 hk
  by_cases h:k=j
  · subst h
    exact ⟨d',List.mem_set hkl d',by rw [e1,hke],by rw [e2,hke],by rw [e3,hke]⟩
  · refine ⟨ds[j],?_,rfl,rfl,rfl⟩
    rw [List.mem_iff_getElem?]
    exact ⟨j,by rw [List.getElem?_set_ne h];exact List.getElem?_eq_getElem hj⟩
theorem set_ids {ds:List Df} {k:Nat} {d d':Df} (hk:ds[k]? = some d) (e1:d'.id=d.id):(ds.set k d').map (·.id)=ds.map (·.id):=by
  obtain ⟨hk,rfl⟩:=List.getElem?_eq_some_iff.1 hk
  rw [List.map_set]
  refine List.ext_getElem (by simp) fun i h1 h2=>?_
  rw [List.getElem_set]
  split
  · rename_i h;subst h;simpa using e1
  · rfl
theorem VL.set {ds:List Df} {n k:Nat} {d d':Df} (h:VL ds n) (hk:ds[k]? = some d) (e1:d'.id=d.id) (e2:d'.params=d.params) (e3:d'.given=d.given) (ok:VD d' (n+1)) (cs:∀ q ∈ flatL 1 d'.body,q.s.op=13→q ∈ flatL 1 d.body)
    (sn:(sitesS d').Nodup) (ss:∀ x ∈ sitesS d',x ∈ sitesS d∨(8000+10 * d.id≤x∧x≤8002+10 * d.id)):VL (ds.set k d') (n+1):=by
  have hd:d ∈ ds:=List.mem_of_getElem? hk
  have hm:∀ x ∈ ds.set k d',x ∈ ds∨x=d':=fun x hx=>List.mem_or_eq_of_mem_set hx
  have hfar:∀ b ∈ ds,b.id≠d.id→∀ x ∈ sitesS d',x ∉ sitesS b:=by
    intro b hb hne x hx hxb
    rcases ss x hx with h1 | h1
    · exact h.sx d hd b hb (fun e=>hne e.symm) x h1 hxb
    · have:=(h.ok b hb).sr x hxb
      have h2:=(h.ok b hb).id
      have h3:=(h.ok d hd).id
      omega
  refine ⟨?_,?_,?_,?_,?_,?_,?_⟩
  · intro e;exact h.ne (by simpa using e)
  · have:=h.ln;simp;omega
  · rw [set_ids hk e1];exact h.nd
  · intro x hx
    rcases hm x hx with hx | rfl
    · exact (h.ok x hx).mono (by omega)
    · exact ok
  · intro x hx q hq h13
    rcases hm x hx with hx | rfl
    · obtain ⟨e,he,r1,r2,r3,r4⟩:=h.ca x hx q hq h13
      obtain ⟨e',he',q1,q2,q3⟩:=set_mem hk e1 e2 e3 he
      exact ⟨e',he',by rw [q1];exact r1,by rw [q1];exact r2,by rw [q2];exact r3,by rw [q3];exact r4⟩
    · obtain ⟨e,he,r1,r2,r3,r4⟩:=h.ca d hd q (cs q hq h13) h13
      obtain ⟨e',he',q1,q2,q3⟩:=set_mem hk e1 e2 e3 he
      exact ⟨e',he',by rw [q1,e1];exact r1,by rw [q1];exact r2,by rw [q2];exact r3,by rw [q3];exact r4⟩
  · intro x hx
    rcases hm x hx with hx | rfl
    · exact h.sn x hx
    · exact sn
  · intro a ha b hb hne x hx hxb
    rcases hm a ha with ha | ha <;> rcases hm b hb with hb | hb
    · exact h.sx a ha b hb hne x hx hxb
    · exact hfar a ha (by rw [← e1,← hb];exact hne) x (hb ▸ hxb) hx
    · exact hfar b hb (by rw [← e1,← ha];exact fun e=>hne e.symm) x (ha ▸ hx) hxb
    · exact hne (by rw [ha,hb])
theorem filter_gt {x:Int}:∀ {l:List Df},l.Pairwise (fun a b=>a.id<b.id)→(∀ d ∈ l,d.id≠x)→l.takeWhile (fun d=>decide (d.id<x))++l.filter (fun d=>decide (d.id > x))=l
  | [],_,_=>rfl
  | y::l,h,hx=>by
    obtain ⟨h1,h2⟩:=List.pairwise_cons.1 h
    have hy:=hx y (by simp)
    by_cases e:y.id<x
    · have e':¬ y.id > x:=by omega
      rw [List.takeWhile_cons_of_pos (by simpa using e),List.filter_cons_of_neg (by simpa using e'),List.cons_append,filter_gt h2 fun d hd=>hx d (by simp [hd])]
    · rw [List.takeWhile_cons_of_neg (by simpa using e),List.nil_append,List.filter_eq_self.2]
      intro d hd
      rcases List.mem_cons.1 hd with rfl | hd
      · simp;omega
      · have:=h1 d hd;simp;omega
theorem takeWhile_lt {x:Int}:∀ {l:List Df},∀ d ∈ l.takeWhile (fun d=>decide (d.id<x)),d.id<x
  | [],d,h=>by simp at h
  | y::l,d,h=>by
    by_cases e:y.id<x
    · rw [List.takeWhile_cons_of_pos (by simpa using e)] at h
      rcases List.mem_cons.1 h with rfl | h
      · exact e
      · exact takeWhile_lt d h
    · rw [List.takeWhile_cons_of_neg (by simpa using e)] at h;simp at h
theorem moved_perm {l:List Df} {x:Df} (h:l.Pairwise (fun a b=>a.id<b.id)) (hx:∀ d ∈ l,d.id≠x.id):(movedL l x).Perm (l++[x])∧(movedL l x).Pairwise (fun a b=>a.id<b.id):=by
  have e:=filter_gt h hx
  constructor
  · unfold movedL
    rw [List.append_assoc]
    refine (List.Perm.append_left _ List.perm_append_comm).trans ?_
    rw [← List.append_assoc,e]
  · unfold movedL
    have h':=h
    rw [← e] at h'
    obtain ⟨p1,p2,p3⟩:=List.pairwise_append.1 h'
    refine List.pairwise_append.2 ⟨List.pairwise_append.2 ⟨p1,by simp,fun a ha b hb=>?_⟩,p2,fun a ha b hb=>?_⟩
    · simp at hb;subst hb;exact takeWhile_lt a ha
    · rcases List.mem_append.1 ha with ha | ha
      · exact p3 a ha b hb
      · simp at ha;subst ha
        have:=(List.mem_filter.1 hb).2
        simpa using this
theorem last_split {ds:List Df} (h:ds≠[]):ds=ds.dropLast++[ds.getLast?.getD Df.zero]:=by
  rw [List.getLast?_eq_some_getLast h]
  exact (List.dropLast_concat_getLast h).symm
theorem VarOk.sorted {p:Pg} {n:Nat} (fm:∃ f,(f=2∨f=3)∧p.d=dcl f) (pw:p.defs.dropLast.Pairwise (fun a b=>a.id<b.id)) (vl:VL p.defs n) (tl:1≤p.threads.length∧p.threads.length≤2) (th:∀ t ∈ p.threads,∃ d ∈ p.defs,d.id=t∧isT d=true):VarOk (sortedS p) n:=by
  have hs:=last_split vl.ne
  have hx:∀ d ∈ p.defs.dropLast,d.id≠(p.defs.getLast?.getD Df.zero).id:=by
    have:=vl.nd
    rw [hs,List.map_append] at this
    intro d hd e
    exact (List.nodup_append.1 this).2.2 d.id (List.mem_map.2 ⟨d,hd,rfl⟩) _ (by simp) e
  obtain ⟨h1,h2⟩:=moved_perm pw hx
  rw [← hs] at h1
  exact ⟨fm,rfl,h2,vl.perm h1,tl,fun t ht=>by obtain ⟨d,hd,r⟩:=th t ht;exact ⟨d,h1.mem_iff.2 hd,r⟩⟩
theorem isT_of {d d':Df} (e2:d'.params=d.params) (e3:d'.given=d.given):isT d'=isT d:=by simp only [isT,e2,e3]
theorem VarOk.set {p:Pg} {n:Nat} {z:Cg} {d':Df} (h:VarOk p n) (e1:d'.id=(chgD p z).id) (e2:d'.params=(chgD p z).params) (e3:d'.given=(chgD p z).given) (ok:VD d' (n+1)) (cs:∀ q ∈ flatL 1 d'.body,q.s.op=13→q ∈ flatL 1 (chgD p z).body)
    (sn:(sitesS d').Nodup) (ss:∀ x ∈ sitesS d',x ∈ sitesS (chgD p z)∨(8000+10 * (chgD p z).id≤x∧x≤8002+10 * (chgD p z).id)):VarOk (setV p z d') (n+1):=by
  have hl:z.pos.toNat % p.defs.length<p.defs.length:=Nat.mod_lt _ (List.length_pos_iff.2 h.vl.ne)
  have hk:p.defs[z.pos.toNat % p.defs.length]? = some (chgD p z):=by rw [chgD,List.getElem?_eq_getElem hl];rfl
  refine VarOk.sorted (p:={ p with defs:=p.defs.set (z.pos.toNat % p.defs.length) d' }) h.fm ?_ (h.vl.set hk e1 e2 e3 ok cs sn ss) h.tl fun t ht=>?_
  · have:(p.defs.set (z.pos.toNat % p.defs.length) d').Pairwise (fun a b=>a.id<b.id):=by
      rw [← List.pairwise_map (f:=fun d:Df=>d.id) (R:=(· < ·)),set_ids hk e1,List.pairwise_map]
      exact h.pw
    exact this.sublist (List.dropLast_sublist _)
  · obtain ⟨d,hd,r1,r2⟩:=h.th t ht
    obtain ⟨e',he',q1,q2,q3⟩:=set_mem hk e1 e2 e3 hd
    exact ⟨e',he',by rw [q1];exact r1,by rw [isT_of q2 q3];exact r2⟩
theorem VarOk.chgD_mem {p:Pg} {n:Nat} (h:VarOk p n) (z:Cg):chgD p z ∈ p.defs:=by
  have hl:z.pos.toNat % p.defs.length<p.defs.length:=Nat.mod_lt _ (List.length_pos_iff.2 h.vl.ne)
  rw [chgD,List.getElem?_eq_getElem hl]
  exact List.getElem_mem hl
theorem VarOk.set0 {p:Pg} {n:Nat} {z:Cg} {d':Df} (h:VarOk p n) (e1:d'.id=(chgD p z).id) (e2:d'.params=(chgD p z).params) (e3:d'.given=(chgD p z).given) (e4:d'.body=(chgD p z).body) (e5:d'.site=(chgD p z).site) (e6:d'.vars=(chgD p z).vars) (e7:d'.arrays=(chgD p z).arrays) (e8:d'.refs=(chgD p z).refs)
    (hb:headB d' declared=true) (nm:d'.name.size≤8):VarOk (setV p z d') (n+1):=by
  have hm:=h.chgD_mem z
  have hv:=h.vl.ok _ hm
  have es:sitesS d'=sitesS (chgD p z):=by rw [sitesS,sitesS,e4,e5]
  have hk:SameK ⟨d',declared⟩ ⟨chgD p z,declared⟩:=⟨by simp only [e2],by simp only [e6],by simp only [e7],by simp only [e8],rfl,rfl,rfl,rfl,rfl,rfl⟩
  refine h.set e1 e2 e3 ?_ (fun q hq _=>by rw [e4] at hq;exact hq) (by rw [es];exact h.vl.sn _ hm) fun x hx=>.inl (by rw [← es];exact hx)
  exact { hb:=hb,st:=fun q hq=>by rw [stmtB_congr hk];rw [e4] at hq;exact hv.st q hq,fl:=by rw [es];have:=hv.fl;omega,cn:=by rw [e4];exact hv.cn,nm:=nm,id:=by rw [e1];exact hv.id,sr:=by rw [es,e1];exact hv.sr }
theorem name_var {n:Int}:nameB (abcN n)=true∧(abcN n).size≤8:=by
  unfold abcN
  split
  · decide +kernel
  split <;> decide +kernel
theorem headB_name {d:Df} {s:ByteArray} (h:headB d declared=true) (hn:nameB s=true):headB { d with name:=s } declared=true:=by
  have e:∀ a,arrB { d with name:=s } a=arrB d a:=fun a=>rfl
  have e':arrB { d with name:=s }=arrB d:=funext e
  simp only [headB,Bool.and_eq_true,e'] at h ⊢
  exact ⟨⟨⟨⟨⟨⟨⟨⟨⟨⟨h.1.1.1.1.1.1.1.1.1.1,h.1.1.1.1.1.1.1.1.1.2⟩,hn⟩,h.1.1.1.1.1.1.1.2⟩,h.1.1.1.1.1.1.2⟩,h.1.1.1.1.1.2⟩,h.1.1.1.1.2⟩,h.1.1.1.2⟩,h.1.1.2⟩,h.1.2⟩,h.2⟩
theorem headB_budget {d:Df} {n:Int} (h:headB d declared=true) (hn:inB n 1 20000=true):headB { d with budget:=n } declared=true:=by
  have e':arrB { d with budget:=n }=arrB d:=funext fun a=>rfl
  simp only [headB,Bool.and_eq_true,e'] at h ⊢
  exact ⟨⟨⟨⟨⟨⟨⟨⟨⟨⟨h.1.1.1.1.1.1.1.1.1.1,h.1.1.1.1.1.1.1.1.1.2⟩,h.1.1.1.1.1.1.1.1.2⟩,h.1.1.1.1.1.1.1.2⟩,h.1.1.1.1.1.1.2⟩,h.1.1.1.1.1.2⟩,h.1.1.1.1.2⟩,hn⟩,h.1.1.2⟩,h.1.2⟩,h.2⟩
theorem headB_part {d:Df} {n:Int} (h:headB d declared=true) (hn:inB n 0 (w64 (declared.parts - 1))=true):headB { d with part:=n } declared=true:=by
  have e':arrB { d with part:=n }=arrB d:=funext fun a=>rfl
  simp only [headB,Bool.and_eq_true,e'] at h ⊢
  exact ⟨⟨⟨⟨⟨⟨⟨⟨⟨⟨h.1.1.1.1.1.1.1.1.1.1,h.1.1.1.1.1.1.1.1.1.2⟩,h.1.1.1.1.1.1.1.1.2⟩,h.1.1.1.1.1.1.1.2⟩,hn⟩,h.1.1.1.1.1.2⟩,h.1.1.1.1.2⟩,h.1.1.1.2⟩,h.1.1.2⟩,h.1.2⟩,h.2⟩
theorem headB_body {d:Df} {l:List Sm} (h:headB d declared=true):headB { d with body:=l } declared=true:=h
theorem tmod_rg {n k:Int} (hn:0≤n) (hk:0<k):0≤n.tmod k∧n.tmod k<k:=by
  rw [Int.tmod_eq_emod_of_nonneg hn]
  exact ⟨Int.emod_nonneg _ (by omega),Int.emod_lt_of_pos _ hk⟩
theorem new_flat (d:Df) (n:Int):flatL 1 (d.body++[newStmt d n])=flatL 1 d.body++[⟨newStmt d n,1⟩]:=by
  rw [flatL_app];simp [flatL,Sm.flat,newStmt]
theorem new_sites (d:Df) (n:Int):sitesS { d with body:=d.body++[newStmt d n] }=sitesL (flatL 1 d.body)++[(newStmt d n).site]++[d.site]:=by
  show sitesL (flatL 1 (d.body++[newStmt d n]))++[d.site]=_
  rw [new_flat];simp [sitesL]
theorem new_raw (d:Df) (n:Int):rawC (flatL 1 (d.body++[newStmt d n]))=rawC (flatL 1 d.body):=by
  rw [new_flat,rawC_app];simp [rawC,newStmt,Sm.op]
theorem new_site {d:Df} {n:Int} (hd:11≤d.id∧d.id≤21) (hn:0≤n):(newStmt d n).site=8000+10 * d.id+n.tmod 3:=by
  have h:=tmod_rg hn (show (0:Int)<3 by omega)
  show w64 (w64 (8000+w64 (10 * d.id))+n.tmod 3)=_
  rw [w64_in (n:=10 * d.id) (by omega),w64_in (n:=8000+10 * d.id) (by omega),w64_in (by omega)]
theorem new_right {d:Df} {n:Int} (hd:11≤d.id∧d.id≤21) (hn:0≤n) (hr:2≤d.refs∧d.refs≤4):stmtB ⟨d,declared⟩ (newStmt d n)=true:=by
  have h:=tmod_rg hn (show (0:Int)<2 by omega)
  have h3:=tmod_rg hn (show (0:Int)<3 by omega)
  have e:=new_site hd hn
  have hs:inB (newStmt d n).site 1 1073741824=true:=by rw [e];exact inB_ok (by omega)
  have hw:w64 (d.refs - 1)=d.refs - 1:=w64_in (by omega)
  have hN:inB (n.tmod 2) 0 (d.refs - 1)=true:=inB_ok (by omega)
  have t:tableF (newStmt d n).op=tableF 6:=rfl
  have t2:(newStmt d n).n=n.tmod 2:=rfl
  simp only [stmtB,t,hs,t2]
  simp [tableF,numberB,hw,hN,newStmt,exprFB,condFB,callFB,nofl,Sm.m,Sm.v,Sm.x,Sm.y,Sm.c,Sm.args,Sm.ptrs,Sm.body,Sm.els,Ex.op,Ex.n,Ex.v,Ex.a,Co.op,Co.a,Co.c]
  try exact w64_in (by omega)
theorem spare_ok {i v:Int} (hi:0≤i∧i<2) (hv:0≤v∧v<4):VD (spareD (20+i) v) 0∧sitesS (spareD (20+i) v)=[5001+10 * (20+i),5000+10 * (20+i)]∧rawC (flatL 1 (spareD (20+i) v).body)=[]∧∀ q ∈ flatL 1 (spareD (20+i) v).body,¬ q.s.op=13:=by
  have hi':i=0∨i=1:=by omega
  have hv':v=0∨v=1∨v=2∨v=3:=by omega
  rcases hi' with rfl | rfl <;> rcases hv' with rfl | rfl | rfl | rfl <;>
    exact ⟨{ hb:=by decide +kernel,st:=by decide +kernel,fl:=by decide +kernel,cn:=by decide +kernel,nm:=by decide +kernel,id:=by decide +kernel,sr:=by decide +kernel },by decide +kernel,by decide +kernel,by decide +kernel⟩
theorem chgD_refs {p:Pg} {n:Nat} (h:VarOk p n) (z:Cg):(chgD p z).refs≤4:=by
  have:=(h.vl.ok _ (h.chgD_mem z)).hb
  simp only [headB,Bool.and_eq_true] at this
  exact (inB_iff.1 this.1.1.1.1.2).2
theorem VarOk.chg {p:Pg} {n:Nat} {z:Cg} (h:VarOk p n) (hz:(0≤z.kind∧z.kind<256)∧(0≤z.pos∧z.pos<256)∧(0≤z.n∧z.n<256)):VarOk (chg1 p z) (n+1):=by
  have hm:=h.chgD_mem z
  have hv:=h.vl.ok _ hm
  obtain ⟨_,_,hz1,hz2⟩:=hz
  unfold chg1
  split
  · exact h.set0 rfl rfl rfl rfl rfl rfl rfl rfl (headB_name hv.hb name_var.1) name_var.2
  split
  · refine h.set0 rfl rfl rfl rfl rfl rfl rfl rfl (headB_budget hv.hb ?_) hv.nm
    rw [w64_in (by omega)];exact inB_ok (by omega)
  split
  · have:=tmod_rg hz1 (show (0:Int)<3 by omega)
    exact h.set0 rfl rfl rfl rfl rfl rfl rfl rfl (headB_part hv.hb (by rw [show w64 (declared.parts - 1)=2 from w64_in (by decide)];exact inB_ok (by omega))) hv.nm
  split
  · have h2:=tmod_rg hz1 (show (0:Int)<2 by omega)
    have h4:=tmod_rg hz1 (show (0:Int)<4 by omega)
    obtain ⟨s1,s2,s3,s4⟩:=spare_ok h2 h4
    by_cases hf:(findS p (20+z.n.tmod 2)).isSome=true
    · rw [if_pos hf]
      exact VarOk.sorted (p:={ p with defs:=p.defs }) h.fm (h.pw.sublist (List.dropLast_sublist _)) (h.vl.mono (by omega)) h.tl h.th
    · rw [if_neg hf]
      have hno:∀ d ∈ p.defs,d.id≠20+z.n.tmod 2:=by
        intro d hd e
        have:findS p (20+z.n.tmod 2)=some d:=by rw [← e];exact find_pw h.pw d hd
        rw [this] at hf;exact hf rfl
      generalize hx:spareD (20+z.n.tmod 2) (z.n.tmod 4)=x at s1 s2 s3 s4 ⊢
      have hxi:x.id=20+z.n.tmod 2:=by rw [← hx];rfl
      have hdrop:(p.defs++[x]).dropLast=p.defs:=List.dropLast_concat
      refine VarOk.sorted (p:={ p with defs:=p.defs++[x] }) h.fm (by show (p.defs++[x]).dropLast.Pairwise _;rw [hdrop];exact h.pw) ?_ h.tl (fun t ht=>by obtain ⟨d,hd,r⟩:=h.th t ht;exact ⟨d,List.mem_append_left _ hd,r⟩)
      have hl:=h.vl.ln
      have far:∀ b ∈ p.defs,∀ y ∈ sitesS x,y ∉ sitesS b:=by
        intro b hb y hy hyb
        have h1:=(h.vl.ok b hb).sr y hyb
        have h3:=(h.vl.ok b hb).id
        have h5:=hno b hb
        rw [s2] at hy
        simp only [List.mem_cons,List.not_mem_nil,or_false] at hy
        omega
      refine ⟨by simp,by simp;omega,?_,?_,?_,?_,?_⟩
      · rw [List.map_append]
        refine List.nodup_append.2 ⟨h.vl.nd,by simp,fun a ha b hb=>?_⟩
        obtain ⟨d,hd,rfl⟩:=List.mem_map.1 ha
        simp at hb;subst hb
        rw [hxi];exact hno d hd
      · intro d hd
        rcases List.mem_append.1 hd with hd | hd
        · exact (h.vl.ok d hd).mono (by omega)
        · simp at hd;subst hd;exact s1.mono (by omega)
      · intro d hd q hq h13
        rcases List.mem_append.1 hd with hd | hd
        · obtain ⟨e,he,r⟩:=h.vl.ca d hd q hq h13;exact ⟨e,List.mem_append_left _ he,r⟩
        · simp at hd;subst hd;exact absurd h13 (s4 q hq)
      · intro d hd
        rcases List.mem_append.1 hd with hd | hd
        · exact h.vl.sn d hd
        · simp at hd;subst hd;rw [s2];simp
      · intro a ha b hb hne y hy hyb
        rcases List.mem_append.1 ha with ha | ha <;> rcases List.mem_append.1 hb with hb | hb
        · exact h.vl.sx a ha b hb hne y hy hyb
        · exact far a ha y (List.mem_singleton.1 hb ▸ hyb) hy
        · exact far b hb y (List.mem_singleton.1 ha ▸ hy) hyb
        · simp at ha hb;exact hne (by rw [ha,hb])
  split
  · split
    · exact h.mono (by omega)
    · rename_i hc
      simp only [Bool.or_eq_true,decide_eq_true_eq,not_or,Bool.not_eq_true] at hc
      obtain ⟨hc1,hc2⟩:=hc
      have hl:z.pos.toNat % p.defs.length<p.defs.length:=Nat.mod_lt _ (List.length_pos_iff.2 h.vl.ne)
      have hk:p.defs[z.pos.toNat % p.defs.length]? = some (chgD p z):=by rw [chgD,List.getElem?_eq_getElem hl];rfl
      generalize chgD p z=d at hm hv hc1 hk ⊢
      generalize z.pos.toNat % p.defs.length=k at hl hk ⊢
      have hsp:p.defs=p.defs.take k++d::p.defs.drop (k+1):=by
        obtain ⟨h1,h2⟩:=List.getElem?_eq_some_iff.1 hk
        rw [← h2,← List.drop_eq_getElem_cons h1,List.take_append_drop]
      have hsub:(p.defs.take k++p.defs.drop (k+1)).Sublist p.defs:=by
        conv=>rhs;rw [hsp]
        exact (List.Sublist.refl _).append (List.sublist_cons_self _ _)
      have hin:∀ e ∈ p.defs,e.id≠d.id→e ∈ p.defs.take k++p.defs.drop (k+1):=by
        intro e he hne
        rw [hsp] at he
        rcases List.mem_append.1 he with he | he
        · exact List.mem_append_left _ he
        · rcases List.mem_cons.1 he with rfl | he
          · exact absurd rfl hne
          · exact List.mem_append_right _ he
      have hlen:(p.defs.take k++p.defs.drop (k+1)).length+1=p.defs.length:=by
        conv=>rhs;rw [hsp]
        simp;omega
      have hno:∀ e ∈ p.defs,∀ q ∈ flatL 1 e.body,q.s.op=13→q.s.m≠d.id:=by
        intro e he q hq h13 hqm
        have:calledB p d.id=true:=by
          simp only [calledB,Bool.or_eq_true,List.any_eq_true]
          exact .inl ⟨e,he,by simpa using mem_callsR.2 ⟨q,hq,h13,hqm⟩⟩
        rw [this] at hc1;simp at hc1
      have hnt:∀ t ∈ p.threads,t≠d.id:=by
        intro t ht e
        have:calledB p d.id=true:=by
          simp only [calledB,Bool.or_eq_true]
          exact .inr (by rw [← e];simpa using ht)
        rw [this] at hc1;simp at hc1
      have hp:=hsub
      generalize hds:p.defs.take k++p.defs.drop (k+1)=ds at hsub hin hlen hp ⊢
      refine ⟨h.fm,rfl,h.pw.sublist hp,⟨?_,?_,h.vl.nd.sublist (hp.map _),fun e he=>(h.vl.ok e (hsub.mem he)).mono (by omega),?_,fun e he=>h.vl.sn e (hsub.mem he),fun a ha b hb=>h.vl.sx a (hsub.mem ha) b (hsub.mem hb)⟩,h.tl,?_⟩
      · show ds≠[]
        intro e;rw [e] at hlen;simp at hlen;omega
      · show ds.length≤_
        have:=h.vl.ln;omega
      · intro e he q hq h13
        obtain ⟨f,hf,r1,r2,r3⟩:=h.vl.ca e (hsub.mem he) q hq h13
        exact ⟨f,hin f hf (by rw [← r2];exact hno e (hsub.mem he) q hq h13),r1,r2,r3⟩
      · intro t ht
        obtain ⟨f,hf,r1,r2⟩:=h.th t ht
        exact ⟨f,hin f hf (by rw [r1];exact hnt t ht),r1,r2⟩
  split
  · split
    · exact h.mono (by omega)
    · rename_i hc
      simp only [not_or,Classical.not_not] at hc
      obtain ⟨hc1,hc2⟩:=hc
      have hr:=chgD_refs h z
      have hsn:=new_sites (chgD p z) z.n
      have hns:=new_site hv.id hz1
      have h3:=tmod_rg hz1 (show (0:Int)<3 by omega)
      have hsites:∀ x ∈ sitesS { chgD p z with body:=(chgD p z).body++[newStmt (chgD p z) z.n] },x ∈ sitesS (chgD p z)∨(8000+10 * (chgD p z).id≤x∧x≤8002+10 * (chgD p z).id):=by
        intro x hx
        rw [hsn] at hx
        simp only [sitesS,List.mem_append,List.mem_singleton] at hx ⊢
        rcases hx with (hx | hx) | hx
        · exact .inl (.inl hx)
        · right;omega
        · exact .inl (.inr hx)
      have hk:SameK ⟨{ chgD p z with body:=(chgD p z).body++[newStmt (chgD p z) z.n] },declared⟩ ⟨chgD p z,declared⟩:=⟨rfl,rfl,rfl,rfl,rfl,rfl,rfl,rfl,rfl,rfl⟩
      refine h.set (d':={ chgD p z with body:=(chgD p z).body++[newStmt (chgD p z) z.n] }) rfl rfl rfl ?_ ?_ hc2 hsites
      · refine { hb:=headB_body hv.hb,st:=fun q hq=>?_,fl:=?_,cn:=?_,nm:=hv.nm,id:=hv.id,sr:=fun x hx=>?_ }
        · rw [stmtB_congr hk]
          have hq':q ∈ flatL 1 (chgD p z).body++[⟨newStmt (chgD p z) z.n,1⟩]:=by rw [← new_flat];exact hq
          rcases List.mem_append.1 hq' with hq' | hq'
          · exact hv.st q hq'
          · rw [List.mem_singleton.1 hq']
            exact ⟨new_right hv.id hz1 (by omega),show (1:Int)≤10 by omega⟩
        · rw [hsn];have:=hv.fl;simp [sitesS] at this ⊢;omega
        · show (rawC (flatL 1 ((chgD p z).body++[newStmt (chgD p z) z.n]))).length≤9
          rw [new_raw];exact hv.cn
        · rcases hsites x hx with hx | hx
          · exact hv.sr x hx
          · exact .inr (.inr hx)
      · intro q hq h13
        have hq':q ∈ flatL 1 (chgD p z).body++[⟨newStmt (chgD p z) z.n,1⟩]:=by rw [← new_flat];exact hq
        rcases List.mem_append.1 hq' with hq' | hq'
        · exact hq'
        · rw [List.mem_singleton.1 hq'] at h13;exact absurd (show (6:Int)=13 from h13) (by decide)
  · have h2:=tmod_rg hz1 (show (0:Int)<2 by omega)
    obtain ⟨f,_,hf⟩:=h.fm
    refine VarOk.sorted (p:={ p with threads:=p.threads.take 1,d:={ p.d with firms:=w64 (2+z.n.tmod 2) } }) ⟨w64 (2+z.n.tmod 2),?_,?_⟩ (h.pw.sublist (List.dropLast_sublist _)) (h.vl.mono (by omega)) ?_ fun t ht=>h.th t (List.mem_of_mem_take ht)
    · rw [w64_in (by omega)];omega
    · simp only [hf];rfl
    · have:=h.tl
      show 1≤(p.threads.take 1).length∧(p.threads.take 1).length≤2
      rw [List.length_take];omega
theorem VarOk.variant {p:Pg} {l:List Cg} (h:VarOk p 0) (hz:∀ z ∈ l,(0≤z.kind∧z.kind<256)∧(0≤z.pos∧z.pos<256)∧(0≤z.n∧z.n<256)) (k:Nat):VarOk ((l.take k).foldl chg1 p) (l.take k).length:=by
  induction k with
  | zero=>exact h
  | succ k ih =>
    rw [List.take_add_one]
    cases hx:l[k]? with
    | none=>simpa using ih
    | some z =>
      simp only [Option.toList_some,List.foldl_append,List.foldl_cons,List.foldl_nil,List.length_append,List.length_singleton]
      exact ih.chg (hz z (List.mem_of_getElem? hx))
theorem variant_ok {p:Pg} {l:List Cg} (h:VarOk p 0) (hz:∀ z ∈ l,(0≤z.kind∧z.kind<256)∧(0≤z.pos∧z.pos<256)∧(0≤z.n∧z.n<256)):VarOk (variantS p l) 5 :=
  (h.variant hz 5).mono (by rw [List.length_take];omega)
theorem headB_dcl {d:Df} {f:Int} (hf:f=2∨f=3) (h:headB d declared=true):headB d (dcl f)=true:=by
  simp only [headB,Bool.and_eq_true] at h ⊢
  refine ⟨⟨⟨⟨⟨⟨⟨⟨⟨⟨h.1.1.1.1.1.1.1.1.1.1,h.1.1.1.1.1.1.1.1.1.2⟩,h.1.1.1.1.1.1.1.1.2⟩,?_⟩,h.1.1.1.1.1.1.2⟩,h.1.1.1.1.1.2⟩,h.1.1.1.1.2⟩,h.1.1.1.2⟩,h.1.1.2⟩,h.1.2⟩,h.2⟩
  have h1:=inB_iff.1 h.1.1.1.1.1.1.1.2
  rw [show w64 (declared.firms - 1)=1 from w64_in (by decide)] at h1
  have h2:w64 ((dcl f).firms - 1)=f - 1:=w64_in (by show -9223372036854775808≤f - 1∧f - 1≤9223372036854775807;omega)
  rw [h2];exact inB_ok (by omega)
theorem VD.def {d:Df} {n:Nat} {f:Int} (hf:f=2∨f=3) (h:VD d n) (hn:n≤100) (hs:(sitesS d).Nodup):defB d (dcl f)=true:=by
  have hk:SameK ⟨d,dcl f⟩ ⟨d,declared⟩:=⟨rfl,rfl,rfl,rfl,rfl,rfl,rfl,rfl,rfl,rfl⟩
  have hsc:scanB ⟨d,dcl f⟩ (flatL 1 d.body) [d.site]=true:=by
    refine scan_ok _ _ _ (fun p hp=>?_) ?_ ?_
    · rw [stmtB_congr hk];exact h.st p hp
    · exact (List.perm_append_comm.nodup_iff).1 hs
    · have:=h.fl;simp [sitesS,sitesL] at this ⊢;omega
  rw [defB,headB_dcl hf h.hb,hsc];rfl
theorem VarOk.right {p:Pg} {n:Nat} (h:VarOk p n) (hn:n≤30):Right p:=by
  obtain ⟨f,hf,hd⟩:=h.fm
  have hl:=h.vl.ln
  exact {
    dc:=by rw [hd];rcases hf with rfl | rfl <;> decide +kernel
    hl:=by rw [h.hds];simp;omega
    hid:=by rw [h.hds,List.pairwise_map];exact h.pw
    hok:=by
      rw [h.hds,hd];intro x hx
      obtain ⟨d,hdm,rfl⟩:=List.mem_map.1 hx
      have:=headB_dcl hf (h.vl.ok d hdm).hb
      simp only [headB,Bool.and_eq_true] at this
      simp only [headFine,hdOf,this.1.1.1.1.1.1.1.1.1.1,this.1.1.1.1.1.1.1.2,this.1.1.1.1.1.1.2,this.1.1.2,this.1.2];rfl
    dl:=by omega
    did:=h.pw
    hof:=fun d hd=>by rw [h.hds];exact List.mem_map.2 ⟨d,hd,rfl⟩
    dok:=fun d hdm=>by rw [hd];exact (h.vl.ok d hdm).def hf (by omega) (h.vl.sn d hdm)
    ca:=fun d hdm q hq h13=>by
      obtain ⟨e,he,r⟩:=h.vl.ca d hdm q hq h13
      exact ⟨hdOf e,by rw [h.hds];exact List.mem_map.2 ⟨e,he,rfl⟩,r⟩
    st:=List.pairwise_flatMap.2 ⟨h.vl.sn,h.pw.imp_of_mem fun ha hb hab x hx y hy e=>h.vl.sx _ ha _ hb (by omega) x hx (e ▸ hy)⟩
    tl:=by have:=h.tl;omega
    th:=h.th
    sz:=fun d hdm=>by
      have hv:=h.vl.ok d hdm
      have h1:=hv.nm
      have h2:=hv.fl
      have h3:=hv.cn
      refine ⟨by omega,?_,by omega⟩
      have h4:(sitesS d).length=(flatL 1 d.body).length+1:=by simp [sitesS,sitesL]
      omega }
theorem scanB_st {d:Df} (h:defB d declared=true):headB d declared=true∧∀ q ∈ flatL 1 d.body,stmtB ⟨d,declared⟩ q.s=true∧q.depth≤10:=by
  rw [defB,Bool.and_eq_true] at h
  exact ⟨h.1,scanB_mem h.2⟩
theorem MadeOk.var {p:Pg} {k:Nat} (M:MadeOk p k):VarOk p 0:=by
  have R:=M.right
  have hk:=M.k4
  have hlen:=M.len
  have hsn:=List.pairwise_flatMap.1 R.st
  have hsi:∀ d ∈ p.defs,∀ s ∈ sitesS d,100<s∧s≤1000:=fun d hd s hs=>M.st.rg s (List.mem_flatMap.2 ⟨d,hd,hs⟩)
  refine ⟨⟨2,.inl rfl,M.dc⟩,M.hds,R.did,⟨?_,by omega,R.ids,fun d hd=>?_,fun d hd q hq h13=>?_,hsn.1,?_⟩,?_,R.th⟩
  · intro e;rw [e] at hlen;simp at hlen;omega
  · have h:=M.ok d hd
    obtain ⟨h1,h2⟩:=scanB_st h.df
    have hid:=M.mem hd
    exact { hb:=h1,st:=h2,fl:=h.fl,cn:=h.cn,nm:=h.nm,id:=by omega,sr:=fun s hs=>.inl (hsi d hd s hs) }
  · obtain ⟨x,hx,r⟩:=R.ca d hd q hq h13
    rw [M.hds] at hx
    obtain ⟨e,he,rfl⟩:=List.mem_map.1 hx
    exact ⟨e,he,r⟩
  · intro a ha b hb hne x hx hxb
    have hp:p.defs.Pairwise (fun a b=>∀ x ∈ sitesS a,∀ y ∈ sitesS b,x≠y):=hsn.2
    obtain ⟨i,hi,rfl⟩:=List.getElem_of_mem ha
    obtain ⟨j,hj,rfl⟩:=List.getElem_of_mem hb
    rcases Nat.lt_trichotomy i j with e | e | e
    · exact List.pairwise_iff_getElem.1 hp i j hi hj e x hx x hxb rfl
    · subst e;exact hne rfl
    · exact List.pairwise_iff_getElem.1 hp j i hj hi e x hxb x hx rfl
  · have h2:(thr p.defs).length≤2:=by simp only [thr,List.length_take];omega
    have h1:1≤(thr p.defs).length:=by
      obtain ⟨ds,d,e,hT⟩:=M.last
      rw [e,thr,List.reverse_append]
      have hT':(d.params.length+d.given.length == 0)=true:=hT
      simp [hT']
    rcases M.th with e | e <;> rw [e]
    · omega
    · rw [List.length_take];omega
theorem made_var {b:List Int} (hb:∀ x ∈ b,0≤x∧x<256):VarOk (made b) 0:=by
  obtain ⟨k,M⟩:=made_ok hb
  exact M.var
open Go.Proofs
theorem sms_sitesN (l:List Sm):(smsL l).map Sm.site=sitesL (flatL 1 l):=by
  rw [← flatL_sms l 1,sitesL,List.map_map];rfl
theorem t_SitesN (d:Df) (hN:cntL d.body<999999) (s:St):Spec Tryz.prog 56 [.agg d.cells] s (.slice .none (intCells (sitesS d))) s:=by
  obtain ⟨B,L,c⟩:=s
  have hll:=smsL_len d.body
  have hss:sitesS d=(smsL d.body).map Sm.site++[d.site]:=by rw [sms_sitesN,sitesS]
  have hof:∀ (n:Nat) (xs:List Int) (B:List Box),ownFits (ownF c 1 n) (intCells xs) 1 ⟨B,liveN L c n,c+n⟩=true:=fun n xs B=>ownF_fits (intCells_each _)
  refine Spec.introN [] Tryz.func56 rfl (by decide) hmix (by kernel_rfl) [ResultVar.tmp 2] 29 rfl rfl ?_
  simp only [vqM,vt70,Tryz.f56,zA,zS,zM,zL,zE,zB,reduceCtorEq]
  refine callI_spec (t_Flat d.body _ (by omega)) ?_
  simp only [vqM,vt70,zA,zS,zM,zL,zE,zB,reduceCtorEq,smCells_len]
  refine awN_keep [1,3,4,5] ?_
  simp only [vke,zB,zA]
  refine awN_forR hmix (smsL d.body).length (fun k e s=>e=[.junk,.box B.length 0,.junk,.slice .none (Sm.encs (smsL d.body)),.slice (ownF c 1 k) (intCells (((smsL d.body).take k).map Sm.site)),.int .i64 (k:Int),.junk,.junk,.junk,.junk,.junk,.junk,.junk,.junk,.junk,.junk,.junk,.junk,.junk,.junk,.junk,.junk,.junk,.junk,.junk,.junk,.junk,.junk,.junk]∧s=⟨B++[.cells d.cells],liveN L c k,c+k⟩) ?_ ?_ 0 _ _ (Nat.zero_le _) ⟨rfl,rfl⟩
  · rintro k e s hk ⟨rfl,rfl⟩ ih
    have hx:(smsL d.body)[k]? = some (smsL d.body)[k]:=List.getElem?_eq_getElem hk
    have hg:(Sm.encs (smsL d.body))[k]? = some (smsL d.body)[k].cells:=by simp [Sm.encs_map,hx]
    have hklt:((k:Int)<((smsL d.body).length:Int))=True:=by simp;exact hk
    have hnext:((smsL d.body).take (k+1)).map Sm.site=((smsL d.body).take k).map Sm.site++[(smsL d.body)[k].site]:=by rw [List.take_add_one,hx,List.map_append];rfl
    have hl1:((((smsL d.body).take k).map Sm.site).length+1≤1000000)=True:=eq_true (by simp;omega)
    generalize (smsL d.body)[k]=y at hx hg hnext
    simp only [vqM,vt70,zA,zS,zM,zL,zE,zB,reduceCtorEq,smCells_len,hklt,decide_true,natle0,Int.toNat_natCast,hg,hof,ownF_relab,intCells_len,hl1,intCells_app]
    rw [wrap_succ (by omega)]
    refine awN_keep [1,3,4,5] ?_
    simp only [vke,zB,zA]
    exact ih _ _ ⟨by rw [hnext];rfl,rfl⟩
  · rintro e s ⟨rfl,rfl⟩
    have hklt:(((smsL d.body).length:Int)<((smsL d.body).length:Int))=False:=by simp
    rw [List.take_length]
    have hl1:(((smsL d.body).map Sm.site).length+1≤1000000)=True:=eq_true (by simp;omega)
    simp only [vqM,vt70,zA,zS,zM,zL,zE,zB,reduceCtorEq,smCells_len,hklt,decide_false,hof,ownF_relab,intCells_len,hl1,intCells_app]
    refine ret_loc (.inr rfl) ?_ (bd_slice (int_bd _)) (fun _ h=>mem_liveN h) (by omega)
    simp only [vqM,vt70,zA,zS,zM,zL,zE,zB,reduceCtorEq]
    rw [hss]
theorem tmodN {n:Int} {l:Nat} (h:0≤n):n.tmod (l:Int)=((n.toNat % l:Nat):Int):=by
  obtain ⟨a,rfl⟩:=Int.eq_ofNat_of_zero_le h
  rw [Int.tmod_eq_emod_of_nonneg h,Int.toNat_natCast]
  exact (Int.natCast_emod a l).symm
def dfR (l:List Df):List D:=(dfCells l).flatten
theorem dfEachN (l:List Df):∀ x ∈ dfCells l,x.length=12:=by
  intro x hx;obtain ⟨y,_,rfl⟩:=List.mem_map.1 hx;rfl
theorem dfR_len (l:List Df):(dfR l).length=l.length * 12:=by rw [dfR,flatten_length _ (dfEachN _),dfCells_len]
theorem row_get {l:List Df} {k:Nat} {d:Df} (h:l[k]? = some d):((dfCells l).flatten.drop (k * 12)).take 12=d.cells:=by
  obtain ⟨hk,rfl⟩:=List.getElem?_eq_some_iff.1 h
  have e:l=l.take k++l[k]::l.drop (k+1):=by rw [← List.drop_eq_getElem_cons hk,List.take_append_drop]
  have hl:(dfCells (l.take k)).flatten.length=k * 12:=by
    have:=dfR_len (l.take k)
    rw [dfR] at this
    rw [this,List.length_take,Nat.min_eq_left (by omega)]
  generalize l[k]=x at e ⊢
  generalize l.take k=a at e hl
  generalize l.drop (k+1)=b at e
  subst e
  rw [dfCells,List.map_append,List.flatten_append,List.drop_append_of_le_length (by rw [show (List.map Df.cells a).flatten.length=k * 12 from hl];exact Nat.le_refl _),List.drop_of_length_le (by rw [show (List.map Df.cells a).flatten.length=k * 12 from hl];exact Nat.le_refl _)]
  rfl
theorem flat_setN {xs:List (List D)} {z k:Nat} (v:List D) (hz:∀ x ∈ xs,x.length=z) (hk:k<xs.length):xs.flatten.take (k * z)++(v++xs.flatten.drop (k * z+z))=(xs.set k v).flatten:=by
  induction xs generalizing k with
  | nil=>simp at hk
  | cons x xs ih =>
    have hx:=hz x (by simp)
    cases k with
    | zero=>simp [hx]
    | succ k =>
      have e:(k+1) * z=z+k * z:=by rw [Nat.add_mul];omega
      have:=ih (k:=k) (fun y hy=>hz y (by simp [hy])) (by simpa using hk)
      rw [List.flatten_cons,List.set_cons_succ,List.flatten_cons,← this,e,show z+k * z+z=z+(k * z+z) by omega,List.take_append,List.drop_append,hx,List.take_of_length_le (by omega),List.drop_of_length_le (by omega),List.nil_append,show z+k * z - z=k * z by omega,show z+(k * z+z) - z=k * z+z by omega,List.append_assoc]
theorem row_set {l:List Df} {k:Nat} (hk:k<l.length) (v:Df):(dfCells l).flatten.take (k * 12)++(v.cells++(dfCells l).flatten.drop (k * 12+12))=(dfCells (l.set k v)).flatten:=by
  rw [flat_setN v.cells (dfEachN _) (by rw [dfCells_len];exact hk)]
  simp [dfCells,List.map_set]
theorem awN_frzS (ks:List Nat) {X:Draws} {ro:Option Nat} {P:Program} {c:Code} {Q:QC} {e:List D} {B:List Box} {L:List Nat} {k b n sz:Nat} {cs:List D} {xs:List (List D)} (cc:Nat) {ds:List D} (hb:B[b]? = some (.cells cs)) (hc:B[cc]? = some (.cells ds)) (hbc:b≠cc) (hx:xs.flatten=cs) (hn:xs.length=n) (hs:∀ x ∈ xs,x.length=sz)
    (he:rowZ b n sz (keep ks e)) (hd:ds.all noRow=true) (E:List D) (hE:(keep ks e).map (fz b n xs)=E) (h:@AWNI X ro P c E ⟨B.set b .dead,L,k⟩ Q):@AWNI X ro P c e ⟨B,L,k⟩ Q:=by
  refine awN_gh (Gh.trans (gh_keep ks) ?_) h
  have hfl:cs.length=n * sz:=by rw [← hx,flatten_length xs hs,hn]
  have:=gh_freezeIn (e:=keep ks e) (s:=⟨B,L,k⟩) hb hc hbc (by rw [hx,← hfl,List.take_length]) hn hs he (rowZ_no hd)
  rw [fz_map hd,hE] at this
  have h2:(B.set b .dead).set cc (.cells ds)=B.set b .dead:=by
    refine List.ext_getElem? fun i=>?_
    by_cases e:i=cc
    · subst e
      rw [List.getElem?_set_self (by rw [List.length_set];exact (List.getElem?_eq_some_iff.1 hc).1),List.getElem?_set_ne hbc,hc]
    · rw [List.getElem?_set_ne (by omega)]
  simp only [h2] at this
  exact this
theorem rowZ_fz {b n sz:Nat} {e:List D} (h:∀ d ∈ e,noRow d=true∨d=.row b 0 n sz):rowZ b n sz e:=fun off z hm=>by
  rcases h _ hm with h | h
  · simp [noRow] at h
  · cases h;rfl
theorem cntL_ge:∀ l:List Sm,l.length≤cntL l
  | []=>Nat.zero_le _
  | x::l=>by have:=cntL_ge l;have h:=Sm.cnt_eq x;rw [List.length_cons,cntL];omega
theorem cntL_app:∀ l m:List Sm,cntL (l++m)=cntL l+cntL m
  | [],m=>by simp [cntL]
  | x::l,m=>by rw [List.cons_append,cntL,cntL,cntL_app l m];omega
theorem slS_hiN {e e' sz by_:Nat} {a:Bool} {o:Own} {xs:List (List D)} {k:Nat} (ho:o≠.full) (h:k≤xs.length):slS (some (.slice e)) (some (e',sz,by_,a)) o xs none (some (.int .i64 (k:Int)))=some (.slice .none (xs.take k)):=by
  simp [slS,evBd,h,ho]
theorem slS_loN {e e' sz by_:Nat} {a:Bool} {o:Own} {xs:List (List D)} {k:Nat} (ho:o≠.full) (h:k≤xs.length) (hs:∀ x ∈ xs,x.length=sz):slS (some (.slice e)) (some (e',sz,by_,a)) o xs (some (.int .i64 (k:Int))) none=some (.slice .none (xs.drop k)):=by
  have:(xs.all fun x=>x.length == sz)=true:=List.all_eq_true.2 fun x hx=>by simp [hs x hx]
  simp [slS,evBd,h,ho,this]
theorem nsN (d:Df) (n:Int) (l:List Sm):Sm.encs l++[[.int .i64 (IntKind.i64.wrap (IntKind.i64.wrap (8000+IntKind.i64.wrap (10 * d.id))+n.tmod 3)),.int .i64 6,.int .i64 (n.tmod 2),.int .i64 0,.int .i64 0,.int .i64 0,.int .i64 0,.int .i64 0,.slice .none [],.int .i64 0,.int .i64 0,.int .i64 0,.slice .none [],.int .i64 0,.slice .none [],.slice .none [],.slice .none [],.slice .none [],.slice .none [],.slice .none []]]=Sm.encs (l++[newStmt d n]):=smEncs_app1 l (newStmt d n)
def dcsN (d:Df) (o:Own) (l:List Sm):List D:=List.take 11 d.cells++[.slice o (Sm.encs l)]
theorem dcsN1 (d:Df) (o:Own) (l:List Sm):List.take 11 d.cells++D.slice o (Sm.encs l)::List.drop 12 d.cells=dcsN d o l:=rfl
theorem dcsN2 (d:Df) (o:Own) (l:List Sm):(dcsN d o l).map D.plain1=({ d with body:=l }:Df).cells:=rfl
theorem dcsN3 (d:Df) (o:Own) (l:List Sm):(dcsN d o l).take 12=dcsN d o l:=rfl
theorem dcsN4 (d:Df) (o:Own) (l:List Sm):(dcsN d o l).length=12:=rfl
theorem dcsN5 (d:Df) (o:Own) (l:List Sm):(List.drop 8 (dcsN d o l))[0]? = some (.int .i64 d.refs):=rfl
def pcsN (x:Dc) (a b c:D):List D:=x.cells++[a,b,c]
theorem pcsN1 (p:Pg) (x:D):List.take 9 p.cells++x::List.drop 10 p.cells=pcsN p.d (.slice .none (hdCells p.heads)) (.slice .none (dfCells p.defs)) x:=rfl
theorem pcsN2 (x:Dc) (a b c y:D):List.take 9 (pcsN x a b c)++y::List.drop 10 (pcsN x a b c)=pcsN x a b y:=rfl
theorem pcsN3 (x:Dc) (a b c:D):(List.drop 9 (pcsN x a b c))[0]? = some c:=rfl
theorem pcsN4 (x:Dc) (a b c:D):(pcsN x a b c).length=10:=rfl
theorem pcsN6 (p:Pg) (x:D):List.take 8 p.cells++x::List.drop 9 p.cells=pcsN p.d (.slice .none (hdCells p.heads)) x (.slice .none (intCells p.threads)):=rfl
theorem pcsN7 (x:Dc) (a b c:D):List.take 10 (pcsN x a b c)=pcsN x a b c:=rfl
theorem pcsN8 (p:Pg) (o:Own) (l:List Df):(pcsN p.d (.slice .none (hdCells p.heads)) (.slice o (dfCells l)) (.slice .none (intCells p.threads))).map D.plain1=({ p with defs:=l }:Pg).cells:=rfl
theorem dfCells_td (l:List Df) (k:Nat):List.take k (dfCells l)++List.drop (k+1) (dfCells l)=dfCells (l.take k++l.drop (k+1)):=by simp [dfCells,List.map_take,List.map_drop]
theorem intCells_take (l:List Int) (k:Nat):List.take k (intCells l)=intCells (l.take k):=by simp [intCells,List.map_take]
theorem pcsN5 (x:Dc) (a b c:D) (n:Int):List.take 6 (pcsN x a b c)++.int .i64 n::List.drop 7 (pcsN x a b c)=pcsN { x with firms:=n } a b c:=rfl
def SwRow (p:Pg) (z:Cg) (B:List Box) (L:List Nat) (c k:Nat) (e:List D) (s:St):Prop :=
  ∃ (X:List Box) (L':List Nat) (c':Nat) (d':Df) (p':Pg) (DC:List D),keep [2,3,4,5,6,7] e=[.junk,.junk,.box B.length 0,.box (B.length+1) 0,.box (B.length+2) 0,.int .i64 (k:Int),.row (B.length+3) 0 p.defs.length 12,.box (B.length+4) 0,.junk,.junk,.junk,.junk,.junk,.junk,.junk,.junk,.junk,.junk,.junk,.junk,.junk,.junk,.junk,.junk,.junk,.junk,.junk,.junk,.junk,.junk,.junk,.junk,.junk,.junk,.junk,.junk,.junk,.junk,.junk,.junk,.junk,.junk,.junk,.junk,.junk,.junk,.junk,.junk,.junk,.junk,.junk,.junk,.junk,.junk,.junk,.junk,.junk,.junk,.junk,.junk,.junk,.junk,.junk,.junk,.junk,.junk,.junk,.junk,.junk,.junk,.junk,.junk,.junk,.junk,.junk,.junk,.junk,.junk,.junk,.junk,.junk,.junk,.junk,.junk,.junk,.junk,.junk,.junk,.junk,.junk,.junk,.junk,.junk,.junk,.junk,.junk,.junk,.junk,.junk,.junk,.junk,.junk,.junk,.junk,.junk,.junk,.junk,.junk,.junk,.junk,.junk,.junk,.junk,.junk,.junk,.junk,.junk,.junk,.junk,.junk,.junk,.junk,.junk,.junk,.junk,.junk,.junk,.junk,.junk,.junk,.junk,.junk,.junk,.junk,.junk,.junk,.junk,.junk,.junk,.junk,.junk,.junk,.junk,.junk,.junk,.junk,.junk,.junk,.junk,.junk,.junk,.junk,.junk,.junk,.junk,.junk,.junk,.junk,.junk,.junk,.junk,.junk] ∧
    s=⟨B++([.cells p'.cells,.cells z.cells,.cells Pg.zc,.cells (dfCells p.defs).flatten,.cells DC]++X),L',c'⟩∧(DC.map D.plain1=d'.cells∧DC.length=12)∧z.kind.tmod 7≠3∧p'.defs=p.defs∧chg1 p z=sortedS { p' with defs:=p.defs.set k d' }∧(∀ k ∈ L,k ∈ L')∧c≤c'
def SwSl (p:Pg) (z:Cg) (B:List Box) (L:List Nat) (c k:Nat) (e:List D) (s:St):Prop :=
  ∃ (X:List Box) (L':List Nat) (c':Nat) (o:Own) (l:List Df),keep [2,3,4,5,6] e=[.junk,.junk,.box B.length 0,.box (B.length+1) 0,.box (B.length+2) 0,.int .i64 (k:Int),.slice o (dfCells l),.junk,.junk,.junk,.junk,.junk,.junk,.junk,.junk,.junk,.junk,.junk,.junk,.junk,.junk,.junk,.junk,.junk,.junk,.junk,.junk,.junk,.junk,.junk,.junk,.junk,.junk,.junk,.junk,.junk,.junk,.junk,.junk,.junk,.junk,.junk,.junk,.junk,.junk,.junk,.junk,.junk,.junk,.junk,.junk,.junk,.junk,.junk,.junk,.junk,.junk,.junk,.junk,.junk,.junk,.junk,.junk,.junk,.junk,.junk,.junk,.junk,.junk,.junk,.junk,.junk,.junk,.junk,.junk,.junk,.junk,.junk,.junk,.junk,.junk,.junk,.junk,.junk,.junk,.junk,.junk,.junk,.junk,.junk,.junk,.junk,.junk,.junk,.junk,.junk,.junk,.junk,.junk,.junk,.junk,.junk,.junk,.junk,.junk,.junk,.junk,.junk,.junk,.junk,.junk,.junk,.junk,.junk,.junk,.junk,.junk,.junk,.junk,.junk,.junk,.junk,.junk,.junk,.junk,.junk,.junk,.junk,.junk,.junk,.junk,.junk,.junk,.junk,.junk,.junk,.junk,.junk,.junk,.junk,.junk,.junk,.junk,.junk,.junk,.junk,.junk,.junk,.junk,.junk,.junk,.junk,.junk,.junk,.junk,.junk,.junk,.junk,.junk,.junk,.junk,.junk] ∧
    s=⟨B++([.cells p.cells,.cells z.cells,.cells Pg.zc]++X),L',c'⟩∧l.length≤p.defs.length+1∧l≠[]∧chg1 p z=sortedS { p with defs:=l }∧(∀ k ∈ L,k ∈ L')∧c≤c'
theorem sorted_eq (p:Pg) (l:List Df):withH { withH { p with defs:=l } with defs:=movedL l.dropLast (l.getLast?.getD Df.zero) }=sortedS { p with defs:=l }:=rfl
theorem pzc_len:Pg.zc.length=10:=rfl
theorem box3 {B X:List Box} {a b c:Box}:B++([a,b,c]++X)=B++(a::b::c::X):=rfl
theorem dfCells_app1 (l:List Df) (x:Df):dfCells l++[x.cells]=dfCells (l++[x]):=by simp [dfCells]
theorem t_Changed1 (p:Pg) (z:Cg) (hz:(0≤z.kind∧z.kind<256)∧(0≤z.pos∧z.pos<256)∧(0≤z.n∧z.n<256)) (hpos:0<p.defs.length) (hn:p.defs.length≤900) (hN:∀ d ∈ p.defs,cntL d.body<90000) (htl:1≤p.threads.length∧p.threads.length≤4) (s:St) :
    Spec Tryz.prog 49 [.agg p.cells,.agg z.cells] s (.agg (chg1 p z).cells) s:=by
  obtain ⟨B,L,c⟩:=s
  have hk:z.pos.tmod (p.defs.length:Int)=((z.pos.toNat % p.defs.length:Nat):Int):=tmodN hz.2.1.1
  have hkl:z.pos.toNat % p.defs.length<p.defs.length:=Nat.mod_lt _ hpos
  have hne:¬ (p.defs.length:Int)=0:=by omega
  have hw:IntKind.i64.wrap z.pos=z.pos:=wrap_in (by omega)
  refine Spec.introN [(1,.cut),(4,.meet),(15,.cut),(21,.text [false,false,false,false,false,true,false,false,false,false,false,true,false] [(7,0)]),(25,.text [false,false,false,true,false,false,false,false,false,false,false,false,false,false,false,false,false,false,false,true,false,true] [(5,0),(9,0),(14,0)]),(30,.cut)] Tryz.func49 rfl (by decide) hmix (by kernel_rfl) [ResultVar.cell 4 37] 162 rfl rfl ?_
  simp only [vqM,vt72,Tryz.f49,zA,zS,zM,zL,zE,zB,reduceCtorEq,vsCg]
  refine seq_go ?_
  simp only [vqM,vt72,zA,zS,zM,zL,zE,zB,reduceCtorEq,vsCg,vsK,dfCells_len,hw,hne,hk]
  by_cases k3:z.kind.tmod 7=3
  · obtain ⟨k,hkd⟩:∃ k,k=z.pos.toNat % p.defs.length:=⟨_,rfl⟩
    rw [← hkd] at hkl hk ⊢
    have hx:p.defs[k]? = some p.defs[k]:=List.getElem?_eq_getElem hkl
    have hg:(dfCells p.defs)[k]? = some (p.defs[k].cells):=by simp [dfCells,hx]
    generalize p.defs[k]=d at hg
    have hdf:(∀ c,c ∈ dfCells p.defs→c.length=12)=True:=eq_true (dfEachN _)
    have hd1:(0+p.defs.length≤1000000)=True:=eq_true (by omega)
    have h70:(¬ (7:Int)=0)=True:=by simp
    have h20:(¬ (2:Int)=0)=True:=by simp
    have h40:(¬ (4:Int)=0)=True:=by simp
    have r2:=tmod_rg hz.2.2.1 (show (0:Int)<2 by omega)
    have r4:=tmod_rg hz.2.2.1 (show (0:Int)<4 by omega)
    have w2:IntKind.i64.wrap (z.n.tmod 2)=z.n.tmod 2:=wrap_in (by omega)
    have w4:IntKind.i64.wrap (z.n.tmod 4)=z.n.tmod 4:=wrap_in (by omega)
    have w20:IntKind.i64.wrap (20+z.n.tmod 2)=20+z.n.tmod 2:=wrap_in (by omega)
    have hid:(spareD (20+z.n.tmod 2) (z.n.tmod 4)).id=20+z.n.tmod 2:=rfl
    have hce:chg1 p z=sortedS { p with defs:=if (findS p (20+z.n.tmod 2)).isSome then p.defs else p.defs++[spareD (20+z.n.tmod 2) (z.n.tmod 4)] }:=by rw [chg1,if_neg (by omega),if_neg (by omega),if_neg (by omega),if_pos k3]
    have hfd:∀ (x:Df) (b:D),(x.cells++[b])[12]? = some b:=fun _ _=>rfl
    refine awN_cw hmix ?_
    simp only [vqM,vt72,zA,zS,zM,zL,zE,zB,reduceCtorEq,vsCg,Int.toNat_natCast,hdf,dfCells_len,hd1,natle0,hg]
    refine seq_joinI (SwSl p z B L c k) ?_ ?_
    · simp only [vqM,vt72,zA,zS,zM,zL,zE,zB,reduceCtorEq,vsCg,Int.toNat_natCast,h70,k3,Int.reduceEq,decide_false,decide_true]
      refine seq_go ?_
      simp only [vqM,vt72,zA,zS,zM,zL,zE,zB,reduceCtorEq,vsCg,Int.toNat_natCast,h20,h40,w2,w4,w20]
      refine callI_spec (t_spare _ _ _) ?_
      simp only [vqM,vt72,zA,zS,zM,zL,zE,zB,reduceCtorEq,vsCg,Int.toNat_natCast,vsK]
      refine awN_cw hmix ?_
      simp only [vqM,vt72,zA,zS,zM,zL,zE,zB,reduceCtorEq,vsCg,Int.toNat_natCast]
      refine callI_spec (t_FindIn _ _ (by omega) _) ?_
      simp only [vqM,vt72,zA,zS,zM,zL,zE,zB,reduceCtorEq,vsCg,Int.toNat_natCast,foundD,hid,hfd,Option.map_some,Nat.add_zero]
      have hof:∀ (B':List Box),ownFits (.lab c 12) (dfCells p.defs) 12 ⟨B',c::L,c+1⟩=true:=fun B'=>by simp [ownFits]
      have hl1:(p.defs.length≤999999)=True:=eq_true (by omega)
      refine ifI_intro (fun cf=>?_) (fun cf=>?_)
      · rw [if_neg (by simpa using cf)] at hce
        simp only [vqM,vt72,zA,zS,zM,zL,zE,zB,reduceCtorEq,vsCg,Int.toNat_natCast,dfCells_len,hof,hl1,dfCells_app1]
        exact joinI_intro ⟨_,_,_,.lab (c+1) 12,p.defs++[spareD (20+z.n.tmod 2) (z.n.tmod 4)],by simp only [vke,zB,zA],rfl,by simp,by simp,hce,fun _ h=>by simp [h],by omega⟩
      · rw [if_pos (by simpa using cf)] at hce
        simp only [vqM,vt72,zA,zS,zM,zL,zE,zB,reduceCtorEq,vsCg,Int.toNat_natCast,dfCells_len]
        exact joinI_intro ⟨_,_,_,.lab c 12,p.defs,by simp only [vke,zB,zA],rfl,by simp,by intro h;rw [h] at hpos;simp at hpos,hce,fun _ h=>by simp [h],by omega⟩
    · rintro e s ⟨X,L',c',o,l,he,rfl,hll,hl0,hch,hsub,hle⟩
      refine awN_keep [2,3,4,5,6] ?_
      rw [he]
      clear he
      refine awN_cw hmix ?_
      simp only [vqM,vt72,zA,zS,zM,zL,zE,zB,reduceCtorEq,vsCg,Int.toNat_natCast,h70,k3,ne_eq,Int.reduceEq,not_true_eq_false,decide_false,box3]
      refine seq_go ?_
      simp only [vqM,vt72,zA,zS,zM,zL,zE,zB,reduceCtorEq,vsCg,vsK,pcsN6,pcsN4,pcsN7,pcsN8]
      refine awN_cw hmix ?_
      simp only [vqM,vt72,zA,zS,zM,zL,zE,zB,reduceCtorEq,vsCg,vsK,pcsN6,pcsN4,pcsN7,pcsN8]
      refine callI_spec (t_WithHeads _ (by show l.length≤_;omega) _) ?_
      simp only [vqM,vt72,zA,zS,zM,zL,zE,zB,reduceCtorEq,vsCg]
      refine callI_spec (t_sorted _ l.dropLast (l.getLast?.getD Df.zero) (last_split hl0) (by rw [List.length_dropLast];omega) _) ?_
      simp only [vqM,vt72,zA,zS,zM,zL,zE,zB,reduceCtorEq,vsCg,pzc_len,sorted_eq]
      refine ret_loc (.inr rfl) ?_ (bd_agg (Pg.bd _)) hsub hle
      rw [hch]
      simp only [vqM,vt72,zA,zS,zM,zL,zE,zB,reduceCtorEq,pzc_len]
  refine awN_seq ?_
  refine awN_region2a 1 rfl rfl ?_
  simp only [vqM,vt72,zA,zS,zM,zL,zE,zB,reduceCtorEq,vsCg]
  refine kI_gh (gh_slot 16 (d:=.slice .full []) rfl weak_full) ?_
  simp only [vqM,vt72,zA,zS,zM,zL,zE,zB,reduceCtorEq,vsCg,vsK]
  refine apZ2_intro (by decide) (dfEachN _) (by rw [dfCells_len];exact hpos) (by rw [dfCells_len];omega) ?_
  rw [dfCells_len]
  simp only [vqM,vt72,zA,zS,zM,zL,zE,zB,reduceCtorEq,vsCg,vsK]
  refine awN_cw hmix ?_
  simp only [vqM,vt72,zA,zS,zM,zL,zE,zB,reduceCtorEq,vsCg]
  obtain ⟨k,hkd⟩:∃ k,k=z.pos.toNat % p.defs.length:=⟨_,rfl⟩
  rw [← hkd] at hkl hk ⊢
  have hx:p.defs[k]? = some p.defs[k]:=List.getElem?_eq_getElem hkl
  have hR1:=row_get hx
  have hR2:(k * 12+12≤(dfCells p.defs).flatten.length)=True:=eq_true (by have:=dfR_len p.defs;unfold dfR at this;omega)
  have hR3:(12≤(dfCells p.defs).flatten.length - k * 12)=True:=eq_true (by rw [eq_iff_iff,iff_true] at hR2;omega)
  have hRs:∀ v:Df,(dfCells p.defs).flatten.take (k * 12)++(v.cells++(dfCells p.defs).flatten.drop (k * 12+12))=(dfCells (p.defs.set k v)).flatten:=fun v=>row_set hkl v
  have hki:(0≤(k:Int)∧(k:Int)<(p.defs.length:Int))=True:=by simp;exact hkl
  have hdm:p.defs[k] ∈ p.defs:=List.getElem_mem hkl
  generalize p.defs[k]=d at hx hR1 hdm
  generalize hR:(dfCells p.defs).flatten=R at hR1 hR2 hR3 hRs ⊢
  simp only [vqM,vt72,zA,zS,zM,zL,zE,zB,reduceCtorEq,vsCg,hki,Int.toNat_natCast,Nat.zero_add,hR1,hR2,hR3]
  refine seq_joinI (SwRow p z B L c k) ?_ ?_
  · have h70:(¬ (7:Int)=0)=True:=by simp
    have h30:(¬ (3:Int)=0)=True:=by simp
    have h20:(¬ (2:Int)=0)=True:=by simp
    have h40:(¬ (4:Int)=0)=True:=by simp
    have r3:=tmod_rg hz.2.2.1 (show (0:Int)<3 by omega)
    have r2:=tmod_rg hz.2.2.1 (show (0:Int)<2 by omega)
    have r4:=tmod_rg hz.2.2.1 (show (0:Int)<4 by omega)
    have hchg:chgD p z=d:=by rw [chgD,← hkd,hx];rfl
    have hset:∀ v,setV p z v=sortedS { p with defs:=p.defs.set k v }:=fun v=>by rw [setV,← hkd]
    have w3:IntKind.i64.wrap (z.n.tmod 3)=z.n.tmod 3:=wrap_in (by omega)
    have w2:IntKind.i64.wrap (z.n.tmod 2)=z.n.tmod 2:=wrap_in (by omega)
    have w4:IntKind.i64.wrap (z.n.tmod 4)=z.n.tmod 4:=wrap_in (by omega)
    have wn:IntKind.i64.wrap z.n=z.n:=wrap_in (by omega)
    simp only [vqM,vt72,zA,zS,zM,zL,zE,zB,reduceCtorEq,vsCg,Int.toNat_natCast,h70]
    refine ifI_intro (fun c0=>?_) (fun c0=>?_)
    · have c0':=of_decide_eq_true c0
      have c03:z.kind.tmod 7≠3:=by omega
      obtain h | h | h:z.n.tmod 3=0∨z.n.tmod 3=1∨z.n.tmod 3=2:=by omega
      all_goals
        have hce:chg1 p z=sortedS { p with defs:=p.defs.set k { d with name:=abcN (z.n.tmod 3) } }:=by rw [chg1,if_pos c0',hset,hchg]
        simp only [vqM,vt72,zA,zS,zM,zL,zE,zB,reduceCtorEq,vsCg,Int.toNat_natCast,h70,h30,h,Int.reduceLE,Int.reduceLT,Int.reduceToNat,Nat.reduceLT]
        refine joinI_intro ⟨[],L,c,_,p,({ d with name:=abcN (z.n.tmod 3) }:Df).cells,by simp only [vke,zB,zA],?_,⟨rfl,rfl⟩,c03,rfl,hce,fun _ h=>h,Nat.le_refl _⟩
        rw [hR,h];rfl
    have c0':=of_decide_eq_false c0
    simp only [vqM,vt72,zA,zS,zM,zL,zE,zB,reduceCtorEq,vsCg,Int.toNat_natCast,h70]
    refine ifI_intro (fun c1=>?_) (fun c1=>?_)
    · have c1':=of_decide_eq_true c1
      have c13:z.kind.tmod 7≠3:=by omega
      simp only [vqM,vt72,zA,zS,zM,zL,zE,zB,reduceCtorEq,vsCg,Int.toNat_natCast,h70,h30,wn]
      have hce:chg1 p z=sortedS { p with defs:=p.defs.set k { d with budget:=w64 (1+z.n) } }:=by rw [chg1,if_neg c0',if_pos c1',hset,hchg]
      exact joinI_intro ⟨[],L,c,_,p,_,by simp only [vke,zB,zA],by rw [hR];rfl,⟨rfl,rfl⟩,c13,rfl,hce,fun _ h=>h,Nat.le_refl _⟩
    have c1':=of_decide_eq_false c1
    simp only [vqM,vt72,zA,zS,zM,zL,zE,zB,reduceCtorEq,vsCg,Int.toNat_natCast,h70]
    refine ifI_intro (fun c2=>?_) (fun c2=>?_)
    · have c2':=of_decide_eq_true c2
      have c23:z.kind.tmod 7≠3:=by omega
      simp only [vqM,vt72,zA,zS,zM,zL,zE,zB,reduceCtorEq,vsCg,Int.toNat_natCast,h70,h30,w3]
      have hce:chg1 p z=sortedS { p with defs:=p.defs.set k { d with part:=z.n.tmod 3 } }:=by rw [chg1,if_neg c0',if_neg c1',if_pos c2',hset,hchg]
      exact joinI_intro ⟨[],L,c,_,p,_,by simp only [vke,zB,zA],by rw [hR];rfl,⟨rfl,rfl⟩,c23,rfl,hce,fun _ h=>h,Nat.le_refl _⟩
    have c2':=of_decide_eq_false c2
    simp only [vqM,vt72,zA,zS,zM,zL,zE,zB,reduceCtorEq,vsCg,Int.toNat_natCast,h70]
    refine ifI_intro (fun c3=>?_) (fun c3=>?_)
    · exact absurd (of_decide_eq_true c3) k3
    have c3':=of_decide_eq_false c3
    simp only [vqM,vt72,zA,zS,zM,zL,zE,zB,reduceCtorEq,vsCg,Int.toNat_natCast,h70]
    refine ifI_intro (fun c4=>?_) (fun c4=>?_)
    · have c4':=of_decide_eq_true c4
      simp only [vqM,vt72,zA,zS,zM,zL,zE,zB,reduceCtorEq,vsCg,Int.toNat_natCast,h70,h20,h40]
      refine callI_spec (t_called _ _ (by omega) (fun d hd=>by have:=hN d hd;omega) _) ?_
      simp only [vqM,vt72,zA,zS,zM,zL,zE,zB,reduceCtorEq,vsCg,Int.toNat_natCast,h70,h20,h40]
      have hce:(calledB p d.id || decide (p.defs.length=1))=true→chg1 p z=p:=fun hb=>by rw [chg1,if_neg c0',if_neg c1',if_neg c2',if_neg c3',if_pos c4',hchg,if_pos hb]
      have hcf:(calledB p d.id || decide (p.defs.length=1))=false→chg1 p z=withH { p with defs:=p.defs.take k++p.defs.drop (k+1) }:=fun hb=>by rw [chg1,if_neg c0',if_neg c1',if_neg c2',if_neg c3',if_pos c4',hchg,if_neg (by simp [hb]),← hkd]
      have hpz:Pg.zc.length=10:=rfl
      refine ifI_intro (fun cc=>?_) (fun cc=>?_)
      · simp only [vqM,vt72,zA,zS,zM,zL,zE,zB,reduceCtorEq,vsCg,Int.toNat_natCast,cc,hpz]
        refine ret_loc (.inr rfl) ?_ (bd_agg (Pg.bd _)) (fun _ h=>h) (Nat.le_refl _)
        rw [hce (by rw [cc];rfl)]
        simp only [vqM,vt72,zA,zS,zM,zL,zE,zB,reduceCtorEq]
      simp only [vqM,vt72,zA,zS,zM,zL,zE,zB,reduceCtorEq,vsCg,Int.toNat_natCast,cc]
      refine ifI_intro (fun ce=>?_) (fun ce=>?_)
      · simp only [vqM,vt72,zA,zS,zM,zL,zE,zB,reduceCtorEq,vsCg,Int.toNat_natCast,cc,hpz]
        refine ret_loc (.inr rfl) ?_ (bd_agg (Pg.bd _)) (fun _ h=>h) (Nat.le_refl _)
        rw [hce (by rw [cc];simp at ce ⊢;omega)]
        simp only [vqM,vt72,zA,zS,zM,zL,zE,zB,reduceCtorEq]
      have t12:(∀ c,c ∈ List.take k (dfCells p.defs)→c.length=12)=True:=eq_true fun c hc=>dfEachN _ c (List.mem_of_mem_take hc)
      have t13:(∀ c,c ∈ List.drop (k+1) (dfCells p.defs)→c.length=12)=True:=eq_true fun c hc=>dfEachN _ c (List.mem_of_mem_drop hc)
      have l1:(List.take k (dfCells p.defs)).length=k:=by rw [List.length_take,dfCells_len];omega
      have l2:(0+k≤1000000)=True:=eq_true (by omega)
      have l3:(k+(p.defs.length - (k+1))≤1000000)=True:=eq_true (by omega)
      have s1:=@slS_hiN 55 55 12 168 true .none (dfCells p.defs) k (by simp) (by rw [dfCells_len];omega)
      have s2:=@slS_loN 55 55 12 168 true .none (dfCells p.defs) (k+1) (by simp) (by rw [dfCells_len];omega) (dfEachN _)
      have wk:IntKind.i64.wrap ((k:Int)+1)=((k+1:Nat):Int):=wrap_succ (by omega)
      simp only [vqM,vt72,zA,zS,zM,zL,zE,zB,reduceCtorEq,vsCg,Int.toNat_natCast,cc,dfCells_len,s1,s2,wk,t12,t13,l1,l2,l3,List.contains_cons,Bool.true_or,List.erase_cons_head,pcsN6,pcsN4,pcsN7,pcsN8,dfCells_td]
      refine callI_spec (t_WithHeads _ (by show (p.defs.take k++p.defs.drop (k+1)).length≤_;rw [List.length_append,List.length_take,List.length_drop];omega) _) ?_
      simp only [vqM,vt72,zA,zS,zM,zL,zE,zB,reduceCtorEq,vsCg,Int.toNat_natCast,hpz]
      refine ret_loc (.inr rfl) ?_ (bd_agg (Pg.bd _)) (fun _ h=>by simp [h]) (by omega)
      rw [hcf (by rw [cc];simp at ce ⊢;omega)]
      simp only [vqM,vt72,zA,zS,zM,zL,zE,zB,reduceCtorEq]
    have c4':=of_decide_eq_false c4
    simp only [vqM,vt72,zA,zS,zM,zL,zE,zB,reduceCtorEq,vsCg,Int.toNat_natCast,h70]
    have s3:slS (some (.slice 3)) (some (3,1,8,false)) (.lab c 1) (intCells p.threads) none (some (.int .i64 1))=some (.slice .none ((intCells p.threads).take 1)):=@slS_hiN 3 3 1 8 false (.lab c 1) (intCells p.threads) 1 (by simp) (by rw [intCells_len];omega)
    have htl1:(0+p.threads.length≤1000000)=True:=eq_true (by omega)
    have hsm:(∀ c,c ∈ Sm.encs d.body→c.length=20)=True:=eq_true (smEncs_each _)
    have hth:(∀ c,c ∈ intCells p.threads→c.length=1)=True:=eq_true (intCells_each _)
    have hbl2:(d.body.length≤999999)=True:=eq_true (by have h1:=hN d hdm;have h2:=cntL_ge d.body;omega)
    have hbl:(0+d.body.length≤1000000)=True:=eq_true (by have h1:=hN d hdm;have h2:=cntL_ge d.body;omega)
    refine ifI_intro (fun c5=>?_) (fun c5=>?_)
    · simp only [vqM,vt72,zA,zS,zM,zL,zE,zB,reduceCtorEq,vsCg,Int.toNat_natCast,h70,h20,h30,hsm,smCells_len,hbl,hbl2,w2,w3,nsN,dcsN1,dcsN2,dcsN3,dcsN4,dcsN5,List.contains_cons,Bool.true_or,List.erase_cons_head]
      have hpz:Pg.zc.length=10:=rfl
      have hce:(d.refs<2 ∨ ¬ (sitesS { d with body:=d.body++[newStmt d z.n] }).Nodup)→chg1 p z=p:=fun hb=>by rw [chg1,if_neg c0',if_neg c1',if_neg c2',if_neg k3,if_neg c4',if_pos (of_decide_eq_true c5),hchg,if_pos hb]
      have hcf:¬ (d.refs<2 ∨ ¬ (sitesS { d with body:=d.body++[newStmt d z.n] }).Nodup)→chg1 p z=sortedS { p with defs:=p.defs.set k { d with body:=d.body++[newStmt d z.n] } }:=fun hb=>by rw [chg1,if_neg c0',if_neg c1',if_neg c2',if_neg k3,if_neg c4',if_pos (of_decide_eq_true c5),hchg,if_neg hb,hset]
      refine ifI_intro (fun cc=>?_) (fun cc=>?_)
      · simp only [vqM,vt72,zA,zS,zM,zL,zE,zB,reduceCtorEq,vsCg,Int.toNat_natCast,cc,hpz]
        refine ret_loc (.inr rfl) ?_ (bd_agg (Pg.bd _)) (fun _ h=>by simp [h]) (by omega)
        rw [hce (.inl (of_decide_eq_true cc))]
        simp only [vqM,vt72,zA,zS,zM,zL,zE,zB,reduceCtorEq]
      simp only [vqM,vt72,zA,zS,zM,zL,zE,zB,reduceCtorEq,vsCg,Int.toNat_natCast,cc,dcsN3,dcsN2,dcsN4]
      refine callI_spec (t_SitesN _ (by have:=hN d hdm;show cntL (d.body++[newStmt d z.n])<_;rw [cntL_app];have e:cntL [newStmt d z.n]=1:=rfl;omega) _) ?_
      simp only [vqM,vt72,zA,zS,zM,zL,zE,zB,reduceCtorEq,vsCg,Int.toNat_natCast,cc]
      refine callI_spec (t_Different _ _) ?_
      simp only [vqM,vt72,zA,zS,zM,zL,zE,zB,reduceCtorEq,vsCg,Int.toNat_natCast,cc,diffB]
      refine ifI_intro (fun ce=>?_) (fun ce=>?_)
      · simp only [vqM,vt72,zA,zS,zM,zL,zE,zB,reduceCtorEq,vsCg,Int.toNat_natCast,cc,hpz]
        refine ret_loc (.inr rfl) ?_ (bd_agg (Pg.bd _)) (fun _ h=>by simp [h]) (by omega)
        rw [hce (.inr (by simpa using ce))]
        simp only [vqM,vt72,zA,zS,zM,zL,zE,zB,reduceCtorEq]
      · simp only [vqM,vt72,zA,zS,zM,zL,zE,zB,reduceCtorEq,vsCg,Int.toNat_natCast,cc,hpz]
        exact joinI_intro ⟨[],_,_,{ d with body:=d.body++[newStmt d z.n] },p,dcsN d (.lab (c+1) 20) (d.body++[newStmt d z.n]),by simp only [vke,zB,zA],by rw [hR];rfl,⟨rfl,rfl⟩,k3,rfl,hcf (by rw [not_or];exact ⟨of_decide_eq_false cc,by simpa using ce⟩),fun _ h=>by simp [h],by omega⟩
    · simp only [vqM,vt72,zA,zS,zM,zL,zE,zB,reduceCtorEq,vsCg,Int.toNat_natCast,h70,h20,h40,hth,intCells_len,htl1,s3,pcsN1,pcsN2,pcsN3,pcsN4,pcsN5,w2,List.contains_cons,Bool.true_or,List.erase_cons_head]
      have w21:IntKind.i64.wrap (2+z.n.tmod 2)=w64 (2+z.n.tmod 2):=rfl
      have hce:chg1 p z=sortedS { p with threads:=p.threads.take 1,d:={ p.d with firms:=w64 (2+z.n.tmod 2) },defs:=p.defs.set k d }:=by
        rw [chg1,if_neg c0',if_neg c1',if_neg c2',if_neg k3,if_neg c4',if_neg (of_decide_eq_false c5)]
        rw [show p.defs.set k d=p.defs by
          refine List.ext_getElem? fun i=>?_
          by_cases e:i=k
          · subst e;rw [List.getElem?_set_self hkl,hx]
          · rw [List.getElem?_set_ne (by omega)]]
      refine joinI_intro ⟨[],c::L,c+1,d,{ p with threads:=p.threads.take 1,d:={ p.d with firms:=w64 (2+z.n.tmod 2) } },d.cells,by simp only [vke,zB,zA],?_,⟨rfl,rfl⟩,k3,rfl,hce,fun _ h=>by simp [h],by omega⟩
      rw [hR,intCells_take];rfl
  · rintro e s ⟨X,L',c',d',p',DC,he,rfl,⟨hd1,hd2⟩,hk3,hp',hch,hsub,hle⟩
    refine awN_keep [2,3,4,5,6,7] ?_
    rw [he]
    clear he
    have h70:(¬ (7:Int)=0)=True:=by simp
    have hk4:(z.kind.tmod 7=3)=False:=eq_false hk3
    have hd3:DC.take 12=DC:=List.take_of_length_le (by omega)
    have hd4:(12≤DC.length)=True:=eq_true (by omega)
    refine awN_joinI (fun e s=>keep [2,3,4,6] e=[.junk,.junk,.box B.length 0,.box (B.length+1) 0,.box (B.length+2) 0,.junk,.row (B.length+3) 0 p.defs.length 12,.junk,.junk,.junk,.junk,.junk,.junk,.junk,.junk,.junk,.junk,.junk,.junk,.junk,.junk,.junk,.junk,.junk,.junk,.junk,.junk,.junk,.junk,.junk,.junk,.junk,.junk,.junk,.junk,.junk,.junk,.junk,.junk,.junk,.junk,.junk,.junk,.junk,.junk,.junk,.junk,.junk,.junk,.junk,.junk,.junk,.junk,.junk,.junk,.junk,.junk,.junk,.junk,.junk,.junk,.junk,.junk,.junk,.junk,.junk,.junk,.junk,.junk,.junk,.junk,.junk,.junk,.junk,.junk,.junk,.junk,.junk,.junk,.junk,.junk,.junk,.junk,.junk,.junk,.junk,.junk,.junk,.junk,.junk,.junk,.junk,.junk,.junk,.junk,.junk,.junk,.junk,.junk,.junk,.junk,.junk,.junk,.junk,.junk,.junk,.junk,.junk,.junk,.junk,.junk,.junk,.junk,.junk,.junk,.junk,.junk,.junk,.junk,.junk,.junk,.junk,.junk,.junk,.junk,.junk,.junk,.junk,.junk,.junk,.junk,.junk,.junk,.junk,.junk,.junk,.junk,.junk,.junk,.junk,.junk,.junk,.junk,.junk,.junk,.junk,.junk,.junk,.junk,.junk,.junk,.junk,.junk,.junk,.junk,.junk,.junk,.junk,.junk,.junk,.junk,.junk]∧s=⟨B++([.cells p'.cells,.cells z.cells,.cells Pg.zc,.cells (dfCells (p.defs.set k d')).flatten,.cells DC]++X),L',c'⟩) ?_ ?_
    · refine awN_cw hmix ?_
      have box5:∀ a b c d e:Box,B++([a,b,c,d,e]++X)=B++(a::b::c::d::e::X):=fun _ _ _ _ _=>rfl
      rw [hR]
      have hl12:d'.cells.length=12:=rfl
      have hfit:(12=12∧0+k * 12+12≤R.length)=True:=eq_true ⟨rfl,by rw [eq_iff_iff,iff_true] at hR2;omega⟩
      simp only [vqM,vt72,zA,zS,zM,zL,zE,zB,reduceCtorEq,vsCg,h70,hk4,ne_eq,not_false_eq_true,decide_true,box5,hki,Int.toNat_natCast,hd3,hd4,hd2,hd1,hl12,hfit,hR2,Nat.zero_add,hRs]
      exact joinI_intro ⟨by simp only [vke,zB,zA],rfl⟩
    · rintro e s ⟨he,rfl⟩
      have hR':(dfCells (p.defs.set k d')).flatten=(dfCells (p.defs.set k d')).flatten:=rfl
      refine awN_keep [2,3,4,6] ?_
      rw [he]
      clear he
      refine awN_frzS [2,3,4,6] (B.length+2) (b:=B.length+3) (xs:=dfCells (p.defs.set k d')) (by rw [box_at];rfl) (by rw [box_at];rfl) (by omega) rfl (by rw [dfCells_len,List.length_set]) (dfEachN _) ?_ rfl [.junk,.junk,.box B.length 0,.box (B.length+1) 0,.box (B.length+2) 0,.junk,.slice .none (dfCells (p.defs.set k d')),.junk,.junk,.junk,.junk,.junk,.junk,.junk,.junk,.junk,.junk,.junk,.junk,.junk,.junk,.junk,.junk,.junk,.junk,.junk,.junk,.junk,.junk,.junk,.junk,.junk,.junk,.junk,.junk,.junk,.junk,.junk,.junk,.junk,.junk,.junk,.junk,.junk,.junk,.junk,.junk,.junk,.junk,.junk,.junk,.junk,.junk,.junk,.junk,.junk,.junk,.junk,.junk,.junk,.junk,.junk,.junk,.junk,.junk,.junk,.junk,.junk,.junk,.junk,.junk,.junk,.junk,.junk,.junk,.junk,.junk,.junk,.junk,.junk,.junk,.junk,.junk,.junk,.junk,.junk,.junk,.junk,.junk,.junk,.junk,.junk,.junk,.junk,.junk,.junk,.junk,.junk,.junk,.junk,.junk,.junk,.junk,.junk,.junk,.junk,.junk,.junk,.junk,.junk,.junk,.junk,.junk,.junk,.junk,.junk,.junk,.junk,.junk,.junk,.junk,.junk,.junk,.junk,.junk,.junk,.junk,.junk,.junk,.junk,.junk,.junk,.junk,.junk,.junk,.junk,.junk,.junk,.junk,.junk,.junk,.junk,.junk,.junk,.junk,.junk,.junk,.junk,.junk,.junk,.junk,.junk,.junk,.junk,.junk,.junk,.junk,.junk,.junk,.junk,.junk,.junk] ?_ ?_
      · simp only [vke,zB,zA]
        refine rowZ_fz ?_
        simp [noRow]
      · simp only [vke,zB,zA]
        simp [fz]
      rw [box_set]
      have hp2:p'={ p' with defs:=p.defs }:=by rw [← hp']
      have box5:∀ a b c d e:Box,B++(([a,b,c,d,e]++X).set 3 .dead)=B++(a::b::c::.dead::e::X):=fun _ _ _ _ _=>rfl
      have hne2:p.defs.set k d'≠[]:=by intro h;have:=congrArg List.length h;simp at this;rw [this] at hpos;simp at hpos
      rw [box5]
      refine awN_cw hmix ?_
      simp only [vqM,vt72,zA,zS,zM,zL,zE,zB,reduceCtorEq,vsCg]
      refine seq_go ?_
      simp only [vqM,vt72,zA,zS,zM,zL,zE,zB,reduceCtorEq,vsCg,vsK,pcsN6,pcsN4,pcsN7,pcsN8]
      refine awN_cw hmix ?_
      simp only [vqM,vt72,zA,zS,zM,zL,zE,zB,reduceCtorEq,vsCg,vsK,pcsN6,pcsN4,pcsN7,pcsN8]
      refine callI_spec (t_WithHeads _ (by show (p.defs.set k d').length≤_;rw [List.length_set];omega) _) ?_
      simp only [vqM,vt72,zA,zS,zM,zL,zE,zB,reduceCtorEq,vsCg]
      refine callI_spec (t_sorted _ (p.defs.set k d').dropLast ((p.defs.set k d').getLast?.getD Df.zero) (last_split hne2) (by rw [List.length_dropLast,List.length_set];omega) _) ?_
      simp only [vqM,vt72,zA,zS,zM,zL,zE,zB,reduceCtorEq,vsCg,pzc_len,sorted_eq]
      refine ret_loc (.inr rfl) ?_ (bd_agg (Pg.bd _)) hsub hle
      rw [hch]
      simp only [vqM,vt72,zA,zS,zM,zL,zE,zB,reduceCtorEq,pzc_len]
def Cg.Ok (z:Cg):Prop:=(0≤z.kind∧z.kind<256)∧(0≤z.pos∧z.pos<256)∧(0≤z.n∧z.n<256)
theorem VarOk.cnt {p:Pg} {n:Nat} (h:VarOk p n) (hn:n≤100):∀ d ∈ p.defs,cntL d.body<90000:=fun d hd=>by
  have h1:=(h.vl.ok d hd).fl
  have h2:=flatL_len d.body 1
  have h4:(sitesS d).length=(flatL 1 d.body).length+1:=by simp [sitesS,sitesL]
  omega
theorem t_Changed1V (p:Pg) (z:Cg) (hz:z.Ok) {n:Nat} (h:VarOk p n) (hn:n≤30) (s:St):Spec Tryz.prog 49 [.agg p.cells,.agg z.cells] s (.agg (chg1 p z).cells) s :=
  t_Changed1 p z hz (List.length_pos_iff.2 h.vl.ne) (by have:=h.vl.ln;omega) (h.cnt (by omega)) ⟨h.tl.1,by have:=h.tl.2;omega⟩ s
def cgCells (l:List Cg):List (List D):=l.map Cg.cells
theorem cgCells_len (l:List Cg):(cgCells l).length=l.length:=List.length_map ..
theorem t_Variant (p:Pg) (l:List Cg) (hz:∀ z ∈ l,z.Ok) (h:VarOk p 0) (s:St):Spec Tryz.prog 25 [.agg p.cells,.slice .none (cgCells l)] s (.agg (variantS p l).cells) s:=by
  obtain ⟨B,L,c⟩:=s
  have hpz:Pg.zc.length=10:=rfl
  refine Spec.introN [] Tryz.func25 rfl (by decide) hmix (by kernel_rfl) [ResultVar.cell 4 37] 23 rfl rfl ?_
  simp only [vqM,vt73,Tryz.f25,zA,zS,zM,zL,zE,zB,reduceCtorEq,vsCg]
  refine awN_keep [1,2,4,5] ?_
  simp only [vke,zB,zA]
  refine awN_forR hmix (min l.length 5) (fun k e s=>e=[.junk,.slice .none (cgCells l),.box B.length 0,.junk,.box (B.length+1) 0,.int .i64 (k:Int),.junk,.junk,.junk,.junk,.junk,.junk,.junk,.junk,.junk,.junk,.junk,.junk,.junk,.junk,.junk,.junk,.junk]∧s=⟨B++[.cells ((l.take k).foldl chg1 p).cells,.cells Pg.zc],L,c⟩) ?_ ?_ 0 _ _ (Nat.zero_le _) ⟨rfl,rfl⟩
  · rintro k e s hk ⟨rfl,rfl⟩ ih
    have hkl:k<l.length:=by omega
    have hx:l[k]? = some l[k]:=List.getElem?_eq_getElem hkl
    have hg:(cgCells l)[k]? = some l[k].cells:=by simp [cgCells,hx]
    have hklt:((k:Int)<(l.length:Int))=True:=by simp;exact hkl
    have hk5:((k:Int)<5)=True:=eq_true (by omega)
    have hzk:=hz _ (List.getElem_mem hkl)
    have hnext:(l.take (k+1)).foldl chg1 p=chg1 ((l.take k).foldl chg1 p) l[k]:=by rw [List.take_add_one,hx,List.foldl_append];rfl
    have hv:=(h.variant hz k).mono (m:=5) (by rw [List.length_take];omega)
    generalize l[k]=y at hx hg hnext hzk
    generalize (l.take k).foldl chg1 p=q at hv hnext
    simp only [vqM,vt73,zA,zS,zM,zL,zE,zB,reduceCtorEq,vsCg,cgCells_len,hklt,hk5,decide_true,natle0,Int.toNat_natCast,hg]
    refine callI_spec (t_Changed1V q y hzk hv (by omega) _) ?_
    simp only [vqM,vt73,zA,zS,zM,zL,zE,zB,reduceCtorEq,vsCg,cgCells_len,hklt,hk5,decide_true,natle0,Int.toNat_natCast,hg]
    rw [wrap_succ (by omega)]
    refine awN_keep [1,2,4,5] ?_
    simp only [vke,zB,zA]
    exact ih _ _ ⟨rfl,by rw [hnext];rfl⟩
  · rintro e s ⟨rfl,rfl⟩
    have hfin:(l.take (min l.length 5)).foldl chg1 p=variantS p l:=by
      rw [variantS]
      congr 1
      by_cases h5:l.length≤5
      · rw [Nat.min_eq_left h5,List.take_length,List.take_of_length_le h5]
      · rw [Nat.min_eq_right (by omega)]
    rw [hfin]
    by_cases h5:l.length≤5
    · have hm:min l.length 5=l.length:=Nat.min_eq_left h5
      have hklt:((l.length:Int)<(l.length:Int))=False:=by simp
      rw [hm]
      simp only [vqM,vt73,zA,zS,zM,zL,zE,zB,reduceCtorEq,vsCg,cgCells_len,hklt,decide_false,hpz]
      refine ret_loc (.inr rfl) ?_ (bd_agg (Pg.bd _)) (fun _ h=>h) (Nat.le_refl _)
      simp only [vqM,vt73,zA,zS,zM,zL,zE,zB,reduceCtorEq,hpz]
    · have hm:min l.length 5=5:=Nat.min_eq_right (by omega)
      have hklt:((5:Nat):Int)<(l.length:Int):=by omega
      have hk2:(((5:Nat):Int)<(l.length:Int))=True:=eq_true hklt
      have hk5:(((5:Nat):Int)<5)=False:=by simp
      rw [hm]
      simp only [vqM,vt73,zA,zS,zM,zL,zE,zB,reduceCtorEq,vsCg,cgCells_len,hk2,hk5,decide_false,decide_true,hpz]
      refine ret_loc (.inr rfl) ?_ (bd_agg (Pg.bd _)) (fun _ h=>h) (Nat.le_refl _)
      simp only [vqM,vt73,zA,zS,zM,zL,zE,zB,reduceCtorEq,hpz]
theorem t_eqFEx (l m:List Ex) (hp:∀ x ∈ l,∀ (y:Ex) (s:St),Spec Tryz.prog 139 [.agg x.cells,.agg y.cells] s (.bool (decide (x=y))) s) (s:St) :
    Spec Tryz.prog 141 [.slice .none (Ex.encs l),.slice .none (Ex.encs m),.func (.func 139) [] []] s (.bool (decide (l=m))) s:=by
  refine Spec.small fun hsm=>?_
  have hlen:=(hsm _ (.head _)).len
  rw [exCells_len] at hlen
  clear hsm
  obtain ⟨B,L,c⟩:=s
  refine Spec.introN [] Tryz.func141 rfl (by decide) hmix (by kernel_rfl) [ResultVar.tmp 6] 32 rfl rfl ?_
  simp only [vqM,vt74,Tryz.f141,zA,zS,zM,zL,zE,zB,reduceCtorEq,exCells_len]
  refine ifI_intro (fun hc=>?_) (fun hc=>?_)
  · simp only [vqM,vt74,zA,zS,zM,zL,zE,zB,reduceCtorEq,exCells_len]
    refine ret_here (.inr rfl) ?_ (.bool _)
    have:l≠m:=by rintro rfl;simp at hc
    simp only [vqM,vt74,zA,zS,zM,zL,zE,zB,reduceCtorEq]
    rw [decide_eq_false this]
  have hll:l.length=m.length:=by simp at hc;omega
  simp only [vqM,vt74,zA,zS,zM,zL,zE,zB,reduceCtorEq,exCells_len]
  refine awN_keep [0,1,2,15,16,17] ?_
  simp only [vke,zB,zA]
  refine awN_forR hmix l.length (fun k e s=>l.take k=m.take k∧e=[.slice .none (Ex.encs l),.slice .none (Ex.encs m),.func (.func 139) [] [],.junk,.junk,.junk,.junk,.junk,.junk,.junk,.junk,.junk,.junk,.junk,.junk,.slice .none (Ex.encs l),.int .i64 l.length,.int .i64 (k:Int),.junk,.junk,.junk,.junk,.junk,.junk,.junk,.junk,.junk,.junk,.junk,.junk,.junk,.junk]∧∃ X,s=⟨B++X,L,c⟩) ?_ ?_ 0 _ _ (Nat.zero_le _) ⟨rfl,rfl,[],by simp⟩
  · rintro k e s hk ⟨hI,rfl,X,rfl⟩ ih
    have hkm:k<m.length:=by omega
    have hx:l[k]? = some l[k]:=List.getElem?_eq_getElem hk
    have hy:m[k]? = some m[k]:=List.getElem?_eq_getElem hkm
    have hg:(Ex.encs l)[k]? = some (l[k].cells):=by simp [Ex.encs_map,hx]
    have hh:(Ex.encs m)[k]? = some (m[k].cells):=by simp [Ex.encs_map,hy]
    have hklt:((k:Int)<(l.length:Int))=True:=by simp;exact hk
    have hpk:=hp _ (List.getElem_mem hk)
    generalize l[k]=x at hx hg hpk
    generalize m[k]=y at hy hh
    simp only [vqM,vt74,zA,zS,zM,zL,zE,zB,reduceCtorEq,hklt,decide_true,natle0,Int.toNat_natCast,hg,hh]
    refine callI_spec (hpk y _) ?_
    simp only [vqM,vt74,zA,zS,zM,zL,zE,zB,reduceCtorEq,hklt,decide_true,natle0,Int.toNat_natCast,hg,hh]
    refine ifI_intro (fun hc=>?_) (fun hc=>?_)
    · simp only [vqM,vt74,zA,zS,zM,zL,zE,zB,reduceCtorEq]
      refine ret_loc (.inr rfl) ?_ (.bool _) (fun _ h=>h) (Nat.le_refl _)
      have:l≠m:=by
        rintro rfl
        rw [hx] at hy;cases hy
        simp at hc
      simp only [vqM,vt74,zA,zS,zM,zL,zE,zB,reduceCtorEq]
      rw [decide_eq_false this]
    · simp only [vqM,vt74,zA,zS,zM,zL,zE,zB,reduceCtorEq]
      rw [wrap_succ (by omega)]
      refine awN_keep [0,1,2,15,16,17] ?_
      simp only [vke,zB,zA]
      have hc':x=y:=by simpa using hc
      subst hc'
      refine ih _ _ ⟨?_,rfl,_,by first | rfl | (simp only [List.append_assoc];rfl)⟩
      rw [List.take_add_one,List.take_add_one,hx,hy,hI]
  · rintro e s ⟨hI,rfl,X,rfl⟩
    have hklt:((l.length:Int)<(l.length:Int))=False:=by simp
    simp only [vqM,vt74,zA,zS,zM,zL,zE,zB,reduceCtorEq,hklt,decide_false]
    refine ret_loc (.inr rfl) ?_ (.bool _) (fun _ h=>h) (Nat.le_refl _)
    simp only [vqM,vt74,zA,zS,zM,zL,zE,zB,reduceCtorEq]
    rw [List.take_length,hll,List.take_length] at hI
    rw [decide_eq_true hI]
theorem t_eqFCo (l m:List Co) (hp:∀ x ∈ l,∀ (y:Co) (s:St),Spec Tryz.prog 140 [.agg x.cells,.agg y.cells] s (.bool (decide (x=y))) s) (s:St) :
    Spec Tryz.prog 169 [.slice .none (Co.encs l),.slice .none (Co.encs m),.func (.func 140) [] []] s (.bool (decide (l=m))) s:=by
  refine Spec.small fun hsm=>?_
  have hlen:=(hsm _ (.head _)).len
  rw [coCells_len] at hlen
  clear hsm
  obtain ⟨B,L,c⟩:=s
  refine Spec.introN [] Tryz.func169 rfl (by decide) hmix (by kernel_rfl) [ResultVar.tmp 6] 32 rfl rfl ?_
  simp only [vqM,vt75,Tryz.f169,zA,zS,zM,zL,zE,zB,reduceCtorEq,coCells_len]
  refine ifI_intro (fun hc=>?_) (fun hc=>?_)
  · simp only [vqM,vt75,zA,zS,zM,zL,zE,zB,reduceCtorEq,coCells_len]
    refine ret_here (.inr rfl) ?_ (.bool _)
    have:l≠m:=by rintro rfl;simp at hc
    simp only [vqM,vt75,zA,zS,zM,zL,zE,zB,reduceCtorEq]
    rw [decide_eq_false this]
  have hll:l.length=m.length:=by simp at hc;omega
  simp only [vqM,vt75,zA,zS,zM,zL,zE,zB,reduceCtorEq,coCells_len]
  refine awN_keep [0,1,2,15,16,17] ?_
  simp only [vke,zB,zA]
  refine awN_forR hmix l.length (fun k e s=>l.take k=m.take k∧e=[.slice .none (Co.encs l),.slice .none (Co.encs m),.func (.func 140) [] [],.junk,.junk,.junk,.junk,.junk,.junk,.junk,.junk,.junk,.junk,.junk,.junk,.slice .none (Co.encs l),.int .i64 l.length,.int .i64 (k:Int),.junk,.junk,.junk,.junk,.junk,.junk,.junk,.junk,.junk,.junk,.junk,.junk,.junk,.junk]∧∃ X,s=⟨B++X,L,c⟩) ?_ ?_ 0 _ _ (Nat.zero_le _) ⟨rfl,rfl,[],by simp⟩
  · rintro k e s hk ⟨hI,rfl,X,rfl⟩ ih
    have hkm:k<m.length:=by omega
    have hx:l[k]? = some l[k]:=List.getElem?_eq_getElem hk
    have hy:m[k]? = some m[k]:=List.getElem?_eq_getElem hkm
    have hg:(Co.encs l)[k]? = some (l[k].cells):=by simp [Co.encs_map,hx]
    have hh:(Co.encs m)[k]? = some (m[k].cells):=by simp [Co.encs_map,hy]
    have hklt:((k:Int)<(l.length:Int))=True:=by simp;exact hk
    have hpk:=hp _ (List.getElem_mem hk)
    generalize l[k]=x at hx hg hpk
    generalize m[k]=y at hy hh
    simp only [vqM,vt75,zA,zS,zM,zL,zE,zB,reduceCtorEq,hklt,decide_true,natle0,Int.toNat_natCast,hg,hh]
    refine callI_spec (hpk y _) ?_
    simp only [vqM,vt75,zA,zS,zM,zL,zE,zB,reduceCtorEq,hklt,decide_true,natle0,Int.toNat_natCast,hg,hh]
    refine ifI_intro (fun hc=>?_) (fun hc=>?_)
    · simp only [vqM,vt75,zA,zS,zM,zL,zE,zB,reduceCtorEq]
      refine ret_loc (.inr rfl) ?_ (.bool _) (fun _ h=>h) (Nat.le_refl _)
      have:l≠m:=by
        rintro rfl
        rw [hx] at hy;cases hy
        simp at hc
      simp only [vqM,vt75,zA,zS,zM,zL,zE,zB,reduceCtorEq]
      rw [decide_eq_false this]
    · simp only [vqM,vt75,zA,zS,zM,zL,zE,zB,reduceCtorEq]
      rw [wrap_succ (by omega)]
      refine awN_keep [0,1,2,15,16,17] ?_
      simp only [vke,zB,zA]
      have hc':x=y:=by simpa using hc
      subst hc'
      refine ih _ _ ⟨?_,rfl,_,by first | rfl | (simp only [List.append_assoc];rfl)⟩
      rw [List.take_add_one,List.take_add_one,hx,hy,hI]
  · rintro e s ⟨hI,rfl,X,rfl⟩
    have hklt:((l.length:Int)<(l.length:Int))=False:=by simp
    simp only [vqM,vt75,zA,zS,zM,zL,zE,zB,reduceCtorEq,hklt,decide_false]
    refine ret_loc (.inr rfl) ?_ (.bool _) (fun _ h=>h) (Nat.le_refl _)
    simp only [vqM,vt75,zA,zS,zM,zL,zE,zB,reduceCtorEq]
    rw [List.take_length,hll,List.take_length] at hI
    rw [decide_eq_true hI]
theorem t_eqFSm (l m:List Sm) (hp:∀ x ∈ l,∀ (y:Sm) (s:St),Spec Tryz.prog 109 [.agg x.cells,.agg y.cells] s (.bool (decide (x=y))) s) (s:St) :
    Spec Tryz.prog 108 [.slice .none (Sm.encs l),.slice .none (Sm.encs m),.func (.func 109) [] []] s (.bool (decide (l=m))) s:=by
  refine Spec.small fun hsm=>?_
  have hlen:=(hsm _ (.head _)).len
  rw [smCells_len] at hlen
  clear hsm
  obtain ⟨B,L,c⟩:=s
  refine Spec.introN [] Tryz.func108 rfl (by decide) hmix (by kernel_rfl) [ResultVar.tmp 6] 32 rfl rfl ?_
  simp only [vqM,vt76,Tryz.f108,zA,zS,zM,zL,zE,zB,reduceCtorEq,smCells_len]
  refine ifI_intro (fun hc=>?_) (fun hc=>?_)
  · simp only [vqM,vt76,zA,zS,zM,zL,zE,zB,reduceCtorEq,smCells_len]
    refine ret_here (.inr rfl) ?_ (.bool _)
    have:l≠m:=by rintro rfl;simp at hc
    simp only [vqM,vt76,zA,zS,zM,zL,zE,zB,reduceCtorEq]
    rw [decide_eq_false this]
  have hll:l.length=m.length:=by simp at hc;omega
  simp only [vqM,vt76,zA,zS,zM,zL,zE,zB,reduceCtorEq,smCells_len]
  refine awN_keep [0,1,2,15,16,17] ?_
  simp only [vke,zB,zA]
  refine awN_forR hmix l.length (fun k e s=>l.take k=m.take k∧e=[.slice .none (Sm.encs l),.slice .none (Sm.encs m),.func (.func 109) [] [],.junk,.junk,.junk,.junk,.junk,.junk,.junk,.junk,.junk,.junk,.junk,.junk,.slice .none (Sm.encs l),.int .i64 l.length,.int .i64 (k:Int),.junk,.junk,.junk,.junk,.junk,.junk,.junk,.junk,.junk,.junk,.junk,.junk,.junk,.junk]∧∃ X,s=⟨B++X,L,c⟩) ?_ ?_ 0 _ _ (Nat.zero_le _) ⟨rfl,rfl,[],by simp⟩
  · rintro k e s hk ⟨hI,rfl,X,rfl⟩ ih
    have hkm:k<m.length:=by omega
    have hx:l[k]? = some l[k]:=List.getElem?_eq_getElem hk
    have hy:m[k]? = some m[k]:=List.getElem?_eq_getElem hkm
    have hg:(Sm.encs l)[k]? = some (l[k].cells):=by simp [Sm.encs_map,hx]
    have hh:(Sm.encs m)[k]? = some (m[k].cells):=by simp [Sm.encs_map,hy]
    have hklt:((k:Int)<(l.length:Int))=True:=by simp;exact hk
    have hpk:=hp _ (List.getElem_mem hk)
    generalize l[k]=x at hx hg hpk
    generalize m[k]=y at hy hh
    simp only [vqM,vt76,zA,zS,zM,zL,zE,zB,reduceCtorEq,hklt,decide_true,natle0,Int.toNat_natCast,hg,hh]
    refine callI_spec (hpk y _) ?_
    simp only [vqM,vt76,zA,zS,zM,zL,zE,zB,reduceCtorEq,hklt,decide_true,natle0,Int.toNat_natCast,hg,hh]
    refine ifI_intro (fun hc=>?_) (fun hc=>?_)
    · simp only [vqM,vt76,zA,zS,zM,zL,zE,zB,reduceCtorEq]
      refine ret_loc (.inr rfl) ?_ (.bool _) (fun _ h=>h) (Nat.le_refl _)
      have:l≠m:=by
        rintro rfl
        rw [hx] at hy;cases hy
        simp at hc
      simp only [vqM,vt76,zA,zS,zM,zL,zE,zB,reduceCtorEq]
      rw [decide_eq_false this]
    · simp only [vqM,vt76,zA,zS,zM,zL,zE,zB,reduceCtorEq]
      rw [wrap_succ (by omega)]
      refine awN_keep [0,1,2,15,16,17] ?_
      simp only [vke,zB,zA]
      have hc':x=y:=by simpa using hc
      subst hc'
      refine ih _ _ ⟨?_,rfl,_,by first | rfl | (simp only [List.append_assoc];rfl)⟩
      rw [List.take_add_one,List.take_add_one,hx,hy,hI]
  · rintro e s ⟨hI,rfl,X,rfl⟩
    have hklt:((l.length:Int)<(l.length:Int))=False:=by simp
    simp only [vqM,vt76,zA,zS,zM,zL,zE,zB,reduceCtorEq,hklt,decide_false]
    refine ret_loc (.inr rfl) ?_ (.bool _) (fun _ h=>h) (Nat.le_refl _)
    simp only [vqM,vt76,zA,zS,zM,zL,zE,zB,reduceCtorEq]
    rw [List.take_length,hll,List.take_length] at hI
    rw [decide_eq_true hI]
theorem t_eqInt (l m:List Int) (s:St):Spec Tryz.prog 67 [.slice .none (intCells l),.slice .none (intCells m)] s (.bool (decide (l=m))) s:=by
  refine Spec.small fun hsm=>?_
  have hlen:=(hsm _ (.head _)).len
  rw [intCells_len] at hlen
  clear hsm
  refine Spec.introN [] Tryz.func67 rfl (by decide) hmix (by kernel_rfl) [ResultVar.tmp 4] 26 rfl rfl ?_
  simp only [vqM,vt25,Tryz.f67,zA,zS,zM,zL,zE,zB,reduceCtorEq,intCells_len]
  refine ifI_intro (fun hc=>?_) (fun hc=>?_)
  · simp only [vqM,vt25,zA,zS,zM,zL,zE,zB,reduceCtorEq,intCells_len]
    refine ret_here (.inr rfl) ?_ (.bool _)
    have:l≠m:=by rintro rfl;simp at hc
    simp only [vqM,vt25,zA,zS,zM,zL,zE,zB,reduceCtorEq]
    rw [decide_eq_false this]
  have hll:l.length=m.length:=by simp at hc;omega
  simp only [vqM,vt25,zA,zS,zM,zL,zE,zB,reduceCtorEq,intCells_len]
  refine awN_keep [0,1,12,13] ?_
  simp only [vke,zB,zA]
  refine awN_for hmix l.length (fun k=>[.slice .none (intCells l),.slice .none (intCells m),.junk,.junk,.junk,.junk,.junk,.junk,.junk,.junk,.junk,.junk,.int .i64 l.length,.int .i64 (k:Int),.junk,.junk,.junk,.junk,.junk,.junk,.junk,.junk,.junk,.junk,.junk,.junk]) (fun _=>s) (fun k=>l.take k=m.take k) ?_ ?_ 0 (Nat.zero_le _) rfl
  · intro k hk hI ih
    have hkm:k<m.length:=by omega
    have hx:l[k]? = some l[k]:=List.getElem?_eq_getElem hk
    have hy:m[k]? = some m[k]:=List.getElem?_eq_getElem hkm
    have hg:(intCells l)[k]? = some ([.int .i64 l[k]]):=by simp [intCells,hx]
    have hh:(intCells m)[k]? = some ([.int .i64 m[k]]):=by simp [intCells,hy]
    have hklt:((k:Int)<(l.length:Int))=True:=by simp;exact hk
    generalize l[k]=x at hx hg
    generalize m[k]=y at hy hh
    simp only [vqM,vt25,zA,zS,zM,zL,zE,zB,reduceCtorEq,hklt,decide_true,natle0,Int.toNat_natCast,hg,hh]
    refine ifI_intro (fun hc=>?_) (fun hc=>?_)
    · simp only [vqM,vt25,zA,zS,zM,zL,zE,zB,reduceCtorEq]
      refine ret_here (.inr rfl) ?_ (.bool _)
      have:l≠m:=by
        rintro rfl
        rw [hx] at hy;cases hy
        simp at hc
      simp only [vqM,vt25,zA,zS,zM,zL,zE,zB,reduceCtorEq]
      rw [decide_eq_false this]
    · simp only [vqM,vt25,zA,zS,zM,zL,zE,zB,reduceCtorEq]
      rw [wrap_succ (by omega)]
      refine awN_keep [0,1,12,13] ?_
      simp only [vke,zB,zA]
      refine ih ?_
      have hc':x=y:=by simpa using hc
      subst hc'
      rw [List.take_add_one,List.take_add_one,hx,hy,hI]
  · intro hI
    have hklt:((l.length:Int)<(l.length:Int))=False:=by simp
    simp only [vqM,vt25,zA,zS,zM,zL,zE,zB,reduceCtorEq,hklt,decide_false]
    refine ret_here (.inr rfl) ?_ (.bool _)
    simp only [vqM,vt25,zA,zS,zM,zL,zE,zB,reduceCtorEq]
    rw [List.take_length,hll,List.take_length] at hI
    rw [decide_eq_true hI]
theorem t_eqAr (l m:List Ar) (s:St):Spec Tryz.prog 107 [.slice .none (arCells l),.slice .none (arCells m)] s (.bool (decide (l=m))) s:=by
  refine Spec.small fun hsm=>?_
  have hlen:=(hsm _ (.head _)).len
  rw [arCells_len] at hlen
  clear hsm
  refine Spec.introN [] Tryz.func107 rfl (by decide) hmix (by kernel_rfl) [ResultVar.tmp 4] 26 rfl rfl ?_
  simp only [vqM,vt28,Tryz.f107,zA,zS,zM,zL,zE,zB,reduceCtorEq,arCells_len]
  refine ifI_intro (fun hc=>?_) (fun hc=>?_)
  · simp only [vqM,vt28,zA,zS,zM,zL,zE,zB,reduceCtorEq,arCells_len]
    refine ret_here (.inr rfl) ?_ (.bool _)
    have:l≠m:=by rintro rfl;simp at hc
    simp only [vqM,vt28,zA,zS,zM,zL,zE,zB,reduceCtorEq]
    rw [decide_eq_false this]
  have hll:l.length=m.length:=by simp at hc;omega
  simp only [vqM,vt28,zA,zS,zM,zL,zE,zB,reduceCtorEq,arCells_len]
  refine awN_keep [0,1,12,13] ?_
  simp only [vke,zB,zA]
  refine awN_for hmix l.length (fun k=>[.slice .none (arCells l),.slice .none (arCells m),.junk,.junk,.junk,.junk,.junk,.junk,.junk,.junk,.junk,.junk,.int .i64 l.length,.int .i64 (k:Int),.junk,.junk,.junk,.junk,.junk,.junk,.junk,.junk,.junk,.junk,.junk,.junk]) (fun _=>s) (fun k=>l.take k=m.take k) ?_ ?_ 0 (Nat.zero_le _) rfl
  · intro k hk hI ih
    have hkm:k<m.length:=by omega
    have hx:l[k]? = some l[k]:=List.getElem?_eq_getElem hk
    have hy:m[k]? = some m[k]:=List.getElem?_eq_getElem hkm
    have hg:(arCells l)[k]? = some (l[k].cells):=by simp [arCells,hx]
    have hh:(arCells m)[k]? = some (m[k].cells):=by simp [arCells,hy]
    have hklt:((k:Int)<(l.length:Int))=True:=by simp;exact hk
    generalize l[k]=x at hx hg
    generalize m[k]=y at hy hh
    simp only [vqM,vt28,zA,zS,zM,zL,zE,zB,reduceCtorEq,hklt,decide_true,natle0,Int.toNat_natCast,hg,hh]
    have heq:(decide (x.len=y.len) && decide (x.of=y.of))=decide (x=y):=by cases x;cases y;simp
    rw [heq]
    clear heq
    refine ifI_intro (fun hc=>?_) (fun hc=>?_)
    · simp only [vqM,vt28,zA,zS,zM,zL,zE,zB,reduceCtorEq]
      refine ret_here (.inr rfl) ?_ (.bool _)
      have:l≠m:=by
        rintro rfl
        rw [hx] at hy;cases hy
        simp at hc
      simp only [vqM,vt28,zA,zS,zM,zL,zE,zB,reduceCtorEq]
      rw [decide_eq_false this]
    · simp only [vqM,vt28,zA,zS,zM,zL,zE,zB,reduceCtorEq]
      rw [wrap_succ (by omega)]
      refine awN_keep [0,1,12,13] ?_
      simp only [vke,zB,zA]
      refine ih ?_
      have hc':x=y:=by simpa using hc
      subst hc'
      rw [List.take_add_one,List.take_add_one,hx,hy,hI]
  · intro hI
    have hklt:((l.length:Int)<(l.length:Int))=False:=by simp
    simp only [vqM,vt28,zA,zS,zM,zL,zE,zB,reduceCtorEq,hklt,decide_false]
    refine ret_here (.inr rfl) ?_ (.bool _)
    simp only [vqM,vt28,zA,zS,zM,zL,zE,zB,reduceCtorEq]
    rw [List.take_length,hll,List.take_length] at hI
    rw [decide_eq_true hI]
theorem t_eqQu (l m:List Qu) (s:St):Spec Tryz.prog 110 [.slice .none (quCells l),.slice .none (quCells m)] s (.bool (decide (l=m))) s:=by
  refine Spec.small fun hsm=>?_
  have hlen:=(hsm _ (.head _)).len
  rw [quCells_len] at hlen
  clear hsm
  refine Spec.introN [] Tryz.func110 rfl (by decide) hmix (by kernel_rfl) [ResultVar.tmp 4] 26 rfl rfl ?_
  simp only [vqM,vt22,Tryz.f110,zA,zS,zM,zL,zE,zB,reduceCtorEq,quCells_len]
  refine ifI_intro (fun hc=>?_) (fun hc=>?_)
  · simp only [vqM,vt22,zA,zS,zM,zL,zE,zB,reduceCtorEq,quCells_len]
    refine ret_here (.inr rfl) ?_ (.bool _)
    have:l≠m:=by rintro rfl;simp at hc
    simp only [vqM,vt22,zA,zS,zM,zL,zE,zB,reduceCtorEq]
    rw [decide_eq_false this]
  have hll:l.length=m.length:=by simp at hc;omega
  simp only [vqM,vt22,zA,zS,zM,zL,zE,zB,reduceCtorEq,quCells_len]
  refine awN_keep [0,1,12,13] ?_
  simp only [vke,zB,zA]
  refine awN_for hmix l.length (fun k=>[.slice .none (quCells l),.slice .none (quCells m),.junk,.junk,.junk,.junk,.junk,.junk,.junk,.junk,.junk,.junk,.int .i64 l.length,.int .i64 (k:Int),.junk,.junk,.junk,.junk,.junk,.junk,.junk,.junk,.junk,.junk,.junk,.junk]) (fun _=>s) (fun k=>l.take k=m.take k) ?_ ?_ 0 (Nat.zero_le _) rfl
  · intro k hk hI ih
    have hkm:k<m.length:=by omega
    have hx:l[k]? = some l[k]:=List.getElem?_eq_getElem hk
    have hy:m[k]? = some m[k]:=List.getElem?_eq_getElem hkm
    have hg:(quCells l)[k]? = some (l[k].cells):=by simp [quCells,hx]
    have hh:(quCells m)[k]? = some (m[k].cells):=by simp [quCells,hy]
    have hklt:((k:Int)<(l.length:Int))=True:=by simp;exact hk
    generalize l[k]=x at hx hg
    generalize m[k]=y at hy hh
    simp only [vqM,vt22,zA,zS,zM,zL,zE,zB,reduceCtorEq,hklt,decide_true,natle0,Int.toNat_natCast,hg,hh]
    have heq:(decide (x.cap=y.cap) && (decide (x.r.lo=y.r.lo) && (decide (x.r.hi=y.r.hi) && decide (x.r.mask=y.r.mask))))=decide (x=y):=by obtain ⟨_,_,_,_⟩:=x;obtain ⟨_,_,_,_⟩:=y;simp
    rw [heq]
    clear heq
    refine ifI_intro (fun hc=>?_) (fun hc=>?_)
    · simp only [vqM,vt22,zA,zS,zM,zL,zE,zB,reduceCtorEq]
      refine ret_here (.inr rfl) ?_ (.bool _)
      have:l≠m:=by
        rintro rfl
        rw [hx] at hy;cases hy
        simp at hc
      simp only [vqM,vt22,zA,zS,zM,zL,zE,zB,reduceCtorEq]
      rw [decide_eq_false this]
    · simp only [vqM,vt22,zA,zS,zM,zL,zE,zB,reduceCtorEq]
      rw [wrap_succ (by omega)]
      refine awN_keep [0,1,12,13] ?_
      simp only [vke,zB,zA]
      refine ih ?_
      have hc':x=y:=by simpa using hc
      subst hc'
      rw [List.take_add_one,List.take_add_one,hx,hy,hI]
  · intro hI
    have hklt:((l.length:Int)<(l.length:Int))=False:=by simp
    simp only [vqM,vt22,zA,zS,zM,zL,zE,zB,reduceCtorEq,hklt,decide_false]
    refine ret_here (.inr rfl) ?_ (.bool _)
    simp only [vqM,vt22,zA,zS,zM,zL,zE,zB,reduceCtorEq]
    rw [List.take_length,hll,List.take_length] at hI
    rw [decide_eq_true hI]
def seEx (x y:Ex):Bool:=decide (x.op=y.op) && (decide (x.n=y.n) && (decide (x.v=y.v) && decide (x.a=y.a)))
theorem seEx_eq (x y:Ex):seEx x y=decide (x=y):=by
  rw [Bool.eq_iff_iff]
  obtain ⟨o,n,v,a⟩:=x
  obtain ⟨o',n',v',a'⟩:=y
  show (decide (o=o') && (decide (n=n') && (decide (v=v') && decide (a=a'))))=true↔decide (Ex.mk o n v a=Ex.mk o' n' v' a')=true
  simp only [Bool.and_eq_true,decide_eq_true_eq,Ex.mk.injEq]
theorem t_sameExpr_of (x:Ex) (ih:∀ z ∈ x.a,∀ (y:Ex) (s:St),Spec Tryz.prog 139 [.agg z.cells,.agg y.cells] s (.bool (decide (z=y))) s) (y:Ex) (s:St):Spec Tryz.prog 139 [.agg x.cells,.agg y.cells] s (.bool (decide (x=y))) s:=by
  obtain ⟨B,L,c⟩:=s
  rw [← seEx_eq]
  refine Spec.introN [] Tryz.func139 rfl (by decide) hmix (by kernel_rfl) [ResultVar.tmp 4] 31 rfl rfl ?_
  simp only [vqM,vt31,Tryz.f139,zA,zS,zM,zL,zE,zB,reduceCtorEq]
  repeat' (first
    | ((with_reducible refine is_call ?_);refine callI_spec (t_eqFEx _ _ ih _) ?_;simp only [vqM,vt31,zA,zS,zM,zL,zE,zB,reduceCtorEq])
    | (with_reducible refine ifI_intro (fun hc=>?_) (fun hc=>?_) <;> simp only [vqM,vt31,hc,zA,zS,zM,zL,zE,zB,reduceCtorEq])
    | ((with_reducible refine is_q ?_);refine ret_loc (.inr rfl) ?_ (.bool _) (fun _ h=>h) (Nat.le_refl _) <;> (try simp only [vqM,vt31,zA,zS,zM,zL,zE,zB,reduceCtorEq]) <;> (first | (simp only [seEx, *,Bool.true_and,Bool.false_and,Bool.and_true,Bool.and_false,Bool.true_or,Bool.false_or,Bool.or_true,Bool.or_false,Bool.not_true,Bool.not_false,cond_true,cond_false,if_true,if_false];done) | (simp_all [seEx];done) | (simp_all [seEx];omega))))
mutual
theorem t_sameExpr:∀ (x y:Ex) (s:St),Spec Tryz.prog 139 [.agg x.cells,.agg y.cells] s (.bool (decide (x=y))) s
  | .mk op n v a,y,s=>t_sameExpr_of (.mk op n v a) (t_sameExprs a) y s
theorem t_sameExprs:∀ (l:List Ex),∀ z ∈ l,∀ (y:Ex) (s:St),Spec Tryz.prog 139 [.agg z.cells,.agg y.cells] s (.bool (decide (z=y))) s
  | [],z,h=>by simp at h
  | x::l,z,h=>by
    rcases List.mem_cons.1 h with e | h
    · rw [e];exact t_sameExpr x
    · exact t_sameExprs l z h
end
def seCo (x y:Co):Bool:=decide (x.op=y.op) && (decide (x.a=y.a) && decide (x.c=y.c))
theorem seCo_eq (x y:Co):seCo x y=decide (x=y):=by
  rw [Bool.eq_iff_iff]
  obtain ⟨o,a,c⟩:=x
  obtain ⟨o',a',c'⟩:=y
  show (decide (o=o') && (decide (a=a') && decide (c=c')))=true↔decide (Co.mk o a c=Co.mk o' a' c')=true
  simp only [Bool.and_eq_true,decide_eq_true_eq,Co.mk.injEq]
theorem t_sameCond_of (x:Co) (ih:∀ z ∈ x.c,∀ (y:Co) (s:St),Spec Tryz.prog 140 [.agg z.cells,.agg y.cells] s (.bool (decide (z=y))) s) (y:Co) (s:St):Spec Tryz.prog 140 [.agg x.cells,.agg y.cells] s (.bool (decide (x=y))) s:=by
  obtain ⟨B,L,c⟩:=s
  rw [← seCo_eq]
  refine Spec.introN [] Tryz.func140 rfl (by decide) hmix (by kernel_rfl) [ResultVar.tmp 4] 24 rfl rfl ?_
  simp only [vqM,vt77,Tryz.f140,zA,zS,zM,zL,zE,zB,reduceCtorEq]
  repeat' (first
    | ((with_reducible refine is_call ?_);refine callI_spec (t_eqFEx _ _ (t_sameExprs _) _) ?_;simp only [vqM,vt77,zA,zS,zM,zL,zE,zB,reduceCtorEq])
    | ((with_reducible refine is_call ?_);refine callI_spec (t_eqFCo _ _ ih _) ?_;simp only [vqM,vt77,zA,zS,zM,zL,zE,zB,reduceCtorEq])
    | (with_reducible refine ifI_intro (fun hc=>?_) (fun hc=>?_) <;> simp only [vqM,vt77,hc,zA,zS,zM,zL,zE,zB,reduceCtorEq])
    | ((with_reducible refine is_q ?_);refine ret_loc (.inr rfl) ?_ (.bool _) (fun _ h=>h) (Nat.le_refl _) <;> (try simp only [vqM,vt77,zA,zS,zM,zL,zE,zB,reduceCtorEq]) <;> (first | (simp only [seCo, *,Bool.true_and,Bool.false_and,Bool.and_true,Bool.and_false,Bool.true_or,Bool.false_or,Bool.or_true,Bool.or_false,Bool.not_true,Bool.not_false,cond_true,cond_false,if_true,if_false];done) | (simp_all [seCo];done) | (simp_all [seCo];omega))))
mutual
theorem t_sameCond:∀ (x y:Co) (s:St),Spec Tryz.prog 140 [.agg x.cells,.agg y.cells] s (.bool (decide (x=y))) s
  | .mk op a c,y,s=>t_sameCond_of (.mk op a c) (t_sameConds c) y s
theorem t_sameConds:∀ (l:List Co),∀ z ∈ l,∀ (y:Co) (s:St),Spec Tryz.prog 140 [.agg z.cells,.agg y.cells] s (.bool (decide (z=y))) s
  | [],z,h=>by simp at h
  | x::l,z,h=>by
    rcases List.mem_cons.1 h with e | h
    · rw [e];exact t_sameCond x
    · exact t_sameConds l z h
end
def seSm (x y:Sm):Bool:=(decide (x.site=y.site) && (decide (x.op=y.op) && (decide (x.n=y.n) && (decide (x.m=y.m) && decide (x.v=y.v))))) && (decide (x.x=y.x) && (decide (x.y=y.y) && (decide (x.c=y.c) && (decide (x.args=y.args) && (decide (x.ptrs=y.ptrs) && (decide (x.body=y.body) && decide (x.els=y.els)))))))
theorem seSm_eq (x y:Sm):seSm x y=decide (x=y):=by
  rw [Bool.eq_iff_iff]
  obtain ⟨q1,q2,q3,q4,q5,q6,q7,q8,q9,q10,q11,q12⟩:=x
  obtain ⟨r1,r2,r3,r4,r5,r6,r7,r8,r9,r10,r11,r12⟩:=y
  show ((decide (q1=r1) && (decide (q2=r2) && (decide (q3=r3) && (decide (q4=r4) && decide (q5=r5))))) && (decide (q6=r6) && (decide (q7=r7) && (decide (q8=r8) && (decide (q9=r9) && (decide (q10=r10) && (decide (q11=r11) && decide (q12=r12))))))))=true↔decide (Sm.mk q1 q2 q3 q4 q5 q6 q7 q8 q9 q10 q11 q12=Sm.mk r1 r2 r3 r4 r5 r6 r7 r8 r9 r10 r11 r12)=true
  simp only [Bool.and_eq_true,decide_eq_true_eq,Sm.mk.injEq,and_assoc]
theorem t_sameStmt_of (x:Sm) (ih1:∀ z ∈ x.body,∀ (y:Sm) (s:St),Spec Tryz.prog 109 [.agg z.cells,.agg y.cells] s (.bool (decide (z=y))) s) (ih2:∀ z ∈ x.els,∀ (y:Sm) (s:St),Spec Tryz.prog 109 [.agg z.cells,.agg y.cells] s (.bool (decide (z=y))) s) (y:Sm) (s:St):Spec Tryz.prog 109 [.agg x.cells,.agg y.cells] s (.bool (decide (x=y))) s:=by
  obtain ⟨B,L,c⟩:=s
  rw [← seSm_eq]
  refine Spec.introN [] Tryz.func109 rfl (by decide) hmix (by kernel_rfl) [ResultVar.tmp 4] 77 rfl rfl ?_
  simp only [vqM,vt78,Tryz.f109,zA,zS,zM,zL,zE,zB,reduceCtorEq]
  repeat' (first
    | ((with_reducible refine is_call ?_);refine callI_spec (t_sameExpr _ _ _) ?_;simp only [vqM,vt78,zA,zS,zM,zL,zE,zB,reduceCtorEq])
    | ((with_reducible refine is_call ?_);refine callI_spec (t_sameCond _ _ _) ?_;simp only [vqM,vt78,zA,zS,zM,zL,zE,zB,reduceCtorEq])
    | ((with_reducible refine is_call ?_);refine callI_spec (t_eqFEx _ _ (t_sameExprs _) _) ?_;simp only [vqM,vt78,zA,zS,zM,zL,zE,zB,reduceCtorEq])
    | ((with_reducible refine is_call ?_);refine callI_spec (t_eqInt _ _ _) ?_;simp only [vqM,vt78,zA,zS,zM,zL,zE,zB,reduceCtorEq])
    | ((with_reducible refine is_call ?_);refine callI_spec (t_eqFSm _ _ ih1 _) ?_;simp only [vqM,vt78,zA,zS,zM,zL,zE,zB,reduceCtorEq])
    | ((with_reducible refine is_call ?_);refine callI_spec (t_eqFSm _ _ ih2 _) ?_;simp only [vqM,vt78,zA,zS,zM,zL,zE,zB,reduceCtorEq])
    | (with_reducible refine ifI_intro (fun hc=>?_) (fun hc=>?_) <;> simp only [vqM,vt78,hc,zA,zS,zM,zL,zE,zB,reduceCtorEq])
    | ((with_reducible refine is_q ?_);refine ret_loc (.inr rfl) ?_ (.bool _) (fun _ h=>h) (Nat.le_refl _) <;> (try simp only [vqM,vt78,zA,zS,zM,zL,zE,zB,reduceCtorEq]) <;> (first | (simp only [seSm, *,Bool.true_and,Bool.false_and,Bool.and_true,Bool.and_false,Bool.true_or,Bool.false_or,Bool.or_true,Bool.or_false,Bool.not_true,Bool.not_false,cond_true,cond_false,if_true,if_false];done) | (simp_all [seSm];done) | (simp_all [seSm];omega))))
mutual
theorem t_sameStmt:∀ (x y:Sm) (s:St),Spec Tryz.prog 109 [.agg x.cells,.agg y.cells] s (.bool (decide (x=y))) s
  | .mk site op n m v a b c args ptrs body els,y,s=>t_sameStmt_of (.mk site op n m v a b c args ptrs body els) (t_sameStmts body) (t_sameStmts els) y s
theorem t_sameStmts:∀ (l:List Sm),∀ z ∈ l,∀ (y:Sm) (s:St),Spec Tryz.prog 109 [.agg z.cells,.agg y.cells] s (.bool (decide (z=y))) s
  | [],z,h=>by simp at h
  | x::l,z,h=>by
    rcases List.mem_cons.1 h with e | h
    · rw [e];exact t_sameStmt x
    · exact t_sameStmts l z h
end
def seHd (x y:Hd):Bool:=decide (x.id=y.id) && (decide (x.firm=y.firm) && (decide (x.part=y.part) && (decide (x.params=y.params) && decide (x.given=y.given))))
theorem seHd_eq (x y:Hd):seHd x y=decide (x=y):=by cases x;cases y;simp [seHd]
theorem t_sameHead (x y:Hd) (s:St):Spec Tryz.prog 64 [.agg x.cells,.agg y.cells] s (.bool (decide (x=y))) s:=by
  obtain ⟨B,L,c⟩:=s
  rw [← seHd_eq]
  refine Spec.introN [] Tryz.func64 rfl (by decide) hmix (by kernel_rfl) [ResultVar.tmp 4] 38 rfl rfl ?_
  simp only [vqM,vt79,Tryz.f64,zA,zS,zM,zL,zE,zB,reduceCtorEq]
  repeat' (first
    | ((with_reducible refine is_call ?_);refine callI_spec (t_Equal _ _ _) ?_;simp only [vqM,vt79,zA,zS,zM,zL,zE,zB,reduceCtorEq])
    | (with_reducible refine ifI_intro (fun hc=>?_) (fun hc=>?_) <;> simp only [vqM,vt79,hc,zA,zS,zM,zL,zE,zB,reduceCtorEq])
    | ((with_reducible refine is_q ?_);refine ret_loc (.inr rfl) ?_ (.bool _) (fun _ h=>h) (Nat.le_refl _) <;> (try simp only [vqM,vt79,zA,zS,zM,zL,zE,zB,reduceCtorEq]) <;> (first | (simp only [seHd, *,Bool.true_and,Bool.false_and,Bool.and_true,Bool.and_false,Bool.true_or,Bool.false_or,Bool.or_true,Bool.or_false,Bool.not_true,Bool.not_false,cond_true,cond_false,if_true,if_false];done) | (simp_all [seHd];done) | (simp_all [seHd];omega))))
def seDc (x y:Dc):Bool:=(decide (x.locks=y.locks) && (decide (x.parts=y.parts) && decide (x.firms=y.firms))) && (decide (x.globals=y.globals) && (decide (x.classes=y.classes) && (decide (x.queues=y.queues) && decide (x.sinks=y.sinks))))
theorem seDc_eq (x y:Dc):seDc x y=decide (x=y):=by
  rw [Bool.eq_iff_iff]
  cases x;cases y
  simp only [seDc,Bool.and_eq_true,decide_eq_true_eq,Dc.mk.injEq]
  constructor <;> (intro h;simp only [h,and_self])
theorem t_sameDecl (x y:Dc) (s:St):Spec Tryz.prog 66 [.agg x.cells,.agg y.cells] s (.bool (decide (x=y))) s:=by
  obtain ⟨B,L,c⟩:=s
  rw [← seDc_eq]
  refine Spec.introN [] Tryz.func66 rfl (by decide) hmix (by kernel_rfl) [ResultVar.tmp 4] 48 rfl rfl ?_
  simp only [vqM,vt80,Tryz.f66,zA,zS,zM,zL,zE,zB,reduceCtorEq]
  repeat' (first
    | ((with_reducible refine is_call ?_);refine callI_spec (t_Equal _ _ _) ?_;simp only [vqM,vt80,zA,zS,zM,zL,zE,zB,reduceCtorEq])
    | ((with_reducible refine is_call ?_);refine callI_spec (t_eqQu _ _ _) ?_;simp only [vqM,vt80,zA,zS,zM,zL,zE,zB,reduceCtorEq])
    | ((with_reducible refine is_call ?_);refine callI_spec (t_eqInt _ _ _) ?_;simp only [vqM,vt80,zA,zS,zM,zL,zE,zB,reduceCtorEq])
    | (with_reducible refine ifI_intro (fun hc=>?_) (fun hc=>?_) <;> simp only [vqM,vt80,hc,zA,zS,zM,zL,zE,zB,reduceCtorEq])
    | ((with_reducible refine is_q ?_);refine ret_loc (.inr rfl) ?_ (.bool _) (fun _ h=>h) (Nat.le_refl _) <;> (try simp only [vqM,vt80,zA,zS,zM,zL,zE,zB,reduceCtorEq]) <;> (first | (simp only [seDc, *,Bool.true_and,Bool.false_and,Bool.and_true,Bool.and_false,Bool.true_or,Bool.false_or,Bool.or_true,Bool.or_false,Bool.not_true,Bool.not_false,cond_true,cond_false,if_true,if_false];done) | (simp_all [seDc];done) | (simp_all [seDc];omega))))
theorem t_HeadM (d:Df) (s:St):Spec Tryz.prog 106 [.agg d.cells] s (.agg (hdOf d).cells) s:=by
  obtain ⟨B,L,c⟩:=s
  refine Spec.introN [] Tryz.func106 rfl (by decide) hmix (by kernel_rfl) [ResultVar.cell 2 69] 14 rfl rfl ?_
  simp only [vqM,vt14,Tryz.f106,zA,zS,zM,zL,zE,zB,reduceCtorEq]
  refine ret_loc (.inr rfl) ?_ (bd_agg (Hd.bd _)) (fun _ h=>h) (Nat.le_refl _)
  simp only [vqM,vt14,zA,zS,zM,zL,zE,zB,reduceCtorEq]
  rfl
theorem name_beq (a b:ByteArray):(a.toList == b.toList)=decide (a=b):=by
  rw [Bool.eq_iff_iff]
  simp only [beq_iff_eq,decide_eq_true_eq,ByteArray.toList_eq]
  constructor
  · intro h
    obtain ⟨a⟩:=a
    obtain ⟨b⟩:=b
    exact congrArg _ (Array.toList_inj.1 h)
  · rintro rfl;rfl
def seDf (x y:Df):Bool:=(decide (x.site=y.site) && (decide (x.vars=y.vars) && (decide (x.refs=y.refs) && (decide (x.budget=y.budget) && (x.name.toList == y.name.toList))))) && (decide (hdOf x=hdOf y) && (decide (x.arrays=y.arrays) && decide (x.body=y.body)))
theorem seDf_eq (x y:Df):seDf x y=decide (x=y):=by
  rw [Bool.eq_iff_iff]
  cases x;cases y
  simp only [seDf,name_beq,hdOf,Bool.and_eq_true,decide_eq_true_eq,Df.mk.injEq,Hd.mk.injEq]
  constructor <;> (intro h;simp only [h,and_self])
theorem t_sameDef (x y:Df) (s:St):Spec Tryz.prog 65 [.agg x.cells,.agg y.cells] s (.bool (decide (x=y))) s:=by
  obtain ⟨B,L,c⟩:=s
  rw [← seDf_eq]
  refine Spec.introN [(1,.text [false,false,false,false,false,false,false,false,false,false,false,false,false,false,false,false,false,false,false,false,false,false,false,false,false,true,false,true,true,false,false,false,false,false,false,true,false,false,false,false,false,false,true,false,false] [(26,0)])] Tryz.func65 rfl (by decide) hmix (by kernel_rfl) [ResultVar.tmp 4] 49 rfl rfl ?_
  simp only [vqM,vt81,Tryz.f65,zA,zS,zM,zL,zE,zB,reduceCtorEq]
  repeat' (first
    | ((with_reducible refine is_call ?_);refine callI_spec (t_HeadM _ _) ?_;simp only [vqM,vt81,zA,zS,zM,zL,zE,zB,reduceCtorEq])
    | ((with_reducible refine is_call ?_);refine callI_spec (t_sameHead _ _ _) ?_;simp only [vqM,vt81,zA,zS,zM,zL,zE,zB,reduceCtorEq])
    | ((with_reducible refine is_call ?_);refine callI_spec (t_eqAr _ _ _) ?_;simp only [vqM,vt81,zA,zS,zM,zL,zE,zB,reduceCtorEq])
    | ((with_reducible refine is_call ?_);refine callI_spec (t_eqFSm _ _ (t_sameStmts _) _) ?_;simp only [vqM,vt81,zA,zS,zM,zL,zE,zB,reduceCtorEq])
    | (with_reducible refine ifI_intro (fun hc=>?_) (fun hc=>?_) <;> simp only [vqM,vt81,hc,zA,zS,zM,zL,zE,zB,reduceCtorEq])
    | ((with_reducible refine is_q ?_);refine ret_loc (.inr rfl) ?_ (.bool _) (fun _ h=>h) (Nat.le_refl _) <;> (try simp only [vqM,vt81,zA,zS,zM,zL,zE,zB,reduceCtorEq]) <;> (first | (simp only [seDf, *,Bool.true_and,Bool.false_and,Bool.and_true,Bool.and_false,Bool.true_or,Bool.false_or,Bool.or_true,Bool.or_false,Bool.not_true,Bool.not_false,cond_true,cond_false,if_true,if_false];done) | (simp_all [seDf];done) | (simp_all [seDf];omega))))
def seEn (x y:En):Bool:=decide (x.head=y.head) && (decide (x.opn=y.opn) && (decide (x.h=y.h) && (decide (x.d=y.d) && (decide (x.decl=y.decl) && decide (x.threads=y.threads)))))
theorem seEn_eq (x y:En):seEn x y=decide (x=y):=by cases x;cases y;simp [seEn]
theorem t_same (x y:En) (s:St):Spec Tryz.prog 35 [.agg x.cells,.agg y.cells] s (.bool (decide (x=y))) s:=by
  obtain ⟨B,L,c⟩:=s
  rw [← seEn_eq]
  refine Spec.introN [] Tryz.func35 rfl (by decide) hmix (by kernel_rfl) [ResultVar.tmp 4] 45 rfl rfl ?_
  simp only [vqM,vt82,Tryz.f35,zA,zS,zM,zL,zE,zB,reduceCtorEq,vsEn]
  repeat' (first
    | ((with_reducible refine is_call ?_);refine callI_spec (t_sameHead _ _ _) ?_;simp only [vqM,vt82,zA,zS,zM,zL,zE,zB,reduceCtorEq,vsEn])
    | ((with_reducible refine is_call ?_);refine callI_spec (t_sameDef _ _ _) ?_;simp only [vqM,vt82,zA,zS,zM,zL,zE,zB,reduceCtorEq,vsEn])
    | ((with_reducible refine is_call ?_);refine callI_spec (t_sameDecl _ _ _) ?_;simp only [vqM,vt82,zA,zS,zM,zL,zE,zB,reduceCtorEq,vsEn])
    | ((with_reducible refine is_call ?_);refine callI_spec (t_eqInt _ _ _) ?_;simp only [vqM,vt82,zA,zS,zM,zL,zE,zB,reduceCtorEq,vsEn])
    | (with_reducible refine ifI_intro (fun hc=>?_) (fun hc=>?_) <;> simp only [vqM,vt82,hc,zA,zS,zM,zL,zE,zB,reduceCtorEq,vsEn])
    | ((with_reducible refine is_q ?_);refine ret_loc (.inr rfl) ?_ (.bool _) (fun _ h=>h) (Nat.le_refl _) <;> (try simp only [vqM,vt82,zA,zS,zM,zL,zE,zB,reduceCtorEq,vsEn]) <;> (first | (simp only [seEn, *,Bool.true_and,Bool.false_and,Bool.and_true,Bool.and_false,Bool.true_or,Bool.false_or,Bool.or_true,Bool.or_false,Bool.not_true,Bool.not_false,cond_true,cond_false,if_true,if_false];done) | (simp_all [seEn];done) | (simp_all [seEn];omega))))
theorem Small.sl {cs:List D} {o:Own} {xs:List (List D)} (h:Small (.agg cs)) (hm:D.slice o xs ∈ cs):xs.length≤281474976710656:=by
  cases h with
  | agg _ h=>exact (h _ hm).len
theorem Rg.eqN_iff (a b:Rg):(a.lo=b.lo∧a.hi=b.hi∧a.mask=b.mask)↔a=b:=by cases a;cases b;simp
theorem t_sameRangesF (l m:List Rg) (s:St):Spec Tryz.prog 68 [.slice .none (rgCells l),.slice .none (rgCells m)] s (.bool (decide (l=m))) s:=by
  refine Spec.small fun hsm=>?_
  have hlen:=(hsm _ (.head _)).len
  rw [rgCells_len] at hlen
  clear hsm
  obtain ⟨B,L,c⟩:=s
  refine Spec.introN [] Tryz.func68 rfl (by decide) hmix (by kernel_rfl) [ResultVar.tmp 4] 26 rfl rfl ?_
  simp only [vqM,vt19,Tryz.f68,zA,zS,zM,zL,zE,zB,reduceCtorEq,rgCells_len]
  refine ifI_intro (fun hc=>?_) (fun hc=>?_)
  · simp only [vqM,vt19,zA,zS,zM,zL,zE,zB,reduceCtorEq,rgCells_len]
    refine ret_here (.inr rfl) ?_ (.bool _)
    have:l≠m:=by rintro rfl;simp at hc
    simp only [vqM,vt19,zA,zS,zM,zL,zE,zB,reduceCtorEq]
    rw [decide_eq_false this]
  have hll:l.length=m.length:=by simp at hc;omega
  simp only [vqM,vt19,zA,zS,zM,zL,zE,zB,reduceCtorEq,rgCells_len]
  refine awN_keep [0,1,5] ?_
  simp only [vke,zB,zA]
  refine awN_forR hmix l.length (fun k e s=>l.take k=m.take k∧e=[.slice .none (rgCells l),.slice .none (rgCells m),.junk,.junk,.junk,.int .i64 (k:Int),.junk,.junk,.junk,.junk,.junk,.junk,.junk,.junk,.junk,.junk,.junk,.junk,.junk,.junk,.junk,.junk,.junk,.junk,.junk,.junk]∧s=⟨B,L,c⟩) ?_ ?_ 0 _ _ (Nat.zero_le _) ⟨rfl,rfl,rfl⟩
  · rintro k e s hk ⟨hI,rfl,rfl⟩ ihl
    have hkm:k<m.length:=by omega
    have hx:l[k]? = some l[k]:=List.getElem?_eq_getElem hk
    have hy:m[k]? = some m[k]:=List.getElem?_eq_getElem hkm
    have hg:(rgCells l)[k]? = some (l[k].cells):=by simp [rgCells,hx]
    have hh:(rgCells m)[k]? = some (m[k].cells):=by simp [rgCells,hy]
    have hklt:((k:Int)<(l.length:Int))=True:=by simp;exact hk
    generalize l[k]=xx at hx hg
    generalize m[k]=yy at hy hh
    simp only [vqM,vt19,zA,zS,zM,zL,zE,zB,reduceCtorEq,rgCells_len,hklt,decide_true,natle0,Int.toNat_natCast,hg,hh]
    refine ifI_intro (fun hc=>?_) (fun hc=>?_)
    · simp only [vqM,vt19,zA,zS,zM,zL,zE,zB,reduceCtorEq]
      refine ret_here (.inr rfl) ?_ (.bool _)
      have:l≠m:=by
        rintro rfl
        rw [hx] at hy;cases hy
        simp at hc
      simp only [vqM,vt19,zA,zS,zM,zL,zE,zB,reduceCtorEq]
      rw [decide_eq_false this]
    · simp only [vqM,vt19,zA,zS,zM,zL,zE,zB,reduceCtorEq]
      rw [wrap_succ (by omega)]
      refine awN_keep [0,1,5] ?_
      simp only [vke,zB,zA]
      have hc':xx=yy:=(Rg.eqN_iff xx yy).1 (by simpa using hc)
      subst hc'
      refine ihl _ _ ⟨?_,rfl,rfl⟩
      rw [List.take_add_one,List.take_add_one,hx,hy,hI]
  · rintro e s ⟨hI,rfl,rfl⟩
    have hklt:((l.length:Int)<(l.length:Int))=False:=by simp
    rw [List.take_length,hll,List.take_length] at hI
    simp only [vqM,vt19,zA,zS,zM,zL,zE,zB,reduceCtorEq,rgCells_len,hklt,decide_false]
    refine ret_here (.inr rfl) ?_ (.bool _)
    simp only [vqM,vt19,zA,zS,zM,zL,zE,zB,reduceCtorEq]
    rw [decide_eq_true hI]
theorem t_SameHeadF (x y:Hd) (s:St):Spec Tryz.prog 37 [.agg x.cells,.agg y.cells] s (.bool (decide (x=y))) s:=by
  obtain ⟨B,L,c⟩:=s
  rw [← seHd_eq]
  refine Spec.introN [] Tryz.func37 rfl (by decide) hmix (by kernel_rfl) [ResultVar.tmp 4] 38 rfl rfl ?_
  simp only [vqM,vt79,Tryz.f37,zA,zS,zM,zL,zE,zB,reduceCtorEq]
  repeat' (first
    | ((with_reducible refine is_call ?_);refine callI_spec (t_sameRangesF _ _ _) ?_;simp only [vqM,vt79,zA,zS,zM,zL,zE,zB,reduceCtorEq])
    | (with_reducible refine ifI_intro (fun hc=>?_) (fun hc=>?_) <;> simp only [vqM,vt79,hc,zA,zS,zM,zL,zE,zB,reduceCtorEq])
    | ((with_reducible refine is_q ?_);refine ret_loc (.inr rfl) ?_ (.bool _) (fun _ h=>h) (Nat.le_refl _) <;> (try simp only [vqM,vt79,zA,zS,zM,zL,zE,zB,reduceCtorEq]) <;> (first | (simp only [seHd, *,Bool.true_and,Bool.false_and,Bool.and_true,Bool.and_false,Bool.true_or,Bool.false_or,Bool.or_true,Bool.or_false,Bool.not_true,Bool.not_false,cond_true,cond_false,if_true,if_false];done) | (simp_all [seHd];done) | (simp_all [seHd];omega))))
def preEx (x y:Ex):Bool:=decide (x.op≠y.op) || (decide (x.n≠y.n) || (decide (x.v≠y.v) || decide ((x.a.length:Int)≠y.a.length)))
theorem t_SameExpr_of (x:Ex) (ih:∀ z ∈ x.a,∀ (y:Ex) (s:St),Spec Tryz.prog 87 [.agg z.cells,.agg y.cells] s (.bool (decide (z=y))) s) (y:Ex) (s:St):Spec Tryz.prog 87 [.agg x.cells,.agg y.cells] s (.bool (decide (x=y))) s:=by
  refine Spec.small fun hsm=>?_
  have hlen:(Ex.encs x.a).length≤281474976710656:=(hsm _ (.head _)).sl (o:=.none) (by cases x;simp [Ex.cells,Ex.a])
  rw [exCells_len] at hlen
  obtain ⟨B,L,c⟩:=s
  refine Spec.introN [(1,.cut)] Tryz.func87 rfl (by decide) hmix (by kernel_rfl) [ResultVar.tmp 4] 53 rfl rfl ?_
  simp only [vqM,vt74,Tryz.f87,zA,zS,zM,zL,zE,zB,reduceCtorEq]
  refine seq_join hmix [2,3,33] [.junk,.junk,.box B.length 0,.box (B.length+1) 0,.junk,.junk,.junk,.junk,.junk,.junk,.junk,.junk,.junk,.junk,.junk,.junk,.junk,.junk,.junk,.junk,.junk,.junk,.junk,.junk,.junk,.junk,.junk,.junk,.junk,.junk,.junk,.junk,.junk,.bool (preEx x y),.junk,.junk,.junk,.junk,.junk,.junk,.junk,.junk,.junk,.junk,.junk,.junk,.junk,.junk,.junk,.junk,.junk,.junk,.junk] (fun s=>s=⟨B++[.cells x.cells,.cells y.cells],L,c⟩) ?_ ?_
  · simp only [vqM,vt74,zA,zS,zM,zL,zE,zB,reduceCtorEq,exCells_len]
    repeat' (first
      | (with_reducible refine ifI_intro (fun hc=>?_) (fun hc=>?_) <;> simp only [vqM,vt74,hc,zA,zS,zM,zL,zE,zB,reduceCtorEq,exCells_len])
      | ((with_reducible refine is_q ?_);refine meet_intro ⟨?_,rfl⟩ <;> simp only [vke,zB,zA] <;> (first | (simp only [preEx, *,Bool.true_and,Bool.false_and,Bool.and_true,Bool.and_false,Bool.true_or,Bool.false_or,Bool.or_true,Bool.or_false,Bool.not_true,Bool.not_false,cond_true,cond_false,if_true,if_false];done) | (simp_all [preEx];done) | (simp_all [preEx];omega))))
  rintro s rfl
  simp only [vqM,vt74,zA,zS,zM,zL,zE,zB,reduceCtorEq,exCells_len]
  refine ifI_intro (fun hc=>?_) (fun hc=>?_)
  · simp only [vqM,vt74,zA,zS,zM,zL,zE,zB,reduceCtorEq,exCells_len]
    refine ret_loc (.inr rfl) ?_ (.bool _) (fun _ h=>h) (Nat.le_refl _)
    have:x≠y:=by rintro rfl;simp [preEx] at hc
    simp only [vqM,vt74,zA,zS,zM,zL,zE,zB,reduceCtorEq]
    rw [decide_eq_false this]
  simp only [preEx,Bool.or_eq_false_iff,decide_eq_false_iff_not,ne_eq,Classical.not_not] at hc
  obtain ⟨h1,h2,h3,h4⟩:=hc
  have hll:x.a.length=y.a.length:=by omega
  simp only [vqM,vt74,zA,zS,zM,zL,zE,zB,reduceCtorEq,exCells_len]
  refine awN_keep [2,3,5] ?_
  simp only [vke,zB,zA]
  refine awN_forR hmix x.a.length (fun k e s=>x.a.take k=y.a.take k∧e=[.junk,.junk,.box B.length 0,.box (B.length+1) 0,.junk,.int .i64 (k:Int),.junk,.junk,.junk,.junk,.junk,.junk,.junk,.junk,.junk,.junk,.junk,.junk,.junk,.junk,.junk,.junk,.junk,.junk,.junk,.junk,.junk,.junk,.junk,.junk,.junk,.junk,.junk,.junk,.junk,.junk,.junk,.junk,.junk,.junk,.junk,.junk,.junk,.junk,.junk,.junk,.junk,.junk,.junk,.junk,.junk,.junk,.junk]∧s=⟨B++[.cells x.cells,.cells y.cells],L,c⟩) ?_ ?_ 0 _ _ (Nat.zero_le _) ⟨rfl,rfl,rfl⟩
  · rintro k e s hk ⟨hI,rfl,rfl⟩ ihl
    have hkm:k<y.a.length:=by omega
    have hx:x.a[k]? = some x.a[k]:=List.getElem?_eq_getElem hk
    have hy:y.a[k]? = some y.a[k]:=List.getElem?_eq_getElem hkm
    have hg:(Ex.encs x.a)[k]? = some (x.a[k].cells):=by simp [Ex.encs_map,hx]
    have hh:(Ex.encs y.a)[k]? = some (y.a[k].cells):=by simp [Ex.encs_map,hy]
    have hklt:((k:Int)<(x.a.length:Int))=True:=by simp;exact hk
    have hpk:=ih _ (List.getElem_mem hk)
    generalize x.a[k]=xx at hx hg hpk
    generalize y.a[k]=yy at hy hh
    simp only [vqM,vt74,zA,zS,zM,zL,zE,zB,reduceCtorEq,exCells_len,hklt,decide_true,natle0,Int.toNat_natCast,hg,hh]
    refine callI_spec (hpk yy _) ?_
    simp only [vqM,vt74,zA,zS,zM,zL,zE,zB,reduceCtorEq,exCells_len,hklt,decide_true,natle0,Int.toNat_natCast,hg,hh]
    refine ifI_intro (fun hc=>?_) (fun hc=>?_)
    · simp only [vqM,vt74,zA,zS,zM,zL,zE,zB,reduceCtorEq]
      refine ret_loc (.inr rfl) ?_ (.bool _) (fun _ h=>h) (Nat.le_refl _)
      have:x≠y:=by
        rintro rfl
        rw [hx] at hy;cases hy
        simp at hc
      simp only [vqM,vt74,zA,zS,zM,zL,zE,zB,reduceCtorEq]
      rw [decide_eq_false this]
    · simp only [vqM,vt74,zA,zS,zM,zL,zE,zB,reduceCtorEq]
      rw [wrap_succ (by omega)]
      refine awN_keep [2,3,5] ?_
      simp only [vke,zB,zA]
      have hc':xx=yy:=by simpa using hc
      subst hc'
      refine ihl _ _ ⟨?_,rfl,rfl⟩
      rw [List.take_add_one,List.take_add_one,hx,hy,hI]
  · rintro e s ⟨hI,rfl,rfl⟩
    have hklt:((x.a.length:Int)<(x.a.length:Int))=False:=by simp
    rw [List.take_length,hll,List.take_length] at hI
    simp only [vqM,vt74,zA,zS,zM,zL,zE,zB,reduceCtorEq,exCells_len,hklt,decide_false]
    refine ret_loc (.inr rfl) ?_ (.bool _) (fun _ h=>h) (Nat.le_refl _)
    simp only [vqM,vt74,zA,zS,zM,zL,zE,zB,reduceCtorEq]
    have:x=y:=by rw [x.eta,y.eta,h1,h2,h3,hI]
    rw [decide_eq_true this]
mutual
theorem t_SameExprF:∀ (x y:Ex) (s:St),Spec Tryz.prog 87 [.agg x.cells,.agg y.cells] s (.bool (decide (x=y))) s
  | .mk op n v a,y,s=>t_SameExpr_of (.mk op n v a) (t_SameExprsF a) y s
theorem t_SameExprsF:∀ (l:List Ex),∀ z ∈ l,∀ (y:Ex) (s:St),Spec Tryz.prog 87 [.agg z.cells,.agg y.cells] s (.bool (decide (z=y))) s
  | [],z,h=>by simp at h
  | x::l,z,h=>by
    rcases List.mem_cons.1 h with e | h
    · rw [e];exact t_SameExprF x
    · exact t_SameExprsF l z h
end
def preCo (x y:Co):Bool:=decide (x.op≠y.op) || (decide ((x.a.length:Int)≠y.a.length) || decide ((x.c.length:Int)≠y.c.length))
theorem t_SameCond_of (x:Co) (ih:∀ z ∈ x.c,∀ (y:Co) (s:St),Spec Tryz.prog 88 [.agg z.cells,.agg y.cells] s (.bool (decide (z=y))) s) (y:Co) (s:St):Spec Tryz.prog 88 [.agg x.cells,.agg y.cells] s (.bool (decide (x=y))) s:=by
  refine Spec.small fun hsm=>?_
  have hlen:(Ex.encs x.a).length≤281474976710656:=(hsm _ (.head _)).sl (o:=.none) (by cases x;simp [Co.cells,Co.a])
  have hlen2:(Co.encs x.c).length≤281474976710656:=(hsm _ (.head _)).sl (o:=.none) (by cases x;simp [Co.cells,Co.c])
  rw [exCells_len] at hlen
  rw [coCells_len] at hlen2
  obtain ⟨B,L,c⟩:=s
  refine Spec.introN [(1,.cut)] Tryz.func88 rfl (by decide) hmix (by kernel_rfl) [ResultVar.tmp 4] 68 rfl rfl ?_
  simp only [vqM,vt83,Tryz.f88,zA,zS,zM,zL,zE,zB,reduceCtorEq]
  refine seq_join hmix [2,3,29] [.junk,.junk,.box B.length 0,.box (B.length+1) 0,.junk,.junk,.junk,.junk,.junk,.junk,.junk,.junk,.junk,.junk,.junk,.junk,.junk,.junk,.junk,.junk,.junk,.junk,.junk,.junk,.junk,.junk,.junk,.junk,.junk,.bool (preCo x y),.junk,.junk,.junk,.junk,.junk,.junk,.junk,.junk,.junk,.junk,.junk,.junk,.junk,.junk,.junk,.junk,.junk,.junk,.junk,.junk,.junk,.junk,.junk,.junk,.junk,.junk,.junk,.junk,.junk,.junk,.junk,.junk,.junk,.junk,.junk,.junk,.junk,.junk] (fun s=>s=⟨B++[.cells x.cells,.cells y.cells],L,c⟩) ?_ ?_
  · simp only [vqM,vt83,zA,zS,zM,zL,zE,zB,reduceCtorEq,exCells_len,coCells_len]
    repeat' (first
      | (with_reducible refine ifI_intro (fun hc=>?_) (fun hc=>?_) <;> simp only [vqM,vt83,hc,zA,zS,zM,zL,zE,zB,reduceCtorEq,exCells_len,coCells_len])
      | ((with_reducible refine is_q ?_);refine meet_intro ⟨?_,rfl⟩ <;> simp only [vke,zB,zA] <;> (first | (simp only [preCo, *,Bool.true_and,Bool.false_and,Bool.and_true,Bool.and_false,Bool.true_or,Bool.false_or,Bool.or_true,Bool.or_false,Bool.not_true,Bool.not_false,cond_true,cond_false,if_true,if_false];done) | (simp_all [preCo];done) | (simp_all [preCo];omega))))
  rintro s rfl
  simp only [vqM,vt83,zA,zS,zM,zL,zE,zB,reduceCtorEq,exCells_len,coCells_len]
  refine ifI_intro (fun hc=>?_) (fun hc=>?_)
  · simp only [vqM,vt83,zA,zS,zM,zL,zE,zB,reduceCtorEq,exCells_len,coCells_len]
    refine ret_loc (.inr rfl) ?_ (.bool _) (fun _ h=>h) (Nat.le_refl _)
    have:x≠y:=by rintro rfl;simp [preCo] at hc
    simp only [vqM,vt83,zA,zS,zM,zL,zE,zB,reduceCtorEq]
    rw [decide_eq_false this]
  simp only [preCo,Bool.or_eq_false_iff,decide_eq_false_iff_not,ne_eq,Classical.not_not] at hc
  obtain ⟨h1,h2,h3⟩:=hc
  have hll:x.a.length=y.a.length:=by omega
  have hll2:x.c.length=y.c.length:=by omega
  simp only [vqM,vt83,zA,zS,zM,zL,zE,zB,reduceCtorEq,exCells_len,coCells_len]
  refine awN_keep [2,3,5] ?_
  simp only [vke,zB,zA]
  refine awN_forR hmix x.a.length (fun k e s=>x.a.take k=y.a.take k∧e=[.junk,.junk,.box B.length 0,.box (B.length+1) 0,.junk,.int .i64 (k:Int),.junk,.junk,.junk,.junk,.junk,.junk,.junk,.junk,.junk,.junk,.junk,.junk,.junk,.junk,.junk,.junk,.junk,.junk,.junk,.junk,.junk,.junk,.junk,.junk,.junk,.junk,.junk,.junk,.junk,.junk,.junk,.junk,.junk,.junk,.junk,.junk,.junk,.junk,.junk,.junk,.junk,.junk,.junk,.junk,.junk,.junk,.junk,.junk,.junk,.junk,.junk,.junk,.junk,.junk,.junk,.junk,.junk,.junk,.junk,.junk,.junk,.junk]∧s=⟨B++[.cells x.cells,.cells y.cells],L,c⟩) ?_ ?_ 0 _ _ (Nat.zero_le _) ⟨rfl,rfl,rfl⟩
  · rintro k e s hk ⟨hI,rfl,rfl⟩ ihl
    have hkm:k<y.a.length:=by omega
    have hx:x.a[k]? = some x.a[k]:=List.getElem?_eq_getElem hk
    have hy:y.a[k]? = some y.a[k]:=List.getElem?_eq_getElem hkm
    have hg:(Ex.encs x.a)[k]? = some (x.a[k].cells):=by simp [Ex.encs_map,hx]
    have hh:(Ex.encs y.a)[k]? = some (y.a[k].cells):=by simp [Ex.encs_map,hy]
    have hklt:((k:Int)<(x.a.length:Int))=True:=by simp;exact hk
    generalize x.a[k]=xx at hx hg
    generalize y.a[k]=yy at hy hh
    simp only [vqM,vt83,zA,zS,zM,zL,zE,zB,reduceCtorEq,exCells_len,hklt,decide_true,natle0,Int.toNat_natCast,hg,hh,coCells_len]
    refine callI_spec (t_SameExprF xx yy _) ?_
    simp only [vqM,vt83,zA,zS,zM,zL,zE,zB,reduceCtorEq,exCells_len,hklt,decide_true,natle0,Int.toNat_natCast,hg,hh,coCells_len]
    refine ifI_intro (fun hc=>?_) (fun hc=>?_)
    · simp only [vqM,vt83,zA,zS,zM,zL,zE,zB,reduceCtorEq]
      refine ret_loc (.inr rfl) ?_ (.bool _) (fun _ h=>h) (Nat.le_refl _)
      have:x≠y:=by
        rintro rfl
        rw [hx] at hy;cases hy
        simp at hc
      simp only [vqM,vt83,zA,zS,zM,zL,zE,zB,reduceCtorEq]
      rw [decide_eq_false this]
    · simp only [vqM,vt83,zA,zS,zM,zL,zE,zB,reduceCtorEq]
      rw [wrap_succ (by omega)]
      refine awN_keep [2,3,5] ?_
      simp only [vke,zB,zA]
      have hc':xx=yy:=by simpa using hc
      subst hc'
      refine ihl _ _ ⟨?_,rfl,rfl⟩
      rw [List.take_add_one,List.take_add_one,hx,hy,hI]
  · rintro e s ⟨hI,rfl,rfl⟩
    have hklt:((x.a.length:Int)<(x.a.length:Int))=False:=by simp
    rw [List.take_length,hll,List.take_length] at hI
    simp only [vqM,vt83,zA,zS,zM,zL,zE,zB,reduceCtorEq,exCells_len,hklt,decide_false,coCells_len]
    have hIa:=hI
    clear hI
    refine awN_keep [2,3,6] ?_
    simp only [vke,zB,zA]
    refine awN_forR hmix x.c.length (fun k e s=>x.c.take k=y.c.take k∧e=[.junk,.junk,.box B.length 0,.box (B.length+1) 0,.junk,.junk,.int .i64 (k:Int),.junk,.junk,.junk,.junk,.junk,.junk,.junk,.junk,.junk,.junk,.junk,.junk,.junk,.junk,.junk,.junk,.junk,.junk,.junk,.junk,.junk,.junk,.junk,.junk,.junk,.junk,.junk,.junk,.junk,.junk,.junk,.junk,.junk,.junk,.junk,.junk,.junk,.junk,.junk,.junk,.junk,.junk,.junk,.junk,.junk,.junk,.junk,.junk,.junk,.junk,.junk,.junk,.junk,.junk,.junk,.junk,.junk,.junk,.junk,.junk,.junk]∧s=⟨B++[.cells x.cells,.cells y.cells],L,c⟩) ?_ ?_ 0 _ _ (Nat.zero_le _) ⟨rfl,rfl,rfl⟩
    · rintro k e s hk ⟨hI,rfl,rfl⟩ ihl
      have hkm:k<y.c.length:=by omega
      have hx:x.c[k]? = some x.c[k]:=List.getElem?_eq_getElem hk
      have hy:y.c[k]? = some y.c[k]:=List.getElem?_eq_getElem hkm
      have hg:(Co.encs x.c)[k]? = some (x.c[k].cells):=by simp [Co.encs_map,hx]
      have hh:(Co.encs y.c)[k]? = some (y.c[k].cells):=by simp [Co.encs_map,hy]
      have hklt:((k:Int)<(x.c.length:Int))=True:=by simp;exact hk
      have hpk:=ih _ (List.getElem_mem hk)
      generalize x.c[k]=xx at hx hg hpk
      generalize y.c[k]=yy at hy hh
      simp only [vqM,vt83,zA,zS,zM,zL,zE,zB,reduceCtorEq,coCells_len,hklt,decide_true,natle0,Int.toNat_natCast,hg,hh]
      refine callI_spec (hpk yy _) ?_
      simp only [vqM,vt83,zA,zS,zM,zL,zE,zB,reduceCtorEq,coCells_len,hklt,decide_true,natle0,Int.toNat_natCast,hg,hh]
      refine ifI_intro (fun hc=>?_) (fun hc=>?_)
      · simp only [vqM,vt83,zA,zS,zM,zL,zE,zB,reduceCtorEq]
        refine ret_loc (.inr rfl) ?_ (.bool _) (fun _ h=>h) (Nat.le_refl _)
        have:x≠y:=by
          rintro rfl
          rw [hx] at hy;cases hy
          simp at hc
        simp only [vqM,vt83,zA,zS,zM,zL,zE,zB,reduceCtorEq]
        rw [decide_eq_false this]
      · simp only [vqM,vt83,zA,zS,zM,zL,zE,zB,reduceCtorEq]
        rw [wrap_succ (by omega)]
        refine awN_keep [2,3,6] ?_
        simp only [vke,zB,zA]
        have hc':xx=yy:=by simpa using hc
        subst hc'
        refine ihl _ _ ⟨?_,rfl,rfl⟩
        rw [List.take_add_one,List.take_add_one,hx,hy,hI]
    · rintro e s ⟨hI,rfl,rfl⟩
      have hklt:((x.c.length:Int)<(x.c.length:Int))=False:=by simp
      rw [List.take_length,hll2,List.take_length] at hI
      simp only [vqM,vt83,zA,zS,zM,zL,zE,zB,reduceCtorEq,coCells_len,hklt,decide_false]
      refine ret_loc (.inr rfl) ?_ (.bool _) (fun _ h=>h) (Nat.le_refl _)
      simp only [vqM,vt83,zA,zS,zM,zL,zE,zB,reduceCtorEq]
      have:x=y:=by rw [x.eta,y.eta,h1,hIa,hI]
      rw [decide_eq_true this]
mutual
theorem t_SameCondF:∀ (x y:Co) (s:St),Spec Tryz.prog 88 [.agg x.cells,.agg y.cells] s (.bool (decide (x=y))) s
  | .mk op a c,y,s=>t_SameCond_of (.mk op a c) (t_SameCondsF c) y s
theorem t_SameCondsF:∀ (l:List Co),∀ z ∈ l,∀ (y:Co) (s:St),Spec Tryz.prog 88 [.agg z.cells,.agg y.cells] s (.bool (decide (z=y))) s
  | [],z,h=>by simp at h
  | x::l,z,h=>by
    rcases List.mem_cons.1 h with e | h
    · rw [e];exact t_SameCondF x
    · exact t_SameCondsF l z h
end
def preSm (x y:Sm):Bool:=decide (x.site≠y.site) || (decide (x.op≠y.op) || (decide (x.n≠y.n) || (decide (x.m≠y.m) || (decide (x.v≠y.v) || (!decide (x.x=y.x) || (!decide (x.y=y.y) || (!decide (x.c=y.c) || (!decide (x.ptrs=y.ptrs) || (!decide (x.body=y.body) || (!decide (x.els=y.els) || decide ((x.args.length:Int)≠y.args.length)))))))))))
def SmSt (l m:List Sm) (k0:Nat) (nx ny:Sm) (B1:List Box) (L:List Nat) (c:Nat) (e:List D) (s:St):Prop:=∃ i j C,e=[.slice .none (Sm.encs l),.slice .none (Sm.encs m),.junk,.junk,.junk,.int .i64 (k0:Int),.box i 0,.box j 0,.junk,.junk,.junk,.junk,.junk,.junk,.int .i64 (k0:Int),.slice .none (Sm.encs l),.int .i64 (l.length:Int),.bool true,.junk,.junk,.slice .none (Sm.encs l),.int .i64 (k0:Int),.pin nx.cells,.agg nx.cells,.slice .none (Sm.encs m),.int .i64 (k0:Int),.pin ny.cells,.agg ny.cells,.junk,.junk,.junk,.junk,.junk,.junk,.junk,.junk,.junk,.junk,.junk,.junk,.junk,.junk,.junk,.junk,.junk,.junk,.junk,.junk,.junk,.junk,.junk,.junk,.junk,.junk,.junk,.junk,.junk,.junk,.junk,.junk,.junk,.junk,.junk,.junk,.junk,.junk,.junk,.junk,.junk,.junk,.junk,.junk,.junk,.junk,.junk,.junk,.junk,.junk,.junk,.junk,.junk,.junk,.junk,.junk,.junk,.junk,.junk,.junk,.junk,.junk,.junk,.junk,.junk,.junk,.junk,.junk,.junk,.junk,.junk,.junk,.junk,.junk,.junk,.junk,.junk,.junk,.junk,.junk,.junk,.junk,.junk,.junk,.junk,.junk,.junk,.junk,.junk,.junk,.junk,.junk,.junk,.junk,.junk,.junk,.junk,.junk,.junk,.junk,.junk,.junk,.junk,.junk,.junk,.junk,.junk,.junk,.junk]∧s=⟨B1++C,L,c⟩∧(B1++C)[i]? = some (.cells nx.cells)∧(B1++C)[j]? = some (.cells ny.cells)
theorem smSt_mk {l m:List Sm} {k0:Nat} {nx ny:Sm} {B1:List Box} {L:List Nat} {c i j:Nat} {C:List Box} {e:List D} {s:St} (h1:e=[.slice .none (Sm.encs l),.slice .none (Sm.encs m),.junk,.junk,.junk,.int .i64 (k0:Int),.box i 0,.box j 0,.junk,.junk,.junk,.junk,.junk,.junk,.int .i64 (k0:Int),.slice .none (Sm.encs l),.int .i64 (l.length:Int),.bool true,.junk,.junk,.slice .none (Sm.encs l),.int .i64 (k0:Int),.pin nx.cells,.agg nx.cells,.slice .none (Sm.encs m),.int .i64 (k0:Int),.pin ny.cells,.agg ny.cells,.junk,.junk,.junk,.junk,.junk,.junk,.junk,.junk,.junk,.junk,.junk,.junk,.junk,.junk,.junk,.junk,.junk,.junk,.junk,.junk,.junk,.junk,.junk,.junk,.junk,.junk,.junk,.junk,.junk,.junk,.junk,.junk,.junk,.junk,.junk,.junk,.junk,.junk,.junk,.junk,.junk,.junk,.junk,.junk,.junk,.junk,.junk,.junk,.junk,.junk,.junk,.junk,.junk,.junk,.junk,.junk,.junk,.junk,.junk,.junk,.junk,.junk,.junk,.junk,.junk,.junk,.junk,.junk,.junk,.junk,.junk,.junk,.junk,.junk,.junk,.junk,.junk,.junk,.junk,.junk,.junk,.junk,.junk,.junk,.junk,.junk,.junk,.junk,.junk,.junk,.junk,.junk,.junk,.junk,.junk,.junk,.junk,.junk,.junk,.junk,.junk,.junk,.junk,.junk,.junk,.junk,.junk,.junk,.junk]) (h2:s=⟨B1++C,L,c⟩) (h3:(B1++C)[i]? = some (.cells nx.cells)) (h4:(B1++C)[j]? = some (.cells ny.cells)):SmSt l m k0 nx ny B1 L c e s:=⟨i,j,C,h1,h2,h3,h4⟩
theorem t_SameStmts_of (l:List Sm) (ih:∀ z ∈ l,(∀ (m:List Sm) (s:St),Spec Tryz.prog 45 [.slice .none (Sm.encs z.body),.slice .none (Sm.encs m)] s (.bool (decide (z.body=m))) s)∧(∀ (m:List Sm) (s:St),Spec Tryz.prog 45 [.slice .none (Sm.encs z.els),.slice .none (Sm.encs m)] s (.bool (decide (z.els=m))) s)) (m:List Sm) (s:St) :
    Spec Tryz.prog 45 [.slice .none (Sm.encs l),.slice .none (Sm.encs m)] s (.bool (decide (l=m))) s:=by
  refine Spec.small fun hsm=>?_
  have hlen:=(hsm _ (.head _)).len
  rw [smCells_len] at hlen
  have harg:∀ z ∈ l,z.args.length≤281474976710656:=fun z hz=>by
    have h1:=(hsm _ (.head _)).elem (x:=z.cells) (by rw [Sm.encs_map];exact List.mem_map.2 ⟨z,hz,rfl⟩) (.slice .none (Ex.encs z.args)) (by cases z;simp [Sm.cells,Sm.args])
    have:=h1.len
    rwa [exCells_len] at this
  clear hsm
  obtain ⟨B,L,c⟩:=s
  refine Spec.introN [(6,.stop),(7,.cut)] Tryz.func45 rfl (by decide) hmix (by kernel_rfl) [ResultVar.tmp 4] 137 rfl rfl ?_
  simp only [vqM,vt84,Tryz.f45,zA,zS,zM,zL,zE,zB,reduceCtorEq,smCells_len]
  refine ifI_intro (fun hc=>?_) (fun hc=>?_)
  · simp only [vqM,vt84,zA,zS,zM,zL,zE,zB,reduceCtorEq,smCells_len]
    refine ret_here (.inr rfl) ?_ (.bool _)
    have:l≠m:=by rintro rfl;simp at hc
    simp only [vqM,vt84,zA,zS,zM,zL,zE,zB,reduceCtorEq]
    rw [decide_eq_false this]
  have hll:l.length=m.length:=by simp at hc;omega
  simp only [vqM,vt84,zA,zS,zM,zL,zE,zB,reduceCtorEq,smCells_len]
  refine awN_keep [0,1,5] ?_
  simp only [vke,zB,zA]
  refine awN_forR hmix l.length (fun k e s=>l.take k=m.take k∧e=[.slice .none (Sm.encs l),.slice .none (Sm.encs m),.junk,.junk,.junk,.int .i64 (k:Int),.junk,.junk,.junk,.junk,.junk,.junk,.junk,.junk,.junk,.junk,.junk,.junk,.junk,.junk,.junk,.junk,.junk,.junk,.junk,.junk,.junk,.junk,.junk,.junk,.junk,.junk,.junk,.junk,.junk,.junk,.junk,.junk,.junk,.junk,.junk,.junk,.junk,.junk,.junk,.junk,.junk,.junk,.junk,.junk,.junk,.junk,.junk,.junk,.junk,.junk,.junk,.junk,.junk,.junk,.junk,.junk,.junk,.junk,.junk,.junk,.junk,.junk,.junk,.junk,.junk,.junk,.junk,.junk,.junk,.junk,.junk,.junk,.junk,.junk,.junk,.junk,.junk,.junk,.junk,.junk,.junk,.junk,.junk,.junk,.junk,.junk,.junk,.junk,.junk,.junk,.junk,.junk,.junk,.junk,.junk,.junk,.junk,.junk,.junk,.junk,.junk,.junk,.junk,.junk,.junk,.junk,.junk,.junk,.junk,.junk,.junk,.junk,.junk,.junk,.junk,.junk,.junk,.junk,.junk,.junk,.junk,.junk,.junk,.junk,.junk,.junk,.junk,.junk,.junk,.junk,.junk]∧∃ X,s=⟨B++X,L,c⟩) ?_ ?_ 0 _ _ (Nat.zero_le _) ⟨rfl,rfl,[],by rw [List.append_nil]⟩
  · rintro k0 e s hk0 ⟨hI0,rfl,X,rfl⟩ ihl0
    have hkm:k0<m.length:=by omega
    have hx0:l[k0]? = some l[k0]:=List.getElem?_eq_getElem hk0
    have hy0:m[k0]? = some m[k0]:=List.getElem?_eq_getElem hkm
    have hg:(Sm.encs l)[k0]? = some (l[k0].cells):=by simp [Sm.encs_map,hx0]
    have hh:(Sm.encs m)[k0]? = some (m[k0].cells):=by simp [Sm.encs_map,hy0]
    have hklt:((k0:Int)<(l.length:Int))=True:=by simp;exact hk0
    have hpk:=ih _ (List.getElem_mem hk0)
    have hal:=harg _ (List.getElem_mem hk0)
    generalize l[k0]=nx at hx0 hg hpk hal
    generalize m[k0]=ny at hy0 hh
    have hneq:nx≠ny→l≠m:=by
      rintro hn rfl
      rw [hx0] at hy0;cases hy0;exact hn rfl
    obtain ⟨B1,hB1⟩:∃ B1,B1=B++X:=⟨_,rfl⟩
    rw [← hB1]
    simp only [vqM,vt84,zA,zS,zM,zL,zE,zB,reduceCtorEq,smCells_len,exCells_len,hklt,decide_true,natle0,Int.toNat_natCast,hg,hh]
    refine awI_cutI (SmSt l m k0 nx ny B1 L c) ?_ ?_
    · skip
      refine awI_drawM hmix [8,9,10,11] [⟨[0,1,2,3,4,5,6,7,8,9,10,11],[(3,1),(3,2),(7,1),(7,2),(7,3)]⟩,⟨[0,1,2,3,4,5,6,7,9,8,10,11],[(3,1),(3,2),(7,1),(7,2),(7,3)]⟩] (by kernel_rfl) fun pl hpl=>?_
      simp only [List.mem_cons,List.not_mem_nil,or_false] at hpl
      rcases hpl with rfl | rfl
      all_goals
        simp only [vqM,vt84,zA,zS,zM,zL,zE,zB,reduceCtorEq,natle0,Int.toNat_natCast,hg,hh,List.getD_cons_zero,List.getD_cons_succ,List.contains_cons,List.contains_nil,Bool.or_false,Bool.or_true,Bool.true_or,Bool.false_or]
      all_goals
        refine meet_intro ?_
        apply smSt_mk
        · rfl
        · rfl
        all_goals (first | (simp only [box_at,box_at0,List.getElem?_cons_succ,List.getElem?_cons_zero];done) | (simp only [zA,box_at];rfl) | trace_state)
    rintro e s ⟨i6,i7,C,rfl,rfl,gi,gj⟩
    obtain ⟨B2,hB2⟩:∃ B2,B2=B1++C:=⟨_,rfl⟩
    rw [← hB2] at gi gj ⊢
    have hX2:∃ X2,B2=B++X2:=⟨X++C,by rw [hB2,hB1,List.append_assoc]⟩
    clear hg hh hklt hB1 hB2
    obtain ⟨X2,rfl⟩:=hX2
    simp only [vqM,vt84,zA,zS,zM,zL,zE,zB,reduceCtorEq]
    refine seq_join hmix [0,1,5,6,7,117] [.slice .none (Sm.encs l),.slice .none (Sm.encs m),.junk,.junk,.junk,.int .i64 (k0:Int),.box i6 0,.box i7 0,.junk,.junk,.junk,.junk,.junk,.junk,.junk,.junk,.junk,.junk,.junk,.junk,.junk,.junk,.junk,.junk,.junk,.junk,.junk,.junk,.junk,.junk,.junk,.junk,.junk,.junk,.junk,.junk,.junk,.junk,.junk,.junk,.junk,.junk,.junk,.junk,.junk,.junk,.junk,.junk,.junk,.junk,.junk,.junk,.junk,.junk,.junk,.junk,.junk,.junk,.junk,.junk,.junk,.junk,.junk,.junk,.junk,.junk,.junk,.junk,.junk,.junk,.junk,.junk,.junk,.junk,.junk,.junk,.junk,.junk,.junk,.junk,.junk,.junk,.junk,.junk,.junk,.junk,.junk,.junk,.junk,.junk,.junk,.junk,.junk,.junk,.junk,.junk,.junk,.junk,.junk,.junk,.junk,.junk,.junk,.junk,.junk,.junk,.junk,.junk,.junk,.junk,.junk,.junk,.junk,.junk,.junk,.junk,.junk,.bool (preSm nx ny),.junk,.junk,.junk,.junk,.junk,.junk,.junk,.junk,.junk,.junk,.junk,.junk,.junk,.junk,.junk,.junk,.junk,.junk,.junk] (fun s=>s=⟨B++X2,L,c⟩) ?_ ?_
    · simp only [vqM,vt84,zA,zS,zM,zL,zE,zB,reduceCtorEq,smCells_len,exCells_len,gi,gj]
      repeat' (first
        | ((with_reducible refine is_call ?_);refine callI_spec (t_SameExprF _ _ _) ?_;simp only [vqM,vt84,zA,zS,zM,zL,zE,zB,reduceCtorEq,smCells_len,exCells_len,gi,gj])
        | ((with_reducible refine is_call ?_);refine callI_spec (t_SameCondF _ _ _) ?_;simp only [vqM,vt84,zA,zS,zM,zL,zE,zB,reduceCtorEq,smCells_len,exCells_len,gi,gj])
        | ((with_reducible refine is_call ?_);refine callI_spec (t_SameInts _ _ _) ?_;simp only [vqM,vt84,zA,zS,zM,zL,zE,zB,reduceCtorEq,smCells_len,exCells_len,gi,gj])
        | ((with_reducible refine is_call ?_);refine callI_spec (hpk.1 _ _) ?_;simp only [vqM,vt84,zA,zS,zM,zL,zE,zB,reduceCtorEq,smCells_len,exCells_len,gi,gj])
        | ((with_reducible refine is_call ?_);refine callI_spec (hpk.2 _ _) ?_;simp only [vqM,vt84,zA,zS,zM,zL,zE,zB,reduceCtorEq,smCells_len,exCells_len,gi,gj])
        | (with_reducible refine ifI_intro (fun hc=>?_) (fun hc=>?_) <;> simp only [vqM,vt84,hc,zA,zS,zM,zL,zE,zB,reduceCtorEq,smCells_len,exCells_len,gi,gj])
        | ((with_reducible refine is_q ?_);refine meet_intro ⟨?_,rfl⟩ <;> simp only [vke,zB,zA] <;> (first | (simp only [preSm, *,Bool.true_and,Bool.false_and,Bool.and_true,Bool.and_false,Bool.true_or,Bool.false_or,Bool.or_true,Bool.or_false,Bool.not_true,Bool.not_false,cond_true,cond_false,if_true,if_false];done) | (simp_all [preSm];done) | (simp_all [preSm];omega))))
    rintro s rfl
    simp only [vqM,vt84,zA,zS,zM,zL,zE,zB,reduceCtorEq]
    refine ifI_intro (fun hc=>?_) (fun hc=>?_)
    · simp only [vqM,vt84,zA,zS,zM,zL,zE,zB,reduceCtorEq]
      refine ret_loc (.inr rfl) ?_ (.bool _) (fun _ h=>h) (Nat.le_refl _)
      have:l≠m:=hneq (by rintro rfl;simp [preSm] at hc)
      simp only [vqM,vt84,zA,zS,zM,zL,zE,zB,reduceCtorEq]
      rw [decide_eq_false this]
    simp only [preSm,Bool.or_eq_false_iff,Bool.not_eq_false',decide_eq_false_iff_not,decide_eq_true_eq,ne_eq,Classical.not_not] at hc
    obtain ⟨q1,q2,q3,q4,q5,q6,q7,q8,q9,q10,q11,q12⟩:=hc
    have hll2:nx.args.length=ny.args.length:=by omega
    simp only [vqM,vt84,zA,zS,zM,zL,zE,zB,reduceCtorEq,exCells_len]
    refine awN_keep [0,1,5,6,7,8] ?_
    simp only [vke,zB,zA]
    refine awN_forR hmix nx.args.length (fun k e s=>nx.args.take k=ny.args.take k∧e=[.slice .none (Sm.encs l),.slice .none (Sm.encs m),.junk,.junk,.junk,.int .i64 (k0:Int),.box i6 0,.box i7 0,.int .i64 (k:Int),.junk,.junk,.junk,.junk,.junk,.junk,.junk,.junk,.junk,.junk,.junk,.junk,.junk,.junk,.junk,.junk,.junk,.junk,.junk,.junk,.junk,.junk,.junk,.junk,.junk,.junk,.junk,.junk,.junk,.junk,.junk,.junk,.junk,.junk,.junk,.junk,.junk,.junk,.junk,.junk,.junk,.junk,.junk,.junk,.junk,.junk,.junk,.junk,.junk,.junk,.junk,.junk,.junk,.junk,.junk,.junk,.junk,.junk,.junk,.junk,.junk,.junk,.junk,.junk,.junk,.junk,.junk,.junk,.junk,.junk,.junk,.junk,.junk,.junk,.junk,.junk,.junk,.junk,.junk,.junk,.junk,.junk,.junk,.junk,.junk,.junk,.junk,.junk,.junk,.junk,.junk,.junk,.junk,.junk,.junk,.junk,.junk,.junk,.junk,.junk,.junk,.junk,.junk,.junk,.junk,.junk,.junk,.junk,.junk,.junk,.junk,.junk,.junk,.junk,.junk,.junk,.junk,.junk,.junk,.junk,.junk,.junk,.junk,.junk,.junk,.junk,.junk,.junk]∧s=⟨B++X2,L,c⟩) ?_ ?_ 0 _ _ (Nat.zero_le _) ⟨rfl,rfl,rfl⟩
    · rintro k e s hk ⟨hI,rfl,rfl⟩ ihl
      have hkm:k<ny.args.length:=by omega
      have hx:nx.args[k]? = some nx.args[k]:=List.getElem?_eq_getElem hk
      have hy:ny.args[k]? = some ny.args[k]:=List.getElem?_eq_getElem hkm
      have hg:(Ex.encs nx.args)[k]? = some (nx.args[k].cells):=by simp [Ex.encs_map,hx]
      have hh:(Ex.encs ny.args)[k]? = some (ny.args[k].cells):=by simp [Ex.encs_map,hy]
      have hklt:((k:Int)<(nx.args.length:Int))=True:=by simp;exact hk
      generalize nx.args[k]=xx at hx hg
      generalize ny.args[k]=yy at hy hh
      simp only [vqM,vt84,zA,zS,zM,zL,zE,zB,reduceCtorEq,exCells_len,hklt,decide_true,natle0,Int.toNat_natCast,hg,hh,gi,gj]
      refine callI_spec (t_SameExprF xx yy _) ?_
      simp only [vqM,vt84,zA,zS,zM,zL,zE,zB,reduceCtorEq,exCells_len,hklt,decide_true,natle0,Int.toNat_natCast,hg,hh,gi,gj]
      refine ifI_intro (fun hc=>?_) (fun hc=>?_)
      · simp only [vqM,vt84,zA,zS,zM,zL,zE,zB,reduceCtorEq]
        refine ret_loc (.inr rfl) ?_ (.bool _) (fun _ h=>h) (Nat.le_refl _)
        have:l≠m:=by
          refine hneq ?_
          rintro rfl
          rw [hx] at hy;cases hy
          simp at hc
        simp only [vqM,vt84,zA,zS,zM,zL,zE,zB,reduceCtorEq]
        rw [decide_eq_false this]
      · simp only [vqM,vt84,zA,zS,zM,zL,zE,zB,reduceCtorEq]
        rw [wrap_succ (by omega)]
        refine awN_keep [0,1,5,6,7,8] ?_
        simp only [vke,zB,zA]
        have hc':xx=yy:=by simpa using hc
        subst hc'
        refine ihl _ _ ⟨?_,rfl,rfl⟩
        rw [List.take_add_one,List.take_add_one,hx,hy,hI]
    · rintro e s ⟨hI,rfl,rfl⟩
      have hklt:((nx.args.length:Int)<(nx.args.length:Int))=False:=by simp
      rw [List.take_length,hll2,List.take_length] at hI
      simp only [vqM,vt84,zA,zS,zM,zL,zE,zB,reduceCtorEq,exCells_len,hklt,decide_false,gi,gj]
      rw [wrap_succ (by omega)]
      refine awN_keep [0,1,5] ?_
      simp only [vke,zB,zA]
      have:nx=ny:=by rw [nx.eta,ny.eta,q1,q2,q3,q4,q5,q6,q7,q8,hI,q9,q10,q11]
      refine ihl0 _ _ ⟨?_,rfl,X2,rfl⟩
      rw [List.take_add_one,List.take_add_one,hx0,hy0,hI0,this]
  · rintro e s ⟨hI,rfl,X,rfl⟩
    have hklt:((l.length:Int)<(l.length:Int))=False:=by simp
    rw [List.take_length,hll,List.take_length] at hI
    simp only [vqM,vt84,zA,zS,zM,zL,zE,zB,reduceCtorEq,smCells_len,hklt,decide_false]
    refine ret_loc (.inr rfl) ?_ (.bool _) (fun _ h=>h) (Nat.le_refl _)
    simp only [vqM,vt84,zA,zS,zM,zL,zE,zB,reduceCtorEq]
    rw [decide_eq_true hI]
mutual
theorem t_StmtInF:∀ z:Sm,(∀ (m:List Sm) (s:St),Spec Tryz.prog 45 [.slice .none (Sm.encs z.body),.slice .none (Sm.encs m)] s (.bool (decide (z.body=m))) s)∧(∀ (m:List Sm) (s:St),Spec Tryz.prog 45 [.slice .none (Sm.encs z.els),.slice .none (Sm.encs m)] s (.bool (decide (z.els=m))) s)
  | .mk site op n m v a b c args ptrs body els=>⟨t_SameStmts_of body (t_StmtsInF body),t_SameStmts_of els (t_StmtsInF els)⟩
theorem t_StmtsInF:∀ l:List Sm,∀ z ∈ l,(∀ (m:List Sm) (s:St),Spec Tryz.prog 45 [.slice .none (Sm.encs z.body),.slice .none (Sm.encs m)] s (.bool (decide (z.body=m))) s)∧(∀ (m:List Sm) (s:St),Spec Tryz.prog 45 [.slice .none (Sm.encs z.els),.slice .none (Sm.encs m)] s (.bool (decide (z.els=m))) s)
  | [],z,h=>by simp at h
  | x::l,z,h=>by
    rcases List.mem_cons.1 h with e | h
    · rw [e];exact t_StmtInF x
    · exact t_StmtsInF l z h
end
theorem t_SameStmtsF (l m:List Sm) (s:St):Spec Tryz.prog 45 [.slice .none (Sm.encs l),.slice .none (Sm.encs m)] s (.bool (decide (l=m))) s:=t_SameStmts_of l (t_StmtsInF l) m s
def openE (p:Pg) (h:Hd):En:=⟨true,(findS p h.id).isSome,h,(findS p h.id).getD Df.zero,Dc.zero,[]⟩
def entE (p:Pg) (id:Int):En :=
  if id=0 then ⟨false,false,Hd.zero,Df.zero,p.d,p.threads⟩ else
  match headS p id with
  | none=>En.zero
  | some h=>openE p h
def idsS (p:Pg):List Int:=0::p.heads.map (·.id)
def keysS (l:List Pg):List Int:=compL (sortI (l.flatMap idsS))
def changedS (p q:Pg):List Int:=(keysS [p,q]).filter fun id=>!decide (entE p id=entE q id)
def agreeE (x y z:En):Bool:=decide (y=z) || decide (x=z) || decide (x=y)
def pickE (x y z:En):En:=if decide (y=z) || decide (x=z) then y else if decide (x=y) then z else y
def addE (o:Pg) (id:Int) (e:En):Pg :=
  { d:=if id=0 then e.decl else o.d,threads:=if id=0 then e.threads else o.threads,heads:=if e.head then o.heads++[e.h] else o.heads,defs:=if e.opn then o.defs++[e.d] else o.defs }
def pickAt (p a b:Pg) (id:Int):En:=pickE (entE p id) (entE a id) (entE b id)
def foldE (f:Int→En) (l:List Int):Pg:=l.foldl (fun o id=>addE o id (f id)) Pg.zero
def mergedS (p a b:Pg):Pg:=foldE (pickAt p a b) (keysS [p,a,b])
def conflS (p a b:Pg):List Int:=(keysS [p,a,b]).filter fun id=>!agreeE (entE p id) (entE a id) (entE b id)
def threeS (p a b:Pg):Pg × List Int × Int :=
  if (conflS p a b).length > 0 then (Pg.zero,conflS p a b,270) else if programS (mergedS p a b)≠0 then (Pg.zero,[],programS (mergedS p a b)) else (mergedS p a b,[],0)
theorem sortI_perm (l:List Int):(sortI l).Perm l:=List.mergeSort_perm _ _
theorem sortI_congr {l m:List Int} (h:l.Perm m):sortI l=sortI m :=
  (sortI_of ((sortI_perm l).trans h) ((List.pairwise_mergeSort (fun a b c h1 h2=>by simp at *;omega) (fun a b=>by simp;omega) l).imp fun h=>by simpa using h))
theorem sortI_sorted (l:List Int):(sortI l).Pairwise (· ≤ ·):=(List.pairwise_mergeSort (fun a b c h1 h2=>by simp at *;omega) (fun a b=>by simp;omega) l).imp fun h=>by simpa using h
theorem compL_lt:∀ l:List Int,l.Pairwise (· ≤ ·)→(compL l).Pairwise (· < ·)
  | [],_=>by simp [compL]
  | [x],_=>by simp [compL]
  | x::y::l,h=>by
    obtain ⟨h1,h2⟩:=List.pairwise_cons.1 h
    have ih:=compL_lt (y::l) h2
    simp only [compL]
    split
    · exact ih
    · rename_i hne
      refine List.pairwise_cons.2 ⟨fun z hz=>?_,ih⟩
      have hz':=(mem_compL z (y::l)).1 hz
      have hxy:=h1 y (by simp)
      rcases List.mem_cons.1 hz' with rfl | hz'
      · omega
      · have:=(List.pairwise_cons.1 h2).1 z hz';omega
theorem keys_lt (l:List Pg):(keysS l).Pairwise (· < ·):=compL_lt _ (sortI_sorted _)
theorem mem_keys {l:List Pg} {id:Int}:id ∈ keysS l ↔ ∃ p ∈ l,id ∈ idsS p:=by
  rw [keysS,mem_compL,(sortI_perm _).mem_iff,List.mem_flatMap]
theorem keys_perm {l m:List Pg} (h:l.Perm m):keysS l=keysS m:=by
  rw [keysS,keysS,sortI_congr (h.flatMap_right idsS)]
theorem lt_ext:∀ {l m:List Int},l.Pairwise (· < ·)→m.Pairwise (· < ·)→(∀ x,x ∈ l↔x ∈ m)→l=m
  | [],[],_,_,_=>rfl
  | [],y::m,_,_,h=>absurd ((h y).2 (by simp)) (by simp)
  | x::l,[],_,_,h=>absurd ((h x).1 (by simp)) (by simp)
  | x::l,y::m,h1,h2,h=>by
    obtain ⟨a1,a2⟩:=List.pairwise_cons.1 h1
    obtain ⟨b1,b2⟩:=List.pairwise_cons.1 h2
    have e:x=y:=by
      have m1:=(h x).1 (by simp)
      have m2:=(h y).2 (by simp)
      rcases List.mem_cons.1 m1 with e | m1
      · exact e
      · rcases List.mem_cons.1 m2 with e | m2
        · exact e.symm
        · have:=a1 y m2;have:=b1 x m1;omega
    subst e
    refine congrArg _ (lt_ext a2 b2 fun z=>?_)
    have hz:=h z
    constructor
    · intro hm
      have:=a1 z hm
      rcases List.mem_cons.1 (hz.1 (by simp [hm])) with e | e
      · omega
      · exact e
    · intro hm
      have:=b1 z hm
      rcases List.mem_cons.1 (hz.2 (by simp [hm])) with e | e
      · omega
      · exact e
theorem zero_keys {l:List Pg} (h:l≠[]):(0:Int) ∈ keysS l:=by
  obtain ⟨p,m,rfl⟩:=List.exists_cons_of_ne_nil h
  exact mem_keys.2 ⟨p,by simp,by simp [idsS]⟩
theorem foldE_heads (f:Int→En):∀ (l:List Int) (o:Pg),(l.foldl (fun o id=>addE o id (f id)) o).heads=o.heads++l.filterMap fun id=>if (f id).head then some (f id).h else none
  | [],o=>by simp
  | id::l,o=>by
    rw [List.foldl_cons,foldE_heads f l,List.filterMap_cons]
    cases h:(f id).head <;> simp [addE,h]
theorem foldE_defs (f:Int→En):∀ (l:List Int) (o:Pg),(l.foldl (fun o id=>addE o id (f id)) o).defs=o.defs++l.filterMap fun id=>if (f id).opn then some (f id).d else none
  | [],o=>by simp
  | id::l,o=>by
    rw [List.foldl_cons,foldE_defs f l,List.filterMap_cons]
    cases h:(f id).opn <;> simp [addE,h]
theorem foldE_d (f:Int→En):∀ (l:List Int) (o:Pg),(l.foldl (fun o id=>addE o id (f id)) o).d=if (0:Int) ∈ l then (f 0).decl else o.d
  | [],o=>by simp
  | id::l,o=>by
    rw [List.foldl_cons,foldE_d f l]
    by_cases h:(0:Int) ∈ l
    · simp [h]
    · by_cases e:id=0
      · subst e;simp [h,addE]
      · have:¬ (0:Int)=id:=fun h=>e h.symm
        simp [h,addE,e,this]
theorem foldE_t (f:Int→En):∀ (l:List Int) (o:Pg),(l.foldl (fun o id=>addE o id (f id)) o).threads=if (0:Int) ∈ l then (f 0).threads else o.threads
  | [],o=>by simp
  | id::l,o=>by
    rw [List.foldl_cons,foldE_t f l]
    by_cases h:(0:Int) ∈ l
    · simp [h]
    · by_cases e:id=0
      · subst e;simp [h,addE]
      · have:¬ (0:Int)=id:=fun h=>e h.symm
        simp [h,addE,e,this]
theorem Pg.ext4 {a b:Pg} (h1:a.d=b.d) (h2:a.heads=b.heads) (h3:a.defs=b.defs) (h4:a.threads=b.threads):a=b:=by
  cases a;cases b;simp at *;exact ⟨h1,h2,h3,h4⟩
theorem foldE_congr {f g:Int→En} {l:List Int} (h:∀ id ∈ l,f id=g id):foldE f l=foldE g l:=by
  unfold foldE
  generalize Pg.zero=o
  induction l generalizing o with
  | nil=>rfl
  | cons id l ih=>rw [List.foldl_cons,List.foldl_cons,h id (by simp),ih fun x hx=>h x (by simp [hx])]
theorem filterMap_supp {α:Type} {f:Int→Option α} {l m:List Int} (hl:l.Pairwise (· < ·)) (hm:m.Pairwise (· < ·)) (h:∀ id,f id≠none→(id ∈ l↔id ∈ m)):l.filterMap f=m.filterMap f:=by
  have e:∀ k:List Int,k.filterMap f=(k.filter fun id=>(f id).isSome).filterMap f:=by
    intro k
    induction k with
    | nil=>rfl
    | cons x k ih =>
      cases hx:f x with
      | none=>rw [List.filterMap_cons_none hx,List.filter_cons_of_neg (by simp [hx]),ih]
      | some y=>rw [List.filterMap_cons_some hx,List.filter_cons_of_pos (by simp [hx]),List.filterMap_cons_some hx,ih]
  rw [e l,e m,lt_ext (hl.filter _) (hm.filter _) fun x=>?_]
  simp only [List.mem_filter]
  constructor
  · rintro ⟨h1,h2⟩;exact ⟨(h x (by intro e;rw [e] at h2;simp at h2)).1 h1,h2⟩
  · rintro ⟨h1,h2⟩;exact ⟨(h x (by intro e;rw [e] at h2;simp at h2)).2 h1,h2⟩
theorem foldE_keys {f:Int→En} {l m:List Int} (hl:l.Pairwise (· < ·)) (hm:m.Pairwise (· < ·)) (h0:(0:Int) ∈ l∧(0:Int) ∈ m) (h:∀ id,f id≠En.zero→(id ∈ l↔id ∈ m)):foldE f l=foldE f m:=by
  refine Pg.ext4 ?_ ?_ ?_ ?_
  · simp only [foldE,foldE_d,h0.1,h0.2]
  · simp only [foldE,foldE_heads]
    rw [filterMap_supp hl hm fun id hn=>h id fun e=>hn (by rw [e];rfl)]
  · simp only [foldE,foldE_defs]
    rw [filterMap_supp hl hm fun id hn=>h id fun e=>hn (by rw [e];rfl)]
  · simp only [foldE,foldE_t,h0.1,h0.2]
structure Nrm (p:Pg):Prop where
  hid:p.heads.Pairwise (fun a b=>a.id<b.id)
  pos:∀ h ∈ p.heads,0<h.id
theorem headS_of {p:Pg} (N:Nrm p) {h:Hd} (hh:h ∈ p.heads):headS p h.id=some h:=find_pw N.hid h hh
theorem headS_id {p:Pg} {id:Int} {h:Hd} (hh:headS p id=some h):h ∈ p.heads∧h.id=id:=⟨List.mem_of_find?_eq_some hh,of_decide_eq_true (List.find?_some (p:=fun d:Hd=>decide (d.id=id)) hh)⟩
theorem findS_id {p:Pg} {id:Int} {h:Df} (hh:findS p id=some h):h ∈ p.defs∧h.id=id:=⟨List.mem_of_find?_eq_some hh,of_decide_eq_true (List.find?_some (p:=fun d:Df=>decide (d.id=id)) hh)⟩
theorem entE_out {p:Pg} {id:Int} (h:id ∉ idsS p):entE p id=En.zero:=by
  simp only [idsS,List.mem_cons,not_or] at h
  rw [entE,if_neg h.1]
  cases e:headS p id with
  | none=>rfl
  | some x=>exact absurd (List.mem_map.2 ⟨x,(headS_id e).1,(headS_id e).2⟩) h.2
def Shp (id:Int) (e:En):Prop:=(id=0∧e.head=false∧e.opn=false∧e.h=Hd.zero∧e.d=Df.zero)∨(id≠0∧e=En.zero)∨(id≠0∧e.head=true∧e.h.id=id∧e.decl=Dc.zero∧e.threads=[]∧((e.opn=true∧e.d.id=id)∨(e.opn=false∧e.d=Df.zero)))
theorem entE_shp (p:Pg) (id:Int):Shp id (entE p id):=by
  unfold entE
  split
  · rename_i h;exact .inl ⟨h,rfl,rfl,rfl,rfl⟩
  · rename_i h
    split
    · exact .inr (.inl ⟨h,rfl⟩)
    · rename_i x e
      refine .inr (.inr ⟨h,rfl,(headS_id e).2,rfl,rfl,?_⟩)
      simp only [openE,(headS_id e).2]
      cases e2:findS p id with
      | none=>exact .inr ⟨rfl,rfl⟩
      | some d=>exact .inl ⟨rfl,(findS_id e2).2⟩
theorem pickE_cases (x y z:En):pickE x y z=y∨pickE x y z=z:=by
  unfold pickE
  split
  · exact .inl rfl
  · split
    · exact .inr rfl
    · exact .inl rfl
theorem pickAt_shp (p a b:Pg) (id:Int):Shp id (pickAt p a b id):=by
  rcases pickE_cases (entE p id) (entE a id) (entE b id) with h | h <;> (rw [pickAt,h];exact entE_shp _ _)
theorem idsS_pos {p:Pg} (N:Nrm p) {id:Int} (h:id ∈ idsS p):0≤id:=by
  rcases List.mem_cons.1 h with rfl | h
  · omega
  · obtain ⟨x,hx,rfl⟩:=List.mem_map.1 h;have:=N.pos x hx;omega
theorem find_filterMap {α:Type} {g:α→Int} {f:Int→Option α} (hf:∀ i x,f i=some x→g x=i) (id:Int):∀ l:List Int,(l.filterMap f).find? (fun x=>decide (g x=id))=if id ∈ l then f id else none
  | []=>by simp
  | i::l=>by
    cases hx:f i with
    | none =>
      rw [List.filterMap_cons_none hx,find_filterMap hf id l]
      by_cases e:id=i
      · subst e;simp [hx]
      · simp [e]
    | some x =>
      rw [List.filterMap_cons_some hx,List.find?_cons,hf i x hx]
      by_cases e:i=id
      · subst e;simp [hx]
      · have e':¬ id=i:=fun h=>e h.symm
        simp only [e,decide_false,find_filterMap hf id l,List.mem_cons,e',false_or]
theorem entE_fold {f:Int→En} {l:List Int} (h0:(0:Int) ∈ l) (hs:∀ id,Shp id (f id)) (hz:∀ id,f id≠En.zero→id ∈ l) (id:Int):entE (foldE f l) id=f id:=by
  have hh:∀ i x,(if (f i).head then some (f i).h else none)=some x→x.id=i:=fun i x e=>by
    rcases hs i with ⟨_,h1,_⟩ | ⟨_,h1⟩ | ⟨_,h1,h2,_⟩
    · rw [h1] at e;simp at e
    · rw [h1] at e;simp [En.zero] at e
    · rw [h1] at e;simp at e;rw [← e];exact h2
  have hd:∀ i x,(if (f i).opn then some (f i).d else none)=some x→x.id=i:=fun i x e=>by
    rcases hs i with ⟨_,_,h1,_⟩ | ⟨_,h1⟩ | ⟨_,_,_,_,_,⟨h1,h2⟩ | ⟨h1,h2⟩⟩
    · rw [h1] at e;simp at e
    · rw [h1] at e;simp [En.zero] at e
    · rw [h1] at e;simp at e;rw [← e];exact h2
    · rw [h1] at e;simp at e
  have e1:headS (foldE f l) id=if id ∈ l then (if (f id).head then some (f id).h else none) else none:=by
    rw [headS,foldE,foldE_heads,show Pg.zero.heads=[] from rfl,List.nil_append,find_filterMap hh]
  have e2:findS (foldE f l) id=if id ∈ l then (if (f id).opn then some (f id).d else none) else none:=by
    rw [findS,foldE,foldE_defs,show Pg.zero.defs=[] from rfl,List.nil_append,find_filterMap hd]
  unfold entE
  split
  · rename_i e
    subst e
    rcases hs 0 with ⟨_,h1,h2,h3,h4⟩ | ⟨h,_⟩ | ⟨h,_⟩
    · simp only [foldE,foldE_d,foldE_t,h0,if_true]
      exact (En.eq_iff _ _).1 ⟨h1.symm,h2.symm,h3.symm,h4.symm,rfl,rfl⟩
    · exact absurd rfl h
    · exact absurd rfl h
  · rename_i hne
    by_cases hm:id ∈ l
    · rw [if_pos hm] at e1 e2
      rcases hs id with ⟨h,_⟩ | ⟨_,h⟩ | ⟨_,h1,h2,h3,h4,h5⟩
      · exact absurd h hne
      · rw [e1,h];rfl
      · rw [e1,h1,if_pos rfl]
        simp only [openE,h2,e2]
        rcases h5 with ⟨h5,h6⟩ | ⟨h5,h6⟩
        · rw [h5];exact (En.eq_iff _ _).1 ⟨h1.symm,h5.symm,rfl,rfl,h3.symm,h4.symm⟩
        · rw [h5];exact (En.eq_iff _ _).1 ⟨h1.symm,h5.symm,rfl,h6.symm,h3.symm,h4.symm⟩
    · rw [if_neg hm] at e1
      rw [e1]
      by_cases e:f id=En.zero
      · exact e.symm
      · exact absurd (hz id e) hm
theorem Qu.eqN_iff (a b:Qu):(a.cap=b.cap∧a.r.lo=b.r.lo∧a.r.hi=b.r.hi∧a.r.mask=b.r.mask)↔a=b:=by
  obtain ⟨_,⟨_,_,_⟩⟩:=a;obtain ⟨_,⟨_,_,_⟩⟩:=b;simp
def preDf (x y:Df):Bool:=!decide (headOf x=headOf y) || (decide (x.site≠y.site) || (!(x.name.toList == y.name.toList) || (decide (x.vars≠y.vars) || (decide (x.refs≠y.refs) || (decide (x.budget≠y.budget) || (decide ((x.arrays.length:Int)≠y.arrays.length) || !decide (x.body=y.body)))))))
theorem t_SameDefF (x y:Df) (s:St):Spec Tryz.prog 22 [.agg x.cells,.agg y.cells] s (.bool (decide (x=y))) s:=by
  refine Spec.small fun hsm=>?_
  have hlen:(arCells x.arrays).length≤281474976710656:=(hsm _ (.head _)).sl (o:=.none) (by cases x;simp [Df.cells])
  rw [arCells_len] at hlen
  clear hsm
  obtain ⟨B,L,c⟩:=s
  have hes:evStr .neq x.name y.name=some (.bool (!(x.name.toList == y.name.toList))):=rfl
  refine Spec.introN [(1,.cutT [false,true,false,true,true,false,false,false,false,false,false,false,false,false,false,false,false,false,false,false,false,false,false,false,false,false,false,false,false,false,false,false,false,false,false,false,false,false,false,false,false,false,false,false,false,false,false,false,false,false,false,false,false,false,false,true,false,false] [(2,0)])] Tryz.func22 rfl (by decide) hmix (by kernel_rfl) [ResultVar.tmp 4] 82 rfl rfl ?_
  simp only [vqM,vt85,Tryz.f22,zA,zS,zM,zL,zE,zB,reduceCtorEq]
  refine seq_join hmix [2,3,63] [.junk,.junk,.box B.length 0,.box (B.length+1) 0,.junk,.junk,.junk,.junk,.junk,.junk,.junk,.junk,.junk,.junk,.junk,.junk,.junk,.junk,.junk,.junk,.junk,.junk,.junk,.junk,.junk,.junk,.junk,.junk,.junk,.junk,.junk,.junk,.junk,.junk,.junk,.junk,.junk,.junk,.junk,.junk,.junk,.junk,.junk,.junk,.junk,.junk,.junk,.junk,.junk,.junk,.junk,.junk,.junk,.junk,.junk,.junk,.junk,.junk,.junk,.junk,.junk,.junk,.junk,.bool (preDf x y),.junk,.junk,.junk,.junk,.junk,.junk,.junk,.junk,.junk,.junk,.junk,.junk,.junk,.junk,.junk,.junk,.junk,.junk] (fun s=>s=⟨B++[.cells x.cells,.cells y.cells],L,c⟩) ?_ ?_
  · simp only [vqM,vt85,zA,zS,zM,zL,zE,zB,reduceCtorEq,arCells_len,hes]
    repeat' (first
      | ((with_reducible refine is_call ?_);refine callI_spec (t_HeadR _ _) ?_;simp only [vqM,vt85,zA,zS,zM,zL,zE,zB,reduceCtorEq,arCells_len,hes])
      | ((with_reducible refine is_call ?_);refine callI_spec (t_SameHeadF _ _ _) ?_;simp only [vqM,vt85,zA,zS,zM,zL,zE,zB,reduceCtorEq,arCells_len,hes])
      | ((with_reducible refine is_call ?_);refine callI_spec (t_SameStmtsF _ _ _) ?_;simp only [vqM,vt85,zA,zS,zM,zL,zE,zB,reduceCtorEq,arCells_len,hes])
      | (with_reducible refine ifI_intro (fun hc=>?_) (fun hc=>?_) <;> simp only [vqM,vt85,hc,zA,zS,zM,zL,zE,zB,reduceCtorEq,arCells_len,hes])
      | ((with_reducible refine is_q ?_);refine meet_intro ⟨?_,rfl⟩ <;> simp only [vke,zB,zA] <;> (first | (simp only [preDf, *,Bool.true_and,Bool.false_and,Bool.and_true,Bool.and_false,Bool.true_or,Bool.false_or,Bool.or_true,Bool.or_false,Bool.not_true,Bool.not_false,cond_true,cond_false,if_true,if_false];done) | (simp_all [preDf];done) | (simp_all [preDf];omega))))
  rintro s rfl
  simp only [vqM,vt85,zA,zS,zM,zL,zE,zB,reduceCtorEq,arCells_len,hes]
  refine ifI_intro (fun hc=>?_) (fun hc=>?_)
  · simp only [vqM,vt85,zA,zS,zM,zL,zE,zB,reduceCtorEq,arCells_len,hes]
    refine ret_loc (.inr rfl) ?_ (.bool _) (fun _ h=>h) (Nat.le_refl _)
    have:x≠y:=by rintro rfl;simp [preDf] at hc
    simp only [vqM,vt85,zA,zS,zM,zL,zE,zB,reduceCtorEq]
    rw [decide_eq_false this]
  simp only [preDf,Bool.or_eq_false_iff,Bool.not_eq_false',decide_eq_false_iff_not,decide_eq_true_eq,bne_eq_false_iff_eq,ne_eq,Classical.not_not] at hc
  obtain ⟨q1,q2,q3,q4,q5,q6,q7,q8⟩:=hc
  have hll:x.arrays.length=y.arrays.length:=by omega
  simp only [vqM,vt85,zA,zS,zM,zL,zE,zB,reduceCtorEq,arCells_len,hes]
  refine awN_keep [2,3,5] ?_
  simp only [vke,zB,zA]
  refine awN_forR hmix x.arrays.length (fun k e s=>x.arrays.take k=y.arrays.take k∧e=[.junk,.junk,.box B.length 0,.box (B.length+1) 0,.junk,.int .i64 (k:Int),.junk,.junk,.junk,.junk,.junk,.junk,.junk,.junk,.junk,.junk,.junk,.junk,.junk,.junk,.junk,.junk,.junk,.junk,.junk,.junk,.junk,.junk,.junk,.junk,.junk,.junk,.junk,.junk,.junk,.junk,.junk,.junk,.junk,.junk,.junk,.junk,.junk,.junk,.junk,.junk,.junk,.junk,.junk,.junk,.junk,.junk,.junk,.junk,.junk,.junk,.junk,.junk,.junk,.junk,.junk,.junk,.junk,.junk,.junk,.junk,.junk,.junk,.junk,.junk,.junk,.junk,.junk,.junk,.junk,.junk,.junk,.junk,.junk,.junk,.junk,.junk]∧s=⟨B++[.cells x.cells,.cells y.cells],L,c⟩) ?_ ?_ 0 _ _ (Nat.zero_le _) ⟨rfl,rfl,rfl⟩
  · rintro k e s hk ⟨hI,rfl,rfl⟩ ihl
    have hkm:k<y.arrays.length:=by omega
    have hx:x.arrays[k]? = some x.arrays[k]:=List.getElem?_eq_getElem hk
    have hy:y.arrays[k]? = some y.arrays[k]:=List.getElem?_eq_getElem hkm
    have hg:(arCells x.arrays)[k]? = some (x.arrays[k].cells):=by simp [arCells,hx]
    have hh:(arCells y.arrays)[k]? = some (y.arrays[k].cells):=by simp [arCells,hy]
    have hklt:((k:Int)<(x.arrays.length:Int))=True:=by simp;exact hk
    generalize x.arrays[k]=xx at hx hg
    generalize y.arrays[k]=yy at hy hh
    simp only [vqM,vt85,zA,zS,zM,zL,zE,zB,reduceCtorEq,arCells_len,hklt,decide_true,natle0,Int.toNat_natCast,hg,hh]
    refine ifI_intro (fun hc=>?_) (fun hc=>?_)
    · simp only [vqM,vt85,zA,zS,zM,zL,zE,zB,reduceCtorEq]
      refine ret_loc (.inr rfl) ?_ (.bool _) (fun _ h=>h) (Nat.le_refl _)
      have:x≠y:=by
        rintro rfl
        rw [hx] at hy;cases hy
        simp at hc
      simp only [vqM,vt85,zA,zS,zM,zL,zE,zB,reduceCtorEq]
      rw [decide_eq_false this]
    · simp only [vqM,vt85,zA,zS,zM,zL,zE,zB,reduceCtorEq]
      rw [wrap_succ (by omega)]
      refine awN_keep [2,3,5] ?_
      simp only [vke,zB,zA]
      have hc':xx=yy:=(Ar.eq_iff xx yy).1 (by simpa using hc)
      subst hc'
      refine ihl _ _ ⟨?_,rfl,rfl⟩
      rw [List.take_add_one,List.take_add_one,hx,hy,hI]
  · rintro e s ⟨hI,rfl,rfl⟩
    have hklt:((x.arrays.length:Int)<(x.arrays.length:Int))=False:=by simp
    rw [List.take_length,hll,List.take_length] at hI
    simp only [vqM,vt85,zA,zS,zM,zL,zE,zB,reduceCtorEq,arCells_len,hklt,decide_false]
    refine ret_loc (.inr rfl) ?_ (.bool _) (fun _ h=>h) (Nat.le_refl _)
    simp only [vqM,vt85,zA,zS,zM,zL,zE,zB,reduceCtorEq]
    have:x=y:=by
      have h:=seDf_eq x y
      have q0:hdOf x=hdOf y:=q1
      rw [seDf,q0,q2,q3,q4,q5,q6,hI,q8] at h
      simpa using h
    rw [decide_eq_true this]
def preDc (x y:Dc):Bool:=!decide (x.globals=y.globals) || (!decide (x.classes=y.classes) || (!decide (x.sinks=y.sinks) || (decide ((x.queues.length:Int)≠y.queues.length) || (decide (x.locks≠y.locks) || (decide (x.parts≠y.parts) || decide (x.firms≠y.firms))))))
theorem t_SameDeclF (x y:Dc) (s:St):Spec Tryz.prog 36 [.agg x.cells,.agg y.cells] s (.bool (decide (x=y))) s:=by
  refine Spec.small fun hsm=>?_
  have hlen:(quCells x.queues).length≤281474976710656:=(hsm _ (.head _)).sl (o:=.none) (by cases x;simp [Dc.cells])
  rw [quCells_len] at hlen
  clear hsm
  obtain ⟨B,L,c⟩:=s
  refine Spec.introN [(1,.cut)] Tryz.func36 rfl (by decide) hmix (by kernel_rfl) [ResultVar.tmp 4] 76 rfl rfl ?_
  simp only [vqM,vt86,Tryz.f36,zA,zS,zM,zL,zE,zB,reduceCtorEq]
  refine seq_join hmix [2,3,57] [.junk,.junk,.box B.length 0,.box (B.length+1) 0,.junk,.junk,.junk,.junk,.junk,.junk,.junk,.junk,.junk,.junk,.junk,.junk,.junk,.junk,.junk,.junk,.junk,.junk,.junk,.junk,.junk,.junk,.junk,.junk,.junk,.junk,.junk,.junk,.junk,.junk,.junk,.junk,.junk,.junk,.junk,.junk,.junk,.junk,.junk,.junk,.junk,.junk,.junk,.junk,.junk,.junk,.junk,.junk,.junk,.junk,.junk,.junk,.junk,.bool (preDc x y),.junk,.junk,.junk,.junk,.junk,.junk,.junk,.junk,.junk,.junk,.junk,.junk,.junk,.junk,.junk,.junk,.junk,.junk] (fun s=>s=⟨B++[.cells x.cells,.cells y.cells],L,c⟩) ?_ ?_
  · simp only [vqM,vt86,zA,zS,zM,zL,zE,zB,reduceCtorEq,quCells_len]
    repeat' (first
      | ((with_reducible refine is_call ?_);refine callI_spec (t_sameRangesF _ _ _) ?_;simp only [vqM,vt86,zA,zS,zM,zL,zE,zB,reduceCtorEq,quCells_len])
      | ((with_reducible refine is_call ?_);refine callI_spec (t_SameInts _ _ _) ?_;simp only [vqM,vt86,zA,zS,zM,zL,zE,zB,reduceCtorEq,quCells_len])
      | (with_reducible refine ifI_intro (fun hc=>?_) (fun hc=>?_) <;> simp only [vqM,vt86,hc,zA,zS,zM,zL,zE,zB,reduceCtorEq,quCells_len])
      | ((with_reducible refine is_q ?_);refine meet_intro ⟨?_,rfl⟩ <;> simp only [vke,zB,zA] <;> (first | (simp only [preDc, *,Bool.true_and,Bool.false_and,Bool.and_true,Bool.and_false,Bool.true_or,Bool.false_or,Bool.or_true,Bool.or_false,Bool.not_true,Bool.not_false,cond_true,cond_false,if_true,if_false];done) | (simp_all [preDc];done) | (simp_all [preDc];omega))))
  rintro s rfl
  simp only [vqM,vt86,zA,zS,zM,zL,zE,zB,reduceCtorEq,quCells_len]
  refine ifI_intro (fun hc=>?_) (fun hc=>?_)
  · simp only [vqM,vt86,zA,zS,zM,zL,zE,zB,reduceCtorEq,quCells_len]
    refine ret_loc (.inr rfl) ?_ (.bool _) (fun _ h=>h) (Nat.le_refl _)
    have:x≠y:=by rintro rfl;simp [preDc] at hc
    simp only [vqM,vt86,zA,zS,zM,zL,zE,zB,reduceCtorEq]
    rw [decide_eq_false this]
  simp only [preDc,Bool.or_eq_false_iff,Bool.not_eq_false',decide_eq_false_iff_not,decide_eq_true_eq,bne_eq_false_iff_eq,ne_eq,Classical.not_not] at hc
  obtain ⟨q1,q2,q3,q4,q5,q6,q7⟩:=hc
  have hll:x.queues.length=y.queues.length:=by omega
  simp only [vqM,vt86,zA,zS,zM,zL,zE,zB,reduceCtorEq,quCells_len]
  refine awN_keep [2,3,5] ?_
  simp only [vke,zB,zA]
  refine awN_forR hmix x.queues.length (fun k e s=>x.queues.take k=y.queues.take k∧e=[.junk,.junk,.box B.length 0,.box (B.length+1) 0,.junk,.int .i64 (k:Int),.junk,.junk,.junk,.junk,.junk,.junk,.junk,.junk,.junk,.junk,.junk,.junk,.junk,.junk,.junk,.junk,.junk,.junk,.junk,.junk,.junk,.junk,.junk,.junk,.junk,.junk,.junk,.junk,.junk,.junk,.junk,.junk,.junk,.junk,.junk,.junk,.junk,.junk,.junk,.junk,.junk,.junk,.junk,.junk,.junk,.junk,.junk,.junk,.junk,.junk,.junk,.junk,.junk,.junk,.junk,.junk,.junk,.junk,.junk,.junk,.junk,.junk,.junk,.junk,.junk,.junk,.junk,.junk,.junk,.junk]∧s=⟨B++[.cells x.cells,.cells y.cells],L,c⟩) ?_ ?_ 0 _ _ (Nat.zero_le _) ⟨rfl,rfl,rfl⟩
  · rintro k e s hk ⟨hI,rfl,rfl⟩ ihl
    have hkm:k<y.queues.length:=by omega
    have hx:x.queues[k]? = some x.queues[k]:=List.getElem?_eq_getElem hk
    have hy:y.queues[k]? = some y.queues[k]:=List.getElem?_eq_getElem hkm
    have hg:(quCells x.queues)[k]? = some (x.queues[k].cells):=by simp [quCells,hx]
    have hh:(quCells y.queues)[k]? = some (y.queues[k].cells):=by simp [quCells,hy]
    have hklt:((k:Int)<(x.queues.length:Int))=True:=by simp;exact hk
    generalize x.queues[k]=xx at hx hg
    generalize y.queues[k]=yy at hy hh
    simp only [vqM,vt86,zA,zS,zM,zL,zE,zB,reduceCtorEq,quCells_len,hklt,decide_true,natle0,Int.toNat_natCast,hg,hh]
    refine ifI_intro (fun hc=>?_) (fun hc=>?_)
    · simp only [vqM,vt86,zA,zS,zM,zL,zE,zB,reduceCtorEq]
      refine ret_loc (.inr rfl) ?_ (.bool _) (fun _ h=>h) (Nat.le_refl _)
      have:x≠y:=by
        rintro rfl
        rw [hx] at hy;cases hy
        simp at hc
      simp only [vqM,vt86,zA,zS,zM,zL,zE,zB,reduceCtorEq]
      rw [decide_eq_false this]
    · simp only [vqM,vt86,zA,zS,zM,zL,zE,zB,reduceCtorEq]
      rw [wrap_succ (by omega)]
      refine awN_keep [2,3,5] ?_
      simp only [vke,zB,zA]
      have hc':xx=yy:=(Qu.eqN_iff xx yy).1 (by simpa using hc)
      subst hc'
      refine ihl _ _ ⟨?_,rfl,rfl⟩
      rw [List.take_add_one,List.take_add_one,hx,hy,hI]
  · rintro e s ⟨hI,rfl,rfl⟩
    have hklt:((x.queues.length:Int)<(x.queues.length:Int))=False:=by simp
    rw [List.take_length,hll,List.take_length] at hI
    simp only [vqM,vt86,zA,zS,zM,zL,zE,zB,reduceCtorEq,quCells_len,hklt,decide_false]
    refine ret_loc (.inr rfl) ?_ (.bool _) (fun _ h=>h) (Nat.le_refl _)
    simp only [vqM,vt86,zA,zS,zM,zL,zE,zB,reduceCtorEq]
    have:x=y:=(Dc.eq_iff x y).1 ⟨q1,q2,hI,q3,q5,q6,q7⟩
    rw [decide_eq_true this]
theorem Pg.eq_iffN (a b:Pg):(a.d=b.d∧a.heads=b.heads∧a.defs=b.defs∧a.threads=b.threads)↔a=b:=by cases a;cases b;simp
instance:DecidableEq Pg:=fun a b=>decidable_of_iff _ (Pg.eq_iffN a b)
def prePg (x y:Pg):Bool:=!decide (x.d=y.d) || (decide ((x.heads.length:Int)≠y.heads.length) || (decide ((x.defs.length:Int)≠y.defs.length) || !decide (x.threads=y.threads)))
theorem t_SameProgramF (x y:Pg) (s:St):Spec Tryz.prog 18 [.agg x.cells,.agg y.cells] s (.bool (decide (x=y))) s:=by
  refine Spec.small fun hsm=>?_
  have hlen:(hdCells x.heads).length≤281474976710656:=(hsm _ (.head _)).sl (o:=.none) (by cases x;simp [Pg.cells,Dc.cells])
  rw [hdCells_len] at hlen
  have hlen2:(dfCells x.defs).length≤281474976710656:=(hsm _ (.head _)).sl (o:=.none) (by cases x;simp [Pg.cells,Dc.cells])
  rw [dfCells_len] at hlen2
  clear hsm
  obtain ⟨B,L,c⟩:=s
  refine Spec.introN [(1,.cut)] Tryz.func18 rfl (by decide) hmix (by kernel_rfl) [ResultVar.tmp 4] 77 rfl rfl ?_
  simp only [vqM,vt87,Tryz.f18,zA,zS,zM,zL,zE,zB,reduceCtorEq]
  refine seq_join hmix [2,3,38] [.junk,.junk,.box B.length 0,.box (B.length+1) 0,.junk,.junk,.junk,.junk,.junk,.junk,.junk,.junk,.junk,.junk,.junk,.junk,.junk,.junk,.junk,.junk,.junk,.junk,.junk,.junk,.junk,.junk,.junk,.junk,.junk,.junk,.junk,.junk,.junk,.junk,.junk,.junk,.junk,.junk,.bool (prePg x y),.junk,.junk,.junk,.junk,.junk,.junk,.junk,.junk,.junk,.junk,.junk,.junk,.junk,.junk,.junk,.junk,.junk,.junk,.junk,.junk,.junk,.junk,.junk,.junk,.junk,.junk,.junk,.junk,.junk,.junk,.junk,.junk,.junk,.junk,.junk,.junk,.junk,.junk] (fun s=>s=⟨B++[.cells x.cells,.cells y.cells],L,c⟩) ?_ ?_
  · simp only [vqM,vt87,zA,zS,zM,zL,zE,zB,reduceCtorEq,hdCells_len,dfCells_len]
    repeat' (first
      | ((with_reducible refine is_call ?_);refine callI_spec (t_SameDeclF _ _ _) ?_;simp only [vqM,vt87,zA,zS,zM,zL,zE,zB,reduceCtorEq,hdCells_len,dfCells_len])
      | ((with_reducible refine is_call ?_);refine callI_spec (t_SameInts _ _ _) ?_;simp only [vqM,vt87,zA,zS,zM,zL,zE,zB,reduceCtorEq,hdCells_len,dfCells_len])
      | (with_reducible refine ifI_intro (fun hc=>?_) (fun hc=>?_) <;> simp only [vqM,vt87,hc,zA,zS,zM,zL,zE,zB,reduceCtorEq,hdCells_len,dfCells_len])
      | ((with_reducible refine is_q ?_);refine meet_intro ⟨?_,rfl⟩ <;> simp only [vke,zB,zA] <;> (first | (simp only [prePg, *,Bool.true_and,Bool.false_and,Bool.and_true,Bool.and_false,Bool.true_or,Bool.false_or,Bool.or_true,Bool.or_false,Bool.not_true,Bool.not_false,cond_true,cond_false,if_true,if_false];done) | (simp_all [prePg];done) | (simp_all [prePg];omega))))
  rintro s rfl
  simp only [vqM,vt87,zA,zS,zM,zL,zE,zB,reduceCtorEq,hdCells_len,dfCells_len]
  refine ifI_intro (fun hc=>?_) (fun hc=>?_)
  · simp only [vqM,vt87,zA,zS,zM,zL,zE,zB,reduceCtorEq,hdCells_len,dfCells_len]
    refine ret_loc (.inr rfl) ?_ (.bool _) (fun _ h=>h) (Nat.le_refl _)
    have:x≠y:=by rintro rfl;simp [prePg] at hc
    simp only [vqM,vt87,zA,zS,zM,zL,zE,zB,reduceCtorEq]
    rw [decide_eq_false this]
  simp only [prePg,Bool.or_eq_false_iff,Bool.not_eq_false',decide_eq_false_iff_not,decide_eq_true_eq,bne_eq_false_iff_eq,ne_eq,Classical.not_not] at hc
  obtain ⟨q1,q2,q3,q4⟩:=hc
  have hll:x.heads.length=y.heads.length:=by omega
  have hll2:x.defs.length=y.defs.length:=by omega
  simp only [vqM,vt87,zA,zS,zM,zL,zE,zB,reduceCtorEq,hdCells_len,dfCells_len]
  refine awN_keep [2,3,5] ?_
  simp only [vke,zB,zA]
  refine awN_forR hmix x.heads.length (fun k e s=>x.heads.take k=y.heads.take k∧e=[.junk,.junk,.box B.length 0,.box (B.length+1) 0,.junk,.int .i64 (k:Int),.junk,.junk,.junk,.junk,.junk,.junk,.junk,.junk,.junk,.junk,.junk,.junk,.junk,.junk,.junk,.junk,.junk,.junk,.junk,.junk,.junk,.junk,.junk,.junk,.junk,.junk,.junk,.junk,.junk,.junk,.junk,.junk,.junk,.junk,.junk,.junk,.junk,.junk,.junk,.junk,.junk,.junk,.junk,.junk,.junk,.junk,.junk,.junk,.junk,.junk,.junk,.junk,.junk,.junk,.junk,.junk,.junk,.junk,.junk,.junk,.junk,.junk,.junk,.junk,.junk,.junk,.junk,.junk,.junk,.junk,.junk]∧s=⟨B++[.cells x.cells,.cells y.cells],L,c⟩) ?_ ?_ 0 _ _ (Nat.zero_le _) ⟨rfl,rfl,rfl⟩
  · rintro k e s hk ⟨hI,rfl,rfl⟩ ihl
    have hkm:k<y.heads.length:=by omega
    have hx:x.heads[k]? = some x.heads[k]:=List.getElem?_eq_getElem hk
    have hy:y.heads[k]? = some y.heads[k]:=List.getElem?_eq_getElem hkm
    have hg:(hdCells x.heads)[k]? = some (x.heads[k].cells):=by simp [hdCells,hx]
    have hh:(hdCells y.heads)[k]? = some (y.heads[k].cells):=by simp [hdCells,hy]
    have hklt:((k:Int)<(x.heads.length:Int))=True:=by simp;exact hk
    generalize x.heads[k]=xx at hx hg
    generalize y.heads[k]=yy at hy hh
    simp only [vqM,vt87,zA,zS,zM,zL,zE,zB,reduceCtorEq,hdCells_len,hklt,decide_true,natle0,Int.toNat_natCast,hg,hh,dfCells_len]
    refine callI_spec (t_SameHeadF xx yy _) ?_
    simp only [vqM,vt87,zA,zS,zM,zL,zE,zB,reduceCtorEq,hdCells_len,hklt,decide_true,natle0,Int.toNat_natCast,hg,hh,dfCells_len]
    refine ifI_intro (fun hc=>?_) (fun hc=>?_)
    · simp only [vqM,vt87,zA,zS,zM,zL,zE,zB,reduceCtorEq]
      refine ret_loc (.inr rfl) ?_ (.bool _) (fun _ h=>h) (Nat.le_refl _)
      have:x≠y:=by
        rintro rfl
        rw [hx] at hy;cases hy
        simp at hc
      simp only [vqM,vt87,zA,zS,zM,zL,zE,zB,reduceCtorEq]
      rw [decide_eq_false this]
    · simp only [vqM,vt87,zA,zS,zM,zL,zE,zB,reduceCtorEq]
      rw [wrap_succ (by omega)]
      refine awN_keep [2,3,5] ?_
      simp only [vke,zB,zA]
      have hc':xx=yy:=by simpa using hc
      subst hc'
      refine ihl _ _ ⟨?_,rfl,rfl⟩
      rw [List.take_add_one,List.take_add_one,hx,hy,hI]
  · rintro e s ⟨hI,rfl,rfl⟩
    have hklt:((x.heads.length:Int)<(x.heads.length:Int))=False:=by simp
    rw [List.take_length,hll,List.take_length] at hI
    simp only [vqM,vt87,zA,zS,zM,zL,zE,zB,reduceCtorEq,hdCells_len,hklt,decide_false,dfCells_len]
    have hIa:=hI
    clear hI
    refine awN_keep [2,3,6] ?_
    simp only [vke,zB,zA]
    refine awN_forR hmix x.defs.length (fun k e s=>x.defs.take k=y.defs.take k∧e=[.junk,.junk,.box B.length 0,.box (B.length+1) 0,.junk,.junk,.int .i64 (k:Int),.junk,.junk,.junk,.junk,.junk,.junk,.junk,.junk,.junk,.junk,.junk,.junk,.junk,.junk,.junk,.junk,.junk,.junk,.junk,.junk,.junk,.junk,.junk,.junk,.junk,.junk,.junk,.junk,.junk,.junk,.junk,.junk,.junk,.junk,.junk,.junk,.junk,.junk,.junk,.junk,.junk,.junk,.junk,.junk,.junk,.junk,.junk,.junk,.junk,.junk,.junk,.junk,.junk,.junk,.junk,.junk,.junk,.junk,.junk,.junk,.junk,.junk,.junk,.junk,.junk,.junk,.junk,.junk,.junk,.junk]∧s=⟨B++[.cells x.cells,.cells y.cells],L,c⟩) ?_ ?_ 0 _ _ (Nat.zero_le _) ⟨rfl,rfl,rfl⟩
    · rintro k e s hk ⟨hI,rfl,rfl⟩ ihl
      have hkm:k<y.defs.length:=by omega
      have hx:x.defs[k]? = some x.defs[k]:=List.getElem?_eq_getElem hk
      have hy:y.defs[k]? = some y.defs[k]:=List.getElem?_eq_getElem hkm
      have hg:(dfCells x.defs)[k]? = some (x.defs[k].cells):=by simp [dfCells,hx]
      have hh:(dfCells y.defs)[k]? = some (y.defs[k].cells):=by simp [dfCells,hy]
      have hklt:((k:Int)<(x.defs.length:Int))=True:=by simp;exact hk
      generalize x.defs[k]=xx at hx hg
      generalize y.defs[k]=yy at hy hh
      simp only [vqM,vt87,zA,zS,zM,zL,zE,zB,reduceCtorEq,dfCells_len,hklt,decide_true,natle0,Int.toNat_natCast,hg,hh]
      refine callI_spec (t_SameDefF xx yy _) ?_
      simp only [vqM,vt87,zA,zS,zM,zL,zE,zB,reduceCtorEq,dfCells_len,hklt,decide_true,natle0,Int.toNat_natCast,hg,hh]
      refine ifI_intro (fun hc=>?_) (fun hc=>?_)
      · simp only [vqM,vt87,zA,zS,zM,zL,zE,zB,reduceCtorEq]
        refine ret_loc (.inr rfl) ?_ (.bool _) (fun _ h=>h) (Nat.le_refl _)
        have:x≠y:=by
          rintro rfl
          rw [hx] at hy;cases hy
          simp at hc
        simp only [vqM,vt87,zA,zS,zM,zL,zE,zB,reduceCtorEq]
        rw [decide_eq_false this]
      · simp only [vqM,vt87,zA,zS,zM,zL,zE,zB,reduceCtorEq]
        rw [wrap_succ (by omega)]
        refine awN_keep [2,3,6] ?_
        simp only [vke,zB,zA]
        have hc':xx=yy:=by simpa using hc
        subst hc'
        refine ihl _ _ ⟨?_,rfl,rfl⟩
        rw [List.take_add_one,List.take_add_one,hx,hy,hI]
    · rintro e s ⟨hI,rfl,rfl⟩
      have hklt:((x.defs.length:Int)<(x.defs.length:Int))=False:=by simp
      rw [List.take_length,hll2,List.take_length] at hI
      simp only [vqM,vt87,zA,zS,zM,zL,zE,zB,reduceCtorEq,dfCells_len,hklt,decide_false]
      refine ret_loc (.inr rfl) ?_ (.bool _) (fun _ h=>h) (Nat.le_refl _)
      simp only [vqM,vt87,zA,zS,zM,zL,zE,zB,reduceCtorEq]
      have:x=y:=Pg.ext4 q1 hIa hI q4
      rw [decide_eq_true this]
theorem SpecQ.unMapX {P:Program} {f:FuncId} {args:List D} {s:St} {Z Z2:D→St→Prop} (h:SpecQ P f args s Z)
    (hz:∀ r t,Z r t→∃ b es bs c,t.boxes[b]? = some (.mapX es bs c)∧Z2 r { t with boxes:=t.boxes.set b (.map es) }):SpecQ P f args s Z2 :=
  SpecQ.ghost h fun r s1 hZ w0 g0 w g v h0 hle hw hv=>by
    obtain ⟨b,es,bs,c,h1,h2⟩:=hz r s1 hZ
    exact ⟨g,r,_,h2,hle,hw.unMapX h1,hv⟩
theorem SpecQ.letQ {P:Program} {f:FuncId} {args:List D} {s s':St} {Z:D→St→Prop} {Z':D→Prop} (h:SpecQ P f args s Z) (hz:∀ r t,Z r t→∃ r',weakD r r'∧Bd 0 0 r'∧Z' r'∧Leave s t s'):SpecQ P f args s fun r t=>Z' r∧t=s':=by
  refine SpecQ.ghost h fun r t hZ w0 g0 w g v h0 hle hw hv=>?_
  obtain ⟨r',h1,h2,h3,hl⟩:=hz r t hZ
  obtain ⟨q1,q2⟩:=hl.wrel h0 hle hw
  exact ⟨_,_,_,⟨h3,rfl⟩,q1,q2,(h1 _ _ hv).cut (h2.mono (Nat.zero_le _) (Nat.zero_le _))⟩
structure Js (n:Nat) (js:List Nat):Prop where
  nd:js.Nodup
  lt:∀ j ∈ js,j<n
theorem Js.le {n:Nat} {js:List Nat} (h:Js n js):js.length≤n:=by
  have:=h.nd.length_le_of_subset (l₂:=List.range n) fun j hj=>List.mem_range.2 (h.lt j hj)
  simpa using this
theorem Js.snoc {n j:Nat} {js:List Nat} (h:Js n js) (hj:j<n) (hn:j ∉ js):Js n (js++[j]) where
  nd:=List.nodup_append.2 ⟨h.nd,by simp,fun a ha b hb e=>by simp at hb;subst hb;exact hn (e ▸ ha)⟩
  lt:=fun i hi=>by
    rcases List.mem_append.1 hi with hi | hi
    · exact h.lt i hi
    · simp at hi;omega
theorem Js.all {n:Nat} {js:List Nat} (h:Js n js) (hl:js.length=n) {j:Nat} (hj:j<n):j ∈ js:=by
  refine Classical.byContradiction fun hn=>?_
  have:=(h.snoc hj hn).le
  simp at this;omega
theorem Js.perm {n:Nat} {js:List Nat} (h:Js n js) (hl:js.length=n):js.Perm (List.range n) :=
  (List.perm_ext_iff_of_nodup h.nd List.nodup_range).2 fun j=>⟨fun hj=>List.mem_range.2 (h.lt j hj),fun hj=>h.all hl (List.mem_range.1 hj)⟩
def pickL (l:List Int) (js:List Nat):List Int:=js.map fun j=>l.getD j 0
theorem pickL_range (l:List Int):pickL l (List.range l.length)=l:=by
  refine List.ext_getElem (by simp [pickL]) fun i h1 h2=>?_
  simp [pickL,h2]
theorem pickL_perm {l:List Int} {js:List Nat} (h:Js l.length js) (hl:js.length=l.length):(pickL l js).Perm l:=by
  have:=(h.perm hl).map (fun j=>l.getD j 0)
  rw [show (List.range l.length).map (fun j=>l.getD j 0)=l from pickL_range l] at this
  exact this
def pickB (l:List Nat) (js:List Nat):List Nat:=js.map fun j=>l.getD j 0
theorem mem_pickB {bs js:List Nat} (hnd:bs.Nodup) (hjs:∀ j ∈ js,j<bs.length) {j:Nat} (hj:j<bs.length):bs[j] ∈ pickB bs js↔j ∈ js:=by
  simp only [pickB,List.mem_map]
  constructor
  · rintro ⟨i,hi,e⟩
    have hil:=hjs i hi
    rw [show bs.getD i 0=bs[i] by simp [List.getD,hil]] at e
    rw [(List.getElem_inj hnd).1 e] at hi
    exact hi
  · intro h;exact ⟨j,h,by simp [List.getD,hj]⟩
theorem t_Keys1 (ks:List Int) (es:List (D × D)) (hes:es.map (·.1)=ks.map (D.int .i64 ·)) {B:List Box} {L:List Nat} {c n b m:Nat} (hm:B[m]? = some (.cells [.map b])) (hb:B[b]? = some (.map es))
    (J:List Nat→Nat→List Int→List Box→List Nat→Nat→Prop) (h0:∀ bs c0,J bs c0 [] (B.set b (.mapX es bs c0)) L c) (hJ:∀ bs c0 out C L c,J bs c0 out C L c→C.length=B.length∧C[b]? = some (.mapX es bs c0))
    (step:∀ bs c0 out C L c x it,J bs c0 out C L c→out.length<ks.length→YSemQ Tryz.prog n [.int .i64 x] ⟨C++[it],L,c⟩ fun r s1=>r=.bool true∧∃ C' L' c',J bs c0 (out++[x]) C' L' c'∧s1=⟨C'++[it],L',c'⟩) :
    SpecQ Tryz.prog 103 [.yield n,.box m 0] ⟨B,L,c⟩ fun r s=>r=.tup []∧∃ bs c0 out C L' c' it,out.Perm ks∧J bs c0 out C L' c'∧s=⟨C++[it],L',c'⟩:=by
  have hmb:m≠b:=by rintro rfl;rw [hm] at hb;cases hb
  have hel:es.length=ks.length:=by have:=congrArg List.length hes;simpa using this
  have hek:∀ (j:Nat) (h:j<es.length) (h2:j<ks.length),es[j].1=.int .i64 ks[j]:=fun j h h2=>by
    have:=congrArg (fun l=>l[j]?) hes
    simpa [h,h2] using this
  refine SpecQ.introA [] Tryz.func103 rfl (by decide) hmix (by kernel_rfl) [] 14 rfl rfl ?_
  simp only [vqM,vt88,Tryz.f103,zA,zS,zM,zL,zE,zB,reduceCtorEq,vsIt,hm]
  refine rangeI_intro (by rfl) hb fun bs c0 q1 q2 q3=>?_
  simp only [vqM,vt88,zA,zS,zM,zL,zE,zB,reduceCtorEq,vsIt]
  refine awN_keep [0,5] ?_
  simp only [vke,zB,zA]
  refine awN_forR hmix ks.length (fun k e s=>∃ js C L' c',Js ks.length js∧js.length=k∧J bs c0 (pickL ks js) C L' c'∧e=[.yield n,.junk,.junk,.junk,.junk,.box B.length 0,.junk,.junk,.junk,.junk,.junk,.junk,.junk,.junk]∧s=⟨C++[.iter b c0 (pickB bs js)],L',c'⟩) ?_ ?_ 0 _ _ (Nat.zero_le _) ⟨[],_,_,_,⟨.nil,by simp⟩,rfl,h0 bs c0,rfl,rfl⟩
  · rintro k e s hk ⟨js,C,L',c',hjs,hjl,hJc,rfl,rfl⟩ ih
    obtain ⟨hCl,hCb⟩:=hJ _ _ _ _ _ _ hJc
    have hi:(C++[Box.iter b c0 (pickB bs js)])[B.length]? = some (.iter b c0 (pickB bs js)):=by rw [← hCl];simp
    have hbl:=(List.getElem?_eq_some_iff.1 hCb).1
    have hm2:(C++[Box.iter b c0 (pickB bs js)])[b]? = some (.mapX es bs c0):=by rw [List.getElem?_append_left hbl];exact hCb
    simp only [vqM,vt88,zA,zS,zM,zL,zE,zB,reduceCtorEq,vsIt]
    refine nextI_intro hi hm2 q3 (fun j hj hjb hns=>?_) (fun hall=>?_)
    · have hset:(C++[Box.iter b c0 (pickB bs js)]).set B.length (Box.iter b c0 (pickB bs js++[bs[j]]))=C++[.iter b c0 (pickB bs js++[bs[j]])]:=by rw [← hCl];simp
      have hjk:j<ks.length:=by omega
      have hjn:j ∉ js:=fun h=>hns ((mem_pickB q2 (fun i hi=>by have:=hjs.lt i hi;omega) hjb).2 h)
      have hpb:pickB bs js++[bs[j]]=pickB bs (js++[j]):=by simp [pickB,List.getD,hjb]
      have hpl:pickL ks js++[ks[j]]=pickL ks (js++[j]):=by simp [pickL,List.getD,hjk]
      dsimp only
      rw [hset]
      have hi2:(C++[Box.iter b c0 (pickB bs js++[bs[j]])])[B.length]? = some (.iter b c0 (pickB bs js++[bs[j]])):=by rw [← hCl];simp
      have hm3:(C++[Box.iter b c0 (pickB bs js++[bs[j]])])[b]? = some (.mapX es bs c0):=by rw [List.getElem?_append_left hbl];exact hCb
      have hst:=step bs c0 (pickL ks js) C L' c' ks[j] (.iter b c0 (pickB bs js++[bs[j]])) hJc (by simp [pickL];omega)
      have hk1:=hek j hj hjk
      simp only [vqM,vt88,zA,zS,zM,zL,zE,zB,reduceCtorEq,vsIt]
      refine entryI_intro hi2 hm3 hj hjb (by simp) ?_
      rw [hk1]
      simp only [vqM,vt88,zA,zS,zM,zL,zE,zB,reduceCtorEq,vsIt]
      refine callI_ofQ (f:=.yield n) (show CallVQ _ (.yield n) _ _ _ from hst) ?_
      rintro r s1 ⟨rfl,C2,L2,c2,hJ2,rfl⟩
      simp only [vqM,vt88,zA,zS,zM,zL,zE,zB,reduceCtorEq,vsIt]
      refine awN_keep [0,5] ?_
      simp only [vke,zB,zA]
      rw [hpl] at hJ2
      rw [hpb]
      exact ih _ _ ⟨js++[j],C2,L2,c2,hjs.snoc hjk hjn,by simp [hjl],hJ2,rfl,rfl⟩
    · exfalso
      have:List.range ks.length ⊆ js:=fun j hj=>by
        have hj:=List.mem_range.1 hj
        have hjb:j<bs.length:=by omega
        exact (mem_pickB q2 (fun i hi=>by have:=hjs.lt i hi;omega) hjb).1 (hall _ (List.getElem_mem hjb))
      have:=List.nodup_range.length_le_of_subset this
      simp at this;omega
  · rintro e s ⟨js,C,L',c',hjs,hjl,hJc,rfl,rfl⟩
    obtain ⟨hCl,hCb⟩:=hJ _ _ _ _ _ _ hJc
    have hi:(C++[Box.iter b c0 (pickB bs js)])[B.length]? = some (.iter b c0 (pickB bs js)):=by rw [← hCl];simp
    have hbl:=(List.getElem?_eq_some_iff.1 hCb).1
    have hm2:(C++[Box.iter b c0 (pickB bs js)])[b]? = some (.mapX es bs c0):=by rw [List.getElem?_append_left hbl];exact hCb
    simp only [vqM,vt88,zA,zS,zM,zL,zE,zB,reduceCtorEq,vsIt]
    refine nextI_intro hi hm2 q3 (fun j hj hjb hns=>?_) (fun hall=>?_)
    · exact absurd ((mem_pickB q2 (fun i hi=>by have:=hjs.lt i hi;omega) hjb).2 (hjs.all hjl (by omega))) hns
    · simp only [vqM,vt88,zA,zS,zM,zL,zE,zB,reduceCtorEq,vsIt]
      refine retA (.inl rfl) (r:=.tup []) ?_ ⟨rfl,bs,c0,_,C,L',c',_,pickL_perm hjs hjl,hJc,rfl⟩
      simp only [vqM,vt88,zA,zS,zM,zL,zE,zB,reduceCtorEq]
      rfl
theorem range_keys {X:Draws} {f:Operand} {ps:List Tmp} {asg bo:Code} {Q:QC} {e:List D} {B:List Box} {L:List Nat} {n m b:Nat} (ks:List Int) (es:List (D × D)) (hes:es.map (·.1)=ks.map (D.int .i64 ·)) (I:List Nat→Nat→List Int→List Box→List Nat→Nat→Prop)
    (hf:val e f=.func (.func 103) [] [.box m 0]) (hm:B[m]? = some (.cells [.map b])) (hb:B[b]? = some (.map es))
    (hI0:∀ bs c0,I bs c0 [] (B.set b (.mapX es bs c0)) L n) (hI:∀ bs c0 out C L c,I bs c0 out C L c→C.length=B.length∧C[b]? = some (.mapX es bs c0))
    (step:drawsOk X asg=true→drawsOk X bo=true→∀ bs c0 out C L c x it,I bs c0 out C L c→out.length<ks.length→YSemQ Tryz.prog B.length [.int .i64 x] ⟨C++.loop ps asg bo e .ready none::[it],L,c⟩ fun r s1=>r=.bool true∧∃ C' L' c',I bs c0 (out++[x]) C' L' c'∧s1=⟨C'++.loop ps asg bo e .ready none::[it],L',c'⟩)
    (hend:∀ bs c0 out C L c it,out.Perm ks→I bs c0 out C L c→@qI .normal e ⟨C.set b (.map es)++.dead::[it],L,c⟩ Q):@AWNI X none Tryz.prog (.rangeFunc f ps.toArray asg bo) e ⟨B,L,n⟩ Q:=by
  have hbl:=(List.getElem?_eq_some_iff.1 hb).1
  have key:drawsOk X asg=true→drawsOk X bo=true→SpecQ Tryz.prog 103 [.yield B.length,.box m 0] ⟨B++[.loop ps asg bo e .ready none],L,n⟩ fun r s=>∃ bs c0 out C L' c' it,out.Perm ks∧I bs c0 out C L' c'∧s=⟨C.set b (.map es)++.loop ps asg bo e .ready none::[it],L',c'⟩:=by
    intro q1 q2
    refine SpecQ.unMapX (t_Keys1 ks es hes (B:=B++[.loop ps asg bo e .ready none]) (box_lt hm) (box_lt hb) (fun bs c0 out C L' c'=>∃ C0,I bs c0 out C0 L' c'∧C=C0++[.loop ps asg bo e .ready none]) (fun bs c0=>⟨_,hI0 bs c0,by rw [List.set_append_left _ _ hbl]⟩) ?_ ?_) ?_
    · rintro bs c0 out C L c ⟨C0,h,rfl⟩
      obtain ⟨h1,h2⟩:=hI _ _ _ _ _ _ h
      exact ⟨by simp [h1],box_lt h2⟩
    · rintro bs c0 out C L c x it ⟨C0,h,rfl⟩ hlt
      have:=step q1 q2 bs c0 out C0 L c x it h hlt
      simp only [List.append_assoc,List.cons_append,List.nil_append] at this ⊢
      refine CallVQ.mono (show CallVQ _ (.yield B.length) _ _ _ from this) ?_
      rintro r s1 ⟨rfl,C',L',c',h',rfl⟩
      exact ⟨rfl,_,L',c',⟨C',h',rfl⟩,by simp⟩
    · rintro r t ⟨rfl,bs,c0,out,C,L',c',it,hp,⟨C0,h,rfl⟩,rfl⟩
      obtain ⟨h1,h2⟩:=hI _ _ _ _ _ _ h
      have h3:=(List.getElem?_eq_some_iff.1 h2).1
      refine ⟨b,es,bs,c0,?_,bs,c0,out,C0,L',c',it,hp,h,?_⟩
      · simp only [List.append_assoc];exact box_lt h2
      · simp only [List.append_assoc,List.cons_append,List.nil_append]
        rw [List.set_append_left _ _ h3]
  refine awN_rangeFuncQ hf key ?_
  · rintro r s1 ⟨bs,c0,out,C,L',c',it,hp,h,rfl⟩
    obtain ⟨h1,h2⟩:=hI _ _ _ _ _ _ h
    have hl:(C.set b (Box.map es)).length=B.length:=by simp [h1]
    refine ⟨.ready,none,by rw [← hl,box_at0];rfl,by simp,?_⟩
    have:=hend bs c0 out C L' c' it hp h
    show @qI .normal e ⟨(C.set b (Box.map es)++.loop ps asg bo e .ready none::[it]).set B.length .dead,_,_⟩ Q
    rw [← hl,box_set0]
    exact this
theorem leave_app {B X:List Box} {L L':List Nat} {c c':Nat} (hl:∀ k,k ∈ L→k ∈ L') (hc:c≤c'):Leave ⟨B,L,c⟩ ⟨B++X,L',c'⟩ ⟨B,L,c⟩ where
  len:=by simp
  pre:=fun i bx h=>box_lt h
  old:=fun i bx h=>.inl h
  slen:=Nat.le_refl _
  live:=fun k hk=>⟨hl k hk,.inl hk⟩
  ctr:=Nat.le_refl _
  ctr':=hc
  nd:=.inl rfl
theorem t_AppendSeq (ks:List Int) (es:List (D × D)) (hes:es.map (·.1)=ks.map (D.int .i64 ·)) (hn:ks.length≤100000) {B:List Box} {L:List Nat} {c m b:Nat} (hm:B[m]? = some (.cells [.map b])) (hb:B[b]? = some (.map es)) (hW0:WfL L c) :
    SpecQ Tryz.prog 102 [.slice .nil [],.func (.func 103) [] [.box m 0]] ⟨B,L,c⟩ fun r t=>(∃ out,out.Perm ks∧r=.slice .none (intCells out))∧t=⟨B,L,c⟩:=by
  have hbl:=(List.getElem?_eq_some_iff.1 hb).1
  have hset:B.set b (.map es)=B:=by
    refine List.ext_getElem? fun i=>?_
    by_cases e:i=b
    · subst e;rw [List.getElem?_set_self hbl,hb]
    · rw [List.getElem?_set_ne (fun h=>e h.symm)]
  refine SpecQ.letQ (Z:=fun r t=>∃ out o L' c' it,out.Perm ks∧r=.slice .none (intCells out)∧OutO L c 1 o L' c'∧t=⟨B++[.cells [.slice o (intCells out)],.dead,it],L',c'⟩) ?_ ?_
  · refine SpecQ.introA [] Tryz.func102 rfl (by decide) hmix (by kernel_rfl) [ResultVar.tmp 4] 13 rfl rfl ?_
    simp only [vqM,vt25,Tryz.f102,zA,zS,zM,zL,zE,zB,reduceCtorEq]
    refine range_keys (m:=m) (b:=b) ks es hes (fun bs c0 out C L' c'=>∃ o,OutO L c 1 o L' c'∧C=B.set b (.mapX es bs c0)++[.cells [.slice o (intCells out)]]) rfl (box_lt hm) (box_lt hb) (fun bs c0=>⟨.nil,.start hW0 1,by rw [List.set_append_left _ _ hbl];rfl⟩) ?_ ?_ ?_
    · rintro bs c0 out C L' c' ⟨o,hO,rfl⟩
      refine ⟨by simp,?_⟩
      rw [List.getElem?_append_left (by simpa using hbl),List.getElem?_set_self hbl]
    · rintro q1 q2 bs c0 out C L' c' x it ⟨o,hO,rfl⟩ hlt
      obtain ⟨B1,hB1⟩:∃ B1,B1=B.set b (.mapX es bs c0):=⟨_,rfl⟩
      have hl:B1.length=B.length:=by rw [hB1];simp
      rw [← hB1,← hl,show (B++[Box.cells [D.slice Own.nil []]]).length=B1.length+1 by simp [hl]]
      have hof:∀ B',ownFits o (intCells out) 1 ⟨B',L',c'⟩=true:=fun B'=>hO.lv.fits (intCells_each _) B' c'
      have hl1:(out.length+1≤1000000)=True:=eq_true (by omega)
      refine YSemQ.introA hmix q1 q2 (pd:=none) (by rw [List.append_assoc,box_at];rfl) (by rfl) fun l=>?_
      clear q1 q2
      simp only [vqM,vt25,zA,zS,zM,zL,zE,zB,reduceCtorEq,putArgs]
      refine qI_assignA (pd1:=none) (by simp only [vqM,vt25,zA,zS,zM,zL,zE,zB,reduceCtorEq]) ?_
      simp only [vqM,vt25,zA,zS,zM,zL,zE,zB,reduceCtorEq,hof,relab_eq,intCells_len,hl1,intCells_app]
      refine roundA_normal (st:=.busy) (pd:=none) (by simp only [vqM,vt25,zA,zS,zM,zL,zE,zB,reduceCtorEq]) ?_
      refine ⟨rfl,_,_,_,⟨_,hO.step hW0,rfl⟩,?_⟩
      simp only [vqM,vt25,zA,zS,zM,zL,zE,zB,reduceCtorEq]
    · rintro bs c0 out C L' c' it hp ⟨o,hO,rfl⟩
      rw [List.set_append_left _ _ (by simpa using hbl),List.set_set,hset]
      simp only [vqM,vt25,zA,zS,zM,zL,zE,zB,reduceCtorEq]
      refine retA (.inr rfl) ?_ ⟨out,o,L',c',it,hp,rfl,hO,rfl⟩
      simp only [vqM,vt25,zA,zS,zM,zL,zE,zB,reduceCtorEq]
  · rintro r t ⟨out,o,L',c',it,hp,rfl,hO,rfl⟩
    exact ⟨_,weak_refl _,bd_intSl _,⟨out,hp,rfl⟩,leave_app hO.sub hO.le⟩
theorem t_Collect (ks:List Int) (es:List (D × D)) (hes:es.map (·.1)=ks.map (D.int .i64 ·)) (hn:ks.length≤100000) {B:List Box} {L:List Nat} {c m b:Nat} (hm:B[m]? = some (.cells [.map b])) (hb:B[b]? = some (.map es)) (hW0:WfL L c) :
    SpecQ Tryz.prog 60 [.func (.func 103) [] [.box m 0]] ⟨B,L,c⟩ fun r t=>(∃ out,out.Perm ks∧r=.slice .none (intCells out))∧t=⟨B,L,c⟩:=by
  refine SpecQ.introA [(0,.cut),(1,.cut)] Tryz.func60 rfl (by decide) hmix (by kernel_rfl) [ResultVar.tmp 2] 5 rfl rfl ?_
  simp only [vqM,Tryz.f60,zA,zS,zM,zL,zE,zB,reduceCtorEq]
  refine seq_go ?_
  simp only [vqM,zA,zS,zM,zL,zE,zB,reduceCtorEq,vsK]
  refine awN_seq ?_
  refine awN_callRaw 1 rfl rfl rfl rfl ?_
  simp only [vqM,zA,zS,zM,zL,zE,zB,reduceCtorEq]
  refine kI_raw (ds:=[.slice .nil [],.func (.func 103) [] [.box m 0]]) (by rfl) (by rfl) (show CallVQ _ (.func (.func 102) [] []) _ _ _ from by simpa only [CallVQ,List.nil_append,List.append_nil] using t_AppendSeq ks es hes hn hm hb hW0) ?_
  rintro r t ⟨⟨out,hp,rfl⟩,rfl⟩
  simp only [vqM,zA,zS,zM,zL,zE,zB,reduceCtorEq,vsK]
  refine awN_cw hmix ?_
  simp only [vqM,zA,zS,zM,zL,zE,zB,reduceCtorEq,vsK]
  refine retA (.inr rfl) ?_ ⟨⟨out,hp,rfl⟩,rfl⟩
  simp only [vqM,zA,zS,zM,zL,zE,zB,reduceCtorEq]
theorem t_KeysM (b:Nat) (B:List Box) (L:List Nat) (c:Nat):Spec Tryz.prog 61 [.map b] ⟨B,L,c⟩ (.func (.func 103) [] [.box B.length 0]) ⟨B++[.cells [.map b]],L,c⟩:=by
  show SpecQ _ _ _ _ _
  refine SpecQ.introA [] Tryz.func61 rfl (by decide) hmix (by kernel_rfl) [ResultVar.tmp 2] 4 rfl rfl ?_
  simp only [vqM,vt89,Tryz.f61,zA,zS,zM,zL,zE,zB,reduceCtorEq]
  refine retA (.inr rfl) ?_ ⟨rfl,rfl⟩
  simp only [vqM,vt89,zA,zS,zM,zL,zE,zB,reduceCtorEq]
end Go.V
namespace Go.Proofs
open Go.Shelf
def Tryz.laysSort_ren:Go.Shelf.Ren:=⟨fun | 189=>62 | 125=>105 | 257=>104 | 128=>137 | 129=>138 | 294=>128 | 295=>129 | 296=>130 | 297=>131 | 298=>132 | 299=>133 | 216=>134 | 300=>135 | 301=>136 | 328=>163 | 329=>164 | 330=>165 | 331=>166 | 332=>167 | 215=>168 | 343=>185 | n=>n,fun | 28=>31 | 3=>3 | 46=>165 | 0=>0 | 51=>198 | 53=>200 | 4=>4 | 183=>190 | 182=>189 | 131=>195 | 5=>5 | 9=>9 | 218=>227 | 222=>231 | 228=>243 | 229=>244 | n=>n,fun | n=>n⟩
theorem Tryz.laysSort:Go.Proofs.Lays.n189 Tryz.prog Tryz.laysSort_ren:={
  mixed:=by kernel_rfl
  f125:=Tryz.func105.trans (congrArg some (by kernel_rfl))
  f128:=Tryz.func137.trans (congrArg some (by kernel_rfl))
  f129:=Tryz.func138.trans (congrArg some (by kernel_rfl))
  f189:=Tryz.func62.trans (congrArg some (by kernel_rfl))
  f215:=Tryz.func168.trans (congrArg some (by kernel_rfl))
  f216:=Tryz.func134.trans (congrArg some (by kernel_rfl))
  f257:=Tryz.func104.trans (congrArg some (by kernel_rfl))
  f294:=Tryz.func128.trans (congrArg some (by kernel_rfl))
  f295:=Tryz.func129.trans (congrArg some (by kernel_rfl))
  f296:=Tryz.func130.trans (congrArg some (by kernel_rfl))
  f297:=Tryz.func131.trans (congrArg some (by kernel_rfl))
  f298:=Tryz.func132.trans (congrArg some (by kernel_rfl))
  f299:=Tryz.func133.trans (congrArg some (by kernel_rfl))
  f300:=Tryz.func135.trans (congrArg some (by kernel_rfl))
  f301:=Tryz.func136.trans (congrArg some (by kernel_rfl))
  f328:=Tryz.func163.trans (congrArg some (by kernel_rfl))
  f329:=Tryz.func164.trans (congrArg some (by kernel_rfl))
  f330:=Tryz.func165.trans (congrArg some (by kernel_rfl))
  f331:=Tryz.func166.trans (congrArg some (by kernel_rfl))
  f332:=Tryz.func167.trans (congrArg some (by kernel_rfl))
  f343:=Tryz.func185.trans (congrArg some (by kernel_rfl))
  t0:=Tryz.underlying0
  a0:=Tryz.isAgg0
  z0:=Tryz.sizeOf0
  v0:=Tryz.zeroValue0
  t3:=Tryz.underlying3
  a3:=Tryz.isAgg3
  z3:=Tryz.sizeOf3
  v3:=Tryz.zeroValue3
  t4:=Tryz.underlying4
  a4:=Tryz.isAgg4
  z4:=Tryz.sizeOf4
  v4:=Tryz.zeroValue4
  t5:=Tryz.underlying5
  a5:=Tryz.isAgg5
  z5:=Tryz.sizeOf5
  v5:=Tryz.zeroValue5
  t9:=Tryz.underlying9
  a9:=Tryz.isAgg9
  z9:=Tryz.sizeOf9
  v9:=Tryz.zeroValue9
  t28:=Tryz.underlying31
  a28:=Tryz.isAgg31
  z28:=Tryz.sizeOf31
  v28:=Tryz.zeroValue31
  t46:=Tryz.underlying165
  a46:=Tryz.isAgg165
  z46:=Tryz.sizeOf165
  v46:=Tryz.zeroValue165
  t51:=Tryz.underlying198
  a51:=Tryz.isAgg198
  z51:=Tryz.sizeOf198
  v51:=Tryz.zeroValue198
  t53:=Tryz.underlying200
  a53:=Tryz.isAgg200
  z53:=Tryz.sizeOf200
  v53:=Tryz.zeroValue200
  t131:=Tryz.underlying195
  a131:=Tryz.isAgg195
  z131:=Tryz.sizeOf195
  v131:=Tryz.zeroValue195
  t182:=Tryz.underlying189
  a182:=Tryz.isAgg189
  z182:=Tryz.sizeOf189
  v182:=Tryz.zeroValue189
  t183:=Tryz.underlying190
  a183:=Tryz.isAgg190
  z183:=Tryz.sizeOf190
  v183:=Tryz.zeroValue190
  t218:=Tryz.underlying227
  a218:=Tryz.isAgg227
  z218:=Tryz.sizeOf227
  v218:=Tryz.zeroValue227
  t222:=Tryz.underlying231
  a222:=Tryz.isAgg231
  z222:=Tryz.sizeOf231
  v222:=Tryz.zeroValue231
  t228:=Tryz.underlying243
  a228:=Tryz.isAgg243
  z228:=Tryz.sizeOf243
  v228:=Tryz.zeroValue243
  t229:=Tryz.underlying244
  a229:=Tryz.isAgg244
  z229:=Tryz.sizeOf244
  v229:=Tryz.zeroValue244 }
end Go.Proofs
namespace Go.V
open Go.Proofs Go.Sort
set_option maxRecDepth 20000
set_option maxHeartbeats 4000000
theorem t_SortK (l:List Int) {b:Nat} {B:List Box} {L:List Nat} {c:Nat} (hb:B[b]? = some (.cells (ints l))) (hn:l.length≤1000000):SpecQ Tryz.prog 62 [.row b 0 l.length 1] ⟨B,L,c⟩
    fun r s=>r=.tup []∧s=⟨B.set b (.cells (ints (sortI l))),L,c⟩:=by
  intro vs w g ha hw
  refine ⟨enters_of Tryz.func62 (by decide) rfl,?_⟩
  have hsz:vs.size=1:=ha.1.symm
  have hR:=ha.2 0 (by simp) (by omega)
  simp only [List.getElem_cons_zero] at hR
  generalize hv:vs[0]=v at hR
  have hvs:vs = #[v]:=by
    refine Array.ext (by simp [hsz]) fun i h1 h2=>?_
    have:i=0:=by simp at h2;omega
    subst this;simpa using hv
  subst hvs
  obtain ⟨blk,arr,T,fr,q1,q2,q3,q4,q5,rfl⟩:=hw.box b _ hb
  cases hR with
  | row _ _ _ _ blk' m cap hB hS hcap hmax hz hm =>
    rw [q1] at hB;cases hB
    have hil:(ints l).length=l.length:=by simp [ints]
    have hH:Holds (Value.int .i64) w blk 0 l.toArray:=by
      intro j hj
      have hjl:j<l.length:=by simpa using hj
      have hja:j<arr.size:=by omega
      have h1:=(q4 j (by omega) hja).1
      have h2:(ints l)[j]'(by omega)=.int .i64 l[j]:=by simp [ints]
      rw [h2] at h1
      have h3':∀ x:Value,R g (.int .i64 l[j]) x→x=.int .i64 l[j]:=fun x h=>by cases h;rfl
      have h3:arr[j]=.int .i64 l[j]:=h3' _ h1
      have h4:l.toArray[j]! = l[j]:=getElem!_pos l.toArray j hj
      refine ⟨?_,?_⟩
      · simp only [World.cell?,q2,Nat.zero_add]
        rw [h4,← h3]
        simp [hja]
      · simp [World.frozen?,q2]
    have hblk:blk<w.heap.size:=lt_of_heap q2
    have hc:Calls Tryz.prog 62 #[.slice (some ⟨blk,0,none⟩) l.length cap] w fun e w'=>e=.returned (.tuple #[])∧∃ n os,w'=grow (putRow (Value.int .i64) (Sort.ahead w n) blk 0 (l.mergeSort fun x y=>decide (x≤y)).toArray) os :=
      calls_of_every_depth fun D=>AnyS.slices_Sort_int_alone Tryz.laysSort D blk 0 cap l w hH hblk (by omega)
    refine CallsIn.mono ((callsIn_wide (n:=0)).2 hc) fun e w' h=>?_
    obtain ⟨rfl,n,os,rfl⟩:=h
    have hsl:(l.mergeSort fun x y=>decide (x≤y)).length=l.length:=(List.mergeSort_perm _ _).length_eq
    obtain ⟨arr',e1,e2,e3,e4,e5,e6,e7,e8⟩:=sorted_heap (n:=n) (os:=os) (ys:=l.mergeSort fun x y=>decide (x≤y)) q2 (by omega)
    refine ⟨_,g,.tup [],_,⟨rfl,rfl⟩,rfl,.refl g,?_,.tup _ _ rfl fun i h1=>by simp at h1⟩
    refine hw.swap (b:=b) hb q1 q2 e1 e2 e4 e5 e6 e7 e8 (by simp [ints,sortI]) fun j h1 h2=>?_
    have hj:j<(l.mergeSort fun x y=>decide (x≤y)).length:=by simpa [ints,sortI] using h1
    rw [e3 j hj h2]
    have:(ints (sortI l))[j]=.int .i64 (l.mergeSort fun x y=>decide (x≤y))[j]:=by simp [ints,sortI]
    rw [this]
    exact ⟨.int _ _,rfl⟩
open Go.Proofs
structure Ms where
  b:Nat
  es:List (D × D)
  ks:List Int
def Ms.cells (l:List Ms):List (List D):=l.map fun x=>[.map x.b]
structure Ms.Ok (B:List Box) (x:Ms):Prop where
  bx:B[x.b]? = some (.map x.es)
  ks:x.es.map (·.1)=x.ks.map (D.int .i64 ·)
  ln:x.ks.length≤1000
  ne:x.ks≠[]
def RowK (B:List Box) (row:D) (l:List Int) (X:List Box):Prop :=
  (row=.row0∧l=[]) ∨ ∃ j,row=.row (B.length+j) 0 l.length 1∧l≠[]∧X[j]? = some (.cells (ints l))
def allK (l:List Ms):List Int:=l.flatMap (·.ks)
theorem sortI_congrK {l m:List Int} (h:l.Perm m):sortI l=sortI m :=
  sortI_of (((List.mergeSort_perm _ _:(sortI l).Perm l)).trans h) ((List.pairwise_mergeSort (fun a b c h1 h2=>by simp at *;omega) (fun a b=>by simp;omega) l).imp fun h=>by simpa using h)
theorem ints_flat (l:List Int):(intCells l).flatten=ints l:=by induction l <;> simp_all [intCells,ints]
theorem ints_app (l m:List Int):ints (l++m)=ints l++ints m:=by simp [ints]
theorem allK_len:∀ {ms:List Ms} {k:Nat},(∀ x ∈ ms,x.ks.length≤1000)→ms.length≤k→(allK ms).length≤1000 * k
  | [],k,_,_=>by simp [allK]
  | x::ms,k,h,hk=>by
    have h1:=h x (by simp)
    simp only [List.length_cons] at hk
    have h2:=allK_len (ms:=ms) (k:=k - 1) (fun y hy=>h y (by simp [hy])) (by omega)
    have:allK (x::ms)=x.ks++allK ms:=by simp [allK]
    rw [this,List.length_append]
    omega
theorem t_keys (ms:List Ms) (B:List Box) (hms:∀ x ∈ ms,x.Ok B) (hl:ms.length≤10) (hne:ms≠[]) (L:List Nat) (c:Nat) (hW0:WfL L c) :
    SpecQ Tryz.prog 33 [.slice .none (Ms.cells ms)] ⟨B,L,c⟩ fun r s=>∃ b cs X,r=.row (B.length+b) 0 (compL (sortI (allK ms))).length 1∧X[b]? = some (.cells cs)∧cs.take (compL (sortI (allK ms))).length=ints (compL (sortI (allK ms)))∧s=⟨B++X,L,c⟩:=by
  have hcl:(Ms.cells ms).length=ms.length:=by simp [Ms.cells]
  refine SpecQ.introA [(1,.cut)] Tryz.func33 rfl (by decide) hmix (by kernel_rfl) [ResultVar.tmp 2] 22 rfl rfl ?_
  simp only [vqM,vt90,Tryz.f33,zA,zS,zM,zL,zE,zB,reduceCtorEq,hcl]
  refine seq_go ?_
  simp only [vqM,vt90,zA,zS,zM,zL,zE,zB,reduceCtorEq,vsK,hcl]
  refine awN_gh (gh_slot 3 (d:=.slice .nil []) rfl weak_nil) ?_
  refine awN_cw hmix ?_
  simp only [vqM,vt90,zA,zS,zM,zL,zE,zB,reduceCtorEq,vsK,hcl]
  refine awN_keep [3,6,7,8] ?_
  simp only [vke,zB,zA]
  refine awN_forR hmix ms.length (fun k e s=>∃ row l X,l.Perm (allK (ms.take k))∧RowK B row l X∧e=[.junk,.junk,.junk,row,.junk,.junk,.slice .none (Ms.cells ms),.int .i64 ms.length,.int .i64 (k:Int),.junk,.junk,.junk,.junk,.junk,.junk,.junk,.junk,.junk,.junk,.junk,.junk,.junk]∧s=⟨B++X,L,c⟩) ?_ ?_ 0 _ _ (Nat.zero_le _) ⟨.row0,[],[],.nil,.inl ⟨rfl,rfl⟩,rfl,by simp⟩
  · rintro k e s hk ⟨row,l,X,hp,hrow,rfl,rfl⟩ ih
    have hx:ms[k]? = some ms[k]:=List.getElem?_eq_getElem hk
    have hok:=hms _ (List.getElem_mem hk)
    have hg:(Ms.cells ms)[k]? = some [.map ms[k].b]:=by simp [Ms.cells,hx]
    have hklt:((k:Int)<(ms.length:Int))=True:=by simp;exact hk
    have hnext:allK (ms.take (k+1))=allK (ms.take k)++ms[k].ks:=by rw [allK,List.take_add_one,hx,List.flatMap_append];simp [allK]
    generalize ms[k]=x at hx hok hg hnext
    simp only [vqM,vt90,zA,zS,zM,zL,zE,zB,reduceCtorEq,hklt,decide_true,natle0,Int.toNat_natCast,hg]
    refine callI_spec (t_KeysM x.b _ _ _) ?_
    simp only [vqM,vt90,zA,zS,zM,zL,zE,zB,reduceCtorEq,hklt,decide_true,natle0,Int.toNat_natCast,hg]
    refine callI_specQ (t_Collect x.ks x.es hok.ks (by have:=hok.ln;omega) (m:=B.length+X.length) (b:=x.b) ?_ ?_ hW0) ?_
    · rw [← List.append_assoc,List.getElem?_append_right (by simp)];simp
    · exact box_lt hok.bx
    rintro r t ⟨⟨out,ho,rfl⟩,rfl⟩
    have hol:out.length=x.ks.length:=ho.length_eq
    have hpos:0<out.length:=by have:=hok.ne;have:=List.length_pos_iff.2 this;omega
    have hxl:=hok.ln
    rcases hrow with ⟨rfl,rfl⟩ | ⟨j,rfl,hl0,hXj⟩
    · simp only [vqM,vt90,zA,zS,zM,zL,zE,zB,reduceCtorEq,hklt,decide_true,natle0,Int.toNat_natCast,hg]
      refine apZ2_intro (by decide) (intCells_each _) (by rw [intCells_len];exact hpos) (by rw [intCells_len];omega) ?_
      rw [intCells_len,ints_flat]
      simp only [vqM,vt90,zA,zS,zM,zL,zE,zB,reduceCtorEq,hklt,decide_true,natle0,Int.toNat_natCast,hg]
      rw [wrap_succ (by omega)]
      refine awN_keep [3,6,7,8] ?_
      simp only [vke,zB,zA]
      refine ih _ _ ⟨_,out,X++([.cells [.map x.b],.cells (ints out)]:List Box),?_,.inr ⟨X.length+1,?_,?_,?_⟩,rfl,?_⟩
      · rw [hnext]
        have h0:allK (ms.take k)=[]:=List.length_eq_zero_iff.1 (by have:=hp.length_eq;simpa using this.symm)
        rw [h0];exact ho
      · simp
      · exact List.length_pos_iff.1 hpos
      · rw [List.getElem?_append_right (by omega)];simp
      · simp
    · have hXj2:∀ Z,(X++Z)[j]? = some (.cells (ints l)):=fun Z=>box_lt hXj
      have hll:l.length≤1000 * k:=by
        rw [hp.length_eq]
        exact allK_len (fun y hy=>(hms y (List.mem_of_mem_take hy)).ln) (by simp;omega)
      have g1:((ints l).length=l.length * 1)=True:=by simp [ints]
      have g2:(l.length+out.length≤1000000)=True:=eq_true (by omega)
      have g3:(∀ c ∈ intCells out,c.length=1)=True:=eq_true (intCells_each _)
      have g4:ints l++(intCells out).flatten=ints (l++out):=by rw [ints_flat,ints_app]
      simp only [vqM,vt90,zA,zS,zM,zL,zE,zB,reduceCtorEq,hklt,decide_true,natle0,Int.toNat_natCast,hg,hXj2,intCells_len,g1,g2,g3,g4]
      rw [wrap_succ (by omega)]
      refine awN_keep [3,6,7,8] ?_
      simp only [vke,zB,zA]
      have hjl:=(List.getElem?_eq_some_iff.1 hXj).1
      refine ih _ _ ⟨_,l++out,(X++[Box.cells [.map x.b]]).set j .dead++[.cells (ints (l++out))],?_,.inr ⟨X.length+1,?_,?_,?_⟩,rfl,?_⟩
      · rw [hnext];exact hp.append ho
      · simp
      · intro h;exact hl0 (List.append_eq_nil_iff.1 h).1
      · rw [List.getElem?_append_right (by simp)];simp
      · simp
  · rintro e s ⟨row,l,X,hp,hrow,rfl,rfl⟩
    have hklt:((ms.length:Int)<(ms.length:Int))=False:=by simp
    rw [List.take_length] at hp
    have hll:l.length≤1000 * ms.length:=by
      rw [hp.length_eq]
      exact allK_len (fun y hy=>(hms y hy).ln) (Nat.le_refl _)
    have hs:sortI l=sortI (allK ms):=sortI_congrK hp
    rcases hrow with ⟨rfl,rfl⟩ | ⟨j,rfl,hl0,hXj⟩
    · exfalso
      obtain ⟨x,ms',rfl⟩:=List.exists_cons_of_ne_nil hne
      have h1:=(hms x (by simp)).ne
      have h2:=hp.length_eq
      simp [allK] at h2
      exact h1 (List.length_eq_zero_iff.1 (by omega))
    · have hjl:=(List.getElem?_eq_some_iff.1 hXj).1
      have hXj2:(B++X)[B.length+j]? = some (.cells (ints l)):=by rw [List.getElem?_append_right (by omega),Nat.add_sub_cancel_left];exact hXj
      have hset:∀ y,(B++X).set (B.length+j) y=B++X.set j y:=fun y=>by rw [List.set_append_right _ _ (by omega),Nat.add_sub_cancel_left]
      have hsl:(sortI l).length=l.length:=(List.mergeSort_perm _ _).length_eq
      have hpos:0<l.length:=List.length_pos_iff.2 hl0
      simp only [vqM,vt90,zA,zS,zM,zL,zE,zB,reduceCtorEq,hklt,decide_false]
      refine callI_specQ (t_SortK l hXj2 (by omega)) ?_
      rintro r t ⟨rfl,rfl⟩
      rw [hset]
      simp only [vqM,vt90,zA,zS,zM,zL,zE,zB,reduceCtorEq,hklt,decide_false]
      rw [← hsl]
      refine callI_specQ (t_CompactAt (sortI l) (b:=B.length+j) (by rw [List.getElem?_append_right (by omega),Nat.add_sub_cancel_left,List.getElem?_set_self hjl]) (by omega) (by omega)) ?_
      rintro r t ⟨cs,rfl,hcs,rfl⟩
      rw [List.set_append_right _ _ (by omega),Nat.add_sub_cancel_left,List.set_set]
      simp only [vqM,vt90,zA,zS,zM,zL,zE,zB,reduceCtorEq,hklt,decide_false]
      rw [hs] at hcs ⊢
      refine retA (.inr rfl) (r:=.row (B.length+j) 0 (compL (sortI (allK ms))).length 1) ?_ ⟨j,cs,_,rfl,by rw [List.getElem?_set_self hjl],hcs,rfl⟩
      simp only [vqM,vt90,zA,zS,zM,zL,zE,zB,reduceCtorEq]
end Go.V
