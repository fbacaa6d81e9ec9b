/- Lemmas and walks of functions; no statement. -/
import Derived.RangeFuncNested
import Derived.RangeFuncBound
import Derived.RangeFuncCalls
import Derived.RangeFuncLeaves
import Derived.WalkKit
import Derived.OwnWalkIn
import Derived.TacticsInMore
import Derived.OrdersIn
import Derived.LoopNIn
import Derived.LoopIn
import Derived.ProofKit
import Derived.Deep.Matrix
import Derived.Laws.Tables
import Derived.Laws.Externs
import Derived.Test.YtalkinejknjidaaGreatDoorProg
import Derived.Sort.Grow
import Derived.Deep.Draws
import Derived.Shelf.SlSortCmp.InsertionK
import Derived.Shelf.SlLaysF0
import Derived.Shelf.SlSortCmp.WholeK
import Derived.Shelf.SlSortCmp.NoneTotal
import Derived.Shelf.SlicesQ.Reverse
set_option linter.unusedVariables false
set_option linter.unusedSimpArgs false
namespace Go
theorem zaa:type_of% @List.Sublist.refl:=@List.Sublist.refl
theorem zab:type_of% @Nat.le_refl:=@Nat.le_refl
theorem zac:type_of% @Nat.le_trans:=@Nat.le_trans
theorem zad:type_of% @List.mem_cons:=@List.mem_cons
theorem zae:type_of% @List.mem_append:=@List.mem_append
theorem zaf:type_of% @Nat.lt_or_ge:=@Nat.lt_or_ge
theorem zag:type_of% @List.getElem?_eq_getElem:=@List.getElem?_eq_getElem
theorem zah:type_of% @List.getD_eq_getElem?_getD:=@List.getD_eq_getElem?_getD
theorem zai:type_of% @List.mem_map:=@List.mem_map
theorem zaj:type_of% @Nat.eq_of_beq_eq_true:=@Nat.eq_of_beq_eq_true
theorem zak:type_of% @List.mem_singleton:=@List.mem_singleton
theorem zal:type_of% @List.length_append:=@List.length_append
theorem zam:type_of% @List.mem_of_getElem?:=@List.mem_of_getElem?
theorem zan:type_of% @Nat.lt_of_lt_of_le:=@Nat.lt_of_lt_of_le
theorem zao:type_of% @Nat.mod_eq_of_lt:=@Nat.mod_eq_of_lt
theorem zap:type_of% @Nat.mul_add:=@Nat.mul_add
theorem zaq:type_of% @Bool.and_eq_true:=@Bool.and_eq_true
theorem zar:type_of% @List.length_map:=@List.length_map
theorem zas:type_of% @List.append_nil:=@List.append_nil
theorem zat:type_of% @Nat.mul_comm:=@Nat.mul_comm
theorem zau:type_of% @Nat.mul_assoc:=@Nat.mul_assoc
theorem zav:type_of% @List.pairwise_cons:=@List.pairwise_cons
theorem zaw:type_of% @List.length_cons:=@List.length_cons
theorem zax:type_of% @Nat.pow_succ:=@Nat.pow_succ
theorem zay:type_of% @List.map_append:=@List.map_append
theorem zaz:type_of% @List.take_of_length_le:=@List.take_of_length_le
theorem zaA:type_of% @List.append_assoc:=@List.append_assoc
theorem zaB:type_of% @Array.getElem?_eq_some_iff:=@Array.getElem?_eq_some_iff
theorem zaC:type_of% @List.all_eq_true:=@List.all_eq_true
theorem zaD:type_of% @Nat.zero_le:=@Nat.zero_le
theorem zaE:type_of% @List.length_take:=@List.length_take
theorem zaF:type_of% @List.take_length:=@List.take_length
theorem zaG:type_of% @List.map_cons:=@List.map_cons
theorem zaH:type_of% @Nat.mod_lt:=@Nat.mod_lt
theorem zaI:type_of% @Rat.mul_nonneg:=@Rat.mul_nonneg
theorem zaJ:type_of% @Nat.pow_add:=@Nat.pow_add
theorem zaK:type_of% @Rat.mul_pos:=@Rat.mul_pos
theorem zaL:type_of% @List.getElem?_eq_some_iff:=@List.getElem?_eq_some_iff
theorem zaM:type_of% @Rat.le_refl:=@Rat.le_refl
theorem zaN:type_of% @List.getElem?_take:=@List.getElem?_take
theorem zaO:type_of% @Nat.add_assoc:=@Nat.add_assoc
theorem zaP:type_of% @List.getElem_mem:=@List.getElem_mem
theorem zaQ:type_of% @Nat.add_mul:=@Nat.add_mul
theorem zaR:type_of% @List.cons_append:=@List.cons_append
theorem zaS:type_of% @Nat.min_eq_left:=@Nat.min_eq_left
theorem zaT:type_of% @Nat.mul_le_mul:=@Nat.mul_le_mul
theorem zaU:type_of% @Nat.mul_le_mul_right:=@Nat.mul_le_mul_right
theorem zaV:type_of% @List.length_drop:=@List.length_drop
theorem zaW:type_of% @Nat.pos_of_ne_zero:=@Nat.pos_of_ne_zero
theorem zaX:type_of% @List.all_cons:=@List.all_cons
theorem zaY:type_of% @List.not_mem_nil:=@List.not_mem_nil
theorem zaZ:type_of% @Rat.le_of_lt:=@Rat.le_of_lt
theorem zba:type_of% @Nat.zero_add:=@Nat.zero_add
theorem zbb:type_of% @List.take_append_drop:=@List.take_append_drop
theorem zbc:type_of% @List.mem_of_mem_take:=@List.mem_of_mem_take
theorem zbd:type_of% @Prod.ext_iff:=@Prod.ext_iff
theorem zbe:type_of% @List.map_nil:=@List.map_nil
theorem zbf:type_of% @List.getElem?_set_self:=@List.getElem?_set_self
theorem zbg:type_of% @List.mem_iff_getElem:=@List.mem_iff_getElem
theorem zbh:type_of% @Nat.div_le_self:=@Nat.div_le_self
theorem zbi:type_of% @Nat.eq_zero_or_pos:=@Nat.eq_zero_or_pos
theorem zbj:type_of% @Nat.pow_le_pow_right:=@Nat.pow_le_pow_right
theorem zbk:type_of% @List.length_nil:=@List.length_nil
theorem zbl:type_of% @List.getElem?_set_ne:=@List.getElem?_set_ne
theorem zbm:type_of% @Nat.one_mul:=@Nat.one_mul
theorem zbn:type_of% @Rat.mul_eq_zero:=@Rat.mul_eq_zero
theorem zbo:type_of% @Nat.mul_le_mul_left:=@Nat.mul_le_mul_left
theorem zbp:type_of% @List.singleton_inj:=@List.singleton_inj
theorem zbq:type_of% @List.mem_range:=@List.mem_range
theorem zbr:type_of% @Nat.lt_of_le_of_lt:=@Nat.lt_of_le_of_lt
theorem zbs:type_of% @Nat.mod_self:=@Nat.mod_self
theorem zbt:type_of% @Nat.le_succ:=@Nat.le_succ
theorem zbu:type_of% @Option.getD_some:=@Option.getD_some
theorem zbv:type_of% @List.range_succ:=@List.range_succ
theorem zbw:type_of% @Rat.intCast_sub:=@Rat.intCast_sub
theorem zbx:type_of% @List.length_set:=@List.length_set
theorem zby:type_of% @Nat.ne_of_beq_eq_false:=@Nat.ne_of_beq_eq_false
theorem zbz:type_of% @Nat.div_add_mod:=@Nat.div_add_mod
theorem zbA:type_of% @List.length_replicate:=@List.length_replicate
theorem zbB:type_of% @List.mem_of_mem_drop:=@List.mem_of_mem_drop
theorem zbC:type_of% @List.mem_or_eq_of_mem_set:=@List.mem_or_eq_of_mem_set
theorem zbD:type_of% @Nat.mod_two_eq_zero_or_one:=@Nat.mod_two_eq_zero_or_one
theorem zbE:type_of% @List.mem_cons_of_mem:=@List.mem_cons_of_mem
theorem zbF:type_of% @Rat.mkRat_self:=@Rat.mkRat_self
theorem zbG:type_of% @Rat.intCast_mul:=@Rat.intCast_mul
theorem zbH:type_of% @Int.natAbs_mul:=@Int.natAbs_mul
theorem zbI:type_of% @List.drop_left:=@List.drop_left
theorem zbJ:type_of% @List.mem_append_left:=@List.mem_append_left
theorem zbK:type_of% @List.find?_cons:=@List.find?_cons
theorem zbL:type_of% @List.map_toArray:=@List.map_toArray
theorem zbM:type_of% @Nat.add_zero:=@Nat.add_zero
theorem zbN:type_of% @List.mem_flatMap:=@List.mem_flatMap
theorem zbO:type_of% @Nat.pow_pos:=@Nat.pow_pos
theorem zbP:type_of% @List.mem_replicate:=@List.mem_replicate
theorem zbQ:type_of% @List.getElem?_map:=@List.getElem?_map
theorem zbR:type_of% @List.mem_iff_getElem?:=@List.mem_iff_getElem?
theorem zbS:type_of% @List.flatten_append:=@List.flatten_append
theorem zbT:type_of% @Array.getD_eq_getD_getElem?:=@Array.getD_eq_getD_getElem?
theorem zbU:type_of% @Nat.le_of_lt:=@Nat.le_of_lt
theorem zbV:type_of% @Nat.mul_right_comm:=@Nat.mul_right_comm
theorem zbW:type_of% @List.drop_drop:=@List.drop_drop
theorem zbX:type_of% @Nat.gcd_comm:=@Nat.gcd_comm
theorem zbY:type_of% @Int.natAbs_natCast:=@Int.natAbs_natCast
theorem zbZ:type_of% @Nat.le_of_ble_eq_true:=@Nat.le_of_ble_eq_true
theorem zca:type_of% @List.eraseIdx_sublist:=@List.eraseIdx_sublist
theorem zcb:type_of% @List.exists_cons_of_ne_nil:=@List.exists_cons_of_ne_nil
theorem zcc:type_of% @Int.natCast_mul:=@Int.natCast_mul
theorem zcd:type_of% @List.flatMap_cons:=@List.flatMap_cons
theorem zce:type_of% @Array.getElem?_eq_getElem:=@Array.getElem?_eq_getElem
theorem zcf:type_of% @Bool.or_eq_true:=@Bool.or_eq_true
theorem zcg:type_of% @Nat.mul_left_comm:=@Nat.mul_left_comm
theorem zch:type_of% @Nat.pow_mul:=@Nat.pow_mul
theorem zci:type_of% @Nat.le_mul_of_pos_right:=@Nat.le_mul_of_pos_right
theorem zcj:type_of% @List.mem_map_of_mem:=@List.mem_map_of_mem
theorem zck:type_of% @List.pairwise_append:=@List.pairwise_append
theorem zcl:type_of% @Nat.max_self:=@Nat.max_self
theorem zcm:type_of% @List.nil_append:=@List.nil_append
theorem zcn:type_of% @Nat.pow_lt_pow_right:=@Nat.pow_lt_pow_right
theorem zco:type_of% @Nat.succ_mul:=@Nat.succ_mul
theorem zcp:type_of% @Nat.le_of_eq:=@Nat.le_of_eq
theorem zcq:type_of% @Nat.beq_refl:=@Nat.beq_refl
theorem zcr:type_of% @List.length_singleton:=@List.length_singleton
theorem zcs:type_of% @List.mem_filter:=@List.mem_filter
theorem zct:type_of% @Bool.not_eq_true':=@Bool.not_eq_true'
theorem zcu:type_of% @Nat.le_of_not_lt:=@Nat.le_of_not_lt
theorem zcv:type_of% @List.length_eq_zero_iff:=@List.length_eq_zero_iff
theorem zcw:type_of% @Nat.div_eq_of_lt:=@Nat.div_eq_of_lt
theorem zcx:type_of% @List.take_append:=@List.take_append
theorem zcy:type_of% @Nat.lt_trichotomy:=@Nat.lt_trichotomy
theorem zcz:type_of% @Bool.eq_iff_iff:=@Bool.eq_iff_iff
theorem zcA:type_of% @Nat.lt_of_lt_of_eq:=@Nat.lt_of_lt_of_eq
theorem zcB:type_of% @List.take_left:=@List.take_left
theorem zcC:type_of% @List.length_eq_one_iff:=@List.length_eq_one_iff
theorem zcD:type_of% @List.length_range:=@List.length_range
theorem zcE:type_of% @Rat.div_mul_cancel:=@Rat.div_mul_cancel
theorem zcF:type_of% @Array.length_toList:=@Array.length_toList
theorem zcG:type_of% @List.getElem?_range:=@List.getElem?_range
theorem zcH:type_of% @List.getElem?_eq_none:=@List.getElem?_eq_none
theorem zcI:type_of% @Rat.sub_eq_add_neg:=@Rat.sub_eq_add_neg
theorem zcJ:type_of% @List.filterMap_cons:=@List.filterMap_cons
theorem zcK:type_of% @List.pairwise_iff_getElem:=@List.pairwise_iff_getElem
theorem zcL:type_of% @List.take_succ_eq_append_getElem:=@List.take_succ_eq_append_getElem
theorem zcM:type_of% @List.drop_eq_getElem_cons:=@List.drop_eq_getElem_cons
theorem zcN:type_of% @List.drop_of_length_le:=@List.drop_of_length_le
theorem zcO:type_of% @Nat.div_div_eq_div_mul:=@Nat.div_div_eq_div_mul
theorem zcP:type_of% @Int.sign_eq_neg_one_of_neg:=@Int.sign_eq_neg_one_of_neg
theorem zcQ:type_of% @Int.sign_eq_one_of_pos:=@Int.sign_eq_one_of_pos
theorem zcR:type_of% @Rat.natCast_lt_natCast:=@Rat.natCast_lt_natCast
theorem zcS:type_of% @Nat.gcd_pos_of_pos_right:=@Nat.gcd_pos_of_pos_right
theorem zcT:type_of% @Classical.epsilon_spec:=@Classical.epsilon_spec
theorem zcU:type_of% @List.getElem?_replicate:=@List.getElem?_replicate
theorem zcV:type_of% @List.eq_of_mem_replicate:=@List.eq_of_mem_replicate
theorem zcW:type_of% @Array.getElem?_setIfInBounds_ne:=@Array.getElem?_setIfInBounds_ne
theorem zcX:type_of% @List.mem_eraseIdx_iff_getElem?:=@List.mem_eraseIdx_iff_getElem?
end Go
set_option maxRecDepth 100000
namespace Go.SL
open Go.RowKit
structure Tp (w w':World):Prop where
 eq:w'.tape=w.tape
 le:w.drawn≤w'.drawn
theorem Tp.refl (w:World):Tp w w:=⟨rfl,zab _⟩
theorem Tp.trans {a b c:World}(k:Tp b c)(h:Tp a b):Tp a c:=⟨k.eq.trans h.eq,zac h.le k.le⟩
structure Bel (B:Nat)(w w':World):Prop where
 os:w'.os=w.os
 tape:Tp w w'
 output:w'.output=w.output
 size:w.heap.size≤w'.heap.size
 block:∀ k,k<B→w'.heap[k]? = w.heap[k]?
theorem Bel.refl (B:Nat)(w:World):Bel B w w:=⟨rfl,Tp.refl w,rfl,zab _,fun _ _=>rfl⟩
theorem Bel.trans {B:Nat}{a b c:World}(h:Bel B a b)(k:Bel B b c):Bel B a c :=
 ⟨k.os.trans h.os,k.tape.trans h.tape,k.output.trans h.output,zac h.size k.size,fun i hi=>(k.block i hi).trans (h.block i hi)⟩
theorem Bel.alloc {B:Nat}{a w:World}(h:Bel B a w)(hB:B≤w.heap.size)(o:Obj):Bel B a (w.alloc o) :=
 h.trans ⟨rfl,⟨rfl,zab _⟩,rfl,by simp,fun k hk=>Below.heap_alloc _ _ _ (by omega)⟩
theorem Bel.b {B:Nat}{w w':World}(h:Bel B w w'):Below B w w':=⟨h.os,h.tape.eq,h.output,h.size,h.block⟩
structure Gro (w w':World)(row:Option Nat):Prop where
 g:w.grownBy w' row
 le:w.drawn≤w'.drawn
theorem Gro.os {w w':World}{row:Option Nat}(h:Gro w w' row):w'.os=w.os:=h.g.os
theorem Gro.tape {w w':World}{row:Option Nat}(h:Gro w w' row):Tp w w':=⟨h.g.tape,h.le⟩
theorem Gro.output {w w':World}{row:Option Nat}(h:Gro w w' row):w'.output=w.output:=h.g.output
theorem Gro.size {w w':World}{row:Option Nat}(h:Gro w w' row):w.heap.size≤w'.heap.size:=h.g.size
theorem Gro.block {w w':World}{row:Option Nat}(h:Gro w w' row):∀ k,k<w.heap.size→some k≠row→w'.heap[k]? = w.heap[k]?:=h.g.block
def Fr (r:Option Nat):Fence:={ fn:=fun _=>True,depth:=none,alive:=false,round:=r }
abbrev Env:=List (Nat×Value)
def get:Env→Nat→Option Value
 | [],_=>none
 | (k,v)::E,i=>bif Nat.beq k i then some v else get E i
theorem xO {k i:Nat}{v:Value}{E:Env}(h:Nat.beq k i=true):get ((k,v)::E) i=some v:=by simp[get,h]
theorem kV {k i:Nat}{v:Value}{E:Env}(h:Nat.beq k i=false):get ((k,v)::E) i=get E i:=by simp[get,h]
structure Has (a:Act)(N:Nat)(E:Env):Prop where
 size:a.tmps.size=N
 at_:∀ i v,get E i=some v→a.tmps[i]? = some v
theorem Has.put {a:Act}{N:Nat}{E:Env}(h:Has a N E){d:Nat}(hd:Nat.blt d N=true)(v:Value):Has (a.put (some d) v) N ((d,v)::E):=by
 have hd:d<N:=by simpa [Nat.blt_eq] using hd
 refine⟨by simp[Act.put,h.size],fun i u hu=>?_⟩;simp only[Act.put];unfold get at hu;cases hb:Nat.beq d i with
 | true =>
  have hi:d=i:=zaj hb;subst hi;simp[hb] at hu;subst hu;simp[h.size,hd]
 | false =>
  rw[hb] at hu;have hne:d≠i:=zby hb;rw[zcW hne];exact h.at_ i u hu
def ev (E:Env):Operand→Option Value
 | .tmp t=>get E t
 | .const v=>some v
 | .global g=>some (.pointer (some ⟨g,0,none⟩))
 | .func f=>some (.func (.func f) #[] #[])
theorem Has.ev {a:Act}{N:Nat}{E:Env}(h:Has a N E){x:Operand}{v:Value}(hx:ev E x=some v):a.eval x=v:=by
 cases x with
 | tmp t =>
  have:=h.at_ t v hx;simp[Act.eval,this]
 | const u=>exact Option.some.inj hx
 | global g=>exact Option.some.inj hx
 | func f=>exact Option.some.inj hx
def evs (E:Env):List Operand→Option (List Value)
 | []=>some []
 | x::r=>match ev E x,evs E r with
  | some v,some vs=>some (v::vs)
  | _,_=>none
theorem Has.evs {a:Act}{N:Nat}{E:Env}(h:Has a N E):∀ {xs:List Operand} {vs:List Value},evs E xs=some vs→xs.map a.eval=vs
 | [],vs,hv=>by simpa [SL.evs] using hv
 | x::r,vs,hv=>by
  unfold SL.evs at hv;cases h1:SL.ev E x with
  | none=>simp[h1] at hv
  | some v =>
   cases h2:SL.evs E r with
   | none=>simp[h1,h2] at hv
   | some us =>
    simp[h1,h2] at hv;subst hv;simp[h.ev h1,Has.evs h h2]
abbrev Pd:=List Deferred→Env→World→Prop
def Ops (P:Program)(r:Option Nat)(N:Nat)(all:Array Oper)(K:Pd)(l:List Oper)(D:List Deferred)(E:Env)(w:World):Prop :=
 ∀(a:Act) (Q:Exit→Act→World→Prop),Has a N E→a.defers=D →
  (∀ a' w' E',Has a' N E'→K a'.defers E' w'→Q .normal a' w')→wpListIn (Fr r) 0 P all Q l a w
def toQ (N:Nat)(Kn:Pd)(Ke:Nat→Pd)(Kr:Pd):Exit→Act→World→Prop
 | .normal,a,w=>∃ E,Has a N E∧Kn a.defers E w
 | .exit id,a,w=>∃ E,Has a N E∧Ke id a.defers E w
 | .ret,a,w=>∃ E,Has a N E∧Kr a.defers E w
 | _,_,_=>False
def Wp (P:Program)(r:Option Nat)(N:Nat)(c:Code)(Kn:Pd)(Ke:Nat→Pd)(Kr:Pd)(D:List Deferred)(E:Env)(w:World):Prop :=
 ∀ a:Act,Has a N E→a.defers=D→c.wpIn (Fr r) 0 P (toQ N Kn Ke Kr) a w
def upd (Ke:Nat→Pd)(id:Nat)(K:Pd):Nat→Pd:=fun i=>if i=id then K else Ke i
section rules
variable {P : Program} {r : Option Nat} {N : Nat} {Kn Kr : Pd} {Ke : Nat → Pd} {D : List Deferred} {E : Env} {w : World}
theorem nU {x y:Code}(h:Wp P r N x (fun D E w=>Wp P r N y Kn Ke Kr D E w) Ke Kr D E w):Wp P r N (.seq x y) Kn Ke Kr D E w:=by
 intro a ha hd;refine wpIn_seq (wpIn_mono (h a ha hd) ?_);intro e a' w' hq;cases e with
 | normal=>obtain⟨E',hE,hk⟩:=hq;exact hk a' hE rfl
 | exit id=>exact hq
 | ret=>exact hq
 | goto l=>exact hq
 | panic c=>exact hq
 | outgrown=>exact hq
theorem zQ9 (h:Kn D E w):Wp P r N .skip Kn Ke Kr D E w:=fun _ ha hd=>wpIn_skip ⟨E,ha,by rw[hd];exact h⟩
theorem yB6 (h:Kr D E w):Wp P r N .ret Kn Ke Kr D E w:=fun _ ha hd=>wpIn_ret ⟨E,ha,by rw[hd];exact h⟩
theorem wp_exit {id:Nat}(h:Ke id D E w):Wp P r N (.exit id) Kn Ke Kr D E w:=fun _ ha hd=>wpIn_exit ⟨E,ha,by rw[hd];exact h⟩
theorem wp_block {id:Nat}{c:Code}(h:Wp P r N c Kn (upd Ke id Kn) Kr D E w):Wp P r N (.block id c) Kn Ke Kr D E w:=by
 intro a ha hd;refine wpIn_block (wpIn_mono (h a ha hd) ?_);intro e a' w' hq;cases e with
 | normal=>exact hq
 | exit i =>
  obtain⟨E',hE,hk⟩:=hq;simp only[upd] at hk;show if i=id then _ else _;by_cases hi:i=id
  ·rw[if_pos hi] at hk ⊢; exact⟨E',hE,hk⟩
  ·rw[if_neg hi] at hk ⊢; exact⟨E',hE,hk⟩
 | ret=>exact hq
 | goto l=>exact hq
 | panic c=>exact hq
 | outgrown=>exact hq
theorem wp_cond_t {c:Operand}{x y:Code}(hc:ev E c=some (.bool true))(h:Wp P r N x Kn Ke Kr D E w):Wp P r N (.cond c x y) Kn Ke Kr D E w :=
 fun a ha hd=>wpIn_cond_true (ha.ev hc) (h a ha hd)
theorem wp_cond_f {c:Operand}{x y:Code}(hc:ev E c=some (.bool false))(h:Wp P r N y Kn Ke Kr D E w):Wp P r N (.cond c x y) Kn Ke Kr D E w :=
 fun a ha hd=>wpIn_cond_false (ha.ev hc) (h a ha hd)
theorem zR0 {c:Operand}{x y:Code}{b:Bool}(hc:ev E c=some (.bool b))(ht:b=true→Wp P r N x Kn Ke Kr D E w)(hf:b=false→Wp P r N y Kn Ke Kr D E w) :
  Wp P r N (.cond c x y) Kn Ke Kr D E w:=by
 cases b
 ·exact wp_cond_f hc (hf rfl)
 ·exact wp_cond_t hc (ht rfl)
theorem wp_cond_d {c:Operand}{x y:Code}{p:Prop}[Decidable p](hc:ev E c=some (.bool (decide p)))(ht:p→Wp P r N x Kn Ke Kr D E w)(hf:¬ p→Wp P r N y Kn Ke Kr D E w) :
  Wp P r N (.cond c x y) Kn Ke Kr D E w :=
 zR0 hc (fun h=>ht (of_decide_eq_true h)) (fun h=>hf (of_decide_eq_false h))
theorem eJ {id:Nat}{l:List Oper}(h:Ops P r N l.toArray Kn l D E w):Wp P r N (.region id l.toArray false) Kn Ke Kr D E w :=
 fun a ha hd=>wpIn_region_lit (h a _ ha hd fun _ _ E' hE hk=>⟨E',hE,hk⟩)
end rules
def CallsV (P:Program)(f:FuncId)(args:List Value)(w:World)(R:Value→World→Prop):Prop :=
 Calls P f args.toArray w fun e w'=>∃ v,e = .returned v∧R v w'
theorem CallsV.mono {P:Program}{f:FuncId}{args:List Value}{w:World}{R R':Value→World→Prop}(h:CallsV P f args w R)(hr:∀ v w',R v w'→R' v w'):CallsV P f args w R' :=
 Calls.mono h fun _ _ ⟨v,he,hv⟩=>⟨v,he,hr v _ hv⟩
def env0:Nat→List Value→Env
 | _,[]=>[]
 | i,v::r=>(i,v)::env0 (i+1) r
theorem env0_has (N:Nat)(args:List Value)(hN:Nat.ble args.length N=true)(D:List Deferred) :
  Has { tmps:=args.toArray++Array.replicate (N-args.toArray.size) undef,defers:=D } N (env0 0 args):=by
 have hN:args.length≤N:=by simpa [Nat.ble_eq] using hN
 have key:∀(l:List Value) (k:Nat) i v,get (env0 k l) i=some v→k≤i∧l[i-k]? = some v:=by
  intro l
  induction l with
  | nil=>intro k i v h;simp[env0,get] at h
  | cons u l ih =>
   intro k i v h;unfold env0 get at h;cases hb:Nat.beq k i with
   | true =>
    have hi:k=i:=zaj hb;subst hi;simp[hb] at h;simp[h]
   | false =>
    rw[hb] at h;obtain⟨h1,h2⟩:=ih (k+1) i v h;refine⟨by omega,?_⟩;have:i-k=(i-(k+1))+1:=by omega
    rw[this];simpa using h2
 refine⟨by simp;omega,fun i v h=>?_⟩;obtain⟨_,h2⟩:=key args 0 i v h;simp at h2;have hlt:i<args.length:=(zaL.1 h2).1;simp[Array.getElem?_append,hlt];exact(zaL.1 h2).2
def gW:List Value→Value
 | [v]=>v
 | vs => .tuple vs.toArray
end Go.SL
namespace Go.SL
open Go.RowKit
def Res (P:Program)(E:Env)(w:World):List ResultVar→List Value→Prop
 | [],[]=>True
 | .tmp t::r,v::vs=>get E t=some v∧Res P E w r vs
 | .cell a t::r,v::vs=>(∃ ad,get E a=some (.pointer (some ad))∧(loadVar t ad).run P w = .ok v w)∧Res P E w r vs
 | _,_=>False
def zN9:List Deferred→World→(World→Prop)→Prop
 | [],w,K=>K w
 | d::ds,w,K=>∃ b,d.target = .collected b∧w.heap[b]? = some (.deferred (some []))∧zN9 ds (w.putObj b (.deferred none)) K
theorem lW {w:World}{K:World→Prop}(h:K w):zN9 [] w K:=h
def Fin (P:Program)(rs:List ResultVar)(R:Value→World→Prop):Pd :=
 fun D E w=>zN9 D w fun w'=>∃ vs,Res P E w' rs vs∧R (gW vs) w'
theorem res_run {P:Program}{fn:Func}{a:Act}{N:Nat}{E:Env}{w:World}(ha:Has a N E){vs:List Value}(h:Res P E w fn.results.toList vs) :
  (results fn a.tmps).run P w = .ok (gW vs) w:=by
 have key:∀(rs:List ResultVar) (vs:List Value),Res P E w rs vs →
   (rs.mapM (m:=Sem) fun | .tmp t=>pure (a.tmps.getD t undef) | .cell b t=>do loadVar t (← asAddr (a.tmps.getD b undef))).run P w = .ok vs w:=by
  intro rs
  induction rs with
  | nil=>intro vs h;cases vs with
   | nil=>rfl
   | cons=>exact h.elim
  | cons x rs ih =>
   intro vs h;cases vs with
   | nil=>cases x<;>exact h.elim
   | cons v vs =>
    rw[List.mapM_cons];cases x with
    | tmp t =>
     obtain⟨h1,h2⟩:=h;have e1:a.tmps.getD t undef=v:=by simp[ha.at_ t v h1]
     have e2:=ih vs h2;simp only[e1];simp only[Sem.run_bind,Sem.run_pure,Result.andThen] at e2 ⊢;rw[e2]
    | cell b t =>
     obtain⟨⟨ad,h1,h3⟩,h2⟩:=h;have e1:a.tmps.getD b undef = .pointer (some ad):=by simp[ha.at_ b _ h1]
     have e2:=ih vs h2;have e3:asAddr (a.tmps.getD b undef)=pure ad:=by rw[e1];rfl
     simp only[e3];simp only[Sem.run_bind,Sem.run_pure,Result.andThen] at e2 ⊢;rw[h3];simp only[];rw[e2]
 have hk:=key fn.results.toList vs h;unfold results;rw[Array.mapM_eq_mapM_toList];generalize hg:List.mapM (m:=Sem) _ fn.results.toList=m;have hm:m.run P w = .ok vs w:=by rw[← hg];exact hk
 simp only[Sem.run_bind,Sem.run_pure,Result.andThen,map_eq_pure_bind];rw[hm];simp only[];cases vs with
 | nil=>rfl
 | cons v vs=>cases vs with
  | nil=>rfl
  | cons u us=>simp[gW]
theorem aM {P:Program}{f:FuncId}{fn:Func}{c:Code}{args:List Value}{w:World}{R:Value→World→Prop}{N:Nat}
  (hf:P.funcs[f]? = some fn) (hb:fn.body=some c) (hn:fn.ntmps=N) (hN:Nat.ble args.length N=true)
  (h:Wp P none N c (Fin P fn.results.toList R) (fun _ _ _ _=>False) (Fin P fn.results.toList R) [] (env0 0 args) w):CallsV P f args w R:=by
 have hw:=h { tmps:=args.toArray++Array.replicate (N-args.toArray.size) undef,defers:=[] } (env0_has N args hN []) rfl;refine(callsIn_wide (n:=0)).1 (callsIn_of_wp_marks hf hb trivial ?_ rfl);rw[hn];refine wpIn_mono hw ?_;have hleave:∀(D:List Deferred) (a:Act) (E:Env) (w:World),Has a N E→zN9 D w (fun w'=>∃ vs,Res P E w' fn.results.toList vs∧R (gW vs) w') →
   LeavesInM Fence.wide 0 P fn a.tmps (fun e w'=>∃ v,e = .returned v∧R v w') D .returning w:=by
  intro D
  induction D with
  | nil =>
   intro a E w ha hl;obtain⟨vs,h1,h2⟩:=hl;exact⟨gW vs,res_run ha h1,_,rfl,h2⟩
  | cons d ds ih =>
   intro a E w ha hl;obtain⟨b,h1,h2,h3⟩:=hl;exact⟨by simp,.inl ⟨b,_,h1,run_takeDeferred h2,ih a E _ ha h3⟩⟩
 intro e a' w' hq;cases e with
 | normal=>obtain⟨E,hE,hk⟩:=hq;exact hleave _ _ _ _ hE hk
 | ret=>obtain⟨E,hE,hk⟩:=hq;exact hleave _ _ _ _ hE hk
 | exit id=>obtain⟨E,hE,hk⟩:=hq;exact hk.elim
 | goto l=>exact hq.elim
 | panic c=>exact hq.elim
 | outgrown=>exact hq.elim
section ops
variable {P : Program} {r : Option Nat} {N : Nat} {all : Array Oper} {K : Pd} {D : List Deferred} {E : Env} {w : World} {rest : List Oper}
theorem xH (h:K D E w):Ops P r N all K [] D E w:=fun a Q ha hd hk=>wpListIn_nil (hk a w E ha (by rw[hd];exact h))
theorem kP {ro:Option Nat}{ρ:Operand→Value}{o:Oper}(h:∀ c,o.op ≠ .defer c):Oper.semAt ro ρ o=execOp ρ o:=Oper.semAt_eq ro ρ o h
theorem yB {d:Nat}{op:Op}{t:TypeId}{pos:String}{af:Array Edge}{v:Value}{w':World}(hd:Nat.blt d N=true)(hop:∀ c,op ≠ .defer c)
  (hrun:∀ a,Has a N E→(execOp a.eval ⟨some d,op,t,pos,af,none⟩).run P w = .ok (.value v) w')
  (h:Ops P r N all K rest D ((d,v)::E) w'):Ops P r N all K (⟨some d,op,t,pos,af,none⟩::rest) D E w:=by
 intro a Q ha hD hk;refine wpListIn_plain rfl fun K' hK'=>⟨fun _ _=>trivial,?_⟩;rw[kP hop];rw[hrun a ha];exact hK' _ _ (h (a.put (some d) v) Q (ha.put hd v) hD hk)
theorem ops_eff {op:Op}{t:TypeId}{pos:String}{af:Array Edge}{w':World}(hop:∀ c,op ≠ .defer c)
  (hrun:∀ a,Has a N E→(execOp a.eval ⟨none,op,t,pos,af,none⟩).run P w = .ok .skip w')
  (h:Ops P r N all K rest D E w'):Ops P r N all K (⟨none,op,t,pos,af,none⟩::rest) D E w:=by
 intro a Q ha hD hk;refine wpListIn_plain rfl fun K' hK'=>⟨fun _ _=>trivial,?_⟩;rw[kP hop];rw[hrun a ha];exact hK' _ _ (h a Q ha hD hk)
theorem mL {d:Option Nat}{op:Op}{t:TypeId}{pos:String}{af:Array Edge}{j dj:Nat}{b:Bool}(hj:(all[j]?).bind (·.dst)=some dj)(hv:get E dj=some (.bool b))
  (h:Ops P r N all K (⟨d,op,t,pos,af,none⟩::rest) D E w):Ops P r N all K (⟨d,op,t,pos,af,some (j,b)⟩::rest) D E w:=by
 intro a Q ha hD hk;have h1:=h a Q ha hD hk;have hy:yielded all a.tmps j=some b:=by simp[yielded,hj,ha.at_ dj _ hv]
 unfold wpListIn at h1 ⊢;simp only[Region.wanted,hy] at h1 ⊢;rw[if_pos trivial] at h1;rw[if_pos (by simp)];unfold Oper.wpIn Oper.uponIn Oper.semAt execOp at h1 ⊢;exact⟨fun _ _=>trivial,h1.2⟩
theorem mM {d:Nat}{op:Op}{t:TypeId}{pos:String}{af:Array Edge}{j dj:Nat}{b c:Bool}(hd:Nat.blt d N=true)(hj:(all[j]?).bind (·.dst)=some dj)(hv:get E dj=some (.bool c))(hbc:(c == b)=false)
  (h:Ops P r N all K rest D ((d,undef)::E) w):Ops P r N all K (⟨some d,op,t,pos,af,some (j,b)⟩::rest) D E w:=by
 intro a Q ha hD hk;have h1:=h (a.put (some d) undef) Q (ha.put hd undef) hD hk;have hy:yielded all a.tmps j=some c:=by simp[yielded,hj,ha.at_ dj _ hv]
 have hne:¬ c=b:=by simpa using hbc
 unfold wpListIn;simp only[Region.wanted,hy];rw[if_neg (by simpa using hne)];exact⟨fun _ _=>trivial,h1⟩
theorem iM {d:Nat}{x:Operand}{t:TypeId}{pos:String}{af:Array Edge}{v:Value}(hd:Nat.blt d N=true)(hx:ev E x=some v)
  (h:Ops P r N all K rest D ((d,v)::E) w):Ops P r N all K (⟨some d,.move x,t,pos,af,none⟩::rest) D E w :=
 yB hd (by intro c hc;cases hc) (fun a ha=>by simp only[execOp,ha.ev hx];rfl) h
theorem fV {d:Nat}{x:Operand}{t:TypeId}{pos:String}{af:Array Edge}{v:Value}(hd:Nat.blt d N=true)(hx:ev E x=some v)
  (h:Ops P r N all K rest D ((d,v)::E) w):Ops P r N all K (⟨some d,.assign x,t,pos,af,none⟩::rest) D E w :=
 yB hd (by intro c hc;cases hc) (fun a ha=>by simp only[execOp,ha.ev hx];rfl) h
theorem zJ3 {d:Nat}{c x y:Operand}{t:TypeId}{pos:String}{af:Array Edge}{b:Bool}{v:Value}(hd:Nat.blt d N=true)(hc:ev E c=some (.bool b))(hx:ev E (if b then x else y)=some v)
  (h:Ops P r N all K rest D ((d,v)::E) w):Ops P r N all K (⟨some d,.pick c x y,t,pos,af,none⟩::rest) D E w :=
 yB hd (by intro c hc;cases hc) (fun a ha=>by
  have:=ha.ev hx;simp only[execOp,ha.ev hc];cases b<;>simp_all [asBool,Sem.run_bind,Result.andThen]) h
theorem ops_not {d:Nat}{x:Operand}{t t':TypeId}{pos:String}{af:Array Edge}{b:Bool}(hd:Nat.blt d N=true)(hx:ev E x=some (.bool b))
  (h:Ops P r N all K rest D ((d,.bool (!b))::E) w):Ops P r N all K (⟨some d,.unOp .not t x,t',pos,af,none⟩::rest) D E w :=
 yB hd (by intro c hc;cases hc) (fun a ha=>by simp only[execOp,ha.ev hx];rfl) h
theorem ops_extract {d i:Nat}{x:Operand}{t:TypeId}{pos:String}{af:Array Edge}{vs:Array Value}{v:Value}(hd:Nat.blt d N=true)(hx:ev E x=some (.tuple vs))(hv:vs[i]? = some v)
  (h:Ops P r N all K rest D ((d,v)::E) w):Ops P r N all K (⟨some d,.extract x i,t,pos,af,none⟩::rest) D E w :=
 yB hd (by intro c hc;cases hc) (fun a ha=>by simp[execOp,ha.ev hx,Instr.extract,hv,Sem.run_bind,Result.andThen]) h
theorem ops_makeFunc {d:Nat}{f:FuncId}{ca:Array Operand}{t:TypeId}{pos:String}{af:Array Edge}{vs:List Value}(hd:Nat.blt d N=true)(hx:evs E ca.toList=some vs)
  (h:Ops P r N all K rest D ((d,.func (.func f) #[] vs.toArray)::E) w):Ops P r N all K (⟨some d,.makeFunc (.func f) #[] ca,t,pos,af,none⟩::rest) D E w :=
 yB hd (by intro c hc;cases hc) (fun a ha=>by
  have h1:=ha.evs hx;have h2:Array.map a.eval ca=vs.toArray:=by apply Array.toList_inj.1;simpa using h1
  have h3:Array.map a.eval #[]=#[]:=by simp
  simp only[execOp,h2,h3];rfl) h
theorem kN (op:BinOp)(t:TypeId)(k:IntKind)(a b:Int)(h:op = .eql∨op = .neq∨op = .lss∨op = .leq∨op = .gtr∨op = .geq) :
  binOp op t (.int k a) (.int k b)=Op.intCmp op a b:=by
 rcases h with rfl | rfl | rfl | rfl | rfl | rfl<;>(show (if k≠k then _ else _)=_)<;>rw[if_neg (by simp)]
theorem binOp_arith (op:BinOp)(t:TypeId)(k:IntKind)(a b:Int)(h:op = .add∨op = .sub∨op = .mul) :
  binOp op t (.int k a) (.int k b)=Op.intArith op k a b:=by
 rcases h with rfl | rfl | rfl<;>(show (if k≠k then _ else _)=_)<;>rw[if_neg (by simp)]
theorem binOp_div (op:BinOp)(t:TypeId)(k:IntKind)(a b:Int)(h:op = .quo∨op = .rem) :
  binOp op t (.int k a) (.int k b)=Op.intDiv op k a b:=by
 rcases h with rfl | rfl<;>(show (if k≠k then _ else _)=_)<;>rw[if_neg (by simp)]
theorem rB (op:BinOp)(t:TypeId)(k:IntKind)(a b:Int)(h:op = .and∨op = .or∨op = .xor∨op = .andNot) :
  binOp op t (.int k a) (.int k b)=Op.intBits op k a b:=by
 rcases h with rfl | rfl | rfl | rfl<;>(show (if k≠k then _ else _)=_)<;>rw[if_neg (by simp)]
theorem uO {d:Nat}{op:BinOp}{x y:Operand}{tx ty t:TypeId}{pos:String}{af:Array Edge}{k:IntKind}{a b:Int}{v:Value}(hd:Nat.blt d N=true)
  (hx:ev E x=some (.int k a)) (hy:ev E y=some (.int k b)) (hv:∀ w,(binOp op tx (.int k a) (.int k b)).run P w = .ok v w)
  (h:Ops P r N all K rest D ((d,v)::E) w):Ops P r N all K (⟨some d,.binOp op tx x y ty,t,pos,af,none⟩::rest) D E w :=
 yB hd (by intro c hc;cases hc) (fun ac ha=>by
  have hg:(eqGuard op tx x y (.int k a) (.int k b)).run P w = .ok () w:=by unfold eqGuard;cases op<;>rfl
  simp only[execOp,ha.ev hx,ha.ev hy,Sem.run_bind,hg,Result.andThen,hv];rfl) h
theorem ops_lt {d:Nat}{x y:Operand}{tx ty t:TypeId}{pos:String}{af:Array Edge}{k:IntKind}{a b:Int}(hd:Nat.blt d N=true)
  (hx:ev E x=some (.int k a)) (hy:ev E y=some (.int k b))
  (h:Ops P r N all K rest D ((d,.bool (decide (a<b)))::E) w):Ops P r N all K (⟨some d,.binOp .lss tx x y ty,t,pos,af,none⟩::rest) D E w :=
 uO hd hx hy (fun w=>by rw[kN _ _ _ _ _ (by simp)];rfl) h
theorem ops_le {d:Nat}{x y:Operand}{tx ty t:TypeId}{pos:String}{af:Array Edge}{k:IntKind}{a b:Int}(hd:Nat.blt d N=true)
  (hx:ev E x=some (.int k a)) (hy:ev E y=some (.int k b))
  (h:Ops P r N all K rest D ((d,.bool (decide (a≤b)))::E) w):Ops P r N all K (⟨some d,.binOp .leq tx x y ty,t,pos,af,none⟩::rest) D E w :=
 uO hd hx hy (fun w=>by rw[kN _ _ _ _ _ (by simp)];rfl) h
theorem ops_gt {d:Nat}{x y:Operand}{tx ty t:TypeId}{pos:String}{af:Array Edge}{k:IntKind}{a b:Int}(hd:Nat.blt d N=true)
  (hx:ev E x=some (.int k a)) (hy:ev E y=some (.int k b))
  (h:Ops P r N all K rest D ((d,.bool (decide (b<a)))::E) w):Ops P r N all K (⟨some d,.binOp .gtr tx x y ty,t,pos,af,none⟩::rest) D E w :=
 uO hd hx hy (fun w=>by rw[kN _ _ _ _ _ (by simp)];rfl) h
theorem ops_ge {d:Nat}{x y:Operand}{tx ty t:TypeId}{pos:String}{af:Array Edge}{k:IntKind}{a b:Int}(hd:Nat.blt d N=true)
  (hx:ev E x=some (.int k a)) (hy:ev E y=some (.int k b))
  (h:Ops P r N all K rest D ((d,.bool (decide (b≤a)))::E) w):Ops P r N all K (⟨some d,.binOp .geq tx x y ty,t,pos,af,none⟩::rest) D E w :=
 uO hd hx hy (fun w=>by rw[kN _ _ _ _ _ (by simp)];rfl) h
theorem yF8 {d:Nat}{x y:Operand}{tx ty t:TypeId}{pos:String}{af:Array Edge}{k:IntKind}{a b:Int}(hd:Nat.blt d N=true)
  (hx:ev E x=some (.int k a)) (hy:ev E y=some (.int k b))
  (h:Ops P r N all K rest D ((d,.bool (decide (a=b)))::E) w):Ops P r N all K (⟨some d,.binOp .eql tx x y ty,t,pos,af,none⟩::rest) D E w :=
 uO hd hx hy (fun w=>by rw[kN _ _ _ _ _ (by simp)];simp[Op.intCmp];by_cases e:a=b<;>simp[e]) h
theorem ops_ne {d:Nat}{x y:Operand}{tx ty t:TypeId}{pos:String}{af:Array Edge}{k:IntKind}{a b:Int}(hd:Nat.blt d N=true)
  (hx:ev E x=some (.int k a)) (hy:ev E y=some (.int k b))
  (h:Ops P r N all K rest D ((d,.bool (decide (a≠b)))::E) w):Ops P r N all K (⟨some d,.binOp .neq tx x y ty,t,pos,af,none⟩::rest) D E w :=
 uO hd hx hy (fun w=>by rw[kN _ _ _ _ _ (by simp)];simp[Op.intCmp];by_cases e:a=b<;>simp[e]) h
theorem ops_beq {d:Nat}{x y:Operand}{tx ty t:TypeId}{pos:String}{af:Array Edge}{a b:Bool}(hd:Nat.blt d N=true)
  (hx:ev E x=some (.bool a)) (hy:ev E y=some (.bool b)) (ht:P.underlying tx=some .bool)
  (h:Ops P r N all K rest D ((d,.bool (a == b))::E) w):Ops P r N all K (⟨some d,.binOp .eql tx x y ty,t,pos,af,none⟩::rest) D E w :=
 yB hd (by intro c hc;cases hc) (fun ac ha=>by
  have hg:(eqGuard .eql tx x y (.bool a) (.bool b)).run P w = .ok () w:=rfl;have hb:binOp .eql tx (.bool a) (.bool b)=(do pure (.bool (← Op.equal tx (.bool a) (.bool b)))):=rfl;simp only[execOp,ha.ev hx,ha.ev hy,Sem.run_bind,hg,hb,run_equal_bool _ _ _ _ ht,Result.andThen];rfl) h
theorem ops_bne {d:Nat}{x y:Operand}{tx ty t:TypeId}{pos:String}{af:Array Edge}{a b:Bool}(hd:Nat.blt d N=true)
  (hx:ev E x=some (.bool a)) (hy:ev E y=some (.bool b)) (ht:P.underlying tx=some .bool)
  (h:Ops P r N all K rest D ((d,.bool (!(a == b)))::E) w):Ops P r N all K (⟨some d,.binOp .neq tx x y ty,t,pos,af,none⟩::rest) D E w :=
 yB hd (by intro c hc;cases hc) (fun ac ha=>by
  have hg:(eqGuard .neq tx x y (.bool a) (.bool b)).run P w = .ok () w:=rfl;have hb:binOp .neq tx (.bool a) (.bool b)=(do pure (.bool (!(← Op.equal tx (.bool a) (.bool b))))):=rfl;simp only[execOp,ha.ev hx,ha.ev hy,Sem.run_bind,hg,hb,run_equal_bool _ _ _ _ ht,Result.andThen];rfl) h
theorem qP {d:Nat}{op:BinOp}{x y:Operand}{tx ty t:TypeId}{pos:String}{af:Array Edge}{k:IntKind}{a b z:Int}(hd:Nat.blt d N=true)
  (hop:op = .add∨op = .sub∨op = .mul) (hx:ev E x=some (.int k a)) (hy:ev E y=some (.int k b)) (hz:k.wrap (match op with | .add=>a+b | .sub=>a-b | _=>a*b)=z)
  (h:Ops P r N all K rest D ((d,.int k z)::E) w):Ops P r N all K (⟨some d,.binOp op tx x y ty,t,pos,af,none⟩::rest) D E w :=
 uO hd hx hy (fun w=>by rw[binOp_arith _ _ _ _ _ hop];subst hz;rcases hop with rfl | rfl | rfl<;>rfl) h
theorem ops_add {d:Nat}{x y:Operand}{tx ty t:TypeId}{pos:String}{af:Array Edge}{a b:Int}(hd:Nat.blt d N=true)
  (hx:ev E x=some (.int .i64 a)) (hy:ev E y=some (.int .i64 b)) (hb:-9223372036854775808≤a+b∧a+b≤9223372036854775807)
  (h:Ops P r N all K rest D ((d,.int .i64 (a+b))::E) w):Ops P r N all K (⟨some d,.binOp .add tx x y ty,t,pos,af,none⟩::rest) D E w :=
 qP hd (.inl rfl) hx hy (IntWalk.i64_in _ hb) h
theorem ops_sub {d:Nat}{x y:Operand}{tx ty t:TypeId}{pos:String}{af:Array Edge}{a b:Int}(hd:Nat.blt d N=true)
  (hx:ev E x=some (.int .i64 a)) (hy:ev E y=some (.int .i64 b)) (hb:-9223372036854775808≤a-b∧a-b≤9223372036854775807)
  (h:Ops P r N all K rest D ((d,.int .i64 (a-b))::E) w):Ops P r N all K (⟨some d,.binOp .sub tx x y ty,t,pos,af,none⟩::rest) D E w :=
 qP hd (.inr (.inl rfl)) hx hy (IntWalk.i64_in _ hb) h
theorem ops_mul {d:Nat}{x y:Operand}{tx ty t:TypeId}{pos:String}{af:Array Edge}{a b:Int}(hd:Nat.blt d N=true)
  (hx:ev E x=some (.int .i64 a)) (hy:ev E y=some (.int .i64 b)) (hb:-9223372036854775808≤a*b∧a*b≤9223372036854775807)
  (h:Ops P r N all K rest D ((d,.int .i64 (a*b))::E) w):Ops P r N all K (⟨some d,.binOp .mul tx x y ty,t,pos,af,none⟩::rest) D E w :=
 qP hd (.inr (.inr rfl)) hx hy (IntWalk.i64_in _ hb) h
theorem aU (n:Nat):IntKind.u64.wrap (n:Int)=((n%18446744073709551616:Nat):Int):=by
 simp[IntKind.wrap,IntKind.bits,IntKind.signed]
theorem nT (n:Nat):IntKind.u32.wrap (n:Int)=((n%4294967296:Nat):Int):=by
 simp[IntKind.wrap,IntKind.bits,IntKind.signed]
theorem bN (a b:Nat)(hb:b≤18446744073709551616):IntKind.u64.wrap ((a:Int)-(b:Int))=(((a+(18446744073709551616-b))%18446744073709551616:Nat):Int):=by
 simp[IntKind.wrap,IntKind.bits,IntKind.signed];omega
def xX:IntKind→Nat
 | .u64=>18446744073709551616
 | _=>4294967296
theorem ops_addv {d:Nat}{x y:Operand}{tx ty t:TypeId}{pos:String}{af:Array Edge}{a b:Nat}(hd:Nat.blt d N=true)
  (hx:ev E x=some (.int .u64 (a:Int))) (hy:ev E y=some (.int .u64 (b:Int))) (hb:a+b<18446744073709551616)
  (h:Ops P r N all K rest D ((d,.int .u64 ((a+b:Nat):Int))::E) w):Ops P r N all K (⟨some d,.binOp .add tx x y ty,t,pos,af,none⟩::rest) D E w :=
 qP hd (.inl rfl) hx hy (by have:=aU (a+b);rw[Nat.mod_eq_of_lt hb] at this;simpa using this) h
theorem ops_subu {d:Nat}{x y:Operand}{tx ty t:TypeId}{pos:String}{af:Array Edge}{a b:Nat}(hd:Nat.blt d N=true)
  (hx:ev E x=some (.int .u64 (a:Int))) (hy:ev E y=some (.int .u64 (b:Int))) (hb:b≤18446744073709551616)
  (h:Ops P r N all K rest D ((d,.int .u64 (((a+(18446744073709551616-b))%18446744073709551616:Nat):Int))::E) w):Ops P r N all K (⟨some d,.binOp .sub tx x y ty,t,pos,af,none⟩::rest) D E w :=
 qP hd (.inr (.inl rfl)) hx hy (bN a b hb) h
theorem ops_subv {d:Nat}{x y:Operand}{tx ty t:TypeId}{pos:String}{af:Array Edge}{a b:Nat}(hd:Nat.blt d N=true)
  (hx:ev E x=some (.int .u64 (a:Int))) (hy:ev E y=some (.int .u64 (b:Int))) (hb:b≤a) (ha:a<18446744073709551616)
  (h:Ops P r N all K rest D ((d,.int .u64 ((a-b:Nat):Int))::E) w):Ops P r N all K (⟨some d,.binOp .sub tx x y ty,t,pos,af,none⟩::rest) D E w :=
 qP hd (.inr (.inl rfl)) hx hy (by
  show IntKind.u64.wrap ((a:Int)-(b:Int))=_;rw[bN a b (by omega)];congr 1;omega) h
theorem ops_mulv {d:Nat}{x y:Operand}{tx ty t:TypeId}{pos:String}{af:Array Edge}{a b:Nat}(hd:Nat.blt d N=true)
  (hx:ev E x=some (.int .u64 (a:Int))) (hy:ev E y=some (.int .u64 (b:Int))) (hb:a*b<18446744073709551616)
  (h:Ops P r N all K rest D ((d,.int .u64 ((a*b:Nat):Int))::E) w):Ops P r N all K (⟨some d,.binOp .mul tx x y ty,t,pos,af,none⟩::rest) D E w :=
 qP hd (.inr (.inr rfl)) hx hy (by have:=aU (a*b);rw[Nat.mod_eq_of_lt hb] at this;simpa using this) h
theorem iN {d:Nat}{op:BinOp}{x y:Operand}{tx ty t:TypeId}{pos:String}{af:Array Edge}{k:IntKind}{a b z:Int}(hd:Nat.blt d N=true)
  (hop:op = .quo∨op = .rem) (hx:ev E x=some (.int k a)) (hy:ev E y=some (.int k b)) (hb:b≠0) (hz:(match op with | .quo=>k.wrap (a.tdiv b) | _=>a.tmod b)=z)
  (h:Ops P r N all K rest D ((d,.int k z)::E) w):Ops P r N all K (⟨some d,.binOp op tx x y ty,t,pos,af,none⟩::rest) D E w :=
 uO hd hx hy (fun w=>by rw[binOp_div _ _ _ _ _ hop];subst hz;unfold Op.intDiv;rw[if_neg hb];rcases hop with rfl | rfl<;>rfl) h
theorem ops_quo {d:Nat}{x y:Operand}{tx ty t:TypeId}{pos:String}{af:Array Edge}{a b:Int}(hd:Nat.blt d N=true)
  (hx:ev E x=some (.int .i64 a)) (hy:ev E y=some (.int .i64 b)) (hb:0≤a∧a≤9223372036854775807∧1≤b)
  (h:Ops P r N all K rest D ((d,.int .i64 (a/b))::E) w):Ops P r N all K (⟨some d,.binOp .quo tx x y ty,t,pos,af,none⟩::rest) D E w :=
 iN hd (.inl rfl) hx hy (by omega) (IntWalk.i64_quo _ _ hb) h
theorem ops_rem {d:Nat}{x y:Operand}{tx ty t:TypeId}{pos:String}{af:Array Edge}{a b:Int}(hd:Nat.blt d N=true)
  (hx:ev E x=some (.int .i64 a)) (hy:ev E y=some (.int .i64 b)) (hb:0≤a∧1≤b)
  (h:Ops P r N all K rest D ((d,.int .i64 (a%b))::E) w):Ops P r N all K (⟨some d,.binOp .rem tx x y ty,t,pos,af,none⟩::rest) D E w :=
 iN hd (.inr rfl) hx hy (by omega) (Int.tmod_eq_emod_of_nonneg hb.1) h
theorem ops_quou {d:Nat}{x y:Operand}{tx ty t:TypeId}{pos:String}{af:Array Edge}{a b:Nat}(hd:Nat.blt d N=true)
  (hx:ev E x=some (.int .u64 (a:Int))) (hy:ev E y=some (.int .u64 (b:Int))) (hb:0<b) (ha:a<18446744073709551616)
  (h:Ops P r N all K rest D ((d,.int .u64 ((a/b:Nat):Int))::E) w):Ops P r N all K (⟨some d,.binOp .quo tx x y ty,t,pos,af,none⟩::rest) D E w :=
 iN hd (.inl rfl) hx hy (by omega) (by rw[IntWalk.u64_quo _ _ ⟨by omega,by omega,by omega⟩];rfl) h
theorem rX {d:Nat}{op:BinOp}{x y:Operand}{tx ty t:TypeId}{pos:String}{af:Array Edge}{k k':IntKind}{a z:Int}{b:Int}(hd:Nat.blt d N=true)
  (hop:op = .shl∨op = .shr) (hx:ev E x=some (.int k a)) (hy:ev E y=some (.int k' b)) (hb:0≤b)
  (hz:(match op with | .shl=>k.wrap (a*2^(min b.toNat k.bits)) | _=>a.fdiv (2^(min b.toNat k.bits)))=z)
  (h:Ops P r N all K rest D ((d,.int k z)::E) w):Ops P r N all K (⟨some d,.binOp op tx x y ty,t,pos,af,none⟩::rest) D E w :=
 yB hd (by intro c hc;cases hc) (fun ac ha=>by
  have hg:(eqGuard op tx x y (.int k a) (.int k' b)).run P w = .ok () w:=by unfold eqGuard;rcases hop with rfl | rfl<;>rfl
  have hr:(binOp op tx (.int k a) (.int k' b)).run P w = .ok (.int k z) w:=by
   have e:binOp op tx (.int k a) (.int k' b)=Op.shift op k a k' b:=by rcases hop with rfl | rfl<;>rfl
   rw[e];unfold Op.shift;rw[if_neg (by omega)];subst hz;rcases hop with rfl | rfl<;>rfl
  simp only[execOp,ha.ev hx,ha.ev hy,Sem.run_bind,hg,Result.andThen,hr];rfl) h
theorem zJ2 {d:Nat}{x y:Operand}{tx ty t:TypeId}{pos:String}{af:Array Edge}{k k':IntKind}{a:Nat}{b:Int}(hd:Nat.blt d N=true)
  (hx:ev E x=some (.int k (a:Int))) (hy:ev E y=some (.int k' b)) (hb:0≤b∧b<k.bits)
  (h:Ops P r N all K rest D ((d,.int k ((a/2^b.toNat:Nat):Int))::E) w):Ops P r N all K (⟨some d,.binOp .shr tx x y ty,t,pos,af,none⟩::rest) D E w :=
 rX hd (.inr rfl) hx hy hb.1 (by
  have:min b.toNat k.bits=b.toNat:=by omega
  simp only[this];have e:((2:Int)^b.toNat)=((2^b.toNat:Nat):Int):=by simp
  rw[e,Int.fdiv_eq_ediv_of_nonneg _ (Int.natCast_nonneg _)];rfl) h
theorem uS {d:Nat}{x:Operand}{s t t':TypeId}{pos:String}{af:Array Edge}{k k':IntKind}{sd:TypeDesc}{a z:Int}(hd:Nat.blt d N=true)
  (hs:P.underlying s=some sd) (ht:P.underlying t=some (.int k)) (hx:ev E x=some (.int k' a)) (hz:k.wrap a=z)
  (h:Ops P r N all K rest D ((d,.int k z)::E) w):Ops P r N all K (⟨some d,.convert s t x,t',pos,af,none⟩::rest) D E w :=
 yB hd (by intro c hc;cases hc) (fun ac ha=>by
  subst hz;have e:(convert s t (.int k' a)).run P w = .ok (.int k (k.wrap a)) w:=by
   unfold convert;simp only[Sem.run_bind,run_underlying hs,run_underlying ht,Result.andThen];cases sd<;>rfl
  simp only[execOp,ha.ev hx,Sem.run_bind,e,Result.andThen];rfl) h
theorem ops_to32 {d:Nat}{x:Operand}{s t t':TypeId}{pos:String}{af:Array Edge}{k':IntKind}{sd:TypeDesc}{a:Nat}(hd:Nat.blt d N=true)
  (hs:P.underlying s=some sd) (ht:P.underlying t=some (.int .u32)) (hx:ev E x=some (.int k' (a:Int)))
  (h:Ops P r N all K rest D ((d,.int .u32 ((a%4294967296:Nat):Int))::E) w):Ops P r N all K (⟨some d,.convert s t x,t',pos,af,none⟩::rest) D E w :=
 uS hd hs ht hx (nT a) h
theorem ops_to64 {d:Nat}{x:Operand}{s t t':TypeId}{pos:String}{af:Array Edge}{k':IntKind}{sd:TypeDesc}{a:Nat}(hd:Nat.blt d N=true)
  (hs:P.underlying s=some sd) (ht:P.underlying t=some (.int .u64)) (hx:ev E x=some (.int k' (a:Int))) (ha:a<18446744073709551616)
  (h:Ops P r N all K rest D ((d,.int .u64 (a:Int))::E) w):Ops P r N all K (⟨some d,.convert s t x,t',pos,af,none⟩::rest) D E w :=
 uS hd hs ht hx (by rw[aU,zao ha]) h
theorem nD {d:Nat}{x:Operand}{t e t':TypeId}{pos:String}{af:Array Edge}{ad:Option Addr}{n c:Nat}(hd:Nat.blt d N=true)
  (ht:P.underlying t=some (.slice e)) (hx:ev E x=some (.slice ad n c))
  (h:Ops P r N all K rest D ((d,.int .i64 (n:Int))::E) w):Ops P r N all K (⟨some d,.call ⟨.builtin .len,#[x],#[t]⟩,t',pos,af,none⟩::rest) D E w :=
 yB hd (by intro c hc;cases hc) (fun ac ha=>by
  have e1:(Builtin.len_ #[t] t' #[.slice ad n c]).run P w = .ok (.int .i64 (n:Int)) w:=by
   simp[Builtin.len_,run_underlying ht,Result.andThen,goInt]
  simp only[execOp,resolve,invoke,builtin,Sem.run_bind,Sem.run_pure,Result.andThen,zbL,zaG,zbe,ha.ev hx];rw[e1]) h
theorem ops_max {d:Nat}{x y:Operand}{ts:Array TypeId}{t':TypeId}{pos:String}{af:Array Edge}{k:IntKind}{a b:Int}(hd:Nat.blt d N=true)
  (hx:ev E x=some (.int k a)) (hy:ev E y=some (.int k b))
  (h:Ops P r N all K rest D ((d,.int k (max a b))::E) w):Ops P r N all K (⟨some d,.call ⟨.builtin .max,#[x,y],ts⟩,t',pos,af,none⟩::rest) D E w :=
 yB hd (by intro c hc;cases hc) (fun ac ha=>by
  have e1:(Builtin.max_ ts t' #[.int k a,.int k b]).run P w = .ok (.int k (max a b)) w:=by
   have:(if b > a then b else a)=max a b:=by simp only[Int.max_def];split<;>split<;>omega
   rw[← this];rfl
  simp only[execOp,resolve,invoke,builtin,Sem.run_bind,Sem.run_pure,Result.andThen,zbL,zaG,zbe,ha.ev hx,ha.ev hy];rw[e1]) h
def Bod (P:Program) (f:FuncId):Prop:=∃ fn,P.funcs[f]? = some fn∧fn.body.isNone=false∧(fn.name == "runtime.NumGoroutine")=false
theorem lS {d:Nat}{x:Operand}{xs:List Operand}{ts:Array TypeId}{t':TypeId}{pos:String}{af:Array Edge}{f:FuncId}{ca:Array Value}{vs:List Value}(hd:Nat.blt d N=true)
  (hfn:Bod P f) (hx:ev E x=some (.func (.func f) #[] ca)) (hxs:evs E xs=some vs)
  (h:CallsV P f (vs++ca.toList) w fun v w'=>Ops P r N all K rest D ((d,v)::E) w') :
  Ops P r N all K (⟨some d,.call ⟨.value x,xs.toArray,ts⟩,t',pos,af,none⟩::rest) D E w:=by
 intro a Q ha hD hk;refine wpListIn_plain rfl fun K' hK'=>⟨fun _ _=>trivial,?_⟩;rw[kP (by intro c hc;cases hc)];have hrun:(execOp a.eval ⟨some d,.call ⟨.value x,xs.toArray,ts⟩,t',pos,af,none⟩).run P w = .ok (.enter f (vs++ca.toList).toArray) w:=by
  have e1:(xs.toArray.map a.eval)=vs.toArray:=by rw[← ha.evs hxs];simp
  obtain⟨fn,hf1,hf2,hf3⟩:=hfn;simp only[execOp,resolve,ha.ev hx,e1,Deferred.ofValue,Sem.run_bind,Sem.run_pure,Result.andThen,invoke];have e2:(callFunc f (#[]++vs.toArray++ca)).run P w = .ok (.enter f (#[]++vs.toArray++ca)) w:=by
   unfold callFunc;simp only[Sem.run_bind,program,Sem.run,Result.andThen,hf1,hf2,hf3];rfl
  rw[e2];simp
 rw[hrun];refine⟨by simp[Fr],?_⟩;have hc:=(callsIn_wide (n:=0-1)).2 h;have hc2:CallsIn (Fr r) (0-1) P f (vs++ca.toList).toArray w (fun e w'=>∃ v,e = .returned v∧Ops P r N all K rest D ((d,v)::E) w'):=hc;refine hc2.mono ?_;rintro e w' ⟨v,rfl,hv⟩;exact hK' _ _ (hv (a.put (some d) v) Q (ha.put hd v) hD hk)
end ops
end Go.SL
namespace Go.SL
open Go.RowKit
structure Le (Fz M:Nat→Prop)(w:World)(M':Nat→Prop)(w':World):Prop where
 os:w'.os=w.os
 tape:Tp w w'
 output:w'.output=w.output
 size:w.heap.size≤w'.heap.size
 frz:∀ k,k<w.heap.size→Fz k→w'.heap[k]? = w.heap[k]?
 imm:∀ k,k<w.heap.size→¬ M k→w'.heap[k]? = w.heap[k]?
 chg:∀ k,M' k→M k∨w.heap.size≤k
 ok:(∀ k,M k→k<w.heap.size)→∀ k,M' k→k<w'.heap.size
theorem Le.refl (Fz M:Nat→Prop)(w:World):Le Fz M w M w:=⟨rfl,⟨rfl,by first | exact zab _ | exact zbt _⟩,rfl,zab _,fun _ _ _=>rfl,fun _ _ _=>rfl,fun _ h => .inl h,fun h=>h⟩
theorem Le.kept {Fz M:Nat→Prop}{w:World}{M':Nat→Prop}{w':World}(h:Le Fz M w M' w'){k:Nat}(hk:k<w.heap.size)(hm:¬ M k):¬ M' k∧w'.heap[k]? = w.heap[k]? :=
 ⟨fun hc=>(h.chg k hc).elim hm (fun h1=>by omega),h.imm k hk hm⟩
theorem Le.below {B:Nat}{M:Nat→Prop}{w:World}{M':Nat→Prop}{w':World}(h:Le (· < B) M w M' w')(hB:B≤w.heap.size):Bel B w w' :=
 ⟨h.os,h.tape,h.output,h.size,fun k hk=>h.frz k (by omega) hk⟩
theorem Le.of_below {Fz M:Nat→Prop}{w w':World}(h:Bel w.heap.size w w'):Le Fz M w M w' :=
 ⟨h.os,h.tape,h.output,h.size,fun k hk _=>h.block k hk,fun k hk _=>h.block k hk,fun _ h => .inl h,fun hm k hk=>zan (hm k hk) h.size⟩
theorem lb {M:Nat→Prop}{w w':World}(h:Bel w.heap.size w w'):Le (fun _=>False) M w M w':=Le.of_below h
def OkM (M:Nat→Prop)(w:World):Prop:=∀ k,M k→k<w.heap.size
def Blk (w:World)(b:Nat)(t:TypeId)(cs:List Value):Prop:=w.heap[b]? = some (.cells cs.toArray t (0,0))
theorem Blk.lt {w:World}{b:Nat}{t:TypeId}{cs:List Value}(h:Blk w b t cs):b<w.heap.size:=(zaB.1 h).1
theorem Blk.cell {w:World}{b:Nat}{t:TypeId}{cs:List Value}(h:Blk w b t cs)(i:Nat):w.cell? ⟨b,i,none⟩=cs[i]?:=by
 simp[World.cell?,show w.heap[b]? = _ from h]
structure Chg (w w':World)(b:Nat):Prop where
 os:w'.os=w.os
 tape:Tp w w'
 output:w'.output=w.output
 size:w'.heap.size=w.heap.size
 other:∀ k,k≠b→w'.heap[k]? = w.heap[k]?
structure New (w w':World)(b:Nat)(o:Obj):Prop where
 os:w'.os=w.os
 tape:Tp w w'
 output:w'.output=w.output
 at_:b=w.heap.size
 size:w'.heap.size=w.heap.size+1
 obj:w'.heap[b]? = some o
 other:∀ k,k<w.heap.size→w'.heap[k]? = w.heap[k]?
theorem New.of_alloc (w:World)(o:Obj):New w (w.alloc o) w.heap.size o :=
 ⟨rfl,⟨rfl,by first | exact zab _ | exact zbt _⟩,rfl,rfl,by simp,World.alloc_heap_new w o,fun k hk=>Below.heap_alloc w o k hk⟩
theorem New.below {w w':World}{b:Nat}{o:Obj}(h:New w w' b o):Bel w.heap.size w w':=⟨h.os,h.tape,h.output,by rw[h.size];omega,h.other⟩
theorem New.blk {w w':World}{b:Nat}{t:TypeId}{cs:Array Value}(h:New w w' b (.cells cs t (0,0))):Blk w' b t cs.toList:=by unfold Blk;simpa using h.obj
def Seg (w:World)(b off:Nat)(cs:List Value):Prop:=∃ cur t fz,w.heap[b]? = some (.cells cur t fz)∧∀ j u,cs[j]? = some u→cur[off+j]? = some u
theorem xV (b off i:Nat):(⟨b,off,none⟩:Addr).add i=⟨b,off+i,none⟩:=by unfold Addr.add;split<;>simp_all
theorem Seg.cell {w:World}{b off:Nat}{cs:List Value}(h:Seg w b off cs){j:Nat}{u:Value}(hj:cs[j]? = some u):w.cell? ⟨b,off+j,none⟩=some u:=by
 obtain⟨cur,t,fz,hb,hc⟩:=h;simp[World.cell?,hb,hc j u hj]
theorem Seg.sub {w:World}{b off:Nat}{cs:List Value}(h:Seg w b off cs)(l m:Nat):Seg w b (off+l) ((cs.drop l).take m):=by
 obtain⟨cur,t,fz,hb,hc⟩:=h;refine⟨cur,t,fz,hb,fun j u hj=>?_⟩;have:cs[l+j]? = some u:=by
  rw[zaN] at hj;split at hj
  ·simpa using hj
  ·simp at hj
 rw[zaO];exact hc _ u this
def Slc (M:Nat→Prop)(w:World)(sz:Nat)(v:Value)(n:Nat)(cs:List Value):Prop :=
 cs.length=n*sz∧n≤9223372036854775807∧∃ ad cap,v = .slice ad n cap∧n≤cap∧(n=0 ∨ ∃ b off,ad=some ⟨b,off,none⟩∧¬ M b∧Seg w b off cs)
theorem tX {M:Nat→Prop}{w:World}{sz:Nat}:Slc M w sz (.slice none 0 0) 0 []:=⟨by simp,by omega,none,0,rfl,zab _,.inl rfl⟩
theorem slc_zero {M:Nat→Prop}{w:World}{sz c:Nat}{ad:Option Addr}:Slc M w sz (.slice ad 0 c) 0 []:=⟨by simp,by omega,ad,c,rfl,zaD _,.inl rfl⟩
theorem Slc.len {M:Nat→Prop}{w:World}{sz n:Nat}{v:Value}{cs:List Value}(h:Slc M w sz v n cs):n≤9223372036854775807:=h.2.1
theorem Blk.slc {M:Nat→Prop}{w:World}{b:Nat}{t:TypeId}{cs:List Value}(h:Blk w b t cs)(hm:¬ M b){sz n c:Nat}{ds:List Value}(hl:ds.length=n*sz)(hd:∀(j:Nat) (u:Value),ds[j]? = some u→cs[j]? = some u)(hn:n≤9223372036854775807)(hc:n≤c) :
  Slc M w sz (.slice (some ⟨b,0,none⟩) n c) n ds :=
 ⟨hl,hn,_,_,rfl,hc,.inr ⟨b,0,rfl,hm,cs.toArray,t,(0,0),h,fun j u hj=>by simpa using hd j u hj⟩⟩
def lw (x:Nat):Value:=.int .u32 (x:Int)
structure IsNat (M:Nat→Prop)(w:World)(v:Value)(xs:List Nat):Prop where
 slc:Slc M w 1 v xs.length (xs.map lw)
 lt:∀ x∈xs,x<4294967296
theorem fF {M:Nat→Prop}{w:World}:IsNat M w (.slice none 0 0) []:=⟨tX,by simp⟩
theorem IsNat.len {M:Nat→Prop}{w:World}{v:Value}{xs:List Nat}(h:IsNat M w v xs):xs.length≤9223372036854775807:=h.slc.len
def Sz (P:Program)(t:TypeId)(sz bytes:Nat)(z:Value):Prop:=∃ i,P.info? t=some i∧i.size=sz∧i.bytes=bytes∧i.zero=some z
def Flat (P:Program)(t:TypeId):Prop:=∀ w,(isAgg t).run P w = .ok false w
def Fold (P:Program)(t:TypeId):Prop:=∀ w,(isAgg t).run P w = .ok true w
theorem xA {P:Program}{t:TypeId}{d:TypeDesc}(h:P.underlying t=some d)(hd:(match d with | .struct _ | .array _ _=>false | _=>true)=true):Flat P t:=by
 intro w;unfold isAgg;simp only[Sem.run_bind,run_underlying h,Result.andThen];cases d<;>first | rfl | simp at hd
theorem gP {P:Program}{t:TypeId}{d:TypeDesc}(h:P.underlying t=some d)(hd:(match d with | .struct _ | .array _ _=>true | _=>false)=true):Fold P t:=by
 intro w;unfold isAgg;simp only[Sem.run_bind,run_underlying h,Result.andThen];cases d<;>first | rfl | simp at hd
theorem xK {P:Program}{t:TypeId}{sz by_:Nat}{z:Value}(h:Sz P t sz by_ z)(w:World):(sizeOf t).run P w = .ok sz w:=by
 obtain⟨i,h1,h2,_,_⟩:=h;simp[sizeOf,typeInfo,h1,h2]
section ops
variable {P : Program} {r : Option Nat} {N : Nat} {all : Array Oper} {K : Pd} {D : List Deferred} {E : Env} {w : World} {rest : List Oper}
variable {Fz M : Nat → Prop}
theorem zJ5 {d:Nat}{x:Operand}{t e t':TypeId}{pos:String}{af:Array Edge}{sz n:Nat}{v:Value}{cs:List Value}(hd:Nat.blt d N=true)
  (ht:P.underlying t=some (.slice e)) (hx:ev E x=some v) (hv:Slc M w sz v n cs)
  (h:Ops P r N all K rest D ((d,.int .i64 (n:Int))::E) w):Ops P r N all K (⟨some d,.call ⟨.builtin .len,#[x],#[t]⟩,t',pos,af,none⟩::rest) D E w:=by
 obtain⟨_,_,ad,cap,rfl,_,_⟩:=hv;exact nD hd ht hx h
theorem bD {d:Nat}{x:Operand}{t t':TypeId}{pos:String}{af:Array Edge}{ad:Addr}{u:Value}(hd:Nat.blt d N=true)
  (ht:Flat P t) (hx:ev E x=some (.pointer (some ad))) (hu:w.cell? ad=some u)
  (h:Ops P r N all K rest D ((d,u)::E) w):Ops P r N all K (⟨some d,.load t x,t',pos,af,none⟩::rest) D E w :=
 yB hd (by intro c hc;cases hc) (fun a ha=>by
  have e1:(Instr.loadAt t (.pointer (some ad))).run P w = .ok u w:=by
   simp[Instr.loadAt,Instr.sureAddr,loadVar,ht w,hu]
  simp only[execOp,ha.ev hx,Sem.run_bind,e1,Result.andThen];rfl) h
theorem run_store_blk {t te:TypeId}{b o:Nat}{cs:List Value}{v:Value}{sz bytes:Nat}{z:Value}(ht:Sz P t sz bytes z)(hb:Blk w b te cs)(hv:v.cells.size=sz)(ho:o+sz≤cs.length)(h1:∀ u∈v.cells.toList,u.oneCell'=true) :
  ∃ w',(Instr.storeAt t (.pointer (some ⟨b,o,none⟩)) v).run P w = .ok () w'∧Chg w w' b∧Blk w' b te (cs.take o++v.cells.toList++cs.drop (o+sz)):=by
 have hs:=run_storeCells_at (P:=P) b o te v.cells.toList 0 cs.toArray w hb (by simp;omega) h1;refine⟨w.setRow b ((cs.toArray.toList.take (o+0)++v.cells.toList++cs.toArray.toList.drop (o+0+v.cells.toList.length)).toArray),?_,⟨rfl,⟨rfl,by first | exact zab _ | exact zbt _⟩,rfl,by simp,fun k hk=>setRow_other _ _ _ _ hk⟩,?_⟩
 ·simp only[Instr.storeAt,Instr.sureAddr,Sem.run_bind,Sem.run_pure,Result.andThen,storeVar,xK ht];rw[if_neg (by omega)];exact hs
 ·have:=setRow_heap w b _ ((cs.toArray.toList.take (o+0)++v.cells.toList++cs.toArray.toList.drop (o+0+v.cells.toList.length)).toArray) te _ hb;unfold Blk;rw[this];simp[hv]
theorem uG {x y:Operand}{t te t':TypeId}{pos:String}{af:Array Edge}{b o:Nat}{cs:List Value}{v:Value}{sz bytes:Nat}{z:Value}(hx:ev E x=some (.pointer (some ⟨b,o,none⟩)))(hy:ev E y=some v)
  (ht:Sz P t sz bytes z) (hb:Blk w b te cs) (hv:v.cells.size=sz) (ho:o+sz≤cs.length) (h1:∀ u∈v.cells.toList,u.oneCell'=true)
  (h:∀ w',Chg w w' b→Blk w' b te (cs.take o++v.cells.toList++cs.drop (o+sz))→Ops P r N all K rest D E w') :
  Ops P r N all K (⟨none,.store t x y,t',pos,af,none⟩::rest) D E w:=by
 obtain⟨w',e1,e2,e3⟩:=run_store_blk (P:=P) ht hb hv ho h1;refine ops_eff (by intro c hc;cases hc) (fun a ha=>?_) (h w' e2 e3);simp only[execOp,ha.ev hx,ha.ev hy,Sem.run_bind,e1,Result.andThen];rfl
theorem zV4 {d:Nat}{x:Operand}{t t':TypeId}{pos:String}{af:Array Edge}{v:Value}(hd:Nat.blt d N=true)(hx:ev E x=some v)
  (h:∀ w' b,New w w' b (.cells v.cells t)→Ops P r N all K rest D ((d,.pointer (some ⟨b,0,none⟩))::E) w'):Ops P r N all K (⟨some d,.box t x,t',pos,af,none⟩::rest) D E w :=
 yB hd (by intro c hc;cases hc) (fun a ha=>by
  simp only[execOp,ha.ev hx];rfl) (h _ _ (New.of_alloc w (.cells v.cells t)))
theorem rZ {d:Nat}{t t':TypeId}{pos:String}{af:Array Edge}{sz bytes:Nat}{z:Value}(hd:Nat.blt d N=true)(ht:Sz P t sz bytes z)
  (h:∀ w' b,New w w' b (.cells z.cells t)→Ops P r N all K rest D ((d,.pointer (some ⟨b,0,none⟩))::E) w'):Ops P r N all K (⟨some d,.alloc t,t',pos,af,none⟩::rest) D E w :=
 yB hd (by intro c hc;cases hc) (fun a ha=>by
  obtain⟨i,h1,h2,h3,h4⟩:=ht;have e1:(Instr.alloc t true (.tuple #[])).run P w = .ok (.pointer (some ⟨w.heap.size,0,none⟩)) (w.alloc (.cells z.cells t)):=by
   simp[Instr.alloc,zeroValue,typeInfo,h1,h4,newVar,newRow]
  simp only[execOp,Sem.run_bind,e1,Result.andThen];rfl) (h _ _ (New.of_alloc w (.cells z.cells t)))
theorem zJ4 {d:Nat}{x y:Operand}{t e t':TypeId}{pos:String}{af:Array Edge}{bytes:Nat}{z:Value}{k k':IntKind}{i j:Int}(n c:Nat)(hd:Nat.blt d N=true)
  (ht:P.underlying t=some (.slice e)) (he:Sz P e 1 bytes z) (hz:z.oneCell'=true) (hx:ev E x=some (.int k i)) (hy:ev E y=some (.int k' j)) (hi:i=(n:Int)) (hj:j=(c:Int)) (hnc:n≤c) (hc:bytes*c≤140737488355328) (h63:c≤140737488355328)
  (h:∀ w' b,New w w' b (.cells (List.replicate c z).toArray e)→Ops P r N all K rest D ((d,.slice (some ⟨b,0,none⟩) n c)::E) w'):Ops P r N all K (⟨some d,.makeSlice t x y,t',pos,af,none⟩::rest) D E w:=by
 obtain⟨q,h1,h2,h3,h4⟩:=he;have hb:((bytes*c:Nat):Int)≤140737488355328:=by omega
 have e1:=run_make (P:=P) w t e q z ht h1 h4 k k' i j (by omega) (by omega) (by rw[hj,h3];rw[zcc] at hb;omega) (by omega);have hzc:z.cells=#[z]:=by cases z<;>first | rfl | simp[Value.oneCell'] at hz
 have e2:madeCells z.cells (j.toNat*q.size)=(List.replicate c z).toArray:=by
  rw[h2,hj,hzc,Int.toNat_natCast,Nat.mul_one];apply Array.ext
  ·simp[madeCells]
  ·intro a b1 b2;simp[madeCells,Nat.mod_one]
 rw[e2] at e1;refine yB hd (by intro c hc;cases hc) (fun a ha=>?_) (h _ _ (New.of_alloc w _));have e3:i.toNat=n:=by omega
 have e4:j.toNat=c:=by omega
 rw[e3,e4] at e1;simp only[execOp,ha.ev hx,ha.ev hy,Sem.run_bind,e1,Result.andThen];rfl
theorem qO {d:Nat}{x:Operand}{lo hi mx:Option Operand}{t e t':TypeId}{pos:String}{af:Array Edge}{sz bytes:Nat}{z:Value}{ad:Option Addr}{n c:Nat}(l m q:Nat)(hd:Nat.blt d N=true)
  (ht:P.underlying t=some (.slice e)) (he:Sz P e sz bytes z) (hx:ev E x=some (.slice ad n c))
  (hlo:match lo with | none=>l=0 | some o=>∃ k,ev E o=some (.int k (l:Int))) (hhi:match hi with | none=>m=n | some o=>∃ k,ev E o=some (.int k (m:Int)))
  (hmx:match mx with | none=>q=c | some o=>hi.isSome=true∧∃ k,ev E o=some (.int k (q:Int))) (hlm:l≤m) (hmq:m≤q) (hqc:q≤c)
  (h:Ops P r N all K rest D ((d,.slice (if q=l then ad else ad.map (·.add (l*sz))) (m-l) (q-l))::E) w) :
  Ops P r N all K (⟨some d,.slice t x lo hi mx,t',pos,af,none⟩::rest) D E w:=by
 refine yB hd (by intro c hc;cases hc) (fun a ha=>?_) h;have hb:∀(k:IntKind) (i y:Nat) (code:BoundsCode),i≤y→(Instr.sliceBound (.int k (i:Int)) y code).run P w = .ok i w:=by
  intro k i y code hiy;simp[Instr.sliceBound,asIntOf,hiy]
 have e1:(Instr.sliceAt t (.slice ad n c) (lo.map a.eval) (hi.map a.eval) (mx.map a.eval)).run P w = .ok (.slice (if q=l then ad else ad.map (·.add (l*sz))) (m-l) (q-l)) w:=by
  have e2:(Instr.sliceBounds true n c (lo.map a.eval) (hi.map a.eval) (mx.map a.eval)).run P w = .ok (l,m,q) w:=by
   unfold Instr.sliceBounds;cases mx with
   | none =>
    simp only at hmx;subst hmx;cases hi with
    | none =>
     simp only at hhi;subst hhi;cases lo with
     | none=>simp only at hlo;subst hlo;rfl
     | some o=>obtain⟨k,ho⟩:=hlo;simp[ha.ev ho,hb k l _ _ hlm]
    | some o =>
     obtain⟨k,ho⟩:=hhi;cases lo with
     | none=>simp only at hlo;subst hlo;simp[ha.ev ho,hb k m _ _ hmq]
     | some o'=>obtain⟨k',ho'⟩:=hlo;simp[ha.ev ho,ha.ev ho',hb k m _ _ hmq,hb k' l _ _ hlm]
   | some om =>
    obtain⟨hs,k,ho⟩:=hmx;cases hi with
    | none=>simp at hs
    | some o =>
     obtain⟨k1,ho1⟩:=hhi;cases lo with
     | none=>simp only at hlo;subst hlo;simp[ha.ev ho,ha.ev ho1,hb k q _ _ hqc,hb k1 m _ _ hmq]
     | some o'=>obtain⟨k',ho'⟩:=hlo;simp[ha.ev ho,ha.ev ho1,ha.ev ho',hb k q _ _ hqc,hb k1 m _ _ hmq,hb k' l _ _ hlm]
  simp only[Instr.sliceAt,Sem.run_bind,run_underlying ht,Result.andThen,Instr.slice,e2,xK he];rfl
 simp only[execOp,ha.ev hx,Sem.run_bind,e1,Result.andThen];rfl
theorem oU {d:Nat}{x:Operand}{lo hi mx:Option Operand}{t e t':TypeId}{pos:String}{af:Array Edge}{sz bytes:Nat}{z:Value}{v:Value}{n:Nat}{cs:List Value}(l m:Nat)(hd:Nat.blt d N=true)
  (ht:P.underlying t=some (.slice e)) (he:Sz P e sz bytes z) (hx:ev E x=some v) (hv:Slc M w sz v n cs)
  (hlo:match lo with | none=>l=0 | some o=>∃ k,ev E o=some (.int k (l:Int))) (hhi:match hi with | none=>m=n | some o=>∃ k,ev E o=some (.int k (m:Int)))
  (hmx:match mx with | none=>True | some o=>hi.isSome=true∧∃ k,ev E o=some (.int k (m:Int))) (hlm:l≤m) (hmn:m≤n)
  (h:∀ u,Slc M w sz u (m-l) ((cs.drop (l*sz)).take ((m-l)*sz))→Ops P r N all K rest D ((d,u)::E) w) :
  Ops P r N all K (⟨some d,.slice t x lo hi mx,t',pos,af,none⟩::rest) D E w:=by
 obtain⟨h1,h2,ad,c,rfl,h4,h5⟩:=hv;have key:∀ q,m≤q→Slc M w sz (.slice (if q=l then ad else ad.map (·.add (l*sz))) (m-l) (q-l)) (m-l) ((cs.drop (l*sz)).take ((m-l)*sz)):=by
  intro q hq;have hle:(m-l)*sz≤cs.length-l*sz:=by
   rw[h1,← Nat.sub_mul];exact zaU _ (by omega)
  refine⟨by simp;omega,by omega,_,_,rfl,by omega,?_⟩;by_cases hz:m-l=0
  ·exact .inl hz
  ·rcases h5 with h5 | ⟨b,off,rfl,h6,h7⟩
   ·omega
   ·refine .inr ⟨b,off+l*sz,?_,h6,h7.sub _ _⟩;rw[if_neg (by omega)];simp[xV]
 cases mx with
 | none=>exact qO l m c hd ht he hx hlo hhi rfl hlm (by omega) (zab _) (h _ (key c (by omega)))
 | some o=>exact qO l m m hd ht he hx hlo hhi hmx hlm (zab _) (by omega) (h _ (key m (zab _)))
theorem run_append_slk {P:Program}{M:Nat→Prop}{w:World}(t ty e:TypeId){sz bytes:Nat}{z:Value}(ht:P.underlying t=some (.slice e))(he:Sz P e sz bytes z)(hz:z.cells.size=sz)(hsz:0<sz)
  {v u:Value} {n m:Nat} {xs news:List Value} (hown:w.ownsRow 0 e sz v n xs) (hu:Slc M w sz u m news) (h1:∀ u∈news,u.oneCell'=true)
  (hn:n+m≤140737488355328) (hb:(n+m)*bytes≤140737488355328) :
  ∃ v' w',(Builtin.append_ #[t,t] ty #[v,u]).run P w = .ok v' w'∧w'.ownsRow 0 e sz v' (n+m) (xs++news)∧Gro w w' v.ownBlock∧(v'.ownBlock=v.ownBlock∨v'.ownBlock=some w.heap.size):=by
 obtain⟨i,i1,i2,i3,i4⟩:=he;obtain⟨hl,_,ad,c,rfl,hmc,h5⟩:=hu;have h63:n+m≤maxLen:=by simp[maxLen];omega
 by_cases hm:m=0
 ·subst hm;have hnews:news=[]:=by simpa using hl
  subst hnews;refine⟨v,w,?_,by simpa using hown,⟨⟨rfl,rfl,rfl,Nat.le_refl _,fun _ _ _=>rfl⟩,Nat.le_refl _⟩,.inl rfl⟩;rcases hown.2 with⟨rfl,rfl⟩ | ⟨g,cap,cur,rfl,hbg,hg,hnc,hcm,hcs,htake⟩
  ·cases ad<;>simp[Builtin.append_,run_underlying ht,sizeOf,typeInfo,i1,Builtin.lenOf,Builtin.firstCells,loadCells,loadCellsFrom]
  ·cases ad<;>simp[Builtin.append_,run_underlying ht,sizeOf,typeInfo,i1,Builtin.lenOf,Builtin.firstCells,loadCells,loadCellsFrom,hnc,storeCells]
 ·rcases h5 with h5 | ⟨b,off,rfl,_,hs⟩
  ·omega
  ·have hnews:∀ j x,news[j]? = some x→w.cell? ((⟨b,off,none⟩:Addr).add j)=some x:=fun j x hj=>by rw[xV];exact hs.cell hj
   obtain⟨v',w',r1,r2,r3,r4⟩:=run_append_own (P:=P) w 0 t ty e i z sz bytes ht i1 i4 i2 i3 hz hsz v n xs hown ⟨b,off,none⟩ m c news hl hnews h1 h63 hb (zaD _)
   suffices hh:(v'.ownBlock=(Value.ownBlock _)∨v'.ownBlock=some w.heap.size)∧w.drawn≤w'.drawn from⟨v',w',r1,r2,⟨r3,hh.2⟩,hh.1⟩
   rcases hown.2 with⟨rfl,rfl⟩ | ⟨g,cap,cur,rfl,hbg,hg,hnc,hcm,hcs,htake⟩
   ·have hr:=run_append_nil (P:=P) w t ty e i z ht i1 i4 ⟨b,off,none⟩ m c news (by rw[i2];exact hl) hnews (by omega) (by omega) (by rw[i3];simp only[zba] at hb;omega);rw[hr] at r1;injection r1 with a1 a2;exact⟨.inr (by rw[← a1];rfl),by rw[← a2];first | exact zab _ | exact zbt _⟩
   ·by_cases hroom:n+m≤cap
    ·have hfit:n*i.size+news.length≤cur.size:=by
      rw[hl,hcs,i2,← zaQ];exact zaU _ hroom
     have hr:=run_append_room (P:=P) w t ty e i ht i1 g n cap cur hg ⟨b,off,none⟩ m c news (by rw[i2];exact hl) hnews h1 hroom hfit;rw[hr] at r1;injection r1 with a1 a2;exact⟨.inl (by rw[← a1];rfl),by rw[← a2];first | exact zab _ | exact zbt _⟩
    ·have holds:∀ j x,xs[j]? = some x→w.cell? ((⟨g,0,none⟩:Addr).add j)=some x:=hown.cells (g:=g) rfl;have hr:=run_append_grow (P:=P) w t ty e i z ht i1 i4 ⟨g,0,none⟩ n cap xs (by rw[i2];exact hown.1) holds ⟨b,off,none⟩ m c news (by rw[i2];exact hl) hnews (by omega) (by omega) (by rw[i3];exact growslice_fits (by omega) hb);rw[hr] at r1;injection r1 with a1 a2;exact⟨.inr (by rw[← a1];rfl),by rw[← a2];first | exact zab _ | exact zbt _⟩
def FOk (Fz:Nat→Prop)(w:World):Prop:=∀ k,Fz k→k<w.heap.size
theorem OkM.new {w':World}{b:Nat}{o:Obj}(h:OkM M w)(hn:New w w' b o):¬ M b:=fun hb=>by have:=h b hb;rw[hn.at_] at this;omega
end ops
end Go.SL
namespace Go.SL
open Go.RowKit
section scope
variable {P : Program} {b : Frame} {a : Act} {k : List Item} {cs : List Frame} {w : World} {Q : Exit → Act → World → Prop}
theorem qM {c:Code}:step P (lone (b.atR a (.code (.scope c)::k)) cs w) = .next (lone (b.atR a (.code c :: .inScope c::k)) cs w) :=
 step_lone_go (by simp[stepG,stepG.exec,Frame.atR])
theorem stepR_inScope {c:Code}:step P (lone (b.atR a (.inScope c::k)) cs w) = .next (lone (b.atR a k) cs w) :=
 step_lone_go (by simp[stepG,stepG.exec,Frame.atR])
theorem wpIn_scope {F:Fence}{n:Nat}{c:Code}(h:c.wpIn F n P (Exit.noGoto Q) a w):(Code.scope c).wpIn F n P Q a w:=by
 intro b k cs hro hb hr;have h0:(lone (b.atR a (.code (.scope c)::k)) cs w).fenced P F:=fenced_calm hb hr rfl;obtain⟨e,a₁,w₁,hq,harr⟩:=h b (.inScope c::k) cs hro hb hr;cases e with
 | normal=>exact⟨.normal,a₁,w₁,hq,.head h0 qM (StepsIn.trans harr (.one (fenced_calm hb hr rfl) stepR_inScope))⟩
 | exit id =>
  have hx:exitTo id (.inScope c::k)=exitTo id k:=by simp[exitTo]
  exact⟨.exit id,a₁,w₁,hq,fun k' hk => .head h0 qM (harr.1 k' (by rw[hx];exact hk)),
   fun hr' hk=>let ⟨k₁,h1,h2⟩:=harr.2 hr' (by rw[hx];exact hk);⟨k₁,h1,.head h0 qM h2⟩⟩
 | goto l=>exact hq.elim
 | ret=>exact⟨_,a₁,w₁,hq,.of_steps (.one h0 qM) harr⟩
 | panic ch=>exact⟨_,a₁,w₁,hq,.of_steps (.one h0 qM) harr⟩
 | outgrown=>exact⟨_,a₁,w₁,hq,.of_steps (.one h0 qM) harr⟩
end scope
theorem wp_scope {P:Program}{r:Option Nat}{N:Nat}{Kn Kr:Pd}{Ke:Nat→Pd}{D:List Deferred}{E:Env}{w:World}{c:Code}(h:Wp P r N c Kn Ke Kr D E w):Wp P r N (.scope c) Kn Ke Kr D E w:=by
 intro a ha hd;refine wpIn_scope (wpIn_mono (h a ha hd) fun e a' w' hq=>?_);cases e<;>exact hq
section code
variable {P : Program} {r : Option Nat} {N : Nat} {Kn Kr : Pd} {Ke : Nat → Pd} {D : List Deferred} {E : Env} {w : World}
theorem wp_label {l:Nat}(h:Kn D E w):Wp P r N (.label l) Kn Ke Kr D E w:=fun _ ha hd=>wpIn_label ⟨E,ha,by rw[hd];exact h⟩
theorem tQ {c:Code}{K:Pd}(h:Wp P r N c K Ke Kr D E w)(hk:∀ D E w,K D E w→Kn D E w):Wp P r N c Kn Ke Kr D E w:=by
 intro a ha hd;refine wpIn_mono (h a ha hd) fun e a' w' hq=>?_;cases e with
 | normal=>obtain⟨E',h1,h2⟩:=hq;exact⟨E',h1,hk _ _ _ h2⟩
 | exit id=>exact hq
 | ret=>exact hq
 | goto l=>exact hq
 | panic c=>exact hq
 | outgrown=>exact hq
end code
section ops
variable {P : Program} {r : Option Nat} {N : Nat} {all : Array Oper} {K : Pd} {D : List Deferred} {E : Env} {w : World} {rest : List Oper}
variable {Fz M : Nat → Prop}
theorem Has.lit {a:Act}{d:Nat}{v u:Value}(h:Has a N E)(hd:get E d=some v)(e:v=u):Has a N ((d,u)::E):=by
  refine⟨h.size,fun i x hx=>?_⟩;unfold get at hx;cases hb:Nat.beq d i with
  | true => have : d = i := zaj hb
            subst this;simp[hb] at hx;subst hx;rw[← e];exact h.at_ d v hd
  | false=>rw[hb] at hx;exact h.at_ i x hx
theorem vH {l:List Oper}{d:Nat}{v u:Value}(hd:get E d=some v)(e:v=u)(h:Ops P r N all K l D ((d,u)::E) w):Ops P r N all K l D E w :=
 fun a Q ha hD hk=>h a Q (ha.lit hd e) hD hk
theorem ops_eqnil {d:Nat}{x y:Operand}{tx ty t:TypeId}{pos:String}{af:Array Edge}{ad:Option Addr}{n c:Nat}(hd:Nat.blt d N=true)
  (hs:∃ e,P.underlying tx=some (.slice e)) (hx:ev E x=some (.slice ad n c)) (hy:ev E y=some (.slice none 0 0))
  (h:Ops P r N all K rest D ((d,.bool ad.isNone)::E) w):Ops P r N all K (⟨some d,.binOp .eql tx x y ty,t,pos,af,none⟩::rest) D E w :=
 yB hd (by intro c hc;cases hc) (fun ac ha=>by
  obtain⟨e,hs⟩:=hs;have hg:(eqGuard .eql tx x y (.slice ad n c) (.slice none 0 0)).run P w = .ok () w:=rfl;have hb:binOp .eql tx (.slice ad n c) (.slice none 0 0)=(do pure (.bool (← Op.equal tx (.slice ad n c) (.slice none 0 0)))):=rfl;have he:(Op.equal tx (.slice ad n c) (.slice none 0 0)).run P w = .ok ad.isNone w:=by
   show (Op.equalIn (9999+1) tx _ _).run P w=_;unfold Op.equalIn;simp only[Sem.run_bind,run_underlying hs,Result.andThen];cases ad<;>rfl
  simp only[execOp,ha.ev hx,ha.ev hy,Sem.run_bind,hg,hb,he,Result.andThen];rfl) h
theorem ops_shlu {d:Nat}{x y:Operand}{tx ty t:TypeId}{pos:String}{af:Array Edge}{k k':IntKind}{a:Nat}{b:Int}{m:Nat}(hd:Nat.blt d N=true)
  (hx:ev E x=some (.int k (a:Int))) (hy:ev E y=some (.int k' b)) (hb:0≤b∧b<k.bits) (hm:m=if k = .u64 then 18446744073709551616 else 4294967296) (hk:k = .u64∨k = .u32)
  (h:Ops P r N all K rest D ((d,.int k ((a*2^b.toNat%m:Nat):Int))::E) w):Ops P r N all K (⟨some d,.binOp .shl tx x y ty,t,pos,af,none⟩::rest) D E w :=
 rX hd (.inl rfl) hx hy hb.1 (by
  have h1:min b.toNat k.bits=b.toNat:=by omega
  simp only[h1];have e:((a:Int)*(2:Int)^b.toNat)=((a*2^b.toNat:Nat):Int):=by simp
  rw[e];rcases hk with rfl | rfl
  ·rw[aU];simp[hm]
  ·rw[nT];simp[hm]) h
theorem zN0 {k:IntKind}(hk:k = .u64∨k = .u32)(a b:Nat)(ha:a<2^k.bits)(hb:b<2^k.bits)(op:BinOp)(f:Nat→Nat→Nat)
  (hf:(op = .or∧f=(· ||| ·))∨(op = .and∧f=(· &&& ·))∨(op = .xor∧f=(· ^^^ ·))) (w:World):(Op.intBits op k (a:Int) (b:Int)).run P w = .ok (.int k ((f a b:Nat):Int)) w:=by
 have e:∀ c:Nat,c<2^k.bits→(BitVec.ofInt k.bits (c:Int)).toNat=c:=by
  intro c hc;simp[BitVec.toNat_ofInt];rcases hk with rfl | rfl<;>simp[IntKind.bits] at hc ⊢ <;> omega
 have hw:∀ c:Nat,c<2^k.bits→k.wrap (c:Int)=(c:Int):=by
  intro c hc;rcases hk with rfl | rfl
  ·rw[aU,Nat.mod_eq_of_lt];simpa [IntKind.bits] using hc
  ·rw[nT,Nat.mod_eq_of_lt];simpa [IntKind.bits] using hc
 rcases hf with⟨rfl,rfl⟩ | ⟨rfl,rfl⟩ | ⟨rfl,rfl⟩
 ·have:=hw (a ||| b) (Nat.or_lt_two_pow ha hb);simp only[Op.intBits,BitVec.toNat_or,e a ha,e b hb,this];rfl
 ·have:=hw (a &&& b) (Nat.and_lt_two_pow _ hb);simp only[Op.intBits,BitVec.toNat_and,e a ha,e b hb,this];rfl
 ·have:=hw (a ^^^ b) (Nat.xor_lt_two_pow ha hb);simp only[Op.intBits,BitVec.toNat_xor,e a ha,e b hb,this];rfl
theorem ops_oru {d:Nat}{x y:Operand}{tx ty t:TypeId}{pos:String}{af:Array Edge}{k:IntKind}{a b:Nat}(hd:Nat.blt d N=true)
  (hx:ev E x=some (.int k (a:Int))) (hy:ev E y=some (.int k (b:Int))) (ha:a<2^k.bits) (hb:b<2^k.bits) (hk:k = .u64∨k = .u32)
  (h:Ops P r N all K rest D ((d,.int k ((a ||| b:Nat):Int))::E) w):Ops P r N all K (⟨some d,.binOp .or tx x y ty,t,pos,af,none⟩::rest) D E w :=
 uO hd hx hy (fun w=>by rw[rB _ _ _ _ _ (by simp)];exact zN0 hk a b ha hb .or _ (.inl ⟨rfl,rfl⟩) w) h
theorem zJ6 {d:Nat}{x y:Operand}{tx ty t:TypeId}{pos:String}{af:Array Edge}{k:IntKind}{a b:Nat}(hd:Nat.blt d N=true)
  (hx:ev E x=some (.int k (a:Int))) (hy:ev E y=some (.int k (b:Int))) (ha:a<2^k.bits) (hb:b<2^k.bits) (hk:k = .u64∨k = .u32)
  (h:Ops P r N all K rest D ((d,.int k ((a &&& b:Nat):Int))::E) w):Ops P r N all K (⟨some d,.binOp .and tx x y ty,t,pos,af,none⟩::rest) D E w :=
 uO hd hx hy (fun w=>by rw[rB _ _ _ _ _ (by simp)];exact zN0 hk a b ha hb .and _ (.inr (.inl ⟨rfl,rfl⟩)) w) h
end ops
end Go.SL
namespace Go.SL
open Go.RowKit
structure Drift (T:Nat→Prop)(n:Nat)(w w':World):Prop where
 os:w'.os=w.os
 tape:Tp w w'
 output:w'.output=w.output
 size:w.heap.size≤w'.heap.size
 low:∀ k,k<n→¬ T k→w'.heap[k]? = w.heap[k]?
 cells:∀ k cs t fz,¬ T k→w.heap[k]? = some (.cells cs t fz)→w'.heap[k]? = some (.cells cs t fz)
def NoT:Nat→Prop:=fun _=>False
theorem Drift.refl (T:Nat→Prop)(n:Nat)(w:World):Drift T n w w:=⟨rfl,⟨rfl,by first | exact zab _ | exact zbt _⟩,rfl,zab _,fun _ _ _=>rfl,fun _ _ _ _ _ h=>h⟩
theorem Drift.trans {T:Nat→Prop}{n:Nat}{a b c:World}(h:Drift T n a b)(k:Drift T n b c):Drift T n a c :=
 ⟨k.os.trans h.os,k.tape.trans h.tape,k.output.trans h.output,zac h.size k.size,fun i hi ht=>(k.low i hi ht).trans (h.low i hi ht),fun i cs t fz ht hc=>k.cells i cs t fz ht (h.cells i cs t fz ht hc)⟩
theorem Drift.of_below {T:Nat→Prop}{n:Nat}{w w':World}(h:Bel w.heap.size w w')(hn:n≤w.heap.size):Drift T n w w' :=
 ⟨h.os,h.tape,h.output,h.size,fun k hk _=>h.block k (by omega),fun k cs t fz _ hc=>(h.block k (zaB.1 hc).1).trans hc⟩
theorem Drift.put {T:Nat→Prop}{n:Nat}{w:World}{l:Nat}{o o':Obj}(h:w.heap[l]? = some o)(hc:∀ cs t fz,o ≠ .cells cs t fz)(hn:n≤l):Drift T n w (w.putObj l o') :=
 ⟨rfl,⟨rfl,by first | exact zab _ | exact zbt _⟩,rfl,by simp[World.putObj],fun k hk _=>World.putObj_heap_other (by omega),fun k cs t fz _ hk=>by
  by_cases e:k=l
  ·subst e;rw[h] at hk;injection hk with hk;exact absurd hk (hc cs t fz)
  ·rw[World.putObj_heap_other e];exact hk⟩
section
variable {T Fz M M' : Nat → Prop} {n : Nat} {w w' w0 : World}
structure Rec (M:Nat→Prop)(w:World)(l:Nat)(o:Obj):Prop where
 at_:w.heap[l]? = some o
 not:¬ M l
end
def YieldV (P:Program)(l:Nat)(vs:List Value)(w:World)(R:Bool→World→Prop):Prop :=
 ∃ fn tmps assign body,(Instr.yield l vs.toArray).run P w = .ok (.round l fn tmps assign body) w ∧
  RoundIn Fence.wide 0 P l fn tmps assign body w fun e w'=>∃ b,e = .returned (.bool b)∧R b w'
theorem YieldV.mono {P:Program}{l:Nat}{vs:List Value}{w:World}{R R':Bool→World→Prop}(h:YieldV P l vs w R)(hr:∀ b w',R b w'→R' b w'):YieldV P l vs w R':=by
 obtain⟨fn,tmps,assign,body,h1,h2⟩:=h;exact⟨fn,tmps,assign,body,h1,h2.mono fun e w' ⟨b,he,hb⟩=>⟨b,he,hr b w' hb⟩⟩
theorem rW {P:Program}{r:Option Nat}{N:Nat}{all:Array Oper}{K:Pd}{D:List Deferred}{E:Env}{w:World}{rest:List Oper}
  {d:Nat} {x:Operand} {xs:List Operand} {ts:Array TypeId} {t':TypeId} {pos:String} {af:Array Edge} {l:Nat} {vs:List Value} (hd:Nat.blt d N=true)
  (hx:ev E x=some (.func (.yield l) #[] #[])) (hxs:evs E xs=some vs)
  (h:YieldV P l vs w fun b w'=>Ops P r N all K rest D ((d,.bool b)::E) w') :
  Ops P r N all K (⟨some d,.call ⟨.value x,xs.toArray,ts⟩,t',pos,af,none⟩::rest) D E w:=by
 intro a Q ha hD hk;refine wpListIn_plain rfl fun K' hK'=>⟨fun _ _=>trivial,?_⟩;rw[kP (by intro c hc;cases hc)];obtain⟨fn,tmps,assign,body,h1,h2⟩:=h;have hrun:(execOp a.eval ⟨some d,.call ⟨.value x,xs.toArray,ts⟩,t',pos,af,none⟩).run P w = .ok (.round l fn tmps assign body) w:=by
  have e1:(xs.toArray.map a.eval)=vs.toArray:=by rw[← ha.evs hxs];simp
  simp only[execOp,resolve,ha.ev hx,e1,Deferred.ofValue,Sem.run_bind,Sem.run_pure,Result.andThen,invoke];simpa using h1
 rw[hrun];refine⟨by simp[Fr],?_⟩;have h3:RoundIn (Fr r) (0-1) P l fn tmps assign body w fun e w'=>∃ b,e = .returned (.bool b)∧Ops P r N all K rest D ((d,.bool b)::E) w':=h2;refine h3.mono ?_;rintro e w' ⟨b,rfl,hv⟩;exact hK' _ _ (hv (a.put (some d) (.bool b)) Q (ha.put hd _) hD hk)
def tH (E:Env):List (Tmp×Value)→Env
 | []=>E
 | (t,v)::r=>tH ((t,v)::E) r
theorem zN2 {N:Nat}:∀(ps:List (Tmp×Value)) (a:Act) (E:Env),Has a N E→(ps.all fun p=>Nat.blt p.1 N)=true →
  Has { a with tmps:=ps.foldl (fun tmps (x:Tmp×Value)=>tmps.setIfInBounds x.1 x.2) a.tmps } N (tH E ps)
 | [],a,E,h,_=>h
 | (t,v)::r,a,E,h,hp=>by
  simp only[zaX,zaq] at hp;exact zN2 r { a with tmps:=a.tmps.setIfInBounds t v } ((t,v)::E) (h.put hp.1 v) hp.2
section range
variable {P : Program} {r : Option Nat} {N : Nat} {Kn Kr : Pd} {Ke : Nat → Pd} {D : List Deferred} {E : Env} {w : World}
def Outer (r:Option Nat)(w:World):Prop:=match r with
 | none=>True
 | some l₀=>∃ r₀,w.heap[l₀]? = some (.loop r₀)
def kH (r:Option Nat)(w:World):List Deferred:=match r with
 | none=>[{ target:=.collected w.heap.size,args:=#[] }]
 | some _=>[]
end range
end Go.SL
namespace Go.SL
open Go.RowKit
theorem nV {F:Fence}{n:Nat}{P:Program}{o:Oper}{a:Act}{w:World}{K K':Act→World→Prop}{Q Q':Exit→Act→World→Prop}
  (h:o.wpIn F n P a w K Q) (hK:∀ a' w',K a' w'→(∃ v,a'.tmps=(a.put o.dst v).tmps)→K' a' w')
  (hp:∀ c a w,Q (.panic c) a w→Q' (.panic c) a w) (hl:LetsOut Q→LetsOut Q'):o.wpIn F n P a w K' Q':=by
 unfold Oper.wpIn at *;refine⟨h.1,?_⟩;have hh:=h.2;generalize (o.semAt F.round a.eval).run P w=res at *;cases res with
 | ok x w' =>
  cases x<;>simp only[Oper.uponIn] at hh ⊢ <;>
   first
    | exact hK _ _ hh ⟨_,rfl⟩
    | exact hK _ _ hh ⟨undef,by cases o.dst<;>rfl⟩
    | exact⟨hh.1,CallsIn.mono hh.2 (fun e w'' he=>by cases e<;>first | exact hK _ _ he ⟨_,rfl⟩ | exact hp _ _ _ he | exact hl he)⟩
    | exact⟨hh.1,RowsIn.mono hh.2 (fun _ _ he=>hK _ _ he ⟨_,rfl⟩)⟩
    | exact⟨hh.1,RoundIn.mono hh.2 (fun e w'' he=>by cases e<;>first | exact hK _ _ he ⟨_,rfl⟩ | exact hp _ _ _ he | exact hl he)⟩
 | halt x w'=>cases x<;>simp only[Oper.uponIn] at hh ⊢ <;> first | exact hp _ _ _ hh | exact hh
theorem bV {P:Program}{r:Option Nat}{N:Nat}{ops:Array Oper}{D:List Deferred}{E:Env}{w:World}{i:Nat}{o:Oper}{K:Pd}{K':Act→World→Prop}{Q:Exit→Act→World→Prop}{a:Act}
  (ho:ops[i]? = some o) (h:Ops P r N ops K [o] D E w) (ha:Has a N E) (hd:a.defers=D)
  (hK:∀ a' w' E',Has a' N E'→K a'.defers E' w'→(∃ v,a'.tmps=(a.put o.dst v).tmps)→K' a' w'):wpOpIn (Fr r) 0 P ops Q i K' a w:=by
 have h1:=h a (fun e a' w'=>match e with | .normal=>∃ E',Has a' N E'∧K a'.defers E' w' | e=>Q e a' w') ha hd (fun a' w' E' h1 h2=>⟨E',h1,h2⟩);unfold wpOpIn;simp only[ho];unfold wpListIn at h1;split
 ·rename_i hw;rw[if_pos hw] at h1;exact nV h1 (fun a' w' hk hf=>by
   have hk':∃ E',Has a' N E'∧K a'.defers E' w':=hk;obtain⟨E',e1,e2⟩:=hk'; exact hK a' w' E' e1 e2 hf) (fun c a w h=>h) (fun h=>h)
 ·rename_i hw;rw[if_neg hw] at h1;have hk':∃ E',Has (a.put o.dst undef) N E'∧K (a.put o.dst undef).defers E' w:=h1.2;obtain⟨E',e1,e2⟩:=hk';exact⟨fun _ _=>trivial,hK _ _ E' e1 e2 ⟨_,rfl⟩⟩
abbrev VP:=Value→World→Prop
def dirs (o:Oper):List Nat:=(o.after.toList.filter (Region.binds .any)).map (·.on)
def uW:List Oper→List (List Nat)→List (List Nat)
 | [],acc=>acc
 | o::rest,acc=>uW rest (acc++[dirs o++(dirs o).flatMap fun j=>acc.getD j []])
def ancs (l:List Oper):List (List Nat):=uW l []
def yE (ops:Array Oper)(o:Oper):List Nat :=
 (o.op.operands.toList.filterMap fun | .tmp t=>some t | _=>none)++(match o.guard with | some (j,_)=>((ops[j]?).bind (·.dst)).toList | none=>[])
def uT (ops:Array Oper)(m:Nat):Bool :=
 let l:=ops.toList
 let an:=ancs l
 (l.zipIdx.all fun(o,i)=>(dirs o).all (· < i)) &&
 ((l.take m).zipIdx.all fun(o,i)=>(yE ops o).all fun s=>(l.take m).zipIdx.all fun(p,k)=>if p.dst == some s then(if k<i then(an.getD i []).contains k else if i<k then(an.getD k []).contains i else false) else true) &&
 ((l.take m).zipIdx.all fun(o,i)=>(l.take m).zipIdx.all fun(p,k)=>i == k || p.dst.isNone || p.dst != o.dst) &&
 (l.zipIdx.all fun(o,i)=>i<m || (List.range i).all fun j=>(an.getD i []).contains j)
def Obl (Γ:List (Nat×VP))(E:Env)(w:World)(body:Env→Prop):List Nat→Env→Prop
 | [],F=>body F
 | s::ss,F=>match Γ.find? (fun p=>Nat.beq p.1 s) with
  | some p=>∀ v,p.2 v w→Obl Γ E w body ss ((s,v)::F)
  | none=>match get E s with
   | some v=>Obl Γ E w body ss ((s,v)::F)
   | none=>Obl Γ E w body ss F
theorem mG:∀(l:List Oper) (acc:List (List Nat)) (j:Nat),j<acc.length→(uW l acc).getD j []=acc.getD j []
 | [],acc,j,_=>rfl
 | o::rest,acc,j,h=>by
  unfold uW;rw[mG rest _ j (by simp;omega)];simp[List.getElem?_append,h]
theorem zN5:∀(l:List Oper) (acc:List (List Nat)) (i:Nat) (o:Oper),l[i]? = some o→(∀ j∈dirs o,j<acc.length+i) →
  (uW l acc).getD (acc.length+i) []=dirs o++(dirs o).flatMap fun j=>(uW l acc).getD j []
 | [],acc,i,o,h,_=>by simp at h
 | p::rest,acc,0,o,h,hd=>by
  simp at h;subst h;unfold uW;have hlen:acc.length<(acc++[dirs p++(dirs p).flatMap fun j=>acc.getD j []]).length:=by simp
  rw[zbM,mG rest _ acc.length hlen];have e:(acc++[dirs p++(dirs p).flatMap fun j=>acc.getD j []]).getD acc.length []=dirs p++(dirs p).flatMap fun j=>acc.getD j []:=by simp
  rw[e];congr 1;have:∀(js:List Nat),(∀ j∈js,j<acc.length)→(js.flatMap fun j=>acc.getD j [])=js.flatMap fun j=>(uW rest (acc++[dirs p++(dirs p).flatMap fun j=>acc.getD j []])).getD j []:=by
   intro js
   induction js with
   | nil=>intro _;rfl
   | cons a js ih =>
    intro hj;have h1:=hj a (by simp);simp only[zcd];rw[ih (fun j hm=>hj j (by simp[hm])),mG rest _ a (by simp;omega)];have:(acc++[dirs p++(dirs p).flatMap fun j=>acc.getD j []]).getD a []=acc.getD a []:=by simp[List.getElem?_append,h1]
    rw[this]
  exact this _ (fun j hm=>by have:=hd j hm;omega)
 | p::rest,acc,i+1,o,h,hd=>by
  unfold uW;have:=zN5 rest (acc++[dirs p++(dirs p).flatMap fun j=>acc.getD j []]) i o (by simpa using h) (fun j hm=>by have:=hd j hm;simp;omega);have e:(acc++[dirs p++(dirs p).flatMap fun j=>acc.getD j []]).length+i=acc.length+(i+1):=by simp;omega
  rw[e] at this;exact this
theorem nR {l:List Oper}{i:Nat}{o:Oper}(h:l[i]? = some o)(hd:∀ j∈dirs o,j<i):(ancs l).getD i []=dirs o++(dirs o).flatMap fun j=>(ancs l).getD j []:=by
 have:=zN5 l [] i o h (by simpa using hd);simpa [ancs] using this
theorem aD {l:List Oper}(hd:∀ i o,l[i]? = some o→∀ j∈dirs o,j<i)(S:Nat→Prop)(hS:∀ i o,l[i]? = some o→S i→∀ j∈dirs o,S j) :
  ∀ i o,l[i]? = some o→S i→∀ j∈(ancs l).getD i [],S j:=by
 intro i
 induction i using Nat.strongRecOn with
 | _ i ih =>
  intro o ho hi j hj;rw[nR ho (hd i o ho)] at hj;rcases zae.1 hj with h | h
  ·exact hS i o ho hi j h
  ·obtain⟨k,hk,hjk⟩:=zbN.1 h;have hki:=hd i o ho k hk;have hlt:k<l.length:=by have:=(zaL.1 ho).1;omega
   exact ih k hki l[k] (zag hlt) (hS i o ho hi k hk) j hjk
def StI (st:Option (Nat×(World→Prop)×(World→Prop)))(an:List (List Nat))(i:Nat)(w:World):Prop :=
 match st with
 | none=>True
 | some (k,pre,post)=>(k∈an.getD i []→post w)∧(i∈an.getD k []→pre w)
section draw
variable (P : Program) (r : Option Nat) (N : Nat) (ops : Array Oper) (D : List Deferred) (E : Env) (w0 : World) (R R' : World → World → Prop) (st : Option (Nat × (World → Prop) × (World → Prop)))
def yB0 (i:Nat)(o:Oper)(Ψ:VP)(Γ:List (Nat×VP)):Prop :=
 match o.dst with
 | some d=>((∀ k pre post,st=some (k,pre,post)→i≠k)∧(∀ v w w',Ψ v w→R w w'→Ψ v w')∧∀ w,R w0 w→StI st (ancs ops.toList) i w →
   Obl Γ E w (fun F=>Ops P r N ops (fun D' E' w'=>D'=D∧R' w w'∧∃ v,get E' d=some v∧Ψ v w') [o] D F w) (yE ops o) []) ∨
  (∃ pre post,st=some (i,pre,post)∧(∀ v w w',Ψ v w→R' w w'→Ψ v w')∧∀ w,R w0 w→pre w →
   Obl Γ E w (fun F=>Ops P r N ops (fun D' E' w'=>D'=D∧R w w'∧post w'∧∃ v,get E' d=some v∧Ψ v w') [o] D F w) (yE ops o) [])
 | none=>∃ pre post,st=some (i,pre,post)∧∀ w,R w0 w→pre w →
   Obl Γ E w (fun F=>Ops P r N ops (fun D' E' w'=>D'=D∧R w w'∧post w') [o] D F w) (yE ops o) []
def gam1 (o:Oper)(Ψ:VP)(Γ:List (Nat×VP)):List (Nat×VP):=match o.dst with | some d=>(d,Ψ)::Γ | none=>Γ
def DRs (F:List (Nat×VP)→Prop):List Oper→Nat→List (Nat×VP)→Prop
 | [],_,Γ=>F Γ
 | o::rest,i,Γ=>∃ Ψ,yB0 P r N ops D E w0 R R' st i o Ψ Γ∧DRs F rest (i+1) (gam1 o Ψ Γ)
variable {P r N ops D E w0 R R' st}
theorem uD {md:Region.Mode}{listed:Array Bool}{i:Nat}:i∈Region.ready md ops listed ↔
  i<ops.size∧listed.getD i true=false∧∃ o,ops[i]? = some o∧∀ e∈o.after,Region.binds md e=true→listed.getD e.on false=true:=by
 unfold Region.ready;simp only[zcs,zbq,zaq,zct];constructor
 ·rintro⟨h1,h2,h3⟩;refine⟨h1,h2,?_⟩;cases ho:ops[i]? with
  | none=>simp[ho] at h3
  | some o =>
   refine⟨o,rfl,fun e he hb=>?_⟩;simp only[ho,Option.map_some,zbu,Array.all_eq_true_iff_forall_mem] at h3;have:=h3 e he;simpa [hb] using this
 ·rintro⟨h1,h2,o,ho,h3⟩;refine⟨h1,h2,?_⟩;simp only[ho,Option.map_some,zbu,Array.all_eq_true_iff_forall_mem];intro e he;cases hb:Region.binds md e with
  | false=>rfl
  | true=>simpa using h3 e he hb
theorem wS {Q:Exit→Act→World→Prop}(hd:∀ i o,ops.toList[i]? = some o→∀ j∈dirs o,j<i)(m:Nat)(ht:∀ i o,ops.toList[i]? = some o→m≤i→∀ j,j<i→j∈(ancs ops.toList).getD i []) :
  ∀(l:List Oper) (k:Nat) (listed:Array Bool) (a:Act) (w:World) (fuel:Nat),m≤k→l=ops.toList.drop k→listed.size=ops.size→(∀ i,i<ops.size→(listed.getD i true=true↔i<k))→l.length≤fuel →
   wpListIn (Fr r) 0 P ops Q l a w→wpAnyIn (Fr r) 0 P .any ops Q fuel listed a w
 | [],k,listed,a,w,fuel,hm,hl,hs,hli,hf,h=>by
  have hk:ops.size≤k:=by
   have:=congrArg List.length hl;simp at this;omega
  have hr:Region.ready .any ops listed=[]:=by
   rw[List.eq_nil_iff_forall_not_mem];intro i hi;obtain⟨h1,h2,_⟩:=uD.1 hi;have:=(hli i h1).2 (by omega);rw[this] at h2;cases h2
  have hQ:Q .normal a w:=h;cases fuel with
  | zero=>exact⟨hr,hQ⟩
  | succ f=>exact⟨fun _=>hQ,fun i hi=>by rw[hr] at hi;cases hi⟩
 | o::l,k,listed,a,w,fuel,hm,hl,hs,hli,hf,h=>by
  have hk:k<ops.size:=by
   have:=congrArg List.length hl;simp at this;omega
  have hok:ops.toList[k]? = some o:=by
   have:=congrArg (fun l=>l[0]?) hl;simpa using this.symm
  have hok':ops[k]? = some o:=by simpa using hok
  have hl':l=ops.toList.drop (k+1):=by
   have:=congrArg List.tail hl;simpa [List.tail_drop] using this
  have honly:∀ i,i∈Region.ready .any ops listed→i=k:=by
   intro i hi;obtain⟨h1,h2,oi,ho,h3⟩:=uD.1 hi;have hik:¬ i<k:=fun c=>by rw[(hli i h1).2 c] at h2;cases h2
   rcases Nat.lt_or_eq_of_le (zcu hik) with hlt | heq
   ·-- k stands ahead of i
    have hoi:ops.toList[i]? = some oi:=by simpa using ho
    have hanc:=ht i oi hoi (by omega) k hlt
    -- the ancestors of i that are direct are listed;so are theirs
    rw[nR hoi (hd i oi hoi)] at hanc;have hdir:∀ j∈dirs oi,j<k:=by
     intro j hj;obtain⟨e,he,rfl⟩:=zai.1 hj;obtain⟨he1,he2⟩:=zcs.1 he;have:=h3 e (by simpa using he1) he2;have hj2:e.on<ops.size:=by have:=hd i oi hoi e.on (zai.2 ⟨e,he,rfl⟩);omega
     have hlst:listed.getD e.on true=true:=by
      have hsz:e.on<listed.size:=by omega
      simp only[zbT,zce hsz,zbu] at this ⊢;exact this
     exact(hli e.on hj2).1 hlst
    have hmono:∀ j,j<ops.size→∀ x∈(ancs ops.toList).getD j [],x<j:=by
     intro j hj x hx;have hjo:ops.toList[j]? = some ops[j]:=by simp[hj]
     exact aD hd (fun y=>y<j∨y=j) (fun a oa ha hs' y hy=>by have:=hd a oa ha y hy;omega) j ops[j] hjo (.inr rfl) x hx |>.elim id (fun e=>by
      exfalso;rw[nR hjo (hd j _ hjo)] at hx;rcases zae.1 hx with h | h
      ·have:=hd j _ hjo x h;omega
      ·obtain⟨q,hq,hxq⟩:=zbN.1 h;have hqj:=hd j _ hjo q hq;have hqo:ops.toList[q]? = some ops[q]:=by simp
       have:=aD hd (fun y=>y≤q) (fun a oa ha hs' y hy=>by have:=hd a oa ha y hy;omega) q ops[q] hqo (zab _) x hxq;omega)
    rcases zae.1 hanc with h | h
    ·have:=hdir k h;omega
    ·obtain⟨q,hq,hxq⟩:=zbN.1 h;have h4:=hdir q hq;have:=hmono q (by omega) k hxq;omega
   ·exact heq.symm
  cases fuel with
  | zero=>simp at hf
  | succ f =>
   have hready:k∈Region.ready .any ops listed:=by
    refine uD.2 ⟨hk,?_,o,hok',fun e he hb=>?_⟩
    ·cases hb:listed.getD k true with
     | false=>rfl
     | true=>have:=(hli k hk).1 hb;omega
    ·have hj:e.on∈dirs o:=List.mem_map.2 ⟨e,List.mem_filter.2 ⟨by simpa using he,hb⟩,rfl⟩;have hlt:=hd k o hok e.on hj;have:=(hli e.on (by omega)).2 hlt;have hsz:e.on<listed.size:=by omega
     simp only[zbT,zce hsz,zbu] at this ⊢;exact this
   refine⟨fun hr=>(by rw[hr] at hready;cases hready),fun i hi=>?_⟩;obtain rfl:=honly i hi;have hrec:∀ a w,wpListIn (Fr r) 0 P ops Q l a w→wpAnyIn (Fr r) 0 P .any ops Q f (listed.setIfInBounds i true) a w:=fun a' w' h' =>
    wS hd m ht l (i+1) (listed.setIfInBounds i true) a' w' f (by omega) hl' (by simp[hs]) (fun j hj=>by
     by_cases e:i=j
     ·subst e;have:(listed.setIfInBounds i true).getD i true=true:=by simp[zbT,hs,hk]
      simp[this]
     ·have:(listed.setIfInBounds i true).getD j true=listed.getD j true:=by
       simp[zbT,zcW e]
      rw[this,hli j hj];omega) (by simp at hf;omega) h'
   unfold wpOpIn;simp only[hok'];unfold wpListIn at h;split
   ·rename_i hw;rw[if_pos hw] at h;exact Oper.wpIn_mono hrec h
   ·rename_i hw;rw[if_neg hw] at h;exact⟨h.1,hrec _ _ h.2⟩
theorem bM {l:List Oper}{p:Oper×Nat→Bool}(h:l.zipIdx.all p=true){i:Nat}{o:Oper}(ho:l[i]? = some o):p (o,i)=true:=by
 rw[zaC] at h;exact h (o,i) (by rw[List.mem_zipIdx_iff_getElem?];simpa using ho)
end draw
section
variable {G : Type}
abbrev VPS (G:Type):=Value→World×G→Prop
def OblS (Γ:List (Nat×VPS G))(E:Env)(x:World×G)(body:Env→Prop):List Nat→Env→Prop
 | [],F=>body F
 | s::ss,F=>match Γ.find? (fun p=>Nat.beq p.1 s) with
  | some p=>∀ v,p.2 v x→OblS Γ E x body ss ((s,v)::F)
  | none=>match get E s with
   | some v=>OblS Γ E x body ss ((s,v)::F)
   | none=>OblS Γ E x body ss F
def StIS (st:Option (Nat×(World×G→Prop)×(World×G→Prop)))(an:List (List Nat))(i:Nat)(w:World×G):Prop :=
 match st with
 | none=>True
 | some (k,pre,post)=>(k∈an.getD i []→post w)∧(i∈an.getD k []→pre w)
section draw
variable (P : Program) (r : Option Nat) (N : Nat) (ops : Array Oper) (D : List Deferred) (E : Env) (x0 : World × G) (R : World × G → World × G → Prop) (R' : Nat → World × G → World × G → Prop) (Pr : Nat → World × G → Prop) (st : Option (Nat × (World × G → Prop) × (World × G → Prop))) (th : Nat → Option (World × G → Prop))
def aS (i:Nat)(o:Oper)(Ψ:VPS G)(Γ:List (Nat×VPS G)):Prop :=
 match o.dst with
 | some d=>(∀ v w w',Ψ v w→R w w'→Ψ v w')∧(((∀ k pre post,st=some (k,pre,post)→i≠k)∧∀ w,R x0 w→StIS st (ancs ops.toList) i w→Pr i w →
   OblS Γ E w (fun F=>Ops P r N ops (fun D' E' w'=>D'=D∧∃ g',R' i w (w',g')∧∃ v,get E' d=some v∧Ψ v (w',g')) [o] D F w.1) (yE ops o) []) ∨
  ∃ pre post,st=some (i,pre,post)∧∀ w,R x0 w→pre w →
   OblS Γ E w (fun F=>Ops P r N ops (fun D' E' w'=>D'=D∧∃ g',R' i w (w',g')∧post (w',g')∧∃ v,get E' d=some v∧Ψ v (w',g')) [o] D F w.1) (yE ops o) [])
 | none=>(∃ pre post,st=some (i,pre,post)∧∀ w,R x0 w→pre w →
   OblS Γ E w (fun F=>Ops P r N ops (fun D' E' w'=>D'=D∧∃ g',R' i w (w',g')∧post (w',g')) [o] D F w.1) (yE ops o) []) ∨
  ∃ Θ,th i=some Θ∧(∀ k pre post,st=some (k,pre,post)→i≠k)∧(∀ w w',Θ w→R w w'→Θ w')∧∀ w,R x0 w→StIS st (ancs ops.toList) i w→Pr i w →
   OblS Γ E w (fun F=>Ops P r N ops (fun D' E' w'=>D'=D∧∃ g',R' i w (w',g')∧Θ (w',g')) [o] D F w.1) (yE ops o) []
def iW (o:Oper)(Ψ:VPS G)(Γ:List (Nat×VPS G)):List (Nat×VPS G):=match o.dst with | some d=>(d,Ψ)::Γ | none=>Γ
def DRsT (F:List (Nat×VPS G)→Prop):List Oper→Nat→List (Nat×VPS G)→Prop
 | [],_,Γ=>F Γ
 | o::rest,i,Γ=>∃ Ψ,aS P r N ops D E x0 R R' Pr st th i o Ψ Γ∧DRsT F rest (i+1) (iW o Ψ Γ)
def cJ:List Oper→List (VPS G)→List (Nat×VPS G)→List (Nat×VPS G)
 | [],_,Γ=>Γ
 | o::os,[],Γ=>Γ
 | o::os,Ψ::Ψs,Γ=>cJ os Ψs (iW o Ψ Γ)
variable {P r N ops D E x0 R R' Pr st th th}
theorem sT {F:List (Nat×VPS G)→Prop}:∀(l:List Oper) (i:Nat) (Γ:List (Nat×VPS G)),DRsT P r N ops D E x0 R R' Pr st th F l i Γ →
  ∃ Ψs:List (VPS G),Ψs.length=l.length∧F (cJ l Ψs Γ)∧∀(j:Nat) (o:Oper) (Ψ:VPS G),l[j]? = some o→Ψs[j]? = some Ψ→aS P r N ops D E x0 R R' Pr st th (i+j) o Ψ (cJ (l.take j) (Ψs.take j) Γ)
 | [],i,Γ,h=>⟨[],rfl,h,by simp⟩
 | o::rest,i,Γ,h=>by
  obtain⟨Ψ,h1,h2⟩:=h;obtain⟨Ψs,e1,e2,e3⟩:=sT rest (i+1) _ h2;refine⟨Ψ::Ψs,by simp[e1],e2,fun j o' Ψ' hj hp=>?_⟩;cases j with
  | zero=>simp at hj hp;subst hj;subst hp;simpa [cJ] using h1
  | succ j =>
   have:=e3 j o' Ψ' (by simpa using hj) (by simpa using hp);have e:i+1+j=i+(j+1):=by omega
   rw[e] at this;simpa [cJ] using this
theorem qY:∀(l:List Oper) (Ψs:List (VPS G)) (Γ:List (Nat×VPS G)) (s:Nat) (p:Nat×VPS G),Ψs.length=l.length→(cJ l Ψs Γ).find? (fun p=>Nat.beq p.1 s)=some p →
  (∃(k:Nat) (o:Oper),l[k]? = some o∧o.dst=some s∧Ψs[k]? = some p.2)∨Γ.find? (fun p=>Nat.beq p.1 s)=some p
 | [],Ψs,Γ,s,p,_,h => .inr h
 | o::os,[],Γ,s,p,hl,h=>by simp at hl
 | o::os,Ψ::Ψs,Γ,s,p,hl,h=>by
  rcases qY os Ψs _ s p (by simpa using hl) h with⟨k,o',h1,h2,h3⟩ | h1
  ·exact .inl ⟨k+1,o',by simpa using h1,h2,by simpa using h3⟩
  ·unfold iW at h1;cases hd:o.dst with
   | none=>rw[hd] at h1;exact .inr h1
   | some d =>
    rw[hd] at h1;simp only[zbK] at h1;cases hb:Nat.beq d s with
    | true =>
     rw[hb] at h1;have e:d=s:=zaj hb;simp at h1;subst h1;subst e;exact .inl ⟨0,o,rfl,hd,rfl⟩
    | false=>rw[hb] at h1;exact .inr h1
theorem qZ:∀(l:List Oper) (Ψs:List (VPS G)) (Γ:List (Nat×VPS G)) (s:Nat),Ψs.length=l.length→(cJ l Ψs Γ).find? (fun p=>Nat.beq p.1 s)=none →
  (∀(k:Nat) (o:Oper),l[k]? = some o→o.dst≠some s)∧Γ.find? (fun p=>Nat.beq p.1 s)=none
 | [],Ψs,Γ,s,_,h=>⟨by simp,h⟩
 | o::os,[],Γ,s,hl,h=>by simp at hl
 | o::os,Ψ::Ψs,Γ,s,hl,h=>by
  obtain⟨h1,h2⟩:=qZ os Ψs _ s (by simpa using hl) h;unfold iW at h2;cases hd:o.dst with
  | none => rw [hd] at h2; exact ⟨fun k o' hk => by cases k with
                         | zero=>simp at hk;subst hk;rw[hd];simp
                         | succ k=>exact h1 k o' (by simpa using hk),h2⟩
  | some d =>
   rw[hd] at h2;simp only[zbK] at h2;cases hb:Nat.beq d s with
   | true=>rw[hb] at h2;simp at h2
   | false =>
    rw[hb] at h2;have hne:d≠s:=zby hb;exact ⟨fun k o' hk => by cases k with
                 | zero=>simp at hk;subst hk;rw[hd];simpa using hne
                 | succ k=>exact h1 k o' (by simpa using hk),h2⟩
theorem jO {Γ:List (Nat×VPS G)}{body:Env→Prop}{a:Act}{w:World×G}(hN:a.tmps.size=N):∀(ss:List Nat) (F:Env),OblS Γ E w body ss F→Has a N F →
    (∀ s∈ss,∀ p,Γ.find? (fun p=>Nat.beq p.1 s)=some p→∃ v,a.tmps[s]? = some v∧p.2 v w) →
    (∀ s∈ss,Γ.find? (fun p=>Nat.beq p.1 s)=none→∀ v,get E s=some v→a.tmps[s]? = some v)→∃ F',body F'∧Has a N F'
  | [],F,h,ha,_,_=>⟨F,h,ha⟩
  | s::ss,F,h,ha,h1,h2=>by
    have hadd:∀ v,a.tmps[s]? = some v→Has a N ((s,v)::F):=fun v hv=>⟨ha.size,fun i u hu=>by
      unfold get at hu;cases hb:Nat.beq s i with
      | true => have e : s = i := zaj hb
                subst e;simp[hb] at hu;subst hu;exact hv
      | false=>rw[hb] at hu;exact ha.at_ i u hu⟩
    unfold OblS at h;cases hf:Γ.find? (fun p=>Nat.beq p.1 s) with
    | some p =>
      rw[hf] at h;obtain⟨v,hv,hp⟩:=h1 s (by simp) p hf;exact jO hN ss _ (h v hp) (hadd v hv) (fun s' hs=>h1 s' (by simp[hs])) (fun s' hs=>h2 s' (by simp[hs]))
    | none =>
      rw[hf] at h;simp only at h;cases hg:get E s with
      | some v =>
        rw[hg] at h;exact jO hN ss _ h (hadd v (h2 s (by simp) hf v hg)) (fun s' hs=>h1 s' (by simp[hs])) (fun s' hs=>h2 s' (by simp[hs]))
      | none=>rw[hg] at h;exact jO hN ss _ h ha (fun s' hs=>h1 s' (by simp[hs])) (fun s' hs=>h2 s' (by simp[hs]))
theorem wK {Kn Kr:Pd}{Ke:Nat→Pd}{w w1:World}(g0:G)(m:Nat)(outs:List Nat)(hlook:uT ops m=true)
    (hRt:∀ a b c,R a b→R b c→R a c) (hRR:∀ i a b,R' i a b→R a b) (hR0:R (w,g0) (w1,g0))
    (hst:∀ k pre post,st=some (k,pre,post)→k<m∧pre (w1,g0)∧(∀ i a b,i≠k→pre a→R' i a b→pre b)∧(∀ i a b,i≠k→post a→R' i a b→post b)∧∃ o,ops[k]? = some o)
    (hPr0:∀ i,Pr i (w1,g0)) (hPr:∀ i j a b,i≠j→Pr i a→R' j a b→Pr i b)
    (h:DRsT P r N ops D E (w,g0) R R' Pr st th (fun Γ=>∀ x',R (w,g0) x'→(∀ k pre post,st=some (k,pre,post)→post x')→(∀ i o Θ,(ops.toList.take m)[i]? = some o→o.dst=none→(∀ k pre post,st=some (k,pre,post)→i≠k)→th i=some Θ→Θ x')→OblS Γ E x' (fun F=>Ops P r N ops Kn (ops.toList.drop m) D F x'.1) outs []) (ops.toList.take m) 0 []) :
    ∀ a0,Has a0 N E→a0.defers=D→wpAnyIn (Fr r) 0 P .any ops (toQ N Kn Ke Kr) ops.size (Array.replicate ops.size false) a0 w1:=by
  intro a0 ha0 hd0
  -- the look
  unfold uT at hlook;simp only[zaq] at hlook;obtain⟨⟨⟨hl1,hl2⟩,hl3⟩,hl4⟩:=hlook;have hdir:∀ i o,ops.toList[i]? = some o→∀ j∈dirs o,j<i:=by
    intro i o ho j hj;have:=bM hl1 ho;rw[zaC] at this;simpa using this j hj
  have hslot:∀ i o,(ops.toList.take m)[i]? = some o→∀ s∈yE ops o,∀ k p,(ops.toList.take m)[k]? = some p→p.dst=some s→(k<i→k∈(ancs ops.toList).getD i [])∧(i<k→i∈(ancs ops.toList).getD k [])∧k≠i:=by
    intro i o ho s hs k p hp hps;have h1:=bM hl2 ho;rw[zaC] at h1;have h2:=bM (h1 s hs) hp;simp only[hps,beq_self_eq_true,if_true] at h2;by_cases e1:k<i
    · rw[if_pos e1] at h2;exact⟨fun _=>by simpa using h2,fun _=>by omega,by omega⟩
    · rw[if_neg e1] at h2;by_cases e2:i<k
      · rw[if_pos e2] at h2;exact⟨fun _=>by omega,fun _=>by simpa using h2,by omega⟩
      · rw[if_neg e2] at h2;cases h2
  have hdist:∀(i:Nat) (o:Oper) (k:Nat) (p:Oper) (d:Nat),(ops.toList.take m)[i]? = some o→(ops.toList.take m)[k]? = some p→o.dst=some d→p.dst=some d→i=k:=by
    intro i o k p d ho hp h1 h2;have h3:=bM (bM hl3 ho) hp;simpa [h1,h2] using h3
  have htail:∀ i o,ops.toList[i]? = some o→m≤i→∀ j,j<i→j∈(ancs ops.toList).getD i []:=by
    intro i o ho hi j hj;have h1:=bM hl4 ho;simp only[zcf,decide_eq_true_eq] at h1;rcases h1 with h1 | h1
    · omega
    · rw[zaC] at h1;simpa using h1 j (by simpa using hj)
  obtain⟨Ψs,hlen,hF,hone⟩:=sT _ _ _ h;have htk:∀ i o,ops.toList[i]? = some o→i<m→(ops.toList.take m)[i]? = some o:=by
    intro i o ho hi;rw[zaN,if_pos hi];exact ho
  have hkt:∀ i o,(ops.toList.take m)[i]? = some o→ops.toList[i]? = some o∧i<m:=by
    intro i o ho;rw[zaN] at ho;split at ho
    · rename_i hi;exact⟨ho,hi⟩
    · cases ho
  -- what holds once some have been taken
  let Inv:Array Bool→Act→World×G→Prop:=fun listed a w' =>
    listed.size=ops.size∧(∀ i,m≤i→i<ops.size→listed.getD i true=false) ∧
    (∀ i o,ops.toList[i]? = some o→listed.getD i true=true→∀ j∈dirs o,listed.getD j true=true) ∧
    a.tmps.size=N∧a.defers=D∧R (w,g0) w' ∧
    (∀(i:Nat) (o:Oper) (d:Nat) (Ψ:VPS G),(ops.toList.take m)[i]? = some o→listed.getD i true=true→o.dst=some d→Ψs[i]? = some Ψ→∃ v,a.tmps[d]? = some v∧Ψ v w') ∧
    (∀ s v,get E s=some v→(∀(i:Nat) (o:Oper),(ops.toList.take m)[i]? = some o→listed.getD i true=true→o.dst≠some s)→a.tmps[s]? = some v) ∧
    (∀ k pre post,st=some (k,pre,post)→(listed.getD k true=true→post w')∧(listed.getD k true=false→pre w')) ∧
    (∀ i,listed.getD i true=false→Pr i w') ∧
    (∀ i o Θ,(ops.toList.take m)[i]? = some o→o.dst=none→(∀ k pre post,st=some (k,pre,post)→i≠k)→th i=some Θ→listed.getD i true=true→Θ w')
  have key:∀(fuel:Nat) (listed:Array Bool) (a:Act) (w':World×G),Inv listed a w'→((List.range ops.size).filter fun i=>!listed.getD i true).length≤fuel →
      wpAnyIn (Fr r) 0 P .any ops (toQ N Kn Ke Kr) fuel listed a w'.1:=by
    intro fuel
    induction fuel with
    | zero =>
      intro listed a w' hI hf;have hnil:∀ i,i<ops.size→listed.getD i true=true:=by
        intro i hi;cases hb:listed.getD i true with
        | true=>rfl
        | false =>
          have:i∈(List.range ops.size).filter fun i=>!listed.getD i true:=List.mem_filter.2 ⟨by simpa using hi,by simp[hb]⟩;have:=List.length_pos_of_mem this;omega
      -- all taken: m is the whole
      obtain⟨hs,htl,hcl,hN,hD',hRw,hv,hE',hst',hPrI,hTh⟩:=hI;have hmn:ops.size≤m:=by
        rcases zaf m ops.size with hlt | hge
        · have h1:=htl m (zab _) hlt;rw[hnil m hlt] at h1;cases h1
        · exact hge
      have hfin:=hF w' hRw (fun k pre post hk=>(hst' k pre post hk).1 (by
        have:=(hst k pre post hk).1;rcases zaf k ops.size with hlt | hge
        · exact hnil k hlt
        · simp[Array.getD_eq_getD_getElem?,Array.getElem?_eq_none (show listed.size≤k by omega)])) (fun i o Θ k1 k2 k3 k4=>hTh i o Θ k1 k2 k3 k4 (hnil i (by have:=(List.getElem?_eq_some_iff.1 (hkt i o k1).1).1;simpa using this)))
      obtain⟨F,hbody,hhas⟩:=jO hN outs [] hfin ⟨hN,by simp[get]⟩ (fun s _ p hp=>by
          rcases qY _ _ _ s p hlen hp with⟨k,o,h1,h2,h3⟩ | h1
          · exact hv k o s p.2 h1 (hnil k (by have:=(List.getElem?_eq_some_iff.1 (hkt k o h1).1).1;simpa using this)) h2 h3
          · simp at h1) (fun s _ hn v hg=>hE' s v hg (fun i o hi _=>(qZ _ _ _ s hlen hn).1 i o hi))
      have hdrop:ops.toList.drop m=[]:=by simp;omega
      rw[hdrop] at hbody;have hres:=hbody a (toQ N Kn Ke Kr) hhas hD' (fun _ _ E' h1 h2=>⟨E',h1,h2⟩);refine⟨?_,hres⟩;rw[List.eq_nil_iff_forall_not_mem];intro i hi;obtain⟨h1,h2,_⟩:=uD.1 hi;rw[hnil i h1] at h2;cases h2
    | succ f ih =>
      intro listed a w' hI hf;by_cases hall:∀ i,i<m→i<ops.size→listed.getD i true=true
      · -- the first m have been taken
        obtain⟨hs,htl,hcl,hN,hD',hRw,hv,hE',hst',hPrI,hTh⟩:=hI;have hfin:=hF w' hRw (fun k pre post hk=>(hst' k pre post hk).1 (by
          have:=(hst k pre post hk).1;rcases zaf k ops.size with hlt | hge
          · exact hall k this hlt
          · simp[Array.getD_eq_getD_getElem?,Array.getElem?_eq_none (show listed.size≤k by omega)])) (fun i o Θ k1 k2 k3 k4=>hTh i o Θ k1 k2 k3 k4 (hall i (hkt i o k1).2 (by have:=(List.getElem?_eq_some_iff.1 (hkt i o k1).1).1;simpa using this)))
        obtain⟨F,hbody,hhas⟩:=jO hN outs [] hfin ⟨hN,by simp[get]⟩ (fun s _ p hp=>by
            rcases qY _ _ _ s p hlen hp with⟨k,o,h1,h2,h3⟩ | h1
            · exact hv k o s p.2 h1 (hall k (hkt k o h1).2 (by have:=(List.getElem?_eq_some_iff.1 (hkt k o h1).1).1;simpa using this)) h2 h3
            · simp at h1) (fun s _ hn v hg=>hE' s v hg (fun i o hi _=>(qZ _ _ _ s hlen hn).1 i o hi))
        have hres:=hbody a (toQ N Kn Ke Kr) hhas hD' (fun _ _ E' h1 h2=>⟨E',h1,h2⟩);refine wS hdir m htail (ops.toList.drop m) m listed a w'.1 (f+1) (zab _) rfl hs (fun i hi=>?_) ?_ hres
        · constructor
          · intro h1;rcases zaf i m with h2 | h2
            · exact h2
            · rw[htl i h2 hi] at h1;cases h1
          · intro h1;exact hall i h1 hi
        · -- enough steps are left
          have hlen2:(ops.toList.drop m).length≤((List.range ops.size).filter fun i=>!listed.getD i true).length:=by
            have e:(List.range ops.size).filter (fun i=>!listed.getD i true)=(List.range ops.size).filter (fun i=>decide (m≤i)):=by
              apply List.filter_congr;intro i hi;have hi':i<ops.size:=by simpa using hi
              rcases zaf i m with h2 | h2
              · simp[hall i h2 hi',Nat.not_le.2 h2]
              · simp[htl i h2 hi',h2]
            rw[e];have:∀ n,((List.range n).filter (fun i=>decide (m≤i))).length=n-m:=by
              intro n
              induction n with
              | zero=>simp
              | succ n ihn =>
                rw[zbv,List.filter_append,zal,ihn];by_cases hmn:m≤n
                · simp[hmn];omega
                · simp[hmn];omega
            rw[this];simp
          omega
      · -- one of the first m is taken
        have hmem:∀ i,i∈Region.ready .any ops listed→i<m:=by
          intro i hi;obtain⟨h1,h2,o,ho,h3⟩:=uD.1 hi;rcases zaf i m with hlt | hge
          · exact hlt
          · exfalso;apply hall;intro j hj hjn;have hoi:ops.toList[i]? = some o:=by simpa using ho
            have:=aD hdir (fun y=>listed.getD y true=true∨y=i) (fun x ox hx hs' y hy=>by
              rcases hs' with hs' | rfl
              · exact .inl (hI.2.2.1 x ox hx hs' y hy)
              · obtain⟨e,he,rfl⟩:=zai.1 hy;obtain⟨he1,he2⟩:=zcs.1 he;have hxo:ox=o:=by rw[hoi] at hx;exact(Option.some.inj hx).symm
                subst hxo;have h4:=h3 e (by simpa using he1) he2;have h5:=hdir x ox hx e.on hy;have hsz:e.on<listed.size:=by rw[hI.1];omega
                left;simp only[zbT,zce hsz,zbu] at h4 ⊢;exact h4) i o hoi (.inr rfl) j (htail i o hoi hge j (by omega))
            rcases this with h | h
            · exact h
            · omega
        refine⟨fun hr=>?_,fun i hi=>?_⟩
        · -- some is ready
          exfalso;have:∃ i,i<m∧i<ops.size∧listed.getD i true=false∧∀ j,j<i→listed.getD j true=true:=by
            have hex:∃ i,i<m∧i<ops.size∧listed.getD i true=false:=by
              apply Classical.byContradiction;intro hc;apply hall;intro i h1 h2;cases hb:listed.getD i true with
              | true=>rfl
              | false=>exact absurd ⟨i,h1,h2,hb⟩ hc
            obtain⟨i,hi⟩:=hex
            induction i using Nat.strongRecOn with
            | _ i ihi =>
              by_cases hc:∃ j,j<i∧listed.getD j true=false
              · obtain⟨j,hj1,hj2⟩:=hc;exact ihi j hj1 ⟨by omega,by omega,hj2⟩
              · refine⟨i,hi.1,hi.2.1,hi.2.2,fun j hj=>?_⟩;cases hb:listed.getD j true with
                | true=>rfl
                | false=>exact absurd ⟨j,hj,hb⟩ hc
          obtain⟨i,h1,h2,h3,h4⟩:=this;have hoi:ops[i]? = some ops[i]:=by simp[h2]
          have:i∈Region.ready .any ops listed:=uD.2 ⟨h2,h3,ops[i],hoi,fun e he hb=>by
            have hj:e.on∈dirs ops[i]:=List.mem_map.2 ⟨e,List.mem_filter.2 ⟨by simpa using he,hb⟩,rfl⟩;have hlt:=hdir i ops[i] (by simp) e.on hj;have h5:=h4 e.on hlt;have hsz:e.on<listed.size:=by rw[hI.1];omega
            simp only[zbT,zce hsz,zbu] at h5 ⊢;exact h5⟩
          rw[hr] at this;cases this
        · have him:=hmem i hi;obtain⟨h1,h2,o,ho,h3⟩:=uD.1 hi;have hoi:ops.toList[i]? = some o:=by simpa using ho
          have hit:=htk i o hoi him;obtain⟨hs,htl,hcl,hN,hD',hRw,hv,hE',hst',hPrI,hTh⟩:=hI;have hdl:∀ j∈dirs o,listed.getD j true=true:=by
            intro j hj;obtain⟨e,he,rfl⟩:=zai.1 hj;obtain⟨he1,he2⟩:=zcs.1 he;have h4:=h3 e (by simpa using he1) he2;have h5:=hdir i o hoi e.on hj;have hsz:e.on<listed.size:=by rw[hs];omega
            simp only[zbT,zce hsz,zbu] at h4 ⊢;exact h4
          have hanl:∀ j∈(ancs ops.toList).getD i [],listed.getD j true=true:=by
            intro j hj;rw[nR hoi (hdir i o hoi)] at hj;rcases zae.1 hj with h | h
            · exact hdl j h
            · obtain⟨q,hq,hjq⟩:=zbN.1 h;have hqi:=hdir i o hoi q hq;exact aD hdir (fun y=>listed.getD y true=true) hcl q ops[q] (by simp) (hdl q hq) j hjq
          have hnan:∀ k p,ops.toList[k]? = some p→i∈(ancs ops.toList).getD k []→listed.getD k true=false:=by
            intro k p hp hik;cases hb:listed.getD k true with
            | false=>rfl
            | true =>
              have:=aD hdir (fun y=>listed.getD y true=true) hcl k p hp hb i hik;rw[this] at h2;cases h2
          have hΨ:∃ Ψ,Ψs[i]? = some Ψ:=by
            have:i<Ψs.length:=by rw[hlen];exact(zaL.1 hit).1
            exact⟨_,zag this⟩
          obtain⟨Ψ,hΨ⟩:=hΨ;have hok:=hone i o Ψ hit hΨ;rw[zba] at hok
          -- the frame holds what the operation looks at
          have hsub1:∀ s∈yE ops o,∀ p,(cJ ((ops.toList.take m).take i) (Ψs.take i) []).find? (fun p=>Nat.beq p.1 s)=some p→∃ v,a.tmps[s]? = some v∧p.2 v w':=by
            intro s hsl p hp;rcases qY _ _ _ s p (by simp[hlen]) hp with⟨k,q,e1,e2,e3⟩ | e1
            · rw[zaN] at e1 e3;split at e1
              · rename_i hki;rw[if_pos hki] at e3;exact hv k q s p.2 e1 (hanl k ((hslot i o hit s hsl k q e1 e2).1 hki)) e2 e3
              · cases e1
            · simp at e1
          have hsub2:∀ s∈yE ops o,(cJ ((ops.toList.take m).take i) (Ψs.take i) []).find? (fun p=>Nat.beq p.1 s)=none→∀ v,get E s=some v→a.tmps[s]? = some v:=by
            intro s hsl hn v hg;refine hE' s v hg (fun k q hk hlk hd=>?_);have h5:=hslot i o hit s hsl k q hk hd;rcases zaf k i with hlt | hge
            · have h6:=(qZ _ _ _ s (by simp[hlen]) hn).1 k q (by rw[zaN,if_pos hlt];exact hk);exact h6 hd
            · rcases Nat.lt_or_eq_of_le hge with hlt | heq
              · have h7:=hnan k q (hkt k q hk).1 (h5.2.1 hlt);rw[h7] at hlk;cases hlk
              · exact h5.2.2 heq.symm
          have hsz:i<listed.size:=by rw[hs];exact h1
          have hget:∀ j,(listed.setIfInBounds i true).getD j true=true↔j=i∨listed.getD j true=true:=by
            intro j;by_cases e:i=j
            · subst e;simp[zbT,hsz]
            · have:(listed.setIfInBounds i true).getD j true=listed.getD j true:=by simp[zbT,zcW e]
              rw[this];constructor
              · exact .inr
              · rintro(h | h)
                · exact absurd h.symm e
                · exact h
          have hcount:((List.range ops.size).filter fun j=>!(listed.setIfInBounds i true).getD j true).length<((List.range ops.size).filter fun j=>!listed.getD j true).length:=by
            have e:(List.range ops.size).filter (fun j=>!(listed.setIfInBounds i true).getD j true)=((List.range ops.size).filter fun j=>!listed.getD j true).filter (fun j=>decide (j≠i)):=by
              rw[List.filter_filter];apply List.filter_congr;intro j hj;have:=hget j;by_cases e:j=i
              · subst e;have h5:=this.2 (.inl rfl);simp[h5]
              · cases hb:listed.getD j true with
                | true=>have h5:=this.2 (.inr hb);simp[h5]
                | false =>
                  have h5:(listed.setIfInBounds i true).getD j true=false:=by
                    cases hc:(listed.setIfInBounds i true).getD j true with
                    | false=>rfl
                    | true => rcases this.1 hc with h | h
                              · exact absurd h e
                              · rw[hb] at h;cases h
                  simp[h5,e]
            rw[e];have hmemi:i∈(List.range ops.size).filter fun j=>!listed.getD j true:=List.mem_filter.2 ⟨by simpa using h1,by simp[h2]⟩;exact List.length_filter_lt_length_iff_exists.2 ⟨i,hmemi,by simp⟩
          -- what comes behind
          have hnext:∀ a2 (w2:World×G) v,a2.tmps=(a.put o.dst v).tmps→a2.defers=D→R' i w' w2→(∀ d,o.dst=some d→∃ u,a2.tmps[d]? = some u∧Ψ u w2)→(∀(u:VPS G) (w1:World×G),(∃ j:Nat,j≠i∧Ψs[j]? = some u∧(ops.toList.take m)[j]?.bind (·.dst)≠none)→∀ x,u x w'→u x w2) →
              (∀ k pre post,st=some (k,pre,post)→(i=k→post w2))→(∀ Θ,o.dst=none→(∀ k pre post,st=some (k,pre,post)→i≠k)→th i=some Θ→Θ w2)→R w' w2→Inv (listed.setIfInBounds i true) a2 w2:=by
            intro a2 w2 v ht hd2 hR2 hΨ2 hmono hst2 hth2 hRR2;have htmp:∀ s,o.dst≠some s→a2.tmps[s]? = a.tmps[s]?:=by
              intro s hne;rw[ht];cases hdd:o.dst with
              | none=>rfl
              | some d=>have:d≠s:=fun e=>hne (by rw[hdd,e]);simp[Act.put,zcW this]
            refine⟨by simp[hs],fun j hj hjn=>?_,fun j oj hoj hl j' hj'=>?_,?_,hd2,hRt _ _ _ hRw (hRR _ _ _ hR2),fun j oj d Ψ' hoj hl hd' hΨ'=>?_,fun s u hg hn=>?_,fun k pre post hk=>?_,fun j hl=>?_,fun j oj Θ hoj hdj hkj htj hl=>?_⟩
            · cases hb:(listed.setIfInBounds i true).getD j true with
              | false=>rfl
              | true => rcases (hget j).1 hb with h | h
                        · omega
                        · rw[htl j hj hjn] at h;cases h
            · rcases (hget j).1 hl with rfl | h
              · have:oj=o:=by rw[hoi] at hoj;exact(Option.some.inj hoj).symm
                subst this;exact(hget j').2 (.inr (hdl j' hj'))
              · exact(hget j').2 (.inr (hcl j oj hoj h j' hj'))
            · rw[ht];cases o.dst<;>simp[Act.put,hN]
            · rcases (hget j).1 hl with rfl | h
              · have:oj=o:=by rw[hit] at hoj;exact(Option.some.inj hoj).symm
                subst this;rw[hΨ] at hΨ'; obtain rfl:=Option.some.inj hΨ';exact hΨ2 d hd'
              · obtain⟨x,hx1,hx2⟩:=hv j oj d Ψ' hoj h hd' hΨ';have hne:o.dst≠some d:=fun hc=>by
                  have:=hdist i o j oj d hit hoj hc hd';subst this;rw[h] at h2;cases h2
                exact⟨x,by rw[htmp d hne];exact hx1,hmono Ψ' w' ⟨j,fun e=>(by subst e;rw[h] at h2;cases h2),hΨ',by rw[hoj];simp[hd']⟩ x hx2⟩
            · have hne:o.dst≠some s:=hn i o hit ((hget i).2 (.inl rfl));rw[htmp s hne];exact hE' s u hg (fun j oj hoj hl=>hn j oj hoj ((hget j).2 (.inr hl)))
            · have c1:=hst2 k pre post hk;obtain⟨_,_,p1,p2,_⟩:=hst k pre post hk;constructor
              · intro hl;by_cases e:i=k
                · exact c1 e
                · rcases (hget k).1 hl with h | h
                  · exact absurd h.symm e
                  · exact p2 i _ _ e ((hst' k pre post hk).1 h) hR2
              · intro hl;have e:i≠k:=fun e=>by rw[(hget k).2 (.inl e.symm)] at hl;cases hl
                refine p1 i _ _ e ((hst' k pre post hk).2 ?_) hR2;cases hb:listed.getD k true with
                | false=>rfl
                | true=>rw[(hget k).2 (.inr hb)] at hl;cases hl
            · have hji:j≠i:=fun e=>by rw[(hget j).2 (.inl e)] at hl;cases hl
              refine hPr j i _ _ hji (hPrI j ?_) hR2;cases hb:listed.getD j true with
              | false=>rfl
              | true=>rw[(hget j).2 (.inr hb)] at hl;cases hl
            · rcases (hget j).1 hl with rfl | h
              · have:oj=o:=by rw[hit] at hoj;exact(Option.some.inj hoj).symm
                subst this;exact hth2 Θ hdj hkj htj
              · have hjl:j<Ψs.length:=by rw[hlen];exact(zaL.1 hoj).1
                have h9:=hone j oj Ψs[j] hoj (zag hjl);unfold aS at h9;rw[hdj,zba] at h9;rcases h9 with⟨pre,post,h10,_⟩ | ⟨Θ',h10,_,h11,_⟩
                · exact absurd rfl (hkj j pre post h10)
                · rw[htj] at h10;obtain rfl:=Option.some.inj h10;exact h11 w' w2 (hTh j oj Θ hoj hdj hkj htj h) hRR2
          have hmonoR:∀ w2:World×G,R w' w2→∀(u:VPS G) (w1:World×G),(∃ j:Nat,j≠i∧Ψs[j]? = some u∧(ops.toList.take m)[j]?.bind (·.dst)≠none)→∀ x,u x w'→u x w2:=by
            intro w2 hR2 u w1 ⟨j,hji,hj,hjd⟩ x hx;cases hoj:(ops.toList.take m)[j]? with
            | none=>rw[hoj] at hjd;simp at hjd
            | some oj =>
              rw[hoj] at hjd;have hj':=hone j oj u hoj hj;unfold aS at hj';cases hdj:oj.dst with
              | none=>simp[hdj] at hjd
              | some d =>
                rw[hdj,zba] at hj';exact hj'.1 x w' w2 hx hR2
          unfold aS at hok;cases hdo:o.dst with
          | some d =>
            rw[hdo] at hok;rcases hok with⟨hmo,⟨hik,hob⟩ | ⟨pre,post,hst0,hob⟩⟩;case inr =>
              obtain⟨F,hbody,hhas⟩:=jO hN (yE ops o) [] (hob w' hRw ((hst' i pre post hst0).2 h2)) ⟨hN,by simp[get]⟩ hsub1 hsub2;refine bV ho hbody hhas hD' fun a2 w2 E2 he2 ⟨hd2,g2,hR2,hp2,u,hu1,hu2⟩ ⟨v,hv2⟩=>ih _ a2 (w2,g2) ?_ (by omega);exact hnext a2 (w2,g2) v hv2 hd2 hR2 (fun d' hd'=>by
                have:d'=d:=by rw[hdo] at hd'; exact(Option.some.inj hd').symm
                subst this;exact⟨u,he2.at_ d' u hu1,hu2⟩) (hmonoR (w2,g2) (hRR _ _ _ hR2)) (fun k pre' post' hk=>by
                rw[hst0] at hk;obtain⟨rfl,rfl,rfl⟩:i=k∧pre=pre'∧post=post':=by simpa using hk
                exact fun _=>hp2) (fun Θ hd _ _=>by rw[hdo] at hd;cases hd) (hRR _ _ _ hR2)
            have hsti:StIS st (ancs ops.toList) i w':=by
              unfold StIS;cases hst0:st with
              | none=>trivial
              | some x =>
                obtain⟨k,pre,post⟩:=x;refine⟨fun hk=>(hst' k pre post hst0).1 (hanl k hk),fun hk=>(hst' k pre post hst0).2 ?_⟩;have hkm:=(hst k pre post hst0).1;rcases zaf k ops.size with hlt | hge
                · exact hnan k ops[k] (by simp[hlt]) hk
                · exfalso;have:(ancs ops.toList).getD k []=[]:=by
                    have hl:∀(l:List Oper) (acc:List (List Nat)),(uW l acc).length=acc.length+l.length:=by
                      intro l;induction l with
                      | nil=>intro acc;rfl
                      | cons o l ihl=>intro acc;unfold uW;rw[ihl];simp;omega
                    have:=hl ops.toList [];unfold ancs;rw[List.getD_eq_getElem?_getD,List.getElem?_eq_none (by rw[this];simpa using hge)];rfl
                  rw[this] at hk;cases hk
            obtain⟨F,hbody,hhas⟩:=jO hN (yE ops o) [] (hob w' hRw hsti (hPrI i h2)) ⟨hN,by simp[get]⟩ hsub1 hsub2;refine bV ho hbody hhas hD' fun a2 w2 E2 he2 ⟨hd2,g2,hR2,u,hu1,hu2⟩ ⟨v,hv2⟩=>ih _ a2 (w2,g2) ?_ (by omega);exact hnext a2 (w2,g2) v hv2 hd2 hR2 (fun d' hd'=>by
              have:d'=d:=by rw[hdo] at hd'; exact(Option.some.inj hd').symm
              subst this;exact⟨u,he2.at_ d' u hu1,hu2⟩) (hmonoR (w2,g2) (hRR _ _ _ hR2)) (fun k pre post hk=>fun e=>absurd e (hik k pre post hk)) (fun Θ hd _ _=>by rw[hdo] at hd;cases hd) (hRR _ _ _ hR2)
          | none =>
            rw[hdo] at hok;rcases hok with⟨pre,post,hst0,hob⟩ | ⟨Θ,hth,hik,hmo,hob⟩;case inr =>
              have hsti:StIS st (ancs ops.toList) i w':=by
                unfold StIS;cases hst0:st with
                | none=>trivial
                | some x =>
                  obtain⟨k,pre,post⟩:=x;refine⟨fun hk=>(hst' k pre post hst0).1 (hanl k hk),fun hk=>(hst' k pre post hst0).2 ?_⟩;have hkm:=(hst k pre post hst0).1;rcases zaf k ops.size with hlt | hge
                  · exact hnan k ops[k] (by simp[hlt]) hk
                  · exfalso;have:(ancs ops.toList).getD k []=[]:=by
                      have hl:∀(l:List Oper) (acc:List (List Nat)),(uW l acc).length=acc.length+l.length:=by
                        intro l;induction l with
                        | nil=>intro acc;rfl
                        | cons o l ihl=>intro acc;unfold uW;rw[ihl];simp;omega
                      have:=hl ops.toList [];unfold ancs;rw[List.getD_eq_getElem?_getD,List.getElem?_eq_none (by rw[this];simpa using hge)];rfl
                    rw[this] at hk;cases hk
              obtain⟨F,hbody,hhas⟩:=jO hN (yE ops o) [] (hob w' hRw hsti (hPrI i h2)) ⟨hN,by simp[get]⟩ hsub1 hsub2;refine bV ho hbody hhas hD' fun a2 w2 E2 he2 ⟨hd2,g2,hR2,hp2⟩ ⟨v,hv2⟩=>ih _ a2 (w2,g2) ?_ (by omega);exact hnext a2 (w2,g2) v hv2 hd2 hR2 (fun d' hd'=>by rw[hdo] at hd'; cases hd') (hmonoR (w2,g2) (hRR _ _ _ hR2)) (fun k pre post hk=>fun e=>absurd e (hik k pre post hk)) (fun Θ' _ _ ht=>by rw[hth] at ht;obtain rfl:=Option.some.inj ht;exact hp2) (hRR _ _ _ hR2)
            obtain⟨F,hbody,hhas⟩:=jO hN (yE ops o) [] (hob w' hRw ((hst' i pre post hst0).2 h2)) ⟨hN,by simp[get]⟩ hsub1 hsub2;refine bV ho hbody hhas hD' fun a2 w2 E2 he2 ⟨hd2,g2,hR2,hp2⟩ ⟨v,hv2⟩=>ih _ a2 (w2,g2) ?_ (by omega);exact hnext a2 (w2,g2) v hv2 hd2 hR2 (fun d' hd'=>by rw[hdo] at hd'; cases hd') (hmonoR (w2,g2) (hRR _ _ _ hR2)) (fun k pre' post' hk=>by
              rw[hst0] at hk;obtain⟨rfl,rfl,rfl⟩:i=k∧pre=pre'∧post=post':=by simpa using hk
              exact fun _=>hp2) (fun Θ _ hk _=>absurd rfl (hk i pre post hst0)) (hRR _ _ _ hR2)
  have hsz0:∀ i,i<ops.size→(Array.replicate ops.size false).getD i true=false:=by intro i hi;simp[zbT,hi]
  refine key ops.size _ a0 (w1,g0) ⟨by simp,fun i _ hi=>hsz0 i hi,fun i o ho hl=>?_,ha0.size,hd0,hR0,fun i o d Ψ ho hl=>?_,fun s v hg _=>ha0.at_ s v hg,fun k pre post hk=>⟨fun hl=>?_,fun _=>(hst k pre post hk).2.1⟩,fun i _=>hPr0 i,fun i o Θ ho _ _ _ hl=>?_⟩ ?_
  · have:i<ops.size:=by have:=(List.getElem?_eq_some_iff.1 ho).1;simpa using this
    rw[hsz0 i this] at hl;cases hl
  · have:i<ops.size:=by have:=(List.getElem?_eq_some_iff.1 (hkt i o ho).1).1;simpa using this
    rw[hsz0 i this] at hl;cases hl
  · obtain⟨_,_,_,_,o6,h6⟩:=hst k pre post hk;rw[hsz0 k (zaB.1 h6).1] at hl;cases hl
  · have:i<ops.size:=by have:=(List.getElem?_eq_some_iff.1 (hkt i o ho).1).1;simpa using this
    rw[hsz0 i this] at hl;cases hl
  · exact zac (List.length_filter_le _ _) (by simp)
theorem wp_drawT {Kn Kr:Pd}{Ke:Nat→Pd}{w:World}(g0:G){id:Nat}(hm:P.follows .mixedOrders=true)(m:Nat)(outs:List Nat)(hlook:uT ops m=true)
    (hRt:∀ a b c,R a b→R b c→R a c) (hRR:∀ i a b,R' i a b→R a b) (hR0:R (w,g0) ({ w with drawn:=w.drawn+1 },g0))
    (hst:∀ k pre post,st=some (k,pre,post)→k<m∧pre ({ w with drawn:=w.drawn+1 },g0)∧(∀ i a b,i≠k→pre a→R' i a b→pre b)∧(∀ i a b,i≠k→post a→R' i a b→post b)∧∃ o,ops[k]? = some o)
    (hPr0:∀ i,Pr i ({ w with drawn:=w.drawn+1 },g0)) (hPr:∀ i j a b,i≠j→Pr i a→R' j a b→Pr i b)
    (h:DRsT P r N ops D E (w,g0) R R' Pr st th (fun Γ=>∀ x',R (w,g0) x'→(∀ k pre post,st=some (k,pre,post)→post x')→(∀ i o Θ,(ops.toList.take m)[i]? = some o→o.dst=none→(∀ k pre post,st=some (k,pre,post)→i≠k)→th i=some Θ→Θ x')→OblS Γ E x' (fun F=>Ops P r N ops Kn (ops.toList.drop m) D F x'.1) outs []) (ops.toList.take m) 0 []) :
    Wp P r N (.region id ops true) Kn Ke Kr D E w:=fun a0 ha0 hd0=>wpIn_region_any hm (wK g0 m outs hlook hRt hRR hR0 hst hPr0 hPr h a0 ha0 hd0)
abbrev DRsS (P:Program)(r:Option Nat)(N:Nat)(ops:Array Oper)(D:List Deferred)(E:Env)(x0:World×G)(R:World×G→World×G→Prop)(R':Nat→World×G→World×G→Prop)(Pr:Nat→World×G→Prop)(st:Option (Nat×(World×G→Prop)×(World×G→Prop))):=DRsT P r N ops D E x0 R R' Pr st fun _=>none
theorem uJ {F H:List (Nat×VPS G)→Prop}(hF:∀ Γ,F Γ→H Γ):∀(l:List Oper) (i:Nat) (Γ:List (Nat×VPS G)),DRsT P r N ops D E x0 R R' Pr st th F l i Γ→DRsT P r N ops D E x0 R R' Pr st th H l i Γ
 | [],_,Γ,h=>hF Γ h
 | _::l,i,_,⟨Ψ,h1,h2⟩=>⟨Ψ,h1,uJ hF l (i+1) _ h2⟩
theorem wp_drawS {Kn Kr:Pd}{Ke:Nat→Pd}{w:World}(g0:G){id:Nat}(hm:P.follows .mixedOrders=true)(m:Nat)(outs:List Nat)(hlook:uT ops m=true)
    (hRt:∀ a b c,R a b→R b c→R a c) (hRR:∀ i a b,R' i a b→R a b) (hR0:R (w,g0) ({ w with drawn:=w.drawn+1 },g0))
    (hst:∀ k pre post,st=some (k,pre,post)→k<m∧pre ({ w with drawn:=w.drawn+1 },g0)∧(∀ i a b,i≠k→pre a→R' i a b→pre b)∧(∀ i a b,i≠k→post a→R' i a b→post b)∧∃ o,ops[k]? = some o)
    (hPr0:∀ i,Pr i ({ w with drawn:=w.drawn+1 },g0)) (hPr:∀ i j a b,i≠j→Pr i a→R' j a b→Pr i b)
    (h:DRsS P r N ops D E (w,g0) R R' Pr st (fun Γ=>∀ x',R (w,g0) x'→(∀ k pre post,st=some (k,pre,post)→post x')→OblS Γ E x' (fun F=>Ops P r N ops Kn (ops.toList.drop m) D F x'.1) outs []) (ops.toList.take m) 0 []) :
    Wp P r N (.region id ops true) Kn Ke Kr D E w :=
  wp_drawT (th:=fun _=>none) g0 hm m outs hlook hRt hRR hR0 hst hPr0 hPr (uJ (fun Γ k x' h1 h2 _=>k x' h1 h2) _ _ _ h)
end draw
end
def Gms:List (Nat×VP)→List (Nat×VPS Bool)→Prop
 | [],[]=>True
 | p::Γ,q::Δ=>p.1=q.1∧(∀ v x,q.2 v x→p.2 v x.1)∧Gms Γ Δ
 | _,_=>False
theorem zL7 {s:Nat}:∀ {Γ:List (Nat×VP)} {Δ:List (Nat×VPS Bool)},Gms Γ Δ→(∀ q,Δ.find? (fun p=>Nat.beq p.1 s)=some q→∃ p,Γ.find? (fun p=>Nat.beq p.1 s)=some p∧∀ v x,q.2 v x→p.2 v x.1)∧(Δ.find? (fun p=>Nat.beq p.1 s)=none→Γ.find? (fun p=>Nat.beq p.1 s)=none)
 | [],[],_=>⟨fun q h=>(by cases h),fun _=>rfl⟩
 | p::Γ,q::Δ,⟨h1,h2,h3⟩=>by
  simp only[zbK,h1];cases Nat.beq q.1 s with
  | true=>exact⟨fun q' h=>⟨p,rfl,by obtain rfl:=Option.some.inj h;exact h2⟩,fun h=>by cases h⟩
  | false=>exact zL7 h3
 | [],_::_,h=>h.elim
 | _::_,[],h=>h.elim
theorem oY {E:Env}{Γ:List (Nat×VP)}{Δ:List (Nat×VPS Bool)}(hg:Gms Γ Δ){x:World×Bool}{b b':Env→Prop}(hb:∀ F,b F→b' F):∀(ss:List Nat) (F:Env),Obl Γ E x.1 b ss F→OblS Δ E x b' ss F
 | [],F,h=>hb F h
 | s::ss,F,h=>by
  unfold Obl at h;unfold OblS;obtain⟨h1,h2⟩:=zL7 (s:=s) hg;cases hf:Δ.find? (fun p=>Nat.beq p.1 s) with
  | some q =>
   obtain⟨p,h3,h4⟩:=h1 q hf;rw[h3] at h;exact fun v hv=>oY hg hb ss _ (h v (h4 v x hv))
  | none =>
   rw[h2 hf] at h;cases hE:get E s with
   | some v=>rw[hE] at h;exact oY hg hb ss _ h
   | none=>rw[hE] at h;exact oY hg hb ss _ h
section draw
variable {P : Program} {r : Option Nat} {N : Nat} {ops : Array Oper} {D : List Deferred} {E : Env} {R R' : World → World → Prop} {st : Option (Nat × (World → Prop) × (World → Prop))}
theorem iL {K K':Pd}{l:List Oper}{w:World}(h:Ops P r N ops K l D E w)(hk:∀ D' E' w',K D' E' w'→K' D' E' w'):Ops P r N ops K' l D E w:=fun a Q ha hD h1=>h a Q ha hD fun a' w' E' g1 g2=>h1 a' w' E' g1 (hk _ _ _ g2)
def RT (R R':World→World→Prop)(x y:World×Bool):Prop:=R x.1 y.1∧(x.2=true→y.2=true∧∀ Ψ:VP,(∀ v w w',Ψ v w→R' w w'→Ψ v w')→∀ v,Ψ v x.1→Ψ v y.1)
def RU (R R':World→World→Prop)(st:Option (Nat×(World→Prop)×(World→Prop)))(i:Nat)(x y:World×Bool):Prop:=(R' x.1 y.1∧y.2=x.2)∨(∃ t,st=some (i,t))∧R x.1 y.1∧x.2=false∧y.2=true
def stS (st:Option (Nat×(World→Prop)×(World→Prop))):Option (Nat×(World×Bool→Prop)×(World×Bool→Prop)):=st.map fun t=>(t.1,(fun x=>x.2=false∧t.2.1 x.1),fun x=>x.2=true∧t.2.2 x.1)
theorem zZ3 {w:World}{F:List (Nat×VP)→Prop}{F':List (Nat×VPS Bool)→Prop}(hF:∀ Γ Δ,Gms Γ Δ→F Γ→F' Δ):∀(l:List Oper) (i:Nat) (Γ:List (Nat×VP)) (Δ:List (Nat×VPS Bool)),Gms Γ Δ→DRs P r N ops D E w R R' st F l i Γ →
  DRsS P r N ops D E (w,false) (RT R R') (RU R R' st) (fun _ _=>True) (stS st) F' l i Δ
 | [],i,Γ,Δ,hg,h=>hF Γ Δ hg h
 | o::l,i,Γ,Δ,hg,h=>by
  obtain⟨Ψ,h1,h2⟩:=h;unfold yB0 at h1;unfold gam1 at h2;unfold DRsS DRsT aS iW;cases ho:o.dst with
  | none =>
   rw[ho] at h1 h2;obtain⟨pre,post,e,h1⟩:=h1;exact⟨fun _ _=>True,.inl ⟨(fun x=>x.2=false∧pre x.1),(fun x=>x.2=true∧post x.1),by rw[e];rfl,fun x hr hp=>oY hg (fun F h=>iL h fun D' E' w' ⟨g1,g2,g3⟩=>⟨g1,true,.inr ⟨⟨_,e⟩,g2,hp.1,rfl⟩,rfl,g3⟩) _ _ (h1 x.1 hr.1 hp.2)⟩,zZ3 hF l (i+1) Γ Δ hg h2⟩
  | some d =>
   rw[ho] at h1 h2;rcases h1 with⟨a1,a2,a3⟩ | ⟨pre,post,e,a2,a3⟩
   ·refine⟨fun v x=>Ψ v x.1,⟨fun v a b h r=>a2 v _ _ h r.1,.inl ⟨fun k pre post e=>?_,fun x hr hs _=>oY hg (fun F h=>iL h fun D' E' w' ⟨g1,g2,g3⟩=>⟨g1,x.2,.inl ⟨g2,rfl⟩,g3⟩) _ _ (a3 x.1 hr.1 ?_)⟩⟩,zZ3 hF l (i+1) ((d,Ψ)::Γ) ((d,fun v x=>Ψ v x.1)::Δ) ⟨rfl,fun v x h=>h,hg⟩ h2⟩
    ·cases st with
     | none=>cases e
     | some t=>exact(Prod.mk.inj (Option.some.inj e)).1 ▸ a1 _ _ _ rfl
    ·cases st with
     | none=>trivial
     | some t=>exact⟨fun h=>(hs.1 h).2,fun h=>(hs.2 h).2⟩
   ·exact⟨fun v x=>x.2=true∧Ψ v x.1,⟨fun v a b ⟨k1,k2⟩ r=>⟨(r.2 k1).1,(r.2 k1).2 Ψ a2 v k2⟩,.inr ⟨(fun x=>x.2=false∧pre x.1),(fun x=>x.2=true∧post x.1),by rw[e];rfl,fun x hr hp=>oY hg (fun F h=>iL h fun D' E' w' ⟨g1,g2,g3,v,g4,g5⟩=>⟨g1,true,.inr ⟨⟨_,e⟩,g2,hp.1,rfl⟩,⟨rfl,g3⟩,v,g4,rfl,g5⟩) _ _ (a3 x.1 hr.1 hp.2)⟩⟩,zZ3 hF l (i+1) ((d,Ψ)::Γ) ((d,fun v x=>x.2=true∧Ψ v x.1)::Δ) ⟨rfl,fun v x h=>h.2,hg⟩ h2⟩
theorem wp_draw {Kn Kr:Pd}{Ke:Nat→Pd}{w:World}{id:Nat}(hm:P.follows .mixedOrders=true)(m:Nat)(outs:List Nat)(hlook:uT ops m=true)
    (hRt:∀ a b c,R a b→R b c→R a c) (hRR:∀ a b,R' a b→R a b) (hR0:R w { w with drawn:=w.drawn+1 })
    (hst:∀ k pre post,st=some (k,pre,post)→k<m∧pre { w with drawn:=w.drawn+1 }∧(∀ a b,pre a→R' a b→pre b)∧(∀ a b,post a→R' a b→post b)∧∃ o,ops[k]? = some o)
    (h:DRs P r N ops D E w R R' st (fun Γ=>∀ w',R w w'→(∀ k pre post,st=some (k,pre,post)→post w')→Obl Γ E w' (fun F=>Ops P r N ops Kn (ops.toList.drop m) D F w') outs []) (ops.toList.take m) 0 []) :
    Wp P r N (.region id ops true) Kn Ke Kr D E w:=by
  refine wp_drawS (R:=RT R R') (R':=RU R R' st) (Pr:=fun _ _=>True) (st:=stS st) false hm m outs hlook (fun a b c h k=>⟨hRt _ _ _ h.1 k.1,fun e=>⟨(k.2 (h.2 e).1).1,fun Ψ hΨ v hv=>(k.2 (h.2 e).1).2 Ψ hΨ v ((h.2 e).2 Ψ hΨ v hv)⟩⟩)
    (fun i a b h=>h.elim (fun⟨h1,h2⟩=>⟨hRR _ _ h1,fun e=>⟨h2.trans e,fun Ψ hΨ v hv=>hΨ v _ _ hv h1⟩⟩) fun⟨_,h1,h2,_⟩=>⟨h1,fun e=>by rw[h2] at e;cases e⟩) ⟨hR0,fun e=>by cases e⟩ (fun k pre post e=>?_) (fun _=>trivial) (fun _ _ _ _ _ _ _=>trivial)
    (zZ3 (fun Γ Δ hg h x hr hp=>oY hg (fun _ h=>h) _ _ (h x.1 hr.1 fun k pre post e=>(hp k (fun x=>x.2=false∧pre x.1) (fun x=>x.2=true∧post x.1) (by rw[e];rfl)).2)) _ _ [] [] trivial h)
  cases st with
  | none=>cases e
  | some t =>
    obtain⟨rfl,e2⟩:=Prod.mk.inj (Option.some.inj e);obtain⟨rfl,rfl⟩:=Prod.mk.inj e2;obtain⟨h1,h2,h3,h4,h5⟩:=hst _ _ _ rfl;exact⟨h1,⟨rfl,h2⟩,fun i a b hi hp hr=>hr.elim (fun⟨r1,r2⟩=>⟨r2.trans hp.1,h3 _ _ hp.2 r1⟩) fun⟨⟨t',c⟩,_⟩=>(hi (Prod.mk.inj (Option.some.inj c)).1.symm).elim,fun i a b hi hp hr=>hr.elim (fun⟨r1,r2⟩=>⟨r2.trans hp.1,h4 _ _ hp.2 r1⟩) fun⟨⟨t',c⟩,_⟩=>(hi (Prod.mk.inj (Option.some.inj c)).1.symm).elim,h5⟩
end draw
end Go.SL
namespace Go.SL
open Go.RowKit
def Rb (a b:World):Prop:=Bel a.heap.size a b
theorem vD (w:World):Rb w { w with drawn:=w.drawn+1 }:=⟨rfl,⟨rfl,by first | exact zab _ | exact zbt _⟩,rfl,zab _,fun _ _=>rfl⟩
theorem xI (w:World):Rb w w:=Bel.refl _ _
section draw
variable {P : Program} {r : Option Nat} {N : Nat} {ops : Array Oper} {D : List Deferred} {E : Env} {w0 : World} {R R' : World → World → Prop} {st : Option (Nat × (World → Prop) × (World → Prop))}
variable {F : List (Nat × VP) → Prop} {rest : List Oper} {i : Nat} {Γ : List (Nat × VP)}
end draw
structure Marks (M:Nat→Prop)(n:Nat)(D:List Deferred)(w:World):Prop where
 at_:∀ d∈D,∃ b,d.target = .collected b∧n≤b∧Rec M w b (.deferred (some []))
 apart:D.Pairwise fun d d'=>∀ b,d.target = .collected b→d'.target ≠ .collected b
theorem uH {M:Nat→Prop}{n:Nat}{w:World}:Marks M n [] w:=⟨by simp,.nil⟩
theorem Marks.cons {M:Nat→Prop}{n b:Nat}{D:List Deferred}{w:World}(h:Marks M n D w)(hn:n≤b)(hr:Rec M w b (.deferred (some [])))(hb:∀ d∈D,d.target ≠ .collected b) :
    Marks M n ({ target:=.collected b,args:=#[] }::D) w :=
  ⟨fun d hd => by rcases zad.1 hd with rfl | hd
                  · exact⟨b,rfl,hn,hr⟩
                  · exact h.at_ d hd,.cons (fun d hd c hc=>by cases hc;exact hb d hd) h.apart⟩
theorem dW {M:Nat→Prop}{n:Nat}:∀ {D:List Deferred} {w:World} {K:World→Prop},Marks M n D w→(∀ w',Drift NoT n w w'→K w')→zN9 D w K
 | [],w,K,_,hk=>hk w (Drift.refl _ _ _)
 | d::ds,w,K,h,hk=>by
  obtain⟨b,h1,h2,h3⟩:=h.at_ d (by simp);have hp:=zav.1 h.apart;refine⟨b,h1,h3.at_,dW (M:=M) (n:=n) ⟨fun d' hd'=>?_,hp.2⟩ fun w' hw'=>hk w' ((Drift.put h3.at_ (by simp) h2).trans hw')⟩;obtain⟨c,e1,e2,e3⟩:=h.at_ d' (by simp[hd']);have hne:c≠b:=fun e=>hp.1 d' hd' b h1 (by rw[e1,e]);exact⟨c,e1,e2,⟨by rw[World.putObj_heap_other hne];exact e3.at_,e3.not⟩⟩
theorem vK {M:Nat→Prop}{w:World}{v:Value}{xs:List Nat}(h:IsNat M w v xs):v.oneCell'=true:=by
 obtain⟨⟨_,_,ad,cap,rfl,_⟩,_⟩:=h;rfl
theorem mN {P:Program}{r:Option Nat}{N:Nat}{all:Array Oper}{K:Pd}{D:List Deferred}{E:Env}{w:World}{rest:List Oper}{M:Nat→Prop}{d:Nat}{x y:Operand}{t e t':TypeId}{pos:String}{af:Array Edge}{sz bytes:Nat}{z:Value}{v u:Value}{n m:Nat}{xs news:List Value}(hd:Nat.blt d N=true)
  (ht:P.underlying t=some (.slice e)) (he:Sz P e sz bytes z) (hz:z.cells.size=sz) (hsz:Nat.blt 0 sz=true) (hx:ev E x=some v) (hy:ev E y=some u) (hown:w.ownsRow 0 e sz v n xs) (hu:Slc M w sz u m news) (h1:∀ u∈news,u.oneCell'=true)
  (hn:n+m≤140737488355328) (hb:(n+m)*bytes≤140737488355328)
  (h:∀ v' w',w'.ownsRow 0 e sz v' (n+m) (xs++news)→Gro w w' v.ownBlock→(v'.ownBlock=v.ownBlock∨v'.ownBlock=some w.heap.size)→Ops P r N all K rest D ((d,v')::E) w') :
  Ops P r N all K (⟨some d,.call ⟨.builtin .append,#[x,y],#[t,t]⟩,t',pos,af,none⟩::rest) D E w:=by
 obtain⟨v',w',r1,r2,r3,r4⟩:=run_append_slk (P:=P) t t' e ht he hz (Nat.blt_eq ▸ hsz) hown hu h1 hn hb;refine yB hd (by intro c hc;cases hc) (fun ac ha=>?_) (h v' w' r2 r3 r4);simp only[execOp,resolve,invoke,builtin,Sem.run_bind,Sem.run_pure,Result.andThen,zbL,zaG,zbe,ha.ev hx,ha.ev hy];rw[r1]
end Go.SL
namespace Go.SL
open Go.RowKit
theorem slc_arg {w:World}{a:Addr}{n cap:Nat}{f:Nat→Value}(hn:n≤cap)(hc:cap≤9223372036854775807)(h:∀ i,i<n→w.cell? (a.add i)=some (f i)) :
  Slc (fun _=>False) w 1 (.slice (some a) n cap) n ((List.range n).map f):=by
 refine⟨by simp,by omega,_,_,rfl,hn,?_⟩;rcases zbi n with h0 | h0
 ·exact .inl h0
 right;have ha:=h 0 h0;obtain⟨b,off,spot⟩:=a;have e0:(⟨b,off,spot⟩:Addr).add 0=⟨b,off,spot⟩:=rfl;rw[e0] at ha;unfold World.cell? at ha;split at ha;case h_2=>cases ha
 case h_1 cur t fz hb =>
  dsimp only at hb;cases spot with
  | some s=>simp at ha
  | none =>
   refine⟨b,off,rfl,fun h=>h,cur,t,fz,hb,fun j u hj=>?_⟩;obtain⟨hlt,rfl⟩:=zaL.1 hj;have hlt':j<n:=by simpa using hlt
   have:=h j hlt';rw[xV] at this;simp only[World.cell?,hb] at this;simpa using this
end Go.SL
namespace Go.SL
open Go.ChangeShapes Go.WideShapes Go.ChangeAt Go.RowKit Go.Deep
section
variable {H : Type} {enc : TypeId × Value → H} {P : Program} {W : World}
theorem sD:maxLen=9223372036854775807:=by decide
theorem yP3 {n:Int}(h:(Lit.int .u32 n).wf=true):lw n.toNat = .int .u32 n∧n.toNat<4294967296:=by
 have h':0≤n∧n≤4294967295:=by simpa [Lit.wf,IntKind.min,IntKind.max,IntKind.signed,IntKind.bits] using h
 refine⟨?_,by omega⟩;rw[lw,Int.toNat_of_nonneg h'.1]
theorem nat_of_cells {a:Addr}{n cap:Nat}{Z:List Int}(hn:n≤cap)(hc:cap≤maxLen)(hz:n≤Z.length)(hw:∀ n∈Z,(Lit.int .u32 n).wf=true)(h:∀ i,i<n→W.cell? (a.add i)=some (.int .u32 (Z.getD i 0))) :
  IsNat (fun _=>False) W (.slice (some a) n cap) ((List.range n).map fun i=>(Z.getD i 0).toNat):=by
 rw[sD] at hc;have hm:∀ i,i<n→Z.getD i 0∈Z:=fun i hi=>by
  rw[zah,zag (show i<Z.length by omega)];exact zaP _
 constructor
 ·have:=slc_arg (f:=fun i=>lw (Z.getD i 0).toNat) hn hc (fun i hi=>by rw[(yP3 (hw _ (hm i hi))).1];exact h i hi);simpa [List.map_map,Function.comp_def] using this
 ·intro x hx;obtain⟨i,hi,rfl⟩:=zai.1 hx;exact(yP3 (hw _ (hm i (zbq.1 hi)))).2
theorem fO (hl:laidOutB P=true){W':World}(hb:Bel W.heap.size W W'):∀ {ts:List TypeId} {vs:List Value} {ds:List (DataW H)} {ps:List MemPlace},
  (∀ t∈ts,P.readableRec t=true∧t<P.types.size)→(∀ x∈ps,x.block<W.heap.size)→DataW.TrodAll enc P W 0 (fun _=>true) true ts vs ds ps →
  DataW.TrodAll enc P W' 0 (fun b=>decide (b<W.heap.size)) true ts vs ds ps
 | [],vs,ds,ps,ht,hp,h=>by
  obtain⟨rfl,rfl,rfl⟩:=trodAll_nil h;exact trodAll_mk0
 | t::ts,vs,ds,ps,ht,hp,h=>by
  obtain⟨v,vs',d,ds',p,q,rfl,rfl,rfl,h1,h2⟩:=trodAll_cons h;exact⟨p,q,Below.trod hl (ht t (by simp)).1 (ht t (by simp)).2 h1 hb.b (fun x hx=>hp x (by simp[hx])),fO hl hb (fun t' h'=>ht t' (by simp[h'])) (fun x hx=>hp x (by simp[hx])) h2,rfl⟩
theorem law_post {f:Func}{s:ChangeSpec}{W':World}{args:Array Value}{ds gs:List (DataW H)}{before:List MemPlace}{tb:TypeId}(hl:laidOutB P=true)(hts:∀ t∈f.params.toList,P.readableRec t=true∧t<P.types.size)
  (hb:P.underlying tb=some .bool) (hrt:f.resultTypes=#[tb]) (hv:s.vars=[]) (hW:DataW.Whole enc P f.params.toList s.vars false W args.toList ds gs before)
  (hsr:(s.fn H ds).results=[.lit (.bool true)]) (hsa:(s.fn H ds).args=ds) (hsv:(s.fn H ds).vars=[]) (hg:Bel W.heap.size W W'):s.post enc P f false true false false W args (.bool true) W':=by
 have hlt:=hW.lt;have hW':=hW;obtain⟨p,q,hA,hV,rfl,_,_⟩:=hW;rw[hv] at hV;obtain⟨rfl,rfl⟩:=trodVars_none hV;simp only[zas] at hlt hW';refine⟨ds,[],p,[],p,[],hW',?_,?_,?_,hg.b.frame _,fun h=>by cases h⟩
 ·rw[hrt,zas,hsr];exact trodAll_mk1 (shut_bool hb true)
 ·rw[zas,hsa];exact fO hl hg hts hlt hA
 ·rw[zas,hsv,hv];exact rfl
end
end Go.SL
namespace Go.SL
def val:List Nat→Nat
 | []=>0
 | x::r=>x+4294967296*val r
def limbs (n:Nat):List Nat:=if h:n=0 then [] else(n%4294967296)::limbs (n/4294967296)
termination_by n
decreasing_by omega
theorem yG:limbs 0=[]:=by rw[limbs];simp
theorem qQ {n:Nat}(h:n≠0):limbs n=(n%4294967296)::limbs (n/4294967296):=by rw[limbs];simp[h]
theorem zI (n:Nat):val (limbs n)=n:=by
 induction n using Nat.strongRecOn with
 | _ n ih =>
  by_cases h:n=0
  ·subst h;rw[yG];rfl
  ·rw[qQ h];simp only[val];rw[ih _ (by omega)];omega
theorem yF (n:Nat):∀ x∈limbs n,x<4294967296:=by
 induction n using Nat.strongRecOn with
 | _ n ih =>
  by_cases h:n=0
  ·subst h;rw[yG];simp
  ·rw[qQ h];intro x hx;rcases zad.1 hx with rfl | hx
   ·omega
   ·exact ih _ (by omega) x hx
theorem jC {n:Nat}:limbs n=[]↔n=0:=by
 constructor
 ·intro h;by_cases hn:n=0
  ·exact hn
  ·rw[qQ hn] at h;simp at h
 ·rintro rfl;exact yG
theorem zP {n:Nat}:(limbs n).length=0↔n=0:=by rw[zcv,jC]
theorem yJ:∀(xs:List Nat),(∀ x∈xs,x<4294967296)→val xs<4294967296^xs.length
 | [],_=>by simp[val]
 | x::r,h=>by
  have h1:=yJ r (fun y hy=>h y (by simp[hy]));have h2:=h x (by simp);simp only[val,zaw,zax];have:4294967296*(val r+1)≤4294967296*4294967296^r.length:=zbo _ h1;rw[zat (4294967296^r.length)];omega
theorem jM:∀(xs ys:List Nat),val (xs++ys)=val xs+4294967296^xs.length*val ys
 | [],ys=>by simp[val]
 | x::r,ys=>by
  simp only[zaR,val,jM r ys,zaw,zax,zap];rw[← zau,zat (4294967296^r.length) 4294967296];omega
theorem gL (n:Nat):val (List.replicate n 0)=0:=by
 induction n with
 | zero=>rfl
 | succ n ih=>simp[List.replicate_succ,val,ih]
theorem qS:∀(xs:List Nat),(∀ j,xs.getD j 0=0)→val xs=0
 | [],_=>rfl
 | x::r,h=>by
  have h0:=h 0;have h1:=qS r (fun j=>by have:=h (j+1);simpa using this);simp at h0;simp[val,h0,h1]
theorem dD {xs:List Nat}{n:Nat}(h:∀ j,n≤j→xs.getD j 0=0):val (xs.take n)=val xs:=by
 have e:xs=xs.take n++xs.drop n:=(zbb n xs).symm;have h1:val (xs.drop n)=0:=qS _ (fun j=>by have:=h (n+j) (by omega);simpa using this);have h2:val xs=val (xs.take n++xs.drop n):=congrArg val e;rw[h2,jM,h1];simp
theorem uX:∀(xs:List Nat),xs≠[]→xs.getD (xs.length-1) 0≠0→0<val xs
 | [],h,_=>absurd rfl h
 | [x],_,h=>by simp at h;simp[val];omega
 | x::y::r,_,h=>by
  have:=uX (y::r) (by simp) (by simpa using h);simp only[val] at this ⊢;omega
theorem sE:∀(xs:List Nat),(∀ x∈xs,x<4294967296)→(xs=[]∨xs.getD (xs.length-1) 0≠0)→limbs (val xs)=xs
 | [],_,_=>yG
 | x::r,h,hl=>by
  have hx:=h x (by simp);have hr:r=[]∨r.getD (r.length-1) 0≠0:=by
   cases r with
   | nil=>exact .inl rfl
   | cons y r =>
    right;rcases hl with hl | hl
    ·simp at hl
    ·simpa using hl
  have ih:=sE r (fun y hy=>h y (by simp[hy])) hr;have hpos:val (x::r)≠0:=by
   have:=uX (x::r) (by simp) (by
    rcases hl with hl | hl
    ·simp at hl
    ·exact hl)
   omega
  rw[qQ hpos];have e1:val (x::r)%4294967296=x:=by simp only[val];omega
  have e2:val (x::r)/4294967296=val r:=by simp only[val];omega
  rw[e1,e2,ih]
theorem oH {xs:List Nat}{n:Nat}(h:∀ x∈xs,x<4294967296)(hn:n≤xs.length)(hz:∀ j,n≤j→xs.getD j 0=0)(hl:n=0∨xs.getD (n-1) 0≠0):xs.take n=limbs (val xs):=by
 rw[← dD hz];refine(sE _ (fun x hx=>h x (zbc hx)) ?_).symm;rcases hl with hl | hl
 ·left;subst hl;simp
 ·right;have:(xs.take n).length=n:=by simp[hn]
  rw[this];have hn0:0<n:=by
   rcases zbi n with h0 | h0
   ·subst h0;simp at hl;exfalso;have:=hz 0 (zab _);simp at this;exact hl this
   ·exact h0
  have e:(xs.take n).getD (n-1) 0=xs.getD (n-1) 0:=by
   simp only[zah,zaN];rw[if_pos (by omega)]
  rw[e];exact hl
theorem zS {n k:Nat}(h:n<4294967296^k):(limbs n).length≤k:=by
 induction k generalizing n with
 | zero=>simp at h;subst h;simp[yG]
 | succ k ih =>
  by_cases hn:n=0
  ·subst hn;simp[yG]
  ·rw[qQ hn];have:=ih (n:=n/4294967296) (by rw[zax] at h;exact Nat.div_lt_of_lt_mul (by rw[zat];exact h));simp only[zaw];omega
theorem zW (xs:List Nat)(h:∀ x∈xs,x<4294967296):(limbs (val xs)).length≤xs.length:=zS (yJ xs h)
theorem cF {n:Nat}(h:limbs n≠[]):(limbs n).getD ((limbs n).length-1) 0≠0:=by
 induction n using Nat.strongRecOn with
 | _ n ih =>
  have hn:n≠0:=fun e=>h (jC.2 e);by_cases h2:n/4294967296=0
  ·rw[qQ hn,h2,yG];simp;omega
  ·have:=ih (n/4294967296) (by omega) (fun e=>h2 (jC.1 e));rw[qQ hn];have hl:0<(limbs (n/4294967296)).length:=by
    rcases zbi (limbs (n/4294967296)).length with h0 | h0
    ·exact absurd (zP.1 h0) h2
    ·exact h0
   have e:((n%4294967296)::limbs (n/4294967296)).length-1=((limbs (n/4294967296)).length-1)+1:=by simp;omega
   rw[e];simpa using this
theorem yR {xs:List Nat}{j:Nat}(h:xs.length≤j):xs.getD j 0=0:=by simp[h]
def qF (n:Nat):Nat:=if n<18446744073709551616 then n else 0
theorem lJ:∀(xs:List Nat) (j:Nat),xs.getD j 0≠0→4294967296^j≤val xs
 | [],j,h=>by simp at h
 | x::r,0,h=>by simp at h;simp[val];omega
 | x::r,j+1,h=>by
  have:=lJ r j (by simpa using h);simp only[val,zax];omega
theorem eQ {xs:List Nat}{j:Nat}(h:∀ x∈xs,x<4294967296)(hj:2≤j)(h0:xs.getD j 0≠0):¬ val xs<18446744073709551616:=by
 have h1:=lJ xs j h0;have h2:4294967296^2≤4294967296^j:=zbj (by omega) hj;have:(4294967296:Nat)^2=18446744073709551616:=by decide
 omega
theorem yC {xs:List Nat}(h:∀ x∈xs,x<4294967296)(j:Nat):xs.getD j 0<4294967296:=by
 rcases zaf j xs.length with hj | hj
 ·have:xs.getD j 0=xs[j]:=by simp[hj]
  rw[this];exact h _ (zaP hj)
 ·rw[yR hj];omega
theorem rL {xs:List Nat}(h:∀ x∈xs,x<4294967296)(hz:∀ j,2≤j→xs.getD j 0=0):val xs<18446744073709551616∧val xs=xs.getD 0 0+4294967296*xs.getD 1 0:=by
 have e:val xs=xs.getD 0 0+4294967296*xs.getD 1 0:=by
  cases xs with
  | nil=>simp[val]
  | cons x r=>cases r with
   | nil=>simp[val]
   | cons y r =>
    have:val r=0:=qS r (fun j=>by have:=hz (j+2) (by omega);simpa using this);simp[val,this]
 have h0:=yC h 0;have h1:=yC h 1;omega
theorem yF7 (a b:Nat)(hb:b<4294967296):a*4294967296 ||| b=a*4294967296+b:=by
 have:=Nat.shiftLeft_add_eq_or_of_lt (a:=a) (b:=b) (i:=32) (by simpa using hb);simpa [Nat.shiftLeft_eq] using this.symm
def cmpN (a b:Nat):Int:=if a<b then -1 else if b<a then 1 else 0
theorem yA0 {a b:Nat}(h:a<b):cmpN a b = -1:=by simp[cmpN,h]
theorem yA1 {a b:Nat}(h:b<a):cmpN a b=1:=by simp[cmpN,h,Nat.not_lt.2 (zbU h)]
theorem yA2 {a b:Nat}(h:a=b):cmpN a b=0:=by simp[cmpN,h]
theorem aW:∀ {xs ys:List Nat},(∀ j,xs.getD j 0=ys.getD j 0)→val xs=val ys
 | [],ys,h=>by rw[qS ys (fun j=>by rw[← h j];simp)];rfl
 | x::r,[],h=>by rw[qS (x::r) (fun j=>by rw[h j];simp)];rfl
 | x::r,y::q,h=>by
  have h0:=h 0;have h1:=aW (xs:=r) (ys:=q) (fun j=>by have:=h (j+1);simpa using this);simp at h0;simp[val,h0,h1]
theorem aV:∀ {xs ys:List Nat} {j:Nat},(∀ x∈xs,x<4294967296)→(∀ x∈ys,x<4294967296)→xs.getD j 0<ys.getD j 0→(∀ i,j<i→xs.getD i 0=ys.getD i 0)→val xs<val ys
 | [],ys,j,_,_,h,_=>by
  have h0:([]:List Nat).getD j 0=0:=by simp
  have:=lJ ys j (by omega);have:0<4294967296^j:=zbO (by omega);simp[val];omega
 | x::r,[],j,_,_,h,_=>by simp at h
 | x::r,y::q,0,_,_,h,hz=>by
  have:val r=val q:=aW (fun i=>by have:=hz (i+1) (by omega);simpa using this);simp at h;simp[val,this];omega
 | x::r,y::q,j+1,hx,hy,h,hz=>by
  have:=aV (xs:=r) (ys:=q) (j:=j) (fun z hz=>hx z (by simp[hz])) (fun z hz=>hy z (by simp[hz])) (by simpa using h) (fun i hi=>by have:=hz (i+1) (by omega);simpa using this);have h1:=hx x (by simp);simp only[val];omega
def yH (xs ys:List Nat):List (Nat×Nat):=(List.range (max xs.length ys.length)).map fun i=>(xs.getD i 0,ys.getD i 0)
theorem map_take_range {α:Type}(f:Nat→α){n s:Nat}(h:s<n):(((List.range n).map f).take (s+1))=((List.range n).map f).take s++[f s]∧(List.range n).map f=((List.range n).map f).take s++f s::((List.range n).map f).drop (s+1):=by
 have hl:s<((List.range n).map f).length:=by simpa using h
 have e:((List.range n).map f)[s]=f s:=by simp
 constructor
 ·rw[zcL hl,e]
 ·have:=zbb s ((List.range n).map f);rw[zcM hl,e] at this;exact this.symm
theorem oR {xs ys:List Nat}{s:Nat}(h:s<max xs.length ys.length):(yH xs ys).take (s+1)=(yH xs ys).take s++[(xs.getD s 0,ys.getD s 0)]∧yH xs ys=(yH xs ys).take s++(xs.getD s 0,ys.getD s 0)::(yH xs ys).drop (s+1):=map_take_range _ h
theorem rU {xs ys:List Nat}{s:Nat}(h:max xs.length ys.length≤s):(yH xs ys).take s=yH xs ys:=List.take_of_length_le (by simpa [yH] using h)
theorem fM (f:Nat→Nat):∀(n:Nat) (xs:List Nat),(∀ j,j<n→f j=xs.getD j 0)→(∀ j,n≤j→xs.getD j 0=0)→val ((List.range n).map f)=val xs:=by
 intro n xs h hz;refine aW fun j=>?_;rcases zaf j n with hj | hj
 ·have:((List.range n).map f).getD j 0=f j:=by simp[hj]
  rw[this,h j hj]
 ·rw[yR (by simpa using hj),hz j hj]
theorem aO (xs ys:List Nat):val ((yH xs ys).map (·.1))=val xs:=by
 unfold yH;rw[List.map_map];exact fM _ _ xs (fun j _=>rfl) (fun j hj=>yR (by omega))
theorem aN (xs ys:List Nat):val ((yH xs ys).map (·.2))=val ys:=by
 unfold yH;rw[List.map_map];exact fM _ _ ys (fun j _=>rfl) (fun j hj=>yR (by omega))
theorem zJ0 {xs ys:List Nat}(hx:∀ x∈xs,x<4294967296)(hy:∀ x∈ys,x<4294967296):∀ p∈yH xs ys,p.1<4294967296∧p.2<4294967296:=by
 intro p hp;obtain⟨i,_,rfl⟩:=zai.1 hp;exact⟨yC hx i,yC hy i⟩
theorem qX (xs ys:List Nat):(yH xs ys).length=max xs.length ys.length:=by simp[yH]
theorem gY (xs:List Nat)(x:Nat):val (xs++[x])=val xs+4294967296^xs.length*x:=by rw[jM];simp[val]
theorem zN8 {zs:List Nat}{pre:List (Nat×Nat)}{c x y:Nat}(hz:zs.length=pre.length)(h:val zs+4294967296^zs.length*c=val (pre.map (·.1))+val (pre.map (·.2))) :
  val (zs++[(c+(x+y))%4294967296])+4294967296^(zs++[(c+(x+y))%4294967296]).length*((c+(x+y))/4294967296)=val ((pre++[(x,y)]).map (·.1))+val ((pre++[(x,y)]).map (·.2)):=by
 simp only[zay,zaG,zbe,gY,zal,zaw,zbk,zar,zax,hz];rw[hz] at h;generalize 4294967296^pre.length=B at *;have e:=zbz (c+(x+y)) 4294967296;generalize (c+(x+y))/4294967296=q at *;generalize (c+(x+y))%4294967296=r at *;have e2:B*(4294967296*q+r)=B*(c+(x+y)):=by rw[e]
 simp only[zap] at e2 h ⊢;rw[zau B 4294967296 q];omega
def subD (x y c:Nat):Nat:=((x+(18446744073709551616-y))%18446744073709551616+(18446744073709551616-c))%18446744073709551616
theorem zT9 {x y c:Nat}(hx:x<4294967296)(hy:y<4294967296)(hc:c≤1):subD x y c%4294967296+y+c=x+4294967296*(subD x y c/9223372036854775808)∧subD x y c/9223372036854775808≤1∧subD x y c<18446744073709551616:=by
 unfold subD;omega
theorem sub_step {zs:List Nat}{pre:List (Nat×Nat)}{c c' x y z:Nat}(hz:zs.length=pre.length)(h:val zs+val (pre.map (·.2))+4294967296^zs.length*c=val (pre.map (·.1))+4294967296^zs.length*(2*c))(hs:z+y+c=x+4294967296*c') :
  val (zs++[z])+val ((pre++[(x,y)]).map (·.2))+4294967296^(zs++[z]).length*c'=val ((pre++[(x,y)]).map (·.1))+4294967296^(zs++[z]).length*(2*c'):=by
 simp only[zay,zaG,zbe,gY,zal,zaw,zbk,zar,zax,hz] at h ⊢;generalize 4294967296^pre.length=B at *;have e2:B*(z+y+c)=B*(x+4294967296*c'):=by rw[hs]
 simp only[zap] at e2;have e3:B*(2*c)=B*c+B*c:=by rw[Nat.two_mul,zap]
 have e4:B*4294967296*(2*c')=B*(4294967296*c')+B*(4294967296*c'):=by rw[Nat.two_mul,zap,zau]
 rw[zau B 4294967296 c',e4];omega
theorem zT8 {zs:List Nat}{a b c:Nat}(hl:∀ z∈zs,z<4294967296)(h:val zs+b+4294967296^zs.length*c=a+4294967296^zs.length*(2*c))(hc:c≤1)(hab:b≤a):val zs=a-b:=by
 have h1:=yJ zs hl;rcases zaf c 1 with h2 | h2
 ·obtain rfl:c=0:=by omega
  simp at h;omega
 ·obtain rfl:c=1:=by omega
  simp only[Nat.mul_one] at h;omega
theorem qA {a b:Nat}:cmpN a b<0↔a<b:=by
 unfold cmpN;split
 ·simp[*]
 ·split<;>simp<;>omega
theorem uV {xs:List Nat}{s:Nat}(h:s<xs.length):val (xs.drop s)=xs.getD s 0+4294967296*val (xs.drop (s+1)):=by
 rw[zcM h];simp[val,h]
theorem eq_of_getD {xs ys:List Nat}(hl:xs.length=ys.length)(h:∀ j,j<xs.length→xs.getD j 0=ys.getD j 0):xs=ys:=by
 apply List.ext_getElem hl;intro i h1 h2;have:=h i h1;simpa [h1,h2] using this
theorem small_len {xs:List Nat}(h:(limbs (val xs)).length≤2):val xs<18446744073709551616:=by
 have:=yJ (limbs (val xs)) (yF _);rw[zI] at this;have h2:4294967296^(limbs (val xs)).length≤4294967296^2:=zbj (by omega) h;have h3:(4294967296:Nat)^2=18446744073709551616:=by decide
 omega
theorem yA7 {xs:List Nat}(h:2<(limbs (val xs)).length):¬ val xs<18446744073709551616:=by
  intro hc;have:=zS (n:=val xs) (k:=2) (by have h3:(4294967296:Nat)^2=18446744073709551616:=(by decide);omega);omega
theorem yS {xs:List Nat}{k:Nat}:val (xs.take (k+1))=val (xs.take k)+4294967296^k*xs.getD k 0:=by
 rcases zaf k xs.length with h | h
 ·rw[zcL h,gY];simp[h,zaS (zbU h)]
 ·rw[zaz (by omega),zaz h,yR h];simp
theorem rsub_step {zs xs ys:List Nat}{k c c' z:Nat}(hz:zs.length=k)(h:val zs+val (ys.take k)+4294967296^zs.length*c=val (xs.take k)+4294967296^zs.length*(2*c))(hs:z+ys.getD k 0+c=xs.getD k 0+4294967296*c')(hc:c'≤1) :
  val (zs++[z])+val (ys.take (k+1))+4294967296^(zs++[z]).length*c'=val (xs.take (k+1))+4294967296^(zs++[z]).length*(2*c'):=by
 simp only[yS,gY,zal,zaw,zbk,zax,hz] at h ⊢;generalize 4294967296^k=B at *;have e2:B*(z+ys.getD k 0+c)=B*(xs.getD k 0+4294967296*c'):=by rw[hs]
 simp only[zap] at e2;have e3:B*(2*c)=B*c+B*c:=by rw[Nat.two_mul,zap]
 have e4:B*4294967296*(2*c')=B*(4294967296*c')+B*(4294967296*c'):=by rw[Nat.two_mul,zap,zau]
 rw[zau B 4294967296 c',e4];omega
theorem val_take_le {xs ys:List Nat}(h:∀ x∈xs,x<4294967296)(hle:val ys≤val xs):val (ys.take xs.length)=val ys:=by
 refine dD fun j hj=>?_;apply Classical.byContradiction;intro hc;have h1:=lJ ys j hc;have h2:=yJ xs h;have h3:4294967296^xs.length≤4294967296^j:=zbj (by omega) hj;omega
theorem xS {xs:List Nat}{k:Nat}(h:∀ x∈xs,x<4294967296)(hk:xs.length≤k):val xs<4294967296^k :=
 zan (yJ xs h) (zbj (by omega) hk)
theorem lH {a b k:Nat}(ha:a<4294967296^k)(hb:b<4294967296^k):(limbs (a+b)).length≤k+1:=by
 refine zS ?_;rw[zax];omega
end Go.SL
namespace Go.SL
open Go.RowKit
section zero
variable {P : Program} {w : World}
theorem run_append_zero (t ty tz e:TypeId){bytes:Nat}{z:Value}(ht:P.underlying t=some (.slice e))(htz:P.underlying tz=some (.int .i64))(he:Sz P e 1 bytes z)(hz:z.oneCell'=true)
  {v:Value} {n m:Nat} {xs:List Value} (hown:w.ownsRow 0 e 1 v n xs) (hm:m≤1000000) (hn:n+m≤140737488355328) (hb:(n+m)*bytes≤140737488355328) :
  ∃ v' w',(Builtin.append_ #[t,tz] ty #[v,.int .i64 (m:Int)]).run P w = .ok v' w'∧w'.ownsRow 0 e 1 v' (n+m) (xs++List.replicate m z)∧Gro w w' v.ownBlock∧(v'.ownBlock=v.ownBlock∨v'.ownBlock=some w.heap.size):=by
 obtain⟨i,i1,i2,i3,i4⟩:=he;have hzc:z.cells=#[z]:=by cases z<;>first | rfl | simp[Value.oneCell'] at hz
 have h63:n+m≤maxLen:=by simp[maxLen];omega
 have hwr:IntKind.i64.wrap (m:Int)=(m:Int):=IntWalk.i64_in _ (by omega);have hmb0:m*bytes≤(n+m)*bytes:=zaU _ (by omega);have hmb:¬ (281474976710656<(m:Int)*(i.bytes:Int)):=by
  rw[i3];have:((m*bytes:Nat):Int)≤140737488355328:=by omega
  rw[zcc] at this;omega
 have hneg:¬ ((m:Int)<0):=by omega
 have hzs:Builtin.zeroCells z.cells m=(List.replicate m z).toArray:=by
  unfold Builtin.zeroCells;rw[hzc];apply Array.ext
  ·simp
  ·intro a b1 b2;simp[Nat.mod_one]
 have hnl:(xs++List.replicate m z).length=(n+m)*1:=by rw[zal,hown.1,zbA];omega
 have h1:∀ u∈List.replicate m z,u.oneCell'=true:=fun u hu=>by rw[(zbP.1 hu).2];exact hz
 have grown:∀(old:Nat),old<n+m→∀(row:Option Nat),
   (w.drew.alloc (.cells (xs.toArray++(List.replicate m z).toArray++Builtin.zeroCells z.cells (grownCap w (n+m) old e-(n+m))) e)).ownsRow 0 e 1
    (.slice (some ⟨w.heap.size,0,none⟩) (n+m) (grownCap w (n+m) old e)) (n+m) (xs++List.replicate m z) ∧
   Gro w (w.drew.alloc (.cells (xs.toArray++(List.replicate m z).toArray++Builtin.zeroCells z.cells (grownCap w (n+m) old e-(n+m))) e)) row:=by
  intro old ho row;have hge:=grownCap_ge w (n+m) old e;have hcm:grownCap w (n+m) old e≤maxLen:=grownCap_le_maxLen w (n+m) old e h63;refine⟨⟨hnl,.inr ⟨w.heap.size,_,_,rfl,zaD _,heap_alloc_new w.drew _,hge,hcm,?_,?_⟩⟩,⟨⟨rfl,rfl,rfl,by simp,fun k hk _=>heap_alloc_old w.drew _ k hk⟩,zbt _⟩⟩
  ·have:=hown.1;simp only[Array.size_append,List.size_toArray,size_zeroCells,hzc,zbA];simp at *; omega
  ·simp only[Array.toList_append,zaA];rw[← zaA];exact List.take_left' (by omega)
 rcases hown.2 with⟨rfl,rfl⟩ | ⟨g,cap,cur,rfl,hbg,hg,hnc,hcm,hcs,htake⟩
 ·have hx:xs=[]:=List.eq_nil_of_length_eq_zero (by simpa using hown.1);subst hx;by_cases hm0:m=0
  ·subst hm0;refine⟨.slice none 0 0,w,?_,by simpa using World.ownsRow_nil w 0 e 1,⟨⟨rfl,rfl,rfl,Nat.le_refl _,fun _ _ _=>rfl⟩,Nat.le_refl _⟩,Or.inl rfl⟩;simp[Builtin.append_,run_underlying ht,run_underlying htz,sizeOf,typeInfo,i1,asInt,asIntOf,IntKind.wrap_i64]
  ·have hgr:=grown 0 (by omega) (Value.ownBlock (.slice none 0 0));simp only[zba,zcm] at hgr;refine⟨.slice (some ⟨w.heap.size,0,none⟩) m (grownCap w m 0 e),_,?_,by simpa using hgr.1,hgr.2,Or.inr rfl⟩;have h63':¬ (9223372036854775807<(m:Int)):=by omega
   have h48':¬ (281474976710656<Builtin.nextslicecap m 0*i.bytes):=by
    have:=growslice_fits (need:=m) (old:=0) (by omega) (show m*i.bytes≤140737488355328 by rw[i3];omega);omega
   have hfo:(Builtin.firstCells 1 0 (Value.slice none 0 0)).run P w.drew = .ok #[] w.drew:=rfl;simp[Builtin.append_,run_underlying ht,run_underlying htz,sizeOf,typeInfo,zeroValue,i1,i2,i4,asInt,asIntOf,hwr,hmb,hneg,h63',h48',hm0,Question.forced,hfo,hzs,newRow,grownCap]
 ·by_cases hroom:n+m≤cap
  ·have hfit:n*1+(List.replicate m z).length≤cur.size:=by rw[hcs,zbA];omega
   have hst:=run_storeCells_at P g (n*1) e (List.replicate m z) 0 cur w hg (by simpa using hfit) h1;simp only[zbM,Nat.mul_one] at hst;refine⟨.slice (some ⟨g,0,none⟩) (n+m) cap,_,?_,⟨hnl,.inr ⟨g,cap,_,rfl,hbg,setRow_heap w g cur (cur.toList.take n++List.replicate m z++cur.toList.drop (n+(List.replicate m z).length)).toArray e _ hg,hroom,hcm,?_,?_⟩⟩,⟨⟨rfl,rfl,rfl,by simp,fun k _ hk=>setRow_other w g k _ (fun e=>hk (by simp[Value.ownBlock,e]))⟩,zab _⟩,Or.inl rfl⟩
   ·by_cases hm0:m=0
    ·subst hm0;simp only[List.replicate_zero] at hst ⊢;have hs0:w.setRow g (cur.toList.take n++[]++cur.toList.drop (n+([]:List Value).length)).toArray=w:=by
      simp only[zas,zbk,zbM,zbb,Array.toArray_toList];exact setRow_self w g cur e (0,0) hg
     rw[hs0];simp[Builtin.append_,run_underlying ht,run_underlying htz,sizeOf,typeInfo,i1,asInt,asIntOf,IntKind.wrap_i64,hnc,storeCells]
    ·simp[Builtin.append_,run_underlying ht,run_underlying htz,sizeOf,typeInfo,zeroValue,i1,i2,i4,asInt,asIntOf,hwr,hmb,hneg,hm0,hzs,hroom,Addr.add_lit,hst]
   ·simp only[List.size_toArray,zal,zaE,zaV,zcF,zbA];omega
   ·have h2:=hown.1;simp only[Nat.mul_one] at htake;rw[htake];exact List.take_left' (by omega)
  ·have hm0:¬ m=0:=by omega
   have holds:∀ j u,xs[j]? = some u→w.cell? ((⟨g,0,none⟩:Addr).add j)=some u:=hown.cells (g:=g) rfl;have hgr:=grown cap (by omega) (Value.ownBlock (.slice (some ⟨g,0,none⟩) n cap));refine⟨_,_,?_,hgr.1,hgr.2,Or.inr rfl⟩;have h63':¬ (9223372036854775807<((n:Int)+(m:Int))):=by omega
   have h48':¬ (281474976710656<Builtin.nextslicecap (n+m) cap*i.bytes):=by
    have:=growslice_fits (need:=n+m) (old:=cap) (by omega) (show (n+m)*i.bytes≤140737488355328 by rw[i3];omega);omega
   have hfo:=run_firstCells_some (P:=P) w.drew 1 n ⟨g,0,none⟩ n cap xs hown.1 (by simpa using holds);simp[Builtin.append_,run_underlying ht,run_underlying htz,sizeOf,typeInfo,zeroValue,i1,i2,i4,asInt,asIntOf,hwr,hmb,hneg,hm0,hroom,h63',h48',Question.forced,hfo,hzs,newRow,grownCap]
variable {r : Option Nat} {N : Nat} {all : Array Oper} {K : Pd} {D : List Deferred} {E : Env} {rest : List Oper}
theorem ops_append0 {d:Nat}{x y:Operand}{t tz e t':TypeId}{pos:String}{af:Array Edge}{bytes:Nat}{z:Value}{v:Value}{n m:Nat}{j:Int}{xs:List Value}(hd:Nat.blt d N=true)
  (ht:P.underlying t=some (.slice e)) (htz:P.underlying tz=some (.int .i64)) (he:Sz P e 1 bytes z) (hz:z.oneCell'=true) (hx:ev E x=some v) (hy:ev E y=some (.int .i64 j)) (hj:j=(m:Int)) (hown:w.ownsRow 0 e 1 v n xs)
  (hm:m≤1000000) (hn:n+m≤140737488355328) (hb:(n+m)*bytes≤140737488355328)
  (h:∀ v' w',w'.ownsRow 0 e 1 v' (n+m) (xs++List.replicate m z)→Gro w w' v.ownBlock→(v'.ownBlock=v.ownBlock∨v'.ownBlock=some w.heap.size)→Ops P r N all K rest D ((d,v')::E) w') :
  Ops P r N all K (⟨some d,.call ⟨.builtin .append,#[x,y],#[t,tz]⟩,t',pos,af,none⟩::rest) D E w:=by
 subst hj;obtain⟨v',w',r1,r2,r3,r4⟩:=run_append_zero (P:=P) t t' tz e ht htz he hz hown hm hn hb;refine yB hd (by intro c hc;cases hc) (fun ac ha=>?_) (h v' w' r2 r3 r4);simp only[execOp,resolve,invoke,builtin,Sem.run_bind,Sem.run_pure,Result.andThen,zbL,zaG,zbe,ha.ev hx,ha.ev hy];rw[r1]
end zero
section notd
variable {P : Program} {r : Option Nat} {N : Nat} {all : Array Oper} {K : Pd} {D : List Deferred} {E : Env} {w : World} {rest : List Oper}
end notd
theorem val_pad (n k:Nat):val (limbs n++List.replicate k 0)=n:=by rw[jM,gL,zI];simp
section idxo
variable {P : Program} {r : Option Nat} {N : Nat} {all : Array Oper} {K : Pd} {D : List Deferred} {E : Env} {w : World} {rest : List Oper}
end idxo
section more
variable {P : Program} {r : Option Nat} {N : Nat} {all : Array Oper} {K : Pd} {D : List Deferred} {E : Env} {w : World} {rest : List Oper}
theorem ops_quo32 {d:Nat}{x y:Operand}{tx ty t:TypeId}{pos:String}{af:Array Edge}{a b:Nat}(hd:Nat.blt d N=true)
  (hx:ev E x=some (.int .u32 (a:Int))) (hy:ev E y=some (.int .u32 (b:Int))) (hb:0<b) (ha:a<4294967296)
  (h:Ops P r N all K rest D ((d,.int .u32 ((a/b:Nat):Int))::E) w):Ops P r N all K (⟨some d,.binOp .quo tx x y ty,t,pos,af,none⟩::rest) D E w :=
 iN hd (.inl rfl) hx hy (by omega) (by rw[IntWalk.u32_quo _ _ ⟨by omega,by omega,by omega⟩];rfl) h
end more
theorem IsNat.sub {M:Nat→Prop}{w:World}{v:Value}{xs:List Nat}{l m:Nat}(h:IsNat M w v xs)(hm:m≤xs.length){u:Value}(hu:Slc M w 1 u (m-l) (((xs.map lw).drop (l*1)).take ((m-l)*1))):IsNat M w u ((xs.drop l).take (m-l)):=by
 refine⟨?_,fun x hx=>h.lt x (zbB (zbc hx))⟩;have e:((xs.drop l).take (m-l)).length=m-l:=by rw[zaE,zaV];omega
 rw[e];simpa [List.map_take,List.map_drop] using hu
theorem aF:∀ {zs:List Nat} {j:Nat} (v:Nat),j<zs.length→val (zs.set j v)+4294967296^j*zs.getD j 0=val zs+4294967296^j*v
 | [],j,v,h=>by simp at h
 | z::zs,0,v,h=>by simp[val];omega
 | z::zs,j+1,v,h=>by
  have ih:=aF (zs:=zs) (j:=j) v (by simpa using h);simp only[List.set_cons_succ,val,List.getD_cons_succ,zax];have e1:4294967296^j*4294967296*zs.getD j 0=4294967296*(4294967296^j*zs.getD j 0):=by rw[zat (4294967296^j) 4294967296,zau]
  have e2:4294967296^j*4294967296*v=4294967296*(4294967296^j*v):=by rw[zat (4294967296^j) 4294967296,zau]
  omega
theorem aP {zs:List Nat}{j v:Nat}(h:∀ z∈zs,z<4294967296)(hv:v<4294967296):∀ z∈zs.set j v,z<4294967296:=by
 intro z hz;rcases zbC hz with h1 | h1
 ·exact h z h1
 ·omega
theorem jL {zs:List Nat}{i j v:Nat}(h:i≠j):(zs.set i v).getD j 0=zs.getD j 0:=by
 simp[zah,zbl h]
theorem zJ9 {zs:List Nat}{T q o c j:Nat}(hj:j<zs.length)(ho:zs.getD j 0=o)(h:val zs+4294967296^j*c=T) :
  val (zs.set j ((q+o+c)%4294967296))+4294967296^(j+1)*((q+o+c)/4294967296)=T+4294967296^j*q:=by
 have h1:=aF ((q+o+c)%4294967296) hj;rw[ho] at h1;have h2:=zbz (q+o+c) 4294967296;have h3:4294967296^j*(4294967296*((q+o+c)/4294967296)+(q+o+c)%4294967296)=4294967296^j*(q+o+c):=by rw[h2]
 rw[zap,zap,zap,← zau] at h3;rw[zax];omega
theorem mul_row {xs ys:List Nat}{i k:Nat}:val (xs.take i)*val ys+4294967296^i*(xs.getD i 0*val (ys.take k))+4294967296^(i+k)*(xs.getD i 0*ys.getD k 0)=val (xs.take i)*val ys+4294967296^i*(xs.getD i 0*val (ys.take (k+1))):=by
 rw[yS,zaJ,zap,zap,zaO,zau];congr 2;rw[zcg (4294967296^k)]
theorem mul_rows {xs ys:List Nat}{i:Nat}:val (xs.take i)*val ys+4294967296^i*(xs.getD i 0*val ys)=val (xs.take (i+1))*val ys:=by
 rw[yS,zaQ,zau]
def cntN (k m:Int):Nat:=(min (max k 0) m).toNat
theorem fJ {k m:Int}(h:0≤m):min (max k 0) m=(cntN k m:Int)∧max (min k m) 0=(cntN k m:Int)∧(cntN k m:Int)≤m:=by unfold cntN;omega
def yU (n:Nat):Nat:=if n=0 then 0 else Nat.log2 n+1
theorem pZ {n:Nat}(h:0<n):yU n=yU (n/2)+1:=by
 unfold yU;rw[if_neg (by omega)];by_cases h2:n/2=0
 ·rw[if_pos h2];have:n=1:=by omega
  subst this;decide
 ·rw[if_neg h2];have:Nat.log2 n=Nat.log2 (n/2)+1:=by
   rw[Nat.log2_def,if_pos (by omega)]
  omega
theorem mV (n:Nat)(h:0<n):∀ k,yU (n*2^k)=yU n+k
 | 0=>by simp
 | k+1=>by
  have hp:0<n*2^k:=Nat.mul_pos h (zbO (by omega));rw[zax,← zau,pZ (by omega),show n*2^k*2/2=n*2^k by omega,mV n h k];rfl
theorem pY (n:Nat):n<2^yU n:=by
 unfold yU;by_cases h:n=0
 ·subst h;decide
 ·rw[if_neg h];exact Nat.lt_log2_self
theorem zN1 {n:Nat}(h:0<n):2^(yU n-1)≤n:=by
 unfold yU;rw[if_neg (by omega)];exact Nat.log2_self_le (by omega)
theorem bitsN_unique {n k:Nat}(h0:0<n)(h1:n<2^k)(h2:2^(k-1)≤n):yU n=k:=by
 have a1:=pY n;have a2:=zN1 h0;have b1:k-1<yU n:=(Nat.pow_lt_pow_iff_right (by omega)).1 (zbr h2 a1);have b2:yU n-1<k:=(Nat.pow_lt_pow_iff_right (by omega)).1 (zbr a2 h1);rcases zbi k with hk | hk
 ·subst hk;omega
 ·omega
theorem tG {h l k:Nat}(hh:0<h)(hl:l<2^k):yU (l+2^k*h)=k+yU h:=by
 have hk:0<2^k:=zbO (by omega);have a1:=pY h;have a2:=zN1 hh;have hb:0<yU h:=by
  rw[pZ hh];omega
 refine bitsN_unique ?_ ?_ ?_
 ·have:=Nat.mul_pos hk hh;omega
 ·rw[zaJ];have:2^k*(h+1)≤2^k*2^yU h:=zbo _ a1;rw[zap] at this;omega
 ·rw[show k+yU h-1=k+(yU h-1) by omega,zaJ];have:2^k*2^(yU h-1)≤2^k*h:=zbo _ a2;omega
theorem xU {a b j k:Nat}(ha:a<4294967296^j)(hb:b<4294967296^k):a*b<4294967296^(j+k):=by
 rw[zaJ];exact Nat.mul_lt_mul'' ha hb
theorem kF {a b j k:Nat}(ha:a<4294967296^j)(hb:b<4294967296^k):(limbs (a*b)).length≤j+k:=zS (xU ha hb)
theorem xQ:limbs 1=[1]:=by rw[qQ (by decide),show (1/4294967296:Nat)=0 by decide,yG]
theorem limbs_top {n:Nat}(h:limbs n≠[]):n=val ((limbs n).take ((limbs n).length-1))+4294967296^((limbs n).length-1)*(limbs n).getD ((limbs n).length-1) 0:=by
 have h1:(limbs n).length≠0:=fun e=>h (zcv.1 e);rw[← yS,show (limbs n).length-1+1=(limbs n).length by omega,zaF,zI]
theorem eF (k:Nat):(4294967296:Nat)^k=2^(32*k):=by rw[zch]
theorem bits_limbs {n:Nat}(h:limbs n≠[]):yU n=32*((limbs n).length-1)+yU ((limbs n).getD ((limbs n).length-1) 0):=by
 have h0:=limbs_top h;have h1:=cF h;have h2:=yJ ((limbs n).take ((limbs n).length-1)) (fun x hx=>yF n x (zbc hx));have h3:((limbs n).take ((limbs n).length-1)).length=(limbs n).length-1:=by simp
 rw[h3] at h2;generalize val ((limbs n).take ((limbs n).length-1))=l at *;generalize (limbs n).getD ((limbs n).length-1) 0=t at *;generalize (limbs n).length-1=k at *;rw[eF] at h0 h2;rw[h0];exact tG (by omega) h2
theorem eV {r:Nat}(h:r≤32):(4294967296:Nat)=2^(32-r)*2^r:=by
 rw[← zaJ,show 32-r+r=32 by omega]
theorem yK (r:Nat):0<2^r:=zbO (by omega)
theorem bO {r:Nat}(h:r≤32):2^r≤4294967296:=by
 have:=zbj (n:=2) (by omega) h;exact this
theorem yE1 {x r:Nat}(hx:x<4294967296)(hr:r<32):x*2^r<18446744073709551616:=by
 have h1:=bO (r:=r) (by omega);have h2:x*2^r≤4294967295*4294967296:=zaT (by omega) h1;omega
theorem zS0 {x l r:Nat}(hr:r≤32)(hl:l<2^r):(x*2^r%4294967296 ||| l)=x*2^r%4294967296+l∧x*2^r%4294967296+l<4294967296:=by
 have e1:x*2^r%4294967296=2^r*(x%2^(32-r)):=by
  conv=>lhs;rw[eV hr]
  rw[Nat.mul_mod_mul_right,zat]
 rw[e1];refine⟨(Nat.two_pow_add_eq_or_of_lt hl _).symm,?_⟩;have h1:x%2^(32-r)<2^(32-r):=zaH _ (yK _);have h2:2^r*(x%2^(32-r)+1)≤2^r*2^(32-r):=zbo _ h1;rw[zat (2^r) (2^(32-r)),← eV hr,zap] at h2;omega
theorem wN {x r:Nat}(hx:x<4294967296):x*2^r/4294967296<2^r:=by
 rw[Nat.div_lt_iff_lt_mul (by omega),zat];exact Nat.mul_lt_mul_of_pos_left hx (yK r)
theorem zR9 {zs:List Nat}{T x l r p:Nat}(hp:zs.length=p)(hr:r≤32)(hl:l<2^r)(h:val zs+4294967296^p*l=T) :
  val (zs++[x*2^r%4294967296 ||| l])+4294967296^(p+1)*(x*2^r/4294967296)=T+4294967296^p*(x*2^r):=by
 rw[(zS0 hr hl).1,gY,hp,zax,zap];have h2:=zbz (x*2^r) 4294967296;have h3:4294967296^p*(4294967296*(x*2^r/4294967296)+x*2^r%4294967296)=4294967296^p*(x*2^r):=by rw[h2]
 rw[zap,← zau] at h3;omega
theorem yC1 {xs:List Nat}{i p r:Nat}:4294967296^p*(val (xs.take i)*2^r)+4294967296^(p+i)*(xs.getD i 0*2^r)=4294967296^p*(val (xs.take (i+1))*2^r):=by
 rw[yS,zaJ,zaQ,zap];congr 1;rw[zau,zau]
theorem yC2 (n q:Nat):4294967296^(q/32)*(n*2^(q%32))=n*2^q:=by
 rw[eF,zcg,← zaJ,show 32*(q/32)+q%32=q by omega]
theorem oB {xs:List Nat}(h:∀ x∈xs,x<4294967296)(n:Nat):val (xs.drop n)=val xs/4294967296^n:=by
 rcases zaf n xs.length with hn | hn
 ·have e:val xs=val (xs.take n)+4294967296^n*val (xs.drop n):=by
   conv=>lhs;rw[← zbb n xs]
   rw[jM,zaE,zaS (by omega)]
  have h1:=yJ (xs.take n) (fun x hx=>h x (zbc hx));rw[zaE,zaS (by omega)] at h1;rw[e,zat,Nat.add_mul_div_right _ _ (zbO (by omega)),zcw h1];omega
 ·rw[zcN hn];have h1:=yJ xs h;have h2:4294967296^xs.length≤4294967296^n:=zbj (by omega) hn;rw[zcw (by omega)];rfl
theorem zM8 {xs:List Nat}(h:∀ x∈xs,x<4294967296)(q:Nat):val (xs.drop (q/32))/2^(q%32)=val xs/2^q:=by
 rw[oB h,zcO,eF,← zaJ,show 32*(q/32)+q%32=q by omega]
theorem mD {x Y r:Nat}(hx:x<4294967296):(x+4294967296*Y)/2^r/4294967296=Y/2^r:=by
 rw[zcO,zat (2^r),← zcO,zat 4294967296 Y,Nat.add_mul_div_right _ _ (by omega),zcw hx];simp
theorem sV {x y Z r:Nat}(hr:r<32):(x+4294967296*(y+4294967296*Z))/2^r%4294967296=(x+4294967296*y)/2^r%4294967296:=by
 have e:x+4294967296*(y+4294967296*Z)=(x+4294967296*y)+(4294967296*(2^(32-r)*Z))*2^r:=by
  have:=eV (r:=r) (by omega);have e2:4294967296*(2^(32-r)*Z)*2^r=4294967296*((2^(32-r)*2^r)*Z):=by
   rw[zau 4294967296,zbV (2^(32-r))]
  rw[e2,← this];omega
 rw[e,Nat.add_mul_div_right _ _ (yK r),Nat.add_mul_mod_self_left]
theorem or_up {x y:Nat}(hx:x<4294967296)(hy:y<4294967296):(x ||| y*4294967296%18446744073709551616)=x+4294967296*y:=by
 have e:y*4294967296%18446744073709551616=2^32*y:=by rw[zao (by omega),zat]
 rw[e,Nat.or_comm,← Nat.two_pow_add_eq_or_of_lt (i:=32) (by omega)];omega
theorem down_or {x Y r:Nat}(hx:x<4294967296)(hr:r<32)(h0:r≠0):(x/2^r ||| Y*2^(32-r)%4294967296)=(x+4294967296*Y)/2^r%4294967296:=by
 have hp:=eV (r:=r) (by omega);have e1:(x+4294967296*Y)/2^r=x/2^r+2^(32-r)*Y:=by
  conv=>lhs;rw[hp,zbV]
  rw[Nat.add_mul_div_right _ _ (yK r)]
 have hl:x/2^r<2^(32-r):=by
  rw[Nat.div_lt_iff_lt_mul (yK r),← hp];exact hx
 have h1:=zS0 (x:=Y) (l:=x/2^r) (r:=32-r) (by omega) hl;rw[e1,Nat.or_comm,h1.1,zat (2^(32-r)) Y,Nat.add_mod,Nat.add_comm (x/2^r%4294967296)];have h2:x/2^r≤x:=zbh _ _;rw[zao (show x/2^r<4294967296 by omega),zao h1.2]
theorem mC {zs:List Nat}{D e n s:Nat}(hs:zs.length=s)(he:e=n%4294967296)(h:val zs+4294967296^s*n=D):val (zs++[e])+4294967296^(s+1)*(n/4294967296)=D:=by
 subst he;rw[gY,hs,zax];have h2:=zbz n 4294967296;have h3:4294967296^s*(4294967296*(n/4294967296)+n%4294967296)=4294967296^s*n:=by rw[h2]
 rw[zap,← zau] at h3;omega
theorem sU {zs xs:List Nat}{i p:Nat}(h:zs.drop i=xs.drop p)(j:Nat):zs.getD (i+j) 0=xs.getD (p+j) 0:=by
 have:=congrArg (fun l=>l[j]?) h;simp only[List.getElem?_drop] at this;simp only[zah,this]
theorem zZ5 {zs xs:List Nat}{p i r e T:Nat}(hi:i<zs.length)(hl:xs.length=p+zs.length)(hx:∀ x∈xs,x<4294967296)(hd:zs.drop i=xs.drop (p+i))(hv:val (zs.take i)+4294967296^i*(val (xs.drop (p+i))/2^r)=T)
  (he:e=val (xs.drop (p+i))/2^r%4294967296):(zs.set i e).drop (i+1)=xs.drop (p+(i+1))∧val ((zs.set i e).take (i+1))+4294967296^(i+1)*(val (xs.drop (p+(i+1)))/2^r)=T:=by
 have e1:zs.set i e=zs.take i++e::zs.drop (i+1):=by rw[List.set_eq_take_append_cons_drop,if_pos hi]
 have e2:zs.drop (i+1)=xs.drop (p+(i+1)):=by
  have:=congrArg (List.drop 1) hd;rw[zbW,zbW] at this;rw[this,zaO]
 have e3:(zs.take i).length=i:=by rw[zaE];omega
 have e4:(zs.set i e).take (i+1)=zs.take i++[e]:=by
  rw[e1,show zs.take i++e::zs.drop (i+1)=(zs.take i++[e])++zs.drop (i+1) by simp,List.take_left' (by simp;omega)]
 refine⟨?_,?_⟩
 ·rw[List.drop_set_of_lt (by omega),e2]
 ·have hdv:=uV (xs:=xs) (s:=p+i) (by omega);have hlim:xs.getD (p+i) 0<4294967296:=yC hx _;rw[e4,← mC e3 he hv];congr 2;rw[hdv,mD hlim,zaO]
theorem mod_self_of (r:Nat){x:Nat}(hx:x<4294967296):x/2^r%4294967296=x/2^r:=zao (zbr (zbh _ _) hx)
def lsOf (xs:List Nat):Nat→List (Nat×Nat)
 | 0=>[]
 | s+1=>lsOf xs s++(if xs.getD s 0=0 then [] else [(s,xs.getD s 0)])
def psum:List (Nat×Nat)→Nat
 | []=>0
 | p::r=>4294967296^p.1*p.2+psum r
theorem dP:∀(l m:List (Nat×Nat)),psum (l++m)=psum l+psum m
 | [],m=>by simp[psum]
 | p::l,m=>by simp only[zaR,psum,dP l m,zaO]
theorem zV0 (xs:List Nat):∀ n,psum (lsOf xs n)=val (xs.take n)
 | 0=>by simp[lsOf,psum,val]
 | n+1=>by
  rw[lsOf,dP,zV0 xs n,yS];split
  ·rename_i h;rw[h];simp[psum]
  ·simp[psum]
theorem yP6 {xs:List Nat}:∀ {n:Nat},∀ p∈lsOf xs n,p.1<n∧p.2=xs.getD p.1 0
 | 0,p,hp=>by simp[lsOf] at hp
 | n+1,p,hp=>by
  rw[lsOf,zae] at hp;rcases hp with hp | hp
  ·have:=yP6 p hp;exact⟨by omega,this.2⟩
  ·split at hp
   ·simp at hp
   ·simp at hp;subst hp;exact⟨by simp,rfl⟩
theorem ls_skip {xs:List Nat}{s:Nat}(h:xs.getD s 0=0):lsOf xs (s+1)=lsOf xs s:=by rw[lsOf,if_pos h,zas]
theorem zV9 {xs:List Nat}{s:Nat}(h:¬ xs.getD s 0=0):lsOf xs (s+1)=lsOf xs s++[(s,xs.getD s 0)]:=by rw[lsOf,if_neg h]
theorem yG9 (xs:List Nat)(s:Nat):∀ k,∃ post,lsOf xs (s+k)=lsOf xs s++post
 | 0=>⟨[],by simp⟩
 | k+1=>by
  obtain⟨post,h⟩:=yG9 xs s k;exact⟨_,by rw[← zaO,lsOf,h,zaA]⟩
theorem ls_at {xs:List Nat}{s:Nat}(hs:s<xs.length)(h:¬ xs.getD s 0=0):∃ post,lsOf xs xs.length=lsOf xs s++(s,xs.getD s 0)::post:=by
 obtain⟨post,hp⟩:=yG9 xs (s+1) (xs.length-(s+1));rw[show s+1+(xs.length-(s+1))=xs.length by omega,zV9 h] at hp;exact⟨post,by rw[hp];simp⟩
theorem pB {xs:List Nat}:∀ {n:Nat} {pre post:List (Nat×Nat)} {x:Nat×Nat},lsOf xs n=pre++x::post→x.1<n∧x.2=xs.getD x.1 0∧∀ p∈pre,p.1<x.1
 | 0,pre,post,x,h=>by simp[lsOf] at h
 | n+1,pre,post,x,h=>by
  rw[lsOf] at h;split at h
  ·rw[zas] at h;have:=pB h;exact⟨by omega,this.2⟩
  ·rcases List.eq_nil_or_concat post with rfl | ⟨q,y,rfl⟩
   ·have h2:=List.append_inj' h rfl;have h3:(n,xs.getD n 0)=x:=by simpa using h2.2
    subst h3;exact⟨by simp,rfl,fun p hp=>by rw[← h2.1] at hp;exact(yP6 p hp).1⟩
   ·rw[show pre++x::(q.concat y)=(pre++x::q)++[y] by simp] at h;have h2:=List.append_inj' h rfl;have:=pB h2.1;exact⟨by omega,this.2⟩
theorem mul_step2 {zs:List Nat}{T q o c j:Nat}(hj:j<zs.length)(ho:zs.getD j 0=o)(h:val zs+4294967296^j*c=T) :
  val (zs.set j ((c+(q+o))%4294967296))+4294967296^(j+1)*((c+(q+o))/4294967296)=T+4294967296^j*q:=by
 rw[show c+(q+o)=q+o+c by omega];exact zJ9 hj ho h
theorem mul_row2 {ys:List Nat}{T x i k:Nat}:T+4294967296^i*(x*val (ys.take k))+4294967296^(i+k)*(x*ys.getD k 0)=T+4294967296^i*(x*val (ys.take (k+1))):=by
 rw[yS,zaJ,zap,zap,zaO,zau];congr 2;rw[zcg (4294967296^k)]
theorem psum_snoc {pre:List (Nat×Nat)}{x:Nat×Nat}{V:Nat}:psum pre*V+4294967296^x.1*(x.2*V)=psum (pre++[x])*V:=by
 rw[dP,zaQ];simp[psum,zau]
theorem mF {x k:Nat}(h:2^k≤x):yU x=k+yU (x/2^k):=by
 have h0:=Nat.div_pos h (yK k);have h1:=tG (h:=x/2^k) (l:=x%2^k) (k:=k) h0 (zaH _ (yK k));rw[Nat.mod_add_div] at h1;exact h1
theorem qI {n:Nat}(h:n<4294967296):yU n<33:=by
 unfold yU;split
 ·omega
 ·rename_i h0;have:=(Nat.log2_lt (k:=32) h0).2 (by omega);omega
section ops
variable {P : Program} {r : Option Nat} {N : Nat} {all : Array Oper} {K : Pd} {D : List Deferred} {E : Env} {w : World} {rest : List Oper}
theorem ops_to8 {d:Nat}{x:Operand}{s t t':TypeId}{pos:String}{af:Array Edge}{k':IntKind}{sd:TypeDesc}{a:Nat}(hd:Nat.blt d N=true)
  (hs:P.underlying s=some sd) (ht:P.underlying t=some (.int .u8)) (hx:ev E x=some (.int k' (a:Int))) (ha:a<256)
  (h:Ops P r N all K rest D ((d,.int .u8 (a:Int))::E) w):Ops P r N all K (⟨some d,.convert s t x,t',pos,af,none⟩::rest) D E w :=
 uS hd hs ht hx (IntWalk.u8_in _ (by omega)) h
theorem ops_toi {d:Nat}{x:Operand}{s t t':TypeId}{pos:String}{af:Array Edge}{k':IntKind}{sd:TypeDesc}{a:Nat}(hd:Nat.blt d N=true)
  (hs:P.underlying s=some sd) (ht:P.underlying t=some (.int .i64)) (hx:ev E x=some (.int k' (a:Int))) (ha:a<9223372036854775808)
  (h:Ops P r N all K rest D ((d,.int .i64 (a:Int))::E) w):Ops P r N all K (⟨some d,.convert s t x,t',pos,af,none⟩::rest) D E w :=
 uS hd hs ht hx (IntWalk.i64_in _ (by omega)) h
theorem ops_len8 {d:Nat}{x ix:Operand}{t t':TypeId}{pos:String}{af:Array Edge}{s:ByteArray}{j:Nat}(hd:Nat.blt d N=true)(ht:P.underlying t=some .string)(hx:ev E x=some (.string s))
  (hs:((List.range 256).all fun j=>(s[j]?.map (·.toNat)) == some (yU j))=true) (hi:ev E ix=some (.int .u8 (j:Int))) (hj:j<256)
  (h:yU j<33→Ops P r N all K rest D ((d,.int .u8 ((yU j:Nat):Int))::E) w):Ops P r N all K (⟨some d,.index t x ix,t',pos,af,none⟩::rest) D E w :=
 yB hd (by intro c hc;cases hc) (fun a ha=>by
  have h1:=zaC.1 hs j (zbq.2 hj);rw[beq_iff_eq] at h1;cases hb:s[j]? with
  | none=>rw[hb] at h1;cases h1
  | some b =>
   rw[hb] at h1;injection h1 with h1;have e1:(Instr.index t (.string s) (.int .u8 (j:Int))).run P w = .ok (.int .u8 (b.toNat:Int)) w:=by
    simp[Instr.index,asIntOf,run_underlying ht,Result.andThen,hb]
   simp only[execOp,ha.ev hx,ha.ev hi,Sem.run_bind,e1,Result.andThen,h1];rfl) (h (qI (by omega)))
end ops
theorem kara_mid (a b c d:Nat):(a+b)*(c+d)-(a*c+b*d)=a*d+b*c:=by
 rw[zaQ,zap,zap];omega
theorem kara (a b c d B:Nat):a*c+(B*(a*d+b*c)+B*B*(b*d))=(a+B*b)*(c+B*d):=by
 simp only[zaQ,zap,zau,zcg,zat];omega
theorem add_lt_pow {a b k:Nat}(ha:a<4294967296^k)(hb:b<4294967296^k):a+b<4294967296^(k+1):=by
 rw[zax];omega
theorem bitsN_eq_zero {n:Nat}:yU n=0↔n=0:=by
 unfold yU;split
 ·simp[*]
 ·simp[*]
theorem cntN_nat {k m:Nat}(h:k≤m):cntN (k:Int) (m:Int)=k:=by unfold cntN;omega
section strct
variable {P : Program} {r : Option Nat} {N : Nat} {all : Array Oper} {K : Pd} {D : List Deferred} {E : Env} {w : World} {rest : List Oper}
theorem rY {d:Nat}{x:Operand}{t':TypeId}{pos:String}{af:Array Edge}{ad:Addr}(hd:Nat.blt d N=true)(hx:ev E x=some (.pointer (some ad)))
  (h:Ops P r N all K rest D ((d,.pointer (some ad))::E) w):Ops P r N all K (⟨some d,.nilCheck x,t',pos,af,none⟩::rest) D E w :=
 yB hd (by intro c hc;cases hc) (fun ac ha=>by simp only[execOp,ha.ev hx];rfl) h
theorem run_fieldAt {s:TypeId}{f:Nat}{fields:Array Field}{fd:Field}{b o sz bytes:Nat}{z:Value}(hs:P.underlying s=some (.struct fields))(hf:fields[f]? = some fd)(hz:Sz P fd.type sz bytes z)(h0:Nat.beq sz 0=false)(w:World) :
  (Instr.fieldAt s (.pointer (some ⟨b,o,none⟩)) f).run P w = .ok (.pointer (some ⟨b,o+fd.offset,none⟩)) w:=by
 have h0':sz≠0:=zby h0;have hf':=hf;simp[Instr.fieldAt,run_underlying hs,Instr.sureAddr,fieldPlace,xK hz,Result.andThen,hf',h0',xV]
theorem uN {d:Nat}{x:Operand}{s t':TypeId}{pos:String}{af:Array Edge}{f:Nat}{fields:Array Field}{fd:Field}{b o sz bytes:Nat}{z:Value}(k:Nat)(hd:Nat.blt d N=true)
  (hs:P.underlying s=some (.struct fields)) (hf:fields[f]? = some fd) (hk:fd.offset=k) (hz:Sz P fd.type sz bytes z) (h0:Nat.beq sz 0=false) (hx:ev E x=some (.pointer (some ⟨b,o,none⟩)))
  (h:Ops P r N all K rest D ((d,.pointer (some ⟨b,o+k,none⟩))::E) w):Ops P r N all K (⟨some d,.fieldAddr s x f,t',pos,af,none⟩::rest) D E w :=
 yB hd (by intro c hc;cases hc) (fun ac ha=>by
  subst hk;simp only[execOp,ha.ev hx,Sem.run_bind,run_fieldAt hs hf hz h0 w,Result.andThen];rfl) h
def Plc (P:Program)(t:TypeId)(szs:List Nat):Prop:=∃ fields it z places,P.underlying t=some (.struct fields)∧P.info? t=some it∧it.zero=some z∧z.cells.size=szs.sum ∧
 fields.toList.mapM (fun f=>(P.info? f.type).map fun i=>(f.offset,i.size))=some places∧∀ i,i<szs.length→places[i]? = some ((szs.take i).sum,szs.getD i 0)
def plcs (szs:List Nat):List (Nat×Nat):=(List.range szs.length).map fun i=>((szs.take i).sum,szs.getD i 0)
def plcB (P:Program)(t:TypeId)(szs:List Nat):Bool:=match P.underlying t,P.info? t with
 | some (.struct fields),some it=>match it.zero with
  | some z=>Nat.beq z.cells.size szs.sum&&decide (fields.toList.mapM (fun f=>(P.info? f.type).map fun i=>(f.offset,i.size))=some (plcs szs))
  | none=>false
 | _,_=>false
theorem uF {P:Program}{t:TypeId}{szs:List Nat}(h:plcB P t szs=true):Plc P t szs:=by
 unfold plcB at h;split at h;case h_1 fields it h1 h2 =>
  split at h;case h_1 z h3 =>
   simp only[zaq,decide_eq_true_eq] at h;refine⟨fields,it,z,plcs szs,h1,h2,h3,zaj h.1,h.2,fun i hi=>?_⟩;simp[plcs,zbQ,zcG hi]
  case h_2=>cases h
 case h_2=>cases h
def Cls:List Value→List (List Value)→Prop
 | [],[]=>True
 | v::vs,c::cs=>v.cells=c.toArray∧Cls vs cs
 | _,_=>False
theorem take_mid {α:Type}(a b:List α)(u:α)(k:Nat)(h:a.length=k):(a++u::b).take (k+1)=a++[u]:=by
 subst h;rw[zcx,zaz (by omega)];simp
theorem drop_mid {α:Type}(a b:List α)(u:α)(k m:Nat)(h:a.length=k):(a++u::b).drop (k+1+m)=b.drop m:=by
 subst h;rw[List.drop_append];simp[zaO,Nat.add_comm 1 m]
theorem iY:∀(c arr:List Value) (p n:Nat),p+n+c.length≤arr.length →
  (c.zipIdx n).foldl (fun(cs:Array Value) (x:Value×Nat)=>cs.setIfInBounds (p+x.2) x.1) arr.toArray=(arr.take (p+n)++c++arr.drop (p+n+c.length)).toArray
 | [],arr,p,n,h=>by simp
 | u::c,arr,p,n,h=>by
  simp only[zaw] at h;have e1:arr.toArray.setIfInBounds (p+n) u=(arr.set (p+n) u).toArray:=by simp
  rw[List.zipIdx_cons,List.foldl_cons,e1,iY c (arr.set (p+n) u) p (n+1) (by simp;omega)];have e2:arr.set (p+n) u=arr.take (p+n)++u::arr.drop (p+n+1):=by rw[List.set_eq_take_append_cons_drop,if_pos (by omega)]
  have hl:(arr.take (p+n)).length=p+n:=by simp;omega
  rw[e2,show p+(n+1)=(p+n)+1 from rfl,take_mid _ _ _ _ hl,drop_mid _ _ _ _ _ hl,zbW];simp[zaO,Nat.add_comm 1]
theorem mT {places:List (Nat×Nat)}:∀(vs:List Value) (cs:List (List Value)) (pre old:List Value) (k:Nat),Cls vs cs→(∀ i,i<cs.length→places[k+i]? = some (pre.length+((cs.take i).map List.length).sum,(cs.getD i []).length))→old.length=(cs.map List.length).sum →
  Instr.fill (places.toArray[·]?) (pre++old).toArray ((vs.zipIdx k).map fun x=>(x.2,x.1))=some (pre++cs.flatten).toArray
 | [],[],pre,old,k,_,_,ho=>by
  have:old=[]:=by simpa using ho
  subst this;simp[Instr.fill]
 | [],_::_,_,_,_,h,_,_=>h.elim
 | _::_,[],_,_,_,h,_,_=>h.elim
 | v::vs,c::cs,pre,old,k,⟨h1,h2⟩,hp,ho=>by
  have hp0:=hp 0 (by simp);simp at hp0;simp at ho;have ih:=mT vs cs (pre++c) (old.drop c.length) (k+1) h2 (fun i hi=>by
   have:=hp (i+1) (by simp;omega);rw[show k+1+i=k+(i+1) by omega,this];simp;omega) (by simp;omega)
  simp only[List.zipIdx_cons,zaG,Instr.fill];have e0:places.toArray[k]? = some (pre.length,c.length):=by simpa using hp0
  simp only[e0];rw[if_neg (by rw[h1];simp;omega)];have e:(v.cells.zipIdx.foldl (fun(cs:Array Value) (x:Value×Nat)=>cs.setIfInBounds (pre.length+x.2) x.1) (pre++old).toArray)=(pre++c++old.drop c.length).toArray:=by
   rw[h1];have hle:c.length≤old.length:=by omega
   have:=iY c (pre++old) pre.length 0 (by simp;omega);have e4:c.toArray.zipIdx=(c.zipIdx 0).toArray:=by simp
   rw[e4,List.foldl_toArray,this];simp[List.drop_append]
  rw[e,ih];simp
theorem ops_build {d:Nat}{t t':TypeId}{pos:String}{af:Array Edge}{szs:List Nat}{parts:Array (Nat×Operand)}{vs:List Value}{cs:List (List Value)}(hd:Nat.blt d N=true)
  (ht:Plc P t szs) (hi:parts.toList.map (·.1)=List.range szs.length) (hx:evs E (parts.toList.map (·.2))=some vs) (hc:Cls vs cs) (hsz:cs.map List.length=szs)
  (h:Ops P r N all K rest D ((d,.agg cs.flatten.toArray)::E) w):Ops P r N all K (⟨some d,.build t parts,t',pos,af,none⟩::rest) D E w:=by
 refine yB hd (by intro c hc;cases hc) (fun a ha=>?_) h;obtain⟨fields,it,z,places,p1,p2,p3,p4,p5,p6⟩:=ht;have hlen:∀(vs:List Value) (cs:List (List Value)),Cls vs cs→vs.length=cs.length:=by
  intro vs
  induction vs with
  | nil=>intro cs h;cases cs with
   | nil=>rfl
   | cons=>exact h.elim
  | cons v vs ih=>intro cs h;cases cs with
   | nil=>exact h.elim
   | cons c cs=>simp[ih cs h.2]
 have hparts:parts.toList.map (fun x=>(x.1,a.eval x.2))=vs.zipIdx.map fun x=>(x.2,x.1):=by
  have h3:=ha.evs hx;have hl:=hlen _ _ hc;apply List.ext_getElem
  ·have h2:=congrArg List.length hi;have h4:=congrArg List.length hsz;simp at h2 h4;simp;omega
  ·intro n hn1 hn2;simp at hn1 hn2;have e1:(parts.toList.map (·.1))[n]'(by simpa using hn1)=n:=by simp[hi]
   have e2:((parts.toList.map (·.2)).map a.eval)[n]'(by simpa using hn1)=vs[n]'(by omega):=by simp[h3]
   simp at e1 e2;simp[e1,e2]
 have hf:=mT (places:=places) vs cs [] z.cells.toList 0 hc (fun i hi=>by
  have h4:=congrArg List.length hsz;simp at h4;have:=p6 i (by omega);rw[Nat.zero_add,this,← hsz];simp[List.map_take,List.getD_eq_getElem?_getD,List.getElem?_map,List.getElem?_eq_getElem hi]) (by rw[hsz];simpa using p4)
 have e1:(Instr.build t (parts.map fun(i,x)=>(i,a.eval x))).run P w = .ok (.agg cs.flatten.toArray) w:=by
  refine run_build (P:=P) w t _ _ ?_;unfold Program.built;rw[p2,p1];simp only[p3,p5];rw[Array.toList_map,show (List.map (fun(x:Nat×Operand)=>match x with | (i,x)=>(i,a.eval x)) parts.toList)=vs.zipIdx.map fun x=>(x.2,x.1) from hparts];simpa using hf
 simp only[execOp,Sem.run_bind,e1,Result.andThen];rfl
theorem ops_add64 {d:Nat}{f:FuncId}{xs:List Operand}{ts:Array TypeId}{t':TypeId}{pos:String}{af:Array Edge}{fn:Func}{a b c:Nat}(hd:Nat.blt d N=true)
    (hf:P.funcs[f]? = some fn) (hname:(fn.name == "runtime.NumGoroutine")=false) (hb:fn.body.isNone=true) (hn:Extern.findNext fn=none) (he:Extern.find fn=some add64Entry)
    (hxs:evs E xs=some [.int .u64 (a:Int),.int .u64 (b:Int),.int .u64 (c:Int)]) (hc:c≤1)
    (h:Ops P r N all K rest D ((d,.tuple #[.int .u64 (((a+b+c)%18446744073709551616:Nat):Int),.int .u64 (((a+b+c)/18446744073709551616:Nat):Int)])::E) w) :
    Ops P r N all K (⟨some d,.call ⟨.value (.func f),xs.toArray,ts⟩,t',pos,af,none⟩::rest) D E w :=
  yB hd (by intro c hc;cases hc) (fun ac ha=>by
    have e1:(xs.toArray.map ac.eval)=#[.int .u64 (a:Int),.int .u64 (b:Int),.int .u64 (c:Int)]:=by rw[zbL,ha.evs hxs]
    have e2:=run_callFunc_extern (P:=P) hf hname hb hn he #[.int .u64 (a:Int),.int .u64 (b:Int),.int .u64 (c:Int)] w;rw[run_add64 (a:Int) b c (by omega) (by omega) (by omega) (by omega)] at e2;have e3:ac.eval (.func f) = .func (.func f) #[] #[]:=rfl;simp only[execOp,resolve,e1,e3,Deferred.ofValue,Sem.run_bind,Sem.run_pure,Result.andThen,invoke];simp only[Result.andThen] at e2;simp only[Array.empty_append,Array.append_empty,e2];rfl) h
end strct
theorem load_blk {P:Program}{w:World}{t te:TypeId}{b i:Nat}{cs:List Value}{u:Value}(ht:Flat P t)(hb:Blk w b te cs)(hu:cs[i]? = some u):(loadVar t ⟨b,i,none⟩).run P w = .ok u w:=by
 have:w.cell? ⟨b,i,none⟩=some u:=by rw[hb.cell];exact hu
 simp[loadVar,ht w,this]
theorem rO {α:Type}{f:Nat→α}{n:Nat}{pre post:List α}{x:α}(h:(List.range n).map f=pre++x::post):pre.length<n∧x=f pre.length:=by
 have hl:=congrArg List.length h;simp at hl;have hx:=congrArg (fun l=>l[pre.length]?) h;simp[zbQ,zcG (show pre.length<n by omega)] at hx;exact⟨by omega,hx.symm⟩
theorem oK {α:Type}(f:Nat→α){n k:Nat}(h:k<n):∃ post,(List.range n).map f=(List.range k).map f++f k::post:=by
 obtain⟨m,rfl⟩:∃ m,n=k+1+m:=⟨n-(k+1),by omega⟩;exact⟨((List.range m).map (k+1 + ·)).map f,by rw[List.range_add,zbv];simp⟩
theorem dK {α:Type}(f:Nat→α)(k:Nat):(List.range (k+1)).map f=(List.range k).map f++[f k]:=by rw[zbv];simp
theorem yL4 {v:Value}(h:v.oneCell'=true):v.cells=[v].toArray:=by cases v<;>first | rfl | simp[Value.oneCell'] at h
def ExtF (P:Program) (f:FuncId) (e:Array Value→Sem Value):Prop:=∃ fn,P.funcs[f]? = some fn∧(fn.name == "runtime.NumGoroutine")=false∧fn.body.isNone=true∧Extern.findNext fn=none∧Extern.find fn=some e
theorem ops_add64' {P:Program}{r:Option Nat}{N:Nat}{all:Array Oper}{K:Pd}{D:List Deferred}{E:Env}{w:World}{rest:List Oper}{d:Nat}{f:FuncId}{xs:List Operand}{ts:Array TypeId}{t':TypeId}{pos:String}{af:Array Edge}{a b c:Nat}(hd:Nat.blt d N=true)
  (hf:ExtF P f add64Entry) (hxs:evs E xs=some [.int .u64 (a:Int),.int .u64 (b:Int),.int .u64 (c:Int)]) (hc:c≤1)
  (h:Ops P r N all K rest D ((d,.tuple #[.int .u64 (((a+b+c)%18446744073709551616:Nat):Int),.int .u64 (((a+b+c)/18446744073709551616:Nat):Int)])::E) w) :
  Ops P r N all K (⟨some d,.call ⟨.value (.func f),xs.toArray,ts⟩,t',pos,af,none⟩::rest) D E w:=by
 obtain⟨fn,h1,h2,h3,h4,h5⟩:=hf;exact ops_add64 hd h1 h2 h3 h4 h5 hxs hc h
theorem short_step {i H n o x T:Nat}(hn:0<n)(hx:x<4294967296)(ho:o=H%n)(hT:T=4294967296^(i+1)*(H/n)) :
  T+4294967296^i*((o*4294967296+x)/n)=4294967296^i*((x+4294967296*H)/n)∧(o*4294967296+x)%n=(x+4294967296*H)%n∧(o*4294967296+x)/n<4294967296:=by
 have hon:o<n:=by rw[ho];exact zaH _ hn
 have e:x+4294967296*H=(o*4294967296+x)+n*(4294967296*(H/n)):=by
  have h1:=zbz H n;rw[← ho] at h1;have h2:4294967296*H=4294967296*(n*(H/n))+4294967296*o:=by rw[← zap,h1]
  rw[h2,zcg];omega
 refine⟨?_,?_,?_⟩
 ·rw[e,Nat.add_mul_div_left _ _ hn,hT,zax,zap,zau];omega
 ·rw[e,Nat.add_mul_mod_self_left]
 ·rw[Nat.div_lt_iff_lt_mul hn];have:(o+1)*4294967296≤n*4294967296:=zaU _ hon;rw[zat 4294967296 n];omega
theorem lG (n:Nat):n &&& 4294967295=n%4294967296:=Nat.and_two_pow_sub_one_eq_mod n 32
theorem less_step {zs:List Nat}{R p i o o' u u' x m y old lo Y:Nat}(hz:p+i<zs.length)(h:val zs+4294967296^p*(m*Y)=R+4294967296^(p+i)*(o+u))(hlo:x*m+o=lo+4294967296*o')
  (hy:y+lo+u=old+4294967296*u') (hold:zs.getD (p+i) 0=old):val (zs.set (p+i) y)+4294967296^p*(m*(Y+4294967296^i*x))=R+4294967296^(p+(i+1))*(o'+u'):=by
 have hv:=aF (zs:=zs) (j:=p+i) y hz;rw[hold] at hv;have e1:4294967296^p*(m*(Y+4294967296^i*x))=4294967296^p*(m*Y)+4294967296^(p+i)*(x*m):=by
  rw[zap,zap,zaJ,zau,zcg m,zat m x]
 have e2:4294967296^(p+(i+1))*(o'+u')=4294967296^(p+i)*(4294967296*(o'+u')):=by rw[show p+(i+1)=(p+i)+1 from rfl,zax,zau]
 rw[e1,e2];generalize 4294967296^(p+i)=Q at *;have e3:Q*(o+u)+Q*y+Q*(x*m)=Q*old+Q*(4294967296*(o'+u')):=by rw[← zap,← zap,← zap];congr 1;omega
 omega
theorem more_step {zs:List Nat}{R p i o O x old Y:Nat}(hz:p+i<zs.length)(h:val zs+4294967296^(p+i)*o=R+4294967296^p*Y)(hO:O=o+x+old)(hold:zs.getD (p+i) 0=old) :
  val (zs.set (p+i) (O%4294967296))+4294967296^(p+(i+1))*(O/4294967296)=R+4294967296^p*(Y+4294967296^i*x):=by
 have hv:=aF (zs:=zs) (j:=p+i) (O%4294967296) hz;rw[hold] at hv;have e1:4294967296^p*(Y+4294967296^i*x)=4294967296^p*Y+4294967296^(p+i)*x:=by rw[zap,zaJ,zau]
 have e2:4294967296^(p+(i+1))*(O/4294967296)=4294967296^(p+i)*(4294967296*(O/4294967296)):=by rw[show p+(i+1)=(p+i)+1 from rfl,zax,zau]
 rw[e1,e2];generalize 4294967296^(p+i)=Q at *;have e3:Q*(O%4294967296)+Q*(4294967296*(O/4294967296))=Q*o+Q*x+Q*old:=by rw[← zap,← zap,← zap];congr 1;omega
 omega
theorem val_high {zs:List Nat}{n:Nat}(h:∀ z∈zs,z<4294967296)(hz:∀ j,n≤j→zs.getD j 0=0):val zs<4294967296^n:=by
 rw[← dD hz];have h1:=yJ (zs.take n) (fun z hm=>h z (zbc hm));exact zan h1 (zbj (by omega) (by simp;omega))
theorem tR {zs:List Nat}{n:Nat}(hz:∀ j,n<j→zs.getD j 0=0):val zs=val (zs.take n)+4294967296^n*zs.getD n 0:=by
 rw[← yS,dD (fun j hj=>hz j (by omega))]
theorem guess_ok {zs ys:List Nat}{p:Nat}(hzl:∀ z∈zs,z<4294967296)(hz:∀ j,p+ys.length<j→zs.getD j 0=0)(hS:val zs<4294967296^(p+1)*val ys)(hy:0<ys.length)(ht:0<ys.getD (ys.length-1) 0) :
  val zs<4294967296^p*val ys*(min ((zs.getD (p+ys.length) 0*4294967296+zs.getD (p+ys.length-1) 0)/ys.getD (ys.length-1) 0) 4294967295+1):=by
 rcases Nat.le_total ((zs.getD (p+ys.length) 0*4294967296+zs.getD (p+ys.length-1) 0)/ys.getD (ys.length-1) 0) 4294967295 with h | h
 ·rw[zaS h];generalize hT:zs.getD (p+ys.length) 0*4294967296+zs.getD (p+ys.length-1) 0=T at *;generalize hv:ys.getD (ys.length-1) 0=v at *;obtain⟨n,hn⟩:∃ n,ys.length=n+1:=⟨ys.length-1,by omega⟩;have e1:val zs=val (zs.take (p+n))+4294967296^(p+n)*T:=by
   rw[tR hz,hn,show p+(n+1)=(p+n)+1 from rfl,yS,← hT,hn,show p+(n+1)-1=p+n by omega,zax,zap,show p+(n+1)=(p+n)+1 from rfl,zau,zat (zs.getD (p+n+1) 0)];omega
  have h2:val (zs.take (p+n))<4294967296^(p+n):=by
   have:=yJ (zs.take (p+n)) (fun z hm=>hzl z (zbc hm));exact zan this (zbj (by omega) (by simp;omega))
  have h3:T+1≤v*(T/v+1):=Nat.lt_mul_div_succ T ht;have h4:4294967296^n*v≤val ys:=by
   have e:val ys=val (ys.take n)+4294967296^n*v:=by
    rw[tR (zs:=ys) (n:=n) (fun j hj=>yR (by omega)),← hv,hn,Nat.add_sub_cancel]
   omega
  have h5:val zs<4294967296^(p+n)*(T+1):=by rw[e1,zap];omega
  refine zan h5 ?_
  calc 4294967296^(p+n)*(T+1)≤4294967296^(p+n)*(v*(T/v+1)):=zbo _ h3
   _=4294967296^p*(4294967296^n*v)*(T/v+1):=by rw[zaJ];simp only[zau]
   _≤4294967296^p*val ys*(T/v+1):=zaU _ (zbo _ h4)
 ·rw[Nat.min_eq_right h];rw[zax,zbV] at hS;exact hS
theorem sW {S D q z:Nat}(h:z+D*q=S)(h2:S<D*(q+1)):q=S/D∧z=S%D:=by
 have hD:0<D:=zaW fun e=>by subst e;simp at h2
 have hz:z<D:=by rw[zap] at h2;omega
 rw[← h,Nat.add_mul_div_left _ _ hD,zcw hz,Nat.add_mul_mod_self_left,zao hz];omega
theorem high_zero {zs:List Nat}{n:Nat}(h:val zs<4294967296^n):∀ j,n≤j→zs.getD j 0=0:=fun j hj=>Classical.byContradiction fun c=>by
 have h1:=lJ zs j c;have h2:(4294967296:Nat)^n≤4294967296^j:=zbj (by omega) hj;omega
theorem cD {n k:Nat}(h:4294967296^k≤n):k<(limbs n).length:=by
 have h1:=yJ (limbs n) (yF n);rw[zI] at h1;exact(Nat.pow_lt_pow_iff_right (by omega)).1 (zbr h h1)
theorem kJ {n:Nat}(h:n≠0):4294967296^((limbs n).length-1)≤n:=by
 have hne:limbs n≠[]:=fun e=>h (jC.1 e);have:=lJ (limbs n) _ (cF hne);rwa [zI] at this
theorem norm_by {Y k:Nat}(hY:Y≠0)(hk:k+yU ((limbs Y).getD ((limbs Y).length-1) 0)=32):(limbs (Y*2^k)).length=(limbs Y).length∧0<(limbs (Y*2^k)).getD ((limbs (Y*2^k)).length-1) 0:=by
 have hne:limbs Y≠[]:=fun e=>hY (jC.1 e);have hlp:0<(limbs Y).length:=List.length_pos_iff.2 hne;have hYk:Y*2^k≠0:=Nat.mul_ne_zero hY (Nat.ne_of_gt (yK k));have hb:=bits_limbs hne;have h1:yU (Y*2^k)=32*(limbs Y).length:=by rw[mV _ (zaW hY),hb];omega
 have h2:Y*2^k<4294967296^(limbs Y).length:=by rw[eF,← h1];exact pY _
 have h3:=zS h2;have h4:4294967296^((limbs Y).length-1)≤Y*2^k:=zac (kJ hY) (zci _ (yK k));have h5:=cD h4;exact⟨by omega,zaW (cF (fun e=>hYk (jC.1 e)))⟩
theorem up_lens {X k:Nat}(hX:X≠0)(hk:k<32):(limbs X).length≤(limbs (X*2^k)).length∧(limbs (X*2^k)).length≤(limbs X).length+1:=by
 have hne:limbs X≠[]:=fun e=>hX (jC.1 e);have hlp:0<(limbs X).length:=List.length_pos_iff.2 hne;have h1:=cD (zac (kJ hX) (zci X (yK k)));have h2:X*2^k<4294967296^((limbs X).length+1):=by
  have h3:=yJ (limbs X) (yF X);rw[zI] at h3;have h4:2^k≤4294967296:=bO (by omega)
  calc X*2^k≤X*4294967296:=zbo _ h4
   _<4294967296^(limbs X).length*4294967296:=(Nat.mul_lt_mul_right (by omega)).2 h3
   _=_:=(zax _ _).symm
 exact⟨by omega,zS h2⟩
theorem div_room {X Y k m:Nat}(hY:Y≠0)(hm:m+(limbs Y).length=(limbs X).length+1):X*2^k<4294967296^m*(Y*2^k):=by
 have hne:limbs Y≠[]:=fun e=>hY (jC.1 e);have hlp:0<(limbs Y).length:=List.length_pos_iff.2 hne;have h1:=yJ (limbs X) (yF X);rw[zI] at h1;rw[← zau];refine(Nat.mul_lt_mul_right (yK k)).2 (zan h1 ?_)
 calc 4294967296^(limbs X).length=4294967296^m*4294967296^((limbs Y).length-1):=by rw[← zaJ];congr 1;omega
  _≤_:=zbo _ (kJ hY)
theorem val_digits {N:Nat}:∀ {zs:List Nat} {m:Nat},zs.length=m→(∀ i,i<m→zs.getD i 0=N/4294967296^i%4294967296)→val zs=N%4294967296^m:=by
 intro zs m hl h;have key:∀ k,k≤m→val (zs.take k)=N%4294967296^k:=by
  intro k
  induction k with
  | zero=>intro _;simp[val,Nat.mod_one]
  | succ k ih =>
   intro hk;rw[yS,ih (by omega),h k (by omega),zax,Nat.mod_mul]
 have:=key m (zab _);rwa [zaz (by omega)] at this
theorem quot_digits {A V m:Nat}{zs:List Nat}(hl:zs.length=m)(hV:0<V)(hA:A<4294967296^m*V)(h:∀ j,j<m→zs.getD (m-j-1) 0=A/(4294967296^(m-j-1)*V)%4294967296):val zs=A/V:=by
 rw[val_digits (N:=A/V) hl (fun i hi=>by
  have:=h (m-i-1) (by omega);rw[show m-(m-i-1)-1=i by omega] at this;rw[this,zcO,zat V])]
 exact zao ((Nat.div_lt_iff_lt_mul hV).2 hA)
theorem rest_down {X Y k:Nat}(hY:0<Y):X*2^k%(Y*2^k)/2^k=X%Y:=by
 rw[Nat.mul_mod_mul_right,Nat.mul_div_cancel _ (yK k)]
theorem zX {a b:Nat}(h:a≤b):(limbs a).length≤(limbs b).length:=by
 rcases zbi a with h0 | h0
 ·subst h0;rw[yG];exact zaD _
 ·have h1:=cD (zac (kJ (Nat.ne_of_gt h0)) h);omega
end Go.SL
namespace Go.Proofs.YtalkinejknjidaaGreatDoor
open Go.SL Go.RowKit Go.Proofs Tryz
theorem xD {P:Program}{t:TypeId}{n m:Nat}{z:Value}(h:(P.info? t).map (fun i=>(i.zero,i.size,i.bytes))=some (some z,n,m)):Sz P t n m z:=by
  obtain⟨i,h1,h2,h3,h4⟩:=info_parts h;exact⟨i,h1,h3,h4,h2⟩
theorem sz3:Sz prog 3 1 8 (.int .i64 0):=xD (by kernel_rfl)
theorem yK4:Flat prog 3:=xA underlying3 rfl
theorem sz4:Sz prog 4 1 1 (.bool false):=xD (by kernel_rfl)
theorem yS0:Flat prog 4:=xA underlying4 rfl
theorem sz5:Sz prog 5 1 1 (.int .u8 0):=xD (by kernel_rfl)
theorem flat5:Flat prog 5:=xA underlying5 rfl
theorem sz22:Sz prog 22 1 24 (.slice none 0 0):=xD (by kernel_rfl)
theorem flat22:Flat prog 22:=xA underlying22 rfl
theorem sz25:Sz prog 25 1 24 (.slice none 0 0):=xD (by kernel_rfl)
theorem pR:Flat prog 25:=xA underlying25 rfl
theorem sz27:Sz prog 27 2 32 (.agg #[(.bool false),(.slice none 0 0)]):=xD (by kernel_rfl)
theorem plc27:Plc prog 27 [1,1]:=uF (by kernel_rfl)
theorem zP9:Fold prog 27:=gP underlying27 rfl
theorem sz29:Sz prog 29 3 56 (.agg #[(.bool false),(.slice none 0 0),(.slice none 0 0)]):=xD (by kernel_rfl)
theorem plc29:Plc prog 29 [2,1]:=uF (by kernel_rfl)
theorem iA:Fold prog 29:=gP underlying29 rfl
theorem sz30:Sz prog 30 1 24 (.slice none 0 0):=xD (by kernel_rfl)
theorem flat30:Flat prog 30:=xA underlying30 rfl
theorem sz39:Sz prog 39 6 112 (.agg #[(.bool false),(.slice none 0 0),(.slice none 0 0),(.bool false),(.slice none 0 0),(.slice none 0 0)]):=xD (by kernel_rfl)
theorem plc39:Plc prog 39 [3,3]:=uF (by kernel_rfl)
theorem kX:Fold prog 39:=gP underlying39 rfl
theorem sz41:Sz prog 41 12 224 (.agg #[(.bool false),(.slice none 0 0),(.slice none 0 0),(.bool false),(.slice none 0 0),(.slice none 0 0),(.bool false),(.slice none 0 0),(.slice none 0 0),(.bool false),(.slice none 0 0),(.slice none 0 0)]):=xD (by kernel_rfl)
theorem plc41:Plc prog 41 [6,6]:=uF (by kernel_rfl)
theorem yJ9:Fold prog 41:=gP underlying41 rfl
theorem sz43:Sz prog 43 1 24 (.slice none 0 0):=xD (by kernel_rfl)
theorem yK3:Flat prog 43:=xA underlying43 rfl
theorem sz45:Sz prog 45 1 24 (.slice none 0 0):=xD (by kernel_rfl)
theorem flat45:Flat prog 45:=xA underlying45 rfl
theorem sz47:Sz prog 47 1 24 (.slice none 0 0):=xD (by kernel_rfl)
theorem yK2:Flat prog 47:=xA underlying47 rfl
theorem sz49:Sz prog 49 1 24 (.slice none 0 0):=xD (by kernel_rfl)
theorem flat49:Flat prog 49:=xA underlying49 rfl
theorem sz55:Sz prog 55 6 112 (.agg #[(.bool false),(.slice none 0 0),(.slice none 0 0),(.bool false),(.slice none 0 0),(.slice none 0 0)]):=xD (by kernel_rfl)
theorem plc55:Plc prog 55 [3,3]:=uF (by kernel_rfl)
theorem yJ8:Fold prog 55:=gP underlying55 rfl
theorem sz56:Sz prog 56 1 8 .nilFunc:=xD (by kernel_rfl)
theorem flat56:Flat prog 56:=xA underlying56 rfl
theorem sz57:Sz prog 57 1 8 .nilFunc:=xD (by kernel_rfl)
theorem flat57:Flat prog 57:=xA underlying57 rfl
theorem sz62:Sz prog 62 1 24 (.slice none 0 0):=xD (by kernel_rfl)
theorem yK1:Flat prog 62:=xA underlying62 rfl
theorem sz63:Sz prog 63 1 24 (.slice none 0 0):=xD (by kernel_rfl)
theorem yK0:Flat prog 63:=xA underlying63 rfl
theorem sz65:Sz prog 65 16 320 (.agg #[(.bool false),(.slice none 0 0),(.slice none 0 0),(.bool false),(.slice none 0 0),(.slice none 0 0),(.bool false),(.slice none 0 0),(.slice none 0 0),(.bool false),(.slice none 0 0),(.slice none 0 0),(.slice none 0 0),(.slice none 0 0),(.slice none 0 0),(.slice none 0 0)]):=xD (by kernel_rfl)
theorem fold65:Fold prog 65:=gP underlying65 rfl
theorem sz83:Sz prog 83 1 1 (.int .i8 0):=xD (by kernel_rfl)
theorem zQ0:Flat prog 83:=xA underlying83 rfl
theorem sz85:Sz prog 85 9 136 (.agg #[(.int .i8 0),(.int .i64 0),(.int .i64 0),(.bool false),(.slice none 0 0),(.slice none 0 0),(.bool false),(.slice none 0 0),(.slice none 0 0)]):=xD (by kernel_rfl)
theorem plc85:Plc prog 85 [1,1,1,6]:=uF (by kernel_rfl)
theorem fold85:Fold prog 85:=gP underlying85 rfl
theorem yD8:Sz prog 100 18 336 (.agg #[(.bool false),(.slice none 0 0),(.slice none 0 0),(.bool false),(.slice none 0 0),(.slice none 0 0),(.bool false),(.slice none 0 0),(.slice none 0 0),(.bool false),(.slice none 0 0),(.slice none 0 0),(.bool false),(.slice none 0 0),(.slice none 0 0),(.bool false),(.slice none 0 0),(.slice none 0 0)]):=xD (by kernel_rfl)
theorem fold100:Fold prog 100:=gP underlying100 rfl
theorem yD7:Sz prog 109 12 224 (.agg #[(.bool false),(.slice none 0 0),(.slice none 0 0),(.bool false),(.slice none 0 0),(.slice none 0 0),(.bool false),(.slice none 0 0),(.slice none 0 0),(.bool false),(.slice none 0 0),(.slice none 0 0)]):=xD (by kernel_rfl)
theorem plc109:Plc prog 109 [6,6]:=uF (by kernel_rfl)
theorem fold109:Fold prog 109:=gP underlying109 rfl
theorem yN3:Sz prog 131 1 8 .nilFunc:=xD (by kernel_rfl)
theorem flat131:Flat prog 131:=xA underlying131 rfl
theorem yD6:Sz prog 155 1 4 (.int .u32 0):=xD (by kernel_rfl)
theorem flat155:Flat prog 155:=xA underlying155 rfl
theorem sz176:Sz prog 176 1 24 (.slice none 0 0):=xD (by kernel_rfl)
theorem flat176:Flat prog 176:=xA underlying176 rfl
theorem yN2:Sz prog 178 13 232 (.agg #[(.int .i8 0),(.bool false),(.slice none 0 0),(.slice none 0 0),(.bool false),(.slice none 0 0),(.slice none 0 0),(.bool false),(.slice none 0 0),(.slice none 0 0),(.bool false),(.slice none 0 0),(.slice none 0 0)]):=xD (by kernel_rfl)
theorem plc178:Plc prog 178 [1,6,6]:=uF (by kernel_rfl)
theorem fold178:Fold prog 178:=gP underlying178 rfl
theorem yN1:Sz prog 185 1 8 (.pointer none):=xD (by kernel_rfl)
theorem flat185:Flat prog 185:=xA underlying185 rfl
theorem plc189:Plc prog 189 [3]:=uF (by kernel_rfl)
theorem yN0:Sz prog 196 1 8 (.int .u64 0):=xD (by kernel_rfl)
theorem flat196:Flat prog 196:=xA underlying196 rfl
theorem yM9:Sz prog 219 1 8 .nilFunc:=xD (by kernel_rfl)
theorem flat219:Flat prog 219:=xA underlying219 rfl
theorem yM8:Sz prog 233 1 8 (.pointer none):=xD (by kernel_rfl)
theorem flat233:Flat prog 233:=xA underlying233 rfl
theorem plc240:Plc prog 240 [2]:=uF (by kernel_rfl)
theorem yM7:Sz prog 277 12 224 (.agg #[(.bool false),(.slice none 0 0),(.slice none 0 0),(.bool false),(.slice none 0 0),(.slice none 0 0),(.bool false),(.slice none 0 0),(.slice none 0 0),(.bool false),(.slice none 0 0),(.slice none 0 0)]):=xD (by kernel_rfl)
theorem plc277:Plc prog 277 [6,6]:=uF (by kernel_rfl)
theorem fold277:Fold prog 277:=gP underlying277 rfl
theorem zT3:Sz prog 303 1 8 (.pointer none):=xD (by kernel_rfl)
theorem nL:Flat prog 303:=xA underlying303 rfl
theorem yD5:Sz prog 304 3 24 (.agg #[(.pointer none),(.pointer none),(.pointer none)]):=xD (by kernel_rfl)
theorem plc304:Plc prog 304 [1,1,1]:=uF (by kernel_rfl)
theorem fold304:Fold prog 304:=gP underlying304 rfl
theorem sz305:Sz prog 305 6 48 (.agg #[(.pointer none),(.pointer none),(.pointer none),(.pointer none),(.pointer none),(.pointer none)]):=xD (by kernel_rfl)
theorem yD4:Sz prog 320 3 24 (.agg #[(.int .i64 0),(.int .i64 0),(.int .i64 0)]):=xD (by kernel_rfl)
theorem fold320:Fold prog 320:=gP underlying320 rfl
theorem sz353:Sz prog 353 1 8 (.pointer none):=xD (by kernel_rfl)
theorem flat353:Flat prog 353:=xA underlying353 rfl
theorem plc355:Plc prog 355 [1,1]:=uF (by kernel_rfl)
theorem bo {f:FuncId} {fn:Func} (h:prog.funcs[f]? = some fn) (k:fn.body.isNone=false∧(fn.name == "runtime.NumGoroutine")=false:=by exact ⟨rfl,by decide⟩):Bod prog f:=⟨fn,h,k⟩
theorem mixed:prog.follows .mixedOrders=true:=by kernel_rfl
end Go.Proofs.YtalkinejknjidaaGreatDoor
namespace Go.SL
open Go Go.RowKit
section
variable {Fz M M' : Nat → Prop} {w w' : World}

end
theorem New.ne {w w':World}{b c:Nat}{o:Obj}(N:New w w' c o)(h:b<w.heap.size):b≠c:=by have:=N.at_;omega
theorem Le.b {M M':Nat→Prop}{w w':World}(h:Le (· < w.heap.size) M w M' w'):Bel w.heap.size w w':=h.below (zab _)
theorem lv1 {P:Program}{E:Env}{w:World}{rs:List ResultVar}{R:Value→World→Prop}{v:Value}(hr:Res P E w rs [v])(h:R v w):Fin P rs R [] E w:=lW ⟨[v],hr,h⟩
section
variable {P : Program} {r : Option Nat} {N : Nat} {ops : Array Oper} {D : List Deferred} {E : Env} {w w0 : World} {Kn Kr : Pd} {Ke : Nat → Pd} {id : Nat}
end
theorem ci (M:Nat→Prop){P:Program}{f:FuncId}{fn:Func}{c:Code}{args:List Value}{w:World}{R:Value→World→Prop}{N:Nat}(hf:P.funcs[f]? = some fn)(hn:fn.ntmps=N)
    (h:∀ Fz:Nat→Prop,Fz=(· < w.heap.size)→FOk Fz w→Le Fz M w M w→Wp P none N c (Fin P fn.results.toList R) (fun _ _ _ _=>False) (Fin P fn.results.toList R) [] (env0 0 args) w) (hb:fn.body=some c:=by rfl) (hN:Nat.ble args.length N=true:=by rfl):CallsV P f args w R:=aM hf hb hn hN (h _ rfl (fun _ h=>h) (Le.refl _ M w))
end Go.SL
namespace Go.Proofs.YtalkinejknjidaaGreatDoor
open Go.SL Go.RowKit Go.Proofs Tryz
section
variable {M : Nat → Prop} {w : World}
end
end Go.Proofs.YtalkinejknjidaaGreatDoor
namespace Go.SL
open Go.RowKit
def tz (x:Nat):Nat:=if h:x%2=1∨x=0 then 0 else tz (x/2)+1
termination_by x
decreasing_by omega
theorem eM:∀(x:Nat),x≠0→x=2^tz x*(x/2^tz x)∧(x/2^tz x)%2=1:=by
 intro x
 induction x using Nat.strongRecOn with
 | _ x ih =>
  intro hx;rw[tz];split
  ·rename_i h;have:x%2=1:=by omega
   simp[this]
  ·rename_i h;obtain⟨h1,h2⟩:=ih (x/2) (by omega) (by omega);have e:x/2^(tz (x/2)+1)=x/2/2^tz (x/2):=by rw[zax,zat,zcO]
   rw[e];refine⟨?_,h2⟩;rw[zax,zbV,← h1];omega
theorem mH {x n:Nat}(hx:x≠0)(h:x<2^n):tz x<n:=by
 obtain⟨h1,h2⟩:=eM x hx;have h3:2^tz x≤x:=by
  conv=>rhs;rw[h1]
  exact zci _ (zaW fun c=>by rw[c] at h2;cases h2)
 exact(Nat.pow_lt_pow_iff_right (by omega)).1 (zbr h3 h)
theorem and_neg {k m n:Nat}(hn:k<n)(hx:2^k*(2*m+1)<2^n):2^k*(2*m+1) &&& (2^n-2^k*(2*m+1))=2^k:=by
 obtain⟨q,rfl⟩:∃ q,n=k+(q+1):=⟨n-k-1,by omega⟩;have hm:m<2^q:=by
  rw[zaJ,zax] at hx;have:=Nat.lt_of_mul_lt_mul_left hx;omega
 have e1:2^(k+(q+1))-2^k*(2*m+1)=2^k*(2*(2^q-(m+1))+1):=by
  rw[zaJ,← Nat.mul_sub,zax];congr 1;omega
 rw[e1];apply Nat.eq_of_testBit_eq;intro i;rw[Nat.testBit_and,Nat.testBit_two_pow_mul,Nat.testBit_two_pow_mul,Nat.testBit_two_pow];rcases zaf i k with hik | hik
 ·simp[Nat.not_le.2 hik];omega
 ·obtain⟨j,rfl⟩:∃ j,i=k+j:=⟨i-k,by omega⟩;simp only[ge_iff_le,Nat.le_add_right,decide_true,Bool.true_and,Nat.add_sub_cancel_left];cases j with
  | zero=>simp[Nat.testBit_zero]
  | succ j =>
   have e2:∀ a,(2*a+1).testBit (j+1)=a.testBit j:=fun a=>by rw[Nat.testBit_succ];congr 1;omega
   rw[e2,e2,Nat.testBit_two_pow_sub_succ hm];have:¬ (k=k+(j+1)):=by omega
   simp only[this,decide_false];cases m.testBit j<;>simp
theorem and_low_bit {x:Nat}(hx0:x≠0)(hx:x<2^64):x &&& (2^64-x)=2^tz x:=by
 obtain⟨h1,h2⟩:=eM x hx0;have hk:=mH hx0 hx;obtain⟨m,hm⟩:∃ m,x/2^tz x=2*m+1:=⟨x/2^tz x/2,by omega⟩;rw[hm] at h1;have h3:=and_neg (k:=tz x) (m:=m) (n:=64) hk (by rw[← h1];exact hx);rw[← h1] at h3;exact h3
def tabL:List Nat:=[0,1,56,2,57,49,28,3,61,58,42,50,38,29,17,4,62,47,59,36,45,43,51,22,53,39,33,30,24,18,12,5,63,55,48,27,60,41,37,16,46,35,44,21,52,32,23,11,54,26,40,15,34,20,31,10,25,14,19,9,13,8,7,6]
def tabV:List Value:=tabL.map fun(x:Nat) => .int .u8 (x:Int)
theorem tab_all:∀ k,k<64→tabL.getD (2^k*285870213051353865%18446744073709551616/288230376151711744) 0=k:=by decide +kernel
theorem yC9 {k:Nat}:2^k*285870213051353865%18446744073709551616/288230376151711744<64:=by omega
def Tab (M:Nat→Prop)(w:World):Prop:=¬ M 0∧Seg w 0 0 tabV
theorem Tab.cell {M:Nat→Prop}{w:World}(h:Tab M w){j:Nat}(hj:j<64):w.cell? ⟨0,j,none⟩=some (.int .u8 ((tabL.getD j 0:Nat):Int)):=by
 have:=h.2.cell (j:=j) (u:=.int .u8 ((tabL.getD j 0:Nat):Int)) (by
  unfold tabV;rw[zbQ,zag (show j<tabL.length from hj)];simp[zah,zag (show j<tabL.length from hj)])
 simpa using this
structure KBlk (M:Nat→Prop)(w:World)(b:Nat)(t:TypeId)(cs:List Value):Prop where
 blk:Blk w b t cs
 not:¬ M b
section ops
variable {P : Program} {r : Option Nat} {N : Nat} {all : Array Oper} {K : Pd} {D : List Deferred} {E : Env} {w : World} {rest : List Oper}
theorem ops_negu {d:Nat}{x:Operand}{t t':TypeId}{pos:String}{af:Array Edge}{a:Nat}(hd:Nat.blt d N=true)(hx:ev E x=some (.int .u64 (a:Int)))(ha:a<18446744073709551616)
  (h:Ops P r N all K rest D ((d,.int .u64 (((18446744073709551616-a)%18446744073709551616:Nat):Int))::E) w):Ops P r N all K (⟨some d,.unOp .neg t x,t',pos,af,none⟩::rest) D E w :=
 yB hd (by intro c hc;cases hc) (fun ac ha'=>by
  have:=bN 0 a (by omega);simp only[zba,Int.natCast_zero,Int.cast_ofNat_Int] at this;simp only[execOp,ha'.ev hx,Op.unary,Op.intArith,this];rfl) h
theorem ops_mulu {d:Nat}{x y:Operand}{tx ty t:TypeId}{pos:String}{af:Array Edge}{a b:Nat}(hd:Nat.blt d N=true)
  (hx:ev E x=some (.int .u64 (a:Int))) (hy:ev E y=some (.int .u64 (b:Int)))
  (h:Ops P r N all K rest D ((d,.int .u64 ((a*b%18446744073709551616:Nat):Int))::E) w):Ops P r N all K (⟨some d,.binOp .mul tx x y ty,t,pos,af,none⟩::rest) D E w :=
 qP hd (.inr (.inr rfl)) hx hy (by have:=aU (a*b);simpa using this) h
theorem ops_idxa {d:Nat}{x ix:Operand}{t e t':TypeId}{pos:String}{af:Array Edge}{n b o bytes:Nat}{z:Value}{k:IntKind}{i:Int}(j:Nat)(hd:Nat.blt d N=true)
  (ht:P.underlying t=some (.array n e)) (he:Sz P e 1 bytes z) (hn:Nat.ble n 1=false) (hx:ev E x=some (.pointer (some ⟨b,o,none⟩))) (hi:ev E ix=some (.int k i)) (hij:i=(j:Int)) (hj:j<n)
  (h:Ops P r N all K rest D ((d,.pointer (some ⟨b,o+j,none⟩))::E) w) :
  Ops P r N all K (⟨some d,.indexAddr t x ix,t',pos,af,none⟩::rest) D E w:=by
 refine yB hd (by intro c hc;cases hc) (fun a ha=>?_) h;have hn':¬ n≤1:=fun c=>by rw[Nat.ble_eq_true_of_le c] at hn;cases hn
 have e1:(Instr.indexAt t (.pointer (some ⟨b,o,none⟩)) (.int k i)).run P w = .ok (.pointer (some ⟨b,o+j,none⟩)) w:=by
  subst hij;simp[Instr.indexAt,asIntOf,run_underlying ht,Result.andThen,xK he,hj,xV,Instr.sureAddr,hn']
 simp only[execOp,ha.ev hx,ha.ev hi,Sem.run_bind,e1,Result.andThen];rfl
end ops
theorem oT (a b:Nat):(a ||| b)%2=1↔a%2=1∨b%2=1:=by
 have h:=Nat.testBit_or a b 0;simp only[Nat.testBit_zero] at h;rcases zbD a with h1 | h1<;>rcases zbD b with h2 | h2<;>simp[h1,h2] at h ⊢ <;> omega
theorem zJ1:∀(k a b c:Nat),a ||| b=2^k*c→∃ a1 b1,a=2^k*a1∧b=2^k*b1∧a1 ||| b1=c
 | 0,a,b,c,h=>⟨a,b,by simp,by simp,by simpa using h⟩
 | k+1,a,b,c,h=>by
  have e:2^(k+1)*c=2*(2^k*c):=by rw[zax];rw[zat (2^k) 2,zau]
  rw[e] at h;have hm:=oT a b;rw[h] at hm;have ha:a%2=0:=by rcases zbD a with h1 | h1;exact h1;have:=hm.2 (.inl h1);omega
  have hb:b%2=0:=by rcases zbD b with h1 | h1;exact h1;have:=hm.2 (.inr h1);omega
  have hh:a/2 ||| b/2=2^k*c:=by
   have:=Nat.or_div_two (a:=a) (b:=b);rw[h] at this;omega
  obtain⟨a1,b1,h1,h2,h3⟩:=zJ1 k (a/2) (b/2) c hh;refine⟨a1,b1,?_,?_,h3⟩
  ·rw[zax,zbV,← h1];omega
  ·rw[zax,zbV,← h2];omega
theorem gO {a b k:Nat}(ha:a%2=1):Nat.gcd a (2^k*b)=Nat.gcd a b:=by
 have h:Nat.Coprime (2^k) a:=Nat.Coprime.pow_left k (by
  show Nat.gcd 2 a=1;rw[Nat.gcd_rec,ha];rfl)
 exact Nat.Coprime.gcd_mul_left_cancel_right b h
theorem gcd_word {a b k A:Nat}(ha:a≠0)(hk:k=tz (a ||| b))(hA:A=a/2^tz a):Nat.gcd a b=2^k*Nat.gcd A b∧A%2=1:=by
  have hab:a ||| b≠0:=fun c=>ha (by
    have h0:a≤a ||| b:=Nat.left_le_or;omega)
  obtain⟨h1,h2⟩:=eM _ hab;rw[← hk] at h1 h2;obtain⟨a1,b1,e1,e2,e3⟩:=zJ1 k a b _ h1;obtain⟨h3,h4⟩:=eM a ha;rw[← hA] at h3 h4;refine⟨?_,h4⟩;rw[← e3] at h2;have h5:=(oT a1 b1).1 h2;have h6:Nat.gcd A b=Nat.gcd A b1:=by rw[e2,gO h4]
  rw[h6];have h7:Nat.gcd a b=2^k*Nat.gcd a1 b1:=by rw[e1,e2,Nat.gcd_mul_left]
  rw[h7];congr 1
  -- a1 is A,times a power of two
  have hkt:2^k*a1=2^tz a*A:=by rw[← e1];exact h3
  have hle:k≤tz a:=by
    rcases zaf (tz a) k with h | h
    · exfalso;obtain⟨q,rfl⟩:∃ q,k=tz a+(q+1):=⟨k-tz a-1,by omega⟩;rw[zaJ,zau] at hkt;have:=Nat.eq_of_mul_eq_mul_left (yK _) hkt;rw[zax] at this;have e:2^q*2*a1=2*(2^q*a1):=by rw[zbV,zat]
      omega
    · exact h
  obtain⟨i,hi⟩:∃ i,tz a=k+i:=⟨tz a-k,by omega⟩;rw[hi,zaJ,zau] at hkt;have ha1:=Nat.eq_of_mul_eq_mul_left (yK _) hkt;rcases h5 with h5 | h5
  · cases i with
    | zero=>rw[ha1];simp
    | succ i => rw [ha1, zax] at h5
                have e:2^i*2*A=2*(2^i*A):=by rw[zbV,zat]
                omega
  · rw[ha1,zbX,gO h5,zbX]
end Go.SL
namespace Go.SL
open Go.RowKit
section strct2
variable {P : Program} {r : Option Nat} {N : Nat} {all : Array Oper} {K : Pd} {D : List Deferred} {E : Env} {w : World} {rest : List Oper}
theorem rM {t:TypeId}{sz bytes:Nat}{z:Value}{b o:Nat}{us:List Value}(hf:Fold P t)(hz:Sz P t sz bytes z)(hu:∀(j:Nat) (u:Value),us[j]? = some u→w.cell? ⟨b,o+j,none⟩=some u)(hl:us.length=sz) :
  (loadVar t ⟨b,o,none⟩).run P w = .ok (.agg us.toArray) w:=by
 have h1:=run_loadCells_list (P:=P) (w:=w) ⟨b,o,none⟩ us (fun j v hj=>by rw[xV];exact hu j v hj);rw[hl] at h1;simp[loadVar,hf w,xK hz,h1,Result.andThen]
theorem bC {d:Nat}{x:Operand}{t t':TypeId}{pos:String}{af:Array Edge}{sz bytes:Nat}{z:Value}{b o:Nat}{us:List Value}(hd:Nat.blt d N=true)
  (hf:Fold P t) (hz:Sz P t sz bytes z) (hx:ev E x=some (.pointer (some ⟨b,o,none⟩))) (hu:∀(j:Nat) (u:Value),us[j]? = some u→w.cell? ⟨b,o+j,none⟩=some u) (hl:us.length=sz)
  (h:Ops P r N all K rest D ((d,.agg us.toArray)::E) w):Ops P r N all K (⟨some d,.load t x,t',pos,af,none⟩::rest) D E w :=
 yB hd (by intro c hc;cases hc) (fun a ha=>by
  have e1:(Instr.loadAt t (.pointer (some ⟨b,o,none⟩))).run P w = .ok (.agg us.toArray) w:=by
   simp[Instr.loadAt,Instr.sureAddr,rM hf hz hu hl]
  simp only[execOp,ha.ev hx,Sem.run_bind,e1,Result.andThen];rfl) h
theorem load_blks {t te:TypeId}{sz bytes:Nat}{z:Value}{b o:Nat}{cs us:List Value}(hf:Fold P t)(hz:Sz P t sz bytes z)(hb:Blk w b te cs)(hu:(cs.drop o).take sz=us)(hl:us.length=sz):(loadVar t ⟨b,o,none⟩).run P w = .ok (.agg us.toArray) w :=
 rM hf hz (fun j u hj=>by
  rw[hb.cell];rw[← hu,zaN] at hj;split at hj
  ·simpa using hj
  ·cases hj) hl
theorem oV {d:Nat}{x:Operand}{s t':TypeId}{pos:String}{af:Array Edge}{f:Nat}{fields:Array Field}{fd:Field}{us vs:List Value}{sz bytes:Nat}{z:Value}(hd:Nat.blt d N=true)
  (hs:P.underlying s=some (.struct fields)) (hf:fields[f]? = some fd) (hz:Sz P fd.type sz bytes z) (hx:ev E x=some (.agg us.toArray)) (hv:(us.drop fd.offset).take sz=vs) (hl:vs.length=sz)
  {v:Value} (hval:(Instr.field s (.agg us.toArray) f).run P w = .ok v w)
  (h:Ops P r N all K rest D ((d,v)::E) w):Ops P r N all K (⟨some d,.field s x f,t',pos,af,none⟩::rest) D E w :=
 yB hd (by intro c hc;cases hc) (fun ac ha=>by simp only[execOp,ha.ev hx,Sem.run_bind,hval,Result.andThen];rfl) h
def updC:List Value→List (Nat×List Value)→List Value
 | arr,[]=>arr
 | arr,(o,c)::r=>updC (arr.take o++c++arr.drop (o+c.length)) r
theorem zM0 {places:List (Nat×Nat)}:∀(parts:List (Nat×Value)) (us:List (Nat×List Value)) (arr:List Value),parts.length=us.length →
  (∀(i:Nat) (p:Nat×Value) (u:Nat×List Value),parts[i]? = some p→us[i]? = some u→p.2.cells=u.2.toArray∧places[p.1]? = some (u.1,u.2.length)∧u.1+u.2.length≤arr.length) →
  Instr.fill (places.toArray[·]?) arr.toArray parts=some (updC arr us).toArray
 | [],[],arr,_,_=>by simp[Instr.fill,updC]
 | [],_::_,_,h,_=>by simp at h
 | _::_,[],_,h,_=>by simp at h
 | (i,v)::parts,(o,c)::us,arr,hl,hp=>by
  obtain⟨h1,h2,h3⟩:=hp 0 (i,v) (o,c) rfl rfl;simp only at h1 h2 h3;have ih:=zM0 (places:=places) parts us (arr.take o++c++arr.drop (o+c.length)) (by simpa using hl) (fun j p u hj hu=>by
   obtain⟨k1,k2,k3⟩:=hp (j+1) p u (by simpa using hj) (by simpa using hu);exact⟨k1,k2,by simp;omega⟩)
  simp only[Instr.fill];have e0:places.toArray[i]? = some (o,c.length):=by simpa using h2
  simp only[e0];rw[if_neg (by rw[h1];simp;omega)];have e:(v.cells.zipIdx.foldl (fun(cs:Array Value) (x:Value×Nat)=>cs.setIfInBounds (o+x.2) x.1) arr.toArray)=(arr.take o++c++arr.drop (o+c.length)).toArray:=by
   rw[h1];have:=iY c arr o 0 (by omega);have e4:c.toArray.zipIdx=(c.zipIdx 0).toArray:=by simp
   rw[e4,List.foldl_toArray,this];simp
  rw[e,ih,updC]
theorem fU {d:Nat}{t t':TypeId}{pos:String}{af:Array Edge}{szs:List Nat}{parts:Array (Nat×Operand)}{vs:List Value}{cs:List (List Value)}{zs:List Value}{sz bytes:Nat}(hd:Nat.blt d N=true)
  (ht:Plc P t szs) (hz:Sz P t sz bytes (.agg zs.toArray)) (hx:evs E (parts.toList.map (·.2))=some vs) (hc:Cls vs cs)
  (hok:(((parts.toList.map (·.1)).zip (cs.map List.length)).all (fun p=>decide (p.1<szs.length)&&Nat.beq (szs.getD p.1 0) p.2&&Nat.ble ((szs.take p.1).sum+p.2) zs.length))=true) (hlen:parts.size=cs.length)
  (h:Ops P r N all K rest D ((d,.agg (updC zs (((parts.toList.map (·.1)).map fun i=>(szs.take i).sum).zip cs)).toArray)::E) w):Ops P r N all K (⟨some d,.build t parts,t',pos,af,none⟩::rest) D E w:=by
 refine yB hd (by intro c hc;cases hc) (fun a ha=>?_) h;obtain⟨fields,it,z,places,p1,p2,p3,p4,p5,p6⟩:=ht;obtain⟨it',q1,q2,q3,q4⟩:=hz;have hit:it=it':=by rw[q1] at p2;exact(Option.some.inj p2).symm
 subst hit;have hzz:z = .agg zs.toArray:=by rw[q4] at p3;exact(Option.some.inj p3).symm
 subst hzz;have hcl:∀(vs:List Value) (cs:List (List Value)),Cls vs cs→∀(i:Nat) (v:Value) (c:List Value),vs[i]? = some v→cs[i]? = some c→v.cells=c.toArray:=by
  intro vs
  induction vs with
  | nil=>intro cs h i v c hv;simp at hv
  | cons v vs ih =>
   intro cs h i v' c hv hc;cases cs with
   | nil=>exact h.elim
   | cons c0 cs =>
    cases i with
    | zero=>simp at hv hc;subst hv;subst hc;exact h.1
    | succ i=>exact ih cs h.2 i v' c (by simpa using hv) (by simpa using hc)
 have hf:=zM0 (places:=places) (parts.toList.map fun x=>(x.1,a.eval x.2)) (((parts.toList.map (·.1)).map fun i=>(szs.take i).sum).zip cs) zs (by simp;have:=hlen;omega) (fun i p u hp hu=>by
  have h3:=ha.evs hx;rw[zbQ] at hp;cases hpi:parts.toList[i]? with
  | none=>rw[hpi] at hp;cases hp
  | some q =>
   rw[hpi] at hp;simp at hp;subst hp;rw[List.getElem?_zip_eq_some] at hu;obtain⟨hu1,hu2⟩:=hu;simp[hpi] at hu1;have hv:vs[i]? = some (a.eval q.2):=by rw[← h3];simp[hpi]
   have hcell:=hcl vs cs hc i _ _ hv hu2;rw[zaC] at hok;have hk:=hok (q.1,u.2.length) (by
    rw[zbR];refine⟨i,?_⟩;rw[List.getElem?_zip_eq_some];simp[hpi,hu2])
   simp only[zaq,decide_eq_true_eq,Nat.ble_eq] at hk;obtain⟨⟨hk1,hk2⟩,hk3⟩:=hk;have hk2:=zaj hk2;refine⟨hcell,?_,by rw[← hu1];exact hk3⟩;rw[p6 q.1 hk1,← hu1,hk2])
 have e1:(Instr.build t (parts.map fun(i,x)=>(i,a.eval x))).run P w = .ok (.agg (updC zs (((parts.toList.map (·.1)).map fun i=>(szs.take i).sum).zip cs)).toArray) w:=by
  refine run_build (P:=P) w t _ _ ?_;unfold Program.built;rw[p2,p1];simp only[p3,p5];rw[Array.toList_map];exact hf
 simp only[execOp,Sem.run_bind,e1,Result.andThen];rfl
end strct2
theorem allc {u:Value}{us:List Value}(h:u.oneCell'=true)(k:∀ v∈us,v.oneCell'=true):∀ v∈u::us,v.oneCell'=true:=fun v hv=>by
 rcases zad.1 hv with rfl | hv
 ·exact h
 ·exact k v hv
theorem alln:∀ v∈([]:List Value),v.oneCell'=true:=fun v hv=>by cases hv
abbrev RelV (α:Type):=(Nat→Prop)→World→α→List Value→Prop
def tL {α:Type}(R:RelV α)(sz:Nat)(M:Nat→Prop)(w:World)(v:Value)(l:List α):Prop :=
 ∃ cs,Slc M w sz v l.length cs∧∀(i:Nat) (a:α),l[i]? = some a→∃ us:List Value,us.length=sz∧(∀(q:Nat) (u:Value),us[q]? = some u→cs[i*sz+q]? = some u)∧R M w a us
theorem zT {α:Type}{l:List α}{s:Nat}(d:α)(h:s<l.length):l.take (s+1)=l.take s++[l.getD s d]∧l=l.take s++l.getD s d::l.drop (s+1):=by
 have e:l.getD s d=l[s]:=by simp[h]
 rw[e];exact⟨by rw[List.take_add_one,zag h];rfl,by rw[List.getElem_cons_drop,zbb]⟩
section rows
variable {P : Program} {r : Option Nat} {N : Nat} {all : Array Oper} {K : Pd} {D : List Deferred} {E : Env} {w : World} {rest : List Oper} {M : Nat → Prop}
end rows
theorem pS {pl:Nat→Option (Nat×Nat)}{sz:Nat}(hpl:∀ i,pl i=some (i*sz,sz)):∀(vs:List Value) (cs:List (List Value)) (pre old:List Value) (k:Nat),Cls vs cs→(∀ c∈cs,c.length=sz)→pre.length=k*sz→old.length=cs.length*sz →
  Instr.fill pl (pre++old).toArray ((vs.zipIdx k).map fun x=>(x.2,x.1))=some (pre++cs.flatten).toArray
 | [],[],pre,old,k,_,_,_,ho=>by
  have:old=[]:=by simpa using ho
  subst this;simp[Instr.fill]
 | [],_::_,_,_,_,h,_,_,_=>h.elim
 | _::_,[],_,_,_,h,_,_,_=>h.elim
 | v::vs,c::cs,pre,old,k,⟨h1,h2⟩,hs,hp,ho=>by
  have hcl:=hs c (by simp);simp only[zaw,zaQ,zbm] at ho;have ih:=pS hpl vs cs (pre++c) (old.drop c.length) (k+1) h2 (fun c hc=>hs c (by simp[hc])) (by rw[zal,hp,hcl,zaQ,zbm]) (by simp;omega);simp only[List.zipIdx_cons,zaG,Instr.fill,hpl k];rw[if_neg (by rw[h1];simp;omega)];have e:(v.cells.zipIdx.foldl (fun(cs:Array Value) (x:Value×Nat)=>cs.setIfInBounds (k*sz+x.2) x.1) (pre++old).toArray)=(pre++c++old.drop c.length).toArray:=by
   rw[h1];have:=iY c (pre++old) pre.length 0 (by simp;omega);have e4:c.toArray.zipIdx=(c.zipIdx 0).toArray:=by simp
   rw[e4,List.foldl_toArray,← hp,this];simp[List.drop_append]
  rw[e,ih];simp
theorem qB {P:Program}{r:Option Nat}{N:Nat}{all:Array Oper}{K:Pd}{D:List Deferred}{E:Env}{w:World}{rest:List Oper}{d:Nat}{t e t':TypeId}{pos:String}{af:Array Edge}{sz bytes:Nat}{z:Value}{len:Nat}{parts:Array (Nat×Operand)}{vs:List Value}{cs:List (List Value)}(hd:Nat.blt d N=true)
  (ht:P.underlying t=some (.slice e)) (he:Sz P e sz bytes z) (hz:z.cells.size=sz) (hs0:Nat.beq sz 0=false) (hi:parts.toList.map (·.1)=List.range len) (hx:evs E (parts.toList.map (·.2))=some vs) (hc:Cls vs cs) (hcs:(cs.all fun c=>Nat.beq c.length sz)=true) (hl:Nat.ble (len*sz) 1000=true) (h0:Nat.beq len 0=false)
  (h:∀ w' b,New w w' b (.cells cs.flatten.toArray e)→Ops P r N all K rest D ((d,.slice (some ⟨b,0,none⟩) len len)::E) w') :
  Ops P r N all K (⟨some d,.buildSlice t len parts,t',pos,af,none⟩::rest) D E w:=by
 refine yB hd (by intro c hc;cases hc) (fun a ha=>?_) (h _ _ (New.of_alloc w (.cells cs.flatten.toArray e)));have hsz0:sz≠0:=zby hs0;have hl0:len≠0:=zby h0;have hlen:∀(vs:List Value) (cs:List (List Value)),Cls vs cs→vs.length=cs.length:=by
  intro vs
  induction vs with
  | nil=>intro cs h;cases cs with
   | nil=>rfl
   | cons=>exact h.elim
  | cons v vs ih=>intro cs h;cases cs with
   | nil=>exact h.elim
   | cons c cs=>simp[ih cs h.2]
 have hvl:vs.length=len:=by
  have:=congrArg List.length (ha.evs hx);have h2:=congrArg List.length hi;simp at this h2;omega
 have hll:len*sz≤1000:=by simpa [Nat.ble_eq] using hl
 have hparts:parts.toList.map (fun x=>(x.1,a.eval x.2))=vs.zipIdx.map fun x=>(x.2,x.1):=by
  have h3:=ha.evs hx;apply List.ext_getElem
  ·have h2:=congrArg List.length hi;simp at h2;simp;omega
  ·intro n hn1 hn2;simp at hn1 hn2;have e1:(parts.toList.map (·.1))[n]'(by simpa using hn1)=n:=by simp[hi]
   have e2:((parts.toList.map (·.2)).map a.eval)[n]'(by simpa using hn1)=vs[n]'(by omega):=by simp[h3]
   simp at e1 e2;simp[e1,e2]
 obtain⟨q,q1,q2,q3,q4⟩:=he;have hf:=pS (pl:=fun i=>some (i*sz,sz)) (sz:=sz) (fun _=>rfl) vs cs [] (((Array.range (len*sz)).map fun x=>z.cells[x%z.cells.size]!).toList) 0 hc (fun c hc=>by
  rw[zaC] at hcs;exact zaj (hcs c hc)) (by simp) (by have:=hlen _ _ hc;simp;rw[← this,hvl])
 simp only[zcm,Array.toArray_toList] at hf;have e1:(Instr.buildSlice t len (parts.map fun(i,x)=>(i,a.eval x))).run P w = .ok (.slice (some ⟨w.heap.size,0,none⟩) len len) (w.alloc (.cells cs.flatten.toArray e)):=by
  unfold Instr.buildSlice;have hlt:¬ (16777216<len*sz):=by omega
  have hne:¬ (len*sz=0):=Nat.mul_ne_zero hl0 hsz0;have hne2:¬ (len=0∨sz=0):=by omega
  simp[run_underlying ht,sizeOf,typeInfo,q1,q2,newRow,hparts,hne,hne2,hlt,zeroValue,q4];rw[hf];simp
 simp only[execOp,Sem.run_bind,e1,Result.andThen];rfl
end Go.SL
namespace Go.SL
open Go.RowKit
theorem grow_of {W w':World}(h:Bel W.heap.size W w'):∃ q os',w'=Sort.grow (W.drewN q) os':=by
 refine⟨w'.drawn-W.drawn,w'.heap.extract W.heap.size w'.heap.size,?_⟩;obtain⟨h1,⟨h2,h3⟩,h4,h5,h6⟩:=h;obtain⟨hp,tp,dr,os,out⟩:=w';obtain⟨hp0,tp0,dr0,os0,out0⟩:=W;simp only[Sort.grow,World.drewN] at *;subst h1;subst h2;subst h4;congr 1
 ·apply Array.ext
  ·simp;omega
  ·intro i hi1 hi2;rcases zaf i hp0.size with c | c
   ·have h7:=h6 i c;rw[zce hi1,zce c] at h7;rw[Array.getElem_append_left c];exact Option.some.inj h7
   ·rw[Array.getElem_append_right c];simp[show hp0.size+(i-hp0.size)=i by omega]
 ·omega
end Go.SL
namespace Go.SL
open Go.RowKit Go.Shelf Go.Proofs Go.Sort
section
variable {α : Type} [Inhabited α] {enc : α → List Value} {k : Nat} {w : World} {blk off m : Nat} {dk : Array α} {os : Array Obj}
theorem mJ {i:Nat}(hi:i<w.heap.size)(hne:i≠blk):(sortWorldK enc k w blk off m dk os).heap[i]? = w.heap[i]?:=by
 show ((w.heap.modify blk _)++os)[i]? = _;rw[Array.getElem?_append_left (by simpa using hi),Array.getElem?_modify,if_neg (fun e=>hne e.symm)]
theorem oI:w.heap.size≤(sortWorldK enc k w blk off m dk os).heap.size:=by
 show _≤((w.heap.modify blk _)++os).size;simp
theorem zW4 {Fz M:Nat→Prop}(hm:M blk)(hf:¬ Fz blk):Le Fz M w M (sortWorldK enc k w blk off m dk os) :=
 ⟨rfl,⟨rfl,Nat.le_add_right _ _⟩,rfl,oI,fun i hi hF=>mJ hi (fun e=>hf (e ▸ hF)),fun i hi hM=>mJ hi (fun e=>hM (e ▸ hm)),fun _ h => .inl h,fun ho i hi=>zan (ho i hi) oI⟩
theorem cmp_lays {P:Program}{g:Nat}{cf:α→α→Int}{size:Nat}
  (hc:∀(m:Nat) (os:Array Obj) (dk:Array α) (x y:α),CallsV P g [.agg (enc x).toArray,.agg (enc y).toArray] (sortWorldK enc k w blk off m dk os) fun r w'=>Bel (sortWorldK enc k w blk off m dk os).heap.size (sortWorldK enc k w blk off m dk os) w'∧r = .int .i64 (cf x y)) :
  CmpLays P g #[] enc k cf blk off size w:=fun m os dk _ x y =>
 Calls.mono (hc m os dk x y) fun e w' ⟨v,he,hB,hv⟩=>⟨by rw[he,hv],grow_of hB⟩
end
end Go.SL
namespace Go.Proofs
open Go.Shelf
def Tryz.sortPt_ren:Go.Shelf.Ren:=⟨fun | 6=>275 | 15=>162 | 14=>320 | 28=>235 | 29=>236 | 20=>348 | 21=>349 | 22=>350 | 23=>351 | 24=>352 | 25=>353 | 26=>354 | 27=>355 | 46=>370 | 47=>293 | 48=>294 | 49=>371 | 50=>372 | 57=>379 | n=>n,fun | 22=>22 | 24=>39 | 25=>119 | 3=>3 | 39=>195 | 0=>0 | 53=>155 | 55=>196 | 4=>4 | 46=>243 | 45=>242 | 50=>110 | 5=>5 | 9=>9 | 66=>291 | 70=>295 | 76=>321 | 77=>322 | n=>n,fun | n=>n⟩
theorem Tryz.sortPt:Go.Proofs.SlLaysF0.n6 Tryz.prog Tryz.sortPt_ren:={
 mixed:=by kernel_rfl
 f6:=⟨Tryz.f275.name,by decide,Tryz.func275.trans (congrArg some (by kernel_rfl))⟩
 f14:=⟨Tryz.f320.name,by decide,Tryz.func320.trans (congrArg some (by kernel_rfl))⟩
 f15:=Tryz.func162.trans (congrArg some (by kernel_rfl))
 f20:=⟨Tryz.f348.name,by decide,Tryz.func348.trans (congrArg some (by kernel_rfl))⟩
 f21:=⟨Tryz.f349.name,by decide,Tryz.func349.trans (congrArg some (by kernel_rfl))⟩
 f22:=⟨Tryz.f350.name,by decide,Tryz.func350.trans (congrArg some (by kernel_rfl))⟩
 f23:=⟨Tryz.f351.name,by decide,Tryz.func351.trans (congrArg some (by kernel_rfl))⟩
 f24:=⟨Tryz.f352.name,by decide,Tryz.func352.trans (congrArg some (by kernel_rfl))⟩
 f25:=⟨Tryz.f353.name,by decide,Tryz.func353.trans (congrArg some (by kernel_rfl))⟩
 f26:=⟨Tryz.f354.name,by decide,Tryz.func354.trans (congrArg some (by kernel_rfl))⟩
 f27:=⟨Tryz.f355.name,by decide,Tryz.func355.trans (congrArg some (by kernel_rfl))⟩
 f28:=Tryz.func235.trans (congrArg some (by kernel_rfl))
 f29:=Tryz.func236.trans (congrArg some (by kernel_rfl))
 f46:=⟨Tryz.f370.name,by decide,Tryz.func370.trans (congrArg some (by kernel_rfl))⟩
 f47:=Tryz.func293.trans (congrArg some (by kernel_rfl))
 f48:=Tryz.func294.trans (congrArg some (by kernel_rfl))
 f49:=⟨Tryz.f371.name,by decide,Tryz.func371.trans (congrArg some (by kernel_rfl))⟩
 f50:=⟨Tryz.f372.name,by decide,Tryz.func372.trans (congrArg some (by kernel_rfl))⟩
 f57:=⟨Tryz.f379.name,by decide,Tryz.func379.trans (congrArg some (by kernel_rfl))⟩
 t0:=Tryz.underlying0
 a0:=Tryz.isAgg0
 z0:=Tryz.sizeOf0
 v0:=Tryz.zeroValue0
 t3:=Tryz.underlying3
 a3:=Tryz.isAgg3
 z3:=Tryz.sizeOf3
 v3:=Tryz.zeroValue3
 t4:=Tryz.underlying4
 a4:=Tryz.isAgg4
 z4:=Tryz.sizeOf4
 v4:=Tryz.zeroValue4
 t5:=Tryz.underlying5
 a5:=Tryz.isAgg5
 z5:=Tryz.sizeOf5
 v5:=Tryz.zeroValue5
 t9:=Tryz.underlying9
 a9:=Tryz.isAgg9
 z9:=Tryz.sizeOf9
 v9:=Tryz.zeroValue9
 t22:=Tryz.underlying22
 a22:=Tryz.isAgg22
 z22:=Tryz.sizeOf22
 v22:=Tryz.zeroValue22
 t25:=Tryz.underlying119
 a25:=Tryz.isAgg119
 z25:=Tryz.sizeOf119
 v25:=Tryz.zeroValue119
 t39:=Tryz.underlying195
 a39:=Tryz.isAgg195
 z39:=Tryz.sizeOf195
 v39:=Tryz.zeroValue195
 t45:=Tryz.underlying242
 a45:=Tryz.isAgg242
 z45:=Tryz.sizeOf242
 v45:=Tryz.zeroValue242
 t46:=Tryz.underlying243
 a46:=Tryz.isAgg243
 z46:=Tryz.sizeOf243
 v46:=Tryz.zeroValue243
 t50:=Tryz.underlying110
 a50:=Tryz.isAgg110
 z50:=Tryz.sizeOf110
 v50:=Tryz.zeroValue110
 t53:=Tryz.underlying155
 a53:=Tryz.isAgg155
 z53:=Tryz.sizeOf155
 v53:=Tryz.zeroValue155
 t55:=Tryz.underlying196
 a55:=Tryz.isAgg196
 z55:=Tryz.sizeOf196
 v55:=Tryz.zeroValue196
 t66:=Tryz.underlying291
 a66:=Tryz.isAgg291
 z66:=Tryz.sizeOf291
 v66:=Tryz.zeroValue291
 t70:=Tryz.underlying295
 a70:=Tryz.isAgg295
 z70:=Tryz.sizeOf295
 v70:=Tryz.zeroValue295
 t76:=Tryz.underlying321
 a76:=Tryz.isAgg321
 z76:=Tryz.sizeOf321
 v76:=Tryz.zeroValue321
 t77:=Tryz.underlying322
 a77:=Tryz.isAgg322
 z77:=Tryz.sizeOf322
 v77:=Tryz.zeroValue322 }
def Tryz.sortLevel_ren:Go.Shelf.Ren:=⟨fun | 6=>84 | 15=>162 | 14=>161 | 28=>235 | 29=>236 | 20=>227 | 21=>228 | 22=>229 | 23=>230 | 24=>231 | 25=>232 | 26=>233 | 27=>234 | 46=>292 | 47=>293 | 48=>294 | 49=>295 | 50=>296 | 57=>337 | n=>n,fun | 22=>49 | 24=>55 | 25=>126 | 3=>3 | 39=>195 | 0=>0 | 53=>155 | 55=>196 | 4=>4 | 46=>243 | 45=>242 | 50=>110 | 5=>5 | 9=>9 | 66=>291 | 70=>295 | 76=>321 | 77=>322 | n=>n,fun | n=>n⟩
theorem Tryz.sortLevel:Go.Proofs.SlLaysF0.n6 Tryz.prog Tryz.sortLevel_ren:={
 mixed:=by kernel_rfl
 f6:=⟨Tryz.f84.name,by decide,Tryz.func84.trans (congrArg some (by kernel_rfl))⟩
 f14:=⟨Tryz.f161.name,by decide,Tryz.func161.trans (congrArg some (by kernel_rfl))⟩
 f15:=Tryz.func162.trans (congrArg some (by kernel_rfl))
 f20:=⟨Tryz.f227.name,by decide,Tryz.func227.trans (congrArg some (by kernel_rfl))⟩
 f21:=⟨Tryz.f228.name,by decide,Tryz.func228.trans (congrArg some (by kernel_rfl))⟩
 f22:=⟨Tryz.f229.name,by decide,Tryz.func229.trans (congrArg some (by kernel_rfl))⟩
 f23:=⟨Tryz.f230.name,by decide,Tryz.func230.trans (congrArg some (by kernel_rfl))⟩
 f24:=⟨Tryz.f231.name,by decide,Tryz.func231.trans (congrArg some (by kernel_rfl))⟩
 f25:=⟨Tryz.f232.name,by decide,Tryz.func232.trans (congrArg some (by kernel_rfl))⟩
 f26:=⟨Tryz.f233.name,by decide,Tryz.func233.trans (congrArg some (by kernel_rfl))⟩
 f27:=⟨Tryz.f234.name,by decide,Tryz.func234.trans (congrArg some (by kernel_rfl))⟩
 f28:=Tryz.func235.trans (congrArg some (by kernel_rfl))
 f29:=Tryz.func236.trans (congrArg some (by kernel_rfl))
 f46:=⟨Tryz.f292.name,by decide,Tryz.func292.trans (congrArg some (by kernel_rfl))⟩
 f47:=Tryz.func293.trans (congrArg some (by kernel_rfl))
 f48:=Tryz.func294.trans (congrArg some (by kernel_rfl))
 f49:=⟨Tryz.f295.name,by decide,Tryz.func295.trans (congrArg some (by kernel_rfl))⟩
 f50:=⟨Tryz.f296.name,by decide,Tryz.func296.trans (congrArg some (by kernel_rfl))⟩
 f57:=⟨Tryz.f337.name,by decide,Tryz.func337.trans (congrArg some (by kernel_rfl))⟩
 t0:=Tryz.underlying0
 a0:=Tryz.isAgg0
 z0:=Tryz.sizeOf0
 v0:=Tryz.zeroValue0
 t3:=Tryz.underlying3
 a3:=Tryz.isAgg3
 z3:=Tryz.sizeOf3
 v3:=Tryz.zeroValue3
 t4:=Tryz.underlying4
 a4:=Tryz.isAgg4
 z4:=Tryz.sizeOf4
 v4:=Tryz.zeroValue4
 t5:=Tryz.underlying5
 a5:=Tryz.isAgg5
 z5:=Tryz.sizeOf5
 v5:=Tryz.zeroValue5
 t9:=Tryz.underlying9
 a9:=Tryz.isAgg9
 z9:=Tryz.sizeOf9
 v9:=Tryz.zeroValue9
 t22:=Tryz.underlying49
 a22:=Tryz.isAgg49
 z22:=Tryz.sizeOf49
 v22:=Tryz.zeroValue49
 t25:=Tryz.underlying126
 a25:=Tryz.isAgg126
 z25:=Tryz.sizeOf126
 v25:=Tryz.zeroValue126
 t39:=Tryz.underlying195
 a39:=Tryz.isAgg195
 z39:=Tryz.sizeOf195
 v39:=Tryz.zeroValue195
 t45:=Tryz.underlying242
 a45:=Tryz.isAgg242
 z45:=Tryz.sizeOf242
 v45:=Tryz.zeroValue242
 t46:=Tryz.underlying243
 a46:=Tryz.isAgg243
 z46:=Tryz.sizeOf243
 v46:=Tryz.zeroValue243
 t50:=Tryz.underlying110
 a50:=Tryz.isAgg110
 z50:=Tryz.sizeOf110
 v50:=Tryz.zeroValue110
 t53:=Tryz.underlying155
 a53:=Tryz.isAgg155
 z53:=Tryz.sizeOf155
 v53:=Tryz.zeroValue155
 t55:=Tryz.underlying196
 a55:=Tryz.isAgg196
 z55:=Tryz.sizeOf196
 v55:=Tryz.zeroValue196
 t66:=Tryz.underlying291
 a66:=Tryz.isAgg291
 z66:=Tryz.sizeOf291
 v66:=Tryz.zeroValue291
 t70:=Tryz.underlying295
 a70:=Tryz.isAgg295
 z70:=Tryz.sizeOf295
 v70:=Tryz.zeroValue295
 t76:=Tryz.underlying321
 a76:=Tryz.isAgg321
 z76:=Tryz.sizeOf321
 v76:=Tryz.zeroValue321
 t77:=Tryz.underlying322
 a77:=Tryz.isAgg322
 z77:=Tryz.sizeOf322
 v77:=Tryz.zeroValue322 }
def Tryz.sortRat_ren:Go.Shelf.Ren:=⟨fun | 6=>204 | 15=>162 | 14=>277 | 28=>235 | 29=>236 | 20=>321 | 21=>322 | 22=>323 | 23=>324 | 24=>325 | 25=>326 | 26=>327 | 27=>328 | 46=>356 | 47=>293 | 48=>294 | 49=>357 | 50=>358 | 57=>373 | n=>n,fun | 22=>43 | 24=>29 | 25=>35 | 3=>3 | 39=>195 | 0=>0 | 53=>155 | 55=>196 | 4=>4 | 46=>243 | 45=>242 | 50=>110 | 5=>5 | 9=>9 | 66=>291 | 70=>295 | 76=>321 | 77=>322 | n=>n,fun | n=>n⟩
theorem Tryz.sortRat:Go.Proofs.SlLaysF0.n6 Tryz.prog Tryz.sortRat_ren:={
 mixed:=by kernel_rfl
 f6:=⟨Tryz.f204.name,by decide,Tryz.func204.trans (congrArg some (by kernel_rfl))⟩
 f14:=⟨Tryz.f277.name,by decide,Tryz.func277.trans (congrArg some (by kernel_rfl))⟩
 f15:=Tryz.func162.trans (congrArg some (by kernel_rfl))
 f20:=⟨Tryz.f321.name,by decide,Tryz.func321.trans (congrArg some (by kernel_rfl))⟩
 f21:=⟨Tryz.f322.name,by decide,Tryz.func322.trans (congrArg some (by kernel_rfl))⟩
 f22:=⟨Tryz.f323.name,by decide,Tryz.func323.trans (congrArg some (by kernel_rfl))⟩
 f23:=⟨Tryz.f324.name,by decide,Tryz.func324.trans (congrArg some (by kernel_rfl))⟩
 f24:=⟨Tryz.f325.name,by decide,Tryz.func325.trans (congrArg some (by kernel_rfl))⟩
 f25:=⟨Tryz.f326.name,by decide,Tryz.func326.trans (congrArg some (by kernel_rfl))⟩
 f26:=⟨Tryz.f327.name,by decide,Tryz.func327.trans (congrArg some (by kernel_rfl))⟩
 f27:=⟨Tryz.f328.name,by decide,Tryz.func328.trans (congrArg some (by kernel_rfl))⟩
 f28:=Tryz.func235.trans (congrArg some (by kernel_rfl))
 f29:=Tryz.func236.trans (congrArg some (by kernel_rfl))
 f46:=⟨Tryz.f356.name,by decide,Tryz.func356.trans (congrArg some (by kernel_rfl))⟩
 f47:=Tryz.func293.trans (congrArg some (by kernel_rfl))
 f48:=Tryz.func294.trans (congrArg some (by kernel_rfl))
 f49:=⟨Tryz.f357.name,by decide,Tryz.func357.trans (congrArg some (by kernel_rfl))⟩
 f50:=⟨Tryz.f358.name,by decide,Tryz.func358.trans (congrArg some (by kernel_rfl))⟩
 f57:=⟨Tryz.f373.name,by decide,Tryz.func373.trans (congrArg some (by kernel_rfl))⟩
 t0:=Tryz.underlying0
 a0:=Tryz.isAgg0
 z0:=Tryz.sizeOf0
 v0:=Tryz.zeroValue0
 t3:=Tryz.underlying3
 a3:=Tryz.isAgg3
 z3:=Tryz.sizeOf3
 v3:=Tryz.zeroValue3
 t4:=Tryz.underlying4
 a4:=Tryz.isAgg4
 z4:=Tryz.sizeOf4
 v4:=Tryz.zeroValue4
 t5:=Tryz.underlying5
 a5:=Tryz.isAgg5
 z5:=Tryz.sizeOf5
 v5:=Tryz.zeroValue5
 t9:=Tryz.underlying9
 a9:=Tryz.isAgg9
 z9:=Tryz.sizeOf9
 v9:=Tryz.zeroValue9
 t22:=Tryz.underlying43
 a22:=Tryz.isAgg43
 z22:=Tryz.sizeOf43
 v22:=Tryz.zeroValue43
 t25:=Tryz.underlying35
 a25:=Tryz.isAgg35
 z25:=Tryz.sizeOf35
 v25:=Tryz.zeroValue35
 t39:=Tryz.underlying195
 a39:=Tryz.isAgg195
 z39:=Tryz.sizeOf195
 v39:=Tryz.zeroValue195
 t45:=Tryz.underlying242
 a45:=Tryz.isAgg242
 z45:=Tryz.sizeOf242
 v45:=Tryz.zeroValue242
 t46:=Tryz.underlying243
 a46:=Tryz.isAgg243
 z46:=Tryz.sizeOf243
 v46:=Tryz.zeroValue243
 t50:=Tryz.underlying110
 a50:=Tryz.isAgg110
 z50:=Tryz.sizeOf110
 v50:=Tryz.zeroValue110
 t53:=Tryz.underlying155
 a53:=Tryz.isAgg155
 z53:=Tryz.sizeOf155
 v53:=Tryz.zeroValue155
 t55:=Tryz.underlying196
 a55:=Tryz.isAgg196
 z55:=Tryz.sizeOf196
 v55:=Tryz.zeroValue196
 t66:=Tryz.underlying291
 a66:=Tryz.isAgg291
 z66:=Tryz.sizeOf291
 v66:=Tryz.zeroValue291
 t70:=Tryz.underlying295
 a70:=Tryz.isAgg295
 z70:=Tryz.sizeOf295
 v70:=Tryz.zeroValue295
 t76:=Tryz.underlying321
 a76:=Tryz.isAgg321
 z76:=Tryz.sizeOf321
 v76:=Tryz.zeroValue321
 t77:=Tryz.underlying322
 a77:=Tryz.isAgg322
 z77:=Tryz.sizeOf322
 v77:=Tryz.zeroValue322 }
end Go.Proofs
namespace Go.SL
open Go.RowKit Go.Shelf Go.Proofs Go.Sort
section
variable {α : Type} [Inhabited α] {enc : α → List Value} {k : Nat} {P : Program} {ρ : Ren}
theorem sort_calls (L:SlLaysF0.n6 P ρ)(aE:∀ w,(isAgg (ρ.t 24)).run P w = .ok true w)(zE:∀ w,(Go.sizeOf (ρ.t 24)).run P w = .ok k w)(hk:∀ x,(enc x).length=k)(h1:∀ x,∀ v∈enc x,v.oneCell'=true)
  (cf:α→α→Int) (hO:SWO (ltOf cf)) (g blk off cap:Nat) (d:Array α) (w:World) (eg:∀ args w,(callFunc g args).run P w = .ok (.enter g args) w)
  (hc:∀(m:Nat) (os:Array Obj) (dk:Array α) (x y:α),CallsV P g [.agg (enc x).toArray,.agg (enc y).toArray] (sortWorldK enc k w blk off m dk os) fun r w'=>Bel (sortWorldK enc k w blk off m dk os).heap.size (sortWorldK enc k w blk off m dk os) w'∧r = .int .i64 (cf x y))
  (hH:HoldsK enc k w blk off d) (hblk:blk<w.heap.size) (hsz:d.size<4611686018427387904) :
  Calls P (ρ.f 6) #[.slice (some ⟨blk,off,none⟩) d.size cap,.func (.func g) #[] #[]] w fun e w' =>
   e = .returned (.tuple #[])∧∃ d' n os,PermIn 0 d.size d d'∧SortedIn (ltOf cf) 0 d.size d'∧HoldsK enc k w' blk off d'∧w'=sortWorldK enc k w blk off n d' os :=
 (AnyQ.slices_SortFunc L k aE zE enc hk h1 cf hO g #[] blk off cap d w eg (cmp_lays hc) hH hblk hsz).mono fun e w' ⟨he,d',n,os,hp,hs,hw⟩ =>
  ⟨he,d',n,os,hp,hs,hw ▸ holdsK_sortWorldK_c enc k w blk off d d' n os hH hblk hp.1,hw⟩
end
structure EB {α:Type}(R:RelV α)(k:Nat)(M:Nat→Prop)(w:World)(cur:List Value)(l:List α):Prop where
 len:l.length*k≤cur.length
 at_:∀(i:Nat) (a:α),l[i]? = some a→∃ us:List Value,us.length=k∧(∀(q:Nat) (u:Value),us[q]? = some u→cur[i*k+q]? = some u)∧R M w a us
theorem mul_in {i n k:Nat}(h:i<n):i*k+k≤n*k:=by
 have:=zaU k (show i+1≤n from h);rwa [zaQ,zbm] at this
section
variable {β : Type} [Inhabited β] {P : Program} {ρ : Ren} {R : RelV β} {cf : β → β → Int} {k g b cap : Nat} {te : TypeId} {Fz M : Nat → Prop} {w : World} {cur : List Value} {l : List β}
theorem sort_row (L:SlLaysF0.n6 P ρ)(aE:∀ w,(isAgg (ρ.t 24)).run P w = .ok true w)(zE:∀ w,(Go.sizeOf (ρ.t 24)).run P w = .ok k w)(eg:∀ args w,(callFunc g args).run P w = .ok (.enter g args) w)
    (hO:SWO (ltOf cf)) (h1:∀ a us,R M w a us→∀ v∈us,v.oneCell'=true) (hm:M b) (hf:¬ Fz b)
    (hR:∀ W,Le Fz M w M W→∀ a us,R M w a us→R M W a us)
    (hc:∀ W,Le Fz M w M W→∀ x y us vs,R M W x us→R M W y vs→CallsV P g [.agg us.toArray,.agg vs.toArray] W fun r w'=>Bel W.heap.size W w'∧r = .int .i64 (cf x y))
    (hb:Blk w b te cur) (hE:EB R k M w cur l) (hne:0<l.length) (hsz:l.length<4611686018427387904) :
    Calls P (ρ.f 6) #[.slice (some ⟨b,0,none⟩) l.length cap,.func (.func g) #[] #[]] w fun e w' =>
      e = .returned (.tuple #[])∧∃(cur':List Value) (l':List β),l'.Perm l∧(∀ i j,i<j→j<l'.length→¬ cf l'[j]! l'[i]! < 0)∧cur'.length=cur.length∧Blk w' b te cur'∧EB R k M w' cur' l'∧Le Fz M w M w':=by
  have h0:∀ i,∃ us:List Value,∀ a,l[i]? = some a→us.length=k∧(∀(q:Nat) (u:Value),us[q]? = some u→cur[i*k+q]? = some u)∧R M w a us:=fun i=>by
    cases hi:l[i]? with
    | none=>exact⟨[],fun a h=>by cases h⟩
    | some a=>obtain⟨us,h⟩:=hE.at_ i a hi;exact⟨us,fun a' e=>by cases e;exact h⟩
  obtain⟨U,hU⟩:=Classical.axiomOfChoice h0;have hg:∀ i:_root_.Fin l.length,l[i.val]? = some l[i]:=fun i=>zag i.isLt
  let S:={ x:List Value×β // x.1.length=k∧(∀ v∈x.1,v.oneCell'=true)∧R M w x.2 x.1 }
  let d:Array S:=Array.ofFn fun i:_root_.Fin l.length=>⟨(U i,l[i]),(hU i _ (hg i)).1,h1 _ _ (hU i _ (hg i)).2.2,(hU i _ (hg i)).2.2⟩
  let enc:S→List Value:=fun x=>x.1.1
  have hds:d.size=l.length:=Array.size_ofFn
  haveI:Inhabited S:=⟨d[0]'(by omega)⟩
  have hd:∀ i (hi:i<l.length),d[i]! = ⟨(U i,l[i]),(hU i _ (hg ⟨i,hi⟩)).1,h1 _ _ (hU i _ (hg ⟨i,hi⟩)).2.2,(hU i _ (hg ⟨i,hi⟩)).2.2⟩:=fun i hi=>by
    rw[getElem!_pos d i (by omega)];simp[d]
  have hH:HoldsK enc k w b 0 d:=fun j hj=>by
    rw[size_flatK,hds] at hj;have k0:0<k:=by
      rcases zbi k with h | h
      · subst h;simp at hj
      · exact h
    have hi:j/k<l.length:=Nat.div_lt_of_lt_mul (by rw[zat];exact hj);obtain⟨g1,g2,_⟩:=hU (j/k) _ (hg ⟨j/k,hi⟩);rw[get_flatK _ _ _ _ (by rw[hds];exact hj),hd _ hi,zba];have hr:j%k<(U (j/k)).length:=by rw[g1];exact zaH _ k0
    have g3:=g2 (j%k) _ (zag hr);rw[show j/k*k+j%k=j by rw[zat];exact zbz j k] at g3;refine⟨?_,by simp[World.frozen?,show w.heap[b]? = _ from hb]⟩;rw[hb.cell,g3];simp[enc,getElem!_pos (U (j/k)) (j%k) hr]
  have hO':SWO (ltOf fun x y:S=>cf x.1.2 y.1.2):=⟨fun x=>hO.irrefl x.1.2,fun x y z=>hO.trans x.1.2 y.1.2 z.1.2,fun x y z=>hO.ntrans x.1.2 y.1.2 z.1.2⟩;have hs:=sort_calls L aE zE (enc:=enc) (fun x=>x.2.1) (fun x=>x.2.2.1) (fun x y=>cf x.1.2 y.1.2) hO' g b 0 cap d w eg
    (fun m os dk x y=>by
      have hle:=zW4 (enc:=enc) (k:=k) (w:=w) (off:=0) (m:=m) (dk:=dk) (os:=os) (Fz:=Fz) hm hf;exact hc _ hle _ _ _ _ (hR _ hle _ _ x.2.2.2) (hR _ hle _ _ y.2.2.2)) hH hb.lt (by omega)
  rw[hds] at hs;refine hs.mono fun e w' ⟨he,d',n,os,hp,hso,hH',hw⟩=>⟨he,?_⟩;have hle:Le Fz M w M w':=hw ▸ zW4 (Fz:=Fz) (M:=M) hm hf;have hds':d'.size=l.length:=by have:=hp.1;omega
  have hbk:w'.heap[b]? = some (.cells (putCells id 0 (flatK enc k d') cur.toArray) te (0,0)):=by
    rw[hw];show ((w.heap.modify b _)++os)[b]? = _;rw[Array.getElem?_append_left (by simpa using hb.lt),Array.getElem?_modify,if_pos rfl,show w.heap[b]? = _ from hb];rfl
  have hgd:∀ i (hi:i<l.length),(d'.toList.map fun x=>x.1.2)[i]? = some d'[i]!.1.2:=fun i hi=>by
    rw[zbQ,Array.getElem?_toList,zce (by omega),getElem!_pos d' i (by omega)];rfl
  refine⟨(putCells id 0 (flatK enc k d') cur.toArray).toList,d'.toList.map fun x=>x.1.2,?_,?_,?_,?_,⟨?_,?_⟩,hle⟩
  · have h3:=(hp.2.2.map fun x=>x.1.2);rw[show d'.extract 0 l.length=d' by rw[← hds'];exact Array.extract_size,show d.extract 0 l.length=d by rw[← hds];exact Array.extract_size] at h3;refine h3.trans (List.Perm.of_eq ?_);apply List.ext_getElem?;intro i;rw[zbQ,Array.getElem?_toList];rcases zaf i l.length with c | c
    · rw[zce (by omega),zag c];simp[d]
    · rw[Array.getElem?_eq_none (by omega),zcH c];rfl
  · intro i j hij hj;rw[zar,zcF,hds'] at hj;have h4:=hso i j (zaD _) hij hj;rw[List.getElem!_eq_getElem?_getD,List.getElem!_eq_getElem?_getD,hgd i (by omega),hgd j hj];simpa [ltOf] using h4
  · simp[putCells]
  · show w'.heap[b]? = _;rw[hbk]
  · simp[putCells,hds'];exact hE.len
  · intro i a ha;have hi:i<l.length:=by
      have:=(zaL.1 ha).1;rwa [zar,zcF,hds'] at this
    rw[hgd i hi] at ha;obtain rfl:=Option.some.inj ha;refine⟨d'[i]!.1.1,d'[i]!.2.1,fun q u hq=>?_,hR _ hle _ _ d'[i]!.2.2.2⟩;have hq':q<k:=by have:=(zaL.1 hq).1;rw[d'[i]!.2.1] at this;exact this
    have h5:=(hH'.cell (i:=i) (c:=q) (by omega) hq').1;rw[zba,World.cell?,hbk] at h5;have h6:(putCells id 0 (flatK enc k d') cur.toArray)[i*k+q]? = some (enc d'[i]!)[q]!:=by simpa using h5
    rw[Array.getElem?_toList,h6,List.getElem!_eq_getElem?_getD,show (enc d'[i]!)[q]? = some u from hq];rfl
end
end Go.SL
namespace Go.SL
open Go.RowKit
section
variable {P : Program} {r : Option Nat} {N : Nat} {all : Array Oper} {K : Pd} {D : List Deferred} {E : Env} {w : World} {rest : List Oper} {M : Nat → Prop} {α : Type} {R : RelV α} {dflt : α} {cur : List Value} {l : List α} {te : TypeId}
theorem ops_slicelo {d b n c:Nat}{x lo:Operand}{t e t':TypeId}{pos:String}{af:Array Edge}{sz bytes:Nat}{z:Value}{k:IntKind}(j:Nat)(hd:Nat.blt d N=true)
  (ht:P.underlying t=some (.slice e)) (he:Sz P e sz bytes z) (hx:ev E x=some (.slice (some ⟨b,0,none⟩) n c)) (hlo:ev E lo=some (.int k (j:Int))) (hj:j<n) (hn:n≤c)
  (h:Ops P r N all K rest D ((d,.slice (some ⟨b,j*sz,none⟩) (n-j) (c-j))::E) w):Ops P r N all K (⟨some d,.slice t x (some lo) none none,t',pos,af,none⟩::rest) D E w:=by
 refine qO j n c hd ht he hx ⟨k,hlo⟩ rfl rfl (by omega) hn (zab _) ?_;rw[if_neg (by omega)];simpa [xV] using h
theorem ops_effv {op:Op}{t:TypeId}{pos:String}{af:Array Edge}{w':World}{v:Value}(hop:∀ c,op ≠ .defer c)
  (hrun:∀ a,Has a N E→(execOp a.eval ⟨none,op,t,pos,af,none⟩).run P w = .ok (.value v) w')
  (h:Ops P r N all K rest D E w'):Ops P r N all K (⟨none,op,t,pos,af,none⟩::rest) D E w:=by
 intro a Q ha hD hk;refine wpListIn_plain rfl fun K' hK'=>⟨fun _ _=>trivial,?_⟩;rw[kP hop];rw[hrun a ha];exact hK' _ _ (h a Q ha hD hk)
theorem ops_clear2 {b o m cap:Nat}{x:Operand}{t e t':TypeId}{pos:String}{af:Array Edge}{sz bytes:Nat}{z:Value}(ht:P.underlying t=some (.slice e))(he:Sz P e sz bytes z)(hz:z.cells.size=sz)(h1:∀ u∈z.cells.toList,u.oneCell'=true)
  (hx:ev E x=some (.slice (some ⟨b,o,none⟩) m cap)) (hb:Blk w b te cur) (ho:o+m*sz≤cur.length) (hs:0<sz) (hm:0<m)
  (h:∀ w' cur',Chg w w' b→Blk w' b te cur'→cur'.length=cur.length→(∀ i,i<o→cur'[i]? = cur[i]?)→(∀ i u,o≤i→i<o+m*sz→cur'[i]? = some u→u.oneCell'=true)→Ops P r N all K rest D E w') :
  Ops P r N all K (⟨none,.call ⟨.builtin .clear,#[x],#[t]⟩,t',pos,af,none⟩::rest) D E w:=by
 obtain⟨m,rfl⟩:∃ q,m=q+1:=⟨m-1,by omega⟩;have hsz:(Builtin.zeroCells z.cells (m+1)).toList.length=(m+1)*sz:=by simp[Builtin.zeroCells,hz]
 have h1':∀ u∈(Builtin.zeroCells z.cells (m+1)).toList,u.oneCell'=true:=by
  intro u hu;simp only[Builtin.zeroCells,Array.toList_map,zai] at hu;obtain⟨i,_,rfl⟩:=hu;have hi:i%z.cells.size<z.cells.size:=zaH _ (by omega);rw[getElem!_pos z.cells _ hi];exact h1 _ (by simp)
 have hst:=run_storeCells_at (P:=P) b o te (Builtin.zeroCells z.cells (m+1)).toList 0 cur.toArray w hb (by rw[hsz];simp;omega) h1';simp only[zbM,hsz] at hst;obtain⟨i0,i1,i2,i3,i4⟩:=he;obtain⟨W,hW⟩:∃ W,W=w.setRow b (cur.toArray.toList.take o++(Builtin.zeroCells z.cells (m+1)).toList++cur.toArray.toList.drop (o+(m+1)*sz)).toArray:=⟨_,rfl⟩;rw[← hW] at hst;refine ops_effv (v:=.tuple #[]) (by intro c hc;cases hc) (fun a ha=>?_) (h W (cur.take o++(Builtin.zeroCells z.cells (m+1)).toList++cur.drop (o+(m+1)*sz)) ⟨by rw[hW];rfl,⟨by rw[hW];rfl,by rw[hW];exact zab _⟩,by rw[hW];rfl,by rw[hW];simp,fun k hk=>by rw[hW];exact setRow_other _ _ _ _ hk⟩ ?_ ?_ ?_ ?_)
 ·simp only[execOp,resolve,invoke,builtin,Sem.run_bind,Sem.run_pure,Result.andThen,zbL,zaG,zbe,ha.ev hx];have e1:(Builtin.clear_ #[t] t' #[.slice (some ⟨b,o,none⟩) (m+1) cap]).run P w = .ok (.tuple #[]) W:=by
   simp[Builtin.clear_,run_underlying ht,zeroValue,typeInfo,i1,i4,hst]
  simp[e1]
 ·have:=setRow_heap w b _ ((cur.toArray.toList.take o++(Builtin.zeroCells z.cells (m+1)).toList++cur.toArray.toList.drop (o+(m+1)*sz)).toArray) te _ hb;unfold Blk;rw[hW,this]
 ·rw[zal,zal,hsz,zaE,zaV];omega
 ·intro i hi;rw[zaA,List.getElem?_append_left (by rw[zaE];omega),zaN,if_pos hi]
 ·intro i u h3 h4 h5;rw[zaA,List.getElem?_append_right (by rw[zaE];omega),zaE,zaS (by omega),List.getElem?_append_left (by rw[hsz];omega)] at h5;exact h1' u (zam h5)
end
end Go.SL
namespace Go.SL
open Go Go.RowKit
section
variable {Fz M M' : Nat → Prop} {w w' : World}
end
end Go.SL
namespace Go.SL
open Go
def uni:List Nat→List Nat→List Nat
 | [],acc=>acc
 | x::xs,acc=>uni xs (if acc.contains x then acc else x::acc)
theorem zS1:∀(xs acc:List Nat) (y:Nat),y∈uni xs acc↔y∈xs∨y∈acc
 | [],acc,y=>by simp[uni]
 | x::xs,acc,y=>by
  unfold uni;rw[zS1 xs _ y];by_cases h:acc.contains x
  ·rw[if_pos h];have hm:x∈acc:=by simpa using h
   constructor
   ·rintro(c | c)
    ·exact .inl (.tail _ c)
    ·exact .inr c
   ·rintro(c | c)
    ·rcases zad.1 c with e | e
     ·exact .inr (e ▸ hm)
     ·exact .inl e
    ·exact .inr c
  ·rw[if_neg h];simp only[zad];constructor
   ·rintro(c | c | c)
    ·exact .inl (.inr c)
    ·exact .inl (.inl c)
    ·exact .inr c
   ·rintro((c | c) | c)
    ·exact .inr (.inl c)
    ·exact .inl c
    ·exact .inr (.inr c)
theorem gd_l {a b:List (List Nat)}{i:Nat}(h:i<a.length):(a++b).getD i []=a.getD i []:=by
 rw[zah,zah,List.getElem?_append_left h]
theorem gd_r {a b:List (List Nat)}{i:Nat}(h:a.length≤i):(a++b).getD i []=b.getD (i-a.length) []:=by
 rw[zah,zah,List.getElem?_append_right h]
def eI:List Oper→List (List Nat)→List (List Nat)
 | [],acc=>acc
 | o::rest,acc=>eI rest (acc++[uni (dirs o++(dirs o).flatMap fun j=>acc.getD j []) []])
theorem wH:∀(l:List Oper) (a b:List (List Nat)),a.length=b.length→(∀ i j,j∈a.getD i []↔j∈b.getD i [])→∀ i j,j∈(uW l a).getD i []↔j∈(eI l b).getD i []
 | [],a,b,hl,h=>fun i j=>by unfold uW eI;exact h i j
 | o::rest,a,b,hl,h=>fun i j=>by
  unfold uW eI;refine wH rest _ _ (by simp[hl]) (fun i j=>?_) i j;rcases zcy i a.length with c | c | c
  ·rw[gd_l c,gd_l (hl ▸ c)];exact h i j
  ·have e1:(a++[dirs o++(dirs o).flatMap fun j=>a.getD j []]).getD i []=dirs o++(dirs o).flatMap fun j=>a.getD j []:=by
    rw[gd_r (by omega),c];simp
   have e2:(b++[uni (dirs o++(dirs o).flatMap fun j=>b.getD j []) []]).getD i []=uni (dirs o++(dirs o).flatMap fun j=>b.getD j []) []:=by
    rw[gd_r (by omega),c,hl];simp
   rw[e1,e2,zS1];simp only[zae,zbN,zaY,or_false];constructor
   ·rintro(c | ⟨k,hk,c⟩)
    ·exact .inl c
    ·exact .inr ⟨k,hk,(h k j).1 c⟩
   ·rintro(c | ⟨k,hk,c⟩)
    ·exact .inl c
    ·exact .inr ⟨k,hk,(h k j).2 c⟩
  ·rw[gd_r (by omega),gd_r (by omega)];have h1:i-a.length≠0:=by omega
   have h2:i-b.length≠0:=by omega
   simp[zah,List.getElem?_cons,h1,h2]
def xR (ops:Array Oper)(m:Nat):Bool :=
 let l:=ops.toList
 let an:=eI l []
 (l.zipIdx.all fun(o,i)=>(dirs o).all (· < i)) &&
 ((l.take m).zipIdx.all fun(o,i)=>(yE ops o).all fun s=>(l.take m).zipIdx.all fun(p,k)=>if p.dst == some s then(if k<i then(an.getD i []).contains k else if i<k then(an.getD k []).contains i else false) else true) &&
 ((l.take m).zipIdx.all fun(o,i)=>(l.take m).zipIdx.all fun(p,k)=>i == k || p.dst.isNone || p.dst != o.dst) &&
 (l.zipIdx.all fun(o,i)=>i<m || (List.range i).all fun j=>(an.getD i []).contains j)
theorem mR {ops:Array Oper}{m:Nat}(h:xR ops m=true):uT ops m=true:=by
 have heq:∀ i k,((uW ops.toList []).getD i []).contains k=((eI ops.toList []).getD i []).contains k:=fun i k=>by
  have:=wH ops.toList [] [] rfl (fun _ _=>Iff.rfl) i k;rw[zcz,List.contains_iff_mem,List.contains_iff_mem];exact this
 have e:uT ops m=xR ops m:=by
  unfold uT xR ancs;simp only[heq]
 rw[e];exact h
end Go.SL
namespace Go.SL
def cmpR (p q:Rat):Int:=if p<q then -1 else if q<p then 1 else 0
theorem yO {p q:Rat}:cmpR p q<0↔p<q:=by unfold cmpR;grind
theorem gC {p q:Rat}:0<cmpR p q↔q<p:=by unfold cmpR;grind
theorem xC {p q:Rat}:cmpR p q=0↔p=q:=by unfold cmpR;grind
theorem cM {p q:Rat}:cmpR p q≤0↔p≤q:=by unfold cmpR;grind
theorem gD {p q:Rat}:0≤cmpR p q↔q≤p:=by unfold cmpR;grind
theorem zZ9 (p q:Rat):(p.num*q.den-q.num*p.den).sign=cmpR p q:=by
 unfold cmpR;have h1:p<q↔p.num*q.den<q.num*p.den:=Rat.lt_iff p q;have h2:q<p↔q.num*p.den<p.num*q.den:=Rat.lt_iff q p;by_cases a:p<q
 ·rw[if_pos a];have:=h1.1 a;exact zcP (by omega)
 ·rw[if_neg a];have a1:¬ p.num*q.den<q.num*p.den:=fun c=>a (h1.2 c);by_cases b:q<p
  ·rw[if_pos b];have:=h2.1 b;exact zcQ (by omega)
  ·rw[if_neg b];have b1:¬ q.num*p.den<p.num*q.den:=fun c=>b (h2.2 c);rw[show p.num*q.den-q.num*p.den=0 by omega];rfl
def sgnR (p:Rat):Int:=p.num.sign
theorem tY (p:Rat):sgnR p=cmpR p 0:=by
 have:=zZ9 p 0;rw[← this];unfold sgnR;simp
theorem eR {p:Rat}:sgnR p<0↔p<0:=by rw[tY,yO]
theorem lM {p:Rat}:sgnR p=0↔p=0:=by rw[tY,xC]
theorem zU3 {p:Rat}:sgnR p≤0↔p≤0:=by rw[tY,cM]
abbrev P2:=Rat×Rat
abbrev zF:=List (List P2)
def addP (a b:P2):P2:=(a.1+b.1,a.2+b.2)
def subP (a b:P2):P2:=(a.1-b.1,a.2-b.2)
def qV (a:P2)(r:Rat):P2:=(a.1*r,a.2*r)
def zH (a b:P2):Rat:=a.1*b.2-a.2*b.1
def atP (a b:P2)(t:Rat):P2:=addP a (qV (subP b a) t)
def absR (q:Rat):Rat:=if q<0 then -q else q
def farP (a b:P2):Rat:=absR (a.1-b.1)+absR (a.2-b.2)
def cmpP (a b:P2):Int:=if cmpR a.1 b.1≠0 then cmpR a.1 b.1 else cmpR a.2 b.2
def leP (a b:P2):Prop:=a.1<b.1∨a.1=b.1∧a.2≤b.2
instance (a b:P2):Decidable (leP a b):=inferInstanceAs (Decidable (_∨_))
theorem wE {a b:P2}:cmpP a b≤0↔leP a b:=by
 unfold cmpP leP;have h1:=@cM a.1 b.1;have h2:=@xC a.1 b.1;have h3:=@cM a.2 b.2;have h4:=@yO a.1 b.1;grind
theorem xG {a b:P2}:cmpP a b=0↔a=b:=by
 unfold cmpP;have h2:=@xC a.1 b.1;have h3:=@xC a.2 b.2;rw[zbd];grind
theorem aL {a b:P2}:0<cmpP a b ↔ ¬ leP a b:=by rw[← wE];omega
theorem aK {a b:P2}:cmpP a b<0 ↔ ¬ leP b a:=by
 unfold cmpP leP;have h1:=@cM a.1 b.1;have h2:=@xC a.1 b.1;have h3:=@yO a.2 b.2;have h4:=@yO a.1 b.1;grind
theorem jK (a:P2):leP a a:=by unfold leP;grind
theorem jT {a b c:P2}(h:leP a b)(k:leP b c):leP a c:=by unfold leP at *; grind
theorem uI (a b:P2):leP a b∨leP b a:=by unfold leP;grind
theorem jD {a b:P2}(h:leP a b)(k:leP b a):a=b:=by unfold leP at *; rw[Prod.ext_iff];grind
def xY (a b:P2):P2×P2:=if 0<cmpP a b then(b,a) else(a,b)
def uR (s:P2×P2)(p:P2):Rat:=zH (subP s.2 s.1) (subP p s.1)
def qD (s:P2×P2)(p:P2):Prop:=leP s.1 p∧leP p s.2
instance (s:P2×P2)(p:P2):Decidable (qD s p):=inferInstanceAs (Decidable (_∧_))
def hasP (s:P2×P2)(p:P2):Prop:=qD s p∧uR s p=0
instance (s:P2×P2)(p:P2):Decidable (hasP s p):=inferInstanceAs (Decidable (_∧_))
def vL (a b c d:P2):Rat:=zH (subP c a) (subP d c)/zH (subP b a) (subP d c)
def xF (a b c d:P2):Prop:=zH (subP b a) (subP d c)≠0
instance (a b c d:P2):Decidable (xF a b c d):=inferInstanceAs (Decidable (_≠_))
def xN (a b c d:P2):P2:=if xF a b c d then atP a b (vL a b c d) else(0,0)
abbrev Mt:=Int×P2×P2
def yG2:Mt:=(0,(0,0),(0,0))
def loP (s t:P2×P2):P2:=if 0<cmpP t.1 s.1 then t.1 else s.1
def hiP (s t:P2×P2):P2:=if cmpP t.2 s.2<0 then t.2 else s.2
def yA (s t:P2×P2):Mt :=
 if 0<cmpP (loP s t) (hiP s t) then yG2
 else if hasP s (loP s t)∧hasP t (loP s t)∧hasP s (hiP s t)∧hasP t (hiP s t) then
  (if cmpP (loP s t) (hiP s t)=0 then 1 else 2,loP s t,hiP s t)
 else if xF s.1 s.2 t.1 t.2∧qD s (xN s.1 s.2 t.1 t.2)∧qD t (xN s.1 s.2 t.1 t.2) then
  (1,xN s.1 s.2 t.1 t.2,xN s.1 s.2 t.1 t.2)
 else yG2
theorem from_le (a b:P2):leP (xY a b).1 (xY a b).2:=by
 unfold xY;split
 ·rename_i h;rw[aL] at h;rcases uI a b with k | k;exact absurd k h;exact k
 ·rename_i h;rw[aL] at h;exact Classical.not_not.1 h
theorem iS {a b c d:P2}(h:xF a b c d):zH (subP b a) (subP (xN a b c d) a)=0∧zH (subP d c) (subP (xN a b c d) c)=0:=by
 have h':=h;unfold xN;rw[if_pos h];unfold xF at h';unfold vL atP addP qV subP zH at *;simp only at *;constructor<;>grind
theorem pC {a b c d p q:P2}(h:xF a b c d)(h1:zH (subP b a) (subP p a)=0)(h2:zH (subP d c) (subP p c)=0)
  (h3:zH (subP b a) (subP q a)=0) (h4:zH (subP d c) (subP q c)=0):p=q:=by
 unfold xF zH subP at *;rw[zbd];simp only at *;constructor<;>grind
theorem kI {a b c d:P2}:xF a b c d↔xF c d a b:=by
 unfold xF zH subP;simp only;grind
theorem lines_comm {a b c d:P2}(h:xF a b c d):xN a b c d=xN c d a b:=by
 obtain⟨h1,h2⟩:=iS h;obtain⟨h3,h4⟩:=iS (kI.1 h);exact pC h h1 h2 h4 h3
theorem lo_comm (s t:P2×P2):loP s t=loP t s:=by
 unfold loP;have h1:=@aL t.1 s.1;have h2:=@aL s.1 t.1;have h3:=uI s.1 t.1;have h4:=@jD s.1 t.1;grind
theorem hi_comm (s t:P2×P2):hiP s t=hiP t s:=by
 unfold hiP;have h1:=@aK t.2 s.2;have h2:=@aK s.2 t.2;have h3:=uI s.2 t.2;have h4:=@jD s.2 t.2;grind
theorem oZ (s t:P2×P2):yA s t=yA t s:=by
 unfold yA;rw[lo_comm t s,hi_comm t s];by_cases h:xF s.1 s.2 t.1 t.2
 ·rw[lines_comm h];have:=kI.1 h;grind
 ·have:¬ xF t.1 t.2 s.1 s.2:=fun c=>h (kI.1 c);grind
theorem lo_le (s t:P2×P2):leP s.1 (loP s t)∧leP t.1 (loP s t)∧(loP s t=s.1∨loP s t=t.1):=by
 unfold loP;have h1:=@aL t.1 s.1;have h3:=uI s.1 t.1;have h4:=jK s.1;have h5:=jK t.1;split<;>grind
theorem hi_le (s t:P2×P2):leP (hiP s t) s.2∧leP (hiP s t) t.2∧(hiP s t=s.2∨hiP s t=t.2):=by
 unfold hiP;have h1:=@aK t.2 s.2;have h3:=uI s.2 t.2;have h4:=jK s.2;have h5:=jK t.2;split<;>grind
theorem tA {u v x:P2}(hv:v≠(0,0))(h1:zH v x=0)(h2:zH u v=0):zH u x=0:=by
 have hv':v.1≠0∨v.2≠0:=by
  rcases Classical.em (v.1=0) with h | h
  ·right;intro c;exact hv (Prod.ext h c)
  ·exact .inl h
 unfold zH at *;rcases hv' with h | h
 ·have e:v.1*(u.1*x.2-u.2*x.1)=0:=by grind
  grind
 ·have e:v.2*(u.1*x.2-u.2*x.1)=0:=by grind
  grind
theorem nI {s t:P2×P2}{p e:P2}(hs:hasP s p)(ht:hasP t p)(hpar:¬ xF s.1 s.2 t.1 t.2)(he:uR t e=0)(hd:t.1=t.2→e=p):uR s e=0:=by
 have hpar':zH (subP s.2 s.1) (subP t.2 t.1)=0:=Classical.not_not.1 hpar;by_cases h0:t.1=t.2
 ·rw[hd h0];exact hs.2
 ·have hv:subP t.2 t.1≠(0,0):=fun c=>h0 (by
   unfold subP at c;rw[Prod.mk.injEq] at c;rw[zbd];constructor<;>grind)
  have h1:zH (subP t.2 t.1) (subP e p)=0:=by
   have a1:=he;have a2:=ht.2;unfold uR zH subP at *;simp only at *;grind
  have h2:=tA hv h1 hpar';have a3:=hs.2;unfold uR zH subP at *;simp only at *;grind
theorem gN (s:P2×P2):uR s s.1=0∧uR s s.2=0:=by
 unfold uR zH subP;simp only;constructor<;>grind
theorem eO {s:P2×P2}{p e:P2}(h:qD s p)(he:qD s e)(h0:s.1=s.2):e=p:=by
 have h1:=jD (jT h.1 h.2 |> fun _=>h.1) (h0 ▸ h.2:leP p s.1);have h2:=jD he.1 (h0 ▸ he.2:leP e s.1);rw[← h1,← h2]
theorem meets_has {s t:P2×P2}{p:P2}(hs:hasP s p)(ht:hasP t p) :
  (yA s t).1≠0∧hasP s (yA s t).2.1∧hasP t (yA s t).2.1∧hasP s (yA s t).2.2∧hasP t (yA s t).2.2∧hasP (yA s t).2 p∧leP (yA s t).2.1 (yA s t).2.2 ∧
   ((yA s t).1=1∨(yA s t).1=2)∧((yA s t).1=1↔(yA s t).2.1=(yA s t).2.2):=by
 have hl:=lo_le s t;have hh:=hi_le s t;have hlp:leP (loP s t) p:=by rcases hl.2.2 with e | e<;>rw[e];exact hs.1.1;exact ht.1.1
 have hph:leP p (hiP s t):=by rcases hh.2.2 with e | e<;>rw[e];exact hs.1.2;exact ht.1.2
 have hlh:=jT hlp hph;unfold yA;rw[if_neg (fun c=>aL.1 c hlh)];by_cases h4:hasP s (loP s t)∧hasP t (loP s t)∧hasP s (hiP s t)∧hasP t (hiP s t)
 ·rw[if_pos h4];obtain⟨k1,k2,k3,k4⟩:=h4;refine⟨?_,k1,k2,k3,k4,⟨⟨hlp,hph⟩,?_⟩,hlh,?_,?_⟩
  ·simp only;split<;>omega
  ·have a1:=k1.2;have a2:=k3.2;have a3:=hs.2;by_cases h0:s.1=s.2
   ·have e1:=eO hs.1 k1.1 h0;have e2:=eO hs.1 k3.1 h0;unfold uR zH subP;simp only[e1,e2];grind
   ·have hv:subP s.2 s.1≠(0,0):=fun c=>h0 (by
     unfold subP at c;rw[Prod.mk.injEq] at c;rw[zbd];constructor<;>grind)
    have h1:zH (subP s.2 s.1) (subP p (loP s t))=0:=by
     unfold uR zH subP at *; simp only at *; grind
    have h2:zH (subP (hiP s t) (loP s t)) (subP s.2 s.1)=0:=by
     unfold uR zH subP at *; simp only at *; grind
    exact tA hv h1 h2
  ·simp only;split<;>omega
  ·simp only;have:=@xG (loP s t) (hiP s t);split<;>grind
 ·rw[if_neg h4];have hok:xF s.1 s.2 t.1 t.2:=Classical.byContradiction fun c=>h4 (by
   have c':¬ xF t.1 t.2 s.1 s.2:=fun d=>c (kI.1 d);have hsl:qD s (loP s t):=⟨hl.1,jT hlp hs.1.2⟩;have htl:qD t (loP s t):=⟨hl.2.1,jT hlp ht.1.2⟩;have hsh:qD s (hiP s t):=⟨jT hs.1.1 hph,hh.1⟩;have hth:qD t (hiP s t):=⟨jT ht.1.1 hph,hh.2.1⟩;refine⟨⟨hsl,?_⟩,⟨htl,?_⟩,⟨hsh,?_⟩,⟨hth,?_⟩⟩
   ·rcases hl.2.2 with e | e
    ·rw[e];exact(gN s).1
    ·exact nI hs ht c (by rw[e];exact(gN t).1) (fun h0=>eO ht.1 htl h0)
   ·rcases hl.2.2 with e | e
    ·exact nI ht hs c' (by rw[e];exact(gN s).1) (fun h0=>eO hs.1 hsl h0)
    ·rw[e];exact(gN t).1
   ·rcases hh.2.2 with e | e
    ·rw[e];exact(gN s).2
    ·exact nI hs ht c (by rw[e];exact(gN t).2) (fun h0=>eO ht.1 hth h0)
   ·rcases hh.2.2 with e | e
    ·exact nI ht hs c' (by rw[e];exact(gN s).2) (fun h0=>eO hs.1 hsh h0)
    ·rw[e];exact(gN t).2)
  have hq:xN s.1 s.2 t.1 t.2=p:=by
   obtain⟨a1,a2⟩:=iS hok;exact pC hok a1 a2 hs.2 ht.2
  rw[hq,if_pos ⟨hok,hs.1,ht.1⟩];refine⟨by simp,hs,ht,hs,ht,⟨⟨jK p,jK p⟩,(gN (p,p)).1⟩,jK p,.inl rfl,by simp⟩
theorem meets_on {s t:P2×P2}(h:(yA s t).1≠0):hasP s (yA s t).2.1∧hasP t (yA s t).2.1∧hasP s (yA s t).2.2∧hasP t (yA s t).2.2:=by
 unfold yA at h ⊢;split at h
 ·exact absurd rfl h
 ·rename_i h1;rw[if_neg h1];split at h
  ·rename_i h2;rw[if_pos h2];exact⟨h2.1,h2.2.1,h2.2.2.1,h2.2.2.2⟩
  ·rename_i h2;rw[if_neg h2];split at h
   ·rename_i h3;rw[if_pos h3];obtain⟨a1,a2⟩:=iS h3.1;exact⟨⟨h3.2.1,a1⟩,⟨h3.2.2,a2⟩,⟨h3.2.1,a1⟩,⟨h3.2.2,a2⟩⟩
   ·exact absurd rfl h
theorem zI0 {s e:P2}{t:Rat}(h:leP s e)(h0:0≤t)(h1:t≤1):qD (s,e) (atP s e t):=by
 have ht1:0≤1-t:=by grind
 unfold qD leP atP addP qV subP;unfold leP at h;simp only;rcases h with h | ⟨h,k⟩
 ·rcases Classical.em (t=0) with c | c
  ·subst c;grind
  ·rcases Classical.em (t=1) with d | d
   ·subst d;grind
   ·have a1:=zaK (show (0:Rat)<e.1-s.1 by grind) (show (0:Rat)<t by grind);have a2:=zaK (show (0:Rat)<e.1-s.1 by grind) (show (0:Rat)<1-t by grind);exact⟨.inl (by grind),.inl (by grind)⟩
 ·have a1:=zaI (show (0:Rat)≤e.2-s.2 by grind) h0;have a2:=zaI (show (0:Rat)≤e.2-s.2 by grind) ht1;exact⟨.inr ⟨by grind,by grind⟩,.inr ⟨by grind,by grind⟩⟩
theorem at_swap (a b:P2)(t:Rat):atP a b t=atP b a (1-t):=by
 unfold atP addP qV subP;rw[Prod.mk.injEq];constructor<;>grind
theorem has_at {a b:P2}{t:Rat}(h0:0≤t)(h1:t≤1):hasP (xY a b) (atP a b t):=by
 have hside:uR (xY a b) (atP a b t)=0:=by
  unfold xY uR zH atP addP qV subP;split<;>(simp only;grind)
 refine⟨?_,hside⟩;have hle:=from_le a b;unfold xY at hle ⊢;split
 ·rename_i h;rw[if_pos h] at hle;rw[at_swap];exact zI0 hle (by grind) (by grind)
 ·rename_i h;rw[if_neg h] at hle;exact zI0 hle h0 h1
theorem jA {D y:Rat}(hD:0<D)(h:0≤y*D):0≤y:=Classical.byContradiction fun c=>by
 have:=zaK (show (0:Rat) < -y by grind) hD;grind
theorem zY4 {s:P2×P2}{p:P2}(h:hasP s p):s.1.1≤p.1∧p.1≤s.2.1∧(s.1.2≤p.2∧p.2≤s.2.2∨s.2.2≤p.2∧p.2≤s.1.2):=by
 obtain⟨⟨h1,h2⟩,h3⟩:=h;unfold uR zH subP at h3;simp only at h3;have b1:s.1.1≤p.1:=by unfold leP at h1;grind
 have b2:p.1≤s.2.1:=by unfold leP at h2;grind
 refine⟨b1,b2,?_⟩;by_cases h0:s.1.1<s.2.1
 ·have hD:(0:Rat)<s.2.1-s.1.1:=by grind
  by_cases hE:s.1.2≤s.2.2
  ·left;have a1:=zaI (show (0:Rat)≤p.1-s.1.1 by grind) (show (0:Rat)≤s.2.2-s.1.2 by grind);have a2:=zaI (show (0:Rat)≤s.2.1-p.1 by grind) (show (0:Rat)≤s.2.2-s.1.2 by grind);have c1:=jA (y:=p.2-s.1.2) hD (by grind);have c2:=jA (y:=s.2.2-p.2) hD (by grind);exact⟨by grind,by grind⟩
  ·right;have a1:=zaI (show (0:Rat)≤p.1-s.1.1 by grind) (show (0:Rat)≤s.1.2-s.2.2 by grind);have a2:=zaI (show (0:Rat)≤s.2.1-p.1 by grind) (show (0:Rat)≤s.1.2-s.2.2 by grind);have c1:=jA (y:=s.1.2-p.2) hD (by grind);have c2:=jA (y:=p.2-s.2.2) hD (by grind);exact⟨by grind,by grind⟩
 ·left;unfold leP at h1 h2;exact⟨by grind,by grind⟩
def zM (a b:P2)(x:Rat):Rat:=if b.1-a.1=0 then 0 else(atP a b ((x-a.1)/(b.1-a.1))).2
def bI (p:List P2)(i:Nat):P2×P2:=xY (p.getD i (0,0)) (p.getD ((i+1)%p.length) (0,0))
def gT (m:Mt):List P2:=if m.1=0 then [] else [m.2.1,m.2.2]
def yQ (p:List P2):List (P2×P2):=(List.range p.length).map (bI p)
def rawL (es fs:List (P2×P2)):List P2:=es.flatMap fun s=>fs.flatMap fun t=>gT (yA s t)
theorem dO {es fs:List (P2×P2)}{x:P2}:x∈rawL es fs ↔ ∃ s∈es,∃ t∈fs,x∈gT (yA s t):=by
 unfold rawL;simp
theorem kZ {p:List P2}{s:P2×P2}:s∈yQ p ↔ ∃ i,i<p.length∧s=bI p i:=by
 unfold yQ;simp only[zai,zbq];exact⟨fun⟨i,h,e⟩=>⟨i,h,e.symm⟩,fun⟨i,h,e⟩=>⟨i,h,e.symm⟩⟩
theorem mU {p:List P2}{s:Nat}(h:s<p.length):yQ p=(yQ p).take s++bI p s::(yQ p).drop (s+1)∧(yQ p).take (s+1)=(yQ p).take s++[bI p s]:=by
 have hl:s<(yQ p).length:=by simpa [yQ] using h
 have e:(yQ p)[s]=bI p s:=by simp[yQ]
 exact⟨by rw[← e,List.getElem_cons_drop,zbb],by rw[List.take_add_one,zag hl,e];rfl⟩
theorem qH (p:List P2):(yQ p).length=p.length:=by simp[yQ]
theorem pairM_len (m:Mt):(gT m).length≤2:=by unfold gT;split<;>simp
theorem oJ (s:P2×P2):∀(fs:List (P2×P2)),(fs.flatMap fun t=>gT (yA s t)).length≤2*fs.length
 | []=>by simp
 | t::fs=>by
  rw[zcd,zal,zaw];have:=pairM_len (yA s t);have:=oJ s fs;omega
theorem iJ (fs:List (P2×P2)):∀(es:List (P2×P2)),(rawL es fs).length≤2*fs.length*es.length
 | []=>by simp[rawL]
 | s::es=>by
  have h:=iJ fs es;unfold rawL at *;rw[zcd,zal,zaw,zap];have:=oJ s fs;omega
structure IsAll (p q l:List P2):Prop where
 rise:l.Pairwise fun a b=>cmpP a b<0
 mem:∀ x,x∈l↔x∈rawL (yQ p) (yQ q)
theorem fQ {a b c:P2}(h:cmpP a b<0)(k:cmpP b c<0):cmpP a c<0:=by
 rw[aK] at *;exact fun x=>h (jT (Classical.byContradiction fun y=>by rcases uI b c with z | z;exact y z;exact k z) x)
theorem pW (a:P2):¬ cmpP a a<0:=by rw[aK];exact fun c=>c (jK a)
theorem rQ:∀ {l m:List P2},l.Pairwise (fun a b=>cmpP a b<0)→m.Pairwise (fun a b=>cmpP a b<0)→(∀ x,x∈l↔x∈m)→l=m
 | [],[],_,_,_=>rfl
 | [],b::m,_,_,h=>absurd ((h b).2 (by simp)) (by simp)
 | a::l,[],_,_,h=>absurd ((h a).1 (by simp)) (by simp)
 | a::l,b::m,h1,h2,h=>by
  obtain⟨a1,a2⟩:=zav.1 h1;obtain⟨b1,b2⟩:=zav.1 h2;have e:a=b:=by
   rcases zad.1 ((h a).1 (by simp)) with c | c
   ·exact c
   rcases zad.1 ((h b).2 (by simp)) with d | d
   ·exact d.symm
   exact absurd (fQ (a1 b d) (b1 a c)) (pW a)
  subst e;rw[rQ a2 b2 fun x=>⟨fun hx=>?_,fun hx=>?_⟩]
  ·rcases zad.1 ((h x).1 (zbE _ hx)) with c | c
   ·subst c;exact absurd (a1 x hx) (pW x)
   ·exact c
  ·rcases zad.1 ((h x).2 (zbE _ hx)) with c | c
   ·subst c;exact absurd (b1 x hx) (pW x)
   ·exact c
theorem pair_has {s t:P2×P2}{x:P2}(h:x∈gT (yA s t)):hasP s x∧hasP t x:=by
 unfold gT at h;split at h
 ·simp at h
 ·rename_i h0;obtain⟨h1,h2,h3,h4⟩:=meets_on h0;simp at h;rcases h with rfl | rfl
  ·exact⟨h1,h2⟩
  ·exact⟨h3,h4⟩
theorem all_comm {p q l m:List P2}(h:IsAll p q l)(k:IsAll q p m):l=m:=by
 refine rQ h.rise k.rise fun x=>?_;rw[h.mem,k.mem,dO,dO];constructor
 ·rintro⟨s,hs,t,ht,hm⟩;exact⟨t,ht,s,hs,by rw[oZ];exact hm⟩
 ·rintro⟨s,hs,t,ht,hm⟩;exact⟨t,ht,s,hs,by rw[oZ];exact hm⟩
def uZ (q:Rat):Int:=q.num/(q.den:Int)+1
theorem aboveQ_le (q:Rat):((uZ q:Int):Rat)≤q+1:=by
 have hd:(0:Int)<(q.den:Int):=by have:=q.den_nz;omega
 have h:=Int.ediv_mul_le q.num (show (q.den:Int)≠0 by omega);have h2:((q.num/(q.den:Int):Int):Rat)≤q:=by
  rw[Rat.le_iff];simpa using h
 unfold uZ;rw[Rat.intCast_add];have:((1:Int):Rat)=1:=rfl;rw[this];grind
def p2 (s:Nat):Rat:=((2^s:Nat):Rat)
theorem p2_pos (s:Nat):0<p2 s:=by
 unfold p2;have:0<2^s:=zbO (by omega);exact(show ((0:Nat):Rat)=0 from rfl) ▸ zcR.2 this
def dyOk (lo hi:Rat)(s:Nat):Prop:=(uZ (lo*p2 s):Rat)<hi*p2 s
instance (lo hi:Rat)(s:Nat):Decidable (dyOk lo hi s):=inferInstanceAs (Decidable (_<_))
def zZ1 (lo:Rat)(s:Nat):Rat:=mkRat (uZ (lo*p2 s)) (2^s)
theorem dyVal_eq (lo:Rat)(s:Nat):zZ1 lo s*p2 s=uZ (lo*p2 s):=by
 have h:2^s≠0:=Nat.pos_iff_ne_zero.1 (zbO (by omega));have hp:=p2_pos s;unfold zZ1;rw[Rat.mkRat_eq_div];unfold p2 at *;grind
theorem mul_lt_r {a b c:Rat}(hc:0<c):a*c<b*c↔a<b:=Rat.mul_lt_mul_right hc
theorem zZ2 {lo hi:Rat}{s:Nat}(h:1<(hi-lo)*p2 s):dyOk lo hi s:=by
 unfold dyOk;have:=aboveQ_le (lo*p2 s);grind
theorem aA (q:Rat):q*(q.den:Rat)=(q.num:Rat):=by
 have h:=zbF q;rw[Rat.mkRat_eq_div] at h;have hd:(q.den:Rat)≠0:=by
  have:=q.den_nz;intro c;have:((q.den:Nat):Rat)=((0:Nat):Rat):=c;exact q.den_nz (Rat.natCast_inj.1 this)
 grind
theorem zM5 {lo hi:Rat}{a b:Nat}(h:lo<hi)(h1:lo.den<4294967296^a)(h2:hi.den<4294967296^b):dyOk lo hi (32*(a+b)):=by
 apply zZ2;have hx:(lo.num*hi.den:Int)<hi.num*lo.den:=(Rat.lt_iff lo hi).1 h;have d1:=lo.den_nz;have d2:=hi.den_nz;have hD:(0:Rat)<((lo.den*hi.den:Nat):Rat):=by
  exact(show ((0:Nat):Rat)=0 from rfl) ▸ zcR.2 (Nat.mul_pos (by omega) (by omega))
 have e:(hi-lo)*((lo.den*hi.den:Nat):Rat)=((hi.num*lo.den-lo.num*hi.den:Int):Rat):=by
  have a1:hi*(hi.den:Rat)=(hi.num:Rat):=aA hi;have a2:lo*(lo.den:Rat)=(lo.num:Rat):=aA lo;rw[Rat.natCast_mul,zbw,zbG,zbG];have b1:((lo.den:Int):Rat)=(lo.den:Rat):=rfl;have b2:((hi.den:Int):Rat)=(hi.den:Rat):=rfl;rw[b1,b2];grind
 have f:(1:Rat)≤(hi-lo)*((lo.den*hi.den:Nat):Rat):=by
  rw[e];have:((1:Int):Rat)≤((hi.num*lo.den-lo.num*hi.den:Int):Rat):=Rat.intCast_le_intCast.2 (by omega);simpa using this
 have g:((lo.den*hi.den:Nat):Rat)<p2 (32*(a+b)):=by
  unfold p2;apply zcR.2;have:2^(32*(a+b))=4294967296^a*4294967296^b:=by rw[zch,zaJ]
  rw[this];exact Nat.mul_lt_mul'' h1 h2
 have hp:(0:Rat)<hi-lo:=by grind
 have k:=(Rat.mul_lt_mul_left hp).2 g;grind
def zO1 (xs:List Rat)(x:Rat):Option Nat:=xs.findIdx? (fun y=>decide (y=x))
def slabB (xs:List Rat)(x:Rat)(i:Nat):Bool:=decide (i+1<xs.length)&&decide (xs.getD i 0<x)&&decide (x<xs.getD (i+1) 0)
def slabAt (xs:List Rat)(x:Rat):Option Nat:=(List.range xs.length).find? (slabB xs x)
def yK5 (xs:List Rat)(x:Rat):Nat×Bool×Bool:=match zO1 xs x with
 | some i=>(i,true,true)
 | none=>match slabAt xs x with
  | some i=>(i,false,true)
  | none=>(0,false,false)
def dN (xs:List Rat):Prop:=∀ i,i+1<xs.length→xs.getD i 0<xs.getD (i+1) 0
instance (xs:List Rat):Decidable (dN xs):=decidable_of_iff (∀ i,i<xs.length→i+1<xs.length→xs.getD i 0<xs.getD (i+1) 0) ⟨fun h i hi=>h i (by omega) hi,fun h i _ hi=>h i hi⟩
theorem zI3 {xs:List Rat}(h:dN xs):∀(k i:Nat),i+(k+1)<xs.length→xs.getD i 0<xs.getD (i+(k+1)) 0
 | 0,i,hi=>h i hi
 | k+1,i,hi=>by
  have a:=zI3 h k i (by omega);have b:=h (i+(k+1)) (by omega);have e:i+(k+1+1)=i+(k+1)+1:=by omega
  rw[e];grind
theorem aZ {xs:List Rat}(h:dN xs){i j:Nat}(hij:i<j)(hj:j<xs.length):xs.getD i 0<xs.getD j 0:=by
 obtain⟨k,rfl⟩:∃ k,j=i+(k+1):=⟨j-i-1,by omega⟩;exact zI3 h k i hj
theorem wall_some {xs:List Rat}{x:Rat}{i:Nat}(hi:i<xs.length)(h:xs.getD i 0=x)(hn:∀ j,j<i→xs.getD j 0≠x):zO1 xs x=some i:=by
 unfold zO1;rw[List.findIdx?_eq_some_iff_getElem];refine⟨hi,by simpa [List.getD_eq_getElem?_getD,List.getElem?_eq_getElem hi] using h,fun j hj=>?_⟩;have:=hn j hj;simpa [List.getD_eq_getElem?_getD,List.getElem?_eq_getElem (show j<xs.length by omega)] using this
theorem find_wall {xs:List Rat}(h:dN xs){i:Nat}(hi:i<xs.length):yK5 xs (xs.getD i 0)=(i,true,true):=by
 unfold yK5;rw[wall_some hi rfl (fun j hj c=>by have:=aZ h hj hi;grind)]
end Go.SL
namespace Go.Proofs.YtalkinejknjidaaGreatDoor
open Go.SL Go.RowKit Go.Proofs Tryz
section
variable {M : Nat → Prop} {w : World}
theorem tz_c {x:Nat}(hT:Tab M w)(h0:x≠0)(hx:x<18446744073709551616)(hM:OkM M w) :
    CallsV prog 378 [.int .u64 (x:Int)] w fun r w'=>Bel w.heap.size w w'∧r = .int .i64 ((tz x:Nat):Int):=by
 have hk:=mH (n:=64) h0 (zcA hx (by decide));have hlb:=and_low_bit h0 (zcA hx (by decide));rw[show (2:Nat)^64=18446744073709551616 by decide] at hlb;have e58:(2:Nat)^(58:Int).toNat=288230376151711744:=by decide
 have htab:=tab_all (tz x) hk;refine ci M func378 ntmps378 fun Fz hFz hF LL=>?_;refine nU (eJ (fV rfl rfl (xH (nU (nU (eJ (iM rfl rfl (yF8 rfl rfl rfl (xH ?_)))))))));refine SL.wp_cond_d rfl (fun hp=>absurd hp (by omega)) (fun hc0=>?_);refine zQ9 (nU (eJ (iM rfl rfl (iM rfl rfl (ops_negu rfl rfl hx (vH (d:=7) (u:=.int .u64 ((18446744073709551616-x:Nat):Int)) rfl (by show Value.int .u64 _=Value.int .u64 _;congr 2<;>omega) (zJ6 rfl rfl rfl (by simp only[IntKind.bits];omega) (by simp only[IntKind.bits];omega) (.inl rfl) (vH (d:=8) (u:=.int .u64 ((2^tz x:Nat):Int)) rfl (by rw[hlb]) (ops_mulu (b:=285870213051353865) rfl rfl rfl (zJ2 rfl rfl rfl (by simp only[IntKind.bits];omega) (vH (d:=10) (u:=.int .u64 ((2^tz x*285870213051353865%18446744073709551616/288230376151711744:Nat):Int)) rfl (by rw[← e58]) (ops_idxa (2^tz x*285870213051353865%18446744073709551616/288230376151711744) rfl underlying363 sz5 rfl rfl rfl rfl yC9 (bD rfl flat5 rfl (by rw[zba];exact hT.cell yC9) ?_)))))))))))));rw[htab];refine ops_toi rfl underlying5 underlying3 rfl (by omega) ?_;refine fV rfl rfl (xH (yB6 ?_));refine lv1 ⟨rfl,trivial⟩ ?_;subst hFz;exact⟨LL.b,rfl⟩
def zv (b:Bool)(xs:List Nat):Int:=if b then -((val xs:Nat):Int) else((val xs:Nat):Int)
theorem yB2 (b:Bool)(xs:List Nat):(zv b xs).natAbs=val xs:=by cases b<;>simp[zv]
theorem tN (z:Int):zv (decide (z<0)) (limbs z.natAbs)=z:=by
  unfold zv;rw[zI];by_cases h:z<0<;>simp[h]<;>omega
theorem zV {n k:Nat}(h:(limbs n).length≤k):n<4294967296^k:=by
  have:=yJ (limbs n) (yF n);rw[zI] at this;exact zan this (zbj (by omega) h)
theorem zK0 {z:Int}{d:Nat}(hd:d≠0):(mkRat z d).num=z/((Nat.gcd z.natAbs d:Nat):Int)∧(mkRat z d).den=d/Nat.gcd z.natAbs d:=by
  have e:mkRat z d=Rat.normalize z d hd:=by simp[mkRat,hd]
  rw[e,Rat.normalize_eq];exact⟨rfl,rfl⟩
theorem kG {z:Int}{d:Nat}(hd:d≠0):decide ((mkRat z d).num<0)=decide (z<0)∧(mkRat z d).num.natAbs=z.natAbs/Nat.gcd z.natAbs d∧(mkRat z d).den=d/Nat.gcd z.natAbs d:=by
  obtain⟨h1,h2⟩:=zK0 (z:=z) hd;have hg:0<Nat.gcd z.natAbs d:=zcS _ (zaW hd);obtain⟨k,hk⟩:=Nat.gcd_dvd_left z.natAbs d;generalize hG:Nat.gcd z.natAbs d=g at *;have hz:z=((g:Nat):Int)*k∨z = -(((g:Nat):Int)*k):=by
    rcases Int.natAbs_eq z with h | h
    · left;rw[h,hk];simp
    · right;rw[h,hk];simp
  have hgi:((g:Nat):Int)≠0:=by omega
  have hq:z.natAbs/g=k:=by rw[hk,Nat.mul_div_cancel_left _ hg]
  rw[h1,h2];rcases hz with hz | hz
  · have e:z/((g:Nat):Int)=k:=by rw[hz,Int.mul_ediv_cancel_left _ hgi]
    rw[e,hq];refine⟨?_,by simp,rfl⟩;have h0:(0:Int)≤z:=by rw[hz];exact Int.mul_nonneg (by omega) (by omega)
    rw[decide_eq_false (by omega),decide_eq_false (by omega)]
  · have e:z/((g:Nat):Int) = -k:=by rw[hz,← Int.mul_neg,Int.mul_ediv_cancel_left _ hgi]
    rw[e,hq];refine⟨?_,by simp,rfl⟩;rcases zbi k with h0 | h0
    · subst h0;simp at hz;subst hz;simp
    · have:z<0:=by rw[hz];have:=Int.mul_pos (a:=((g:Nat):Int)) (b:=(k:Int)) (by omega) (by omega);omega
      rw[decide_eq_true (by omega),decide_eq_true this]
theorem num_len {s:Bool}{xs ds:List Nat}(h1:∀ x∈xs,x<4294967296)(h2:∀ x∈ds,x<4294967296):(limbs (mkRat (zv s xs) (val ds)).num.natAbs).length≤xs.length∧(limbs (mkRat (zv s xs) (val ds)).den).length≤ds.length+1:=by
  by_cases hd:val ds=0
  · rw[hd];simp[yG,xQ]
  · have h:=kG (z:=zv s xs) hd;rw[yB2] at h;rw[h.2.1,h.2.2];exact⟨zac (zX (zbh _ _)) (zW xs h1),Nat.le_succ_of_le (zac (zX (zbh _ _)) (zW ds h2))⟩
def rlen (q:Rat)(A:Nat):Prop:=(limbs q.num.natAbs).length≤A∧(limbs q.den).length≤A
theorem vA {z:Int}{d A:Nat}(h1:z.natAbs<4294967296^A)(h2:d<4294967296^A)(hd:d≠0):rlen (mkRat z d) A:=by
  have h:=kG (z:=z) hd;unfold rlen;rw[h.2.1,h.2.2];exact⟨zS (zbr (zbh _ _) h1),zS (zbr (zbh _ _) h2)⟩
theorem zN {q:Rat}{A B:Nat}(h:rlen q A)(hAB:A≤B):rlen q B:=⟨zac h.1 hAB,zac h.2 hAB⟩
theorem jB {p q:Rat}{A B:Nat}(h1:rlen p A)(h2:rlen q B):rlen (p+q) (A+B+1):=by
  have e:p+q=mkRat (p.num*q.den+q.num*p.den) (p.den*q.den):=by
    conv=>lhs;rw[← zbF p,← zbF q]
    rw[Rat.mkRat_add_mkRat _ _ p.den_nz q.den_nz]
  rw[e];have a1:=zV h1.1;have a2:=zV h1.2;have a3:=zV h2.1;have a4:=zV h2.2;refine vA ?_ ?_ (Nat.mul_ne_zero p.den_nz q.den_nz)
  · refine zbr (Int.natAbs_add_le _ _) (add_lt_pow ?_ ?_)
    · rw[zbH,zbY];exact xU a1 a4
    · rw[zbH,zbY,Nat.add_comm];exact xU a3 a2
  · exact zan (xU a2 a4) (zbj (by omega) (by omega))
theorem gF {p q:Rat}{A B:Nat}(h1:rlen p A)(h2:rlen q B):rlen (p*q) (A+B):=by
  have e:p*q=mkRat (p.num*q.num) (p.den*q.den):=by
    conv=>lhs;rw[← zbF p,← zbF q]
    rw[Rat.mkRat_mul_mkRat]
  rw[e];have a1:=zV h1.1;have a2:=zV h1.2;have a3:=zV h2.1;have a4:=zV h2.2;refine vA ?_ (xU a2 a4) (Nat.mul_ne_zero p.den_nz q.den_nz);rw[zbH];exact xU a1 a3
theorem qW {p:Rat}{A:Nat}(h:rlen p A):rlen (-p) A:=by unfold rlen;rw[Rat.neg_num,Rat.neg_den,Int.natAbs_neg];exact h
theorem lN:rlen 0 1:=⟨by simp[yG],by simp[xQ]⟩
theorem floor_pos {z:Int}{d:Nat}(h:¬ z<0):zv (decide (z<0)) (limbs (z.natAbs/d))=z/(d:Int):=by
  obtain⟨n,rfl⟩:=Int.eq_ofNat_of_zero_le (Int.not_lt.1 h);rw[decide_eq_false h,zv,zI];simp
theorem floor_neg {z:Int}{d:Nat}(hd:d≠0)(h:z<0)(hr:¬ 0<z.natAbs%d):zv (decide (z<0)) (limbs (z.natAbs/d))=z/(d:Int):=by
  rw[decide_eq_true h,zv,zI,if_pos rfl];obtain⟨n,hn⟩:∃ n:Nat,z = -(n:Int):=⟨z.natAbs,by omega⟩;subst hn;rw[Int.natAbs_neg,zbY] at hr ⊢;have e:=zbz n d;have e2:((d*(n/d):Nat):Int)=(n:Int):=by congr 1;omega
  rw[zcc] at e2;have:=(Int.ediv_emod_unique (a:=-(n:Int)) (b:=(d:Int)) (r:=0) (q:=-((n/d:Nat):Int)) (by omega)).2 ⟨by rw[Int.mul_neg,e2];omega,by omega,by omega⟩;exact this.1.symm
theorem floor_up {z:Int}{d:Nat}(hd:d≠0)(h:z<0)(hr:0<z.natAbs%d):zv (decide (z<0)) (limbs (z.natAbs/d+1))=z/(d:Int):=by
  rw[decide_eq_true h,zv,zI,if_pos rfl];obtain⟨n,hn⟩:∃ n:Nat,z = -(n:Int):=⟨z.natAbs,by omega⟩;subst hn;rw[Int.natAbs_neg,zbY] at hr ⊢;have e:=zbz n d;have hlt:=zaH n (zaW hd);have e2:((d:Nat):Int)*((n/d:Nat):Int)=(n:Int)-((n%d:Nat):Int):=by
    have:((d*(n/d)+n%d:Nat):Int)=(n:Int):=by rw[e]
    rw[Int.natCast_add,zcc] at this;omega
  have:=(Int.ediv_emod_unique (a:=-(n:Int)) (b:=(d:Int)) (r:=(d:Int)-((n%d:Nat):Int)) (q:=-((n/d+1:Nat):Int)) (by omega)).2 ⟨by rw[Int.natCast_add,Int.mul_neg,Int.mul_add,e2];simp;omega,by omega,by omega⟩;exact this.1.symm
structure QC (M:Nat→Prop)(w:World)(n:Nat)(q:Rat)(s:Bool)(a d:Value):Prop where
  ex:∃ xs ds,IsNat M w a xs∧IsNat M w d ds∧xs.length≤n∧ds.length≤n∧mkRat (zv s xs) (val ds)=q
structure RC (M:Nat→Prop)(w:World)(n:Nat)(q:Rat)(s:Bool)(a d:Value):Prop where
  sgn:s=decide (q.num<0)
  num:IsNat M w a (limbs q.num.natAbs)
  den:IsNat M w d (limbs q.den)
  len:rlen q n
section
variable {Fz M M' T S : Nat → Prop} {w w' : World} {n m k : Nat} {q : Rat} {s : Bool} {a d : Value}
theorem QC.up (h:QC M w n q s a d)(hm:n≤m):QC M w m q s a d:=by
  obtain⟨xs,ds,h1,h2,h3,h4,h5⟩:=h.ex;exact⟨xs,ds,h1,h2,by omega,by omega,h5⟩
theorem QC.rlen (h:QC M w n q s a d):rlen q (n+1):=by
  obtain⟨xs,ds,h1,h2,h3,h4,rfl⟩:=h.ex;have:=num_len (s:=s) h1.lt h2.lt;exact⟨by omega,by omega⟩
theorem QC.sl (h:QC M w n q s a d):(∃ x i j,a = .slice x i j)∧∃ x i j,d = .slice x i j:=by
  obtain⟨xs,ds,h1,h2,h3⟩:=h.ex;obtain⟨_,_,ad,cap,rfl,_⟩:=h1.slc;obtain⟨_,_,ad2,cap2,rfl,_⟩:=h2.slc;exact⟨⟨_,_,_,rfl⟩,_,_,_,rfl⟩
theorem QC.one (h:QC M w n q s a d):a.oneCell'=true∧d.oneCell'=true∧True:=by
  obtain⟨⟨_,_,_,rfl⟩,_,_,_,rfl⟩:=h.sl;exact⟨rfl,rfl,trivial⟩
theorem RC.up (h:RC M w n q s a d)(hm:n≤m):RC M w m q s a d:=⟨h.sgn,h.num,h.den,zN h.len hm⟩
theorem RC.gen (h:RC M w n q s a d):QC M w n q s a d:=⟨_,_,h.num,h.den,h.len.1,h.len.2,by rw[h.sgn,tN,zI,zbF]⟩
theorem RC.one (h:RC M w n q s a d):a.oneCell'=true∧d.oneCell'=true∧True:=h.gen.one
end
end
end Go.Proofs.YtalkinejknjidaaGreatDoor
namespace Go.Proofs.YtalkinejknjidaaGreatDoor
open Go Go.SL Go.RowKit Tryz
section
variable {Fz M M' : Nat → Prop} {w w' : World}
end
end Go.Proofs.YtalkinejknjidaaGreatDoor
namespace Go.Proofs.YtalkinejknjidaaGreatDoor
open Go.SL Go.RowKit Go.Proofs Tryz
section
variable {M : Nat → Prop} {w : World}
theorem yE9 (p q:Rat):mkRat (p.num*zv (decide (q.num<0)) (limbs q.den)) (p.den*q.num.natAbs)=p/q:=by
  rw[Rat.mkRat_eq_div];have e1:=aA p;have e2:=aA q;have d1:(p.den:Rat)≠0:=fun c=>p.den_nz (Rat.natCast_inj.1 (show ((p.den:Nat):Rat)=((0:Nat):Rat) from c));have d2:(q.den:Rat)≠0:=fun c=>q.den_nz (Rat.natCast_inj.1 (show ((q.den:Nat):Rat)=((0:Nat):Rat) from c));rw[zbG,Rat.natCast_mul];by_cases h:q.num<0
  · have f:((q.num.natAbs:Nat):Rat) = -(q.num:Rat):=by
      rw[← Rat.intCast_neg,← Int.natAbs_neg];have:(((-q.num).natAbs:Nat):Int) = -q.num:=by omega
      rw[← this];rfl
    rw[f,decide_eq_true h,zv,if_pos rfl,zI,Rat.intCast_neg];have g:(((q.den:Nat):Int):Rat)=(q.den:Rat):=rfl;rw[g];have hn:(q.num:Rat)≠0:=by
      intro c;have:((q.num:Int):Rat)=((0:Int):Rat):=c;have:=Rat.intCast_inj.1 this;omega
    grind
  · have f:((q.num.natAbs:Nat):Rat)=(q.num:Rat):=by
      have:((q.num.natAbs:Nat):Int)=q.num:=by omega
      rw[show ((q.num.natAbs:Nat):Rat)=(((q.num.natAbs:Nat):Int):Rat) from rfl,this]
    rw[f,decide_eq_false h,zv,if_neg (by simp),zI];have g:(((q.den:Nat):Int):Rat)=(q.den:Rat):=rfl;rw[g];by_cases h0:q.num=0
    · have hq:q=0:=by rw[← Rat.num_eq_zero];exact h0
      subst hq;simp[Rat.div_def]
    · have hn:(q.num:Rat)≠0:=by
        intro c;have:((q.num:Int):Rat)=((0:Int):Rat):=c;exact h0 (Rat.intCast_inj.1 this)
      grind
theorem quo_zero (p q:Rat):(p.den*q.num.natAbs=0)=(q=0):=by
  apply propext;rw[Nat.mul_eq_zero];constructor
  · intro h;rcases h with h | h
    · exact absurd h p.den_nz
    · rw[← Rat.num_eq_zero];omega
  · intro h;subst h;exact .inr rfl
theorem oL {p q:Rat}{A B:Nat}(h1:rlen p A)(h2:rlen q B):rlen (p/q) (A+B+1):=by
  rw[← yE9];by_cases hq:q=0
  · subst hq;have:p.den*(0:Rat).num.natAbs=0:=by simp
    rw[this,Rat.mkRat_zero];exact zN lN (by omega)
  · have a1:=zV h1.1;have a2:=zV h1.2;have a3:=zV h2.1;have a4:=zV h2.2;refine zN (vA (A:=A+B) ?_ (xU a2 a3) (fun c=>hq ((quo_zero p q) ▸ c))) (by omega);rw[zbH,yB2,zI];exact xU a1 a4
end
end Go.Proofs.YtalkinejknjidaaGreatDoor
