/- Lemmas and walks of functions; no statement. -/
import Derived.RangeFuncNested
import Derived.RangeFuncBound
import Derived.RangeFuncCalls
import Derived.RangeFuncLeaves
import Derived.WalkKit
import Derived.OwnWalkIn
import Derived.TacticsInMore
import Derived.OrdersIn
import Derived.LoopNIn
import Derived.LoopIn
import Derived.ProofKit
import Derived.Deep.Matrix
import Derived.Laws.Tables
import Derived.Laws.Externs
import Derived.Test.YtalkinejknjidaaGreatDoorProg
import Derived.Sort.Grow
import Derived.Deep.Draws
import Derived.Shelf.SlSortCmp.InsertionK
import Derived.Shelf.SlLaysF0
import Derived.Shelf.SlSortCmp.WholeK
import Derived.Shelf.SlSortCmp.NoneTotal
import Derived.Shelf.SlicesQ.Reverse
set_option linter.unusedVariables false
set_option linter.unusedSimpArgs false
namespace Go.SL
open Go.RowKit
structure Tp (w w':World):Prop where
 eq:w'.tape=w.tape
 le:w.drawn≤w'.drawn
theorem Tp.refl (w:World):Tp w w:=⟨rfl,Nat.le_refl _⟩
theorem Tp.trans {a b c:World} (k:Tp b c) (h:Tp a b):Tp a c:=⟨k.eq.trans h.eq,Nat.le_trans h.le k.le⟩
structure Bel (B:Nat) (w w':World):Prop where
 os:w'.os=w.os
 tape:Tp w w'
 output:w'.output=w.output
 size:w.heap.size≤w'.heap.size
 block:∀ k,k < B→w'.heap[k]? = w.heap[k]?
theorem Bel.refl (B:Nat) (w:World):Bel B w w:=⟨rfl,Tp.refl w,rfl,Nat.le_refl _,fun _ _=>rfl⟩
theorem Bel.trans {B:Nat} {a b c:World} (h:Bel B a b) (k:Bel B b c):Bel B a c :=
 ⟨k.os.trans h.os,k.tape.trans h.tape,k.output.trans h.output,Nat.le_trans h.size k.size,fun i hi=>(k.block i hi).trans (h.block i hi)⟩
theorem Bel.mono {B B':Nat} {w w':World} (h:Bel B w w') (hB:B'≤B):Bel B' w w':=⟨h.os,h.tape,h.output,h.size,fun k hk=>h.block k (Nat.lt_of_lt_of_le hk hB)⟩
theorem Bel.alloc {B:Nat} {a w:World} (h:Bel B a w) (hB:B≤w.heap.size) (o:Obj):Bel B a (w.alloc o) :=
 h.trans ⟨rfl,⟨rfl,Nat.le_refl _⟩,rfl,by simp,fun k hk=>Below.heap_alloc _ _ _ (by omega)⟩
theorem Bel.b {B:Nat} {w w':World} (h:Bel B w w'):Below B w w':=⟨h.os,h.tape.eq,h.output,h.size,h.block⟩
structure Gro (w w':World) (row:Option Nat):Prop where
 g:w.grownBy w' row
 le:w.drawn≤w'.drawn
theorem Gro.os {w w':World} {row:Option Nat} (h:Gro w w' row):w'.os=w.os:=h.g.os
theorem Gro.tape {w w':World} {row:Option Nat} (h:Gro w w' row):Tp w w':=⟨h.g.tape,h.le⟩
theorem Gro.output {w w':World} {row:Option Nat} (h:Gro w w' row):w'.output=w.output:=h.g.output
theorem Gro.size {w w':World} {row:Option Nat} (h:Gro w w' row):w.heap.size≤w'.heap.size:=h.g.size
theorem Gro.block {w w':World} {row:Option Nat} (h:Gro w w' row):∀ k,k < w.heap.size→some k ≠ row→w'.heap[k]? = w.heap[k]?:=h.g.block
def Fr (r:Option Nat):Fence:={ fn:=fun _=>True,depth:=none,alive:=false,round:=r }
abbrev Env:=List (Nat × Value)
def get:Env→Nat→Option Value
 | [],_=>none
 | (k,v) :: E,i=>bif Nat.beq k i then some v else get E i
theorem gH {k i:Nat} {v:Value} {E:Env} (h:Nat.beq k i=true):get ((k,v) :: E) i=some v:=by simp [get,h]
theorem bL {k i:Nat} {v:Value} {E:Env} (h:Nat.beq k i=false):get ((k,v) :: E) i=get E i:=by simp [get,h]
structure Has (a:Act) (N:Nat) (E:Env):Prop where
 size:a.tmps.size=N
 at_:∀ i v,get E i=some v→a.tmps[i]? = some v
theorem Has.put {a:Act} {N:Nat} {E:Env} (h:Has a N E) {d:Nat} (hd:Nat.blt d N=true) (v:Value):Has (a.put (some d) v) N ((d,v) :: E):=by
 have hd:d < N:=by simpa [Nat.blt_eq] using hd
 refine ⟨by simp [Act.put,h.size],fun i u hu=>?_⟩
 simp only [Act.put]
 unfold get at hu
 cases hb:Nat.beq d i with
 | true =>
  have hi:d=i:=Nat.eq_of_beq_eq_true hb
  subst hi
  simp [hb] at hu
  subst hu
  simp [h.size,hd]
 | false =>
  rw [hb] at hu
  have hne:d ≠ i:=Nat.ne_of_beq_eq_false hb
  rw [Array.getElem?_setIfInBounds_ne hne]
  exact h.at_ i u hu
def Sub:Env→Env→Prop
 | [],_=>True
 | (i,v) :: r,E=>get E i=some v∧Sub r E
theorem Sub.get:∀ {E' E:Env},Sub E' E→∀ i v,get E' i=some v→get E i=some v
 | [],_,_,_,_,h=>by simp [SL.get] at h
 | (k,u) :: r,E,⟨h1,h2⟩,i,v,h=>by
  unfold SL.get at h
  cases hb:Nat.beq k i with
  | true =>
   have hi:k=i:=Nat.eq_of_beq_eq_true hb
   simp [hb] at h
   subst hi; subst h; exact h1
  | false=>rw [hb] at h; exact Sub.get h2 i v h
theorem Has.sub {a:Act} {N:Nat} {E E':Env} (h:Has a N E) (hs:Sub E' E):Has a N E' :=
 ⟨h.size,fun i v hi=>h.at_ i v (hs.get i v hi)⟩
theorem yZ {E:Env}:Sub [] E:=trivial
theorem zD {i:Nat} {v:Value} {r E:Env} (h:get E i=some v) (hr:Sub r E):Sub ((i,v) :: r) E:=⟨h,hr⟩
theorem yJ {i:Nat} {u v:Value} {r E:Env} (h:get E i=some u) (e:u=v) (hr:Sub r E):Sub ((i,v) :: r) E:=⟨e ▸ h,hr⟩
def ev (E:Env):Operand→Option Value
 | .tmp t=>get E t
 | .const v=>some v
 | .global g=>some (.pointer (some ⟨g,0,none⟩))
 | .func f=>some (.func (.func f) #[] #[])
theorem Has.ev {a:Act} {N:Nat} {E:Env} (h:Has a N E) {x:Operand} {v:Value} (hx:ev E x=some v):a.eval x=v:=by
 cases x with
 | tmp t =>
  have:=h.at_ t v hx
  simp [Act.eval,this]
 | const u=>exact Option.some.inj hx
 | global g=>exact Option.some.inj hx
 | func f=>exact Option.some.inj hx
def evs (E:Env):List Operand→Option (List Value)
 | []=>some []
 | x :: r=>match ev E x,evs E r with
  | some v,some vs=>some (v :: vs)
  | _,_=>none
theorem Has.evs {a:Act} {N:Nat} {E:Env} (h:Has a N E):∀ {xs:List Operand} {vs:List Value},evs E xs=some vs→xs.map a.eval=vs
 | [],vs,hv=>by simpa [SL.evs] using hv
 | x :: r,vs,hv=>by
  unfold SL.evs at hv
  cases h1:SL.ev E x with
  | none=>simp [h1] at hv
  | some v =>
   cases h2:SL.evs E r with
   | none=>simp [h1,h2] at hv
   | some us =>
    simp [h1,h2] at hv
    subst hv
    simp [h.ev h1,Has.evs h h2]
abbrev Pd:=List Deferred→Env→World→Prop
def Ops (P:Program) (r:Option Nat) (N:Nat) (all:Array Oper) (K:Pd) (l:List Oper) (D:List Deferred) (E:Env) (w:World):Prop :=
 ∀ (a:Act) (Q:Exit→Act→World→Prop),Has a N E→a.defers=D →
  (∀ a' w' E',Has a' N E'→K a'.defers E' w'→Q .normal a' w')→wpListIn (Fr r) 0 P all Q l a w
def toQ (N:Nat) (Kn:Pd) (Ke:Nat→Pd) (Kr:Pd):Exit→Act→World→Prop
 | .normal,a,w=>∃ E,Has a N E∧Kn a.defers E w
 | .exit id,a,w=>∃ E,Has a N E∧Ke id a.defers E w
 | .ret,a,w=>∃ E,Has a N E∧Kr a.defers E w
 | _,_,_=>False
def Wp (P:Program) (r:Option Nat) (N:Nat) (c:Code) (Kn:Pd) (Ke:Nat→Pd) (Kr:Pd) (D:List Deferred) (E:Env) (w:World):Prop :=
 ∀ a:Act,Has a N E→a.defers=D→c.wpIn (Fr r) 0 P (toQ N Kn Ke Kr) a w
def upd (Ke:Nat→Pd) (id:Nat) (K:Pd):Nat→Pd:=fun i=>if i=id then K else Ke i
section rules
variable {P : Program} {r : Option Nat} {N : Nat} {Kn Kr : Pd} {Ke : Nat → Pd} {D : List Deferred} {E : Env} {w : World}
theorem wp_sub {c:Code} {E':Env} (hs:Sub E' E) (h:Wp P r N c Kn Ke Kr D E' w):Wp P r N c Kn Ke Kr D E w :=
 fun a ha hd=>h a (ha.sub hs) hd
theorem zH {x y:Code} (h:Wp P r N x (fun D E w=>Wp P r N y Kn Ke Kr D E w) Ke Kr D E w):Wp P r N (.seq x y) Kn Ke Kr D E w:=by
 intro a ha hd
 refine wpIn_seq (wpIn_mono (h a ha hd) ?_)
 intro e a' w' hq
 cases e with
 | normal=>obtain ⟨E',hE,hk⟩:=hq; exact hk a' hE rfl
 | exit id=>exact hq
 | ret=>exact hq
 | goto l=>exact hq
 | panic c=>exact hq
 | outgrown=>exact hq
theorem xH (h:Kn D E w):Wp P r N .skip Kn Ke Kr D E w:=fun _ ha hd=>wpIn_skip ⟨E,ha,by rw [hd]; exact h⟩
theorem yX (h:Kr D E w):Wp P r N .ret Kn Ke Kr D E w:=fun _ ha hd=>wpIn_ret ⟨E,ha,by rw [hd]; exact h⟩
theorem gF {id:Nat} (h:Ke id D E w):Wp P r N (.exit id) Kn Ke Kr D E w:=fun _ ha hd=>wpIn_exit ⟨E,ha,by rw [hd]; exact h⟩
theorem yV {id:Nat} {c:Code} (h:Wp P r N c Kn (upd Ke id Kn) Kr D E w):Wp P r N (.block id c) Kn Ke Kr D E w:=by
 intro a ha hd
 refine wpIn_block (wpIn_mono (h a ha hd) ?_)
 intro e a' w' hq
 cases e with
 | normal=>exact hq
 | exit i =>
  obtain ⟨E',hE,hk⟩:=hq
  simp only [upd] at hk
  show if i=id then _ else _
  by_cases hi:i=id
  ·rw [if_pos hi] at hk ⊢; exact ⟨E',hE,hk⟩
  ·rw [if_neg hi] at hk ⊢; exact ⟨E',hE,hk⟩
 | ret=>exact hq
 | goto l=>exact hq
 | panic c=>exact hq
 | outgrown=>exact hq
theorem gP {id:Nat} {K:Pd} (h:K D E w):upd Ke id K id D E w:=by simpa [upd] using h
theorem eI {i id:Nat} {K:Pd} (hne:Nat.beq i id=false) (h:Ke i D E w):upd Ke id K i D E w:=by
 have:i ≠ id:=Nat.ne_of_beq_eq_false hne
 simpa [upd,this] using h
theorem sT {c:Operand} {x y:Code} (hc:ev E c=some (.bool true)) (h:Wp P r N x Kn Ke Kr D E w):Wp P r N (.cond c x y) Kn Ke Kr D E w :=
 fun a ha hd=>wpIn_cond_true (ha.ev hc) (h a ha hd)
theorem sU {c:Operand} {x y:Code} (hc:ev E c=some (.bool false)) (h:Wp P r N y Kn Ke Kr D E w):Wp P r N (.cond c x y) Kn Ke Kr D E w :=
 fun a ha hd=>wpIn_cond_false (ha.ev hc) (h a ha hd)
theorem dD {c:Operand} {x y:Code} {b:Bool} (hc:ev E c=some (.bool b)) (ht:b=true→Wp P r N x Kn Ke Kr D E w) (hf:b=false→Wp P r N y Kn Ke Kr D E w) :
  Wp P r N (.cond c x y) Kn Ke Kr D E w:=by
 cases b
 ·exact sU hc (hf rfl)
 ·exact sT hc (ht rfl)
theorem yI {c:Operand} {x y:Code} {p:Prop} [Decidable p] (hc:ev E c=some (.bool (decide p))) (ht:p→Wp P r N x Kn Ke Kr D E w) (hf:¬ p→Wp P r N y Kn Ke Kr D E w) :
  Wp P r N (.cond c x y) Kn Ke Kr D E w :=
 dD hc (fun h=>ht (of_decide_eq_true h)) (fun h=>hf (of_decide_eq_false h))
theorem zC {id:Nat} {l:List Oper} (h:Ops P r N l.toArray Kn l D E w):Wp P r N (.region id l.toArray false) Kn Ke Kr D E w :=
 fun a ha hd=>wpIn_region_lit (h a _ ha hd fun _ _ E' hE hk=>⟨E',hE,hk⟩)
theorem wp_loop {σ:Type} {body:Code} (EI:σ→Env) (J:σ→List Deferred→World→Prop) (μ:σ→Nat) (s0:σ) (hE:Sub (EI s0) E) (hJ:J s0 D w)
  (round:∀ s D w,J s D w→Wp P r N body (fun D' E' w'=>∃ s',Sub (EI s') E'∧J s' D' w'∧μ s' < μ s) Ke Kr D (EI s) w) :
  Wp P r N (.loop body) Kn Ke Kr D E w:=by
 intro a ha hd
 refine wpIn_loop (fun a' w'=>∃ j s,μ s=j∧Has a' N (EI s)∧J s a'.defers w' ) (fun a' w'=>Classical.epsilon fun j=>(∃ s,μ s=j∧Has a' N (EI s)∧J s a'.defers w')∧∀ k,(∃ s,μ s=k∧Has a' N (EI s)∧J s a'.defers w')→j≤k) ⟨_,s0,rfl,ha.sub hE,by rw [hd]; exact hJ⟩ ?_
 intro a1 w1 hI
 -- the least measure
 have hleast:∃ j,(∃ s,μ s=j∧Has a1 N (EI s)∧J s a1.defers w1)∧∀ k,(∃ s,μ s=k∧Has a1 N (EI s)∧J s a1.defers w1)→j≤k:=by
  obtain ⟨j,hj⟩:=hI
  induction j using Nat.strongRecOn with
  | _ j ih =>
   by_cases hm:∃ k,k < j∧∃ s,μ s=k∧Has a1 N (EI s)∧J s a1.defers w1
   ·obtain ⟨k,hk,hs⟩:=hm; exact ih k hk hs
   ·refine ⟨j,hj,fun k hk=>?_⟩
    rcases Nat.lt_or_ge k j with h | h
    ·exact absurd ⟨k,h,hk⟩ hm
    ·exact h
 have hsp:=Classical.epsilon_spec hleast
 obtain ⟨⟨s,hs,hE1,hJ1⟩,_⟩:=hsp
 refine wpIn_mono (round s _ w1 hJ1 a1 hE1 rfl) ?_
 intro e a2 w2 hq
 cases e with
 | normal =>
  obtain ⟨E',hE',s',hsub,hJ',hlt⟩:=hq
  have h2:∃ s,μ s=μ s'∧Has a2 N (EI s)∧J s a2.defers w2:=⟨s',rfl,hE'.sub hsub,hJ'⟩
  refine ⟨⟨_,h2⟩,?_⟩
  have hleast2:∃ j,(∃ s,μ s=j∧Has a2 N (EI s)∧J s a2.defers w2)∧∀ k,(∃ s,μ s=k∧Has a2 N (EI s)∧J s a2.defers w2)→j≤k:=by
   have:∃ j,∃ s,μ s=j∧Has a2 N (EI s)∧J s a2.defers w2:=⟨_,h2⟩
   obtain ⟨j,hj⟩:=this
   induction j using Nat.strongRecOn with
   | _ j ih =>
    by_cases hm:∃ k,k < j∧∃ s,μ s=k∧Has a2 N (EI s)∧J s a2.defers w2
    ·obtain ⟨k,hk,hs⟩:=hm; exact ih k hk hs
    ·refine ⟨j,hj,fun k hk=>?_⟩
     rcases Nat.lt_or_ge k j with h | h
     ·exact absurd ⟨k,h,hk⟩ hm
     ·exact h
  have hsp2:=Classical.epsilon_spec hleast2
  exact Nat.lt_of_le_of_lt (hsp2.2 _ h2) (by rw [← hs]; exact hlt)
 | exit id=>exact hq
 | ret=>exact hq
 | goto l=>exact hq
 | panic c=>exact hq
 | outgrown=>exact hq
end rules
def CallsV (P:Program) (f:FuncId) (args:List Value) (w:World) (R:Value→World→Prop):Prop :=
 Calls P f args.toArray w fun e w'=>∃ v,e = .returned v∧R v w'
theorem CallsV.mono {P:Program} {f:FuncId} {args:List Value} {w:World} {R R':Value→World→Prop} (h:CallsV P f args w R) (hr:∀ v w',R v w'→R' v w'):CallsV P f args w R' :=
 Calls.mono h fun _ _ ⟨v,he,hv⟩=>⟨v,he,hr v _ hv⟩
def env0:Nat→List Value→Env
 | _,[]=>[]
 | i,v :: r=>(i,v) :: env0 (i + 1) r
theorem env0_has (N:Nat) (args:List Value) (hN:Nat.ble args.length N=true) (D:List Deferred) :
  Has { tmps:=args.toArray ++ Array.replicate (N - args.toArray.size) undef,defers:=D } N (env0 0 args):=by
 have hN:args.length≤N:=by simpa [Nat.ble_eq] using hN
 have key:∀ (l:List Value) (k:Nat) i v,get (env0 k l) i=some v→k≤i∧l[i - k]? = some v:=by
  intro l
  induction l with
  | nil=>intro k i v h; simp [env0,get] at h
  | cons u l ih =>
   intro k i v h
   unfold env0 get at h
   cases hb:Nat.beq k i with
   | true =>
    have hi:k=i:=Nat.eq_of_beq_eq_true hb
    subst hi
    simp [hb] at h
    simp [h]
   | false =>
    rw [hb] at h
    obtain ⟨h1,h2⟩:=ih (k + 1) i v h
    refine ⟨by omega,?_⟩
    have:i - k=(i - (k + 1)) + 1:=by omega
    rw [this]; simpa using h2
 refine ⟨by simp; omega,fun i v h=>?_⟩
 obtain ⟨_,h2⟩:=key args 0 i v h
 simp at h2
 have hlt:i < args.length:=(List.getElem?_eq_some_iff.1 h2).1
 simp [Array.getElem?_append,hlt]
 exact (List.getElem?_eq_some_iff.1 h2).2
def xN:List Value→Value
 | [v]=>v
 | vs => .tuple vs.toArray
end Go.SL
namespace Go.SL
open Go.RowKit
def Res (P:Program) (E:Env) (w:World):List ResultVar→List Value→Prop
 | [],[]=>True
 | .tmp t :: r,v :: vs=>get E t=some v∧Res P E w r vs
 | .cell a t :: r,v :: vs=>(∃ ad,get E a=some (.pointer (some ad))∧(loadVar t ad).run P w = .ok v w)∧Res P E w r vs
 | _,_=>False
def zR2:List Deferred→World→(World→Prop)→Prop
 | [],w,K=>K w
 | d :: ds,w,K=>∃ b,d.target = .collected b∧w.heap[b]? = some (.deferred (some []))∧zR2 ds (w.putObj b (.deferred none)) K
theorem gU {w:World} {K:World→Prop} (h:K w):zR2 [] w K:=h
def Fin (P:Program) (rs:List ResultVar) (R:Value→World→Prop):Pd :=
 fun D E w=>zR2 D w fun w'=>∃ vs,Res P E w' rs vs∧R (xN vs) w'
theorem res_run {P:Program} {fn:Func} {a:Act} {N:Nat} {E:Env} {w:World} (ha:Has a N E) {vs:List Value} (h:Res P E w fn.results.toList vs) :
  (results fn a.tmps).run P w = .ok (xN vs) w:=by
 have key:∀ (rs:List ResultVar) (vs:List Value),Res P E w rs vs →
   (rs.mapM (m:=Sem) fun | .tmp t=>pure (a.tmps.getD t undef) | .cell b t=>do loadVar t (← asAddr (a.tmps.getD b undef))).run P w = .ok vs w:=by
  intro rs
  induction rs with
  | nil=>intro vs h; cases vs with
   | nil=>rfl
   | cons=>exact h.elim
  | cons x rs ih =>
   intro vs h
   cases vs with
   | nil=>cases x <;> exact h.elim
   | cons v vs =>
    rw [List.mapM_cons]
    cases x with
    | tmp t =>
     obtain ⟨h1,h2⟩:=h
     have e1:a.tmps.getD t undef=v:=by simp [ha.at_ t v h1]
     have e2:=ih vs h2
     simp only [e1]
     simp only [Sem.run_bind,Sem.run_pure,Result.andThen] at e2 ⊢
     rw [e2]
    | cell b t =>
     obtain ⟨⟨ad,h1,h3⟩,h2⟩:=h
     have e1:a.tmps.getD b undef = .pointer (some ad):=by simp [ha.at_ b _ h1]
     have e2:=ih vs h2
     have e3:asAddr (a.tmps.getD b undef)=pure ad:=by rw [e1]; rfl
     simp only [e3]
     simp only [Sem.run_bind,Sem.run_pure,Result.andThen] at e2 ⊢
     rw [h3]; simp only []; rw [e2]
 have hk:=key fn.results.toList vs h
 unfold results
 rw [Array.mapM_eq_mapM_toList]
 generalize hg:List.mapM (m:=Sem) _ fn.results.toList=m
 have hm:m.run P w = .ok vs w:=by rw [← hg]; exact hk
 simp only [Sem.run_bind,Sem.run_pure,Result.andThen,map_eq_pure_bind]
 rw [hm]
 simp only []
 cases vs with
 | nil=>rfl
 | cons v vs=>cases vs with
  | nil=>rfl
  | cons u us=>simp [xN]
theorem gM {P:Program} {f:FuncId} {fn:Func} {c:Code} {args:List Value} {w:World} {R:Value→World→Prop} {N:Nat}
  (hf:P.funcs[f]? = some fn) (hb:fn.body=some c) (hn:fn.ntmps=N) (hN:Nat.ble args.length N=true)
  (h:Wp P none N c (Fin P fn.results.toList R) (fun _ _ _ _=>False) (Fin P fn.results.toList R) [] (env0 0 args) w):CallsV P f args w R:=by
 have hw:=h { tmps:=args.toArray ++ Array.replicate (N - args.toArray.size) undef,defers:=[] } (env0_has N args hN []) rfl
 refine (callsIn_wide (n:=0)).1 (callsIn_of_wp_marks hf hb trivial ?_ rfl)
 rw [hn]
 refine wpIn_mono hw ?_
 have hleave:∀ (D:List Deferred) (a:Act) (E:Env) (w:World),Has a N E→zR2 D w (fun w'=>∃ vs,Res P E w' fn.results.toList vs∧R (xN vs) w') →
   LeavesInM Fence.wide 0 P fn a.tmps (fun e w'=>∃ v,e = .returned v∧R v w') D .returning w:=by
  intro D
  induction D with
  | nil =>
   intro a E w ha hl
   obtain ⟨vs,h1,h2⟩:=hl
   exact ⟨xN vs,res_run ha h1,_,rfl,h2⟩
  | cons d ds ih =>
   intro a E w ha hl
   obtain ⟨b,h1,h2,h3⟩:=hl
   exact ⟨by simp,.inl ⟨b,_,h1,run_takeDeferred h2,ih a E _ ha h3⟩⟩
 intro e a' w' hq
 cases e with
 | normal=>obtain ⟨E,hE,hk⟩:=hq; exact hleave _ _ _ _ hE hk
 | ret=>obtain ⟨E,hE,hk⟩:=hq; exact hleave _ _ _ _ hE hk
 | exit id=>obtain ⟨E,hE,hk⟩:=hq; exact hk.elim
 | goto l=>exact hq.elim
 | panic c=>exact hq.elim
 | outgrown=>exact hq.elim
section ops
variable {P : Program} {r : Option Nat} {N : Nat} {all : Array Oper} {K : Pd} {D : List Deferred} {E : Env} {w : World} {rest : List Oper}
theorem zF (h:K D E w):Ops P r N all K [] D E w:=fun a Q ha hd hk=>wpListIn_nil (hk a w E ha (by rw [hd]; exact h))
theorem bA {ro:Option Nat} {ρ:Operand→Value} {o:Oper} (h:∀ c,o.op ≠ .defer c):Oper.semAt ro ρ o=execOp ρ o:=Oper.semAt_eq ro ρ o h
theorem zZ {d:Nat} {op:Op} {t:TypeId} {pos:String} {af:Array Edge} {v:Value} {w':World} (hd:Nat.blt d N=true) (hop:∀ c,op ≠ .defer c)
  (hrun:∀ a,Has a N E→(execOp a.eval ⟨some d,op,t,pos,af,none⟩).run P w = .ok (.value v) w')
  (h:Ops P r N all K rest D ((d,v) :: E) w'):Ops P r N all K (⟨some d,op,t,pos,af,none⟩ :: rest) D E w:=by
 intro a Q ha hD hk
 refine wpListIn_plain rfl fun K' hK'=>⟨fun _ _=>trivial,?_⟩
 rw [bA hop]
 rw [hrun a ha]
 exact hK' _ _ (h (a.put (some d) v) Q (ha.put hd v) hD hk)
theorem ops_eff {op:Op} {t:TypeId} {pos:String} {af:Array Edge} {w':World} (hop:∀ c,op ≠ .defer c)
  (hrun:∀ a,Has a N E→(execOp a.eval ⟨none,op,t,pos,af,none⟩).run P w = .ok .skip w')
  (h:Ops P r N all K rest D E w'):Ops P r N all K (⟨none,op,t,pos,af,none⟩ :: rest) D E w:=by
 intro a Q ha hD hk
 refine wpListIn_plain rfl fun K' hK'=>⟨fun _ _=>trivial,?_⟩
 rw [bA hop]
 rw [hrun a ha]
 exact hK' _ _ (h a Q ha hD hk)
theorem jC {d:Option Nat} {op:Op} {t:TypeId} {pos:String} {af:Array Edge} {j dj:Nat} {b:Bool} (hj:(all[j]?).bind (·.dst)=some dj) (hv:get E dj=some (.bool b))
  (h:Ops P r N all K (⟨d,op,t,pos,af,none⟩ :: rest) D E w):Ops P r N all K (⟨d,op,t,pos,af,some (j,b)⟩ :: rest) D E w:=by
 intro a Q ha hD hk
 have h1:=h a Q ha hD hk
 have hy:yielded all a.tmps j=some b:=by simp [yielded,hj,ha.at_ dj _ hv]
 unfold wpListIn at h1 ⊢
 simp only [Region.wanted,hy] at h1 ⊢
 rw [if_pos trivial] at h1
 rw [if_pos (by simp)]
 unfold Oper.wpIn Oper.uponIn Oper.semAt execOp at h1 ⊢
 exact ⟨fun _ _=>trivial,h1.2⟩
theorem jD {d:Nat} {op:Op} {t:TypeId} {pos:String} {af:Array Edge} {j dj:Nat} {b c:Bool} (hd:Nat.blt d N=true) (hj:(all[j]?).bind (·.dst)=some dj) (hv:get E dj=some (.bool c)) (hbc:(c == b)=false)
  (h:Ops P r N all K rest D ((d,undef) :: E) w):Ops P r N all K (⟨some d,op,t,pos,af,some (j,b)⟩ :: rest) D E w:=by
 intro a Q ha hD hk
 have h1:=h (a.put (some d) undef) Q (ha.put hd undef) hD hk
 have hy:yielded all a.tmps j=some c:=by simp [yielded,hj,ha.at_ dj _ hv]
 have hne:¬ c=b:=by simpa using hbc
 unfold wpListIn
 simp only [Region.wanted,hy]
 rw [if_neg (by simpa using hne)]
 exact ⟨fun _ _=>trivial,h1⟩
theorem zA {d:Nat} {x:Operand} {t:TypeId} {pos:String} {af:Array Edge} {v:Value} (hd:Nat.blt d N=true) (hx:ev E x=some v)
  (h:Ops P r N all K rest D ((d,v) :: E) w):Ops P r N all K (⟨some d,.move x,t,pos,af,none⟩ :: rest) D E w :=
 zZ hd (by intro c hc; cases hc) (fun a ha=>by simp only [execOp,ha.ev hx]; rfl) h
theorem zB {d:Nat} {x:Operand} {t:TypeId} {pos:String} {af:Array Edge} {v:Value} (hd:Nat.blt d N=true) (hx:ev E x=some v)
  (h:Ops P r N all K rest D ((d,v) :: E) w):Ops P r N all K (⟨some d,.assign x,t,pos,af,none⟩ :: rest) D E w :=
 zZ hd (by intro c hc; cases hc) (fun a ha=>by simp only [execOp,ha.ev hx]; rfl) h
theorem cP {d:Nat} {c x y:Operand} {t:TypeId} {pos:String} {af:Array Edge} {b:Bool} {v:Value} (hd:Nat.blt d N=true) (hc:ev E c=some (.bool b)) (hx:ev E (if b then x else y)=some v)
  (h:Ops P r N all K rest D ((d,v) :: E) w):Ops P r N all K (⟨some d,.pick c x y,t,pos,af,none⟩ :: rest) D E w :=
 zZ hd (by intro c hc; cases hc) (fun a ha=>by
  have:=ha.ev hx
  simp only [execOp,ha.ev hc]
  cases b <;> simp_all [asBool,Sem.run_bind,Result.andThen]) h
theorem mD {d:Nat} {x:Operand} {t t':TypeId} {pos:String} {af:Array Edge} {b:Bool} (hd:Nat.blt d N=true) (hx:ev E x=some (.bool b))
  (h:Ops P r N all K rest D ((d,.bool (!b)) :: E) w):Ops P r N all K (⟨some d,.unOp .not t x,t',pos,af,none⟩ :: rest) D E w :=
 zZ hd (by intro c hc; cases hc) (fun a ha=>by simp only [execOp,ha.ev hx]; rfl) h
theorem jL {d i:Nat} {x:Operand} {t:TypeId} {pos:String} {af:Array Edge} {vs:Array Value} {v:Value} (hd:Nat.blt d N=true) (hx:ev E x=some (.tuple vs)) (hv:vs[i]? = some v)
  (h:Ops P r N all K rest D ((d,v) :: E) w):Ops P r N all K (⟨some d,.extract x i,t,pos,af,none⟩ :: rest) D E w :=
 zZ hd (by intro c hc; cases hc) (fun a ha=>by simp [execOp,ha.ev hx,Instr.extract,hv,Sem.run_bind,Result.andThen]) h
theorem dI {d:Nat} {f:FuncId} {ca:Array Operand} {t:TypeId} {pos:String} {af:Array Edge} {vs:List Value} (hd:Nat.blt d N=true) (hx:evs E ca.toList=some vs)
  (h:Ops P r N all K rest D ((d,.func (.func f) #[] vs.toArray) :: E) w):Ops P r N all K (⟨some d,.makeFunc (.func f) #[] ca,t,pos,af,none⟩ :: rest) D E w :=
 zZ hd (by intro c hc; cases hc) (fun a ha=>by
  have h1:=ha.evs hx
  have h2:Array.map a.eval ca=vs.toArray:=by apply Array.toList_inj.1; simpa using h1
  have h3:Array.map a.eval #[]=#[]:=by simp
  simp only [execOp,h2,h3]
  rfl) h
theorem aS (op:BinOp) (t:TypeId) (k:IntKind) (a b:Int) (h:op = .eql ∨ op = .neq ∨ op = .lss ∨ op = .leq ∨ op = .gtr ∨ op = .geq) :
  binOp op t (.int k a) (.int k b)=Op.intCmp op a b:=by
 rcases h with rfl | rfl | rfl | rfl | rfl | rfl <;> (show (if k ≠ k then _ else _)=_) <;> rw [if_neg (by simp)]
theorem binOp_arith (op:BinOp) (t:TypeId) (k:IntKind) (a b:Int) (h:op = .add ∨ op = .sub ∨ op = .mul) :
  binOp op t (.int k a) (.int k b)=Op.intArith op k a b:=by
 rcases h with rfl | rfl | rfl <;> (show (if k ≠ k then _ else _)=_) <;> rw [if_neg (by simp)]
theorem binOp_div (op:BinOp) (t:TypeId) (k:IntKind) (a b:Int) (h:op = .quo ∨ op = .rem) :
  binOp op t (.int k a) (.int k b)=Op.intDiv op k a b:=by
 rcases h with rfl | rfl <;> (show (if k ≠ k then _ else _)=_) <;> rw [if_neg (by simp)]
theorem sO (op:BinOp) (t:TypeId) (k:IntKind) (a b:Int) (h:op = .and ∨ op = .or ∨ op = .xor ∨ op = .andNot) :
  binOp op t (.int k a) (.int k b)=Op.intBits op k a b:=by
 rcases h with rfl | rfl | rfl | rfl <;> (show (if k ≠ k then _ else _)=_) <;> rw [if_neg (by simp)]
theorem kO {d:Nat} {op:BinOp} {x y:Operand} {tx ty t:TypeId} {pos:String} {af:Array Edge} {k:IntKind} {a b:Int} {v:Value} (hd:Nat.blt d N=true)
  (hx:ev E x=some (.int k a)) (hy:ev E y=some (.int k b)) (hv:∀ w,(binOp op tx (.int k a) (.int k b)).run P w = .ok v w)
  (h:Ops P r N all K rest D ((d,v) :: E) w):Ops P r N all K (⟨some d,.binOp op tx x y ty,t,pos,af,none⟩ :: rest) D E w :=
 zZ hd (by intro c hc; cases hc) (fun ac ha=>by
  have hg:(eqGuard op tx x y (.int k a) (.int k b)).run P w = .ok () w:=by unfold eqGuard; cases op <;> rfl
  simp only [execOp,ha.ev hx,ha.ev hy,Sem.run_bind,hg,Result.andThen,hv]; rfl) h
theorem bZ {d:Nat} {x y:Operand} {tx ty t:TypeId} {pos:String} {af:Array Edge} {k:IntKind} {a b:Int} (hd:Nat.blt d N=true)
  (hx:ev E x=some (.int k a)) (hy:ev E y=some (.int k b))
  (h:Ops P r N all K rest D ((d,.bool (decide (a < b))) :: E) w):Ops P r N all K (⟨some d,.binOp .lss tx x y ty,t,pos,af,none⟩ :: rest) D E w :=
 kO hd hx hy (fun w=>by rw [aS _ _ _ _ _ (by simp)]; rfl) h
theorem ops_le {d:Nat} {x y:Operand} {tx ty t:TypeId} {pos:String} {af:Array Edge} {k:IntKind} {a b:Int} (hd:Nat.blt d N=true)
  (hx:ev E x=some (.int k a)) (hy:ev E y=some (.int k b))
  (h:Ops P r N all K rest D ((d,.bool (decide (a≤b))) :: E) w):Ops P r N all K (⟨some d,.binOp .leq tx x y ty,t,pos,af,none⟩ :: rest) D E w :=
 kO hd hx hy (fun w=>by rw [aS _ _ _ _ _ (by simp)]; rfl) h
theorem wX {d:Nat} {x y:Operand} {tx ty t:TypeId} {pos:String} {af:Array Edge} {k:IntKind} {a b:Int} (hd:Nat.blt d N=true)
  (hx:ev E x=some (.int k a)) (hy:ev E y=some (.int k b))
  (h:Ops P r N all K rest D ((d,.bool (decide (b < a))) :: E) w):Ops P r N all K (⟨some d,.binOp .gtr tx x y ty,t,pos,af,none⟩ :: rest) D E w :=
 kO hd hx hy (fun w=>by rw [aS _ _ _ _ _ (by simp)]; rfl) h
theorem dJ {d:Nat} {x y:Operand} {tx ty t:TypeId} {pos:String} {af:Array Edge} {k:IntKind} {a b:Int} (hd:Nat.blt d N=true)
  (hx:ev E x=some (.int k a)) (hy:ev E y=some (.int k b))
  (h:Ops P r N all K rest D ((d,.bool (decide (b≤a))) :: E) w):Ops P r N all K (⟨some d,.binOp .geq tx x y ty,t,pos,af,none⟩ :: rest) D E w :=
 kO hd hx hy (fun w=>by rw [aS _ _ _ _ _ (by simp)]; rfl) h
theorem eW {d:Nat} {x y:Operand} {tx ty t:TypeId} {pos:String} {af:Array Edge} {k:IntKind} {a b:Int} (hd:Nat.blt d N=true)
  (hx:ev E x=some (.int k a)) (hy:ev E y=some (.int k b))
  (h:Ops P r N all K rest D ((d,.bool (decide (a=b))) :: E) w):Ops P r N all K (⟨some d,.binOp .eql tx x y ty,t,pos,af,none⟩ :: rest) D E w :=
 kO hd hx hy (fun w=>by rw [aS _ _ _ _ _ (by simp)]; simp [Op.intCmp]; by_cases e:a=b <;> simp [e]) h
theorem ops_ne {d:Nat} {x y:Operand} {tx ty t:TypeId} {pos:String} {af:Array Edge} {k:IntKind} {a b:Int} (hd:Nat.blt d N=true)
  (hx:ev E x=some (.int k a)) (hy:ev E y=some (.int k b))
  (h:Ops P r N all K rest D ((d,.bool (decide (a ≠ b))) :: E) w):Ops P r N all K (⟨some d,.binOp .neq tx x y ty,t,pos,af,none⟩ :: rest) D E w :=
 kO hd hx hy (fun w=>by rw [aS _ _ _ _ _ (by simp)]; simp [Op.intCmp]; by_cases e:a=b <;> simp [e]) h
theorem ops_beq {d:Nat} {x y:Operand} {tx ty t:TypeId} {pos:String} {af:Array Edge} {a b:Bool} (hd:Nat.blt d N=true)
  (hx:ev E x=some (.bool a)) (hy:ev E y=some (.bool b)) (ht:P.underlying tx=some .bool)
  (h:Ops P r N all K rest D ((d,.bool (a == b)) :: E) w):Ops P r N all K (⟨some d,.binOp .eql tx x y ty,t,pos,af,none⟩ :: rest) D E w :=
 zZ hd (by intro c hc; cases hc) (fun ac ha=>by
  have hg:(eqGuard .eql tx x y (.bool a) (.bool b)).run P w = .ok () w:=rfl
  have hb:binOp .eql tx (.bool a) (.bool b)=(do pure (.bool (← Op.equal tx (.bool a) (.bool b)))):=rfl
  simp only [execOp,ha.ev hx,ha.ev hy,Sem.run_bind,hg,hb,run_equal_bool _ _ _ _ ht,Result.andThen]; rfl) h
theorem ops_bne {d:Nat} {x y:Operand} {tx ty t:TypeId} {pos:String} {af:Array Edge} {a b:Bool} (hd:Nat.blt d N=true)
  (hx:ev E x=some (.bool a)) (hy:ev E y=some (.bool b)) (ht:P.underlying tx=some .bool)
  (h:Ops P r N all K rest D ((d,.bool (!(a == b))) :: E) w):Ops P r N all K (⟨some d,.binOp .neq tx x y ty,t,pos,af,none⟩ :: rest) D E w :=
 zZ hd (by intro c hc; cases hc) (fun ac ha=>by
  have hg:(eqGuard .neq tx x y (.bool a) (.bool b)).run P w = .ok () w:=rfl
  have hb:binOp .neq tx (.bool a) (.bool b)=(do pure (.bool (!(← Op.equal tx (.bool a) (.bool b))))):=rfl
  simp only [execOp,ha.ev hx,ha.ev hy,Sem.run_bind,hg,hb,run_equal_bool _ _ _ _ ht,Result.andThen]; rfl) h
theorem qL {d:Nat} {op:BinOp} {x y:Operand} {tx ty t:TypeId} {pos:String} {af:Array Edge} {k:IntKind} {a b z:Int} (hd:Nat.blt d N=true)
  (hop:op = .add ∨ op = .sub ∨ op = .mul) (hx:ev E x=some (.int k a)) (hy:ev E y=some (.int k b)) (hz:k.wrap (match op with | .add=>a + b | .sub=>a - b | _=>a * b)=z)
  (h:Ops P r N all K rest D ((d,.int k z) :: E) w):Ops P r N all K (⟨some d,.binOp op tx x y ty,t,pos,af,none⟩ :: rest) D E w :=
 kO hd hx hy (fun w=>by rw [binOp_arith _ _ _ _ _ hop]; subst hz; rcases hop with rfl | rfl | rfl <;> rfl) h
theorem xK {d:Nat} {x y:Operand} {tx ty t:TypeId} {pos:String} {af:Array Edge} {a b:Int} (hd:Nat.blt d N=true)
  (hx:ev E x=some (.int .i64 a)) (hy:ev E y=some (.int .i64 b)) (hb:-9223372036854775808≤a + b∧a + b≤9223372036854775807)
  (h:Ops P r N all K rest D ((d,.int .i64 (a + b)) :: E) w):Ops P r N all K (⟨some d,.binOp .add tx x y ty,t,pos,af,none⟩ :: rest) D E w :=
 qL hd (.inl rfl) hx hy (IntWalk.i64_in _ hb) h
theorem jR {d:Nat} {x y:Operand} {tx ty t:TypeId} {pos:String} {af:Array Edge} {a b:Int} (hd:Nat.blt d N=true)
  (hx:ev E x=some (.int .i64 a)) (hy:ev E y=some (.int .i64 b)) (hb:-9223372036854775808≤a - b∧a - b≤9223372036854775807)
  (h:Ops P r N all K rest D ((d,.int .i64 (a - b)) :: E) w):Ops P r N all K (⟨some d,.binOp .sub tx x y ty,t,pos,af,none⟩ :: rest) D E w :=
 qL hd (.inr (.inl rfl)) hx hy (IntWalk.i64_in _ hb) h
theorem ops_mul {d:Nat} {x y:Operand} {tx ty t:TypeId} {pos:String} {af:Array Edge} {a b:Int} (hd:Nat.blt d N=true)
  (hx:ev E x=some (.int .i64 a)) (hy:ev E y=some (.int .i64 b)) (hb:-9223372036854775808≤a * b∧a * b≤9223372036854775807)
  (h:Ops P r N all K rest D ((d,.int .i64 (a * b)) :: E) w):Ops P r N all K (⟨some d,.binOp .mul tx x y ty,t,pos,af,none⟩ :: rest) D E w :=
 qL hd (.inr (.inr rfl)) hx hy (IntWalk.i64_in _ hb) h
theorem aU (n:Nat):IntKind.u64.wrap (n:Int)=((n % 18446744073709551616:Nat):Int):=by
 simp [IntKind.wrap,IntKind.bits,IntKind.signed]
theorem pJ (n:Nat):IntKind.u32.wrap (n:Int)=((n % 4294967296:Nat):Int):=by
 simp [IntKind.wrap,IntKind.bits,IntKind.signed]
theorem dC (a b:Nat) (hb:b≤18446744073709551616):IntKind.u64.wrap ((a:Int) - (b:Int))=(((a + (18446744073709551616 - b)) % 18446744073709551616:Nat):Int):=by
 simp [IntKind.wrap,IntKind.bits,IntKind.signed]; omega
def qP:IntKind→Nat
 | .u64=>18446744073709551616
 | _=>4294967296
theorem bG {d:Nat} {x y:Operand} {tx ty t:TypeId} {pos:String} {af:Array Edge} {a b:Nat} (hd:Nat.blt d N=true)
  (hx:ev E x=some (.int .u64 (a:Int))) (hy:ev E y=some (.int .u64 (b:Int)))
  (h:Ops P r N all K rest D ((d,.int .u64 (((a + b) % 18446744073709551616:Nat):Int)) :: E) w):Ops P r N all K (⟨some d,.binOp .add tx x y ty,t,pos,af,none⟩ :: rest) D E w :=
 qL hd (.inl rfl) hx hy (by have:=aU (a + b); simpa using this) h
theorem kR {d:Nat} {x y:Operand} {tx ty t:TypeId} {pos:String} {af:Array Edge} {a b:Nat} (hd:Nat.blt d N=true)
  (hx:ev E x=some (.int .u64 (a:Int))) (hy:ev E y=some (.int .u64 (b:Int))) (hb:a + b < 18446744073709551616)
  (h:Ops P r N all K rest D ((d,.int .u64 ((a + b:Nat):Int)) :: E) w):Ops P r N all K (⟨some d,.binOp .add tx x y ty,t,pos,af,none⟩ :: rest) D E w :=
 qL hd (.inl rfl) hx hy (by have:=aU (a + b); rw [Nat.mod_eq_of_lt hb] at this; simpa using this) h
theorem mA {d:Nat} {x y:Operand} {tx ty t:TypeId} {pos:String} {af:Array Edge} {a b:Nat} (hd:Nat.blt d N=true)
  (hx:ev E x=some (.int .u64 (a:Int))) (hy:ev E y=some (.int .u64 (b:Int))) (hb:b≤18446744073709551616)
  (h:Ops P r N all K rest D ((d,.int .u64 (((a + (18446744073709551616 - b)) % 18446744073709551616:Nat):Int)) :: E) w):Ops P r N all K (⟨some d,.binOp .sub tx x y ty,t,pos,af,none⟩ :: rest) D E w :=
 qL hd (.inr (.inl rfl)) hx hy (dC a b hb) h
theorem lZ {d:Nat} {x y:Operand} {tx ty t:TypeId} {pos:String} {af:Array Edge} {a b:Nat} (hd:Nat.blt d N=true)
  (hx:ev E x=some (.int .u64 (a:Int))) (hy:ev E y=some (.int .u64 (b:Int))) (hb:b≤a) (ha:a < 18446744073709551616)
  (h:Ops P r N all K rest D ((d,.int .u64 ((a - b:Nat):Int)) :: E) w):Ops P r N all K (⟨some d,.binOp .sub tx x y ty,t,pos,af,none⟩ :: rest) D E w :=
 qL hd (.inr (.inl rfl)) hx hy (by
  show IntKind.u64.wrap ((a:Int) - (b:Int))=_
  rw [dC a b (by omega)]; congr 1; omega) h
theorem bF {d:Nat} {x y:Operand} {tx ty t:TypeId} {pos:String} {af:Array Edge} {a b:Nat} (hd:Nat.blt d N=true)
  (hx:ev E x=some (.int .u64 (a:Int))) (hy:ev E y=some (.int .u64 (b:Int))) (hb:a * b < 18446744073709551616)
  (h:Ops P r N all K rest D ((d,.int .u64 ((a * b:Nat):Int)) :: E) w):Ops P r N all K (⟨some d,.binOp .mul tx x y ty,t,pos,af,none⟩ :: rest) D E w :=
 qL hd (.inr (.inr rfl)) hx hy (by have:=aU (a * b); rw [Nat.mod_eq_of_lt hb] at this; simpa using this) h
theorem fV {d:Nat} {op:BinOp} {x y:Operand} {tx ty t:TypeId} {pos:String} {af:Array Edge} {k:IntKind} {a b z:Int} (hd:Nat.blt d N=true)
  (hop:op = .quo ∨ op = .rem) (hx:ev E x=some (.int k a)) (hy:ev E y=some (.int k b)) (hb:b ≠ 0) (hz:(match op with | .quo=>k.wrap (a.tdiv b) | _=>a.tmod b)=z)
  (h:Ops P r N all K rest D ((d,.int k z) :: E) w):Ops P r N all K (⟨some d,.binOp op tx x y ty,t,pos,af,none⟩ :: rest) D E w :=
 kO hd hx hy (fun w=>by rw [binOp_div _ _ _ _ _ hop]; subst hz; unfold Op.intDiv; rw [if_neg hb]; rcases hop with rfl | rfl <;> rfl) h
theorem mC {d:Nat} {x y:Operand} {tx ty t:TypeId} {pos:String} {af:Array Edge} {a b:Int} (hd:Nat.blt d N=true)
  (hx:ev E x=some (.int .i64 a)) (hy:ev E y=some (.int .i64 b)) (hb:0≤a∧a≤9223372036854775807∧1≤b)
  (h:Ops P r N all K rest D ((d,.int .i64 (a / b)) :: E) w):Ops P r N all K (⟨some d,.binOp .quo tx x y ty,t,pos,af,none⟩ :: rest) D E w :=
 fV hd (.inl rfl) hx hy (by omega) (IntWalk.i64_quo _ _ hb) h
theorem mB {d:Nat} {x y:Operand} {tx ty t:TypeId} {pos:String} {af:Array Edge} {a b:Int} (hd:Nat.blt d N=true)
  (hx:ev E x=some (.int .i64 a)) (hy:ev E y=some (.int .i64 b)) (hb:0≤a∧1≤b)
  (h:Ops P r N all K rest D ((d,.int .i64 (a % b)) :: E) w):Ops P r N all K (⟨some d,.binOp .rem tx x y ty,t,pos,af,none⟩ :: rest) D E w :=
 fV hd (.inr rfl) hx hy (by omega) (Int.tmod_eq_emod_of_nonneg hb.1) h
theorem rF {d:Nat} {x y:Operand} {tx ty t:TypeId} {pos:String} {af:Array Edge} {a b:Nat} (hd:Nat.blt d N=true)
  (hx:ev E x=some (.int .u64 (a:Int))) (hy:ev E y=some (.int .u64 (b:Int))) (hb:0 < b) (ha:a < 18446744073709551616)
  (h:Ops P r N all K rest D ((d,.int .u64 ((a / b:Nat):Int)) :: E) w):Ops P r N all K (⟨some d,.binOp .quo tx x y ty,t,pos,af,none⟩ :: rest) D E w :=
 fV hd (.inl rfl) hx hy (by omega) (by rw [IntWalk.u64_quo _ _ ⟨by omega,by omega,by omega⟩]; rfl) h
theorem ops_remu {d:Nat} {x y:Operand} {tx ty t:TypeId} {pos:String} {af:Array Edge} {a b:Nat} (hd:Nat.blt d N=true)
  (hx:ev E x=some (.int .u64 (a:Int))) (hy:ev E y=some (.int .u64 (b:Int))) (hb:0 < b)
  (h:Ops P r N all K rest D ((d,.int .u64 ((a % b:Nat):Int)) :: E) w):Ops P r N all K (⟨some d,.binOp .rem tx x y ty,t,pos,af,none⟩ :: rest) D E w :=
 fV hd (.inr rfl) hx hy (by omega) (by rw [Int.tmod_eq_emod_of_nonneg (by omega)]; rfl) h
theorem tR {d:Nat} {op:BinOp} {x y:Operand} {tx ty t:TypeId} {pos:String} {af:Array Edge} {k k':IntKind} {a z:Int} {b:Int} (hd:Nat.blt d N=true)
  (hop:op = .shl ∨ op = .shr) (hx:ev E x=some (.int k a)) (hy:ev E y=some (.int k' b)) (hb:0≤b)
  (hz:(match op with | .shl=>k.wrap (a * 2 ^ (min b.toNat k.bits)) | _=>a.fdiv (2 ^ (min b.toNat k.bits)))=z)
  (h:Ops P r N all K rest D ((d,.int k z) :: E) w):Ops P r N all K (⟨some d,.binOp op tx x y ty,t,pos,af,none⟩ :: rest) D E w :=
 zZ hd (by intro c hc; cases hc) (fun ac ha=>by
  have hg:(eqGuard op tx x y (.int k a) (.int k' b)).run P w = .ok () w:=by unfold eqGuard; rcases hop with rfl | rfl <;> rfl
  have hr:(binOp op tx (.int k a) (.int k' b)).run P w = .ok (.int k z) w:=by
   have e:binOp op tx (.int k a) (.int k' b)=Op.shift op k a k' b:=by rcases hop with rfl | rfl <;> rfl
   rw [e]; unfold Op.shift; rw [if_neg (by omega)]; subst hz; rcases hop with rfl | rfl <;> rfl
  simp only [execOp,ha.ev hx,ha.ev hy,Sem.run_bind,hg,Result.andThen,hr]; rfl) h
theorem jH {d:Nat} {x y:Operand} {tx ty t:TypeId} {pos:String} {af:Array Edge} {k k':IntKind} {a:Nat} {b:Int} (hd:Nat.blt d N=true)
  (hx:ev E x=some (.int k (a:Int))) (hy:ev E y=some (.int k' b)) (hb:0≤b∧b < k.bits)
  (h:Ops P r N all K rest D ((d,.int k ((a / 2 ^ b.toNat:Nat):Int)) :: E) w):Ops P r N all K (⟨some d,.binOp .shr tx x y ty,t,pos,af,none⟩ :: rest) D E w :=
 tR hd (.inr rfl) hx hy hb.1 (by
  have:min b.toNat k.bits=b.toNat:=by omega
  simp only [this]
  have e:((2:Int) ^ b.toNat)=((2 ^ b.toNat:Nat):Int):=by simp
  rw [e,Int.fdiv_eq_ediv_of_nonneg _ (Int.natCast_nonneg _)]; rfl) h
theorem bT {d:Nat} {x:Operand} {s t t':TypeId} {pos:String} {af:Array Edge} {k k':IntKind} {sd:TypeDesc} {a z:Int} (hd:Nat.blt d N=true)
  (hs:P.underlying s=some sd) (ht:P.underlying t=some (.int k)) (hx:ev E x=some (.int k' a)) (hz:k.wrap a=z)
  (h:Ops P r N all K rest D ((d,.int k z) :: E) w):Ops P r N all K (⟨some d,.convert s t x,t',pos,af,none⟩ :: rest) D E w :=
 zZ hd (by intro c hc; cases hc) (fun ac ha=>by
  subst hz
  have e:(convert s t (.int k' a)).run P w = .ok (.int k (k.wrap a)) w:=by
   unfold convert
   simp only [Sem.run_bind,run_underlying hs,run_underlying ht,Result.andThen]
   cases sd <;> rfl
  simp only [execOp,ha.ev hx,Sem.run_bind,e,Result.andThen]; rfl) h
theorem qC {d:Nat} {x:Operand} {s t t':TypeId} {pos:String} {af:Array Edge} {k':IntKind} {sd:TypeDesc} {a:Nat} (hd:Nat.blt d N=true)
  (hs:P.underlying s=some sd) (ht:P.underlying t=some (.int .u32)) (hx:ev E x=some (.int k' (a:Int)))
  (h:Ops P r N all K rest D ((d,.int .u32 ((a % 4294967296:Nat):Int)) :: E) w):Ops P r N all K (⟨some d,.convert s t x,t',pos,af,none⟩ :: rest) D E w :=
 bT hd hs ht hx (pJ a) h
theorem jX {d:Nat} {x:Operand} {s t t':TypeId} {pos:String} {af:Array Edge} {k':IntKind} {sd:TypeDesc} {a:Nat} (hd:Nat.blt d N=true)
  (hs:P.underlying s=some sd) (ht:P.underlying t=some (.int .u64)) (hx:ev E x=some (.int k' (a:Int))) (ha:a < 18446744073709551616)
  (h:Ops P r N all K rest D ((d,.int .u64 (a:Int)) :: E) w):Ops P r N all K (⟨some d,.convert s t x,t',pos,af,none⟩ :: rest) D E w :=
 bT hd hs ht hx (by rw [aU,Nat.mod_eq_of_lt ha]) h
theorem fU {d:Nat} {x:Operand} {t e t':TypeId} {pos:String} {af:Array Edge} {ad:Option Addr} {n c:Nat} (hd:Nat.blt d N=true)
  (ht:P.underlying t=some (.slice e)) (hx:ev E x=some (.slice ad n c))
  (h:Ops P r N all K rest D ((d,.int .i64 (n:Int)) :: E) w):Ops P r N all K (⟨some d,.call ⟨.builtin .len,#[x],#[t]⟩,t',pos,af,none⟩ :: rest) D E w :=
 zZ hd (by intro c hc; cases hc) (fun ac ha=>by
  have e1:(Builtin.len_ #[t] t' #[.slice ad n c]).run P w = .ok (.int .i64 (n:Int)) w:=by
   simp [Builtin.len_,run_underlying ht,Result.andThen,goInt]
  simp only [execOp,resolve,invoke,builtin,Sem.run_bind,Sem.run_pure,Result.andThen,List.map_toArray,List.map_cons,List.map_nil,ha.ev hx]
  rw [e1]) h
theorem wW {d:Nat} {x y:Operand} {ts:Array TypeId} {t':TypeId} {pos:String} {af:Array Edge} {k:IntKind} {a b:Int} (hd:Nat.blt d N=true)
  (hx:ev E x=some (.int k a)) (hy:ev E y=some (.int k b))
  (h:Ops P r N all K rest D ((d,.int k (max a b)) :: E) w):Ops P r N all K (⟨some d,.call ⟨.builtin .max,#[x,y],ts⟩,t',pos,af,none⟩ :: rest) D E w :=
 zZ hd (by intro c hc; cases hc) (fun ac ha=>by
  have e1:(Builtin.max_ ts t' #[.int k a,.int k b]).run P w = .ok (.int k (max a b)) w:=by
   have:(if b > a then b else a)=max a b:=by simp only [Int.max_def]; split <;> split <;> omega
   rw [← this]; rfl
  simp only [execOp,resolve,invoke,builtin,Sem.run_bind,Sem.run_pure,Result.andThen,List.map_toArray,List.map_cons,List.map_nil,ha.ev hx,ha.ev hy]
  rw [e1]) h
theorem zY7 {d:Nat} {x y:Operand} {ts:Array TypeId} {t':TypeId} {pos:String} {af:Array Edge} {k:IntKind} {a b:Int} (hd:Nat.blt d N=true)
  (hx:ev E x=some (.int k a)) (hy:ev E y=some (.int k b))
  (h:Ops P r N all K rest D ((d,.int k (min a b)) :: E) w):Ops P r N all K (⟨some d,.call ⟨.builtin .min,#[x,y],ts⟩,t',pos,af,none⟩ :: rest) D E w :=
 zZ hd (by intro c hc; cases hc) (fun ac ha=>by
  have e1:(Builtin.min_ ts t' #[.int k a,.int k b]).run P w = .ok (.int k (min a b)) w:=by
   have:(if b < a then b else a)=min a b:=by simp only [Int.min_def]; split <;> split <;> omega
   rw [← this]; rfl
  simp only [execOp,resolve,invoke,builtin,Sem.run_bind,Sem.run_pure,Result.andThen,List.map_toArray,List.map_cons,List.map_nil,ha.ev hx,ha.ev hy]
  rw [e1]) h
def Bod (P:Program) (f:FuncId):Prop:=∃ fn,P.funcs[f]? = some fn∧fn.body.isNone=false∧(fn.name == "runtime.NumGoroutine")=false
theorem zX {d:Nat} {x:Operand} {xs:List Operand} {ts:Array TypeId} {t':TypeId} {pos:String} {af:Array Edge} {f:FuncId} {ca:Array Value} {vs:List Value} (hd:Nat.blt d N=true)
  (hfn:Bod P f) (hx:ev E x=some (.func (.func f) #[] ca)) (hxs:evs E xs=some vs)
  (h:CallsV P f (vs ++ ca.toList) w fun v w'=>Ops P r N all K rest D ((d,v) :: E) w') :
  Ops P r N all K (⟨some d,.call ⟨.value x,xs.toArray,ts⟩,t',pos,af,none⟩ :: rest) D E w:=by
 intro a Q ha hD hk
 refine wpListIn_plain rfl fun K' hK'=>⟨fun _ _=>trivial,?_⟩
 rw [bA (by intro c hc; cases hc)]
 have hrun:(execOp a.eval ⟨some d,.call ⟨.value x,xs.toArray,ts⟩,t',pos,af,none⟩).run P w = .ok (.enter f (vs ++ ca.toList).toArray) w:=by
  have e1:(xs.toArray.map a.eval)=vs.toArray:=by rw [← ha.evs hxs]; simp
  obtain ⟨fn,hf1,hf2,hf3⟩:=hfn
  simp only [execOp,resolve,ha.ev hx,e1,Deferred.ofValue,Sem.run_bind,Sem.run_pure,Result.andThen,invoke]
  have e2:(callFunc f (#[] ++ vs.toArray ++ ca)).run P w = .ok (.enter f (#[] ++ vs.toArray ++ ca)) w:=by
   unfold callFunc
   simp only [Sem.run_bind,program,Sem.run,Result.andThen,hf1,hf2,hf3]
   rfl
  rw [e2]; simp
 rw [hrun]
 refine ⟨by simp [Fr],?_⟩
 have hc:=(callsIn_wide (n:=0 - 1)).2 h
 have hc2:CallsIn (Fr r) (0 - 1) P f (vs ++ ca.toList).toArray w (fun e w'=>∃ v,e = .returned v∧Ops P r N all K rest D ((d,v) :: E) w'):=hc
 refine hc2.mono ?_
 rintro e w' ⟨v,rfl,hv⟩
 exact hK' _ _ (hv (a.put (some d) v) Q (ha.put hd v) hD hk)
end ops
end Go.SL
namespace Go.SL
open Go.RowKit
structure Le (Fz M:Nat→Prop) (w:World) (M':Nat→Prop) (w':World):Prop where
 os:w'.os=w.os
 tape:Tp w w'
 output:w'.output=w.output
 size:w.heap.size≤w'.heap.size
 frz:∀ k,k < w.heap.size→Fz k→w'.heap[k]? = w.heap[k]?
 imm:∀ k,k < w.heap.size→¬ M k→w'.heap[k]? = w.heap[k]?
 chg:∀ k,M' k→M k ∨ w.heap.size≤k
 ok:(∀ k,M k→k < w.heap.size)→∀ k,M' k→k < w'.heap.size
theorem Le.refl (Fz M:Nat→Prop) (w:World):Le Fz M w M w:=⟨rfl,⟨rfl,by first | exact Nat.le_refl _ | exact Nat.le_succ _⟩,rfl,Nat.le_refl _,fun _ _ _=>rfl,fun _ _ _=>rfl,fun _ h => .inl h,fun h=>h⟩
theorem Le.trans {Fz M1 M2 M3:Nat→Prop} {w1 w2 w3:World} (h:Le Fz M1 w1 M2 w2) (k:Le Fz M2 w2 M3 w3):Le Fz M1 w1 M3 w3:=by
 refine ⟨k.os.trans h.os,k.tape.trans h.tape,k.output.trans h.output,Nat.le_trans h.size k.size,fun i hi hf=>?_,fun i hi hm=>?_,fun i hi=>?_,fun ho=>k.ok (h.ok ho)⟩
 ·exact (k.frz i (Nat.lt_of_lt_of_le hi h.size) hf).trans (h.frz i hi hf)
 ·have h2:¬ M2 i:=fun hc=>(h.chg i hc).elim hm (fun h1=>by omega)
  exact (k.imm i (Nat.lt_of_lt_of_le hi h.size) h2).trans (h.imm i hi hm)
 ·rcases k.chg i hi with h1 | h1
  ·exact h.chg i h1
  ·exact .inr (Nat.le_trans h.size h1)
theorem Le.kept {Fz M:Nat→Prop} {w:World} {M':Nat→Prop} {w':World} (h:Le Fz M w M' w') {k:Nat} (hk:k < w.heap.size) (hm:¬ M k):¬ M' k∧w'.heap[k]? = w.heap[k]? :=
 ⟨fun hc=>(h.chg k hc).elim hm (fun h1=>by omega),h.imm k hk hm⟩
theorem Le.below {B:Nat} {M:Nat→Prop} {w:World} {M':Nat→Prop} {w':World} (h:Le (· < B) M w M' w') (hB:B≤w.heap.size):Bel B w w' :=
 ⟨h.os,h.tape,h.output,h.size,fun k hk=>h.frz k (by omega) hk⟩
theorem Le.of_below {Fz M:Nat→Prop} {w w':World} (h:Bel w.heap.size w w'):Le Fz M w M w' :=
 ⟨h.os,h.tape,h.output,h.size,fun k hk _=>h.block k hk,fun k hk _=>h.block k hk,fun _ h => .inl h,fun hm k hk=>Nat.lt_of_lt_of_le (hm k hk) h.size⟩
theorem lb {M:Nat→Prop} {w w':World} (h:Bel w.heap.size w w'):Le (fun _=>False) M w M w':=Le.of_below h
theorem Le.less {Fz M:Nat→Prop} {w:World} {M':Nat→Prop} (h:∀ k,M' k→M k):Le Fz M w M' w :=
 ⟨rfl,⟨rfl,by first | exact Nat.le_refl _ | exact Nat.le_succ _⟩,rfl,Nat.le_refl _,fun _ _ _=>rfl,fun _ _ _=>rfl,fun k hk => .inl (h k hk),fun ho k hk=>ho k (h k hk)⟩
def Ins (b:Nat) (M:Nat→Prop):Nat→Prop:=fun k=>k=b ∨ M k
theorem yA {b:Nat} {M:Nat→Prop}:Ins b M b:=.inl rfl
theorem nW {b c:Nat} {M:Nat→Prop} (h:M c):Ins b M c:=.inr h
def OkM (M:Nat→Prop) (w:World):Prop:=∀ k,M k→k < w.heap.size
theorem OkM.mono {Fz M:Nat→Prop} {w:World} {M':Nat→Prop} {w':World} (h:OkM M w) (l:Le Fz M w M' w'):OkM M' w':=l.ok h
def Blk (w:World) (b:Nat) (t:TypeId) (cs:List Value):Prop:=w.heap[b]? = some (.cells cs.toArray t (0,0))
theorem Blk.lt {w:World} {b:Nat} {t:TypeId} {cs:List Value} (h:Blk w b t cs):b < w.heap.size:=(Array.getElem?_eq_some_iff.1 h).1
theorem Blk.below {w w':World} {b:Nat} {t:TypeId} {cs:List Value} (h:Blk w b t cs) (hw:Bel w.heap.size w w'):Blk w' b t cs:=(hw.block b h.lt).trans h
theorem Blk.cell {w:World} {b:Nat} {t:TypeId} {cs:List Value} (h:Blk w b t cs) (i:Nat):w.cell? ⟨b,i,none⟩=cs[i]?:=by
 simp [World.cell?,show w.heap[b]? = _ from h]
structure Chg (w w':World) (b:Nat):Prop where
 os:w'.os=w.os
 tape:Tp w w'
 output:w'.output=w.output
 size:w'.heap.size=w.heap.size
 other:∀ k,k ≠ b→w'.heap[k]? = w.heap[k]?
theorem Blk.other {w w':World} {b c:Nat} {t:TypeId} {cs:List Value} (h:Blk w b t cs) (hw:Chg w w' c) (hne:b ≠ c):Blk w' b t cs:=(hw.other b hne).trans h
theorem Le.of_chg {Fz M:Nat→Prop} {w w':World} {b:Nat} (h:Chg w w' b) (hm:M b) (hf:¬ Fz b):Le Fz M w M w' :=
 ⟨h.os,h.tape,h.output,by rw [h.size]; exact Nat.le_refl _,fun k _ hk=>h.other k (fun e=>hf (e ▸ hk)),fun k _ hk=>h.other k (fun e=>hk (e ▸ hm)),fun _ h => .inl h,fun ho k hk=>by rw [h.size]; exact ho k hk⟩
structure New (w w':World) (b:Nat) (o:Obj):Prop where
 os:w'.os=w.os
 tape:Tp w w'
 output:w'.output=w.output
 at_:b=w.heap.size
 size:w'.heap.size=w.heap.size + 1
 obj:w'.heap[b]? = some o
 other:∀ k,k < w.heap.size→w'.heap[k]? = w.heap[k]?
theorem New.of_alloc (w:World) (o:Obj):New w (w.alloc o) w.heap.size o :=
 ⟨rfl,⟨rfl,by first | exact Nat.le_refl _ | exact Nat.le_succ _⟩,rfl,rfl,by simp,World.alloc_heap_new w o,fun k hk=>Below.heap_alloc w o k hk⟩
theorem New.below {w w':World} {b:Nat} {o:Obj} (h:New w w' b o):Bel w.heap.size w w':=⟨h.os,h.tape,h.output,by rw [h.size]; omega,h.other⟩
theorem New.blk {w w':World} {b:Nat} {t:TypeId} {cs:Array Value} (h:New w w' b (.cells cs t (0,0))):Blk w' b t cs.toList:=by unfold Blk; simpa using h.obj
theorem Le.of_new {Fz M:Nat→Prop} {w w':World} {b:Nat} {o:Obj} (h:New w w' b o):Le Fz M w (Ins b M) w' :=
  ⟨h.os,h.tape,h.output,by rw [h.size]; omega,fun k hk _=>h.other k hk,fun k hk _=>h.other k hk,
   fun k hk=>hk.elim (fun e => .inr (by rw [e,h.at_]; exact Nat.le_refl _)) .inl,
   fun ho k hk=>hk.elim (fun e=>by rw [e,h.size,h.at_]; omega) (fun hk=>by have:=ho k hk; rw [h.size]; omega)⟩
def Seg (w:World) (b off:Nat) (cs:List Value):Prop:=∃ cur t fz,w.heap[b]? = some (.cells cur t fz)∧∀ j u,cs[j]? = some u→cur[off + j]? = some u
theorem jE (b off i:Nat):(⟨b,off,none⟩:Addr).add i=⟨b,off + i,none⟩:=by unfold Addr.add; split <;> simp_all
theorem Seg.cell {w:World} {b off:Nat} {cs:List Value} (h:Seg w b off cs) {j:Nat} {u:Value} (hj:cs[j]? = some u):w.cell? ⟨b,off + j,none⟩=some u:=by
 obtain ⟨cur,t,fz,hb,hc⟩:=h
 simp [World.cell?,hb,hc j u hj]
theorem Seg.sub {w:World} {b off:Nat} {cs:List Value} (h:Seg w b off cs) (l m:Nat):Seg w b (off + l) ((cs.drop l).take m):=by
 obtain ⟨cur,t,fz,hb,hc⟩:=h
 refine ⟨cur,t,fz,hb,fun j u hj=>?_⟩
 have:cs[l + j]? = some u:=by
  rw [List.getElem?_take] at hj
  split at hj
  ·simpa using hj
  ·simp at hj
 rw [Nat.add_assoc]; exact hc _ u this
def Slc (M:Nat→Prop) (w:World) (sz:Nat) (v:Value) (n:Nat) (cs:List Value):Prop :=
 cs.length=n * sz∧n≤9223372036854775807∧∃ ad cap,v = .slice ad n cap∧n≤cap∧(n=0 ∨ ∃ b off,ad=some ⟨b,off,none⟩∧¬ M b∧Seg w b off cs)
theorem Slc.mono {Fz M M':Nat→Prop} {w w':World} {sz n:Nat} {v:Value} {cs:List Value} (h:Slc M w sz v n cs) (l:Le Fz M w M' w'):Slc M' w' sz v n cs:=by
 obtain ⟨h1,h2,ad,cap,h3,h4,h5⟩:=h
 refine ⟨h1,h2,ad,cap,h3,h4,?_⟩
 rcases h5 with h5 | ⟨b,off,h5,h6,cur,t,fz,h7,h8⟩
 ·exact .inl h5
 ·have hb:b < w.heap.size:=(Array.getElem?_eq_some_iff.1 h7).1
  have hk:=l.kept hb h6
  exact .inr ⟨b,off,h5,hk.1,cur,t,fz,hk.2.trans h7,h8⟩
theorem Slc.less {M M':Nat→Prop} {w:World} {sz n:Nat} {v:Value} {cs:List Value} (h:Slc M w sz v n cs) (hm:∀ k,M' k→M k):Slc M' w sz v n cs :=
 h.mono (Fz:=fun _=>False) (Le.less hm)
theorem oU {M:Nat→Prop} {w:World} {sz:Nat}:Slc M w sz (.slice none 0 0) 0 []:=⟨by simp,by omega,none,0,rfl,Nat.le_refl _,.inl rfl⟩
theorem slc_zero {M:Nat→Prop} {w:World} {sz c:Nat} {ad:Option Addr}:Slc M w sz (.slice ad 0 c) 0 []:=⟨by simp,by omega,ad,c,rfl,Nat.zero_le _,.inl rfl⟩
theorem Slc.len {M:Nat→Prop} {w:World} {sz n:Nat} {v:Value} {cs:List Value} (h:Slc M w sz v n cs):n≤9223372036854775807:=h.2.1
theorem Blk.slc {M:Nat→Prop} {w:World} {b:Nat} {t:TypeId} {cs:List Value} (h:Blk w b t cs) (hm:¬ M b) {sz n c:Nat} {ds:List Value} (hl:ds.length=n * sz) (hd:∀ (j:Nat) (u:Value),ds[j]? = some u→cs[j]? = some u) (hn:n≤9223372036854775807) (hc:n≤c) :
  Slc M w sz (.slice (some ⟨b,0,none⟩) n c) n ds :=
 ⟨hl,hn,_,_,rfl,hc,.inr ⟨b,0,rfl,hm,cs.toArray,t,(0,0),h,fun j u hj=>by simpa using hd j u hj⟩⟩
def lw (x:Nat):Value:=.int .u32 (x:Int)
structure IsNat (M:Nat→Prop) (w:World) (v:Value) (xs:List Nat):Prop where
 slc:Slc M w 1 v xs.length (xs.map lw)
 lt:∀ x ∈ xs,x < 4294967296
theorem IsNat.mono {Fz M M':Nat→Prop} {w w':World} {v:Value} {xs:List Nat} (h:IsNat M w v xs) (l:Le Fz M w M' w'):IsNat M' w' v xs:=⟨h.slc.mono l,h.lt⟩
theorem IsNat.less {M M':Nat→Prop} {w:World} {v:Value} {xs:List Nat} (h:IsNat M w v xs) (hm:∀ k,M' k→M k):IsNat M' w v xs:=⟨h.slc.less hm,h.lt⟩
theorem iE {M:Nat→Prop} {w:World}:IsNat M w (.slice none 0 0) []:=⟨oU,by simp⟩
theorem IsNat.len {M:Nat→Prop} {w:World} {v:Value} {xs:List Nat} (h:IsNat M w v xs):xs.length≤9223372036854775807:=h.slc.len
def Sz (P:Program) (t:TypeId) (sz bytes:Nat) (z:Value):Prop:=∃ i,P.info? t=some i∧i.size=sz∧i.bytes=bytes∧i.zero=some z
def Flat (P:Program) (t:TypeId):Prop:=∀ w,(isAgg t).run P w = .ok false w
def Fold (P:Program) (t:TypeId):Prop:=∀ w,(isAgg t).run P w = .ok true w
theorem jI {P:Program} {t:TypeId} {d:TypeDesc} (h:P.underlying t=some d) (hd:(match d with | .struct _ | .array _ _=>false | _=>true)=true):Flat P t:=by
 intro w
 unfold isAgg
 simp only [Sem.run_bind,run_underlying h,Result.andThen]
 cases d <;> first | rfl | simp at hd
theorem aM {P:Program} {t:TypeId} {d:TypeDesc} (h:P.underlying t=some d) (hd:(match d with | .struct _ | .array _ _=>true | _=>false)=true):Fold P t:=by
 intro w
 unfold isAgg
 simp only [Sem.run_bind,run_underlying h,Result.andThen]
 cases d <;> first | rfl | simp at hd
theorem jN {P:Program} {t:TypeId} {sz by_:Nat} {z:Value} (h:Sz P t sz by_ z) (w:World):(sizeOf t).run P w = .ok sz w:=by
 obtain ⟨i,h1,h2,_,_⟩:=h
 simp [sizeOf,typeInfo,h1,h2]
section ops
variable {P : Program} {r : Option Nat} {N : Nat} {all : Array Oper} {K : Pd} {D : List Deferred} {E : Env} {w : World} {rest : List Oper}
variable {Fz M : Nat → Prop}
theorem zN3 {d:Nat} {x:Operand} {t e t':TypeId} {pos:String} {af:Array Edge} {sz n:Nat} {v:Value} {cs:List Value} (hd:Nat.blt d N=true)
  (ht:P.underlying t=some (.slice e)) (hx:ev E x=some v) (hv:Slc M w sz v n cs)
  (h:Ops P r N all K rest D ((d,.int .i64 (n:Int)) :: E) w):Ops P r N all K (⟨some d,.call ⟨.builtin .len,#[x],#[t]⟩,t',pos,af,none⟩ :: rest) D E w:=by
 obtain ⟨_,_,ad,cap,rfl,_,_⟩:=hv
 exact fU hd ht hx h
theorem ops_idx {d:Nat} {x ix:Operand} {t e t':TypeId} {pos:String} {af:Array Edge} {sz n bytes:Nat} {z:Value} {v:Value} {cs:List Value} {k:IntKind} {i:Int} (j:Nat) (hd:Nat.blt d N=true)
  (ht:P.underlying t=some (.slice e)) (he:Sz P e sz bytes z) (hx:ev E x=some v) (hi:ev E ix=some (.int k i)) (hv:Slc M w sz v n cs) (hij:i=(j:Int)) (hj:j < n)
  (h:∀ b off,¬ M b→(∀ q u,cs[j * sz + q]? = some u→w.cell? ⟨b,off + q,none⟩=some u)→Ops P r N all K rest D ((d,.pointer (some ⟨b,off,none⟩)) :: E) w) :
  Ops P r N all K (⟨some d,.indexAddr t x ix,t',pos,af,none⟩ :: rest) D E w:=by
 obtain ⟨_,_,ad,cap,rfl,_,h5⟩:=hv
 rcases h5 with h5 | ⟨b,off,rfl,hm,hs⟩
 ·omega
 ·refine zZ hd (by intro c hc; cases hc) (fun a ha=>?_) (h b (off + j * sz) hm fun q u hq=>by rw [Nat.add_assoc]; exact hs.cell hq)
  have e1:(Instr.indexAt t (.slice (some ⟨b,off,none⟩) n cap) (.int k i)).run P w = .ok (.pointer (some ⟨b,off + j * sz,none⟩)) w:=by
   subst hij
   simp [Instr.indexAt,asIntOf,run_underlying ht,Result.andThen,jN he,hj,jE]
  simp only [execOp,ha.ev hx,ha.ev hi,Sem.run_bind,e1,Result.andThen]; rfl
theorem xC {d:Nat} {x:Operand} {t t':TypeId} {pos:String} {af:Array Edge} {ad:Addr} {u:Value} (hd:Nat.blt d N=true)
  (ht:Flat P t) (hx:ev E x=some (.pointer (some ad))) (hu:w.cell? ad=some u)
  (h:Ops P r N all K rest D ((d,u) :: E) w):Ops P r N all K (⟨some d,.load t x,t',pos,af,none⟩ :: rest) D E w :=
 zZ hd (by intro c hc; cases hc) (fun a ha=>by
  have e1:(Instr.loadAt t (.pointer (some ad))).run P w = .ok u w:=by
   simp [Instr.loadAt,Instr.sureAddr,loadVar,ht w,hu]
  simp only [execOp,ha.ev hx,Sem.run_bind,e1,Result.andThen]; rfl) h
theorem zT {d:Nat} {x:Operand} {t t' te:TypeId} {pos:String} {af:Array Edge} {b i:Nat} {cs:List Value} {u:Value} (hd:Nat.blt d N=true)
  (ht:Flat P t) (hx:ev E x=some (.pointer (some ⟨b,i,none⟩))) (hb:Blk w b te cs) (hu:cs[i]? = some u)
  (h:Ops P r N all K rest D ((d,u) :: E) w):Ops P r N all K (⟨some d,.load t x,t',pos,af,none⟩ :: rest) D E w :=
 xC hd ht hx (by rw [hb.cell]; exact hu) h
theorem run_store_blk {t te:TypeId} {b o:Nat} {cs:List Value} {v:Value} {sz bytes:Nat} {z:Value} (ht:Sz P t sz bytes z) (hb:Blk w b te cs) (hv:v.cells.size=sz) (ho:o + sz≤cs.length) (h1:∀ u ∈ v.cells.toList,u.oneCell'=true) :
  ∃ w',(Instr.storeAt t (.pointer (some ⟨b,o,none⟩)) v).run P w = .ok () w'∧Chg w w' b∧Blk w' b te (cs.take o ++ v.cells.toList ++ cs.drop (o + sz)):=by
 have hs:=run_storeCells_at (P:=P) b o te v.cells.toList 0 cs.toArray w hb (by simp; omega) h1
 refine ⟨w.setRow b ((cs.toArray.toList.take (o + 0) ++ v.cells.toList ++ cs.toArray.toList.drop (o + 0 + v.cells.toList.length)).toArray),?_,⟨rfl,⟨rfl,by first | exact Nat.le_refl _ | exact Nat.le_succ _⟩,rfl,by simp,fun k hk=>setRow_other _ _ _ _ hk⟩,?_⟩
 ·simp only [Instr.storeAt,Instr.sureAddr,Sem.run_bind,Sem.run_pure,Result.andThen,storeVar,jN ht]
  rw [if_neg (by omega)]
  exact hs
 ·have:=setRow_heap w b _ ((cs.toArray.toList.take (o + 0) ++ v.cells.toList ++ cs.toArray.toList.drop (o + 0 + v.cells.toList.length)).toArray) te _ hb
  unfold Blk
  rw [this]
  simp [hv]
theorem qK {x y:Operand} {t te t':TypeId} {pos:String} {af:Array Edge} {b o:Nat} {cs:List Value} {v:Value} {sz bytes:Nat} {z:Value} (hx:ev E x=some (.pointer (some ⟨b,o,none⟩))) (hy:ev E y=some v)
  (ht:Sz P t sz bytes z) (hb:Blk w b te cs) (hv:v.cells.size=sz) (ho:o + sz≤cs.length) (h1:∀ u ∈ v.cells.toList,u.oneCell'=true)
  (h:∀ w',Chg w w' b→Blk w' b te (cs.take o ++ v.cells.toList ++ cs.drop (o + sz))→Ops P r N all K rest D E w') :
  Ops P r N all K (⟨none,.store t x y,t',pos,af,none⟩ :: rest) D E w:=by
 obtain ⟨w',e1,e2,e3⟩:=run_store_blk (P:=P) ht hb hv ho h1
 refine ops_eff (by intro c hc; cases hc) (fun a ha=>?_) (h w' e2 e3)
 simp only [execOp,ha.ev hx,ha.ev hy,Sem.run_bind,e1,Result.andThen]; rfl
theorem jP {x y:Operand} {t te t':TypeId} {pos:String} {af:Array Edge} {b:Nat} {u v:Value} {bytes:Nat} {z:Value} (hx:ev E x=some (.pointer (some ⟨b,0,none⟩))) (hy:ev E y=some v)
  (ht:Sz P t 1 bytes z) (hb:Blk w b te [u]) (hv:v.oneCell'=true)
  (h:∀ w',Chg w w' b→Blk w' b te [v]→Ops P r N all K rest D E w') :
  Ops P r N all K (⟨none,.store t x y,t',pos,af,none⟩ :: rest) D E w:=by
 have hc:v.cells=#[v]:=by cases v <;> first | rfl | simp [Value.oneCell'] at hv
 refine qK hx hy ht hb (by rw [hc]; rfl) (by simp) (by rw [hc]; simpa using hv) fun w' h1 h2=>h w' h1 ?_
 rw [hc] at h2
 simpa using h2
theorem bD {x y:Operand} {t te t':TypeId} {pos:String} {af:Array Edge} {b i:Nat} {cs:List Value} {v:Value} {bytes:Nat} {z:Value} (hx:ev E x=some (.pointer (some ⟨b,i,none⟩))) (hy:ev E y=some v)
  (ht:Sz P t 1 bytes z) (hb:Blk w b te cs) (hv:v.oneCell'=true) (hi:i < cs.length)
  (h:∀ w',Chg w w' b→Blk w' b te (cs.set i v)→Ops P r N all K rest D E w') :
  Ops P r N all K (⟨none,.store t x y,t',pos,af,none⟩ :: rest) D E w:=by
 have hc:v.cells=#[v]:=by cases v <;> first | rfl | simp [Value.oneCell'] at hv
 refine qK hx hy ht hb (by rw [hc]; rfl) (by omega) (by rw [hc]; simpa using hv) fun w' h1 h2=>h w' h1 ?_
 rw [hc] at h2
 have e:cs.set i v=cs.take i ++ [v] ++ cs.drop (i + 1):=by
  rw [List.set_eq_take_append_cons_drop]; simp [hi]
 rw [e]; exact h2
theorem fW {d:Nat} {x:Operand} {t t':TypeId} {pos:String} {af:Array Edge} {v:Value} (hd:Nat.blt d N=true) (hx:ev E x=some v)
  (h:∀ w' b,New w w' b (.cells v.cells t)→Ops P r N all K rest D ((d,.pointer (some ⟨b,0,none⟩)) :: E) w'):Ops P r N all K (⟨some d,.box t x,t',pos,af,none⟩ :: rest) D E w :=
 zZ hd (by intro c hc; cases hc) (fun a ha=>by
  simp only [execOp,ha.ev hx]; rfl) (h _ _ (New.of_alloc w (.cells v.cells t)))
theorem cU {d:Nat} {t t':TypeId} {pos:String} {af:Array Edge} {sz bytes:Nat} {z:Value} (hd:Nat.blt d N=true) (ht:Sz P t sz bytes z)
  (h:∀ w' b,New w w' b (.cells z.cells t)→Ops P r N all K rest D ((d,.pointer (some ⟨b,0,none⟩)) :: E) w'):Ops P r N all K (⟨some d,.alloc t,t',pos,af,none⟩ :: rest) D E w :=
 zZ hd (by intro c hc; cases hc) (fun a ha=>by
  obtain ⟨i,h1,h2,h3,h4⟩:=ht
  have e1:(Instr.alloc t true (.tuple #[])).run P w = .ok (.pointer (some ⟨w.heap.size,0,none⟩)) (w.alloc (.cells z.cells t)):=by
   simp [Instr.alloc,zeroValue,typeInfo,h1,h4,newVar,newRow]
  simp only [execOp,Sem.run_bind,e1,Result.andThen]; rfl) (h _ _ (New.of_alloc w (.cells z.cells t)))
theorem mE {d:Nat} {x y:Operand} {t e t':TypeId} {pos:String} {af:Array Edge} {bytes:Nat} {z:Value} {k k':IntKind} {i j:Int} (n c:Nat) (hd:Nat.blt d N=true)
  (ht:P.underlying t=some (.slice e)) (he:Sz P e 1 bytes z) (hz:z.oneCell'=true) (hx:ev E x=some (.int k i)) (hy:ev E y=some (.int k' j)) (hi:i=(n:Int)) (hj:j=(c:Int)) (hnc:n≤c) (hc:bytes * c≤140737488355328) (h63:c≤140737488355328)
  (h:∀ w' b,New w w' b (.cells (List.replicate c z).toArray e)→Ops P r N all K rest D ((d,.slice (some ⟨b,0,none⟩) n c) :: E) w'):Ops P r N all K (⟨some d,.makeSlice t x y,t',pos,af,none⟩ :: rest) D E w:=by
 obtain ⟨q,h1,h2,h3,h4⟩:=he
 have hb:((bytes * c:Nat):Int)≤140737488355328:=by omega
 have e1:=run_make (P:=P) w t e q z ht h1 h4 k k' i j (by omega) (by omega) (by rw [hj,h3]; rw [Int.natCast_mul] at hb; omega) (by omega)
 have hzc:z.cells=#[z]:=by cases z <;> first | rfl | simp [Value.oneCell'] at hz
 have e2:madeCells z.cells (j.toNat * q.size)=(List.replicate c z).toArray:=by
  rw [h2,hj,hzc,Int.toNat_natCast,Nat.mul_one]
  apply Array.ext
  ·simp [madeCells]
  ·intro a b1 b2; simp [madeCells,Nat.mod_one]
 rw [e2] at e1
 refine zZ hd (by intro c hc; cases hc) (fun a ha=>?_) (h _ _ (New.of_alloc w _))
 have e3:i.toNat=n:=by omega
 have e4:j.toNat=c:=by omega
 rw [e3,e4] at e1
 simp only [execOp,ha.ev hx,ha.ev hy,Sem.run_bind,e1,Result.andThen]; rfl
theorem kK {d:Nat} {x:Operand} {lo hi mx:Option Operand} {t e t':TypeId} {pos:String} {af:Array Edge} {sz bytes:Nat} {z:Value} {ad:Option Addr} {n c:Nat} (l m q:Nat) (hd:Nat.blt d N=true)
  (ht:P.underlying t=some (.slice e)) (he:Sz P e sz bytes z) (hx:ev E x=some (.slice ad n c))
  (hlo:match lo with | none=>l=0 | some o=>∃ k,ev E o=some (.int k (l:Int))) (hhi:match hi with | none=>m=n | some o=>∃ k,ev E o=some (.int k (m:Int)))
  (hmx:match mx with | none=>q=c | some o=>hi.isSome=true∧∃ k,ev E o=some (.int k (q:Int))) (hlm:l≤m) (hmq:m≤q) (hqc:q≤c)
  (h:Ops P r N all K rest D ((d,.slice (if q=l then ad else ad.map (·.add (l * sz))) (m - l) (q - l)) :: E) w) :
  Ops P r N all K (⟨some d,.slice t x lo hi mx,t',pos,af,none⟩ :: rest) D E w:=by
 refine zZ hd (by intro c hc; cases hc) (fun a ha=>?_) h
 have hb:∀ (k:IntKind) (i y:Nat) (code:BoundsCode),i≤y→(Instr.sliceBound (.int k (i:Int)) y code).run P w = .ok i w:=by
  intro k i y code hiy
  simp [Instr.sliceBound,asIntOf,hiy]
 have e1:(Instr.sliceAt t (.slice ad n c) (lo.map a.eval) (hi.map a.eval) (mx.map a.eval)).run P w = .ok (.slice (if q=l then ad else ad.map (·.add (l * sz))) (m - l) (q - l)) w:=by
  have e2:(Instr.sliceBounds true n c (lo.map a.eval) (hi.map a.eval) (mx.map a.eval)).run P w = .ok (l,m,q) w:=by
   unfold Instr.sliceBounds
   cases mx with
   | none =>
    simp only at hmx; subst hmx
    cases hi with
    | none =>
     simp only at hhi; subst hhi
     cases lo with
     | none=>simp only at hlo; subst hlo; rfl
     | some o=>obtain ⟨k,ho⟩:=hlo; simp [ha.ev ho,hb k l _ _ hlm]
    | some o =>
     obtain ⟨k,ho⟩:=hhi
     cases lo with
     | none=>simp only at hlo; subst hlo; simp [ha.ev ho,hb k m _ _ hmq]
     | some o'=>obtain ⟨k',ho'⟩:=hlo; simp [ha.ev ho,ha.ev ho',hb k m _ _ hmq,hb k' l _ _ hlm]
   | some om =>
    obtain ⟨hs,k,ho⟩:=hmx
    cases hi with
    | none=>simp at hs
    | some o =>
     obtain ⟨k1,ho1⟩:=hhi
     cases lo with
     | none=>simp only at hlo; subst hlo; simp [ha.ev ho,ha.ev ho1,hb k q _ _ hqc,hb k1 m _ _ hmq]
     | some o'=>obtain ⟨k',ho'⟩:=hlo; simp [ha.ev ho,ha.ev ho1,ha.ev ho',hb k q _ _ hqc,hb k1 m _ _ hmq,hb k' l _ _ hlm]
  simp only [Instr.sliceAt,Sem.run_bind,run_underlying ht,Result.andThen,Instr.slice,e2,jN he]; rfl
 simp only [execOp,ha.ev hx,Sem.run_bind,e1,Result.andThen]; rfl
theorem bE {d:Nat} {x:Operand} {lo hi mx:Option Operand} {t e t':TypeId} {pos:String} {af:Array Edge} {sz bytes:Nat} {z:Value} {v:Value} {n:Nat} {cs:List Value} (l m:Nat) (hd:Nat.blt d N=true)
  (ht:P.underlying t=some (.slice e)) (he:Sz P e sz bytes z) (hx:ev E x=some v) (hv:Slc M w sz v n cs)
  (hlo:match lo with | none=>l=0 | some o=>∃ k,ev E o=some (.int k (l:Int))) (hhi:match hi with | none=>m=n | some o=>∃ k,ev E o=some (.int k (m:Int)))
  (hmx:match mx with | none=>True | some o=>hi.isSome=true∧∃ k,ev E o=some (.int k (m:Int))) (hlm:l≤m) (hmn:m≤n)
  (h:∀ u,Slc M w sz u (m - l) ((cs.drop (l * sz)).take ((m - l) * sz))→Ops P r N all K rest D ((d,u) :: E) w) :
  Ops P r N all K (⟨some d,.slice t x lo hi mx,t',pos,af,none⟩ :: rest) D E w:=by
 obtain ⟨h1,h2,ad,c,rfl,h4,h5⟩:=hv
 have key:∀ q,m≤q→Slc M w sz (.slice (if q=l then ad else ad.map (·.add (l * sz))) (m - l) (q - l)) (m - l) ((cs.drop (l * sz)).take ((m - l) * sz)):=by
  intro q hq
  have hle:(m - l) * sz≤cs.length - l * sz:=by
   rw [h1,← Nat.sub_mul]; exact Nat.mul_le_mul_right _ (by omega)
  refine ⟨by simp; omega,by omega,_,_,rfl,by omega,?_⟩
  by_cases hz:m - l=0
  ·exact .inl hz
  ·rcases h5 with h5 | ⟨b,off,rfl,h6,h7⟩
   ·omega
   ·refine .inr ⟨b,off + l * sz,?_,h6,h7.sub _ _⟩
    rw [if_neg (by omega)]; simp [jE]
 cases mx with
 | none=>exact kK l m c hd ht he hx hlo hhi rfl hlm (by omega) (Nat.le_refl _) (h _ (key c (by omega)))
 | some o=>exact kK l m m hd ht he hx hlo hhi hmx hlm (Nat.le_refl _) (by omega) (h _ (key m (Nat.le_refl _)))
theorem yB5:∀ (vs pre olds post:List Value),olds.length=vs.length→(∀ v ∈ vs,v.oneCell'=true) →
  Instr.fill (fun i=>some (i,1)) (pre ++ olds ++ post).toArray ((vs.zipIdx pre.length).map fun x=>(x.2,x.1))=some (pre ++ vs ++ post).toArray
 | [],pre,olds,post,hl,_=>by
  have:olds=[]:=by simpa using hl
  subst this; simp [Instr.fill]
 | v :: vs,pre,[],post,hl,h1=>by simp at hl
 | v :: vs,pre,o :: olds,post,hl,h1=>by
  have hc:v.cells=#[v]:=by have:=h1 v (by simp); cases v <;> first | rfl | simp [Value.oneCell'] at this
  simp at hl
  have ih:=yB5 vs (pre ++ [v]) olds post hl (fun x hx=>h1 x (by simp [hx]))
  simp only [List.zipIdx_cons,List.map_cons,Instr.fill,hc]
  rw [if_neg (by simp)]
  have e:(#[v].zipIdx.foldl (fun (cs:Array Value) (x:Value × Nat)=>cs.setIfInBounds (pre.length + x.2) x.1) (pre ++ o :: olds ++ post).toArray)=(pre ++ [v] ++ olds ++ post).toArray:=by
   simp [List.set_append]
  simp only [List.length_append,List.length_cons,List.length_nil,Nat.zero_add] at ih
  have ih':=ih
  simp only [List.append_assoc,List.cons_append,List.nil_append] at ih' e ⊢
  rw [← ih',e]
theorem uX {d:Nat} {t e t':TypeId} {pos:String} {af:Array Edge} {bytes:Nat} {z:Value} {len:Nat} {parts:Array (Nat × Operand)} {vs:List Value} (hd:Nat.blt d N=true)
  (ht:P.underlying t=some (.slice e)) (he:Sz P e 1 bytes z) (hz:z.oneCell'=true) (hi:parts.toList.map (·.1)=List.range len) (hx:evs E (parts.toList.map (·.2))=some vs) (h1:∀ v ∈ vs,v.oneCell'=true) (hl:Nat.ble len 1000=true)
  (h:∀ w' b,New w w' b (.cells vs.toArray e)→Ops P r N all K rest D ((d,.slice (some ⟨b,0,none⟩) len len) :: E) w') :
  Ops P r N all K (⟨some d,.buildSlice t len parts,t',pos,af,none⟩ :: rest) D E w:=by
 refine zZ hd (by intro c hc; cases hc) (fun a ha=>?_) (h _ _ (New.of_alloc w (.cells vs.toArray e)))
 have hvl:vs.length=len:=by
  have:=congrArg List.length (ha.evs hx)
  have h2:=congrArg List.length hi
  simp at this h2; omega
 have hll:len≤1000:=by simpa [Nat.ble_eq] using hl
 have hparts:parts.toList.map (fun x=>(x.1,a.eval x.2))=vs.zipIdx.map fun x=>(x.2,x.1):=by
  have h3:=ha.evs hx
  apply List.ext_getElem
  ·have h2:=congrArg List.length hi; simp at h2; simp; omega
  ·intro n hn1 hn2
   simp at hn1 hn2
   have e1:(parts.toList.map (·.1))[n]'(by simpa using hn1)=n:=by simp [hi]
   have e2:((parts.toList.map (·.2)).map a.eval)[n]'(by simpa using hn1)=vs[n]'(by omega):=by simp [h3]
   simp at e1 e2
   simp [e1,e2]
 have hzc:z.cells=#[z]:=by cases z <;> first | rfl | simp [Value.oneCell'] at hz
 obtain ⟨q,q1,q2,q3,q4⟩:=he
 have e1:(Instr.buildSlice t len (parts.map fun (i,x)=>(i,a.eval x))).run P w = .ok (.slice (some ⟨w.heap.size,0,none⟩) len len) (w.alloc (.cells vs.toArray e)):=by
  unfold Instr.buildSlice
  have f1:=yB5 vs [] (List.replicate len z) [] (by simp [hvl]) h1
  simp only [List.nil_append,List.append_nil,List.length_nil] at f1
  by_cases hn:len=0
  ·subst hn
   have:vs=[]:=by simpa using hvl
   subst this
   simp [run_underlying ht,sizeOf,typeInfo,q1,q2,Array.range_zero',newRow,hparts,Instr.fill]
  ·have e3:((Array.range len).map fun x=>z.cells[x % z.cells.size]!)=(List.replicate len z).toArray:=by
    rw [hzc]; apply Array.ext
    ·simp
    ·intro a b1 b2; simp [Nat.mod_one]
   have hlt:¬ (16777216 < len):=by omega
   simp [run_underlying ht,sizeOf,typeInfo,q1,q2,newRow,hparts,hn,hlt,zeroValue,q4]
   rw [e3,f1]
   simp
 simp only [execOp,Sem.run_bind,e1,Result.andThen]; rfl
theorem eQ {P:Program} {M:Nat→Prop} {w:World} (t ty e:TypeId) {sz bytes:Nat} {z:Value} (ht:P.underlying t=some (.slice e)) (he:Sz P e sz bytes z) (hz:z.cells.size=sz) (hsz:0 < sz)
  {v u:Value} {n m:Nat} {xs news:List Value} (hown:w.ownsRow 0 e sz v n xs) (hu:Slc M w sz u m news) (h1:∀ u ∈ news,u.oneCell'=true)
  (hn:n + m≤140737488355328) (hb:(n + m) * bytes≤140737488355328) :
  ∃ v' w',(Builtin.append_ #[t,t] ty #[v,u]).run P w = .ok v' w'∧w'.ownsRow 0 e sz v' (n + m) (xs ++ news)∧Gro w w' v.ownBlock∧(v'.ownBlock=v.ownBlock ∨ v'.ownBlock=some w.heap.size):=by
 obtain ⟨i,i1,i2,i3,i4⟩:=he
 obtain ⟨hl,_,ad,c,rfl,hmc,h5⟩:=hu
 have h63:n + m≤maxLen:=by simp [maxLen]; omega
 by_cases hm:m=0
 ·subst hm
  have hnews:news=[]:=by simpa using hl
  subst hnews
  refine ⟨v,w,?_,by simpa using hown,⟨⟨rfl,rfl,rfl,Nat.le_refl _,fun _ _ _=>rfl⟩,Nat.le_refl _⟩,.inl rfl⟩
  rcases hown.2 with ⟨rfl,rfl⟩ | ⟨g,cap,cur,rfl,hbg,hg,hnc,hcm,hcs,htake⟩
  ·cases ad <;> simp [Builtin.append_,run_underlying ht,sizeOf,typeInfo,i1,Builtin.lenOf,Builtin.firstCells,loadCells,loadCellsFrom]
  ·cases ad <;> simp [Builtin.append_,run_underlying ht,sizeOf,typeInfo,i1,Builtin.lenOf,Builtin.firstCells,loadCells,loadCellsFrom,hnc,storeCells]
 ·rcases h5 with h5 | ⟨b,off,rfl,_,hs⟩
  ·omega
  ·have hnews:∀ j x,news[j]? = some x→w.cell? ((⟨b,off,none⟩:Addr).add j)=some x:=fun j x hj=>by rw [jE]; exact hs.cell hj
   obtain ⟨v',w',r1,r2,r3,r4⟩:=run_append_own (P:=P) w 0 t ty e i z sz bytes ht i1 i4 i2 i3 hz hsz v n xs hown ⟨b,off,none⟩ m c news hl hnews h1 h63 hb (Nat.zero_le _)
   suffices hh:(v'.ownBlock=(Value.ownBlock _) ∨ v'.ownBlock=some w.heap.size)∧w.drawn≤w'.drawn from ⟨v',w',r1,r2,⟨r3,hh.2⟩,hh.1⟩
   rcases hown.2 with ⟨rfl,rfl⟩ | ⟨g,cap,cur,rfl,hbg,hg,hnc,hcm,hcs,htake⟩
   ·have hr:=run_append_nil (P:=P) w t ty e i z ht i1 i4 ⟨b,off,none⟩ m c news (by rw [i2]; exact hl) hnews (by omega) (by omega) (by rw [i3]; simp only [Nat.zero_add] at hb; omega)
    rw [hr] at r1
    injection r1 with a1 a2
    exact ⟨.inr (by rw [← a1]; rfl),by rw [← a2]; first | exact Nat.le_refl _ | exact Nat.le_succ _⟩
   ·by_cases hroom:n + m≤cap
    ·have hfit:n * i.size + news.length≤cur.size:=by
      rw [hl,hcs,i2,← Nat.add_mul]; exact Nat.mul_le_mul_right _ hroom
     have hr:=run_append_room (P:=P) w t ty e i ht i1 g n cap cur hg ⟨b,off,none⟩ m c news (by rw [i2]; exact hl) hnews h1 hroom hfit
     rw [hr] at r1
     injection r1 with a1 a2
     exact ⟨.inl (by rw [← a1]; rfl),by rw [← a2]; first | exact Nat.le_refl _ | exact Nat.le_succ _⟩
    ·have holds:∀ j x,xs[j]? = some x→w.cell? ((⟨g,0,none⟩:Addr).add j)=some x:=hown.cells (g:=g) rfl
     have hr:=run_append_grow (P:=P) w t ty e i z ht i1 i4 ⟨g,0,none⟩ n cap xs (by rw [i2]; exact hown.1) holds ⟨b,off,none⟩ m c news (by rw [i2]; exact hl) hnews (by omega) (by omega) (by rw [i3]; exact growslice_fits (by omega) hb)
     rw [hr] at r1
     injection r1 with a1 a2
     exact ⟨.inr (by rw [← a1]; rfl),by rw [← a2]; first | exact Nat.le_refl _ | exact Nat.le_succ _⟩
theorem run_append_sl (t ty e:TypeId) {bytes:Nat} {z:Value} (ht:P.underlying t=some (.slice e)) (he:Sz P e 1 bytes z) (hz:z.oneCell'=true)
  {v u:Value} {n m:Nat} {xs news:List Value} (hown:w.ownsRow 0 e 1 v n xs) (hu:Slc M w 1 u m news) (h1:∀ u ∈ news,u.oneCell'=true)
  (hn:n + m≤140737488355328) (hb:(n + m) * bytes≤140737488355328) :
  ∃ v' w',(Builtin.append_ #[t,t] ty #[v,u]).run P w = .ok v' w'∧w'.ownsRow 0 e 1 v' (n + m) (xs ++ news)∧Gro w w' v.ownBlock∧(v'.ownBlock=v.ownBlock ∨ v'.ownBlock=some w.heap.size):=eQ t ty e ht he (by cases z <;> first | rfl | simp [Value.oneCell'] at hz) (by omega) hown hu h1 hn hb
theorem iX {d:Nat} {x y:Operand} {t e t':TypeId} {pos:String} {af:Array Edge} {bytes:Nat} {z:Value} {v u:Value} {n m:Nat} {xs news:List Value} (hd:Nat.blt d N=true)
  (ht:P.underlying t=some (.slice e)) (he:Sz P e 1 bytes z) (hz:z.oneCell'=true) (hx:ev E x=some v) (hy:ev E y=some u) (hown:w.ownsRow 0 e 1 v n xs) (hu:Slc M w 1 u m news) (h1:∀ u ∈ news,u.oneCell'=true)
  (hn:n + m≤140737488355328) (hb:(n + m) * bytes≤140737488355328)
  (h:∀ v' w',w'.ownsRow 0 e 1 v' (n + m) (xs ++ news)→Gro w w' v.ownBlock→(v'.ownBlock=v.ownBlock ∨ v'.ownBlock=some w.heap.size)→Ops P r N all K rest D ((d,v') :: E) w') :
  Ops P r N all K (⟨some d,.call ⟨.builtin .append,#[x,y],#[t,t]⟩,t',pos,af,none⟩ :: rest) D E w:=by
 obtain ⟨v',w',r1,r2,r3,r4⟩:=run_append_sl (P:=P) t t' e ht he hz hown hu h1 hn hb
 refine zZ hd (by intro c hc; cases hc) (fun ac ha=>?_) (h v' w' r2 r3 r4)
 simp only [execOp,resolve,invoke,builtin,Sem.run_bind,Sem.run_pure,Result.andThen,List.map_toArray,List.map_cons,List.map_nil,ha.ev hx,ha.ev hy]
 rw [r1]
def Mo (v:Value) (M:Nat→Prop):Nat→Prop:=fun k=>v.ownBlock=some k ∨ M k
def FOk (Fz:Nat→Prop) (w:World):Prop:=∀ k,Fz k→k < w.heap.size
theorem FOk.mono {Fz' M M':Nat→Prop} {w w':World} (h:FOk Fz w) (l:Le Fz' M w M' w'):FOk Fz w':=fun k hk=>Nat.lt_of_lt_of_le (h k hk) l.size
theorem FOk.new {w':World} {b:Nat} {o:Obj} (h:FOk Fz w) (hn:New w w' b o):¬ Fz b:=fun hb=>by have:=h b hb; rw [hn.at_] at this; omega
theorem OkM.new {w':World} {b:Nat} {o:Obj} (h:OkM M w) (hn:New w w' b o):¬ M b:=fun hb=>by have:=h b hb; rw [hn.at_] at this; omega
theorem Le.of_grown {w':World} {v v':Value} (hg:Gro w w' v.ownBlock) (hs:v'.ownBlock=v.ownBlock ∨ v'.ownBlock=some w.heap.size) {e:TypeId} {sz n:Nat} {xs:List Value} (hown:w'.ownsRow 0 e sz v' n xs)
  (hf:∀ k,v.ownBlock=some k→¬ Fz k):Le Fz (Mo v M) w (Mo v' M) w':=by
 refine ⟨hg.os,hg.tape,hg.output,hg.size,fun k hk hF=>hg.block k hk (fun e=>hf k e.symm hF),fun k hk hm=>hg.block k hk (fun e=>hm (.inl e.symm)),fun k hk=>?_,fun ho k hk=>?_⟩
 ·rcases hk with hk | hk
  ·rcases hs with hs | hs
   ·exact .inl (.inl (hs ▸ hk))
   ·rw [hs] at hk; injection hk with hk; exact .inr (by omega)
  ·exact .inl (.inr hk)
 ·rcases hk with hk | hk
  ·exact (hown.lt k hk).2
  ·exact Nat.lt_of_lt_of_le (ho k (.inr hk)) hg.size
theorem iV {w':World} {v v':Value} (hf:∀ k,v.ownBlock=some k→¬ Fz k) (hF:FOk Fz w) (hs:v'.ownBlock=v.ownBlock ∨ v'.ownBlock=some w.heap.size):∀ k,v'.ownBlock=some k→¬ Fz k:=by
 intro k hk
 rcases hs with hs | hs
 ·exact hf k (hs ▸ hk)
 ·rw [hs] at hk; injection hk with hk; intro hc; have:=hF k hc; omega
theorem iU {w':World} {v v':Value} (hf:∀ k,v.ownBlock=some k→¬ M k) (hM:OkM M w) (hs:v'.ownBlock=v.ownBlock ∨ v'.ownBlock=some w.heap.size):∀ k,v'.ownBlock=some k→¬ M k:=by
 intro k hk
 rcases hs with hs | hs
 ·exact hf k (hs ▸ hk)
 ·rw [hs] at hk; injection hk with hk; intro hc; have:=hM k hc; omega
theorem oW {sz:Nat} {e:TypeId} {n:Nat} {v:Value} {xs:List Value} (h:w.ownsRow 0 e sz v n xs) (hm:∀ k,v.ownBlock=some k→¬ M k) (hn:n≤9223372036854775807):Slc M w sz v n xs:=by
 obtain ⟨h1,⟨rfl,rfl⟩ | ⟨g,cap,cur,rfl,hbg,hg,hnc,hcm,hcs,htake⟩⟩:=h
 ·have:xs=[]:=by simpa using h1
  subst this; exact oU
 ·refine ⟨h1,hn,_,_,rfl,hnc,.inr ⟨g,0,rfl,hm g rfl,cur,e,(0,0),hg,fun j u hj=>?_⟩⟩
  rw [← htake,List.getElem?_take] at hj
  split at hj
  ·simpa using hj
  ·simp at hj
theorem wU {e:TypeId}:w.ownsRow 0 e 1 (.slice none 0 0) 0 []:=World.ownsRow_nil w 0 e 1
theorem zY6 {e:TypeId} {b n c:Nat} {cs:List Value} (h:Blk w b e cs) (hl:cs.length=c) (hn:n≤c) (hc:c≤140737488355328):w.ownsRow 0 e 1 (.slice (some ⟨b,0,none⟩) n c) n (cs.take n) :=
 ⟨by simp; omega,.inr ⟨b,c,cs.toArray,rfl,Nat.zero_le _,h,hn,by simp [maxLen]; omega,by simpa using hl,by simp⟩⟩
theorem gT {sz:Nat} {e:TypeId} {v:Value} {n:Nat} {xs:List Value} {w':World} (h:w.ownsRow 0 e sz v n xs) (hb:Bel w.heap.size w w'):w'.ownsRow 0 e sz v n xs :=
 h.kept (row:=none) ⟨hb.os,hb.tape.eq,hb.output,hb.size,fun k hk _=>hb.block k hk⟩ (by cases v.ownBlock <;> simp)
end ops
end Go.SL
namespace Go.SL
open Go.RowKit
section scope
variable {P : Program} {b : Frame} {a : Act} {k : List Item} {cs : List Frame} {w : World} {Q : Exit → Act → World → Prop}
theorem uJ {c:Code}:step P (lone (b.atR a (.code (.scope c) :: k)) cs w) = .next (lone (b.atR a (.code c :: .inScope c :: k)) cs w) :=
 step_lone_go (by simp [stepG,stepG.exec,Frame.atR])
theorem stepR_inScope {c:Code}:step P (lone (b.atR a (.inScope c :: k)) cs w) = .next (lone (b.atR a k) cs w) :=
 step_lone_go (by simp [stepG,stepG.exec,Frame.atR])
theorem wpIn_scope {F:Fence} {n:Nat} {c:Code} (h:c.wpIn F n P (Exit.noGoto Q) a w):(Code.scope c).wpIn F n P Q a w:=by
 intro b k cs hro hb hr
 have h0:(lone (b.atR a (.code (.scope c) :: k)) cs w).fenced P F:=fenced_calm hb hr rfl
 obtain ⟨e,a₁,w₁,hq,harr⟩:=h b (.inScope c :: k) cs hro hb hr
 cases e with
 | normal=>exact ⟨.normal,a₁,w₁,hq,.head h0 uJ (StepsIn.trans harr (.one (fenced_calm hb hr rfl) stepR_inScope))⟩
 | exit id =>
  have hx:exitTo id (.inScope c :: k)=exitTo id k:=by simp [exitTo]
  exact ⟨.exit id,a₁,w₁,hq,fun k' hk => .head h0 uJ (harr.1 k' (by rw [hx]; exact hk)),
   fun hr' hk=>let ⟨k₁,h1,h2⟩:=harr.2 hr' (by rw [hx]; exact hk); ⟨k₁,h1,.head h0 uJ h2⟩⟩
 | goto l=>exact hq.elim
 | ret=>exact ⟨_,a₁,w₁,hq,.of_steps (.one h0 uJ) harr⟩
 | panic ch=>exact ⟨_,a₁,w₁,hq,.of_steps (.one h0 uJ) harr⟩
 | outgrown=>exact ⟨_,a₁,w₁,hq,.of_steps (.one h0 uJ) harr⟩
end scope
theorem lH {P:Program} {r:Option Nat} {N:Nat} {Kn Kr:Pd} {Ke:Nat→Pd} {D:List Deferred} {E:Env} {w:World} {c:Code} (h:Wp P r N c Kn Ke Kr D E w):Wp P r N (.scope c) Kn Ke Kr D E w:=by
 intro a ha hd
 refine wpIn_scope (wpIn_mono (h a ha hd) fun e a' w' hq=>?_)
 cases e <;> exact hq
section code
variable {P : Program} {r : Option Nat} {N : Nat} {Kn Kr : Pd} {Ke : Nat → Pd} {D : List Deferred} {E : Env} {w : World}
theorem uO {σ:Type} {body:Code} (Ec:Env) (EV:σ→Env) (J:σ→World→Prop) (μ:σ→Nat) (s0:σ) (hE:Sub (EV s0 ++ Ec) E) (hJ:J s0 w)
  (round:∀ s w,J s w→Wp P r N body (fun D' E' w'=>D'=D∧∃ s',Sub (EV s' ++ Ec) E'∧J s' w'∧μ s' < μ s) Ke Kr D (EV s ++ Ec) w) :
  Wp P r N (.loop body) Kn Ke Kr D E w :=
 wp_loop (fun s=>EV s ++ Ec) (fun s D' w=>D'=D∧J s w) μ s0 hE ⟨rfl,hJ⟩ fun s D' w ⟨hD,hJ⟩ a ha hd=>by
  subst hD
  refine wpIn_mono (round s w hJ a ha hd) fun e a' w' hq=>?_
  cases e with
  | normal=>obtain ⟨E',h1,h2,s',h3,h4,h5⟩:=hq; exact ⟨E',h1,s',h3,⟨h2,h4⟩,h5⟩
  | exit id=>exact hq
  | ret=>exact hq
  | goto l=>exact hq
  | panic c=>exact hq
  | outgrown=>exact hq
theorem lI {l:Nat} (h:Kn D E w):Wp P r N (.label l) Kn Ke Kr D E w:=fun _ ha hd=>wpIn_label ⟨E,ha,by rw [hd]; exact h⟩
theorem wE {c:Code} {K:Pd} (h:Wp P r N c K Ke Kr D E w) (hk:∀ D E w,K D E w→Kn D E w):Wp P r N c Kn Ke Kr D E w:=by
 intro a ha hd
 refine wpIn_mono (h a ha hd) fun e a' w' hq=>?_
 cases e with
 | normal=>obtain ⟨E',h1,h2⟩:=hq; exact ⟨E',h1,hk _ _ _ h2⟩
 | exit id=>exact hq
 | ret=>exact hq
 | goto l=>exact hq
 | panic c=>exact hq
 | outgrown=>exact hq
end code
section ops
variable {P : Program} {r : Option Nat} {N : Nat} {all : Array Oper} {K : Pd} {D : List Deferred} {E : Env} {w : World} {rest : List Oper}
variable {Fz M : Nat → Prop}
theorem Has.lit {a:Act} {d:Nat} {v u:Value} (h:Has a N E) (hd:get E d=some v) (e:v=u):Has a N ((d,u) :: E):=by
  refine ⟨h.size,fun i x hx=>?_⟩
  unfold get at hx
  cases hb:Nat.beq d i with
  | true => have : d = i := Nat.eq_of_beq_eq_true hb
            subst this; simp [hb] at hx; subst hx; rw [← e]; exact h.at_ d v hd
  | false=>rw [hb] at hx; exact h.at_ i x hx
theorem xY {l:List Oper} {d:Nat} {v u:Value} (hd:get E d=some v) (e:v=u) (h:Ops P r N all K l D ((d,u) :: E) w):Ops P r N all K l D E w :=
 fun a Q ha hD hk=>h a Q (ha.lit hd e) hD hk
theorem tU {l:List Oper} {d:Nat} {p:Prop} [Decidable p] (hd:get E d=some (.bool (decide p)))
  (ht:p→Ops P r N all K l D ((d,.bool true) :: E) w) (hf:¬ p→Ops P r N all K l D ((d,.bool false) :: E) w):Ops P r N all K l D E w:=by
 by_cases hp:p
 ·exact xY hd (by simp [hp]) (ht hp)
 ·exact xY hd (by simp [hp]) (hf hp)
theorem tT {d:Nat} {x y:Operand} {tx ty t:TypeId} {pos:String} {af:Array Edge} {ad:Option Addr} {n c:Nat} (hd:Nat.blt d N=true)
  (hs:∃ e,P.underlying tx=some (.slice e)) (hx:ev E x=some (.slice ad n c)) (hy:ev E y=some (.slice none 0 0))
  (h:Ops P r N all K rest D ((d,.bool ad.isNone) :: E) w):Ops P r N all K (⟨some d,.binOp .eql tx x y ty,t,pos,af,none⟩ :: rest) D E w :=
 zZ hd (by intro c hc; cases hc) (fun ac ha=>by
  obtain ⟨e,hs⟩:=hs
  have hg:(eqGuard .eql tx x y (.slice ad n c) (.slice none 0 0)).run P w = .ok () w:=rfl
  have hb:binOp .eql tx (.slice ad n c) (.slice none 0 0)=(do pure (.bool (← Op.equal tx (.slice ad n c) (.slice none 0 0)))):=rfl
  have he:(Op.equal tx (.slice ad n c) (.slice none 0 0)).run P w = .ok ad.isNone w:=by
   show (Op.equalIn (9999 + 1) tx _ _).run P w=_
   unfold Op.equalIn
   simp only [Sem.run_bind,run_underlying hs,Result.andThen]
   cases ad <;> rfl
  simp only [execOp,ha.ev hx,ha.ev hy,Sem.run_bind,hg,hb,he,Result.andThen]; rfl) h
theorem uE {xs:List Nat} {j:Nat} (h:j < xs.length):(xs.map lw)[j]? = some (lw (xs.getD j 0)):=by simp [List.getElem?_eq_getElem h]
theorem IsNat.lim {v:Value} {xs:List Nat} (h:IsNat M w v xs) (j:Nat):xs.getD j 0 < 4294967296:=by
 rcases Nat.lt_or_ge j xs.length with hj | hj
 ·have:xs.getD j 0=xs[j]:=by simp [hj]
  rw [this]; exact h.lt _ (List.getElem_mem hj)
 ·have:xs.getD j 0=0:=by simp [hj]
  rw [this]; omega
theorem uW {d:Nat} {x ix:Operand} {t e t':TypeId} {pos:String} {af:Array Edge} {bytes:Nat} {z:Value} {v:Value} {xs:List Nat} {k:IntKind} {i:Int} (j:Nat) (hd:Nat.blt d N=true)
  (ht:P.underlying t=some (.slice e)) (he:Sz P e 1 bytes z) (hx:ev E x=some v) (hi:ev E ix=some (.int k i)) (hv:IsNat M w v xs) (hij:i=(j:Int)) (hj:j < xs.length)
  (h:∀ b off,w.cell? ⟨b,off,none⟩=some (lw (xs.getD j 0))→xs.getD j 0 < 4294967296→Ops P r N all K rest D ((d,.pointer (some ⟨b,off,none⟩)) :: E) w) :
  Ops P r N all K (⟨some d,.indexAddr t x ix,t',pos,af,none⟩ :: rest) D E w :=
 ops_idx j hd ht he hx hi hv.slc hij hj fun b off _ hc=>h b off (by have:=hc 0 (lw (xs.getD j 0)) (by rw [Nat.mul_one,Nat.add_zero]; exact uE hj); simpa using this) (hv.lim j)
theorem ops_leno {sz:Nat} {d:Nat} {x:Operand} {t e e' t':TypeId} {pos:String} {af:Array Edge} {n:Nat} {v:Value} {xs:List Value} (hd:Nat.blt d N=true)
  (ht:P.underlying t=some (.slice e)) (hx:ev E x=some v) (hv:w.ownsRow 0 e' sz v n xs)
  (h:Ops P r N all K rest D ((d,.int .i64 (n:Int)) :: E) w):Ops P r N all K (⟨some d,.call ⟨.builtin .len,#[x],#[t]⟩,t',pos,af,none⟩ :: rest) D E w:=by
 obtain ⟨_,⟨rfl,rfl⟩ | ⟨g,cap,cur,rfl,_⟩⟩:=hv
 ·exact fU hd ht hx h
 ·exact fU hd ht hx h
theorem cO {d:Nat} {x y:Operand} {tx ty t:TypeId} {pos:String} {af:Array Edge} {k k':IntKind} {a:Nat} {b:Int} {m:Nat} (hd:Nat.blt d N=true)
  (hx:ev E x=some (.int k (a:Int))) (hy:ev E y=some (.int k' b)) (hb:0≤b∧b < k.bits) (hm:m=if k = .u64 then 18446744073709551616 else 4294967296) (hk:k = .u64 ∨ k = .u32)
  (h:Ops P r N all K rest D ((d,.int k ((a * 2 ^ b.toNat % m:Nat):Int)) :: E) w):Ops P r N all K (⟨some d,.binOp .shl tx x y ty,t,pos,af,none⟩ :: rest) D E w :=
 tR hd (.inl rfl) hx hy hb.1 (by
  have h1:min b.toNat k.bits=b.toNat:=by omega
  simp only [h1]
  have e:((a:Int) * (2:Int) ^ b.toNat)=((a * 2 ^ b.toNat:Nat):Int):=by simp
  rw [e]
  rcases hk with rfl | rfl
  ·rw [aU]; simp [hm]
  ·rw [pJ]; simp [hm]) h
theorem zQ3 {k:IntKind} (hk:k = .u64 ∨ k = .u32) (a b:Nat) (ha:a < 2 ^ k.bits) (hb:b < 2 ^ k.bits) (op:BinOp) (f:Nat→Nat→Nat)
  (hf:(op = .or∧f=(· ||| ·)) ∨ (op = .and∧f=(· &&& ·)) ∨ (op = .xor∧f=(· ^^^ ·))) (w:World):(Op.intBits op k (a:Int) (b:Int)).run P w = .ok (.int k ((f a b:Nat):Int)) w:=by
 have e:∀ c:Nat,c < 2 ^ k.bits→(BitVec.ofInt k.bits (c:Int)).toNat=c:=by
  intro c hc; simp [BitVec.toNat_ofInt]; rcases hk with rfl | rfl <;> simp [IntKind.bits] at hc ⊢ <;> omega
 have hw:∀ c:Nat,c < 2 ^ k.bits→k.wrap (c:Int)=(c:Int):=by
  intro c hc
  rcases hk with rfl | rfl
  ·rw [aU,Nat.mod_eq_of_lt]; simpa [IntKind.bits] using hc
  ·rw [pJ,Nat.mod_eq_of_lt]; simpa [IntKind.bits] using hc
 rcases hf with ⟨rfl,rfl⟩ | ⟨rfl,rfl⟩ | ⟨rfl,rfl⟩
 ·have:=hw (a ||| b) (Nat.or_lt_two_pow ha hb)
  simp only [Op.intBits,BitVec.toNat_or,e a ha,e b hb,this]; rfl
 ·have:=hw (a &&& b) (Nat.and_lt_two_pow _ hb)
  simp only [Op.intBits,BitVec.toNat_and,e a ha,e b hb,this]; rfl
 ·have:=hw (a ^^^ b) (Nat.xor_lt_two_pow ha hb)
  simp only [Op.intBits,BitVec.toNat_xor,e a ha,e b hb,this]; rfl
theorem fT {d:Nat} {x y:Operand} {tx ty t:TypeId} {pos:String} {af:Array Edge} {k:IntKind} {a b:Nat} (hd:Nat.blt d N=true)
  (hx:ev E x=some (.int k (a:Int))) (hy:ev E y=some (.int k (b:Int))) (ha:a < 2 ^ k.bits) (hb:b < 2 ^ k.bits) (hk:k = .u64 ∨ k = .u32)
  (h:Ops P r N all K rest D ((d,.int k ((a ||| b:Nat):Int)) :: E) w):Ops P r N all K (⟨some d,.binOp .or tx x y ty,t,pos,af,none⟩ :: rest) D E w :=
 kO hd hx hy (fun w=>by rw [sO _ _ _ _ _ (by simp)]; exact zQ3 hk a b ha hb .or _ (.inl ⟨rfl,rfl⟩) w) h
theorem cT {d:Nat} {x y:Operand} {tx ty t:TypeId} {pos:String} {af:Array Edge} {k:IntKind} {a b:Nat} (hd:Nat.blt d N=true)
  (hx:ev E x=some (.int k (a:Int))) (hy:ev E y=some (.int k (b:Int))) (ha:a < 2 ^ k.bits) (hb:b < 2 ^ k.bits) (hk:k = .u64 ∨ k = .u32)
  (h:Ops P r N all K rest D ((d,.int k ((a &&& b:Nat):Int)) :: E) w):Ops P r N all K (⟨some d,.binOp .and tx x y ty,t,pos,af,none⟩ :: rest) D E w :=
 kO hd hx hy (fun w=>by rw [sO _ _ _ _ _ (by simp)]; exact zQ3 hk a b ha hb .and _ (.inr (.inl ⟨rfl,rfl⟩)) w) h
structure Fresh (e:TypeId) (w w':World) (v:Value) (xs:List Nat):Prop where
 own:w'.ownsRow 0 e 1 v xs.length (xs.map lw)
 new:∀ k,v.ownBlock=some k→w.heap.size≤k
 lt:∀ x ∈ xs,x < 4294967296
 len:xs.length≤9223372036854775807
theorem Fresh.nat {e:TypeId} {w':World} {v:Value} {xs:List Nat} (h:Fresh e w w' v xs) (hM:OkM M w):IsNat M w' v xs :=
 ⟨oW h.own (fun k hk hm=>by have:=h.new k hk; have:=hM k hm; omega) h.len,h.lt⟩
theorem Le.of_new_mo {w':World} {b:Nat} {o:Obj} {v:Value} (h:New w w' b o) (hv:v.ownBlock=some b):Le Fz M w (Mo v M) w':=by
 have l:=Le.of_new (Fz:=Fz) (M:=M) h
 refine l.trans (Le.less fun k hk=>?_)
 rcases hk with hk | hk
 ·rw [hv] at hk; injection hk with hk; exact .inl hk.symm
 ·exact .inr hk
theorem zZ1 {F:Nat→Prop}:∀ k,(Value.slice none 0 0).ownBlock=some k→¬ F k:=fun k hk=>by simp [Value.ownBlock] at hk
theorem fN {F:Nat→Prop} {b n c:Nat} (h:¬ F b):∀ k,(Value.slice (some ⟨b,0,none⟩) n c).ownBlock=some k→¬ F k:=fun k hk=>by
 simp [Value.ownBlock] at hk; subst hk; exact h
theorem rZ {e:TypeId} {w':World} {v:Value} {xs:List Nat} (hown:w'.ownsRow 0 e 1 v xs.length (xs.map lw)) (hn:∀ k,v.ownBlock=some k→¬ (k < w.heap.size)) (hl:∀ x ∈ xs,x < 4294967296) (hlen:xs.length≤9223372036854775807):Fresh e w w' v xs :=
 ⟨hown,fun k hk=>by have:=hn k hk; omega,hl,hlen⟩
theorem Fresh.less {e:TypeId} {w0 w w':World} {v:Value} {xs:List Nat} (h:Fresh e w w' v xs) (hs:w0.heap.size≤w.heap.size):Fresh e w0 w' v xs :=
 ⟨h.own,fun k hk=>Nat.le_trans hs (h.new k hk),h.lt,h.len⟩
theorem lw_one (xs:List Nat):∀ u ∈ xs.map lw,u.oneCell'=true:=by
 intro u hu; obtain ⟨x,_,rfl⟩:=List.mem_map.1 hu; rfl
end ops
end Go.SL
namespace Go.SL
open Go.RowKit
structure Drift (T:Nat→Prop) (n:Nat) (w w':World):Prop where
 os:w'.os=w.os
 tape:Tp w w'
 output:w'.output=w.output
 size:w.heap.size≤w'.heap.size
 low:∀ k,k < n→¬ T k→w'.heap[k]? = w.heap[k]?
 cells:∀ k cs t fz,¬ T k→w.heap[k]? = some (.cells cs t fz)→w'.heap[k]? = some (.cells cs t fz)
def NoT:Nat→Prop:=fun _=>False
theorem Drift.refl (T:Nat→Prop) (n:Nat) (w:World):Drift T n w w:=⟨rfl,⟨rfl,by first | exact Nat.le_refl _ | exact Nat.le_succ _⟩,rfl,Nat.le_refl _,fun _ _ _=>rfl,fun _ _ _ _ _ h=>h⟩
theorem Drift.trans {T:Nat→Prop} {n:Nat} {a b c:World} (h:Drift T n a b) (k:Drift T n b c):Drift T n a c :=
 ⟨k.os.trans h.os,k.tape.trans h.tape,k.output.trans h.output,Nat.le_trans h.size k.size,fun i hi ht=>(k.low i hi ht).trans (h.low i hi ht),fun i cs t fz ht hc=>k.cells i cs t fz ht (h.cells i cs t fz ht hc)⟩
theorem Drift.of_below {T:Nat→Prop} {n:Nat} {w w':World} (h:Bel w.heap.size w w') (hn:n≤w.heap.size):Drift T n w w' :=
 ⟨h.os,h.tape,h.output,h.size,fun k hk _=>h.block k (by omega),fun k cs t fz _ hc=>(h.block k (Array.getElem?_eq_some_iff.1 hc).1).trans hc⟩
theorem Drift.mono {T T':Nat→Prop} {n n':Nat} {w w':World} (h:Drift T n w w') (ht:∀ k,T k→T' k) (hn:n'≤n):Drift T' n' w w' :=
 ⟨h.os,h.tape,h.output,h.size,fun k hk hT=>h.low k (by omega) (fun c=>hT (ht k c)),fun k cs t fz hT hc=>h.cells k cs t fz (fun c=>hT (ht k c)) hc⟩
theorem Drift.put {T:Nat→Prop} {n:Nat} {w:World} {l:Nat} {o o':Obj} (h:w.heap[l]? = some o) (hc:∀ cs t fz,o ≠ .cells cs t fz) (hn:n≤l):Drift T n w (w.putObj l o') :=
 ⟨rfl,⟨rfl,by first | exact Nat.le_refl _ | exact Nat.le_succ _⟩,rfl,by simp [World.putObj],fun k hk _=>World.putObj_heap_other (by omega),fun k cs t fz _ hk=>by
  by_cases e:k=l
  ·subst e; rw [h] at hk; injection hk with hk; exact absurd hk (hc cs t fz)
  ·rw [World.putObj_heap_other e]; exact hk⟩
section
variable {T Fz M M' : Nat → Prop} {n : Nat} {w w' w0 : World}
theorem Blk.drift {b:Nat} {t:TypeId} {cs:List Value} (h:Blk w b t cs) (d:Drift T n w w') (ht:¬ T b):Blk w' b t cs:=d.cells _ _ _ _ ht h
theorem Seg.drift {b off:Nat} {cs:List Value} (h:Seg w b off cs) (d:Drift T n w w') (ht:¬ T b):Seg w' b off cs:=by
 obtain ⟨cur,t,fz,h1,h2⟩:=h; exact ⟨cur,t,fz,d.cells _ _ _ _ ht h1,h2⟩
theorem Slc.drift {sz m:Nat} {v:Value} {cs:List Value} (h:Slc M w sz v m cs) (d:Drift T n w w') (ht:∀ k,T k→M k):Slc M w' sz v m cs:=by
 obtain ⟨h1,h2,ad,cap,h3,h4,h5⟩:=h
 refine ⟨h1,h2,ad,cap,h3,h4,?_⟩
 rcases h5 with h5 | ⟨b,off,h5,h6,h7⟩
 ·exact .inl h5
 ·exact .inr ⟨b,off,h5,h6,h7.drift d (fun c=>h6 (ht b c))⟩
theorem IsNat.drift {v:Value} {xs:List Nat} (h:IsNat M w v xs) (d:Drift T n w w') (ht:∀ k,T k→M k):IsNat M w' v xs:=⟨h.slc.drift d ht,h.lt⟩
theorem tQ {sz:Nat} {e:TypeId} {v:Value} {m:Nat} {xs:List Value} (h:w.ownsRow 0 e sz v m xs) (d:Drift T n w w') (ht:∀ k,v.ownBlock=some k→¬ T k):w'.ownsRow 0 e sz v m xs:=by
 obtain ⟨h1,h2 | ⟨g,cap,cur,h3,h4,h5,h6⟩⟩:=h
 ·exact ⟨h1,.inl h2⟩
 ·exact ⟨h1,.inr ⟨g,cap,cur,h3,h4,d.cells _ _ _ _ (ht g (by rw [h3]; rfl)) h5,h6⟩⟩
theorem OkM.drift (h:OkM M w) (d:Drift T n w w'):OkM M w':=fun k hk=>Nat.lt_of_lt_of_le (h k hk) d.size
theorem FOk.drift (h:FOk Fz w) (d:Drift T n w w'):FOk Fz w':=fun k hk=>Nat.lt_of_lt_of_le (h k hk) d.size
theorem Le.drift (h:Le Fz M w0 M' w) (d:Drift T n w w') (hn:w0.heap.size≤n) (ht:∀ k,T k→M k∧¬ Fz k) (ht':∀ k,T k→M k):Le Fz M w0 M' w' :=
  ⟨d.os.trans h.os,d.tape.trans h.tape,d.output.trans h.output,Nat.le_trans h.size d.size,
   fun k hk hf=>(d.low k (by omega) (fun c=>(ht k c).2 hf)).trans (h.frz k hk hf),
   fun k hk hm=>(d.low k (by omega) (fun c=>hm (ht k c).1)).trans (h.imm k hk hm),h.chg,fun ho k hk=>Nat.lt_of_lt_of_le (h.ok ho k hk) d.size⟩
theorem Le.drift0 (h:Le Fz M w0 M' w) (d:Drift NoT n w w') (hn:w0.heap.size≤n):Le Fz M w0 M' w':=h.drift d hn (fun k hk=>hk.elim) (fun k hk=>hk.elim)
theorem Bel.drift {B:Nat} (h:Bel B w0 w) (d:Drift NoT n w w') (hn:B≤n):Bel B w0 w' :=
 ⟨d.os.trans h.os,d.tape.trans h.tape,d.output.trans h.output,Nat.le_trans h.size d.size,fun k hk=>(d.low k (by omega) (fun c=>c)).trans (h.block k hk)⟩
theorem Fresh.drift {e:TypeId} {v:Value} {xs:List Nat} (h:Fresh e w0 w v xs) (d:Drift NoT n w w'):Fresh e w0 w' v xs :=
 ⟨tQ h.own d (fun _ _ c=>c),h.new,h.lt,h.len⟩
theorem noT {Q:Nat→Prop}:∀ k,NoT k→Q k:=fun _ h=>h.elim
structure Rec (M:Nat→Prop) (w:World) (l:Nat) (o:Obj):Prop where
 at_:w.heap[l]? = some o
 not:¬ M l
theorem Rec.mono {l:Nat} {o:Obj} (h:Rec M w l o) (k:Le Fz M w M' w'):Rec M' w' l o :=
 have hl:l < w.heap.size:=(Array.getElem?_eq_some_iff.1 h.at_).1
 ⟨(k.kept hl h.not).2.trans h.at_,(k.kept hl h.not).1⟩
end
def Keep (M:Nat→Prop) (w0 w:World):Prop:=w0.heap.size≤w.heap.size∧∀ k,k < w0.heap.size→¬ M k→w.heap[k]? = w0.heap[k]?
theorem Le.keep {Fz M M':Nat→Prop} {w0 w:World} (h:Le Fz M w0 M' w):Keep M w0 w:=⟨h.size,h.imm⟩
def YieldV (P:Program) (l:Nat) (vs:List Value) (w:World) (R:Bool→World→Prop):Prop :=
 ∃ fn tmps assign body,(Instr.yield l vs.toArray).run P w = .ok (.round l fn tmps assign body) w ∧
  RoundIn Fence.wide 0 P l fn tmps assign body w fun e w'=>∃ b,e = .returned (.bool b)∧R b w'
theorem YieldV.mono {P:Program} {l:Nat} {vs:List Value} {w:World} {R R':Bool→World→Prop} (h:YieldV P l vs w R) (hr:∀ b w',R b w'→R' b w'):YieldV P l vs w R':=by
 obtain ⟨fn,tmps,assign,body,h1,h2⟩:=h
 exact ⟨fn,tmps,assign,body,h1,h2.mono fun e w' ⟨b,he,hb⟩=>⟨b,he,hr b w' hb⟩⟩
theorem cM {P:Program} {r:Option Nat} {N:Nat} {all:Array Oper} {K:Pd} {D:List Deferred} {E:Env} {w:World} {rest:List Oper}
  {d:Nat} {x:Operand} {xs:List Operand} {ts:Array TypeId} {t':TypeId} {pos:String} {af:Array Edge} {l:Nat} {vs:List Value} (hd:Nat.blt d N=true)
  (hx:ev E x=some (.func (.yield l) #[] #[])) (hxs:evs E xs=some vs)
  (h:YieldV P l vs w fun b w'=>Ops P r N all K rest D ((d,.bool b) :: E) w') :
  Ops P r N all K (⟨some d,.call ⟨.value x,xs.toArray,ts⟩,t',pos,af,none⟩ :: rest) D E w:=by
 intro a Q ha hD hk
 refine wpListIn_plain rfl fun K' hK'=>⟨fun _ _=>trivial,?_⟩
 rw [bA (by intro c hc; cases hc)]
 obtain ⟨fn,tmps,assign,body,h1,h2⟩:=h
 have hrun:(execOp a.eval ⟨some d,.call ⟨.value x,xs.toArray,ts⟩,t',pos,af,none⟩).run P w = .ok (.round l fn tmps assign body) w:=by
  have e1:(xs.toArray.map a.eval)=vs.toArray:=by rw [← ha.evs hxs]; simp
  simp only [execOp,resolve,ha.ev hx,e1,Deferred.ofValue,Sem.run_bind,Sem.run_pure,Result.andThen,invoke]
  simpa using h1
 rw [hrun]
 refine ⟨by simp [Fr],?_⟩
 have h3:RoundIn (Fr r) (0 - 1) P l fn tmps assign body w fun e w'=>∃ b,e = .returned (.bool b)∧Ops P r N all K rest D ((d,.bool b) :: E) w':=h2
 refine h3.mono ?_
 rintro e w' ⟨b,rfl,hv⟩
 exact hK' _ _ (hv (a.put (some d) (.bool b)) Q (ha.put hd _) hD hk)
def IterC (P:Program) (g:FuncId) (cap:List Value) (M T:Nat→Prop) (w0:World) {α:Type} (xs:List α) (enc:α→List Value) (Z:World→Prop):Prop :=
 ∀ (n l:Nat) (w:World) (J:List α→World→Prop) (X:World→Prop),w0.heap.size≤n→n≤w.heap.size→Drift NoT w0.heap.size w0 w→J [] w→(∀ pre w,J pre w→Keep M w0 w) →
  (∀ pre w w',J pre w→Drift T n w w'→J pre w')→(∀ w w',X w→Drift T n w w'→X w') →
  (∀ pre x post w,xs=pre ++ x :: post→J pre w→n≤w.heap.size→YieldV P l (enc x) w fun b w'=>n≤w'.heap.size∧(∀ k,T k→w'.heap[k]? = w.heap[k]?)∧((b=true∧J (pre ++ [x]) w') ∨ (b=false∧X w'))) →
  CallsV P g (.func (.yield l) #[] #[] :: cap) w fun _ w'=>(J xs w'∧Z w') ∨ X w'
def IterR (P:Program) (g:FuncId) (cap:List Value) (M T:Nat→Prop) (w0:World) {α:Type} (xs:List α) (Rl:α→List Value→World→Prop) (Z:World→Prop):Prop :=
 ∀ (n l:Nat) (w:World) (J:List α→World→Prop) (X:World→Prop),w0.heap.size≤n→n≤w.heap.size→Drift NoT w0.heap.size w0 w→J [] w→(∀ pre w,J pre w→Keep M w0 w) →
  (∀ pre w w',J pre w→Drift T n w w'→J pre w')→(∀ w w',X w→Drift T n w w'→X w') →
  (∀ pre x vs post w,xs=pre ++ x :: post→J pre w→Rl x vs w→n≤w.heap.size→YieldV P l vs w fun b w'=>n≤w'.heap.size∧(∀ k,T k→w'.heap[k]? = w.heap[k]?)∧((b=true∧J (pre ++ [x]) w') ∨ (b=false∧X w'))) →
  CallsV P g (.func (.yield l) #[] #[] :: cap) w fun _ w'=>(J xs w'∧Z w') ∨ X w'
def IterF (fin:Prop) (P:Program) (g:FuncId) (cap:List Value) (M T:Nat→Prop) (w0:World) {α:Type} (xs:List α) (Rl:α→List Value→World→Prop) (Z:World→Prop):Prop :=
 ∀ (n l:Nat) (w:World) (J:List α→World→Prop) (X:World→Prop),(fin ∨ ∀ w,¬ J xs w)→w0.heap.size≤n→n≤w.heap.size→Drift NoT w0.heap.size w0 w→J [] w→(∀ pre w,J pre w→Keep M w0 w) →
  (∀ pre w w',J pre w→Drift T n w w'→J pre w')→(∀ w w',X w→Drift T n w w'→X w') →
  (∀ pre x vs post w,xs=pre ++ x :: post→J pre w→Rl x vs w→n≤w.heap.size→YieldV P l vs w fun b w'=>n≤w'.heap.size∧(∀ k,T k→w'.heap[k]? = w.heap[k]?)∧((b=true∧J (pre ++ [x]) w') ∨ (b=false∧X w'))) →
  CallsV P g (.func (.yield l) #[] #[] :: cap) w fun _ w'=>(J xs w'∧Z w') ∨ X w'
def yQ3 (fin:Prop) (P:Program) (g:FuncId) (cap:List Value) (M T:Nat→Prop) (w0:World) {α:Type} (xs:List α) (Rl:α→List Value→World→World→Prop) (Z:World→Prop):Prop :=
 ∀ (n l:Nat) (w:World) (J:List α→World→Prop) (X:World→Prop),(fin ∨ ∀ w,¬ J xs w)→w0.heap.size≤n→n≤w.heap.size→Drift NoT w0.heap.size w0 w→J [] w→(∀ pre w,J pre w→Keep M w0 w) →
  (∀ pre w w',J pre w→Drift T n w w'→J pre w')→(∀ w w',X w→Drift T n w w'→X w') →
  (∀ pre x vs post wi w,xs=pre ++ x :: post→J pre wi→n≤wi.heap.size→Drift T n wi w→J pre w→Rl x vs wi w→n≤w.heap.size→YieldV P l vs w fun b w'=>n≤w'.heap.size∧(∀ k,T k→w'.heap[k]? = w.heap[k]?)∧((b=true∧J (pre ++ [x]) w') ∨ (b=false∧X w'))) →
  CallsV P g (.func (.yield l) #[] #[] :: cap) w fun _ w'=>(J xs w'∧Z w') ∨ X w'
theorem IterF.w {fin:Prop} {P:Program} {g:FuncId} {cap:List Value} {M T:Nat→Prop} {w0:World} {α:Type} {xs:List α} {Rl:α→List Value→World→Prop} {Z:World→Prop} (h:IterF fin P g cap M T w0 xs Rl Z):yQ3 fin P g cap M T w0 xs (fun x vs _ w=>Rl x vs w) Z :=
 fun n l w J X h0 h1 h2 h3 h4 h5 h6 h7 hy=>h n l w J X h0 h1 h2 h3 h4 h5 h6 h7 fun pre x vs post w hx hJ hv hn=>hy pre x vs post w w hx hJ hn (Drift.refl _ _ _) hJ hv hn
theorem IterR.f {P:Program} {g:FuncId} {cap:List Value} {M T:Nat→Prop} {w0:World} {α:Type} {xs:List α} {Rl:α→List Value→World→Prop} {Z:World→Prop} (h:IterR P g cap M T w0 xs Rl Z):IterF True P g cap M T w0 xs Rl Z :=
 fun n l w J X _=>h n l w J X
theorem IterC.rel {P:Program} {g:FuncId} {cap:List Value} {M T:Nat→Prop} {w0:World} {α:Type} {xs:List α} {enc:α→List Value} {Z:World→Prop} (h:IterC P g cap M T w0 xs enc Z):IterR P g cap M T w0 xs (fun x vs _=>vs=enc x) Z :=
 fun n l w J X h1 h2 h3 h4 h5 h6 h7 h8=>h n l w J X h1 h2 h3 h4 h5 h6 h7 fun pre x post w hx hJ hn=>h8 pre x _ post w hx hJ rfl hn
def iP (E:Env):List (Tmp × Value)→Env
 | []=>E
 | (t,v) :: r=>iP ((t,v) :: E) r
theorem sN {N:Nat}:∀ (ps:List (Tmp × Value)) (a:Act) (E:Env),Has a N E→(ps.all fun p=>Nat.blt p.1 N)=true →
  Has { a with tmps:=ps.foldl (fun tmps (x:Tmp × Value)=>tmps.setIfInBounds x.1 x.2) a.tmps } N (iP E ps)
 | [],a,E,h,_=>h
 | (t,v) :: r,a,E,h,hp=>by
  simp only [List.all_cons,Bool.and_eq_true] at hp
  exact sN r { a with tmps:=a.tmps.setIfInBounds t v } ((t,v) :: E) (h.put hp.1 v) hp.2
section range
variable {P : Program} {r : Option Nat} {N : Nat} {Kn Kr : Pd} {Ke : Nat → Pd} {D : List Deferred} {E : Env} {w : World}
def zR1 (r:Option Nat) (w:World):Prop:=match r with
 | none=>True
 | some l₀=>∃ r₀,w.heap[l₀]? = some (.loop r₀)
def xO (r:Option Nat) (w:World):List Deferred:=match r with
 | none=>[{ target:=.collected w.heap.size,args:=#[] }]
 | some _=>[]
theorem wp_rangew {fin:Prop} {α:Type} {fo:Operand} {ps:Array Tmp} {assign body:Code} {g:FuncId} {cap:Array Value} {M T:Nat→Prop} {Z:World→Prop} (xs:List α) (Rl:α→List Value→World→World→Prop)
  (hf:ev E fo=some (.func (.func g) #[] cap)) (hb:Bod P g) (it:yQ3 fin P g cap.toList M T w xs Rl Z) (hT:∀ k,T k→k < w.heap.size) (hout:zR1 r w)
  (henc:∀ x vs wi w,Rl x vs wi w→vs.length=ps.size) (hps:(ps.toList.all fun p=>Nat.blt p N)=true) (Er:Env) (hEr:Sub Er E)
  (J:List α→World→Prop) (X:Nat→World→Prop) (Rt:World→Prop) (hJn:fin ∨ ∀ w,¬ J xs w) (hJ0:J [] w) (hkeep:∀ pre w',J pre w'→Keep M w w')
  (hJd:∀ pre w1 w2,J pre w1→Drift T w.heap.size w1 w2→J pre w2) (hXd:∀ id w1 w2,X id w1→Drift T w.heap.size w1 w2→X id w2) (hRd:∀ w1 w2,Rt w1→Drift T w.heap.size w1 w2→Rt w2) (hZd:∀ w1 w2,Z w1→Drift NoT w.heap.size w1 w2→Z w2)
  (round:∀ pre x vs post l b wi w1 ρ δ,xs=pre ++ x :: post→J pre wi→w.heap.size≤wi.heap.size→Drift T w.heap.size wi w1→J pre w1→Rl x vs wi w1→w.heap.size≤l→w.heap.size≤b→w1.heap[l]? = some (.loop ρ)→w1.heap[b]? = some δ→(∀ cs t fz,δ ≠ .cells cs t fz) →
   Wp P (some l) N assign (fun D2 E2 w2=>w2.heap[l]? = some (.loop ρ)∧w2.heap[b]? = some δ∧D2=[]∧∀ w3 ρ' δ',Drift NoT w.heap.size w2 w3→w3.heap[l]? = some (.loop ρ')→w3.heap[b]? = some δ'→(∀ cs t fz,δ' ≠ .cells cs t fz) →
    Wp P (some l) N body (fun _ _ w'=>w'.heap[l]? = some (.loop ρ')∧w'.heap[b]? = some δ'∧w1.heap.size≤w'.heap.size∧(∀ k,T k→w'.heap[k]? = w1.heap[k]?)∧J (pre ++ [x]) w')
     (fun id _ _ w'=>w'.heap[l]? = some (.loop ρ')∧w'.heap[b]? = some δ'∧w1.heap.size≤w'.heap.size∧(∀ k,T k→w'.heap[k]? = w1.heap[k]?)∧X id w')
     (fun _ _ w'=>w'.heap[l]? = some (.loop ρ')∧w'.heap[b]? = some δ'∧w1.heap.size≤w'.heap.size∧(∀ k,T k→w'.heap[k]? = w1.heap[k]?)∧Rt w') [] E2 w3)
    (fun _ _ _ _=>False) (fun _ _ _=>False) [] (iP Er (ps.toList.zip vs)) w1)
  (done:∀ w',J xs w'→Z w'→(∀ b,r=none→b=w.heap.size→w'.heap[b]? = some (.deferred (some [])))→Kn (xO r w ++ D) E w')
  (exit:∀ id w',X id w'→(∀ b,r=none→b=w.heap.size→w'.heap[b]? = some (.deferred (some [])))→Ke id (xO r w ++ D) E w')
  (ret:∀ w',Rt w'→(∀ b,r=none→b=w.heap.size→w'.heap[b]? = some (.deferred (some [])))→Kr (xO r w ++ D) E w') :
  Wp P r N (.rangeFunc fo ps assign body) Kn Ke Kr D E w:=by
 intro a ha hd
 refine wpIn_rangeFunc fun fn _=>?_
 -- the record
 have henter:∃ (l b:Nat) (δ:Obj) (w₁:World) (df:Nat),(Instr.enterLoop fn a.tmps ps assign body r).run P w = .ok (l,xO r w) w₁ ∧
   w₁.heap[l]? = some (.loop { state:=.ready,pending:=none,fn:=fn,tmps:=a.tmps,params:=ps,assign:=assign,body:=body,defers:=df })∧w.heap.size≤l∧w.heap.size≤b∧l < w₁.heap.size∧b < w₁.heap.size ∧
   Bel w.heap.size w w₁∧w₁.heap[b]? = some δ∧(∀ cs t fz,δ ≠ .cells cs t fz)∧(r=none→b=w.heap.size∧δ = .deferred (some [])∧b ≠ l)∧(r ≠ none→b=l):=by
  cases r with
  | none =>
   refine ⟨_,w.heap.size,.deferred (some []),_,w.heap.size,run_enterLoop_outer (w:=w) fn a.tmps ps assign body,?_,Nat.le_succ _,Nat.le_refl _,(by rw [World.size_alloc,World.size_alloc]; omega),(by rw [World.size_alloc,World.size_alloc]; omega),?_,?_,by simp,fun _=>⟨rfl,rfl,(Nat.ne_of_lt (Nat.lt_succ_self _))⟩,fun h=>absurd rfl h⟩
   ·have:=World.alloc_heap_new (w.alloc (.deferred (some []))) (.loop { state:=.ready,pending:=none,fn:=fn,tmps:=a.tmps,params:=ps,assign:=assign,body:=body,defers:=w.heap.size })
    simpa using this
   ·exact ((Bel.refl _ w).alloc (Nat.le_refl _) _).alloc (by simp) _
   ·rw [Below.heap_alloc _ _ _ (by simp)]; exact World.alloc_heap_new w _
  | some l₀ =>
   obtain ⟨r₀,hr₀⟩:=hout
   exact ⟨_,w.heap.size,_,_,r₀.defers,run_enterLoop_inner (w:=w) hr₀ fn a.tmps ps assign body,World.alloc_heap_new w _,by omega,by omega,by simp,by simp,(Bel.refl _ w).alloc (Nat.le_refl _) _,World.alloc_heap_new w _,by simp,fun h=>by simp at h,fun _=>rfl⟩
 obtain ⟨l,b,δ,w₁,df,e1,hl,hnl,hnb,hll,hbl,hbel,hbδ,hδc,hbn,hbs⟩:=henter
 obtain ⟨fu,hf1,hf2,hf3⟩:=hb
 have hcall:(invoke (.fn (.func g) cap) (#[] ++ #[.func (.yield l) #[] #[]])).run P w₁ = .ok (.enter g (Value.func (.yield l) #[] #[] :: cap.toList).toArray) w₁:=by
  simp only [invoke]
  have:(callFunc g (#[] ++ #[Value.func (.yield l) #[] #[]] ++ cap)).run P w₁ = .ok (.enter g (#[] ++ #[Value.func (.yield l) #[] #[]] ++ cap)) w₁:=by
   unfold callFunc
   simp only [Sem.run_bind,program,Sem.run,Result.andThen,hf1,hf2,hf3]
   rfl
  rw [this]; simp
 refine ⟨l,xO r w,w₁,{ target:=.fn (.func g) cap,args:=#[] ++ #[.func (.yield l) #[] #[]] },w₁,g,_,w₁,e1,?_,fun _ _=>trivial,hcall,by simp [Fr],?_⟩
 ·have e5:Array.map a.eval #[Operand.const (Value.func (Fn.yield l) #[] #[])]=#[Value.func (Fn.yield l) #[] #[]]:=by simp [Act.eval]
  simp only [resolve,rangeCall,ha.ev hf,Deferred.ofValue,e5]
  rfl
 -- what holds between two rounds
 let ρ0:Loop:={ state:=.ready,pending:=none,fn:=fn,tmps:=a.tmps,params:=ps,assign:=assign,body:=body,defers:=df }
 let Dl:World→Prop:=fun w'=>r=none→w'.heap[b]? = some (.deferred (some []))
 let J':List α→World→Prop:=fun pre w'=>J pre w'∧w'.heap[l]? = some (.loop ρ0)∧Dl w'
 let X':World→Prop:=fun w'=>(∃ id ρ,X id w'∧w'.heap[l]? = some (.loop ρ)∧ρ.state ≠ .busy∧ρ.pending=some (.exit id)∧Dl w') ∨ (∃ ρ,Rt w'∧w'.heap[l]? = some (.loop ρ)∧ρ.state ≠ .busy∧ρ.pending=some .ret∧Dl w')
 have hTl:∀ k,T k→k < w.heap.size:=hT
 have hlow:∀ w1 w2,Drift T w₁.heap.size w1 w2→∀ k,w.heap.size≤k→k < w₁.heap.size→w2.heap[k]? = w1.heap[k]?:=fun w1 w2 d k h1 h2=>d.low k h2 (fun c=>by have:=hTl k c; omega)
 have hdl:∀ w1 w2,Drift T w₁.heap.size w1 w2→Dl w1→Dl w2:=fun w1 w2 d h hr=>(hlow w1 w2 d b hnb hbl).trans (h hr)
 have hd0:Drift NoT w.heap.size w w₁:=Drift.of_below hbel (Nat.le_refl _)
 have hit:=it w₁.heap.size l w₁ J' X' (hJn.elim .inl fun h => .inr fun w c=>h w c.1) hbel.size (Nat.le_refl _) hd0
  ⟨hJd _ _ _ hJ0 (hd0.mono noT (Nat.le_refl _)),hl,fun hr=>by obtain ⟨_,h2,_⟩:=hbn hr; rw [← h2]; exact hbδ⟩
  (fun pre w' h=>hkeep pre w' h.1)
  (fun pre w1 w2 h d=>⟨hJd pre w1 w2 h.1 (d.mono (fun _ h=>h) hbel.size),(hlow w1 w2 d l hnl hll).trans h.2.1,hdl w1 w2 d h.2.2⟩)
  (fun w1 w2 h d=>by
   rcases h with ⟨id,ρ,h1,h2,h3,h4,h5⟩ | ⟨ρ,h1,h2,h3,h4,h5⟩
   ·exact .inl ⟨id,ρ,hXd id w1 w2 h1 (d.mono (fun _ h=>h) hbel.size),(hlow w1 w2 d l hnl hll).trans h2,h3,h4,hdl w1 w2 d h5⟩
   ·exact .inr ⟨ρ,hRd w1 w2 h1 (d.mono (fun _ h=>h) hbel.size),(hlow w1 w2 d l hnl hll).trans h2,h3,h4,hdl w1 w2 d h5⟩)
  (fun pre x vs post wi w1 hx hJi hni hdi hJ1 hvs hn1=>by
   obtain ⟨hJ1,hl1,hD1⟩:=hJ1
   have hy:=run_yield (P:=P) (w:=w1) (args:=vs.toArray) hl1 (by simpa using henc x vs _ _ hvs)
   refine ⟨_,_,_,_,hy,roundIn_of_wpIn trivial ?_⟩
   have hb1:∃ δ1,w1.heap[b]? = some δ1∧(∀ cs t fz,δ1 ≠ .cells cs t fz):=by
    by_cases hr:r=none
    ·exact ⟨_,hD1 hr,by simp⟩
    ·rw [hbs hr]; exact ⟨_,hl1,by simp⟩
   obtain ⟨δ1,hδ1,hδ1c⟩:=hb1
   have hrd:=round pre x vs post l b wi w1 ρ0 δ1 hx hJi.1 (Nat.le_trans hbel.size hni) (hdi.mono (fun _ h=>h) hbel.size) hJ1 hvs hnl hnb hl1 hδ1 hδ1c
   have hz:(ρ0.params.zip vs.toArray).foldl (fun tmps (x:Tmp × Value)=>tmps.setIfInBounds x.1 x.2) a.tmps=(ps.toList.zip vs).foldl (fun tmps (x:Tmp × Value)=>tmps.setIfInBounds x.1 x.2) a.tmps:=by
    show (ps.zip vs.toArray).foldl _ _=_
    rw [← Array.foldl_toList]; simp
   have hE:=sN (ps.toList.zip vs) { tmps:=a.tmps,defers:=[] } Er ⟨(ha.sub hEr).size,(ha.sub hEr).at_⟩ (by
    rw [List.all_eq_true] at hps ⊢
    intro p hp
    exact hps p.1 (List.of_mem_zip hp).1)
   have hw:=hrd { tmps:=(ps.toList.zip vs).foldl (fun tmps (x:Tmp × Value)=>tmps.setIfInBounds x.1 x.2) a.tmps,defers:=[] } hE rfl
   have hzz:(Array.foldl (fun tmps (x:Tmp × Value)=>match x with | (t,a)=>tmps.setIfInBounds t a) ρ0.tmps (ρ0.params.zip vs.toArray))=(ps.toList.zip vs).foldl (fun tmps (x:Tmp × Value)=>tmps.setIfInBounds x.1 x.2) a.tmps:=hz
   show Code.wpIn (Fence.wide.inRound l) 0 P assign _ { tmps:=_,defers:=[] } w1
   rw [hzz]
   refine wpIn_mono hw fun e a1 w2 hq=>?_
   cases e with
   | normal =>
    obtain ⟨E2,hE2,hl2,hb2,hD2,hbody⟩:=hq
    have hbr:=run_beginRound (P:=P) (w:=w2) hl2 rfl
    refine ⟨_,hbr,?_⟩
    have hl2s:l < w2.heap.size:=(Array.getElem?_eq_some_iff.1 hl2).1
    have hb3:∃ δ3,(w2.putObj l (.loop { ρ0 with state:=.busy })).heap[b]? = some δ3∧(∀ cs t fz,δ3 ≠ .cells cs t fz)∧(r=none→δ3 = .deferred (some [])):=by
     by_cases hr:r=none
     ·obtain ⟨_,_,hne⟩:=hbn hr
      rw [World.putObj_heap_other hne,hb2]
      exact ⟨_,rfl,hδ1c,fun _=>by have:=hD1 hr; rw [hδ1] at this; injection this⟩
     ·rw [hbs hr,World.putObj_heap_same hl2s]; exact ⟨_,rfl,by simp,fun h=>absurd h hr⟩
    obtain ⟨δ3,hδ3,hδ3c,hδ3n⟩:=hb3
    have hbw:=hbody (w2.putObj l (.loop { ρ0 with state:=.busy })) { ρ0 with state:=.busy } δ3 (Drift.put hl2 (by simp) hnl) (World.putObj_heap_same hl2s) hδ3 hδ3c a1 hE2 hD2
    refine wpIn_mono hbw fun e3 a3 w3 hq3=>?_
    have hsz:∀ w':World,w1.heap.size≤w'.heap.size→w₁.heap.size≤w'.heap.size:=fun w' h=>Nat.le_trans hn1 h
    have hput:∀ (w3:World) (o:Obj),w3.heap[b]? = some δ3→(r=none→(w3.putObj l o).heap[b]? = some (.deferred (some []))):=fun w3 o h hr=>by
     obtain ⟨_,_,hne⟩:=hbn hr
     rw [World.putObj_heap_other hne,h,hδ3n hr]
    have hkT:∀ (w3:World) (o:Obj),(∀ k,T k→w3.heap[k]? = w1.heap[k]?)→∀ k,T k→(w3.putObj l o).heap[k]? = w1.heap[k]?:=fun w3 o h k hk=>by
     rw [World.putObj_heap_other (by have:=hTl k hk; omega)]; exact h k hk
    cases e3 with
    | normal =>
     obtain ⟨_,_,hl3,hb3,hs3,hk3,hJ3⟩:=hq3
     have hl3s:l < w3.heap.size:=(Array.getElem?_eq_some_iff.1 hl3).1
     refine ⟨_,_,run_endRound (P:=P) (w:=w3) none hl3,true,rfl,by simp [World.putObj]; exact hsz w3 hs3,hkT w3 _ hk3,.inl ⟨rfl,hJd _ _ _ hJ3 (Drift.put hl3 (by simp) hnl),?_,hput w3 _ hb3⟩⟩
     exact World.putObj_heap_same hl3s
    | exit id =>
     obtain ⟨_,_,hl3,hb3,hs3,hk3,hX3⟩:=hq3
     have hl3s:l < w3.heap.size:=(Array.getElem?_eq_some_iff.1 hl3).1
     exact ⟨_,_,run_endRound (P:=P) (w:=w3) (some (.exit id)) hl3,false,rfl,by simp [World.putObj]; exact hsz w3 hs3,hkT w3 _ hk3,.inr ⟨rfl,.inl ⟨id,_,hXd _ _ _ hX3 (Drift.put hl3 (by simp) hnl),World.putObj_heap_same hl3s,by simp,rfl,hput w3 _ hb3⟩⟩⟩
    | ret =>
     obtain ⟨_,_,hl3,hb3,hs3,hk3,hX3⟩:=hq3
     have hl3s:l < w3.heap.size:=(Array.getElem?_eq_some_iff.1 hl3).1
     exact ⟨_,_,run_endRound (P:=P) (w:=w3) (some .ret) hl3,false,rfl,by simp [World.putObj]; exact hsz w3 hs3,hkT w3 _ hk3,.inr ⟨rfl,.inr ⟨_,hRd _ _ hX3 (Drift.put hl3 (by simp) hnl),World.putObj_heap_same hl3s,by simp,rfl,hput w3 _ hb3⟩⟩⟩
    | goto t=>exact hq3.elim
    | panic c=>exact hq3.elim
    | outgrown=>exact hq3.elim
   | exit id=>obtain ⟨_,_,h⟩:=hq; exact h.elim
   | ret=>obtain ⟨_,_,h⟩:=hq; exact h.elim
   | goto t=>exact hq.elim
   | panic c=>exact hq.elim
   | outgrown=>exact hq.elim)
 have hit':CallsIn (Fr r) (0 - 1) P g (Value.func (.yield l) #[] #[] :: cap.toList).toArray w₁ _:=(callsIn_wide (n:=0 - 1)).2 hit
 refine hit'.mono ?_
 rintro e w3 ⟨v,rfl,hv⟩
 have hpb:∀ (w3:World) (o:Obj),w3.heap[l]? ≠ none→Dl w3→(∀ b',r=none→b'=w.heap.size→(w3.putObj l o).heap[b']? = some (.deferred (some []))):=fun w3 o _ h b' hr hb'=>by
  obtain ⟨h1,_,hne⟩:=hbn hr
  rw [hb',← h1,World.putObj_heap_other hne]; exact h hr
 rcases hv with ⟨⟨hJ3,hl3,hD3⟩,hZ3⟩ | ⟨id,ρ,hX3,hl3,hst,hpe,hD3⟩ | ⟨ρ,hX3,hl3,hst,hpe,hD3⟩
 ·refine ⟨_,_,run_endLoop (P:=P) (w:=w3) hl3 (by simp [ρ0]),E,⟨ha.size,ha.at_⟩,?_⟩
  have:=done _ (hJd _ _ _ hJ3 (Drift.put (o':=.loop { ρ0 with state:=.exhausted }) hl3 (by simp) hnl)) (hZd _ _ hZ3 (Drift.put hl3 (by simp) hnl)) (hpb w3 _ (by rw [hl3]; simp) hD3)
  rw [hd]; exact this
 ·refine ⟨_,_,run_endLoop (P:=P) (w:=w3) hl3 hst,?_⟩
  simp only [hpe]
  refine wpIn_exit ⟨E,⟨ha.size,ha.at_⟩,?_⟩
  have:=exit id _ (hXd _ _ _ hX3 (Drift.put (o':=.loop { ρ with state:=.exhausted }) hl3 (by simp) hnl)) (hpb w3 _ (by rw [hl3]; simp) hD3)
  rw [hd]; rw [hpe] at this; exact this
 ·refine ⟨_,_,run_endLoop (P:=P) (w:=w3) hl3 hst,?_⟩
  simp only [hpe]
  refine wpIn_ret ⟨E,⟨ha.size,ha.at_⟩,?_⟩
  have:=ret _ (hRd _ _ hX3 (Drift.put (o':=.loop { ρ with state:=.exhausted }) hl3 (by simp) hnl)) (hpb w3 _ (by rw [hl3]; simp) hD3)
  rw [hd]; rw [hpe] at this; exact this
theorem wp_rangerF {fin:Prop} {α:Type} {fo:Operand} {ps:Array Tmp} {assign body:Code} {g:FuncId} {cap:Array Value} {M T:Nat→Prop} {Z:World→Prop} (xs:List α) (Rl:α→List Value→World→Prop)
  (hf:ev E fo=some (.func (.func g) #[] cap)) (hb:Bod P g) (it:IterF fin P g cap.toList M T w xs Rl Z) (hT:∀ k,T k→k < w.heap.size) (hout:zR1 r w)
  (henc:∀ x vs w,Rl x vs w→vs.length=ps.size) (hps:(ps.toList.all fun p=>Nat.blt p N)=true) (Er:Env) (hEr:Sub Er E)
  (J:List α→World→Prop) (X:Nat→World→Prop) (Rt:World→Prop) (hJn:fin ∨ ∀ w,¬ J xs w) (hJ0:J [] w) (hkeep:∀ pre w',J pre w'→Keep M w w')
  (hJd:∀ pre w1 w2,J pre w1→Drift T w.heap.size w1 w2→J pre w2) (hXd:∀ id w1 w2,X id w1→Drift T w.heap.size w1 w2→X id w2) (hRd:∀ w1 w2,Rt w1→Drift T w.heap.size w1 w2→Rt w2) (hZd:∀ w1 w2,Z w1→Drift NoT w.heap.size w1 w2→Z w2)
  (round:∀ pre x vs post l b w1 ρ δ,xs=pre ++ x :: post→J pre w1→Rl x vs w1→w.heap.size≤l→w.heap.size≤b→w1.heap[l]? = some (.loop ρ)→w1.heap[b]? = some δ→(∀ cs t fz,δ ≠ .cells cs t fz) →
   Wp P (some l) N assign (fun D2 E2 w2=>w2.heap[l]? = some (.loop ρ)∧w2.heap[b]? = some δ∧D2=[]∧∀ w3 ρ' δ',Drift NoT w.heap.size w2 w3→w3.heap[l]? = some (.loop ρ')→w3.heap[b]? = some δ'→(∀ cs t fz,δ' ≠ .cells cs t fz) →
    Wp P (some l) N body (fun _ _ w'=>w'.heap[l]? = some (.loop ρ')∧w'.heap[b]? = some δ'∧w1.heap.size≤w'.heap.size∧(∀ k,T k→w'.heap[k]? = w1.heap[k]?)∧J (pre ++ [x]) w')
     (fun id _ _ w'=>w'.heap[l]? = some (.loop ρ')∧w'.heap[b]? = some δ'∧w1.heap.size≤w'.heap.size∧(∀ k,T k→w'.heap[k]? = w1.heap[k]?)∧X id w')
     (fun _ _ w'=>w'.heap[l]? = some (.loop ρ')∧w'.heap[b]? = some δ'∧w1.heap.size≤w'.heap.size∧(∀ k,T k→w'.heap[k]? = w1.heap[k]?)∧Rt w') [] E2 w3)
    (fun _ _ _ _=>False) (fun _ _ _=>False) [] (iP Er (ps.toList.zip vs)) w1)
  (done:∀ w',J xs w'→Z w'→(∀ b,r=none→b=w.heap.size→w'.heap[b]? = some (.deferred (some [])))→Kn (xO r w ++ D) E w')
  (exit:∀ id w',X id w'→(∀ b,r=none→b=w.heap.size→w'.heap[b]? = some (.deferred (some [])))→Ke id (xO r w ++ D) E w')
  (ret:∀ w',Rt w'→(∀ b,r=none→b=w.heap.size→w'.heap[b]? = some (.deferred (some [])))→Kr (xO r w ++ D) E w') :
  Wp P r N (.rangeFunc fo ps assign body) Kn Ke Kr D E w:=wp_rangew xs (fun x vs _ w=>Rl x vs w) hf hb it.w hT hout (fun x vs _ w=>henc x vs w) hps Er hEr J X Rt hJn hJ0 hkeep hJd hXd hRd hZd
  (fun pre x vs post l b _ w1 ρ δ hx _ _ _ hJ hv=>round pre x vs post l b w1 ρ δ hx hJ hv) done exit ret
theorem wp_ranger {α:Type} {fo:Operand} {ps:Array Tmp} {assign body:Code} {g:FuncId} {cap:Array Value} {M T:Nat→Prop} {Z:World→Prop} (xs:List α) (Rl:α→List Value→World→Prop)
  (hf:ev E fo=some (.func (.func g) #[] cap)) (hb:Bod P g) (it:IterR P g cap.toList M T w xs Rl Z) (hT:∀ k,T k→k < w.heap.size) (hout:zR1 r w)
  (henc:∀ x vs w,Rl x vs w→vs.length=ps.size) (hps:(ps.toList.all fun p=>Nat.blt p N)=true) (Er:Env) (hEr:Sub Er E)
  (J:List α→World→Prop) (X:Nat→World→Prop) (Rt:World→Prop) (hJ0:J [] w) (hkeep:∀ pre w',J pre w'→Keep M w w')
  (hJd:∀ pre w1 w2,J pre w1→Drift T w.heap.size w1 w2→J pre w2) (hXd:∀ id w1 w2,X id w1→Drift T w.heap.size w1 w2→X id w2) (hRd:∀ w1 w2,Rt w1→Drift T w.heap.size w1 w2→Rt w2) (hZd:∀ w1 w2,Z w1→Drift NoT w.heap.size w1 w2→Z w2)
  (round:∀ pre x vs post l b w1 ρ δ,xs=pre ++ x :: post→J pre w1→Rl x vs w1→w.heap.size≤l→w.heap.size≤b→w1.heap[l]? = some (.loop ρ)→w1.heap[b]? = some δ→(∀ cs t fz,δ ≠ .cells cs t fz) →
   Wp P (some l) N assign (fun D2 E2 w2=>w2.heap[l]? = some (.loop ρ)∧w2.heap[b]? = some δ∧D2=[]∧∀ w3 ρ' δ',Drift NoT w.heap.size w2 w3→w3.heap[l]? = some (.loop ρ')→w3.heap[b]? = some δ'→(∀ cs t fz,δ' ≠ .cells cs t fz) →
    Wp P (some l) N body (fun _ _ w'=>w'.heap[l]? = some (.loop ρ')∧w'.heap[b]? = some δ'∧w1.heap.size≤w'.heap.size∧(∀ k,T k→w'.heap[k]? = w1.heap[k]?)∧J (pre ++ [x]) w')
     (fun id _ _ w'=>w'.heap[l]? = some (.loop ρ')∧w'.heap[b]? = some δ'∧w1.heap.size≤w'.heap.size∧(∀ k,T k→w'.heap[k]? = w1.heap[k]?)∧X id w')
     (fun _ _ w'=>w'.heap[l]? = some (.loop ρ')∧w'.heap[b]? = some δ'∧w1.heap.size≤w'.heap.size∧(∀ k,T k→w'.heap[k]? = w1.heap[k]?)∧Rt w') [] E2 w3)
    (fun _ _ _ _=>False) (fun _ _ _=>False) [] (iP Er (ps.toList.zip vs)) w1)
  (done:∀ w',J xs w'→Z w'→(∀ b,r=none→b=w.heap.size→w'.heap[b]? = some (.deferred (some [])))→Kn (xO r w ++ D) E w')
  (exit:∀ id w',X id w'→(∀ b,r=none→b=w.heap.size→w'.heap[b]? = some (.deferred (some [])))→Ke id (xO r w ++ D) E w')
  (ret:∀ w',Rt w'→(∀ b,r=none→b=w.heap.size→w'.heap[b]? = some (.deferred (some [])))→Kr (xO r w ++ D) E w') :
  Wp P r N (.rangeFunc fo ps assign body) Kn Ke Kr D E w:=wp_rangerF xs Rl hf hb it.f hT hout henc hps Er hEr J X Rt (.inl trivial) hJ0 hkeep hJd hXd hRd hZd round done exit ret
theorem zK5 {α:Type} {fo:Operand} {ps:Array Tmp} {assign body:Code} {g:FuncId} {cap:Array Value} {M T:Nat→Prop} {Z:World→Prop} (xs:List α) (enc:α→List Value)
  (hf:ev E fo=some (.func (.func g) #[] cap)) (hb:Bod P g) (it:IterC P g cap.toList M T w xs enc Z) (hT:∀ k,T k→k < w.heap.size) (hout:zR1 r w)
  (henc:∀ x,(enc x).length=ps.size) (hps:(ps.toList.all fun p=>Nat.blt p N)=true) (Er:Env) (hEr:Sub Er E)
  (J:List α→World→Prop) (X:Nat→World→Prop) (Rt:World→Prop) (hJ0:J [] w) (hkeep:∀ pre w',J pre w'→Keep M w w')
  (hJd:∀ pre w1 w2,J pre w1→Drift T w.heap.size w1 w2→J pre w2) (hXd:∀ id w1 w2,X id w1→Drift T w.heap.size w1 w2→X id w2) (hRd:∀ w1 w2,Rt w1→Drift T w.heap.size w1 w2→Rt w2) (hZd:∀ w1 w2,Z w1→Drift NoT w.heap.size w1 w2→Z w2)
  (round:∀ pre x post l b w1 ρ δ,xs=pre ++ x :: post→J pre w1→w.heap.size≤l→w.heap.size≤b→w1.heap[l]? = some (.loop ρ)→w1.heap[b]? = some δ→(∀ cs t fz,δ ≠ .cells cs t fz) →
   Wp P (some l) N assign (fun D2 E2 w2=>w2.heap[l]? = some (.loop ρ)∧w2.heap[b]? = some δ∧D2=[]∧∀ w3 ρ' δ',Drift NoT w.heap.size w2 w3→w3.heap[l]? = some (.loop ρ')→w3.heap[b]? = some δ'→(∀ cs t fz,δ' ≠ .cells cs t fz) →
    Wp P (some l) N body (fun _ _ w'=>w'.heap[l]? = some (.loop ρ')∧w'.heap[b]? = some δ'∧w1.heap.size≤w'.heap.size∧(∀ k,T k→w'.heap[k]? = w1.heap[k]?)∧J (pre ++ [x]) w')
     (fun id _ _ w'=>w'.heap[l]? = some (.loop ρ')∧w'.heap[b]? = some δ'∧w1.heap.size≤w'.heap.size∧(∀ k,T k→w'.heap[k]? = w1.heap[k]?)∧X id w')
     (fun _ _ w'=>w'.heap[l]? = some (.loop ρ')∧w'.heap[b]? = some δ'∧w1.heap.size≤w'.heap.size∧(∀ k,T k→w'.heap[k]? = w1.heap[k]?)∧Rt w') [] E2 w3)
    (fun _ _ _ _=>False) (fun _ _ _=>False) [] (iP Er (ps.toList.zip (enc x))) w1)
  (done:∀ w',J xs w'→Z w'→(∀ b,r=none→b=w.heap.size→w'.heap[b]? = some (.deferred (some [])))→Kn (xO r w ++ D) E w')
  (exit:∀ id w',X id w'→(∀ b,r=none→b=w.heap.size→w'.heap[b]? = some (.deferred (some [])))→Ke id (xO r w ++ D) E w')
  (ret:∀ w',Rt w'→(∀ b,r=none→b=w.heap.size→w'.heap[b]? = some (.deferred (some [])))→Kr (xO r w ++ D) E w') :
  Wp P r N (.rangeFunc fo ps assign body) Kn Ke Kr D E w:=wp_ranger xs (fun x vs _=>vs=enc x) hf hb it.rel hT hout (fun x vs _ h=>by rw [h]; exact henc x) hps Er hEr J X Rt hJ0 hkeep hJd hXd hRd hZd
  (fun pre x vs post l b w1 ρ δ hx hJ hv=>by subst hv; exact round pre x post l b w1 ρ δ hx hJ) done exit ret
end range
end Go.SL
namespace Go.SL
open Go.RowKit
theorem pK {F:Fence} {n:Nat} {P:Program} {o:Oper} {a:Act} {w:World} {K K':Act→World→Prop} {Q Q':Exit→Act→World→Prop}
  (h:o.wpIn F n P a w K Q) (hK:∀ a' w',K a' w'→(∃ v,a'.tmps=(a.put o.dst v).tmps)→K' a' w')
  (hp:∀ c a w,Q (.panic c) a w→Q' (.panic c) a w) (hl:LetsOut Q→LetsOut Q'):o.wpIn F n P a w K' Q':=by
 unfold Oper.wpIn at *
 refine ⟨h.1,?_⟩
 have hh:=h.2
 generalize (o.semAt F.round a.eval).run P w=res at *
 cases res with
 | ok x w' =>
  cases x <;> simp only [Oper.uponIn] at hh ⊢ <;>
   first
    | exact hK _ _ hh ⟨_,rfl⟩
    | exact hK _ _ hh ⟨undef,by cases o.dst <;> rfl⟩
    | exact ⟨hh.1,CallsIn.mono hh.2 (fun e w'' he=>by cases e <;> first | exact hK _ _ he ⟨_,rfl⟩ | exact hp _ _ _ he | exact hl he)⟩
    | exact ⟨hh.1,RowsIn.mono hh.2 (fun _ _ he=>hK _ _ he ⟨_,rfl⟩)⟩
    | exact ⟨hh.1,RoundIn.mono hh.2 (fun e w'' he=>by cases e <;> first | exact hK _ _ he ⟨_,rfl⟩ | exact hp _ _ _ he | exact hl he)⟩
 | halt x w'=>cases x <;> simp only [Oper.uponIn] at hh ⊢ <;> first | exact hp _ _ _ hh | exact hh
theorem dK {P:Program} {r:Option Nat} {N:Nat} {ops:Array Oper} {D:List Deferred} {E:Env} {w:World} {i:Nat} {o:Oper} {K:Pd} {K':Act→World→Prop} {Q:Exit→Act→World→Prop} {a:Act}
  (ho:ops[i]? = some o) (h:Ops P r N ops K [o] D E w) (ha:Has a N E) (hd:a.defers=D)
  (hK:∀ a' w' E',Has a' N E'→K a'.defers E' w'→(∃ v,a'.tmps=(a.put o.dst v).tmps)→K' a' w'):wpOpIn (Fr r) 0 P ops Q i K' a w:=by
 have h1:=h a (fun e a' w'=>match e with | .normal=>∃ E',Has a' N E'∧K a'.defers E' w' | e=>Q e a' w') ha hd (fun a' w' E' h1 h2=>⟨E',h1,h2⟩)
 unfold wpOpIn
 simp only [ho]
 unfold wpListIn at h1
 split
 ·rename_i hw
  rw [if_pos hw] at h1
  exact pK h1 (fun a' w' hk hf=>by
   have hk':∃ E',Has a' N E'∧K a'.defers E' w':=hk
   obtain ⟨E',e1,e2⟩:=hk'; exact hK a' w' E' e1 e2 hf) (fun c a w h=>h) (fun h=>h)
 ·rename_i hw
  rw [if_neg hw] at h1
  have hk':∃ E',Has (a.put o.dst undef) N E'∧K (a.put o.dst undef).defers E' w:=h1.2
  obtain ⟨E',e1,e2⟩:=hk'
  exact ⟨fun _ _=>trivial,hK _ _ E' e1 e2 ⟨_,rfl⟩⟩
abbrev VP:=Value→World→Prop
def Ex (v:Value):VP:=fun u _=>u=v
def dirs (o:Oper):List Nat:=(o.after.toList.filter (Region.binds .any)).map (·.on)
def kX:List Oper→List (List Nat)→List (List Nat)
 | [],acc=>acc
 | o :: rest,acc=>kX rest (acc ++ [dirs o ++ (dirs o).flatMap fun j=>acc.getD j []])
def ancs (l:List Oper):List (List Nat):=kX l []
def zW (ops:Array Oper) (o:Oper):List Nat :=
 (o.op.operands.toList.filterMap fun | .tmp t=>some t | _=>none) ++ (match o.guard with | some (j,_)=>((ops[j]?).bind (·.dst)).toList | none=>[])
def kS (ops:Array Oper) (m:Nat):Bool :=
 let l:=ops.toList
 let an:=ancs l
 (l.zipIdx.all fun (o,i)=>(dirs o).all (· < i)) &&
 ((l.take m).zipIdx.all fun (o,i)=>(zW ops o).all fun s=>(l.take m).zipIdx.all fun (p,k)=>if p.dst == some s then (if k < i then (an.getD i []).contains k else if i < k then (an.getD k []).contains i else false) else true) &&
 ((l.take m).zipIdx.all fun (o,i)=>(l.take m).zipIdx.all fun (p,k)=>i == k || p.dst.isNone || p.dst != o.dst) &&
 (l.zipIdx.all fun (o,i)=>i < m || (List.range i).all fun j=>(an.getD i []).contains j)
def Obl (Γ:List (Nat × VP)) (E:Env) (w:World) (body:Env→Prop):List Nat→Env→Prop
 | [],F=>body F
 | s :: ss,F=>match Γ.find? (fun p=>Nat.beq p.1 s) with
  | some p=>∀ v,p.2 v w→Obl Γ E w body ss ((s,v) :: F)
  | none=>match get E s with
   | some v=>Obl Γ E w body ss ((s,v) :: F)
   | none=>Obl Γ E w body ss F
theorem oF:∀ (l:List Oper) (acc:List (List Nat)) (j:Nat),j < acc.length→(kX l acc).getD j []=acc.getD j []
 | [],acc,j,_=>rfl
 | o :: rest,acc,j,h=>by
  unfold kX
  rw [oF rest _ j (by simp; omega)]
  simp [List.getElem?_append,h]
theorem zQ7:∀ (l:List Oper) (acc:List (List Nat)) (i:Nat) (o:Oper),l[i]? = some o→(∀ j ∈ dirs o,j < acc.length + i) →
  (kX l acc).getD (acc.length + i) []=dirs o ++ (dirs o).flatMap fun j=>(kX l acc).getD j []
 | [],acc,i,o,h,_=>by simp at h
 | p :: rest,acc,0,o,h,hd=>by
  simp at h; subst h
  unfold kX
  have hlen:acc.length < (acc ++ [dirs p ++ (dirs p).flatMap fun j=>acc.getD j []]).length:=by simp
  rw [Nat.add_zero,oF rest _ acc.length hlen]
  have e:(acc ++ [dirs p ++ (dirs p).flatMap fun j=>acc.getD j []]).getD acc.length []=dirs p ++ (dirs p).flatMap fun j=>acc.getD j []:=by simp
  rw [e]
  congr 1
  have:∀ (js:List Nat),(∀ j ∈ js,j < acc.length)→(js.flatMap fun j=>acc.getD j [])=js.flatMap fun j=>(kX rest (acc ++ [dirs p ++ (dirs p).flatMap fun j=>acc.getD j []])).getD j []:=by
   intro js
   induction js with
   | nil=>intro _; rfl
   | cons a js ih =>
    intro hj
    have h1:=hj a (by simp)
    simp only [List.flatMap_cons]
    rw [ih (fun j hm=>hj j (by simp [hm])),oF rest _ a (by simp; omega)]
    have:(acc ++ [dirs p ++ (dirs p).flatMap fun j=>acc.getD j []]).getD a []=acc.getD a []:=by simp [List.getElem?_append,h1]
    rw [this]
  exact this _ (fun j hm=>by have:=hd j hm; omega)
 | p :: rest,acc,i + 1,o,h,hd=>by
  unfold kX
  have:=zQ7 rest (acc ++ [dirs p ++ (dirs p).flatMap fun j=>acc.getD j []]) i o (by simpa using h) (fun j hm=>by have:=hd j hm; simp; omega)
  have e:(acc ++ [dirs p ++ (dirs p).flatMap fun j=>acc.getD j []]).length + i=acc.length + (i + 1):=by simp; omega
  rw [e] at this
  exact this
theorem pH {l:List Oper} {i:Nat} {o:Oper} (h:l[i]? = some o) (hd:∀ j ∈ dirs o,j < i):(ancs l).getD i []=dirs o ++ (dirs o).flatMap fun j=>(ancs l).getD j []:=by
 have:=zQ7 l [] i o h (by simpa using hd)
 simpa [ancs] using this
theorem bP {l:List Oper} (hd:∀ i o,l[i]? = some o→∀ j ∈ dirs o,j < i) (S:Nat→Prop) (hS:∀ i o,l[i]? = some o→S i→∀ j ∈ dirs o,S j) :
  ∀ i o,l[i]? = some o→S i→∀ j ∈ (ancs l).getD i [],S j:=by
 intro i
 induction i using Nat.strongRecOn with
 | _ i ih =>
  intro o ho hi j hj
  rw [pH ho (hd i o ho)] at hj
  rcases List.mem_append.1 hj with h | h
  ·exact hS i o ho hi j h
  ·obtain ⟨k,hk,hjk⟩:=List.mem_flatMap.1 h
   have hki:=hd i o ho k hk
   have hlt:k < l.length:=by have:=(List.getElem?_eq_some_iff.1 ho).1; omega
   exact ih k hki l[k] (List.getElem?_eq_getElem hlt) (hS i o ho hi k hk) j hjk
def StI (st:Option (Nat × (World→Prop) × (World→Prop))) (an:List (List Nat)) (i:Nat) (w:World):Prop :=
 match st with
 | none=>True
 | some (k,pre,post)=>(k ∈ an.getD i []→post w)∧(i ∈ an.getD k []→pre w)
section draw
variable (P : Program) (r : Option Nat) (N : Nat) (ops : Array Oper) (D : List Deferred) (E : Env) (w0 : World) (R R' : World → World → Prop) (st : Option (Nat × (World → Prop) × (World → Prop)))
def yD9 (i:Nat) (o:Oper) (Ψ:VP) (Γ:List (Nat × VP)):Prop :=
 match o.dst with
 | some d=>((∀ k pre post,st=some (k,pre,post)→i ≠ k)∧(∀ v w w',Ψ v w→R w w'→Ψ v w')∧∀ w,R w0 w→StI st (ancs ops.toList) i w →
   Obl Γ E w (fun F=>Ops P r N ops (fun D' E' w'=>D'=D∧R' w w'∧∃ v,get E' d=some v∧Ψ v w') [o] D F w) (zW ops o) []) ∨
  (∃ pre post,st=some (i,pre,post)∧(∀ v w w',Ψ v w→R' w w'→Ψ v w')∧∀ w,R w0 w→pre w →
   Obl Γ E w (fun F=>Ops P r N ops (fun D' E' w'=>D'=D∧R w w'∧post w'∧∃ v,get E' d=some v∧Ψ v w') [o] D F w) (zW ops o) [])
 | none=>∃ pre post,st=some (i,pre,post)∧∀ w,R w0 w→pre w →
   Obl Γ E w (fun F=>Ops P r N ops (fun D' E' w'=>D'=D∧R w w'∧post w') [o] D F w) (zW ops o) []
def gam1 (o:Oper) (Ψ:VP) (Γ:List (Nat × VP)):List (Nat × VP):=match o.dst with | some d=>(d,Ψ) :: Γ | none=>Γ
def DRs (F:List (Nat × VP)→Prop):List Oper→Nat→List (Nat × VP)→Prop
 | [],_,Γ=>F Γ
 | o :: rest,i,Γ=>∃ Ψ,yD9 P r N ops D E w0 R R' st i o Ψ Γ∧DRs F rest (i + 1) (gam1 o Ψ Γ)
variable {P r N ops D E w0 R R' st}
theorem kJ {md:Region.Mode} {listed:Array Bool} {i:Nat}:i ∈ Region.ready md ops listed ↔
  i < ops.size∧listed.getD i true=false∧∃ o,ops[i]? = some o∧∀ e ∈ o.after,Region.binds md e=true→listed.getD e.on false=true:=by
 unfold Region.ready
 simp only [List.mem_filter,List.mem_range,Bool.and_eq_true,Bool.not_eq_true']
 constructor
 ·rintro ⟨h1,h2,h3⟩
  refine ⟨h1,h2,?_⟩
  cases ho:ops[i]? with
  | none=>simp [ho] at h3
  | some o =>
   refine ⟨o,rfl,fun e he hb=>?_⟩
   simp only [ho,Option.map_some,Option.getD_some,Array.all_eq_true_iff_forall_mem] at h3
   have:=h3 e he
   simpa [hb] using this
 ·rintro ⟨h1,h2,o,ho,h3⟩
  refine ⟨h1,h2,?_⟩
  simp only [ho,Option.map_some,Option.getD_some,Array.all_eq_true_iff_forall_mem]
  intro e he
  cases hb:Region.binds md e with
  | false=>rfl
  | true=>simpa using h3 e he hb
theorem zL4 {Q:Exit→Act→World→Prop} (hd:∀ i o,ops.toList[i]? = some o→∀ j ∈ dirs o,j < i) (m:Nat) (ht:∀ i o,ops.toList[i]? = some o→m≤i→∀ j,j < i→j ∈ (ancs ops.toList).getD i []) :
  ∀ (l:List Oper) (k:Nat) (listed:Array Bool) (a:Act) (w:World) (fuel:Nat),m≤k→l=ops.toList.drop k→listed.size=ops.size→(∀ i,i < ops.size→(listed.getD i true=true ↔ i < k))→l.length≤fuel →
   wpListIn (Fr r) 0 P ops Q l a w→wpAnyIn (Fr r) 0 P .any ops Q fuel listed a w
 | [],k,listed,a,w,fuel,hm,hl,hs,hli,hf,h=>by
  have hk:ops.size≤k:=by
   have:=congrArg List.length hl
   simp at this; omega
  have hr:Region.ready .any ops listed=[]:=by
   rw [List.eq_nil_iff_forall_not_mem]
   intro i hi
   obtain ⟨h1,h2,_⟩:=kJ.1 hi
   have:=(hli i h1).2 (by omega)
   rw [this] at h2; cases h2
  have hQ:Q .normal a w:=h
  cases fuel with
  | zero=>exact ⟨hr,hQ⟩
  | succ f=>exact ⟨fun _=>hQ,fun i hi=>by rw [hr] at hi; cases hi⟩
 | o :: l,k,listed,a,w,fuel,hm,hl,hs,hli,hf,h=>by
  have hk:k < ops.size:=by
   have:=congrArg List.length hl
   simp at this; omega
  have hok:ops.toList[k]? = some o:=by
   have:=congrArg (fun l=>l[0]?) hl
   simpa using this.symm
  have hok':ops[k]? = some o:=by simpa using hok
  have hl':l=ops.toList.drop (k + 1):=by
   have:=congrArg List.tail hl
   simpa [List.tail_drop] using this
  have honly:∀ i,i ∈ Region.ready .any ops listed→i=k:=by
   intro i hi
   obtain ⟨h1,h2,oi,ho,h3⟩:=kJ.1 hi
   have hik:¬ i < k:=fun c=>by rw [(hli i h1).2 c] at h2; cases h2
   rcases Nat.lt_or_eq_of_le (Nat.le_of_not_lt hik) with hlt | heq
   ·-- k stands ahead of i
    have hoi:ops.toList[i]? = some oi:=by simpa using ho
    have hanc:=ht i oi hoi (by omega) k hlt
    -- the ancestors of i that are direct are listed; so are theirs
    rw [pH hoi (hd i oi hoi)] at hanc
    have hdir:∀ j ∈ dirs oi,j < k:=by
     intro j hj
     obtain ⟨e,he,rfl⟩:=List.mem_map.1 hj
     obtain ⟨he1,he2⟩:=List.mem_filter.1 he
     have:=h3 e (by simpa using he1) he2
     have hj2:e.on < ops.size:=by have:=hd i oi hoi e.on (List.mem_map.2 ⟨e,he,rfl⟩); omega
     have hlst:listed.getD e.on true=true:=by
      have hsz:e.on < listed.size:=by omega
      simp only [Array.getD_eq_getD_getElem?,Array.getElem?_eq_getElem hsz,Option.getD_some] at this ⊢
      exact this
     exact (hli e.on hj2).1 hlst
    have hmono:∀ j,j < ops.size→∀ x ∈ (ancs ops.toList).getD j [],x < j:=by
     intro j hj x hx
     have hjo:ops.toList[j]? = some ops[j]:=by simp [hj]
     exact bP hd (fun y=>y < j ∨ y=j) (fun a oa ha hs' y hy=>by have:=hd a oa ha y hy; omega) j ops[j] hjo (.inr rfl) x hx |>.elim id (fun e=>by
      exfalso
      rw [pH hjo (hd j _ hjo)] at hx
      rcases List.mem_append.1 hx with h | h
      ·have:=hd j _ hjo x h; omega
      ·obtain ⟨q,hq,hxq⟩:=List.mem_flatMap.1 h
       have hqj:=hd j _ hjo q hq
       have hqo:ops.toList[q]? = some ops[q]:=by simp
       have:=bP hd (fun y=>y≤q) (fun a oa ha hs' y hy=>by have:=hd a oa ha y hy; omega) q ops[q] hqo (Nat.le_refl _) x hxq
       omega)
    rcases List.mem_append.1 hanc with h | h
    ·have:=hdir k h; omega
    ·obtain ⟨q,hq,hxq⟩:=List.mem_flatMap.1 h
     have h4:=hdir q hq
     have:=hmono q (by omega) k hxq
     omega
   ·exact heq.symm
  cases fuel with
  | zero=>simp at hf
  | succ f =>
   have hready:k ∈ Region.ready .any ops listed:=by
    refine kJ.2 ⟨hk,?_,o,hok',fun e he hb=>?_⟩
    ·cases hb:listed.getD k true with
     | false=>rfl
     | true=>have:=(hli k hk).1 hb; omega
    ·have hj:e.on ∈ dirs o:=List.mem_map.2 ⟨e,List.mem_filter.2 ⟨by simpa using he,hb⟩,rfl⟩
     have hlt:=hd k o hok e.on hj
     have:=(hli e.on (by omega)).2 hlt
     have hsz:e.on < listed.size:=by omega
     simp only [Array.getD_eq_getD_getElem?,Array.getElem?_eq_getElem hsz,Option.getD_some] at this ⊢
     exact this
   refine ⟨fun hr=>(by rw [hr] at hready; cases hready),fun i hi=>?_⟩
   obtain rfl:=honly i hi
   have hrec:∀ a w,wpListIn (Fr r) 0 P ops Q l a w→wpAnyIn (Fr r) 0 P .any ops Q f (listed.setIfInBounds i true) a w:=fun a' w' h' =>
    zL4 hd m ht l (i + 1) (listed.setIfInBounds i true) a' w' f (by omega) hl' (by simp [hs]) (fun j hj=>by
     by_cases e:i=j
     ·subst e
      have:(listed.setIfInBounds i true).getD i true=true:=by simp [Array.getD_eq_getD_getElem?,hs,hk]
      simp [this]
     ·have:(listed.setIfInBounds i true).getD j true=listed.getD j true:=by
       simp [Array.getD_eq_getD_getElem?,Array.getElem?_setIfInBounds_ne e]
      rw [this,hli j hj]; omega) (by simp at hf; omega) h'
   unfold wpOpIn
   simp only [hok']
   unfold wpListIn at h
   split
   ·rename_i hw; rw [if_pos hw] at h; exact Oper.wpIn_mono hrec h
   ·rename_i hw; rw [if_neg hw] at h; exact ⟨h.1,hrec _ _ h.2⟩
theorem dB {l:List Oper} {p:Oper × Nat→Bool} (h:l.zipIdx.all p=true) {i:Nat} {o:Oper} (ho:l[i]? = some o):p (o,i)=true:=by
 rw [List.all_eq_true] at h
 exact h (o,i) (by rw [List.mem_zipIdx_iff_getElem?]; simpa using ho)
end draw
section
variable {G : Type}
abbrev VPS (G:Type):=Value→World × G→Prop
def OblS (Γ:List (Nat × VPS G)) (E:Env) (x:World × G) (body:Env→Prop):List Nat→Env→Prop
 | [],F=>body F
 | s :: ss,F=>match Γ.find? (fun p=>Nat.beq p.1 s) with
  | some p=>∀ v,p.2 v x→OblS Γ E x body ss ((s,v) :: F)
  | none=>match get E s with
   | some v=>OblS Γ E x body ss ((s,v) :: F)
   | none=>OblS Γ E x body ss F
def StIS (st:Option (Nat × (World × G→Prop) × (World × G→Prop))) (an:List (List Nat)) (i:Nat) (w:World × G):Prop :=
 match st with
 | none=>True
 | some (k,pre,post)=>(k ∈ an.getD i []→post w)∧(i ∈ an.getD k []→pre w)
section draw
variable (P : Program) (r : Option Nat) (N : Nat) (ops : Array Oper) (D : List Deferred) (E : Env) (x0 : World × G) (R : World × G → World × G → Prop) (R' : Nat → World × G → World × G → Prop) (Pr : Nat → World × G → Prop) (st : Option (Nat × (World × G → Prop) × (World × G → Prop))) (th : Nat → Option (World × G → Prop))
def cG (i:Nat) (o:Oper) (Ψ:VPS G) (Γ:List (Nat × VPS G)):Prop :=
 match o.dst with
 | some d=>(∀ v w w',Ψ v w→R w w'→Ψ v w')∧(((∀ k pre post,st=some (k,pre,post)→i ≠ k)∧∀ w,R x0 w→StIS st (ancs ops.toList) i w→Pr i w →
   OblS Γ E w (fun F=>Ops P r N ops (fun D' E' w'=>D'=D∧∃ g',R' i w (w',g')∧∃ v,get E' d=some v∧Ψ v (w',g')) [o] D F w.1) (zW ops o) []) ∨
  ∃ pre post,st=some (i,pre,post)∧∀ w,R x0 w→pre w →
   OblS Γ E w (fun F=>Ops P r N ops (fun D' E' w'=>D'=D∧∃ g',R' i w (w',g')∧post (w',g')∧∃ v,get E' d=some v∧Ψ v (w',g')) [o] D F w.1) (zW ops o) [])
 | none=>(∃ pre post,st=some (i,pre,post)∧∀ w,R x0 w→pre w →
   OblS Γ E w (fun F=>Ops P r N ops (fun D' E' w'=>D'=D∧∃ g',R' i w (w',g')∧post (w',g')) [o] D F w.1) (zW ops o) []) ∨
  ∃ Θ,th i=some Θ∧(∀ k pre post,st=some (k,pre,post)→i ≠ k)∧(∀ w w',Θ w→R w w'→Θ w')∧∀ w,R x0 w→StIS st (ancs ops.toList) i w→Pr i w →
   OblS Γ E w (fun F=>Ops P r N ops (fun D' E' w'=>D'=D∧∃ g',R' i w (w',g')∧Θ (w',g')) [o] D F w.1) (zW ops o) []
def mQ (o:Oper) (Ψ:VPS G) (Γ:List (Nat × VPS G)):List (Nat × VPS G):=match o.dst with | some d=>(d,Ψ) :: Γ | none=>Γ
def DRsT (F:List (Nat × VPS G)→Prop):List Oper→Nat→List (Nat × VPS G)→Prop
 | [],_,Γ=>F Γ
 | o :: rest,i,Γ=>∃ Ψ,cG P r N ops D E x0 R R' Pr st th i o Ψ Γ∧DRsT F rest (i + 1) (mQ o Ψ Γ)
def dS:List Oper→List (VPS G)→List (Nat × VPS G)→List (Nat × VPS G)
 | [],_,Γ=>Γ
 | o :: os,[],Γ=>Γ
 | o :: os,Ψ :: Ψs,Γ=>dS os Ψs (mQ o Ψ Γ)
variable {P r N ops D E x0 R R' Pr st th th}
theorem vM {F:List (Nat × VPS G)→Prop}:∀ (l:List Oper) (i:Nat) (Γ:List (Nat × VPS G)),DRsT P r N ops D E x0 R R' Pr st th F l i Γ →
  ∃ Ψs:List (VPS G),Ψs.length=l.length∧F (dS l Ψs Γ)∧∀ (j:Nat) (o:Oper) (Ψ:VPS G),l[j]? = some o→Ψs[j]? = some Ψ→cG P r N ops D E x0 R R' Pr st th (i + j) o Ψ (dS (l.take j) (Ψs.take j) Γ)
 | [],i,Γ,h=>⟨[],rfl,h,by simp⟩
 | o :: rest,i,Γ,h=>by
  obtain ⟨Ψ,h1,h2⟩:=h
  obtain ⟨Ψs,e1,e2,e3⟩:=vM rest (i + 1) _ h2
  refine ⟨Ψ :: Ψs,by simp [e1],e2,fun j o' Ψ' hj hp=>?_⟩
  cases j with
  | zero=>simp at hj hp; subst hj; subst hp; simpa [dS] using h1
  | succ j =>
   have:=e3 j o' Ψ' (by simpa using hj) (by simpa using hp)
   have e:i + 1 + j=i + (j + 1):=by omega
   rw [e] at this
   simpa [dS] using this
theorem kA:∀ (l:List Oper) (Ψs:List (VPS G)) (Γ:List (Nat × VPS G)) (s:Nat) (p:Nat × VPS G),Ψs.length=l.length→(dS l Ψs Γ).find? (fun p=>Nat.beq p.1 s)=some p →
  (∃ (k:Nat) (o:Oper),l[k]? = some o∧o.dst=some s∧Ψs[k]? = some p.2) ∨ Γ.find? (fun p=>Nat.beq p.1 s)=some p
 | [],Ψs,Γ,s,p,_,h => .inr h
 | o :: os,[],Γ,s,p,hl,h=>by simp at hl
 | o :: os,Ψ :: Ψs,Γ,s,p,hl,h=>by
  rcases kA os Ψs _ s p (by simpa using hl) h with ⟨k,o',h1,h2,h3⟩ | h1
  ·exact .inl ⟨k + 1,o',by simpa using h1,h2,by simpa using h3⟩
  ·unfold mQ at h1
   cases hd:o.dst with
   | none=>rw [hd] at h1; exact .inr h1
   | some d =>
    rw [hd] at h1
    simp only [List.find?_cons] at h1
    cases hb:Nat.beq d s with
    | true =>
     rw [hb] at h1
     have e:d=s:=Nat.eq_of_beq_eq_true hb
     simp at h1; subst h1; subst e
     exact .inl ⟨0,o,rfl,hd,rfl⟩
    | false=>rw [hb] at h1; exact .inr h1
theorem kB:∀ (l:List Oper) (Ψs:List (VPS G)) (Γ:List (Nat × VPS G)) (s:Nat),Ψs.length=l.length→(dS l Ψs Γ).find? (fun p=>Nat.beq p.1 s)=none →
  (∀ (k:Nat) (o:Oper),l[k]? = some o→o.dst ≠ some s)∧Γ.find? (fun p=>Nat.beq p.1 s)=none
 | [],Ψs,Γ,s,_,h=>⟨by simp,h⟩
 | o :: os,[],Γ,s,hl,h=>by simp at hl
 | o :: os,Ψ :: Ψs,Γ,s,hl,h=>by
  obtain ⟨h1,h2⟩:=kB os Ψs _ s (by simpa using hl) h
  unfold mQ at h2
  cases hd:o.dst with
  | none => rw [hd] at h2; exact ⟨fun k o' hk => by cases k with
                         | zero=>simp at hk; subst hk; rw [hd]; simp
                         | succ k=>exact h1 k o' (by simpa using hk),h2⟩
  | some d =>
   rw [hd] at h2
   simp only [List.find?_cons] at h2
   cases hb:Nat.beq d s with
   | true=>rw [hb] at h2; simp at h2
   | false =>
    rw [hb] at h2
    have hne:d ≠ s:=Nat.ne_of_beq_eq_false hb
    exact ⟨fun k o' hk => by cases k with
                 | zero=>simp at hk; subst hk; rw [hd]; simpa using hne
                 | succ k=>exact h1 k o' (by simpa using hk),h2⟩
theorem gQ {Γ:List (Nat × VPS G)} {body:Env→Prop} {a:Act} {w:World × G} (hN:a.tmps.size=N):∀ (ss:List Nat) (F:Env),OblS Γ E w body ss F→Has a N F →
    (∀ s ∈ ss,∀ p,Γ.find? (fun p=>Nat.beq p.1 s)=some p→∃ v,a.tmps[s]? = some v∧p.2 v w) →
    (∀ s ∈ ss,Γ.find? (fun p=>Nat.beq p.1 s)=none→∀ v,get E s=some v→a.tmps[s]? = some v)→∃ F',body F'∧Has a N F'
  | [],F,h,ha,_,_=>⟨F,h,ha⟩
  | s :: ss,F,h,ha,h1,h2=>by
    have hadd:∀ v,a.tmps[s]? = some v→Has a N ((s,v) :: F):=fun v hv=>⟨ha.size,fun i u hu=>by
      unfold get at hu
      cases hb:Nat.beq s i with
      | true => have e : s = i := Nat.eq_of_beq_eq_true hb
                subst e; simp [hb] at hu; subst hu; exact hv
      | false=>rw [hb] at hu; exact ha.at_ i u hu⟩
    unfold OblS at h
    cases hf:Γ.find? (fun p=>Nat.beq p.1 s) with
    | some p =>
      rw [hf] at h
      obtain ⟨v,hv,hp⟩:=h1 s (by simp) p hf
      exact gQ hN ss _ (h v hp) (hadd v hv) (fun s' hs=>h1 s' (by simp [hs])) (fun s' hs=>h2 s' (by simp [hs]))
    | none =>
      rw [hf] at h
      simp only at h
      cases hg:get E s with
      | some v =>
        rw [hg] at h
        exact gQ hN ss _ h (hadd v (h2 s (by simp) hf v hg)) (fun s' hs=>h1 s' (by simp [hs])) (fun s' hs=>h2 s' (by simp [hs]))
      | none=>rw [hg] at h; exact gQ hN ss _ h ha (fun s' hs=>h1 s' (by simp [hs])) (fun s' hs=>h2 s' (by simp [hs]))
theorem zK7 {Kn Kr:Pd} {Ke:Nat→Pd} {w:World} (g0:G) {id:Nat} (hm:P.follows .mixedOrders=true) (m:Nat) (outs:List Nat) (hlook:kS ops m=true)
    (hRt:∀ a b c,R a b→R b c→R a c) (hRR:∀ i a b,R' i a b→R a b) (hR0:R (w,g0) ({ w with drawn:=w.drawn + 1 },g0))
    (hst:∀ k pre post,st=some (k,pre,post)→k < m∧pre ({ w with drawn:=w.drawn + 1 },g0)∧(∀ i a b,i ≠ k→pre a→R' i a b→pre b)∧(∀ i a b,i ≠ k→post a→R' i a b→post b)∧∃ o,ops[k]? = some o)
    (hPr0:∀ i,Pr i ({ w with drawn:=w.drawn + 1 },g0)) (hPr:∀ i j a b,i ≠ j→Pr i a→R' j a b→Pr i b)
    (h:DRsT P r N ops D E (w,g0) R R' Pr st th (fun Γ=>∀ x',R (w,g0) x'→(∀ k pre post,st=some (k,pre,post)→post x')→(∀ i o Θ,(ops.toList.take m)[i]? = some o→o.dst=none→(∀ k pre post,st=some (k,pre,post)→i ≠ k)→th i=some Θ→Θ x')→OblS Γ E x' (fun F=>Ops P r N ops Kn (ops.toList.drop m) D F x'.1) outs []) (ops.toList.take m) 0 []) :
    Wp P r N (.region id ops true) Kn Ke Kr D E w:=by
  intro a0 ha0 hd0
  -- the look
  unfold kS at hlook
  simp only [Bool.and_eq_true] at hlook
  obtain ⟨⟨⟨hl1,hl2⟩,hl3⟩,hl4⟩:=hlook
  have hdir:∀ i o,ops.toList[i]? = some o→∀ j ∈ dirs o,j < i:=by
    intro i o ho j hj
    have:=dB hl1 ho
    rw [List.all_eq_true] at this
    simpa using this j hj
  have hslot:∀ i o,(ops.toList.take m)[i]? = some o→∀ s ∈ zW ops o,∀ k p,(ops.toList.take m)[k]? = some p→p.dst=some s→(k < i→k ∈ (ancs ops.toList).getD i [])∧(i < k→i ∈ (ancs ops.toList).getD k [])∧k ≠ i:=by
    intro i o ho s hs k p hp hps
    have h1:=dB hl2 ho
    rw [List.all_eq_true] at h1
    have h2:=dB (h1 s hs) hp
    simp only [hps,beq_self_eq_true,if_true] at h2
    by_cases e1:k < i
    · rw [if_pos e1] at h2; exact ⟨fun _=>by simpa using h2,fun _=>by omega,by omega⟩
    · rw [if_neg e1] at h2
      by_cases e2:i < k
      · rw [if_pos e2] at h2; exact ⟨fun _=>by omega,fun _=>by simpa using h2,by omega⟩
      · rw [if_neg e2] at h2; cases h2
  have hdist:∀ (i:Nat) (o:Oper) (k:Nat) (p:Oper) (d:Nat),(ops.toList.take m)[i]? = some o→(ops.toList.take m)[k]? = some p→o.dst=some d→p.dst=some d→i=k:=by
    intro i o k p d ho hp h1 h2
    have h3:=dB (dB hl3 ho) hp
    simpa [h1,h2] using h3
  have htail:∀ i o,ops.toList[i]? = some o→m≤i→∀ j,j < i→j ∈ (ancs ops.toList).getD i []:=by
    intro i o ho hi j hj
    have h1:=dB hl4 ho
    simp only [Bool.or_eq_true,decide_eq_true_eq] at h1
    rcases h1 with h1 | h1
    · omega
    · rw [List.all_eq_true] at h1
      simpa using h1 j (by simpa using hj)
  obtain ⟨Ψs,hlen,hF,hone⟩:=vM _ _ _ h
  have htk:∀ i o,ops.toList[i]? = some o→i < m→(ops.toList.take m)[i]? = some o:=by
    intro i o ho hi; rw [List.getElem?_take,if_pos hi]; exact ho
  have hkt:∀ i o,(ops.toList.take m)[i]? = some o→ops.toList[i]? = some o∧i < m:=by
    intro i o ho; rw [List.getElem?_take] at ho; split at ho
    · rename_i hi; exact ⟨ho,hi⟩
    · cases ho
  refine wpIn_region_any hm ?_
  -- what holds once some have been taken
  let Inv:Array Bool→Act→World × G→Prop:=fun listed a w' =>
    listed.size=ops.size∧(∀ i,m≤i→i < ops.size→listed.getD i true=false) ∧
    (∀ i o,ops.toList[i]? = some o→listed.getD i true=true→∀ j ∈ dirs o,listed.getD j true=true) ∧
    a.tmps.size=N∧a.defers=D∧R (w,g0) w' ∧
    (∀ (i:Nat) (o:Oper) (d:Nat) (Ψ:VPS G),(ops.toList.take m)[i]? = some o→listed.getD i true=true→o.dst=some d→Ψs[i]? = some Ψ→∃ v,a.tmps[d]? = some v∧Ψ v w') ∧
    (∀ s v,get E s=some v→(∀ (i:Nat) (o:Oper),(ops.toList.take m)[i]? = some o→listed.getD i true=true→o.dst ≠ some s)→a.tmps[s]? = some v) ∧
    (∀ k pre post,st=some (k,pre,post)→(listed.getD k true=true→post w')∧(listed.getD k true=false→pre w')) ∧
    (∀ i,listed.getD i true=false→Pr i w') ∧
    (∀ i o Θ,(ops.toList.take m)[i]? = some o→o.dst=none→(∀ k pre post,st=some (k,pre,post)→i ≠ k)→th i=some Θ→listed.getD i true=true→Θ w')
  have key:∀ (fuel:Nat) (listed:Array Bool) (a:Act) (w':World × G),Inv listed a w'→((List.range ops.size).filter fun i=>!listed.getD i true).length≤fuel →
      wpAnyIn (Fr r) 0 P .any ops (toQ N Kn Ke Kr) fuel listed a w'.1:=by
    intro fuel
    induction fuel with
    | zero =>
      intro listed a w' hI hf
      have hnil:∀ i,i < ops.size→listed.getD i true=true:=by
        intro i hi
        cases hb:listed.getD i true with
        | true=>rfl
        | false =>
          have:i ∈ (List.range ops.size).filter fun i=>!listed.getD i true:=List.mem_filter.2 ⟨by simpa using hi,by simp [hb]⟩
          have:=List.length_pos_of_mem this
          omega
      -- all taken: m is the whole
      obtain ⟨hs,htl,hcl,hN,hD',hRw,hv,hE',hst',hPrI,hTh⟩:=hI
      have hmn:ops.size≤m:=by
        rcases Nat.lt_or_ge m ops.size with hlt | hge
        · have h1:=htl m (Nat.le_refl _) hlt; rw [hnil m hlt] at h1; cases h1
        · exact hge
      have hfin:=hF w' hRw (fun k pre post hk=>(hst' k pre post hk).1 (by
        have:=(hst k pre post hk).1
        rcases Nat.lt_or_ge k ops.size with hlt | hge
        · exact hnil k hlt
        · simp [Array.getD_eq_getD_getElem?,Array.getElem?_eq_none (show listed.size≤k by omega)])) (fun i o Θ k1 k2 k3 k4=>hTh i o Θ k1 k2 k3 k4 (hnil i (by have:=(List.getElem?_eq_some_iff.1 (hkt i o k1).1).1; simpa using this)))
      obtain ⟨F,hbody,hhas⟩:=gQ hN outs [] hfin ⟨hN,by simp [get]⟩ (fun s _ p hp=>by
          rcases kA _ _ _ s p hlen hp with ⟨k,o,h1,h2,h3⟩ | h1
          · exact hv k o s p.2 h1 (hnil k (by have:=(List.getElem?_eq_some_iff.1 (hkt k o h1).1).1; simpa using this)) h2 h3
          · simp at h1) (fun s _ hn v hg=>hE' s v hg (fun i o hi _=>(kB _ _ _ s hlen hn).1 i o hi))
      have hdrop:ops.toList.drop m=[]:=by simp; omega
      rw [hdrop] at hbody
      have hres:=hbody a (toQ N Kn Ke Kr) hhas hD' (fun _ _ E' h1 h2=>⟨E',h1,h2⟩)
      refine ⟨?_,hres⟩
      rw [List.eq_nil_iff_forall_not_mem]
      intro i hi
      obtain ⟨h1,h2,_⟩:=kJ.1 hi
      rw [hnil i h1] at h2; cases h2
    | succ f ih =>
      intro listed a w' hI hf
      by_cases hall:∀ i,i < m→i < ops.size→listed.getD i true=true
      · -- the first m have been taken
        obtain ⟨hs,htl,hcl,hN,hD',hRw,hv,hE',hst',hPrI,hTh⟩:=hI
        have hfin:=hF w' hRw (fun k pre post hk=>(hst' k pre post hk).1 (by
          have:=(hst k pre post hk).1
          rcases Nat.lt_or_ge k ops.size with hlt | hge
          · exact hall k this hlt
          · simp [Array.getD_eq_getD_getElem?,Array.getElem?_eq_none (show listed.size≤k by omega)])) (fun i o Θ k1 k2 k3 k4=>hTh i o Θ k1 k2 k3 k4 (hall i (hkt i o k1).2 (by have:=(List.getElem?_eq_some_iff.1 (hkt i o k1).1).1; simpa using this)))
        obtain ⟨F,hbody,hhas⟩:=gQ hN outs [] hfin ⟨hN,by simp [get]⟩ (fun s _ p hp=>by
            rcases kA _ _ _ s p hlen hp with ⟨k,o,h1,h2,h3⟩ | h1
            · exact hv k o s p.2 h1 (hall k (hkt k o h1).2 (by have:=(List.getElem?_eq_some_iff.1 (hkt k o h1).1).1; simpa using this)) h2 h3
            · simp at h1) (fun s _ hn v hg=>hE' s v hg (fun i o hi _=>(kB _ _ _ s hlen hn).1 i o hi))
        have hres:=hbody a (toQ N Kn Ke Kr) hhas hD' (fun _ _ E' h1 h2=>⟨E',h1,h2⟩)
        refine zL4 hdir m htail (ops.toList.drop m) m listed a w'.1 (f + 1) (Nat.le_refl _) rfl hs (fun i hi=>?_) ?_ hres
        · constructor
          · intro h1
            rcases Nat.lt_or_ge i m with h2 | h2
            · exact h2
            · rw [htl i h2 hi] at h1; cases h1
          · intro h1; exact hall i h1 hi
        · -- enough steps are left
          have hlen2:(ops.toList.drop m).length≤((List.range ops.size).filter fun i=>!listed.getD i true).length:=by
            have e:(List.range ops.size).filter (fun i=>!listed.getD i true)=(List.range ops.size).filter (fun i=>decide (m≤i)):=by
              apply List.filter_congr
              intro i hi
              have hi':i < ops.size:=by simpa using hi
              rcases Nat.lt_or_ge i m with h2 | h2
              · simp [hall i h2 hi',Nat.not_le.2 h2]
              · simp [htl i h2 hi',h2]
            rw [e]
            have:∀ n,((List.range n).filter (fun i=>decide (m≤i))).length=n - m:=by
              intro n
              induction n with
              | zero=>simp
              | succ n ihn =>
                rw [List.range_succ,List.filter_append,List.length_append,ihn]
                by_cases hmn:m≤n
                · simp [hmn]; omega
                · simp [hmn]; omega
            rw [this]; simp
          omega
      · -- one of the first m is taken
        have hmem:∀ i,i ∈ Region.ready .any ops listed→i < m:=by
          intro i hi
          obtain ⟨h1,h2,o,ho,h3⟩:=kJ.1 hi
          rcases Nat.lt_or_ge i m with hlt | hge
          · exact hlt
          · exfalso
            apply hall
            intro j hj hjn
            have hoi:ops.toList[i]? = some o:=by simpa using ho
            have:=bP hdir (fun y=>listed.getD y true=true ∨ y=i) (fun x ox hx hs' y hy=>by
              rcases hs' with hs' | rfl
              · exact .inl (hI.2.2.1 x ox hx hs' y hy)
              · obtain ⟨e,he,rfl⟩:=List.mem_map.1 hy
                obtain ⟨he1,he2⟩:=List.mem_filter.1 he
                have hxo:ox=o:=by rw [hoi] at hx; exact (Option.some.inj hx).symm
                subst hxo
                have h4:=h3 e (by simpa using he1) he2
                have h5:=hdir x ox hx e.on hy
                have hsz:e.on < listed.size:=by rw [hI.1]; omega
                left
                simp only [Array.getD_eq_getD_getElem?,Array.getElem?_eq_getElem hsz,Option.getD_some] at h4 ⊢
                exact h4) i o hoi (.inr rfl) j (htail i o hoi hge j (by omega))
            rcases this with h | h
            · exact h
            · omega
        refine ⟨fun hr=>?_,fun i hi=>?_⟩
        · -- some is ready
          exfalso
          have:∃ i,i < m∧i < ops.size∧listed.getD i true=false∧∀ j,j < i→listed.getD j true=true:=by
            have hex:∃ i,i < m∧i < ops.size∧listed.getD i true=false:=by
              apply Classical.byContradiction
              intro hc
              apply hall
              intro i h1 h2
              cases hb:listed.getD i true with
              | true=>rfl
              | false=>exact absurd ⟨i,h1,h2,hb⟩ hc
            obtain ⟨i,hi⟩:=hex
            induction i using Nat.strongRecOn with
            | _ i ihi =>
              by_cases hc:∃ j,j < i∧listed.getD j true=false
              · obtain ⟨j,hj1,hj2⟩:=hc; exact ihi j hj1 ⟨by omega,by omega,hj2⟩
              · refine ⟨i,hi.1,hi.2.1,hi.2.2,fun j hj=>?_⟩
                cases hb:listed.getD j true with
                | true=>rfl
                | false=>exact absurd ⟨j,hj,hb⟩ hc
          obtain ⟨i,h1,h2,h3,h4⟩:=this
          have hoi:ops[i]? = some ops[i]:=by simp [h2]
          have:i ∈ Region.ready .any ops listed:=kJ.2 ⟨h2,h3,ops[i],hoi,fun e he hb=>by
            have hj:e.on ∈ dirs ops[i]:=List.mem_map.2 ⟨e,List.mem_filter.2 ⟨by simpa using he,hb⟩,rfl⟩
            have hlt:=hdir i ops[i] (by simp) e.on hj
            have h5:=h4 e.on hlt
            have hsz:e.on < listed.size:=by rw [hI.1]; omega
            simp only [Array.getD_eq_getD_getElem?,Array.getElem?_eq_getElem hsz,Option.getD_some] at h5 ⊢
            exact h5⟩
          rw [hr] at this; cases this
        · have him:=hmem i hi
          obtain ⟨h1,h2,o,ho,h3⟩:=kJ.1 hi
          have hoi:ops.toList[i]? = some o:=by simpa using ho
          have hit:=htk i o hoi him
          obtain ⟨hs,htl,hcl,hN,hD',hRw,hv,hE',hst',hPrI,hTh⟩:=hI
          have hdl:∀ j ∈ dirs o,listed.getD j true=true:=by
            intro j hj
            obtain ⟨e,he,rfl⟩:=List.mem_map.1 hj
            obtain ⟨he1,he2⟩:=List.mem_filter.1 he
            have h4:=h3 e (by simpa using he1) he2
            have h5:=hdir i o hoi e.on hj
            have hsz:e.on < listed.size:=by rw [hs]; omega
            simp only [Array.getD_eq_getD_getElem?,Array.getElem?_eq_getElem hsz,Option.getD_some] at h4 ⊢
            exact h4
          have hanl:∀ j ∈ (ancs ops.toList).getD i [],listed.getD j true=true:=by
            intro j hj
            rw [pH hoi (hdir i o hoi)] at hj
            rcases List.mem_append.1 hj with h | h
            · exact hdl j h
            · obtain ⟨q,hq,hjq⟩:=List.mem_flatMap.1 h
              have hqi:=hdir i o hoi q hq
              exact bP hdir (fun y=>listed.getD y true=true) hcl q ops[q] (by simp) (hdl q hq) j hjq
          have hnan:∀ k p,ops.toList[k]? = some p→i ∈ (ancs ops.toList).getD k []→listed.getD k true=false:=by
            intro k p hp hik
            cases hb:listed.getD k true with
            | false=>rfl
            | true =>
              have:=bP hdir (fun y=>listed.getD y true=true) hcl k p hp hb i hik
              rw [this] at h2; cases h2
          have hΨ:∃ Ψ,Ψs[i]? = some Ψ:=by
            have:i < Ψs.length:=by rw [hlen]; exact (List.getElem?_eq_some_iff.1 hit).1
            exact ⟨_,List.getElem?_eq_getElem this⟩
          obtain ⟨Ψ,hΨ⟩:=hΨ
          have hok:=hone i o Ψ hit hΨ
          rw [Nat.zero_add] at hok
          -- the frame holds what the operation looks at
          have hsub1:∀ s ∈ zW ops o,∀ p,(dS ((ops.toList.take m).take i) (Ψs.take i) []).find? (fun p=>Nat.beq p.1 s)=some p→∃ v,a.tmps[s]? = some v∧p.2 v w':=by
            intro s hsl p hp
            rcases kA _ _ _ s p (by simp [hlen]) hp with ⟨k,q,e1,e2,e3⟩ | e1
            · rw [List.getElem?_take] at e1 e3
              split at e1
              · rename_i hki
                rw [if_pos hki] at e3
                exact hv k q s p.2 e1 (hanl k ((hslot i o hit s hsl k q e1 e2).1 hki)) e2 e3
              · cases e1
            · simp at e1
          have hsub2:∀ s ∈ zW ops o,(dS ((ops.toList.take m).take i) (Ψs.take i) []).find? (fun p=>Nat.beq p.1 s)=none→∀ v,get E s=some v→a.tmps[s]? = some v:=by
            intro s hsl hn v hg
            refine hE' s v hg (fun k q hk hlk hd=>?_)
            have h5:=hslot i o hit s hsl k q hk hd
            rcases Nat.lt_or_ge k i with hlt | hge
            · have h6:=(kB _ _ _ s (by simp [hlen]) hn).1 k q (by rw [List.getElem?_take,if_pos hlt]; exact hk)
              exact h6 hd
            · rcases Nat.lt_or_eq_of_le hge with hlt | heq
              · have h7:=hnan k q (hkt k q hk).1 (h5.2.1 hlt)
                rw [h7] at hlk; cases hlk
              · exact h5.2.2 heq.symm
          have hsz:i < listed.size:=by rw [hs]; exact h1
          have hget:∀ j,(listed.setIfInBounds i true).getD j true=true ↔ j=i ∨ listed.getD j true=true:=by
            intro j
            by_cases e:i=j
            · subst e; simp [Array.getD_eq_getD_getElem?,hsz]
            · have:(listed.setIfInBounds i true).getD j true=listed.getD j true:=by simp [Array.getD_eq_getD_getElem?,Array.getElem?_setIfInBounds_ne e]
              rw [this]; constructor
              · exact .inr
              · rintro (h | h)
                · exact absurd h.symm e
                · exact h
          have hcount:((List.range ops.size).filter fun j=>!(listed.setIfInBounds i true).getD j true).length < ((List.range ops.size).filter fun j=>!listed.getD j true).length:=by
            have e:(List.range ops.size).filter (fun j=>!(listed.setIfInBounds i true).getD j true)=((List.range ops.size).filter fun j=>!listed.getD j true).filter (fun j=>decide (j ≠ i)):=by
              rw [List.filter_filter]
              apply List.filter_congr
              intro j hj
              have:=hget j
              by_cases e:j=i
              · subst e; have h5:=this.2 (.inl rfl); simp [h5]
              · cases hb:listed.getD j true with
                | true=>have h5:=this.2 (.inr hb); simp [h5]
                | false =>
                  have h5:(listed.setIfInBounds i true).getD j true=false:=by
                    cases hc:(listed.setIfInBounds i true).getD j true with
                    | false=>rfl
                    | true => rcases this.1 hc with h | h
                              · exact absurd h e
                              · rw [hb] at h; cases h
                  simp [h5,e]
            rw [e]
            have hmemi:i ∈ (List.range ops.size).filter fun j=>!listed.getD j true:=List.mem_filter.2 ⟨by simpa using h1,by simp [h2]⟩
            exact List.length_filter_lt_length_iff_exists.2 ⟨i,hmemi,by simp⟩
          -- what comes behind
          have hnext:∀ a2 (w2:World × G) v,a2.tmps=(a.put o.dst v).tmps→a2.defers=D→R' i w' w2→(∀ d,o.dst=some d→∃ u,a2.tmps[d]? = some u∧Ψ u w2)→(∀ (u:VPS G) (w1:World × G),(∃ j:Nat,j ≠ i∧Ψs[j]? = some u∧(ops.toList.take m)[j]?.bind (·.dst) ≠ none)→∀ x,u x w'→u x w2) →
              (∀ k pre post,st=some (k,pre,post)→(i=k→post w2))→(∀ Θ,o.dst=none→(∀ k pre post,st=some (k,pre,post)→i ≠ k)→th i=some Θ→Θ w2)→R w' w2→Inv (listed.setIfInBounds i true) a2 w2:=by
            intro a2 w2 v ht hd2 hR2 hΨ2 hmono hst2 hth2 hRR2
            have htmp:∀ s,o.dst ≠ some s→a2.tmps[s]? = a.tmps[s]?:=by
              intro s hne
              rw [ht]
              cases hdd:o.dst with
              | none=>rfl
              | some d=>have:d ≠ s:=fun e=>hne (by rw [hdd,e]); simp [Act.put,Array.getElem?_setIfInBounds_ne this]
            refine ⟨by simp [hs],fun j hj hjn=>?_,fun j oj hoj hl j' hj'=>?_,?_,hd2,hRt _ _ _ hRw (hRR _ _ _ hR2),fun j oj d Ψ' hoj hl hd' hΨ'=>?_,fun s u hg hn=>?_,fun k pre post hk=>?_,fun j hl=>?_,fun j oj Θ hoj hdj hkj htj hl=>?_⟩
            · cases hb:(listed.setIfInBounds i true).getD j true with
              | false=>rfl
              | true => rcases (hget j).1 hb with h | h
                        · omega
                        · rw [htl j hj hjn] at h; cases h
            · rcases (hget j).1 hl with rfl | h
              · have:oj=o:=by rw [hoi] at hoj; exact (Option.some.inj hoj).symm
                subst this
                exact (hget j').2 (.inr (hdl j' hj'))
              · exact (hget j').2 (.inr (hcl j oj hoj h j' hj'))
            · rw [ht]; cases o.dst <;> simp [Act.put,hN]
            · rcases (hget j).1 hl with rfl | h
              · have:oj=o:=by rw [hit] at hoj; exact (Option.some.inj hoj).symm
                subst this
                rw [hΨ] at hΨ'; obtain rfl:=Option.some.inj hΨ'
                exact hΨ2 d hd'
              · obtain ⟨x,hx1,hx2⟩:=hv j oj d Ψ' hoj h hd' hΨ'
                have hne:o.dst ≠ some d:=fun hc=>by
                  have:=hdist i o j oj d hit hoj hc hd'
                  subst this; rw [h] at h2; cases h2
                exact ⟨x,by rw [htmp d hne]; exact hx1,hmono Ψ' w' ⟨j,fun e=>(by subst e; rw [h] at h2; cases h2),hΨ',by rw [hoj]; simp [hd']⟩ x hx2⟩
            · have hne:o.dst ≠ some s:=hn i o hit ((hget i).2 (.inl rfl))
              rw [htmp s hne]
              exact hE' s u hg (fun j oj hoj hl=>hn j oj hoj ((hget j).2 (.inr hl)))
            · have c1:=hst2 k pre post hk
              obtain ⟨_,_,p1,p2,_⟩:=hst k pre post hk
              constructor
              · intro hl
                by_cases e:i=k
                · exact c1 e
                · rcases (hget k).1 hl with h | h
                  · exact absurd h.symm e
                  · exact p2 i _ _ e ((hst' k pre post hk).1 h) hR2
              · intro hl
                have e:i ≠ k:=fun e=>by rw [(hget k).2 (.inl e.symm)] at hl; cases hl
                refine p1 i _ _ e ((hst' k pre post hk).2 ?_) hR2
                cases hb:listed.getD k true with
                | false=>rfl
                | true=>rw [(hget k).2 (.inr hb)] at hl; cases hl
            · have hji:j ≠ i:=fun e=>by rw [(hget j).2 (.inl e)] at hl; cases hl
              refine hPr j i _ _ hji (hPrI j ?_) hR2
              cases hb:listed.getD j true with
              | false=>rfl
              | true=>rw [(hget j).2 (.inr hb)] at hl; cases hl
            · rcases (hget j).1 hl with rfl | h
              · have:oj=o:=by rw [hit] at hoj; exact (Option.some.inj hoj).symm
                subst this
                exact hth2 Θ hdj hkj htj
              · have hjl:j < Ψs.length:=by rw [hlen]; exact (List.getElem?_eq_some_iff.1 hoj).1
                have h9:=hone j oj Ψs[j] hoj (List.getElem?_eq_getElem hjl)
                unfold cG at h9
                rw [hdj,Nat.zero_add] at h9
                rcases h9 with ⟨pre,post,h10,_⟩ | ⟨Θ',h10,_,h11,_⟩
                · exact absurd rfl (hkj j pre post h10)
                · rw [htj] at h10
                  obtain rfl:=Option.some.inj h10
                  exact h11 w' w2 (hTh j oj Θ hoj hdj hkj htj h) hRR2
          have hmonoR:∀ w2:World × G,R w' w2→∀ (u:VPS G) (w1:World × G),(∃ j:Nat,j ≠ i∧Ψs[j]? = some u∧(ops.toList.take m)[j]?.bind (·.dst) ≠ none)→∀ x,u x w'→u x w2:=by
            intro w2 hR2 u w1 ⟨j,hji,hj,hjd⟩ x hx
            cases hoj:(ops.toList.take m)[j]? with
            | none=>rw [hoj] at hjd; simp at hjd
            | some oj =>
              rw [hoj] at hjd
              have hj':=hone j oj u hoj hj
              unfold cG at hj'
              cases hdj:oj.dst with
              | none=>simp [hdj] at hjd
              | some d =>
                rw [hdj,Nat.zero_add] at hj'
                exact hj'.1 x w' w2 hx hR2
          unfold cG at hok
          cases hdo:o.dst with
          | some d =>
            rw [hdo] at hok
            rcases hok with ⟨hmo,⟨hik,hob⟩ | ⟨pre,post,hst0,hob⟩⟩
            case inr =>
              obtain ⟨F,hbody,hhas⟩:=gQ hN (zW ops o) [] (hob w' hRw ((hst' i pre post hst0).2 h2)) ⟨hN,by simp [get]⟩ hsub1 hsub2
              refine dK ho hbody hhas hD' fun a2 w2 E2 he2 ⟨hd2,g2,hR2,hp2,u,hu1,hu2⟩ ⟨v,hv2⟩=>ih _ a2 (w2,g2) ?_ (by omega)
              exact hnext a2 (w2,g2) v hv2 hd2 hR2 (fun d' hd'=>by
                have:d'=d:=by rw [hdo] at hd'; exact (Option.some.inj hd').symm
                subst this; exact ⟨u,he2.at_ d' u hu1,hu2⟩) (hmonoR (w2,g2) (hRR _ _ _ hR2)) (fun k pre' post' hk=>by
                rw [hst0] at hk
                obtain ⟨rfl,rfl,rfl⟩:i=k∧pre=pre'∧post=post':=by simpa using hk
                exact fun _=>hp2) (fun Θ hd _ _=>by rw [hdo] at hd; cases hd) (hRR _ _ _ hR2)
            have hsti:StIS st (ancs ops.toList) i w':=by
              unfold StIS
              cases hst0:st with
              | none=>trivial
              | some x =>
                obtain ⟨k,pre,post⟩:=x
                refine ⟨fun hk=>(hst' k pre post hst0).1 (hanl k hk),fun hk=>(hst' k pre post hst0).2 ?_⟩
                have hkm:=(hst k pre post hst0).1
                rcases Nat.lt_or_ge k ops.size with hlt | hge
                · exact hnan k ops[k] (by simp [hlt]) hk
                · exfalso
                  have:(ancs ops.toList).getD k []=[]:=by
                    have hl:∀ (l:List Oper) (acc:List (List Nat)),(kX l acc).length=acc.length + l.length:=by
                      intro l; induction l with
                      | nil=>intro acc; rfl
                      | cons o l ihl=>intro acc; unfold kX; rw [ihl]; simp; omega
                    have:=hl ops.toList []
                    unfold ancs
                    rw [List.getD_eq_getElem?_getD,List.getElem?_eq_none (by rw [this]; simpa using hge)]; rfl
                  rw [this] at hk; cases hk
            obtain ⟨F,hbody,hhas⟩:=gQ hN (zW ops o) [] (hob w' hRw hsti (hPrI i h2)) ⟨hN,by simp [get]⟩ hsub1 hsub2
            refine dK ho hbody hhas hD' fun a2 w2 E2 he2 ⟨hd2,g2,hR2,u,hu1,hu2⟩ ⟨v,hv2⟩=>ih _ a2 (w2,g2) ?_ (by omega)
            exact hnext a2 (w2,g2) v hv2 hd2 hR2 (fun d' hd'=>by
              have:d'=d:=by rw [hdo] at hd'; exact (Option.some.inj hd').symm
              subst this; exact ⟨u,he2.at_ d' u hu1,hu2⟩) (hmonoR (w2,g2) (hRR _ _ _ hR2)) (fun k pre post hk=>fun e=>absurd e (hik k pre post hk)) (fun Θ hd _ _=>by rw [hdo] at hd; cases hd) (hRR _ _ _ hR2)
          | none =>
            rw [hdo] at hok
            rcases hok with ⟨pre,post,hst0,hob⟩ | ⟨Θ,hth,hik,hmo,hob⟩
            case inr =>
              have hsti:StIS st (ancs ops.toList) i w':=by
                unfold StIS
                cases hst0:st with
                | none=>trivial
                | some x =>
                  obtain ⟨k,pre,post⟩:=x
                  refine ⟨fun hk=>(hst' k pre post hst0).1 (hanl k hk),fun hk=>(hst' k pre post hst0).2 ?_⟩
                  have hkm:=(hst k pre post hst0).1
                  rcases Nat.lt_or_ge k ops.size with hlt | hge
                  · exact hnan k ops[k] (by simp [hlt]) hk
                  · exfalso
                    have:(ancs ops.toList).getD k []=[]:=by
                      have hl:∀ (l:List Oper) (acc:List (List Nat)),(kX l acc).length=acc.length + l.length:=by
                        intro l; induction l with
                        | nil=>intro acc; rfl
                        | cons o l ihl=>intro acc; unfold kX; rw [ihl]; simp; omega
                      have:=hl ops.toList []
                      unfold ancs
                      rw [List.getD_eq_getElem?_getD,List.getElem?_eq_none (by rw [this]; simpa using hge)]; rfl
                    rw [this] at hk; cases hk
              obtain ⟨F,hbody,hhas⟩:=gQ hN (zW ops o) [] (hob w' hRw hsti (hPrI i h2)) ⟨hN,by simp [get]⟩ hsub1 hsub2
              refine dK ho hbody hhas hD' fun a2 w2 E2 he2 ⟨hd2,g2,hR2,hp2⟩ ⟨v,hv2⟩=>ih _ a2 (w2,g2) ?_ (by omega)
              exact hnext a2 (w2,g2) v hv2 hd2 hR2 (fun d' hd'=>by rw [hdo] at hd'; cases hd') (hmonoR (w2,g2) (hRR _ _ _ hR2)) (fun k pre post hk=>fun e=>absurd e (hik k pre post hk)) (fun Θ' _ _ ht=>by rw [hth] at ht; obtain rfl:=Option.some.inj ht; exact hp2) (hRR _ _ _ hR2)
            obtain ⟨F,hbody,hhas⟩:=gQ hN (zW ops o) [] (hob w' hRw ((hst' i pre post hst0).2 h2)) ⟨hN,by simp [get]⟩ hsub1 hsub2
            refine dK ho hbody hhas hD' fun a2 w2 E2 he2 ⟨hd2,g2,hR2,hp2⟩ ⟨v,hv2⟩=>ih _ a2 (w2,g2) ?_ (by omega)
            exact hnext a2 (w2,g2) v hv2 hd2 hR2 (fun d' hd'=>by rw [hdo] at hd'; cases hd') (hmonoR (w2,g2) (hRR _ _ _ hR2)) (fun k pre' post' hk=>by
              rw [hst0] at hk
              obtain ⟨rfl,rfl,rfl⟩:i=k∧pre=pre'∧post=post':=by simpa using hk
              exact fun _=>hp2) (fun Θ _ hk _=>absurd rfl (hk i pre post hst0)) (hRR _ _ _ hR2)
  have hsz0:∀ i,i < ops.size→(Array.replicate ops.size false).getD i true=false:=by intro i hi; simp [Array.getD_eq_getD_getElem?,hi]
  refine key ops.size _ a0 ({ w with drawn:=w.drawn + 1 },g0) ⟨by simp,fun i _ hi=>hsz0 i hi,fun i o ho hl=>?_,ha0.size,hd0,hR0,fun i o d Ψ ho hl=>?_,fun s v hg _=>ha0.at_ s v hg,fun k pre post hk=>⟨fun hl=>?_,fun _=>(hst k pre post hk).2.1⟩,fun i _=>hPr0 i,fun i o Θ ho _ _ _ hl=>?_⟩ ?_
  · have:i < ops.size:=by have:=(List.getElem?_eq_some_iff.1 ho).1; simpa using this
    rw [hsz0 i this] at hl; cases hl
  · have:i < ops.size:=by have:=(List.getElem?_eq_some_iff.1 (hkt i o ho).1).1; simpa using this
    rw [hsz0 i this] at hl; cases hl
  · obtain ⟨_,_,_,_,o6,h6⟩:=hst k pre post hk
    rw [hsz0 k (Array.getElem?_eq_some_iff.1 h6).1] at hl; cases hl
  · have:i < ops.size:=by have:=(List.getElem?_eq_some_iff.1 (hkt i o ho).1).1; simpa using this
    rw [hsz0 i this] at hl; cases hl
  · exact Nat.le_trans (List.length_filter_le _ _) (by simp)
abbrev DRsS (P:Program) (r:Option Nat) (N:Nat) (ops:Array Oper) (D:List Deferred) (E:Env) (x0:World × G) (R:World × G→World × G→Prop) (R':Nat→World × G→World × G→Prop) (Pr:Nat→World × G→Prop) (st:Option (Nat × (World × G→Prop) × (World × G→Prop))):=DRsT P r N ops D E x0 R R' Pr st fun _=>none
theorem kM {F H:List (Nat × VPS G)→Prop} (hF:∀ Γ,F Γ→H Γ):∀ (l:List Oper) (i:Nat) (Γ:List (Nat × VPS G)),DRsT P r N ops D E x0 R R' Pr st th F l i Γ→DRsT P r N ops D E x0 R R' Pr st th H l i Γ
 | [],_,Γ,h=>hF Γ h
 | _ :: l,i,_,⟨Ψ,h1,h2⟩=>⟨Ψ,h1,kM hF l (i + 1) _ h2⟩
theorem wp_drawS {Kn Kr:Pd} {Ke:Nat→Pd} {w:World} (g0:G) {id:Nat} (hm:P.follows .mixedOrders=true) (m:Nat) (outs:List Nat) (hlook:kS ops m=true)
    (hRt:∀ a b c,R a b→R b c→R a c) (hRR:∀ i a b,R' i a b→R a b) (hR0:R (w,g0) ({ w with drawn:=w.drawn + 1 },g0))
    (hst:∀ k pre post,st=some (k,pre,post)→k < m∧pre ({ w with drawn:=w.drawn + 1 },g0)∧(∀ i a b,i ≠ k→pre a→R' i a b→pre b)∧(∀ i a b,i ≠ k→post a→R' i a b→post b)∧∃ o,ops[k]? = some o)
    (hPr0:∀ i,Pr i ({ w with drawn:=w.drawn + 1 },g0)) (hPr:∀ i j a b,i ≠ j→Pr i a→R' j a b→Pr i b)
    (h:DRsS P r N ops D E (w,g0) R R' Pr st (fun Γ=>∀ x',R (w,g0) x'→(∀ k pre post,st=some (k,pre,post)→post x')→OblS Γ E x' (fun F=>Ops P r N ops Kn (ops.toList.drop m) D F x'.1) outs []) (ops.toList.take m) 0 []) :
    Wp P r N (.region id ops true) Kn Ke Kr D E w :=
  zK7 (th:=fun _=>none) g0 hm m outs hlook hRt hRR hR0 hst hPr0 hPr (kM (fun Γ k x' h1 h2 _=>k x' h1 h2) _ _ _ h)
end draw
end
def Gms:List (Nat × VP)→List (Nat × VPS Bool)→Prop
 | [],[]=>True
 | p :: Γ,q :: Δ=>p.1=q.1∧(∀ v x,q.2 v x→p.2 v x.1)∧Gms Γ Δ
 | _,_=>False
theorem zP2 {s:Nat}:∀ {Γ:List (Nat × VP)} {Δ:List (Nat × VPS Bool)},Gms Γ Δ→(∀ q,Δ.find? (fun p=>Nat.beq p.1 s)=some q→∃ p,Γ.find? (fun p=>Nat.beq p.1 s)=some p∧∀ v x,q.2 v x→p.2 v x.1)∧(Δ.find? (fun p=>Nat.beq p.1 s)=none→Γ.find? (fun p=>Nat.beq p.1 s)=none)
 | [],[],_=>⟨fun q h=>(by cases h),fun _=>rfl⟩
 | p :: Γ,q :: Δ,⟨h1,h2,h3⟩=>by
  simp only [List.find?_cons,h1]
  cases Nat.beq q.1 s with
  | true=>exact ⟨fun q' h=>⟨p,rfl,by obtain rfl:=Option.some.inj h; exact h2⟩,fun h=>by cases h⟩
  | false=>exact zP2 h3
 | [],_ :: _,h=>h.elim
 | _ :: _,[],h=>h.elim
theorem rJ {E:Env} {Γ:List (Nat × VP)} {Δ:List (Nat × VPS Bool)} (hg:Gms Γ Δ) {x:World × Bool} {b b':Env→Prop} (hb:∀ F,b F→b' F):∀ (ss:List Nat) (F:Env),Obl Γ E x.1 b ss F→OblS Δ E x b' ss F
 | [],F,h=>hb F h
 | s :: ss,F,h=>by
  unfold Obl at h
  unfold OblS
  obtain ⟨h1,h2⟩:=zP2 (s:=s) hg
  cases hf:Δ.find? (fun p=>Nat.beq p.1 s) with
  | some q =>
   obtain ⟨p,h3,h4⟩:=h1 q hf
   rw [h3] at h
   exact fun v hv=>rJ hg hb ss _ (h v (h4 v x hv))
  | none =>
   rw [h2 hf] at h
   cases hE:get E s with
   | some v=>rw [hE] at h; exact rJ hg hb ss _ h
   | none=>rw [hE] at h; exact rJ hg hb ss _ h
section draw
variable {P : Program} {r : Option Nat} {N : Nat} {ops : Array Oper} {D : List Deferred} {E : Env} {R R' : World → World → Prop} {st : Option (Nat × (World → Prop) × (World → Prop))}
theorem lX {K K':Pd} {l:List Oper} {w:World} (h:Ops P r N ops K l D E w) (hk:∀ D' E' w',K D' E' w'→K' D' E' w'):Ops P r N ops K' l D E w:=fun a Q ha hD h1=>h a Q ha hD fun a' w' E' g1 g2=>h1 a' w' E' g1 (hk _ _ _ g2)
def RT (R R':World→World→Prop) (x y:World × Bool):Prop:=R x.1 y.1∧(x.2=true→y.2=true∧∀ Ψ:VP,(∀ v w w',Ψ v w→R' w w'→Ψ v w')→∀ v,Ψ v x.1→Ψ v y.1)
def RU (R R':World→World→Prop) (st:Option (Nat × (World→Prop) × (World→Prop))) (i:Nat) (x y:World × Bool):Prop:=(R' x.1 y.1∧y.2=x.2) ∨ (∃ t,st=some (i,t))∧R x.1 y.1∧x.2=false∧y.2=true
def stS (st:Option (Nat × (World→Prop) × (World→Prop))):Option (Nat × (World × Bool→Prop) × (World × Bool→Prop)):=st.map fun t=>(t.1,(fun x=>x.2=false∧t.2.1 x.1),fun x=>x.2=true∧t.2.2 x.1)
theorem yC0 {w:World} {F:List (Nat × VP)→Prop} {F':List (Nat × VPS Bool)→Prop} (hF:∀ Γ Δ,Gms Γ Δ→F Γ→F' Δ):∀ (l:List Oper) (i:Nat) (Γ:List (Nat × VP)) (Δ:List (Nat × VPS Bool)),Gms Γ Δ→DRs P r N ops D E w R R' st F l i Γ →
  DRsS P r N ops D E (w,false) (RT R R') (RU R R' st) (fun _ _=>True) (stS st) F' l i Δ
 | [],i,Γ,Δ,hg,h=>hF Γ Δ hg h
 | o :: l,i,Γ,Δ,hg,h=>by
  obtain ⟨Ψ,h1,h2⟩:=h
  unfold yD9 at h1
  unfold gam1 at h2
  unfold DRsS DRsT cG mQ
  cases ho:o.dst with
  | none =>
   rw [ho] at h1 h2
   obtain ⟨pre,post,e,h1⟩:=h1
   exact ⟨fun _ _=>True,.inl ⟨(fun x=>x.2=false∧pre x.1),(fun x=>x.2=true∧post x.1),by rw [e]; rfl,fun x hr hp=>rJ hg (fun F h=>lX h fun D' E' w' ⟨g1,g2,g3⟩=>⟨g1,true,.inr ⟨⟨_,e⟩,g2,hp.1,rfl⟩,rfl,g3⟩) _ _ (h1 x.1 hr.1 hp.2)⟩,yC0 hF l (i + 1) Γ Δ hg h2⟩
  | some d =>
   rw [ho] at h1 h2
   rcases h1 with ⟨a1,a2,a3⟩ | ⟨pre,post,e,a2,a3⟩
   ·refine ⟨fun v x=>Ψ v x.1,⟨fun v a b h r=>a2 v _ _ h r.1,.inl ⟨fun k pre post e=>?_,fun x hr hs _=>rJ hg (fun F h=>lX h fun D' E' w' ⟨g1,g2,g3⟩=>⟨g1,x.2,.inl ⟨g2,rfl⟩,g3⟩) _ _ (a3 x.1 hr.1 ?_)⟩⟩,yC0 hF l (i + 1) ((d,Ψ) :: Γ) ((d,fun v x=>Ψ v x.1) :: Δ) ⟨rfl,fun v x h=>h,hg⟩ h2⟩
    ·cases st with
     | none=>cases e
     | some t=>exact (Prod.mk.inj (Option.some.inj e)).1 ▸ a1 _ _ _ rfl
    ·cases st with
     | none=>trivial
     | some t=>exact ⟨fun h=>(hs.1 h).2,fun h=>(hs.2 h).2⟩
   ·exact ⟨fun v x=>x.2=true∧Ψ v x.1,⟨fun v a b ⟨k1,k2⟩ r=>⟨(r.2 k1).1,(r.2 k1).2 Ψ a2 v k2⟩,.inr ⟨(fun x=>x.2=false∧pre x.1),(fun x=>x.2=true∧post x.1),by rw [e]; rfl,fun x hr hp=>rJ hg (fun F h=>lX h fun D' E' w' ⟨g1,g2,g3,v,g4,g5⟩=>⟨g1,true,.inr ⟨⟨_,e⟩,g2,hp.1,rfl⟩,⟨rfl,g3⟩,v,g4,rfl,g5⟩) _ _ (a3 x.1 hr.1 hp.2)⟩⟩,yC0 hF l (i + 1) ((d,Ψ) :: Γ) ((d,fun v x=>x.2=true∧Ψ v x.1) :: Δ) ⟨rfl,fun v x h=>h.2,hg⟩ h2⟩
theorem lJ {Kn Kr:Pd} {Ke:Nat→Pd} {w:World} {id:Nat} (hm:P.follows .mixedOrders=true) (m:Nat) (outs:List Nat) (hlook:kS ops m=true)
    (hRt:∀ a b c,R a b→R b c→R a c) (hRR:∀ a b,R' a b→R a b) (hR0:R w { w with drawn:=w.drawn + 1 })
    (hst:∀ k pre post,st=some (k,pre,post)→k < m∧pre { w with drawn:=w.drawn + 1 }∧(∀ a b,pre a→R' a b→pre b)∧(∀ a b,post a→R' a b→post b)∧∃ o,ops[k]? = some o)
    (h:DRs P r N ops D E w R R' st (fun Γ=>∀ w',R w w'→(∀ k pre post,st=some (k,pre,post)→post w')→Obl Γ E w' (fun F=>Ops P r N ops Kn (ops.toList.drop m) D F w') outs []) (ops.toList.take m) 0 []) :
    Wp P r N (.region id ops true) Kn Ke Kr D E w:=by
  refine wp_drawS (R:=RT R R') (R':=RU R R' st) (Pr:=fun _ _=>True) (st:=stS st) false hm m outs hlook (fun a b c h k=>⟨hRt _ _ _ h.1 k.1,fun e=>⟨(k.2 (h.2 e).1).1,fun Ψ hΨ v hv=>(k.2 (h.2 e).1).2 Ψ hΨ v ((h.2 e).2 Ψ hΨ v hv)⟩⟩)
    (fun i a b h=>h.elim (fun ⟨h1,h2⟩=>⟨hRR _ _ h1,fun e=>⟨h2.trans e,fun Ψ hΨ v hv=>hΨ v _ _ hv h1⟩⟩) fun ⟨_,h1,h2,_⟩=>⟨h1,fun e=>by rw [h2] at e; cases e⟩) ⟨hR0,fun e=>by cases e⟩ (fun k pre post e=>?_) (fun _=>trivial) (fun _ _ _ _ _ _ _=>trivial)
    (yC0 (fun Γ Δ hg h x hr hp=>rJ hg (fun _ h=>h) _ _ (h x.1 hr.1 fun k pre post e=>(hp k (fun x=>x.2=false∧pre x.1) (fun x=>x.2=true∧post x.1) (by rw [e]; rfl)).2)) _ _ [] [] trivial h)
  cases st with
  | none=>cases e
  | some t =>
    obtain ⟨rfl,e2⟩:=Prod.mk.inj (Option.some.inj e)
    obtain ⟨rfl,rfl⟩:=Prod.mk.inj e2
    obtain ⟨h1,h2,h3,h4,h5⟩:=hst _ _ _ rfl
    exact ⟨h1,⟨rfl,h2⟩,fun i a b hi hp hr=>hr.elim (fun ⟨r1,r2⟩=>⟨r2.trans hp.1,h3 _ _ hp.2 r1⟩) fun ⟨⟨t',c⟩,_⟩=>(hi (Prod.mk.inj (Option.some.inj c)).1.symm).elim,fun i a b hi hp hr=>hr.elim (fun ⟨r1,r2⟩=>⟨r2.trans hp.1,h4 _ _ hp.2 r1⟩) fun ⟨⟨t',c⟩,_⟩=>(hi (Prod.mk.inj (Option.some.inj c)).1.symm).elim,h5⟩
end draw
end Go.SL
namespace Go.SL
open Go.RowKit
def Rb (a b:World):Prop:=Bel a.heap.size a b
theorem rb_trans:∀ a b c,Rb a b→Rb b c→Rb a c:=fun a b c h k=>h.trans (k.mono h.size)
theorem rb_self:∀ a b,Rb a b→Rb a b:=fun _ _ h=>h
theorem lU (w:World):Rb w { w with drawn:=w.drawn + 1 }:=⟨rfl,⟨rfl,by first | exact Nat.le_refl _ | exact Nat.le_succ _⟩,rfl,Nat.le_refl _,fun _ _=>rfl⟩
theorem xX (w:World):Rb w w:=Bel.refl _ _
theorem yB7 {u:Value} {R:World→World→Prop}:∀ v w w',Ex u v w→R w w'→Ex u v w':=fun _ _ _ h _=>h
section draw
variable {P : Program} {r : Option Nat} {N : Nat} {ops : Array Oper} {D : List Deferred} {E : Env} {w0 : World} {R R' : World → World → Prop} {st : Option (Nat × (World → Prop) × (World → Prop))}
variable {F : List (Nat × VP) → Prop} {rest : List Oper} {i : Nat} {Γ : List (Nat × VP)}
theorem aN (h:F Γ):DRs P r N ops D E w0 R R' st F [] i Γ:=h
theorem mX {d:Nat} {op:Op} {t:TypeId} {pos:String} {af:Array Edge} {g:Option (Nat × Bool)} (Ψ:VP) (hm:∀ v w w',Ψ v w→R w w'→Ψ v w')
  (ho:∀ w,R w0 w→StI none (ancs ops.toList) i w→Obl Γ E w (fun F=>Ops P r N ops (fun D' E' w'=>D'=D∧R' w w'∧∃ v,get E' d=some v∧Ψ v w') [⟨some d,op,t,pos,af,g⟩] D F w) (zW ops ⟨some d,op,t,pos,af,g⟩) [])
  (h:DRs P r N ops D E w0 R R' none F rest (i + 1) ((d,Ψ) :: Γ)):DRs P r N ops D E w0 R R' none F (⟨some d,op,t,pos,af,g⟩ :: rest) i Γ :=
 ⟨Ψ,.inl ⟨fun _ _ _ h=>(by cases h),hm,ho⟩,h⟩
theorem zP9 {k:Nat} {pre post:World→Prop} {d:Nat} {op:Op} {t:TypeId} {pos:String} {af:Array Edge} {g:Option (Nat × Bool)} (hi:Nat.beq i k=false) (Ψ:VP) (hm:∀ v w w',Ψ v w→R w w'→Ψ v w')
  (ho:∀ w,R w0 w→StI (some (k,pre,post)) (ancs ops.toList) i w→Obl Γ E w (fun F=>Ops P r N ops (fun D' E' w'=>D'=D∧R' w w'∧∃ v,get E' d=some v∧Ψ v w') [⟨some d,op,t,pos,af,g⟩] D F w) (zW ops ⟨some d,op,t,pos,af,g⟩) [])
  (h:DRs P r N ops D E w0 R R' (some (k,pre,post)) F rest (i + 1) ((d,Ψ) :: Γ)):DRs P r N ops D E w0 R R' (some (k,pre,post)) F (⟨some d,op,t,pos,af,g⟩ :: rest) i Γ :=
 ⟨Ψ,.inl ⟨fun k' _ _ h=>(by cases h; exact Nat.ne_of_beq_eq_false hi),hm,ho⟩,h⟩
theorem drs_chg {pre post:World→Prop} {d:Nat} {op:Op} {t:TypeId} {pos:String} {af:Array Edge} {g:Option (Nat × Bool)} (hs:st=some (i,pre,post)) (Ψ:VP) (hm:∀ v w w',Ψ v w→R' w w'→Ψ v w')
  (ho:∀ w,R w0 w→pre w→Obl Γ E w (fun F=>Ops P r N ops (fun D' E' w'=>D'=D∧R w w'∧post w'∧∃ v,get E' d=some v∧Ψ v w') [⟨some d,op,t,pos,af,g⟩] D F w) (zW ops ⟨some d,op,t,pos,af,g⟩) [])
  (h:DRs P r N ops D E w0 R R' st F rest (i + 1) ((d,Ψ) :: Γ)):DRs P r N ops D E w0 R R' st F (⟨some d,op,t,pos,af,g⟩ :: rest) i Γ :=
 ⟨Ψ,.inr ⟨pre,post,hs,hm,ho⟩,h⟩
theorem yC2 {op:Op} {t:TypeId} {pos:String} {af:Array Edge} {g:Option (Nat × Bool)} {pre post:World→Prop} (hs:st=some (i,pre,post))
  (ho:∀ w,R w0 w→pre w→Obl Γ E w (fun F=>Ops P r N ops (fun D' E' w'=>D'=D∧R w w'∧post w') [⟨none,op,t,pos,af,g⟩] D F w) (zW ops ⟨none,op,t,pos,af,g⟩) [])
  (h:DRs P r N ops D E w0 R R' st F rest (i + 1) Γ):DRs P r N ops D E w0 R R' st F (⟨none,op,t,pos,af,g⟩ :: rest) i Γ :=
 ⟨fun _ _=>True,⟨pre,post,hs,ho⟩,h⟩
theorem zP {u:Value} {d:Nat} {op:Op} {t:TypeId} {pos:String} {af:Array Edge} {g:Option (Nat × Bool)}
  (ho:∀ w,R w0 w→StI none (ancs ops.toList) i w→Obl Γ E w (fun F=>Ops P r N ops (fun D' E' w'=>D'=D∧R' w w'∧∃ v,get E' d=some v∧v=u) [⟨some d,op,t,pos,af,g⟩] D F w) (zW ops ⟨some d,op,t,pos,af,g⟩) [])
  (h:DRs P r N ops D E w0 R R' none F rest (i + 1) ((d,Ex u) :: Γ)):DRs P r N ops D E w0 R R' none F (⟨some d,op,t,pos,af,g⟩ :: rest) i Γ :=
 mX (Ex u) yB7 ho h
theorem xA {k:Nat} {pre post:World→Prop} {u:Value} {d:Nat} {op:Op} {t:TypeId} {pos:String} {af:Array Edge} {g:Option (Nat × Bool)} (hi:Nat.beq i k=false)
  (ho:∀ w,R w0 w→StI (some (k,pre,post)) (ancs ops.toList) i w→Obl Γ E w (fun F=>Ops P r N ops (fun D' E' w'=>D'=D∧R' w w'∧∃ v,get E' d=some v∧v=u) [⟨some d,op,t,pos,af,g⟩] D F w) (zW ops ⟨some d,op,t,pos,af,g⟩) [])
  (h:DRs P r N ops D E w0 R R' (some (k,pre,post)) F rest (i + 1) ((d,Ex u) :: Γ)):DRs P r N ops D E w0 R R' (some (k,pre,post)) F (⟨some d,op,t,pos,af,g⟩ :: rest) i Γ :=
 zP9 hi (Ex u) yB7 ho h
theorem zI {w:World} {body:Env→Prop} {F:Env} (h:body F):Obl Γ E w body [] F:=h
theorem zN {w:World} {body:Env→Prop} {F:Env} {s k:Nat} {ss:List Nat} {u:Value} (hf:Γ.find? (fun p=>Nat.beq p.1 s)=some (k,Ex u)) (h:Obl Γ E w body ss ((s,u) :: F)):Obl Γ E w body (s :: ss) F:=by
 unfold Obl; rw [hf]; rintro v rfl; exact h
theorem tX {w:World} {body:Env→Prop} {F:Env} {s k:Nat} {ss:List Nat} {Ψ:VP} (hf:Γ.find? (fun p=>Nat.beq p.1 s)=some (k,Ψ)) (h:∀ v,Ψ v w→Obl Γ E w body ss ((s,v) :: F)):Obl Γ E w body (s :: ss) F:=by
 unfold Obl; rw [hf]; exact h
theorem yL {w:World} {body:Env→Prop} {F:Env} {s:Nat} {ss:List Nat} {u:Value} (hf:Γ.find? (fun p=>Nat.beq p.1 s)=none) (hg:get E s=some u) (h:Obl Γ E w body ss ((s,u) :: F)):Obl Γ E w body (s :: ss) F:=by
 unfold Obl; rw [hf]; simp only; rw [hg]; exact h
end draw
structure Marks (M:Nat→Prop) (n:Nat) (D:List Deferred) (w:World):Prop where
 at_:∀ d ∈ D,∃ b,d.target = .collected b∧n≤b∧Rec M w b (.deferred (some []))
 apart:D.Pairwise fun d d'=>∀ b,d.target = .collected b→d'.target ≠ .collected b
theorem qM {M:Nat→Prop} {n:Nat} {w:World}:Marks M n [] w:=⟨by simp,.nil⟩
theorem Marks.mono {Fz M M':Nat→Prop} {n:Nat} {D:List Deferred} {w w':World} (h:Marks M n D w) (l:Le Fz M w M' w'):Marks M' n D w' :=
 ⟨fun d hd=>let ⟨b,h1,h2,h3⟩:=h.at_ d hd; ⟨b,h1,h2,h3.mono l⟩,h.apart⟩
theorem Marks.cons {M:Nat→Prop} {n b:Nat} {D:List Deferred} {w:World} (h:Marks M n D w) (hn:n≤b) (hr:Rec M w b (.deferred (some []))) (hb:∀ d ∈ D,d.target ≠ .collected b) :
    Marks M n ({ target:=.collected b,args:=#[] } :: D) w :=
  ⟨fun d hd => by rcases List.mem_cons.1 hd with rfl | hd
                  · exact ⟨b,rfl,hn,hr⟩
                  · exact h.at_ d hd,.cons (fun d hd c hc=>by cases hc; exact hb d hd) h.apart⟩
theorem Marks.old {M:Nat→Prop} {n b:Nat} {D:List Deferred} {w:World} (h:Marks M n D w) (hb:w.heap.size≤b):∀ d ∈ D,d.target ≠ .collected b:=by
 intro d hd hc
 obtain ⟨c,h1,_,h3⟩:=h.at_ d hd
 rw [h1] at hc; injection hc with hc; subst hc
 have:=(Array.getElem?_eq_some_iff.1 h3.at_).1; omega
theorem gA {M:Nat→Prop} {n:Nat}:∀ {D:List Deferred} {w:World} {K:World→Prop},Marks M n D w→(∀ w',Drift NoT n w w'→K w')→zR2 D w K
 | [],w,K,_,hk=>hk w (Drift.refl _ _ _)
 | d :: ds,w,K,h,hk=>by
  obtain ⟨b,h1,h2,h3⟩:=h.at_ d (by simp)
  have hp:=List.pairwise_cons.1 h.apart
  refine ⟨b,h1,h3.at_,gA (M:=M) (n:=n) ⟨fun d' hd'=>?_,hp.2⟩ fun w' hw'=>hk w' ((Drift.put h3.at_ (by simp) h2).trans hw')⟩
  obtain ⟨c,e1,e2,e3⟩:=h.at_ d' (by simp [hd'])
  have hne:c ≠ b:=fun e=>hp.1 d' hd' b h1 (by rw [e1,e])
  exact ⟨c,e1,e2,⟨by rw [World.putObj_heap_other hne]; exact e3.at_,e3.not⟩⟩
theorem fZ {l:Nat} {M:Nat→Prop} {w:World} (h:OkM M w) (hl:w.heap.size≤l):¬ M l:=fun c=>by have:=h l c; omega
theorem Keep.blk {M:Nat→Prop} {w0 w:World} {b:Nat} {t:TypeId} {cs:List Value} (h:Keep M w0 w) (hb:Blk w0 b t cs) (hm:¬ M b):Blk w b t cs:=(h.2 b hb.lt hm).trans hb
theorem Keep.nat {M:Nat→Prop} {w0 w:World} {v:Value} {xs:List Nat} (h:Keep M w0 w) (hn:IsNat M w0 v xs):IsNat M w v xs:=by
 refine ⟨?_,hn.lt⟩
 obtain ⟨h1,h2,ad,cap,h3,h4,h5⟩:=hn.slc
 refine ⟨h1,h2,ad,cap,h3,h4,?_⟩
 rcases h5 with h5 | ⟨b,off,h5,h6,cur,t,fz,h7,h8⟩
 ·exact .inl h5
 ·exact .inr ⟨b,off,h5,h6,cur,t,fz,(h.2 b (Array.getElem?_eq_some_iff.1 h7).1 h6).trans h7,h8⟩
theorem Keep.refl (M:Nat→Prop) (w:World):Keep M w w:=⟨Nat.le_refl _,fun _ _ _=>rfl⟩
theorem Keep.okM {M:Nat→Prop} {w0 w:World} (h:Keep M w0 w) (ho:OkM M w0):OkM M w:=fun k hk=>Nat.lt_of_lt_of_le (ho k hk) h.1
def yD8 (u:Value):VP:=fun p w=>∃ b o,p = .pointer (some ⟨b,o,none⟩)∧w.cell? ⟨b,o,none⟩=some u
theorem yD1 {w:World} {a:Addr} {u:Value} (h:w.cell? a=some u):a.block < w.heap.size:=by
 unfold World.cell? at h
 cases hb:w.heap[a.block]? with
 | none=>rw [hb] at h; simp at h
 | some o=>exact (Array.getElem?_eq_some_iff.1 hb).1
theorem ptr_mono {u:Value}:∀ v w w',yD8 u v w→Rb w w'→yD8 u v w':=fun v w w' ⟨b,o,h1,h2⟩ r =>
 ⟨b,o,h1,(World.cell?_of_block (w:=w) (a:=⟨b,o,none⟩) (r.block b (yD1 h2))).trans h2⟩
theorem yC1 {P:Program} {r:Option Nat} {N:Nat} {ops:Array Oper} {D:List Deferred} {E:Env} {w0:World} {R':World→World→Prop}
  {F:List (Nat × VP)→Prop} {rest:List Oper} {i:Nat} {Γ:List (Nat × VP)} {u:Value} {d:Nat} {op:Op} {t:TypeId} {pos:String} {af:Array Edge} {g:Option (Nat × Bool)}
  (ho:∀ w,Rb w0 w→StI none (ancs ops.toList) i w→Obl Γ E w (fun F=>Ops P r N ops (fun D' E' w'=>D'=D∧R' w w'∧∃ v,get E' d=some v∧∃ b o,v = .pointer (some ⟨b,o,none⟩)∧w'.cell? ⟨b,o,none⟩=some u) [⟨some d,op,t,pos,af,g⟩] D F w) (zW ops ⟨some d,op,t,pos,af,g⟩) [])
  (h:DRs P r N ops D E w0 Rb R' none F rest (i + 1) ((d,yD8 u) :: Γ)):DRs P r N ops D E w0 Rb R' none F (⟨some d,op,t,pos,af,g⟩ :: rest) i Γ :=
 mX (yD8 u) ptr_mono ho h
theorem gY {sz:Nat} {w:World} {e:TypeId} {v:Value} {m:Nat} {xs:List Value} (h:w.ownsRow 0 e sz v m xs):v.oneCell'=true:=by
 obtain ⟨_,⟨rfl,_⟩ | ⟨g,cap,cur,rfl,_⟩⟩:=h <;> rfl
theorem jY {M:Nat→Prop} {w:World} {v:Value} {xs:List Nat} (h:IsNat M w v xs):v.oneCell'=true:=by
 obtain ⟨⟨_,_,ad,cap,rfl,_⟩,_⟩:=h; rfl
theorem IsNat.one {M:Nat→Prop} {w:World} {v:Value} {xs:List Nat} (h:IsNat M w v xs):v.cells.toList=[v]:=by
 obtain ⟨⟨_,_,ad,cap,rfl,_⟩,_⟩:=h; rfl
theorem oM {P:Program} {r:Option Nat} {N:Nat} {all:Array Oper} {K:Pd} {D:List Deferred} {E:Env} {w:World} {rest:List Oper} {M:Nat→Prop} {d:Nat} {x y:Operand} {t e t':TypeId} {pos:String} {af:Array Edge} {sz bytes:Nat} {z:Value} {v u:Value} {n m:Nat} {xs news:List Value} (hd:Nat.blt d N=true)
  (ht:P.underlying t=some (.slice e)) (he:Sz P e sz bytes z) (hz:z.cells.size=sz) (hsz:Nat.blt 0 sz=true) (hx:ev E x=some v) (hy:ev E y=some u) (hown:w.ownsRow 0 e sz v n xs) (hu:Slc M w sz u m news) (h1:∀ u ∈ news,u.oneCell'=true)
  (hn:n + m≤140737488355328) (hb:(n + m) * bytes≤140737488355328)
  (h:∀ v' w',w'.ownsRow 0 e sz v' (n + m) (xs ++ news)→Gro w w' v.ownBlock→(v'.ownBlock=v.ownBlock ∨ v'.ownBlock=some w.heap.size)→Ops P r N all K rest D ((d,v') :: E) w') :
  Ops P r N all K (⟨some d,.call ⟨.builtin .append,#[x,y],#[t,t]⟩,t',pos,af,none⟩ :: rest) D E w:=by
 obtain ⟨v',w',r1,r2,r3,r4⟩:=eQ (P:=P) t t' e ht he hz (Nat.blt_eq ▸ hsz) hown hu h1 hn hb
 refine zZ hd (by intro c hc; cases hc) (fun ac ha=>?_) (h v' w' r2 r3 r4)
 simp only [execOp,resolve,invoke,builtin,Sem.run_bind,Sem.run_pure,Result.andThen,List.map_toArray,List.map_cons,List.map_nil,ha.ev hx,ha.ev hy]
 rw [r1]
end Go.SL
namespace Go.SL
open Go.RowKit
theorem yD4 {M:Nat→Prop} {w:World} {b:Nat} {t:TypeId} {cs:List Value} {xs:List Nat} (B:Blk w b t cs) (hm:¬ M b) (hc:cs=xs.map lw) (hl:xs.length≤9223372036854775807) (hlt:∀ x ∈ xs,x < 4294967296) :
  IsNat M w (.slice (some ⟨b,0,none⟩) xs.length xs.length) xs:=by
 subst hc
 exact ⟨B.slc hm (by simp) (fun j u hj=>hj) hl (Nat.le_refl _),hlt⟩
section
variable {P : Program} {r : Option Nat} {N : Nat} {all : Array Oper} {K : Pd} {D : List Deferred} {E : Env} {w : World} {rest : List Oper}
theorem ops_neg {d:Nat} {x:Operand} {t t':TypeId} {pos:String} {af:Array Edge} {a:Int} (hd:Nat.blt d N=true) (hx:ev E x=some (.int .i64 a)) (hb:-9223372036854775808 ≤ -a ∧ -a≤9223372036854775807)
  (h:Ops P r N all K rest D ((d,.int .i64 (-a)) :: E) w):Ops P r N all K (⟨some d,.unOp .neg t x,t',pos,af,none⟩ :: rest) D E w :=
 zZ hd (by intro c hc; cases hc) (fun ac ha=>by simp only [execOp,ha.ev hx,Op.unary,Op.intArith,Int.zero_sub,IntWalk.i64_in _ hb]; rfl) h
end
theorem slc_arg {w:World} {a:Addr} {n cap:Nat} {f:Nat→Value} (hn:n≤cap) (hc:cap≤9223372036854775807) (h:∀ i,i < n→w.cell? (a.add i)=some (f i)) :
  Slc (fun _=>False) w 1 (.slice (some a) n cap) n ((List.range n).map f):=by
 refine ⟨by simp,by omega,_,_,rfl,hn,?_⟩
 rcases Nat.eq_zero_or_pos n with h0 | h0
 ·exact .inl h0
 right
 have ha:=h 0 h0
 obtain ⟨b,off,spot⟩:=a
 have e0:(⟨b,off,spot⟩:Addr).add 0=⟨b,off,spot⟩:=rfl
 rw [e0] at ha
 unfold World.cell? at ha
 split at ha
 case h_2=>cases ha
 case h_1 cur t fz hb =>
  dsimp only at hb
  cases spot with
  | some s=>simp at ha
  | none =>
   refine ⟨b,off,rfl,fun h=>h,cur,t,fz,hb,fun j u hj=>?_⟩
   obtain ⟨hlt,rfl⟩:=List.getElem?_eq_some_iff.1 hj
   have hlt':j < n:=by simpa using hlt
   have:=h j hlt'
   rw [jE] at this
   simp only [World.cell?,hb] at this
   simpa using this
end Go.SL
namespace Go.SL
open Go.ChangeShapes Go.WideShapes Go.ChangeAt Go.RowKit Go.Deep
section
variable {H : Type} {enc : TypeId × Value → H} {P : Program} {W : World}
theorem vA:maxLen=9223372036854775807:=by decide
theorem yN2 {n:Int} (h:(Lit.int .u32 n).wf=true):lw n.toNat = .int .u32 n∧n.toNat < 4294967296:=by
 have h':0≤n∧n≤4294967295:=by simpa [Lit.wf,IntKind.min,IntKind.max,IntKind.signed,IntKind.bits] using h
 refine ⟨?_,by omega⟩
 rw [lw,Int.toNat_of_nonneg h'.1]
theorem nat_of_cells {a:Addr} {n cap:Nat} {Z:List Int} (hn:n≤cap) (hc:cap≤maxLen) (hz:n≤Z.length) (hw:∀ n ∈ Z,(Lit.int .u32 n).wf=true) (h:∀ i,i < n→W.cell? (a.add i)=some (.int .u32 (Z.getD i 0))) :
  IsNat (fun _=>False) W (.slice (some a) n cap) ((List.range n).map fun i=>(Z.getD i 0).toNat):=by
 rw [vA] at hc
 have hm:∀ i,i < n→Z.getD i 0 ∈ Z:=fun i hi=>by
  rw [List.getD_eq_getElem?_getD,List.getElem?_eq_getElem (show i < Z.length by omega)]; exact List.getElem_mem _
 constructor
 ·have:=slc_arg (f:=fun i=>lw (Z.getD i 0).toNat) hn hc (fun i hi=>by rw [(yN2 (hw _ (hm i hi))).1]; exact h i hi)
  simpa [List.map_map,Function.comp_def] using this
 ·intro x hx
  obtain ⟨i,hi,rfl⟩:=List.mem_map.1 hx
  exact (yN2 (hw _ (hm i (List.mem_range.1 hi)))).2
theorem iK (hl:laidOutB P=true) {W':World} (hb:Bel W.heap.size W W'):∀ {ts:List TypeId} {vs:List Value} {ds:List (DataW H)} {ps:List MemPlace},
  (∀ t ∈ ts,P.readableRec t=true∧t < P.types.size)→(∀ x ∈ ps,x.block < W.heap.size)→DataW.TrodAll enc P W 0 (fun _=>true) true ts vs ds ps →
  DataW.TrodAll enc P W' 0 (fun b=>decide (b < W.heap.size)) true ts vs ds ps
 | [],vs,ds,ps,ht,hp,h=>by
  obtain ⟨rfl,rfl,rfl⟩:=trodAll_nil h; exact trodAll_mk0
 | t :: ts,vs,ds,ps,ht,hp,h=>by
  obtain ⟨v,vs',d,ds',p,q,rfl,rfl,rfl,h1,h2⟩:=trodAll_cons h
  exact ⟨p,q,Below.trod hl (ht t (by simp)).1 (ht t (by simp)).2 h1 hb.b (fun x hx=>hp x (by simp [hx])),iK hl hb (fun t' h'=>ht t' (by simp [h'])) (fun x hx=>hp x (by simp [hx])) h2,rfl⟩
theorem law_post {f:Func} {s:ChangeSpec} {W':World} {args:Array Value} {ds gs:List (DataW H)} {before:List MemPlace} {tb:TypeId} (hl:laidOutB P=true) (hts:∀ t ∈ f.params.toList,P.readableRec t=true∧t < P.types.size)
  (hb:P.underlying tb=some .bool) (hrt:f.resultTypes=#[tb]) (hv:s.vars=[]) (hW:DataW.Whole enc P f.params.toList s.vars false W args.toList ds gs before)
  (hsr:(s.fn H ds).results=[.lit (.bool true)]) (hsa:(s.fn H ds).args=ds) (hsv:(s.fn H ds).vars=[]) (hg:Bel W.heap.size W W'):s.post enc P f false true false false W args (.bool true) W':=by
 have hlt:=hW.lt
 have hW':=hW
 obtain ⟨p,q,hA,hV,rfl,_,_⟩:=hW
 rw [hv] at hV
 obtain ⟨rfl,rfl⟩:=trodVars_none hV
 simp only [List.append_nil] at hlt hW' 
 refine ⟨ds,[],p,[],p,[],hW',?_,?_,?_,hg.b.frame _,fun h=>by cases h⟩
 ·rw [hrt,List.append_nil,hsr]
  exact trodAll_mk1 (shut_bool hb true)
 ·rw [List.append_nil,hsa]
  exact iK hl hg hts hlt hA
 ·rw [List.append_nil,hsv,hv]; exact rfl
end
end Go.SL
namespace Go.SL
def val:List Nat→Nat
 | []=>0
 | x :: r=>x + 4294967296 * val r
def limbs (n:Nat):List Nat:=if h:n=0 then [] else (n % 4294967296) :: limbs (n / 4294967296)
termination_by n
decreasing_by omega
theorem yB:limbs 0=[]:=by rw [limbs]; simp
theorem uK {n:Nat} (h:n ≠ 0):limbs n=(n % 4294967296) :: limbs (n / 4294967296):=by rw [limbs]; simp [h]
theorem zJ (n:Nat):val (limbs n)=n:=by
 induction n using Nat.strongRecOn with
 | _ n ih =>
  by_cases h:n=0
  ·subst h; rw [yB]; rfl
  ·rw [uK h]
   simp only [val]
   rw [ih _ (by omega)]
   omega
theorem yQ (n:Nat):∀ x ∈ limbs n,x < 4294967296:=by
 induction n using Nat.strongRecOn with
 | _ n ih =>
  by_cases h:n=0
  ·subst h; rw [yB]; simp
  ·rw [uK h]
   intro x hx
   rcases List.mem_cons.1 hx with rfl | hx
   ·omega
   ·exact ih _ (by omega) x hx
theorem jZ {n:Nat}:limbs n=[] ↔ n=0:=by
 constructor
 ·intro h
  by_cases hn:n=0
  ·exact hn
  ·rw [uK hn] at h; simp at h
 ·rintro rfl; exact yB
theorem zM {n:Nat}:(limbs n).length=0 ↔ n=0:=by rw [List.length_eq_zero_iff,jZ]
theorem yM:∀ (xs:List Nat),(∀ x ∈ xs,x < 4294967296)→val xs < 4294967296 ^ xs.length
 | [],_=>by simp [val]
 | x :: r,h=>by
  have h1:=yM r (fun y hy=>h y (by simp [hy]))
  have h2:=h x (by simp)
  simp only [val,List.length_cons,Nat.pow_succ]
  have:4294967296 * (val r + 1)≤4294967296 * 4294967296 ^ r.length:=Nat.mul_le_mul_left _ h1
  rw [Nat.mul_comm (4294967296 ^ r.length)]
  omega
theorem gO:∀ (xs ys:List Nat),val (xs ++ ys)=val xs + 4294967296 ^ xs.length * val ys
 | [],ys=>by simp [val]
 | x :: r,ys=>by
  simp only [List.cons_append,val,gO r ys,List.length_cons,Nat.pow_succ,Nat.mul_add]
  rw [← Nat.mul_assoc,Nat.mul_comm (4294967296 ^ r.length) 4294967296]
  omega
theorem qF (n:Nat):val (List.replicate n 0)=0:=by
 induction n with
 | zero=>rfl
 | succ n ih=>simp [List.replicate_succ,val,ih]
theorem uP:∀ (xs:List Nat),(∀ j,xs.getD j 0=0)→val xs=0
 | [],_=>rfl
 | x :: r,h=>by
  have h0:=h 0
  have h1:=uP r (fun j=>by have:=h (j + 1); simpa using this)
  simp at h0
  simp [val,h0,h1]
theorem eG {xs:List Nat} {n:Nat} (h:∀ j,n≤j→xs.getD j 0=0):val (xs.take n)=val xs:=by
 have e:xs=xs.take n ++ xs.drop n:=(List.take_append_drop n xs).symm
 have h1:val (xs.drop n)=0:=uP _ (fun j=>by have:=h (n + j) (by omega); simpa using this)
 have h2:val xs=val (xs.take n ++ xs.drop n):=congrArg val e
 rw [h2,gO,h1]; simp
theorem kY:∀ (xs:List Nat),xs ≠ []→xs.getD (xs.length - 1) 0 ≠ 0→0 < val xs
 | [],h,_=>absurd rfl h
 | [x],_,h=>by simp at h; simp [val]; omega
 | x :: y :: r,_,h=>by
  have:=kY (y :: r) (by simp) (by simpa using h)
  simp only [val] at this ⊢
  omega
theorem vB:∀ (xs:List Nat),(∀ x ∈ xs,x < 4294967296)→(xs=[] ∨ xs.getD (xs.length - 1) 0 ≠ 0)→limbs (val xs)=xs
 | [],_,_=>yB
 | x :: r,h,hl=>by
  have hx:=h x (by simp)
  have hr:r=[] ∨ r.getD (r.length - 1) 0 ≠ 0:=by
   cases r with
   | nil=>exact .inl rfl
   | cons y r =>
    right
    rcases hl with hl | hl
    ·simp at hl
    ·simpa using hl
  have ih:=vB r (fun y hy=>h y (by simp [hy])) hr
  have hpos:val (x :: r) ≠ 0:=by
   have:=kY (x :: r) (by simp) (by
    rcases hl with hl | hl
    ·simp at hl
    ·exact hl)
   omega
  rw [uK hpos]
  have e1:val (x :: r) % 4294967296=x:=by simp only [val]; omega
  have e2:val (x :: r) / 4294967296=val r:=by simp only [val]; omega
  rw [e1,e2,ih]
theorem dG {xs:List Nat} {n:Nat} (h:∀ x ∈ xs,x < 4294967296) (hn:n≤xs.length) (hz:∀ j,n≤j→xs.getD j 0=0) (hl:n=0 ∨ xs.getD (n - 1) 0 ≠ 0):xs.take n=limbs (val xs):=by
 rw [← eG hz]
 refine (vB _ (fun x hx=>h x (List.mem_of_mem_take hx)) ?_).symm
 rcases hl with hl | hl
 ·left; subst hl; simp
 ·right
  have:(xs.take n).length=n:=by simp [hn]
  rw [this]
  have hn0:0 < n:=by
   rcases Nat.eq_zero_or_pos n with h0 | h0
   ·subst h0; simp at hl; exfalso; have:=hz 0 (Nat.le_refl _); simp at this; exact hl this
   ·exact h0
  have e:(xs.take n).getD (n - 1) 0=xs.getD (n - 1) 0:=by
   simp only [List.getD_eq_getElem?_getD,List.getElem?_take]
   rw [if_pos (by omega)]
  rw [e]; exact hl
theorem zS {n k:Nat} (h:n < 4294967296 ^ k):(limbs n).length≤k:=by
 induction k generalizing n with
 | zero=>simp at h; subst h; simp [yB]
 | succ k ih =>
  by_cases hn:n=0
  ·subst hn; simp [yB]
  ·rw [uK hn]
   have:=ih (n:=n / 4294967296) (by rw [Nat.pow_succ] at h; exact Nat.div_lt_of_lt_mul (by rw [Nat.mul_comm]; exact h))
   simp only [List.length_cons]; omega
theorem zV (xs:List Nat) (h:∀ x ∈ xs,x < 4294967296):(limbs (val xs)).length≤xs.length:=zS (yM xs h)
theorem dQ {n:Nat} (h:limbs n ≠ []):(limbs n).getD ((limbs n).length - 1) 0 ≠ 0:=by
 induction n using Nat.strongRecOn with
 | _ n ih =>
  have hn:n ≠ 0:=fun e=>h (jZ.2 e)
  by_cases h2:n / 4294967296=0
  ·rw [uK hn,h2,yB]; simp; omega
  ·have:=ih (n / 4294967296) (by omega) (fun e=>h2 (jZ.1 e))
   rw [uK hn]
   have hl:0 < (limbs (n / 4294967296)).length:=by
    rcases Nat.eq_zero_or_pos (limbs (n / 4294967296)).length with h0 | h0
    ·exact absurd (zM.1 h0) h2
    ·exact h0
   have e:((n % 4294967296) :: limbs (n / 4294967296)).length - 1=((limbs (n / 4294967296)).length - 1) + 1:=by simp; omega
   rw [e]; simpa using this
theorem yS {xs:List Nat} {j:Nat} (h:xs.length≤j):xs.getD j 0=0:=by simp [h]
def uC (n:Nat):Nat:=if n < 18446744073709551616 then n else 0
theorem nN:∀ (xs:List Nat) (j:Nat),xs.getD j 0 ≠ 0→4294967296 ^ j≤val xs
 | [],j,h=>by simp at h
 | x :: r,0,h=>by simp at h; simp [val]; omega
 | x :: r,j + 1,h=>by
  have:=nN r j (by simpa using h)
  simp only [val,Nat.pow_succ]; omega
theorem fM {xs:List Nat} {j:Nat} (h:∀ x ∈ xs,x < 4294967296) (hj:2≤j) (h0:xs.getD j 0 ≠ 0):¬ val xs < 18446744073709551616:=by
 have h1:=nN xs j h0
 have h2:4294967296 ^ 2≤4294967296 ^ j:=Nat.pow_le_pow_right (by omega) hj
 have:(4294967296:Nat) ^ 2=18446744073709551616:=by decide
 omega
theorem yK {xs:List Nat} (h:∀ x ∈ xs,x < 4294967296) (j:Nat):xs.getD j 0 < 4294967296:=by
 rcases Nat.lt_or_ge j xs.length with hj | hj
 ·have:xs.getD j 0=xs[j]:=by simp [hj]
  rw [this]; exact h _ (List.getElem_mem hj)
 ·rw [yS hj]; omega
theorem tH {xs:List Nat} (h:∀ x ∈ xs,x < 4294967296) (hz:∀ j,2≤j→xs.getD j 0=0):val xs < 18446744073709551616∧val xs=xs.getD 0 0 + 4294967296 * xs.getD 1 0:=by
 have e:val xs=xs.getD 0 0 + 4294967296 * xs.getD 1 0:=by
  cases xs with
  | nil=>simp [val]
  | cons x r=>cases r with
   | nil=>simp [val]
   | cons y r =>
    have:val r=0:=uP r (fun j=>by have:=hz (j + 2) (by omega); simpa using this)
    simp [val,this]
 have h0:=yK h 0
 have h1:=yK h 1
 omega
theorem yH3 (a b:Nat) (hb:b < 4294967296):a * 4294967296 ||| b=a * 4294967296 + b:=by
 have:=Nat.shiftLeft_add_eq_or_of_lt (a:=a) (b:=b) (i:=32) (by simpa using hb)
 simpa [Nat.shiftLeft_eq] using this.symm
def cmpN (a b:Nat):Int:=if a < b then -1 else if b < a then 1 else 0
theorem zJ7 {a b:Nat} (h:a < b):cmpN a b = -1:=by simp [cmpN,h]
theorem zJ8 {a b:Nat} (h:b < a):cmpN a b=1:=by simp [cmpN,h,Nat.not_lt.2 (Nat.le_of_lt h)]
theorem zJ9 {a b:Nat} (h:a=b):cmpN a b=0:=by simp [cmpN,h]
theorem aP:∀ {xs ys:List Nat},(∀ j,xs.getD j 0=ys.getD j 0)→val xs=val ys
 | [],ys,h=>by rw [uP ys (fun j=>by rw [← h j]; simp)]; rfl
 | x :: r,[],h=>by rw [uP (x :: r) (fun j=>by rw [h j]; simp)]; rfl
 | x :: r,y :: q,h=>by
  have h0:=h 0
  have h1:=aP (xs:=r) (ys:=q) (fun j=>by have:=h (j + 1); simpa using this)
  simp at h0
  simp [val,h0,h1]
theorem kH:∀ {xs ys:List Nat} {j:Nat},(∀ x ∈ xs,x < 4294967296)→(∀ x ∈ ys,x < 4294967296)→xs.getD j 0 < ys.getD j 0→(∀ i,j < i→xs.getD i 0=ys.getD i 0)→val xs < val ys
 | [],ys,j,_,_,h,_=>by
  have h0:([]:List Nat).getD j 0=0:=by simp
  have:=nN ys j (by omega)
  have:0 < 4294967296 ^ j:=Nat.pow_pos (by omega)
  simp [val]; omega
 | x :: r,[],j,_,_,h,_=>by simp at h
 | x :: r,y :: q,0,_,_,h,hz=>by
  have:val r=val q:=aP (fun i=>by have:=hz (i + 1) (by omega); simpa using this)
  simp at h; simp [val,this]; omega
 | x :: r,y :: q,j + 1,hx,hy,h,hz=>by
  have:=kH (xs:=r) (ys:=q) (j:=j) (fun z hz=>hx z (by simp [hz])) (fun z hz=>hy z (by simp [hz])) (by simpa using h) (fun i hi=>by have:=hz (i + 1) (by omega); simpa using this)
  have h1:=hx x (by simp)
  simp only [val]; omega
def xI (xs ys:List Nat):List (Nat × Nat):=(List.range (max xs.length ys.length)).map fun i=>(xs.getD i 0,ys.getD i 0)
theorem map_take_range {α:Type} (f:Nat→α) {n s:Nat} (h:s < n):(((List.range n).map f).take (s + 1))=((List.range n).map f).take s ++ [f s]∧(List.range n).map f=((List.range n).map f).take s ++ f s :: ((List.range n).map f).drop (s + 1):=by
 have hl:s < ((List.range n).map f).length:=by simpa using h
 have e:((List.range n).map f)[s]=f s:=by simp
 constructor
 ·rw [List.take_succ_eq_append_getElem hl,e]
 ·have:=List.take_append_drop s ((List.range n).map f)
  rw [List.drop_eq_getElem_cons hl,e] at this
  exact this.symm
theorem rC {xs ys:List Nat} {s:Nat} (h:s < max xs.length ys.length):(xI xs ys).take (s + 1)=(xI xs ys).take s ++ [(xs.getD s 0,ys.getD s 0)]∧xI xs ys=(xI xs ys).take s ++ (xs.getD s 0,ys.getD s 0) :: (xI xs ys).drop (s + 1):=map_take_range _ h
theorem tP {xs ys:List Nat} {s:Nat} (h:max xs.length ys.length≤s):(xI xs ys).take s=xI xs ys:=List.take_of_length_le (by simpa [xI] using h)
theorem iJ (f:Nat→Nat):∀ (n:Nat) (xs:List Nat),(∀ j,j < n→f j=xs.getD j 0)→(∀ j,n≤j→xs.getD j 0=0)→val ((List.range n).map f)=val xs:=by
 intro n xs h hz
 refine aP fun j=>?_
 rcases Nat.lt_or_ge j n with hj | hj
 ·have:((List.range n).map f).getD j 0=f j:=by simp [hj]
  rw [this,h j hj]
 ·rw [yS (by simpa using hj),hz j hj]
theorem bW (xs ys:List Nat):val ((xI xs ys).map (·.1))=val xs:=by
 unfold xI; rw [List.map_map]
 exact iJ _ _ xs (fun j _=>rfl) (fun j hj=>yS (by omega))
theorem bV (xs ys:List Nat):val ((xI xs ys).map (·.2))=val ys:=by
 unfold xI; rw [List.map_map]
 exact iJ _ _ ys (fun j _=>rfl) (fun j hj=>yS (by omega))
theorem zN0 {xs ys:List Nat} (hx:∀ x ∈ xs,x < 4294967296) (hy:∀ x ∈ ys,x < 4294967296):∀ p ∈ xI xs ys,p.1 < 4294967296∧p.2 < 4294967296:=by
 intro p hp
 obtain ⟨i,_,rfl⟩:=List.mem_map.1 hp
 exact ⟨yK hx i,yK hy i⟩
theorem uV (xs ys:List Nat):(xI xs ys).length=max xs.length ys.length:=by simp [xI]
theorem qR (xs:List Nat) (x:Nat):val (xs ++ [x])=val xs + 4294967296 ^ xs.length * x:=by rw [gO]; simp [val]
theorem zR0 {zs:List Nat} {pre:List (Nat × Nat)} {c x y:Nat} (hz:zs.length=pre.length) (h:val zs + 4294967296 ^ zs.length * c=val (pre.map (·.1)) + val (pre.map (·.2))) :
  val (zs ++ [(c + (x + y)) % 4294967296]) + 4294967296 ^ (zs ++ [(c + (x + y)) % 4294967296]).length * ((c + (x + y)) / 4294967296)=val ((pre ++ [(x,y)]).map (·.1)) + val ((pre ++ [(x,y)]).map (·.2)):=by
 simp only [List.map_append,List.map_cons,List.map_nil,qR,List.length_append,List.length_cons,List.length_nil,List.length_map,Nat.pow_succ,hz]
 rw [hz] at h
 generalize 4294967296 ^ pre.length=B at *
 have e:=Nat.div_add_mod (c + (x + y)) 4294967296
 generalize (c + (x + y)) / 4294967296=q at *
 generalize (c + (x + y)) % 4294967296=r at *
 have e2:B * (4294967296 * q + r)=B * (c + (x + y)):=by rw [e]
 simp only [Nat.mul_add] at e2 h ⊢
 rw [Nat.mul_assoc B 4294967296 q]
 omega
def subD (x y c:Nat):Nat:=((x + (18446744073709551616 - y)) % 18446744073709551616 + (18446744073709551616 - c)) % 18446744073709551616
theorem zW9 {x y c:Nat} (hx:x < 4294967296) (hy:y < 4294967296) (hc:c≤1):subD x y c % 4294967296 + y + c=x + 4294967296 * (subD x y c / 9223372036854775808)∧subD x y c / 9223372036854775808≤1∧subD x y c < 18446744073709551616:=by
 unfold subD; omega
theorem sub_step {zs:List Nat} {pre:List (Nat × Nat)} {c c' x y z:Nat} (hz:zs.length=pre.length) (h:val zs + val (pre.map (·.2)) + 4294967296 ^ zs.length * c=val (pre.map (·.1)) + 4294967296 ^ zs.length * (2 * c)) (hs:z + y + c=x + 4294967296 * c') :
  val (zs ++ [z]) + val ((pre ++ [(x,y)]).map (·.2)) + 4294967296 ^ (zs ++ [z]).length * c'=val ((pre ++ [(x,y)]).map (·.1)) + 4294967296 ^ (zs ++ [z]).length * (2 * c'):=by
 simp only [List.map_append,List.map_cons,List.map_nil,qR,List.length_append,List.length_cons,List.length_nil,List.length_map,Nat.pow_succ,hz] at h ⊢
 generalize 4294967296 ^ pre.length=B at *
 have e2:B * (z + y + c)=B * (x + 4294967296 * c'):=by rw [hs]
 simp only [Nat.mul_add] at e2
 have e3:B * (2 * c)=B * c + B * c:=by rw [Nat.two_mul,Nat.mul_add]
 have e4:B * 4294967296 * (2 * c')=B * (4294967296 * c') + B * (4294967296 * c'):=by rw [Nat.two_mul,Nat.mul_add,Nat.mul_assoc]
 rw [Nat.mul_assoc B 4294967296 c',e4]
 omega
theorem zW8 {zs:List Nat} {a b c:Nat} (hl:∀ z ∈ zs,z < 4294967296) (h:val zs + b + 4294967296 ^ zs.length * c=a + 4294967296 ^ zs.length * (2 * c)) (hc:c≤1) (hab:b≤a):val zs=a - b:=by
 have h1:=yM zs hl
 rcases Nat.lt_or_ge c 1 with h2 | h2
 ·obtain rfl:c=0:=by omega
  simp at h; omega
 ·obtain rfl:c=1:=by omega
  simp only [Nat.mul_one] at h; omega
theorem qY {a b:Nat}:cmpN a b < 0 ↔ a < b:=by
 unfold cmpN; split
 ·simp [*]
 ·split <;> simp <;> omega
theorem kU {xs:List Nat} {s:Nat} (h:s < xs.length):val (xs.drop s)=xs.getD s 0 + 4294967296 * val (xs.drop (s + 1)):=by
 rw [List.drop_eq_getElem_cons h]; simp [val,h]
theorem small_len {xs:List Nat} (h:(limbs (val xs)).length≤2):val xs < 18446744073709551616:=by
 have:=yM (limbs (val xs)) (yQ _)
 rw [zJ] at this
 have h2:4294967296 ^ (limbs (val xs)).length≤4294967296 ^ 2:=Nat.pow_le_pow_right (by omega) h
 have h3:(4294967296:Nat) ^ 2=18446744073709551616:=by decide
 omega
theorem yD6 {xs:List Nat} (h:2 < (limbs (val xs)).length):¬ val xs < 18446744073709551616:=by
  intro hc
  have:=zS (n:=val xs) (k:=2) (by have h3:(4294967296:Nat) ^ 2=18446744073709551616:=(by decide); omega)
  omega
theorem xE {xs:List Nat} {k:Nat}:val (xs.take (k + 1))=val (xs.take k) + 4294967296 ^ k * xs.getD k 0:=by
 rcases Nat.lt_or_ge k xs.length with h | h
 ·rw [List.take_succ_eq_append_getElem h,qR]
  simp [h,Nat.min_eq_left (Nat.le_of_lt h)]
 ·rw [List.take_of_length_le (by omega),List.take_of_length_le h,yS h]; simp
theorem rsub_step {zs xs ys:List Nat} {k c c' z:Nat} (hz:zs.length=k) (h:val zs + val (ys.take k) + 4294967296 ^ zs.length * c=val (xs.take k) + 4294967296 ^ zs.length * (2 * c)) (hs:z + ys.getD k 0 + c=xs.getD k 0 + 4294967296 * c') (hc:c'≤1) :
  val (zs ++ [z]) + val (ys.take (k + 1)) + 4294967296 ^ (zs ++ [z]).length * c'=val (xs.take (k + 1)) + 4294967296 ^ (zs ++ [z]).length * (2 * c'):=by
 simp only [xE,qR,List.length_append,List.length_cons,List.length_nil,Nat.pow_succ,hz] at h ⊢
 generalize 4294967296 ^ k=B at *
 have e2:B * (z + ys.getD k 0 + c)=B * (xs.getD k 0 + 4294967296 * c'):=by rw [hs]
 simp only [Nat.mul_add] at e2
 have e3:B * (2 * c)=B * c + B * c:=by rw [Nat.two_mul,Nat.mul_add]
 have e4:B * 4294967296 * (2 * c')=B * (4294967296 * c') + B * (4294967296 * c'):=by rw [Nat.two_mul,Nat.mul_add,Nat.mul_assoc]
 rw [Nat.mul_assoc B 4294967296 c',e4]
 omega
theorem val_take_le {xs ys:List Nat} (h:∀ x ∈ xs,x < 4294967296) (hle:val ys≤val xs):val (ys.take xs.length)=val ys:=by
 refine eG fun j hj=>?_
 apply Classical.byContradiction
 intro hc
 have h1:=nN ys j hc
 have h2:=yM xs h
 have h3:4294967296 ^ xs.length≤4294967296 ^ j:=Nat.pow_le_pow_right (by omega) hj
 omega
theorem jM {xs:List Nat} {k:Nat} (h:∀ x ∈ xs,x < 4294967296) (hk:xs.length≤k):val xs < 4294967296 ^ k :=
 Nat.lt_of_lt_of_le (yM xs h) (Nat.pow_le_pow_right (by omega) hk)
theorem nK {a b k:Nat} (ha:a < 4294967296 ^ k) (hb:b < 4294967296 ^ k):(limbs (a + b)).length≤k + 1:=by
 refine zS ?_
 rw [Nat.pow_succ]; omega
end Go.SL
namespace Go.SL
open Go.RowKit
section zero
variable {P : Program} {w : World}
theorem run_append_zero (t ty tz e:TypeId) {bytes:Nat} {z:Value} (ht:P.underlying t=some (.slice e)) (htz:P.underlying tz=some (.int .i64)) (he:Sz P e 1 bytes z) (hz:z.oneCell'=true)
  {v:Value} {n m:Nat} {xs:List Value} (hown:w.ownsRow 0 e 1 v n xs) (hm:m≤1000000) (hn:n + m≤140737488355328) (hb:(n + m) * bytes≤140737488355328) :
  ∃ v' w',(Builtin.append_ #[t,tz] ty #[v,.int .i64 (m:Int)]).run P w = .ok v' w'∧w'.ownsRow 0 e 1 v' (n + m) (xs ++ List.replicate m z)∧Gro w w' v.ownBlock∧(v'.ownBlock=v.ownBlock ∨ v'.ownBlock=some w.heap.size):=by
 obtain ⟨i,i1,i2,i3,i4⟩:=he
 have hzc:z.cells=#[z]:=by cases z <;> first | rfl | simp [Value.oneCell'] at hz
 have h63:n + m≤maxLen:=by simp [maxLen]; omega
 have hwr:IntKind.i64.wrap (m:Int)=(m:Int):=IntWalk.i64_in _ (by omega)
 have hmb0:m * bytes≤(n + m) * bytes:=Nat.mul_le_mul_right _ (by omega)
 have hmb:¬ (281474976710656 < (m:Int) * (i.bytes:Int)):=by
  rw [i3]
  have:((m * bytes:Nat):Int)≤140737488355328:=by omega
  rw [Int.natCast_mul] at this; omega
 have hneg:¬ ((m:Int) < 0):=by omega
 have hzs:Builtin.zeroCells z.cells m=(List.replicate m z).toArray:=by
  unfold Builtin.zeroCells
  rw [hzc]; apply Array.ext
  ·simp
  ·intro a b1 b2; simp [Nat.mod_one]
 have hnl:(xs ++ List.replicate m z).length=(n + m) * 1:=by rw [List.length_append,hown.1,List.length_replicate]; omega
 have h1:∀ u ∈ List.replicate m z,u.oneCell'=true:=fun u hu=>by rw [(List.mem_replicate.1 hu).2]; exact hz
 have grown:∀ (old:Nat),old < n + m→∀ (row:Option Nat),
   (w.drew.alloc (.cells (xs.toArray ++ (List.replicate m z).toArray ++ Builtin.zeroCells z.cells (grownCap w (n + m) old e - (n + m))) e)).ownsRow 0 e 1
    (.slice (some ⟨w.heap.size,0,none⟩) (n + m) (grownCap w (n + m) old e)) (n + m) (xs ++ List.replicate m z) ∧
   Gro w (w.drew.alloc (.cells (xs.toArray ++ (List.replicate m z).toArray ++ Builtin.zeroCells z.cells (grownCap w (n + m) old e - (n + m))) e)) row:=by
  intro old ho row
  have hge:=grownCap_ge w (n + m) old e
  have hcm:grownCap w (n + m) old e≤maxLen:=grownCap_le_maxLen w (n + m) old e h63
  refine ⟨⟨hnl,.inr ⟨w.heap.size,_,_,rfl,Nat.zero_le _,heap_alloc_new w.drew _,hge,hcm,?_,?_⟩⟩,⟨⟨rfl,rfl,rfl,by simp,fun k hk _=>heap_alloc_old w.drew _ k hk⟩,Nat.le_succ _⟩⟩
  ·have:=hown.1
   simp only [Array.size_append,List.size_toArray,size_zeroCells,hzc,List.length_replicate]
   simp at *; omega
  ·simp only [Array.toList_append,List.append_assoc]
   rw [← List.append_assoc]
   exact List.take_left' (by omega)
 rcases hown.2 with ⟨rfl,rfl⟩ | ⟨g,cap,cur,rfl,hbg,hg,hnc,hcm,hcs,htake⟩
 ·have hx:xs=[]:=List.eq_nil_of_length_eq_zero (by simpa using hown.1)
  subst hx
  by_cases hm0:m=0
  ·subst hm0
   refine ⟨.slice none 0 0,w,?_,by simpa using World.ownsRow_nil w 0 e 1,⟨⟨rfl,rfl,rfl,Nat.le_refl _,fun _ _ _=>rfl⟩,Nat.le_refl _⟩,Or.inl rfl⟩
   simp [Builtin.append_,run_underlying ht,run_underlying htz,sizeOf,typeInfo,i1,asInt,asIntOf,IntKind.wrap_i64]
  ·have hgr:=grown 0 (by omega) (Value.ownBlock (.slice none 0 0))
   simp only [Nat.zero_add,List.nil_append] at hgr
   refine ⟨.slice (some ⟨w.heap.size,0,none⟩) m (grownCap w m 0 e),_,?_,by simpa using hgr.1,hgr.2,Or.inr rfl⟩
   have h63':¬ (9223372036854775807 < (m:Int)):=by omega
   have h48':¬ (281474976710656 < Builtin.nextslicecap m 0 * i.bytes):=by
    have:=growslice_fits (need:=m) (old:=0) (by omega) (show m * i.bytes≤140737488355328 by rw [i3]; omega); omega
   have hfo:(Builtin.firstCells 1 0 (Value.slice none 0 0)).run P w.drew = .ok #[] w.drew:=rfl
   simp [Builtin.append_,run_underlying ht,run_underlying htz,sizeOf,typeInfo,zeroValue,i1,i2,i4,asInt,asIntOf,hwr,hmb,hneg,h63',h48',hm0,Question.forced,hfo,hzs,newRow,grownCap]
 ·by_cases hroom:n + m≤cap
  ·have hfit:n * 1 + (List.replicate m z).length≤cur.size:=by rw [hcs,List.length_replicate]; omega
   have hst:=run_storeCells_at P g (n * 1) e (List.replicate m z) 0 cur w hg (by simpa using hfit) h1
   simp only [Nat.add_zero,Nat.mul_one] at hst
   refine ⟨.slice (some ⟨g,0,none⟩) (n + m) cap,_,?_,⟨hnl,.inr ⟨g,cap,_,rfl,hbg,setRow_heap w g cur (cur.toList.take n ++ List.replicate m z ++ cur.toList.drop (n + (List.replicate m z).length)).toArray e _ hg,hroom,hcm,?_,?_⟩⟩,⟨⟨rfl,rfl,rfl,by simp,fun k _ hk=>setRow_other w g k _ (fun e=>hk (by simp [Value.ownBlock,e]))⟩,Nat.le_refl _⟩,Or.inl rfl⟩
   ·by_cases hm0:m=0
    ·subst hm0
     simp only [List.replicate_zero] at hst ⊢
     have hs0:w.setRow g (cur.toList.take n ++ [] ++ cur.toList.drop (n + ([]:List Value).length)).toArray=w:=by
      simp only [List.append_nil,List.length_nil,Nat.add_zero,List.take_append_drop,Array.toArray_toList]
      exact setRow_self w g cur e (0,0) hg
     rw [hs0]
     simp [Builtin.append_,run_underlying ht,run_underlying htz,sizeOf,typeInfo,i1,asInt,asIntOf,IntKind.wrap_i64,hnc,storeCells]
    ·simp [Builtin.append_,run_underlying ht,run_underlying htz,sizeOf,typeInfo,zeroValue,i1,i2,i4,asInt,asIntOf,hwr,hmb,hneg,hm0,hzs,hroom,Addr.add_lit,hst]
   ·simp only [List.size_toArray,List.length_append,List.length_take,List.length_drop,Array.length_toList,List.length_replicate]
    omega
   ·have h2:=hown.1
    simp only [Nat.mul_one] at htake
    rw [htake]
    exact List.take_left' (by omega)
  ·have hm0:¬ m=0:=by omega
   have holds:∀ j u,xs[j]? = some u→w.cell? ((⟨g,0,none⟩:Addr).add j)=some u:=hown.cells (g:=g) rfl
   have hgr:=grown cap (by omega) (Value.ownBlock (.slice (some ⟨g,0,none⟩) n cap))
   refine ⟨_,_,?_,hgr.1,hgr.2,Or.inr rfl⟩
   have h63':¬ (9223372036854775807 < ((n:Int) + (m:Int))):=by omega
   have h48':¬ (281474976710656 < Builtin.nextslicecap (n + m) cap * i.bytes):=by
    have:=growslice_fits (need:=n + m) (old:=cap) (by omega) (show (n + m) * i.bytes≤140737488355328 by rw [i3]; omega); omega
   have hfo:=run_firstCells_some (P:=P) w.drew 1 n ⟨g,0,none⟩ n cap xs hown.1 (by simpa using holds)
   simp [Builtin.append_,run_underlying ht,run_underlying htz,sizeOf,typeInfo,zeroValue,i1,i2,i4,asInt,asIntOf,hwr,hmb,hneg,hm0,hroom,h63',h48',Question.forced,hfo,hzs,newRow,grownCap]
variable {r : Option Nat} {N : Nat} {all : Array Oper} {K : Pd} {D : List Deferred} {E : Env} {rest : List Oper}
theorem ops_append0 {d:Nat} {x y:Operand} {t tz e t':TypeId} {pos:String} {af:Array Edge} {bytes:Nat} {z:Value} {v:Value} {n m:Nat} {j:Int} {xs:List Value} (hd:Nat.blt d N=true)
  (ht:P.underlying t=some (.slice e)) (htz:P.underlying tz=some (.int .i64)) (he:Sz P e 1 bytes z) (hz:z.oneCell'=true) (hx:ev E x=some v) (hy:ev E y=some (.int .i64 j)) (hj:j=(m:Int)) (hown:w.ownsRow 0 e 1 v n xs)
  (hm:m≤1000000) (hn:n + m≤140737488355328) (hb:(n + m) * bytes≤140737488355328)
  (h:∀ v' w',w'.ownsRow 0 e 1 v' (n + m) (xs ++ List.replicate m z)→Gro w w' v.ownBlock→(v'.ownBlock=v.ownBlock ∨ v'.ownBlock=some w.heap.size)→Ops P r N all K rest D ((d,v') :: E) w') :
  Ops P r N all K (⟨some d,.call ⟨.builtin .append,#[x,y],#[t,tz]⟩,t',pos,af,none⟩ :: rest) D E w:=by
 subst hj
 obtain ⟨v',w',r1,r2,r3,r4⟩:=run_append_zero (P:=P) t t' tz e ht htz he hz hown hm hn hb
 refine zZ hd (by intro c hc; cases hc) (fun ac ha=>?_) (h v' w' r2 r3 r4)
 simp only [execOp,resolve,invoke,builtin,Sem.run_bind,Sem.run_pure,Result.andThen,List.map_toArray,List.map_cons,List.map_nil,ha.ev hx,ha.ev hy]
 rw [r1]
end zero
section notd
variable {P : Program} {r : Option Nat} {N : Nat} {all : Array Oper} {K : Pd} {D : List Deferred} {E : Env} {w : World} {rest : List Oper}
end notd
theorem limbs2 {n:Nat} (h:n < 18446744073709551616):(limbs n).length≤2:=zS (Nat.lt_of_lt_of_eq h (by decide))
theorem val_pad (n k:Nat):val (limbs n ++ List.replicate k 0)=n:=by rw [gO,qF,zJ]; simp
structure OwnB (w:World) (e:TypeId) (b:Nat) (v:Value) (n:Nat) (cs cur:List Value) (cap:Nat):Prop where
 eq:v = .slice (some ⟨b,0,none⟩) n cap
 blk:Blk w b e cur
 le:n≤cap
 max:cap≤maxLen
 len:cur.length=cap
 take:cur.take n=cs
 csl:cs.length=n
theorem OwnB.own {w:World} {e:TypeId} {b n cap:Nat} {v:Value} {cs cur:List Value} (h:OwnB w e b v n cs cur cap):v.ownBlock=some b:=by rw [h.eq]; rfl
theorem OwnB.get {w:World} {e:TypeId} {b n cap j:Nat} {v u:Value} {cs cur:List Value} (h:OwnB w e b v n cs cur cap) (hj:cs[j]? = some u):cur[j]? = some u:=by
 rw [← h.take,List.getElem?_take] at hj
 split at hj
 ·exact hj
 ·cases hj
theorem OwnB.set {w w':World} {e:TypeId} {b n cap j:Nat} {v u:Value} {cs cur:List Value} (h:OwnB w e b v n cs cur cap) (hj:j < n) (hb:Blk w' b e (cur.take j ++ [u] ++ cur.drop (j + 1))):w'.ownsRow 0 e 1 v n (cs.set j u):=by
 have hl:=h.len; have hle:=h.le; have hcl:=h.csl
 refine ⟨by simp [hcl],.inr ⟨b,cap,(cur.take j ++ [u] ++ cur.drop (j + 1)).toArray,h.eq,Nat.zero_le _,hb,h.le,h.max,by simp; omega,?_⟩⟩
 have e1:cur.take j ++ [u] ++ cur.drop (j + 1)=cur.set j u:=by rw [List.set_eq_take_append_cons_drop,if_pos (by omega)]; simp
 simp only [Nat.mul_one]
 rw [e1,List.take_set,h.take]
theorem zN1 {w:World} {e:TypeId} {v:Value} {n:Nat} {cs:List Value} (h:w.ownsRow 0 e 1 v n cs) (hn:0 < n):∃ b cur cap,OwnB w e b v n cs cur cap:=by
 obtain ⟨h1,⟨_,h0⟩ | ⟨g,cap,cur,rfl,_,hg,hnc,hcm,hcs,ht⟩⟩:=h
 ·omega
 ·exact ⟨g,cur.toList,cap,rfl,by unfold Blk; simpa using hg,hnc,hcm,by simpa using hcs,by simpa using ht,by simpa using h1⟩
section idxo
variable {P : Program} {r : Option Nat} {N : Nat} {all : Array Oper} {K : Pd} {D : List Deferred} {E : Env} {w : World} {rest : List Oper}
theorem eV {d:Nat} {x ix:Operand} {t e t':TypeId} {pos:String} {af:Array Edge} {n bytes:Nat} {z:Value} {v:Value} {cs:List Value} {k:IntKind} {i:Int} (j:Nat) (hd:Nat.blt d N=true)
  (ht:P.underlying t=some (.slice e)) (he:Sz P e 1 bytes z) (hx:ev E x=some v) (hi:ev E ix=some (.int k i)) (hv:w.ownsRow 0 e 1 v n cs) (hij:i=(j:Int)) (hj:j < n)
  (h:∀ b cur cap,OwnB w e b v n cs cur cap→Ops P r N all K rest D ((d,.pointer (some ⟨b,j,none⟩)) :: E) w) :
  Ops P r N all K (⟨some d,.indexAddr t x ix,t',pos,af,none⟩ :: rest) D E w:=by
 obtain ⟨b,cur,cap,ho⟩:=zN1 hv (by omega)
 have hx':=hx
 rw [ho.eq] at hx'
 refine zZ hd (by intro c hc; cases hc) (fun a ha=>?_) (h b cur cap ho)
 have e1:(Instr.indexAt t (.slice (some ⟨b,0,none⟩) n cap) (.int k i)).run P w = .ok (.pointer (some ⟨b,j,none⟩)) w:=by
  subst hij
  simp [Instr.indexAt,asIntOf,run_underlying ht,Result.andThen,jN he,hj,jE]
 simp only [execOp,ha.ev hx',ha.ev hi,Sem.run_bind,e1,Result.andThen]; rfl
end idxo
theorem Le.of_fresh {Fz M:Nat→Prop} {w w':World} {v:Value} {e:TypeId} {xs:List Nat} (hb:Bel w.heap.size w w') (hf:Fresh e w w' v xs):Le Fz M w (Mo v M) w':=by
 have l:=Le.of_below (Fz:=Fz) (M:=M) hb
 refine ⟨l.os,l.tape,l.output,l.size,l.frz,l.imm,fun k hk=>?_,fun ho k hk=>?_⟩
 ·rcases hk with hk | hk
  ·exact .inr (hf.new k hk)
  ·exact .inl hk
 ·rcases hk with hk | hk
  ·exact (hf.own.lt k hk).2
  ·exact Nat.lt_of_lt_of_le (ho k hk) l.size
section more
variable {P : Program} {r : Option Nat} {N : Nat} {all : Array Oper} {K : Pd} {D : List Deferred} {E : Env} {w : World} {rest : List Oper}
theorem ops_quo32 {d:Nat} {x y:Operand} {tx ty t:TypeId} {pos:String} {af:Array Edge} {a b:Nat} (hd:Nat.blt d N=true)
  (hx:ev E x=some (.int .u32 (a:Int))) (hy:ev E y=some (.int .u32 (b:Int))) (hb:0 < b) (ha:a < 4294967296)
  (h:Ops P r N all K rest D ((d,.int .u32 ((a / b:Nat):Int)) :: E) w):Ops P r N all K (⟨some d,.binOp .quo tx x y ty,t,pos,af,none⟩ :: rest) D E w :=
 fV hd (.inl rfl) hx hy (by omega) (by rw [IntWalk.u32_quo _ _ ⟨by omega,by omega,by omega⟩]; rfl) h
end more
theorem IsNat.sub {M:Nat→Prop} {w:World} {v:Value} {xs:List Nat} {l m:Nat} (h:IsNat M w v xs) (hm:m≤xs.length) {u:Value} (hu:Slc M w 1 u (m - l) (((xs.map lw).drop (l * 1)).take ((m - l) * 1))):IsNat M w u ((xs.drop l).take (m - l)):=by
 refine ⟨?_,fun x hx=>h.lt x (List.mem_of_mem_drop (List.mem_of_mem_take hx))⟩
 have e:((xs.drop l).take (m - l)).length=m - l:=by rw [List.length_take,List.length_drop]; omega
 rw [e]
 simpa [List.map_take,List.map_drop] using hu
theorem bQ:∀ {zs:List Nat} {j:Nat} (v:Nat),j < zs.length→val (zs.set j v) + 4294967296 ^ j * zs.getD j 0=val zs + 4294967296 ^ j * v
 | [],j,v,h=>by simp at h
 | z :: zs,0,v,h=>by simp [val]; omega
 | z :: zs,j + 1,v,h=>by
  have ih:=bQ (zs:=zs) (j:=j) v (by simpa using h)
  simp only [List.set_cons_succ,val,List.getD_cons_succ,Nat.pow_succ]
  have e1:4294967296 ^ j * 4294967296 * zs.getD j 0=4294967296 * (4294967296 ^ j * zs.getD j 0):=by rw [Nat.mul_comm (4294967296 ^ j) 4294967296,Nat.mul_assoc]
  have e2:4294967296 ^ j * 4294967296 * v=4294967296 * (4294967296 ^ j * v):=by rw [Nat.mul_comm (4294967296 ^ j) 4294967296,Nat.mul_assoc]
  omega
theorem aZ {zs:List Nat} {j v:Nat} (h:∀ z ∈ zs,z < 4294967296) (hv:v < 4294967296):∀ z ∈ zs.set j v,z < 4294967296:=by
 intro z hz
 rcases List.mem_or_eq_of_mem_set hz with h1 | h1
 ·exact h z h1
 ·omega
theorem gN {zs:List Nat} {i j v:Nat} (h:i ≠ j):(zs.set i v).getD j 0=zs.getD j 0:=by
 simp [List.getD_eq_getElem?_getD,List.getElem?_set_ne h]
theorem zN6 {zs:List Nat} {T q o c j:Nat} (hj:j < zs.length) (ho:zs.getD j 0=o) (h:val zs + 4294967296 ^ j * c=T) :
  val (zs.set j ((q + o + c) % 4294967296)) + 4294967296 ^ (j + 1) * ((q + o + c) / 4294967296)=T + 4294967296 ^ j * q:=by
 have h1:=bQ ((q + o + c) % 4294967296) hj
 rw [ho] at h1
 have h2:=Nat.div_add_mod (q + o + c) 4294967296
 have h3:4294967296 ^ j * (4294967296 * ((q + o + c) / 4294967296) + (q + o + c) % 4294967296)=4294967296 ^ j * (q + o + c):=by rw [h2]
 rw [Nat.mul_add,Nat.mul_add,Nat.mul_add,← Nat.mul_assoc] at h3
 rw [Nat.pow_succ]
 omega
theorem mul_row {xs ys:List Nat} {i k:Nat}:val (xs.take i) * val ys + 4294967296 ^ i * (xs.getD i 0 * val (ys.take k)) + 4294967296 ^ (i + k) * (xs.getD i 0 * ys.getD k 0)=val (xs.take i) * val ys + 4294967296 ^ i * (xs.getD i 0 * val (ys.take (k + 1))):=by
 rw [xE,Nat.pow_add,Nat.mul_add,Nat.mul_add,Nat.add_assoc,Nat.mul_assoc]
 congr 2
 rw [Nat.mul_left_comm (4294967296 ^ k)]
theorem mul_rows {xs ys:List Nat} {i:Nat}:val (xs.take i) * val ys + 4294967296 ^ i * (xs.getD i 0 * val ys)=val (xs.take (i + 1)) * val ys:=by
 rw [xE,Nat.add_mul,Nat.mul_assoc]
def cntN (k m:Int):Nat:=(min (max k 0) m).toNat
theorem iH {k m:Int} (h:0≤m):min (max k 0) m=(cntN k m:Int)∧max (min k m) 0=(cntN k m:Int)∧(cntN k m:Int)≤m:=by unfold cntN; omega
def xU (n:Nat):Nat:=if n=0 then 0 else Nat.log2 n + 1
theorem sM {n:Nat} (h:0 < n):xU n=xU (n / 2) + 1:=by
 unfold xU
 rw [if_neg (by omega)]
 by_cases h2:n / 2=0
 ·rw [if_pos h2]
  have:n=1:=by omega
  subst this; decide
 ·rw [if_neg h2]
  have:Nat.log2 n=Nat.log2 (n / 2) + 1:=by
   rw [Nat.log2_def,if_pos (by omega)]
  omega
theorem oQ (n:Nat) (h:0 < n):∀ k,xU (n * 2 ^ k)=xU n + k
 | 0=>by simp
 | k + 1=>by
  have hp:0 < n * 2 ^ k:=Nat.mul_pos h (Nat.pow_pos (by omega))
  rw [Nat.pow_succ,← Nat.mul_assoc,sM (by omega),show n * 2 ^ k * 2 / 2=n * 2 ^ k by omega,oQ n h k]; rfl
theorem sL (n:Nat):n < 2 ^ xU n:=by
 unfold xU
 by_cases h:n=0
 ·subst h; decide
 ·rw [if_neg h]; exact Nat.lt_log2_self
theorem zQ4 {n:Nat} (h:0 < n):2 ^ (xU n - 1)≤n:=by
 unfold xU
 rw [if_neg (by omega)]; exact Nat.log2_self_le (by omega)
theorem bitsN_unique {n k:Nat} (h0:0 < n) (h1:n < 2 ^ k) (h2:2 ^ (k - 1)≤n):xU n=k:=by
 have a1:=sL n
 have a2:=zQ4 h0
 have b1:k - 1 < xU n:=(Nat.pow_lt_pow_iff_right (by omega)).1 (Nat.lt_of_le_of_lt h2 a1)
 have b2:xU n - 1 < k:=(Nat.pow_lt_pow_iff_right (by omega)).1 (Nat.lt_of_le_of_lt a2 h1)
 rcases Nat.eq_zero_or_pos k with hk | hk
 ·subst hk; omega
 ·omega
theorem vW {h l k:Nat} (hh:0 < h) (hl:l < 2 ^ k):xU (l + 2 ^ k * h)=k + xU h:=by
 have hk:0 < 2 ^ k:=Nat.pow_pos (by omega)
 have a1:=sL h
 have a2:=zQ4 hh
 have hb:0 < xU h:=by
  rw [sM hh]; omega
 refine bitsN_unique ?_ ?_ ?_
 ·have:=Nat.mul_pos hk hh; omega
 ·rw [Nat.pow_add]
  have:2 ^ k * (h + 1)≤2 ^ k * 2 ^ xU h:=Nat.mul_le_mul_left _ a1
  rw [Nat.mul_add] at this; omega
 ·rw [show k + xU h - 1=k + (xU h - 1) by omega,Nat.pow_add]
  have:2 ^ k * 2 ^ (xU h - 1)≤2 ^ k * h:=Nat.mul_le_mul_left _ a2
  omega
theorem gR {a b j k:Nat} (ha:a < 4294967296 ^ j) (hb:b < 4294967296 ^ k):a * b < 4294967296 ^ (j + k):=by
 rw [Nat.pow_add]; exact Nat.mul_lt_mul'' ha hb
theorem aJ {a b j k:Nat} (ha:a < 4294967296 ^ j) (hb:b < 4294967296 ^ k):(limbs (a * b)).length≤j + k:=zS (gR ha hb)
theorem xW:limbs 1=[1]:=by rw [uK (by decide),show (1 / 4294967296:Nat)=0 by decide,yB]
theorem limbs_top {n:Nat} (h:limbs n ≠ []):n=val ((limbs n).take ((limbs n).length - 1)) + 4294967296 ^ ((limbs n).length - 1) * (limbs n).getD ((limbs n).length - 1) 0:=by
 have h1:(limbs n).length ≠ 0:=fun e=>h (List.length_eq_zero_iff.1 e)
 rw [← xE,show (limbs n).length - 1 + 1=(limbs n).length by omega,List.take_length,zJ]
theorem fG (k:Nat):(4294967296:Nat) ^ k=2 ^ (32 * k):=by rw [Nat.pow_mul]
theorem bits_limbs {n:Nat} (h:limbs n ≠ []):xU n=32 * ((limbs n).length - 1) + xU ((limbs n).getD ((limbs n).length - 1) 0):=by
 have h0:=limbs_top h
 have h1:=dQ h
 have h2:=yM ((limbs n).take ((limbs n).length - 1)) (fun x hx=>yQ n x (List.mem_of_mem_take hx))
 have h3:((limbs n).take ((limbs n).length - 1)).length=(limbs n).length - 1:=by simp
 rw [h3] at h2
 generalize val ((limbs n).take ((limbs n).length - 1))=l at *
 generalize (limbs n).getD ((limbs n).length - 1) 0=t at *
 generalize (limbs n).length - 1=k at *
 rw [fG] at h0 h2
 rw [h0]; exact vW (by omega) h2
theorem fR {r:Nat} (h:r≤32):(4294967296:Nat)=2 ^ (32 - r) * 2 ^ r:=by
 rw [← Nat.pow_add,show 32 - r + r=32 by omega]
theorem yO (r:Nat):0 < 2 ^ r:=Nat.pow_pos (by omega)
theorem aW {r:Nat} (h:r≤32):2 ^ r≤4294967296:=by
 have:=Nat.pow_le_pow_right (n:=2) (by omega) h; exact this
theorem zS0 {x r:Nat} (hx:x < 4294967296) (hr:r < 32):x * 2 ^ r < 18446744073709551616:=by
 have h1:=aW (r:=r) (by omega)
 have h2:x * 2 ^ r≤4294967295 * 4294967296:=Nat.mul_le_mul (by omega) h1
 omega
theorem zV2 {x l r:Nat} (hr:r≤32) (hl:l < 2 ^ r):(x * 2 ^ r % 4294967296 ||| l)=x * 2 ^ r % 4294967296 + l∧x * 2 ^ r % 4294967296 + l < 4294967296:=by
 have e1:x * 2 ^ r % 4294967296=2 ^ r * (x % 2 ^ (32 - r)):=by
  conv=>lhs; rw [fR hr]
  rw [Nat.mul_mod_mul_right,Nat.mul_comm]
 rw [e1]
 refine ⟨(Nat.two_pow_add_eq_or_of_lt hl _).symm,?_⟩
 have h1:x % 2 ^ (32 - r) < 2 ^ (32 - r):=Nat.mod_lt _ (yO _)
 have h2:2 ^ r * (x % 2 ^ (32 - r) + 1)≤2 ^ r * 2 ^ (32 - r):=Nat.mul_le_mul_left _ h1
 rw [Nat.mul_comm (2 ^ r) (2 ^ (32 - r)),← fR hr,Nat.mul_add] at h2
 omega
theorem zK8 {x r:Nat} (hx:x < 4294967296):x * 2 ^ r / 4294967296 < 2 ^ r:=by
 rw [Nat.div_lt_iff_lt_mul (by omega),Nat.mul_comm]
 exact Nat.mul_lt_mul_of_pos_left hx (yO r)
theorem zV1 {zs:List Nat} {T x l r p:Nat} (hp:zs.length=p) (hr:r≤32) (hl:l < 2 ^ r) (h:val zs + 4294967296 ^ p * l=T) :
  val (zs ++ [x * 2 ^ r % 4294967296 ||| l]) + 4294967296 ^ (p + 1) * (x * 2 ^ r / 4294967296)=T + 4294967296 ^ p * (x * 2 ^ r):=by
 rw [(zV2 hr hl).1,qR,hp,Nat.pow_succ,Nat.mul_add]
 have h2:=Nat.div_add_mod (x * 2 ^ r) 4294967296
 have h3:4294967296 ^ p * (4294967296 * (x * 2 ^ r / 4294967296) + x * 2 ^ r % 4294967296)=4294967296 ^ p * (x * 2 ^ r):=by rw [h2]
 rw [Nat.mul_add,← Nat.mul_assoc] at h3
 omega
theorem yF1 {xs:List Nat} {i p r:Nat}:4294967296 ^ p * (val (xs.take i) * 2 ^ r) + 4294967296 ^ (p + i) * (xs.getD i 0 * 2 ^ r)=4294967296 ^ p * (val (xs.take (i + 1)) * 2 ^ r):=by
 rw [xE,Nat.pow_add,Nat.add_mul,Nat.mul_add]
 congr 1
 rw [Nat.mul_assoc,Nat.mul_assoc]
theorem yF2 (n q:Nat):4294967296 ^ (q / 32) * (n * 2 ^ (q % 32))=n * 2 ^ q:=by
 rw [fG,Nat.mul_left_comm,← Nat.pow_add,show 32 * (q / 32) + q % 32=q by omega]
theorem pL {xs:List Nat} (h:∀ x ∈ xs,x < 4294967296) (n:Nat):val (xs.drop n)=val xs / 4294967296 ^ n:=by
 rcases Nat.lt_or_ge n xs.length with hn | hn
 ·have e:val xs=val (xs.take n) + 4294967296 ^ n * val (xs.drop n):=by
   conv=>lhs; rw [← List.take_append_drop n xs]
   rw [gO,List.length_take,Nat.min_eq_left (by omega)]
  have h1:=yM (xs.take n) (fun x hx=>h x (List.mem_of_mem_take hx))
  rw [List.length_take,Nat.min_eq_left (by omega)] at h1
  rw [e,Nat.mul_comm,Nat.add_mul_div_right _ _ (Nat.pow_pos (by omega)),Nat.div_eq_of_lt h1]; omega
 ·rw [List.drop_of_length_le hn]
  have h1:=yM xs h
  have h2:4294967296 ^ xs.length≤4294967296 ^ n:=Nat.pow_le_pow_right (by omega) hn
  rw [Nat.div_eq_of_lt (by omega)]; rfl
theorem zQ1 {xs:List Nat} (h:∀ x ∈ xs,x < 4294967296) (q:Nat):val (xs.drop (q / 32)) / 2 ^ (q % 32)=val xs / 2 ^ q:=by
 rw [pL h,Nat.div_div_eq_div_mul,fG,← Nat.pow_add,show 32 * (q / 32) + q % 32=q by omega]
theorem oC {x Y r:Nat} (hx:x < 4294967296):(x + 4294967296 * Y) / 2 ^ r / 4294967296=Y / 2 ^ r:=by
 rw [Nat.div_div_eq_div_mul,Nat.mul_comm (2 ^ r),← Nat.div_div_eq_div_mul,Nat.mul_comm 4294967296 Y,Nat.add_mul_div_right _ _ (by omega),Nat.div_eq_of_lt hx]; simp
theorem vO {x y Z r:Nat} (hr:r < 32):(x + 4294967296 * (y + 4294967296 * Z)) / 2 ^ r % 4294967296=(x + 4294967296 * y) / 2 ^ r % 4294967296:=by
 have e:x + 4294967296 * (y + 4294967296 * Z)=(x + 4294967296 * y) + (4294967296 * (2 ^ (32 - r) * Z)) * 2 ^ r:=by
  have:=fR (r:=r) (by omega)
  have e2:4294967296 * (2 ^ (32 - r) * Z) * 2 ^ r=4294967296 * ((2 ^ (32 - r) * 2 ^ r) * Z):=by
   rw [Nat.mul_assoc 4294967296,Nat.mul_right_comm (2 ^ (32 - r))]
  rw [e2,← this]; omega
 rw [e,Nat.add_mul_div_right _ _ (yO r),Nat.add_mul_mod_self_left]
theorem or_up {x y:Nat} (hx:x < 4294967296) (hy:y < 4294967296):(x ||| y * 4294967296 % 18446744073709551616)=x + 4294967296 * y:=by
 have e:y * 4294967296 % 18446744073709551616=2 ^ 32 * y:=by rw [Nat.mod_eq_of_lt (by omega),Nat.mul_comm]
 rw [e,Nat.or_comm,← Nat.two_pow_add_eq_or_of_lt (i:=32) (by omega)]; omega
theorem down_or {x Y r:Nat} (hx:x < 4294967296) (hr:r < 32) (h0:r ≠ 0):(x / 2 ^ r ||| Y * 2 ^ (32 - r) % 4294967296)=(x + 4294967296 * Y) / 2 ^ r % 4294967296:=by
 have hp:=fR (r:=r) (by omega)
 have e1:(x + 4294967296 * Y) / 2 ^ r=x / 2 ^ r + 2 ^ (32 - r) * Y:=by
  conv=>lhs; rw [hp,Nat.mul_right_comm]
  rw [Nat.add_mul_div_right _ _ (yO r)]
 have hl:x / 2 ^ r < 2 ^ (32 - r):=by
  rw [Nat.div_lt_iff_lt_mul (yO r),← hp]; exact hx
 have h1:=zV2 (x:=Y) (l:=x / 2 ^ r) (r:=32 - r) (by omega) hl
 rw [e1,Nat.or_comm,h1.1,Nat.mul_comm (2 ^ (32 - r)) Y,Nat.add_mod,Nat.add_comm (x / 2 ^ r % 4294967296)]
 have h2:x / 2 ^ r≤x:=Nat.div_le_self _ _
 rw [Nat.mod_eq_of_lt (show x / 2 ^ r < 4294967296 by omega),Nat.mod_eq_of_lt h1.2]
theorem oB {zs:List Nat} {D e n s:Nat} (hs:zs.length=s) (he:e=n % 4294967296) (h:val zs + 4294967296 ^ s * n=D):val (zs ++ [e]) + 4294967296 ^ (s + 1) * (n / 4294967296)=D:=by
 subst he
 rw [qR,hs,Nat.pow_succ]
 have h2:=Nat.div_add_mod n 4294967296
 have h3:4294967296 ^ s * (4294967296 * (n / 4294967296) + n % 4294967296)=4294967296 ^ s * n:=by rw [h2]
 rw [Nat.mul_add,← Nat.mul_assoc] at h3
 omega
theorem vN {zs xs:List Nat} {i p:Nat} (h:zs.drop i=xs.drop p) (j:Nat):zs.getD (i + j) 0=xs.getD (p + j) 0:=by
 have:=congrArg (fun l=>l[j]?) h
 simp only [List.getElem?_drop] at this
 simp only [List.getD_eq_getElem?_getD,this]
theorem zJ1 {zs xs:List Nat} {p i r e T:Nat} (hi:i < zs.length) (hl:xs.length=p + zs.length) (hx:∀ x ∈ xs,x < 4294967296) (hd:zs.drop i=xs.drop (p + i)) (hv:val (zs.take i) + 4294967296 ^ i * (val (xs.drop (p + i)) / 2 ^ r)=T)
  (he:e=val (xs.drop (p + i)) / 2 ^ r % 4294967296):(zs.set i e).drop (i + 1)=xs.drop (p + (i + 1))∧val ((zs.set i e).take (i + 1)) + 4294967296 ^ (i + 1) * (val (xs.drop (p + (i + 1))) / 2 ^ r)=T:=by
 have e1:zs.set i e=zs.take i ++ e :: zs.drop (i + 1):=by rw [List.set_eq_take_append_cons_drop,if_pos hi]
 have e2:zs.drop (i + 1)=xs.drop (p + (i + 1)):=by
  have:=congrArg (List.drop 1) hd
  rw [List.drop_drop,List.drop_drop] at this
  rw [this,Nat.add_assoc]
 have e3:(zs.take i).length=i:=by rw [List.length_take]; omega
 have e4:(zs.set i e).take (i + 1)=zs.take i ++ [e]:=by
  rw [e1,show zs.take i ++ e :: zs.drop (i + 1)=(zs.take i ++ [e]) ++ zs.drop (i + 1) by simp,List.take_left' (by simp; omega)]
 refine ⟨?_,?_⟩
 ·rw [List.drop_set_of_lt (by omega),e2]
 ·have hdv:=kU (xs:=xs) (s:=p + i) (by omega)
  have hlim:xs.getD (p + i) 0 < 4294967296:=yK hx _
  rw [e4,← oB e3 he hv]
  congr 2
  rw [hdv,oC hlim,Nat.add_assoc]
theorem mod_self_of (r:Nat) {x:Nat} (hx:x < 4294967296):x / 2 ^ r % 4294967296=x / 2 ^ r:=Nat.mod_eq_of_lt (Nat.lt_of_le_of_lt (Nat.div_le_self _ _) hx)
def lsOf (xs:List Nat):Nat→List (Nat × Nat)
 | 0=>[]
 | s + 1=>lsOf xs s ++ (if xs.getD s 0=0 then [] else [(s,xs.getD s 0)])
def psum:List (Nat × Nat)→Nat
 | []=>0
 | p :: r=>4294967296 ^ p.1 * p.2 + psum r
theorem eT:∀ (l m:List (Nat × Nat)),psum (l ++ m)=psum l + psum m
 | [],m=>by simp [psum]
 | p :: l,m=>by simp only [List.cons_append,psum,eT l m,Nat.add_assoc]
theorem zY2 (xs:List Nat):∀ n,psum (lsOf xs n)=val (xs.take n)
 | 0=>by simp [lsOf,psum,val]
 | n + 1=>by
  rw [lsOf,eT,zY2 xs n,xE]
  split
  ·rename_i h; rw [h]; simp [psum]
  ·simp [psum]
theorem yN4 {xs:List Nat}:∀ {n:Nat},∀ p ∈ lsOf xs n,p.1 < n∧p.2=xs.getD p.1 0
 | 0,p,hp=>by simp [lsOf] at hp
 | n + 1,p,hp=>by
  rw [lsOf,List.mem_append] at hp
  rcases hp with hp | hp
  ·have:=yN4 p hp; exact ⟨by omega,this.2⟩
  ·split at hp
   ·simp at hp
   ·simp at hp; subst hp; exact ⟨by simp,rfl⟩
theorem ls_skip {xs:List Nat} {s:Nat} (h:xs.getD s 0=0):lsOf xs (s + 1)=lsOf xs s:=by rw [lsOf,if_pos h,List.append_nil]
theorem zZ6 {xs:List Nat} {s:Nat} (h:¬ xs.getD s 0=0):lsOf xs (s + 1)=lsOf xs s ++ [(s,xs.getD s 0)]:=by rw [lsOf,if_neg h]
theorem yI0 (xs:List Nat) (s:Nat):∀ k,∃ post,lsOf xs (s + k)=lsOf xs s ++ post
 | 0=>⟨[],by simp⟩
 | k + 1=>by
  obtain ⟨post,h⟩:=yI0 xs s k
  exact ⟨_,by rw [← Nat.add_assoc,lsOf,h,List.append_assoc]⟩
theorem ls_at {xs:List Nat} {s:Nat} (hs:s < xs.length) (h:¬ xs.getD s 0=0):∃ post,lsOf xs xs.length=lsOf xs s ++ (s,xs.getD s 0) :: post:=by
 obtain ⟨post,hp⟩:=yI0 xs (s + 1) (xs.length - (s + 1))
 rw [show s + 1 + (xs.length - (s + 1))=xs.length by omega,zZ6 h] at hp
 exact ⟨post,by rw [hp]; simp⟩
theorem rO {xs:List Nat}:∀ {n:Nat} {pre post:List (Nat × Nat)} {x:Nat × Nat},lsOf xs n=pre ++ x :: post→x.1 < n∧x.2=xs.getD x.1 0∧∀ p ∈ pre,p.1 < x.1
 | 0,pre,post,x,h=>by simp [lsOf] at h
 | n + 1,pre,post,x,h=>by
  rw [lsOf] at h
  split at h
  ·rw [List.append_nil] at h
   have:=rO h; exact ⟨by omega,this.2⟩
  ·rcases List.eq_nil_or_concat post with rfl | ⟨q,y,rfl⟩
   ·have h2:=List.append_inj' h rfl
    have h3:(n,xs.getD n 0)=x:=by simpa using h2.2
    subst h3
    exact ⟨by simp,rfl,fun p hp=>by rw [← h2.1] at hp; exact (yN4 p hp).1⟩
   ·rw [show pre ++ x :: (q.concat y)=(pre ++ x :: q) ++ [y] by simp] at h
    have h2:=List.append_inj' h rfl
    have:=rO h2.1; exact ⟨by omega,this.2⟩
theorem mul_step2 {zs:List Nat} {T q o c j:Nat} (hj:j < zs.length) (ho:zs.getD j 0=o) (h:val zs + 4294967296 ^ j * c=T) :
  val (zs.set j ((c + (q + o)) % 4294967296)) + 4294967296 ^ (j + 1) * ((c + (q + o)) / 4294967296)=T + 4294967296 ^ j * q:=by
 rw [show c + (q + o)=q + o + c by omega]; exact zN6 hj ho h
theorem mul_row2 {ys:List Nat} {T x i k:Nat}:T + 4294967296 ^ i * (x * val (ys.take k)) + 4294967296 ^ (i + k) * (x * ys.getD k 0)=T + 4294967296 ^ i * (x * val (ys.take (k + 1))):=by
 rw [xE,Nat.pow_add,Nat.mul_add,Nat.mul_add,Nat.add_assoc,Nat.mul_assoc]
 congr 2
 rw [Nat.mul_left_comm (4294967296 ^ k)]
theorem psum_snoc {pre:List (Nat × Nat)} {x:Nat × Nat} {V:Nat}:psum pre * V + 4294967296 ^ x.1 * (x.2 * V)=psum (pre ++ [x]) * V:=by
 rw [eT,Nat.add_mul]; simp [psum,Nat.mul_assoc]
theorem iI {x k:Nat} (h:2 ^ k≤x):xU x=k + xU (x / 2 ^ k):=by
 have h0:=Nat.div_pos h (yO k)
 have h1:=vW (h:=x / 2 ^ k) (l:=x % 2 ^ k) (k:=k) h0 (Nat.mod_lt _ (yO k))
 rw [Nat.mod_add_div] at h1; exact h1
theorem lG {n:Nat} (h:n < 4294967296):xU n < 33:=by
 unfold xU
 split
 ·omega
 ·rename_i h0
  have:=(Nat.log2_lt (k:=32) h0).2 (by omega)
  omega
section ops
variable {P : Program} {r : Option Nat} {N : Nat} {all : Array Oper} {K : Pd} {D : List Deferred} {E : Env} {w : World} {rest : List Oper}
theorem oX {d:Nat} {x:Operand} {s t t':TypeId} {pos:String} {af:Array Edge} {k':IntKind} {sd:TypeDesc} {a:Nat} (hd:Nat.blt d N=true)
  (hs:P.underlying s=some sd) (ht:P.underlying t=some (.int .u8)) (hx:ev E x=some (.int k' (a:Int))) (ha:a < 256)
  (h:Ops P r N all K rest D ((d,.int .u8 (a:Int)) :: E) w):Ops P r N all K (⟨some d,.convert s t x,t',pos,af,none⟩ :: rest) D E w :=
 bT hd hs ht hx (IntWalk.u8_in _ (by omega)) h
theorem lY {d:Nat} {x:Operand} {s t t':TypeId} {pos:String} {af:Array Edge} {k':IntKind} {sd:TypeDesc} {a:Nat} (hd:Nat.blt d N=true)
  (hs:P.underlying s=some sd) (ht:P.underlying t=some (.int .i64)) (hx:ev E x=some (.int k' (a:Int))) (ha:a < 9223372036854775808)
  (h:Ops P r N all K rest D ((d,.int .i64 (a:Int)) :: E) w):Ops P r N all K (⟨some d,.convert s t x,t',pos,af,none⟩ :: rest) D E w :=
 bT hd hs ht hx (IntWalk.i64_in _ (by omega)) h
theorem mF {d:Nat} {x ix:Operand} {t t':TypeId} {pos:String} {af:Array Edge} {s:ByteArray} {j:Nat} (hd:Nat.blt d N=true) (ht:P.underlying t=some .string) (hx:ev E x=some (.string s))
  (hs:((List.range 256).all fun j=>(s[j]?.map (·.toNat)) == some (xU j))=true) (hi:ev E ix=some (.int .u8 (j:Int))) (hj:j < 256)
  (h:xU j < 33→Ops P r N all K rest D ((d,.int .u8 ((xU j:Nat):Int)) :: E) w):Ops P r N all K (⟨some d,.index t x ix,t',pos,af,none⟩ :: rest) D E w :=
 zZ hd (by intro c hc; cases hc) (fun a ha=>by
  have h1:=List.all_eq_true.1 hs j (List.mem_range.2 hj)
  rw [beq_iff_eq] at h1
  cases hb:s[j]? with
  | none=>rw [hb] at h1; cases h1
  | some b =>
   rw [hb] at h1
   injection h1 with h1
   have e1:(Instr.index t (.string s) (.int .u8 (j:Int))).run P w = .ok (.int .u8 (b.toNat:Int)) w:=by
    simp [Instr.index,asIntOf,run_underlying ht,Result.andThen,hb]
   simp only [execOp,ha.ev hx,ha.ev hi,Sem.run_bind,e1,Result.andThen,h1]; rfl) (h (lG (by omega)))
end ops
theorem kara_mid (a b c d:Nat):(a + b) * (c + d) - (a * c + b * d)=a * d + b * c:=by
 rw [Nat.add_mul,Nat.mul_add,Nat.mul_add]; omega
theorem kara (a b c d B:Nat):a * c + (B * (a * d + b * c) + B * B * (b * d))=(a + B * b) * (c + B * d):=by
 simp only [Nat.add_mul,Nat.mul_add,Nat.mul_assoc,Nat.mul_left_comm,Nat.mul_comm]
 omega
theorem add_lt_pow {a b k:Nat} (ha:a < 4294967296 ^ k) (hb:b < 4294967296 ^ k):a + b < 4294967296 ^ (k + 1):=by
 rw [Nat.pow_succ]; omega
theorem bitsN_eq_zero {n:Nat}:xU n=0 ↔ n=0:=by
 unfold xU
 split
 ·simp [*]
 ·simp [*]
theorem cntN_nat {k m:Nat} (h:k≤m):cntN (k:Int) (m:Int)=k:=by unfold cntN; omega
section strct
variable {P : Program} {r : Option Nat} {N : Nat} {all : Array Oper} {K : Pd} {D : List Deferred} {E : Env} {w : World} {rest : List Oper}
theorem yP {d:Nat} {x:Operand} {t':TypeId} {pos:String} {af:Array Edge} {ad:Addr} (hd:Nat.blt d N=true) (hx:ev E x=some (.pointer (some ad)))
  (h:Ops P r N all K rest D ((d,.pointer (some ad)) :: E) w):Ops P r N all K (⟨some d,.nilCheck x,t',pos,af,none⟩ :: rest) D E w :=
 zZ hd (by intro c hc; cases hc) (fun ac ha=>by simp only [execOp,ha.ev hx]; rfl) h
theorem run_fieldAt {s:TypeId} {f:Nat} {fields:Array Field} {fd:Field} {b o sz bytes:Nat} {z:Value} (hs:P.underlying s=some (.struct fields)) (hf:fields[f]? = some fd) (hz:Sz P fd.type sz bytes z) (h0:Nat.beq sz 0=false) (w:World) :
  (Instr.fieldAt s (.pointer (some ⟨b,o,none⟩)) f).run P w = .ok (.pointer (some ⟨b,o + fd.offset,none⟩)) w:=by
 have h0':sz ≠ 0:=Nat.ne_of_beq_eq_false h0
 have hf':=hf
 simp [Instr.fieldAt,run_underlying hs,Instr.sureAddr,fieldPlace,jN hz,Result.andThen,hf',h0',jE]
theorem qW {d:Nat} {x:Operand} {s t':TypeId} {pos:String} {af:Array Edge} {f:Nat} {fields:Array Field} {fd:Field} {b o sz bytes:Nat} {z:Value} (k:Nat) (hd:Nat.blt d N=true)
  (hs:P.underlying s=some (.struct fields)) (hf:fields[f]? = some fd) (hk:fd.offset=k) (hz:Sz P fd.type sz bytes z) (h0:Nat.beq sz 0=false) (hx:ev E x=some (.pointer (some ⟨b,o,none⟩)))
  (h:Ops P r N all K rest D ((d,.pointer (some ⟨b,o + k,none⟩)) :: E) w):Ops P r N all K (⟨some d,.fieldAddr s x f,t',pos,af,none⟩ :: rest) D E w :=
 zZ hd (by intro c hc; cases hc) (fun ac ha=>by
  subst hk
  simp only [execOp,ha.ev hx,Sem.run_bind,run_fieldAt hs hf hz h0 w,Result.andThen]; rfl) h
theorem yH {d:Nat} {x:Operand} {s t':TypeId} {pos:String} {af:Array Edge} {f:Nat} {fields:Array Field} {fd:Field} {b sz bytes:Nat} {z:Value} (k:Nat) (hd:Nat.blt d N=true)
  (hs:P.underlying s=some (.struct fields)) (hf:fields[f]? = some fd) (hk:fd.offset=k) (hz:Sz P fd.type sz bytes z) (h0:Nat.beq sz 0=false) (hx:ev E x=some (.pointer (some ⟨b,0,none⟩)))
  (h:Ops P r N all K rest D ((d,.pointer (some ⟨b,k,none⟩)) :: E) w):Ops P r N all K (⟨some d,.fieldAddr s x f,t',pos,af,none⟩ :: rest) D E w :=
 qW k hd hs hf hk hz h0 hx (by rw [Nat.zero_add]; exact h)
def Plc (P:Program) (t:TypeId) (szs:List Nat):Prop:=∃ fields it z places,P.underlying t=some (.struct fields)∧P.info? t=some it∧it.zero=some z∧z.cells.size=szs.sum ∧
 fields.toList.mapM (fun f=>(P.info? f.type).map fun i=>(f.offset,i.size))=some places∧∀ i,i < szs.length→places[i]? = some ((szs.take i).sum,szs.getD i 0)
def plcs (szs:List Nat):List (Nat × Nat):=(List.range szs.length).map fun i=>((szs.take i).sum,szs.getD i 0)
def plcB (P:Program) (t:TypeId) (szs:List Nat):Bool:=match P.underlying t,P.info? t with
 | some (.struct fields),some it=>match it.zero with
  | some z=>Nat.beq z.cells.size szs.sum && decide (fields.toList.mapM (fun f=>(P.info? f.type).map fun i=>(f.offset,i.size))=some (plcs szs))
  | none=>false
 | _,_=>false
theorem bY {P:Program} {t:TypeId} {szs:List Nat} (h:plcB P t szs=true):Plc P t szs:=by
 unfold plcB at h
 split at h
 case h_1 fields it h1 h2 =>
  split at h
  case h_1 z h3 =>
   simp only [Bool.and_eq_true,decide_eq_true_eq] at h
   refine ⟨fields,it,z,plcs szs,h1,h2,h3,Nat.eq_of_beq_eq_true h.1,h.2,fun i hi=>?_⟩
   simp [plcs,List.getElem?_map,List.getElem?_range hi]
  case h_2=>cases h
 case h_2=>cases h
def Cls:List Value→List (List Value)→Prop
 | [],[]=>True
 | v :: vs,c :: cs=>v.cells=c.toArray∧Cls vs cs
 | _,_=>False
theorem take_mid {α:Type} (a b:List α) (u:α) (k:Nat) (h:a.length=k):(a ++ u :: b).take (k + 1)=a ++ [u]:=by
 subst h; rw [List.take_append,List.take_of_length_le (by omega)]; simp
theorem drop_mid {α:Type} (a b:List α) (u:α) (k m:Nat) (h:a.length=k):(a ++ u :: b).drop (k + 1 + m)=b.drop m:=by
 subst h; rw [List.drop_append]; simp [Nat.add_assoc,Nat.add_comm 1 m]
theorem mR:∀ (c arr:List Value) (p n:Nat),p + n + c.length≤arr.length →
  (c.zipIdx n).foldl (fun (cs:Array Value) (x:Value × Nat)=>cs.setIfInBounds (p + x.2) x.1) arr.toArray=(arr.take (p + n) ++ c ++ arr.drop (p + n + c.length)).toArray
 | [],arr,p,n,h=>by simp
 | u :: c,arr,p,n,h=>by
  simp only [List.length_cons] at h
  have e1:arr.toArray.setIfInBounds (p + n) u=(arr.set (p + n) u).toArray:=by simp
  rw [List.zipIdx_cons,List.foldl_cons,e1,mR c (arr.set (p + n) u) p (n + 1) (by simp; omega)]
  have e2:arr.set (p + n) u=arr.take (p + n) ++ u :: arr.drop (p + n + 1):=by rw [List.set_eq_take_append_cons_drop,if_pos (by omega)]
  have hl:(arr.take (p + n)).length=p + n:=by simp; omega
  rw [e2,show p + (n + 1)=(p + n) + 1 from rfl,take_mid _ _ _ _ hl,drop_mid _ _ _ _ _ hl,List.drop_drop]
  simp [Nat.add_assoc,Nat.add_comm 1]
theorem oP {places:List (Nat × Nat)}:∀ (vs:List Value) (cs:List (List Value)) (pre old:List Value) (k:Nat),Cls vs cs→(∀ i,i < cs.length→places[k + i]? = some (pre.length + ((cs.take i).map List.length).sum,(cs.getD i []).length))→old.length=(cs.map List.length).sum →
  Instr.fill (places.toArray[·]?) (pre ++ old).toArray ((vs.zipIdx k).map fun x=>(x.2,x.1))=some (pre ++ cs.flatten).toArray
 | [],[],pre,old,k,_,_,ho=>by
  have:old=[]:=by simpa using ho
  subst this; simp [Instr.fill]
 | [],_ :: _,_,_,_,h,_,_=>h.elim
 | _ :: _,[],_,_,_,h,_,_=>h.elim
 | v :: vs,c :: cs,pre,old,k,⟨h1,h2⟩,hp,ho=>by
  have hp0:=hp 0 (by simp)
  simp at hp0
  simp at ho
  have ih:=oP vs cs (pre ++ c) (old.drop c.length) (k + 1) h2 (fun i hi=>by
   have:=hp (i + 1) (by simp; omega)
   rw [show k + 1 + i=k + (i + 1) by omega,this]; simp; omega) (by simp; omega)
  simp only [List.zipIdx_cons,List.map_cons,Instr.fill]
  have e0:places.toArray[k]? = some (pre.length,c.length):=by simpa using hp0
  simp only [e0]
  rw [if_neg (by rw [h1]; simp; omega)]
  have e:(v.cells.zipIdx.foldl (fun (cs:Array Value) (x:Value × Nat)=>cs.setIfInBounds (pre.length + x.2) x.1) (pre ++ old).toArray)=(pre ++ c ++ old.drop c.length).toArray:=by
   rw [h1]
   have hle:c.length≤old.length:=by omega
   have:=mR c (pre ++ old) pre.length 0 (by simp; omega)
   have e4:c.toArray.zipIdx=(c.zipIdx 0).toArray:=by simp
   rw [e4,List.foldl_toArray,this]
   simp [List.drop_append]
  rw [e,ih]; simp
theorem tV {d:Nat} {t t':TypeId} {pos:String} {af:Array Edge} {szs:List Nat} {parts:Array (Nat × Operand)} {vs:List Value} {cs:List (List Value)} (hd:Nat.blt d N=true)
  (ht:Plc P t szs) (hi:parts.toList.map (·.1)=List.range szs.length) (hx:evs E (parts.toList.map (·.2))=some vs) (hc:Cls vs cs) (hsz:cs.map List.length=szs)
  (h:Ops P r N all K rest D ((d,.agg cs.flatten.toArray) :: E) w):Ops P r N all K (⟨some d,.build t parts,t',pos,af,none⟩ :: rest) D E w:=by
 refine zZ hd (by intro c hc; cases hc) (fun a ha=>?_) h
 obtain ⟨fields,it,z,places,p1,p2,p3,p4,p5,p6⟩:=ht
 have hlen:∀ (vs:List Value) (cs:List (List Value)),Cls vs cs→vs.length=cs.length:=by
  intro vs
  induction vs with
  | nil=>intro cs h; cases cs with
   | nil=>rfl
   | cons=>exact h.elim
  | cons v vs ih=>intro cs h; cases cs with
   | nil=>exact h.elim
   | cons c cs=>simp [ih cs h.2]
 have hparts:parts.toList.map (fun x=>(x.1,a.eval x.2))=vs.zipIdx.map fun x=>(x.2,x.1):=by
  have h3:=ha.evs hx
  have hl:=hlen _ _ hc
  apply List.ext_getElem
  ·have h2:=congrArg List.length hi; have h4:=congrArg List.length hsz; simp at h2 h4; simp; omega
  ·intro n hn1 hn2
   simp at hn1 hn2
   have e1:(parts.toList.map (·.1))[n]'(by simpa using hn1)=n:=by simp [hi]
   have e2:((parts.toList.map (·.2)).map a.eval)[n]'(by simpa using hn1)=vs[n]'(by omega):=by simp [h3]
   simp at e1 e2
   simp [e1,e2]
 have hf:=oP (places:=places) vs cs [] z.cells.toList 0 hc (fun i hi=>by
  have h4:=congrArg List.length hsz
  simp at h4
  have:=p6 i (by omega)
  rw [Nat.zero_add,this,← hsz]; simp [List.map_take,List.getD_eq_getElem?_getD,List.getElem?_map,List.getElem?_eq_getElem hi]) (by rw [hsz]; simpa using p4)
 have e1:(Instr.build t (parts.map fun (i,x)=>(i,a.eval x))).run P w = .ok (.agg cs.flatten.toArray) w:=by
  refine run_build (P:=P) w t _ _ ?_
  unfold Program.built
  rw [p2,p1]
  simp only [p3,p5]
  rw [Array.toList_map,show (List.map (fun (x:Nat × Operand)=>match x with | (i,x)=>(i,a.eval x)) parts.toList)=vs.zipIdx.map fun x=>(x.2,x.1) from hparts]
  simpa using hf
 simp only [execOp,Sem.run_bind,e1,Result.andThen]; rfl
theorem ops_add64 {d:Nat} {f:FuncId} {xs:List Operand} {ts:Array TypeId} {t':TypeId} {pos:String} {af:Array Edge} {fn:Func} {a b c:Nat} (hd:Nat.blt d N=true)
    (hf:P.funcs[f]? = some fn) (hname:(fn.name == "runtime.NumGoroutine")=false) (hb:fn.body.isNone=true) (hn:Extern.findNext fn=none) (he:Extern.find fn=some add64Entry)
    (hxs:evs E xs=some [.int .u64 (a:Int),.int .u64 (b:Int),.int .u64 (c:Int)]) (hc:c≤1)
    (h:Ops P r N all K rest D ((d,.tuple #[.int .u64 (((a + b + c) % 18446744073709551616:Nat):Int),.int .u64 (((a + b + c) / 18446744073709551616:Nat):Int)]) :: E) w) :
    Ops P r N all K (⟨some d,.call ⟨.value (.func f),xs.toArray,ts⟩,t',pos,af,none⟩ :: rest) D E w :=
  zZ hd (by intro c hc; cases hc) (fun ac ha=>by
    have e1:(xs.toArray.map ac.eval)=#[.int .u64 (a:Int),.int .u64 (b:Int),.int .u64 (c:Int)]:=by rw [List.map_toArray,ha.evs hxs]
    have e2:=run_callFunc_extern (P:=P) hf hname hb hn he #[.int .u64 (a:Int),.int .u64 (b:Int),.int .u64 (c:Int)] w
    rw [run_add64 (a:Int) b c (by omega) (by omega) (by omega) (by omega)] at e2
    have e3:ac.eval (.func f) = .func (.func f) #[] #[]:=rfl
    simp only [execOp,resolve,e1,e3,Deferred.ofValue,Sem.run_bind,Sem.run_pure,Result.andThen,invoke]
    simp only [Result.andThen] at e2
    simp only [Array.empty_append,Array.append_empty,e2]
    rfl) h
end strct
theorem bI {P:Program} {w:World} {t te:TypeId} {b i:Nat} {cs:List Value} {u:Value} (ht:Flat P t) (hb:Blk w b te cs) (hu:cs[i]? = some u):(loadVar t ⟨b,i,none⟩).run P w = .ok u w:=by
 have:w.cell? ⟨b,i,none⟩=some u:=by rw [hb.cell]; exact hu
 simp [loadVar,ht w,this]
def Rs (S:Nat→Prop) (a b:World):Prop:=b.os=a.os∧Tp a b∧b.output=a.output∧a.heap.size≤b.heap.size∧∀ k,k < a.heap.size→¬ S k→b.heap[k]? = a.heap[k]?
theorem pR {S:Nat→Prop}:∀ a b c,Rs S a b→Rs S b c→Rs S a c:=fun a b c ⟨h1,h2,h3,h4,h5⟩ ⟨k1,k2,k3,k4,k5⟩ =>
 ⟨k1.trans h1,k2.trans h2,k3.trans h3,Nat.le_trans h4 k4,fun k hk hs=>(k5 k (by omega) hs).trans (h5 k hk hs)⟩
theorem zX8 {S:Nat→Prop}:∀ a b,Rb a b→Rs S a b:=fun a b h=>⟨h.os,h.tape,h.output,h.size,fun k hk _=>h.block k hk⟩
theorem wL {S:Nat→Prop} (w:World):Rs S w { w with drawn:=w.drawn + 1 }:=zX8 _ _ (lU w)
theorem zS3 {b:Nat} {w w':World} (h:Chg w w' b):Rs (·=b) w w':=⟨h.os,h.tape,h.output,by rw [h.size]; exact Nat.le_refl _,fun k _ hk=>h.other k hk⟩
theorem Le.of_rs {Fz M S:Nat→Prop} {w w':World} (h:Rs S w w') (hM:∀ k,S k→M k) (hF:∀ k,S k→¬ Fz k):Le Fz M w M w' :=
 ⟨h.1,h.2.1,h.2.2.1,h.2.2.2.1,fun k hk hf=>h.2.2.2.2 k hk (fun c=>hF k c hf),fun k hk hm=>h.2.2.2.2 k hk (fun c=>hm (hM k c)),fun _ h => .inl h,fun ho k hk=>Nat.lt_of_lt_of_le (ho k hk) h.2.2.2.1⟩
theorem Blk.rs {S:Nat→Prop} {w w':World} {b:Nat} {t:TypeId} {cs:List Value} (h:Blk w b t cs) (hr:Rs S w w') (hs:¬ S b):Blk w' b t cs:=(hr.2.2.2.2 b h.lt hs).trans h
theorem zK1 {w:World} {b c:Nat} {t u:TypeId} {cs ds:List Value} (h:Blk w b t cs) (k:Blk w c u ds) (hne:Nat.beq t u=false ∨ cs.length ≠ ds.length):b ≠ c:=by
 intro e; subst e
 have:=Option.some.inj ((show w.heap[b]? = _ from h).symm.trans k)
 injection this with h1 h2
 rcases hne with hne | hne
 ·exact Nat.ne_of_beq_eq_false hne h2
 ·apply hne; have:=congrArg Array.size h1; simpa using this
theorem rG {P:Program} {r:Option Nat} {N:Nat} {all:Array Oper} {K:Pd} {D:List Deferred} {E:Env} {w:World} {rest:List Oper} {d:Nat} {x ix:Operand} {t e t':TypeId} {pos:String} {af:Array Edge} {b o n c bytes:Nat} {z:Value} {k:IntKind} {i:Int} (j:Nat) (hd:Nat.blt d N=true)
  (ht:P.underlying t=some (.slice e)) (he:Sz P e 1 bytes z) (hx:ev E x=some (.slice (some ⟨b,o,none⟩) n c)) (hi:ev E ix=some (.int k i)) (hij:i=(j:Int)) (hj:j < n)
  (h:Ops P r N all K rest D ((d,.pointer (some ⟨b,o + j,none⟩)) :: E) w) :
  Ops P r N all K (⟨some d,.indexAddr t x ix,t',pos,af,none⟩ :: rest) D E w:=by
 refine zZ hd (by intro c hc; cases hc) (fun a ha=>?_) h
 have e1:(Instr.indexAt t (.slice (some ⟨b,o,none⟩) n c) (.int k i)).run P w = .ok (.pointer (some ⟨b,o + j,none⟩)) w:=by
  subst hij
  simp [Instr.indexAt,asIntOf,run_underlying ht,Result.andThen,jN he,hj,jE]
 simp only [execOp,ha.ev hx,ha.ev hi,Sem.run_bind,e1,Result.andThen]; rfl
theorem aQ {P:Program} {r:Option Nat} {N:Nat} {all:Array Oper} {K:Pd} {D:List Deferred} {E:Env} {w:World} {rest:List Oper} {d:Nat} {x ix:Operand} {t e t':TypeId} {pos:String} {af:Array Edge} {b n c bytes:Nat} {z:Value} {k:IntKind} {i:Int} (j:Nat) (hd:Nat.blt d N=true)
  (ht:P.underlying t=some (.slice e)) (he:Sz P e 1 bytes z) (hx:ev E x=some (.slice (some ⟨b,0,none⟩) n c)) (hi:ev E ix=some (.int k i)) (hij:i=(j:Int)) (hj:j < n)
  (h:Ops P r N all K rest D ((d,.pointer (some ⟨b,j,none⟩)) :: E) w) :
  Ops P r N all K (⟨some d,.indexAddr t x ix,t',pos,af,none⟩ :: rest) D E w:=rG j hd ht he hx hi hij hj (by rw [Nat.zero_add]; exact h)
theorem tK {α:Type} {f:Nat→α} {n:Nat} {pre post:List α} {x:α} (h:(List.range n).map f=pre ++ x :: post):pre.length < n∧x=f pre.length:=by
 have hl:=congrArg List.length h
 simp at hl
 have hx:=congrArg (fun l=>l[pre.length]?) h
 simp [List.getElem?_map,List.getElem?_range (show pre.length < n by omega)] at hx
 exact ⟨by omega,hx.symm⟩
theorem zS4 {α:Type} (f:Nat→α) {n k:Nat} (h:k < n):∃ post,(List.range n).map f=(List.range k).map f ++ f k :: post:=by
 obtain ⟨m,rfl⟩:∃ m,n=k + 1 + m:=⟨n - (k + 1),by omega⟩
 exact ⟨((List.range m).map (k + 1 + ·)).map f,by rw [List.range_add,List.range_succ]; simp⟩
theorem pT {α:Type} (f:Nat→α) (k:Nat):(List.range (k + 1)).map f=(List.range k).map f ++ [f k]:=by rw [List.range_succ]; simp
theorem yD2 {v:Value} (h:v.oneCell'=true):v.cells=[v].toArray:=by cases v <;> first | rfl | simp [Value.oneCell'] at h
theorem own_rs {sz:Nat} {S:Nat→Prop} {w w':World} {e:TypeId} {v:Value} {m:Nat} {xs:List Value} (h:w.ownsRow 0 e sz v m xs) (r:Rs S w w') (hs:∀ k,v.ownBlock=some k→¬ S k):w'.ownsRow 0 e sz v m xs:=by
 obtain ⟨h1,h2 | ⟨g,cap,cur,h3,h4,h5,h6⟩⟩:=h
 ·exact ⟨h1,.inl h2⟩
 ·exact ⟨h1,.inr ⟨g,cap,cur,h3,h4,(r.2.2.2.2 g (Array.getElem?_eq_some_iff.1 h5).1 (hs g (by rw [h3]; rfl))).trans h5,h6⟩⟩
theorem Fresh.rs {e:TypeId} {w0 w w':World} {v:Value} {xs:List Nat} {b:Nat} (h:Fresh e w0 w v xs) (hb:b < w0.heap.size) (r:Rs (·=b) w w'):Fresh e w0 w' v xs :=
 ⟨own_rs h.own r (fun k hk e=>by have:=h.new k hk; subst e; omega),h.new,h.lt,h.len⟩
theorem Fresh.below {e:TypeId} {w0 w w':World} {v:Value} {xs:List Nat} (h:Fresh e w0 w v xs) (r:Bel w.heap.size w w'):Fresh e w0 w' v xs:=⟨gT h.own r,h.new,h.lt,h.len⟩
theorem Fresh.nil {e:TypeId} {w w':World}:Fresh e w w' (.slice none 0 0) []:=⟨wU,fun k hk=>by simp [Value.ownBlock] at hk,by simp,by simp⟩
theorem ops_sliceb {P:Program} {r:Option Nat} {N:Nat} {all:Array Oper} {K:Pd} {D:List Deferred} {E:Env} {w:World} {rest:List Oper} {d:Nat} {x lo hi:Operand} {t e t':TypeId} {pos:String} {af:Array Edge} {b n c bytes:Nat} {z:Value} {k k':IntKind} (l m:Nat) (hd:Nat.blt d N=true)
  (ht:P.underlying t=some (.slice e)) (he:Sz P e 1 bytes z) (hx:ev E x=some (.slice (some ⟨b,0,none⟩) n c)) (hlo:ev E lo=some (.int k (l:Int))) (hhi:ev E hi=some (.int k' (m:Int))) (hlm:l < m) (hmc:m≤c)
  (h:Ops P r N all K rest D ((d,.slice (some ⟨b,l,none⟩) (m - l) (c - l)) :: E) w) :
  Ops P r N all K (⟨some d,.slice t x (some lo) (some hi) none,t',pos,af,none⟩ :: rest) D E w:=by
 refine kK l m c hd ht he hx ⟨_,hlo⟩ ⟨_,hhi⟩ rfl (by omega) hmc (Nat.le_refl _) ?_
 rw [if_neg (by omega)]
 simpa [jE] using h
def ExtF (P:Program) (f:FuncId) (e:Array Value→Sem Value):Prop:=∃ fn,P.funcs[f]? = some fn∧(fn.name == "runtime.NumGoroutine")=false∧fn.body.isNone=true∧Extern.findNext fn=none∧Extern.find fn=some e
theorem ops_add64' {P:Program} {r:Option Nat} {N:Nat} {all:Array Oper} {K:Pd} {D:List Deferred} {E:Env} {w:World} {rest:List Oper} {d:Nat} {f:FuncId} {xs:List Operand} {ts:Array TypeId} {t':TypeId} {pos:String} {af:Array Edge} {a b c:Nat} (hd:Nat.blt d N=true)
  (hf:ExtF P f add64Entry) (hxs:evs E xs=some [.int .u64 (a:Int),.int .u64 (b:Int),.int .u64 (c:Int)]) (hc:c≤1)
  (h:Ops P r N all K rest D ((d,.tuple #[.int .u64 (((a + b + c) % 18446744073709551616:Nat):Int),.int .u64 (((a + b + c) / 18446744073709551616:Nat):Int)]) :: E) w) :
  Ops P r N all K (⟨some d,.call ⟨.value (.func f),xs.toArray,ts⟩,t',pos,af,none⟩ :: rest) D E w:=by
 obtain ⟨fn,h1,h2,h3,h4,h5⟩:=hf
 exact ops_add64 hd h1 h2 h3 h4 h5 hxs hc h
theorem short_step {i H n o x T:Nat} (hn:0 < n) (hx:x < 4294967296) (ho:o=H % n) (hT:T=4294967296 ^ (i + 1) * (H / n)) :
  T + 4294967296 ^ i * ((o * 4294967296 + x) / n)=4294967296 ^ i * ((x + 4294967296 * H) / n)∧(o * 4294967296 + x) % n=(x + 4294967296 * H) % n∧(o * 4294967296 + x) / n < 4294967296:=by
 have hon:o < n:=by rw [ho]; exact Nat.mod_lt _ hn
 have e:x + 4294967296 * H=(o * 4294967296 + x) + n * (4294967296 * (H / n)):=by
  have h1:=Nat.div_add_mod H n
  rw [← ho] at h1
  have h2:4294967296 * H=4294967296 * (n * (H / n)) + 4294967296 * o:=by rw [← Nat.mul_add,h1]
  rw [h2,Nat.mul_left_comm]; omega
 refine ⟨?_,?_,?_⟩
 ·rw [e,Nat.add_mul_div_left _ _ hn,hT,Nat.pow_succ,Nat.mul_add,Nat.mul_assoc]; omega
 ·rw [e,Nat.add_mul_mod_self_left]
 ·rw [Nat.div_lt_iff_lt_mul hn]
  have:(o + 1) * 4294967296≤n * 4294967296:=Nat.mul_le_mul_right _ hon
  rw [Nat.mul_comm 4294967296 n]; omega
theorem zU6 {P:Program} {r:Option Nat} {N:Nat} {Kn Kr:Pd} {Ke Ke':Nat→Pd} {D:List Deferred} {E:Env} {w:World} {x y:Code} (Ec Ej:Env) (hE:Sub Ej E)
  (hx:Wp P r N x (fun D' E' w'=>D'=D∧w'=w∧Sub (Ec ++ Ej) E') Ke Kr D E w) (hy:Wp P r N y Kn Ke' Kr D (Ec ++ Ej) w):Wp P r N x (fun D E w=>Wp P r N y Kn Ke' Kr D E w) Ke Kr D E w :=
 wE hx fun D' E' w' ⟨h1,h2,h3⟩=>by subst h1; subst h2; exact wp_sub h3 hy
theorem nG {w:World} {b:Nat} {t:TypeId} {rs:List Nat} {ex:List Value} {j:Nat} (B:Blk w b t (rs.map lw ++ ex)) (hj:j < rs.length):w.cell? ⟨b,j,none⟩=some (lw (rs.getD j 0)):=by
 rw [B.cell,List.getElem?_append_left (by simpa using hj)]; exact uE hj
theorem zM1 {rs:List Nat} {ex:List Value} {j v:Nat} (hj:j < rs.length):(rs.map lw ++ ex).set j (lw v)=(rs.set j v).map lw ++ ex:=by
 rw [List.set_append,if_pos (by simpa using hj),List.map_set]
theorem pG (n:Nat):n &&& 4294967295=n % 4294967296:=Nat.and_two_pow_sub_one_eq_mod n 32
theorem less_step {zs:List Nat} {R p i o o' u u' x m y old lo Y:Nat} (hz:p + i < zs.length) (h:val zs + 4294967296 ^ p * (m * Y)=R + 4294967296 ^ (p + i) * (o + u)) (hlo:x * m + o=lo + 4294967296 * o')
  (hy:y + lo + u=old + 4294967296 * u') (hold:zs.getD (p + i) 0=old):val (zs.set (p + i) y) + 4294967296 ^ p * (m * (Y + 4294967296 ^ i * x))=R + 4294967296 ^ (p + (i + 1)) * (o' + u'):=by
 have hv:=bQ (zs:=zs) (j:=p + i) y hz
 rw [hold] at hv
 have e1:4294967296 ^ p * (m * (Y + 4294967296 ^ i * x))=4294967296 ^ p * (m * Y) + 4294967296 ^ (p + i) * (x * m):=by
  rw [Nat.mul_add,Nat.mul_add,Nat.pow_add,Nat.mul_assoc,Nat.mul_left_comm m,Nat.mul_comm m x]
 have e2:4294967296 ^ (p + (i + 1)) * (o' + u')=4294967296 ^ (p + i) * (4294967296 * (o' + u')):=by rw [show p + (i + 1)=(p + i) + 1 from rfl,Nat.pow_succ,Nat.mul_assoc]
 rw [e1,e2]
 generalize 4294967296 ^ (p + i)=Q at *
 have e3:Q * (o + u) + Q * y + Q * (x * m)=Q * old + Q * (4294967296 * (o' + u')):=by rw [← Nat.mul_add,← Nat.mul_add,← Nat.mul_add]; congr 1; omega
 omega
theorem more_step {zs:List Nat} {R p i o O x old Y:Nat} (hz:p + i < zs.length) (h:val zs + 4294967296 ^ (p + i) * o=R + 4294967296 ^ p * Y) (hO:O=o + x + old) (hold:zs.getD (p + i) 0=old) :
  val (zs.set (p + i) (O % 4294967296)) + 4294967296 ^ (p + (i + 1)) * (O / 4294967296)=R + 4294967296 ^ p * (Y + 4294967296 ^ i * x):=by
 have hv:=bQ (zs:=zs) (j:=p + i) (O % 4294967296) hz
 rw [hold] at hv
 have e1:4294967296 ^ p * (Y + 4294967296 ^ i * x)=4294967296 ^ p * Y + 4294967296 ^ (p + i) * x:=by rw [Nat.mul_add,Nat.pow_add,Nat.mul_assoc]
 have e2:4294967296 ^ (p + (i + 1)) * (O / 4294967296)=4294967296 ^ (p + i) * (4294967296 * (O / 4294967296)):=by rw [show p + (i + 1)=(p + i) + 1 from rfl,Nat.pow_succ,Nat.mul_assoc]
 rw [e1,e2]
 generalize 4294967296 ^ (p + i)=Q at *
 have e3:Q * (O % 4294967296) + Q * (4294967296 * (O / 4294967296))=Q * o + Q * x + Q * old:=by rw [← Nat.mul_add,← Nat.mul_add,← Nat.mul_add]; congr 1; omega
 omega
theorem val_high {zs:List Nat} {n:Nat} (h:∀ z ∈ zs,z < 4294967296) (hz:∀ j,n≤j→zs.getD j 0=0):val zs < 4294967296 ^ n:=by
 rw [← eG hz]
 have h1:=yM (zs.take n) (fun z hm=>h z (List.mem_of_mem_take hm))
 exact Nat.lt_of_lt_of_le h1 (Nat.pow_le_pow_right (by omega) (by simp; omega))
theorem Blk.eq {w:World} {b:Nat} {t:TypeId} {cs ds:List Value} (h:Blk w b t cs) (e:cs=ds):Blk w b t ds:=e ▸ h
theorem Blk.le {Fz M M':Nat→Prop} {w w':World} {b:Nat} {t:TypeId} {cs:List Value} (h:Blk w b t cs) (l:Le Fz M w M' w') (hm:¬ M b):Blk w' b t cs:=(l.imm b h.lt hm).trans h
theorem Le.drift_to {Fz T:Nat→Prop} {n:Nat} {w w':World} (l:Le Fz T w T w') (hn:n≤w.heap.size):Drift T n w w' :=
 ⟨l.os,l.tape,l.output,l.size,fun k hk ht=>l.imm k (by omega) ht,fun k cs t fz ht hc=>(l.imm k (Array.getElem?_eq_some_iff.1 hc).1 ht).trans hc⟩
theorem wG {zs:List Nat} {n:Nat} (hz:∀ j,n < j→zs.getD j 0=0):val zs=val (zs.take n) + 4294967296 ^ n * zs.getD n 0:=by
 rw [← xE,eG (fun j hj=>hz j (by omega))]
theorem guess_ok {zs ys:List Nat} {p:Nat} (hzl:∀ z ∈ zs,z < 4294967296) (hz:∀ j,p + ys.length < j→zs.getD j 0=0) (hS:val zs < 4294967296 ^ (p + 1) * val ys) (hy:0 < ys.length) (ht:0 < ys.getD (ys.length - 1) 0) :
  val zs < 4294967296 ^ p * val ys * (min ((zs.getD (p + ys.length) 0 * 4294967296 + zs.getD (p + ys.length - 1) 0) / ys.getD (ys.length - 1) 0) 4294967295 + 1):=by
 rcases Nat.le_total ((zs.getD (p + ys.length) 0 * 4294967296 + zs.getD (p + ys.length - 1) 0) / ys.getD (ys.length - 1) 0) 4294967295 with h | h
 ·rw [Nat.min_eq_left h]
  generalize hT:zs.getD (p + ys.length) 0 * 4294967296 + zs.getD (p + ys.length - 1) 0=T at *
  generalize hv:ys.getD (ys.length - 1) 0=v at *
  obtain ⟨n,hn⟩:∃ n,ys.length=n + 1:=⟨ys.length - 1,by omega⟩
  have e1:val zs=val (zs.take (p + n)) + 4294967296 ^ (p + n) * T:=by
   rw [wG hz,hn,show p + (n + 1)=(p + n) + 1 from rfl,xE,← hT,hn,show p + (n + 1) - 1=p + n by omega,Nat.pow_succ,Nat.mul_add,show p + (n + 1)=(p + n) + 1 from rfl,Nat.mul_assoc,Nat.mul_comm (zs.getD (p + n + 1) 0)]; omega
  have h2:val (zs.take (p + n)) < 4294967296 ^ (p + n):=by
   have:=yM (zs.take (p + n)) (fun z hm=>hzl z (List.mem_of_mem_take hm))
   exact Nat.lt_of_lt_of_le this (Nat.pow_le_pow_right (by omega) (by simp; omega))
  have h3:T + 1≤v * (T / v + 1):=Nat.lt_mul_div_succ T ht
  have h4:4294967296 ^ n * v≤val ys:=by
   have e:val ys=val (ys.take n) + 4294967296 ^ n * v:=by
    rw [wG (zs:=ys) (n:=n) (fun j hj=>yS (by omega)),← hv,hn,Nat.add_sub_cancel]
   omega
  have h5:val zs < 4294967296 ^ (p + n) * (T + 1):=by rw [e1,Nat.mul_add]; omega
  refine Nat.lt_of_lt_of_le h5 ?_
  calc 4294967296 ^ (p + n) * (T + 1)≤4294967296 ^ (p + n) * (v * (T / v + 1)):=Nat.mul_le_mul_left _ h3
   _=4294967296 ^ p * (4294967296 ^ n * v) * (T / v + 1):=by rw [Nat.pow_add]; simp only [Nat.mul_assoc]
   _≤4294967296 ^ p * val ys * (T / v + 1):=Nat.mul_le_mul_right _ (Nat.mul_le_mul_left _ h4)
 ·rw [Nat.min_eq_right h]
  rw [Nat.pow_succ,Nat.mul_right_comm] at hS; exact hS
theorem vP {S D q z:Nat} (h:z + D * q=S) (h2:S < D * (q + 1)):q=S / D∧z=S % D:=by
 have hD:0 < D:=Nat.pos_of_ne_zero fun e=>by subst e; simp at h2
 have hz:z < D:=by rw [Nat.mul_add] at h2; omega
 rw [← h,Nat.add_mul_div_left _ _ hD,Nat.div_eq_of_lt hz,Nat.add_mul_mod_self_left,Nat.mod_eq_of_lt hz]; omega
theorem high_zero {zs:List Nat} {n:Nat} (h:val zs < 4294967296 ^ n):∀ j,n≤j→zs.getD j 0=0:=fun j hj=>Classical.byContradiction fun c=>by
 have h1:=nN zs j c
 have h2:(4294967296:Nat) ^ n≤4294967296 ^ j:=Nat.pow_le_pow_right (by omega) hj
 omega
structure Own (M:Nat→Prop) (e:TypeId) (w0 w:World) (v:Value) (xs:List Nat):Prop where
 fresh:Fresh e w0 w v xs
 out:∀ k,v.ownBlock=some k→¬ M k
theorem own_le {sz:Nat} {Fz M M':Nat→Prop} {w w':World} {e:TypeId} {v:Value} {m:Nat} {xs:List Value} (h:w.ownsRow 0 e sz v m xs) (l:Le Fz M w M' w') (hm:∀ k,v.ownBlock=some k→¬ M k):w'.ownsRow 0 e sz v m xs:=by
 obtain ⟨h1,h2 | ⟨g,cap,cur,h3,h4,h5,h6⟩⟩:=h
 ·exact ⟨h1,.inl h2⟩
 ·exact ⟨h1,.inr ⟨g,cap,cur,h3,h4,(l.imm g (Array.getElem?_eq_some_iff.1 h5).1 (hm g (by rw [h3]; rfl))).trans h5,h6⟩⟩
theorem Own.mono {Fz M M':Nat→Prop} {e:TypeId} {w0 w w':World} {v:Value} {xs:List Nat} (h:Own M e w0 w v xs) (l:Le Fz M w M' w'):Own M' e w0 w' v xs :=
 ⟨⟨own_le h.fresh.own l h.out,h.fresh.new,h.fresh.lt,h.fresh.len⟩,fun k hk hm=>(l.chg k hm).elim (h.out k hk) (fun c=>by have:=(h.fresh.own.lt k hk).2; omega)⟩
theorem Own.drift {M T:Nat→Prop} {n:Nat} {e:TypeId} {w0 w w':World} {v:Value} {xs:List Nat} (h:Own M e w0 w v xs) (d:Drift T n w w') (hT:∀ k,T k→M k):Own M e w0 w' v xs :=
 ⟨⟨tQ h.fresh.own d (fun k hk c=>h.out k hk (hT k c)),h.fresh.new,h.fresh.lt,h.fresh.len⟩,h.out⟩
theorem Own.nat {M:Nat→Prop} {e:TypeId} {w0 w:World} {v:Value} {xs:List Nat} (h:Own M e w0 w v xs):IsNat M w v xs:=⟨oW h.fresh.own h.out h.fresh.len,h.fresh.lt⟩
theorem Own.of {M:Nat→Prop} {e:TypeId} {w0 wc w:World} {v:Value} {xs:List Nat} (hf:Fresh e wc w v xs) (hM:OkM M wc) (hs:w0.heap.size≤wc.heap.size):Own M e w0 w v xs :=
 ⟨hf.less hs,fun k hk hm=>by have:=hM k hm; have:=hf.new k hk; omega⟩
theorem rs_grown {w w':World} {row:Option Nat} (h:Gro w w' row):Rs (fun k=>row=some k) w w':=⟨h.os,h.tape,h.output,h.size,fun k hk hs=>h.block k hk (fun e=>hs e.symm)⟩
theorem own_to_blk {w:World} {e:TypeId} {v:Value} {xs:List Nat} {n:Nat} (h:w.ownsRow 0 e 1 v n (xs.map lw)) (hn:0 < n):∃ b cap ex,v = .slice (some ⟨b,0,none⟩) n cap∧Blk w b e (xs.map lw ++ ex)∧cap=n + ex.length:=by
 obtain ⟨b,cur,cap,ho⟩:=zN1 h hn
 refine ⟨b,cap,cur.drop n,ho.eq,?_,?_⟩
 ·have:=ho.blk; rw [← List.take_append_drop n cur,ho.take] at this; exact this
 ·have:=ho.len; have:=ho.le; simp; omega
theorem Le.of_rs_to {Fz M M' S:Nat→Prop} {w w':World} (h:Rs S w w') (hM:∀ k,S k→M k) (hF:∀ k,S k→¬ Fz k) (h1:∀ k,M' k→M k ∨ w.heap.size≤k) (h2:∀ k,M' k→M k ∨ k < w'.heap.size):Le Fz M w M' w' :=
 ⟨h.1,h.2.1,h.2.2.1,h.2.2.2.1,fun k hk hf=>h.2.2.2.2 k hk (fun c=>hF k c hf),fun k hk hm=>h.2.2.2.2 k hk (fun c=>hm (hM k c)),h1,fun ho k hk=>(h2 k hk).elim (fun c=>Nat.lt_of_lt_of_le (ho k c) h.2.2.2.1) id⟩
theorem Keep.drift {M T:Nat→Prop} {w0 w w':World} (h:Keep M w0 w) (d:Drift T w0.heap.size w w') (hT:∀ k,T k→M k):Keep M w0 w' :=
 ⟨Nat.le_trans h.1 d.size,fun k hk hm=>(d.low k hk (fun c=>hm (hT k c))).trans (h.2 k hk hm)⟩
theorem Keep.chg {M:Nat→Prop} {w0 w w':World} {b:Nat} (h:Keep M w0 w) (c:Chg w w' b) (hb:M b):Keep M w0 w' :=
 ⟨by rw [c.size]; exact h.1,fun k hk hm=>(c.other k (fun e=>hm (e ▸ hb))).trans (h.2 k hk hm)⟩
theorem dP {n k:Nat} (h:4294967296 ^ k≤n):k < (limbs n).length:=by
 have h1:=yM (limbs n) (yQ n)
 rw [zJ] at h1
 exact (Nat.pow_lt_pow_iff_right (by omega)).1 (Nat.lt_of_le_of_lt h h1)
theorem aL {n:Nat} (h:n ≠ 0):4294967296 ^ ((limbs n).length - 1)≤n:=by
 have hne:limbs n ≠ []:=fun e=>h (jZ.1 e)
 have:=nN (limbs n) _ (dQ hne)
 rwa [zJ] at this
theorem norm_by {Y k:Nat} (hY:Y ≠ 0) (hk:k + xU ((limbs Y).getD ((limbs Y).length - 1) 0)=32):(limbs (Y * 2 ^ k)).length=(limbs Y).length∧0 < (limbs (Y * 2 ^ k)).getD ((limbs (Y * 2 ^ k)).length - 1) 0:=by
 have hne:limbs Y ≠ []:=fun e=>hY (jZ.1 e)
 have hlp:0 < (limbs Y).length:=List.length_pos_iff.2 hne
 have hYk:Y * 2 ^ k ≠ 0:=Nat.mul_ne_zero hY (Nat.ne_of_gt (yO k))
 have hb:=bits_limbs hne
 have h1:xU (Y * 2 ^ k)=32 * (limbs Y).length:=by rw [oQ _ (Nat.pos_of_ne_zero hY),hb]; omega
 have h2:Y * 2 ^ k < 4294967296 ^ (limbs Y).length:=by rw [fG,← h1]; exact sL _
 have h3:=zS h2
 have h4:4294967296 ^ ((limbs Y).length - 1)≤Y * 2 ^ k:=Nat.le_trans (aL hY) (Nat.le_mul_of_pos_right _ (yO k))
 have h5:=dP h4
 exact ⟨by omega,Nat.pos_of_ne_zero (dQ (fun e=>hYk (jZ.1 e)))⟩
theorem up_lens {X k:Nat} (hX:X ≠ 0) (hk:k < 32):(limbs X).length≤(limbs (X * 2 ^ k)).length∧(limbs (X * 2 ^ k)).length≤(limbs X).length + 1:=by
 have hne:limbs X ≠ []:=fun e=>hX (jZ.1 e)
 have hlp:0 < (limbs X).length:=List.length_pos_iff.2 hne
 have h1:=dP (Nat.le_trans (aL hX) (Nat.le_mul_of_pos_right X (yO k)))
 have h2:X * 2 ^ k < 4294967296 ^ ((limbs X).length + 1):=by
  have h3:=yM (limbs X) (yQ X)
  rw [zJ] at h3
  have h4:2 ^ k≤4294967296:=aW (by omega)
  calc X * 2 ^ k≤X * 4294967296:=Nat.mul_le_mul_left _ h4
   _ < 4294967296 ^ (limbs X).length * 4294967296:=(Nat.mul_lt_mul_right (by omega)).2 h3
   _=_:=(Nat.pow_succ _ _).symm
 exact ⟨by omega,zS h2⟩
theorem div_room {X Y k m:Nat} (hY:Y ≠ 0) (hm:m + (limbs Y).length=(limbs X).length + 1):X * 2 ^ k < 4294967296 ^ m * (Y * 2 ^ k):=by
 have hne:limbs Y ≠ []:=fun e=>hY (jZ.1 e)
 have hlp:0 < (limbs Y).length:=List.length_pos_iff.2 hne
 have h1:=yM (limbs X) (yQ X)
 rw [zJ] at h1
 rw [← Nat.mul_assoc]
 refine (Nat.mul_lt_mul_right (yO k)).2 (Nat.lt_of_lt_of_le h1 ?_)
 calc 4294967296 ^ (limbs X).length=4294967296 ^ m * 4294967296 ^ ((limbs Y).length - 1):=by rw [← Nat.pow_add]; congr 1; omega
  _≤_:=Nat.mul_le_mul_left _ (aL hY)
theorem val_digits {N:Nat}:∀ {zs:List Nat} {m:Nat},zs.length=m→(∀ i,i < m→zs.getD i 0=N / 4294967296 ^ i % 4294967296)→val zs=N % 4294967296 ^ m:=by
 intro zs m hl h
 have key:∀ k,k≤m→val (zs.take k)=N % 4294967296 ^ k:=by
  intro k
  induction k with
  | zero=>intro _; simp [val,Nat.mod_one]
  | succ k ih =>
   intro hk
   rw [xE,ih (by omega),h k (by omega),Nat.pow_succ,Nat.mod_mul]
 have:=key m (Nat.le_refl _)
 rwa [List.take_of_length_le (by omega)] at this
theorem quot_digits {A V m:Nat} {zs:List Nat} (hl:zs.length=m) (hV:0 < V) (hA:A < 4294967296 ^ m * V) (h:∀ j,j < m→zs.getD (m - j - 1) 0=A / (4294967296 ^ (m - j - 1) * V) % 4294967296):val zs=A / V:=by
 rw [val_digits (N:=A / V) hl (fun i hi=>by
  have:=h (m - i - 1) (by omega)
  rw [show m - (m - i - 1) - 1=i by omega] at this
  rw [this,Nat.div_div_eq_div_mul,Nat.mul_comm V])]
 exact Nat.mod_eq_of_lt ((Nat.div_lt_iff_lt_mul hV).2 hA)
theorem rest_down {X Y k:Nat} (hY:0 < Y):X * 2 ^ k % (Y * 2 ^ k) / 2 ^ k=X % Y:=by
 rw [Nat.mul_mod_mul_right,Nat.mul_div_cancel _ (yO k)]
theorem yF3 {a b:Nat} {Q:Nat→Prop} (ha:Q a) (hb:Q b):∀ k,(k=a ∨ k=b)→Q k:=fun k h=>h.elim (fun e=>e ▸ ha) (fun e=>e ▸ hb)
theorem yC {a b:Nat} (h:a≤b):(limbs a).length≤(limbs b).length:=by
 rcases Nat.eq_zero_or_pos a with h0 | h0
 ·subst h0; rw [yB]; exact Nat.zero_le _
 ·have h1:=dP (Nat.le_trans (aL (Nat.ne_of_gt h0)) h)
  omega
theorem cls_nil:Cls [] []:=trivial
theorem zQ2 {v:Value} {vs:List Value} {c:List Value} {cs:List (List Value)} (h:v.cells=c.toArray) (k:Cls vs cs):Cls (v :: vs) (c :: cs):=⟨h,k⟩
end Go.SL
