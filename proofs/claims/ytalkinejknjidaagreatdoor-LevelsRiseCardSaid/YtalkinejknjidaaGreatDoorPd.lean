/- Lemmas and walks of functions; no statement. -/
import Derived.Test.YtalkinejknjidaaGreatDoorPc
set_option linter.unusedVariables false
set_option linter.unusedSimpArgs false
set_option maxRecDepth 100000
namespace Go.SL
open Go.RowKit
class SzC (c:CT) (k:outParam Nat):Prop where h:c.sz=k
class SzL (l:List CT) (k:outParam Nat):Prop where h:szs l=k
instance {v:Value}:SzC (xc v) 1:=⟨rfl⟩
instance {k:Nat} {l:List CT}:SzC (sl k l) 1:=⟨rfl⟩
instance:SzL [] 0:=⟨rfl⟩
instance {c:CT} {l:List CT} {a b:Nat} [h:SzC c a] [k:SzL l b]:SzL (c :: l) (a + b):=⟨by unfold szs; rw [h.h,k.h]⟩
instance {l:List CT} {a:Nat} [h:SzL l a]:SzC (st l) a:=⟨h.h⟩
class Sb (k t:Nat) (d:outParam Nat):Prop where h:t=d + k + 1
instance {k d:Nat}:Sb k (d + k + 1) d:=⟨rfl⟩
class AO (cs:List CT) (o:Nat) (c:outParam CT):Prop where h:∀ {M w us},stp cs M w us→c.p M w ((us.drop o).take c.sz)
instance {c:CT} {r:List CT}:AO (c :: r) 0 c:=⟨fun ⟨a,b,e,h1,h2⟩=>by rw [e,← c.len h1,List.drop_zero,List.take_left]; exact h1⟩
instance (priority:=low) {c d:CT} {r:List CT} {o o' k:Nat} [h:SzC c k] [s:Sb k (o + 1) o'] [h2:AO r o' d]:AO (c :: r) o d:=⟨fun ⟨a,b,e,h1,h3⟩=>by
 have e2:o=a.length + o':=by have:=s.h; have:=h.h; have:=c.len h1; omega
 rw [e,e2,← List.drop_drop,List.drop_left]; exact h2.h h3⟩
instance (priority:=90) {c d:CT} {r:List CT} {o:Nat} [h:FA c o d]:AO (c :: r) o d:=⟨fun {M w us} ⟨a,b,e,h1,h3⟩=>by
 have h4:=h.h h1
 have h5:=d.len h4
 rw [List.length_take,List.length_drop] at h5
 rcases Nat.eq_zero_or_pos d.sz with h0 | h0
 ·rw [h0] at h4 ⊢; simpa using h4
 ·have e2:((us.drop o).take d.sz)=((a.drop o).take d.sz):=by
   rw [e,List.drop_append_of_le_length (by omega),List.take_append_of_le_length (by rw [List.length_drop]; omega)]
  rw [e2]; exact h4⟩
instance {l:List CT} {o:Nat} {c:CT} [h:AO l o c]:FA (st l) o c:=⟨h.h⟩
class SBi (S:List Ow) (b:Nat) (i:outParam Nat) (ty:outParam TypeId) (cs:outParam (List CT)):Prop where h:S[i]? = some (.blk b ty cs)
instance {S:List Ow} {b:Nat} {ty:TypeId} {cs:List CT}:SBi (.blk b ty cs :: S) b 0 ty cs:=⟨rfl⟩
instance (priority:=low) {S:List Ow} {o:Ow} {b i:Nat} {ty:TypeId} {cs:List CT} [h:SBi S b i ty cs]:SBi (o :: S) b (i + 1) ty cs:=⟨by simpa using h.h⟩
class SRi (S:List Ow) (v:Value) (i:outParam Nat) (ty:outParam TypeId) (k:outParam Nat) (l:outParam (List CT)):Prop where h:S[i]? = some (.row v ty k l)
instance {S:List Ow} {v:Value} {ty:TypeId} {k:Nat} {l:List CT}:SRi (.row v ty k l :: S) v 0 ty k l:=⟨rfl⟩
instance (priority:=low) {S:List Ow} {o:Ow} {v:Value} {i:Nat} {ty:TypeId} {k:Nat} {l:List CT} [h:SRi S v i ty k l]:SRi (o :: S) v (i + 1) ty k l:=⟨by simpa using h.h⟩
class IJ (i:Int) (j:outParam Nat) (C:outParam Prop):Prop where h:C→i=(j:Int)
instance {j:Nat}:IJ (j:Int) j True:=⟨fun _=>rfl⟩
class LitZ (i:Int) (k:outParam Nat):Prop where h:i=(k:Int)
instance:LitZ 0 0:=⟨rfl⟩
instance:LitZ 1 1:=⟨rfl⟩
instance:LitZ 2 2:=⟨rfl⟩
instance:LitZ 3 3:=⟨rfl⟩
instance:LitZ 4 4:=⟨rfl⟩
instance:LitZ 8 8:=⟨rfl⟩
instance:LitZ 31 31:=⟨rfl⟩
instance:LitZ 32 32:=⟨rfl⟩
instance:LitZ 33 33:=⟨rfl⟩
instance:LitZ 64 64:=⟨rfl⟩
instance (priority:=low) {i:Int} {k:Nat} [h:LitZ i k]:IJ i k True:=⟨fun _=>h.h⟩
instance {i i':Int} {j k:Nat} {C D G:Prop} [h:IJ i j C] [h':IJ i' k D] [g:An C D G]:IJ (i + i') (j + k) G:=⟨fun c=>by rw [h.h (g.h c).1,h'.h (g.h c).2]; rfl⟩
instance {i i':Int} {j k:Nat} {C D G G':Prop} [h:IJ i j C] [h':IJ i' k D] [g:An C D G] [g':An (k≤j) G G']:IJ (i - i') (j - k) G':=⟨fun c=>by rw [h.h (g.h (g'.h c).2).1,h'.h (g.h (g'.h c).2).2,Int.ofNat_sub (g'.h c).1]⟩
instance {i i':Int} {j k:Nat} {C D G G':Prop} [h:IJ i j C] [h':IJ i' k D] [g:An C D G] [g':An (0 < k) G G']:IJ (i / i') (j / k) G':=⟨fun c=>by rw [h.h (g.h (g'.h c).2).1,h'.h (g.h (g'.h c).2).2]; rfl⟩
section ops
variable {P : Program} {r : Option Nat} {N : Nat} {ops : Array Oper} {M : Nat → Prop} {S : List Ow} {p q qx qy qi : Prop} {Γ : TE} {Ψx Ψy Ψi Ψ : PV} {d : Nat} {x y ix : Operand} {t t' e : TypeId} {pos : String} {af : Array Edge} {a : Bool} {sz bytes n j : Nat} {l : List CT} {c c' : CT} {v : Value}
theorem oflx {f off:Nat} (hx:tv Γ x=some (qx,ag c)) [Im p qx] [ht:TFd P t f a off sz] [ha:FA c off c'] (hs:Nat.beq c'.sz sz=true) [hl:LdA a c' Ψ]:Ob P r N ops M S p ⟨some d,.field t x f,t',pos,af,none⟩ Γ Ψ :=
 ob1 hx (by simp [Op.operands]) fun D E w u hN hg e1 ⟨us,e,h1⟩=>by
  subst e
  obtain ⟨fields,fd,bytes,z,k1,k2,k3,k4,k5,k6⟩:=ht.h
  have h2:=ha.h h1
  have h3:=hl.h h2
  have h4:=c'.len h2
  have h6:=Nat.eq_of_beq_eq_true hs
  subst h6
  subst k3
  cases a with
  | true =>
   refine ops_fielda hN k1 k2 k4 k6 e1 ?_ rfl (fin h3)
   rw [Nat.ble_eq]
   have h7:=Nat.ne_of_beq_eq_false k5
   simp only [List.length_take,List.length_drop] at h4; omega
  | false =>
   obtain ⟨k6,k7⟩:=k6
   rw [k7] at h4 k4
   obtain ⟨v,hv⟩:=List.length_eq_one_iff.1 h4
   rw [k7] at h3
   have h8:us[fd.offset]? = some v:=by
    have:=congrArg (fun l:List Value=>l[0]?) hv
    simpa using this
   exact ops_fieldc hN k1 k2 k4 k6 e1 h8 (fin (h3 v hv))
theorem oldw {b o:Nat} {ty:TypeId} {cs:List CT} (hx:tv Γ x=some (qx,exP (.pointer (some ⟨b,o,none⟩)))) [Im p qx] {i:Nat} (hi:S[i]? = some (.blk b ty cs)) [ht:TLd P t a sz] [ha:AO cs o c] (hs:Nat.beq c.sz sz=true) [hl:LdA a c Ψ]:Ob P r N ops M S p ⟨some d,.load t x,t',pos,af,none⟩ Γ Ψ :=
 ob1 hx (by simp [Op.operands]) fun D E w u hN hg e1 h1=>by
  obtain rfl:u=_:=h1
  obtain ⟨vs,k3,k4⟩:=hg.own _ (List.mem_of_getElem? hi)
  have h3:=ha.h k4
  have h4:=hl.h h3
  have h7:=c.len h3
  have h6:=Nat.eq_of_beq_eq_true hs
  have h2:∀ (j:Nat) (u:Value),((vs.drop o).take c.sz)[j]? = some u→w.cell? ⟨b,o + j,none⟩=some u:=fun j u hj=>by
   rw [k3.cell]
   rw [List.getElem?_take] at hj
   split at hj
   ·simpa using hj
   ·cases hj
  have h5:=ht.h
  cases a with
  | true =>
   obtain ⟨bytes,z,k2⟩:=ht.s
   exact cR hN h5 k2 e1 h2 (h7.trans h6) (fin h4)
  | false =>
   obtain ⟨k1,rfl⟩:=h5
   rw [h6] at h7 h2 h4
   obtain ⟨v,hv⟩:=List.length_eq_one_iff.1 h7
   rw [hv] at h2 h4
   exact xC hN k1 e1 (by have:=h2 0 v rfl; simpa using this) (fin (h4 v rfl))
theorem ofow {b o f off:Nat} (hx:tv Γ x=some (qx,exP (.pointer (some ⟨b,o,none⟩)))) [Im p qx] [ht:TFd P t f a off sz]:Ob P r N ops M S p ⟨some d,.fieldAddr t x f,t',pos,af,none⟩ Γ (exP (.pointer (some ⟨b,o + off,none⟩))) :=
 ob1 hx (by simp [Op.operands]) fun D E w u hN hg e1 h1=>by
  obtain rfl:u=_:=h1
  obtain ⟨fields,fd,bytes,z,k1,k2,k3,k4,k5,_⟩:=ht.h
  exact qW off hN k1 k2 k3 k4 k5 e1 (fin rfl)
theorem onca {b o:Nat} (hx:tv Γ x=some (qx,exP (.pointer (some ⟨b,o,none⟩)))) [Im p qx]:Ob P r N ops M S p ⟨some d,.nilCheck x,t',pos,af,none⟩ Γ (exP (.pointer (some ⟨b,o,none⟩))) :=
 ob1 hx (by simp [Op.operands]) fun D E w u hN hg e1 h1=>by obtain rfl:u=_:=h1; exact yP hN e1 (fin rfl)
instance {f off:Nat} [h:TV Γ x qx (pa c)] [Im p qx] [TFd P t f a off sz] [FA c off c']:OB P r N ops S p (.fieldAddr t x f) t' Γ (pa c') True:=⟨fun _=>ofx h.h⟩
instance {b o f off:Nat} [h:TV Γ x qx (exP (.pointer (some ⟨b,o,none⟩)))] [Im p qx] [TFd P t f a off sz]:OB P r N ops S p (.fieldAddr t x f) t' Γ (exP (.pointer (some ⟨b,o + off,none⟩))) True:=⟨fun _=>ofow h.h⟩
instance {b o:Nat} [h:TV Γ x qx (exP (.pointer (some ⟨b,o,none⟩)))] [Im p qx]:OB P r N ops S p (.nilCheck x) t' Γ (exP (.pointer (some ⟨b,o,none⟩))) True:=⟨fun _=>onca h.h⟩
instance [h:TV Γ x qx (pa c)] [Im p qx]:OB P r N ops S p (.nilCheck x) t' Γ (pa c) True:=⟨fun _=>onc h.h⟩
instance {f off:Nat} [h:TV Γ x qx (ag c)] [Im p qx] [TFd P t f a off sz] [FA c off c'] [LdA a c' Ψ]:OB P r N ops S p (.field t x f) t' Γ Ψ (Nat.beq c'.sz sz=true):=⟨fun g=>oflx h.h g⟩
instance [h:TV Γ x qx Ψx] [Im p qx] [TLd P t a sz] [LP S Ψx c] [LdA a c Ψ]:OB P r N ops S p (.load t x) t' Γ Ψ (Nat.beq c.sz sz=true):=⟨fun g=>old h.h g⟩
instance {b o i:Nat} {ty:TypeId} {cs:List CT} [h:TV Γ x qx (exP (.pointer (some ⟨b,o,none⟩)))] [Im p qx] [k:SBi S b i ty cs] [TLd P t a sz] [AO cs o c] [LdA a c Ψ]:OB P r N ops S p (.load t x) t' Γ Ψ (Nat.beq c.sz sz=true):=⟨fun g=>oldw h.h k.h g⟩
instance {k:IntKind} {i:Int} {C D:Prop} [h:TV Γ x qx Ψx] [g:TV Γ ix qi Ψi] [Im p qx] [Im p qi] [TSl P t e sz bytes] [VS Ψx sz l] [VI Ψi k i] [ij:IJ i j C] [LL l n] [LA l j c] [an:An C (j < n) D]:OB P r N ops S p (.indexAddr t x ix) t' Γ (pa c) (p→D):=⟨fun b=>oix j h.h g.h (Nat.beq_refl _) (fun q=>ij.h (an.h (b q)).1) fun q=>(an.h (b q)).2⟩
instance {i:Nat} [h:TV Γ x qx (exP v)] [Im p qx] [g:SRi S v i e sz l] [TSl P t e sz bytes] [LL l n]:OB P r N ops S p (.call ⟨.builtin .len,#[x],#[t]⟩) t' Γ (exP (.int .i64 (n:Int))) True:=⟨fun _=>olno i h.h g.h⟩
end ops
section steps
variable {P : Program} {r : Option Nat} {N : Nat} {X : Cx} {K : TK} {Γ : TE} {S : List Ow} {ops : Array Oper} {l l' : List Oper} {i d dj j m : Nat} {op : Op} {t' : TypeId} {pos : String} {af : Array Edge} {q A : Prop} {Ψ Φ : PV} {γ b : Bool} {F : TE → Prop} {G : List Pv → TE → Prop} {th : Nat → Option (World × Gh → Prop)} {ps : List Pv} {cs : List (Nat × Nat × Nat)}
class Dr (l:List Oper) (m:Nat) (l':outParam (List Oper)):Prop where h:l.drop m=l'
instance:Dr l 0 l:=⟨rfl⟩
instance {o:Oper} [h:Dr l m l']:Dr (o :: l) (m + 1) l':=⟨by simpa using h.h⟩
class Tk (l:List Oper) (m:Nat) (l':outParam (List Oper)):Prop where h:l.take m=l'
instance:Tk l 0 []:=⟨rfl⟩
instance {o:Oper} [h:Tk l m l']:Tk (o :: l) (m + 1) (o :: l'):=⟨by rw [List.take_succ_cons,h.h]⟩
instance [h:Tk l m l']:Au (TD P r N ops S F (l.take m) Γ) True (TD P r N ops S F l' Γ):=⟨fun _ k=>by rw [h.h]; exact k⟩
instance [h:Tk l m l']:Au (TDC P r N ops S th G (l.take m) i ps cs Γ) True (TDC P r N ops S th G l' i ps cs Γ):=⟨fun _ k=>by rw [h.h]; exact k⟩
instance [h:Dr l m l']:Au (TO P r N ops X K (l.drop m) Γ S) True (TO P r N ops X K l' Γ S):=⟨fun _ k=>by rw [h.h]; exact k⟩
instance:Au (FinM P r N ops X K m [] Γ S) True (TO P r N ops X K (ops.toList.drop m) Γ S):=⟨fun _ k=>k⟩
theorem fm (h:TO P r N ops X K (ops.toList.drop m) Γ S):FinM P r N ops X K m [] Γ S:=h
instance [h:OB P r N ops S True op t' Γ Ψ A]:Au (TDC P r N ops S th G (⟨some d,op,t',pos,af,none⟩ :: l) i ps cs Γ) ((cs.all fun c=>!Nat.beq c.1 i)=true∧A) (TDC P r N ops S th G l (i + 1) ps cs ((d,True,Ψ) :: Γ)):=⟨fun a=>cx1 (h.h a.2) a.1⟩
end steps
section
variable {Γ Γ' A B A' : TE} {i s k : Nat} {q p : Prop} {Ψ Φ τ : PV} {τs : List PV}
instance:TF (par i (τ :: τs)) i True τ:=⟨by simp [par,tf]⟩
instance (priority:=low) [n:NbE i s] [h:TF (par (i + 1) τs) s q Ψ]:TF (par i (τ :: τs)) s q Ψ:=⟨by unfold par tf; rw [n.h]; exact h.h⟩
class TN (A:TE) (s:Nat):Prop where h:tf A s=none
instance:TN [] s:=⟨rfl⟩
instance {a:Prop × PV} [n:NbE k s] [h:TN A s]:TN ((k,a) :: A) s:=⟨by unfold tf; rw [n.h]; exact h.h⟩
instance [h:TF A s q Ψ]:TF (A ++ B) s q Ψ:=⟨by rw [uB,h.h]⟩
instance (priority:=low) [n:TN A s] [h:TF B s q Ψ]:TF (A ++ B) s q Ψ:=⟨by rw [uB,n.h]; exact h.h⟩
class PSa (Ψ Φ:PV) (A:outParam Prop):Prop where h:A→PSub Ψ Φ
instance (priority:=low):PSa Ψ Φ (PSub Ψ Φ):=⟨id⟩
instance (priority:=200) {k:IntKind} {a b:Int}:PSa (exP (.int k a)) (exP (.int k b)) (a=b):=⟨ps_i⟩
instance (priority:=200) {a b:Bool}:PSa (exP (.bool a)) (exP (.bool b)) (a=b):=⟨psb⟩
instance:PSa Ψ Ψ True:=⟨fun _=>PSub.refl _⟩
class TS (Γ Γ':TE) (C:outParam Prop):Prop where h:C→Tsub Γ Γ'
instance:TS Γ [] True:=⟨fun _=>tn⟩
instance {a b c:Prop} [h:TF Γ s q Ψ] [Tr q] [h1:PSa Ψ Φ a] [h2:TS Γ Γ' b] [h3:An a b c]:TS Γ ((s,True,Φ) :: Γ') c:=⟨fun k=>tc h.h (h1.h (h3.h k).1) (h2.h (h3.h k).2)⟩
instance {a b c:Prop} [h1:TS Γ A a] [h2:TS Γ B b] [h3:An a b c]:TS Γ (A ++ B) c:=⟨fun k=>pM (h1.h (h3.h k).1) (h2.h (h3.h k).2)⟩
class Kp (Γ:TE) (ks:List Nat) (B:outParam TE):Prop where h:Tsub Γ B
instance:Kp Γ [] []:=⟨tn⟩
instance {ks:List Nat} [h:TF Γ s q Ψ] [Tr q] [k:Kp Γ ks B]:Kp Γ (s :: ks) ((s,True,Ψ) :: B):=⟨tk s h.h k.h⟩
end
section
variable {P : Program} {r : Option Nat} {N : Nat} {X Z : Cx} {Kn Kr K : TK} {Ke : Nat → TK} {Γ Γ' A B : TE} {S S' : List Ow} {ops : Array Oper} {x y : Code} {i s : Nat} {q : Prop} {Ψ Φ : PV} {b : Bool}
class BP (b:Bool) (p:outParam Prop):Prop where h:b=true ↔ p
instance (priority:=low):BP b (b=true):=⟨.rfl⟩
instance {p:Prop} [Decidable p]:BP (decide p) p:=⟨by simp⟩
instance {p:Prop} [h:BP b p]:BP (!b) (¬ p):=⟨by rw [← h.h]; simp⟩
instance {c:Bool} {p q:Prop} [h:BP b p] [k:BP c q]:BP (b && c) (p∧q):=⟨by rw [← h.h,← k.h]; simp⟩
instance {c:Bool} {p q:Prop} [h:BP b p] [k:BP c q]:BP (b || c) (p ∨ q):=⟨by rw [← h.h,← k.h]; simp⟩
theorem ti {c:Operand} [h:TV Γ c q Ψ] [Tr q] [VB Ψ b] (ht:Tr (b=true)→TW P r N X x Kn Ke Kr Γ S) (hf:Tr (b=false)→TW P r N X y Kn Ke Kr Γ S):TW P r N X (.cond c x y) Kn Ke Kr Γ S:=t_if h.h ht hf
theorem tp {c:Operand} {p:Prop} [h:TV Γ c q Ψ] [Tr q] [VB Ψ b] [k:BP b p] (ht:p→TW P r N X x Kn Ke Kr Γ S) (hf:¬ p→TW P r N X y Kn Ke Kr Γ S):TW P r N X (.cond c x y) Kn Ke Kr Γ S:=t_if h.h (fun e=>ht (k.h.1 e.h)) fun e=>hf fun c=>by have:=k.h.2 c; rw [e.h] at this; cases this
theorem fw {f:FuncId} {fn:Func} {c:Code} {τs:List PV} {ρ:PV} (rs:List ResultVar) (hf:P.funcs[f]? = some fn) [pa:Pa 0 τs Γ] (h:∀ X,TW P none N X c (TRc X P rs ρ) (fun _ _ _ _=>False) (TRc X P rs ρ) Γ []) (hb:fn.body=some c:=by rfl) (hn:fn.ntmps=N:=by rfl) (hN:Nat.ble τs.length N=true:=by rfl) (hnm:(fn.name == "runtime.NumGoroutine")=false:=by rfl) (hr:fn.results.toList=rs:=by rfl):CTy P f τs ρ :=
  ctc hf hb hn hN hnm fun X=>by rw [hr,pa.h]; exact h X
theorem fwo {f:FuncId} {fn:Func} {c:Code} {τs:List PV} {Si:List Ow} {Q:PV→List Ow→Prop} (rs:List ResultVar) (hf:P.funcs[f]? = some fn) [pa:Pa 0 τs Γ] (h:∀ X,TW P none N X c (TRd X P rs Q) (fun _ _ _ _=>False) (TRd X P rs Q) Γ Si) (hb:fn.body=some c:=by rfl) (hn:fn.ntmps=N:=by rfl) (hN:Nat.ble τs.length N=true:=by rfl) (hnm:(fn.name == "runtime.NumGoroutine")=false:=by rfl) (hr:fn.results.toList=rs:=by rfl):CTo P f τs Si Q :=
  ctd hf hb hn hN hnm (fun _ _ _ _ _ _ _ hs hp=>yG6 hs hp) fun X=>by rw [hr,pa.h]; exact h X
theorem er {X0:Cx} {rs:List ResultVar} {Q:PV→List Ow→Prop} {So:List Ow} [Eqx X0 X] [h:RsT P Γ S rs [Ψ]] (hQ:Q Ψ So) (hs:So.Sublist S:=by exact List.Sublist.refl _):TRd X0 P rs Q X Γ S:=⟨[_],_,_,h.h,hs,hQ,onec (PSub.refl _)⟩
theorem lp {σ:Type} {C:Prop} (ks:List Nat) (A:σ→TE) (Si:σ→List Ow) (J:σ→Prop) (μ:σ→Nat) (s0:σ) [k:Kp Γ ks B] [t:TS Γ (A s0) C] (hJ:J s0)
  (round:∀ s,J s→∀ Y,(∀ {Z:Cx} [Eqx Z X],Eqx Z Y)→TW P r N Y x (fun Z Γ' S'=>Exj X Z fun s'=>Ts Z Γ' S' (A s' ++ B) (Si s')∧J s'∧μ s' < μ s) Ke Kr (A s ++ B) (Si s)) (hS:S=Si s0:=by rfl) (hC:C:=by first | exact True.intro | omega | simp):TW P r N X (.loop x) Kn Ke Kr Γ S :=
 xS A Si J μ s0 k.h (t.h hC) hS hJ round
theorem lpy {σ:Type} {C:Prop} (ks:List Nat) (A:σ→TE) (Si:σ→List Ow) (G:σ→Cx→Prop) (μ:σ→Nat) (s0:σ) [k:Kp Γ ks B] [t:TS Γ (A s0) C] (hG:G s0 X)
  (round:∀ s Y,G s Y→TW P r N Y x (fun Z Γ' S'=>∃ s',Ts Z Γ' S' (A s' ++ B) (Si s')∧G s' Z∧μ s' < μ s) Ke Kr (A s ++ B) (Si s)) (hS:S=Si s0:=by rfl) (hC:C:=by first | exact True.intro | omega | simp):TW P r N X (.loop x) Kn Ke Kr Γ S :=
 zL5 A Si G μ s0 k.h (t.h hC) hS hG round
theorem nxt {σ:Type} {A:σ→TE} {Si:σ→List Ow} {J:σ→Prop} {m:σ→Nat} {n:Nat} {C:Prop} [Eqx X Z] (s':σ) [t:TS Γ' (A s' ++ B) C] (hJ:J s') (hm:m s' < n:=by omega) (hC:C:=by first | exact True.intro | omega | simp) (hS:(Si s').Sublist S':=by exact List.Sublist.refl _):Exj X Z fun s'=>Ts Z Γ' S' (A s' ++ B) (Si s')∧J s'∧m s' < n :=
 ⟨s',fun E w hs=>aD (t.h hC) rfl E w (hs.sub hS),hJ,hm⟩
end
section ops
variable {P : Program} {r : Option Nat} {N : Nat} {ops : Array Oper} {S : List Ow} {p q qx qy : Prop} {Γ : TE} {Ψx Ψy Ψ : PV} {x y : Operand} {t' tx ty : TypeId} {k k' : IntKind} {a b : Nat} {i j : Int} {γ δ : Bool}
instance [h:T2 Γ p x y Ψx Ψy] [VU Ψx .u64 a] [VU Ψy .u64 b]:OB P r N ops S p (.binOp .add tx x y ty) t' Γ (exP (.int .u64 ((a + b:Nat):Int))) (a + b < 18446744073709551616):=⟨fun g=>let ⟨_,_,h1,h2,h3,h4⟩:=h.h; have:=Im.mk h3; have:=Im.mk h4; oadv h1 h2 g⟩
instance [h:T2 Γ p x y Ψx Ψy] [VU Ψx .u64 a] [VU Ψy .u64 b]:OB P r N ops S p (.binOp .sub tx x y ty) t' Γ (exP (.int .u64 ((a - b:Nat):Int))) (b≤a∧a < 18446744073709551616):=⟨fun g=>let ⟨_,_,h1,h2,h3,h4⟩:=h.h; have:=Im.mk h3; have:=Im.mk h4; osbv h1 h2 g⟩
instance [h:T2 Γ p x y Ψx Ψy] [VU Ψx .u64 a] [VU Ψy .u64 b]:OB P r N ops S p (.binOp .mul tx x y ty) t' Γ (exP (.int .u64 ((a * b:Nat):Int))) (a * b < 18446744073709551616):=⟨fun g=>let ⟨_,_,h1,h2,h3,h4⟩:=h.h; have:=Im.mk h3; have:=Im.mk h4; omlv h1 h2 g⟩
instance [h:T2 Γ p x y Ψx Ψy] [VU Ψx k a] [VU Ψy k b] [UK k]:OB P r N ops S p (.binOp .quo tx x y ty) t' Γ (exP (.int k ((a / b:Nat):Int))) (0 < b∧a < qP k):=⟨fun g=>let ⟨_,_,h1,h2,h3,h4⟩:=h.h; have:=Im.mk h3; have:=Im.mk h4; oquw h1 h2 g⟩
instance [h:T2 Γ p x y Ψx Ψy] [VU Ψx k a] [VU Ψy k b]:OB P r N ops S p (.binOp .rem tx x y ty) t' Γ (exP (.int k ((a % b:Nat):Int))) (0 < b):=⟨fun g=>let ⟨_,_,h1,h2,h3,h4⟩:=h.h; have:=Im.mk h3; have:=Im.mk h4; ormw h1 h2 g⟩
instance [h:T2 Γ p x y Ψx Ψy] [VI Ψx .i64 i] [VI Ψy .i64 j]:OB P r N ops S p (.binOp .quo tx x y ty) t' Γ (exP (.int .i64 (i / j))) (0≤i∧i≤9223372036854775807∧1≤j):=⟨fun g=>let ⟨_,_,h1,h2,h3,h4⟩:=h.h; have:=Im.mk h3; have:=Im.mk h4; oqu h1 h2 g⟩
instance [h:T2 Γ p x y Ψx Ψy] [VU Ψx k a] [VU Ψy k' b] [UK k]:OB P r N ops S p (.binOp .shl tx x y ty) t' Γ (exP (.int k ((a * 2 ^ b % qP k:Nat):Int))) (b < k.bits):=⟨fun g=>let ⟨_,_,h1,h2,h3,h4⟩:=h.h; have:=Im.mk h3; have:=Im.mk h4; oshl h1 h2 g⟩
instance [h:T2 Γ p x y Ψx Ψy] [VU Ψx k a] [VU Ψy k' b]:OB P r N ops S p (.binOp .shr tx x y ty) t' Γ (exP (.int k ((a / 2 ^ b:Nat):Int))) (b < k.bits):=⟨fun g=>let ⟨_,_,h1,h2,h3,h4⟩:=h.h; have:=Im.mk h3; have:=Im.mk h4; oshr h1 h2 g⟩
instance [h:T2 Γ p x y Ψx Ψy] [VU Ψx k a] [VU Ψy k b] [UK k]:OB P r N ops S p (.binOp .or tx x y ty) t' Γ (exP (.int k ((a ||| b:Nat):Int))) (a < qP k∧b < qP k):=⟨fun g=>let ⟨_,_,h1,h2,h3,h4⟩:=h.h; have:=Im.mk h3; have:=Im.mk h4; oor h1 h2 g⟩
instance [h:T2 Γ p x y Ψx Ψy] [VU Ψx k a] [VU Ψy k b] [UK k]:OB P r N ops S p (.binOp .and tx x y ty) t' Γ (exP (.int k ((a &&& b:Nat):Int))) (a < qP k∧b < qP k):=⟨fun g=>let ⟨_,_,h1,h2,h3,h4⟩:=h.h; have:=Im.mk h3; have:=Im.mk h4; oan h1 h2 g⟩
instance [TI P ty k'] [TI P tx .u32] [h:TV Γ x q Ψ] [Im p q] [VU Ψ k a]:OB P r N ops S p (.convert ty tx x) t' Γ (exP (.int .u32 ((a % 4294967296:Nat):Int))) True:=⟨fun _=>ocv32 h.h⟩
instance [TI P ty k'] [TI P tx .u64] [h:TV Γ x q Ψ] [Im p q] [VU Ψ k a]:OB P r N ops S p (.convert ty tx x) t' Γ (exP (.int .u64 (a:Int))) (a < 18446744073709551616):=⟨fun g=>ocv64 h.h g⟩
instance [h:T2 Γ p x y Ψx Ψy] [VB Ψx γ] [VB Ψy δ] [TBo P tx]:OB P r N ops S p (.binOp .eql tx x y ty) t' Γ (exP (.bool (γ == δ))) True:=⟨fun _=>let ⟨_,_,h1,h2,h3,h4⟩:=h.h; have:=Im.mk h3; have:=Im.mk h4; obe h1 h2⟩
instance [h:T2 Γ p x y Ψx Ψy] [VB Ψx γ] [VB Ψy δ] [TBo P tx]:OB P r N ops S p (.binOp .neq tx x y ty) t' Γ (exP (.bool (!(γ == δ)))) True:=⟨fun _=>let ⟨_,_,h1,h2,h3,h4⟩:=h.h; have:=Im.mk h3; have:=Im.mk h4; obn h1 h2⟩
instance {n:Nat} {t e:TypeId} {sz bytes:Nat} [h:TV Γ x q (sv (nln n))] [Im p q] [TSl P t e sz bytes]:OB P r N ops S p (.call ⟨.builtin .len,#[x],#[t]⟩) t' Γ (exP (.int .i64 (n:Int))) True:=⟨fun _=>oll h.h⟩
end ops
class Ln {α:Type} (l:List α) (n:outParam Nat):Prop where h:l.length=n
instance {α:Type}:Ln ([]:List α) 0:=⟨rfl⟩
instance {α:Type} {a:α} {l:List α} {n:Nat} [h:Ln l n]:Ln (a :: l) (n + 1):=⟨by rw [List.length_cons,h.h]⟩
theorem yF8:∀ l:List Value,szs (l.map xc)=l.length
 | []=>rfl
 | a :: l=>by rw [List.map_cons,szs,yF8 l,List.length_cons]; show 1 + l.length=_; omega
instance {vs:List Value} {n:Nat} [h:Ln vs n]:SzL (zc (.agg vs.toArray)) n:=⟨by unfold zc; rw [yF8]; exact h.h⟩
instance {b:Bool}:SzL (zc (.bool b)) 1:=⟨rfl⟩
instance {k:IntKind} {b:Int}:SzL (zc (.int k b)) 1:=⟨rfl⟩
instance {a:Option Addr} {i j:Nat}:SzL (zc (.slice a i j)) 1:=⟨rfl⟩
class Ct (cs:List CT) (k:Nat) (r:outParam (List CT)):Prop where h:∃ B,cs=B ++ r∧szs B=k
instance {cs:List CT}:Ct cs 0 cs:=⟨[],rfl,rfl⟩
instance (priority:=low) {c:CT} {cs r:List CT} {k k' j:Nat} [h:SzC c j] [s:Sb j (k + 1) k'] [t:Ct cs k' r]:Ct (c :: cs) k r:=⟨let ⟨B,e1,e2⟩:=t.h; ⟨c :: B,by rw [e1]; rfl,by rw [szs,e2,h.h]; have:=s.h; omega⟩⟩
class UpC (cs:List CT) (o:Nat) (c:CT) (k:Nat) (cs':outParam (List CT)):Prop where h:∃ A B1 B2,cs=A ++ (B1 ++ B2)∧szs A=o∧szs B1=k∧cs'=A ++ c :: B2
instance {cs r:List CT} {c:CT} {k:Nat} [t:Ct cs k r]:UpC cs 0 c k (c :: r):=⟨let ⟨B,e1,e2⟩:=t.h; ⟨[],B,r,by simpa using e1,rfl,e2,rfl⟩⟩
instance (priority:=low) {d c:CT} {cs cs':List CT} {o o' j k:Nat} [h:SzC d j] [s:Sb j (o + 1) o'] [t:UpC cs o' c k cs']:UpC (d :: cs) o c k (d :: cs'):=⟨let ⟨A,B1,B2,e1,e2,e3,e4⟩:=t.h; ⟨d :: A,B1,B2,by rw [e1]; rfl,by rw [szs,e2,h.h]; have:=s.h; omega,e3,by rw [e4]; rfl⟩⟩
instance {z:Value} {c:CT} {k:Nat} [h:SzL (zc z) k]:UpC (zc z) 0 c k [c]:=⟨[],zc z,[],by simp,rfl,h.h,rfl⟩
class LSet (S:List Ow) (i:Nat) (o:Ow) (S':outParam (List Ow)):Prop where h:S.set i o=S'
instance {a o:Ow} {S:List Ow}:LSet (a :: S) 0 o (o :: S):=⟨rfl⟩
instance {a o:Ow} {S S':List Ow} {i:Nat} [h:LSet S i o S']:LSet (a :: S) (i + 1) o (a :: S'):=⟨by rw [List.set_cons_succ,h.h]⟩
class TPs (Γ:TE) (ps:List (Nat × Operand)) (q:outParam Prop) (l:outParam (List PV)):Prop where h:tvs Γ (ps.map (·.2))=some (q,l)
instance {Γ:TE}:TPs Γ [] True []:=⟨rfl⟩
instance {Γ:TE} {i:Nat} {x:Operand} {ps:List (Nat × Operand)} {q q':Prop} {Ψ:PV} {l:List PV} [h:TV Γ x q Ψ] [k:TPs Γ ps q' l]:TPs Γ ((i,x) :: ps) (q∧q') (Ψ :: l):=⟨by rw [List.map_cons]; unfold tvs; rw [h.h,k.h]⟩
section
variable {P : Program} {r : Option Nat} {N : Nat} {X : Cx} {K : TK} {Γ : TE} {S S' : List Ow} {ops : Array Oper} {M : Nat → Prop} {p q qx qy : Prop} {Ψ Ψx Ψy : PV} {d : Nat} {x y : Operand} {t t' e : TypeId} {pos : String} {af : Array Edge} {l : List Oper} {v : Value} {k bytes sz i : Nat} {cs m : List CT} {c : CT}
theorem tstu {b o:Nat} {ty:TypeId} {cs':List CT} {a:Bool} (hi:S[i]? = some (.blk b ty cs)) (hx:tv Γ x=some (qx,exP (.pointer (some ⟨b,o,none⟩)))) (hy:tv Γ y=some (qy,Ψy)) [Tr qx] [Tr qy] [hc:CtOf Ψy c] [ht:TLd P t a sz] [hs:SzC c sz] [up:UpC cs o c sz cs']
  (h:TO P r N ops X K l Γ (S.set i (.blk b ty cs'))):TO P r N ops X K (⟨none,.store t x y,t',pos,af,none⟩ :: l) Γ S:=fun hN D E w hst=>by
 unfold okN at hN
 simp only [List.all_cons,Bool.and_eq_true] at hN
 obtain ⟨u,e1,h1⟩:=uI hst hx
 obtain rfl:u=_:=h1
 obtain ⟨v,e2,h2⟩:=uI hst hy
 obtain ⟨us,k1,k2⟩:=hc.h h2
 obtain ⟨vs,k3,k4⟩:=hst.gd.own _ (List.mem_of_getElem? hi)
 obtain ⟨A,B1,B2,rfl,f2,f4,rfl⟩:=up.h
 obtain ⟨va,vb,rfl,g1,g2⟩:=qG k4
 obtain ⟨vc,vd,rfl,g3,g4⟩:=qG g2
 have hl1:=qH g1
 have hl3:=qH g3
 have hl:=c.len k2
 have hsz:=hs.h
 obtain ⟨bytes,z,hz⟩:=ht.s
 refine qK e1 e2 hz k3 (by rw [k1]; simp; omega) (by simp; omega) (by rw [k1]; exact fun u hu=>c.one k2 u (by simpa using hu)) fun w' hch hB'=>?_
 refine h hN.2 D E w' (hst.setb hi hch hB' ?_)
 rw [k1]
 have e3:(va ++ (vc ++ vd)).take o=va:=by rw [← f2,← hl1,List.take_left]
 have e4:(va ++ (vc ++ vd)).drop (o + sz)=vd:=by rw [← f4,← hl3,← f2,← hl1,← List.drop_drop,List.drop_left,List.drop_left]
 rw [e3,e4,List.append_assoc]
 exact bR g1 ⟨us,vd,rfl,k2,g4⟩
instance {b o:Nat} {ty:TypeId} {cs':List CT} {a:Bool} [hx:TV Γ x qx (exP (.pointer (some ⟨b,o,none⟩)))] [hy:TV Γ y qy Ψy] [Tr qx] [Tr qy] [CtOf Ψy c] [TLd P t a sz] [SzC c sz] [hi:SBi S b i ty cs] [UpC cs o c sz cs'] [hs:LSet S i (.blk b ty cs') S'] :
  Au (TO P r N ops X K (⟨none,.store t x y,t',pos,af,none⟩ :: l) Γ S) True (TO P r N ops X K l Γ S'):=⟨fun _ h=>tstu hi.h hx.h hy.h (by rw [hs.h]; exact h)⟩
instance {z:Value} [TZ P t z]:Au (TO P r N ops X K (⟨some d,.alloc t,t',pos,af,none⟩ :: l) Γ S) True (∀ b,TO P r N ops X K l ((d,True,exP (.pointer (some ⟨b,0,none⟩))) :: Γ) (.blk b t (zc z) :: S)):=⟨fun _=>tal⟩
class ApC (a b:List CT) (c:outParam (List CT)):Prop where h:a ++ b=c
instance (priority:=low) {a b:List CT}:ApC a b (a ++ b):=⟨rfl⟩
instance {b:List CT}:ApC [] b b:=⟨rfl⟩
instance {α:Type} {f:α→CT} {xs ys:List α}:ApC (xs.map f) (ys.map f) ((xs ++ ys).map f):=⟨List.map_append.symm⟩
instance {α:Type} {f:α→CT} {xs:List α} {a:α}:ApC (xs.map f) [f a] ((xs ++ [a]).map f):=⟨by simp⟩
instance {n j:Nat} {m':List CT} {T:Value→List Ow} [hx:TV Γ x qx (exP v)] [hy:TV Γ y qy Ψy] [Tr qx] [Tr qy] [TSl P t e k bytes] [VS Ψy k m] [hi:SRi S v i e k cs] [ln:LL cs n] [lm:LL m j] [am:ApC cs m m'] [hs:∀ v',LSet S i (.row v' e k m') (T v')] :
  Au (TO P r N ops X K (⟨some d,.call ⟨.builtin .append,#[x,y],#[t,t]⟩,t',pos,af,none⟩ :: l) Γ S) (Nat.ble bytes 1000=true∧n + j≤1000000000) (∀ v',TO P r N ops X K l ((d,True,exP v') :: Γ) (T v')) :=
 ⟨fun g h=>tap i hi.h hx.h hy.h (by rw [ln.h,lm.h]; exact g.2) g.1 (by rw [am.h]; exact fun v'=>by rw [(hs v').h]; exact h v')⟩
instance {parts:List (Nat × Operand)} {τs:List PV} {cs:List CT} {szs':List Nat} [h:TPs Γ parts q τs] [Im p q] [TPl P t szs'] [CtL τs cs]:OB P r N ops S p (.build t parts.toArray) t' Γ (ag (st cs)) (parts.map (·.1)=List.range szs'.length∧cs.map CT.sz=szs'):=⟨fun g=>obd h.h g.1 g.2⟩
instance {len:Nat} {parts:List (Nat × Operand)} {τs:List PV} {cs:List CT} [h:TPs Γ parts q τs] [Im p q] [TSl P t e sz bytes] [CtL τs cs]:OB P r N ops S p (.buildSlice t len parts.toArray) t' Γ (sv (sl sz cs)) (parts.map (·.1)=List.range len∧(cs.all fun c=>Nat.beq c.sz sz)=true∧Nat.ble (len * sz) 1000=true∧Nat.beq len 0=false∧cs.length=len):=⟨fun ⟨g1,g2,g3,g4,g5⟩=>obs h.h g1 g2 g3 g4 g5⟩
instance {a b:Nat} {ty:TypeId} {f:Bool} {rs:List ResultVar} {L:List PV} {r:List CT} [h:TF Γ a q (exP (.pointer (some ⟨b,0,none⟩)))] [Tr q] [hi:SBi S b i ty (c :: r)] [TLd P t f sz] [hs:SzC c sz] [LdA f c Ψ] [k:RsT P Γ S rs L]:RsT P Γ S (.cell a t :: rs) (Ψ :: L):=⟨rsc i h.h hi.h rfl (by rw [hs.h]; exact Nat.beq_refl _) k.h⟩
end
theorem omx {P:Program} {r:Option Nat} {N:Nat} {ops:Array Oper} {M:Nat→Prop} {S:List Ow} {p q1 q2:Prop} {Γ:TE} {Ψ Φ:PV} {d:Nat} {x y:Operand} {ts:Array TypeId} {t':TypeId} {pos:String} {af:Array Edge} {k:IntKind} {a b:Int}
  (hx:tv Γ x=some (q1,Ψ)) (hy:tv Γ y=some (q2,Φ)) [Im p q1] [Im p q2] [ha:VI Ψ k a] [hb:VI Φ k b]:Ob P r N ops M S p ⟨some d,.call ⟨.builtin .max,#[x,y],ts⟩,t',pos,af,none⟩ Γ (exP (.int k (max a b))) :=
 ob2 hx hy (by simp [Op.operands,Call.operands]) (by simp [Op.operands,Call.operands]) fun D E w u v hN _ e1 e2 h1 h2=>by rw [ha.h h1] at e1; rw [hb.h h2] at e2; exact wW hN e1 e2 (fin rfl)
theorem omn {P:Program} {r:Option Nat} {N:Nat} {ops:Array Oper} {M:Nat→Prop} {S:List Ow} {p q1 q2:Prop} {Γ:TE} {Ψ Φ:PV} {d:Nat} {x y:Operand} {ts:Array TypeId} {t':TypeId} {pos:String} {af:Array Edge} {k:IntKind} {a b:Int}
  (hx:tv Γ x=some (q1,Ψ)) (hy:tv Γ y=some (q2,Φ)) [Im p q1] [Im p q2] [ha:VI Ψ k a] [hb:VI Φ k b]:Ob P r N ops M S p ⟨some d,.call ⟨.builtin .min,#[x,y],ts⟩,t',pos,af,none⟩ Γ (exP (.int k (min a b))) :=
 ob2 hx hy (by simp [Op.operands,Call.operands]) (by simp [Op.operands,Call.operands]) fun D E w u v hN _ e1 e2 h1 h2=>by
  rw [ha.h h1] at e1; rw [hb.h h2] at e2
  refine zZ hN (by intro c hc; cases hc) (fun ac ha=>?_) (fin rfl)
  have e:(Builtin.min_ ts t' #[.int k a,.int k b]).run P w = .ok (.int k (min a b)) w:=by
   have:(if b < a then b else a)=min a b:=by split <;> omega
   rw [← this]; rfl
  simp only [execOp,resolve,invoke,builtin,Sem.run_bind,Sem.run_pure,Result.andThen,List.map_toArray,List.map_cons,List.map_nil,ha.ev e1,ha.ev e2]
  rw [e]
section
variable {P : Program} {r : Option Nat} {N : Nat} {ops : Array Oper} {S : List Ow} {p : Prop} {Γ : TE} {Ψx Ψy : PV} {x y : Operand} {ts : Array TypeId} {t' : TypeId} {k : IntKind} {a b : Int}
instance [h:T2 Γ p x y Ψx Ψy] [VI Ψx k a] [VI Ψy k b]:OB P r N ops S p (.call ⟨.builtin .max,#[x,y],ts⟩) t' Γ (exP (.int k (max a b))) True:=⟨fun _=>let ⟨_,_,h1,h2,h3,h4⟩:=h.h; have:=Im.mk h3; have:=Im.mk h4; omx h1 h2⟩
instance [h:T2 Γ p x y Ψx Ψy] [VI Ψx k a] [VI Ψy k b]:OB P r N ops S p (.call ⟨.builtin .min,#[x,y],ts⟩) t' Γ (exP (.int k (min a b))) True:=⟨fun _=>let ⟨_,_,h1,h2,h3,h4⟩:=h.h; have:=Im.mk h3; have:=Im.mk h4; omn h1 h2⟩
end
end Go.SL
namespace Go.Proofs.YtalkinejknjidaaGreatDoor
open Go.SL Go.RowKit Go.Proofs Tryz
section
variable {M M' : Nat → Prop} {w w' : World} {n m : Nat} {q : Rat} {s : Bool} {a d : Value}
theorem QC.cl (h:QC M w n q s a d) (l:Cl M w M' w'):QC M' w' n q s a d:=by obtain ⟨xs,ds,h1,h2,h3⟩:=h.ex; exact ⟨xs,ds,h1.cl l,h2.cl l,h3⟩
theorem RC.cl (h:RC M w n q s a d) (l:Cl M w M' w'):RC M' w' n q s a d:=⟨h.sgn,h.num.cl l,h.den.cl l,h.len⟩
end
def rtq (n:Nat) (q:Rat):CT where
 sz:=3
 p M w cs:=∃ s a d,cs=[.bool s,a,d]∧QC M w n q s a d
 len h:=by obtain ⟨_,_,_,rfl,_⟩:=h; rfl
 one h:=by obtain ⟨_,_,_,rfl,h⟩:=h; exact allc rfl (allc h.one.1 (allc h.one.2.1 alln))
 mono h k:=by obtain ⟨s,a,d,rfl,h⟩:=h; exact ⟨s,a,d,rfl,h.cl k⟩
def rtc (n:Nat) (q:Rat):CT where
 sz:=3
 p M w cs:=∃ s a d,cs=[.bool s,a,d]∧RC M w n q s a d
 len h:=by obtain ⟨_,_,_,rfl,_⟩:=h; rfl
 one h:=by obtain ⟨_,_,_,rfl,h⟩:=h; exact allc rfl (allc h.one.1 (allc h.one.2.1 alln))
 mono h k:=by obtain ⟨s,a,d,rfl,h⟩:=h; exact ⟨s,a,d,rfl,h.cl k⟩
def rtl (L:N2) (q:Rat):CT where
 sz:=3
 p M w cs:=∃ s a d,cs=[.bool s,a,d]∧QC M w (max L.1 L.2) q s a d∧Q2 M w 0 L s a d
 len h:=by obtain ⟨_,_,_,rfl,_⟩:=h; rfl
 one h:=by obtain ⟨_,_,_,rfl,h,_⟩:=h; exact allc rfl (allc h.one.1 (allc h.one.2.1 alln))
 mono h k:=by obtain ⟨s,a,d,rfl,h,h2⟩:=h; exact ⟨s,a,d,rfl,h.cl k,h2.a,h2.d⟩
instance {n:Nat} {q:Rat}:SzC (rtq n q) 3:=⟨rfl⟩
instance {n:Nat} {q:Rat}:SzC (rtc n q) 3:=⟨rfl⟩
instance {L:N2} {q:Rat}:SzC (rtl L q) 3:=⟨rfl⟩
class CQ (c:CT) (n:outParam Nat) (q:outParam Rat):Prop where
 h:∀ {M w us},c.p M w us→∃ s a d,us=[.bool s,a,d]∧QC M w n q s a d
instance {n:Nat} {q:Rat}:CQ (rtq n q) n q:=⟨id⟩
instance {n:Nat} {q:Rat}:CQ (rtc n q) n q:=⟨fun ⟨s,a,d,e,h⟩=>⟨s,a,d,e,h.gen⟩⟩
instance {L:N2} {q:Rat}:CQ (rtl L q) (max L.1 L.2) q:=⟨fun ⟨s,a,d,e,h,_⟩=>⟨s,a,d,e,h⟩⟩
class CP (c:CT) (n:outParam Nat) (q:outParam P2):Prop where
 h:∀ {M w us},c.p M w us→∃ s a d t b e,us=[.bool s,a,d,.bool t,b,e]∧PQ M w n q s a d t b e
instance {c d:CT} {n m:Nat} {p q:Rat} [h1:CQ c n p] [h2:CQ d m q]:CP (st [c,d]) (max n m) (p,q):=⟨fun ⟨x,y,e,k1,z,o,e2,k2,e3⟩=>by
 obtain ⟨s,a,d,rfl,g1⟩:=h1.h k1
 obtain ⟨t,b,f,rfl,g2⟩:=h2.h k2
 obtain rfl:o=[]:=e3
 exact ⟨s,a,d,t,b,f,by rw [e,e2]; rfl,g1.up (by omega),g2.up (by omega)⟩⟩
class QR (Ψ:PV) (n:outParam Nat) (q:outParam Rat):Prop where
 h:∀ {M w v},Ψ.p M w v→∃ s a d,v = .agg #[.bool s,a,d]∧QC M w n q s a d
instance {c:CT} {n:Nat} {q:Rat} [h:CQ c n q]:QR (ag c) n q:=⟨fun ⟨us,e,k⟩=>by obtain ⟨s,a,d,rfl,g⟩:=h.h k; exact ⟨s,a,d,e,g⟩⟩
class QP (Ψ:PV) (n:outParam Nat) (q:outParam P2):Prop where
 h:∀ {M w v},Ψ.p M w v→∃ s a d t b e,v = .agg #[.bool s,a,d,.bool t,b,e]∧PQ M w n q s a d t b e
instance {c:CT} {n:Nat} {q:P2} [h:CP c n q]:QP (ag c) n q:=⟨fun ⟨us,e,k⟩=>by obtain ⟨s,a,d,t,b,f,rfl,g⟩:=h.h k; exact ⟨s,a,d,t,b,f,e,g⟩⟩
theorem wM {α:Type} {R:RelV α} {f:α→CT} {k:Nat} {M:Nat→Prop} {w:World} {v:Value} {xs:List α} (hsz:∀ a,(f a).sz=k) (hR:∀ a us,(f a).p M w us→R M w a us) (h:(sl k (xs.map f)).p M w [v]):wA R k M w v xs:=by
 obtain ⟨u,us,e,h1,h2,h3⟩:=h
 obtain rfl:=List.singleton_inj.1 e
 rw [List.length_map] at h1
 refine ⟨us,h1,fun i a ha=>?_⟩
 have hi:=(List.getElem?_eq_some_iff.1 ha).1
 have h4:=iR h2 (i:=i) (c:=f a) (by rw [List.getElem?_map,ha]; rfl)
 rw [aY h3 (by rw [List.length_map]; omega),hsz] at h4
 refine ⟨_,((f a).len h4).trans (hsz a),fun q u hq=>?_,hR _ _ h4⟩
 rw [List.getElem?_take] at hq
 split at hq
 ·simpa using hq
 ·cases hq
theorem cI {α:Type} {R:RelV α} {f:α→CT} {k:Nat} {M:Nat→Prop} {w:World} {v:Value} {xs:List α} (hsz:∀ a,(f a).sz=k) (hR:∀ a us,us.length=k→R M w a us→(f a).p M w us) (h:wA R k M w v xs):(sl k (xs.map f)).p M w [v]:=by
 obtain ⟨cs,h1,h2⟩:=h
 exact ⟨v,cs,rfl,by rw [List.length_map]; exact h1,zR9 hR h1.1 h2,fun c hc=>by obtain ⟨a,_,rfl⟩:=List.mem_map.1 hc; exact hsz a⟩
class CsQ (cs:List CT) (n:outParam Nat) (qs:outParam (List Rat)):Prop where
 h:∀ c ∈ cs,c.sz=3
 l:cs.length=qs.length
 e:∀ (i:Nat) (q:Rat),qs[i]? = some q→∃ c,cs[i]? = some c∧∀ {M w us},c.p M w us→∃ s a d,us=[.bool s,a,d]∧QC M w n q s a d
instance:CsQ [] 0 []:=⟨by simp,rfl,by simp⟩
class C3 (c:CT):Prop where
 h:c.sz=3
instance {n:Nat} {q:Rat}:C3 (rtq n q):=⟨rfl⟩
instance {n:Nat} {q:Rat}:C3 (rtc n q):=⟨rfl⟩
instance {n:N2} {q:Rat}:C3 (rtl n q):=⟨rfl⟩
instance {c:CT} {cs:List CT} {n m:Nat} {q:Rat} {qs:List Rat} [h1:CQ c n q] [h3:C3 c] [h2:CsQ cs m qs]:CsQ (c :: cs) (max n m) (q :: qs) :=
 ⟨fun x hx=>by rcases List.mem_cons.1 hx with rfl | hx; exact h3.h; exact h2.h x hx,by simp [h2.l],fun i p hi=>by
  cases i with
  | zero=>simp at hi; subst hi; exact ⟨c,rfl,fun k=>let ⟨s,a,d,e,g⟩:=h1.h k; ⟨s,a,d,e,g.up (by omega)⟩⟩
  | succ i=>obtain ⟨x,g1,g2⟩:=h2.e i p (by simpa using hi); exact ⟨x,by simpa using g1,fun k=>let ⟨s,a,d,e,g⟩:=g2 k; ⟨s,a,d,e,g.up (by omega)⟩⟩⟩
theorem zM3 {α:Type} {R:RelV α} {k:Nat} {M:Nat→Prop} {w:World} {v:Value} {cs:List CT} {xs:List α} (hl:cs.length=xs.length) (h3:∀ c ∈ cs,c.sz=k) (hR:∀ (i:Nat) (a:α),xs[i]? = some a→∃ c,cs[i]? = some c∧∀ us,c.p M w us→R M w a us) (h:(sl k cs).p M w [v]):wA R k M w v xs:=by
 obtain ⟨u,us,e,h1,h2,_⟩:=h
 obtain rfl:=List.singleton_inj.1 e
 rw [hl] at h1
 refine ⟨us,h1,fun i a ha=>?_⟩
 have hi:=(List.getElem?_eq_some_iff.1 ha).1
 obtain ⟨c,k1,k2⟩:=hR i a ha
 have h4:=iR h2 (i:=i) (c:=c) k1
 have hc:=h3 c (List.mem_of_getElem? k1)
 rw [aY h3 (by omega),hc] at h4
 refine ⟨_,(c.len h4).trans hc,fun q u hq=>?_,k2 _ h4⟩
 rw [List.getElem?_take] at hq
 split at hq
 ·simpa using hq
 ·cases hq
class VQ (Ψ:PV) (n:outParam Nat) (l:outParam (List Rat)):Prop where
 h:∀ {M w v},Ψ.p M w v→QL M w n l v
instance {cs:List CT} {n:Nat} {l:List Rat} [h:CsQ cs n l]:VQ (sv (sl 3 cs)) n l:=⟨fun k=>⟨zM3 h.l h.h (fun i a ha=>let ⟨c,g1,g2⟩:=h.e i a ha; ⟨c,g1,fun us hu=>g2 hu⟩) k⟩⟩
instance {n:Nat} {l:List Rat}:VQ (sv (sl 3 (l.map (rtc n)))) n l:=⟨fun k=>⟨wM (fun _=>rfl) (fun a us h=>(CQ.h h:_)) k⟩⟩
class VPt (Ψ:PV) (n:outParam Nat) (l:outParam (List P2)):Prop where
 h:∀ {M w v},Ψ.p M w v→PL M w n l v
def intl (k:Nat):CT where
 sz:=2
 p M w cs:=∃ s p c,cs=[.bool s,.slice p k c]
 len h:=by obtain ⟨_,_,_,rfl⟩:=h; rfl
 one h:=by obtain ⟨_,_,_,rfl⟩:=h; exact allc rfl (allc rfl alln)
 mono h _:=h
instance {L:N2} {q:Rat}:FA (rtl L q) 0 (intl L.1):=⟨fun ⟨s,a,d,e,_,⟨p,c,ea⟩,_⟩=>⟨s,p,c,by rw [e,ea]; rfl⟩⟩
instance {L:N2} {q:Rat}:FA (rtl L q) 2 (nln L.2):=⟨fun ⟨s,a,d,e,_,_,⟨p,c,ea⟩⟩=>⟨p,c,by rw [e,ea]; rfl⟩⟩
instance {k:Nat}:FA (intl k) 1 (nln k):=⟨fun ⟨s,p,c,e⟩=>⟨p,c,by rw [e]; rfl⟩⟩
instance:Df (N4 × P2):=⟨((0,0,0,0),(0,0))⟩
theorem dand {a b:Prop} [Decidable a] [Decidable b] (h:Tr ((decide a && decide b)=true)):a∧b:=by simpa using h.h
theorem dor {a b:Prop} [Decidable a] [Decidable b] (h:Tr ((decide a && decide b)=false)):¬ (a∧b):=by have:=h.h; simpa using this
theorem dt {a:Prop} [Decidable a] (h:Tr (decide a=true)):a:=of_decide_eq_true h.h
theorem df {a:Prop} [Decidable a] (h:Tr (decide a=false)):¬ a:=of_decide_eq_false h.h
theorem lM {α:Type} {l m:List α} {s:Nat} {d:α} (hl:s < l.length) (hm:s < m.length) (h:l.take s=m.take s) (e:l.getD s d=m.getD s d):l.take (s + 1)=m.take (s + 1):=by
 rw [(zU d hl).1,(zU d hm).1,h,e]
theorem oI {α:Type} {l m:List α} (h:l.length=m.length) (e:l.take l.length=m.take l.length):l=m:=by
 rw [List.take_length] at e; rw [h,List.take_length] at e; exact e
theorem yB3 {α:Type} {l m:List α} {s:Nat} {d:α} (h:l.getD s d ≠ m.getD s d):l ≠ m:=fun e=>h (by rw [e])
end Go.Proofs.YtalkinejknjidaaGreatDoor
namespace Go.SL
open Go.RowKit Go.Shelf Go.Proofs Go.Sort
def svx (k:Nat) (cs:List CT):PV:=⟨fun M w v=>(∃ ad,v = .slice ad cs.length cs.length)∧(sl k cs).p M w [v],fun h l=>⟨h.1,(sl k cs).mono h.2 l⟩⟩
instance {k:Nat} {cs:List CT}:VS (svx k cs) k cs:=⟨fun h=>h.2⟩
section
variable {P : Program} {r : Option Nat} {N : Nat} {X : Cx} {K : TK} {Γ : TE} {S : List Ow} {ops : Array Oper} {M : Nat → Prop} {p q qx qy qi qz : Prop} {Ψ Ψx Ψy Ψi Ψz : PV} {d : Nat} {x y ix lo hi mx : Operand} {t t' : TypeId} {pos : String} {af : Array Edge} {l : List Oper}
variable {v : Value} {ty e tx : TypeId} {k bytes : Nat} {cs : List CT} {c : CT}
theorem osl3 {ki kj:IntKind} {i j:Int} {cs':List CT} (b:Nat) (hx:tv Γ x=some (qx,Ψx)) (hy:tv Γ hi=some (qy,Ψy)) (hz:tv Γ mx=some (qz,Ψz)) [Im p qx] [Im p qy] [Im p qz] [ht:TSl P t e k bytes] [hv:VS Ψx k cs] [hd':DT cs 0 b cs'] [h1:VI Ψy ki i] [h2:VI Ψz kj j] (hi':p→i=(b:Int)) (hj:p→j=(b:Int)) (hb:p→b≤cs.length) :
  Ob P r N ops M S p ⟨some d,.slice t x none (some hi) (some mx),t',pos,af,none⟩ Γ (svx k cs'):=fun D E w d' hd hN hg hp hT=>by
 obtain rfl:=Option.some.inj hd
 obtain ⟨u,e1,k1⟩:=jJ hT hx hp (by simp [Op.operands])
 obtain ⟨u1,e2,k2⟩:=jJ hT hy hp (by simp [Op.operands])
 obtain ⟨u2,e3,k3⟩:=jJ hT hz hp (by simp [Op.operands])
 rw [h1.h k2,hi' hp] at e2
 rw [h2.h k3,hj hp] at e3
 obtain ⟨u3,us,e4,g1,g2,g3⟩:=hv.h k1
 obtain rfl:=List.singleton_inj.1 e4
 obtain ⟨z,hz',_⟩:=ht.s
 have hbl:=hb hp
 obtain ⟨f1,f2,ad,cap,rfl,f3,f4⟩:=g1
 refine kK 0 b b hN ht.u hz' e1 rfl ⟨ki,e2⟩ ⟨rfl,kj,e3⟩ (Nat.zero_le _) (Nat.le_refl _) (by omega) (fin ?_)
 have hif:(if b=0 then ad else ad.map (·.add (0 * k)))=ad:=by
  split
  ·rfl
  ·rcases ad with _ | ⟨b1,o1,f1⟩ <;> simp [Addr.add]
 rw [hif]
 have e5:cs'.length=b:=by rw [← hd'.h,List.length_take,List.length_drop]; omega
 have e6:cs'=cs.take b:=by rw [← hd'.h]; simp
 have hc:=lP g3 g2 hbl
 refine ⟨⟨ad,by rw [e5]; simp⟩,.slice ad b b,us.take (b * k),by simp,⟨?_,by omega,ad,b,by rw [e5],by omega,?_⟩,?_,?_⟩
 ·rw [e5,List.length_take,f1]; have:=Nat.mul_le_mul_right k hbl; omega
 ·rw [e5]
  rcases f4 with f4 | ⟨bb,off,f5,f6,f7⟩
  ·exact .inl (by omega)
  ·refine .inr ⟨bb,off,f5,f6,?_⟩
   obtain ⟨cur,zA0,fz,h8,h9⟩:=f7
   exact ⟨cur,zA0,fz,h8,fun j u hj=>h9 j u (by rw [List.getElem?_take] at hj; split at hj; exact hj; cases hj)⟩
 ·rw [e6]; exact hc.1
 ·rw [e6]; exact fun c hc=>g3 c (List.mem_of_mem_take hc)
end
section
variable {P : Program} {r : Option Nat} {N : Nat} {Γ : TE} {S : List Ow} {ops : Array Oper} {q qx qy : Prop} {Ψx Ψy : PV} {d : Nat} {x y : Operand} {t t' : TypeId} {pos : String} {af : Array Edge}
variable {ty : TypeId} {k bytes : Nat} {cs m : List CT}
end
section
variable {P : Program} {r : Option Nat} {N : Nat} {X : Cx} {Γ : TE} {S : List Ow} {ops : Array Oper} {K : TK}
theorem t_yieldh {α:Type} {xs:List α} {τ:α→List PV} {y:Nat} {YS:List α→Cx→Prop} {YX:Cx→Prop} {pre:List α} {x:α} {d:Nat} {fo:Operand} {ys:List Operand} {ts:Array TypeId} {t':TypeId} {pos:String} {af:Array Edge} {l:List Oper} {q q' qj:Prop} {Φ:PV} {γ b:Bool} {j dj:Nat} {τs:List PV} (hY:Yl P xs τ y YS YX) (hS:YS pre X)
  (hj:(ops[j]?).bind (·.dst)=some dj) (hΓ:tf Γ dj=some (qj,Φ)) [hb:VB Φ γ] [hqj:Tr qj] (hx:γ=b→∃ post,xs=pre ++ x :: post)
  (hf:tv Γ fo=some (q,exP (.func (.yield y) #[] #[]))) (ha:tvs Γ ys=some (q',τs)) [hq:Im (γ=b) q] [hq':Im (γ=b) q'] (hτ:∀ M w vs,Fa τs M w vs→Fa (τ x) M w vs)
  (h0:γ ≠ b→TO P r N ops X K l ((d,γ=b,exP (.bool true)) :: Γ) S)
  (h1:γ=b→∀ Y,YS (pre ++ [x]) Y→TO P r N ops Y K l ((d,γ=b,exP (.bool true)) :: Γ) S) (h2:γ=b→∀ Y,YX Y→TO P r N ops Y K l ((d,γ=b,exP (.bool false)) :: Γ) S) :
  TO P r N ops X K (⟨some d,.call ⟨.value fo,ys.toArray,ts⟩,t',pos,af,some (j,b)⟩ :: l) Γ S:=fun hN D E w hs=>by
 unfold okN at hN
 simp only [List.all_cons,Bool.and_eq_true] at hN
 obtain ⟨v,e0,h6⟩:=(hs.tm dj _ hΓ).1 hqj.h
 obtain rfl:=hb.h h6
 by_cases hγ:γ=b
 ·obtain ⟨u,e1,h3⟩:=pN (hs.tm.tm (Γ.map (·.1))) hf (fun t e=>by subst e; exact eN hf) (hq.h hγ)
  obtain rfl:u=_:=h3
  obtain ⟨post,hx⟩:=hx hγ
  obtain ⟨vs,e2,h4⟩:=uQ (hs.tm.tm (Γ.map (·.1))) ha (hq'.h hγ) fun x hxm t e=>by subst e; exact wH ha hxm
  obtain ⟨hms,hy⟩:=hY.y hx hS hs (hτ _ _ _ h4)
  subst hγ
  refine jC hj e0 (cM hN.1 e1 e2 (hy.mono ?_))
  rintro b w' ⟨Y,k1,k2,⟨rfl,k3⟩ | ⟨rfl,k3⟩⟩
  ·have:=h1 rfl Y k3 hN.2 D _ w' (k1.put (q:=(γ=γ,exP (.bool true))) (xX _) (fun _=>rfl) (fun c=>absurd rfl c))
   rw [k2] at this; rw [hms]; exact this
  ·have:=h2 rfl Y k3 hN.2 D _ w' (k1.put (q:=(γ=γ,exP (.bool false))) (xX _) (fun _=>rfl) (fun c=>absurd rfl c))
   rw [k2] at this; rw [hms]; exact this
 ·exact jD hN.1 hj e0 (by simpa using hγ) (h0 hγ hN.2 D _ w (hs.put (xX _) (q:=(γ=b,exP (.bool true))) (fun c=>absurd c hγ) (fun _=>rfl)))
end
section
variable {X : Cx} {w w' : World} {Γ : TE} {S : List Ow} {E : Env}
theorem St.addrN (h:St X Γ S E w) {b kk len:Nat} {ty:TypeId} {us:List Value} {cs:List CT} (hn:New w w' b (.cells us.toArray ty (0,0))) (hl:us.length=len * kk) (hm:len≤1000) (hcl:cs.length=len) (hst:stp cs (Mk S X.M) w us) (hall:kG kk cs):St X Γ (.row (.slice (some ⟨b,0,none⟩) len len) ty kk cs :: S) E w':=by
 have hb:=hn.below
 have hbs:w.heap.size≤b:=by rw [hn.at_]; exact Nat.le_refl _
 have cl:Cl (Mk S X.M) w (Mk (.row (.slice (some ⟨b,0,none⟩) len len) ty kk cs :: S) X.M) w':=Cl.new hb hbs fun k hk=>(dN.1 hk).imp (fun e=>(Option.some.inj e).symm) id
 refine ⟨h.bel.bel hb,⟨fun k hk=>?_,h.gd.tab.cl cl,fun o ho=>?_⟩,fun o ho k hk=>?_,⟨fun k hk p hp e=>?_,h.apt⟩,h.ok0,h.zm,h.mko.nc (.rb hb),h.tm.mono cl⟩
 ·rcases dN.1 hk with e | hk
  ·rw [← Option.some.inj (show some b=some k from e),hn.size,hn.at_]; omega
  ·exact Nat.lt_of_lt_of_le (h.gd.ok k hk) hb.size
 ·rcases List.mem_cons.1 ho with rfl | ho
  ·exact ⟨us,by rw [hcl]; exact own_bs hn hl hm,jA hst cl,hall⟩
  ·exact Ow.ok_mono (h.gd.own o ho) cl fun k _ hlt=>hb.block k hlt
 ·rcases List.mem_cons.1 ho with rfl | ho
  ·rw [← Option.some.inj (show some b=some k from hk)]; exact .inl (Nat.le_trans h.bel.size hbs)
  ·exact h.new o ho k hk
 ·have:=h.okS p hp k e
  rw [← Option.some.inj (show some b=some k from hk)] at this
  omega
end
theorem tbs {P:Program} {r:Option Nat} {N:Nat} {ops:Array Oper} {X:Cx} {K:TK} {S:List Ow} {Γ:TE} {d k bytes len:Nat} {ty t t':TypeId} {pos:String} {af:Array Edge} {l:List Oper} {q:Prop} {parts:List (Nat × Operand)} {τs:List PV} {cs:List CT} (hx:tvs Γ (parts.map (·.2))=some (q,τs)) [hi:Tr q] [ht:TSl P t ty k bytes] [hc:CtL τs cs] (hp:parts.map (·.1)=List.range len) (hs:(cs.all fun c=>Nat.beq c.sz k)=true) (hl:Nat.ble (len * k) 1000=true) (h0:Nat.beq len 0=false) (hn:cs.length=len)
  (h:∀ v',TO P r N ops X K l ((d,True,exP v') :: Γ) (.row v' ty k cs :: S)):TO P r N ops X K (⟨some d,.buildSlice t len parts.toArray,t',pos,af,none⟩ :: l) Γ S:=fun hN D E w hst=>by
 unfold okN at hN
 simp only [List.all_cons,Bool.and_eq_true] at hN
 obtain ⟨vs,e1,h1⟩:=uQ (hst.tm.tm (Γ.map (·.1))) hx hi.h fun x hxm t e=>by subst e; exact wH hx hxm
 obtain ⟨uss,g1,g2,g3⟩:=hc.h h1
 have hall:kG k cs:=fun c hc=>Nat.eq_of_beq_eq_true (List.all_eq_true.1 hs c hc)
 have hlen:=qH g2
 rw [lO hall,hn] at hlen
 obtain ⟨z,hz,hzc⟩:=ht.s
 have hle:len≤1000:=by
  have:=Nat.le_of_ble_eq_true hl
  have h0:=Nat.ne_of_beq_eq_false ht.n
  exact Nat.le_trans (Nat.le_mul_of_pos_right _ (Nat.pos_of_ne_zero h0)) this
 refine kZ hN.1 ht.u hz hzc ht.n (by simpa using hp) (by simpa using e1) g1 ?_ hl h0 fun w' b hw=>?_
 ·refine List.all_eq_true.2 fun c hc=>?_
  have:c.length ∈ uss.map List.length:=List.mem_map_of_mem hc
  rw [g3] at this
  obtain ⟨c',h5,h6⟩:=List.mem_map.1 this
  rw [← h6]; exact List.all_eq_true.1 hs c' h5
 ·exact h _ hN.2 D _ w' ((hst.addrN hw hlen hle hn g2 hall).put (xX _) (fun _=>rfl) (fun c=>absurd trivial c))
theorem ong {P:Program} {r:Option Nat} {N:Nat} {Γ:TE} {S:List Ow} {ops:Array Oper} {M:Nat→Prop} {p qx:Prop} {Ψx:PV} {d:Nat} {x:Operand} {t t':TypeId} {pos:String} {af:Array Edge} {a:Int} (hx:tv Γ x=some (qx,Ψx)) [Im p qx] [ha:VI Ψx .i64 a] (hs:p → -9223372036854775808 < a∧a≤9223372036854775807):Ob P r N ops M S p ⟨some d,.unOp .neg t x,t',pos,af,none⟩ Γ (exP (.int .i64 (-a))):=fun D E w d' hd hN hg hp hT=>by
 obtain rfl:=Option.some.inj hd
 obtain ⟨v,e1,h1⟩:=jJ hT hx hp (by simp [Op.operands])
 rw [ha.h h1] at e1
 have:=hs hp
 exact ops_neg hN e1 (by omega) (fin rfl)
end Go.SL
namespace Go.SL
open Go.RowKit
section
variable {P : Program} {r : Option Nat} {N : Nat} {X : Cx} {K : TK} {Γ : TE} {S : List Ow} {ops : Array Oper} {M : Nat → Prop} {p q qx qy qz qi : Prop} {Ψ Ψx Ψy Ψz Ψi : PV} {d : Nat} {x y z ix : Operand} {t t' e : TypeId} {tx ty : TypeId} {pos : String} {af : Array Edge} {l : List Oper} {v : Value} {k bytes sz i j n m : Nat} {cs cs' : List CT} {c : CT} {ki kj : IntKind} {a b : Int} {C D G G' : Prop}
theorem tqn [hx:TV Γ x qx Ψx] [Tr qx] [ht:TSl P tx e k bytes] [hv:VS Ψx k cs] (h:∀ b:Bool,(b=true→cs.length=0)→TO P r N ops X K l ((d,True,exP (.bool b)) :: Γ) S):TO P r N ops X K (⟨some d,.binOp .eql tx x (.const (.slice none 0 0)) ty,t',pos,af,none⟩ :: l) Γ S:=fun hN D E w hs=>by
 unfold okN at hN
 simp only [List.all_cons,Bool.and_eq_true] at hN
 obtain ⟨u,e1,k1⟩:=uI hs hx.h
 obtain ⟨u3,us,e4,g1,g2,g3⟩:=hv.h k1
 obtain rfl:=List.singleton_inj.1 e4
 obtain ⟨f1,f2,ad,cap,rfl,f3,f4⟩:=g1
 refine tT hN.1 ⟨e,ht.u⟩ e1 rfl (h ad.isNone (fun hn=>?_) hN.2 D _ w (hs.put (xX _) (fun _=>rfl) (fun c=>absurd trivial c)))
 rcases f4 with f4 | ⟨bb,off,f5,_⟩
 ·exact f4
 ·subst f5; cases hn
instance {hi:Operand} [h:TV Γ x qx Ψx] [g:TV Γ hi qi Ψi] [Im p qx] [hq:Im p qi] [TSl P t e k bytes] [VS Ψx k cs] [vi:VI Ψi ki a] [ij:IJ a j C] [DT cs 0 j cs'] [ll:LL cs n] [an:An C (j≤n) G]:OB P r N ops S p (.slice t x none (some hi) none) t' Γ (sv (sl k cs')) (p→G) :=
 ⟨fun A=>osl 0 j h.h rfl ⟨_,_,_,_,g.h,hq.h,vi,fun q=>ij.h (an.h (A q)).1⟩ (fun _=>Nat.zero_le _) fun q=>by rw [ll.h]; exact (an.h (A q)).2⟩
instance {lo:Operand} [h:TV Γ x qx Ψx] [g:TV Γ lo qi Ψi] [Im p qx] [hq:Im p qi] [TSl P t e k bytes] [VS Ψx k cs] [vi:VI Ψi ki a] [ij:IJ a j C] [ll:LL cs n] [DT cs j n cs'] [an:An C (j≤n) G]:OB P r N ops S p (.slice t x (some lo) none none) t' Γ (sv (sl k cs')) (p→G) :=
 ⟨fun A=>osl j n h.h ⟨_,_,_,_,g.h,hq.h,vi,fun q=>ij.h (an.h (A q)).1⟩ (fun _=>ll.h.symm) (fun q=>(an.h (A q)).2) fun _=>Nat.le_of_eq ll.h.symm⟩
instance {lo hi:Operand} [h:TV Γ x qx Ψx] [g:TV Γ lo qi Ψi] [g':TV Γ hi qy Ψy] [Im p qx] [hq:Im p qi] [hq':Im p qy] [TSl P t e k bytes] [VS Ψx k cs] [vi:VI Ψi ki a] [ij:IJ a j C] [vi':VI Ψy kj b] [ij':IJ b m D] [ll:LL cs n] [DT cs j m cs'] [an:An C D G] [an':An G (j≤m∧m≤n) G']:OB P r N ops S p (.slice t x (some lo) (some hi) none) t' Γ (sv (sl k cs')) (p→G') :=
 ⟨fun A=>osl j m h.h ⟨_,_,_,_,g.h,hq.h,vi,fun q=>ij.h (an.h (an'.h (A q)).1).1⟩ ⟨_,_,_,_,g'.h,hq'.h,vi',fun q=>ij'.h (an.h (an'.h (A q)).1).2⟩ (fun q=>(an'.h (A q)).2.1) fun q=>by rw [ll.h]; exact (an'.h (A q)).2.2⟩
instance [h:TV Γ x qx Ψx] [Im p qx] [TSl P t e k bytes] [VS Ψx k cs] [ll:LL cs n] [DT cs 0 n cs']:OB P r N ops S p (.slice t x none none none) t' Γ (sv (sl k cs')) True :=
 ⟨fun _=>osl 0 n h.h rfl (fun _=>ll.h.symm) (fun _=>Nat.zero_le _) fun _=>Nat.le_of_eq ll.h.symm⟩
instance {hi mx:Operand} [h:TV Γ x qx Ψx] [g:TV Γ hi qi Ψi] [g':TV Γ mx qy Ψy] [Im p qx] [Im p qi] [Im p qy] [TSl P t e k bytes] [VS Ψx k cs] [VI Ψi ki a] [ij:IJ a j C] [VI Ψy kj b] [ij':IJ b m D] [ll:LL cs n] [DT cs 0 j cs'] [an:An C D G] [an':An G (m=j∧j≤n) G']:OB P r N ops S p (.slice t x none (some hi) (some mx)) t' Γ (svx k cs') (p→G') :=
 ⟨fun A=>osl3 j h.h g.h g'.h (fun q=>ij.h (an.h (an'.h (A q)).1).1) (fun q=>by rw [ij'.h (an.h (an'.h (A q)).1).2,(an'.h (A q)).2.1]) fun q=>by rw [ll.h]; exact (an'.h (A q)).2.2⟩
instance [h:TV Γ x qx (exP v)] [g:TV Γ ix qi Ψi] [Im p qx] [Im p qi] [s:SRi S v i e k cs] [TSl P t e k bytes] [VI Ψi ki a] [ij:IJ a j C] [ll:LL cs n] [an:An C (j < n) G]:OB P r N ops S p (.indexAddr t x ix) t' Γ (eP v k j) (p→G) :=
 ⟨fun A=>oixo i j s.h h.h g.h (fun q=>ij.h (an.h (A q)).1) fun q=>by rw [ll.h]; exact (an.h (A q)).2⟩
instance {f:Bool} [h:TV Γ x qx (eP v k j)] [Im p qx] [s:SRi S v i e k cs] [TLd P t f k] [LA cs j c] [ll:LL cs n] [LdA f c Ψ]:OB P r N ops S p (.load t x) t' Γ Ψ (p→j < n) :=
 ⟨fun A=>oldr i s.h h.h (fun q=>by rw [ll.h]; exact A q) (Nat.beq_refl _)⟩
class ST (cs:List CT) (j:Nat) (c:CT) (cs':outParam (List CT)):Prop where h:cs.set j c=cs'
instance {α:Type} {f:α→CT} {xs:List α} {a:α}:ST (xs.map f) j (f a) ((xs.set j a).map f):=⟨by rw [List.map_set]⟩
instance {f:Bool} {S':List Ow} [h:TV Γ x qx (eP v k j)] [g:TV Γ y qy Ψy] [Tr qx] [Tr qy] [CtOf Ψy c] [TLd P t f k] [hz:SzC c k] [s:SRi S v i e k cs] [ll:LL cs n] [st:ST cs j c cs'] [ls:LSet S i (.row v e k cs') S'] :
  Au (TO P r N ops X K (⟨none,.store t x y,t',pos,af,none⟩ :: l) Γ S) (j < n) (TO P r N ops X K l Γ S') :=
 ⟨fun A h'=>tsr i j s.h h.h g.h (by rw [hz.h]; exact Nat.beq_refl _) (Nat.beq_refl _) (by rw [ll.h]; exact A) st.h (by rw [ls.h]; exact h')⟩
end
section
variable {X : Cx} {w w' : World} {Γ : TE} {S : List Ow} {E : Env}
theorem St.addrv (h:St X Γ S E w) {b kk:Nat} {ty:TypeId} {v:Value} {cur:Array Value} {cs:List CT} {us:List Value} (hn:New w w' b (.cells cur ty (0,0))) (hv:v.ownBlock=some b) (ho':w'.ownsRow 0 ty kk v cs.length us) (hst:stp cs (Mk S X.M) w us) (hall:kG kk cs):St X Γ (.row v ty kk cs :: S) E w':=by
 have hb:=hn.below
 have hbs:w.heap.size≤b:=by rw [hn.at_]; exact Nat.le_refl _
 have cl:Cl (Mk S X.M) w (Mk (.row v ty kk cs :: S) X.M) w':=Cl.new hb hbs fun k hk=>(dN.1 hk).imp (fun e=>(Option.some.inj (hv.symm.trans e)).symm) id
 refine ⟨h.bel.bel hb,⟨fun k hk=>?_,h.gd.tab.cl cl,fun o ho=>?_⟩,fun o ho k hk=>?_,⟨fun k hk p hp e=>?_,h.apt⟩,h.ok0,h.zm,h.mko.nc (.rb hb),h.tm.mono cl⟩
 ·rcases dN.1 hk with e | hk
  ·rw [← Option.some.inj (hv.symm.trans e),hn.size,hn.at_]; omega
  ·exact Nat.lt_of_lt_of_le (h.gd.ok k hk) hb.size
 ·rcases List.mem_cons.1 ho with rfl | ho
  ·exact ⟨us,ho',jA hst cl,hall⟩
  ·exact Ow.ok_mono (h.gd.own o ho) cl fun k _ hlt=>hb.block k hlt
 ·rcases List.mem_cons.1 ho with rfl | ho
  ·rw [← Option.some.inj (hv.symm.trans hk)]; exact .inl (Nat.le_trans h.bel.size hbs)
  ·exact h.new o ho k hk
 ·have:=h.okS p hp k e
  rw [← Option.some.inj (hv.symm.trans hk)] at this
  omega
theorem St.addr0 (h:St X Γ S E w) {b kk:Nat} {ty:TypeId} (hn:New w w' b (.cells #[] ty (0,0))):St X Γ (.row (.slice (some ⟨b,0,none⟩) 0 0) ty kk [] :: S) E w' :=
 h.addrv hn rfl (own_bs0 hn) (us:=[]) rfl (by simp [kG])
end
theorem tbs0 {P:Program} {r:Option Nat} {N:Nat} {ops:Array Oper} {X:Cx} {K:TK} {S:List Ow} {Γ:TE} {d k bytes:Nat} {t e t':TypeId} {pos:String} {af:Array Edge} {l:List Oper} [ht:TSl P t e k bytes] (h:∀ v',TO P r N ops X K l ((d,True,exP v') :: Γ) (.row v' e k [] :: S)):TO P r N ops X K (⟨some d,.buildSlice t 0 #[],t',pos,af,none⟩ :: l) Γ S:=fun hN D E w hs=>by
 unfold okN at hN
 simp only [List.all_cons,Bool.and_eq_true] at hN
 obtain ⟨z,hz,_⟩:=ht.s
 refine ops_bs0 hN.1 ht.u ⟨z,hz⟩ fun w' b hn=>?_
 exact h _ hN.2 D _ w' ((hs.addr0 hn).put (xX _) (fun _=>rfl) (fun c=>absurd trivial c))
section
variable {P : Program} {r : Option Nat} {N : Nat} {X : Cx} {K : TK} {Γ : TE} {S : List Ow} {ops : Array Oper} {qx qy : Prop} {Ψx Ψy : PV} {d : Nat} {x y : Operand} {t t' e : TypeId} {pos : String} {af : Array Edge} {l : List Oper} {k bytes i j : Nat} {ki kj : IntKind} {a b : Int} {C D G G' : Prop}
instance [TSl P t e k bytes]:Au (TO P r N ops X K (⟨some d,.buildSlice t 0 [].toArray,t',pos,af,none⟩ :: l) Γ S) True (∀ v',TO P r N ops X K l ((d,True,exP v') :: Γ) (.row v' e k [] :: S)):=⟨fun _ h=>tbs0 h⟩
theorem own_mk {w w':World} {b n c:Nat} {z:Value} {ty:TypeId} (h:New w w' b (.cells (List.replicate c z).toArray ty (0,0))) (hn:n≤c) (hc:c≤maxLen):w'.ownsRow 0 ty 1 (.slice (some ⟨b,0,none⟩) n c) n (List.replicate n z) :=
 ⟨by simp,.inr ⟨b,c,_,rfl,Nat.zero_le _,h.obj,hn,hc,by simp,by simp [Nat.min_eq_left hn]⟩⟩
theorem zX1 {M:Nat→Prop} {w:World} {z:Value} (hz:z.oneCell'=true):∀ n,stp (List.replicate n (xc z)) M w (List.replicate n z)
 | 0=>rfl
 | n + 1=>⟨[z],List.replicate n z,rfl,⟨rfl,hz⟩,zX1 hz n⟩
class Z1 (P:Program) (e:TypeId) (z:outParam Value):Prop where h:∃ bytes,Sz P e 1 bytes z∧bytes≤1000∧z.oneCell'=true
theorem tmk {z:Value} [ht:TSl P t e 1 bytes] [hz:Z1 P e z] [h1:TV Γ x qx Ψx] [h2:TV Γ y qy Ψy] [Tr qx] [Tr qy] [v1:VI Ψx ki a] [v2:VI Ψy kj b] (i j:Nat) (ha:a=(i:Int)) (hb:b=(j:Int)) (hij:i≤j) (hj:j≤100000000000)
  (h:∀ v',TO P r N ops X K l ((d,True,exP v') :: Γ) (.row v' e 1 (List.replicate i (xc z)) :: S)):TO P r N ops X K (⟨some d,.makeSlice t x y,t',pos,af,none⟩ :: l) Γ S:=fun hN D E w hs=>by
 unfold okN at hN
 simp only [List.all_cons,Bool.and_eq_true] at hN
 obtain ⟨u1,e1,k1⟩:=uI hs h1.h
 obtain ⟨u2,e2,k2⟩:=uI hs h2.h
 rw [v1.h k1] at e1
 rw [v2.h k2] at e2
 obtain ⟨by',hs1,hby,hone⟩:=hz.h
 refine mE i j hN.1 ht.u hs1 hone e1 e2 ha hb hij (Nat.le_trans (Nat.mul_le_mul hby hj) (by decide)) (by omega) fun w' b hn=>?_
 refine h _ hN.2 D _ w' ((hs.addrv hn rfl (by rw [List.length_replicate]; exact own_mk hn hij (Nat.le_trans hj (by decide))) (zX1 hone i) (fun c hc=>by rw [List.eq_of_mem_replicate hc]; rfl)).put (xX _) (fun _=>rfl) (fun c=>absurd trivial c))
instance {z:Value} [ht:TSl P t e 1 bytes] [hz:Z1 P e z] [h1:TV Γ x qx Ψx] [h2:TV Γ y qy Ψy] [Tr qx] [Tr qy] [v1:VI Ψx ki a] [v2:VI Ψy kj b] [p1:IJ a i C] [p2:IJ b j D] [an:An C D G] [an':An G (i≤j∧j≤100000000000) G']:Au (TO P r N ops X K (⟨some d,.makeSlice t x y,t',pos,af,none⟩ :: l) Γ S) G' (∀ v',TO P r N ops X K l ((d,True,exP v') :: Γ) (.row v' e 1 (List.replicate i (xc z)) :: S)) :=
 ⟨fun A h=>tmk i j (p1.h (an.h (an'.h A).1).1) (p2.h (an.h (an'.h A).1).2) (an'.h A).2.1 (an'.h A).2.2 h⟩
end
def Fsub (τs σs:List PV):Prop:=∀ M w vs,Fa τs M w vs→Fa σs M w vs
theorem fs0:Fsub [] []:=fun _ _ _ h=>h
theorem fs1 {τ σ:PV} {τs σs:List PV} (h:PSub τ σ) (k:Fsub τs σs):Fsub (τ :: τs) (σ :: σs):=fun M w vs ⟨v,us,e,h1,h2⟩=>⟨v,us,e,h _ _ _ h1,k _ _ _ h2⟩
theorem yG {P:Program} {f:FuncId} {τs σs:List PV} {ρ:PV} (h:CTy P f σs ρ) (hs:Fsub τs σs):CTy P f τs ρ:=⟨h.bod,fun M w vs hM hT hv=>h.run M w vs hM hT (hs _ _ _ hv)⟩
end Go.SL
namespace Go.Proofs.YtalkinejknjidaaGreatDoor
open Go.SL Tryz
instance:TI prog 2 .i64:=⟨underlying2⟩
instance:TI prog 3 .i64:=⟨yu3⟩
instance:TI prog 5 .u8:=⟨yu5⟩
instance:TI prog 6 .u8:=⟨underlying6⟩
instance:TI prog 12 .u64:=⟨underlying12⟩
instance:TI prog 21 .i32:=⟨underlying21⟩
instance:TI prog 79 .i64:=⟨underlying79⟩
instance:TI prog 83 .i8:=⟨underlying83⟩
instance:TI prog 155 .u32:=⟨yu155⟩
instance:TI prog 195 .u64:=⟨underlying195⟩
instance:TI prog 196 .u64:=⟨yu196⟩
instance:TI prog 242 .i64:=⟨underlying242⟩
instance:TI prog 291 .u64:=⟨underlying291⟩
instance:TI prog 373 .u8:=⟨underlying373⟩
instance:TI prog 374 .u8:=⟨underlying374⟩
instance:TI prog 377 .i32:=⟨underlying377⟩
instance:TI prog 378 .i32:=⟨underlying378⟩
end Go.Proofs.YtalkinejknjidaaGreatDoor
set_option maxHeartbeats 4000000
namespace Go.Proofs.YtalkinejknjidaaGreatDoor
open Go.SL Go.RowKit Go.Proofs Tryz
abbrev xw (x:Nat):CT:=xc (.int .u32 (x:Int))
def ntx (xs:List Nat):CT where
 sz:=1
 p M w cs:=∃ v,cs=[v]∧IsNat M w v xs
 len h:=by obtain ⟨_,rfl,_⟩:=h; rfl
 one h u hu:=by obtain ⟨v,rfl,h⟩:=h; rw [List.mem_singleton.1 hu]; exact jY h
 mono h k:=by obtain ⟨v,rfl,h⟩:=h; exact ⟨v,rfl,h.cl k⟩
def itx (a:Bool × List Nat):CT:=st [xc (.bool a.1),ntx a.2]
instance {xs:List Nat}:SzC (ntx xs) 1:=⟨rfl⟩
instance {a:Bool × List Nat}:SzC (itx a) 2:=⟨rfl⟩
instance:Df Nat:=⟨0⟩
instance:Df Int:=⟨0⟩
theorem zR7 {M:Nat→Prop} {w:World}:∀ {xs:List Nat},stp (xs.map xw) M w (xs.map lw)
 | []=>rfl
 | x :: xs=>⟨[lw x],xs.map lw,rfl,⟨rfl,rfl⟩,zR7⟩
instance {xs:List Nat}:VS (sv (ntx xs)) 1 (xs.map xw):=⟨fun ⟨v,e,h⟩=>⟨v,xs.map lw,e,by rw [List.length_map]; exact h.slc,zR7,fun c hc=>by obtain ⟨a,_,rfl⟩:=List.mem_map.1 hc; rfl⟩⟩
instance {a:Bool × List Nat}:FA (itx a) 0 (xc (.bool a.1)):=⟨fun h=>uA (l:=[xc (.bool a.1),ntx a.2]) (o:=0) h rfl⟩
instance {a:Bool × List Nat}:FA (itx a) 1 (ntx a.2):=⟨fun h=>uA (l:=[xc (.bool a.1),ntx a.2]) (o:=1) h rfl⟩
class VX (Ψ:PV) (xs:outParam (List Nat)):Prop where
 h:∀ {M w v},Ψ.p M w v→IsNat M w v xs
instance {xs:List Nat}:VX (sv (ntx xs)) xs:=⟨fun ⟨a,e,h⟩=>by rw [List.singleton_inj.1 e]; exact h⟩
theorem osn {P:Program} {r:Option Nat} {N:Nat} {Γ:TE} {S:List Ow} {ops:Array Oper} {M:Nat→Prop} {p qx:Prop} {d:Nat} {x:Operand} {t e t':TypeId} {pos:String} {af:Array Edge} {xs:List Nat} {bytes:Nat} {lo hi:Option Operand} (a b:Nat) (hx:tv Γ x=some (qx,sv (ntx xs))) [hq:Im p qx] [ht:TSl P t e 1 bytes]
  (hlo:match lo with | none=>a=0 | some o=>∃ q Ψ ki i,tv Γ o=some (q,Ψ)∧(p→q)∧VI Ψ ki i∧(p→i=(a:Int))) (hhi:match hi with | none=>p→b=xs.length | some o=>∃ q Ψ ki i,tv Γ o=some (q,Ψ)∧(p→q)∧VI Ψ ki i∧(p→i=(b:Int))) (hab:p→a≤b) (hbl:p→b≤xs.length) :
  Ob P r N ops M S p ⟨some d,.slice t x lo hi none,t',pos,af,none⟩ Γ (sv (ntx ((xs.drop a).take (b - a)))):=fun D E w d' hd hN hg hp hT=>by
 obtain rfl:=Option.some.inj hd
 obtain ⟨u,e1,u',e2,h2⟩:=jJ hT hx hp (by simp [Op.operands])
 obtain rfl:=List.singleton_inj.1 e2
 obtain ⟨z,hz,_⟩:=ht.s
 refine bE a b hN ht.u hz e1 h2.slc ?_ ?_ trivial (hab hp) (hbl hp) fun u hu=>fin ⟨u,rfl,h2.sub (hbl hp) hu⟩
 ·cases lo with
  | none=>exact hlo
  | some o =>
   obtain ⟨q,Ψ,ki,i,g1,g2,g3,g4⟩:=hlo
   obtain ⟨v,g5,g6⟩:=pN hT g1 (fun s e=>by subst e; exact qZ (o:=⟨some d,.slice t x (some (.tmp s)) hi none,t',pos,af,none⟩) (by cases hi <;> simp [Op.operands]) s rfl) (g2 hp)
   exact ⟨ki,by rw [g5,g3.h g6,g4 hp]⟩
 ·cases hi with
  | none=>exact hhi hp
  | some o =>
   obtain ⟨q,Ψ,ki,i,g1,g2,g3,g4⟩:=hhi
   obtain ⟨v,g5,g6⟩:=pN hT g1 (fun s e=>by subst e; exact qZ (o:=⟨some d,.slice t x lo (some (.tmp s)) none,t',pos,af,none⟩) (by cases lo <;> simp [Op.operands]) s rfl) (g2 hp)
   exact ⟨ki,by rw [g5,g3.h g6,g4 hp]⟩
section
variable {P : Program} {r : Option Nat} {N : Nat} {X : Cx} {K : TK} {Γ : TE} {S : List Ow} {ops : Array Oper} {p qx qy qi : Prop} {Ψx Ψy Ψi : PV} {d i j m bytes : Nat} {x y lo hi : Operand} {t t' e : TypeId} {pos : String} {af : Array Edge} {l : List Oper} {xs : List Nat} {ki kj : IntKind} {a b : Int} {C D G G' : Prop}
instance (priority:=high) [h:TV Γ x qx (sv (ntx xs))] [g:TV Γ hi qi Ψi] [Im p qx] [hq:Im p qi] [TSl P t e 1 bytes] [vi:VI Ψi ki a] [ij:IJ a j C] [an:An C (j≤xs.length) G]:OB P r N ops S p (.slice t x none (some hi) none) t' Γ (sv (ntx (xs.take j))) (p→G) :=
 ⟨fun A=>osn 0 j h.h rfl ⟨_,_,_,_,g.h,hq.h,vi,fun q=>ij.h (an.h (A q)).1⟩ (fun _=>Nat.zero_le _) fun q=>(an.h (A q)).2⟩
instance (priority:=high) [h:TV Γ x qx (sv (ntx xs))] [g:TV Γ lo qi Ψi] [Im p qx] [hq:Im p qi] [TSl P t e 1 bytes] [vi:VI Ψi ki a] [ij:IJ a j C] [an:An C (j≤xs.length) G]:OB P r N ops S p (.slice t x (some lo) none none) t' Γ (sv (ntx (xs.drop j))) (p→G) :=
 ⟨fun A=>by
  intro M d pos af
  have:=osn (P:=P) (r:=r) (N:=N) (S:=S) (ops:=ops) (M:=M) (p:=p) (d:=d) (t:=t) (t':=t') (pos:=pos) (af:=af) (bytes:=bytes) (lo:=some lo) (hi:=none) j xs.length h.h ⟨_,_,_,_,g.h,hq.h,vi,fun q=>ij.h (an.h (A q)).1⟩ (fun _=>rfl) (fun q=>(an.h (A q)).2) fun _=>Nat.le_refl _
  rwa [List.take_of_length_le (by simp)] at this⟩
instance (priority:=high) [ht:TSl P t e 1 bytes] [hz:Z1 P e (.int .u32 0)] [h1:TV Γ x qx Ψx] [h2:TV Γ y qy Ψy] [Tr qx] [Tr qy] [v1:VI Ψx ki a] [v2:VI Ψy kj b] [p1:IJ a i C] [p2:IJ b j D] [an:An C D G] [an':An G (i≤j∧j≤100000000000) G']:Au (TO P r N ops X K (⟨some d,.makeSlice t x y,t',pos,af,none⟩ :: l) Γ S) G' (∀ v',TO P r N ops X K l ((d,True,exP v') :: Γ) (.row v' e 1 ((List.replicate i 0).map xw) :: S)) :=
 ⟨fun A h=>tmk i j (p1.h (an.h (an'.h A).1).1) (p2.h (an.h (an'.h A).1).2) (an'.h A).2.1 (an'.h A).2.2 (by rw [List.map_replicate] at h; exact h)⟩
end
instance {x:Nat}:SzC (xw x) 1:=⟨rfl⟩
theorem uT {xs ys:List Nat} (h:∀ x ∈ xs,x < 4294967296) (e:xs=ys):PSub (sv (sl 1 (xs.map xw))) (sv (ntx ys)):=fun M w v ⟨u,us,e1,h1,h2,h3⟩=>by
 subst e
 have e2:us=xs.map lw:=by
  have:∀ {xs:List Nat} {us:List Value},stp (xs.map xw) M w us→us=xs.map lw:=by
   intro xs
   induction xs with
   | nil=>intro us h; exact h
   | cons x xs ih=>rintro us ⟨a,b,rfl,⟨rfl,_⟩,h⟩; rw [ih h]; rfl
  exact this h2
 subst e2
 rw [List.length_map] at h1
 exact ⟨u,e1,h1,h⟩
class XW (τs:List PV) (xs:outParam (List Nat)) (C:outParam Prop):Prop where
 h:C→(∀ x ∈ xs,x < 4294967296)
 e:∀ {M w vs},Fa τs M w vs→Fa (xs.map fun (x:Nat)=>exP (.int .u32 (x:Int))) M w vs
instance:XW [] [] True:=⟨fun _=>by simp,id⟩
instance {Ψ:PV} {τs:List PV} {x:Nat} {xs:List Nat} {C D:Prop} [v:VU Ψ .u32 x] [h:XW τs xs C] [g:An (x < 4294967296) C D]:XW (Ψ :: τs) (x :: xs) D :=
 ⟨fun c y hy=>(List.mem_cons.1 hy).elim (fun e=>e ▸ (g.h c).1) (h.h (g.h c).2 y),fun ⟨u,us,e,k1,k2⟩=>⟨u,us,e,v.h k1,h.e k2⟩⟩
theorem yK7:∀ {xs:List Nat},CtL (xs.map fun (x:Nat)=>exP (.int .u32 (x:Int))) (xs.map xw)
 | []=>(inferInstance:CtL [] [])
 | x :: xs=>have:=@yK7 xs; (inferInstance:CtL (exP (.int .u32 (x:Int)) :: xs.map fun (x:Nat)=>exP (.int .u32 (x:Int))) (xw x :: xs.map xw))
theorem bH {P:Program} {r:Option Nat} {N:Nat} {ops:Array Oper} {M:Nat→Prop} {S:List Ow} {p:Prop} {o:Oper} {Γ:TE} {Ψ Φ:PV} (h:Ob P r N ops M S p o Γ Ψ) (hs:PSub Ψ Φ):Ob P r N ops M S p o Γ Φ:=fun D E w d hd hN hg hp hT =>
 lX (h D E w d hd hN hg hp hT) fun D' E' w' ⟨e1,e2,v,e3,e4⟩=>⟨e1,e2,v,e3,hs _ _ _ e4⟩
theorem obsn {P:Program} {r:Option Nat} {N:Nat} {ops:Array Oper} {M:Nat→Prop} {S:List Ow} {p q:Prop} {Γ:TE} {d:Nat} {t t' e:TypeId} {pos:String} {af:Array Edge} {bytes len:Nat} {parts:List (Nat × Operand)} {τs:List PV} {xs:List Nat} {C:Prop} (hx:tvs Γ (parts.map (·.2))=some (q,τs)) [hi:Im p q] [ht:TSl P t e 1 bytes] [hw:XW τs xs C] (hp:parts.map (·.1)=List.range len) (hl:Nat.ble len 1000=true) (h0:Nat.beq len 0=false) (hn:xs.length=len) (hC:C) :
  Ob P r N ops M S p ⟨some d,.buildSlice t len parts.toArray,t',pos,af,none⟩ Γ (sv (ntx xs)):=fun D E w d' hd hN hg hp' hT=>by
 obtain rfl:=Option.some.inj hd
 obtain ⟨vs,e1,h1⟩:=uQ hT hx (hi.h hp') fun x hx=>qZ (by simpa [Op.operands] using hx)
 obtain ⟨uss,g1,g2,g3⟩:=yK7.h (hw.e h1)
 have hall:kG 1 (xs.map xw):=fun c hc=>by obtain ⟨a,_,rfl⟩:=List.mem_map.1 hc; rfl
 have hlen:=qH g2
 rw [lO hall,List.length_map,hn] at hlen
 obtain ⟨z,hz,hzc⟩:=ht.s
 have hle:=Nat.le_of_ble_eq_true hl
 refine kZ hN ht.u hz hzc ht.n (by simpa using hp) (by simpa using e1) g1 ?_ (by simpa using hl) h0 fun w' b hw'=>?_
 ·refine List.all_eq_true.2 fun c hc=>?_
  have:c.length ∈ uss.map List.length:=List.mem_map_of_mem hc
  rw [g3] at this
  obtain ⟨ct,h3,h4⟩:=List.mem_map.1 this
  rw [← h4,hall ct h3]; rfl
 ·refine zF ⟨rfl,hw'.below,_,gH (by simp),uT (hw.h hC) rfl M w' _ ⟨_,uss.flatten,rfl,?_,jA g2 (Cl.bel hw'.below),hall⟩⟩
  rw [List.length_map,hn]
  exact hw'.blk.slc (hg.ok.new hw') (by simpa using hlen) (fun j u hj=>by simpa using hj) (by omega) (Nat.le_refl _)
instance (priority:=high) {P:Program} {r:Option Nat} {N:Nat} {ops:Array Oper} {S:List Ow} {p q:Prop} {Γ:TE} {t t' e:TypeId} {bytes len:Nat} {parts:List (Nat × Operand)} {τs:List PV} {xs:List Nat} {C:Prop} [hx:TPs Γ parts q τs] [Im p q] [TSl P t e 1 bytes] [XW τs xs C]:OB P r N ops S p (.buildSlice t len parts.toArray) t' Γ (sv (ntx xs)) ((decide (parts.map (·.1)=List.range len) && Nat.ble len 1000 && !Nat.beq len 0 && Nat.beq xs.length len)=true∧C) :=
 ⟨fun ⟨A,c⟩=>by
  simp only [Bool.and_eq_true,decide_eq_true_eq,Bool.not_eq_true'] at A
  exact obsn hx.h A.1.1.1 A.1.1.2 A.1.2 (Nat.eq_of_beq_eq_true A.2) c⟩
instance (priority:=high) {xs:List Nat} {j:Nat}:LA (xs.map xw) j (xw (xs.getD j 0)):=⟨fun h=>by
 have h:j < xs.length:=by simpa using h
 simp [List.getElem?_eq_getElem h]⟩
instance (priority:=high) {α:Type} {f:α→CT} {xs:List α} {b:Nat}:DT (xs.map f) 0 b ((xs.take b).map f):=⟨by simp [List.map_take]⟩
instance {i i':Int} {j k:Nat} {C D G:Prop} [h:IJ i j C] [h':IJ i' k D] [g:An C D G]:IJ (max i i') (max j k) G:=⟨fun c=>by rw [h.h (g.h c).1,h'.h (g.h c).2]; omega⟩
instance {i i':Int} {j k:Nat} {C:Prop} [h:IJ i j C] [h':LitZ i' k]:IJ (i / i') (j / k) C:=⟨fun c=>by rw [h.h c,h'.h]; rfl⟩
instance {i i':Int} {j k:Nat} {C:Prop} [h:IJ i j C] [h':LitZ i' k]:IJ (i' * i) (k * j) C:=⟨fun c=>by rw [h.h c,h'.h]; rfl⟩
instance {i i':Int} {j k:Nat} {C D G:Prop} [h:IJ i j C] [h':IJ i' k D] [g:An C D G]:IJ (min i i') (min j k) G:=⟨fun c=>by rw [h.h (g.h c).1,h'.h (g.h c).2]; omega⟩
theorem nlt {P:Program} {f:FuncId} {τs:List PV} {ρ:PV} {xs:List Nat} (i:Nat) (hi:τs[i]? = some (sv (ntx xs))) (hb:Bod P f) (h:(∀ x ∈ xs,x < 4294967296)→CTy P f τs ρ):CTy P f τs ρ :=
 ⟨hb,fun M w vs hM hT hv=>by
  obtain ⟨v,_,u,e,h1⟩:=hv.at_ hi
  exact (h h1.lt).run M w vs hM hT hv⟩
instance:Z1 prog 155 (.int .u32 0):=⟨_,xF,by decide,rfl⟩
end Go.Proofs.YtalkinejknjidaaGreatDoor
set_option maxHeartbeats 4000000
namespace Go.Proofs.YtalkinejknjidaaGreatDoor
open Go.SL Go.RowKit Go.Proofs Tryz
theorem uU {xs ys:List Nat} (h:xs=ys):PSub (sv (ntx xs)) (sv (ntx ys)):=fun M w v k=>h ▸ k
theorem vD {xs:List Nat} {i:Int} (j:Nat) (h:i=(j:Int)):CTy prog 366 [sv (ntx xs),exP (.int .i64 i)] (exP (.int .u32 ((xs.getD j 0:Nat):Int))):=by
 subst h
 refine fw [.tmp 4] func366 fun X=>?_
 repeat refine u ?_
 refine tp (fun c0=>?_) fun c0=>?_
 repeat refine u ?_
 exact e
 repeat refine u ?_
 refine e ?_
 refine ps_i ?_
 rw [yS (by omega)]; rfl
abbrev ownN (xs:List Nat):PV→List Ow→Prop:=fun r So=>∃ v,r=exP v∧So=[.row v 155 1 (xs.map xw)]
theorem nclone {xs:List Nat} (hl:xs.length≤1000000000):CTo prog 333 [sv (sl 1 (xs.map xw))] [] (ownN xs):=by
 refine fwo [.tmp 2] func333 fun X=>?_
 repeat refine u ?_
 refine tqn fun b4 hb=>?_
 repeat refine u ?_
 refine tp (fun c0=>?_) fun c0=>?_
 rotate_left 1
 iterate 3 refine u ?_
 refine u fun r5=>?_
 refine u ?_
 refine u fun r7=>?_
 repeat refine u ?_
 exact er ⟨_,rfl,rfl⟩
 have h0:xs=[]:=List.length_eq_zero_iff.1 (by simpa using hb (by simpa using c0))
 subst h0
 refine t_ts (qQ 155 1) ?_
 repeat refine u ?_
 exact er ⟨_,rfl,rfl⟩
theorem own_c {P:Program} {f:FuncId} {τs:List PV} {xs:List Nat} (h:CTo P f τs [] (ownN xs)) (hx:∀ x ∈ xs,x < 4294967296):CTy P f τs (sv (ntx xs)) :=
 ⟨h.bod,fun M w vs hM hT hv=>by
  have e:Mk [] M=M:=by funext k; simp [Mk]
  refine (h.run M w vs ⟨by rw [e]; exact hM,by rw [e]; exact hT,fun _ h=>by simp at h⟩ trivial (fun b ⟨o,h,_⟩=>by simp at h) hM (by rw [e]; exact hv)).mono fun v w' ⟨hb,ρ,So,⟨b,e1,e2⟩,hg,_,hn,hρ⟩=>⟨⟨hb.os,hb.tape,hb.output,hb.size,fun k hk=>hb.block k hk fun ⟨o,h,_⟩=>by simp at h⟩,?_⟩
  subst e1 e2
  obtain rfl:v=b:=hρ
  obtain ⟨us,g1,g2,g3⟩:=hg.own _ (List.mem_singleton.2 rfl)
  have hm:∀ b,v.ownBlock=some b→¬ M b:=fun b hb' hmb=>by
   have:=hM b hmb
   rcases hn b ⟨_,List.mem_singleton.2 rfl,hb'⟩ with c | ⟨o,h,_⟩
   ·omega
   ·simp at h
  refine uT hx rfl M w' _ ⟨v,us,rfl,wT g1 hm,jA g2 (Cl.less fun k hk => .inr hk),g3⟩⟩
theorem nclonex {xs:List Nat} (hl:xs.length≤1000000000) (hx:∀ x ∈ xs,x < 4294967296):CTy prog 333 [svx 1 (xs.map xw)] (sv (ntx xs)) :=
 yG (own_c (nclone hl) hx) (fs1 (fun M w v h=>h.2) fs0)
theorem iM {xs:List Nat} (hl:xs.length≤1000000000):CTy prog 283 [sv (ntx xs)] (sv (ntx (limbs (val xs)))):=by
 refine nlt 0 rfl (bo func283) fun hx=>?_
 refine fw [.tmp 2] func283 fun X=>?_
 repeat refine u ?_
 refine lp (σ:=Nat) [0,2] (fun n=>[(3,True,exP (.int .i64 ((n:Nat):Int)))]) (fun n=>[]) (fun n=>n≤xs.length∧∀ j,n≤j→xs.getD j 0=0) (fun n=>n) (xs.length) (⟨by omega,fun j h=>yS h⟩) fun n hJ Y _=>?_
 repeat refine u ?_
 refine tp (fun c0=>?_) fun c0=>?_
 repeat refine u ?_
 rotate_left 1
 repeat refine u ?_
 refine zA1 (oca rfl rfl fun _=>nclonex (by (simp; omega)) ?_) ?_
 rotate_left 1
 repeat refine u ?_
 refine e ?_
 rotate_left 1
 ·refine nxt (n - 1) ?_
  refine ⟨by omega,fun j hj=>?_⟩
  rcases Nat.lt_or_ge j n with c | c
  ·rw [show j=n - 1 by omega]; omega
  ·exact hJ.2 j c
 ·exact fun x h=>hx x (List.mem_of_mem_take h)
 ·exact uU (dG hx hJ.1 hJ.2 (by omega))
theorem tN:PSub (exP (.slice none 0 0)) (sv (ntx [])):=fun M w v h=>by
 obtain rfl:v=_:=h
 exact ⟨_,rfl,iE⟩
theorem kof {n:Nat} (hn:n < 18446744073709551616):CTy prog 267 [exP (.int .u64 ((n:Nat):Int))] (sv (ntx (limbs n))):=by
 refine fw [.tmp 2] func267 fun X=>?_
 repeat refine u ?_
 refine zA1 (oca rfl rfl fun _=>iM (by (simp; done))) ?_
 repeat refine u ?_
 refine e ?_
 exact uU (by congr 1; simp only [val]; omega)
theorem yA2 {xs:List Nat} (hl:xs.length≤1000000000):CTy prog 360 [sv (ntx xs)] (tu [exP (.int .u64 ((uC (val xs):Nat):Int)),exP (.bool (decide (val xs < 18446744073709551616)))]):=by
 refine nlt 0 rfl (bo func360) fun hx=>?_
 refine fw [.tmp 2,.tmp 3] func360 fun X=>?_
 repeat refine u ?_
 refine lp (σ:=Nat) [0,6,7] (fun n=>[(8,True,exP (.int .i64 ((n:Nat):Int)))]) (fun n=>[]) (fun n=>n≤xs.length∧∀ j,2≤j→j < n→xs.getD j 0=0) (fun n=>xs.length - n) (0) (⟨by omega,by omega⟩) fun n hJ Y _=>?_
 have h0:=yK hx 0
 have h1:=yK hx 1
 have h2:1 < n→xs.getD n 0 ≠ 0→¬ val xs < 18446744073709551616:=fun a b=>fM hx a b
 repeat refine u ?_
 refine tp (fun c0=>?_) fun c0=>?_
 repeat refine u ?_
 refine tp (fun c1=>?_) fun c1=>?_
 repeat refine u ?_
 refine e ⟨?_,?_⟩
 refine ps_i ?_
 rotate_left 1
 refine psb (by (simp; omega))
 repeat refine u ?_
 rotate_left 1
 repeat refine u ?_
 refine zA1 (oca rfl rfl fun _=>vD 1 rfl) ?_
 repeat refine u ?_
 refine zA1 (oca rfl rfl fun _=>vD 0 rfl) ?_
 repeat refine u ?_
 refine e ⟨?_,?_⟩
 refine ps_i ?_
 rotate_left 1
 refine psb ?_
 rotate_left 1
 ·obtain ⟨c2,c3⟩:=c1
  rw [uC,if_neg (h2 (by omega) (by omega))]; rfl
 ·refine ⟨n + 1,tes ?_ ?_ (List.Sublist.refl _),?_,(by omega)⟩
  refine tc rfl (ps_r _) (tn)
  refine tc rfl (ps_r _) (tc rfl (ps_r _) (tc rfl (ps_r _) (tn)))
  refine ⟨by omega,fun j h3 h4=>?_⟩
  rcases Nat.lt_or_ge j n with c | c
  ·exact hJ.2 j h3 c
  ·rw [show j=n by omega]; omega
 ·have h3:=tH hx fun j hj=>(Nat.lt_or_ge j n).elim (hJ.2 j hj) fun c=>yS (by omega)
  rw [uC,if_pos h3.1,h3.2,show xs.getD 1 0 * 2 ^ 32 % qP .u64=xs.getD 1 0 * 4294967296 by simp only [qP]; omega,yH3 _ _ h0]
  omega
 ·have h3:=tH hx fun j hj=>(Nat.lt_or_ge j n).elim (hJ.2 j hj) fun c=>yS (by omega)
  exact (decide_eq_true h3.1).symm
theorem kncmp {xs ys:List Nat} (hl:xs.length≤1000000000) (hm:ys.length≤1000000000):CTy prog 364 [sv (ntx xs),sv (ntx ys)] (exP (.int .i64 (cmpN (val xs) (val ys)))):=by
 refine nlt 0 rfl (bo func364) fun hx=>nlt 1 rfl (bo func364) fun hy=>?_
 refine fw [.tmp 4] func364 fun X=>?_
 repeat refine u ?_
 refine lp (σ:=Nat) [0,1] (fun n=>[(4,True,exP (.int .i64 0)),(5,True,exP (.int .i64 ((n:Nat) - 1:Int)))]) (fun n=>[]) (fun n=>n≤max xs.length ys.length∧∀ j,n≤j→xs.getD j 0=ys.getD j 0) (fun n=>n) (max xs.length ys.length) (⟨by omega,fun j h=>by rw [yS (by omega),yS (by omega)]⟩) fun n hJ Y _=>?_
 repeat refine u ?_
 refine tp (fun c0=>?_) fun c0=>?_
 repeat refine u ?_
 refine zA1 (oca rfl rfl fun _=>vD (n - 1) (by omega)) ?_
 repeat refine u ?_
 refine zA1 (oca rfl rfl fun _=>vD (n - 1) (by omega)) ?_
 repeat refine u ?_
 refine tp (fun c1=>?_) fun c1=>?_
 repeat refine u ?_
 refine e ?_
 refine ps_i ?_
 rotate_left 1
 repeat refine u ?_
 refine tp (fun c2=>?_) fun c2=>?_
 repeat refine u ?_
 refine e ?_
 refine ps_i ?_
 rotate_left 1
 repeat refine u ?_
 rotate_left 1
 repeat refine u ?_
 refine e ?_
 refine ps_i ?_
 rotate_left 1
 ·rw [zJ7 (kH hx hy (j:=n - 1) (by omega) fun i hi=>hJ.2 i (by omega))]
 ·rw [zJ8 (kH hy hx (j:=n - 1) (by omega) fun i hi=>(hJ.2 i (by omega)).symm)]
 ·refine ⟨n - 1,tes ?_ ?_ (List.Sublist.refl _),?_,(by omega)⟩
  refine tc rfl (ps_r _) (tc rfl (ps_i (by omega)) (tn))
  refine tc rfl (ps_r _) (tc rfl (ps_r _) (tn))
  refine ⟨by omega,fun j hj=>?_⟩
  rcases Nat.lt_or_ge j n with c | c
  ·rw [show j=n - 1 by omega]; omega
  ·exact hJ.2 j c
 ·rw [zJ9 (aP fun j=>hJ.2 j (by omega))]
theorem zO8 {xs ys:List Nat} (hx:∀ x ∈ xs,x < 4294967296) (hy:∀ x ∈ ys,x < 4294967296) (hl:xs.length≤1000000000) (hm:ys.length≤1000000000):CIt prog 365 [pa (ntx xs),pa (ntx ys)] (xI xs ys) (fun p=>[exP (.int .u64 ((p.1:Nat):Int)),exP (.int .u64 ((p.2:Nat):Int))]):=by
 refine cit func365 rfl rfl rfl rfl rfl fun X y YS YX hY hS=>?_
 repeat refine u ?_
 refine lpy (σ:=Nat) [0,1,2,9] (fun i=>[(10,True,exP (.int .i64 ((i:Nat):Int)))]) (fun i=>[]) (fun i Y=>YS ((xI xs ys).take i) Y∧i≤max xs.length ys.length) (fun i=>max xs.length ys.length - i) (0) (⟨hS,by omega⟩) fun i Y hG=>?_
 obtain ⟨hS,hi⟩:=hG
 have h0:=yK hx i
 have h1:=yK hy i
 repeat refine u ?_
 refine tp (fun c0=>?_) fun c0=>?_
 iterate 9 refine u ?_
 refine zL 9 mixed rfl rfl ?_
 repeat refine u ?_
 refine d1 (oca rfl rfl fun _=>vD i (by omega)) ?_
 repeat refine u ?_
 refine d1 (oca rfl rfl fun _=>vD i (by omega)) ?_
 repeat refine u ?_
 rotate_left 1
 repeat refine u ?_
 rotate_left 1
 ·have h2:=rC (xs:=xs) (ys:=ys) (s:=i) (by omega)
  refine fK (x:=(xs.getD i 0,ys.getD i 0)) hY hS h2.2 rfl rfl (fs1 (PSub.refl _) (fs1 (PSub.refl _) fs0)) (fun Y hS=>?_) (fun Y hX=>?_)
  ·repeat refine u ?_
   refine oJ rfl rfl ?_
   repeat refine u ?_
   refine ⟨i + 1,tes ?_ ?_ (List.Sublist.refl _),?_,(by omega)⟩
   refine tc rfl (ps_r _) (tn)
   refine tc rfl (ps_r _) (tc rfl (ps_r _) (tc rfl (ps_r _) (tc rfl (ps_r _) (tn))))
   exact ⟨by rw [h2.1]; exact hS,by omega⟩
  ·repeat refine u ?_
   refine tA rfl rfl ?_
   repeat refine u ?_
   exact .inr hX
 ·rw [tP (by omega)] at hS
  exact .inl hS
theorem yA3 {xs ys:List Nat}:CTy prog 340 [sv (ntx xs),sv (ntx ys)] (fn 365 [pa (ntx xs),pa (ntx ys)]):=by
 refine fw [.tmp 4] func340 fun X=>?_
 repeat refine u ?_
 exact e
instance:Df (List Nat):=⟨[]⟩
theorem yL4 {k:Nat} {xss:List (List Nat)} (hk:k < xss.length):((xss.take (k + 1)).map val).sum=((xss.take k).map val).sum + val (xss.getD k Df.d):=by
 rw [(zU (Df.d:List Nat) hk).1,List.map_append,List.sum_append]; simp
theorem yN9 {xss:List (List Nat)} (hl:∀ xs ∈ xss,xs.length≤100000000∧∀ x ∈ xs,x < 4294967296) (hn:xss.length≤100000000):CTy prog 304 [sv (sl 1 (xss.map ntx))] (sv (ntx (limbs ((xss.map val).sum)))):=by
 refine fw [.tmp 2] func304 fun X=>?_
 repeat refine u ?_
 refine t_ts (qT (s:=2) rfl tN) ?_
 refine lp (σ:=Nat × List Nat) [9,10] (fun s=>[(2,True,sv (ntx s.2)),(11,True,exP (.int .i64 ((s.1:Nat):Int)))]) (fun s=>[]) (fun s=>s.1≤xss.length∧val s.2=((xss.take s.1).map val).sum∧s.2.length≤100000000 + s.1∧∀ x ∈ s.2,x < 4294967296) (fun s=>xss.length - s.1) ((0,[])) (⟨by simp,by simp [val],by simp,by simp⟩) fun s hJ Y _=>?_
 obtain ⟨k,zs⟩:=s
 dsimp only at hJ ⊢
 obtain ⟨hk,hv,hzl,hz⟩:=hJ
 have hxs:k < xss.length→(xss.getD k Df.d).length≤100000000∧∀ x ∈ xss.getD k Df.d,x < 4294967296:=fun h=>hl _ (by rw [List.getD_eq_getElem?_getD,List.getElem?_eq_getElem h]; exact List.getElem_mem h)
 repeat refine u ?_
 refine tp (fun c0=>?_) fun c0=>?_
 rotate_left 1
 repeat refine u ?_
 refine zA1 (oca rfl rfl fun _=>iM (by omega)) ?_
 repeat refine u ?_
 refine e ?_
 rotate_left 1
 ·have hk2:k < xss.length:=by omega
  obtain ⟨h5,h6⟩:=hxs hk2
  have h7:=yL4 hk2
  iterate 11 refine u ?_
  refine u fun b5=>?_
  iterate 10 refine u ?_
  refine u fun r21=>(u fun b6=>?_)
  refine tsw 0 1 rfl rfl rfl rfl rfl rfl rfl ?_
  repeat refine u ?_
  refine zA1 (oca rfl rfl fun _=>yA3) ?_
  repeat refine u ?_
  have hpl:=uV zs (xss.getD k Df.d)
  refine aH (σ:=List Nat × Nat × Value) (fun t=>[.blk b6 25 [xc t.2.2],.row t.2.2 155 1 (t.1.map xw),.blk b5 196 [xc (.int .u64 ((t.2.1:Nat):Int))]]) (fun pre t=>t.1.length=pre.length∧val t.1 + 4294967296 ^ t.1.length * t.2.1=val (pre.map (·.1)) + val (pre.map (·.2))∧t.2.1≤1∧∀ z ∈ t.1,z < 4294967296) ([],0,r21) rfl (zO8 hz h6 (by omega) (by omega)) (fun _=>rfl) rfl mH rfl ⟨rfl,by simp [val],by simp,by simp⟩ (fun pre x post t hp hJ Y y hl=>?_) (fun t hJ Y _=>?_)
  ·obtain ⟨ws,c,v⟩:=t
   dsimp only at hJ ⊢
   obtain ⟨j1,j2,j3,j4⟩:=hJ
   have hxb:=zN0 hz h6 x (by rw [hp]; simp)
   have h8:pre.length < 200000001:=by have:=congrArg List.length hp; rw [uV] at this; simp only [List.length_append,List.length_cons] at this; omega
   repeat refine u ?_
   refine zA1 (oas rfl) ?_
   repeat refine u ?_
   refine zA1 (oas rfl) ?_
   repeat refine u ?_
   refine ⟨rfl,fun Y hl=>?_⟩
   repeat refine u ?_
   refine zA1 (oldo 2 rfl rfl rfl rfl) ?_
   repeat refine u ?_
   refine tst 2 rfl rfl rfl rfl rfl rfl ?_
   repeat refine u ?_
   refine zA1 (oldo 0 rfl rfl rfl rfl) ?_
   refine zA1 (oldo 2 rfl rfl rfl rfl) ?_
   repeat refine u ?_
   refine tap 1 rfl rfl rfl (by (simp; omega)) rfl fun r36=>?_
   refine tsw 0 1 rfl rfl rfl rfl rfl rfl rfl ?_
   repeat refine u ?_
   refine zA1 (oldo 2 rfl rfl rfl rfl) ?_
   repeat refine u ?_
   refine tst 2 rfl rfl rfl rfl rfl rfl ?_
   repeat refine u ?_
   refine ⟨(ws ++ [(c + (x.1 + x.2)) % 4294967296],(c + (x.1 + x.2)) / 4294967296,r36),(by (simp; done)),?_⟩
   refine ⟨by simp [j1],zR0 j1 j2,by simp only; omega,fun z hz=>(List.mem_append.1 hz).elim (j4 z) fun h=>by rw [List.mem_singleton.1 h]; omega⟩
  ·obtain ⟨ws,c,v⟩:=t
   dsimp only at hJ ⊢
   obtain ⟨j1,j2,j3,j4⟩:=hJ
   have h9:∀ x ∈ ws ++ [c % 4294967296],x < 4294967296:=fun x hx=>(List.mem_append.1 hx).elim (j4 x) fun h=>by rw [List.mem_singleton.1 h]; omega
   rw [bW,bV] at j2
   iterate 5 refine u ?_
   refine u fun r43=>(yD (xV (s:=43) 1 rfl rfl) (zA1 (bH (oas rfl) (uT h9 rfl)) ?_))
   repeat refine u ?_
   refine ⟨(k + 1,ws ++ [c % 4294967296]),tes ?_ ?_ (by (simp; done)),?_,(by omega)⟩
   refine tc rfl (ps_r _) (tc rfl (ps_r _) (tn))
   refine tc rfl (ps_r _) (tc rfl (ps_r _) (tn))
   refine ⟨by simp only; omega,?_,by simp only [List.length_append,List.length_cons,List.length_nil]; omega,h9⟩
   simp only [qR]
   rw [h7,← hv,← j2,show c % 4294967296=c by omega]
 ·exact uU (by rw [hv,List.take_of_length_le (by omega)])
end Go.Proofs.YtalkinejknjidaaGreatDoor
set_option maxHeartbeats 4000000
namespace Go.Proofs.YtalkinejknjidaaGreatDoor
open Go.SL Go.RowKit Go.Proofs Tryz
theorem yI9 {xs ys:List Nat} (hl:xs.length≤500000000) (hm:ys.length≤500000000):CTy prog 339 [sv (ntx xs),sv (ntx ys)] (tu [sv (ntx (limbs (val xs - val ys))),exP (.int .i64 (if val xs < val ys then 10 else 0))]):=by
 refine nlt 0 rfl (bo func339) fun hx=>nlt 1 rfl (bo func339) fun hy=>?_
 refine fw [.tmp 4,.tmp 5] func339 fun X=>?_
 repeat refine u ?_
 refine zA1 (oca rfl rfl fun _=>kncmp (by omega) (by omega)) ?_
 repeat refine u ?_
 refine tp (fun c0=>?_) fun c0=>?_
 repeat refine u ?_
 refine e ⟨?_,?_⟩
 rotate_left 1
 refine ps_i ?_
 rotate_left 1
 iterate 3 refine u ?_
 refine u fun b6=>?_
 iterate 3 refine u ?_
 refine u fun b7=>?_
 repeat refine u ?_
 refine zA1 (oca rfl rfl fun _=>yA3) ?_
 repeat refine u ?_
 rotate_left 1
 ·rw [show val xs - val ys=0 by have:=qY.1 c0; omega,yB]; exact tN
 ·rw [if_pos (qY.1 c0)]
 have hle:val ys≤val xs:=Nat.le_of_not_lt fun c=>c0 (qY.2 c)
 refine t_ts (qQ 155 1) ?_
 have hpl:=uV xs ys
 refine aH (σ:=List Nat × Nat × Value) (fun t=>[.row t.2.2 155 1 (t.1.map xw),.blk b7 196 [xc (.int .u64 ((t.2.1:Nat):Int))],.blk b6 25 [xc t.2.2]]) (fun pre t=>t.1.length=pre.length∧val t.1 + val (pre.map (·.2)) + 4294967296 ^ t.1.length * t.2.1=val (pre.map (·.1)) + 4294967296 ^ t.1.length * (2 * t.2.1)∧t.2.1≤1∧∀ z ∈ t.1,z < 4294967296) ([],0,.slice none 0 0) rfl (zO8 hx hy (by omega) (by omega)) (fun _=>rfl) rfl mH rfl ⟨rfl,by simp [val],by simp,by simp⟩ (fun pre x post t hp hJ Y y hl=>?_) (fun t hJ Y _=>?_)
 ·obtain ⟨zs,c,v⟩:=t
  dsimp only at hJ ⊢
  obtain ⟨j1,j2,j3,j4⟩:=hJ
  have hxb:=zN0 hx hy x (by rw [hp]; simp)
  have h8:pre.length < 500000000:=by have:=congrArg List.length hp; rw [uV] at this; simp only [List.length_append,List.length_cons] at this; omega
  have hD:=zW9 (x:=x.1) (y:=x.2) (c:=c) hxb.1 hxb.2 j3
  repeat refine u ?_
  refine zA1 (oas rfl) ?_
  repeat refine u ?_
  refine zA1 (oas rfl) ?_
  repeat refine u ?_
  refine ⟨rfl,fun Y hl=>?_⟩
  repeat refine u ?_
  refine zA1 (osbw rfl rfl (by omega)) ?_
  refine zA1 (oldo 1 rfl rfl rfl rfl) (zA1 (osbw rfl rfl (by omega)) ?_)
  repeat refine u ?_
  refine zA1 (oldo 2 rfl rfl rfl rfl) ?_
  iterate 3 refine u ?_
  refine u fun r29=>?_
  refine tsw 2 0 rfl rfl rfl rfl rfl rfl rfl ?_
  repeat refine u ?_
  refine tst 1 rfl rfl rfl rfl rfl rfl ?_
  repeat refine u ?_
  refine ⟨(zs ++ [subD x.1 x.2 c % 4294967296],subD x.1 x.2 c / 9223372036854775808,r29),(List.Sublist.refl _),?_⟩
  refine ⟨by simp [j1],sub_step j1 j2 hD.1,hD.2.1,fun z hz=>(List.mem_append.1 hz).elim (j4 z) fun h=>by rw [List.mem_singleton.1 h]; omega⟩
 ·obtain ⟨zs,c,v⟩:=t
  dsimp only at hJ ⊢
  obtain ⟨j1,j2,j3,j4⟩:=hJ
  rw [bW,bV] at j2
  repeat refine u ?_
  refine yD (xV (s:=32) 0 rfl rfl) (yD (qT (s:=32) rfl (uT j4 rfl)) (zA1 (oca rfl rfl fun _=>iM (by omega)) ?_))
  repeat refine u ?_
  refine e ⟨?_,?_⟩
  rotate_left 1
  refine ps_i (by omega)
  exact uU (by rw [zW8 j4 j2 j3 hle])
end Go.Proofs.YtalkinejknjidaaGreatDoor
set_option maxHeartbeats 4000000
namespace Go.Proofs.YtalkinejknjidaaGreatDoor
open Go.SL Go.RowKit Go.Proofs Tryz
theorem ilimbs {xs:List Nat} (hx:∀ x ∈ xs,x < 4294967296) (hl:xs.length≤1000000000):CIt prog 363 [pa (ntx xs)] (lsOf xs xs.length) (fun p=>[exP (.int .i64 ((p.1:Nat):Int)),exP (.int .u64 ((p.2:Nat):Int))]):=by
 refine cit func363 rfl rfl rfl rfl rfl fun X y YS YX hY hS=>?_
 repeat refine u ?_
 refine lpy (σ:=Nat) [0,5,6] (fun i=>[(7,True,exP (.int .i64 ((i:Nat):Int)))]) (fun i=>[]) (fun i Y=>YS (lsOf xs i) Y∧i≤xs.length) (fun i=>xs.length - i) (0) (⟨hS,by omega⟩) fun i Y hG=>?_
 obtain ⟨hS,hi⟩:=hG
 have h0:=yK hx i
 repeat refine u ?_
 refine tp (fun c0=>?_) fun c0=>?_
 repeat refine u ?_
 rotate_left 1
 repeat refine u ?_
 rotate_left 1
 ·refine t_yieldh (x:=(i,xs.getD i 0)) hY hS rfl rfl (fun e=>ls_at (by omega) (by have:=of_decide_eq_true e; omega)) rfl rfl (fs1 (PSub.refl _) (fs1 (PSub.refl _) fs0)) (fun e=>?_) (fun e Y hS=>?_) (fun e Y hX=>?_)
  ·have h0:xs.getD i 0=0:=by have:=of_decide_eq_false (Bool.eq_false_iff.2 e); omega
   repeat refine u ?_
   refine tp (fun c1=>?_) fun c1=>?_
   repeat refine u ?_
   rotate_left 1
   repeat refine u ?_
   rotate_left 1
   ·omega
   ·refine ⟨i + 1,tes ?_ ?_ (List.Sublist.refl _),?_,(by omega)⟩
    refine tc rfl (ps_r _) (tn)
    refine tc rfl (ps_r _) (tc rfl (ps_r _) (tc rfl (ps_r _) (tn)))
    exact ⟨by rw [ls_skip h0]; exact hS,by omega⟩
  ·have h0:=of_decide_eq_true e
   repeat refine u ?_
   refine tp (fun c1=>?_) fun c1=>?_
   repeat refine u ?_
   rotate_left 1
   repeat refine u ?_
   rotate_left 1
   ·simp at c1
   ·refine ⟨i + 1,tes ?_ ?_ (List.Sublist.refl _),?_,(by omega)⟩
    refine tc rfl (ps_r _) (tn)
    refine tc rfl (ps_r _) (tc rfl (ps_r _) (tc rfl (ps_r _) (tn)))
    exact ⟨by rw [zZ6 (by omega)]; exact hS,by omega⟩
  ·have h0:=of_decide_eq_true e
   repeat refine u ?_
   refine tp (fun c1=>?_) fun c1=>?_
   repeat refine u ?_
   rotate_left 1
   repeat refine u ?_
   rotate_left 1
   ·exact .inr hX
   ·exact absurd e (by simpa using c1)
 ·rw [show i=xs.length by omega] at hS
  exact .inl hS
theorem kplimbs {xs:List Nat}:CTy prog 338 [sv (ntx xs)] (fn 363 [pa (ntx xs)]):=by
 refine fw [.tmp 2] func338 fun X=>?_
 repeat refine u ?_
 exact e
theorem kplain {xs ys:List Nat} (hl:xs.length≤100000000) (hm:ys.length≤100000000):CTy prog 302 [sv (ntx xs),sv (ntx ys)] (sv (ntx (limbs (val xs * val ys)))):=by
 refine nlt 0 rfl (bo func302) fun hx=>nlt 1 rfl (bo func302) fun hy=>?_
 refine fw [.tmp 4] func302 fun X=>?_
 iterate 12 refine u ?_
 refine u fun r16=>(u fun b5=>?_)
 refine tsw 0 1 rfl rfl rfl rfl rfl rfl rfl ?_
 repeat refine u ?_
 refine zA1 (oca rfl rfl fun _=>kplimbs) ?_
 repeat refine u ?_
 refine aH (σ:=List Nat) (fun zs=>[.blk b5 25 [xc r16],.row r16 155 1 (zs.map xw)]) (fun pre zs=>zs.length=xs.length + ys.length∧(∀ z ∈ zs,z < 4294967296)∧val zs=psum pre * val ys∧∀ j,(∀ p ∈ pre,p.1 + ys.length < j)→zs.getD j 0=0) (List.replicate (xs.length + ys.length) 0) rfl (ilimbs hx (by omega)) (fun _=>rfl) rfl mH rfl ⟨by simp,by intro z hz; have:=(List.mem_replicate.1 hz).2; omega,by simp [qF,psum],fun j _=>by simp [List.getD_eq_getElem?_getD,List.getElem?_replicate]; split <;> rfl⟩ (fun pre x post zs hp hJ Y y hl=>?_) (fun zs hJ Y _=>?_)
 ·obtain ⟨j1,j2,j3,j4⟩:=hJ
  obtain ⟨hi,hxe,hpre⟩:=rO hp
  have hxb:x.2 < 4294967296:=by rw [hxe]; exact yK hx _
  repeat refine u ?_
  refine zA1 (oas rfl) ?_
  repeat refine u ?_
  refine zA1 (oas rfl) ?_
  repeat refine u ?_
  refine ⟨rfl,fun Y hl=>?_⟩
  repeat refine u ?_
  refine zA1 (old rfl rfl) ?_
  repeat refine u ?_
  refine xS (σ:=Nat × Nat × List Nat) (fun s=>[(8,True,exP (.int .u64 ((s.2.1:Nat):Int))),(23,True,exP (.int .i64 ((s.1:Nat):Int)))]) (fun s=>[.blk b5 25 [xc r16],.row r16 155 1 (s.2.2.map xw)]) (fun s=>s.1≤ys.length∧s.2.1 < 4294967296∧s.2.2.length=xs.length + ys.length∧(∀ z ∈ s.2.2,z < 4294967296)∧(∀ j,x.1 + ys.length≤j→s.2.2.getD j 0=0)∧val s.2.2 + 4294967296 ^ (x.1 + s.1) * s.2.1=psum pre * val ys + 4294967296 ^ x.1 * (x.2 * val (ys.take s.1))) (fun s=>ys.length - s.1) ((0,0,zs)) (tk 0 rfl (tk 3 rfl (tk 4 rfl (tk 5 rfl (tk 6 rfl (tk 7 rfl (tk 11 rfl (tk 12 rfl (tk 13 rfl (tk 14 rfl (tk 15 rfl (tk 16 rfl (tk 17 rfl (tk 18 rfl (tk 21 rfl (tk 22 rfl tn)))))))))))))))) ?_ rfl (⟨by simp,by simp,j1,j2,fun j hj=>j4 j fun p hp=>by have:=hpre p hp; omega,by simp [val,j3]⟩) (fun s hJ Y _=>?_)
  refine tc rfl (ps_r _) (tc rfl (ps_r _) (tn))
  obtain ⟨k,c,zs⟩:=s
  dsimp only at hJ ⊢
  obtain ⟨k1,k2,k3,k4,k5,k6⟩:=hJ
  have hby:=yK hy k
  have hbz:=yK k4 (x.1 + k)
  have hxy:x.2 * ys.getD k 0≤4294967295 * 4294967295:=Nat.mul_le_mul (by omega) (by omega)
  repeat refine u ?_
  refine tp (fun c0=>?_) fun c0=>?_
  repeat refine u ?_
  rotate_left 1
  repeat refine u ?_
  rotate_left 1
  ·refine ⟨(k + 1,(c + (x.2 * ys.getD k 0 + zs.getD (x.1 + k) 0)) / 4294967296,zs.set (x.1 + k) ((c + (x.2 * ys.getD k 0 + zs.getD (x.1 + k) 0)) % 4294967296)),tes ?_ ?_ (List.Sublist.refl _),?_,(by omega)⟩
   refine tc rfl (ps_r _) (tc rfl (ps_r _) (tn))
   refine tc rfl (ps_r _) (tc rfl (ps_r _) (tc rfl (ps_r _) (tc rfl (ps_r _) (tc rfl (ps_r _) (tc rfl (ps_r _) (tc rfl (ps_r _) (tc rfl (ps_r _) (tc rfl (ps_r _) (tc rfl (ps_r _) ?_)))))))))
   refine tc rfl (ps_r _) (tc rfl (ps_r _) (tc rfl (ps_r _) (tc rfl (ps_r _) (tc rfl (ps_r _) (tc rfl (ps_r _) (tn))))))
   refine ⟨by simp only; omega,by simp only; omega,by simp [k3],aZ k4 (by omega),fun j hj=>by rw [gN (by omega)]; exact k5 j hj,?_⟩
   simp only
   rw [show x.1 + (k + 1)=x.1 + k + 1 from rfl,mul_step2 (by omega) rfl k6,mul_row2]
  ·have e:k=ys.length:=by omega
   subst e
   refine ⟨zs.set (x.1 + ys.length) (c % 4294967296),(List.Sublist.refl _),?_⟩
   refine ⟨by simp [k3],aZ k4 (by omega),?_,fun j hj=>?_⟩
   ·have:=bQ (zs:=zs) (j:=x.1 + ys.length) (c % 4294967296) (by omega)
    rw [k5 _ (Nat.le_refl _),Nat.mod_eq_of_lt k2] at this
    rw [List.take_length] at k6
    rw [Nat.mod_eq_of_lt k2,← psum_snoc]; omega
   ·have:=hj x (by simp)
    rw [gN (by omega)]; exact k5 j (by omega)
 ·obtain ⟨j1,j2,j3,j4⟩:=hJ
  have h1:val zs=val xs * val ys:=by rw [j3,zY2,List.take_length]
  repeat refine u ?_
  refine yD (xV (s:=60) 1 rfl rfl) (yD (qT (s:=60) rfl (uT j2 rfl)) (zA1 (oca rfl rfl fun _=>iM (by omega)) ?_))
  repeat refine u ?_
  refine e ?_
  rw [h1]; exact PSub.refl _
end Go.Proofs.YtalkinejknjidaaGreatDoor
set_option maxHeartbeats 4000000
namespace Go.Proofs.YtalkinejknjidaaGreatDoor
open Go.SL Go.RowKit Go.Proofs Tryz
theorem kless {xs ys:List Nat} (hl:xs.length≤500000000) (hm:ys.length≤500000000):CTy prog 303 [sv (ntx xs),sv (ntx ys)] (sv (ntx (limbs (val xs - val ys)))):=by
 refine fw [.tmp 4] func303 fun X=>?_
 repeat refine u ?_
 refine zA1 (oca rfl rfl fun _=>yI9 (by omega) (by omega)) ?_
 repeat refine u ?_
 exact e
theorem yJ2 {xs:List Nat} {n:Nat} {j:Int} (hj:j=(n:Int)) (hn:n≤100000000) (hl:xs.length≤100000000):CTy prog 305 [sv (ntx xs),exP (.int .i64 j)] (sv (ntx (List.replicate n 0 ++ xs))):=by
 subst hj
 refine nlt 0 rfl (bo func305) fun hx=>?_
 refine fw [.tmp 4] func305 fun X=>?_
 iterate 7 refine u ?_
 refine u fun r6=>?_
 refine u ?_
 refine u fun r8=>?_
 iterate 2 refine u ?_
 refine t_ts (xV (s:=4) 0 rfl rfl) ?_
 repeat refine u ?_
 refine e ?_
 refine uT (fun x h=>?_) rfl
 rcases List.mem_append.1 h with h | h
 ·rw [(List.mem_replicate.1 h).2]; omega
 ·exact hx x h
theorem zI2 {xs ys:List Nat} (hl:xs.length≤100000000∧∀ x ∈ xs,x < 4294967296) (hm:ys.length≤100000000∧∀ x ∈ ys,x < 4294967296):CTy prog 304 [sv (sl 1 [ntx xs,ntx ys])] (sv (ntx (limbs (val xs + val ys)))):=by
 have:=yN9 (xss:=[xs,ys]) (fun zs h=>by simp at h; rcases h with rfl | rfl; exact hl; exact hm) (by simp)
 simpa using this
theorem knadd3 {xs ys zs:List Nat} (hl:xs.length≤100000000∧∀ x ∈ xs,x < 4294967296) (hm:ys.length≤100000000∧∀ x ∈ ys,x < 4294967296) (hn:zs.length≤100000000∧∀ x ∈ zs,x < 4294967296):CTy prog 304 [sv (sl 1 [ntx xs,ntx ys,ntx zs])] (sv (ntx (limbs (val xs + (val ys + val zs))))):=by
 have:=yN9 (xss:=[xs,ys,zs]) (fun zs h=>by simp at h; rcases h with rfl | rfl | rfl; exact hl; exact hm; exact hn) (by simp)
 simpa using this
def fc (f:FuncId) (l:List PV):CT where
 sz:=1
 p M w cs:=∃ v,cs=[v]∧(fn f l).p M w v
 len h:=by obtain ⟨_,rfl,_⟩:=h; rfl
 one h:=by obtain ⟨_,rfl,_,rfl,_⟩:=h; exact allc rfl alln
 mono h k:=by obtain ⟨v,rfl,h⟩:=h; exact ⟨v,rfl,(fn f l).mono h k⟩
instance {f:FuncId} {l:List PV}:CtOf (fn f l) (fc f l):=⟨fun {M w v} h=>⟨[v],by obtain ⟨_,rfl,_⟩:=h; rfl,v,rfl,h⟩⟩
instance {f:FuncId}:CtOf (exP (.func (.func f) #[] #[])) (fc f []):=⟨fun {M w v} h=>⟨[v],by rw [show v=_ from h]; rfl,v,rfl,[],h,rfl⟩⟩
instance {f:FuncId} {l:List PV}:LdA false (fc f l) (fn f l):=⟨fun h u e=>by obtain ⟨v,e2,k⟩:=h; rw [e] at e2; rw [List.singleton_inj.1 e2]; exact k⟩
def zX6 (f:FuncId) (ty:TypeId):PV:=⟨fun M w v=>∃ b,v = .pointer (some ⟨b,0,none⟩)∧KBlk M w b ty [.func (.func f) #[] #[.pointer (some ⟨b,0,none⟩)]],fun ⟨b,e,h⟩ l=>let g:=l b _ _ _ h.not h.blk; ⟨b,e,⟨g.2,g.1⟩⟩⟩
theorem zX5 {f:FuncId} {ty:TypeId}:PSub (zX6 f ty) (pa (fc f [zX6 f ty])):=fun M w v ⟨b,e,h⟩ =>
 ⟨b,0,[.func (.func f) #[] #[v]],e,h.not,⟨#[.func (.func f) #[] #[v]],ty,(0,0),by subst e; exact h.blk,fun j v hj=>by simpa using hj⟩,_,rfl,[v],rfl,v,[],rfl,⟨b,e,h⟩,rfl⟩
theorem zK3 {n:Nat} {xs:List Nat} (hx:∀ x ∈ xs,x < 4294967296):∀ x ∈ List.replicate n 0 ++ xs,x < 4294967296:=fun x h=>by
 rcases List.mem_append.1 h with h | h
 ·rw [(List.mem_replicate.1 h).2]; omega
 ·exact hx x h
theorem kmul1:∀ (K:Nat),K≤1000000→∀ {xs ys:List Nat},max xs.length ys.length≤K→CTy prog 301 [sv (ntx xs),sv (ntx ys),zX6 301 131] (sv (ntx (limbs (val xs * val ys)))):=fun K=>by
 induction K using Nat.strongRecOn with
 | _ K ih =>
 intro hK xs ys hxy
 refine nlt 0 rfl (bo func301) fun hx=>nlt 1 rfl (bo func301) fun hy=>?_
 refine fw [.tmp 5] func301 fun X=>?_
 repeat refine u ?_
 refine tp (fun c0=>?_) fun c0=>?_
 repeat refine u ?_
 refine zA1 (oca rfl rfl fun _=>kplain (by omega) (by omega)) ?_
 repeat refine u ?_
 exact e
 refine t_ts (qT (s:=2) rfl zX5) ?_
 obtain ⟨n,hn⟩:∃ n,n=max xs.length ys.length / 2:=⟨_,rfl⟩
 refine t_ts (qT (s:=6) rfl (ps_i (show _=((n:Nat):Int) by omega))) ?_
 have l1:(xs.take n).length=min n xs.length:=List.length_take
 have l2:(xs.drop n).length=xs.length - n:=List.length_drop
 have l3:(ys.take n).length=min n ys.length:=List.length_take
 have l4:(ys.drop n).length=ys.length - n:=List.length_drop
 have w1:∀ x ∈ xs.take n,x < 4294967296:=fun x h=>hx x (List.mem_of_mem_take h)
 have w2:∀ x ∈ xs.drop n,x < 4294967296:=fun x h=>hx x (List.mem_of_mem_drop h)
 have w3:∀ x ∈ ys.take n,x < 4294967296:=fun x h=>hy x (List.mem_of_mem_take h)
 have w4:∀ x ∈ ys.drop n,x < 4294967296:=fun x h=>hy x (List.mem_of_mem_drop h)
 have e1:val xs=val (xs.take n) + 4294967296 ^ n * val (xs.drop n):=by
  have:=gO (xs.take n) (xs.drop n)
  rwa [List.take_append_drop,l1,Nat.min_eq_left (by omega)] at this
 have e2:val ys=val (ys.take n) + 4294967296 ^ n * val (ys.drop n):=by
  have:=gO (ys.take n) (ys.drop n)
  rwa [List.take_append_drop,l3,Nat.min_eq_left (by omega)] at this
 have s1:=nK (jM w1 (k:=max xs.length ys.length - n) (by omega)) (jM w2 (k:=max xs.length ys.length - n) (by omega))
 have s2:=nK (jM w3 (k:=max xs.length ys.length - n) (by omega)) (jM w4 (k:=max xs.length ys.length - n) (by omega))
 have s3:=aJ (yM _ w1) (yM _ w3)
 have s4:=aJ (yM _ w2) (yM _ w4)
 have s5:=aJ (yM _ (yQ (val (xs.take n) + val (xs.drop n)))) (yM _ (yQ (val (ys.take n) + val (ys.drop n))))
 have s6:=nK (jM (yQ (val (xs.take n) * val (ys.take n))) (k:=2 * K) (by omega)) (jM (yQ (val (xs.drop n) * val (ys.drop n))) (k:=2 * K) (by omega))
 have hm:∀ a b c d:Nat,limbs (val (limbs (val (limbs (a + b)) * val (limbs (c + d)))) - val (limbs (val (limbs (a * c)) + val (limbs (b * d)))))=limbs (a * d + b * c):=fun a b c d=>by simp only [zJ]; rw [kara_mid]
 have s7:=nK (jM (yQ (val (xs.take n) * val (ys.drop n))) (k:=2 * K) (by have:=aJ (yM _ w1) (yM _ w4); omega)) (jM (yQ (val (xs.drop n) * val (ys.take n))) (k:=2 * K) (by have:=aJ (yM _ w2) (yM _ w3); omega))
 rw [zJ,zJ] at s7
 iterate 2 refine u ?_
 refine zL 18 mixed rfl rfl ?_
 repeat refine u ?_
 refine d1 (oca rfl rfl fun _=>ih (K - 1) (by omega) (by omega) (by omega)) ?_
 repeat refine u ?_
 refine d1 (oca rfl rfl fun _=>ih (K - 1) (by omega) (by omega) (by omega)) ?_
 iterate 6 refine u ?_
 refine zL 24 mixed rfl rfl ?_
 repeat refine u ?_
 refine d1 (oca rfl rfl fun _=>zI2 (⟨by omega,by assumption⟩) (⟨by omega,by assumption⟩)) ?_
 refine d1 (omv rfl) ?_
 repeat refine u ?_
 refine d1 (omv rfl) ?_
 repeat refine u ?_
 refine d1 (oca rfl rfl fun _=>zI2 (⟨by omega,by assumption⟩) (⟨by omega,by assumption⟩)) ?_
 refine d1 (oca rfl rfl fun _=>ih (K - 1) (by omega) (by omega) (by omega)) ?_
 repeat refine u ?_
 refine d1 (oca rfl rfl fun _=>zI2 (⟨by omega,yQ _⟩) (⟨by omega,yQ _⟩)) ?_
 refine d1 (oca rfl rfl fun _=>kless (by omega) (by omega)) ?_
 iterate 7 refine u ?_
 refine yD (qT (s:=9) rfl (uU (hm (val (xs.take n)) (val (xs.drop n)) (val (ys.take n)) (val (ys.drop n))))) (zA1 (omv rfl) ?_)
 refine zA1 (omv rfl) (zA1 (oca rfl rfl fun _=>yJ2 (n:=n) rfl (by omega) (by omega)) ?_)
 repeat refine u ?_
 refine zA1 (omv rfl) ?_
 repeat refine u ?_
 refine zA1 (oca rfl rfl fun _=>yJ2 (n:=2 * n) (by omega) (by omega) (by omega)) ?_
 repeat refine u ?_
 refine zA1 (oca rfl rfl fun _=>knadd3 (⟨by omega,yQ _⟩) ?_ ?_) ?_
 rotate_left 1
 rotate_left 1
 repeat refine u ?_
 refine e ?_
 rotate_left 1
 ·exact ⟨by simp; omega,zK3 (yQ _)⟩
 ·exact ⟨by simp; omega,zK3 (yQ _)⟩
 ·refine uU ?_
  rw [gO,gO,qF,qF,List.length_replicate,List.length_replicate,Nat.zero_add,Nat.zero_add,zJ,zJ,zJ,show 2 * n=n + n by omega,Nat.pow_add,kara,← e1,← e2]
theorem kmulself {b:Nat} {X:Cx} {Γ:TE} {S:List Ow} {s:Nat} {q:Prop} (i:Nat) {f:FuncId} {ty:TypeId} (hi:S[i]? = some (.blk b ty [fc f [exP (.pointer (some ⟨b,0,none⟩))]])) (hs:tf Γ s=some (q,exP (.pointer (some ⟨b,0,none⟩)))):Ts X Γ S ((s,q,zX6 f ty) :: Γ) (S.eraseIdx i):=fun E w h=>by
 have hm:Ow.blk b ty [fc f [exP (.pointer (some ⟨b,0,none⟩))]] ∈ S:=List.mem_of_getElem? hi
 obtain ⟨us,k3,a,o,k4,⟨v,e0,cs,e1,u,us2,e2,e3,e4⟩,k6⟩:=h.gd.own _ hm
 obtain rfl:us2=[]:=e4
 obtain rfl:u=_:=e3
 have h2:=h.sub (List.eraseIdx_sublist S i)
 have hn:¬ Mk (S.eraseIdx i) X.M b:=fun k=>by
  rcases k with ⟨p,hp,e⟩ | k
  ·obtain ⟨j,hj,hp⟩:=cW hp
   exact fH h.apt hi hp (fun k=>hj k.symm) rfl e
  ·rcases h.new _ hm b rfl with h4 | h4
   ·have:=h.ok0 b k; omega
   ·exact h.zm b h4 k
 obtain rfl:o=[]:=k6
 rw [List.append_nil] at k4; subst k4 e0 e1 e2
 refine ⟨h2.bel,h2.gd,h2.new,h2.apt,h2.ok0,h2.zm,h2.mko,fun t q' ht=>?_⟩
 unfold tf at ht
 cases hb:Nat.beq s t with
 | true =>
  rw [hb] at ht
  obtain rfl:=Nat.eq_of_beq_eq_true hb
  obtain rfl:=Option.some.inj ht
  have h3:=h.tm s _ hs
  exact ⟨fun k=>let ⟨u,h4,h5⟩:=h3.1 k; ⟨u,h4,b,h5,⟨k3,hn⟩⟩,h3.2⟩
 | false=>rw [hb] at ht; exact h2.tm t q' ht
theorem yI7 {xs ys:List Nat} (hl:xs.length≤1000000) (hm:ys.length≤1000000):CTy prog 246 [sv (ntx xs),sv (ntx ys)] (sv (ntx (limbs (val xs * val ys)))):=by
 refine nlt 0 rfl (bo func246) fun hx=>nlt 1 rfl (bo func246) fun hy=>?_
 have s1:=zV xs hx
 have s2:=zV ys hy
 refine fw [.tmp 4] func246 fun X=>?_
 iterate 6 refine u ?_
 refine u fun b5=>?_
 repeat refine u ?_
 refine tst 0 rfl rfl rfl rfl rfl rfl (yD (kmulself (s:=5) 0 rfl rfl) (yD (qT (s:=5) rfl zX5) ?_))
 iterate 2 refine u ?_
 refine zL 7 mixed rfl rfl ?_
 repeat refine u ?_
 refine d1 (oca rfl rfl fun _=>iM (by omega)) ?_
 repeat refine u ?_
 refine d1 (oca rfl rfl fun _=>iM (by omega)) ?_
 refine d1 (oca rfl rfl fun _=>kmul1 1000000 (Nat.le_refl _) (by omega)) ?_
 repeat refine u ?_
 refine e ?_
 rw [zJ,zJ]; exact PSub.refl _
end Go.Proofs.YtalkinejknjidaaGreatDoor
set_option maxHeartbeats 4000000
namespace Go.Proofs.YtalkinejknjidaaGreatDoor
open Go.SL Go.RowKit Go.Proofs Tryz
instance {k:IntKind}:VU (exP (.int k 4294967296)) k 4294967296:=⟨id⟩
theorem gX {xs:List Nat} (hl:xs.length≤1000000000):CTy prog 62 [sv (ntx xs)] (sv (ntx (limbs (val xs)))):=by
 refine nlt 0 rfl (bo func62) fun hx=>?_
 refine fw [.tmp 2] func62 fun X=>?_
 repeat refine u ?_
 refine lp (σ:=Nat) [0,2] (fun n=>[(3,True,exP (.int .i64 ((n:Nat):Int)))]) (fun n=>[]) (fun n=>n≤xs.length∧∀ j,n≤j→xs.getD j 0=0) (fun n=>n) (xs.length) (⟨by omega,fun j h=>yS h⟩) fun n hJ Y _=>?_
 repeat refine u ?_
 refine tp (fun c0=>?_) fun c0=>?_
 repeat refine u ?_
 rotate_left 1
 iterate 4 refine u ?_
 refine u fun r18=>?_
 iterate 3 refine u ?_
 refine u fun r22=>?_
 iterate 2 refine u ?_
 refine t_ts (xV (s:=2) 0 rfl rfl) ?_
 repeat refine u ?_
 refine e ?_
 rotate_left 1
 ·refine nxt (n - 1) ?_
  obtain ⟨c1,c2⟩:=c0
  refine ⟨by omega,fun j hj=>?_⟩
  rcases Nat.lt_or_ge j n with c | c
  ·rw [show j=n - 1 by omega]; omega
  ·exact hJ.2 j c
 ·rw [not_and] at c0
  exact uT (fun x h=>hx x (List.mem_of_mem_take h)) (dG hx hJ.1 hJ.2 (by omega))
theorem fC {xs:List Nat} {i:Int} (j:Nat) (h:i=(j:Int)) (hx:∀ x ∈ xs,x < 4294967296):CTy prog 300 [sv (ntx xs),exP (.int .i64 i)] (exP (.int .u64 ((xs.getD j 0:Nat):Int))):=by
 subst h
 have:=yK hx j
 refine fw [.tmp 4] func300 fun X=>?_
 repeat refine u ?_
 refine tp (fun c0=>?_) fun c0=>?_
 repeat refine u ?_
 refine e ?_
 refine ps_i ?_
 rotate_left 1
 repeat refine u ?_
 exact e
 rw [yS (by omega)]; rfl
theorem k1of {n:Nat} (hn:n < 18446744073709551616):CTy prog 167 [exP (.int .u64 ((n:Nat):Int))] (sv (ntx (limbs n))):=by
 refine fw [.tmp 2] func167 fun X=>?_
 repeat refine u ?_
 refine zA1 (oca rfl rfl fun _=>gX (by (simp; done))) ?_
 repeat refine u ?_
 refine e ?_
 exact uU (by congr 1; simp only [val]; omega)
theorem yJ6 {xs ys:List Nat} (hl:xs.length≤1000000000) (hm:ys.length≤1000000000):CTy prog 242 [sv (ntx xs),sv (ntx ys)] (exP (.int .i64 (cmpN (val xs) (val ys)))):=by
 refine nlt 0 rfl (bo func242) fun hx=>nlt 1 rfl (bo func242) fun hy=>?_
 refine fw [.tmp 4] func242 fun X=>?_
 repeat refine u ?_
 refine lp (σ:=Nat) [0,1] (fun n=>[(4,True,exP (.int .i64 0)),(5,True,exP (.int .i64 ((n:Nat) - 1:Int)))]) (fun n=>[]) (fun n=>n≤max xs.length ys.length∧∀ j,n≤j→xs.getD j 0=ys.getD j 0) (fun n=>n) (max xs.length ys.length) (⟨by omega,fun j h=>by rw [yS (by omega),yS (by omega)]⟩) fun n hJ Y _=>?_
 repeat refine u ?_
 refine tp (fun c0=>?_) fun c0=>?_
 repeat refine u ?_
 refine zA1 (oca rfl rfl fun _=>fC (n - 1) (by omega) (by omega)) ?_
 repeat refine u ?_
 refine zA1 (oca rfl rfl fun _=>fC (n - 1) (by omega) (by omega)) ?_
 repeat refine u ?_
 refine tp (fun c1=>?_) fun c1=>?_
 repeat refine u ?_
 refine e ?_
 refine ps_i ?_
 rotate_left 1
 repeat refine u ?_
 refine zA1 (oca rfl rfl fun _=>fC (n - 1) (by omega) (by omega)) ?_
 repeat refine u ?_
 refine zA1 (oca rfl rfl fun _=>fC (n - 1) (by omega) (by omega)) ?_
 repeat refine u ?_
 refine tp (fun c2=>?_) fun c2=>?_
 repeat refine u ?_
 refine e ?_
 refine ps_i ?_
 rotate_left 1
 repeat refine u ?_
 rotate_left 1
 repeat refine u ?_
 refine e ?_
 refine ps_i ?_
 rotate_left 1
 ·rw [zJ7 (kH hx hy (j:=n - 1) (by omega) fun i hi=>hJ.2 i (by omega))]
 ·rw [zJ8 (kH hy hx (j:=n - 1) (by omega) fun i hi=>(hJ.2 i (by omega)).symm)]
 ·refine ⟨n - 1,tes ?_ ?_ (List.Sublist.refl _),?_,(by omega)⟩
  refine tc rfl (ps_r _) (tc rfl (ps_i (by omega)) (tn))
  refine tc rfl (ps_r _) (tc rfl (ps_r _) (tn))
  refine ⟨by omega,fun j hj=>?_⟩
  rcases Nat.lt_or_ge j n with c | c
  ·rw [show j=n - 1 by omega]; omega
  ·exact hJ.2 j c
 ·rw [zJ9 (aP fun j=>hJ.2 j (by omega))]
theorem k1two {xs ys:List Nat} (hl:xs.length≤500000000) (hm:ys.length≤500000000):CTy prog 298 [sv (ntx xs),sv (ntx ys)] (sv (ntx (limbs (val xs + val ys)))):=by
 refine nlt 0 rfl (bo func298) fun hx=>nlt 1 rfl (bo func298) fun hy=>?_
 refine fw [.tmp 4] func298 fun X=>?_
 repeat refine u ?_
 refine t_ts (qQ 155 1) ?_
 refine lp (σ:=Nat × Nat × List Nat × Value) [0,1,4] (fun s=>[(5,True,exP s.2.2.2),(6,True,exP (.int .u64 ((s.2.1:Nat):Int))),(7,True,exP (.int .i64 ((s.1:Nat):Int)))]) (fun s=>[.row s.2.2.2 155 1 (s.2.2.1.map xw)]) (fun s=>s.1≤max xs.length ys.length∧s.2.2.1.length=s.1∧s.2.1≤1∧(∀ z ∈ s.2.2.1,z < 4294967296)∧val s.2.2.1 + 4294967296 ^ s.2.2.1.length * s.2.1=val (((xI xs ys).take s.1).map (·.1)) + val (((xI xs ys).take s.1).map (·.2))) (fun s=>max xs.length ys.length - s.1) ((0,0,[],.slice none 0 0)) (⟨by simp,by simp,by simp,by simp,by simp [val]⟩) fun s hJ Y _=>?_
 obtain ⟨i,c,zs,v⟩:=s
 dsimp only at hJ ⊢
 obtain ⟨h1,h2,h3,h4,h5⟩:=hJ
 have hb1:=yK hx i
 have hb2:=yK hy i
 have hpl:=uV xs ys
 have h6:∀ x ∈ zs ++ [c % 4294967296],x < 4294967296:=fun x hx=>(List.mem_append.1 hx).elim (h4 x) fun h=>by rw [List.mem_singleton.1 h]; omega
 repeat refine u ?_
 refine tp (fun c0=>?_) fun c0=>?_
 repeat refine u ?_
 refine zA1 (oca rfl rfl fun _=>fC i (by omega) (by omega)) ?_
 repeat refine u ?_
 refine zA1 (oca rfl rfl fun _=>fC i (by omega) (by omega)) ?_
 iterate 11 refine u ?_
 refine u fun r31=>?_
 repeat refine u ?_
 rotate_left 1
 iterate 8 refine u ?_
 refine u fun r38=>(yD (xV (s:=38) 0 rfl rfl) (yD (qT (s:=38) rfl (uT h6 rfl)) (zA1 (oca rfl rfl fun _=>gX (by (simp; omega))) ?_)))
 repeat refine u ?_
 refine e ?_
 rotate_left 1
 ·have hp:=rC (xs:=xs) (ys:=ys) (s:=i) (by omega)
  have e:xs.getD i 0 + ys.getD i 0 + c=c + (xs.getD i 0 + ys.getD i 0):=by omega
  refine ⟨(i + 1,(xs.getD i 0 + ys.getD i 0 + c) / 4294967296,zs ++ [(xs.getD i 0 + ys.getD i 0 + c) % 4294967296],r31),tes ?_ ?_ (List.Sublist.refl _),?_,(by omega)⟩
  refine tc rfl (ps_r _) (tc rfl (ps_r _) (tc rfl (ps_r _) (tn)))
  refine tc rfl (ps_r _) (tc rfl (ps_r _) (tc rfl (ps_r _) (tn)))
  exact ⟨by simp only; omega,by simp [h2],by simp only; omega,fun z hz=>(List.mem_append.1 hz).elim (h4 z) fun h=>by rw [List.mem_singleton.1 h]; omega,by simp only; rw [hp.1,e]; exact zR0 (by simp [h2,hpl]; omega) h5⟩
 ·rw [tP (by omega),bW,bV] at h5
  rw [qR,show c % 4294967296=c by omega,h5]; exact PSub.refl _
theorem to_lt {P:Program} {r:Option Nat} {N:Nat} {X:Cx} {K:TK} {Γ:TE} {S:List Ow} {ops:Array Oper} {l:List Oper} {xs:List Nat} (s:Nat) (hs:tv Γ (.tmp s)=some (True,sv (ntx xs))) (h:(∀ x ∈ xs,x < 4294967296)→TO P r N ops X K l Γ S):TO P r N ops X K l Γ S:=fun hN D E w hst=>by
 obtain ⟨v,_,a,e,h2⟩:=uI hst hs
 exact h h2.lt hN D E w hst
theorem yJ7 {xss:List (List Nat)} (hl:∀ xs ∈ xss,xs.length≤1000000) (hn:xss.length≤1000000):CTy prog 239 [sv (sl 1 (xss.map ntx))] (sv (ntx (limbs ((xss.map val).sum)))):=by
 refine fw [.tmp 2] func239 fun X=>?_
 repeat refine u ?_
 refine t_ts (qT (s:=3) rfl tN) ?_
 refine xS (σ:=Nat) (fun k=>[(3,True,sv (ntx (limbs ((xss.take k).map val).sum))),(4,True,exP (.int .i64 ((k:Nat):Int)))]) (fun k=>[]) (fun k=>k≤xss.length∧(limbs ((xss.take k).map val).sum).length≤1000000 + k) (fun k=>xss.length - k) (0) (tk 0 rfl (tk 2 rfl tn)) ?_ rfl (⟨by simp,by simp [yB]⟩) (fun k hJ Y _=>?_)
 refine tc rfl ?_ ?_
 rotate_left 1
 refine tc rfl (ps_r _) (tn)
 rotate_left 1
 ·exact uU (by simp [yB])
 obtain ⟨h1,h2⟩:=hJ
 have hxs:k < xss.length→(xss.getD k Df.d).length≤1000000:=fun h=>hl _ (by rw [List.getD_eq_getElem?_getD,List.getElem?_eq_getElem h]; exact List.getElem_mem h)
 repeat refine u ?_
 refine tp (fun c0=>?_) fun c0=>?_
 rotate_left 1
 repeat refine u ?_
 refine zA1 (oca rfl rfl fun _=>gX (by omega)) ?_
 repeat refine u ?_
 refine e ?_
 rotate_left 1
 ·have h3:=hxs (by omega)
  have h4:=yL4 (xss:=xss) (k:=k) (by omega)
  repeat refine u ?_
  refine to_lt 15 rfl fun hx=>zA1 (oca rfl rfl fun _=>k1two (by omega) (by omega)) ?_
  repeat refine u ?_
  have h5:=nK (jM (yQ ((xss.take k).map val).sum) h2) (jM hx (k:=1000000 + k) (by omega))
  have e:limbs (val (limbs ((xss.take k).map val).sum) + val (xss.getD k Df.d))=limbs ((xss.take (k + 1)).map val).sum:=by rw [zJ,h4]
  rw [e] at h5
  refine ⟨k + 1,tes ?_ ?_ (List.Sublist.refl _),(by omega),(by omega)⟩
  refine tc rfl ?_ ?_
  rotate_left 1
  refine tc rfl (ps_r _) (tn)
  refine tc rfl (ps_r _) (tc rfl (ps_r _) (tn))
  all_goals first | exact uU e | exact ⟨by omega,by omega⟩
 ·exact uU (by rw [zJ,List.take_of_length_le (by omega)])
theorem zO7 {xs ys:List Nat} (hl:xs.length≤500000000) (hm:ys.length≤500000000):CTy prog 243 [sv (ntx xs),sv (ntx ys)] (tu [sv (ntx (limbs (val xs - val ys))),exP (.int .i64 (if val xs < val ys then 10 else 0))]):=by
 refine nlt 0 rfl (bo func243) fun hx=>nlt 1 rfl (bo func243) fun hy=>?_
 refine fw [.tmp 4,.tmp 5] func243 fun X=>?_
 repeat refine u ?_
 refine zA1 (oca rfl rfl fun _=>yJ6 (by omega) (by omega)) ?_
 repeat refine u ?_
 refine tp (fun c0=>?_) fun c0=>?_
 repeat refine u ?_
 refine e ⟨?_,?_⟩
 rotate_left 1
 refine ps_i ?_
 rotate_left 1
 repeat refine u ?_
 rotate_left 1
 ·rw [show val xs - val ys=0 by have:=qY.1 c0; omega,yB]; exact tN
 ·rw [if_pos (qY.1 c0)]
 have hle:val ys≤val xs:=Nat.le_of_not_lt fun c=>c0 (qY.2 c)
 refine t_ts (qQ 155 1) ?_
 refine lp (σ:=Nat × Nat × List Nat × Value) [0,1,4,5] (fun s=>[(6,True,exP s.2.2.2),(7,True,exP (.int .u64 ((s.2.1:Nat):Int))),(8,True,exP (.int .i64 ((s.1:Nat):Int)))]) (fun s=>[.row s.2.2.2 155 1 (s.2.2.1.map xw)]) (fun s=>s.1≤xs.length∧s.2.2.1.length=s.1∧s.2.1≤1∧(∀ z ∈ s.2.2.1,z < 4294967296)∧val s.2.2.1 + val (ys.take s.1) + 4294967296 ^ s.2.2.1.length * s.2.1=val (xs.take s.1) + 4294967296 ^ s.2.2.1.length * (2 * s.2.1)) (fun s=>xs.length - s.1) ((0,0,[],.slice none 0 0)) (⟨by simp,by simp,by simp,by simp,by simp [val]⟩) fun s hJ Y _=>?_
 obtain ⟨i,c,zs,v⟩:=s
 dsimp only at hJ ⊢
 obtain ⟨h1,h2,h3,h4,h5⟩:=hJ
 have hb1:=yK hx i
 have hb2:=yK hy i
 repeat refine u ?_
 refine tp (fun c1=>?_) fun c1=>?_
 repeat refine u ?_
 refine zA1 (oca rfl rfl fun _=>fC i (by omega) (by omega)) ?_
 repeat refine u ?_
 refine zA1 (oca rfl rfl fun _=>fC i (by omega) (by omega)) ?_
 iterate 11 refine u ?_
 refine u fun r34=>?_
 repeat refine u ?_
 rotate_left 1
 repeat refine u ?_
 refine yD (xV (s:=38) 0 rfl rfl) (yD (qT (s:=38) rfl (uT h4 rfl)) (zA1 (oca rfl rfl fun _=>gX (by omega)) ?_))
 repeat refine u ?_
 refine e ⟨?_,?_⟩
 rotate_left 1
 refine ps_i (by omega)
 ·refine ⟨(i + 1,1 - (xs.getD i 0 + 4294967296 - ys.getD i 0 - c) / 4294967296,zs ++ [(xs.getD i 0 + 4294967296 - ys.getD i 0 - c) % 4294967296],r34),tes ?_ ?_ (List.Sublist.refl _),?_,(by omega)⟩
  refine tc rfl (ps_r _) (tc rfl (ps_r _) (tc rfl (ps_r _) (tn)))
  refine tc rfl (ps_r _) (tc rfl (ps_r _) (tc rfl (ps_r _) (tc rfl (ps_r _) (tn))))
  refine ⟨by simp only; omega,by simp [h2],by simp only; omega,fun z hz=>(List.mem_append.1 hz).elim (h4 z) fun h=>by rw [List.mem_singleton.1 h]; omega,rsub_step h2 h5 (by dsimp only; omega) (by dsimp only; omega)⟩
 ·have e:i=xs.length:=by omega
  subst e
  rw [List.take_length,val_take_le hx hle] at h5
  rw [zW8 h4 h5 h3 hle]; exact PSub.refl _
theorem k1smallx {xs:List Nat} (hl:xs.length≤1000000000):CTy prog 165 [sv (ntx xs)] (tu [exP (.int .u64 ((uC (val xs):Nat):Int)),exP (.bool (decide (val xs < 18446744073709551616)))]):=by
 refine nlt 0 rfl (bo func165) fun hx=>?_
 have h0:=zV xs hx
 refine fw [.tmp 2,.tmp 3] func165 fun X=>?_
 repeat refine u ?_
 refine zA1 (oca rfl rfl fun _=>gX (by omega)) ?_
 repeat refine u ?_
 refine tp (fun c0=>?_) fun c0=>?_
 repeat refine u ?_
 refine e ⟨?_,?_⟩
 refine ps_i ?_
 rotate_left 1
 refine psb ?_
 rotate_left 1
 repeat refine u ?_
 rotate_left 1
 ·rw [uC,if_neg (yD6 (by omega))]; rfl
 ·exact (decide_eq_false (yD6 (by omega))).symm
 have h1:=small_len (xs:=xs) (by omega)
 refine xS (σ:=Nat) (fun s=>[(5,True,exP (.int .u64 ((val ((limbs (val xs)).drop s):Nat):Int))),(6,True,exP (.int .i64 ((s:Nat) - 1:Int)))]) (fun s=>[]) (fun s=>s≤(limbs (val xs)).length) (fun s=>s) ((limbs (val xs)).length) (tk 2 rfl (tk 3 rfl (tk 4 rfl tn))) ?_ rfl ((by omega)) (fun s hJ Y _=>?_)
 refine tc rfl ?_ ?_
 rotate_left 1
 refine tc rfl (ps_r _) (tn)
 rotate_left 1
 ·exact ps_i (by simp [val])
 have hlt:=yQ (val xs)
 have hdb:0 < s→val ((limbs (val xs)).drop s) < 4294967296:=fun h=>by
  have h1:=yM ((limbs (val xs)).drop s) (fun x hx=>hlt x (List.mem_of_mem_drop hx))
  have h2:4294967296 ^ ((limbs (val xs)).drop s).length≤4294967296 ^ 1:=Nat.pow_le_pow_right (by omega) (by simp; omega)
  omega
 have hg:=yK hlt (s - 1)
 have hstep:0 < s→val ((limbs (val xs)).drop (s - 1))=(limbs (val xs)).getD (s - 1) 0 + 4294967296 * val ((limbs (val xs)).drop s):=fun h=>by rw [kU (by omega),show s - 1 + 1=s by omega]
 repeat refine u ?_
 refine tp (fun c1=>?_) fun c1=>?_
 rotate_left 1
 repeat refine u ?_
 refine e ⟨?_,?_⟩
 refine ps_i ?_
 rotate_left 1
 refine psb (by (simp; omega))
 ·have h3:=hdb (by omega)
  have h4:=hstep (by omega)
  repeat refine u ?_
  refine ⟨s - 1,tes ?_ ?_ (List.Sublist.refl _),(by omega),(by omega)⟩
  refine tc rfl (ps_i (by (simp only [qP]; omega))) (tc rfl (ps_i (by omega)) (tn))
  refine tc rfl (ps_r _) (tc rfl (ps_r _) (tc rfl (ps_r _) (tn)))
  all_goals first | omega | exact ps_i (by rw [h4,show 4294967296=2 ^ 32 from rfl]; simp only [qP]; omega)
 ·rw [show s=0 by omega,List.drop_zero,zJ,uC,if_pos h1]
end Go.Proofs.YtalkinejknjidaaGreatDoor
set_option maxHeartbeats 4000000
namespace Go.Proofs.YtalkinejknjidaaGreatDoor
open Go.SL Go.RowKit Go.Proofs Tryz
theorem yA5 {k m:Int} {q:Nat} (hq:cntN k m=q) (hm:0≤m):CTy prog 299 [exP (.int .i64 k),exP (.int .i64 m)] (exP (.int .i64 ((q:Nat):Int))):=by
 subst hq
 refine fw [.tmp 4] func299 fun X=>?_
 repeat refine u ?_
 refine e ?_
 refine ps_i ?_
 exact (iH hm).1
theorem yP2 {xs:List Nat} {j:Int} (hl:xs.length≤100000000):CTy prog 244 [sv (ntx xs),exP (.int .i64 j)] (sv (ntx (limbs (val xs * 2 ^ cntN j 65536)))):=by
 have hqq:=(iH (k:=j) (m:=65536) (by omega)).2.2
 generalize hq:cntN j 65536=q at hqq ⊢
 refine nlt 0 rfl (bo func244) fun hx=>?_
 refine fw [.tmp 4] func244 fun X=>?_
 repeat refine u ?_
 refine zA1 (oca rfl rfl fun _=>yA5 hq (by omega)) ?_
 iterate 6 refine u ?_
 refine u fun r13=>?_
 repeat refine u ?_
 refine lp (σ:=Nat × Nat × List Nat × Value) [0,1,4] (fun s=>[(5,True,exP s.2.2.2),(6,True,exP (.int .u32 ((s.2.1:Nat):Int))),(7,True,exP (.int .i64 ((s.1:Nat):Int)))]) (fun s=>[.row s.2.2.2 155 1 (s.2.2.1.map xw)]) (fun s=>s.1≤xs.length∧s.2.1 < 2 ^ (q % 32)∧s.2.2.1.length=q / 32 + s.1∧(∀ z ∈ s.2.2.1,z < 4294967296)∧val s.2.2.1 + 4294967296 ^ (q / 32 + s.1) * s.2.1=4294967296 ^ (q / 32) * (val (xs.take s.1) * 2 ^ (q % 32))) (fun s=>xs.length - s.1) ((0,0,List.replicate (q / 32) 0,r13)) (⟨by simp,yO _,by simp,by intro z hz; have:=(List.mem_replicate.1 hz).2; omega,by simp [qF,val]⟩) fun s hJ Y _=>?_
 obtain ⟨i,l,zs,v⟩:=s
 dsimp only at hJ ⊢
 obtain ⟨h1,h2,h3,h4,h5⟩:=hJ
 have hbx:=yK hx i
 have hsl:=zS0 hbx (show q % 32 < 32 by omega)
 have htl:=aW (r:=q % 32) (by omega)
 have hcy:=zK8 (r:=q % 32) hbx
 have hor:=zV2 (x:=xs.getD i 0) (r:=q % 32) (l:=l) (by omega) h2
 have h6:∀ z ∈ zs ++ [l],z < 4294967296:=fun z hz=>(List.mem_append.1 hz).elim (h4 z) fun h=>by rw [List.mem_singleton.1 h]; omega
 repeat refine u ?_
 refine tp (fun c0=>?_) fun c0=>?_
 iterate 11 refine u ?_
 refine zA1 (bH (orm rfl rfl (by omega)) (ps_i (show _=((q % 32:Nat):Int) by omega))) ?_
 refine u ?_
 refine zA1 (bH (oshl rfl rfl (by (simp only [IntKind.bits]; omega))) (ps_i (show _=((xs.getD i 0 * 2 ^ (q % 32):Nat):Int) from congrArg (fun n:Nat=>(n:Int)) (Nat.mod_eq_of_lt hsl)))) ?_
 iterate 10 refine u ?_
 refine u fun r35=>?_
 repeat refine u ?_
 rotate_left 1
 iterate 7 refine u ?_
 refine u fun r42=>(yD (xV (s:=42) 0 rfl rfl) (yD (qT (s:=42) rfl (uT h6 rfl)) (zA1 (oca rfl rfl fun _=>gX (by (simp; omega))) ?_)))
 repeat refine u ?_
 refine e ?_
 rotate_left 1
 ·refine ⟨(i + 1,xs.getD i 0 * 2 ^ (q % 32) / 4294967296,zs ++ [xs.getD i 0 * 2 ^ (q % 32) % 4294967296 ||| l],r35),tes ?_ ?_ (List.Sublist.refl _),?_,(by omega)⟩
  refine tc rfl (ps_r _) (tc rfl (ps_i (by (simp only [qP]; omega))) (tc rfl (ps_r _) (tn)))
  refine tc rfl (ps_r _) (tc rfl (ps_r _) (tc rfl (ps_r _) (tn)))
  ·refine ⟨by simp only; omega,hcy,by simp [h3]; omega,fun z hz=>(List.mem_append.1 hz).elim (h4 z) fun h=>by rw [List.mem_singleton.1 h,hor.1]; exact hor.2,?_⟩
   simp only
   rw [← Nat.add_assoc,zV1 h3 (by omega) h2 h5,yF1]
 ·rw [show i=xs.length by omega,List.take_length,yF2] at h5
  rw [qR,h3,show i=xs.length by omega,h5]; exact PSub.refl _
theorem k2downx {xs:List Nat} {j:Int} (hl:xs.length≤100000000):CTy prog 241 [sv (ntx xs),exP (.int .i64 j)] (sv (ntx (limbs (val xs / 2 ^ cntN j 65536)))):=by
 have hqq:=(iH (k:=j) (m:=65536) (by omega)).2.2
 generalize hq:cntN j 65536=q at hqq ⊢
 refine nlt 0 rfl (bo func241) fun hx=>?_
 refine fw [.tmp 4] func241 fun X=>?_
 repeat refine u ?_
 refine zA1 (oca rfl rfl fun _=>yA5 hq (by omega)) ?_
 repeat refine u ?_
 refine t_ts (qQ 155 1) ?_
 refine lp (σ:=Nat × List Nat × Value) [0,1,4] (fun s=>[(5,True,exP s.2.2),(6,True,exP (.int .i64 ((q / 32 + s.1:Nat):Int)))]) (fun s=>[.row s.2.2 155 1 (s.2.1.map xw)]) (fun s=>s.1≤xs.length∧s.2.1.length=s.1∧(∀ z ∈ s.2.1,z < 4294967296)∧val s.2.1 + 4294967296 ^ s.1 * (val (xs.drop (q / 32 + s.1)) / 2 ^ (q % 32))=val (xs.drop (q / 32)) / 2 ^ (q % 32)) (fun s=>xs.length - (q / 32 + s.1)) ((0,[],.slice none 0 0)) (⟨by simp,by simp,by simp,by simp [val]⟩) fun s hJ Y _=>?_
 obtain ⟨k,zs,v⟩:=s
 dsimp only at hJ ⊢
 obtain ⟨h1,h2,h3,h4⟩:=hJ
 have hbx:=yK hx (q / 32 + k)
 have hby:=yK hx (q / 32 + k + 1)
 repeat refine u ?_
 refine tp (fun c0=>?_) fun c0=>?_
 rotate_left 1
 repeat refine u ?_
 refine yD (xV (s:=46) 0 rfl rfl) (yD (qT (s:=46) rfl (uT h3 rfl)) (zA1 (oca rfl rfl fun _=>gX (by omega)) ?_))
 repeat refine u ?_
 refine e ?_
 rotate_left 1
 ·have hd1:=kU (xs:=xs) (s:=q / 32 + k) (by omega)
  have hoe:=or_up hbx hby
  repeat refine u ?_
  refine tp (fun c1=>?_) fun c1=>?_
  rotate_left 1
  iterate 5 refine u ?_
  refine zA1 (bH (orm rfl rfl (by omega)) (ps_i (show _=((q % 32:Nat):Int) by omega))) ?_
  iterate 4 refine u ?_
  refine u fun r45=>?_
  repeat refine u ?_
  rotate_left 1
  ·have hd2:=kU (xs:=xs) (s:=q / 32 + k + 1) (by omega)
   have he:(xs.getD (q / 32 + k) 0 ||| xs.getD (q / 32 + k + 1) 0 * 4294967296 % 18446744073709551616) / 2 ^ (q % 32) % 4294967296=val (xs.drop (q / 32 + k)) / 2 ^ (q % 32) % 4294967296:=by
    rw [hoe,hd1,hd2,vO (by omega)]
   have hst:=oB h2 he h4
   rw [hd1,oC hbx] at hst
   iterate 16 refine u ?_
   refine zA1 (bH (orm rfl rfl (by omega)) (ps_i (show _=((q % 32:Nat):Int) by omega))) ?_
   iterate 4 refine u ?_
   refine u fun r45=>?_
   repeat refine u ?_
   refine ⟨(k + 1,zs ++ [(xs.getD (q / 32 + k) 0 ||| xs.getD (q / 32 + k + 1) 0 * 4294967296 % 18446744073709551616) / 2 ^ (q % 32) % 4294967296],r45),tes ?_ ?_ (List.Sublist.refl _),?_,(by omega)⟩
   refine tc rfl (ps_r _) (tc rfl (ps_r _) (tn))
   refine tc rfl (ps_r _) (tc rfl (ps_r _) (tc rfl (ps_r _) (tn)))
   exact ⟨by simp only; omega,by simp [h2],fun z hz=>(List.mem_append.1 hz).elim (h3 z) fun h=>by rw [List.mem_singleton.1 h]; omega,hst⟩
  ·have he:xs.getD (q / 32 + k) 0 / 2 ^ (q % 32) % 4294967296=val (xs.drop (q / 32 + k)) / 2 ^ (q % 32) % 4294967296:=by
    rw [hd1,show val (xs.drop (q / 32 + k + 1))=0 by rw [List.drop_of_length_le (by omega)]; rfl]; simp
   have hst:=oB h2 he h4
   rw [hd1,oC hbx] at hst
   refine ⟨(k + 1,zs ++ [xs.getD (q / 32 + k) 0 / 2 ^ (q % 32) % 4294967296],r45),tes ?_ ?_ (List.Sublist.refl _),?_,(by omega)⟩
   refine tc rfl (ps_r _) (tc rfl (ps_r _) (tn))
   refine tc rfl (ps_r _) (tc rfl (ps_r _) (tc rfl (ps_r _) (tn)))
   exact ⟨by simp only; omega,by simp [h2],fun z hz=>(List.mem_append.1 hz).elim (h3 z) fun h=>by rw [List.mem_singleton.1 h]; omega,hst⟩
 ·have hd0:val (xs.drop (q / 32 + k))=0:=by rw [List.drop_of_length_le (by omega)]; rfl
  rw [hd0,Nat.zero_div,Nat.mul_zero,Nat.add_zero,zQ1 hx] at h4
  rw [h4]; exact PSub.refl _
theorem yP3 {xs ys:List Nat} (hl:xs.length≤100000000) (hm:ys.length≤100000000):CTy prog 91 [sv (ntx xs),sv (ntx ys)] (sv (ntx (limbs (val xs * val ys)))):=by
 refine nlt 0 rfl (bo func91) fun hx=>nlt 1 rfl (bo func91) fun hy=>?_
 refine fw [.tmp 4] func91 fun X=>?_
 iterate 11 refine u ?_
 refine u fun r15=>?_
 repeat refine u ?_
 refine lp (σ:=Nat × List Nat) [0,1,4,5] (fun s=>[(6,True,exP (.int .i64 ((s.1:Nat):Int)))]) (fun s=>[.row r15 155 1 (s.2.map xw)]) (fun s=>s.1≤xs.length∧s.2.length=xs.length + ys.length∧(∀ z ∈ s.2,z < 4294967296)∧(∀ j,s.1 + ys.length≤j→s.2.getD j 0=0)∧val s.2=val (xs.take s.1) * val ys) (fun s=>xs.length - s.1) ((0,List.replicate (xs.length + ys.length) 0)) (⟨by simp,by simp,by intro z hz; have:=(List.mem_replicate.1 hz).2; omega,fun j _=>by simp [List.getD_eq_getElem?_getD,List.getElem?_replicate]; split <;> rfl,by simp [qF,val]⟩) fun s hJ Y _=>?_
 obtain ⟨i,zs⟩:=s
 dsimp only at hJ ⊢
 obtain ⟨h1,h2,h3,h4,h5⟩:=hJ
 repeat refine u ?_
 refine tp (fun c0=>?_) fun c0=>?_
 rotate_left 1
 repeat refine u ?_
 refine yD (xV (s:=66) 0 rfl rfl) (yD (qT (s:=66) rfl (uT h3 rfl)) (zA1 (oca rfl rfl fun _=>gX (by omega)) ?_))
 repeat refine u ?_
 refine e ?_
 rotate_left 1
 ·repeat refine u ?_
  have hbx:=yK hx i
  refine xS (σ:=Nat × Nat × List Nat) (fun s=>[(7,True,exP (.int .u64 ((s.2.1:Nat):Int))),(8,True,exP (.int .i64 ((s.1:Nat):Int)))]) (fun s=>[.row r15 155 1 (s.2.2.map xw)]) (fun s=>s.1≤ys.length∧s.2.1 < 4294967296∧s.2.2.length=xs.length + ys.length∧(∀ z ∈ s.2.2,z < 4294967296)∧(∀ j,i + ys.length≤j→s.2.2.getD j 0=0)∧val s.2.2 + 4294967296 ^ (i + s.1) * s.2.1=val (xs.take i) * val ys + 4294967296 ^ i * (xs.getD i 0 * val (ys.take s.1))) (fun s=>ys.length - s.1) ((0,0,zs)) (tk 0 rfl (tk 1 rfl (tk 4 rfl (tk 5 rfl (tk 6 rfl tn))))) ?_ rfl (⟨by simp,by simp,h2,h3,h4,by simp [val,h5]⟩) (fun s hJ Y _=>?_)
  refine tc rfl (ps_r _) (tc rfl (ps_r _) (tn))
  obtain ⟨k,c,zs⟩:=s
  dsimp only at hJ ⊢
  obtain ⟨k1,k2,k3,k4,k5,k6⟩:=hJ
  have hby:=yK hy k
  have hbz:=yK k4 (i + k)
  have hxy:xs.getD i 0 * ys.getD k 0≤4294967295 * 4294967295:=Nat.mul_le_mul (by omega) (by omega)
  repeat refine u ?_
  refine tp (fun c1=>?_) fun c1=>?_
  iterate 4 refine u ?_
  refine zL 22 mixed rfl rfl ?_
  repeat refine u ?_
  rotate_left 1
  repeat refine u ?_
  rotate_left 1
  ·refine ⟨(k + 1,(xs.getD i 0 * ys.getD k 0 + zs.getD (i + k) 0 + c) / 4294967296,zs.set (i + k) ((xs.getD i 0 * ys.getD k 0 + zs.getD (i + k) 0 + c) % 4294967296)),tes ?_ ?_ (List.Sublist.refl _),?_,(by omega)⟩
   refine tc rfl (ps_r _) (tc rfl (ps_r _) (tn))
   refine tc rfl (ps_r _) (tc rfl (ps_r _) (tc rfl (ps_r _) (tc rfl (ps_r _) (tc rfl (ps_r _) (tn)))))
   refine ⟨by simp only; omega,by simp only; omega,by simp [k3],aZ k4 (by omega),fun j hj=>by rw [gN (by omega)]; exact k5 j hj,?_⟩
   simp only
   rw [← Nat.add_assoc,zN6 (by omega) rfl k6,mul_row]
  ·have e:k=ys.length:=by omega
   subst e
   refine ⟨(i + 1,zs.set (i + ys.length) (c % 4294967296)),tes ?_ ?_ (List.Sublist.refl _),?_,(by omega)⟩
   refine tc rfl (ps_r _) (tn)
   refine tc rfl (ps_r _) (tc rfl (ps_r _) (tc rfl (ps_r _) (tc rfl (ps_r _) (tn))))
   refine ⟨by simp only; omega,by simp [k3],aZ k4 (by omega),fun j hj=>by rw [gN (by simp only at hj; omega)]; exact k5 j (by simp only at hj; omega),?_⟩
   have:=bQ (zs:=zs) (j:=i + ys.length) (c % 4294967296) (by omega)
   rw [k5 _ (Nat.le_refl _),Nat.mod_eq_of_lt k2] at this
   rw [List.take_length] at k6
   simp only
   rw [Nat.mod_eq_of_lt k2,← mul_rows]; omega
 ·rw [h5,show i=xs.length by omega,List.take_length]; exact PSub.refl _
end Go.Proofs.YtalkinejknjidaaGreatDoor
set_option maxHeartbeats 4000000
namespace Go.Proofs.YtalkinejknjidaaGreatDoor
open Go.SL Go.RowKit Go.Proofs Tryz
theorem tupq {ρ σ τ:PV}:∀ M w vs,Fa [ρ,σ,τ] M w vs→(tu [ρ,σ,τ]).p M w (xN vs):=fun M w vs ⟨v,us,e,h1,u,us2,e2,h2,x,us3,e3,h3,e4⟩=>by
 subst e e2 e3 e4; exact ⟨_,rfl,_,_,rfl,h1,_,_,rfl,h2,_,_,rfl,h3,rfl⟩
theorem k3divx {xs ys:List Nat} (hl:xs.length≤100000) (hm:ys.length≤100000) (h0:val ys ≠ 0):CTy prog 169 [sv (ntx xs),sv (ntx ys)] (tu [sv (ntx (limbs (val xs / val ys))),sv (ntx (limbs (val xs % val ys))),exP (.int .i64 0)]):=by
 refine nlt 0 rfl (bo func169) fun hx=>nlt 1 rfl (bo func169) fun hy=>?_
 have hyl:=zV ys hy
 have hyp:(limbs (val ys)).length ≠ 0:=fun c=>h0 (zM.1 c)
 obtain ⟨f,hf⟩:∃ f:Nat,f=xs.length + 1 - (limbs (val ys)).length:=⟨_,rfl⟩
 have hst:=di_start (f:=f) hx (by omega) h0
 have hd:∀ x ∈ xs.drop f,x < 4294967296:=fun x h=>hx x (List.mem_of_mem_drop h)
 refine fw [.tmp 4,.tmp 5,.tmp 6] func169 fun X=>?_
 repeat refine u ?_
 refine zA1 (oca rfl rfl fun _=>gX (by omega)) ?_
 repeat refine u ?_
 refine tp (fun c0=>?_) fun c0=>?_
 repeat refine u ?_
 refine ⟨[_,_,_],rst rfl (rst rfl (rst rfl rs0)),?_⟩
 rotate_left 1
 iterate 5 refine u ?_
 refine u fun r19=>?_
 repeat refine u ?_
 refine zA1 (oca rfl rfl fun _=>gX (by omega)) ?_
 iterate 4 refine u ?_
 refine zA1 (bH (oas rfl) (ps_i (show _=((f:Nat):Int) by omega))) ?_
 iterate 3 refine u ?_
 refine u fun r28=>?_
 iterate 3 refine u ?_
 refine u fun r32=>(yD (xV (s:=32) 0 rfl rfl) (yD (qT (s:=32) rfl (uT hd rfl)) (zA1 (oca rfl rfl fun _=>gX (by (simp; omega))) ?_)))
 repeat refine u ?_
 rotate_left 1
 ·omega
 refine xS (σ:=Nat × Nat × List Nat) (fun s=>[(9,True,sv (ntx (limbs s.2.1))),(10,True,exP (.int .i64 ((s.1:Nat) - 1:Int)))]) (fun s=>[.row r19 155 1 (s.2.2.map xw)]) (fun s=>s.1≤32 * xs.length∧s.2.2.length=xs.length∧(∀ z ∈ s.2.2,z < 4294967296)∧DI (val xs) (val ys) (val s.2.2) s.2.1 s.1) (fun s=>s.1) ((32 * f,val (xs.drop f),List.replicate xs.length 0)) (tk 0 rfl (tk 1 rfl (tk 4 rfl (tk 5 rfl (tk 6 rfl (tk 7 rfl tn)))))) ?_ rfl (⟨by simp only; omega,by simp,by intro z hz; have:=(List.mem_replicate.1 hz).2; omega,by rw [qF]; exact hst⟩) (fun s hJ Y _=>?_)
 refine tc rfl (ps_r _) (tc rfl (ps_r _) (tn))
 obtain ⟨t,R,zs⟩:=s
 dsimp only at hJ ⊢
 obtain ⟨h1,h2,h3,h4⟩:=hJ
 have hRl:=yC (Nat.le_of_lt h4.lt)
 repeat refine u ?_
 refine tp (fun c1=>?_) fun c1=>?_
 rotate_left 1
 repeat refine u ?_
 refine yD (xV (s:=81) 0 rfl rfl) (yD (qT (s:=81) rfl (uT h3 rfl)) (zA1 (oca rfl rfl fun _=>gX (by omega)) ?_))
 repeat refine u ?_
 refine zA1 (oca rfl rfl fun _=>gX (by omega)) ?_
 repeat refine u ?_
 refine ⟨[_,_,_],rst rfl (rst rfl (rst rfl rs0)),?_⟩
 rotate_left 1
 ·obtain ⟨i,rfl⟩:∃ i,t=i + 1:=⟨t - 1,by omega⟩
  have hbit:=bit_of hx i
  have hbx:=yK hx (i / 32)
  have hki:i % 32 < 32:=Nat.mod_lt _ (by omega)
  obtain ⟨cv,hcv⟩:=h4.dv
  have horb0:=or_bit h3 hcv
  have hp2:2 ^ (i % 32) < 4294967296:=show 2 ^ (i % 32) < 2 ^ 32 from Nat.pow_lt_pow_right (by omega) hki
  have horb:zs.getD (i / 32) 0 ||| 1 * 2 ^ (i % 32) % 4294967296=zs.getD (i / 32) 0 + 2 ^ (i % 32):=by rw [Nat.one_mul,Nat.mod_eq_of_lt hp2]; exact horb0
  have horlt:zs.getD (i / 32) 0 + 2 ^ (i % 32) < 4294967296:=by rw [← horb0]; exact or_lt32 (yK h3 _) hki
  have hsb:=set_bit (zs:=zs) (i:=i) (by omega)
  have hs1:=zJ4 h4 rfl 1; have hs0:=zJ4 h4 rfl 0
  have hU:val (limbs R) * 2 ^ cntN 1 65536=2 * R:=by rw [zJ,show cntN 1 65536=1 from by decide,Nat.pow_one,Nat.mul_comm]
  have hS:(List.map val [limbs (val (limbs R) * 2 ^ cntN 1 65536),[1]]).sum=2 * R + 1:=by rw [hU]; simp [zJ,val]
  have hR2:(limbs (2 * R + 1)).length≤ys.length + 1:=zS (by have:=yM ys hy; have:=h4.lt; rw [Nat.pow_succ]; omega)
  have hR1:(limbs (2 * R)).length≤ys.length + 1:=Nat.le_trans (yC (Nat.le_succ _)) hR2
  have hset:∀ z ∈ zs.set (i / 32) (zs.getD (i / 32) 0 + 2 ^ (i % 32)),z < 4294967296:=fun z hz=>by
   rcases List.mem_or_eq_of_mem_set hz with h | h
   ·exact h3 z h
   ·rw [h]; exact horlt
  have hpp:1 * 2 ^ (i % 32) % 4294967296=2 ^ (i % 32):=by rw [Nat.one_mul]; exact Nat.mod_eq_of_lt hp2
  refine t_ts (qT (s:=10) rfl (ps_i (show _=((i:Nat):Int) by omega))) ?_
  repeat refine u ?_
  refine zA1 (oca rfl rfl fun _=>yP2 (by omega)) ?_
  iterate 11 refine u ?_
  refine zA1 (bH (orm rfl rfl (by omega)) (ps_i (show _=((i % 32:Nat):Int) by omega))) ?_
  repeat refine u ?_
  refine zA1 (oan rfl rfl ?_) ?_
  rotate_left 1
  repeat refine u ?_
  refine tp (fun c2=>?_) fun c2=>?_
  repeat refine u ?_
  refine zA1 (oca rfl rfl fun _=>yJ7 (xss:=[_,_]) ?_ (by (simp; done))) ?_
  rotate_left 1
  repeat refine u ?_
  refine zA1 (oca rfl rfl fun _=>zO7 ?_ (by omega)) ?_
  rotate_left 1
  repeat refine u ?_
  refine tp (fun c3=>?_) fun c3=>?_
  repeat refine u ?_
  refine zA1 (omv rfl) ?_
  repeat refine u ?_
  refine zA1 (omv rfl) ?_
  iterate 5 refine u ?_
  refine zA1 (bH (orm rfl rfl (by omega)) (ps_i (show _=((i % 32:Nat):Int) by omega))) ?_
  refine u ?_
  refine zA1 (bH (oshl rfl rfl (by assumption)) (ps_i (show _=((2 ^ (i % 32):Nat):Int) from congrArg (fun n:Nat=>(n:Int)) hpp))) ?_
  repeat refine u ?_
  refine zA1 (omv rfl) ?_
  repeat refine u ?_
  rotate_left 1
  repeat refine u ?_
  rotate_left 1
  repeat refine u ?_
  refine zA1 (oca rfl rfl fun _=>zO7 ?_ (by omega)) ?_
  rotate_left 1
  repeat refine u ?_
  refine tp (fun c4=>?_) fun c4=>?_
  iterate 15 refine u ?_
  refine zA1 (bH (orm rfl rfl (by omega)) (ps_i (show _=((i % 32:Nat):Int) by omega))) ?_
  refine u ?_
  refine zA1 (bH (oshl rfl rfl (by assumption)) (ps_i (show _=((2 ^ (i % 32):Nat):Int) from congrArg (fun n:Nat=>(n:Int)) hpp))) ?_
  repeat refine u ?_
  rotate_left 1
  repeat refine u ?_
  rotate_left 1
  ·exact ⟨Nat.lt_of_le_of_lt (Nat.div_le_self _ _) hbx,by decide⟩
  ·intro q hq
   rcases List.mem_cons.1 hq with rfl | hq
   ·rw [hU]; omega
   ·rw [List.mem_singleton.1 hq]; decide
  ·rw [hS]; omega
  ·rw [hS,zJ] at c3
   have hge:val ys≤2 * R + 1:=by split at c3 <;> omega
   have hb1:val xs / 2 ^ i % 2=1:=by rw [← hbit]; have:=c2; rw [Nat.and_one_is_mod] at this; omega
   refine ⟨(i,2 * R + 1 - val ys,zs.set (i / 32) (zs.getD (i / 32) 0 + 2 ^ (i % 32))),tes ?_ ?_ ?_,?_,(by omega)⟩
   refine tc rfl ?_ ?_
   rotate_left 1
   refine tc rfl (ps_r _) (tn)
   refine tc rfl (ps_r _) (tc rfl (ps_r _) (tc rfl (ps_r _) (tc rfl (ps_r _) (tc rfl (ps_r _) (tc rfl (ps_r _) (tn))))))
   rotate_left 1
   rotate_left 1
   ·exact uU (by rw [hS,zJ])
   ·dsimp only; rw [horb0]; exact List.Sublist.refl _
   ·exact ⟨by simp only; omega,by simp [h2],hset,by simp only; rw [hsb]; exact (hs1 hb1).1 hge⟩
  ·rw [hS,zJ] at c3
   have hge:2 * R + 1 < val ys:=by split at c3 <;> omega
   have hb1:val xs / 2 ^ i % 2=1:=by rw [← hbit]; have:=c2; rw [Nat.and_one_is_mod] at this; omega
   refine ⟨(i,2 * R + 1,zs),tes ?_ ?_ (List.Sublist.refl _),?_,(by omega)⟩
   refine tc rfl ?_ ?_
   rotate_left 1
   refine tc rfl (ps_r _) (tn)
   refine tc rfl (ps_r _) (tc rfl (ps_r _) (tc rfl (ps_r _) (tc rfl (ps_r _) (tc rfl (ps_r _) (tc rfl (ps_r _) (tn))))))
   rotate_left 1
   ·exact uU (by rw [hS])
   ·exact ⟨by simp only; omega,h2,h3,((zJ4 h4 rfl 1) hb1).2 hge⟩
  ·rw [hU]; omega
  ·rw [hU,zJ] at c4
   have hge:val ys≤2 * R + 0:=by split at c4 <;> omega
   have hb0:val xs / 2 ^ i % 2=0:=by rw [← hbit]; have:=c2; rw [Nat.and_one_is_mod] at this; omega
   refine ⟨(i,2 * R + 0 - val ys,zs.set (i / 32) (zs.getD (i / 32) 0 + 2 ^ (i % 32))),tes ?_ ?_ ?_,?_,(by omega)⟩
   refine tc rfl ?_ ?_
   rotate_left 1
   refine tc rfl (ps_r _) (tn)
   refine tc rfl (ps_r _) (tc rfl (ps_r _) (tc rfl (ps_r _) (tc rfl (ps_r _) (tc rfl (ps_r _) (tc rfl (ps_r _) (tn))))))
   rotate_left 1
   rotate_left 1
   ·exact uU (by rw [hU,zJ]; rfl)
   ·dsimp only; rw [horb0]; exact List.Sublist.refl _
   ·exact ⟨by simp only; omega,by simp [h2],hset,by simp only; rw [hsb]; exact (hs0 hb0).1 hge⟩
  ·rw [hU,zJ] at c4
   have hge:2 * R + 0 < val ys:=by split at c4 <;> omega
   have hb0:val xs / 2 ^ i % 2=0:=by rw [← hbit]; have:=c2; rw [Nat.and_one_is_mod] at this; omega
   refine ⟨(i,2 * R + 0,zs),tes ?_ ?_ (List.Sublist.refl _),?_,(by omega)⟩
   refine tc rfl ?_ ?_
   rotate_left 1
   refine tc rfl (ps_r _) (tn)
   refine tc rfl (ps_r _) (tc rfl (ps_r _) (tc rfl (ps_r _) (tc rfl (ps_r _) (tc rfl (ps_r _) (tc rfl (ps_r _) (tn))))))
   rotate_left 1
   ·exact uU (by rw [hU]; rfl)
   ·exact ⟨by simp only; omega,h2,h3,(hs0 hb0).2 hge⟩
 ·have ht:t=0:=by omega
  subst ht
  obtain ⟨e1,e2⟩:=di_end h4
  rw [← e1,← e2,zJ]
  exact tupq
end Go.Proofs.YtalkinejknjidaaGreatDoor
set_option maxHeartbeats 4000000
namespace Go.Proofs.YtalkinejknjidaaGreatDoor
open Go.SL Go.RowKit Go.Proofs Tryz
theorem fa1 {τ:PV} {M:Nat→Prop} {w:World} {vs:List Value} (h:Fa [τ] M w vs):∃ v,vs=[v]∧τ.p M w v:=by
 obtain ⟨v,us,e,h1,h2⟩:=h; exact ⟨v,by rw [e,show us=[] from h2],h1⟩
theorem fa2 {τ σ:PV} {M:Nat→Prop} {w:World} {vs:List Value} (h:Fa [τ,σ] M w vs):∃ v u,vs=[v,u]∧τ.p M w v∧σ.p M w u:=by
 obtain ⟨v,us,e,h1,h2⟩:=h; obtain ⟨u,e2,h3⟩:=fa1 h2; exact ⟨v,u,by rw [e,e2],h1,h3⟩
theorem fa4 {τ σ ρ θ:PV} {M:Nat→Prop} {w:World} {vs:List Value} (h:Fa [τ,σ,ρ,θ] M w vs):∃ v u x y,vs=[v,u,x,y]∧τ.p M w v∧σ.p M w u∧ρ.p M w x∧θ.p M w y:=by
 obtain ⟨v,us,e,h1,u,us2,e2,h2,h3⟩:=h; obtain ⟨x,y,e3,h4,h5⟩:=fa2 h3; exact ⟨v,u,x,y,by rw [e,e2,e3],h1,h2,h4,h5⟩
theorem ktz {x:Nat} (h0:x ≠ 0) (hx:x < 18446744073709551616):CTy prog 378 [exP (.int .u64 ((x:Nat):Int))] (exP (.int .i64 ((tz x:Nat):Int))) :=
 ⟨(bo func378),fun M w vs hM hT hv=>by
  obtain ⟨v,rfl,h1⟩:=fa1 hv
  obtain rfl:v=_:=h1
  exact (tz_c hT h0 hx hM).mono fun r w' ⟨hB,e⟩=>⟨hB,e⟩⟩
theorem yI6 {xs ys:List Nat} (hl:xs.length≤10000000) (hm:ys.length≤10000000) (h0:val ys ≠ 0):CTy prog 359 [sv (ntx xs),sv (ntx ys)] (tu [sv (ntx (limbs (val xs / val ys))),sv (ntx (limbs (val xs % val ys))),exP (.int .i64 0)]) :=
 ⟨(bo func359),fun M w vs hM hT hv=>by
  obtain ⟨v,u,rfl,⟨a,e1,h1⟩,⟨b,e2,h2⟩⟩:=fa2 hv
  obtain rfl:=List.singleton_inj.1 e1
  obtain rfl:=List.singleton_inj.1 e2
  refine (div_c h1 h2 hl hm hM).mono fun r w' ⟨hB,q,s,e,k1,k2⟩=>⟨hB,_,e,?_⟩
  rw [if_neg h0] at k2 ⊢
  exact ⟨_,_,rfl,⟨_,rfl,k1.nat hM⟩,_,_,rfl,⟨_,rfl,k2.nat hM⟩,_,_,rfl,rfl,rfl⟩⟩
theorem rY {a b:Nat} (h:a≤b):Nat.gcd a (b - a)=Nat.gcd a b:=by
 obtain ⟨c,rfl⟩:∃ c,b=c + a:=⟨b - a,by omega⟩
 rw [Nat.add_sub_cancel,Nat.gcd_add_self_right]
theorem kword {a b:Nat} (ha:a < 18446744073709551616) (hb:b < 18446744073709551616):CTy prog 361 [exP (.int .u64 ((a:Nat):Int)),exP (.int .u64 ((b:Nat):Int))] (exP (.int .u64 ((Nat.gcd a b:Nat):Int))):=by
 refine fw [.tmp 4] func361 fun X=>?_
 repeat refine u ?_
 refine tp (fun c0=>?_) fun c0=>?_
 repeat refine u ?_
 refine e ?_
 refine ps_i ?_
 rotate_left 1
 rotate_left 1
 ·rcases c0 with c0 | c0
  ·rw [show a=0 by omega]; simp
  ·rw [show b=0 by omega]; simp
 rw [not_or] at c0
 have ha0:a ≠ 0:=by omega
 have hb0:b ≠ 0:=by omega
 have hab:a ||| b < 18446744073709551616:=Nat.or_lt_two_pow (n:=64) ha hb
 have hab0:a ||| b ≠ 0:=fun c=>ha0 (by have h0:a≤a ||| b:=Nat.left_le_or; omega)
 have hka:=oG (n:=64) ha0 (Nat.lt_of_lt_of_eq ha (by decide))
 have hkk:=oG (n:=64) hab0 (Nat.lt_of_lt_of_eq hab (by decide))
 have hgw:=gcd_word (a:=a) (b:=b) ha0 rfl rfl
 have hAle:a / 2 ^ tz a≤a:=Nat.div_le_self _ _
 repeat refine u ?_
 refine zA1 (oca rfl rfl fun _=>ktz (by omega) (by omega)) ?_
 repeat refine u ?_
 refine zA1 (oca rfl rfl fun _=>ktz (by omega) (by omega)) ?_
 repeat refine u ?_
 refine lp (σ:=Nat × Nat) [4,5] (fun s=>[(0,True,exP (.int .u64 ((s.1:Nat):Int))),(1,True,exP (.int .u64 ((s.2:Nat):Int)))]) (fun s=>[]) (fun s=>s.1 % 2=1∧s.1 < 18446744073709551616∧s.2 < 18446744073709551616∧Nat.gcd s.1 s.2=Nat.gcd (a / 2 ^ tz a) b) (fun s=>s.1 + s.2) ((a / 2 ^ tz a,b)) (⟨hgw.2,by simp only; omega,hb,rfl⟩) fun s hJ Y _=>?_
 obtain ⟨p,q⟩:=s
 dsimp only at hJ ⊢
 obtain ⟨h1,h2,h3,h4⟩:=hJ
 repeat refine u ?_
 refine tp (fun c1=>?_) fun c1=>?_
 rotate_left 1
 repeat refine u ?_
 refine e ?_
 refine ps_i ?_
 rotate_left 1
 ·have hq:q ≠ 0:=by omega
  have hkq:=oG (n:=64) hq (Nat.lt_of_lt_of_eq h3 (by decide))
  obtain ⟨q1,hq1⟩:∃ q1,q1=q / 2 ^ tz q:=⟨_,rfl⟩
  have hqs:=fJ q hq
  rw [← hq1] at hqs
  have hqle:q1≤q:=by rw [hq1]; exact Nat.div_le_self _ _
  have hgq:Nat.gcd p q=Nat.gcd p q1:=by conv=>lhs; rw [hqs.1,qN h1]
  repeat refine u ?_
  refine zA1 (oca rfl rfl fun _=>ktz (by omega) (by omega)) ?_
  refine zA1 (bH (oshr rfl rfl (by assumption)) (ps_i (show _=((q1:Nat):Int) by rw [hq1]))) ?_
  repeat refine u ?_
  refine tp (fun c2=>?_) fun c2=>?_
  repeat refine u ?_
  rotate_left 1
  repeat refine u ?_
  rotate_left 1
  ·refine ⟨(p,q1 - p),tes ?_ ?_ (List.Sublist.refl _),?_,(by omega)⟩
   refine tc rfl (ps_r _) (tc rfl (ps_r _) (tn))
   refine tc rfl (ps_r _) (tc rfl (ps_r _) (tn))
   all_goals first | exact ⟨h1,h2,by simp only; omega,by simp only; rw [rY (by omega),← hgq,h4]⟩ | (simp only; omega)
  ·refine ⟨(q1,p - q1),tes ?_ ?_ (List.Sublist.refl _),?_,(by omega)⟩
   refine tc rfl (ps_r _) (tc rfl (ps_r _) (tn))
   refine tc rfl (ps_r _) (tc rfl (ps_r _) (tn))
   all_goals first | exact ⟨hqs.2,by simp only; omega,by simp only; omega,by simp only; rw [rY (by omega),Nat.gcd_comm,← hgq,h4]⟩ | (simp only; omega)
 ·rw [show q=0 by omega,Nat.gcd_zero_right] at h4
  have hle:Nat.gcd a b≤a:=Nat.gcd_le_left _ (Nat.pos_of_ne_zero ha0)
  have hfin:p * 2 ^ tz (a ||| b) % 18446744073709551616=Nat.gcd a b:=by rw [h4,hgw.1,Nat.mul_comm]; exact Nat.mod_eq_of_lt (by rw [← hgw.1]; omega)
  exact congrArg (fun n:Nat=>(n:Int)) hfin
theorem kggcd {xs ys:List Nat} (hl:xs.length≤10000000) (hm:ys.length≤10000000):CTy prog 334 [sv (ntx xs),sv (ntx ys)] (sv (ntx (limbs (Nat.gcd (val xs) (val ys))))):=by
 refine nlt 0 rfl (bo func334) fun hx=>nlt 1 rfl (bo func334) fun hy=>?_
 have hxl:=zV xs hx
 have hyl:=zV ys hy
 refine fw [.tmp 4] func334 fun X=>?_
 repeat refine u ?_
 refine zA1 (oca rfl rfl fun _=>iM (by omega)) ?_
 repeat refine u ?_
 refine zA1 (oca rfl rfl fun _=>iM (by omega)) ?_
 repeat refine u ?_
 refine lp (σ:=Nat × Nat) [] (fun s=>[(0,True,sv (ntx (limbs s.1))),(1,True,sv (ntx (limbs s.2)))]) (fun s=>[]) (fun s=>Nat.gcd s.1 s.2=Nat.gcd (val xs) (val ys)∧(limbs s.1).length≤10000000∧(limbs s.2).length≤10000000) (fun s=>s.2) ((val xs,val ys)) (⟨rfl,by simp only; omega,by simp only; omega⟩) fun s hJ Y _=>?_
 obtain ⟨x,y⟩:=s
 dsimp only at hJ ⊢
 obtain ⟨h1,h2,h3⟩:=hJ
 repeat refine u ?_
 refine tp (fun c0=>?_) fun c0=>?_
 rotate_left 1
 repeat refine u ?_
 refine e ?_
 rotate_left 1
 ·have hy0:y ≠ 0:=fun c=>by rw [c,yB] at c0; simp at c0
  repeat refine u ?_
  refine zA1 (oca rfl rfl fun _=>yA2 (by omega)) ?_
  repeat refine u ?_
  refine zA1 (oca rfl rfl fun _=>yA2 (by omega)) ?_
  repeat refine u ?_
  refine tp (fun c1=>?_) fun c1=>?_
  rotate_left 1
  repeat refine u ?_
  refine zA1 (oca rfl rfl fun _=>yI6 (by omega) (by omega) (by rw [zJ]; exact hy0)) ?_
  repeat refine u ?_
  rotate_left 1
  ·obtain ⟨c2,c3⟩:=c1
   rw [zJ] at c2 c3
   have e1:uC (val (limbs x))=x:=by rw [zJ]; exact if_pos c2
   have e2:uC (val (limbs y))=y:=by rw [zJ]; exact if_pos c3
   have hg:=Nat.gcd_le_right x (Nat.pos_of_ne_zero hy0)
   rw [e1,e2]
   repeat refine u ?_
   refine zA1 (oca rfl rfl fun _=>kword c2 c3) ?_
   refine zA1 (oca rfl rfl fun _=>kof (by omega)) ?_
   repeat refine u ?_
   refine e ?_
   rw [h1]; exact PSub.refl _
  ·rw [zJ,zJ]
   have hm:=yC (Nat.le_of_lt (Nat.mod_lt x (Nat.pos_of_ne_zero hy0)))
   have hlt:=Nat.mod_lt x (Nat.pos_of_ne_zero hy0)
   refine nxt ((y,x % y)) ?_
   all_goals first | exact ⟨by simp only; rw [← h1,Nat.gcd_comm,← Nat.gcd_rec,Nat.gcd_comm],h3,by simp only; omega⟩ | (simp only; omega)
 ·rw [← h1,show y=0 from zM.1 (by omega),Nat.gcd_zero_right]; exact PSub.refl _
theorem kgby {xs:List Nat}:CTy prog 335 [sv (ntx xs)] (fn 362 [pa (ntx xs)]):=by
 refine fw [.tmp 2] func335 fun X=>?_
 repeat refine u ?_
 exact e
theorem yO4 {xs ys:List Nat} (hl:xs.length≤10000000) (hm:ys.length≤10000000) (h0:val ys ≠ 0):CTy prog 362 [sv (ntx xs),pa (ntx ys)] (sv (ntx (limbs (val xs / val ys)))):=by
 refine fw [.tmp 3] func362 fun X=>?_
 repeat refine u ?_
 refine zA1 (oca rfl rfl fun _=>yI6 (by omega) (by omega) h0) ?_
 repeat refine u ?_
 exact e
theorem kreduce {xs ys:List Nat} (hl:xs.length≤10000000) (hm:ys.length≤10000000):CTy prog 285 [sv (ntx xs),sv (ntx ys)] (tu [sv (ntx (limbs (val xs / Nat.gcd (val xs) (val ys)))),sv (ntx (limbs (val ys / Nat.gcd (val xs) (val ys))))]):=by
 refine nlt 0 rfl (bo func285) fun hx=>nlt 1 rfl (bo func285) fun hy=>?_
 have hxl:=zV xs hx
 have hyl:=zV ys hy
 have hgl:(limbs (Nat.gcd (val xs) (val ys))).length≤10000000:=by
  rcases Nat.eq_zero_or_pos (val xs) with h | h
  ·rw [h,Nat.gcd_zero_left]; omega
  ·have:=yC (Nat.gcd_le_left (val ys) h); omega
 have h0:(limbs (Nat.gcd (val xs) (val ys))).length=0 ↔ Nat.gcd (val xs) (val ys)=0:=zM
 refine fw [.tmp 4,.tmp 5] func285 fun X=>?_
 repeat refine u ?_
 refine zA1 (oca rfl rfl fun _=>kggcd (by omega) (by omega)) ?_
 repeat refine u ?_
 refine tp (fun c0=>?_) fun c0=>?_
 repeat refine u ?_
 refine e ⟨?_,?_⟩
 rotate_left 1
 rotate_left 1
 repeat refine u ?_
 refine zA1 (oca rfl rfl fun _=>kgby) ?_
 repeat refine u ?_
 refine zA1 (oca rfl rfl fun _=>yO4 (by omega) (by omega) ?_) ?_
 rotate_left 1
 repeat refine u ?_
 refine zA1 (oca rfl rfl fun _=>yO4 (by omega) (by omega) ?_) ?_
 rotate_left 1
 repeat refine u ?_
 refine e ⟨?_,?_⟩
 rotate_left 1
 rotate_left 1
 ·rw [h0.1 (by omega),Nat.div_zero,yB]; exact tN
 ·rw [h0.1 (by omega),Nat.div_zero,yB]; exact tN
 all_goals first | exact hgl | (rw [zJ]; first | exact PSub.refl _ | exact fun e=>c0 (by rw [h0.2 e]; rfl))
end Go.Proofs.YtalkinejknjidaaGreatDoor
namespace Go.Proofs.YtalkinejknjidaaGreatDoor
open Go.SL Go.RowKit Go.Proofs Tryz
instance dfR:Df Rat:=⟨0⟩
instance dfP:Df P2:=⟨(0,0)⟩
abbrev ptq (n:Nat) (x:P2):CT:=st [rtq n x.1,rtq n x.2]
theorem qr_q {Ψ:PV} {n:Nat} {q:Rat} [h:QR Ψ n q]:PSub Ψ (ag (rtq n q)):=fun M w v k=>by
 obtain ⟨s,a,d,rfl,g⟩:=h.h k
 exact ⟨_,rfl,s,a,d,rfl,g⟩
theorem yH1 {M:Nat→Prop} {w:World} {n:Nat} {q:P2} {s:Bool} {a d:Value} {t:Bool} {b e:Value} (h:PQ M w n q s a d t b e):(ptq n q).p M w [.bool s,a,d,.bool t,b,e]:=⟨[.bool s,a,d],[.bool t,b,e],rfl,⟨s,a,d,rfl,h.x⟩,[.bool t,b,e],[],rfl,⟨t,b,e,rfl,h.y⟩,rfl⟩
theorem qp_q {Ψ:PV} {n:Nat} {q:P2} [h:QP Ψ n q]:PSub Ψ (ag (ptq n q)):=fun M w v k=>by
 obtain ⟨s,a,d,t,b,e,rfl,g⟩:=h.h k
 exact ⟨_,rfl,yH1 g⟩
theorem cH {Ψ:PV} {n:Nat} {l:List P2} [h:VPt Ψ n l]:PSub Ψ (sv (sl 6 (l.map (ptq n)))):=fun M w v k=>by
 refine cI (R:=RP n) (fun _=>rfl) (fun a us _ ⟨s,x,d,t,b,e,e0,g⟩=>by rw [e0]; exact yH1 g) (h.h k).row
theorem vq_q {Ψ:PV} {n:Nat} {l:List Rat} [h:VQ Ψ n l]:PSub Ψ (sv (sl 3 (l.map (rtq n)))):=fun M w v k=>by
 refine cI (R:=RQ n) (fun _=>rfl) (fun a us _ ⟨s,x,d,e0,g⟩=>⟨s,x,d,e0,g⟩) (h.h k).row
abbrev ptc (n:Nat) (x:P2):CT:=st [rtc n x.1,rtc n x.2]
instance vpt_c {n:Nat} {l:List P2}:VPt (sv (sl 6 (l.map (ptc n)))) n l:=⟨fun k=>⟨wM (fun _=>rfl) (fun a us h=>by
 obtain ⟨s,b,d,t,c,e,e0,g⟩:=CP.h (c:=ptc n a) h
 exact ⟨s,b,d,t,c,e,e0,by rw [Nat.max_self] at g; exact g⟩) k⟩⟩
instance vpt_p {n:Nat} {l:List P2}:VPt (sv (sl 6 (l.map (ptq n)))) n l:=⟨fun k=>⟨wM (fun _=>rfl) (fun a us h=>by
 obtain ⟨s,b,d,t,c,e,e0,g⟩:=CP.h (c:=ptq n a) h
 exact ⟨s,b,d,t,c,e,e0,by rw [Nat.max_self] at g; exact g⟩) k⟩⟩
end Go.Proofs.YtalkinejknjidaaGreatDoor
set_option maxHeartbeats 4000000
namespace Go.Proofs.YtalkinejknjidaaGreatDoor
open Go.SL Go.RowKit Go.Proofs Tryz
section
variable {M M' : Nat → Prop} {w w' : World} {n m k : Nat} {z : Int} {s : Bool} {a : Value}
theorem ZQ.cl (h:ZQ M w n z s a) (l:Cl M w M' w'):ZQ M' w' n z s a:=by obtain ⟨xs,h1,h2⟩:=h.ex; exact ⟨xs,h1.cl l,h2⟩
theorem ZC.cl (h:ZC M w n z s a) (l:Cl M w M' w'):ZC M' w' n z s a:=⟨h.sgn,h.num.cl l,h.len⟩
theorem NQ.cl (h:NQ M w n k a) (l:Cl M w M' w'):NQ M' w' n k a:=by obtain ⟨xs,h1,h2⟩:=h.ex; exact ⟨xs,h1.cl l,h2⟩
end
def ztq (n:Nat) (z:Int):CT where
 sz:=2
 p M w cs:=∃ s a,cs=[.bool s,a]∧ZQ M w n z s a
 len h:=by obtain ⟨_,_,rfl,_⟩:=h; rfl
 one h:=by obtain ⟨_,_,rfl,h⟩:=h; exact allc rfl (allc h.one.1 alln)
 mono h k:=by obtain ⟨s,a,rfl,h⟩:=h; exact ⟨s,a,rfl,h.cl k⟩
def ztc (n:Nat) (z:Int):CT where
 sz:=2
 p M w cs:=∃ s a,cs=[.bool s,a]∧ZC M w n z s a
 len h:=by obtain ⟨_,_,rfl,_⟩:=h; rfl
 one h:=by obtain ⟨_,_,rfl,h⟩:=h; exact allc rfl (allc h.gen.one.1 alln)
 mono h k:=by obtain ⟨s,a,rfl,h⟩:=h; exact ⟨s,a,rfl,h.cl k⟩
def ntq (n k:Nat):CT where
 sz:=1
 p M w cs:=∃ a,cs=[a]∧NQ M w n k a
 len h:=by obtain ⟨_,rfl,_⟩:=h; rfl
 one h:=by obtain ⟨_,rfl,h⟩:=h; exact allc h.one.1 alln
 mono h k:=by obtain ⟨a,rfl,h⟩:=h; exact ⟨a,rfl,h.cl k⟩
def ntc (n k:Nat):CT where
 sz:=1
 p M w cs:=∃ a,cs=[a]∧NQ M w n k a∧IsNat M w a (limbs k)
 len h:=by obtain ⟨_,rfl,_⟩:=h; rfl
 one h:=by obtain ⟨_,rfl,h,_⟩:=h; exact allc h.one.1 alln
 mono h k:=by obtain ⟨a,rfl,h,g⟩:=h; exact ⟨a,rfl,h.cl k,g.cl k⟩
theorem zN5 {M:Nat→Prop} {w:World} {n k:Nat} {a:Value} (h:IsNat M w a (limbs k)) (hl:(limbs k).length≤n):NQ M w n k a:=⟨_,h,hl,zJ k⟩
instance {n:Nat} {q:Rat}:FA (rtc n q) 0 (ztc n q.num):=⟨fun ⟨s,a,d,e,h⟩=>⟨s,a,by rw [e]; rfl,h.sgn,h.num,h.len.1⟩⟩
instance {n:Nat} {q:Rat}:FA (rtc n q) 2 (ntc n q.den):=⟨fun ⟨s,a,d,e,h⟩=>⟨d,by rw [e]; rfl,zN5 h.den h.len.2,h.den⟩⟩
instance {n:Nat} {z:Int}:FA (ztc n z) 0 (xc (.bool (decide (z < 0)))):=⟨fun ⟨s,a,e,h⟩=>by rw [e,h.sgn]; exact ⟨rfl,rfl⟩⟩
instance {n:Nat} {z:Int}:FA (ztc n z) 1 (ntc n z.natAbs):=⟨fun ⟨s,a,e,h⟩=>⟨a,by rw [e]; rfl,zN5 h.num h.len,h.num⟩⟩
class CZ (c:CT) (n:outParam Nat) (z:outParam Int):Prop where
 h:∀ {M w us},c.p M w us→∃ s a,us=[.bool s,a]∧ZQ M w n z s a
instance {n:Nat} {z:Int}:CZ (ztq n z) n z:=⟨id⟩
instance {n:Nat} {z:Int}:CZ (ztc n z) n z:=⟨fun ⟨s,a,e,h⟩=>⟨s,a,e,h.gen⟩⟩
class CN (c:CT) (n:outParam Nat) (k:outParam Nat):Prop where
 h:∀ {M w us},c.p M w us→∃ a,us=[a]∧NQ M w n k a
instance {n k:Nat}:CN (ntq n k) n k:=⟨id⟩
instance {n k:Nat}:CN (ntc n k) n k:=⟨fun ⟨a,e,h,_⟩=>⟨a,e,h⟩⟩
instance {b:Bool} {c:CT} {n k:Nat} [h:CN c n k]:CZ (st [xc (.bool b),c]) n (if b then -((k:Nat):Int) else ((k:Nat):Int)):=⟨fun ⟨x,y,e,k1,z,o,e2,k2,e3⟩=>by
 obtain ⟨a,rfl,g⟩:=h.h k2
 obtain rfl:x=[.bool b]:=k1.1
 obtain rfl:o=[]:=e3
 obtain ⟨xs,g1,g2,g3⟩:=g.ex
 exact ⟨b,a,by rw [e,e2]; rfl,xs,g1,g2,by unfold zv; rw [g3]⟩⟩
class VZ (Ψ:PV) (n:outParam Nat) (z:outParam Int):Prop where
 h:∀ {M w v},Ψ.p M w v→∃ s a,v = .agg #[.bool s,a]∧ZQ M w n z s a
instance {c:CT} {n:Nat} {z:Int} [h:CZ c n z]:VZ (ag c) n z:=⟨fun ⟨us,e,k⟩=>by obtain ⟨s,a,rfl,g⟩:=h.h k; exact ⟨s,a,e,g⟩⟩
class VN (Ψ:PV) (n:outParam Nat) (k:outParam Nat):Prop where
 h:∀ {M w v},Ψ.p M w v→NQ M w n k v
instance {c:CT} {n k:Nat} [h:CN c n k]:VN (sv c) n k:=⟨fun k=>by obtain ⟨a,e,g⟩:=h.h k; rw [List.singleton_inj.1 e]; exact g⟩
class VZL (Ψ:PV) (n:outParam Nat) (l:outParam (List Int)):Prop where
 h:∀ {M w v},Ψ.p M w v→ZL M w n l v
instance {c d:CT} {n m:Nat} {y z:Int} [h1:CZ c n y] [h2:CZ d m z]:VZL (sv (sl 2 [c,d])) (max n m) [y,z]:=⟨fun k=>⟨by
 obtain ⟨v,us,e,k1,k2,k3⟩:=id k
 refine zM3 (cs:=[c,d]) rfl k3 (fun i a ha=>?_) k
 cases i with
 | zero=>obtain rfl:=Option.some.inj ha; exact ⟨c,rfl,fun us hu=>let ⟨s,a,e,g⟩:=h1.h hu; ⟨s,a,e,g.up (by omega)⟩⟩
 | succ i=>cases i with
  | zero=>obtain rfl:=Option.some.inj ha; exact ⟨d,rfl,fun us hu=>let ⟨s,a,e,g⟩:=h2.h hu; ⟨s,a,e,g.up (by omega)⟩⟩
  | succ i=>simp at ha⟩⟩
theorem xJ {Ψ ρ:PV} (h:PSub Ψ ρ):∀ M w vs,Fa [Ψ] M w vs→ρ.p M w (xN vs):=fun M w vs ⟨v,us,e,h1,h2⟩=>by
 subst e; rw [show us=[] from h2]; exact h _ _ _ h1
theorem aV {Ψ Φ ρ σ:PV} (h:PSub Ψ ρ) (k:PSub Φ σ):∀ M w vs,Fa [Ψ,Φ] M w vs→(tu [ρ,σ]).p M w (xN vs):=fun M w vs ⟨v,us,e,h1,u,us2,e2,h2,e3⟩=>by
 subst e; subst e2; rw [show us2=[] from e3]; exact ⟨[v,u],rfl,v,_,rfl,h _ _ _ h1,u,_,rfl,k _ _ _ h2,rfl⟩
theorem xR {X:Cx} {Γ:TE} {S:List Ow} {b s:Nat} {ty:TypeId} {c:CT} {q:Prop} (i:Nat) (hi:S[i]? = some (.blk b ty [c])) (hs:tf Γ s=some (q,exP (.pointer (some ⟨b,0,none⟩)))):Ts X Γ S ((s,q,pa c) :: Γ) (S.eraseIdx i):=fun E w h=>by
 have hm:Ow.blk b ty [c] ∈ S:=List.mem_of_getElem? hi
 obtain ⟨us,k3,a,o,k4,k5,k6⟩:=h.gd.own _ hm
 have h2:=h.sub (List.eraseIdx_sublist S i)
 have hn:¬ Mk (S.eraseIdx i) X.M b:=fun k=>by
  rcases k with ⟨p,hp,e⟩ | k
  ·obtain ⟨j,hj,hp⟩:=cW hp
   exact fH h.apt hi hp (fun k=>hj k.symm) rfl e
  ·rcases h.new _ hm b rfl with h4 | h4
   ·have:=h.ok0 b k; omega
   ·exact h.zm b h4 k
 obtain rfl:o=[]:=k6
 rw [List.append_nil] at k4; subst k4
 refine ⟨h2.bel,h2.gd,h2.new,h2.apt,h2.ok0,h2.zm,h2.mko,fun t q' ht=>?_⟩
 unfold tf at ht
 cases hb:Nat.beq s t with
 | true =>
  rw [hb] at ht
  obtain rfl:=Nat.eq_of_beq_eq_true hb
  obtain rfl:=Option.some.inj ht
  have h3:=h.tm s _ hs
  exact ⟨fun k=>let ⟨u,h4,h5⟩:=h3.1 k; ⟨u,h4,b,0,us,h5,hn,⟨us.toArray,ty,(0,0),k3,fun j v hj=>by simpa using hj⟩,c.mono k5 (Cl.less (eZ (List.eraseIdx_sublist S i)))⟩,h3.2⟩
 | false=>rw [hb] at ht; exact h2.tm t q' ht
theorem ofo {P:Program} {r:Option Nat} {N:Nat} {ops:Array Oper} {M:Nat→Prop} {S:List Ow} {p qx:Prop} {Γ:TE} {d b o:Nat} {x:Operand} {t t':TypeId} {pos:String} {af:Array Edge} {a:Bool} {f off sz:Nat} (hx:tv Γ x=some (qx,exP (.pointer (some ⟨b,o,none⟩)))) [Im p qx] [ht:TFd P t f a off sz] :
  Ob P r N ops M S p ⟨some d,.fieldAddr t x f,t',pos,af,none⟩ Γ (exP (.pointer (some ⟨b,o + off,none⟩))) :=
 ob1 hx (by simp [Op.operands]) fun D E w u hN hg e1 h1=>by
  obtain rfl:u=_:=h1
  obtain ⟨fields,fd,bytes,z,k1,k2,k3,k4,k5,_⟩:=ht.h
  exact qW off hN k1 k2 k3 k4 k5 e1 (fin rfl)
theorem oldf {P:Program} {r:Option Nat} {N:Nat} {ops:Array Oper} {M:Nat→Prop} {S:List Ow} {p qx:Prop} {Γ:TE} {Ψ:PV} {d b o:Nat} {x:Operand} {t ty t':TypeId} {pos:String} {af:Array Edge} {a:Bool} {sz:Nat} {c c':CT} (i o':Nat) (hx:tv Γ x=some (qx,exP (.pointer (some ⟨b,o,none⟩)))) (ho:o=o') [Im p qx] (hi:S[i]? = some (.blk b ty [c])) [ht:TLd P t a sz] [ha:FA c o' c'] (hs:Nat.beq c'.sz sz=true) [hl:LdA a c' Ψ]:Ob P r N ops M S p ⟨some d,.load t x,t',pos,af,none⟩ Γ Ψ :=
 ob1 hx (by simp [Op.operands]) fun D E w u hN hg e1 h1=>by
  obtain rfl:u=_:=h1
  subst ho
  obtain ⟨vs,k3,x1,o1,k4,k6,k7⟩:=hg.own _ (List.mem_of_getElem? hi)
  obtain rfl:o1=[]:=k7
  rw [List.append_nil] at k4; subst k4
  have h3:=ha.h k6
  have h4:=hl.h h3
  have h7:=c'.len h3
  have h6:=Nat.eq_of_beq_eq_true hs
  have h2:∀ (j:Nat) (u:Value),((vs.drop o).take c'.sz)[j]? = some u→w.cell? ⟨b,o + j,none⟩=some u:=fun j u hj=>by
   rw [k3.cell]
   rw [List.getElem?_take] at hj
   split at hj
   ·simpa using hj
   ·cases hj
  have h5:=ht.h
  cases a with
  | true =>
   obtain ⟨bytes,z,k2⟩:=ht.s
   exact cR hN h5 k2 e1 h2 (h7.trans h6) (fin h4)
  | false =>
   obtain ⟨k1,rfl⟩:=h5
   rw [h6] at h7 h2 h4
   obtain ⟨v,hv⟩:=List.length_eq_one_iff.1 h7
   rw [hv] at h2 h4
   exact xC hN k1 e1 (by have:=h2 0 v rfl; simpa using this) (fin (h4 v rfl))
theorem ts_ow {X:Cx} {Γ:TE} {S:List Ow} {o o':Ow} (i:Nat) (hi:S[i]? = some o) (hb:o'.bk=o.bk) (ho:∀ M w,o.ok M w→o'.ok M w):Ts X Γ S Γ (S.set i o'):=fun E w h=>by
 have hm:∀ q ∈ S.set i o',q ∈ S ∨ q=o':=fun q hq=>List.mem_or_eq_of_mem_set hq
 have hiS:o ∈ S:=List.mem_of_getElem? hi
 have hmk:Mk (S.set i o') X.M=Mk S X.M:=funext fun c=>propext ⟨fun h=>h.imp (fun ⟨q,hq,e⟩=>by
  rcases hm q hq with hq | rfl
  ·exact ⟨q,hq,e⟩
  ·exact ⟨_,hiS,hb ▸ e⟩) id,fun h=>h.imp (fun ⟨q,hq,e⟩=>by
  obtain ⟨m,hm⟩:=List.mem_iff_getElem?.1 hq
  by_cases c:i=m
  ·subst c
   obtain rfl:=Option.some.inj (hm.symm.trans hi)
   exact ⟨o',List.mem_of_getElem? (List.getElem?_set_self (List.getElem?_eq_some_iff.1 hi).1),hb.trans e⟩
  ·exact ⟨q,List.mem_of_getElem? (by rw [List.getElem?_set_ne c]; exact hm),e⟩) id⟩
 refine ⟨h.bel,⟨by rw [hmk]; exact h.gd.ok,by rw [hmk]; exact h.gd.tab,fun q hq=>?_⟩,fun q hq b' e=>?_,nJ h.apt hi (fun b' e => .inl (hb ▸ e)),h.ok0,h.zm,h.mko,by rw [hmk]; exact h.tm⟩
 ·rw [hmk]
  rcases hm q hq with hq | rfl
  ·exact h.gd.own q hq
  ·exact ho _ _ (h.gd.own _ hiS)
 ·rcases hm q hq with hq | rfl
  ·exact h.new q hq b' e
  ·exact h.new _ hiS b' (hb ▸ e)
theorem qS {X:Cx} {Γ:TE} {S:List Ow} {b:Nat} {ty:TypeId} {cs cs':List CT} (i:Nat) (hi:S[i]? = some (.blk b ty cs)) (hc:∀ {M w us},stp cs M w us→stp cs' M w us):Ts X Γ S Γ (S.set i (.blk b ty cs')):=ts_ow i hi rfl fun M w ⟨us,h1,h2⟩=>⟨us,h1,hc h2⟩
instance {n:Nat} {z:Int}:SzC (ztq n z) 2:=⟨rfl⟩
instance {n:Nat} {z:Int}:SzC (ztc n z) 2:=⟨rfl⟩
instance {n k:Nat}:SzC (ntq n k) 1:=⟨rfl⟩
instance {n k:Nat}:SzC (ntc n k) 1:=⟨rfl⟩
instance {xs:List Nat}:CN (ntx xs) xs.length (val xs):=⟨fun ⟨a,e,h⟩=>⟨a,e,xs,h,Nat.le_refl _,rfl⟩⟩
theorem rV {M:Nat→Prop} {w:World} {n:Nat} {z:Int} {s:Bool} {a:Value} (h:ZQ M w n z s a):∃ b:Bool × List Nat,(∀ x ∈ b.2,x < 4294967296)∧b.2.length≤n∧zv b.1 b.2=z∧(ag (itx b)).p M w (.agg #[.bool s,a]):=by
 obtain ⟨xs,h1,h2,h3⟩:=h.ex
 exact ⟨(s,xs),h1.lt,h2,h3,[.bool s,a],rfl,[.bool s],[a],rfl,⟨rfl,rfl⟩,[a],[],rfl,⟨a,rfl,h1⟩,rfl⟩
theorem ctz1 {P:Program} {f:FuncId} {ρ Ψ:PV} {n:Nat} {z:Int} [h:VZ Ψ n z] (hb:Bod P f) (k:∀ a:Bool × List Nat,(∀ x ∈ a.2,x < 4294967296)→a.2.length≤n→zv a.1 a.2=z→CTy P f [ag (itx a)] ρ):CTy P f [Ψ] ρ:=⟨hb,fun M w vs hM hT hv=>by
 obtain ⟨v,rfl,h1⟩:=fa1 hv
 obtain ⟨s,a,rfl,g⟩:=h.h h1
 obtain ⟨b,b0,b1,b2,b3⟩:=rV g
 exact (k b b0 b1 b2).run M w _ hM hT ⟨_,_,rfl,b3,rfl⟩⟩
theorem ctz2 {P:Program} {f:FuncId} {ρ Ψ Φ:PV} {n m:Nat} {y z:Int} [h:VZ Ψ n y] [h':VZ Φ m z] (hb:Bod P f) (k:∀ a b:Bool × List Nat,(∀ x ∈ a.2,x < 4294967296)→a.2.length≤n→zv a.1 a.2=y→(∀ x ∈ b.2,x < 4294967296)→b.2.length≤m→zv b.1 b.2=z→CTy P f [ag (itx a),ag (itx b)] ρ):CTy P f [Ψ,Φ] ρ:=⟨hb,fun M w vs hM hT hv=>by
 obtain ⟨v,u,rfl,h1,h2⟩:=fa2 hv
 obtain ⟨s,a,rfl,g⟩:=h.h h1
 obtain ⟨t,b,rfl,g'⟩:=h'.h h2
 obtain ⟨b1,b0,b2,b3,b4⟩:=rV g
 obtain ⟨c1,c0,c2,c3,c4⟩:=rV g'
 exact (k b1 c1 b0 b2 b3 c0 c2 c3).run M w _ hM hT ⟨_,_,rfl,b4,_,_,rfl,c4,rfl⟩⟩
theorem ps_z {N k:Nat} {z:Int} {s:Bool} (h1:s=decide (z < 0)) (h2:k=z.natAbs) (h3:(limbs k).length≤N):PSub (ag (st [xc (.bool s),ntx (limbs k)])) (ag (ztc N z)):=fun M w v ⟨us,e,x,y,e1,k1,u,o,e2,⟨a,k2,k3⟩,e3⟩=>by
 subst h2
 obtain ⟨rfl,_⟩:=k1
 obtain rfl:o=[]:=e3
 subst k2
 exact ⟨us,e,s,a,by rw [e1,e2]; rfl,h1,k3,h3⟩
instance {n k:Nat}:VX (sv (ntc n k)) (limbs k):=⟨fun ⟨a,e,_,h⟩=>by rw [List.singleton_inj.1 e]; exact h⟩
theorem vx_q {Ψ:PV} {xs:List Nat} [h:VX Ψ xs]:PSub Ψ (sv (ntx xs)):=fun M w v k=>⟨v,rfl,h.h k⟩
theorem k2mulx {Ψ Φ:PV} {xs ys:List Nat} [h:VX Ψ xs] [k:VX Φ ys] (h1:xs.length≤100000000) (h2:ys.length≤100000000):CTy prog 91 [Ψ,Φ] (sv (ntx (limbs (val xs * val ys)))):=yG (yP3 h1 h2) (fs1 vx_q (fs1 vx_q fs0))
theorem obz {P:Program} {r:Option Nat} {N:Nat} {ops:Array Oper} {M:Nat→Prop} {S:List Ow} {p qx:Prop} {Γ:TE} {Ψx:PV} {c:CT} {d:Nat} {x:Operand} {t t':TypeId} {pos:String} {af:Array Edge} (hx:tv Γ x=some (qx,Ψx)) [Im p qx] [hp:TPl P t [1,1]] [tz:TZ P t (.agg #[.bool false,.slice none 0 0])] [hc:CtOf Ψx c] (hs:Nat.beq c.sz 1=true) :
  Ob P r N ops M S p ⟨some d,.build t #[(1,x)],t',pos,af,none⟩ Γ (ag (st [xc (.bool false),c])) :=
 ob1 hx (by simp [Op.operands]) fun D E w u hN hg e1 h1=>by
  obtain ⟨us,k1,k2⟩:=hc.h h1
  obtain ⟨sz,bytes,hz⟩:=tz.s
  have hl:us.length=1:=(c.len k2).trans (Nat.eq_of_beq_eq_true hs)
  refine iW (vs:=[u]) (cs:=[us]) (zs:=[.bool false,.slice none 0 0]) hN hp.h hz (by simp [evs,e1]) ⟨k1,trivial⟩ (by simp [hl]) rfl (fin ⟨[.bool false] ++ us,?_,[.bool false],us,rfl,⟨rfl,rfl⟩,us,[],by simp,k2,rfl⟩)
  simp [updC,hl]
instance (priority:=high) {P:Program} {r:Option Nat} {N:Nat} {ops:Array Oper} {S:List Ow} {p q:Prop} {Γ:TE} {t t':TypeId} {x:Operand} {Ψ:PV} {c:CT} [h:TV Γ x q Ψ] [Im p q] [TPl P t [1,1]] [TZ P t (.agg #[.bool false,.slice none 0 0])] [CtOf Ψ c] [hs:SzC c 1]:OB P r N ops S p (.build t #[(1,x)]) t' Γ (ag (st [xc (.bool false),c])) True:=⟨fun _=>obz h.h (by rw [hs.h]; rfl)⟩
theorem xZ {xs:List Nat} (h:∀ x ∈ xs,x < 4294967296):(limbs (val xs)).length≤xs.length:=zS (yM _ h)
instance {n k:Nat}:VS (sv (ntc n k)) 1 ((limbs k).map xw):=⟨fun ⟨v,e,_,h⟩=>⟨v,_,e,by rw [List.length_map]; exact h.slc,zR7,fun c hc=>by obtain ⟨a,_,rfl⟩:=List.mem_map.1 hc; rfl⟩⟩
theorem k5normx {a:Bool × List Nat} {N:Nat} {z:Int} (hx:∀ x ∈ a.2,x < 4294967296) (hl:a.2.length≤100000000) (hN:a.2.length≤N) (hz:zv a.1 a.2=z):CTy prog 144 [ag (itx a)] (ag (ztc N z)):=by
 refine fw [.cell 2 27] func144 fun X=>?_
 iterate 3 refine u ?_
 refine u fun b2=>?_
 repeat refine u ?_
 refine zA1 (oca rfl rfl fun _=>gX (by omega)) ?_
 repeat refine u ?_
 refine tst 0 rfl rfl rfl rfl rfl rfl ?_
 repeat refine u ?_
 refine ⟨[_],rsc 0 rfl rfl rfl rfl rs0,xJ ?_⟩
 exact (ps_z (by
  have h0:=@zM (val a.2)
  subst hz
  unfold zv
  cases h:a.1 with
  | false=>simp <;> omega
  | true =>
   simp only [Bool.true_and,if_true]
   rw [decide_eq_decide]
   omega) (by subst hz; unfold zv; split <;> omega) (Nat.le_trans (xZ (by exact hx)) hN))
theorem aB {Ψ:PV} {n:Nat} {z:Int} [h:VZ Ψ n z] (hn:n≤100000000):CTy prog 144 [Ψ] (ag (ztc n z)):=ctz1 (bo func144) fun a h0 h1 h2=>k5normx h0 (by omega) h1 h2
theorem vz_q {Ψ:PV} {n:Nat} {z:Int} [h:VZ Ψ n z]:PSub Ψ (ag (ztq n z)):=fun M w v hv=>by obtain ⟨s,a,rfl,g⟩:=h.h hv; exact ⟨_,rfl,s,a,rfl,g⟩
theorem eU {n N:Nat} {y z:Int} (h:y=z) (h1:n≤N):PSub (ag (ztc n y)) (ag (ztc N z)):=fun M w v ⟨us,e,s,a,e2,g⟩=>by subst h; exact ⟨us,e,s,a,e2,g.sgn,g.num,Nat.le_trans g.len h1⟩
theorem zW6 {K:Nat} {xs ys:List Nat} (h1:val xs < 4294967296 ^ xs.length) (h2:val ys < 4294967296 ^ ys.length) (hK:max xs.length ys.length + 1≤K):(limbs (val xs + val ys)).length≤K:=by
 refine Nat.le_trans (zS (k:=max xs.length ys.length + 1) ?_) hK
 have a1:4294967296 ^ xs.length≤4294967296 ^ (max xs.length ys.length):=Nat.pow_le_pow_right (by omega) (by omega)
 have a2:4294967296 ^ ys.length≤4294967296 ^ (max xs.length ys.length):=Nat.pow_le_pow_right (by omega) (by omega)
 rw [Nat.pow_succ]; omega
theorem yJ5 {Ψ:PV} {n:Nat} {z:Int} [h:VZ Ψ n z] (hn:n≤1000000):CTy prog 63 [Ψ] (exP (.int .i64 z.sign)):=by
 refine yG (σs:=[ag (ztq n z)]) ?_ (fs1 vz_q fs0)
 refine fw [.tmp 2] func63 fun X=>?_
 iterate 2 refine u ?_
 refine tbx rfl fun b1=>?_
 repeat refine u ?_
 refine zA1 (oca rfl rfl fun _=>aB (by omega)) ?_
 repeat refine u ?_
 refine zA1 (oldf 0 1 rfl rfl rfl rfl) ?_
 repeat refine u ?_
 refine ti (fun c0=>?_) fun c0=>?_
 repeat refine u ?_
 refine e ?_
 refine ps_i ?_
 rotate_left 1
 repeat refine u ?_
 refine zA1 (oldf 0 0 rfl rfl rfl rfl) ?_
 repeat refine u ?_
 refine ti (fun c1=>?_) fun c1=>?_
 repeat refine u ?_
 refine e ?_
 refine ps_i ?_
 rotate_left 1
 repeat refine u ?_
 refine e ?_
 refine ps_i ?_
 rotate_left 1
 ·have h1:=dt c0
  have h2:=@zM z.natAbs
  rw [show z=0 by omega]; rfl
 ·have h2:=dt c1
  rw [Int.sign_eq_neg_one_of_neg h2]
 ·have h1:=df c0
  have h2:=df c1
  have h3:=@zM z.natAbs
  rw [Int.sign_eq_one_of_pos (by omega)]
theorem yO9 {Ψ:PV} {n:Nat} {z:Int} [h:VZ Ψ n z] (hn:n≤1000000):CTy prog 146 [Ψ] (ag (ztc n (-z))):=ctz1 (bo func146) fun a h0 h1 h2=>by
 refine fw [.cell 2 27] func146 fun X=>?_
 iterate 3 refine u ?_
 refine u fun b2=>?_
 repeat refine u ?_
 refine zA1 (oca rfl rfl fun _=>aB (by omega)) ?_
 repeat refine u ?_
 refine e ?_
 exact eU (by subst h2; unfold zv; cases a.1 <;> simp) h1
theorem w5two {a b:Bool × List Nat} {N:Nat} {y z:Int} (la:∀ x ∈ a.2,x < 4294967296) (lb:∀ x ∈ b.2,x < 4294967296) (ha:a.2.length≤1000000) (hb:b.2.length≤1000000) (hN:max a.2.length b.2.length + 1≤N) (hy:zv a.1 a.2=y) (hz:zv b.1 b.2=z):CTy prog 214 [ag (itx a),ag (itx b)] (ag (ztc N (y + z))):=by
 have hs:(limbs (val a.2 + val b.2)).length≤max a.2.length b.2.length + 1:=zW6 (yM _ la) (yM _ lb) (Nat.le_refl _)
 have hs2:(limbs (List.map val [a.2,b.2]).sum).length≤max a.2.length b.2.length + 1:=by simpa using hs
 have hd1:(limbs (val a.2 - val b.2)).length≤max a.2.length b.2.length + 1:=Nat.le_trans (yC (by omega)) hs
 have hd2:(limbs (val b.2 - val a.2)).length≤max a.2.length b.2.length + 1:=Nat.le_trans (yC (by omega)) hs
 refine fw [.cell 4 27] func214 fun X=>?_
 iterate 4 refine u ?_
 refine u fun b4=>?_
 repeat refine u ?_
 refine ti (fun c0=>?_) fun c0=>?_
 refine u ?_
 refine zL 10 mixed rfl rfl ?_
 repeat refine u ?_
 refine d1 (oca rfl rfl fun _=>yJ7 (xss:=[a.2,b.2]) (by (simp; omega)) (by (simp; done))) ?_
 repeat refine u ?_
 refine d1 (oca rfl rfl fun _=>aB (by omega)) ?_
 repeat refine u ?_
 refine e ?_
 rotate_left 1
 repeat refine u ?_
 refine zA1 (oca rfl rfl fun _=>zO7 (by omega) (by omega)) ?_
 repeat refine u ?_
 refine ti (fun c1=>?_) fun c1=>?_
 repeat refine u ?_
 refine zA1 (oca rfl rfl fun _=>aB (by omega)) ?_
 repeat refine u ?_
 refine e ?_
 rotate_left 1
 repeat refine u ?_
 refine zA1 (oca rfl rfl fun _=>zO7 (by omega) (by omega)) ?_
 repeat refine u ?_
 refine zA1 (oca rfl rfl fun _=>aB (by omega)) ?_
 repeat refine u ?_
 refine e ?_
 rotate_left 1
 ·have h0:a.1=b.1:=eq_of_beq c0.h
  exact eU (by
   subst hy hz; rw [zJ]; simp only [List.map_cons,List.map_nil,List.sum_cons,List.sum_nil]; unfold zv; rw [h0]; split <;> omega) (by omega)
 ·have h0:a.1 ≠ b.1:=fun e=>by have:=c0.h; rw [e] at this; simp at this
  have h1:val b.2≤val a.2:=by have:=dt c1; split at this <;> omega
  exact eU (by
   subst hy hz; rw [zJ]; unfold zv
   cases ea:a.1 <;> cases eb:b.1 <;> simp [ea,eb] at h0 ⊢ <;> omega) (by omega)
 ·have h0:a.1 ≠ b.1:=fun e=>by have:=c0.h; rw [e] at this; simp at this
  have h1:val a.2 < val b.2:=by have:=df c1; split at this <;> omega
  exact eU (by
   subst hy hz; rw [zJ]; unfold zv
   cases ea:a.1 <;> cases eb:b.1 <;> simp [ea,eb] at h0 ⊢ <;> omega) (by omega)
theorem k5two {Ψ Φ:PV} {n m N:Nat} {y z:Int} [h:VZ Ψ n y] [h':VZ Φ m z] (hn:n≤1000000) (hm:m≤1000000) (hN:max n m + 1≤N):CTy prog 214 [Ψ,Φ] (ag (ztc N (y + z))):=ctz2 (bo func214) fun a b la ha hy lb hb hz=>w5two la lb (by omega) (by omega) (by omega) hy hz
theorem z0_ok {n:Nat} {M:Nat→Prop} {w:World} {us:List Value} (h:stp (zc (.agg #[.bool false,.slice none 0 0])) M w us):stp [ztc n 0] M w us:=by
 obtain ⟨x,y,rfl,⟨rfl,_⟩,z,o,rfl,⟨rfl,_⟩,h3⟩:=h
 obtain rfl:o=[]:=h3
 exact ⟨[.bool false,.slice none 0 0],[],rfl,⟨false,_,rfl,zc_zero⟩,rfl⟩
theorem w5add {l:List Int} {n:Nat} (hn:n≤390000) (hl:l.length≤2):CTy prog 145 [sv (sl 2 (l.map (ztq n)))] (ag (ztc (n + 2) l.sum)):=by
 refine fw [.cell 2 27] func145 fun X=>?_
 iterate 2 refine u ?_
 refine u fun b2=>?_
 iterate 3 refine u ?_
 refine u fun b3=>?_
 repeat refine u ?_
 refine t_ts (qS (cs':=[ztc (n + 0) 0]) 0 rfl z0_ok) ?_
 refine lp (σ:=Nat) [0,2,3] (fun s=>[(4,True,exP (.int .i64 ((s:Nat):Int)))]) (fun s=>[.blk b3 27 [ztc (n + s) (l.take s).sum],.blk b2 27 (zc (.agg #[.bool false,.slice none 0 0]))]) (fun s=>s≤l.length) (fun s=>l.length - s) (0) ((by simp)) fun s hJ Y _=>?_
 repeat refine u ?_
 refine ti (fun c0=>?_) fun c0=>?_
 iterate 3 refine u ?_
 refine zL 7 mixed rfl rfl ?_
 repeat refine u ?_
 refine d1 (oix _ rfl rfl rfl (fun _=>rfl) (fun _=>(by (have e0:=dt c0; omega)))) ?_
 repeat refine u ?_
 refine d1 (oca rfl rfl fun _=>aB (by omega)) ?_
 refine d1 (oca rfl rfl fun _=>k5two (N:=n + s + 1) (by omega) (by omega) (by omega)) ?_
 repeat refine u ?_
 rotate_left 1
 repeat refine u ?_
 refine zA1 (oca rfl rfl fun _=>aB (by omega)) ?_
 repeat refine u ?_
 refine e ?_
 rotate_left 1
 ·refine ⟨s + 1,tes ?_ ?_ ?_,(by (have e0:=dt c0; omega)),(by (have e0:=dt c0; omega))⟩
  refine tc rfl (ps_r _) (tn)
  refine tc rfl (ps_r _) (tc rfl (ps_r _) (tc rfl (ps_r _) (tn)))
  rw [sum_take (by have:=dt c0; omega)]; exact List.Sublist.refl _
 ·have h0:s=l.length:=by have:=df c0; omega
  subst h0
  exact eU (by rw [List.take_length]) (by omega)
theorem yM7 {N n:Nat} {b:Bool} {z:Int} (h1:b=decide (z < 0)) (h2:n=z.natAbs) (h3:(limbs n).length≤N):PSub (ag (st [xc (.bool b),ntx (limbs n)])) (ag (ztc N z)):=fun M w v ⟨us,e,x,y,e1,⟨e2,_⟩,u,o,e3,⟨a,e4,g⟩,e5⟩=>by
 subst h1 h2 e2 e4
 obtain rfl:o=[]:=e5
 exact ⟨us,e,_,a,by rw [e1,e3]; rfl,rfl,g,h3⟩
theorem k5of {k N:Nat} (hk:k < 9223372036854775808) (hN:2≤N):CTy prog 117 [exP (.int .i64 ((k:Nat):Int))] (ag (ztc N ((k:Nat):Int))):=by
 have h2:(limbs k).length≤2:=zS (by omega)
 refine fw [.cell 2 27] func117 fun X=>?_
 iterate 2 refine u ?_
 refine u fun b2=>?_
 repeat refine u ?_
 refine oJ rfl rfl ?_
 repeat refine u ?_
 refine zA1 (oca rfl rfl fun _=>k1of (by omega)) ?_
 repeat refine u ?_
 refine tst 0 rfl rfl rfl rfl rfl rfl ?_
 repeat refine u ?_
 refine ⟨[_],rsc 0 rfl rfl rfl rfl rs0,xJ ?_⟩
 exact yM7 (z:=((k:Nat):Int)) (decide_eq_false (by omega)).symm (by omega) (by omega)
theorem k5normM {Ψ:PV} {n N:Nat} {y z:Int} [h:VZ Ψ n y] (hn:n≤100000000) (hN:(limbs y.natAbs).length≤N) (e:y=z):CTy prog 144 [Ψ] (ag (ztc N z)) :=
 ⟨(aB (h:=h) hn).bod,fun M w vs hM hT hv=>((aB (h:=h) hn).run M w vs hM hT hv).mono fun r w' ⟨hB,us,e1,s,a,e2,g⟩=>⟨hB,by subst e; exact ⟨us,e1,s,a,e2,g.sgn,g.num,hN⟩⟩⟩
abbrev zx (a:Bool × List Nat):Int:=zv a.1 a.2
instance:Df (Bool × List Nat):=⟨(false,[])⟩
theorem nL (a:Bool × List Nat):(zx a).natAbs=val a.2:=by unfold zx zv; split <;> omega
theorem mul_z (p:Int) (a:Bool × List Nat):(if (!(decide (p < 0) == a.1))=true then -((val (limbs (val (limbs p.natAbs) * val a.2)):Nat):Int) else ((val (limbs (val (limbs p.natAbs) * val a.2)):Nat):Int))=p * zx a:=by
 rw [zJ,zJ,Int.natCast_mul]
 unfold zx zv
 rcases Decidable.em (p < 0) with h | h
 ·have e:((p.natAbs:Nat):Int) = -p:=by omega
  rw [decide_eq_true h,e]; cases a.1 <;> simp [Int.neg_mul,Int.mul_neg]
 ·have e:((p.natAbs:Nat):Int)=p:=by omega
  rw [decide_eq_false (by omega),e]; cases a.1 <;> simp [Int.neg_mul,Int.mul_neg]
theorem zY5 {l:List (Bool × List Nat)} {s:Nat} (h:s < l.length):jO ((l.map zx).take (s + 1))=jO ((l.map zx).take s) * zx (l.getD s Df.d):=by
 rw [prod_take (by simpa using h)]
 simp [List.getD_eq_getElem?_getD,List.getElem?_eq_getElem h]
theorem w5mul {l:List (Bool × List Nat)} {n:Nat} (hn:n≤100000) (hl:l.length≤2) (hb:∀ a ∈ l,(∀ x ∈ a.2,x < 4294967296)∧a.2.length≤n):CTy prog 66 [sv (sl 2 (l.map itx))] (ag (ztc (2 * n + 2) (jO (l.map zx)))):=by
 refine fw [.cell 2 27] func66 fun X=>?_
 iterate 2 refine u ?_
 refine u fun b2=>?_
 repeat refine u ?_
 refine zA1 (oca rfl rfl fun _=>k5of (k:=1) (N:=2 + 0 * n) (by omega) (by omega)) ?_
 refine u fun b3=>?_
 repeat refine u ?_
 refine lp (σ:=Nat) [0,2,3] (fun s=>[(4,True,exP (.int .i64 ((s:Nat):Int)))]) (fun s=>[.blk b3 27 [ztc (2 + s * n) (jO ((l.map zx).take s))],.blk b2 27 (zc (.agg #[.bool false,.slice none 0 0]))]) (fun s=>s≤l.length∧(limbs (jO ((l.map zx).take s)).natAbs).length≤2 + s * n) (fun s=>l.length - s) (0) (⟨by simp,by simp [jO,xW]⟩) fun s hJ Y _=>?_
 obtain ⟨j1,j2⟩:=hJ
 have hs2:s * n≤2 * n:=Nat.mul_le_mul_right n (by omega)
 have hs3:(s + 1) * n=s * n + n:=Nat.succ_mul _ _
 have hg:s < l.length→(∀ x ∈ (l.getD s Df.d).2,x < 4294967296)∧(l.getD s Df.d).2.length≤n:=fun h=>hb _ (by rw [List.getD_eq_getElem?_getD,List.getElem?_eq_getElem h]; exact List.getElem_mem h)
 have hm:s < l.length→(limbs (val (limbs (jO (List.take s (List.map zx l))).natAbs) * val (l.getD s Df.d).2)).length≤2 + s * n + n:=fun h=>by
  obtain ⟨g1,g2⟩:=hg h
  refine Nat.le_trans (aJ (yM _ (yQ _)) (yM _ g1)) ?_
  omega
 repeat refine u ?_
 refine ti (fun c0=>?_) fun c0=>?_
 iterate 3 refine u ?_
 refine zL 18 mixed rfl rfl ?_
 repeat refine u ?_
 refine d1 (oldf 0 0 rfl rfl rfl rfl) ?_
 repeat refine u ?_
 refine d1 (oix _ rfl rfl rfl (fun _=>rfl) (fun _=>(by (have e0:=dt c0; omega)))) ?_
 repeat refine u ?_
 refine d1 (oldf 0 1 rfl rfl rfl rfl) ?_
 repeat refine u ?_
 refine d1 (oix _ rfl rfl rfl (fun _=>rfl) (fun _=>(by (have e0:=dt c0; omega)))) ?_
 repeat refine u ?_
 refine d1 (oca rfl rfl fun _=>k2mulx (by omega) (by (have e0:=dt c0; omega))) ?_
 repeat refine u ?_
 refine d1 (oca rfl rfl fun _=>k5normM (N:=2 + (s + 1) * n) (z:=jO ((l.map zx).take (s + 1))) (by (have e0:=dt c0; omega)) ?_ ?_) ?_
 rotate_left 1
 rotate_left 1
 repeat refine u ?_
 rotate_left 1
 repeat refine u ?_
 refine e ?_
 rotate_left 1
 ·have h1:=hm (by have:=dt c0; omega)
  have e4:∀ (c:Bool) (k:Nat),(if c=true then -((k:Nat):Int) else ((k:Nat):Int)).natAbs=k:=fun c k=>by split <;> omega
  rw [e4,zJ]; omega
 ·rw [zY5 (by have:=dt c0; omega),← mul_z]
 ·have h0:s < l.length:=by have:=dt c0; omega
  have h1:=hm h0
  refine ⟨s + 1,tes ?_ ?_ (List.Sublist.refl _),?_,(by omega)⟩
  refine tc rfl (ps_r _) (tn)
  refine tc rfl (ps_r _) (tc rfl (ps_r _) (tc rfl (ps_r _) (tn)))
  refine ⟨by omega,?_⟩
  rw [zY5 h0,Int.natAbs_mul,nL]
  rw [zJ] at h1
  omega
 ·have h0:s=l.length:=by have:=df c0; omega
  subst h0
  exact eU (by rw [List.take_of_length_le (by simp)]) (by omega)
theorem yE4 {M:Nat→Prop} {w:World} {n:Nat} {l:List Int} {v:Value} (h:ZL M w n l v):∃ ls:List (Bool × List Nat),(sl 2 (ls.map itx)).p M w [v]∧ls.map zx=l∧∀ a ∈ ls,(∀ x ∈ a.2,x < 4294967296)∧a.2.length≤n:=by
 obtain ⟨cs,h1,h2⟩:=h.row
 have h3:∀ i,i < l.length→∃ a:Bool × List Nat,zx a=l.getD i 0∧(∀ x ∈ a.2,x < 4294967296)∧a.2.length≤n∧∃ us:List Value,us.length=2∧(∀ (q:Nat) (u:Value),us[q]? = some u→cs[i * 2 + q]? = some u)∧(itx a).p M w us:=fun i hi=>by
  obtain ⟨us,g1,g2,s,a,rfl,g3⟩:=h2 i _ (List.getElem?_eq_getElem hi)
  obtain ⟨xs,k1,k2,k3⟩:=g3.ex
  exact ⟨(s,xs),by rw [List.getD_eq_getElem?_getD,List.getElem?_eq_getElem hi]; exact k3,k1.lt,k2,_,g1,g2,[.bool s],[a],rfl,⟨rfl,rfl⟩,[a],[],rfl,⟨a,rfl,k1⟩,rfl⟩
 let Y:Nat→Bool × List Nat:=fun i=>if h:i < l.length then Classical.choose (h3 i h) else (false,[])
 have hY:∀ i,i < l.length→zx (Y i)=l.getD i 0∧(∀ x ∈ (Y i).2,x < 4294967296)∧(Y i).2.length≤n∧∃ us:List Value,us.length=2∧(∀ (q:Nat) (u:Value),us[q]? = some u→cs[i * 2 + q]? = some u)∧(itx (Y i)).p M w us:=fun i hi=>by simp only [Y,dif_pos hi]; exact Classical.choose_spec (h3 i hi)
 refine ⟨(List.range l.length).map Y,?_,?_,fun a ha=>?_⟩
 ·refine cI (R:=fun M w a us=>(itx a).p M w us) (fun _=>rfl) (fun _ _ _ h=>h) ⟨cs,by simpa using h1,fun i a hi=>?_⟩
  obtain ⟨hlt,rfl⟩:=List.getElem?_eq_some_iff.1 hi
  have:=(hY i (by simpa using hlt)).2.2.2
  simpa using this
 ·apply List.ext_getElem (by simp)
  intro i h4 h5
  have:=(hY i h5).1
  simpa [List.getD_eq_getElem?_getD,List.getElem?_eq_getElem h5] using this
 ·obtain ⟨i,hi,rfl⟩:=List.mem_map.1 ha
  obtain ⟨_,g1,g2,_⟩:=hY i (List.mem_range.1 hi)
  exact ⟨g1,g2⟩
theorem vG {Ψ:PV} {n:Nat} {l:List Int} [h:VZL Ψ n l] (hn:n≤100000) (hl:l.length≤2):CTy prog 66 [Ψ] (ag (ztc (2 * n + 2) (jO l))) :=
 ⟨(bo func66),fun M w vs hM hT hv=>by
  obtain ⟨v,rfl,h1⟩:=fa1 hv
  obtain ⟨ls,k1,k2,k3⟩:=yE4 (h.h h1)
  subst k2
  exact (w5mul hn (by simpa using hl) k3).run M w _ hM hT ⟨_,_,rfl,k1,rfl⟩⟩
theorem yP0 {Ψ:PV} {n:Nat} {l:List Int} [h:VZL Ψ n l] (hn:n≤390000) (hl:l.length≤2):CTy prog 145 [Ψ] (ag (ztc (n + 2) l.sum)) :=
 yG (w5add hn hl) (fs1 (fun M w v hv=>cI (fun _=>rfl) (fun a us _ h=>h) (h.h hv).row) fs0)
theorem k5sub {Ψ Φ:PV} {n m:Nat} {y z:Int} [h:VZ Ψ n z] [h':VZ Φ m y] (hn:n≤380000) (hm:m≤380000):CTy prog 65 [Ψ,Φ] (ag (ztc (max n m + 2) (z - y))):=by
 refine yG (σs:=[ag (ztq n z),ag (ztq m y)]) ?_ (fs1 vz_q (fs1 vz_q fs0))
 refine fw [.cell 4 27] func65 fun X=>?_
 iterate 4 refine u ?_
 refine u fun b4=>?_
 iterate 2 refine u ?_
 refine zL 5 mixed rfl rfl ?_
 repeat refine u ?_
 refine d1 (oca rfl rfl fun _=>yO9 (by omega)) ?_
 repeat refine u ?_
 refine d1 (oca rfl rfl fun _=>yP0 (by omega) (by (simp; done))) ?_
 repeat refine u ?_
 refine e ?_
 exact eU (by simp; omega) (Nat.le_refl _)
end Go.Proofs.YtalkinejknjidaaGreatDoor
namespace Go.SL
open Go.RowKit
section
variable {P : Program} {r : Option Nat} {N : Nat} {ops : Array Oper} {S S' : List Ow} {X : Cx} {Γ : TE} {Kn Kr : TK} {Ke : Nat → TK} {rid : Nat} {o0 o1 : Ow} {D : List Deferred} {E : Env} {M : Nat → Prop} {w w' : World}
def TDX (P:Program) (r:Option Nat) (N:Nat) (ops:Array Oper) (S S':List Ow) (o0 o1:Ow) (F:TE→Prop):List Oper→List Nat→TE→Prop
 | [],_,Γ=>F Γ
 | o :: l,0 :: fl,Γ=>TD P r N ops S (fun Γ'=>TDX P r N ops S S' o0 o1 F l fl Γ') [o] Γ
 | o :: l,1 :: fl,Γ=>TD P r N ops S' (fun Γ'=>TDX P r N ops S S' o0 o1 F l fl Γ') [o] Γ
 | o :: l,_ :: fl,Γ=>o.dst=none∧CkV P r N ops S' o Γ o0 o1∧TDX P r N ops S S' o0 o1 F l fl Γ
 | _ :: _,[],_=>False
def yI1 (ops:Array Oper) (m i0:Nat) (fl:List Nat):Bool:=gK ops m && Nat.blt i0 m && Nat.beq fl.length m && (match ops[i0]? with | some o=>o.dst.isNone | none=>false) && (let an:=(fI ops.toList []).getD i0 []; fl.zipIdx.all fun (f,j)=>if Nat.beq j i0 then Nat.beq f 2 else (Nat.beq f 1 || (Nat.beq f 0 && an.contains j)))
def vpx (M:Nat→Prop) (q:Prop × PV):VP:=fun v w=>(q.1→q.2.p M w v)∧(¬ q.1→v=undef)
def RelX (M:Nat→Prop) (Γ0:List (Nat × VP)) (dr:TE):Prop:=∀ s,match Γ0.find? (fun p=>Nat.beq p.1 s) with
 | some p=>∃ q,tf dr s=some q∧p.2=vpx M q
 | none=>tf dr s=none
theorem rI {Γ0:List (Nat × VP)} {dr:TE} {body:Env→Prop} (hR:RelX M Γ0 dr) (hE:TM Γ M E w):∀ (ss:List Nat) (F:Env) (done:List Nat),Tm (dr ++ Γ) done M F w→(∀ F',Tm (dr ++ Γ) (ss ++ done) M F' w→body F')→Obl Γ0 E w body ss F
 | [],F,done,h,hb=>hb F (by simpa using h)
 | s :: ss,F,done,h,hb=>by
  have next:∀ v,(∀ q,tf (dr ++ Γ) s=some q→(q.1→q.2.p M w v)∧(¬ q.1→v=undef))→Obl Γ0 E w body ss ((s,v) :: F):=fun v hv=>by
   refine rI hR hE ss _ (s :: done) (fun i hi q hq=>?_) (fun F' hF=>hb F' fun i hi=>hF i (by simp only [List.mem_append,List.mem_cons] at hi ⊢; rcases hi with (h1 | h1) | h1 <;> simp [h1]))
   cases hbq:Nat.beq s i with
   | true =>
    obtain rfl:=Nat.eq_of_beq_eq_true hbq
    exact zV6 (gH (by simp)) (hv q hq)
   | false =>
    rcases List.mem_cons.1 hi with rfl | hi
    ·simp at hbq
    ·have:=h i hi q hq
     exact ⟨fun c=>by rw [bL hbq]; exact this.1 c,fun c=>by rw [bL hbq]; exact this.2 c⟩
  have hr:=hR s
  unfold Obl
  cases hf:Γ0.find? (fun p=>Nat.beq p.1 s) with
  | some p =>
   rw [hf] at hr
   obtain ⟨q,h1,h2⟩:=hr
   intro v hv
   refine next v fun Φ hΦ=>?_
   rw [uB,h1] at hΦ
   obtain rfl:=Option.some.inj hΦ
   rw [h2] at hv; exact hv
  | none =>
   rw [hf] at hr
   have hdr:∀ q,tf (dr ++ Γ) s=some q→tf Γ s=some q:=fun q hq=>by rw [uB,hr] at hq; exact hq
   cases hg:get E s with
   | some v =>
    refine next v fun Φ hΦ=>?_
    have h2:=hE s Φ (hdr Φ hΦ)
    refine ⟨fun c=>?_,fun c=>?_⟩
    ·obtain ⟨u,h3,h4⟩:=h2.1 c
     rw [hg] at h3; rw [Option.some.inj h3]; exact h4
    ·have h3:=h2.2 c
     rw [hg] at h3; exact Option.some.inj h3
   | none =>
    refine rI hR hE ss _ (s :: done) (fun i hi q hq=>?_) (fun F' hF=>hb F' fun i hi=>hF i (by simp only [List.mem_append,List.mem_cons] at hi ⊢; rcases hi with (h1 | h1) | h1 <;> simp [h1]))
    rcases List.mem_cons.1 hi with rfl | hi
    ·have h2:=hE _ q (hdr q hq)
     by_cases c:q.1
     ·obtain ⟨u,h3,_⟩:=h2.1 c; rw [hg] at h3; cases h3
     ·have:=h2.2 c; rw [hg] at this; cases this
    ·exact h i hi q hq
theorem mW {w0:World} {R R':World→World→Prop} {st:Option (Nat × (World→Prop) × (World→Prop))} {F H:List (Nat × VP)→Prop} (hF:∀ Γ,F Γ→H Γ):∀ (l:List Oper) (i:Nat) (Γ:List (Nat × VP)),DRs P r N ops D E w0 R R' st F l i Γ→DRs P r N ops D E w0 R R' st H l i Γ
 | [],_,Γ,h=>hF Γ h
 | _ :: l,i,_,⟨Ψ,h1,h2⟩=>⟨Ψ,h1,mW hF l (i + 1) _ h2⟩
theorem yJ8 {o:Option Nat} (h:Rb w w'):Gro w w' o:=⟨⟨h.os,h.tape.eq,h.output,h.size,fun k hk _=>h.block k hk⟩,h.tape.le⟩
theorem gro_tr {o:Option Nat} {a b c:World} (h:Gro a b o) (k:Gro b c o):Gro a c o:=⟨⟨k.os.trans h.os,k.tape.eq.trans h.tape.eq,k.output.trans h.output,Nat.le_trans h.size k.size,fun i hi hn=>(k.block i (Nat.lt_of_lt_of_le hi h.size) hn).trans (h.block i hi hn)⟩,Nat.le_trans h.le k.le⟩
theorem zT6 {o:Option Nat} (h:Gro w w' o) (hm:∀ b,o=some b→M b):Cl M w M w':=fun k cur t fz hk hw=>⟨hk,(h.block k (Array.getElem?_eq_some_iff.1 hw).1 fun e=>hk (hm k e.symm)).trans hw⟩
theorem wI (hT:TM Γ M E w) (hG:Gd M S w) (hS:∀ o ∈ S,o=o0 ∨ o ∈ S') (hS':∀ o ∈ S',o ∈ S) (hap:∀ o ∈ S',∀ b,o.bk=some b→o0.bk ≠ some b) (hm:∀ b,o0.bk=some b→M b) (i0:Nat) {F:TE→Prop}:∀ (l:List Oper) (fl:List Nat) (j:Nat) (dr:TE) (Γ0:List (Nat × VP)),okN N l=true →
  TDX P r N ops S S' o0 o1 F l fl (dr ++ Γ)→RelX M Γ0 dr→(∀ k f,fl[k]? = some f→if j + k=i0 then f=2 else f=1 ∨ (f=0∧j + k ∈ (ancs ops.toList).getD i0 [])) →
  DRs P r N ops D E w (fun a b=>Gro a b o0.bk) Rb (some (i0,fun x=>o0.ok M x,fun x=>o1.ok M x)) (fun Γ1=>∃ dr',RelX M Γ1 dr'∧(∀ s,s ∈ dr'.map (·.1)→s ∈ (l.filterMap (·.dst)) ++ dr.map (·.1))∧F (dr' ++ Γ)) l j Γ0
 | [],fl,j,dr,Γ0,_,h,hR,_=>⟨dr,hR,by simp,h⟩
 | o :: l,[],j,dr,Γ0,_,h,_,_=>h.elim
 | o :: l,f :: fl,j,dr,Γ0,hN,h,hR,hf=>by
  unfold okN at hN
  simp only [List.all_cons,Bool.and_eq_true] at hN
  have hx:∀ x,Gro w x o0.bk→TM Γ M E x∧Gd M S' x∧(o0.ok M x→Gd M S x):=fun x hr=>by
   have cl:=zT6 hr hm
   have hok:∀ b,M b→b < x.heap.size:=fun b hb=>Nat.lt_of_lt_of_le (hG.ok b hb) hr.size
   have hown:∀ q ∈ S',q.ok M x:=fun q hq=>Ow.ok_mono (hG.own q (hS' q hq)) cl fun b hb hlt=>hr.block b hlt fun e=>hap q hq b hb e.symm
   exact ⟨hT.mono cl,⟨hok,hG.tab.cl cl,hown⟩,fun h0=>⟨hok,hG.tab.cl cl,fun q hq=>(hS q hq).elim (fun e=>e ▸ h0) (hown q)⟩⟩
  have hf0:=hf 0 f rfl
  rw [Nat.add_zero] at hf0
  have hfl:∀ k g,fl[k]? = some g→if j + 1 + k=i0 then g=2 else g=1 ∨ (g=0∧j + 1 + k ∈ (ancs ops.toList).getD i0 []):=fun k g hk=>by
   have:=hf (k + 1) g (by simpa using hk)
   rwa [show j + (k + 1)=j + 1 + k by omega] at this
  -- one that looks
  have look:∀ (U:List Ow),(∀ x,Gro w x o0.bk→StI (some (i0,fun x=>o0.ok M x,fun x=>o1.ok M x)) (ancs ops.toList) j x→Gd M U x)→j ≠ i0→(∃ d q,o.dst=some d∧(∀ M,O2 P r N ops M U o (dr ++ Γ) q)∧TDX P r N ops S S' o0 o1 F l fl ((d,q) :: (dr ++ Γ))) →
    DRs P r N ops D E w (fun a b=>Gro a b o0.bk) Rb (some (i0,fun x=>o0.ok M x,fun x=>o1.ok M x)) (fun Γ1=>∃ dr',RelX M Γ1 dr'∧(∀ s,s ∈ dr'.map (·.1)→s ∈ ((o :: l).filterMap (·.dst)) ++ dr.map (·.1))∧F (dr' ++ Γ)) (o :: l) j Γ0:=fun U hU hj ⟨d,q,ho,h1,h2⟩=>by
   have hdN:Nat.blt d N=true:=by have:=hN.1; rw [ho] at this; exact this
   refine ⟨vpx M q,?_,?_⟩
   ·unfold yD9
    rw [ho]
    refine .inl ⟨fun k pre post e=>by obtain ⟨rfl,_⟩:=Prod.mk.inj (Option.some.inj e); exact hj,fun v a b hv hr=>⟨fun c=>q.2.mono (hv.1 c) (zT6 hr hm),hv.2⟩,fun x hr hst=>?_⟩
    refine rI hR (hx x hr).1 _ [] [] (fun i hi=>by simp at hi) fun F' hF'=>?_
    intro a Q ha hD hk
    exact h1 M D F' x d ho hdN (hU x hr hst) (by simpa using hF') a Q ha hD fun a' w' E' g1 ⟨g2,g3,v,g4,g5⟩=>hk a' w' E' g1 ⟨g2,g3,v,g4,g5⟩
   ·unfold gam1
    rw [ho]
    have h3:=wI hT hG hS hS' hap hm i0 l fl (j + 1) ((d,q) :: dr) ((d,vpx M q) :: Γ0) hN.2 h2 (fun s=>by
     rw [List.find?_cons]
     show match (match Nat.beq d s with | true=>some (d,vpx M q) | false=>Γ0.find? fun p=>Nat.beq p.1 s) with | some p=>∃ q',(bif Nat.beq d s then some q else tf dr s)=some q'∧p.2=vpx M q' | none=>(bif Nat.beq d s then some q else tf dr s)=none
     cases hb:Nat.beq d s with
     | true=>exact ⟨q,rfl,rfl⟩
     | false=>exact hR s) hfl
    refine mW (fun Γ1 ⟨dr',g1,g2,g3⟩=>⟨dr',g1,fun s hs=>?_,g3⟩) _ _ _ h3
    have:=g2 s hs
    simp only [List.mem_append,List.filterMap_cons,ho,List.mem_cons,List.map_cons] at this ⊢
    rcases this with c | c | c
    ·exact .inl (.inr c)
    ·exact .inl (.inl c)
    ·exact .inr c
  match f,h,hf0 with
  | 0,h,hf0 =>
   have hj:j ≠ i0:=fun e=>by rw [if_pos e] at hf0; cases hf0
   rw [if_neg hj] at hf0
   exact look S (fun x hr hst=>(hx x hr).2.2 (hst.2 (hf0.elim (fun c=>by cases c) (·.2)))) hj h
  | 1,h,hf0 =>
   have hj:j ≠ i0:=fun e=>by rw [if_pos e] at hf0; cases hf0
   exact look S' (fun x hr _=>(hx x hr).2.1) hj h
  | f + 2,⟨ho,h1,h2⟩,hf0 =>
   have hj:j=i0:=Decidable.byContradiction fun e=>by rw [if_neg e] at hf0; omega
   subst hj
   refine ⟨fun _ _=>True,?_,?_⟩
   ·unfold yD9
    rw [ho]
    refine ⟨_,_,rfl,fun x hr hp=>?_⟩
    obtain ⟨k1,k2,k3⟩:=hx x hr
    refine rI hR k1 _ [] [] (fun i hi=>by simp at hi) fun F' hF'=>?_
    intro a Q ha hD hk
    exact h1.2 M D F' x k2 (by simpa using hF') hp hm a Q ha hD fun a' w' E' g1 ⟨g2,g3,g4⟩=>hk a' w' E' g1 ⟨g2,g3,g4⟩
   ·unfold gam1
    rw [ho]
    have h3:=wI hT hG hS hS' hap hm j l fl (j + 1) dr Γ0 hN.2 h2 hR hfl
    refine mW (fun Γ1 ⟨dr',g1,g2,g3⟩=>⟨dr',g1,fun s hs=>?_,g3⟩) _ _ _ h3
    have:=g2 s hs
    simp only [List.mem_append,List.filterMap_cons,ho] at this ⊢
    exact this
theorem t_drawX (m i i0:Nat) (fl:List Nat) (hi:S[i]? = some o0) (hb:o1.bk=o0.bk) (hm:P.follows .mixedOrders=true) (hlook:yI1 ops m i0 fl=true) (hN:okN N ops.toList=true)
  (h:TDX P r N ops S (S.eraseIdx i) o0 o1 (fun Γ'=>TO P r N ops X Kn (ops.toList.drop m) Γ' (S.set i o1)) (ops.toList.take m) fl Γ):TW P r N X (.region rid ops true) Kn Ke Kr Γ S:=fun D E w hs=>by
 unfold yI1 at hlook
 simp only [Bool.and_eq_true] at hlook
 obtain ⟨⟨⟨⟨l1,l2⟩,l3⟩,l4⟩,l5⟩:=hlook
 have hN1:okN N (ops.toList.take m)=true:=List.all_eq_true.2 fun o ho=>List.all_eq_true.1 hN o (List.mem_of_mem_take ho)
 have hN2:okN N (ops.toList.drop m)=true:=List.all_eq_true.2 fun o ho=>List.all_eq_true.1 hN o (List.mem_of_mem_drop ho)
 have hm':o0 ∈ S:=List.mem_of_getElem? hi
 have hback:∀ p,p ∈ S→p=o0 ∨ p ∈ S.eraseIdx i:=fun p ho=>by
  obtain ⟨j,hj⟩:=List.mem_iff_getElem?.1 ho
  by_cases e:j=i
  ·subst e; rw [hi] at hj; exact .inl (Option.some.inj hj).symm
  ·exact .inr (List.mem_eraseIdx_iff_getElem?.2 ⟨j,e,hj⟩)
 have hne:∀ o ∈ S.eraseIdx i,∀ b,o.bk=some b→o0.bk ≠ some b:=fun p hp b hb' e=>by
  obtain ⟨j,hj,hp⟩:=cW hp
  exact fH hs.apt hi hp (fun c=>hj c.symm) e hb'
 have hM:∀ b,o0.bk=some b→Mk S X.M b:=fun b e => .inl ⟨o0,hm',e⟩
 have heq:∀ j,((fI ops.toList []).getD i0 []).contains j=true→j ∈ (ancs ops.toList).getD i0 []:=fun j hj=>(zK2 ops.toList [] [] rfl (fun _ _=>Iff.rfl) i0 j).2 (List.contains_iff_mem.1 hj)
 have h1:=wI (D:=X.ms ++ D) hs.tm hs.gd hback (fun o ho=>(List.eraseIdx_sublist S i).subset ho) hne hM i0 (ops.toList.take m) fl 0 [] [] hN1 h (fun s=>rfl) (fun k f hk=>by
  rw [List.all_eq_true] at l5
  have:=l5 (f,k) (by rw [List.mem_zipIdx_iff_getElem?]; exact hk)
  rw [Nat.zero_add]
  by_cases e:k=i0
  ·rw [if_pos e]; subst e
   simp only [Nat.beq_refl,if_true] at this
   exact Nat.eq_of_beq_eq_true this
  ·rw [if_neg e]
   have hb:Nat.beq k i0=false:=by cases hc:Nat.beq k i0 with | true=>exact absurd (Nat.eq_of_beq_eq_true hc) e | false=>rfl
   simp only [hb,Bool.false_eq_true,if_false,Bool.or_eq_true,Bool.and_eq_true] at this
   exact this.imp Nat.eq_of_beq_eq_true fun c=>⟨Nat.eq_of_beq_eq_true c.1,heq k c.2⟩)
 refine lJ (R:=fun a b=>Gro a b o0.bk) (R':=Rb) (st:=some (i0,fun x=>o0.ok (Mk S X.M) x,fun x=>o1.ok (Mk S X.M) x)) hm m ((ops.toList.take m).filterMap (·.dst) ++ Γ.map (·.1)) (oO l1) (fun _ _ _ a b=>gro_tr a b) (fun _ _ a=>yJ8 a) (yJ8 (lU _)) (fun k pre post e=>?_) ?_
 ·obtain ⟨rfl,e2⟩:=Prod.mk.inj (Option.some.inj e)
  obtain ⟨rfl,rfl⟩:=Prod.mk.inj e2
  have mono:∀ (o:Ow) (a b:World),o.ok (Mk S X.M) a→Rb a b→o.ok (Mk S X.M) b:=fun o a b ha r=>Ow.ok_mono ha (Cl.bel r) fun c _ hlt=>r.block c hlt
  refine ⟨by simpa using l2,mono _ _ _ (hs.gd.own _ hm') (lU _),fun a b=>mono _ a b,fun a b=>mono _ a b,?_⟩
  cases ho:ops[i0]? with
  | some o=>exact ⟨o,rfl⟩
  | none=>rw [ho] at l4; cases l4
 refine mW (fun Γ1 ⟨dr',hR,hkeys,hF⟩=>?_) _ _ _ h1
 intro x hr hpo
 have hpost:o1.ok (Mk S X.M) x:=hpo _ _ _ rfl
 have cl:=zT6 hr hM
 refine rI hR (hs.tm.mono cl) _ [] [] (fun i hi=>by simp at hi) fun F' hF'=>?_
 have hmk:Mk (S.set i o1) X.M=Mk S X.M:=funext fun c=>propext ⟨fun h=>h.imp (fun ⟨q,hq,e⟩=>by
  rcases List.mem_or_eq_of_mem_set hq with hq | rfl
  ·exact ⟨q,hq,e⟩
  ·exact ⟨_,hm',hb ▸ e⟩) id,fun h=>h.imp (fun ⟨q,hq,e⟩=>by
  obtain ⟨k,hk⟩:=List.mem_iff_getElem?.1 hq
  by_cases c:i=k
  ·subst c
   obtain rfl:=Option.some.inj (hk.symm.trans hi)
   exact ⟨o1,List.mem_of_getElem? (List.getElem?_set_self (List.getElem?_eq_some_iff.1 hi).1),hb.trans e⟩
  ·exact ⟨q,List.mem_of_getElem? (by rw [List.getElem?_set_ne c]; exact hk),e⟩) id⟩
 have hbz:∀ b,o0.bk=some b→X.w.heap.size≤b ∨ X.z b:=fun b e=>hs.new _ hm' b e
 have hown:∀ q ∈ S.set i o1,q.ok (Mk S X.M) x:=fun q hq=>by
  obtain ⟨k,hk⟩:=List.mem_iff_getElem?.1 hq
  by_cases c:i=k
  ·subst c
   rw [List.getElem?_set_self (List.getElem?_eq_some_iff.1 hi).1] at hk
   rw [← Option.some.inj hk]; exact hpost
  ·rw [List.getElem?_set_ne c] at hk
   exact Ow.ok_mono (hs.gd.own q (List.mem_of_getElem? hk)) cl fun b hb' hlt=>hr.block b hlt fun e=>hne q (List.mem_eraseIdx_iff_getElem?.2 ⟨k,fun e=>c e.symm,hk⟩) b hb' e.symm
 refine hF hN2 D F' x ⟨⟨hr.os.trans hs.bel.os,hr.tape.trans hs.bel.tape,hr.output.trans hs.bel.output,Nat.le_trans hs.bel.size hr.size,fun b hb' hz=>?_⟩,⟨?_,?_,?_⟩,fun q hq b e=>?_,nJ hs.apt hi (fun b' e => .inl (hb ▸ e)),hs.ok0,hs.zm,hs.mko.nc (.but (z:=fun b=>o0.bk=some b) (fun b hb' k=>hr.block b hb' fun e=>k e.symm) fun b e=>qV (hs.gd.own _ hm') b e),?_⟩
 ·exact (hr.block b (Nat.lt_of_lt_of_le hb' hs.bel.size) fun e=>(hbz b e.symm).elim (fun c=>by omega) hz).trans (hs.bel.block b hb' hz)
 ·rw [hmk]; exact fun b hb'=>Nat.lt_of_lt_of_le (hs.gd.ok b hb') hr.size
 ·rw [hmk]; exact hs.gd.tab.cl cl
 ·rw [hmk]; exact hown
 ·rcases List.mem_or_eq_of_mem_set hq with hq | rfl
  ·exact hs.new q hq b e
  ·exact hbz b (hb ▸ e)
 ·rw [hmk]
  intro s q hq
  have h3:tf (dr' ++ Γ) s=some q:=hq
  refine hF' s ?_ q h3
  rw [uB] at h3
  simp only [List.append_nil,List.mem_append]
  cases h4:tf dr' s with
  | some Φ =>
   have:=hkeys s (eN h4)
   simp only [List.map_nil,List.append_nil] at this
   exact .inl this
  | none=>rw [h4] at h3; exact .inr (eN h3)
variable {F : TE → Prop} {p q qx qy : Prop} {Ψ Ψx Ψy : PV} {d : Nat} {x y : Operand} {t t' : TypeId} {pos : String} {af : Array Edge} {l l' : List Oper} {fl : List Nat} {sz : Nat} {cs cs' : List CT} {c : CT} {op : Op} {A : Prop} {b : Nat} {ty : TypeId} {m : Nat} {o : Oper}
theorem tdx0 (h:TD P r N ops S (fun Γ'=>TDX P r N ops S S' o0 o1 F l fl Γ') [o] Γ):TDX P r N ops S S' o0 o1 F (o :: l) (0 :: fl) Γ:=h
theorem tdx1 (h:TD P r N ops S' (fun Γ'=>TDX P r N ops S S' o0 o1 F l fl Γ') [o] Γ):TDX P r N ops S S' o0 o1 F (o :: l) (1 :: fl) Γ:=h
theorem ckvu {o:Nat} {a:Bool} (hx:tv Γ x=some (qx,exP (.pointer (some ⟨b,o,none⟩)))) (hy:tv Γ y=some (qy,Ψy)) [hqx:Tr qx] [hqy:Tr qy] [hc:CtOf Ψy c] [ht:TLd P t a sz] [hs:SzC c sz] [up:UpC cs o c sz cs']:CkV P r N ops S ⟨none,.store t x y,t',pos,af,none⟩ Γ (.blk b ty cs) (.blk b ty cs'):=⟨rfl,fun M D E w hg hT hok hm=>by
 obtain ⟨u,e1,h1⟩:=jJ (p:=True) hT hx trivial (by simp [Op.operands])
 obtain rfl:u = .pointer (some ⟨b,o,none⟩):=h1
 obtain ⟨v,e2,h2⟩:=jJ (p:=True) hT hy trivial (by simp [Op.operands])
 obtain ⟨us,k1,k2⟩:=hc.h h2
 obtain ⟨vs,k3,k4⟩:=hok
 obtain ⟨A,B1,B2,rfl,f2,f4,rfl⟩:=up.h
 obtain ⟨va,vb,rfl,g1,g2⟩:=qG k4
 obtain ⟨vc,vd,rfl,g3,g4⟩:=qG g2
 have hl1:=qH g1
 have hl3:=qH g3
 have hl:=c.len k2
 have hsz:=hs.h
 obtain ⟨bytes,z,hz⟩:=ht.s
 refine qK e1 e2 hz k3 (by rw [k1]; simp; omega) (by simp; omega) (by rw [k1]; exact fun u hu=>c.one k2 u (by simpa using hu)) fun w' hch hB'=>?_
 have cl:Cl M w M w':=fun k cur t fz hk hw=>⟨hk,(hch.other k fun e=>hk (e ▸ hm b rfl)).trans hw⟩
 have e3:(va ++ (vc ++ vd)).take o=va:=by rw [← f2,← hl1,List.take_left]
 have e4:(va ++ (vc ++ vd)).drop (o + sz)=vd:=by rw [← f4,← hl3,← f2,← hl1,← List.drop_drop,List.drop_left,List.drop_left]
 rw [k1,e3,e4,List.append_assoc] at hB'
 exact zF ⟨rfl,⟨⟨hch.os,hch.tape.eq,hch.output,Nat.le_of_eq hch.size.symm,fun k _ hk=>hch.other k fun e=>hk (e ▸ rfl)⟩,hch.tape.le⟩,_,hB',jA (bR g1 ⟨us,vd,rfl,k2,g4⟩) cl⟩⟩
theorem ckvt {o:Nat} {a:Bool} {A B B1 B2:List CT} (hx:tv Γ x=some (qx,exP (.pointer (some ⟨b,o,none⟩)))) (hy:tv Γ y=some (qy,Ψy)) [hqx:Tr qx] [hqy:Tr qy] [hc:CtOf Ψy c] [ht:TLd P t a sz] (hs:Nat.beq c.sz sz=true) (hA:cutT cs o=some (A,B)) (hB:cutT B c.sz=some (B1,B2)) (he:A ++ c :: B2=cs'):CkV P r N ops S ⟨none,.store t x y,t',pos,af,none⟩ Γ (.blk b ty cs) (.blk b ty cs'):=by
 subst he
 obtain ⟨rfl,f2⟩:=dA hA
 obtain ⟨rfl,f4⟩:=dA hB
 haveI:SzC c sz:=⟨Nat.eq_of_beq_eq_true hs⟩
 haveI:UpC (A ++ (B1 ++ B2)) o c sz (A ++ c :: B2):=⟨A,B1,B2,rfl,f2,f4.trans (Nat.eq_of_beq_eq_true hs),rfl⟩
 exact ckvu hx hy
theorem tdx2 (ho:o.dst=none) (h1:CkV P r N ops S' o Γ o0 o1) (h:TDX P r N ops S S' o0 o1 F l fl Γ):TDX P r N ops S S' o0 o1 F (o :: l) (2 :: fl) Γ:=⟨ho,h1,h⟩
theorem lN (m i i0:Nat) (fl:List Nat) (cs':List CT) (hi:S[i]? = some (.blk b ty cs)) (hm:P.follows .mixedOrders=true) (hlook:yI1 ops m i0 fl=true) (hN:okN N ops.toList=true)
  (h:TDX P r N ops S (S.eraseIdx i) (.blk b ty cs) (.blk b ty cs') (fun Γ'=>TO P r N ops X Kn (ops.toList.drop m) Γ' (S.set i (.blk b ty cs'))) (ops.toList.take m) fl Γ):TW P r N X (.region rid ops true) Kn Ke Kr Γ S:=t_drawX (o1:=.blk b ty cs') m i i0 fl hi rfl hm hlook hN h
instance:Au (TDX P r N ops S S' o0 o1 F [] fl Γ) True (F Γ):=⟨fun _ h=>by unfold TDX; exact h⟩
instance [h:Tk l m l']:Au (TDX P r N ops S S' o0 o1 F (l.take m) fl Γ) True (TDX P r N ops S S' o0 o1 F l' fl Γ):=⟨fun _ k=>by rw [h.h]; exact k⟩
instance [h:OB P r N ops S True op t' Γ Ψ A]:Au (TDX P r N ops S S' o0 o1 F (⟨some d,op,t',pos,af,none⟩ :: l) (0 :: fl) Γ) A (TDX P r N ops S S' o0 o1 F l fl ((d,True,Ψ) :: Γ)):=⟨fun a k=>tdx0 (d1 (h.h a) k)⟩
instance [h:OB P r N ops S' True op t' Γ Ψ A]:Au (TDX P r N ops S S' o0 o1 F (⟨some d,op,t',pos,af,none⟩ :: l) (1 :: fl) Γ) A (TDX P r N ops S S' o0 o1 F l fl ((d,True,Ψ) :: Γ)):=⟨fun a k=>tdx1 (d1 (h.h a) k)⟩
variable {Si Sr S1 : List Ow} {K : TK} {ρ Ψf : PV} {xs : List Operand} {ts : Array TypeId} {τs ca : List PV} {f : FuncId}
theorem tcoR (is:List Nat) (hp:kF S 0 is=(Si,Sr)) (hf:tv Γ x=some (qx,Ψf)) (hx:tvs Γ xs=some (q,τs)) [hqx:Tr qx] [hq:Tr q] [hv:VF Ψf f ca] (hk:CTo P f (τs ++ ca) Si (fun r So=>r=ρ∧So=S1))
  (h:TO P r N ops X K l ((d,True,ρ) :: Γ) (S1 ++ Sr)):TO P r N ops X K (⟨some d,.call ⟨.value x,xs.toArray,ts⟩,t',pos,af,none⟩ :: l) Γ S:=tco is hp hf hx hk fun _ _ ⟨e1,e2⟩=>by subst e1 e2; exact h
theorem tcoB (is:List Nat) (hp:kF S 0 is=(Si,Sr)) (hf:tv Γ x=some (qx,Ψf)) (hx:tvs Γ xs=some (q,τs)) [hqx:Tr qx] [hq:Tr q] [hv:VF Ψf f ca] (hk:CTo P f (τs ++ ca) Si (fun r So=>∃ b,r=exP (.pointer (some ⟨b,0,none⟩))∧So=[.blk b ty cs]))
  (h:∀ b,TO P r N ops X K l ((d,True,exP (.pointer (some ⟨b,0,none⟩))) :: Γ) (.blk b ty cs :: Sr)):TO P r N ops X K (⟨some d,.call ⟨.value x,xs.toArray,ts⟩,t',pos,af,none⟩ :: l) Γ S:=tco is hp hf hx hk fun _ _ ⟨b,e1,e2⟩=>by subst e1 e2; exact h b
end
end Go.SL
set_option maxHeartbeats 4000000
namespace Go.SL
open Go.RowKit
section arr
variable {P : Program} {r : Option Nat} {N : Nat} {all : Array Oper} {K : Pd} {D : List Deferred} {E : Env} {w : World} {rest : List Oper}
theorem ops_idxarr {d len sz bytes b o:Nat} {x ix:Operand} {t e t':TypeId} {pos:String} {af:Array Edge} {z:Value} {k:IntKind} {i:Int} (j:Nat) (hd:Nat.blt d N=true) (ht:P.underlying t=some (.array len e)) (he:Sz P e sz bytes z)
  (hx:ev E x=some (.pointer (some ⟨b,o,none⟩))) (hi:ev E ix=some (.int k i)) (hij:i=(j:Int)) (hj:j < len) (h:Ops P r N all K rest D ((d,.pointer (some ⟨b,o + j * sz,none⟩)) :: E) w) :
  Ops P r N all K (⟨some d,.indexAddr t x ix,t',pos,af,none⟩ :: rest) D E w:=by
 refine zZ hd (by intro c hc; cases hc) (fun a ha=>?_) h
 have e1:(Instr.indexAt t (.pointer (some ⟨b,o,none⟩)) (.int k i)).run P w = .ok (.pointer (some ⟨b,o + j * sz,none⟩)) w:=by
  subst hij
  simp [Instr.indexAt,Instr.sureAddr,asIntOf,run_underlying ht,Result.andThen,jN he,hj,jE]
 simp only [execOp,ha.ev hx,ha.ev hi,Sem.run_bind,e1,Result.andThen]; rfl
theorem ops_builda {d len sz bytes bytes':Nat} {t e t':TypeId} {pos:String} {af:Array Edge} {z z':Value} {parts:Array (Nat × Operand)} {vs:List Value} {cs:List (List Value)} (hd:Nat.blt d N=true)
  (ht:P.underlying t=some (.array len e)) (hz:Sz P t (len * sz) bytes' z') (hzz:z'.cells.size=len * sz) (he:Sz P e sz bytes z) (hi:parts.toList.map (·.1)=List.range len) (hx:evs E (parts.toList.map (·.2))=some vs) (hc:Cls vs cs) (hsz:∀ c ∈ cs,c.length=sz)
  (h:Ops P r N all K rest D ((d,.agg cs.flatten.toArray) :: E) w):Ops P r N all K (⟨some d,.build t parts,t',pos,af,none⟩ :: rest) D E w:=by
 refine zZ hd (by intro c hc; cases hc) (fun a ha=>?_) h
 have hlen:∀ (vs:List Value) (cs:List (List Value)),Cls vs cs→vs.length=cs.length:=by
  intro vs
  induction vs with
  | nil=>intro cs h; cases cs with
   | nil=>rfl
   | cons=>exact h.elim
  | cons v vs ih=>intro cs h; cases cs with
   | nil=>exact h.elim
   | cons c cs=>simp [ih cs h.2]
 have hvl:vs.length=len:=by
  have:=congrArg List.length (ha.evs hx)
  have h2:=congrArg List.length hi
  simp at this h2; omega
 have hparts:parts.toList.map (fun x=>(x.1,a.eval x.2))=vs.zipIdx.map fun x=>(x.2,x.1):=by
  have h3:=ha.evs hx
  apply List.ext_getElem
  ·have h2:=congrArg List.length hi; simp at h2; simp; omega
  ·intro n hn1 hn2
   simp at hn1 hn2
   have e1:(parts.toList.map (·.1))[n]'(by simpa using hn1)=n:=by simp [hi]
   have e2:((parts.toList.map (·.2)).map a.eval)[n]'(by simpa using hn1)=vs[n]'(by omega):=by simp [h3]
   simp at e1 e2
   simp [e1,e2]
 obtain ⟨q,q1,q2,q3,q4⟩:=he
 obtain ⟨q',p1,p2,p3,p4⟩:=hz
 have hf:=sE (pl:=fun i=>some (i * sz,sz)) (sz:=sz) (fun _=>rfl) vs cs [] z'.cells.toList 0 hc hsz (by simp) (by rw [← hlen _ _ hc,hvl]; simpa using hzz)
 simp only [List.nil_append,Array.toArray_toList] at hf
 have e1:(Instr.build t (parts.map fun (i,x)=>(i,a.eval x))).run P w = .ok (.agg cs.flatten.toArray) w:=by
  refine run_build (P:=P) w t _ _ ?_
  unfold Program.built
  rw [p1,ht]
  simp only [p4,q1,q2]
  rw [Array.toList_map,show (List.map (fun (x:Nat × Operand)=>match x with | (i,x)=>(i,a.eval x)) parts.toList)=vs.zipIdx.map fun x=>(x.2,x.1) from hparts]
  exact hf
 simp only [execOp,Sem.run_bind,e1,Result.andThen]; rfl
end arr
class TAr (P:Program) (t:TypeId) (len sz:outParam Nat):Prop where
 h:∃ e z z' bytes bytes',P.underlying t=some (.array len e)∧Sz P e sz bytes z∧Sz P t (len * sz) bytes' z'∧z'.cells.size=len * sz
theorem oia {P:Program} {r:Option Nat} {N:Nat} {Γ:TE} {S:List Ow} {ops:Array Oper} {M:Nat→Prop} {p qx qi:Prop} {Ψi:PV} {d len sz:Nat} {x ix:Operand} {t t':TypeId} {pos:String} {af:Array Edge} {l:List CT} {c:CT} {ki:IntKind} {i:Int} (j:Nat) (hx:tv Γ x=some (qx,pa (st l))) (hi:tv Γ ix=some (qi,Ψi)) [Im p qx] [Im p qi]
  [ht:TAr P t len sz] [hki:VI Ψi ki i] (hij:i=(j:Int)) (hj:Nat.blt j len=true) (ha:nH l (j * sz)=some c):Ob P r N ops M S p ⟨some d,.indexAddr t x ix,t',pos,af,none⟩ Γ (pa c) :=
 ob2 hx hi (by simp [Op.operands]) (by simp [Op.operands]) fun D E w u v hN hg e1 e2 ⟨b,o,us,e,h1,h2,h3⟩ h4=>by
  subst e
  obtain ⟨el,z,z',bytes,bytes',k1,k2,k3,k4⟩:=ht.h
  rw [hki.h h4] at e2
  exact ops_idxarr j hN k1 k2 e1 e2 hij (by simpa [Nat.blt_eq] using hj) (fin ⟨b,o + j * sz,_,rfl,h1,h2.sub (j * sz) c.sz,uA h3 ha⟩)
theorem oba {P:Program} {r:Option Nat} {N:Nat} {Γ:TE} {S:List Ow} {ops:Array Oper} {M:Nat→Prop} {p q:Prop} {d len sz:Nat} {t t':TypeId} {pos:String} {af:Array Edge} {parts:List (Nat × Operand)} {τs:List PV} {cs:List CT} (hx:tvs Γ (parts.map (·.2))=some (q,τs)) [hi:Im p q] [ht:TAr P t len sz] [hc:CtL τs cs]
  (hp:parts.map (·.1)=List.range len) (hs:(cs.all fun c=>Nat.beq c.sz sz)=true):Ob P r N ops M S p ⟨some d,.build t parts.toArray,t',pos,af,none⟩ Γ (ag (st cs)):=fun D E w d' hd hN hg hp' hT=>by
 obtain rfl:=Option.some.inj hd
 obtain ⟨vs,e1,h1⟩:=uQ hT hx (hi.h hp') fun x hx=>qZ (by simpa [Op.operands] using hx)
 obtain ⟨uss,g1,g2,g3⟩:=hc.h h1
 obtain ⟨el,z,z',bytes,bytes',k1,k2,k3,k4⟩:=ht.h
 refine ops_builda hN k1 k3 k4 k2 (by simpa using hp) (by simpa using e1) g1 (fun c hc=>?_) (fin ⟨_,rfl,g2⟩)
 have:c.length ∈ uss.map List.length:=List.mem_map_of_mem hc
 rw [g3] at this
 obtain ⟨c',h5,h6⟩:=List.mem_map.1 this
 rw [← h6]; exact Nat.eq_of_beq_eq_true (List.all_eq_true.1 hs c' h5)
end Go.SL
set_option maxHeartbeats 4000000
namespace Go.Proofs.YtalkinejknjidaaGreatDoor
open Go.SL Go.RowKit Go.Proofs Tryz
theorem pD {α:Type} [Df α] {l:List α} {s:Nat} (h:s < l.length):l.getD s Df.d ∈ l:=by rw [List.getD_eq_getElem?_getD,List.getElem?_eq_getElem h]; exact List.getElem_mem h
instance {a:Option Addr}:CtOf (exP (.pointer a)) (xc (.pointer a)):=⟨fun h=>⟨[_],by rw [h]; rfl,rfl,rfl⟩⟩
def pk (ty:TypeId) (c:CT):PV:=⟨fun M w v=>∃ b us,v = .pointer (some ⟨b,0,none⟩)∧KBlk M w b ty us∧c.p M w us,fun ⟨b,us,e,h,k⟩ l=>let g:=l b _ _ _ h.not h.blk; ⟨b,us,e,⟨g.2,g.1⟩,c.mono k l⟩⟩
theorem zM9 {ty:TypeId} {c:CT}:PSub (pk ty c) (pa (st [c])):=fun M w v ⟨b,x,e,h,k⟩=>⟨b,0,x,e,h.not,⟨x.toArray,ty,(0,0),h.blk,fun j v hj=>by simpa using hj⟩,x,[],(List.append_nil x).symm,k,rfl⟩
theorem aC {P:Program} {f:FuncId} {τs:List PV} {ρ σ:PV} (h:CTy P f τs ρ) (k:PSub ρ σ):CTy P f τs σ:=⟨h.bod,fun M w vs a b c=>(h.run M w vs a b c).mono fun r w' ⟨hB,g⟩=>⟨hB,k _ _ _ g⟩⟩
theorem yK6 {P:Program} {f:FuncId} {τs:List PV} {ty:TypeId} {c:CT} (h:CTo P f τs [] (fun r So=>∃ b,r=exP (.pointer (some ⟨b,0,none⟩))∧So=[.blk b ty [c]])):CTy P f τs (pk ty c) :=
 ⟨h.bod,fun M w vs hM hT hv=>by
  have e:Mk [] M=M:=by funext k; simp [Mk]
  refine (h.run M w vs ⟨by rw [e]; exact hM,by rw [e]; exact hT,fun _ h=>by simp at h⟩ trivial (fun b ⟨o,h,_⟩=>by simp at h) hM (by rw [e]; exact hv)).mono fun v w' ⟨hb,ρ,So,⟨b,e1,e2⟩,hg,_,hn,hρ⟩=>⟨⟨hb.os,hb.tape,hb.output,hb.size,fun k hk=>hb.block k hk fun ⟨o,h,_⟩=>by simp at h⟩,?_⟩
  subst e1 e2
  obtain ⟨us,g1,x,y,rfl,g2,g3⟩:=hg.own _ (List.mem_singleton.2 rfl)
  obtain rfl:y=[]:=g3
  rw [List.append_nil] at g1
  have hb':w.heap.size≤b:=(hn b ⟨_,List.mem_singleton.2 rfl,rfl⟩).elim id fun ⟨o,h,_⟩=>by simp at h
  exact ⟨b,x,hρ,⟨g1,fun c=>by have:=hM b c; omega⟩,c.mono g2 (Cl.less fun k hk => .inr hk)⟩⟩
theorem ctoW {P:Program} {f:FuncId} {τs σs:List PV} {Si:List Ow} {Q:PV→List Ow→Prop} (h:CTo P f σs Si Q) (k:Fsub τs σs):CTo P f τs Si Q:=⟨h.bod,fun M w vs a b c d e=>h.run M w vs a b c d (k _ _ _ e)⟩
theorem zU3 {n:Nat} {z:Int} {M:Nat→Prop} {w:World} {us:List Value} (h:stp [ztc n z] M w us):stp [xc (.bool (decide (z < 0))),ntx (limbs z.natAbs)] M w us:=by
 obtain ⟨x,y,rfl,⟨s,a,rfl,g⟩,h2⟩:=h
 obtain rfl:y=[]:=h2
 exact ⟨[.bool s],[a],rfl,⟨by rw [g.sgn],rfl⟩,[a],[],rfl,⟨a,rfl,g.num⟩,rfl⟩
theorem z_join {N k:Nat} {z:Int} {s:Bool} {M:Nat→Prop} {w:World} {us:List Value} (h1:s=decide (z < 0)) (h2:k=z.natAbs) (h3:(limbs k).length≤N) (h:stp [xc (.bool s),ntx (limbs k)] M w us):stp [ztc N z] M w us:=by
 subst h2
 obtain ⟨x,y,rfl,k1,u,o,e2,⟨a,k2,k3⟩,e3⟩:=h
 obtain ⟨rfl,_⟩:=k1
 obtain rfl:o=[]:=e3
 subst k2
 exact ⟨[.bool s,a],[],by rw [e2]; rfl,⟨s,a,rfl,h1,k3,h3⟩,rfl⟩
theorem zw_neg {s:Bool} {xs:List Nat}:(s && decide (((0:Nat):Int) < (((limbs (val xs)).length:Nat):Int)))=decide (zv s xs < 0):=by
 have h0:=@zM (val xs)
 unfold zv
 cases s with
 | false=>simp <;> omega
 | true =>
  simp only [Bool.true_and,if_true]
  rw [decide_eq_decide]
  omega
theorem yE2 {s:Bool} {xs:List Nat}:val xs=(zv s xs).natAbs:=by unfold zv; split <;> omega
theorem zS5 {c c':CT} (h:∀ M w us,c.p M w us→c'.p M w us):PSub (pa c) (pa c'):=fun M w v ⟨b,o,us,e,h1,h2,h3⟩=>⟨b,o,us,e,h1,h2,h _ _ _ h3⟩
theorem oT {l:List CT} {M:Nat→Prop} {w:World} {us:List Value} (h:stp [st l] M w us):stp l M w us:=by
 obtain ⟨x,y,e,g,h2⟩:=h
 obtain rfl:y=[]:=h2
 rw [e,List.append_nil]; exact g
theorem yM1 {l:List CT} {M:Nat→Prop} {w:World} {us:List Value} (h:stp l M w us):stp [st l] M w us:=⟨us,[],(List.append_nil us).symm,h,rfl⟩
theorem onrm {b N:Nat} {s:Bool} {xs:List Nat} {z:Int} (hl:xs.length≤1000000000) (hN:(limbs z.natAbs).length≤N) (hz:zv s xs=z) :
  CTo prog 289 [exP (.pointer (some ⟨b,0,none⟩))] [.blk b 240 [xc (.bool s),ntx xs]] (fun r So=>r=exP (.pointer (some ⟨b,0,none⟩))∧So=[.blk b 240 [ztc N z]]):=by
 subst hz
 refine fwo [.tmp 2] func289 fun X=>?_
 repeat refine u ?_
 refine zA1 (oca rfl rfl fun _=>iM (by omega)) ?_
 repeat refine u ?_
 refine zA1 (oldo 0 rfl rfl rfl rfl) ?_
 repeat refine u ?_
 refine tst 0 rfl rfl rfl rfl rfl rfl ?_
 iterate 3 refine u ?_
 refine yD (qS (cs':=[ztc N (zv s xs)]) 0 rfl (z_join zw_neg yE2 (by rw [yE2 (s:=s)]; exact hN))) (zA1 (omv rfl) ?_)
 repeat refine u ?_
 exact ⟨[_],_,_,rst rfl rs0,List.Sublist.refl _,⟨rfl,rfl⟩,xJ (PSub.refl _)⟩
theorem oiof {a:Bool × List Nat} {N:Nat} (hx:∀ x ∈ a.2,x < 4294967296) (hl:a.2.length≤1000000000) (hN:a.2.length≤N):CTo prog 223 [ag (itx a)] [] (fun r So=>∃ b,r=exP (.pointer (some ⟨b,0,none⟩))∧So=[.blk b 240 [ztc N (zx a)]]):=by
 refine fwo [.tmp 2] func223 fun X=>?_
 iterate 9 refine u ?_
 refine tbx rfl fun b5=>?_
 refine yD (qS (cs':=[xc (.bool a.1),ntx a.2]) 0 rfl fun h=>oT h) ?_
 refine tco [0] rfl rfl rfl (onrm hl (by rw [nL]; exact Nat.le_trans (xZ hx) hN) rfl) ?_
 rintro _ _ ⟨rfl,rfl⟩
 repeat refine u ?_
 exact er ⟨_,rfl,rfl⟩
instance {a:Bool × List Nat}:CZ (itx a) a.2.length (zx a):=⟨fun h=>CZ.h (c:=st [xc (.bool a.1),ntx a.2]) h⟩
theorem obze {P:Program} {r:Option Nat} {N:Nat} {ops:Array Oper} {M:Nat→Prop} {S:List Ow} {p:Prop} {Γ:TE} {d:Nat} {t t':TypeId} {pos:String} {af:Array Edge} {szs:List Nat} {zs:Array Value} [hp:TPl P t szs] [tz:TZ P t (.agg zs)] :
  Ob P r N ops M S p ⟨some d,.build t #[],t',pos,af,none⟩ Γ (exP (.agg zs)):=fun D E w d' hd hN hg hp' hT=>by
 obtain rfl:=Option.some.inj hd
 obtain ⟨sz,bytes,hz⟩:=tz.s
 exact iW (vs:=[]) (cs:=[]) (zs:=zs.toList) hN hp.h (by simpa using hz) rfl trivial rfl rfl (fin (by simp [updC]; rfl))
instance {P:Program} {r:Option Nat} {N:Nat} {ops:Array Oper} {S:List Ow} {p:Prop} {Γ:TE} {t t':TypeId} {szs:List Nat} {zs:Array Value} [TPl P t szs] [TZ P t (.agg zs)]:OB P r N ops S p (.build t #[]) t' Γ (exP (.agg zs)) True:=⟨fun _=>obze⟩
instance:VZ (exP (.agg #[.bool false,.slice none 0 0])) 0 0:=⟨fun e=>⟨false,_,e,[],iE,Nat.le_refl _,rfl⟩⟩
section
variable {Ψ Φ : PV} {n m k j : Nat} {y z : Int}
theorem ctoz {P:Program} {f:FuncId} {Q:PV→List Ow→Prop} [h:VZ Ψ n z] (hb:Bod P f) (k:∀ a:Bool × List Nat,(∀ x ∈ a.2,x < 4294967296)→a.2.length≤n→zv a.1 a.2=z→CTo P f [ag (itx a)] [] Q):CTo P f [Ψ] [] Q:=⟨hb,fun M w vs a b c d hv=>by
 obtain ⟨v,rfl,h1⟩:=fa1 hv
 obtain ⟨s,x,rfl,g⟩:=h.h h1
 obtain ⟨b',b0,b1,b2,b3⟩:=rV g
 exact (k b' b0 b1 b2).run M w _ a b c d ⟨_,_,rfl,b3,rfl⟩⟩
theorem yN0 {N:Nat} [h:VZ Ψ n z] (hn:n≤1000000000) (hN:n≤N):CTo prog 223 [Ψ] [] (fun r So=>∃ b,r=exP (.pointer (some ⟨b,0,none⟩))∧So=[.blk b 240 [ztc N z]]):=ctoz (bo func223) fun a h0 h1 h2=>by
 subst h2; exact oiof h0 (by omega) (by omega)
theorem kipk {N:Nat} [h:VZ Ψ n z] (hn:n≤1000000000) (hN:n≤N):CTy prog 223 [Ψ] (pk 240 (ztc N z)):=ctz1 (bo func223) fun a h0 h1 h2=>by
 subst h2; exact yK6 (oiof h0 (by omega) (by omega))
theorem kipa [h:VZ Ψ n z] (hn:n≤1000000000):CTy prog 223 [Ψ] (pa (st [ztc n z])):=aC (kipk hn (Nat.le_refl _)) zM9
theorem yO0 [h:VZ Ψ n z] (hn:n≤1000000):CTy prog 284 [Ψ] (ag (ztc n z)):=by
 refine yG (σs:=[ag (ztq n z)]) ?_ (fs1 vz_q fs0)
 refine fw [.cell 2 27] func284 fun X=>?_
 iterate 3 refine u ?_
 refine u fun b2=>?_
 repeat refine u ?_
 refine zA1 (oca rfl rfl fun _=>kipa (by omega)) ?_
 repeat refine u ?_
 exact e
theorem yO1 [h:VZ Ψ n z] (hn:n≤1000000):CTy prog 288 [Ψ] (ag (ztc n (-z))):=ctz1 (bo func288) fun a h0 h1 h2=>by
 refine fw [.cell 2 27] func288 fun X=>?_
 iterate 2 refine u ?_
 refine tbx rfl fun b1=>(u fun b2=>?_)
 repeat refine u ?_
 refine zA1 (oldf 1 0 rfl rfl rfl rfl) ?_
 repeat refine u ?_
 refine yD (qS (cs':=[xc (.bool a.1),ntx a.2]) 1 rfl fun h=>oT h) ?_
 refine tst 1 rfl rfl rfl rfl rfl rfl ?_
 repeat refine u ?_
 refine yD (qS (cs':=[itx (!a.1,a.2)]) 1 rfl fun h=>yM1 h) ?_
 refine zA1 (oldo 1 rfl rfl rfl rfl) (zA1 (oca rfl rfl fun _=>yO0 (by (simp; omega))) ?_)
 refine tst 0 rfl rfl rfl rfl rfl rfl ?_
 repeat refine u ?_
 refine ⟨[_],rsc 0 rfl rfl rfl rfl rs0,xJ ?_⟩
 exact eU (by subst h2; unfold zx zv; cases a.1 <;> simp) h1
theorem kiof {N:Nat} (hk:k < 9223372036854775808) (hN:2≤N):CTy prog 188 [exP (.int .i64 ((k:Nat):Int))] (ag (ztc N ((k:Nat):Int))):=by
 have h2:(limbs k).length≤2:=zS (by omega)
 refine fw [.cell 2 27] func188 fun X=>?_
 iterate 2 refine u ?_
 refine u fun b2=>?_
 repeat refine u ?_
 refine oJ rfl rfl ?_
 repeat refine u ?_
 refine zA1 (oca rfl rfl fun _=>kof (by omega)) ?_
 repeat refine u ?_
 refine tst 0 rfl rfl rfl rfl rfl rfl ?_
 repeat refine u ?_
 refine ⟨[_],rsc 0 rfl rfl rfl rfl rs0,xJ ?_⟩
 exact yM7 (z:=((k:Nat):Int)) (decide_eq_false (by omega)).symm (by omega) (by omega)
theorem zI0 [h:VN Ψ n k]:CTy prog 156 [Ψ] (ag (ztq n ((k:Nat):Int))):=by
 refine yG (σs:=[sv (ntq n k)]) ?_ (fs1 (fun M w v g=>⟨v,rfl,h.h g⟩) fs0)
 refine fw [.cell 2 27] func156 fun X=>?_
 iterate 2 refine u ?_
 refine u fun b2=>?_
 repeat refine u ?_
 refine tst 0 rfl rfl rfl rfl rfl rfl ?_
 repeat refine u ?_
 refine ⟨[_],rsc 0 rfl rfl rfl rfl rs0,xJ ?_⟩
 exact (vz_q:PSub (ag (st [xc (.bool false),ntq n k])) (ag (ztq n (if false=true then -((k:Nat):Int) else ((k:Nat):Int)))))
theorem oiadd {b N:Nat} {s:Bool} {xs:List Nat} {a:Bool × List Nat} {z:Int} (hx:∀ x ∈ xs,x < 4294967296) (ha:∀ x ∈ a.2,x < 4294967296) (hn:xs.length≤400000) (hm:a.2.length≤400000) (hz:zv s xs + zx a=z) (hN:(limbs z.natAbs).length≤N) :
  CTo prog 336 [exP (.pointer (some ⟨b,0,none⟩)),pa (st [itx a])] [.blk b 240 [xc (.bool s),ntx xs]] (fun r So=>r=tu []∧So=[.blk b 240 [ztc N z]]):=by
 have hs:(limbs (val xs + val a.2)).length≤400001:=zW6 (yM _ hx) (yM _ ha) (by omega)
 have hd1:(limbs (val xs - val a.2)).length≤400001:=Nat.le_trans (yC (by omega)) hs
 have hd2:(limbs (val a.2 - val xs)).length≤400001:=Nat.le_trans (yC (by omega)) hs
 refine fwo [] func336 fun X=>?_
 iterate 2 refine u ?_
 refine zL 11 mixed rfl rfl ?_
 repeat refine u ?_
 refine d1 (oldo 0 rfl rfl rfl rfl) ?_
 repeat refine u ?_
 refine ti (fun c0=>?_) fun c0=>?_
 refine u ?_
 refine zL 16 mixed rfl rfl ?_
 repeat refine u ?_
 refine d1 (oca rfl rfl fun _=>zI2 ⟨by omega,hx⟩ ⟨by omega,ha⟩) ?_
 repeat refine u ?_
 rotate_left 1
 iterate 2 refine u ?_
 refine zL 16 mixed rfl rfl ?_
 repeat refine u ?_
 refine d1 (oca rfl rfl fun _=>yI9 (by omega) (by omega)) ?_
 repeat refine u ?_
 refine ti (fun c1=>?_) fun c1=>?_
 refine u ?_
 refine zL 15 mixed rfl rfl ?_
 repeat refine u ?_
 refine d1 (oca rfl rfl fun _=>yI9 (by omega) (by omega)) ?_
 repeat refine u ?_
 refine zA1 (omv rfl) ?_
 refine zA1 (omv rfl) ?_
 repeat refine u ?_
 refine tst 0 rfl rfl rfl rfl rfl rfl ?_
 repeat refine u ?_
 refine zA1 (omv rfl) ?_
 repeat refine u ?_
 refine tst 0 rfl rfl rfl rfl rfl rfl ?_
 repeat refine u ?_
 refine zA1 (omv rfl) ?_
 rotate_left 1
 repeat refine u ?_
 rotate_left 1
 all_goals try omega
 ·refine tco [0] rfl rfl rfl (onrm (z:=z) (by omega) hN ?_) ?_
  ·subst hz
   have h0:s=a.1:=eq_of_beq c0.h
   unfold zx zv; simp only [zJ]; rw [h0]; split <;> omega
  rintro _ _ ⟨rfl,rfl⟩
  repeat refine u ?_
  exact ⟨[],tu [],_,rs0,List.Sublist.refl _,⟨rfl,rfl⟩,tY⟩
 ·refine tco [0] rfl rfl rfl (onrm (z:=z) (by omega) hN ?_) ?_
  ·subst hz
   have h0:s ≠ a.1:=fun e=>by have:=c0.h; rw [e] at this; simp at this
   have h1:=dt c1
   unfold zx zv; simp only [zJ]
   cases ea:a.1 <;> cases eb:s <;> simp [ea,eb] at h0 h1 ⊢ <;> omega
  rintro _ _ ⟨rfl,rfl⟩
  repeat refine u ?_
  exact ⟨[],tu [],_,rs0,List.Sublist.refl _,⟨rfl,rfl⟩,tY⟩
 ·refine tco [0] rfl rfl rfl (onrm (z:=z) (by omega) hN ?_) ?_
  ·subst hz
   have h0:s ≠ a.1:=fun e=>by have:=c0.h; rw [e] at this; simp at this
   have h1:=df c1
   unfold zx zv; simp only [zJ]
   cases ea:a.1 <;> cases eb:s <;> simp [ea,eb] at h0 h1 ⊢ <;> omega
  rintro _ _ ⟨rfl,rfl⟩
  repeat refine u ?_
  exact ⟨[],tu [],_,rs0,List.Sublist.refl _,⟨rfl,rfl⟩,tY⟩
theorem oimul {b N:Nat} {s:Bool} {xs:List Nat} {a:Bool × List Nat} {z:Int} (hx:∀ x ∈ xs,x < 4294967296) (ha:∀ x ∈ a.2,x < 4294967296) (hn:xs.length≤400000) (hm:a.2.length≤400000) (hz:zv s xs * zx a=z) (hN:(limbs z.natAbs).length≤N) :
  CTo prog 225 [exP (.pointer (some ⟨b,0,none⟩)),pa (st [itx a])] [.blk b 240 [xc (.bool s),ntx xs]] (fun r So=>r=tu []∧So=[.blk b 240 [ztc N z]]):=by
 refine fwo [] func225 fun X=>?_
 refine u ?_
 apply lN 28 0 27 [0,1,0,0,0,0,0,0,0,0,0,0,0,0,0,0,0,0,0,0,0,0,0,0,0,0,0,2] [xc (.bool (!(s == a.1))),ntx xs] rfl mixed rfl rfl
 repeat refine u ?_
 refine tdx0 ?_
 refine d1 (oldo 0 rfl rfl rfl rfl) ?_
 repeat refine u ?_
 refine tdx0 (d1 (oca rfl rfl fun _=>yI7 (by omega) (by omega)) ?_)
 repeat refine u ?_
 refine tdx2 rfl (ckvt rfl rfl rfl rfl rfl rfl) ?_
 repeat refine u ?_
 refine tst 0 rfl rfl rfl rfl rfl rfl ?_
 repeat refine u ?_
 all_goals try omega
 have hl:=aJ (yM _ hx) (yM _ ha)
 refine tco [0] rfl rfl rfl (onrm (z:=z) ?_ hN ?_) ?_
 ·omega
 ·subst hz
  unfold zx zv; simp only [zJ]
  cases s <;> cases h:a.1 <;> simp [Int.natCast_mul,Int.neg_mul,Int.mul_neg]
 rintro _ _ ⟨rfl,rfl⟩
 repeat refine u ?_
 exact ⟨[],tu [],_,rs0,List.Sublist.refl _,⟨rfl,rfl⟩,tY⟩
theorem yP5 {l:List (Bool × List Nat)} (h:∀ a ∈ l,(∀ x ∈ a.2,x < 4294967296)∧a.2.length≤n) (hn:n≤400000) (hL:l.length≤1000000):CIt prog 290 [pa (sl 2 (l.map itx))] l (fun a=>[pa (st [ztc n (zx a)])]):=by
 refine cit func290 rfl rfl rfl rfl rfl fun X y YS YX hY hS=>?_
 repeat refine u ?_
 refine lpy (σ:=Nat) [0,5,6] (fun i=>[(7,True,exP (.int .i64 ((i:Nat):Int)))]) (fun i=>[]) (fun i Y=>YS (l.take i) Y∧i≤l.length) (fun i=>l.length - i) (0) (⟨hS,by omega⟩) fun i Y hG=>?_
 obtain ⟨hS,hi⟩:=hG
 have hg:i < l.length→(l.getD i Df.d).2.length≤n:=fun h2=>(h _ (pD h2)).2
 repeat refine u ?_
 refine ti (fun c0=>?_) fun c0=>?_
 repeat refine u ?_
 refine zA1 (oix _ rfl rfl rfl (fun _=>rfl) (fun _=>(by (have e0:=dt c0; omega)))) ?_
 refine u ?_
 refine u fun b4=>?_
 refine u ?_
 refine yD (xR (s:=4) 0 rfl rfl) ?_
 repeat refine u ?_
 refine zA1 (oca rfl rfl fun _=>aC (kipk (N:=n) (by (have e0:=dt c0; omega)) (by (have e0:=dt c0; omega))) zM9) ?_
 rotate_left 1
 repeat refine u ?_
 rotate_left 1
 ·have h2:i < l.length:=by have:=dt c0; omega
  have h3:=zU (Df.d:Bool × List Nat) h2
  refine fK hY hS h3.2 rfl rfl (fs1 (PSub.refl _) fs0) (fun Y hS=>?_) (fun Y hX=>?_)
  ·repeat refine u ?_
   refine oJ rfl rfl ?_
   repeat refine u ?_
   refine ⟨i + 1,tes ?_ ?_ (List.Sublist.refl _),?_,(by omega)⟩
   refine tc rfl (ps_r _) (tn)
   refine tc rfl (ps_r _) (tc rfl (ps_r _) (tc rfl (ps_r _) (tn)))
   exact ⟨by rw [h3.1]; exact hS,by omega⟩
  ·repeat refine u ?_
   refine tA rfl rfl ?_
   repeat refine u ?_
   exact .inr hX
 ·have:i=l.length:=by have:=df c0; omega
  subst this
  rw [List.take_length] at hS
  exact .inl hS
theorem yO2 {l:List (Bool × List Nat)}:CTy prog 224 [sv (sl 2 (l.map itx))] (fn 290 [pa (sl 2 (l.map itx))]):=by
 refine fw [.tmp 2] func224 fun X=>?_
 repeat refine u ?_
 exact e
theorem yE5 {M:Nat→Prop} {w:World} {us:List Value} (h:(st [ztc n z]).p M w us):(st [itx (decide (z < 0),limbs z.natAbs)]).p M w us:=yM1 (zU3 h)
theorem wB:zx (decide (z < 0),limbs z.natAbs)=z:=by
 unfold zx zv; rw [zJ]
 by_cases h:z < 0 <;> simp [h] <;> omega
theorem sum_snocI (t:List (Bool × List Nat)) (x:Bool × List Nat):((t ++ [x]).map zx).sum=(t.map zx).sum + zx x:=by simp
theorem addz_len {x:Int} {m:Nat} (h1:(limbs z.natAbs).length≤m) (h2:(limbs x.natAbs).length≤m):(limbs (z + x).natAbs).length≤m + 1:=by
 have a:=yR h1
 have b:=yR h2
 refine zS ?_
 rw [Nat.pow_succ]; omega
theorem mulz_len {x:Int} {m j:Nat} (h1:(limbs z.natAbs).length≤m) (h2:(limbs x.natAbs).length≤j):(limbs (z * x).natAbs).length≤m + j:=by
 rw [Int.natAbs_mul]
 exact zS (gR (yR h1) (yR h2))
theorem oiaddz {b N:Nat} {x:Int} (h1:(limbs z.natAbs).length≤400000) (h2:(limbs x.natAbs).length≤400000) (hN:(limbs (z + x).natAbs).length≤N) :
  CTo prog 336 [exP (.pointer (some ⟨b,0,none⟩)),pa (st [ztc n x])] [.blk b 240 [xc (.bool (decide (z < 0))),ntx (limbs z.natAbs)]] (fun r So=>r=tu []∧So=[.blk b 240 [ztc N (z + x)]]) :=
 ctoW (oiadd (z:=z + x) (yQ _) (yQ _) h1 h2 (by rw [wB]; exact congrArg (· + x) (wB (z:=z))) hN) (fs1 (PSub.refl _) (fs1 (zS5 fun _ _ _=>yE5) fs0))
theorem oimulz {b N:Nat} {x:Int} (h1:(limbs z.natAbs).length≤400000) (h2:(limbs x.natAbs).length≤400000) (hN:(limbs (z * x).natAbs).length≤N) :
  CTo prog 225 [exP (.pointer (some ⟨b,0,none⟩)),pa (st [ztc n x])] [.blk b 240 [xc (.bool (decide (z < 0))),ntx (limbs z.natAbs)]] (fun r So=>r=tu []∧So=[.blk b 240 [ztc N (z * x)]]) :=
 ctoW (oimul (z:=z * x) (yQ _) (yQ _) h1 h2 (by rw [wB]; exact congrArg (· * x) (wB (z:=z))) hN) (fs1 (PSub.refl _) (fs1 (zS5 fun _ _ _=>yE5) fs0))
theorem wiadd {l:List (Bool × List Nat)} (h:∀ a ∈ l,(∀ x ∈ a.2,x < 4294967296)∧a.2.length≤n) (hn:n≤399000) (hL:l.length≤900):CTy prog 287 [sv (sl 2 (l.map itx))] (ag (ztc (n + l.length) (l.map zx).sum)):=by
 have hz:∀ x ∈ l,(limbs (zx x).natAbs).length≤n:=fun x hx=>by rw [nL]; exact Nat.le_trans (xZ (h x hx).1) (h x hx).2
 refine fw [.cell 2 27] func287 fun X=>?_
 iterate 2 refine u ?_
 refine u fun b2=>?_
 repeat refine u ?_
 refine tcoB [] rfl rfl rfl (yN0 (n:=0) (z:=0) (N:=n) (by omega) (by omega)) fun b6=>(u fun b3=>?_)
 refine tst 0 rfl rfl rfl rfl rfl rfl (yD (xR (s:=3) 0 rfl rfl) ?_)
 repeat refine u ?_
 refine zA1 (oca rfl rfl fun _=>yO2) ?_
 repeat refine u ?_
 refine aH (σ:=List (Bool × List Nat)) (fun t=>[.blk b6 240 [ztc (n + t.length) (t.map zx).sum],.blk b2 27 (zc (.agg #[.bool false,.slice none 0 0]))]) (fun pre t=>t=pre∧(limbs (t.map zx).sum.natAbs).length≤n + t.length) [] rfl (yP5 h (by omega) (by omega)) (fun _=>rfl) rfl mH rfl ⟨rfl,by simp [yB]⟩ (fun pre x post t hx hJ Y y hlp=>?_) (fun t hJ Y _=>?_)
 ·obtain ⟨rfl,hr⟩:=hJ
  have hx2:=hz x (by rw [hx]; simp)
  have htl:t.length < l.length:=by rw [hx]; simp
  have hr2:=addz_len hr (Nat.le_trans hx2 (Nat.le_add_right n t.length))
  repeat refine u ?_
  refine zA1 (oas rfl) ?_
  repeat refine u ?_
  refine ⟨rfl,fun Y hl=>?_⟩
  repeat refine u ?_
  refine zA1 (old rfl rfl) ?_
  repeat refine u ?_
  refine yD (qS (cs':=[xc (.bool (decide ((t.map zx).sum < 0))),ntx (limbs (t.map zx).sum.natAbs)]) 0 rfl zU3) (tcoR [0] rfl rfl rfl (oiaddz (by omega) (by omega) hr2) ?_)
  repeat refine u ?_
  refine ⟨t ++ [x],?_,(by (simp; omega))⟩
  ·rw [sum_snocI,List.length_append,List.length_singleton,← Nat.add_assoc]; exact List.Sublist.refl _
 ·obtain ⟨rfl,hr⟩:=hJ
  repeat refine u ?_
  refine zA1 (oldo 0 rfl rfl rfl rfl) ?_
  repeat refine u ?_
  exact e
theorem pZ (t:List (Bool × List Nat)) (x:Bool × List Nat):jO ((t ++ [x]).map zx)=jO (t.map zx) * zx x:=by simp [jO]
theorem wimul {l:List (Bool × List Nat)} (h:∀ a ∈ l,(∀ x ∈ a.2,x < 4294967296)∧a.2.length≤n) (hn:n≤100000) (hL:l.length≤2):CTy prog 155 [sv (sl 2 (l.map itx))] (ag (ztc (2 * n + 2) (jO (l.map zx)))):=by
 have hz:∀ x ∈ l,(limbs (zx x).natAbs).length≤n:=fun x hx=>by rw [nL]; exact Nat.le_trans (xZ (h x hx).1) (h x hx).2
 refine fw [.cell 2 27] func155 fun X=>?_
 iterate 2 refine u ?_
 refine u fun b2=>?_
 repeat refine u ?_
 refine zA1 (oca rfl rfl fun _=>kiof (k:=1) (N:=2) (by omega) (by omega)) ?_
 refine tcoB [] rfl rfl rfl (yN0 (n:=2) (z:=1) (N:=2) (by omega) (by omega)) fun b6=>(u fun b3=>?_)
 refine tst 0 rfl rfl rfl rfl rfl rfl (yD (xR (s:=3) 0 rfl rfl) ?_)
 repeat refine u ?_
 refine zA1 (oca rfl rfl fun _=>yO2) ?_
 repeat refine u ?_
 refine aH (σ:=List (Bool × List Nat)) (fun t=>[.blk b6 240 [ztc (n * t.length + 2) (jO (t.map zx))],.blk b2 27 (zc (.agg #[.bool false,.slice none 0 0]))]) (fun pre t=>t=pre∧(limbs (jO (t.map zx)).natAbs).length≤n * t.length + 2) [] rfl (yP5 h (by omega) (by omega)) (fun _=>rfl) rfl mH rfl ⟨rfl,by show (limbs 1).length≤_; rw [xW]; simp⟩ (fun pre x post t hx hJ Y y hlp=>?_) (fun t hJ Y _=>?_)
 ·obtain ⟨rfl,hr⟩:=hJ
  have hx2:=hz x (by rw [hx]; simp)
  have htl:t.length < l.length:=by rw [hx]; simp
  have hn2:n * t.length≤n * 1:=Nat.mul_le_mul_left n (by omega)
  have hr2:(limbs (jO (t.map zx) * zx x).natAbs).length≤n * (t ++ [x]).length + 2:=Nat.le_trans (mulz_len hr hx2) (by rw [List.length_append,List.length_singleton,Nat.mul_succ]; omega)
  repeat refine u ?_
  refine zA1 (oas rfl) ?_
  repeat refine u ?_
  refine ⟨rfl,fun Y hl=>?_⟩
  repeat refine u ?_
  refine zA1 (old rfl rfl) ?_
  repeat refine u ?_
  refine yD (qS (cs':=[xc (.bool (decide (jO (t.map zx) < 0))),ntx (limbs (jO (t.map zx)).natAbs)]) 0 rfl zU3) (tcoR [0] rfl rfl rfl (oimulz (by omega) (by omega) hr2) ?_)
  repeat refine u ?_
  refine ⟨t ++ [x],?_,?_⟩
  rotate_left 1
  rotate_left 1
  ·rw [pZ]; exact List.Sublist.refl _
  ·exact ⟨rfl,by rw [pZ]; exact hr2⟩
 ·obtain ⟨rfl,hr⟩:=hJ
  have:n * t.length≤n * 2:=Nat.mul_le_mul_left n hL
  repeat refine u ?_
  refine zA1 (oldo 0 rfl rfl rfl rfl) ?_
  repeat refine u ?_
  refine e ?_
  exact eU rfl (by omega)
theorem zl_i {l:List Int} [h:VZL Ψ n l] {P:Program} {f:FuncId} {ρ:PV} (hb:Bod P f) (k:∀ ls:List (Bool × List Nat),ls.map zx=l→(∀ a ∈ ls,(∀ x ∈ a.2,x < 4294967296)∧a.2.length≤n)→CTy P f [sv (sl 2 (ls.map itx))] ρ):CTy P f [Ψ] ρ:=⟨hb,fun M w vs hM hT hv=>by
 obtain ⟨v,rfl,h1⟩:=fa1 hv
 obtain ⟨ls,k1,k2,k3⟩:=yE4 (h.h h1)
 exact (k ls k2 k3).run M w _ hM hT ⟨_,_,rfl,k1,rfl⟩⟩
theorem vE {l:List Int} [h:VZL Ψ n l] (hn:n≤100000) (hl:l.length≤2):CTy prog 155 [Ψ] (ag (ztc (2 * n + 2) (jO l))):=zl_i (h:=h) (bo func155) fun ls k1 k2=>by
 subst k1
 exact wimul k2 hn (by simpa using hl)
theorem yO3 {l:List Int} [h:VZL Ψ n l] (hn:n≤390000) (hl:l.length≤2):CTy prog 287 [Ψ] (ag (ztc (n + 2) l.sum)):=zl_i (h:=h) (bo func287) fun ls k1 k2=>by
 subst k1
 rw [List.length_map] at hl
 exact aC (wiadd k2 (by omega) (by omega)) (eU rfl (by omega))
theorem kisub [h:VZ Ψ n z] [h':VZ Φ m y] (hn:n≤380000) (hm:m≤380000):CTy prog 222 [Ψ,Φ] (ag (ztc (max n m + 2) (z - y))):=by
 refine yG (σs:=[ag (ztq n z),ag (ztq m y)]) ?_ (fs1 vz_q (fs1 vz_q fs0))
 refine fw [.cell 4 27] func222 fun X=>?_
 iterate 4 refine u ?_
 refine u fun b4=>?_
 iterate 2 refine u ?_
 refine zL 5 mixed rfl rfl ?_
 repeat refine u ?_
 refine d1 (oca rfl rfl fun _=>yO1 (by omega)) ?_
 repeat refine u ?_
 refine d1 (oca rfl rfl fun _=>yO3 (by omega) (by (simp; done))) ?_
 repeat refine u ?_
 refine e ?_
 exact eU (by simp; omega) (Nat.le_refl _)
theorem ctn2 {P:Program} {f:FuncId} {ρ:PV} [h:VN Ψ n k] [h':VN Φ m j] (hb:Bod P f) (g:∀ xs ys:List Nat,(∀ x ∈ xs,x < 4294967296)→xs.length≤n→val xs=k→(∀ x ∈ ys,x < 4294967296)→ys.length≤m→val ys=j→CTy P f [sv (ntx xs),sv (ntx ys)] ρ):CTy P f [Ψ,Φ] ρ:=⟨hb,fun M w vs hM hT hv=>by
 obtain ⟨v,u,rfl,h1,h2⟩:=fa2 hv
 obtain ⟨xs,g1,g2,g3⟩:=(h.h h1).ex
 obtain ⟨ys,g4,g5,g6⟩:=(h'.h h2).ex
 exact (g xs ys g1.lt g2 g3 g4.lt g5 g6).run M w _ hM hT ⟨_,_,rfl,⟨_,rfl,g1⟩,_,_,rfl,⟨_,rfl,g4⟩,rfl⟩⟩
theorem yM9 {N k:Nat} (h:(limbs k).length≤N):PSub (sv (ntx (limbs k))) (sv (ntc N k)):=fun M w v ⟨a,e,g⟩=>⟨a,e,zN5 g h,g⟩
theorem yI8 [h:VN Ψ n k] [h':VN Φ m j] (hn:n≤1000000) (hm:m≤1000000):CTy prog 246 [Ψ,Φ] (sv (ntc (n + m) (k * j))):=ctn2 (bo func246) fun xs ys h1 h2 h3 h4 h5 h6=>by
 subst h3 h6
 exact aC (yI7 (by omega) (by omega)) (yM9 (Nat.le_trans (aJ (yM _ h1) (yM _ h4)) (by omega)))
end
end Go.Proofs.YtalkinejknjidaaGreatDoor
set_option maxHeartbeats 4000000
namespace Go.Proofs.YtalkinejknjidaaGreatDoor
open Go.SL Go.RowKit Go.Proofs Tryz
abbrev rxx (a:(Bool × List Nat) × List Nat):CT:=st [itx a.1,ntx a.2]
theorem qr_x {Ψ:PV} {n:Nat} {p:Rat} [h:QR Ψ n p] {M:Nat→Prop} {w:World} {v:Value} (k:Ψ.p M w v):∃ a:(Bool × List Nat) × List Nat,mkRat (zx a.1) (val a.2)=p∧(∀ x ∈ a.1.2,x < 4294967296)∧(∀ x ∈ a.2,x < 4294967296)∧a.1.2.length≤n∧a.2.length≤n∧(ag (rxx a)).p M w v:=by
 obtain ⟨s,x,d,rfl,xs,ds,h1,h2,h3,h4,h5⟩:=h.h k
 exact ⟨((s,xs),ds),h5,h1.lt,h2.lt,h3,h4,_,rfl,[.bool s,x],[d],rfl,⟨[.bool s],[x],rfl,⟨rfl,rfl⟩,[x],[],rfl,⟨x,rfl,h1⟩,rfl⟩,[d],[],rfl,⟨d,rfl,h2⟩,rfl⟩
theorem yM2 {M:Nat→Prop} {w:World} {N:Nat} {q:Rat} {x y:Value} (h1:IsNat M w x (limbs q.num.natAbs)) (h2:IsNat M w y (limbs q.den)) (hr:rlen q N):(rtc N q).p M w [.bool (decide (q.num < 0)),x,y]:=⟨_,_,_,rfl,rfl,h1,h2,hr.1,hr.2⟩
section
variable {Ψ Φ : PV} {n m k N : Nat} {p q : Rat} {z : Int}
instance {n:Nat} {q:Rat}:FA (rtc n q) 1 (ntc n q.num.natAbs):=⟨fun ⟨s,a,d,e,h⟩=>⟨a,by rw [e]; rfl,zN5 h.num h.len.1,h.num⟩⟩
theorem zS1 {M:Nat→Prop} {w:World} {us:List Value} (h:stp [rtc n p] M w us):stp [ztc n p.num,ntc n p.den] M w us:=by
 obtain ⟨x,y,rfl,⟨s,a,d,rfl,g⟩,h2⟩:=h
 obtain rfl:y=[]:=h2
 exact ⟨[.bool s,a],[d],rfl,⟨s,a,rfl,g.sgn,g.num,g.len.1⟩,[d],[],rfl,⟨d,rfl,zN5 g.den g.len.2,g.den⟩,rfl⟩
theorem rt_join {M:Nat→Prop} {w:World} {us:List Value} (e1:z=p.num) (e2:k=p.den) (hr:rlen p N) (h:stp [ztc n z,ntc m k] M w us):stp [rtc N p] M w us:=by
 subst e1 e2
 obtain ⟨x,y,rfl,⟨s,a,rfl,g⟩,x2,y2,rfl,⟨d,rfl,g2,g3⟩,h3⟩:=h
 obtain rfl:y2=[]:=h3
 exact ⟨[.bool s,a,d],[],rfl,by rw [g.sgn]; exact yM2 g.num g3 hr,rfl⟩
theorem rt_joinx {a:Bool} {x d:Nat} {M:Nat→Prop} {w:World} {us:List Value} (e1:a=decide (p.num < 0)) (e2:x=p.num.natAbs) (e3:d=p.den) (hr:rlen p N) (h:stp [xc (.bool a),ntx (limbs x),ntx (limbs d)] M w us):stp [rtc N p] M w us:=by
 subst e1 e2 e3
 obtain ⟨x1,y1,rfl,⟨rfl,_⟩,x2,y2,rfl,⟨v,rfl,g1⟩,x3,y3,rfl,⟨u,rfl,g2⟩,h3⟩:=h
 obtain rfl:y3=[]:=h3
 exact ⟨_,[],rfl,yM2 g1 g2 hr,rfl⟩
theorem zY4 {N n k:Nat} {y:Int} {q:Rat} (h1:y=q.num) (h2:k=q.den) (hn:n≤N) (hk:(limbs k).length≤N):PSub (ag (st [ztc n y,ntx (limbs k)])) (ag (rtc N q)):=fun M w v ⟨us,e,x,u,e1,⟨s,a,e2,g1⟩,x2,o,e3,⟨d,e4,g2⟩,e5⟩=>by
 subst h1 h2 e2 e4
 obtain rfl:o=[]:=e5
 exact ⟨us,e,s,a,d,by rw [e1,e3]; rfl,g1.sgn,g1.num,g2,Nat.le_trans g1.len hn,hk⟩
theorem krof {K:Nat} (hk:k < 9223372036854775808) (hK:2≤K):CTy prog 114 [exP (.int .i64 ((k:Nat):Int))] (ag (rtc K ((k:Nat):Rat))):=by
 refine fw [.cell 2 29] func114 fun X=>?_
 iterate 2 refine u ?_
 refine u fun b2=>?_
 repeat refine u ?_
 refine zA1 (oca rfl rfl fun _=>kiof (N:=2) (by omega) (by omega)) ?_
 repeat refine u ?_
 refine tst 0 rfl rfl rfl rfl rfl rfl ?_
 repeat refine u ?_
 refine ⟨[_],rsc 0 rfl rfl rfl rfl rs0,xJ ?_⟩
 rw [← xW]
 exact zY4 (q:=((k:Nat):Rat)) rfl rfl hK (by rw [xW]; simp <;> omega)
theorem rt_re {K:Nat} {M:Nat→Prop} {w:World} {us:List Value} (e:p=q) (hr:rlen q N) (h:stp [rtc K p] M w us):stp [rtc N q] M w us:=by
 subst e
 obtain ⟨x,y,rfl,⟨s,a,d,rfl,g⟩,h2⟩:=h
 exact ⟨_,y,rfl,⟨s,a,d,rfl,g.relen hr⟩,h2⟩
theorem orn {b:Nat} {a:Bool × List Nat} {ds:List Nat} (ha:∀ x ∈ a.2,x < 4294967296) (hd:∀ x ∈ ds,x < 4294967296) (h1:a.2.length≤1000000) (h2:ds.length≤1000000) (hr:rlen (mkRat (zx a) (val ds)) N) :
  CTo prog 220 [exP (.pointer (some ⟨b,0,none⟩))] [.blk b 189 [itx a,ntx ds]] (fun r So=>r=exP (.bool (decide (val ds ≠ 0)))∧So=[.blk b 189 [rtc N (mkRat (zx a) (val ds))]]):=by
 have e0:=@zM (val ds)
 have hzl:(limbs (zx a).natAbs).length≤a.2.length:=by rw [nL]; exact xZ ha
 refine fwo [.tmp 2] func220 fun X=>?_
 repeat refine u ?_
 refine zA1 (oca rfl rfl fun _=>iM (by omega)) ?_
 repeat refine u ?_
 refine ti (fun c0=>?_) fun c0=>?_
 repeat refine u ?_
 refine zA1 (oca rfl rfl fun _=>krof (k:=0) (K:=2) (by omega) (by omega)) ?_
 repeat refine u ?_
 refine tst 0 rfl rfl rfl rfl rfl rfl ?_
 iterate 3 refine u ?_
 refine yD (qS (cs':=[rtc N (mkRat (zx a) (val ds))]) 0 rfl (rt_re ?_ hr)) (zA1 (oas rfl) ?_)
 rotate_left 1
 repeat refine u ?_
 rotate_left 1
 repeat refine u ?_
 refine zA1 (oldo 0 rfl rfl rfl rfl) ?_
 refine zA1 (oca rfl rfl fun _=>yO0 (by omega)) ?_
 repeat refine u ?_
 refine tst 0 rfl rfl rfl rfl rfl rfl ?_
 repeat refine u ?_
 rotate_left 1
 ·have h0:val ds=0:=by have:=dt c0; omega
  rw [h0,Rat.mkRat_zero]; rfl
 ·have h0:val ds=0:=by have:=dt c0; omega
  exact ⟨[_],_,_,rst rfl rs0,List.Sublist.refl _,⟨by rw [h0]; rfl,rfl⟩,xJ (PSub.refl _)⟩
 refine t_ts (qS (cs':=[xc (.bool (decide (zx a < 0))),ntx (limbs (zx a).natAbs),ntx ds]) 0 rfl fun h=>?_) ?_
 ·obtain ⟨x,y,rfl,g,h3⟩:=h
  obtain ⟨x1,y1,e1,g1,x2,y2,e2,g2,e3⟩:=zU3 ⟨x,[],(List.append_nil x).symm,g,rfl⟩
  obtain rfl:y2=[]:=e3
  exact ⟨x1,x2 ++ y,by rw [e1,e2]; simp,g1,x2,y,rfl,g2,h3⟩
 apply lN 22 0 21 [0,1,0,0,0,0,0,0,0,0,0,0,0,0,0,0,1,0,0,0,0,2] [xc (.bool (decide (zx a < 0))),ntx (limbs (val (limbs (zx a).natAbs) / Nat.gcd (val (limbs (zx a).natAbs)) (val ds))),ntx ds] rfl mixed rfl rfl
 repeat refine u ?_
 refine tdx0 ?_
 refine d1 (oldo 0 rfl rfl rfl rfl) ?_
 repeat refine u ?_
 refine tdx0 ?_
 refine d1 (oldo 0 rfl rfl rfl rfl) ?_
 repeat refine u ?_
 refine tdx0 (d1 (oca rfl rfl fun _=>kreduce (by omega) (by omega)) ?_)
 repeat refine u ?_
 refine tdx2 rfl (ckvt rfl rfl rfl rfl rfl rfl) ?_
 repeat refine u ?_
 refine tst 0 rfl rfl rfl rfl rfl rfl ?_
 iterate 3 refine u ?_
 refine yD (qS (cs':=[rtc N (mkRat (zx a) (val ds))]) 0 rfl (rt_joinx ?_ ?_ ?_ hr)) (zA1 (oas rfl) ?_)
 rotate_left 1
 rotate_left 1
 rotate_left 1
 repeat refine u ?_
 rotate_left 1
 all_goals have h0:val ds ≠ 0:=fun e=>df c0 (by omega)
 ·exact (bU h0).1.symm
 ·rw [zJ]; exact (bU h0).2.1.symm
 ·rw [zJ]; exact (bU h0).2.2.symm
 ·exact ⟨[_],_,_,rst rfl rs0,List.Sublist.refl _,⟨by rw [decide_eq_true h0],rfl⟩,xJ (PSub.refl _)⟩
theorem cto_ex {ι:Type} {P:Program} {f:FuncId} {τs:List PV} {b:Nat} {ty:TypeId} {cs:List CT} {Q:PV→List Ow→Prop} (C:ι→Prop) (cs':ι→List CT) (hb:Bod P f) (hx:∀ M w us,stp cs M w us→∃ i,C i∧stp (cs' i) M w us) (k:∀ i,C i→CTo P f τs [.blk b ty (cs' i)] Q):CTo P f τs [.blk b ty cs] Q:=⟨hb,fun M w vs hg hap hnb hok hv=>by
 obtain ⟨us,h1,h2⟩:=hg.own _ (List.mem_singleton.2 rfl)
 obtain ⟨i,hi,h3⟩:=hx _ _ _ h2
 have e:Mk [.blk b ty (cs' i)] M=Mk [.blk b ty cs] M:=by funext k; simp [Mk,Ow.bk]
 have:=(k i hi).run M w vs ⟨by rw [e]; exact hg.ok,by rw [e]; exact hg.tab,fun o ho=>by rw [List.mem_singleton.1 ho,e]; exact ⟨us,h1,h3⟩⟩ ⟨fun _ _ _ h=>by simp at h,trivial⟩ (fun b' ⟨o,ho,e1⟩=>hnb b' ⟨_,List.mem_singleton.2 rfl,by rw [List.mem_singleton.1 ho] at e1; exact e1⟩) hok (by rw [e]; exact hv)
 have e2:bks [.blk b ty (cs' i)]=bks [.blk b ty cs]:=by funext k; simp [bks,Ow.bk]
 rw [e2] at this
 exact this⟩
theorem zS6 {b:Nat} {c d:CT} [hc:CZ c n z] [hd:CN d m k] (hn:n≤1000000) (hm:m≤1000000) (hr:rlen (mkRat z k) N) :
  CTo prog 220 [exP (.pointer (some ⟨b,0,none⟩))] [.blk b 189 [c,d]] (fun r So=>r=exP (.bool (decide (k ≠ 0)))∧So=[.blk b 189 [rtc N (mkRat z k)]]) :=
 cto_ex (ι:=(Bool × List Nat) × List Nat) (fun i=>(∀ x ∈ i.1.2,x < 4294967296)∧(∀ x ∈ i.2,x < 4294967296)∧i.1.2.length≤n∧i.2.length≤m∧zx i.1=z∧val i.2=k) (fun i=>[itx i.1,ntx i.2]) (bo func220) (fun M w us ⟨x,y,e,h1,x2,y2,e2,h2,h3⟩=>by
  obtain rfl:y2=[]:=h3
  obtain ⟨s,a,rfl,g⟩:=hc.h h1
  obtain ⟨v,rfl,g'⟩:=hd.h h2
  obtain ⟨xs,g1,g2,g3⟩:=g.ex
  obtain ⟨ds,g4,g5,g6⟩:=g'.ex
  exact ⟨((s,xs),ds),⟨g1.lt,g4.lt,g2,g5,g3,g6⟩,[.bool s,a],y,e,⟨[.bool s],[a],rfl,⟨rfl,rfl⟩,[a],[],rfl,⟨a,rfl,g1⟩,rfl⟩,[v],[],e2,⟨v,rfl,g4⟩,rfl⟩)
  fun i ⟨h1,h2,h3,h4,h5,h6⟩=>by
   subst h5 h6
   exact orn h1 h2 (by omega) (by omega) hr
theorem oofx {a:(Bool × List Nat) × List Nat} (ha:∀ x ∈ a.1.2,x < 4294967296) (hd:∀ x ∈ a.2,x < 4294967296) (h1:a.1.2.length≤1000000) (h2:a.2.length≤1000000) (hr:rlen (mkRat (zx a.1) (val a.2)) N) :
  CTo prog 153 [ag (rxx a)] [] (fun r So=>∃ b,r=exP (.pointer (some ⟨b,0,none⟩))∧So=[.blk b 189 [rtc N (mkRat (zx a.1) (val a.2))]]):=by
 refine fwo [.tmp 2] func153 fun X=>?_
 iterate 9 refine u ?_
 refine tbx rfl fun b6=>?_
 repeat refine u ?_
 refine yD (qS (cs':=[itx a.1,ntx a.2]) 0 rfl oT) ?_
 refine tcoR [0] rfl rfl rfl (orn ha hd h1 h2 hr) ?_
 repeat refine u ?_
 exact er ⟨_,rfl,rfl⟩
theorem oof {n N:Nat} {p:Rat} (hn:n≤1000000) (hr:rlen p N) :
  CTo prog 153 [ag (rtq n p)] [] (fun r So=>∃ b,r=exP (.pointer (some ⟨b,0,none⟩))∧So=[.blk b 189 [rtc N p]]):=⟨(bo func153),fun M w vs h1 h2 h3 h4 hv=>by
 obtain ⟨v,rfl,g⟩:=fa1 hv
 obtain ⟨a,e1,e2,e3,e4,e5,e6⟩:=qr_x g
 subst e1
 exact (oofx e2 e3 (by omega) (by omega) hr).run M w _ h1 h2 h3 h4 ⟨_,_,rfl,e6,rfl⟩⟩
theorem kofK [h:QR Ψ n p] (hn:n≤1000000) (hr:rlen p N):CTy prog 153 [Ψ] (pk 189 (rtc N p)):=yG (yK6 (oof hn hr)) (fs1 qr_q fs0)
theorem kofN [h:QR Ψ n p] (hn:n≤1000000) (hr:rlen p N):CTy prog 153 [Ψ] (pa (st [rtc N p])):=aC (kofK hn hr) zM9
theorem krnewN [h:VZ Ψ n z] [h':VN Φ m k] (hn:n≤1000000) (hm:m≤1000000) (e:mkRat z k=q) (hr:rlen q N):CTy prog 245 [Ψ,Φ] (tu [ag (rtc N q),exP (.int .i64 (if k=0 then 30 else 0))]):=by
 refine yG (σs:=[ag (ztq n z),sv (ntq m k)]) ?_ (fs1 vz_q (fs1 (fun M w v g=>⟨v,rfl,h'.h g⟩) fs0))
 subst e
 refine fw [.cell 4 29,.tmp 5] func245 fun X=>?_
 iterate 3 refine u ?_
 refine u fun b4=>?_
 iterate 8 refine u ?_
 refine tbx rfl fun b11=>?_
 repeat refine u ?_
 refine yD (qS (cs':=[ztq n z,ntq m k]) 0 rfl oT) ?_
 refine tcoR [0] rfl rfl rfl (zS6 (by omega) (by omega) hr) ?_
 repeat refine u ?_
 refine ti (fun c0=>?_) fun c0=>?_
 repeat refine u ?_
 refine zA1 (oldo 0 rfl rfl rfl rfl) ?_
 refine tst 1 rfl rfl rfl rfl rfl rfl ?_
 repeat refine u ?_
 refine ⟨[_,_],rsc 1 rfl rfl rfl rfl (rst rfl rs0),aV (PSub.refl _) ?_⟩
 refine ps_i ?_
 rotate_left 1
 repeat refine u ?_
 refine zA1 (oldo 0 rfl rfl rfl rfl) ?_
 refine tst 1 rfl rfl rfl rfl rfl rfl ?_
 repeat refine u ?_
 refine ⟨[_,_],rsc 1 rfl rfl rfl rfl (rst rfl rs0),aV (PSub.refl _) ?_⟩
 refine ps_i ?_
 rotate_left 1
 ·have:=c0.h
  rw [if_pos (by simpa using this)]
 ·have:=c0.h
  rw [if_neg (by simpa using this)]
end
end Go.Proofs.YtalkinejknjidaaGreatDoor
set_option maxHeartbeats 4000000
namespace Go.Proofs.YtalkinejknjidaaGreatDoor
open Go.SL Go.RowKit Go.Proofs Tryz
instance:TAr prog 320 3 1:=⟨_,_,_,_,_,underlying320,sz3,yF9,rfl⟩
section
variable {Ψ Φ : PV} {n m k j : Nat} {y z : Int}
theorem kinsign (hn:n≤1000000):CTy prog 286 [pa (st [ztc n z])] (exP (.int .i64 z.sign)):=by
 have h2:=@zM z.natAbs
 refine fw [.tmp 2] func286 fun X=>?_
 repeat refine u ?_
 refine zA1 (oba rfl rfl rfl) (u fun b3=>?_)
 refine tst 0 rfl rfl rfl rfl rfl rfl (yD (xR (s:=3) 0 rfl rfl) ?_)
 repeat refine u ?_
 refine t_if rfl (fun c0=>?_) (fun c0=>?_)
 rotate_left 1
 rotate_left 1
 ·have h1:z < 0:=dt c0
  repeat refine u ?_
  refine zA1 (oia 2 rfl rfl (by omega) rfl rfl) ?_
  repeat refine u ?_
  refine e ?_
  refine ps_i ?_
  exact (Int.sign_eq_neg_one_of_neg h1).symm
 ·have h1:¬ z < 0:=df c0
  rcases Classical.em (z=0) with h | h
  ·have h3:(limbs z.natAbs).length=0:=h2.2 (by omega)
   repeat refine u ?_
   refine zA1 (oia 0 rfl rfl (by omega) rfl rfl) ?_
   repeat refine u ?_
   refine e ?_
   refine ps_i ?_
   rw [h]; rfl
  ·have h3:(limbs z.natAbs).length ≠ 0:=fun c=>h (by have:=h2.1 c; omega)
   repeat refine u ?_
   refine zA1 (oia 1 rfl rfl (by omega) rfl rfl) ?_
   repeat refine u ?_
   refine e ?_
   refine ps_i ?_
   exact (Int.sign_eq_one_of_pos (by omega)).symm
theorem kisgn [h:VZ Ψ n z] (hn:n≤1000000):CTy prog 221 [Ψ] (exP (.int .i64 z.sign)):=by
 refine yG (σs:=[ag (ztq n z)]) ?_ (fs1 vz_q fs0)
 refine fw [.tmp 2] func221 fun X=>?_
 repeat refine u ?_
 refine zA1 (oca rfl rfl fun _=>kipa (by omega)) ?_
 refine zA1 (oca rfl rfl fun _=>kinsign hn) ?_
 repeat refine u ?_
 exact e
theorem kicmp [h:VZ Ψ n z] [h':VZ Φ m y] (hn:n≤380000) (hm:m≤380000):CTy prog 154 [Ψ,Φ] (exP (.int .i64 (z - y).sign)):=by
 refine yG (σs:=[ag (ztq n z),ag (ztq m y)]) ?_ (fs1 vz_q (fs1 vz_q fs0))
 refine fw [.tmp 4] func154 fun X=>?_
 repeat refine u ?_
 refine zA1 (oca rfl rfl fun _=>kisub (by omega) (by omega)) ?_
 refine zA1 (oca rfl rfl fun _=>kisgn (by omega)) ?_
 repeat refine u ?_
 exact e
end
end Go.Proofs.YtalkinejknjidaaGreatDoor
set_option maxHeartbeats 4000000
namespace Go.Proofs.YtalkinejknjidaaGreatDoor
open Go.SL Go.RowKit Go.Proofs Tryz
section
variable {Ψ Φ : PV} {n m k N : Nat} {p q : Rat} {z : Int}
theorem yQ0 [h:QR Ψ n p] {P:Program} {f:FuncId} {ρ:PV} (hb:Bod P f) (hr:rlen p (n + 1)→CTy P f [ag (rtq n p)] ρ):CTy P f [Ψ] ρ :=
 ⟨hb,fun M w vs hM hT hv=>by
  obtain ⟨v,rfl,h1⟩:=fa1 hv
  obtain ⟨_,_,_,_,g1⟩:=h.h h1
  exact (hr g1.rlen).run M w _ hM hT ((fs1 (qr_q (h:=h)) fs0) _ _ _ hv)⟩
theorem zJ5 [h:QR Ψ n p] [h':QR Φ m q] {P:Program} {f:FuncId} {ρ:PV} (hb:Bod P f) (hr:rlen p (n + 1)→rlen q (m + 1)→CTy P f [ag (rtq n p),ag (rtq m q)] ρ):CTy P f [Ψ,Φ] ρ :=
 ⟨hb,fun M w vs hM hT hv=>by
  obtain ⟨v,u,rfl,h1,h2⟩:=fa2 hv
  obtain ⟨_,_,_,_,g1⟩:=h.h h1
  obtain ⟨_,_,_,_,g2⟩:=h'.h h2
  exact (hr g1.rlen g2.rlen).run M w _ hM hT ((fs1 (qr_q (h:=h)) (fs1 (qr_q (h:=h')) fs0)) _ _ _ hv)⟩
theorem zS9 [h:QR Ψ n p] (hn:n≤90000):CTy prog 160 [Ψ] (ag (rtc (n + 1) p)):=yQ0 (bo func160) fun hr=>by
 refine fw [.cell 2 29] func160 fun X=>?_
 iterate 3 refine u ?_
 refine u fun b2=>?_
 repeat refine u ?_
 refine zA1 (oca rfl rfl fun _=>kofN (N:=n + 1) (by omega) hr) ?_
 repeat refine u ?_
 exact e
theorem cX [h:QR Ψ n p] [h':QR Φ m q] (hn:n≤90000) (hm:m≤90000):CTy prog 80 [Ψ,Φ] (exP (.int .i64 (cmpR p q))):=zJ5 (bo func80) fun hr hs=>by
 refine fw [.tmp 4] func80 fun X=>?_
 iterate 7 refine u ?_
 refine zL 6 mixed rfl rfl ?_
 repeat refine u ?_
 refine d1 (oca rfl rfl fun _=>kofN (N:=n + 1) (by omega) hr) ?_
 repeat refine u ?_
 refine d1 (oca rfl rfl fun _=>kofN (N:=m + 1) (by omega) hs) ?_
 iterate 6 refine u ?_
 refine zL 28 mixed rfl rfl ?_
 repeat refine u ?_
 refine d1 (oca rfl rfl fun _=>zI0) ?_
 repeat refine u ?_
 refine d1 (oca rfl rfl fun _=>vE (by omega) (by (simp; done))) ?_
 repeat refine u ?_
 refine d1 (oca rfl rfl fun _=>zI0) ?_
 repeat refine u ?_
 refine d1 (oca rfl rfl fun _=>vE (by omega) (by (simp; done))) ?_
 refine d1 (oca rfl rfl fun _=>kicmp (by omega) (by omega)) ?_
 repeat refine u ?_
 refine e ?_
 refine ps_i ?_
 rw [yK9]
theorem yI4 [h:QR Ψ n p] [h':QR Φ m q] (hn:n≤90000) (hm:m≤90000):CTy prog 164 [Ψ,Φ] (exP (.bool (decide (p=q)))):=zJ5 (bo func164) fun _ _=>by
 refine fw [.tmp 4] func164 fun X=>?_
 repeat refine u ?_
 refine zA1 (oca rfl rfl fun _=>cX (by omega) (by omega)) ?_
 repeat refine u ?_
 refine e ?_
 refine psb ?_
 rw [decide_eq_decide]; exact yU
theorem krneg [h:QR Ψ n p] (hn:n≤90000):CTy prog 247 [Ψ] (ag (rtc (n + 1) (-p))):=yQ0 (bo func247) fun hr=>by
 refine fw [.cell 2 29] func247 fun X=>?_
 iterate 3 refine u ?_
 refine u fun b2=>?_
 repeat refine u ?_
 refine tco [] rfl rfl rfl (oof (N:=n + 1) (by omega) hr) ?_
 rintro _ _ ⟨b5,rfl,rfl⟩
 refine yD (qS (cs':=[ztc (n + 1) p.num,ntc (n + 1) p.den]) 0 rfl zS1) ?_
 repeat refine u ?_
 refine zA1 (oldo 0 rfl rfl rfl rfl) ?_
 refine zA1 (oca rfl rfl fun _=>yO1 (by omega)) ?_
 repeat refine u ?_
 refine tst 0 rfl rfl rfl rfl rfl rfl ?_
 repeat refine u ?_
 refine yD (qS (cs':=[rtc (n + 1) (-p)]) 0 rfl (rt_join (by rw [Rat.neg_num]) (by rw [Rat.neg_den]) (cJ hr))) ?_
 refine zA1 (oldo 0 rfl rfl rfl rfl) ?_
 refine tst 1 rfl rfl rfl rfl rfl rfl ?_
 repeat refine u ?_
 refine ⟨[_],rsc 1 rfl rfl rfl rfl rs0,xJ (PSub.refl _)⟩
theorem yM3 (p q:Rat):mkRat (jO [p.num,if decide (q.num < 0) then -((q.den:Nat):Int) else ((q.den:Nat):Int)]) (p.den * q.num.natAbs)=p / q:=by
 rw [tO,← yG9]; unfold zv; rw [zJ]
theorem yM4 (p q:Rat):(if p.den * q.num.natAbs=0 then (30:Int) else 0)=if q=0 then 30 else 0:=by
 have h:p.den * q.num.natAbs=0 ↔ q=0:=by
  rw [Nat.mul_eq_zero,Int.natAbs_eq_zero,Rat.num_eq_zero]
  exact ⟨fun h=>h.elim (fun c=>absurd c p.den_nz) id,.inr⟩
 exact ite_congr (propext h) (fun _=>rfl) fun _=>rfl
theorem yN7 [h:QR Ψ n p] [h':QR Φ m q] (hn:n≤90000) (hm:m≤90000):CTy prog 170 [Ψ,Φ] (tu [ag (rtc (n + m + 3) (p / q)),exP (.int .i64 (if q=0 then 30 else 0))]):=zJ5 (bo func170) fun hr hs=>by
 have hl:rlen (p / q) (n + m + 3):=zR (lS hr hs) (by omega)
 have hq:=yM4 p q
 refine fw [.cell 4 29,.tmp 5] func170 fun X=>?_
 iterate 4 refine u ?_
 refine u fun b4=>?_
 iterate 3 refine u ?_
 refine zL 6 mixed rfl rfl ?_
 repeat refine u ?_
 refine d1 (oca rfl rfl fun _=>kofN (N:=n + 1) (by omega) hr) ?_
 repeat refine u ?_
 refine d1 (oca rfl rfl fun _=>kofN (N:=m + 1) (by omega) hs) ?_
 iterate 6 refine u ?_
 refine zL 34 mixed rfl rfl ?_
 repeat refine u ?_
 refine d1 (oca rfl rfl fun _=>vE (by omega) (by (simp; done))) ?_
 repeat refine u ?_
 refine d1 (oca rfl rfl fun _=>yI8 (by omega) (by omega)) ?_
 refine d1 (oca rfl rfl fun _=>krnewN (q:=p / q) (N:=n + m + 3) (by omega) (by omega) (yM3 p q) hl) ?_
 repeat refine u ?_
 refine tst 0 rfl rfl rfl rfl rfl rfl ?_
 repeat refine u ?_
 refine ⟨[_,_],rsc 0 rfl rfl rfl rfl (rst rfl rs0),aV (PSub.refl _) (ps_i (by omega))⟩
theorem ormul {b:Nat} (hn:n≤95000) (hm:m≤95000) (hr:rlen (p * q) N) :
  CTo prog 248 [exP (.pointer (some ⟨b,0,none⟩)),pa (st [rtc m q])] [.blk b 189 [ztc n p.num,ntc n p.den]] (fun r So=>r=tu []∧So=[.blk b 189 [rtc N (p * q)]]):=by
 refine fwo [] func248 fun X=>?_
 refine u ?_
 apply lN 29 0 28 [0,1,0,0,0,0,0,0,0,0,0,0,0,0,0,0,0,0,0,0,0,0,0,0,0,0,0,0,2] [ztc (2 * max n m + 2) (jO [p.num,q.num]),ntc n p.den] rfl mixed rfl rfl
 repeat refine u ?_
 refine tdx0 ?_
 refine d1 (oldo 0 rfl rfl rfl rfl) ?_
 repeat refine u ?_
 refine tdx0 ?_
 refine d1 (oca rfl rfl fun _=>vE (by omega) (by (simp; done))) ?_
 repeat refine u ?_
 refine tdx0 ?_
 refine d1 (oca rfl rfl fun _=>yI8 (by omega) (by omega)) ?_
 repeat refine u ?_
 refine tdx2 rfl (ckvt rfl rfl rfl rfl rfl rfl) ?_
 repeat refine u ?_
 refine tst 0 rfl rfl rfl rfl rfl rfl ?_
 repeat refine u ?_
 refine tcoR [0] rfl rfl rfl (zS6 (N:=N) (by omega) (by omega) (by rw [zS8]; exact hr)) ?_
 rw [zS8]
 repeat refine u ?_
 exact ⟨[],tu [],_,rs0,List.Sublist.refl _,⟨rfl,rfl⟩,tY⟩
theorem oradd {b:Nat} (hn:n≤95000) (hm:m≤95000) (hr:rlen (p + q) N) :
  CTo prog 238 [exP (.pointer (some ⟨b,0,none⟩)),pa (st [rtc m q])] [.blk b 189 [ztc n p.num,ntc n p.den]] (fun r So=>r=tu []∧So=[.blk b 189 [rtc N (p + q)]]):=by
 refine fwo [] func238 fun X=>?_
 refine u ?_
 refine zL 32 mixed rfl rfl ?_
 repeat refine u ?_
 refine d1 (oldo 0 rfl rfl rfl rfl) ?_
 repeat refine u ?_
 refine d1 (oca rfl rfl fun _=>zI0) ?_
 repeat refine u ?_
 refine d1 (oca rfl rfl fun _=>vE (by omega) (by (simp; done))) ?_
 repeat refine u ?_
 refine d1 (oca rfl rfl fun _=>zI0) ?_
 repeat refine u ?_
 refine d1 (oca rfl rfl fun _=>vE (by omega) (by (simp; done))) ?_
 repeat refine u ?_
 refine d1 (oca rfl rfl fun _=>yO3 (by omega) (by (simp; done))) ?_
 repeat refine u ?_
 refine tst 0 rfl rfl rfl rfl rfl rfl ?_
 iterate 2 refine u ?_
 refine zL 15 mixed rfl rfl ?_
 repeat refine u ?_
 refine d1 (oldo 0 rfl rfl rfl rfl) ?_
 repeat refine u ?_
 refine d1 (oca rfl rfl fun _=>yI8 (by omega) (by omega)) ?_
 repeat refine u ?_
 refine tst 0 rfl rfl rfl rfl rfl rfl ?_
 repeat refine u ?_
 refine zA1 (omv rfl) ?_
 refine tco [0] rfl rfl rfl (zS6 (N:=N) (by omega) (by omega) (by rw [zU2]; exact hr)) ?_
 rintro _ _ ⟨rfl,rfl⟩
 rw [zU2]
 repeat refine u ?_
 exact ⟨[],tu [],_,rs0,List.Sublist.refl _,⟨rfl,rfl⟩,tY⟩
theorem iall {l:List Rat} (hn:n≤90000) (hl:∀ x ∈ l,rlen x (n + 1)) (hL:l.length≤1000000):CIt prog 297 [pa (sl 3 (l.map (rtq n)))] l (fun x=>[pk 189 (rtc (n + 1) x)]):=by
 refine cit func297 rfl rfl rfl rfl rfl fun X y YS YX hY hS=>?_
 repeat refine u ?_
 refine lpy (σ:=Nat) [0,5,6] (fun i=>[(7,True,exP (.int .i64 ((i:Nat):Int)))]) (fun i=>[]) (fun i Y=>YS (l.take i) Y∧i≤l.length) (fun i=>l.length - i) (0) (⟨hS,by omega⟩) fun i Y hG=>?_
 obtain ⟨hS,hi⟩:=hG
 repeat refine u ?_
 refine ti (fun c0=>?_) fun c0=>?_
 repeat refine u ?_
 refine zA1 (oix _ rfl rfl rfl (fun _=>rfl) (fun _=>(by (have e0:=dt c0; omega)))) ?_
 refine u ?_
 refine u fun b4=>?_
 refine u ?_
 refine yD (xR (s:=4) 0 rfl rfl) ?_
 repeat refine u ?_
 refine zA1 (oca rfl rfl fun _=>kofK (N:=n + 1) (by omega) (hl _ (pD (by have:=dt c0; omega)))) ?_
 rotate_left 1
 repeat refine u ?_
 rotate_left 1
 ·have h2:i < l.length:=by have:=dt c0; omega
  have h3:=zU (Df.d:Rat) h2
  refine fK hY hS h3.2 rfl rfl (fs1 (PSub.refl _) fs0) (fun Y hS=>?_) (fun Y hX=>?_)
  ·repeat refine u ?_
   refine oJ rfl rfl ?_
   repeat refine u ?_
   refine ⟨i + 1,tes ?_ ?_ (List.Sublist.refl _),?_,(by omega)⟩
   refine tc rfl (ps_r _) (tn)
   refine tc rfl (ps_r _) (tc rfl (ps_r _) (tc rfl (ps_r _) (tn)))
   exact ⟨by rw [h3.1]; exact hS,by omega⟩
  ·repeat refine u ?_
   refine tA rfl rfl ?_
   repeat refine u ?_
   exact .inr hX
 ·have:i=l.length:=by have:=df c0; omega
  subst this
  rw [List.take_length] at hS
  exact .inl hS
theorem yN8 {l:List Rat}:CTy prog 237 [sv (sl 3 (l.map (rtq n)))] (fn 297 [pa (sl 3 (l.map (rtq n)))]):=by
 refine fw [.tmp 2] func237 fun X=>?_
 repeat refine u ?_
 exact e
theorem tF (t:List Rat) (x:Rat):sumR (t ++ [x])=sumR t + x:=by simp [sumR]
theorem yL5 {l:List Rat} (hn:n≤90000) (hl:l.length≤2) (h:∀ x ∈ l,rlen x (n + 1)):CTy prog 163 [sv (sl 3 (l.map (rtq n)))] (ag (rtc (l.length * (n + 2) + 2) (sumR l))):=by
 refine fw [.cell 2 29] func163 fun X=>?_
 iterate 2 refine u ?_
 refine u fun b2=>?_
 repeat refine u ?_
 refine zA1 (oca rfl rfl fun _=>krof (k:=0) (K:=2) (by omega) (by omega)) ?_
 refine u ?_
 refine tbx rfl fun b7=>(u fun b3=>?_)
 refine tst 0 rfl rfl rfl rfl rfl rfl (yD (xR (s:=3) 0 rfl rfl) ?_)
 repeat refine u ?_
 refine zA1 (oca rfl rfl fun _=>yN8) ?_
 repeat refine u ?_
 refine aH (σ:=List Rat) (fun t=>[.blk b7 189 [rtc (t.length * (n + 2) + 2) (sumR t)],.blk b2 29 (zc (Value.agg #[.bool false,.slice none 0 0,.slice none 0 0]))]) (fun pre t=>t=pre∧rlen (sumR t) (t.length * (n + 2) + 2)) [] rfl (iall (by omega) h (by omega)) (fun _=>rfl) rfl mH (by simp [sumR]) ⟨rfl,by simp [sumR]; exact zR nQ (by omega)⟩ (fun pre x post t hx hJ Y y hlp=>?_) (fun t hJ Y _=>?_)
 ·obtain ⟨rfl,hr⟩:=hJ
  have hx2:=h x (by rw [hx]; simp)
  have htl:t.length * (n + 2)≤1 * (n + 2):=Nat.mul_le_mul_right _ (by rw [hx] at hl; simp at hl; omega)
  have hr2:rlen (sumR t + x) ((t ++ [x]).length * (n + 2) + 2):=zR (jW hr hx2) (by rw [List.length_append,List.length_singleton,Nat.succ_mul]; omega)
  repeat refine u ?_
  refine zA1 (oas rfl) ?_
  repeat refine u ?_
  refine ⟨rfl,fun Y hl=>?_⟩
  repeat refine u ?_
  refine zA1 (old rfl rfl) ?_
  repeat refine u ?_
  refine yD (qS (cs':=[ztc (t.length * (n + 2) + 2) (sumR t).num,ntc (t.length * (n + 2) + 2) (sumR t).den]) 0 rfl zS1) ?_
  refine tco [0] rfl rfl rfl (ctoW (oradd (m:=n + 1) (by omega) (by omega) hr2) (fs1 (PSub.refl _) (fs1 zM9 fs0))) ?_
  rintro _ _ ⟨rfl,rfl⟩
  repeat refine u ?_
  refine ⟨t ++ [x],?_,?_⟩
  rotate_left 1
  rotate_left 1
  ·rw [tF]; exact List.Sublist.refl _
  ·exact ⟨rfl,by rw [tF]; exact hr2⟩
 ·obtain ⟨rfl,hr⟩:=hJ
  repeat refine u ?_
  refine zA1 (oldo 0 rfl rfl rfl rfl) ?_
  repeat refine u ?_
  exact e
abbrev dY (l:List Rat):Rat:=l.foldl (· * ·) 1
theorem rA (t:List Rat) (x:Rat):dY (t ++ [x])=dY t * x:=by simp [dY]
theorem wrmul {l:List Rat} (hn:n≤90000) (hl:l.length≤2) (h:∀ x ∈ l,rlen x (n + 1)):CTy prog 172 [sv (sl 3 (l.map (rtq n)))] (ag (rtc (l.length * (n + 2) + 2) (dY l))):=by
 refine fw [.cell 2 29] func172 fun X=>?_
 iterate 2 refine u ?_
 refine u fun b2=>?_
 repeat refine u ?_
 refine zA1 (oca rfl rfl fun _=>krof (k:=1) (K:=2) (by omega) (by omega)) ?_
 refine u ?_
 refine tbx rfl fun b7=>(u fun b3=>?_)
 refine tst 0 rfl rfl rfl rfl rfl rfl (yD (xR (s:=3) 0 rfl rfl) ?_)
 repeat refine u ?_
 refine zA1 (oca rfl rfl fun _=>yN8) ?_
 repeat refine u ?_
 refine aH (σ:=List Rat) (fun t=>[.blk b7 189 [rtc (t.length * (n + 2) + 2) (dY t)],.blk b2 29 (zc (Value.agg #[.bool false,.slice none 0 0,.slice none 0 0]))]) (fun pre t=>t=pre∧rlen (dY t) (t.length * (n + 2) + 2)) [] rfl (iall (by omega) h (by omega)) (fun _=>rfl) rfl mH (by simp [dY]) ⟨rfl,by simp [dY]; exact zR (show rlen 1 1 from ⟨by rw [show (1:Rat).num.natAbs=1 from rfl,xW]; simp,by rw [show (1:Rat).den=1 from rfl,xW]; simp⟩) (by omega)⟩ (fun pre x post t hx hJ Y y hlp=>?_) (fun t hJ Y _=>?_)
 ·obtain ⟨rfl,hr⟩:=hJ
  have hx2:=h x (by rw [hx]; simp)
  have htl:t.length * (n + 2)≤1 * (n + 2):=Nat.mul_le_mul_right _ (by rw [hx] at hl; simp at hl; omega)
  have hr2:rlen (dY t * x) ((t ++ [x]).length * (n + 2) + 2):=zR (uS hr hx2) (by rw [List.length_append,List.length_singleton,Nat.succ_mul]; omega)
  repeat refine u ?_
  refine zA1 (oas rfl) ?_
  repeat refine u ?_
  refine ⟨rfl,fun Y hl=>?_⟩
  repeat refine u ?_
  refine zA1 (old rfl rfl) ?_
  repeat refine u ?_
  refine yD (qS (cs':=[ztc (t.length * (n + 2) + 2) (dY t).num,ntc (t.length * (n + 2) + 2) (dY t).den]) 0 rfl zS1) ?_
  refine tco [0] rfl rfl rfl (ctoW (ormul (m:=n + 1) (by omega) (by omega) hr2) (fs1 (PSub.refl _) (fs1 zM9 fs0))) ?_
  rintro _ _ ⟨rfl,rfl⟩
  repeat refine u ?_
  refine ⟨t ++ [x],?_,?_⟩
  rotate_left 1
  rotate_left 1
  ·rw [rA]; exact List.Sublist.refl _
  ·exact ⟨rfl,by rw [rA]; exact hr2⟩
 ·obtain ⟨rfl,hr⟩:=hJ
  repeat refine u ?_
  refine zA1 (oldo 0 rfl rfl rfl rfl) ?_
  repeat refine u ?_
  exact e
theorem vq_rl {l:List Rat} [h:VQ Ψ n l] {M:Nat→Prop} {w:World} {v:Value} (h1:Ψ.p M w v):∀ x ∈ l,rlen x (n + 1):=fun x hx=>by
 obtain ⟨cs,h3,h2⟩:=(h.h h1).row
 obtain ⟨i,hi,rfl⟩:=List.mem_iff_getElem.1 hx
 obtain ⟨us,_,_,s,a,d,_,g⟩:=h2 i _ (List.getElem?_eq_getElem hi)
 exact g.rlen
theorem yK4 {l:List Rat} [h:VQ Ψ n l] {P:Program} {f:FuncId} {ρ:PV} (hb:Bod P f) (k:(∀ x ∈ l,rlen x (n + 1))→CTy P f [sv (sl 3 (l.map (rtq n)))] ρ):CTy P f [Ψ] ρ :=
 ⟨hb,fun M w vs hM hT hv=>by
  obtain ⟨v,e,h1⟩:=fa1 hv
  subst e
  exact (k (vq_rl h1)).run M w _ hM hT (fs1 vq_q fs0 _ _ _ hv)⟩
theorem zX7 {n N:Nat} {p q:Rat} (e:p=q) (h:rlen q N):PSub (ag (rtc n p)) (ag (rtc N q)):=fun _ _ _ ⟨us,e1,s,a,d,e2,g⟩=>⟨us,e1,s,a,d,e2,by subst e; exact g.relen h⟩
theorem kraddN [h:VQ Ψ n [p,q]] (hn:n≤90000) (hr:rlen (p + q) N):CTy prog 163 [Ψ] (ag (rtc N (p + q))):=yK4 (h:=h) (bo func163) fun k=>aC (yL5 hn (by simp) k) (zX7 (by simp [sumR,Rat.zero_add]) hr)
theorem zO2 [h:VQ Ψ n [p,q]] (hn:n≤90000):CTy prog 163 [Ψ] (ag (rtc (2 * n + 3) (p + q))):=yK4 (h:=h) (bo func163) fun k=>aC (yL5 hn (by simp) k) (zX7 (by simp [sumR,Rat.zero_add]) (zR (jW (k p (by simp)) (k q (by simp))) (by omega)))
theorem yI5 [h:VQ Ψ n [p,q]] (hn:n≤90000):CTy prog 172 [Ψ] (ag (rtc (2 * n + 3) (p * q))):=yK4 (h:=h) (bo func172) fun k=>aC (wrmul hn (by simp) k) (zX7 (by simp [dY,Rat.one_mul]) (zR (uS (k p (by simp)) (k q (by simp))) (by omega)))
theorem rR [h:QR Ψ n p] [h':QR Φ m q] (hn:n≤80000) (hm:m≤80000):CTy prog 171 [Ψ,Φ] (ag (rtc (n + m + 3) (p - q))):=zJ5 (bo func171) fun hr hs=>by
 have e:p + -q=p - q:=(Rat.sub_eq_add_neg p q).symm
 refine fw [.cell 4 29] func171 fun X=>?_
 iterate 4 refine u ?_
 refine u fun b4=>?_
 iterate 2 refine u ?_
 refine zL 5 mixed rfl rfl ?_
 repeat refine u ?_
 refine d1 (oca rfl rfl fun _=>krneg (by omega)) ?_
 repeat refine u ?_
 refine d1 (oca rfl rfl fun _=>kraddN (N:=n + m + 3) (by omega) (zR (jW hr (cJ hs)) (by omega))) ?_
 repeat refine u ?_
 refine ⟨[_],rsc 0 rfl rfl rfl rfl rs0,xJ ?_⟩
 exact zX7 e (e ▸ zR (jW hr (cJ hs)) (by omega))
end
end Go.Proofs.YtalkinejknjidaaGreatDoor
set_option maxHeartbeats 1000000
namespace Go.Proofs.YtalkinejknjidaaGreatDoor
open Go.SL Go.RowKit Go.Proofs Tryz
theorem k7of {k:Nat} (hk:k < 9223372036854775808):CTy prog 46 [exP (.int .i64 ((k:Nat):Int))] (ag (rtc 2 ((k:Nat):Rat))):=by
 refine fw [.cell 2 29] func46 fun X=>?_
 iterate 2 refine u ?_
 refine u fun b2=>?_
 repeat refine u ?_
 refine zA1 (oca rfl rfl fun _=>k5of (N:=2) (by omega) (by omega)) ?_
 repeat refine u ?_
 refine tst 0 rfl rfl rfl rfl rfl rfl ?_
 repeat refine u ?_
 refine ⟨[_],rsc 0 rfl rfl rfl rfl rs0,xJ ?_⟩
 rw [← xW]
 exact zY4 (q:=((k:Nat):Rat)) rfl rfl (by omega) (by rw [xW]; simp <;> omega)
theorem k8of {k l:Nat} (hk:k < 9223372036854775808) (hl:l < 9223372036854775808):CTy prog 68 [exP (.int .i64 ((k:Nat):Int)),exP (.int .i64 ((l:Nat):Int))] (ag (st [rtc 2 ((k:Nat):Rat),rtc 2 ((l:Nat):Rat)])):=by
 refine fw [.cell 4 39] func68 fun X=>?_
 iterate 2 refine u ?_
 refine u fun b4=>?_
 repeat refine u ?_
 refine zA1 (oca rfl rfl fun _=>k7of (by omega)) ?_
 repeat refine u ?_
 refine zA1 (oca rfl rfl fun _=>k7of (by omega)) ?_
 repeat refine u ?_
 refine tst 0 rfl rfl rfl rfl rfl rfl ?_
 repeat refine u ?_
 refine ⟨[_],rsc 0 rfl rfl rfl rfl rs0,xJ (PSub.refl _)⟩
end Go.Proofs.YtalkinejknjidaaGreatDoor
namespace Go.Proofs.YtalkinejknjidaaGreatDoor
open Go.SL Go.RowKit Go.Proofs Tryz
instance dfL:Df (N2 × Rat):=⟨((0,0),0)⟩
abbrev rlq (x:N2 × Rat):CT:=rtl x.1 x.2
theorem sumM_at {l:List (N2 × Rat)} {s:Nat} (h:s < l.length):sumM (l.map (·.1)) (s + 1)=sumM (l.map (·.1)) s + min ((l.getD s Df.d).1.1 + (l.getD s Df.d).1.2) 1000:=by
 rw [sumM]
 simp [List.getD_eq_getElem?_getD,List.getElem?_eq_getElem h]
theorem getD_in {α:Type} [Df α] {l:List α} {s:Nat} (h:s < l.length):l.getD s Df.d ∈ l:=by rw [List.getD_eq_getElem?_getD,List.getElem?_eq_getElem h]; exact List.getElem_mem h
set_option maxHeartbeats 4000000 in
theorem w7great {l:List (N2 × Rat)} (hb:∀ x ∈ l.map (·.1),x.1 + x.2≤1000000000000000000):CTy prog 14 [sv (sl 3 (l.map rlq))] (exP (.bool (lE (l.map (·.1))))):=by
 refine ct (rs:=[2]) func14 rfl rfl rfl rfl rfl mG fun X=>(zK (zQ rfl (zA1 (oas rfl) (zA0 (zK (zQ rfl (zA1 (oas rfl) ?_)))))))
 refine zA0 (zK (zK (zQ rfl (zA1 (oas rfl) (zA0 (gG ?_))))))
 refine iQ (σ:=Nat) (fun s=>[(0,True,sv (sl 3 (l.map rlq))),(3,True,exP (.int .i64 ((sumM (l.map (·.1)) s:Nat):Int))),(4,True,exP (.int .i64 ((s:Nat):Int)))]) (fun s=>[]) (fun s=>s≤l.length∧s≤61) (fun s=>l.length - s) (0) (aD (tc rfl (ps_r _) (tc rfl (ps_i rfl) (tc rfl (ps_i rfl) tn))) rfl) ⟨by omega,by omega⟩ (fun s hJ Y _=>?_)
 obtain ⟨h1,h2⟩:=hJ
 have hsm:=zW7 (l.map (·.1)) s
 refine zK (zK (zQ rfl (zA1 (omv rfl) (zA1 (omv rfl) (zA1 (oln rfl) (zA1 (olt rfl rfl) (zA1 (omv rfl) ?_)))))))
 refine t1g rfl rfl (omv rfl) (t1g rfl rfl (ole rfl rfl) (zA1 (opk rfl rfl rfl) (zA0 ?_)))
 refine t_if rfl (fun c0=>?_) (fun c0=>?_)
 ·have hc:=dand c0
  have hbs:=hb _ (List.mem_map_of_mem (getD_in (l:=l) (s:=s) (by omega)))
  refine gI (zK (gG (zL 18 mixed rfl rfl (d1 (omv rfl) (d1 (omv rfl) (d1 (omv rfl) (d1 (oix s rfl rfl rfl (fun _=>rfl) (fun _=>by omega)) ?_)))))))
  refine d1 (ofx rfl) (d1 (ofx rfl) (d1 (old rfl rfl) (d1 (oll rfl) (d1 (omv rfl) (d1 (omv rfl) (d1 (oix s rfl rfl rfl (fun _=>rfl) (fun _=>by omega)) (d1 (ofx rfl) ?_)))))))
  refine d1 (old rfl rfl) (d1 (oll rfl) (d1 (oad rfl rfl (by omega)) (d1 (omn rfl rfl) (d1 (oad rfl rfl (by omega)) (d1 (oas rfl) (d0 (zA0 ?_)))))))
  refine zQ rfl (zA1 (omv rfl) (zA1 (oad rfl rfl (by omega)) (zA1 (oas rfl) (zA0 ?_))))
  exact ⟨s + 1,aD (tc rfl (ps_r _) (tc rfl (ps_i (by rw [sumM_at (by omega)]; omega)) (tc rfl (ps_i (by omega)) tn))) rfl,⟨by omega,by omega⟩,by omega⟩
 ·have hc:=dor c0
  refine bX (zK (zQ rfl (zA1 (omv rfl) (zA1 (oln rfl) (zA1 (ogt rfl rfl) (zA1 (omv rfl) (t1g rfl rfl (omv rfl) ?_)))))))
  refine t1g rfl rfl (ogt rfl rfl) (zA1 (opk rfl rfl rfl) (zA1 (oas rfl) (zA0 (jV ?_))))
  exact tr1 rfl (psb (by
   unfold lE
   rw [Bool.eq_iff_iff]
   simp only [Bool.or_eq_true,decide_eq_true_eq,List.length_map]
   rcases Nat.lt_or_ge 60 l.length with c | c
   ·exact ⟨fun _ => .inl c,fun _ => .inl (by omega)⟩
   ·rw [show s=l.length by omega]; omega))
theorem k7great {l:List (N2 × Rat)} {ls:List N2} {cs:List CT} (e:ls=l.map (·.1)) (ec:cs=l.map rlq) (hb:∀ x ∈ ls,x.1 + x.2≤1000000000000000000):CTy prog 14 [sv (sl 3 cs)] (exP (.bool (lE ls))):=by
 subst e; subst ec; exact w7great hb
end Go.Proofs.YtalkinejknjidaaGreatDoor
set_option maxHeartbeats 4000000
namespace Go.Proofs.YtalkinejknjidaaGreatDoor
open Go.SL Go.RowKit Go.Proofs Tryz
section
variable {xs ys : List Nat} {Ψ Φ : PV}
theorem k2down {j:Int} [h:VX Ψ xs] (hl:xs.length≤100000000):CTy prog 241 [Ψ,exP (.int .i64 j)] (sv (ntx (limbs (val xs / 2 ^ cntN j 65536)))):=yG (k2downx hl) (fs1 vx_q (fs1 (PSub.refl _) fs0))
theorem k2up {j:Int} [h:VX Ψ xs] (hl:xs.length≤100000000):CTy prog 244 [Ψ,exP (.int .i64 j)] (sv (ntx (limbs (val xs * 2 ^ cntN j 65536)))):=yG (yP2 hl) (fs1 vx_q (fs1 (PSub.refl _) fs0))
theorem k1cmp [h:VX Ψ xs] [k:VX Φ ys] (hl:xs.length≤1000000000) (hm:ys.length≤1000000000):CTy prog 242 [Ψ,Φ] (exP (.int .i64 (cmpN (val xs) (val ys)))):=yG (yJ6 hl hm) (fs1 vx_q (fs1 vx_q fs0))
end
theorem kplain7 {a b:Nat} (ha:a < 18446744073709551616) (hb:b < 18446744073709551616):CTy prog 166 [exP (.int .u64 (a:Int)),exP (.int .u64 (b:Int))] (exP (.int .u64 ((Nat.gcd a b:Nat):Int))):=by
 refine fw [.tmp 4] func166 fun X=>?_
 repeat refine u ?_
 refine lp (σ:=Nat × Nat) [4] (fun s=>[(0,True,exP (.int .u64 ((s.1:Nat):Int))),(1,True,exP (.int .u64 ((s.2:Nat):Int)))]) (fun s=>[]) (fun s=>s.1 < 18446744073709551616∧s.2 < 18446744073709551616∧Nat.gcd s.1 s.2=Nat.gcd a b) (fun s=>s.2) ((a,b)) (⟨ha,hb,rfl⟩) fun s hJ Y _=>?_
 obtain ⟨p,q⟩:=s
 dsimp only at hJ ⊢
 obtain ⟨hp,hq,hg⟩:=hJ
 repeat refine u ?_
 refine ti (fun c0=>?_) fun c0=>?_
 iterate 2 refine u ?_
 refine zL 6 mixed rfl rfl ?_
 repeat refine u ?_
 refine d1 (ormw rfl rfl (by (have e0:=dt c0; omega))) ?_
 repeat refine u ?_
 rotate_left 1
 repeat refine u ?_
 refine e ?_
 refine ps_i ?_
 rotate_left 1
 ·have h1:0 < q:=by have:=dt c0; omega
  have hlt:=Nat.mod_lt p h1
  refine nxt ((q,p % q)) ?_
  ·exact ⟨hq,by dsimp only; omega,by dsimp only; rw [← hg,Nat.gcd_comm,← Nat.gcd_rec,Nat.gcd_comm]⟩
 ·have h1:q=0:=by have:=df c0; omega
  rw [← hg,h1,Nat.gcd_zero_right]
theorem ktwos {xs:List Nat} (hx:∀ x ∈ xs,x < 4294967296) (h0:val xs ≠ 0) (hl:xs.length≤1000000):CTy prog 240 [sv (ntx xs)] (exP (.int .i64 ((tz (val xs):Nat):Int))):=by
 refine fw [.tmp 2] func240 fun X=>?_
 repeat refine u ?_
 refine lp (σ:=Nat) [0,2] (fun s=>[(3,True,exP (.int .i64 ((32 * s:Nat):Int))),(4,True,exP (.int .i64 ((s:Nat):Int)))]) (fun s=>[]) (fun s=>s≤xs.length∧∀ j,j < s→xs.getD j 0=0) (fun s=>xs.length - s) (0) (⟨by omega,by omega⟩) fun s hJ Y _=>?_
 obtain ⟨j1,j2⟩:=hJ
 have hs:s < xs.length:=by
  rcases Nat.lt_or_ge s xs.length with h | h
  ·exact h
  ·exact absurd (val_zero_all fun j hj=>j2 j (by omega)) h0
 repeat refine u ?_
 refine ti (fun c0=>?_) fun c0=>?_
 repeat refine u ?_
 rotate_left 1
 iterate 8 refine u ?_
 refine zA1 (oix s rfl rfl rfl (fun _=>(by omega)) (fun _=>(by omega))) ?_
 repeat refine u ?_
 rotate_left 1
 ·have h1:=dand c0
  refine ⟨s + 1,tes ?_ ?_ (List.Sublist.refl _),?_,(by omega)⟩
  refine tc rfl (ps_r _) (tc rfl (ps_r _) (tn))
  refine tc rfl (ps_r _) (tc rfl (ps_r _) (tn))
  refine ⟨by omega,fun j hj=>?_⟩
  rcases Nat.lt_or_ge j s with c | c
  ·exact j2 j c
  ·obtain rfl:j=s:=by omega
   exact Int.natCast_eq_zero.1 h1.2
 ·have hx0:xs.getD s 0 ≠ 0:=fun e=>dor c0 ⟨by omega,Int.natCast_eq_zero.2 e⟩
  have hx2:xs.getD s 0 < 4294967296:=yK hx s
  have htz:=tz_limbs hx j2 hs hx0
  have h32:=oG (n:=32) hx0 (Nat.lt_of_lt_of_eq hx2 (by decide))
  refine lp (σ:=Nat × Nat) [2] (fun t=>[(3,True,exP (.int .i64 ((32 * s + t.1:Nat):Int))),(5,True,exP (.int .u32 ((t.2:Nat):Int)))]) (fun t=>[]) (fun t=>t.2 ≠ 0∧t.2 < 4294967296∧tz (xs.getD s 0)=t.1 + tz t.2) (fun t=>t.2) ((0,xs.getD s 0)) (⟨hx0,hx2,by simp⟩) fun t hJ Y _=>?_
  obtain ⟨n,t⟩:=t
  dsimp only at hJ ⊢
  obtain ⟨k1,k2,k3⟩:=hJ
  repeat refine u ?_
  refine ti (fun c1=>?_) fun c1=>?_
  repeat refine u ?_
  rotate_left 1
  repeat refine u ?_
  refine e ?_
  refine ps_i ?_
  rotate_left 1
  ·have h2:t % 2=0:=by have:=dt c1; omega
   have:=zV4 k1 h2
   exact nxt ((n + 1,t / 2)) (by (simp only [qP]; omega))
  ·have h2:t % 2=1:=by have:=df c1; omega
   have:=zR4 h2
   rw [htz,k3,this]; rfl
theorem tz_bd {x n:Nat} (h0:x ≠ 0) (h:(limbs x).length≤n) (hn:n≤2000):cntN ((tz x:Nat):Int) 65536=tz x:=by
 have:=zK9 h0 h
 exact cntN_id (m:=65536) (by omega)
theorem zI1 {A:Nat} (h0:A ≠ 0) (hl:(limbs A).length≤2000):CTy prog 240 [sv (ntx (limbs A))] (exP (.int .i64 ((tz A:Nat):Int))):=by
 have:=ktwos (yQ A) (by rw [zJ]; exact h0) (by omega)
 rwa [zJ] at this
theorem kodL {A:Nat} (h0:A ≠ 0) (hl:(limbs A).length≤2000):CTy prog 241 [sv (ntx (limbs A)),exP (.int .i64 ((tz A:Nat):Int))] (sv (ntx (limbs (od A)))):=by
 have:=k2down (Ψ:=sv (ntx (limbs A))) (j:=((tz A:Nat):Int)) (show (limbs A).length≤100000000 by omega)
 rw [zJ,tz_bd h0 hl (by omega)] at this
 exact this
theorem kcmpL {A B:Nat} (h1:(limbs A).length≤2000) (h2:(limbs B).length≤2000):CTy prog 242 [sv (ntx (limbs A)),sv (ntx (limbs B))] (exP (.int .i64 (cmpN A B))):=by
 have:=k1cmp (Ψ:=sv (ntx (limbs A))) (Φ:=sv (ntx (limbs B))) (by omega) (by omega)
 rwa [zJ,zJ] at this
theorem yN6 {A B:Nat} (h1:(limbs A).length≤2000) (h2:(limbs B).length≤2000):CTy prog 243 [sv (ntx (limbs A)),sv (ntx (limbs B))] (tu [sv (ntx (limbs (A - B))),exP (.int .i64 (if A < B then 10 else 0))]):=by
 have:=zO7 (xs:=limbs A) (ys:=limbs B) (by omega) (by omega)
 rwa [zJ,zJ] at this
theorem kgcd4 {xs ys:List Nat} (hx:∀ x ∈ xs,x < 4294967296) (hy:∀ x ∈ ys,x < 4294967296) (h1:xs.length≤2000) (h2:ys.length≤2000):CTy prog 168 [sv (ntx xs),sv (ntx ys)] (sv (ntx (limbs (Nat.gcd (val xs) (val ys))))):=by
 have hlx:(limbs (val xs)).length≤2000:=Nat.le_trans (xZ hx) h1
 have hly:(limbs (val ys)).length≤2000:=Nat.le_trans (xZ hy) h2
 have ex:=@zM (val xs)
 have ey:=@zM (val ys)
 have hc:∀ b:Bool,(decide (((limbs (val xs)).length:Int)=0) || decide (((limbs (val ys)).length:Int)=0))=b→(b=true→val xs=0 ∨ val ys=0)∧(b=false→val xs ≠ 0∧val ys ≠ 0):=fun b h=>by
  subst h; simp only [Bool.or_eq_true,Bool.or_eq_false_iff,decide_eq_true_eq,decide_eq_false_iff_not]; omega
 refine fw [.tmp 4] func168 fun X=>?_
 repeat refine u ?_
 refine zA1 (oca rfl rfl fun _=>gX (by omega)) ?_
 repeat refine u ?_
 refine zA1 (oca rfl rfl fun _=>gX (by omega)) ?_
 repeat refine u ?_
 refine ti (fun c0=>?_) fun c0=>?_
 repeat refine u ?_
 refine zA1 (oca rfl rfl fun _=>yJ7 (xss:=[limbs (val xs),limbs (val ys)]) (by (simp; omega)) (by (simp; done))) ?_
 repeat refine u ?_
 refine e ?_
 rotate_left 1
 repeat refine u ?_
 refine zA1 (oca rfl rfl fun _=>zI1 ?_ (by omega)) ?_
 rotate_left 1
 repeat refine u ?_
 refine zA1 (oca rfl rfl fun _=>zI1 ?_ (by omega)) ?_
 rotate_left 1
 repeat refine u ?_
 rotate_left 1
 ·have h0:=(hc _ c0.h).1 rfl
  rw [show (List.map val [limbs (val xs),limbs (val ys)]).sum=Nat.gcd (val xs) (val ys) from by
   simp only [List.map_cons,List.map_nil,List.sum_cons,List.sum_nil,zJ]
   rcases h0 with h0 | h0 <;> rw [h0] <;> simp]
  exact PSub.refl _
 ·exact ((hc _ c0.h).2 rfl).1
 ·exact ((hc _ c0.h).2 rfl).2
 obtain ⟨hx0,hy0⟩:=(hc _ c0.h).2 rfl
 have hmin:min (tz (val xs)) (tz (val ys)) < 64000:=by have:=zK9 hx0 hlx; omega
 refine lp (σ:=Nat × Nat) [4,5] (fun s=>[(0,True,sv (ntx (limbs s.1))),(1,True,sv (ntx (limbs s.2)))]) (fun s=>[]) (fun s=>GI (Nat.gcd (od (val xs)) (od (val ys))) s.1 s.2∧(limbs s.1).length≤2000∧(limbs s.2).length≤2000) (fun s=>s.1 + s.2) ((val xs,val ys)) (⟨⟨hy0,fun _=>rfl,fun h=>absurd h hx0⟩,hlx,hly⟩) fun s hJ Y _=>?_
 obtain ⟨A,B⟩:=s
 dsimp only at hJ ⊢
 obtain ⟨hg,hA,hB⟩:=hJ
 have eA:=@zM A
 have hB0:B ≠ 0:=hg.1
 have lA:=Nat.le_trans (yC (zY9 A)) hA
 have lB:=Nat.le_trans (yC (zY9 B)) hB
 repeat refine u ?_
 refine ti (fun c1=>?_) fun c1=>?_
 repeat refine u ?_
 refine zA1 (oca rfl rfl fun _=>zI1 (by (have e0:=dt c1; omega)) (by omega)) ?_
 refine zA1 (oca rfl rfl fun _=>kodL (by (have e0:=dt c1; omega)) (by omega)) ?_
 repeat refine u ?_
 refine zA1 (oca rfl rfl fun _=>zI1 (by omega) (by omega)) ?_
 refine zA1 (oca rfl rfl fun _=>kodL (by omega) (by omega)) ?_
 repeat refine u ?_
 refine zA1 (oca rfl rfl fun _=>kcmpL (by omega) (by omega)) ?_
 repeat refine u ?_
 refine ti (fun c2=>?_) fun c2=>?_
 repeat refine u ?_
 refine zA1 (oca rfl rfl fun _=>yN6 (by omega) (by omega)) ?_
 repeat refine u ?_
 rotate_left 1
 repeat refine u ?_
 refine zA1 (oca rfl rfl fun _=>yN6 (by omega) (by omega)) ?_
 repeat refine u ?_
 rotate_left 1
 repeat refine u ?_
 refine zA1 (oca rfl rfl fun _=>k2up (by omega)) ?_
 repeat refine u ?_
 refine e ?_
 rotate_left 1
 ·have hA0:A ≠ 0:=by have:=dt c1; omega
  have hlt:od A < od B:=qY.1 (dt c2)
  obtain ⟨g1,g2⟩:=(yB2 hg hA0).2 (by omega)
  refine ⟨(od B - od A,od A),tes ?_ ?_ (List.Sublist.refl _),?_,(by omega)⟩
  refine tc rfl (ps_r _) (tc rfl (ps_r _) (tn))
  refine tc rfl (ps_r _) (tc rfl (ps_r _) (tn))
  exact ⟨g1,Nat.le_trans (yC (Nat.sub_le _ _)) lB,lA⟩
 ·have hA0:A ≠ 0:=by have:=dt c1; omega
  have hlt:¬ od A < od B:=fun h=>df c2 (qY.2 h)
  obtain ⟨g1,g2⟩:=(yB2 hg hA0).1 (by omega)
  refine ⟨(od A - od B,od B),tes ?_ ?_ (List.Sublist.refl _),?_,(by omega)⟩
  refine tc rfl (ps_r _) (tc rfl (ps_r _) (tn))
  refine tc rfl (ps_r _) (tc rfl (ps_r _) (tn))
  exact ⟨g1,Nat.le_trans (yC (Nat.sub_le _ _)) lA,lB⟩
 ·have hA0:A=0:=by have:=df c1; omega
  rw [zJ,cntN_min (by omega),hg.2.2 hA0,← gcd_od hx0 hy0]
  exact PSub.refl _
end Go.Proofs.YtalkinejknjidaaGreatDoor
