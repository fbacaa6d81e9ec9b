/- Lemmas and walks of functions; no statement. -/
import Derived.Test.YtflobagimodmgaaGreatDoorPa
set_option linter.unusedVariables false
set_option linter.unusedSimpArgs false
set_option maxRecDepth 100000
namespace Go.SL
open Go.RowKit
section strct
variable {P : Program} {r : Option Nat} {N : Nat} {all : Array Oper} {K : Pd} {D : List Deferred} {E : Env} {w : World} {rest : List Oper}
theorem zW {d:Nat} {x:Operand} {t':TypeId} {pos:String} {af:Array Edge} {ad:Addr} (hd:Nat.blt d N=true) (hx:ev E x=some (.pointer (some ad)))
  (h:Ops P r N all K rest D ((d,.pointer (some ad)) :: E) w):Ops P r N all K (⟨some d,.nilCheck x,t',pos,af,none⟩ :: rest) D E w :=
 xD hd (by intro c hc; cases hc) (fun ac ha=>by simp only [execOp,ha.ev hx]; rfl) h
theorem run_fieldAt {s:TypeId} {f:Nat} {fields:Array Field} {fd:Field} {b o sz bytes:Nat} {z:Value} (hs:P.underlying s=some (.struct fields)) (hf:fields[f]? = some fd) (hz:Sz P fd.type sz bytes z) (h0:Nat.beq sz 0=false) (w:World) :
  (Instr.fieldAt s (.pointer (some ⟨b,o,none⟩)) f).run P w = .ok (.pointer (some ⟨b,o + fd.offset,none⟩)) w:=by
 have h0':sz ≠ 0:=Nat.ne_of_beq_eq_false h0
 have hf':=hf
 simp [Instr.fieldAt,run_underlying hs,Instr.sureAddr,fieldPlace,qF hz,Result.andThen,hf',h0',gN]
theorem kZ {d:Nat} {x:Operand} {s t':TypeId} {pos:String} {af:Array Edge} {f:Nat} {fields:Array Field} {fd:Field} {b o sz bytes:Nat} {z:Value} (k:Nat) (hd:Nat.blt d N=true)
  (hs:P.underlying s=some (.struct fields)) (hf:fields[f]? = some fd) (hk:fd.offset=k) (hz:Sz P fd.type sz bytes z) (h0:Nat.beq sz 0=false) (hx:ev E x=some (.pointer (some ⟨b,o,none⟩)))
  (h:Ops P r N all K rest D ((d,.pointer (some ⟨b,o + k,none⟩)) :: E) w):Ops P r N all K (⟨some d,.fieldAddr s x f,t',pos,af,none⟩ :: rest) D E w :=
 xD hd (by intro c hc; cases hc) (fun ac ha=>by
  subst hk
  simp only [execOp,ha.ev hx,Sem.run_bind,run_fieldAt hs hf hz h0 w,Result.andThen]; rfl) h
theorem zL {d:Nat} {x:Operand} {s t':TypeId} {pos:String} {af:Array Edge} {f:Nat} {fields:Array Field} {fd:Field} {b sz bytes:Nat} {z:Value} (k:Nat) (hd:Nat.blt d N=true)
  (hs:P.underlying s=some (.struct fields)) (hf:fields[f]? = some fd) (hk:fd.offset=k) (hz:Sz P fd.type sz bytes z) (h0:Nat.beq sz 0=false) (hx:ev E x=some (.pointer (some ⟨b,0,none⟩)))
  (h:Ops P r N all K rest D ((d,.pointer (some ⟨b,k,none⟩)) :: E) w):Ops P r N all K (⟨some d,.fieldAddr s x f,t',pos,af,none⟩ :: rest) D E w :=
 kZ k hd hs hf hk hz h0 hx (by rw [Nat.zero_add]; exact h)
def Plc (P:Program) (t:TypeId) (szs:List Nat):Prop:=∃ fields it z places,P.underlying t=some (.struct fields)∧P.info? t=some it∧it.zero=some z∧z.cells.size=szs.sum ∧
 fields.toList.mapM (fun f=>(P.info? f.type).map fun i=>(f.offset,i.size))=some places∧∀ i,i < szs.length→places[i]? = some ((szs.take i).sum,szs.getD i 0)
def plcs (szs:List Nat):List (Nat × Nat):=(List.range szs.length).map fun i=>((szs.take i).sum,szs.getD i 0)
def plcB (P:Program) (t:TypeId) (szs:List Nat):Bool:=match P.underlying t,P.info? t with
 | some (.struct fields),some it=>match it.zero with
  | some z=>Nat.beq z.cells.size szs.sum && decide (fields.toList.mapM (fun f=>(P.info? f.type).map fun i=>(f.offset,i.size))=some (plcs szs))
  | none=>false
 | _,_=>false
theorem eF {P:Program} {t:TypeId} {szs:List Nat} (h:plcB P t szs=true):Plc P t szs:=by
 unfold plcB at h
 split at h
 case h_1 fields it h1 h2 =>
  split at h
  case h_1 z h3 =>
   simp only [Bool.and_eq_true,decide_eq_true_eq] at h
   refine ⟨fields,it,z,plcs szs,h1,h2,h3,Nat.eq_of_beq_eq_true h.1,h.2,fun i hi=>?_⟩
   simp [plcs,List.getElem?_map,List.getElem?_range hi]
  case h_2=>cases h
 case h_2=>cases h
def Cls:List Value→List (List Value)→Prop
 | [],[]=>True
 | v :: vs,c :: cs=>v.cells=c.toArray∧Cls vs cs
 | _,_=>False
theorem take_mid {α:Type} (a b:List α) (u:α) (k:Nat) (h:a.length=k):(a ++ u :: b).take (k + 1)=a ++ [u]:=by
 subst h; rw [List.take_append,List.take_of_length_le (by omega)]; simp
theorem drop_mid {α:Type} (a b:List α) (u:α) (k m:Nat) (h:a.length=k):(a ++ u :: b).drop (k + 1 + m)=b.drop m:=by
 subst h; rw [List.drop_append]; simp [Nat.add_assoc,Nat.add_comm 1 m]
theorem iP:∀ (c arr:List Value) (p n:Nat),p + n + c.length≤arr.length →
  (c.zipIdx n).foldl (fun (cs:Array Value) (x:Value × Nat)=>cs.setIfInBounds (p + x.2) x.1) arr.toArray=(arr.take (p + n) ++ c ++ arr.drop (p + n + c.length)).toArray
 | [],arr,p,n,h=>by simp
 | u :: c,arr,p,n,h=>by
  simp only [List.length_cons] at h
  have e1:arr.toArray.setIfInBounds (p + n) u=(arr.set (p + n) u).toArray:=by simp
  rw [List.zipIdx_cons,List.foldl_cons,e1,iP c (arr.set (p + n) u) p (n + 1) (by simp; omega)]
  have e2:arr.set (p + n) u=arr.take (p + n) ++ u :: arr.drop (p + n + 1):=by rw [List.set_eq_take_append_cons_drop,if_pos (by omega)]
  have hl:(arr.take (p + n)).length=p + n:=by simp; omega
  rw [e2,show p + (n + 1)=(p + n) + 1 from rfl,take_mid _ _ _ _ hl,drop_mid _ _ _ _ _ hl,List.drop_drop]
  simp [Nat.add_assoc,Nat.add_comm 1]
theorem mB {places:List (Nat × Nat)}:∀ (vs:List Value) (cs:List (List Value)) (pre old:List Value) (k:Nat),Cls vs cs→(∀ i,i < cs.length→places[k + i]? = some (pre.length + ((cs.take i).map List.length).sum,(cs.getD i []).length))→old.length=(cs.map List.length).sum →
  Instr.fill (places.toArray[·]?) (pre ++ old).toArray ((vs.zipIdx k).map fun x=>(x.2,x.1))=some (pre ++ cs.flatten).toArray
 | [],[],pre,old,k,_,_,ho=>by
  have:old=[]:=by simpa using ho
  subst this; simp [Instr.fill]
 | [],_ :: _,_,_,_,h,_,_=>h.elim
 | _ :: _,[],_,_,_,h,_,_=>h.elim
 | v :: vs,c :: cs,pre,old,k,⟨h1,h2⟩,hp,ho=>by
  have hp0:=hp 0 (by simp)
  simp at hp0
  simp at ho
  have ih:=mB vs cs (pre ++ c) (old.drop c.length) (k + 1) h2 (fun i hi=>by
   have:=hp (i + 1) (by simp; omega)
   rw [show k + 1 + i=k + (i + 1) by omega,this]; simp; omega) (by simp; omega)
  simp only [List.zipIdx_cons,List.map_cons,Instr.fill]
  have e0:places.toArray[k]? = some (pre.length,c.length):=by simpa using hp0
  simp only [e0]
  rw [if_neg (by rw [h1]; simp; omega)]
  have e:(v.cells.zipIdx.foldl (fun (cs:Array Value) (x:Value × Nat)=>cs.setIfInBounds (pre.length + x.2) x.1) (pre ++ old).toArray)=(pre ++ c ++ old.drop c.length).toArray:=by
   rw [h1]
   have hle:c.length≤old.length:=by omega
   have:=iP c (pre ++ old) pre.length 0 (by simp; omega)
   have e4:c.toArray.zipIdx=(c.zipIdx 0).toArray:=by simp
   rw [e4,List.foldl_toArray,this]
   simp [List.drop_append]
  rw [e,ih]; simp
theorem uF {d:Nat} {t t':TypeId} {pos:String} {af:Array Edge} {szs:List Nat} {parts:Array (Nat × Operand)} {vs:List Value} {cs:List (List Value)} (hd:Nat.blt d N=true)
  (ht:Plc P t szs) (hi:parts.toList.map (·.1)=List.range szs.length) (hx:evs E (parts.toList.map (·.2))=some vs) (hc:Cls vs cs) (hsz:cs.map List.length=szs)
  (h:Ops P r N all K rest D ((d,.agg cs.flatten.toArray) :: E) w):Ops P r N all K (⟨some d,.build t parts,t',pos,af,none⟩ :: rest) D E w:=by
 refine xD hd (by intro c hc; cases hc) (fun a ha=>?_) h
 obtain ⟨fields,it,z,places,p1,p2,p3,p4,p5,p6⟩:=ht
 have hlen:∀ (vs:List Value) (cs:List (List Value)),Cls vs cs→vs.length=cs.length:=by
  intro vs
  induction vs with
  | nil=>intro cs h; cases cs with
   | nil=>rfl
   | cons=>exact h.elim
  | cons v vs ih=>intro cs h; cases cs with
   | nil=>exact h.elim
   | cons c cs=>simp [ih cs h.2]
 have hparts:parts.toList.map (fun x=>(x.1,a.eval x.2))=vs.zipIdx.map fun x=>(x.2,x.1):=by
  have h3:=ha.evs hx
  have hl:=hlen _ _ hc
  apply List.ext_getElem
  ·have h2:=congrArg List.length hi; have h4:=congrArg List.length hsz; simp at h2 h4; simp; omega
  ·intro n hn1 hn2
   simp at hn1 hn2
   have e1:(parts.toList.map (·.1))[n]'(by simpa using hn1)=n:=by simp [hi]
   have e2:((parts.toList.map (·.2)).map a.eval)[n]'(by simpa using hn1)=vs[n]'(by omega):=by simp [h3]
   simp at e1 e2
   simp [e1,e2]
 have hf:=mB (places:=places) vs cs [] z.cells.toList 0 hc (fun i hi=>by
  have h4:=congrArg List.length hsz
  simp at h4
  have:=p6 i (by omega)
  rw [Nat.zero_add,this,← hsz]; simp [List.map_take,List.getD_eq_getElem?_getD,List.getElem?_map,List.getElem?_eq_getElem hi]) (by rw [hsz]; simpa using p4)
 have e1:(Instr.build t (parts.map fun (i,x)=>(i,a.eval x))).run P w = .ok (.agg cs.flatten.toArray) w:=by
  refine run_build (P:=P) w t _ _ ?_
  unfold Program.built
  rw [p2,p1]
  simp only [p3,p5]
  rw [Array.toList_map,show (List.map (fun (x:Nat × Operand)=>match x with | (i,x)=>(i,a.eval x)) parts.toList)=vs.zipIdx.map fun x=>(x.2,x.1) from hparts]
  simpa using hf
 simp only [execOp,Sem.run_bind,e1,Result.andThen]; rfl
theorem ops_add64 {d:Nat} {f:FuncId} {xs:List Operand} {ts:Array TypeId} {t':TypeId} {pos:String} {af:Array Edge} {fn:Func} {a b c:Nat} (hd:Nat.blt d N=true)
    (hf:P.funcs[f]? = some fn) (hname:(fn.name == "runtime.NumGoroutine")=false) (hb:fn.body.isNone=true) (hn:Extern.findNext fn=none) (he:Extern.find fn=some add64Entry)
    (hxs:evs E xs=some [.int .u64 (a:Int),.int .u64 (b:Int),.int .u64 (c:Int)]) (hc:c≤1)
    (h:Ops P r N all K rest D ((d,.tuple #[.int .u64 (((a + b + c) % 18446744073709551616:Nat):Int),.int .u64 (((a + b + c) / 18446744073709551616:Nat):Int)]) :: E) w) :
    Ops P r N all K (⟨some d,.call ⟨.value (.func f),xs.toArray,ts⟩,t',pos,af,none⟩ :: rest) D E w :=
  xD hd (by intro c hc; cases hc) (fun ac ha=>by
    have e1:(xs.toArray.map ac.eval)=#[.int .u64 (a:Int),.int .u64 (b:Int),.int .u64 (c:Int)]:=by rw [List.map_toArray,ha.evs hxs]
    have e2:=run_callFunc_extern (P:=P) hf hname hb hn he #[.int .u64 (a:Int),.int .u64 (b:Int),.int .u64 (c:Int)] w
    rw [run_add64 (a:Int) b c (by omega) (by omega) (by omega) (by omega)] at e2
    have e3:ac.eval (.func f) = .func (.func f) #[] #[]:=rfl
    simp only [execOp,resolve,e1,e3,Deferred.ofValue,Sem.run_bind,Sem.run_pure,Result.andThen,invoke]
    simp only [Result.andThen] at e2
    simp only [Array.empty_append,Array.append_empty,e2]
    rfl) h
end strct
theorem bK {P:Program} {w:World} {t te:TypeId} {b i:Nat} {cs:List Value} {u:Value} (ht:Flat P t) (hb:Blk w b te cs) (hu:cs[i]? = some u):(loadVar t ⟨b,i,none⟩).run P w = .ok u w:=by
 have:w.cell? ⟨b,i,none⟩=some u:=by rw [hb.cell]; exact hu
 simp [loadVar,ht w,this]
def Rs (S:Nat→Prop) (a b:World):Prop:=b.os=a.os∧Tp a b∧b.output=a.output∧a.heap.size≤b.heap.size∧∀ k,k < a.heap.size→¬ S k→b.heap[k]? = a.heap[k]?
theorem bG {S:Nat→Prop}:∀ a b c,Rs S a b→Rs S b c→Rs S a c:=fun a b c ⟨h1,h2,h3,h4,h5⟩ ⟨k1,k2,k3,k4,k5⟩ =>
 ⟨k1.trans h1,k2.trans h2,k3.trans h3,Nat.le_trans h4 k4,fun k hk hs=>(k5 k (by omega) hs).trans (h5 k hk hs)⟩
theorem lX {S:Nat→Prop}:∀ a b,Rb a b→Rs S a b:=fun a b h=>⟨h.os,h.tape,h.output,h.size,fun k hk _=>h.block k hk⟩
theorem dD {S:Nat→Prop} (w:World):Rs S w { w with drawn:=w.drawn + 1 }:=lX _ _ (rK w)
theorem dE {b:Nat} {w w':World} (h:Chg w w' b):Rs (·=b) w w':=⟨h.os,h.tape,h.output,by rw [h.size]; exact Nat.le_refl _,fun k _ hk=>h.other k hk⟩
theorem Le.of_rs {Fz M S:Nat→Prop} {w w':World} (h:Rs S w w') (hM:∀ k,S k→M k) (hF:∀ k,S k→¬ Fz k):Le Fz M w M w' :=
 ⟨h.1,h.2.1,h.2.2.1,h.2.2.2.1,fun k hk hf=>h.2.2.2.2 k hk (fun c=>hF k c hf),fun k hk hm=>h.2.2.2.2 k hk (fun c=>hm (hM k c)),fun _ h => .inl h,fun ho k hk=>Nat.lt_of_lt_of_le (ho k hk) h.2.2.2.1⟩
theorem Blk.rs {S:Nat→Prop} {w w':World} {b:Nat} {t:TypeId} {cs:List Value} (h:Blk w b t cs) (hr:Rs S w w') (hs:¬ S b):Blk w' b t cs:=(hr.2.2.2.2 b h.lt hs).trans h
theorem sM {w:World} {b c:Nat} {t u:TypeId} {cs ds:List Value} (h:Blk w b t cs) (k:Blk w c u ds) (hne:Nat.beq t u=false ∨ cs.length ≠ ds.length):b ≠ c:=by
 intro e; subst e
 have:=Option.some.inj ((show w.heap[b]? = _ from h).symm.trans k)
 injection this with h1 h2
 rcases hne with hne | hne
 ·exact Nat.ne_of_beq_eq_false hne h2
 ·apply hne; have:=congrArg Array.size h1; simpa using this
theorem nV {P:Program} {r:Option Nat} {N:Nat} {all:Array Oper} {K:Pd} {D:List Deferred} {E:Env} {w:World} {rest:List Oper} {d:Nat} {x ix:Operand} {t e t':TypeId} {pos:String} {af:Array Edge} {b o n c bytes:Nat} {z:Value} {k:IntKind} {i:Int} (j:Nat) (hd:Nat.blt d N=true)
  (ht:P.underlying t=some (.slice e)) (he:Sz P e 1 bytes z) (hx:ev E x=some (.slice (some ⟨b,o,none⟩) n c)) (hi:ev E ix=some (.int k i)) (hij:i=(j:Int)) (hj:j < n)
  (h:Ops P r N all K rest D ((d,.pointer (some ⟨b,o + j,none⟩)) :: E) w) :
  Ops P r N all K (⟨some d,.indexAddr t x ix,t',pos,af,none⟩ :: rest) D E w:=by
 refine xD hd (by intro c hc; cases hc) (fun a ha=>?_) h
 have e1:(Instr.indexAt t (.slice (some ⟨b,o,none⟩) n c) (.int k i)).run P w = .ok (.pointer (some ⟨b,o + j,none⟩)) w:=by
  subst hij
  simp [Instr.indexAt,asIntOf,run_underlying ht,Result.andThen,qF he,hj,gN]
 simp only [execOp,ha.ev hx,ha.ev hi,Sem.run_bind,e1,Result.andThen]; rfl
theorem qN {P:Program} {r:Option Nat} {N:Nat} {all:Array Oper} {K:Pd} {D:List Deferred} {E:Env} {w:World} {rest:List Oper} {d:Nat} {x ix:Operand} {t e t':TypeId} {pos:String} {af:Array Edge} {b n c bytes:Nat} {z:Value} {k:IntKind} {i:Int} (j:Nat) (hd:Nat.blt d N=true)
  (ht:P.underlying t=some (.slice e)) (he:Sz P e 1 bytes z) (hx:ev E x=some (.slice (some ⟨b,0,none⟩) n c)) (hi:ev E ix=some (.int k i)) (hij:i=(j:Int)) (hj:j < n)
  (h:Ops P r N all K rest D ((d,.pointer (some ⟨b,j,none⟩)) :: E) w) :
  Ops P r N all K (⟨some d,.indexAddr t x ix,t',pos,af,none⟩ :: rest) D E w:=nV j hd ht he hx hi hij hj (by rw [Nat.zero_add]; exact h)
theorem oZ {α:Type} {f:Nat→α} {n:Nat} {pre post:List α} {x:α} (h:(List.range n).map f=pre ++ x :: post):pre.length < n∧x=f pre.length:=by
 have hl:=congrArg List.length h
 simp at hl
 have hx:=congrArg (fun l=>l[pre.length]?) h
 simp [List.getElem?_map,List.getElem?_range (show pre.length < n by omega)] at hx
 exact ⟨by omega,hx.symm⟩
theorem wE {α:Type} (f:Nat→α) {n k:Nat} (h:k < n):∃ post,(List.range n).map f=(List.range k).map f ++ f k :: post:=by
 obtain ⟨m,rfl⟩:∃ m,n=k + 1 + m:=⟨n - (k + 1),by omega⟩
 exact ⟨((List.range m).map (k + 1 + ·)).map f,by rw [List.range_add,List.range_succ]; simp⟩
theorem nJ {α:Type} (f:Nat→α) (k:Nat):(List.range (k + 1)).map f=(List.range k).map f ++ [f k]:=by rw [List.range_succ]; simp
theorem cD {v:Value} (h:v.oneCell'=true):v.cells=[v].toArray:=by cases v <;> first | rfl | simp [Value.oneCell'] at h
theorem own_rs {sz:Nat} {S:Nat→Prop} {w w':World} {e:TypeId} {v:Value} {m:Nat} {xs:List Value} (h:w.ownsRow 0 e sz v m xs) (r:Rs S w w') (hs:∀ k,v.ownBlock=some k→¬ S k):w'.ownsRow 0 e sz v m xs:=by
 obtain ⟨h1,h2 | ⟨g,cap,cur,h3,h4,h5,h6⟩⟩:=h
 ·exact ⟨h1,.inl h2⟩
 ·exact ⟨h1,.inr ⟨g,cap,cur,h3,h4,(r.2.2.2.2 g (Array.getElem?_eq_some_iff.1 h5).1 (hs g (by rw [h3]; rfl))).trans h5,h6⟩⟩
theorem Fresh.rs {e:TypeId} {w0 w w':World} {v:Value} {xs:List Nat} {b:Nat} (h:Fresh e w0 w v xs) (hb:b < w0.heap.size) (r:Rs (·=b) w w'):Fresh e w0 w' v xs :=
 ⟨own_rs h.own r (fun k hk e=>by have:=h.new k hk; subst e; omega),h.new,h.lt,h.len⟩
theorem Fresh.below {e:TypeId} {w0 w w':World} {v:Value} {xs:List Nat} (h:Fresh e w0 w v xs) (r:Bel w.heap.size w w'):Fresh e w0 w' v xs:=⟨xA h.own r,h.new,h.lt,h.len⟩
theorem Fresh.nil {e:TypeId} {w w':World}:Fresh e w w' (.slice none 0 0) []:=⟨bX,fun k hk=>by simp [Value.ownBlock] at hk,by simp,by simp⟩
theorem ops_sliceb {P:Program} {r:Option Nat} {N:Nat} {all:Array Oper} {K:Pd} {D:List Deferred} {E:Env} {w:World} {rest:List Oper} {d:Nat} {x lo hi:Operand} {t e t':TypeId} {pos:String} {af:Array Edge} {b n c bytes:Nat} {z:Value} {k k':IntKind} (l m:Nat) (hd:Nat.blt d N=true)
  (ht:P.underlying t=some (.slice e)) (he:Sz P e 1 bytes z) (hx:ev E x=some (.slice (some ⟨b,0,none⟩) n c)) (hlo:ev E lo=some (.int k (l:Int))) (hhi:ev E hi=some (.int k' (m:Int))) (hlm:l < m) (hmc:m≤c)
  (h:Ops P r N all K rest D ((d,.slice (some ⟨b,l,none⟩) (m - l) (c - l)) :: E) w) :
  Ops P r N all K (⟨some d,.slice t x (some lo) (some hi) none,t',pos,af,none⟩ :: rest) D E w:=by
 refine aX l m c hd ht he hx ⟨_,hlo⟩ ⟨_,hhi⟩ rfl (by omega) hmc (Nat.le_refl _) ?_
 rw [if_neg (by omega)]
 simpa [gN] using h
def ExtF (P:Program) (f:FuncId) (e:Array Value→Sem Value):Prop:=∃ fn,P.funcs[f]? = some fn∧(fn.name == "runtime.NumGoroutine")=false∧fn.body.isNone=true∧Extern.findNext fn=none∧Extern.find fn=some e
theorem ops_add64' {P:Program} {r:Option Nat} {N:Nat} {all:Array Oper} {K:Pd} {D:List Deferred} {E:Env} {w:World} {rest:List Oper} {d:Nat} {f:FuncId} {xs:List Operand} {ts:Array TypeId} {t':TypeId} {pos:String} {af:Array Edge} {a b c:Nat} (hd:Nat.blt d N=true)
  (hf:ExtF P f add64Entry) (hxs:evs E xs=some [.int .u64 (a:Int),.int .u64 (b:Int),.int .u64 (c:Int)]) (hc:c≤1)
  (h:Ops P r N all K rest D ((d,.tuple #[.int .u64 (((a + b + c) % 18446744073709551616:Nat):Int),.int .u64 (((a + b + c) / 18446744073709551616:Nat):Int)]) :: E) w) :
  Ops P r N all K (⟨some d,.call ⟨.value (.func f),xs.toArray,ts⟩,t',pos,af,none⟩ :: rest) D E w:=by
 obtain ⟨fn,h1,h2,h3,h4,h5⟩:=hf
 exact ops_add64 hd h1 h2 h3 h4 h5 hxs hc h
theorem short_step {i H n o x T:Nat} (hn:0 < n) (hx:x < 4294967296) (ho:o=H % n) (hT:T=4294967296 ^ (i + 1) * (H / n)) :
  T + 4294967296 ^ i * ((o * 4294967296 + x) / n)=4294967296 ^ i * ((x + 4294967296 * H) / n)∧(o * 4294967296 + x) % n=(x + 4294967296 * H) % n∧(o * 4294967296 + x) / n < 4294967296:=by
 have hon:o < n:=by rw [ho]; exact Nat.mod_lt _ hn
 have e:x + 4294967296 * H=(o * 4294967296 + x) + n * (4294967296 * (H / n)):=by
  have h1:=Nat.div_add_mod H n
  rw [← ho] at h1
  have h2:4294967296 * H=4294967296 * (n * (H / n)) + 4294967296 * o:=by rw [← Nat.mul_add,h1]
  rw [h2,Nat.mul_left_comm]; omega
 refine ⟨?_,?_,?_⟩
 ·rw [e,Nat.add_mul_div_left _ _ hn,hT,Nat.pow_succ,Nat.mul_add,Nat.mul_assoc]; omega
 ·rw [e,Nat.add_mul_mod_self_left]
 ·rw [Nat.div_lt_iff_lt_mul hn]
  have:(o + 1) * 4294967296≤n * 4294967296:=Nat.mul_le_mul_right _ hon
  rw [Nat.mul_comm 4294967296 n]; omega
theorem wU {P:Program} {r:Option Nat} {N:Nat} {Kn Kr:Pd} {Ke Ke':Nat→Pd} {D:List Deferred} {E:Env} {w:World} {x y:Code} (Ec Ej:Env) (hE:Sub Ej E)
  (hx:Wp P r N x (fun D' E' w'=>D'=D∧w'=w∧Sub (Ec ++ Ej) E') Ke Kr D E w) (hy:Wp P r N y Kn Ke' Kr D (Ec ++ Ej) w):Wp P r N x (fun D E w=>Wp P r N y Kn Ke' Kr D E w) Ke Kr D E w :=
 mY hx fun D' E' w' ⟨h1,h2,h3⟩=>by subst h1; subst h2; exact wp_sub h3 hy
theorem cW {w:World} {b:Nat} {t:TypeId} {rs:List Nat} {ex:List Value} {j:Nat} (B:Blk w b t (rs.map lw ++ ex)) (hj:j < rs.length):w.cell? ⟨b,j,none⟩=some (lw (rs.getD j 0)):=by
 rw [B.cell,List.getElem?_append_left (by simpa using hj)]; exact gA hj
theorem sX {rs:List Nat} {ex:List Value} {j v:Nat} (hj:j < rs.length):(rs.map lw ++ ex).set j (lw v)=(rs.set j v).map lw ++ ex:=by
 rw [List.set_append,if_pos (by simpa using hj),List.map_set]
theorem mU (n:Nat):n &&& 4294967295=n % 4294967296:=Nat.and_two_pow_sub_one_eq_mod n 32
theorem less_step {zs:List Nat} {R p i o o' u u' x m y old lo Y:Nat} (hz:p + i < zs.length) (h:val zs + 4294967296 ^ p * (m * Y)=R + 4294967296 ^ (p + i) * (o + u)) (hlo:x * m + o=lo + 4294967296 * o')
  (hy:y + lo + u=old + 4294967296 * u') (hold:zs.getD (p + i) 0=old):val (zs.set (p + i) y) + 4294967296 ^ p * (m * (Y + 4294967296 ^ i * x))=R + 4294967296 ^ (p + (i + 1)) * (o' + u'):=by
 have hv:=bQ (zs:=zs) (j:=p + i) y hz
 rw [hold] at hv
 have e1:4294967296 ^ p * (m * (Y + 4294967296 ^ i * x))=4294967296 ^ p * (m * Y) + 4294967296 ^ (p + i) * (x * m):=by
  rw [Nat.mul_add,Nat.mul_add,Nat.pow_add,Nat.mul_assoc,Nat.mul_left_comm m,Nat.mul_comm m x]
 have e2:4294967296 ^ (p + (i + 1)) * (o' + u')=4294967296 ^ (p + i) * (4294967296 * (o' + u')):=by rw [show p + (i + 1)=(p + i) + 1 from rfl,Nat.pow_succ,Nat.mul_assoc]
 rw [e1,e2]
 generalize 4294967296 ^ (p + i)=Q at *
 have e3:Q * (o + u) + Q * y + Q * (x * m)=Q * old + Q * (4294967296 * (o' + u')):=by rw [← Nat.mul_add,← Nat.mul_add,← Nat.mul_add]; congr 1; omega
 omega
theorem more_step {zs:List Nat} {R p i o O x old Y:Nat} (hz:p + i < zs.length) (h:val zs + 4294967296 ^ (p + i) * o=R + 4294967296 ^ p * Y) (hO:O=o + x + old) (hold:zs.getD (p + i) 0=old) :
  val (zs.set (p + i) (O % 4294967296)) + 4294967296 ^ (p + (i + 1)) * (O / 4294967296)=R + 4294967296 ^ p * (Y + 4294967296 ^ i * x):=by
 have hv:=bQ (zs:=zs) (j:=p + i) (O % 4294967296) hz
 rw [hold] at hv
 have e1:4294967296 ^ p * (Y + 4294967296 ^ i * x)=4294967296 ^ p * Y + 4294967296 ^ (p + i) * x:=by rw [Nat.mul_add,Nat.pow_add,Nat.mul_assoc]
 have e2:4294967296 ^ (p + (i + 1)) * (O / 4294967296)=4294967296 ^ (p + i) * (4294967296 * (O / 4294967296)):=by rw [show p + (i + 1)=(p + i) + 1 from rfl,Nat.pow_succ,Nat.mul_assoc]
 rw [e1,e2]
 generalize 4294967296 ^ (p + i)=Q at *
 have e3:Q * (O % 4294967296) + Q * (4294967296 * (O / 4294967296))=Q * o + Q * x + Q * old:=by rw [← Nat.mul_add,← Nat.mul_add,← Nat.mul_add]; congr 1; omega
 omega
theorem val_high {zs:List Nat} {n:Nat} (h:∀ z ∈ zs,z < 4294967296) (hz:∀ j,n≤j→zs.getD j 0=0):val zs < 4294967296 ^ n:=by
 rw [← dV hz]
 have h1:=jF (zs.take n) (fun z hm=>h z (List.mem_of_mem_take hm))
 exact Nat.lt_of_lt_of_le h1 (Nat.pow_le_pow_right (by omega) (by simp; omega))
theorem Blk.eq {w:World} {b:Nat} {t:TypeId} {cs ds:List Value} (h:Blk w b t cs) (e:cs=ds):Blk w b t ds:=e ▸ h
theorem Blk.le {Fz M M':Nat→Prop} {w w':World} {b:Nat} {t:TypeId} {cs:List Value} (h:Blk w b t cs) (l:Le Fz M w M' w') (hm:¬ M b):Blk w' b t cs:=(l.imm b h.lt hm).trans h
theorem Le.drift_to {Fz T:Nat→Prop} {n:Nat} {w w':World} (l:Le Fz T w T w') (hn:n≤w.heap.size):Drift T n w w' :=
 ⟨l.os,l.tape,l.output,l.size,fun k hk ht=>l.imm k (by omega) ht,fun k cs t fz ht hc=>(l.imm k (Array.getElem?_eq_some_iff.1 hc).1 ht).trans hc⟩
theorem rB {zs:List Nat} {n:Nat} (hz:∀ j,n < j→zs.getD j 0=0):val zs=val (zs.take n) + 4294967296 ^ n * zs.getD n 0:=by
 rw [← jM,dV (fun j hj=>hz j (by omega))]
theorem guess_ok {zs ys:List Nat} {p:Nat} (hzl:∀ z ∈ zs,z < 4294967296) (hz:∀ j,p + ys.length < j→zs.getD j 0=0) (hS:val zs < 4294967296 ^ (p + 1) * val ys) (hy:0 < ys.length) (ht:0 < ys.getD (ys.length - 1) 0) :
  val zs < 4294967296 ^ p * val ys * (min ((zs.getD (p + ys.length) 0 * 4294967296 + zs.getD (p + ys.length - 1) 0) / ys.getD (ys.length - 1) 0) 4294967295 + 1):=by
 rcases Nat.le_total ((zs.getD (p + ys.length) 0 * 4294967296 + zs.getD (p + ys.length - 1) 0) / ys.getD (ys.length - 1) 0) 4294967295 with h | h
 ·rw [Nat.min_eq_left h]
  generalize hT:zs.getD (p + ys.length) 0 * 4294967296 + zs.getD (p + ys.length - 1) 0=T at *
  generalize hv:ys.getD (ys.length - 1) 0=v at *
  obtain ⟨n,hn⟩:∃ n,ys.length=n + 1:=⟨ys.length - 1,by omega⟩
  have e1:val zs=val (zs.take (p + n)) + 4294967296 ^ (p + n) * T:=by
   rw [rB hz,hn,show p + (n + 1)=(p + n) + 1 from rfl,jM,← hT,hn,show p + (n + 1) - 1=p + n by omega,Nat.pow_succ,Nat.mul_add,show p + (n + 1)=(p + n) + 1 from rfl,Nat.mul_assoc,Nat.mul_comm (zs.getD (p + n + 1) 0)]; omega
  have h2:val (zs.take (p + n)) < 4294967296 ^ (p + n):=by
   have:=jF (zs.take (p + n)) (fun z hm=>hzl z (List.mem_of_mem_take hm))
   exact Nat.lt_of_lt_of_le this (Nat.pow_le_pow_right (by omega) (by simp; omega))
  have h3:T + 1≤v * (T / v + 1):=Nat.lt_mul_div_succ T ht
  have h4:4294967296 ^ n * v≤val ys:=by
   have e:val ys=val (ys.take n) + 4294967296 ^ n * v:=by
    rw [rB (zs:=ys) (n:=n) (fun j hj=>jQ (by omega)),← hv,hn,Nat.add_sub_cancel]
   omega
  have h5:val zs < 4294967296 ^ (p + n) * (T + 1):=by rw [e1,Nat.mul_add]; omega
  refine Nat.lt_of_lt_of_le h5 ?_
  calc 4294967296 ^ (p + n) * (T + 1)≤4294967296 ^ (p + n) * (v * (T / v + 1)):=Nat.mul_le_mul_left _ h3
   _=4294967296 ^ p * (4294967296 ^ n * v) * (T / v + 1):=by rw [Nat.pow_add]; simp only [Nat.mul_assoc]
   _≤4294967296 ^ p * val ys * (T / v + 1):=Nat.mul_le_mul_right _ (Nat.mul_le_mul_left _ h4)
 ·rw [Nat.min_eq_right h]
  rw [Nat.pow_succ,Nat.mul_right_comm] at hS; exact hS
theorem pT {S D q z:Nat} (h:z + D * q=S) (h2:S < D * (q + 1)):q=S / D∧z=S % D:=by
 have hD:0 < D:=Nat.pos_of_ne_zero fun e=>by subst e; simp at h2
 have hz:z < D:=by rw [Nat.mul_add] at h2; omega
 rw [← h,Nat.add_mul_div_left _ _ hD,Nat.div_eq_of_lt hz,Nat.add_mul_mod_self_left,Nat.mod_eq_of_lt hz]; omega
theorem high_zero {zs:List Nat} {n:Nat} (h:val zs < 4294967296 ^ n):∀ j,n≤j→zs.getD j 0=0:=fun j hj=>Classical.byContradiction fun c=>by
 have h1:=iZ zs j c
 have h2:(4294967296:Nat) ^ n≤4294967296 ^ j:=Nat.pow_le_pow_right (by omega) hj
 omega
structure Own (M:Nat→Prop) (e:TypeId) (w0 w:World) (v:Value) (xs:List Nat):Prop where
 fresh:Fresh e w0 w v xs
 out:∀ k,v.ownBlock=some k→¬ M k
theorem own_le {sz:Nat} {Fz M M':Nat→Prop} {w w':World} {e:TypeId} {v:Value} {m:Nat} {xs:List Value} (h:w.ownsRow 0 e sz v m xs) (l:Le Fz M w M' w') (hm:∀ k,v.ownBlock=some k→¬ M k):w'.ownsRow 0 e sz v m xs:=by
 obtain ⟨h1,h2 | ⟨g,cap,cur,h3,h4,h5,h6⟩⟩:=h
 ·exact ⟨h1,.inl h2⟩
 ·exact ⟨h1,.inr ⟨g,cap,cur,h3,h4,(l.imm g (Array.getElem?_eq_some_iff.1 h5).1 (hm g (by rw [h3]; rfl))).trans h5,h6⟩⟩
theorem Own.mono {Fz M M':Nat→Prop} {e:TypeId} {w0 w w':World} {v:Value} {xs:List Nat} (h:Own M e w0 w v xs) (l:Le Fz M w M' w'):Own M' e w0 w' v xs :=
 ⟨⟨own_le h.fresh.own l h.out,h.fresh.new,h.fresh.lt,h.fresh.len⟩,fun k hk hm=>(l.chg k hm).elim (h.out k hk) (fun c=>by have:=(h.fresh.own.lt k hk).2; omega)⟩
theorem Own.drift {M T:Nat→Prop} {n:Nat} {e:TypeId} {w0 w w':World} {v:Value} {xs:List Nat} (h:Own M e w0 w v xs) (d:Drift T n w w') (hT:∀ k,T k→M k):Own M e w0 w' v xs :=
 ⟨⟨uY h.fresh.own d (fun k hk c=>h.out k hk (hT k c)),h.fresh.new,h.fresh.lt,h.fresh.len⟩,h.out⟩
theorem Own.nat {M:Nat→Prop} {e:TypeId} {w0 w:World} {v:Value} {xs:List Nat} (h:Own M e w0 w v xs):IsNat M w v xs:=⟨uC h.fresh.own h.out h.fresh.len,h.fresh.lt⟩
theorem Own.of {M:Nat→Prop} {e:TypeId} {w0 wc w:World} {v:Value} {xs:List Nat} (hf:Fresh e wc w v xs) (hM:OkM M wc) (hs:w0.heap.size≤wc.heap.size):Own M e w0 w v xs :=
 ⟨hf.less hs,fun k hk hm=>by have:=hM k hm; have:=hf.new k hk; omega⟩
theorem rs_grown {w w':World} {row:Option Nat} (h:Gro w w' row):Rs (fun k=>row=some k) w w':=⟨h.os,h.tape,h.output,h.size,fun k hk hs=>h.block k hk (fun e=>hs e.symm)⟩
theorem own_to_blk {w:World} {e:TypeId} {v:Value} {xs:List Nat} {n:Nat} (h:w.ownsRow 0 e 1 v n (xs.map lw)) (hn:0 < n):∃ b cap ex,v = .slice (some ⟨b,0,none⟩) n cap∧Blk w b e (xs.map lw ++ ex)∧cap=n + ex.length:=by
 obtain ⟨b,cur,cap,ho⟩:=tH h hn
 refine ⟨b,cap,cur.drop n,ho.eq,?_,?_⟩
 ·have:=ho.blk; rw [← List.take_append_drop n cur,ho.take] at this; exact this
 ·have:=ho.len; have:=ho.le; simp; omega
theorem Le.of_rs_to {Fz M M' S:Nat→Prop} {w w':World} (h:Rs S w w') (hM:∀ k,S k→M k) (hF:∀ k,S k→¬ Fz k) (h1:∀ k,M' k→M k ∨ w.heap.size≤k) (h2:∀ k,M' k→M k ∨ k < w'.heap.size):Le Fz M w M' w' :=
 ⟨h.1,h.2.1,h.2.2.1,h.2.2.2.1,fun k hk hf=>h.2.2.2.2 k hk (fun c=>hF k c hf),fun k hk hm=>h.2.2.2.2 k hk (fun c=>hm (hM k c)),h1,fun ho k hk=>(h2 k hk).elim (fun c=>Nat.lt_of_lt_of_le (ho k c) h.2.2.2.1) id⟩
theorem Le.of_below_ins {Fz M:Nat→Prop} {w w':World} {b:Nat} (h:Bel w.heap.size w w') (h1:w.heap.size≤b) (h2:b < w'.heap.size):Le Fz M w (Ins b M) w' :=
 ⟨h.os,h.tape,h.output,h.size,fun k hk _=>h.block k hk,fun k hk _=>h.block k hk,fun k hk=>hk.elim (fun e => .inr (by omega)) .inl,fun ho k hk=>hk.elim (fun e=>by omega) (fun c=>Nat.lt_of_lt_of_le (ho k c) h.size)⟩
theorem Keep.drift {M T:Nat→Prop} {w0 w w':World} (h:Keep M w0 w) (d:Drift T w0.heap.size w w') (hT:∀ k,T k→M k):Keep M w0 w' :=
 ⟨Nat.le_trans h.1 d.size,fun k hk hm=>(d.low k hk (fun c=>hm (hT k c))).trans (h.2 k hk hm)⟩
theorem Keep.chg {M:Nat→Prop} {w0 w w':World} {b:Nat} (h:Keep M w0 w) (c:Chg w w' b) (hb:M b):Keep M w0 w' :=
 ⟨by rw [c.size]; exact h.1,fun k hk hm=>(c.other k (fun e=>hm (e ▸ hb))).trans (h.2 k hk hm)⟩
theorem dL {n k:Nat} (h:4294967296 ^ k≤n):k < (limbs n).length:=by
 have h1:=jF (limbs n) (gP n)
 rw [zP] at h1
 exact (Nat.pow_lt_pow_iff_right (by omega)).1 (Nat.lt_of_le_of_lt h h1)
theorem aS {n:Nat} (h:n ≠ 0):4294967296 ^ ((limbs n).length - 1)≤n:=by
 have hne:limbs n ≠ []:=fun e=>h (qA.1 e)
 have:=iZ (limbs n) _ (dM hne)
 rwa [zP] at this
theorem norm_by {Y k:Nat} (hY:Y ≠ 0) (hk:k + gE ((limbs Y).getD ((limbs Y).length - 1) 0)=32):(limbs (Y * 2 ^ k)).length=(limbs Y).length∧0 < (limbs (Y * 2 ^ k)).getD ((limbs (Y * 2 ^ k)).length - 1) 0:=by
 have hne:limbs Y ≠ []:=fun e=>hY (qA.1 e)
 have hlp:0 < (limbs Y).length:=List.length_pos_iff.2 hne
 have hYk:Y * 2 ^ k ≠ 0:=Nat.mul_ne_zero hY (Nat.ne_of_gt (xX k))
 have hb:=bits_limbs hne
 have h1:gE (Y * 2 ^ k)=32 * (limbs Y).length:=by rw [mC _ (Nat.pos_of_ne_zero hY),hb]; omega
 have h2:Y * 2 ^ k < 4294967296 ^ (limbs Y).length:=by rw [eQ,← h1]; exact oJ _
 have h3:=yJ h2
 have h4:4294967296 ^ ((limbs Y).length - 1)≤Y * 2 ^ k:=Nat.le_trans (aS hY) (Nat.le_mul_of_pos_right _ (xX k))
 have h5:=dL h4
 exact ⟨by omega,Nat.pos_of_ne_zero (dM (fun e=>hYk (qA.1 e)))⟩
theorem up_lens {X k:Nat} (hX:X ≠ 0) (hk:k < 32):(limbs X).length≤(limbs (X * 2 ^ k)).length∧(limbs (X * 2 ^ k)).length≤(limbs X).length + 1:=by
 have hne:limbs X ≠ []:=fun e=>hX (qA.1 e)
 have hlp:0 < (limbs X).length:=List.length_pos_iff.2 hne
 have h1:=dL (Nat.le_trans (aS hX) (Nat.le_mul_of_pos_right X (xX k)))
 have h2:X * 2 ^ k < 4294967296 ^ ((limbs X).length + 1):=by
  have h3:=jF (limbs X) (gP X)
  rw [zP] at h3
  have h4:2 ^ k≤4294967296:=bD (by omega)
  calc X * 2 ^ k≤X * 4294967296:=Nat.mul_le_mul_left _ h4
   _ < 4294967296 ^ (limbs X).length * 4294967296:=(Nat.mul_lt_mul_right (by omega)).2 h3
   _=_:=(Nat.pow_succ _ _).symm
 exact ⟨by omega,yJ h2⟩
theorem div_room {X Y k m:Nat} (hY:Y ≠ 0) (hm:m + (limbs Y).length=(limbs X).length + 1):X * 2 ^ k < 4294967296 ^ m * (Y * 2 ^ k):=by
 have hne:limbs Y ≠ []:=fun e=>hY (qA.1 e)
 have hlp:0 < (limbs Y).length:=List.length_pos_iff.2 hne
 have h1:=jF (limbs X) (gP X)
 rw [zP] at h1
 rw [← Nat.mul_assoc]
 refine (Nat.mul_lt_mul_right (xX k)).2 (Nat.lt_of_lt_of_le h1 ?_)
 calc 4294967296 ^ (limbs X).length=4294967296 ^ m * 4294967296 ^ ((limbs Y).length - 1):=by rw [← Nat.pow_add]; congr 1; omega
  _≤_:=Nat.mul_le_mul_left _ (aS hY)
theorem val_digits {N:Nat}:∀ {zs:List Nat} {m:Nat},zs.length=m→(∀ i,i < m→zs.getD i 0=N / 4294967296 ^ i % 4294967296)→val zs=N % 4294967296 ^ m:=by
 intro zs m hl h
 have key:∀ k,k≤m→val (zs.take k)=N % 4294967296 ^ k:=by
  intro k
  induction k with
  | zero=>intro _; simp [val,Nat.mod_one]
  | succ k ih =>
   intro hk
   rw [jM,ih (by omega),h k (by omega),Nat.pow_succ,Nat.mod_mul]
 have:=key m (Nat.le_refl _)
 rwa [List.take_of_length_le (by omega)] at this
theorem quot_digits {A V m:Nat} {zs:List Nat} (hl:zs.length=m) (hV:0 < V) (hA:A < 4294967296 ^ m * V) (h:∀ j,j < m→zs.getD (m - j - 1) 0=A / (4294967296 ^ (m - j - 1) * V) % 4294967296):val zs=A / V:=by
 rw [val_digits (N:=A / V) hl (fun i hi=>by
  have:=h (m - i - 1) (by omega)
  rw [show m - (m - i - 1) - 1=i by omega] at this
  rw [this,Nat.div_div_eq_div_mul,Nat.mul_comm V])]
 exact Nat.mod_eq_of_lt ((Nat.div_lt_iff_lt_mul hV).2 hA)
theorem rest_down {X Y k:Nat} (hY:0 < Y):X * 2 ^ k % (Y * 2 ^ k) / 2 ^ k=X % Y:=by
 rw [Nat.mul_mod_mul_right,Nat.mul_div_cancel _ (xX k)]
theorem zQ3 {a b:Nat} {Q:Nat→Prop} (ha:Q a) (hb:Q b):∀ k,(k=a ∨ k=b)→Q k:=fun k h=>h.elim (fun e=>e ▸ ha) (fun e=>e ▸ hb)
theorem yG {a b:Nat} (h:a≤b):(limbs a).length≤(limbs b).length:=by
 rcases Nat.eq_zero_or_pos a with h0 | h0
 ·subst h0; rw [yW]; exact Nat.zero_le _
 ·have h1:=dL (Nat.le_trans (aS (Nat.ne_of_gt h0)) h)
  omega
theorem qD:Cls [] []:=trivial
theorem jB {v:Value} {vs:List Value} {c:List Value} {cs:List (List Value)} (h:v.cells=c.toArray) (k:Cls vs cs):Cls (v :: vs) (c :: cs):=⟨h,k⟩
end Go.SL
namespace Go.Proofs.YtflobagimodmgaaGreatDoor
open Go.SL Go.RowKit Go.Proofs Tryz
theorem sz3:Sz prog 3 1 8 (.int .i64 0):=by
 have h:(prog.info? 3).map (fun i=>(i.zero,i.size,i.bytes))=some (some (.int .i64 0),1,8):=by kernel_rfl
 obtain ⟨i,h1,h2,h3,h4⟩:=info_parts h
 exact ⟨i,h1,h3,h4,h2⟩
theorem zV5:Flat prog 3:=gS underlying3 rfl
theorem sz4:Sz prog 4 1 1 (.bool false):=by
 have h:(prog.info? 4).map (fun i=>(i.zero,i.size,i.bytes))=some (some (.bool false),1,1):=by kernel_rfl
 obtain ⟨i,h1,h2,h3,h4⟩:=info_parts h
 exact ⟨i,h1,h3,h4,h2⟩
theorem dR:Flat prog 4:=gS underlying4 rfl
theorem sz5:Sz prog 5 1 1 (.int .u8 0):=by
 have h:(prog.info? 5).map (fun i=>(i.zero,i.size,i.bytes))=some (some (.int .u8 0),1,1):=by kernel_rfl
 obtain ⟨i,h1,h2,h3,h4⟩:=info_parts h
 exact ⟨i,h1,h3,h4,h2⟩
theorem flat5:Flat prog 5:=gS underlying5 rfl
theorem sz22:Sz prog 22 1 24 (.slice none 0 0):=by
 have h:(prog.info? 22).map (fun i=>(i.zero,i.size,i.bytes))=some (some (.slice none 0 0),1,24):=by kernel_rfl
 obtain ⟨i,h1,h2,h3,h4⟩:=info_parts h
 exact ⟨i,h1,h3,h4,h2⟩
theorem flat22:Flat prog 22:=gS underlying22 rfl
theorem sz29:Sz prog 29 1 24 (.slice none 0 0):=by
 have h:(prog.info? 29).map (fun i=>(i.zero,i.size,i.bytes))=some (some (.slice none 0 0),1,24):=by kernel_rfl
 obtain ⟨i,h1,h2,h3,h4⟩:=info_parts h
 exact ⟨i,h1,h3,h4,h2⟩
theorem yS:Flat prog 29:=gS underlying29 rfl
theorem sz31:Sz prog 31 2 32 (.agg #[(.bool false),(.slice none 0 0)]):=by
 have h:(prog.info? 31).map (fun i=>(i.zero,i.size,i.bytes))=some (some (.agg #[(.bool false),(.slice none 0 0)]),2,32):=by kernel_rfl
 obtain ⟨i,h1,h2,h3,h4⟩:=info_parts h
 exact ⟨i,h1,h3,h4,h2⟩
theorem lY:Plc prog 31 [1,1]:=eF (by kernel_rfl)
theorem gD:Fold prog 31:=fC underlying31 rfl
theorem sz33:Sz prog 33 3 56 (.agg #[(.bool false),(.slice none 0 0),(.slice none 0 0)]):=by
 have h:(prog.info? 33).map (fun i=>(i.zero,i.size,i.bytes))=some (some (.agg #[(.bool false),(.slice none 0 0),(.slice none 0 0)]),3,56):=by kernel_rfl
 obtain ⟨i,h1,h2,h3,h4⟩:=info_parts h
 exact ⟨i,h1,h3,h4,h2⟩
theorem zS6:Plc prog 33 [2,1]:=eF (by kernel_rfl)
theorem cL:Fold prog 33:=fC underlying33 rfl
theorem sz35:Sz prog 35 6 112 (.agg #[(.bool false),(.slice none 0 0),(.slice none 0 0),(.bool false),(.slice none 0 0),(.slice none 0 0)]):=by
 have h:(prog.info? 35).map (fun i=>(i.zero,i.size,i.bytes))=some (some (.agg #[(.bool false),(.slice none 0 0),(.slice none 0 0),(.bool false),(.slice none 0 0),(.slice none 0 0)]),6,112):=by kernel_rfl
 obtain ⟨i,h1,h2,h3,h4⟩:=info_parts h
 exact ⟨i,h1,h3,h4,h2⟩
theorem zS5:Plc prog 35 [3,3]:=eF (by kernel_rfl)
theorem cK:Fold prog 35:=fC underlying35 rfl
theorem sz55:Sz prog 55 1 24 (.slice none 0 0):=by
 have h:(prog.info? 55).map (fun i=>(i.zero,i.size,i.bytes))=some (some (.slice none 0 0),1,24):=by kernel_rfl
 obtain ⟨i,h1,h2,h3,h4⟩:=info_parts h
 exact ⟨i,h1,h3,h4,h2⟩
theorem flat55:Flat prog 55:=gS underlying55 rfl
theorem sz64:Sz prog 64 12 224 (.agg #[(.bool false),(.slice none 0 0),(.slice none 0 0),(.bool false),(.slice none 0 0),(.slice none 0 0),(.bool false),(.slice none 0 0),(.slice none 0 0),(.bool false),(.slice none 0 0),(.slice none 0 0)]):=by
 have h:(prog.info? 64).map (fun i=>(i.zero,i.size,i.bytes))=some (some (.agg #[(.bool false),(.slice none 0 0),(.slice none 0 0),(.bool false),(.slice none 0 0),(.slice none 0 0),(.bool false),(.slice none 0 0),(.slice none 0 0),(.bool false),(.slice none 0 0),(.slice none 0 0)]),12,224):=by kernel_rfl
 obtain ⟨i,h1,h2,h3,h4⟩:=info_parts h
 exact ⟨i,h1,h3,h4,h2⟩
theorem fold64:Fold prog 64:=fC underlying64 rfl
theorem sz66:Sz prog 66 1 24 (.slice none 0 0):=by
 have h:(prog.info? 66).map (fun i=>(i.zero,i.size,i.bytes))=some (some (.slice none 0 0),1,24):=by kernel_rfl
 obtain ⟨i,h1,h2,h3,h4⟩:=info_parts h
 exact ⟨i,h1,h3,h4,h2⟩
theorem flat66:Flat prog 66:=gS underlying66 rfl
theorem sz79:Sz prog 79 1 8 .nilFunc:=by
 have h:(prog.info? 79).map (fun i=>(i.zero,i.size,i.bytes))=some (some .nilFunc,1,8):=by kernel_rfl
 obtain ⟨i,h1,h2,h3,h4⟩:=info_parts h
 exact ⟨i,h1,h3,h4,h2⟩
theorem flat79:Flat prog 79:=gS underlying79 rfl
theorem sz80:Sz prog 80 1 8 .nilFunc:=by
 have h:(prog.info? 80).map (fun i=>(i.zero,i.size,i.bytes))=some (some .nilFunc,1,8):=by kernel_rfl
 obtain ⟨i,h1,h2,h3,h4⟩:=info_parts h
 exact ⟨i,h1,h3,h4,h2⟩
theorem flat80:Flat prog 80:=gS underlying80 rfl
theorem sz91:Sz prog 91 1 8 .nilFunc:=by
 have h:(prog.info? 91).map (fun i=>(i.zero,i.size,i.bytes))=some (some .nilFunc,1,8):=by kernel_rfl
 obtain ⟨i,h1,h2,h3,h4⟩:=info_parts h
 exact ⟨i,h1,h3,h4,h2⟩
theorem flat91:Flat prog 91:=gS underlying91 rfl
theorem zX3:Sz prog 124 1 8 .nilFunc:=by
 have h:(prog.info? 124).map (fun i=>(i.zero,i.size,i.bytes))=some (some .nilFunc,1,8):=by kernel_rfl
 obtain ⟨i,h1,h2,h3,h4⟩:=info_parts h
 exact ⟨i,h1,h3,h4,h2⟩
theorem mP:Flat prog 124:=gS underlying124 rfl
theorem yI:Sz prog 139 1 4 (.int .u32 0):=by
 have h:(prog.info? 139).map (fun i=>(i.zero,i.size,i.bytes))=some (some (.int .u32 0),1,4):=by kernel_rfl
 obtain ⟨i,h1,h2,h3,h4⟩:=info_parts h
 exact ⟨i,h1,h3,h4,h2⟩
theorem xM:Flat prog 139:=gS underlying139 rfl
theorem flat149:Flat prog 149:=gS underlying149 rfl
theorem zX2:Sz prog 151 1 1 (.int .i8 0):=by
 have h:(prog.info? 151).map (fun i=>(i.zero,i.size,i.bytes))=some (some (.int .i8 0),1,1):=by kernel_rfl
 obtain ⟨i,h1,h2,h3,h4⟩:=info_parts h
 exact ⟨i,h1,h3,h4,h2⟩
theorem zN2:Flat prog 151:=gS underlying151 rfl
theorem oR:Sz prog 153 13 232 (.agg #[(.int .i8 0),(.bool false),(.slice none 0 0),(.slice none 0 0),(.bool false),(.slice none 0 0),(.slice none 0 0),(.bool false),(.slice none 0 0),(.slice none 0 0),(.bool false),(.slice none 0 0),(.slice none 0 0)]):=by
 have h:(prog.info? 153).map (fun i=>(i.zero,i.size,i.bytes))=some (some (.agg #[(.int .i8 0),(.bool false),(.slice none 0 0),(.slice none 0 0),(.bool false),(.slice none 0 0),(.slice none 0 0),(.bool false),(.slice none 0 0),(.slice none 0 0),(.bool false),(.slice none 0 0),(.slice none 0 0)]),13,232):=by kernel_rfl
 obtain ⟨i,h1,h2,h3,h4⟩:=info_parts h
 exact ⟨i,h1,h3,h4,h2⟩
theorem zS7:Plc prog 153 [1,6,6]:=eF (by kernel_rfl)
theorem zN1:Fold prog 153:=fC underlying153 rfl
theorem zX1:Sz prog 159 1 8 (.pointer none):=by
 have h:(prog.info? 159).map (fun i=>(i.zero,i.size,i.bytes))=some (some (.pointer none),1,8):=by kernel_rfl
 obtain ⟨i,h1,h2,h3,h4⟩:=info_parts h
 exact ⟨i,h1,h3,h4,h2⟩
theorem flat159:Flat prog 159:=gS underlying159 rfl
theorem plc163:Plc prog 163 [3]:=eF (by kernel_rfl)
theorem dY:Sz prog 168 1 8 (.int .u64 0):=by
 have h:(prog.info? 168).map (fun i=>(i.zero,i.size,i.bytes))=some (some (.int .u64 0),1,8):=by kernel_rfl
 obtain ⟨i,h1,h2,h3,h4⟩:=info_parts h
 exact ⟨i,h1,h3,h4,h2⟩
theorem aT:Flat prog 168:=gS underlying168 rfl
theorem zX0:Sz prog 183 12 224 (.agg #[(.bool false),(.slice none 0 0),(.slice none 0 0),(.bool false),(.slice none 0 0),(.slice none 0 0),(.bool false),(.slice none 0 0),(.slice none 0 0),(.bool false),(.slice none 0 0),(.slice none 0 0)]):=by
 have h:(prog.info? 183).map (fun i=>(i.zero,i.size,i.bytes))=some (some (.agg #[(.bool false),(.slice none 0 0),(.slice none 0 0),(.bool false),(.slice none 0 0),(.slice none 0 0),(.bool false),(.slice none 0 0),(.slice none 0 0),(.bool false),(.slice none 0 0),(.slice none 0 0)]),12,224):=by kernel_rfl
 obtain ⟨i,h1,h2,h3,h4⟩:=info_parts h
 exact ⟨i,h1,h3,h4,h2⟩
theorem plc183:Plc prog 183 [6,6]:=eF (by kernel_rfl)
theorem fold183:Fold prog 183:=fC underlying183 rfl
theorem zI8:Sz prog 212 1 8 (.pointer none):=by
 have h:(prog.info? 212).map (fun i=>(i.zero,i.size,i.bytes))=some (some (.pointer none),1,8):=by kernel_rfl
 obtain ⟨i,h1,h2,h3,h4⟩:=info_parts h
 exact ⟨i,h1,h3,h4,h2⟩
theorem mO:Flat prog 212:=gS underlying212 rfl
theorem plc219:Plc prog 219 [2]:=eF (by kernel_rfl)
theorem zW9:Sz prog 268 3 24 (.agg #[(.int .i64 0),(.int .i64 0),(.int .i64 0)]):=by
 have h:(prog.info? 268).map (fun i=>(i.zero,i.size,i.bytes))=some (some (.agg #[(.int .i64 0),(.int .i64 0),(.int .i64 0)]),3,24):=by kernel_rfl
 obtain ⟨i,h1,h2,h3,h4⟩:=info_parts h
 exact ⟨i,h1,h3,h4,h2⟩
theorem iR:Flat prog 280:=gS underlying280 rfl
theorem plc282:Plc prog 282 [1,1]:=eF (by kernel_rfl)
theorem bo {f:FuncId} {fn:Func} (h:prog.funcs[f]? = some fn) (k:fn.body.isNone=false∧(fn.name == "runtime.NumGoroutine")=false:=by exact ⟨rfl,by decide⟩):Bod prog f:=⟨fn,h,k⟩
theorem mixed:prog.follows .mixedOrders=true:=by kernel_rfl
theorem yu29:type_of% @underlying29:=@underlying29
theorem yu168:type_of% @underlying168:=@underlying168
theorem yu139:type_of% @underlying139:=@underlying139
theorem yu260:type_of% @underlying260:=@underlying260
theorem yu3:type_of% @underlying3:=@underlying3
theorem yu137:type_of% @underlying137:=@underlying137
theorem yu5:type_of% @underlying5:=@underlying5
theorem yu282:type_of% @underlying282:=@underlying282
theorem yu219:type_of% @underlying219:=@underlying219
theorem yu31:type_of% @underlying31:=@underlying31
theorem yu163:type_of% @underlying163:=@underlying163
theorem yu33:type_of% @underlying33:=@underlying33
end Go.Proofs.YtflobagimodmgaaGreatDoor
namespace Go.SL
open Go Go.RowKit
theorem fz0 (M:Nat→Prop) (w:World):∃ Fz:Nat→Prop,Fz=(· < w.heap.size)∧FOk Fz w∧Le Fz M w M w:=⟨_,rfl,fun _ h=>h,Le.refl _ M w⟩
theorem on0 {P:Program} {r:Option Nat} {N:Nat} {all:Array Oper} {D:List Deferred} {E:Env} {w:World} {d:Nat} {u:Value} (h:get E d=some u):Ops P r N all (fun D' E' w'=>D'=D∧Rb w w'∧∃ v,get E' d=some v∧v=u) [] D E w :=
 zD ⟨rfl,xJ _,_,h,rfl⟩
class Up (Fz M M':Nat→Prop) (w w':World) (A:Prop) (B:outParam Prop):Prop where
 up:Le Fz M w M' w'→A→B
class UpB (w w':World) (A:Prop) (B:outParam Prop):Prop where
 up:Bel w.heap.size w w'→A→B
section
variable {Fz M M' : Nat → Prop} {w w' : World}
section
variable {A0 A1 A2 A3 A4 A5 A6 A7 A8 A9 B0 B1 B2 B3 B4 B5 B6 B7 B8 B9 : Prop} [i0 : Up Fz M M' w w' A0 B0] [i1 : Up Fz M M' w w' A1 B1] [i2 : Up Fz M M' w w' A2 B2] [i3 : Up Fz M M' w w' A3 B3] [i4 : Up Fz M M' w w' A4 B4] [i5 : Up Fz M M' w w' A5 B5] [i6 : Up Fz M M' w w' A6 B6] [i7 : Up Fz M M' w w' A7 B7] [i8 : Up Fz M M' w w' A8 B8] [i9 : Up Fz M M' w w' A9 B9]
theorem up2 (h:Le Fz M w M' w') (a0:A0) (a1:A1):B0∧B1:=⟨i0.up h a0,i1.up h a1⟩
theorem up3 (h:Le Fz M w M' w') (a0:A0) (a1:A1) (a2:A2):B0∧B1∧B2:=⟨i0.up h a0,i1.up h a1,i2.up h a2⟩
theorem up4 (h:Le Fz M w M' w') (a0:A0) (a1:A1) (a2:A2) (a3:A3):B0∧B1∧B2∧B3:=⟨i0.up h a0,i1.up h a1,i2.up h a2,i3.up h a3⟩
theorem up5 (h:Le Fz M w M' w') (a0:A0) (a1:A1) (a2:A2) (a3:A3) (a4:A4):B0∧B1∧B2∧B3∧B4:=⟨i0.up h a0,i1.up h a1,i2.up h a2,i3.up h a3,i4.up h a4⟩
theorem up6 (h:Le Fz M w M' w') (a0:A0) (a1:A1) (a2:A2) (a3:A3) (a4:A4) (a5:A5):B0∧B1∧B2∧B3∧B4∧B5:=⟨i0.up h a0,i1.up h a1,i2.up h a2,i3.up h a3,i4.up h a4,i5.up h a5⟩
theorem up8 (h:Le Fz M w M' w') (a0:A0) (a1:A1) (a2:A2) (a3:A3) (a4:A4) (a5:A5) (a6:A6) (a7:A7):B0∧B1∧B2∧B3∧B4∧B5∧B6∧B7:=⟨i0.up h a0,i1.up h a1,i2.up h a2,i3.up h a3,i4.up h a4,i5.up h a5,i6.up h a6,i7.up h a7⟩
theorem up9 (h:Le Fz M w M' w') (a0:A0) (a1:A1) (a2:A2) (a3:A3) (a4:A4) (a5:A5) (a6:A6) (a7:A7) (a8:A8):B0∧B1∧B2∧B3∧B4∧B5∧B6∧B7∧B8:=⟨i0.up h a0,i1.up h a1,i2.up h a2,i3.up h a3,i4.up h a4,i5.up h a5,i6.up h a6,i7.up h a7,i8.up h a8⟩
theorem up10 (h:Le Fz M w M' w') (a0:A0) (a1:A1) (a2:A2) (a3:A3) (a4:A4) (a5:A5) (a6:A6) (a7:A7) (a8:A8) (a9:A9):B0∧B1∧B2∧B3∧B4∧B5∧B6∧B7∧B8∧B9:=⟨i0.up h a0,i1.up h a1,i2.up h a2,i3.up h a3,i4.up h a4,i5.up h a5,i6.up h a6,i7.up h a7,i8.up h a8,i9.up h a9⟩
end
section
variable {A0 A1 A2 A3 A4 A5 A6 A7 A8 A9 A10 A11 A12 A13 A14 A15 B0 B1 B2 B3 B4 B5 B6 B7 B8 B9 B10 B11 B12 B13 B14 B15 : Prop} [i0 : UpB w w' A0 B0] [i1 : UpB w w' A1 B1] [i2 : UpB w w' A2 B2] [i3 : UpB w w' A3 B3] [i4 : UpB w w' A4 B4] [i5 : UpB w w' A5 B5] [i6 : UpB w w' A6 B6] [i7 : UpB w w' A7 B7] [i8 : UpB w w' A8 B8] [i9 : UpB w w' A9 B9] [i10 : UpB w w' A10 B10] [i11 : UpB w w' A11 B11] [i12 : UpB w w' A12 B12] [i13 : UpB w w' A13 B13] [i14 : UpB w w' A14 B14] [i15 : UpB w w' A15 B15]
theorem ub1 (h:Bel w.heap.size w w') (a0:A0):B0:=i0.up h a0
theorem ub2 (h:Bel w.heap.size w w') (a0:A0) (a1:A1):B0∧B1:=⟨i0.up h a0,i1.up h a1⟩
theorem ub3 (h:Bel w.heap.size w w') (a0:A0) (a1:A1) (a2:A2):B0∧B1∧B2:=⟨i0.up h a0,i1.up h a1,i2.up h a2⟩
theorem ub4 (h:Bel w.heap.size w w') (a0:A0) (a1:A1) (a2:A2) (a3:A3):B0∧B1∧B2∧B3:=⟨i0.up h a0,i1.up h a1,i2.up h a2,i3.up h a3⟩
theorem ub5 (h:Bel w.heap.size w w') (a0:A0) (a1:A1) (a2:A2) (a3:A3) (a4:A4):B0∧B1∧B2∧B3∧B4:=⟨i0.up h a0,i1.up h a1,i2.up h a2,i3.up h a3,i4.up h a4⟩
theorem ub6 (h:Bel w.heap.size w w') (a0:A0) (a1:A1) (a2:A2) (a3:A3) (a4:A4) (a5:A5):B0∧B1∧B2∧B3∧B4∧B5:=⟨i0.up h a0,i1.up h a1,i2.up h a2,i3.up h a3,i4.up h a4,i5.up h a5⟩
theorem ub7 (h:Bel w.heap.size w w') (a0:A0) (a1:A1) (a2:A2) (a3:A3) (a4:A4) (a5:A5) (a6:A6):B0∧B1∧B2∧B3∧B4∧B5∧B6:=⟨i0.up h a0,i1.up h a1,i2.up h a2,i3.up h a3,i4.up h a4,i5.up h a5,i6.up h a6⟩
theorem ub8 (h:Bel w.heap.size w w') (a0:A0) (a1:A1) (a2:A2) (a3:A3) (a4:A4) (a5:A5) (a6:A6) (a7:A7):B0∧B1∧B2∧B3∧B4∧B5∧B6∧B7:=⟨i0.up h a0,i1.up h a1,i2.up h a2,i3.up h a3,i4.up h a4,i5.up h a5,i6.up h a6,i7.up h a7⟩
theorem ub9 (h:Bel w.heap.size w w') (a0:A0) (a1:A1) (a2:A2) (a3:A3) (a4:A4) (a5:A5) (a6:A6) (a7:A7) (a8:A8):B0∧B1∧B2∧B3∧B4∧B5∧B6∧B7∧B8:=⟨i0.up h a0,i1.up h a1,i2.up h a2,i3.up h a3,i4.up h a4,i5.up h a5,i6.up h a6,i7.up h a7,i8.up h a8⟩
theorem ub10 (h:Bel w.heap.size w w') (a0:A0) (a1:A1) (a2:A2) (a3:A3) (a4:A4) (a5:A5) (a6:A6) (a7:A7) (a8:A8) (a9:A9):B0∧B1∧B2∧B3∧B4∧B5∧B6∧B7∧B8∧B9:=⟨i0.up h a0,i1.up h a1,i2.up h a2,i3.up h a3,i4.up h a4,i5.up h a5,i6.up h a6,i7.up h a7,i8.up h a8,i9.up h a9⟩
theorem ub11 (h:Bel w.heap.size w w') (a0:A0) (a1:A1) (a2:A2) (a3:A3) (a4:A4) (a5:A5) (a6:A6) (a7:A7) (a8:A8) (a9:A9) (a10:A10):B0∧B1∧B2∧B3∧B4∧B5∧B6∧B7∧B8∧B9∧B10:=⟨i0.up h a0,i1.up h a1,i2.up h a2,i3.up h a3,i4.up h a4,i5.up h a5,i6.up h a6,i7.up h a7,i8.up h a8,i9.up h a9,i10.up h a10⟩
theorem ub12 (h:Bel w.heap.size w w') (a0:A0) (a1:A1) (a2:A2) (a3:A3) (a4:A4) (a5:A5) (a6:A6) (a7:A7) (a8:A8) (a9:A9) (a10:A10) (a11:A11):B0∧B1∧B2∧B3∧B4∧B5∧B6∧B7∧B8∧B9∧B10∧B11:=⟨i0.up h a0,i1.up h a1,i2.up h a2,i3.up h a3,i4.up h a4,i5.up h a5,i6.up h a6,i7.up h a7,i8.up h a8,i9.up h a9,i10.up h a10,i11.up h a11⟩
theorem ub13 (h:Bel w.heap.size w w') (a0:A0) (a1:A1) (a2:A2) (a3:A3) (a4:A4) (a5:A5) (a6:A6) (a7:A7) (a8:A8) (a9:A9) (a10:A10) (a11:A11) (a12:A12):B0∧B1∧B2∧B3∧B4∧B5∧B6∧B7∧B8∧B9∧B10∧B11∧B12:=⟨i0.up h a0,i1.up h a1,i2.up h a2,i3.up h a3,i4.up h a4,i5.up h a5,i6.up h a6,i7.up h a7,i8.up h a8,i9.up h a9,i10.up h a10,i11.up h a11,i12.up h a12⟩
theorem ub14 (h:Bel w.heap.size w w') (a0:A0) (a1:A1) (a2:A2) (a3:A3) (a4:A4) (a5:A5) (a6:A6) (a7:A7) (a8:A8) (a9:A9) (a10:A10) (a11:A11) (a12:A12) (a13:A13):B0∧B1∧B2∧B3∧B4∧B5∧B6∧B7∧B8∧B9∧B10∧B11∧B12∧B13:=⟨i0.up h a0,i1.up h a1,i2.up h a2,i3.up h a3,i4.up h a4,i5.up h a5,i6.up h a6,i7.up h a7,i8.up h a8,i9.up h a9,i10.up h a10,i11.up h a11,i12.up h a12,i13.up h a13⟩
theorem ub16 (h:Bel w.heap.size w w') (a0:A0) (a1:A1) (a2:A2) (a3:A3) (a4:A4) (a5:A5) (a6:A6) (a7:A7) (a8:A8) (a9:A9) (a10:A10) (a11:A11) (a12:A12) (a13:A13) (a14:A14) (a15:A15):B0∧B1∧B2∧B3∧B4∧B5∧B6∧B7∧B8∧B9∧B10∧B11∧B12∧B13∧B14∧B15:=⟨i0.up h a0,i1.up h a1,i2.up h a2,i3.up h a3,i4.up h a4,i5.up h a5,i6.up h a6,i7.up h a7,i8.up h a8,i9.up h a9,i10.up h a10,i11.up h a11,i12.up h a12,i13.up h a13,i14.up h a14,i15.up h a15⟩
end
instance:Up Fz M M' w w' (OkM M w) (OkM M' w'):=⟨fun l h=>h.mono l⟩
instance:UpB w w' (OkM M w) (OkM M w'):=⟨fun l h=>h.mono (lb l)⟩
instance {F:Nat→Prop}:Up Fz M M' w w' (FOk F w) (FOk F w'):=⟨fun l h=>h.mono l⟩
instance {F:Nat→Prop}:UpB w w' (FOk F w) (FOk F w'):=⟨fun l h=>h.mono (Fz':=fun _=>False) (M:=fun _=>False) (Le.of_below l)⟩
instance {M0:Nat→Prop} {w0:World}:Up Fz M M' w w' (Le Fz M0 w0 M w) (Le Fz M0 w0 M' w'):=⟨fun l h=>h.trans l⟩
instance {F M0:Nat→Prop} {w0:World}:UpB w w' (Le F M0 w0 M w) (Le F M0 w0 M w'):=⟨fun l h=>h.trans (Le.of_below l)⟩
instance {b:Nat} {t:TypeId} {cs:List Value}:UpB w w' (Blk w b t cs) (Blk w' b t cs):=⟨fun l h=>h.below l⟩
instance {v:Value} {xs:List Nat}:Up Fz M M' w w' (IsNat M w v xs) (IsNat M' w' v xs):=⟨fun l h=>h.mono l⟩
instance {v:Value} {xs:List Nat}:UpB w w' (IsNat M w v xs) (IsNat M w' v xs):=⟨fun l h=>h.mono (lb l)⟩
instance {v:Value} {xs:List (List Nat)}:Up Fz M M' w w' (IsNats M w v xs) (IsNats M' w' v xs):=⟨fun l h=>h.mono l⟩
instance {v:Value} {xs:List (List Nat)}:UpB w w' (IsNats M w v xs) (IsNats M w' v xs):=⟨fun l h=>h.mono (lb l)⟩
instance {sz n:Nat} {v:Value} {cs:List Value}:Up Fz M M' w w' (Slc M w sz v n cs) (Slc M' w' sz v n cs):=⟨fun l h=>h.mono l⟩
instance {sz n:Nat} {v:Value} {cs:List Value}:UpB w w' (Slc M w sz v n cs) (Slc M w' sz v n cs):=⟨fun l h=>h.mono (lb l)⟩
instance {n:Nat} {D:List Deferred}:Up Fz M M' w w' (Marks M n D w) (Marks M' n D w'):=⟨fun l h=>h.mono l⟩
instance {n:Nat} {D:List Deferred}:UpB w w' (Marks M n D w) (Marks M n D w'):=⟨fun l h=>h.mono (lb l)⟩
instance {e:TypeId} {w0:World} {v:Value} {xs:List Nat}:Up Fz M M' w w' (Own M e w0 w v xs) (Own M' e w0 w' v xs):=⟨fun l h=>h.mono l⟩
instance {e:TypeId} {w0:World} {v:Value} {xs:List Nat}:UpB w w' (Own M e w0 w v xs) (Own M e w0 w' v xs):=⟨fun l h=>h.mono (lb l)⟩
instance {l:Nat} {o:Obj}:Up Fz M M' w w' (Rec M w l o) (Rec M' w' l o):=⟨fun l h=>h.mono l⟩
instance {l:Nat} {o:Obj}:UpB w w' (Rec M w l o) (Rec M w' l o):=⟨fun l h=>h.mono (lb l)⟩
end
def LenV (v:Value) (n:Nat):Prop:=∃ ad c,v = .slice ad n c
theorem lv_lit {ad:Option Addr} {n c:Nat}:LenV (.slice ad n c) n:=⟨_,_,rfl⟩
theorem lv_nat {M:Nat→Prop} {w:World} {v:Value} {xs:List Nat} (h:IsNat M w v xs):LenV v xs.length:=by obtain ⟨_,_,ad,cap,rfl,_,_⟩:=h.slc; exact ⟨_,_,rfl⟩
theorem lv_nats {M:Nat→Prop} {w:World} {v:Value} {xs:List (List Nat)} (h:IsNats M w v xs):LenV v xs.length:=by obtain ⟨_,⟨_,_,ad,cap,rfl,_,_⟩,_⟩:=h; exact ⟨_,_,rfl⟩
theorem lv_own {w:World} {e:TypeId} {sz m:Nat} {v:Value} {xs:List Value} (h:w.ownsRow 0 e sz v m xs):LenV v m:=by obtain ⟨_,⟨rfl,rfl,_⟩ | ⟨_,_,_,rfl,_⟩⟩:=h <;> exact ⟨_,_,rfl⟩
theorem yT {P:Program} {r:Option Nat} {N:Nat} {all:Array Oper} {K:Pd} {D:List Deferred} {E:Env} {w:World} {rest:List Oper} {d n:Nat} {x:Operand} {t e t':TypeId} {pos:String} {af:Array Edge} {v:Value} (hd:Nat.blt d N=true)
    (ht:P.underlying t=some (.slice e)) (hx:ev E x=some v) (h:Ops P r N all K rest D ((d,.int .i64 (n:Int)) :: E) w) (hv:LenV v n:=by first | exact lv_nat (by assumption) | exact lv_lit | exact lv_nats (by assumption) | exact lv_own (by assumption)) :
    Ops P r N all K (⟨some d,.call ⟨.builtin .len,#[x],#[t]⟩,t',pos,af,none⟩ :: rest) D E w:=by
  obtain ⟨ad,c,rfl⟩:=hv
  exact iG hd ht hx h
theorem New.ne {w w':World} {b c:Nat} {o:Obj} (N:New w w' c o) (h:b < w.heap.size):b ≠ c:=by have:=N.at_; omega
theorem bn {w w':World} {b c:Nat} {o:Obj} {t:TypeId} {cs:List Value} (B:Blk w b t cs) (N:New w w' c o):Blk w' b t cs∧b ≠ c:=⟨B.below N.below,N.ne B.lt⟩
theorem nz {Fz M:Nat→Prop} {w w':World} {b:Nat} {t:TypeId} {cs:Array Value} (hF:FOk Fz w) (hM:OkM M w) (N:New w w' b (.cells cs t (0,0))):Bel w.heap.size w w'∧¬ Fz b∧¬ M b∧Le Fz M w (Ins b M) w'∧Blk w' b t cs.toList :=
  ⟨N.below,hF.new N,hM.new N,Le.of_new N,N.blk⟩
theorem nza {Fz M:Nat→Prop} {w w':World} {b:Nat} {t:TypeId} {us:List Value} (hF:FOk Fz w) (hM:OkM M w) (N:New w w' b (.cells (Value.agg us.toArray).cells t (0,0))):Bel w.heap.size w w'∧¬ Fz b∧¬ M b∧Le Fz M w (Ins b M) w'∧Blk w' b t us :=
  nz hF hM N
theorem lqb {Fz M:Nat→Prop} {w w':World} {b:Nat} (h:Rs (·=b) w w') (hm:M b) (hf:¬ Fz b):Le Fz M w M w':=Le.of_rs h (by rintro _ rfl; exact hm) (by rintro _ rfl; exact hf)
theorem Le.b {M M':Nat→Prop} {w w':World} (h:Le (· < w.heap.size) M w M' w'):Bel w.heap.size w w':=h.below (Nat.le_refl _)
class Mn (Ψ:VP):Prop where
  m:∀ v w w',Ψ v w→Rb w w'→Ψ v w'
theorem mn {Ψ:VP} [h:Mn Ψ]:∀ v w w',Ψ v w→Rb w w'→Ψ v w':=h.m
instance {α:Type} {Ψ:α→VP} [h:∀ x,Mn (Ψ x)]:Mn (fun v w=>∃ x,Ψ x v w):=⟨fun v w w' ⟨x,e⟩ r=>⟨x,(h x).m v w w' e r⟩⟩
instance {Φ Ψ:VP} [h:Mn Φ] [k:Mn Ψ]:Mn (fun v w=>Φ v w∧Ψ v w):=⟨fun v w w' e r=>⟨h.m v w w' e.1 r,k.m v w w' e.2 r⟩⟩
instance {p:Value→Prop}:Mn (fun v _=>p v):=⟨fun _ _ _ h _=>h⟩
instance {M:Nat→Prop} {xs:List Nat}:Mn (fun v w=>IsNat M w v xs):=⟨fun _ _ _ h r=>h.mono (lb r)⟩
instance {p:World→Prop} [h:∀ w w',UpB w w' (p w) (p w')]:Mn (fun _ w=>p w):=⟨fun _ w w' e r=>(h w w').up r e⟩
instance {w w':World} {b o:Nat} {cl:List Value}:UpB w w' (∀ (q:Nat) (u:Value),cl[q]? = some u→w.cell? ⟨b,o + q,none⟩=some u) (∀ (q:Nat) (u:Value),cl[q]? = some u→w'.cell? ⟨b,o + q,none⟩=some u):=⟨fun r h q u hq=>(World.cell?_of_block (w:=w) (a:=⟨b,o + q,none⟩) (r.block b (zO7 (h q u hq)))).trans (h q u hq)⟩
theorem lv1 {P:Program} {E:Env} {w:World} {rs:List ResultVar} {R:Value→World→Prop} {v:Value} (hr:Res P E w rs [v]) (h:R v w):Fin P rs R [] E w:=xF ⟨[v],hr,h⟩
theorem lc {F M0 M:Nat→Prop} {w0 w w':World} {b:Nat} (L:Le F M0 w0 M w) (C:Chg w w' b) (hm:M b) (hf:¬ F b):Le F M w M w':=Le.of_chg C hm hf
theorem lqc {F M0 M:Nat→Prop} {w0 w w':World} {b:Nat} (L:Le F M0 w0 M w) (h:Rs (·=b) w w') (hm:M b) (hf:¬ F b):Le F M w M w':=lqb h hm hf
section
variable {P : Program} {r : Option Nat} {N : Nat} {ops : Array Oper} {D : List Deferred} {E : Env} {w w0 : World} {Kn Kr : Pd} {Ke : Nat → Pd} {id : Nat}
theorem wd (hm:P.follows .mixedOrders=true) (m:Nat) (outs:List Nat) (hl:aF ops m=true)
    (h:DRs P r N ops D E w Rb Rb none (fun Γ=>∀ w',Rb w w'→(∀ k pre post,(none:Option (Nat × (World→Prop) × (World→Prop)))=some (k,pre,post)→post w')→Obl Γ E w' (fun F=>Ops P r N ops Kn (ops.toList.drop m) D F w') outs []) (ops.toList.take m) 0 []) :
    Wp P r N (.region id ops true) Kn Ke Kr D E w:=bP (R:=Rb) (R':=Rb) (st:=none) hm m outs hl rb_trans rb_self (rK _) (fun _ _ _ h=>by cases h) h
theorem dv {F:List (Nat × VP)→Prop} {rest:List Oper} {i:Nat} {Γ:List (Nat × VP)} {R':World→World→Prop} {d:Nat} {op:Op} {t:TypeId} {pos:String} {af:Array Edge} {g:Option (Nat × Bool)} (Ψ:VP)
    (ho:∀ w,Rb w0 w→StI none (ancs ops.toList) i w→Obl Γ E w (fun F=>Ops P r N ops (fun D' E' w'=>D'=D∧R' w w'∧∃ v,get E' d=some v∧Ψ v w') [⟨some d,op,t,pos,af,g⟩] D F w) (yY ops ⟨some d,op,t,pos,af,g⟩) [])
    (h:DRs P r N ops D E w0 Rb R' none F rest (i + 1) ((d,Ψ) :: Γ)) (hm:∀ v w w',Ψ v w→Rb w w'→Ψ v w':=by exact mn):DRs P r N ops D E w0 Rb R' none F (⟨some d,op,t,pos,af,g⟩ :: rest) i Γ:=jE Ψ hm ho h
theorem on1 {all:Array Oper} {d:Nat} {Ψ:VP} {v:Value} (hB:Rb w0 w) (hg:get E d=some v) (h:Ψ v w):Ops P r N all (fun D' E' w'=>D'=D∧Rb w0 w'∧∃ v,get E' d=some v∧Ψ v w') [] D E w:=zD ⟨rfl,hB,v,hg,h⟩
end
theorem ci (M:Nat→Prop) {P:Program} {f:FuncId} {fn:Func} {c:Code} {args:List Value} {w:World} {R:Value→World→Prop} {N:Nat} (hf:P.funcs[f]? = some fn) (hn:fn.ntmps=N)
    (h:∀ Fz:Nat→Prop,Fz=(· < w.heap.size)→FOk Fz w→Le Fz M w M w→Wp P none N c (Fin P fn.results.toList R) (fun _ _ _ _=>False) (Fin P fn.results.toList R) [] (env0 0 args) w) (hb:fn.body=some c:=by rfl) (hN:Nat.ble args.length N=true:=by rfl):CallsV P f args w R:=jL hf hb hn hN (h _ rfl (fun _ h=>h) (Le.refl _ M w))
theorem qZ {α:Type} (n:Nat) (x:α) (xs:List α):(x :: xs).drop (n + 1)=xs.drop n:=rfl
theorem qY {α:Type} (xs:List α):xs.drop 0=xs:=rfl
theorem qX {α:Type} (n:Nat):([]:List α).drop n=[]:=List.drop_nil
theorem qW {α:Type} (xs:List α):xs.toArray.toList=xs:=rfl
end Go.SL
namespace Go.Proofs.YtflobagimodmgaaGreatDoor
open Go.SL Go.RowKit Go.Proofs Tryz
section
variable {M : Nat → Prop} {w : World}
theorem lJ {v:Value} {xs:List Nat} {i:Int} (h:IsNat M w v xs) (k:Nat) (hi:i=(k:Int)) (hM:OkM M w) :
    CallsV prog 308 [v,.int .i64 i] w fun r w'=>Bel w.heap.size w w'∧r=lw (xs.getD k 0)∧xs.getD k 0 < 4294967296:=by
 have hl:=h.len
 refine ci M func308 ntmps308 fun Fz hFz hF LL=>?_
 refine zF (zB (zC rfl rfl (zD (zF (zF (zB (zA rfl rfl (zA rfl rfl ?_))))))))
 refine yT rfl yu29 rfl ?_
 refine jT rfl rfl rfl (zD ?_)
 refine zU rfl (fun hc0=>?_) (fun hc0=>?_)
 ·refine zF (zB (zA rfl rfl (zA rfl rfl (jI (k) rfl yu29 yI rfl rfl (by assumption) (by omega) (by omega) (fun b11 o11 hc11 hb11=>?_)))))
  refine yX rfl xM rfl hc11 (zC rfl rfl (zD (zY ?_)))
  refine lv1 ⟨rfl,trivial⟩ ?_
  exact ⟨by subst hFz; exact LL.b,rfl,h.lim k⟩
 ·refine yE (zF (zB (zC rfl rfl (zD (zY ?_)))))
  refine lv1 ⟨rfl,trivial⟩ ?_
  exact ⟨by subst hFz; exact LL.b,by rw [jQ (by omega)]; rfl,h.lim k⟩
theorem sL {v:Value} {xs:List Nat} (h:IsNat M w v xs) (hl:xs.length≤1099511627776) (hM:OkM M w) :
    CallsV prog 287 [v] w fun r w'=>Bel w.heap.size w w'∧Fresh 139 w w' r xs:=by
 have h0:=h
 obtain ⟨⟨_,_,ad,cap,rfl,hcap,h5⟩,hlt⟩:=h0
 refine ci M func287 ntmps287 fun Fz hFz hF LL=>?_
 refine zF (zB (zC rfl rfl (zD (zF (zF (zB (zA rfl rfl (ops_eqnil rfl ⟨_,yu29⟩ rfl rfl (zD ?_)))))))))
 refine uP rfl (fun hc0=>?_) (fun hc0=>?_)
 ·refine zF (zB (zC rfl rfl (zD (zY ?_))))
  refine lv1 ⟨rfl,trivial⟩ ?_
  have hx:xs=[]:=by
    rcases h5 with h5 | ⟨b,off,rfl,_⟩
    · exact List.length_eq_zero_iff.1 h5
    · simp at hc0
  subst hx
  subst hFz
  exact ⟨LL.b,bL bX kH (by simp) (by simp)⟩
 ·refine yE (zF (zB (yO rfl yu29 yI rfl rfl rfl (by simp) rfl (fun w1 b5 N5=>?_))))
  have nF5:=hF.new N5
  have nM5:=hM.new N5
  have Lw1:=Le.of_new_mo (Fz:=Fz) (M:=M) (v:=Value.slice (some ⟨b5,0,none⟩) 0 0) N5 rfl
  obtain ⟨LL,hM,hF,h⟩:=up4 Lw1 LL hM hF h
  have Of:∀ k,(Value.slice (some ⟨b5,0,none⟩) 0 0).ownBlock=some k→¬ Fz k:=jD nF5
  have Om:∀ k,(Value.slice (some ⟨b5,0,none⟩) 0 0).ownBlock=some k→¬ M k:=jD nM5
  have Ow:=kY (n:=0) (c:=0) N5.blk rfl (Nat.le_refl _) (by omega)
  refine zA rfl rfl (jJ rfl yu29 yI rfl rfl rfl Ow h.slc (nZ _) (by omega) (by omega) (fun v7 w2 A7 G7 S7=>?_))
  have Lw2:=Le.of_grown (Fz:=Fz) (M:=M) G7 S7 A7 Of
  have Omo7:=Om
  replace Of:=jH (w':=w2) Of hF S7
  replace Om:=jG (w':=w2) Om (fun k hk=>hM k (.inr hk)) S7
  obtain ⟨LL,h⟩:=up2 Lw2 LL h
  clear Ow; have Ow:=A7
  refine zC rfl rfl (zD (zY ?_))
  refine lv1 ⟨rfl,trivial⟩ ?_
  subst hFz
  exact ⟨LL.b,bL (by simpa using Ow) Of hlt (by omega)⟩
theorem qR {v:Value} {xs:List Nat} (h:IsNat M w v xs) (hl:xs.length≤1099511627776) (hM:OkM M w) :
    CallsV prog 252 [v] w fun r w'=>Bel w.heap.size w w'∧Fresh 139 w w' r (limbs (val xs)):=by
 refine ci M func252 ntmps252 fun Fz hFz hF LL=>?_
 refine zF (zB (zC rfl rfl (zD (zF (zB (zA rfl rfl ?_))))))
 refine yT rfl yu29 rfl ?_
 refine zC rfl rfl (zD (zF (zX ?_)))
 refine xT (σ:=Nat) [(0,_)] (fun s=>[(3,.int .i64 ((s:Nat):Int))]) (fun s w1=>w1=w∧s≤xs.length∧∀ j,s≤j→xs.getD j 0=0) (fun s=>s) (xs.length) (zI rfl (zI rfl yB)) ?_ (fun s w1 hJ=>?_)
 · exact ⟨rfl,Nat.le_refl _,fun j hj=>jQ hj⟩
 ·obtain ⟨rfl,hs,hz⟩:=hJ
  refine zF (zF (zB (zA rfl rfl (bJ rfl rfl rfl (zA rfl rfl (kU (d:=8) rfl (fun hg2_2=>?_) (fun hg2_2=>?_)))))))
  ·refine yK rfl rfl (zA rfl rfl (yK rfl rfl (zA rfl rfl (yK rfl rfl (jC rfl rfl rfl (by omega) (yK rfl rfl (jI (s - 1) rfl yu29 yI rfl rfl (by assumption) (by omega) (by omega) (fun b12 o12 hc12 hb12=>?_))))))))
   refine yK rfl rfl (yX rfl xM rfl hc12 (yK rfl rfl (qI rfl rfl rfl (jW rfl rfl rfl (zD ?_)))))
   refine zU rfl (fun hc0=>?_) (fun hc0=>?_)
   ·refine yE (zX (zB (zA rfl rfl (jC rfl rfl rfl (by omega) (zC rfl rfl (zD ?_))))))
    refine ⟨rfl,s - 1,(zR rfl (by congr 1; omega) (zI rfl yB)),?_,?_⟩
    exact ⟨rfl,by omega,fun j hj=>by
      rcases Nat.lt_or_ge j s with h1 | h1
      · obtain rfl:j=s - 1:=by omega
        omega
      · exact hz j h1⟩
    omega
   ·refine xI (xK (zF (zB (zA rfl rfl (zA rfl rfl (zA rfl rfl ?_))))))
    refine jS (M:=M) 0 s rfl yu29 yI rfl h.slc rfl ⟨_,rfl⟩ ⟨rfl,_,rfl⟩ (Nat.zero_le _) hs (fun v21 hv21=>?_)
    have hn21:IsNat M w1 v21 (xs.take s):=⟨by simpa [List.map_take,hs] using hv21,fun x hx=>h.lt x (List.mem_of_mem_take hx)⟩
    refine zK rfl (bo func287) rfl rfl ?_
    refine (sL (by assumption) (by first | omega | (simp only [List.length_take]; omega)) hM).mono ?_
    rintro v22 w2 ⟨hB22,hf22⟩
    have hM22:=hM
    have hS22:=LL.size
    obtain ⟨LL,h⟩:=ub2 hB22 LL h
    have hn22:=hf22.nat hM22
    replace hf22:=hf22.less hS22
    refine zC rfl rfl (zD (zY ?_))
    refine lv1 ⟨rfl,trivial⟩ ?_
    have e:xs.take s=limbs (val xs):=dA h.lt hs hz (by first | (left; omega) | (right; omega))
    rw [e] at hf22
    subst hFz
    exact ⟨LL.b,hf22⟩
  ·refine yL rfl rfl rfl rfl (yL rfl rfl rfl rfl (yL rfl rfl rfl rfl (yL rfl rfl rfl rfl (yL rfl rfl rfl rfl (yL rfl rfl rfl rfl (jW rfl rfl rfl (zD (aV rfl (xI (xK (zF (zB (zA rfl rfl (zA rfl rfl ?_))))))))))))))
   refine zA rfl rfl ?_
   refine jS (M:=M) 0 s rfl yu29 yI rfl h.slc rfl ⟨_,rfl⟩ ⟨rfl,_,rfl⟩ (Nat.zero_le _) hs (fun v21 hv21=>?_)
   have hn21:IsNat M w1 v21 (xs.take s):=⟨by simpa [List.map_take,hs] using hv21,fun x hx=>h.lt x (List.mem_of_mem_take hx)⟩
   refine zK rfl (bo func287) rfl rfl ?_
   refine (sL (by assumption) (by first | omega | (simp only [List.length_take]; omega)) hM).mono ?_
   rintro v22 w3 ⟨hB22,hf22⟩
   have hM22:=hM
   have hS22:=LL.size
   obtain ⟨LL,h⟩:=ub2 hB22 LL h
   have hn22:=hf22.nat hM22
   replace hf22:=hf22.less hS22
   refine zC rfl rfl (zD (zY ?_))
   refine lv1 ⟨rfl,trivial⟩ ?_
   have e:xs.take s=limbs (val xs):=dA h.lt hs hz (by first | (left; omega) | (right; omega))
   rw [e] at hf22
   subst hFz
   exact ⟨LL.b,hf22⟩
theorem of_c {n:Nat} (hn:n < 18446744073709551616) (hM:OkM M w) :
    CallsV prog 253 [.int .u64 (n:Int)] w fun r w'=>Bel w.heap.size w w'∧Fresh 139 w w' r (limbs n):=by
 refine ci M func253 ntmps253 fun Fz hFz hF LL=>?_
 refine zF (zB (zC rfl rfl (zD (zF (zB (zA rfl rfl (jA rfl yu168 yu139 rfl (zA rfl rfl (xW rfl rfl rfl (by simp only [IntKind.bits]; omega) (jA rfl yu168 yu139 rfl (yO rfl yu29 yI rfl rfl rfl (by simp [Value.oneCell']) rfl (fun w1 b8 N8=>?_))))))))))))
 have hBw1:=N8.below
 have nM8:=hM.new N8
 have B8:=N8.blk
 obtain ⟨LL,hM⟩:=ub2 hBw1 LL hM
 have hn8:IsNat M w1 (.slice (some ⟨b8,0,none⟩) 2 2) [n % 4294967296,n / 4294967296 % 4294967296] :=
   ⟨B8.slc (M:=M) nM8 (n:=2) (c:=2) (ds:=[n % 4294967296,n / 4294967296 % 4294967296].map lw) rfl (fun j u hj=>hj) (by omega) (Nat.le_refl _),by intro x hx; simp at hx; omega⟩
 refine zK rfl (bo func252) rfl rfl ?_
 refine (qR hn8 (by simp) hM).mono ?_
 rintro v9 w2 ⟨hB9,hf9⟩
 have hM9:=hM
 have hS9:=LL.size
 replace LL:=ub1 hB9 LL
 replace hf9:=hf9.less hS9
 refine zC rfl rfl (zD (zY ?_))
 refine lv1 ⟨rfl,trivial⟩ ?_
 have e:val [n % 4294967296,n / 4294967296 % 4294967296]=n:=by simp only [val]; omega
 rw [e] at hf9
 subst hFz
 exact ⟨LL.b,hf9⟩
theorem zJ6 {v:Value} {xs:List Nat} (h:IsNat M w v xs) (hl:xs.length≤1099511627776) (hM:OkM M w) :
    CallsV prog 303 [v] w fun r w'=>Bel w.heap.size w w'∧r = .tuple #[.int .u64 ((qO (val xs):Nat):Int),.bool (decide (val xs < 18446744073709551616))]:=by
 refine ci M func303 ntmps303 fun Fz hFz hF LL=>?_
 refine zF (zB (zC rfl rfl (zC rfl rfl (zD (zF (zF (zB (zA rfl rfl ?_))))))))
 refine yT rfl yu29 rfl ?_
 refine zA rfl rfl (zD (zX ?_))
 refine xT (σ:=Nat) [(0,_),(6,_),(7,_)] (fun s=>[(8,.int .i64 ((s:Nat):Int))]) (fun s w1=>w1=w∧s≤xs.length∧∀ j,2≤j→j < s→xs.getD j 0=0) (fun s=>xs.length - s) (0) (zI rfl (zI rfl (zI rfl (zI rfl yB)))) ?_ (fun s w1 hJ=>?_)
 · exact ⟨rfl,Nat.zero_le _,fun j _ hj=>absurd hj (by omega)⟩
 ·obtain ⟨rfl,hs,hz⟩:=hJ
  refine zF (zB (jT rfl rfl rfl (zD (zF ?_))))
  refine zU rfl (fun hc0=>?_) (fun hc0=>?_)
  ·refine yE (zF (zX (zF (zB (zA rfl rfl (jI _ rfl yu29 yI rfl rfl (by assumption) rfl (by omega) (fun b11 o11 hc11 hb11=>?_)))))))
   refine yX rfl xM rfl hc11 (zC rfl rfl (zC rfl rfl (zD (zF (zB (zA rfl rfl (bJ rfl rfl rfl (zA rfl rfl (kU (d:=15) rfl (fun hg4_2=>?_) (fun hg4_2=>?_))))))))))
   ·refine yK rfl rfl (zA rfl rfl (yK rfl rfl (fT rfl rfl rfl (jW rfl rfl rfl (zD ?_)))))
    refine zU rfl (fun hc1=>?_) (fun hc1=>?_)
    ·refine zF (zB (zC rfl rfl (zC rfl rfl (zD (zY ?_)))))
     refine xF ⟨[_,_],⟨rfl,rfl,trivial⟩,?_⟩
     dsimp only [xG]
     have hbig:¬ val xs < 18446744073709551616:=small_big h.lt (j:=s) (by omega) (by omega)
     subst hFz
     exact ⟨LL.b,by simp [qO,hbig]⟩
    ·refine yE (zB (yV rfl rfl rfl (by omega) (zA rfl rfl (zD ?_))))
     refine ⟨rfl,s + 1,(zR rfl (rfl) (zI rfl (zI rfl (zI rfl yB)))),?_,?_⟩
     exact ⟨rfl,by omega,fun j h2 hj=>by
       rcases Nat.lt_or_ge j s with h1 | h1
       · exact hz j h2 h1
       · obtain rfl:j=s:=by omega
         omega⟩
     omega
   ·refine yL rfl rfl rfl rfl (yL rfl rfl rfl rfl (jW rfl rfl rfl (zD (aV rfl (yE (zB (yV rfl rfl rfl (by omega) (zA rfl rfl (zD ?_)))))))))
    refine ⟨rfl,s + 1,(zR rfl (rfl) (zI rfl (zI rfl (zI rfl yB)))),?_,?_⟩
    exact ⟨rfl,by omega,fun j h2 hj=>by
      rcases Nat.lt_or_ge j s with h1 | h1
      · exact hz j h2 h1
      · obtain rfl:j=s:=by omega
        omega⟩
    omega
  ·refine xI (xK (zF (zB (zA rfl rfl (zK rfl (bo func308) rfl rfl ?_)))))
   refine (lJ (by assumption) (1) (by omega) hM).mono ?_
   rintro v21 w2 ⟨hB21,rfl,hlt21⟩
   obtain ⟨LL,hM,h⟩:=ub3 hB21 LL hM h
   refine xC rfl yu139 yu168 rfl (by omega) (qM (m:=18446744073709551616) rfl rfl rfl (by simp only [IntKind.bits]; omega) rfl (.inl rfl) (zA rfl rfl (zK rfl (bo func308) rfl rfl ?_)))
   refine (lJ (by assumption) (0) (by omega) hM).mono ?_
   rintro v25 w3 ⟨hB25,rfl,hlt25⟩
   obtain ⟨LL,h⟩:=ub2 hB25 LL h
   refine xC rfl yu139 yu168 rfl (by omega) (uE rfl rfl rfl (by simp only [IntKind.bits]; omega) (by simp only [IntKind.bits]; omega) (.inl rfl) (zC rfl rfl (zC rfl rfl (zD (zY ?_)))))
   refine xF ⟨[_,_],⟨rfl,rfl,trivial⟩,?_⟩
   dsimp only [xG]
   have hv:=small_val h.lt (fun j h2=>by
     rcases Nat.lt_or_ge j s with h1 | h1
     · exact hz j h2 h1
     · exact jQ (by omega))
   subst hFz
   exact ⟨LL.b,by rw [show qO (val xs)=xs.getD 1 0 * 2 ^ (Int.toNat 32) % 18446744073709551616 ||| xs.getD 0 0 by rw [qO,if_pos hv.1,show (2 ^ (Int.toNat 32):Nat)=4294967296 from rfl,Nat.mod_eq_of_lt (by omega),zT0 _ _ hlt25,hv.2]; omega]; simp [hv.1]⟩
theorem yA5 {v u:Value} {xs ys:List Nat} (h1:IsNat M w v xs) (h2:IsNat M w u ys) (hl1:xs.length≤1099511627776) (hl2:ys.length≤1099511627776) (hM:OkM M w) :
    CallsV prog 298 [v,u] w fun r w'=>Bel w.heap.size w w'∧r = .int .i64 (cmpN (val xs) (val ys)):=by
 refine ci M func298 ntmps298 fun Fz hFz hF LL=>?_
 refine zF (zB (zC rfl rfl (zD (dS (zF (dU (zF (zF (zB (zA rfl rfl ?_))))))))))
 refine yT rfl yu29 rfl ?_
 refine zA rfl rfl ?_
 refine yT rfl yu29 rfl ?_
 refine kF rfl rfl rfl (jC rfl rfl rfl (by omega) (zC rfl rfl (zD (zX ?_))))
 refine xT (σ:=Nat) [(0,_),(1,_)] (fun s=>[(4,.int .i64 0),(5,.int .i64 (((s:Nat):Int) - 1))]) (fun s w1=>Le Fz M w M w1∧s≤1099511627776∧∀ j,s≤j→xs.getD j 0=ys.getD j 0) (fun s=>s) (max xs.length ys.length) (zI rfl (zR rfl (by congr 1; omega) (zI rfl (zI rfl yB)))) ?_ (fun s w1 hJ=>?_)
 · exact ⟨Le.refl _ _ _,by omega,fun j hj=>by rw [jQ (by omega),jQ (by omega)]⟩
 ·obtain ⟨LR,hs,hz⟩:=hJ
  obtain ⟨LL,hM,h1,h2⟩:=up4 LR LL hM h1 h2
  refine zF (zF (zB (zA rfl rfl (kT rfl rfl rfl (zD ?_)))))
  refine zU rfl (fun hc0=>?_) (fun hc0=>?_)
  ·refine yE (zF (zX (zF (zB (zA rfl rfl (zA rfl rfl (zK rfl (bo func308) rfl rfl ?_)))))))
   refine (lJ (by assumption) (s - 1) (by omega) hM).mono ?_
   rintro v20 w2 ⟨hB20,rfl,hlt20⟩
   obtain ⟨LL,LR,hM,h1,h2⟩:=ub5 hB20 LL LR hM h1 h2
   refine zA rfl rfl (zA rfl rfl (zK rfl (bo func308) rfl rfl ?_))
   refine (lJ (by assumption) (s - 1) (by omega) hM).mono ?_
   rintro v23 w3 ⟨hB23,rfl,hlt23⟩
   obtain ⟨LL,LR,h1,h2⟩:=ub4 hB23 LL LR h1 h2
   refine zC rfl rfl (zC rfl rfl (zD (zX (zF (zB (zA rfl rfl (zA rfl rfl (jT rfl rfl rfl (zC rfl rfl (zD ?_))))))))))
   refine zU rfl (fun hc1=>?_) (fun hc1=>?_)
   ·refine zF (zB (zC rfl rfl (zD (xI (dW rfl (dW rfl (xK (zF (zB (zA rfl rfl (zC rfl rfl (zD (zY ?_)))))))))))))
    refine lv1 ⟨rfl,trivial⟩ ?_
    subst hFz
    exact ⟨LL.b,by rw [zO3 (cP h1.lt h2.lt (j:=s - 1) (by omega) (fun j hj=>hz j (by omega)))]⟩
   ·refine zF (zB (zA rfl rfl (zA rfl rfl (bJ rfl rfl rfl (zC rfl rfl (zD ?_))))))
    refine zU rfl (fun hc2=>?_) (fun hc2=>?_)
    ·refine zF (zB (zC rfl rfl (zD (xI (dW rfl (dW rfl (xK (zF (zB (zA rfl rfl (zC rfl rfl (zD (zY ?_)))))))))))))
     refine lv1 ⟨rfl,trivial⟩ ?_
     subst hFz
     exact ⟨LL.b,by rw [zO4 (cP h2.lt h1.lt (j:=s - 1) (by omega) (fun j hj=>(hz j (by omega)).symm))]⟩
    ·refine yE (zB (zA rfl rfl (jC rfl rfl rfl (by omega) (zC rfl rfl (zD ?_)))))
     refine ⟨rfl,s - 1,(zI rfl (zR rfl (by congr 1; omega) (zI rfl (zI rfl yB)))),?_,?_⟩
     exact ⟨LR,by omega,fun j hj=>by
       rcases Nat.lt_or_ge j s with h1 | h1
       · obtain rfl:j=s - 1:=by omega
         omega
       · exact hz j h1⟩
     omega
  ·refine xI (xK (zF (zB (zA rfl rfl (zC rfl rfl (zD (zY ?_)))))))
   refine lv1 ⟨rfl,trivial⟩ ?_
   subst hFz
   exact ⟨LL.b,by rw [zO5 (cQ (fun j=>hz j (by omega)))]⟩
def encP (p:Nat × Nat):List Value:=[.int .u64 (p.1:Int),.int .u64 (p.2:Int)]
theorem pairs1_c {M:Nat→Prop} {w0:World} {b1 b2:Nat} {v u:Value} {xs ys:List Nat} (B1:Blk w0 b1 29 [v]) (B2:Blk w0 b2 29 [u]) (n1:¬ M b1) (n2:¬ M b2) (h1:IsNat M w0 v xs) (h2:IsNat M w0 u ys)
    (hl1:xs.length≤1099511627776) (hl2:ys.length≤1099511627776) (hM:OkM M w0) :
    IterC prog 307 [.pointer (some ⟨b1,0,none⟩),.pointer (some ⟨b2,0,none⟩)] M NoT w0 (xQ xs ys) encP (fun _=>True):=by
 intro n l w J X hn0 hn hdr hJ hkeep hJd hXd hy
 have B1':=B1
 have B2':=B2
 have h1':=h1
 have h2':=h2
 have hM':=hM
 replace B1:=(hkeep _ _ hJ).blk B1 n1
 replace B2:=(hkeep _ _ hJ).blk B2 n2
 replace h1:=(hkeep _ _ hJ).nat h1
 replace h2:=(hkeep _ _ hJ).nat h2
 replace hM:=(hkeep _ _ hJ).okM hM
 obtain ⟨Fz,hFz⟩:∃ Fz:Nat→Prop,Fz=fun _=>False:=⟨_,rfl⟩
 have hFa:∀ w,FOk Fz w:=by subst hFz; exact fun _ _ h=>h.elim
 have hF:=hFa w
 have LL:=Le.refl Fz M w
 refine jL func307 rfl ntmps307 rfl ?_
 refine zF (zB (zN rfl yS rfl B1 rfl ?_))
 refine yT rfl yu29 rfl ?_
 refine zN rfl yS rfl B2 rfl ?_
 refine yT rfl yu29 rfl ?_
 refine kF rfl rfl rfl (zA rfl rfl (zD (zX ?_)))
 refine xT (σ:=Nat) [(0,_),(1,_),(2,_),(9,_)] (fun s=>[(10,.int .i64 ((s:Nat):Int))]) (fun s w1=>J ((xQ xs ys).take s) w1∧n≤w1.heap.size) (fun s=>max xs.length ys.length - s) (0) (zI rfl (zI rfl (zI rfl (zI rfl (zI rfl yB))))) ?_ (fun s w1 hJ=>?_)
 · exact ⟨by simpa using hJ,hn⟩
 ·obtain ⟨hJ1,hn1⟩:=hJ
  have hk:=hkeep _ _ hJ1
  replace B1:=hk.blk B1' n1
  replace B2:=hk.blk B2' n2
  replace h1:=hk.nat h1'
  replace h2:=hk.nat h2'
  replace hM:=hk.okM hM'
  have hF:=hFa w1
  have LL:=Le.refl Fz M w1
  have hBJ:=Bel.refl w1.heap.size w1
  have hb1:=h1.lim s
  have hb2:=h2.lim s
  refine zF (zB (jT rfl rfl rfl (zD (zF ?_))))
  refine zU rfl (fun hc0=>?_) (fun hc0=>?_)
  ·refine yE (zF (zX (zF (zB (zA rfl rfl (zC rfl rfl (zD (zF ?_))))))))
   have LL:=Le.refl Fz M w1
   refine wd mixed 9 [0,1,2,9,10,13,17,21] (by decide +kernel) ?_
   refine zQ (fun _ _ _=>zV rfl rfl (zG (zA rfl rfl (on0 rfl)))) ?_
   apply zQ
   ·intro wq hR hst
    refine zV rfl rfl (zG ?_)
    replace B1:=B1.below hR
    refine zN rfl yS rfl B1 rfl ?_
    exact on0 rfl
   refine zQ (fun _ _ _=>zV rfl rfl (zG (zA rfl rfl (on0 rfl)))) ?_
   apply zQ
   ·intro wq hR hst
    refine zM rfl (zM rfl (zG ?_))
    obtain ⟨LL,hM,hF,h1,h2,B1,B2⟩:=ub7 hR LL hM hF h1 h2 B1 B2
    refine zK rfl (bo func308) rfl rfl ?_
    refine (lJ (by assumption) (s) (by omega) hM).mono ?_
    rintro v16 w2 ⟨hB16,rfl,hlt16⟩
    exact on1 hB16 rfl rfl
   refine zQ (fun _ _ _=>zM rfl (zG (xC rfl yu139 yu168 rfl (by omega) (on0 rfl)))) ?_
   apply zQ
   ·intro wq hR hst
    refine zV rfl rfl (zG ?_)
    replace B2:=B2.below hR
    refine zN rfl yS rfl B2 rfl ?_
    exact on0 rfl
   refine zQ (fun _ _ _=>zV rfl rfl (zG (zA rfl rfl (on0 rfl)))) ?_
   apply zQ
   ·intro wq hR hst
    refine zM rfl (zM rfl (zG ?_))
    obtain ⟨LL,hM,hF,h1,h2,B1,B2⟩:=ub7 hR LL hM hF h1 h2 B1 B2
    refine zK rfl (bo func308) rfl rfl ?_
    refine (lJ (by assumption) (s) (by omega) hM).mono ?_
    rintro v20 w3 ⟨hB20,rfl,hlt20⟩
    exact on1 hB20 rfl rfl
   refine zQ (fun _ _ _=>zM rfl (zG (xC rfl yu139 yu168 rfl (by omega) (on0 rfl)))) ?_
   refine gB (fun wq3 hR3 hpost3=>?_)
   refine zV rfl rfl (zV rfl rfl (zV rfl rfl (zV rfl rfl (zV rfl rfl (zM rfl (zM rfl (zM rfl (zG ?_))))))))
   simp only [qZ,qY,qX,qW]
   replace hBJ:=hR3
   refine kR rfl rfl rfl ?_
   refine (hy _ _ _ _ ((fS (by omega)).2) (hJd _ _ _ hJ1 (Drift.of_below hBJ hn1)) (Nat.le_trans hn1 hBJ.size)).mono ?_
   rintro v22 w4 ⟨hn2,_,hyn⟩
   refine aQ rfl rfl (zD ?_)
   refine uP rfl (fun hc1=>?_) (fun hc1=>?_)
   ·refine zY ?_
    refine xF ⟨[],trivial,?_⟩
    dsimp only [xG]
    right
    rcases hyn with ⟨e,_⟩ | ⟨_,h⟩
    · subst e; simp at hc1
    · exact h
   ·refine yE (zB (yV rfl rfl rfl (by omega) (zA rfl rfl (zD ?_))))
    refine ⟨rfl,s + 1,(zR rfl (rfl) (zI rfl (zI rfl (zI rfl (zI rfl yB))))),?_,?_⟩
    exact ⟨by rw [(fS (by omega)).1]; rcases hyn with ⟨_, h⟩ | ⟨e, _⟩
              · exact h
              · subst e; simp at hc1,hn2⟩
    omega
  ·refine xI (xK ?_)
   refine xF ⟨[],trivial,?_⟩
   dsimp only [xG]
   left
   rw [pB (s:=s) (by omega)] at hJ1
   exact ⟨hJ1,trivial⟩
theorem zK4 {v u:Value} {xs ys:List Nat} (h1:IsNat M w v xs) (h2:IsNat M w u ys) (hl1:xs.length≤1099511627776) (hl2:ys.length≤1099511627776) (hM:OkM M w) :
    CallsV prog 295 [v,u] w fun r w'=>Bel w.heap.size w w'∧∃ cap,r = .func (.func 307) #[] cap∧IterC prog 307 cap.toList M NoT w' (xQ xs ys) encP (fun _=>True):=by
 refine ci M func295 ntmps295 fun Fz hFz hF LL=>?_
 refine zF (zB (gJ rfl rfl (fun w1 b2 N2=>?_)))
 obtain ⟨_,nF2,nM2,Lw1,B2⟩:=nz hF hM N2
 obtain ⟨LL,hM,hF,h1,h2⟩:=up5 Lw1 LL hM hF h1 h2
 rw [h1.one] at B2
 refine gJ rfl rfl (fun w2 b3 N3=>?_)
 obtain ⟨hBw2,nF3,nM3,Lw2,B3⟩:=nz hF hM N3
 obtain ⟨B2,ne2_3⟩:=bn B2 N3
 obtain ⟨LL,hM,h1,h2⟩:=up4 Lw2 LL hM h1 h2
 rw [h2.one] at B3
 refine zC rfl rfl (zD (zF (zB (gZ rfl rfl (zC rfl rfl (zD (zY ?_)))))))
 refine lv1 ⟨rfl,trivial⟩ ?_
 subst hFz
 refine ⟨LL.b,_,rfl,?_⟩
 exact pairs1_c B2 B3 (fun c=>nM2 c) (fun c=>nM3 (yF c)) (h1.less fun k c=>yF (yF c)) (h2.less fun k c=>yF (yF c)) hl1 hl2 (fun k c=>hM k (yF (yF c)))
theorem zW1 {v:Value} {xss:List (List Nat)} (h:IsNats M w v xss) (hl:∀ xs ∈ xss,xs.length≤1000000000) (hn:xss.length≤1000000000) (hM:OkM M w) :
    CallsV prog 279 [v] w fun r w'=>Bel w.heap.size w w'∧Fresh 139 w w' r (limbs ((xss.map val).sum)):=by
 have hM0:=hM
 have Mk:Marks M w.heap.size [] w:=gK
 refine ci M func279 ntmps279 fun Fz hFz hF LL=>?_
 refine zF (zB (zC rfl rfl (zD (zF (zF (zB (zA rfl rfl ?_)))))))
 refine yT rfl yu260 rfl ?_
 refine zA rfl rfl (zD (zX ?_))
 refine SL.wp_loopd (σ:=Nat × Value) [(9,_),(10,_)] (fun s=>[(2,s.2),(11,.int .i64 ((s.1:Nat):Int))]) (fun s D0 w1=>Le Fz M w M w1∧Marks M w.heap.size D0 w1∧∃ ys,IsNat M w1 s.2 ys∧val ys=((xss.map val).take s.1).sum∧ys.length≤1000000000 + s.1∧s.1≤xss.length) (fun s=>xss.length - s.1) ((0,.slice none 0 0)) (zI rfl (zI rfl (zI rfl (zI rfl yB)))) ?_ (fun s D0 w1 hJ=>?_)
 · exact ⟨Le.refl _ _ _,Mk,[],kA,by simp [val],by simp,by omega⟩
 ·obtain ⟨k,u⟩:=s
  dsimp only at hJ ⊢
  obtain ⟨LR,Mk1,ys,hy,hyv,hyl,hk⟩:=hJ
  obtain ⟨LL,hM,hF,h,Mk⟩:=up5 LR LL hM hF h Mk
  clear Mk; have Mk:=Mk1
  have hlk:k < xss.length→(xss.getD k []).length≤1000000000:=fun hk=>hl _ (by simp [List.getElem?_eq_getElem hk])
  generalize hxs:xss.getD k []=xs at hlk
  refine zF (zB (jT rfl rfl rfl (zD (zF ?_))))
  refine zU rfl (fun hc0=>?_) (fun hc0=>?_)
  ·refine yE (zF (zX (zF (zB (tK (k) rfl yu260 sz29 rfl rfl (by assumption) (by omega) (by omega) (fun b13 o13 u13 hc13 hu13=>?_))))))
   rw [hxs] at hu13
   refine yX rfl yS rfl hc13 (zC rfl rfl (zD (zF (zB (xB rfl dY (fun w2 b5 N5=>?_))))))
   obtain ⟨_,nF5,nM5,Lw2,B5⟩:=nz hF hM N5
   obtain ⟨LL,LR,hM,hF,h,Mk,hy,hu13⟩:=up8 Lw2 LL LR hM hF h Mk hy hu13
   refine xO rfl rfl dY B5 (by first | rfl | exact yU (by assumption) | assumption | exact yQ (by assumption)) (fun w3 Cw3 B5=>?_)
   obtain ⟨LL,LR,hM,hF,h,Mk,hy,hu13⟩:=up8 (lc LL Cw3 zO nF5) LL LR hM hF h Mk hy hu13
   refine zD (zF (zB (zA rfl rfl ?_)))
   refine yT rfl yu29 rfl ?_
   refine zA rfl rfl ?_
   refine yT rfl yu29 rfl ?_
   refine kF rfl rfl rfl (yV rfl rfl rfl (by omega) (kG 0 (max xs.length ys.length + 1) rfl yu29 yI rfl rfl rfl (by omega) (by omega) (by omega) (by omega) (by omega) (fun w4 b21 N21=>?_)))
   have nF21:=hF.new N21
   have nM21:=hM.new N21
   have hBw4:=N21.below
   have Lw4:=Le.of_new_mo (Fz:=Fz) (M:=(Ins b5 M)) (v:=Value.slice (some ⟨b21,0,none⟩) 0 (max xs.length ys.length + 1)) N21 rfl
   obtain ⟨B5,ne5_21⟩:=bn B5 N21
   obtain ⟨LL,LR,hM,hF,h,Mk,hy,hu13⟩:=up8 Lw4 LL LR hM hF h Mk hy hu13
   have Of:∀ k,(Value.slice (some ⟨b21,0,none⟩) 0 (max xs.length ys.length + 1)).ownBlock=some k→¬ Fz k:=jD nF21
   have Om:∀ k,(Value.slice (some ⟨b21,0,none⟩) 0 (max xs.length ys.length + 1)).ownBlock=some k→¬ (Ins b5 M) k:=jD nM21
   have Ow:=kY (n:=0) (c:=max xs.length ys.length + 1) N21.blk (by simp) (by omega) (by omega)
   refine xB rfl sz29 (fun w5 b6 N6=>?_)
   obtain ⟨hBw5,nF6,nM6,_,B6⟩:=nz hF hM N6
   have Lw5:=Le.of_new_in (Fz:=Fz) (M:=(Ins b5 M)) (v:=(Value.slice (some ⟨b21,0,none⟩) 0 (max xs.length ys.length + 1))) N6
   replace Om:=zS9 Ow N6 Om
   replace Ow:=xA Ow hBw5
   obtain ⟨B5,ne5_6⟩:=bn B5 N6
   obtain ⟨LL,LR,hM,hF,h,Mk,hy,hu13⟩:=up8 Lw5 LL LR hM hF h Mk hy hu13
   refine xO rfl rfl sz29 B6 (by first | rfl | exact yU (by assumption) | assumption | exact yQ (by assumption)) (fun w6 Cw6 B6=>?_)
   obtain ⟨LL,LR,hM,hF,h,Mk,hy,hu13⟩:=up8 (lc LL Cw6 (.inr zO) nF6) LL LR hM hF h Mk hy hu13
   replace B5:=B5.other Cw6 ne5_6
   replace Ow:=dG Ow Cw6 (fun h=>Om _ h zO)
   refine zD (zF (zF (zB (zA rfl rfl (zA rfl rfl (zK rfl (bo func295) rfl rfl ?_))))))
   refine (zK4 (by assumption) (by assumption) (by omega) (by omega) hM).mono ?_
   rintro v24 w7 ⟨hB24,cap24,rfl,hit24⟩
   obtain ⟨LL,LR,hM,hF,h,Mk,hy,hu13,B5,B6⟩:=ub10 hB24 LL LR hM hF h Mk hy hu13 B5 B6
   replace Ow:=xA Ow hB24
   refine zD (zX ?_)
   have hszLL:=LL.size
   have hszLR:=LR.size
   have Mold0:=Mk.old (Nat.le_refl _)
   refine dT (M:=(Mo (Value.slice (some ⟨b21,0,none⟩) 0 (max xs.length ys.length + 1)) (Ins b6 (Ins b5 M)))) (T:=NoT) (xQ ys xs) (encP) rfl (bo func307) (hit24) noT (trivial) (fun _=>rfl) rfl [(5,_),(6,_)] (zI rfl (zI rfl yB)) (fun pre w8=>∃ v zs c,Le Fz (Mo (Value.slice (some ⟨b21,0,none⟩) 0 (max xs.length ys.length + 1)) (Ins b6 (Ins b5 M))) w7 (Mo v (Ins b6 (Ins b5 M))) w8∧Blk w8 b5 168 [.int .u64 ((c:Nat):Int)]∧Blk w8 b6 29 [v]∧w8.ownsRow 0 139 1 v zs.length (zs.map lw)∧(∀ k,v.ownBlock=some k→¬ Fz k)∧(∀ k,v.ownBlock=some k→¬ Ins b6 (Ins b5 M) k) ∧
     zs.length=pre.length∧val zs + 4294967296 ^ zs.length * c=val (pre.map (·.1)) + val (pre.map (·.2))∧c≤1∧(∀ z ∈ zs,z < 4294967296)) (fun _ _=>False) (fun _=>False) (⟨_,[],0,Le.refl _ _ _,B5,B6,by simpa using Ow,Of,Om,rfl,by simp [val],by omega,by simp⟩) (fun pre w h=>(by obtain ⟨_,_,_,h,_⟩:=h; exact h.keep)) (fun pre w1 w2 hJ hd=>(by obtain ⟨v,zs,c,h1,h2,h3,h4,h5⟩:=hJ; exact ⟨v,zs,c,h1.drift0 hd (Nat.le_refl _),h2.drift hd (fun c=>c),h3.drift hd (fun c=>c),uY h4 hd (fun _ _ c=>c),h5⟩)) (fun _ _ _ h _=>h) (fun _ _ h _=>h) (fun _ _ _ _=>trivial) ?_ ?_ (fun _ _ h _=>h.elim) (fun _ h _=>h.elim)
   ·intro pre x post l b w8 ρ δ hx hJ hnl hnb hl hb hbc
    obtain ⟨v,zs,c,LS0,B5,B6,Ow,Of,Om,hzl,hzv,hc,hzlt⟩:=hJ
    obtain ⟨hM,hF,h,Mk,hy,hu13⟩:=up6 LS0 hM hF h Mk hy hu13
    have RL:Rec (Mo v (Ins b6 (Ins b5 M))) w8 l (.loop ρ):=⟨hl,(lG (kQ Ow hl (by simp)) (uH (Rec.ne hl B6 (by simp)) (uH (Rec.ne hl B5 (by simp)) (gG hM0 (by omega)))))⟩
    have RB:Rec (Mo v (Ins b6 (Ins b5 M))) w8 b δ:=⟨hb,(lG (kQ Ow hb hbc) (uH (Rec.ne hb B6 hbc) (uH (Rec.ne hb B5 hbc) (gG hM0 (by omega)))))⟩
    have hs1:w8.heap.size≤w8.heap.size:=Nat.le_refl _
    have hxb:=tG hy.lt hu13.lt x (by rw [hx]; simp)
    have hpl:pre.length < max ys.length xs.length:=by have:=congrArg List.length hx; rw [uB] at this; simp only [List.length_append,List.length_cons] at this; omega
    refine zF (zB (zC rfl rfl (zD (zB (zC rfl rfl (zD ?_))))))
    refine ⟨RL.at_,RB.at_,rfl,fun w9 ρ' δ' hdr hl' hb' hbc'=>?_⟩
    replace LS0:=LS0.drift0 hdr (Nat.le_refl _)
    replace hM:=hM.drift hdr
    replace hF:=hF.drift hdr
    replace hs1:=Nat.le_trans hs1 hdr.size
    replace h:=h.drift hdr noT
    replace RL:Rec (Mo v (Ins b6 (Ins b5 M))) w9 l (.loop ρ'):=⟨hl',RL.not⟩
    replace RB:Rec (Mo v (Ins b6 (Ins b5 M))) w9 b δ':=⟨hb',RB.not⟩
    replace B5:=B5.drift hdr (fun c=>c)
    replace B6:=B6.drift hdr (fun c=>c)
    replace Ow:=uY Ow hdr (fun _ _ c=>c)
    refine zX (zF (zB (zN rfl aT rfl B5 rfl (zA rfl rfl (zA rfl rfl ?_)))))
    first | refine gH rfl rfl rfl (by omega) ?_ | refine gM rfl rfl rfl ?_
    first | refine gH rfl rfl rfl (by omega) ?_ | refine gM rfl rfl rfl ?_
    refine xO rfl rfl dY B5 (by first | rfl | exact yU (by assumption) | assumption | exact yQ (by assumption)) (fun w10 Cw10 B5=>?_)
    have Lw10:=lc LS0 Cw10 (.inr (.inr zO)) nF5
    obtain ⟨LS0,hM,hF,h,RL,RB⟩:=up6 Lw10 LS0 hM hF h RL RB
    replace hs1:=Nat.le_trans hs1 Lw10.size
    replace B6:=B6.other Cw10 ne5_6.symm
    replace Ow:=dG Ow Cw10 (fun h=>Om _ h (.inr zO))
    refine zD (zF (zB (zN rfl yS rfl B6 rfl (zN rfl aT rfl B5 rfl (jA rfl yu168 yu139 rfl (yO rfl yu29 yI rfl rfl rfl (by simp [Value.oneCell',lw]) rfl (fun w11 b35 N35=>?_)))))))
    have hBw11:=N35.below
    have nM35:=hM.new N35
    have B35:=N35.blk
    have Lw11:=Le.of_below (Fz:=Fz) (M:=(Mo v (Ins b6 (Ins b5 M)))) hBw11
    obtain ⟨LS0,hM,hF,h,RL,RB⟩:=ub6 hBw11 LS0 hM hF h RL RB
    replace hs1:=Nat.le_trans hs1 Lw11.size
    replace B5:=B5.below hBw11
    replace B6:=B6.below hBw11
    replace Ow:=xA Ow hBw11
    refine jJ rfl yu29 yI rfl rfl rfl Ow (B35.slc nM35 rfl (fun _ _ h=>h) (by omega) (Nat.le_refl _)) (by simp [Value.oneCell']) (by omega) (by omega) (fun v36 w12 A36 G36 S36=>?_)
    have Lw12:=Le.of_grown (Fz:=Fz) (M:=(Ins b6 (Ins b5 M))) G36 S36 A36 Of
    have Omo36:=Om
    replace Of:=jH (w':=w12) Of hF S36
    replace Om:=jG (w':=w12) Om (fun k hk=>hM k (.inr hk)) S36
    replace B5:=B5.grown G36 (fun h=>Omo36 _ h (.inr zO))
    replace B6:=B6.grown G36 (fun h=>Omo36 _ h zO)
    obtain ⟨LS0,h,RL,RB⟩:=up4 Lw12 LS0 h RL RB
    replace hs1:=Nat.le_trans hs1 Lw12.size
    clear Ow; have Ow:=A36
    refine xO rfl rfl sz29 B6 (by first | rfl | exact yU (by assumption) | assumption | exact yQ (by assumption)) (fun w13 Cw13 B6=>?_)
    have Lw13:=lc LS0 Cw13 (.inr zO) nF6
    obtain ⟨LS0,h,RL,RB⟩:=up4 Lw13 LS0 h RL RB
    replace hs1:=Nat.le_trans hs1 Lw13.size
    replace B5:=B5.other Cw13 ne5_6
    replace Ow:=dG Ow Cw13 (fun h=>Om _ h zO)
    refine zD (zB (zN rfl aT rfl B5 rfl (xW rfl rfl rfl (by simp only [IntKind.bits]; omega) (xO rfl rfl dY B5 (by first | rfl | exact yU (by assumption) | assumption | exact yQ (by assumption)) (fun w14 Cw14 B5=>?_)))))
    have Lw14:=lc LS0 Cw14 (.inr (.inr zO)) nF5
    obtain ⟨LS0,h,RL,RB⟩:=up4 Lw14 LS0 h RL RB
    replace hs1:=Nat.le_trans hs1 Lw14.size
    replace B6:=B6.other Cw14 ne5_6.symm
    replace Ow:=dG Ow Cw14 (fun h=>Om _ h (.inr zO))
    refine zD ?_
    refine ⟨RL.at_,RB.at_,hs1,fun _ c=>c.elim,?_⟩
    refine ⟨v36,zs ++ [(c + (x.1 + x.2)) % 4294967296],(c + (x.1 + x.2)) / 4294967296,LS0,B5,B6,by simpa [lw] using Ow,Of,Om,by simp [hzl],vQ hzl hzv,by omega,?_⟩
    intro z hz
    rcases List.mem_append.1 hz with hz | hz
    · exact hzlt z hz
    · simp at hz; omega
   ·intro w15 hJ hZ hDd
    obtain ⟨v,zs,c,LS0,B5,B6,Ow,Of,Om,hzl,hzv,hc,hzlt⟩:=hJ
    obtain ⟨LR,hM,hF,h,Mk⟩:=up5 LS0 LR hM hF h Mk
    have hdd:=hDd _ rfl rfl
    have RD:Rec (Mo v (Ins b6 (Ins b5 M))) w15 w7.heap.size (.deferred (some [])):=⟨hdd,(lG (kQ Ow hdd (by simp)) (uH (Rec.ne hdd B6 (by simp)) (uH (Rec.ne hdd B5 (by simp)) (gG hM0 (by omega)))))⟩
    replace Mk:=Mk.cons hszLL RD Mold0
    have hpl:=uB ys xs
    refine zB (zN rfl yS rfl B6 rfl (zN rfl aT rfl B5 rfl (jA rfl yu168 yu139 rfl (yO rfl yu29 yI rfl rfl rfl (by simp [Value.oneCell',lw]) rfl (fun w16 b42 N42=>?_)))))
    have hBw16:=N42.below
    have nM42:=hM.new N42
    have B42:=N42.blk
    obtain ⟨LR,LS0,hM,hF,h,Mk⟩:=ub6 hBw16 LR LS0 hM hF h Mk
    replace Ow:=xA Ow hBw16
    refine jJ rfl yu29 yI rfl rfl rfl Ow (B42.slc nM42 rfl (fun _ _ h=>h) (by omega) (Nat.le_refl _)) (by simp [Value.oneCell']) (by omega) (by omega) (fun v43 w17 A43 G43 S43=>?_)
    have Lw17:=Le.of_grown (Fz:=Fz) (M:=(Ins b6 (Ins b5 M))) G43 S43 A43 Of
    have Omo43:=Om
    replace Of:=jH (w':=w17) Of hF S43
    replace Om:=jG (w':=w17) Om (fun k hk=>hM k (.inr hk)) S43
    obtain ⟨LR,LS0,h,Mk⟩:=up4 Lw17 LR LS0 h Mk
    clear Ow; have Ow:=A43
    refine zC rfl rfl (zD (zB (yV rfl rfl rfl (by omega) (zA rfl rfl (zD ?_)))))
    refine ⟨(k + 1,v43),(zR rfl (rfl) (zR rfl (by rw [Int.natCast_add]; rfl) (zI rfl (zI rfl yB)))),?_,?_⟩
    have hsl:=uC Ow (fun q hq c=>Om q hq (yF (yF c))) (by simp; omega)
    have hyz:IsNat M w17 v43 (zs ++ [c % 4294967296]):=⟨by simpa [lw] using hsl,fun z hz=>by
      rcases List.mem_append.1 hz with hz | hz
      · exact hzlt z hz
      · simp at hz; omega⟩
    exact ⟨LR.trans (Le.less fun q hq => .inr (.inr (.inr hq))),Mk.mono (Fz:=Fz) (Le.less fun q hq => .inr (.inr (.inr hq))),_,hyz,by
      rw [show c % 4294967296=c by omega,uL,hzv,cH,cG,hyv,fK (k:=k) (by omega) hxs],by simp [hzl,uB]; omega,by omega⟩
    dsimp only
    omega
  ·refine xI (xK (zF (zB (zA rfl rfl (zK rfl (bo func252) rfl rfl ?_)))))
   refine (qR (by assumption) (by omega) hM).mono ?_
   rintro v46 w18 ⟨hB46,hf46⟩
   have hM46:=hM
   have hS46:=LL.size
   obtain ⟨LL,h,Mk⟩:=ub3 hB46 LL h Mk
   have hn46:=hf46.nat hM46
   replace hf46:=hf46.less hS46
   refine zC rfl rfl (zD (zY ?_))
   refine jK Mk (fun wz hz=>⟨[_],⟨rfl,trivial⟩,?_⟩)
   dsimp only [xG]
   subst hFz
   have hk':k=xss.length:=by omega
   subst hk'
   rw [List.take_of_length_le (by simp)] at hyv
   rw [hyv] at hf46
   exact ⟨SL.Bel.drift (LL.b) hz (Nat.le_refl _),hf46.drift hz⟩
theorem sub_c {v u:Value} {xs ys:List Nat} (h1:IsNat M w v xs) (h2:IsNat M w u ys) (hl1:xs.length≤1000000000) (hl2:ys.length≤1000000000) (hM:OkM M w) :
    CallsV prog 294 [v,u] w fun r w'=>Bel w.heap.size w w'∧((val xs < val ys∧r = .tuple #[.slice none 0 0,.int .i64 10]) ∨ (val ys≤val xs∧∃ q,r = .tuple #[q,.int .i64 0]∧Fresh 139 w w' q (limbs (val xs - val ys)))):=by
 have hM0:=hM
 have Mk:Marks M w.heap.size [] w:=gK
 refine ci M func294 ntmps294 fun Fz hFz hF LL=>?_
 refine zF (zB (zC rfl rfl (zC rfl rfl (zD (zF (zF (zB (zA rfl rfl (zA rfl rfl (zK rfl (bo func298) rfl rfl ?_))))))))))
 refine (yA5 (by assumption) (by assumption) (by omega) (by omega) hM).mono ?_
 rintro v13 w1 ⟨hB13,rfl⟩
 obtain ⟨LL,hM,hF,h1,h2,Mk⟩:=ub6 hB13 LL hM hF h1 h2 Mk
 refine jT rfl rfl rfl (zD ?_)
 refine zU rfl (fun hc0=>?_) (fun hc0=>?_)
 ·refine zF (zB (zC rfl rfl (zC rfl rfl (zD (zY ?_)))))
  refine jK Mk (fun wz hz=>⟨[_,_],⟨rfl,rfl,trivial⟩,?_⟩)
  dsimp only [xG]
  subst hFz
  exact ⟨SL.Bel.drift (LL.b) hz (Nat.le_refl _),.inl ⟨aJ.1 hc0,rfl⟩⟩
 ·refine yE (zF (zB (xB rfl sz29 (fun w2 b6 N6=>?_))))
  obtain ⟨_,nF6,nM6,Lw2,B6⟩:=nz hF hM N6
  obtain ⟨LL,hM,hF,h1,h2,Mk⟩:=up6 Lw2 LL hM hF h1 h2 Mk
  refine zD (zF (zB (xB rfl dY (fun w3 b7 N7=>?_))))
  obtain ⟨hBw3,nF7,nM7,Lw3,B7⟩:=nz hF hM N7
  obtain ⟨B6,ne6_7⟩:=bn B6 N7
  obtain ⟨LL,hM,hF,h1,h2,Mk⟩:=up6 Lw3 LL hM hF h1 h2 Mk
  refine xO rfl rfl dY B7 (by first | rfl | exact yU (by assumption) | assumption | exact yQ (by assumption)) (fun w4 Cw4 B7=>?_)
  obtain ⟨LL,hM,hF,h1,h2,Mk⟩:=up6 (lc LL Cw4 zO nF7) LL hM hF h1 h2 Mk
  replace B6:=B6.other Cw4 ne6_7
  refine zD (zF (zF (zB ?_)))
  have Ow:=bX (w:=w4) (e:=139)
  have Of:∀ k,(Value.slice none 0 0).ownBlock=some k→¬ Fz k:=kH
  have Om:∀ k,(Value.slice none 0 0).ownBlock=some k→¬ (Ins b7 (Ins b6 M)) k:=kH
  have Ln:=Le.mo_nil (Fz:=Fz) (M:=(Ins b7 (Ins b6 M))) (w:=w4)
  obtain ⟨LL,hM,hF,h1,h2,Mk⟩:=up6 Ln LL hM hF h1 h2 Mk
  clear Ln
  refine zA rfl rfl (zA rfl rfl (zK rfl (bo func295) rfl rfl ?_))
  refine (zK4 (by assumption) (by assumption) (by omega) (by omega) hM).mono ?_
  rintro v17 w5 ⟨hB17,cap17,rfl,hit17⟩
  obtain ⟨LL,hM,hF,h1,h2,Mk,B6,B7⟩:=ub8 hB17 LL hM hF h1 h2 Mk B6 B7
  replace Ow:=xA Ow hB17
  refine zD (zX ?_)
  have hszLL:=LL.size
  have Mold0:=Mk.old (Nat.le_refl _)
  refine dT (M:=(Mo (.slice none 0 0) (Ins b7 (Ins b6 M)))) (T:=NoT) (xQ xs ys) (encP) rfl (bo func307) (hit17) noT (trivial) (fun _=>rfl) rfl [(6,_),(7,_)] (zI rfl (zI rfl yB)) (fun pre w6=>∃ v zs c,Le Fz (Mo (.slice none 0 0) (Ins b7 (Ins b6 M))) w5 (Mo v (Ins b7 (Ins b6 M))) w6∧Blk w6 b6 29 [v]∧Blk w6 b7 168 [.int .u64 ((c:Nat):Int)]∧w6.ownsRow 0 139 1 v zs.length (zs.map lw)∧(∀ k,v.ownBlock=some k→¬ Fz k)∧(∀ k,v.ownBlock=some k→¬ Ins b7 (Ins b6 M) k) ∧
    zs.length=pre.length∧val zs + val (pre.map (·.2)) + 4294967296 ^ zs.length * c=val (pre.map (·.1)) + 4294967296 ^ zs.length * (2 * c)∧c≤1∧(∀ z ∈ zs,z < 4294967296)) (fun _ _=>False) (fun _=>False) (⟨_,[],0,Le.refl _ _ _,B6,B7,by simpa using Ow,Of,Om,rfl,by simp [val],by omega,by simp⟩) (fun pre w h=>(by obtain ⟨_,_,_,h,_⟩:=h; exact h.keep)) (fun pre w1 w2 hJ hd=>(by obtain ⟨v,zs,c,h1,h2,h3,h4,h5⟩:=hJ; exact ⟨v,zs,c,h1.drift0 hd (Nat.le_refl _),h2.drift hd (fun c=>c),h3.drift hd (fun c=>c),uY h4 hd (fun _ _ c=>c),h5⟩)) (fun _ _ _ h _=>h) (fun _ _ h _=>h) (fun _ _ _ _=>trivial) ?_ ?_ (fun _ _ h _=>h.elim) (fun _ h _=>h.elim)
  ·intro pre x post l b w6 ρ δ hx hJ hnl hnb hl hb hbc
   obtain ⟨q,zs,c,LS0,B6,B7,Ow,Of,Om,hzl,hzv,hc,hzlt⟩:=hJ
   obtain ⟨hM,hF,h1,h2,Mk⟩:=up5 LS0 hM hF h1 h2 Mk
   have RL:Rec (Mo q (Ins b7 (Ins b6 M))) w6 l (.loop ρ):=⟨hl,(lG (kQ Ow hl (by simp)) (uH (Rec.ne hl B7 (by simp)) (uH (Rec.ne hl B6 (by simp)) (gG hM0 (by omega)))))⟩
   have RB:Rec (Mo q (Ins b7 (Ins b6 M))) w6 b δ:=⟨hb,(lG (kQ Ow hb hbc) (uH (Rec.ne hb B7 hbc) (uH (Rec.ne hb B6 hbc) (gG hM0 (by omega)))))⟩
   have hs1:w6.heap.size≤w6.heap.size:=Nat.le_refl _
   have hxb:=tG h1.lt h2.lt x (by rw [hx]; simp)
   have hpl:pre.length < max xs.length ys.length:=by have:=congrArg List.length hx; rw [uB] at this; simp only [List.length_append,List.length_cons] at this; omega
   have hD:=zJ1 (x:=x.1) (y:=x.2) (c:=c) hxb.1 hxb.2 hc
   refine zF (zB (zC rfl rfl (zD (zB (zC rfl rfl (zD ?_))))))
   refine ⟨RL.at_,RB.at_,rfl,fun w7 ρ' δ' hdr hl' hb' hbc'=>?_⟩
   replace LS0:=LS0.drift0 hdr (Nat.le_refl _)
   replace hM:=hM.drift hdr
   replace hF:=hF.drift hdr
   replace hs1:=Nat.le_trans hs1 hdr.size
   replace RL:Rec (Mo q (Ins b7 (Ins b6 M))) w7 l (.loop ρ'):=⟨hl',RL.not⟩
   replace RB:Rec (Mo q (Ins b7 (Ins b6 M))) w7 b δ':=⟨hb',RB.not⟩
   replace B6:=B6.drift hdr (fun c=>c)
   replace B7:=B7.drift hdr (fun c=>c)
   replace Ow:=uY Ow hdr (fun _ _ c=>c)
   refine zX (zF (zB (zA rfl rfl (zA rfl rfl (uN rfl rfl rfl (by omega) (zN rfl aT rfl B7 rfl (uN rfl rfl rfl (by omega) (zC rfl rfl (zD (zF (zB (zN rfl yS rfl B6 rfl (zA rfl rfl (jA rfl yu168 yu139 rfl ?_))))))))))))))
   refine yO rfl yu29 yI rfl rfl rfl (by simp [Value.oneCell',lw]) rfl (fun w8 b28 N28=>?_)
   have hBw8:=N28.below
   have nM28:=hM.new N28
   have B28:=N28.blk
   have Lw8:=Le.of_below (Fz:=Fz) (M:=(Mo q (Ins b7 (Ins b6 M)))) hBw8
   obtain ⟨LS0,hM,hF,RL,RB⟩:=ub5 hBw8 LS0 hM hF RL RB
   replace hs1:=Nat.le_trans hs1 Lw8.size
   replace B6:=B6.below hBw8
   replace B7:=B7.below hBw8
   replace Ow:=xA Ow hBw8
   refine jJ rfl yu29 yI rfl rfl rfl Ow (B28.slc nM28 rfl (fun _ _ h=>h) (by omega) (Nat.le_refl _)) (by simp [Value.oneCell']) (by omega) (by omega) (fun v29 w9 A29 G29 S29=>?_)
   have Lw9:=Le.of_grown (Fz:=Fz) (M:=(Ins b7 (Ins b6 M))) G29 S29 A29 Of
   have Omo29:=Om
   replace Of:=jH (w':=w9) Of hF S29
   replace Om:=jG (w':=w9) Om (fun k hk=>hM k (.inr hk)) S29
   replace B6:=B6.grown G29 (fun h=>Omo29 _ h (.inr zO))
   replace B7:=B7.grown G29 (fun h=>Omo29 _ h zO)
   obtain ⟨LS0,RL,RB⟩:=up3 Lw9 LS0 RL RB
   replace hs1:=Nat.le_trans hs1 Lw9.size
   clear Ow; have Ow:=A29
   refine xO rfl rfl sz29 B6 (by first | rfl | exact yU (by assumption) | assumption | exact yQ (by assumption)) (fun w10 Cw10 B6=>?_)
   have Lw10:=lc LS0 Cw10 (.inr (.inr zO)) nF6
   obtain ⟨LS0,RL,RB⟩:=up3 Lw10 LS0 RL RB
   replace hs1:=Nat.le_trans hs1 Lw10.size
   replace B7:=B7.other Cw10 ne6_7.symm
   replace Ow:=dG Ow Cw10 (fun h=>Om _ h (.inr zO))
   refine zD (zB (zA rfl rfl (xW rfl rfl rfl (by simp only [IntKind.bits]; omega) (xO rfl rfl dY B7 (by first | rfl | exact yU (by assumption) | assumption | exact yQ (by assumption)) (fun w11 Cw11 B7=>?_)))))
   have Lw11:=lc LS0 Cw11 (.inr zO) nF7
   obtain ⟨LS0,RL,RB⟩:=up3 Lw11 LS0 RL RB
   replace hs1:=Nat.le_trans hs1 Lw11.size
   replace B6:=B6.other Cw11 ne6_7
   replace Ow:=dG Ow Cw11 (fun h=>Om _ h zO)
   refine zD ?_
   refine ⟨RL.at_,RB.at_,hs1,fun _ c=>c.elim,?_⟩
   refine ⟨v29,zs ++ [subD x.1 x.2 c % 4294967296],subD x.1 x.2 c / 9223372036854775808,LS0,B6,B7,by simpa [lw,subD] using Ow,Of,Om,by simp [hzl],sub_step hzl hzv hD.1,hD.2.1,?_⟩
   intro z hz
   rcases List.mem_append.1 hz with hz | hz
   · exact hzlt z hz
   · simp at hz; omega
  ·intro w12 hJ hZ hDd
   obtain ⟨q,zs,c,LS0,B6,B7,Ow,Of,Om,hzl,hzv,hc,hzlt⟩:=hJ
   obtain ⟨LL,hM,Mk⟩:=up3 LS0 LL hM Mk
   have hdd:=hDd _ rfl rfl
   have RD:Rec (Mo q (Ins b7 (Ins b6 M))) w12 w5.heap.size (.deferred (some [])):=⟨hdd,(lG (kQ Ow hdd (by simp)) (uH (Rec.ne hdd B7 (by simp)) (uH (Rec.ne hdd B6 (by simp)) (gG hM0 (by omega)))))⟩
   replace Mk:=Mk.cons hszLL RD Mold0
   have hpl:=uB xs ys
   refine zF (zB (zN rfl yS rfl B6 rfl (zK rfl (bo func252) rfl rfl ?_)))
   refine (qR (xs:=zs) ⟨uC Ow (fun k hk c=>Om k hk (.inr (.inr c))) (by omega),hzlt⟩ (by omega) (fun k hk=>hM k (.inr (.inr (.inr hk))))).mono ?_
   rintro v33 w13 ⟨hB33,hf33⟩
   have hS33:=LL.size
   obtain ⟨LL,LS0,Mk⟩:=ub3 hB33 LL LS0 Mk
   replace hf33:=hf33.less hS33
   refine zC rfl rfl (zC rfl rfl (zD (zY ?_)))
   refine jK Mk (fun wz hz=>⟨[_,_],⟨rfl,rfl,trivial⟩,?_⟩)
   dsimp only [xG]
   subst hFz
   rw [cH,cG] at hzv
   have hle:val ys≤val xs:=Nat.le_of_not_lt fun c=>hc0 (aJ.2 c)
   rw [zI9 hzlt hzv hc hle] at hf33
   exact ⟨SL.Bel.drift (LL.b) hz (Nat.le_refl _),.inr ⟨hle,_,rfl,hf33.drift hz⟩⟩
theorem qC {v:Value} {xs:List Nat} (h:IsNat M w v xs) (hl:xs.length≤1099511627776) (hM:OkM M w) :
    CallsV prog 76 [v] w fun r w'=>Bel w.heap.size w w'∧Fresh 139 w w' r (limbs (val xs)):=by
 refine ci M func76 ntmps76 fun Fz hFz hF LL=>?_
 refine zF (zB (zC rfl rfl (zD (zF (zB (zA rfl rfl ?_))))))
 refine yT rfl yu29 rfl ?_
 refine zC rfl rfl (zD (zF (zX ?_)))
 refine xT (σ:=Nat) [(0,_)] (fun s=>[(3,.int .i64 ((s:Nat):Int))]) (fun s w1=>w1=w∧s≤xs.length∧∀ j,s≤j→xs.getD j 0=0) (fun s=>s) (xs.length) (zI rfl (zI rfl yB)) ?_ (fun s w1 hJ=>?_)
 · exact ⟨rfl,Nat.le_refl _,fun j hj=>jQ hj⟩
 ·obtain ⟨rfl,hs,hz⟩:=hJ
  refine zF (zF (zB (zA rfl rfl (bJ rfl rfl rfl (zA rfl rfl (kU (d:=8) rfl (fun hg2_2=>?_) (fun hg2_2=>?_)))))))
  ·refine yK rfl rfl (zA rfl rfl (yK rfl rfl (zA rfl rfl (yK rfl rfl (jC rfl rfl rfl (by omega) (yK rfl rfl (jI (s - 1) rfl yu29 yI rfl rfl (by assumption) (by omega) (by omega) (fun b12 o12 hc12 hb12=>?_))))))))
   refine yK rfl rfl (yX rfl xM rfl hc12 (yK rfl rfl (qI rfl rfl rfl (jW rfl rfl rfl (zD ?_)))))
   refine zU rfl (fun hc0=>?_) (fun hc0=>?_)
   ·refine yE (zX (zB (zA rfl rfl (jC rfl rfl rfl (by omega) (zC rfl rfl (zD ?_))))))
    refine ⟨rfl,s - 1,(zR rfl (by congr 1; omega) (zI rfl yB)),?_,?_⟩
    exact ⟨rfl,by omega,fun j hj=>by
      rcases Nat.lt_or_ge j s with h1 | h1
      · obtain rfl:j=s - 1:=by omega
        omega
      · exact hz j h1⟩
    omega
   ·refine xI (xK (zF (zB (yO rfl yu29 yI rfl rfl rfl (by simp) rfl (fun w2 b18 N18=>?_)))))
    have nF18:=hF.new N18
    have nM18:=hM.new N18
    have Lw2:=Le.of_new_mo (Fz:=Fz) (M:=M) (v:=Value.slice (some ⟨b18,0,none⟩) 0 0) N18 rfl
    obtain ⟨LL,hM,hF,h⟩:=up4 Lw2 LL hM hF h
    have Of:∀ k,(Value.slice (some ⟨b18,0,none⟩) 0 0).ownBlock=some k→¬ Fz k:=jD nF18
    have Om:∀ k,(Value.slice (some ⟨b18,0,none⟩) 0 0).ownBlock=some k→¬ M k:=jD nM18
    have Ow:=kY (n:=0) (c:=0) N18.blk rfl (Nat.le_refl _) (by omega)
    refine zA rfl rfl (zA rfl rfl (jS (M:=(Mo (Value.slice (some ⟨b18,0,none⟩) 0 0) M)) 0 s rfl yu29 yI rfl h.slc rfl ⟨_,rfl⟩ trivial (Nat.zero_le _) hs (fun v21 hv21=>?_)))
    have hn21:IsNat (Mo (Value.slice (some ⟨b18,0,none⟩) 0 0) M) w2 v21 (xs.take s):=⟨by simpa [List.map_take,hs] using hv21,fun x hx=>h.lt x (List.mem_of_mem_take hx)⟩
    refine jJ rfl yu29 yI rfl rfl rfl Ow hn21.slc (nZ _) (by simp only [List.length_take]; omega) (by simp only [List.length_take]; omega) (fun v22 w3 A22 G22 S22=>?_)
    have Lw3:=Le.of_grown (Fz:=Fz) (M:=M) G22 S22 A22 Of
    have Omo22:=Om
    replace Of:=jH (w':=w3) Of hF S22
    replace Om:=jG (w':=w3) Om (fun k hk=>hM k (.inr hk)) S22
    obtain ⟨LL,h,hn21⟩:=up3 Lw3 LL h hn21
    clear Ow; have Ow:=A22
    refine zC rfl rfl (zD (zY ?_))
    refine lv1 ⟨rfl,trivial⟩ ?_
    have e:xs.take s=limbs (val xs):=dA h.lt hs hz (by first | (left; omega) | (right; omega))
    subst hFz
    refine ⟨LL.b,?_⟩
    rw [← e]
    exact bL (by simpa using Ow) Of hn21.lt (by simp only [List.length_take]; omega)
  ·refine yL rfl rfl rfl rfl (yL rfl rfl rfl rfl (yL rfl rfl rfl rfl (yL rfl rfl rfl rfl (yL rfl rfl rfl rfl (yL rfl rfl rfl rfl (jW rfl rfl rfl (zD (aV rfl (xI (xK (zF (zB (yO rfl yu29 yI rfl rfl rfl (by simp) rfl (fun w4 b18 N18=>?_))))))))))))))
   have nF18:=hF.new N18
   have nM18:=hM.new N18
   have Lw4:=Le.of_new_mo (Fz:=Fz) (M:=M) (v:=Value.slice (some ⟨b18,0,none⟩) 0 0) N18 rfl
   obtain ⟨LL,hM,hF,h⟩:=up4 Lw4 LL hM hF h
   have Of:∀ k,(Value.slice (some ⟨b18,0,none⟩) 0 0).ownBlock=some k→¬ Fz k:=jD nF18
   have Om:∀ k,(Value.slice (some ⟨b18,0,none⟩) 0 0).ownBlock=some k→¬ M k:=jD nM18
   have Ow:=kY (n:=0) (c:=0) N18.blk rfl (Nat.le_refl _) (by omega)
   refine zA rfl rfl (zA rfl rfl (jS (M:=(Mo (Value.slice (some ⟨b18,0,none⟩) 0 0) M)) 0 s rfl yu29 yI rfl h.slc rfl ⟨_,rfl⟩ trivial (Nat.zero_le _) hs (fun v21 hv21=>?_)))
   have hn21:IsNat (Mo (Value.slice (some ⟨b18,0,none⟩) 0 0) M) w4 v21 (xs.take s):=⟨by simpa [List.map_take,hs] using hv21,fun x hx=>h.lt x (List.mem_of_mem_take hx)⟩
   refine jJ rfl yu29 yI rfl rfl rfl Ow hn21.slc (nZ _) (by simp only [List.length_take]; omega) (by simp only [List.length_take]; omega) (fun v22 w5 A22 G22 S22=>?_)
   have Lw5:=Le.of_grown (Fz:=Fz) (M:=M) G22 S22 A22 Of
   have Omo22:=Om
   replace Of:=jH (w':=w5) Of hF S22
   replace Om:=jG (w':=w5) Om (fun k hk=>hM k (.inr hk)) S22
   obtain ⟨LL,h,hn21⟩:=up3 Lw5 LL h hn21
   clear Ow; have Ow:=A22
   refine zC rfl rfl (zD (zY ?_))
   refine lv1 ⟨rfl,trivial⟩ ?_
   have e:xs.take s=limbs (val xs):=dA h.lt hs hz (by first | (left; omega) | (right; omega))
   subst hFz
   refine ⟨LL.b,?_⟩
   rw [← e]
   exact bL (by simpa using Ow) Of hn21.lt (by simp only [List.length_take]; omega)
theorem zX7 {n:Nat} (hn:n < 18446744073709551616) (hM:OkM M w) :
    CallsV prog 166 [.int .u64 (n:Int)] w fun r w'=>Bel w.heap.size w w'∧Fresh 139 w w' r (limbs n):=by
 refine ci M func166 ntmps166 fun Fz hFz hF LL=>?_
 refine zF (zB (zC rfl rfl (zD (zF (zB (zA rfl rfl (jA rfl yu168 yu139 rfl (zA rfl rfl (xW rfl rfl rfl (by simp only [IntKind.bits]; omega) (jA rfl yu168 yu139 rfl (yO rfl yu29 yI rfl rfl rfl (by simp [Value.oneCell']) rfl (fun w1 b8 N8=>?_))))))))))))
 have hBw1:=N8.below
 have nM8:=hM.new N8
 have B8:=N8.blk
 obtain ⟨LL,hM⟩:=ub2 hBw1 LL hM
 have hn8:IsNat M w1 (.slice (some ⟨b8,0,none⟩) 2 2) [n % 4294967296,n / 4294967296 % 4294967296] :=
   ⟨B8.slc (M:=M) nM8 (n:=2) (c:=2) (ds:=[n % 4294967296,n / 4294967296 % 4294967296].map lw) rfl (fun j u hj=>hj) (by omega) (Nat.le_refl _),by intro x hx; simp at hx; omega⟩
 refine zK rfl (bo func76) rfl rfl ?_
 refine (qC hn8 (by simp) hM).mono ?_
 rintro v9 w2 ⟨hB9,hf9⟩
 have hM9:=hM
 have hS9:=LL.size
 replace LL:=ub1 hB9 LL
 replace hf9:=hf9.less hS9
 refine zC rfl rfl (zD (zY ?_))
 refine lv1 ⟨rfl,trivial⟩ ?_
 have e:val [n % 4294967296,n / 4294967296 % 4294967296]=n:=by simp only [val]; omega
 rw [e] at hf9
 subst hFz
 exact ⟨LL.b,hf9⟩
theorem rsmall_c {v:Value} {xs:List Nat} (h:IsNat M w v xs) (hl:xs.length≤1099511627776) (hM:OkM M w) :
    CallsV prog 164 [v] w fun r w'=>Bel w.heap.size w w'∧r = .tuple #[.int .u64 ((qO (val xs):Nat):Int),.bool (decide (val xs < 18446744073709551616))]:=by
 refine ci M func164 ntmps164 fun Fz hFz hF LL=>?_
 refine zF (zB (zC rfl rfl (zC rfl rfl (zD (zF (zB (zA rfl rfl (zK rfl (bo func76) rfl rfl ?_))))))))
 refine (qC (by assumption) (by omega) hM).mono ?_
 rintro v8 w1 ⟨hB8,hf8⟩
 have hM8:=hM
 have hS8:=LL.size
 obtain ⟨LL,h⟩:=ub2 hB8 LL h
 have hn8:=hf8.nat hM8
 refine zC rfl rfl (zD (zF (zF (zB ?_))))
 have hts:=hn8.len
 refine zA rfl rfl ?_
 refine yT rfl yu29 rfl ?_
 refine bJ rfl rfl rfl (zD ?_)
 refine zU rfl (fun hc0=>?_) (fun hc0=>?_)
 ·refine zF (zB (zC rfl rfl (zC rfl rfl (zD (zY ?_)))))
  refine xF ⟨[_,_],⟨rfl,rfl,trivial⟩,?_⟩
  dsimp only [xG]
  subst hFz
  have hbig:=big_len (xs:=xs) (by omega)
  exact ⟨LL.b,by simp [qO,hbig]⟩
 ·refine yE (zF (zB (zC rfl rfl (zD (zF (zF (zB (zA rfl rfl ?_))))))))
  refine yT rfl yu29 rfl ?_
  refine jC rfl rfl rfl (by omega) (zC rfl rfl (zD (zX ?_)))
  refine xT (σ:=Nat) [(4,_)] (fun s=>[(5,.int .u64 ((val ((limbs (val xs)).drop s):Nat):Int)),(6,.int .i64 (((s:Nat):Int) - 1))]) (fun s w2=>w2=w1∧s≤(limbs (val xs)).length) (fun s=>s) ((limbs (val xs)).length) (zR rfl (by simp [val]) (zI rfl (zI rfl yB))) ?_ (fun s w2 hJ=>?_)
  · exact ⟨rfl,Nat.le_refl _⟩
  ·obtain ⟨rfl,hs⟩:=hJ
   have hlt:=gP (val xs)
   have hstep:0 < s→val ((limbs (val xs)).drop (s - 1))=(limbs (val xs)).getD (s - 1) 0 + 4294967296 * val ((limbs (val xs)).drop s):=fun h=>by rw [kK (by omega),show s - 1 + 1=s by omega]
   have hdb:0 < s→val ((limbs (val xs)).drop s) < 4294967296:=fun h=>by
     have h1:=jF ((limbs (val xs)).drop s) (fun x hx=>hlt x (List.mem_of_mem_drop hx))
     have h2:4294967296 ^ ((limbs (val xs)).drop s).length≤4294967296 ^ 1:=Nat.pow_le_pow_right (by omega) (by simp; omega)
     omega
   have hdb0:val ((limbs (val xs)).drop s) < 18446744073709551616:=by
     have h1:=jF ((limbs (val xs)).drop s) (fun x hx=>hlt x (List.mem_of_mem_drop hx))
     have h2:4294967296 ^ ((limbs (val xs)).drop s).length≤4294967296 ^ 2:=Nat.pow_le_pow_right (by omega) (by simp; omega)
     have h3:(4294967296:Nat) ^ 2=18446744073709551616:=by decide
     omega
   refine zF (zF (zB (zA rfl rfl (kT rfl rfl rfl (zD ?_)))))
   refine zU rfl (fun hc1=>?_) (fun hc1=>?_)
   ·refine yE (zF (zX (zB (zA rfl rfl (qM (m:=18446744073709551616) rfl rfl rfl (by simp only [IntKind.bits]; omega) rfl (.inl rfl) (zA rfl rfl (zA rfl rfl (jI (s - 1) rfl yu29 yI rfl rfl (by assumption) (by omega) (by omega) (fun b23 o23 hc23 hb23=>?_)))))))))
    refine yX rfl xM rfl hc23 (xC rfl yu139 yu168 rfl (by omega) (gH rfl rfl rfl (by have h9:(2 ^ (Int.toNat 32):Nat)=4294967296:=rfl; rw [h9]; omega) (zC rfl rfl (zD (zB (zA rfl rfl (jC rfl rfl rfl (by omega) (zC rfl rfl (zD ?_)))))))))
    refine ⟨rfl,s - 1,(zR rfl (by congr 2; rw [hstep (by omega)]; have h9:(2 ^ (Int.toNat 32):Nat)=4294967296:=rfl; rw [h9]; omega) (zR rfl (by congr 1; omega) (zI rfl yB))),?_,?_⟩
    exact ⟨rfl,by omega⟩
    omega
   ·refine xI (xK (zF (zB (zA rfl rfl (zC rfl rfl (zC rfl rfl (zD (zY ?_))))))))
    refine xF ⟨[_,_],⟨rfl,rfl,trivial⟩,?_⟩
    dsimp only [xG]
    subst hFz
    obtain rfl:s=0:=by omega
    have hsm:=small_len (xs:=xs) (by omega)
    exact ⟨LL.b,by simp [qO,hsm,zP]⟩
theorem bW {v:Value} {xs:List Nat} {i:Int} (h:IsNat M w v xs) (k:Nat) (hi:i=(k:Int)) (hM:OkM M w) :
    CallsV prog 275 [v,.int .i64 i] w fun r w'=>Bel w.heap.size w w'∧r = .int .u64 ((xs.getD k 0:Nat):Int)∧xs.getD k 0 < 4294967296:=by
 have hl:=h.len
 refine ci M func275 ntmps275 fun Fz hFz hF LL=>?_
 refine zF (zB (zC rfl rfl (zD (zF (zF (zB (zA rfl rfl (zA rfl rfl ?_))))))))
 refine yT rfl yu29 rfl ?_
 refine kT rfl rfl rfl (zD ?_)
 refine zU rfl (fun hc0=>?_) (fun hc0=>?_)
 ·refine zF (zB (zC rfl rfl (zD (zY ?_))))
  refine lv1 ⟨rfl,trivial⟩ ?_
  exact ⟨by subst hFz; exact LL.b,by rw [jQ (by omega)]; rfl,h.lim k⟩
 ·refine yE (zF (zB (zA rfl rfl (zA rfl rfl (jI (k) rfl yu29 yI rfl rfl (by assumption) (by omega) (by omega) (fun b11 o11 hc11 hb11=>?_))))))
  refine yX rfl xM rfl hc11 (xC rfl yu139 yu168 rfl (by omega) (zC rfl rfl (zD (zY ?_))))
  refine lv1 ⟨rfl,trivial⟩ ?_
  exact ⟨by subst hFz; exact LL.b,rfl,h.lim k⟩
theorem zS1 {v u:Value} {xs ys:List Nat} (h1:IsNat M w v xs) (h2:IsNat M w u ys) (hl1:xs.length≤1099511627776) (hl2:ys.length≤1099511627776) (hM:OkM M w) :
    CallsV prog 227 [v,u] w fun r w'=>Bel w.heap.size w w'∧r = .int .i64 (cmpN (val xs) (val ys)):=by
 refine ci M func227 ntmps227 fun Fz hFz hF LL=>?_
 refine zF (zB (zC rfl rfl (zD (zF (zF (zB (zA rfl rfl ?_)))))))
 refine yT rfl yu29 rfl ?_
 refine zA rfl rfl ?_
 refine yT rfl yu29 rfl ?_
 refine kF rfl rfl rfl (jC rfl rfl rfl (by omega) (zC rfl rfl (zD (zX ?_))))
 refine xT (σ:=Nat) [(0,_),(1,_)] (fun s=>[(5,.int .i64 (((s:Nat):Int) - 1))]) (fun s w1=>Le Fz M w M w1∧s≤1099511627776∧∀ j,s≤j→xs.getD j 0=ys.getD j 0) (fun s=>s) (max xs.length ys.length) (zR rfl (by congr 1; omega) (zI rfl (zI rfl yB))) ?_ (fun s w1 hJ=>?_)
 · exact ⟨Le.refl _ _ _,by omega,fun j hj=>by rw [jQ (by omega),jQ (by omega)]⟩
 ·obtain ⟨LR,hs,hz⟩:=hJ
  obtain ⟨LL,hM,h1,h2⟩:=up4 LR LL hM h1 h2
  refine zF (zF (zB (zA rfl rfl (kT rfl rfl rfl (zD ?_)))))
  refine zU rfl (fun hc0=>?_) (fun hc0=>?_)
  ·refine yE (zF (zX (zF (zF (zB (zA rfl rfl (zA rfl rfl (zK rfl (bo func275) rfl rfl ?_))))))))
   refine (bW (by assumption) (s - 1) (by omega) hM).mono ?_
   rintro v18 w2 ⟨hB18,rfl,hlt18⟩
   obtain ⟨LL,LR,hM,h1,h2⟩:=ub5 hB18 LL LR hM h1 h2
   refine zA rfl rfl (zA rfl rfl (zK rfl (bo func275) rfl rfl ?_))
   refine (bW (by assumption) (s - 1) (by omega) hM).mono ?_
   rintro v21 w3 ⟨hB21,rfl,hlt21⟩
   obtain ⟨LL,LR,hM,h1,h2⟩:=ub5 hB21 LL LR hM h1 h2
   refine jT rfl rfl rfl (zD ?_)
   refine zU rfl (fun hc1=>?_) (fun hc1=>?_)
   ·refine zF (zB (zC rfl rfl (zD (zY ?_))))
    refine lv1 ⟨rfl,trivial⟩ ?_
    subst hFz
    exact ⟨LL.b,by rw [zO3 (cP h1.lt h2.lt (j:=s - 1) (by omega) (fun j hj=>hz j (by omega)))]⟩
   ·refine yE (zF (zB (zA rfl rfl (zA rfl rfl (zK rfl (bo func275) rfl rfl ?_)))))
    refine (bW (by assumption) (s - 1) (by omega) hM).mono ?_
    rintro v25 w4 ⟨hB25,rfl,hlt25⟩
    obtain ⟨LL,LR,hM,h1,h2⟩:=ub5 hB25 LL LR hM h1 h2
    refine zA rfl rfl (zA rfl rfl (zK rfl (bo func275) rfl rfl ?_))
    refine (bW (by assumption) (s - 1) (by omega) hM).mono ?_
    rintro v28 w5 ⟨hB28,rfl,hlt28⟩
    obtain ⟨LL,LR,h1,h2⟩:=ub4 hB28 LL LR h1 h2
    refine bJ rfl rfl rfl (zD ?_)
    refine zU rfl (fun hc2=>?_) (fun hc2=>?_)
    ·refine zF (zB (zC rfl rfl (zD (zY ?_))))
     refine lv1 ⟨rfl,trivial⟩ ?_
     subst hFz
     exact ⟨LL.b,by rw [zO4 (cP h2.lt h1.lt (j:=s - 1) (by omega) (fun j hj=>(hz j (by omega)).symm))]⟩
    ·refine yE (zB (zA rfl rfl (jC rfl rfl rfl (by omega) (zC rfl rfl (zD ?_)))))
     refine ⟨rfl,s - 1,(zR rfl (by congr 1; omega) (zI rfl (zI rfl yB))),?_,?_⟩
     exact ⟨LR,by omega,fun j hj=>by
       rcases Nat.lt_or_ge j s with h1 | h1
       · obtain rfl:j=s - 1:=by omega
         omega
       · exact hz j h1⟩
     omega
  ·refine xI (xK (zF (zB (zC rfl rfl (zD (zY ?_))))))
   refine lv1 ⟨rfl,trivial⟩ ?_
   subst hFz
   exact ⟨LL.b,by rw [zO5 (cQ (fun j=>hz j (by omega)))]⟩
theorem two_c {v u:Value} {xs ys:List Nat} (h1:IsNat M w v xs) (h2:IsNat M w u ys) (hl1:xs.length≤1000000000) (hl2:ys.length≤1000000000) (hM:OkM M w) :
    CallsV prog 274 [v,u] w fun r w'=>Bel w.heap.size w w'∧Fresh 139 w w' r (limbs (val xs + val ys)):=by
 refine ci M func274 ntmps274 fun Fz hFz hF LL=>?_
 refine zF (zB (zC rfl rfl (zD (zF (zB (zC rfl rfl (zD (zF (zB ?_)))))))))
 have Ow:=bX (w:=w) (e:=139)
 have Of:∀ k,(Value.slice none 0 0).ownBlock=some k→¬ Fz k:=kH
 have Om:∀ k,(Value.slice none 0 0).ownBlock=some k→¬ M k:=kH
 have Ln:=Le.mo_nil (Fz:=Fz) (M:=M) (w:=w)
 obtain ⟨LL,hM,hF,h1,h2⟩:=up5 Ln LL hM hF h1 h2
 clear Ln
 refine zC rfl rfl (zD (zF (zF (zB (zC rfl rfl (zD (zX ?_)))))))
 refine xT (σ := Nat × Value × Nat) [(0, _), (1, _)] (fun s => [(5, s.2.1), (6, .int .u64 ((s.2.2 : Nat) : Int)), (7, .int .i64 ((s.1 : Nat) : Int))]) (fun s w1 => Le Fz (Mo (.slice none 0 0) M) w (Mo s.2.1 M) w1 ∧ s.1 ≤ max xs.length ys.length ∧ (∀ k, s.2.1.ownBlock = some k → ¬ Fz k) ∧ (∀ k, s.2.1.ownBlock = some k → ¬ M k) ∧ ∃ zs, w1.ownsRow 0 139 1 s.2.1 zs.length (zs.map lw) ∧ zs.length = s.1 ∧
       val zs + 4294967296 ^ zs.length * s.2.2=val (((xQ xs ys).take s.1).map (·.1)) + val (((xQ xs ys).take s.1).map (·.2))∧s.2.2≤1∧(∀ z ∈ zs,z < 4294967296)) (fun s=>max xs.length ys.length - s.1) ((0,.slice none 0 0,0)) (zI rfl (zI rfl (zI rfl (zI rfl (zI rfl yB))))) ?_ (fun s w1 hJ=>?_)
 · dsimp only
   exact ⟨Le.refl _ _ _,by omega,Of,Om,[],by simpa using Ow,rfl,by simp [val],by omega,by simp⟩
 ·obtain ⟨k,q,c⟩:=s
  dsimp only at hJ ⊢
  obtain ⟨LR,hk,Of,Om,zs,Ow,hzl,hzv,hc,hzlt⟩:=hJ
  obtain ⟨LL,hM,hF,h1,h2⟩:=up5 LR LL hM hF h1 h2
  have hbx:=h1.lim k
  have hby:=h2.lim k
  refine zF (zF (zB (zA rfl rfl (zA rfl rfl ?_))))
  refine yT rfl yu29 rfl ?_
  refine zA rfl rfl ?_
  refine yT rfl yu29 rfl ?_
  refine kF rfl rfl rfl (jT rfl rfl rfl (zD ?_))
  refine zU rfl (fun hc0=>?_) (fun hc0=>?_)
  ·refine yE (zF (zX (zF (zB (zA rfl rfl (zA rfl rfl (zK rfl (bo func275) rfl rfl ?_)))))))
   refine (bW (by assumption) (k) (by omega) hM).mono ?_
   rintro v20 w2 ⟨hB20,rfl,hlt20⟩
   obtain ⟨LL,LR,hM,hF,h1,h2⟩:=ub6 hB20 LL LR hM hF h1 h2
   replace Ow:=xA Ow hB20
   refine zA rfl rfl (zA rfl rfl (zK rfl (bo func275) rfl rfl ?_))
   refine (bW (by assumption) (k) (by omega) hM).mono ?_
   rintro v23 w3 ⟨hB23,rfl,hlt23⟩
   obtain ⟨LR,hM,hF⟩:=ub3 hB23 LR hM hF
   replace Ow:=xA Ow hB23
   first | refine gH rfl rfl rfl (by omega) ?_ | refine gM rfl rfl rfl ?_
   refine zA rfl rfl ?_
   first | refine gH rfl rfl rfl (by omega) ?_ | refine gM rfl rfl rfl ?_
   refine zC rfl rfl (zD (zF (zB (zA rfl rfl (zA rfl rfl (jA rfl yu168 yu139 rfl (yO rfl yu29 yI rfl rfl rfl (by simp [Value.oneCell',lw]) rfl (fun w4 b30 N30=>?_))))))))
   have hBw4:=N30.below
   have nM30:=hM.new N30
   have B30:=N30.blk
   obtain ⟨LR,hM,hF⟩:=ub3 hBw4 LR hM hF
   replace Ow:=xA Ow hBw4
   refine jJ rfl yu29 yI rfl rfl rfl Ow (B30.slc nM30 rfl (fun _ _ h=>h) (by omega) (Nat.le_refl _)) (by simp [Value.oneCell']) (by omega) (by omega) (fun v31 w5 A31 G31 S31=>?_)
   have Lw5:=Le.of_grown (Fz:=Fz) (M:=M) G31 S31 A31 Of
   have Omo31:=Om
   replace Of:=jH (w':=w5) Of hF S31
   replace Om:=jG (w':=w5) Om (fun k hk=>hM k (.inr hk)) S31
   replace LR:=LR.trans Lw5
   clear Ow; have Ow:=A31
   refine zC rfl rfl (zD (zB (zA rfl rfl (xW rfl rfl rfl (by simp only [IntKind.bits]; omega) (zC rfl rfl (zD (zB (zA rfl rfl (yV rfl rfl rfl (by omega) (zC rfl rfl (zD ?_)))))))))))
   refine ⟨rfl,(k + 1,v31,(xs.getD k 0 + ys.getD k 0 + c) / 4294967296),(zR rfl (rfl) (zR rfl (rfl) (zR rfl (by rw [Int.natCast_add]; rfl) (zI rfl (zI rfl yB))))),?_,?_⟩
   dsimp only
   have hp:=fS (xs:=xs) (ys:=ys) (s:=k) (by omega)
   have e:xs.getD k 0 + ys.getD k 0 + c=c + (xs.getD k 0 + ys.getD k 0):=by omega
   exact ⟨LR,by omega,Of,Om,zs ++ [(xs.getD k 0 + ys.getD k 0 + c) % 4294967296],by simpa [lw] using Ow,by simp [hzl],by rw [hp.1,e]; exact vQ (by simp [hzl,uB]; omega) hzv,by omega,fun z hz=>by
     rcases List.mem_append.1 hz with hz | hz
     · exact hzlt z hz
     · simp at hz; omega⟩
   dsimp only
   omega
  ·refine xI (xK (zF (zB (zA rfl rfl (zA rfl rfl (jA rfl yu168 yu139 rfl (yO rfl yu29 yI rfl rfl rfl (by simp [Value.oneCell',lw]) rfl (fun w6 b37 N37=>?_))))))))
   have hBw6:=N37.below
   have nM37:=hM.new N37
   have B37:=N37.blk
   obtain ⟨LL,hM,hF⟩:=ub3 hBw6 LL hM hF
   replace Ow:=xA Ow hBw6
   refine jJ rfl yu29 yI rfl rfl rfl Ow (B37.slc nM37 rfl (fun _ _ h=>h) (by omega) (Nat.le_refl _)) (by simp [Value.oneCell']) (by omega) (by omega) (fun v38 w7 A38 G38 S38=>?_)
   have Lw7:=Le.of_grown (Fz:=Fz) (M:=M) G38 S38 A38 Of
   have Omo38:=Om
   replace Of:=jH (w':=w7) Of hF S38
   replace Om:=jG (w':=w7) Om (fun k hk=>hM k (.inr hk)) S38
   obtain ⟨LL,hM⟩:=up2 Lw7 LL hM
   clear Ow; have Ow:=A38
   refine zK rfl (bo func76) rfl rfl ?_
   refine (qC (xs:=zs ++ [c % 4294967296]) ⟨by simpa [lw] using uC Ow (fun k hk c=>Om k hk c) (by omega),fun z hz=>by rcases List.mem_append.1 hz with hz | hz <;> first | exact hzlt z hz | (simp at hz; omega)⟩ (by simp; omega) (fun k hk=>hM k (.inr hk))).mono ?_
   rintro v39 w8 ⟨hB39,hf39⟩
   have hS39:=LL.size
   replace LL:=ub1 hB39 LL
   replace hf39:=hf39.less hS39
   refine zC rfl rfl (zD (zY ?_))
   refine lv1 ⟨rfl,trivial⟩ ?_
   subst hFz
   obtain rfl:k=max xs.length ys.length:=by omega
   rw [pB (Nat.le_refl _),cH,cG] at hzv
   rw [uL,show c % 4294967296=c by omega,hzv] at hf39
   exact ⟨LL.b,hf39⟩
theorem zS2 {v:Value} {xss:List (List Nat)} (h:IsNats M w v xss) (hl:∀ xs ∈ xss,xs.length≤1000000) (hn:xss.length≤1000000) (hM:OkM M w) :
    CallsV prog 224 [v] w fun r w'=>Bel w.heap.size w w'∧Fresh 139 w w' r (limbs ((xss.map val).sum)):=by
 refine ci M func224 ntmps224 fun Fz hFz hF LL=>?_
 refine zF (zB (zC rfl rfl (zD (zF (zB (zC rfl rfl (zD (zF (zF (zB (zC rfl rfl (zD (zX ?_)))))))))))))
 refine xT (σ:=Nat × Value) [(0,_)] (fun s=>[(3,s.2),(4,.int .i64 ((s.1:Nat):Int))]) (fun s w1=>Le Fz M w M w1∧s.1≤xss.length∧∃ ys,IsNat M w1 s.2 ys∧val ys=((xss.map val).take s.1).sum∧ys.length≤1000000 + s.1) (fun s=>xss.length - s.1) ((0,.slice none 0 0)) (zI rfl (zI rfl (zI rfl yB))) ?_ (fun s w1 hJ=>?_)
 · exact ⟨Le.refl _ _ _,by omega,[],kA,by simp [val],by simp⟩
 ·obtain ⟨k,u⟩:=s
  dsimp only at hJ ⊢
  obtain ⟨LR,hk,ys,hy,hyv,hyl⟩:=hJ
  have hlk:k < xss.length→(xss.getD k []).length≤1000000:=fun hk=>hl _ (by simp [List.getElem?_eq_getElem hk])
  generalize hxs:xss.getD k []=xs at hlk
  obtain ⟨LL,hM,h⟩:=up3 LR LL hM h
  refine zF (zF (zB (zA rfl rfl (zA rfl rfl ?_))))
  refine yT rfl yu260 rfl ?_
  refine jT rfl rfl rfl (zD ?_)
  refine zU rfl (fun hc0=>?_) (fun hc0=>?_)
  ·refine yE (zF (zX (zB (zA rfl rfl (zA rfl rfl (zA rfl rfl (tK (k) rfl yu260 sz29 rfl rfl (by assumption) (by omega) (by omega) (fun b14 o14 u14 hc14 hu14=>?_))))))))
   rw [hxs] at hu14
   refine yX rfl yS rfl hc14 (zK rfl (bo func274) rfl rfl ?_)
   refine (two_c (by assumption) (by assumption) (by omega) (by omega) hM).mono ?_
   rintro v16 w2 ⟨hB16,hf16⟩
   have hM16:=hM
   have hS16:=LL.size
   obtain ⟨LR,h,hy,hu14⟩:=ub4 hB16 LR h hy hu14
   have hn16:=hf16.nat hM16
   refine zC rfl rfl (zD (zB (zA rfl rfl (yV rfl rfl rfl (by omega) (zC rfl rfl (zD ?_))))))
   refine ⟨rfl,(k + 1,v16),(zR rfl (rfl) (zR rfl (by rw [Int.natCast_add]; rfl) (zI rfl yB))),?_,?_⟩
   have hll:(limbs (val ys + val xs)).length≤1000000 + (k + 1):=by
     refine yJ ?_
     have h1:=jF ys hy.lt
     have h2:=jF xs hu14.lt
     have h3:4294967296 ^ ys.length≤4294967296 ^ (1000000 + k):=Nat.pow_le_pow_right (by omega) (by omega)
     have h4:4294967296 ^ xs.length≤4294967296 ^ (1000000 + k):=Nat.pow_le_pow_right (by omega) (by omega)
     rw [← Nat.add_assoc,Nat.pow_succ]
     generalize 4294967296 ^ (1000000 + k)=B at *
     omega
   exact ⟨LR,by omega,_,hn16,by rw [zP,hyv,fK (k:=k) (by omega) hxs],hll⟩
   dsimp only
   omega
  ·refine xI (xK (zF (zB (zA rfl rfl (zK rfl (bo func76) rfl rfl ?_)))))
   refine (qC (by assumption) (by omega) hM).mono ?_
   rintro v18 w3 ⟨hB18,hf18⟩
   have hM18:=hM
   have hS18:=LL.size
   obtain ⟨LL,h⟩:=ub2 hB18 LL h
   have hn18:=hf18.nat hM18
   replace hf18:=hf18.less hS18
   refine zC rfl rfl (zD (zY ?_))
   refine lv1 ⟨rfl,trivial⟩ ?_
   subst hFz
   obtain rfl:k=xss.length:=by omega
   rw [List.take_of_length_le (by simp)] at hyv
   rw [hyv] at hf18
   exact ⟨LL.b,hf18⟩
theorem zR8 {v u:Value} {xs ys:List Nat} (h1:IsNat M w v xs) (h2:IsNat M w u ys) (hl1:xs.length≤1000000000) (hl2:ys.length≤1000000000) (hM:OkM M w) :
    CallsV prog 228 [v,u] w fun r w'=>Bel w.heap.size w w'∧((val xs < val ys∧r = .tuple #[.slice none 0 0,.int .i64 10]) ∨ (val ys≤val xs∧∃ q,r = .tuple #[q,.int .i64 0]∧Fresh 139 w w' q (limbs (val xs - val ys)))):=by
 refine ci M func228 ntmps228 fun Fz hFz hF LL=>?_
 refine zF (zB (zC rfl rfl (zC rfl rfl (zD (zF (zF (zB (zA rfl rfl (zA rfl rfl (zK rfl (bo func227) rfl rfl ?_))))))))))
 refine (zS1 (by assumption) (by assumption) (by omega) (by omega) hM).mono ?_
 rintro v12 w1 ⟨hB12,rfl⟩
 obtain ⟨LL,hM,hF,h1,h2⟩:=ub5 hB12 LL hM hF h1 h2
 refine jT rfl rfl rfl (zD ?_)
 refine zU rfl (fun hc0=>?_) (fun hc0=>?_)
 ·refine zF (zB (zC rfl rfl (zC rfl rfl (zD (zY ?_)))))
  refine xF ⟨[_,_],⟨rfl,rfl,trivial⟩,?_⟩
  dsimp only [xG]
  subst hFz
  exact ⟨LL.b,.inl ⟨aJ.1 hc0,rfl⟩⟩
 ·refine yE (zF (zB (zC rfl rfl (zD (zF (zB ?_))))))
  have Ow:=bX (w:=w1) (e:=139)
  have Of:∀ k,(Value.slice none 0 0).ownBlock=some k→¬ Fz k:=kH
  have Om:∀ k,(Value.slice none 0 0).ownBlock=some k→¬ M k:=kH
  have Ln:=Le.mo_nil (Fz:=Fz) (M:=M) (w:=w1)
  obtain ⟨LL,hM,hF,h1,h2⟩:=up5 Ln LL hM hF h1 h2
  clear Ln
  refine zC rfl rfl (zD (zF (zF (zB (zC rfl rfl (zD (zX ?_)))))))
  refine xT (σ := Nat × Value × Nat) [(0, _), (1, _)] (fun s => [(6, s.2.1), (7, .int .u64 ((s.2.2 : Nat) : Int)), (8, .int .i64 ((s.1 : Nat) : Int))]) (fun s w2 => Le Fz (Mo (.slice none 0 0) M) w1 (Mo s.2.1 M) w2 ∧ s.1 ≤ xs.length ∧ (∀ k, s.2.1.ownBlock = some k → ¬ Fz k) ∧ (∀ k, s.2.1.ownBlock = some k → ¬ M k) ∧ ∃ zs, w2.ownsRow 0 139 1 s.2.1 zs.length (zs.map lw) ∧ zs.length = s.1 ∧
        val zs + val (ys.take s.1) + 4294967296 ^ zs.length * s.2.2=val (xs.take s.1) + 4294967296 ^ zs.length * (2 * s.2.2)∧s.2.2≤1∧(∀ z ∈ zs,z < 4294967296)) (fun s=>xs.length - s.1) ((0,.slice none 0 0,0)) (zI rfl (zI rfl (zI rfl (zI rfl (zI rfl yB))))) ?_ (fun s w2 hJ=>?_)
  · dsimp only
    exact ⟨Le.refl _ _ _,by omega,Of,Om,[],by simpa using Ow,rfl,by simp [val],by omega,by simp⟩
  ·obtain ⟨k,q,c⟩:=s
   dsimp only at hJ ⊢
   obtain ⟨LR,hk,Of,Om,zs,Ow,hzl,hzv,hc,hzlt⟩:=hJ
   obtain ⟨LL,hM,hF,h1,h2⟩:=up5 LR LL hM hF h1 h2
   have hbx:=h1.lim k
   have hby:=h2.lim k
   refine zF (zF (zB (zA rfl rfl (zA rfl rfl ?_))))
   refine yT rfl yu29 rfl ?_
   refine jT rfl rfl rfl (zD ?_)
   refine zU rfl (fun hc1=>?_) (fun hc1=>?_)
   ·refine yE (zF (zX (zF (zB (zA rfl rfl (zA rfl rfl (zK rfl (bo func275) rfl rfl ?_)))))))
    refine (bW (by assumption) (k) (by omega) hM).mono ?_
    rintro v22 w3 ⟨hB22,rfl,hlt22⟩
    obtain ⟨LL,LR,hM,hF,h1,h2⟩:=ub6 hB22 LL LR hM hF h1 h2
    replace Ow:=xA Ow hB22
    first | refine gH (b:=4294967296) rfl rfl rfl (by omega) ?_ | refine gM (b:=4294967296) rfl rfl rfl ?_
    refine zA rfl rfl (zA rfl rfl (zK rfl (bo func275) rfl rfl ?_))
    refine (bW (by assumption) (k) (by omega) hM).mono ?_
    rintro v26 w4 ⟨hB26,rfl,hlt26⟩
    obtain ⟨LR,hM,hF⟩:=ub3 hB26 LR hM hF
    replace Ow:=xA Ow hB26
    first | refine aB rfl rfl rfl (by omega) (by omega) ?_ | refine uN rfl rfl rfl (by omega) ?_
    refine zA rfl rfl ?_
    first | refine aB rfl rfl rfl (by omega) (by omega) ?_ | refine uN rfl rfl rfl (by omega) ?_
    refine zC rfl rfl (zD (zF (zB (zA rfl rfl (zA rfl rfl (jA rfl yu168 yu139 rfl (yO rfl yu29 yI rfl rfl rfl (by simp [Value.oneCell',lw]) rfl (fun w5 b33 N33=>?_))))))))
    have hBw5:=N33.below
    have nM33:=hM.new N33
    have B33:=N33.blk
    obtain ⟨LR,hM,hF⟩:=ub3 hBw5 LR hM hF
    replace Ow:=xA Ow hBw5
    refine jJ rfl yu29 yI rfl rfl rfl Ow (B33.slc nM33 rfl (fun _ _ h=>h) (by omega) (Nat.le_refl _)) (by simp [Value.oneCell']) (by omega) (by omega) (fun v34 w6 A34 G34 S34=>?_)
    have Lw6:=Le.of_grown (Fz:=Fz) (M:=M) G34 S34 A34 Of
    have Omo34:=Om
    replace Of:=jH (w':=w6) Of hF S34
    replace Om:=jG (w':=w6) Om (fun k hk=>hM k (.inr hk)) S34
    replace LR:=LR.trans Lw6
    clear Ow; have Ow:=A34
    refine zC rfl rfl (zD (zB (zA rfl rfl ?_)))
    refine xW rfl rfl rfl (by simp only [IntKind.bits]; omega) ?_
    have hq:(xs.getD k 0 + 4294967296 - ys.getD k 0 - c) / 4294967296≤1:=by omega
    refine jR (d:=36) (u:=.int .u64 (((xs.getD k 0 + 4294967296 - ys.getD k 0 - c) / 4294967296:Nat):Int)) rfl rfl ?_
    first | refine aB (a:=1) rfl rfl rfl (by omega) (by omega) ?_ | refine uN (a:=1) rfl rfl rfl (by omega) ?_
    refine zC rfl rfl (zD (zB (zA rfl rfl (yV rfl rfl rfl (by omega) (zC rfl rfl (zD ?_))))))
    refine ⟨rfl,(k + 1,v34,1 - (xs.getD k 0 + 4294967296 - ys.getD k 0 - c) / 4294967296),(zR rfl (rfl) (zR rfl (rfl) (zR rfl (by rw [Int.natCast_add]; rfl) (zI rfl (zI rfl yB))))),?_,?_⟩
    dsimp only
    exact ⟨LR,by omega,Of,Om,zs ++ [(xs.getD k 0 + 4294967296 - ys.getD k 0 - c) % 4294967296],by simpa [lw] using Ow,by simp [hzl],rsub_step hzl hzv (by omega) (by omega),by omega,fun z hz=>by
      rcases List.mem_append.1 hz with hz | hz
      · exact hzlt z hz
      · simp at hz; omega⟩
    dsimp only
    omega
   ·refine xI (xK (zF (zB (zA rfl rfl (zK rfl (bo func76) rfl rfl ?_)))))
    refine (qC (xs:=zs) ⟨uC Ow (fun k hk c=>Om k hk c) (by omega),hzlt⟩ (by omega) (fun k hk=>hM k (.inr hk))).mono ?_
    rintro v39 w7 ⟨hB39,hf39⟩
    have hS39:=LL.size
    obtain ⟨LL,h1⟩:=ub2 hB39 LL h1
    replace hf39:=hf39.less hS39
    refine zC rfl rfl (zC rfl rfl (zD (zY ?_)))
    refine xF ⟨[_,_],⟨rfl,rfl,trivial⟩,?_⟩
    dsimp only [xG]
    subst hFz
    obtain rfl:k=xs.length:=by omega
    have hle:val ys≤val xs:=Nat.le_of_not_lt fun c=>hc0 (aJ.2 c)
    have hty:val (ys.take xs.length)=val ys:=val_take_le h1.lt hle
    rw [List.take_length,hty] at hzv
    rw [zI9 hzlt hzv hc hle] at hf39
    exact ⟨LL.b,.inr ⟨hle,_,rfl,hf39⟩⟩
theorem same_c {v u:Value} {xs ys:List Nat} (h1:IsNat M w v xs) (h2:IsNat M w u ys) (hM:OkM M w) :
    CallsV prog 173 [v,u] w fun r w'=>Bel w.heap.size w w'∧r = .bool (decide (xs=ys)):=by
 have hl1:=h1.len
 have hl2:=h2.len
 refine ci M func173 ntmps173 fun Fz hFz hF LL=>?_
 refine zF (zB (zC rfl rfl (zD (zF (zF (zB (zA rfl rfl ?_)))))))
 refine yT rfl yu29 rfl ?_
 refine zA rfl rfl ?_
 refine yT rfl yu29 rfl ?_
 refine fT rfl rfl rfl (zD ?_)
 refine zU rfl (fun hc0=>?_) (fun hc0=>?_)
 ·refine zF (zB (zC rfl rfl (zD (zY ?_))))
  refine lv1 ⟨rfl,trivial⟩ ?_
  subst hFz
  have hne:¬ xs=ys:=fun e=>by subst e; omega
  exact ⟨LL.b,by rw [decide_eq_false hne]⟩
 ·refine yE (zF (zF (zB (zC rfl rfl (zD (zX ?_))))))
  refine xT (σ:=Nat) [(0,_),(1,_)] (fun s=>[(5,.int .i64 ((s:Nat):Int))]) (fun s w1=>Le Fz M w M w1∧s≤xs.length∧∀ j,j < s→xs.getD j 0=ys.getD j 0) (fun s=>xs.length - s) (0) (zI rfl (zI rfl (zI rfl yB))) ?_ (fun s w1 hJ=>?_)
  · exact ⟨Le.refl _ _ _,by omega,fun j hj=>by omega⟩
  ·obtain ⟨LR,hs,hz⟩:=hJ
   obtain ⟨LL,hM,hF,h1,h2⟩:=up5 LR LL hM hF h1 h2
   refine zF (zF (zB (zA rfl rfl (zA rfl rfl ?_))))
   refine yT rfl yu29 rfl ?_
   refine jT rfl rfl rfl (zD ?_)
   refine zU rfl (fun hc1=>?_) (fun hc1=>?_)
   ·refine yE (zF (zX (zF ?_)))
    refine wd mixed 8 [0,1,5,20,24] (by decide +kernel) ?_
    refine zQ (fun _ _ _=>zV rfl rfl (zG (zA rfl rfl (on0 rfl)))) ?_
    refine zQ (fun _ _ _=>zV rfl rfl (zG (zA rfl rfl (on0 rfl)))) ?_
    apply dO
    ·intro wq hR hst
     refine zM rfl (zM rfl (zG ?_))
     obtain ⟨LL,LR,hM,hF,h1,h2⟩:=ub6 hR LL LR hM hF h1 h2
     refine jI (s) rfl yu29 yI rfl rfl (by assumption) (by omega) (by omega) (fun b19 o19 hc19 hb19=>?_)
     exact on1 (xJ _) rfl ⟨_,_,rfl,hc19⟩
    apply zQ
    ·intro wq hR hst
     refine xY rfl (fun v19 hp19=>?_)
     obtain ⟨b19,o19,rfl,hc19⟩:=hp19
     refine zG ?_
     refine yX rfl xM rfl hc19 ?_
     exact on0 rfl
    refine zQ (fun _ _ _=>zV rfl rfl (zG (zA rfl rfl (on0 rfl)))) ?_
    refine zQ (fun _ _ _=>zV rfl rfl (zG (zA rfl rfl (on0 rfl)))) ?_
    apply dO
    ·intro wq hR hst
     refine zM rfl (zM rfl (zG ?_))
     obtain ⟨LL,LR,hM,hF,h1,h2⟩:=ub6 hR LL LR hM hF h1 h2
     refine jI (s) rfl yu29 yI rfl rfl (by assumption) (by omega) (by omega) (fun b23 o23 hc23 hb23=>?_)
     exact on1 (xJ _) rfl ⟨_,_,rfl,hc23⟩
    apply zQ
    ·intro wq hR hst
     refine xY rfl (fun v23 hp23=>?_)
     obtain ⟨b23,o23,rfl,hc23⟩:=hp23
     refine zG ?_
     refine yX rfl xM rfl hc23 ?_
     exact on0 rfl
    refine gB (fun wq6 hR6 hpost6=>?_)
    refine zV rfl rfl (zV rfl rfl (zV rfl rfl (zM rfl (zM rfl (zG ?_)))))
    simp only [qZ,qY,qX,qW]
    obtain ⟨LL,LR⟩:=ub2 hR6 LL LR
    refine fT rfl rfl rfl (zD ?_)
    refine zU rfl (fun hc2=>?_) (fun hc2=>?_)
    ·refine zF (zB (zC rfl rfl (zD (zY ?_))))
     refine lv1 ⟨rfl,trivial⟩ ?_
     subst hFz
     have hne:¬ xs=ys:=fun e=>by subst e; omega
     exact ⟨LL.b,by rw [decide_eq_false hne]⟩
    ·refine yE (zB (zA rfl rfl (yV rfl rfl rfl (by omega) (zC rfl rfl (zD ?_)))))
     refine ⟨rfl,s + 1,(zR rfl (rfl) (zI rfl (zI rfl yB))),?_,?_⟩
     exact ⟨LR,by omega,fun j hj=>by
       rcases Nat.lt_or_ge j s with h | h
       · exact hz j h
       · obtain rfl:j=s:=by omega
         omega⟩
     omega
   ·refine xI (xK (zF (zB (zC rfl rfl (zD (zY ?_))))))
    refine lv1 ⟨rfl,trivial⟩ ?_
    subst hFz
    have heq:xs=ys:=eq_of_getD (by omega) (fun j hj=>hz j (by omega))
    exact ⟨LL.b,by rw [decide_eq_true heq]⟩
theorem zJ0 {M:Nat→Prop} {w w':World} {r:Value} {xs ys:List Nat} (h:Bel w.heap.size w w'∧((val xs < val ys∧r = .tuple #[.slice none 0 0,.int .i64 10]) ∨ (val ys≤val xs∧∃ q,r = .tuple #[q,.int .i64 0]∧Fresh 139 w w' q (limbs (val xs - val ys))))) :
    Bel w.heap.size w w'∧∃ q,r = .tuple #[q,.int .i64 (if val xs < val ys then 10 else 0)]∧Fresh 139 w w' q (limbs (val xs - val ys)):=by
  obtain ⟨hB,⟨h1,rfl⟩ | ⟨h1,q,rfl,h2⟩⟩:=h
  · refine ⟨hB,_,by rw [if_pos h1],?_⟩
    rw [show val xs - val ys=0 by omega,yW]
    exact bL bX kH (by simp) (by simp)
  · exact ⟨hB,q,by rw [if_neg (by omega)],h2⟩
theorem zR1 {v u:Value} {xs ys:List Nat} (h1:IsNat M w v xs) (h2:IsNat M w u ys) (hl1:xs.length≤1000000000) (hl2:ys.length≤1000000000) (hM:OkM M w) :
    CallsV prog 294 [v,u] w fun r w'=>Bel w.heap.size w w'∧∃ q,r = .tuple #[q,.int .i64 (if val xs < val ys then 10 else 0)]∧Fresh 139 w w' q (limbs (val xs - val ys)) :=
  (sub_c h1 h2 hl1 hl2 hM).mono (by rintro r w' h; exact zJ0 (M:=M) h)
theorem zR7 {v u:Value} {xs ys:List Nat} (h1:IsNat M w v xs) (h2:IsNat M w u ys) (hl1:xs.length≤1000000000) (hl2:ys.length≤1000000000) (hM:OkM M w) :
    CallsV prog 228 [v,u] w fun r w'=>Bel w.heap.size w w'∧∃ q,r = .tuple #[q,.int .i64 (if val xs < val ys then 10 else 0)]∧Fresh 139 w w' q (limbs (val xs - val ys)) :=
  (zR8 h1 h2 hl1 hl2 hM).mono (by rintro r w' h; exact zJ0 (M:=M) h)
theorem sN {v:Value} {xs ys:List Nat} (h:IsNats M w v [xs,ys]) (hx:∀ x ∈ xs,x < 4294967296) (hy:∀ x ∈ ys,x < 4294967296) (hl1:xs.length≤100000000) (hl2:ys.length≤100000000) (hM:OkM M w) :
    CallsV prog 279 [v] w fun r w'=>Bel w.heap.size w w'∧Fresh 139 w w' r (limbs (val xs + val ys))∧(limbs (val xs + val ys)).length≤max xs.length ys.length + 1 :=
  (zW1 h (by intro q hq; simp at hq; rcases hq with rfl | rfl <;> omega) (by simp) hM).mono fun r w' ⟨hB,hf⟩=>⟨hB,hf,iV (xU hx (by omega)) (xU hy (by omega))⟩
theorem count_c {k m:Int} (hm:0≤m) (hM:OkM M w) :
    CallsV prog 250 [.int .i64 k,.int .i64 m] w fun r w'=>Bel w.heap.size w w'∧r = .int .i64 ((cntN k m:Nat):Int):=by
 refine ci M func250 ntmps250 fun Fz hFz hF LL=>?_
 refine zF (zB (zC rfl rfl (zD (zF (zB (zA rfl rfl (zA rfl rfl (iE rfl rfl rfl (kF rfl rfl rfl (zC rfl rfl (zD (zY ?_))))))))))))
 refine lv1 ⟨rfl,trivial⟩ ?_
 subst hFz
 exact ⟨LL.b,by have h:=fE (k:=k) hm; first | rw [h.1] | rw [h.2.1]⟩
theorem rcount_c {k m:Int} (hm:0≤m) (hM:OkM M w) :
    CallsV prog 256 [.int .i64 k,.int .i64 m] w fun r w'=>Bel w.heap.size w w'∧r = .int .i64 ((cntN k m:Nat):Int):=by
 refine ci M func256 ntmps256 fun Fz hFz hF LL=>?_
 refine zF (zB (zC rfl rfl (zD (zF (zB (zA rfl rfl (kF rfl rfl rfl (zA rfl rfl (iE rfl rfl rfl (zC rfl rfl (zD (zY ?_))))))))))))
 refine lv1 ⟨rfl,trivial⟩ ?_
 subst hFz
 exact ⟨LL.b,by have h:=fE (k:=k) hm; first | rw [h.1] | rw [h.2.1]⟩
theorem wF {v u:Value} {xs ys:List Nat} (h1:IsNat M w v xs) (h2:IsNat M w u ys) (hl1:xs.length≤1000000000) (hl2:ys.length≤1000000000) (hM:OkM M w) :
    CallsV prog 114 [v,u] w fun r w'=>Bel w.heap.size w w'∧Fresh 139 w w' r (limbs (val xs * val ys)):=by
 refine ci M func114 ntmps114 fun Fz hFz hF LL=>?_
 refine zF (zB (zC rfl rfl (zD (zF (zB (zA rfl rfl ?_))))))
 refine yT rfl yu29 rfl ?_
 refine zA rfl rfl ?_
 refine yT rfl yu29 rfl ?_
 refine yV rfl rfl rfl (by omega) (kG (xs.length + ys.length) (xs.length + ys.length) rfl yu29 yI rfl rfl rfl (by omega) (by omega) (by omega) (by omega) (by omega) (fun w1 b15 N15=>?_))
 have nF15:=hF.new N15
 have nM15:=hM.new N15
 have hBw1:=N15.below
 have Lw1:=Le.of_new_mo (Fz:=Fz) (M:=M) (v:=Value.slice (some ⟨b15,0,none⟩) (xs.length + ys.length) (xs.length + ys.length)) N15 rfl
 obtain ⟨LL,hM,hF,h1,h2⟩:=up5 Lw1 LL hM hF h1 h2
 have Of:∀ k,(Value.slice (some ⟨b15,0,none⟩) (xs.length + ys.length) (xs.length + ys.length)).ownBlock=some k→¬ Fz k:=jD nF15
 have Om:∀ k,(Value.slice (some ⟨b15,0,none⟩) (xs.length + ys.length) (xs.length + ys.length)).ownBlock=some k→¬ M k:=jD nM15
 have Ow:=kY (n:=xs.length + ys.length) (c:=xs.length + ys.length) N15.blk (by simp) (by omega) (by omega)
 have Ow:World.ownsRow w1 0 139 1 (Value.slice (some ⟨b15,0,none⟩) (xs.length + ys.length) (xs.length + ys.length)) (List.replicate (xs.length + ys.length) 0).length ((List.replicate (xs.length + ys.length) 0).map lw):=by simpa [lw] using Ow
 refine zC rfl rfl (zD (zF (zF (zB (zC rfl rfl (zD (zX ?_)))))))
 refine xT (σ:=Nat) [(0,_),(1,_),(5,_)] (fun i=>[(6,.int .i64 ((i:Nat):Int))]) (fun i w2=>Le Fz (Mo (Value.slice (some ⟨b15,0,none⟩) (xs.length + ys.length) (xs.length + ys.length)) M) w1 (Mo (Value.slice (some ⟨b15,0,none⟩) (xs.length + ys.length) (xs.length + ys.length)) M) w2∧i≤xs.length∧∃ zs:List Nat,w2.ownsRow 0 139 1 (Value.slice (some ⟨b15,0,none⟩) (xs.length + ys.length) (xs.length + ys.length)) zs.length (zs.map lw)∧zs.length=xs.length + ys.length∧(∀ z ∈ zs,z < 4294967296)∧(∀ j,i + ys.length≤j→zs.getD j 0=0)∧val zs=val (xs.take i) * val ys) (fun i=>xs.length - i) (0) (zI rfl (zI rfl (zI rfl (zI rfl yB)))) ?_ (fun i w2 hJ=>?_)
 · exact ⟨Le.refl _ _ _,by omega,_,Ow,by simp,by intro z hz; have:=(List.mem_replicate.1 hz).2; omega,fun j _=>by simp [List.getD_eq_getElem?_getD,List.getElem?_replicate]; split <;> rfl,by simp [uV,val]⟩
 ·clear Ow
  obtain ⟨LR,hi,zs,Ow,hzl,hzlt,hz0,hzv⟩:=hJ
  obtain ⟨LL,hM,hF,h1,h2⟩:=up5 LR LL hM hF h1 h2
  refine zF (zF (zB (zA rfl rfl (zA rfl rfl ?_))))
  refine yT rfl yu29 rfl ?_
  refine jT rfl rfl rfl (zD ?_)
  refine zU rfl (fun hc0=>?_) (fun hc0=>?_)
  ·refine yE (zF (zX (zF (zB (zC rfl rfl (zD (zF (zF (zB (zC rfl rfl (zD (zX ?_))))))))))))
   refine xT (σ:=Nat × Nat) [(0,_),(1,_),(5,_),(6,_)] (fun s=>[(7,.int .u64 ((s.2:Nat):Int)),(8,.int .i64 ((s.1:Nat):Int))]) (fun s w3=>Le Fz (Mo (Value.slice (some ⟨b15,0,none⟩) (xs.length + ys.length) (xs.length + ys.length)) M) w2 (Mo (Value.slice (some ⟨b15,0,none⟩) (xs.length + ys.length) (xs.length + ys.length)) M) w3∧s.1≤ys.length∧s.2 < 4294967296∧∃ zs:List Nat,w3.ownsRow 0 139 1 (Value.slice (some ⟨b15,0,none⟩) (xs.length + ys.length) (xs.length + ys.length)) zs.length (zs.map lw)∧zs.length=xs.length + ys.length∧(∀ z ∈ zs,z < 4294967296)∧(∀ j,i + ys.length≤j→zs.getD j 0=0)∧val zs + 4294967296 ^ (i + s.1) * s.2=val (xs.take i) * val ys + 4294967296 ^ i * (xs.getD i 0 * val (ys.take s.1))) (fun s=>ys.length - s.1) ((0,0)) (zI rfl (zI rfl (zI rfl (zI rfl (zI rfl (zI rfl yB)))))) ?_ (fun s w3 hJ=>?_)
   · dsimp only
     exact ⟨Le.refl _ _ _,by omega,by omega,zs,Ow,hzl,hzlt,hz0,by simp [val,hzv]⟩
   ·clear Ow hzl hzlt hz0 hzv
    obtain ⟨k,c⟩:=s
    dsimp only at hJ ⊢
    obtain ⟨LR2,hk,hc,zs,Ow,hzl,hzlt,hz0,hzv⟩:=hJ
    obtain ⟨LL,LR,hM,hF,h1,h2⟩:=up6 LR2 LL LR hM hF h1 h2
    refine zF (zF (zB (zA rfl rfl (zA rfl rfl ?_))))
    refine yT rfl yu29 rfl ?_
    refine jT rfl rfl rfl (zD ?_)
    refine zU rfl (fun hc1=>?_) (fun hc1=>?_)
    ·refine yE (zF (zX (zF ?_)))
     have hbx:=h1.lim i
     have hby:=h2.lim k
     have hbz:=qB hzlt (i + k)
     have hxy:xs.getD i 0 * ys.getD k 0≤4294967295 * 4294967295:=Nat.mul_le_mul (by omega) (by omega)
     refine wd mixed 20 [0,1,5,6,8,46,47] (by decide +kernel) ?_
     apply zQ
     ·intro wq hR hst
      refine zV rfl rfl (zG ?_)
      replace LR2:=ub1 hR LR2
      refine zA rfl rfl ?_
      exact on0 rfl
     apply zQ
     ·intro wq hR hst
      refine zV rfl rfl (zG ?_)
      replace LR2:=ub1 hR LR2
      refine zA rfl rfl ?_
      exact on0 rfl
     apply dO
     ·intro wq hR hst
      refine zM rfl (zM rfl (zG ?_))
      obtain ⟨LL,LR,LR2,hM,hF,h1,h2⟩:=ub7 hR LL LR LR2 hM hF h1 h2
      replace Ow:=xA Ow hR
      refine jI (i) rfl yu29 yI rfl rfl (by assumption) (by omega) (by omega) (fun b30 o30 hc30 hb30=>?_)
      exact on1 (xJ _) rfl ⟨_,_,rfl,hc30⟩
     apply zQ
     ·intro wq hR hst
      refine xY rfl (fun v30 hp30=>?_)
      obtain ⟨b30,o30,rfl,hc30⟩:=hp30
      refine zG ?_
      replace LR2:=ub1 hR LR2
      refine yX rfl xM rfl hc30 ?_
      exact on0 rfl
     apply zQ
     ·intro wq hR hst
      refine zM rfl (zG ?_)
      replace LR2:=ub1 hR LR2
      refine xC rfl yu139 yu168 rfl (by omega) ?_
      exact on0 rfl
     apply zQ
     ·intro wq hR hst
      refine zV rfl rfl (zG ?_)
      replace LR2:=ub1 hR LR2
      refine zA rfl rfl ?_
      exact on0 rfl
     apply zQ
     ·intro wq hR hst
      refine zV rfl rfl (zG ?_)
      replace LR2:=ub1 hR LR2
      refine zA rfl rfl ?_
      exact on0 rfl
     apply dO
     ·intro wq hR hst
      refine zM rfl (zM rfl (zG ?_))
      obtain ⟨LL,LR,LR2,hM,hF,h1,h2⟩:=ub7 hR LL LR LR2 hM hF h1 h2
      replace Ow:=xA Ow hR
      refine jI (k) rfl yu29 yI rfl rfl (by assumption) (by omega) (by omega) (fun b35 o35 hc35 hb35=>?_)
      exact on1 (xJ _) rfl ⟨_,_,rfl,hc35⟩
     apply zQ
     ·intro wq hR hst
      refine xY rfl (fun v35 hp35=>?_)
      obtain ⟨b35,o35,rfl,hc35⟩:=hp35
      refine zG ?_
      replace LR2:=ub1 hR LR2
      refine yX rfl xM rfl hc35 ?_
      exact on0 rfl
     apply zQ
     ·intro wq hR hst
      refine zM rfl (zG ?_)
      replace LR2:=ub1 hR LR2
      refine xC rfl yu139 yu168 rfl (by omega) ?_
      exact on0 rfl
     apply zQ
     ·intro wq hR hst
      refine zM rfl (zM rfl (zG ?_))
      replace LR2:=ub1 hR LR2
      first | refine aC rfl rfl rfl (by omega) ?_ | refine aD rfl rfl rfl ?_
      exact on0 rfl
     apply zQ
     ·intro wq hR hst
      refine zV rfl rfl (zG ?_)
      replace LR2:=ub1 hR LR2
      refine zA rfl rfl ?_
      exact on0 rfl
     apply zQ
     ·intro wq hR hst
      refine zV rfl rfl (zG ?_)
      replace LR2:=ub1 hR LR2
      refine zA rfl rfl ?_
      exact on0 rfl
     apply zQ
     ·intro wq hR hst
      refine zV rfl rfl (zG ?_)
      replace LR2:=ub1 hR LR2
      refine zA rfl rfl ?_
      exact on0 rfl
     apply zQ
     ·intro wq hR hst
      refine zM rfl (zM rfl (zG ?_))
      replace LR2:=ub1 hR LR2
      refine yV rfl rfl rfl (by omega) ?_
      exact on0 rfl
     apply dO
     ·intro wq hR hst
      refine zM rfl (zM rfl (zG ?_))
      replace LR2:=ub1 hR LR2
      replace Ow:=xA Ow hR
      refine qT (i + k) rfl yu29 yI rfl rfl Ow (by omega) (by omega) (fun b43 cur43 cap43 B43=>?_)
      have hc43:wq.cell? ⟨b43,i + k,none⟩=some (lw (zs.getD (i + k) 0)):=by rw [B43.blk.cell]; exact B43.get (gA (by omega))
      exact on1 (xJ _) rfl ⟨_,_,rfl,hc43⟩
     apply zQ
     ·intro wq hR hst
      refine xY rfl (fun v43 hp43=>?_)
      obtain ⟨b43,o43,rfl,hc43⟩:=hp43
      refine zG ?_
      replace LR2:=ub1 hR LR2
      refine yX rfl xM rfl hc43 ?_
      exact on0 rfl
     apply zQ
     ·intro wq hR hst
      refine zM rfl (zG ?_)
      replace LR2:=ub1 hR LR2
      refine xC rfl yu139 yu168 rfl (by omega) ?_
      exact on0 rfl
     apply zQ
     ·intro wq hR hst
      refine zM rfl (zM rfl (zG ?_))
      replace LR2:=ub1 hR LR2
      first | refine gH rfl rfl rfl (by omega) ?_ | refine gM rfl rfl rfl ?_
      exact on0 rfl
     apply zQ
     ·intro wq hR hst
      refine zV rfl rfl (zG ?_)
      replace LR2:=ub1 hR LR2
      refine zA rfl rfl ?_
      exact on0 rfl
     refine gB (fun wq9 hR9 hpost9=>?_)
     refine zV rfl rfl (zV rfl rfl (zV rfl rfl (zV rfl rfl (zV rfl rfl (zM rfl (zM rfl (zG ?_)))))))
     simp only [qZ,qY,qX,qW]
     replace LR2:=ub1 hR9 LR2
     replace Ow:=xA Ow hR9
     first | refine gH rfl rfl rfl (by omega) ?_ | refine gM rfl rfl rfl ?_
     refine zC rfl rfl (zD (zF (zB (zA rfl rfl (zA rfl rfl (zA rfl rfl (yV rfl rfl rfl (by omega) (zA rfl rfl (jA rfl yu168 yu139 rfl ?_)))))))))
     refine qT (i + k) rfl yu29 yI rfl rfl Ow (by omega) (by omega) (fun b55 cur55 cap55 B55=>?_)
     have hc55:wq9.cell? ⟨b55,i + k,none⟩=some (lw (zs.getD (i + k) 0)):=by rw [B55.blk.cell]; exact B55.get (gA (by omega))
     refine gO rfl rfl yI B55.blk rfl (by have:=B55.len; have:=B55.le; omega) (by simp [Value.cells,Value.oneCell']) (fun w4 Cw4 BN=>?_)
     have Lw4:=Le.of_chg (M:=(Mo (Value.slice (some ⟨b15,0,none⟩) (xs.length + ys.length) (xs.length + ys.length)) M)) Cw4 (.inl B55.own) (Of b55 B55.own)
     replace LR2:=LR2.trans Lw4
     have Ow2:=B55.set (by omega) BN
     replace Ow2:World.ownsRow w4 0 139 1 (Value.slice (some ⟨b15,0,none⟩) (xs.length + ys.length) (xs.length + ys.length)) (zs.set (i + k) ((xs.getD i 0 * ys.getD k 0 + zs.getD (i + k) 0 + c) % 4294967296)).length ((zs.set (i + k) ((xs.getD i 0 * ys.getD k 0 + zs.getD (i + k) 0 + c) % 4294967296)).map lw):=by rw [List.length_set,List.map_set]; exact Ow2
     clear Ow; have Ow:=Ow2; clear Ow2 BN
     refine zD (zB (zA rfl rfl (xW rfl rfl rfl (by simp only [IntKind.bits]; omega) (zC rfl rfl (zD (zB (zA rfl rfl (yV rfl rfl rfl (by omega) (zC rfl rfl (zD ?_))))))))))
     refine ⟨rfl,(k + 1,(xs.getD i 0 * ys.getD k 0 + zs.getD (i + k) 0 + c) / 4294967296),(zR rfl (rfl) (zR rfl (by rw [Int.natCast_add]; rfl) (zI rfl (zI rfl (zI rfl (zI rfl yB)))))),?_,?_⟩
     dsimp only
     exact ⟨LR2,by omega,by omega,_,Ow,by simp [hzl],kN hzlt (by omega),fun j hj=>by rw [qH (by omega)]; exact hz0 j (by omega),by
       rw [← Nat.add_assoc,tP (by omega) rfl hzv,mul_row]⟩
     dsimp only
     omega
    ·obtain rfl:k=ys.length:=by omega
     rw [List.take_length] at hzv
     refine xI (xK (zB (zA rfl rfl (zA rfl rfl (zA rfl rfl ?_)))))
     refine yT rfl yu29 rfl ?_
     refine yV rfl rfl rfl (by omega) (zA rfl rfl (jA rfl yu168 yu139 rfl ?_))
     refine qT (i + ys.length) rfl yu29 yI rfl rfl Ow (by omega) (by omega) (fun b65 cur65 cap65 B65=>?_)
     have hc65:w3.cell? ⟨b65,i + ys.length,none⟩=some (lw (zs.getD (i + ys.length) 0)):=by rw [B65.blk.cell]; exact B65.get (gA (by omega))
     refine gO rfl rfl yI B65.blk rfl (by have:=B65.len; have:=B65.le; omega) (by simp [Value.cells,Value.oneCell']) (fun w5 Cw5 BN=>?_)
     have Lw5:=Le.of_chg (M:=(Mo (Value.slice (some ⟨b15,0,none⟩) (xs.length + ys.length) (xs.length + ys.length)) M)) Cw5 (.inl B65.own) (Of b65 B65.own)
     obtain ⟨LR,LR2⟩:=up2 Lw5 LR LR2
     have Ow2:=B65.set (by omega) BN
     replace Ow2:World.ownsRow w5 0 139 1 (Value.slice (some ⟨b15,0,none⟩) (xs.length + ys.length) (xs.length + ys.length)) (zs.set (i + ys.length) (c % 4294967296)).length ((zs.set (i + ys.length) (c % 4294967296)).map lw):=by rw [List.length_set,List.map_set]; exact Ow2
     clear Ow; have Ow:=Ow2; clear Ow2 BN
     refine zD (zB (zA rfl rfl (yV rfl rfl rfl (by omega) (zC rfl rfl (zD ?_)))))
     refine ⟨rfl,i + 1,(zR rfl (by rw [Int.natCast_add]; rfl) (zI rfl (zI rfl (zI rfl yB)))),?_,?_⟩
     exact ⟨LR,by omega,_,Ow,by simp [hzl],kN hzlt (by omega),fun j hj=>by rw [qH (by omega)]; exact hz0 j (by omega),by
       have:=bQ (zs:=zs) (j:=i + ys.length) (c % 4294967296) (by omega)
       rw [hz0 _ (Nat.le_refl _),Nat.mod_eq_of_lt hc] at this
       rw [Nat.mod_eq_of_lt hc,← mul_rows,← hzv]; omega⟩
     omega
  ·refine xI (xK (zF (zB (zA rfl rfl (zK rfl (bo func76) rfl rfl ?_)))))
   refine (qC (xs:=zs) ⟨uC Ow Om (by omega),hzlt⟩ (by omega) (fun k hk=>hM k (.inr hk))).mono ?_
   rintro v67 w6 ⟨hB67,hf67⟩
   have hS67:=LL.size
   replace LL:=ub1 hB67 LL
   replace hf67:=hf67.less hS67
   refine zC rfl rfl (zD (zY ?_))
   refine lv1 ⟨rfl,trivial⟩ ?_
   subst hFz
   obtain rfl:i=xs.length:=by omega
   rw [List.take_length] at hzv
   rw [hzv] at hf67
   exact ⟨LL.b,hf67⟩
theorem tB {k m:Int} {q:Nat} (hq:cntN k m=q) (hm:0≤m) (hM:OkM M w) :
    CallsV prog 256 [.int .i64 k,.int .i64 m] w fun r w'=>Bel w.heap.size w w'∧r = .int .i64 ((q:Nat):Int):=by subst hq; exact rcount_c hm hM
theorem zO1 {k m:Int} {q:Nat} (hq:cntN k m=q) (hm:0≤m) (hM:OkM M w) :
    CallsV prog 250 [.int .i64 k,.int .i64 m] w fun r w'=>Bel w.heap.size w w'∧r = .int .i64 ((q:Nat):Int):=by subst hq; exact count_c hm hM
theorem zX5 {v:Value} {xs:List Nat} {j:Int} (h:IsNat M w v xs) (hl:xs.length≤100000000) (hM:OkM M w) :
    CallsV prog 186 [v,.int .i64 j] w fun r w'=>Bel w.heap.size w w'∧Fresh 139 w w' r (limbs (val xs * 2 ^ cntN j 65536)):=by
 have hqq:=(fE (k:=j) (m:=65536) (by omega)).2.2
 generalize hq:cntN j 65536=q at hqq ⊢
 refine ci M func186 ntmps186 fun Fz hFz hF LL=>?_
 refine zF (zB (zC rfl rfl (zD (zF (zB (zA rfl rfl (zK rfl (bo func256) rfl rfl ?_)))))))
 refine (tB hq (by omega) hM).mono ?_
 rintro v10 w1 ⟨hB10,rfl⟩
 obtain ⟨LL,hM,hF,h⟩:=ub4 hB10 LL hM hF h
 refine zC rfl rfl (zD (zF (zB (zA rfl rfl (uD rfl rfl rfl (by omega) (kG (q / 32) (q / 32) rfl yu29 yI rfl rfl rfl (by omega) (by omega) (by omega) (by omega) (by omega) (fun w2 b13 N13=>?_)))))))
 have nF13:=hF.new N13
 have nM13:=hM.new N13
 have Lw2:=Le.of_new_mo (Fz:=Fz) (M:=M) (v:=Value.slice (some ⟨b13,0,none⟩) (q / 32) (q / 32)) N13 rfl
 obtain ⟨LL,hM,hF,h⟩:=up4 Lw2 LL hM hF h
 have Of:∀ k,(Value.slice (some ⟨b13,0,none⟩) (q / 32) (q / 32)).ownBlock=some k→¬ Fz k:=jD nF13
 have Om:∀ k,(Value.slice (some ⟨b13,0,none⟩) (q / 32) (q / 32)).ownBlock=some k→¬ M k:=jD nM13
 have Ow:=kY (n:=q / 32) (c:=q / 32) N13.blk (by simp) (by omega) (by omega)
 have Ow:World.ownsRow w2 0 139 1 (Value.slice (some ⟨b13,0,none⟩) (q / 32) (q / 32)) (List.replicate (q / 32) 0).length ((List.replicate (q / 32) 0).map lw):=by simpa [lw] using Ow
 refine zC rfl rfl (zD (zF (zB (zC rfl rfl (zD (zF (zF (zB (zC rfl rfl (zD (zX ?_)))))))))))
 refine xT (σ:=Nat × Value × Nat) [(0,_),(1,_)] (fun s=>[(5,s.2.1),(6,.int .u32 ((s.2.2:Nat):Int)),(7,.int .i64 ((s.1:Nat):Int))]) (fun s w3=>Le Fz (Mo (Value.slice (some ⟨b13,0,none⟩) (q / 32) (q / 32)) M) w2 (Mo s.2.1 M) w3∧s.1≤xs.length∧s.2.2 < 2 ^ (q % 32)∧(∀ k,s.2.1.ownBlock=some k→¬ Fz k)∧(∀ k,s.2.1.ownBlock=some k→¬ M k)∧∃ zs:List Nat,w3.ownsRow 0 139 1 s.2.1 zs.length (zs.map lw)∧zs.length=q / 32 + s.1∧(∀ z ∈ zs,z < 4294967296)∧val zs + 4294967296 ^ (q / 32 + s.1) * s.2.2=4294967296 ^ (q / 32) * (val (xs.take s.1) * 2 ^ (q % 32))) (fun s=>xs.length - s.1) ((0,_,0)) (zI rfl (zI rfl (zI rfl (zI rfl (zI rfl yB))))) ?_ (fun s w3 hJ=>?_)
 · dsimp only
   exact ⟨Le.refl _ _ _,by omega,xX _,Of,Om,_,Ow,by simp,by intro z hz; have:=(List.mem_replicate.1 hz).2; omega,by simp [uV,val]⟩
 ·clear Ow Of Om
  obtain ⟨i,u,l⟩:=s
  dsimp only at hJ ⊢
  obtain ⟨LR,hi,hlt,Of,Om,zs,Ow,hzl,hzlt,hzv⟩:=hJ
  have hbx:=h.lim i
  have hsl:=wA hbx (show q % 32 < 32 by omega)
  have htl:=bD (r:=q % 32) (by omega)
  obtain ⟨LL,hM,hF,h⟩:=up4 LR LL hM hF h
  refine zF (zF (zB (zA rfl rfl (zA rfl rfl ?_))))
  refine yT rfl yu29 rfl ?_
  refine jT rfl rfl rfl (zD ?_)
  refine zU rfl (fun hc0=>?_) (fun hc0=>?_)
  ·refine yE (zF (zX (zF (zB (zA rfl rfl (zA rfl rfl (jI (i) rfl yu29 yI rfl rfl (by assumption) (by omega) (by omega) (fun b22 o22 hc22 hb22=>?_))))))))
   refine yX rfl xM rfl hc22 (xC rfl yu139 yu168 rfl (by omega) (zA rfl rfl (kE rfl rfl rfl (by omega) (xC (a:=q % 32) rfl yu3 yu137 rfl (by omega) (qM (m:=18446744073709551616) rfl rfl rfl (by simp only [IntKind.bits]; omega) rfl (.inl rfl) (zC rfl rfl (zD (zF (zB (zA rfl rfl (zA rfl rfl (jA rfl yu168 yu139 rfl (zA rfl rfl ?_)))))))))))))
   refine uE (a:=xs.getD i 0 * 2 ^ (q % 32) % 18446744073709551616 % 4294967296) (b:=l) rfl rfl rfl (by simp only [IntKind.bits]; omega) (by simp only [IntKind.bits]; omega) (.inr rfl) ?_
   rw [Nat.mod_eq_of_lt (a:=xs.getD i 0 * 2 ^ (q % 32)) (b:=18446744073709551616) hsl]
   refine yO rfl yu29 yI rfl rfl rfl (by simp [Value.oneCell',lw]) rfl (fun w4 b34 N34=>?_)
   have hBw4:=N34.below
   have nM34:=hM.new N34
   have B34:=N34.blk
   obtain ⟨LR,hM,hF,h⟩:=ub4 hBw4 LR hM hF h
   replace Ow:=xA Ow hBw4
   refine jJ rfl yu29 yI rfl rfl rfl Ow (B34.slc nM34 rfl (fun _ _ h=>h) (by omega) (Nat.le_refl _)) (by simp [Value.oneCell']) (by omega) (by omega) (fun v35 w5 A35 G35 S35=>?_)
   have Lw5:=Le.of_grown (Fz:=Fz) (M:=M) G35 S35 A35 Of
   have Omo35:=Om
   replace Of:=jH (w':=w5) Of hF S35
   replace Om:=jG (w':=w5) Om (fun k hk=>hM k (.inr hk)) S35
   obtain ⟨LR,h⟩:=up2 Lw5 LR h
   clear Ow; have Ow:=A35
   refine zC rfl rfl (zD (zB (zA rfl rfl (xW rfl rfl rfl (by simp only [IntKind.bits]; omega) (jA rfl yu168 yu139 rfl (zC rfl rfl (zD (zB (zA rfl rfl (yV rfl rfl rfl (by omega) (zC rfl rfl (zD ?_))))))))))))
   refine ⟨rfl,(i + 1,v35,xs.getD i 0 * 2 ^ (q % 32) / 4294967296),(zR rfl (rfl) (zR rfl (by show Value.int _ (((xs.getD i 0 * 2 ^ (q % 32) % 18446744073709551616 / 4294967296 % 4294967296:Nat)):Int)=Value.int _ (((xs.getD i 0 * 2 ^ (q % 32) / 4294967296:Nat)):Int); rw [Nat.mod_eq_of_lt hsl,Nat.mod_eq_of_lt (a:=_ / 4294967296) (by have:=nD (r:=q % 32) hbx; omega)]) (zR rfl (by rw [Int.natCast_add]; rfl) (zI rfl (zI rfl yB))))),?_,?_⟩
   dsimp only
   have hor:=wY (x:=xs.getD i 0) (by omega) hlt
   exact ⟨LR,by omega,nD hbx,Of,Om,zs ++ [xs.getD i 0 * 2 ^ (q % 32) % 4294967296 ||| l],by simpa [lw] using Ow,by simp [hzl]; omega,fun z hz=>by
     rcases List.mem_append.1 hz with hz | hz
     · exact hzlt z hz
     · rw [List.mem_singleton] at hz; rw [hz,hor.1]; exact hor.2,by rw [← Nat.add_assoc,wX hzl (by omega) hlt hzv,zQ1]⟩
   dsimp only
   omega
  ·refine xI (xK (zF (zB (zA rfl rfl (zA rfl rfl (yO rfl yu29 yI rfl rfl rfl (by simp [Value.oneCell',lw]) rfl (fun w6 b41 N41=>?_)))))))
   have hBw6:=N41.below
   have nM41:=hM.new N41
   have B41:=N41.blk
   obtain ⟨LL,hM,hF,h⟩:=ub4 hBw6 LL hM hF h
   replace Ow:=xA Ow hBw6
   refine jJ rfl yu29 yI rfl rfl rfl Ow (B41.slc nM41 rfl (fun _ _ h=>h) (by omega) (Nat.le_refl _)) (by simp [Value.oneCell']) (by omega) (by omega) (fun v42 w7 A42 G42 S42=>?_)
   have Lw7:=Le.of_grown (Fz:=Fz) (M:=M) G42 S42 A42 Of
   have Omo42:=Om
   replace Of:=jH (w':=w7) Of hF S42
   replace Om:=jG (w':=w7) Om (fun k hk=>hM k (.inr hk)) S42
   obtain ⟨LL,hM,h⟩:=up3 Lw7 LL hM h
   clear Ow; have Ow:=A42
   refine zK rfl (bo func76) rfl rfl ?_
   refine (qC (xs:=zs ++ [l]) ⟨by simpa [lw] using uC Ow (fun k hk c=>Om k hk c) (by omega),fun z hz=>by rcases List.mem_append.1 hz with hz | hz <;> first | exact hzlt z hz | (simp at hz; omega)⟩ (by simp; omega) (fun k hk=>hM k (.inr hk))).mono ?_
   rintro v43 w8 ⟨hB43,hf43⟩
   have hS43:=LL.size
   obtain ⟨LL,h⟩:=ub2 hB43 LL h
   replace hf43:=hf43.less hS43
   refine zC rfl rfl (zD (zY ?_))
   refine lv1 ⟨rfl,trivial⟩ ?_
   subst hFz
   obtain rfl:i=xs.length:=by omega
   rw [List.take_length,zQ2] at hzv
   rw [uL,hzl,hzv] at hf43
   exact ⟨LL.b,hf43⟩
theorem mul32_c {x s:Nat} (hx:x < 4294967296) (hs:s < 32) (hM:OkM M w) :
    CallsV prog 251 [.int .u32 (x:Int),.int .u32 ((1 * 2 ^ s % 4294967296:Nat):Int)] w fun r w'=>Bel w.heap.size w w'∧r = .tuple #[.int .u32 ((x * 2 ^ s / 4294967296:Nat):Int),.int .u32 ((x * 2 ^ s % 4294967296:Nat):Int)]:=by
 have hsl:=wA hx hs
 have e1:1 * 2 ^ s % 4294967296=2 ^ s:=by
   have h1:=Nat.pow_lt_pow_right (a:=2) (by omega) hs
   rw [Nat.one_mul]; exact Nat.mod_eq_of_lt h1
 rw [e1]
 have htl:=bD (r:=s) (by omega)
 refine ci M func251 ntmps251 fun Fz hFz hF LL=>?_
 refine zF (zB (zC rfl rfl (zC rfl rfl (zD (zF (zB (zA rfl rfl (xC (a:=x) rfl yu139 yu168 rfl (by omega) (zA rfl rfl (xC (a:=2 ^ s) rfl yu139 yu168 rfl (by omega) (aC (a:=x) (b:=2 ^ s) rfl rfl rfl hsl (zC rfl rfl (zD (zF ?_))))))))))))))
 refine zB (zA rfl rfl (xW rfl rfl rfl (by simp only [IntKind.bits]; omega) (jA rfl yu168 yu139 rfl (zA rfl rfl (jA rfl yu168 yu139 rfl (zC rfl rfl (zC rfl rfl (zD (zY ?_)))))))))
 refine xF ⟨[_,_],⟨rfl,rfl,trivial⟩,?_⟩
 dsimp only [xG]
 subst hFz
 refine ⟨LL.b,?_⟩
 have h2:x * 2 ^ s / 4294967296 < 4294967296:=by omega
 show Value.tuple #[.int .u32 ((x * 2 ^ s / 4294967296 % 4294967296:Nat):Int),_]=_
 rw [Nat.mod_eq_of_lt h2]
theorem up_c {v:Value} {xs:List Nat} {j:Int} (h:IsNat M w v xs) (hl:xs.length≤100000000) (hM:OkM M w) :
    CallsV prog 182 [v,.int .i64 j] w fun r w'=>Bel w.heap.size w w'∧Fresh 139 w w' r (limbs (val xs * 2 ^ cntN j 65536)):=by
 have hqq:=(fE (k:=j) (m:=65536) (by omega)).2.2
 generalize hq:cntN j 65536=q at hqq ⊢
 refine ci M func182 ntmps182 fun Fz hFz hF LL=>?_
 refine zF (zB (zC rfl rfl (zD (zF (zB (zA rfl rfl (zK rfl (bo func250) rfl rfl ?_)))))))
 refine (zO1 hq (by omega) hM).mono ?_
 rintro v12 w1 ⟨hB12,rfl⟩
 obtain ⟨LL,hM,hF,h⟩:=ub4 hB12 LL hM hF h
 refine zC rfl rfl (zD (zF (zB (zA rfl rfl (uD rfl rfl rfl (by omega) (zA rfl rfl (uD rfl rfl rfl (by omega) (zA rfl rfl ?_))))))))
 refine yT rfl yu29 rfl ?_
 refine yV rfl rfl rfl (by omega) (yV rfl rfl rfl (by omega) (kG (q / 32) (q / 32 + xs.length + 1) rfl yu29 yI rfl rfl rfl (by omega) (by omega) (by omega) (by omega) (by omega) (fun w2 b21 N21=>?_)))
 have nF21:=hF.new N21
 have nM21:=hM.new N21
 have Lw2:=Le.of_new_mo (Fz:=Fz) (M:=M) (v:=Value.slice (some ⟨b21,0,none⟩) (q / 32) (q / 32 + xs.length + 1)) N21 rfl
 obtain ⟨LL,hM,hF,h⟩:=up4 Lw2 LL hM hF h
 have Of:∀ k,(Value.slice (some ⟨b21,0,none⟩) (q / 32) (q / 32 + xs.length + 1)).ownBlock=some k→¬ Fz k:=jD nF21
 have Om:∀ k,(Value.slice (some ⟨b21,0,none⟩) (q / 32) (q / 32 + xs.length + 1)).ownBlock=some k→¬ M k:=jD nM21
 have Ow:=kY (n:=q / 32) (c:=q / 32 + xs.length + 1) N21.blk (by simp) (by omega) (by omega)
 have Ow:World.ownsRow w2 0 139 1 (Value.slice (some ⟨b21,0,none⟩) (q / 32) (q / 32 + xs.length + 1)) (List.replicate (q / 32) 0).length ((List.replicate (q / 32) 0).map lw):=by rw [List.take_replicate,Nat.min_eq_left (by omega)] at Ow; simpa [lw] using Ow
 refine zC rfl rfl (zD (zF (zB (zC rfl rfl (zD (zF (zF (zB (zA rfl rfl ?_)))))))))
 refine yT rfl yu29 rfl ?_
 refine zA rfl rfl (zD (zX ?_))
 refine xT (σ:=Nat × Value × Nat) [(1,_),(22,_),(23,_)] (fun s=>[(5,s.2.1),(6,.int .u32 ((s.2.2:Nat):Int)),(24,.int .i64 ((s.1:Nat):Int))]) (fun s w3=>Le Fz (Mo (Value.slice (some ⟨b21,0,none⟩) (q / 32) (q / 32 + xs.length + 1)) M) w2 (Mo s.2.1 M) w3∧s.1≤xs.length∧s.2.2 < 2 ^ (q % 32)∧(∀ k,s.2.1.ownBlock=some k→¬ Fz k)∧(∀ k,s.2.1.ownBlock=some k→¬ M k)∧∃ zs:List Nat,w3.ownsRow 0 139 1 s.2.1 zs.length (zs.map lw)∧zs.length=q / 32 + s.1∧(∀ z ∈ zs,z < 4294967296)∧val zs + 4294967296 ^ (q / 32 + s.1) * s.2.2=4294967296 ^ (q / 32) * (val (xs.take s.1) * 2 ^ (q % 32))) (fun s=>xs.length - s.1) ((0,_,0)) (zI rfl (zI rfl (zI rfl (zI rfl (zI rfl (zI rfl yB)))))) ?_ (fun s w3 hJ=>?_)
 · dsimp only
   exact ⟨Le.refl _ _ _,by omega,xX _,Of,Om,_,Ow,by simp,by intro z hz; have:=(List.mem_replicate.1 hz).2; omega,by simp [uV,val]⟩
 ·clear Ow Of Om
  obtain ⟨i,u,l⟩:=s
  dsimp only at hJ ⊢
  obtain ⟨LR,hi,hlt,Of,Om,zs,Ow,hzl,hzlt,hzv⟩:=hJ
  have hbx:=h.lim i
  have hsl:=wA hbx (show q % 32 < 32 by omega)
  have htl:=bD (r:=q % 32) (by omega)
  obtain ⟨LL,hM,hF,h⟩:=up4 LR LL hM hF h
  refine zF (zB (jT rfl rfl rfl (zD (zF ?_))))
  refine zU rfl (fun hc0=>?_) (fun hc0=>?_)
  ·refine yE (zF (zX (zF (zB (jI (i) rfl yu29 yI rfl rfl (by assumption) (by omega) (by omega) (fun b26 o26 hc26 hb26=>?_))))))
   refine yX rfl xM rfl hc26 (zC rfl rfl (zD (zF (zB (zA rfl rfl (zA rfl rfl (kE rfl rfl rfl (by omega) (qM (a:=1) (m:=4294967296) rfl rfl rfl (by simp only [IntKind.bits]; omega) rfl (.inr rfl) (zK rfl (bo func251) rfl rfl ?_)))))))))
   refine (mul32_c (s:=q % 32) hbx (by omega) hM).mono ?_
   rintro v33 w4 ⟨hB33,rfl⟩
   obtain ⟨LR,hM,hF,h⟩:=ub4 hB33 LR hM hF h
   replace Ow:=xA Ow hB33
   refine zA rfl rfl (yM rfl rfl rfl (yM rfl rfl rfl (zC rfl rfl (zC rfl rfl (zD (zB (zA rfl rfl (zA rfl rfl (zA rfl rfl (uE (a:=xs.getD i 0 * 2 ^ (q % 32) % 4294967296) (b:=l) rfl rfl rfl (by simp only [IntKind.bits]; omega) (by simp only [IntKind.bits]; omega) (.inr rfl) (yO rfl yu29 yI rfl rfl rfl (by simp [Value.oneCell',lw]) rfl (fun w5 b40 N40=>?_))))))))))))
   have hBw5:=N40.below
   have nM40:=hM.new N40
   have B40:=N40.blk
   obtain ⟨LR,hM,hF,h⟩:=ub4 hBw5 LR hM hF h
   replace Ow:=xA Ow hBw5
   refine jJ rfl yu29 yI rfl rfl rfl Ow (B40.slc nM40 rfl (fun _ _ h=>h) (by omega) (Nat.le_refl _)) (by simp [Value.oneCell']) (by omega) (by omega) (fun v41 w6 A41 G41 S41=>?_)
   have Lw6:=Le.of_grown (Fz:=Fz) (M:=M) G41 S41 A41 Of
   have Omo41:=Om
   replace Of:=jH (w':=w6) Of hF S41
   replace Om:=jG (w':=w6) Om (fun k hk=>hM k (.inr hk)) S41
   obtain ⟨LR,h⟩:=up2 Lw6 LR h
   clear Ow; have Ow:=A41
   refine zA rfl rfl (zC rfl rfl (zC rfl rfl (zD (zB (yV rfl rfl rfl (by omega) (zA rfl rfl (zD ?_)))))))
   refine ⟨rfl,(i + 1,v41,xs.getD i 0 * 2 ^ (q % 32) / 4294967296),(zR rfl (rfl) (zR rfl (rfl) (zR rfl (by rw [Int.natCast_add]; rfl) (zI rfl (zI rfl (zI rfl yB)))))),?_,?_⟩
   dsimp only
   have hor:=wY (x:=xs.getD i 0) (by omega) hlt
   exact ⟨LR,by omega,nD hbx,Of,Om,zs ++ [xs.getD i 0 * 2 ^ (q % 32) % 4294967296 ||| l],by simpa [lw] using Ow,by simp [hzl]; omega,fun z hz=>by
     rcases List.mem_append.1 hz with hz | hz
     · exact hzlt z hz
     · rw [List.mem_singleton] at hz; rw [hz,hor.1]; exact hor.2,by rw [← Nat.add_assoc,wX hzl (by omega) hlt hzv,zQ1]⟩
   dsimp only
   omega
  ·refine xI (xK (zF (zB (zA rfl rfl (zA rfl rfl (yO rfl yu29 yI rfl rfl rfl (by simp [Value.oneCell',lw]) rfl (fun w7 b46 N46=>?_)))))))
   have hBw7:=N46.below
   have nM46:=hM.new N46
   have B46:=N46.blk
   obtain ⟨LL,hM,hF,h⟩:=ub4 hBw7 LL hM hF h
   replace Ow:=xA Ow hBw7
   refine jJ rfl yu29 yI rfl rfl rfl Ow (B46.slc nM46 rfl (fun _ _ h=>h) (by omega) (Nat.le_refl _)) (by simp [Value.oneCell']) (by omega) (by omega) (fun v47 w8 A47 G47 S47=>?_)
   have Lw8:=Le.of_grown (Fz:=Fz) (M:=M) G47 S47 A47 Of
   have Omo47:=Om
   replace Of:=jH (w':=w8) Of hF S47
   replace Om:=jG (w':=w8) Om (fun k hk=>hM k (.inr hk)) S47
   obtain ⟨LL,hM,h⟩:=up3 Lw8 LL hM h
   clear Ow; have Ow:=A47
   refine zK rfl (bo func252) rfl rfl ?_
   refine (qR (xs:=zs ++ [l]) ⟨by simpa [lw] using uC Ow (fun k hk c=>Om k hk c) (by omega),fun z hz=>by rcases List.mem_append.1 hz with hz | hz <;> first | exact hzlt z hz | (simp at hz; omega)⟩ (by simp; omega) (fun k hk=>hM k (.inr hk))).mono ?_
   rintro v48 w9 ⟨hB48,hf48⟩
   have hS48:=LL.size
   obtain ⟨LL,h⟩:=ub2 hB48 LL h
   replace hf48:=hf48.less hS48
   refine zC rfl rfl (zD (zY ?_))
   refine lv1 ⟨rfl,trivial⟩ ?_
   subst hFz
   obtain rfl:i=xs.length:=by omega
   rw [List.take_length,zQ2] at hzv
   rw [uL,hzl,hzv] at hf48
   exact ⟨LL.b,hf48⟩
theorem rdown_c {v:Value} {xs:List Nat} {j:Int} (h:IsNat M w v xs) (hl:xs.length≤100000000) (hM:OkM M w) :
    CallsV prog 226 [v,.int .i64 j] w fun r w'=>Bel w.heap.size w w'∧Fresh 139 w w' r (limbs (val xs / 2 ^ cntN j 65536)):=by
 have hqq:=(fE (k:=j) (m:=65536) (by omega)).2.2
 generalize hq:cntN j 65536=q at hqq ⊢
 refine ci M func226 ntmps226 fun Fz hFz hF LL=>?_
 refine zF (zB (zC rfl rfl (zD (zF (zB (zA rfl rfl (zK rfl (bo func256) rfl rfl ?_)))))))
 refine (tB hq (by omega) hM).mono ?_
 rintro v9 w1 ⟨hB9,rfl⟩
 obtain ⟨LL,hM,hF,h⟩:=ub4 hB9 LL hM hF h
 refine zC rfl rfl (zD (zF (zB ?_)))
 have Ow:=bX (w:=w1) (e:=139)
 have Of:∀ k,(Value.slice none 0 0).ownBlock=some k→¬ Fz k:=kH
 have Om:∀ k,(Value.slice none 0 0).ownBlock=some k→¬ M k:=kH
 have Ln:=Le.mo_nil (Fz:=Fz) (M:=M) (w:=w1)
 obtain ⟨LL,hM,hF,h⟩:=up4 Ln LL hM hF h
 clear Ln
 refine zC rfl rfl (zD (zF (zF (zB (zA rfl rfl (uD rfl rfl rfl (by omega) (zC rfl rfl (zD (zX ?_)))))))))
 refine xT (σ:=Nat × Value) [(0,_),(1,_)] (fun s=>[(5,s.2),(6,.int .i64 ((q / 32 + s.1:Nat):Int))]) (fun s w2=>Le Fz (Mo (.slice none 0 0) M) w1 (Mo s.2 M) w2∧s.1≤xs.length∧(∀ k,s.2.ownBlock=some k→¬ Fz k)∧(∀ k,s.2.ownBlock=some k→¬ M k)∧∃ zs:List Nat,w2.ownsRow 0 139 1 s.2 zs.length (zs.map lw)∧zs.length=s.1∧(∀ z ∈ zs,z < 4294967296)∧val zs + 4294967296 ^ s.1 * (val (xs.drop (q / 32 + s.1)) / 2 ^ (q % 32))=val (xs.drop (q / 32)) / 2 ^ (q % 32)) (fun s=>xs.length - (q / 32 + s.1)) ((0,.slice none 0 0)) (zI rfl (zR rfl (by congr 1) (zI rfl (zI rfl yB)))) ?_ (fun s w2 hJ=>?_)
 · dsimp only
   exact ⟨Le.refl _ _ _,by omega,Of,Om,[],by simpa using Ow,rfl,by simp,by simp [val]⟩
 ·clear Ow Of Om
  obtain ⟨k,u⟩:=s
  dsimp only at hJ ⊢
  obtain ⟨LR,hk,Of,Om,zs,Ow,hzl,hzlt,hzv⟩:=hJ
  have hbx:=h.lim (q / 32 + k)
  have hby:=h.lim (q / 32 + k + 1)
  obtain ⟨LL,hM,hF,h⟩:=up4 LR LL hM hF h
  refine zF (zF (zB (zA rfl rfl (zA rfl rfl ?_))))
  refine yT rfl yu29 rfl ?_
  refine jT rfl rfl rfl (zD ?_)
  refine zU rfl (fun hc0=>?_) (fun hc0=>?_)
  ·refine yE (zF (zX (zF (zB (zA rfl rfl (zA rfl rfl (jI (q / 32 + k) rfl yu29 yI rfl rfl (by assumption) (by omega) (by omega) (fun b20 o20 hc20 hb20=>?_))))))))
   refine yX rfl xM rfl hc20 (xC rfl yu139 yu168 rfl (by omega) (zC rfl rfl (zD (zF (zF (zB (zA rfl rfl (yV rfl rfl rfl (by omega) (zA rfl rfl ?_)))))))))
   refine yT rfl yu29 rfl ?_
   refine jT rfl rfl rfl (zD ?_)
   refine zU rfl (fun hc1=>?_) (fun hc1=>?_)
   ·refine zB (zA rfl rfl (zA rfl rfl (zA rfl rfl (yV rfl rfl rfl (by omega) (jI (q / 32 + k + 1) rfl yu29 yI rfl rfl (by assumption) (by omega) (by omega) (fun b32 o32 hc32 hb32=>?_))))))
    refine yX rfl xM rfl hc32 (xC rfl yu139 yu168 rfl (by omega) (qM (m:=18446744073709551616) rfl rfl rfl (by simp only [IntKind.bits]; omega) rfl (.inl rfl) (uE (a:=xs.getD (q / 32 + k) 0) (b:=xs.getD (q / 32 + k + 1) 0 * 4294967296 % 18446744073709551616) rfl rfl rfl (by simp only [IntKind.bits]; omega) (by simp only [IntKind.bits]; omega) (.inl rfl) (zC rfl rfl (zD (zB (zA rfl rfl (zA rfl rfl (zA rfl rfl (kE rfl rfl rfl (by omega) (xC (a:=q % 32) rfl yu3 yu137 rfl (by omega) (xW rfl rfl rfl (by simp only [IntKind.bits]; omega) (jA rfl yu168 yu139 rfl (yO rfl yu29 yI rfl rfl rfl (by simp [Value.oneCell',lw]) rfl (fun w3 b44 N44=>?_)))))))))))))))
    have hBw3:=N44.below
    have nM44:=hM.new N44
    have B44:=N44.blk
    obtain ⟨LR,hM,hF,h⟩:=ub4 hBw3 LR hM hF h
    replace Ow:=xA Ow hBw3
    refine jJ rfl yu29 yI rfl rfl rfl Ow (B44.slc nM44 rfl (fun _ _ h=>h) (by omega) (Nat.le_refl _)) (by simp [Value.oneCell']) (by omega) (by omega) (fun v45 w4 A45 G45 S45=>?_)
    have Lw4:=Le.of_grown (Fz:=Fz) (M:=M) G45 S45 A45 Of
    have Omo45:=Om
    replace Of:=jH (w':=w4) Of hF S45
    replace Om:=jG (w':=w4) Om (fun k hk=>hM k (.inr hk)) S45
    obtain ⟨LR,h⟩:=up2 Lw4 LR h
    clear Ow; have Ow:=A45
    refine zC rfl rfl (zD (zB (zA rfl rfl (yV rfl rfl rfl (by omega) (zC rfl rfl (zD ?_))))))
    refine ⟨rfl,(k + 1,v45),(zR rfl (rfl) (zR rfl (by congr 1) (zI rfl (zI rfl yB)))),?_,?_⟩
    dsimp only
    have hd1:=kK (xs:=xs) (s:=q / 32 + k) (by omega)
    have hd2:=kK (xs:=xs) (s:=q / 32 + k + 1) (by omega)
    have he:(xs.getD (q / 32 + k) 0 ||| xs.getD (q / 32 + k + 1) 0 * 4294967296 % 18446744073709551616) / 2 ^ (q % 32) % 4294967296=val (xs.drop (q / 32 + k)) / 2 ^ (q % 32) % 4294967296:=by
      rw [or_up hbx hby,hd1,hd2,pS (by omega)]
    have hst:=lL hzl he hzv
    rw [hd1,lM hbx] at hst
    exact ⟨LR,by omega,Of,Om,_,by rw [List.length_append,List.map_append]; exact Ow,by simp [hzl],fun z hz=>by
      rcases List.mem_append.1 hz with hz | hz
      · exact hzlt z hz
      · rw [List.mem_singleton] at hz; rw [hz]; omega,hst⟩
    dsimp only
    omega
   ·refine yE (zB (zA rfl rfl (zA rfl rfl (zA rfl rfl (kE rfl rfl rfl (by omega) (xC (a:=q % 32) rfl yu3 yu137 rfl (by omega) (xW rfl rfl rfl (by simp only [IntKind.bits]; omega) (jA rfl yu168 yu139 rfl (yO rfl yu29 yI rfl rfl rfl (by simp [Value.oneCell',lw]) rfl (fun w5 b44 N44=>?_))))))))))
    have hBw5:=N44.below
    have nM44:=hM.new N44
    have B44:=N44.blk
    obtain ⟨LR,hM,hF,h⟩:=ub4 hBw5 LR hM hF h
    replace Ow:=xA Ow hBw5
    refine jJ rfl yu29 yI rfl rfl rfl Ow (B44.slc nM44 rfl (fun _ _ h=>h) (by omega) (Nat.le_refl _)) (by simp [Value.oneCell']) (by omega) (by omega) (fun v45 w6 A45 G45 S45=>?_)
    have Lw6:=Le.of_grown (Fz:=Fz) (M:=M) G45 S45 A45 Of
    have Omo45:=Om
    replace Of:=jH (w':=w6) Of hF S45
    replace Om:=jG (w':=w6) Om (fun k hk=>hM k (.inr hk)) S45
    obtain ⟨LR,h⟩:=up2 Lw6 LR h
    clear Ow; have Ow:=A45
    refine zC rfl rfl (zD (zB (zA rfl rfl (yV rfl rfl rfl (by omega) (zC rfl rfl (zD ?_))))))
    refine ⟨rfl,(k + 1,v45),(zR rfl (rfl) (zR rfl (by congr 1) (zI rfl (zI rfl yB)))),?_,?_⟩
    dsimp only
    have hd1:=kK (xs:=xs) (s:=q / 32 + k) (by omega)
    have hd2:val (xs.drop (q / 32 + k + 1))=0:=by rw [List.drop_of_length_le (by omega)]; rfl
    have he:xs.getD (q / 32 + k) 0 / 2 ^ (q % 32) % 4294967296=val (xs.drop (q / 32 + k)) / 2 ^ (q % 32) % 4294967296:=by
      rw [hd1,hd2]; simp
    have hst:=lL hzl he hzv
    rw [hd1,lM hbx] at hst
    exact ⟨LR,by omega,Of,Om,_,by rw [List.length_append,List.map_append]; exact Ow,by simp [hzl],fun z hz=>by
      rcases List.mem_append.1 hz with hz | hz
      · exact hzlt z hz
      · rw [List.mem_singleton] at hz; rw [hz]; omega,hst⟩
    dsimp only
    omega
  ·refine xI (xK (zF (zB (zA rfl rfl (zK rfl (bo func76) rfl rfl ?_)))))
   refine (qC (xs:=zs) ⟨uC Ow (fun k hk c=>Om k hk c) (by omega),hzlt⟩ (by omega) (fun k hk=>hM k (.inr hk))).mono ?_
   rintro v47 w7 ⟨hB47,hf47⟩
   have hS47:=LL.size
   obtain ⟨LL,h⟩:=ub2 hB47 LL h
   replace hf47:=hf47.less hS47
   refine zC rfl rfl (zD (zY ?_))
   refine lv1 ⟨rfl,trivial⟩ ?_
   subst hFz
   have hd0:val (xs.drop (q / 32 + k))=0:=by rw [List.drop_of_length_le (by omega)]; rfl
   rw [hd0,Nat.zero_div,Nat.mul_zero,Nat.add_zero,vH h.lt] at hzv
   rw [hzv] at hf47
   exact ⟨LL.b,hf47⟩
theorem down_c {v:Value} {xs:List Nat} {j:Int} (h:IsNat M w v xs) (hl:xs.length≤100000000) (hM:OkM M w) :
    CallsV prog 302 [v,.int .i64 j] w fun r w'=>Bel w.heap.size w w'∧Fresh 139 w w' r (limbs (val xs / 2 ^ cntN j 65536)):=by
 have hqq:=(fE (k:=j) (m:=65536) (by omega)).2.2
 generalize hq:cntN j 65536=q at hqq ⊢
 refine ci M func302 ntmps302 fun Fz hFz hF LL=>?_
 refine zF (zB (zC rfl rfl (zD (dS (zF (zB (zA rfl rfl (zK rfl (bo func250) rfl rfl ?_))))))))
 refine (zO1 hq (by omega) hM).mono ?_
 rintro v8 w1 ⟨hB8,rfl⟩
 obtain ⟨LL,hM,hF,h⟩:=ub4 hB8 LL hM hF h
 refine zC rfl rfl (zD (zF (zF (zB (zA rfl rfl (uD rfl rfl rfl (by omega) (zA rfl rfl ?_)))))))
 refine yT rfl yu29 rfl ?_
 refine kT rfl rfl rfl (zD ?_)
 refine zU rfl (fun hc0=>?_) (fun hc0=>?_)
 ·refine zF (zB (zC rfl rfl (zD (zY ?_))))
  refine lv1 ⟨rfl,trivial⟩ ?_
  subst hFz
  have h0:val xs / 2 ^ q=0:=by
    have h1:=xU h.lt (show xs.length≤q / 32 by omega)
    have h2:2 ^ (32 * (q / 32))≤2 ^ q:=Nat.pow_le_pow_right (by omega) (by omega)
    rw [eQ] at h1
    exact Nat.div_eq_of_lt (by omega)
  rw [h0,yW]
  exact ⟨LL.b,bL bX kH (by simp) (by simp)⟩
 ·have hsl1:q / 32 < xs.length:=by omega
  refine yE (zF (zB (zA rfl rfl (zA rfl rfl (uD rfl rfl rfl (by omega) ?_)))))
  refine jS (M:=M) (q / 32) xs.length rfl yu29 yI rfl h.slc ⟨_,rfl⟩ rfl trivial (by omega) (Nat.le_refl _) (fun v17 hv17=>?_)
  have hn17:IsNat M w1 v17 (xs.drop (q / 32)):=⟨by rw [List.length_drop]; simpa [List.map_drop,List.take_of_length_le] using hv17,fun x hx=>h.lt x (List.mem_of_mem_drop hx)⟩
  have hdl:(xs.drop (q / 32)).length=xs.length - q / 32:=List.length_drop
  refine zK rfl (bo func287) rfl rfl ?_
  refine (sL hn17 (by omega) hM).mono ?_
  rintro v18 w2 ⟨hB18,hf18⟩
  have F18:∀ k,v18.ownBlock=some k→¬ Fz k:=fun k hk c=>absurd (hF k c) (Nat.not_lt.2 (hf18.new k hk))
  have X18:∀ k,v18.ownBlock=some k→¬ M k:=fun k hk c=>absurd (hM k c) (Nat.not_lt.2 (hf18.new k hk))
  have Lw2:=Le.of_fresh (Fz:=Fz) (M:=M) hB18 hf18
  obtain ⟨LL,hM,h⟩:=up3 Lw2 LL hM h
  have O18:=hf18.own
  have T18:=hf18.lt
  have Z18:=hf18.len
  have Ow:=O18
  have Of:=F18
  have Om:=X18
  clear O18
  refine zC rfl rfl (zD (zF (dU (zF (zF (zB (zA rfl rfl ?_)))))))
  refine yT rfl yu29 rfl ?_
  refine zA rfl rfl (zD (zX ?_))
  refine xT (σ:=Nat) [(1,_),(5,_),(20,_)] (fun i=>[(21,.int .i64 ((i:Nat):Int))]) (fun i w3=>Le Fz (Mo v18 M) w2 (Mo v18 M) w3∧i≤(xs.drop (q / 32)).length∧∃ zs:List Nat,w3.ownsRow 0 139 1 v18 zs.length (zs.map lw)∧zs.length=(xs.drop (q / 32)).length∧(∀ z ∈ zs,z < 4294967296)∧zs.drop i=xs.drop (q / 32 + i)∧val (zs.take i) + 4294967296 ^ i * (val (xs.drop (q / 32 + i)) / 2 ^ (q % 32))=val (xs.drop (q / 32)) / 2 ^ (q % 32)) (fun i=>(xs.drop (q / 32)).length - i) (0) (zI rfl (zI rfl (zI rfl (zI rfl yB)))) ?_ (fun i w3 hJ=>?_)
  · exact ⟨Le.refl _ _ _,by omega,_,Ow,rfl,T18,by simp,by simp [val]⟩
  ·clear Ow
   obtain ⟨LR,hi,zs,Ow,hzl,hzlt,hzd,hzv⟩:=hJ
   obtain ⟨LL,hM,h⟩:=up3 LR LL hM h
   refine zF (zB (jT rfl rfl rfl (zD (zF ?_))))
   refine zU rfl (fun hc1=>?_) (fun hc1=>?_)
   ·have hil:i < zs.length:=by omega
    have e0:zs.getD i 0=xs.getD (q / 32 + i) 0:=pR hzd 0
    have e1:zs.getD (i + 1) 0=xs.getD (q / 32 + i + 1) 0:=pR hzd 1
    have hbx:=h.lim (q / 32 + i)
    have hby:=h.lim (q / 32 + i + 1)
    have hd1:=kK (xs:=xs) (s:=q / 32 + i) (by omega)
    have hms:=mod_self_of (q % 32) hbx
    have hle:=Nat.div_le_self (xs.getD (q / 32 + i) 0) (2 ^ (q % 32))
    refine yE (zF (zX (zF (zB (zA rfl rfl (zC rfl rfl (zD (zF (zB (zA rfl rfl (zA rfl rfl ?_)))))))))))
    refine qT (i) rfl yu29 yI rfl rfl Ow (by omega) (by omega) (fun b26 cur26 cap26 B26=>?_)
    have hc26:w3.cell? ⟨b26,i,none⟩=some (lw (zs.getD (i) 0)):=by rw [B26.blk.cell]; exact B26.get (gA (by omega))
    refine yX rfl xM rfl hc26 (zA rfl rfl (kE rfl rfl rfl (by omega) (xW rfl rfl rfl (by simp only [IntKind.bits]; omega) ?_)))
    refine qT (i) rfl yu29 yI rfl rfl Ow (by omega) (by omega) (fun b31 cur31 cap31 B31=>?_)
    have hc31:w3.cell? ⟨b31,i,none⟩=some (lw (zs.getD (i) 0)):=by rw [B31.blk.cell]; exact B31.get (gA (by omega))
    refine gO rfl rfl yI B31.blk rfl (by have:=B31.len; have:=B31.le; omega) (by simp [Value.cells,Value.oneCell']) (fun w4 Cw4 BN=>?_)
    have Lw4:=Le.of_chg (M:=(Mo v18 M)) Cw4 (.inl B31.own) (Of b31 B31.own)
    obtain ⟨LR,h⟩:=up2 Lw4 LR h
    have Ow2:=B31.set (by omega) BN
    replace Ow2:World.ownsRow w4 0 139 1 v18 (zs.set (i) (zs.getD i 0 / 2 ^ (q % 32))).length ((zs.set (i) (zs.getD i 0 / 2 ^ (q % 32))).map lw):=by rw [List.length_set,List.map_set]; exact Ow2
    clear Ow; have Ow:=Ow2; clear Ow2 BN
    obtain ⟨zs1,hz1⟩:∃ z,z=zs.set i (zs.getD i 0 / 2 ^ (q % 32)):=⟨_,rfl⟩
    rw [← hz1] at Ow
    have hzl1:zs1.length=zs.length:=by rw [hz1]; simp
    have e2:zs1.getD i 0=xs.getD (q / 32 + i) 0 / 2 ^ (q % 32):=by rw [hz1,← e0]; simp [List.getD_eq_getElem?_getD,hil]
    have e3:zs1.getD (i + 1) 0=xs.getD (q / 32 + i + 1) 0:=by rw [hz1,qH (by omega),e1]
    refine zD (zF (zF (zB (zA rfl rfl (yV rfl rfl rfl (by omega) (zA rfl rfl ?_))))))
    refine yT rfl yu29 rfl ?_
    refine kT rfl rfl rfl (zA rfl rfl (kU (d:=37) rfl (fun hg9_5=>?_) (fun hg9_5=>?_)))
    ·refine yL rfl rfl rfl rfl (yL rfl rfl rfl rfl (yL rfl rfl rfl rfl (jW rfl rfl rfl (zD (iY rfl (xI (xK (zB (yV rfl rfl rfl (by omega) (zA rfl rfl (zD ?_)))))))))))
     refine ⟨rfl,i + 1,(zR rfl (by rw [Int.natCast_add]; rfl) (zI rfl (zI rfl (zI rfl yB)))),?_,?_⟩
     have hev:zs.getD i 0 / 2 ^ (q % 32)=val (xs.drop (q / 32 + i)) / 2 ^ (q % 32) % 4294967296:=by rw [e0,hd1,show val (xs.drop (q / 32 + i + 1))=0 by rw [List.drop_of_length_le (by omega)]; rfl]; simpa using hms.symm
     have hin:=sI (r:=q % 32) (e:=zs.getD i 0 / 2 ^ (q % 32)) hil (by omega) h.lt hzd hzv hev
     exact ⟨LR,by omega,zs.set i (zs.getD i 0 / 2 ^ (q % 32)),by rw [← hz1]; exact Ow,by simp [hzl],kN hzlt (by rw [hev]; exact Nat.mod_lt _ (by omega)),hin.1,hin.2⟩
     omega
    ·refine yK rfl rfl (zA rfl rfl (yK rfl rfl (kE rfl rfl rfl (by omega) (yK rfl rfl (qI rfl rfl rfl (jW rfl rfl rfl (zD ?_)))))))
     refine zU rfl (fun hc2=>?_) (fun hc2=>?_)
     ·refine xI (xK (zB (yV rfl rfl rfl (by omega) (zA rfl rfl (zD ?_)))))
      refine ⟨rfl,i + 1,(zR rfl (by rw [Int.natCast_add]; rfl) (zI rfl (zI rfl (zI rfl yB)))),?_,?_⟩
      have hev:zs.getD i 0 / 2 ^ (q % 32)=val (xs.drop (q / 32 + i)) / 2 ^ (q % 32) % 4294967296:=by rw [e0,hd1,show q % 32=0 by omega,Nat.pow_zero,Nat.div_one,Nat.div_one]; omega
      have hin:=sI (r:=q % 32) (e:=zs.getD i 0 / 2 ^ (q % 32)) hil (by omega) h.lt hzd hzv hev
      exact ⟨LR,by omega,zs.set i (zs.getD i 0 / 2 ^ (q % 32)),by rw [← hz1]; exact Ow,by simp [hzl],kN hzlt (by rw [hev]; exact Nat.mod_lt _ (by omega)),hin.1,hin.2⟩
      omega
     ·refine yE ?_
      refine wd mixed 13 [1,5,20,21,42,43,45,54] (by decide +kernel) ?_
      apply zQ
      ·intro wq hR hst
       refine zV rfl rfl (zG ?_)
       replace h:=ub1 hR h
       exact zA rfl rfl (on0 rfl)
      apply zQ
      ·intro wq hR hst
       refine zV rfl rfl (zG ?_)
       replace h:=ub1 hR h
       exact zA rfl rfl (on0 rfl)
      apply dO
      ·intro wq hR hst
       refine zM rfl (zM rfl (zG ?_))
       replace h:=ub1 hR h
       replace Ow:=xA Ow hR
       refine qT (i) rfl yu29 yI rfl rfl Ow (by omega) (by omega) (fun b44 cur44 cap44 B44=>?_)
       have hc44:wq.cell? ⟨b44,i,none⟩=some (lw (zs1.getD (i) 0)):=by rw [B44.blk.cell]; exact B44.get (gA (by omega))
       exact on1 (xJ _) rfl ⟨_,_,rfl,hc44⟩
      apply zQ
      ·intro wq hR hst
       refine xY rfl (fun v44 hp44=>?_)
       obtain ⟨b44,o44,rfl,hc44⟩:=hp44
       refine zG ?_
       replace h:=ub1 hR h
       exact yX rfl xM rfl hc44 (on0 rfl)
      apply zQ
      ·intro wq hR hst
       refine zV rfl rfl (zG ?_)
       replace h:=ub1 hR h
       exact zA rfl rfl (on0 rfl)
      apply zQ
      ·intro wq hR hst
       refine zV rfl rfl (zG ?_)
       replace h:=ub1 hR h
       exact zA rfl rfl (on0 rfl)
      apply zQ
      ·intro wq hR hst
       refine zM rfl (zG ?_)
       replace h:=ub1 hR h
       exact yV rfl rfl rfl (by omega) (on0 rfl)
      apply dO
      ·intro wq hR hst
       refine zM rfl (zM rfl (zG ?_))
       replace h:=ub1 hR h
       replace Ow:=xA Ow hR
       refine qT (i + 1) rfl yu29 yI rfl rfl Ow (by omega) (by omega) (fun b49 cur49 cap49 B49=>?_)
       have hc49:wq.cell? ⟨b49,i + 1,none⟩=some (lw (zs1.getD (i + 1) 0)):=by rw [B49.blk.cell]; exact B49.get (gA (by omega))
       exact on1 (xJ _) rfl ⟨_,_,rfl,hc49⟩
      apply zQ
      ·intro wq hR hst
       refine xY rfl (fun v49 hp49=>?_)
       obtain ⟨b49,o49,rfl,hc49⟩:=hp49
       refine zG ?_
       replace h:=ub1 hR h
       exact yX rfl xM rfl hc49 (on0 rfl)
      apply zQ
      ·intro wq hR hst
       refine zV rfl rfl (zG ?_)
       replace h:=ub1 hR h
       exact zA rfl rfl (on0 rfl)
      apply zQ
      ·intro wq hR hst
       refine zM rfl (zG ?_)
       replace h:=ub1 hR h
       exact kE rfl rfl rfl (by omega) (on0 rfl)
      apply zQ
      ·intro wq hR hst
       refine zM rfl (zG ?_)
       replace h:=ub1 hR h
       exact jC rfl rfl rfl (by omega) (on0 rfl)
      apply zQ
      ·intro wq hR hst
       refine zM rfl (zM rfl (zG ?_))
       replace h:=ub1 hR h
       refine qM (a:=zs1.getD (i + 1) 0) (m:=4294967296) rfl rfl rfl (by simp only [IntKind.bits]; omega) rfl (.inr rfl) ?_
       rw [show Int.toNat (32 - (q:Int) % 32)=32 - q % 32 by omega]
       exact on0 rfl
      refine gB (fun wq10 hR10 hpost10=>?_)
      refine zV rfl rfl (zV rfl rfl (zV rfl rfl (zV rfl rfl (zM rfl (zM rfl (zM rfl (zM rfl (zG ?_))))))))
      simp only [qZ,qY,qX,qW]
      obtain ⟨LR,h⟩:=ub2 hR10 LR h
      replace Ow:=xA Ow hR10
      refine uE (a:=zs1.getD i 0) (b:=zs1.getD (i + 1) 0 * 2 ^ (32 - q % 32) % 4294967296) rfl rfl rfl (by simp only [IntKind.bits]; omega) (by simp only [IntKind.bits]; omega) (.inr rfl) ?_
      refine qT (i) rfl yu29 yI rfl rfl Ow (by omega) (by omega) (fun b56 cur56 cap56 B56=>?_)
      have hc56:wq10.cell? ⟨b56,i,none⟩=some (lw (zs1.getD (i) 0)):=by rw [B56.blk.cell]; exact B56.get (gA (by omega))
      refine gO rfl rfl yI B56.blk rfl (by have:=B56.len; have:=B56.le; omega) (by simp [Value.cells,Value.oneCell']) (fun w5 Cw5 BN=>?_)
      have Lw5:=Le.of_chg (M:=(Mo v18 M)) Cw5 (.inl B56.own) (Of b56 B56.own)
      obtain ⟨LR,h⟩:=up2 Lw5 LR h
      have Ow2:=B56.set (by omega) BN
      replace Ow2:World.ownsRow w5 0 139 1 v18 (zs1.set (i) (zs1.getD i 0 ||| zs1.getD (i + 1) 0 * 2 ^ (32 - q % 32) % 4294967296)).length ((zs1.set (i) (zs1.getD i 0 ||| zs1.getD (i + 1) 0 * 2 ^ (32 - q % 32) % 4294967296)).map lw):=by rw [List.length_set,List.map_set]; exact Ow2
      clear Ow; have Ow:=Ow2; clear Ow2 BN
      refine zD (zB (yV rfl rfl rfl (by omega) (zA rfl rfl (zD ?_))))
      refine ⟨rfl,i + 1,(zR rfl (by rw [Int.natCast_add]; rfl) (zI rfl (zI rfl (zI rfl yB)))),?_,?_⟩
      have hd2:=kK (xs:=xs) (s:=q / 32 + i + 1) (by omega)
      have hev:(zs1.getD i 0 ||| zs1.getD (i + 1) 0 * 2 ^ (32 - q % 32) % 4294967296)=val (xs.drop (q / 32 + i)) / 2 ^ (q % 32) % 4294967296:=by rw [e2,e3,hd1,hd2,pS (by omega),down_or hbx (by omega) (by omega)]
      have hin:=sI (r:=q % 32) (e:=(zs1.getD i 0 ||| zs1.getD (i + 1) 0 * 2 ^ (32 - q % 32) % 4294967296)) hil (by omega) h.lt hzd hzv hev
      exact ⟨LR,by omega,zs.set i ((zs1.getD i 0 ||| zs1.getD (i + 1) 0 * 2 ^ (32 - q % 32) % 4294967296)),by rw [hz1,List.set_set] at Ow; rw [hz1]; exact Ow,by simp [hzl],kN hzlt (by rw [hev]; exact Nat.mod_lt _ (by omega)),hin.1,hin.2⟩
      omega
   ·refine xI (xK (zF (zB (zA rfl rfl (zK rfl (bo func252) rfl rfl ?_)))))
    refine (qR (xs:=zs) ⟨uC Ow (fun k hk c=>Om k hk c) (by omega),hzlt⟩ (by omega) (fun k hk=>hM k (.inr hk))).mono ?_
    rintro v59 w6 ⟨hB59,hf59⟩
    have hS59:=LL.size
    obtain ⟨LL,h⟩:=ub2 hB59 LL h
    replace hf59:=hf59.less hS59
    refine zC rfl rfl (zD (zY ?_))
    refine lv1 ⟨rfl,trivial⟩ ?_
    subst hFz
    have hd0:val (xs.drop (q / 32 + i))=0:=by rw [List.drop_of_length_le (by omega)]; rfl
    rw [hd0,Nat.zero_div,Nat.mul_zero,Nat.add_zero,vH h.lt,List.take_of_length_le (by omega)] at hzv
    rw [hzv] at hf59
    exact ⟨LL.b,hf59⟩
def encL (p:Nat × Nat):List Value:=[.int .i64 (p.1:Int),.int .u64 (p.2:Int)]
theorem limbs1_c {M:Nat→Prop} {w0:World} {b:Nat} {v:Value} {xs:List Nat} (B1:Blk w0 b 29 [v]) (n1:¬ M b) (h1:IsNat M w0 v xs) (hl1:xs.length≤1099511627776) (hM:OkM M w0) :
    IterC prog 306 [.pointer (some ⟨b,0,none⟩)] M NoT w0 (lsOf xs xs.length) encL (fun _=>True):=by
 intro n l w J X hn0 hn hdr hJ hkeep hJd hXd hy
 have B1':=B1
 have h1':=h1
 have hM':=hM
 replace B1:=(hkeep _ _ hJ).blk B1 n1
 replace h1:=(hkeep _ _ hJ).nat h1
 replace hM:=(hkeep _ _ hJ).okM hM
 obtain ⟨Fz,hFz⟩:∃ Fz:Nat→Prop,Fz=fun _=>False:=⟨_,rfl⟩
 have hFa:∀ w,FOk Fz w:=by subst hFz; exact fun _ _ h=>h.elim
 have hF:=hFa w
 refine jL func306 rfl ntmps306 rfl ?_
 refine zF (zB (zN rfl yS rfl B1 rfl ?_))
 refine yT rfl yu29 rfl ?_
 refine zA rfl rfl (zD (zX ?_))
 refine xT (σ:=Nat) [(0,_),(5,_),(6,_)] (fun s=>[(7,.int .i64 ((s:Nat):Int))]) (fun s w1=>J (lsOf xs s) w1∧n≤w1.heap.size∧s≤xs.length) (fun s=>xs.length - s) (0) (zI rfl (zI rfl (zI rfl (zI rfl yB)))) ?_ (fun s w1 hJ=>?_)
 · exact ⟨hJ,hn,by omega⟩
 ·obtain ⟨hJ1,hn1,hs⟩:=hJ
  have hk:=hkeep _ _ hJ1
  replace h1:=hk.nat h1'
  have hF:=hFa w1
  have hBJ:=Bel.refl w1.heap.size w1
  have hb1:=h1.lim s
  refine zF (zB (jT rfl rfl rfl (zD (zF ?_))))
  refine zU rfl (fun hc0=>?_) (fun hc0=>?_)
  ·refine yE (zF (zX (zF (zB (zA rfl rfl (jI (s) rfl yu29 yI rfl rfl (by assumption) (by omega) (by omega) (fun b10 o10 hc10 hb10=>?_)))))))
   refine yX rfl xM rfl hc10 (zC rfl rfl (zC rfl rfl (zD (zF (zB (zA rfl rfl (fT rfl rfl rfl (zA rfl rfl (kU (d:=14) rfl (fun hg3_2=>?_) (fun hg3_2=>?_))))))))))
   ·refine yK rfl rfl (zA rfl rfl (yK rfl rfl (zA rfl rfl (yK rfl rfl (zA rfl rfl (yK rfl rfl (xC rfl yu139 yu168 rfl (by omega) (yK rfl rfl (kR rfl rfl rfl ?_)))))))))
    refine (hy _ _ _ _ ((ls_at (by omega) (by omega)).choose_spec) (hJd _ _ _ hJ1 (Drift.of_below hBJ hn1)) (Nat.le_trans hn1 hBJ.size)).mono ?_
    rintro v19 w2 ⟨hn2,_,hyn⟩
    refine yK rfl rfl (aQ rfl rfl (jW rfl rfl rfl (zD ?_)))
    refine uP rfl (fun hc1=>?_) (fun hc1=>?_)
    ·refine zY ?_
     refine xF ⟨[],trivial,?_⟩
     dsimp only [xG]
     right
     rcases hyn with ⟨e,_⟩ | ⟨_,h⟩
     · subst e; simp at hc1
     · exact h
    ·refine yE (zB (yV rfl rfl rfl (by omega) (zA rfl rfl (zD ?_))))
     refine ⟨rfl,s + 1,(zR rfl (by rw [Int.natCast_add]; rfl) (zI rfl (zI rfl (zI rfl yB)))),?_,?_⟩
     exact ⟨by
       rw [zL6 (by omega)]
       rcases hyn with ⟨_,h⟩ | ⟨e,_⟩
       · exact h
       · subst e; simp at hc1,hn2,by omega⟩
     omega
   ·refine yL rfl rfl rfl rfl (yL rfl rfl rfl rfl (yL rfl rfl rfl rfl (yL rfl rfl rfl rfl (yL rfl rfl rfl rfl (yL rfl rfl rfl rfl (jW rfl rfl rfl (zD (aV rfl (yE (zB (yV rfl rfl rfl (by omega) (zA rfl rfl (zD ?_)))))))))))))
    refine ⟨rfl,s + 1,(zR rfl (by rw [Int.natCast_add]; rfl) (zI rfl (zI rfl (zI rfl yB)))),?_,?_⟩
    exact ⟨by rw [ls_skip (by omega)]; exact hJ1,hn1,by omega⟩
    omega
  ·refine xI (xK ?_)
   refine xF ⟨[],trivial,?_⟩
   dsimp only [xG]
   left
   obtain rfl:s=xs.length:=by omega
   exact ⟨hJ1,trivial⟩
theorem limbsf_c {v:Value} {xs:List Nat} (h1:IsNat M w v xs) (hl1:xs.length≤1099511627776) (hM:OkM M w) :
    CallsV prog 293 [v] w fun r w'=>Bel w.heap.size w w'∧∃ cap,r = .func (.func 306) #[] cap∧IterC prog 306 cap.toList M NoT w' (lsOf xs xs.length) encL (fun _=>True):=by
 refine ci M func293 ntmps293 fun Fz hFz hF LL=>?_
 refine zF (zB (gJ rfl rfl (fun w1 b1 N1=>?_)))
 obtain ⟨_,nF1,nM1,Lw1,B1⟩:=nz hF hM N1
 obtain ⟨LL,hM,h1⟩:=up3 Lw1 LL hM h1
 rw [h1.one] at B1
 refine zC rfl rfl (zD (zF (zB (gZ rfl rfl (zC rfl rfl (zD (zY ?_)))))))
 refine lv1 ⟨rfl,trivial⟩ ?_
 subst hFz
 refine ⟨LL.b,_,rfl,?_⟩
 exact limbs1_c B1 (fun c=>nM1 c) (h1.less fun k c=>yF c) hl1 (fun k c=>hM k (yF c))
theorem plain_c {v u:Value} {xs ys:List Nat} (h1:IsNat M w v xs) (h2:IsNat M w u ys) (hl1:xs.length≤1000000000) (hl2:ys.length≤1000000000) (hM:OkM M w) :
    CallsV prog 277 [v,u] w fun r w'=>Bel w.heap.size w w'∧Fresh 139 w w' r (limbs (val xs * val ys)):=by
 have Mk:Marks M w.heap.size [] w:=gK
 refine ci M func277 ntmps277 fun Fz hFz hF LL=>?_
 refine zF (zB (gJ rfl rfl (fun w1 b3 N3=>?_)))
 obtain ⟨hBw1,nF3,nM3,Lw1,B3⟩:=nz hF hM N3
 obtain ⟨LL,hM,hF,h1,h2,Mk⟩:=up6 Lw1 LL hM hF h1 h2 Mk
 rw [h2.one] at B3
 refine zC rfl rfl (zD (zF (zB (zA rfl rfl ?_))))
 refine yT rfl yu29 rfl ?_
 refine zN rfl yS rfl B3 rfl ?_
 refine yT rfl yu29 rfl ?_
 refine yV rfl rfl rfl (by omega) (kG (xs.length + ys.length) (xs.length + ys.length) rfl yu29 yI rfl rfl rfl (by omega) (by omega) (by omega) (by omega) (by omega) (fun w2 b16 N16=>?_))
 have nF16:=hF.new N16
 have nM16:=hM.new N16
 have hBw2:=N16.below
 have Lw2:=Le.of_new_mo (Fz:=Fz) (M:=(Ins b3 M)) (v:=Value.slice (some ⟨b16,0,none⟩) (xs.length + ys.length) (xs.length + ys.length)) N16 rfl
 obtain ⟨B3,ne3_16⟩:=bn B3 N16
 obtain ⟨LL,hM,hF,h1,h2,Mk⟩:=up6 Lw2 LL hM hF h1 h2 Mk
 have Of:∀ k,(Value.slice (some ⟨b16,0,none⟩) (xs.length + ys.length) (xs.length + ys.length)).ownBlock=some k→¬ Fz k:=jD nF16
 have Om:∀ k,(Value.slice (some ⟨b16,0,none⟩) (xs.length + ys.length) (xs.length + ys.length)).ownBlock=some k→¬ (Ins b3 M) k:=jD nM16
 have Ow:=kY (n:=xs.length + ys.length) (c:=xs.length + ys.length) N16.blk (by simp) (by omega) (by omega)
 have Ow:World.ownsRow w2 0 139 1 (Value.slice (some ⟨b16,0,none⟩) (xs.length + ys.length) (xs.length + ys.length)) (List.replicate (xs.length + ys.length) 0).length ((List.replicate (xs.length + ys.length) 0).map lw):=by simpa [lw] using Ow
 refine xB rfl sz29 (fun w3 b5 N5=>?_)
 obtain ⟨hBw3,nF5,nM5,_,B5⟩:=nz hF hM N5
 have Lw3:=Le.of_new_in (Fz:=Fz) (M:=(Ins b3 M)) (v:=(Value.slice (some ⟨b16,0,none⟩) (xs.length + ys.length) (xs.length + ys.length))) N5
 replace Om:=zS9 Ow N5 Om
 replace Ow:=xA Ow hBw3
 obtain ⟨B3,ne3_5⟩:=bn B3 N5
 obtain ⟨LL,hM,hF,h1,h2,Mk⟩:=up6 Lw3 LL hM hF h1 h2 Mk
 refine xO rfl rfl sz29 B5 (by first | rfl | assumption) (fun w4 Cw4 B5=>?_)
 obtain ⟨LL,hM,hF,h1,h2,Mk⟩:=up6 (lc LL Cw4 (.inr zO) nF5) LL hM hF h1 h2 Mk
 replace B3:=B3.other Cw4 ne3_5
 replace Ow:=dG Ow Cw4 (fun h=>Om _ h zO)
 refine zD (zF (zF (zB (zA rfl rfl (zK rfl (bo func293) rfl rfl ?_)))))
 refine (limbsf_c (by assumption) (by omega) hM).mono ?_
 rintro v18 w5 ⟨hB18,cap18,rfl,hit18⟩
 obtain ⟨LL,hM,hF,h1,h2,Mk,B3,B5⟩:=ub8 hB18 LL hM hF h1 h2 Mk B3 B5
 replace Ow:=xA Ow hB18
 refine zD (zX ?_)
 have hMS0:=hM
 have hszLL:=LL.size
 have Mold0:=Mk.old (Nat.le_refl _)
 refine dT (M:=(Mo (Value.slice (some ⟨b16,0,none⟩) (xs.length + ys.length) (xs.length + ys.length)) (Ins b5 (Ins b3 M)))) (T:=NoT) (lsOf xs xs.length) (encL) rfl (bo func306) (hit18) noT (trivial) (fun _=>rfl) rfl [(3,_),(5,_)] (zI rfl (zI rfl yB)) (fun pre w6=>Le Fz (Mo (Value.slice (some ⟨b16,0,none⟩) (xs.length + ys.length) (xs.length + ys.length)) (Ins b5 (Ins b3 M))) w5 (Mo (Value.slice (some ⟨b16,0,none⟩) (xs.length + ys.length) (xs.length + ys.length)) (Ins b5 (Ins b3 M))) w6∧Blk w6 b3 29 [u]∧Blk w6 b5 29 [Value.slice (some ⟨b16,0,none⟩) (xs.length + ys.length) (xs.length + ys.length)]∧∃ zs:List Nat,w6.ownsRow 0 139 1 (Value.slice (some ⟨b16,0,none⟩) (xs.length + ys.length) (xs.length + ys.length)) zs.length (zs.map lw)∧zs.length=xs.length + ys.length∧(∀ z ∈ zs,z < 4294967296)∧val zs=psum pre * val ys∧∀ j,(∀ p ∈ pre,p.1 + ys.length < j)→zs.getD j 0=0) (fun _ _=>False) (fun _=>False) (⟨Le.refl _ _ _,B3,B5,_,Ow,by simp,by intro z hz; have:=(List.mem_replicate.1 hz).2; omega,by simp [uV,psum],fun j _=>by simp [List.getD_eq_getElem?_getD,List.getElem?_replicate]; split <;> rfl⟩) (fun pre w h=>h.1.keep) (fun pre w1 w2 hJ hd=>(by obtain ⟨h1,h2,h3,zs,h4,h5⟩:=hJ; exact ⟨h1.drift0 hd (Nat.le_refl _),h2.drift hd (fun c=>c),h3.drift hd (fun c=>c),zs,uY h4 hd (fun _ _ c=>c),h5⟩)) (fun _ _ _ h _=>h) (fun _ _ h _=>h) (fun _ _ _ _=>trivial) ?_ ?_ (fun _ _ h _=>h.elim) (fun _ h _=>h.elim)
 ·intro pre x post l b w6 ρ δ hx hJ hnl hnb hl hb hbc
  clear Ow
  obtain ⟨LS0,B3,B5,zs,Ow,hzl,hzlt,hzv,hz0⟩:=hJ
  obtain ⟨LL,hM,hF,h1,h2,Mk⟩:=up6 LS0 LL hM hF h1 h2 Mk
  have RL:Rec (Mo (Value.slice (some ⟨b16,0,none⟩) (xs.length + ys.length) (xs.length + ys.length)) (Ins b5 (Ins b3 M))) w6 l (.loop ρ):=⟨hl,(gG hMS0 hnl)⟩
  have RB:Rec (Mo (Value.slice (some ⟨b16,0,none⟩) (xs.length + ys.length) (xs.length + ys.length)) (Ins b5 (Ins b3 M))) w6 b δ:=⟨hb,(gG hMS0 hnb)⟩
  have hs1:w6.heap.size≤w6.heap.size:=Nat.le_refl _
  obtain ⟨hi,hxe,hpre⟩:=oA hx
  have hxb:x.2 < 4294967296:=by rw [hxe]; exact h1.lim _
  refine zF (zB (zC rfl rfl (zD (zB (zC rfl rfl (zD ?_))))))
  refine ⟨RL.at_,RB.at_,rfl,fun w7 ρ' δ' hdr hl' hb' hbc'=>?_⟩
  replace LL:=LL.drift0 hdr hszLL
  replace LS0:=LS0.drift0 hdr (Nat.le_refl _)
  replace hM:=hM.drift hdr
  replace hF:=hF.drift hdr
  replace hs1:=Nat.le_trans hs1 hdr.size
  replace h1:=h1.drift hdr noT
  replace h2:=h2.drift hdr noT
  replace RL:Rec (Mo (Value.slice (some ⟨b16,0,none⟩) (xs.length + ys.length) (xs.length + ys.length)) (Ins b5 (Ins b3 M))) w7 l (.loop ρ'):=⟨hl',RL.not⟩
  replace RB:Rec (Mo (Value.slice (some ⟨b16,0,none⟩) (xs.length + ys.length) (xs.length + ys.length)) (Ins b5 (Ins b3 M))) w7 b δ':=⟨hb',RB.not⟩
  replace B3:=B3.drift hdr (fun c=>c)
  replace B5:=B5.drift hdr (fun c=>c)
  replace Ow:=uY Ow hdr (fun _ _ c=>c)
  refine zX (zF (zB (zC rfl rfl (zD (zF (zF (zB (zN rfl yS rfl B3 rfl ?_))))))))
  refine yT rfl yu29 rfl ?_
  refine zA rfl rfl (zD (zX ?_))
  refine xT (σ:=Nat × Nat) [(3,_),(5,_),(6,_),(7,_),(21,_),(22,_)] (fun s=>[(8,.int .u64 ((s.2:Nat):Int)),(23,.int .i64 ((s.1:Nat):Int))]) (fun s w8=>Le Fz (Mo (Value.slice (some ⟨b16,0,none⟩) (xs.length + ys.length) (xs.length + ys.length)) (Ins b5 (Ins b3 M))) w7 (Mo (Value.slice (some ⟨b16,0,none⟩) (xs.length + ys.length) (xs.length + ys.length)) (Ins b5 (Ins b3 M))) w8∧Blk w8 b3 29 [u]∧Blk w8 b5 29 [Value.slice (some ⟨b16,0,none⟩) (xs.length + ys.length) (xs.length + ys.length)]∧∃ zs:List Nat,w8.ownsRow 0 139 1 (Value.slice (some ⟨b16,0,none⟩) (xs.length + ys.length) (xs.length + ys.length)) zs.length (zs.map lw)∧zs.length=xs.length + ys.length∧(∀ z ∈ zs,z < 4294967296)∧s.1≤ys.length∧s.2 < 4294967296∧(∀ j,x.1 + ys.length≤j→zs.getD j 0=0)∧val zs + 4294967296 ^ (x.1 + s.1) * s.2=psum pre * val ys + 4294967296 ^ x.1 * (x.2 * val (ys.take s.1))) (fun s=>ys.length - s.1) ((0,0)) (zI rfl (zI rfl (zI rfl (zI rfl (zI rfl (zI rfl (zI rfl (zI rfl yB)))))))) ?_ (fun s w8 hJ=>?_)
  · dsimp only
    exact ⟨Le.refl _ _ _,B3,B5,zs,Ow,hzl,hzlt,by omega,by omega,fun j hj=>hz0 j (fun p hp=>by have:=hpre p hp; omega),by simp [val,hzv]⟩
  ·clear Ow hzl hzlt hz0 hzv B3 B5
   obtain ⟨k,c⟩:=s
   dsimp only at hJ ⊢
   obtain ⟨LR2,B3,B5,zs,Ow,hzl,hzlt,hk,hc,hz0,hzv⟩:=hJ
   have hby:=h2.lim k
   have hbz:=qB hzlt (x.1 + k)
   have hxy:x.2 * ys.getD k 0≤4294967295 * 4294967295:=Nat.mul_le_mul (by omega) (by omega)
   obtain ⟨LL,LS0,hM,hF,h1,h2,RL,RB⟩:=up8 LR2 LL LS0 hM hF h1 h2 RL RB
   replace hs1:=Nat.le_trans hs1 LR2.size
   refine zF (zB (jT rfl rfl rfl (zD (zF ?_))))
   refine zU rfl (fun hc0=>?_) (fun hc0=>?_)
   ·refine yE (zF (zX (zF (zB (zA rfl rfl (jI (k) rfl yu29 yI rfl rfl (by assumption) (by omega) (by omega) (fun b26 o26 hc26 hb26=>?_)))))))
    refine yX rfl xM rfl hc26 (zC rfl rfl (zC rfl rfl (zD (zF (zB (zA rfl rfl (zA rfl rfl (zA rfl rfl (xC rfl yu139 yu168 rfl (by omega) ?_)))))))))
    first | refine aC rfl rfl rfl (by omega) ?_ | refine aD rfl rfl rfl ?_
    refine zN rfl yS rfl B5 rfl (zA rfl rfl (zA rfl rfl (yV rfl rfl rfl (by omega) ?_)))
    refine qT (x.1 + k) rfl yu29 yI rfl rfl Ow (by omega) (by omega) (fun b37 cur37 cap37 B37=>?_)
    have hc37:w8.cell? ⟨b37,x.1 + k,none⟩=some (lw (zs.getD (x.1 + k) 0)):=by rw [B37.blk.cell]; exact B37.get (gA (by omega))
    refine yX rfl xM rfl hc37 (xC rfl yu139 yu168 rfl (by omega) ?_)
    first | refine gH rfl rfl rfl (by omega) ?_ | refine gM rfl rfl rfl ?_
    first | refine gH rfl rfl rfl (by omega) ?_ | refine gM rfl rfl rfl ?_
    refine zC rfl rfl (zD (zF (zB (zN rfl yS rfl B5 rfl (zA rfl rfl (zA rfl rfl (yV rfl rfl rfl (by omega) (zA rfl rfl (jA rfl yu168 yu139 rfl ?_)))))))))
    refine qT (x.1 + k) rfl yu29 yI rfl rfl Ow (by omega) (by omega) (fun b48 cur48 cap48 B48=>?_)
    have hc48:w8.cell? ⟨b48,x.1 + k,none⟩=some (lw (zs.getD (x.1 + k) 0)):=by rw [B48.blk.cell]; exact B48.get (gA (by omega))
    refine gO rfl rfl yI B48.blk rfl (by have:=B48.len; have:=B48.le; omega) (by simp [Value.cells,Value.oneCell']) (fun w9 Cw9 BN=>?_)
    have Lw9:=Le.of_chg (M:=(Mo (Value.slice (some ⟨b16,0,none⟩) (xs.length + ys.length) (xs.length + ys.length)) (Ins b5 (Ins b3 M)))) Cw9 (.inl B48.own) (Of b48 B48.own)
    replace B3:=B3.other Cw9 (fun e=>Om b48 B48.own (e ▸ (.inr zO)))
    replace B5:=B5.other Cw9 (fun e=>Om b48 B48.own (e ▸ zO))
    obtain ⟨LS0,LR2,RL,RB⟩:=up4 Lw9 LS0 LR2 RL RB
    have Ow2:=B48.set (by omega) BN
    replace Ow2:World.ownsRow w9 0 139 1 (Value.slice (some ⟨b16,0,none⟩) (xs.length + ys.length) (xs.length + ys.length)) (zs.set (x.1 + k) ((c + (x.2 * ys.getD k 0 + zs.getD (x.1 + k) 0)) % 4294967296)).length ((zs.set (x.1 + k) ((c + (x.2 * ys.getD k 0 + zs.getD (x.1 + k) 0)) % 4294967296)).map lw):=by rw [List.length_set,List.map_set]; exact Ow2
    clear Ow; have Ow:=Ow2; clear Ow2 BN
    refine zD (zB (zA rfl rfl (xW rfl rfl rfl (by simp only [IntKind.bits]; omega) (zC rfl rfl (zD (zB (yV rfl rfl rfl (by omega) (zA rfl rfl (zD ?_)))))))))
    refine ⟨rfl,(k + 1,(c + (x.2 * ys.getD k 0 + zs.getD (x.1 + k) 0)) / 4294967296),(zR rfl (rfl) (zR rfl (by rw [Int.natCast_add]; rfl) (zI rfl (zI rfl (zI rfl (zI rfl (zI rfl (zI rfl yB)))))))),?_,?_⟩
    dsimp only
    exact ⟨LR2,B3,B5,_,Ow,by simp [hzl],kN hzlt (by omega),by omega,by omega,fun j hj=>by rw [qH (by omega)]; exact hz0 j (by omega),by
      rw [show x.1 + (k + 1)=x.1 + k + 1 from rfl,mul_step2 (by omega) rfl hzv,mul_row2]⟩
    dsimp only
    omega
   ·obtain rfl:k=ys.length:=by omega
    rw [List.take_length] at hzv
    refine xI (xK (zB (zN rfl yS rfl B5 rfl (zA rfl rfl (zN rfl yS rfl B3 rfl ?_)))))
    refine yT rfl yu29 rfl ?_
    refine yV rfl rfl rfl (by omega) (zA rfl rfl (jA rfl yu168 yu139 rfl ?_))
    refine qT (x.1 + ys.length) rfl yu29 yI rfl rfl Ow (by omega) (by omega) (fun b59 cur59 cap59 B59=>?_)
    have hc59:w8.cell? ⟨b59,x.1 + ys.length,none⟩=some (lw (zs.getD (x.1 + ys.length) 0)):=by rw [B59.blk.cell]; exact B59.get (gA (by omega))
    refine gO rfl rfl yI B59.blk rfl (by have:=B59.len; have:=B59.le; omega) (by simp [Value.cells,Value.oneCell']) (fun w10 Cw10 BN=>?_)
    have Lw10:=Le.of_chg (M:=(Mo (Value.slice (some ⟨b16,0,none⟩) (xs.length + ys.length) (xs.length + ys.length)) (Ins b5 (Ins b3 M)))) Cw10 (.inl B59.own) (Of b59 B59.own)
    replace B3:=B3.other Cw10 (fun e=>Om b59 B59.own (e ▸ (.inr zO)))
    replace B5:=B5.other Cw10 (fun e=>Om b59 B59.own (e ▸ zO))
    obtain ⟨LS0,LR2,RL,RB⟩:=up4 Lw10 LS0 LR2 RL RB
    replace hs1:=Nat.le_trans hs1 Lw10.size
    have Ow2:=B59.set (by omega) BN
    replace Ow2:World.ownsRow w10 0 139 1 (Value.slice (some ⟨b16,0,none⟩) (xs.length + ys.length) (xs.length + ys.length)) (zs.set (x.1 + ys.length) (c % 4294967296)).length ((zs.set (x.1 + ys.length) (c % 4294967296)).map lw):=by rw [List.length_set,List.map_set]; exact Ow2
    clear Ow; have Ow:=Ow2; clear Ow2 BN
    refine zD ?_
    refine ⟨RL.at_,RB.at_,hs1,fun _ c=>c.elim,?_⟩
    exact ⟨LS0,B3,B5,_,Ow,by simp [hzl],kN hzlt (by omega),by
      have:=bQ (zs:=zs) (j:=x.1 + ys.length) (c % 4294967296) (by omega)
      rw [hz0 _ (Nat.le_refl _),Nat.mod_eq_of_lt hc] at this
      rw [Nat.mod_eq_of_lt hc,← psum_snoc,← hzv]; omega,fun j hj=>by
      have:=hj x (by simp)
      rw [qH (by omega)]; exact hz0 j (by omega)⟩
 ·intro w11 hJ hZ hDd
  clear Ow
  obtain ⟨LS0,B3,B5,zs,Ow,hzl,hzlt,hzv,hz0⟩:=hJ
  obtain ⟨LL,hM,Mk⟩:=up3 LS0 LL hM Mk
  have hdd:=hDd _ rfl rfl
  have RD:Rec (Mo (Value.slice (some ⟨b16,0,none⟩) (xs.length + ys.length) (xs.length + ys.length)) (Ins b5 (Ins b3 M))) w11 w5.heap.size (.deferred (some [])):=⟨hdd,(gG hMS0 (Nat.le_refl _))⟩
  replace Mk:=Mk.cons hszLL RD Mold0
  refine zF (zB (zN rfl yS rfl B5 rfl (zK rfl (bo func252) rfl rfl ?_)))
  refine (qR (xs:=zs) ⟨uC Ow (fun k hk c=>Om k hk (yF (yF c))) (by omega),hzlt⟩ (by omega) (fun k hk=>hM k (.inr (yF (yF hk))))).mono ?_
  rintro v61 w12 ⟨hB61,hf61⟩
  have hS61:=LL.size
  obtain ⟨LL,LS0,Mk⟩:=ub3 hB61 LL LS0 Mk
  replace hf61:=hf61.less hS61
  refine zC rfl rfl (zD (zY ?_))
  refine jK Mk (fun wz hz=>⟨[_],⟨rfl,trivial⟩,?_⟩)
  dsimp only [xG]
  subst hFz
  rw [zK1,List.take_length] at hzv
  rw [hzv] at hf61
  exact ⟨SL.Bel.drift (LL.b) hz (Nat.le_refl _),hf61.drift hz⟩
theorem less_c {v u:Value} {xs ys:List Nat} (h1:IsNat M w v xs) (h2:IsNat M w u ys) (hl1:xs.length≤1000000000) (hl2:ys.length≤1000000000) (hM:OkM M w) :
    CallsV prog 278 [v,u] w fun r w'=>Bel w.heap.size w w'∧Fresh 139 w w' r (limbs (val xs - val ys)):=by
 refine ci M func278 ntmps278 fun Fz hFz hF LL=>?_
 refine zF (zB (zC rfl rfl (zD (zF (zB (zA rfl rfl (zA rfl rfl (zK rfl (bo func294) rfl rfl ?_))))))))
 refine (zR1 h1 h2 (by omega) (by omega) hM).mono ?_
 rintro v10 w1 ⟨hB10,q10,rfl,hf10⟩
 have hM10:=hM
 have hS10:=LL.size
 replace LL:=ub1 hB10 LL
 have hn10:=hf10.nat hM10
 replace hf10:=hf10.less hS10
 refine zA rfl rfl (yM rfl rfl rfl (yM rfl rfl rfl (zC rfl rfl (zC rfl rfl (zD (zF (zB (zA rfl rfl (zC rfl rfl (zD (zY ?_)))))))))))
 refine lv1 ⟨rfl,trivial⟩ ?_
 subst hFz
 exact ⟨LL.b,hf10⟩
theorem zP2 {v:Value} {xs:List Nat} {n:Nat} {j:Int} (h:IsNat M w v xs) (hj:j=(n:Int)) (hn:n≤100000000) (hl:xs.length≤100000000) (hM:OkM M w) :
    CallsV prog 280 [v,.int .i64 j] w fun r w'=>Bel w.heap.size w w'∧Fresh 139 w w' r (List.replicate n 0 ++ xs):=by
 refine ci M func280 ntmps280 fun Fz hFz hF LL=>?_
 refine zF (zB (zC rfl rfl (zD (zF (zB (zA rfl rfl (kG (n) (n) rfl yu29 yI rfl rfl rfl (by omega) (by omega) (by omega) (by omega) (by omega) (fun w1 b6 N6=>?_))))))))
 have nF6:=hF.new N6
 have nM6:=hM.new N6
 have Lw1:=Le.of_new_mo (Fz:=Fz) (M:=M) (v:=Value.slice (some ⟨b6,0,none⟩) (n) (n)) N6 rfl
 obtain ⟨LL,hM,hF,h⟩:=up4 Lw1 LL hM hF h
 have Of:∀ k,(Value.slice (some ⟨b6,0,none⟩) (n) (n)).ownBlock=some k→¬ Fz k:=jD nF6
 have Om:∀ k,(Value.slice (some ⟨b6,0,none⟩) (n) (n)).ownBlock=some k→¬ M k:=jD nM6
 have Ow:=kY (n:=n) (c:=n) N6.blk (by simp) (by omega) (by omega)
 have Ow:World.ownsRow w1 0 139 1 (Value.slice (some ⟨b6,0,none⟩) (n) (n)) (List.replicate (n) 0).length ((List.replicate (n) 0).map lw):=by simpa [lw] using Ow
 refine zA rfl rfl (jJ rfl yu29 yI rfl rfl rfl Ow h.slc (nZ _) (by simp; omega) (by simp; omega) (fun v8 w2 A8 G8 S8=>?_))
 have Lw2:=Le.of_grown (Fz:=Fz) (M:=M) G8 S8 A8 Of
 have Omo8:=Om
 replace Of:=jH (w':=w2) Of hF S8
 replace Om:=jG (w':=w2) Om (fun k hk=>hM k (.inr hk)) S8
 obtain ⟨LL,h⟩:=up2 Lw2 LL h
 clear Ow; have Ow:=A8
 refine zC rfl rfl (zD (zY ?_))
 refine lv1 ⟨rfl,trivial⟩ ?_
 subst hFz
 refine ⟨LL.b,bL (by rw [List.length_append,List.map_append]; exact Ow) Of (fun x hx=>?_) (by simp; omega)⟩
 rcases List.mem_append.1 hx with hx | hx
 · rw [(List.mem_replicate.1 hx).2]; omega
 · exact h.lt x hx
def yA8 (K:Nat):Prop:=∀ (M:Nat→Prop) (w:World) (b:Nat) (v u:Value) (xs ys:List Nat),Blk w b 124 [.func (.func 276) #[] #[.pointer (some ⟨b,0,none⟩)]]→¬ M b→IsNat M w v xs→IsNat M w u ys→max xs.length ys.length≤K→OkM M w →
  CallsV prog 276 [v,u,.pointer (some ⟨b,0,none⟩)] w fun r w'=>Bel w.heap.size w w'∧Fresh 139 w w' r (limbs (val xs * val ys))
theorem mul1_step {K:Nat} (hK:K≤1000000) (ih:∀ k,k < K→yA8 k) {M:Nat→Prop} {w:World} {b:Nat} {v u:Value} {xs ys:List Nat} (B2:Blk w b 124 [.func (.func 276) #[] #[.pointer (some ⟨b,0,none⟩)]]) (n2:¬ M b) (h1:IsNat M w v xs) (h2:IsNat M w u ys) (hl:max xs.length ys.length≤K) (hM:OkM M w) :
    CallsV prog 276 [v,u,.pointer (some ⟨b,0,none⟩)] w fun r w'=>Bel w.heap.size w w'∧Fresh 139 w w' r (limbs (val xs * val ys)):=by
 refine ci M func276 ntmps276 fun Fz hFz hF LL=>?_
 refine zF (zB (zC rfl rfl (zD (zF (zB (zA rfl rfl ?_))))))
 refine yT rfl yu29 rfl ?_
 refine zA rfl rfl ?_
 refine yT rfl yu29 rfl ?_
 refine kF rfl rfl rfl ?_
 refine uD rfl rfl rfl (by omega) ?_
 rw [show (max (xs.length:Int) ys.length) / 2=((max xs.length ys.length / 2:Nat):Int) by omega]
 generalize hn:max xs.length ys.length / 2=n
 refine zC rfl rfl (zD (zF (zF (zB (zA rfl rfl ?_)))))
 refine yT rfl yu29 rfl ?_
 refine zA rfl rfl ?_
 refine yT rfl yu29 rfl ?_
 refine iE rfl rfl rfl (zA rfl rfl (kF rfl rfl rfl (wG rfl rfl rfl (zD ?_))))
 refine zU rfl (fun hc0=>?_) (fun hc0=>?_)
 ·refine zF (zB (zA rfl rfl (zA rfl rfl (zK rfl (bo func277) rfl rfl ?_))))
  refine (plain_c (by assumption) (by assumption) (by omega) (by omega) hM).mono ?_
  rintro v26 w1 ⟨hB26,hf26⟩
  have hM26:=hM
  have hS26:=LL.size
  replace LL:=ub1 hB26 LL
  have hn26:=hf26.nat hM26
  replace hf26:=hf26.less hS26
  refine zC rfl rfl (zD (zY ?_))
  refine lv1 ⟨rfl,trivial⟩ ?_
  subst hFz
  exact ⟨LL.b,hf26⟩
 ·have hnl:n≤xs.length∧n≤ys.length∧13≤K:=by omega
  refine yE (zF ?_)
  refine wd mixed 15 [0,1,2,6,34,35,38,41] (by decide +kernel) ?_
  apply zQ
  ·intro wq hR hst
   refine zV rfl rfl (zG ?_)
   replace B2:=B2.below hR
   refine zN rfl mP rfl B2 rfl ?_
   exact on0 rfl
  refine zQ (fun _ _ _=>zV rfl rfl (zG (zA rfl rfl (on0 rfl)))) ?_
  refine zQ (fun _ _ _=>zV rfl rfl (zG (zA rfl rfl (on0 rfl)))) ?_
  refine jE (fun v w=>IsNat M w v (xs.take n)) jP (fun wq hR hst=>?_) ?_
  ·refine zM rfl (zM rfl (zG ?_))
   obtain ⟨LL,hM,hF,h1,h2,B2⟩:=ub6 hR LL hM hF h1 h2 B2
   refine jS (M:=M) (0) (n) rfl yu29 yI rfl h1.slc rfl ⟨_,rfl⟩ trivial (by omega) (by omega) (fun v30 hv30=>?_)
   have hn30:IsNat M wq v30 (xs.take n):=by have:=h1.sub (by omega) hv30; simpa using this
   exact on1 (xJ _) rfl (by assumption)
  refine zQ (fun _ _ _=>zV rfl rfl (zG (zA rfl rfl (on0 rfl)))) ?_
  refine zQ (fun _ _ _=>zV rfl rfl (zG (zA rfl rfl (on0 rfl)))) ?_
  refine jE (fun v w=>IsNat M w v (ys.take n)) jP (fun wq hR hst=>?_) ?_
  ·refine zM rfl (zM rfl (zG ?_))
   obtain ⟨LL,hM,hF,h1,h2,B2⟩:=ub6 hR LL hM hF h1 h2 B2
   refine jS (M:=M) (0) (n) rfl yu29 yI rfl h2.slc rfl ⟨_,rfl⟩ trivial (by omega) (by omega) (fun v33 hv33=>?_)
   have hn33:IsNat M wq v33 (ys.take n):=by have:=h2.sub (by omega) hv33; simpa using this
   exact on1 (xJ _) rfl (by assumption)
  refine jE (fun v w=>IsNat M w v (limbs (val (xs.take n) * val (ys.take n)))) jP (fun wq hR hst=>?_) ?_
  ·refine zM rfl (xY rfl (fun v30 hn30=>?_))
   refine xY rfl (fun v33 hn33=>?_)
   refine zG ?_
   obtain ⟨LL,hM,hF,h1,h2,B2⟩:=ub6 hR LL hM hF h1 h2 B2
   refine zK rfl (bo func276) rfl rfl ?_
   refine (ih (K - 1) (by omega) M _ b _ _ (xs.take n) (ys.take n) B2 n2 (by assumption) (by assumption) (by simp; omega) hM).mono ?_
   rintro v34 w2 ⟨hB34,hf34⟩
   have hM34:=hM
   have hS34:=LL.size
   obtain ⟨LL,hM,hF,h1,h2,hn30,hn33,B2⟩:=ub8 hB34 LL hM hF h1 h2 hn30 hn33 B2
   have hn34:=hf34.nat hM34
   replace hf34:=hf34.less hS34
   exact on1 hB34 rfl (by assumption)
  apply zQ
  ·intro wq hR hst
   refine zV rfl rfl (zG ?_)
   replace B2:=B2.below hR
   refine zN rfl mP rfl B2 rfl ?_
   exact on0 rfl
  refine zQ (fun _ _ _=>zV rfl rfl (zG (zA rfl rfl (on0 rfl)))) ?_
  refine zQ (fun _ _ _=>zV rfl rfl (zG (zA rfl rfl (on0 rfl)))) ?_
  refine jE (fun v w=>IsNat M w v (xs.drop n)) jP (fun wq hR hst=>?_) ?_
  ·refine zM rfl (zM rfl (zG ?_))
   obtain ⟨LL,hM,hF,h1,h2,B2⟩:=ub6 hR LL hM hF h1 h2 B2
   refine jS (M:=M) n (xs.length) rfl yu29 yI rfl h1.slc ⟨_,rfl⟩ rfl trivial (by omega) (by omega) (fun v38 hv38=>?_)
   have hn38:IsNat M wq v38 (xs.drop n):=by have:=h1.sub (by omega) hv38; rw [List.take_of_length_le (by simp)] at this; exact this
   exact on1 (xJ _) rfl (by assumption)
  refine zQ (fun _ _ _=>zV rfl rfl (zG (zA rfl rfl (on0 rfl)))) ?_
  refine zQ (fun _ _ _=>zV rfl rfl (zG (zA rfl rfl (on0 rfl)))) ?_
  refine jE (fun v w=>IsNat M w v (ys.drop n)) jP (fun wq hR hst=>?_) ?_
  ·refine zM rfl (zM rfl (zG ?_))
   obtain ⟨LL,hM,hF,h1,h2,B2⟩:=ub6 hR LL hM hF h1 h2 B2
   refine jS (M:=M) n (ys.length) rfl yu29 yI rfl h2.slc ⟨_,rfl⟩ rfl trivial (by omega) (by omega) (fun v41 hv41=>?_)
   have hn41:IsNat M wq v41 (ys.drop n):=by have:=h2.sub (by omega) hv41; rw [List.take_of_length_le (by simp)] at this; exact this
   exact on1 (xJ _) rfl (by assumption)
  refine gB (fun wq4 hR4 hpost4=>?_)
  refine zV rfl rfl (zV rfl rfl (zV rfl rfl (zV rfl rfl (xY rfl (fun v34 hn34=>?_)))))
  refine zM rfl (xY rfl (fun v38 hn38=>?_))
  refine xY rfl (fun v41 hn41=>?_)
  refine zG ?_
  simp only [qZ,qY,qX,qW]
  obtain ⟨LL,hM,hF,h1,h2,B2⟩:=ub6 hR4 LL hM hF h1 h2 B2
  have hl34:=aR (xU (xs:=xs.take n) (k:=K) (fun x hx=>h1.lt x (List.mem_of_mem_take hx)) (by simp; omega)) (xU (xs:=ys.take n) (k:=K) (fun x hx=>h2.lt x (List.mem_of_mem_take hx)) (by simp; omega))
  have hl42:=aR (xU (xs:=xs.drop n) (k:=K) (fun x hx=>h1.lt x (List.mem_of_mem_drop hx)) (by simp; omega)) (xU (xs:=ys.drop n) (k:=K) (fun x hx=>h2.lt x (List.mem_of_mem_drop hx)) (by simp; omega))
  refine zK rfl (bo func276) rfl rfl ?_
  refine (ih (K - 1) (by omega) M _ b _ _ (xs.drop n) (ys.drop n) B2 n2 (by assumption) (by assumption) (by simp; omega) hM).mono ?_
  rintro v42 w3 ⟨hB42,hf42⟩
  have hM42:=hM
  have hS42:=LL.size
  obtain ⟨LL,hM,hF,h1,h2,hn34,hn38,hn41,B2⟩:=ub9 hB42 LL hM hF h1 h2 hn34 hn38 hn41 B2
  have hn42:=hf42.nat hM42
  replace hf42:=hf42.less hS42
  refine zC rfl rfl (zC rfl rfl (zD (zF ?_)))
  have hs0:(limbs (val (xs.take n) + val (xs.drop n))).length≤K - 1:=Nat.le_trans (iV (k:=K - 2) (xU (fun x hx=>h1.lt x (List.mem_of_mem_take hx)) (by simp; omega)) (xU (fun x hx=>h1.lt x (List.mem_of_mem_drop hx)) (by simp; omega))) (by omega)
  have hs1:(limbs (val (ys.take n) + val (ys.drop n))).length≤K - 1:=Nat.le_trans (iV (k:=K - 2) (xU (fun x hx=>h2.lt x (List.mem_of_mem_take hx)) (by simp; omega)) (xU (fun x hx=>h2.lt x (List.mem_of_mem_drop hx)) (by simp; omega))) (by omega)
  refine wd mixed 21 [6,7,8,60,63] (by decide +kernel) ?_
  apply zQ
  ·intro wq hR hst
   refine zV rfl rfl (zG ?_)
   replace B2:=B2.below hR
   refine zN rfl mP rfl B2 rfl ?_
   exact on0 rfl
  refine zQ (fun _ _ _=>zV rfl rfl (zG (zA rfl rfl (on0 rfl)))) ?_
  refine zQ (fun _ _ _=>zV rfl rfl (zG (zA rfl rfl (on0 rfl)))) ?_
  refine jE (fun v w=>IsNat M w v (xs.take n)) jP (fun wq hR hst=>?_) ?_
  ·refine zM rfl (zM rfl (zG ?_))
   obtain ⟨LL,hM,hF,h1,h2,B2⟩:=ub6 hR LL hM hF h1 h2 B2
   refine jS (M:=M) (0) (n) rfl yu29 yI rfl h1.slc rfl ⟨_,rfl⟩ trivial (by omega) (by omega) (fun v46 hv46=>?_)
   have hn46:IsNat M wq v46 (xs.take n):=by have:=h1.sub (by omega) hv46; simpa using this
   exact on1 (xJ _) rfl (by assumption)
  refine zQ (fun _ _ _=>zV rfl rfl (zG (zA rfl rfl (on0 rfl)))) ?_
  refine zQ (fun _ _ _=>zV rfl rfl (zG (zA rfl rfl (on0 rfl)))) ?_
  refine jE (fun v w=>IsNat M w v (xs.drop n)) jP (fun wq hR hst=>?_) ?_
  ·refine zM rfl (zM rfl (zG ?_))
   obtain ⟨LL,hM,hF,h1,h2,B2⟩:=ub6 hR LL hM hF h1 h2 B2
   refine jS (M:=M) n (xs.length) rfl yu29 yI rfl h1.slc ⟨_,rfl⟩ rfl trivial (by omega) (by omega) (fun v49 hv49=>?_)
   have hn49:IsNat M wq v49 (xs.drop n):=by have:=h1.sub (by omega) hv49; rw [List.take_of_length_le (by simp)] at this; exact this
   exact on1 (xJ _) rfl (by assumption)
  refine jE (fun v w=>IsNats M w v [xs.take n,xs.drop n]) fA (fun wq hR hst=>?_) ?_
  ·refine xY rfl (fun v46 hn46=>?_)
   refine xY rfl (fun v49 hn49=>?_)
   refine zG ?_
   obtain ⟨LL,hM,hF,h1,h2,B2⟩:=ub6 hR LL hM hF h1 h2 B2
   refine yO rfl yu260 sz29 rfl rfl rfl (one2 (by first | rfl | exact yQ (by assumption) | exact yU (by assumption) | assumption) (by first | rfl | exact yQ (by assumption) | exact yU (by assumption) | assumption)) rfl (fun w4 b50 N50=>?_)
   have hBw4:=N50.below
   have nM50:=hM.new N50
   have B50:=N50.blk
   obtain ⟨LL,hM,hF,h1,h2,hn46,hn49,B2⟩:=ub8 hBw4 LL hM hF h1 h2 hn46 hn49 B2
   have hn50:=tO B50 nM50 (by assumption) (by assumption)
   have hB50:=hBw4
   exact on1 hB50 rfl (by assumption)
  refine jE (fun v w=>IsNat M w v (limbs (val (xs.take n) + val (xs.drop n)))) jP (fun wq hR hst=>?_) ?_
  ·refine xY rfl (fun v50 hn50=>?_)
   refine zG ?_
   obtain ⟨LL,hM,hF,h1,h2,B2⟩:=ub6 hR LL hM hF h1 h2 B2
   refine zK rfl (bo func279) rfl rfl ?_
   refine (sN (xs:=xs.take n) (ys:=xs.drop n) (by assumption) (fun x hx=>h1.lt x (List.mem_of_mem_take hx)) (fun x hx=>h1.lt x (List.mem_of_mem_drop hx)) (by simp; omega) (by simp; omega) hM).mono ?_
   rintro v51 w5 ⟨hB51,hf51,hl51⟩
   have hM51:=hM
   have hS51:=LL.size
   obtain ⟨LL,hM,hF,h1,h2,hn50,B2⟩:=ub7 hB51 LL hM hF h1 h2 hn50 B2
   have hn51:=hf51.nat hM51
   replace hf51:=hf51.less hS51
   exact on1 hB51 rfl (by assumption)
  refine zQ (fun _ _ _=>zV rfl rfl (zG (zA rfl rfl (on0 rfl)))) ?_
  refine zQ (fun _ _ _=>zV rfl rfl (zG (zA rfl rfl (on0 rfl)))) ?_
  refine jE (fun v w=>IsNat M w v (ys.take n)) jP (fun wq hR hst=>?_) ?_
  ·refine zM rfl (zM rfl (zG ?_))
   obtain ⟨LL,hM,hF,h1,h2,B2⟩:=ub6 hR LL hM hF h1 h2 B2
   refine jS (M:=M) (0) (n) rfl yu29 yI rfl h2.slc rfl ⟨_,rfl⟩ trivial (by omega) (by omega) (fun v54 hv54=>?_)
   have hn54:IsNat M wq v54 (ys.take n):=by have:=h2.sub (by omega) hv54; simpa using this
   exact on1 (xJ _) rfl (by assumption)
  refine zQ (fun _ _ _=>zV rfl rfl (zG (zA rfl rfl (on0 rfl)))) ?_
  refine zQ (fun _ _ _=>zV rfl rfl (zG (zA rfl rfl (on0 rfl)))) ?_
  refine jE (fun v w=>IsNat M w v (ys.drop n)) jP (fun wq hR hst=>?_) ?_
  ·refine zM rfl (zM rfl (zG ?_))
   obtain ⟨LL,hM,hF,h1,h2,B2⟩:=ub6 hR LL hM hF h1 h2 B2
   refine jS (M:=M) n (ys.length) rfl yu29 yI rfl h2.slc ⟨_,rfl⟩ rfl trivial (by omega) (by omega) (fun v57 hv57=>?_)
   have hn57:IsNat M wq v57 (ys.drop n):=by have:=h2.sub (by omega) hv57; rw [List.take_of_length_le (by simp)] at this; exact this
   exact on1 (xJ _) rfl (by assumption)
  refine jE (fun v w=>IsNats M w v [ys.take n,ys.drop n]) fA (fun wq hR hst=>?_) ?_
  ·refine xY rfl (fun v54 hn54=>?_)
   refine xY rfl (fun v57 hn57=>?_)
   refine zG ?_
   obtain ⟨LL,hM,hF,h1,h2,B2⟩:=ub6 hR LL hM hF h1 h2 B2
   refine yO rfl yu260 sz29 rfl rfl rfl (one2 (by first | rfl | exact yQ (by assumption) | exact yU (by assumption) | assumption) (by first | rfl | exact yQ (by assumption) | exact yU (by assumption) | assumption)) rfl (fun w6 b58 N58=>?_)
   have hBw6:=N58.below
   have nM58:=hM.new N58
   have B58:=N58.blk
   obtain ⟨LL,hM,hF,h1,h2,hn54,hn57,B2⟩:=ub8 hBw6 LL hM hF h1 h2 hn54 hn57 B2
   have hn58:=tO B58 nM58 (by assumption) (by assumption)
   have hB58:=hBw6
   exact on1 hB58 rfl (by assumption)
  refine jE (fun v w=>IsNat M w v (limbs (val (ys.take n) + val (ys.drop n)))) jP (fun wq hR hst=>?_) ?_
  ·refine xY rfl (fun v58 hn58=>?_)
   refine zG ?_
   obtain ⟨LL,hM,hF,h1,h2,B2⟩:=ub6 hR LL hM hF h1 h2 B2
   refine zK rfl (bo func279) rfl rfl ?_
   refine (sN (xs:=ys.take n) (ys:=ys.drop n) (by assumption) (fun x hx=>h2.lt x (List.mem_of_mem_take hx)) (fun x hx=>h2.lt x (List.mem_of_mem_drop hx)) (by simp; omega) (by simp; omega) hM).mono ?_
   rintro v59 w7 ⟨hB59,hf59,hl59⟩
   have hM59:=hM
   have hS59:=LL.size
   obtain ⟨LL,hM,hF,h1,h2,hn58,B2⟩:=ub7 hB59 LL hM hF h1 h2 hn58 B2
   have hn59:=hf59.nat hM59
   replace hf59:=hf59.less hS59
   exact on1 hB59 rfl (by assumption)
  refine jE (fun v w=>IsNat M w v (limbs ((val (xs.take n) + val (xs.drop n)) * (val (ys.take n) + val (ys.drop n))))) jP (fun wq hR hst=>?_) ?_
  ·refine zM rfl (xY rfl (fun v51 hn51=>?_))
   refine xY rfl (fun v59 hn59=>?_)
   refine zG ?_
   obtain ⟨LL,hM,hF,h1,h2,B2⟩:=ub6 hR LL hM hF h1 h2 B2
   refine zK rfl (bo func276) rfl rfl ?_
   refine (ih (K - 1) (by omega) M _ b _ _ (limbs (val (xs.take n) + val (xs.drop n))) (limbs (val (ys.take n) + val (ys.drop n))) B2 n2 (by assumption) (by assumption) (by omega) hM).mono ?_
   rintro v60 w8 ⟨hB60,hf60⟩
   have hM60:=hM
   have hS60:=LL.size
   obtain ⟨LL,hM,hF,h1,h2,hn51,hn59,B2⟩:=ub8 hB60 LL hM hF h1 h2 hn51 hn59 B2
   simp only [zP] at hf60
   have hn60:=hf60.nat hM60
   replace hf60:=hf60.less hS60
   exact on1 hB60 rfl (by assumption)
  refine zQ (fun _ _ _=>zV rfl rfl (zG (zA rfl rfl (on0 rfl)))) ?_
  refine zQ (fun _ _ _=>zV rfl rfl (zG (zA rfl rfl (on0 rfl)))) ?_
  refine jE (fun v w=>IsNats M w v [limbs (val (xs.take n) * val (ys.take n)),limbs (val (xs.drop n) * val (ys.drop n))]) fA (fun wq hR hst=>?_) ?_
  ·refine zM rfl (zM rfl (zG ?_))
   obtain ⟨LL,hM,hF,h1,h2,hn34,hn42,B2⟩:=ub8 hR LL hM hF h1 h2 hn34 hn42 B2
   refine yO rfl yu260 sz29 rfl rfl rfl (one2 (by first | rfl | exact yQ (by assumption) | exact yU (by assumption) | assumption) (by first | rfl | exact yQ (by assumption) | exact yU (by assumption) | assumption)) rfl (fun w9 b63 N63=>?_)
   have hBw9:=N63.below
   have nM63:=hM.new N63
   have B63:=N63.blk
   obtain ⟨LL,hM,hF,h1,h2,hn34,hn42,B2⟩:=ub8 hBw9 LL hM hF h1 h2 hn34 hn42 B2
   have hn63:=tO B63 nM63 (by assumption) (by assumption)
   have hB63:=hBw9
   exact on1 hB63 rfl (by assumption)
  refine gB (fun wq5 hR5 hpost5=>?_)
  refine zV rfl rfl (zV rfl rfl (zV rfl rfl (xY rfl (fun v60 hn60=>?_))))
  refine xY rfl (fun v63 hn63=>?_)
  refine zG ?_
  simp only [qZ,qY,qX,qW]
  obtain ⟨LL,hM,hF,h1,h2,hn34,hn42,B2⟩:=ub8 hR5 LL hM hF h1 h2 hn34 hn42 B2
  have ha0:val (xs.take n) < 4294967296 ^ K:=xU (fun x hx=>h1.lt x (List.mem_of_mem_take hx)) (by simp; omega)
  have ha1:val (xs.drop n) < 4294967296 ^ K:=xU (fun x hx=>h1.lt x (List.mem_of_mem_drop hx)) (by simp; omega)
  have hb0:val (ys.take n) < 4294967296 ^ K:=xU (fun x hx=>h2.lt x (List.mem_of_mem_take hx)) (by simp; omega)
  have hb1:val (ys.drop n) < 4294967296 ^ K:=xU (fun x hx=>h2.lt x (List.mem_of_mem_drop hx)) (by simp; omega)
  have hl60:=aR (dP ha0 ha1) (dP hb0 hb1)
  refine zK rfl (bo func279) rfl rfl ?_
  refine (sN (xs:=limbs (val (xs.take n) * val (ys.take n))) (ys:=limbs (val (xs.drop n) * val (ys.drop n))) hn63 (gP _) (gP _) (by omega) (by omega) hM).mono ?_
  rintro v64 w10 ⟨hB64,hf64,hl64⟩
  have hM64:=hM
  have hS64:=LL.size
  obtain ⟨LL,hM,hF,h1,h2,hn34,hn42,hn60,hn63,B2⟩:=ub10 hB64 LL hM hF h1 h2 hn34 hn42 hn60 hn63 B2
  have hn64:=hf64.nat hM64
  replace hf64:=hf64.less hS64
  refine zK rfl (bo func278) rfl rfl ?_
  refine (less_c hn60 hn64 (by omega) (by omega) hM).mono ?_
  rintro v65 w11 ⟨hB65,hf65⟩
  have hM65:=hM
  have hS65:=LL.size
  obtain ⟨LL,hM,hF,h1,h2,hn34,hn42,hn60,hn64,B2⟩:=ub10 hB65 LL hM hF h1 h2 hn34 hn42 hn60 hn64 B2
  simp only [zP,kara_mid] at hf65
  have hn65:=hf65.nat hM65
  replace hf65:=hf65.less hS65
  have hl65:=iV (jU ha0 hb1) (Nat.lt_of_lt_of_eq (jU ha1 hb0) rfl)
  refine zC rfl rfl (zD (zF (zB (zA rfl rfl (zA rfl rfl (zA rfl rfl (zK rfl (bo func280) rfl rfl ?_)))))))
  refine (zP2 (n:=n) hn65 rfl (by omega) (by omega) hM).mono ?_
  rintro v69 w12 ⟨hB69,hf69⟩
  have hM69:=hM
  have hS69:=LL.size
  obtain ⟨LL,hM,hF,h1,h2,hn34,hn42,hn65,B2⟩:=ub9 hB69 LL hM hF h1 h2 hn34 hn42 hn65 B2
  have hn69:=hf69.nat hM69
  replace hf69:=hf69.less hS69
  refine zA rfl rfl (zA rfl rfl (rP rfl rfl rfl (by omega) (zK rfl (bo func280) rfl rfl ?_)))
  refine (zP2 (n:=2 * n) hn42 (by omega) (by omega) (by omega) hM).mono ?_
  rintro v73 w13 ⟨hB73,hf73⟩
  have hM73:=hM
  have hS73:=LL.size
  obtain ⟨LL,hM,hF,h1,h2,hn34,hn42,hn69,B2⟩:=ub9 hB73 LL hM hF h1 h2 hn34 hn42 hn69 B2
  have hn73:=hf73.nat hM73
  replace hf73:=hf73.less hS73
  refine yO rfl yu260 sz29 rfl rfl rfl (one3 (by first | rfl | exact yQ (by assumption) | exact yU (by assumption) | assumption) (by first | rfl | exact yQ (by assumption) | exact yU (by assumption) | assumption) (by first | rfl | exact yQ (by assumption) | exact yU (by assumption) | assumption)) rfl (fun w14 b74 N74=>?_)
  have hBw14:=N74.below
  have nM74:=hM.new N74
  have B74:=N74.blk
  obtain ⟨LL,hM,hn34,hn69,hn73⟩:=ub5 hBw14 LL hM hn34 hn69 hn73
  have hn74:=nats3 B74 nM74 hn34 hn69 hn73
  refine zK rfl (bo func279) rfl rfl ?_
  refine (zW1 hn74 (by intro q hq; simp only [List.mem_cons,List.mem_nil_iff,or_false] at hq; rcases hq with rfl | rfl | rfl <;> (try simp only [List.length_append,List.length_replicate]) <;> omega) (by simp) hM).mono ?_
  rintro v75 w15 ⟨hB75,hf75⟩
  have hM75:=hM
  have hS75:=LL.size
  replace LL:=ub1 hB75 LL
  have hn75:=hf75.nat hM75
  replace hf75:=hf75.less hS75
  refine zC rfl rfl (zD (zY ?_))
  refine lv1 ⟨rfl,trivial⟩ ?_
  subst hFz
  have e:([limbs (val (xs.take n) * val (ys.take n)),List.replicate n 0 ++ limbs (val (xs.take n) * val (ys.drop n) + val (xs.drop n) * val (ys.take n)),List.replicate (2 * n) 0 ++ limbs (val (xs.drop n) * val (ys.drop n))].map val).sum=val xs * val ys:=by
    simp only [List.map_cons,List.map_nil,List.sum_cons,List.sum_nil,val_pad_up,zP,Nat.add_zero]
    rw [oQ hnl.1,oQ hnl.2.1,← kara,Nat.two_mul,Nat.pow_add]
  rw [e] at hf75
  exact ⟨LL.b,hf75⟩
theorem mul1_all:∀ (K:Nat),K≤1000000→yA8 K:=by
  intro K
  induction K using Nat.strongRecOn with
  | ind K ih =>
    intro hK M w b v u xs ys B2 n2 h1 h2 hl hM
    exact mul1_step hK (fun k hk=>ih k hk (by omega)) B2 n2 h1 h2 hl hM
theorem zT2 {v u:Value} {xs ys:List Nat} (h1:IsNat M w v xs) (h2:IsNat M w u ys) (hl1:xs.length≤1000000) (hl2:ys.length≤1000000) (hM:OkM M w) :
    CallsV prog 230 [v,u] w fun r w'=>Bel w.heap.size w w'∧Fresh 139 w w' r (limbs (val xs * val ys)):=by
 have hx:=yC xs h1.lt
 have hy:=yC ys h2.lt
 refine ci M func230 ntmps230 fun Fz hFz hF LL=>?_
 refine zF (zB (zC rfl rfl (zD (zF (zB (xB rfl zX3 (fun w1 b5 N5=>?_)))))))
 obtain ⟨hBw1,nF5,nM5,Lw1,B5⟩:=nz hF hM N5
 obtain ⟨LL,hM,hF,h1,h2⟩:=up5 Lw1 LL hM hF h1 h2
 refine zD (zF (zB (gZ rfl rfl (xO rfl rfl zX3 B5 (by first | rfl | assumption) (fun w2 Cw2 B5=>?_)))))
 obtain ⟨LL,hM,hF,h1,h2⟩:=up5 (lc LL Cw2 zO nF5) LL hM hF h1 h2
 refine zD (zF ?_)
 refine wd mixed 5 [4,7,9,11] (by decide +kernel) ?_
 apply zQ
 ·intro wq hR hst
  refine zV rfl rfl (zG ?_)
  replace B5:=B5.below hR
  refine zN rfl mP rfl B5 rfl ?_
  exact on0 rfl
 refine zQ (fun _ _ _=>zV rfl rfl (zG (zA rfl rfl (on0 rfl)))) ?_
 refine jE (fun v w=>IsNat (Ins b5 M) w v (limbs (val xs))) jP (fun wq hR hst=>?_) ?_
 ·refine zM rfl (zG ?_)
  obtain ⟨LL,hM,hF,h1,h2,B5⟩:=ub6 hR LL hM hF h1 h2 B5
  refine zK rfl (bo func252) rfl rfl ?_
  refine (qR (by assumption) (by omega) hM).mono ?_
  rintro v9 w3 ⟨hB9,hf9⟩
  have hM9:=hM
  have hS9:=LL.size
  obtain ⟨LL,hM,hF,h1,h2,B5⟩:=ub6 hB9 LL hM hF h1 h2 B5
  have hn9:=hf9.nat hM9
  replace hf9:=hf9.less hS9
  exact on1 hB9 rfl (by assumption)
 refine zQ (fun _ _ _=>zV rfl rfl (zG (zA rfl rfl (on0 rfl)))) ?_
 refine jE (fun v w=>IsNat (Ins b5 M) w v (limbs (val ys))) jP (fun wq hR hst=>?_) ?_
 ·refine zM rfl (zG ?_)
  obtain ⟨LL,hM,hF,h1,h2,B5⟩:=ub6 hR LL hM hF h1 h2 B5
  refine zK rfl (bo func252) rfl rfl ?_
  refine (qR (by assumption) (by omega) hM).mono ?_
  rintro v11 w4 ⟨hB11,hf11⟩
  have hM11:=hM
  have hS11:=LL.size
  obtain ⟨LL,hM,hF,h1,h2,B5⟩:=ub6 hB11 LL hM hF h1 h2 B5
  have hn11:=hf11.nat hM11
  replace hf11:=hf11.less hS11
  exact on1 hB11 rfl (by assumption)
 refine gB (fun wq3 hR3 hpost3=>?_)
 refine zV rfl rfl (zM rfl (xY rfl (fun v9 hn9=>?_)))
 refine xY rfl (fun v11 hn11=>?_)
 refine zG ?_
 simp only [qZ,qY,qX,qW]
 obtain ⟨LL,hM,B5⟩:=ub3 hR3 LL hM B5
 refine zK rfl (bo func276) rfl rfl ?_
 refine (mul1_all 1000000 (Nat.le_refl _) M _ b5 _ _ (limbs (val xs)) (limbs (val ys)) B5 (fun c=>nM5 c) (hn9.less fun k c=>yF c) (hn11.less fun k c=>yF c) (by omega) (fun k hk=>hM k (yF hk))).mono ?_
 rintro v12 w5 ⟨hB12,hf12⟩
 have hM12:=hM
 have hS12:=LL.size
 replace LL:=ub1 hB12 LL
 have hn12:=hf12.nat hM12
 replace hf12:=hf12.less hS12
 refine zC rfl rfl (zD (zY ?_))
 refine lv1 ⟨rfl,trivial⟩ ?_
 subst hFz
 simp only [zP] at hf12
 exact ⟨LL.b,hf12⟩
theorem len32_c {x:Nat} (hx:x < 4294967296) (hM:OkM M w) :
    CallsV prog 195 [.int .u32 (x:Int)] w fun r w'=>Bel w.heap.size w w'∧r = .int .i64 ((gE x:Nat):Int):=by
 refine ci M func195 ntmps195 fun Fz hFz hF LL=>?_
 refine zF (zB (zC rfl rfl (zD (zF (zF (zB (zA rfl rfl (kT rfl rfl rfl (zD ?_)))))))))
 refine zU rfl (fun hc0=>?_) (fun hc0=>?_)
 ·refine zF (zB (zA rfl rfl (xW rfl rfl rfl (by simp only [IntKind.bits]; omega) ?_)))
  rw [show (2 ^ Int.toNat 16:Nat)=65536 from rfl]
  refine zC rfl rfl (zD (zB (zC rfl rfl (zD (zF (zF (zB (zA rfl rfl (kT rfl rfl rfl (zD ?_))))))))))
  refine zU rfl (fun hc1=>?_) (fun hc1=>?_)
  ·refine zF (zB (zA rfl rfl (xW rfl rfl rfl (by simp only [IntKind.bits]; omega) ?_)))
   rw [show (2 ^ Int.toNat 8:Nat)=256 from rfl]
   refine zC rfl rfl (zD (zB (zA rfl rfl (yV rfl rfl rfl (by omega) (zC rfl rfl (zD (zF (zB (zA rfl rfl (zA rfl rfl (mL rfl yu139 yu5 rfl (by omega) (iF rfl underlying9 rfl (by decide +kernel) rfl (by omega) (fun hbw=>?_)))))))))))))
   refine iD rfl yu5 yu3 rfl (by omega) (yV rfl rfl rfl (by omega) (zC rfl rfl (zD (zY ?_))))
   refine lv1 ⟨rfl,trivial⟩ ?_
   subst hFz
   have e1:=fH (x:=x) (k:=16) (by omega)
   rw [show (2:Nat) ^ 16=65536 from rfl] at e1
   have e2:=fH (x:=x / 65536) (k:=8) (by omega)
   rw [show (2:Nat) ^ 8=256 from rfl] at e2
   exact ⟨LL.b,by congr 1; omega⟩
  ·refine yE (zF (zB (zA rfl rfl (zA rfl rfl (mL rfl yu139 yu5 rfl (by omega) (iF rfl underlying9 rfl (by decide +kernel) rfl (by omega) (fun hbw=>?_)))))))
   refine iD rfl yu5 yu3 rfl (by omega) (yV rfl rfl rfl (by omega) (zC rfl rfl (zD (zY ?_))))
   refine lv1 ⟨rfl,trivial⟩ ?_
   subst hFz
   have e1:=fH (x:=x) (k:=16) (by omega)
   rw [show (2:Nat) ^ 16=65536 from rfl] at e1
   exact ⟨LL.b,by congr 1; omega⟩
 ·refine yE (zF (zF (zB (zA rfl rfl (kT rfl rfl rfl (zD ?_))))))
  refine zU rfl (fun hc2=>?_) (fun hc2=>?_)
  ·refine zF (zB (zA rfl rfl (xW rfl rfl rfl (by simp only [IntKind.bits]; omega) ?_)))
   rw [show (2 ^ Int.toNat 8:Nat)=256 from rfl]
   refine zC rfl rfl (zD (zB (zA rfl rfl (yV rfl rfl rfl (by omega) (zC rfl rfl (zD (zF (zB (zA rfl rfl (zA rfl rfl (mL rfl yu139 yu5 rfl (by omega) (iF rfl underlying9 rfl (by decide +kernel) rfl (by omega) (fun hbw=>?_)))))))))))))
   refine iD rfl yu5 yu3 rfl (by omega) (yV rfl rfl rfl (by omega) (zC rfl rfl (zD (zY ?_))))
   refine lv1 ⟨rfl,trivial⟩ ?_
   subst hFz
   have e2:=fH (x:=x) (k:=8) (by omega)
   rw [show (2:Nat) ^ 8=256 from rfl] at e2
   exact ⟨LL.b,by congr 1; omega⟩
  ·refine yE (zF (zB (zA rfl rfl (zA rfl rfl (mL rfl yu139 yu5 rfl (by omega) (iF rfl underlying9 rfl (by decide +kernel) rfl (by omega) (fun hbw=>?_)))))))
   refine iD rfl yu5 yu3 rfl (by omega) (yV rfl rfl rfl (by omega) (zC rfl rfl (zD (zY ?_))))
   refine lv1 ⟨rfl,trivial⟩ ?_
   subst hFz
   exact ⟨LL.b,by congr 1; omega⟩
theorem ext317:ExtF prog 317 add64Entry:=⟨_,func317,by kernel_rfl,by kernel_rfl,by kernel_rfl,by kernel_rfl⟩
def encB (p:Nat × Nat):List Value:=[.int .i64 (p.1:Int),.int .u32 (p.2:Int)]
theorem back1_c {M:Nat→Prop} {w0:World} {b:Nat} {v:Value} {xs:List Nat} (B1:Blk w0 b 29 [v]) (n1:¬ M b) (h1:IsNat M w0 v xs) (hl1:xs.length≤1099511627776) (hM:OkM M w0) :
    IterC prog 315 [.pointer (some ⟨b,0,none⟩)] M NoT w0 ((List.range xs.length).map (fun j=>(xs.length - 1 - j,xs.getD (xs.length - 1 - j) 0))) encB (fun _=>True):=by
 intro n l w J X hn0 hn hdr hJ hkeep hJd hXd hy
 have B1':=B1
 have h1':=h1
 have hM':=hM
 replace B1:=(hkeep _ _ hJ).blk B1 n1
 replace h1:=(hkeep _ _ hJ).nat h1
 replace hM:=(hkeep _ _ hJ).okM hM
 obtain ⟨Fz,hFz⟩:∃ Fz:Nat→Prop,Fz=fun _=>False:=⟨_,rfl⟩
 have hFa:∀ w,FOk Fz w:=by subst hFz; exact fun _ _ h=>h.elim
 have hF:=hFa w
 refine jL func315 rfl ntmps315 rfl ?_
 refine zF (zB (zN rfl yS rfl B1 rfl ?_))
 refine yT rfl yu29 rfl ?_
 refine jC rfl rfl rfl (by omega) (zC rfl rfl (zD (zX ?_)))
 refine xT (σ:=Nat) [(0,_),(1,_)] (fun s=>[(3,.int .i64 ((xs.length:Int) - 1 - ((s:Nat):Int)))]) (fun s w1=>J ((List.range s).map (fun j=>(xs.length - 1 - j,xs.getD (xs.length - 1 - j) 0))) w1∧n≤w1.heap.size∧s≤xs.length) (fun s=>xs.length - s) (0) (zR rfl (by show Value.int .i64 _=Value.int .i64 _; congr 1; omega) (zI rfl (zI rfl yB))) ?_ (fun s w1 hJ=>?_)
 · exact ⟨hJ,hn,by omega⟩
 ·obtain ⟨hJ1,hn1,hs⟩:=hJ
  have hk:=hkeep _ _ hJ1
  replace B1:=hk.blk B1' n1
  replace h1:=hk.nat h1'
  have hF:=hFa w1
  have hBJ:=Bel.refl w1.heap.size w1
  refine zF (zF (zB (zA rfl rfl (kT rfl rfl rfl (zD ?_)))))
  refine zU rfl (fun hc0=>?_) (fun hc0=>?_)
  ·have hs2:s < xs.length:=by omega
   have hb1:=h1.lim (xs.length - 1 - s)
   have hev:encB (xs.length - 1 - s,xs.getD (xs.length - 1 - s) 0)=[.int .i64 ((xs.length:Int) - 1 - (s:Int)),lw (xs.getD (xs.length - 1 - s) 0)]:=by unfold encB lw; congr 2; dsimp only; omega
   refine yE (zF (zX (zF (zB (zA rfl rfl (zA rfl rfl (zN rfl yS rfl B1 rfl (zA rfl rfl (jI (xs.length - 1 - s) rfl yu29 yI rfl rfl (by assumption) (by omega) (by omega) (fun b15 o15 hc15 hb15=>?_))))))))))
   refine yX rfl xM rfl hc15 (kR rfl rfl rfl ?_)
   rw [← hev]
   refine (hy _ _ _ _ ((wE _ hs2).choose_spec) (hJd _ _ _ hJ1 (Drift.of_below hBJ hn1)) (Nat.le_trans hn1 hBJ.size)).mono ?_
   rintro v17 w2 ⟨hn2,_,hyn⟩
   refine aQ rfl rfl (zD ?_)
   refine uP rfl (fun hc1=>?_) (fun hc1=>?_)
   ·refine zY ?_
    refine xF ⟨[],trivial,?_⟩
    dsimp only [xG]
    right
    rcases hyn with ⟨e,_⟩ | ⟨_,h⟩
    · subst e; simp at hc1
    · exact h
   ·refine yE (zB (zA rfl rfl (jC rfl rfl rfl (by omega) (zC rfl rfl (zD ?_)))))
    refine ⟨rfl,s + 1,(zR rfl (by show Value.int .i64 _=Value.int .i64 _; congr 1; omega) (zI rfl (zI rfl yB))),?_,?_⟩
    exact ⟨by
      rw [nJ]
      rcases hyn with ⟨_,h⟩ | ⟨e,_⟩
      · exact h
      · subst e; simp at hc1,hn2,by omega⟩
    omega
  ·refine xI (xK ?_)
   refine xF ⟨[],trivial,?_⟩
   dsimp only [xG]
   left
   obtain rfl:s=xs.length:=by omega
   exact ⟨hJ1,trivial⟩
theorem back_c {v:Value} {xs:List Nat} (h1:IsNat M w v xs) (hl1:xs.length≤1099511627776) (hM:OkM M w) :
    CallsV prog 309 [v] w fun r w'=>Bel w.heap.size w w'∧∃ cap,r = .func (.func 315) #[] cap∧IterC prog 315 cap.toList M NoT w' ((List.range xs.length).map (fun j=>(xs.length - 1 - j,xs.getD (xs.length - 1 - j) 0))) encB (fun _=>True):=by
 refine ci M func309 ntmps309 fun Fz hFz hF LL=>?_
 refine zF (zB (gJ rfl rfl (fun w1 b1 N1=>?_)))
 obtain ⟨_,nF1,nM1,Lw1,B1⟩:=nz hF hM N1
 obtain ⟨LL,hM,h1⟩:=up3 Lw1 LL hM h1
 rw [h1.one] at B1
 refine zC rfl rfl (zD (zF (zB (gZ rfl rfl (zC rfl rfl (zD (zY ?_)))))))
 refine lv1 ⟨rfl,trivial⟩ ?_
 subst hFz
 refine ⟨LL.b,_,rfl,?_⟩
 exact back1_c B1 (fun c=>nM1 c) (h1.less fun k c=>yF c) hl1 (fun k c=>hM k (yF c))
theorem short_c {v:Value} {xs:List Nat} {n:Nat} (h1:IsNat M w v xs) (hl1:xs.length≤1000000000) (hn:n < 4294967296) (hM:OkM M w) :
    CallsV prog 299 [v,.int .u32 (n:Int)] w fun r w'=>Bel w.heap.size w w'∧∃ q,r = .tuple #[q,.int .u32 ((if n=0 then 0 else val xs % n:Nat):Int),.int .i64 (if n=0 then 30 else 0)]∧Fresh 139 w w' q (limbs (val xs / n)):=by
 have Mk:Marks M w.heap.size [] w:=gK
 refine ci M func299 ntmps299 fun Fz hFz hF LL=>?_
 refine zF (zB (gJ rfl rfl (fun w1 b3 N3=>?_)))
 obtain ⟨_,nF3,nM3,Lw1,B3⟩:=nz hF hM N3
 obtain ⟨LL,hM,hF,h1,Mk⟩:=up5 Lw1 LL hM hF h1 Mk
 refine xB rfl sz29 (fun w2 b4 N4=>?_)
 obtain ⟨hBw2,nF4,nM4,Lw2,B4⟩:=nz hF hM N4
 obtain ⟨B3,ne3_4⟩:=bn B3 N4
 obtain ⟨LL,hM,hF,h1,Mk⟩:=up5 Lw2 LL hM hF h1 Mk
 refine zC rfl rfl (zC rfl rfl (zD (zF (zF (zB (zN rfl xM rfl B3 rfl (qI rfl rfl rfl (zD ?_))))))))
 refine zU rfl (fun hc0=>?_) (fun hc0=>?_)
 ·have hn0:n=0:=by omega
  refine zF (zB (xO rfl rfl sz29 B4 (by first | rfl | exact yU (by assumption) | assumption | exact yQ (by assumption)) (fun w3 Cw3 B4=>?_)))
  obtain ⟨LL,Mk⟩:=up2 (lc LL Cw3 zO nF4) LL Mk
  refine zC rfl rfl (zC rfl rfl (zD (zY ?_)))
  refine jK Mk (fun wz hz=>⟨[_,_,_],⟨⟨_,rfl,bK yS (B4.drift hz (fun c=>c)) rfl⟩,rfl,rfl,trivial⟩,?_⟩)
  dsimp only [xG]
  subst hFz; subst hn0
  exact ⟨SL.Bel.drift (LL.b) hz (Nat.le_refl _),.slice none 0 0,by simp,by rw [Nat.div_zero,yW]; exact Fresh.nil⟩
 ·have hn0:0 < n:=by omega
  refine yE (zF (zB (zA rfl rfl ?_)))
  refine yT rfl yu29 rfl ?_
  refine kG (xs.length) (xs.length) rfl yu29 yI rfl rfl rfl (by omega) (by omega) (by omega) (by omega) (by omega) (fun w4 b14 N14=>?_)
  obtain ⟨hBw4,nF14,nM14,Lw4,B14⟩:=nz hF hM N14
  obtain ⟨B3,ne3_14⟩:=bn B3 N14
  obtain ⟨B4,ne4_14⟩:=bn B4 N14
  obtain ⟨LL,hM,hF,h1,Mk⟩:=up5 Lw4 LL hM hF h1 Mk
  replace B14:Blk w4 b14 139 ((List.replicate xs.length 0).map lw):=by simpa [lw] using B14
  refine xO rfl rfl sz29 B4 (by first | rfl | exact yU (by assumption) | assumption | exact yQ (by assumption)) (fun w5 Cw5 B4=>?_)
  obtain ⟨LL,hM,hF,h1,Mk⟩:=up5 (lc LL Cw5 (.inr zO) nF4) LL hM hF h1 Mk
  replace B3:=B3.other Cw5 ne3_4
  replace B14:=B14.other Cw5 ne4_14.symm
  refine zD (zF (zB (xB rfl dY (fun w6 b7 N7=>?_))))
  obtain ⟨hBw6,nF7,nM7,Lw6,B7⟩:=nz hF hM N7
  obtain ⟨B3,ne3_7⟩:=bn B3 N7
  obtain ⟨B4,ne4_7⟩:=bn B4 N7
  have lt14_7:=B14.lt
  replace B14:=B14.below hBw6
  have ne7_14:b7 ≠ b14:=by have:=N7.at_; omega
  obtain ⟨LL,hM,h1,Mk⟩:=up4 Lw6 LL hM h1 Mk
  refine xO rfl rfl dY B7 (by first | rfl | exact yU (by assumption) | assumption | exact yQ (by assumption)) (fun w7 Cw7 B7=>?_)
  obtain ⟨LL,hM,h1,Mk⟩:=up4 (lc LL Cw7 zO nF7) LL hM h1 Mk
  replace B3:=B3.other Cw7 ne3_7
  replace B4:=B4.other Cw7 ne4_7
  replace B14:=B14.other Cw7 ne7_14.symm
  refine zD (zF (zF (zB (zA rfl rfl (zK rfl (bo func309) rfl rfl ?_)))))
  refine (back_c (by assumption) (by omega) hM).mono ?_
  rintro v16 w8 ⟨hB16,cap16,rfl,hit16⟩
  obtain ⟨LL,hM,h1,Mk,B3,B4,B14,B7⟩:=ub8 hB16 LL hM h1 Mk B3 B4 B14 B7
  refine zD (zX ?_)
  have hMS0:=hM
  have hszLL:=LL.size
  have Mold0:=Mk.old (Nat.le_refl _)
  refine dT (M:=(Ins b7 (Ins b14 (Ins b4 (Ins b3 M))))) (T:=NoT) ((List.range xs.length).map (fun j=>(xs.length - 1 - j,xs.getD (xs.length - 1 - j) 0))) (encB) rfl (bo func315) (hit16) noT (trivial) (fun _=>rfl) rfl [(3,_),(4,_),(7,_)] (zI rfl (zI rfl (zI rfl yB))) (fun pre w9=>Le Fz (Ins b7 (Ins b14 (Ins b4 (Ins b3 M)))) w8 (Ins b7 (Ins b14 (Ins b4 (Ins b3 M)))) w9∧Blk w9 b3 139 [.int .u32 (n:Int)]∧Blk w9 b4 29 [.slice (some ⟨b14,0,none⟩) xs.length xs.length]∧∃ (o:Nat) (zs:List Nat),Blk w9 b7 168 [.int .u64 (o:Int)]∧Blk w9 b14 139 (zs.map lw)∧zs.length=xs.length∧(∀ z ∈ zs,z < 4294967296)∧o=val (xs.drop (xs.length - pre.length)) % n∧val zs=4294967296 ^ (xs.length - pre.length) * (val (xs.drop (xs.length - pre.length)) / n)∧∀ j,j < xs.length - pre.length→zs.getD j 0=0) (fun _ _=>False) (fun _=>False) (⟨Le.refl _ _ _,B3,B4,0,_,B7,B14,by simp,by intro z hz; have:=(List.mem_replicate.1 hz).2; omega,by simp [val],by simp [val,uV],fun j _=>by simp [List.getD_eq_getElem?_getD,List.getElem?_replicate]; split <;> rfl⟩) (fun pre w h=>h.1.keep) (fun pre w1 w2 hJ hd=>(by obtain ⟨h1,h2,h3,o,zs,h4,h5,h6⟩:=hJ; exact ⟨h1.drift0 hd (Nat.le_refl _),h2.drift hd (fun c=>c),h3.drift hd (fun c=>c),o,zs,h4.drift hd (fun c=>c),h5.drift hd (fun c=>c),h6⟩)) (fun _ _ _ h _=>h) (fun _ _ h _=>h) (fun _ _ _ _=>trivial) ?_ ?_ (fun _ _ h _=>h.elim) (fun _ h _=>h.elim)
  ·intro pre x post l b w9 ρ δ hx hJ hnl hnb hl hb hbc
   obtain ⟨LS0,B3,B4,o,zs,B7,B14,hzl,hzlt,ho,hzv,hz0⟩:=hJ
   obtain ⟨h1,Mk⟩:=up2 LS0 h1 Mk
   have RL:Rec (Ins b7 (Ins b14 (Ins b4 (Ins b3 M)))) w9 l (.loop ρ):=⟨hl,(gG hMS0 hnl)⟩
   have RB:Rec (Ins b7 (Ins b14 (Ins b4 (Ins b3 M)))) w9 b δ:=⟨hb,(gG hMS0 hnb)⟩
   have hs1:w9.heap.size≤w9.heap.size:=Nat.le_refl _
   obtain ⟨hk,hxe⟩:=oZ hx
   have hx1:x.1=xs.length - 1 - pre.length:=by rw [hxe]
   have hx2:x.2=xs.getD x.1 0:=by rw [hx1,hxe]
   have hxb:x.2 < 4294967296:=by rw [hx2]; exact h1.lim _
   have hon:o < n:=by rw [ho]; exact Nat.mod_lt _ hn0
   have hov:(o * 2 ^ (32:Int).toNat % 18446744073709551616 ||| x.2)=o * 4294967296 + x.2:=by
     have e:(2:Nat) ^ (32:Int).toNat=4294967296:=by decide
     rw [e,Nat.mod_eq_of_lt (by omega),zT0 _ _ (by omega)]
   rw [show xs.length - pre.length=x.1 + 1 by omega] at ho hzv hz0
   have hst:=short_step hn0 hxb ho hzv
   rw [show x.2 + 4294967296 * val (xs.drop (x.1 + 1))=val (xs.drop x.1) by rw [kK (show x.1 < xs.length by omega),hx2]] at hst
   refine zF (zB (zC rfl rfl (zD (zB (zC rfl rfl (zD ?_))))))
   refine ⟨RL.at_,RB.at_,rfl,fun w10 ρ' δ' hdr hl' hb' hbc'=>?_⟩
   replace LS0:=LS0.drift0 hdr (Nat.le_refl _)
   replace hs1:=Nat.le_trans hs1 hdr.size
   replace RL:Rec (Ins b7 (Ins b14 (Ins b4 (Ins b3 M)))) w10 l (.loop ρ'):=⟨hl',RL.not⟩
   replace RB:Rec (Ins b7 (Ins b14 (Ins b4 (Ins b3 M)))) w10 b δ':=⟨hb',RB.not⟩
   replace B3:=B3.drift hdr (fun c=>c)
   replace B4:=B4.drift hdr (fun c=>c)
   replace B7:=B7.drift hdr (fun c=>c)
   replace B14:=B14.drift hdr (fun c=>c)
   refine zX (zF (zB (zN rfl aT rfl B7 rfl (qM (m:=18446744073709551616) rfl rfl rfl (by simp only [IntKind.bits]; omega) rfl (.inl rfl) (zA rfl rfl (xC rfl yu139 yu168 rfl (by omega) (uE rfl rfl rfl (by simp only [IntKind.bits]; omega) (by simp only [IntKind.bits]; omega) (.inl rfl) (xO rfl rfl dY B7 (by first | rfl | exact yU (by assumption) | assumption | exact yQ (by assumption)) (fun w11 Cw11 B7=>?_)))))))))
   have Lw11:=lc LS0 Cw11 zO nF7
   obtain ⟨LS0,RL,RB⟩:=up3 Lw11 LS0 RL RB
   replace hs1:=Nat.le_trans hs1 Lw11.size
   replace B3:=B3.other Cw11 ne3_7
   replace B4:=B4.other Cw11 ne4_7
   replace B14:=B14.other Cw11 ne7_14.symm
   replace B7:Blk w11 b7 168 [.int .u64 ((o * 4294967296 + x.2:Nat):Int)]:=by rw [← hov]; exact B7
   refine zD ?_
   refine bP (R:=Rs (·=b14)) (R':=Rb) (st:=some (12,(fun w=>Blk w b14 139 (zs.map lw)),(fun w=>Blk w b14 139 ((zs.set x.1 ((o * 4294967296 + x.2) / n % 4294967296)).map lw)))) mixed 13 [4,7,34] (by decide +kernel) bG lX (dD _) (fun _ _ _ h=>by cases h; exact ⟨by decide,B14,fun _ _ h r=>h.below r,fun _ _ h r=>h.below r,_,rfl⟩) ?_
   apply zS rfl
   ·intro wq hR hst
    refine zV rfl rfl (zG ?_)
    obtain ⟨LS0,RL,RB⟩:=up3 (lqc LS0 hR (.inr zO) nF14) LS0 RL RB
    replace B4:=B4.rs hR ne4_14
    exact zN rfl yS rfl B4 rfl (on0 rfl)
   apply zS rfl
   ·intro wq hR hst
    refine zV rfl rfl (zG ?_)
    obtain ⟨LS0,RL,RB⟩:=up3 (lqc LS0 hR (.inr zO) nF14) LS0 RL RB
    exact zA rfl rfl (on0 rfl)
   apply zS rfl
   ·intro wq hR hst
    refine zV rfl rfl (zG ?_)
    obtain ⟨LS0,RL,RB⟩:=up3 (lqc LS0 hR (.inr zO) nF14) LS0 RL RB
    replace B7:=B7.rs hR ne7_14
    exact zN rfl aT rfl B7 rfl (on0 rfl)
   apply zS rfl
   ·intro wq hR hst
    refine zV rfl rfl (zG ?_)
    obtain ⟨LS0,RL,RB⟩:=up3 (lqc LS0 hR (.inr zO) nF14) LS0 RL RB
    replace B3:=B3.rs hR ne3_14
    exact zN rfl xM rfl B3 rfl (on0 rfl)
   apply zS rfl
   ·intro wq hR hst
    refine zM rfl (zG ?_)
    obtain ⟨LS0,RL,RB⟩:=up3 (lqc LS0 hR (.inr zO) nF14) LS0 RL RB
    exact xC rfl yu139 yu168 rfl (by omega) (on0 rfl)
   apply zS rfl
   ·intro wq hR hst
    refine zM rfl (zM rfl (zG ?_))
    obtain ⟨LS0,RL,RB⟩:=up3 (lqc LS0 hR (.inr zO) nF14) LS0 RL RB
    exact nU rfl rfl rfl (by omega) (by omega) (on0 rfl)
   apply zS rfl
   ·intro wq hR hst
    refine zM rfl (zG ?_)
    obtain ⟨LS0,RL,RB⟩:=up3 (lqc LS0 hR (.inr zO) nF14) LS0 RL RB
    exact jA rfl yu168 yu139 rfl (on0 rfl)
   apply zS rfl
   ·intro wq hR hst
    refine zV rfl rfl (zG ?_)
    obtain ⟨LS0,RL,RB⟩:=up3 (lqc LS0 hR (.inr zO) nF14) LS0 RL RB
    replace B7:=B7.rs hR ne7_14
    exact zN rfl aT rfl B7 rfl (on0 rfl)
   apply zS rfl
   ·intro wq hR hst
    refine zV rfl rfl (zG ?_)
    obtain ⟨LS0,RL,RB⟩:=up3 (lqc LS0 hR (.inr zO) nF14) LS0 RL RB
    replace B3:=B3.rs hR ne3_14
    exact zN rfl xM rfl B3 rfl (on0 rfl)
   apply zS rfl
   ·intro wq hR hst
    refine zM rfl (zG ?_)
    obtain ⟨LS0,RL,RB⟩:=up3 (lqc LS0 hR (.inr zO) nF14) LS0 RL RB
    exact xC rfl yu139 yu168 rfl (by omega) (on0 rfl)
   apply zS rfl
   ·intro wq hR hst
    refine zM rfl (zM rfl (zG ?_))
    obtain ⟨LS0,RL,RB⟩:=up3 (lqc LS0 hR (.inr zO) nF14) LS0 RL RB
    exact ops_remu rfl rfl rfl (by omega) (on0 rfl)
   apply zS rfl
   ·intro wq hR hst
    refine zM rfl (zM rfl (zG ?_))
    obtain ⟨LS0,RL,RB⟩:=up3 (lqc LS0 hR (.inr zO) nF14) LS0 RL RB
    exact qN (x.1) rfl yu29 yI rfl rfl rfl (by omega) (on0 rfl)
   refine fD rfl (fun wq hR hp=>?_) ?_
   ·refine zM rfl (zM rfl (zG ?_))
    obtain ⟨LS0,RL,RB⟩:=up3 (lqc LS0 hR (.inr zO) nF14) LS0 RL RB
    replace B14:=hp
    exact xZ (i:=x.1) rfl rfl yI B14 rfl (by simp; omega) (fun wz C14 BN=>(zD ⟨rfl,dE C14,by rw [List.map_set]; exact BN⟩))
   refine gB (fun wq9 hR9 hpost9=>?_)
   refine zV rfl rfl (zV rfl rfl (zM rfl (zG ?_)))
   simp only [qZ,qY,qX,qW]
   have Lq:=lqc LS0 hR9 (.inr zO) nF14
   obtain ⟨LS0,RL,RB⟩:=up3 Lq LS0 RL RB
   replace hs1:=Nat.le_trans hs1 Lq.size
   replace B3:=B3.rs hR9 ne3_14
   replace B4:=B4.rs hR9 ne4_14
   replace B7:=B7.rs hR9 ne7_14
   have B14:=hpost9 _ _ _ rfl
   refine xO rfl rfl dY B7 (by first | rfl | exact yU (by assumption) | assumption | exact yQ (by assumption)) (fun w12 Cw12 B7=>?_)
   have Lw12:=lc LS0 Cw12 zO nF7
   obtain ⟨LS0,RL,RB⟩:=up3 Lw12 LS0 RL RB
   replace hs1:=Nat.le_trans hs1 Lw12.size
   replace B3:=B3.other Cw12 ne3_7
   replace B4:=B4.other Cw12 ne4_7
   replace B14:=B14.other Cw12 ne7_14.symm
   refine zD ?_
   refine ⟨RL.at_,RB.at_,hs1,fun _ c=>c.elim,?_⟩
   have hvs:=bQ (zs:=zs) (j:=x.1) ((o * 4294967296 + x.2) / n % 4294967296) (by omega)
   rw [hz0 x.1 (by omega),Nat.mod_eq_of_lt hst.2.2] at hvs
   exact ⟨LS0,B3,B4,_,zs.set x.1 ((o * 4294967296 + x.2) / n % 4294967296),B7,B14,by simp [hzl],kN hzlt (Nat.mod_lt _ (by omega)),by
     rw [List.length_append,List.length_singleton,show xs.length - (pre.length + 1)=x.1 by omega]; exact hst.2.1,by
     rw [List.length_append,List.length_singleton,show xs.length - (pre.length + 1)=x.1 by omega,← hst.1,Nat.mod_eq_of_lt hst.2.2]; omega,fun j hj=>by
     rw [List.length_append,List.length_singleton] at hj
     rw [qH (by omega)]; exact hz0 j (by omega)⟩
  ·intro w13 hJ hZ hDd
   obtain ⟨LS0,B3,B4,o,zs,B7,B14,hzl,hzlt,ho,hzv,hz0⟩:=hJ
   obtain ⟨LL,h1,Mk⟩:=up3 LS0 LL h1 Mk
   have hdd:=hDd _ rfl rfl
   have RD:Rec (Ins b7 (Ins b14 (Ins b4 (Ins b3 M)))) w13 w8.heap.size (.deferred (some [])):=⟨hdd,(gG hMS0 (Nat.le_refl _))⟩
   replace Mk:=Mk.cons hszLL RD Mold0
   simp only [List.length_map,List.length_range,Nat.sub_self,List.drop_zero,Nat.pow_zero,Nat.one_mul] at ho hzv
   have hzb:val zs=val xs / n:=hzv
   refine zF ?_
   have hlt4:=B4.lt
   have hszd:=LL.size
   refine bP (R:=Rs (·=b4)) (R':=Rb) (st:=some (4,(fun w=>Blk w b4 29 [.slice (some ⟨b14,0,none⟩) xs.length xs.length]),(fun w=>∃ v,Blk w b4 29 [v]∧Fresh 139 w13 w v (limbs (val xs / n))))) mixed 5 [4,5,6,39] (by decide +kernel) bG lX (dD _) (fun _ _ _ h=>by cases h; exact ⟨by decide,B4,fun _ _ h r=>h.below r,fun _ _ ⟨v,h1,h2⟩ r=>⟨v,h1.below r,h2.below r⟩,_,rfl⟩) ?_
   apply zS rfl
   ·intro wq hR hst
    refine zV rfl rfl (zG ?_)
    obtain ⟨LS0,Mk⟩:=up2 (lqc LS0 hR (.inr (.inr zO)) nF4) LS0 Mk
    replace B4:=(hst.2 (by decide +kernel))
    exact zN rfl yS rfl B4 rfl (on0 rfl)
   refine gI rfl (fun v w=>Fresh 139 w13 w v (limbs (val xs / n))) (fun v a b h r=>h.rs hlt4 r) (fun wq hR hst=>?_) ?_
   ·refine zM rfl (zG ?_)
    obtain ⟨LS0,Mk⟩:=up2 (lqc LS0 hR (.inr (.inr zO)) nF4) LS0 Mk
    replace B14:=B14.rs hR ne4_14.symm
    refine zK rfl (bo func252) rfl rfl ?_
    have hq:IsNat (fun _=>False) wq (.slice (some ⟨b14,0,none⟩) xs.length xs.length) zs:=by have:=fG (M:=fun _=>False) B14 (fun c=>c) rfl (by omega) hzlt; rw [hzl] at this; exact this
    refine (qR (xs:=zs) hq (by omega) (fun _ c=>c.elim)).mono ?_
    rintro v37 w14 ⟨hB37,hf37⟩
    obtain ⟨LS0,Mk⟩:=ub2 hB37 LS0 Mk
    rw [hzb] at hf37
    exact on1 hB37 rfl (hf37.less hR.2.2.2.1)
   apply zS rfl
   ·intro wq hR hst
    refine zV rfl rfl (zG ?_)
    obtain ⟨LS0,Mk⟩:=up2 (lqc LS0 hR (.inr (.inr zO)) nF4) LS0 Mk
    replace B7:=B7.rs hR ne4_7.symm
    exact zN rfl aT rfl B7 rfl (on0 rfl)
   apply zS rfl
   ·intro wq hR hst
    refine zM rfl (zG ?_)
    obtain ⟨LS0,Mk⟩:=up2 (lqc LS0 hR (.inr (.inr zO)) nF4) LS0 Mk
    exact jA rfl yu168 yu139 rfl (on0 rfl)
   refine fD rfl (fun wq hR hp=>?_) ?_
   ·refine zV rfl rfl (xY rfl (fun v37 hn37=>?_))
    refine zG ?_
    obtain ⟨LS0,Mk⟩:=up2 (lqc LS0 hR (.inr (.inr zO)) nF4) LS0 Mk
    replace B4:=hp
    have ho37:=hn37.own
    refine xO rfl rfl sz29 B4 (by first | rfl | exact yU (by assumption) | assumption | exact yQ (by assumption)) (fun w15 Cw15 B4=>?_)
    obtain ⟨LS0,Mk⟩:=up2 (lc LS0 Cw15 (.inr (.inr zO)) nF4) LS0 Mk
    exact zD ⟨rfl,dE Cw15,_,B4,hn37.rs hlt4 (dE Cw15)⟩
   refine gB (fun wq10 hR10 hpost10=>?_)
   refine zV rfl rfl (zV rfl rfl (zV rfl rfl (zM rfl (zG ?_))))
   simp only [qZ,qY,qX,qW]
   obtain ⟨LL,LS0,Mk⟩:=up3 (lqc LL hR10 (.inr (.inr zO)) nF4) LL LS0 Mk
   obtain ⟨q37,B4,hf37⟩:=hpost10 _ _ _ rfl
   refine zC rfl rfl (zC rfl rfl (zD (zY ?_)))
   refine jK Mk (fun wz hz=>⟨[_,_,_],⟨⟨_,rfl,bK yS (B4.drift hz (fun c=>c)) rfl⟩,rfl,rfl,trivial⟩,?_⟩)
   dsimp only [xG]
   have e1:o % 4294967296=val xs % n:=by rw [← ho]; exact Nat.mod_eq_of_lt (by have:=Nat.mod_lt (val xs) hn0; omega)
   have hsz:=LL.size
   subst hFz
   exact ⟨SL.Bel.drift (LL.b) hz (Nat.le_refl _),_,by rw [if_neg (by omega),if_neg (by omega),e1],(hf37.less (by assumption)).drift hz⟩
theorem mul64_c {a b:Nat} (ha:a < 4294967296) (hb:b < 4294967296) (hM:OkM M w) :
    CallsV prog 316 [.int .u64 (a:Int),.int .u64 (b:Int)] w fun r w'=>Bel w.heap.size w w'∧r = .tuple #[.int .u64 ((0:Nat):Int),.int .u64 ((a * b:Nat):Int)]:=by
 have hab:a * b≤4294967295 * 4294967295:=Nat.mul_le_mul (by omega) (by omega)
 have e32:(2:Nat) ^ (32:Int).toNat=4294967296:=by decide
 refine ci M func316 ntmps316 fun Fz hFz hF LL=>?_
 refine zF (zB (zC rfl rfl (zC rfl rfl (zD (zF (zB (zA rfl rfl (cU rfl rfl rfl (by simp only [IntKind.bits]; omega) (by simp only [IntKind.bits]; omega) (.inl rfl) (jR (d:=15) (u:=.int .u64 ((a:Nat):Int)) rfl (by show Value.int .u64 _=Value.int .u64 _; congr 2; rw [mU]; omega) (zC rfl rfl (zD (zF (zB (zA rfl rfl ?_))))))))))))))
 refine xW rfl rfl rfl (by simp only [IntKind.bits]; omega) (jR (d:=17) (u:=.int .u64 ((0:Nat):Int)) rfl (by show Value.int .u64 _=Value.int .u64 _; congr 2; rw [e32]; omega) (zC rfl rfl (zD (zF (zB (zA rfl rfl (cU rfl rfl rfl (by simp only [IntKind.bits]; omega) (by simp only [IntKind.bits]; omega) (.inl rfl) (jR (d:=19) (u:=.int .u64 ((b:Nat):Int)) rfl (by show Value.int .u64 _=Value.int .u64 _; congr 2; rw [mU]; omega) (zC rfl rfl (zD (zF (zB (zA rfl rfl (xW rfl rfl rfl (by simp only [IntKind.bits]; omega) ?_))))))))))))))
 refine jR (d:=21) (u:=.int .u64 ((0:Nat):Int)) rfl (by show Value.int .u64 _=Value.int .u64 _; congr 2; rw [e32]; omega) (zC rfl rfl (zD (zF (zB (zA rfl rfl (zA rfl rfl ?_))))))
 first | refine aC rfl rfl rfl (by omega) ?_ | refine aD rfl rfl rfl ?_
 refine zC rfl rfl (zD (zF (zB (zA rfl rfl (zA rfl rfl ?_)))))
 first | refine aC rfl rfl rfl (by omega) ?_ | refine aD rfl rfl rfl ?_
 refine zA rfl rfl (xW rfl rfl rfl (by simp only [IntKind.bits]; omega) ?_)
 first | refine gH rfl rfl rfl (by omega) ?_ | refine gM rfl rfl rfl ?_
 refine jR (d:=30) (u:=.int .u64 ((a * b / 4294967296:Nat):Int)) rfl (by show Value.int .u64 _=Value.int .u64 _; congr 2; rw [e32]; omega) (zC rfl rfl (zD (zF (zB (zA rfl rfl (cU rfl rfl rfl (by simp only [IntKind.bits]; omega) (by simp only [IntKind.bits]; omega) (.inl rfl) (jR (d:=32) (u:=.int .u64 ((a * b / 4294967296:Nat):Int)) rfl (by show Value.int .u64 _=Value.int .u64 _; congr 2; rw [mU]; omega) (zC rfl rfl (zD (zF (zB (zA rfl rfl (xW rfl rfl rfl (by simp only [IntKind.bits]; omega) (jR (d:=34) (u:=.int .u64 ((0:Nat):Int)) rfl (by show Value.int .u64 _=Value.int .u64 _; congr 2; rw [e32]; omega) ?_))))))))))))))
 refine zC rfl rfl (zD (zF (zB (zA rfl rfl (zA rfl rfl (zA rfl rfl ?_))))))
 first | refine aC rfl rfl rfl (by omega) ?_ | refine aD rfl rfl rfl ?_
 first | refine gH rfl rfl rfl (by omega) ?_ | refine gM rfl rfl rfl ?_
 refine jR (d:=39) (u:=.int .u64 ((a * b / 4294967296:Nat):Int)) rfl (by show Value.int .u64 _=Value.int .u64 _; congr 2 <;> omega) (zC rfl rfl (zD (zF (zB (zA rfl rfl (zA rfl rfl ?_))))))
 first | refine aC rfl rfl rfl (by omega) ?_ | refine aD rfl rfl rfl ?_
 refine zA rfl rfl ?_
 first | refine gH rfl rfl rfl (by omega) ?_ | refine gM rfl rfl rfl ?_
 refine zA rfl rfl (xW rfl rfl rfl (by simp only [IntKind.bits]; omega) ?_)
 first | refine gH rfl rfl rfl (by omega) ?_ | refine gM rfl rfl rfl ?_
 refine jR (d:=47) (u:=.int .u64 ((0:Nat):Int)) rfl (by show Value.int .u64 _=Value.int .u64 _; congr 2; rw [e32]; omega) (zC rfl rfl (zD (zF (zB (zA rfl rfl (zA rfl rfl ?_))))))
 first | refine aC rfl rfl rfl (by omega) ?_ | refine aD rfl rfl rfl ?_
 refine zC rfl rfl (zD (zY ?_))
 refine xF ⟨[_,_],⟨rfl,rfl,trivial⟩,?_⟩
 dsimp only [xG]
 subst hFz
 exact ⟨LL.b,rfl⟩
theorem qguess_c {bd br cap p L:Nat} {vb:Value} {rs ys:List Nat} {ex:List Value} (hL:rs.length=L) (Bd:Blk w bd 282 [.slice (some ⟨br,0,none⟩) L cap,vb]) (BR:Blk w br 139 (rs.map lw ++ ex)) (hb:IsNat M w vb ys) (hr:∀ x ∈ rs,x < 4294967296) (hn:0 < ys.length) (ht:0 < ys.getD (ys.length - 1) 0) (hat:p + ys.length < rs.length) (hrl:rs.length≤1099511627776) (hM:OkM M w) :
    CallsV prog 311 [.pointer (some ⟨bd,0,none⟩),.int .i64 (p:Int)] w fun r w'=>Bel w.heap.size w w'∧r = .int .u64 ((min ((rs.getD (p + ys.length) 0 * 4294967296 + rs.getD (p + ys.length - 1) 0) / ys.getD (ys.length - 1) 0) 4294967295:Nat):Int):=by
 have hb1:=qB hr (p + ys.length)
 have hb2:=qB hr (p + ys.length - 1)
 have hb3:=hb.lim (ys.length - 1)
 have hyl:=hb.len
 have hov:(rs.getD (p + ys.length) 0 * 2 ^ (32:Int).toNat % 18446744073709551616 ||| rs.getD (p + ys.length - 1) 0)=rs.getD (p + ys.length) 0 * 4294967296 + rs.getD (p + ys.length - 1) 0:=by
   have e:(2:Nat) ^ (32:Int).toNat=4294967296:=by decide
   rw [e,Nat.mod_eq_of_lt (by omega),zT0 _ _ (by omega)]
 refine ci M func311 ntmps311 fun Fz hFz hF LL=>?_
 refine zF (zB (zC rfl rfl (zD (zF (zB (zA rfl rfl (zW rfl rfl (zL 1 rfl yu282 rfl rfl sz29 rfl rfl (zN rfl yS rfl Bd rfl ?_)))))))))
 refine yT rfl yu29 rfl ?_
 refine zC rfl rfl (zD (zF ?_))
 refine wd mixed 22 [0,5,22,33] (by decide +kernel) ?_
 apply zQ
 ·intro wq hR hst
  refine zV rfl rfl (zG ?_)
  replace Bd:=Bd.below hR
  replace BR:=BR.below hR
  refine zA rfl rfl ?_
  exact on0 rfl
 apply zQ
 ·intro wq hR hst
  refine zM rfl (zG ?_)
  replace Bd:=Bd.below hR
  replace BR:=BR.below hR
  refine zW rfl rfl ?_
  exact on0 rfl
 apply zQ
 ·intro wq hR hst
  refine zM rfl (zG ?_)
  replace Bd:=Bd.below hR
  replace BR:=BR.below hR
  refine zL 0 rfl yu282 rfl rfl sz29 rfl rfl ?_
  exact on0 rfl
 apply zQ
 ·intro wq hR hst
  refine zM rfl (zG ?_)
  replace Bd:=Bd.below hR
  replace BR:=BR.below hR
  refine zN rfl yS rfl Bd rfl ?_
  exact on0 rfl
 apply zQ
 ·intro wq hR hst
  refine zV rfl rfl (zG ?_)
  replace Bd:=Bd.below hR
  replace BR:=BR.below hR
  refine zA rfl rfl ?_
  exact on0 rfl
 apply zQ
 ·intro wq hR hst
  refine zV rfl rfl (zG ?_)
  replace Bd:=Bd.below hR
  replace BR:=BR.below hR
  refine zA rfl rfl ?_
  exact on0 rfl
 apply zQ
 ·intro wq hR hst
  refine zM rfl (zM rfl (zG ?_))
  replace Bd:=Bd.below hR
  replace BR:=BR.below hR
  refine yV rfl rfl rfl (by omega) ?_
  exact on0 rfl
 apply zQ
 ·intro wq hR hst
  refine zM rfl (zM rfl (zG ?_))
  replace Bd:=Bd.below hR
  replace BR:=BR.below hR
  refine qN (p + ys.length) rfl yu29 yI rfl rfl (by omega) (by omega) ?_
  exact on0 rfl
 apply zQ
 ·intro wq hR hst
  refine zM rfl (zG ?_)
  replace Bd:=Bd.below hR
  replace BR:=BR.below hR
  have hc19:=cW BR (j:=p + ys.length) (by omega)
  refine yX rfl xM rfl hc19 ?_
  exact on0 rfl
 apply zQ
 ·intro wq hR hst
  refine zM rfl (zG ?_)
  replace Bd:=Bd.below hR
  replace BR:=BR.below hR
  refine xC rfl yu139 yu168 rfl (by omega) ?_
  exact on0 rfl
 apply zQ
 ·intro wq hR hst
  refine zM rfl (zG ?_)
  replace Bd:=Bd.below hR
  replace BR:=BR.below hR
  refine qM (m:=18446744073709551616) rfl rfl rfl (by simp only [IntKind.bits]; omega) rfl (.inl rfl) ?_
  exact on0 rfl
 apply zQ
 ·intro wq hR hst
  refine zV rfl rfl (zG ?_)
  replace Bd:=Bd.below hR
  replace BR:=BR.below hR
  refine zA rfl rfl ?_
  exact on0 rfl
 apply zQ
 ·intro wq hR hst
  refine zM rfl (zG ?_)
  replace Bd:=Bd.below hR
  replace BR:=BR.below hR
  refine zW rfl rfl ?_
  exact on0 rfl
 apply zQ
 ·intro wq hR hst
  refine zM rfl (zG ?_)
  replace Bd:=Bd.below hR
  replace BR:=BR.below hR
  refine zL 0 rfl yu282 rfl rfl sz29 rfl rfl ?_
  exact on0 rfl
 apply zQ
 ·intro wq hR hst
  refine zM rfl (zG ?_)
  replace Bd:=Bd.below hR
  replace BR:=BR.below hR
  refine zN rfl yS rfl Bd rfl ?_
  exact on0 rfl
 apply zQ
 ·intro wq hR hst
  refine zV rfl rfl (zG ?_)
  replace Bd:=Bd.below hR
  replace BR:=BR.below hR
  refine zA rfl rfl ?_
  exact on0 rfl
 apply zQ
 ·intro wq hR hst
  refine zV rfl rfl (zG ?_)
  replace Bd:=Bd.below hR
  replace BR:=BR.below hR
  refine zA rfl rfl ?_
  exact on0 rfl
 apply zQ
 ·intro wq hR hst
  refine zM rfl (zM rfl (zG ?_))
  replace Bd:=Bd.below hR
  replace BR:=BR.below hR
  refine yV rfl rfl rfl (by omega) ?_
  exact on0 rfl
 apply zQ
 ·intro wq hR hst
  refine zM rfl (zG ?_)
  replace Bd:=Bd.below hR
  replace BR:=BR.below hR
  refine jC rfl rfl rfl (by omega) ?_
  exact on0 rfl
 apply zQ
 ·intro wq hR hst
  refine zM rfl (zM rfl (zG ?_))
  replace Bd:=Bd.below hR
  replace BR:=BR.below hR
  refine qN (p + ys.length - 1) rfl yu29 yI rfl rfl (by omega) (by omega) ?_
  exact on0 rfl
 apply zQ
 ·intro wq hR hst
  refine zM rfl (zG ?_)
  replace Bd:=Bd.below hR
  replace BR:=BR.below hR
  have hc31:=cW BR (j:=p + ys.length - 1) (by omega)
  refine yX rfl xM rfl hc31 ?_
  exact on0 rfl
 apply zQ
 ·intro wq hR hst
  refine zM rfl (zG ?_)
  replace Bd:=Bd.below hR
  replace BR:=BR.below hR
  refine xC rfl yu139 yu168 rfl (by omega) ?_
  exact on0 rfl
 refine gB (fun wq2 hR2 hpost2=>?_)
 refine zV rfl rfl (zV rfl rfl (zM rfl (zM rfl (zG ?_))))
 simp only [qZ,qY,qX,qW]
 obtain ⟨LL,hM,hF,hb,Bd,BR⟩:=ub6 hR2 LL hM hF hb Bd BR
 refine uE rfl rfl rfl (by simp only [IntKind.bits]; omega) (by simp only [IntKind.bits]; omega) (.inl rfl) (jR (d:=34) (u:=.int .u64 ((rs.getD (p + ys.length) 0 * 4294967296 + rs.getD (p + ys.length - 1) 0:Nat):Int)) rfl (by rw [hov]) (zC rfl rfl (zD (zF (zB (zA rfl rfl (zA rfl rfl (zW rfl rfl (zL 1 rfl yu282 rfl rfl sz29 rfl rfl (zN rfl yS rfl Bd rfl (zA rfl rfl (jC rfl rfl rfl (by omega) (jI (ys.length - 1) rfl yu29 yI rfl rfl (by assumption) (by omega) (by omega) (fun b42 o42 hc42 hb42=>?_))))))))))))))
 refine yX rfl xM rfl hc42 (xC rfl yu139 yu168 rfl (by omega) (nU rfl rfl rfl (by omega) (by omega) (iE rfl rfl rfl (zC rfl rfl (zD (zY ?_))))))
 refine lv1 ⟨rfl,trivial⟩ ?_
 subst hFz
 exact ⟨LL.b,by show Value.int .u64 _=Value.int .u64 _; congr 1; omega⟩
theorem qless_c {Fz:Nat→Prop} {bd br cap p L:Nat} {vb:Value} {rs ys:List Nat} {ex:List Value} {m:Nat} (hL:rs.length=L) (Bd:Blk w bd 282 [.slice (some ⟨br,0,none⟩) L cap,vb]) (BR:Blk w br 139 (rs.map lw ++ ex)) (hb:IsNat M w vb ys) (hr:∀ x ∈ rs,x < 4294967296) (hm:m < 4294967296) (hat:p + ys.length < rs.length) (hrl:rs.length≤1099511627776) (hcap:cap=rs.length + ex.length) (hmr:M br) (nFr:¬ Fz br) (hF:FOk Fz w) (hM:OkM M w) :
    CallsV prog 312 [.pointer (some ⟨bd,0,none⟩),.int .i64 (p:Int),.int .u64 (m:Int)] w fun r w'=>Le Fz M w M w'∧Blk w' bd 282 [.slice (some ⟨br,0,none⟩) L cap,vb]∧∃ (u:Nat) (zs:List Nat),Blk w' br 139 (zs.map lw ++ ex)∧zs.length=rs.length∧(∀ z ∈ zs,z < 4294967296)∧u≤1∧(∀ j,p + ys.length < j→zs.getD j 0=rs.getD j 0)∧val zs + 4294967296 ^ p * (m * val ys)=val rs + 4294967296 ^ (p + (ys.length + 1)) * u∧r = .bool (decide (u=0)):=by
 have hyl:=hb.len
 have ner:bd ≠ br:=sM Bd BR (.inl rfl)
 have ned_r:=ner
 have e32:(2:Nat) ^ (32:Int).toNat=4294967296:=by decide
 have e63:(2:Nat) ^ (63:Int).toNat=9223372036854775808:=by decide
 have LL:=Le.refl Fz M w
 refine jL func312 rfl ntmps312 rfl ?_
 refine zF (zB (zC rfl rfl (zD (zF ?_))))
 refine wd mixed 13 [0,2,19,20,28] (by decide +kernel) ?_
 apply zQ
 ·intro wq hR hst
  refine zV rfl rfl (zG ?_)
  replace Bd:=Bd.below hR
  replace BR:=BR.below hR
  refine zA rfl rfl ?_
  exact on0 rfl
 apply zQ
 ·intro wq hR hst
  refine zM rfl (zG ?_)
  replace Bd:=Bd.below hR
  replace BR:=BR.below hR
  refine zW rfl rfl ?_
  exact on0 rfl
 apply zQ
 ·intro wq hR hst
  refine zM rfl (zG ?_)
  replace Bd:=Bd.below hR
  replace BR:=BR.below hR
  refine zL 0 rfl yu282 rfl rfl sz29 rfl rfl ?_
  exact on0 rfl
 apply zQ
 ·intro wq hR hst
  refine zM rfl (zG ?_)
  replace Bd:=Bd.below hR
  replace BR:=BR.below hR
  refine zN rfl yS rfl Bd rfl ?_
  exact on0 rfl
 apply zQ
 ·intro wq hR hst
  refine zV rfl rfl (zG ?_)
  replace Bd:=Bd.below hR
  replace BR:=BR.below hR
  refine zA rfl rfl ?_
  exact on0 rfl
 apply zQ
 ·intro wq hR hst
  refine zV rfl rfl (zG ?_)
  replace Bd:=Bd.below hR
  replace BR:=BR.below hR
  refine zA rfl rfl ?_
  exact on0 rfl
 apply zQ
 ·intro wq hR hst
  refine zV rfl rfl (zG ?_)
  replace Bd:=Bd.below hR
  replace BR:=BR.below hR
  refine zA rfl rfl ?_
  exact on0 rfl
 apply zQ
 ·intro wq hR hst
  refine zM rfl (zG ?_)
  replace Bd:=Bd.below hR
  replace BR:=BR.below hR
  refine zW rfl rfl ?_
  exact on0 rfl
 apply zQ
 ·intro wq hR hst
  refine zM rfl (zG ?_)
  replace Bd:=Bd.below hR
  replace BR:=BR.below hR
  refine zL 1 rfl yu282 rfl rfl sz29 rfl rfl ?_
  exact on0 rfl
 apply zQ
 ·intro wq hR hst
  refine zM rfl (zG ?_)
  replace Bd:=Bd.below hR
  replace BR:=BR.below hR
  refine zN rfl yS rfl Bd rfl ?_
  exact on0 rfl
 apply zQ
 ·intro wq hR hst
  refine zM rfl (zG ?_)
  obtain ⟨LL,hM,hF,hb,Bd,BR⟩:=ub6 hR LL hM hF hb Bd BR
  refine yT rfl yu29 rfl ?_
  exact on0 rfl
 apply zQ
 ·intro wq hR hst
  refine zM rfl (zM rfl (zG ?_))
  replace Bd:=Bd.below hR
  replace BR:=BR.below hR
  refine yV rfl rfl rfl (by omega) ?_
  exact on0 rfl
 apply zQ
 ·intro wq hR hst
  refine zM rfl (zG ?_)
  replace Bd:=Bd.below hR
  replace BR:=BR.below hR
  refine yV rfl rfl rfl (by omega) ?_
  exact on0 rfl
 refine gB (fun wq1 hR1 hpost1=>?_)
 refine zV rfl rfl (zV rfl rfl (zM rfl (zM rfl (zM rfl (zG ?_)))))
 simp only [qZ,qY,qX,qW]
 obtain ⟨LL,hM,hF,hb,Bd,BR⟩:=ub6 hR1 LL hM hF hb Bd BR
 refine ops_sliceb p (p + ys.length + 1) rfl yu29 yI rfl rfl (by show some (Value.int _ _)=some (Value.int _ _); congr 2) (by omega) (by omega) (zC rfl rfl (zC rfl rfl (zD (zF (zB (zC rfl rfl (zD (zF (zF (zB (zA rfl rfl ?_)))))))))))
 refine yT rfl yu29 rfl ?_
 refine zA rfl rfl (zD (zX ?_))
 refine xT (σ:=Nat × Nat × Nat) [(0,_),(2,_),(7,_),(31,_)] (fun s=>[(8,.int .u64 ((s.2.1:Nat):Int)),(9,.int .u64 ((s.2.2:Nat):Int)),(32,.int .i64 ((s.1:Nat):Int))]) (fun s w1=>Le Fz M wq1 M w1∧Blk w1 bd 282 [.slice (some ⟨br,0,none⟩) L cap,vb]∧∃ zs:List Nat,Blk w1 br 139 (zs.map lw ++ ex)∧zs.length=rs.length∧(∀ z ∈ zs,z < 4294967296)∧(∀ j,p + ys.length < j→zs.getD j 0=rs.getD j 0)∧s.1≤ys.length + 1∧s.2.1 < 4294967296∧s.2.2≤1∧(s.1≤ys.length ∨ s.2.1=0)∧val zs + 4294967296 ^ p * (m * val (ys.take s.1))=val rs + 4294967296 ^ (p + s.1) * (s.2.1 + s.2.2)) (fun s=>ys.length + 1 - s.1) ((0,0,0)) (zI rfl (zI rfl (zI rfl (zI rfl (zI rfl (zI rfl (zI rfl yB))))))) ?_ (fun s w1 hJ=>?_)
 · dsimp only
   exact ⟨Le.refl _ _ _,Bd,rs,BR,rfl,hr,fun _ _=>rfl,by omega,by omega,by omega,.inl (by omega),by simp [val]⟩
 ·clear Bd BR
  obtain ⟨i,o,u⟩:=s
  dsimp only at hJ ⊢
  obtain ⟨LR,Bd,zs,BR,hzl,hzlt,hzh,hi,ho,hu,hi0,hzv⟩:=hJ
  have hby:=hb.lim i
  have hbz:=qB hzlt (p + i)
  have hxy:ys.getD i 0 * m≤4294967295 * 4294967295:=Nat.mul_le_mul (by omega) (by omega)
  obtain ⟨LL,hM,hF,hb⟩:=up4 LR LL hM hF hb
  refine zF (zB (jT rfl rfl rfl (zD (zF ?_))))
  refine zU rfl (fun hc0=>?_) (fun hc0=>?_)
  ·refine yE (zF (zX (zF (zB (zA rfl rfl (zC rfl rfl (zD (zF (zB (zC rfl rfl (zD (zF (zF (zB ?_))))))))))))))
   refine zA rfl rfl (zA rfl rfl (zW rfl rfl (zL 1 rfl yu282 rfl rfl sz29 rfl rfl (zN rfl yS rfl Bd rfl ?_))))
   refine yT rfl yu29 rfl ?_
   refine jT rfl rfl rfl (zD ?_)
   refine wU [(11,.int .u64 ((ys.getD i 0:Nat):Int))] [(0,_),(2,_),(7,_),(8,_),(9,_),(10,_),(31,_),(32,_),(33,_),(34,_),(35,_),(36,_),(37,_),(38,_),(39,_),(40,_),(41,_)] (zI rfl (zI rfl (zI rfl (zI rfl (zI rfl (zI rfl (zI rfl (zI rfl (zI rfl (zI rfl (zI rfl (zI rfl (zI rfl (zI rfl (zI rfl (zI rfl (zI rfl yB))))))))))))))))) ?_ ?_
   ·refine zU rfl (fun hc1=>?_) (fun hc1=>?_)
    ·refine zB (zA rfl rfl (zW rfl rfl (zL 1 rfl yu282 rfl rfl sz29 rfl rfl (zN rfl yS rfl Bd rfl (zA rfl rfl (jI (i) rfl yu29 yI rfl rfl (by assumption) (by omega) (by omega) (fun b47 o47 hc47 hb47=>?_)))))))
     refine yX rfl xM rfl hc47 (xC rfl yu139 yu168 rfl (by omega) (zC rfl rfl (zD ?_)))
     exact ⟨rfl,rfl,(zR rfl (rfl) (zI rfl (zI rfl (zI rfl (zI rfl (zI rfl (zI rfl (zI rfl (zI rfl (zI rfl (zI rfl (zI rfl (zI rfl (zI rfl (zI rfl (zI rfl (zI rfl (zI rfl yB))))))))))))))))))⟩
    ·refine yE ?_
     exact ⟨rfl,rfl,(zR rfl (by rw [jQ (by omega)]; rfl) (zI rfl (zI rfl (zI rfl (zI rfl (zI rfl (zI rfl (zI rfl (zI rfl (zI rfl (zI rfl (zI rfl (zI rfl (zI rfl (zI rfl (zI rfl (zI rfl (zI rfl yB))))))))))))))))))⟩
   refine zF (zB (zA rfl rfl (zA rfl rfl (zK rfl (bo func316) rfl rfl ?_))))
   refine (mul64_c (by omega) (by omega) hM).mono ?_
   rintro v53 w2 ⟨hB53,rfl⟩
   obtain ⟨LR,Bd,BR⟩:=ub3 hB53 LR Bd BR
   refine zA rfl rfl (yM rfl rfl rfl (yM rfl rfl rfl (zC rfl rfl (zC rfl rfl (zD (zF (zB (zA rfl rfl (zA rfl rfl (ops_add64' (a:=ys.getD i 0 * m) (b:=o) (c:=0) rfl ext317 rfl (by omega) (zA rfl rfl (yM rfl rfl rfl (jR (d:=60) (u:=.int .u64 ((ys.getD i 0 * m + o:Nat):Int)) rfl (by show Value.int .u64 _=Value.int .u64 _; congr 2 <;> omega) (yM rfl rfl rfl ?_))))))))))))))
   refine jR (d:=61) (u:=.int .u64 ((0:Nat):Int)) rfl (by show Value.int .u64 _=Value.int .u64 _; congr 2 <;> omega) (zC rfl rfl (zC rfl rfl (zD (zF (zB (zA rfl rfl (zA rfl rfl ?_)))))))
   first | refine gH rfl rfl rfl (by omega) ?_ | refine gM rfl rfl rfl ?_
   refine qM (m:=18446744073709551616) rfl rfl rfl (by simp only [IntKind.bits]; omega) rfl (.inl rfl) (zA rfl rfl (xW rfl rfl rfl (by simp only [IntKind.bits]; omega) (jR (d:=67) (u:=.int .u64 (((ys.getD i 0 * m + o) / 4294967296:Nat):Int)) rfl (by rw [← e32]) (uE rfl rfl rfl (by simp only [IntKind.bits]; omega) (by simp only [IntKind.bits]; omega) (.inl rfl) (jR (d:=68) (u:=.int .u64 (((ys.getD i 0 * m + o) / 4294967296:Nat):Int)) rfl (by show Value.int .u64 _=Value.int .u64 _; congr 2; simp) (zC rfl rfl (zD (zF (zB (zA rfl rfl (zA rfl rfl (nV (i) rfl yu29 yI rfl rfl rfl (by omega) ?_))))))))))))
   have hc71:=cW BR (j:=p + i) (by omega)
   refine yX rfl xM rfl hc71 (xC rfl yu139 yu168 rfl (by omega) (zA rfl rfl (cU rfl rfl rfl (by simp only [IntKind.bits]; omega) (by simp only [IntKind.bits]; omega) (.inl rfl) (jR (d:=75) (u:=.int .u64 (((ys.getD i 0 * m + o) % 4294967296:Nat):Int)) rfl (by show Value.int .u64 _=Value.int .u64 _; congr 2; exact mU _) ?_))))
   first | refine aB rfl rfl rfl (by omega) (by omega) ?_ | refine uN rfl rfl rfl (by omega) ?_
   refine zA rfl rfl ?_
   first | refine aB rfl rfl rfl (by omega) (by omega) ?_ | refine uN rfl rfl rfl (by omega) ?_
   refine zC rfl rfl (zD (zB (zA rfl rfl (zA rfl rfl (zA rfl rfl (jA rfl yu168 yu139 rfl (zA rfl rfl (xW rfl rfl rfl (by simp only [IntKind.bits]; omega) (jR (d:=84) (u:=.int .u64 ((subD (zs.getD (p + i) 0) ((ys.getD i 0 * m + o) % 4294967296) u / 9223372036854775808:Nat):Int)) rfl (by rw [← e63]; rfl) (nV (i) rfl yu29 yI rfl rfl rfl (by omega) (xZ (i:=p + i) rfl rfl yI BR rfl (by simp; omega) (fun w3 Cw3 BN=>?_))))))))))))
   have Lw3:=Le.of_chg (M:=M) Cw3 hmr nFr
   replace LR:=LR.trans Lw3
   replace Bd:=Bd.other Cw3 ned_r
   replace BN:=BN.eq (sX (rs:=zs) (ex:=ex) (v:=subD (zs.getD (p + i) 0) ((ys.getD i 0 * m + o) % 4294967296) u % 4294967296) (show p + i < zs.length by omega))
   clear BR; have BR:=BN; clear BN
   refine zC rfl rfl (zD (zB (yV rfl rfl rfl (by omega) (zA rfl rfl (zD ?_)))))
   refine ⟨rfl,(i + 1,(ys.getD i 0 * m + o) / 4294967296,subD (zs.getD (p + i) 0) ((ys.getD i 0 * m + o) % 4294967296) u / 9223372036854775808),(zR rfl (rfl) (zR rfl (rfl) (zR rfl (by rw [Int.natCast_add]; rfl) (zI rfl (zI rfl (zI rfl (zI rfl yB))))))),?_,?_⟩
   have hsd:=zJ1 hbz (Nat.mod_lt (ys.getD i 0 * m + o) (show 0 < 4294967296 by omega)) hu
   dsimp only
   refine ⟨LR,Bd,_,BR,by simp [hzl],kN hzlt (Nat.mod_lt _ (by omega)),fun j hj=>by rw [qH (by omega)]; exact hzh j hj,by omega,by omega,hsd.2.1,?_,?_⟩
   · rcases Nat.lt_or_ge i ys.length with h | h
     · exact .inl (by omega)
     · right; rw [jQ h]; omega
   · have:=less_step (zs:=zs) (p:=p) (i:=i) (x:=ys.getD i 0) (by omega) hzv (Nat.mod_add_div (ys.getD i 0 * m + o) 4294967296).symm hsd.1 rfl
     rw [jM]; exact this
   dsimp only
   omega
  ·refine xI (xK (zF (zB (zA rfl rfl (qI rfl rfl rfl (zC rfl rfl (zD (zY ?_))))))))
   refine lv1 ⟨rfl,trivial⟩ ?_
   obtain rfl:i=ys.length + 1:=by omega
   obtain rfl:o=0:=by omega
   rw [List.take_of_length_le (by omega),Nat.zero_add] at hzv
   exact ⟨LL,Bd,u,zs,BR,hzl,hzlt,hu,hzh,hzv,by congr 1; simp only [decide_eq_decide]; omega⟩
theorem qmore_c {Fz:Nat→Prop} {bd br cap p L:Nat} {vb:Value} {rs ys:List Nat} {ex:List Value} (hL:rs.length=L) (Bd:Blk w bd 282 [.slice (some ⟨br,0,none⟩) L cap,vb]) (BR:Blk w br 139 (rs.map lw ++ ex)) (hb:IsNat M w vb ys) (hr:∀ x ∈ rs,x < 4294967296) (hat:p + ys.length < rs.length) (hrl:rs.length≤1099511627776) (hcap:cap=rs.length + ex.length) (hmr:M br) (nFr:¬ Fz br) (hF:FOk Fz w) (hM:OkM M w) :
    CallsV prog 313 [.pointer (some ⟨bd,0,none⟩),.int .i64 (p:Int)] w fun r w'=>Le Fz M w M w'∧Blk w' bd 282 [.slice (some ⟨br,0,none⟩) L cap,vb]∧∃ (u:Nat) (zs:List Nat),Blk w' br 139 (zs.map lw ++ ex)∧zs.length=rs.length∧(∀ z ∈ zs,z < 4294967296)∧u≤1∧(∀ j,p + ys.length < j→zs.getD j 0=rs.getD j 0)∧val zs + 4294967296 ^ (p + (ys.length + 1)) * u=val rs + 4294967296 ^ p * val ys∧r = .bool (decide ((u:Int) > 0)):=by
 have hyl:=hb.len
 have ned_r:bd ≠ br:=sM Bd BR (.inl rfl)
 have e32:(2:Nat) ^ (32:Int).toNat=4294967296:=by decide
 have LL:=Le.refl Fz M w
 refine jL func313 rfl ntmps313 rfl ?_
 refine zF (zB (zC rfl rfl (zD (zF (zB (zC rfl rfl (zD (zF (zF (zB (zA rfl rfl (zW rfl rfl (zL 1 rfl yu282 rfl rfl sz29 rfl rfl (zN rfl yS rfl Bd rfl ?_))))))))))))))
 refine yT rfl yu29 rfl ?_
 refine yV rfl rfl rfl (by omega) (zA rfl rfl (zD (zX ?_)))
 refine xT (σ:=Nat × Nat) [(0,_),(1,_),(12,_)] (fun s=>[(5,.int .u64 ((s.2:Nat):Int)),(13,.int .i64 ((s.1:Nat):Int))]) (fun s w1=>Le Fz M w M w1∧Blk w1 bd 282 [.slice (some ⟨br,0,none⟩) L cap,vb]∧∃ zs:List Nat,Blk w1 br 139 (zs.map lw ++ ex)∧zs.length=rs.length∧(∀ z ∈ zs,z < 4294967296)∧(∀ j,p + ys.length < j→zs.getD j 0=rs.getD j 0)∧s.1≤ys.length + 1∧s.2≤1∧val zs + 4294967296 ^ (p + s.1) * s.2=val rs + 4294967296 ^ p * val (ys.take s.1)) (fun s=>ys.length + 1 - s.1) ((0,0)) (zI rfl (zI rfl (zI rfl (zI rfl (zI rfl yB))))) ?_ (fun s w1 hJ=>?_)
 · exact ⟨Le.refl _ _ _,Bd,rs,BR,rfl,hr,fun _ _=>rfl,by omega,by omega,by simp [val]⟩
 ·clear Bd BR
  obtain ⟨i,o⟩:=s
  dsimp only at hJ ⊢
  obtain ⟨LR,Bd,zs,BR,hzl,hzlt,hzh,hi,ho,hzv⟩:=hJ
  have hby:=hb.lim i
  have hbz:=qB hzlt (p + i)
  obtain ⟨LL,hM,hF,hb⟩:=up4 LR LL hM hF hb
  refine zF (zB (jT rfl rfl rfl (zD (zF ?_))))
  refine zU rfl (fun hc0=>?_) (fun hc0=>?_)
  ·refine yE (zF (zX (zF (zB (zA rfl rfl (zC rfl rfl (zD (zF (zF (zB (zA rfl rfl (zA rfl rfl (zW rfl rfl (zL 1 rfl yu282 rfl rfl sz29 rfl rfl ?_))))))))))))))
   refine zN rfl yS rfl Bd rfl ?_
   refine yT rfl yu29 rfl ?_
   refine jT rfl rfl rfl (zD ?_)
   refine wU [(5,.int .u64 ((o + ys.getD i 0:Nat):Int))] [(0,_),(1,_),(6,_),(12,_),(13,_),(14,_),(15,_),(16,_),(17,_),(18,_),(19,_),(20,_),(21,_),(22,_)] (zI rfl (zI rfl (zI rfl (zI rfl (zI rfl (zI rfl (zI rfl (zI rfl (zI rfl (zI rfl (zI rfl (zI rfl (zI rfl (zI rfl yB)))))))))))))) ?_ ?_
   ·refine zU rfl (fun hc1=>?_) (fun hc1=>?_)
    ·refine zB (zA rfl rfl (zA rfl rfl (zW rfl rfl (zL 1 rfl yu282 rfl rfl sz29 rfl rfl (zN rfl yS rfl Bd rfl (zA rfl rfl (jI (i) rfl yu29 yI rfl rfl (by assumption) (by omega) (by omega) (fun b29 o29 hc29 hb29=>?_))))))))
     refine yX rfl xM rfl hc29 (xC rfl yu139 yu168 rfl (by omega) ?_)
     first | refine gH rfl rfl rfl (by omega) ?_ | refine gM rfl rfl rfl ?_
     refine zC rfl rfl (zD ?_)
     exact ⟨rfl,rfl,(zR rfl (rfl) (zI rfl (zI rfl (zI rfl (zI rfl (zI rfl (zI rfl (zI rfl (zI rfl (zI rfl (zI rfl (zI rfl (zI rfl (zI rfl (zI rfl yB)))))))))))))))⟩
    ·refine yE ?_
     exact ⟨rfl,rfl,(zR rfl (by rw [jQ (by omega)]; rfl) (zI rfl (zI rfl (zI rfl (zI rfl (zI rfl (zI rfl (zI rfl (zI rfl (zI rfl (zI rfl (zI rfl (zI rfl (zI rfl (zI rfl yB)))))))))))))))⟩
   refine zF (zB (zA rfl rfl (zA rfl rfl (zW rfl rfl (zL 0 rfl yu282 rfl rfl sz29 rfl rfl (zN rfl yS rfl Bd rfl (zA rfl rfl (zA rfl rfl (yV rfl rfl rfl (by omega) (qN (p + i) rfl yu29 yI rfl rfl (by omega) (by omega) ?_))))))))))
   have hc41:=cW BR (j:=p + i) (by omega)
   refine yX rfl xM rfl hc41 (xC rfl yu139 yu168 rfl (by omega) ?_)
   first | refine gH rfl rfl rfl (by omega) ?_ | refine gM rfl rfl rfl ?_
   refine zC rfl rfl (zD (zF (zB (zA rfl rfl (zW rfl rfl (zL 0 rfl yu282 rfl rfl sz29 rfl rfl (zN rfl yS rfl Bd rfl (zA rfl rfl (zA rfl rfl (yV rfl rfl rfl (by omega) (zA rfl rfl (jA rfl yu168 yu139 rfl (qN (p + i) rfl yu29 yI rfl rfl (by omega) (by omega) (xZ (i:=p + i) rfl rfl yI BR rfl (by simp; omega) (fun w2 Cw2 BN=>?_)))))))))))))))
   have Lw2:=Le.of_chg (M:=M) Cw2 hmr nFr
   replace LR:=LR.trans Lw2
   replace Bd:=Bd.other Cw2 ned_r
   replace BN:=BN.eq (sX (rs:=zs) (ex:=ex) (v:=(o + ys.getD i 0 + zs.getD (p + i) 0) % 4294967296) (show p + i < zs.length by omega))
   clear BR; have BR:=BN; clear BN
   refine zD (zB (zA rfl rfl (xW rfl rfl rfl (by simp only [IntKind.bits]; omega) (zC rfl rfl (zD (zB (yV rfl rfl rfl (by omega) (zA rfl rfl (zD ?_)))))))))
   refine ⟨rfl,(i + 1,(o + ys.getD i 0 + zs.getD (p + i) 0) / 4294967296),(zR rfl (rfl) (zR rfl (rfl) (zI rfl (zI rfl (zI rfl yB))))),?_,?_⟩
   dsimp only
   refine ⟨LR,Bd,_,BR,by simp [hzl],kN hzlt (Nat.mod_lt _ (by omega)),fun j hj=>by rw [qH (by omega)]; exact hzh j hj,by omega,by omega,?_⟩
   have:=more_step (zs:=zs) (p:=p) (i:=i) (x:=ys.getD i 0) (by omega) hzv rfl rfl
   rw [jM]; exact this
   dsimp only
   omega
  ·refine xI (xK (zF (zB (zA rfl rfl (bJ rfl rfl rfl (zC rfl rfl (zD (zY ?_))))))))
   refine lv1 ⟨rfl,trivial⟩ ?_
   obtain rfl:i=ys.length + 1:=by omega
   rw [List.take_of_length_le (by omega)] at hzv
   exact ⟨LL,Bd,o,zs,BR,hzl,hzlt,ho,hzh,hzv,rfl⟩
end
end Go.Proofs.YtflobagimodmgaaGreatDoor
