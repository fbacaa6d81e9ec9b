/- Lemmas and walks of functions; no statement. -/
import Derived.Test.YtflobagimodmgaaGreatDoorPd
set_option linter.unusedVariables false
set_option linter.unusedSimpArgs false
set_option maxRecDepth 100000
set_option maxHeartbeats 4000000
namespace Go.Proofs.YtflobagimodmgaaGreatDoor
open Go.SL Go.RowKit Go.Proofs Tryz
section
variable {M M' : Nat → Prop} {w w' : World} {n m k : Nat} {z : Int} {s : Bool} {a : Value}
theorem ZQ.cl (h:ZQ M w n z s a) (l:Cl M w M' w'):ZQ M' w' n z s a:=by obtain ⟨xs,h1,h2⟩:=h.ex; exact ⟨xs,h1.cl l,h2⟩
theorem ZC.cl (h:ZC M w n z s a) (l:Cl M w M' w'):ZC M' w' n z s a:=⟨h.sgn,h.num.cl l,h.len⟩
theorem NQ.cl (h:NQ M w n k a) (l:Cl M w M' w'):NQ M' w' n k a:=by obtain ⟨xs,h1,h2⟩:=h.ex; exact ⟨xs,h1.cl l,h2⟩
end
def ztq (n:Nat) (z:Int):CT where
 sz:=2
 p M w cs:=∃ s a,cs = [.bool s,a] ∧ ZQ M w n z s a
 len h:=by obtain ⟨_,_,rfl,_⟩:=h; rfl
 one h:=by obtain ⟨_,_,rfl,h⟩:=h; exact allc rfl (allc h.one.1 alln)
 mono h k:=by obtain ⟨s,a,rfl,h⟩:=h; exact ⟨s,a,rfl,h.cl k⟩
def ztc (n:Nat) (z:Int):CT where
 sz:=2
 p M w cs:=∃ s a,cs = [.bool s,a] ∧ ZC M w n z s a
 len h:=by obtain ⟨_,_,rfl,_⟩:=h; rfl
 one h:=by obtain ⟨_,_,rfl,h⟩:=h; exact allc rfl (allc h.gen.one.1 alln)
 mono h k:=by obtain ⟨s,a,rfl,h⟩:=h; exact ⟨s,a,rfl,h.cl k⟩
def ntq (n k:Nat):CT where
 sz:=1
 p M w cs:=∃ a,cs = [a] ∧ NQ M w n k a
 len h:=by obtain ⟨_,rfl,_⟩:=h; rfl
 one h:=by obtain ⟨_,rfl,h⟩:=h; exact allc h.one.1 alln
 mono h k:=by obtain ⟨a,rfl,h⟩:=h; exact ⟨a,rfl,h.cl k⟩
def ntc (n k:Nat):CT where
 sz:=1
 p M w cs:=∃ a,cs = [a] ∧ NQ M w n k a ∧ IsNat M w a (limbs k)
 len h:=by obtain ⟨_,rfl,_⟩:=h; rfl
 one h:=by obtain ⟨_,rfl,h,_⟩:=h; exact allc h.one.1 alln
 mono h k:=by obtain ⟨a,rfl,h,g⟩:=h; exact ⟨a,rfl,h.cl k,g.cl k⟩
theorem pB {M:Nat → Prop} {w:World} {n k:Nat} {a:Value} (h:IsNat M w a (limbs k)) (hl:(limbs k).length ≤ n):NQ M w n k a:=⟨_,h,hl,zT k⟩
instance {n:Nat} {q:Rat}:FA (rtc n q) 0 (ztc n q.num):=⟨fun ⟨s,a,d,e,h⟩ => ⟨s,a,by rw [e]; rfl,h.sgn,h.num,h.len.1⟩⟩
instance {n:Nat} {q:Rat}:FA (rtc n q) 2 (ntc n q.den):=⟨fun ⟨s,a,d,e,h⟩ => ⟨d,by rw [e]; rfl,pB h.den h.len.2,h.den⟩⟩
instance {n:Nat} {z:Int}:FA (ztc n z) 0 (xc (.bool (decide (z < 0)))):=⟨fun ⟨s,a,e,h⟩ => by rw [e,h.sgn]; exact ⟨rfl,rfl⟩⟩
instance {n:Nat} {z:Int}:FA (ztc n z) 1 (ntc n z.natAbs):=⟨fun ⟨s,a,e,h⟩ => ⟨a,by rw [e]; rfl,pB h.num h.len,h.num⟩⟩
class CZ (c:CT) (n:outParam Nat) (z:outParam Int):Prop where
 h:∀ {M w us},c.p M w us → ∃ s a,us = [.bool s,a] ∧ ZQ M w n z s a
instance {n:Nat} {z:Int}:CZ (ztq n z) n z:=⟨id⟩
instance {n:Nat} {z:Int}:CZ (ztc n z) n z:=⟨fun ⟨s,a,e,h⟩ => ⟨s,a,e,h.gen⟩⟩
class CN (c:CT) (n:outParam Nat) (k:outParam Nat):Prop where
 h:∀ {M w us},c.p M w us → ∃ a,us = [a] ∧ NQ M w n k a
instance {n k:Nat}:CN (ntq n k) n k:=⟨id⟩
instance {n k:Nat}:CN (ntc n k) n k:=⟨fun ⟨a,e,h,_⟩ => ⟨a,e,h⟩⟩
instance {b:Bool} {c:CT} {n k:Nat} [h:CN c n k]:CZ (st [xc (.bool b),c]) n (if b then -((k:Nat):Int) else ((k:Nat):Int)):=⟨fun ⟨x,y,e,k1,z,o,e2,k2,e3⟩ => by
 obtain ⟨a,rfl,g⟩:=h.h k2
 obtain rfl:x = [.bool b]:=k1.1
 obtain rfl:o = []:=e3
 obtain ⟨xs,g1,g2,g3⟩:=g.ex
 exact ⟨b,a,by rw [e,e2]; rfl,xs,g1,g2,by unfold zv; rw [g3]⟩⟩
class VZ (Ψ:PV) (n:outParam Nat) (z:outParam Int):Prop where
 h:∀ {M w v},Ψ.p M w v → ∃ s a,v = .agg #[.bool s,a] ∧ ZQ M w n z s a
instance {c:CT} {n:Nat} {z:Int} [h:CZ c n z]:VZ (ag c) n z:=⟨fun ⟨us,e,k⟩ => by obtain ⟨s,a,rfl,g⟩:=h.h k; exact ⟨s,a,e,g⟩⟩
class VN (Ψ:PV) (n:outParam Nat) (k:outParam Nat):Prop where
 h:∀ {M w v},Ψ.p M w v → NQ M w n k v
instance {c:CT} {n k:Nat} [h:CN c n k]:VN (sv c) n k:=⟨fun k => by obtain ⟨a,e,g⟩:=h.h k; rw [List.singleton_inj.1 e]; exact g⟩
class VZL (Ψ:PV) (n:outParam Nat) (l:outParam (List Int)):Prop where
 h:∀ {M w v},Ψ.p M w v → ZL M w n l v
instance {c d:CT} {n m:Nat} {y z:Int} [h1:CZ c n y] [h2:CZ d m z]:VZL (sv (sl 2 [c,d])) (max n m) [y,z]:=⟨fun k => ⟨by
 obtain ⟨v,us,e,k1,k2,k3⟩:=id k
 refine sW (cs:=[c,d]) rfl k3 (fun i a ha => ?_) k
 cases i with
 | zero => obtain rfl:=Option.some.inj ha; exact ⟨c,rfl,fun us hu => let ⟨s,a,e,g⟩:=h1.h hu; ⟨s,a,e,g.up (by omega)⟩⟩
 | succ i => cases i with
  | zero => obtain rfl:=Option.some.inj ha; exact ⟨d,rfl,fun us hu => let ⟨s,a,e,g⟩:=h2.h hu; ⟨s,a,e,g.up (by omega)⟩⟩
  | succ i => simp at ha⟩⟩
theorem pV {M:Nat → Prop} {w:World} {n:Nat} {z:Int} {s:Bool} {a:Value} (h:ZC M w n z s a):(ag (ztc n z)).p M w (.agg #[.bool s,a]):=⟨_,rfl,_,_,rfl,h⟩
theorem yN {Ψ ρ:PV} (h:PSub Ψ ρ):∀ M w vs,Fa [Ψ] M w vs → ρ.p M w (xE vs):=fun M w vs ⟨v,us,e,h1,h2⟩ => by
 subst e; rw [show us = [] from h2]; exact h _ _ _ h1
theorem zP3 {Ψ Φ ρ σ:PV} (h:PSub Ψ ρ) (k:PSub Φ σ):∀ M w vs,Fa [Ψ,Φ] M w vs → (tu [ρ,σ]).p M w (xE vs):=fun M w vs ⟨v,us,e,h1,u,us2,e2,h2,e3⟩ => by
 subst e; subst e2; rw [show us2 = [] from e3]; exact ⟨[v,u],rfl,v,_,rfl,h _ _ _ h1,u,_,rfl,k _ _ _ h2,rfl⟩
theorem uQ {X:Cx} {Γ:TE} {S:List Ow} {b s:Nat} {ty:TypeId} {c:CT} {q:Prop} (i:Nat) (hi:S[i]? = some (.blk b ty [c])) (hs:tf Γ s = some (q,exP (.pointer (some ⟨b,0,none⟩)))):Ts X Γ S ((s,q,pa c) :: Γ) (S.eraseIdx i):=fun E w h => by
 have hm:Ow.blk b ty [c] ∈ S:=List.mem_of_getElem? hi
 obtain ⟨us,k3,a,o,k4,k5,k6⟩:=h.gd.own _ hm
 have h2:=h.sub (List.eraseIdx_sublist S i)
 have hn:¬ Mk (S.eraseIdx i) X.M b:=fun k => by
  rcases k with ⟨p,hp,e⟩ | k
  ·obtain ⟨j,hj,hp⟩:=lS hp
   exact lZ h.apt hi hp (fun k => hj k.symm) rfl e
  ·rcases h.new _ hm b rfl with h4 | h4
   ·have:=h.ok0 b k; omega
   ·exact h.zm b h4 k
 obtain rfl:o = []:=k6
 rw [List.append_nil] at k4; subst k4
 refine ⟨h2.bel,h2.gd,h2.new,h2.apt,h2.ok0,h2.zm,h2.mko,fun t q' ht => ?_⟩
 unfold tf at ht
 cases hb:Nat.beq s t with
 | true =>
  rw [hb] at ht
  obtain rfl:=Nat.eq_of_beq_eq_true hb
  obtain rfl:=Option.some.inj ht
  have h3:=h.tm s _ hs
  exact ⟨fun k => let ⟨u,h4,h5⟩:=h3.1 k; ⟨u,h4,b,0,us,h5,hn,⟨us.toArray,ty,(0,0),k3,fun j v hj => by simpa using hj⟩,c.mono k5 (Cl.less (eK (List.eraseIdx_sublist S i)))⟩,h3.2⟩
 | false => rw [hb] at ht; exact h2.tm t q' ht
theorem ofo {P:Program} {r:Option Nat} {N:Nat} {ops:Array Oper} {M:Nat → Prop} {S:List Ow} {p qx:Prop} {Γ:TE} {d b o:Nat} {x:Operand} {t t':TypeId} {pos:String} {af:Array Edge} {a:Bool} {f off sz:Nat} (hx:tv Γ x = some (qx,exP (.pointer (some ⟨b,o,none⟩)))) [Im p qx] [ht:TFd P t f a off sz] :
  Ob P r N ops M S p ⟨some d,.fieldAddr t x f,t',pos,af,none⟩ Γ (exP (.pointer (some ⟨b,o + off,none⟩))) :=
 ob1 hx (by simp [Op.operands]) fun D E w u hN hg e1 h1 => by
  obtain rfl:u = _:=h1
  obtain ⟨fields,fd,bytes,z,k1,k2,k3,k4,k5,_⟩:=ht.h
  exact kW off hN k1 k2 k3 k4 k5 e1 (fin rfl)
theorem oldf {P:Program} {r:Option Nat} {N:Nat} {ops:Array Oper} {M:Nat → Prop} {S:List Ow} {p qx:Prop} {Γ:TE} {Ψ:PV} {d b o:Nat} {x:Operand} {t ty t':TypeId} {pos:String} {af:Array Edge} {a:Bool} {sz:Nat} {c c':CT} (i o':Nat) (hx:tv Γ x = some (qx,exP (.pointer (some ⟨b,o,none⟩)))) (ho:o = o') [Im p qx] (hi:S[i]? = some (.blk b ty [c])) [ht:TLd P t a sz] [ha:FA c o' c'] (hs:Nat.beq c'.sz sz = true) [hl:LdA a c' Ψ]:Ob P r N ops M S p ⟨some d,.load t x,t',pos,af,none⟩ Γ Ψ :=
 ob1 hx (by simp [Op.operands]) fun D E w u hN hg e1 h1 => by
  obtain rfl:u = _:=h1
  subst ho
  obtain ⟨vs,k3,x1,o1,k4,k6,k7⟩:=hg.own _ (List.mem_of_getElem? hi)
  obtain rfl:o1 = []:=k7
  rw [List.append_nil] at k4; subst k4
  have h3:=ha.h k6
  have h4:=hl.h h3
  have h7:=c'.len h3
  have h6:=Nat.eq_of_beq_eq_true hs
  have h2:∀ (j:Nat) (u:Value),((vs.drop o).take c'.sz)[j]? = some u → w.cell? ⟨b,o + j,none⟩ = some u:=fun j u hj => by
   rw [k3.cell]
   rw [List.getElem?_take] at hj
   split at hj
   ·simpa using hj
   ·cases hj
  have h5:=ht.h
  cases a with
  | true =>
   obtain ⟨bytes,z,k2⟩:=ht.s
   exact kO hN h5 k2 e1 h2 (h7.trans h6) (fin h4)
  | false =>
   obtain ⟨k1,rfl⟩:=h5
   rw [h6] at h7 h2 h4
   obtain ⟨v,hv⟩:=List.length_eq_one_iff.1 h7
   rw [hv] at h2 h4
   exact yW hN k1 e1 (by have:=h2 0 v rfl; simpa using this) (fin (h4 v rfl))
theorem ts_ow {X:Cx} {Γ:TE} {S:List Ow} {o o':Ow} (i:Nat) (hi:S[i]? = some o) (hb:o'.bk = o.bk) (ho:∀ M w,o.ok M w → o'.ok M w):Ts X Γ S Γ (S.set i o'):=fun E w h => by
 have hm:∀ q ∈ S.set i o',q ∈ S ∨ q = o':=fun q hq => List.mem_or_eq_of_mem_set hq
 have hiS:o ∈ S:=List.mem_of_getElem? hi
 have hmk:Mk (S.set i o') X.M = Mk S X.M:=funext fun c => propext ⟨fun h => h.imp (fun ⟨q,hq,e⟩ => by
  rcases hm q hq with hq | rfl
  ·exact ⟨q,hq,e⟩
  ·exact ⟨_,hiS,hb ▸ e⟩) id,fun h => h.imp (fun ⟨q,hq,e⟩ => by
  obtain ⟨m,hm⟩:=List.mem_iff_getElem?.1 hq
  by_cases c:i = m
  ·subst c
   obtain rfl:=Option.some.inj (hm.symm.trans hi)
   exact ⟨o',List.mem_of_getElem? (List.getElem?_set_self (List.getElem?_eq_some_iff.1 hi).1),hb.trans e⟩
  ·exact ⟨q,List.mem_of_getElem? (by rw [List.getElem?_set_ne c]; exact hm),e⟩) id⟩
 refine ⟨h.bel,⟨by rw [hmk]; exact h.gd.ok,by rw [hmk]; exact h.gd.tab,fun q hq => ?_⟩,fun q hq b' e => ?_,mZ h.apt hi (fun b' e => .inl (hb ▸ e)),h.ok0,h.zm,h.mko,by rw [hmk]; exact h.tm⟩
 ·rw [hmk]
  rcases hm q hq with hq | rfl
  ·exact h.gd.own q hq
  ·exact ho _ _ (h.gd.own _ hiS)
 ·rcases hm q hq with hq | rfl
  ·exact h.new q hq b' e
  ·exact h.new _ hiS b' (hb ▸ e)
theorem wU {X:Cx} {Γ:TE} {S:List Ow} {b:Nat} {ty:TypeId} {cs cs':List CT} (i:Nat) (hi:S[i]? = some (.blk b ty cs)) (hc:∀ {M w us},stp cs M w us → stp cs' M w us):Ts X Γ S Γ (S.set i (.blk b ty cs')):=ts_ow i hi rfl fun M w ⟨us,h1,h2⟩ => ⟨us,h1,hc h2⟩
abbrev xw (x:Nat):CT:=xc (.int .u32 (x:Int))
def ntx (xs:List Nat):CT where
 sz:=1
 p M w cs:=∃ v,cs = [v] ∧ IsNat M w v xs
 len h:=by obtain ⟨_,rfl,_⟩:=h; rfl
 one h u hu:=by obtain ⟨v,rfl,h⟩:=h; rw [List.mem_singleton.1 hu]; exact yO h
 mono h k:=by obtain ⟨v,rfl,h⟩:=h; exact ⟨v,rfl,h.cl k⟩
def itx (a:Bool × List Nat):CT:=st [xc (.bool a.1),ntx a.2]
instance:Df Nat:=⟨0⟩
instance:Df Int:=⟨0⟩
theorem vU {M:Nat → Prop} {w:World}:∀ {xs:List Nat},stp (xs.map xw) M w (xs.map lw)
 | [] => rfl
 | x :: xs => ⟨[lw x],xs.map lw,rfl,⟨rfl,rfl⟩,vU⟩
instance {xs:List Nat}:VS (sv (ntx xs)) 1 (xs.map xw):=⟨fun ⟨v,e,h⟩ => ⟨v,xs.map lw,e,by rw [List.length_map]; exact h.slc,vU,fun c hc => by obtain ⟨a,_,rfl⟩:=List.mem_map.1 hc; rfl⟩⟩
instance {a:Bool × List Nat}:FA (itx a) 0 (xc (.bool a.1)):=⟨fun h => kY (l:=[xc (.bool a.1),ntx a.2]) (o:=0) h rfl⟩
instance {a:Bool × List Nat}:FA (itx a) 1 (ntx a.2):=⟨fun h => kY (l:=[xc (.bool a.1),ntx a.2]) (o:=1) h rfl⟩
instance {xs:List Nat}:CN (ntx xs) xs.length (val xs):=⟨fun ⟨a,e,h⟩ => ⟨a,e,xs,h,Nat.le_refl _,rfl⟩⟩
theorem rT {M:Nat → Prop} {w:World} {n:Nat} {z:Int} {s:Bool} {a:Value} (h:ZQ M w n z s a):∃ b:Bool × List Nat,(∀ x ∈ b.2,x < 4294967296) ∧ b.2.length ≤ n ∧ zv b.1 b.2 = z ∧ (ag (itx b)).p M w (.agg #[.bool s,a]):=by
 obtain ⟨xs,h1,h2,h3⟩:=h.ex
 exact ⟨(s,xs),h1.lt,h2,h3,[.bool s,a],rfl,[.bool s],[a],rfl,⟨rfl,rfl⟩,[a],[],rfl,⟨a,rfl,h1⟩,rfl⟩
theorem ctz1 {P:Program} {f:FuncId} {ρ Ψ:PV} {n:Nat} {z:Int} [h:VZ Ψ n z] (hb:Bod P f) (k:∀ a:Bool × List Nat,(∀ x ∈ a.2,x < 4294967296) → a.2.length ≤ n → zv a.1 a.2 = z → CTy P f [ag (itx a)] ρ):CTy P f [Ψ] ρ:=⟨hb,fun M w vs hM hT hv => by
 obtain ⟨v,rfl,h1⟩:=fa1 hv
 obtain ⟨s,a,rfl,g⟩:=h.h h1
 obtain ⟨b,b0,b1,b2,b3⟩:=rT g
 exact (k b b0 b1 b2).run M w _ hM hT ⟨_,_,rfl,b3,rfl⟩⟩
theorem ctz2 {P:Program} {f:FuncId} {ρ Ψ Φ:PV} {n m:Nat} {y z:Int} [h:VZ Ψ n y] [h':VZ Φ m z] (hb:Bod P f) (k:∀ a b:Bool × List Nat,(∀ x ∈ a.2,x < 4294967296) → a.2.length ≤ n → zv a.1 a.2 = y → (∀ x ∈ b.2,x < 4294967296) → b.2.length ≤ m → zv b.1 b.2 = z → CTy P f [ag (itx a),ag (itx b)] ρ):CTy P f [Ψ,Φ] ρ:=⟨hb,fun M w vs hM hT hv => by
 obtain ⟨v,u,rfl,h1,h2⟩:=fa2 hv
 obtain ⟨s,a,rfl,g⟩:=h.h h1
 obtain ⟨t,b,rfl,g'⟩:=h'.h h2
 obtain ⟨b1,b0,b2,b3,b4⟩:=rT g
 obtain ⟨c1,c0,c2,c3,c4⟩:=rT g'
 exact (k b1 c1 b0 b2 b3 c0 c2 c3).run M w _ hM hT ⟨_,_,rfl,b4,_,_,rfl,c4,rfl⟩⟩
theorem ps_z {N k:Nat} {z:Int} {s:Bool} (h1:s = decide (z < 0)) (h2:k = z.natAbs) (h3:(limbs k).length ≤ N):PSub (ag (st [xc (.bool s),ntx (limbs k)])) (ag (ztc N z)):=fun M w v ⟨us,e,x,y,e1,k1,u,o,e2,⟨a,k2,k3⟩,e3⟩ => by
 subst h2
 obtain ⟨rfl,_⟩:=k1
 obtain rfl:o = []:=e3
 subst k2
 exact ⟨us,e,s,a,by rw [e1,e2]; rfl,h1,k3,h3⟩
class VX (Ψ:PV) (xs:outParam (List Nat)):Prop where
 h:∀ {M w v},Ψ.p M w v → IsNat M w v xs
instance {xs:List Nat}:VX (sv (ntx xs)) xs:=⟨fun ⟨a,e,h⟩ => by rw [List.singleton_inj.1 e]; exact h⟩
instance {n k:Nat}:VX (sv (ntc n k)) (limbs k):=⟨fun ⟨a,e,_,h⟩ => by rw [List.singleton_inj.1 e]; exact h⟩
section
variable {xs ys : List Nat}
theorem rS (hl:xs.length ≤ 1099511627776):CTy prog 76 [sv (ntx xs)] (sv (ntx (limbs (val xs)))) :=
 ⟨(bo func76),fun M w vs hM hT hv => by
  obtain ⟨v,rfl,a,e,h1⟩:=fa1 hv
  obtain rfl:=List.singleton_inj.1 e
  exact (gZ h1 hl hM).mono fun r w' ⟨hB,g⟩ => ⟨hB,r,rfl,g.nat hM⟩⟩
theorem zU0 (h1:xs.length ≤ 1000000000) (h2:ys.length ≤ 1000000000):CTy prog 228 [sv (ntx xs),sv (ntx ys)] (tu [sv (ntx (limbs (val xs - val ys))),exP (.int .i64 (if val xs < val ys then 10 else 0))]) :=
 ⟨(bo func228),fun M w vs hM hT hv => by
  obtain ⟨v,u,rfl,⟨a,e,k1⟩,⟨b,e2,k2⟩⟩:=fa2 hv
  obtain rfl:=List.singleton_inj.1 e
  obtain rfl:=List.singleton_inj.1 e2
  refine (zQ8 k1 k2 h1 h2 hM).mono fun r w' ⟨hB,g⟩ => ⟨hB,?_⟩
  rcases g with ⟨g1,rfl⟩ | ⟨g1,q,rfl,g2⟩
  ·rw [if_pos g1,show val xs - val ys = 0 by omega,yU]
   exact ⟨_,rfl,_,_,rfl,⟨_,rfl,uX⟩,_,_,rfl,rfl,rfl⟩
  ·rw [if_neg (by omega)]
   exact ⟨_,rfl,_,_,rfl,⟨_,rfl,g2.nat hM⟩,_,_,rfl,rfl,rfl⟩⟩
theorem zU1 {Ψ Φ:PV} [h:VX Ψ xs] [k:VX Φ ys]:CTy prog 173 [Ψ,Φ] (exP (.bool (decide (xs = ys)))) :=
 ⟨(bo func173),fun M w vs hM hT hv => by
  obtain ⟨v,u,rfl,k1,k2⟩:=fa2 hv
  exact same_c (h.h k1) (k.h k2) hM⟩
theorem k2mulx {Ψ Φ:PV} [h:VX Ψ xs] [k:VX Φ ys] (h1:xs.length ≤ 1000000000) (h2:ys.length ≤ 1000000000):CTy prog 114 [Ψ,Φ] (sv (ntx (limbs (val xs * val ys)))) :=
 ⟨(bo func114),fun M w vs hM hT hv => by
  obtain ⟨v,u,rfl,k1,k2⟩:=fa2 hv
  exact (vZ (h.h k1) (k.h k2) (by omega) (by omega) hM).mono fun r w' ⟨hB,g⟩ => ⟨hB,r,rfl,g.nat hM⟩⟩
theorem zZ4 {xss:List (List Nat)} (hl:∀ xs ∈ xss,xs.length ≤ 1000000) (hn:xss.length ≤ 1000000):CTy prog 224 [sv (sl 1 (xss.map ntx))] (sv (ntx (limbs ((xss.map val).sum)))) :=
 ⟨(bo func224),fun M w vs hM hT hv => by
  obtain ⟨v,rfl,h1⟩:=fa1 hv
  obtain ⟨cs,k1,k2⟩:=nL (f:=ntx) (k:=1) (R:=fun M w (a:List Nat) us => ∃ u,us = [u] ∧ IsNat M w u a) (fun _ => rfl) (fun a us h => h) h1
  refine (zR3 ⟨cs,k1,fun i xs hi => ?_⟩ hl hn hM).mono fun r w' ⟨hB,g⟩ => ⟨hB,r,rfl,g.nat hM⟩
  obtain ⟨us,g1,g2,u,rfl,g3⟩:=k2 i xs hi
  exact ⟨u,by have:=g2 0 u rfl; simpa using this,g3⟩⟩
end
theorem gG {xs:List Nat} (h:∀ x ∈ xs,x < 4294967296):(limbs (val xs)).length ≤ xs.length:=yS (jB _ h)
instance {n k:Nat}:VS (sv (ntc n k)) 1 ((limbs k).map xw):=⟨fun ⟨v,e,_,h⟩ => ⟨v,_,e,by rw [List.length_map]; exact h.slc,vU,fun c hc => by obtain ⟨a,_,rfl⟩:=List.mem_map.1 hc; rfl⟩⟩
theorem k5normx {a:Bool × List Nat} {N:Nat} {z:Int} (hx:∀ x ∈ a.2,x < 4294967296) (hl:a.2.length ≤ 100000000) (hN:a.2.length ≤ N) (hz:zv a.1 a.2 = z):CTy prog 135 [ag (itx a)] (ag (ztc N z)):=by
 refine ctc func135 rfl rfl rfl rfl fun X => (zI (zJ rfl (zA1 (obx rfl) (tal fun b2 => (zA0 (zI (zJ rfl (zA1 (ofa rfl rfl) (zA1 (old rfl rfl) ?_)))))))))
 refine zA1 (oca rfl rfl fun _ => rS (by omega)) (zA1 (oas rfl) (zA0 (zI (zJ rfl (zA1 (ofa rfl rfl) (zA1 (old rfl rfl) (zA1 (omv rfl) (t1g rfl rfl (omv rfl) (t1g rfl rfl (oln rfl) ?_)))))))))
 refine t1g rfl rfl (ogt rfl rfl) (zA1 (opk rfl rfl rfl) (zA1 (omv rfl) ?_))
 refine zA1 (obd rfl rfl rfl) (tst 0 rfl rfl rfl rfl rfl rfl (zA0 (yF (⟨[_],rsc 0 rfl rfl rfl rfl rs0,yN ?_⟩))))
 rotate_left 1
 exact (ps_z (by
  have h0:=@yL (val a.2)
  subst hz
  unfold zv
  cases h:a.1 with
  | false => simp <;> omega
  | true =>
   simp only [Bool.true_and,if_true]
   rw [decide_eq_decide]
   omega) (by subst hz; unfold zv; split <;> omega) (Nat.le_trans (gG (by exact hx)) hN))
theorem aM {Ψ:PV} {n:Nat} {z:Int} [h:VZ Ψ n z] (hn:n ≤ 100000000):CTy prog 135 [Ψ] (ag (ztc n z)):=ctz1 (bo func135) fun a h0 h1 h2 => k5normx h0 (by omega) h1 h2
theorem vz_q {Ψ:PV} {n:Nat} {z:Int} [h:VZ Ψ n z]:PSub Ψ (ag (ztq n z)):=fun M w v hv => by obtain ⟨s,a,rfl,g⟩:=h.h hv; exact ⟨_,rfl,s,a,rfl,g⟩
theorem mF {n N:Nat} {y z:Int} (h:y = z) (h1:n ≤ N):PSub (ag (ztc n y)) (ag (ztc N z)):=fun M w v ⟨us,e,s,a,e2,g⟩ => by subst h; exact ⟨us,e,s,a,e2,g.sgn,g.num,Nat.le_trans g.len h1⟩
theorem sum_len {K:Nat} {xs ys:List Nat} (h1:val xs < 4294967296 ^ xs.length) (h2:val ys < 4294967296 ^ ys.length) (hK:max xs.length ys.length + 1 ≤ K):(limbs (val xs + val ys)).length ≤ K:=by
 refine Nat.le_trans (yS (k:=max xs.length ys.length + 1) ?_) hK
 have a1:4294967296 ^ xs.length ≤ 4294967296 ^ (max xs.length ys.length):=Nat.pow_le_pow_right (by omega) (by omega)
 have a2:4294967296 ^ ys.length ≤ 4294967296 ^ (max xs.length ys.length):=Nat.pow_le_pow_right (by omega) (by omega)
 rw [Nat.pow_succ]; omega
theorem k5sign {Ψ:PV} {n:Nat} {z:Int} [h:VZ Ψ n z] (hn:n ≤ 1000000):CTy prog 77 [Ψ] (exP (.int .i64 z.sign)):=by
 refine gS (σs:=[ag (ztq n z)]) ?_ (fs1 vz_q fs0)
 refine ctc func77 rfl rfl rfl rfl fun X => (zI (zJ rfl (tbx rfl fun b1 => (zA1 (oas rfl) (zA0 (zI (zJ rfl (zA1 (oldo 0 rfl rfl rfl rfl) (zA1 (oca rfl rfl fun _ => aM (by omega)) ?_)))))))))
 refine tst 0 rfl rfl rfl rfl rfl rfl (zA0 (zI (yJ (zI (zJ rfl (zA1 (ofo rfl) (zA1 (oldf 0 1 rfl rfl rfl rfl) (zA1 (oln rfl) (zA1 (oeq rfl rfl) ?_)))))))))
 refine zA1 (oas rfl) (zA0 ?_)
 refine t_if rfl (fun c0 => ?_) (fun c0 => ?_)
 refine zI (zJ rfl (zA1 (oas rfl) (zA0 (yF (⟨[_],rst rfl rs0,yN ?_⟩)))))
 refine ps_i ?_
 rotate_left 1
 refine zI (zJ rfl (zA1 (ofo rfl) (zA1 (oldf 0 0 rfl rfl rfl rfl) (zA1 (oas rfl) (zA0 ?_)))))
 refine t_if rfl (fun c1 => ?_) (fun c1 => ?_)
 refine zI (zJ rfl (zA1 (oas rfl) (zA0 (yF (⟨[_],rst rfl rs0,yN ?_⟩)))))
 refine ps_i ?_
 rotate_left 1
 refine yV (zI (zJ rfl (zA1 (oas rfl) (zA0 (yF (⟨[_],rst rfl rs0,yN ?_⟩))))))
 refine ps_i ?_
 rotate_left 1
 ·have h1:=dt c0
  have h2:=@yL z.natAbs
  rw [show z = 0 by omega]; rfl
 ·have h2:=dt c1
  rw [Int.sign_eq_neg_one_of_neg h2]
 ·have h1:=df c0
  have h2:=df c1
  have h3:=@yL z.natAbs
  rw [Int.sign_eq_one_of_pos (by omega)]
theorem zZ1 {Ψ:PV} {n:Nat} {z:Int} [h:VZ Ψ n z] (hn:n ≤ 1000000):CTy prog 148 [Ψ] (ag (ztc n (-z))):=ctz1 (bo func148) fun a h0 h1 h2 => by
 refine ctc func148 rfl rfl rfl rfl fun X => (zI (zJ rfl (zA1 (obx rfl) (tal fun b2 => (zA0 (zI (zJ rfl (zA1 (ofa rfl rfl) (zA1 (old rfl rfl) ?_)))))))))
 refine zA1 (ont rfl) (zA1 (ofa rfl rfl) (zA1 (old rfl rfl) ?_))
 refine zA1 (obd rfl rfl rfl) (zA1 (oca rfl rfl fun _ => aM (by omega)) (tst 0 rfl rfl rfl rfl rfl rfl (zA0 (yF (⟨[_],rsc 0 rfl rfl rfl rfl rs0,yN ?_⟩)))))
 rotate_left 1
 exact mF (by subst h2; unfold zv; cases a.1 <;> simp) h1
theorem w5two {a b:Bool × List Nat} {N:Nat} {y z:Int} (la:∀ x ∈ a.2,x < 4294967296) (lb:∀ x ∈ b.2,x < 4294967296) (ha:a.2.length ≤ 1000000) (hb:b.2.length ≤ 1000000) (hN:max a.2.length b.2.length + 1 ≤ N) (hy:zv a.1 a.2 = y) (hz:zv b.1 b.2 = z):CTy prog 203 [ag (itx a),ag (itx b)] (ag (ztc N (y + z))):=by
 have hs:(limbs (val a.2 + val b.2)).length ≤ max a.2.length b.2.length + 1:=sum_len (jB _ la) (jB _ lb) (Nat.le_refl _)
 have hs2:(limbs (List.map val [a.2,b.2]).sum).length ≤ max a.2.length b.2.length + 1:=by simpa using hs
 have hd1:(limbs (val a.2 - val b.2)).length ≤ max a.2.length b.2.length + 1:=Nat.le_trans (yG (by omega)) hs
 have hd2:(limbs (val b.2 - val a.2)).length ≤ max a.2.length b.2.length + 1:=Nat.le_trans (yG (by omega)) hs
 refine ctc func203 rfl rfl rfl rfl fun X => (zI (zJ rfl (zA1 (obx rfl) (zA1 (obx rfl) (tal fun b4 => (zA0 (zI (zI (zJ rfl ?_)))))))))
 refine zA1 (ofa rfl rfl) (zA1 (old rfl rfl) (zA1 (ofa rfl rfl) (zA1 (old rfl rfl) (zA1 (obe rfl rfl) (zA0 ?_)))))
 refine t_if rfl (fun c0 => ?_) (fun c0 => ?_)
 refine zI (xH 10 mixed rfl rfl (d1 (ofa rfl rfl) (d1 (old rfl rfl) (d1 (ofa rfl rfl) (d1 (old rfl rfl) (d1 (ofa rfl rfl) (d1 (old rfl rfl) (d1 (obs rfl rfl rfl rfl rfl rfl) (d1 (oca rfl rfl fun _ => zZ4 (xss:=[a.2,b.2]) (by (simp; omega)) (by (simp; done))) ?_)))))))))
 refine d1 (obd rfl rfl rfl) (d1 (oca rfl rfl fun _ => aM (by omega)) (d0 (tst 0 rfl rfl rfl rfl rfl rfl (zA0 (yF (⟨[_],rsc 0 rfl rfl rfl rfl rs0,yN ?_⟩))))))
 rotate_left 1
 refine yV (zI (zJ rfl (zA1 (ofa rfl rfl) (zA1 (old rfl rfl) (zA1 (ofa rfl rfl) (zA1 (old rfl rfl) (zA1 (oca rfl rfl fun _ => zU0 (by omega) (by omega)) (zA1 (omv rfl) (zA1 (oex rfl rfl) ?_)))))))))
 refine zA1 (oex rfl rfl) (zA1 (oas rfl) (zA1 (oas rfl) (zA0 (zI (zI (zJ rfl (zA1 (omv rfl) (zA1 (oeq rfl rfl) (zA0 ?_)))))))))
 refine t_if rfl (fun c1 => ?_) (fun c1 => ?_)
 refine zI (zJ rfl (zA1 (ofa rfl rfl) (zA1 (old rfl rfl) (zA1 (omv rfl) ?_))))
 refine zA1 (obd rfl rfl rfl) (zA1 (oca rfl rfl fun _ => aM (by omega)) (tst 0 rfl rfl rfl rfl rfl rfl (zA0 (yF (⟨[_],rsc 0 rfl rfl rfl rfl rs0,yN ?_⟩)))))
 rotate_left 1
 refine yV (zI (zJ rfl (zA1 (ofa rfl rfl) (zA1 (old rfl rfl) (zA1 (ofa rfl rfl) (zA1 (old rfl rfl) (zA1 (oca rfl rfl fun _ => zU0 (by omega) (by omega)) (zA1 (omv rfl) (zA1 (oex rfl rfl) ?_)))))))))
 refine zA1 (oex rfl rfl) (zA1 (oas rfl) (zA0 (zI (zJ rfl (zA1 (ofa rfl rfl) (zA1 (old rfl rfl) (zA1 (omv rfl) ?_)))))))
 refine zA1 (obd rfl rfl rfl) (zA1 (oca rfl rfl fun _ => aM (by omega)) (tst 0 rfl rfl rfl rfl rfl rfl (zA0 (yF (⟨[_],rsc 0 rfl rfl rfl rfl rs0,yN ?_⟩)))))
 rotate_left 1
 ·have h0:a.1 = b.1:=eq_of_beq c0.h
  exact mF (by
   subst hy hz; rw [zT]; simp only [List.map_cons,List.map_nil,List.sum_cons,List.sum_nil]; unfold zv; rw [h0]; split <;> omega) (by omega)
 ·have h0:a.1 ≠ b.1:=fun e => by have:=c0.h; rw [e] at this; simp at this
  have h1:val b.2 ≤ val a.2:=by have:=dt c1; split at this <;> omega
  exact mF (by
   subst hy hz; rw [zT]; unfold zv
   cases ea:a.1 <;> cases eb:b.1 <;> simp [ea,eb] at h0 ⊢ <;> omega) (by omega)
 ·have h0:a.1 ≠ b.1:=fun e => by have:=c0.h; rw [e] at this; simp at this
  have h1:val a.2 < val b.2:=by have:=df c1; split at this <;> omega
  exact mF (by
   subst hy hz; rw [zT]; unfold zv
   cases ea:a.1 <;> cases eb:b.1 <;> simp [ea,eb] at h0 ⊢ <;> omega) (by omega)
theorem k5two {Ψ Φ:PV} {n m N:Nat} {y z:Int} [h:VZ Ψ n y] [h':VZ Φ m z] (hn:n ≤ 1000000) (hm:m ≤ 1000000) (hN:max n m + 1 ≤ N):CTy prog 203 [Ψ,Φ] (ag (ztc N (y + z))):=ctz2 (bo func203) fun a b la ha hy lb hb hz => w5two la lb (by omega) (by omega) (by omega) hy hz
theorem z0_ok {n:Nat} {M:Nat → Prop} {w:World} {us:List Value} (h:stp (zc (.agg #[.bool false,.slice none 0 0])) M w us):stp [ztc n 0] M w us:=by
 obtain ⟨x,y,rfl,⟨rfl,_⟩,z,o,rfl,⟨rfl,_⟩,h3⟩:=h
 obtain rfl:o = []:=h3
 exact ⟨[.bool false,.slice none 0 0],[],rfl,⟨false,_,rfl,zc_zero⟩,rfl⟩
theorem w5add {l:List Int} {n:Nat} (hn:n ≤ 390000) (hl:l.length ≤ 2):CTy prog 147 [sv (sl 2 (l.map (ztq n)))] (ag (ztc (n + 2) l.sum)):=by
 refine ctc func147 rfl rfl rfl rfl fun X => (zI (zJ rfl (tal fun b2 => (zA0 (zI (zJ rfl (tal fun b3 => (zA0 (zI ?_)))))))))
 refine zI (zJ rfl (zA1 (oas rfl) (zA0 (yJ ?_))))
 rotate_left 1
 refine t_ts (wU (cs':=[ztc (n + 0) 0]) 0 rfl z0_ok) ?_
 refine jJ (σ:=Nat) (fun s => [(4,True,exP (.int .i64 ((s:Nat):Int)))]) (fun s => [.blk b3 31 [ztc (n + s) (l.take s).sum],.blk b2 31 (zc (.agg #[.bool false,.slice none 0 0]))]) (fun s => s ≤ l.length) (fun s => l.length - s) (0) (tk 0 rfl (tk 2 rfl (tk 3 rfl tn))) ?_ rfl ((by simp)) (fun s hJ Y _ => ?_)
 refine tc rfl (ps_r _) (tn)
 rotate_left 1
 refine zI (zI (zJ rfl (zA1 (omv rfl) (zA1 (omv rfl) (zA1 (oln rfl) (zA1 (olt rfl rfl) (zA0 ?_)))))))
 refine t_if rfl (fun c0 => ?_) (fun c0 => ?_)
 refine yV (zI (yJ (xH 7 mixed rfl rfl (d1 (oldo 0 rfl rfl rfl rfl) (d1 (omv rfl) (d1 (omv rfl) (d1 (oix _ rfl rfl rfl (fun _ => rfl) (fun _ => (by (have e0:=dt c0; omega)))) (d1 (old rfl rfl) (d1 (oca rfl rfl fun _ => aM (by omega)) ?_)))))))))
 refine d1 (oca rfl rfl fun _ => k5two (N:=n + s + 1) (by omega) (by omega) (by omega)) (d0 (tst 0 rfl rfl rfl rfl rfl rfl (zA0 (zJ rfl (zA1 (omv rfl) (zA1 (oad rfl rfl (by omega)) (zA1 (oas rfl) (zA0 ?_))))))))
 rotate_left 1
 refine jK (zI (zJ rfl (zA1 (oldo 0 rfl rfl rfl rfl) (zA1 (oca rfl rfl fun _ => aM (by omega)) (tst 1 rfl rfl rfl rfl rfl rfl (zA0 (yF (⟨[_],rsc 1 rfl rfl rfl rfl rs0,yN ?_⟩))))))))
 rotate_left 1
 ·refine ⟨s + 1,tes ?_ ?_ ?_,(by (have e0:=dt c0; omega)),(by (have e0:=dt c0; omega))⟩
  refine tc rfl (ps_r _) (tn)
  refine tc rfl (ps_r _) (tc rfl (ps_r _) (tc rfl (ps_r _) (tn)))
  rotate_left 1
  rw [sum_take (by have:=dt c0; omega)]; exact List.Sublist.refl _
 ·have h0:s = l.length:=by have:=df c0; omega
  subst h0
  exact mF (by rw [List.take_length]) (by omega)
theorem k5of {k N:Nat} (hk:k < 9223372036854775808) (hN:2 ≤ N):CTy prog 149 [exP (.int .i64 ((k:Nat):Int))] (ag (ztc N ((k:Nat):Int))) :=
 ⟨(bo func149),fun M w vs hM hT hv => by
  obtain ⟨v,rfl,h1⟩:=fa1 hv
  obtain rfl:v = _:=h1
  exact (zU7 hk hM).mono fun r w' ⟨hB,x,y,e,g⟩ => ⟨hB,e ▸ pV ⟨g.sgn,g.num,Nat.le_trans g.len hN⟩⟩⟩
theorem k5normM {Ψ:PV} {n N:Nat} {y z:Int} [h:VZ Ψ n y] (hn:n ≤ 100000000) (hN:(limbs y.natAbs).length ≤ N) (e:y = z):CTy prog 135 [Ψ] (ag (ztc N z)) :=
 ⟨(aM (h:=h) hn).bod,fun M w vs hM hT hv => ((aM (h:=h) hn).run M w vs hM hT hv).mono fun r w' ⟨hB,us,e1,s,a,e2,g⟩ => ⟨hB,by subst e; exact ⟨us,e1,s,a,e2,g.sgn,g.num,hN⟩⟩⟩
abbrev zx (a:Bool × List Nat):Int:=zv a.1 a.2
instance:Df (Bool × List Nat):=⟨(false,[])⟩
theorem lI (a:Bool × List Nat):(zx a).natAbs = val a.2:=by unfold zx zv; split <;> omega
theorem mul_z (p:Int) (a:Bool × List Nat):(if (!(decide (p < 0) == a.1)) = true then -((val (limbs (val (limbs p.natAbs) * val a.2)):Nat):Int) else ((val (limbs (val (limbs p.natAbs) * val a.2)):Nat):Int)) = p * zx a:=by
 rw [zT,zT,Int.natCast_mul]
 unfold zx zv
 rcases Decidable.em (p < 0) with h | h
 ·have e:((p.natAbs:Nat):Int) = -p:=by omega
  rw [decide_eq_true h,e]; cases a.1 <;> simp [Int.neg_mul,Int.mul_neg]
 ·have e:((p.natAbs:Nat):Int) = p:=by omega
  rw [decide_eq_false (by omega),e]; cases a.1 <;> simp [Int.neg_mul,Int.mul_neg]
theorem zJ7 {l:List (Bool × List Nat)} {s:Nat} (h:s < l.length):gY ((l.map zx).take (s + 1)) = gY ((l.map zx).take s) * zx (l.getD s Df.d):=by
 rw [prod_take (by simpa using h)]
 simp [List.getD_eq_getElem?_getD,List.getElem?_eq_getElem h]
theorem w5mul {l:List (Bool × List Nat)} {n:Nat} (hn:n ≤ 100000) (hl:l.length ≤ 2) (hb:∀ a ∈ l,(∀ x ∈ a.2,x < 4294967296) ∧ a.2.length ≤ n):CTy prog 92 [sv (sl 2 (l.map itx))] (ag (ztc (2 * n + 2) (gY (l.map zx)))):=by
 refine ctc func92 rfl rfl rfl rfl fun X => (zI (zJ rfl (tal fun b2 => (zA0 (zI (zJ rfl (zA1 (oca rfl rfl fun _ => k5of (k:=1) (N:=2 + 0 * n) (by omega) (by omega)) (tal fun b3 => (tst 0 rfl rfl rfl rfl rfl rfl ?_)))))))))
 refine zA0 (zI (zI (zJ rfl (zA1 (oas rfl) (zA0 (yJ ?_))))))
 rotate_left 1
 refine jJ (σ:=Nat) (fun s => [(4,True,exP (.int .i64 ((s:Nat):Int)))]) (fun s => [.blk b3 31 [ztc (2 + s * n) (gY ((l.map zx).take s))],.blk b2 31 (zc (.agg #[.bool false,.slice none 0 0]))]) (fun s => s ≤ l.length ∧ (limbs (gY ((l.map zx).take s)).natAbs).length ≤ 2 + s * n) (fun s => l.length - s) (0) (tk 0 rfl (tk 2 rfl (tk 3 rfl tn))) ?_ rfl (⟨by simp,by simp [gY,gJ]⟩) (fun s hJ Y _ => ?_)
 refine tc rfl (ps_r _) (tn)
 rotate_left 1
 obtain ⟨j1,j2⟩:=hJ
 have hs2:s * n ≤ 2 * n:=Nat.mul_le_mul_right n (by omega)
 have hs3:(s + 1) * n = s * n + n:=Nat.succ_mul _ _
 have hg:s < l.length → (∀ x ∈ (l.getD s Df.d).2,x < 4294967296) ∧ (l.getD s Df.d).2.length ≤ n:=fun h => hb _ (by rw [List.getD_eq_getElem?_getD,List.getElem?_eq_getElem h]; exact List.getElem_mem h)
 have hm:s < l.length → (limbs (val (limbs (gY (List.take s (List.map zx l))).natAbs) * val (l.getD s Df.d).2)).length ≤ 2 + s * n + n:=fun h => by
  obtain ⟨g1,g2⟩:=hg h
  refine Nat.le_trans (aQ (jB _ (gQ _)) (jB _ g1)) ?_
  omega
 refine zI (zI (zJ rfl (zA1 (omv rfl) (zA1 (omv rfl) (zA1 (oln rfl) (zA1 (olt rfl rfl) (zA0 ?_)))))))
 refine t_if rfl (fun c0 => ?_) (fun c0 => ?_)
 refine yV (zI (yJ (xH 18 mixed rfl rfl (d1 (ofo rfl) (d1 (oldf 0 0 rfl rfl rfl rfl) (d1 (omv rfl) (d1 (omv rfl) (d1 (oix _ rfl rfl rfl (fun _ => rfl) (fun _ => (by (have e0:=dt c0; omega)))) (d1 (ofa rfl rfl) ?_)))))))))
 refine d1 (old rfl rfl) (d1 (obn rfl rfl) (d1 (ofo rfl) (d1 (oldf 0 1 rfl rfl rfl rfl) (d1 (omv rfl) (d1 (omv rfl) (d1 (oix _ rfl rfl rfl (fun _ => rfl) (fun _ => (by (have e0:=dt c0; omega)))) (d1 (ofa rfl rfl) (d1 (old rfl rfl) (d1 (oca rfl rfl fun _ => k2mulx (by omega) (by (have e0:=dt c0; omega))) ?_)))))))))
 refine d1 (obd rfl rfl rfl) ?_
 refine d1 (oca rfl rfl fun _ => k5normM (N:=2 + (s + 1) * n) (z:=gY ((l.map zx).take (s + 1))) (by (have e0:=dt c0; omega)) ?_ ?_) ?_
 rotate_left 1
 rotate_left 1
 refine d0 (tst 0 rfl rfl rfl rfl rfl rfl (zA0 (zJ rfl (zA1 (omv rfl) (zA1 (oad rfl rfl (by omega)) (zA1 (oas rfl) (zA0 ?_)))))))
 rotate_left 1
 refine jK (zI (zJ rfl (zA1 (oldo 0 rfl rfl rfl rfl) (tst 1 rfl rfl rfl rfl rfl rfl (zA0 (yF (⟨[_],rsc 1 rfl rfl rfl rfl rs0,yN ?_⟩)))))))
 rotate_left 1
 ·have h1:=hm (by have:=dt c0; omega)
  have e4:∀ (c:Bool) (k:Nat),(if c = true then -((k:Nat):Int) else ((k:Nat):Int)).natAbs = k:=fun c k => by split <;> omega
  rw [e4,zT]; omega
 ·rw [zJ7 (by have:=dt c0; omega),← mul_z]
 ·have h0:s < l.length:=by have:=dt c0; omega
  have h1:=hm h0
  refine ⟨s + 1,tes ?_ ?_ (List.Sublist.refl _),?_,(by omega)⟩
  refine tc rfl (ps_r _) (tn)
  refine tc rfl (ps_r _) (tc rfl (ps_r _) (tc rfl (ps_r _) (tn)))
  rotate_left 1
  refine ⟨by omega,?_⟩
  rw [zJ7 h0,Int.natAbs_mul,lI]
  rw [zT] at h1
  omega
 ·have h0:s = l.length:=by have:=df c0; omega
  subst h0
  exact mF (by rw [List.take_of_length_le (by simp)]) (by omega)
theorem vQ {M:Nat → Prop} {w:World} {n:Nat} {l:List Int} {v:Value} (h:ZL M w n l v):∃ ls:List (Bool × List Nat),(sl 2 (ls.map itx)).p M w [v] ∧ ls.map zx = l ∧ ∀ a ∈ ls,(∀ x ∈ a.2,x < 4294967296) ∧ a.2.length ≤ n:=by
 obtain ⟨cs,h1,h2⟩:=h.row
 have h3:∀ i,i < l.length → ∃ a:Bool × List Nat,zx a = l.getD i 0 ∧ (∀ x ∈ a.2,x < 4294967296) ∧ a.2.length ≤ n ∧ ∃ us:List Value,us.length = 2 ∧ (∀ (q:Nat) (u:Value),us[q]? = some u → cs[i * 2 + q]? = some u) ∧ (itx a).p M w us:=fun i hi => by
  obtain ⟨us,g1,g2,s,a,rfl,g3⟩:=h2 i _ (List.getElem?_eq_getElem hi)
  obtain ⟨xs,k1,k2,k3⟩:=g3.ex
  exact ⟨(s,xs),by rw [List.getD_eq_getElem?_getD,List.getElem?_eq_getElem hi]; exact k3,k1.lt,k2,_,g1,g2,[.bool s],[a],rfl,⟨rfl,rfl⟩,[a],[],rfl,⟨a,rfl,k1⟩,rfl⟩
 let Y:Nat → Bool × List Nat:=fun i => if h:i < l.length then Classical.choose (h3 i h) else (false,[])
 have hY:∀ i,i < l.length → zx (Y i) = l.getD i 0 ∧ (∀ x ∈ (Y i).2,x < 4294967296) ∧ (Y i).2.length ≤ n ∧ ∃ us:List Value,us.length = 2 ∧ (∀ (q:Nat) (u:Value),us[q]? = some u → cs[i * 2 + q]? = some u) ∧ (itx (Y i)).p M w us:=fun i hi => by simp only [Y,dif_pos hi]; exact Classical.choose_spec (h3 i hi)
 refine ⟨(List.range l.length).map Y,?_,?_,fun a ha => ?_⟩
 ·refine cD (R:=fun M w a us => (itx a).p M w us) (fun _ => rfl) (fun _ _ _ h => h) ⟨cs,by simpa using h1,fun i a hi => ?_⟩
  obtain ⟨hlt,rfl⟩:=List.getElem?_eq_some_iff.1 hi
  have:=(hY i (by simpa using hlt)).2.2.2
  simpa using this
 ·apply List.ext_getElem (by simp)
  intro i h4 h5
  have:=(hY i h5).1
  simpa [List.getD_eq_getElem?_getD,List.getElem?_eq_getElem h5] using this
 ·obtain ⟨i,hi,rfl⟩:=List.mem_map.1 ha
  obtain ⟨_,g1,g2,_⟩:=hY i (List.mem_range.1 hi)
  exact ⟨g1,g2⟩
theorem tT {Ψ:PV} {n:Nat} {l:List Int} [h:VZL Ψ n l] (hn:n ≤ 100000) (hl:l.length ≤ 2):CTy prog 92 [Ψ] (ag (ztc (2 * n + 2) (gY l))) :=
 ⟨(bo func92),fun M w vs hM hT hv => by
  obtain ⟨v,rfl,h1⟩:=fa1 hv
  obtain ⟨ls,k1,k2,k3⟩:=vQ (h.h h1)
  subst k2
  exact (w5mul hn (by simpa using hl) k3).run M w _ hM hT ⟨_,_,rfl,k1,rfl⟩⟩
theorem zZ2 {Ψ:PV} {n:Nat} {l:List Int} [h:VZL Ψ n l] (hn:n ≤ 390000) (hl:l.length ≤ 2):CTy prog 147 [Ψ] (ag (ztc (n + 2) l.sum)) :=
 gS (w5add hn hl) (fs1 (fun M w v hv => cD (fun _ => rfl) (fun a us _ h => h) (h.h hv).row) fs0)
theorem k5sub {Ψ Φ:PV} {n m:Nat} {y z:Int} [h:VZ Ψ n z] [h':VZ Φ m y] (hn:n ≤ 380000) (hm:m ≤ 380000):CTy prog 91 [Ψ,Φ] (ag (ztc (max n m + 2) (z - y))):=by
 refine gS (σs:=[ag (ztq n z),ag (ztq m y)]) ?_ (fs1 vz_q (fs1 vz_q fs0))
 refine ctc func91 rfl rfl rfl rfl fun X => (zI (zJ rfl (zA1 (obx rfl) (zA1 (obx rfl) (tal fun b4 => (zA0 (zI (xH 5 mixed rfl rfl (d1 (old rfl rfl) ?_)))))))))
 refine d1 (old rfl rfl) (d1 (oca rfl rfl fun _ => zZ1 (by omega)) (d1 (obs rfl rfl rfl rfl rfl rfl) (d1 (oca rfl rfl fun _ => zZ2 (by omega) (by (simp; done))) (d0 (tst 0 rfl rfl rfl rfl rfl rfl (zA0 (yF (⟨[_],rsc 0 rfl rfl rfl rfl rs0,yN ?_⟩))))))))
 rotate_left 1
 exact mF (by simp; omega) (Nat.le_refl _)
theorem k5told {n m:Nat} {y z:Int}:CTy prog 172 [ag (ztc n y),ag (ztc m z)] (exP (.bool (decide (y = z)))):=by
 refine ctc func172 rfl rfl rfl rfl fun X => (zI (zJ rfl (zA1 (obx rfl) (zA1 (obx rfl) (zA1 (oas rfl) (zA0 (zI (zJ rfl (zA1 (ofx rfl) ?_)))))))))
 refine zA1 (old rfl rfl) (zA1 (ofx rfl) (zA1 (old rfl rfl) (zA1 (obe rfl rfl) (zA1 (omv rfl) (t1g rfl rfl (ofx rfl) (t1g rfl rfl (old rfl rfl) (t1g rfl rfl (ofx rfl) (t1g rfl rfl (old rfl rfl) (t1g rfl rfl (oca rfl rfl fun g => zU1) ?_)))))))))
 refine zA1 (opk rfl rfl rfl) (zA1 (oas rfl) (zA0 (yF (⟨[_],rst rfl rs0,yN ?_⟩))))
 refine psb ?_
 rotate_left 1
 rw [Bool.eq_iff_iff]
 simp only [Bool.and_eq_true,beq_iff_eq,decide_eq_true_eq]
 constructor
 ·rintro ⟨h1,h2⟩
  have h3:y.natAbs = z.natAbs:=by have:=congrArg val h2; rwa [zT,zT] at this
  rw [decide_eq_decide] at h1
  omega
 ·rintro rfl; exact ⟨rfl,rfl⟩
end Go.Proofs.YtflobagimodmgaaGreatDoor
set_option maxHeartbeats 4000000
namespace Go.Proofs.YtflobagimodmgaaGreatDoor
open Go.SL Go.RowKit Go.Proofs Tryz
section
variable {Ψ Φ : PV} {n m k j : Nat} {y z : Int}
theorem zM1 {M:Nat → Prop} {w:World} {v:Value} {ls:List (Bool × List Nat)} (h:(sl 2 (ls.map itx)).p M w [v]):IsInts M w v ls :=
 ⟨nL (f:=itx) (fun _ => rfl) (fun a us ⟨x,y,e,⟨e1,_⟩,z,o,e2,⟨u,e3,g⟩,e4⟩ => ⟨u,by subst e1 e3; obtain rfl:o = []:=e4; rw [e,e2]; rfl,g⟩) h⟩
theorem kpmul [h:VN Ψ n k] [h':VN Φ m j] (hn:n ≤ 1000000) (hm:m ≤ 1000000):CTy prog 230 [Ψ,Φ] (sv (ntq (n + m) (k * j))) :=
 ⟨(bo func230),fun M w vs hM hT hv => by
  obtain ⟨v,u,rfl,h1,h2⟩:=fa2 hv
  obtain ⟨xs,g1,g2,g3⟩:=(h.h h1).ex
  obtain ⟨ys,g4,g5,g6⟩:=(h'.h h2).ex
  exact (zS2 g1 g4 (by omega) (by omega) hM).mono fun r w' ⟨hB,g⟩ => ⟨hB,r,rfl,by rw [← g3,← g6]; exact pB (g.nat hM) (Nat.le_trans (aQ (jB _ g1.lt) (jB _ g4.lt)) (by omega))⟩⟩
theorem zY2 [h:VZ Ψ n z] (hn:n ≤ 1000000):CTy prog 210 [Ψ] (exP (.int .i64 z.sign)) :=
 ⟨(bo func210),fun M w vs hM hT hv => by
  obtain ⟨v,rfl,h1⟩:=fa1 hv
  obtain ⟨s,a,rfl,g⟩:=h.h h1
  obtain ⟨xs,g1,g2,g3⟩:=g.ex
  subst g3
  exact (isgn_c g1 (by omega) hM).mono fun r w' ⟨hB,e⟩ => ⟨hB,e⟩⟩
theorem zY3 [h:VZ Ψ n z] (hn:n ≤ 1000000):CTy prog 246 [Ψ] (ag (ztc n (-z))) :=
 ⟨(bo func246),fun M w vs hM hT hv => by
  obtain ⟨v,rfl,h1⟩:=fa1 hv
  obtain ⟨s,a,rfl,g⟩:=h.h h1
  obtain ⟨xs,g1,g2,g3⟩:=g.ex
  subst g3
  exact (ineg_c g1 (by omega) hM).mono fun r w' ⟨hB,q,e,g⟩ => ⟨hB,e ▸ pV ⟨rfl,g,by rw [Int.natAbs_neg,lI (s,xs)]; exact Nat.le_trans (gG g1.lt) g2⟩⟩⟩
theorem add_len2 {a b n:Nat} (ha:(limbs a).length ≤ n) (hb:(limbs b).length ≤ n) {z:Nat} (h:z ≤ a + b):(limbs z).length ≤ n + 2:=by
 have h1:=xI ha
 have h2:=xI hb
 refine yS ?_
 have:4294967296 ^ (n + 2) = 4294967296 ^ n * 4294967296 * 4294967296:=by rw [Nat.pow_succ,Nat.pow_succ]
 omega
theorem zO6:∀ {ls:List (Bool × List Nat)},ls.length ≤ 2 → (∀ a ∈ ls,(∀ x ∈ a.2,x < 4294967296) ∧ a.2.length ≤ n) → (limbs (zsum ls).natAbs).length ≤ n + 2 ∧ (limbs (kJ ls).natAbs).length ≤ 2 * n + 2
 | [],_,_ => ⟨by simp [zsum,limbs],by show (limbs 1).length ≤ _; rw [gJ]; simp⟩
 | [a],_,h => by
  have h1:=h a (by simp)
  have h2:(limbs (zx a).natAbs).length ≤ n:=by rw [lI]; exact Nat.le_trans (gG h1.1) h1.2
  have e1:zsum [a] = zx a:=by simp [zsum]
  have e2:kJ [a] = zx a:=by simp [kJ]
  rw [e1,e2]; omega
 | [a,b],_,h => by
  have h1:=h a (by simp)
  have h2:=h b (by simp)
  have h3:(limbs (zx a).natAbs).length ≤ n:=by rw [lI]; exact Nat.le_trans (gG h1.1) h1.2
  have h4:(limbs (zx b).natAbs).length ≤ n:=by rw [lI]; exact Nat.le_trans (gG h2.1) h2.2
  have e1:zsum [a,b] = zx a + zx b:=by simp [zsum]
  have e2:kJ [a,b] = zx a * zx b:=by simp [kJ]
  rw [e1,e2]
  refine ⟨add_len2 h3 h4 (Int.natAbs_add_le _ _),?_⟩
  rw [Int.natAbs_mul]
  have h5:=xI h3
  have h6:=xI h4
  refine Nat.le_trans (yS (k:=n + n) (gP h5 h6)) (by omega)
 | _ :: _ :: _ :: _,h,_ => by simp at h
theorem zprod_eq (ls:List (Bool × List Nat)):kJ ls = gY (ls.map zx):=by
 unfold kJ gY; rw [List.foldl_map]
theorem zL6 {l:List Int} [h:VZL Ψ n l] (hn:n ≤ 100000) (hl:l.length ≤ 2):CTy prog 157 [Ψ] (ag (ztc (2 * n + 2) (gY l))) :=
 ⟨(bo func157),fun M w vs hM hT hv => by
  obtain ⟨v,rfl,h1⟩:=fa1 hv
  obtain ⟨ls,k1,k2,k3⟩:=vQ (h.h h1)
  subst k2
  rw [List.length_map] at hl
  have hm:n * ls.length ≤ n * 2:=Nat.mul_le_mul_left n hl
  exact (zM2 (L:=n) (zM1 k1) (fun x hx => (k3 x hx).1) (fun x hx => (k3 x hx).2) (by omega) hM).mono fun r w' ⟨hB,q,e,g⟩ => ⟨hB,by rw [← zprod_eq]; exact e ▸ pV ⟨rfl,g,(zO6 hl k3).2⟩⟩⟩
theorem zY4 {l:List Int} [h:VZL Ψ n l] (hn:n ≤ 390000) (hl:l.length ≤ 2):CTy prog 248 [Ψ] (ag (ztc (n + 2) l.sum)) :=
 ⟨(bo func248),fun M w vs hM hT hv => by
  obtain ⟨v,rfl,h1⟩:=fa1 hv
  obtain ⟨ls,k1,k2,k3⟩:=vQ (h.h h1)
  subst k2
  rw [List.length_map] at hl
  exact (iadds_c (L:=n) (zM1 k1) (fun x hx => (k3 x hx).1) (fun x hx => (k3 x hx).2) (by omega) hM).mono fun r w' ⟨hB,q,e,g⟩ => ⟨hB,e ▸ pV ⟨rfl,g,(zO6 hl k3).1⟩⟩⟩
theorem kisub [h:VZ Ψ n z] [h':VZ Φ m y] (hn:n ≤ 380000) (hm:m ≤ 380000):CTy prog 211 [Ψ,Φ] (ag (ztc (max n m + 2) (z - y))):=by
 refine gS (σs:=[ag (ztq n z),ag (ztq m y)]) ?_ (fs1 vz_q (fs1 vz_q fs0))
 refine ctc func211 rfl rfl rfl rfl fun X => (zI (zJ rfl (zA1 (obx rfl) (zA1 (obx rfl) (tal fun b4 => (zA0 (zI (xH 5 mixed rfl rfl (d1 (old rfl rfl) ?_)))))))))
 refine d1 (old rfl rfl) (d1 (oca rfl rfl fun _ => zY3 (by omega)) (d1 (obs rfl rfl rfl rfl rfl rfl) (d1 (oca rfl rfl fun _ => zY4 (by omega) (by (simp; done))) (d0 (tst 0 rfl rfl rfl rfl rfl rfl (zA0 (yF (⟨[_],rsc 0 rfl rfl rfl rfl rs0,yN ?_⟩))))))))
 rotate_left 1
 exact mF (by simp; omega) (Nat.le_refl _)
theorem kicmp [h:VZ Ψ n z] [h':VZ Φ m y] (hn:n ≤ 380000) (hm:m ≤ 380000):CTy prog 156 [Ψ,Φ] (exP (.int .i64 (z - y).sign)):=by
 refine gS (σs:=[ag (ztq n z),ag (ztq m y)]) ?_ (fs1 vz_q (fs1 vz_q fs0))
 refine ctc func156 rfl rfl rfl rfl fun X => (zI (zJ rfl (zA1 (obx rfl) (zA1 (obx rfl) (zA1 (oas rfl) (zA0 (zI (zJ rfl (zA1 (old rfl rfl) ?_)))))))))
 refine zA1 (old rfl rfl) (zA1 (oca rfl rfl fun _ => kisub (by omega) (by omega)) (zA1 (oca rfl rfl fun _ => zY2 (by omega)) (zA1 (oas rfl) (zA0 (yF (⟨[_],rst rfl rs0,yN (PSub.refl _)⟩))))))
theorem rO [h:VN Ψ n k]:CTy prog 158 [Ψ] (ag (ztq n ((k:Nat):Int))) :=
 ⟨(bo func158),fun M w vs hM hT hv => by
  obtain ⟨v,rfl,h1⟩:=fa1 hv
  obtain ⟨xs,g1,g2,g3⟩:=(h.h h1).ex
  refine (whole_c g1 hM).mono fun r w' hx => ⟨hx.1,?_⟩
  obtain ⟨ys,g4,g5,g6⟩:=((h.h h1).cl (Cl.bel hx.1)).ex
  rw [hx.2]
  exact ⟨_,rfl,_,_,rfl,ys,g4,g5,by rw [← g6]; rfl⟩⟩
end
end Go.Proofs.YtflobagimodmgaaGreatDoor
set_option maxHeartbeats 4000000
namespace Go.Proofs.YtflobagimodmgaaGreatDoor
open Go.SL Go.RowKit Go.Proofs Tryz
def anyV:PV:=⟨fun _ _ _ => True,fun h _ => h⟩
theorem getD_mm {α:Type} [Df α] {l:List α} {s:Nat} (h:s < l.length):l.getD s Df.d ∈ l:=by rw [List.getD_eq_getElem?_getD,List.getElem?_eq_getElem h]; exact List.getElem_mem h
def anyB:PV:=⟨fun _ _ v => ∃ γ:Bool,v = .bool γ,fun h _ => h⟩
instance {a:Option Addr}:CtOf (exP (.pointer a)) (xc (.pointer a)):=⟨fun h => ⟨[_],by rw [h]; rfl,rfl,rfl⟩⟩
theorem onco {P:Program} {r:Option Nat} {N:Nat} {ops:Array Oper} {M:Nat → Prop} {S:List Ow} {p qx:Prop} {Γ:TE} {d b o:Nat} {x:Operand} {t':TypeId} {pos:String} {af:Array Edge} (hx:tv Γ x = some (qx,exP (.pointer (some ⟨b,o,none⟩)))) [Im p qx] :
  Ob P r N ops M S p ⟨some d,.nilCheck x,t',pos,af,none⟩ Γ (exP (.pointer (some ⟨b,o,none⟩))) :=
 ob1 hx (by simp [Op.operands]) fun D E w u hN hg e1 h1 => by obtain rfl:u = _:=h1; exact zW hN e1 (fin rfl)
theorem sE {P:Program} {f:FuncId} {τs:List PV} {b:Nat} {ty:TypeId} {cs cs':List CT} {ρ:PV} (hb:Bod P f)
  (k:∀ (M:Nat → Prop) (w:World) (vs us:List Value),Blk w b ty us → stp cs M w us → OkM M w → Tab M w → M b → Fa τs M w vs → CallsV P f vs w fun v w' => Le (fun k => k < w.heap.size ∧ k ≠ b) M w M w' ∧ (∃ us',Blk w' b ty us' ∧ stp cs' M w' us') ∧ ρ.p M w' v) :
  CTo P f τs [.blk b ty cs] (fun r So => r = ρ ∧ So = [.blk b ty cs']):=⟨hb,fun M w vs hg hap hnb hok hv => by
 obtain ⟨us,h1,h2⟩:=hg.own _ (List.mem_singleton.2 rfl)
 have e:Mk [.blk b ty cs'] M = Mk [.blk b ty cs] M:=by funext k; simp [Mk,Ow.bk]
 refine (k _ w vs us h1 h2 hg.ok hg.tab (.inl ⟨_,List.mem_singleton.2 rfl,rfl⟩) hv).mono fun v w' ⟨l,⟨us',g1,g2⟩,g3⟩ => ⟨⟨l.os,l.tape,l.output,l.size,fun k hk hz => l.frz k hk ⟨hk,fun c => hz ⟨_,List.mem_singleton.2 rfl,by rw [c]; rfl⟩⟩⟩,ρ,[.blk b ty cs'],⟨rfl,rfl⟩,⟨by rw [e]; exact fun k hk => Nat.lt_of_lt_of_le (hg.ok k hk) l.size,by rw [e]; exact hg.tab.mono l,fun o ho => ?_⟩,⟨fun _ _ _ h => by simp at h,trivial⟩,fun b' ⟨o,ho,e1⟩ => .inr ⟨_,List.mem_singleton.2 rfl,by rw [List.mem_singleton.1 ho] at e1; exact e1⟩,by rw [e]; exact g3⟩
 rw [List.mem_singleton.1 ho,e]
 exact ⟨us',g1,g2⟩⟩
theorem sY {M:Nat → Prop} {w:World} {N:Nat} {q:Rat} {x y:Value} (h1:IsNat M w x (limbs q.num.natAbs)) (h2:IsNat M w y (limbs q.den)) (hr:rlen q N):(rtc N q).p M w [.bool (decide (q.num < 0)),x,y]:=⟨_,_,_,rfl,rfl,h1,h2,hr.1,hr.2⟩
theorem onorm {b n N:Nat} {c:CT} {q:Rat} [hc:CQ c n q] (hn:n ≤ 10000000) (hr:rlen q N) :
  CTo prog 209 [exP (.pointer (some ⟨b,0,none⟩))] [.blk b 163 [c]] (fun r So => r = anyB ∧ So = [.blk b 163 [rtc N q]]) :=
 sE (bo func209) fun M w vs us hB hs hM hT hm hv => by
  obtain ⟨v,rfl,e⟩:=fa1 hv
  obtain rfl:v = _:=e
  obtain ⟨x,y,rfl,h1,h2⟩:=hs
  obtain rfl:y = []:=h2
  obtain ⟨s,a,d,rfl,g⟩:=hc.h h1
  obtain ⟨xs,ds,g1,g2,g3,g4,g5⟩:=g.ex
  subst g5
  exact (rD hT hB g1 g2 (by omega) (by omega) hm (fun c => c.2 rfl) (fun k h => h.1) hM).mono fun r w' ⟨e,l,c,d,k1,k2,k3⟩ => ⟨l,⟨_,k1,_,[],rfl,sY k2 k3 hr,rfl⟩,_,e⟩
theorem onorm2 {b n m k N:Nat} {z:Int} {c d:CT} [hc:CZ c n z] [hd:CN d m k] (hn:n ≤ 10000000) (hm:m ≤ 10000000) (hr:rlen (mkRat z k) N) :
  CTo prog 209 [exP (.pointer (some ⟨b,0,none⟩))] [.blk b 163 [c,d]] (fun r So => r = exP (.bool (decide (k ≠ 0))) ∧ So = [.blk b 163 [rtc N (mkRat z k)]]) :=
 sE (bo func209) fun M w vs us hB hs hM hT hmb hv => by
  obtain ⟨v,rfl,e⟩:=fa1 hv
  obtain rfl:v = _:=e
  obtain ⟨x,y,rfl,h1,x2,y2,rfl,h2,h3⟩:=hs
  obtain rfl:y2 = []:=h3
  obtain ⟨s,a,rfl,g⟩:=hc.h h1
  obtain ⟨v,rfl,g'⟩:=hd.h h2
  obtain ⟨xs,g1,g2,g3⟩:=g.ex
  obtain ⟨ds,g4,g5,g6⟩:=g'.ex
  subst g3 g6
  exact (rD hT hB g1 g4 (by omega) (by omega) hmb (fun c => c.2 rfl) (fun k h => h.1) hM).mono fun r w' ⟨e,l,c,d,k1,k2,k3⟩ => ⟨l,⟨_,k1,_,[],rfl,sY k2 k3 hr,rfl⟩,e⟩
theorem oof {n N:Nat} {p:Rat} (hn:n ≤ 10000000) (hr:rlen p N) :
  CTo prog 155 [ag (rtq n p)] [] (fun r So => ∃ b,r = exP (.pointer (some ⟨b,0,none⟩)) ∧ So = [.blk b 163 [rtc N p]]):=by
 refine ctd func155 rfl rfl rfl rfl (fun _ _ _ _ _ _ _ hs hp => fZ hs hp) fun X => (zI (zJ rfl (zA1 (obx rfl) (zA1 (oas rfl) (zA0 (zI (zJ rfl (zA1 (old rfl rfl) ?_))))))))
 refine zA1 (obd rfl rfl rfl) (tbx rfl fun b6 => (zA1 (oas rfl) (zA0 (zI (zJ rfl (zA1 (omv rfl) ?_))))))
 rotate_left 1
 refine tco [0] rfl rfl rfl (onorm hn hr) ?_
 rintro _ _ ⟨rfl,rfl⟩
 refine zA0 (zI (zJ rfl (zA1 (omv rfl) (zA1 (oas rfl) (zA0 (yF ?_))))))
 rotate_left 1
 exact ⟨[_],_,_,rst rfl rs0,List.Sublist.refl _,⟨b6,rfl,rfl⟩,yN (PSub.refl _)⟩
def pk (ty:TypeId) (c:CT):PV:=⟨fun M w v => ∃ b us,v = .pointer (some ⟨b,0,none⟩) ∧ KBlk M w b ty us ∧ c.p M w us,fun ⟨b,us,e,h,k⟩ l => let g:=l b _ _ _ h.not h.blk; ⟨b,us,e,⟨g.2,g.1⟩,c.mono k l⟩⟩
theorem zX0 {ty:TypeId} {c:CT}:PSub (pk ty c) (pa (st [c])):=fun M w v ⟨b,x,e,h,k⟩ => ⟨b,0,x,e,h.not,⟨x.toArray,ty,(0,0),h.blk,fun j v hj => by simpa using hj⟩,x,[],(List.append_nil x).symm,k,rfl⟩
theorem oI {P:Program} {f:FuncId} {τs:List PV} {ρ σ:PV} (h:CTy P f τs ρ) (k:PSub ρ σ):CTy P f τs σ:=⟨h.bod,fun M w vs a b c => (h.run M w vs a b c).mono fun r w' ⟨hB,g⟩ => ⟨hB,k _ _ _ g⟩⟩
theorem cto_pa {P:Program} {f:FuncId} {τs:List PV} {ty:TypeId} {c:CT} (h:CTo P f τs [] (fun r So => ∃ b,r = exP (.pointer (some ⟨b,0,none⟩)) ∧ So = [.blk b ty [c]])):CTy P f τs (pk ty c) :=
 ⟨h.bod,fun M w vs hM hT hv => by
  have e:Mk [] M = M:=by funext k; simp [Mk]
  refine (h.run M w vs ⟨by rw [e]; exact hM,by rw [e]; exact hT,fun _ h => by simp at h⟩ trivial (fun b ⟨o,h,_⟩ => by simp at h) hM (by rw [e]; exact hv)).mono fun v w' ⟨hb,ρ,So,⟨b,e1,e2⟩,hg,_,hn,hρ⟩ => ⟨⟨hb.os,hb.tape,hb.output,hb.size,fun k hk => hb.block k hk fun ⟨o,h,_⟩ => by simp at h⟩,?_⟩
  subst e1 e2
  obtain ⟨us,g1,x,y,rfl,g2,g3⟩:=hg.own _ (List.mem_singleton.2 rfl)
  obtain rfl:y = []:=g3
  rw [List.append_nil] at g1
  have hb':w.heap.size ≤ b:=(hn b ⟨_,List.mem_singleton.2 rfl,rfl⟩).elim id fun ⟨o,h,_⟩ => by simp at h
  exact ⟨b,x,hρ,⟨g1,fun c => by have:=hM b c; omega⟩,c.mono g2 (Cl.less fun k hk => .inr hk)⟩⟩
section
variable {Ψ Φ : PV} {n m k N : Nat} {p q : Rat} {z : Int}
instance {n:Nat} {q:Rat}:FA (rtc n q) 1 (ntc n q.num.natAbs):=⟨fun ⟨s,a,d,e,h⟩ => ⟨a,by rw [e]; rfl,pB h.num h.len.1,h.num⟩⟩
theorem kofK [h:QR Ψ n p] (hn:n ≤ 10000000) (hr:rlen p N):CTy prog 155 [Ψ] (pk 163 (rtc N p)):=gS (cto_pa (oof hn hr)) (fs1 qr_q fs0)
theorem kofN [h:QR Ψ n p] (hn:n ≤ 10000000) (hr:rlen p N):CTy prog 155 [Ψ] (pa (st [rtc N p])):=oI (kofK hn hr) zX0
theorem zV2 [h:QR Ψ n p] {P:Program} {f:FuncId} {ρ:PV} (hb:Bod P f) (hr:rlen p (n + 1) → CTy P f [ag (rtq n p)] ρ):CTy P f [Ψ] ρ :=
 ⟨hb,fun M w vs hM hT hv => by
  obtain ⟨v,rfl,h1⟩:=fa1 hv
  obtain ⟨_,_,_,_,g1⟩:=h.h h1
  exact (hr g1.rlen).run M w _ hM hT ((fs1 (qr_q (h:=h)) fs0) _ _ _ hv)⟩
theorem zV1 [h:QR Ψ n p] [h':QR Φ m q] {P:Program} {f:FuncId} {ρ:PV} (hb:Bod P f) (hr:rlen p (n + 1) → rlen q (m + 1) → CTy P f [ag (rtq n p),ag (rtq m q)] ρ):CTy P f [Ψ,Φ] ρ :=
 ⟨hb,fun M w vs hM hT hv => by
  obtain ⟨v,u,rfl,h1,h2⟩:=fa2 hv
  obtain ⟨_,_,_,_,g1⟩:=h.h h1
  obtain ⟨_,_,_,_,g2⟩:=h'.h h2
  exact (hr g1.rlen g2.rlen).run M w _ hM hT ((fs1 (qr_q (h:=h)) (fs1 (qr_q (h:=h')) fs0)) _ _ _ hv)⟩
theorem zT1 [h:QR Ψ n p] (hn:n ≤ 90000):CTy prog 120 [Ψ] (ag (rtc (n + 1) p)):=zV2 (bo func120) fun hr => by
 refine ctc func120 rfl rfl rfl rfl fun X => (zI (zJ rfl (zA1 (obx rfl) (tal fun b2 => (zA0 (zI (zJ rfl (zA1 (old rfl rfl) (zA1 (oca rfl rfl fun _ => kofN (N:=n + 1) (by omega) hr) ?_)))))))))
 refine zA1 (onc rfl) (zA1 (ofa rfl rfl) (zA1 (old rfl rfl) (tst 0 rfl rfl rfl rfl rfl rfl (zA0 (yF (⟨[_],rsc 0 rfl rfl rfl rfl rs0,yN (PSub.refl _)⟩))))))
theorem wC [h:QR Ψ n p] (hn:n ≤ 90000):CTy prog 178 [Ψ] (exP (.int .i64 (sgnR p))):=zV2 (bo func178) fun hr => by
 refine ctc func178 rfl rfl rfl rfl fun X => (zI (zJ rfl (zA1 (obx rfl) (zA1 (oas rfl) (zA0 (zI (zJ rfl (zA1 (old rfl rfl) (zA1 (oca rfl rfl fun _ => kofN (N:=n + 1) (by omega) hr) ?_)))))))))
 refine zA1 (onc rfl) (zA1 (ofa rfl rfl) (zA1 (ofx rfl) (zA1 (old rfl rfl) (zA1 (oca rfl rfl fun _ => zY2 (by omega)) (zA1 (oas rfl) (zA0 (yF (⟨[_],rst rfl rs0,yN (PSub.refl _)⟩))))))))
theorem zX9 [h:QR Ψ n p] [h':QR Φ m q] (hn:n ≤ 90000) (hm:m ≤ 90000):CTy prog 103 [Ψ,Φ] (exP (.int .i64 (cmpR p q))):=zV1 (bo func103) fun hr hs => by
 refine ctc func103 rfl rfl rfl rfl fun X => (zI (zJ rfl (zA1 (obx rfl) (zA1 (obx rfl) (zA1 (oas rfl) (zA0 (zI (xH 6 mixed rfl rfl (d1 (old rfl rfl) ?_)))))))))
 refine d1 (oca rfl rfl fun _ => kofN (N:=n + 1) (by omega) hr) (d1 (old rfl rfl) (d1 (oca rfl rfl fun _ => kofN (N:=m + 1) (by omega) hs) (d1 (oas rfl) (d1 (oas rfl) (d0 (zA0 (zI (xH 28 mixed rfl rfl (d1 (omv rfl) ?_)))))))))
 refine d1 (onc rfl) (d1 (ofa rfl rfl) (d1 (ofx rfl) (d1 (old rfl rfl) (d1 (omv rfl) (d1 (onc rfl) (d1 (ofa rfl rfl) (d1 (ofx rfl) (d1 (old rfl rfl) (d1 (oca rfl rfl fun _ => rO) ?_)))))))))
 refine d1 (obs rfl rfl rfl rfl rfl rfl) (d1 (oca rfl rfl fun _ => zL6 (by omega) (by (simp; done))) (d1 (omv rfl) (d1 (onc rfl) (d1 (ofa rfl rfl) (d1 (ofx rfl) (d1 (old rfl rfl) (d1 (omv rfl) (d1 (onc rfl) (d1 (ofa rfl rfl) ?_)))))))))
 refine d1 (ofx rfl) (d1 (old rfl rfl) (d1 (oca rfl rfl fun _ => rO) (d1 (obs rfl rfl rfl rfl rfl rfl) (d1 (oca rfl rfl fun _ => zL6 (by omega) (by (simp; done))) (d1 (oca rfl rfl fun _ => kicmp (by omega) (by omega)) (d1 (oas rfl) (d0 (zA0 (yF ?_)))))))))
 refine ⟨[_],rst rfl rs0,yN ?_⟩
 refine ps_i ?_
 rotate_left 1
 rw [zV4]
theorem krof (hk:k < 9223372036854775808):CTy prog 128 [exP (.int .i64 ((k:Nat):Int))] (ag (rtc 2 ((k:Nat):Rat))) :=
 ⟨(bo func128),fun M w vs hM hT hv => by
  obtain ⟨v,rfl,h1⟩:=fa1 hv
  obtain rfl:v = _:=h1
  exact (zQ9 hk hM).mono fun r w' ⟨hB,x,y,e,g1,g2⟩ => ⟨hB,e ▸ ⟨_,rfl,sY (q:=((k:Nat):Rat)) g1 (by rw [show ((k:Nat):Rat).den = 1 from rfl,gJ]; exact g2) ⟨yS (k:=2) (show ((k:Nat):Rat).num.natAbs < _ by rw [show ((k:Nat):Rat).num.natAbs = k from rfl]; omega),by rw [show ((k:Nat):Rat).den = 1 from rfl,gJ]; simp⟩⟩⟩⟩
theorem zQ6 {M:Nat → Prop} {w:World} {us:List Value} (h:stp [rtc n p] M w us):stp [ztc n p.num,ntc n p.den] M w us:=by
 obtain ⟨x,y,rfl,⟨s,a,d,rfl,g⟩,h2⟩:=h
 obtain rfl:y = []:=h2
 exact ⟨[.bool s,a],[d],rfl,⟨s,a,rfl,g.sgn,g.num,g.len.1⟩,[d],[],rfl,⟨d,rfl,pB g.den g.len.2,g.den⟩,rfl⟩
theorem rt_join {M:Nat → Prop} {w:World} {us:List Value} (e1:z = p.num) (e2:k = p.den) (hr:rlen p N) (h:stp [ztc n z,ntc m k] M w us):stp [rtc N p] M w us:=by
 subst e1 e2
 obtain ⟨x,y,rfl,⟨s,a,rfl,g⟩,x2,y2,rfl,⟨d,rfl,g2,g3⟩,h3⟩:=h
 obtain rfl:y2 = []:=h3
 exact ⟨[.bool s,a,d],[],rfl,by rw [g.sgn]; exact sY g.num g3 hr,rfl⟩
theorem krneg [h:QR Ψ n p] (hn:n ≤ 90000):CTy prog 179 [Ψ] (ag (rtc (n + 1) (-p))):=zV2 (bo func179) fun hr => by
 refine ctc func179 rfl rfl rfl rfl fun X => (zI (zJ rfl (zA1 (obx rfl) (tal fun b2 => (zA0 (zI (zJ rfl (zA1 (old rfl rfl) ?_))))))))
 rotate_left 1
 refine tco [] rfl rfl rfl (oof (N:=n + 1) (by omega) hr) ?_
 rintro _ _ ⟨b5,rfl,rfl⟩
 refine uZ (wU (cs':=[ztc (n + 1) p.num,ntc (n + 1) p.den]) 0 rfl zQ6) ?_
 refine zA1 (oas rfl) (zA0 (zI (zJ rfl (zA1 (omv rfl) (zA1 (omv rfl) (zA1 (onco rfl) (zA1 (ofo rfl) (zA1 (ofo rfl) (zA1 (oldo 0 rfl rfl rfl rfl) ?_)))))))))
 refine zA1 (oca rfl rfl fun _ => zY3 (by omega)) (zA1 (onco rfl) (zA1 (ofo rfl) (zA1 (ofo rfl) (tst 0 rfl rfl rfl rfl rfl rfl (zA0 (zI (zJ rfl (zA1 (omv rfl) (zA1 (onco rfl) ?_)))))))))
 refine zA1 (ofo rfl) ?_
 rotate_left 1
 refine uZ (wU (cs':=[rtc (n + 1) (-p)]) 0 rfl (rt_join (by rw [Rat.neg_num]) (by rw [Rat.neg_den]) (eB hr))) ?_
 refine zA1 (oldo 0 rfl rfl rfl rfl) (tst 1 rfl rfl rfl rfl rfl rfl (zA0 (yF (⟨[_],rsc 1 rfl rfl rfl rfl rs0,yN (PSub.refl _)⟩))))
theorem oradd {b:Nat} (hn:n ≤ 95000) (hm:m ≤ 95000) (hr:rlen (p + q) N) :
  CTo prog 201 [exP (.pointer (some ⟨b,0,none⟩)),pa (st [rtc m q])] [.blk b 163 [ztc n p.num,ntc n p.den]] (fun r So => r = tu [] ∧ So = [.blk b 163 [rtc N (p + q)]]):=by
 refine ctd func201 rfl rfl rfl rfl (fun _ _ _ _ _ _ _ hs hp => fZ hs hp) fun X => (zI (xH 32 mixed rfl rfl (d1 (omv rfl) (d1 (omv rfl) (d1 (onco rfl) (d1 (ofo rfl) (d1 (ofo rfl) (d1 (oldo 0 rfl rfl rfl rfl) (d1 (omv rfl) ?_)))))))))
 refine d1 (onc rfl) (d1 (ofa rfl rfl) (d1 (ofx rfl) (d1 (old rfl rfl) (d1 (oca rfl rfl fun _ => rO) (d1 (obs rfl rfl rfl rfl rfl rfl) (d1 (oca rfl rfl fun _ => zL6 (by omega) (by (simp; done))) (d1 (omv rfl) (d1 (onc rfl) (d1 (ofa rfl rfl) ?_)))))))))
 refine d1 (ofx rfl) (d1 (old rfl rfl) (d1 (omv rfl) (d1 (onco rfl) (d1 (ofo rfl) (d1 (ofo rfl) (d1 (oldo 0 rfl rfl rfl rfl) (d1 (oca rfl rfl fun _ => rO) (d1 (obs rfl rfl rfl rfl rfl rfl) (d1 (oca rfl rfl fun _ => zL6 (by omega) (by (simp; done))) ?_)))))))))
 refine d1 (obs rfl rfl rfl rfl rfl rfl) (d1 (oca rfl rfl fun _ => zY4 (by omega) (by (simp; done))) (d1 (onco rfl) (d1 (ofo rfl) (d1 (ofo rfl) (d0 (tst 0 rfl rfl rfl rfl rfl rfl (zA0 (zI (xH 15 mixed rfl rfl ?_)))))))))
 refine d1 (omv rfl) (d1 (omv rfl) (d1 (onco rfl) (d1 (ofo rfl) (d1 (ofo rfl) (d1 (oldo 0 rfl rfl rfl rfl) (d1 (omv rfl) (d1 (onc rfl) (d1 (ofa rfl rfl) (d1 (ofx rfl) ?_)))))))))
 refine d1 (old rfl rfl) (d1 (oca rfl rfl fun _ => kpmul (by omega) (by omega)) (d1 (onco rfl) (d1 (ofo rfl) (d1 (ofo rfl) (d0 (tst 0 rfl rfl rfl rfl rfl rfl (zA0 (zJ rfl (zA1 (omv rfl) ?_)))))))))
 rotate_left 1
 refine tco [0] rfl rfl rfl (onorm2 (N:=N) (by omega) (by omega) (by rw [wG]; exact hr)) ?_
 rintro _ _ ⟨rfl,rfl⟩
 rw [wG]
 refine zA0 ?_
 rotate_left 1
 exact ⟨[],tu [],_,rs0,List.Sublist.refl _,⟨rfl,rfl⟩,zX2⟩
theorem ormul {b:Nat} (hn:n ≤ 400000) (hm:m ≤ 400000) (hr:rlen (p * q) N) :
  CTo prog 231 [exP (.pointer (some ⟨b,0,none⟩)),pk 163 (rtc m q)] [.blk b 163 [rtc n p]] (fun r So => r = anyV ∧ So = [.blk b 163 [rtc N (p * q)]]) :=
 sE (bo func231) fun M w vs us hB hs hM hT hmb hv => by
  obtain ⟨v,u,rfl,e,⟨ba,us2,e2,hk,s2,a2,d2,e3,g2⟩⟩:=fa2 hv
  obtain rfl:v = _:=e
  obtain ⟨x,y,rfl,⟨s,a,d,rfl,g⟩,h2⟩:=hs
  obtain rfl:y = []:=h2
  subst e2 e3
  rw [g.sgn] at hB
  rw [g2.sgn] at hk
  have l1:=g.len; have l2:=g2.len
  exact (rmulp_c hT hB g.num g.den hk g2.num g2.den (by have:=l1.1; omega) (by have:=l1.2; omega) (by have:=l2.1; omega) (by have:=l2.2; omega) hmb (fun c => c.2 rfl) (fun k h => h.1) hM).mono fun r w' ⟨l,c,d,k1,k2,k3⟩ => ⟨l,⟨_,k1,_,[],rfl,sY k2 k3 hr,rfl⟩,trivial⟩
theorem iall {l:List Rat} (hn:n ≤ 90000) (hl:∀ x ∈ l,rlen x (n + 1)) (hL:l.length ≤ 1000000):CIt prog 262 [pa (sl 3 (l.map (rtq n)))] l (fun x => [pk 163 (rtc (n + 1) x)]):=by
 refine cit func262 rfl rfl rfl rfl rfl fun X y YS YX hY hS => (zI (zJ rfl (zA1 (old rfl rfl) (zA1 (oln rfl) (zA1 (omv rfl) (zA0 (yJ ?_)))))))
 rotate_left 1
 refine sO (σ:=Nat) (fun i => [(7,True,exP (.int .i64 ((i:Nat):Int)))]) (fun i => []) (fun i Y => YS (l.take i) Y ∧ i ≤ l.length) (fun i => l.length - i) (0) (tk 0 rfl (tk 5 rfl (tk 6 rfl tn))) ?_ rfl (⟨hS,by omega⟩) (fun i Y hG => ?_)
 refine tc rfl (ps_r _) (tn)
 rotate_left 1
 obtain ⟨hS,hi⟩:=hG
 refine zI (zJ rfl (zA1 (olt rfl rfl) (zA0 (zI ?_))))
 refine t_if rfl (fun c0 => ?_) (fun c0 => ?_)
 refine yV (zI (yJ (zI (zJ rfl (zA1 (oix _ rfl rfl rfl (fun _ => rfl) (fun _ => (by (have e0:=dt c0; omega)))) (zA1 (old rfl rfl) (tal fun b4 => (tst 0 rfl rfl rfl rfl rfl rfl (uZ (uQ (s:=4) 0 rfl rfl) ?_)))))))))
 refine zA0 (zI (zJ rfl (zA1 (omv rfl) (zA1 (old rfl rfl) (zA1 (oca rfl rfl fun _ => kofK (N:=n + 1) (by omega) (hl _ (getD_mm (by have:=dt c0; omega)))) ?_)))))
 rotate_left 1
 refine jK ?_
 rotate_left 1
 ·have h2:i < l.length:=by have:=dt c0; omega
  have h3:=xG (Df.d:Rat) h2
  refine t_yield hY hS h3.2 rfl rfl (fs1 (PSub.refl _) fs0) (fun Y hS => ?_) (fun Y hX => ?_)
  ·refine zA1 (ont rfl) (zA0 (zW0 rfl rfl (yV (zJ rfl (zA1 (oad rfl rfl (by omega)) (zA1 (omv rfl) (zA0 ?_)))))))
   rotate_left 1
   refine ⟨i + 1,tes ?_ ?_ (List.Sublist.refl _),?_,(by omega)⟩
   refine tc rfl (ps_r _) (tn)
   refine tc rfl (ps_r _) (tc rfl (ps_r _) (tc rfl (ps_r _) (tn)))
   rotate_left 1
   exact ⟨by rw [h3.1]; exact hS,by omega⟩
  ·refine zA1 (ont rfl) (zA0 (t_ift rfl rfl (yF ?_)))
   rotate_left 1
   exact .inr hX
 ·have:i = l.length:=by have:=df c0; omega
  subst this
  rw [List.take_length] at hS
  exact .inl hS
theorem zY0 {l:List Rat}:CTy prog 200 [sv (sl 3 (l.map (rtq n)))] (fn 262 [pa (sl 3 (l.map (rtq n)))]):=by
 refine ctc func200 rfl rfl rfl rfl fun X => (zI (zJ rfl (zA1 (obx rfl) (zA1 (oas rfl) (zA0 (zI (zJ rfl (zA1 (omf rfl) (zA1 (oas rfl) ?_)))))))))
 refine zA0 (yF (⟨[_],rst rfl rs0,yN (PSub.refl _)⟩))
theorem ctoW {P:Program} {f:FuncId} {τs σs:List PV} {Si:List Ow} {Q:PV → List Ow → Prop} (h:CTo P f σs Si Q) (k:Fsub τs σs):CTo P f τs Si Q:=⟨h.bod,fun M w vs a b c d e => h.run M w vs a b c d (k _ _ _ e)⟩
theorem oU (t:List Rat) (x:Rat):sumR (t ++ [x]) = sumR t + x:=by simp [sumR]
theorem zV8 {l:List Rat} (hn:n ≤ 90000) (hl:l.length ≤ 2) (h:∀ x ∈ l,rlen x (n + 1)):CTy prog 140 [sv (sl 3 (l.map (rtq n)))] (ag (rtc (l.length * (n + 2) + 2) (sumR l))):=by
 refine ctc func140 rfl rfl rfl rfl fun X => (zI (zJ rfl (tal fun b2 => (zA0 (zI (zJ rfl (zA1 (oca rfl rfl fun _ => krof (by (simp; done))) ?_)))))))
 refine zA1 (obd rfl rfl rfl) (tbx rfl fun b7 => (tal fun b3 => (tst 0 rfl rfl rfl rfl rfl rfl (uZ (uQ (s:=3) 0 rfl rfl) (zA0 (zI (zI (zJ rfl (zA1 (omv rfl) ?_)))))))))
 refine zA1 (oca rfl rfl fun _ => zY0) (zA0 (yJ ?_))
 rotate_left 1
 refine pZ (σ:=List Rat) (fun t => [.blk b7 163 [rtc (t.length * (n + 2) + 2) (sumR t)],.blk b2 33 (zc (Value.agg #[.bool false,.slice none 0 0,.slice none 0 0]))]) (fun pre t => t = pre ∧ rlen (sumR t) (t.length * (n + 2) + 2)) [] rfl (iall (by omega) h (by omega)) (fun _ => rfl) rfl zS0 (by simp [sumR]) ⟨rfl,by simp [sumR]; exact jT rlen_zero (by omega)⟩ (fun pre x post t hx hJ Y y hlp => ?_) (fun t hJ Y _ => ?_)
 ·obtain ⟨rfl,hr⟩:=hJ
  have hx2:=h x (by rw [hx]; simp)
  have htl:t.length * (n + 2) ≤ 1 * (n + 2):=Nat.mul_le_mul_right _ (by rw [hx] at hl; simp at hl; omega)
  have hr2:rlen (sumR t + x) ((t ++ [x]).length * (n + 2) + 2):=jT (qH hr hx2) (by rw [List.length_append,List.length_singleton,Nat.succ_mul]; omega)
  refine zJ rfl (zA1 (oas rfl) (zA0 (⟨rfl,fun Y hl => (yJ (zJ rfl (zA1 (old rfl rfl) (zA1 (omv rfl) ?_))))⟩)))
  rotate_left 1
  refine uZ (wU (cs':=[ztc (t.length * (n + 2) + 2) (sumR t).num,ntc (t.length * (n + 2) + 2) (sumR t).den]) 0 rfl zQ6) ?_
  refine tco [0] rfl rfl rfl (ctoW (oradd (m:=n + 1) (by omega) (by omega) hr2) (fs1 (PSub.refl _) (fs1 zX0 fs0))) ?_
  rintro _ _ ⟨rfl,rfl⟩
  refine zA0 ?_
  rotate_left 1
  refine ⟨t ++ [x],?_,?_⟩
  rotate_left 1
  rotate_left 1
  ·rw [oU]; exact List.Sublist.refl _
  ·exact ⟨rfl,by rw [oU]; exact hr2⟩
 ·obtain ⟨rfl,hr⟩:=hJ
  refine zI (zJ rfl (zA1 (old rfl rfl) (zA1 (onco rfl) (zA1 (ofo rfl) (zA1 (oldo 0 rfl rfl rfl rfl) (tst 1 rfl rfl rfl rfl rfl rfl (zA0 (yF (⟨[_],rsc 1 rfl rfl rfl rfl rs0,yN (PSub.refl _)⟩)))))))))
abbrev fX (l:List Rat):Rat:=l.foldl (· * ·) 1
theorem nQ (t:List Rat) (x:Rat):fX (t ++ [x]) = fX t * x:=by simp [fX]
theorem wrmul {l:List Rat} (hn:n ≤ 90000) (hl:l.length ≤ 2) (h:∀ x ∈ l,rlen x (n + 1)):CTy prog 171 [sv (sl 3 (l.map (rtq n)))] (ag (rtc (l.length * (n + 2) + 2) (fX l))):=by
 refine ctc func171 rfl rfl rfl rfl fun X => (zI (zJ rfl (tal fun b2 => (zA0 (zI (zJ rfl (zA1 (oca rfl rfl fun _ => krof (by (simp; done))) ?_)))))))
 refine zA1 (obd rfl rfl rfl) (tbx rfl fun b7 => (tal fun b3 => (tst 0 rfl rfl rfl rfl rfl rfl (uZ (uQ (s:=3) 0 rfl rfl) (zA0 (zI (zI (zJ rfl (zA1 (omv rfl) ?_)))))))))
 refine zA1 (oca rfl rfl fun _ => zY0) (zA0 (yJ ?_))
 rotate_left 1
 refine pZ (σ:=List Rat) (fun t => [.blk b7 163 [rtc (t.length * (n + 2) + 2) (fX t)],.blk b2 33 (zc (Value.agg #[.bool false,.slice none 0 0,.slice none 0 0]))]) (fun pre t => t = pre ∧ rlen (fX t) (t.length * (n + 2) + 2)) [] rfl (iall (by omega) h (by omega)) (fun _ => rfl) rfl zS0 (by simp [fX]) ⟨rfl,by simp [fX]; exact jT (show rlen 1 1 from ⟨by rw [show (1:Rat).num.natAbs = 1 from rfl,gJ]; simp,by rw [show (1:Rat).den = 1 from rfl,gJ]; simp⟩) (by omega)⟩ (fun pre x post t hx hJ Y y hlp => ?_) (fun t hJ Y _ => ?_)
 ·obtain ⟨rfl,hr⟩:=hJ
  have hx2:=h x (by rw [hx]; simp)
  have htl:t.length * (n + 2) ≤ 1 * (n + 2):=Nat.mul_le_mul_right _ (by rw [hx] at hl; simp at hl; omega)
  have hr2:rlen (fX t * x) ((t ++ [x]).length * (n + 2) + 2):=jT (eD hr hx2) (by rw [List.length_append,List.length_singleton,Nat.succ_mul]; omega)
  refine zJ rfl (zA1 (oas rfl) (zA0 (⟨rfl,fun Y hl => (yJ (zJ rfl (zA1 (old rfl rfl) (zA1 (omv rfl) ?_))))⟩)))
  rotate_left 1
  refine tco [0] rfl rfl rfl (ormul (m:=n + 1) (by omega) (by omega) hr2) ?_
  rintro _ _ ⟨rfl,rfl⟩
  refine zA0 ?_
  rotate_left 1
  refine ⟨t ++ [x],?_,?_⟩
  rotate_left 1
  rotate_left 1
  ·rw [nQ]; exact List.Sublist.refl _
  ·exact ⟨rfl,by rw [nQ]; exact hr2⟩
 ·obtain ⟨rfl,hr⟩:=hJ
  refine zI (zJ rfl (zA1 (old rfl rfl) (zA1 (onco rfl) (zA1 (ofo rfl) (zA1 (oldo 0 rfl rfl rfl rfl) (tst 1 rfl rfl rfl rfl rfl rfl (zA0 (yF (⟨[_],rsc 1 rfl rfl rfl rfl rs0,yN (PSub.refl _)⟩)))))))))
theorem vq_rl {l:List Rat} [h:VQ Ψ n l] {M:Nat → Prop} {w:World} {v:Value} (h1:Ψ.p M w v):∀ x ∈ l,rlen x (n + 1):=fun x hx => by
 obtain ⟨cs,h3,h2⟩:=(h.h h1).row
 obtain ⟨i,hi,rfl⟩:=List.mem_iff_getElem.1 hx
 obtain ⟨us,_,_,s,a,d,_,g⟩:=h2 i _ (List.getElem?_eq_getElem hi)
 exact g.rlen
theorem zV0 {l:List Rat} [h:VQ Ψ n l] {P:Program} {f:FuncId} {ρ:PV} (hb:Bod P f) (k:(∀ x ∈ l,rlen x (n + 1)) → CTy P f [sv (sl 3 (l.map (rtq n)))] ρ):CTy P f [Ψ] ρ :=
 ⟨hb,fun M w vs hM hT hv => by
  obtain ⟨v,e,h1⟩:=fa1 hv
  subst e
  exact (k (vq_rl h1)).run M w _ hM hT (fs1 vq_q fs0 _ _ _ hv)⟩
theorem zJ1 {n N:Nat} {p q:Rat} (e:p = q) (h:rlen q N):PSub (ag (rtc n p)) (ag (rtc N q)):=fun _ _ _ ⟨us,e1,s,a,d,e2,g⟩ => ⟨us,e1,s,a,d,e2,by subst e; exact g.relen h⟩
theorem kraddN [h:VQ Ψ n [p,q]] (hn:n ≤ 90000) (hr:rlen (p + q) N):CTy prog 140 [Ψ] (ag (rtc N (p + q))):=zV0 (h:=h) (bo func140) fun k => oI (zV8 hn (by simp) k) (zJ1 (by simp [sumR,Rat.zero_add]) hr)
theorem zY1 [h:VQ Ψ n [p,q]] (hn:n ≤ 90000):CTy prog 140 [Ψ] (ag (rtc (2 * n + 3) (p + q))):=zV0 (h:=h) (bo func140) fun k => oI (zV8 hn (by simp) k) (zJ1 (by simp [sumR,Rat.zero_add]) (jT (qH (k p (by simp)) (k q (by simp))) (by omega)))
theorem zX8 [h:VQ Ψ n [p,q]] (hn:n ≤ 90000):CTy prog 171 [Ψ] (ag (rtc (2 * n + 3) (p * q))):=zV0 (h:=h) (bo func171) fun k => oI (wrmul hn (by simp) k) (zJ1 (by simp [fX,Rat.one_mul]) (jT (eD (k p (by simp)) (k q (by simp))) (by omega)))
theorem zT0 [h:QR Ψ n p] [h':QR Φ m q] (hn:n ≤ 80000) (hm:m ≤ 80000):CTy prog 170 [Ψ,Φ] (ag (rtc (n + m + 3) (p - q))):=zV1 (bo func170) fun hr hs => by
 have e:p + -q = p - q:=(Rat.sub_eq_add_neg p q).symm
 refine ctc func170 rfl rfl rfl rfl fun X => (zI (zJ rfl (zA1 (obx rfl) (zA1 (obx rfl) (tal fun b4 => (zA0 (zI (xH 5 mixed rfl rfl (d1 (old rfl rfl) ?_)))))))))
 refine d1 (old rfl rfl) (d1 (oca rfl rfl fun _ => krneg (by omega)) (d1 (obs rfl rfl rfl rfl rfl rfl) (d1 (oca rfl rfl fun _ => kraddN (N:=n + m + 3) (by omega) (jT (qH hr (eB hs)) (by omega))) (d0 (tst 0 rfl rfl rfl rfl rfl rfl (zA0 (yF (⟨[_],rsc 0 rfl rfl rfl rfl rs0,yN ?_⟩))))))))
 rotate_left 1
 exact zJ1 e (e ▸ jT (qH hr (eB hs)) (by omega))
end
end Go.Proofs.YtflobagimodmgaaGreatDoor
namespace Go.Proofs.YtflobagimodmgaaGreatDoor
open Go.SL Go.RowKit Go.Proofs Tryz
theorem k7of {k:Nat} (hk:k < 9223372036854775808):CTy prog 94 [exP (.int .i64 ((k:Nat):Int))] (ag (rtc 2 ((k:Nat):Rat))) :=
 ⟨(bo func94),fun M w vs hM hT hv => by
  obtain ⟨v,rfl,h1⟩:=fa1 hv
  obtain rfl:v = _:=h1
  exact (rG hk hM).mono fun r w' ⟨hB,x,y,z,e,g⟩ => ⟨hB,e ▸ zQ5 g⟩⟩
theorem pc_ret {M:Nat → Prop} {w:World} {n:Nat} {q:P2} {s:Bool} {a d:Value} {t:Bool} {b e:Value} (h:PC M w n q s a d t b e):(ag (st [rtc n q.1,rtc n q.2])).p M w (.agg #[.bool s,a,d,.bool t,b,e]):=⟨_,rfl,[.bool s,a,d],[.bool t,b,e],rfl,⟨s,a,d,rfl,h.x⟩,[.bool t,b,e],[],rfl,⟨t,b,e,rfl,h.y⟩,rfl⟩
theorem k8of {k l:Nat} (hk:k < 9223372036854775808) (hl:l < 9223372036854775808):CTy prog 85 [exP (.int .i64 ((k:Nat):Int)),exP (.int .i64 ((l:Nat):Int))] (ag (st [rtc 2 ((k:Nat):Rat),rtc 2 ((l:Nat):Rat)])) :=
 ⟨(bo func85),fun M w vs hM hT hv => by
  obtain ⟨v,u,rfl,h1,h2⟩:=fa2 hv
  obtain rfl:v = _:=h1
  obtain rfl:u = _:=h2
  exact (r8of_c hk hl hM).mono fun r w' ⟨hB,_,_,_,_,_,_,e,g⟩ => ⟨hB,e ▸ pc_ret g⟩⟩
theorem omn {P:Program} {r:Option Nat} {N:Nat} {ops:Array Oper} {M:Nat → Prop} {S:List Ow} {p q1 q2:Prop} {Γ:TE} {Ψ Φ:PV} {d:Nat} {x y:Operand} {ts:Array TypeId} {t':TypeId} {pos:String} {af:Array Edge} {k:IntKind} {a b:Int}
  (hx:tv Γ x = some (q1,Ψ)) (hy:tv Γ y = some (q2,Φ)) [Im p q1] [Im p q2] [ha:VI Ψ k a] [hb:VI Φ k b]:Ob P r N ops M S p ⟨some d,.call ⟨.builtin .min,#[x,y],ts⟩,t',pos,af,none⟩ Γ (exP (.int k (min a b))) :=
 ob2 hx hy (by simp [Op.operands,Call.operands]) (by simp [Op.operands,Call.operands]) fun D E w u v hN _ e1 e2 h1 h2 => by
  rw [ha.h h1] at e1; rw [hb.h h2] at e2
  refine yY hN (by intro c hc; cases hc) (fun ac ha => ?_) (fin rfl)
  have e:(Builtin.min_ ts t' #[.int k a,.int k b]).run P w = .ok (.int k (min a b)) w:=by
   have:(if b < a then b else a) = min a b:=by split <;> omega
   rw [← this]; rfl
  simp only [execOp,resolve,invoke,builtin,Sem.run_bind,Sem.run_pure,Result.andThen,List.map_toArray,List.map_cons,List.map_nil,ha.ev e1,ha.ev e2]
  rw [e]
theorem getD_in {α:Type} [Df α] {l:List α} {s:Nat} (h:s < l.length):l.getD s Df.d ∈ l:=by rw [List.getD_eq_getElem?_getD,List.getElem?_eq_getElem h]; exact List.getElem_mem h
end Go.Proofs.YtflobagimodmgaaGreatDoor
set_option maxHeartbeats 4000000
namespace Go.Proofs.YtflobagimodmgaaGreatDoor
open Go.SL Go.RowKit Go.Proofs Tryz
section
variable {xs ys : List Nat} {Ψ Φ : PV}
theorem k2down {j:Int} [h:VX Ψ xs] (hl:xs.length ≤ 100000000):CTy prog 226 [Ψ,exP (.int .i64 j)] (sv (ntx (limbs (val xs / 2 ^ cntN j 65536)))) :=
 ⟨(bo func226),fun M w vs hM hT hv => by
  obtain ⟨v,u,rfl,k1,k2⟩:=fa2 hv
  obtain rfl:u = _:=k2
  exact (rdown_c (h.h k1) hl hM).mono fun r w' ⟨hB,g⟩ => ⟨hB,r,rfl,g.nat hM⟩⟩
theorem k2up {j:Int} [h:VX Ψ xs] (hl:xs.length ≤ 100000000):CTy prog 186 [Ψ,exP (.int .i64 j)] (sv (ntx (limbs (val xs * 2 ^ cntN j 65536)))) :=
 ⟨(bo func186),fun M w vs hM hT hv => by
  obtain ⟨v,u,rfl,k1,k2⟩:=fa2 hv
  obtain rfl:u = _:=k2
  exact (zW5 (h.h k1) hl hM).mono fun r w' ⟨hB,g⟩ => ⟨hB,r,rfl,g.nat hM⟩⟩
theorem k1cmp [h:VX Ψ xs] [k:VX Φ ys] (hl:xs.length ≤ 1099511627776) (hm:ys.length ≤ 1099511627776):CTy prog 227 [Ψ,Φ] (exP (.int .i64 (cmpN (val xs) (val ys)))) :=
 ⟨(bo func227),fun M w vs hM hT hv => by
  obtain ⟨v,u,rfl,k1,k2⟩:=fa2 hv
  exact zR2 (h.h k1) (k.h k2) hl hm hM⟩
end
theorem kplain7 {a b:Nat} (ha:a < 18446744073709551616) (hb:b < 18446744073709551616):CTy prog 165 [exP (.int .u64 (a:Int)),exP (.int .u64 (b:Int))] (exP (.int .u64 ((Nat.gcd a b:Nat):Int))):=by
 refine ctc func165 rfl rfl rfl rfl fun X => (zI (zJ rfl (zA1 (oas rfl) (zA0 (zI (yJ ?_))))))
 rotate_left 1
 refine jJ (σ:=Nat × Nat) (fun s => [(0,True,exP (.int .u64 ((s.1:Nat):Int))),(1,True,exP (.int .u64 ((s.2:Nat):Int)))]) (fun s => []) (fun s => s.1 < 18446744073709551616 ∧ s.2 < 18446744073709551616 ∧ Nat.gcd s.1 s.2 = Nat.gcd a b) (fun s => s.2) ((a,b)) (tn) ?_ rfl (⟨ha,hb,rfl⟩) (fun s hJ Y _ => ?_)
 refine tc rfl (ps_r _) (tc rfl (ps_r _) (tn))
 rotate_left 1
 obtain ⟨p,q⟩:=s
 dsimp only at hJ ⊢
 obtain ⟨hp,hq,hg⟩:=hJ
 refine zI (zI (zJ rfl (zA1 (omv rfl) (zA1 (ogt rfl rfl) (zA0 ?_)))))
 refine t_if rfl (fun c0 => ?_) (fun c0 => ?_)
 refine yV (yJ (xH 6 mixed rfl rfl (d1 (omv rfl) (d1 (omv rfl) (d1 (omv rfl) (d1 (ormw rfl rfl (by (have e0:=dt c0; omega))) (d1 (oas rfl) (d1 (oas rfl) (d0 ?_)))))))))
 refine zA0 ?_
 rotate_left 1
 refine jK (zI (zJ rfl (zA1 (omv rfl) (zA1 (oas rfl) (zA0 (yF (⟨[_],rst rfl rs0,yN ?_⟩)))))))
 refine ps_i ?_
 rotate_left 1
 ·have h1:0 < q:=by have:=dt c0; omega
  have hlt:=Nat.mod_lt p h1
  refine ⟨(q,p % q),tes ?_ ?_ (List.Sublist.refl _),?_,(by omega)⟩
  refine tc rfl (ps_r _) (tc rfl (ps_r _) (tn))
  refine tn
  rotate_left 1
  ·exact ⟨hq,by dsimp only; omega,by dsimp only; rw [← hg,Nat.gcd_comm,← Nat.gcd_rec,Nat.gcd_comm]⟩
 ·have h1:q = 0:=by have:=df c0; omega
  rw [← hg,h1,Nat.gcd_zero_right]
theorem ktwos {xs:List Nat} (hx:∀ x ∈ xs,x < 4294967296) (h0:val xs ≠ 0) (hl:xs.length ≤ 1000000):CTy prog 225 [sv (ntx xs)] (exP (.int .i64 ((tz (val xs):Nat):Int))):=by
 refine ctc func225 rfl rfl rfl rfl fun X => (zI (zJ rfl (zA1 (oas rfl) (zA0 (zI (zJ rfl (zA1 (oas rfl) (zA0 (zI ?_)))))))))
 refine zI (zJ rfl (zA1 (oas rfl) (zA0 (yJ ?_))))
 rotate_left 1
 refine jJ (σ:=Nat) (fun s => [(3,True,exP (.int .i64 ((32 * s:Nat):Int))),(4,True,exP (.int .i64 ((s:Nat):Int)))]) (fun s => []) (fun s => s ≤ xs.length ∧ ∀ j,j < s → xs.getD j 0 = 0) (fun s => xs.length - s) (0) (tk 0 rfl tn) ?_ rfl (⟨by omega,by omega⟩) (fun s hJ Y _ => ?_)
 refine tc rfl (ps_r _) (tc rfl (ps_r _) (tn))
 rotate_left 1
 obtain ⟨j1,j2⟩:=hJ
 have hs:s < xs.length:=by
  rcases Nat.lt_or_ge s xs.length with h | h
  ·exact h
  ·exact absurd (val_zero_all fun j hj => j2 j (by omega)) h0
 refine zI (zI (zJ rfl (zA1 (omv rfl) (zA1 (omv rfl) (zA1 (oln rfl) (zA1 (olt rfl rfl) (zA1 (omv rfl) (t1g rfl rfl (omv rfl) (t1g rfl rfl (omv rfl) ?_)))))))))
 refine t1g rfl rfl (oix _ rfl rfl rfl (fun g => rfl) (fun g => (by omega))) (t1g rfl rfl (old rfl rfl) (t1g rfl rfl (oeq rfl rfl) (zA1 (opk rfl rfl rfl) (zA0 ?_))))
 refine t_if rfl (fun c0 => ?_) (fun c0 => ?_)
 refine yV (zI (yJ (zJ rfl (zA1 (omv rfl) (zA1 (oad rfl rfl (by omega)) (zA1 (oas rfl) (zA0 (zJ rfl (zA1 (omv rfl) ?_)))))))))
 refine zA1 (oad rfl rfl (by omega)) (zA1 (oas rfl) (zA0 ?_))
 rotate_left 1
 refine jK (zI (zI (zJ rfl (zA1 (omv rfl) (zA1 (omv rfl) (zA1 (oqu rfl rfl (by omega)) (zA1 (oix s rfl rfl rfl (fun _ => (by omega)) (fun _ => (by omega))) (zA1 (old rfl rfl) (zA1 (oas rfl) ?_)))))))))
 refine zA0 (yJ ?_)
 rotate_left 1
 ·have h1:=dand c0
  refine ⟨s + 1,tes ?_ ?_ (List.Sublist.refl _),?_,(by omega)⟩
  refine tc rfl (ps_r _) (tc rfl (ps_r _) (tn))
  refine tc rfl (ps_r _) (tn)
  rotate_left 1
  refine ⟨by omega,fun j hj => ?_⟩
  rcases Nat.lt_or_ge j s with c | c
  ·exact j2 j c
  ·obtain rfl:j = s:=by omega
   exact Int.natCast_eq_zero.1 h1.2
 ·have hx0:xs.getD s 0 ≠ 0:=fun e => dor c0 ⟨by omega,Int.natCast_eq_zero.2 e⟩
  have hx2:xs.getD s 0 < 4294967296:=gX hx s
  have htz:=tz_limbs hx j2 hs hx0
  have h32:=mC (n:=32) hx0 (Nat.lt_of_lt_of_eq hx2 (by decide))
  refine jJ (σ:=Nat × Nat) (fun t => [(3,True,exP (.int .i64 ((32 * s + t.1:Nat):Int))),(5,True,exP (.int .u32 ((t.2:Nat):Int)))]) (fun t => []) (fun t => t.2 ≠ 0 ∧ t.2 < 4294967296 ∧ tz (xs.getD s 0) = t.1 + tz t.2) (fun t => t.2) ((0,xs.getD s 0)) (tn) ?_ rfl (⟨hx0,hx2,by simp⟩) (fun t hJ Y _ => ?_)
  refine tc rfl (ps_r _) (tc rfl (ps_r _) (tn))
  rotate_left 1
  obtain ⟨n,t⟩:=t
  dsimp only at hJ ⊢
  obtain ⟨k1,k2,k3⟩:=hJ
  refine zI (zI (zJ rfl (zA1 (omv rfl) (zA1 (ormw rfl rfl (by omega)) (zA1 (oeq rfl rfl) (zA0 ?_))))))
  refine t_if rfl (fun c1 => ?_) (fun c1 => ?_)
  refine yV (zI (yJ (zJ rfl (zA1 (omv rfl) (zA1 (oad rfl rfl (by omega)) (zA1 (oas rfl) (zA0 (zJ rfl (zA1 (omv rfl) ?_)))))))))
  refine zA1 (oquw rfl rfl (by (simp only [zS5]; omega))) (zA1 (oas rfl) (zA0 ?_))
  rotate_left 1
  refine jK (zI (zJ rfl (zA1 (omv rfl) (zA1 (oas rfl) (zA0 (yF (⟨[_],rst rfl rs0,yN ?_⟩)))))))
  refine ps_i ?_
  rotate_left 1
  ·have h2:t % 2 = 0:=by have:=dt c1; omega
   have:=wR k1 h2
   refine ⟨(n + 1,t / 2),tes ?_ ?_ (List.Sublist.refl _),(by (simp only [zS5]; omega)),(by omega)⟩
   refine tc rfl (ps_r _) (tc rfl (ps_r _) (tn))
   refine tn
  ·have h2:t % 2 = 1:=by have:=df c1; omega
   have:=vS h2
   rw [htz,k3,this]; rfl
theorem tz_bd {x n:Nat} (h0:x ≠ 0) (h:(limbs x).length ≤ n) (hn:n ≤ 2000):cntN ((tz x:Nat):Int) 65536 = tz x:=by
 have:=sK h0 h
 exact cntN_id (m:=65536) (by omega)
theorem rP {A:Nat} (h0:A ≠ 0) (hl:(limbs A).length ≤ 2000):CTy prog 225 [sv (ntx (limbs A))] (exP (.int .i64 ((tz A:Nat):Int))):=by
 have:=ktwos (gQ A) (by rw [zT]; exact h0) (by omega)
 rwa [zT] at this
theorem kodL {A:Nat} (h0:A ≠ 0) (hl:(limbs A).length ≤ 2000):CTy prog 226 [sv (ntx (limbs A)),exP (.int .i64 ((tz A:Nat):Int))] (sv (ntx (limbs (od A)))):=by
 have:=k2down (Ψ:=sv (ntx (limbs A))) (j:=((tz A:Nat):Int)) (show (limbs A).length ≤ 100000000 by omega)
 rw [zT,tz_bd h0 hl (by omega)] at this
 exact this
theorem kcmpL {A B:Nat} (h1:(limbs A).length ≤ 2000) (h2:(limbs B).length ≤ 2000):CTy prog 227 [sv (ntx (limbs A)),sv (ntx (limbs B))] (exP (.int .i64 (cmpN A B))):=by
 have:=k1cmp (Ψ:=sv (ntx (limbs A))) (Φ:=sv (ntx (limbs B))) (by omega) (by omega)
 rwa [zT,zT] at this
theorem zX7 {A B:Nat} (h1:(limbs A).length ≤ 2000) (h2:(limbs B).length ≤ 2000):CTy prog 228 [sv (ntx (limbs A)),sv (ntx (limbs B))] (tu [sv (ntx (limbs (A - B))),exP (.int .i64 (if A < B then 10 else 0))]):=by
 have:=zU0 (xs:=limbs A) (ys:=limbs B) (by omega) (by omega)
 rwa [zT,zT] at this
theorem kgcd4 {xs ys:List Nat} (hx:∀ x ∈ xs,x < 4294967296) (hy:∀ x ∈ ys,x < 4294967296) (h1:xs.length ≤ 2000) (h2:ys.length ≤ 2000):CTy prog 167 [sv (ntx xs),sv (ntx ys)] (sv (ntx (limbs (Nat.gcd (val xs) (val ys))))):=by
 have hlx:(limbs (val xs)).length ≤ 2000:=Nat.le_trans (gG hx) h1
 have hly:(limbs (val ys)).length ≤ 2000:=Nat.le_trans (gG hy) h2
 have ex:=@yL (val xs)
 have ey:=@yL (val ys)
 have hc:∀ b:Bool,(decide (((limbs (val xs)).length:Int) = 0) || decide (((limbs (val ys)).length:Int) = 0)) = b → (b = true → val xs = 0 ∨ val ys = 0) ∧ (b = false → val xs ≠ 0 ∧ val ys ≠ 0):=fun b h => by
  subst h; simp only [Bool.or_eq_true,Bool.or_eq_false_iff,decide_eq_true_eq,decide_eq_false_iff_not]; omega
 refine ctc func167 rfl rfl rfl rfl fun X => (zI (zJ rfl (zA1 (oas rfl) (zA0 (zI (zJ rfl (zA1 (omv rfl) (zA1 (oca rfl rfl fun _ => rS (by omega)) (zA1 (omv rfl) ?_)))))))))
 refine zA1 (oca rfl rfl fun _ => rS (by omega)) (zA1 (oas rfl) (zA1 (oas rfl) (zA0 (zI (zI (zJ rfl (zA1 (omv rfl) (zA1 (oln rfl) (zA1 (oeq rfl rfl) ?_)))))))))
 refine zA1 (omv rfl) (t1g rfl rfl (omv rfl) (t1g rfl rfl (oln rfl) (t1g rfl rfl (oeq rfl rfl) (zA1 (opk rfl rfl rfl) (zA0 ?_)))))
 refine t_if rfl (fun c0 => ?_) (fun c0 => ?_)
 refine zI (zJ rfl (zA1 (omv rfl) (zA1 (omv rfl) (zA1 (obs rfl rfl rfl rfl rfl rfl) (zA1 (oca rfl rfl fun _ => zZ4 (xss:=[limbs (val xs),limbs (val ys)]) (by (simp; omega)) (by (simp; done))) (zA1 (oas rfl) (zA0 (yF (⟨[_],rst rfl rs0,yN ?_⟩)))))))))
 rotate_left 1
 refine yV (zI (zJ rfl (zA1 (omv rfl) ?_)))
 refine zA1 (oca rfl rfl fun _ => rP ?_ (by omega)) ?_
 rotate_left 1
 refine zA1 (omv rfl) ?_
 refine zA1 (oca rfl rfl fun _ => rP ?_ (by omega)) ?_
 rotate_left 1
 refine zA1 (omn rfl rfl) (zA1 (oas rfl) (zA0 (zI (yJ ?_))))
 rotate_left 1
 ·have h0:=(hc _ c0.h).1 rfl
  rw [show (List.map val [limbs (val xs),limbs (val ys)]).sum = Nat.gcd (val xs) (val ys) from by
   simp only [List.map_cons,List.map_nil,List.sum_cons,List.sum_nil,zT]
   rcases h0 with h0 | h0 <;> rw [h0] <;> simp]
  exact PSub.refl _
 ·exact ((hc _ c0.h).2 rfl).1
 ·exact ((hc _ c0.h).2 rfl).2
 obtain ⟨hx0,hy0⟩:=(hc _ c0.h).2 rfl
 have hmin:min (tz (val xs)) (tz (val ys)) < 64000:=by have:=sK hx0 hlx; omega
 refine jJ (σ:=Nat × Nat) (fun s => [(0,True,sv (ntx (limbs s.1))),(1,True,sv (ntx (limbs s.2)))]) (fun s => []) (fun s => GI (Nat.gcd (od (val xs)) (od (val ys))) s.1 s.2 ∧ (limbs s.1).length ≤ 2000 ∧ (limbs s.2).length ≤ 2000) (fun s => s.1 + s.2) ((val xs,val ys)) (tk 5 rfl tn) ?_ rfl (⟨⟨hy0,fun _ => rfl,fun h => absurd h hx0⟩,hlx,hly⟩) (fun s hJ Y _ => ?_)
 refine tc rfl (ps_r _) (tc rfl (ps_r _) (tn))
 rotate_left 1
 obtain ⟨A,B⟩:=s
 dsimp only at hJ ⊢
 obtain ⟨hg,hA,hB⟩:=hJ
 have eA:=@yL A
 have hB0:B ≠ 0:=hg.1
 have lA:=Nat.le_trans (yG (zK6 A)) hA
 have lB:=Nat.le_trans (yG (zK6 B)) hB
 refine zI (zI (zJ rfl (zA1 (omv rfl) (zA1 (oln rfl) (zA1 (ogt rfl rfl) (zA0 ?_))))))
 refine t_if rfl (fun c1 => ?_) (fun c1 => ?_)
 refine yV (yJ (zI (zJ rfl (zA1 (omv rfl) (zA1 (omv rfl) (zA1 (oca rfl rfl fun _ => rP (by (have e0:=dt c1; omega)) (by omega)) (zA1 (oca rfl rfl fun _ => kodL (by (have e0:=dt c1; omega)) (by omega)) (zA1 (oas rfl) (zA0 ?_)))))))))
 refine zI (zJ rfl (zA1 (omv rfl) (zA1 (omv rfl) (zA1 (oca rfl rfl fun _ => rP (by omega) (by omega)) (zA1 (oca rfl rfl fun _ => kodL (by omega) (by omega)) (zA1 (oas rfl) (zA0 (zI (zI ?_)))))))))
 refine zJ rfl (zA1 (omv rfl) (zA1 (omv rfl) (zA1 (oca rfl rfl fun _ => kcmpL (by omega) (by omega)) (zA1 (olt rfl rfl) (zA0 ?_)))))
 refine t_if rfl (fun c2 => ?_) (fun c2 => ?_)
 refine zJ rfl (zA1 (omv rfl) (zA1 (omv rfl) (zA1 (oas rfl) (zA1 (oas rfl) (zA0 (zJ rfl (zA1 (omv rfl) (zA1 (omv rfl) (zA1 (oca rfl rfl fun _ => zX7 (by omega) (by omega)) ?_)))))))))
 refine zA1 (omv rfl) (zA1 (oex rfl rfl) (zA1 (oex rfl rfl) (zA1 (oas rfl) (zA0 ?_))))
 rotate_left 1
 refine yV (zJ rfl (zA1 (omv rfl) (zA1 (omv rfl) (zA1 (oca rfl rfl fun _ => zX7 (by omega) (by omega)) (zA1 (omv rfl) (zA1 (oex rfl rfl) (zA1 (oex rfl rfl) (zA1 (oas rfl) (zA0 ?_)))))))))
 rotate_left 1
 refine jK (zI (zJ rfl (zA1 (omv rfl) (zA1 (omv rfl) (zA1 (oca rfl rfl fun _ => k2up (by omega)) (zA1 (oas rfl) (zA0 (yF (⟨[_],rst rfl rs0,yN ?_⟩)))))))))
 rotate_left 1
 ·have hA0:A ≠ 0:=by have:=dt c1; omega
  have hlt:od A < od B:=aG.1 (dt c2)
  obtain ⟨g1,g2⟩:=(zM4 hg hA0).2 (by omega)
  refine ⟨(od B - od A,od A),tes ?_ ?_ (List.Sublist.refl _),?_,(by omega)⟩
  refine tc rfl (ps_r _) (tc rfl (ps_r _) (tn))
  refine tc rfl (ps_r _) (tn)
  rotate_left 1
  exact ⟨g1,Nat.le_trans (yG (Nat.sub_le _ _)) lB,lA⟩
 ·have hA0:A ≠ 0:=by have:=dt c1; omega
  have hlt:¬ od A < od B:=fun h => df c2 (aG.2 h)
  obtain ⟨g1,g2⟩:=(zM4 hg hA0).1 (by omega)
  refine ⟨(od A - od B,od B),tes ?_ ?_ (List.Sublist.refl _),?_,(by omega)⟩
  refine tc rfl (ps_r _) (tc rfl (ps_r _) (tn))
  refine tc rfl (ps_r _) (tn)
  rotate_left 1
  exact ⟨g1,Nat.le_trans (yG (Nat.sub_le _ _)) lA,lB⟩
 ·have hA0:A = 0:=by have:=df c1; omega
  rw [zT,cntN_min (by omega),hg.2.2 hA0,← gcd_od hx0 hy0]
  exact PSub.refl _
end Go.Proofs.YtflobagimodmgaaGreatDoor
set_option maxHeartbeats 4000000
namespace Go.Proofs.YtflobagimodmgaaGreatDoor
open Go.SL Go.RowKit Go.Proofs Tryz
section
variable {xs ys : List Nat} {Ψ Φ : PV}
theorem k1of {n:Nat} (hn:n < 18446744073709551616):CTy prog 166 [exP (.int .u64 (n:Int))] (sv (ntx (limbs n))) :=
 ⟨(bo func166),fun M w vs hM hT hv => by
  obtain ⟨v,rfl,h1⟩:=fa1 hv
  obtain rfl:v = _:=h1
  exact (zW6 hn hM).mono fun r w' ⟨hB,g⟩ => ⟨hB,r,rfl,g.nat hM⟩⟩
theorem zM0 [h:VX Ψ xs] (hl:xs.length ≤ 1099511627776):CTy prog 164 [Ψ] (tu [exP (.int .u64 ((qM (val xs):Nat):Int)),exP (.bool (decide (val xs < 18446744073709551616)))]) :=
 ⟨(bo func164),fun M w vs hM hT hv => by
  obtain ⟨v,rfl,k1⟩:=fa1 hv
  exact (rsmall_c (h.h k1) hl hM).mono fun r w' ⟨hB,e⟩ => ⟨hB,_,e,_,_,rfl,rfl,_,_,rfl,rfl,rfl⟩⟩
theorem zZ3 [h:VX Ψ xs] [k:VX Φ ys] (hl:xs.length ≤ 100000) (hm:ys.length ≤ 100000) (h0:val ys ≠ 0):CTy prog 168 [Ψ,Φ] (tu [sv (ntx (limbs (val xs / val ys))),sv (ntx (limbs (val xs % val ys))),exP (.int .i64 0)]) :=
 ⟨(bo func168),fun M w vs hM hT hv => by
  obtain ⟨v,u,rfl,k1,k2⟩:=fa2 hv
  exact (div3_c (h.h k1) (k.h k2) hl hm h0 hM).mono fun r w' ⟨hB,q,s,e,g1,g2⟩ => ⟨hB,_,e,_,_,rfl,⟨_,rfl,g1⟩,_,_,rfl,⟨_,rfl,g2⟩,_,_,rfl,rfl,rfl⟩⟩
end
instance {a:Bool × List Nat}:CZ (itx a) a.2.length (zx a):=⟨fun h => CZ.h (c:=st [xc (.bool a.1),ntx a.2]) h⟩
theorem ps_mk {N n k:Nat} {y:Int} {q:Rat} (h1:y = q.num) (h2:k = q.den) (hn:n ≤ N) (hk:(limbs k).length ≤ N):PSub (ag (st [ztc n y,ntx (limbs k)])) (ag (rtc N q)):=fun M w v ⟨us,e,x,u,e1,⟨s,a,e2,g1⟩,x2,o,e3,⟨d,e4,g2⟩,e5⟩ => by
 subst h1 h2 e2 e4
 obtain rfl:o = []:=e5
 exact ⟨us,e,s,a,d,by rw [e1,e3]; rfl,g1.sgn,g1.num,g2,Nat.le_trans g1.len hn,hk⟩
theorem nP {n m:Nat} {p q:Rat} (h:n ≤ m) (e:p = q):PSub (ag (rtc n p)) (ag (rtc m q)):=fun _ _ _ ⟨us,e1,s,a,d,e2,g⟩ => ⟨us,e1,s,a,d,e2,by subst e; exact g.up h⟩
theorem vx_q {Ψ:PV} {xs:List Nat} [h:VX Ψ xs]:PSub Ψ (sv (ntx xs)):=fun M w v k => ⟨v,rfl,h.h k⟩
theorem kgcd {Ψ Φ:PV} {xs ys:List Nat} [h:VX Ψ xs] [k:VX Φ ys] (hx:∀ x ∈ xs,x < 4294967296) (hy:∀ x ∈ ys,x < 4294967296) (h1:xs.length ≤ 2000) (h2:ys.length ≤ 2000):CTy prog 167 [Ψ,Φ] (sv (ntx (limbs (Nat.gcd (val xs) (val ys))))):=gS (kgcd4 hx hy h1 h2) (fs1 vx_q (fs1 vx_q fs0))
theorem aV {x k:Nat} (hk:k ≠ 0) (c:Tr ((decide (val (limbs x) < 18446744073709551616) && decide (k < 18446744073709551616)) = true)):qM (val (limbs x)) = x ∧ qM k = k ∧ 0 < Nat.gcd x k ∧ x < 18446744073709551616 ∧ k < 18446744073709551616:=by
 have h:=dand c
 rw [zT] at h ⊢
 exact ⟨if_pos h.1,if_pos h.2,Nat.gcd_pos_of_pos_right _ (Nat.pos_of_ne_zero hk),h.1,h.2⟩
theorem zV9 {a:Bool × List Nat} {ds:List Nat} {n m:Nat} (ha:∀ x ∈ a.2,x < 4294967296) (hd:∀ x ∈ ds,x < 4294967296) (hla:a.2.length ≤ n) (hld:ds.length ≤ m) (hn:n ≤ 2000) (hm:m ≤ 2000):CTy prog 113 [ag (itx a),sv (ntx ds)] (tu [ag (rtc (max n m + 2) (mkRat (zx a) (val ds))),exP (.int .i64 (if val ds = 0 then 30 else 0))]):=by
 have hzl:(limbs (zx a).natAbs).length ≤ n:=by rw [lI a]; exact Nat.le_trans (gG ha) hla
 have hkl:(limbs (val ds)).length ≤ m:=Nat.le_trans (gG hd) hld
 have ek:=@yL (val ds)
 have sA:qM (val (limbs (zx a).natAbs)) < 18446744073709551616:=by unfold qM; split <;> omega
 have sB:qM (val ds) < 18446744073709551616:=by unfold qM; split <;> omega
 have hgl:val ds ≠ 0 → (limbs (Nat.gcd (zx a).natAbs (val ds))).length ≤ m:=fun h => Nat.le_trans (yG (Nat.gcd_le_right _ (Nat.pos_of_ne_zero h))) hkl
 have hq1:∀ g,(limbs ((zx a).natAbs / g)).length ≤ n:=fun g => Nat.le_trans (yG (Nat.div_le_self _ _)) hzl
 have hq2:∀ g,(limbs (val ds / g)).length ≤ m:=fun g => Nat.le_trans (yG (Nat.div_le_self _ _)) hkl
 have hz:Tr (decide (((limbs (val ds)).length:Int) = 0) = false) → val ds ≠ 0:=fun c e => df c (by omega)
 have hfin:∀ N,val ds ≠ 0 → PSub (ag (st [ztc N (if decide (zx a < 0) = true then -((val (limbs ((zx a).natAbs / (zx a).natAbs.gcd (val ds))):Nat):Int) else ((val (limbs ((zx a).natAbs / (zx a).natAbs.gcd (val ds))):Nat):Int)),ntx (limbs (val ds / (zx a).natAbs.gcd (val ds)))])) (ag (rtc (max N m) (mkRat (zx a) (val ds)))):=fun N h =>
  ps_mk (num_eq h) (fG (z:=zx a) h).2.2.symm (by omega) (Nat.le_trans (hq2 _) (by omega))
 have hup:∀ {N K:Nat} {q:Rat},N ≤ K → PSub (ag (rtc N q)) (ag (rtc K q)):=fun h => nP h rfl
 refine ctc func113 rfl rfl rfl rfl fun X => (zI (zJ rfl (tbx rfl fun b2 => (tal fun b4 => (zA1 (oas rfl) (zA0 (zI (zI (zJ rfl ?_)))))))))
 refine zA1 (omv rfl) (zA1 (oca rfl rfl fun _ => rS (by omega)) (zA1 (oln rfl) (zA1 (oeq rfl rfl) (zA0 ?_))))
 refine t_if rfl (fun c0 => ?_) (fun c0 => ?_)
 refine zI (zJ rfl (zA1 (oca rfl rfl fun _ => k7of (by (simp; done))) (tst 0 rfl rfl rfl rfl rfl rfl (zA1 (oas rfl) (zA0 (yF ?_))))))
 refine ⟨[_,_],rsc 0 rfl rfl rfl rfl (rst rfl rs0),zP3 ?_ ?_⟩
 rotate_left 1
 refine ps_i (by (have e0:=dt c0; omega))
 refine yV (zI (zJ rfl (zA1 (oldo 1 rfl rfl rfl rfl) (zA1 (oca rfl rfl fun _ => aM (by omega)) (tst 1 rfl rfl rfl rfl rfl rfl (zA0 (zI (zJ rfl (zA1 (ofo rfl) ?_)))))))))
 refine zA1 (oldf 1 1 rfl rfl rfl rfl) (zA1 (oca rfl rfl fun _ => zM0 (by omega)) (zA1 (omv rfl) (zA1 (oex rfl rfl) (zA1 (oex rfl rfl) (zA1 (oas rfl) (zA1 (oas rfl) (zA0 (zI (zJ rfl ?_)))))))))
 refine zA1 (omv rfl) (zA1 (oca rfl rfl fun _ => zM0 (by omega)) (zA1 (omv rfl) (zA1 (oex rfl rfl) (zA1 (oex rfl rfl) (zA1 (oas rfl) (zA1 (oas rfl) (zA0 (zI (zI ?_)))))))))
 refine zJ rfl (zA1 (omv rfl) (zA1 (omv rfl) (t1g rfl rfl (omv rfl) (zA1 (opk rfl rfl rfl) (zA0 ?_)))))
 refine t_if rfl (fun c1 => ?_) (fun c1 => ?_)
 refine zI (zJ rfl (zA1 (omv rfl) (zA1 (omv rfl) (zA1 (oca rfl rfl fun _ => kplain7 (by omega) (by omega)) (zA1 (oas rfl) (zA0 (zI (xH 13 mixed rfl rfl (d1 (ofo rfl) ?_)))))))))
 refine d1 (oldf 1 0 rfl rfl rfl rfl) (d1 (omv rfl) (d1 (omv rfl) ?_))
 refine d1 (oquw rfl rfl ?_) ?_
 rotate_left 1
 refine d1 (oca rfl rfl fun _ => k1of ?_) ?_
 rotate_left 1
 refine d1 (obd rfl rfl rfl) ?_
 refine d1 (oca rfl rfl fun _ => aM ?_) ?_
 rotate_left 1
 refine d1 (omv rfl) (d1 (omv rfl) ?_)
 refine d1 (oquw rfl rfl ?_) ?_
 rotate_left 1
 refine d1 (oca rfl rfl fun _ => k1of ?_) ?_
 rotate_left 1
 refine d1 (obd rfl rfl rfl) (d0 (tst 0 rfl rfl rfl rfl rfl rfl (zA1 (oas rfl) (zA0 (yF ?_)))))
 refine ⟨[_,_],rsc 0 rfl rfl rfl rfl (rst rfl rs0),zP3 ?_ ?_⟩
 rotate_left 1
 refine ps_i (by (have e0:=df c0; have e1:=dand c1; omega))
 refine yV (zI (zJ rfl (zA1 (ofo rfl) (zA1 (oldf 1 1 rfl rfl rfl rfl) (zA1 (omv rfl) (zA1 (oca rfl rfl fun _ => kgcd (gQ _) hd (by omega) (by omega)) (zA1 (oas rfl) (zA0 (zI ?_)))))))))
 refine zJ rfl (zA1 (ofo rfl) (zA1 (oldf 1 1 rfl rfl rfl rfl) (zA1 (omv rfl) ?_)))
 refine zA1 (oca rfl rfl fun _ => zZ3 (by omega) ?_ ?_) ?_
 rotate_left 1
 rotate_left 1
 refine zA1 (omv rfl) (zA1 (oex rfl rfl) (zA1 (oex rfl rfl) (zA1 (oex rfl rfl) (zA1 (oas rfl) (zA1 (oas rfl) (zA1 (oas rfl) (zA0 (zI (zJ rfl ?_)))))))))
 refine zA1 (omv rfl) (zA1 (omv rfl) ?_)
 refine zA1 (oca rfl rfl fun _ => zZ3 (by omega) ?_ ?_) ?_
 rotate_left 1
 rotate_left 1
 refine zA1 (omv rfl) (zA1 (oex rfl rfl) (zA1 (oex rfl rfl) (zA1 (oex rfl rfl) (zA1 (oas rfl) (zA1 (oas rfl) (zA1 (oas rfl) (zA0 (zI (zJ rfl ?_)))))))))
 refine zA1 (ofo rfl) (zA1 (oldf 1 0 rfl rfl rfl rfl) (zA1 (omv rfl) ?_))
 refine zA1 (obd rfl rfl rfl) ?_
 refine zA1 (oca rfl rfl fun _ => aM ?_) ?_
 rotate_left 1
 refine zA1 (omv rfl) ?_
 refine zA1 (obd rfl rfl rfl) (tst 0 rfl rfl rfl rfl rfl rfl (zA1 (oas rfl) (zA0 (yF ?_))))
 refine ⟨[_,_],rsc 0 rfl rfl rfl rfl (rst rfl rs0),zP3 ?_ ?_⟩
 rotate_left 1
 refine ps_i (by (have e0:=df c0; have e1:=dor c1; omega))
 ·have hk0:val ds = 0:=by have:=dt c0; omega
  rw [hk0,Rat.mkRat_zero]
  exact nP (by omega) rfl
 ·obtain ⟨e1,e2,h1,h2,h3⟩:=aV (hz c0) c1
  rw [e1,e2]; exact ⟨h1,h2⟩
 ·obtain ⟨e1,e2,h1,h2,h3⟩:=aV (hz c0) c1
  rw [e1,e2]; exact Nat.lt_of_le_of_lt (Nat.div_le_self _ _) h2
 ·obtain ⟨e1,e2,h1,h2,h3⟩:=aV (hz c0) c1
  rw [e1,e2]; have:=hq1 (Nat.gcd (zx a).natAbs (val ds)); omega
 ·obtain ⟨e1,e2,h1,h2,h3⟩:=aV (hz c0) c1
  rw [e1,e2]; exact ⟨h1,h3⟩
 ·obtain ⟨e1,e2,h1,h2,h3⟩:=aV (hz c0) c1
  rw [e1,e2]; exact Nat.lt_of_le_of_lt (Nat.div_le_self _ _) h3
 ·obtain ⟨e1,e2,h1,h2,h3⟩:=aV (hz c0) c1
  rw [e1,e2]
  exact fun M w v k => hup (by have:=hq1 (Nat.gcd (zx a).natAbs (val ds)); omega) _ _ _ (hfin _ (hz c0) M w v k)
 all_goals rw [zT (zx a).natAbs]
 ·have:=hgl (hz c0); omega
 ·rw [zT]; exact Nat.ne_of_gt (Nat.gcd_pos_of_pos_right _ (Nat.pos_of_ne_zero (hz c0)))
 ·have:=hgl (hz c0); omega
 ·rw [zT]; exact Nat.ne_of_gt (Nat.gcd_pos_of_pos_right _ (Nat.pos_of_ne_zero (hz c0)))
 ·have:=hq1 (val (limbs (Nat.gcd (zx a).natAbs (val ds)))); omega
 ·rw [zT (Nat.gcd _ _)]
  exact fun M w v k => hup (by have:=hq1 (Nat.gcd (zx a).natAbs (val ds)); omega) _ _ _ (hfin _ (hz c0) M w v k)
theorem zZ0 {Ψ Φ:PV} {n m k:Nat} {z:Int} [h:VZ Ψ n z] [h':VN Φ m k] (hn:n ≤ 2000) (hm:m ≤ 2000):CTy prog 113 [Ψ,Φ] (tu [ag (rtc (max n m + 2) (mkRat z k)),exP (.int .i64 (if k = 0 then 30 else 0))]) :=
 ⟨(bo func113),fun M w vs hM hT hv => by
  obtain ⟨v,u,rfl,h1,h2⟩:=fa2 hv
  obtain ⟨s,a,rfl,g⟩:=h.h h1
  obtain ⟨b,b0,b1,b2,b3⟩:=rT g
  obtain ⟨ds,d1,d2,d3⟩:=(h'.h h2).ex
  subst b2 d3
  exact (zV9 b0 d1.lt b1 d2 hn hm).run M w _ hM hT ⟨_,_,rfl,b3,_,_,rfl,⟨_,rfl,d1⟩,rfl⟩⟩
abbrev rxx (a:(Bool × List Nat) × List Nat):CT:=st [itx a.1,ntx a.2]
theorem qr_x {Ψ:PV} {n:Nat} {p:Rat} [h:QR Ψ n p] {M:Nat → Prop} {w:World} {v:Value} (k:Ψ.p M w v):∃ a:(Bool × List Nat) × List Nat,mkRat (zx a.1) (val a.2) = p ∧ (∀ x ∈ a.1.2,x < 4294967296) ∧ (∀ x ∈ a.2,x < 4294967296) ∧ a.1.2.length ≤ n ∧ a.2.length ≤ n ∧ (ag (rxx a)).p M w v:=by
 obtain ⟨s,x,d,rfl,xs,ds,h1,h2,h3,h4,h5⟩:=h.h k
 exact ⟨((s,xs),ds),h5,h1.lt,h2.lt,h3,h4,_,rfl,[.bool s,x],[d],rfl,⟨[.bool s],[x],rfl,⟨rfl,rfl⟩,[x],[],rfl,⟨x,rfl,h1⟩,rfl⟩,[d],[],rfl,⟨d,rfl,h2⟩,rfl⟩
theorem w7norm {a:(Bool × List Nat) × List Nat} {n:Nat} (ha:∀ x ∈ a.1.2,x < 4294967296) (hd:∀ x ∈ a.2,x < 4294967296) (h1:a.1.2.length ≤ n) (h2:a.2.length ≤ n) (hn:n ≤ 1999):CTy prog 90 [ag (rxx a)] (ag (rtc (n + 2) (mkRat (zx a.1) (val a.2)))):=by
 refine ctc func90 rfl rfl rfl rfl fun X => (zI (zJ rfl (zA1 (obx rfl) (tal fun b2 => (zA0 (zI (zJ rfl (zA1 (ofa rfl rfl) (zA1 (old rfl rfl) ?_)))))))))
 refine zA1 (ofa rfl rfl) (zA1 (old rfl rfl) (zA1 (oca rfl rfl fun _ => zV9 (n:=n) (m:=n) ha hd h1 h2 (by omega) (by omega)) (zA1 (omv rfl) (zA1 (oex rfl rfl) (zA1 (oex rfl rfl) (tal fun b3 => (tst 0 rfl rfl rfl rfl rfl rfl (uZ (uQ (s:=3) 0 rfl rfl) (zA1 (oas rfl) ?_)))))))))
 refine zA0 (zI (zJ rfl (zA1 (old rfl rfl) (tst 0 rfl rfl rfl rfl rfl rfl (zA0 (yF (⟨[_],rsc 0 rfl rfl rfl rfl rs0,yN ?_⟩)))))))
 rotate_left 1
 exact nP (by omega) rfl
theorem eQ {Ψ:PV} {n:Nat} {p:Rat} [h:QR Ψ n p] (hn:n ≤ 1999):CTy prog 90 [Ψ] (ag (rtc (n + 1) p)) :=
 ⟨(bo func90),fun M w vs hM hT hv => by
  obtain ⟨v,rfl,h1⟩:=fa1 hv
  obtain ⟨a,e1,e2,e3,e4,e5,e6⟩:=qr_x h1
  obtain ⟨s,x,d,rfl,g1⟩:=h.h h1
  subst e1
  exact ((w7norm e2 e3 e4 e5 hn).run M w _ hM hT ⟨_,_,rfl,e6,rfl⟩).mono fun r w' ⟨hB,us,k1,t,y,z,k2,g⟩ => ⟨hB,us,k1,t,y,z,k2,g.relen g1.rlen⟩⟩
end Go.Proofs.YtflobagimodmgaaGreatDoor
namespace Go.Proofs.YtflobagimodmgaaGreatDoor
open Go.SL Go.RowKit Go.Proofs Tryz
section
variable {Ψ Φ : PV} {n m k j : Nat} {y z : Int}
theorem zL5 [h:VN Ψ n k] (hn:n ≤ 1000000):CTy prog 93 [Ψ] (ag (ztq n ((k:Nat):Int))) :=
 ⟨(bo func93),fun M w vs hM hT hv => by
  obtain ⟨v,rfl,h1⟩:=fa1 hv
  exact (over7_c (h.h h1) hn hM).mono fun r w' ⟨hB,x,y,e,g⟩ => ⟨hB,e ▸ ⟨_,rfl,_,_,rfl,g⟩⟩⟩
theorem k2mul [h:VN Ψ n k] [h':VN Φ m j] (hn:n ≤ 1000000000) (hm:m ≤ 1000000000):CTy prog 114 [Ψ,Φ] (sv (ntq (n + m) (k * j))) :=
 ⟨(bo func114),fun M w vs hM hT hv => by
  obtain ⟨v,u,rfl,h1,h2⟩:=fa2 hv
  obtain ⟨xs,g1,g2,g3⟩:=(h.h h1).ex
  obtain ⟨ys,g4,g5,g6⟩:=(h'.h h2).ex
  exact (vZ g1 g4 (by omega) (by omega) hM).mono fun r w' ⟨hB,g⟩ => ⟨hB,r,rfl,by rw [← g3,← g6]; exact pB (g.nat hM) (Nat.le_trans (aQ (jB _ g1.lt) (jB _ g4.lt)) (by omega))⟩⟩
end
theorem zR6 {n m N:Nat} {q:Rat} {z:Int} {k:Nat} (h1:z = q.num) (h2:k = q.den) (hn:n ≤ N) (hm:m ≤ N):PSub (ag (st [ztc n z,ntc m k])) (ag (rtc N q)):=fun M w v ⟨us,e,x,y,e1,⟨s,a,k1,g1⟩,d,o,e2,⟨b,k2,g2,g3⟩,e3⟩ => by
 subst h1; subst h2; subst k1; subst k2; obtain rfl:o = []:=e3
 obtain ⟨xs,j1,j2,j3⟩:=g2.ex
 exact ⟨us,e,s,a,b,by rw [e1,e2]; rfl,g1.sgn,g1.num,g3,Nat.le_trans g1.len hn,Nat.le_trans (by rw [← j3]; exact yA _ j1.lt) (Nat.le_trans j2 hm)⟩
theorem rH {n m:Nat} {p q:Rat} (e:p = q) (h:rlen q m):PSub (ag (rtc n p)) (ag (rtc m q)):=fun _ _ _ ⟨us,e1,s,a,d,e2,g⟩ => ⟨us,e1,s,a,d,e2,by subst e; exact g.relen h⟩
set_option maxHeartbeats 4000000 in
theorem w7neg {p:Rat} {n:Nat} (hn:n ≤ 1990):CTy prog 115 [ag (rtq n p)] (ag (rtc (n + 1) (-p))):=by
 refine ctc func115 rfl rfl rfl rfl fun X => (zI (zJ rfl ?_))
 refine tbx rfl fun b1 => ?_
 refine tal fun b2 => ?_
 refine zA0 (zI (zJ rfl (zA1 (oldo 1 rfl rfl rfl rfl) (zA1 (oca rfl rfl fun _ => eQ (by omega)) (tst 1 rfl rfl rfl rfl rfl rfl (zA0 (t_ts (uQ 1 rfl (s:=1) rfl) ?_)))))))
 refine zI (xH 6 mixed rfl rfl (d1 (ofx rfl) (d1 (old rfl rfl) (d1 (oca rfl rfl fun _ => zZ1 (by omega)) (d1 (ofx rfl) (d1 (old rfl rfl) (d1 (obd rfl rfl rfl) ?_)))))))
 refine d0 (tst 0 rfl rfl rfl rfl rfl rfl (zA0 (yF ?_)))
 exact ⟨[_],rsc 0 rfl rfl rfl rfl rs0,yN (zR6 (Rat.neg_num p).symm (Rat.neg_den p).symm (Nat.le_refl _) (Nat.le_refl _))⟩
theorem k7neg {Ψ:PV} {p:Rat} {n:Nat} [h:QR Ψ n p] (hn:n ≤ 1990):CTy prog 115 [Ψ] (ag (rtc (n + 1) (-p))):=gS (w7neg hn) (fs1 qr_q fs0)
set_option maxHeartbeats 4000000 in
theorem w7two {p q:Rat} {n m:Nat} (h1:rlen p n) (h2:rlen q m) (hn:n ≤ 990) (hm:m ≤ 990):CTy prog 112 [ag (rtc n p),ag (rtc m q)] (ag (rtc (n + m + 1) (p + q))):=by
 refine ctc func112 rfl rfl rfl rfl fun X => (zI (zJ rfl (zA1 (obx rfl) (zA1 (obx rfl) ?_))))
 refine tal fun b4 => ?_
 refine zA0 (zI ?_)
 apply wW 1 27 26 [(25,5,0),(26,1000026,0)] rfl rfl mixed rfl rfl rfl
 refine cx1 (ofx rfl) rfl (cx1 (old rfl rfl) rfl (cx1 (ofx rfl) rfl (cx1 (old rfl rfl) rfl (cx1 (oca rfl rfl fun _ => zL5 (by omega)) rfl (cx1 (obs rfl rfl rfl rfl rfl rfl) rfl (cx1 (oca rfl rfl fun _ => tT (by omega) (by simp)) rfl (cx1 (ofx rfl) rfl ?_)))))))
 refine cx1 (old rfl rfl) rfl (cx1 (ofx rfl) rfl (cx1 (old rfl rfl) rfl (cx1 (oca rfl rfl fun _ => zL5 (by omega)) rfl (cx1 (obs rfl rfl rfl rfl rfl rfl) rfl (cx1 (oca rfl rfl fun _ => tT (by omega) (by simp)) rfl (cx1 (obs rfl rfl rfl rfl rfl rfl) rfl (cx1 (oca rfl rfl fun _ => zZ2 (by omega) (by simp)) rfl ?_)))))))
 refine cx1 (ofx rfl) rfl (cx1 (old rfl rfl) rfl (cx1 (ofx rfl) rfl (cx1 (old rfl rfl) rfl (cx1 (oca rfl rfl fun _ => k2mul (by omega) (by omega)) rfl (cx1 (oca rfl rfl fun _ => zZ0 (by omega) (by omega)) rfl (cx1 (omv rfl) rfl (cx1 (oex rfl rfl) rfl ?_)))))))
 refine cx1 (oex rfl rfl) rfl (cN rfl rfl (cal) (cS rfl rfl rfl (cst rfl rfl rfl) ?_))
 refine cE (fun b5 => ?_)
 refine zA1 (oas rfl) (zA0 (zI (zJ rfl (zA1 (oldo 0 rfl rfl rfl rfl) (tst 1 rfl rfl rfl rfl rfl rfl (zA0 (yF ?_)))))))
 exact ⟨[_],rsc 1 rfl rfl rfl rfl rs0,yN (rH (wG p q) (qH h1 h2))⟩
set_option maxHeartbeats 4000000 in
theorem w7add {l:List Rat} {n:Nat} (hn:n ≤ 970) (hlen:l.length ≤ 2) (hr:∀ x ∈ l,rlen x (n + 1)):CTy prog 52 [sv (sl 3 (l.map (rtq n)))] (ag (rtc (2 * n + 8) (sumR l))):=by
 refine ctc func52 rfl rfl rfl rfl fun X => (zI (zJ rfl ?_))
 refine tal fun b2 => ?_
 refine zA0 (zI (zJ rfl (zA1 (oca rfl rfl fun _ => k7of (k:=0) (by omega)) ?_)))
 refine tal fun b3 => ?_
 refine tst 0 rfl rfl rfl rfl rfl rfl (zA0 (zI (zI (zJ rfl (zA1 (oas rfl) (zA0 (yJ ?_)))))))
 refine zQ1 (σ:=Nat) (fun s => [(0,True,sv (sl 3 (l.map (rtq n)))),(2,True,exP (.pointer (some ⟨b2,0,none⟩))),(3,True,exP (.pointer (some ⟨b3,0,none⟩))),(4,True,exP (.int .i64 ((s:Nat):Int)))]) (fun s => [.blk b3 33 [rtc (2 + s * (n + 2)) (sumR (l.take s))],.blk b2 33 (zc (.agg #[.bool false,.slice none 0 0,.slice none 0 0]))]) (fun s => s ≤ l.length ∧ rlen (sumR (l.take s)) (2 + s * (n + 2))) (fun s => l.length - s) (0) (wT (tc rfl (ps_r _) (tc rfl (ps_r _) (tc rfl (ps_r _) (tc rfl (ps_i rfl) tn)))) (by rw [show 2 + 0 * (n + 2) = 2 by omega]; rfl)) ⟨Nat.zero_le _,jT rlen_zero' (by omega)⟩ (fun s hJ Y _ => ?_)
 obtain ⟨h1,h2⟩:=hJ
 refine zI (zI (zJ rfl (zA1 (omv rfl) (zA1 (omv rfl) (zA1 (oln rfl) (zA1 (olt rfl rfl) (zA0 ?_)))))))
 refine t_if rfl (fun c0 => ?_) (fun c0 => ?_)
 ·have hc:=dt c0
  have hg:=hr _ (getD_in (l:=l) (s:=s) (by omega))
  have hs2:s * (n + 2) ≤ n + 2:=by have:=Nat.mul_le_mul_right (n + 2) (show s ≤ 1 by omega); rw [Nat.one_mul] at this; exact this
  have he:(s + 1) * (n + 2) = s * (n + 2) + (n + 2):=Nat.succ_mul _ _
  refine yV (zI (yJ (xH 7 mixed rfl rfl (d1 (oldo 0 rfl rfl rfl rfl) (d1 (omv rfl) (d1 (omv rfl) (d1 (oix s rfl rfl rfl (fun _ => rfl) (fun _ => by omega)) ?_)))))))
  refine d1 (old rfl rfl) (d1 (oca rfl rfl fun _ => eQ (by omega)) (d1 (oca rfl rfl fun _ => w7two h2 hg (by omega) (by omega)) (d0 (tst 0 rfl rfl rfl rfl rfl rfl (zA0 (zJ rfl (zA1 (omv rfl) ?_)))))))
  refine zA1 (oad rfl rfl (by omega)) (zA1 (oas rfl) (zA0 ?_))
  exact ⟨s + 1,wT (tc rfl (ps_r _) (tc rfl (ps_r _) (tc rfl (ps_r _) (tc rfl (ps_i (by simp)) tn)))) (by rw [oT (by omega),he,show 2 + (s * (n + 2) + (n + 2)) = 2 + s * (n + 2) + (n + 1) + 1 by omega]; rfl),⟨by omega,by rw [oT (by omega),he]; exact jT (qH h2 hg) (by omega)⟩,by omega⟩
 ·have hc:=df c0
  obtain rfl:s = l.length:=by omega
  have hs2:l.length * (n + 2) ≤ 2 * (n + 2):=Nat.mul_le_mul_right _ hlen
  refine jK (zI (zJ rfl (zA1 (oldo 0 rfl rfl rfl rfl) (tst 1 rfl rfl rfl rfl rfl rfl (zA0 (yF ?_))))))
  exact ⟨[_],rsc 1 rfl rfl rfl rfl rs0,yN (nP (by omega) (by rw [List.take_length]))⟩
theorem k7addl {Ψ:PV} {n:Nat} {l:List Rat} [h:VQ Ψ n l] (hn:n ≤ 970) (hlen:l.length ≤ 2):CTy prog 52 [Ψ] (ag (rtc (2 * n + 8) (sumR l))) :=
 ⟨(bo func52),fun M w vs hM hT hv => by
  obtain ⟨v,e,h1⟩:=fa1 hv
  have hq:=h.h h1
  exact (w7add hn hlen fun x hx => by
   obtain ⟨cs,h3,h2⟩:=hq.row
   obtain ⟨i,hi,rfl⟩:=List.mem_iff_getElem.1 hx
   obtain ⟨us,_,_,s,a,d,_,g⟩:=h2 i _ (List.getElem?_eq_getElem hi)
   exact g.rlen).run M w vs hM hT (fs1 vq_q fs0 _ _ _ hv)⟩
theorem sum2 (p q:Rat):sumR [p,q] = p + q:=by simp [sumR,Rat.zero_add]
theorem zL8 {Ψ:PV} {n:Nat} {p q:Rat} [h:VQ Ψ n [p,q]] (hn:n ≤ 970):CTy prog 52 [Ψ] (ag (rtc (2 * n + 8) (p + q))):=by rw [← sum2]; exact k7addl hn (by simp)
set_option maxHeartbeats 4000000 in
theorem w7sub {p q:Rat} {n m:Nat} (h1:rlen p n) (h2:rlen q m) (hn:n ≤ 960) (hm:m ≤ 960):CTy prog 54 [ag (rtq n p),ag (rtq m q)] (ag (rtc (n + m + 1) (p - q))):=by
 refine ctc func54 rfl rfl rfl rfl fun X => (zI (zJ rfl (zA1 (obx rfl) (zA1 (obx rfl) ?_))))
 refine tal fun b4 => ?_
 refine zA0 (zI (xH 5 mixed rfl rfl (d1 (old rfl rfl) (d1 (old rfl rfl) (d1 (oca rfl rfl fun _ => k7neg (by omega)) (d1 (obs rfl rfl rfl rfl rfl rfl) (d1 (oca rfl rfl fun _ => zL8 (by omega)) ?_)))))))
 refine d0 (tst 0 rfl rfl rfl rfl rfl rfl (zA0 (yF ?_)))
 exact ⟨[_],rsc 0 rfl rfl rfl rfl rs0,yN (rH (Rat.sub_eq_add_neg p q).symm (by rw [Rat.sub_eq_add_neg]; exact qH h1 (eB h2)))⟩
set_option maxHeartbeats 4000000 in
theorem zP0 {p q:Rat} {n m:Nat} (hn:n ≤ 1990) (hm:m ≤ 1990):CTy prog 41 [ag (rtq n p),ag (rtq m q)] (exP (.int .i64 (cmpR p q))):=by
 refine ct (rs:=[4]) func41 rfl rfl rfl rfl rfl tJ fun X => (zI (zJ rfl ?_))
 refine tbx rfl fun b2 => ?_
 refine tbx rfl fun b3 => ?_
 refine zA1 (oas rfl) (zA0 (zI (xH 4 mixed rfl rfl (d1 (oldo 1 rfl rfl rfl rfl) (d1 (oca rfl rfl fun _ => eQ (by omega)) (d1 (oldo 0 rfl rfl rfl rfl) (d1 (oca rfl rfl fun _ => eQ (by omega)) ?_)))))))
 refine d0 (tst 1 rfl rfl rfl rfl rfl rfl (tst 0 rfl rfl rfl rfl rfl rfl (zA0 (t_ts (uQ 1 rfl (s:=2) rfl) (t_ts (uQ 0 rfl (s:=3) rfl) (zI (xH 17 mixed rfl rfl ?_)))))))
 refine d1 (ofx rfl) (d1 (old rfl rfl) (d1 (ofx rfl) (d1 (old rfl rfl) (d1 (oca rfl rfl fun _ => zL5 (by omega)) (d1 (obs rfl rfl rfl rfl rfl rfl) (d1 (oca rfl rfl fun _ => tT (by omega) (by simp)) (d1 (ofx rfl) ?_)))))))
 refine d1 (old rfl rfl) (d1 (ofx rfl) (d1 (old rfl rfl) (d1 (oca rfl rfl fun _ => zL5 (by omega)) (d1 (obs rfl rfl rfl rfl rfl rfl) (d1 (oca rfl rfl fun _ => tT (by omega) (by simp)) (d1 (oca rfl rfl fun _ => k5sub (by omega) (by omega)) (d1 (oca rfl rfl fun _ => k5sign (by omega)) ?_)))))))
 refine d1 (oas rfl) (d0 (zA0 (yF ?_)))
 exact tr1 rfl (ps_i (zV4 p q))
section
variable {Ψ Φ : PV} {n m : Nat} {p q : Rat}
theorem rlen2 [h:QR Ψ n p] [k:QR Φ m q] {M:Nat → Prop} {w:World} {vs:List Value} (hv:Fa [Ψ,Φ] M w vs):rlen p (n + 1) ∧ rlen q (m + 1):=by
 obtain ⟨v,u,_,h1,h2⟩:=fa2 hv
 obtain ⟨_,_,_,_,g1⟩:=h.h h1
 obtain ⟨_,_,_,_,g2⟩:=k.h h2
 exact ⟨g1.rlen,g2.rlen⟩
theorem zW7 [h:QR Ψ n p]:PSub Ψ (ag (rtq (n + 1) p)):=fun _ _ _ x => by obtain ⟨s,a,d,e,g⟩:=h.h x; exact ⟨_,e,s,a,d,rfl,g.up (Nat.le_succ n)⟩
theorem cty_2 [h:QR Ψ n p] [k:QR Φ m q] {P:Program} {f:FuncId} {ρ:PV} (hb:Bod P f) (hr:rlen p (n + 1) → rlen q (m + 1) → CTy P f [ag (rtq (n + 1) p),ag (rtq (m + 1) q)] ρ):CTy P f [Ψ,Φ] ρ :=
 ⟨hb,fun M w vs hM hT hv => by
  obtain ⟨g1,g2⟩:=rlen2 hv
  exact (hr g1 g2).run M w vs hM hT ((fs1 (zW7 (h:=h)) (fs1 (zW7 (h:=k)) fs0)) _ _ _ hv)⟩
theorem zL7 [h:QR Ψ n p] [k:QR Φ m q] (hn:n ≤ 950) (hm:m ≤ 950):CTy prog 54 [Ψ,Φ] (ag (rtc (n + m + 3) (p - q))):=cty_2 (bo func54) fun g1 g2 => by
 rw [show n + m + 3 = n + 1 + (m + 1) + 1 by omega]; exact w7sub g1 g2 (by omega) (by omega)
theorem k7cmp [h:QR Ψ n p] [k:QR Φ m q] (hn:n ≤ 1990) (hm:m ≤ 1990):CTy prog 41 [Ψ,Φ] (exP (.int .i64 (cmpR p q))):=gS (zP0 hn hm) (fs1 qr_q (fs1 qr_q fs0))
end
section
variable {M : Nat → Prop} {w : World}
theorem x7norm_c {p:Rat} {n0:Nat} {s:Bool} {a d:Value} (hT:Tab M w) (h0:QC M w n0 p s a d) (hl0:n0 ≤ 1999) (hM:OkM M w) :
    CallsV prog 90 [.agg #[.bool s,a,d]] w fun r w' => Bel w.heap.size w w' ∧ ∃ xs xa xd,r = .agg #[.bool xs,xa,xd] ∧ RC M w' (n0 + 2) p xs xa xd :=
  ((eQ (Ψ:=ag (rtq n0 p)) hl0).run M w _ hM hT ⟨_,_,rfl,⟨_,rfl,s,a,d,rfl,h0⟩,rfl⟩).mono fun r w' ⟨hB,us,e,s,a,d,e2,g⟩ => ⟨hB,s,a,d,by subst e2; exact e,g.up (by omega)⟩
theorem x5mul_c {y z:Int} {n0:Nat} {xa0:Value} (hT:Tab M w) (h0:ZL M w n0 [y,z] xa0) (hl0:n0 ≤ 100000) (hlen:[y,z].length ≤ 2) (hM:OkM M w) :
    CallsV prog 92 [xa0] w fun r w' => Bel w.heap.size w w' ∧ ∃ xs xa,r = .agg #[.bool xs,xa] ∧ ZC M w' (2 * n0 + 2) (gY [y,z]) xs xa :=
  ((tT (Ψ:=sv (sl 2 [ztq n0 y,ztq n0 z])) (by omega) (by simp)).run M w _ hM hT ⟨_,_,rfl,cD (f:=ztq n0) (xs:=[y,z]) (fun _ => rfl) (fun a us _ ⟨s,x,e,g⟩ => ⟨s,x,e,g⟩) h0.row,rfl⟩).mono fun r w' ⟨hB,us,e,s,a,e2,g⟩ => ⟨hB,s,a,by subst e2; exact e,g.up (by omega)⟩
theorem x7new_c {z:Int} {n0:Nat} {s:Bool} {a:Value} {k:Nat} {n1:Nat} {d:Value} (hT:Tab M w) (h0:ZQ M w n0 z s a) (h1:NQ M w n1 k d) (hl0:n0 ≤ 2000) (hl1:n1 ≤ 2000) (hM:OkM M w) :
    CallsV prog 113 [.agg #[.bool s,a],d] w fun r w' => Bel w.heap.size w w' ∧ ∃ xs xa xd,r = .tuple #[.agg #[.bool xs,xa,xd],.int .i64 (if k = 0 then 30 else 0)] ∧ RC M w' (max n0 n1 + 2) (mkRat z k) xs xa xd :=
  ((zZ0 (Ψ:=ag (ztq n0 z)) (Φ:=sv (ntq n1 k)) hl0 hl1).run M w _ hM hT ⟨_,_,rfl,⟨_,rfl,s,a,rfl,h0⟩,_,_,rfl,⟨_,rfl,h1⟩,rfl⟩).mono fun r w' ⟨hB,g⟩ => ⟨hB,by
    obtain ⟨l,e,v,us,e2,⟨us2,e3,s,a,d,e4,g⟩,v2,us3,e5,h2,e6⟩:=g
    subst e2 e4 e5 e6; obtain rfl:v2 = _:=h2
    exact ⟨s,a,d,by rw [e,e3],g⟩⟩
theorem x7mul_c {l:List Rat} {n0:Nat} {xa0:Value} (hT:Tab M w) (h0:QL M w n0 l xa0) (hl0:n0 ≤ 970) (hlen:l.length ≤ 2) (hM:OkM M w) :
    CallsV prog 53 [xa0] w fun r w' => Bel w.heap.size w w' ∧ ∃ xsr xar xdr,r = .agg #[.bool xsr,xar,xdr] ∧ RC M w' (2 * n0 + 8) (uI l) xsr xar xdr:=by
 obtain ⟨oxa0,_⟩:=h0.one
 refine ci M func53 ntmps53 fun Fz hFz hF LL => ?_
 refine zF (zB (xC rfl sz33 (fun w1 b2 N2 => ?_)))
 obtain ⟨_,nF2,nM2,Lw1,B2⟩:=nza hF hM N2
 obtain ⟨LL,hM,hF,hT,h0⟩:=up5 Lw1 LL hM hF hT h0
 refine zD (zF (zB (zK rfl (bo func94) rfl rfl ?_)))
 refine (rG (k:=1)  (by omega) hM).mono ?_
 rintro v6 w2 ⟨hB6,xs6,xa6,xd6,rfl,hn6⟩
 obtain ⟨LL,hM,hF,hT,h0,B2⟩:=ub6 hB6 LL hM hF hT h0 B2
 obtain ⟨oxa6,oxd6,_⟩:=hn6.one
 refine xC rfl sz33 (fun w3 b3 N3 => ?_)
 obtain ⟨hBw3,nF3,nM3,Lw3,B3⟩:=nza hF hM N3
 obtain ⟨B2,ne2_3⟩:=bn B2 N3
 obtain ⟨LL,hM,hF,hT,h0,hn6⟩:=up6 Lw3 LL hM hF hT h0 hn6
 refine xL rfl rfl sz33 B3 rfl rfl (allq (allq (allq alln))) rfl (fun w4 Cw4 B3 => ?_)
 obtain ⟨LL,hM,hF,hT,h0,hn6⟩:=up6 (lc LL Cw4 zO nF3) LL hM hF hT h0 hn6
 replace B2:=B2.other Cw4 ne2_3
 refine zD (zF (zF (zB (zC rfl rfl (zD (zX ?_))))))
 refine xN (σ:=Nat) [(0,_),(2,_),(3,_)] (fun s => [(4,.int .i64 ((s:Nat):Int))]) (fun s w5 => Le Fz (Ins b3 (Ins b2 M)) w4 (Ins b3 (Ins b2 M)) w5 ∧ s ≤ l.length ∧ Blk w5 b2 33 [.bool false,.slice none 0 0,.slice none 0 0] ∧ ∃ xs3 xa3 xd3,Blk w5 b3 33 [.bool xs3,xa3,xd3] ∧ RC (Ins b3 (Ins b2 M)) w5 (s * (n0 + 3) + 2) (uI (l.take s)) xs3 xa3 xd3) (fun s => l.length - s) (0) (zH rfl (zH rfl (zH rfl (zH rfl zZ)))) ?_ (fun s w5 hJ => ?_)
 · exact ⟨Le.refl _ _ _,by omega,B2,_,_,_,B3,by simpa [uI] using hn6.up (by omega)⟩
 ·obtain ⟨LR,hk,B2,xs3,xa3,xd3,B3,hn3⟩:=hJ
  obtain ⟨oxa3,oxd3,_⟩:=hn3.one
  have hsn:s * (n0 + 3) ≤ 2 * (n0 + 3):=Nat.mul_le_mul_right _ (by omega)
  have hsn1:s ≤ 1 → s * (n0 + 3) ≤ n0 + 3:=fun c => by have:=Nat.mul_le_mul_right (n0 + 3) c; omega
  have hst:(s + 1) * (n0 + 3) = s * (n0 + 3) + (n0 + 3):=by rw [Nat.add_mul,Nat.one_mul]
  have hl3:=hn3.len
  obtain ⟨LL,hM,hF,hT,h0⟩:=up5 LR LL hM hF hT h0
  refine zF (zF (zB (zA rfl rfl (zA rfl rfl (tF rfl underlying66 rfl h0.row (jS rfl rfl rfl (zD ?_)))))))
  refine zU rfl (fun hc0 => ?_) (fun hc0 => ?_)
  ·refine yB (zF (zX (zF (zB (zA rfl rfl (zA rfl rfl (tH (dflt:=(0:Rat)) (s) rfl underlying66 sz33 rfl rfl h0.row (by first | rfl | omega) (by first | omega | (simp; omega) | simp) (fun b15 o15 us15 hul15 hu15 hc15 => ?_))))))))
   obtain ⟨xs15,xa15,xd15,rfl,hn15⟩:=hu15
   obtain ⟨oxa15,oxd15,_⟩:=hn15.one
   have hle:=hn15.rlen
   refine kO rfl dG sz33 rfl hc15 rfl (zK rfl (bo func90) rfl rfl ?_)
   refine (x7norm_c hT hn15 (by omega) hM).mono ?_
   rintro v17 w6 ⟨hB17,xs17,xa17,xd17,rfl,hn17⟩
   obtain ⟨LR,hM,hF,hT,h0,hn3,B2,B3⟩:=ub8 hB17 LR hM hF hT h0 hn3 B2 B3
   obtain ⟨oxa17,oxd17,_⟩:=hn17.one
   refine xC rfl sz33 (fun w7 b5 N5 => ?_)
   obtain ⟨hBw7,nF5,nM5,Lw7,B5⟩:=nza hF hM N5
   obtain ⟨B2,ne2_5⟩:=bn B2 N5
   obtain ⟨B3,ne3_5⟩:=bn B3 N5
   obtain ⟨LR,hM,hT,h0,hn3,hn17⟩:=up6 Lw7 LR hM hT h0 hn3 hn17
   refine xL rfl rfl sz33 B5 rfl rfl (allq (allq (allq alln))) rfl (fun w8 Cw8 B5 => ?_)
   obtain ⟨LR,hM,hT,h0,hn3,hn17⟩:=up6 (lc LR Cw8 zO nF5) LR hM hT h0 hn3 hn17
   replace B2:=B2.other Cw8 ne2_5
   replace B3:=B3.other Cw8 ne3_5
   refine zD ?_
   refine bJ (R:=Rs (· = b3)) (R':=Rb) (st:=some (15,(fun w => Blk w b3 33 [.bool xs3,xa3,xd3]),(fun w => ∃ xs3 xa3 xd3,Blk w b3 33 [.bool xs3,xa3,xd3] ∧ RC (Ins b5 (Ins b3 (Ins b2 M))) w (max (2 * (max ((s * (n0 + 3) + 2)) (n0 + 2)) + 2) ((s * (n0 + 3) + 2) + (n0 + 2)) + 2) (mkRat (gY ([(uI (l.take s)).num,((l.getD s 0)).num])) (((uI (l.take s)).den) * (((l.getD s 0)).den))) xs3 xa3 xd3))) mixed 16 [0,2,3,4] (by decide +kernel) bB mE (cU _) (fun _ _ _ h => by cases h; exact ⟨by decide,B3,fun _ _ h r => h.below r,fun _ _ ⟨xs3,xa3,xd3,B,h0⟩ r => ⟨xs3,xa3,xd3,B.below r,h0.mono (lb r)⟩,_,rfl⟩) ?_
   apply zS rfl
   ·intro wq hR hst
    refine zV rfl rfl (zG ?_)
    have Lq:=lqb (M:=(Ins b5 (Ins b3 (Ins b2 M)))) hR (.inr zO) nF3
    exact zL 0 rfl yu33 rfl rfl sz31 rfl rfl (on0 rfl)
   apply zS rfl
   ·intro wq hR hst
    refine zM rfl (zG ?_)
    have Lq:=lqb (M:=(Ins b5 (Ins b3 (Ins b2 M)))) hR (.inr zO) nF3
    replace B3:=(hst.2 (by decide +kernel))
    exact jM rfl jZ sz31 rfl B3 rfl rfl (on0 rfl)
   apply zS rfl
   ·intro wq hR hst
    refine zV rfl rfl (zG ?_)
    have Lq:=lqb (M:=(Ins b5 (Ins b3 (Ins b2 M)))) hR (.inr zO) nF3
    exact zL 0 rfl yu33 rfl rfl sz31 rfl rfl (on0 rfl)
   apply zS rfl
   ·intro wq hR hst
    refine zM rfl (zG ?_)
    have Lq:=lqb (M:=(Ins b5 (Ins b3 (Ins b2 M)))) hR (.inr zO) nF3
    replace B5:=B5.rs hR ne3_5.symm
    exact jM rfl jZ sz31 rfl B5 rfl rfl (on0 rfl)
   refine gH rfl (fun v w => ∃ bb xs23 xa23 xs23b xa23b,v = .slice (some ⟨bb,0,none⟩) 2 2 ∧ KBlk (Ins b5 (Ins b3 (Ins b2 M))) w bb 31 [.bool xs23,xa23,.bool xs23b,xa23b] ∧ ZC (Ins b5 (Ins b3 (Ins b2 M))) w (s * (n0 + 3) + 2) ((uI (l.take s)).num) xs23 xa23 ∧ ZC (Ins b5 (Ins b3 (Ins b2 M))) w (n0 + 2) (((l.getD s 0)).num) xs23b xa23b) (fun _ _ _ ⟨bb,xs23,xa23,xs23b,xa23b,e,hk,h0,h1⟩ r => ⟨bb,xs23,xa23,xs23b,xa23b,e,hk.mono (Fz:=fun _ => False) (Le.of_rs r (by rintro _ rfl; exact (.inr zO)) (fun _ _ h => h)),h0.mono (Fz:=fun _ => False) (Le.of_rs r (by rintro _ rfl; exact (.inr zO)) (fun _ _ h => h)),h1.mono (Fz:=fun _ => False) (Le.of_rs r (by rintro _ rfl; exact (.inr zO)) (fun _ _ h => h))⟩) (fun wq hR hst => ?_) ?_
   ·refine zM rfl (zM rfl (zG ?_))
    have Lq:=lqb (M:=(Ins b5 (Ins b3 (Ins b2 M)))) hR (.inr zO) nF3
    obtain ⟨hM,hn3,hn17⟩:=up3 Lq hM hn3 hn17
    refine uO rfl underlying149 sz31 rfl rfl rfl rfl (jP rfl (jP rfl qP)) rfl rfl rfl (fun w9 b23 N23 => ?_)
    have hBw9:=N23.below
    have nM23:=hM.new N23
    have B23:=N23.blk
    obtain ⟨hn3,hn17⟩:=ub2 hBw9 hn3 hn17
    have hB23:=hBw9
    exact on1 hB23 rfl ⟨b23,_,_,_,_,rfl,KBlk.mk B23 nM23,hn3.z,hn17.z⟩
   refine gH rfl (fun v w => ∃ xs24 xa24,v = .agg #[.bool xs24,xa24] ∧ ZC (Ins b5 (Ins b3 (Ins b2 M))) w (2 * (max ((s * (n0 + 3) + 2)) (n0 + 2)) + 2) (gY ([(uI (l.take s)).num,((l.getD s 0)).num])) xs24 xa24) (fun _ _ _ ⟨xs24,xa24,e,h0⟩ r => ⟨xs24,xa24,e,h0.mono (Fz:=fun _ => False) (Le.of_rs r (by rintro _ rfl; exact (.inr zO)) (fun _ _ h => h))⟩) (fun wq hR hst => ?_) ?_
   ·refine xT rfl (fun v23 hp23 => ?_)
    obtain ⟨bb23,xs23,xa23,xs23b,xa23b,rfl,hk23,hn23,hnb23⟩:=hp23; obtain ⟨oxa23,_⟩:=hn23.one
    refine zG ?_
    have Lq:=lqb (M:=(Ins b5 (Ins b3 (Ins b2 M)))) hR (.inr zO) nF3
    obtain ⟨hM,hT⟩:=up2 Lq hM hT
    refine zK rfl (bo func92) rfl rfl ?_
    refine (x5mul_c hT (zl2 hk23 hn23.gen hnb23.gen) (by omega) (by first | omega | simp) hM).mono ?_
    rintro v24 w10 ⟨hB24,xs24,xa24,rfl,hn24⟩
    exact on1 hB24 rfl ⟨_,_,rfl,hn24⟩
   apply zS rfl
   ·intro wq hR hst
    refine zV rfl rfl (zG ?_)
    have Lq:=lqb (M:=(Ins b5 (Ins b3 (Ins b2 M)))) hR (.inr zO) nF3
    exact zL 2 rfl yu33 rfl rfl sz29 rfl rfl (on0 rfl)
   apply zS rfl
   ·intro wq hR hst
    refine zM rfl (zG ?_)
    have Lq:=lqb (M:=(Ins b5 (Ins b3 (Ins b2 M)))) hR (.inr zO) nF3
    replace B3:=(hst.2 (by decide +kernel))
    exact zN rfl yP rfl B3 rfl (on0 rfl)
   apply zS rfl
   ·intro wq hR hst
    refine zV rfl rfl (zG ?_)
    have Lq:=lqb (M:=(Ins b5 (Ins b3 (Ins b2 M)))) hR (.inr zO) nF3
    exact zL 2 rfl yu33 rfl rfl sz29 rfl rfl (on0 rfl)
   apply zS rfl
   ·intro wq hR hst
    refine zM rfl (zG ?_)
    have Lq:=lqb (M:=(Ins b5 (Ins b3 (Ins b2 M)))) hR (.inr zO) nF3
    replace B5:=B5.rs hR ne3_5.symm
    exact zN rfl yP rfl B5 rfl (on0 rfl)
   refine gH rfl (fun v w => ∃ xa29,v = xa29 ∧ NC (Ins b5 (Ins b3 (Ins b2 M))) w ((s * (n0 + 3) + 2) + (n0 + 2)) (((uI (l.take s)).den) * (((l.getD s 0)).den)) xa29) (fun _ _ _ ⟨xa29,e,h0⟩ r => ⟨xa29,e,h0.mono (Fz:=fun _ => False) (Le.of_rs r (by rintro _ rfl; exact (.inr zO)) (fun _ _ h => h))⟩) (fun wq hR hst => ?_) ?_
   ·refine zM rfl (zM rfl (zG ?_))
    have Lq:=lqb (M:=(Ins b5 (Ins b3 (Ins b2 M)))) hR (.inr zO) nF3
    obtain ⟨hM,hn3,hn17⟩:=up3 Lq hM hn3 hn17
    refine zK rfl (bo func114) rfl rfl ?_
    refine (nmul_q hn3.d.gen hn17.d.gen (by omega) (by omega) hM).mono ?_
    rintro v29 w11 ⟨hB29,xa29,rfl,hn29⟩
    exact on1 hB29 rfl ⟨_,rfl,hn29⟩
   refine gH rfl (fun v w => ∃ xs30 xa30 xd30,v = .tuple #[.agg #[.bool xs30,xa30,xd30],.int .i64 (if (((uI (l.take s)).den) * (((l.getD s 0)).den)) = 0 then 30 else 0)] ∧ RC (Ins b5 (Ins b3 (Ins b2 M))) w (max (2 * (max ((s * (n0 + 3) + 2)) (n0 + 2)) + 2) ((s * (n0 + 3) + 2) + (n0 + 2)) + 2) (mkRat (gY ([(uI (l.take s)).num,((l.getD s 0)).num])) (((uI (l.take s)).den) * (((l.getD s 0)).den))) xs30 xa30 xd30) (fun _ _ _ ⟨xs30,xa30,xd30,e,h0⟩ r => ⟨xs30,xa30,xd30,e,h0.mono (Fz:=fun _ => False) (Le.of_rs r (by rintro _ rfl; exact (.inr zO)) (fun _ _ h => h))⟩) (fun wq hR hst => ?_) ?_
   ·refine xT rfl (fun v24 hp24 => ?_)
    obtain ⟨xs24,xa24,rfl,hn24⟩:=hp24
    refine xT rfl (fun v29 hp29 => ?_)
    obtain ⟨xa29,rfl,hn29⟩:=hp29
    refine zG ?_
    have Lq:=lqb (M:=(Ins b5 (Ins b3 (Ins b2 M)))) hR (.inr zO) nF3
    obtain ⟨hM,hT⟩:=up2 Lq hM hT
    refine zK rfl (bo func113) rfl rfl ?_
    refine (x7new_c hT hn24.gen hn29.gen (by omega) (by omega) hM).mono ?_
    rintro v30 w12 ⟨hB30,xs30,xa30,xd30,rfl,hn30⟩
    exact on1 hB30 rfl ⟨_,_,_,rfl,hn30⟩
   refine gH rfl (fun v w => ∃ xs18 xa18 xd18,v = .tuple #[.agg #[.bool xs18,xa18,xd18],.int .i64 (if (((uI (l.take s)).den) * (((l.getD s 0)).den)) = 0 then 30 else 0)] ∧ RC (Ins b5 (Ins b3 (Ins b2 M))) w (max (2 * (max ((s * (n0 + 3) + 2)) (n0 + 2)) + 2) ((s * (n0 + 3) + 2) + (n0 + 2)) + 2) (mkRat (gY ([(uI (l.take s)).num,((l.getD s 0)).num])) (((uI (l.take s)).den) * (((l.getD s 0)).den))) xs18 xa18 xd18) (fun _ _ _ ⟨xs18,xa18,xd18,e,h0⟩ r => ⟨xs18,xa18,xd18,e,h0.mono (Fz:=fun _ => False) (Le.of_rs r (by rintro _ rfl; exact (.inr zO)) (fun _ _ h => h))⟩) (fun wq hR hst => ?_) ?_
   ·refine xT rfl (fun v30 hp30 => ?_)
    obtain ⟨xs30,xa30,xd30,rfl,hn30⟩:=hp30
    refine zG ?_
    have Lq:=lqb (M:=(Ins b5 (Ins b3 (Ins b2 M)))) hR (.inr zO) nF3
    exact zA rfl rfl (zD ⟨rfl,xB _,_,rfl,⟨_,_,_,rfl,hn30⟩⟩)
   refine gH rfl (fun v w => ∃ xs31 xa31 xd31,v = .agg #[.bool xs31,xa31,xd31] ∧ RC (Ins b5 (Ins b3 (Ins b2 M))) w (max (2 * (max ((s * (n0 + 3) + 2)) (n0 + 2)) + 2) ((s * (n0 + 3) + 2) + (n0 + 2)) + 2) (mkRat (gY ([(uI (l.take s)).num,((l.getD s 0)).num])) (((uI (l.take s)).den) * (((l.getD s 0)).den))) xs31 xa31 xd31) (fun _ _ _ ⟨xs31,xa31,xd31,e,h0⟩ r => ⟨xs31,xa31,xd31,e,h0.mono (Fz:=fun _ => False) (Le.of_rs r (by rintro _ rfl; exact (.inr zO)) (fun _ _ h => h))⟩) (fun wq hR hst => ?_) ?_
   ·refine xT rfl (fun v18 hp18 => ?_)
    obtain ⟨xs18,xa18,xd18,rfl,hn18⟩:=hp18
    refine zG ?_
    have Lq:=lqb (M:=(Ins b5 (Ins b3 (Ins b2 M)))) hR (.inr zO) nF3
    exact yK rfl rfl rfl (zD ⟨rfl,xB _,_,rfl,⟨_,_,_,rfl,hn18⟩⟩)
   refine gH rfl (Ex (.int .i64 (if (((uI (l.take s)).den) * (((l.getD s 0)).den)) = 0 then 30 else 0))) rX (fun wq hR hst => ?_) ?_
   ·refine xT rfl (fun v18 hp18 => ?_)
    obtain ⟨xs18,xa18,xd18,rfl,hn18⟩:=hp18
    refine zG ?_
    have Lq:=lqb (M:=(Ins b5 (Ins b3 (Ins b2 M)))) hR (.inr zO) nF3
    exact yK rfl rfl rfl (on0 rfl)
   refine fN rfl (fun wq hR hp => ?_) ?_
   ·refine zV rfl rfl (xT rfl (fun v31 hp31 => ?_))
    obtain ⟨xs31,xa31,xd31,rfl,hn31⟩:=hp31; obtain ⟨oxa31,oxd31,_⟩:=hn31.one
    refine zG ?_
    have Lq:=lqb (M:=(Ins b5 (Ins b3 (Ins b2 M)))) hR (.inr zO) nF3
    replace B3:=hp
    refine xL rfl rfl sz33 B3 rfl rfl (allq (allq (allq alln))) rfl (fun w13 Cw13 B3 => ?_)
    have Lw13:=Le.of_chg (M:=(Ins b5 (Ins b3 (Ins b2 M)))) Cw13 (.inr zO) nF3
    replace hn31:=hn31.mono Lw13
    exact zD ⟨rfl,cW Cw13,_,_,_,B3,hn31⟩
   refine jY (fun wq6 hR6 hpost6 => ?_)
   refine zV rfl rfl (zV rfl rfl (zV rfl rfl (zV rfl rfl (zG ?_))))
   simp only [qX,qW,qV,qU]
   obtain ⟨LR,hn3⟩:=up2 (lqc LR hR6 (.inr zO) nF3) LR hn3
   replace B2:=B2.rs hR6 ne2_3
   obtain ⟨xs3,xa3,xd3,B3,hn3⟩:=hpost6 _ _ _ rfl
   refine zD (zB (zA rfl rfl (yT rfl rfl rfl (by omega) (zC rfl rfl (zD ?_)))))
   replace LR:=LR.trans (Le.less (fun k c => (yD c)))
   replace hn3:=hn3.mono (Fz:=fun _ => False) (Le.less (fun k c => (yD c)))
   refine ⟨rfl,s + 1,(zR rfl (by rw [Int.natCast_add]; rfl) (zH rfl (zH rfl (zH rfl zZ)))),?_,?_⟩
   rw [mul_eq] at hn3
   exact ⟨LR,by omega,B2,_,_,_,B3,by rw [prodR_take (by omega)]; exact RC.relen hn3 (jT (eD hl3 hle) (by omega))⟩
   omega
  ·refine xF (xJ (zF (zB (jM rfl dG sz33 rfl B3 rfl rfl (xL rfl rfl sz33 B2 rfl rfl (allq (allq (allq alln))) rfl (fun w14 Cw14 B2 => ?_))))))
   obtain ⟨LL,hn3⟩:=up2 (lc LL Cw14 (.inr zO) nF2) LL hn3
   refine zD (zY ?_)
   refine lv1 ⟨⟨_,rfl,gE dG sz33 B2 rfl rfl⟩,trivial⟩ ?_
   obtain rfl:s = l.length:=by omega
   rw [List.take_length] at hn3
   subst hFz
   exact ⟨LL.b,_,_,_,rfl,(hn3.less (fun k c => yD (yD c))).up (by omega)⟩
end
theorem zT8 {Ψ:PV} {n:Nat} {p q:Rat} [h:VQ Ψ n [p,q]] (hn:n ≤ 970):CTy prog 53 [Ψ] (ag (rtc (2 * n + 8) (p * q))) :=
 ⟨(bo func53),fun M w vs hM hT hv => by
  obtain ⟨v,rfl,h1⟩:=fa1 hv
  exact (x7mul_c hT (h.h h1) hn (by simp) hM).mono fun r w' ⟨hB,x,y,z,e,g⟩ => ⟨hB,by
   have e2:uI [p,q] = p * q:=by simp [uI,Rat.one_mul]
   rw [e2] at g; exact e ▸ zQ5 g⟩⟩
def fc (f:FuncId) (l:List PV):CT where
 sz:=1
 p M w cs:=∃ v,cs = [v] ∧ (fn f l).p M w v
 len h:=by obtain ⟨_,rfl,_⟩:=h; rfl
 one h:=by obtain ⟨_,rfl,_,rfl,_⟩:=h; exact allc rfl alln
 mono h k:=by obtain ⟨v,rfl,h⟩:=h; exact ⟨v,rfl,(fn f l).mono h k⟩
instance {f:FuncId} {l:List PV}:CtOf (fn f l) (fc f l):=⟨fun {M w v} h => ⟨[v],by obtain ⟨_,rfl,_⟩:=h; rfl,v,rfl,h⟩⟩
instance {f:FuncId}:CtOf (exP (.func (.func f) #[] #[])) (fc f []):=⟨fun {M w v} h => ⟨[v],by rw [show v = _ from h]; rfl,v,rfl,[],h,rfl⟩⟩
instance {f:FuncId} {l:List PV}:LdA false (fc f l) (fn f l):=⟨fun h u e => by obtain ⟨v,e2,k⟩:=h; rw [e] at e2; rw [List.singleton_inj.1 e2]; exact k⟩
theorem zZ7 {f:FuncId} {τs:List PV} {n N:Nat} {q:Rat} (h:CTy prog f τs (ag (rtc n q))) (hr:rlen q N):CTy prog f τs (ag (rtc N q)):=⟨h.bod,fun M w vs hM hT hv => (h.run M w vs hM hT hv).mono fun r w' ⟨hB,k⟩ => ⟨hB,rH rfl hr _ _ _ k⟩⟩
set_option maxHeartbeats 4000000 in
theorem zV7 {f:FuncId} {n m N:Nat} {p q r:Rat} (hf:CTy prog f [sv (sl 3 [rtq n p,rtq m q])] (ag (rtc N r))):CTy prog 199 [ag (rtq n p),ag (rtq m q),pa (fc f [])] (ag (rtc N r)):=by
 refine ctc func199 rfl rfl rfl rfl fun X => (zI (zJ rfl (zA1 (obx rfl) (zA1 (obx rfl) ?_))))
 refine tal fun b5 => ?_
 refine zA0 (zI (zJ rfl (zA1 (old rfl rfl) (zA1 (old rfl rfl) (zA1 (old rfl rfl) (zA1 (obs rfl rfl rfl rfl rfl rfl) (zA1 (oca rfl rfl fun _ => hf) ?_)))))))
 refine tst 0 rfl rfl rfl rfl rfl rfl (zA0 (yF ?_))
 exact ⟨[_],rsc 0 rfl rfl rfl rfl rs0,yN (PSub.refl _)⟩
set_option maxHeartbeats 4000000 in
theorem wtwo {f:FuncId}:CTy prog 139 [fn f []] (fn 199 [pa (fc f [])]):=by
 refine ct (rs:=[2]) func139 rfl rfl rfl rfl rfl tJ fun X => (zI (zJ rfl (zA1 (obx rfl) (zA1 (oas rfl) (zA0 (zI (zJ rfl ?_)))))))
 refine zA1 (omf rfl) (zA1 (oas rfl) (zA0 (yF ?_)))
 exact tr1 rfl (PSub.refl _)
set_option maxHeartbeats 4000000 in
theorem wH {g:FuncId} {l:List PV} {n m N:Nat} {a b c d r s:Rat} (h1:CTy prog g ([ag (rtq n a),ag (rtq m c)] ++ l) (ag (rtc N r))) (h2:CTy prog g ([ag (rtq n b),ag (rtq m d)] ++ l) (ag (rtc N s))):CTy prog 198 [ag (st [rtq n a,rtq n b]),ag (st [rtq m c,rtq m d]),pa (fc g l)] (ag (st [rtc N r,rtc N s])):=by
 refine ctc func198 rfl rfl rfl rfl fun X => (zI (zJ rfl (zA1 (obx rfl) (zA1 (obx rfl) ?_))))
 refine tal fun b5 => ?_
 refine zA0 (zI (xH 13 mixed rfl rfl (d1 (old rfl rfl) (d1 (ofa rfl rfl) (d1 (old rfl rfl) (d1 (ofa rfl rfl) (d1 (old rfl rfl) ?_)))))))
 refine d1 (oca rfl rfl fun _ => h1) (d1 (old rfl rfl) (d1 (ofa rfl rfl) (d1 (old rfl rfl) (d1 (ofa rfl rfl) (d1 (old rfl rfl) (d1 (oca rfl rfl fun _ => h2) (d1 (obd rfl rfl rfl) ?_)))))))
 refine d0 (tst 0 rfl rfl rfl rfl rfl rfl (zA0 (yF ?_)))
 exact ⟨[_],rsc 0 rfl rfl rfl rfl rs0,yN (PSub.refl _)⟩
set_option maxHeartbeats 4000000 in
theorem wparts {g:FuncId} {l:List PV}:CTy prog 138 [fn g l] (fn 198 [pa (fc g l)]):=by
 refine ct (rs:=[2]) func138 rfl rfl rfl rfl rfl tJ fun X => (zI (zJ rfl (zA1 (obx rfl) (zA1 (oas rfl) (zA0 (zI (zJ rfl ?_)))))))
 refine zA1 (omf rfl) (zA1 (oas rfl) (zA0 (yF ?_)))
 exact tr1 rfl (PSub.refl _)
theorem ktwo {Ψ:PV} {f:FuncId} [h:VF Ψ f []]:CTy prog 139 [Ψ] (fn 199 [pa (fc f [])]):=gS wtwo (fs1 (fun _ _ _ k => h.h k) fs0)
theorem zT3 {Ψ:PV} {f:FuncId} {l:List PV} [h:VF Ψ f l]:CTy prog 138 [Ψ] (fn 198 [pa (fc f l)]):=gS wparts (fs1 (fun _ _ _ k => h.h k) fs0)
set_option maxHeartbeats 4000000 in
theorem wvadd {p q:P2} {n m:Nat} (g1:plen p (n + 1)) (g2:plen q (m + 1)) (hn:n ≤ 30000) (hm:m ≤ 30000):CTy prog 80 [ag (ptq n p),ag (ptq m q)] (ag (st [rtc (n + m + 3) (addP p q).1,rtc (n + m + 3) (addP p q).2])):=by
 refine ctc func80 rfl rfl rfl rfl fun X => (zI (zJ rfl (zA1 (obx rfl) (zA1 (obx rfl) ?_))))
 refine tal fun b4 => ?_
 refine zA0 (zI (xH 5 mixed rfl rfl (d1 (oca rfl rfl fun _ => ktwo) (d1 (oca rfl rfl fun _ => zT3) (d1 (old rfl rfl) (d1 (old rfl rfl) (d1 (oca rfl rfl fun _ => wH (N:=n + m + 3) (zV7 (zZ7 (zY1 (by omega)) (jT (qH g1.x g2.x) (by omega)))) (zV7 (zZ7 (zY1 (by omega)) (jT (qH g1.y g2.y) (by omega))))) ?_)))))))
 refine d0 (tst 0 rfl rfl rfl rfl rfl rfl (zA0 (yF ?_)))
 exact ⟨[_],rsc 0 rfl rfl rfl rfl rs0,yN (PSub.refl _)⟩
set_option maxHeartbeats 4000000 in
theorem wvsub {p q:P2} {n m:Nat} (g1:plen p (n + 1)) (g2:plen q (m + 1)) (hn:n ≤ 30000) (hm:m ≤ 30000):CTy prog 134 [ag (ptq n p),ag (ptq m q)] (ag (st [rtc (n + m + 3) (subP p q).1,rtc (n + m + 3) (subP p q).2])):=by
 refine ctc func134 rfl rfl rfl rfl fun X => (zI (zJ rfl (zA1 (obx rfl) (zA1 (obx rfl) ?_))))
 refine tal fun b4 => ?_
 refine zA0 (zI (xH 4 mixed rfl rfl (d1 (oca rfl rfl fun _ => zT3) (d1 (old rfl rfl) (d1 (old rfl rfl) (d1 (oca rfl rfl fun _ => wH (zT0 (by omega) (by omega)) (zT0 (by omega) (by omega))) (d0 ?_)))))))
 refine tst 0 rfl rfl rfl rfl rfl rfl (zA0 (yF ?_))
 exact ⟨[_],rsc 0 rfl rfl rfl rfl rs0,yN (PSub.refl _)⟩
set_option maxHeartbeats 4000000 in
theorem wvcross {p q:P2} {n m:Nat} (g1:plen p (n + 1)) (g2:plen q (m + 1)) (hn:n ≤ 20000) (hm:m ≤ 20000):CTy prog 197 [ag (ptq n p),ag (ptq m q)] (ag (rtc (2 * n + 2 * m + 9) (zQ p q))):=by
 refine ctc func197 rfl rfl rfl rfl fun X => (zI (zJ rfl (zA1 (obx rfl) (zA1 (obx rfl) ?_))))
 refine tal fun b4 => ?_
 refine zA0 (zI (xH 13 mixed rfl rfl (d1 (ofa rfl rfl) (d1 (old rfl rfl) (d1 (ofa rfl rfl) (d1 (old rfl rfl) (d1 (obs rfl rfl rfl rfl rfl rfl) ?_)))))))
 refine d1 (oca rfl rfl fun _ => zX8 (by omega)) (d1 (ofa rfl rfl) (d1 (old rfl rfl) (d1 (ofa rfl rfl) (d1 (old rfl rfl) (d1 (obs rfl rfl rfl rfl rfl rfl) (d1 (oca rfl rfl fun _ => zX8 (by omega)) (d1 (oca rfl rfl fun _ => zT0 (by omega) (by omega)) ?_)))))))
 refine d0 (tst 0 rfl rfl rfl rfl rfl rfl (zA0 (yF ?_)))
 exact ⟨[_],rsc 0 rfl rfl rfl rfl rs0,yN (rH rfl (jT (rlen_sub (eD g1.x g2.y) (eD g1.y g2.x)) (by omega)))⟩
set_option maxHeartbeats 4000000 in
theorem kvof {k l:Nat} (hk:k < 9223372036854775808) (hl:l < 9223372036854775808):CTy prog 142 [exP (.int .i64 ((k:Nat):Int)),exP (.int .i64 ((l:Nat):Int))] (ag (st [rtc 2 ((k:Nat):Rat),rtc 2 ((l:Nat):Rat)])):=by
 refine ctc func142 rfl rfl rfl rfl fun X => (zI (zJ rfl ?_))
 refine tal fun b4 => ?_
 refine zA0 (zI (zJ rfl (zA1 (omv rfl) (zA1 (oca rfl rfl fun _ => krof hk) (zA1 (omv rfl) (zA1 (oca rfl rfl fun _ => krof hl) (zA1 (obd rfl rfl rfl) ?_)))))))
 refine tst 0 rfl rfl rfl rfl rfl rfl (zA0 (yF ?_))
 exact ⟨[_],rsc 0 rfl rfl rfl rfl rs0,yN (PSub.refl _)⟩
set_option maxHeartbeats 4000000 in
theorem zV6 {p q:P2} {n m:Nat} (hn:n ≤ 80000) (hm:m ≤ 80000):CTy prog 69 [ag (ptq n p),ag (ptq m q)] (exP (.int .i64 (cmpP p q))):=by
 refine ct (rs:=[4]) func69 rfl rfl rfl rfl rfl tJ fun X => (zI (zJ rfl (zA1 (obx rfl) (zA1 (obx rfl) (zA1 (oas rfl) (zA0 (zI ?_)))))))
 refine zI (zJ rfl (zA1 (ofa rfl rfl) (zA1 (old rfl rfl) (zA1 (ofa rfl rfl) (zA1 (old rfl rfl) (zA1 (oca rfl rfl fun _ => zX9 (by omega) (by omega)) (zA1 (oas rfl) ?_)))))))
 refine zA0 (zI (zJ rfl (zA1 (omv rfl) (zA1 (oni rfl rfl) (zA0 ?_)))))
 refine t_if rfl (fun c0 => ?_) (fun c0 => ?_)
 ·refine zI ?_
  refine zJ rfl (zA1 (omv rfl) (zA1 (oas rfl) (zA0 (yF ?_))))
  exact tr1 rfl (ps_i (by unfold cmpP; rw [if_pos (dt c0)]))
 ·refine yV ?_
  refine zI (zJ rfl (zA1 (ofa rfl rfl) (zA1 (old rfl rfl) (zA1 (ofa rfl rfl) (zA1 (old rfl rfl) (zA1 (oca rfl rfl fun _ => zX9 (by omega) (by omega)) (zA1 (oas rfl) ?_)))))))
  refine zA0 (yF ?_)
  exact tr1 rfl (ps_i (by unfold cmpP; rw [if_neg (df c0)]))
set_option maxHeartbeats 4000000 in
theorem wvsame {p q:P2} {n m:Nat} (hn:n ≤ 80000) (hm:m ≤ 80000):CTy prog 71 [ag (ptq n p),ag (ptq m q)] (exP (.bool (decide (cmpP p q = 0)))):=by
 refine ct (rs:=[4]) func71 rfl rfl rfl rfl rfl tJ fun X => (zI (zJ rfl (zA1 (obx rfl) (zA1 (obx rfl) (zA1 (oas rfl) (zA0 (zI ?_)))))))
 refine zJ rfl (zA1 (old rfl rfl) (zA1 (old rfl rfl) (zA1 (oca rfl rfl fun _ => zV6 hn hm) (zA1 (oeq rfl rfl) (zA1 (oas rfl) (zA0 (yF ?_)))))))
 exact tr1 rfl (psb rfl)
section
variable {Ψ Φ : PV} {n m : Nat} {p q : P2}
theorem wD [h:QP Ψ n p] [k:QP Φ m q] {P:Program} {f:FuncId} {ρ:PV} (hb:Bod P f) (hr:plen p (n + 1) → plen q (m + 1) → CTy P f [ag (ptq n p),ag (ptq m q)] ρ):CTy P f [Ψ,Φ] ρ :=
 ⟨hb,fun M w vs hM hT hv => by
  obtain ⟨v,u,_,h1,h2⟩:=fa2 hv
  obtain ⟨_,_,_,_,_,_,_,g1⟩:=h.h h1
  obtain ⟨_,_,_,_,_,_,_,g2⟩:=k.h h2
  exact (hr ⟨g1.x.rlen,g1.y.rlen⟩ ⟨g2.x.rlen,g2.y.rlen⟩).run M w vs hM hT ((fs1 qp_q (fs1 qp_q fs0)) _ _ _ hv)⟩
theorem kvadd [h:QP Ψ n p] [k:QP Φ m q] (hn:n ≤ 30000) (hm:m ≤ 30000):CTy prog 80 [Ψ,Φ] (ag (st [rtc (n + m + 3) (addP p q).1,rtc (n + m + 3) (addP p q).2])):=wD (bo func80) fun g1 g2 => wvadd g1 g2 hn hm
theorem zL4 [h:QP Ψ n p] [k:QP Φ m q] (hn:n ≤ 30000) (hm:m ≤ 30000):CTy prog 134 [Ψ,Φ] (ag (st [rtc (n + m + 3) (subP p q).1,rtc (n + m + 3) (subP p q).2])):=wD (bo func134) fun g1 g2 => wvsub g1 g2 hn hm
theorem kvcross [h:QP Ψ n p] [k:QP Φ m q] (hn:n ≤ 20000) (hm:m ≤ 20000):CTy prog 197 [Ψ,Φ] (ag (rtc (2 * n + 2 * m + 9) (zQ p q))):=wD (bo func197) fun g1 g2 => wvcross g1 g2 hn hm
theorem kvcmp [h:QP Ψ n p] [k:QP Φ m q] (hn:n ≤ 80000) (hm:m ≤ 80000):CTy prog 69 [Ψ,Φ] (exP (.int .i64 (cmpP p q))):=gS (zV6 hn hm) (fs1 qp_q (fs1 qp_q fs0))
theorem zS9 [h:QP Ψ n p] [k:QP Φ m q] (hn:n ≤ 80000) (hm:m ≤ 80000):CTy prog 71 [Ψ,Φ] (exP (.bool (decide (cmpP p q = 0)))):=gS (wvsame hn hm) (fs1 qp_q (fs1 qp_q fs0))
end
theorem zJ5 {p q:P2} {n m:Nat} (e:p = q) (h:n ≤ m):PSub (ag (st [rtc n p.1,rtc n p.2])) (ag (st [rtc m q.1,rtc m q.2])):=fun M w v ⟨us,e1,x,y,e2,⟨s,a,d,k1,g1⟩,z,o,e3,⟨t,b,f,k2,g2⟩,e4⟩ => by
 subst e; exact ⟨us,e1,x,y,e2,⟨s,a,d,k1,g1.up h⟩,z,o,e3,⟨t,b,f,k2,g2.up h⟩,e4⟩
theorem zT7 {Ψ:PV} {n:Nat} {p:Rat} [h:QR Ψ n p] (hn:n ≤ 500000):CTy prog 16 [Ψ] (exP (.int .i64 (sgnR p))) :=
 ⟨(bo func16),fun M w vs hM hT hv => by
  obtain ⟨v,rfl,h1⟩:=fa1 hv
  obtain ⟨s,a,d,rfl,g1⟩:=h.h h1
  exact r7sign_c g1 hn hM⟩
end Go.Proofs.YtflobagimodmgaaGreatDoor
namespace Go.Proofs.YtflobagimodmgaaGreatDoor
open Go Go.SL Go.RowKit Go.Proofs Go.ChangeShapes Go.WideShapes Go.ChangeAt Go.Deep Tryz
abbrev F0:Nat → Prop:=fun _ => False
structure Opn {H:Type} (enc:TypeId × Value → H) (P:Program) (W:World) (B:Nat) (t:TypeId) {α:Type} (sz:Nat) (f:α → CT) (Bd:α → Prop):Prop where
 c:P.cellsOf t = sz
 s:∀ a,(f a).sz = sz
 o:∀ {fuel:Nat} {cs:List Value} {x:DataW H × List MemPlace},(∀ m ∈ x.1.weights P t,m ≤ B) → DataW.trod enc P W 0 (fun _ => true) true fuel t cs = some x → ∃ a,(f a).p F0 W cs ∧ Bd a
def Two (P:Program) (t zA0 zA1:TypeId) (k0 k1:Nat):Prop:=∃ fs f0 f1,P.underlying t = some (.struct fs) ∧ fs[0]? = some f0 ∧ fs[1]? = some f1 ∧ f0.type = zA0 ∧ f1.type = zA1 ∧ f0.offset = 0 ∧ f1.offset = k0 ∧ P.cellsOf t = k0 + k1
section
variable {H : Type} {enc : TypeId × Value → H} {P : Program} {W : World} {B : Nat}
theorem dU {e:TypeId} {m:Nat} {d:DataW H} (hm:m ∈ d.weights P e):∀ {l:List (DataW H)},d ∈ l → m ∈ DataW.weightsAll P e l
 | c :: l,h => by
  simp only [DataW.weightsAll,List.mem_append]
  rcases List.mem_cons.1 h with rfl | h
  ·exact .inl hm
  ·exact .inr (dU hm h)
theorem rK {α β:Type} {t zA0 zA1:TypeId} {k0 k1:Nat} {f:α → CT} {g:β → CT} {Bf:α → Prop} {Bg:β → Prop} (ht:Two P t zA0 zA1 k0 k1) (h0:Opn enc P W B zA0 k0 f Bf) (h1:Opn enc P W B zA1 k1 g Bg) :
  Opn enc P W B t (k0 + k1) (fun a:α × β => st [f a.1,g a.2]) (fun a => Bf a.1 ∧ Bg a.2):=by
 obtain ⟨fs,f0,f1,u1,u2,u3,u4,u5,u6,u7,u8⟩:=ht
 refine ⟨u8,fun a => by show (f a.1).sz + ((g a.2).sz + 0) = _; rw [h0.s,h1.s]; rfl,fun {fuel cs x} hw h => ?_⟩
 obtain ⟨xs,n,_,hxe,hl,hx,hall⟩:=DataW.trod_struct u1 h
 have l0:=(Array.getElem?_eq_some_iff.1 u2).1
 have l1:=(Array.getElem?_eq_some_iff.1 u3).1
 have e0:=hall 0 f0 u2
 have e1:=hall 1 f1 u3
 have n0:P.cellsOf f0.type = k0:=by rw [u4]; exact h0.c
 have n1:P.cellsOf f1.type = k1:=by rw [u5]; exact h1.c
 rw [u6,n0,List.drop_zero] at e0
 rw [u7,n1] at e1
 have hd:(cs.drop k0).length = k1:=by rw [List.length_drop]; omega
 rw [List.take_of_length_le (by omega)] at e1
 have hwe:∀ m ∈ DataW.weightsEach P (fs.toList.map (·.type)) (xs.map (·.1)),m ≤ B:=fun m hm => hw m (by rw [hxe]; simpa [DataW.weights,u1] using hm)
 have hwi:∀ (i:Nat) (f:Field) (hi:i < xs.length),fs[i]? = some f → ∀ m ∈ (xs[i]'hi).1.weights P f.type,m ≤ B:=fun i f hi hf m hm =>
  hwe m (DataW.weights_mem_each (j:=i) (by rw [List.getElem?_map]; simp [hf]) (by rw [List.getElem?_map,List.getElem?_eq_getElem hi]; rfl) m hm)
 have w0:=hwi 0 f0 (by omega) u2
 have w1:=hwi 1 f1 (by omega) u3
 rw [List.getElem?_eq_getElem (show 0 < xs.length by omega)] at e0
 rw [List.getElem?_eq_getElem (show 1 < xs.length by omega)] at e1
 rw [u4] at w0 e0; rw [u5] at w1 e1
 obtain ⟨a,p0,b0⟩:=h0.o w0 e0
 obtain ⟨b,p1,b1⟩:=h1.o w1 e1
 exact ⟨(a,b),⟨cs.take k0,cs.drop k0,(List.take_append_drop _ _).symm,p0,cs.drop k0,[],by simp,p1,rfl⟩,b0,b1⟩
theorem zK4 {t e:TypeId} (ht:P.underlying t = some (.slice e)) (he:P.underlying e = some (.int .u32)) (ce:P.cellsOf e = 1) (c:P.cellsOf t = 1) (hb:0 < P.bytesOf e):Opn enc P W B t 1 ntx (fun xs => xs.length ≤ B):=by
 refine ⟨c,fun _ => rfl,fun {fuel cs x} hw h => ?_⟩
 rcases open_ints ht he ce h with ⟨h1,_⟩ | ⟨a,l,c,zs,h1,_,h3,h4,h5,h6,h7,h8⟩
 ·exact ⟨[],⟨_,h1,uX⟩,Nat.zero_le _⟩
 ·simp only [if_true] at h5
  have hn:=nat_of_cells h3 h4 (by omega) h8 (fun i hi => h7 i (by omega))
  refine ⟨_,⟨_,h1,hn⟩,?_⟩
  obtain ⟨_,_,ad,cap,e1,_⟩:=hn.slc
  have e2:l = _:=(Value.slice.inj e1).2.1
  rw [← e2]
  have h9:=hw (((lits .u32 (zs.take l)).length + (lits (H:=H) .u32 (zs.drop l)).length) * P.bytesOf e) (by rw [h6]; simp only [DataW.weights,ht]; exact List.mem_cons_self)
  have h10:(lits (H:=H) .u32 (zs.take l)).length = l:=by simp [lits]; omega
  rw [h10] at h9
  exact Nat.le_trans (Nat.le_add_right l _) (Nat.le_trans (Nat.le_mul_of_pos_right _ hb) h9)
theorem opn_bool {t:TypeId} (ht:P.underlying t = some .bool) (hc:P.cellsOf t = 1):Opn enc P W B t 1 (fun b => xc (.bool b)) (fun _ => True):=by
 refine ⟨hc,fun _ => rfl,fun {fuel cs x} hw h => ?_⟩
 cases fuel with
 | zero => simp [DataW.trod] at h
 | succ n =>
  unfold DataW.trod at h
  rw [ht] at h
  split at h <;> simp_all [xc,Value.oneCell']
theorem addr_add2 (a:Addr) (i j:Nat):(a.add i).add j = a.add (i + j):=by
 unfold Addr.add
 split <;> split <;> simp_all <;> omega
theorem slc_argk {w:World} {a:Addr} {n cap k:Nat} {f:Nat → Value} (hk:0 < k) (hn:n ≤ cap) (hc:cap ≤ 9223372036854775807) (h:∀ i,i < n * k → w.cell? (a.add i) = some (f i)) :
  Slc (fun _ => False) w k (.slice (some a) n cap) n ((List.range (n * k)).map f):=by
 refine ⟨by simp,by omega,_,_,rfl,hn,?_⟩
 rcases Nat.eq_zero_or_pos n with h0 | h0
 ·exact .inl h0
 right
 have ha:=h 0 (Nat.mul_pos h0 hk)
 obtain ⟨b,off,spot⟩:=a
 have e0:(⟨b,off,spot⟩:Addr).add 0 = ⟨b,off,spot⟩:=rfl
 rw [e0] at ha
 unfold World.cell? at ha
 split at ha
 case h_2 => cases ha
 case h_1 cur t fz hb =>
  dsimp only at hb
  cases spot with
  | some s => simp at ha
  | none =>
   refine ⟨b,off,rfl,fun h => h,cur,t,fz,hb,fun j u hj => ?_⟩
   obtain ⟨hlt,rfl⟩:=List.getElem?_eq_some_iff.1 hj
   have hlt':j < n * k:=by simpa using hlt
   have:=h j hlt'
   rw [jV] at this
   simp only [World.cell?,hb] at this
   simpa using this
theorem opn_slicew {α:Type} {t te:TypeId} {k:Nat} {f:α → CT} {Bf:α → Prop} (ht:P.underlying t = some (.slice te)) (c:P.cellsOf t = 1) (he:Opn enc P W B te k f Bf) (hk:0 < k):Opn enc P W B t 1 (fun l:List α => sl k (l.map f)) (fun l => l.length * P.bytesOf te ≤ B ∧ ∀ a ∈ l,Bf a):=by
 refine ⟨c,fun _ => rfl,fun {fuel cs x} hw h => ?_⟩
 rcases open_slice ht h with ⟨h1,_⟩ | ⟨a,len,cap,m,n,D,Pl,h1,hb,hl,hm,hmm,hxe,hx⟩
 ·exact ⟨[],⟨_,[],h1,rC,rfl,by simp [aJ]⟩,by simp⟩
 ·simp only [if_true] at hmm
  have hde:x.1 = .slice ((List.range len).map D) ((List.range (m - len)).map fun j => D (len + j)):=congrArg Prod.fst hxe
  have hwd:∀ i,i < len → ∀ q ∈ (D i).weights P te,q ≤ B:=fun i hi q hq => hw q (by
   rw [hde]
   simp only [DataW.weights,ht,List.mem_cons,List.mem_append]
   exact .inr (.inl (dU hq (List.mem_map_of_mem (List.mem_range.2 hi)))))
  have hwl:len * P.bytesOf te ≤ B:=by
   have h9:=hw ((((List.range len).map D).length + ((List.range (m - len)).map fun j => D (len + j)).length) * P.bytesOf te) (by rw [hde]; simp only [DataW.weights,ht]; exact List.mem_cons_self)
   rw [List.length_map,List.length_range] at h9
   exact Nat.le_trans (Nat.mul_le_mul_right _ (Nat.le_add_right len _)) h9
  have hx':∀ i,i < len → ∃ y:α × List Value,(∀ q,q < k → W.cell? (a.add (i * k + q)) = some (y.2.getD q default)) ∧ y.2.length = k ∧ (f y.1).p F0 W y.2 ∧ Bf y.1:=fun i hi => by
   obtain ⟨cs',e1,e2⟩:=hx i (by omega)
   rw [he.c] at e1
   obtain ⟨b,g1,g2⟩:=he.o (hwd i hi) e2
   have hl:=(f b).len g1
   rw [he.s] at hl
   obtain ⟨_,_,e3⟩:=World.cells?_some e1
   refine ⟨(b,cs'),fun q hq => ?_,hl,g1,g2⟩
   have:=e3 q hq
   rw [addr_add2] at this
   rw [this,List.getD_eq_getElem?_getD,List.getElem?_eq_getElem (show q < cs'.length by omega)]; rfl
  rcases Nat.eq_zero_or_pos len with h0 | h0
  ·subst h0
   exact ⟨[],⟨_,[],h1,slc_zero,rfl,by simp [aJ]⟩,by simp⟩
  haveI:Inhabited (α × List Value):=⟨Classical.choose (hx' 0 h0)⟩
  obtain ⟨Y,hY⟩:=choose_lt hx'
  rw [pD] at hm
  refine ⟨(List.range len).map fun i => (Y i).1,?_,by rw [List.length_map,List.length_range]; exact hwl,fun b hb => by obtain ⟨i,hi,rfl⟩:=List.mem_map.1 hb; exact (hY i (List.mem_range.1 hi)).2.2.2⟩
  rw [h1]
  refine cD (R:=fun M w (b:α) us => (f b).p M w us) he.s (fun _ _ _ h => h) ⟨(List.range (len * k)).map fun j => (Y (j / k)).2.getD (j % k) default,?_,fun i b hi => ?_⟩
  ·have:=slc_argk (k:=k) (f:=fun j => (Y (j / k)).2.getD (j % k) default) hk hl hm (fun j hj => by
    have h2:=(hY (j / k) (Nat.div_lt_of_lt_mul (by rw [Nat.mul_comm]; exact hj))).1 (j % k) (Nat.mod_lt _ hk)
    rw [Nat.mul_comm,Nat.div_add_mod] at h2
    exact h2)
   simpa using this
  ·obtain ⟨hlt,rfl⟩:=List.getElem?_eq_some_iff.1 hi
   have hlt':i < len:=by simpa using hlt
   obtain ⟨y1,y2,y3,_⟩:=hY i hlt'
   refine ⟨(Y i).2,y2,fun q u hq => ?_,by simpa using y3⟩
   have hq3:q < k:=y2 ▸ (List.getElem?_eq_some_iff.1 hq).1
   have hlt2:i * k + q < len * k:=by have:=Nat.mul_le_mul_right k (show i + 1 ≤ len from hlt'); rw [Nat.add_mul,Nat.one_mul] at this; omega
   rw [List.getElem?_map,List.getElem?_range hlt2]
   simp only [Option.map_some]
   rw [show (i * k + q) / k = i by rw [Nat.mul_comm,Nat.mul_add_div hk,Nat.div_eq_of_lt hq3,Nat.add_zero],show (i * k + q) % k = q by rw [Nat.mul_comm,Nat.mul_add_mod,Nat.mod_eq_of_lt hq3],List.getD_eq_getElem?_getD,hq]; rfl
theorem top_slice {α:Type} {t te:TypeId} {f:α → CT} {Bf:α → Prop} {r:Reach} {b0:Nat} {v:Value} {d:DataW H} {ps:List MemPlace} (ho:Opn enc P W B t 1 f Bf) (ht:P.underlying t = some (.slice te)) (hval:Value.okWide P W r b0 t v) (hw:∀ m ∈ d.weights P t,m ≤ B) (h:DataW.Trod enc P W 0 (fun _ => true) true t v d ps) :
  ∃ a,(sv (f a)).p F0 W v ∧ Bf a:=by
 obtain ⟨a0,len,cap,rfl⟩:=okWide_slice ht hval
 obtain ⟨fuel,hf⟩:=h
 obtain ⟨a,h1,h2⟩:=ho.o (x:=(d,ps)) hw hf
 exact ⟨a,by have h3:(f a).p F0 W (Value.cells (.slice a0 len cap)).toList:=h1; show (f a).p F0 W [_]; simpa [Value.cells] using h3,h2⟩
structure NumTypes (P:Program) (tp tr ti tn tb tw:TypeId):Prop where
 p:Two P tp tr tr 3 3
 r:Two P tr ti tn 2 1
 i:Two P ti tb tn 1 1
 n:P.underlying tn = some (.slice tw)
 w:P.underlying tw = some (.int .u32)
 b:P.underlying tb = some .bool
 cn:P.cellsOf tn = 1
 cw:P.cellsOf tw = 1
 cb:P.cellsOf tb = 1
 hb:0 < P.bytesOf tw
variable {tp tr ti tn tb tw : TypeId}
theorem reach_le:reachBytes ≤ 200000000000000:=by decide
end
end Go.Proofs.YtflobagimodmgaaGreatDoor
namespace Go.SL
open Go.Sort Go.Shelf Go.Proofs
structure COrd {α:Type} (cf:α → α → Int):Prop where
 zero:∀ a b,cf a b = 0 ↔ a = b
 anti:∀ a b,0 < cf a b ↔ cf b a < 0
 trans:∀ a b c,cf a b < 0 → cf b c < 0 → cf a c < 0
structure IsSet {α:Type} (cf:α → α → Int) (l m:List α):Prop where
 rise:m.Pairwise fun a b => cf a b < 0
 mem:∀ x,x ∈ m ↔ x ∈ l
section
variable {α : Type} {cf : α → α → Int}
theorem COrd.irr (h:COrd cf) (a:α):¬ cf a a < 0:=by have:=(h.zero a a).2 rfl; omega
theorem COrd.swo (h:COrd cf):SWO (ltOf cf) :=
 ⟨fun x => by simpa [ltOf] using Int.not_lt.1 (h.irr x),fun x y z a b => by simp only [ltOf,decide_eq_true_eq] at *; exact h.trans _ _ _ a b,fun x y z a b => by
  simp only [ltOf,decide_eq_false_iff_not] at *
  intro c
  have h1:=h.anti x y; have h2:=h.anti y z; have h3:=h.zero x y; have h4:=h.zero y z
  rcases Int.lt_trichotomy (cf x y) 0 with d | d | d
  ·exact a d
  ·obtain rfl:=h3.1 d; exact b c
  ·exact b (h.trans _ _ _ (h1.1 d) c)⟩
theorem nO (h:COrd cf):∀ {l m:List α},l.Pairwise (fun a b => cf a b < 0) → m.Pairwise (fun a b => cf a b < 0) → (∀ x,x ∈ l ↔ x ∈ m) → l = m
 | [],[],_,_,_ => rfl
 | [],b :: m,_,_,e => absurd ((e b).2 (by simp)) (by simp)
 | a :: l,[],_,_,e => absurd ((e a).1 (by simp)) (by simp)
 | a :: l,b :: m,h1,h2,k => by
  obtain ⟨a1,a2⟩:=List.pairwise_cons.1 h1
  obtain ⟨b1,b2⟩:=List.pairwise_cons.1 h2
  have e:a = b:=by
   rcases List.mem_cons.1 ((k a).1 (by simp)) with c | c
   ·exact c
   rcases List.mem_cons.1 ((k b).2 (by simp)) with d | d
   ·exact d.symm
   exact absurd (h.trans _ _ _ (a1 b d) (b1 a c)) (h.irr a)
  subst e
  rw [nO h a2 b2 fun x => ⟨fun hx => ?_,fun hx => ?_⟩]
  ·rcases List.mem_cons.1 ((k x).1 (List.mem_cons_of_mem _ hx)) with c | c
   ·subst c; exact absurd (a1 x hx) (h.irr x)
   ·exact c
  ·rcases List.mem_cons.1 ((k x).2 (List.mem_cons_of_mem _ hx)) with c | c
   ·subst c; exact absurd (b1 x hx) (h.irr x)
   ·exact c
theorem IsSet.uniq (h:COrd cf) {l l' m m':List α} (a:IsSet cf l m) (b:IsSet cf l' m') (e:∀ x,x ∈ l ↔ x ∈ l'):m = m':=nO h a.rise b.rise fun x => by rw [a.mem,b.mem,e]
theorem oF (h:COrd cf) {d:α} {l:List α} (hs:∀ i j,i < j → j < l.length → ¬ cf (l.getD j d) (l.getD i d) < 0):∀ k,k ≤ l.length →
  (uW (fun a b => decide (cf a b = 0)) d l k).Pairwise (fun a b => cf a b < 0) ∧ ∀ x,x ∈ uW (fun a b => decide (cf a b = 0)) d l k ↔ x ∈ l.take k
 | 0,_ => by simp [uW]
 | k + 1,hk => by
  obtain ⟨h1,h2⟩:=oF h hs k (by omega)
  rw [(xG d (show k < l.length by omega)).1]
  unfold uW
  split
  ·rename_i c
   rw [List.append_nil]
   refine ⟨h1,fun x => ?_⟩
   rw [h2,List.mem_append]
   refine ⟨.inl,fun e => e.elim id fun e => ?_⟩
   rw [List.mem_singleton.1 e,(h.zero _ _).1 (of_decide_eq_true c.2)]
   have:=(xG d (show k - 1 < l.length by omega)).1
   rw [show k - 1 + 1 = k by omega] at this
   rw [this]; simp
  ·rename_i c
   refine ⟨List.pairwise_append.2 ⟨h1,List.pairwise_singleton _ _,fun a ha b hb => ?_⟩,fun x => by rw [List.mem_append,List.mem_append,h2]⟩
   rw [List.mem_singleton.1 hb]
   obtain ⟨i,hi,rfl⟩:=List.mem_iff_getElem.1 ((h2 a).1 ha)
   rw [List.length_take] at hi
   rw [List.getElem_take]
   have e:l[i]'(by omega) = l.getD i d:=by rw [List.getD_eq_getElem?_getD,List.getElem?_eq_getElem]; rfl
   rw [e]
   have h0:¬ cf (l.getD k d) (l.getD (k - 1) d) = 0:=fun e => c ⟨by omega,decide_eq_true e⟩
   have h3:=hs (k - 1) k (by omega) (by omega)
   have h4:cf (l.getD (k - 1) d) (l.getD k d) < 0:=by rw [← h.anti]; omega
   rcases Nat.lt_or_ge i (k - 1) with e1 | e1
   ·have h5:=hs i (k - 1) e1 (by omega)
    rcases Int.lt_trichotomy (cf (l.getD (k - 1) d) (l.getD i d)) 0 with e2 | e2 | e2
    ·exact absurd e2 h5
    ·rw [← (h.zero _ _).1 e2]; exact h4
    ·exact h.trans _ _ _ ((h.anti _ _).1 e2) h4
   ·rw [show i = k - 1 by omega]; exact h4
theorem sd_of_sort [Inhabited α] (h:COrd cf) {d:α} {raw l:List α} (hp:l.Perm raw) (hs:∀ i j,i < j → j < l.length → ¬ cf l[j]! l[i]! < 0):IsSet cf raw (uW (fun a b => decide (cf a b = 0)) d l l.length):=by
 have hs':∀ i j,i < j → j < l.length → ¬ cf (l.getD j d) (l.getD i d) < 0:=fun i j h1 h2 => by
  have:=hs i j h1 h2
  rw [getElem!_pos l j h2,getElem!_pos l i (by omega)] at this
  simpa [List.getD_eq_getElem?_getD,List.getElem?_eq_getElem h2,List.getElem?_eq_getElem (show i < l.length by omega)] using this
 obtain ⟨h1,h2⟩:=oF h hs' l.length (Nat.le_refl _)
 exact ⟨h1,fun x => by rw [h2,List.take_length]; exact hp.mem_iff⟩
noncomputable def setOf (cf:α → α → Int) (l:List α):List α:=Classical.epsilon fun m => IsSet cf l m
theorem IsSet.eq (h:COrd cf) {l m:List α} (k:IsSet cf l m):m = setOf cf l:=k.uniq h (Classical.epsilon_spec (p:=fun m => IsSet cf l m) ⟨m,k⟩) fun _ => .rfl
theorem cG {α:Type}:∀ {m l:List α},m.Nodup → (∀ x ∈ m,x ∈ l) → m.length ≤ l.length
 | [],_,_,_ => Nat.zero_le _
 | a :: m,l,h,k => by
  obtain ⟨h1,h2⟩:=List.nodup_cons.1 h
  obtain ⟨s,t,rfl⟩:=List.append_of_mem (k a (by simp))
  have:=cG (l:=s ++ t) h2 fun x hx => by
   have:=k x (List.mem_cons_of_mem _ hx)
   simp only [List.mem_append,List.mem_cons] at this ⊢
   rcases this with c | c | c
   ·exact .inl c
   ·subst c; exact absurd hx h1
   ·exact .inr c
  simp only [List.length_append,List.length_cons] at this ⊢; omega
theorem IsSet.len (h:COrd cf) {l m:List α} (k:IsSet cf l m):m.length ≤ l.length:=by
 have nd:m.Nodup:=k.rise.imp fun {a b} hab e => by subst e; exact h.irr a hab
 exact cG nd fun x hx => (k.mem x).1 hx
theorem zQ4 (h:COrd cf):∀ l:List α,∃ m,IsSet cf l m
 | [] => ⟨[],.nil,by simp⟩
 | a :: l => by
  obtain ⟨m,h1,h2⟩:=zQ4 h l
  refine ⟨m.filter (fun x => decide (cf x a < 0)) ++ a :: m.filter (fun x => decide (cf a x < 0)),?_,fun x => ?_⟩
  ·refine List.pairwise_append.2 ⟨h1.filter _,List.pairwise_cons.2 ⟨fun b hb => by simpa using (List.mem_filter.1 hb).2,h1.filter _⟩,fun x hx y hy => ?_⟩
   have hx:cf x a < 0:=by simpa using (List.mem_filter.1 hx).2
   rcases List.mem_cons.1 hy with rfl | hy
   ·exact hx
   ·exact h.trans _ _ _ hx (by simpa using (List.mem_filter.1 hy).2)
  ·simp only [List.mem_append,List.mem_filter,List.mem_cons,decide_eq_true_eq]
   constructor
   ·rintro (⟨c,_⟩ | c | ⟨c,_⟩)
    ·exact .inr ((h2 x).1 c)
    ·exact .inl c
    ·exact .inr ((h2 x).1 c)
   ·rintro (c | c)
    ·exact .inr (.inl c)
    ·have c:=(h2 x).2 c
     rcases Int.lt_trichotomy (cf x a) 0 with e | e | e
     ·exact .inl ⟨c,e⟩
     ·exact .inr (.inl ((h.zero _ _).1 e))
     ·exact .inr (.inr ⟨c,(h.anti _ _).1 e⟩)
theorem cT (h:COrd cf) (l:List α):IsSet cf l (setOf cf l):=Classical.epsilon_spec (zQ4 h l)
theorem qA (h:COrd cf) {l:List α} {x:α}:x ∈ setOf cf l ↔ x ∈ l:=(cT h l).mem x
theorem fA (h:COrd cf) (l:List α):(setOf cf l).length ≤ l.length:=(cT h l).len h
end
end Go.SL
namespace Go.Proofs.YtflobagimodmgaaGreatDoor
open Go.SL Go.RowKit Go.Proofs Tryz
theorem cts1 {Ψ:PV} {c:CT} [h:CtOf Ψ c]:CtsOf Ψ [c]:=⟨fun k => let ⟨us,e,g⟩:=h.h k; ⟨us,e,us,[],(List.append_nil _).symm,g,rfl⟩⟩
end Go.Proofs.YtflobagimodmgaaGreatDoor
set_option maxHeartbeats 4000000
namespace Go.Proofs.YtflobagimodmgaaGreatDoor
open Go.SL Go.RowKit Go.Proofs Tryz
abbrev pcs (n:Nat) (l:List P2):CT:=sl 6 (l.map (ptq n))
theorem pP:COrd cmpP:=⟨fun a b => qC,fun a b => by rw [zN2,mY],fun a b c h k => cmpP_lt_trans h k⟩
theorem kvcmp2 {p q:P2} {m:Nat} (hm:m ≤ 80000):CTy prog 69 [ag (ptc m p),ag (ptc m q)] (exP (.int .i64 (cmpP p q))):=by
 have:=kvcmp (Ψ:=ag (ptc m p)) (Φ:=ag (ptc m q)) (show max m m ≤ 80000 by omega) (show max m m ≤ 80000 by omega)
 exact this
theorem ksortP {v:Value} {l:List P2} {m:Nat} (hm:m ≤ 80000) (hl:l.length ≤ 1000000):CTo prog 68 [exP v,exP (.func (.func 69) #[] #[])] [.row v 35 6 (l.map (ptc m))] (fun r So => r = tu [] ∧ ∃ l':List P2,l'.Perm l ∧ (∀ i j,i < j → j < l'.length → ¬ cmpP l'[j]! l'[i]! < 0) ∧ So = [.row v 35 6 (l'.map (ptc m))]) :=
 tsort (ρ:=sortPt_ren) sortPt rfl rV (gO sz35) (fun _ => rfl) pP.swo (bo func68) (fun x y => kvcmp2 hm) hl
abbrev eqP (a b:P2):Bool:=decide (cmpP a b = 0)
theorem wcompactP {v:Value} {l:List P2} {m:Nat} (hm:m ≤ 80000) (hl:l.length ≤ 100000):CTo prog 70 [exP v,exP (.func (.func 71) #[] #[])] [.row v 35 6 (l.map (ptc m))] (fun ρ So => ∃ v',ρ = exP v' ∧ So = [.row v' 35 6 ((uW eqP Df.d l l.length).map (ptc m))]):=by
 refine ctd func70 rfl rfl rfl rfl (fun _ _ _ _ _ _ _ hs hp => fZ hs hp) fun X => (zI (zJ rfl (zA1 (oas rfl) (zA0 (zI (zI (zJ rfl (zA1 (omv rfl) (zA1 (olno 0 rfl rfl) ?_)))))))))
 refine zA1 (olt rfl rfl) (zA0 ?_)
 refine t_if rfl (fun c0 => ?_) (fun c0 => ?_)
 refine zI (zJ rfl (zA1 (omv rfl) (zA1 (oas rfl) (zA0 (yF ?_)))))
 rotate_left 1
 refine yV (zI (zI (zJ rfl (zA1 (oas rfl) (zA0 (yJ ?_))))))
 rotate_left 1
 ·have h2:=dt c0
  exact ⟨[_],exP v,_,rst rfl rs0,List.Sublist.refl _,⟨v,rfl,by rw [fK (Nat.le_refl _) fun i h1 h3 => by omega,List.take_length]⟩,yN (PSub.refl _)⟩
 have h2:=df c0
 refine jJ (σ:=Nat) (fun s => [(5,True,exP (.int .i64 ((s:Nat):Int)))]) (fun s => [.row v 35 6 (l.map (ptc m))]) (fun s => 1 ≤ s ∧ s ≤ l.length ∧ ∀ i,0 < i → i < s → eqP (l.getD i Df.d) (l.getD (i - 1) Df.d) = false) (fun s => l.length - s) (1) (tk 0 rfl (tk 1 rfl tn)) ?_ rfl (⟨by omega,by omega,fun i h1 h3 => by omega⟩) (fun s hJ Y _ => ?_)
 refine tc rfl (ps_r _) (tn)
 rotate_left 1
 obtain ⟨j1,j2,j3⟩:=hJ
 refine zI (zI (zJ rfl (zA1 (omv rfl) (zA1 (omv rfl) (zA1 (olno 0 rfl rfl) (zA1 (olt rfl rfl) (zA0 ?_)))))))
 refine t_if rfl (fun c1 => ?_) (fun c1 => ?_)
 refine yV (zI (yJ (zI (xH 11 mixed rfl rfl (d1 (omv rfl) (d1 (omv rfl) (d1 (omv rfl) (d1 (oixo 0 _ rfl rfl rfl (fun _ => rfl) (fun _ => (by (have e0:=dt c1; simp; omega)))) (d1 (oldr 0 rfl rfl (fun _ => (by (have e0:=dt c1; simp; omega))) rfl) ?_)))))))))
 refine d1 (omv rfl) (d1 (omv rfl) (d1 (osb rfl rfl (by omega)) (d1 (oixo 0 (s - 1) rfl rfl rfl (fun _ => (by omega)) (fun _ => (by (simp; omega)))) (d1 (oldr 0 rfl rfl (fun _ => (by (simp; omega))) rfl) (d1 (oca rfl rfl fun _ => zS9 (by omega) (by omega)) (d0 (zA0 ?_)))))))
 refine t_if rfl (fun c2 => ?_) (fun c2 => ?_)
 refine zI (zJ rfl (zA1 (omv rfl) (zA1 (omv rfl) (zA1 (osv 0 _ rfl rfl rfl (fun _ => rfl) (fun _ => (by (have e0:=df c0; have e1:=dt c1; have e2:=dt c2; simp; omega)))) (zA1 (oas rfl) (zA0 (zI (zI (zJ rfl ?_)))))))))
 refine zA1 (oas rfl) (zA0 (yJ ?_))
 rotate_left 1
 refine yV (zJ rfl (zA1 (omv rfl) (zA1 (oad rfl rfl (by omega)) (zA1 (oas rfl) (zA0 ?_)))))
 rotate_left 1
 refine jK (zI (zJ rfl (zA1 (omv rfl) (zA1 (oas rfl) (zA0 (yF ?_))))))
 rotate_left 1
 ·have h3:=dt c1
  refine jJ (σ:=Nat × Nat × List P2) (fun t => [(5,True,exP (.int .i64 ((t.1:Nat):Int))),(7,True,exP (.int .i64 ((t.2.1:Nat):Int)))]) (fun t => [.row v 35 6 (t.2.2.map (ptc m))]) (fun t => 1 ≤ t.2.1 ∧ s + t.2.1 ≤ l.length ∧ s ≤ t.1 ∧ t.1 < s + t.2.1 ∧ t.2.2.length = l.length ∧ t.2.2.take t.1 = uW eqP Df.d l (s + t.2.1) ∧ ∀ i,s + t.2.1 ≤ i + 1 → t.2.2.getD i Df.d = l.getD i Df.d) (fun t => l.length - t.2.1) ((s,1,l)) (tk 0 rfl (tk 1 rfl (tk 6 rfl tn))) ?_ rfl (⟨by simp,by simp only; omega,by simp,by simp,rfl,keepE_same (l:=l) (s:=s) (by omega) (by omega) j3 c2.h,fun _ _ => rfl⟩) (fun t hJ Y _ => ?_)
  refine tc rfl (ps_r _) (tc rfl (ps_r _) (tn))
  rotate_left 1
  obtain ⟨kk,m',l2⟩:=t
  dsimp only at hJ ⊢
  obtain ⟨j4,j5,j6,j7,j8,j9,j10⟩:=hJ
  refine zI (zI (zJ rfl (zA1 (omv rfl) (zA1 (omv rfl) (zA1 (olv 0 rfl rfl) (zA1 (olt rfl rfl) (zA0 ?_)))))))
  refine t_if rfl (fun c3 => ?_) (fun c3 => ?_)
  refine yV (zI (yJ (zI (xH 12 mixed rfl rfl (d1 (omv rfl) (d1 (omv rfl) (d1 (omv rfl) (d1 (oixv 0 m' rfl rfl rfl (fun _ => (by omega)) (fun _ => (by (have e0:=dt c3; omega)))) (d1 (oldr 0 rfl rfl (fun _ => (by (have e0:=dt c3; omega))) rfl) ?_)))))))))
  refine d1 (omv rfl) (d1 (omv rfl) (d1 (osb rfl rfl (by omega)) (d1 (oixv 0 (m' - 1) rfl rfl rfl (fun _ => (by omega)) (fun _ => (by (simp; omega)))) (d1 (oldr 0 rfl rfl (fun _ => (by (simp; omega))) rfl) (d1 (oca rfl rfl fun _ => zS9 (by omega) (by omega)) (d1 (ont rfl) (d0 (zA0 ?_))))))))
  refine t_if rfl (fun c4 => ?_) (fun c4 => ?_)
  refine zI (zJ rfl (zA1 (omv rfl) (zA1 (omv rfl) (zA1 (omv rfl) (zA1 (omv rfl) (zA1 (oixv 0 m' rfl rfl rfl (fun _ => (by omega)) (fun _ => (by (have e0:=dt c3; omega)))) (zA1 (oldr 0 rfl rfl (fun _ => (by (have e0:=dt c3; omega))) rfl) (zA1 (oixo 0 _ rfl rfl rfl (fun _ => rfl) (fun _ => (by (simp; omega)))) (tsr 0 _ rfl rfl rfl rfl rfl (by (simp; omega)) rfl ?_)))))))))
  refine zA0 (zJ rfl (zA1 (omv rfl) (zA1 (oad rfl rfl (by omega)) (zA1 (oas rfl) (zA0 (zJ rfl (zA1 (omv rfl) (zA1 (oad rfl rfl (by omega)) (zA1 (oas rfl) ?_)))))))))
  refine zA0 ?_
  rotate_left 1
  refine yV (zJ rfl (zA1 (omv rfl) (zA1 (oad rfl rfl (by omega)) (zA1 (oas rfl) (zA0 ?_)))))
  rotate_left 1
  refine jK (zI (zJ rfl (zA1 (omv rfl) (zA1 (omv rfl) (zA1 (osv 0 _ rfl rfl rfl (fun _ => rfl) (fun _ => (by (simp; omega)))) (tclr 0 rfl rfl (by (simp; omega)) (zA0 (zI (zJ rfl ?_)))))))))
  refine zA1 (omv rfl) (zA1 (omv rfl) (tsh 0 _ rfl rfl rfl rfl (by (simp; omega)) fun r64 => (zA1 (oas rfl) (zA0 (yF ?_)))))
  rotate_left 1
  ·have h5:m' < l2.length - s:=by have:=dt c3; simp at this; omega
   have hd:l2.getD (s + m') Df.d = l.getD (s + m') Df.d:=j10 _ (by omega)
   have hd2:l2.getD (s + (m' - 1)) Df.d = l.getD (s + m' - 1) Df.d:=by rw [show s + (m' - 1) = s + m' - 1 by omega]; exact j10 _ (by omega)
   have hc:¬ eqP (l.getD (s + m') Df.d) (l.getD (s + m' - 1) Df.d) = true:=by rw [← hd,← hd2,Bool.not_eq_true]; exact (Bool.not_eq_true' _) ▸ c4.h
   refine ⟨(kk + 1,m' + 1,l2.set kk (l2.getD (s + m') Df.d)),tes ?_ ?_ (by (simp; done)),?_,(by (simp; omega))⟩
   refine tc rfl (ps_r _) (tc rfl (ps_r _) (tn))
   refine tc rfl (ps_r _) (tc rfl (ps_r _) (tc rfl (ps_r _) (tn)))
   rotate_left 1
   ·refine ⟨by simp,by simp only; omega,by simp only; omega,by simp only; omega,by simp [j8],?_,fun i hi => ?_⟩
    ·simp only [← Nat.add_assoc]; rw [hd]; exact keepE_put (by omega) j9 hc
    ·simp only at hi ⊢; rw [getD_set_ne' (by omega)]; exact j10 i (by omega)
  ·have h5:m' < l2.length - s:=by have:=dt c3; simp at this; omega
   have hd:l2.getD (s + m') Df.d = l.getD (s + m') Df.d:=j10 _ (by omega)
   have hd2:l2.getD (s + (m' - 1)) Df.d = l.getD (s + m' - 1) Df.d:=by rw [show s + (m' - 1) = s + m' - 1 by omega]; exact j10 _ (by omega)
   have hc:eqP (l.getD (s + m') Df.d) (l.getD (s + m' - 1) Df.d) = true:=by rw [← hd,← hd2]; exact (Bool.not_eq_false' _) ▸ c4.h
   refine ⟨(kk,m' + 1,l2),tes ?_ ?_ (List.Sublist.refl _),?_,(by (simp; omega))⟩
   refine tc rfl (ps_r _) (tc rfl (ps_r _) (tn))
   refine tc rfl (ps_r _) (tc rfl (ps_r _) (tc rfl (ps_r _) (tn)))
   rotate_left 1
   exact ⟨by simp,by simp only; omega,j6,by simp only; omega,j8,by simp only [← Nat.add_assoc]; exact keepE_skip (by omega) j9 hc,fun i hi => j10 i (by simp only at hi; omega)⟩
  ·have h5:¬ m' < l2.length - s:=by have:=df c3; simp at this; omega
   have e:s + m' = l.length:=by omega
   refine ⟨[_],exP r64,_,rst rfl rs0,List.Sublist.refl _,⟨r64,rfl,?_⟩,yN (PSub.refl _)⟩
   rw [← e,← j9]
   simp [List.take_append,Nat.min_eq_left (show kk ≤ l2.length by omega)]
 ·have h3:=dt c1
  refine ⟨s + 1,tes ?_ ?_ (List.Sublist.refl _),?_,(by omega)⟩
  refine tc rfl (ps_r _) (tn)
  refine tc rfl (ps_r _) (tc rfl (ps_r _) (tn))
  rotate_left 1
  refine ⟨by omega,by omega,fun i h1 h4 => ?_⟩
  rcases Nat.lt_or_ge i s with h | h
  ·exact j3 i h1 h
  ·obtain rfl:i = s:=by omega
   exact c2.h
 ·have h3:=df c1
  exact ⟨[_],exP v,_,rst rfl rs0,List.Sublist.refl _,⟨v,rfl,by rw [fK (Nat.le_refl _) fun i h1 h4 => j3 i h1 (by omega),List.take_length]⟩,yN (PSub.refl _)⟩
end Go.Proofs.YtflobagimodmgaaGreatDoor
set_option maxHeartbeats 4000000
namespace Go.Proofs.YtflobagimodmgaaGreatDoor
open Go.SL Go.RowKit Go.Proofs Tryz
instance:Df (List P2):=⟨[]⟩
end Go.Proofs.YtflobagimodmgaaGreatDoor
set_option maxHeartbeats 4000000
namespace Go.Proofs.YtflobagimodmgaaGreatDoor
open Go.SL Go.RowKit Go.Proofs Tryz
theorem cto_w {P:Program} {f:FuncId} {τs σs:List PV} {Si:List Ow} {Q:PV → List Ow → Prop} (h:CTo P f σs Si Q) (k:Fsub τs σs):CTo P f τs Si Q:=⟨h.bod,fun M w vs a b c d e => h.run M w vs a b c d (k _ _ _ e)⟩
end Go.Proofs.YtflobagimodmgaaGreatDoor
set_option maxHeartbeats 4000000
namespace Go.Proofs.YtflobagimodmgaaGreatDoor
open Go.SL Go.RowKit Go.Proofs Tryz
abbrev RX:=(Bool × List Nat) × List Nat
abbrev PX:=RX × RX
def rtx (a:RX):CT:=st [itx a.1,ntx a.2]
def ptx (a:PX):CT:=st [rtx a.1,rtx a.2]
def qx (a:RX):Rat:=mkRat (zv a.1.1 a.1.2) (val a.2)
def px (a:PX):P2:=(qx a.1,qx a.2)
def pcx (l:List PX):CT:=sl 6 (l.map ptx)
instance:Df PX:=⟨(((false,[]),[]),((false,[]),[]))⟩
instance:Df (List PX):=⟨[]⟩
instance {a:RX}:FA (rtx a) 0 (itx a.1):=⟨fun h => kY (l:=[itx a.1,ntx a.2]) (o:=0) h rfl⟩
instance {a:RX}:FA (rtx a) 2 (ntx a.2):=⟨fun h => kY (l:=[itx a.1,ntx a.2]) (o:=2) h rfl⟩
instance {a:PX}:FA (ptx a) 0 (rtx a.1):=⟨fun h => kY (l:=[rtx a.1,rtx a.2]) (o:=0) h rfl⟩
instance {a:PX}:FA (ptx a) 3 (rtx a.2):=⟨fun h => kY (l:=[rtx a.1,rtx a.2]) (o:=3) h rfl⟩
instance {l:List PX}:VS (sv (pcx l)) 6 (l.map ptx):=⟨id⟩
instance {a:RX}:CQ (rtx a) (max a.1.2.length a.2.length) (qx a):=⟨by
 rintro M w us ⟨x,y,rfl,⟨x1,y1,rfl,⟨rfl,_⟩,x2,y2,rfl,⟨v,rfl,h1⟩,h2⟩,y3,y4,rfl,⟨d,rfl,h3⟩,h4⟩
 obtain rfl:y2 = []:=h2
 obtain rfl:y4 = []:=h4
 exact ⟨a.1.1,v,d,rfl,a.1.2,a.2,h1,h3,Nat.le_max_left _ _,Nat.le_max_right _ _,rfl⟩⟩
end Go.Proofs.YtflobagimodmgaaGreatDoor
set_option maxHeartbeats 4000000
namespace Go.Proofs.YtflobagimodmgaaGreatDoor
open Go.SL Go.RowKit Go.Proofs Tryz
theorem zT6 {p q:Rat} {n m:Nat} (hn:n ≤ 20000) (hm:m ≤ 20000):CTy prog 119 [ag (rtc n p),ag (rtc m q)] (exP (.bool (decide (p = q)))):=by
 refine ctc func119 rfl rfl rfl rfl fun X => (zI (zJ rfl (zA1 (obx rfl) (zA1 (obx rfl) (zA1 (oas rfl) (zA0 (zI (zJ rfl (zA1 (ofx rfl) ?_)))))))))
 refine zA1 (old rfl rfl) (zA1 (ofx rfl) (zA1 (old rfl rfl) (zA1 (oca rfl rfl fun _ => k5told) (zA1 (omv rfl) (t1g rfl rfl (ofx rfl) (t1g rfl rfl (old rfl rfl) (t1g rfl rfl (ofx rfl) (t1g rfl rfl (old rfl rfl) (t1g rfl rfl (oca rfl rfl fun g => zU1) ?_)))))))))
 refine zA1 (opk rfl rfl rfl) (zA1 (oas rfl) (zA0 (yF (⟨[_],rst rfl rs0,yN ?_⟩))))
 refine psb ?_
 rotate_left 1
 rw [← Bool.decide_and,decide_eq_decide]
 exact ⟨fun ⟨h1,h2⟩ => Rat.ext h1 (by have:=congrArg val h2; rwa [zT,zT] at this),fun h => h ▸ ⟨rfl,rfl⟩⟩
theorem sT {α:Type} {f g:α → CT}:∀ {xs:List α} {us:List Value} {M:Nat → Prop} {w:World},(∀ a ∈ xs,∀ {M w us},(f a).p M w us → (g a).p M w us) → stp (xs.map f) M w us → stp (xs.map g) M w us
 | [],_,_,_,_,e => e
 | a :: xs,_,_,_,h,⟨x,y,e,h1,h2⟩ => ⟨x,y,e,h a (by simp) h1,sT (fun b hb => h b (by simp [hb])) h2⟩
theorem zV3 {α:Type} {f g:α → CT} {k:Nat} {xs:List α} (h:∀ a ∈ xs,∀ {M w us},(f a).p M w us → (g a).p M w us) (hs:∀ a,(g a).sz = k) {M:Nat → Prop} {w:World} {us:List Value}:(sl k (xs.map f)).p M w us → (sl k (xs.map g)).p M w us:=fun ⟨u,vs,e,h1,h2,h3⟩ =>
 ⟨u,vs,e,by rw [List.length_map] at h1 ⊢; exact h1,sT h h2,fun c hc => by obtain ⟨a,_,rfl⟩:=List.mem_map.1 hc; exact hs a⟩
theorem zW8 {n:Nat} (a:PX) (h1:a.1.1.2.length ≤ n) (h2:a.1.2.length ≤ n) (h3:a.2.1.2.length ≤ n) (h4:a.2.2.length ≤ n) {M:Nat → Prop} {w:World} {us:List Value} (h:(ptx a).p M w us):(ptq n (px a)).p M w us:=by
 obtain ⟨s,x,d,t,y,e,rfl,g⟩:=CP.h (c:=st [rtx a.1,rtx a.2]) h
 exact ⟨[.bool s,x,d],[.bool t,y,e],rfl,⟨s,x,d,rfl,(g.up (m:=n) (by simp; omega)).x⟩,[.bool t,y,e],[],rfl,⟨t,y,e,rfl,(g.up (m:=n) (by simp; omega)).y⟩,rfl⟩
end Go.Proofs.YtflobagimodmgaaGreatDoor
set_option maxHeartbeats 4000000
namespace Go.Proofs.YtflobagimodmgaaGreatDoor
open Go.SL Go.RowKit Go.Proofs Tryz
instance {a:RX}:C3 (rtx a):=⟨rfl⟩
abbrev big2 (a:PX):Nat:=m4 (a.1.1.2.length,a.1.2.length,a.2.1.2.length,a.2.2.length)
def gr18 (l:List PX):Bool:=decide (8 < l.length) || l.any fun a => decide (2 < big2 a)
theorem gr18_at {l:List PX} {i:Nat} (h:i < l.length) (k:2 < big2 (l.getD i Df.d)):gr18 l = true:=by
 rw [List.getD_eq_getElem?_getD,List.getElem?_eq_getElem h,Option.getD_some] at k
 unfold gr18; rw [Bool.or_eq_true]
 exact .inr (List.any_eq_true.2 ⟨_,List.getElem_mem h,decide_eq_true k⟩)
theorem kg18 {l:List PX}:CTy prog 11 [sv (pcx l)] (exP (.bool (gr18 l))):=by
 refine ctc func11 rfl rfl rfl rfl fun X => (zI (zJ rfl (zA1 (oas rfl) (zA0 (zI (zI (zJ rfl (zA1 (oas rfl) (zA0 ?_)))))))))
 refine yJ ?_
 rotate_left 1
 refine jJ (σ:=Nat) (fun i => [(3,True,exP (.int .i64 ((i:Nat):Int)))]) (fun i => []) (fun i => i ≤ l.length ∧ i ≤ 9 ∧ ∀ j,j < i → big2 (l.getD j Df.d) ≤ 2) (fun i => l.length - i) (0) (tk 0 rfl tn) ?_ rfl (⟨by omega,by omega,by omega⟩) (fun i hJ Y _ => ?_)
 refine tc rfl (ps_r _) (tn)
 rotate_left 1
 obtain ⟨hi,h9,hs⟩:=hJ
 refine zI (zI (zJ rfl (zA1 (omv rfl) (zA1 (omv rfl) (zA1 (oln rfl) (zA1 (olt rfl rfl) (zA1 (omv rfl) (t1g rfl rfl (omv rfl) (t1g rfl rfl (ole rfl rfl) ?_)))))))))
 refine zA1 (opk rfl rfl rfl) (zA0 ?_)
 refine t_if rfl (fun c0 => ?_) (fun c0 => ?_)
 refine yV (zI (yJ (zI (xH 32 mixed rfl rfl (d1 (omv rfl) (d1 (omv rfl) (d1 (oix _ rfl rfl rfl (fun _ => rfl) (fun _ => (by (have e0:=dand c0; omega)))) (d1 (ofa rfl rfl) (d1 (ofa rfl rfl) ?_)))))))))
 refine d1 (ofa rfl rfl) (d1 (old rfl rfl) (d1 (oln rfl) (d1 (omv rfl) (d1 (omv rfl) (d1 (oix _ rfl rfl rfl (fun _ => rfl) (fun _ => (by (have e0:=dand c0; omega)))) (d1 (ofa rfl rfl) (d1 (ofa rfl rfl) (d1 (old rfl rfl) (d1 (oln rfl) ?_)))))))))
 refine d1 (omv rfl) (d1 (omv rfl) (d1 (oix _ rfl rfl rfl (fun _ => rfl) (fun _ => (by (have e0:=dand c0; omega)))) (d1 (ofa rfl rfl) (d1 (ofa rfl rfl) (d1 (ofa rfl rfl) (d1 (old rfl rfl) (d1 (oln rfl) (d1 (omv rfl) (d1 (omv rfl) ?_)))))))))
 refine d1 (oix _ rfl rfl rfl (fun _ => rfl) (fun _ => (by (have e0:=dand c0; omega)))) (d1 (ofa rfl rfl) (d1 (ofa rfl rfl) (d1 (old rfl rfl) (d1 (oln rfl) (d1 (omx4 rfl rfl rfl rfl) (d1 (ogt rfl rfl) (d0 (zA0 ?_))))))))
 refine t_if rfl (fun c1 => ?_) (fun c1 => ?_)
 refine zI (zJ rfl (zA1 (oas rfl) (zA0 (yF (⟨[_],rst rfl rs0,yN ?_⟩)))))
 refine psb ?_
 rotate_left 1
 refine yV (zJ rfl (zA1 (omv rfl) (zA1 (oad rfl rfl (by omega)) (zA1 (oas rfl) (zA0 ?_)))))
 rotate_left 1
 refine jK (zI (zJ rfl (zA1 (omv rfl) (zA1 (oln rfl) (zA1 (ogt rfl rfl) (zA1 (oas rfl) (zA0 (yF (⟨[_],rst rfl rs0,yN ?_⟩)))))))))
 refine psb ?_
 rotate_left 1
 ·have:=dand c0
  exact (gr18_at (i:=i) (by omega) (by have:=dt c1; unfold big2; omega)).symm
 ·have:=dand c0
  refine ⟨i + 1,tes ?_ ?_ (List.Sublist.refl _),?_,(by omega)⟩
  refine tc rfl (ps_r _) (tn)
  refine tc rfl (ps_r _) (tn)
  rotate_left 1
  refine ⟨by omega,by omega,fun j hj => ?_⟩
  rcases Nat.lt_or_ge j i with c | c
  ·exact hs j c
  ·rw [show j = i by omega]; have:=df c1; unfold big2; omega
 ·have:=dor c0
  unfold gr18
  rw [Bool.eq_iff_iff,Bool.or_eq_true,decide_eq_true_eq,decide_eq_true_eq,List.any_eq_true]
  refine ⟨fun h => .inl (by omega),fun h => ?_⟩
  rcases h with h | ⟨a,ha,h⟩
  ·omega
  ·obtain ⟨k,hk,rfl⟩:=List.mem_iff_getElem.1 ha
   rcases Nat.lt_or_ge k i with c | c
   ·have:=hs k c
    rw [List.getD_eq_getElem?_getD,List.getElem?_eq_getElem hk,Option.getD_some] at this
    have:=of_decide_eq_true h; omega
   ·omega
theorem k8add {p q:P2} {n m:Nat} (hn:n ≤ 400) (hm:m ≤ 400):CTy prog 26 [ag (ptq n p),ag (ptq m q)] (ag (ptc (2 * max n m + 8) (addP p q))):=by
 refine ctc func26 rfl rfl rfl rfl fun X => (zI (zJ rfl (zA1 (obx rfl) (zA1 (obx rfl) (tal fun b4 => (zA0 (zI (xH 13 mixed rfl rfl (d1 (ofa rfl rfl) ?_)))))))))
 refine d1 (old rfl rfl) (d1 (ofa rfl rfl) (d1 (old rfl rfl) (d1 (obs rfl rfl rfl rfl rfl rfl) (d1 (oca rfl rfl fun _ => zL8 (by omega)) (d1 (ofa rfl rfl) (d1 (old rfl rfl) (d1 (ofa rfl rfl) (d1 (old rfl rfl) (d1 (obs rfl rfl rfl rfl rfl rfl) ?_)))))))))
 refine d1 (oca rfl rfl fun _ => zL8 (by omega)) ?_
 refine d1 (obd rfl rfl rfl) (d0 (tst 0 rfl rfl rfl rfl rfl rfl (zA0 (yF (⟨[_],rsc 0 rfl rfl rfl rfl rs0,yN ?_⟩)))))
 rotate_left 1
 exact zJ5 (p:=addP p q) rfl (by omega)
end Go.Proofs.YtflobagimodmgaaGreatDoor
set_option maxHeartbeats 1000000
namespace Go.Proofs.YtflobagimodmgaaGreatDoor
open Go.SL Go.RowKit Go.Proofs Tryz
theorem ps_r2 {n m:Nat} {p q:Rat} (e:p = q) (h:n ≤ m):PSub (ag (rtc n p)) (ag (rtc m q)):=fun _ _ _ ⟨us,e1,s,a,d,e2,g⟩ => ⟨us,e1,s,a,d,e2,by subst e; exact g.up h⟩
theorem k8sub {p q:P2} {n m:Nat} (hn:n ≤ 900) (hm:m ≤ 900):CTy prog 18 [ag (ptq n p),ag (ptq m q)] (ag (ptc (n + m + 3) (subP p q))):=by
 refine ctc func18 rfl rfl rfl rfl fun X => (zI (zJ rfl (zA1 (obx rfl) (zA1 (obx rfl) (tal fun b4 => (zA0 (zI (xH 11 mixed rfl rfl (d1 (ofa rfl rfl) ?_)))))))))
 refine d1 (old rfl rfl) (d1 (ofa rfl rfl) (d1 (old rfl rfl) (d1 (oca rfl rfl fun _ => zL7 (by omega) (by omega)) (d1 (ofa rfl rfl) (d1 (old rfl rfl) (d1 (ofa rfl rfl) (d1 (old rfl rfl) (d1 (oca rfl rfl fun _ => zL7 (by omega) (by omega)) ?_))))))))
 refine d1 (obd rfl rfl rfl) (d0 (tst 0 rfl rfl rfl rfl rfl rfl (zA0 (yF (⟨[_],rsc 0 rfl rfl rfl rfl rs0,yN (PSub.refl _)⟩)))))
end Go.Proofs.YtflobagimodmgaaGreatDoor
set_option maxHeartbeats 4000000
namespace Go.Proofs.YtflobagimodmgaaGreatDoor
open Go.SL Go.RowKit Go.Proofs Tryz
theorem mI {P:Program} {r:Option Nat} {N:Nat} {ops:Array Oper} {M:Nat → Prop} {S:List Ow} {p:Prop} {o:Oper} {Γ:TE} {Ψ Φ:PV} (h:Ob P r N ops M S p o Γ Ψ) (hs:PSub Ψ Φ):Ob P r N ops M S p o Γ Φ:=fun D E w d hd hN hg hp hT =>
 iO (h D E w d hd hN hg hp hT) fun D' E' w' ⟨e1,e2,v,e3,e4⟩ => ⟨e1,e2,v,e3,hs _ _ _ e4⟩
end Go.Proofs.YtflobagimodmgaaGreatDoor
set_option maxHeartbeats 1000000
namespace Go.Proofs.YtflobagimodmgaaGreatDoor
open Go.SL Go.RowKit Go.Proofs Tryz
section
variable {Ψ Φ Ξ : PV} {n m l : Nat} {p q x : P2} {t : Rat}
theorem w8cross (hn:n ≤ 400) (hm:m ≤ 400):CTy prog 17 [ag (ptq n p),ag (ptq m q)] (ag (rtc (4 * max n m + 19) (zQ p q))):=by
 refine ctc func17 rfl rfl rfl rfl fun X => (zI (zJ rfl (zA1 (obx rfl) (zA1 (obx rfl) (tal fun b4 => (zA0 (zI (xH 13 mixed rfl rfl (d1 (ofa rfl rfl) ?_)))))))))
 refine d1 (old rfl rfl) (d1 (ofa rfl rfl) (d1 (old rfl rfl) (d1 (obs rfl rfl rfl rfl rfl rfl) (d1 (oca rfl rfl fun _ => zT8 (by omega)) (d1 (ofa rfl rfl) (d1 (old rfl rfl) (d1 (ofa rfl rfl) (d1 (old rfl rfl) (d1 (obs rfl rfl rfl rfl rfl rfl) ?_)))))))))
 refine d1 (oca rfl rfl fun _ => zT8 (by omega)) (d1 (oca rfl rfl fun _ => zL7 (by omega) (by omega)) (d0 (tst 0 rfl rfl rfl rfl rfl rfl (zA0 (yF (⟨[_],rsc 0 rfl rfl rfl rfl rs0,yN ?_⟩))))))
 rotate_left 1
 exact ps_r2 rfl (by omega)
theorem w8cmp (hn:n ≤ 1990) (hm:m ≤ 1990):CTy prog 19 [ag (ptq n p),ag (ptq m q)] (exP (.int .i64 (cmpP p q))):=by
 refine ctc func19 rfl rfl rfl rfl fun X => (zI (zJ rfl (zA1 (obx rfl) (zA1 (obx rfl) (zA1 (oas rfl) (zA0 (zI (zJ rfl (zA1 (ofa rfl rfl) ?_)))))))))
 refine zA1 (old rfl rfl) (zA1 (ofa rfl rfl) (zA1 (old rfl rfl) (zA1 (oca rfl rfl fun _ => zP0 (by omega) (by omega)) (zA1 (oas rfl) (zA0 (zI (zI (zJ rfl (zA1 (omv rfl) ?_)))))))))
 refine zA1 (oni rfl rfl) (zA0 ?_)
 refine t_if rfl (fun c0 => ?_) (fun c0 => ?_)
 refine zI (zJ rfl (zA1 (omv rfl) (zA1 (oas rfl) (zA0 (yF (⟨[_],rst rfl rs0,yN ?_⟩))))))
 refine ps_i ?_
 rotate_left 1
 refine yV (zI (zJ rfl (zA1 (ofa rfl rfl) (zA1 (old rfl rfl) (zA1 (ofa rfl rfl) (zA1 (old rfl rfl) (zA1 (oca rfl rfl fun _ => zP0 (by omega) (by omega)) (zA1 (oas rfl) (zA0 ?_)))))))))
 refine yF (⟨[_],rst rfl rs0,yN ?_⟩)
 refine ps_i ?_
 rotate_left 1
 ·unfold cmpP; rw [if_pos (dt c0)]
 ·unfold cmpP; rw [if_neg (df c0)]
theorem k8cross [h:QP Ψ n p] [k:QP Φ m q] (hn:n ≤ 400) (hm:m ≤ 400):CTy prog 17 [Ψ,Φ] (ag (rtc (4 * max n m + 19) (zQ p q))):=gS (w8cross hn hm) (fs1 qp_q (fs1 qp_q fs0))
theorem zY7 [h:QP Ψ n p] [k:QP Φ m q] (hn:n ≤ 1990) (hm:m ≤ 1990):CTy prog 19 [Ψ,Φ] (exP (.int .i64 (cmpP p q))):=gS (w8cmp hn hm) (fs1 qp_q (fs1 qp_q fs0))
theorem rR [h:QP Ψ n p] [k:QP Φ m q] (hn:n ≤ 900) (hm:m ≤ 900):CTy prog 18 [Ψ,Φ] (ag (ptc (n + m + 3) (subP p q))):=gS (k8sub hn hm) (fs1 qp_q (fs1 qp_q fs0))
theorem k8addc [h:QP Ψ n p] [k:QP Φ m q] (hn:n ≤ 400) (hm:m ≤ 400):CTy prog 26 [Ψ,Φ] (ag (ptc (2 * max n m + 8) (addP p q))):=gS (k8add hn hm) (fs1 qp_q (fs1 qp_q fs0))
end
theorem k8same {p q:P2} {n m:Nat} (hn:n ≤ 1990) (hm:m ≤ 1990):CTy prog 15 [ag (ptq n p),ag (ptq m q)] (exP (.bool (decide (cmpP p q = 0)))):=by
 refine ctc func15 rfl rfl rfl rfl fun X => (zI (zJ rfl (zA1 (obx rfl) (zA1 (obx rfl) (zA1 (oas rfl) (zA0 (zI (zJ rfl (zA1 (old rfl rfl) ?_)))))))))
 refine zA1 (old rfl rfl) (zA1 (oca rfl rfl fun _ => zY7 (by omega) (by omega)) (zA1 (oeq rfl rfl) (zA1 (oas rfl) (zA0 (yF (⟨[_],rst rfl rs0,yN (PSub.refl _)⟩))))))
theorem k8norm {l:List P2} {n:Nat} (hn:n ≤ 1990) (hl:l.length ≤ 1000000):CTy prog 101 [sv (sl 6 (l.map (ptq n)))] (sv (sl 6 (l.map (ptc (n + 1))))):=by
 refine ctc func101 rfl rfl rfl rfl fun X => (zI (zJ rfl (zA1 (oas rfl) (zA0 (zI (zJ rfl (zA1 (oas rfl) (zA0 (zI ?_)))))))))
 refine zI (zJ rfl (zA1 (oas rfl) (zA0 (yJ ?_))))
 rotate_left 1
 refine t_ts (cO 35 6) ?_
 refine jJ (σ:=Nat × Value) (fun s => [(3,True,exP s.2),(4,True,exP (.int .i64 ((s.1:Nat):Int)))]) (fun s => [.row s.2 35 6 ((l.take s.1).map (ptc (n + 1)))]) (fun s => s.1 ≤ l.length) (fun s => l.length - s.1) ((0,.slice none 0 0)) (tk 0 rfl tn) ?_ rfl ((by simp)) (fun s hJ Y _ => ?_)
 refine tc rfl (ps_r _) (tc rfl (ps_r _) (tn))
 rotate_left 1
 refine zI (zI (zJ rfl (zA1 (omv rfl) (zA1 (omv rfl) (zA1 (oln rfl) (zA1 (olt rfl rfl) (zA0 ?_)))))))
 refine t_if rfl (fun c0 => ?_) (fun c0 => ?_)
 refine yV (zI (yJ (xH 15 mixed rfl rfl (d1 (omv rfl) (d1 (omv rfl) (d1 (omv rfl) (d1 (oix _ rfl rfl rfl (fun _ => rfl) (fun _ => (by (have e0:=dt c0; omega)))) (d1 (ofa rfl rfl) (d1 (old rfl rfl) ?_)))))))))
 refine d1 (oca rfl rfl fun _ => eQ (by omega)) (d1 (omv rfl) (d1 (omv rfl) (d1 (oix _ rfl rfl rfl (fun _ => rfl) (fun _ => (by (have e0:=dt c0; omega)))) (d1 (ofa rfl rfl) (d1 (old rfl rfl) (d1 (oca rfl rfl fun _ => eQ (by omega)) ?_))))))
 refine d1 (obd rfl rfl rfl) (d1 (obs rfl rfl rfl rfl rfl rfl) (d0 (tap 0 rfl rfl rfl (by (simp; omega)) rfl fun r26 => (zA1 (oas rfl) (zA0 (zJ rfl (zA1 (omv rfl) (zA1 (oad rfl rfl (by omega)) (zA1 (oas rfl) ?_)))))))))
 refine zA0 ?_
 rotate_left 1
 refine jK (zI (zJ rfl (zA1 (omv rfl) (zA1 (oas rfl) (zA0 (t_ts (qL (s:=2) 0 rfl rfl) (yF (⟨[_],rst rfl rs0,yN ?_⟩))))))))
 rotate_left 1
 ·refine ⟨(s.1 + 1,r26),tes ?_ ?_ ?_,(by (have e0:=dt c0; omega)),(by (have e0:=dt c0; omega))⟩
  refine tc rfl (ps_r _) (tc rfl (ps_r _) (tn))
  refine tc rfl (ps_r _) (tn)
  rotate_left 1
  rw [(xG (Df.d:P2) (show s.1 < l.length by have:=dt c0; omega)).1,List.map_append]
  exact List.Sublist.refl _
 ·rw [List.take_of_length_le (by have:=df c0; omega)]
  exact PSub.refl _
end Go.Proofs.YtflobagimodmgaaGreatDoor
set_option maxHeartbeats 4000000
namespace Go.Proofs.YtflobagimodmgaaGreatDoor
open Go.SL Go.RowKit Go.Proofs Tryz
end Go.Proofs.YtflobagimodmgaaGreatDoor
namespace Go.SL
section
variable {X : Cx} {w w' : World} {Γ : TE} {S : List Ow} {E : Env}
theorem St.addr0 (h:St X Γ S E w) {b kk:Nat} {ty:TypeId} (hn:New w w' b (.cells #[] ty (0,0))):St X Γ (.row (.slice (some ⟨b,0,none⟩) 0 0) ty kk [] :: S) E w':=by
 have hb:=hn.below
 have hbs:w.heap.size ≤ b:=by rw [hn.at_]; exact Nat.le_refl _
 have cl:Cl (Mk S X.M) w (Mk (.row (.slice (some ⟨b,0,none⟩) 0 0) ty kk [] :: S) X.M) w':=Cl.new hb hbs fun k hk => (dA.1 hk).imp (fun e => (Option.some.inj e).symm) id
 refine ⟨h.bel.bel hb,⟨fun k hk => ?_,h.gd.tab.cl cl,fun o ho => ?_⟩,fun o ho k hk => ?_,⟨fun k hk p hp e => ?_,h.apt⟩,h.ok0,h.zm,h.mko.nc (.rb hb),h.tm.mono cl⟩
 ·rcases dA.1 hk with e | hk
  ·rw [← Option.some.inj (show some b = some k from e),hn.size,hn.at_]; omega
  ·exact Nat.lt_of_lt_of_le (h.gd.ok k hk) hb.size
 ·rcases List.mem_cons.1 ho with rfl | ho
  ·exact ⟨[],own_bs0 hn,rfl,by simp [aJ]⟩
  ·exact Ow.ok_mono (h.gd.own o ho) cl fun k _ hlt => hb.block k hlt
 ·rcases List.mem_cons.1 ho with rfl | ho
  ·rw [← Option.some.inj (show some b = some k from hk)]; exact .inl (Nat.le_trans h.bel.size hbs)
  ·exact h.new o ho k hk
 ·have:=h.okS p hp k e
  rw [← Option.some.inj (show some b = some k from hk)] at this
  omega
end
theorem tbs0 {P:Program} {r:Option Nat} {N:Nat} {ops:Array Oper} {X:Cx} {K:TK} {S:List Ow} {Γ:TE} {d k bytes:Nat} {t e t':TypeId} {pos:String} {af:Array Edge} {l:List Oper} [ht:TSl P t e k bytes] (h:∀ v',TO P r N ops X K l ((d,True,exP v') :: Γ) (.row v' e k [] :: S)):TO P r N ops X K (⟨some d,.buildSlice t 0 #[],t',pos,af,none⟩ :: l) Γ S:=fun hN D E w hs => by
 unfold okN at hN
 simp only [List.all_cons,Bool.and_eq_true] at hN
 obtain ⟨z,hz,_⟩:=ht.s
 refine ops_bs0 hN.1 ht.u ⟨z,hz⟩ fun w' b hn => ?_
 exact h _ hN.2 D _ w' ((hs.addr0 hn).put (xB _) (fun _ => rfl) (fun c => absurd trivial c))
end Go.SL
namespace Go.Proofs.YtflobagimodmgaaGreatDoor
open Go.SL Go.RowKit Go.Proofs
section
variable {α : Type} {cf : α → α → Int}
theorem zU3 (h:COrd cf) {raw:List α} {x:α} {k:Nat} (z:α) (hk:k ≤ (setOf cf raw).length) (h1:∀ j,j < k → cf ((setOf cf raw).getD j z) x < 0) (h2:k < (setOf cf raw).length → ¬ cf ((setOf cf raw).getD k z) x < 0) :
  (k < (setOf cf raw).length → cf ((setOf cf raw).getD k z) x = 0 → setOf cf raw = setOf cf (raw ++ [x])) ∧
  ((k < (setOf cf raw).length → cf ((setOf cf raw).getD k z) x ≠ 0) → (setOf cf raw).take k ++ x :: (setOf cf raw).drop k = setOf cf (raw ++ [x])):=by
 have hs:=cT h raw
 generalize setOf cf raw = l at *
 have hg:∀ {j},(hj:j < l.length) → l.getD j z = l[j]:=fun {j} hj => by rw [List.getD_eq_getElem?_getD,List.getElem?_eq_getElem hj]; rfl
 constructor
 ·intro hl h0
  rw [hg hl] at h0
  have e:=(h.zero _ _).1 h0
  refine IsSet.eq (cf:=cf) (l:=raw ++ [x]) h ⟨hs.rise,fun y => ?_⟩
  rw [hs.mem,List.mem_append,List.mem_singleton]
  exact ⟨.inl,fun c => c.elim id fun c => by subst c; rw [← e,← hs.mem]; exact List.getElem_mem hl⟩
 ·intro h0
  refine IsSet.eq (cf:=cf) (l:=raw ++ [x]) h ⟨?_,fun y => ?_⟩
  ·have hr:=List.pairwise_iff_getElem.1 hs.rise
   have hb:∀ y ∈ l.drop k,cf x y < 0:=fun y hy => by
    obtain ⟨j,hj,rfl⟩:=List.mem_iff_getElem.1 hy
    rw [List.length_drop] at hj
    rw [List.getElem_drop]
    have hkl:k < l.length:=by omega
    have h3:=h2 hkl; have h4:=h0 hkl
    rw [hg hkl] at h3 h4
    have h5:cf x l[k] < 0:=(h.anti _ _).1 (by omega)
    rcases Nat.eq_zero_or_pos j with c | c
    ·subst c; exact h5
    ·exact h.trans _ _ _ h5 (hr k (k + j) hkl (by omega) (by omega))
   have ha:∀ y ∈ l.take k,cf y x < 0:=fun y hy => by
    obtain ⟨j,hj,rfl⟩:=List.mem_iff_getElem.1 hy
    rw [List.length_take] at hj
    rw [List.getElem_take,← hg (by omega)]; exact h1 j (by omega)
   refine List.pairwise_append.2 ⟨hs.rise.sublist (List.take_sublist _ _),List.pairwise_cons.2 ⟨hb,hs.rise.sublist (List.drop_sublist _ _)⟩,fun a ha2 b hb2 => ?_⟩
   rcases List.mem_cons.1 hb2 with c | c
   ·subst c; exact ha a ha2
   ·exact h.trans _ _ _ (ha a ha2) (hb b c)
  ·rw [List.mem_append,List.mem_cons,List.mem_append,List.mem_singleton,← hs.mem]
   conv => rhs; rw [← List.take_append_drop k l,List.mem_append]
   exact ⟨fun c => by rcases c with c | c | c; exact .inl (.inl c); exact .inr c; exact .inl (.inr c),fun c => by rcases c with (c | c) | c; exact .inl c; exact .inr (.inr c); exact .inr (.inl c)⟩
end
end Go.Proofs.YtflobagimodmgaaGreatDoor
set_option maxHeartbeats 1000000
namespace Go.Proofs.YtflobagimodmgaaGreatDoor
open Go.SL Go.RowKit Go.Proofs Tryz
theorem mT {Ψ Φ:PV} {n m:Nat} {p q:P2} [h:QP Ψ n p] [k:QP Φ m q] (hn:n ≤ 1990) (hm:m ≤ 1990):CTy prog 15 [Ψ,Φ] (exP (.bool (decide (cmpP p q = 0)))):=gS (k8same hn hm) (fs1 qp_q (fs1 qp_q fs0))
theorem zI7 {B:List CT} {c c':CT} {M:Nat → Prop} {w:World} (h:∀ us,c.p M w us → c'.p M w us):∀ {A:List CT} {us:List Value},stp (A ++ c :: B) M w us → stp (A ++ c' :: B) M w us
 | [],_,⟨x,y,e,h1,h2⟩ => ⟨x,y,e,h _ h1,h2⟩
 | _ :: _,_,⟨x,y,e,h1,h2⟩ => ⟨x,y,e,h1,zI7 h h2⟩
theorem sl_mid {A B:List CT} {c c':CT} {k:Nat} (h:∀ M w us,c.p M w us → c'.p M w us) (hs:c'.sz = k):PSub (sv (sl k (A ++ c :: B))) (sv (sl k (A ++ c' :: B))):=fun M w v ⟨u,vs,e,h1,h2,h3⟩ =>
 ⟨u,vs,e,by simpa using h1,zI7 (h M w) h2,fun x hx => by
  rcases List.mem_append.1 hx with h | h
  ·exact h3 x (by simp [h])
  ·rcases List.mem_cons.1 h with h | h
   ·rw [h]; exact hs
   ·exact h3 x (by simp [h])⟩
theorem ins_sub {α:Type} {f:α → CT} {c:CT} {k sz:Nat} {l l':List α} {p:α} (hl:l.take k ++ p :: l.drop k = l') (h:∀ M w us,c.p M w us → (f p).p M w us) (hs:(f p).sz = sz):PSub (sv (sl sz ([] ++ (l.take (k - 0)).map f ++ [c] ++ ((l.drop k).take ((l.map f).length - k)).map f))) (sv (sl sz (l'.map f))):=by
 subst hl
 rw [List.nil_append,Nat.sub_zero,List.take_of_length_le (l:=l.drop k) (by rw [List.length_map,List.length_drop]; omega),List.append_assoc,List.singleton_append,List.map_append,List.map_cons]
 exact sl_mid h hs
theorem pt_up {n m:Nat} {p:P2} (h:rlen p.1 n ∧ rlen p.2 n) (M:Nat → Prop) (w:World) (us:List Value) (k:(ptc m p).p M w us):(ptc n p).p M w us:=by
 obtain ⟨x,y,e,⟨s,a,d,e2,g⟩,z,o,e3,⟨t,b,f,e4,g2⟩,e5⟩:=k
 exact ⟨x,y,e,⟨s,a,d,e2,g.relen h.1⟩,z,o,e3,⟨t,b,f,e4,g2.relen h.2⟩,e5⟩
theorem k10put {raw:List P2} {p:P2} {n m:Nat} (hm:m ≤ 1900) (hn:n ≤ 1900) (hL:(setOf cmpP raw).length ≤ 100000) (h1:rlen p.1 n ∧ rlen p.2 n):CTy prog 87 [sv (sl 6 ((setOf cmpP raw).map (ptc n))),ag (ptq m p)] (sv (sl 6 ((setOf cmpP (raw ++ [p])).map (ptc n)))):=by
 refine ctc func87 rfl rfl rfl rfl fun X => (zI (zJ rfl (zA1 (obx rfl) (zA1 (oas rfl) (zA0 (zI (zJ rfl (zA1 (oas rfl) (zA0 ?_)))))))))
 refine zI (yJ ?_)
 rotate_left 1
 refine jJ (σ:=Nat) (fun k => [(5,True,exP (.int .i64 ((k:Nat):Int)))]) (fun k => []) (fun k => k ≤ (setOf cmpP raw).length ∧ ∀ j,j < k → cmpP ((setOf cmpP raw).getD j (0,0)) p < 0) (fun k => (setOf cmpP raw).length - k) (0) (tk 0 rfl (tk 3 rfl tn)) ?_ rfl (⟨by omega,by omega⟩) (fun k hJ Y _ => ?_)
 refine tc rfl (ps_r _) (tn)
 rotate_left 1
 obtain ⟨hk,hlt⟩:=hJ
 refine zI (zI (xH 13 mixed rfl rfl (d1 (omv rfl) (d1 (omv rfl) (d1 (oln rfl) (d1 (olt rfl rfl) (d1 (omv rfl) (d1g rfl rfl (omv rfl) (d1g rfl rfl (omv rfl) ?_)))))))))
 refine d1g rfl rfl (oix _ rfl rfl rfl (fun g => rfl) (fun g => (by (simp at g; omega)))) (d1g rfl rfl (old rfl rfl) (d1g rfl rfl (old rfl rfl) (d1g rfl rfl (oca rfl rfl fun g => zY7 (by omega) (by omega)) (d1g rfl rfl (olt rfl rfl) (d1 (opk rfl rfl rfl) (d0 (zA0 ?_)))))))
 refine t_if rfl (fun c0 => ?_) (fun c0 => ?_)
 refine yV (yJ (zJ rfl (zA1 (omv rfl) (zA1 (oad rfl rfl (by omega)) (zA1 (oas rfl) (zA0 ?_))))))
 rotate_left 1
 refine jK (zI (zI (xH 12 mixed rfl rfl (d1 (omv rfl) (d1 (omv rfl) (d1 (oln rfl) (d1 (olt rfl rfl) (d1 (omv rfl) (d1g rfl rfl (omv rfl) ?_)))))))))
 refine d1g rfl rfl (omv rfl) (d1g rfl rfl (oix _ rfl rfl rfl (fun g => rfl) (fun g => (by (simp at g; omega)))) (d1g rfl rfl (old rfl rfl) (d1g rfl rfl (old rfl rfl) (d1g rfl rfl (oca rfl rfl fun g => mT (by omega) (by omega)) (d1 (opk rfl rfl rfl) (d0 (zA0 ?_)))))))
 refine t_if rfl (fun c1 => ?_) (fun c1 => ?_)
 refine zI (zJ rfl (zA1 (omv rfl) (zA1 (oas rfl) (zA0 (yF (⟨[_],rst rfl rs0,yN ?_⟩))))))
 rotate_left 1
 refine yV (zI (zJ rfl (tbs0 fun r35 => (zA1 (omv rfl) (zA1 (omv rfl) (zA1 (osl 0 _ rfl rfl ⟨_,_,_,_,rfl,fun _ => trivial,inferInstance,fun _ => rfl⟩ (fun _ => (by omega)) (fun _ => (by (simp; omega)))) (tap 0 rfl rfl rfl (by (simp; omega)) rfl fun r39 => (zA1 (oas rfl) (zA0 ?_)))))))))
 refine zI (t_drawB 0 9 0 [(4,44,0),(8,48,0)] rfl rfl rfl mixed rfl rfl (cx1 (omv rfl) rfl (cx1 (old rfl rfl) rfl (cx1 (obs rfl rfl rfl rfl rfl rfl) rfl (cx1 (oca rfl rfl fun _ => k8norm (l:=[p]) (by omega) (by (simp; done))) rfl (cB rfl rfl (cap0 rfl rfl (by (simp; omega)) rfl) (cx1 (omv rfl) rfl (cx1 (omv rfl) rfl (cx1 (osl _ _ rfl ⟨_,_,_,_,rfl,fun _ => trivial,inferInstance,fun _ => rfl⟩ (fun _ => rfl) (fun _ => (by (simp; omega))) (fun _ => (by omega))) rfl ?_)))))))))
 refine cA rfl rfl rfl (cap rfl (by (simp; omega)) rfl) ?_
 refine cE (fun r48 => ?_)
 refine zA1 (oas rfl) (zA0 (t_ts (qL (s:=4) 0 rfl rfl) (yF (⟨[_],rst rfl rs0,yN ?_⟩))))
 rotate_left 1
 ·have hc:=dand c0
  refine ⟨k + 1,tes ?_ ?_ (List.Sublist.refl _),?_,(by omega)⟩
  refine tc rfl (ps_r _) (tn)
  refine tc rfl (ps_r _) (tc rfl (ps_r _) (tn))
  rotate_left 1
  refine ⟨by omega,fun j hj => ?_⟩
  rcases Nat.lt_or_ge j k with c | c
  ·exact hlt j c
  ·rw [show j = k by omega]; exact hc.2
 ·have hc:=dand c1
  rw [(zU3 pP (x:=p) (k:=k) (0,0) hk hlt fun h => (fun c => dor c0 ⟨by omega,c⟩)).1 (by omega) hc.2]
  exact PSub.refl _
 ·have hi:=(zU3 pP (x:=p) (k:=k) (0,0) hk hlt fun h => (fun c => dor c0 ⟨by omega,c⟩)).2 fun h c => dor c1 ⟨by omega,c⟩
  exact ins_sub (f:=ptc n) hi (pt_up h1) rfl
end Go.Proofs.YtflobagimodmgaaGreatDoor
namespace Go.Proofs
open Go.Shelf
def Tryz.revPt_ren:Go.Shelf.Ren:=⟨fun | 35 => 74 | n => n,fun | 22 => 22 | 23 => 35 | 3 => 3 | 4 => 4 | 0 => 0 | n => n,fun | n => n⟩
theorem Tryz.revPt:Go.Proofs.SlLaysE0.n35 Tryz.prog Tryz.revPt_ren:={
 mixed:=by kernel_rfl
 f35:=⟨Tryz.f74.name,by decide,Tryz.func74.trans (congrArg some (by kernel_rfl))⟩
 t0:=Tryz.underlying0
 a0:=Tryz.isAgg0
 z0:=Tryz.sizeOf0
 v0:=Tryz.zeroValue0
 t3:=Tryz.underlying3
 a3:=Tryz.isAgg3
 z3:=Tryz.sizeOf3
 v3:=Tryz.zeroValue3
 t4:=Tryz.underlying4
 a4:=Tryz.isAgg4
 z4:=Tryz.sizeOf4
 v4:=Tryz.zeroValue4
 t22:=Tryz.underlying22
 a22:=Tryz.isAgg22
 z22:=Tryz.sizeOf22
 v22:=Tryz.zeroValue22 }
end Go.Proofs
namespace Go.SL
open Go.RowKit Go.Shelf Go.Proofs Go.Sort
def svx (k:Nat) (cs:List CT):PV:=⟨fun M w v => (∃ ad,v = .slice ad cs.length cs.length) ∧ (sl k cs).p M w [v],fun h l => ⟨h.1,(sl k cs).mono h.2 l⟩⟩
instance {k:Nat} {cs:List CT}:VS (svx k cs) k cs:=⟨fun h => h.2⟩
section
variable {P : Program} {r : Option Nat} {N : Nat} {X : Cx} {K : TK} {Γ : TE} {S : List Ow} {ops : Array Oper} {M : Nat → Prop} {p q qx qy qi qz : Prop} {Ψ Ψx Ψy Ψi Ψz : PV} {d : Nat} {x y ix lo hi mx : Operand} {t t' : TypeId} {pos : String} {af : Array Edge} {l : List Oper}
variable {v : Value} {ty e tx : TypeId} {k bytes : Nat} {cs : List CT} {c : CT}
theorem osl3 {ki kj:IntKind} {i j:Int} {cs':List CT} (b:Nat) (hx:tv Γ x = some (qx,Ψx)) (hy:tv Γ hi = some (qy,Ψy)) (hz:tv Γ mx = some (qz,Ψz)) [Im p qx] [Im p qy] [Im p qz] [ht:TSl P t e k bytes] [hv:VS Ψx k cs] [hd':DT cs 0 b cs'] [h1:VI Ψy ki i] [h2:VI Ψz kj j] (hi':p → i = (b:Int)) (hj:p → j = (b:Int)) (hb:p → b ≤ cs.length) :
  Ob P r N ops M S p ⟨some d,.slice t x none (some hi) (some mx),t',pos,af,none⟩ Γ (svx k cs'):=fun D E w d' hd hN hg hp hT => by
 obtain rfl:=Option.some.inj hd
 obtain ⟨u,e1,k1⟩:=gB hT hx hp (by simp [Op.operands])
 obtain ⟨u1,e2,k2⟩:=gB hT hy hp (by simp [Op.operands])
 obtain ⟨u2,e3,k3⟩:=gB hT hz hp (by simp [Op.operands])
 rw [h1.h k2,hi' hp] at e2
 rw [h2.h k3,hj hp] at e3
 obtain ⟨u3,us,e4,g1,g2,g3⟩:=hv.h k1
 obtain rfl:=List.singleton_inj.1 e4
 obtain ⟨z,hz',_⟩:=ht.s
 have hbl:=hb hp
 obtain ⟨f1,f2,ad,cap,rfl,f3,f4⟩:=g1
 refine kN 0 b b hN ht.u hz' e1 rfl ⟨ki,e2⟩ ⟨rfl,kj,e3⟩ (Nat.zero_le _) (Nat.le_refl _) (by omega) (fin ?_)
 have hif:(if b = 0 then ad else ad.map (·.add (0 * k))) = ad:=by
  split
  ·rfl
  ·rcases ad with _ | ⟨b1,o1,f1⟩ <;> simp [Addr.add]
 rw [hif]
 have e5:cs'.length = b:=by rw [← hd'.h,List.length_take,List.length_drop]; omega
 have e6:cs' = cs.take b:=by rw [← hd'.h]; simp
 have hc:=iK g3 g2 hbl
 refine ⟨⟨ad,by rw [e5]; simp⟩,.slice ad b b,us.take (b * k),by simp,⟨?_,by omega,ad,b,by rw [e5],by omega,?_⟩,?_,?_⟩
 ·rw [e5,List.length_take,f1]; have:=Nat.mul_le_mul_right k hbl; omega
 ·rw [e5]
  rcases f4 with f4 | ⟨bb,off,f5,f6,f7⟩
  ·exact .inl (by omega)
  ·refine .inr ⟨bb,off,f5,f6,?_⟩
   obtain ⟨cur,zA0,fz,h8,h9⟩:=f7
   exact ⟨cur,zA0,fz,h8,fun j u hj => h9 j u (by rw [List.getElem?_take] at hj; split at hj; exact hj; cases hj)⟩
 ·rw [e6]; exact hc.1
 ·rw [e6]; exact fun c hc => g3 c (List.mem_of_mem_take hc)
theorem oqn (hx:tv Γ x = some (qx,Ψx)) [Im p qx] [ht:TSl P tx e k bytes] [hv:VS Ψx k cs] (h0:p → 0 < cs.length):Ob P r N ops M S p ⟨some d,.binOp .eql tx x (.const (.slice none 0 0)) ty,t',pos,af,none⟩ Γ (exP (.bool false)):=fun D E w d' hd hN hg hp hT => by
 obtain rfl:=Option.some.inj hd
 obtain ⟨u,e1,k1⟩:=gB hT hx hp (by simp [Op.operands])
 obtain ⟨u3,us,e4,g1,g2,g3⟩:=hv.h k1
 obtain rfl:=List.singleton_inj.1 e4
 obtain ⟨f1,f2,ad,cap,rfl,f3,f4⟩:=g1
 have hl:=h0 hp
 obtain ⟨bb,off,rfl,_⟩:∃ bb off,ad = some ⟨bb,off,none⟩ ∧ True:=by
  rcases f4 with f4 | ⟨bb,off,f5,_⟩
  ·omega
  ·exact ⟨bb,off,f5,trivial⟩
 exact oZ hN ⟨e,ht.u⟩ e1 rfl (fin rfl)
end
theorem run_append_full {P:Program} {M:Nat → Prop} {w:World} (t ty e:TypeId) {sz bytes:Nat} {z:Value} (ht:P.underlying t = some (.slice e)) (he:Sz P e sz bytes z) (hz:z.cells.size = sz) (hsz:0 < sz)
  {u:Value} {ad:Option Addr} {n m:Nat} {xs news:List Value} (hv:Slc M w sz (.slice ad n n) n xs) (hu:Slc M w sz u m news) (hm:0 < m) (hn0:0 < n) (hn:n + m ≤ 140737488355328) (hb:(n + m) * bytes ≤ 140737488355328) :
  ∃ v' w',(Builtin.append_ #[t,t] ty #[.slice ad n n,u]).run P w = .ok v' w' ∧ w'.ownsRow 0 e sz v' (n + m) (xs ++ news) ∧ Rb w w' ∧ v'.ownBlock = some w.heap.size:=by
 obtain ⟨i,i1,i2,i3,i4⟩:=he
 obtain ⟨hl,_,ad2,c,rfl,hmc,h5⟩:=hu
 obtain ⟨gl,_,ad1,c1,ee,gmc,g5⟩:=hv
 injection ee with e1 e2 e3
 subst e1 e3
 rcases h5 with h5 | ⟨b,off,rfl,_,hs⟩
 ·omega
 rcases g5 with g5 | ⟨b',off',rfl,_,gs⟩
 ·omega
 have hnews:∀ j x,news[j]? = some x → w.cell? ((⟨b,off,none⟩:Addr).add j) = some x:=fun j x hj => by rw [jV]; exact hs.cell hj
 have holds:∀ j x,xs[j]? = some x → w.cell? ((⟨b',off',none⟩:Addr).add j) = some x:=fun j x hj => by rw [jV]; exact gs.cell hj
 have hr:=run_append_grow (P:=P) w t ty e i z ht i1 i4 ⟨b',off',none⟩ n n xs (by rw [i2]; exact gl) holds ⟨b,off,none⟩ m c news (by rw [i2]; exact hl) hnews (by omega) (by omega) (by rw [i3]; exact growslice_fits (by omega) hb)
 have hge:=grownCap_ge w (n + m) n e
 have hcm:grownCap w (n + m) n e ≤ maxLen:=grownCap_le_maxLen w (n + m) n e (by simp [maxLen]; omega)
 have hlen:(xs ++ news).length = (n + m) * sz:=by rw [List.length_append,gl,hl,Nat.add_mul]
 refine ⟨_,_,hr,⟨hlen,.inr ⟨w.heap.size,_,_,rfl,Nat.zero_le _,heap_alloc_new w.drew _,hge,hcm,?_,?_⟩⟩,⟨rfl,⟨rfl,Nat.le_succ _⟩,rfl,by simp,fun k hk => heap_alloc_old w.drew _ k hk⟩,rfl⟩
 ·simp only [Array.size_append,List.size_toArray,size_zeroCells,hz,gl,hl,← Nat.add_mul]
  congr 1
  omega
 ·simp only [Array.toList_append,List.append_assoc]
  rw [← List.append_assoc,← hlen]
  exact List.take_left
section
variable {P : Program} {r : Option Nat} {N : Nat} {Γ : TE} {S : List Ow} {ops : Array Oper} {q qx qy : Prop} {Ψx Ψy : PV} {d : Nat} {x y : Operand} {t t' : TypeId} {pos : String} {af : Array Edge}
variable {ty : TypeId} {k bytes : Nat} {cs m : List CT}
theorem capX (hx:tv Γ x = some (qx,svx k cs)) (hy:tv Γ y = some (qy,Ψy)) [hqx:Tr qx] [hq:Tr qy] [ht:TSl P t ty k bytes] [hv:VS Ψy k m] (h0:0 < cs.length) (h1:0 < m.length) (hn:cs.length + m.length ≤ 1000000000) (hb:Nat.ble bytes 1000 = true) :
  CkN P r N ops S ⟨some d,.call ⟨.builtin .append,#[x,y],#[t,t]⟩,t',pos,af,none⟩ Γ (rowS ty k (cs ++ m)):=fun M D E w d' hd hN hg hT => by
 obtain rfl:=Option.some.inj hd
 obtain ⟨u,e1,⟨ad,rfl⟩,u1,us,e3,g1,g2,g3⟩:=gB (p:=True) hT hx trivial (by simp [Op.operands,Call.operands])
 obtain rfl:=List.singleton_inj.1 e3
 obtain ⟨u2,e2,k2⟩:=gB (p:=True) hT hy trivial (by simp [Op.operands,Call.operands])
 obtain ⟨u3,vs,e4,h3,h4,h5⟩:=hv.h k2
 obtain rfl:=List.singleton_inj.1 e4
 obtain ⟨z,hz,hzc⟩:=ht.s
 have h0':=Nat.ne_of_beq_eq_false ht.n
 obtain ⟨v',w',r1,r2,r3,r4⟩:=run_append_full (P:=P) t t' ty ht.u hz hzc (by omega) g1 h3 h1 h0 (by omega) (Nat.le_trans (Nat.mul_le_mul hn (Nat.le_of_ble_eq_true hb)) (by omega))
 refine yY hN (by intro c hc; cases hc) (fun ac ha => ?_) (zD ⟨rfl,r3,v',qO (by simp),fun b hb => ?_,us ++ vs,by rw [List.length_append]; exact r2,?_,fun c hc => (List.mem_append.1 hc).elim (g3 c) (h5 c)⟩)
 ·simp only [execOp,resolve,invoke,builtin,Sem.run_bind,Sem.run_pure,Result.andThen,List.map_toArray,List.map_cons,List.map_nil,ha.ev e1,ha.ev e2]
  rw [r1]
 ·have hb:v'.ownBlock = some b:=hb
  rw [r4] at hb; rw [← Option.some.inj hb]; exact Nat.le_refl _
 ·refine gN (bM g2 h4) (fun b cur tt fz hk hw => ?_)
  have hlt:=(Array.getElem?_eq_some_iff.1 hw).1
  refine ⟨fun c => ?_,(r3.block b hlt).trans hw⟩
  rcases c with c | c
  ·have c:v'.ownBlock = some b:=c
   rw [r4] at c
   have:=Option.some.inj c
   omega
  ·exact hk c
end
section
variable {β : Type} {P : Program} {ρ : Ren} {R : RelV β} {k b cap : Nat} {te : TypeId} {Fz M : Nat → Prop} {w : World} {cur : List Value} {l : List β}
theorem rev_row (L:SlLaysE0.n35 P ρ) (aE:∀ w,(isAgg (ρ.t 23)).run P w = .ok true w) (zE:∀ w,(Go.sizeOf (ρ.t 23)).run P w = .ok k w)
  (h1:∀ a us,R M w a us → ∀ v ∈ us,v.oneCell' = true) (hm:M b) (hf:¬ Fz b) (hR:∀ W,Le Fz M w M W → ∀ a us,R M w a us → R M W a us)
  (hb:Blk w b te cur) (hE:EB R k M w cur l) (hne:0 < l.length) (hsz:l.length < 4611686018427387904) :
  Calls P (ρ.f 35) #[.slice (some ⟨b,0,none⟩) l.length cap] w fun e w' =>
   e = .returned (.tuple #[]) ∧ ∃ cur':List Value,cur'.length = cur.length ∧ Blk w' b te cur' ∧ EB R k M w' cur' l.reverse ∧ Le Fz M w M w':=by
 have h0:∀ i,∃ us:List Value,∀ a,l[i]? = some a → us.length = k ∧ (∀ (q:Nat) (u:Value),us[q]? = some u → cur[i * k + q]? = some u) ∧ R M w a us:=fun i => by
  cases hi:l[i]? with
  | none => exact ⟨[],fun a h => by cases h⟩
  | some a => obtain ⟨us,h⟩:=hE.at_ i a hi; exact ⟨us,fun a' e => by cases e; exact h⟩
 obtain ⟨U,hU⟩:=Classical.axiomOfChoice h0
 have hg:∀ i:_root_.Fin l.length,l[i.val]? = some l[i]:=fun i => List.getElem?_eq_getElem i.isLt
 let S:={ x:List Value × β // x.1.length = k ∧ (∀ v ∈ x.1,v.oneCell' = true) ∧ R M w x.2 x.1 }
 let d:Array S:=Array.ofFn fun i:_root_.Fin l.length => ⟨(U i,l[i]),(hU i _ (hg i)).1,h1 _ _ (hU i _ (hg i)).2.2,(hU i _ (hg i)).2.2⟩
 let enc:S → List Value:=fun x => x.1.1
 have hds:d.size = l.length:=Array.size_ofFn
 haveI:Inhabited S:=⟨d[0]'(by omega)⟩
 have hd:∀ i (hi:i < l.length),d[i]! = ⟨(U i,l[i]),(hU i _ (hg ⟨i,hi⟩)).1,h1 _ _ (hU i _ (hg ⟨i,hi⟩)).2.2,(hU i _ (hg ⟨i,hi⟩)).2.2⟩:=fun i hi => by
  rw [getElem!_pos d i (by omega)]; simp [d]
 have hH:HoldsK enc k w b 0 d:=fun j hj => by
  rw [size_flatK,hds] at hj
  have k0:0 < k:=by
   rcases Nat.eq_zero_or_pos k with h | h
   ·subst h; simp at hj
   ·exact h
  have hi:j / k < l.length:=Nat.div_lt_of_lt_mul (by rw [Nat.mul_comm]; exact hj)
  obtain ⟨g1,g2,_⟩:=hU (j / k) _ (hg ⟨j / k,hi⟩)
  rw [get_flatK _ _ _ _ (by rw [hds]; exact hj),hd _ hi,Nat.zero_add]
  have hr:j % k < (U (j / k)).length:=by rw [g1]; exact Nat.mod_lt _ k0
  have g3:=g2 (j % k) _ (List.getElem?_eq_getElem hr)
  rw [show j / k * k + j % k = j by rw [Nat.mul_comm]; exact Nat.div_add_mod j k] at g3
  refine ⟨?_,by simp [World.frozen?,show w.heap[b]? = _ from hb]⟩
  rw [hb.cell,g3]
  simp [enc,getElem!_pos (U (j / k)) (j % k) hr]
 have hs:=AnyQ.slices_Reverse L k aE zE enc (fun x => x.2.1) (fun x => x.2.2.1) b 0 cap d w hH (by omega)
 rw [hds] at hs
 refine hs.mono fun e w' ⟨he,n,hw⟩ => ⟨he,?_⟩
 have hw2:w' = sortWorldK enc k w b 0 n d.reverse #[]:=by
  rw [hw]; unfold sortWorldK grow; simp
 have hle:Le Fz M w M w':=hw2 ▸ rN (Fz:=Fz) (M:=M) hm hf
 have hds':d.reverse.size = l.length:=by simp [hds]
 have hH':HoldsK enc k w' b 0 d.reverse:=by rw [hw]; exact holdsK_putRowK enc k _ b 0 d _ (holdsK_ahead enc k w n b 0 d hH) (by simp)
 have hbk:w'.heap[b]? = some (.cells (putCells id 0 (flatK enc k d.reverse) cur.toArray) te (0,0)):=by
  rw [hw]
  show ((w.heap.modify b _))[b]? = _
  rw [Array.getElem?_modify,if_pos rfl,show w.heap[b]? = _ from hb]; rfl
 have hgd:∀ i (hi:i < l.length),l.reverse[i]? = some d.reverse[i]!.1.2:=fun i hi => by
  rw [getElem!_pos d.reverse i (by omega),List.getElem?_reverse hi,List.getElem?_eq_getElem (by omega)]
  simp [d]
 refine ⟨(putCells id 0 (flatK enc k d.reverse) cur.toArray).toList,?_,?_,⟨?_,?_⟩,hle⟩
 ·simp [putCells]
 ·show w'.heap[b]? = _
  rw [hbk]
 ·simp [putCells]; exact hE.len
 ·intro i a ha
  have hi:i < l.length:=by
   have:=(List.getElem?_eq_some_iff.1 ha).1
   rwa [List.length_reverse] at this
  rw [hgd i hi] at ha
  obtain rfl:=Option.some.inj ha
  refine ⟨d.reverse[i]!.1.1,d.reverse[i]!.2.1,fun q u hq => ?_,hR _ hle _ _ d.reverse[i]!.2.2.2⟩
  have hq':q < k:=by have:=(List.getElem?_eq_some_iff.1 hq).1; rw [d.reverse[i]!.2.1] at this; exact this
  have h5:=(hH'.cell (i:=i) (c:=q) (by omega) hq').1
  rw [Nat.zero_add,World.cell?,hbk] at h5
  have h6:(putCells id 0 (flatK enc k d.reverse) cur.toArray)[i * k + q]? = some (enc d.reverse[i]!)[q]!:=by simpa using h5
  rw [Array.getElem?_toList,h6,List.getElem!_eq_getElem?_getD,show (enc d.reverse[i]!)[q]? = some u from hq]; rfl
end
theorem trev {α:Type} {P:Program} {ρ:Ren} {f:α → CT} {k fs:Nat} {ty:TypeId} {v:Value} {l:List α} (L:SlLaysE0.n35 P ρ) (hfs:ρ.f 35 = fs) (aE:∀ w,(isAgg (ρ.t 23)).run P w = .ok true w) (zE:∀ w,(Go.sizeOf (ρ.t 23)).run P w = .ok k w) (hsz:∀ a,(f a).sz = k) (hb:Bod P fs)
    (h0:0 < l.length) (hl:l.length ≤ 1000000) :
    CTo P fs [exP v] [.row v ty k (l.map f)] (fun r So => r = tu [] ∧ So = [.row v ty k (l.reverse.map f)]):=by
  subst hfs
  refine ⟨hb,fun M w vs hG hA hZ hM hv => ?_⟩
  obtain ⟨v',_,rfl,hv1,rfl⟩:=hv
  obtain rfl:v = v':=(show v' = v from hv1).symm
  have hS:Ow.row v ty k (l.map f) ∈ [Ow.row v ty k (l.map f)]:=by simp
  obtain ⟨us,g1,g2,g3⟩:=hG.own _ hS
  rw [List.length_map] at g1
  obtain ⟨b,cap,cur,rfl,hw,hnc,hcm,hcs,htk⟩:=iA g1 h0
  have hul:us.length = l.length * k:=g1.1
  have hm:Mk [Ow.row (.slice (some ⟨b,0,none⟩) l.length cap) ty k (l.map f)] M b:=.inl ⟨_,hS,rfl⟩
  have hbk:∀ i,bks [Ow.row (.slice (some ⟨b,0,none⟩) l.length cap) ty k (l.map f)] i ↔ i = b:=fun i => by simp [bks,Ow.bk,Value.ownBlock]; exact eq_comm
  have hE:EB (fun M w (a:α) us => (f a).p M w us) k (Mk [Ow.row (.slice (some ⟨b,0,none⟩) l.length cap) ty k (l.map f)] M) w cur.toList l:=by
    refine ⟨by have : cur.toList.length = cap * k := by simpa using hcs
               rw [this]; exact Nat.mul_le_mul_right k hnc,fun i a ha => ?_⟩
    have hi:=(List.getElem?_eq_some_iff.1 ha).1
    have h4:=dY g2 (i:=i) (c:=f a) (by rw [List.getElem?_map,ha]; rfl)
    rw [kZ g3 (by rw [List.length_map]; omega),hsz] at h4
    refine ⟨_,((f a).len h4).trans (hsz a),fun q u hq => ?_,h4⟩
    rw [List.getElem?_take] at hq
    split at hq
    · rw [List.getElem?_drop,← htk,List.getElem?_take] at hq
      split at hq
      · exact hq
      · cases hq
    · cases hq
  have hs:=rev_row (k:=k) (b:=b) (cap:=cap) (te:=ty) (Fz:=fun i => i ≠ b) (M:=Mk [Ow.row (.slice (some ⟨b,0,none⟩) l.length cap) ty k (l.map f)] M) (w:=w) (cur:=cur.toList) (l:=l) L aE zE
    (fun a us h => (f a).one h) hm (fun c => c rfl) (fun W hle a us h => (f a).mono h hle.cl)
    (show Blk w b ty cur.toList by unfold Blk; simpa using hw) hE h0 (by omega)
  refine hs.mono ?_
  rintro e w' ⟨rfl,cur',hcl,B',hE',hle⟩
  have hll:l.reverse.length = l.length:=List.length_reverse
  have hmk:Mk [Ow.row (.slice (some ⟨b,0,none⟩) l.length cap) ty k (l.reverse.map f)] M = Mk [Ow.row (.slice (some ⟨b,0,none⟩) l.length cap) ty k (l.map f)] M:=by
    funext i; simp [Mk,Ow.bk]
  refine ⟨_,rfl,⟨hle.os,hle.tape,hle.output,hle.size,fun i hi hz => hle.frz i hi fun c => hz ((hbk i).2 c)⟩,tu [],_,⟨rfl,rfl⟩,⟨by rw [hmk]; exact fun i hi => Nat.lt_of_lt_of_le (hG.ok i hi) hle.size,by rw [hmk]; exact hG.tab.cl hle.cl,fun o ho => ?_⟩,⟨fun _ _ p hp => by simp at hp,trivial⟩,fun i hi => .inr (by
    obtain ⟨o,ho,e⟩:=hi
    obtain rfl:=List.mem_singleton.1 ho
    exact ⟨_,hS,e⟩),⟨[],rfl,rfl⟩⟩
  obtain rfl:=List.mem_singleton.1 ho
  rw [hmk]
  have hcl2:cur'.length = cap * k:=by rw [hcl]; simpa using hcs
  refine ⟨cur'.take (l.reverse.length * k),?_,rB (k:=k) (R:=fun M w (a:α) us => (f a).p M w us) (fun a us _ h => h) (by rw [List.length_take,hcl2]; have:=Nat.mul_le_mul_right k (show l.reverse.length ≤ cap by omega); omega) (fun i a ha => ?_),fun c hc => by obtain ⟨a,_,rfl⟩:=List.mem_map.1 hc; exact hsz a⟩
  · rw [List.length_map,hll]
    refine ⟨by rw [List.length_take,hcl2]; have:=Nat.mul_le_mul_right k hnc; omega,.inr ⟨b,cap,cur'.toArray,rfl,Nat.zero_le _,by have:=B'; unfold Blk at this; simpa using this,hnc,hcm,by simpa using hcl2,by simp⟩⟩
  · obtain ⟨vs,k1,k2,k3⟩:=hE'.at_ i a ha
    refine ⟨vs,k1,fun q u hq => ?_,k3⟩
    have hq':q < k:=k1 ▸ (List.getElem?_eq_some_iff.1 hq).1
    have:=zS1 (k:=k) (List.getElem?_eq_some_iff.1 ha).1
    rw [List.getElem?_take,if_pos (by omega)]
    exact k2 q u hq
section
variable {P : Program} {r : Option Nat} {N : Nat} {X : Cx} {Γ : TE} {S : List Ow} {ops : Array Oper} {K : TK}
theorem t_yieldh {α:Type} {xs:List α} {τ:α → List PV} {y:Nat} {YS:List α → Cx → Prop} {YX:Cx → Prop} {pre:List α} {x:α} {d:Nat} {fo:Operand} {ys:List Operand} {ts:Array TypeId} {t':TypeId} {pos:String} {af:Array Edge} {l:List Oper} {q q' qj:Prop} {Φ:PV} {γ b:Bool} {j dj:Nat} {τs:List PV} (hY:Yl P xs τ y YS YX) (hS:YS pre X)
  (hj:(ops[j]?).bind (·.dst) = some dj) (hΓ:tf Γ dj = some (qj,Φ)) [hb:VB Φ γ] [hqj:Tr qj] (hx:γ = b → ∃ post,xs = pre ++ x :: post)
  (hf:tv Γ fo = some (q,exP (.func (.yield y) #[] #[]))) (ha:tvs Γ ys = some (q',τs)) [hq:Im (γ = b) q] [hq':Im (γ = b) q'] (hτ:∀ M w vs,Fa τs M w vs → Fa (τ x) M w vs)
  (h0:γ ≠ b → TO P r N ops X K l ((d,γ = b,exP (.bool true)) :: Γ) S)
  (h1:γ = b → ∀ Y,YS (pre ++ [x]) Y → TO P r N ops Y K l ((d,γ = b,exP (.bool true)) :: Γ) S) (h2:γ = b → ∀ Y,YX Y → TO P r N ops Y K l ((d,γ = b,exP (.bool false)) :: Γ) S) :
  TO P r N ops X K (⟨some d,.call ⟨.value fo,ys.toArray,ts⟩,t',pos,af,some (j,b)⟩ :: l) Γ S:=fun hN D E w hs => by
 unfold okN at hN
 simp only [List.all_cons,Bool.and_eq_true] at hN
 obtain ⟨v,e0,h6⟩:=(hs.tm dj _ hΓ).1 hqj.h
 obtain rfl:=hb.h h6
 by_cases hγ:γ = b
 ·obtain ⟨u,e1,h3⟩:=sM (hs.tm.tm (Γ.map (·.1))) hf (fun t e => by subst e; exact lO hf) (hq.h hγ)
  obtain rfl:u = _:=h3
  obtain ⟨post,hx⟩:=hx hγ
  obtain ⟨vs,e2,h4⟩:=bU (hs.tm.tm (Γ.map (·.1))) ha (hq'.h hγ) fun x hxm t e => by subst e; exact pY ha hxm
  obtain ⟨hms,hy⟩:=hY.y hx hS hs (hτ _ _ _ h4)
  subst hγ
  refine yH hj e0 (uU hN.1 e1 e2 (hy.mono ?_))
  rintro b w' ⟨Y,k1,k2,⟨rfl,k3⟩ | ⟨rfl,k3⟩⟩
  ·have:=h1 rfl Y k3 hN.2 D _ w' (k1.put (q:=(γ = γ,exP (.bool true))) (xB _) (fun _ => rfl) (fun c => absurd rfl c))
   rw [k2] at this; rw [hms]; exact this
  ·have:=h2 rfl Y k3 hN.2 D _ w' (k1.put (q:=(γ = γ,exP (.bool false))) (xB _) (fun _ => rfl) (fun c => absurd rfl c))
   rw [k2] at this; rw [hms]; exact this
 ·exact yI hN.1 hj e0 (by simpa using hγ) (h0 hγ hN.2 D _ w (hs.put (xB _) (q:=(γ = b,exP (.bool true))) (fun c => absurd c hγ) (fun _ => rfl)))
end
section
variable {X : Cx} {w w' : World} {Γ : TE} {S : List Ow} {E : Env}
theorem St.addrN (h:St X Γ S E w) {b kk len:Nat} {ty:TypeId} {us:List Value} {cs:List CT} (hn:New w w' b (.cells us.toArray ty (0,0))) (hl:us.length = len * kk) (hm:len ≤ 1000) (hcl:cs.length = len) (hst:stp cs (Mk S X.M) w us) (hall:aJ kk cs):St X Γ (.row (.slice (some ⟨b,0,none⟩) len len) ty kk cs :: S) E w':=by
 have hb:=hn.below
 have hbs:w.heap.size ≤ b:=by rw [hn.at_]; exact Nat.le_refl _
 have cl:Cl (Mk S X.M) w (Mk (.row (.slice (some ⟨b,0,none⟩) len len) ty kk cs :: S) X.M) w':=Cl.new hb hbs fun k hk => (dA.1 hk).imp (fun e => (Option.some.inj e).symm) id
 refine ⟨h.bel.bel hb,⟨fun k hk => ?_,h.gd.tab.cl cl,fun o ho => ?_⟩,fun o ho k hk => ?_,⟨fun k hk p hp e => ?_,h.apt⟩,h.ok0,h.zm,h.mko.nc (.rb hb),h.tm.mono cl⟩
 ·rcases dA.1 hk with e | hk
  ·rw [← Option.some.inj (show some b = some k from e),hn.size,hn.at_]; omega
  ·exact Nat.lt_of_lt_of_le (h.gd.ok k hk) hb.size
 ·rcases List.mem_cons.1 ho with rfl | ho
  ·exact ⟨us,by rw [hcl]; exact own_bs hn hl hm,gN hst cl,hall⟩
  ·exact Ow.ok_mono (h.gd.own o ho) cl fun k _ hlt => hb.block k hlt
 ·rcases List.mem_cons.1 ho with rfl | ho
  ·rw [← Option.some.inj (show some b = some k from hk)]; exact .inl (Nat.le_trans h.bel.size hbs)
  ·exact h.new o ho k hk
 ·have:=h.okS p hp k e
  rw [← Option.some.inj (show some b = some k from hk)] at this
  omega
end
theorem tbs {P:Program} {r:Option Nat} {N:Nat} {ops:Array Oper} {X:Cx} {K:TK} {S:List Ow} {Γ:TE} {d k bytes len:Nat} {ty t t':TypeId} {pos:String} {af:Array Edge} {l:List Oper} {q:Prop} {parts:List (Nat × Operand)} {τs:List PV} {cs:List CT} (hx:tvs Γ (parts.map (·.2)) = some (q,τs)) [hi:Tr q] [ht:TSl P t ty k bytes] [hc:CtL τs cs] (hp:parts.map (·.1) = List.range len) (hs:(cs.all fun c => Nat.beq c.sz k) = true) (hl:Nat.ble (len * k) 1000 = true) (h0:Nat.beq len 0 = false) (hn:cs.length = len)
  (h:∀ v',TO P r N ops X K l ((d,True,exP v') :: Γ) (.row v' ty k cs :: S)):TO P r N ops X K (⟨some d,.buildSlice t len parts.toArray,t',pos,af,none⟩ :: l) Γ S:=fun hN D E w hst => by
 unfold okN at hN
 simp only [List.all_cons,Bool.and_eq_true] at hN
 obtain ⟨vs,e1,h1⟩:=bU (hst.tm.tm (Γ.map (·.1))) hx hi.h fun x hxm t e => by subst e; exact pY hx hxm
 obtain ⟨uss,g1,g2,g3⟩:=hc.h h1
 have hall:aJ k cs:=fun c hc => Nat.eq_of_beq_eq_true (List.all_eq_true.1 hs c hc)
 have hlen:=kT g2
 rw [iI hall,hn] at hlen
 obtain ⟨z,hz,hzc⟩:=ht.s
 have hle:len ≤ 1000:=by
  have:=Nat.le_of_ble_eq_true hl
  have h0:=Nat.ne_of_beq_eq_false ht.n
  exact Nat.le_trans (Nat.le_mul_of_pos_right _ (Nat.pos_of_ne_zero h0)) this
 refine uO hN.1 ht.u hz hzc ht.n (by simpa using hp) (by simpa using e1) g1 ?_ hl h0 fun w' b hw => ?_
 ·refine List.all_eq_true.2 fun c hc => ?_
  have:c.length ∈ uss.map List.length:=List.mem_map_of_mem hc
  rw [g3] at this
  obtain ⟨c',h5,h6⟩:=List.mem_map.1 this
  rw [← h6]; exact List.all_eq_true.1 hs c' h5
 ·exact h _ hN.2 D _ w' ((hst.addrN hw hlen hle hn g2 hall).put (xB _) (fun _ => rfl) (fun c => absurd trivial c))
theorem ong {P:Program} {r:Option Nat} {N:Nat} {Γ:TE} {S:List Ow} {ops:Array Oper} {M:Nat → Prop} {p qx:Prop} {Ψx:PV} {d:Nat} {x:Operand} {t t':TypeId} {pos:String} {af:Array Edge} {a:Int} (hx:tv Γ x = some (qx,Ψx)) [Im p qx] [ha:VI Ψx .i64 a] (hs:p → -9223372036854775808 < a ∧ a ≤ 9223372036854775807):Ob P r N ops M S p ⟨some d,.unOp .neg t x,t',pos,af,none⟩ Γ (exP (.int .i64 (-a))):=fun D E w d' hd hN hg hp hT => by
 obtain rfl:=Option.some.inj hd
 obtain ⟨v,e1,h1⟩:=gB hT hx hp (by simp [Op.operands])
 rw [ha.h h1] at e1
 have:=hs hp
 exact ops_neg hN e1 (by omega) (fin rfl)
end Go.SL
namespace Go.SL
def trn (a b c:P2):Rat:=zQ (subP b a) (subP c a)
def lexP (v:P2):Prop:=0 < v.1 ∨ v.1 = 0 ∧ 0 < v.2
def lex0 (v:P2):Prop:=0 < v.1 ∨ v.1 = 0 ∧ 0 ≤ v.2
theorem lexP.le {v:P2} (h:lexP v):lex0 v:=by unfold lexP lex0 at *; grind
theorem bW {b x:Rat} (hb:0 < b) (h:0 ≤ b * x):0 ≤ x:=Classical.byContradiction fun c => by
 have:=Rat.mul_pos hb (show 0 < -x by grind); grind
theorem iM {b x:Rat} (hb:0 < b) (h:0 < b * x):0 < x:=Classical.byContradiction fun c => by
 have:=Rat.mul_nonneg (Rat.le_of_lt hb) (show 0 ≤ -x by grind); grind
theorem wE (a b c:P2):b.1 * zQ a c = a.1 * zQ b c + c.1 * zQ a b ∧ b.2 * zQ a c = a.2 * zQ b c + c.2 * zQ a b:=by
 unfold zQ; constructor <;> grind
theorem oR {a b c:P2} (ha:lex0 a) (hb:lexP b) (hc:lex0 c) (h1:0 ≤ zQ a b) (h2:0 ≤ zQ b c):0 ≤ zQ a c:=by
 have e:=(wE a b c).1
 have a0:0 ≤ a.1:=by unfold lex0 at ha; grind
 have c0:0 ≤ c.1:=by unfold lex0 at hc; grind
 rcases hb with hb | ⟨hb,hb2⟩
 ·exact bW hb (by rw [e]; have:=Rat.mul_nonneg a0 h2; have:=Rat.mul_nonneg c0 h1; grind)
 ·have k:c.1 = 0:=by
   rcases hc with hc | hc
   ·have:=Rat.mul_pos hb2 hc; unfold zQ at h2; rw [hb] at h2; grind
   ·exact hc.1
  have k2:0 ≤ c.2:=by unfold lex0 at hc; grind
  have:=Rat.mul_nonneg a0 k2
  unfold zQ; rw [k]; grind
theorem zP6 {a b c:P2} (ha:lex0 a) (hb:lexP b) (hc:lexP c) (h1:0 < zQ a b) (h2:0 ≤ zQ b c):0 < zQ a c:=by
 have e:=(wE a b c).1
 have a0:0 ≤ a.1:=by unfold lex0 at ha; grind
 have ap:0 < a.1 ∨ a.1 = 0 ∧ 0 ≤ a.2:=ha
 rcases hb with hb | ⟨hb,hb2⟩
 ·rcases hc with hc | ⟨hc,hc2⟩
  ·exact iM hb (by rw [e]; have:=Rat.mul_nonneg a0 h2; have:=Rat.mul_pos hc h1; grind)
  ·rcases ap with ap | ⟨ap,ap2⟩
   ·have:=Rat.mul_pos ap hc2; unfold zQ; rw [hc]; grind
   ·have:=Rat.mul_nonneg ap2 (Rat.le_of_lt hb); unfold zQ at h1; rw [ap] at h1; grind
 ·have k:c.1 = 0:=by
   rcases hc with hc | hc
   ·have:=Rat.mul_pos hb2 hc; unfold zQ at h2; rw [hb] at h2; grind
   ·exact hc.1
  have k2:0 < c.2:=by unfold lexP at hc; grind
  have k3:0 < a.1:=by
   refine iM hb2 ?_
   unfold zQ at h1; rw [hb] at h1; grind
  have:=Rat.mul_pos k3 k2
  unfold zQ; rw [k]; grind
theorem tr_gp {a b c:P2} (ha:lexP a) (hb:lexP b) (hc:lex0 c) (h1:0 ≤ zQ a b) (h2:0 < zQ b c):0 < zQ a c:=by
 have e:=(wE a b c).1
 have c0:0 ≤ c.1:=by unfold lex0 at hc; grind
 rcases hb with hb | ⟨hb,hb2⟩
 ·rcases ha with ha | ⟨ha,ha2⟩
  ·exact iM hb (by rw [e]; have:=Rat.mul_pos ha h2; have:=Rat.mul_nonneg c0 h1; grind)
  ·have:=Rat.mul_pos ha2 hb; unfold zQ at h1; rw [ha] at h1; grind
 ·have:=Rat.mul_nonneg (Rat.le_of_lt hb2) c0; unfold zQ at h2; rw [hb] at h2; grind
theorem iD {a b:P2}:leP a b ↔ lex0 (subP b a):=by unfold leP lex0 subP; simp only; grind
def ltP (a b:P2):Prop:=lexP (subP b a)
theorem zS7 {a b:P2}:ltP a b ↔ cmpP a b < 0:=by rw [mY]; unfold ltP leP lexP subP; simp only; grind
theorem ltP.le {a b:P2} (h:ltP a b):leP a b:=iD.2 (lexP.le h)
theorem ltP.ne {a b:P2} (h:ltP a b):a ≠ b:=fun e => by subst e; unfold ltP lexP subP at h; simp only at h; grind
theorem tN {a b:P2} (h:leP a b) (k:a ≠ b):ltP a b:=by
 unfold ltP leP lexP subP at *; simp only; rw [Ne,Prod.ext_iff] at k; grind
theorem le_or_lt (a b:P2):leP a b ∨ ltP b a:=by unfold ltP leP lexP subP; simp only; grind
def gR (p:P2):List P2 → List P2
 | t :: s :: r => if zQ (subP t s) (subP p t) ≤ 0 then gR p (s :: r) else t :: s :: r
 | l => l
def xX:List P2 → List P2 → List P2
 | acc,[] => acc
 | acc,p :: l => xX (p :: gR p acc) l
def aF (q:P2):List P2 → Prop
 | t :: s :: r => 0 ≤ trn s t q ∧ aF q (s :: r)
 | _ => True
def qK:List P2 → Prop
 | u :: t :: s :: r => 0 < trn s t u ∧ qK (t :: s :: r)
 | _ => True
def edgD (w:P2):List P2 → Prop
 | t :: s :: r => 0 < zQ (subP t s) w ∧ edgD w (s :: r)
 | _ => True
structure ChOk (S acc:List P2):Prop where
 sub:∀ x ∈ acc,x ∈ S
 dec:acc.Pairwise fun a b => ltP b a
 top:∀ q ∈ S,∀ t,acc.head? = some t → leP q t
 bot:∀ q ∈ S,∀ t,acc.getLast? = some t → leP t q
 lef:∀ q ∈ S,aF q acc
 trs:qK acc
 ne:acc ≠ []
theorem mO (s t p:P2):zQ (subP t s) (subP p t) = trn s t p:=by unfold trn zQ subP; simp only; grind
theorem rY {w:P2} (hw:lexP w):∀ D:List P2,qK D → D.Pairwise (fun a b => ltP b a) → (∀ t s r,D = t :: s :: r → 0 < zQ (subP t s) w) → edgD w D
 | [],_,_,_ => trivial
 | [_],_,_,_ => trivial
 | [t,s],_,_,h => ⟨h t s [] rfl,trivial⟩
 | t :: s :: u :: r,ht,hd,h => by
  have h1:=h t s _ rfl
  have h2:0 < zQ (subP s u) (subP t s):=by rw [mO]; exact ht.1
  have a1:ltP s t:=(List.pairwise_cons.1 hd).1 s (by simp)
  have a2:ltP u s:=(List.pairwise_cons.1 (List.pairwise_cons.1 hd).2).1 u (by simp)
  exact ⟨h1,rY hw (s :: u :: r) ht.2 (List.pairwise_cons.1 hd).2 fun t' s' r' e => by
   injection e with e1 e2; injection e2 with e2 e3; subst e1 e2
   exact zP6 (lexP.le a2) a1 hw h2 (Rat.le_of_lt h1)⟩
theorem tP {p x:P2}:∀ D:List P2,edgD (subP p x) D → aF x D → aF p D
 | [],_,_ => trivial
 | [_],_,_ => trivial
 | t :: s :: r,h,k => ⟨by
   have h1:=h.1; have k1:=k.1
   unfold trn zQ subP at *; simp only at *; grind,tP (s :: r) h.2 k.2⟩
theorem zM7 {S:List P2} {p:P2} (hp:∀ q ∈ S,ltP q p):∀ acc:List P2,acc ≠ [] → (∀ x ∈ acc,x ∈ S) → acc.Pairwise (fun a b => ltP b a) → (∀ q ∈ S,aF q acc) → qK acc →
  (∀ q ∈ S,∀ t,acc.getLast? = some t → leP t q) → (∀ q ∈ S,∀ t,acc.head? = some t → leP q t ∨ 0 ≤ trn t p q) →
  (gR p acc ≠ [] ∧ (∀ x ∈ gR p acc,x ∈ S) ∧ (gR p acc).Pairwise (fun a b => ltP b a) ∧ (∀ q ∈ S,aF q (gR p acc)) ∧ qK (gR p acc) ∧
   (∀ q ∈ S,∀ t,(gR p acc).getLast? = some t → leP t q) ∧ (∀ q ∈ S,∀ t,(gR p acc).head? = some t → 0 ≤ trn t p q) ∧ ∀ t s r,gR p acc = t :: s :: r → 0 < zQ (subP t s) (subP p t))
 | [],h,_,_,_,_,_,_ => absurd rfl h
 | [t],h,hs,hd,hl,ht,hb,hh => by
  refine ⟨h,hs,hd,hl,ht,hb,fun q hq t' e => ?_,fun t' s r e => by cases e⟩
  obtain rfl:t = t':=Option.some.inj e
  rcases hh q hq t rfl with h1 | h1
  ·obtain rfl:=uL h1 (hb q hq t rfl)
   unfold trn zQ subP; simp only; grind
  ·exact h1
 | t :: s :: r,h,hs,hd,hl,ht,hb,hh => by
  have a1:ltP s t:=(List.pairwise_cons.1 hd).1 s (by simp)
  have tS:=hs t (by simp)
  have sS:=hs s (by simp)
  by_cases c:zQ (subP t s) (subP p t) ≤ 0
  ·rw [gR,if_pos c]
   refine zM7 hp (s :: r) (by simp) (fun x hx => hs x (List.mem_cons_of_mem _ hx)) (List.pairwise_cons.1 hd).2 (fun q hq => (hl q hq).2) ?_ (fun q hq u e => hb q hq u (by rw [List.getLast?_cons_cons]; exact e)) fun q hq u e => ?_
   ·cases r with
    | nil => trivial
    | cons u r => exact ht.2
   ·obtain rfl:s = u:=Option.some.inj e
    rcases le_or_lt q s with h1 | h1
    ·exact .inl h1
    ·refine .inr ?_
     have k1:0 ≤ zQ (subP t s) (subP q s):=(hl q hq).1
     have k2:0 ≤ zQ (subP p s) (subP t s):=by unfold zQ subP at *; simp only at *; grind
     exact oR (lexP.le (hp s sS)) a1 (lexP.le h1) k2 k1
  ·rw [gR,if_neg c]
   have c':0 < zQ (subP t s) (subP p t):=by grind
   refine ⟨h,hs,hd,hl,ht,hb,fun q hq u e => ?_,fun t' s' r' e => by injection e with e1 e2; injection e2 with e2 e3; subst e1 e2; exact c'⟩
   obtain rfl:t = u:=Option.some.inj e
   rcases hh q hq t rfl with h1 | h1
   ·have k1:0 ≤ zQ (subP t s) (subP q s):=(hl q hq).1
    have k2:0 ≤ zQ (subP t q) (subP t s):=by unfold zQ subP at *; simp only at *; grind
    have k3:=oR (iD.1 h1) a1 (lexP.le (hp t tS)) k2 (Rat.le_of_lt c')
    unfold trn zQ subP at *; simp only at *; grind
   ·exact h1
theorem dP {a b c:P2} (h:leP a b) (k:ltP b c):ltP a c:=by
 refine tN (fI h k.le) fun e => ?_
 subst e; exact k.ne (uL k.le h)
theorem ch_step {S acc:List P2} {p:P2} (h:ChOk S acc) (hp:∀ q ∈ S,ltP q p):ChOk (S ++ [p]) (p :: gR p acc):=by
 obtain ⟨d1,d2,d3,d4,d5,d6,d7,d8⟩:=zM7 hp acc h.ne h.sub h.dec h.lef h.trs h.bot fun q hq t e => .inl (h.top q hq t e)
 generalize gR p acc = D at *
 have hS:∀ {q},q ∈ S ++ [p] → q ∈ S ∨ q = p:=fun hq => by simpa using hq
 obtain ⟨t,D',rfl⟩:=List.exists_cons_of_ne_nil d1
 have tS:=d2 t (by simp)
 have hw:lexP (subP p t):=hp t tS
 refine ⟨fun x hx => ?_,List.pairwise_cons.2 ⟨fun x hx => hp x (d2 x hx),d3⟩,fun q hq u e => ?_,fun q hq u e => ?_,fun q hq => ?_,?_,by simp⟩
 ·rcases List.mem_cons.1 hx with rfl | hx
  ·simp
  ·exact List.mem_append_left _ (d2 x hx)
 ·obtain rfl:p = u:=Option.some.inj e
  rcases hS hq with hq | rfl
  ·exact (hp q hq).le
  ·exact eO _
 ·rw [List.getLast?_cons_cons] at e
  rcases hS hq with hq | rfl
  ·exact d6 q hq u e
  ·exact fI (d6 t tS u e) (hp t tS).le
 ·rcases hS hq with hq | rfl
  ·exact ⟨d7 q hq t rfl,d4 q hq⟩
  ·refine ⟨by unfold trn zQ; grind,tP _ (rY hw _ d5 d3 fun t' s r e => ?_) (d4 t tS)⟩
   have e':=e
   injection e' with e1 e2; subst e1
   exact d8 t s r e
 ·cases D' with
  | nil => trivial
  | cons s r => exact ⟨by rw [← mO]; exact d8 t s r rfl,d5⟩
theorem zV5:∀ (l S acc:List P2),ChOk S acc → (S ++ l).Pairwise ltP → ChOk (S ++ l) (xX acc l)
 | [],S,acc,h,_ => by rw [List.append_nil]; exact h
 | p :: l,S,acc,h,hs => by
  have h1:=ch_step h (p:=p) fun q hq => (List.pairwise_append.1 hs).2.2 q hq p (by simp)
  have h2:=zV5 l (S ++ [p]) (p :: gR p acc) h1 (by simpa using hs)
  simpa [xX] using h2
theorem zZ9 {l:List P2} (h:l ≠ []) (hs:l.Pairwise ltP):ChOk l (xX [] l):=by
 obtain ⟨p,l,rfl⟩:=List.exists_cons_of_ne_nil h
 have h0:ChOk [p] [p]:=⟨fun _ h => h,by simp,fun q hq t e => by obtain rfl:p = t:=Option.some.inj e; rw [List.mem_singleton.1 hq]; exact eO _,fun q hq t e => by obtain rfl:p = t:=Option.some.inj e; rw [List.mem_singleton.1 hq]; exact eO _,fun _ _ => trivial,trivial,by simp⟩
 exact zV5 l [p] [p] h0 hs
def negP (a:P2):P2:=(-a.1,-a.2)
theorem iT (a:P2):negP (negP a) = a:=by unfold negP; rw [Prod.ext_iff]; constructor <;> simp only <;> grind
theorem cP (a b c:P2):trn (negP a) (negP b) (negP c) = trn a b c:=by unfold trn zQ subP negP; simp only; grind
theorem oA {a b:P2}:ltP (negP a) (negP b) ↔ ltP b a:=by unfold ltP lexP subP negP; simp only; grind
theorem oD {a b:P2}:leP (negP a) (negP b) ↔ leP b a:=by unfold leP negP; simp only; grind
theorem vC (p:P2):∀ l:List P2,gR (negP p) (l.map negP) = (gR p l).map negP
 | [] => rfl
 | [_] => rfl
 | t :: s :: r => by
  have e:zQ (subP (negP t) (negP s)) (subP (negP p) (negP t)) = zQ (subP t s) (subP p t):=by rw [mO,cP,← mO]
  simp only [List.map_cons,gR,e]
  split
  ·exact vC p (s :: r)
  ·rfl
theorem pQ:∀ (l acc:List P2),xX (acc.map negP) (l.map negP) = (xX acc l).map negP
 | [],_ => rfl
 | p :: l,acc => by
  rw [List.map_cons,xX,xX,vC,← List.map_cons]; exact pQ l _
theorem oC {q:P2}:∀ l:List P2,aF (negP q) (l.map negP) ↔ aF q l
 | [] => .rfl
 | [_] => .rfl
 | t :: s :: r => by simp only [List.map_cons,aF,cP]; exact and_congr .rfl (oC (s :: r))
theorem lN:∀ l:List P2,qK (l.map negP) ↔ qK l
 | [] => .rfl
 | [_] => .rfl
 | [_,_] => .rfl
 | u :: t :: s :: r => by simp only [List.map_cons,qK,cP]; exact and_congr .rfl (lN (t :: s :: r))
structure ChOk' (S acc:List P2):Prop where
 sub:∀ x ∈ acc,x ∈ S
 dec:acc.Pairwise fun a b => ltP a b
 top:∀ q ∈ S,∀ t,acc.head? = some t → leP t q
 bot:∀ q ∈ S,∀ t,acc.getLast? = some t → leP q t
 lef:∀ q ∈ S,aF q acc
 trs:qK acc
 ne:acc ≠ []
theorem ch_ok' {l:List P2} (h:l ≠ []) (hs:l.Pairwise ltP):ChOk' l (xX [] l.reverse):=by
 have h1:ChOk (l.reverse.map negP) (xX [] (l.reverse.map negP)):=zZ9 (by simpa using h) (by
  rw [List.pairwise_map,List.pairwise_reverse]
  exact hs.imp fun h => oA.2 h)
 rw [show xX [] (l.reverse.map negP) = (xX [] l.reverse).map negP from pQ l.reverse []] at h1
 generalize xX [] l.reverse = acc at *
 have hm:∀ {q},q ∈ l → negP q ∈ l.reverse.map negP:=fun hq => List.mem_map.2 ⟨_,List.mem_reverse.2 hq,rfl⟩
 refine ⟨fun x hx => ?_,?_,fun q hq t e => ?_,fun q hq t e => ?_,fun q hq => (oC acc).1 (h1.lef _ (hm hq)),(lN acc).1 h1.trs,fun c => h1.ne (by rw [c]; rfl)⟩
 ·obtain ⟨y,hy,e⟩:=List.mem_map.1 (h1.sub (negP x) (List.mem_map.2 ⟨x,hx,rfl⟩))
  have:=congrArg negP e
  rw [iT,iT] at this
  rw [← this]; exact List.mem_reverse.1 hy
 ·have:=h1.dec
  rw [List.pairwise_map] at this
  exact this.imp fun h => oA.1 h
 ·exact oD.1 (h1.top _ (hm hq) _ (by rw [List.head?_map,e]; rfl))
 ·exact oD.1 (h1.bot _ (hm hq) _ (by rw [List.getLast?_map,e]; rfl))
abbrev gp (h:List P2) (i:Nat):P2:=h.getD i (0,0)
abbrev nx (h:List P2) (i:Nat):P2:=gp h ((i + 1) % h.length)
theorem kQ {h:List P2} {i:Nat} (hi:i < h.length):gp h i ∈ h:=by
 unfold gp; rw [List.getD_eq_getElem?_getD,List.getElem?_eq_getElem hi]; exact List.getElem_mem hi
theorem iC {h:List P2} {c:P2} (hc:c ∈ h):∃ i,i < h.length ∧ gp h i = c:=by
 obtain ⟨i,hi,rfl⟩:=List.mem_iff_getElem.1 hc
 exact ⟨i,hi,by unfold gp; rw [List.getD_eq_getElem?_getD,List.getElem?_eq_getElem hi]; rfl⟩
theorem nodup_inj {α:Type} {l:List α} (nd:l.Nodup) {i k:Nat} (hi:i < l.length) (hk:k < l.length) (e:l[i] = l[k]):i = k:=by
 rcases Nat.lt_trichotomy i k with c | c | c
 ·exact absurd e (List.pairwise_iff_getElem.1 nd i k hi hk c)
 ·exact c
 ·exact absurd e.symm (List.pairwise_iff_getElem.1 nd k i hk hi c)
theorem zR0 (a b:Rat):a < b ∨ b ≤ a:=by grind
theorem dE {h:List P2} (nd:h.Nodup) {i k:Nat} (hi:i < h.length) (hk:k < h.length) (e:gp h i = gp h k):i = k:=by
 unfold gp at e
 rw [List.getD_eq_getElem?_getD,List.getD_eq_getElem?_getD,List.getElem?_eq_getElem hi,List.getElem?_eq_getElem hk] at e
 exact nodup_inj nd hi hk e
theorem fB {n i:Nat} (h:i < n):∃ p,p < n ∧ (p + 1) % n = i:=by
 rcases Nat.eq_zero_or_pos i with rfl | c
 ·exact ⟨n - 1,by omega,by rw [show n - 1 + 1 = n by omega]; exact Nat.mod_self n⟩
 ·exact ⟨i - 1,by omega,by rw [show i - 1 + 1 = i by omega]; exact Nat.mod_eq_of_lt h⟩
theorem kD {n i:Nat} (h:i < n):(i + 1) % n < n:=Nat.mod_lt _ (by omega)
theorem dO {n i:Nat} (h:i < n) (h2:2 ≤ n):(i + 1) % n ≠ i:=by
 rcases Nat.lt_or_ge (i + 1) n with c | c
 ·rw [Nat.mod_eq_of_lt c]; omega
 ·rw [show i + 1 = n by omega,Nat.mod_self]; omega
theorem eN {c n x:P2} (h:trn c n x = 0) (k:c ≠ n):∃ t:Rat,x.1 = c.1 + t * (n.1 - c.1) ∧ x.2 = c.2 + t * (n.2 - c.2):=by
 unfold trn zQ subP at h; simp only at h
 by_cases e:n.1 - c.1 = 0
 ·have e2:n.2 - c.2 ≠ 0:=fun e2 => k (Prod.ext_iff.2 ⟨by grind,by grind⟩)
  refine ⟨(x.2 - c.2) / (n.2 - c.2),?_,?_⟩
  ·have:(n.2 - c.2) * (x.1 - c.1) = 0:=by rw [e] at h; grind
   rcases Rat.mul_eq_zero.1 this with h1 | h1
   ·exact absurd h1 e2
   ·rw [e]; grind
  ·rw [Rat.div_mul_cancel e2]; grind
 ·refine ⟨(x.1 - c.1) / (n.1 - c.1),?_,?_⟩
  ·rw [Rat.div_mul_cancel e]; grind
  ·have:(n.1 - c.1) * (x.2 - c.2) = (n.1 - c.1) * ((x.1 - c.1) / (n.1 - c.1) * (n.2 - c.2)):=by
    have e3:=Rat.div_mul_cancel (a:=x.1 - c.1) e
    have e4:(n.1 - c.1) * ((x.1 - c.1) / (n.1 - c.1) * (n.2 - c.2)) = ((x.1 - c.1) / (n.1 - c.1) * (n.1 - c.1)) * (n.2 - c.2):=by grind
    rw [e4,e3]; grind
   have h2:(n.1 - c.1) * ((x.2 - c.2) - (x.1 - c.1) / (n.1 - c.1) * (n.2 - c.2)) = 0:=by grind
   rcases Rat.mul_eq_zero.1 h2 with h1 | h1
   ·exact absurd h1 e
   ·grind
structure Poly (h:List P2):Prop where
 fst:∀ c ∈ h,leP (gp h 0) c
 nd:h.Nodup
 conv:3 ≤ h.length → ∀ i k,i < h.length → k < h.length → k ≠ i → k ≠ (i + 1) % h.length → 0 < trn (gp h i) (nx h i) (gp h k)
def Sup (h:List P2) (q:P2):Prop:=∀ u v:Rat,∃ c ∈ h,u * q.1 + v * q.2 ≤ u * c.1 + v * c.2
theorem iJ {h:List P2} {c:P2} (hc:c ∈ h):Sup h c:=fun u v => ⟨c,hc,Rat.le_refl⟩
theorem oS {h h':List P2} {q:P2} (k:∀ c ∈ h,Sup h' c) (hq:Sup h q):Sup h' q:=fun u v => by
 obtain ⟨c,hc,h1⟩:=hq u v
 obtain ⟨d,hd,h2⟩:=k c hc u v
 exact ⟨d,hd,Rat.le_trans h1 h2⟩
theorem qS {h:List P2} {s t q:P2} (hl:∀ c ∈ h,0 ≤ trn s t c) (hq:Sup h q):0 ≤ trn s t q:=by
 obtain ⟨c,hc,h1⟩:=hq (t.2 - s.2) (-(t.1 - s.1))
 have h2:=hl c hc
 unfold trn zQ subP at *; simp only at *; grind
theorem zS6 (u v:Rat):∀ {h:List P2},h ≠ [] → ∃ c ∈ h,∀ x ∈ h,u * x.1 + v * x.2 ≤ u * c.1 + v * c.2
 | [c],_ => ⟨c,by simp,fun x hx => by rw [List.mem_singleton.1 hx]; exact Rat.le_refl⟩
 | c :: d :: r,_ => by
  obtain ⟨m,hm,k⟩:=zS6 u v (h:=d :: r) (by simp)
  by_cases e:u * c.1 + v * c.2 ≤ u * m.1 + v * m.2
  ·exact ⟨m,List.mem_cons_of_mem _ hm,fun x hx => by
    rcases List.mem_cons.1 hx with rfl | hx
    ·exact e
    ·exact k x hx⟩
  ·exact ⟨c,by simp,fun x hx => by
    rcases List.mem_cons.1 hx with rfl | hx
    ·exact Rat.le_refl
    ·have:=k x hx; grind⟩
theorem Poly.weak {h:List P2} (p:Poly h) {i:Nat} (hi:i < h.length) (h3:3 ≤ h.length):∀ c ∈ h,0 ≤ trn (gp h i) (nx h i) c:=fun c hc => by
 obtain ⟨k,hk,rfl⟩:=iC hc
 by_cases e1:k = i
 ·subst e1; unfold trn zQ subP; simp only; grind
 by_cases e2:k = (i + 1) % h.length
 ·rw [e2]; unfold trn zQ subP; simp only; grind
 exact Rat.le_of_lt (p.conv h3 i k hi hk e1 e2)
theorem sup_of_left {h:List P2} {q:P2} (p:Poly h) (h3:3 ≤ h.length) (hq:∀ i,i < h.length → 0 ≤ trn (gp h i) (nx h i) q):Sup h q:=fun u v => by
 obtain ⟨c,hc,hm⟩:=zS6 u v (h:=h) (by intro e; rw [e] at h3; simp at h3)
 refine ⟨c,hc,?_⟩
 obtain ⟨i,hi,rfl⟩:=iC hc
 obtain ⟨j,hj,e⟩:=fB hi
 have k1:=hq i hi
 have k2:=hq j hj
 have hne:j ≠ (i + 1) % h.length:=fun e2 => by
  have h5:=dO hi (by omega); have h6:(j + 1) % h.length = i:=e
  rw [e2] at h6
  rcases Nat.lt_or_ge (i + 1) h.length with c | c
  ·rw [Nat.mod_eq_of_lt c] at h6
   rcases Nat.lt_or_ge (i + 1 + 1) h.length with d | d
   ·rw [Nat.mod_eq_of_lt d] at h6; omega
   ·rw [show i + 1 + 1 = h.length by omega,Nat.mod_self] at h6; omega
  ·rw [show i + 1 = h.length by omega,Nat.mod_self,Nat.mod_eq_of_lt (by omega)] at h6; omega
 have k3:=p.conv h3 i j hi hj (fun e2 => dO hj (by omega) (e.trans e2.symm)) hne
 have m1:=hm _ (kQ hj)
 have m2:=hm _ (kQ (kD hi))
 unfold nx at k1 k2 k3
 rw [e] at k2
 generalize gp h i = c at *
 generalize gp h ((i + 1) % h.length) = n at *
 generalize gp h j = r at *
 have e1:trn c n r * (u * (q.1 - c.1) + v * (q.2 - c.2)) = (u * (n.1 - c.1) + v * (n.2 - c.2)) * trn r c q + (u * (r.1 - c.1) + v * (r.2 - c.2)) * trn c n q:=by unfold trn zQ subP; simp only; grind
 have a1:0 ≤ -(u * (n.1 - c.1) + v * (n.2 - c.2)):=by grind
 have a2:0 ≤ -(u * (r.1 - c.1) + v * (r.2 - c.2)):=by grind
 have b1:=Rat.mul_nonneg a1 k2
 have b2:=Rat.mul_nonneg a2 k1
 have:0 ≤ trn c n r * -(u * (q.1 - c.1) + v * (q.2 - c.2)):=by grind
 have:=bW k3 this
 grind
theorem conv_of {h:List P2} (nd:h.Nodup) (h3:3 ≤ h.length) (hl:∀ i k,i < h.length → k < h.length → 0 ≤ trn (gp h i) (nx h i) (gp h k)) (ht:∀ i,i < h.length → 0 < trn (gp h i) (nx h i) (nx h ((i + 1) % h.length))) :
  ∀ i k,i < h.length → k < h.length → k ≠ i → k ≠ (i + 1) % h.length → 0 < trn (gp h i) (nx h i) (gp h k):=fun i k hi hk n1 n2 => by
 have h0:=hl i k hi hk
 refine Classical.byContradiction fun hz => ?_
 have hz:trn (gp h i) (nx h i) (gp h k) = 0:=by grind
 have cn:gp h i ≠ nx h i:=fun e => dO hi (by omega) (dE nd hi (kD hi) e).symm
 obtain ⟨t,e1,e2⟩:=eN hz cn
 have xc:gp h k ≠ gp h i:=fun e => n1 (dE nd hk hi e)
 have xn:gp h k ≠ nx h i:=fun e => n2 (dE nd hk (kD hi) e)
 obtain ⟨j,hj,ej⟩:=fB hi
 obtain ⟨l,hl',el⟩:=fB hk
 have w1:=hl ((i + 1) % h.length) k (kD hi) hk
 have s1:=ht i hi
 have w2:=hl j k hj hk
 have s2:=ht j hj
 have w3:=hl k i hk hi
 have w4:=hl k _ hk (kD hi)
 have w5:=hl l i hl' hi
 have w6:=hl l _ hl' (kD hi)
 have s3:=ht l hl'
 unfold nx at *
 rw [ej] at w2 s2
 rw [el] at w5 w6 s3
 generalize gp h i = c at *
 generalize gp h ((i + 1) % h.length) = n at *
 generalize gp h k = x at *
 generalize gp h j = r at *
 generalize gp h l = z at *
 generalize gp h ((((i + 1) % h.length) + 1) % h.length) = m at *
 generalize gp h ((k + 1) % h.length) = y at *
 rcases zR0 1 t with ht1 | ht1
 ·have e:trn n m x = -((t - 1) * trn c n m):=by unfold trn zQ subP; simp only; rw [e1,e2]; grind
  have:=Rat.mul_pos (show 0 < t - 1 by grind) s1
  grind
 rcases zR0 t 0 with ht0 | ht0
 ·have e:trn r c x = t * trn r c n:=by unfold trn zQ subP; simp only; rw [e1,e2]; grind
  have:=Rat.mul_pos (show 0 < -t by grind) s2
  grind
 have zA0:0 < t:=by
  refine Classical.byContradiction fun c0 => xc ?_
  have:t = 0:=by grind
  rw [Prod.ext_iff,e1,e2,this]; constructor <;> grind
 have zA1:0 < 1 - t:=by
  refine Classical.byContradiction fun c0 => xn ?_
  have:t = 1:=by grind
  rw [Prod.ext_iff,e1,e2,this]; constructor <;> grind
 have g1:trn x y c = t * -zQ (subP y x) (subP n c):=by unfold trn zQ subP; simp only; rw [e1,e2]; grind
 have g2:trn x y n = (1 - t) * zQ (subP y x) (subP n c):=by unfold trn zQ subP; simp only; rw [e1,e2]; grind
 have g3:trn z x c = t * -zQ (subP x z) (subP n c):=by unfold trn zQ subP; simp only; rw [e1,e2]; grind
 have g4:trn z x n = (1 - t) * zQ (subP x z) (subP n c):=by unfold trn zQ subP; simp only; rw [e1,e2]; grind
 have f1:=bW zA0 (g1 ▸ w3)
 have f2:=bW zA1 (g2 ▸ w4)
 have f3:=bW zA0 (g3 ▸ w5)
 have f4:=bW zA1 (g4 ▸ w6)
 have z1:zQ (subP y x) (subP n c) = 0:=by grind
 have z2:zQ (subP x z) (subP n c) = 0:=by grind
 have z3:∀ k:Rat,(n.1 - c.1 = 0 → n.2 - c.2 = 0 → False) → k * (n.1 - c.1) = 0 → k * (n.2 - c.2) = 0 → k = 0:=fun k hh a b => by
  rcases Rat.mul_eq_zero.1 a with a | a
  ·exact a
  ·rcases Rat.mul_eq_zero.1 b with b | b
   ·exact b
   ·exact (hh a b).elim
 have:trn z x y = 0:=z3 _ (fun a b => cn (Prod.ext_iff.2 ⟨by grind,by grind⟩)) (by unfold trn zQ subP at *; simp only at *; grind) (by unfold trn zQ subP at *; simp only at *; grind)
 grind
theorem sup_two {h:List P2} {q:P2} (h2:h.length = 2) (hq:Sup h q):trn (gp h 0) (gp h 1) q = 0:=by
 match h,h2 with
 | [a,b],_ =>
  have k1:=qS (s:=a) (t:=b) (fun c hc => by
   rcases List.mem_cons.1 hc with rfl | hc
   ·unfold trn zQ subP; simp only; grind
   ·rw [List.mem_singleton.1 hc]; unfold trn zQ subP; simp only; grind) hq
  have k2:=qS (s:=b) (t:=a) (fun c hc => by
   rcases List.mem_cons.1 hc with rfl | hc
   ·unfold trn zQ subP; simp only; grind
   ·rw [List.mem_singleton.1 hc]; unfold trn zQ subP; simp only; grind) hq
  show trn a b q = 0
  unfold trn zQ subP at *; simp only at *; grind
theorem tA {h h':List P2} (p:Poly h) (hs:∀ c ∈ h,Sup h' c) (hs':∀ c ∈ h',Sup h c) {c:P2} (hc:c ∈ h):c ∈ h':=by
 -- a way in which c alone is the furthest
 rcases Nat.lt_or_ge 2 h.length with h3 | h3
 ·obtain ⟨i,hi,rfl⟩:=iC hc
  obtain ⟨j,hj,e⟩:=fB hi
  have w1:=p.weak hi h3
  have w2:=p.weak hj h3
  have k3:=p.conv h3 j ((i + 1) % h.length) hj (kD hi) (fun e2 => by
   have h6:(j + 1) % h.length = i:=e
   rw [← e2] at h6
   rcases Nat.lt_or_ge (i + 1) h.length with c | c
   ·rw [Nat.mod_eq_of_lt c] at h6
    rcases Nat.lt_or_ge (i + 1 + 1) h.length with d | d
    ·rw [Nat.mod_eq_of_lt d] at h6; omega
    ·rw [show i + 1 + 1 = h.length by omega,Nat.mod_self] at h6; omega
   ·rw [show i + 1 = h.length by omega,Nat.mod_self,Nat.mod_eq_of_lt (by omega)] at h6; omega) (by rw [e]; exact dO hi (by omega))
  unfold nx at *
  rw [e] at w2 k3
  have hs0:=hs _ hc
  generalize gp h i = c at *
  generalize gp h ((i + 1) % h.length) = n at *
  generalize gp h j = r at *
  obtain ⟨q,hq,h1⟩:=hs0 ((n.2 - c.2) + (c.2 - r.2)) (-((n.1 - c.1) + (c.1 - r.1)))
  have b1:=qS w1 (hs' q hq)
  have b2:=qS w2 (hs' q hq)
  have z1:trn c n q = 0:=by unfold trn zQ subP at *; simp only at *; grind
  have z2:trn r c q = 0:=by unfold trn zQ subP at *; simp only at *; grind
  have e1:trn r c n * (q.1 - c.1) = 0:=by unfold trn zQ subP at *; simp only at *; grind
  have e2:trn r c n * (q.2 - c.2) = 0:=by unfold trn zQ subP at *; simp only at *; grind
  have:q = c:=by
   rcases Rat.mul_eq_zero.1 e1 with f | f
   ·grind
   rcases Rat.mul_eq_zero.1 e2 with g | g
   ·grind
   exact Prod.ext_iff.2 ⟨by grind,by grind⟩
  exact this ▸ hq
 ·match h,p,hc,hs,hs',h3 with
  | [a],p,hc,hs,hs',_ =>
   obtain rfl:=List.mem_singleton.1 hc
   obtain ⟨q,hq,_⟩:=hs c (by simp) 0 0
   have hS:=hs' q hq
   have g:∀ u v:Rat,u * q.1 + v * q.2 ≤ u * c.1 + v * c.2:=fun u v => by
    obtain ⟨x,hx,h1⟩:=hS u v
    rw [List.mem_singleton.1 hx] at h1; exact h1
   have g1:=g 1 0; have g2:=g (-1) 0; have g3:=g 0 1; have g4:=g 0 (-1)
   have:q = c:=Prod.ext_iff.2 ⟨by grind,by grind⟩
   exact this ▸ hq
  | [a,b],p,hc,hs,hs',_ =>
   have hab:a ≠ b:=by have:=p.nd; simp at this; exact this
   have hz:=fun q hq => sup_two rfl (hs' q hq)
   simp only [gp,List.getD_cons_zero,List.getD_cons_succ] at hz
   have key:∀ c d:P2,c ≠ d → (∀ x ∈ [a,b],x = c ∨ x = d) → c ∈ [a,b] → (∀ q ∈ h',trn c d q = 0) → c ∈ h':=fun c d hcd hx hc hz => by
    have hd:0 < (c.1 - d.1) * (c.1 - d.1) + (c.2 - d.2) * (c.2 - d.2):=by
     have s1:∀ x:Rat,0 ≤ x * x:=fun x => by
      rcases (Rat.le_total:0 ≤ x ∨ x ≤ 0) with hx | hx
      ·exact Rat.mul_nonneg hx hx
      ·have:=Rat.mul_nonneg (show 0 ≤ -x by grind) (show 0 ≤ -x by grind); grind
     have s2:=s1 (c.1 - d.1); have s3:=s1 (c.2 - d.2)
     refine Classical.byContradiction fun c0 => hcd ?_
     have z1:(c.1 - d.1) * (c.1 - d.1) = 0:=by grind
     have z2:(c.2 - d.2) * (c.2 - d.2) = 0:=by grind
     exact Prod.ext_iff.2 ⟨by rcases Rat.mul_eq_zero.1 z1 with h | h <;> grind,by rcases Rat.mul_eq_zero.1 z2 with h | h <;> grind⟩
    obtain ⟨q,hq,h1⟩:=hs c hc (c.1 - d.1) (c.2 - d.2)
    obtain ⟨x,hx',h2⟩:=hs' q hq (c.1 - d.1) (c.2 - d.2)
    have h3:(c.1 - d.1) * q.1 + (c.2 - d.2) * q.2 ≤ (c.1 - d.1) * c.1 + (c.2 - d.2) * c.2:=by
     rcases hx x hx' with rfl | rfl <;> grind
    obtain ⟨t,e1,e2⟩:=eN (hz q hq) hcd
    rw [e1,e2] at h1 h3
    have z:t * ((c.1 - d.1) * (c.1 - d.1) + (c.2 - d.2) * (c.2 - d.2)) = 0:=by grind
    have:q = c:=by
     rcases Rat.mul_eq_zero.1 z with z | z
     ·exact Prod.ext_iff.2 ⟨by rw [e1,z]; grind,by rw [e2,z]; grind⟩
     ·grind
    exact this ▸ hq
   rcases List.mem_cons.1 hc with rfl | hc
   ·exact key c b hab (fun x hx => by simpa using hx) (by simp) hz
   ·obtain rfl:=List.mem_singleton.1 hc
    exact key c a (Ne.symm hab) (fun x hx => by simp at hx; exact hx.symm) (by simp) fun q hq => by
     have:=hz q hq; unfold trn zQ subP at *; simp only at *; grind
theorem len_eq {h h':List P2} (nd:h.Nodup) (nd':h'.Nodup) (e:∀ c,c ∈ h ↔ c ∈ h'):h.length = h'.length :=
 Nat.le_antisymm (cG nd fun x hx => (e x).1 hx) (cG nd' fun x hx => (e x).2 hx)
theorem poly_uniq {h h':List P2} (p:Poly h) (p':Poly h') (hs:∀ c ∈ h,Sup h' c) (hs':∀ c ∈ h',Sup h c):h = h':=by
 have e:∀ c,c ∈ h ↔ c ∈ h':=fun c => ⟨tA p hs hs',tA p' hs' hs⟩
 have hl:=len_eq p.nd p'.nd e
 have h0:0 < h.length → gp h 0 = gp h' 0:=fun k => uL (p.fst _ ((e _).2 (kQ (by omega)))) (p'.fst _ ((e _).1 (kQ k)))
 have hi:∀ i,i < h.length → gp h i = gp h' i:=fun i => by
  induction i with
  | zero => exact h0
  | succ i ih =>
   intro hi
   have ei:=ih (by omega)
   rcases Nat.lt_or_ge 2 h.length with h3 | h3
   ·obtain ⟨k,hk,ek⟩:=iC ((e _).1 (kQ hi))
    have w:=p.weak (i:=i) (by omega) h3 _ ((e _).2 (kQ (h:=h') (i:=i + 1) (by omega)))
    have m1:(i + 1) % h.length = i + 1:=Nat.mod_eq_of_lt hi
    have m2:(i + 1) % h'.length = i + 1:=Nat.mod_eq_of_lt (by omega)
    by_cases c1:k = i + 1
    ·rw [← ek,c1]
    ·have c2:k ≠ i:=fun c => by
      have:=dE p.nd hi (show i < h.length by omega) (by rw [ei,← ek,c])
      omega
     have s:=p'.conv (by omega) i k (by omega) hk c2 (by rw [m2]; exact c1)
     unfold nx at w s
     rw [m1] at w; rw [m2,ek,← ei] at s
     unfold trn zQ subP at *; simp only at *; grind
   ·obtain ⟨k,hk,ek⟩:=iC ((e _).1 (kQ hi))
    have c2:k ≠ i:=fun c => by
     have:=dE p.nd hi (show i < h.length by omega) (by rw [ei,← ek,c])
     omega
    rw [← ek,show k = i + 1 by omega]
 refine List.ext_getElem hl fun i h1 h2 => ?_
 have:=hi i h1
 unfold gp at this
 rw [List.getD_eq_getElem?_getD,List.getD_eq_getElem?_getD,List.getElem?_eq_getElem h1,List.getElem?_eq_getElem h2] at this
 exact this
structure IsHull (l h:List P2):Prop where
 poly:Poly h
 sub:∀ c ∈ h,c ∈ l
 sup:∀ q ∈ l,Sup h q
theorem hull_uniq {l l' h h':List P2} (a:IsHull l h) (b:IsHull l' h') (e1:∀ q ∈ l,Sup l' q) (e2:∀ q ∈ l',Sup l q):h = h' :=
 poly_uniq a.poly b.poly (fun c hc => oS b.sup (e1 c (a.sub c hc))) fun c hc => oS a.sup (e2 c (b.sub c hc))
theorem nodup_rev {α:Type} {l:List α}:l.reverse.Nodup ↔ l.Nodup:=by
 unfold List.Nodup; rw [List.pairwise_reverse]
 exact ⟨fun h => h.imp Ne.symm,fun h => h.imp Ne.symm⟩
theorem tQ {q:P2}:∀ (X:List P2) (m:P2) (Y:List P2),aF q (X ++ [m]) → aF q (m :: Y) → aF q (X ++ m :: Y)
 | [],_,_,_,h => h
 | [_],_,_,h,k => ⟨h.1,k⟩
 | _ :: y :: X,m,Y,h,k => ⟨h.1,tQ (y :: X) m Y h.2 k⟩
theorem bF {q:P2}:∀ (X Y:List P2),aF q (X ++ Y) → aF q Y
 | [],_,h => h
 | [x],[],_ => trivial
 | [x],y :: Y,h => h.2
 | x :: y :: X,Y,h => bF (y :: X) Y h.2
theorem lM:∀ (X Y:List P2),qK (X ++ Y) → qK Y
 | [],_,h => h
 | [x],[],_ => trivial
 | [x],[_],_ => trivial
 | [x],_ :: _ :: _,h => h.2
 | [x,y],[],_ => trivial
 | [x,y],_ :: Y,h => lM [y] _ h.2
 | x :: y :: z :: X,Y,h => lM (y :: z :: X) Y h.2
theorem oQ:∀ (X:List P2) (b m a:P2) (Y:List P2),qK (X ++ [b,m]) → qK (m :: a :: Y) → 0 < trn a m b → qK (X ++ b :: m :: a :: Y)
 | [],_,_,_,_,_,h,k => ⟨k,h⟩
 | [x],b,m,a,Y,g,h,k => ⟨g.1,k,h⟩
 | [x,y],b,m,a,Y,g,h,k => ⟨g.1,g.2.1,k,h⟩
 | x :: y :: z :: X,b,m,a,Y,g,h,k => ⟨g.1,oQ (y :: z :: X) b m a Y g.2 h k⟩
theorem zL3 {q:P2}:∀ (C:List P2) (j:Nat),aF q C → j + 1 < C.length → 0 ≤ trn (gp C (j + 1)) (gp C j) q
 | [],_,_,h => by simp at h
 | [_],_,_,h => by simp at h
 | _ :: _ :: _,0,h,_ => h.1
 | t :: s :: r,j + 1,h,hj => zL3 (s :: r) j h.2 (by simp only [List.length_cons] at hj ⊢; omega)
theorem wS:∀ (C:List P2) (j:Nat),qK C → j + 2 < C.length → 0 < trn (gp C (j + 2)) (gp C (j + 1)) (gp C j)
 | [],_,_,h => by simp at h
 | [_],_,_,h => by simp at h
 | [_,_],_,_,h => by simp only [List.length_cons,List.length_nil] at h; omega
 | _ :: _ :: _ :: _,0,h,_ => h.1
 | u :: t :: s :: r,j + 1,h,hj => wS (t :: s :: r) j h.2 (by simp only [List.length_cons] at hj ⊢; omega)
theorem deg {l:List P2} {a m b:P2} (hm:∀ q ∈ l,leP q m) (ha:ltP a m) (hb:ltP b m) (h0:trn a m b = 0) (h1:∀ q ∈ l,0 ≤ trn a m q) (h2:∀ q ∈ l,0 ≤ trn m b q) :
  ∀ x ∈ l,∀ y ∈ l,∀ z ∈ l,trn x y z = 0:=by
 have k0:0 ≤ zQ (subP m a) (subP m b):=by unfold trn zQ subP at *; simp only at *; grind
 have kz:∀ q ∈ l,zQ (subP m a) (subP m q) = 0:=fun q hq => by
  have a1:=h1 q hq; have a2:=h2 q hq
  have:=oR (lexP.le ha) hb (iD.1 (hm q hq)) k0 (by unfold trn zQ subP at *; simp only at *; grind)
  unfold trn zQ subP at *; simp only at *; grind
 have kk:∀ x ∈ l,∀ y ∈ l,0 ≤ zQ (subP m x) (subP m y):=fun x hx y hy => oR (iD.1 (hm x hx)) ha (iD.1 (hm y hy)) (by have:=kz x hx; unfold zQ subP at *; simp only at *; grind) (by rw [kz y hy]; exact Rat.le_refl)
 intro x hx y hy z hz
 have b1:=kk x hx y hy; have b2:=kk y hy x hx; have b3:=kk y hy z hz; have b4:=kk z hz y hy; have b5:=kk x hx z hz; have b6:=kk z hz x hx
 unfold trn zQ subP at *; simp only at *; grind
theorem apart3 {l:List P2} {a b c a' b':P2} (hb':b' ∈ l) (hb:b ∈ l) (h1:ltP a c) (h2:ltP c b) (h3:0 < trn a c b) (h4:∀ q ∈ l,0 ≤ trn a c q) (g1:ltP b' c) (g2:∀ q ∈ l,0 ≤ trn c b' q):False:=by
 have k1:=h4 b' hb'
 have k2:=g2 b hb
 have:=tr_gp (a:=subP c b') (b:=subP c a) (c:=subP b c) g1 h1 (lexP.le h2) (by unfold trn zQ subP at *; simp only at *; grind) (by unfold trn zQ subP at *; simp only at *; grind)
 unfold trn zQ subP at *; simp only at *; grind
theorem fJ {α:Type} {l:List α} (h:l ≠ []):∃ r x,l = r ++ [x]:=⟨_,_,(List.dropLast_concat_getLast h).symm⟩
def qT (l:List P2):List P2:=if l.length < 3 then l else (xX [] l).reverse.dropLast ++ (xX [] l.reverse).reverse.dropLast
theorem two_sup {a b q:P2} (hab:ltP a b) (h0:trn a b q = 0) (h1:leP a q) (h2:leP q b):Sup [a,b] q:=fun u v => by
 obtain ⟨t,e1,e2⟩:=eN h0 hab.ne
 have ht0:0 ≤ t:=by
  refine Classical.byContradiction fun c => ?_
  have c:0 < -t:=by grind
  unfold ltP lexP subP leP at *; simp only at *
  rcases hab with hab | ⟨hab,hb2⟩
  ·have:=Rat.mul_pos c hab; grind
  ·have:=Rat.mul_pos c hb2; grind
 have ht1:0 ≤ 1 - t:=by
  refine Classical.byContradiction fun c => ?_
  have c:0 < t - 1:=by grind
  unfold ltP lexP subP leP at *; simp only at *
  rcases hab with hab | ⟨hab,hb2⟩
  ·have:=Rat.mul_pos c hab; grind
  ·have:=Rat.mul_pos c hb2; grind
 by_cases c:u * a.1 + v * a.2 ≤ u * b.1 + v * b.2
 ·refine ⟨b,by simp,?_⟩
  rw [e1,e2]
  have:=Rat.mul_nonneg ht1 (show 0 ≤ (u * b.1 + v * b.2) - (u * a.1 + v * a.2) by grind)
  grind
 ·refine ⟨a,by simp,?_⟩
  rw [e1,e2]
  have:=Rat.mul_nonneg ht0 (show 0 ≤ (u * a.1 + v * a.2) - (u * b.1 + v * b.2) by grind)
  grind
theorem fL {l:List P2} (h2:2 ≤ l.length) (hs:l.Pairwise ltP):∃ mn mx A B,ChOk l (mx :: (A ++ [mn])) ∧ ChOk' l (mn :: (B ++ [mx])) ∧ qT l = mn :: (A.reverse ++ mx :: B.reverse) ∧ mn ∈ l ∧ mx ∈ l ∧ ltP mn mx ∧ (∀ q ∈ l,leP q mx) ∧ (∀ q ∈ l,leP mn q) ∧ xX [] l = mx :: (A ++ [mn]) ∧ xX [] l.reverse = mn :: (B ++ [mx]):=by
 have hne:l ≠ []:=fun e => by rw [e] at h2; simp at h2
 have hS:qT l = (xX [] l).reverse.dropLast ++ (xX [] l.reverse).reverse.dropLast:=by
  unfold qT; split
  ·match l,h2 with
   | [p,q],_ => simp [xX,gR]
   | _ :: _ :: _ :: _,_ => rename_i h; simp at h; omega
  ·rfl
 have cl:=zZ9 hne hs
 have ch:=ch_ok' hne hs
 generalize eL:xX [] l = L at *
 generalize eH:xX [] l.reverse = H at *
 obtain ⟨mx,L1,rfl⟩:=List.exists_cons_of_ne_nil cl.ne
 obtain ⟨mn,H1,rfl⟩:=List.exists_cons_of_ne_nil ch.ne
 have hmx:∀ q ∈ l,leP q mx:=fun q hq => cl.top q hq mx rfl
 have hmn:∀ q ∈ l,leP mn q:=fun q hq => ch.top q hq mn rfl
 have mxl:=cl.sub mx (by simp)
 have mnl:=ch.sub mn (by simp)
 have hlt:ltP mn mx:=by
  refine tN (hmx mn mnl) fun e => ?_
  match l,hs,h2,hmx,hmn with
  | p :: p2 :: r,hs,h3,hmx,hmn =>
   have h1:=(List.pairwise_cons.1 hs).1 p2 (by simp)
   have h4:=uL (fI (hmx p2 (by simp)) (e ▸ hmn p (by simp))) h1.le
   exact h1.ne h4.symm
  | [p],_,h3,_,_ => simp at h3
 have l1:L1 ≠ []:=fun e => by
  subst e
  exact hlt.ne (uL hlt.le (cl.bot mn mnl mx rfl))
 have h1:H1 ≠ []:=fun e => by
  subst e
  exact hlt.ne (uL hlt.le (ch.bot mx mxl mn rfl))
 obtain ⟨A,z,rfl⟩:=fJ l1
 obtain ⟨B,y,rfl⟩:=fJ h1
 have ez:z = mn:=uL (cl.bot mn mnl z (by rw [← List.cons_append,List.getLast?_concat])) (hmn z (cl.sub z (by simp)))
 have ey:y = mx:=uL (hmx y (ch.sub y (by simp))) (ch.bot mx mxl y (by rw [← List.cons_append,List.getLast?_concat]))
 subst ez ey
 exact ⟨_,_,A,B,cl,ch,by rw [hS,show (y :: (A ++ [z])).reverse = (z :: A.reverse) ++ [y] by simp,show (z :: (B ++ [y])).reverse = (y :: B.reverse) ++ [z] by simp,List.dropLast_concat,List.dropLast_concat]; rfl,mnl,mxl,hlt,hmx,hmn,rfl,rfl⟩
theorem hullS_ok {l:List P2} (hs:l.Pairwise ltP):IsHull l (qT l):=by
 have hnd:l.Nodup:=hs.imp fun h => ltP.ne h
 by_cases h3:l.length < 2
 ·have e:qT l = l:=by unfold qT; rw [if_pos (by omega)]
  rw [e]
  refine ⟨⟨fun c hc => ?_,hnd,fun h => by omega⟩,fun _ h => h,fun q hq => iJ hq⟩
  match l,hs,hc with
  | p :: r,hs,hc =>
   rcases List.mem_cons.1 hc with rfl | hc
   ·exact eO _
   ·exact ((List.pairwise_cons.1 hs).1 c hc).le
 obtain ⟨mn,mx,A,B,cl,ch,eS,mnl,mxl,hlt,hmx,hmn,_⟩:=fL (by omega) hs
 rw [eS]
 have sub:∀ c ∈ mn :: (A.reverse ++ mx :: B.reverse),c ∈ l:=fun c hc => by
  simp only [List.mem_cons,List.mem_append,List.mem_reverse] at hc
  rcases hc with rfl | hc | rfl | hc
  ·exact mnl
  ·exact cl.sub c (by simp [hc])
  ·exact mxl
  ·exact ch.sub c (by simp [hc])
 have dL:=cl.dec
 have dH:=ch.dec
 have nd:(mn :: (A.reverse ++ mx :: B.reverse)).Nodup:=by
  have n1:(mx :: (A ++ [mn])).Nodup:=dL.imp fun h => (ltP.ne h).symm
  have n2:(mn :: (B ++ [mx])).Nodup:=dH.imp fun h => ltP.ne h
  have n3:∀ c,c ∈ A → c ∈ B → False:=fun c hA hB => by
   obtain ⟨A1,A2,rfl⟩:=List.append_of_mem hA
   obtain ⟨B1,B2,rfl⟩:=List.append_of_mem hB
   obtain ⟨r1,b,e1⟩:=fJ (l:=mx :: A1) (by simp)
   obtain ⟨r2,b',e2⟩:=fJ (l:=mn :: B1) (by simp)
   obtain ⟨a,s1,e3⟩:=List.exists_cons_of_ne_nil (l:=A2 ++ [mn]) (by simp)
   obtain ⟨a',s2,e4⟩:=List.exists_cons_of_ne_nil (l:=B2 ++ [mx]) (by simp)
   have E1:mx :: ((A1 ++ c :: A2) ++ [mn]) = r1 ++ b :: c :: a :: s1:=by
    rw [show mx :: ((A1 ++ c :: A2) ++ [mn]) = (mx :: A1) ++ c :: (A2 ++ [mn]) by simp,e1,e3]; simp
   have E2:mn :: ((B1 ++ c :: B2) ++ [mx]) = r2 ++ b' :: c :: a' :: s2:=by
    rw [show mn :: ((B1 ++ c :: B2) ++ [mx]) = (mn :: B1) ++ c :: (B2 ++ [mx]) by simp,e2,e4]; simp
   rw [E1] at cl dL
   rw [E2] at ch dH
   have p1:=List.pairwise_cons.1 (List.pairwise_append.1 dL).2.1
   have p2:=List.pairwise_cons.1 (List.pairwise_append.1 dH).2.1
   exact apart3 (l:=l) (a:=a) (b:=b) (c:=c) (a':=a') (b':=b') (ch.sub b' (by simp)) (cl.sub b (by simp)) ((List.pairwise_cons.1 p1.2).1 a (by simp)) (p1.1 c (by simp)) (lM r1 _ cl.trs).1 (fun q hq => (bF r1 _ (cl.lef q hq)).2.1) (p2.1 c (by simp)) fun q hq => (bF r2 _ (ch.lef q hq)).1
  simp only [List.nodup_cons,List.mem_append,List.mem_cons,List.mem_reverse,List.nodup_append,nodup_rev,List.mem_singleton,List.not_mem_nil,not_false_eq_true,List.nodup_nil,true_and,and_true] at n1 n2 ⊢
  grind
 have fst:∀ c ∈ mn :: (A.reverse ++ mx :: B.reverse),leP (gp (mn :: (A.reverse ++ mx :: B.reverse)) 0) c:=fun c hc => hmn c (sub c hc)
 by_cases hAB:A = [] ∧ B = []
 ·obtain ⟨rfl,rfl⟩:=hAB
  refine ⟨⟨fst,nd,fun h => absurd h (by simp)⟩,sub,fun q hq => two_sup hlt ?_ (hmn q hq) (hmx q hq)⟩
  have a1:0 ≤ trn mn mx q:=(cl.lef q hq).1
  have a2:0 ≤ trn mx mn q:=(ch.lef q hq).1
  unfold trn zQ subP at *; simp only at *; grind
 have hn3:3 ≤ (mn :: (A.reverse ++ mx :: B.reverse)).length:=by
  simp only [List.length_cons,List.length_append,List.length_reverse]
  rcases A with _ | ⟨a,A⟩
  ·rcases B with _ | ⟨b,B⟩
   ·exact absurd ⟨rfl,rfl⟩ hAB
   ·simp only [List.length_cons,List.length_nil]; omega
  ·simp only [List.length_cons]; omega
 obtain ⟨r1,b1,e1⟩:=fJ (l:=mx :: A) (by simp)
 obtain ⟨r2,b2,e2⟩:=fJ (l:=mn :: B) (by simp)
 obtain ⟨a1,s1,e3⟩:=List.exists_cons_of_ne_nil (l:=A ++ [mn]) (by simp)
 obtain ⟨a2,s2,e4⟩:=List.exists_cons_of_ne_nil (l:=B ++ [mx]) (by simp)
 have EL1:mx :: (A ++ [mn]) = r1 ++ [b1,mn]:=by rw [← List.cons_append,e1]; simp
 have EL2:mx :: (A ++ [mn]) = mx :: a1 :: s1:=by rw [e3]
 have EH1:mn :: (B ++ [mx]) = r2 ++ [b2,mx]:=by rw [← List.cons_append,e2]; simp
 have EH2:mn :: (B ++ [mx]) = mn :: a2 :: s2:=by rw [e4]
 have ndeg:¬ ∀ x ∈ l,∀ y ∈ l,∀ z ∈ l,trn x y z = 0:=fun hd => by
  rcases A with _ | ⟨a,A⟩
  ·rcases B with _ | ⟨b,B⟩
   ·exact hAB ⟨rfl,rfl⟩
   ·obtain ⟨c,s,e⟩:=List.exists_cons_of_ne_nil (l:=B ++ [mx]) (by simp)
    have t:=ch.trs
    have s':=ch.sub
    rw [List.cons_append,e] at t s'
    have:=hd c (s' c (by simp)) b (s' b (by simp)) mn (s' mn (by simp))
    have:=t.1; grind
  ·obtain ⟨c,s,e⟩:=List.exists_cons_of_ne_nil (l:=A ++ [mn]) (by simp)
   have t:=cl.trs
   have s':=cl.sub
   rw [List.cons_append,e] at t s'
   have:=hd c (s' c (by simp)) a (s' a (by simp)) mx (s' mx (by simp))
   have:=t.1; grind
 have sb1:=cl.sub b1 (by rw [EL1]; simp)
 have sb2:=ch.sub b2 (by rw [EH1]; simp)
 have sa1:=cl.sub a1 (by rw [EL2]; simp)
 have sa2:=ch.sub a2 (by rw [EH2]; simp)
 have la1:ltP a1 mx:=by rw [EL2] at dL; exact (List.pairwise_cons.1 dL).1 a1 (by simp)
 have lb1:ltP mn b1:=by rw [EL1] at dL; exact (List.pairwise_cons.1 (List.pairwise_append.1 dL).2.1).1 mn (by simp)
 have la2:ltP mn a2:=by rw [EH2] at dH; exact (List.pairwise_cons.1 dH).1 a2 (by simp)
 have lb2:ltP b2 mx:=by rw [EH1] at dH; exact (List.pairwise_cons.1 (List.pairwise_append.1 dH).2.1).1 mx (by simp)
 have fa1:∀ q ∈ l,0 ≤ trn a1 mx q:=fun q hq => by have:=cl.lef q hq; rw [EL2] at this; exact this.1
 have fb1:∀ q ∈ l,0 ≤ trn mn b1 q:=fun q hq => by have:=cl.lef q hq; rw [EL1] at this; exact (bF r1 _ this).1
 have fa2:∀ q ∈ l,0 ≤ trn a2 mn q:=fun q hq => by have:=ch.lef q hq; rw [EH2] at this; exact this.1
 have fb2:∀ q ∈ l,0 ≤ trn mx b2 q:=fun q hq => by have:=ch.lef q hq; rw [EH1] at this; exact (bF r2 _ this).1
 have jmx:0 < trn a1 mx b2:=by
  have:=fa1 b2 sb2
  refine Classical.byContradiction fun c => ndeg (deg hmx la1 lb2 (by grind) fa1 fb2)
 have jmn:0 < trn a2 mn b1:=by
  have:=fa2 b1 sb1
  refine Classical.byContradiction fun c => ndeg ?_
  have hd:=deg (l:=l.map negP) (a:=negP a2) (m:=negP mn) (b:=negP b1) (fun q hq => by obtain ⟨x,hx,rfl⟩:=List.mem_map.1 hq; exact oD.2 (hmn x hx)) (oA.2 la2) (oA.2 lb1) (by rw [cP]; grind)
   (fun q hq => by obtain ⟨x,hx,rfl⟩:=List.mem_map.1 hq; rw [cP]; exact fa2 x hx) (fun q hq => by obtain ⟨x,hx,rfl⟩:=List.mem_map.1 hq; rw [cP]; exact fb1 x hx)
  intro x hx y hy z hz
  rw [← cP]
  exact hd _ (List.mem_map.2 ⟨x,hx,rfl⟩) _ (List.mem_map.2 ⟨y,hy,rfl⟩) _ (List.mem_map.2 ⟨z,hz,rfl⟩)
 -- the way round,backwards
 have lC:∀ q ∈ l,aF q (mn :: B ++ mx :: (A ++ [mn])):=fun q hq => tQ (mn :: B) mx _ (by have:=ch.lef q hq; simpa using this) (cl.lef q hq)
 have tC:qK (mn :: B ++ mx :: (A ++ [mn])):=by
  have zA1:=ch.trs; have zA2:=cl.trs
  rw [EH1] at zA1; rw [EL2] at zA2
  rw [e2,e3,List.append_assoc]
  exact oQ r2 b2 mx a1 s1 zA1 zA2 jmx
 have hC:(mn :: B ++ mx :: (A ++ [mn])).length = (mn :: (A.reverse ++ mx :: B.reverse)).length + 1:=by simp; omega
 have eC:mn :: (A.reverse ++ mx :: B.reverse) = (mn :: B ++ mx :: (A ++ [mn])).tail.reverse:=by simp
 have c1:gp (mn :: B ++ mx :: (A ++ [mn])) 1 = a2:=by
  rw [show mn :: B ++ mx :: (A ++ [mn]) = (mn :: (B ++ [mx])) ++ (A ++ [mn]) by simp,EH2]; rfl
 have c2:gp (mn :: B ++ mx :: (A ++ [mn])) 0 = mn:=rfl
 have c3:gp (mn :: B ++ mx :: (A ++ [mn])) ((mn :: (A.reverse ++ mx :: B.reverse)).length - 1) = b1:=by
  rw [show mn :: B ++ mx :: (A ++ [mn]) = (mn :: B) ++ (mx :: (A ++ [mn])) by simp,EL1,← List.append_assoc,gp,List.getD_eq_getElem?_getD,List.getElem?_append_right (by have:=congrArg List.length EL1; simp at this ⊢; omega)]
  have:(mn :: (A.reverse ++ mx :: B.reverse)).length - 1 - (mn :: B ++ r1).length = 0:=by have:=congrArg List.length EL1; simp at this ⊢; omega
  rw [this]; rfl
 generalize mn :: B ++ mx :: (A ++ [mn]) = C at *
 generalize hh:mn :: (A.reverse ++ mx :: B.reverse) = h at *
 have c4:gp h 0 = mn:=by rw [← hh]; rfl
 have g1:∀ i,i < h.length → gp h i = gp C (h.length - i):=fun i hi => by
  have ht:C.tail.length = h.length:=by rw [List.length_tail]; omega
  have:gp h i = gp C.tail (C.tail.length - 1 - i):=by
   conv => lhs; rw [eC]
   unfold gp
   rw [List.getD_eq_getElem?_getD,List.getD_eq_getElem?_getD,List.getElem?_reverse (by omega)]
  rw [this,ht]
  unfold gp
  rw [List.getD_eq_getElem?_getD,List.getD_eq_getElem?_getD,List.getElem?_tail,show h.length - 1 - i + 1 = h.length - i by omega]
 have g2:∀ i,i < h.length → nx h i = gp C (h.length - 1 - i):=fun i hi => by
  unfold nx
  rcases Nat.lt_or_ge (i + 1) h.length with c | c
  ·rw [Nat.mod_eq_of_lt c,g1 _ c,show h.length - (i + 1) = h.length - 1 - i by omega]
  ·rw [show i + 1 = h.length by omega,Nat.mod_self,c4,show h.length - 1 - i = 0 by omega,c2]
 have weak:∀ i,i < h.length → ∀ q ∈ l,0 ≤ trn (gp h i) (nx h i) q:=fun i hi q hq => by
  have:=zL3 C (h.length - 1 - i) (lC q hq) (by omega)
  rw [show h.length - 1 - i + 1 = h.length - i by omega] at this
  rw [g1 i hi,g2 i hi]; exact this
 have turn:∀ i,i < h.length → 0 < trn (gp h i) (nx h i) (nx h ((i + 1) % h.length)):=fun i hi => by
  rcases Nat.lt_or_ge (i + 1) h.length with c | c
  ·have:=wS C (h.length - 2 - i) tC (by omega)
   rw [Nat.mod_eq_of_lt c,g1 i hi,g2 i hi,g2 _ c,show h.length - 1 - (i + 1) = h.length - 2 - i by omega,show h.length - 1 - i = h.length - 2 - i + 1 by omega,show h.length - i = h.length - 2 - i + 2 by omega]
   exact this
  ·have e:i = h.length - 1:=by omega
   rw [show i + 1 = h.length by omega,Nat.mod_self,g1 i hi,g2 i hi,g2 0 (by omega),e,show h.length - (h.length - 1) = 1 by omega,show h.length - 1 - (h.length - 1) = 0 by omega,Nat.sub_zero,c1,c2,c3]
   exact jmn
 have po:Poly h:=⟨fst,nd,fun h3 => conv_of nd h3 (fun i k hi hk => weak i hi _ (sub _ (kQ hk))) turn⟩
 exact ⟨po,sub,fun q hq => sup_of_left po hn3 fun i hi => weak i hi q hq⟩
def xP (d:P2):Int:=if 0 < d.1 then 0 else if d.1 = 0 ∧ 0 < d.2 then 1 else if d.1 < 0 then 2 else 3
def gT (a b:P2):Bool:=if xP a ≠ xP b then decide (xP a < xP b) else decide (0 < zQ a b)
def lexN (v:P2):Prop:=v.1 < 0 ∨ v.1 = 0 ∧ v.2 < 0
theorem qt0 {d:P2} (h:0 < d.1):xP d = 0:=if_pos h
theorem qt1 {d:P2} (h:d.1 = 0) (k:0 < d.2):xP d = 1:=by unfold xP; rw [if_neg (by grind),if_pos ⟨h,k⟩]
theorem qt2 {d:P2} (h:d.1 < 0):xP d = 2:=by unfold xP; rw [if_neg (by grind),if_neg (by grind),if_pos h]
theorem qt3 {d:P2} (h:d.1 = 0) (k:d.2 < 0):xP d = 3:=by unfold xP; rw [if_neg (by grind),if_neg (by grind),if_neg (by grind)]
theorem dM {a b:P2} (h:xP a = xP b):gT a b = true ↔ 0 < zQ a b:=by
 unfold gT; rw [if_neg (by simp [h]),decide_eq_true_eq]
theorem kS {a b:P2} (h:xP a ≠ xP b):gT a b = true ↔ xP a < xP b:=by
 unfold gT; rw [if_pos h,decide_eq_true_eq]
theorem ahead_pp {a b:P2} (ha:lexP a) (hb:lexP b):gT a b = true ↔ 0 < zQ a b:=by
 rcases ha with ha | ⟨ha,ha2⟩ <;> rcases hb with hb | ⟨hb,hb2⟩
 ·exact dM ((qt0 ha).trans (qt0 hb).symm)
 ·have h:=Rat.mul_pos ha hb2
  rw [kS (by rw [qt0 ha,qt1 hb hb2]; decide),qt0 ha,qt1 hb hb2]
  unfold zQ; rw [hb]; exact iff_of_true (by decide) (by grind)
 ·have h:=Rat.mul_pos ha2 hb
  rw [kS (by rw [qt1 ha ha2,qt0 hb]; decide),qt1 ha ha2,qt0 hb]
  unfold zQ; rw [ha]; exact iff_of_false (by decide) (by grind)
 ·exact dM ((qt1 ha ha2).trans (qt1 hb hb2).symm)
theorem vL {a b:P2} (ha:lexP a) (hb:lexN b):gT a b = true ∧ gT b a = false:=by
 have h1:xP a = 0 ∨ xP a = 1:=by rcases ha with ha | ⟨ha,ha2⟩; exact .inl (qt0 ha); exact .inr (qt1 ha ha2)
 have h2:xP b = 2 ∨ xP b = 3:=by rcases hb with hb | ⟨hb,hb2⟩; exact .inl (qt2 hb); exact .inr (qt3 hb hb2)
 have h3:xP b ≠ xP a:=by omega
 refine ⟨(kS h3.symm).2 (by omega),?_⟩
 rw [Bool.eq_false_iff]; exact fun c => by have:=(kS h3).1 c; omega
theorem ahead_nn {a b:P2} (ha:lexN a) (hb:lexN b):gT a b = true ↔ 0 < zQ a b:=by
 have k:∀ x y:Rat,x < 0 → y < 0 → 0 < x * y:=fun x y hx hy => by
  have h:=Rat.mul_pos (show 0 < -x by grind) (show 0 < -y by grind)
  rw [Rat.neg_mul,Rat.mul_neg,Rat.neg_neg] at h; exact h
 rcases ha with ha | ⟨ha,ha2⟩ <;> rcases hb with hb | ⟨hb,hb2⟩
 ·exact dM ((qt2 ha).trans (qt2 hb).symm)
 ·have h:=k _ _ ha hb2
  clear k
  rw [kS (by rw [qt2 ha,qt3 hb hb2]; decide),qt2 ha,qt3 hb hb2]
  unfold zQ; rw [hb]; exact iff_of_true (by decide) (by grind)
 ·have h:=k _ _ ha2 hb
  clear k
  rw [kS (by rw [qt3 ha ha2,qt2 hb]; decide),qt3 ha ha2,qt2 hb]
  unfold zQ; rw [ha]; exact iff_of_false (by decide) (by grind)
 ·exact dM ((qt3 ha ha2).trans (qt3 hb hb2).symm)
def mrg:List P2 → List P2 → List P2
 | [],q => q
 | a :: p,[] => a :: p
 | a :: p,b :: q => if gT a b then a :: mrg p (b :: q) else b :: mrg (a :: p) q
termination_by p q => p.length + q.length
theorem rL (p:List P2):mrg p [] = p:=by cases p <;> simp [mrg]
theorem tM (q:List P2):mrg [] q = q:=by simp [mrg]
theorem zL0 (p q:List P2):(mrg p q).length = p.length + q.length:=by
 fun_induction mrg p q <;> simp_all <;> omega
theorem mrg_cut {p1 p2 q1 q2:List P2} (h1:∀ x ∈ p1,∀ y ∈ q2,gT x y = true) (h2:∀ y ∈ q1,∀ x ∈ p2,gT x y = false):mrg (p1 ++ p2) (q1 ++ q2) = mrg p1 q1 ++ mrg p2 q2:=by
 fun_induction mrg p1 q1 with
 | case1 q =>
  induction q with
  | nil => rfl
  | cons b q ih =>
   cases p2 with
   | nil => simp [mrg]
   | cons a p =>
    have:=h2 b (by simp) a (by simp)
    have ih':=ih fun y hy => h2 y (by simp [hy])
    simp only [List.nil_append,List.cons_append] at ih' ⊢
    rw [mrg,this,if_neg (by simp),ih']
 | case2 a p =>
  clear h2
  generalize ha:a :: p = p' at *
  clear ha
  induction p' with
  | nil => simp [mrg]
  | cons a p ih =>
   have ih':=ih fun x hx y hy => h1 x (by simp [hx]) y hy
   cases q2 with
   | nil => simp [rL]
   | cons b q =>
    have:=h1 a (by simp) b (by simp)
    simp only [List.nil_append,List.cons_append] at ih' ⊢
    rw [mrg,this,if_pos rfl,ih']
 | case3 a p b q h ih =>
  simp only [List.cons_append] at ih ⊢
  rw [mrg,if_pos h,ih (fun x hx y hy => h1 x (by simp [hx]) y hy) h2]
 | case4 a p b q h ih =>
  simp only [List.cons_append] at ih ⊢
  rw [mrg,if_neg h,ih h1 fun y hy x hx => h2 y (by simp [hy]) x hx]
def sumP:List P2 → P2
 | [] => (0,0)
 | e :: l => addP e (sumP l)
theorem nI (l m:List P2):sumP (l ++ m) = addP (sumP l) (sumP m):=by
 induction l with
 | nil => unfold addP sumP; rw [Prod.ext_iff]; constructor <;> simp [Rat.zero_add]
 | cons a l ih => rw [List.cons_append,sumP,ih,sumP]; unfold addP; rw [Prod.ext_iff]; constructor <;> simp only <;> grind
theorem sR (p q:List P2):sumP (mrg p q) = addP (sumP p) (sumP q):=by
 fun_induction mrg p q with
 | case1 q => unfold addP; rw [Prod.ext_iff]; constructor <;> simp [sumP,Rat.zero_add]
 | case2 a p => unfold addP; rw [Prod.ext_iff]; constructor <;> simp [sumP,addP,Rat.add_zero]
 | case3 a p b q h ih => rw [sumP,ih]; unfold addP; rw [Prod.ext_iff]; constructor <;> simp only [sumP,addP] <;> grind
 | case4 a p b q h ih => rw [sumP,ih]; unfold addP; rw [Prod.ext_iff]; constructor <;> simp only [sumP,addP] <;> grind
def wayS (at':P2):List P2 → List P2
 | [] => []
 | [_] => []
 | e :: f :: l => addP at' e :: wayS (addP at' e) (f :: l)
def xZ:List P2 → List P2
 | a :: b :: r => subP b a :: xZ (b :: r)
 | _ => []
theorem fP:∀ (X:List P2) (m:P2) (Y:List P2),xZ (X ++ m :: Y) = xZ (X ++ [m]) ++ xZ (m :: Y)
 | [],m,Y => by simp [xZ]
 | [x],m,Y => by simp [xZ]
 | x :: y :: X,m,Y => by
  have:=fP (y :: X) m Y
  simp only [List.cons_append,xZ] at this ⊢
  rw [this]
theorem fO:∀ (a:P2) (X:List P2) (b:P2),sumP (xZ (a :: (X ++ [b]))) = subP b a
 | a,[],b => by simp only [List.nil_append,xZ,sumP]; unfold addP subP; rw [Prod.ext_iff]; constructor <;> simp only <;> grind
 | a,x :: X,b => by
  rw [List.cons_append,xZ,sumP,fO x X b]
  unfold addP subP; rw [Prod.ext_iff]; constructor <;> simp only <;> grind
def edgN (w:P2):List P2 → Prop
 | t :: s :: r => zQ (subP t s) w ≤ 0 ∧ edgN w (s :: r)
 | _ => True
theorem dJ (X:List P2) (a b:P2):xZ (X ++ [a,b]) = xZ (X ++ [a]) ++ [subP b a]:=by
 rw [show X ++ [a,b] = X ++ a :: [b] by rfl,fP]; rfl
theorem sD {g:P2}:∀ acc:List P2,edgD g acc → ∀ e ∈ xZ acc.reverse,0 < zQ e g
 | [],_,e,he => by simp [xZ] at he
 | [_],_,e,he => by simp [xZ] at he
 | t :: s :: r,h,e,he => by
  rw [show (t :: s :: r).reverse = r.reverse ++ [s,t] by simp,dJ,List.mem_append,List.mem_singleton] at he
  rcases he with he | rfl
  ·exact sD (s :: r) h.2 e (by simpa using he)
  ·exact h.1
theorem sC {g:P2}:∀ acc:List P2,edgN g acc → ∀ e ∈ xZ acc.reverse,zQ e g ≤ 0
 | [],_,e,he => by simp [xZ] at he
 | [_],_,e,he => by simp [xZ] at he
 | t :: s :: r,h,e,he => by
  rw [show (t :: s :: r).reverse = r.reverse ++ [s,t] by simp,dJ,List.mem_append,List.mem_singleton] at he
  rcases he with he | rfl
  ·exact sC (s :: r) h.2 e (by simpa using he)
  ·exact h.1
theorem pM:∀ acc:List P2,acc.Pairwise (fun a b => ltP b a) → ∀ e ∈ xZ acc.reverse,lexP e
 | [],_,e,he => by simp [xZ] at he
 | [_],_,e,he => by simp [xZ] at he
 | t :: s :: r,h,e,he => by
  rw [show (t :: s :: r).reverse = r.reverse ++ [s,t] by simp,dJ,List.mem_append,List.mem_singleton] at he
  rcases he with he | rfl
  ·exact pM (s :: r) (List.pairwise_cons.1 h).2 e (by simpa using he)
  ·exact (List.pairwise_cons.1 h).1 s (by simp)
theorem sU {g:P2} (hg:lexP g):∀ acc:List P2,acc ≠ [] → qK acc → acc.Pairwise (fun a b => ltP b a) → ∃ Y w X,acc = Y ++ w :: X ∧ edgN g (Y ++ [w]) ∧ edgD g (w :: X)
 | [],h,_,_ => absurd rfl h
 | [t],_,_,_ => ⟨[],t,[],rfl,trivial,trivial⟩
 | t :: s :: r,_,ht,hd => by
  by_cases c:0 < zQ (subP t s) g
  ·exact ⟨[],t,s :: r,rfl,trivial,rY hg _ ht hd fun t' s' r' e => by injection e with e1 e2; injection e2 with e2 e3; subst e1 e2; exact c⟩
  ·have ht':qK (s :: r):=by
    cases r with
    | nil => trivial
    | cons u r => exact ht.2
   obtain ⟨Y,w,X,e,h1,h2⟩:=sU hg (s :: r) (by simp) ht' (List.pairwise_cons.1 hd).2
   refine ⟨t :: Y,w,X,by rw [e]; rfl,?_,h2⟩
   cases Y with
   | nil => injection e with e1 e2; subst e1; exact ⟨by grind,trivial⟩
   | cons y Y => injection e with e1 e2; subst e1; exact ⟨by grind,h1⟩
theorem zL2 {S acc:List P2} {g:P2} (hc:ChOk S acc) (hg:lexP g):∃ Y w X,acc = Y ++ w :: X ∧ edgN g (Y ++ [w]) ∧ edgD g (w :: X) ∧ ∀ q ∈ S,zQ (subP q w) g ≤ 0:=by
 obtain ⟨Y,w,X,rfl,h1,h2⟩:=sU hg acc hc.ne hc.trs hc.dec
 refine ⟨Y,w,X,rfl,h1,h2,fun q hq => ?_⟩
 have hl:=hc.lef q hq
 have hd:=hc.dec
 rcases pF w q with k | k
 ·rcases List.eq_nil_or_concat Y with rfl | ⟨Y',n,rfl⟩
  ·have:=uL (hc.top q hq w rfl) k
   subst this; unfold zQ subP; simp only; grind
  ·rw [List.concat_eq_append] at hl hd h1
   rw [List.append_assoc] at hl hd
   have k1:=(bF Y' _ hl).1
   have k2:zQ (subP n w) g ≤ 0:=by
    have:∀ Z:List P2,edgN g (Z ++ [n,w]) → zQ (subP n w) g ≤ 0:=fun Z => by
     induction Z with
     | nil => exact fun h => h.1
     | cons z Z ih => intro h; cases Z with
      | nil => exact h.2.1
      | cons z' Z => exact ih h.2
    exact this Y' (by simpa using h1)
   have k3:ltP w n:=(List.pairwise_cons.1 (List.pairwise_append.1 hd).2.1).1 w (by simp)
   have:=oR (a:=g) (b:=subP n w) (c:=subP q w) (lexP.le hg) k3 (iD.1 k) (by unfold zQ at *; grind) k1
   unfold zQ at *; grind
 ·rcases X with _ | ⟨p,X⟩
  ·have:=uL (hc.bot q hq w (by simp)) k
   subst this; unfold zQ subP; simp only; grind
  ·have k1:=(bF Y _ hl).1
   have k2:=h2.1
   have k3:ltP p w:=(List.pairwise_cons.1 (List.pairwise_append.1 hd).2.1).1 p (by simp)
   have:=oR (a:=subP w q) (b:=subP w p) (c:=g) (iD.1 k) k3 (lexP.le hg) (by unfold trn zQ subP at *; simp only at *; grind) (Rat.le_of_lt k2)
   unfold trn zQ subP at *; simp only at *; grind
theorem ahead_asym {a b:P2} (h:gT a b = true):gT b a = false:=by
 unfold gT at *
 by_cases c:xP a = xP b
 ·rw [if_neg (by simp [c])] at h
  rw [if_neg (by simp [c]),decide_eq_false]
  have:=of_decide_eq_true h
  unfold zQ at *; grind
 ·rw [if_pos c] at h
  rw [if_pos (Ne.symm c),decide_eq_false]
  have:=of_decide_eq_true h; omega
theorem iV {a:P2}:lexP (negP a) ↔ lexN a:=by unfold lexP lexN negP; simp only; grind
structure Cut (g:P2) (e1 e2:List P2):Prop where
 pos:lexP g → (∀ e ∈ e1,lexP e ∧ 0 < zQ e g) ∧ ∀ e ∈ e2,lexN e ∨ lexP e ∧ zQ e g ≤ 0
 neg:lexN g → (∀ e ∈ e1,lexP e ∨ lexN e ∧ 0 < zQ e g) ∧ ∀ e ∈ e2,lexN e ∧ zQ e g ≤ 0
theorem pO {g:P2} {e1 e2 f1 f2:List P2} (hg:lexP g ∨ lexN g) (a:Cut g e1 e2) (b:Cut g f1 f2):∀ x ∈ e1,∀ y ∈ f2,gT x y = true:=fun x hx y hy => by
 rcases hg with hg | hg
 ·obtain ⟨h1,h2⟩:=(a.pos hg).1 x hx
  rcases (b.pos hg).2 y hy with h3 | ⟨h3,h4⟩
  ·exact (vL h1 h3).1
  ·exact (ahead_pp h1 h3).2 (zP6 (lexP.le h1) hg h3 h2 (by unfold zQ at *; grind))
 ·obtain ⟨h3,h4⟩:=(b.neg hg).2 y hy
  rcases (a.neg hg).1 x hx with h1 | ⟨h1,h2⟩
  ·exact (vL h1 h3).1
  ·have:=zP6 (lexP.le (iV.2 h1)) (iV.2 hg) (iV.2 h3) (by unfold zQ negP at *; simp only; grind) (by unfold zQ negP at *; simp only; grind)
   exact (ahead_nn h1 h3).2 (by unfold zQ negP at *; simp only at this; grind)
theorem ChOk'.flip {S acc:List P2} (h:ChOk' S acc):ChOk (S.map negP) (acc.map negP):=by
 refine ⟨fun x hx => ?_,?_,fun q hq t e => ?_,fun q hq t e => ?_,fun q hq => ?_,(lN acc).2 h.trs,fun c => h.ne (List.map_eq_nil_iff.1 c)⟩
 ·obtain ⟨y,hy,rfl⟩:=List.mem_map.1 hx
  exact List.mem_map.2 ⟨y,h.sub y hy,rfl⟩
 ·rw [List.pairwise_map]; exact h.dec.imp fun h => oA.2 h
 ·obtain ⟨y,hy,rfl⟩:=List.mem_map.1 hq
  rw [List.head?_map] at e
  obtain ⟨u,hu,rfl⟩:=Option.map_eq_some_iff.1 e
  exact oD.2 (h.top y hy u hu)
 ·obtain ⟨y,hy,rfl⟩:=List.mem_map.1 hq
  rw [List.getLast?_map] at e
  obtain ⟨u,hu,rfl⟩:=Option.map_eq_some_iff.1 e
  exact oD.2 (h.bot y hy u hu)
 ·obtain ⟨y,hy,rfl⟩:=List.mem_map.1 hq
  exact (oC acc).2 (h.lef y hy)
theorem vB {g:P2}:∀ l:List P2,edgD (negP g) (l.map negP) ↔ edgD g l
 | [] => .rfl
 | [_] => .rfl
 | t :: s :: r => by
  have e:zQ (subP (negP t) (negP s)) (negP g) = zQ (subP t s) g:=by unfold zQ subP negP; simp only; grind
  simp only [List.map_cons,edgD,e]; exact and_congr .rfl (vB (s :: r))
theorem vA {g:P2}:∀ l:List P2,edgN (negP g) (l.map negP) ↔ edgN g l
 | [] => .rfl
 | [_] => .rfl
 | t :: s :: r => by
  have e:zQ (subP (negP t) (negP s)) (negP g) = zQ (subP t s) g:=by unfold zQ subP negP; simp only; grind
  simp only [List.map_cons,edgN,e]; exact and_congr .rfl (vA (s :: r))
theorem high_cut {S acc:List P2} {g:P2} (hc:ChOk' S acc) (hg:lexN g):∃ Y w X,acc = Y ++ w :: X ∧ edgN g (Y ++ [w]) ∧ edgD g (w :: X) ∧ ∀ q ∈ S,zQ (subP q w) g ≤ 0:=by
 obtain ⟨Y,w,X,e,h1,h2,h3⟩:=zL2 hc.flip (iV.2 hg)
 have hn:∀ l:List P2,(l.map negP).map negP = l:=fun l => by
  rw [List.map_map]; conv => rhs; rw [← List.map_id l]
  exact List.map_congr_left fun x _ => iT x
 have e':acc = Y.map negP ++ negP w :: X.map negP:=by
  have:=congrArg (List.map negP) e
  rw [hn] at this; simpa using this
 refine ⟨Y.map negP,negP w,X.map negP,e',?_,?_,fun q hq => ?_⟩
 ·refine (vA _).1 ?_
  rw [List.map_append,hn,List.map_cons,iT]; exact h1
 ·refine (vB _).1 ?_
  rw [List.map_cons,iT,hn]; exact h2
 ·have:=h3 (negP q) (List.mem_map.2 ⟨q,hq,rfl⟩)
  unfold zQ subP negP at *; simp only at *; grind
theorem oH:∀ acc:List P2,acc.Pairwise (fun a b => ltP a b) → ∀ e ∈ xZ acc.reverse,lexN e
 | [],_,e,he => by simp [xZ] at he
 | [_],_,e,he => by simp [xZ] at he
 | t :: s :: r,h,e,he => by
  rw [show (t :: s :: r).reverse = r.reverse ++ [s,t] by simp,dJ,List.mem_append,List.mem_singleton] at he
  rcases he with he | rfl
  ·exact oH (s :: r) (List.pairwise_cons.1 h).2 e (by simpa using he)
  ·have:=(List.pairwise_cons.1 h).1 s (by simp)
   unfold ltP lexP subP at this; unfold lexN subP; simp only at *; grind
def xR (h:List P2):List P2:=if 1 < h.length then xZ (h ++ [gp h 0]) else []
theorem nC (a b:P2):addP a (subP b a) = b:=by unfold addP subP; rw [Prod.ext_iff]; constructor <;> simp only <;> grind
theorem jL (a:P2):addP a (0,0) = a:=by unfold addP; rw [Prod.ext_iff]; constructor <;> simp only <;> grind
theorem qY (a b c:P2):addP (addP a b) c = addP a (addP b c):=by unfold addP; rw [Prod.ext_iff]; constructor <;> simp only <;> grind
theorem pT (a b:P2):addP a b = addP b a:=by unfold addP; rw [Prod.ext_iff]; constructor <;> simp only <;> grind
theorem zQ2 {m w:P2} {X':List P2} (Y X:List P2) (e:Y ++ w :: X = X' ++ [m]):addP m (sumP (xZ (w :: X).reverse)) = w:=by
 rcases List.eq_nil_or_concat X with rfl | ⟨X,x,hX⟩
 ·have:w = m:=by
   have:=congrArg List.getLast? e; simpa using this
  subst this; exact jL _
 ·rw [List.concat_eq_append] at hX
  subst hX
  have:x = m:=by
   have:=congrArg List.getLast? e
   rw [show Y ++ w :: (X ++ [x]) = (Y ++ w :: X) ++ [x] by simp,List.getLast?_concat,List.getLast?_concat] at this
   exact Option.some.inj this
  subst this
  rw [show (w :: (X ++ [x])).reverse = x :: (X.reverse ++ [w]) by simp,fO,nC]
theorem tW {l:List P2} {g:P2} (hs:l.Pairwise ltP) (hne:l ≠ []) (hg:lexP g ∨ lexN g) :
  ∃ e1 e2,xR (qT l) = e1 ++ e2 ∧ Cut g e1 e2 ∧ ∀ q ∈ l,zQ (subP q (addP (gp (qT l) 0) (sumP e1))) g ≤ 0:=by
 by_cases h2:l.length < 2
 ·match l,hne,h2 with
  | [p],_,_ =>
   refine ⟨[],[],rfl,⟨fun _ => by simp,fun _ => by simp⟩,fun q hq => ?_⟩
   rw [List.mem_singleton.1 hq,show addP (gp (qT [p]) 0) (sumP []) = p from jL p]
   unfold zQ subP; simp only; grind
 obtain ⟨mn,mx,A,B,cl,ch,eS,mnl,mxl,hlt,hmx,hmn,_⟩:=fL (by omega) hs
 have eE:xR (qT l) = xZ (mx :: (A ++ [mn])).reverse ++ xZ (mn :: (B ++ [mx])).reverse:=by
  unfold xR
  rw [eS,if_pos (by simp only [List.length_cons,List.length_append]; omega),show mn :: (A.reverse ++ mx :: B.reverse) ++ [gp (mn :: (A.reverse ++ mx :: B.reverse)) 0] = (mn :: A.reverse) ++ mx :: (B.reverse ++ [mn]) by simp,fP]
  congr 1 <;> congr 1 <;> simp
 have e0:gp (qT l) 0 = mn:=by rw [eS]; rfl
 rw [e0,eE]
 have low:∀ e ∈ xZ (mx :: (A ++ [mn])).reverse,lexP e:=pM _ cl.dec
 have high:∀ e ∈ xZ (mn :: (B ++ [mx])).reverse,lexN e:=oH _ ch.dec
 have np:∀ g:P2,lexP g → lexN g → False:=fun g a b => by unfold lexP lexN at *; grind
 have cut:∀ (Y:List P2) (w:P2) (X:List P2),xZ (Y ++ w :: X).reverse = xZ (w :: X).reverse ++ xZ (Y ++ [w]).reverse:=fun Y w X => by
  rw [show (Y ++ w :: X).reverse = X.reverse ++ w :: Y.reverse by simp,fP]; simp
 rcases hg with hg | hg
 ·obtain ⟨Y,w,X,e,h1,h3,h4⟩:=zL2 cl hg
  refine ⟨xZ (w :: X).reverse,xZ (Y ++ [w]).reverse ++ xZ (mn :: (B ++ [mx])).reverse,?_,⟨fun _ => ⟨fun x hx => ⟨low x ?_,sD _ h3 x hx⟩,fun x hx => ?_⟩,fun h => (np g hg h).elim⟩,?_⟩
  ·rw [e,cut,List.append_assoc]
  ·rw [e,cut]; exact List.mem_append_left _ hx
  ·rcases List.mem_append.1 hx with hx | hx
   ·exact .inr ⟨low x (by rw [e,cut]; exact List.mem_append_right _ hx),sC _ h1 x hx⟩
   ·exact .inl (high x hx)
  ·rw [zQ2 Y X (X':=mx :: A) (m:=mn) (by rw [← e]; simp)]; exact h4
 ·obtain ⟨Y,w,X,e,h1,h3,h4⟩:=high_cut ch hg
  refine ⟨xZ (mx :: (A ++ [mn])).reverse ++ xZ (w :: X).reverse,xZ (Y ++ [w]).reverse,?_,⟨fun h => (np g h hg).elim,fun _ => ⟨fun x hx => ?_,fun x hx => ⟨high x ?_,sC _ h1 x hx⟩⟩⟩,?_⟩
  ·rw [e,cut,List.append_assoc]
  ·rcases List.mem_append.1 hx with hx | hx
   ·exact .inl (low x hx)
   ·exact .inr ⟨high x (by rw [e,cut]; exact List.mem_append_left _ hx),sD _ h3 x hx⟩
  ·rw [e,cut]; exact List.mem_append_right _ hx
  ·rw [nI,← qY,show (mx :: (A ++ [mn])).reverse = mn :: (A.reverse ++ [mx]) by simp,fO,nC,zQ2 Y X (X':=mn :: B) (m:=mx) (by rw [← e]; simp)]; exact h4
def outS (h k:List P2):List P2:=addP (gp h 0) (gp k 0) :: wayS (addP (gp h 0) (gp k 0)) (mrg (xR h) (xR k))
theorem oG {h:List P2}:sumP (xR h) = (0,0):=by
 unfold xR; split
 ·match h with
  | a :: r =>
   rw [show a :: r ++ [gp (a :: r) 0] = a :: (r ++ [a]) from rfl,fO]
   unfold subP; rw [Prod.ext_iff]; constructor <;> simp only <;> grind
 ·rfl
theorem wL:∀ (e1 e2:List P2) (at':P2),e1 ≠ [] → e2 ≠ [] → addP at' (sumP e1) ∈ wayS at' (e1 ++ e2)
 | [],_,_,h,_ => absurd rfl h
 | [e],f :: e2,a,_,_ => by simp only [List.cons_append,List.nil_append,wayS,sumP]; rw [jL]; simp
 | e :: f :: e1,e2,a,_,h => by
  have:=wL (f :: e1) e2 (addP a e) (by simp) h
  rw [List.cons_append,List.cons_append,wayS,sumP,← qY]
  exact List.mem_cons_of_mem _ this
 | [_],[],_,_,h => absurd rfl h
theorem out_mem {h k e1 e2:List P2} (e:mrg (xR h) (xR k) = e1 ++ e2):addP (addP (gp h 0) (gp k 0)) (sumP e1) ∈ outS h k:=by
 unfold outS
 have z:addP (sumP e1) (sumP e2) = (0,0):=by rw [← nI,← e,sR,oG,oG]; exact jL _
 by_cases c1:e1 = []
 ·subst c1; rw [show sumP [] = (0,0) from rfl,jL]; simp
 by_cases c2:e2 = []
 ·subst c2; rw [show sumP [] = (0,0) from rfl,jL] at z; rw [z,jL]; simp
 ·rw [e]; exact List.mem_cons_of_mem _ (wL e1 e2 _ c1 c2)
theorem out_sup {l m:List P2} (hl:l.Pairwise ltP) (hm:m.Pairwise ltP) (nl:l ≠ []) (nm:m ≠ []) {a b:P2} (ha:a ∈ l) (hb:b ∈ m):Sup (outS (qT l) (qT m)) (addP a b):=fun u v => by
 by_cases hz:lexP (-v,u) ∨ lexN (-v,u)
 ·obtain ⟨e1,e2,ee,ec,eb⟩:=tW hl nl hz
  obtain ⟨f1,f2,fe,fc,fb⟩:=tW hm nm hz
  have h1:=pO hz ec fc
  have h2:=pO hz fc ec
  have em:mrg (xR (qT l)) (xR (qT m)) = mrg e1 f1 ++ mrg e2 f2:=by
   rw [ee,fe]; exact mrg_cut h1 fun y hy x hx => ahead_asym (h2 y hy x hx)
  refine ⟨_,out_mem em,?_⟩
  rw [sR]
  have k1:=eb a ha
  have k2:=fb b hb
  generalize gp (qT l) 0 = p at *
  generalize gp (qT m) 0 = q at *
  generalize sumP e1 = s at *
  generalize sumP f1 = t at *
  unfold zQ subP addP at *; simp only at *; grind
 ·have hu:u = 0:=by unfold lexP lexN at hz; simp only at hz; grind
  have hv:v = 0:=by unfold lexP lexN at hz; simp only at hz; grind
  refine ⟨_,List.mem_cons_self,?_⟩
  rw [hu,hv]; grind
theorem fM {h:List P2} (hne:h ≠ []) {e1 e2:List P2} (e:xR h = e1 ++ e2):addP (gp h 0) (sumP e1) ∈ h:=by
 unfold xR at e
 split at e
 ·match h,hne with
  | a :: r,_ =>
   have e':xZ (a :: (r ++ [a])) = e1 ++ e2:=e
   have key:∀ (r:List P2) (b z:P2) (e1:List P2),xZ (b :: (r ++ [z])) = e1 ++ e2 → addP b (sumP e1) ∈ b :: (r ++ [z]):=fun r => by
    induction r with
    | nil =>
     intro b z e1 e
     match e1,e with
     | [],_ => rw [show sumP [] = (0,0) from rfl,jL]; simp
     | [x],e => 
      simp only [List.nil_append,xZ,List.cons_append,List.cons.injEq] at e
      rw [← e.1,sumP,show sumP [] = (0,0) from rfl,jL,nC]; simp
     | x :: y :: s,e => simp [xZ] at e
    | cons c r ih =>
     intro b z e1 e
     match e1,e with
     | [],_ => rw [show sumP [] = (0,0) from rfl,jL]; simp
     | x :: s,e =>
      rw [List.cons_append,xZ,List.cons_append,List.cons.injEq] at e
      have:=ih c z s e.2
      rw [← e.1,sumP,← qY,nC]
      exact List.mem_cons_of_mem _ this
   have:=key r a a e1 e'
   show addP a (sumP e1) ∈ a :: r
   simp only [List.mem_cons,List.mem_append,List.mem_singleton,List.not_mem_nil,or_false] at this ⊢
   grind
 ·match h,hne with
  | a :: r,_ =>
   obtain ⟨rfl,rfl⟩:=List.append_eq_nil_iff.1 e.symm
   rw [show sumP [] = (0,0) from rfl,jL]; simp
theorem zK9 (p q:List P2):∀ {s t:List P2},mrg p q = s ++ t → ∃ p1 p2 q1 q2,p = p1 ++ p2 ∧ q = q1 ++ q2 ∧ sumP s = addP (sumP p1) (sumP q1):=by
 fun_induction mrg p q with
 | case1 q => exact fun {s t} e => ⟨[],[],s,t,rfl,e,by rw [show sumP [] = (0,0) from rfl,pT,jL]⟩
 | case2 a p => exact fun {s t} e => ⟨s,t,[],[],e,rfl,by rw [show sumP [] = (0,0) from rfl,jL]⟩
 | case3 a p b q h ih =>
  intro s t e
  match s,e with
  | [],e => exact ⟨[],_,[],_,rfl,rfl,by rw [show sumP [] = (0,0) from rfl,jL]⟩
  | x :: s,e =>
   rw [List.cons_append,List.cons.injEq] at e
   obtain ⟨p1,p2,q1,q2,h1,h2,h3⟩:=ih e.2
   exact ⟨a :: p1,p2,q1,q2,by rw [h1]; rfl,h2,by rw [sumP,sumP,h3,← e.1,qY]⟩
 | case4 a p b q h ih =>
  intro s t e
  match s,e with
  | [],e => exact ⟨[],_,[],_,rfl,rfl,by rw [show sumP [] = (0,0) from rfl,jL]⟩
  | x :: s,e =>
   rw [List.cons_append,List.cons.injEq] at e
   obtain ⟨p1,p2,q1,q2,h1,h2,h3⟩:=ih e.2
   exact ⟨p1,p2,b :: q1,q2,h1,by rw [h2]; rfl,by rw [sumP,sumP,h3,← e.1,← qY,pT b,qY]⟩
theorem zO8:∀ (es:List P2) (at' c:P2),c ∈ wayS at' es → ∃ s t,es = s ++ t ∧ c = addP at' (sumP s)
 | [],_,_,h => by simp [wayS] at h
 | [_],_,_,h => by simp [wayS] at h
 | e :: f :: l,a,c,h => by
  rw [wayS] at h
  rcases List.mem_cons.1 h with rfl | h
  ·exact ⟨[e],f :: l,rfl,by rw [sumP,show sumP [] = (0,0) from rfl,jL]⟩
  ·obtain ⟨s,t,h1,h2⟩:=zO8 (f :: l) _ c h
   exact ⟨e :: s,t,by rw [h1]; rfl,by rw [h2,sumP,qY]⟩
theorem out_of {h k:List P2} (hh:h ≠ []) (hk:k ≠ []) {c:P2} (hc:c ∈ outS h k):∃ a ∈ h,∃ b ∈ k,c = addP a b:=by
 have key:∀ s t,mrg (xR h) (xR k) = s ++ t → c = addP (addP (gp h 0) (gp k 0)) (sumP s) → ∃ a ∈ h,∃ b ∈ k,c = addP a b:=fun s t e ec => by
  obtain ⟨p1,p2,q1,q2,h1,h2,h3⟩:=zK9 _ _ e
  refine ⟨_,fM hh h1,_,fM hk h2,?_⟩
  rw [ec,h3]; unfold addP; rw [Prod.ext_iff]; constructor <;> simp only <;> grind
 unfold outS at hc
 rcases List.mem_cons.1 hc with rfl | hc
 ·exact key [] _ rfl (by rw [show sumP [] = (0,0) from rfl,jL])
 ·obtain ⟨s,t,h1,h2⟩:=zO8 _ _ _ hc
  exact key s t h1 h2
end Go.SL
