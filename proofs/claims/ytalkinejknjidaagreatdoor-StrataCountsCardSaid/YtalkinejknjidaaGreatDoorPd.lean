/- Lemmas and walks of functions; no statement. -/
import Derived.Test.YtalkinejknjidaaGreatDoorPc
set_option linter.unusedVariables false
set_option linter.unusedSimpArgs false
set_option maxRecDepth 100000
set_option maxHeartbeats 4000000
namespace Go.Proofs.YtalkinejknjidaaGreatDoor
open Go.SL Go.RowKit Go.Proofs Tryz
section
variable {M M' : Nat → Prop} {w w' : World} {n m k : Nat} {z : Int} {s : Bool} {a : Value}
theorem ZQ.cl (h:ZQ M w n z s a)(l:Cl M w M' w'):ZQ M' w' n z s a:=by obtain⟨xs,h1,h2⟩:=h.ex;exact⟨xs,h1.cl l,h2⟩
theorem ZC.cl (h:ZC M w n z s a)(l:Cl M w M' w'):ZC M' w' n z s a:=⟨h.sgn,h.num.cl l,h.len⟩
theorem NQ.cl (h:NQ M w n k a)(l:Cl M w M' w'):NQ M' w' n k a:=by obtain⟨xs,h1,h2⟩:=h.ex;exact⟨xs,h1.cl l,h2⟩
end
def ztq (n:Nat)(z:Int):CT where
 sz:=2
 p M w cs:=∃ s a,cs=[.bool s,a]∧ZQ M w n z s a
 len h:=by obtain⟨_,_,rfl,_⟩:=h;rfl
 one h:=by obtain⟨_,_,rfl,h⟩:=h;exact allc rfl (allc h.one.1 alln)
 mono h k:=by obtain⟨s,a,rfl,h⟩:=h;exact⟨s,a,rfl,h.cl k⟩
def ztc (n:Nat)(z:Int):CT where
 sz:=2
 p M w cs:=∃ s a,cs=[.bool s,a]∧ZC M w n z s a
 len h:=by obtain⟨_,_,rfl,_⟩:=h;rfl
 one h:=by obtain⟨_,_,rfl,h⟩:=h;exact allc rfl (allc h.gen.one.1 alln)
 mono h k:=by obtain⟨s,a,rfl,h⟩:=h;exact⟨s,a,rfl,h.cl k⟩
def ntq (n k:Nat):CT where
 sz:=1
 p M w cs:=∃ a,cs=[a]∧NQ M w n k a
 len h:=by obtain⟨_,rfl,_⟩:=h;rfl
 one h:=by obtain⟨_,rfl,h⟩:=h;exact allc h.one.1 alln
 mono h k:=by obtain⟨a,rfl,h⟩:=h;exact⟨a,rfl,h.cl k⟩
def ntc (n k:Nat):CT where
 sz:=1
 p M w cs:=∃ a,cs=[a]∧NQ M w n k a∧IsNat M w a (limbs k)
 len h:=by obtain⟨_,rfl,_⟩:=h;rfl
 one h:=by obtain⟨_,rfl,h,_⟩:=h;exact allc h.one.1 alln
 mono h k:=by obtain⟨a,rfl,h,g⟩:=h;exact⟨a,rfl,h.cl k,g.cl k⟩
theorem mP {M:Nat→Prop}{w:World}{n k:Nat}{a:Value}(h:IsNat M w a (limbs k))(hl:(limbs k).length≤n):NQ M w n k a:=⟨_,h,hl,zI k⟩
instance {n:Nat}{q:Rat}:FA (rtc n q) 0 (ztc n q.num):=⟨fun⟨s,a,d,e,h⟩=>⟨s,a,by rw[e];rfl,h.sgn,h.num,h.len.1⟩⟩
instance {n:Nat}{q:Rat}:FA (rtc n q) 2 (ntc n q.den):=⟨fun⟨s,a,d,e,h⟩=>⟨d,by rw[e];rfl,mP h.den h.len.2,h.den⟩⟩
instance {n:Nat}{z:Int}:FA (ztc n z) 0 (xc (.bool (decide (z<0)))):=⟨fun⟨s,a,e,h⟩=>by rw[e,h.sgn];exact⟨rfl,rfl⟩⟩
instance {n:Nat}{z:Int}:FA (ztc n z) 1 (ntc n z.natAbs):=⟨fun⟨s,a,e,h⟩=>⟨a,by rw[e];rfl,mP h.num h.len,h.num⟩⟩
class CZ (c:CT)(n:outParam Nat)(z:outParam Int):Prop where
 h:∀ {M w us},c.p M w us→∃ s a,us=[.bool s,a]∧ZQ M w n z s a
instance {n:Nat}{z:Int}:CZ (ztq n z) n z:=⟨id⟩
instance {n:Nat}{z:Int}:CZ (ztc n z) n z:=⟨fun⟨s,a,e,h⟩=>⟨s,a,e,h.gen⟩⟩
class CN (c:CT)(n:outParam Nat)(k:outParam Nat):Prop where
 h:∀ {M w us},c.p M w us→∃ a,us=[a]∧NQ M w n k a
instance {n k:Nat}:CN (ntq n k) n k:=⟨id⟩
instance {n k:Nat}:CN (ntc n k) n k:=⟨fun⟨a,e,h,_⟩=>⟨a,e,h⟩⟩
instance {b:Bool}{c:CT}{n k:Nat}[h:CN c n k]:CZ (st [xc (.bool b),c]) n (if b then -((k:Nat):Int) else((k:Nat):Int)):=⟨fun⟨x,y,e,k1,z,o,e2,k2,e3⟩=>by
 obtain⟨a,rfl,g⟩:=h.h k2;obtain rfl:x=[.bool b]:=k1.1;obtain rfl:o=[]:=e3;obtain⟨xs,g1,g2,g3⟩:=g.ex;exact⟨b,a,by rw[e,e2];rfl,xs,g1,g2,by unfold zv;rw[g3]⟩⟩
class VZ (Ψ:PV)(n:outParam Nat)(z:outParam Int):Prop where
 h:∀ {M w v},Ψ.p M w v→∃ s a,v = .agg #[.bool s,a]∧ZQ M w n z s a
instance {c:CT}{n:Nat}{z:Int}[h:CZ c n z]:VZ (ag c) n z:=⟨fun⟨us,e,k⟩=>by obtain⟨s,a,rfl,g⟩:=h.h k;exact⟨s,a,e,g⟩⟩
class VN (Ψ:PV)(n:outParam Nat)(k:outParam Nat):Prop where
 h:∀ {M w v},Ψ.p M w v→NQ M w n k v
instance {c:CT}{n k:Nat}[h:CN c n k]:VN (sv c) n k:=⟨fun k=>by obtain⟨a,e,g⟩:=h.h k;rw[zbp.1 e];exact g⟩
class VZL (Ψ:PV)(n:outParam Nat)(l:outParam (List Int)):Prop where
 h:∀ {M w v},Ψ.p M w v→ZL M w n l v
instance {c d:CT}{n m:Nat}{y z:Int}[h1:CZ c n y][h2:CZ d m z]:VZL (sv (sl 2 [c,d])) (max n m) [y,z]:=⟨fun k=>⟨by
 obtain⟨v,us,e,k1,k2,k3⟩:=id k;refine zI2 (cs:=[c,d]) rfl k3 (fun i a ha=>?_) k;cases i with
 | zero=>obtain rfl:=Option.some.inj ha;exact⟨c,rfl,fun us hu=>let ⟨s,a,e,g⟩:=h1.h hu;⟨s,a,e,g.up (by omega)⟩⟩
 | succ i=>cases i with
  | zero=>obtain rfl:=Option.some.inj ha;exact⟨d,rfl,fun us hu=>let ⟨s,a,e,g⟩:=h2.h hu;⟨s,a,e,g.up (by omega)⟩⟩
  | succ i=>simp at ha⟩⟩
theorem yD {Ψ ρ:PV}(h:PSub Ψ ρ):∀ M w vs,Fa [Ψ] M w vs→ρ.p M w (gW vs):=fun M w vs ⟨v,us,e,h1,h2⟩=>by
 subst e;rw[show us=[] from h2];exact h _ _ _ h1
theorem cR {Ψ Φ ρ σ:PV}(h:PSub Ψ ρ)(k:PSub Φ σ):∀ M w vs,Fa [Ψ,Φ] M w vs→(tu [ρ,σ]).p M w (gW vs):=fun M w vs ⟨v,us,e,h1,u,us2,e2,h2,e3⟩=>by
 subst e;subst e2;rw[show us2=[] from e3];exact⟨[v,u],rfl,v,_,rfl,h _ _ _ h1,u,_,rfl,k _ _ _ h2,rfl⟩
theorem zY {X:Cx}{Γ:TE}{S:List Ow}{b s:Nat}{ty:TypeId}{c:CT}{q:Prop}(i:Nat)(hi:S[i]? = some (.blk b ty [c]))(hs:tf Γ s=some (q,zU b 0)):Ts X Γ S ((s,q,pa c)::Γ) (S.eraseIdx i):=fun E w h=>by
 have hm:Ow.blk b ty [c]∈S:=zam hi;obtain⟨us,k3,a,o,k4,k5,k6⟩:=h.gd.own _ hm;have h2:=h.sub (zca S i);have hn:¬ Mk (S.eraseIdx i) X.M b:=fun k=>by
  rcases k with⟨p,hp,e⟩ | k
  ·obtain⟨j,hj,hp⟩:=bF hp;exact eG h.apt hi hp (fun k=>hj k.symm) rfl e
  ·rcases h.new _ hm b rfl with h4 | h4
   ·have:=h.ok0 b k;omega
   ·exact h.zm b h4 k
 obtain rfl:o=[]:=k6;rw[zas] at k4;subst k4;refine⟨h2.bel,h2.gd,h2.new,h2.apt,h2.ok0,h2.zm,h2.mko,fun t q' ht=>?_⟩;unfold tf at ht;cases hb:Nat.beq s t with
 | true =>
  rw[hb] at ht;obtain rfl:=zaj hb;obtain rfl:=Option.some.inj ht;have h3:=h.tm s _ hs;exact⟨fun k=>let ⟨u,h4,h5⟩:=h3.1 k;⟨u,h4,b,0,us,h5,hn,⟨us.toArray,ty,(0,0),k3,fun j v hj=>by simpa using hj⟩,c.mono k5 (Cl.less (dU (List.eraseIdx_sublist S i)))⟩,h3.2⟩
 | false=>rw[hb] at ht;exact h2.tm t q' ht
theorem ofo {P:Program}{r:Option Nat}{N:Nat}{ops:Array Oper}{M:Nat→Prop}{S:List Ow}{p qx:Prop}{Γ:TE}{d b o:Nat}{x:Operand}{t t':TypeId}{pos:String}{af:Array Edge}{a:Bool}{f off sz:Nat}(hx:tv Γ x=some (qx,zU b o))[Im p qx][ht:TFd P t f a off sz] :
  Ob P r N ops M S p ⟨some d,.fieldAddr t x f,t',pos,af,none⟩ Γ (exP (.pointer (some ⟨b,o+off,none⟩))) :=
 ob1 hx (by simp[Op.operands]) fun D E w u hN hg e1 h1=>by
  obtain rfl:u=_:=h1;obtain⟨fields,fd,bytes,z,k1,k2,k3,k4,k5,_⟩:=ht.h;exact uN off hN k1 k2 k3 k4 k5 e1 (fin rfl)
theorem oldf {P:Program}{r:Option Nat}{N:Nat}{ops:Array Oper}{M:Nat→Prop}{S:List Ow}{p qx:Prop}{Γ:TE}{Ψ:PV}{d b o:Nat}{x:Operand}{t ty t':TypeId}{pos:String}{af:Array Edge}{a:Bool}{sz:Nat}{c c':CT}(i o':Nat)(hx:tv Γ x=some (qx,zU b o))(ho:o=o')[Im p qx](hi:S[i]? = some (.blk b ty [c]))[ht:TLd P t a sz][ha:FA c o' c'](hs:Nat.beq c'.sz sz=true)[hl:LdA a c' Ψ]:Ob P r N ops M S p ⟨some d,.load t x,t',pos,af,none⟩ Γ Ψ :=
 ob1 hx (by simp[Op.operands]) fun D E w u hN hg e1 h1=>by
  obtain rfl:u=_:=h1;subst ho;obtain⟨vs,k3,x1,o1,k4,k6,k7⟩:=hg.own _ (zam hi);obtain rfl:o1=[]:=k7;rw[zas] at k4;subst k4;have h3:=ha.h k6;have h4:=hl.h h3;have h7:=c'.len h3;have h6:=zaj hs;have h2:∀(j:Nat) (u:Value),((vs.drop o).take c'.sz)[j]? = some u→w.cell? ⟨b,o+j,none⟩=some u:=fun j u hj=>by
   rw[k3.cell];rw[zaN] at hj;split at hj
   ·simpa using hj
   ·cases hj
  have h5:=ht.h;cases a with
  | true =>
   obtain⟨bytes,z,k2⟩:=ht.s;exact bC hN h5 k2 e1 h2 (h7.trans h6) (fin h4)
  | false =>
   obtain⟨k1,rfl⟩:=h5;rw[h6] at h7 h2 h4;obtain⟨v,hv⟩:=zcC.1 h7;rw[hv] at h2 h4;exact bD hN k1 e1 (by have:=h2 0 v rfl;simpa using this) (fin (h4 v rfl))
theorem ts_ow {X:Cx}{Γ:TE}{S:List Ow}{o o':Ow}(i:Nat)(hi:S[i]? = some o)(hb:o'.bk=o.bk)(ho:∀ M w,o.ok M w→o'.ok M w):Ts X Γ S Γ (S.set i o'):=fun E w h=>by
 have hm:∀ q∈S.set i o',q∈S∨q=o':=fun q hq=>zbC hq;have hiS:o∈S:=zam hi;have hmk:Mk (S.set i o') X.M=Mk S X.M:=funext fun c=>propext ⟨fun h=>h.imp (fun⟨q,hq,e⟩=>by
  rcases hm q hq with hq | rfl
  ·exact⟨q,hq,e⟩
  ·exact⟨_,hiS,hb ▸ e⟩) id,fun h=>h.imp (fun⟨q,hq,e⟩=>by
  obtain⟨m,hm⟩:=zbR.1 hq;by_cases c:i=m
  ·subst c;obtain rfl:=Option.some.inj (hm.symm.trans hi);exact⟨o',zam (zbf (zaL.1 hi).1),hb.trans e⟩
  ·exact⟨q,zam (by rw[zbl c];exact hm),e⟩) id⟩
 refine⟨h.bel,⟨by rw[hmk];exact h.gd.ok,by rw[hmk];exact h.gd.tab,fun q hq=>?_⟩,fun q hq b' e=>?_,cO h.apt hi (fun b' e => .inl (hb ▸ e)),h.ok0,h.zm,h.mko,by rw[hmk];exact h.tm⟩
 ·rw[hmk];rcases hm q hq with hq | rfl
  ·exact h.gd.own q hq
  ·exact ho _ _ (h.gd.own _ hiS)
 ·rcases hm q hq with hq | rfl
  ·exact h.new q hq b' e
  ·exact h.new _ hiS b' (hb ▸ e)
theorem jP {X:Cx}{Γ:TE}{S:List Ow}{b:Nat}{ty:TypeId}{cs cs':List CT}(i:Nat)(hi:S[i]? = some (.blk b ty cs))(hc:∀ {M w us},stp cs M w us→stp cs' M w us):Ts X Γ S Γ (S.set i (.blk b ty cs')):=ts_ow i hi rfl fun M w ⟨us,h1,h2⟩=>⟨us,h1,hc h2⟩
instance {n:Nat}{z:Int}:SzC (ztq n z) 2:=⟨rfl⟩
instance {n:Nat}{z:Int}:SzC (ztc n z) 2:=⟨rfl⟩
instance {n k:Nat}:SzC (ntq n k) 1:=⟨rfl⟩
instance {n k:Nat}:SzC (ntc n k) 1:=⟨rfl⟩
instance {xs:List Nat}:CN (ntx xs) xs.length (val xs):=⟨fun⟨a,e,h⟩=>⟨a,e,xs,h,zab _,rfl⟩⟩
theorem pM {M:Nat→Prop}{w:World}{n:Nat}{z:Int}{s:Bool}{a:Value}(h:ZQ M w n z s a):∃ b:Bool×List Nat,(∀ x∈b.2,x<4294967296)∧b.2.length≤n∧zv b.1 b.2=z∧(ag (itx b)).p M w (.agg #[.bool s,a]):=by
 obtain⟨xs,h1,h2,h3⟩:=h.ex;exact⟨(s,xs),h1.lt,h2,h3,[.bool s,a],rfl,[.bool s],[a],rfl,⟨rfl,rfl⟩,[a],[],rfl,⟨a,rfl,h1⟩,rfl⟩
theorem ctz1 {P:Program}{f:FuncId}{ρ Ψ:PV}{n:Nat}{z:Int}[h:VZ Ψ n z](hb:Bod P f)(k:∀ a:Bool×List Nat,(∀ x∈a.2,x<4294967296)→a.2.length≤n→zv a.1 a.2=z→CTy P f [ag (itx a)] ρ):CTy P f [Ψ] ρ:=⟨hb,fun M w vs hM hT hv=>by
 obtain⟨v,rfl,h1⟩:=fa1 hv;obtain⟨s,a,rfl,g⟩:=h.h h1;obtain⟨b,b0,b1,b2,b3⟩:=pM g;exact(k b b0 b1 b2).run M w _ hM hT ⟨_,_,rfl,b3,rfl⟩⟩
theorem ctz2 {P:Program}{f:FuncId}{ρ Ψ Φ:PV}{n m:Nat}{y z:Int}[h:VZ Ψ n y][h':VZ Φ m z](hb:Bod P f)(k:∀ a b:Bool×List Nat,(∀ x∈a.2,x<4294967296)→a.2.length≤n→zv a.1 a.2=y→(∀ x∈b.2,x<4294967296)→b.2.length≤m→zv b.1 b.2=z→CTy P f [ag (itx a),ag (itx b)] ρ):CTy P f [Ψ,Φ] ρ:=⟨hb,fun M w vs hM hT hv=>by
 obtain⟨v,u,rfl,h1,h2⟩:=fa2 hv;obtain⟨s,a,rfl,g⟩:=h.h h1;obtain⟨t,b,rfl,g'⟩:=h'.h h2;obtain⟨b1,b0,b2,b3,b4⟩:=pM g;obtain⟨c1,c0,c2,c3,c4⟩:=pM g';exact(k b1 c1 b0 b2 b3 c0 c2 c3).run M w _ hM hT ⟨_,_,rfl,b4,_,_,rfl,c4,rfl⟩⟩
theorem ps_z {N k:Nat}{z:Int}{s:Bool}(h1:s=decide (z<0))(h2:k=z.natAbs)(h3:(limbs k).length≤N):PSub (ag (st [xc (.bool s),ntx (limbs k)])) (ag (ztc N z)):=fun M w v ⟨us,e,x,y,e1,k1,u,o,e2,⟨a,k2,k3⟩,e3⟩=>by
 subst h2;obtain⟨rfl,_⟩:=k1;obtain rfl:o=[]:=e3;subst k2;exact⟨us,e,s,a,by rw[e1,e2];rfl,h1,k3,h3⟩
instance {n k:Nat}:VX (sv (ntc n k)) (limbs k):=⟨fun⟨a,e,_,h⟩=>by rw[zbp.1 e];exact h⟩
theorem vx_q {Ψ:PV}{xs:List Nat}[h:VX Ψ xs]:PSub Ψ (sv (ntx xs)):=fun M w v k=>⟨v,rfl,h.h k⟩
theorem yJ2 {Ψ Φ:PV}{xs ys:List Nat}[h:VX Ψ xs][k:VX Φ ys]:CTy prog 187 [Ψ,Φ] (exP (.bool (decide (xs=ys)))):=yI k1samex (fs1 vx_q (fs1 vx_q fs0))
theorem k2mulx {Ψ Φ:PV}{xs ys:List Nat}[h:VX Ψ xs][k:VX Φ ys](h1:xs.length≤100000000)(h2:ys.length≤100000000):CTy prog 91 [Ψ,Φ] (sv (ntx (limbs (val xs*val ys)))):=yI (yR7 h1 h2) (fs1 vx_q (fs1 vx_q fs0))
theorem obz {P:Program}{r:Option Nat}{N:Nat}{ops:Array Oper}{M:Nat→Prop}{S:List Ow}{p qx:Prop}{Γ:TE}{Ψx:PV}{c:CT}{d:Nat}{x:Operand}{t t':TypeId}{pos:String}{af:Array Edge}(hx:tv Γ x=some (qx,Ψx))[Im p qx][hp:TPl P t [1,1]][tz:TZ P t (.agg #[.bool false,.slice none 0 0])][hc:CtOf Ψx c](hs:Nat.beq c.sz 1=true) :
  Ob P r N ops M S p ⟨some d,.build t #[(1,x)],t',pos,af,none⟩ Γ (ag (st [xc (.bool false),c])) :=
 ob1 hx (by simp[Op.operands]) fun D E w u hN hg e1 h1=>by
  obtain⟨us,k1,k2⟩:=hc.h h1;obtain⟨sz,bytes,hz⟩:=tz.s;have hl:us.length=1:=(c.len k2).trans (zaj hs);refine fU (vs:=[u]) (cs:=[us]) (zs:=[.bool false,.slice none 0 0]) hN hp.h hz (by simp[evs,e1]) ⟨k1,trivial⟩ (by simp[hl]) rfl (fin ⟨[.bool false]++us,?_,[.bool false],us,rfl,⟨rfl,rfl⟩,us,[],by simp,k2,rfl⟩);simp[updC,hl]
instance (priority:=high){P:Program}{r:Option Nat}{N:Nat}{ops:Array Oper}{S:List Ow}{p q:Prop}{Γ:TE}{t t':TypeId}{x:Operand}{Ψ:PV}{c:CT}[h:TV Γ x q Ψ][Im p q][TPl P t [1,1]][TZ P t (.agg #[.bool false,.slice none 0 0])][CtOf Ψ c][hs:SzC c 1]:OB P r N ops S p (.build t #[(1,x)]) t' Γ (ag (st [xc (.bool false),c])) True:=⟨fun _=>obz h.h (by rw[hs.h];rfl)⟩
theorem yP {xs:List Nat}(h:∀ x∈xs,x<4294967296):(limbs (val xs)).length≤xs.length:=zS (yJ _ h)
instance {n k:Nat}:VS (sv (ntc n k)) 1 ((limbs k).map xw):=⟨fun⟨v,e,_,h⟩=>⟨v,_,e,by rw[zar];exact h.slc,tV,fun c hc=>by obtain⟨a,_,rfl⟩:=zai.1 hc;rfl⟩⟩
theorem k5normx {a:Bool×List Nat}{N:Nat}{z:Int}(hx:∀ x∈a.2,x<4294967296)(hl:a.2.length≤100000000)(hN:a.2.length≤N)(hz:zv a.1 a.2=z):CTy prog 144 [ag (itx a)] (ag (ztc N z)):=by
 refine fw [.cell 2 27] func144 fun X=>?_;iterate 3 refine u ?_
 refine u fun b2=>?_;repeat refine u ?_
 refine zB rfl rfl (jW (by omega)) ?_;repeat refine u ?_
 refine zD 0 rfl rfl ?_;repeat refine u ?_
 refine⟨[_],zL 0 rfl rs0,yD ?_⟩;exact(ps_z (by
  have h0:=@zP (val a.2);subst hz;unfold zv;cases h:a.1 with
  | false=>simp<;>omega
  | true =>
   simp only[Bool.true_and,if_true];rw[decide_eq_decide];omega) (by subst hz;unfold zv;split<;>omega) (Nat.le_trans (yP (by exact hx)) hN))
theorem uY {Ψ:PV}{n:Nat}{z:Int}[h:VZ Ψ n z](hn:n≤100000000):CTy prog 144 [Ψ] (ag (ztc n z)):=ctz1 (bo func144) fun a h0 h1 h2=>k5normx h0 (by omega) h1 h2
theorem vz_q {Ψ:PV}{n:Nat}{z:Int}[h:VZ Ψ n z]:PSub Ψ (ag (ztq n z)):=fun M w v hv=>by obtain⟨s,a,rfl,g⟩:=h.h hv;exact⟨_,rfl,s,a,rfl,g⟩
theorem bA {n N:Nat}{y z:Int}(h:y=z)(h1:n≤N):PSub (ag (ztc n y)) (ag (ztc N z)):=fun M w v ⟨us,e,s,a,e2,g⟩=>by subst h;exact⟨us,e,s,a,e2,g.sgn,g.num,zac g.len h1⟩
theorem zT7 {K:Nat}{xs ys:List Nat}(h1:val xs<4294967296^xs.length)(h2:val ys<4294967296^ys.length)(hK:max xs.length ys.length+1≤K):(limbs (val xs+val ys)).length≤K:=by
 refine zac (zS (k:=max xs.length ys.length+1) ?_) hK;have a1:4294967296^xs.length≤4294967296^(max xs.length ys.length):=zbj (by omega) (by omega);have a2:4294967296^ys.length≤4294967296^(max xs.length ys.length):=zbj (by omega) (by omega);rw[zax];omega
theorem yI9 {Ψ:PV}{n:Nat}{z:Int}[h:VZ Ψ n z](hn:n≤1000000):CTy prog 63 [Ψ] (exP (.int .i64 z.sign)):=by
 refine yI (σs:=[ag (ztq n z)]) ?_ (fs1 vz_q fs0);refine fw [.tmp 2] func63 fun X=>?_;iterate 2 refine u ?_
 refine tbx rfl fun b1=>?_;repeat refine u ?_
 refine zB rfl rfl (uY (by omega)) ?_;repeat refine u ?_
 refine zA1 (oldf 0 1 rfl rfl rfl rfl) ?_;repeat refine u ?_
 refine ti (fun c0=>?_) fun c0=>?_;repeat refine u ?_
 refine e ?_;refine ps_i ?_;rotate_left;repeat refine u ?_
 refine zA1 (oldf 0 0 rfl rfl rfl rfl) ?_;repeat refine u ?_
 refine ti (fun c1=>?_) fun c1=>?_;repeat refine u ?_
 refine e ?_;refine ps_i ?_;rotate_left;repeat refine u ?_
 refine e ?_;refine ps_i ?_;rotate_left
 ·have h1:=dt c0;have h2:=@zP z.natAbs;rw[show z=0 by omega];rfl
 ·have h2:=dt c1;rw[zcP h2]
 ·have h1:=df c0;have h2:=df c1;have h3:=@zP z.natAbs;rw[zcQ (by omega)]
theorem yR3 {Ψ:PV}{n:Nat}{z:Int}[h:VZ Ψ n z](hn:n≤1000000):CTy prog 146 [Ψ] (ag (ztc n (-z))):=ctz1 (bo func146) fun a h0 h1 h2=>by
 refine fw [.cell 2 27] func146 fun X=>?_;iterate 3 refine u ?_
 refine u fun b2=>?_;repeat refine u ?_
 refine zB rfl rfl (uY (by omega)) ?_;repeat refine u ?_
 refine e ?_;exact bA (by subst h2;unfold zv;cases a.1<;>simp) h1
theorem w5two {a b:Bool×List Nat}{N:Nat}{y z:Int}(la:∀ x∈a.2,x<4294967296)(lb:∀ x∈b.2,x<4294967296)(ha:a.2.length≤1000000)(hb:b.2.length≤1000000)(hN:max a.2.length b.2.length+1≤N)(hy:zv a.1 a.2=y)(hz:zv b.1 b.2=z):CTy prog 214 [ag (itx a),ag (itx b)] (ag (ztc N (y+z))):=by
 have hs:(limbs (val a.2+val b.2)).length≤max a.2.length b.2.length+1:=zT7 (yJ _ la) (yJ _ lb) (zab _);have hs2:(limbs (List.map val [a.2,b.2]).sum).length≤max a.2.length b.2.length+1:=by simpa using hs
 have hd1:(limbs (val a.2-val b.2)).length≤max a.2.length b.2.length+1:=zac (zX (by omega)) hs;have hd2:(limbs (val b.2-val a.2)).length≤max a.2.length b.2.length+1:=zac (zX (by omega)) hs;refine fw [.cell 4 27] func214 fun X=>?_;iterate 4 refine u ?_
 refine u fun b4=>?_;repeat refine u ?_
 refine ti (fun c0=>?_) fun c0=>?_;refine u ?_;refine zK 10 mixed rfl rfl ?_;repeat refine u ?_
 refine zC rfl rfl (yJ4 (xss:=[a.2,b.2]) (by(simp;omega)) (by(simp;done))) ?_;repeat refine u ?_
 refine zC rfl rfl (uY (by omega)) ?_;repeat refine u ?_
 refine e ?_;rotate_left;repeat refine u ?_
 refine zB rfl rfl (zL1 (by omega) (by omega)) ?_;repeat refine u ?_
 refine ti (fun c1=>?_) fun c1=>?_;repeat refine u ?_
 refine zB rfl rfl (uY (by omega)) ?_;repeat refine u ?_
 refine e ?_;rotate_left;repeat refine u ?_
 refine zB rfl rfl (zL1 (by omega) (by omega)) ?_;repeat refine u ?_
 refine zB rfl rfl (uY (by omega)) ?_;repeat refine u ?_
 refine e ?_;rotate_left
 ·have h0:a.1=b.1:=eq_of_beq c0.h;exact bA (by
   subst hy hz;rw[zI];simp only[List.map_cons,List.map_nil,List.sum_cons,List.sum_nil];unfold zv;rw[h0];split<;>omega) (by omega)
 ·have h0:a.1≠b.1:=fun e=>by have:=c0.h;rw[e] at this;simp at this
  have h1:val b.2≤val a.2:=by have:=dt c1;split at this<;>omega
  exact bA (by
   subst hy hz;rw[zI];unfold zv;cases ea:a.1<;>cases eb:b.1<;>simp[ea,eb] at h0 ⊢ <;> omega) (by omega)
 ·have h0:a.1≠b.1:=fun e=>by have:=c0.h;rw[e] at this;simp at this
  have h1:val a.2<val b.2:=by have:=df c1;split at this<;>omega
  exact bA (by
   subst hy hz;rw[zI];unfold zv;cases ea:a.1<;>cases eb:b.1<;>simp[ea,eb] at h0 ⊢ <;> omega) (by omega)
theorem k5two {Ψ Φ:PV}{n m N:Nat}{y z:Int}[h:VZ Ψ n y][h':VZ Φ m z](hn:n≤1000000)(hm:m≤1000000)(hN:max n m+1≤N):CTy prog 214 [Ψ,Φ] (ag (ztc N (y+z))):=ctz2 (bo func214) fun a b la ha hy lb hb hz=>w5two la lb (by omega) (by omega) (by omega) hy hz
theorem z0_ok {n:Nat}{M:Nat→Prop}{w:World}{us:List Value}(h:stp (zc (.agg #[.bool false,.slice none 0 0])) M w us):stp [ztc n 0] M w us:=by
 obtain⟨x,y,rfl,⟨rfl,_⟩,z,o,rfl,⟨rfl,_⟩,h3⟩:=h;obtain rfl:o=[]:=h3;exact⟨[.bool false,.slice none 0 0],[],rfl,⟨false,_,rfl,zc_zero⟩,rfl⟩
theorem w5add {l:List Int}{n:Nat}(hn:n≤390000)(hl:l.length≤2):CTy prog 145 [sv (sl 2 (l.map (ztq n)))] (ag (ztc (n+2) l.sum)):=by
 refine fw [.cell 2 27] func145 fun X=>?_;iterate 2 refine u ?_
 refine u fun b2=>?_;iterate 3 refine u ?_
 refine u fun b3=>?_;repeat refine u ?_
 refine t_ts (jP (cs':=[ztc (n+0) 0]) 0 rfl z0_ok) ?_;refine lp (σ:=Nat) [0,2,3] (fun s=>[(4,True,zJ s)]) (fun s=>[.blk b3 27 [ztc (n+s) (l.take s).sum],.blk b2 27 (zc (.agg #[.bool false,.slice none 0 0]))]) (fun s=>s≤l.length) (fun s=>l.length-s) (0) ((by simp)) fun s hJ Y _=>?_;repeat refine u ?_
 refine ti (fun c0=>?_) fun c0=>?_;iterate 3 refine u ?_
 refine zK 7 mixed rfl rfl ?_;repeat refine u ?_
 refine d1 (oix _ rfl rfl rfl (fun _=>rfl) (fun _=>(by(have e0:=dt c0;omega)))) ?_;repeat refine u ?_
 refine zC rfl rfl (uY (by omega)) ?_;refine zC rfl rfl (k5two (N:=n+s+1) (by omega) (by omega) (by omega)) ?_;repeat refine u ?_
 rotate_left;repeat refine u ?_
 refine zB rfl rfl (uY (by omega)) ?_;repeat refine u ?_
 refine e ?_;rotate_left
 ·refine⟨s+1,tes ?_ ?_ ?_,(by(have e0:=dt c0;omega)),(by(have e0:=dt c0;omega))⟩;refine zA rfl tn;refine zA rfl (zA rfl (zA rfl tn));rw[sum_take (by have:=dt c0;omega)];exact zaa _
 ·have h0:s=l.length:=by have:=df c0;omega
  subst h0;exact bA (by rw[zaF]) (by omega)
theorem yO1 {N n:Nat}{b:Bool}{z:Int}(h1:b=decide (z<0))(h2:n=z.natAbs)(h3:(limbs n).length≤N):PSub (ag (st [xc (.bool b),ntx (limbs n)])) (ag (ztc N z)):=fun M w v ⟨us,e,x,y,e1,⟨e2,_⟩,u,o,e3,⟨a,e4,g⟩,e5⟩=>by
 subst h1 h2 e2 e4;obtain rfl:o=[]:=e5;exact⟨us,e,_,a,by rw[e1,e3];rfl,rfl,g,h3⟩
theorem k5of {k N:Nat}(hk:k<9223372036854775808)(hN:2≤N):CTy prog 117 [zJ k] (ag (ztc N ((k:Nat):Int))):=by
 have h2:(limbs k).length≤2:=zS (by omega);refine fw [.cell 2 27] func117 fun X=>?_;iterate 2 refine u ?_
 refine u fun b2=>?_;repeat refine u ?_
 refine gZ rfl rfl ?_;repeat refine u ?_
 refine zB rfl rfl (k1of (by omega)) ?_;repeat refine u ?_
 refine zD 0 rfl rfl ?_;repeat refine u ?_
 refine⟨[_],zL 0 rfl rs0,yD ?_⟩;exact yO1 (z:=((k:Nat):Int)) (decide_eq_false (by omega)).symm (by omega) (by omega)
theorem k5normM {Ψ:PV}{n N:Nat}{y z:Int}[h:VZ Ψ n y](hn:n≤100000000)(hN:(limbs y.natAbs).length≤N)(e:y=z):CTy prog 144 [Ψ] (ag (ztc N z)) :=
 ⟨(uY (h:=h) hn).bod,fun M w vs hM hT hv=>((uY (h:=h) hn).run M w vs hM hT hv).mono fun r w' ⟨hB,us,e1,s,a,e2,g⟩=>⟨hB,by subst e;exact⟨us,e1,s,a,e2,g.sgn,g.num,hN⟩⟩⟩
abbrev zx (a:Bool×List Nat):Int:=zv a.1 a.2
instance:Df (Bool×List Nat):=⟨(false,[])⟩
theorem lI (a:Bool×List Nat):(zx a).natAbs=val a.2:=by unfold zx zv;split<;>omega
theorem mul_z (p:Int)(a:Bool×List Nat):(if (!(decide (p<0) == a.1))=true then -((val (limbs (val (limbs p.natAbs)*val a.2)):Nat):Int) else((val (limbs (val (limbs p.natAbs)*val a.2)):Nat):Int))=p*zx a:=by
 rw[zI,zI,zcc];unfold zx zv;rcases Decidable.em (p<0) with h | h
 ·have e:((p.natAbs:Nat):Int) = -p:=by omega
  rw[decide_eq_true h,e];cases a.1<;>simp[Int.neg_mul,Int.mul_neg]
 ·have e:((p.natAbs:Nat):Int)=p:=by omega
  rw[decide_eq_false (by omega),e];cases a.1<;>simp[Int.neg_mul,Int.mul_neg]
theorem zV2 {l:List (Bool×List Nat)}{s:Nat}(h:s<l.length):xT ((l.map zx).take (s+1))=xT ((l.map zx).take s)*zx (l.getD s Df.d):=by
 rw[prod_take (by simpa using h)];simp[zah,zag h]
theorem w5mul {l:List (Bool×List Nat)}{n:Nat}(hn:n≤100000)(hl:l.length≤2)(hb:∀ a∈l,(∀ x∈a.2,x<4294967296)∧a.2.length≤n):CTy prog 66 [sv (sl 2 (l.map itx))] (ag (ztc (2*n+2) (xT (l.map zx)))):=by
 refine fw [.cell 2 27] func66 fun X=>?_;iterate 2 refine u ?_
 refine u fun b2=>?_;repeat refine u ?_
 refine zB rfl rfl (k5of (k:=1) (N:=2+0*n) (by omega) (by omega)) ?_;refine u fun b3=>?_;repeat refine u ?_
 refine lp (σ:=Nat) [0,2,3] (fun s=>[(4,True,zJ s)]) (fun s=>[.blk b3 27 [ztc (2+s*n) (xT ((l.map zx).take s))],.blk b2 27 (zc (.agg #[.bool false,.slice none 0 0]))]) (fun s=>s≤l.length∧(limbs (xT ((l.map zx).take s)).natAbs).length≤2+s*n) (fun s=>l.length-s) (0) (⟨by simp,by simp[xT,xQ]⟩) fun s hJ Y _=>?_;obtain⟨j1,j2⟩:=hJ;have hs2:s*n≤2*n:=zaU n (by omega);have hs3:(s+1)*n=s*n+n:=zco _ _;have hg:s<l.length→(∀ x∈(l.getD s Df.d).2,x<4294967296)∧(l.getD s Df.d).2.length≤n:=fun h=>hb _ (by rw[zah,zag h];exact zaP h);have hm:s<l.length→(limbs (val (limbs (xT (List.take s (List.map zx l))).natAbs)*val (l.getD s Df.d).2)).length≤2+s*n+n:=fun h=>by
  obtain⟨g1,g2⟩:=hg h;refine zac (kF (yJ _ (yF _)) (yJ _ g1)) ?_;omega
 repeat refine u ?_
 refine ti (fun c0=>?_) fun c0=>?_;iterate 3 refine u ?_
 refine zK 18 mixed rfl rfl ?_;repeat refine u ?_
 refine d1 (oldf 0 0 rfl rfl rfl rfl) ?_;repeat refine u ?_
 refine d1 (oix _ rfl rfl rfl (fun _=>rfl) (fun _=>(by(have e0:=dt c0;omega)))) ?_;repeat refine u ?_
 refine d1 (oldf 0 1 rfl rfl rfl rfl) ?_;repeat refine u ?_
 refine d1 (oix _ rfl rfl rfl (fun _=>rfl) (fun _=>(by(have e0:=dt c0;omega)))) ?_;repeat refine u ?_
 refine zC rfl rfl (k2mulx (by omega) (by(have e0:=dt c0;omega))) ?_;repeat refine u ?_
 refine zC rfl rfl (k5normM (N:=2+(s+1)*n) (z:=xT ((l.map zx).take (s+1))) (by(have e0:=dt c0;omega)) ?_ ?_) ?_;rotate_left;rotate_left;repeat refine u ?_
 rotate_left;repeat refine u ?_
 refine e ?_;rotate_left
 ·have h1:=hm (by have:=dt c0;omega);have e4:∀(c:Bool) (k:Nat),(if c=true then -((k:Nat):Int) else((k:Nat):Int)).natAbs=k:=fun c k=>by split<;>omega
  rw[e4,zI];omega
 ·rw[zV2 (by have:=dt c0;omega),← mul_z]
 ·have h0:s<l.length:=by have:=dt c0;omega
  have h1:=hm h0;refine⟨s+1,tes ?_ ?_ (zaa _),?_,(by omega)⟩;refine zA rfl tn;refine zA rfl (zA rfl (zA rfl tn));refine⟨by omega,?_⟩;rw[zV2 h0,zbH,lI];rw[zI] at h1;omega
 ·have h0:s=l.length:=by have:=df c0;omega
  subst h0;exact bA (by rw[zaz (by simp)]) (by omega)
theorem yB3 {M:Nat→Prop}{w:World}{n:Nat}{l:List Int}{v:Value}(h:ZL M w n l v):∃ ls:List (Bool×List Nat),(sl 2 (ls.map itx)).p M w [v]∧ls.map zx=l∧∀ a∈ls,(∀ x∈a.2,x<4294967296)∧a.2.length≤n:=by
 obtain⟨cs,h1,h2⟩:=h.row;have h3:∀ i,i<l.length→∃ a:Bool×List Nat,zx a=l.getD i 0∧(∀ x∈a.2,x<4294967296)∧a.2.length≤n∧∃ us:List Value,us.length=2∧(∀(q:Nat) (u:Value),us[q]? = some u→cs[i*2+q]? = some u)∧(itx a).p M w us:=fun i hi=>by
  obtain⟨us,g1,g2,s,a,rfl,g3⟩:=h2 i _ (zag hi);obtain⟨xs,k1,k2,k3⟩:=g3.ex;exact⟨(s,xs),by rw[zah,zag hi];exact k3,k1.lt,k2,_,g1,g2,[.bool s],[a],rfl,⟨rfl,rfl⟩,[a],[],rfl,⟨a,rfl,k1⟩,rfl⟩
 let Y:Nat→Bool×List Nat:=fun i=>if h:i<l.length then Classical.choose (h3 i h) else(false,[])
 have hY:∀ i,i<l.length→zx (Y i)=l.getD i 0∧(∀ x∈(Y i).2,x<4294967296)∧(Y i).2.length≤n∧∃ us:List Value,us.length=2∧(∀(q:Nat) (u:Value),us[q]? = some u→cs[i*2+q]? = some u)∧(itx (Y i)).p M w us:=fun i hi=>by simp only[Y,dif_pos hi];exact Classical.choose_spec (h3 i hi)
 refine⟨(List.range l.length).map Y,?_,?_,fun a ha=>?_⟩
 ·refine aY (R:=fun M w a us=>(itx a).p M w us) (fun _=>rfl) (fun _ _ _ h=>h) ⟨cs,by simpa using h1,fun i a hi=>?_⟩;obtain⟨hlt,rfl⟩:=zaL.1 hi;have:=(hY i (by simpa using hlt)).2.2.2;simpa using this
 ·apply List.ext_getElem (by simp);intro i h4 h5;have:=(hY i h5).1;simpa [List.getD_eq_getElem?_getD,List.getElem?_eq_getElem h5] using this
 ·obtain⟨i,hi,rfl⟩:=zai.1 ha;obtain⟨_,g1,g2,_⟩:=hY i (zbq.1 hi);exact⟨g1,g2⟩
theorem zL0 {Ψ:PV}{n:Nat}{l:List Int}[h:VZL Ψ n l](hn:n≤100000)(hl:l.length≤2):CTy prog 66 [Ψ] (ag (ztc (2*n+2) (xT l))) :=
 ⟨(bo func66),fun M w vs hM hT hv=>by
  obtain⟨v,rfl,h1⟩:=fa1 hv;obtain⟨ls,k1,k2,k3⟩:=yB3 (h.h h1);subst k2;exact(w5mul hn (by simpa using hl) k3).run M w _ hM hT ⟨_,_,rfl,k1,rfl⟩⟩
theorem yR4 {Ψ:PV}{n:Nat}{l:List Int}[h:VZL Ψ n l](hn:n≤390000)(hl:l.length≤2):CTy prog 145 [Ψ] (ag (ztc (n+2) l.sum)) :=
 yI (w5add hn hl) (fs1 (fun M w v hv=>aY (fun _=>rfl) (fun a us _ h=>h) (h.h hv).row) fs0)
theorem k5sub {Ψ Φ:PV}{n m:Nat}{y z:Int}[h:VZ Ψ n z][h':VZ Φ m y](hn:n≤380000)(hm:m≤380000):CTy prog 65 [Ψ,Φ] (ag (ztc (max n m+2) (z-y))):=by
 refine yI (σs:=[ag (ztq n z),ag (ztq m y)]) ?_ (fs1 vz_q (fs1 vz_q fs0));refine fw [.cell 4 27] func65 fun X=>?_;iterate 4 refine u ?_
 refine u fun b4=>?_;iterate 2 refine u ?_
 refine zK 5 mixed rfl rfl ?_;repeat refine u ?_
 refine zC rfl rfl (yR3 (by omega)) ?_;repeat refine u ?_
 refine zC rfl rfl (yR4 (by omega) (by(simp;done))) ?_;repeat refine u ?_
 refine e ?_;exact bA (by simp;omega) (zab _)
theorem k5told {n m:Nat}{y z:Int}:CTy prog 186 [ag (ztc n y),ag (ztc m z)] (exP (.bool (decide (y=z)))):=by
 refine fw [.tmp 4] func186 fun X=>?_;repeat refine u ?_
 refine t1g rfl rfl (oca rfl rfl fun g=>yJ2) ?_;repeat refine u ?_
 refine e ?_;refine psb ?_;rw[zcz];simp only[zaq,beq_iff_eq,decide_eq_true_eq];constructor
 ·rintro⟨h1,h2⟩;have h3:y.natAbs=z.natAbs:=by have:=congrArg val h2;rwa [zI,zI] at this
  rw[decide_eq_decide] at h1;omega
 ·rintro rfl;exact⟨rfl,rfl⟩
theorem nJ {α:Type}[Df α]{l:List α}{s:Nat}(h:s<l.length):l.getD s Df.d∈l:=by rw[zah,zag h];exact zaP h
def pk (ty:TypeId)(c:CT):PV:=⟨fun M w v=>∃ b us,v = .pointer (some ⟨b,0,none⟩)∧KBlk M w b ty us∧c.p M w us,fun⟨b,us,e,h,k⟩ l=>let g:=l b _ _ _ h.not h.blk;⟨b,us,e,⟨g.2,g.1⟩,c.mono k l⟩⟩
theorem zI8 {ty:TypeId}{c:CT}:PSub (pk ty c) (pa (st [c])):=fun M w v ⟨b,x,e,h,k⟩=>⟨b,0,x,e,h.not,⟨x.toArray,ty,(0,0),h.blk,fun j v hj=>by simpa using hj⟩,x,[],(List.append_nil x).symm,k,rfl⟩
theorem jX {P:Program}{f:FuncId}{τs:List PV}{ρ σ:PV}(h:CTy P f τs ρ)(k:PSub ρ σ):CTy P f τs σ:=⟨h.bod,fun M w vs a b c=>(h.run M w vs a b c).mono fun r w' ⟨hB,g⟩=>⟨hB,k _ _ _ g⟩⟩
theorem yK9 {P:Program}{f:FuncId}{τs:List PV}{ty:TypeId}{c:CT}(h:CTo P f τs [] (fun r So=>∃ b,r=zU b 0∧So=[.blk b ty [c]])):CTy P f τs (pk ty c) :=
 ⟨h.bod,fun M w vs hM hT hv=>by
  have e:Mk [] M=M:=by funext k;simp[Mk]
  refine(h.run M w vs ⟨by rw[e];exact hM,by rw[e];exact hT,fun _ h=>by simp at h⟩ trivial (fun b ⟨o,h,_⟩=>by simp at h) hM (by rw[e];exact hv)).mono fun v w' ⟨hb,ρ,So,⟨b,e1,e2⟩,hg,_,hn,hρ⟩=>⟨⟨hb.os,hb.tape,hb.output,hb.size,fun k hk=>hb.block k hk fun⟨o,h,_⟩=>by simp at h⟩,?_⟩;subst e1 e2;obtain⟨us,g1,x,y,rfl,g2,g3⟩:=hg.own _ (zak.2 rfl);obtain rfl:y=[]:=g3;rw[zas] at g1;have hb':w.heap.size≤b:=(hn b ⟨_,zak.2 rfl,rfl⟩).elim id fun⟨o,h,_⟩=>by simp at h
  exact⟨b,x,hρ,⟨g1,fun c=>by have:=hM b c;omega⟩,c.mono g2 (Cl.less fun k hk => .inr hk)⟩⟩
theorem ctoW {P:Program}{f:FuncId}{τs σs:List PV}{Si:List Ow}{Q:PV→List Ow→Prop}(h:CTo P f σs Si Q)(k:Fsub τs σs):CTo P f τs Si Q:=⟨h.bod,fun M w vs a b c d e=>h.run M w vs a b c d (k _ _ _ e)⟩
theorem zQ5 {n:Nat}{z:Int}{M:Nat→Prop}{w:World}{us:List Value}(h:stp [ztc n z] M w us):stp [xc (.bool (decide (z<0))),ntx (limbs z.natAbs)] M w us:=by
 obtain⟨x,y,rfl,⟨s,a,rfl,g⟩,h2⟩:=h;obtain rfl:y=[]:=h2;exact⟨[.bool s],[a],rfl,⟨by rw[g.sgn],rfl⟩,[a],[],rfl,⟨a,rfl,g.num⟩,rfl⟩
theorem z_join {N k:Nat}{z:Int}{s:Bool}{M:Nat→Prop}{w:World}{us:List Value}(h1:s=decide (z<0))(h2:k=z.natAbs)(h3:(limbs k).length≤N)(h:stp [xc (.bool s),ntx (limbs k)] M w us):stp [ztc N z] M w us:=by
 subst h2;obtain⟨x,y,rfl,k1,u,o,e2,⟨a,k2,k3⟩,e3⟩:=h;obtain⟨rfl,_⟩:=k1;obtain rfl:o=[]:=e3;subst k2;exact⟨[.bool s,a],[],by rw[e2];rfl,⟨s,a,rfl,h1,k3,h3⟩,rfl⟩
theorem zw_neg {s:Bool}{xs:List Nat}:(s&&decide (((0:Nat):Int)<(((limbs (val xs)).length:Nat):Int)))=decide (zv s xs<0):=by
 have h0:=@zP (val xs);unfold zv;cases s with
 | false=>simp<;>omega
 | true =>
  simp only[Bool.true_and,if_true];rw[decide_eq_decide];omega
theorem yB1 {s:Bool}{xs:List Nat}:val xs=(zv s xs).natAbs:=by unfold zv;split<;>omega
theorem yF4 {c c':CT}(h:∀ M w us,c.p M w us→c'.p M w us):PSub (pa c) (pa c'):=fun M w v ⟨b,o,us,e,h1,h2,h3⟩=>⟨b,o,us,e,h1,h2,h _ _ _ h3⟩
theorem iI {l:List CT}{M:Nat→Prop}{w:World}{us:List Value}(h:stp [st l] M w us):stp l M w us:=by
 obtain⟨x,y,e,g,h2⟩:=h;obtain rfl:y=[]:=h2;rw[e,zas];exact g
theorem yN4 {l:List CT}{M:Nat→Prop}{w:World}{us:List Value}(h:stp l M w us):stp [st l] M w us:=⟨us,[],(zas us).symm,h,rfl⟩
theorem onrm {b N:Nat}{s:Bool}{xs:List Nat}{z:Int}(hl:xs.length≤1000000000)(hN:(limbs z.natAbs).length≤N)(hz:zv s xs=z) :
  CTo prog 289 [zU b 0] [.blk b 240 [xc (.bool s),ntx xs]] (fun r So=>r=zU b 0∧So=[.blk b 240 [ztc N z]]):=by
 subst hz;refine fwo [.tmp 2] func289 fun X=>?_;repeat refine u ?_
 refine zB rfl rfl (kE (by omega)) ?_;repeat refine u ?_
 refine zA1 (zG 0 rfl) ?_;repeat refine u ?_
 refine zD 0 rfl rfl ?_;iterate 3 refine u ?_
 refine zO (jP (cs':=[ztc N (zv s xs)]) 0 rfl (z_join zw_neg yB1 (by rw[yB1 (s:=s)];exact hN))) (zA1 (omv rfl) ?_);repeat refine u ?_
 exact⟨[_],_,_,rst rfl rs0,zaa _,⟨rfl,rfl⟩,yD (PSub.refl _)⟩
theorem oiof {a:Bool×List Nat}{N:Nat}(hx:∀ x∈a.2,x<4294967296)(hl:a.2.length≤1000000000)(hN:a.2.length≤N):CTo prog 223 [ag (itx a)] [] (fun r So=>∃ b,r=zU b 0∧So=[.blk b 240 [ztc N (zx a)]]):=by
 refine fwo [.tmp 2] func223 fun X=>?_;iterate 9 refine u ?_
 refine tbx rfl fun b5=>?_;refine zO (jP (cs':=[xc (.bool a.1),ntx a.2]) 0 rfl fun h=>iI h) ?_;refine tco [0] rfl rfl rfl (onrm hl (by rw[lI];exact zac (yP hx) hN) rfl) ?_;rintro _ _ ⟨rfl,rfl⟩;repeat refine u ?_
 exact er ⟨_,rfl,rfl⟩
instance {a:Bool×List Nat}:CZ (itx a) a.2.length (zx a):=⟨fun h=>CZ.h (c:=st [xc (.bool a.1),ntx a.2]) h⟩
theorem obze {P:Program}{r:Option Nat}{N:Nat}{ops:Array Oper}{M:Nat→Prop}{S:List Ow}{p:Prop}{Γ:TE}{d:Nat}{t t':TypeId}{pos:String}{af:Array Edge}{szs:List Nat}{zs:Array Value}[hp:TPl P t szs][tz:TZ P t (.agg zs)] :
  Ob P r N ops M S p ⟨some d,.build t #[],t',pos,af,none⟩ Γ (exP (.agg zs)):=fun D E w d' hd hN hg hp' hT=>by
 obtain rfl:=Option.some.inj hd;obtain⟨sz,bytes,hz⟩:=tz.s;exact fU (vs:=[]) (cs:=[]) (zs:=zs.toList) hN hp.h (by simpa using hz) rfl trivial rfl rfl (fin (by simp[updC];rfl))
instance {P:Program}{r:Option Nat}{N:Nat}{ops:Array Oper}{S:List Ow}{p:Prop}{Γ:TE}{t t':TypeId}{szs:List Nat}{zs:Array Value}[TPl P t szs][TZ P t (.agg zs)]:OB P r N ops S p (.build t #[]) t' Γ (exP (.agg zs)) True:=⟨fun _=>obze⟩
instance:VZ (exP (.agg #[.bool false,.slice none 0 0])) 0 0:=⟨fun e=>⟨false,_,e,[],fF,zab _,rfl⟩⟩
section
variable {Ψ Φ : PV} {n m k j : Nat} {y z : Int}
theorem ctoz {P:Program}{f:FuncId}{Q:PV→List Ow→Prop}[h:VZ Ψ n z](hb:Bod P f)(k:∀ a:Bool×List Nat,(∀ x∈a.2,x<4294967296)→a.2.length≤n→zv a.1 a.2=z→CTo P f [ag (itx a)] [] Q):CTo P f [Ψ] [] Q:=⟨hb,fun M w vs a b c d hv=>by
 obtain⟨v,rfl,h1⟩:=fa1 hv;obtain⟨s,x,rfl,g⟩:=h.h h1;obtain⟨b',b0,b1,b2,b3⟩:=pM g;exact(k b' b0 b1 b2).run M w _ a b c d ⟨_,_,rfl,b3,rfl⟩⟩
theorem yO8 {N:Nat}[h:VZ Ψ n z](hn:n≤1000000000)(hN:n≤N):CTo prog 223 [Ψ] [] (fun r So=>∃ b,r=zU b 0∧So=[.blk b 240 [ztc N z]]):=ctoz (bo func223) fun a h0 h1 h2=>by
 subst h2;exact oiof h0 (by omega) (by omega)
theorem kipk {N:Nat}[h:VZ Ψ n z](hn:n≤1000000000)(hN:n≤N):CTy prog 223 [Ψ] (pk 240 (ztc N z)):=ctz1 (bo func223) fun a h0 h1 h2=>by
 subst h2;exact yK9 (oiof h0 (by omega) (by omega))
theorem kipa [h:VZ Ψ n z](hn:n≤1000000000):CTy prog 223 [Ψ] (pa (st [ztc n z])):=jX (kipk hn (zab _)) zI8
theorem zX3 [h:VZ Ψ n z](hn:n≤1000000):CTy prog 284 [Ψ] (ag (ztc n z)):=by
 refine yI (σs:=[ag (ztq n z)]) ?_ (fs1 vz_q fs0);refine fw [.cell 2 27] func284 fun X=>?_;iterate 3 refine u ?_
 refine u fun b2=>?_;repeat refine u ?_
 refine zB rfl rfl (kipa (by omega)) ?_;repeat refine u ?_
 exact e
theorem yQ6 [h:VZ Ψ n z](hn:n≤1000000):CTy prog 288 [Ψ] (ag (ztc n (-z))):=ctz1 (bo func288) fun a h0 h1 h2=>by
 refine fw [.cell 2 27] func288 fun X=>?_;iterate 2 refine u ?_
 refine tbx rfl fun b1=>(u fun b2=>?_);repeat refine u ?_
 refine zA1 (oldf 1 0 rfl rfl rfl rfl) ?_;repeat refine u ?_
 refine zO (jP (cs':=[xc (.bool a.1),ntx a.2]) 1 rfl fun h=>iI h) ?_;refine zD 1 rfl rfl ?_;repeat refine u ?_
 refine zO (jP (cs':=[itx (!a.1,a.2)]) 1 rfl fun h=>yN4 h) ?_;refine zA1 (zG 1 rfl) (zB rfl rfl (zX3 (by(simp;omega))) ?_);refine zD 0 rfl rfl ?_;repeat refine u ?_
 refine⟨[_],zL 0 rfl rs0,yD ?_⟩;exact bA (by subst h2;unfold zx zv;cases a.1<;>simp) h1
theorem kiof {N:Nat}(hk:k<9223372036854775808)(hN:2≤N):CTy prog 188 [zJ k] (ag (ztc N ((k:Nat):Int))):=by
 have h2:(limbs k).length≤2:=zS (by omega);refine fw [.cell 2 27] func188 fun X=>?_;iterate 2 refine u ?_
 refine u fun b2=>?_;repeat refine u ?_
 refine gZ rfl rfl ?_;repeat refine u ?_
 refine zB rfl rfl (kof (by omega)) ?_;repeat refine u ?_
 refine zD 0 rfl rfl ?_;repeat refine u ?_
 refine⟨[_],zL 0 rfl rs0,yD ?_⟩;exact yO1 (z:=((k:Nat):Int)) (decide_eq_false (by omega)).symm (by omega) (by omega)
theorem vM [h:VN Ψ n k]:CTy prog 156 [Ψ] (ag (ztq n ((k:Nat):Int))):=by
 refine yI (σs:=[sv (ntq n k)]) ?_ (fs1 (fun M w v g=>⟨v,rfl,h.h g⟩) fs0);refine fw [.cell 2 27] func156 fun X=>?_;iterate 2 refine u ?_
 refine u fun b2=>?_;repeat refine u ?_
 refine zD 0 rfl rfl ?_;repeat refine u ?_
 refine⟨[_],zL 0 rfl rs0,yD ?_⟩;exact(vz_q:PSub (ag (st [xc (.bool false),ntq n k])) (ag (ztq n (if false=true then -((k:Nat):Int) else((k:Nat):Int)))))
theorem oiadd {b N:Nat}{s:Bool}{xs:List Nat}{a:Bool×List Nat}{z:Int}(hx:∀ x∈xs,x<4294967296)(ha:∀ x∈a.2,x<4294967296)(hn:xs.length≤400000)(hm:a.2.length≤400000)(hz:zv s xs+zx a=z)(hN:(limbs z.natAbs).length≤N) :
  CTo prog 336 [zU b 0,pa (st [itx a])] [.blk b 240 [xc (.bool s),ntx xs]] (fun r So=>r=tu []∧So=[.blk b 240 [ztc N z]]):=by
 have hs:(limbs (val xs+val a.2)).length≤400001:=zT7 (yJ _ hx) (yJ _ ha) (by omega);have hd1:(limbs (val xs-val a.2)).length≤400001:=zac (zX (by omega)) hs;have hd2:(limbs (val a.2-val xs)).length≤400001:=zac (zX (by omega)) hs;refine fwo [] func336 fun X=>?_;iterate 2 refine u ?_
 refine zK 11 mixed rfl rfl ?_;repeat refine u ?_
 refine d1 (zG 0 rfl) ?_;repeat refine u ?_
 refine ti (fun c0=>?_) fun c0=>?_;refine u ?_;refine zK 16 mixed rfl rfl ?_;repeat refine u ?_
 refine zC rfl rfl (pJ ⟨by omega,hx⟩ ⟨by omega,ha⟩) ?_;repeat refine u ?_
 rotate_left;iterate 2 refine u ?_
 refine zK 16 mixed rfl rfl ?_;repeat refine u ?_
 refine zC rfl rfl (yH8 (by omega) (by omega)) ?_;repeat refine u ?_
 refine ti (fun c1=>?_) fun c1=>?_;refine u ?_;refine zK 15 mixed rfl rfl ?_;repeat refine u ?_
 refine zC rfl rfl (yH8 (by omega) (by omega)) ?_;repeat refine u ?_
 refine zA1 (omv rfl) ?_;refine zA1 (omv rfl) ?_;repeat refine u ?_
 refine zD 0 rfl rfl ?_;repeat refine u ?_
 refine zA1 (omv rfl) ?_;repeat refine u ?_
 refine zD 0 rfl rfl ?_;repeat refine u ?_
 refine zA1 (omv rfl) ?_;rotate_left;repeat refine u ?_
 rotate_left;all_goals try omega
 ·refine tco [0] rfl rfl rfl (onrm (z:=z) (by omega) hN ?_) ?_
  ·subst hz;have h0:s=a.1:=eq_of_beq c0.h;unfold zx zv;simp only[zI];rw[h0];split<;>omega
  rintro _ _ ⟨rfl,rfl⟩;repeat refine u ?_
  exact⟨[],tu [],_,rs0,zaa _,⟨rfl,rfl⟩,mQ⟩
 ·refine tco [0] rfl rfl rfl (onrm (z:=z) (by omega) hN ?_) ?_
  ·subst hz;have h0:s≠a.1:=fun e=>by have:=c0.h;rw[e] at this;simp at this
   have h1:=dt c1;unfold zx zv;simp only[zI];cases ea:a.1<;>cases eb:s<;>simp[ea,eb] at h0 h1 ⊢ <;> omega
  rintro _ _ ⟨rfl,rfl⟩;repeat refine u ?_
  exact⟨[],tu [],_,rs0,zaa _,⟨rfl,rfl⟩,mQ⟩
 ·refine tco [0] rfl rfl rfl (onrm (z:=z) (by omega) hN ?_) ?_
  ·subst hz;have h0:s≠a.1:=fun e=>by have:=c0.h;rw[e] at this;simp at this
   have h1:=df c1;unfold zx zv;simp only[zI];cases ea:a.1<;>cases eb:s<;>simp[ea,eb] at h0 h1 ⊢ <;> omega
  rintro _ _ ⟨rfl,rfl⟩;repeat refine u ?_
  exact⟨[],tu [],_,rs0,zaa _,⟨rfl,rfl⟩,mQ⟩
theorem oimul {b N:Nat}{s:Bool}{xs:List Nat}{a:Bool×List Nat}{z:Int}(hx:∀ x∈xs,x<4294967296)(ha:∀ x∈a.2,x<4294967296)(hn:xs.length≤400000)(hm:a.2.length≤400000)(hz:zv s xs*zx a=z)(hN:(limbs z.natAbs).length≤N) :
  CTo prog 225 [zU b 0,pa (st [itx a])] [.blk b 240 [xc (.bool s),ntx xs]] (fun r So=>r=tu []∧So=[.blk b 240 [ztc N z]]):=by
 refine fwo [] func225 fun X=>?_;refine u ?_;apply aX 28 0 27 [0,1,0,0,0,0,0,0,0,0,0,0,0,0,0,0,0,0,0,0,0,0,0,0,0,0,0,2] [xc (.bool (!(s == a.1))),ntx xs] rfl mixed rfl rfl;repeat refine u ?_
 refine tdx0 ?_;refine d1 (zG 0 rfl) ?_;repeat refine u ?_
 refine tdx0 (zC rfl rfl (yH6 (by omega) (by omega)) ?_);repeat refine u ?_
 refine tdx2 rfl (ckvt rfl rfl rfl rfl rfl rfl) ?_;repeat refine u ?_
 refine zD 0 rfl rfl ?_;repeat refine u ?_
 all_goals try omega
 have hl:=kF (yJ _ hx) (yJ _ ha);refine tco [0] rfl rfl rfl (onrm (z:=z) ?_ hN ?_) ?_
 ·omega
 ·subst hz;unfold zx zv;simp only[zI];cases s<;>cases h:a.1<;>simp[zcc,Int.neg_mul,Int.mul_neg]
 rintro _ _ ⟨rfl,rfl⟩;repeat refine u ?_
 exact⟨[],tu [],_,rs0,zaa _,⟨rfl,rfl⟩,mQ⟩
theorem yR8 {l:List (Bool×List Nat)}(h:∀ a∈l,(∀ x∈a.2,x<4294967296)∧a.2.length≤n)(hn:n≤400000)(hL:l.length≤1000000):CIt prog 290 [pa (sl 2 (l.map itx))] l (fun a=>[pa (st [ztc n (zx a)])]):=by
 refine cit func290 rfl rfl rfl rfl rfl fun X y YS YX hY hS=>?_;repeat refine u ?_
 refine lpy (σ:=Nat) [0,5,6] (fun i=>[(7,True,zJ i)]) (fun i=>[]) (fun i Y=>YS (l.take i) Y∧i≤l.length) (fun i=>l.length-i) (0) (⟨hS,by omega⟩) fun i Y hG=>?_;obtain⟨hS,hi⟩:=hG;have hg:i<l.length→(l.getD i Df.d).2.length≤n:=fun h2=>(h _ (nJ h2)).2;repeat refine u ?_
 refine ti (fun c0=>?_) fun c0=>?_;repeat refine u ?_
 refine zA1 (oix _ rfl rfl rfl (fun _=>rfl) (fun _=>(by(have e0:=dt c0;omega)))) ?_;refine u ?_;refine u fun b4=>?_;refine u ?_;refine zO (zY (s:=4) 0 rfl rfl) ?_;repeat refine u ?_
 refine zB rfl rfl (jX (kipk (N:=n) (by(have e0:=dt c0;omega)) (by(have e0:=dt c0;omega))) zI8) ?_;rotate_left;repeat refine u ?_
 rotate_left
 ·have h2:i<l.length:=by have:=dt c0;omega
  have h3:=zT (Df.d:Bool×List Nat) h2;refine gM hY hS h3.2 rfl rfl (fs1 (PSub.refl _) fs0) (fun Y hS=>?_) (fun Y hX=>?_)
  ·repeat refine u ?_
   refine gZ rfl rfl ?_;repeat refine u ?_
   refine⟨i+1,tes ?_ ?_ (zaa _),?_,(by omega)⟩;refine zA rfl tn;refine zA rfl (zA rfl (zA rfl tn));exact⟨by rw[h3.1];exact hS,by omega⟩
  ·repeat refine u ?_
   refine kD rfl rfl ?_;repeat refine u ?_
   exact .inr hX
 ·have:i=l.length:=by have:=df c0;omega
  subst this;rw[zaF] at hS;exact .inl hS
theorem yQ7 {l:List (Bool×List Nat)}:CTy prog 224 [sv (sl 2 (l.map itx))] (fn 290 [pa (sl 2 (l.map itx))]):=by
 refine fw [.tmp 2] func224 fun X=>?_;repeat refine u ?_
 exact e
theorem yB4 {M:Nat→Prop}{w:World}{us:List Value}(h:(st [ztc n z]).p M w us):(st [itx (decide (z<0),limbs z.natAbs)]).p M w us:=yN4 (zQ5 h)
theorem tM:zx (decide (z<0),limbs z.natAbs)=z:=by
 unfold zx zv;rw[zI];by_cases h:z<0<;>simp[h]<;>omega
theorem sum_snocI (t:List (Bool×List Nat))(x:Bool×List Nat):((t++[x]).map zx).sum=(t.map zx).sum+zx x:=by simp
theorem addz_len {x:Int}{m:Nat}(h1:(limbs z.natAbs).length≤m)(h2:(limbs x.natAbs).length≤m):(limbs (z+x).natAbs).length≤m+1:=by
 have a:=zV h1;have b:=zV h2;refine zS ?_;rw[zax];omega
theorem mulz_len {x:Int}{m j:Nat}(h1:(limbs z.natAbs).length≤m)(h2:(limbs x.natAbs).length≤j):(limbs (z*x).natAbs).length≤m+j:=by
 rw[zbH];exact zS (xU (zV h1) (zV h2))
theorem oiaddz {b N:Nat}{x:Int}(h1:(limbs z.natAbs).length≤400000)(h2:(limbs x.natAbs).length≤400000)(hN:(limbs (z+x).natAbs).length≤N) :
  CTo prog 336 [zU b 0,pa (st [ztc n x])] [.blk b 240 [xc (.bool (decide (z<0))),ntx (limbs z.natAbs)]] (fun r So=>r=tu []∧So=[.blk b 240 [ztc N (z+x)]]) :=
 ctoW (oiadd (z:=z+x) (yF _) (yF _) h1 h2 (by rw[tM];exact congrArg (· + x) (tM (z:=z))) hN) (fs1 (PSub.refl _) (fs1 (yF4 fun _ _ _=>yB4) fs0))
theorem oimulz {b N:Nat}{x:Int}(h1:(limbs z.natAbs).length≤400000)(h2:(limbs x.natAbs).length≤400000)(hN:(limbs (z*x).natAbs).length≤N) :
  CTo prog 225 [zU b 0,pa (st [ztc n x])] [.blk b 240 [xc (.bool (decide (z<0))),ntx (limbs z.natAbs)]] (fun r So=>r=tu []∧So=[.blk b 240 [ztc N (z*x)]]) :=
 ctoW (oimul (z:=z*x) (yF _) (yF _) h1 h2 (by rw[tM];exact congrArg (· * x) (tM (z:=z))) hN) (fs1 (PSub.refl _) (fs1 (yF4 fun _ _ _=>yB4) fs0))
theorem wiadd {l:List (Bool×List Nat)}(h:∀ a∈l,(∀ x∈a.2,x<4294967296)∧a.2.length≤n)(hn:n≤399000)(hL:l.length≤900):CTy prog 287 [sv (sl 2 (l.map itx))] (ag (ztc (n+l.length) (l.map zx).sum)):=by
 have hz:∀ x∈l,(limbs (zx x).natAbs).length≤n:=fun x hx=>by rw[lI];exact zac (yP (h x hx).1) (h x hx).2
 refine fw [.cell 2 27] func287 fun X=>?_;iterate 2 refine u ?_
 refine u fun b2=>?_;repeat refine u ?_
 refine tcoB [] rfl rfl rfl (yO8 (n:=0) (z:=0) (N:=n) (by omega) (by omega)) fun b6=>(u fun b3=>?_);refine zD 0 rfl rfl (zO (zY (s:=3) 0 rfl rfl) ?_);repeat refine u ?_
 refine zB rfl rfl yQ7 ?_;repeat refine u ?_
 refine jZ (σ:=List (Bool×List Nat)) (fun t=>[.blk b6 240 [ztc (n+t.length) (t.map zx).sum],.blk b2 27 (zc (.agg #[.bool false,.slice none 0 0]))]) (fun pre t=>t=pre∧(limbs (t.map zx).sum.natAbs).length≤n+t.length) [] rfl (yR8 h (by omega) (by omega)) (fun _=>rfl) rfl kR rfl ⟨rfl,by simp[yG]⟩ (fun pre x post t hx hJ Y y hlp=>?_) (fun t hJ Y _=>?_)
 ·obtain⟨rfl,hr⟩:=hJ;have hx2:=hz x (by rw[hx];simp);have htl:t.length<l.length:=by rw[hx];simp
  have hr2:=addz_len hr (zac hx2 (Nat.le_add_right n t.length));repeat refine u ?_
  refine zA1 (oas rfl) ?_;repeat refine u ?_
  refine⟨rfl,fun Y hl=>?_⟩;repeat refine u ?_
  refine zA1 (old rfl rfl) ?_;repeat refine u ?_
  refine zO (jP (cs':=[xc (.bool (decide ((t.map zx).sum<0))),ntx (limbs (t.map zx).sum.natAbs)]) 0 rfl zQ5) (tcoR [0] rfl rfl rfl (oiaddz (by omega) (by omega) hr2) ?_);repeat refine u ?_
  refine⟨t++[x],?_,(by(simp;omega))⟩
  ·rw[sum_snocI,zal,zcr,← zaO];exact zaa _
 ·obtain⟨rfl,hr⟩:=hJ;repeat refine u ?_
  refine zA1 (zG 0 rfl) ?_;repeat refine u ?_
  exact e
theorem oP (t:List (Bool×List Nat))(x:Bool×List Nat):xT ((t++[x]).map zx)=xT (t.map zx)*zx x:=by simp[xT]
theorem wimul {l:List (Bool×List Nat)}(h:∀ a∈l,(∀ x∈a.2,x<4294967296)∧a.2.length≤n)(hn:n≤100000)(hL:l.length≤2):CTy prog 155 [sv (sl 2 (l.map itx))] (ag (ztc (2*n+2) (xT (l.map zx)))):=by
 have hz:∀ x∈l,(limbs (zx x).natAbs).length≤n:=fun x hx=>by rw[lI];exact zac (yP (h x hx).1) (h x hx).2
 refine fw [.cell 2 27] func155 fun X=>?_;iterate 2 refine u ?_
 refine u fun b2=>?_;repeat refine u ?_
 refine zB rfl rfl (kiof (k:=1) (N:=2) (by omega) (by omega)) ?_;refine tcoB [] rfl rfl rfl (yO8 (n:=2) (z:=1) (N:=2) (by omega) (by omega)) fun b6=>(u fun b3=>?_);refine zD 0 rfl rfl (zO (zY (s:=3) 0 rfl rfl) ?_);repeat refine u ?_
 refine zB rfl rfl yQ7 ?_;repeat refine u ?_
 refine jZ (σ:=List (Bool×List Nat)) (fun t=>[.blk b6 240 [ztc (n*t.length+2) (xT (t.map zx))],.blk b2 27 (zc (.agg #[.bool false,.slice none 0 0]))]) (fun pre t=>t=pre∧(limbs (xT (t.map zx)).natAbs).length≤n*t.length+2) [] rfl (yR8 h (by omega) (by omega)) (fun _=>rfl) rfl kR rfl ⟨rfl,by show (limbs 1).length≤_;rw[xQ];simp⟩ (fun pre x post t hx hJ Y y hlp=>?_) (fun t hJ Y _=>?_)
 ·obtain⟨rfl,hr⟩:=hJ;have hx2:=hz x (by rw[hx];simp);have htl:t.length<l.length:=by rw[hx];simp
  have hn2:n*t.length≤n*1:=zbo n (by omega);have hr2:(limbs (xT (t.map zx)*zx x).natAbs).length≤n*(t++[x]).length+2:=zac (mulz_len hr hx2) (by rw[zal,zcr,Nat.mul_succ];omega);repeat refine u ?_
  refine zA1 (oas rfl) ?_;repeat refine u ?_
  refine⟨rfl,fun Y hl=>?_⟩;repeat refine u ?_
  refine zA1 (old rfl rfl) ?_;repeat refine u ?_
  refine zO (jP (cs':=[xc (.bool (decide (xT (t.map zx)<0))),ntx (limbs (xT (t.map zx)).natAbs)]) 0 rfl zQ5) (tcoR [0] rfl rfl rfl (oimulz (by omega) (by omega) hr2) ?_);repeat refine u ?_
  refine⟨t++[x],?_,?_⟩;rotate_left;rotate_left
  ·rw[oP];exact zaa _
  ·exact⟨rfl,by rw[oP];exact hr2⟩
 ·obtain⟨rfl,hr⟩:=hJ;have:n*t.length≤n*2:=zbo n hL;repeat refine u ?_
  refine zA1 (zG 0 rfl) ?_;repeat refine u ?_
  refine e ?_;exact bA rfl (by omega)
theorem zl_i {l:List Int}[h:VZL Ψ n l]{P:Program}{f:FuncId}{ρ:PV}(hb:Bod P f)(k:∀ ls:List (Bool×List Nat),ls.map zx=l→(∀ a∈ls,(∀ x∈a.2,x<4294967296)∧a.2.length≤n)→CTy P f [sv (sl 2 (ls.map itx))] ρ):CTy P f [Ψ] ρ:=⟨hb,fun M w vs hM hT hv=>by
 obtain⟨v,rfl,h1⟩:=fa1 hv;obtain⟨ls,k1,k2,k3⟩:=yB3 (h.h h1);exact(k ls k2 k3).run M w _ hM hT ⟨_,_,rfl,k1,rfl⟩⟩
theorem sI {l:List Int}[h:VZL Ψ n l](hn:n≤100000)(hl:l.length≤2):CTy prog 155 [Ψ] (ag (ztc (2*n+2) (xT l))):=zl_i (h:=h) (bo func155) fun ls k1 k2=>by
 subst k1;exact wimul k2 hn (by simpa using hl)
theorem yI1 {l:List Int}[h:VZL Ψ n l](hn:n≤390000)(hl:l.length≤2):CTy prog 287 [Ψ] (ag (ztc (n+2) l.sum)):=zl_i (h:=h) (bo func287) fun ls k1 k2=>by
 subst k1;rw[zar] at hl;exact jX (wiadd k2 (by omega) (by omega)) (bA rfl (by omega))
theorem kisub [h:VZ Ψ n z][h':VZ Φ m y](hn:n≤380000)(hm:m≤380000):CTy prog 222 [Ψ,Φ] (ag (ztc (max n m+2) (z-y))):=by
 refine yI (σs:=[ag (ztq n z),ag (ztq m y)]) ?_ (fs1 vz_q (fs1 vz_q fs0));refine fw [.cell 4 27] func222 fun X=>?_;iterate 4 refine u ?_
 refine u fun b4=>?_;iterate 2 refine u ?_
 refine zK 5 mixed rfl rfl ?_;repeat refine u ?_
 refine zC rfl rfl (yQ6 (by omega)) ?_;repeat refine u ?_
 refine zC rfl rfl (yI1 (by omega) (by(simp;done))) ?_;repeat refine u ?_
 refine e ?_;exact bA (by simp;omega) (zab _)
theorem ctn2 {P:Program}{f:FuncId}{ρ:PV}[h:VN Ψ n k][h':VN Φ m j](hb:Bod P f)(g:∀ xs ys:List Nat,(∀ x∈xs,x<4294967296)→xs.length≤n→val xs=k→(∀ x∈ys,x<4294967296)→ys.length≤m→val ys=j→CTy P f [sv (ntx xs),sv (ntx ys)] ρ):CTy P f [Ψ,Φ] ρ:=⟨hb,fun M w vs hM hT hv=>by
 obtain⟨v,u,rfl,h1,h2⟩:=fa2 hv;obtain⟨xs,g1,g2,g3⟩:=(h.h h1).ex;obtain⟨ys,g4,g5,g6⟩:=(h'.h h2).ex;exact(g xs ys g1.lt g2 g3 g4.lt g5 g6).run M w _ hM hT ⟨_,_,rfl,⟨_,rfl,g1⟩,_,_,rfl,⟨_,rfl,g4⟩,rfl⟩⟩
theorem zI5 {N k:Nat}(h:(limbs k).length≤N):PSub (sv (ntx (limbs k))) (sv (ntc N k)):=fun M w v ⟨a,e,g⟩=>⟨a,e,mP g h,g⟩
theorem yH7 [h:VN Ψ n k][h':VN Φ m j](hn:n≤1000000)(hm:m≤1000000):CTy prog 246 [Ψ,Φ] (sv (ntc (n+m) (k*j))):=ctn2 (bo func246) fun xs ys h1 h2 h3 h4 h5 h6=>by
 subst h3 h6;exact jX (yH6 (by omega) (by omega)) (zI5 (zac (kF (yJ _ h1) (yJ _ h4)) (by omega)))
theorem ps_t3 {A B C A2 B2 C2:PV}(h1:PSub A A2)(h2:PSub B B2)(h3:PSub C C2):PSub (tu [A,B,C]) (tu [A2,B2,C2]):=fun M w v ⟨vs,e,h⟩=>⟨vs,e,(fs1 h1 (fs1 h2 (fs1 h3 fs0))) _ _ _ h⟩
theorem kqdiv [h:VN Ψ n k][h':VN Φ m j](hn:n≤1000000)(hm:m≤1000000)(hj:j≠0):CTy prog 359 [Ψ,Φ] (tu [sv (ntc n (k/j)),sv (ntc m (k%j)),exP (.int .i64 0)]):=ctn2 (bo func359) fun xs ys h1 h2 h3 h4 h5 h6=>by
 subst h3 h6;have l1:=yP h1;have l2:=yP h4;exact jX (zP6 (by omega) (by omega) hj) (ps_t3 (zI5 (zac (zX (zbh _ _)) (by omega))) (zI5 (zac (zX (zbU (zaH _ (by omega)))) (by omega))) (PSub.refl _))
end
abbrev rxx (a:(Bool×List Nat)×List Nat):CT:=st [itx a.1,ntx a.2]
theorem qr_x {Ψ:PV}{n:Nat}{p:Rat}[h:QR Ψ n p]{M:Nat→Prop}{w:World}{v:Value}(k:Ψ.p M w v):∃ a:(Bool×List Nat)×List Nat,mkRat (zx a.1) (val a.2)=p∧(∀ x∈a.1.2,x<4294967296)∧(∀ x∈a.2,x<4294967296)∧a.1.2.length≤n∧a.2.length≤n∧(ag (rxx a)).p M w v:=by
 obtain⟨s,x,d,rfl,xs,ds,h1,h2,h3,h4,h5⟩:=h.h k;exact⟨((s,xs),ds),h5,h1.lt,h2.lt,h3,h4,_,rfl,[.bool s,x],[d],rfl,⟨[.bool s],[x],rfl,⟨rfl,rfl⟩,[x],[],rfl,⟨x,rfl,h1⟩,rfl⟩,[d],[],rfl,⟨d,rfl,h2⟩,rfl⟩
theorem yN8 {M:Nat→Prop}{w:World}{N:Nat}{q:Rat}{x y:Value}(h1:IsNat M w x (limbs q.num.natAbs))(h2:IsNat M w y (limbs q.den))(hr:rlen q N):(rtc N q).p M w [.bool (decide (q.num<0)),x,y]:=⟨_,_,_,rfl,rfl,h1,h2,hr.1,hr.2⟩
section
variable {Ψ Φ : PV} {n m k N : Nat} {p q : Rat} {z : Int}
instance {n:Nat}{q:Rat}:FA (rtc n q) 1 (ntc n q.num.natAbs):=⟨fun⟨s,a,d,e,h⟩=>⟨a,by rw[e];rfl,mP h.num h.len.1,h.num⟩⟩
theorem zO9 {M:Nat→Prop}{w:World}{us:List Value}(h:stp [rtc n p] M w us):stp [ztc n p.num,ntc n p.den] M w us:=by
 obtain⟨x,y,rfl,⟨s,a,d,rfl,g⟩,h2⟩:=h;obtain rfl:y=[]:=h2;exact⟨[.bool s,a],[d],rfl,⟨s,a,rfl,g.sgn,g.num,g.len.1⟩,[d],[],rfl,⟨d,rfl,mP g.den g.len.2,g.den⟩,rfl⟩
theorem rt_join {M:Nat→Prop}{w:World}{us:List Value}(e1:z=p.num)(e2:k=p.den)(hr:rlen p N)(h:stp [ztc n z,ntc m k] M w us):stp [rtc N p] M w us:=by
 subst e1 e2;obtain⟨x,y,rfl,⟨s,a,rfl,g⟩,x2,y2,rfl,⟨d,rfl,g2,g3⟩,h3⟩:=h;obtain rfl:y2=[]:=h3;exact⟨[.bool s,a,d],[],rfl,by rw[g.sgn];exact yN8 g.num g3 hr,rfl⟩
theorem rt_joinx {a:Bool}{x d:Nat}{M:Nat→Prop}{w:World}{us:List Value}(e1:a=decide (p.num<0))(e2:x=p.num.natAbs)(e3:d=p.den)(hr:rlen p N)(h:stp [xc (.bool a),ntx (limbs x),ntx (limbs d)] M w us):stp [rtc N p] M w us:=by
 subst e1 e2 e3;obtain⟨x1,y1,rfl,⟨rfl,_⟩,x2,y2,rfl,⟨v,rfl,g1⟩,x3,y3,rfl,⟨u,rfl,g2⟩,h3⟩:=h;obtain rfl:y3=[]:=h3;exact⟨_,[],rfl,yN8 g1 g2 hr,rfl⟩
theorem yF2 {N n k:Nat}{y:Int}{q:Rat}(h1:y=q.num)(h2:k=q.den)(hn:n≤N)(hk:(limbs k).length≤N):PSub (ag (st [ztc n y,ntx (limbs k)])) (ag (rtc N q)):=fun M w v ⟨us,e,x,u,e1,⟨s,a,e2,g1⟩,x2,o,e3,⟨d,e4,g2⟩,e5⟩=>by
 subst h1 h2 e2 e4;obtain rfl:o=[]:=e5;exact⟨us,e,s,a,d,by rw[e1,e3];rfl,g1.sgn,g1.num,g2,zac g1.len hn,hk⟩
theorem krof {K:Nat}(hk:k<9223372036854775808)(hK:2≤K):CTy prog 114 [zJ k] (ag (rtc K ((k:Nat):Rat))):=by
 refine fw [.cell 2 29] func114 fun X=>?_;iterate 2 refine u ?_
 refine u fun b2=>?_;repeat refine u ?_
 refine zB rfl rfl (kiof (N:=2) (by omega) (by omega)) ?_;repeat refine u ?_
 refine zD 0 rfl rfl ?_;repeat refine u ?_
 refine⟨[_],zL 0 rfl rs0,yD ?_⟩;rw[← xQ];exact yF2 (q:=((k:Nat):Rat)) rfl rfl hK (by rw[xQ];simp<;>omega)
theorem rt_re {K:Nat}{M:Nat→Prop}{w:World}{us:List Value}(e:p=q)(hr:rlen q N)(h:stp [rtc K p] M w us):stp [rtc N q] M w us:=by
 subst e;obtain⟨x,y,rfl,⟨s,a,d,rfl,g⟩,h2⟩:=h;exact⟨_,y,rfl,⟨s,a,d,rfl,g.relen hr⟩,h2⟩
theorem orn {b:Nat}{a:Bool×List Nat}{ds:List Nat}(ha:∀ x∈a.2,x<4294967296)(hd:∀ x∈ds,x<4294967296)(h1:a.2.length≤1000000)(h2:ds.length≤1000000)(hr:rlen (mkRat (zx a) (val ds)) N) :
  CTo prog 220 [zU b 0] [.blk b 189 [itx a,ntx ds]] (fun r So=>r=exP (.bool (decide (val ds≠0)))∧So=[.blk b 189 [rtc N (mkRat (zx a) (val ds))]]):=by
 have e0:=@zP (val ds);have hzl:(limbs (zx a).natAbs).length≤a.2.length:=by rw[lI];exact yP ha
 refine fwo [.tmp 2] func220 fun X=>?_;repeat refine u ?_
 refine zB rfl rfl (kE (by omega)) ?_;repeat refine u ?_
 refine ti (fun c0=>?_) fun c0=>?_;repeat refine u ?_
 refine zB rfl rfl (krof (k:=0) (K:=2) (by omega) (by omega)) ?_;repeat refine u ?_
 refine zD 0 rfl rfl ?_;iterate 3 refine u ?_
 refine zO (jP (cs':=[rtc N (mkRat (zx a) (val ds))]) 0 rfl (rt_re ?_ hr)) (zA1 (oas rfl) ?_);rotate_left;repeat refine u ?_
 rotate_left;repeat refine u ?_
 refine zA1 (zG 0 rfl) ?_;refine zB rfl rfl (zX3 (by omega)) ?_;repeat refine u ?_
 refine zD 0 rfl rfl ?_;repeat refine u ?_
 rotate_left
 ·have h0:val ds=0:=by have:=dt c0;omega
  rw[h0,Rat.mkRat_zero];rfl
 ·have h0:val ds=0:=by have:=dt c0;omega
  exact⟨[_],_,_,rst rfl rs0,zaa _,⟨by rw[h0];rfl,rfl⟩,yD (PSub.refl _)⟩
 refine t_ts (jP (cs':=[xc (.bool (decide (zx a<0))),ntx (limbs (zx a).natAbs),ntx ds]) 0 rfl fun h=>?_) ?_
 ·obtain⟨x,y,rfl,g,h3⟩:=h;obtain⟨x1,y1,e1,g1,x2,y2,e2,g2,e3⟩:=zQ5 ⟨x,[],(zas x).symm,g,rfl⟩;obtain rfl:y2=[]:=e3;exact⟨x1,x2++y,by rw[e1,e2];simp,g1,x2,y,rfl,g2,h3⟩
 apply aX 22 0 21 [0,1,0,0,0,0,0,0,0,0,0,0,0,0,0,0,1,0,0,0,0,2] [xc (.bool (decide (zx a<0))),ntx (limbs (val (limbs (zx a).natAbs)/Nat.gcd (val (limbs (zx a).natAbs)) (val ds))),ntx ds] rfl mixed rfl rfl;repeat refine u ?_
 refine tdx0 ?_;refine d1 (zG 0 rfl) ?_;repeat refine u ?_
 refine tdx0 ?_;refine d1 (zG 0 rfl) ?_;repeat refine u ?_
 refine tdx0 (zC rfl rfl (kreduce (by omega) (by omega)) ?_);repeat refine u ?_
 refine tdx2 rfl (ckvt rfl rfl rfl rfl rfl rfl) ?_;repeat refine u ?_
 refine zD 0 rfl rfl ?_;iterate 3 refine u ?_
 refine zO (jP (cs':=[rtc N (mkRat (zx a) (val ds))]) 0 rfl (rt_joinx ?_ ?_ ?_ hr)) (zA1 (oas rfl) ?_);rotate_left;rotate_left;rotate_left;repeat refine u ?_
 rotate_left;all_goals have h0:val ds≠0:=fun e=>df c0 (by omega)
 ·exact(kG h0).1.symm
 ·rw[zI];exact(kG h0).2.1.symm
 ·rw[zI];exact(kG h0).2.2.symm
 ·exact⟨[_],_,_,rst rfl rs0,zaa _,⟨by rw[decide_eq_true h0],rfl⟩,yD (PSub.refl _)⟩
theorem cto_ex {ι:Type}{P:Program}{f:FuncId}{τs:List PV}{b:Nat}{ty:TypeId}{cs:List CT}{Q:PV→List Ow→Prop}(C:ι→Prop)(cs':ι→List CT)(hb:Bod P f)(hx:∀ M w us,stp cs M w us→∃ i,C i∧stp (cs' i) M w us)(k:∀ i,C i→CTo P f τs [.blk b ty (cs' i)] Q):CTo P f τs [.blk b ty cs] Q:=⟨hb,fun M w vs hg hap hnb hok hv=>by
 obtain⟨us,h1,h2⟩:=hg.own _ (zak.2 rfl);obtain⟨i,hi,h3⟩:=hx _ _ _ h2;have e:Mk [.blk b ty (cs' i)] M=Mk [.blk b ty cs] M:=by funext k;simp[Mk,Ow.bk]
 have:=(k i hi).run M w vs ⟨by rw[e];exact hg.ok,by rw[e];exact hg.tab,fun o ho=>by rw[zak.1 ho,e];exact⟨us,h1,h3⟩⟩ ⟨fun _ _ _ h=>by simp at h,trivial⟩ (fun b' ⟨o,ho,e1⟩=>hnb b' ⟨_,zak.2 rfl,by rw[zak.1 ho] at e1;exact e1⟩) hok (by rw[e];exact hv);have e2:bks [.blk b ty (cs' i)]=bks [.blk b ty cs]:=by funext k;simp[bks,Ow.bk]
 rw[e2] at this;exact this⟩
theorem vJ {b:Nat}{c d:CT}[hc:CZ c n z][hd:CN d m k](hn:n≤1000000)(hm:m≤1000000)(hr:rlen (mkRat z k) N) :
  CTo prog 220 [zU b 0] [.blk b 189 [c,d]] (fun r So=>r=exP (.bool (decide (k≠0)))∧So=[.blk b 189 [rtc N (mkRat z k)]]) :=
 cto_ex (ι:=(Bool×List Nat)×List Nat) (fun i=>(∀ x∈i.1.2,x<4294967296)∧(∀ x∈i.2,x<4294967296)∧i.1.2.length≤n∧i.2.length≤m∧zx i.1=z∧val i.2=k) (fun i=>[itx i.1,ntx i.2]) (bo func220) (fun M w us ⟨x,y,e,h1,x2,y2,e2,h2,h3⟩=>by
  obtain rfl:y2=[]:=h3;obtain⟨s,a,rfl,g⟩:=hc.h h1;obtain⟨v,rfl,g'⟩:=hd.h h2;obtain⟨xs,g1,g2,g3⟩:=g.ex;obtain⟨ds,g4,g5,g6⟩:=g'.ex;exact⟨((s,xs),ds),⟨g1.lt,g4.lt,g2,g5,g3,g6⟩,[.bool s,a],y,e,⟨[.bool s],[a],rfl,⟨rfl,rfl⟩,[a],[],rfl,⟨a,rfl,g1⟩,rfl⟩,[v],[],e2,⟨v,rfl,g4⟩,rfl⟩)
  fun i ⟨h1,h2,h3,h4,h5,h6⟩=>by
   subst h5 h6;exact orn h1 h2 (by omega) (by omega) hr
theorem oofx {a:(Bool×List Nat)×List Nat}(ha:∀ x∈a.1.2,x<4294967296)(hd:∀ x∈a.2,x<4294967296)(h1:a.1.2.length≤1000000)(h2:a.2.length≤1000000)(hr:rlen (mkRat (zx a.1) (val a.2)) N) :
  CTo prog 153 [ag (rxx a)] [] (fun r So=>∃ b,r=zU b 0∧So=[.blk b 189 [rtc N (mkRat (zx a.1) (val a.2))]]):=by
 refine fwo [.tmp 2] func153 fun X=>?_;iterate 9 refine u ?_
 refine tbx rfl fun b6=>?_;repeat refine u ?_
 refine zO (jP (cs':=[itx a.1,ntx a.2]) 0 rfl iI) ?_;refine tcoR [0] rfl rfl rfl (orn ha hd h1 h2 hr) ?_;repeat refine u ?_
 exact er ⟨_,rfl,rfl⟩
theorem oof {n N:Nat}{p:Rat}(hn:n≤1000000)(hr:rlen p N) :
  CTo prog 153 [ag (rtq n p)] [] (fun r So=>∃ b,r=zU b 0∧So=[.blk b 189 [rtc N p]]):=⟨(bo func153),fun M w vs h1 h2 h3 h4 hv=>by
 obtain⟨v,rfl,g⟩:=fa1 hv;obtain⟨a,e1,e2,e3,e4,e5,e6⟩:=qr_x g;subst e1;exact(oofx e2 e3 (by omega) (by omega) hr).run M w _ h1 h2 h3 h4 ⟨_,_,rfl,e6,rfl⟩⟩
theorem kofK [h:QR Ψ n p](hn:n≤1000000)(hr:rlen p N):CTy prog 153 [Ψ] (pk 189 (rtc N p)):=yI (yK9 (oof hn hr)) (fs1 qr_q fs0)
theorem kofN [h:QR Ψ n p](hn:n≤1000000)(hr:rlen p N):CTy prog 153 [Ψ] (pa (st [rtc N p])):=jX (kofK hn hr) zI8
theorem krnewN [h:VZ Ψ n z][h':VN Φ m k](hn:n≤1000000)(hm:m≤1000000)(e:mkRat z k=q)(hr:rlen q N):CTy prog 245 [Ψ,Φ] (tu [ag (rtc N q),exP (.int .i64 (if k=0 then 30 else 0))]):=by
 refine yI (σs:=[ag (ztq n z),sv (ntq m k)]) ?_ (fs1 vz_q (fs1 (fun M w v g=>⟨v,rfl,h'.h g⟩) fs0));subst e;refine fw [.cell 4 29,.tmp 5] func245 fun X=>?_;iterate 3 refine u ?_
 refine u fun b4=>?_;iterate 8 refine u ?_
 refine tbx rfl fun b11=>?_;repeat refine u ?_
 refine zO (jP (cs':=[ztq n z,ntq m k]) 0 rfl iI) ?_;refine tcoR [0] rfl rfl rfl (vJ (by omega) (by omega) hr) ?_;repeat refine u ?_
 refine ti (fun c0=>?_) fun c0=>?_;repeat refine u ?_
 refine zA1 (zG 0 rfl) ?_;refine zD 1 rfl rfl ?_;repeat refine u ?_
 refine⟨[_,_],zL 1 rfl (rst rfl rs0),cR (PSub.refl _) ?_⟩;refine ps_i ?_;rotate_left;repeat refine u ?_
 refine zA1 (zG 0 rfl) ?_;refine zD 1 rfl rfl ?_;repeat refine u ?_
 refine⟨[_,_],zL 1 rfl (rst rfl rs0),cR (PSub.refl _) ?_⟩;refine ps_i ?_;rotate_left
 ·have:=c0.h;rw[if_pos (by simpa using this)]
 ·have:=c0.h;rw[if_neg (by simpa using this)]
end
instance:TAr prog 320 3 1:=⟨_,_,_,_,_,underlying320,sz3,yD4,rfl⟩
section
variable {Ψ Φ : PV} {n m k j : Nat} {y z : Int}
theorem kinsign (hn:n≤1000000):CTy prog 286 [pa (st [ztc n z])] (exP (.int .i64 z.sign)):=by
 have h2:=@zP z.natAbs;refine fw [.tmp 2] func286 fun X=>?_;repeat refine u ?_
 refine zA1 (oba rfl rfl rfl) (u fun b3=>?_);refine zD 0 rfl rfl (zO (zY (s:=3) 0 rfl rfl) ?_);repeat refine u ?_
 refine t_if rfl (fun c0=>?_) (fun c0=>?_);rotate_left;rotate_left
 ·have h1:z<0:=dt c0;repeat refine u ?_
  refine zA1 (oia 2 rfl rfl (by omega) rfl rfl) ?_;repeat refine u ?_
  refine e ?_;refine ps_i ?_;exact(zcP h1).symm
 ·have h1:¬ z<0:=df c0;rcases Classical.em (z=0) with h | h
  ·have h3:(limbs z.natAbs).length=0:=h2.2 (by omega);repeat refine u ?_
   refine zA1 (oia 0 rfl rfl (by omega) rfl rfl) ?_;repeat refine u ?_
   refine e ?_;refine ps_i ?_;rw[h];rfl
  ·have h3:(limbs z.natAbs).length≠0:=fun c=>h (by have:=h2.1 c;omega);repeat refine u ?_
   refine zA1 (oia 1 rfl rfl (by omega) rfl rfl) ?_;repeat refine u ?_
   refine e ?_;refine ps_i ?_;exact(zcQ (by omega)).symm
theorem yQ5 [h:VZ Ψ n z](hn:n≤1000000):CTy prog 221 [Ψ] (exP (.int .i64 z.sign)):=by
 refine yI (σs:=[ag (ztq n z)]) ?_ (fs1 vz_q fs0);refine fw [.tmp 2] func221 fun X=>?_;repeat refine u ?_
 refine zB rfl rfl (kipa (by omega)) ?_;refine zB rfl rfl (kinsign hn) ?_;repeat refine u ?_
 exact e
theorem kicmp [h:VZ Ψ n z][h':VZ Φ m y](hn:n≤380000)(hm:m≤380000):CTy prog 154 [Ψ,Φ] (exP (.int .i64 (z-y).sign)):=by
 refine yI (σs:=[ag (ztq n z),ag (ztq m y)]) ?_ (fs1 vz_q (fs1 vz_q fs0));refine fw [.tmp 4] func154 fun X=>?_;repeat refine u ?_
 refine zB rfl rfl (kisub (by omega) (by omega)) ?_;refine zB rfl rfl (yQ5 (by omega)) ?_;repeat refine u ?_
 exact e
end
section
variable {Ψ Φ : PV} {n m k N : Nat} {p q : Rat} {z : Int}
theorem zM9 [h:QR Ψ n p]{P:Program}{f:FuncId}{ρ:PV}(hb:Bod P f)(hr:rlen p (n+1)→CTy P f [ag (rtq n p)] ρ):CTy P f [Ψ] ρ :=
 ⟨hb,fun M w vs hM hT hv=>by
  obtain⟨v,rfl,h1⟩:=fa1 hv;obtain⟨_,_,_,_,g1⟩:=h.h h1;exact(hr g1.rlen).run M w _ hM hT ((fs1 (qr_q (h:=h)) fs0) _ _ _ hv)⟩
theorem mE [h:QR Ψ n p][h':QR Φ m q]{P:Program}{f:FuncId}{ρ:PV}(hb:Bod P f)(hr:rlen p (n+1)→rlen q (m+1)→CTy P f [ag (rtq n p),ag (rtq m q)] ρ):CTy P f [Ψ,Φ] ρ :=
 ⟨hb,fun M w vs hM hT hv=>by
  obtain⟨v,u,rfl,h1,h2⟩:=fa2 hv;obtain⟨_,_,_,_,g1⟩:=h.h h1;obtain⟨_,_,_,_,g2⟩:=h'.h h2;exact(hr g1.rlen g2.rlen).run M w _ hM hT ((fs1 (qr_q (h:=h)) (fs1 (qr_q (h:=h')) fs0)) _ _ _ hv)⟩
theorem pI [h:QR Ψ n p](hn:n≤90000):CTy prog 160 [Ψ] (ag (rtc (n+1) p)):=zM9 (bo func160) fun hr=>by
 refine fw [.cell 2 29] func160 fun X=>?_;iterate 3 refine u ?_
 refine u fun b2=>?_;repeat refine u ?_
 refine zB rfl rfl (kofN (N:=n+1) (by omega) hr) ?_;repeat refine u ?_
 exact e
theorem vP [h:QR Ψ n p](hn:n≤90000):CTy prog 278 [Ψ] (exP (.int .i64 (sgnR p))):=zM9 (bo func278) fun hr=>by
 refine fw [.tmp 2] func278 fun X=>?_;repeat refine u ?_
 refine zB rfl rfl (kofN (N:=n+1) (by omega) hr) ?_;repeat refine u ?_
 refine zB rfl rfl (yQ5 (by omega)) ?_;repeat refine u ?_
 exact e
theorem gB [h:QR Ψ n p][h':QR Φ m q](hn:n≤90000)(hm:m≤90000):CTy prog 80 [Ψ,Φ] (exP (.int .i64 (cmpR p q))):=mE (bo func80) fun hr hs=>by
 refine fw [.tmp 4] func80 fun X=>?_;iterate 7 refine u ?_
 refine zK 6 mixed rfl rfl ?_;repeat refine u ?_
 refine zC rfl rfl (kofN (N:=n+1) (by omega) hr) ?_;repeat refine u ?_
 refine zC rfl rfl (kofN (N:=m+1) (by omega) hs) ?_;iterate 6 refine u ?_
 refine zK 28 mixed rfl rfl ?_;repeat refine u ?_
 refine zC rfl rfl vM ?_;repeat refine u ?_
 refine zC rfl rfl (sI (by omega) (by(simp;done))) ?_;repeat refine u ?_
 refine zC rfl rfl vM ?_;repeat refine u ?_
 refine zC rfl rfl (sI (by omega) (by(simp;done))) ?_;refine zC rfl rfl (kicmp (by omega) (by omega)) ?_;repeat refine u ?_
 refine e ?_;refine ps_i ?_;rw[yL2]
theorem vQ [h:QR Ψ n p][h':QR Φ m q](hn:n≤90000)(hm:m≤90000):CTy prog 164 [Ψ,Φ] (exP (.bool (decide (p=q)))):=mE (bo func164) fun _ _=>by
 refine fw [.tmp 4] func164 fun X=>?_;repeat refine u ?_
 refine zB rfl rfl (gB (by omega) (by omega)) ?_;repeat refine u ?_
 refine e ?_;refine psb ?_;rw[decide_eq_decide];exact xC
theorem zW9 [h:QR Ψ n p](hn:n≤90000):CTy prog 247 [Ψ] (ag (rtc (n+1) (-p))):=zM9 (bo func247) fun hr=>by
 refine fw [.cell 2 29] func247 fun X=>?_;iterate 3 refine u ?_
 refine u fun b2=>?_;repeat refine u ?_
 refine tco [] rfl rfl rfl (oof (N:=n+1) (by omega) hr) ?_;rintro _ _ ⟨b5,rfl,rfl⟩;refine zO (jP (cs':=[ztc (n+1) p.num,ntc (n+1) p.den]) 0 rfl zO9) ?_;repeat refine u ?_
 refine zA1 (zG 0 rfl) ?_;refine zB rfl rfl (yQ6 (by omega)) ?_;repeat refine u ?_
 refine zD 0 rfl rfl ?_;repeat refine u ?_
 refine zO (jP (cs':=[rtc (n+1) (-p)]) 0 rfl (rt_join (by rw[Rat.neg_num]) (by rw[Rat.neg_den]) (qW hr))) ?_;refine zA1 (zG 0 rfl) ?_;refine zD 1 rfl rfl ?_;repeat refine u ?_
 refine⟨[_],zL 1 rfl rs0,yD (PSub.refl _)⟩
theorem quo_z (p q:Rat):mkRat (xT [p.num,if decide (q.num<0) then -((q.den:Nat):Int) else((q.den:Nat):Int)]) (p.den*q.num.natAbs)=p/q:=by
 rw[rT,← yE9];unfold zv;rw[zI]
theorem quo_c (p q:Rat):(if p.den*q.num.natAbs=0 then(30:Int) else 0)=if q=0 then 30 else 0:=by
 have h:p.den*q.num.natAbs=0↔q=0:=by
  rw[Nat.mul_eq_zero,Int.natAbs_eq_zero,Rat.num_eq_zero];exact⟨fun h=>h.elim (fun c=>absurd c p.den_nz) id,.inr⟩
 exact ite_congr (propext h) (fun _=>rfl) fun _=>rfl
theorem yH4 [h:QR Ψ n p][h':QR Φ m q](hn:n≤90000)(hm:m≤90000):CTy prog 170 [Ψ,Φ] (tu [ag (rtc (n+m+3) (p/q)),exP (.int .i64 (if q=0 then 30 else 0))]):=mE (bo func170) fun hr hs=>by
 have hl:rlen (p/q) (n+m+3):=zN (oL hr hs) (by omega);have hq:=quo_c p q;refine fw [.cell 4 29,.tmp 5] func170 fun X=>?_;iterate 4 refine u ?_
 refine u fun b4=>?_;iterate 3 refine u ?_
 refine zK 6 mixed rfl rfl ?_;repeat refine u ?_
 refine zC rfl rfl (kofN (N:=n+1) (by omega) hr) ?_;repeat refine u ?_
 refine zC rfl rfl (kofN (N:=m+1) (by omega) hs) ?_;iterate 6 refine u ?_
 refine zK 34 mixed rfl rfl ?_;repeat refine u ?_
 refine zC rfl rfl (sI (by omega) (by(simp;done))) ?_;repeat refine u ?_
 refine zC rfl rfl (yH7 (by omega) (by omega)) ?_;refine zC rfl rfl (krnewN (q:=p/q) (N:=n+m+3) (by omega) (by omega) (quo_z p q) hl) ?_;repeat refine u ?_
 refine zD 0 rfl rfl ?_;repeat refine u ?_
 refine⟨[_,_],zL 0 rfl (rst rfl rs0),cR (PSub.refl _) (ps_i (by omega))⟩
theorem ormul {b:Nat}(hn:n≤95000)(hm:m≤95000)(hr:rlen (p*q) N) :
  CTo prog 248 [zU b 0,pa (st [rtc m q])] [.blk b 189 [ztc n p.num,ntc n p.den]] (fun r So=>r=tu []∧So=[.blk b 189 [rtc N (p*q)]]):=by
 refine fwo [] func248 fun X=>?_;refine u ?_;apply aX 29 0 28 [0,1,0,0,0,0,0,0,0,0,0,0,0,0,0,0,0,0,0,0,0,0,0,0,0,0,0,0,2] [ztc (2*max n m+2) (xT [p.num,q.num]),ntc n p.den] rfl mixed rfl rfl;repeat refine u ?_
 refine tdx0 ?_;refine d1 (zG 0 rfl) ?_;repeat refine u ?_
 refine tdx0 ?_;refine zC rfl rfl (sI (by omega) (by(simp;done))) ?_;repeat refine u ?_
 refine tdx0 ?_;refine zC rfl rfl (yH7 (by omega) (by omega)) ?_;repeat refine u ?_
 refine tdx2 rfl (ckvt rfl rfl rfl rfl rfl rfl) ?_;repeat refine u ?_
 refine zD 0 rfl rfl ?_;repeat refine u ?_
 refine tcoR [0] rfl rfl rfl (vJ (N:=N) (by omega) (by omega) (by rw[zP5];exact hr)) ?_;rw[zP5];repeat refine u ?_
 exact⟨[],tu [],_,rs0,zaa _,⟨rfl,rfl⟩,mQ⟩
theorem oradd {b:Nat}(hn:n≤95000)(hm:m≤95000)(hr:rlen (p+q) N) :
  CTo prog 238 [zU b 0,pa (st [rtc m q])] [.blk b 189 [ztc n p.num,ntc n p.den]] (fun r So=>r=tu []∧So=[.blk b 189 [rtc N (p+q)]]):=by
 refine fwo [] func238 fun X=>?_;refine u ?_;refine zK 32 mixed rfl rfl ?_;repeat refine u ?_
 refine d1 (zG 0 rfl) ?_;repeat refine u ?_
 refine zC rfl rfl vM ?_;repeat refine u ?_
 refine zC rfl rfl (sI (by omega) (by(simp;done))) ?_;repeat refine u ?_
 refine zC rfl rfl vM ?_;repeat refine u ?_
 refine zC rfl rfl (sI (by omega) (by(simp;done))) ?_;repeat refine u ?_
 refine zC rfl rfl (yI1 (by omega) (by(simp;done))) ?_;repeat refine u ?_
 refine zD 0 rfl rfl ?_;iterate 2 refine u ?_
 refine zK 15 mixed rfl rfl ?_;repeat refine u ?_
 refine d1 (zG 0 rfl) ?_;repeat refine u ?_
 refine zC rfl rfl (yH7 (by omega) (by omega)) ?_;repeat refine u ?_
 refine zD 0 rfl rfl ?_;repeat refine u ?_
 refine zA1 (omv rfl) ?_;refine tco [0] rfl rfl rfl (vJ (N:=N) (by omega) (by omega) (by rw[zQ4];exact hr)) ?_;rintro _ _ ⟨rfl,rfl⟩;rw[zQ4];repeat refine u ?_
 exact⟨[],tu [],_,rs0,zaa _,⟨rfl,rfl⟩,mQ⟩
theorem iall {l:List Rat}(hn:n≤90000)(hl:∀ x∈l,rlen x (n+1))(hL:l.length≤1000000):CIt prog 297 [pa (sl 3 (l.map (rtq n)))] l (fun x=>[pk 189 (rtc (n+1) x)]):=by
 refine cit func297 rfl rfl rfl rfl rfl fun X y YS YX hY hS=>?_;repeat refine u ?_
 refine lpy (σ:=Nat) [0,5,6] (fun i=>[(7,True,zJ i)]) (fun i=>[]) (fun i Y=>YS (l.take i) Y∧i≤l.length) (fun i=>l.length-i) (0) (⟨hS,by omega⟩) fun i Y hG=>?_;obtain⟨hS,hi⟩:=hG;repeat refine u ?_
 refine ti (fun c0=>?_) fun c0=>?_;repeat refine u ?_
 refine zA1 (oix _ rfl rfl rfl (fun _=>rfl) (fun _=>(by(have e0:=dt c0;omega)))) ?_;refine u ?_;refine u fun b4=>?_;refine u ?_;refine zO (zY (s:=4) 0 rfl rfl) ?_;repeat refine u ?_
 refine zB rfl rfl (kofK (N:=n+1) (by omega) (hl _ (nJ (by have:=dt c0;omega)))) ?_;rotate_left;repeat refine u ?_
 rotate_left
 ·have h2:i<l.length:=by have:=dt c0;omega
  have h3:=zT (Df.d:Rat) h2;refine gM hY hS h3.2 rfl rfl (fs1 (PSub.refl _) fs0) (fun Y hS=>?_) (fun Y hX=>?_)
  ·repeat refine u ?_
   refine gZ rfl rfl ?_;repeat refine u ?_
   refine⟨i+1,tes ?_ ?_ (zaa _),?_,(by omega)⟩;refine zA rfl tn;refine zA rfl (zA rfl (zA rfl tn));exact⟨by rw[h3.1];exact hS,by omega⟩
  ·repeat refine u ?_
   refine kD rfl rfl ?_;repeat refine u ?_
   exact .inr hX
 ·have:i=l.length:=by have:=df c0;omega
  subst this;rw[zaF] at hS;exact .inl hS
theorem yQ1 {l:List Rat}:CTy prog 237 [sv (sl 3 (l.map (rtq n)))] (fn 297 [pa (sl 3 (l.map (rtq n)))]):=by
 refine fw [.tmp 2] func237 fun X=>?_;repeat refine u ?_
 exact e
theorem rJ (t:List Rat)(x:Rat):sumR (t++[x])=sumR t+x:=by simp[sumR]
theorem yM3 {l:List Rat}(hn:n≤90000)(hl:l.length≤2)(h:∀ x∈l,rlen x (n+1)):CTy prog 163 [sv (sl 3 (l.map (rtq n)))] (ag (rtc (l.length*(n+2)+2) (sumR l))):=by
 refine fw [.cell 2 29] func163 fun X=>?_;iterate 2 refine u ?_
 refine u fun b2=>?_;repeat refine u ?_
 refine zB rfl rfl (krof (k:=0) (K:=2) (by omega) (by omega)) ?_;refine u ?_;refine tbx rfl fun b7=>(u fun b3=>?_);refine zD 0 rfl rfl (zO (zY (s:=3) 0 rfl rfl) ?_);repeat refine u ?_
 refine zB rfl rfl yQ1 ?_;repeat refine u ?_
 refine jZ (σ:=List Rat) (fun t=>[.blk b7 189 [rtc (t.length*(n+2)+2) (sumR t)],.blk b2 29 (zc (Value.agg #[.bool false,.slice none 0 0,.slice none 0 0]))]) (fun pre t=>t=pre∧rlen (sumR t) (t.length*(n+2)+2)) [] rfl (iall (by omega) h (by omega)) (fun _=>rfl) rfl kR (by simp[sumR]) ⟨rfl,by simp[sumR];exact zN lN (by omega)⟩ (fun pre x post t hx hJ Y y hlp=>?_) (fun t hJ Y _=>?_)
 ·obtain⟨rfl,hr⟩:=hJ;have hx2:=h x (by rw[hx];simp);have htl:t.length*(n+2)≤1*(n+2):=zaU _ (by rw[hx] at hl;simp at hl;omega);have hr2:rlen (sumR t+x) ((t++[x]).length*(n+2)+2):=zN (jB hr hx2) (by rw[zal,zcr,zco];omega);repeat refine u ?_
  refine zA1 (oas rfl) ?_;repeat refine u ?_
  refine⟨rfl,fun Y hl=>?_⟩;repeat refine u ?_
  refine zA1 (old rfl rfl) ?_;repeat refine u ?_
  refine zO (jP (cs':=[ztc (t.length*(n+2)+2) (sumR t).num,ntc (t.length*(n+2)+2) (sumR t).den]) 0 rfl zO9) ?_;refine tco [0] rfl rfl rfl (ctoW (oradd (m:=n+1) (by omega) (by omega) hr2) (fs1 (PSub.refl _) (fs1 zI8 fs0))) ?_;rintro _ _ ⟨rfl,rfl⟩;repeat refine u ?_
  refine⟨t++[x],?_,?_⟩;rotate_left;rotate_left
  ·rw[rJ];exact zaa _
  ·exact⟨rfl,by rw[rJ];exact hr2⟩
 ·obtain⟨rfl,hr⟩:=hJ;repeat refine u ?_
  refine zA1 (zG 0 rfl) ?_;repeat refine u ?_
  exact e
abbrev cT (l:List Rat):Rat:=l.foldl (· * ·) 1
theorem oQ (t:List Rat)(x:Rat):cT (t++[x])=cT t*x:=by simp[cT]
theorem wrmul {l:List Rat}(hn:n≤90000)(hl:l.length≤2)(h:∀ x∈l,rlen x (n+1)):CTy prog 172 [sv (sl 3 (l.map (rtq n)))] (ag (rtc (l.length*(n+2)+2) (cT l))):=by
 refine fw [.cell 2 29] func172 fun X=>?_;iterate 2 refine u ?_
 refine u fun b2=>?_;repeat refine u ?_
 refine zB rfl rfl (krof (k:=1) (K:=2) (by omega) (by omega)) ?_;refine u ?_;refine tbx rfl fun b7=>(u fun b3=>?_);refine zD 0 rfl rfl (zO (zY (s:=3) 0 rfl rfl) ?_);repeat refine u ?_
 refine zB rfl rfl yQ1 ?_;repeat refine u ?_
 refine jZ (σ:=List Rat) (fun t=>[.blk b7 189 [rtc (t.length*(n+2)+2) (cT t)],.blk b2 29 (zc (Value.agg #[.bool false,.slice none 0 0,.slice none 0 0]))]) (fun pre t=>t=pre∧rlen (cT t) (t.length*(n+2)+2)) [] rfl (iall (by omega) h (by omega)) (fun _=>rfl) rfl kR (by simp[cT]) ⟨rfl,by simp[cT];exact zN (show rlen 1 1 from⟨by rw[show (1:Rat).num.natAbs=1 from rfl,xQ];simp,by rw[show (1:Rat).den=1 from rfl,xQ];simp⟩) (by omega)⟩ (fun pre x post t hx hJ Y y hlp=>?_) (fun t hJ Y _=>?_)
 ·obtain⟨rfl,hr⟩:=hJ;have hx2:=h x (by rw[hx];simp);have htl:t.length*(n+2)≤1*(n+2):=zaU _ (by rw[hx] at hl;simp at hl;omega);have hr2:rlen (cT t*x) ((t++[x]).length*(n+2)+2):=zN (gF hr hx2) (by rw[zal,zcr,zco];omega);repeat refine u ?_
  refine zA1 (oas rfl) ?_;repeat refine u ?_
  refine⟨rfl,fun Y hl=>?_⟩;repeat refine u ?_
  refine zA1 (old rfl rfl) ?_;repeat refine u ?_
  refine zO (jP (cs':=[ztc (t.length*(n+2)+2) (cT t).num,ntc (t.length*(n+2)+2) (cT t).den]) 0 rfl zO9) ?_;refine tco [0] rfl rfl rfl (ctoW (ormul (m:=n+1) (by omega) (by omega) hr2) (fs1 (PSub.refl _) (fs1 zI8 fs0))) ?_;rintro _ _ ⟨rfl,rfl⟩;repeat refine u ?_
  refine⟨t++[x],?_,?_⟩;rotate_left;rotate_left
  ·rw[oQ];exact zaa _
  ·exact⟨rfl,by rw[oQ];exact hr2⟩
 ·obtain⟨rfl,hr⟩:=hJ;repeat refine u ?_
  refine zA1 (zG 0 rfl) ?_;repeat refine u ?_
  exact e
theorem vq_rl {l:List Rat}[h:VQ Ψ n l]{M:Nat→Prop}{w:World}{v:Value}(h1:Ψ.p M w v):∀ x∈l,rlen x (n+1):=fun x hx=>by
 obtain⟨cs,h3,h2⟩:=(h.h h1).row;obtain⟨i,hi,rfl⟩:=zbg.1 hx;obtain⟨us,_,_,s,a,d,_,g⟩:=h2 i _ (zag hi);exact g.rlen
theorem yK7 {l:List Rat}[h:VQ Ψ n l]{P:Program}{f:FuncId}{ρ:PV}(hb:Bod P f)(k:(∀ x∈l,rlen x (n+1))→CTy P f [sv (sl 3 (l.map (rtq n)))] ρ):CTy P f [Ψ] ρ :=
 ⟨hb,fun M w vs hM hT hv=>by
  obtain⟨v,e,h1⟩:=fa1 hv;subst e;exact(k (vq_rl h1)).run M w _ hM hT (fs1 vq_q fs0 _ _ _ hv)⟩
theorem rN {n N:Nat}{p q:Rat}(e:p=q)(h:rlen q N):PSub (ag (rtc n p)) (ag (rtc N q)):=fun _ _ _ ⟨us,e1,s,a,d,e2,g⟩=>⟨us,e1,s,a,d,e2,by subst e;exact g.relen h⟩
theorem kraddN [h:VQ Ψ n [p,q]](hn:n≤90000)(hr:rlen (p+q) N):CTy prog 163 [Ψ] (ag (rtc N (p+q))):=yK7 (h:=h) (bo func163) fun k=>jX (yM3 hn (by simp) k) (rN (by simp[sumR,Rat.zero_add]) hr)
theorem zK8 [h:VQ Ψ n [p,q]](hn:n≤90000):CTy prog 163 [Ψ] (ag (rtc (2*n+3) (p+q))):=yK7 (h:=h) (bo func163) fun k=>jX (yM3 hn (by simp) k) (rN (by simp[sumR,Rat.zero_add]) (zN (jB (k p (by simp)) (k q (by simp))) (by omega)))
theorem zK7 [h:VQ Ψ n [p,q]](hn:n≤90000):CTy prog 172 [Ψ] (ag (rtc (2*n+3) (p*q))):=yK7 (h:=h) (bo func172) fun k=>jX (wrmul hn (by simp) k) (rN (by simp[cT,Rat.one_mul]) (zN (gF (k p (by simp)) (k q (by simp))) (by omega)))
theorem mS [h:QR Ψ n p][h':QR Φ m q](hn:n≤80000)(hm:m≤80000):CTy prog 171 [Ψ,Φ] (ag (rtc (n+m+3) (p-q))):=mE (bo func171) fun hr hs=>by
 have e:p + -q=p-q:=(zcI p q).symm;refine fw [.cell 4 29] func171 fun X=>?_;iterate 4 refine u ?_
 refine u fun b4=>?_;iterate 2 refine u ?_
 refine zK 5 mixed rfl rfl ?_;repeat refine u ?_
 refine zC rfl rfl (zW9 (by omega)) ?_;repeat refine u ?_
 refine zC rfl rfl (kraddN (N:=n+m+3) (by omega) (zN (jB hr (qW hs)) (by omega))) ?_;repeat refine u ?_
 refine⟨[_],zL 0 rfl rs0,yD ?_⟩;exact rN e (e ▸ zN (jB hr (qW hs)) (by omega))
theorem kninc (hn:n≤500000):CTy prog 304 [sv (sl 1 [ntc n k,ntx [1]])] (sv (ntc (n+1) (k+1))):=⟨(bo func304),fun M w vs hM hT hv=>by
 obtain⟨v,rfl,u,us,e,k1,⟨x,y,rfl,⟨a,rfl,g1,g2⟩,g3⟩,k3⟩:=fa1 hv;have hl:(limbs k).length≤n:=by obtain⟨xs,j1,j2,j3⟩:=g1.ex;rw[← j3];exact zac (yP j1.lt) j2
 have h1:=pJ (xs:=limbs k) (ys:=[1]) ⟨by omega,yF _⟩ ⟨by simp,by simp⟩;rw[zI,show val [1]=1 from rfl] at h1;refine((jX h1 (zI5 (N:=n+1) ?_)).run M w _ hM hT ⟨v,[],rfl,⟨u,_,e,k1,⟨[a],y,rfl,⟨a,rfl,g2⟩,g3⟩,fun c hc=>?_⟩,rfl⟩)
 ·exact zS (by have:=zV hl;rw[zax];omega)
 ·simp at hc;rcases hc with rfl | rfl<;>rfl⟩
def floorQ (p:Rat):Int:=p.num/(p.den:Int)
theorem krfloor [h:QR Ψ n p](hn:n≤80000):CTy prog 330 [Ψ] (ag (ztc (n+3) (floorQ p))):=zM9 (bo func330) fun hr=>by
 have hd:=p.den_nz;have e0:=@zP (p.num.natAbs%p.den);refine fw [.cell 2 27] func330 fun X=>?_;iterate 3 refine u ?_
 refine u fun b2=>?_;repeat refine u ?_
 refine zB rfl rfl (kofN (N:=n+1) (by omega) hr) ?_;iterate 3 refine u ?_
 refine zK 19 mixed rfl rfl ?_;repeat refine u ?_
 refine zC rfl rfl (kqdiv (by omega) (by omega) (by omega)) ?_;repeat refine u ?_
 refine ti (fun c0=>?_) fun c0=>?_;repeat refine u ?_
 refine zB rfl rfl (kninc (by omega)) ?_;repeat refine u ?_
 refine zB rfl rfl (zX3 (by omega)) ?_;refine zD 0 rfl rfl ?_;repeat refine u ?_
 refine⟨[_],zL 0 rfl rs0,yD ?_⟩;rotate_left;repeat refine u ?_
 refine zB rfl rfl (zX3 (by omega)) ?_;refine zD 0 rfl rfl ?_;repeat refine u ?_
 refine⟨[_],zL 0 rfl rs0,yD ?_⟩;rotate_left
 ·obtain⟨h1,h2⟩:=dand c0;refine bA ?_ (by omega);have:=floor_up hd h1 (by omega);unfold zv at this;rw[zI] at this;exact this
 ·refine bA ?_ (by omega);rcases Decidable.em (p.num<0) with h1 | h1
  ·have h2:=c0.h;rw[decide_eq_true h1,Bool.true_and] at h2;have h3:=of_decide_eq_false h2;have:=floor_neg hd h1 (by omega);unfold zv at this;rw[zI] at this;exact this
  ·have:=floor_pos (d:=p.den) h1;unfold zv at this;rw[zI] at this;exact this
theorem krabove [h:QR Ψ n p](hn:n≤80000):CTy prog 280 [Ψ] (ag (ztc (n+5) (uZ p))):=zM9 (bo func280) fun hr=>by
 refine fw [.cell 2 27] func280 fun X=>?_;iterate 3 refine u ?_
 refine u fun b2=>?_;repeat refine u ?_
 refine zB rfl rfl (krfloor (by omega)) ?_;refine zB rfl rfl (kiof (k:=1) (N:=2) (by omega) (by omega)) ?_;repeat refine u ?_
 refine zB rfl rfl (yI1 (by omega) (by(simp;done))) ?_;repeat refine u ?_
 exact e
end
section
variable {Ψ Φ : PV} {n m k N j : Nat} {p q : Rat} {z : Int} {M : Nat → Prop} {w : World} {us : List Value}
theorem kpup [h:VN Ψ n k](hn:n≤1000000)(hj:j≤65536):CTy prog 281 [Ψ,zJ j] (sv (ntq (n+(j/32+1)) (k*2^j))) :=
 ⟨(bo func281),fun M w vs hM hT hv=>by
  obtain⟨v,u,rfl,h1,h2⟩:=fa2 hv;obtain rfl:u=_:=h2;obtain⟨xs,g1,g2,rfl⟩:=(h.h h1).ex;refine((kup (xs:=xs) (j:=((j:Nat):Int)) (by omega)).run M w _ hM hT ⟨v,[_],rfl,⟨v,rfl,g1⟩,_,[],rfl,rfl,rfl⟩).mono fun r w' ⟨hB,u,e,g⟩=>⟨hB,r,rfl,?_⟩;obtain rfl:=zbp.1 e;rw[show cntN ((j:Nat):Int) 65536=j by unfold cntN;omega] at g;refine mP g (zS (xU (zV (zac (yP g1.lt) g2)) ?_));rw[show 4294967296=2^32 by decide,← zch];exact zcn (by omega) (by omega)⟩
theorem rt_cut3 (h:stp [rtc n p] M w us):stp [xc (.bool (decide (p.num<0))),ntc n p.num.natAbs,ntc n p.den] M w us:=by
 obtain⟨x,y,rfl,⟨s,a,d,rfl,g⟩,h2⟩:=h;obtain rfl:y=[]:=h2;rw[g.sgn];exact⟨[_],[a,d],rfl,⟨rfl,rfl⟩,[a],[d],rfl,⟨a,rfl,mP g.num g.len.1,g.num⟩,[d],[],rfl,⟨d,rfl,mP g.den g.len.2,g.den⟩,rfl⟩
theorem st_in {a b c:CT}(h:stp [a,b,c] M w us):stp [st [a,b],c] M w us:=by
 obtain⟨x,y,rfl,h1,x2,y2,rfl,h2,x3,y3,rfl,h3,h4⟩:=h;obtain rfl:y3=[]:=h4;exact⟨x++x2,x3,by simp,⟨x,x2,rfl,h1,x2,[],by simp,h2,rfl⟩,x3,[],by simp,h3,rfl⟩
theorem yS1 (q:Rat):mkRat (if decide (q.num<0)=true then -((q.num.natAbs*2^1:Nat):Int) else((q.num.natAbs*2^1:Nat):Int)) q.den=q*2:=by
 have:=dbl_mk q;unfold zv at this;rwa [zI,zI,zI] at this
theorem idbl {S:Nat}(hn:n≤80000)(hr:rlen p (n+1))(hm:m≤90000)(hlen:∀ s,s≤S→rlen (p*p2 s) m)(hS0:S≤1000000):CItF False prog 329 [pa (rtq n p)] (List.range (S+1)) (fun s=>[zJ s,ag (rtc m (p*p2 s))]):=by
 refine citF func329 rfl rfl rfl rfl rfl fun X y YS YX hY hfin hS=>?_;have hfin:=hfin.resolve_left id;have hp0:p*p2 0=p:=by rw[p2_zero];exact Rat.mul_one p
 repeat refine u ?_
 refine tco [] rfl rfl rfl (oof (N:=m) (by omega) (hp0 ▸ hlen 0 (by omega))) ?_;rintro _ _ ⟨b6,rfl,rfl⟩;repeat refine u ?_
 refine dI (σ:=Nat) (fun s=>[(4,True,zJ s)]) (fun s=>[.blk b6 189 [rtc m (p*p2 s)]]) (fun s Y=>YS ((List.range (S+1)).take s) Y∧s≤S) (fun s=>S+1-s) (0) (tk 0 rfl (tk 3 rfl tn)) ?_ ?_ (⟨hS,by omega⟩) (fun s Y hG=>?_);refine zA rfl tn;rotate_left;rotate_left
 ·rw[hp0];rfl
 obtain⟨hS2,hs⟩:=hG;have hx:=zT (0:Nat) (l:=List.range (S+1)) (s:=s) (by simp;omega);have hg:(List.range (S+1)).getD s 0=s:=by simp[zah,zcG (show s<S+1 by omega)]
 rw[hg] at hx;have hlm:=hlen s hs;repeat refine u ?_
 refine zA1 (zG 0 rfl) ?_;refine gM hY hS2 hx.2 rfl rfl (fs1 (PSub.refl _) (fs1 (PSub.refl _) fs0)) (fun Y hS=>?_) (fun Y hX=>?_)
 ·have hs3:s+1≤S:=by
   rcases zaf s S with h | h
   ·exact h
   ·exact absurd (by rw[← hx.1,zaz (by simp;omega)] at hS;exact hS) (hfin _)
  have hr3:=hlen (s+1) hs3;rw[zV3,← Rat.mul_assoc] at hr3;repeat refine u ?_
  refine kD rfl rfl ?_;repeat refine u ?_
  refine zA1 (oldf 0 1 rfl rfl rfl rfl) (zB rfl rfl (kpup (j:=1) (by omega) (by omega)) ?_);repeat refine u ?_
  refine zO (jP (cs':=[xc (.bool (decide ((p*p2 s).num<0))),ntc m (p*p2 s).num.natAbs,ntc m (p*p2 s).den]) 0 rfl rt_cut3) ?_;refine zD 0 rfl rfl ?_;repeat refine u ?_
  refine zO (jP (cs':=[st [xc (.bool (decide ((p*p2 s).num<0))),ntq (m+(1/32+1)) ((p*p2 s).num.natAbs*2^1)],ntc m (p*p2 s).den]) 0 rfl st_in) ?_;refine tco [0] rfl rfl rfl (vJ (N:=m) (by omega) (by omega) (by rw[yS1];exact hr3)) ?_;rintro _ _ ⟨rfl,rfl⟩;rw[yS1];repeat refine u ?_
  refine⟨s+1,tes ?_ ?_ ?_,?_,(by omega)⟩;refine zA rfl tn;refine zA rfl (zA rfl tn);rotate_left;rotate_left
  ·rw[zV3,← Rat.mul_assoc];exact zaa _
  ·exact⟨by rw[hx.1];exact hS,hs3⟩
 ·repeat refine u ?_
  refine gZ rfl rfl ?_;repeat refine u ?_
  exact .inr hX
theorem krdbl:CTy prog 279 [ag (rtq n p)] (fn 329 [pa (rtq n p)]):=by
 refine fw [.tmp 2] func279 fun X=>?_;repeat refine u ?_
 exact e
end
instance {c d:CT}{n m k:Nat}{z:Int}[hc:CZ c n z][hd:CN d m k]:CQ (st [c,d]) (max n m) (mkRat z k):=⟨fun⟨x,y,e,k1,z,o,e2,k2,e3⟩=>by
 obtain⟨s,a,rfl,g⟩:=hc.h k1;obtain⟨b,rfl,g'⟩:=hd.h k2;obtain rfl:o=[]:=e3;obtain⟨xs,g1,g2,g3⟩:=g.ex;obtain⟨ds,g4,g5,g6⟩:=g'.ex;exact⟨s,a,b,by rw[e,e2];rfl,xs,ds,g1,g4,by omega,by omega,by rw[g3,g6]⟩⟩
section
variable {Ψ Φ : PV} {n m k N K : Nat} {p q : Rat}
theorem fD [h:QR Ψ n p](hn:n≤90000)(hm:n+1≤m):CTy prog 160 [Ψ] (ag (rtc m p)):=jX (pI hn) fun _ _ _ ⟨us,e,s,a,d,e2,g⟩=>⟨us,e,s,a,d,e2,g.up hm⟩
theorem yH5 {K:Nat}(hk:k<9223372036854775808)(hK:2≤K):CTy prog 114 [zJ k] (ag (rtc K ((k:Nat):Rat))):=krof hk hK
theorem range_ix {S x:Nat}{pre post:List Nat}(h:List.range (S+1)=pre++x::post):x=pre.length∧x≤S:=by
 have hl:=congrArg List.length h;have hg:=congrArg (fun l=>l[pre.length]?) h;simp at hl hg;have:pre.length<S+1:=by omega
 rw[zcG this] at hg;injection hg with hg;omega
theorem yE6 {p q:Rat}(e:p=q):PSub (ag (rtc n p)) (ag (rtc n q)):=fun _ _ _ h=>e ▸ h
theorem yB9 (hn:n≤300)(hm:m≤300)(hr:rlen p (n+1))(hs:rlen q (m+1))(hK:2*(n+m)+40≤K)(hq:0<q):CTy prog 212 [ag (rtq n p),ag (rtq m q)] (tu [ag (rtc K (xM p q)),exP (.bool (decide (p<q)))]):=by
 have hlen:∀ s,s≤32*(n+1+(m+1))→rlen (p*p2 s) (2*n+m+4):=fun s h=>by
  have:=p2_len (s:=s) hr.1 hr.2;exact⟨by omega,by omega⟩
 have hno:=@zM5 p q (n+1) (m+1);refine fw [.cell 4 29,.tmp 5] func212 fun X=>?_;iterate 4 refine u ?_
 refine u fun b4=>?_;repeat refine u ?_
 refine zB rfl rfl (gB (by omega) (by omega)) ?_;repeat refine u ?_
 refine ti (fun c0=>?_) fun c0=>?_;repeat refine u ?_
 refine zB rfl rfl (yH5 (k:=0) (K:=K) (by omega) (by omega)) ?_;repeat refine u ?_
 refine e ⟨?_,?_⟩;rotate_left;refine psb ?_;rotate_left;repeat refine u ?_
 refine zB rfl rfl (vP (by omega)) ?_;repeat refine u ?_
 refine ti (fun c1=>?_) fun c1=>?_;repeat refine u ?_
 rotate_left;repeat refine u ?_
 refine zB rfl rfl (vP (by omega)) ?_;repeat refine u ?_
 refine ti (fun c2=>?_) fun c2=>?_;repeat refine u ?_
 refine zB rfl rfl (yH5 (k:=0) (K:=K) (by omega) (by omega)) ?_;repeat refine u ?_
 refine e ⟨?_,?_⟩;rotate_left;refine psb ?_;rotate_left;repeat refine u ?_
 rotate_left
 ·have h:=gD.1 (dt c0);exact yE6 (by unfold xM;rw[if_neg (by grind)];rfl)
 ·have h:=gD.1 (dt c0);rw[decide_eq_false (by grind)]
 ·have h:=zU3.1 (dt c1);grind
 ·have h:=mt gD.2 (df c0);have h2:=eR.1 (dt c2);exact yE6 (by unfold xM tI;rw[if_pos (by grind),if_pos hq,if_pos h2];rfl)
 ·have h:=mt gD.2 (df c0);rw[decide_eq_true (by grind)]
 have hlt:p<q:=by have h:=mt gD.2 (df c0);grind
 have hp0:¬ p<0:=mt eR.2 (df c2);refine tco [] rfl rfl rfl (oof (N:=m+1) (by omega) hs) ?_;rintro _ _ ⟨bq,rfl,rfl⟩;refine u fun b6=>?_;refine zD 0 rfl rfl ?_;repeat refine u ?_
 refine zB rfl rfl krdbl ?_;repeat refine u ?_
 refine wV (fin:=False) (σ:=Bool) (fun t=>[.blk b6 185 [xc (.pointer (some ⟨bq,0,none⟩))],.blk bq 189 [rtc (m+1) q],.blk b4 29 (bif t then [rtc K (xM p q)] else zc (.agg #[.bool false,.slice none 0 0,.slice none 0 0]))]) (fun pre t=>t=false∧∀ r,r<pre.length→¬ dyOk p q r) false rfl (idbl (m:=2*n+m+4) (S:=32*(n+1+(m+1))) (by omega) hr (by omega) hlen (by omega)) (fun _=>rfl) rfl kR (.inr fun t hJ=>hJ.2 (32*(n+1+(m+1))) (by simp) (hno hlt (zV hr.2) (zV hs.2))) rfl ⟨rfl,by simp⟩ (fun pre x post t hx hJ Y y hl=>?_) (fun t hJ Y _=>?_)
 ·obtain⟨rfl,hd⟩:=hJ;obtain⟨hx1,hx2⟩:=range_ix hx;have e2:mkRat (if false=true then -((q.num.natAbs*2^x:Nat):Int) else((q.num.natAbs*2^x:Nat):Int)) q.den=q*p2 x:=by
   have hq2:0≤q.num:=Rat.num_nonneg.2 (zaZ hq);rw[if_neg (by simp),← yP2,zcc,Int.natAbs_of_nonneg hq2]
  repeat refine u ?_
  refine zA1 (oas rfl) ?_;iterate 2 refine u ?_
  refine u fun b8=>?_;refine zD 0 rfl rfl (zO (zY (s:=8) 0 rfl rfl) ?_);repeat refine u ?_
  refine⟨rfl,fun Y hl=>?_⟩;repeat refine u ?_
  refine zB rfl rfl (krabove (by omega)) ?_;refine u fun b9=>?_;refine u ?_;refine zO (zY (s:=9) 0 rfl rfl) ?_;iterate 2 refine u ?_
  refine zK 20 mixed rfl rfl ?_;repeat refine u ?_
  refine d1 (zG 0 rfl) ?_;repeat refine u ?_
  refine d1 (oldf 1 1 rfl rfl rfl rfl) ?_;repeat refine u ?_
  refine zC rfl rfl (kpup (j:=x) (by omega) (by omega)) ?_;refine d1 (obz rfl rfl) ?_;refine d1 (zG 0 rfl) ?_;repeat refine u ?_
  refine d1 (oldf 1 2 rfl rfl rfl rfl) ?_;repeat refine u ?_
  refine zC rfl rfl (gB (by(simp;omega)) (by omega)) ?_;repeat refine u ?_
  refine ti (fun c3=>?_) fun c3=>?_;refine u ?_;refine zK 6 mixed rfl rfl ?_;repeat refine u ?_
  refine zC rfl rfl (kpup (j:=x) (by(simp;done)) (by omega)) ?_;repeat refine u ?_
  refine zC rfl rfl (fD (m:=K) (by(simp;omega)) (by(simp;omega))) ?_;repeat refine u ?_
  refine zD 2 rfl rfl ?_;repeat refine u ?_
  rotate_left;repeat refine u ?_
  rotate_left
  ·have hc:=yO.1 (dt c3);rw[show val [1]=1 from rfl,Rat.mkRat_one,e2] at hc;have eb:mkRat (uZ (p*p2 x)) (val [1]*2^x)=xM p q:=by
    rw[show val [1]=1 from rfl];unfold xM tI;rw[if_pos hlt,if_pos hq,if_neg hp0,dyS_eq hlt hc (fun r hr=>hd r (by omega)),Nat.one_mul];rfl
   rw[eb];refine⟨true,zaa _,fun Y _=>?_⟩;repeat refine u ?_
   refine zA1 (zG 2 rfl) ?_;refine zD 2 rfl rfl ?_;repeat refine u ?_
   refine⟨[_,_],zL 2 rfl (rst rfl rs0),cR (PSub.refl _) (psb (by(simp;omega)))⟩
  ·have hc:=mt yO.2 (df c3);rw[show val [1]=1 from rfl,Rat.mkRat_one,e2] at hc;refine⟨false,(zaa _),?_⟩;refine⟨rfl,fun r hr=>?_⟩;rw[zal,zcr] at hr;rcases zaf r pre.length with c | c
   ·exact hd r c
   ·obtain rfl:r=x:=by omega
    exact hc
 ·exact absurd (hno hlt (zV hr.2) (zV hs.2)) (hJ.2 _ (by simp))
theorem kbetw (hn:n≤298)(hm:m≤298)(hK:2*(n+m)+50≤K)(hq:0<q):CTy prog 212 [ag (rtq n p),ag (rtq m q)] (tu [ag (rtc K (xM p q)),exP (.bool (decide (p<q)))]):=mE (bo func212) fun hr hs=>yB9 (by omega) (by omega) hr hs (by omega) hq
end
section
variable {Ψ Φ : PV} {n m k N K : Nat} {p q : Rat}
theorem kbetwc [h:QR Ψ n p][k:QR Φ m q](hn:n≤298)(hm:m≤298)(hK:2*(n+m)+50≤K)(hq:0<q):CTy prog 212 [Ψ,Φ] (tu [ag (rtc K (xM p q)),exP (.bool (decide (p<q)))]):=yI (kbetw hn hm hK hq) (fs1 qr_q (fs1 qr_q fs0))
theorem wbetwn (hn:n≤290)(hm:m≤290)(hr:rlen p (n+1))(hs:rlen q (m+1))(hK:2*(n+m)+60≤K)(hq:q≤0):CTy prog 212 [ag (rtq n p),ag (rtq m q)] (tu [ag (rtc K (xM p q)),exP (.bool (decide (p<q)))]):=by
 refine fw [.cell 4 29,.tmp 5] func212 fun X=>?_;iterate 4 refine u ?_
 refine u fun b4=>?_;repeat refine u ?_
 refine zB rfl rfl (gB (by omega) (by omega)) ?_;repeat refine u ?_
 refine ti (fun c0=>?_) fun c0=>?_;repeat refine u ?_
 refine zB rfl rfl (yH5 (k:=0) (K:=K) (by omega) (by omega)) ?_;repeat refine u ?_
 refine e ⟨?_,?_⟩;rotate_left;refine psb ?_;rotate_left;repeat refine u ?_
 refine zB rfl rfl (vP (by omega)) ?_;repeat refine u ?_
 refine t_if rfl (fun c1=>?_) (fun c1=>?_);refine u ?_;apply t_drawV 0 9 0 8 [(8,999,0)] rfl rfl rfl mixed rfl rfl rfl;repeat refine u ?_
 refine cx1 (oca rfl rfl fun _=>zW9 (by omega)) rfl ?_;repeat refine u ?_
 refine cx1 (oca rfl rfl fun _=>zW9 (by omega)) rfl ?_;refine cx1 (oca rfl rfl fun _=>kbetwc (K:=2*(n+m)+54) (by omega) (by omega) (by omega) (by have h:=mt gD.2 (df c0);grind)) rfl ?_;repeat refine u ?_
 refine cV rfl rfl (cstv rfl rfl rfl rfl) ?_;refine cE ?_;refine fm ?_;repeat refine u ?_
 refine zB rfl rfl (zW9 (by omega)) ?_;repeat refine u ?_
 refine e ⟨?_,?_⟩;rotate_left;refine psb (by(simp;done));rotate_left
 ·have h:=gD.1 (dt c0);exact yE6 (by unfold xM;rw[if_neg (by grind)];rfl)
 ·have h:=gD.1 (dt c0);rw[decide_eq_false (by grind)]
 ·have h:=mt gD.2 (df c0);have e:-xM (-q) (-p)=xM p q:=by
   unfold xM;rw[if_pos (show -q < -p by grind),if_pos (show 0 < -p by grind),if_pos (show p<q by grind),if_neg (by grind)]
  exact fun _ _ _ ⟨us,e1,s,a,d,e2,g⟩=>e ▸ ⟨us,e1,s,a,d,e2,g.up (by omega)⟩
 ·exact absurd (zU3.2 hq) (df c1)
theorem kbetwA (hn:n≤288)(hm:m≤288)(hK:2*(n+m)+64≤K):CTy prog 212 [ag (rtq n p),ag (rtq m q)] (tu [ag (rtc K (xM p q)),exP (.bool (decide (p<q)))]):=mE (bo func212) fun hr hs=>by
 by_cases h0:0<q
 ·exact yB9 (by omega) (by omega) hr hs (by omega) h0
 ·exact wbetwn (by omega) (by omega) hr hs (by omega) (Rat.not_lt.1 h0)
end
theorem k7of {k:Nat}(hk:k<9223372036854775808):CTy prog 46 [zJ k] (ag (rtc 2 ((k:Nat):Rat))):=by
 refine fw [.cell 2 29] func46 fun X=>?_;iterate 2 refine u ?_
 refine u fun b2=>?_;repeat refine u ?_
 refine zB rfl rfl (k5of (N:=2) (by omega) (by omega)) ?_;repeat refine u ?_
 refine zD 0 rfl rfl ?_;repeat refine u ?_
 refine⟨[_],zL 0 rfl rs0,yD ?_⟩;rw[← xQ];exact yF2 (q:=((k:Nat):Rat)) rfl rfl (by omega) (by rw[xQ];simp<;>omega)
theorem k8of {k l:Nat}(hk:k<9223372036854775808)(hl:l<9223372036854775808):CTy prog 68 [zJ k,zJ l] (ag (st [rtc 2 ((k:Nat):Rat),rtc 2 ((l:Nat):Rat)])):=by
 refine fw [.cell 4 39] func68 fun X=>?_;iterate 2 refine u ?_
 refine u fun b4=>?_;repeat refine u ?_
 refine zB rfl rfl (k7of (by omega)) ?_;repeat refine u ?_
 refine zB rfl rfl (k7of (by omega)) ?_;repeat refine u ?_
 refine zD 0 rfl rfl ?_;repeat refine u ?_
 refine⟨[_],zL 0 rfl rs0,yD (PSub.refl _)⟩
section
variable {xs ys : List Nat} {Ψ Φ : PV}
theorem k2down {j:Int}[h:VX Ψ xs](hl:xs.length≤100000000):CTy prog 241 [Ψ,exP (.int .i64 j)] (sv (ntx (limbs (val xs/2^cntN j 65536)))):=yI (k2downx hl) (fs1 vx_q (fs1 (PSub.refl _) fs0))
theorem k2up {j:Int}[h:VX Ψ xs](hl:xs.length≤100000000):CTy prog 244 [Ψ,exP (.int .i64 j)] (sv (ntx (limbs (val xs*2^cntN j 65536)))):=yI (yR6 hl) (fs1 vx_q (fs1 (PSub.refl _) fs0))
theorem k1cmp [h:VX Ψ xs][k:VX Φ ys](hl:xs.length≤1000000000)(hm:ys.length≤1000000000):CTy prog 242 [Ψ,Φ] (exP (.int .i64 (cmpN (val xs) (val ys)))):=yI (yJ3 hl hm) (fs1 vx_q (fs1 vx_q fs0))
end
theorem kplain7 {a b:Nat}(ha:a<18446744073709551616)(hb:b<18446744073709551616):CTy prog 166 [exP (.int .u64 (a:Int)),exP (.int .u64 (b:Int))] (exP (.int .u64 ((Nat.gcd a b:Nat):Int))):=by
 refine fw [.tmp 4] func166 fun X=>?_;repeat refine u ?_
 refine lp (σ:=Nat×Nat) [4] (fun s=>[(0,True,exP (.int .u64 ((s.1:Nat):Int))),(1,True,exP (.int .u64 ((s.2:Nat):Int)))]) (fun s=>[]) (fun s=>s.1<18446744073709551616∧s.2<18446744073709551616∧Nat.gcd s.1 s.2=Nat.gcd a b) (fun s=>s.2) ((a,b)) (⟨ha,hb,rfl⟩) fun s hJ Y _=>?_;obtain⟨p,q⟩:=s;dsimp only at hJ ⊢;obtain⟨hp,hq,hg⟩:=hJ;repeat refine u ?_
 refine ti (fun c0=>?_) fun c0=>?_;iterate 2 refine u ?_
 refine zK 6 mixed rfl rfl ?_;repeat refine u ?_
 refine d1 (ormw rfl rfl (by(have e0:=dt c0;omega))) ?_;repeat refine u ?_
 rotate_left;repeat refine u ?_
 refine e ?_;refine ps_i ?_;rotate_left
 ·have h1:0<q:=by have:=dt c0;omega
  have hlt:=zaH p h1;refine nxt ((q,p%q)) ?_
  ·exact⟨hq,by dsimp only;omega,by dsimp only;rw[← hg,Nat.gcd_comm,← Nat.gcd_rec,Nat.gcd_comm]⟩
 ·have h1:q=0:=by have:=df c0;omega
  rw[← hg,h1,Nat.gcd_zero_right]
theorem ktwos {xs:List Nat}(hx:∀ x∈xs,x<4294967296)(h0:val xs≠0)(hl:xs.length≤1000000):CTy prog 240 [sv (ntx xs)] (exP (.int .i64 ((tz (val xs):Nat):Int))):=by
 refine fw [.tmp 2] func240 fun X=>?_;repeat refine u ?_
 refine lp (σ:=Nat) [0,2] (fun s=>[(3,True,exP (.int .i64 ((32*s:Nat):Int))),(4,True,zJ s)]) (fun s=>[]) (fun s=>s≤xs.length∧∀ j,j<s→xs.getD j 0=0) (fun s=>xs.length-s) (0) (⟨by omega,by omega⟩) fun s hJ Y _=>?_;obtain⟨j1,j2⟩:=hJ;have hs:s<xs.length:=by
  rcases zaf s xs.length with h | h
  ·exact h
  ·exact absurd (val_zero_all fun j hj=>j2 j (by omega)) h0
 repeat refine u ?_
 refine ti (fun c0=>?_) fun c0=>?_;repeat refine u ?_
 rotate_left;iterate 8 refine u ?_
 refine zA1 (oix s rfl rfl rfl (fun _=>(by omega)) (fun _=>(by omega))) ?_;repeat refine u ?_
 rotate_left
 ·have h1:=dand c0;refine⟨s+1,tes ?_ ?_ (zaa _),?_,(by omega)⟩;refine zA rfl (zA rfl tn);refine zA rfl (zA rfl tn);refine⟨by omega,fun j hj=>?_⟩;rcases zaf j s with c | c
  ·exact j2 j c
  ·obtain rfl:j=s:=by omega
   exact Int.natCast_eq_zero.1 h1.2
 ·have hx0:xs.getD s 0≠0:=fun e=>dor c0 ⟨by omega,Int.natCast_eq_zero.2 e⟩;have hx2:xs.getD s 0<4294967296:=yC hx s;have htz:=tz_limbs hx j2 hs hx0;have h32:=mH (n:=32) hx0 (zcA hx2 (by decide));refine lp (σ:=Nat×Nat) [2] (fun t=>[(3,True,exP (.int .i64 ((32*s+t.1:Nat):Int))),(5,True,exP (.int .u32 ((t.2:Nat):Int)))]) (fun t=>[]) (fun t=>t.2≠0∧t.2<4294967296∧tz (xs.getD s 0)=t.1+tz t.2) (fun t=>t.2) ((0,xs.getD s 0)) (⟨hx0,hx2,by simp⟩) fun t hJ Y _=>?_;obtain⟨n,t⟩:=t;dsimp only at hJ ⊢;obtain⟨k1,k2,k3⟩:=hJ;repeat refine u ?_
  refine ti (fun c1=>?_) fun c1=>?_;repeat refine u ?_
  rotate_left;repeat refine u ?_
  refine e ?_;refine ps_i ?_;rotate_left
  ·have h2:t%2=0:=by have:=dt c1;omega
   have:=zS2 k1 h2;exact nxt ((n+1,t/2)) (by(simp only[xX];omega))
  ·have h2:t%2=1:=by have:=df c1;omega
   have:=zO2 h2;rw[htz,k3,this];rfl
theorem tz_bd {x n:Nat}(h0:x≠0)(h:(limbs x).length≤n)(hn:n≤2000):cntN ((tz x:Nat):Int) 65536=tz x:=by
 have:=wO h0 h;exact cntN_id (m:=65536) (by omega)
theorem vO {A:Nat}(h0:A≠0)(hl:(limbs A).length≤2000):CTy prog 240 [sv (ntx (limbs A))] (exP (.int .i64 ((tz A:Nat):Int))):=by
 have:=ktwos (yF A) (by rw[zI];exact h0) (by omega);rwa [zI] at this
theorem kodL {A:Nat}(h0:A≠0)(hl:(limbs A).length≤2000):CTy prog 241 [sv (ntx (limbs A)),exP (.int .i64 ((tz A:Nat):Int))] (sv (ntx (limbs (od A)))):=by
 have:=k2down (Ψ:=sv (ntx (limbs A))) (j:=((tz A:Nat):Int)) (show (limbs A).length≤100000000 by omega);rw[zI,tz_bd h0 hl (by omega)] at this;exact this
theorem kcmpL {A B:Nat}(h1:(limbs A).length≤2000)(h2:(limbs B).length≤2000):CTy prog 242 [sv (ntx (limbs A)),sv (ntx (limbs B))] (exP (.int .i64 (cmpN A B))):=by
 have:=k1cmp (Ψ:=sv (ntx (limbs A))) (Φ:=sv (ntx (limbs B))) (by omega) (by omega);rwa [zI,zI] at this
theorem yP9 {A B:Nat}(h1:(limbs A).length≤2000)(h2:(limbs B).length≤2000):CTy prog 243 [sv (ntx (limbs A)),sv (ntx (limbs B))] (tu [sv (ntx (limbs (A-B))),exP (.int .i64 (if A<B then 10 else 0))]):=by
 have:=zL1 (xs:=limbs A) (ys:=limbs B) (by omega) (by omega);rwa [zI,zI] at this
theorem kgcd4 {xs ys:List Nat}(hx:∀ x∈xs,x<4294967296)(hy:∀ x∈ys,x<4294967296)(h1:xs.length≤2000)(h2:ys.length≤2000):CTy prog 168 [sv (ntx xs),sv (ntx ys)] (sv (ntx (limbs (Nat.gcd (val xs) (val ys))))):=by
 have hlx:(limbs (val xs)).length≤2000:=zac (yP hx) h1;have hly:(limbs (val ys)).length≤2000:=zac (yP hy) h2;have ex:=@zP (val xs);have ey:=@zP (val ys);have hc:∀ b:Bool,(decide (((limbs (val xs)).length:Int)=0) || decide (((limbs (val ys)).length:Int)=0))=b→(b=true→val xs=0∨val ys=0)∧(b=false→val xs≠0∧val ys≠0):=fun b h=>by
  subst h;simp only[zcf,Bool.or_eq_false_iff,decide_eq_true_eq,decide_eq_false_iff_not];omega
 refine fw [.tmp 4] func168 fun X=>?_;repeat refine u ?_
 refine zB rfl rfl (jW (by omega)) ?_;repeat refine u ?_
 refine zB rfl rfl (jW (by omega)) ?_;repeat refine u ?_
 refine ti (fun c0=>?_) fun c0=>?_;repeat refine u ?_
 refine zB rfl rfl (yJ4 (xss:=[limbs (val xs),limbs (val ys)]) (by(simp;omega)) (by(simp;done))) ?_;repeat refine u ?_
 refine e ?_;rotate_left;repeat refine u ?_
 refine zB rfl rfl (vO ?_ (by omega)) ?_;rotate_left;repeat refine u ?_
 refine zB rfl rfl (vO ?_ (by omega)) ?_;rotate_left;repeat refine u ?_
 rotate_left
 ·have h0:=(hc _ c0.h).1 rfl;rw[show (List.map val [limbs (val xs),limbs (val ys)]).sum=Nat.gcd (val xs) (val ys) from by
   simp only[zaG,zbe,List.sum_cons,List.sum_nil,zI];rcases h0 with h0 | h0<;>rw[h0]<;>simp]
  exact PSub.refl _
 ·exact((hc _ c0.h).2 rfl).1
 ·exact((hc _ c0.h).2 rfl).2
 obtain⟨hx0,hy0⟩:=(hc _ c0.h).2 rfl;have hmin:min (tz (val xs)) (tz (val ys))<64000:=by have:=wO hx0 hlx;omega
 refine lp (σ:=Nat×Nat) [4,5] (fun s=>[(0,True,sv (ntx (limbs s.1))),(1,True,sv (ntx (limbs s.2)))]) (fun s=>[]) (fun s=>GI (Nat.gcd (od (val xs)) (od (val ys))) s.1 s.2∧(limbs s.1).length≤2000∧(limbs s.2).length≤2000) (fun s=>s.1+s.2) ((val xs,val ys)) (⟨⟨hy0,fun _=>rfl,fun h=>absurd h hx0⟩,hlx,hly⟩) fun s hJ Y _=>?_;obtain⟨A,B⟩:=s;dsimp only at hJ ⊢;obtain⟨hg,hA,hB⟩:=hJ;have eA:=@zP A;have hB0:B≠0:=hg.1;have lA:=zac (zX (zV8 A)) hA;have lB:=zac (zX (zV8 B)) hB;repeat refine u ?_
 refine ti (fun c1=>?_) fun c1=>?_;repeat refine u ?_
 refine zB rfl rfl (vO (by(have e0:=dt c1;omega)) (by omega)) ?_;refine zB rfl rfl (kodL (by(have e0:=dt c1;omega)) (by omega)) ?_;repeat refine u ?_
 refine zB rfl rfl (vO (by omega) (by omega)) ?_;refine zB rfl rfl (kodL (by omega) (by omega)) ?_;repeat refine u ?_
 refine zB rfl rfl (kcmpL (by omega) (by omega)) ?_;repeat refine u ?_
 refine ti (fun c2=>?_) fun c2=>?_;repeat refine u ?_
 refine zB rfl rfl (yP9 (by omega) (by omega)) ?_;repeat refine u ?_
 rotate_left;repeat refine u ?_
 refine zB rfl rfl (yP9 (by omega) (by omega)) ?_;repeat refine u ?_
 rotate_left;repeat refine u ?_
 refine zB rfl rfl (k2up (by omega)) ?_;repeat refine u ?_
 refine e ?_;rotate_left
 ·have hA0:A≠0:=by have:=dt c1;omega
  have hlt:od A<od B:=qA.1 (dt c2);obtain⟨g1,g2⟩:=(zY5 hg hA0).2 (by omega);refine⟨(od B-od A,od A),tes ?_ ?_ (zaa _),?_,(by omega)⟩;refine zA rfl (zA rfl tn);refine zA rfl (zA rfl tn);exact⟨g1,zac (zX (Nat.sub_le _ _)) lB,lA⟩
 ·have hA0:A≠0:=by have:=dt c1;omega
  have hlt:¬ od A<od B:=fun h=>df c2 (qA.2 h);obtain⟨g1,g2⟩:=(zY5 hg hA0).1 (by omega);refine⟨(od A-od B,od B),tes ?_ ?_ (zaa _),?_,(by omega)⟩;refine zA rfl (zA rfl tn);refine zA rfl (zA rfl tn);exact⟨g1,zac (zX (Nat.sub_le _ _)) lA,lB⟩
 ·have hA0:A=0:=by have:=df c1;omega
  rw[zI,cntN_min (by omega),hg.2.2 hA0,← gcd_od hx0 hy0];exact PSub.refl _
section
variable {xs ys : List Nat} {Ψ Φ : PV}
theorem zY1 [h:VX Ψ xs](hl:xs.length≤1000000000):CTy prog 165 [Ψ] (tu [exP (.int .u64 ((qF (val xs):Nat):Int)),exP (.bool (decide (val xs<18446744073709551616)))]):=yI (k1smallx hl) (fs1 vx_q fs0)
theorem yR5 [h:VX Ψ xs][k:VX Φ ys](hl:xs.length≤100000)(hm:ys.length≤100000)(h0:val ys≠0):CTy prog 169 [Ψ,Φ] (tu [sv (ntx (limbs (val xs/val ys))),sv (ntx (limbs (val xs%val ys))),exP (.int .i64 0)]):=yI (k3divx hl hm h0) (fs1 vx_q (fs1 vx_q fs0))
end
theorem bB {n m:Nat}{p q:Rat}(h:n≤m)(e:p=q):PSub (ag (rtc n p)) (ag (rtc m q)):=fun _ _ _ ⟨us,e1,s,a,d,e2,g⟩=>⟨us,e1,s,a,d,e2,by subst e;exact g.up h⟩
theorem kgcd {Ψ Φ:PV}{xs ys:List Nat}[h:VX Ψ xs][k:VX Φ ys](hx:∀ x∈xs,x<4294967296)(hy:∀ x∈ys,x<4294967296)(h1:xs.length≤2000)(h2:ys.length≤2000):CTy prog 168 [Ψ,Φ] (sv (ntx (limbs (Nat.gcd (val xs) (val ys))))):=yI (kgcd4 hx hy h1 h2) (fs1 vx_q (fs1 vx_q fs0))
theorem kM {x k:Nat}(hk:k≠0)(c:Tr ((decide (val (limbs x)<18446744073709551616)&&decide (k<18446744073709551616))=true)):qF (val (limbs x))=x∧qF k=k∧0<Nat.gcd x k∧x<18446744073709551616∧k<18446744073709551616:=by
 have h:=dand c;rw[zI] at h ⊢;exact⟨if_pos h.1,if_pos h.2,zcS _ (zaW hk),h.1,h.2⟩
theorem yM6 {a:Bool×List Nat}{ds:List Nat}{n m:Nat}(ha:∀ x∈a.2,x<4294967296)(hd:∀ x∈ds,x<4294967296)(hla:a.2.length≤n)(hld:ds.length≤m)(hn:n≤2000)(hm:m≤2000):CTy prog 90 [ag (itx a),sv (ntx ds)] (tu [ag (rtc (max n m+2) (mkRat (zx a) (val ds))),exP (.int .i64 (if val ds=0 then 30 else 0))]):=by
 have hzl:(limbs (zx a).natAbs).length≤n:=by rw[lI a];exact zac (yP ha) hla
 have hkl:(limbs (val ds)).length≤m:=zac (yP hd) hld;have ek:=@zP (val ds);have sA:qF (val (limbs (zx a).natAbs))<18446744073709551616:=by unfold qF;split<;>omega
 have sB:qF (val ds)<18446744073709551616:=by unfold qF;split<;>omega
 have hgl:val ds≠0→(limbs (Nat.gcd (zx a).natAbs (val ds))).length≤m:=fun h=>zac (zX (Nat.gcd_le_right _ (zaW h))) hkl;have hq1:∀ g,(limbs ((zx a).natAbs/g)).length≤n:=fun g=>zac (zX (zbh _ _)) hzl;have hq2:∀ g,(limbs (val ds/g)).length≤m:=fun g=>zac (zX (zbh _ _)) hkl;have hz:Tr (decide (((limbs (val ds)).length:Int)=0)=false)→val ds≠0:=fun c e=>df c (by omega);have hfin:∀ N,val ds≠0→PSub (ag (st [ztc N (if decide (zx a<0)=true then -((val (limbs ((zx a).natAbs/(zx a).natAbs.gcd (val ds))):Nat):Int) else((val (limbs ((zx a).natAbs/(zx a).natAbs.gcd (val ds))):Nat):Int)),ntx (limbs (val ds/(zx a).natAbs.gcd (val ds)))])) (ag (rtc (max N m) (mkRat (zx a) (val ds)))):=fun N h =>
  yF2 (num_eq h) (kG (z:=zx a) h).2.2.symm (by omega) (zac (hq2 _) (by omega))
 have hup:∀ {N K:Nat} {q:Rat},N≤K→PSub (ag (rtc N q)) (ag (rtc K q)):=fun h=>bB h rfl;refine fw [.cell 4 29,.tmp 5] func90 fun X=>?_;iterate 2 refine u ?_
 refine tbx rfl fun b2=>(u fun b4=>?_);repeat refine u ?_
 refine zB rfl rfl (jW (by omega)) ?_;repeat refine u ?_
 refine ti (fun c0=>?_) fun c0=>?_;repeat refine u ?_
 refine zB rfl rfl (k7of (by(simp;done))) ?_;repeat refine u ?_
 refine e ⟨?_,?_⟩;rotate_left;refine ps_i (by(have e0:=dt c0;omega));repeat refine u ?_
 refine zB rfl rfl (uY (by omega)) ?_;repeat refine u ?_
 refine zA1 (oldf 1 1 rfl rfl rfl rfl) ?_;refine zB rfl rfl (zY1 (by omega)) ?_;repeat refine u ?_
 refine zB rfl rfl (zY1 (by omega)) ?_;repeat refine u ?_
 refine ti (fun c1=>?_) fun c1=>?_;repeat refine u ?_
 refine zB rfl rfl (kplain7 (by omega) (by omega)) ?_;iterate 3 refine u ?_
 refine zK 13 mixed rfl rfl ?_;repeat refine u ?_
 refine d1 (oldf 1 0 rfl rfl rfl rfl) ?_;repeat refine u ?_
 refine d1 (oquw rfl rfl ?_) ?_;rotate_left;refine zC rfl rfl (k1of ?_) ?_;rotate_left;repeat refine u ?_
 refine zC rfl rfl (uY ?_) ?_;rotate_left;repeat refine u ?_
 refine d1 (oquw rfl rfl ?_) ?_;rotate_left;refine zC rfl rfl (k1of ?_) ?_;rotate_left;repeat refine u ?_
 refine zD 0 rfl rfl ?_;repeat refine u ?_
 refine⟨[_,_],zL 0 rfl (rst rfl rs0),cR ?_ ?_⟩;rotate_left;refine ps_i (by(have e0:=df c0;have e1:=dand c1;omega));repeat refine u ?_
 refine zA1 (oldf 1 1 rfl rfl rfl rfl) ?_;repeat refine u ?_
 refine zB rfl rfl (kgcd (yF _) hd (by omega) (by omega)) ?_;repeat refine u ?_
 refine zA1 (oldf 1 1 rfl rfl rfl rfl) ?_;repeat refine u ?_
 refine zB rfl rfl (yR5 (by omega) ?_ ?_) ?_;rotate_left;rotate_left;repeat refine u ?_
 refine zA1 (omv rfl) ?_;repeat refine u ?_
 refine zB rfl rfl (yR5 (by omega) ?_ ?_) ?_;rotate_left;rotate_left;repeat refine u ?_
 refine zA1 (ofo rfl) ?_;refine zA1 (oldf 1 0 rfl rfl rfl rfl) ?_;repeat refine u ?_
 refine zB rfl rfl (uY ?_) ?_;rotate_left;repeat refine u ?_
 refine zD 0 rfl rfl ?_;repeat refine u ?_
 refine⟨[_,_],zL 0 rfl (rst rfl rs0),cR ?_ ?_⟩;rotate_left;refine ps_i (by(have e0:=df c0;have e1:=dor c1;omega))
 ·have hk0:val ds=0:=by have:=dt c0;omega
  rw[hk0,Rat.mkRat_zero];exact bB (by omega) rfl
 ·obtain⟨e1,e2,h1,h2,h3⟩:=kM (hz c0) c1;rw[e1,e2];exact⟨h1,h2⟩
 ·obtain⟨e1,e2,h1,h2,h3⟩:=kM (hz c0) c1;rw[e1,e2];exact zbr (zbh _ _) h2
 ·obtain⟨e1,e2,h1,h2,h3⟩:=kM (hz c0) c1;rw[e1,e2];have:=hq1 (Nat.gcd (zx a).natAbs (val ds));omega
 ·obtain⟨e1,e2,h1,h2,h3⟩:=kM (hz c0) c1;rw[e1,e2];exact⟨h1,h3⟩
 ·obtain⟨e1,e2,h1,h2,h3⟩:=kM (hz c0) c1;rw[e1,e2];exact zbr (zbh _ _) h3
 ·obtain⟨e1,e2,h1,h2,h3⟩:=kM (hz c0) c1;rw[e1,e2];exact fun M w v k=>hup (by have:=hq1 (Nat.gcd (zx a).natAbs (val ds));omega) _ _ _ (hfin _ (hz c0) M w v k)
 all_goals rw[zI (zx a).natAbs]
 ·have:=hgl (hz c0);omega
 ·rw[zI];exact Nat.ne_of_gt (zcS _ (zaW (hz c0)))
 ·have:=hgl (hz c0);omega
 ·rw[zI];exact Nat.ne_of_gt (zcS _ (zaW (hz c0)))
 ·have:=hq1 (val (limbs (Nat.gcd (zx a).natAbs (val ds))));omega
 ·rw[zI (Nat.gcd _ _)];exact fun M w v k=>hup (by have:=hq1 (Nat.gcd (zx a).natAbs (val ds));omega) _ _ _ (hfin _ (hz c0) M w v k)
theorem yR2 {Ψ Φ:PV}{n m k:Nat}{z:Int}[h:VZ Ψ n z][h':VN Φ m k](hn:n≤2000)(hm:m≤2000):CTy prog 90 [Ψ,Φ] (tu [ag (rtc (max n m+2) (mkRat z k)),exP (.int .i64 (if k=0 then 30 else 0))]) :=
 ⟨(bo func90),fun M w vs hM hT hv=>by
  obtain⟨v,u,rfl,h1,h2⟩:=fa2 hv;obtain⟨s,a,rfl,g⟩:=h.h h1;obtain⟨b,b0,b1,b2,b3⟩:=pM g;obtain⟨ds,d1,d2,d3⟩:=(h'.h h2).ex;subst b2 d3;exact(yM6 b0 d1.lt b1 d2 hn hm).run M w _ hM hT ⟨_,_,rfl,b3,_,_,rfl,⟨_,rfl,d1⟩,rfl⟩⟩
theorem w7norm {a:(Bool×List Nat)×List Nat}{n:Nat}(ha:∀ x∈a.1.2,x<4294967296)(hd:∀ x∈a.2,x<4294967296)(h1:a.1.2.length≤n)(h2:a.2.length≤n)(hn:n≤1999):CTy prog 64 [ag (rxx a)] (ag (rtc (n+2) (mkRat (zx a.1) (val a.2)))):=by
 refine fw [.cell 2 29] func64 fun X=>?_;iterate 3 refine u ?_
 refine u fun b2=>?_;repeat refine u ?_
 refine zB rfl rfl (yM6 (n:=n) (m:=n) ha hd h1 h2 (by omega) (by omega)) ?_;iterate 3 refine u ?_
 refine u fun b3=>?_;refine u ?_;refine zO (zY (s:=3) 0 rfl rfl) ?_;repeat refine u ?_
 refine zD 0 rfl rfl ?_;repeat refine u ?_
 refine⟨[_],zL 0 rfl rs0,yD ?_⟩;exact bB (by omega) rfl
theorem dX {Ψ:PV}{n:Nat}{p:Rat}[h:QR Ψ n p](hn:n≤1999):CTy prog 64 [Ψ] (ag (rtc (n+1) p)) :=
 ⟨(bo func64),fun M w vs hM hT hv=>by
  obtain⟨v,rfl,h1⟩:=fa1 hv;obtain⟨a,e1,e2,e3,e4,e5,e6⟩:=qr_x h1;obtain⟨s,x,d,rfl,g1⟩:=h.h h1;subst e1;exact((w7norm e2 e3 e4 e5 hn).run M w _ hM hT ⟨_,_,rfl,e6,rfl⟩).mono fun r w' ⟨hB,us,k1,t,y,z,k2,g⟩=>⟨hB,us,k1,t,y,z,k2,g.relen g1.rlen⟩⟩
section
variable {Ψ Φ : PV} {n m k j N : Nat} {y z : Int} {p q : Rat}
theorem zX0 [h:VN Ψ n k](hn:n≤1000000):CTy prog 67 [Ψ] (ag (ztq n ((k:Nat):Int))):=by
 refine yI (σs:=[sv (ntq n k)]) ?_ (fs1 (fun M w v g=>⟨v,rfl,h.h g⟩) fs0);refine fw [.cell 2 27] func67 fun X=>?_;iterate 2 refine u ?_
 refine u fun b2=>?_;repeat refine u ?_
 refine zD 0 rfl rfl ?_;repeat refine u ?_
 refine⟨[_],zL 0 rfl rs0,yD ?_⟩;exact(vz_q:PSub (ag (st [xc (.bool false),ntq n k])) (ag (ztq n (if false=true then -((k:Nat):Int) else((k:Nat):Int)))))
theorem yJ0 [h:VN Ψ n k][h':VN Φ m j](hn:n≤100000000)(hm:m≤100000000):CTy prog 91 [Ψ,Φ] (sv (ntc (n+m) (k*j))):=ctn2 (bo func91) fun xs ys h1 h2 h3 h4 h5 h6=>by
 subst h3 h6;exact jX (yR7 (by omega) (by omega)) (zI5 (zac (kF (yJ _ h1) (yJ _ h4)) (by omega)))
theorem ps_num (h1:z=q.num)(h2:k=q.den)(hn:n≤N)(hm:m≤N):PSub (ag (st [ztc n z,ntc m k])) (ag (rtc N q)):=fun M w v ⟨us,e,x,y,e1,⟨s,a,k1,g1⟩,d,o,e2,⟨b,k2,g2,g3⟩,e3⟩=>by
 subst h1;subst h2;subst k1;subst k2;obtain rfl:o=[]:=e3;obtain⟨xs,j1,j2,j3⟩:=g2.ex;exact⟨us,e,s,a,b,by rw[e1,e2];rfl,g1.sgn,g1.num,g3,zac g1.len hn,zac (by rw[← j3];exact zW _ j1.lt) (zac j2 hm)⟩
theorem oO (e:p=q)(h:rlen q m):PSub (ag (rtc n p)) (ag (rtc m q)):=fun _ _ _ ⟨us,e1,s,a,d,e2,g⟩=>⟨us,e1,s,a,d,e2,by subst e;exact g.relen h⟩
theorem k7neg [h:QR Ψ n p](hn:n≤1990):CTy prog 92 [Ψ] (ag (rtc (n+1) (-p))):=by
 refine yI (σs:=[ag (rtq n p)]) ?_ (fs1 qr_q fs0);refine fw [.cell 2 29] func92 fun X=>?_;iterate 2 refine u ?_
 refine tbx rfl fun b1=>(u fun b2=>?_);repeat refine u ?_
 refine zB rfl rfl (dX (by omega)) ?_;iterate 3 refine u ?_
 refine zK 6 mixed rfl rfl ?_;repeat refine u ?_
 refine d1 (oldf 1 0 rfl rfl rfl rfl) ?_;refine zC rfl rfl (yR3 (by omega)) ?_;repeat refine u ?_
 refine d1 (oldf 1 2 rfl rfl rfl rfl) ?_;repeat refine u ?_
 refine zD 0 rfl rfl ?_;repeat refine u ?_
 refine⟨[_],zL 0 rfl rs0,yD ?_⟩;exact ps_num (Rat.neg_num p).symm (Rat.neg_den p).symm (zab _) (zab _)
theorem w7two (h1:rlen p n)(h2:rlen q m)(hn:n≤990)(hm:m≤990):CTy prog 89 [ag (rtc n p),ag (rtc m q)] (ag (rtc (n+m+1) (p+q))):=by
 refine fw [.cell 4 29] func89 fun X=>?_;iterate 4 refine u ?_
 refine u fun b4=>?_;iterate 2 refine u ?_
 apply qU 1 28 26 [(25,5,0),(26,1000026,0)] rfl rfl mixed rfl rfl rfl;repeat refine u ?_
 refine cx1 (oca rfl rfl fun _=>zX0 (by omega)) rfl ?_;refine cx1 (obs rfl rfl rfl rfl rfl rfl) rfl ?_;refine cx1 (oca rfl rfl fun _=>zL0 (by omega) (by(simp;done))) rfl ?_;repeat refine u ?_
 refine cx1 (oca rfl rfl fun _=>zX0 (by omega)) rfl ?_;refine cx1 (obs rfl rfl rfl rfl rfl rfl) rfl ?_;refine cx1 (oca rfl rfl fun _=>zL0 (by omega) (by(simp;done))) rfl ?_;refine cx1 (obs rfl rfl rfl rfl rfl rfl) rfl ?_;refine cx1 (oca rfl rfl fun _=>yR4 (by omega) (by(simp;done))) rfl ?_;repeat refine u ?_
 refine cx1 (oca rfl rfl fun _=>yJ0 (by omega) (by omega)) rfl ?_;refine cx1 (oca rfl rfl fun _=>yR2 (by omega) (by omega)) rfl ?_;repeat refine u ?_
 refine cN rfl rfl (cal) (cS rfl rfl rfl (cst rfl rfl rfl) ?_);repeat refine u ?_
 refine cE (fun b5=>?_);refine fm ?_;repeat refine u ?_
 refine e ?_;exact oO (zQ4 p q) (jB h1 h2)
theorem k7newL [h:VZ Ψ n z][h':VN Φ m k](hn:n≤2000)(hm:m≤2000)(e:mkRat z k=q)(hr:rlen q N):CTy prog 90 [Ψ,Φ] (tu [ag (rtc N q),exP (.int .i64 (if k=0 then 30 else 0))]):=by
 subst e;refine jX (yR2 hn hm) fun M w v ⟨vs,e,hv⟩=>⟨vs,e,fs1 (oO rfl hr) (fs1 (PSub.refl _) fs0) _ _ _ hv⟩
theorem w7add {l:List Rat}(hn:n≤970)(hlen:l.length≤2)(hr:∀ x∈l,rlen x (n+1)):CTy prog 27 [sv (sl 3 (l.map (rtq n)))] (ag (rtc (2*n+8) (sumR l))):=by
 refine fw [.cell 2 29] func27 fun X=>?_;iterate 2 refine u ?_
 refine u fun b2=>?_;repeat refine u ?_
 refine zB rfl rfl (k7of (k:=0) (by omega)) ?_;refine u fun b3=>?_;repeat refine u ?_
 refine lp (σ:=Nat) [0,2,3] (fun s=>[(4,True,zJ s)]) (fun s=>[.blk b3 29 [rtc (2+(n+2)*s) (sumR (l.take s))],.blk b2 29 (zc (.agg #[.bool false,.slice none 0 0,.slice none 0 0]))]) (fun s=>s≤l.length∧rlen (sumR (l.take s)) (2+(n+2)*s)) (fun s=>l.length-s) (0) (⟨by omega,by simp[sumR];exact zN lN (by omega)⟩) fun s hJ Y _=>?_;obtain⟨h1,h2⟩:=hJ;have hg:s<l.length→rlen (l.getD s Df.d) (n+1):=fun h=>hr _ (nJ h);have he:(n+2)*(s+1)=(n+2)*s+(n+2):=Nat.mul_succ _ _;have hs2:s≤1→(n+2)*s≤n+2:=fun h=>by have:=zbo (n+2) h;omega
 repeat refine u ?_
 refine ti (fun c0=>?_) fun c0=>?_;iterate 3 refine u ?_
 refine zK 7 mixed rfl rfl ?_;repeat refine u ?_
 refine d1 (oix _ rfl rfl rfl (fun _=>rfl) (fun _=>(by(have e0:=dt c0;omega)))) ?_;repeat refine u ?_
 refine zC rfl rfl (dX (by omega)) ?_;refine zC rfl rfl (w7two h2 (hg (by(have e0:=dt c0;omega))) (by(have e0:=dt c0;omega)) (by omega)) ?_;repeat refine u ?_
 rotate_left;repeat refine u ?_
 refine e ?_;rotate_left
 ·have hs:s<l.length:=by have:=dt c0;omega
  have:=hs2 (by omega);refine⟨s+1,tes ?_ ?_ ?_,?_,(by omega)⟩;refine zA rfl tn;refine zA rfl (zA rfl (zA rfl tn));rotate_left;rotate_left
  ·rw[rI hs,he,show 2+((n+2)*s+(n+2))=2+(n+2)*s+(n+1)+1 by omega];exact zaa _
  ·exact⟨hs,by rw[rI hs,he];exact zN (jB h2 (hg hs)) (by omega)⟩
 ·obtain rfl:s=l.length:=by have:=df c0;omega
  have:(n+2)*l.length≤(n+2)*2:=zbo _ hlen;exact bB (by omega) (by rw[zaF])
theorem k7addl {l:List Rat}[h:VQ Ψ n l](hn:n≤970)(hlen:l.length≤2):CTy prog 27 [Ψ] (ag (rtc (2*n+8) (sumR l))) :=
 ⟨(bo func27),fun M w vs hM hT hv=>by
  obtain⟨v,e,h1⟩:=fa1 hv;have hq:=h.h h1;exact(w7add hn hlen fun x hx=>by
   obtain⟨cs,h3,h2⟩:=hq.row;obtain⟨i,hi,rfl⟩:=zbg.1 hx;obtain⟨us,_,_,s,a,d,_,g⟩:=h2 i _ (zag hi);exact g.rlen).run M w vs hM hT (fs1 vq_q fs0 _ _ _ hv)⟩
theorem sum2 (p q:Rat):sumR [p,q]=p+q:=by simp[sumR,Rat.zero_add]
theorem zX9 [h:VQ Ψ n [p,q]](hn:n≤970):CTy prog 27 [Ψ] (ag (rtc (2*n+8) (p+q))):=by rw[← sum2];exact k7addl hn (by simp)
end
section
variable {Ψ Φ : PV} {n m : Nat} {p q : Rat}
theorem rlen2 [h:QR Ψ n p][k:QR Φ m q]{M:Nat→Prop}{w:World}{vs:List Value}(hv:Fa [Ψ,Φ] M w vs):rlen p (n+1)∧rlen q (m+1):=by
 obtain⟨v,u,_,h1,h2⟩:=fa2 hv;obtain⟨_,_,_,_,g1⟩:=h.h h1;obtain⟨_,_,_,_,g2⟩:=k.h h2;exact⟨g1.rlen,g2.rlen⟩
theorem yN9 [h:QR Ψ n p]:PSub Ψ (ag (rtq (n+1) p)):=fun _ _ _ x=>by obtain⟨s,a,d,e,g⟩:=h.h x;exact⟨_,e,s,a,d,rfl,g.up (zbt n)⟩
theorem cty_2 [h:QR Ψ n p][k:QR Φ m q]{P:Program}{f:FuncId}{ρ:PV}(hb:Bod P f)(hr:rlen p (n+1)→rlen q (m+1)→CTy P f [ag (rtq (n+1) p),ag (rtq (m+1) q)] ρ):CTy P f [Ψ,Φ] ρ :=
 ⟨hb,fun M w vs hM hT hv=>by
  obtain⟨g1,g2⟩:=rlen2 hv;exact(hr g1 g2).run M w vs hM hT ((fs1 (yN9 (h:=h)) (fs1 (yN9 (h:=k)) fs0)) _ _ _ hv)⟩
theorem zX8 [h:QR Ψ n p][k:QR Φ m q](hn:n≤950)(hm:m≤950):CTy prog 29 [Ψ,Φ] (ag (rtc (n+m+3) (p-q))):=cty_2 (bo func29) fun g1 g2=>by
 refine fw [.cell 4 29] func29 fun X=>?_;iterate 4 refine u ?_
 refine u fun b4=>?_;iterate 2 refine u ?_
 refine zK 5 mixed rfl rfl ?_;repeat refine u ?_
 refine zC rfl rfl (k7neg (by omega)) ?_;repeat refine u ?_
 refine zC rfl rfl (zX9 (by omega)) ?_;repeat refine u ?_
 refine e ?_;exact oO (zcI p q).symm (by rw[zcI];exact zN (jB g1 (qW g2)) (by omega))
theorem zK9 [h:QR Ψ n p][k:QR Φ m q](hn:n≤1990)(hm:m≤1990):CTy prog 16 [Ψ,Φ] (exP (.int .i64 (cmpR p q))):=by
 refine yI (σs:=[ag (rtq n p),ag (rtq m q)]) ?_ (fs1 qr_q (fs1 qr_q fs0));refine fw [.tmp 4] func16 fun X=>?_;iterate 2 refine u ?_
 refine tbx rfl fun b2=>(tbx rfl fun b3=>?_);iterate 3 refine u ?_
 refine zK 4 mixed rfl rfl ?_;repeat refine u ?_
 refine zC rfl rfl (dX (by omega)) ?_;repeat refine u ?_
 refine zC rfl rfl (dX (by omega)) ?_;iterate 6 refine u ?_
 refine zK 17 mixed rfl rfl ?_;repeat refine u ?_
 refine d1 (oldf 1 0 rfl rfl rfl rfl) ?_;repeat refine u ?_
 refine d1 (oldf 0 2 rfl rfl rfl rfl) ?_;refine zC rfl rfl (zX0 (by omega)) ?_;repeat refine u ?_
 refine zC rfl rfl (zL0 (by omega) (by(simp;done))) ?_;repeat refine u ?_
 refine d1 (oldf 0 0 rfl rfl rfl rfl) ?_;repeat refine u ?_
 refine d1 (oldf 1 2 rfl rfl rfl rfl) ?_;refine zC rfl rfl (zX0 (by omega)) ?_;repeat refine u ?_
 refine zC rfl rfl (zL0 (by omega) (by(simp;done))) ?_;refine zC rfl rfl (k5sub (by omega) (by omega)) ?_;refine zC rfl rfl (yI9 (by omega)) ?_;repeat refine u ?_
 refine e ?_;refine ps_i ?_;exact yL2 p q
end
theorem w7sign {a:(Bool×List Nat)×List Nat}{n:Nat}(ha:∀ x∈a.1.2,x<4294967296)(hd:∀ x∈a.2,x<4294967296)(h1:a.1.2.length≤n)(h2:a.2.length≤n)(hn:n≤500000):CTy prog 15 [ag (rxx a)] (exP (.int .i64 (sgnR (mkRat (zx a.1) (val a.2))))):=by
 have e:=@zP (val a.2);refine fw [.tmp 2] func15 fun X=>?_;repeat refine u ?_
 refine zB rfl rfl (jW (by omega)) ?_;repeat refine u ?_
 refine ti (fun c0=>?_) fun c0=>?_;repeat refine u ?_
 refine⟨[_],rst rfl rs0,yD ?_⟩;refine ps_i ?_;rotate_left;repeat refine u ?_
 refine zB rfl rfl (yI9 (by omega)) ?_;repeat refine u ?_
 refine⟨[_],rst rfl rs0,yD ?_⟩;refine ps_i ?_;rotate_left
 ·have h0:val a.2=0:=by have:=dt c0;omega
  rw[h0,Rat.mkRat_zero];rfl
 ·have h0:val a.2≠0:=fun c=>df c0 (by omega);exact sgn_mk h0
theorem yI7 {Ψ:PV}{n:Nat}{p:Rat}[h:QR Ψ n p](hn:n≤500000):CTy prog 15 [Ψ] (exP (.int .i64 (sgnR p))) :=
 ⟨(bo func15),fun M w vs hM hT hv=>by
  obtain⟨v,rfl,h1⟩:=fa1 hv;obtain⟨a,e1,e2,e3,e4,e5,e6⟩:=qr_x h1;subst e1;exact(w7sign e2 e3 e4 e5 hn).run M w _ hM hT ⟨_,_,rfl,e6,rfl⟩⟩
theorem yI0 {Ψ Φ:PV}{n m:Nat}{p q:P2}[h:QP Ψ n p][k:QP Φ m q](hn:n≤20000)(hm:m≤20000):CTy prog 87 [Ψ,Φ] (exP (.bool (decide (p=q)))):=by
 refine yI (σs:=[ag (ptq n p),ag (ptq m q)]) ?_ (fs1 qp_q (fs1 qp_q fs0));refine fw [.tmp 4] func87 fun X=>?_;repeat refine u ?_
 refine zB rfl rfl (vQ (by omega) (by omega)) ?_;repeat refine u ?_
 refine t1g rfl rfl (oca rfl rfl fun g=>vQ (by omega) (by omega)) ?_;repeat refine u ?_
 refine e ?_;refine psb ?_;rw[← Bool.decide_and,decide_eq_decide,zbd]
theorem w7mul {l:List Rat}{n:Nat}(hn:n≤970)(hlen:l.length≤2)(hr:∀ x∈l,rlen x (n+1)):CTy prog 28 [sv (sl 3 (l.map (rtq n)))] (ag (rtc (2*n+8) (fP l))):=by
 have r1:rlen (1:Rat) 1:=⟨by rw[show (1:Rat).num.natAbs=1 from rfl,xQ];simp,by rw[show (1:Rat).den=1 from rfl,xQ];simp⟩;refine fw [.cell 2 29] func28 fun X=>?_;iterate 2 refine u ?_
 refine u fun b2=>?_;repeat refine u ?_
 refine zB rfl rfl (k7of (k:=1) (by omega)) ?_;refine u fun b3=>?_;repeat refine u ?_
 refine lp (σ:=Nat) [0,2,3] (fun s=>[(4,True,zJ s)]) (fun s=>[.blk b3 29 [rtc (2+(n+2)*s) (fP (l.take s))],.blk b2 29 (zc (.agg #[.bool false,.slice none 0 0,.slice none 0 0]))]) (fun s=>s≤l.length∧rlen (fP (l.take s)) (2+(n+2)*s)) (fun s=>l.length-s) (0) (⟨by omega,zN r1 (by omega)⟩) fun s hJ Y _=>?_;obtain⟨h1,h2⟩:=hJ;have hg:s<l.length→rlen (l.getD s Df.d) (n+1):=fun h=>hr _ (nJ h);have he:(n+2)*(s+1)=(n+2)*s+(n+2):=Nat.mul_succ _ _;have hs2:s≤1→(n+2)*s≤n+2:=fun h=>by have:=zbo (n+2) h;omega
 repeat refine u ?_
 refine ti (fun c0=>?_) fun c0=>?_;repeat refine u ?_
 refine zA1 (oix _ rfl rfl rfl (fun _=>rfl) (fun _=>(by(have e0:=dt c0;omega)))) ?_;repeat refine u ?_
 refine zB rfl rfl (dX (by omega)) ?_;refine u fun b5=>?_;refine u ?_;refine zO (zY (s:=5) 0 rfl rfl) ?_;refine u ?_;apply aX 16 0 15 [0,0,0,0,0,0,0,0,0,0,0,0,0,0,1,2] [rtc (2+(n+2)*(s+1)) (fP (l.take (s+1)))] rfl mixed rfl rfl;repeat refine u ?_
 refine tdx0 ?_;refine d1 (oldf 0 0 rfl rfl rfl rfl) ?_;repeat refine u ?_
 refine tdx0 ?_;refine zC rfl rfl (zL0 (by(have e0:=dt c0;omega)) (by(simp;done))) ?_;repeat refine u ?_
 refine tdx0 ?_;refine d1 (oldf 0 2 rfl rfl rfl rfl) ?_;repeat refine u ?_
 refine tdx0 ?_;refine zC rfl rfl (yJ0 (by(have e0:=dt c0;omega)) (by omega)) ?_;repeat refine u ?_
 refine tdx0 ?_;refine zC rfl rfl (k7newL (q:=fP (l.take (s+1))) (N:=2+(n+2)*(s+1)) (by(have e0:=dt c0;omega)) (by(have e0:=dt c0;omega)) ?_ ?_) ?_;rotate_left;rotate_left;repeat refine u ?_
 refine tdx2 rfl (ckvt rfl rfl rfl rfl rfl rfl) ?_;repeat refine u ?_
 rotate_left;repeat refine u ?_
 refine e ?_;rotate_left
 ·have hs:s<l.length:=by have:=dt c0;omega
  rw[fT hs,zP5];rfl
 ·have hs:s<l.length:=by have:=dt c0;omega
  rw[fT hs,he];exact zN (gF h2 (hg hs)) (by omega)
 ·have hs:s<l.length:=by have:=dt c0;omega
  have:=hs2 (by omega);refine⟨s+1,tes ?_ ?_ (zaa _),?_,(by omega)⟩;refine zA rfl tn;refine zA rfl (zA rfl (zA rfl tn));exact⟨hs,by rw[fT hs,he];exact zN (gF h2 (hg hs)) (by omega)⟩
 ·obtain rfl:s=l.length:=by have:=df c0;omega
  have:(n+2)*l.length≤(n+2)*2:=zbo _ hlen;exact bB (by omega) (by rw[zaF])
theorem k7mul {Ψ:PV}{n:Nat}{p q:Rat}[h:VQ Ψ n [p,q]](hn:n≤970):CTy prog 28 [Ψ] (ag (rtc (2*n+8) (p*q))) :=
 ⟨(bo func28),fun M w vs hM hT hv=>by
  obtain⟨v,e,h1⟩:=fa1 hv;have hq:=h.h h1;rw[show p*q=fP [p,q] by simp[fP,Rat.one_mul]];exact(w7mul hn (by simp) fun x hx=>by
   obtain⟨cs,h3,h2⟩:=hq.row;obtain⟨i,hi,rfl⟩:=zbg.1 hx;obtain⟨us,_,_,s,a,d,_,g⟩:=h2 i _ (zag hi);exact g.rlen).run M w vs hM hT (fs1 vq_q fs0 _ _ _ hv)⟩
theorem yI8 {Ψ:PV}{n:Nat}{p q:Rat}[h:VQ Ψ n [p,q]](hn:n≤970):CTy prog 28 [Ψ] (ag (rtc (2*n+8) (p*q))):=k7mul hn
theorem lO {p q:Rat}{A B:Nat}(h1:rlen p A)(h2:rlen q B):rlen (p-q) (A+B+1):=by
 rw[zcI];exact jB h1 (qW h2)
theorem rlen_height {lo hi x:Rat}{l:P2}{a b c e:Nat}(h1:rlen lo a)(h2:rlen hi b)(h3:rlen x c)(h4:rlen l.1 e)(h5:rlen l.2 e)(h:lo<hi):rlen (jJ l (kQ lo hi x)) (2*a+b+c+3*e+5):=by
 unfold jJ kQ;rw[if_pos h];exact zN (jB h4 (gF (oL (lO h3 h1) (lO h2 h1)) (lO h5 h4))) (by omega)
theorem PL.rl {M:Nat→Prop}{w:World}{n:Nat}{l:List P2}{v:Value}(h:PL M w n l v):∀ x∈l,rlen x.1 (n+1)∧rlen x.2 (n+1):=fun x hx=>by
 obtain⟨cs,h1,h2⟩:=h.row;obtain⟨i,hi,rfl⟩:=zbg.1 hx;obtain⟨us,h3,h4,s,a,d,t,b,e,e0,g⟩:=h2 i _ (zag hi);exact⟨g.x.rlen,g.y.rlen⟩
theorem hsL_take {lo hi x:Rat}{l:List P2}{s:Nat}(h:s<l.length):hsL lo hi x (l.take (s+1))=hsL lo hi x (l.take s)++[jJ (l.getD s (0,0)) (kQ lo hi x)]:=by
 rw[(zT ((0,0):P2) h).1];unfold hsL;simp
theorem geF {p q:Rat}(h:Tr (decide (0≤cmpR p q)=false)):p<q:=by have:=of_decide_eq_false h.h;rw[gD] at this;grind
theorem geT {p q:Rat}(h:Tr (decide (0≤cmpR p q)=true)):¬ p<q:=by have:=of_decide_eq_true h.h;rw[gD] at this;grind
set_option maxHeartbeats 4000000 in
theorem wlpart {lo hi x:Rat}{a b c:Nat}(ha:a≤20000)(hb:b≤20000)(hc:c≤20000):CTy prog 93 [ag (rtq a lo),ag (rtq b hi),ag (rtq c x)] (tu [ag (rtc (2*a+b+c+9) (kQ lo hi x)),exP (.bool (decide (lo<hi)))]):=by
 refine ctc func93 rfl rfl rfl rfl fun X=>(zR (zZ rfl (zA1 (obx rfl) (zA1 (obx rfl) (zA1 (obx rfl) ?_)))));refine tal fun b6=>?_;refine zA1 (oas rfl) (zA0 (zR (zR (zZ rfl (zA1 (old rfl rfl) (zA1 (old rfl rfl) (zB rfl rfl (gB (by omega) (by omega)) ?_)))))));refine zA1 (oge rfl rfl) (zA0 ?_);refine t_if rfl (fun c0=>?_) (fun c0=>?_)
 ·refine zR ?_;refine zZ rfl (zB rfl rfl (krof (k:=0) (K:=2) (by omega) (by omega)) (zD 0 rfl rfl (zA1 (oas rfl) (zA0 (xJ ?_)))));have hq:=geT c0;exact⟨[_,_],zL 0 rfl (rst rfl rs0),cR (bB (by omega) (by unfold kQ;rw[if_neg hq];rfl)) (psb (Eq.symm (decide_eq_false hq)))⟩
 ·refine qT ?_;refine zR ?_;apply qU 1 12 11 [(10,8,0),(11,1000011,0)] rfl rfl mixed rfl rfl rfl;refine cx1 (old rfl rfl) rfl (cx1 (old rfl rfl) rfl (cx1 (oca rfl rfl fun _=>mS (by omega) (by omega)) rfl (cx1 (old rfl rfl) rfl (cx1 (old rfl rfl) rfl (cx1 (oca rfl rfl fun _=>mS (by omega) (by omega)) rfl (cx1 (oca rfl rfl fun _=>yH4 (by omega) (by omega)) rfl (cx1 (omv rfl) rfl ?_)))))));refine cx1 (oex rfl rfl) rfl (cx1 (oex rfl rfl) rfl (cN rfl rfl (cal) (cS rfl rfl rfl (cst rfl rfl rfl) ?_)));refine cE (fun b8=>?_);refine zA1 (oas rfl) (zA0 (zR (zZ rfl (zA1 (zG 0 rfl) (zD 1 rfl rfl (zA1 (oas rfl) (zA0 ?_)))))));refine xJ ?_;have hq:=geF c0;exact⟨[_,_],zL 1 rfl (rst rfl rs0),cR (bB (by omega) (by unfold kQ;rw[if_pos hq])) (psb (Eq.symm (decide_eq_true hq)))⟩
set_option maxHeartbeats 4000000 in
theorem wlheight {l:P2}{t:Rat}{n m:Nat}(hn:n≤10000)(hm:m≤10000):CTy prog 94 [ag (ptq n l),ag (rtq m t)] (ag (rtc (8*n+4*m+30) (jJ l t))):=by
 refine ctc func94 rfl rfl rfl rfl fun X=>(zR (zZ rfl (zA1 (obx rfl) (zA1 (obx rfl) ?_))));refine tal fun b4=>?_;refine zA0 (zR (zK 12 mixed rfl rfl (d1 (ofa rfl rfl) (d1 (old rfl rfl) (d1 (old rfl rfl) (d1 (ofa rfl rfl) (d1 (old rfl rfl) ?_)))))));refine d1 (ofa rfl rfl) (d1 (old rfl rfl) (zC rfl rfl (mS (by omega) (by omega)) (d1 (obs rfl rfl rfl rfl rfl rfl) (zC rfl rfl (zK7 (by omega)) (d1 (obs rfl rfl rfl rfl rfl rfl) (zC rfl rfl (zK8 (by omega)) (d0 ?_)))))));refine zD 0 rfl rfl (zA0 (xJ ?_));exact⟨[_],zL 0 rfl rs0,yD (bB (by omega) rfl)⟩
theorem klheight {Ψ Φ:PV}{l:P2}{t:Rat}{n m:Nat}[QP Ψ n l][QR Φ m t](hn:n≤10000)(hm:m≤10000):CTy prog 94 [Ψ,Φ] (ag (rtc (8*n+4*m+30) (jJ l t))):=yI (wlheight hn hm) (fs1 qp_q (fs1 qr_q fs0))
set_option maxHeartbeats 4000000 in
theorem wlheights {l:List P2}{lo hi x:Rat}{n a b c:Nat}(hn:n≤1000)(ha:a≤1000)(hb:b≤1000)(hc:c≤1000)(hlen:l.length≤1000000)(hq:lo<hi):CTy prog 30 [ag (rtq a lo),ag (rtq b hi),ag (rtq c x),sv (sl 6 (l.map (ptq n)))] (sv (sl 3 ((hsL lo hi x l).map (rtc (8*n+4*(2*a+b+c+9)+30))))):=by
 refine ct (rs:=[8]) func30 rfl rfl rfl rfl rfl mO fun X=>(zR (zZ rfl (zA1 (obx rfl) (zA1 (obx rfl) (zA1 (obx rfl) (zA1 (oas rfl) (zA0 ?_)))))));refine zR (zZ rfl (zA1 (old rfl rfl) (zA1 (old rfl rfl) (zA1 (old rfl rfl) (zB rfl rfl (wlpart (by omega) (by omega) (by omega)) (zA1 (omv rfl) (zA1 (oex rfl rfl) ?_)))))));refine zA1 (oex rfl rfl) ?_;refine tal fun b9=>?_;refine zD 0 rfl rfl (zA1 (oas rfl) (zA0 (zR (zR (zZ rfl (zA1 (omv rfl) (zA1 (ont rfl) ?_)))))));refine zA0 ?_;refine t_if rfl (fun c0=>?_) (fun c0=>?_)
 ·exact(bn_t c0 hq).elim
 ·refine qT ?_;refine zR (zR (zZ rfl (zA1 (omv rfl) (zA1 (oln rfl) (zA1 (omv rfl) (zA0 (iG ?_)))))));refine t_ts (jG 29 3) ?_;refine yD1 (σ:=Nat×Value) (fun z=>[(8,True,exP z.2),(9,True,zU b9 0),(22,True,sv (sl 6 (l.map (ptq n)))),(23,True,zJ l.length),(24,True,zJ z.1)]) (fun z=>[.row z.2 29 3 ((hsL lo hi x (l.take z.1)).map (rtc (8*n+4*(2*a+b+c+9)+30))),.blk b9 29 [rtc (2*a+b+c+9) (kQ lo hi x)]]) (fun z=>z.1≤l.length) (fun z=>l.length-z.1) ((0,.slice none 0 0)) (fN (zA rfl (zA rfl (zA rfl (tc rfl (ps_i (by simp)) (tc rfl (ps_i rfl) tn))))) rfl) (zaD _) (fun z hJ Y _=>?_);obtain⟨s,v8⟩:=z;dsimp only at hJ ⊢;refine zR (zZ rfl (zA1 (olt rfl rfl) (zA0 (zR ?_))));refine t_if rfl (fun c1=>?_) (fun c1=>?_)
  ·have hc1:s<l.length:=by have:=dt c1;omega
   refine qT (zR (iG (zR (zZ rfl (zA1 (oix s rfl rfl rfl (fun _=>rfl) (fun _=>by omega)) (zA1 (old rfl rfl) ?_))))));refine tal fun b12=>?_;refine zD 0 rfl rfl (zA0 (zZ rfl (zA1 (omv rfl) (zA1 (zG 0 rfl) (zA1 (zG 2 rfl) (zB rfl rfl (klheight (by omega) (by omega)) (zA1 (obs rfl rfl rfl rfl rfl rfl) ?_)))))));refine tap 1 rfl rfl rfl (by simp[hsL];omega) rfl fun r33=>?_;refine zA1 (oas rfl) (zA0 (t_ts (ts_sub (List.sublist_cons_self _ _)) (zZ rfl (zA1 (oad rfl rfl (by omega)) (zA1 (omv rfl) (zA0 ?_))))));exact⟨(s+1,r33),fN (zA rfl (zA rfl (zA rfl (zA rfl (tc rfl (ps_i (by simp)) tn))))) (by rw[hsL_take hc1];simp;rfl),(by dsimp only;omega),by dsimp only;omega⟩
  ·have hc1:=df c1;refine t_ts (yV 0 rfl (s:=8) rfl) ?_;rw[show l.take s=l from zaz (by omega)];refine zO5 (zR (zZ rfl (zA1 (omv rfl) (zA1 (oas rfl) (zA0 (xJ ?_))))));exact tr1 rfl (ps_r _)
noncomputable def lvOf (lo hi yl yh:Rat)(es:List (P2×P2)):List P2:=Classical.epsilon fun l=>if lo<hi then IsLv lo hi yl yh es l else l=[]
theorem iR {lo hi yl yh:Rat}{es:List (P2×P2)}{l:List P2}(h:if lo<hi then IsLv lo hi yl yh es l else l=[]):l=lvOf lo hi yl yh es:=by
 have h2:=zcT (p:=fun l=>if lo<hi then IsLv lo hi yl yh es l else l=[]) ⟨l,h⟩;show l=Classical.epsilon _;split at h
 ·rename_i c;simp only[if_pos c] at h2 ⊢; exact lv_uniq h h2
 ·rename_i c;simp only[if_neg c] at h2 ⊢; exact h.trans h2.symm
theorem bS {a b:P2}{x:Rat}{A B:Nat}(ha:plen a A)(hb:plen b A)(hx:rlen x B):rlen (zM a b x) (6*A+B+5):=by
 unfold zM;split
 ·exact zN fS (by omega)
 ·exact zN (ha.at_ hb (oL (dM hx ha.x) (dM hb.x ha.x))).y (by omega)
theorem wR {lo hi:Rat}{es:List (P2×P2)}{x:P2}:∀ {s:Nat},s≤es.length→(x∈xP lo hi es s ↔ ∃ e∈es.take s,uP lo hi e∧x=qG lo hi e)
 | 0,_=>by simp[xP]
 | s+1,h=>by
  have hg:es.getD s ((0,0),(0,0))=es[s]:=by simp[zah,zag (show s<es.length by omega)]
  rw[xP,zae,wR (s:=s) (by omega),hg,zcL (show s<es.length by omega)];simp only[zae,zak];constructor
  ·rintro(⟨e,h1,h2⟩ | h1)
   ·exact⟨e,.inl h1,h2⟩
   ·split at h1
    ·rename_i c;exact⟨_,.inr rfl,c,zak.1 h1⟩
    ·cases h1
  ·rintro⟨e,h1 | rfl,h2,h3⟩
   ·exact .inl ⟨e,h1,h2,h3⟩
   ·exact .inr (by rw[if_pos h2];exact zak.2 h3)
theorem oF {lo hi:Rat}{es:List (P2×P2)}{x:P2}:x∈xP lo hi es es.length ↔ ∃ e∈es,uP lo hi e∧x=qG lo hi e:=by
 rw[wR (zab _),zaF]
section
variable {Ψ Φ Θ Ξ : PV} {n0 n1 n2 n3 : Nat} {lo hi x : Rat} {l : List P2} [h0 : QR Ψ n0 lo] [h1 : QR Φ n1 hi] [h2 : QR Θ n2 x] [h3 : VPt Ξ n3 l]
theorem hts_k {P:Program}{f:FuncId}{N:Nat}(hq:lo<hi)(h:CTy P f [ag (rtq n0 lo),ag (rtq n1 hi),ag (rtq n2 x),sv (sl 6 (l.map (ptq n3)))] (sv (sl 3 ((hsL lo hi x l).map (rtc N))))) :
  CTy P f [Ψ,Φ,Θ,Ξ] (sv (sl 3 ((hsL lo hi x l).map (rtc (2*n0+n1+n2+3*n3+12))))) :=
 ⟨h.bod,fun M w vs hM hT hv=>by
  refine(h.run M w vs hM hT ((fs1 qr_q (fs1 qr_q (fs1 qr_q (fs1 rD fs0)))) _ _ _ hv)).mono fun r w' ⟨hB,y⟩=>⟨hB,?_⟩;obtain⟨v0,v1,v2,v3,rfl,k0,k1,k2,k3⟩:=fa4 hv;obtain⟨s0,a0,d0,rfl,g0⟩:=h0.h k0;obtain⟨s1,a1,d1,rfl,g1⟩:=h1.h k1;obtain⟨s2,a2,d2,rfl,g2⟩:=h2.h k2;have hr:=(h3.h k3).rl;obtain⟨cs,f1,f2⟩:=tZ (R:=RQc N) (f:=rtc N) (fun _=>rfl) (fun a us h=>h) y;refine aY (R:=RQc (2*n0+n1+n2+3*n3+12)) (fun _=>rfl) (fun a us _ ⟨s,b,c,e,f⟩=>⟨s,b,c,e,f⟩) ⟨cs,f1,fun i a ha=>?_⟩;obtain⟨us,f3,f4,s,b,c,f5,f6⟩:=f2 i a ha;refine⟨us,f3,f4,s,b,c,f5,f6.relen ?_⟩;have ham:=zam ha;unfold hsL at ham;obtain⟨p,hp,rfl⟩:=zai.1 ham;exact zN (rlen_height g0.rlen g1.rlen g2.rlen (hr p hp).1 (hr p hp).2 hq) (by omega)⟩
theorem klheights (hl0:n0≤300)(hl1:n1≤300)(hl2:n2≤300)(hl3:n3≤300)(hlen:l.length≤1000)(hq:lo<hi):CTy prog 30 [Ψ,Φ,Θ,Ξ] (sv (sl 3 ((hsL lo hi x l).map (rtc (2*n0+n1+n2+3*n3+12))))) :=
 hts_k hq (wlheights (by omega) (by omega) (by omega) (by omega) (by omega) hq)
end
end Go.Proofs.YtalkinejknjidaaGreatDoor
namespace Go.Proofs.YtalkinejknjidaaGreatDoor
open Go Go.SL Go.RowKit Go.Proofs Go.ChangeShapes Go.WideShapes Go.ChangeAt Go.Deep Tryz
abbrev F0:Nat→Prop:=fun _=>False
structure Opn {H:Type}(enc:TypeId×Value→H)(P:Program)(W:World)(B:Nat)(t:TypeId){α:Type}(sz:Nat)(f:α→CT)(Bd:α→Prop):Prop where
 c:P.cellsOf t=sz
 s:∀ a,(f a).sz=sz
 o:∀ {fuel:Nat} {cs:List Value} {x:DataW H×List MemPlace},(∀ m∈x.1.weights P t,m≤B)→DataW.trod enc P W 0 (fun _=>true) true fuel t cs=some x→∃ a,(f a).p F0 W cs∧Bd a
def Two (P:Program)(t zA0 zA1:TypeId)(k0 k1:Nat):Prop:=∃ fs f0 f1,P.underlying t=some (.struct fs)∧fs[0]? = some f0∧fs[1]? = some f1∧f0.type=zA0∧f1.type=zA1∧f0.offset=0∧f1.offset=k0∧P.cellsOf t=k0+k1
section
variable {H : Type} {enc : TypeId × Value → H} {P : Program} {W : World} {B : Nat}
theorem dC {e:TypeId}{m:Nat}{d:DataW H}(hm:m∈d.weights P e):∀ {l:List (DataW H)},d∈l→m∈DataW.weightsAll P e l
 | c::l,h=>by
  simp only[DataW.weightsAll,zae];rcases zad.1 h with rfl | h
  ·exact .inl hm
  ·exact .inr (dC hm h)
theorem vI {α β:Type}{t zA0 zA1:TypeId}{k0 k1:Nat}{f:α→CT}{g:β→CT}{Bf:α→Prop}{Bg:β→Prop}(ht:Two P t zA0 zA1 k0 k1)(h0:Opn enc P W B zA0 k0 f Bf)(h1:Opn enc P W B zA1 k1 g Bg) :
  Opn enc P W B t (k0+k1) (fun a:α×β=>st [f a.1,g a.2]) (fun a=>Bf a.1∧Bg a.2):=by
 obtain⟨fs,f0,f1,u1,u2,u3,u4,u5,u6,u7,u8⟩:=ht;refine⟨u8,fun a=>by show (f a.1).sz+((g a.2).sz+0)=_;rw[h0.s,h1.s];rfl,fun {fuel cs x} hw h=>?_⟩;obtain⟨xs,n,_,hxe,hl,hx,hall⟩:=DataW.trod_struct u1 h;have l0:=(zaB.1 u2).1;have l1:=(zaB.1 u3).1;have e0:=hall 0 f0 u2;have e1:=hall 1 f1 u3;have n0:P.cellsOf f0.type=k0:=by rw[u4];exact h0.c
 have n1:P.cellsOf f1.type=k1:=by rw[u5];exact h1.c
 rw[u6,n0,List.drop_zero] at e0;rw[u7,n1] at e1;have hd:(cs.drop k0).length=k1:=by rw[zaV];omega
 rw[zaz (by omega)] at e1;have hwe:∀ m∈DataW.weightsEach P (fs.toList.map (·.type)) (xs.map (·.1)),m≤B:=fun m hm=>hw m (by rw[hxe];simpa [DataW.weights,u1] using hm);have hwi:∀(i:Nat) (f:Field) (hi:i<xs.length),fs[i]? = some f→∀ m∈(xs[i]'hi).1.weights P f.type,m≤B:=fun i f hi hf m hm =>
  hwe m (DataW.weights_mem_each (j:=i) (by rw[zbQ];simp[hf]) (by rw[zbQ,zag hi];rfl) m hm)
 have w0:=hwi 0 f0 (by omega) u2;have w1:=hwi 1 f1 (by omega) u3;rw[zag (show 0<xs.length by omega)] at e0;rw[zag (show 1<xs.length by omega)] at e1;rw[u4] at w0 e0;rw[u5] at w1 e1;obtain⟨a,p0,b0⟩:=h0.o w0 e0;obtain⟨b,p1,b1⟩:=h1.o w1 e1;exact⟨(a,b),⟨cs.take k0,cs.drop k0,(zbb _ _).symm,p0,cs.drop k0,[],by simp,p1,rfl⟩,b0,b1⟩
theorem zV5 {t e:TypeId}(ht:P.underlying t=some (.slice e))(he:P.underlying e=some (.int .u32))(ce:P.cellsOf e=1)(c:P.cellsOf t=1)(hb:0<P.bytesOf e):Opn enc P W B t 1 ntx (fun xs=>xs.length≤B):=by
 refine⟨c,fun _=>rfl,fun {fuel cs x} hw h=>?_⟩;rcases open_ints ht he ce h with⟨h1,_⟩ | ⟨a,l,c,zs,h1,_,h3,h4,h5,h6,h7,h8⟩
 ·exact⟨[],⟨_,h1,fF⟩,zaD _⟩
 ·simp only[if_true] at h5;have hn:=nat_of_cells h3 h4 (by omega) h8 (fun i hi=>h7 i (by omega));refine⟨_,⟨_,h1,hn⟩,?_⟩;obtain⟨_,_,ad,cap,e1,_⟩:=hn.slc;have e2:l=_:=(Value.slice.inj e1).2.1;rw[← e2];have h9:=hw (((lits .u32 (zs.take l)).length+(lits (H:=H) .u32 (zs.drop l)).length)*P.bytesOf e) (by rw[h6];simp only[DataW.weights,ht];exact List.mem_cons_self);have h10:(lits (H:=H) .u32 (zs.take l)).length=l:=by simp[lits];omega
  rw[h10] at h9;exact zac (Nat.le_add_right l _) (zac (zci _ hb) h9)
theorem opn_bool {t:TypeId}(ht:P.underlying t=some .bool)(hc:P.cellsOf t=1):Opn enc P W B t 1 (fun b=>xc (.bool b)) (fun _=>True):=by
 refine⟨hc,fun _=>rfl,fun {fuel cs x} hw h=>?_⟩;cases fuel with
 | zero=>simp[DataW.trod] at h
 | succ n =>
  unfold DataW.trod at h;rw[ht] at h;split at h<;>simp_all [xc,Value.oneCell']
theorem addr_add2 (a:Addr)(i j:Nat):(a.add i).add j=a.add (i+j):=by
 unfold Addr.add;split<;>split<;>simp_all<;>omega
theorem slc_argk {w:World}{a:Addr}{n cap k:Nat}{f:Nat→Value}(hk:0<k)(hn:n≤cap)(hc:cap≤9223372036854775807)(h:∀ i,i<n*k→w.cell? (a.add i)=some (f i)) :
  Slc (fun _=>False) w k (.slice (some a) n cap) n ((List.range (n*k)).map f):=by
 refine⟨by simp,by omega,_,_,rfl,hn,?_⟩;rcases zbi n with h0 | h0
 ·exact .inl h0
 right;have ha:=h 0 (Nat.mul_pos h0 hk);obtain⟨b,off,spot⟩:=a;have e0:(⟨b,off,spot⟩:Addr).add 0=⟨b,off,spot⟩:=rfl;rw[e0] at ha;unfold World.cell? at ha;split at ha;case h_2=>cases ha
 case h_1 cur t fz hb =>
  dsimp only at hb;cases spot with
  | some s=>simp at ha
  | none =>
   refine⟨b,off,rfl,fun h=>h,cur,t,fz,hb,fun j u hj=>?_⟩;obtain⟨hlt,rfl⟩:=zaL.1 hj;have hlt':j<n*k:=by simpa using hlt
   have:=h j hlt';rw[xV] at this;simp only[World.cell?,hb] at this;simpa using this
theorem opn_slicew {α:Type}{t te:TypeId}{k:Nat}{f:α→CT}{Bf:α→Prop}(ht:P.underlying t=some (.slice te))(c:P.cellsOf t=1)(he:Opn enc P W B te k f Bf)(hk:0<k):Opn enc P W B t 1 (fun l:List α=>sl k (l.map f)) (fun l=>l.length*P.bytesOf te≤B∧∀ a∈l,Bf a):=by
 refine⟨c,fun _=>rfl,fun {fuel cs x} hw h=>?_⟩;rcases open_slice ht h with⟨h1,_⟩ | ⟨a,len,cap,m,n,D,Pl,h1,hb,hl,hm,hmm,hxe,hx⟩
 ·exact⟨[],⟨_,[],h1,tX,rfl,by simp[uB]⟩,by simp⟩
 ·simp only[if_true] at hmm;have hde:x.1 = .slice ((List.range len).map D) ((List.range (m-len)).map fun j=>D (len+j)):=congrArg Prod.fst hxe;have hwd:∀ i,i<len→∀ q∈(D i).weights P te,q≤B:=fun i hi q hq=>hw q (by
   rw[hde];simp only[DataW.weights,ht,zad,zae];exact .inr (.inl (dC hq (zcj (zbq.2 hi)))))
  have hwl:len*P.bytesOf te≤B:=by
   have h9:=hw ((((List.range len).map D).length+((List.range (m-len)).map fun j=>D (len+j)).length)*P.bytesOf te) (by rw[hde];simp only[DataW.weights,ht];exact List.mem_cons_self);rw[zar,zcD] at h9;exact zac (zaU _ (Nat.le_add_right len _)) h9
  have hx':∀ i,i<len→∃ y:α×List Value,(∀ q,q<k→W.cell? (a.add (i*k+q))=some (y.2.getD q default))∧y.2.length=k∧(f y.1).p F0 W y.2∧Bf y.1:=fun i hi=>by
   obtain⟨cs',e1,e2⟩:=hx i (by omega);rw[he.c] at e1;obtain⟨b,g1,g2⟩:=he.o (hwd i hi) e2;have hl:=(f b).len g1;rw[he.s] at hl;obtain⟨_,_,e3⟩:=World.cells?_some e1;refine⟨(b,cs'),fun q hq=>?_,hl,g1,g2⟩;have:=e3 q hq;rw[addr_add2] at this;rw[this,zah,zag (show q<cs'.length by omega)];rfl
  rcases zbi len with h0 | h0
  ·subst h0;exact⟨[],⟨_,[],h1,slc_zero,rfl,by simp[uB]⟩,by simp⟩
  haveI:Inhabited (α×List Value):=⟨Classical.choose (hx' 0 h0)⟩
  obtain⟨Y,hY⟩:=choose_lt hx';rw[sD] at hm;refine⟨(List.range len).map fun i=>(Y i).1,?_,by rw[zar,zcD];exact hwl,fun b hb=>by obtain⟨i,hi,rfl⟩:=zai.1 hb;exact(hY i (zbq.1 hi)).2.2.2⟩;rw[h1];refine aY (R:=fun M w (b:α) us=>(f b).p M w us) he.s (fun _ _ _ h=>h) ⟨(List.range (len*k)).map fun j=>(Y (j/k)).2.getD (j%k) default,?_,fun i b hi=>?_⟩
  ·have:=slc_argk (k:=k) (f:=fun j=>(Y (j/k)).2.getD (j%k) default) hk hl hm (fun j hj=>by
    have h2:=(hY (j/k) (Nat.div_lt_of_lt_mul (by rw[zat];exact hj))).1 (j%k) (zaH _ hk);rw[zat,zbz] at h2;exact h2)
   simpa using this
  ·obtain⟨hlt,rfl⟩:=zaL.1 hi;have hlt':i<len:=by simpa using hlt
   obtain⟨y1,y2,y3,_⟩:=hY i hlt';refine⟨(Y i).2,y2,fun q u hq=>?_,by simpa using y3⟩;have hq3:q<k:=y2 ▸ (zaL.1 hq).1;have hlt2:i*k+q<len*k:=by have:=zaU k (show i+1≤len from hlt');rw[zaQ,zbm] at this;omega
   rw[zbQ,zcG hlt2];simp only[Option.map_some];rw[show (i*k+q)/k=i by rw[zat,Nat.mul_add_div hk,zcw hq3,zbM],show (i*k+q)%k=q by rw[zat,Nat.mul_add_mod,zao hq3],zah,hq];rfl
theorem top_slice {α:Type}{t te:TypeId}{f:α→CT}{Bf:α→Prop}{r:Reach}{b0:Nat}{v:Value}{d:DataW H}{ps:List MemPlace}(ho:Opn enc P W B t 1 f Bf)(ht:P.underlying t=some (.slice te))(hval:Value.okWide P W r b0 t v)(hw:∀ m∈d.weights P t,m≤B)(h:DataW.Trod enc P W 0 (fun _=>true) true t v d ps) :
  ∃ a,(sv (f a)).p F0 W v∧Bf a:=by
 obtain⟨a0,len,cap,rfl⟩:=okWide_slice ht hval;obtain⟨fuel,hf⟩:=h;obtain⟨a,h1,h2⟩:=ho.o (x:=(d,ps)) hw hf;exact⟨a,by have h3:(f a).p F0 W (Value.cells (.slice a0 len cap)).toList:=h1;show (f a).p F0 W [_];simpa [Value.cells] using h3,h2⟩
structure NumTypes (P:Program)(tp tr ti tn tb tw:TypeId):Prop where
 p:Two P tp tr tr 3 3
 r:Two P tr ti tn 2 1
 i:Two P ti tb tn 1 1
 n:P.underlying tn=some (.slice tw)
 w:P.underlying tw=some (.int .u32)
 b:P.underlying tb=some .bool
 cn:P.cellsOf tn=1
 cw:P.cellsOf tw=1
 cb:P.cellsOf tb=1
 hb:0<P.bytesOf tw
variable {tp tr ti tn tb tw : TypeId}
theorem reach_le:reachBytes≤200000000000000:=by decide
end
end Go.Proofs.YtalkinejknjidaaGreatDoor
namespace Go.Proofs.YtalkinejknjidaaGreatDoor
open Go.SL Go.RowKit Go.Proofs Tryz
theorem zZ7 {f:FuncId}{τs:List PV}{n N:Nat}{q:Rat}(h:CTy prog f τs (ag (rtc n q)))(hr:rlen q N):CTy prog f τs (ag (rtc N q)):=⟨h.bod,fun M w vs hM hT hv=>(h.run M w vs hM hT hv).mono fun r w' ⟨hB,k⟩=>⟨hB,oO rfl hr _ _ _ k⟩⟩
set_option maxHeartbeats 4000000 in
theorem zQ8 {f:FuncId}{n m N:Nat}{p q r:Rat}(hf:CTy prog f [sv (sl 3 [rtq n p,rtq m q])] (ag (rtc N r))):CTy prog 313 [ag (rtq n p),ag (rtq m q),pa (fc f [])] (ag (rtc N r)):=by
 refine ctc func313 rfl rfl rfl rfl fun X=>(zR (zZ rfl (zA1 (obx rfl) (zA1 (obx rfl) ?_))));refine tal fun b5=>?_;refine zA0 (zR (zZ rfl (zA1 (old rfl rfl) (zA1 (old rfl rfl) (zA1 (old rfl rfl) (zA1 (obs rfl rfl rfl rfl rfl rfl) (zB rfl rfl hf ?_)))))));refine zD 0 rfl rfl (zA0 (xJ ?_));exact⟨[_],zL 0 rfl rs0,yD (PSub.refl _)⟩
set_option maxHeartbeats 4000000 in
theorem wtwo {f:FuncId}:CTy prog 271 [fn f []] (fn 313 [pa (fc f [])]):=by
 refine ct (rs:=[2]) func271 rfl rfl rfl rfl rfl mO fun X=>(zR (zZ rfl (zA1 (obx rfl) (zA1 (oas rfl) (zA0 (zR (zZ rfl ?_)))))));refine zA1 (omf rfl) (zA1 (oas rfl) (zA0 (xJ ?_)));exact tr1 rfl (PSub.refl _)
set_option maxHeartbeats 4000000 in
theorem tP {g:FuncId}{l:List PV}{n m N:Nat}{a b c d r s:Rat}(h1:CTy prog g ([ag (rtq n a),ag (rtq m c)]++l) (ag (rtc N r)))(h2:CTy prog g ([ag (rtq n b),ag (rtq m d)]++l) (ag (rtc N s))):CTy prog 268 [ag (st [rtq n a,rtq n b]),ag (st [rtq m c,rtq m d]),pa (fc g l)] (ag (st [rtc N r,rtc N s])):=by
 refine ctc func268 rfl rfl rfl rfl fun X=>(zR (zZ rfl (zA1 (obx rfl) (zA1 (obx rfl) ?_))));refine tal fun b5=>?_;refine zA0 (zR (zK 13 mixed rfl rfl (d1 (old rfl rfl) (d1 (ofa rfl rfl) (d1 (old rfl rfl) (d1 (ofa rfl rfl) (d1 (old rfl rfl) ?_)))))));refine zC rfl rfl h1 (d1 (old rfl rfl) (d1 (ofa rfl rfl) (d1 (old rfl rfl) (d1 (ofa rfl rfl) (d1 (old rfl rfl) (zC rfl rfl h2 (d1 (obd rfl rfl rfl) ?_)))))));refine d0 (zD 0 rfl rfl (zA0 (xJ ?_)));exact⟨[_],zL 0 rfl rs0,yD (PSub.refl _)⟩
set_option maxHeartbeats 4000000 in
theorem wparts {g:FuncId}{l:List PV}:CTy prog 189 [fn g l] (fn 268 [pa (fc g l)]):=by
 refine ct (rs:=[2]) func189 rfl rfl rfl rfl rfl mO fun X=>(zR (zZ rfl (zA1 (obx rfl) (zA1 (oas rfl) (zA0 (zR (zZ rfl ?_)))))));refine zA1 (omf rfl) (zA1 (oas rfl) (zA0 (xJ ?_)));exact tr1 rfl (PSub.refl _)
theorem ktwo {Ψ:PV}{f:FuncId}[h:VF Ψ f []]:CTy prog 271 [Ψ] (fn 313 [pa (fc f [])]):=yI wtwo (fs1 (fun _ _ _ k=>h.h k) fs0)
theorem zP7 {Ψ:PV}{f:FuncId}{l:List PV}[h:VF Ψ f l]:CTy prog 189 [Ψ] (fn 268 [pa (fc f l)]):=yI wparts (fs1 (fun _ _ _ k=>h.h k) fs0)
set_option maxHeartbeats 4000000 in
theorem wvadd {p q:P2}{n m:Nat}(g1:plen p (n+1))(g2:plen q (m+1))(hn:n≤30000)(hm:m≤30000):CTy prog 200 [ag (ptq n p),ag (ptq m q)] (ag (st [rtc (n+m+3) (addP p q).1,rtc (n+m+3) (addP p q).2])):=by
 refine ctc func200 rfl rfl rfl rfl fun X=>(zR (zZ rfl (zA1 (obx rfl) (zA1 (obx rfl) ?_))));refine tal fun b4=>?_;refine zA0 (zR (zK 5 mixed rfl rfl (zC rfl rfl ktwo (zC rfl rfl zP7 (d1 (old rfl rfl) (d1 (old rfl rfl) (zC rfl rfl (tP (N:=n+m+3) (zQ8 (zZ7 (zK8 (by omega)) (zN (jB g1.x g2.x) (by omega)))) (zQ8 (zZ7 (zK8 (by omega)) (zN (jB g1.y g2.y) (by omega))))) ?_)))))));refine d0 (zD 0 rfl rfl (zA0 (xJ ?_)));exact⟨[_],zL 0 rfl rs0,yD (PSub.refl _)⟩
set_option maxHeartbeats 4000000 in
theorem wvsub {p q:P2}{n m:Nat}(g1:plen p (n+1))(g2:plen q (m+1))(hn:n≤30000)(hm:m≤30000):CTy prog 199 [ag (ptq n p),ag (ptq m q)] (ag (st [rtc (n+m+3) (subP p q).1,rtc (n+m+3) (subP p q).2])):=by
 refine ctc func199 rfl rfl rfl rfl fun X=>(zR (zZ rfl (zA1 (obx rfl) (zA1 (obx rfl) ?_))));refine tal fun b4=>?_;refine zA0 (zR (zK 4 mixed rfl rfl (zC rfl rfl zP7 (d1 (old rfl rfl) (d1 (old rfl rfl) (zC rfl rfl (tP (mS (by omega) (by omega)) (mS (by omega) (by omega))) (d0 ?_)))))));refine zD 0 rfl rfl (zA0 (xJ ?_));exact⟨[_],zL 0 rfl rs0,yD (PSub.refl _)⟩
set_option maxHeartbeats 4000000 in
theorem wvscale {p:P2}{q:Rat}{n m:Nat}(g1:plen p (n+1))(g2:rlen q (m+1))(hn:n≤30000)(hm:m≤30000):CTy prog 291 [ag (ptq n p),ag (rtq m q)] (ag (st [rtc (n+m+3) (qV p q).1,rtc (n+m+3) (qV p q).2])):=by
 refine ctc func291 rfl rfl rfl rfl fun X=>(zR (zZ rfl (zA1 (obx rfl) (zA1 (obx rfl) ?_))));refine tal fun b4=>?_;refine zA0 (zR (zK 7 mixed rfl rfl (zC rfl rfl ktwo (zC rfl rfl zP7 (d1 (old rfl rfl) (d1 (old rfl rfl) (d1 (old rfl rfl) ?_)))))));refine d1 (obd rfl rfl rfl) (zC rfl rfl (tP (N:=n+m+3) (zQ8 (zZ7 (zK7 (by omega)) (zN (gF g1.x g2) (by omega)))) (zQ8 (zZ7 (zK7 (by omega)) (zN (gF g1.y g2) (by omega))))) (d0 (zD 0 rfl rfl (zA0 (xJ ?_)))));exact⟨[_],zL 0 rfl rs0,yD (PSub.refl _)⟩
set_option maxHeartbeats 4000000 in
theorem wvcross {p q:P2}{n m:Nat}(g1:plen p (n+1))(g2:plen q (m+1))(hn:n≤20000)(hm:m≤20000):CTy prog 347 [ag (ptq n p),ag (ptq m q)] (ag (rtc (2*n+2*m+9) (zH p q))):=by
 refine ctc func347 rfl rfl rfl rfl fun X=>(zR (zZ rfl (zA1 (obx rfl) (zA1 (obx rfl) ?_))));refine tal fun b4=>?_;refine zA0 (zR (zK 13 mixed rfl rfl (d1 (ofa rfl rfl) (d1 (old rfl rfl) (d1 (ofa rfl rfl) (d1 (old rfl rfl) (d1 (obs rfl rfl rfl rfl rfl rfl) ?_)))))));refine zC rfl rfl (zK7 (by omega)) (d1 (ofa rfl rfl) (d1 (old rfl rfl) (d1 (ofa rfl rfl) (d1 (old rfl rfl) (d1 (obs rfl rfl rfl rfl rfl rfl) (zC rfl rfl (zK7 (by omega)) (zC rfl rfl (mS (by omega) (by omega)) ?_)))))));refine d0 (zD 0 rfl rfl (zA0 (xJ ?_)));exact⟨[_],zL 0 rfl rs0,yD (oO rfl (zN (dM (gF g1.x g2.y) (gF g1.y g2.x)) (by omega)))⟩
set_option maxHeartbeats 4000000 in
theorem kvof {k l:Nat}(hk:k<9223372036854775808)(hl:l<9223372036854775808):CTy prog 198 [zJ k,zJ l] (ag (st [rtc 2 ((k:Nat):Rat),rtc 2 ((l:Nat):Rat)])):=by
 refine ctc func198 rfl rfl rfl rfl fun X=>(zR (zZ rfl ?_));refine tal fun b4=>?_;refine zA0 (zR (zZ rfl (zA1 (omv rfl) (zB rfl rfl (krof (K:=2) hk (by omega)) (zA1 (omv rfl) (zB rfl rfl (krof (K:=2) hl (by omega)) (zA1 (obd rfl rfl rfl) ?_)))))));refine zD 0 rfl rfl (zA0 (xJ ?_));exact⟨[_],zL 0 rfl rs0,yD (PSub.refl _)⟩
set_option maxHeartbeats 4000000 in
theorem yM2 {p q:P2}{n m:Nat}(hn:n≤80000)(hm:m≤80000):CTy prog 213 [ag (ptq n p),ag (ptq m q)] (exP (.int .i64 (cmpP p q))):=by
 refine ct (rs:=[4]) func213 rfl rfl rfl rfl rfl mO fun X=>(zR (zZ rfl (zA1 (obx rfl) (zA1 (obx rfl) (zA1 (oas rfl) (zA0 (zR ?_)))))));refine zR (zZ rfl (zA1 (ofa rfl rfl) (zA1 (old rfl rfl) (zA1 (ofa rfl rfl) (zA1 (old rfl rfl) (zB rfl rfl (gB (by omega) (by omega)) (zA1 (oas rfl) ?_)))))));refine zA0 (zR (zZ rfl (zA1 (omv rfl) (zA1 (oni rfl rfl) (zA0 ?_)))));refine t_if rfl (fun c0=>?_) (fun c0=>?_)
 ·refine zR ?_;refine zZ rfl (zA1 (omv rfl) (zA1 (oas rfl) (zA0 (xJ ?_))));exact tr1 rfl (ps_i (by unfold cmpP;rw[if_pos (dt c0)]))
 ·refine qT ?_;refine zR (zZ rfl (zA1 (ofa rfl rfl) (zA1 (old rfl rfl) (zA1 (ofa rfl rfl) (zA1 (old rfl rfl) (zB rfl rfl (gB (by omega) (by omega)) (zA1 (oas rfl) ?_)))))));refine zA0 (xJ ?_);exact tr1 rfl (ps_i (by unfold cmpP;rw[if_neg (df c0)]))
set_option maxHeartbeats 4000000 in
theorem wvsame {p q:P2}{n m:Nat}(hn:n≤80000)(hm:m≤80000):CTy prog 139 [ag (ptq n p),ag (ptq m q)] (exP (.bool (decide (cmpP p q=0)))):=by
 refine ct (rs:=[4]) func139 rfl rfl rfl rfl rfl mO fun X=>(zR (zZ rfl (zA1 (obx rfl) (zA1 (obx rfl) (zA1 (oas rfl) (zA0 (zR ?_)))))));refine zZ rfl (zA1 (old rfl rfl) (zA1 (old rfl rfl) (zB rfl rfl (yM2 hn hm) (zA1 (oeq rfl rfl) (zA1 (oas rfl) (zA0 (xJ ?_)))))));exact tr1 rfl (psb rfl)
section
variable {Ψ Φ : PV} {n m : Nat} {p q : P2}
theorem zQ1 [h:QP Ψ n p][k:QP Φ m q]{P:Program}{f:FuncId}{ρ:PV}(hb:Bod P f)(hr:plen p (n+1)→plen q (m+1)→CTy P f [ag (ptq n p),ag (ptq m q)] ρ):CTy P f [Ψ,Φ] ρ :=
 ⟨hb,fun M w vs hM hT hv=>by
  obtain⟨v,u,_,h1,h2⟩:=fa2 hv;obtain⟨_,_,_,_,_,_,_,g1⟩:=h.h h1;obtain⟨_,_,_,_,_,_,_,g2⟩:=k.h h2;exact(hr ⟨g1.x.rlen,g1.y.rlen⟩ ⟨g2.x.rlen,g2.y.rlen⟩).run M w vs hM hT ((fs1 qp_q (fs1 qp_q fs0)) _ _ _ hv)⟩
theorem yP7 [h:QP Ψ n p][k:QP Φ m q](hn:n≤30000)(hm:m≤30000):CTy prog 200 [Ψ,Φ] (ag (st [rtc (n+m+3) (addP p q).1,rtc (n+m+3) (addP p q).2])):=zQ1 (bo func200) fun g1 g2=>wvadd g1 g2 hn hm
theorem pF [h:QP Ψ n p][k:QP Φ m q](hn:n≤30000)(hm:m≤30000):CTy prog 199 [Ψ,Φ] (ag (st [rtc (n+m+3) (subP p q).1,rtc (n+m+3) (subP p q).2])):=zQ1 (bo func199) fun g1 g2=>wvsub g1 g2 hn hm
theorem kvscale {r:Rat}[h:QP Ψ n p][k:QR Φ m r](hn:n≤30000)(hm:m≤30000):CTy prog 291 [Ψ,Φ] (ag (st [rtc (n+m+3) (qV p r).1,rtc (n+m+3) (qV p r).2])) :=
 ⟨(bo func291),fun M w vs hM hT hv=>by
  obtain⟨v,u,_,h1,h2⟩:=fa2 hv;obtain⟨_,_,_,_,_,_,_,g1⟩:=h.h h1;obtain⟨_,_,_,_,g2⟩:=k.h h2;exact(wvscale ⟨g1.x.rlen,g1.y.rlen⟩ g2.rlen hn hm).run M w vs hM hT ((fs1 qp_q (fs1 qr_q fs0)) _ _ _ hv)⟩
theorem vN [h:QP Ψ n p][k:QP Φ m q](hn:n≤20000)(hm:m≤20000):CTy prog 347 [Ψ,Φ] (ag (rtc (2*n+2*m+9) (zH p q))):=zQ1 (bo func347) fun g1 g2=>wvcross g1 g2 hn hm
theorem pG [h:QP Ψ n p][k:QP Φ m q](hn:n≤80000)(hm:m≤80000):CTy prog 213 [Ψ,Φ] (exP (.int .i64 (cmpP p q))):=yI (yM2 hn hm) (fs1 qp_q (fs1 qp_q fs0))
theorem lX [h:QP Ψ n p][k:QP Φ m q](hn:n≤80000)(hm:m≤80000):CTy prog 139 [Ψ,Φ] (exP (.bool (decide (cmpP p q=0)))):=yI (wvsame hn hm) (fs1 qp_q (fs1 qp_q fs0))
end
theorem rS {p q:P2}{n m:Nat}(e:p=q)(h:n≤m):PSub (ag (st [rtc n p.1,rtc n p.2])) (ag (st [rtc m q.1,rtc m q.2])):=fun M w v ⟨us,e1,x,y,e2,⟨s,a,d,k1,g1⟩,z,o,e3,⟨t,b,f,k2,g2⟩,e4⟩=>by
 subst e;exact⟨us,e1,x,y,e2,⟨s,a,d,k1,g1.up h⟩,z,o,e3,⟨t,b,f,k2,g2.up h⟩,e4⟩
set_option maxHeartbeats 4000000 in
theorem wvat {p q:P2}{u:Rat}{n m k:Nat}(hn:n≤9000)(hm:m≤9000)(hk:k≤9000):CTy prog 226 [ag (ptq n p),ag (ptq m q),ag (rtq k u)] (ag (st [rtc (2*n+m+k+9) (atP p q u).1,rtc (2*n+m+k+9) (atP p q u).2])):=by
 refine ctc func226 rfl rfl rfl rfl fun X=>(zR (zZ rfl (zA1 (obx rfl) (zA1 (obx rfl) (zA1 (obx rfl) ?_)))));refine tal fun b6=>?_;refine zA0 (zR (zK 7 mixed rfl rfl (d1 (old rfl rfl) (d1 (old rfl rfl) (d1 (old rfl rfl) (zC rfl rfl (pF (by omega) (by omega)) (d1 (old rfl rfl) ?_)))))));refine zC rfl rfl (kvscale (by omega) (by omega)) (zC rfl rfl (yP7 (by omega) (by omega)) (d0 (zD 0 rfl rfl (zA0 (xJ ?_)))));exact⟨[_],zL 0 rfl rs0,yD (rS rfl (by omega))⟩
theorem kvat {Ψ Φ Θ:PV}{p q:P2}{u:Rat}{n m k:Nat}[h0:QP Ψ n p][h1:QP Φ m q][h2:QR Θ k u](hn:n≤9000)(hm:m≤9000)(hk:k≤9000):CTy prog 226 [Ψ,Φ,Θ] (ag (st [rtc (2*n+m+k+9) (atP p q u).1,rtc (2*n+m+k+9) (atP p q u).2])):=yI (wvat hn hm hk) (fs1 qp_q (fs1 qp_q (fs1 qr_q fs0)))
theorem wvnorm {l:List P2}{n:Nat}(hn:n≤20000)(hl:l.length≤1000000):CTy prog 131 [sv (sl 6 (l.map (ptq n)))] (sv (sl 6 (l.map (ptc (n+1))))):=by
 refine fw [.tmp 2] func131 fun X=>?_;repeat refine u ?_
 refine t_ts (jG 39 6) ?_;refine lp (σ:=Nat×Value) [5,6] (fun s=>[(2,True,exP s.2),(7,True,zJ s.1)]) (fun s=>[.row s.2 39 6 ((l.take s.1).map (ptc (n+1)))]) (fun s=>s.1≤l.length) (fun s=>l.length-s.1) ((0,.slice none 0 0)) ((by simp)) fun s hJ Y _=>?_;repeat refine u ?_
 refine ti (fun c0=>?_) fun c0=>?_;repeat refine u ?_
 refine zA1 (oix _ rfl rfl rfl (fun _=>rfl) (fun _=>(by(have e0:=dt c0;omega)))) ?_;refine u ?_;refine u fun b4=>?_;refine zD 0 rfl rfl (zO (zY (s:=4) 0 rfl rfl) ?_);refine u ?_;refine zK 9 mixed rfl rfl ?_;repeat refine u ?_
 refine zC rfl rfl (pI (by omega)) ?_;repeat refine u ?_
 refine zC rfl rfl (pI (by omega)) ?_;repeat refine u ?_
 refine tap 0 rfl rfl rfl (by(simp;omega)) rfl fun r20=>?_;repeat refine u ?_
 rotate_left;iterate 7 refine u ?_
 refine t_ts (yV (s:=2) 0 rfl rfl) ?_;repeat refine u ?_
 refine e ?_;rotate_left
 ·refine⟨(s.1+1,r20),tes ?_ ?_ ?_,(by(have e0:=dt c0;omega)),(by(have e0:=dt c0;omega))⟩;refine zA rfl (zA rfl tn);refine zA rfl (zA rfl tn);rw[(zT (Df.d:P2) (show s.1<l.length by have:=dt c0;omega)).1,zay];exact zaa _
 ·have h0:=df c0;rw[zaz (by omega)];exact PSub.refl _
theorem fY {Ψ:PV}{n:Nat}{l:List P2}[h:VPt Ψ n l](hn:n≤20000)(hl:l.length≤1000000):CTy prog 131 [Ψ] (sv (sl 6 (l.map (ptc (n+1))))):=yI (wvnorm hn hl) (fs1 rD fs0)
theorem cts1 {Ψ:PV}{c:CT}[h:CtOf Ψ c]:CtsOf Ψ [c]:=⟨fun k=>let ⟨us,e,g⟩:=h.h k;⟨us,e,us,[],(zas _).symm,g,rfl⟩⟩
abbrev sgq (n:Nat)(s:P2×P2):CT:=st [ptq n s.1,ptq n s.2]
theorem yO4 {n m:Nat}(h:n≤m)(q:P2){M:Nat→Prop}{w:World}{us:List Value}:(ptq n q).p M w us→(ptq m q).p M w us:=fun⟨x,y,e,⟨s,a,d,k1,g1⟩,z,o,e2,⟨t,b,f,k2,g2⟩,e3⟩=>⟨x,y,e,⟨s,a,d,k1,g1.up h⟩,z,o,e2,⟨t,b,f,k2,g2.up h⟩,e3⟩
theorem zV1 {n m N:Nat}{a b:P2}{s:P2×P2}(e:(a,b)=s)(h1:n≤N)(h2:m≤N):PSub (ag (st [ptq n a,ptq m b])) (ag (sgq N s)):=fun M w v ⟨us,e1,x,y,e2,k1,z,o,e3,k2,e4⟩=>by
 subst e;exact⟨us,e1,x,y,e2,yO4 h1 _ k1,z,o,e3,yO4 h2 _ k2,e4⟩
set_option maxHeartbeats 4000000 in
theorem wfrom {p q:P2}{n m:Nat}(hn:n≤80000)(hm:m≤80000):CTy prog 315 [ag (ptq n p),ag (ptq m q)] (ag (sgq (max n m) (xY p q))):=by
 refine ctc func315 rfl rfl rfl rfl fun X=>(zR (zZ rfl ?_));refine tbx (hc:=cts1) rfl fun b2=>?_;refine tbx (hc:=cts1) rfl fun b3=>?_;refine tal fun b4=>?_;refine zA0 (zR (zR (zZ rfl (zA1 (zG 2 rfl) (zA1 (zG 1 rfl) (zB rfl rfl (pG (by omega) (by omega)) (zA1 (ogt rfl rfl) ?_)))))));refine zA0 ?_;refine t_if rfl (fun c0=>?_) (fun c0=>?_)
 ·refine zZ rfl ?_;refine zA1 (zG 1 rfl) (zA1 (zG 2 rfl) (zD 2 rfl rfl (zD 1 rfl rfl (zA0 (zR (zZ rfl (zA1 (zG 2 rfl) ?_)))))));refine zA1 (zG 1 rfl) ?_;refine zA1 (obd rfl rfl rfl) (zD 0 rfl rfl (zA0 (xJ ?_)));exact⟨[_],zL 0 rfl rs0,yD (zV1 (by unfold xY;rw[if_pos (dt c0)]) (by omega) (by omega))⟩
 ·refine qT ?_;refine zR (zZ rfl (zA1 (zG 2 rfl) (zA1 (zG 1 rfl) ?_)));refine zA1 (obd rfl rfl rfl) (zD 0 rfl rfl (zA0 (xJ ?_)));exact⟨[_],zL 0 rfl rs0,yD (zV1 (by unfold xY;rw[if_neg (df c0)]) (by omega) (by omega))⟩
set_option maxHeartbeats 4000000 in
theorem walong {s:P2×P2}{n:Nat}(hn:n≤30000):CTy prog 369 [ag (sgq n s)] (ag (st [rtc (2*n+3) (subP s.2 s.1).1,rtc (2*n+3) (subP s.2 s.1).2])):=by
 refine ctc func369 rfl rfl rfl rfl fun X=>(zR (zZ rfl (zA1 (obx rfl) ?_)));refine tal fun b2=>?_;refine zA0 (zR (zZ rfl (zA1 (ofa rfl rfl) (zA1 (old rfl rfl) (zA1 (ofa rfl rfl) (zA1 (old rfl rfl) (zB rfl rfl (pF (by omega) (by omega)) ?_)))))));refine zD 0 rfl rfl (zA0 (xJ ?_));exact⟨[_],zL 0 rfl rs0,yD (rS rfl (by omega))⟩
set_option maxHeartbeats 4000000 in
theorem wside {s:P2×P2}{p:P2}{n m:Nat}(hn:n≤4000)(hm:m≤4000):CTy prog 346 [ag (sgq n s),ag (ptq m p)] (exP (.int .i64 (sgnR (uR s p)))):=by
 refine ct (rs:=[4]) func346 rfl rfl rfl rfl rfl mO fun X=>(zR (zZ rfl (zA1 (obx rfl) (zA1 (obx rfl) (zA1 (oas rfl) (zA0 (zR ?_)))))));refine zK 9 mixed rfl rfl (d1 (old rfl rfl) (zC rfl rfl (walong (by omega)) (d1 (old rfl rfl) (d1 (ofa rfl rfl) (d1 (old rfl rfl) (zC rfl rfl (pF (by omega) (by omega)) (zC rfl rfl (vN (by omega) (by omega)) ?_)))))));refine zC rfl rfl (vP (by omega)) (d1 (oas rfl) (d0 (zA0 (xJ ?_))));exact tr1 rfl (ps_i rfl)
set_option maxHeartbeats 4000000 in
theorem yB5 {s:P2×P2}{p:P2}{n m:Nat}(hn:n≤80000)(hm:m≤80000):CTy prog 319 [ag (sgq n s),ag (ptq m p)] (exP (.bool (decide (qD s p)))):=by
 refine ct (rs:=[4]) func319 rfl rfl rfl rfl rfl mO fun X=>(zR (zZ rfl (zA1 (obx rfl) (zA1 (obx rfl) (zA1 (oas rfl) (zA0 (zR ?_)))))));refine zZ rfl (zA1 (ofa rfl rfl) (zA1 (old rfl rfl) (zA1 (old rfl rfl) (zB rfl rfl (pG (by omega) (by omega)) (zA1 (ole rfl rfl) (zA1 (omv rfl) (t1g rfl rfl (old rfl rfl) ?_)))))));refine t1g rfl rfl (ofa rfl rfl) (t1g rfl rfl (old rfl rfl) (t1g rfl rfl (oca rfl rfl fun g=>pG (by omega) (by omega)) (t1g rfl rfl (ole rfl rfl) (zA1 (opk rfl rfl rfl) (zA1 (oas rfl) (zA0 (xJ ?_)))))));exact tr1 rfl (psb (by rw[← Bool.decide_and,decide_eq_decide];unfold qD;rw[wE,wE]))
set_option maxHeartbeats 4000000 in
theorem whas {s:P2×P2}{p:P2}{n m:Nat}(hn:n≤4000)(hm:m≤4000):CTy prog 317 [ag (sgq n s),ag (ptq m p)] (exP (.bool (decide (hasP s p)))):=by
 refine ct (rs:=[4]) func317 rfl rfl rfl rfl rfl mO fun X=>(zR (zZ rfl (zA1 (obx rfl) (zA1 (obx rfl) (zA1 (oas rfl) (zA0 (zR ?_)))))));refine zZ rfl (zA1 (old rfl rfl) (zA1 (old rfl rfl) (zB rfl rfl (yB5 (by omega) (by omega)) (zA1 (omv rfl) (t1g rfl rfl (old rfl rfl) (t1g rfl rfl (old rfl rfl) (t1g rfl rfl (oca rfl rfl fun g=>wside hn hm) ?_)))))));refine t1g rfl rfl (oeq rfl rfl) (zA1 (opk rfl rfl rfl) (zA1 (oas rfl) (zA0 (xJ ?_))));exact tr1 rfl (psb (by rw[← Bool.decide_and,decide_eq_decide];unfold hasP;rw[lM]))
theorem ln_z {a b c d:P2}(h:Tr (decide ((if zH (subP b a) (subP d c)=0 then(30:Int) else 0)≠0)=true)):¬ xF a b c d:=fun k=>by
 have:=of_decide_eq_true h.h;rw[if_neg k] at this;exact absurd rfl this
theorem ln_n {a b c d:P2}(h:Tr (decide ((if zH (subP b a) (subP d c)=0 then(30:Int) else 0)≠0)=false)):xF a b c d:=fun k=>by
 have:=of_decide_eq_false h.h;rw[if_pos k] at this;exact this (by decide)
set_option maxHeartbeats 4000000 in
theorem wlines {p q u z:P2}{a b c d:Nat}(ha:a≤400)(hb:b≤400)(hc:c≤400)(hd:d≤400):CTy prog 318 [ag (ptq a p),ag (ptq b q),ag (ptq c u),ag (ptq d z)] (tu [ag (st [rtc (8*(a+b+c+d)+80) (xN p q u z).1,rtc (8*(a+b+c+d)+80) (xN p q u z).2]),exP (.bool (decide (xF p q u z)))]):=by
 refine ctc func318 rfl rfl rfl rfl fun X=>(zR (zZ rfl (zA1 (obx rfl) (zA1 (obx rfl) (zA1 (obx rfl) (zA1 (obx rfl) ?_))))));refine tal fun b8=>?_;refine zA1 (oas rfl) (zA0 (zR (zZ rfl (zA1 (old rfl rfl) (zA1 (old rfl rfl) (zB rfl rfl (pF (by omega) (by omega)) ?_))))));refine tal fun b10=>?_;refine zD 0 rfl rfl (zA0 (zR ?_));apply qU 1 16 15 [(14,11,0),(15,1000015,0)] rfl rfl mixed rfl rfl rfl;refine cx1 (old rfl rfl) rfl (cx1 (old rfl rfl) rfl (cx1 (oca rfl rfl fun _=>pF (by omega) (by omega)) rfl (cx1 (zG 0 rfl) rfl (cx1 (oca rfl rfl fun _=>vN (by omega) (by omega)) rfl (cx1 (old rfl rfl) rfl (cx1 (old rfl rfl) rfl (cx1 (oca rfl rfl fun _=>pF (by omega) (by omega)) rfl ?_)))))));refine cx1 (zG 0 rfl) rfl (cx1 (oca rfl rfl fun _=>vN (by omega) (by omega)) rfl (cx1 (oca rfl rfl fun _=>yH4 (by omega) (by omega)) rfl (cx1 (omv rfl) rfl (cx1 (oex rfl rfl) rfl (cx1 (oex rfl rfl) rfl (cN rfl rfl (cal) (cS rfl rfl rfl (cst rfl rfl rfl) ?_)))))));refine cE (fun b11=>?_);refine zA1 (oas rfl) (zA0 (zR (zR (zZ rfl (zA1 (omv rfl) (zA1 (oni rfl rfl) (zA0 ?_)))))));refine t_if rfl (fun c0=>?_) (fun c0=>?_)
 ·refine zR ?_;refine zZ rfl (zB rfl rfl (kvof (k:=0) (l:=0) (by omega) (by omega)) (zD 2 rfl rfl (zA1 (oas rfl) (zA0 (xJ ?_)))));have hq:=ln_z c0;exact⟨[_,_],zL 2 rfl (rst rfl rs0),cR (rS (p:=(((0:Nat):Rat),((0:Nat):Rat))) (q:=xN p q u z) (by unfold xN;rw[if_neg hq];rfl) (by omega)) (psb (by rw[decide_eq_false hq]))⟩
 ·refine qT ?_;refine zR (zZ rfl (zA1 (old rfl rfl) (zA1 (old rfl rfl) (zA1 (zG 0 rfl) (zB rfl rfl (kvat (by omega) (by omega) (by omega)) (zD 2 rfl rfl (zA1 (oas rfl) ?_)))))));refine zA0 (xJ ?_);have hq:=ln_n c0;exact⟨[_,_],zL 2 rfl (rst rfl rs0),cR (rS (p:=atP p q (vL p q u z)) (q:=xN p q u z) (by unfold xN;rw[if_pos hq]) (by omega)) (psb (by rw[decide_eq_true hq]))⟩
abbrev zMt:Value:=.agg #[.int .i8 0,.bool false,.slice none 0 0,.slice none 0 0,.bool false,.slice none 0 0,.slice none 0 0,.bool false,.slice none 0 0,.slice none 0 0,.bool false,.slice none 0 0,.slice none 0 0]
theorem upd6 {u v:List Value}(h1:u.length=6)(h2:v.length=6):updC zMt.cells.toList [(1,u),(7,v)] = .int .i8 0::(u++v):=by
 match u,v,h1,h2 with
 | [_,_,_,_,_,_],[_,_,_,_,_,_],_,_=>rfl
theorem obzm {P:Program}{r:Option Nat}{N:Nat}{ops:Array Oper}{M:Nat→Prop}{S:List Ow}{p q:Prop}{Γ:TE}{d:Nat}{t t':TypeId}{pos:String}{af:Array Edge}{x y:Operand}{τs:List PV}{c1 c2:CT}(hx:tvs Γ [x,y]=some (q,τs))[hi:Im p q][ht:TPl P t [1,6,6]][hc:CtL τs [c1,c2]][tz:TZ P t zMt](h1:c1.sz=6)(h2:c2.sz=6) :
  Ob P r N ops M S p ⟨some d,.build t #[(1,x),(2,y)],t',pos,af,none⟩ Γ (ag (st [xc (.int .i8 0),c1,c2])):=fun D E w d' hd hN hg hp' hT=>by
 obtain rfl:=Option.some.inj hd;obtain⟨vs,e1,k1⟩:=gU hT hx (hi.h hp') fun x hx=>gA (by simpa [Op.operands] using hx);obtain⟨uss,g1,g2,g3⟩:=hc.h k1;obtain⟨sz,bytes,hz⟩:=tz.s;obtain⟨u1,u2,rfl⟩:∃ u1 u2,uss=[u1,u2]:=by
  have h3:=congrArg List.length g3
  match uss,h3 with
  | [u1,u2],_=>exact⟨_,_,rfl⟩
 have l1:u1.length=6:=by simp at g3;omega
 have l2:u2.length=6:=by simp at g3;omega
 refine fU (zs:=zMt.cells.toList) hN ht.h hz (by simpa using e1) g1 (by simp[l1,l2];exact⟨by decide,by decide⟩) rfl (fin ⟨_,rfl,?_⟩);rw[show ((([(1,x),(2,y)]:List (Nat×Operand)).map (·.1)).map fun i=>(([1,6,6]:List Nat).take i).sum).zip [u1,u2]=[(1,u1),(7,u2)] from rfl,upd6 l1 l2];exact⟨[.int .i8 0],u1++u2,rfl,⟨rfl,rfl⟩,by simpa using g2⟩
theorem yQ2:CTy prog 316 [] (ag (st [xc (.int .i8 0),st [rtc 2 (0:Rat),rtc 2 (0:Rat)],st [rtc 2 (0:Rat),rtc 2 (0:Rat)]])):=by
 refine ctc func316 rfl rfl rfl rfl fun X=>(zR (zZ rfl ?_));refine tal fun b0=>?_;refine zA0 (zR (zZ rfl (zB rfl rfl (kvof (k:=0) (l:=0) (by omega) (by omega)) (zB rfl rfl (kvof (k:=0) (l:=0) (by omega) (by omega)) (zA1 (obzm rfl rfl rfl) ?_)))));refine zD 0 rfl rfl (zA0 (xJ ?_));exact⟨[_],zL 0 rfl rs0,yD (PSub.refl _)⟩
abbrev mtc (n:Nat)(m:Mt):CT:=st [xc (.int .i8 m.1),ptc n m.2.1,ptc n m.2.2]
instance vpt_2 {n:Nat}{p q:P2}:VPt (sv (sl 6 [ptq n p,ptq n q])) n [p,q]:=vpt_p (l:=[p,q])
theorem zI6 {k:Int}{a b N:Nat}{x y:P2}{m:Mt}(e:(k,x,y)=m)(h1:a≤N)(h2:b≤N):PSub (ag (st [xc (.int .i8 k),ptc a x,ptc b y])) (ag (mtc N m)):=fun M w v ⟨us,e1,u1,v1,e2,k1,u2,v2,e3,⟨c1,c2,f1,⟨s,a1,dz1,k3,g1⟩,c3,c4,f2,⟨t,a2,dz2,k4,g2⟩,f3⟩,u3,v3,e4,⟨c5,c6,f4,⟨s3,a3,dz3,k5,g3⟩,c7,c8,f5,⟨t4,a4,dz4,k6,g4⟩,f6⟩,e5⟩=>by
 subst e;exact⟨us,e1,u1,v1,e2,k1,u2,v2,e3,⟨c1,c2,f1,⟨s,a1,dz1,k3,g1.up h1⟩,c3,c4,f2,⟨t,a2,dz2,k4,g2.up h1⟩,f3⟩,u3,v3,e4,⟨c5,c6,f4,⟨s3,a3,dz3,k5,g3.up h2⟩,c7,c8,f5,⟨t4,a4,dz4,k6,g4.up h2⟩,f6⟩,e5⟩
theorem yH1 {Φ:PV}{s:P2×P2}{p:P2}{n m:Nat}[h:QP Φ m p](hn:n≤80000)(hm:m≤80000):CTy prog 319 [ag (sgq n s),Φ] (exP (.bool (decide (qD s p)))):=yI (yB5 hn hm) (fs1 (PSub.refl _) (fs1 qp_q fs0))
theorem mt_t {a b c d:Prop}[Decidable a][Decidable b][Decidable c][Decidable d](h:Tr ((((decide a&&decide b)&&decide c)&&decide d)=true)):a∧b∧c∧d:=by have:=h.h;simpa [and_assoc] using this
theorem mt_f {a b c d:Prop}[Decidable a][Decidable b][Decidable c][Decidable d](h:Tr ((((decide a&&decide b)&&decide c)&&decide d)=false)):¬ (a∧b∧c∧d):=fun k=>by have:=h.h;simp[k.1,k.2.1,k.2.2.1,k.2.2.2] at this
theorem ml_t {a b c:Prop}[Decidable a][Decidable b][Decidable c](h:Tr (((!decide a || !decide b) || !decide c)=true)):¬ (a∧b∧c):=fun k=>by have:=h.h;simp[k.1,k.2.1,k.2.2] at this
theorem ml_f {a b c:Prop}[Decidable a][Decidable b][Decidable c](h:Tr (((!decide a || !decide b) || !decide c)=false)):a∧b∧c:=by have:=h.h;simpa [and_assoc] using this
set_option maxHeartbeats 4000000 in
theorem wmeets {s t:P2×P2}{n:Nat}(hn:n≤400):CTy prog 274 [ag (sgq n s),ag (sgq n t)] (ag (mtc (32*n+80) (yA s t))):=by
 refine ctc func274 rfl rfl rfl rfl fun X=>(zR (zZ rfl (zA1 (obx rfl) (zA1 (obx rfl) ?_))));refine tal fun b4=>?_;refine zA0 (zR ?_);apply qU 2 7 6 [(4,5,0),(5,6,1),(6,1000006,0)] rfl rfl mixed rfl rfl rfl;refine cx1 (ofa rfl rfl) rfl (cx1 (old rfl rfl) rfl (cx1 (ofa rfl rfl) rfl (cx1 (old rfl rfl) rfl (cN rfl rfl (cal) (cN rfl rfl (cal) (cS rfl rfl rfl (cst rfl rfl rfl) ?_))))));refine cE (fun b5 b6=>?_);refine zD 0 rfl rfl (zA0 (zR (zR (zZ rfl (zA1 (ofa rfl rfl) (zA1 (old rfl rfl) (zA1 (zG 1 rfl) ?_)))))));refine zB rfl rfl (pG (by omega) (by omega)) (zA1 (ogt rfl rfl) (zA0 ?_));refine yD2 (σ:=Unit) (fun _=>[(2,True,pa (sgq n s)),(3,True,pa (sgq n t)),(4,True,zU b4 0),(5,True,zU b5 0),(6,True,zU b6 0)]) (fun _=>[.blk b6 39 [ptq n s.2],.blk b5 39 [ptq n (loP s t)],.blk b4 178 (zc (.agg #[.int .i8 0,.bool false,.slice none 0 0,.slice none 0 0,.bool false,.slice none 0 0,.slice none 0 0,.bool false,.slice none 0 0,.slice none 0 0,.bool false,.slice none 0 0,.slice none 0 0]))]) (fun _=>True) ?_ fun _ _ Y _=>?_
 ·refine t_if rfl (fun c0=>?_) (fun c0=>?_)
  ·refine zZ rfl ?_;refine zA1 (ofa rfl rfl) (zA1 (old rfl rfl) (zD 1 rfl rfl (zA0 ?_)));exact⟨(),fN (zA rfl (zA rfl (zA rfl (zA rfl (zA rfl tn))))) (by first | (rw[show loP s t=t.1 from if_pos (dt c0)];done) | (rw[show loP s t=t.1 from if_pos (dt c0)];rfl)),trivial⟩
  ·refine qT ?_;exact⟨(),fN (zA rfl (zA rfl (zA rfl (zA rfl (zA rfl tn))))) (by first | (rw[show loP s t=s.1 from if_neg (df c0)];done) | (rw[show loP s t=s.1 from if_neg (df c0)];rfl)),trivial⟩
 refine zR (zR (zZ rfl (zA1 (ofa rfl rfl) (zA1 (old rfl rfl) (zA1 (zG 0 rfl) (zB rfl rfl (pG (by omega) (by omega)) (zA1 (olt rfl rfl) ?_)))))));refine zA0 ?_;refine yD2 (σ:=Unit) (fun _=>[(2,True,pa (sgq n s)),(3,True,pa (sgq n t)),(4,True,zU b4 0),(5,True,zU b5 0),(6,True,zU b6 0)]) (fun _=>[.blk b6 39 [ptq n (hiP s t)],.blk b5 39 [ptq n (loP s t)],.blk b4 178 (zc (.agg #[.int .i8 0,.bool false,.slice none 0 0,.slice none 0 0,.bool false,.slice none 0 0,.slice none 0 0,.bool false,.slice none 0 0,.slice none 0 0,.bool false,.slice none 0 0,.slice none 0 0]))]) (fun _=>True) ?_ fun _ _ Y _=>?_
 ·refine t_if rfl (fun c1=>?_) (fun c1=>?_)
  ·refine zZ rfl ?_;refine zA1 (ofa rfl rfl) (zA1 (old rfl rfl) (zD 0 rfl rfl (zA0 ?_)));exact⟨(),fN (zA rfl (zA rfl (zA rfl (zA rfl (zA rfl tn))))) (by first | (rw[show hiP s t=t.2 from if_pos (dt c1)];done) | (rw[show hiP s t=t.2 from if_pos (dt c1)];rfl)),trivial⟩
  ·refine qT ?_;exact⟨(),fN (zA rfl (zA rfl (zA rfl (zA rfl (zA rfl tn))))) (by first | (rw[show hiP s t=s.2 from if_neg (df c1)];done) | (rw[show hiP s t=s.2 from if_neg (df c1)];rfl)),trivial⟩
 refine zR (zZ rfl (zA1 (zG 1 rfl) (zA1 (zG 0 rfl) (zB rfl rfl (pG (by omega) (by omega)) (zA1 (oas rfl) (zA0 (zR ?_)))))));refine zR (zZ rfl (zA1 (omv rfl) (zA1 (ogt rfl rfl) (zA0 ?_))));refine t_if rfl (fun c2=>?_) (fun c2=>?_)
 ·refine zR ?_;refine zZ rfl (zB rfl rfl yQ2 (zD 2 rfl rfl (zA0 (xJ ?_))));exact⟨[_],zL 2 rfl rs0,yD (zI6 (x:=(0,0)) (y:=(0,0)) (by unfold yA;simp only[if_pos (dt c2)];rfl) (by omega) (by omega))⟩
 ·refine qT ?_;refine zR (zR (zZ rfl (zA1 (old rfl rfl) (zA1 (zG 1 rfl) (zB rfl rfl (whas (by omega) (by omega)) (zA1 (omv rfl) (t1g rfl rfl (old rfl rfl) ?_)))))));refine t1g rfl rfl (zG 1 rfl) (t1g rfl rfl (oca rfl rfl fun g=>whas (by omega) (by omega)) (zA1 (opk rfl rfl rfl) (zA1 (omv rfl) (t1g rfl rfl (old rfl rfl) (t1g rfl rfl (zG 0 rfl) (t1g rfl rfl (oca rfl rfl fun g=>whas (by omega) (by omega)) (zA1 (opk rfl rfl rfl) ?_)))))));refine zA1 (omv rfl) (t1g rfl rfl (old rfl rfl) (t1g rfl rfl (zG 0 rfl) (t1g rfl rfl (oca rfl rfl fun g=>whas (by omega) (by omega)) (zA1 (opk rfl rfl rfl) (zA0 ?_)))));refine t_if rfl (fun c3=>?_) (fun c3=>?_)
  ·refine zR ?_;refine zZ rfl (zA1 (zG 1 rfl) (zA1 (zG 0 rfl) (zA1 (obs rfl rfl rfl rfl rfl rfl) (zB rfl rfl (fY (by omega) (by simp)) (zA1 (oas rfl) (zA0 (zR ?_)))))));refine zR (zZ rfl (zA1 (omv rfl) (zA1 (oeq rfl rfl) (zA0 ?_))));refine t_if rfl (fun c4=>?_) (fun c4=>?_)
   ·refine zR ?_;refine zK 7 mixed rfl rfl (d1 (omv rfl) (d1 (oix 0 rfl rfl rfl (fun _=>rfl) (fun _=>by simp)) (d1 (old rfl rfl) (d1 (omv rfl) (d1 (oix 1 rfl rfl rfl (fun _=>rfl) (fun _=>by simp)) (d1 (old rfl rfl) (d1 (obd rfl rfl rfl) ?_)))))));refine d0 (zD 2 rfl rfl (zA0 (xJ ?_)));exact⟨[_],zL 2 rfl rs0,yD (zI6 (x:=loP s t) (y:=hiP s t) (by unfold yA;simp only[if_neg (df c2),if_pos (mt_t c3),if_pos (dt c4)]) (by omega) (by omega))⟩
   ·refine qT ?_;refine zR (zK 7 mixed rfl rfl (d1 (omv rfl) (d1 (oix 0 rfl rfl rfl (fun _=>rfl) (fun _=>by simp)) (d1 (old rfl rfl) (d1 (omv rfl) (d1 (oix 1 rfl rfl rfl (fun _=>rfl) (fun _=>by simp)) (d1 (old rfl rfl) ?_)))))));refine d1 (obd rfl rfl rfl) (d0 (zD 2 rfl rfl (zA0 (xJ ?_))));exact⟨[_],zL 2 rfl rs0,yD (zI6 (x:=loP s t) (y:=hiP s t) (by unfold yA;simp only[if_neg (df c2),if_pos (mt_t c3),if_neg (df c4)]) (by omega) (by omega))⟩
  ·refine qT ?_;refine zR (zZ rfl (zA1 (ofa rfl rfl) (zA1 (old rfl rfl) (zA1 (ofa rfl rfl) (zA1 (old rfl rfl) (zA1 (ofa rfl rfl) (zA1 (old rfl rfl) ?_)))))));refine zA1 (ofa rfl rfl) (zA1 (old rfl rfl) (zB rfl rfl (wlines (by omega) (by omega) (by omega) (by omega)) (zA1 (omv rfl) (zA1 (oex rfl rfl) (zA1 (oex rfl rfl) ?_)))));refine tal fun b9=>?_;refine zD 0 rfl rfl (zA1 (oas rfl) (zA0 (zR (zR (zZ rfl (zA1 (omv rfl) (zA1 (ont rfl) ?_)))))));refine zA1 (omv rfl) (t1g rfl rfl (old rfl rfl) (t1g rfl rfl (zG 0 rfl) (t1g rfl rfl (oca rfl rfl fun g=>yH1 (by omega) (by omega)) (t1g rfl rfl (ont rfl) (zA1 (opk rfl rfl rfl) (zA1 (omv rfl) (t1g rfl rfl (old rfl rfl) ?_)))))));refine t1g rfl rfl (zG 0 rfl) (t1g rfl rfl (oca rfl rfl fun g=>yH1 (by omega) (by omega)) (t1g rfl rfl (ont rfl) (zA1 (opk rfl rfl rfl) (zA0 ?_))));refine t_if rfl (fun c5=>?_) (fun c5=>?_)
   ·refine zR ?_;refine zZ rfl (zB rfl rfl yQ2 (zD 3 rfl rfl (zA0 (xJ ?_))));exact⟨[_],zL 3 rfl rs0,yD (zI6 (x:=(0,0)) (y:=(0,0)) (by unfold yA;simp only[if_neg (df c2),if_neg (mt_f c3),if_neg (ml_t c5)];rfl) (by omega) (by omega))⟩
   ·refine qT ?_;refine zR (zZ rfl (zA1 (zG 0 rfl) (zA1 (zG 0 rfl) ?_)));refine zA1 (obd rfl rfl rfl) (zD 3 rfl rfl (zA0 (xJ ?_)));exact⟨[_],zL 3 rfl rs0,yD (zI6 (x:=xN s.1 s.2 t.1 t.2) (y:=xN s.1 s.2 t.1 t.2) (by unfold yA;simp only[if_neg (df c2),if_neg (mt_f c3),if_pos (ml_f c5)]) (by omega) (by omega))⟩
theorem yN6 {n m:Nat}(h:n≤m)(s:P2×P2):PSub (ag (sgq n s)) (ag (sgq m s)):=zV1 rfl h h
theorem kmeets {s t:P2×P2}{n m:Nat}(hn:n≤400)(hm:m≤400):CTy prog 274 [ag (sgq n s),ag (sgq m t)] (ag (mtc (32*max n m+80) (yA s t))):=yI (wmeets (by omega)) (fs1 (yN6 (by omega) s) (fs1 (yN6 (by omega) t) fs0))
theorem ts_frc {X:Cx}{Γ:TE}{S:List Ow}{v:Value}{ty tb:TypeId}{k b:Nat}{l:List CT}(i j:Nat)(hi:S[i]? = some (.row v ty k l))(hj:(S.eraseIdx i)[j]? = some (.blk b tb [xc v])):Ts X Γ S Γ ((S.eraseIdx i).set j (.blk b tb [sl k l])):=fun E w h=>by
 have h1:=h.frz hi;have h2:=h.sub (zca S i);generalize S.eraseIdx i=T at *;have hm:∀ o∈T.set j (.blk b tb [sl k l]),o∈T∨o = .blk b tb [sl k l]:=fun o ho=>zbC ho;have hjT:Ow.blk b tb [xc v]∈T:=zam hj;have hmk:Mk (T.set j (.blk b tb [sl k l])) X.M=Mk T X.M:=funext fun c=>propext ⟨fun h=>h.imp (fun⟨o,ho,e⟩=>by
  rcases hm o ho with ho | rfl
  ·exact⟨o,ho,e⟩
  ·exact⟨_,hjT,e⟩) id,fun h=>h.imp (fun⟨o,ho,e⟩=>by
  obtain⟨m,hm⟩:=zbR.1 ho;by_cases c:j=m
  ·subst c;obtain rfl:=Option.some.inj (hm.symm.trans hj);exact⟨.blk b tb [sl k l],zam (zbf (zaL.1 hj).1),e⟩
  ·exact⟨o,zam (by rw[zbl c];exact hm),e⟩) id⟩
 refine⟨h2.bel,⟨by rw[hmk];exact h2.gd.ok,by rw[hmk];exact h2.gd.tab,fun o ho=>?_⟩,fun o ho b' e=>?_,cO h2.apt hj (fun b' e => .inl e),h2.ok0,h2.zm,h2.mko,by rw[hmk];exact h2.tm⟩
 ·rw[hmk];rcases hm o ho with ho | rfl
  ·exact h2.gd.own o ho
  ·obtain⟨us,g1,x,y,rfl,g2,g3⟩:=h2.gd.own _ hjT;obtain⟨rfl,_⟩:=g2;obtain rfl:y=[]:=g3;exact⟨_,g1,[v],[],rfl,h1,rfl⟩
 ·rcases hm o ho with ho | rfl
  ·exact h2.new o ho b' e
  ·exact h2.new _ hjT b' e
abbrev pcs (n:Nat)(l:List P2):CT:=sl 6 (l.map (ptq n))
theorem yJ6 {p:List P2}{n:Nat}(hn:n≤400)(hl:p.length≤1000000):CIt prog 314 [pa (pcs n p)] (yQ p) (fun s=>[ag (sgq n s)]):=by
 refine cit func314 rfl rfl rfl rfl rfl fun X y YS YX hY hS=>?_;repeat refine u ?_
 refine lpy (σ:=Nat) [0,1,5,6] (fun i=>[(7,True,zJ i)]) (fun i=>[]) (fun i Y=>YS ((yQ p).take i) Y∧i≤p.length) (fun i=>p.length-i) (0) (⟨hS,by omega⟩) fun i Y hG=>?_;obtain⟨hS,hi⟩:=hG;repeat refine u ?_
 refine ti (fun c0=>?_) fun c0=>?_;repeat refine u ?_
 refine zA1 (oix _ rfl rfl rfl (fun _=>rfl) (fun _=>(by(have e0:=dt c0;omega)))) ?_;refine u ?_;refine u fun b4=>?_;repeat refine u ?_
 refine zD 0 rfl rfl (zO (zY (s:=4) 0 rfl rfl) ?_);iterate 2 refine u ?_
 refine zK 11 mixed rfl rfl ?_;repeat refine u ?_
 refine d1 (orm rfl rfl (by(have e0:=dt c0;omega))) ?_;refine d1 (oix _ rfl rfl rfl (fun _=>rfl) (fun _=>?_)) ?_;rotate_left;repeat refine u ?_
 refine zC rfl rfl (wfrom (by omega) (by omega)) ?_;repeat refine u ?_
 rotate_left;repeat refine u ?_
 rotate_left
 ·have:=dt c0;exact zaH _ (by omega)
 ·have h2:i<p.length:=by have:=dt c0;omega
  refine gM hY hS (mU h2).1 rfl rfl (fs1 (zV1 (by unfold bI;rfl) (by omega) (by omega)) fs0) (fun Y hS=>?_) (fun Y hX=>?_)
  ·repeat refine u ?_
   refine gZ rfl rfl ?_;repeat refine u ?_
   refine⟨i+1,tes ?_ ?_ (zaa _),?_,(by omega)⟩;refine zA rfl tn;refine zA rfl (zA rfl (zA rfl (zA rfl tn)));exact⟨by rw[(mU h2).2];exact hS,by omega⟩
  ·repeat refine u ?_
   refine kD rfl rfl ?_;repeat refine u ?_
   exact .inr hX
 ·have:i=p.length:=by have:=df c0;omega
  subst this;rw[zaz (by rw[qH];omega)] at hS;exact .inl hS
theorem yI3 {p:List P2}{n:Nat}:CTy prog 273 [sv (pcs n p)] (fn 314 [pa (pcs n p)]):=by
 refine fw [.tmp 2] func273 fun X=>?_;repeat refine u ?_
 exact e
theorem cZ:COrd cmpP:=⟨fun a b=>xG,fun a b=>by rw[aL,aK],fun a b c h k=>fQ h k⟩
theorem yH0 {p q:P2}{m:Nat}(hm:m≤80000):CTy prog 213 [ag (ptc m p),ag (ptc m q)] (exP (.int .i64 (cmpP p q))):=by
 have:=pG (Ψ:=ag (ptc m p)) (Φ:=ag (ptc m q)) (show max m m≤80000 by omega) (show max m m≤80000 by omega);exact this
theorem ksortP {v:Value}{l:List P2}{m:Nat}(hm:m≤80000)(hl:l.length≤1000000):CTo prog 275 [exP v,exP (.func (.func 213) #[] #[])] [.row v 39 6 (l.map (ptc m))] (fun r So=>r=tu []∧∃ l':List P2,l'.Perm l∧(∀ i j,i<j→j<l'.length→¬ cmpP l'[j]! l'[i]! < 0)∧So=[.row v 39 6 (l'.map (ptc m))]) :=
 yC3 (ρ:=sortPt_ren) sortPt rfl kX (xK sz39) (fun _=>rfl) cZ.swo (bo func275) (fun x y=>yH0 hm) hl
abbrev eqP (a b:P2):Bool:=decide (cmpP a b=0)
theorem wcompactP {v:Value}{l:List P2}{m:Nat}(hm:m≤80000)(hl:l.length≤100000):CTo prog 276 [exP v,exP (.func (.func 139) #[] #[])] [.row v 39 6 (l.map (ptc m))] (fun ρ So=>∃ v',ρ=exP v'∧So=[.row v' 39 6 ((jE eqP Df.d l l.length).map (ptc m))]):=by
 refine fwo [.tmp 4] func276 fun X=>?_;repeat refine u ?_
 refine ti (fun c0=>?_) fun c0=>?_;repeat refine u ?_
 rotate_left;repeat refine u ?_
 rotate_left
 ·have h2:=dt c0;exact⟨[_],exP v,_,rst rfl rs0,zaa _,⟨v,rfl,by rw[jU (zab _) fun i h1 h3=>by omega,zaF]⟩,yD (PSub.refl _)⟩
 have h2:=df c0;refine lp (σ:=Nat) [0,1] (fun s=>[(5,True,zJ s)]) (fun s=>[.row v 39 6 (l.map (ptc m))]) (fun s=>1≤s∧s≤l.length∧∀ i,0<i→i<s→eqP (l.getD i Df.d) (l.getD (i-1) Df.d)=false) (fun s=>l.length-s) (1) (⟨by omega,by omega,fun i h1 h3=>by omega⟩) fun s hJ Y _=>?_;obtain⟨j1,j2,j3⟩:=hJ;repeat refine u ?_
 refine ti (fun c1=>?_) fun c1=>?_;iterate 4 refine u ?_
 refine zK 11 mixed rfl rfl ?_;repeat refine u ?_
 refine d1 (oixo 0 _ rfl rfl rfl (fun _=>rfl) (fun _=>(by(have e0:=dt c1;simp;omega)))) ?_;refine d1 (oldr 0 rfl rfl (fun _=>(by(have e0:=dt c1;simp;omega))) rfl) ?_;iterate 3 refine u ?_
 refine d1 (oixo 0 (s-1) rfl rfl rfl (fun _=>(by omega)) (fun _=>(by(simp;omega)))) ?_;repeat refine u ?_
 refine zC rfl rfl (lX (by omega) (by omega)) ?_;repeat refine u ?_
 refine ti (fun c2=>?_) fun c2=>?_;repeat refine u ?_
 refine zA1 (osv 0 _ rfl rfl rfl (fun _=>rfl) (fun _=>(by(have e0:=df c0;have e1:=dt c1;have e2:=dt c2;simp;omega)))) ?_;repeat refine u ?_
 rotate_left;repeat refine u ?_
 rotate_left;repeat refine u ?_
 rotate_left
 ·have h3:=dt c1;refine yZ (σ:=Nat×Nat×List P2) (fun t=>[(5,True,zJ t.1),(7,True,zJ t.2.1)]) (fun t=>[.row v 39 6 (t.2.2.map (ptc m))]) (fun t=>1≤t.2.1∧s+t.2.1≤l.length∧s≤t.1∧t.1<s+t.2.1∧t.2.2.length=l.length∧t.2.2.take t.1=jE eqP Df.d l (s+t.2.1)∧∀ i,s+t.2.1≤i+1→t.2.2.getD i Df.d=l.getD i Df.d) (fun t=>l.length-t.2.1) ((s,1,l)) (tk 0 rfl (tk 1 rfl (tk 6 rfl tn))) ?_ rfl (⟨by simp,by simp only;omega,by simp,by simp,rfl,cH (l:=l) (s:=s) (by omega) (by omega) j3 c2.h,fun _ _=>rfl⟩) (fun t hJ Y _=>?_);refine zA rfl (zA rfl tn);obtain⟨kk,m',l2⟩:=t;dsimp only at hJ ⊢;obtain⟨j4,j5,j6,j7,j8,j9,j10⟩:=hJ;repeat refine u ?_
  refine zA1 (olv 0 rfl rfl) ?_;repeat refine u ?_
  refine ti (fun c3=>?_) fun c3=>?_;iterate 4 refine u ?_
  refine zK 12 mixed rfl rfl ?_;repeat refine u ?_
  refine d1 (oixv 0 m' rfl rfl rfl (fun _=>(by omega)) (fun _=>(by(have e0:=dt c3;omega)))) ?_;refine d1 (oldr 0 rfl rfl (fun _=>(by(have e0:=dt c3;omega))) rfl) ?_;repeat refine u ?_
  refine d1 (oixv 0 (m'-1) rfl rfl rfl (fun _=>(by omega)) (fun _=>(by(simp;omega)))) ?_;repeat refine u ?_
  refine zC rfl rfl (lX (by omega) (by omega)) ?_;repeat refine u ?_
  refine ti (fun c4=>?_) fun c4=>?_;repeat refine u ?_
  refine zA1 (oixv 0 m' rfl rfl rfl (fun _=>(by omega)) (fun _=>(by(have e0:=dt c3;omega)))) ?_;refine zA1 (oldr 0 rfl rfl (fun _=>(by(have e0:=dt c3;omega))) rfl) ?_;repeat refine u ?_
  refine tsr 0 _ rfl rfl rfl rfl rfl (by(simp;omega)) rfl ?_;repeat refine u ?_
  rotate_left;repeat refine u ?_
  rotate_left;repeat refine u ?_
  refine zA1 (osv 0 _ rfl rfl rfl (fun _=>rfl) (fun _=>(by(simp;omega)))) ?_;refine tclr 0 rfl rfl (by(simp;omega)) ?_;repeat refine u ?_
  refine tsh 0 _ rfl rfl rfl rfl (by(simp;omega)) fun r64=>?_;repeat refine u ?_
  rotate_left
  ·have h5:m'<l2.length-s:=by have:=dt c3;simp at this;omega
   have hd:l2.getD (s+m') Df.d=l.getD (s+m') Df.d:=j10 _ (by omega);have hd2:l2.getD (s+(m'-1)) Df.d=l.getD (s+m'-1) Df.d:=by rw[show s+(m'-1)=s+m'-1 by omega];exact j10 _ (by omega)
   have hc:¬ eqP (l.getD (s+m') Df.d) (l.getD (s+m'-1) Df.d)=true:=by rw[← hd,← hd2,Bool.not_eq_true];exact(zct _) ▸ c4.h
   refine⟨(kk+1,m'+1,l2.set kk (l2.getD (s+m') Df.d)),tes ?_ ?_ (by(simp;done)),?_,(by(simp;omega))⟩;refine zA rfl (zA rfl tn);refine zA rfl (zA rfl (zA rfl tn))
   ·refine⟨by simp,by simp only;omega,by simp only;omega,by simp only;omega,by simp[j8],?_,fun i hi=>?_⟩
    ·simp only[← zaO];rw[hd];exact fE (by omega) j9 hc
    ·simp only at hi ⊢; rw[kK (by omega)];exact j10 i (by omega)
  ·have h5:m'<l2.length-s:=by have:=dt c3;simp at this;omega
   have hd:l2.getD (s+m') Df.d=l.getD (s+m') Df.d:=j10 _ (by omega);have hd2:l2.getD (s+(m'-1)) Df.d=l.getD (s+m'-1) Df.d:=by rw[show s+(m'-1)=s+m'-1 by omega];exact j10 _ (by omega)
   have hc:eqP (l.getD (s+m') Df.d) (l.getD (s+m'-1) Df.d)=true:=by rw[← hd,← hd2];exact(Bool.not_eq_false' _) ▸ c4.h
   refine⟨(kk,m'+1,l2),tes ?_ ?_ (zaa _),?_,(by(simp;omega))⟩;refine zA rfl (zA rfl tn);refine zA rfl (zA rfl (zA rfl tn));exact⟨by simp,by simp only;omega,j6,by simp only;omega,j8,by simp only[← zaO];exact cG (by omega) j9 hc,fun i hi=>j10 i (by simp only at hi;omega)⟩
  ·have h5:¬ m'<l2.length-s:=by have:=df c3;simp at this;omega
   have e:s+m'=l.length:=by omega
   refine⟨[_],exP r64,_,rst rfl rs0,zaa _,⟨r64,rfl,?_⟩,yD (PSub.refl _)⟩;rw[← e,← j9];simp[zcx,zaS (show kk≤l2.length by omega)]
 ·have h3:=dt c1;refine⟨s+1,tes ?_ ?_ (zaa _),?_,(by omega)⟩;refine zA rfl tn;refine zA rfl (zA rfl tn);refine⟨by omega,by omega,fun i h1 h4=>?_⟩;rcases zaf i s with h | h
  ·exact j3 i h1 h
  ·obtain rfl:i=s:=by omega
   exact c2.h
 ·have h3:=df c1;exact⟨[_],exP v,_,rst rfl rs0,zaa _,⟨v,rfl,by rw[jU (zab _) fun i h1 h4=>j3 i h1 (by omega),zaF]⟩,yD (PSub.refl _)⟩
noncomputable def allOf (p q:List P2):List P2:=setOf cmpP (rawL (yQ p) (yQ q))
theorem kO (p q:List P2):allOf p q=setOf cmpP (rawL (yQ p) (yQ q)):=rfl
theorem tJ (p q:List P2):(allOf p q).length≤2*q.length*p.length:=by
 rw[kO];have h1:=kL cZ (rawL (yQ p) (yQ q));have h2:=iJ (yQ q) (yQ p);rw[qH,qH] at h2;omega
theorem raw_next {es fs:List (P2×P2)}{x:P2×P2}:rawL (es++[x]) fs=rawL es fs++fs.flatMap fun t=>gT (yA x t):=by simp[rawL]
theorem kmall {p q:List P2}{n m:Nat}(hn:n≤400)(hm:m≤400)(hp:p.length≤200)(hq:q.length≤200):CTy prog 203 [sv (pcs n p),sv (pcs m q)] (sv (sl 6 ((allOf p q).map (ptc (32*max n m+80))))):=by
 refine fw [.cell 4 22] func203 fun X=>?_;iterate 3 refine u ?_
 refine u fun b4=>?_;repeat refine u ?_
 refine zB rfl rfl yI3 ?_;repeat refine u ?_
 refine t_ts (jG 39 6) ?_;have hrl:=iJ (yQ q) (yQ p);rw[qH,qH] at hrl;have hpq:2*q.length*p.length≤2*200*200:=zaT (by omega) hp;refine jZ (σ:=List (P2×P2)×Value) (fun t=>[.row t.2 39 6 ((rawL t.1 (yQ q)).map (ptc (32*max n m+80))),.blk b4 22 [xc t.2]]) (fun pre t=>t.1=pre) ([],.slice none 0 0) rfl (yJ6 hn (by omega)) (fun _=>rfl) rfl kR (by simp[rawL];rfl) rfl (fun pre x post t hx hJ Y y hl=>?_) (fun t hJ Y _=>?_)
 ·refine u ?_;refine u fun b5=>?_;refine zD 0 rfl rfl (zO (zY (s:=5) 0 rfl rfl) ?_);repeat refine u ?_
  refine⟨rfl,fun Y hl=>?_⟩;repeat refine u ?_
  refine zA1 (old rfl rfl) ?_;refine zB rfl rfl yI3 ?_;repeat refine u ?_
  obtain⟨pr,v1⟩:=t;obtain rfl:pr=pre:=hJ;refine jZ (σ:=List (P2×P2)×Value) (fun t=>[.row t.2 39 6 ((rawL pr (yQ q)++t.1.flatMap fun u=>gT (yA x u)).map (ptc (32*max n m+80))),.blk b4 22 [xc t.2]]) (fun pre t=>t.1=pre) ([],v1) rfl (yJ6 hm (by omega)) (fun _=>rfl) rfl (fun _ h=>by cases h;exact hl) (by simp) rfl (fun pre2 x2 post2 t hx2 hJ Y y2 hl2=>?_) (fun t hJ Y _=>?_)
  ·obtain⟨pr2,v2⟩:=t;obtain rfl:pr2=pre2:=hJ;have h1:(rawL pr (yQ q)++pr2.flatMap fun u=>gT (yA x u)).length≤1000000:=by
    have a1:=iJ (yQ q) pr;have a2:=oJ x pr2;have a3:=congrArg List.length hx;have a4:=congrArg List.length hx2;rw[qH,zal] at a3 a4;rw[qH] at a1;have a5:2*q.length*pr.length≤2*200*200:=zaT (by omega) (by omega);rw[zal];omega
   have e1:(pr2++[x2]).flatMap (fun u=>gT (yA x u))=pr2.flatMap (fun u=>gT (yA x u))++gT (yA x x2):=by simp
   refine u ?_;refine u fun b6=>?_;refine zD 0 rfl rfl (zO (zY (s:=6) 0 rfl rfl) ?_);repeat refine u ?_
   refine⟨rfl,fun Y hl=>?_⟩;repeat refine u ?_
   refine zA1 (old rfl rfl) ?_;repeat refine u ?_
   refine zB rfl rfl (kmeets (by omega) (by omega)) ?_;refine u fun b7=>?_;refine zD 0 rfl rfl (zO (zY (s:=7) 0 rfl rfl) ?_);repeat refine u ?_
   refine ti (fun c0=>?_) fun c0=>?_;repeat refine u ?_
   rotate_left;repeat refine u ?_
   refine zA1 (zG 1 rfl) ?_;repeat refine u ?_
   refine tap 0 rfl rfl rfl ?_ rfl fun r26=>?_;rotate_left;refine tsw 1 0 rfl rfl rfl rfl rfl rfl rfl ?_;repeat refine u ?_
   rotate_left
   ·have e2:gT (yA x x2)=[]:=by unfold gT;rw[if_pos (dt c0)]
    refine⟨(pr2++[x2],v2),?_,rfl⟩;simp only[e1,e2,zas];exact zaa _
   ·dsimp only;simp only[List.length_map,List.length_cons,List.length_nil];omega
   ·have e2:gT (yA x x2)=[(yA x x2).2.1,(yA x x2).2.2]:=by unfold gT;rw[if_neg (df c0)]
    refine⟨(pr2++[x2],r26),?_,rfl⟩;simp only[e1,e2,← zaA,zay (l₂:=[_,_])];exact zaa _
  ·obtain⟨_,v2⟩:=t;obtain rfl:_=yQ q:=hJ;refine⟨(pr++[x],v2),?_,rfl⟩;simp only[raw_next];exact zaa _
 ·obtain⟨_,v2⟩:=t;obtain rfl:_=yQ p:=hJ;repeat refine u ?_
  dsimp only;refine tco [0] rfl rfl rfl (ksortP (by omega) (by omega)) ?_;rintro _ _ ⟨rfl,l',hp',hso,rfl⟩;have hll:=hp'.length_eq;repeat refine u ?_
  refine zA1 (zG 1 rfl) ?_;refine tco [0] rfl rfl rfl (wcompactP (by omega) (by omega)) ?_;rintro _ _ ⟨v3,rfl,rfl⟩;rw[show jE eqP Df.d l' l'.length=allOf p q from(bR cZ hp' hso).eq cZ];refine tsw 1 0 rfl rfl rfl rfl rfl rfl rfl (zA0 (t_ts (ts_frc 0 0 rfl rfl) ?_));repeat refine u ?_
  refine⟨[_],zL 0 rfl rs0,yD (PSub.refl _)⟩
instance:Df (List P2):=⟨[]⟩
def xW (ls:zF)(i:Nat):List (List P2×List P2):=(List.range i).flatMap fun k=>(ls.take k).map fun p=>(p,ls.getD k [])
def yH (ls:zF):List (List P2×List P2):=xW ls ls.length
theorem bU {ls:zF}{i:Nat}:xW ls (i+1)=xW ls i++(ls.take i).map fun p=>(p,ls.getD i []):=by
 unfold xW;rw[List.range_succ,List.flatMap_append];simp
theorem zI9 {ls:zF}{i:Nat}:∀ {k:Nat},∃ post,xW ls (i+k)=xW ls i++post
 | 0=>⟨[],by simp⟩
 | k+1=>let ⟨p,h⟩:=@zI9 ls i k;⟨p++(ls.take (i+k)).map fun p=>(p,ls.getD (i+k) []),by rw[← zaO,bU,h,zaA]⟩
theorem pairs_at {ls:zF}{i j:Nat}(hi:i<ls.length)(hj:j<i):∃ post,yH ls=(xW ls i++((ls.take i).take j).map fun p=>(p,ls.getD i []))++(((ls.take i).getD j []),ls.getD i [])::post:=by
 obtain⟨p,h⟩:=@zI9 ls (i+1) (ls.length-(i+1));have e:i+1+(ls.length-(i+1))=ls.length:=by omega
 rw[e] at h;have hj2:j<(ls.take i).length:=by simp;omega
 refine⟨((ls.take i).drop (j+1)).map (fun p=>(p,ls.getD i []))++p,?_⟩;unfold yH;rw[h,bU];have h2:ls.take i=(ls.take i).take j++(ls.take i).getD j []::(ls.take i).drop (j+1):=by
  rw[zah,zag hj2,zbu,List.getElem_cons_drop,zbb]
 conv=>lhs;rw[h2]
 simp[zay,zaA]
theorem pairs_in {ls:zF}{i j:Nat}(hj:j<(ls.take i).length):((ls.take i).take (j+1)).map (fun p=>(p,ls.getD i []))=((ls.take i).take j).map (fun p=>(p,ls.getD i []))++[((ls.take i).getD j [],ls.getD i [])]:=by
 rw[zcL hj];simp[zag hj]
theorem ipairs {ls:zF}{n:Nat}(hl:ls.length≤1000000):CIt prog 272 [pa (sl 1 (ls.map (pcs n)))] (yH ls) (fun x=>[sv (pcs n x.1),sv (pcs n x.2)]):=by
 refine cit func272 rfl rfl rfl rfl rfl fun X y YS YX hY hS=>?_;repeat refine u ?_
 refine lpy (σ:=Nat) [0,1,7,8] (fun i=>[(9,True,zJ i)]) (fun i=>[]) (fun i Y=>YS (xW ls i) Y∧i≤ls.length) (fun i=>ls.length-i) (0) (⟨hS,by omega⟩) fun i Y hG=>?_;obtain⟨hS,hi⟩:=hG;repeat refine u ?_
 refine ti (fun c0=>?_) fun c0=>?_;repeat refine u ?_
 refine zA1 (oix _ rfl rfl rfl (fun _=>rfl) (fun _=>(by(have e0:=dt c0;omega)))) ?_;repeat refine u ?_
 rotate_left;repeat refine u ?_
 rotate_left
 ·have hi':=dt c0;refine dI (σ:=Nat) (fun j=>[(18,True,zJ j)]) (fun j=>[]) (fun j Y=>YS (xW ls i++((ls.take i).take j).map fun p=>(p,ls.getD i [])) Y∧j≤(ls.take i).length) (fun j=>(ls.take i).length-j) (0) (tk 0 rfl (tk 1 rfl (tk 4 rfl (tk 7 rfl (tk 8 rfl (tk 9 rfl (tk 16 rfl (tk 17 rfl tn)))))))) ?_ rfl (⟨by simpa using hS,by omega⟩) (fun j Y hG=>?_);refine zA rfl tn;obtain⟨hS,hj⟩:=hG;repeat refine u ?_
  refine ti (fun c1=>?_) fun c1=>?_;repeat refine u ?_
  refine zA1 (oix _ rfl rfl rfl (fun _=>rfl) (fun _=>(by(have e0:=dt c1;omega)))) ?_;repeat refine u ?_
  rotate_left;repeat refine u ?_
  rotate_left
  ·obtain⟨post,hx⟩:=pairs_at (ls:=ls) (i:=i) (j:=j) (by omega) (by have:=dt c1;simp at this;omega);refine gM hY hS hx rfl rfl (fun _ _ _ h=>h) (fun Y hS=>?_) (fun Y hX=>?_)
   ·have hj2:j<(ls.take i).length:=by have:=dt c1;simp at this ⊢; omega
    have hj3:(ls.take i).length≤ls.length:=by simp;omega
    repeat refine u ?_
    refine gZ rfl rfl ?_;repeat refine u ?_
    refine⟨j+1,tes ?_ ?_ (zaa _),?_,(by omega)⟩;refine zA rfl tn;refine zA rfl (zA rfl (zA rfl (zA rfl (zA rfl (zA rfl (zA rfl (zA rfl tn)))))));exact⟨by rw[pairs_in hj2,← zaA];exact hS,by omega⟩
   ·repeat refine u ?_
    refine kD rfl rfl ?_;repeat refine u ?_
    exact .inr hX
  ·have hj2:j=(ls.take i).length:=by have:=df c1;simp at this hj ⊢; omega
   refine⟨i+1,tes ?_ ?_ (zaa _),?_,(by omega)⟩;refine zA rfl tn;refine zA rfl (zA rfl (zA rfl (zA rfl tn)));exact⟨by rw[bU];rw[hj2,zaF] at hS;exact hS,by omega⟩
 ·have:i=ls.length:=by have:=df c0;omega
  subst this;exact .inl hS
theorem kpairs {ls:zF}{n:Nat}:CTy prog 202 [sv (sl 1 (ls.map (pcs n)))] (fn 272 [pa (sl 1 (ls.map (pcs n)))]):=by
 refine fw [.tmp 2] func202 fun X=>?_;repeat refine u ?_
 exact e
theorem kcsame {p q:Rat}{n m:Nat}(hn:n≤90000)(hm:m≤90000):CTy prog 206 [ag (rtq n p),ag (rtq m q)] (exP (.bool (decide (cmpR p q=0)))):=by
 refine fw [.tmp 4] func206 fun X=>?_;repeat refine u ?_
 refine zB rfl rfl (gB (by omega) (by omega)) ?_;repeat refine u ?_
 exact e
theorem yS4 {ps:List P2}{n m:Nat}{xs:List Rat}{v:Value}{bx:Nat}(hn:n+1≤m)(hm:m≤90000)(hl:xs.length+ps.length≤100000):CTo prog 201 [sv (pcs n ps),zU bx 0] [.blk bx 43 [xc v],.row v 29 3 (xs.map (rtc m))] (fun ρ So=>ρ=tu []∧∃ v',So=[.blk bx 43 [xc v'],.row v' 29 3 ((xs++ps.map (·.1)).map (rtc m))]):=by
 refine fwo [] func201 fun X=>?_;repeat refine u ?_
 refine yZ (σ:=Nat×Value) (fun s=>[(7,True,zJ s.1)]) (fun s=>[.blk bx 43 [xc s.2],.row s.2 29 3 ((xs++(ps.take s.1).map (·.1)).map (rtc m))]) (fun s=>s.1≤ps.length) (fun s=>ps.length-s.1) ((0,v)) (tk 1 rfl (tk 5 rfl (tk 6 rfl tn))) ?_ (by(simp;done)) ((by simp)) (fun s hJ Y _=>?_);refine zA rfl tn;repeat refine u ?_
 refine ti (fun c0=>?_) fun c0=>?_;repeat refine u ?_
 refine zA1 (oix _ rfl rfl rfl (fun _=>rfl) (fun _=>(by(have e0:=dt c0;omega)))) ?_;refine u ?_;refine u fun b4=>?_;refine zD 0 rfl rfl (zO (zY (s:=4) 0 rfl rfl) ?_);refine u ?_;refine zK 5 mixed rfl rfl ?_;repeat refine u ?_
 refine d1 (zG 0 rfl) ?_;repeat refine u ?_
 refine zC rfl rfl (fD (m:=m) (by omega) (by omega)) ?_;repeat refine u ?_
 refine tap 1 rfl rfl rfl (by(simp;omega)) rfl fun r16=>?_;refine tsw 0 1 rfl rfl rfl rfl rfl rfl rfl ?_;repeat refine u ?_
 rotate_left;repeat refine u ?_
 rotate_left
 ·refine⟨(s.1+1,r16),tes ?_ ?_ ?_,(by(have e0:=dt c0;omega)),(by(have e0:=dt c0;omega))⟩;refine zA rfl tn;refine zA rfl (zA rfl (zA rfl tn));simp only[(zT (Df.d:P2) (show s.1<ps.length by have:=dt c0;omega)).1,zay,← zaA];exact zaa _
 ·have hs:s.1=ps.length:=by have:=df c0;omega
  refine⟨[],tu [],_,rs0,zaa _,⟨rfl,s.2,?_⟩,mQ⟩;rw[hs,zaF]
theorem zX5 {Ψ Φ:PV}{p q:Rat}{n m:Nat}[h:QR Ψ n p][k:QR Φ m q](hn:n≤90000)(hm:m≤90000):CTy prog 206 [Ψ,Φ] (exP (.bool (decide (cmpR p q=0)))):=yI (kcsame hn hm) (fs1 qr_q (fs1 qr_q fs0))
abbrev eqR (a b:Rat):Bool:=decide (cmpR a b=0)
theorem wcompactR {v:Value}{l:List Rat}{m:Nat}(hm:m≤80000)(hl:l.length≤100000):CTo prog 205 [exP v,exP (.func (.func 206) #[] #[])] [.row v 29 3 (l.map (rtc m))] (fun ρ So=>∃ v',ρ=exP v'∧So=[.row v' 29 3 ((jE eqR 0 l l.length).map (rtc m))]):=by
 refine fwo [.tmp 4] func205 fun X=>?_;repeat refine u ?_
 refine ti (fun c0=>?_) fun c0=>?_;repeat refine u ?_
 rotate_left;repeat refine u ?_
 rotate_left
 ·have h2:=dt c0;exact⟨[_],exP v,_,rst rfl rs0,zaa _,⟨v,rfl,by rw[jU (zab _) fun i h1 h3=>by omega,zaF]⟩,yD (PSub.refl _)⟩
 have h2:=df c0;refine lp (σ:=Nat) [0,1] (fun s=>[(5,True,zJ s)]) (fun s=>[.row v 29 3 (l.map (rtc m))]) (fun s=>1≤s∧s≤l.length∧∀ i,0<i→i<s→eqR (l.getD i 0) (l.getD (i-1) 0)=false) (fun s=>l.length-s) (1) (⟨by omega,by omega,fun i h1 h3=>by omega⟩) fun s hJ Y _=>?_;obtain⟨j1,j2,j3⟩:=hJ;repeat refine u ?_
 refine ti (fun c1=>?_) fun c1=>?_;iterate 4 refine u ?_
 refine zK 11 mixed rfl rfl ?_;repeat refine u ?_
 refine d1 (oixo 0 _ rfl rfl rfl (fun _=>rfl) (fun _=>(by(have e0:=dt c1;simp;omega)))) ?_;refine d1 (oldr 0 rfl rfl (fun _=>(by(have e0:=dt c1;simp;omega))) rfl) ?_;iterate 3 refine u ?_
 refine d1 (oixo 0 (s-1) rfl rfl rfl (fun _=>(by omega)) (fun _=>(by(simp;omega)))) ?_;repeat refine u ?_
 refine zC rfl rfl (zX5 (by omega) (by omega)) ?_;repeat refine u ?_
 refine ti (fun c2=>?_) fun c2=>?_;repeat refine u ?_
 refine zA1 (osv 0 _ rfl rfl rfl (fun _=>rfl) (fun _=>(by(have e0:=df c0;have e1:=dt c1;have e2:=dt c2;simp;omega)))) ?_;repeat refine u ?_
 rotate_left;repeat refine u ?_
 rotate_left;repeat refine u ?_
 rotate_left
 ·have h3:=dt c1;refine yZ (σ:=Nat×Nat×List Rat) (fun t=>[(5,True,zJ t.1),(7,True,zJ t.2.1)]) (fun t=>[.row v 29 3 (t.2.2.map (rtc m))]) (fun t=>1≤t.2.1∧s+t.2.1≤l.length∧s≤t.1∧t.1<s+t.2.1∧t.2.2.length=l.length∧t.2.2.take t.1=jE eqR 0 l (s+t.2.1)∧∀ i,s+t.2.1≤i+1→t.2.2.getD i 0=l.getD i 0) (fun t=>l.length-t.2.1) ((s,1,l)) (tk 0 rfl (tk 1 rfl (tk 6 rfl tn))) ?_ rfl (⟨by simp,by simp only;omega,by simp,by simp,rfl,cH (l:=l) (s:=s) (by omega) (by omega) j3 c2.h,fun _ _=>rfl⟩) (fun t hJ Y _=>?_);refine zA rfl (zA rfl tn);obtain⟨kk,m',l2⟩:=t;dsimp only at hJ ⊢;obtain⟨j4,j5,j6,j7,j8,j9,j10⟩:=hJ;repeat refine u ?_
  refine zA1 (olv 0 rfl rfl) ?_;repeat refine u ?_
  refine ti (fun c3=>?_) fun c3=>?_;iterate 4 refine u ?_
  refine zK 12 mixed rfl rfl ?_;repeat refine u ?_
  refine d1 (oixv 0 m' rfl rfl rfl (fun _=>(by omega)) (fun _=>(by(have e0:=dt c3;omega)))) ?_;refine d1 (oldr 0 rfl rfl (fun _=>(by(have e0:=dt c3;omega))) rfl) ?_;repeat refine u ?_
  refine d1 (oixv 0 (m'-1) rfl rfl rfl (fun _=>(by omega)) (fun _=>(by(simp;omega)))) ?_;repeat refine u ?_
  refine zC rfl rfl (zX5 (by omega) (by omega)) ?_;repeat refine u ?_
  refine ti (fun c4=>?_) fun c4=>?_;repeat refine u ?_
  refine zA1 (oixv 0 m' rfl rfl rfl (fun _=>(by omega)) (fun _=>(by(have e0:=dt c3;omega)))) ?_;refine zA1 (oldr 0 rfl rfl (fun _=>(by(have e0:=dt c3;omega))) rfl) ?_;repeat refine u ?_
  rotate_left;repeat refine u ?_
  rotate_left;repeat refine u ?_
  refine zA1 (osv 0 _ rfl rfl rfl (fun _=>rfl) (fun _=>(by(simp;omega)))) ?_;refine tclr 0 rfl rfl (by(simp;omega)) ?_;repeat refine u ?_
  refine tsh 0 _ rfl rfl rfl rfl (by(simp;omega)) fun r64=>?_;repeat refine u ?_
  rotate_left
  ·have h5:m'<l2.length-s:=by have:=dt c3;simp at this;omega
   have hd:l2.getD (s+m') 0=l.getD (s+m') 0:=j10 _ (by omega);have hd2:l2.getD (s+(m'-1)) 0=l.getD (s+m'-1) 0:=by rw[show s+(m'-1)=s+m'-1 by omega];exact j10 _ (by omega)
   have hc:¬ eqR (l.getD (s+m') 0) (l.getD (s+m'-1) 0)=true:=by rw[← hd,← hd2,Bool.not_eq_true];exact(zct _) ▸ c4.h
   refine⟨(kk+1,m'+1,l2.set kk (l2.getD (s+m') 0)),tes ?_ ?_ (zaa _),?_,(by(simp;omega))⟩;refine zA rfl (zA rfl tn);refine zA rfl (zA rfl (zA rfl tn))
   ·refine⟨by simp,by simp only;omega,by simp only;omega,by simp only;omega,by simp[j8],?_,fun i hi=>?_⟩
    ·simp only[← zaO];rw[hd];exact fE (by omega) j9 hc
    ·simp only at hi ⊢; rw[kK (by omega)];exact j10 i (by omega)
  ·have h5:m'<l2.length-s:=by have:=dt c3;simp at this;omega
   have hd:l2.getD (s+m') 0=l.getD (s+m') 0:=j10 _ (by omega);have hd2:l2.getD (s+(m'-1)) 0=l.getD (s+m'-1) 0:=by rw[show s+(m'-1)=s+m'-1 by omega];exact j10 _ (by omega)
   have hc:eqR (l.getD (s+m') 0) (l.getD (s+m'-1) 0)=true:=by rw[← hd,← hd2];exact(Bool.not_eq_false' _) ▸ c4.h
   refine⟨(kk,m'+1,l2),tes ?_ ?_ (zaa _),?_,(by(simp;omega))⟩;refine zA rfl (zA rfl tn);refine zA rfl (zA rfl (zA rfl tn));exact⟨by simp,by simp only;omega,j6,by simp only;omega,j8,by simp only[← zaO];exact cG (by omega) j9 hc,fun i hi=>j10 i (by simp only at hi;omega)⟩
  ·have h5:¬ m'<l2.length-s:=by have:=df c3;simp at this;omega
   have e:s+m'=l.length:=by omega
   refine⟨[_],exP r64,_,rst rfl rs0,zaa _,⟨r64,rfl,?_⟩,yD (PSub.refl _)⟩;rw[← e,← j9];simp[zcx,zaS (show kk≤l2.length by omega)]
 ·have h3:=dt c1;refine⟨s+1,tes ?_ ?_ (zaa _),?_,(by omega)⟩;refine zA rfl tn;refine zA rfl (zA rfl tn);refine⟨by omega,by omega,fun i h1 h4=>?_⟩;rcases zaf i s with h | h
  ·exact j3 i h1 h
  ·obtain rfl:i=s:=by omega
   exact c2.h
 ·have h3:=df c1;exact⟨[_],exP v,_,rst rfl rs0,zaa _,⟨v,rfl,by rw[jU (zab _) fun i h1 h4=>j3 i h1 (by omega),zaF]⟩,yD (PSub.refl _)⟩
theorem uC:COrd cmpR:=⟨fun a b=>xC,fun a b=>by rw[gC,yO],fun a b c h k=>by rw[yO] at *; grind⟩
theorem yH2 {v:Value}{l:List Rat}{m:Nat}(hm:m≤90000)(hl:l.length≤1000000):CTo prog 204 [exP v,exP (.func (.func 80) #[] #[])] [.row v 29 3 (l.map (rtc m))] (fun r So=>r=tu []∧∃ l':List Rat,l'.Perm l∧(∀ i j,i<j→j<l'.length→¬ cmpR l'[j]! l'[i]! < 0)∧So=[.row v 29 3 (l'.map (rtc m))]) :=
 yC3 (ρ:=sortRat_ren) sortRat rfl iA (xK sz29) (fun _=>rfl) uC.swo (bo func204) (fun x y=>gB hm hm) hl
def cY (ls:zF):List Rat:=ls.flatMap fun l=>l.map (·.1)
noncomputable def meetX (l:List (List P2×List P2)):List Rat:=l.flatMap fun x=>(allOf x.1 x.2).map (·.1)
noncomputable def rawC (ls:zF)(b:P2×P2):List Rat:=[b.1.1,b.2.1]++cY ls++meetX (yH ls)
noncomputable def cutsOf (ls:zF)(b:P2×P2):List Rat:=setOf cmpR (rawC ls b)
theorem tB {ls:zF}(h6:∀ l∈ls,l.length≤9):(cY ls).length≤9*ls.length:=by
 unfold cY
 induction ls with
 | nil=>simp
 | cons a l ih =>
  rw[zcd,zal,zar,zaw];have:=h6 a (by simp);have:=ih fun x hx=>h6 x (by simp[hx]);omega
theorem fA {ls:zF}{i:Nat}{x:List P2×List P2}(hi:i≤ls.length)(h:x∈xW ls i):x.1∈ls∧x.2∈ls:=by
 unfold xW at h;obtain⟨k,hk,h⟩:=zbN.1 h;obtain⟨p,hp,rfl⟩:=zai.1 h;have hk:=zbq.1 hk;exact⟨zbc hp,by simp[zag (show k<ls.length by omega)]⟩
theorem aH {ls:zF}:∀ i,(xW ls i).length≤i*ls.length
 | 0=>by simp[xW]
 | i+1=>by
  rw[bU,zal,zar,zaE,zco];have:=aH (ls:=ls) i;omega
theorem lV {l:List (List P2×List P2)}(h:∀ x∈l,x.1.length≤9∧x.2.length≤9):(meetX l).length≤162*l.length:=by
 unfold meetX
 induction l with
 | nil=>simp
 | cons a l ih =>
  rw[zcd,zal,zar,zaw];have h1:=tJ a.1 a.2;obtain⟨h2,h3⟩:=h a (by simp);have h4:2*a.2.length*a.1.length≤18*9:=zaT (by omega) h2;have:=ih fun x hx=>h x (by simp[hx]);omega
theorem zU1 {α:Type}{f g:α→CT}(h:∀ a {M w us},(f a).p M w us→(g a).p M w us){M:Nat→Prop}{w:World}:∀ {xs:List α} {us:List Value},stp (xs.map f) M w us→stp (xs.map g) M w us
 | [],_,e=>e
 | a::xs,_,⟨x,y,e,h1,h2⟩=>⟨x,y,e,h a h1,zU1 h h2⟩
theorem ps_row {α:Type}{f g:α→CT}{k:Nat}{xs:List α}(h:∀ a {M w us},(f a).p M w us→(g a).p M w us)(hs:∀ a,(g a).sz=k):PSub (sv (sl k (xs.map f))) (sv (sl k (xs.map g))):=fun M w v ⟨u,us,e,h1,h2,h3⟩ =>
 ⟨u,us,e,by rw[zar] at h1 ⊢; exact h1,zU1 h h2,fun c hc=>by obtain⟨a,_,rfl⟩:=zai.1 hc;exact hs a⟩
theorem zU9 {n:Nat}(a:P2){M:Nat→Prop}{w:World}{us:List Value}(h:(ptc n a).p M w us):(ptq n a).p M w us:=by
 obtain⟨s,x,d,t,y,e,rfl,g⟩:=CP.h (c:=ptc n a) h;exact⟨[.bool s,x,d],[.bool t,y,e],rfl,⟨s,x,d,rfl,(g.up (m:=n) (by simp)).x⟩,[.bool t,y,e],[],rfl,⟨t,y,e,rfl,(g.up (m:=n) (by simp)).y⟩,rfl⟩
theorem kcall {ls:zF}{n:Nat}{b:P2×P2}(hn:n≤80)(hl0:ls.length≤5)(h6:∀ l∈ls,l.length≤9):CTy prog 123 [sv (sl 1 (ls.map (pcs n))),ag (st [ptq n b.1,ptq n b.2])] (sv (sl 3 ((cutsOf ls b).map (rtc (32*n+81))))):=by
 refine fw [.tmp 4] func123 fun X=>?_;iterate 6 refine u ?_
 refine mZ 2 10 [(8,19,0),(9,5,1)] rfl rfl mixed rfl rfl ?_;repeat refine u ?_
 refine cx1 (oca rfl rfl fun _=>fD (m:=32*n+81) (by omega) (by omega)) rfl ?_;repeat refine u ?_
 refine cx1 (oca rfl rfl fun _=>fD (m:=32*n+81) (by omega) (by omega)) rfl ?_;refine cN rfl rfl (cbs rfl rfl rfl rfl rfl rfl) (cN rfl rfl (cal) ?_);refine cE (fun r19 b5=>?_);refine fm ?_;repeat refine u ?_
 refine tsw 0 1 rfl rfl rfl rfl rfl rfl rfl ?_;iterate 4 refine u ?_
 refine u fun b6=>?_;refine zD 0 rfl rfl (zO (zY (s:=6) 0 rfl rfl) ?_);repeat refine u ?_
 have hcl:∀ s,(cY (ls.take s)).length≤45:=fun s=>by
  have:=tB (ls:=ls.take s) fun l h=>h6 l (zbc h);rw[zaE] at this;omega
 refine yZ (σ:=Nat×Value) (fun s=>[(23,True,zJ s.1)]) (fun s=>[.blk b5 43 [xc s.2],.row s.2 29 3 (([b.1.1,b.2.1]++cY (ls.take s.1)).map (rtc (32*n+81)))]) (fun s=>s.1≤ls.length) (fun s=>ls.length-s.1) ((0,r19)) (tk 0 rfl (tk 4 rfl (tk 5 rfl (tk 6 rfl (tk 21 rfl (tk 22 rfl tn)))))) ?_ rfl ((by simp)) (fun s hJ Y _=>?_);refine zA rfl tn;repeat refine u ?_
 refine ti (fun c0=>?_) fun c0=>?_;repeat refine u ?_
 refine zA1 (oix _ rfl rfl rfl (fun _=>rfl) (fun _=>(by(have e0:=dt c0;omega)))) ?_;repeat refine u ?_
 rotate_left;repeat refine u ?_
 refine zB rfl rfl kpairs ?_;repeat refine u ?_
 rotate_left
 ·have hs:=dt c0;have h7:(ls.getD s.1 []).length≤9:=h6 _ (by simp[zag (show s.1<ls.length by omega)]);have:=hcl s.1;rw[show ls.getD s.1 []=ls.getD s.1 Df.d from rfl] at h7;refine tco [0,1] rfl rfl rfl (yS4 (n:=n) (m:=32*n+81) (ps:=ls.getD s.1 Df.d) (by omega) (by omega) (by rw[zal];simp only[zaw,zbk];omega)) ?_;rintro _ _ ⟨rfl,v',rfl⟩;repeat refine u ?_
  refine⟨(s.1+1,v'),tes ?_ ?_ ?_,(by omega),(by omega)⟩;refine zA rfl tn;refine zA rfl (zA rfl (zA rfl (zA rfl (zA rfl (zA rfl tn)))));simp only[(zT (Df.d:List P2) (show s.1<ls.length by omega)).1,cY,List.flatMap_append,zcd,List.flatMap_nil,zas,← zaA];exact zaa _
 ·have hs:s.1=ls.length:=by have:=df c0;omega
  refine jZ (σ:=List (List P2×List P2)×Value) (fun t=>[.blk b5 43 [xc t.2],.row t.2 29 3 (([b.1.1,b.2.1]++cY ls++meetX t.1).map (rtc (32*n+81)))]) (fun pre t=>t.1=pre) ([],s.2) rfl (ipairs (by omega)) (fun _=>rfl) rfl kR (by simp[hs,meetX]) rfl (fun pre x post t hx hJ Y y hl=>?_) (fun t hJ Y _=>?_)
  ·obtain⟨h1,h2⟩:=fA (ls:=ls) (i:=ls.length) (x:=x) (zab _) (by rw[show xW ls ls.length=yH ls from rfl,hx];simp);have h3:=h6 _ h1;have h4:=h6 _ h2;repeat refine u ?_
   refine zA1 (oas rfl) ?_;repeat refine u ?_
   refine zA1 (oas rfl) ?_;repeat refine u ?_
   refine⟨rfl,fun Y hl=>?_⟩;refine u ?_;refine zK 4 mixed rfl rfl ?_;repeat refine u ?_
   refine d1 (old rfl rfl) ?_;repeat refine u ?_
   refine zC rfl rfl (kmall (by omega) (by omega) (by omega) (by omega)) ?_;repeat refine u ?_
   obtain⟨pr,v1⟩:=t;obtain rfl:pr=pre:=hJ;have h5:=lV (l:=pr) fun z hz=>by
    obtain⟨a,b⟩:=fA (ls:=ls) (i:=ls.length) (x:=z) (zab _) (by rw[show xW ls ls.length=yH ls from rfl,hx];simp[hz]);exact⟨h6 _ a,h6 _ b⟩
   have h7:=aH (ls:=ls) ls.length;rw[show xW ls ls.length=yH ls from rfl,hx] at h7;have h8:ls.length*ls.length≤5*5:=zaT hl0 hl0;have h9:=tJ x.1 x.2;have h10:2*x.2.length*x.1.length≤18*9:=zaT (by omega) h3;have h11:=hcl ls.length;rw[zaF] at h11;refine tco [0,1] rfl rfl rfl (yK8 (yS4 (n:=32*n+80) (m:=32*n+81) (ps:=allOf x.1 x.2) (by omega) (by omega) (by simp at h7 ⊢; omega)) (fs1 (ps_row (f:=ptc (32*max n n+80)) (fun a M w us h=>by rw[show 32*max n n+80=32*n+80 by omega] at h;exact zU9 a h) fun _=>rfl) (fs1 (PSub.refl _) fs0))) ?_;rintro _ _ ⟨rfl,v',rfl⟩;repeat refine u ?_
   have e:meetX (pr++[x])=meetX pr++(allOf x.1 x.2).map (·.1):=by simp[meetX]
   refine⟨(pr++[x],v'),?_,rfl⟩;simp only[e,← zaA];exact zaa _
  ·obtain⟨_,v2⟩:=t;obtain rfl:_=yH ls:=hJ;have h5:=lV (l:=yH ls) fun z hz=>by
    obtain⟨a,b⟩:=fA (ls:=ls) (i:=ls.length) (x:=z) (zab _) hz;exact⟨h6 _ a,h6 _ b⟩
   have h7:=aH (ls:=ls) ls.length;rw[show xW ls ls.length=yH ls from rfl] at h7;have h8:ls.length*ls.length≤5*5:=zaT hl0 hl0;have h11:=hcl ls.length;rw[zaF] at h11;have hr:(rawC ls b).length≤5000:=by unfold rawC;simp;omega
   change (rawC ls b).length≤5000 at hr;dsimp only;rw[show [b.1.1,b.2.1]++cY ls++meetX (yH ls)=rawC ls b from rfl];repeat refine u ?_
   refine tco [1] rfl rfl rfl (yH2 (by omega) (by omega)) ?_;rintro _ _ ⟨rfl,l',hp,hso,rfl⟩;have hll:=hp.length_eq;repeat refine u ?_
   refine zA1 (zG 1 rfl) ?_;refine tco [0] rfl rfl rfl (wcompactR (by omega) (by omega)) ?_;rintro _ _ ⟨v3,rfl,rfl⟩;rw[show jE eqR 0 l' l'.length=cutsOf ls b from(bR uC hp hso).eq uC];iterate 2 refine u ?_
   refine t_ts (yV (s:=4) 0 rfl rfl) ?_;repeat refine u ?_
   exact e
abbrev RX:=(Bool×List Nat)×List Nat
abbrev PX:=RX×RX
def rtx (a:RX):CT:=st [itx a.1,ntx a.2]
def ptx (a:PX):CT:=st [rtx a.1,rtx a.2]
instance {a:RX}:SzC (rtx a) 3:=⟨rfl⟩
instance {a:PX}:SzC (ptx a) 6:=⟨rfl⟩
def qx (a:RX):Rat:=mkRat (zv a.1.1 a.1.2) (val a.2)
def px (a:PX):P2:=(qx a.1,qx a.2)
def pcx (l:List PX):CT:=sl 6 (l.map ptx)
instance:Df PX:=⟨(((false,[]),[]),((false,[]),[]))⟩
instance:Df (List PX):=⟨[]⟩
instance {a:RX}:FA (rtx a) 0 (itx a.1):=⟨fun h=>gQ (l:=[itx a.1,ntx a.2]) (o:=0) h rfl⟩
instance {a:RX}:FA (rtx a) 2 (ntx a.2):=⟨fun h=>gQ (l:=[itx a.1,ntx a.2]) (o:=2) h rfl⟩
instance {a:PX}:FA (ptx a) 0 (rtx a.1):=⟨fun h=>gQ (l:=[rtx a.1,rtx a.2]) (o:=0) h rfl⟩
instance {a:PX}:FA (ptx a) 3 (rtx a.2):=⟨fun h=>gQ (l:=[rtx a.1,rtx a.2]) (o:=3) h rfl⟩
instance {l:List PX}:VS (sv (pcx l)) 6 (l.map ptx):=⟨id⟩
instance {a:RX}:CQ (rtx a) (max a.1.2.length a.2.length) (qx a):=⟨by
 rintro M w us ⟨x,y,rfl,⟨x1,y1,rfl,⟨rfl,_⟩,x2,y2,rfl,⟨v,rfl,h1⟩,h2⟩,y3,y4,rfl,⟨d,rfl,h3⟩,h4⟩;obtain rfl:y2=[]:=h2;obtain rfl:y4=[]:=h4;exact⟨a.1.1,v,d,rfl,a.1.2,a.2,h1,h3,Nat.le_max_left _ _,Nat.le_max_right _ _,rfl⟩⟩
def kB (a:RX):Bool:=decide (a.1.2.length≤1)&&decide (a.2.length≤1)&&(decide (a.1.2.length=0) || decide (a.1.2.getD 0 Df.d≤999))&&(decide (a.2.length=0) || decide (a.2.getD 0 Df.d≤12))
theorem yP8 {a:RX}:CTy prog 143 [ag (rtx a)] (exP (.bool (kB a))):=by
 refine fw [.tmp 2] func143 fun X=>?_;repeat refine u ?_
 refine t1g rfl rfl (oix _ rfl rfl rfl (fun g=>rfl) (fun g=>(by(have e0:=of_decide_eq_false g.2;change (0:Nat)<_;omega)))) ?_;repeat refine u ?_
 refine t1g rfl rfl (ofa rfl rfl) ?_;repeat refine u ?_
 refine t1g rfl rfl (oix _ rfl rfl rfl (fun g=>rfl) (fun g=>(by(have e0:=of_decide_eq_false g.2;change (0:Nat)<_;omega)))) ?_;repeat refine u ?_
 refine e ?_;refine psb ?_;unfold kB;rw[Bool.eq_iff_iff];simp only[Bool.and_eq_true,Bool.or_eq_true,decide_eq_true_eq,show (Df.d:Nat)=0 from rfl];omega
def qE (l:List PX):Bool:=l.all fun a=>kB a.1&&kB a.2
theorem smallx_take {l:List PX}{i:Nat}(h:i<l.length):qE (l.take (i+1))=(qE (l.take i)&&(kB (l.getD i Df.d).1&&kB (l.getD i Df.d).2)):=by
 rw[(zT (Df.d:PX) h).1];simp[qE]
theorem smallx_no {l:List PX}{i:Nat}(h:i<l.length)(k:kB (l.getD i Df.d).1=false∨kB (l.getD i Df.d).2=false):qE l=false:=by
 rw[zah,zag h,zbu] at k;simp only[qE,List.all_eq_false];exact⟨l[i],zaP h,by rcases k with k | k<;>simp[k]⟩
theorem ksmall {l:List PX}:CTy prog 61 [sv (pcx l)] (exP (.bool (qE l))):=by
 refine fw [.tmp 2] func61 fun X=>?_;repeat refine u ?_
 refine t_len 0 rfl fun hL=>?_;rw[zar] at hL;refine lp (σ:=Nat) [0] (fun i=>[(3,True,zJ i)]) (fun i=>[]) (fun i=>i≤l.length∧qE (l.take i)=true) (fun i=>l.length-i) (0) (⟨by omega,rfl⟩) fun i hJ Y _=>?_;obtain⟨hi,hs⟩:=hJ;repeat refine u ?_
 refine ti (fun c0=>?_) fun c0=>?_;repeat refine u ?_
 refine zA1 (oix _ rfl rfl rfl (fun _=>rfl) (fun _=>(by(have e0:=dt c0;omega)))) ?_;repeat refine u ?_
 refine zB rfl rfl yP8 ?_;repeat refine u ?_
 refine t1g rfl rfl (oix _ rfl rfl rfl (fun g=>rfl) (fun g=>(by(have e0:=dt c0;omega)))) ?_;repeat refine u ?_
 refine t1g rfl rfl (oca rfl rfl fun g=>yP8) ?_;repeat refine u ?_
 refine ti (fun c1=>?_) fun c1=>?_;repeat refine u ?_
 refine e ?_;refine psb ?_;rotate_left;repeat refine u ?_
 refine zA1 (oad rfl rfl (by(have e0:=dt c0;omega))) ?_;repeat refine u ?_
 rotate_left;repeat refine u ?_
 refine e ?_;refine psb ?_;rotate_left
 ·rw[smallx_no (dt c0 |> fun h=>by omega:i<l.length) (by have:=c1.h;revert this;generalize kB (l.getD i Df.d).1=a;generalize kB (l.getD i Df.d).2=b;cases a<;>cases b<;>simp)]
 ·refine⟨i+1,tes ?_ ?_ (zaa _),?_,(by(have e0:=dt c0;omega))⟩;refine zA rfl tn;refine zA rfl tn;have hi2:i<l.length:=by have:=dt c0;omega
  exact⟨by omega,by rw[smallx_take hi2,hs];have:=c1.h;revert this;generalize kB (l.getD i Df.d).1=a;generalize kB (l.getD i Df.d).2=b;cases a<;>cases b<;>simp⟩
 ·have:i=l.length:=by have:=df c0;omega
  subst this;rw[zaF] at hs;exact hs.symm
theorem yI6 {p q:Rat}{n m:Nat}(hn:n≤20000)(hm:m≤20000):CTy prog 113 [ag (rtc n p),ag (rtc m q)] (exP (.bool (decide (p=q)))):=by
 refine fw [.tmp 4] func113 fun X=>?_;repeat refine u ?_
 refine zB rfl rfl k5told ?_;repeat refine u ?_
 refine t1g rfl rfl (oca rfl rfl fun g=>yJ2) ?_;repeat refine u ?_
 refine e ?_;refine psb ?_;rw[← Bool.decide_and,decide_eq_decide];exact⟨fun⟨h1,h2⟩=>Rat.ext h1 (by have:=congrArg val h2;rwa [zI,zI] at this),fun h=>h ▸ ⟨rfl,rfl⟩⟩
theorem wY {α:Type}{f g:α→CT}:∀ {xs:List α} {us:List Value} {M:Nat→Prop} {w:World},(∀ a∈xs,∀ {M w us},(f a).p M w us→(g a).p M w us)→stp (xs.map f) M w us→stp (xs.map g) M w us
 | [],_,_,_,_,e=>e
 | a::xs,_,_,_,h,⟨x,y,e,h1,h2⟩=>⟨x,y,e,h a (by simp) h1,wY (fun b hb=>h b (by simp[hb])) h2⟩
theorem cL {α:Type}{f g:α→CT}{k:Nat}{xs:List α}(h:∀ a∈xs,∀ {M w us},(f a).p M w us→(g a).p M w us)(hs:∀ a,(g a).sz=k){M:Nat→Prop}{w:World}{us:List Value}:(sl k (xs.map f)).p M w us→(sl k (xs.map g)).p M w us:=fun⟨u,vs,e,h1,h2,h3⟩ =>
 ⟨u,vs,e,by rw[zar] at h1 ⊢; exact h1,wY h h2,fun c hc=>by obtain⟨a,_,rfl⟩:=zai.1 hc;exact hs a⟩
theorem yO0 {n:Nat}(a:PX)(h1:a.1.1.2.length≤n)(h2:a.1.2.length≤n)(h3:a.2.1.2.length≤n)(h4:a.2.2.length≤n){M:Nat→Prop}{w:World}{us:List Value}(h:(ptx a).p M w us):(ptq n (px a)).p M w us:=by
 obtain⟨s,x,d,t,y,e,rfl,g⟩:=CP.h (c:=st [rtx a.1,rtx a.2]) h;exact⟨[.bool s,x,d],[.bool t,y,e],rfl,⟨s,x,d,rfl,(g.up (m:=n) (by simp;omega)).x⟩,[.bool t,y,e],[],rfl,⟨t,y,e,rfl,(g.up (m:=n) (by simp;omega)).y⟩,rfl⟩
theorem wP {a:RX}(h:kB a=true):a.1.2.length≤1∧a.2.length≤1:=by
 unfold kB at h;simp only[Bool.and_eq_true,decide_eq_true_eq] at h;exact⟨h.1.1.1,h.1.1.2⟩
theorem allOf_comm (p q:List P2):allOf p q=allOf q p:=by
 have h:=gE cZ (rawL (yQ p) (yQ q));have k:=gE cZ (rawL (yQ q) (yQ p));rw[kO,kO];exact all_comm (p:=p) (q:=q) ⟨h.rise,h.mem⟩ ⟨k.rise,k.mem⟩
theorem oS {ls:zF}{x:List P2×List P2}:x∈yH ls ↔ ∃ i k,i<k∧k<ls.length∧x=(ls.getD i [],ls.getD k []):=by
 unfold yH xW;simp only[zbN,zbq,zai];constructor
 ·rintro⟨k,hk,p,hp,rfl⟩;obtain⟨i,hi,rfl⟩:=zbg.1 hp;rw[zaE] at hi;exact⟨i,k,by omega,hk,by rw[List.getElem_take,zah (i:=i),zag (show i<ls.length by omega)];rfl⟩
 ·rintro⟨i,k,h1,h2,rfl⟩;exact⟨k,h2,ls.getD i [],zbg.2 ⟨i,by rw[zaE];omega,by rw[List.getElem_take,zah,zag (show i<ls.length by omega)];rfl⟩,rfl⟩
theorem lU {ls:zF}{x:Rat}:x∈meetX (yH ls) ↔ ∃ i k,i<k∧k<ls.length∧x∈(allOf (ls.getD i []) (ls.getD k [])).map (·.1):=by
 unfold meetX;rw[zbN];exact⟨fun⟨y,hy,h⟩=>by obtain⟨i,k,h1,h2,rfl⟩:=oS.1 hy;exact⟨i,k,h1,h2,h⟩,fun⟨i,k,h1,h2,h⟩=>⟨_,oS.2 ⟨i,k,h1,h2,rfl⟩,h⟩⟩
theorem cuts_len {ls:zF}{b:P2×P2}(h0:ls.length≤5)(h:∀ l∈ls,l.length≤9):(cutsOf ls b).length≤10000:=by
 have h1:=kL uC (rawC ls b);have h2:=tB h;have h3:=lV (l:=yH ls) fun z hz=>by
  obtain⟨a,b⟩:=fA (ls:=ls) (i:=ls.length) (x:=z) (zab _) hz;exact⟨h _ a,h _ b⟩
 have h4:=aH (ls:=ls) ls.length;have h8:ls.length*ls.length≤5*5:=zaT h0 h0;change (yH ls).length≤_ at h4;have h5:(rawC ls b).length=2+(cY ls).length+(meetX (yH ls)).length:=by unfold rawC;simp;omega
 unfold cutsOf;omega
end Go.Proofs.YtalkinejknjidaaGreatDoor
namespace Go.Proofs.YtalkinejknjidaaGreatDoor
open Go Go.SL Go.RowKit Go.Proofs Go.ChangeShapes Go.WideShapes Go.ChangeAt Go.Deep Tryz
section
variable {H : Type} {enc : TypeId × Value → H} {P : Program} {W : World} {B : Nat} {tp tr ti tn tb tw : TypeId}
abbrev BdX (B:Nat)(a:RX):Prop:=(True∧a.1.2.length≤B)∧a.2.length≤B
abbrev BpX (B:Nat)(a:PX):Prop:=BdX B a.1∧BdX B a.2
theorem zJ7 (T:NumTypes P tp tr ti tn tb tw):Opn enc P W B tr 3 rtx (BdX B) :=
 vI T.r (vI T.i (opn_bool T.b T.cb) (zV5 T.n T.w T.cw T.cn T.hb)) (zV5 T.n T.w T.cw T.cn T.hb)
theorem opn_ptx (T:NumTypes P tp tr ti tn tb tw):Opn enc P W B tp 6 ptx (BpX B) :=
 vI T.p (zJ7 T) (zJ7 T)
theorem opn_pcx {t:TypeId}(T:NumTypes P tp tr ti tn tb tw)(ht:P.underlying t=some (.slice tp))(c:P.cellsOf t=1):Opn enc P W B t 1 pcx (fun l=>l.length*P.bytesOf tp≤B∧∀ a∈l,BpX B a) :=
 opn_slicew ht c (opn_ptx T) (by omega)
end
section
variable {H : Type} {enc : TypeId × Value → H} {P : Program} {W : World} {B : Nat}
theorem trod_arr3 {base:Nat}{spare:Nat→Bool}{held:Bool}{fuel:Nat}{t e:TypeId}{cs:List Value}{x:DataW H×List MemPlace}(ht:P.underlying t=some (.array 3 e))(h:DataW.trod enc P W base spare held fuel t cs=some x) :
  ∃(xs:List (DataW H×List MemPlace)) (n:Nat),fuel=n+1∧x=(.agg (xs.map (·.1)),xs.flatMap (·.2))∧cs.length=P.cellsOf t∧xs.length=3 ∧
   ∀ i,i<3→DataW.trod enc P W base spare held n e ((cs.drop (i*P.cellsOf e)).take (P.cellsOf e))=xs[i]?:=by
 cases fuel with
 | zero=>simp[DataW.trod] at h
 | succ n =>
  unfold DataW.trod at h;rw[ht] at h;split at h<;>simp_all;obtain⟨hl,xs,hp,hd⟩:=h;exact⟨xs,hd.symm,by simpa using mapM_some_length hp,fun i hi=>by have:=mapM_some_get hp i i (by simp[hi]);simpa using this⟩
theorem opn_tri {α:Type}{t e:TypeId}{k:Nat}{f:α→CT}{Bf:α→Prop}(ht:P.underlying t=some (.array 3 e))(hc:P.cellsOf t=k+(k+k))(h0:Opn enc P W B e k f Bf) :
  Opn enc P W B t (k+(k+k)) (fun a:α×α×α=>st [f a.1,f a.2.1,f a.2.2]) (fun a=>Bf a.1∧Bf a.2.1∧Bf a.2.2):=by
 refine⟨hc,fun a=>by show (f a.1).sz+((f a.2.1).sz+((f a.2.2).sz+0))=_;rw[h0.s,h0.s,h0.s];rfl,fun {fuel cs x} hw h=>?_⟩;obtain⟨xs,n,_,hxe,hl,hx,hall⟩:=trod_arr3 ht h;have n0:=h0.c;have e0:=hall 0 (by omega);have e1:=hall 1 (by omega);have e2:=hall 2 (by omega);rw[n0] at e0 e1 e2;rw[Nat.zero_mul,List.drop_zero] at e0;rw[zbm] at e1;have hd:(cs.drop (2*k)).length=k:=by rw[zaV];omega
 rw[zaz (by omega)] at e2;have hwi:∀(i:Nat) (hi:i<xs.length),∀ m∈(xs[i]'hi).1.weights P e,m≤B:=fun i hi m hm=>hw m (by
  rw[hxe];simp only[DataW.weights,ht];exact dC hm (zcj (zaP hi)))
 rw[zag (show 0<xs.length by omega)] at e0;rw[zag (show 1<xs.length by omega)] at e1;rw[zag (show 2<xs.length by omega)] at e2;obtain⟨a,p0,b0⟩:=h0.o (hwi 0 (by omega)) e0;obtain⟨b,p1,b1⟩:=h0.o (hwi 1 (by omega)) e1;obtain⟨c,p2,b2⟩:=h0.o (hwi 2 (by omega)) e2;refine⟨(a,b,c),⟨cs.take k,cs.drop k,(zbb _ _).symm,p0,(cs.drop k).take k,(cs.drop k).drop k,(zbb _ _).symm,p1,cs.drop (2*k),[],?_,p2,rfl⟩,b0,b1,b2⟩;rw[zbW,zas];congr 1;omega
end
end Go.Proofs.YtalkinejknjidaaGreatDoor
namespace Go.Proofs.YtalkinejknjidaaGreatDoor
open Go.SL Go.RowKit Go.Proofs Tryz
instance {a:RX}:C3 (rtx a):=⟨rfl⟩
abbrev big2 (a:PX):Nat:=m4 (a.1.1.2.length,a.1.2.length,a.2.1.2.length,a.2.2.length)
def gr18 (l:List PX):Bool:=decide (8<l.length) || l.any fun a=>decide (2<big2 a)
theorem gr18_at {l:List PX}{i:Nat}(h:i<l.length)(k:2<big2 (l.getD i Df.d)):gr18 l=true:=by
 rw[zah,zag h,zbu] at k;unfold gr18;rw[Bool.or_eq_true];exact .inr (List.any_eq_true.2 ⟨_,zaP h,decide_eq_true k⟩)
theorem kg18 {l:List PX}:CTy prog 50 [sv (pcx l)] (exP (.bool (gr18 l))):=by
 refine fw [.tmp 2] func50 fun X=>?_;repeat refine u ?_
 refine lp (σ:=Nat) [0] (fun i=>[(3,True,zJ i)]) (fun i=>[]) (fun i=>i≤l.length∧i≤9∧∀ j,j<i→big2 (l.getD j Df.d)≤2) (fun i=>l.length-i) (0) (⟨by omega,by omega,by omega⟩) fun i hJ Y _=>?_;obtain⟨hi,h9,hs⟩:=hJ;repeat refine u ?_
 refine ti (fun c0=>?_) fun c0=>?_;iterate 4 refine u ?_
 refine zK 32 mixed rfl rfl ?_;repeat refine u ?_
 refine d1 (oix _ rfl rfl rfl (fun _=>rfl) (fun _=>(by(have e0:=dand c0;omega)))) ?_;repeat refine u ?_
 refine d1 (oix _ rfl rfl rfl (fun _=>rfl) (fun _=>(by(have e0:=dand c0;omega)))) ?_;repeat refine u ?_
 refine d1 (oix _ rfl rfl rfl (fun _=>rfl) (fun _=>(by(have e0:=dand c0;omega)))) ?_;repeat refine u ?_
 refine d1 (oix _ rfl rfl rfl (fun _=>rfl) (fun _=>(by(have e0:=dand c0;omega)))) ?_;repeat refine u ?_
 refine d1 (omx4 rfl rfl rfl rfl) ?_;repeat refine u ?_
 refine ti (fun c1=>?_) fun c1=>?_;repeat refine u ?_
 refine e ?_;refine psb ?_;rotate_left;repeat refine u ?_
 rotate_left;repeat refine u ?_
 refine e ?_;refine psb ?_;rotate_left
 ·have:=dand c0;exact(gr18_at (i:=i) (by omega) (by have:=dt c1;unfold big2;omega)).symm
 ·have:=dand c0;refine⟨i+1,tes ?_ ?_ (zaa _),?_,(by omega)⟩;refine zA rfl tn;refine zA rfl tn;refine⟨by omega,by omega,fun j hj=>?_⟩;rcases zaf j i with c | c
  ·exact hs j c
  ·rw[show j=i by omega];have:=df c1;unfold big2;omega
 ·have:=dor c0;unfold gr18;rw[zcz,zcf,decide_eq_true_eq,decide_eq_true_eq,List.any_eq_true];refine⟨fun h => .inl (by omega),fun h=>?_⟩;rcases h with h | ⟨a,ha,h⟩
  ·omega
  ·obtain⟨k,hk,rfl⟩:=zbg.1 ha;rcases zaf k i with c | c
   ·have:=hs k c;rw[zah,zag hk,zbu] at this;have:=of_decide_eq_true h;omega
   ·omega
theorem k8add {p q:P2}{n m:Nat}(hn:n≤400)(hm:m≤400):CTy prog 74 [ag (ptq n p),ag (ptq m q)] (ag (ptc (2*max n m+8) (addP p q))):=by
 refine fw [.cell 4 39] func74 fun X=>?_;iterate 4 refine u ?_
 refine u fun b4=>?_;iterate 2 refine u ?_
 refine zK 13 mixed rfl rfl ?_;repeat refine u ?_
 refine zC rfl rfl (zX9 (by omega)) ?_;repeat refine u ?_
 refine zC rfl rfl (zX9 (by omega)) ?_;repeat refine u ?_
 refine zD 0 rfl rfl ?_;repeat refine u ?_
 refine⟨[_],zL 0 rfl rs0,yD ?_⟩;exact rS (p:=addP p q) rfl (by omega)
theorem yO2 {n m:Nat}{p q:Rat}(e:p=q)(h:n≤m):PSub (ag (rtc n p)) (ag (rtc m q)):=fun _ _ _ ⟨us,e1,s,a,d,e2,g⟩=>⟨us,e1,s,a,d,e2,by subst e;exact g.up h⟩
def mI (a b:P2)(x:Rat):Bool:=decide (a.1<x)&&decide (x<b.1) || decide (x<a.1)&&decide (b.1<x)
theorem k8sub {p q:P2}{n m:Nat}(hn:n≤900)(hm:m≤900):CTy prog 73 [ag (ptq n p),ag (ptq m q)] (ag (ptc (n+m+3) (subP p q))):=by
 refine fw [.cell 4 39] func73 fun X=>?_;iterate 4 refine u ?_
 refine u fun b4=>?_;iterate 2 refine u ?_
 refine zK 11 mixed rfl rfl ?_;repeat refine u ?_
 refine zC rfl rfl (zX8 (by omega) (by omega)) ?_;repeat refine u ?_
 refine zC rfl rfl (zX8 (by omega) (by omega)) ?_;repeat refine u ?_
 refine zD 0 rfl rfl ?_;repeat refine u ?_
 refine⟨[_],zL 0 rfl rs0,yD (PSub.refl _)⟩
abbrev nxP (p:List P2)(i:Nat):P2:=p.getD ((i+1)%p.length) (0,0)
def stillP (p q:List P2)(x y:Rat):Prop:=∀ i k,i<p.length→k<q.length→mI (p.getD i (0,0)) (nxP p i) x=true→mI (q.getD k (0,0)) (nxP q k) x=true→mI (p.getD i (0,0)) (nxP p i) y=true→mI (q.getD k (0,0)) (nxP q k) y=true→cmpR (zM (p.getD i (0,0)) (nxP p i) x) (zM (q.getD k (0,0)) (nxP q k) x)=cmpR (zM (p.getD i (0,0)) (nxP p i) y) (zM (q.getD k (0,0)) (nxP q k) y)
end Go.Proofs.YtalkinejknjidaaGreatDoor
namespace Go.SL
theorem zI4 {a b:Rat}(h:a*b=0)(ha:a≠0):b=0:=by grind
theorem xB {a b:P2}(h:a.1≠b.1):∃ k,(∀ z,zM a b z=a.2+k*(z-a.1))∧k*(b.1-a.1)=b.2-a.2:=by
 refine⟨(b.2-a.2)/(b.1-a.1),fun z=>?_,by grind⟩;unfold zM;rw[if_neg (by grind)];unfold atP addP qV subP;simp only;grind
theorem aG {a b p:P2}(h:a.1≠b.1)(hs:uR (xY a b) p=0):p.2=zM a b p.1:=by
 obtain⟨k,h1,h2⟩:=xB h;rw[h1];have h3:(b.1-a.1)*(p.2-(a.2+k*(p.1-a.1)))=0:=by
  unfold uR xY zH subP at hs;split at hs<;>simp only at hs<;>grind
 have:=zI4 h3 (by grind);grind
theorem bQ {a b:P2}{x:Rat}(h:a.1<x∧x<b.1∨x<a.1∧b.1<x):a.1≠b.1:=by grind
theorem zL5 {a b:P2}{x:Rat}(h:a.1<x∧x<b.1∨x<a.1∧b.1<x):hasP (xY a b) (x,zM a b x):=by
 have hn:=bQ h;have e:atP a b ((x-a.1)/(b.1-a.1))=(x,zM a b x):=by
  unfold zM;rw[if_neg (by grind)];unfold atP addP qV subP;simp only;rw[Prod.mk.injEq];constructor<;>grind
 rw[← e];have h2:(x-a.1)/(b.1-a.1)*(b.1-a.1)=x-a.1:=by grind
 refine has_at ?_ ?_
 ·rcases h with h | h
  ·exact jA (D:=b.1-a.1) (by grind) (by grind)
  ·exact jA (D:=a.1-b.1) (by grind) (by grind)
 ·suffices h3:0≤1-(x-a.1)/(b.1-a.1) by grind
  rcases h with h | h
  ·exact jA (D:=b.1-a.1) (by grind) (by grind)
  ·exact jA (D:=a.1-b.1) (by grind) (by grind)
theorem zero_between {x y u v:Rat}(h:u<0∧0≤v∨0<u∧v≤0∨u=0∧v≠0):∃ t,0≤t∧t≤1∧u+t*(v-u)=0:=by
 by_cases h0:u=0
 ·exact⟨0,by grind,by grind,by grind⟩
 have e:u/(u-v)*(u-v)=u:=by grind
 refine⟨u/(u-v),?_,?_,by grind⟩
 ·rcases h with h | h | h
  ·exact jA (D:=v-u) (by grind) (by grind)
  ·exact jA (D:=u-v) (by grind) (by grind)
  ·grind
 ·suffices h3:0≤1-u/(u-v) by grind
  rcases h with h | h | h
  ·exact jA (D:=v-u) (by grind) (by grind)
  ·exact jA (D:=u-v) (by grind) (by grind)
  ·grind
theorem wC {t x y lo hi:Rat}(h0:0≤t)(h1:t≤1)(hx:lo<x∧x<hi)(hy:lo<y∧y<hi):lo<x+t*(y-x)∧x+t*(y-x)<hi:=by
 rcases (Rat.le_total:x≤y∨y≤x) with h | h
 ·have a:=zaI h0 (show 0≤y-x by grind);have b:=zaI (show 0≤1-t by grind) (show 0≤y-x by grind);grind
 ·have a:=zaI h0 (show 0≤x-y by grind);have b:=zaI (show 0≤1-t by grind) (show 0≤x-y by grind);grind
theorem thru_z {t x y a b:Rat}(h0:0≤t)(h1:t≤1)(k1:a<x∧x<b∨x<a∧b<x)(k2:a<y∧y<b∨y<a∧b<y):a<x+t*(y-x)∧x+t*(y-x)<b∨x+t*(y-x)<a∧b<x+t*(y-x):=by
 rcases k1 with k1 | k1
 ·exact .inl (wC h0 h1 k1 (by rcases k2 with k2 | k2;exact k2;grind))
 ·have:=wC h0 h1 (lo:=b) (hi:=a) ⟨k1.2,k1.1⟩ (by rcases k2 with k2 | k2;grind;exact⟨k2.2,k2.1⟩);exact .inr ⟨this.2,this.1⟩
theorem still_core {a b c d:P2}{x y lo hi:Rat}(h1:a.1<x∧x<b.1∨x<a.1∧b.1<x)(h2:c.1<x∧x<d.1∨x<c.1∧d.1<x)(h3:a.1<y∧y<b.1∨y<a.1∧b.1<y)(h4:c.1<y∧y<d.1∨y<c.1∧d.1<y)
  (hx:lo<x∧x<hi) (hy:lo<y∧y<hi) (H:∀ p∈gT (yA (xY a b) (xY c d)),p.1≤lo∨hi≤p.1):cmpR (zM a b x) (zM c d x)=cmpR (zM a b y) (zM c d y):=by
 obtain⟨k,f1,f2⟩:=xB (bQ h1);obtain⟨l,g1,g2⟩:=xB (bQ h2);refine Classical.byContradiction fun hc=>?_;obtain⟨u,hu⟩:∃ u,u=zM a b x-zM c d x:=⟨_,rfl⟩;obtain⟨v,hv⟩:∃ v,v=zM a b y-zM c d y:=⟨_,rfl⟩;have hs:u<0∧0≤v∨0<u∧v≤0∨u=0∧v≠0:=by
  subst hu hv;revert hc;generalize zM a b x=p;generalize zM c d x=q;generalize zM a b y=r;generalize zM c d y=s;intro hc;unfold cmpR at hc;grind
 obtain⟨t,zA0,zA1,e⟩:=zero_between (x:=x) (y:=y) hs;obtain⟨z,hz⟩:∃ z,z=x+t*(y-x):=⟨_,rfl⟩;have hzl:=wC zA0 zA1 hx hy;rw[← hz] at hzl;have hzt:∀ {p q:P2},(p.1<x∧x<q.1∨x<p.1∧q.1<x)→(p.1<y∧y<q.1∨y<p.1∧q.1<y)→p.1<z∧z<q.1∨z<p.1∧q.1<z:=fun {p q} k1 k2=>by rw[hz];exact thru_z zA0 zA1 k1 k2
 have e2:zM c d z=zM a b z:=by
  rw[f1,g1] at hu hv;rw[f1,g1];subst hz hu hv;grind
 have p1:=zL5 (hzt h1 h3);have p2:=zL5 (hzt h2 h4);rw[e2] at p2;obtain⟨m0,m1,m2,m3,m4,m5,_⟩:=meets_has p1 p2;have hb:=zY4 m5;simp only at hb;have q1:=H _ (show (yA (xY a b) (xY c d)).2.1∈_ by unfold gT;rw[if_neg m0];simp);have q2:=H _ (show (yA (xY a b) (xY c d)).2.2∈_ by unfold gT;rw[if_neg m0];simp);have s1:=aG (bQ h1) m1.2;have s2:=aG (bQ h2) m2.2;have s3:=aG (bQ h1) m3.2;have s4:=aG (bQ h2) m4.2;generalize (yA (xY a b) (xY c d)).2.1=A at *;generalize (yA (xY a b) (xY c d)).2.2=B at *;rw[f1] at s1 s3;rw[g1] at s2 s4;have hAB:A.1<B.1:=by grind
 have hk:(k-l)*(B.1-A.1)=0:=by grind
 have hkl:B.1-A.1=0∨k-l=0:=by
  by_cases c0:k-l=0
  ·exact .inr c0
  ·exact .inl (zI4 hk c0)
 have:k=l:=by grind
 subst this;rw[f1,g1] at hu;rw[f1,g1] at hv;grind
end Go.SL
namespace Go.Proofs.YtalkinejknjidaaGreatDoor
open Go.SL Go.RowKit Go.Proofs Tryz
theorem bJ (ls:zF)(b:P2×P2):dN (cutsOf ls b):=fun i hi=>by
 have h:=List.pairwise_iff_getElem.1 (gE uC (rawC ls b)).rise i (i+1) (by unfold cutsOf at hi;omega) hi (by omega);rw[zah,zah,zag (show i<(cutsOf ls b).length by omega),zag hi];exact yO.1 h
theorem cuts_find {ls:zF}{b:P2×P2}{x:Rat}(h:x∈cutsOf ls b):∃ i,i<(cutsOf ls b).length∧(cutsOf ls b).getD i 0=x∧yK5 (cutsOf ls b) x=(i,true,true):=by
 obtain⟨i,hi,e⟩:=zbg.1 h;have e2:(cutsOf ls b).getD i 0=x:=by rw[zah,zag hi];exact e
 exact⟨i,hi,e2,by rw[← e2];exact find_wall (bJ ls b) hi⟩
theorem meet_mem {ls:zF}{b:P2×P2}{i k m n:Nat}(hk:k<i)(hi:i<ls.length)(hm:m<(ls.getD i []).length)(hn:n<(ls.getD k []).length){p:P2}(h:p∈gT (yA (bI (ls.getD i []) m) (bI (ls.getD k []) n))):p.1∈cutsOf ls b:=by
 unfold cutsOf;rw[yM uC];unfold rawC;refine zae.2 (.inr (lU.2 ⟨k,i,hk,hi,?_⟩));rw[allOf_comm,kO];exact zai.2 ⟨p,(yM cZ).2 (dO.2 ⟨_,kZ.2 ⟨m,hm,rfl⟩,_,kZ.2 ⟨n,hn,rfl⟩,h⟩),rfl⟩
theorem iE {a b:P2}{x:Rat}(h:mI a b x=true):a.1<x∧x<b.1∨x<a.1∧b.1<x:=by
 unfold mI at h;simpa only[Bool.or_eq_true,Bool.and_eq_true,decide_eq_true_eq] using h
theorem still_cuts {ls:zF}{b:P2×P2}{j i k:Nat}{x y:Rat}(hj:j+1<(cutsOf ls b).length)(hk:k<i)(hi:i<ls.length)
  (hx:(cutsOf ls b).getD j 0<x∧x<(cutsOf ls b).getD (j+1) 0) (hy:(cutsOf ls b).getD j 0<y∧y<(cutsOf ls b).getD (j+1) 0):stillP (ls.getD i []) (ls.getD k []) x y:=fun m n hm hn zA1 zA2 t3 t4=>by
 refine still_core (iE zA1) (iE zA2) (iE t3) (iE t4) hx hy fun p hp=>?_;obtain⟨c,hc,e,_⟩:=cuts_find (meet_mem (b:=b) hk hi hm hn hp);have hr:=bJ ls b;rcases zcy c j with h | h | h
 ·exact .inl (by rw[← e];exact zaZ (aZ hr h (by omega)))
 ·exact .inl (by rw[← e,h];exact zaM)
 ·rcases zaf (j+1) c with h2 | h2
  ·exact .inr (by rw[← e];exact zaZ (aZ hr h2 hc))
  ·obtain rfl:c=j+1:=by omega
   exact .inr (by rw[← e];exact zaM)
section
variable {Ψ Φ Ξ : PV} {n m l : Nat} {p q x : P2} {t : Rat}
theorem w8cross (hn:n≤400)(hm:m≤400):CTy prog 209 [ag (ptq n p),ag (ptq m q)] (ag (rtc (4*max n m+19) (zH p q))):=by
 refine fw [.cell 4 29] func209 fun X=>?_;iterate 4 refine u ?_
 refine u fun b4=>?_;iterate 2 refine u ?_
 refine zK 13 mixed rfl rfl ?_;repeat refine u ?_
 refine zC rfl rfl (yI8 (by omega)) ?_;repeat refine u ?_
 refine zC rfl rfl (yI8 (by omega)) ?_;refine zC rfl rfl (zX8 (by omega) (by omega)) ?_;repeat refine u ?_
 refine e ?_;exact yO2 rfl (by omega)
theorem w8cmp (hn:n≤1990)(hm:m≤1990):CTy prog 78 [ag (ptq n p),ag (ptq m q)] (exP (.int .i64 (cmpP p q))):=by
 refine fw [.tmp 4] func78 fun X=>?_;repeat refine u ?_
 refine zB rfl rfl (zK9 (by omega) (by omega)) ?_;repeat refine u ?_
 refine ti (fun c0=>?_) fun c0=>?_;repeat refine u ?_
 refine e ?_;refine ps_i ?_;rotate_left;repeat refine u ?_
 refine zB rfl rfl (zK9 (by omega) (by omega)) ?_;repeat refine u ?_
 refine e ?_;refine ps_i ?_;rotate_left
 ·unfold cmpP;rw[if_pos (dt c0)]
 ·unfold cmpP;rw[if_neg (df c0)]
theorem k8cross [h:QP Ψ n p][k:QP Φ m q](hn:n≤400)(hm:m≤400):CTy prog 209 [Ψ,Φ] (ag (rtc (4*max n m+19) (zH p q))):=yI (w8cross hn hm) (fs1 qp_q (fs1 qp_q fs0))
theorem yR0 [h:QP Ψ n p][k:QP Φ m q](hn:n≤1990)(hm:m≤1990):CTy prog 78 [Ψ,Φ] (exP (.int .i64 (cmpP p q))):=yI (w8cmp hn hm) (fs1 qp_q (fs1 qp_q fs0))
theorem vR [h:QP Ψ n p][k:QP Φ m q](hn:n≤900)(hm:m≤900):CTy prog 73 [Ψ,Φ] (ag (ptc (n+m+3) (subP p q))):=yI (k8sub hn hm) (fs1 qp_q (fs1 qp_q fs0))
theorem k8addc [h:QP Ψ n p][k:QP Φ m q](hn:n≤400)(hm:m≤400):CTy prog 74 [Ψ,Φ] (ag (ptc (2*max n m+8) (addP p q))):=yI (k8add hn hm) (fs1 qp_q (fs1 qp_q fs0))
end
theorem k8same {p q:P2}{n m:Nat}(hn:n≤1990)(hm:m≤1990):CTy prog 193 [ag (ptq n p),ag (ptq m q)] (exP (.bool (decide (cmpP p q=0)))):=by
 refine fw [.tmp 4] func193 fun X=>?_;repeat refine u ?_
 refine zB rfl rfl (yR0 (by omega) (by omega)) ?_;repeat refine u ?_
 exact e
theorem k8norm {l:List P2}{n:Nat}(hn:n≤1990)(hl:l.length≤1000000):CTy prog 77 [sv (sl 6 (l.map (ptq n)))] (sv (sl 6 (l.map (ptc (n+1))))):=by
 refine fw [.tmp 2] func77 fun X=>?_;repeat refine u ?_
 refine t_ts (jG 39 6) ?_;refine lp (σ:=Nat×Value) [0,2] (fun s=>[(3,True,exP s.2),(4,True,zJ s.1)]) (fun s=>[.row s.2 39 6 ((l.take s.1).map (ptc (n+1)))]) (fun s=>s.1≤l.length) (fun s=>l.length-s.1) ((0,.slice none 0 0)) ((by simp)) fun s hJ Y _=>?_;repeat refine u ?_
 refine ti (fun c0=>?_) fun c0=>?_;iterate 3 refine u ?_
 refine zK 15 mixed rfl rfl ?_;repeat refine u ?_
 refine d1 (oix _ rfl rfl rfl (fun _=>rfl) (fun _=>(by(have e0:=dt c0;omega)))) ?_;repeat refine u ?_
 refine zC rfl rfl (dX (by omega)) ?_;repeat refine u ?_
 refine d1 (oix _ rfl rfl rfl (fun _=>rfl) (fun _=>(by(have e0:=dt c0;omega)))) ?_;repeat refine u ?_
 refine zC rfl rfl (dX (by omega)) ?_;iterate 4 refine u ?_
 refine u fun r26=>?_;repeat refine u ?_
 rotate_left;iterate 7 refine u ?_
 refine t_ts (yV (s:=2) 0 rfl rfl) ?_;repeat refine u ?_
 refine e ?_;rotate_left
 ·refine⟨(s.1+1,r26),tes ?_ ?_ ?_,(by(have e0:=dt c0;omega)),(by(have e0:=dt c0;omega))⟩;refine zA rfl (zA rfl tn);refine zA rfl (zA rfl tn);rw[(zT (Df.d:P2) (show s.1<l.length by have:=dt c0;omega)).1,zay];exact zaa _
 ·rw[zaz (by have:=df c0;omega)];exact PSub.refl _
end Go.Proofs.YtalkinejknjidaaGreatDoor
set_option maxHeartbeats 4000000
namespace Go.Proofs.YtalkinejknjidaaGreatDoor
open Go.SL Go.RowKit Go.Proofs Tryz
end Go.Proofs.YtalkinejknjidaaGreatDoor
namespace Go.SL
end Go.SL
namespace Go.Proofs.YtalkinejknjidaaGreatDoor
open Go.SL Go.RowKit Go.Proofs
section
variable {α : Type} {cf : α → α → Int}
theorem yJ5 (h:COrd cf){raw:List α}{x:α}{k:Nat}(z:α)(hk:k≤(setOf cf raw).length)(h1:∀ j,j<k→cf ((setOf cf raw).getD j z) x<0)(h2:k<(setOf cf raw).length→¬ cf ((setOf cf raw).getD k z) x<0) :
  (k<(setOf cf raw).length→cf ((setOf cf raw).getD k z) x=0→setOf cf raw=setOf cf (raw++[x])) ∧
  ((k<(setOf cf raw).length→cf ((setOf cf raw).getD k z) x≠0)→(setOf cf raw).take k++x::(setOf cf raw).drop k=setOf cf (raw++[x])):=by
 have hs:=gE h raw;generalize setOf cf raw=l at *;have hg:∀ {j},(hj:j<l.length)→l.getD j z=l[j]:=fun {j} hj=>by rw[zah,zag hj];rfl
 constructor
 ·intro hl h0;rw[hg hl] at h0;have e:=(h.zero _ _).1 h0;refine IsSet.eq (cf:=cf) (l:=raw++[x]) h ⟨hs.rise,fun y=>?_⟩;rw[hs.mem,zae,zak];exact⟨.inl,fun c=>c.elim id fun c=>by subst c;rw[← e,← hs.mem];exact zaP hl⟩
 ·intro h0;refine IsSet.eq (cf:=cf) (l:=raw++[x]) h ⟨?_,fun y=>?_⟩
  ·have hr:=zcK.1 hs.rise;have hb:∀ y∈l.drop k,cf x y<0:=fun y hy=>by
    obtain⟨j,hj,rfl⟩:=zbg.1 hy;rw[zaV] at hj;rw[List.getElem_drop];have hkl:k<l.length:=by omega
    have h3:=h2 hkl;have h4:=h0 hkl;rw[hg hkl] at h3 h4;have h5:cf x l[k]<0:=(h.anti _ _).1 (by omega);rcases zbi j with c | c
    ·subst c;exact h5
    ·exact h.trans _ _ _ h5 (hr k (k+j) hkl (by omega) (by omega))
   have ha:∀ y∈l.take k,cf y x<0:=fun y hy=>by
    obtain⟨j,hj,rfl⟩:=zbg.1 hy;rw[zaE] at hj;rw[List.getElem_take,← hg (by omega)];exact h1 j (by omega)
   refine zck.2 ⟨hs.rise.sublist (List.take_sublist _ _),zav.2 ⟨hb,hs.rise.sublist (List.drop_sublist _ _)⟩,fun a ha2 b hb2=>?_⟩;rcases zad.1 hb2 with c | c
   ·subst c;exact ha a ha2
   ·exact h.trans _ _ _ (ha a ha2) (hb b c)
  ·rw[zae,zad,zae,zak,← hs.mem]
   conv=>rhs;rw[← zbb k l,zae]
   exact⟨fun c=>by rcases c with c | c | c;exact .inl (.inl c);exact .inr c;exact .inl (.inr c),fun c=>by rcases c with(c | c) | c;exact .inl c;exact .inr (.inr c);exact .inr (.inl c)⟩
end
end Go.Proofs.YtalkinejknjidaaGreatDoor
namespace Go.Proofs.YtalkinejknjidaaGreatDoor
open Go.SL Go.RowKit Go.Proofs Tryz
theorem nH {Ψ Φ:PV}{n m:Nat}{p q:P2}[h:QP Ψ n p][k:QP Φ m q](hn:n≤1990)(hm:m≤1990):CTy prog 193 [Ψ,Φ] (exP (.bool (decide (cmpP p q=0)))):=yI (k8same hn hm) (fs1 qp_q (fs1 qp_q fs0))
theorem zU0 {B:List CT}{c c':CT}{M:Nat→Prop}{w:World}(h:∀ us,c.p M w us→c'.p M w us):∀ {A:List CT} {us:List Value},stp (A++c::B) M w us→stp (A++c'::B) M w us
 | [],_,⟨x,y,e,h1,h2⟩=>⟨x,y,e,h _ h1,h2⟩
 | _::_,_,⟨x,y,e,h1,h2⟩=>⟨x,y,e,h1,zU0 h h2⟩
theorem sl_mid {A B:List CT}{c c':CT}{k:Nat}(h:∀ M w us,c.p M w us→c'.p M w us)(hs:c'.sz=k):PSub (sv (sl k (A++c::B))) (sv (sl k (A++c'::B))):=fun M w v ⟨u,vs,e,h1,h2,h3⟩ =>
 ⟨u,vs,e,by simpa using h1,zU0 (h M w) h2,fun x hx=>by
  rcases zae.1 hx with h | h
  ·exact h3 x (by simp[h])
  ·rcases zad.1 h with h | h
   ·rw[h];exact hs
   ·exact h3 x (by simp[h])⟩
theorem ins_sub {α:Type}{f g:α→CT}{k sz:Nat}{l l':List α}{p:α}(hl:l.take k++p::l.drop k=l')(h:∀ M w us,(g p).p M w us→(f p).p M w us)(hs:(f p).sz=sz):PSub (sv (sl sz ((l.take k).map f++[p].map g++((l.drop k).take (l.length-k)).map f))) (sv (sl sz (l'.map f))):=by
 subst hl;rw[zaz (l:=l.drop k) (by rw[zaV];omega),zaG,zbe,zaA,List.singleton_append,zay,zaG];exact sl_mid h hs
theorem rR {n m:Nat}{p:P2}(h:rlen p.1 n∧rlen p.2 n)(M:Nat→Prop)(w:World)(us:List Value)(k:(ptc m p).p M w us):(ptc n p).p M w us:=by
 obtain⟨x,y,e,⟨s,a,d,e2,g⟩,z,o,e3,⟨t,b,f,e4,g2⟩,e5⟩:=k;exact⟨x,y,e,⟨s,a,d,e2,g.relen h.1⟩,z,o,e3,⟨t,b,f,e4,g2.relen h.2⟩,e5⟩
theorem k10put {raw:List P2}{p:P2}{n m:Nat}(hm:m≤1900)(hn:n≤1900)(hL:(setOf cmpP raw).length≤100000)(h1:rlen p.1 n∧rlen p.2 n):CTy prog 150 [sv (sl 6 ((setOf cmpP raw).map (ptc n))),ag (ptq m p)] (sv (sl 6 ((setOf cmpP (raw++[p])).map (ptc n)))):=by
 refine fw [.tmp 4] func150 fun X=>?_;repeat refine u ?_
 refine lp (σ:=Nat) [0,3,4] (fun k=>[(5,True,zJ k)]) (fun k=>[]) (fun k=>k≤(setOf cmpP raw).length∧∀ j,j<k→cmpP ((setOf cmpP raw).getD j (0,0)) p<0) (fun k=>(setOf cmpP raw).length-k) (0) (⟨by omega,by omega⟩) fun k hJ Y _=>?_;obtain⟨hk,hlt⟩:=hJ;iterate 2 refine u ?_
 refine zK 13 mixed rfl rfl ?_;repeat refine u ?_
 refine d1g rfl rfl (oca rfl rfl fun g=>yR0 (by omega) (by omega)) ?_;repeat refine u ?_
 refine ti (fun c0=>?_) fun c0=>?_;repeat refine u ?_
 rotate_left;iterate 4 refine u ?_
 refine zK 12 mixed rfl rfl ?_;repeat refine u ?_
 refine d1g rfl rfl (oca rfl rfl fun g=>nH (by omega) (by omega)) ?_;repeat refine u ?_
 refine ti (fun c1=>?_) fun c1=>?_;repeat refine u ?_
 refine e ?_;rotate_left;iterate 3 refine u ?_
 refine tbs0 fun r35=>?_;iterate 3 refine u ?_
 refine u fun r39=>?_;iterate 3 refine u ?_
 refine zT2 0 9 0 [(4,44,0),(8,48,0)] rfl rfl rfl mixed rfl rfl ?_;repeat refine u ?_
 refine cx1 (obs rfl rfl rfl rfl rfl rfl) rfl (cx1 (oca rfl rfl fun _=>k8norm (l:=[p]) (by omega) (by(simp;done))) rfl ?_);refine cB rfl rfl (cap0 rfl rfl (by(simp;omega)) rfl) ?_;repeat refine u ?_
 refine cA rfl rfl rfl (cap rfl (by(simp;omega)) rfl) ?_;refine cE (fun r48=>?_);refine fm ?_;iterate 3 refine u ?_
 refine t_ts (yV (s:=4) 0 rfl rfl) ?_;repeat refine u ?_
 refine e ?_;rotate_left
 ·have hc:=dand c0;refine⟨k+1,tes ?_ ?_ (zaa _),?_,(by omega)⟩;refine zA rfl tn;refine zA rfl (zA rfl (zA rfl tn));refine⟨by omega,fun j hj=>?_⟩;rcases zaf j k with c | c
  ·exact hlt j c
  ·rw[show j=k by omega];exact hc.2
 ·have hc:=dand c1;rw[(yJ5 cZ (x:=p) (k:=k) (0,0) hk hlt fun h=>(fun c=>dor c0 ⟨by omega,c⟩)).1 (by omega) hc.2];exact PSub.refl _
 ·have hi:=(yJ5 cZ (x:=p) (k:=k) (0,0) hk hlt fun h=>(fun c=>dor c0 ⟨by omega,c⟩)).2 fun h c=>dor c1 ⟨by omega,c⟩;exact ins_sub (f:=ptc n) hi (rR h1) rfl
theorem zY6 (a b:P2):(xY a b).1∈[a,b]∧(xY a b).2∈[a,b]:=by unfold xY;split<;>simp
theorem meets_cases (s t:P2×P2):yA s t=yG2∨((yA s t).1≠0∧(yA s t).2=(loP s t,hiP s t))∨xF s.1 s.2 t.1 t.2∧yA s t=(1,xN s.1 s.2 t.1 t.2,xN s.1 s.2 t.1 t.2):=by
 unfold yA;split
 ·exact .inl rfl
 ·split
  ·refine .inr (.inl ⟨?_,rfl⟩);dsimp only;split<;>decide
  ·split
   ·rename_i h;exact .inr (.inr ⟨h.1,rfl⟩)
   ·exact .inl rfl
theorem lR {k:Nat}:PSub (exP (.slice none 0 0)) (sv (sl k [])):=fun M w v h=>by
 obtain rfl:v=_:=h;exact⟨_,[],rfl,tX,rfl,fun _ h=>by cases h⟩
theorem xL {α:Type}[Df α]{l:List α}{i:Nat}(h:i<l.length):l.getD i Df.d∈l:=by rw[zah,zag h];exact zaP h
theorem above_mk {z:Int}{d:Nat}(hd:d≠0):uZ (mkRat z d)=z/(d:Int)+1:=by
 obtain⟨h1,h2⟩:=zK0 (z:=z) hd;unfold uZ;rw[h1,h2];have hg:0<Nat.gcd z.natAbs d:=zcS _ (zaW hd);obtain⟨c,hc⟩:((Nat.gcd z.natAbs d:Nat):Int) ∣ z:=Int.dvd_natAbs.1 (Int.natCast_dvd_natCast.2 (Nat.gcd_dvd_left _ _));obtain⟨e,he⟩:=Nat.gcd_dvd_right z.natAbs d;generalize Nat.gcd z.natAbs d=g at *;subst he hc;rw[Int.mul_ediv_cancel_left _ (by omega),Nat.mul_div_cancel_left _ hg,zcc,Int.mul_ediv_mul_of_pos _ _ (by omega)]
theorem above_p2 (q:Rat)(s:Nat):uZ (q*p2 s)=q.num*((2^s:Nat):Int)/(q.den:Int)+1:=by
 rw[← yP2,above_mk q.den_nz]
end Go.Proofs.YtalkinejknjidaaGreatDoor
namespace Go.SL
def trn (a b c:P2):Rat:=zH (subP b a) (subP c a)
def lexP (v:P2):Prop:=0<v.1∨v.1=0∧0<v.2
def lex0 (v:P2):Prop:=0<v.1∨v.1=0∧0≤v.2
theorem lexP.le {v:P2}(h:lexP v):lex0 v:=by unfold lexP lex0 at *; grind
theorem aQ {b x:Rat}(hb:0<b)(h:0≤b*x):0≤x:=Classical.byContradiction fun c=>by
 have:=zaK hb (show 0 < -x by grind);grind
theorem eZ {b x:Rat}(hb:0<b)(h:0<b*x):0<x:=Classical.byContradiction fun c=>by
 have:=zaI (zaZ hb) (show 0 ≤ -x by grind);grind
theorem zQ2 (a b c:P2):b.1*zH a c=a.1*zH b c+c.1*zH a b∧b.2*zH a c=a.2*zH b c+c.2*zH a b:=by
 unfold zH;constructor<;>grind
theorem rF {a b c:P2}(ha:lex0 a)(hb:lexP b)(hc:lex0 c)(h1:0≤zH a b)(h2:0≤zH b c):0≤zH a c:=by
 have e:=(zQ2 a b c).1;have a0:0≤a.1:=by unfold lex0 at ha;grind
 have c0:0≤c.1:=by unfold lex0 at hc;grind
 rcases hb with hb | ⟨hb,hb2⟩
 ·exact aQ hb (by rw[e];have:=zaI a0 h2;have:=zaI c0 h1;grind)
 ·have k:c.1=0:=by
   rcases hc with hc | hc
   ·have:=Rat.mul_pos hb2 hc;unfold zH at h2;rw[hb] at h2;grind
   ·exact hc.1
  have k2:0≤c.2:=by unfold lex0 at hc;grind
  have:=zaI a0 k2;unfold zH;rw[k];grind
theorem yC4 {a b c:P2}(ha:lex0 a)(hb:lexP b)(hc:lexP c)(h1:0<zH a b)(h2:0≤zH b c):0<zH a c:=by
 have e:=(zQ2 a b c).1;have a0:0≤a.1:=by unfold lex0 at ha;grind
 have ap:0<a.1∨a.1=0∧0≤a.2:=ha;rcases hb with hb | ⟨hb,hb2⟩
 ·rcases hc with hc | ⟨hc,hc2⟩
  ·exact eZ hb (by rw[e];have:=zaI a0 h2;have:=zaK hc h1;grind)
  ·rcases ap with ap | ⟨ap,ap2⟩
   ·have:=Rat.mul_pos ap hc2;unfold zH;rw[hc];grind
   ·have:=Rat.mul_nonneg ap2 (Rat.le_of_lt hb);unfold zH at h1;rw[ap] at h1;grind
 ·have k:c.1=0:=by
   rcases hc with hc | hc
   ·have:=Rat.mul_pos hb2 hc;unfold zH at h2;rw[hb] at h2;grind
   ·exact hc.1
  have k2:0<c.2:=by unfold lexP at hc;grind
  have k3:0<a.1:=by
   refine eZ hb2 ?_;unfold zH at h1;rw[hb] at h1;grind
  have:=zaK k3 k2;unfold zH;rw[k];grind
theorem tr_gp {a b c:P2}(ha:lexP a)(hb:lexP b)(hc:lex0 c)(h1:0≤zH a b)(h2:0<zH b c):0<zH a c:=by
 have e:=(zQ2 a b c).1;have c0:0≤c.1:=by unfold lex0 at hc;grind
 rcases hb with hb | ⟨hb,hb2⟩
 ·rcases ha with ha | ⟨ha,ha2⟩
  ·exact eZ hb (by rw[e];have:=zaK ha h2;have:=zaI c0 h1;grind)
  ·have:=Rat.mul_pos ha2 hb;unfold zH at h1;rw[ha] at h1;grind
 ·have:=Rat.mul_nonneg (Rat.le_of_lt hb2) c0;unfold zH at h2;rw[hb] at h2;grind
theorem fX {a b:P2}:leP a b↔lex0 (subP b a):=by unfold leP lex0 subP;simp only;grind
def ltP (a b:P2):Prop:=lexP (subP b a)
theorem yG8 {a b:P2}:ltP a b↔cmpP a b<0:=by rw[aK];unfold ltP leP lexP subP;simp only;grind
theorem ltP.le {a b:P2}(h:ltP a b):leP a b:=fX.2 (lexP.le h)
theorem ltP.ne {a b:P2}(h:ltP a b):a≠b:=fun e=>by subst e;unfold ltP lexP subP at h;simp only at h;grind
theorem zK1 {a b:P2}(h:leP a b)(k:a≠b):ltP a b:=by
 unfold ltP leP lexP subP at *; simp only;rw[Ne,Prod.ext_iff] at k;grind
theorem le_or_lt (a b:P2):leP a b∨ltP b a:=by unfold ltP leP lexP subP;simp only;grind
def uA (p:P2):List P2→List P2
 | t::s::r=>if zH (subP t s) (subP p t)≤0 then uA p (s::r) else t::s::r
 | l=>l
def xZ:List P2→List P2→List P2
 | acc,[]=>acc
 | acc,p::l=>xZ (p::uA p acc) l
def uU (q:P2):List P2→Prop
 | t::s::r=>0≤trn s t q∧uU q (s::r)
 | _=>True
def jV:List P2→Prop
 | u::t::s::r=>0<trn s t u∧jV (t::s::r)
 | _=>True
def edgD (w:P2):List P2→Prop
 | t::s::r=>0<zH (subP t s) w∧edgD w (s::r)
 | _=>True
structure ChOk (S acc:List P2):Prop where
 sub:∀ x∈acc,x∈S
 dec:acc.Pairwise fun a b=>ltP b a
 top:∀ q∈S,∀ t,acc.head? = some t→leP q t
 bot:∀ q∈S,∀ t,acc.getLast? = some t→leP t q
 lef:∀ q∈S,uU q acc
 trs:jV acc
 ne:acc≠[]
theorem mX (s t p:P2):zH (subP t s) (subP p t)=trn s t p:=by unfold trn zH subP;simp only;grind
theorem vY {w:P2}(hw:lexP w):∀ D:List P2,jV D→D.Pairwise (fun a b=>ltP b a)→(∀ t s r,D=t::s::r→0<zH (subP t s) w)→edgD w D
 | [],_,_,_=>trivial
 | [_],_,_,_=>trivial
 | [t,s],_,_,h=>⟨h t s [] rfl,trivial⟩
 | t::s::u::r,ht,hd,h=>by
  have h1:=h t s _ rfl;have h2:0<zH (subP s u) (subP t s):=by rw[mX];exact ht.1
  have a1:ltP s t:=(zav.1 hd).1 s (by simp);have a2:ltP u s:=(zav.1 (zav.1 hd).2).1 u (by simp);exact⟨h1,vY hw (s::u::r) ht.2 (zav.1 hd).2 fun t' s' r' e=>by
   injection e with e1 e2;injection e2 with e2 e3;subst e1 e2;exact yC4 (lexP.le a2) a1 hw h2 (zaZ h1)⟩
theorem zK3 {p x:P2}:∀ D:List P2,edgD (subP p x) D→uU x D→uU p D
 | [],_,_=>trivial
 | [_],_,_=>trivial
 | t::s::r,h,k=>⟨by
   have h1:=h.1;have k1:=k.1;unfold trn zH subP at *; simp only at *; grind,zK3 (s::r) h.2 k.2⟩
theorem zZ4 {S:List P2}{p:P2}(hp:∀ q∈S,ltP q p):∀ acc:List P2,acc≠[]→(∀ x∈acc,x∈S)→acc.Pairwise (fun a b=>ltP b a)→(∀ q∈S,uU q acc)→jV acc →
  (∀ q∈S,∀ t,acc.getLast? = some t→leP t q)→(∀ q∈S,∀ t,acc.head? = some t→leP q t∨0≤trn t p q) →
  (uA p acc≠[]∧(∀ x∈uA p acc,x∈S)∧(uA p acc).Pairwise (fun a b=>ltP b a)∧(∀ q∈S,uU q (uA p acc))∧jV (uA p acc) ∧
   (∀ q∈S,∀ t,(uA p acc).getLast? = some t→leP t q)∧(∀ q∈S,∀ t,(uA p acc).head? = some t→0≤trn t p q)∧∀ t s r,uA p acc=t::s::r→0<zH (subP t s) (subP p t))
 | [],h,_,_,_,_,_,_=>absurd rfl h
 | [t],h,hs,hd,hl,ht,hb,hh=>by
  refine⟨h,hs,hd,hl,ht,hb,fun q hq t' e=>?_,fun t' s r e=>by cases e⟩;obtain rfl:t=t':=Option.some.inj e;rcases hh q hq t rfl with h1 | h1
  ·obtain rfl:=jD h1 (hb q hq t rfl);unfold trn zH subP;simp only;grind
  ·exact h1
 | t::s::r,h,hs,hd,hl,ht,hb,hh=>by
  have a1:ltP s t:=(zav.1 hd).1 s (by simp);have tS:=hs t (by simp);have sS:=hs s (by simp);by_cases c:zH (subP t s) (subP p t)≤0
  ·rw[uA,if_pos c];refine zZ4 hp (s::r) (by simp) (fun x hx=>hs x (zbE _ hx)) (zav.1 hd).2 (fun q hq=>(hl q hq).2) ?_ (fun q hq u e=>hb q hq u (by rw[List.getLast?_cons_cons];exact e)) fun q hq u e=>?_
   ·cases r with
    | nil=>trivial
    | cons u r=>exact ht.2
   ·obtain rfl:s=u:=Option.some.inj e;rcases le_or_lt q s with h1 | h1
    ·exact .inl h1
    ·refine .inr ?_;have k1:0≤zH (subP t s) (subP q s):=(hl q hq).1;have k2:0≤zH (subP p s) (subP t s):=by unfold zH subP at *; simp only at *; grind
     exact rF (lexP.le (hp s sS)) a1 (lexP.le h1) k2 k1
  ·rw[uA,if_neg c];have c':0<zH (subP t s) (subP p t):=by grind
   refine⟨h,hs,hd,hl,ht,hb,fun q hq u e=>?_,fun t' s' r' e=>by injection e with e1 e2;injection e2 with e2 e3;subst e1 e2;exact c'⟩;obtain rfl:t=u:=Option.some.inj e;rcases hh q hq t rfl with h1 | h1
   ·have k1:0≤zH (subP t s) (subP q s):=(hl q hq).1;have k2:0≤zH (subP t q) (subP t s):=by unfold zH subP at *; simp only at *; grind
    have k3:=rF (fX.1 h1) a1 (lexP.le (hp t tS)) k2 (zaZ c');unfold trn zH subP at *; simp only at *; grind
   ·exact h1
theorem cW {a b c:P2}(h:leP a b)(k:ltP b c):ltP a c:=by
 refine zK1 (jT h k.le) fun e=>?_;subst e;exact k.ne (jD k.le h)
theorem ch_step {S acc:List P2}{p:P2}(h:ChOk S acc)(hp:∀ q∈S,ltP q p):ChOk (S++[p]) (p::uA p acc):=by
 obtain⟨d1,d2,d3,d4,d5,d6,d7,d8⟩:=zZ4 hp acc h.ne h.sub h.dec h.lef h.trs h.bot fun q hq t e => .inl (h.top q hq t e);generalize uA p acc=D at *;have hS:∀ {q},q∈S++[p]→q∈S∨q=p:=fun hq=>by simpa using hq
 obtain⟨t,D',rfl⟩:=zcb d1;have tS:=d2 t (by simp);have hw:lexP (subP p t):=hp t tS;refine⟨fun x hx=>?_,zav.2 ⟨fun x hx=>hp x (d2 x hx),d3⟩,fun q hq u e=>?_,fun q hq u e=>?_,fun q hq=>?_,?_,by simp⟩
 ·rcases zad.1 hx with rfl | hx
  ·simp
  ·exact zbJ _ (d2 x hx)
 ·obtain rfl:p=u:=Option.some.inj e;rcases hS hq with hq | rfl
  ·exact(hp q hq).le
  ·exact jK _
 ·rw[List.getLast?_cons_cons] at e;rcases hS hq with hq | rfl
  ·exact d6 q hq u e
  ·exact jT (d6 t tS u e) (hp t tS).le
 ·rcases hS hq with hq | rfl
  ·exact⟨d7 q hq t rfl,d4 q hq⟩
  ·refine⟨by unfold trn zH;grind,zK3 _ (vY hw _ d5 d3 fun t' s r e=>?_) (d4 t tS)⟩;have e':=e;injection e' with e1 e2;subst e1;exact d8 t s r e
 ·cases D' with
  | nil=>trivial
  | cons s r=>exact⟨by rw[← mX];exact d8 t s r rfl,d5⟩
theorem yL3:∀(l S acc:List P2),ChOk S acc→(S++l).Pairwise ltP→ChOk (S++l) (xZ acc l)
 | [],S,acc,h,_=>by rw[zas];exact h
 | p::l,S,acc,h,hs=>by
  have h1:=ch_step h (p:=p) fun q hq=>(zck.1 hs).2.2 q hq p (by simp);have h2:=yL3 l (S++[p]) (p::uA p acc) h1 (by simpa using hs);simpa [xZ] using h2
theorem yS3 {l:List P2}(h:l≠[])(hs:l.Pairwise ltP):ChOk l (xZ [] l):=by
 obtain⟨p,l,rfl⟩:=zcb h;have h0:ChOk [p] [p]:=⟨fun _ h=>h,by simp,fun q hq t e=>by obtain rfl:p=t:=Option.some.inj e;rw[zak.1 hq];exact jK _,fun q hq t e=>by obtain rfl:p=t:=Option.some.inj e;rw[zak.1 hq];exact jK _,fun _ _=>trivial,trivial,by simp⟩;exact yL3 l [p] [p] h0 hs
def negP (a:P2):P2:=(-a.1,-a.2)
theorem iO (a:P2):negP (negP a)=a:=by unfold negP;rw[Prod.ext_iff];constructor<;>simp only<;>grind
theorem bP (a b c:P2):trn (negP a) (negP b) (negP c)=trn a b c:=by unfold trn zH subP negP;simp only;grind
theorem pA {a b:P2}:ltP (negP a) (negP b)↔ltP b a:=by unfold ltP lexP subP negP;simp only;grind
theorem pE {a b:P2}:leP (negP a) (negP b)↔leP b a:=by unfold leP negP;simp only;grind
theorem zM7 (p:P2):∀ l:List P2,uA (negP p) (l.map negP)=(uA p l).map negP
 | []=>rfl
 | [_]=>rfl
 | t::s::r=>by
  have e:zH (subP (negP t) (negP s)) (subP (negP p) (negP t))=zH (subP t s) (subP p t):=by rw[mX,bP,← mX]
  simp only[zaG,uA,e];split
  ·exact zM7 p (s::r)
  ·rfl
theorem tE:∀(l acc:List P2),xZ (acc.map negP) (l.map negP)=(xZ acc l).map negP
 | [],_=>rfl
 | p::l,acc=>by
  rw[zaG,xZ,xZ,zM7,← zaG];exact tE l _
theorem pD {q:P2}:∀ l:List P2,uU (negP q) (l.map negP)↔uU q l
 | [] => .rfl
 | [_] => .rfl
 | t::s::r=>by simp only[zaG,uU,bP];exact and_congr .rfl (pD (s::r))
theorem lL:∀ l:List P2,jV (l.map negP)↔jV l
 | [] => .rfl
 | [_] => .rfl
 | [_,_] => .rfl
 | u::t::s::r=>by simp only[zaG,jV,bP];exact and_congr .rfl (lL (t::s::r))
structure ChOk' (S acc:List P2):Prop where
 sub:∀ x∈acc,x∈S
 dec:acc.Pairwise fun a b=>ltP a b
 top:∀ q∈S,∀ t,acc.head? = some t→leP t q
 bot:∀ q∈S,∀ t,acc.getLast? = some t→leP q t
 lef:∀ q∈S,uU q acc
 trs:jV acc
 ne:acc≠[]
theorem ch_ok' {l:List P2}(h:l≠[])(hs:l.Pairwise ltP):ChOk' l (xZ [] l.reverse):=by
 have h1:ChOk (l.reverse.map negP) (xZ [] (l.reverse.map negP)):=yS3 (by simpa using h) (by
  rw[List.pairwise_map,List.pairwise_reverse];exact hs.imp fun h=>pA.2 h)
 rw[show xZ [] (l.reverse.map negP)=(xZ [] l.reverse).map negP from tE l.reverse []] at h1;generalize xZ [] l.reverse=acc at *;have hm:∀ {q},q∈l→negP q∈l.reverse.map negP:=fun hq=>zai.2 ⟨_,List.mem_reverse.2 hq,rfl⟩;refine⟨fun x hx=>?_,?_,fun q hq t e=>?_,fun q hq t e=>?_,fun q hq=>(pD acc).1 (h1.lef _ (hm hq)),(lL acc).1 h1.trs,fun c=>h1.ne (by rw[c];rfl)⟩
 ·obtain⟨y,hy,e⟩:=zai.1 (h1.sub (negP x) (zai.2 ⟨x,hx,rfl⟩));have:=congrArg negP e;rw[iO,iO] at this;rw[← this];exact List.mem_reverse.1 hy
 ·have:=h1.dec;rw[List.pairwise_map] at this;exact this.imp fun h=>pA.1 h
 ·exact pE.1 (h1.top _ (hm hq) _ (by rw[List.head?_map,e];rfl))
 ·exact pE.1 (h1.bot _ (hm hq) _ (by rw[List.getLast?_map,e];rfl))
abbrev gp (h:List P2)(i:Nat):P2:=h.getD i (0,0)
abbrev nx (h:List P2)(i:Nat):P2:=gp h ((i+1)%h.length)
theorem jH {h:List P2}{i:Nat}(hi:i<h.length):gp h i∈h:=by
 unfold gp;rw[List.getD_eq_getElem?_getD,List.getElem?_eq_getElem hi];exact List.getElem_mem hi
theorem fW {h:List P2}{c:P2}(hc:c∈h):∃ i,i<h.length∧gp h i=c:=by
 obtain⟨i,hi,rfl⟩:=zbg.1 hc;exact⟨i,hi,by unfold gp;rw[List.getD_eq_getElem?_getD,List.getElem?_eq_getElem hi];rfl⟩
theorem nodup_inj {α:Type}{l:List α}(nd:l.Nodup){i k:Nat}(hi:i<l.length)(hk:k<l.length)(e:l[i]=l[k]):i=k:=by
 rcases zcy i k with c | c | c
 ·exact absurd e (zcK.1 nd i k hi hk c)
 ·exact c
 ·exact absurd e.symm (zcK.1 nd k i hk hi c)
theorem yE7 (a b:Rat):a<b∨b≤a:=by grind
theorem cI {h:List P2}(nd:h.Nodup){i k:Nat}(hi:i<h.length)(hk:k<h.length)(e:gp h i=gp h k):i=k:=by
 unfold gp at e;rw[zah,zah,zag hi,zag hk] at e;exact nodup_inj nd hi hk e
theorem eU {n i:Nat}(h:i<n):∃ p,p<n∧(p+1)%n=i:=by
 rcases zbi i with rfl | c
 ·exact⟨n-1,by omega,by rw[show n-1+1=n by omega];exact zbs n⟩
 ·exact⟨i-1,by omega,by rw[show i-1+1=i by omega];exact zao h⟩
theorem gI {n i:Nat}(h:i<n):(i+1)%n<n:=zaH _ (by omega)
theorem cU {n i:Nat}(h:i<n)(h2:2≤n):(i+1)%n≠i:=by
 rcases zaf (i+1) n with c | c
 ·rw[zao c];omega
 ·rw[show i+1=n by omega,zbs];omega
theorem dV {c n x:P2}(h:trn c n x=0)(k:c≠n):∃ t:Rat,x.1=c.1+t*(n.1-c.1)∧x.2=c.2+t*(n.2-c.2):=by
 unfold trn zH subP at h;simp only at h;by_cases e:n.1-c.1=0
 ·have e2:n.2-c.2≠0:=fun e2=>k (zbd.2 ⟨by grind,by grind⟩);refine⟨(x.2-c.2)/(n.2-c.2),?_,?_⟩
  ·have:(n.2-c.2)*(x.1-c.1)=0:=by rw[e] at h;grind
   rcases zbn.1 this with h1 | h1
   ·exact absurd h1 e2
   ·rw[e];grind
  ·rw[zcE e2];grind
 ·refine⟨(x.1-c.1)/(n.1-c.1),?_,?_⟩
  ·rw[zcE e];grind
  ·have:(n.1-c.1)*(x.2-c.2)=(n.1-c.1)*((x.1-c.1)/(n.1-c.1)*(n.2-c.2)):=by
    have e3:=zcE (a:=x.1-c.1) e;have e4:(n.1-c.1)*((x.1-c.1)/(n.1-c.1)*(n.2-c.2))=((x.1-c.1)/(n.1-c.1)*(n.1-c.1))*(n.2-c.2):=by grind
    rw[e4,e3];grind
   have h2:(n.1-c.1)*((x.2-c.2)-(x.1-c.1)/(n.1-c.1)*(n.2-c.2))=0:=by grind
   rcases zbn.1 h2 with h1 | h1
   ·exact absurd h1 e
   ·grind
structure Poly (h:List P2):Prop where
 fst:∀ c∈h,leP (gp h 0) c
 nd:h.Nodup
 conv:3≤h.length→∀ i k,i<h.length→k<h.length→k≠i→k≠(i+1)%h.length→0<trn (gp h i) (nx h i) (gp h k)
def Sup (h:List P2)(q:P2):Prop:=∀ u v:Rat,∃ c∈h,u*q.1+v*q.2≤u*c.1+v*c.2
theorem dJ {h:List P2}{c:P2}(hc:c∈h):Sup h c:=fun u v=>⟨c,hc,zaM⟩
theorem rH {h h':List P2}{q:P2}(k:∀ c∈h,Sup h' c)(hq:Sup h q):Sup h' q:=fun u v=>by
 obtain⟨c,hc,h1⟩:=hq u v;obtain⟨d,hd,h2⟩:=k c hc u v;exact⟨d,hd,Rat.le_trans h1 h2⟩
theorem jR {h:List P2}{s t q:P2}(hl:∀ c∈h,0≤trn s t c)(hq:Sup h q):0≤trn s t q:=by
 obtain⟨c,hc,h1⟩:=hq (t.2-s.2) (-(t.1-s.1));have h2:=hl c hc;unfold trn zH subP at *; simp only at *; grind
theorem yG6 (u v:Rat):∀ {h:List P2},h≠[]→∃ c∈h,∀ x∈h,u*x.1+v*x.2≤u*c.1+v*c.2
 | [c],_=>⟨c,by simp,fun x hx=>by rw[zak.1 hx];exact zaM⟩
 | c::d::r,_=>by
  obtain⟨m,hm,k⟩:=yG6 u v (h:=d::r) (by simp);by_cases e:u*c.1+v*c.2≤u*m.1+v*m.2
  ·exact⟨m,zbE _ hm,fun x hx=>by
    rcases zad.1 hx with rfl | hx
    ·exact e
    ·exact k x hx⟩
  ·exact⟨c,by simp,fun x hx=>by
    rcases zad.1 hx with rfl | hx
    ·exact zaM
    ·have:=k x hx;grind⟩
theorem Poly.weak {h:List P2}(p:Poly h){i:Nat}(hi:i<h.length)(h3:3≤h.length):∀ c∈h,0≤trn (gp h i) (nx h i) c:=fun c hc=>by
 obtain⟨k,hk,rfl⟩:=fW hc;by_cases e1:k=i
 ·subst e1;unfold trn zH subP;simp only;grind
 by_cases e2:k=(i+1)%h.length
 ·rw[e2];unfold trn zH subP;simp only;grind
 exact zaZ (p.conv h3 i k hi hk e1 e2)
theorem sup_of_left {h:List P2}{q:P2}(p:Poly h)(h3:3≤h.length)(hq:∀ i,i<h.length→0≤trn (gp h i) (nx h i) q):Sup h q:=fun u v=>by
 obtain⟨c,hc,hm⟩:=yG6 u v (h:=h) (by intro e;rw[e] at h3;simp at h3);refine⟨c,hc,?_⟩;obtain⟨i,hi,rfl⟩:=fW hc;obtain⟨j,hj,e⟩:=eU hi;have k1:=hq i hi;have k2:=hq j hj;have hne:j≠(i+1)%h.length:=fun e2=>by
  have h5:=cU hi (by omega);have h6:(j+1)%h.length=i:=e;rw[e2] at h6;rcases zaf (i+1) h.length with c | c
  ·rw[zao c] at h6;rcases zaf (i+1+1) h.length with d | d
   ·rw[zao d] at h6;omega
   ·rw[show i+1+1=h.length by omega,zbs] at h6;omega
  ·rw[show i+1=h.length by omega,zbs,zao (by omega)] at h6;omega
 have k3:=p.conv h3 i j hi hj (fun e2=>cU hj (by omega) (e.trans e2.symm)) hne;have m1:=hm _ (jH hj);have m2:=hm _ (jH (gI hi));unfold nx at k1 k2 k3;rw[e] at k2;generalize gp h i=c at *;generalize gp h ((i+1)%h.length)=n at *;generalize gp h j=r at *;have e1:trn c n r*(u*(q.1-c.1)+v*(q.2-c.2))=(u*(n.1-c.1)+v*(n.2-c.2))*trn r c q+(u*(r.1-c.1)+v*(r.2-c.2))*trn c n q:=by unfold trn zH subP;simp only;grind
 have a1:0 ≤ -(u*(n.1-c.1)+v*(n.2-c.2)):=by grind
 have a2:0 ≤ -(u*(r.1-c.1)+v*(r.2-c.2)):=by grind
 have b1:=zaI a1 k2;have b2:=zaI a2 k1;have:0≤trn c n r * -(u*(q.1-c.1)+v*(q.2-c.2)):=by grind
 have:=aQ k3 this;grind
theorem conv_of {h:List P2}(nd:h.Nodup)(h3:3≤h.length)(hl:∀ i k,i<h.length→k<h.length→0≤trn (gp h i) (nx h i) (gp h k))(ht:∀ i,i<h.length→0<trn (gp h i) (nx h i) (nx h ((i+1)%h.length))) :
  ∀ i k,i<h.length→k<h.length→k≠i→k≠(i+1)%h.length→0<trn (gp h i) (nx h i) (gp h k):=fun i k hi hk n1 n2=>by
 have h0:=hl i k hi hk;refine Classical.byContradiction fun hz=>?_;have hz:trn (gp h i) (nx h i) (gp h k)=0:=by grind
 have cn:gp h i≠nx h i:=fun e=>cU hi (by omega) (cI nd hi (gI hi) e).symm;obtain⟨t,e1,e2⟩:=dV hz cn;have xc:gp h k≠gp h i:=fun e=>n1 (cI nd hk hi e);have xn:gp h k≠nx h i:=fun e=>n2 (cI nd hk (gI hi) e);obtain⟨j,hj,ej⟩:=eU hi;obtain⟨l,hl',el⟩:=eU hk;have w1:=hl ((i+1)%h.length) k (gI hi) hk;have s1:=ht i hi;have w2:=hl j k hj hk;have s2:=ht j hj;have w3:=hl k i hk hi;have w4:=hl k _ hk (gI hi);have w5:=hl l i hl' hi;have w6:=hl l _ hl' (gI hi);have s3:=ht l hl';unfold nx at *;rw[ej] at w2 s2;rw[el] at w5 w6 s3;generalize gp h i=c at *;generalize gp h ((i+1)%h.length)=n at *;generalize gp h k=x at *;generalize gp h j=r at *;generalize gp h l=z at *;generalize gp h ((((i+1)%h.length)+1)%h.length)=m at *;generalize gp h ((k+1)%h.length)=y at *;rcases yE7 1 t with ht1 | ht1
 ·have e:trn n m x = -((t-1)*trn c n m):=by unfold trn zH subP;simp only;rw[e1,e2];grind
  have:=zaK (show 0<t-1 by grind) s1;grind
 rcases yE7 t 0 with ht0 | ht0
 ·have e:trn r c x=t*trn r c n:=by unfold trn zH subP;simp only;rw[e1,e2];grind
  have:=zaK (show 0 < -t by grind) s2;grind
 have zA0:0<t:=by
  refine Classical.byContradiction fun c0=>xc ?_;have:t=0:=by grind
  rw[zbd,e1,e2,this];constructor<;>grind
 have zA1:0<1-t:=by
  refine Classical.byContradiction fun c0=>xn ?_;have:t=1:=by grind
  rw[zbd,e1,e2,this];constructor<;>grind
 have g1:trn x y c=t * -zH (subP y x) (subP n c):=by unfold trn zH subP;simp only;rw[e1,e2];grind
 have g2:trn x y n=(1-t)*zH (subP y x) (subP n c):=by unfold trn zH subP;simp only;rw[e1,e2];grind
 have g3:trn z x c=t * -zH (subP x z) (subP n c):=by unfold trn zH subP;simp only;rw[e1,e2];grind
 have g4:trn z x n=(1-t)*zH (subP x z) (subP n c):=by unfold trn zH subP;simp only;rw[e1,e2];grind
 have f1:=aQ zA0 (g1 ▸ w3);have f2:=aQ zA1 (g2 ▸ w4);have f3:=aQ zA0 (g3 ▸ w5);have f4:=aQ zA1 (g4 ▸ w6);have z1:zH (subP y x) (subP n c)=0:=by grind
 have z2:zH (subP x z) (subP n c)=0:=by grind
 have z3:∀ k:Rat,(n.1-c.1=0→n.2-c.2=0→False)→k*(n.1-c.1)=0→k*(n.2-c.2)=0→k=0:=fun k hh a b=>by
  rcases zbn.1 a with a | a
  ·exact a
  ·rcases zbn.1 b with b | b
   ·exact b
   ·exact(hh a b).elim
 have:trn z x y=0:=z3 _ (fun a b=>cn (Prod.ext_iff.2 ⟨by grind,by grind⟩)) (by unfold trn zH subP at *; simp only at *; grind) (by unfold trn zH subP at *; simp only at *; grind);grind
theorem zT4 {h:List P2}{q:P2}(h2:h.length=2)(hq:Sup h q):trn (gp h 0) (gp h 1) q=0:=by
 match h,h2 with
 | [a,b],_ =>
  have k1:=jR (s:=a) (t:=b) (fun c hc=>by
   rcases zad.1 hc with rfl | hc
   ·unfold trn zH subP;simp only;grind
   ·rw[List.mem_singleton.1 hc];unfold trn zH subP;simp only;grind) hq
  have k2:=jR (s:=b) (t:=a) (fun c hc=>by
   rcases zad.1 hc with rfl | hc
   ·unfold trn zH subP;simp only;grind
   ·rw[List.mem_singleton.1 hc];unfold trn zH subP;simp only;grind) hq
  show trn a b q=0;unfold trn zH subP at *; simp only at *; grind
theorem zI7 {h h':List P2}(p:Poly h)(hs:∀ c∈h,Sup h' c)(hs':∀ c∈h',Sup h c){c:P2}(hc:c∈h):c∈h':=by
 -- a way in which c alone is the furthest
 rcases zaf 2 h.length with h3 | h3
 ·obtain⟨i,hi,rfl⟩:=fW hc;obtain⟨j,hj,e⟩:=eU hi;have w1:=p.weak hi h3;have w2:=p.weak hj h3;have k3:=p.conv h3 j ((i+1)%h.length) hj (gI hi) (fun e2=>by
   have h6:(j+1)%h.length=i:=e;rw[← e2] at h6;rcases zaf (i+1) h.length with c | c
   ·rw[zao c] at h6;rcases zaf (i+1+1) h.length with d | d
    ·rw[zao d] at h6;omega
    ·rw[show i+1+1=h.length by omega,zbs] at h6;omega
   ·rw[show i+1=h.length by omega,zbs,zao (by omega)] at h6;omega) (by rw[e];exact cU hi (by omega))
  unfold nx at *;rw[e] at w2 k3;have hs0:=hs _ hc;generalize gp h i=c at *;generalize gp h ((i+1)%h.length)=n at *;generalize gp h j=r at *;obtain⟨q,hq,h1⟩:=hs0 ((n.2-c.2)+(c.2-r.2)) (-((n.1-c.1)+(c.1-r.1)));have b1:=jR w1 (hs' q hq);have b2:=jR w2 (hs' q hq);have z1:trn c n q=0:=by unfold trn zH subP at *; simp only at *; grind
  have z2:trn r c q=0:=by unfold trn zH subP at *; simp only at *; grind
  have e1:trn r c n*(q.1-c.1)=0:=by unfold trn zH subP at *; simp only at *; grind
  have e2:trn r c n*(q.2-c.2)=0:=by unfold trn zH subP at *; simp only at *; grind
  have:q=c:=by
   rcases zbn.1 e1 with f | f
   ·grind
   rcases zbn.1 e2 with g | g
   ·grind
   exact zbd.2 ⟨by grind,by grind⟩
  exact this ▸ hq
 ·match h,p,hc,hs,hs',h3 with
  | [a],p,hc,hs,hs',_ =>
   obtain rfl:=zak.1 hc;obtain⟨q,hq,_⟩:=hs c (by simp) 0 0;have hS:=hs' q hq;have g:∀ u v:Rat,u*q.1+v*q.2≤u*c.1+v*c.2:=fun u v=>by
    obtain⟨x,hx,h1⟩:=hS u v;rw[zak.1 hx] at h1;exact h1
   have g1:=g 1 0;have g2:=g (-1) 0;have g3:=g 0 1;have g4:=g 0 (-1);have:q=c:=zbd.2 ⟨by grind,by grind⟩;exact this ▸ hq
  | [a,b],p,hc,hs,hs',_ =>
   have hab:a≠b:=by have:=p.nd;simp at this;exact this
   have hz:=fun q hq=>zT4 rfl (hs' q hq);simp only[gp,List.getD_cons_zero,List.getD_cons_succ] at hz;have key:∀ c d:P2,c≠d→(∀ x∈[a,b],x=c∨x=d)→c∈[a,b]→(∀ q∈h',trn c d q=0)→c∈h':=fun c d hcd hx hc hz=>by
    have hd:0<(c.1-d.1)*(c.1-d.1)+(c.2-d.2)*(c.2-d.2):=by
     have s1:∀ x:Rat,0≤x*x:=fun x=>by
      rcases (Rat.le_total:0≤x∨x≤0) with hx | hx
      ·exact zaI hx hx
      ·have:=zaI (show 0 ≤ -x by grind) (show 0 ≤ -x by grind);grind
     have s2:=s1 (c.1-d.1);have s3:=s1 (c.2-d.2);refine Classical.byContradiction fun c0=>hcd ?_;have z1:(c.1-d.1)*(c.1-d.1)=0:=by grind
     have z2:(c.2-d.2)*(c.2-d.2)=0:=by grind
     exact zbd.2 ⟨by rcases zbn.1 z1 with h | h<;>grind,by rcases zbn.1 z2 with h | h<;>grind⟩
    obtain⟨q,hq,h1⟩:=hs c hc (c.1-d.1) (c.2-d.2);obtain⟨x,hx',h2⟩:=hs' q hq (c.1-d.1) (c.2-d.2);have h3:(c.1-d.1)*q.1+(c.2-d.2)*q.2≤(c.1-d.1)*c.1+(c.2-d.2)*c.2:=by
     rcases hx x hx' with rfl | rfl<;>grind
    obtain⟨t,e1,e2⟩:=dV (hz q hq) hcd;rw[e1,e2] at h1 h3;have z:t*((c.1-d.1)*(c.1-d.1)+(c.2-d.2)*(c.2-d.2))=0:=by grind
    have:q=c:=by
     rcases zbn.1 z with z | z
     ·exact zbd.2 ⟨by rw[e1,z];grind,by rw[e2,z];grind⟩
     ·grind
    exact this ▸ hq
   rcases zad.1 hc with rfl | hc
   ·exact key c b hab (fun x hx=>by simpa using hx) (by simp) hz
   ·obtain rfl:=zak.1 hc;exact key c a (Ne.symm hab) (fun x hx=>by simp at hx;exact hx.symm) (by simp) fun q hq=>by
     have:=hz q hq;unfold trn zH subP at *; simp only at *; grind
theorem len_eq {h h':List P2}(nd:h.Nodup)(nd':h'.Nodup)(e:∀ c,c∈h↔c∈h'):h.length=h'.length :=
 Nat.le_antisymm (bE nd fun x hx=>(e x).1 hx) (bE nd' fun x hx=>(e x).2 hx)
theorem poly_uniq {h h':List P2}(p:Poly h)(p':Poly h')(hs:∀ c∈h,Sup h' c)(hs':∀ c∈h',Sup h c):h=h':=by
 have e:∀ c,c∈h↔c∈h':=fun c=>⟨zI7 p hs hs',zI7 p' hs' hs⟩;have hl:=len_eq p.nd p'.nd e;have h0:0<h.length→gp h 0=gp h' 0:=fun k=>jD (p.fst _ ((e _).2 (jH (by omega)))) (p'.fst _ ((e _).1 (jH k)));have hi:∀ i,i<h.length→gp h i=gp h' i:=fun i=>by
  induction i with
  | zero=>exact h0
  | succ i ih =>
   intro hi;have ei:=ih (by omega);rcases zaf 2 h.length with h3 | h3
   ·obtain⟨k,hk,ek⟩:=fW ((e _).1 (jH hi));have w:=p.weak (i:=i) (by omega) h3 _ ((e _).2 (jH (h:=h') (i:=i+1) (by omega)));have m1:(i+1)%h.length=i+1:=zao hi;have m2:(i+1)%h'.length=i+1:=zao (by omega);by_cases c1:k=i+1
    ·rw[← ek,c1]
    ·have c2:k≠i:=fun c=>by
      have:=cI p.nd hi (show i<h.length by omega) (by rw[ei,← ek,c]);omega
     have s:=p'.conv (by omega) i k (by omega) hk c2 (by rw[m2];exact c1);unfold nx at w s;rw[m1] at w;rw[m2,ek,← ei] at s;unfold trn zH subP at *; simp only at *; grind
   ·obtain⟨k,hk,ek⟩:=fW ((e _).1 (jH hi));have c2:k≠i:=fun c=>by
     have:=cI p.nd hi (show i<h.length by omega) (by rw[ei,← ek,c]);omega
    rw[← ek,show k=i+1 by omega]
 refine List.ext_getElem hl fun i h1 h2=>?_;have:=hi i h1;unfold gp at this;rw[zah,zah,zag h1,zag h2] at this;exact this
structure IsHull (l h:List P2):Prop where
 poly:Poly h
 sub:∀ c∈h,c∈l
 sup:∀ q∈l,Sup h q
theorem hull_uniq {l l' h h':List P2}(a:IsHull l h)(b:IsHull l' h')(e1:∀ q∈l,Sup l' q)(e2:∀ q∈l',Sup l q):h=h' :=
 poly_uniq a.poly b.poly (fun c hc=>rH b.sup (e1 c (a.sub c hc))) fun c hc=>rH a.sup (e2 c (b.sub c hc))
end Go.SL
